/- Package rating: bounds of a flow. -/
import Derived.Test.YtoihhodbkimedaaRatH
set_option linter.unusedVariables false
set_option linter.unusedSimpArgs false
namespace Go.Bal
open Go Go.Sym Go.Proofs
def VT (l : List Ln) (t : Int) : Bnd := bif decide (l.length = 0) then default else ⟨BI (LM PW t l) t, BI (LM PV t l) t⟩
def dBkt : List AVal -> Heap -> Option (BkT × List (Nat × Nat) × List Nat)
 | [.bptr id _, .d t], H => match BCA H id with
  | some (w, q) => some (⟨w, DK t⟩, [(100, id), (101, q)], [])
  | none => none
 | _, _ => none
def C_bnd : Ctr := { ro := [100], α := BkT, xs := λ a => [.bptr 100 0, .int a.st], L := λ a => bkL a.w, val := λ a => .tup [.d (eBnd (VT (lB a) a.st)), .bool (decide ((lB a).length ≠ 0))], keep := λ a => bkK (CK a.w (kB a)), pre := λ a => [HI a.w.g a.w.b /\ 0 <= a.st /\ a.st <= 2000] }
def CJK : Ann := { ann 36 [(BOS, C_less.spec d0), (BPB, C_more.spec d0), (BCL, orS ((KR PW HH).spec (dBkT HH)) ((KR PV HG).spec (dBkT HG))), (AFZ, BPF)] with E := [100, 101] }
def CIL (a : BkT) : Prop := AY Try.prog CJK AVY (AF AVY) (C_bnd.xs a) (AC (C_bnd.L a)) (C_bnd.val a) (C_bnd.keep a) [] []
abbrev Uk (a : BkT) : List Gau := AD a.w.g.length λ (i : Nat) => gD a.w.g i
abbrev AFY (a : BkT) : Nat := (Uk a).length
abbrev BIL (a : BkT) : Prop := AFY a = a.w.g.length
abbrev AGN (a : BkT) (i : Nat) : Gau := gD (Uk a) i
abbrev BGS (a : BkT) : Prop := ∀ (i : Nat), i < AFY a -> (AGN a i).st = (gD a.w.g i).st /\ (AGN a i).lo = (gD a.w.g i).lo /\ (AGN a i).hi = (gD a.w.g i).hi
abbrev Dj (a : BkT) : List Int := AD a.w.b.length λ (i : Nat) => gD a.w.b i
abbrev AGH (a : BkT) : Nat := (Dj a).length
abbrev BCN (a : BkT) : Prop := AGH a = a.w.b.length
abbrev BCP (a : BkT) : Prop := ∀ (i : Nat), i < AGH a -> gD (Dj a) i = gD a.w.b i
abbrev BFD : Value := Value.slice none 0 0
abbrev rV : Prop := BFD = BFD
abbrev wW (a : BkT) : Bk := Bk.mk (Uk a) (Dj a) a.w.has a.w.st
abbrev AJG (a : BkT) (n : Int) : List Ln := AK (wW a) n
abbrev AOG (a : BkT) (n : Int) : Nat := (AJG a n).length
abbrev Lm (a : BkT) (n : Int) (i : Nat) : Ln := gD (AJG a n) i
abbrev AWL (a : BkT) : BkT := BkT.mk (wW a) a.st
abbrev PM (a : BkT) : Bk := CK (wW a) (kB (AWL a))
abbrev AWC (a : BkT) : List Gau := (PM a).g
abbrev sJ (a : BkT) (i : Nat) : Gau := gD (AWC a) i
abbrev AZJ (a : BkT) : List Int := (PM a).b
abbrev rZ (a : BkT) : Prop := 0 <= a.st /\ a.st <= 2000
abbrev AYK (a : BkT) : Prop := (AFY a <= 24 /\ (∀ (x : Gau), List.Mem x (Uk a) -> 0 <= x.st /\ x.st <= 2000 /\ 0 <= x.lo /\ x.lo <= x.hi /\ x.hi <= 200000) /\ AGH a <= 24 /\ List.Pairwise (λ (x1 x2 : Int) => x1 <
 x2) (Dj a) /\ ∀ (x : Int), List.Mem x (Dj a) -> 1 <= x /\ x <= 2000) /\ rZ a
abbrev ARH (a : BkT) (n : Int) : Bool := (PM a).has n
abbrev AKC (a : BkT) (n : Int) : Int := (PM a).st n
abbrev wN (a : BkT) : Bk := Bk.mk (Uk a) (Dj a) (PM a).has (PM a).st
abbrev AXX (a : BkT) (n : Int) : List Ln := AK (wN a) n
abbrev AXS (a : BkT) (n : Int) : Nat := (AXX a n).length
abbrev AOP (a : BkT) (n : Int) : List Ln := AK (PM a) n
abbrev Jk (a : BkT) (n : Int) (i : Nat) : Ln := gD (AXX a n) i
abbrev Nc (a : BkT) (n : Int) (i : Nat) : Ln := gD (AOP a n) i
abbrev AMX (a : BkT) : BkT := BkT.mk (wN a) a.st
abbrev XC (a : BkT) : Bk := CK (wN a) (kB (AMX a))
abbrev AJL (a : BkT) : List Gau := (XC a).g
abbrev tI (a : BkT) (i : Nat) : Gau := gD (AJL a) i
abbrev ALG (a : BkT) : List Int := (XC a).b
abbrev AWD (a : BkT) : List Ln := lB (AWL a)
abbrev AUP (a : BkT) : Nat := (AWD a).length
abbrev ANM (a : BkT) : Bool := decide ((lB a).length ≠ 0)
abbrev pN (a : BkT) (i : Nat) : Gau := gD (CK a.w (kB a)).g i
abbrev ALZ (a : BkT) (n : Int) : List Ln := AK (XC a) n
abbrev Md (a : BkT) (n : Int) (i : Nat) : Ln := gD (AK (CK a.w (kB a)) n) i
abbrev Kx (a : BkT) (n : Int) (i : Nat) : Ln := gD (ALZ a n) i
abbrev AQK (a : BkT) : Prop := (CK a.w (kB a)).g.length = a.w.g.length /\ (∀ (i : Nat), i < (CK a.w (kB a)).g.length -> (pN a i).st = (gD a.w.g i).st /\ (pN a i).lo = (gD a.w.g i).lo /\ (pN a i).hi =
 (gD a.w.g i).hi) /\ (CK a.w (kB a)).b.length = a.w.b.length /\ (∀ (i : Nat), i < (CK a.w (kB a)).b.length -> gD (CK a.w (kB a)).b i = gD a.w.b i) /\ rV /\ (∀ (n : Int), (CK a.w (kB a)).has n = (XC a).has n) /\
 (∀ (n : Int), (CK a.w (kB a)).st n = (XC a).st n) /\ ∀ (n : Int), (AK (CK a.w (kB a)) n).length = (ALZ a n).length /\ ∀ (i : Nat), i < (AK (CK a.w (kB a)) n).length -> (Md a n i).a0 = (Kx a n
 i).a0 /\ (Md a n i).a1 = (Kx a n i).a1 /\ (Md a n i).b0 = (Kx a n i).b0 /\ (Md a n i).b1 = (Kx a n i).b1
abbrev AUH (a : BkT) : Prop := AUP a = 0
abbrev AVX (a : BkT) : Ln := LM PW a.st (AWD a)
abbrev Ku (a : BkT) : Ln := bif decide (AUH a) then default else AVX a
abbrev AQN (a : BkT) : Int := (Ku a).a0
abbrev AMV (a : BkT) : Int := (Ku a).b0
abbrev APM (a : BkT) : Int := (Ku a).a1
abbrev AUA (a : BkT) : Int := (Ku a).b1
abbrev AQA (a : BkT) : List Ln := lB (AMX a)
abbrev AYB (a : BkT) : Prop := (AQA a).length = 0
abbrev AXZ (a : BkT) : Ln := LM PV a.st (AQA a)
abbrev Lb (a : BkT) : Ln := bif decide (AYB a) then default else AXZ a
abbrev APZ (a : BkT) : Int := (Lb a).a0
abbrev AYX (a : BkT) : Int := (Lb a).b0
abbrev AQR (a : BkT) : Int := (Lb a).a1
abbrev ASX (a : BkT) : Int := (Lb a).b1
abbrev AUI (a : BkT) : Rt := BI (bif decide (AUH a) then default else AVX a) a.st
abbrev AUB (a : BkT) : Rt := BI (bif decide (AYB a) then default else AXZ a) a.st
theorem CKL (a : BkT) : (CIL a) = ((a.st = a.st /\ BIL a /\ BGS a /\ BCN a /\ BCP a /\ rV /\ (∀ (n : Int), a.w.has n = a.w.has n) /\ (∀ (n : Int), a.w.st n = a.w.st n) /\ (∀ (n : Int), AOG a n =
 (AK a.w n).length /\ ∀ (i : Nat), i < AOG a n -> (Lm a n i).a0 = (gD (AK a.w n) i).a0 /\ (Lm a n i).a1 = (gD (AK a.w n) i).a1 /\ (Lm a n i).b0 = (gD (AK a.w n) i).b0 /\ (Lm a n i).b1 = (gD
 (AK a.w n) i).b1) /\ a.w.g.length = (AWC a).length /\ (∀ (i : Nat), i < a.w.g.length -> (gD a.w.g i).st = (sJ a i).st /\ (gD a.w.g i).lo = (sJ a i).lo /\ (gD a.w.g i).hi = (sJ a i).hi) /\ a.w.b.length =
 (AZJ a).length /\ (∀ (i : Nat), i < a.w.b.length -> gD a.w.b i = gD (AZJ a) i) /\ AYK a) /\ (a.st = a.st /\ BIL a /\ BGS a /\ BCN a /\ BCP a /\ rV /\ (∀ (n : Int), ARH a n = ARH a n)
 /\ (∀ (n : Int), AKC a n = AKC a n) /\ (∀ (n : Int), AXS a n = (AOP a n).length /\ ∀ (i : Nat), i < AXS a n -> (Jk a n i).a0 = (Nc a n i).a0 /\ (Jk a n i).a1 = (Nc a n i).a1 /\
 (Jk a n i).b0 = (Nc a n i).b0 /\ (Jk a n i).b1 = (Nc a n i).b1) /\ a.w.g.length = (AJL a).length /\ (∀ (i : Nat), i < a.w.g.length -> (gD a.w.g i).st = (tI a i).st /\ (gD a.w.g i).lo =
 (tI a i).lo /\ (gD a.w.g i).hi = (tI a i).hi) /\ a.w.b.length = (ALG a).length /\ (∀ (i : Nat), i < a.w.b.length -> gD a.w.b i = gD (ALG a) i) /\ AYK a) /\ bif !decide (AUP a ≠ 0) then (VT (lB
 a) a.st).lo.n = 0 /\ (VT (lB a) a.st).lo.d = 0 /\ (VT (lB a) a.st).hi.n = 0 /\ (VT (lB a) a.st).hi.d = 0 /\ ANM a = false /\ AQK a else ((0 <= AQN a /\ AQN a < AMV a /\ AMV a <= 2000 /\ 0 <=
 APM a /\ APM a <= AUA a /\ AUA a <= 200000) /\ rZ a /\ (0 <= APZ a /\ APZ a < AYX a /\ AYX a <= 2000 /\ 0 <= AQR a /\ AQR a <= ASX a /\ ASX a <= 200000) /\ rZ a) /\
 (VT (lB a) a.st).lo.n = (AUI a).n /\ (VT (lB a) a.st).lo.d = (AUI a).d /\ (VT (lB a) a.st).hi.n = (AUB a).n /\ (VT (lB a) a.st).hi.d = (AUB a).d /\ ANM a = true /\ AQK a) := by kernel_rfl
theorem BUI (w : Bk) (k : Int) : CK (CK w k) k = CK w k := TC (by show GX w.has k k = true; simp [GX])
theorem OR (a : BkT) : BkT.mk a.w a.st = a := rfl
theorem OO (w : Bk) (k : Int) : Bk.mk w.g w.b (CK w k).has (CK w k).st = CK w k := rfl
theorem Vi (w : Bk) (k : Int) : (CK w k).g = w.g := rfl
theorem Vs (w : Bk) (k : Int) : (CK w k).b = w.b := rfl
theorem CQE (a : BkT) (k : Int) : kB ⟨CK a.w k, a.st⟩ = kB a := rfl
theorem COL (a : BkT) (k : Int) : lB ⟨CK a.w k, a.st⟩ = lB a := rfl
theorem COI (a : BkT) (h : HI a.w.g a.w.b) (h2 : 0 <= a.st /\ a.st <= 2000) : CIL a := by
 rw [CKL]; delta Uk AFY BIL AGN BGS Dj AGH BCN BCP BFD rV wW AJG AOG Lm AWL PM AWC sJ AZJ rZ AYK ARH AKC wN AXX AXS AOP Jk Nc AMX XC AJL tI ALG AWD AUP ANM pN ALZ Md Kx AQK AUH AVX Ku AQN AMV APM AUA AQA AYB AXZ Lb APZ AYX AQR ASX AUI AUB; simp only [CC, eq_self, implies_true, forall_const, LB, OO, Vi, Vs, OR, CQE, COL, BUI, if_true]
 obtain ⟨_, hok⟩ := BWM h
 unfold VT
 refine ⟨⟨h, h2⟩, ⟨h, h2⟩, λ hc => ?_, λ hc => ?_⟩
 ·rw [decide_eq_true (show (lB a).length = 0 by omega)]
  exact ⟨rfl, rfl, rfl, rfl, hc⟩
 ·rw [decide_eq_false hc]
  have hb : ∀ lt, DS (LM lt a.st (lB a)) := λ lt => O8 ▸ AKN hok (by omega)
  exact ⟨⟨hb _, h2, hb _, h2⟩, rfl, rfl, rfl, rfl, hc⟩
theorem Zv : AG Try.prog TH (C_bnd.spec dBkt) := JX C_bnd (λ _ => CJK) [] [] BTT (λ _ => by kernel_rfl) (λ _ => AB CEK (AB CEG (AB (Y1 BZM BYB) (AB BFU AE)))) (λ (a : BkT) h => by
 have h : HI a.w.g a.w.b /\ 0 <= a.st /\ a.st <= 2000 := h
 exact COI a h.1 h.2) (λ _ => KJ rfl rfl) _
end Go.Bal
