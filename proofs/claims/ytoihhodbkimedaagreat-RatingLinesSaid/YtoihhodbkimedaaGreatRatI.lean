/- Package rating: bounds of a flow. -/
import Derived.Test.YtoihhodbkimedaaGreatRatH
set_option linter.unusedVariables false
set_option linter.unusedSimpArgs false
namespace Go.Bal
open Go Go.Sym Go.Proofs
def ZN (l : List Ln) (t : Int) : Bnd := bif decide (l.length = 0) then default else ⟨FW (Rn SS t l) t, FW (Rn SZ t l) t⟩
def dBkt : List AVal -> Heap -> Option (BkT × List (Nat × Nat) × List Nat)
 | [.bptr id _, .d t], H => match AKG H id with
  | some (w, q) => some (⟨w, CT t⟩, [(100, id), (101, q)], [])
  | none => none
 | _, _ => none
def C_bnd : Ctr := { ro := [100], α := BkT, xs := λ a => [.bptr 100 0, .int a.st], L := λ a => bkL a.w, val := λ a => .tup [.d (eBnd (ZN (lB a) a.st)), .bool (decide ((lB a).length ≠ 0))], keep := λ a => bkK (BY a.w (kB a)), pre := λ a => [GP a.w.g a.w.b /\ 0 <= a.st /\ a.st <= 2000] }
def BSD : Ann := { ann 36 [(AVS, C_less.spec d0), (AWZ, C_more.spec d0), (APM, orS ((JQ SS GF).spec (dBkT GF)) ((JQ SZ GH).spec (dBkT GH))), (Nq, AYY)] with E := [100, 101] }
def BQY (a : BkT) : Prop := AO Try.prog BSD AAO (AF AAO) (C_bnd.xs a) (AC (C_bnd.L a)) (C_bnd.val a) (C_bnd.keep a) [] []
abbrev Lk (a : BkT) : List Gau := AD a.w.g.length λ (i : Nat) => gD a.w.g i
abbrev N1 (a : BkT) : Nat := (Lk a).length
abbrev AQW (a : BkT) : Prop := N1 a = a.w.g.length
abbrev N4 (a : BkT) (i : Nat) : Gau := gD (Lk a) i
abbrev APA (a : BkT) : Prop := ∀ (i : Nat), i < N1 a -> (N4 a i).st = (gD a.w.g i).st /\ (N4 a i).lo = (gD a.w.g i).lo /\ (N4 a i).hi = (gD a.w.g i).hi
abbrev ZZ (a : BkT) : List Int := AD a.w.b.length λ (i : Nat) => gD a.w.b i
abbrev M1 (a : BkT) : Nat := (ZZ a).length
abbrev AMM (a : BkT) : Prop := M1 a = a.w.b.length
abbrev AMK (a : BkT) : Prop := ∀ (i : Nat), i < M1 a -> gD (ZZ a) i = gD a.w.b i
abbrev AOB : Value := Value.slice none 0 0
abbrev iU : Prop := AOB = AOB
abbrev kF (a : BkT) : Bk := Bk.mk (Lk a) (ZZ a) a.w.has a.w.st
abbrev ADW (a : BkT) (n : Int) : List Ln := AI (kF a) n
abbrev ACK (a : BkT) (n : Int) : Nat := (ADW a n).length
abbrev Fg (a : BkT) (n : Int) (i : Nat) : Ln := gD (ADW a n) i
abbrev ABY (a : BkT) : BkT := BkT.mk (kF a) a.st
abbrev NF (a : BkT) : Bk := BY (kF a) (kB (ABY a))
abbrev R9 (a : BkT) : List Gau := (NF a).g
abbrev lX (a : BkT) (i : Nat) : Gau := gD (R9 a) i
abbrev AAB (a : BkT) : List Int := (NF a).b
abbrev jT (a : BkT) : Prop := 0 <= a.st /\ a.st <= 2000
abbrev Y2 (a : BkT) : Prop := (N1 a <= 24 /\ (∀ (x : Gau), List.Mem x (Lk a) -> 0 <= x.st /\ x.st <= 2000 /\ 0 <= x.lo /\ x.lo <= x.hi /\ x.hi <= 200000) /\ M1 a <= 24 /\ List.Pairwise (λ (x1 x2 : Int) => x1 <
 x2) (ZZ a) /\ ∀ (x : Int), List.Mem x (ZZ a) -> 1 <= x /\ x <= 2000) /\ jT a
abbrev ABO (a : BkT) (n : Int) : Bool := (NF a).has n
abbrev AHT (a : BkT) (n : Int) : Int := (NF a).st n
abbrev iN (a : BkT) : Bk := Bk.mk (Lk a) (ZZ a) (NF a).has (NF a).st
abbrev AEQ (a : BkT) (n : Int) : List Ln := AI (iN a) n
abbrev V1 (a : BkT) (n : Int) : Nat := (AEQ a n).length
abbrev AGH (a : BkT) (n : Int) : List Ln := AI (NF a) n
abbrev Ia (a : BkT) (n : Int) (i : Nat) : Ln := gD (AEQ a n) i
abbrev Gs (a : BkT) (n : Int) (i : Nat) : Ln := gD (AGH a n) i
abbrev ACW (a : BkT) : BkT := BkT.mk (iN a) a.st
abbrev WR (a : BkT) : Bk := BY (iN a) (kB (ACW a))
abbrev AGD (a : BkT) : List Gau := (WR a).g
abbrev jJ (a : BkT) (i : Nat) : Gau := gD (AGD a) i
abbrev AJA (a : BkT) : List Int := (WR a).b
abbrev ABX (a : BkT) : List Ln := lB (ABY a)
abbrev AFP (a : BkT) : Nat := (ABX a).length
abbrev V4 (a : BkT) : Bool := decide ((lB a).length ≠ 0)
abbrev kW (a : BkT) (i : Nat) : Gau := gD (BY a.w (kB a)).g i
abbrev AAH (a : BkT) (n : Int) : List Ln := AI (WR a) n
abbrev Kn (a : BkT) (n : Int) (i : Nat) : Ln := gD (AI (BY a.w (kB a)) n) i
abbrev Ic (a : BkT) (n : Int) (i : Nat) : Ln := gD (AAH a n) i
abbrev ACC (a : BkT) : Prop := (BY a.w (kB a)).g.length = a.w.g.length /\ (∀ (i : Nat), i < (BY a.w (kB a)).g.length -> (kW a i).st = (gD a.w.g i).st /\ (kW a i).lo = (gD a.w.g i).lo /\ (kW a i).hi =
 (gD a.w.g i).hi) /\ (BY a.w (kB a)).b.length = a.w.b.length /\ (∀ (i : Nat), i < (BY a.w (kB a)).b.length -> gD (BY a.w (kB a)).b i = gD a.w.b i) /\ iU /\ (∀ (n : Int), (BY a.w (kB a)).has n = (WR a).has n) /\
 (∀ (n : Int), (BY a.w (kB a)).st n = (WR a).st n) /\ ∀ (n : Int), (AI (BY a.w (kB a)) n).length = (AAH a n).length /\ ∀ (i : Nat), i < (AI (BY a.w (kB a)) n).length -> (Kn a n i).a0 = (Ic a n
 i).a0 /\ (Kn a n i).a1 = (Ic a n i).a1 /\ (Kn a n i).b0 = (Ic a n i).b0 /\ (Kn a n i).b1 = (Ic a n i).b1
abbrev AFA (a : BkT) : Prop := AFP a = 0
abbrev AHL (a : BkT) : Ln := Rn SS a.st (ABX a)
abbrev Ik (a : BkT) : Ln := bif decide (AFA a) then default else AHL a
abbrev AAE (a : BkT) : Int := (Ik a).a0
abbrev R7 (a : BkT) : Int := (Ik a).b0
abbrev AGT (a : BkT) : Int := (Ik a).a1
abbrev ABD (a : BkT) : Int := (Ik a).b1
abbrev W5 (a : BkT) : List Ln := lB (ACW a)
abbrev AFF (a : BkT) : Prop := (W5 a).length = 0
abbrev ABW (a : BkT) : Ln := Rn SZ a.st (W5 a)
abbrev Kh (a : BkT) : Ln := bif decide (AFF a) then default else ABW a
abbrev AEE (a : BkT) : Int := (Kh a).a0
abbrev AEP (a : BkT) : Int := (Kh a).b0
abbrev ABF (a : BkT) : Int := (Kh a).a1
abbrev N9 (a : BkT) : Int := (Kh a).b1
abbrev AHF (a : BkT) : Rt := FW (bif decide (AFA a) then default else AHL a) a.st
abbrev AHM (a : BkT) : Rt := FW (bif decide (AFF a) then default else ABW a) a.st
theorem BVN (a : BkT) : (BQY a) = ((a.st = a.st /\ AQW a /\ APA a /\ AMM a /\ AMK a /\ iU /\ (∀ (n : Int), a.w.has n = a.w.has n) /\ (∀ (n : Int), a.w.st n = a.w.st n) /\ (∀ (n : Int), ACK a n =
 (AI a.w n).length /\ ∀ (i : Nat), i < ACK a n -> (Fg a n i).a0 = (gD (AI a.w n) i).a0 /\ (Fg a n i).a1 = (gD (AI a.w n) i).a1 /\ (Fg a n i).b0 = (gD (AI a.w n) i).b0 /\ (Fg a n i).b1 = (gD
 (AI a.w n) i).b1) /\ a.w.g.length = (R9 a).length /\ (∀ (i : Nat), i < a.w.g.length -> (gD a.w.g i).st = (lX a i).st /\ (gD a.w.g i).lo = (lX a i).lo /\ (gD a.w.g i).hi = (lX a i).hi) /\ a.w.b.length =
 (AAB a).length /\ (∀ (i : Nat), i < a.w.b.length -> gD a.w.b i = gD (AAB a) i) /\ Y2 a) /\ (a.st = a.st /\ AQW a /\ APA a /\ AMM a /\ AMK a /\ iU /\ (∀ (n : Int), ABO a n = ABO a n)
 /\ (∀ (n : Int), AHT a n = AHT a n) /\ (∀ (n : Int), V1 a n = (AGH a n).length /\ ∀ (i : Nat), i < V1 a n -> (Ia a n i).a0 = (Gs a n i).a0 /\ (Ia a n i).a1 = (Gs a n i).a1 /\
 (Ia a n i).b0 = (Gs a n i).b0 /\ (Ia a n i).b1 = (Gs a n i).b1) /\ a.w.g.length = (AGD a).length /\ (∀ (i : Nat), i < a.w.g.length -> (gD a.w.g i).st = (jJ a i).st /\ (gD a.w.g i).lo =
 (jJ a i).lo /\ (gD a.w.g i).hi = (jJ a i).hi) /\ a.w.b.length = (AJA a).length /\ (∀ (i : Nat), i < a.w.b.length -> gD a.w.b i = gD (AJA a) i) /\ Y2 a) /\ bif !decide (AFP a ≠ 0) then (ZN (lB
 a) a.st).lo.n = 0 /\ (ZN (lB a) a.st).lo.d = 0 /\ (ZN (lB a) a.st).hi.n = 0 /\ (ZN (lB a) a.st).hi.d = 0 /\ V4 a = false /\ ACC a else ((0 <= AAE a /\ AAE a < R7 a /\ R7 a <= 2000 /\ 0 <=
 AGT a /\ AGT a <= ABD a /\ ABD a <= 200000) /\ jT a /\ (0 <= AEE a /\ AEE a < AEP a /\ AEP a <= 2000 /\ 0 <= ABF a /\ ABF a <= N9 a /\ N9 a <= 200000) /\ jT a) /\
 (ZN (lB a) a.st).lo.n = (AHF a).n /\ (ZN (lB a) a.st).lo.d = (AHF a).d /\ (ZN (lB a) a.st).hi.n = (AHM a).n /\ (ZN (lB a) a.st).hi.d = (AHM a).d /\ V4 a = true /\ ACC a) := by kernel_rfl
theorem BDR (w : Bk) (k : Int) : BY (BY w k) k = BY w k := QR (by show FX w.has k k = true; simp [FX])
theorem MZ (a : BkT) : BkT.mk a.w a.st = a := rfl
theorem NB (w : Bk) (k : Int) : Bk.mk w.g w.b (BY w k).has (BY w k).st = BY w k := rfl
theorem Rm (w : Bk) (k : Int) : (BY w k).g = w.g := rfl
theorem Rf (w : Bk) (k : Int) : (BY w k).b = w.b := rfl
theorem BXG (a : BkT) (k : Int) : kB ⟨BY a.w k, a.st⟩ = kB a := rfl
theorem BYK (a : BkT) (k : Int) : lB ⟨BY a.w k, a.st⟩ = lB a := rfl
theorem BYB (a : BkT) (h : GP a.w.g a.w.b) (h2 : 0 <= a.st /\ a.st <= 2000) : BQY a := by
 rw [BVN]; delta Lk N1 AQW N4 APA ZZ M1 AMM AMK AOB iU kF ADW ACK Fg ABY NF R9 lX AAB jT Y2 ABO AHT iN AEQ V1 AGH Ia Gs ACW WR AGD jJ AJA ABX AFP V4 kW AAH Kn Ic ACC AFA AHL Ik AAE R7 AGT ABD W5 AFF ABW Kh AEE AEP ABF N9 AHF AHM; simp only [CC, eq_self, implies_true, forall_const, JI, NB, Rm, Rf, MZ, BXG, BYK, BDR, if_true]
 obtain ⟨_, hok⟩ := BIJ h
 unfold ZN
 refine ⟨⟨h, h2⟩, ⟨h, h2⟩, λ hc => ?_, λ hc => ?_⟩
 ·rw [decide_eq_true (show (lB a).length = 0 by omega)]
  exact ⟨rfl, rfl, rfl, rfl, hc⟩
 ·rw [decide_eq_false hc]
  have hb : ∀ lt, HY (Rn lt a.st (lB a)) := λ lt => rS ▸ Z3 hok (by omega)
  exact ⟨⟨hb _, h2, hb _, h2⟩, rfl, rfl, rfl, rfl, hc⟩
theorem dR : AG Try.prog RY (C_bnd.spec dBkt) := GD C_bnd (λ _ => BSD) [] [] BDO (λ _ => by kernel_rfl) (λ _ => AB BNW (AB BQB (AB (oM BET BGR) (AB ALI AE)))) (λ (a : BkT) h => by
 have h : GP a.w.g a.w.b /\ 0 <= a.st /\ a.st <= 2000 := h
 exact BYB a h.1 h.2) (λ _ => GJ rfl rfl) _
end Go.Bal
