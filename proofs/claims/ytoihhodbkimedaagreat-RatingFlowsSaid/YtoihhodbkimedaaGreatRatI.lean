/- Package rating: bounds of a flow. -/
import Derived.Test.YtoihhodbkimedaaGreatRatH
set_option linter.unusedVariables false
set_option linter.unusedSimpArgs false
namespace Go.Bal
open Go Go.Sym Go.Proofs
def SI (l : List Ln) (t : Int) : Bnd := bif decide (l.length = 0) then default else ⟨BT (GI LS t l) t, BT (GI LR t l) t⟩
def dBkt : List AVal -> Heap -> Option (BkT × List (Nat × Nat) × List Nat)
 | [.bptr id _, .d t], H => match BBF H id with
  | some (w, q) => some (⟨w, DH t⟩, [(100, id), (101, q)], [])
  | none => none
 | _, _ => none
def C_bnd : Ctr := { ro := [100], α := BkT, xs := λ a => [.bptr 100 0, .int a.st], L := λ a => bkL a.w, val := λ a => .tup [.d (eBnd (SI (lB a) a.st)), .bool (decide ((lB a).length ≠ 0))], keep := λ a => bkK (CF a.w (kB a)), pre := λ a => [GZ a.w.g a.w.b /\ 0 <= a.st /\ a.st <= 2000] }
def CPT : Ann := { ann 36 [(BGU, C_less.spec d0), (ATR, C_more.spec d0), (ASM, orS ((JF LS FW).spec (dBkT FW)) ((JF LR FG).spec (dBkT FG))), (AGO, BPD)] with E := [100, 101] }
def CQN (a : BkT) : Prop := AN Try.prog CPT BAN (AF BAN) (C_bnd.xs a) (AC (C_bnd.L a)) (C_bnd.val a) (C_bnd.keep a) [] []
abbrev Wu (a : BkT) : List Gau := AE a.w.g.length λ (i : Nat) => gD a.w.g i
abbrev AHP (a : BkT) : Nat := (Wu a).length
abbrev BGJ (a : BkT) : Prop := AHP a = a.w.g.length
abbrev AJV (a : BkT) (i : Nat) : Gau := gD (Wu a) i
abbrev BLG (a : BkT) : Prop := ∀ (i : Nat), i < AHP a -> (AJV a i).st = (gD a.w.g i).st /\ (AJV a i).lo = (gD a.w.g i).lo /\ (AJV a i).hi = (gD a.w.g i).hi
abbrev Fy (a : BkT) : List Int := AE a.w.b.length λ (i : Nat) => gD a.w.b i
abbrev AIM (a : BkT) : Nat := (Fy a).length
abbrev BJU (a : BkT) : Prop := AIM a = a.w.b.length
abbrev BDP (a : BkT) : Prop := ∀ (i : Nat), i < AIM a -> gD (Fy a) i = gD a.w.b i
abbrev BKG : Value := Value.slice none 0 0
abbrev rL : Prop := BKG = BKG
abbrev sK (a : BkT) : Bk := Bk.mk (Wu a) (Fy a) a.w.has a.w.st
abbrev ATX (a : BkT) (n : Int) : List Ln := AK (sK a) n
abbrev AMO (a : BkT) (n : Int) : Nat := (ATX a n).length
abbrev Ju (a : BkT) (n : Int) (i : Nat) : Ln := gD (ATX a n) i
abbrev ATH (a : BkT) : BkT := BkT.mk (sK a) a.st
abbrev QE (a : BkT) : Bk := CF (sK a) (kB (ATH a))
abbrev ARE (a : BkT) : List Gau := (QE a).g
abbrev uD (a : BkT) (i : Nat) : Gau := gD (ARE a) i
abbrev ASW (a : BkT) : List Int := (QE a).b
abbrev qG (a : BkT) : Prop := 0 <= a.st /\ a.st <= 2000
abbrev AZX (a : BkT) : Prop := (AHP a <= 24 /\ (∀ (x : Gau), List.Mem x (Wu a) -> 0 <= x.st /\ x.st <= 2000 /\ 0 <= x.lo /\ x.lo <= x.hi /\ x.hi <= 200000) /\ AIM a <= 24 /\ List.Pairwise (λ (x1 x2 : Int) => x1 <
 x2) (Fy a) /\ ∀ (x : Int), List.Mem x (Fy a) -> 1 <= x /\ x <= 2000) /\ qG a
abbrev AOV (a : BkT) (n : Int) : Bool := (QE a).has n
abbrev ASV (a : BkT) (n : Int) : Int := (QE a).st n
abbrev pY (a : BkT) : Bk := Bk.mk (Wu a) (Fy a) (QE a).has (QE a).st
abbrev AXF (a : BkT) (n : Int) : List Ln := AK (pY a) n
abbrev ALZ (a : BkT) (n : Int) : Nat := (AXF a n).length
abbrev ALH (a : BkT) (n : Int) : List Ln := AK (QE a) n
abbrev Jz (a : BkT) (n : Int) (i : Nat) : Ln := gD (AXF a n) i
abbrev Nu (a : BkT) (n : Int) (i : Nat) : Ln := gD (ALH a n) i
abbrev AZB (a : BkT) : BkT := BkT.mk (pY a) a.st
abbrev ZW (a : BkT) : Bk := CF (pY a) (kB (AZB a))
abbrev APY (a : BkT) : List Gau := (ZW a).g
abbrev uH (a : BkT) (i : Nat) : Gau := gD (APY a) i
abbrev AUX (a : BkT) : List Int := (ZW a).b
abbrev AXT (a : BkT) : List Ln := lB (ATH a)
abbrev ARK (a : BkT) : Nat := (AXT a).length
abbrev ATB (a : BkT) : Bool := decide ((lB a).length ≠ 0)
abbrev qL (a : BkT) (i : Nat) : Gau := gD (CF a.w (kB a)).g i
abbrev ASR (a : BkT) (n : Int) : List Ln := AK (ZW a) n
abbrev Ox (a : BkT) (n : Int) (i : Nat) : Ln := gD (AK (CF a.w (kB a)) n) i
abbrev Kt (a : BkT) (n : Int) (i : Nat) : Ln := gD (ASR a n) i
abbrev AKA (a : BkT) : Prop := (CF a.w (kB a)).g.length = a.w.g.length /\ (∀ (i : Nat), i < (CF a.w (kB a)).g.length -> (qL a i).st = (gD a.w.g i).st /\ (qL a i).lo = (gD a.w.g i).lo /\ (qL a i).hi =
 (gD a.w.g i).hi) /\ (CF a.w (kB a)).b.length = a.w.b.length /\ (∀ (i : Nat), i < (CF a.w (kB a)).b.length -> gD (CF a.w (kB a)).b i = gD a.w.b i) /\ rL /\ (∀ (n : Int), (CF a.w (kB a)).has n = (ZW a).has n) /\
 (∀ (n : Int), (CF a.w (kB a)).st n = (ZW a).st n) /\ ∀ (n : Int), (AK (CF a.w (kB a)) n).length = (ASR a n).length /\ ∀ (i : Nat), i < (AK (CF a.w (kB a)) n).length -> (Ox a n i).a0 = (Kt a n
 i).a0 /\ (Ox a n i).a1 = (Kt a n i).a1 /\ (Ox a n i).b0 = (Kt a n i).b0 /\ (Ox a n i).b1 = (Kt a n i).b1
abbrev ARV (a : BkT) : Prop := ARK a = 0
abbrev AQD (a : BkT) : Ln := GI LS a.st (AXT a)
abbrev Lw (a : BkT) : Ln := bif decide (ARV a) then default else AQD a
abbrev BAG (a : BkT) : Int := (Lw a).a0
abbrev AXG (a : BkT) : Int := (Lw a).b0
abbrev AKH (a : BkT) : Int := (Lw a).a1
abbrev ALK (a : BkT) : Int := (Lw a).b1
abbrev AXJ (a : BkT) : List Ln := lB (AZB a)
abbrev ASE (a : BkT) : Prop := (AXJ a).length = 0
abbrev ANC (a : BkT) : Ln := GI LR a.st (AXJ a)
abbrev Kx (a : BkT) : Ln := bif decide (ASE a) then default else ANC a
abbrev ASB (a : BkT) : Int := (Kx a).a0
abbrev AUZ (a : BkT) : Int := (Kx a).b0
abbrev AKT (a : BkT) : Int := (Kx a).a1
abbrev AQT (a : BkT) : Int := (Kx a).b1
abbrev AWV (a : BkT) : Rt := BT (bif decide (ARV a) then default else AQD a) a.st
abbrev ATY (a : BkT) : Rt := BT (bif decide (ASE a) then default else ANC a) a.st
theorem CRR (a : BkT) : (CQN a) = ((a.st = a.st /\ BGJ a /\ BLG a /\ BJU a /\ BDP a /\ rL /\ (∀ (n : Int), a.w.has n = a.w.has n) /\ (∀ (n : Int), a.w.st n = a.w.st n) /\ (∀ (n : Int), AMO a n =
 (AK a.w n).length /\ ∀ (i : Nat), i < AMO a n -> (Ju a n i).a0 = (gD (AK a.w n) i).a0 /\ (Ju a n i).a1 = (gD (AK a.w n) i).a1 /\ (Ju a n i).b0 = (gD (AK a.w n) i).b0 /\ (Ju a n i).b1 = (gD
 (AK a.w n) i).b1) /\ a.w.g.length = (ARE a).length /\ (∀ (i : Nat), i < a.w.g.length -> (gD a.w.g i).st = (uD a i).st /\ (gD a.w.g i).lo = (uD a i).lo /\ (gD a.w.g i).hi = (uD a i).hi) /\ a.w.b.length =
 (ASW a).length /\ (∀ (i : Nat), i < a.w.b.length -> gD a.w.b i = gD (ASW a) i) /\ AZX a) /\ (a.st = a.st /\ BGJ a /\ BLG a /\ BJU a /\ BDP a /\ rL /\ (∀ (n : Int), AOV a n = AOV a n)
 /\ (∀ (n : Int), ASV a n = ASV a n) /\ (∀ (n : Int), ALZ a n = (ALH a n).length /\ ∀ (i : Nat), i < ALZ a n -> (Jz a n i).a0 = (Nu a n i).a0 /\ (Jz a n i).a1 = (Nu a n i).a1 /\
 (Jz a n i).b0 = (Nu a n i).b0 /\ (Jz a n i).b1 = (Nu a n i).b1) /\ a.w.g.length = (APY a).length /\ (∀ (i : Nat), i < a.w.g.length -> (gD a.w.g i).st = (uH a i).st /\ (gD a.w.g i).lo =
 (uH a i).lo /\ (gD a.w.g i).hi = (uH a i).hi) /\ a.w.b.length = (AUX a).length /\ (∀ (i : Nat), i < a.w.b.length -> gD a.w.b i = gD (AUX a) i) /\ AZX a) /\ bif !decide (ARK a ≠ 0) then (SI (lB
 a) a.st).lo.n = 0 /\ (SI (lB a) a.st).lo.d = 0 /\ (SI (lB a) a.st).hi.n = 0 /\ (SI (lB a) a.st).hi.d = 0 /\ ATB a = false /\ AKA a else ((0 <= BAG a /\ BAG a < AXG a /\ AXG a <= 2000 /\ 0 <=
 AKH a /\ AKH a <= ALK a /\ ALK a <= 200000) /\ qG a /\ (0 <= ASB a /\ ASB a < AUZ a /\ AUZ a <= 2000 /\ 0 <= AKT a /\ AKT a <= AQT a /\ AQT a <= 200000) /\ qG a) /\
 (SI (lB a) a.st).lo.n = (AWV a).n /\ (SI (lB a) a.st).lo.d = (AWV a).d /\ (SI (lB a) a.st).hi.n = (ATY a).n /\ (SI (lB a) a.st).hi.d = (ATY a).d /\ ATB a = true /\ AKA a) := by kernel_rfl
theorem BYZ (w : Bk) (k : Int) : CF (CF w k) k = CF w k := TS (by show GN w.has k k = true; simp [GN])
theorem JT (a : BkT) : BkT.mk a.w a.st = a := rfl
theorem JP (w : Bk) (k : Int) : Bk.mk w.g w.b (CF w k).has (CF w k).st = CF w k := rfl
theorem Iz (w : Bk) (k : Int) : (CF w k).g = w.g := rfl
theorem Iy (w : Bk) (k : Int) : (CF w k).b = w.b := rfl
theorem CWN (a : BkT) (k : Int) : kB ⟨CF a.w k, a.st⟩ = kB a := rfl
theorem CXE (a : BkT) (k : Int) : lB ⟨CF a.w k, a.st⟩ = lB a := rfl
theorem CWZ (a : BkT) (h : GZ a.w.g a.w.b) (h2 : 0 <= a.st /\ a.st <= 2000) : CQN a := by
 rw [CRR]; delta Wu AHP BGJ AJV BLG Fy AIM BJU BDP BKG rL sK ATX AMO Ju ATH QE ARE uD ASW qG AZX AOV ASV pY AXF ALZ ALH Jz Nu AZB ZW APY uH AUX AXT ARK ATB qL ASR Ox Kt AKA ARV AQD Lw BAG AXG AKH ALK AXJ ASE ANC Kx ASB AUZ AKT AQT AWV ATY; simp only [CC, eq_self, implies_true, forall_const, JG, JP, Iz, Iy, JT, CWN, CXE, BYZ, if_true]
 obtain ⟨_, hok⟩ := CDI h
 unfold SI
 refine ⟨⟨h, h2⟩, ⟨h, h2⟩, λ hc => ?_, λ hc => ?_⟩
 ·rw [decide_eq_true (show (lB a).length = 0 by omega)]
  exact ⟨rfl, rfl, rfl, rfl, hc⟩
 ·rw [decide_eq_false hc]
  have hb : ∀ lt, DR (GI lt a.st (lB a)) := λ lt => xZ ▸ ARF hok (by omega)
  exact ⟨⟨hb _, h2, hb _, h2⟩, rfl, rfl, rfl, rfl, hc⟩
theorem Cs : AG Try.prog PL (C_bnd.spec dBkt) := HR C_bnd (λ _ => CPT) [] [] BXQ (λ _ => by kernel_rfl) (λ _ => AB AHT (AB Vb (AB (Ha rX oB) (AB BDM AD)))) (λ (a : BkT) h => by
 have h : GZ a.w.g a.w.b /\ 0 <= a.st /\ a.st <= 2000 := h
 exact CWZ a h.1 h.2) (λ _ => IN rfl rfl) _
end Go.Bal
