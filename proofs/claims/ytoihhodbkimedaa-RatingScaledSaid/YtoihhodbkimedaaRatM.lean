/- Package rating: the last stage of a part for which something is so. -/
import Derived.Test.YtoihhodbkimedaaRatL
set_option linter.unusedVariables false
set_option linter.unusedSimpArgs false
namespace Go.Bal
open Go Go.Sym Go.Proofs
def CIB (a : UpI) : Prop := AY Try.prog (A_up wP ER ((QA wP).spec dBnF) a) Gn (AF Gn) ((tL wP ER).xs a) (AC ((tL wP ER).L a)) ((tL wP ER).val a) ((tL wP ER).keep a) [] []
abbrev qF (a : UpI) : List Gau := AD a.w.g.length λ (i : Nat) => gD a.w.g i
abbrev pI (a : UpI) : Nat := (qF a).length
abbrev BEA (a : UpI) : Prop := pI a = a.w.g.length
abbrev AGE (a : UpI) (i : Nat) : Gau := gD (qF a) i
abbrev BGH (a : UpI) (i : Nat) : Int := (AGE a i).st
abbrev BGC (a : UpI) (i : Nat) : Int := (AGE a i).lo
abbrev BHB (a : UpI) (i : Nat) : Int := (AGE a i).hi
abbrev BJC (a : UpI) : Prop := ∀ (i : Nat), i < pI a -> BGH a i = (gD a.w.g i).st /\ BGC a i = (gD a.w.g i).lo /\ BHB a i = (gD a.w.g i).hi
abbrev Pj (a : UpI) : List Int := AD a.w.b.length λ (i : Nat) => gD a.w.b i
abbrev Px (a : UpI) : Nat := (Pj a).length
abbrev ARR (a : UpI) : Prop := Px a = a.w.b.length
abbrev AXJ (a : UpI) (i : Nat) : Int := gD (Pj a) i
abbrev AKR (a : UpI) : Prop := ∀ (i : Nat), i < Px a -> AXJ a i = gD a.w.b i
abbrev AJV : Value := Value.slice none (0 : Nat) (0 : Nat)
abbrev ZY : Prop := AJV = AJV
abbrev Ms (a : UpI) : Prop := ∀ (n : Int), a.w.has n = a.w.has n
abbrev Kk (a : UpI) : Prop := ∀ (n : Int), a.w.st n = a.w.st n
abbrev Li (a : UpI) : Bk := Bk.mk (qF a) (Pj a) a.w.has a.w.st
abbrev AUG (a : UpI) (n : Int) : List Ln := AK (Li a) n
abbrev wV (a : UpI) (n : Int) : Nat := (AUG a n).length
abbrev Nr (a : UpI) (n : Int) (i : Nat) : Ln := gD (AUG a n) i
abbrev AKG (a : UpI) (n : Int) (i : Nat) : Int := (Nr a n i).a0
abbrev AWO (a : UpI) (n : Int) (i : Nat) : Int := (Nr a n i).a1
abbrev AZS (a : UpI) (n : Int) (i : Nat) : Int := (Nr a n i).b0
abbrev AXV (a : UpI) (n : Int) (i : Nat) : Int := (Nr a n i).b1
abbrev AYN (a : UpI) : Prop := ∀ (n : Int), wV a n = (AK a.w n).length /\ ∀ (i : Nat), i < wV a n -> AKG a n i = (gD (AK a.w n) i).a0 /\ AWO a n i = (gD (AK a.w n) i).a1 /\ AZS a n i = (gD
 (AK a.w n) i).b0 /\ AXV a n i = (gD (AK a.w n) i).b1
abbrev oY (i : Nat) (a : UpI) (n : Int) : Prop := i < (AK a.w n).length
abbrev ALW (a : UpI) : Prop := pI a <= (24 : Nat) /\ (∀ (x : Gau), List.Mem x (qF a) -> (0 : Int) <= x.st /\ x.st <= (2000 : Int) /\ (0 : Int) <= x.lo /\ x.lo <= x.hi /\ x.hi <= (200000 : Int)) /\ Px a <= (24 :
 Nat) /\ List.Pairwise (λ (x1 x2 : Int) => x1 < x2) (Pj a) /\ ∀ (x : Int), List.Mem x (Pj a) -> (1 : Int) <= x /\ x <= (2000 : Int)
abbrev AZQ (a : UpI) : Span := AR (Li a) a.k
abbrev AMT (a : UpI) : Prop := a.w.g.length = a.w.g.length
abbrev AWA (a : UpI) : Prop := ∀ (i : Nat), i < a.w.g.length -> (gD a.w.g i).st = (gD a.w.g i).st /\ (gD a.w.g i).lo = (gD a.w.g i).lo /\ (gD a.w.g i).hi = (gD a.w.g i).hi
abbrev AZG (a : UpI) : Prop := a.w.b.length = a.w.b.length
abbrev ARK (a : UpI) : Prop := ∀ (i : Nat), i < a.w.b.length -> gD a.w.b i = gD a.w.b i
abbrev pA (a : UpI) : Prop := a.f.n = a.f.n /\ a.f.d = a.f.d
abbrev BAJ (a : UpI) : Prop := AMT a /\ AWA a /\ AZG a /\ ARK a /\ ZY /\ Ms a /\ Kk a /\ (∀ (n : Int), (AK a.w n).length = (AK a.w n).length /\ ∀ (i : Nat), oY i a n -> (gD (AK
 a.w n) i).a0 = (gD (AK a.w n) i).a0 /\ (gD (AK a.w n) i).a1 = (gD (AK a.w n) i).a1 /\ (gD (AK a.w n) i).b0 = (gD (AK a.w n) i).b0 /\ (gD (AK a.w n) i).b1 = (gD (AK a.w n) i).b1) /\ pA a
abbrev AXO (a : LH) : Int := a.hi - a.lo
abbrev xR (a : LH) : Nat := (AXO a).toNat
abbrev xL (a : UpI) (a1 : LH) : Prop := (AR a.w a.k).lo - (1 : Int) <= a1.lo /\ a1.lo <= a1.hi /\ a1.hi <= (AR a.w a.k).hi /\ ∀ (m : Nat), xR a1 <= m -> upM wP a = yL (upP wP a) m a1.lo a1.hi
abbrev KX (a : LH) : Int := IntKind.i64.wrap (a.lo + IntKind.i64.wrap ((IntKind.i64.wrap (IntKind.i64.wrap (AXO a) + (1 : Int))).tdiv (2 : Int)))
abbrev ASY (a : UpI) (a1 : LH) : BkT := BkT.mk (Li a) (KX a1)
abbrev WL (a : UpI) (a1 : LH) : Bk := CK (Li a) (kB (ASY a a1))
abbrev ATN (a : UpI) (a1 : LH) : List Gau := (WL a a1).g
abbrev xG (a : UpI) (a1 : LH) (i : Nat) : Gau := gD (ATN a a1) i
abbrev ALN (a : UpI) (a1 : LH) : List Int := (WL a a1).b
abbrev AOT (a : UpI) (a1 : LH) : Bnd := VT (lB (ASY a a1)) (KX a1)
abbrev AXI (a : UpI) (a1 : LH) : Rt := (AOT a a1).lo
abbrev ATD (a : UpI) (a1 : LH) : Int := (AXI a a1).n
abbrev AXT (a : UpI) (a1 : LH) : Int := (AXI a a1).d
abbrev AKM (a : UpI) (a1 : LH) : Rt := (AOT a a1).hi
abbrev AZB (a : UpI) (a1 : LH) : Int := (AKM a a1).n
abbrev AVB (a : UpI) (a1 : LH) : Int := (AKM a a1).d
abbrev uR (a : UpI) (a1 : LH) : Bnd := dBnd (DVal.agg [CU (ATD a a1), CU (AXT a a1), CU (AZB a a1), CU (AVB a a1)])
abbrev AWP (a : UpI) (a1 : LH) : Rt := (uR a a1).lo
abbrev AKF (a : UpI) (a1 : LH) : Rt := (uR a a1).hi
abbrev AUS (a : UpI) (a1 : LH) (n : Int) : List Ln := AK (WL a a1) n
abbrev Iz (a : UpI) (a1 : LH) (n : Int) (i : Nat) : Ln := gD (AUS a a1 n) i
abbrev AMW (a : UpI) (a1 : LH) : Prop := AMT a /\ AWA a /\ AZG a /\ ARK a /\ ZY /\ (∀ (n : Int), a.w.has n = (WL a a1).has n) /\ (∀ (n : Int), a.w.st n = (WL a a1).st n) /\ (∀ (n :
 Int), (AK a.w n).length = (AUS a a1 n).length /\ ∀ (i : Nat), oY i a n -> (gD (AK a.w n) i).a0 = (Iz a a1 n i).a0 /\ (gD (AK a.w n) i).a1 = (Iz a a1 n i).a1 /\ (gD (AK a.w n) i).b0 = (Iz a a1
 n i).b0 /\ (gD (AK a.w n) i).b1 = (Iz a a1 n i).b1) /\ pA a
abbrev AVP (a : UpI) (a1 : LH) (a2 : LH) : Prop := xL a a1 /\ xR a1 < xR a2
theorem CMX (a : UpI) : (CIB a) = ((a.k = a.k /\ BEA a /\ BJC a /\ ARR a /\ AKR a /\ ZY /\ Ms a /\ Kk a /\ AYN a /\ a.w.g.length = pI a /\ (∀ (i : Nat), i < a.w.g.length -> (gD
 a.w.g i).st = BGH a i /\ (gD a.w.g i).lo = BGC a i /\ (gD a.w.g i).hi = BHB a i) /\ a.w.b.length = Px a /\ (∀ (i : Nat), i < a.w.b.length -> gD a.w.b i = AXJ a i) /\ ZY /\ Ms a /\ Kk a /\
 (∀ (n : Int), (AK a.w n).length = wV a n /\ ∀ (i : Nat), oY i a n -> (gD (AK a.w n) i).a0 = AKG a n i /\ (gD (AK a.w n) i).a1 = AWO a n i /\ (gD (AK a.w n) i).b0 = AZS a n i /\ (gD (AK a.w n)
 i).b1 = AXV a n i) /\ ALW a /\ (0 : Int) <= a.k /\ a.k <= (↑(Px a) : Int)) /\ (∃ (a_1 : LH), (a_1.lo = IntKind.i64.wrap ((AZQ a).lo - (1 : Int)) /\ a_1.hi = (AZQ a).hi /\ BAJ a) /\ xL a a_1) /\
 ∀ (a_1 : LH), xL a a_1 -> bif decide (a_1.lo < a_1.hi) then (Int.ofNat (2 : Nat) = Int.ofNat (0 : Nat) -> False) /\ (KX a_1 = KX a_1 /\ BEA a /\ BJC a /\ ARR a /\ AKR a /\ ZY /\ Ms
 a /\ Kk a /\ AYN a /\ a.w.g.length = (ATN a a_1).length /\ (∀ (i : Nat), i < a.w.g.length -> (gD a.w.g i).st = (xG a a_1 i).st /\ (gD a.w.g i).lo = (xG a a_1 i).lo /\ (gD a.w.g i).hi = (xG a
 a_1 i).hi) /\ a.w.b.length = (ALN a a_1).length /\ (∀ (i : Nat), i < a.w.b.length -> gD a.w.b i = gD (ALN a a_1) i) /\ ALW a /\ (0 : Int) <= KX a_1 /\ KX a_1 <= (2000 : Int)) /\ ((AWP a a_1).n =
 ATD a a_1 /\ (AWP a a_1).d = AXT a a_1 /\ (AKF a a_1).n = AZB a a_1 /\ (AKF a a_1).d = AVB a a_1 /\ a.f.n = a.f.n /\ a.f.d = a.f.d /\ pA a) /\ bif wP (BnF.mk (uR a a_1) a.f) then
 ∃ (a_3 : LH), (a_3.lo = KX a_1 /\ a_3.hi = a_1.hi /\ AMW a a_1) /\ AVP a a_3 a_1 else ∃ (a_3 : LH), (a_3.lo = a_1.lo /\ a_3.hi = IntKind.i64.wrap (KX a_1 - (1 : Int)) /\ AMW a a_1) /\ AVP a a_3
 a_1 else upM wP a = a_1.lo /\ BAJ a) := by kernel_rfl
theorem CNK (a : UpI) (h : HI a.w.g a.w.b) (hk : 0 <= a.k /\ a.k <= a.w.b.length) (hh : a.w.has a.k = true) : CIB a := by
 rw [CMX]; delta qF pI BEA AGE BGH BGC BHB BJC Pj Px ARR AXJ AKR AJV ZY Ms Kk Li AUG wV Nr AKG AWO AZS AXV AYN oY ALW AZQ AMT AWA AZG ARK pA BAJ AXO xR xL KX ASY WL ATN xG ALN AOT AXI ATD AXT AKM AZB AVB uR AWP AKF AUS Iz AMW AVP; simp only [CC, eq_self, implies_true, forall_const, LB, OO, Vi, Vs, OR, AIB, if_true]
 obtain ⟨s1, s2, s3, s4⟩ := Ha h hk.1 hk.2
 refine ⟨⟨h, hk⟩, ⟨⟨(AR a.w a.k).lo - 1, (AR a.w a.k).hi⟩, ⟨(EO (n := (AR a.w a.k).lo - 1) (by omega) (by omega)).symm, rfl⟩, Int.le_refl _, (by omega : (AR a.w a.k).lo - 1 <= (AR a.w a.k).hi), Int.le_refl _, λ m hm => FC 3000 m ((AR a.w a.k).lo - 1) (AR a.w a.k).hi (by omega) (by omega) hm⟩, λ x ⟨i1, i2, i3, i4⟩ => ⟨λ hl => ?_, λ hl => ?_⟩⟩
 ·obtain ⟨m1, m2⟩ := gR hl
  simp only [BQR (lo := x.lo) (hi := x.hi) (by omega) (by omega) (by omega), show ∀ t, kB ⟨a.w, t⟩ = (LI a.w.b t : Int) from λ _ => rfl, s4 _ (show (AR a.w a.k).lo <= x.lo + (x.hi - x.lo + 1).tdiv 2 by omega) (by omega), TC hh, implies_true, and_true]
  obtain ⟨n, hn⟩ : ∃ n, (x.hi - x.lo).toNat = n + 1 := ⟨(x.hi - x.lo).toNat - 1, by omega⟩
  have key := i4 (n + 1) (by omega)
  unfold yL at key
  rw [decide_eq_true hl] at key
  generalize hM : x.lo + (x.hi - x.lo + 1).tdiv 2 = M at *
  refine ⟨by simp, ⟨h, by omega, by omega⟩, λ hp => ⟨⟨M, x.hi⟩, ⟨rfl, rfl⟩, ⟨(by omega : (AR a.w a.k).lo - 1 <= M), m2, i3, λ m hm => ?_⟩, (by omega : (x.hi - M).toNat < (x.hi - x.lo).toNat)⟩, λ hp => ⟨⟨x.lo, M - 1⟩, ⟨rfl, (EO (n := M - 1) (by omega) (by omega)).symm⟩, ⟨i1, (by omega : x.lo <= M - 1), (by omega : M - 1 <= (AR a.w a.k).hi), λ m hm => ?_⟩, (by omega : (M - 1 - x.lo).toNat < (x.hi - x.lo).toNat)⟩⟩
  ·rw [key, show upP wP a M = true from hp]
   exact FC n m M x.hi m2 (by omega) hm
  ·rw [key, show upP wP a M = false from hp]
   exact FC n m x.lo (M - 1) (by omega) (by omega) hm
 ·rw [i4 0 (by omega)]; rfl
theorem CBZ : AG Try.prog aF ((tL cB EP).spec (dUpI EP)) := JX (tL cB EP) (A_up cB EP ((QA cB).spec dBnF)) [] [] AFK (λ _ => by kernel_rfl) (λ _ => AB Pw (AB Zv (AB CLI AE))) (λ (a : UpI) h => by
 have h : HI a.w.g a.w.b /\ 0 <= a.k /\ a.k <= a.w.b.length /\ a.w.has a.k = true := h
 exact CNN a h.1 ⟨h.2.1, h.2.2.1⟩ h.2.2.2) (λ _ => KJ rfl rfl) _
theorem CCA : AG Try.prog aF ((tL wP ER).spec (dUpI ER)) := JX (tL wP ER) (A_up wP ER ((QA wP).spec dBnF)) [] [] AFK (λ _ => by kernel_rfl) (λ _ => AB Pw (AB Zv (AB CLJ AE))) (λ (a : UpI) h => by
 have h : HI a.w.g a.w.b /\ 0 <= a.k /\ a.k <= a.w.b.length /\ a.w.has a.k = true := h
 exact CNK a h.1 ⟨h.2.1, h.2.2.1⟩ h.2.2.2) (λ _ => KJ rfl rfl) _
def dryR (r : Rt) : Bool := r.n == 0 && r.d == 1
def BYH := pD dR1 λ r => .bool (dryR r)
def CAI (r : Rt) : Prop := AY Try.prog (ann 6 []) BNQ (AF BNQ) (xR1 r) (AC []) (.bool (dryR r)) [] [] []
theorem CDQ (r : Rt) : (CAI r) = (dryR r = (r.n == 0 && (r.d == 1 && true))) := by kernel_rfl
structure BnO where
 b : Bnd
def bxF : AObj := .box [.fn (.func U3) [] []]
def dBnO : List AVal -> Heap -> Option (BnO × List (Nat × Nat) × List Nat)
 | [.d x, .bptr id _], H => match H id with
  | .live (.box [.fn (.func g) [] []]) => if g = U3 then some (⟨dBnd x⟩, [(100, id)], []) else none
  | _ => none
 | _, _ => none
def PY (v : BnO -> Bool) : Ctr := { ro := [100], α := BnO, xs := λ a => [.d (eBnd a.b), .bptr 100 0], L := λ _ => [(100, bxF)], val := λ a => .bool (v a), keep := λ _ => [(100, .live bxF)] }
def dr2 (a : BnO) : Bool := dryR a.b.hi
def P3 (a : BnO) : Bool := dryR a.b.lo
def BSQ : Ann := { ann 8 [(U3, BYH)] with E := [100] }
def CIG (a : BnO) : Prop := AY Try.prog BSQ BMR (AF BMR) ((PY dr2).xs a) (AC ((PY dr2).L a)) ((PY dr2).val a) ((PY dr2).keep a) [] []
theorem CMV (a : BnO) : (CIG a) = (dr2 a = dryR a.b.hi) := by kernel_rfl
def CJO (a : BnO) : Prop := AY Try.prog BSQ BOR (AF BOR) ((PY P3).xs a) (AC ((PY P3).L a)) ((PY P3).val a) ((PY P3).keep a) [] []
theorem CLC (a : BnO) : (CJO a) = (P3 a = dryR a.b.lo) := by kernel_rfl
theorem BQY : AG Try.prog U3 BYH := HF xR1 hR1 λ g _ => RD (A := ann 6 []) (ren := []) (fz := []) CEV (by kernel_rfl) AE (by
 show CAI g; rw [CDQ]; unfold dryR; rw [Bool.and_true])
theorem CKY : AG Try.prog LR ((PY dr2).spec dBnO) := JX (PY dr2) (λ _ => BSQ) [] [] CFB (λ _ => by kernel_rfl) (λ _ => AB BQY AE) (λ (a : BnO) _ => by
 show CIG a; rw [CMV]; rfl) (λ _ => KJ rfl rfl) _
theorem CKG : AG Try.prog LP ((PY P3).spec dBnO) := JX (PY P3) (λ _ => BSQ) [] [] CGP (λ _ => by kernel_rfl) (λ _ => AB BQY AE) (λ (a : BnO) _ => by
 show CJO a; rw [CLC]; rfl) (λ _ => KJ rfl rfl) _
def dUpO (n : FuncId) : List AVal -> Heap -> Option (BkI × List (Nat × Nat) × List Nat)
 | [.bptr id _, .d k, .fn (.func g) [] [.bptr c _]], H => if g = n then match BCA H id, H c with
  | some (w, q), .live (.box [.fn (.func f) [] []]) => if f = U3 then some (⟨w, DK k⟩, [(100, id), (101, q), (102, c)], []) else none
  | _, _ => none else none
 | _, _ => none
def upPO (v : BnO -> Bool) (a : BkI) (t : Int) : Bool := v ⟨VT (lB ⟨a.w, t⟩) t⟩
def upMO (v : BnO -> Bool) (a : BkI) : Int := yL (upPO v a) 3000 ((AR a.w a.k).lo - 1) (AR a.w a.k).hi
def upHO (a : BkI) : List (Nat × HCell) := bkK a.w ++ [(102, .live bxF)]
def upO3 (v : BnO -> Bool) (n : FuncId) (a : BkI) : Shape := { α := LH, dflt := default, T := λ x => ⟨[(0, .bptr 100 0), (2, .fn (.func n) [] [.bptr 102 0]), (8, .int x.lo), (9, .int x.hi)], upHO a⟩, inv := λ x => (AR a.w a.k).lo - 1 <= x.lo /\ x.lo <= x.hi /\ x.hi <= (AR a.w a.k).hi /\ ∀ m : Nat, (x.hi - x.lo).toNat <= m -> upMO v a = yL (upPO v a) m x.lo x.hi, meas := λ x => (x.hi - x.lo).toNat }
def VR (v : BnO -> Bool) (n : FuncId) : Ctr := { ro := [100, 101, 102], α := BkI, xs := λ a => [.bptr 100 0, .int a.k, .fn (.func n) [] [.bptr 102 0]], L := λ a => bkL a.w ++ [(102, bxF)], val := λ a => .int (upMO v a), keep := λ a => upHO a, pre := λ a => [HI a.w.g a.w.b /\ 0 <= a.k /\ a.k <= a.w.b.length /\ a.w.has a.k = true] }
def BPY (v : BnO -> Bool) (n : FuncId) (f : Sym.Spec) (a : BkI) : Ann := { ann 44 [(AZO, C_span.spec dBkI), (TH, C_bnd.spec dBkt), (n, f)] with E := [100, 101, 102], loops := λ id => if id = 3 then some [upO3 v n a] else none }
def CCS (a : BkI) : Prop := AY Try.prog (BPY dr2 LR ((PY dr2).spec dBnO) a) Gn (AF Gn) ((VR dr2 LR).xs a) (AC ((VR dr2 LR).L a)) ((VR dr2 LR).val a) ((VR dr2 LR).keep a) [] []
abbrev Ie (a : BkI) : List Gau := AD a.w.g.length λ (i : Nat) => gD a.w.g i
abbrev Nx (a : BkI) : Nat := (Ie a).length
abbrev ASV (a : BkI) : Prop := Nx a = a.w.g.length
abbrev qO (a : BkI) (i : Nat) : Gau := gD (Ie a) i
abbrev AYI (a : BkI) (i : Nat) : Int := (qO a i).st
abbrev ARW (a : BkI) (i : Nat) : Int := (qO a i).lo
abbrev ART (a : BkI) (i : Nat) : Int := (qO a i).hi
abbrev AJT (a : BkI) : Prop := ∀ (i : Nat), i < Nx a -> AYI a i = (gD a.w.g i).st /\ ARW a i = (gD a.w.g i).lo /\ ART a i = (gD a.w.g i).hi
abbrev ZN (a : BkI) : List Int := AD a.w.b.length λ (i : Nat) => gD a.w.b i
abbrev YG (a : BkI) : Nat := (ZN a).length
abbrev V1 (a : BkI) : Prop := YG a = a.w.b.length
abbrev ADX (a : BkI) (i : Nat) : Int := gD (ZN a) i
abbrev zD (a : BkI) : Prop := ∀ (i : Nat), i < YG a -> ADX a i = gD a.w.b i
abbrev R6 : Value := Value.slice none (0 : Nat) (0 : Nat)
abbrev QO : Prop := R6 = R6
abbrev YO (a : BkI) : Prop := ∀ (n : Int), a.w.has n = a.w.has n
abbrev ZL (a : BkI) : Prop := ∀ (n : Int), a.w.st n = a.w.st n
abbrev YR (a : BkI) : Bk := Bk.mk (Ie a) (ZN a) a.w.has a.w.st
abbrev ADM (a : BkI) (n : Int) : List Ln := AK (YR a) n
abbrev Tp (a : BkI) (n : Int) : Nat := (ADM a n).length
abbrev YA (a : BkI) (n : Int) (i : Nat) : Ln := gD (ADM a n) i
abbrev D7 (a : BkI) (n : Int) (i : Nat) : Int := (YA a n i).a0
abbrev X7 (a : BkI) (n : Int) (i : Nat) : Int := (YA a n i).a1
abbrev R4 (a : BkI) (n : Int) (i : Nat) : Int := (YA a n i).b0
abbrev ABO (a : BkI) (n : Int) (i : Nat) : Int := (YA a n i).b1
abbrev AAV (a : BkI) : Prop := ∀ (n : Int), Tp a n = (AK a.w n).length /\ ∀ (i : Nat), i < Tp a n -> D7 a n i = (gD (AK a.w n) i).a0 /\ X7 a n i = (gD (AK a.w n) i).a1 /\ R4 a n i
 = (gD (AK a.w n) i).b0 /\ ABO a n i = (gD (AK a.w n) i).b1
abbrev Ud (i : Nat) (a : BkI) (n : Int) : Prop := i < (AK a.w n).length
abbrev G3 (a : BkI) : Prop := Nx a <= (24 : Nat) /\ (∀ (x : Gau), List.Mem x (Ie a) -> (0 : Int) <= x.st /\ x.st <= (2000 : Int) /\ (0 : Int) <= x.lo /\ x.lo <= x.hi /\ x.hi <= (200000 : Int)) /\ YG a <= (24 :
 Nat) /\ List.Pairwise (λ (x1 x2 : Int) => x1 < x2) (ZN a) /\ ∀ (x : Int), List.Mem x (ZN a) -> (1 : Int) <= x /\ x <= (2000 : Int)
abbrev T5 (a : BkI) : Span := AR (YR a) a.k
abbrev zE (a : BkI) : Prop := a.w.g.length = a.w.g.length
abbrev ABH (a : BkI) : Prop := ∀ (i : Nat), i < a.w.g.length -> (gD a.w.g i).st = (gD a.w.g i).st /\ (gD a.w.g i).lo = (gD a.w.g i).lo /\ (gD a.w.g i).hi = (gD a.w.g i).hi
abbrev K8 (a : BkI) : Prop := a.w.b.length = a.w.b.length
abbrev A8 (a : BkI) : Prop := ∀ (i : Nat), i < a.w.b.length -> gD a.w.b i = gD a.w.b i
abbrev AEJ (a : BkI) : Prop := zE a /\ ABH a /\ K8 a /\ A8 a /\ QO /\ YO a /\ ZL a /\ ∀ (n : Int), (AK a.w n).length = (AK a.w n).length /\ ∀ (i : Nat), Ud i a n ->
 (gD (AK a.w n) i).a0 = (gD (AK a.w n) i).a0 /\ (gD (AK a.w n) i).a1 = (gD (AK a.w n) i).a1 /\ (gD (AK a.w n) i).b0 = (gD (AK a.w n) i).b0 /\ (gD (AK a.w n) i).b1 = (gD (AK a.w n) i).b1
abbrev H8 (a : LH) : Int := a.hi - a.lo
abbrev Pu (a : LH) : Nat := (H8 a).toNat
abbrev Pd (a : BkI) (a1 : LH) : Prop := (AR a.w a.k).lo - (1 : Int) <= a1.lo /\ a1.lo <= a1.hi /\ a1.hi <= (AR a.w a.k).hi /\ ∀ (m : Nat), Pu a1 <= m -> upMO dr2 a = yL (upPO dr2 a) m a1.lo a1.hi
abbrev HZ (a : LH) : Int := IntKind.i64.wrap (a.lo + IntKind.i64.wrap ((IntKind.i64.wrap (IntKind.i64.wrap (H8 a) + (1 : Int))).tdiv (2 : Int)))
abbrev N4 (a : BkI) (a1 : LH) : BkT := BkT.mk (YR a) (HZ a1)
abbrev QM (a : BkI) (a1 : LH) : Bk := CK (YR a) (kB (N4 a a1))
abbrev ACH (a : BkI) (a1 : LH) : List Gau := (QM a a1).g
abbrev Tx (a : BkI) (a1 : LH) (i : Nat) : Gau := gD (ACH a a1) i
abbrev X3 (a : BkI) (a1 : LH) : List Int := (QM a a1).b
abbrev K1 (a : BkI) (a1 : LH) : Bnd := VT (lB (N4 a a1)) (HZ a1)
abbrev P8 (a : BkI) (a1 : LH) : Rt := (K1 a a1).lo
abbrev Z2 (a : BkI) (a1 : LH) : Int := (P8 a a1).n
abbrev yO (a : BkI) (a1 : LH) : Int := (P8 a a1).d
abbrev Z4 (a : BkI) (a1 : LH) : Rt := (K1 a a1).hi
abbrev P4 (a : BkI) (a1 : LH) : Int := (Z4 a a1).n
abbrev yP (a : BkI) (a1 : LH) : Int := (Z4 a a1).d
abbrev Pb (a : BkI) (a1 : LH) : Bnd := dBnd (DVal.agg [CU (Z2 a a1), CU (yO a a1), CU (P4 a a1), CU (yP a a1)])
abbrev C2 (a : BkI) (a1 : LH) : Rt := (Pb a a1).lo
abbrev D5 (a : BkI) (a1 : LH) : Rt := (Pb a a1).hi
abbrev S5 (a : BkI) (a1 : LH) (n : Int) : List Ln := AK (QM a a1) n
abbrev WO (a : BkI) (a1 : LH) (n : Int) (i : Nat) : Ln := gD (S5 a a1 n) i
abbrev ABS (a : BkI) (a1 : LH) : Prop := zE a /\ ABH a /\ K8 a /\ A8 a /\ QO /\ (∀ (n : Int), a.w.has n = (QM a a1).has n) /\ (∀ (n : Int), a.w.st n = (QM a a1).st n) /\ ∀
 (n : Int), (AK a.w n).length = (S5 a a1 n).length /\ ∀ (i : Nat), Ud i a n -> (gD (AK a.w n) i).a0 = (WO a a1 n i).a0 /\ (gD (AK a.w n) i).a1 = (WO a a1 n i).a1 /\ (gD (AK a.w n) i).b0 =
 (WO a a1 n i).b0 /\ (gD (AK a.w n) i).b1 = (WO a a1 n i).b1
abbrev ADN (a : BkI) (a1 : LH) (a2 : LH) : Prop := Pd a a1 /\ Pu a1 < Pu a2
theorem CDO (a : BkI) : (CCS a) = ((a.k = a.k /\ ASV a /\ AJT a /\ V1 a /\ zD a /\ QO /\ YO a /\ ZL a /\ AAV a /\ a.w.g.length = Nx a /\ (∀ (i : Nat), i <
 a.w.g.length -> (gD a.w.g i).st = AYI a i /\ (gD a.w.g i).lo = ARW a i /\ (gD a.w.g i).hi = ART a i) /\ a.w.b.length = YG a /\ (∀ (i : Nat), i < a.w.b.length -> gD a.w.b i = ADX a i) /\ QO /\
 YO a /\ ZL a /\ (∀ (n : Int), (AK a.w n).length = Tp a n /\ ∀ (i : Nat), Ud i a n -> (gD (AK a.w n) i).a0 = D7 a n i /\ (gD (AK a.w n) i).a1 = X7 a n i /\ (gD (AK a.w n) i).b0 =
 R4 a n i /\ (gD (AK a.w n) i).b1 = ABO a n i) /\ G3 a /\ (0 : Int) <= a.k /\ a.k <= (↑(YG a) : Int)) /\ (∃ (a_1 : LH), (a_1.lo = IntKind.i64.wrap ((T5 a).lo - (1 : Int)) /\ a_1.hi = (T5
 a).hi /\ AEJ a) /\ Pd a a_1) /\ ∀ (a_1 : LH), Pd a a_1 -> bif decide (a_1.lo < a_1.hi) then (Int.ofNat (2 : Nat) = Int.ofNat (0 : Nat) -> False) /\ (HZ a_1 = HZ a_1 /\ ASV a /\ AJT a /\
 V1 a /\ zD a /\ QO /\ YO a /\ ZL a /\ AAV a /\ a.w.g.length = (ACH a a_1).length /\ (∀ (i : Nat), i < a.w.g.length -> (gD a.w.g i).st = (Tx a a_1 i).st /\ (gD a.w.g i).lo =
 (Tx a a_1 i).lo /\ (gD a.w.g i).hi = (Tx a a_1 i).hi) /\ a.w.b.length = (X3 a a_1).length /\ (∀ (i : Nat), i < a.w.b.length -> gD a.w.b i = gD (X3 a a_1) i) /\ G3 a /\ (0 : Int) <= HZ
 a_1 /\ HZ a_1 <= (2000 : Int)) /\ ((C2 a a_1).n = Z2 a a_1 /\ (C2 a a_1).d = yO a a_1 /\ (D5 a a_1).n = P4 a a_1 /\ (D5 a a_1).d = yP a a_1) /\ bif dr2 (BnO.mk
 (Pb a a_1)) then ∃ (a_3 : LH), (a_3.lo = HZ a_1 /\ a_3.hi = a_1.hi /\ ABS a a_1) /\ ADN a a_3 a_1 else ∃ (a_3 : LH), (a_3.lo = a_1.lo /\ a_3.hi = IntKind.i64.wrap (HZ a_1 - (1 : Int)) /\
 ABS a a_1) /\ ADN a a_3 a_1 else upMO dr2 a = a_1.lo /\ AEJ a) := by kernel_rfl
def CBG (a : BkI) : Prop := AY Try.prog (BPY P3 LP ((PY P3).spec dBnO) a) Gn (AF Gn) ((VR P3 LP).xs a) (AC ((VR P3 LP).L a)) ((VR P3 LP).val a) ((VR P3 LP).keep a) [] []
abbrev Kq (a : BkI) : List Gau := AD a.w.g.length λ (i : Nat) => gD a.w.g i
abbrev Jq (a : BkI) : Nat := (Kq a).length
abbrev ANW (a : BkI) : Prop := Jq a = a.w.g.length
abbrev oQ (a : BkI) (i : Nat) : Gau := gD (Kq a) i
abbrev ARB (a : BkI) (i : Nat) : Int := (oQ a i).st
abbrev AOY (a : BkI) (i : Nat) : Int := (oQ a i).lo
abbrev AOD (a : BkI) (i : Nat) : Int := (oQ a i).hi
abbrev BAF (a : BkI) : Prop := ∀ (i : Nat), i < Jq a -> ARB a i = (gD a.w.g i).st /\ AOY a i = (gD a.w.g i).lo /\ AOD a i = (gD a.w.g i).hi
abbrev XF (a : BkI) : List Int := AD a.w.b.length λ (i : Nat) => gD a.w.b i
abbrev WT (a : BkI) : Nat := (XF a).length
abbrev Q4 (a : BkI) : Prop := WT a = a.w.b.length
abbrev S8 (a : BkI) (i : Nat) : Int := gD (XF a) i
abbrev yW (a : BkI) : Prop := ∀ (i : Nat), i < WT a -> S8 a i = gD a.w.b i
abbrev S7 : Value := Value.slice none (0 : Nat) (0 : Nat)
abbrev QP : Prop := S7 = S7
abbrev YF (a : BkI) : Prop := ∀ (n : Int), a.w.has n = a.w.has n
abbrev YV (a : BkI) : Prop := ∀ (n : Int), a.w.st n = a.w.st n
abbrev WN (a : BkI) : Bk := Bk.mk (Kq a) (XF a) a.w.has a.w.st
abbrev D2 (a : BkI) (n : Int) : List Ln := AK (WN a) n
abbrev St (a : BkI) (n : Int) : Nat := (D2 a n).length
abbrev Ad (a : BkI) (n : Int) (i : Nat) : Ln := gD (D2 a n) i
abbrev Q6 (a : BkI) (n : Int) (i : Nat) : Int := (Ad a n i).a0
abbrev K4 (a : BkI) (n : Int) (i : Nat) : Int := (Ad a n i).a1
abbrev H3 (a : BkI) (n : Int) (i : Nat) : Int := (Ad a n i).b0
abbrev ACF (a : BkI) (n : Int) (i : Nat) : Int := (Ad a n i).b1
abbrev zI (a : BkI) : Prop := ∀ (n : Int), St a n = (AK a.w n).length /\ ∀ (i : Nat), i < St a n -> Q6 a n i = (gD (AK a.w n) i).a0 /\ K4 a n i = (gD (AK a.w n) i).a1 /\ H3 a n i
 = (gD (AK a.w n) i).b0 /\ ACF a n i = (gD (AK a.w n) i).b1
abbrev Pg (i : Nat) (a : BkI) (n : Int) : Prop := i < (AK a.w n).length
abbrev ADC (a : BkI) : Prop := Jq a <= (24 : Nat) /\ (∀ (x : Gau), List.Mem x (Kq a) -> (0 : Int) <= x.st /\ x.st <= (2000 : Int) /\ (0 : Int) <= x.lo /\ x.lo <= x.hi /\ x.hi <= (200000 : Int)) /\ WT a <= (24 :
 Nat) /\ List.Pairwise (λ (x1 x2 : Int) => x1 < x2) (XF a) /\ ∀ (x : Int), List.Mem x (XF a) -> (1 : Int) <= x /\ x <= (2000 : Int)
abbrev U2 (a : BkI) : Span := AR (WN a) a.k
abbrev A6 (a : BkI) : Prop := a.w.g.length = a.w.g.length
abbrev AAS (a : BkI) : Prop := ∀ (i : Nat), i < a.w.g.length -> (gD a.w.g i).st = (gD a.w.g i).st /\ (gD a.w.g i).lo = (gD a.w.g i).lo /\ (gD a.w.g i).hi = (gD a.w.g i).hi
abbrev AEB (a : BkI) : Prop := a.w.b.length = a.w.b.length
abbrev P2 (a : BkI) : Prop := ∀ (i : Nat), i < a.w.b.length -> gD a.w.b i = gD a.w.b i
abbrev L8 (a : BkI) : Prop := A6 a /\ AAS a /\ AEB a /\ P2 a /\ QP /\ YF a /\ YV a /\ ∀ (n : Int), (AK a.w n).length = (AK a.w n).length /\ ∀ (i : Nat), Pg i a n ->
 (gD (AK a.w n) i).a0 = (gD (AK a.w n) i).a0 /\ (gD (AK a.w n) i).a1 = (gD (AK a.w n) i).a1 /\ (gD (AK a.w n) i).b0 = (gD (AK a.w n) i).b0 /\ (gD (AK a.w n) i).b1 = (gD (AK a.w n) i).b1
abbrev AAI (a : LH) : Int := a.hi - a.lo
abbrev Ta (a : LH) : Nat := (AAI a).toNat
abbrev Us (a : BkI) (a1 : LH) : Prop := (AR a.w a.k).lo - (1 : Int) <= a1.lo /\ a1.lo <= a1.hi /\ a1.hi <= (AR a.w a.k).hi /\ ∀ (m : Nat), Ta a1 <= m -> upMO P3 a = yL (upPO P3 a) m a1.lo a1.hi
abbrev HV (a : LH) : Int := IntKind.i64.wrap (a.lo + IntKind.i64.wrap ((IntKind.i64.wrap (IntKind.i64.wrap (AAI a) + (1 : Int))).tdiv (2 : Int)))
abbrev Z9 (a : BkI) (a1 : LH) : BkT := BkT.mk (WN a) (HV a1)
abbrev QW (a : BkI) (a1 : LH) : Bk := CK (WN a) (kB (Z9 a a1))
abbrev AED (a : BkI) (a1 : LH) : List Gau := (QW a a1).g
abbrev Ub (a : BkI) (a1 : LH) (i : Nat) : Gau := gD (AED a a1) i
abbrev R3 (a : BkI) (a1 : LH) : List Int := (QW a a1).b
abbrev A5 (a : BkI) (a1 : LH) : Bnd := VT (lB (Z9 a a1)) (HV a1)
abbrev AAE (a : BkI) (a1 : LH) : Rt := (A5 a a1).lo
abbrev L4 (a : BkI) (a1 : LH) : Int := (AAE a a1).n
abbrev AEC (a : BkI) (a1 : LH) : Int := (AAE a a1).d
abbrev V2 (a : BkI) (a1 : LH) : Rt := (A5 a a1).hi
abbrev zP (a : BkI) (a1 : LH) : Int := (V2 a a1).n
abbrev ABI (a : BkI) (a1 : LH) : Int := (V2 a a1).d
abbrev Sx (a : BkI) (a1 : LH) : Bnd := dBnd (DVal.agg [CU (L4 a a1), CU (AEC a a1), CU (zP a a1), CU (ABI a a1)])
abbrev ABG (a : BkI) (a1 : LH) : Rt := (Sx a a1).lo
abbrev C9 (a : BkI) (a1 : LH) : Rt := (Sx a a1).hi
abbrev ACS (a : BkI) (a1 : LH) (n : Int) : List Ln := AK (QW a a1) n
abbrev ZQ (a : BkI) (a1 : LH) (n : Int) (i : Nat) : Ln := gD (ACS a a1 n) i
abbrev zR (a : BkI) (a1 : LH) : Prop := A6 a /\ AAS a /\ AEB a /\ P2 a /\ QP /\ (∀ (n : Int), a.w.has n = (QW a a1).has n) /\ (∀ (n : Int), a.w.st n = (QW a a1).st n) /\ ∀
 (n : Int), (AK a.w n).length = (ACS a a1 n).length /\ ∀ (i : Nat), Pg i a n -> (gD (AK a.w n) i).a0 = (ZQ a a1 n i).a0 /\ (gD (AK a.w n) i).a1 = (ZQ a a1 n i).a1 /\ (gD (AK a.w n) i).b0 =
 (ZQ a a1 n i).b0 /\ (gD (AK a.w n) i).b1 = (ZQ a a1 n i).b1
abbrev W9 (a : BkI) (a1 : LH) (a2 : LH) : Prop := Us a a1 /\ Ta a1 < Ta a2
theorem CDX (a : BkI) : (CBG a) = ((a.k = a.k /\ ANW a /\ BAF a /\ Q4 a /\ yW a /\ QP /\ YF a /\ YV a /\ zI a /\ a.w.g.length = Jq a /\ (∀ (i : Nat), i <
 a.w.g.length -> (gD a.w.g i).st = ARB a i /\ (gD a.w.g i).lo = AOY a i /\ (gD a.w.g i).hi = AOD a i) /\ a.w.b.length = WT a /\ (∀ (i : Nat), i < a.w.b.length -> gD a.w.b i = S8 a i) /\ QP /\
 YF a /\ YV a /\ (∀ (n : Int), (AK a.w n).length = St a n /\ ∀ (i : Nat), Pg i a n -> (gD (AK a.w n) i).a0 = Q6 a n i /\ (gD (AK a.w n) i).a1 = K4 a n i /\ (gD (AK a.w n) i).b0 =
 H3 a n i /\ (gD (AK a.w n) i).b1 = ACF a n i) /\ ADC a /\ (0 : Int) <= a.k /\ a.k <= (↑(WT a) : Int)) /\ (∃ (a_1 : LH), (a_1.lo = IntKind.i64.wrap ((U2 a).lo - (1 : Int)) /\ a_1.hi = (U2
 a).hi /\ L8 a) /\ Us a a_1) /\ ∀ (a_1 : LH), Us a a_1 -> bif decide (a_1.lo < a_1.hi) then (Int.ofNat (2 : Nat) = Int.ofNat (0 : Nat) -> False) /\ (HV a_1 = HV a_1 /\ ANW a /\ BAF a /\
 Q4 a /\ yW a /\ QP /\ YF a /\ YV a /\ zI a /\ a.w.g.length = (AED a a_1).length /\ (∀ (i : Nat), i < a.w.g.length -> (gD a.w.g i).st = (Ub a a_1 i).st /\ (gD a.w.g i).lo =
 (Ub a a_1 i).lo /\ (gD a.w.g i).hi = (Ub a a_1 i).hi) /\ a.w.b.length = (R3 a a_1).length /\ (∀ (i : Nat), i < a.w.b.length -> gD a.w.b i = gD (R3 a a_1) i) /\ ADC a /\ (0 : Int) <= HV
 a_1 /\ HV a_1 <= (2000 : Int)) /\ ((ABG a a_1).n = L4 a a_1 /\ (ABG a a_1).d = AEC a a_1 /\ (C9 a a_1).n = zP a a_1 /\ (C9 a a_1).d = ABI a a_1) /\ bif P3 (BnO.mk
 (Sx a a_1)) then ∃ (a_3 : LH), (a_3.lo = HV a_1 /\ a_3.hi = a_1.hi /\ zR a a_1) /\ W9 a a_3 a_1 else ∃ (a_3 : LH), (a_3.lo = a_1.lo /\ a_3.hi = IntKind.i64.wrap (HV a_1 - (1 : Int)) /\
 zR a a_1) /\ W9 a a_3 a_1 else upMO P3 a = a_1.lo /\ L8 a) := by kernel_rfl
theorem CKR (a : BkI) (h : HI a.w.g a.w.b) (hk : 0 <= a.k /\ a.k <= a.w.b.length) (hh : a.w.has a.k = true) : CCS a := by
 rw [CDO]; delta Ie Nx ASV qO AYI ARW ART AJT ZN YG V1 ADX zD R6 QO YO ZL YR ADM Tp YA D7 X7 R4 ABO AAV Ud G3 T5 zE ABH K8 A8 AEJ H8 Pu Pd HZ N4 QM ACH Tx X3 K1 P8 Z2 yO Z4 P4 yP Pb C2 D5 S5 WO ABS ADN; simp only [CC, eq_self, implies_true, forall_const, LB, OO, Vi, Vs, OR, AIB, if_true]
 obtain ⟨s1, s2, s3, s4⟩ := Ha h hk.1 hk.2
 refine ⟨⟨h, hk⟩, ⟨⟨(AR a.w a.k).lo - 1, (AR a.w a.k).hi⟩, ⟨(EO (n := (AR a.w a.k).lo - 1) (by omega) (by omega)).symm, rfl⟩, Int.le_refl _, (by omega : (AR a.w a.k).lo - 1 <= (AR a.w a.k).hi), Int.le_refl _, λ m hm => FC 3000 m ((AR a.w a.k).lo - 1) (AR a.w a.k).hi (by omega) (by omega) hm⟩, λ x ⟨i1, i2, i3, i4⟩ => ⟨λ hl => ?_, λ hl => ?_⟩⟩
 ·obtain ⟨m1, m2⟩ := gR hl
  simp only [BQR (lo := x.lo) (hi := x.hi) (by omega) (by omega) (by omega), show ∀ t, kB ⟨a.w, t⟩ = (LI a.w.b t : Int) from λ _ => rfl, s4 _ (show (AR a.w a.k).lo <= x.lo + (x.hi - x.lo + 1).tdiv 2 by omega) (by omega), TC hh, implies_true, and_true]
  obtain ⟨n, hn⟩ : ∃ n, (x.hi - x.lo).toNat = n + 1 := ⟨(x.hi - x.lo).toNat - 1, by omega⟩
  have key := i4 (n + 1) (by omega)
  unfold yL at key
  rw [decide_eq_true hl] at key
  generalize hM : x.lo + (x.hi - x.lo + 1).tdiv 2 = M at *
  refine ⟨by simp, ⟨h, by omega, by omega⟩, λ hp => ⟨⟨M, x.hi⟩, ⟨rfl, rfl⟩, ⟨(by omega : (AR a.w a.k).lo - 1 <= M), m2, i3, λ m hm => ?_⟩, (by omega : (x.hi - M).toNat < (x.hi - x.lo).toNat)⟩, λ hp => ⟨⟨x.lo, M - 1⟩, ⟨rfl, (EO (n := M - 1) (by omega) (by omega)).symm⟩, ⟨i1, (by omega : x.lo <= M - 1), (by omega : M - 1 <= (AR a.w a.k).hi), λ m hm => ?_⟩, (by omega : (M - 1 - x.lo).toNat < (x.hi - x.lo).toNat)⟩⟩
  ·rw [key, show upPO dr2 a M = true from hp]
   exact FC n m M x.hi m2 (by omega) hm
  ·rw [key, show upPO dr2 a M = false from hp]
   exact FC n m x.lo (M - 1) (by omega) (by omega) hm
 ·rw [i4 0 (by omega)]; rfl
theorem BTL : AG Try.prog aF ((VR dr2 LR).spec (dUpO LR)) := JX (VR dr2 LR) (BPY dr2 LR ((PY dr2).spec dBnO)) [] [] AFK (λ _ => by kernel_rfl) (λ _ => AB Pw (AB Zv (AB CKY AE))) (λ (a : BkI) h => by
 have h : HI a.w.g a.w.b /\ 0 <= a.k /\ a.k <= a.w.b.length /\ a.w.has a.k = true := h
 exact CKR a h.1 ⟨h.2.1, h.2.2.1⟩ h.2.2.2) (λ _ => KJ rfl rfl) _
theorem CKN (a : BkI) (h : HI a.w.g a.w.b) (hk : 0 <= a.k /\ a.k <= a.w.b.length) (hh : a.w.has a.k = true) : CBG a := by
 rw [CDX]; delta Kq Jq ANW oQ ARB AOY AOD BAF XF WT Q4 S8 yW S7 QP YF YV WN D2 St Ad Q6 K4 H3 ACF zI Pg ADC U2 A6 AAS AEB P2 L8 AAI Ta Us HV Z9 QW AED Ub R3 A5 AAE L4 AEC V2 zP ABI Sx ABG C9 ACS ZQ zR W9; simp only [CC, eq_self, implies_true, forall_const, LB, OO, Vi, Vs, OR, AIB, if_true]
 obtain ⟨s1, s2, s3, s4⟩ := Ha h hk.1 hk.2
 refine ⟨⟨h, hk⟩, ⟨⟨(AR a.w a.k).lo - 1, (AR a.w a.k).hi⟩, ⟨(EO (n := (AR a.w a.k).lo - 1) (by omega) (by omega)).symm, rfl⟩, Int.le_refl _, (by omega : (AR a.w a.k).lo - 1 <= (AR a.w a.k).hi), Int.le_refl _, λ m hm => FC 3000 m ((AR a.w a.k).lo - 1) (AR a.w a.k).hi (by omega) (by omega) hm⟩, λ x ⟨i1, i2, i3, i4⟩ => ⟨λ hl => ?_, λ hl => ?_⟩⟩
 ·obtain ⟨m1, m2⟩ := gR hl
  simp only [BQR (lo := x.lo) (hi := x.hi) (by omega) (by omega) (by omega), show ∀ t, kB ⟨a.w, t⟩ = (LI a.w.b t : Int) from λ _ => rfl, s4 _ (show (AR a.w a.k).lo <= x.lo + (x.hi - x.lo + 1).tdiv 2 by omega) (by omega), TC hh, implies_true, and_true]
  obtain ⟨n, hn⟩ : ∃ n, (x.hi - x.lo).toNat = n + 1 := ⟨(x.hi - x.lo).toNat - 1, by omega⟩
  have key := i4 (n + 1) (by omega)
  unfold yL at key
  rw [decide_eq_true hl] at key
  generalize hM : x.lo + (x.hi - x.lo + 1).tdiv 2 = M at *
  refine ⟨by simp, ⟨h, by omega, by omega⟩, λ hp => ⟨⟨M, x.hi⟩, ⟨rfl, rfl⟩, ⟨(by omega : (AR a.w a.k).lo - 1 <= M), m2, i3, λ m hm => ?_⟩, (by omega : (x.hi - M).toNat < (x.hi - x.lo).toNat)⟩, λ hp => ⟨⟨x.lo, M - 1⟩, ⟨rfl, (EO (n := M - 1) (by omega) (by omega)).symm⟩, ⟨i1, (by omega : x.lo <= M - 1), (by omega : M - 1 <= (AR a.w a.k).hi), λ m hm => ?_⟩, (by omega : (M - 1 - x.lo).toNat < (x.hi - x.lo).toNat)⟩⟩
  ·rw [key, show upPO P3 a M = true from hp]
   exact FC n m M x.hi m2 (by omega) hm
  ·rw [key, show upPO P3 a M = false from hp]
   exact FC n m x.lo (M - 1) (by omega) (by omega) hm
 ·rw [i4 0 (by omega)]; rfl
theorem BPV : AG Try.prog aF ((VR P3 LP).spec (dUpO LP)) := JX (VR P3 LP) (BPY P3 LP ((PY P3).spec dBnO)) [] [] AFK (λ _ => by kernel_rfl) (λ _ => AB Pw (AB Zv (AB CKG AE))) (λ (a : BkI) h => by
 have h : HI a.w.g a.w.b /\ 0 <= a.k /\ a.k <= a.w.b.length /\ a.w.has a.k = true := h
 exact CKN a h.1 ⟨h.2.1, h.2.2.1⟩ h.2.2.2) (λ _ => KJ rfl rfl) _
end Go.Bal
