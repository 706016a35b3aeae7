/- Package rating: the last stage of a part for which something is so. -/
import Derived.Test.YtoihhodbkimedaaGreatRatL
set_option linter.unusedVariables false
set_option linter.unusedSimpArgs false
namespace Go.Bal
open Go Go.Sym Go.Proofs
def CQM (a : UpI) : Prop := AN Try.prog (A_up Ym EW ((QK Ym).spec dBnF) a) Gl (AF Gl) ((pQ Ym EW).xs a) (AC ((pQ Ym EW).L a)) ((pQ Ym EW).val a) ((pQ Ym EW).keep a) [] []
abbrev qN (a : UpI) : List Gau := AE a.w.g.length λ (i : Nat) => gD a.w.g i
abbrev tB (a : UpI) : Nat := (qN a).length
abbrev BGS (a : UpI) : Prop := tB a = a.w.g.length
abbrev AJM (a : UpI) (i : Nat) : Gau := gD (qN a) i
abbrev BJQ (a : UpI) (i : Nat) : Int := (AJM a i).st
abbrev BDR (a : UpI) (i : Nat) : Int := (AJM a i).lo
abbrev BDA (a : UpI) (i : Nat) : Int := (AJM a i).hi
abbrev BEL (a : UpI) : Prop := ∀ (i : Nat), i < tB a -> BJQ a i = (gD a.w.g i).st /\ BDR a i = (gD a.w.g i).lo /\ BDA a i = (gD a.w.g i).hi
abbrev Uw (a : UpI) : List Int := AE a.w.b.length λ (i : Nat) => gD a.w.b i
abbrev Xq (a : UpI) : Nat := (Uw a).length
abbrev AMM (a : UpI) : Prop := Xq a = a.w.b.length
abbrev BAB (a : UpI) (i : Nat) : Int := gD (Uw a) i
abbrev AWF (a : UpI) : Prop := ∀ (i : Nat), i < Xq a -> BAB a i = gD a.w.b i
abbrev AKR : Value := Value.slice none (0 : Nat) (0 : Nat)
abbrev XQ : Prop := AKR = AKR
abbrev Pj (a : UpI) : Prop := ∀ (n : Int), a.w.has n = a.w.has n
abbrev Pv (a : UpI) : Prop := ∀ (n : Int), a.w.st n = a.w.st n
abbrev Mp (a : UpI) : Bk := Bk.mk (qN a) (Uw a) a.w.has a.w.st
abbrev AOG (a : UpI) (n : Int) : List Ln := AK (Mp a) n
abbrev xN (a : UpI) (n : Int) : Nat := (AOG a n).length
abbrev Lx (a : UpI) (n : Int) (i : Nat) : Ln := gD (AOG a n) i
abbrev AYU (a : UpI) (n : Int) (i : Nat) : Int := (Lx a n i).a0
abbrev ANG (a : UpI) (n : Int) (i : Nat) : Int := (Lx a n i).a1
abbrev APH (a : UpI) (n : Int) (i : Nat) : Int := (Lx a n i).b0
abbrev ANR (a : UpI) (n : Int) (i : Nat) : Int := (Lx a n i).b1
abbrev AXK (a : UpI) : Prop := ∀ (n : Int), xN a n = (AK a.w n).length /\ ∀ (i : Nat), i < xN a n -> AYU a n i = (gD (AK a.w n) i).a0 /\ ANG a n i = (gD (AK a.w n) i).a1 /\ APH a n i = (gD
 (AK a.w n) i).b0 /\ ANR a n i = (gD (AK a.w n) i).b1
abbrev vE (i : Nat) (a : UpI) (n : Int) : Prop := i < (AK a.w n).length
abbrev AWQ (a : UpI) : Prop := tB a <= (24 : Nat) /\ (∀ (x : Gau), List.Mem x (qN a) -> (0 : Int) <= x.st /\ x.st <= (2000 : Int) /\ (0 : Int) <= x.lo /\ x.lo <= x.hi /\ x.hi <= (200000 : Int)) /\ Xq a <= (24 :
 Nat) /\ List.Pairwise (λ (x1 x2 : Int) => x1 < x2) (Uw a) /\ ∀ (x : Int), List.Mem x (Uw a) -> (1 : Int) <= x /\ x <= (2000 : Int)
abbrev AUM (a : UpI) : Span := AR (Mp a) a.k
abbrev AWN (a : UpI) : Prop := a.w.g.length = a.w.g.length
abbrev ANO (a : UpI) : Prop := ∀ (i : Nat), i < a.w.g.length -> (gD a.w.g i).st = (gD a.w.g i).st /\ (gD a.w.g i).lo = (gD a.w.g i).lo /\ (gD a.w.g i).hi = (gD a.w.g i).hi
abbrev ALM (a : UpI) : Prop := a.w.b.length = a.w.b.length
abbrev AZQ (a : UpI) : Prop := ∀ (i : Nat), i < a.w.b.length -> gD a.w.b i = gD a.w.b i
abbrev wO (a : UpI) : Prop := a.f.n = a.f.n /\ a.f.d = a.f.d
abbrev AML (a : UpI) : Prop := AWN a /\ ANO a /\ ALM a /\ AZQ a /\ XQ /\ Pj a /\ Pv a /\ (∀ (n : Int), (AK a.w n).length = (AK a.w n).length /\ ∀ (i : Nat), vE i a n -> (gD (AK
 a.w n) i).a0 = (gD (AK a.w n) i).a0 /\ (gD (AK a.w n) i).a1 = (gD (AK a.w n) i).a1 /\ (gD (AK a.w n) i).b0 = (gD (AK a.w n) i).b0 /\ (gD (AK a.w n) i).b1 = (gD (AK a.w n) i).b1) /\ wO a
abbrev AKB (a : LH) : Int := a.hi - a.lo
abbrev rY (a : LH) : Nat := (AKB a).toNat
abbrev tA (a : UpI) (a1 : LH) : Prop := (AR a.w a.k).lo - (1 : Int) <= a1.lo /\ a1.lo <= a1.hi /\ a1.hi <= (AR a.w a.k).hi /\ ∀ (m : Nat), rY a1 <= m -> upM Ym a = wB (upP Ym a) m a1.lo a1.hi
abbrev LG (a : LH) : Int := IntKind.i64.wrap (a.lo + IntKind.i64.wrap ((IntKind.i64.wrap (IntKind.i64.wrap (AKB a) + (1 : Int))).tdiv (2 : Int)))
abbrev ANK (a : UpI) (a1 : LH) : BkT := BkT.mk (Mp a) (LG a1)
abbrev WX (a : UpI) (a1 : LH) : Bk := CF (Mp a) (kB (ANK a a1))
abbrev ATE (a : UpI) (a1 : LH) : List Gau := (WX a a1).g
abbrev sD (a : UpI) (a1 : LH) (i : Nat) : Gau := gD (ATE a a1) i
abbrev AKL (a : UpI) (a1 : LH) : List Int := (WX a a1).b
abbrev AOY (a : UpI) (a1 : LH) : Bnd := SI (lB (ANK a a1)) (LG a1)
abbrev AXX (a : UpI) (a1 : LH) : Rt := (AOY a a1).lo
abbrev AWG (a : UpI) (a1 : LH) : Int := (AXX a a1).n
abbrev AZG (a : UpI) (a1 : LH) : Int := (AXX a a1).d
abbrev ANH (a : UpI) (a1 : LH) : Rt := (AOY a a1).hi
abbrev ALR (a : UpI) (a1 : LH) : Int := (ANH a a1).n
abbrev AXB (a : UpI) (a1 : LH) : Int := (ANH a a1).d
abbrev pM (a : UpI) (a1 : LH) : Bnd := dBnd (DVal.agg [CU (AWG a a1), CU (AZG a a1), CU (ALR a a1), CU (AXB a a1)])
abbrev ANB (a : UpI) (a1 : LH) : Rt := (pM a a1).lo
abbrev ATU (a : UpI) (a1 : LH) : Rt := (pM a a1).hi
abbrev AXA (a : UpI) (a1 : LH) (n : Int) : List Ln := AK (WX a a1) n
abbrev Jm (a : UpI) (a1 : LH) (n : Int) (i : Nat) : Ln := gD (AXA a a1 n) i
abbrev AWM (a : UpI) (a1 : LH) : Prop := AWN a /\ ANO a /\ ALM a /\ AZQ a /\ XQ /\ (∀ (n : Int), a.w.has n = (WX a a1).has n) /\ (∀ (n : Int), a.w.st n = (WX a a1).st n) /\ (∀ (n :
 Int), (AK a.w n).length = (AXA a a1 n).length /\ ∀ (i : Nat), vE i a n -> (gD (AK a.w n) i).a0 = (Jm a a1 n i).a0 /\ (gD (AK a.w n) i).a1 = (Jm a a1 n i).a1 /\ (gD (AK a.w n) i).b0 = (Jm a a1
 n i).b0 /\ (gD (AK a.w n) i).b1 = (Jm a a1 n i).b1) /\ wO a
abbrev AVY (a : UpI) (a1 : LH) (a2 : LH) : Prop := tA a a1 /\ rY a1 < rY a2
theorem CSZ (a : UpI) : (CQM a) = ((a.k = a.k /\ BGS a /\ BEL a /\ AMM a /\ AWF a /\ XQ /\ Pj a /\ Pv a /\ AXK a /\ a.w.g.length = tB a /\ (∀ (i : Nat), i < a.w.g.length -> (gD
 a.w.g i).st = BJQ a i /\ (gD a.w.g i).lo = BDR a i /\ (gD a.w.g i).hi = BDA a i) /\ a.w.b.length = Xq a /\ (∀ (i : Nat), i < a.w.b.length -> gD a.w.b i = BAB a i) /\ XQ /\ Pj a /\ Pv a /\
 (∀ (n : Int), (AK a.w n).length = xN a n /\ ∀ (i : Nat), vE i a n -> (gD (AK a.w n) i).a0 = AYU a n i /\ (gD (AK a.w n) i).a1 = ANG a n i /\ (gD (AK a.w n) i).b0 = APH a n i /\ (gD (AK a.w n)
 i).b1 = ANR a n i) /\ AWQ a /\ (0 : Int) <= a.k /\ a.k <= (↑(Xq a) : Int)) /\ (∃ (a_1 : LH), (a_1.lo = IntKind.i64.wrap ((AUM a).lo - (1 : Int)) /\ a_1.hi = (AUM a).hi /\ AML a) /\ tA a a_1) /\
 ∀ (a_1 : LH), tA a a_1 -> bif decide (a_1.lo < a_1.hi) then (Int.ofNat (2 : Nat) = Int.ofNat (0 : Nat) -> False) /\ (LG a_1 = LG a_1 /\ BGS a /\ BEL a /\ AMM a /\ AWF a /\ XQ /\ Pj
 a /\ Pv a /\ AXK a /\ a.w.g.length = (ATE a a_1).length /\ (∀ (i : Nat), i < a.w.g.length -> (gD a.w.g i).st = (sD a a_1 i).st /\ (gD a.w.g i).lo = (sD a a_1 i).lo /\ (gD a.w.g i).hi = (sD a
 a_1 i).hi) /\ a.w.b.length = (AKL a a_1).length /\ (∀ (i : Nat), i < a.w.b.length -> gD a.w.b i = gD (AKL a a_1) i) /\ AWQ a /\ (0 : Int) <= LG a_1 /\ LG a_1 <= (2000 : Int)) /\ ((ANB a a_1).n =
 AWG a a_1 /\ (ANB a a_1).d = AZG a a_1 /\ (ATU a a_1).n = ALR a a_1 /\ (ATU a a_1).d = AXB a a_1 /\ a.f.n = a.f.n /\ a.f.d = a.f.d /\ wO a) /\ bif Ym (BnF.mk (pM a a_1) a.f) then
 ∃ (a_3 : LH), (a_3.lo = LG a_1 /\ a_3.hi = a_1.hi /\ AWM a a_1) /\ AVY a a_3 a_1 else ∃ (a_3 : LH), (a_3.lo = a_1.lo /\ a_3.hi = IntKind.i64.wrap (LG a_1 - (1 : Int)) /\ AWM a a_1) /\ AVY a a_3
 a_1 else upM Ym a = a_1.lo /\ AML a) := by kernel_rfl
theorem CXK (a : UpI) (h : GZ a.w.g a.w.b) (hk : 0 <= a.k /\ a.k <= a.w.b.length) (hh : a.w.has a.k = true) : CQM a := by
 rw [CSZ]; delta qN tB BGS AJM BJQ BDR BDA BEL Uw Xq AMM BAB AWF AKR XQ Pj Pv Mp AOG xN Lx AYU ANG APH ANR AXK vE AWQ AUM AWN ANO ALM AZQ wO AML AKB rY tA LG ANK WX ATE sD AKL AOY AXX AWG AZG ANH ALR AXB pM ANB ATU AXA Jm AWM AVY; simp only [CC, eq_self, implies_true, forall_const, JG, JP, Iz, Iy, JT, AGX, if_true]
 obtain ⟨s1, s2, s3, s4⟩ := JA h hk.1 hk.2
 refine ⟨⟨h, hk⟩, ⟨⟨(AR a.w a.k).lo - 1, (AR a.w a.k).hi⟩, ⟨(EV (n := (AR a.w a.k).lo - 1) (by omega) (by omega)).symm, rfl⟩, Int.le_refl _, (by omega : (AR a.w a.k).lo - 1 <= (AR a.w a.k).hi), Int.le_refl _, λ m hm => FF 3000 m ((AR a.w a.k).lo - 1) (AR a.w a.k).hi (by omega) (by omega) hm⟩, λ x ⟨i1, i2, i3, i4⟩ => ⟨λ hl => ?_, λ hl => ?_⟩⟩
 ·obtain ⟨m1, m2⟩ := aB hl
  simp only [BUR (lo := x.lo) (hi := x.hi) (by omega) (by omega) (by omega), show ∀ t, kB ⟨a.w, t⟩ = (ET a.w.b t : Int) from λ _ => rfl, s4 _ (show (AR a.w a.k).lo <= x.lo + (x.hi - x.lo + 1).tdiv 2 by omega) (by omega), TS hh, implies_true, and_true]
  obtain ⟨n, hn⟩ : ∃ n, (x.hi - x.lo).toNat = n + 1 := ⟨(x.hi - x.lo).toNat - 1, by omega⟩
  have key := i4 (n + 1) (by omega)
  unfold wB at key
  rw [decide_eq_true hl] at key
  generalize hM : x.lo + (x.hi - x.lo + 1).tdiv 2 = M at *
  refine ⟨by simp, ⟨h, by omega, by omega⟩, λ hp => ⟨⟨M, x.hi⟩, ⟨rfl, rfl⟩, ⟨(by omega : (AR a.w a.k).lo - 1 <= M), m2, i3, λ m hm => ?_⟩, (by omega : (x.hi - M).toNat < (x.hi - x.lo).toNat)⟩, λ hp => ⟨⟨x.lo, M - 1⟩, ⟨rfl, (EV (n := M - 1) (by omega) (by omega)).symm⟩, ⟨i1, (by omega : x.lo <= M - 1), (by omega : M - 1 <= (AR a.w a.k).hi), λ m hm => ?_⟩, (by omega : (M - 1 - x.lo).toNat < (x.hi - x.lo).toNat)⟩⟩
  ·rw [key, show upP Ym a M = true from hp]
   exact FF n m M x.hi m2 (by omega) hm
  ·rw [key, show upP Ym a M = false from hp]
   exact FF n m x.lo (M - 1) (by omega) (by omega) hm
 ·rw [i4 0 (by omega)]; rfl
theorem CFS : AG Try.prog iU ((pQ eT EO).spec (dUpI EO)) := HR (pQ eT EO) (A_up eT EO ((QK eT).spec dBnF)) [] [] AJG (λ _ => by kernel_rfl) (λ _ => AB Yd (AB Cs (AB CQZ AD))) (λ (a : UpI) h => by
 have h : GZ a.w.g a.w.b /\ 0 <= a.k /\ a.k <= a.w.b.length /\ a.w.has a.k = true := h
 exact CWP a h.1 ⟨h.2.1, h.2.2.1⟩ h.2.2.2) (λ _ => IN rfl rfl) _
theorem CIE : AG Try.prog iU ((pQ Ym EW).spec (dUpI EW)) := HR (pQ Ym EW) (A_up Ym EW ((QK Ym).spec dBnF)) [] [] AJG (λ _ => by kernel_rfl) (λ _ => AB Yd (AB Cs (AB CTJ AD))) (λ (a : UpI) h => by
 have h : GZ a.w.g a.w.b /\ 0 <= a.k /\ a.k <= a.w.b.length /\ a.w.has a.k = true := h
 exact CXK a h.1 ⟨h.2.1, h.2.2.1⟩ h.2.2.2) (λ _ => IN rfl rfl) _
def dryR (r : Rt) : Bool := r.n == 0 && r.d == 1
def BZO := pD dR1 λ r => .bool (dryR r)
def CES (r : Rt) : Prop := AN Try.prog (ann 6 []) BSH (AF BSH) (xR1 r) (AC []) (.bool (dryR r)) [] [] []
theorem CND (r : Rt) : (CES r) = (dryR r = (r.n == 0 && (r.d == 1 && true))) := by kernel_rfl
structure BnO where
 b : Bnd
def bxF : AObj := .box [.fn (.func D2) [] []]
def dBnO : List AVal -> Heap -> Option (BnO × List (Nat × Nat) × List Nat)
 | [.d x, .bptr id _], H => match H id with
  | .live (.box [.fn (.func g) [] []]) => if g = D2 then some (⟨dBnd x⟩, [(100, id)], []) else none
  | _ => none
 | _, _ => none
def QM (v : BnO -> Bool) : Ctr := { ro := [100], α := BnO, xs := λ a => [.d (eBnd a.b), .bptr 100 0], L := λ _ => [(100, bxF)], val := λ a => .bool (v a), keep := λ _ => [(100, .live bxF)] }
def Yv (a : BnO) : Bool := dryR a.b.hi
def nZ (a : BnO) : Bool := dryR a.b.lo
def BSX : Ann := { ann 8 [(D2, BZO)] with E := [100] }
def CPD (a : BnO) : Prop := AN Try.prog BSX BRZ (AF BRZ) ((QM Yv).xs a) (AC ((QM Yv).L a)) ((QM Yv).val a) ((QM Yv).keep a) [] []
theorem CTC (a : BnO) : (CPD a) = (Yv a = dryR a.b.hi) := by kernel_rfl
def COL (a : BnO) : Prop := AN Try.prog BSX BPJ (AF BPJ) ((QM nZ).xs a) (AC ((QM nZ).L a)) ((QM nZ).val a) ((QM nZ).keep a) [] []
theorem CTM (a : BnO) : (COL a) = (nZ a = dryR a.b.lo) := by kernel_rfl
theorem BWP : AG Try.prog D2 BZO := EL xR1 hR1 λ g _ => KZ (A := ann 6 []) (ren := []) (fz := []) CMK (by kernel_rfl) AD (by
 show CES g; rw [CND]; unfold dryR; rw [Bool.and_true])
theorem CUH : AG Try.prog MF ((QM Yv).spec dBnO) := HR (QM Yv) (λ _ => BSX) [] [] CMF (λ _ => by kernel_rfl) (λ _ => AB BWP AD) (λ (a : BnO) _ => by
 show CPD a; rw [CTC]; rfl) (λ _ => IN rfl rfl) _
theorem CST : AG Try.prog ML ((QM nZ).spec dBnO) := HR (QM nZ) (λ _ => BSX) [] [] CNJ (λ _ => by kernel_rfl) (λ _ => AB BWP AD) (λ (a : BnO) _ => by
 show COL a; rw [CTM]; rfl) (λ _ => IN rfl rfl) _
def dUpO (n : FuncId) : List AVal -> Heap -> Option (BkI × List (Nat × Nat) × List Nat)
 | [.bptr id _, .d k, .fn (.func g) [] [.bptr c _]], H => if g = n then match BBF H id, H c with
  | some (w, q), .live (.box [.fn (.func f) [] []]) => if f = D2 then some (⟨w, DH k⟩, [(100, id), (101, q), (102, c)], []) else none
  | _, _ => none else none
 | _, _ => none
def U2 (v : BnO -> Bool) (a : BkI) (t : Int) : Bool := v ⟨SI (lB ⟨a.w, t⟩) t⟩
def TL (v : BnO -> Bool) (a : BkI) : Int := wB (U2 v a) 3000 ((AR a.w a.k).lo - 1) (AR a.w a.k).hi
def upHO (a : BkI) : List (Nat × HCell) := bkK a.w ++ [(102, .live bxF)]
def upO3 (v : BnO -> Bool) (n : FuncId) (a : BkI) : Shape := { α := LH, dflt := default, T := λ x => ⟨[(0, .bptr 100 0), (2, .fn (.func n) [] [.bptr 102 0]), (8, .int x.lo), (9, .int x.hi)], upHO a⟩, inv := λ x => (AR a.w a.k).lo - 1 <= x.lo /\ x.lo <= x.hi /\ x.hi <= (AR a.w a.k).hi /\ ∀ m : Nat, (x.hi - x.lo).toNat <= m -> TL v a = wB (U2 v a) m x.lo x.hi, meas := λ x => (x.hi - x.lo).toNat }
def WA (v : BnO -> Bool) (n : FuncId) : Ctr := { ro := [100, 101, 102], α := BkI, xs := λ a => [.bptr 100 0, .int a.k, .fn (.func n) [] [.bptr 102 0]], L := λ a => bkL a.w ++ [(102, bxF)], val := λ a => .int (TL v a), keep := λ a => upHO a, pre := λ a => [GZ a.w.g a.w.b /\ 0 <= a.k /\ a.k <= a.w.b.length /\ a.w.has a.k = true] }
def BTW (v : BnO -> Bool) (n : FuncId) (f : Sym.Spec) (a : BkI) : Ann := { ann 44 [(ALE, C_span.spec dBkI), (PL, C_bnd.spec dBkt), (n, f)] with E := [100, 101, 102], loops := λ id => if id = 3 then some [upO3 v n a] else none }
def CBG (a : BkI) : Prop := AN Try.prog (BTW Yv MF ((QM Yv).spec dBnO) a) Gl (AF Gl) ((WA Yv MF).xs a) (AC ((WA Yv MF).L a)) ((WA Yv MF).val a) ((WA Yv MF).keep a) [] []
abbrev Kp (a : BkI) : List Gau := AE a.w.g.length λ (i : Nat) => gD a.w.g i
abbrev Jv (a : BkI) : Nat := (Kp a).length
abbrev AYL (a : BkI) : Prop := Jv a = a.w.g.length
abbrev qV (a : BkI) (i : Nat) : Gau := gD (Kp a) i
abbrev AMK (a : BkI) (i : Nat) : Int := (qV a i).st
abbrev AQR (a : BkI) (i : Nat) : Int := (qV a i).lo
abbrev AUF (a : BkI) (i : Nat) : Int := (qV a i).hi
abbrev AZH (a : BkI) : Prop := ∀ (i : Nat), i < Jv a -> AMK a i = (gD a.w.g i).st /\ AQR a i = (gD a.w.g i).lo /\ AUF a i = (gD a.w.g i).hi
abbrev ZM (a : BkI) : List Int := AE a.w.b.length λ (i : Nat) => gD a.w.b i
abbrev By (a : BkI) : Nat := (ZM a).length
abbrev xW (a : BkI) : Prop := By a = a.w.b.length
abbrev AAH (a : BkI) (i : Nat) : Int := gD (ZM a) i
abbrev ADU (a : BkI) : Prop := ∀ (i : Nat), i < By a -> AAH a i = gD a.w.b i
abbrev B7 : Value := Value.slice none (0 : Nat) (0 : Nat)
abbrev QX : Prop := B7 = B7
abbrev WN (a : BkI) : Prop := ∀ (n : Int), a.w.has n = a.w.has n
abbrev XV (a : BkI) : Prop := ∀ (n : Int), a.w.st n = a.w.st n
abbrev YQ (a : BkI) : Bk := Bk.mk (Kp a) (ZM a) a.w.has a.w.st
abbrev AAU (a : BkI) (n : Int) : List Ln := AK (YQ a) n
abbrev Xa (a : BkI) (n : Int) : Nat := (AAU a n).length
abbrev Ch (a : BkI) (n : Int) (i : Nat) : Ln := gD (AAU a n) i
abbrev zH (a : BkI) (n : Int) (i : Nat) : Int := (Ch a n i).a0
abbrev zM (a : BkI) (n : Int) (i : Nat) : Int := (Ch a n i).a1
abbrev ADO (a : BkI) (n : Int) (i : Nat) : Int := (Ch a n i).b0
abbrev R3 (a : BkI) (n : Int) (i : Nat) : Int := (Ch a n i).b1
abbrev AAA (a : BkI) : Prop := ∀ (n : Int), Xa a n = (AK a.w n).length /\ ∀ (i : Nat), i < Xa a n -> zH a n i = (gD (AK a.w n) i).a0 /\ zM a n i = (gD (AK a.w n) i).a1 /\ ADO a n i
 = (gD (AK a.w n) i).b0 /\ R3 a n i = (gD (AK a.w n) i).b1
abbrev Ur (i : Nat) (a : BkI) (n : Int) : Prop := i < (AK a.w n).length
abbrev K3 (a : BkI) : Prop := Jv a <= (24 : Nat) /\ (∀ (x : Gau), List.Mem x (Kp a) -> (0 : Int) <= x.st /\ x.st <= (2000 : Int) /\ (0 : Int) <= x.lo /\ x.lo <= x.hi /\ x.hi <= (200000 : Int)) /\ By a <= (24 :
 Nat) /\ List.Pairwise (λ (x1 x2 : Int) => x1 < x2) (ZM a) /\ ∀ (x : Int), List.Mem x (ZM a) -> (1 : Int) <= x /\ x <= (2000 : Int)
abbrev AEB (a : BkI) : Span := AR (YQ a) a.k
abbrev Q5 (a : BkI) : Prop := a.w.g.length = a.w.g.length
abbrev T8 (a : BkI) : Prop := ∀ (i : Nat), i < a.w.g.length -> (gD a.w.g i).st = (gD a.w.g i).st /\ (gD a.w.g i).lo = (gD a.w.g i).lo /\ (gD a.w.g i).hi = (gD a.w.g i).hi
abbrev zG (a : BkI) : Prop := a.w.b.length = a.w.b.length
abbrev ADH (a : BkI) : Prop := ∀ (i : Nat), i < a.w.b.length -> gD a.w.b i = gD a.w.b i
abbrev yR (a : BkI) : Prop := Q5 a /\ T8 a /\ zG a /\ ADH a /\ QX /\ WN a /\ XV a /\ ∀ (n : Int), (AK a.w n).length = (AK a.w n).length /\ ∀ (i : Nat), Ur i a n ->
 (gD (AK a.w n) i).a0 = (gD (AK a.w n) i).a0 /\ (gD (AK a.w n) i).a1 = (gD (AK a.w n) i).a1 /\ (gD (AK a.w n) i).b0 = (gD (AK a.w n) i).b0 /\ (gD (AK a.w n) i).b1 = (gD (AK a.w n) i).b1
abbrev zY (a : LH) : Int := a.hi - a.lo
abbrev Vu (a : LH) : Nat := (zY a).toNat
abbrev Ts (a : BkI) (a1 : LH) : Prop := (AR a.w a.k).lo - (1 : Int) <= a1.lo /\ a1.lo <= a1.hi /\ a1.hi <= (AR a.w a.k).hi /\ ∀ (m : Nat), Vu a1 <= m -> TL Yv a = wB (U2 Yv a) m a1.lo a1.hi
abbrev II (a : LH) : Int := IntKind.i64.wrap (a.lo + IntKind.i64.wrap ((IntKind.i64.wrap (IntKind.i64.wrap (zY a) + (1 : Int))).tdiv (2 : Int)))
abbrev AAZ (a : BkI) (a1 : LH) : BkT := BkT.mk (YQ a) (II a1)
abbrev RD (a : BkI) (a1 : LH) : Bk := CF (YQ a) (kB (AAZ a a1))
abbrev ACE (a : BkI) (a1 : LH) : List Gau := (RD a a1).g
abbrev Xu (a : BkI) (a1 : LH) (i : Nat) : Gau := gD (ACE a a1) i
abbrev ABA (a : BkI) (a1 : LH) : List Int := (RD a a1).b
abbrev AET (a : BkI) (a1 : LH) : Bnd := SI (lB (AAZ a a1)) (II a1)
abbrev AAP (a : BkI) (a1 : LH) : Rt := (AET a a1).lo
abbrev J2 (a : BkI) (a1 : LH) : Int := (AAP a a1).n
abbrev F9 (a : BkI) (a1 : LH) : Int := (AAP a a1).d
abbrev L8 (a : BkI) (a1 : LH) : Rt := (AET a a1).hi
abbrev O7 (a : BkI) (a1 : LH) : Int := (L8 a a1).n
abbrev ABF (a : BkI) (a1 : LH) : Int := (L8 a a1).d
abbrev Um (a : BkI) (a1 : LH) : Bnd := dBnd (DVal.agg [CU (J2 a a1), CU (F9 a a1), CU (O7 a a1), CU (ABF a a1)])
abbrev Y9 (a : BkI) (a1 : LH) : Rt := (Um a a1).lo
abbrev I8 (a : BkI) (a1 : LH) : Rt := (Um a a1).hi
abbrev U6 (a : BkI) (a1 : LH) (n : Int) : List Ln := AK (RD a a1) n
abbrev Ab (a : BkI) (a1 : LH) (n : Int) (i : Nat) : Ln := gD (U6 a a1 n) i
abbrev AFD (a : BkI) (a1 : LH) : Prop := Q5 a /\ T8 a /\ zG a /\ ADH a /\ QX /\ (∀ (n : Int), a.w.has n = (RD a a1).has n) /\ (∀ (n : Int), a.w.st n = (RD a a1).st n) /\ ∀
 (n : Int), (AK a.w n).length = (U6 a a1 n).length /\ ∀ (i : Nat), Ur i a n -> (gD (AK a.w n) i).a0 = (Ab a a1 n i).a0 /\ (gD (AK a.w n) i).a1 = (Ab a a1 n i).a1 /\ (gD (AK a.w n) i).b0 =
 (Ab a a1 n i).b0 /\ (gD (AK a.w n) i).b1 = (Ab a a1 n i).b1
abbrev N3 (a : BkI) (a1 : LH) (a2 : LH) : Prop := Ts a a1 /\ Vu a1 < Vu a2
theorem CKB (a : BkI) : (CBG a) = ((a.k = a.k /\ AYL a /\ AZH a /\ xW a /\ ADU a /\ QX /\ WN a /\ XV a /\ AAA a /\ a.w.g.length = Jv a /\ (∀ (i : Nat), i <
 a.w.g.length -> (gD a.w.g i).st = AMK a i /\ (gD a.w.g i).lo = AQR a i /\ (gD a.w.g i).hi = AUF a i) /\ a.w.b.length = By a /\ (∀ (i : Nat), i < a.w.b.length -> gD a.w.b i = AAH a i) /\ QX /\
 WN a /\ XV a /\ (∀ (n : Int), (AK a.w n).length = Xa a n /\ ∀ (i : Nat), Ur i a n -> (gD (AK a.w n) i).a0 = zH a n i /\ (gD (AK a.w n) i).a1 = zM a n i /\ (gD (AK a.w n) i).b0 =
 ADO a n i /\ (gD (AK a.w n) i).b1 = R3 a n i) /\ K3 a /\ (0 : Int) <= a.k /\ a.k <= (↑(By a) : Int)) /\ (∃ (a_1 : LH), (a_1.lo = IntKind.i64.wrap ((AEB a).lo - (1 : Int)) /\ a_1.hi = (AEB
 a).hi /\ yR a) /\ Ts a a_1) /\ ∀ (a_1 : LH), Ts a a_1 -> bif decide (a_1.lo < a_1.hi) then (Int.ofNat (2 : Nat) = Int.ofNat (0 : Nat) -> False) /\ (II a_1 = II a_1 /\ AYL a /\ AZH a /\
 xW a /\ ADU a /\ QX /\ WN a /\ XV a /\ AAA a /\ a.w.g.length = (ACE a a_1).length /\ (∀ (i : Nat), i < a.w.g.length -> (gD a.w.g i).st = (Xu a a_1 i).st /\ (gD a.w.g i).lo =
 (Xu a a_1 i).lo /\ (gD a.w.g i).hi = (Xu a a_1 i).hi) /\ a.w.b.length = (ABA a a_1).length /\ (∀ (i : Nat), i < a.w.b.length -> gD a.w.b i = gD (ABA a a_1) i) /\ K3 a /\ (0 : Int) <= II
 a_1 /\ II a_1 <= (2000 : Int)) /\ ((Y9 a a_1).n = J2 a a_1 /\ (Y9 a a_1).d = F9 a a_1 /\ (I8 a a_1).n = O7 a a_1 /\ (I8 a a_1).d = ABF a a_1) /\ bif Yv (BnO.mk
 (Um a a_1)) then ∃ (a_3 : LH), (a_3.lo = II a_1 /\ a_3.hi = a_1.hi /\ AFD a a_1) /\ N3 a a_3 a_1 else ∃ (a_3 : LH), (a_3.lo = a_1.lo /\ a_3.hi = IntKind.i64.wrap (II a_1 - (1 : Int)) /\
 AFD a a_1) /\ N3 a a_3 a_1 else TL Yv a = a_1.lo /\ yR a) := by kernel_rfl
def CEO (a : BkI) : Prop := AN Try.prog (BTW nZ ML ((QM nZ).spec dBnO) a) Gl (AF Gl) ((WA nZ ML).xs a) (AC ((WA nZ ML).L a)) ((WA nZ ML).val a) ((WA nZ ML).keep a) [] []
abbrev Np (a : BkI) : List Gau := AE a.w.g.length λ (i : Nat) => gD a.w.g i
abbrev Oz (a : BkI) : Nat := (Np a).length
abbrev ATP (a : BkI) : Prop := Oz a = a.w.g.length
abbrev wL (a : BkI) (i : Nat) : Gau := gD (Np a) i
abbrev ARO (a : BkI) (i : Nat) : Int := (wL a i).st
abbrev APX (a : BkI) (i : Nat) : Int := (wL a i).lo
abbrev ATW (a : BkI) (i : Nat) : Int := (wL a i).hi
abbrev AZE (a : BkI) : Prop := ∀ (i : Nat), i < Oz a -> ARO a i = (gD a.w.g i).st /\ APX a i = (gD a.w.g i).lo /\ ATW a i = (gD a.w.g i).hi
abbrev WT (a : BkI) : List Int := AE a.w.b.length λ (i : Nat) => gD a.w.b i
abbrev Az (a : BkI) : Nat := (WT a).length
abbrev ADM (a : BkI) : Prop := Az a = a.w.b.length
abbrev M3 (a : BkI) (i : Nat) : Int := gD (WT a) i
abbrev I9 (a : BkI) : Prop := ∀ (i : Nat), i < Az a -> M3 a i = gD a.w.b i
abbrev AEZ : Value := Value.slice none (0 : Nat) (0 : Nat)
abbrev RO : Prop := AEZ = AEZ
abbrev Ao (a : BkI) : Prop := ∀ (n : Int), a.w.has n = a.w.has n
abbrev Bi (a : BkI) : Prop := ∀ (n : Int), a.w.st n = a.w.st n
abbrev Bu (a : BkI) : Bk := Bk.mk (Np a) (WT a) a.w.has a.w.st
abbrev AAF (a : BkI) (n : Int) : List Ln := AK (Bu a) n
abbrev Vp (a : BkI) (n : Int) : Nat := (AAF a n).length
abbrev YL (a : BkI) (n : Int) (i : Nat) : Ln := gD (AAF a n) i
abbrev Z4 (a : BkI) (n : Int) (i : Nat) : Int := (YL a n i).a0
abbrev S1 (a : BkI) (n : Int) (i : Nat) : Int := (YL a n i).a1
abbrev yV (a : BkI) (n : Int) (i : Nat) : Int := (YL a n i).b0
abbrev C8 (a : BkI) (n : Int) (i : Nat) : Int := (YL a n i).b1
abbrev L6 (a : BkI) : Prop := ∀ (n : Int), Vp a n = (AK a.w n).length /\ ∀ (i : Nat), i < Vp a n -> Z4 a n i = (gD (AK a.w n) i).a0 /\ S1 a n i = (gD (AK a.w n) i).a1 /\ yV a n i
 = (gD (AK a.w n) i).b0 /\ C8 a n i = (gD (AK a.w n) i).b1
abbrev Vd (i : Nat) (a : BkI) (n : Int) : Prop := i < (AK a.w n).length
abbrev M7 (a : BkI) : Prop := Oz a <= (24 : Nat) /\ (∀ (x : Gau), List.Mem x (Np a) -> (0 : Int) <= x.st /\ x.st <= (2000 : Int) /\ (0 : Int) <= x.lo /\ x.lo <= x.hi /\ x.hi <= (200000 : Int)) /\ Az a <= (24 :
 Nat) /\ List.Pairwise (λ (x1 x2 : Int) => x1 < x2) (WT a) /\ ∀ (x : Int), List.Mem x (WT a) -> (1 : Int) <= x /\ x <= (2000 : Int)
abbrev zQ (a : BkI) : Span := AR (Bu a) a.k
abbrev xT (a : BkI) : Prop := a.w.g.length = a.w.g.length
abbrev AEK (a : BkI) : Prop := ∀ (i : Nat), i < a.w.g.length -> (gD a.w.g i).st = (gD a.w.g i).st /\ (gD a.w.g i).lo = (gD a.w.g i).lo /\ (gD a.w.g i).hi = (gD a.w.g i).hi
abbrev AAE (a : BkI) : Prop := a.w.b.length = a.w.b.length
abbrev Z9 (a : BkI) : Prop := ∀ (i : Nat), i < a.w.b.length -> gD a.w.b i = gD a.w.b i
abbrev ABV (a : BkI) : Prop := xT a /\ AEK a /\ AAE a /\ Z9 a /\ RO /\ Ao a /\ Bi a /\ ∀ (n : Int), (AK a.w n).length = (AK a.w n).length /\ ∀ (i : Nat), Vd i a n ->
 (gD (AK a.w n) i).a0 = (gD (AK a.w n) i).a0 /\ (gD (AK a.w n) i).a1 = (gD (AK a.w n) i).a1 /\ (gD (AK a.w n) i).b0 = (gD (AK a.w n) i).b0 /\ (gD (AK a.w n) i).b1 = (gD (AK a.w n) i).b1
abbrev Y5 (a : LH) : Int := a.hi - a.lo
abbrev Wz (a : LH) : Nat := (Y5 a).toNat
abbrev Ua (a : BkI) (a1 : LH) : Prop := (AR a.w a.k).lo - (1 : Int) <= a1.lo /\ a1.lo <= a1.hi /\ a1.hi <= (AR a.w a.k).hi /\ ∀ (m : Nat), Wz a1 <= m -> TL nZ a = wB (U2 nZ a) m a1.lo a1.hi
abbrev IF (a : LH) : Int := IntKind.i64.wrap (a.lo + IntKind.i64.wrap ((IntKind.i64.wrap (IntKind.i64.wrap (Y5 a) + (1 : Int))).tdiv (2 : Int)))
abbrev S3 (a : BkI) (a1 : LH) : BkT := BkT.mk (Bu a) (IF a1)
abbrev RU (a : BkI) (a1 : LH) : Bk := CF (Bu a) (kB (S3 a a1))
abbrev S8 (a : BkI) (a1 : LH) : List Gau := (RU a a1).g
abbrev Ye (a : BkI) (a1 : LH) (i : Nat) : Gau := gD (S8 a a1) i
abbrev ACL (a : BkI) (a1 : LH) : List Int := (RU a a1).b
abbrev ABY (a : BkI) (a1 : LH) : Bnd := SI (lB (S3 a a1)) (IF a1)
abbrev H4 (a : BkI) (a1 : LH) : Rt := (ABY a a1).lo
abbrev L4 (a : BkI) (a1 : LH) : Int := (H4 a a1).n
abbrev T3 (a : BkI) (a1 : LH) : Int := (H4 a a1).d
abbrev Y3 (a : BkI) (a1 : LH) : Rt := (ABY a a1).hi
abbrev C4 (a : BkI) (a1 : LH) : Int := (Y3 a a1).n
abbrev ABP (a : BkI) (a1 : LH) : Int := (Y3 a a1).d
abbrev Qm (a : BkI) (a1 : LH) : Bnd := dBnd (DVal.agg [CU (L4 a a1), CU (T3 a a1), CU (C4 a a1), CU (ABP a a1)])
abbrev H6 (a : BkI) (a1 : LH) : Rt := (Qm a a1).lo
abbrev AEJ (a : BkI) (a1 : LH) : Rt := (Qm a a1).hi
abbrev V7 (a : BkI) (a1 : LH) (n : Int) : List Ln := AK (RU a a1) n
abbrev ZO (a : BkI) (a1 : LH) (n : Int) (i : Nat) : Ln := gD (V7 a a1 n) i
abbrev K8 (a : BkI) (a1 : LH) : Prop := xT a /\ AEK a /\ AAE a /\ Z9 a /\ RO /\ (∀ (n : Int), a.w.has n = (RU a a1).has n) /\ (∀ (n : Int), a.w.st n = (RU a a1).st n) /\ ∀
 (n : Int), (AK a.w n).length = (V7 a a1 n).length /\ ∀ (i : Nat), Vd i a n -> (gD (AK a.w n) i).a0 = (ZO a a1 n i).a0 /\ (gD (AK a.w n) i).a1 = (ZO a a1 n i).a1 /\ (gD (AK a.w n) i).b0 =
 (ZO a a1 n i).b0 /\ (gD (AK a.w n) i).b1 = (ZO a a1 n i).b1
abbrev M1 (a : BkI) (a1 : LH) (a2 : LH) : Prop := Ua a a1 /\ Wz a1 < Wz a2
theorem CLD (a : BkI) : (CEO a) = ((a.k = a.k /\ ATP a /\ AZE a /\ ADM a /\ I9 a /\ RO /\ Ao a /\ Bi a /\ L6 a /\ a.w.g.length = Oz a /\ (∀ (i : Nat), i <
 a.w.g.length -> (gD a.w.g i).st = ARO a i /\ (gD a.w.g i).lo = APX a i /\ (gD a.w.g i).hi = ATW a i) /\ a.w.b.length = Az a /\ (∀ (i : Nat), i < a.w.b.length -> gD a.w.b i = M3 a i) /\ RO /\
 Ao a /\ Bi a /\ (∀ (n : Int), (AK a.w n).length = Vp a n /\ ∀ (i : Nat), Vd i a n -> (gD (AK a.w n) i).a0 = Z4 a n i /\ (gD (AK a.w n) i).a1 = S1 a n i /\ (gD (AK a.w n) i).b0 =
 yV a n i /\ (gD (AK a.w n) i).b1 = C8 a n i) /\ M7 a /\ (0 : Int) <= a.k /\ a.k <= (↑(Az a) : Int)) /\ (∃ (a_1 : LH), (a_1.lo = IntKind.i64.wrap ((zQ a).lo - (1 : Int)) /\ a_1.hi = (zQ
 a).hi /\ ABV a) /\ Ua a a_1) /\ ∀ (a_1 : LH), Ua a a_1 -> bif decide (a_1.lo < a_1.hi) then (Int.ofNat (2 : Nat) = Int.ofNat (0 : Nat) -> False) /\ (IF a_1 = IF a_1 /\ ATP a /\ AZE a /\
 ADM a /\ I9 a /\ RO /\ Ao a /\ Bi a /\ L6 a /\ a.w.g.length = (S8 a a_1).length /\ (∀ (i : Nat), i < a.w.g.length -> (gD a.w.g i).st = (Ye a a_1 i).st /\ (gD a.w.g i).lo =
 (Ye a a_1 i).lo /\ (gD a.w.g i).hi = (Ye a a_1 i).hi) /\ a.w.b.length = (ACL a a_1).length /\ (∀ (i : Nat), i < a.w.b.length -> gD a.w.b i = gD (ACL a a_1) i) /\ M7 a /\ (0 : Int) <= IF
 a_1 /\ IF a_1 <= (2000 : Int)) /\ ((H6 a a_1).n = L4 a a_1 /\ (H6 a a_1).d = T3 a a_1 /\ (AEJ a a_1).n = C4 a a_1 /\ (AEJ a a_1).d = ABP a a_1) /\ bif nZ (BnO.mk
 (Qm a a_1)) then ∃ (a_3 : LH), (a_3.lo = IF a_1 /\ a_3.hi = a_1.hi /\ K8 a a_1) /\ M1 a a_3 a_1 else ∃ (a_3 : LH), (a_3.lo = a_1.lo /\ a_3.hi = IntKind.i64.wrap (IF a_1 - (1 : Int)) /\
 K8 a a_1) /\ M1 a a_3 a_1 else TL nZ a = a_1.lo /\ ABV a) := by kernel_rfl
theorem CSW (a : BkI) (h : GZ a.w.g a.w.b) (hk : 0 <= a.k /\ a.k <= a.w.b.length) (hh : a.w.has a.k = true) : CBG a := by
 rw [CKB]; delta Kp Jv AYL qV AMK AQR AUF AZH ZM By xW AAH ADU B7 QX WN XV YQ AAU Xa Ch zH zM ADO R3 AAA Ur K3 AEB Q5 T8 zG ADH yR zY Vu Ts II AAZ RD ACE Xu ABA AET AAP J2 F9 L8 O7 ABF Um Y9 I8 U6 Ab AFD N3; simp only [CC, eq_self, implies_true, forall_const, JG, JP, Iz, Iy, JT, AGX, if_true]
 obtain ⟨s1, s2, s3, s4⟩ := JA h hk.1 hk.2
 refine ⟨⟨h, hk⟩, ⟨⟨(AR a.w a.k).lo - 1, (AR a.w a.k).hi⟩, ⟨(EV (n := (AR a.w a.k).lo - 1) (by omega) (by omega)).symm, rfl⟩, Int.le_refl _, (by omega : (AR a.w a.k).lo - 1 <= (AR a.w a.k).hi), Int.le_refl _, λ m hm => FF 3000 m ((AR a.w a.k).lo - 1) (AR a.w a.k).hi (by omega) (by omega) hm⟩, λ x ⟨i1, i2, i3, i4⟩ => ⟨λ hl => ?_, λ hl => ?_⟩⟩
 ·obtain ⟨m1, m2⟩ := aB hl
  simp only [BUR (lo := x.lo) (hi := x.hi) (by omega) (by omega) (by omega), show ∀ t, kB ⟨a.w, t⟩ = (ET a.w.b t : Int) from λ _ => rfl, s4 _ (show (AR a.w a.k).lo <= x.lo + (x.hi - x.lo + 1).tdiv 2 by omega) (by omega), TS hh, implies_true, and_true]
  obtain ⟨n, hn⟩ : ∃ n, (x.hi - x.lo).toNat = n + 1 := ⟨(x.hi - x.lo).toNat - 1, by omega⟩
  have key := i4 (n + 1) (by omega)
  unfold wB at key
  rw [decide_eq_true hl] at key
  generalize hM : x.lo + (x.hi - x.lo + 1).tdiv 2 = M at *
  refine ⟨by simp, ⟨h, by omega, by omega⟩, λ hp => ⟨⟨M, x.hi⟩, ⟨rfl, rfl⟩, ⟨(by omega : (AR a.w a.k).lo - 1 <= M), m2, i3, λ m hm => ?_⟩, (by omega : (x.hi - M).toNat < (x.hi - x.lo).toNat)⟩, λ hp => ⟨⟨x.lo, M - 1⟩, ⟨rfl, (EV (n := M - 1) (by omega) (by omega)).symm⟩, ⟨i1, (by omega : x.lo <= M - 1), (by omega : M - 1 <= (AR a.w a.k).hi), λ m hm => ?_⟩, (by omega : (M - 1 - x.lo).toNat < (x.hi - x.lo).toNat)⟩⟩
  ·rw [key, show U2 Yv a M = true from hp]
   exact FF n m M x.hi m2 (by omega) hm
  ·rw [key, show U2 Yv a M = false from hp]
   exact FF n m x.lo (M - 1) (by omega) (by omega) hm
 ·rw [i4 0 (by omega)]; rfl
theorem BXH : AG Try.prog iU ((WA Yv MF).spec (dUpO MF)) := HR (WA Yv MF) (BTW Yv MF ((QM Yv).spec dBnO)) [] [] AJG (λ _ => by kernel_rfl) (λ _ => AB Yd (AB Cs (AB CUH AD))) (λ (a : BkI) h => by
 have h : GZ a.w.g a.w.b /\ 0 <= a.k /\ a.k <= a.w.b.length /\ a.w.has a.k = true := h
 exact CSW a h.1 ⟨h.2.1, h.2.2.1⟩ h.2.2.2) (λ _ => IN rfl rfl) _
theorem CTB (a : BkI) (h : GZ a.w.g a.w.b) (hk : 0 <= a.k /\ a.k <= a.w.b.length) (hh : a.w.has a.k = true) : CEO a := by
 rw [CLD]; delta Np Oz ATP wL ARO APX ATW AZE WT Az ADM M3 I9 AEZ RO Ao Bi Bu AAF Vp YL Z4 S1 yV C8 L6 Vd M7 zQ xT AEK AAE Z9 ABV Y5 Wz Ua IF S3 RU S8 Ye ACL ABY H4 L4 T3 Y3 C4 ABP Qm H6 AEJ V7 ZO K8 M1; simp only [CC, eq_self, implies_true, forall_const, JG, JP, Iz, Iy, JT, AGX, if_true]
 obtain ⟨s1, s2, s3, s4⟩ := JA h hk.1 hk.2
 refine ⟨⟨h, hk⟩, ⟨⟨(AR a.w a.k).lo - 1, (AR a.w a.k).hi⟩, ⟨(EV (n := (AR a.w a.k).lo - 1) (by omega) (by omega)).symm, rfl⟩, Int.le_refl _, (by omega : (AR a.w a.k).lo - 1 <= (AR a.w a.k).hi), Int.le_refl _, λ m hm => FF 3000 m ((AR a.w a.k).lo - 1) (AR a.w a.k).hi (by omega) (by omega) hm⟩, λ x ⟨i1, i2, i3, i4⟩ => ⟨λ hl => ?_, λ hl => ?_⟩⟩
 ·obtain ⟨m1, m2⟩ := aB hl
  simp only [BUR (lo := x.lo) (hi := x.hi) (by omega) (by omega) (by omega), show ∀ t, kB ⟨a.w, t⟩ = (ET a.w.b t : Int) from λ _ => rfl, s4 _ (show (AR a.w a.k).lo <= x.lo + (x.hi - x.lo + 1).tdiv 2 by omega) (by omega), TS hh, implies_true, and_true]
  obtain ⟨n, hn⟩ : ∃ n, (x.hi - x.lo).toNat = n + 1 := ⟨(x.hi - x.lo).toNat - 1, by omega⟩
  have key := i4 (n + 1) (by omega)
  unfold wB at key
  rw [decide_eq_true hl] at key
  generalize hM : x.lo + (x.hi - x.lo + 1).tdiv 2 = M at *
  refine ⟨by simp, ⟨h, by omega, by omega⟩, λ hp => ⟨⟨M, x.hi⟩, ⟨rfl, rfl⟩, ⟨(by omega : (AR a.w a.k).lo - 1 <= M), m2, i3, λ m hm => ?_⟩, (by omega : (x.hi - M).toNat < (x.hi - x.lo).toNat)⟩, λ hp => ⟨⟨x.lo, M - 1⟩, ⟨rfl, (EV (n := M - 1) (by omega) (by omega)).symm⟩, ⟨i1, (by omega : x.lo <= M - 1), (by omega : M - 1 <= (AR a.w a.k).hi), λ m hm => ?_⟩, (by omega : (M - 1 - x.lo).toNat < (x.hi - x.lo).toNat)⟩⟩
  ·rw [key, show U2 nZ a M = true from hp]
   exact FF n m M x.hi m2 (by omega) hm
  ·rw [key, show U2 nZ a M = false from hp]
   exact FF n m x.lo (M - 1) (by omega) (by omega) hm
 ·rw [i4 0 (by omega)]; rfl
theorem BTE : AG Try.prog iU ((WA nZ ML).spec (dUpO ML)) := HR (WA nZ ML) (BTW nZ ML ((QM nZ).spec dBnO)) [] [] AJG (λ _ => by kernel_rfl) (λ _ => AB Yd (AB Cs (AB CST AD))) (λ (a : BkI) h => by
 have h : GZ a.w.g a.w.b /\ 0 <= a.k /\ a.k <= a.w.b.length /\ a.w.has a.k = true := h
 exact CTB a h.1 ⟨h.2.1, h.2.2.1⟩ h.2.2.2) (λ _ => IN rfl rfl) _
end Go.Bal
