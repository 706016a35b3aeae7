/- Package rating: numbers, lines, fractions. -/
import Derived.Test.YtoihhodbkimedaaRat0
set_option linter.unusedVariables false
set_option linter.unusedSimpArgs false
namespace Go.Bal
open Go Go.Sym Go.Proofs
def wr (n : Int) : Int := IntKind.i64.wrap n
def inM (a b c : Int) : Bool := decide (b <= a) && decide (a <= c)
def riG (g : Gau) : Bool := inM g.st 0 2000 && inM g.lo 0 g.hi && inM g.hi 0 200000
def riP (p : Pt) : Bool := inM p.st 0 2000 && inM p.fl 0 200000
def riL (x : Ln) : Bool := riP ⟨x.a0, x.a1⟩ && riP ⟨x.b0, x.b1⟩ && decide (x.a0 < x.b0) && decide (x.a1 <= x.b1)
def V_in (x : I3) : Prop := fnVC Try.prog (ann 15 []) F_in (bodyOf F_in) (xI3 x) (heapOf []) (.bool (inM x.a x.b x.c)) [] [] []
theorem vc_in (x : I3) : (V_in x) = (inM x.a x.b x.c = bif decide (x.a >= x.b) then decide (x.a <= x.c) else false) := by kernel_rfl
def s_in := pD dI3 λ x => .bool (inM x.a x.b x.c)
theorem ok_in : SpecOk Try.prog n_in s_in := pD_ok xI3 hI3 λ x _ => fnt (A := ann 15 []) (ren := []) (fz := []) fn_in (by kernel_rfl) gok_nil (by
 show V_in x; rw [vc_in]; unfold inM; by_cases h : x.b <= x.a <;> simp [h])
def V_riG (g : Gau) : Prop := fnVC Try.prog (ann 21 [(n_in, s_in)]) F_riG (bodyOf F_riG) (xG1 g) (heapOf []) (.bool (riG g)) [] [] []
theorem vc_riG (g : Gau) : (V_riG g) = (riG g = bif bif inM g.st 0 2000 then inM g.lo 0 g.hi else false then inM g.hi 0 200000 else false) := by kernel_rfl
def s_riG := pD dG1 λ g => .bool (riG g)
theorem ok_riG : SpecOk Try.prog n_riG s_riG := pD_ok xG1 hG1 λ g _ => fnt (A := ann 21 [(n_in, s_in)]) (ren := []) (fz := []) fn_riG (by kernel_rfl) (gok_cons ok_in gok_nil) (by
 show V_riG g; rw [vc_riG]; unfold riG; cases inM g.st 0 2000 <;> cases inM g.lo 0 g.hi <;> simp)
def V_riP (g : Pt) : Prop := fnVC Try.prog (ann 11 [(n_in, s_in)]) F_riP (bodyOf F_riP) (xP1 g) (heapOf []) (.bool (riP g)) [] [] []
theorem vc_riP (g : Pt) : (V_riP g) = (riP g = bif inM g.st 0 2000 then inM g.fl 0 200000 else false) := by kernel_rfl
def s_riP := pD dP1 λ g => .bool (riP g)
theorem ok_riP : SpecOk Try.prog n_riP s_riP := pD_ok xP1 hP1 λ g _ => fnt (A := ann 11 [(n_in, s_in)]) (ren := []) (fz := []) fn_riP (by kernel_rfl) (gok_cons ok_in gok_nil) (by
 show V_riP g; rw [vc_riP]; unfold riP; cases inM g.st 0 2000 <;> simp)
def V_riL (g : Ln) : Prop := fnVC Try.prog (ann 29 [(n_riP, s_riP)]) F_riL (bodyOf F_riL) (xL1 g) (heapOf []) (.bool (riL g)) [] [] []
theorem vc_riL (g : Ln) : (V_riL g) = (riL g = bif bif bif riP (Pt.mk g.a0 g.a1) then riP (Pt.mk g.b0 g.b1) else false then decide (g.a0 < g.b0) else false then decide (g.a1 <= g.b1) else false) := by kernel_rfl
def s_riL := pD dL1 λ g => .bool (riL g)
theorem ok_riL : SpecOk Try.prog n_riL s_riL := pD_ok xL1 hL1 λ g _ => fnt (A := ann 29 [(n_riP, s_riP)]) (ren := []) (fz := []) fn_riL (by kernel_rfl) (gok_cons ok_riP gok_nil) (by
 show V_riL g; rw [vc_riL]; unfold riL; cases riP ⟨g.a0, g.a1⟩ <;> cases riP ⟨g.b0, g.b1⟩ <;> by_cases h : g.a0 < g.b0 <;> simp [h])
def V_nanC (x : Int) : Prop := fnVC Try.prog (ann 6 []) F_nanC (bodyOf F_nanC) (xI1 x) (heapOf []) (.bool false) [] [] []
theorem vc_nanC (x : Int) : (V_nanC x) = (false = (x != x)) := by kernel_rfl
def s_nanC := pD dI1 λ _ => .bool false
theorem ok_nanC : SpecOk Try.prog n_nanC s_nanC := pD_ok xI1 hI1 λ g _ => fnt (A := ann 6 []) (ren := []) (fz := []) fn_nanC (by kernel_rfl) gok_nil (by
 show V_nanC g; rw [vc_nanC]; simp)
def V_nanS (x : Int) : Prop := fnVC Try.prog (ann 6 []) F_nanS (bodyOf F_nanS) (xI1 x) (heapOf []) (.bool false) [] [] []
theorem vc_nanS (x : Int) : (V_nanS x) = (false = (x != x)) := by kernel_rfl
theorem ok_nanS : SpecOk Try.prog n_nanS s_nanC := pD_ok xI1 hI1 λ g _ => fnt (A := ann 6 []) (ren := []) (fz := []) fn_nanS (by kernel_rfl) gok_nil (by
 show V_nanS g; rw [vc_nanS]; simp)
def V_lessI (x : I2) : Prop := fnVC Try.prog (ann 17 [(n_nanC, s_nanC)]) F_lessI (bodyOf F_lessI) (xI2 x) (heapOf []) (.bool (decide (x.a < x.b))) [] [] []
theorem vc_lessI (x : I2) : (V_lessI x) = (decide (x.a < x.b) = bif bif false then !false else false then true else decide (x.a < x.b)) := by kernel_rfl
def s_lessI := pD dI2 λ x => .bool (decide (x.a < x.b))
theorem ok_lessI : SpecOk Try.prog n_lessI s_lessI := pD_ok xI2 hI2 λ g _ => fnt (A := ann 17 [(n_nanC, s_nanC)]) (ren := []) (fz := []) fn_lessI (by kernel_rfl) (gok_cons ok_nanC gok_nil) (by
 show V_lessI g; rw [vc_lessI]; try simp)
def cmpM (a b : Int) : Int := bif decide (a < b) then -1 else bif decide (a > b) then 1 else 0
def V_cmpI (x : I2) : Prop := fnVC Try.prog (ann 20 [(n_nanC, s_nanC)]) F_cmpI (bodyOf F_cmpI) (xI2 x) (heapOf []) (.int (cmpM x.a x.b)) [] [] []
theorem vc_cmpI (x : I2) : (V_cmpI x) = (bif decide (x.a < x.b) then cmpM x.a x.b = -1 else bif decide (x.a > x.b) then cmpM x.a x.b = 1 else cmpM x.a x.b = 0) := by kernel_rfl
def s_cmpI := pD dI2 λ x => .int (cmpM x.a x.b)
theorem ok_cmpI : SpecOk Try.prog n_cmpI s_cmpI := pD_ok xI2 hI2 λ g _ => fnt (A := ann 20 [(n_nanC, s_nanC)]) (ren := []) (fz := []) fn_cmpI (by kernel_rfl) (gok_cons ok_nanC gok_nil) (by
 show V_cmpI g; rw [vc_cmpI]; unfold cmpM; by_cases h : g.a < g.b <;> by_cases h2 : g.b < g.a <;> simp [h, h2])
structure IL where
 a : Int
 l : List Int
def grM (x : IL) : Int := x.l.foldl maxI x.a
structure NI where
 k : Nat
 m : Int
 deriving Inhabited
def C_gr : Ctr := { α := IL, xs := λ x => [.int x.a, .d (eIntsL x.l)], L := λ _ => [], val := λ x => .int (grM x), keep := λ _ => [], pre := λ x => [decide (x.l.length < 4611686018427387904) = true] }
def d_gr : List AVal -> Heap -> Option (IL × List (Nat × Nat) × List Nat)
 | [.d a, y], H => match dInts y H with
  | some (l, f) => some (⟨dInt a, l⟩, [], f)
  | none => none
 | _, _ => none
def A_gr (x : IL) : Ann := { ann 18 [] with loops := λ id => if id = 2 then some [{ α := NI, dflt := default, T := λ s => ⟨[(0, .int s.m), (7, .d (eIntsL x.l)), (8, .int x.l.length), (9, .int s.k)], []⟩, inv := λ s => s.k <= x.l.length /\ s.m = (x.l.take s.k).foldl maxI x.a, meas := λ s => x.l.length - s.k }] else none }
def V_gr (x : IL) : Prop := fnVC Try.prog (A_gr x) F_greatest (bodyOf F_greatest) (C_gr.xs x) (heapOf []) (C_gr.val x) [] [] []
theorem vc_gr (x : IL) : (V_gr x) = ((∃ (a : NI), (a.m = x.a /\ x.l.length = x.l.length /\ (∀ (i : Nat), i < x.l.length -> gD x.l i = gD x.l i) /\ (↑x.l.length : Int) = (↑x.l.length : Int) /\ (↑a.k : Int) = 0) /\ a.k <=
 x.l.length /\ a.m = List.foldl maxI x.a (List.take a.k x.l)) /\ ∀ (a : NI), a.k <= x.l.length /\ a.m = List.foldl maxI x.a (List.take a.k x.l) -> bif decide ((↑a.k : Int) < (↑x.l.length : Int)) then (0 <= (↑a.k : Int) /\ (↑a.k
 : Int) < (↑x.l.length : Int)) /\ ∃ (a_2 : NI), (a_2.m = maxI a.m (gD x.l a.k) /\ x.l.length = x.l.length /\ (∀ (i : Nat), i < x.l.length -> gD x.l i = gD x.l i) /\ (↑x.l.length : Int) = (↑x.l.length : Int) /\ (↑a_2.k : Int) =
 IntKind.i64.wrap ((↑a.k : Int) + 1)) /\ (a_2.k <= x.l.length /\ a_2.m = List.foldl maxI x.a (List.take a_2.k x.l)) /\ x.l.length - a_2.k < x.l.length - a.k else grM x = a.m) := by kernel_rfl
theorem take_snoc {α : Type} [Inhabited α] {l : List α} {k : Nat} (h : k < l.length) : l.take (k + 1) = l.take k ++ [gD l k] := by
 rw [List.take_add_one, List.getElem?_eq_getElem h]; simp [gD, List.getD_eq_getElem?_getD, h]
theorem p_gr (x : IL) (h : x.l.length < 4611686018427387904) : V_gr x := by
 rw [vc_gr]; try simp only [condP, eq_self, implies_true, and_self, true_and, and_true, true_implies, forall_const, decide_eq_true_eq, decide_eq_false_iff_not, Int.toNat_natCast, dSpan_eSpan, dInt_eInt, dGau_e, dPt_e, dLn_e, dRt_e, Nat.zero_add, Int.zero_sub, Nat.le_eq, Nat.succ_eq_add_one, Nat.add_one_le_iff, Bool.not_eq_true', Bool.not_eq_false', rng_length, dSpan_mk, rng_getD]
 refine ⟨⟨⟨0, x.a⟩, ⟨rfl, rfl⟩, Nat.zero_le _, rfl⟩, λ s hs => ⟨λ hlt => ⟨by omega, ⟨s.k + 1, maxI s.m (gD x.l s.k)⟩, ⟨rfl, (wsucc (by omega)).symm⟩, ⟨⟨by show s.k + 1 <= _; omega, ?_⟩, ?_⟩⟩, λ hge => ?_⟩⟩
 ·show maxI s.m (gD x.l s.k) = _
  rw [take_snoc (by omega), List.foldl_append, hs.2]; rfl
 ·show x.l.length - (s.k + 1) < _; omega
 ·rw [hs.2]; unfold grM; rw [List.take_of_length_le (by omega)]
theorem ok_gr : SpecOk Try.prog n_greatest (C_gr.spec d_gr) := okC C_gr A_gr [] [] fn_greatest (λ _ => by kernel_rfl) (λ _ => gok_nil) (λ x h => p_gr x (of_decide_eq_true h)) (λ _ => noI rfl rfl) _
def ratM (n d : Int) : Rt := ⟨n.tdiv (Nat.gcd n.natAbs d.natAbs : Nat), d.tdiv (Nat.gcd n.natAbs d.natAbs : Nat)⟩
structure NN where
 a : Nat
 b : Nat
 deriving Inhabited
def A_ratio (x : I2) : Ann := { ann 26 [(n_greatest, C_gr.spec d_gr)] with loops := λ id => if id = 2 then some [{ α := NN, dflt := default, T := λ s => ⟨[(0, .int x.a), (1, .int x.b), (4, .bptr 201 0), (5, .int s.a), (6, .int s.b)], [(201, .live (.box [.int 0, .int 0]))]⟩, inv := λ s => Nat.gcd s.a s.b = Nat.gcd x.a.natAbs x.b.natAbs /\ s.a <= 2305843009213693952 /\ s.b <= 2305843009213693952, meas := λ s => s.b, first := [(201, 1000)] }] else none }
def V_ratio (x : I2) : Prop := fnVC Try.prog (A_ratio x) F_ratio (bodyOf F_ratio) (xI2 x) (heapOf []) (.d (eRt (ratM x.a x.b))) [] [] []
theorem vc_ratio (x : I2) : (V_ratio x) = ((x.a = x.a /\ (rng (1 : Nat) λ (i : Nat) => IntKind.i64.wrap ((0 : Int) - x.a)).length = (1 : Nat) /\ (1 : Nat) <= (1 : Nat) /\ (∀ (j : Nat), j < (rng (1 : Nat) λ (i : Nat) =>
 IntKind.i64.wrap ((0 : Int) - x.a)).length -> gD (rng (1 : Nat) λ (i : Nat) => IntKind.i64.wrap ((0 : Int) - x.a)) j = IntKind.i64.wrap ((0 : Int) - x.a)) /\ true = true) /\ (∃ (a : NN), (x.a = x.a /\ x.b = x.b /\ (↑a.a :
 Int) = grM (IL.mk x.a (rng (1 : Nat) λ (i : Nat) => IntKind.i64.wrap ((0 : Int) - x.a))) /\ (↑a.b : Int) = x.b /\ Int.ofNat (0 : Nat) = Int.ofNat (0 : Nat) /\ Int.ofNat (0 : Nat) = Int.ofNat (0 : Nat)) /\ a.a.gcd a.b =
 x.a.natAbs.gcd x.b.natAbs /\ a.a <= (2305843009213693952 : Nat) /\ a.b <= (2305843009213693952 : Nat)) /\ ∀ (a : NN), a.a.gcd a.b = x.a.natAbs.gcd x.b.natAbs /\ a.a <= (2305843009213693952 : Nat) /\ a.b <= (2305843009213693952 :
 Nat) -> bif (↑a.b : Int) != (0 : Int) then ((↑a.b : Int) = (0 : Int) -> False) /\ ∃ (a_2 : NN), (x.a = x.a /\ x.b = x.b /\ (↑a_2.a : Int) = (↑a.b : Int) /\ (↑a_2.b : Int) = (↑a.a : Int).tmod (↑a.b : Int) /\ Int.ofNat (0 : Nat)
 = Int.ofNat (0 : Nat) /\ Int.ofNat (0 : Nat) = Int.ofNat (0 : Nat)) /\ (a_2.a.gcd a_2.b = x.a.natAbs.gcd x.b.natAbs /\ a_2.a <= (2305843009213693952 : Nat) /\ a_2.b <= (2305843009213693952 : Nat)) /\ a_2.b < a.b else ((↑a.a :
 Int) ≠ (0 : Int) /\ ((↑a.a : Int) = (0 : Int) -> False)) /\ (ratM x.a x.b).n = IntKind.i64.wrap (x.a.tdiv (↑a.a : Int)) /\ (ratM x.a x.b).d = IntKind.i64.wrap (x.b.tdiv (↑a.a : Int))) := by kernel_rfl
def s_ratio := pD dI2 (λ x => .d (eRt (ratM x.a x.b))) (λ x => [0 < x.b /\ x.b <= 2305843009213693952 /\ -2305843009213693952 <= x.a /\ x.a <= 2305843009213693952])
theorem grM_abs {n : Int} (h1 : -2305843009213693952 <= n) (h2 : n <= 2305843009213693952) : grM ⟨n, rng 1 λ _ => IntKind.i64.wrap (-n)⟩ = n.natAbs := by
 rw [w64 (by omega) (by omega)]
 show maxI n (-n) = _
 unfold maxI; split <;> omega
theorem ok_ratio : SpecOk Try.prog n_ratio s_ratio := pD_ok xI2 hI2 λ x h => fnt (A := A_ratio x) (ren := []) (fz := []) fn_ratio (by kernel_rfl) (gok_cons ok_gr gok_nil) (by
 show V_ratio x; rw [vc_ratio]; try simp only [condP, eq_self, implies_true, and_self, true_and, and_true, true_implies, forall_const, decide_eq_true_eq, decide_eq_false_iff_not, Int.toNat_natCast, dSpan_eSpan, dInt_eInt, dGau_e, dPt_e, dLn_e, dRt_e, Nat.zero_add, Int.zero_sub, Nat.le_eq, Nat.succ_eq_add_one, Nat.add_one_le_iff, Bool.not_eq_true', Bool.not_eq_false', rng_length, dSpan_mk, rng_getD]
 obtain ⟨h1, h2, h3, h4⟩ : 0 < x.b /\ x.b <= 2305843009213693952 /\ -2305843009213693952 <= x.a /\ x.a <= 2305843009213693952 := h
 refine ⟨⟨by omega, λ j hj => rng_get _ _ _ hj⟩, ⟨⟨x.a.natAbs, x.b.natAbs⟩, ⟨(grM_abs h3 h4).symm, by show (x.b.natAbs : Int) = _; omega⟩, rfl, by show x.a.natAbs <= _; omega, by show x.b.natAbs <= _; omega⟩, λ s hs => ⟨λ hb => ?_, λ hb => ?_⟩⟩
 ·have hb : s.b ≠ 0 := by simpa using hb
  refine ⟨by omega, ⟨s.b, s.a % s.b⟩, ⟨rfl, ?_⟩, ⟨?_, hs.2.2, ?_⟩, Nat.mod_lt _ (by omega)⟩
  ·exact (Int.ofNat_tmod s.a s.b)
  ·show Nat.gcd s.b (s.a % s.b) = _
   rw [<- hs.1, Nat.gcd_comm s.b, <- Nat.gcd_rec, Nat.gcd_comm]
  ·exact Nat.le_trans (Nat.le_of_lt (Nat.mod_lt _ (by omega))) hs.2.2
 ·have hb : s.b = 0 := by simpa using hb
  have hg : s.a = Nat.gcd x.a.natAbs x.b.natAbs := by rw [<- hs.1, hb, Nat.gcd_zero_right]
  have hp : 0 < Nat.gcd x.a.natAbs x.b.natAbs := Nat.gcd_pos_of_pos_right _ (by omega)
  have ha : ∀ z : Int, (z.tdiv (s.a : Int)).natAbs <= z.natAbs := λ z => by rw [Int.natAbs_tdiv]; exact Nat.div_le_self _ _
  have e1 := ha x.a
  have e2 := ha x.b
  refine ⟨by omega, ?_, ?_⟩
  ·rw [w64 (by omega) (by omega)]; unfold ratM; rw [<- hg]
  ·rw [w64 (by omega) (by omega)]; unfold ratM; rw [<- hg])
theorem ratM_d {n d : Int} (h : 0 < d) : 0 < (ratM n d).d /\ (ratM n d).d <= d := by
 have hd : ((Nat.gcd n.natAbs d.natAbs : Nat) : Int) ∣ d := Int.ofNat_dvd_left.2 (Nat.gcd_dvd_right _ _)
 have hp : 0 < Nat.gcd n.natAbs d.natAbs := Nat.gcd_pos_of_pos_right _ (by omega)
 obtain ⟨c, hc⟩ := hd
 have hc0 : 0 < c := by
  rcases Int.lt_or_le 0 c with h1 | h1
  ·exact h1
  ·have := Int.mul_nonneg (show 0 <= ((Nat.gcd n.natAbs d.natAbs : Nat) : Int) by omega) (show 0 <= -c by omega)
   rw [Int.mul_neg, <- hc] at this; omega
 have e : (ratM n d).d = c := by
  show d.tdiv _ = c
  generalize Nat.gcd n.natAbs d.natAbs = q at *
  rw [hc, Int.mul_tdiv_cancel_left _ (by omega)]
 rw [e]
 refine ⟨hc0, ?_⟩
 have := Int.mul_le_mul_of_nonneg_right (show (1 : Int) <= ((Nat.gcd n.natAbs d.natAbs : Nat) : Int) by omega) (show 0 <= c by omega)
 rw [<- hc] at this; omega
theorem ratM_val {n d : Int} (h : 0 < d) : (ratM n d).n * d = n * (ratM n d).d := by
 have hd : ((Nat.gcd n.natAbs d.natAbs : Nat) : Int) ∣ d := Int.ofNat_dvd_left.2 (Nat.gcd_dvd_right _ _)
 have hn : ((Nat.gcd n.natAbs d.natAbs : Nat) : Int) ∣ n := Int.ofNat_dvd_left.2 (Nat.gcd_dvd_left _ _)
 have hp : 0 < Nat.gcd n.natAbs d.natAbs := Nat.gcd_pos_of_pos_right _ (by omega)
 show n.tdiv _ * d = n * d.tdiv _
 generalize Nat.gcd n.natAbs d.natAbs = q at *
 obtain ⟨c, rfl⟩ := hd
 obtain ⟨e, rfl⟩ := hn
 rw [Int.mul_tdiv_cancel_left _ (by omega), Int.mul_tdiv_cancel_left _ (by omega)]
 rw [Int.mul_comm (q : Int) e, Int.mul_assoc]
def V_compare (x : Bnd) : Prop := fnVC Try.prog (ann 16 [(n_cmpI, s_cmpI)]) F_compare (bodyOf F_compare) (xR2 x) (heapOf []) (.int (cmpM (wr (x.lo.n * x.hi.d)) (wr (x.hi.n * x.lo.d)))) [] [] []
theorem vc_compare (x : Bnd) : (V_compare x) = (cmpM (wr (x.lo.n * x.hi.d)) (wr (x.hi.n * x.lo.d)) = cmpM (IntKind.i64.wrap (x.lo.n * x.hi.d)) (IntKind.i64.wrap (x.hi.n * x.lo.d))) := by kernel_rfl
def s_compare := pD dR2 λ x => .int (cmpM (wr (x.lo.n * x.hi.d)) (wr (x.hi.n * x.lo.d)))
theorem ok_compare : SpecOk Try.prog n_compare s_compare := pD_ok xR2 hR2 λ g _ => fnt (A := ann 16 [(n_cmpI, s_cmpI)]) (ren := []) (fz := []) fn_compare (by kernel_rfl) (gok_cons ok_cmpI gok_nil) (by
 show V_compare g; rw [vc_compare]; try rfl)
def hasM (x : Ln) (s : Int) : Rt := ratM (x.a1 * (x.b0 - x.a0) + (x.b1 - x.a1) * (s - x.a0)) (x.b0 - x.a0)
def okL (x : Ln) : Prop := 0 <= x.a0 /\ x.a0 < x.b0 /\ x.b0 <= 2000 /\ 0 <= x.a1 /\ x.a1 <= x.b1 /\ x.b1 <= 200000
def V_has (a : LnI) : Prop := fnVC Try.prog (ann 34 [(n_ratio, s_ratio)]) F_has (bodyOf F_has) (xLI a) (heapOf []) (.d (eRt (hasM a.x a.s))) [] [] []
theorem vc_has (a : LnI) : (V_has a) = ((0 < IntKind.i64.wrap (a.x.b0 - a.x.a0) /\ IntKind.i64.wrap (a.x.b0 - a.x.a0) <= 2305843009213693952 /\ -2305843009213693952 <= IntKind.i64.wrap (IntKind.i64.wrap (a.x.a1 *
 IntKind.i64.wrap (a.x.b0 - a.x.a0)) + IntKind.i64.wrap (IntKind.i64.wrap (a.x.b1 - a.x.a1) * IntKind.i64.wrap (a.s - a.x.a0))) /\ IntKind.i64.wrap (IntKind.i64.wrap (a.x.a1 * IntKind.i64.wrap (a.x.b0 - a.x.a0)) +
 IntKind.i64.wrap (IntKind.i64.wrap (a.x.b1 - a.x.a1) * IntKind.i64.wrap (a.s - a.x.a0))) <= 2305843009213693952) /\ (hasM a.x a.s).n = (ratM (IntKind.i64.wrap (IntKind.i64.wrap (a.x.a1 * IntKind.i64.wrap (a.x.b0 - a.x.a0))
 + IntKind.i64.wrap (IntKind.i64.wrap (a.x.b1 - a.x.a1) * IntKind.i64.wrap (a.s - a.x.a0)))) (IntKind.i64.wrap (a.x.b0 - a.x.a0))).n /\ (hasM a.x a.s).d = (ratM (IntKind.i64.wrap (IntKind.i64.wrap (a.x.a1 *
 IntKind.i64.wrap (a.x.b0 - a.x.a0)) + IntKind.i64.wrap (IntKind.i64.wrap (a.x.b1 - a.x.a1) * IntKind.i64.wrap (a.s - a.x.a0)))) (IntKind.i64.wrap (a.x.b0 - a.x.a0))).d) := by kernel_rfl
def s_has := pD dLI (λ a => .d (eRt (hasM a.x a.s))) (λ a => [okL a.x, 0 <= a.s /\ a.s <= 2000])
theorem has_num {x : Ln} {t : Int} (h : okL x) (h2 : 0 <= t /\ t <= 2000) : (0 <= x.a1 * (x.b0 - x.a0) /\ x.a1 * (x.b0 - x.a0) <= 400000000) /\ -400000000 <= (x.b1 - x.a1) * (t - x.a0) /\ (x.b1 - x.a1) * (t - x.a0) <= 400000000 := by
 obtain ⟨h3, h4, h5, h6, h7, h8⟩ := h
 exact ⟨mulb (A := 200000) (B := 2000) (by omega) (by omega) (by omega) (by omega), mulb' (A := 200000) (B := 2000) (by omega) (by omega) (by omega) (by omega)⟩
theorem ok_has : SpecOk Try.prog n_has s_has := pD_ok xLI hLI λ a h => fnt (A := ann 34 [(n_ratio, s_ratio)]) (ren := []) (fz := []) fn_has (by kernel_rfl) (gok_cons ok_ratio gok_nil) (by
 show V_has a; rw [vc_has]; try simp only [condP, eq_self, implies_true, and_self, true_and, and_true, true_implies, forall_const, decide_eq_true_eq, decide_eq_false_iff_not, Int.toNat_natCast, dSpan_eSpan, dInt_eInt, dGau_e, dPt_e, dLn_e, dRt_e, Nat.zero_add, Int.zero_sub, Nat.le_eq, Nat.succ_eq_add_one, Nat.add_one_le_iff, Bool.not_eq_true', Bool.not_eq_false', rng_length, dSpan_mk, rng_getD]
 have hb := has_num h.1 h.2
 obtain ⟨⟨h3, h4, h5, h6, h7, h8⟩, h9, h10⟩ := h
 rw [w64 (n := a.x.b0 - a.x.a0) (by omega) (by omega), w64 (n := a.x.b1 - a.x.a1) (by omega) (by omega), w64 (n := a.s - a.x.a0) (by omega) (by omega), w64 (n := a.x.a1 * (a.x.b0 - a.x.a0)) (by omega) (by omega), w64 (n := (a.x.b1 - a.x.a1) * (a.s - a.x.a0)) (by omega) (by omega), w64 (n := a.x.a1 * (a.x.b0 - a.x.a0) + (a.x.b1 - a.x.a1) * (a.s - a.x.a0)) (by omega) (by omega)]
 exact ⟨⟨by omega, by omega, by omega, by omega⟩, rfl, rfl⟩)
theorem hasM_d {x : Ln} {t : Int} (h : okL x) : 0 < (hasM x t).d /\ (hasM x t).d <= 2000 := by
 have := ratM_d (n := x.a1 * (x.b0 - x.a0) + (x.b1 - x.a1) * (t - x.a0)) (d := x.b0 - x.a0) (by have := h.2.1; omega)
 refine ⟨this.1, ?_⟩
 have h1 := h.1
 have h3 := h.2.2.1
 have := this.2
 show (ratM _ _).d <= _
 omega
def clipM (r : Rt) : Rt := if r.n < 0 then ⟨0, 1⟩ else if 200000 * r.d < r.n then ⟨200000, 1⟩ else r
def V_clipped (r : Rt) : Prop := fnVC Try.prog (ann 17 []) F_clipped (bodyOf F_clipped) (xR1 r) (heapOf []) (.d (eRt (clipM r))) [] [] []
theorem vc_clipped (r : Rt) : (V_clipped r) = (bif decide (r.n < 0) then (clipM r).n = 0 /\ (clipM r).d = 1 else bif decide (r.n > IntKind.i64.wrap (200000 * r.d)) then (clipM r).n = 200000 /\ (clipM r).d = 1 else (clipM
 r).n = r.n /\ (clipM r).d = r.d) := by kernel_rfl
def s_clipped := pD dR1 (λ r => .d (eRt (clipM r))) (λ r => [0 < r.d /\ r.d <= 4000000])
theorem ok_clipped : SpecOk Try.prog n_clipped s_clipped := pD_ok xR1 hR1 λ r h => fnt (A := ann 17 []) (ren := []) (fz := []) fn_clipped (by kernel_rfl) gok_nil (by
 show V_clipped r; rw [vc_clipped]; try simp only [condP, eq_self, implies_true, and_self, true_and, and_true, true_implies, forall_const, decide_eq_true_eq, decide_eq_false_iff_not, Int.toNat_natCast, dSpan_eSpan, dInt_eInt, dGau_e, dPt_e, dLn_e, dRt_e, Nat.zero_add, Int.zero_sub, Nat.le_eq, Nat.succ_eq_add_one, Nat.add_one_le_iff, Bool.not_eq_true', Bool.not_eq_false', rng_length, dSpan_mk, rng_getD]
 obtain ⟨h1, h2⟩ : 0 < r.d /\ r.d <= 4000000 := h
 rw [w64 (by omega) (by omega)]
 unfold clipM
 refine ⟨λ h3 => by simp [h3], λ h3 => ⟨λ h4 => ?_, λ h4 => ?_⟩⟩
 ·rw [if_neg h3, if_pos (by omega)]; exact ⟨rfl, rfl⟩
 ·rw [if_neg h3, if_neg (by omega)]; exact ⟨rfl, rfl⟩)
def flowM (x : Ln) (s : Int) : Rt := clipM (hasM x s)
def V_flowL (a : LnI) : Prop := fnVC Try.prog (ann 9 [(n_has, s_has), (n_clipped, s_clipped)]) F_flowL (bodyOf F_flowL) (xLI a) (heapOf []) (.d (eRt (flowM a.x a.s))) [] [] []
theorem vc_flowL (a : LnI) : (V_flowL a) = (((0 <= a.x.a0 /\ a.x.a0 < a.x.b0 /\ a.x.b0 <= 2000 /\ 0 <= a.x.a1 /\ a.x.a1 <= a.x.b1 /\ a.x.b1 <= 200000) /\ (0 <= a.s /\ a.s <= 2000) /\ 0 < (hasM a.x a.s).d /\ (hasM a.x a.s).d <= 4000000) /\
 (flowM a.x a.s).n = (clipM (hasM a.x a.s)).n /\ (flowM a.x a.s).d = (clipM (hasM a.x a.s)).d) := by kernel_rfl
def s_flowL := pD dLI (λ a => .d (eRt (flowM a.x a.s))) (λ a => [okL a.x, 0 <= a.s /\ a.s <= 2000])
theorem ok_flowL : SpecOk Try.prog n_flowL s_flowL := pD_ok xLI hLI λ a h => fnt (A := ann 9 [(n_has, s_has), (n_clipped, s_clipped)]) (ren := []) (fz := []) fn_flowL (by kernel_rfl) (gok_cons ok_has (gok_cons ok_clipped gok_nil)) (by
 show V_flowL a; rw [vc_flowL]; try simp only [condP, eq_self, implies_true, and_self, true_and, and_true, true_implies, forall_const, decide_eq_true_eq, decide_eq_false_iff_not, Int.toNat_natCast, dSpan_eSpan, dInt_eInt, dGau_e, dPt_e, dLn_e, dRt_e, Nat.zero_add, Int.zero_sub, Nat.le_eq, Nat.succ_eq_add_one, Nat.add_one_le_iff, Bool.not_eq_true', Bool.not_eq_false', rng_length, dSpan_mk, rng_getD]
 have := hasM_d (t := a.s) h.1
 exact ⟨⟨h.1, h.2, this.1, by omega⟩, rfl, rfl⟩)
def levM (p : Pt) : Ln := if p.st = 2000 then ⟨p.st - 1, p.fl, p.st, p.fl⟩ else ⟨p.st, p.fl, p.st + 1, p.fl⟩
def V_level (p : Pt) : Prop := fnVC Try.prog (ann 22 []) F_level (bodyOf F_level) (xP1 p) (heapOf []) (.d (eLn (levM p))) [] [] []
theorem vc_level (p : Pt) : (V_level p) = (bif p.st == 2000 then (levM p).a0 = IntKind.i64.wrap (p.st - 1) /\ (levM p).a1 = p.fl /\ (levM p).b0 = p.st /\ (levM p).b1 = p.fl else (levM p).a0 = p.st /\ (levM p).a1 = p.fl /\
 (levM p).b0 = IntKind.i64.wrap (p.st + 1) /\ (levM p).b1 = p.fl) := by kernel_rfl
def s_level := pD dP1 (λ p => .d (eLn (levM p))) (λ p => [0 <= p.st /\ p.st <= 2000])
theorem ok_level : SpecOk Try.prog n_level s_level := pD_ok xP1 hP1 λ p h => fnt (A := ann 22 []) (ren := []) (fz := []) fn_level (by kernel_rfl) gok_nil (by
 show V_level p; rw [vc_level]
 obtain ⟨h1, h2⟩ : 0 <= p.st /\ p.st <= 2000 := h
 rw [w64 (by omega) (by omega), w64 (by omega) (by omega), condP]
 unfold levM
 by_cases h : p.st = 2000 <;> simp [h])
def passM (x : Ln) (g : Gau) : Bool := decide (g.lo * (hasM x g.st).d <= (hasM x g.st).n) && decide ((hasM x g.st).n <= g.hi * (hasM x g.st).d)
def okG (g : Gau) : Prop := 0 <= g.st /\ g.st <= 2000 /\ 0 <= g.lo /\ g.lo <= g.hi /\ g.hi <= 200000
def V_passes (a : LnG) : Prop := fnVC Try.prog (ann 30 [(n_has, s_has)]) F_passes (bodyOf F_passes) (xLG a) (heapOf []) (.bool (passM a.x a.g)) [] [] []
theorem vc_passes (a : LnG) : (V_passes a) = (((0 <= a.x.a0 /\ a.x.a0 < a.x.b0 /\ a.x.b0 <= 2000 /\ 0 <= a.x.a1 /\ a.x.a1 <= a.x.b1 /\ a.x.b1 <= 200000) /\ 0 <= a.g.st /\ a.g.st <= 2000) /\ passM a.x a.g = bif decide ((hasM a.x
 a.g.st).n >= IntKind.i64.wrap (a.g.lo * (hasM a.x a.g.st).d)) then decide ((hasM a.x a.g.st).n <= IntKind.i64.wrap (a.g.hi * (hasM a.x a.g.st).d)) else false) := by kernel_rfl
def s_passes := pD dLG (λ a => .bool (passM a.x a.g)) (λ a => [okL a.x, okG a.g])
theorem ok_passes : SpecOk Try.prog n_passes s_passes := pD_ok xLG hLG λ a h => fnt (A := ann 30 [(n_has, s_has)]) (ren := []) (fz := []) fn_passes (by kernel_rfl) (gok_cons ok_has gok_nil) (by
 show V_passes a; rw [vc_passes]; try simp only [condP, eq_self, implies_true, and_self, true_and, and_true, true_implies, forall_const, decide_eq_true_eq, decide_eq_false_iff_not, Int.toNat_natCast, dSpan_eSpan, dInt_eInt, dGau_e, dPt_e, dLn_e, dRt_e, Nat.zero_add, Int.zero_sub, Nat.le_eq, Nat.succ_eq_add_one, Nat.add_one_le_iff, Bool.not_eq_true', Bool.not_eq_false', rng_length, dSpan_mk, rng_getD]
 obtain ⟨h1, h2, h3, h4, h5, h6⟩ : okL a.x /\ okG a.g := h
 have hd := hasM_d (t := a.g.st) h1
 have b1 := mulb (A := 200000) (B := 2000) h4 (by omega) (show 0 <= (hasM a.x a.g.st).d by omega) hd.2
 have b2 := mulb (A := 200000) (B := 2000) (show 0 <= a.g.hi by omega) (by omega) (show 0 <= (hasM a.x a.g.st).d by omega) hd.2
 rw [w64 (by omega) (by omega), w64 (by omega) (by omega)]
 refine ⟨⟨h1, h2, h3⟩, ?_⟩
 unfold passM
 cases decide (a.g.lo * (hasM a.x a.g.st).d <= (hasM a.x a.g.st).n) <;> simp_all)
end Go.Bal
