/- TopOwed: turns (package share), six works (package notes), and whether all of them are aware. -/
import Derived.Test.YtgjkmndbkidgjaaGreatOwX
set_option linter.unusedVariables false
set_option linter.unusedSimpArgs false
set_option maxRecDepth 8000
namespace Go.Bal
open Go Go.Sym Go.Proofs
structure Qn where
 c : Int
 b : Int
def eQn (q : Qn) : DVal := .agg [BM q.c, BM q.b]
def V_rr (x : Int) : Prop := BB Try.prog (ann 9 []) oN (AS oN) (xI1 x) (AK []) (.bool (HO x 0 2)) [] [] []
theorem BFS (x : Int) : (V_rr x) = (HO x 0 2 = bif decide (x >= 0) then decide (x <= 2) else false) := by kernel_rfl
def s_rr := pD dI1 λ x => .bool (HO x 0 2)
def V_dy (x : I2) : Prop := BB Try.prog (ann 29 []) ASH (AS ASH) [.int 1, .int x.a, .int x.b] (AK []) (.d (eQn ⟨wr (2 * x.a), wr (wr (2 * x.b) - 1)⟩)) [] [] []
theorem BIB (x : I2) : (V_dy x) = (wr (2 * x.a) = IntKind.i64.wrap (2 * x.a) /\ wr (wr (2 * x.b) - 1) = IntKind.i64.wrap (IntKind.i64.wrap (2 * x.b) - 1)) := by kernel_rfl
def dDy : List AVal -> Option I2
 | [.d (.v (.int .i64 1)), .d (.v (.int .i64 a)), .d (.v (.int .i64 b))] => some ⟨a, b⟩
 | _ => none
def xDy (x : I2) : List AVal := [.int 1, .int x.a, .int x.b]
def s_dy := pD dDy λ x => .d (eQn ⟨wr (2 * x.a), wr (wr (2 * x.b) - 1)⟩)
structure Q2 where
 a : Qn
 b : Qn
def dQ2 : List AVal -> Option Q2
 | [.d (.agg [.v (.int .i64 a), .v (.int .i64 b)]), .d (.agg [.v (.int .i64 c), .v (.int .i64 d)])] => some ⟨⟨a, b⟩, ⟨c, d⟩⟩
 | _ => none
def xQ2 (x : Q2) : List AVal := [.d (eQn x.a), .d (eQn x.b)]
def YL (x : Q2) : Bool := decide (wr (x.a.c * x.b.b) > wr (x.b.c * x.a.b))
def ALM := pD dQ2 λ x => .bool (YL x)
def AQG (x : Q2) : Prop := BB Try.prog (ann 16 []) AED (AS AED) (xQ2 x) (AK []) (.bool (YL x)) [] [] []
theorem AUP (x : Q2) : (AQG x) = (YL x = decide (IntKind.i64.wrap (x.a.c * x.b.b) > IntKind.i64.wrap (x.b.c * x.a.b))) := by kernel_rfl
theorem hDy (xs : List AVal) (a : I2) (h : dDy xs = some a) : xs = xDy a := by
 unfold dDy at h; split at h <;> cases h; rfl
theorem hQ2 (xs : List AVal) (a : Q2) (h : dQ2 xs = some a) : xs = xQ2 a := by
 unfold dQ2 at h; split at h <;> cases h; rfl
theorem BCY : AR Try.prog tM s_rr := JO xI1 hI1 λ x _ => JK (A := ann 9 []) (ren := []) (fz := []) AKA (by kernel_rfl) AM (by
 show V_rr x; rw [BFS]; unfold HO; by_cases h : 0 <= x <;> simp [h])
theorem BFM : AR Try.prog ARK s_dy := JO xDy hDy λ x _ => JK (A := ann 29 []) (ren := []) (fz := []) BBG (by kernel_rfl) AM (by
 show V_dy x; rw [BIB]; exact ⟨rfl, rfl⟩)
theorem ATO : AR Try.prog ADJ ALM := JO xQ2 hQ2 λ x _ => JK (A := ann 16 []) (ren := []) (fz := []) ATN (by kernel_rfl) AM (by
 show AQG x; rw [AUP]; rfl)
def xTu : List AVal := [.d (AF [60, 30, 10]), .int 9, .int 1]
def C_Tu : Ctr := { α := One, xs := λ _ => xTu, L := λ _ => [], val := λ _ => .tup [.d (AF [5, 3, 1]), .int 0], keep := λ _ => [] }
def d_Tu : List AVal -> Heap -> Option (One × List (Nat × Nat) × List Nat)
 | [.d _, _, _], _ => some (default, [], [])
 | _, _ => none
def clT : List Int := [60, 30, 10]
def qT (o : List Int) (i : Nat) : Qn := ⟨wr (2 * gD clT i), wr (wr (2 * wr (gD o i + 1)) - 1)⟩
def DX (o : List Int) : Nat -> Nat × Qn
 | 0 => (0, qT o 0)
 | k + 1 => bif (!((qT o k).c == (DX o k).2.c && (qT o k).b == (DX o k).2.b)) && YL ⟨qT o k, (DX o k).2⟩ then (k, qT o k) else DX o k
def GQ : Nat -> List Int
 | 0 => [0, 0, 0]
 | t + 1 => (GQ t).set (DX (GQ t) 3).1 (wr (gD (GQ t) (DX (GQ t) 3).1 + 1))
structure TK where
 t : Nat
 k : Nat
 deriving Inhabited
def tuS (t : Nat) : List (Nat × AVal) := [(0, .d (AF clT)), (2, .int 1), (9, .own 201 1 0 3), (41, .int 9), (42, .int t)]
def tuR (t : Nat) : Nat × HCell := (201, .live (.row 1 3 λ i => BM (gD (GQ t) i)))
def tu12 : Shape := { α := Nat, dflt := 0, T := λ t => ⟨tuS t, [tuR t]⟩, inv := λ t => t <= 9, meas := λ t => 10 - t, first := [(201, 11032)] }
def tu15 (m : Nat) : Shape := { α := TK, dflt := default, T := λ s => ⟨tuS s.t ++ [(10, .int (DX (GQ s.t) s.k).1), (11, .bptr 202 0), (53, .d (AF clT)), (54, .int 3), (55, .int s.k)], [tuR s.t, (202, .live (.box [.int (DX (GQ s.t) s.k).2.c, .int (DX (GQ s.t) s.k).2.b]))]⟩, inv := λ s => s.t < 9 /\ 10 - s.t = m /\ s.k <= 3, meas := λ s => 3 - s.k, first := [(202, 14144)] }
def A_Tu : Ann := { ann 87 [(AOW, C_clm.spec cX), (Ar, WB), (tM, s_rr), (ARK, s_dy), (ADJ, ALM)] with loops := λ id => if id = 12 then some [tu12] else none, inner := λ gs id => if id = 15 then match gs with
  | m :: _ => some [tu15 m]
  | [] => none
 else none }
def V_Tu (_x : One) : Prop := BB Try.prog A_Tu T1 (AS T1) xTu (AK []) (.tup [.d (AF [5, 3, 1]), .int 0]) [] [] [201]
abbrev FH : Prop := (3 : Nat) = (3 : Nat)
abbrev z_Tu_1 : List Int := [(60 : Int), (30 : Int), (10 : Int)]
abbrev ADH : Nat := z_Tu_1.length
abbrev Q6 (i : Nat) : Int := gD z_Tu_1 i
abbrev AFA : Int := Int.ofNat ADH
abbrev dM : Prop := Int.ofNat (1 : Nat) = Int.ofNat (1 : Nat)
abbrev bM : Prop := (0 : Nat) = (0 : Nat)
abbrev Yw : Prop := Int.ofNat (9 : Nat) = Int.ofNat (9 : Nat)
abbrev AGN : Prop := (0 : Int) <= (0 : Int) /\ (0 : Int) < (↑(3 : Nat) : Int)
abbrev z_Tu_9 : Nat := (0 : Nat) + Int.toNat (0 : Int)
abbrev PO : Prop := ∀ (i : Nat), i < (3 : Nat) -> gD clT i = gD clT i
abbrev TU (a : TK) : Int := (DX (GQ a.t) a.k).snd.c
abbrev UL (a : TK) : Int := (DX (GQ a.t) a.k).snd.b
abbrev lX (a : Nat) : Nat := (10 : Nat) - a
abbrev iW (a : TK) (a1 : Nat) : Prop := a.t < (9 : Nat) /\ (10 : Nat) - a.t = lX a1 /\ a.k <= (3 : Nat)
abbrev N1 (a : TK) : Prop := (0 : Int) <= (↑a.k : Int) /\ (↑a.k : Int) < (↑(3 : Nat) : Int)
abbrev zD (a : TK) : Nat := (0 : Nat) + a.k
abbrev lA (a : TK) : Int := wr ((2 : Int) * gD clT a.k)
abbrev kE (a : TK) : Int := wr (wr ((2 : Int) * IntKind.i64.wrap (gD (GQ a.t) (zD a) + (1 : Int))) - (1 : Int))
abbrev N3 (a : TK) (a1 : TK) : Prop := (↑a.t : Int) = (↑a1.t : Int)
abbrev E2 : Prop := Int.ofNat (3 : Nat) = Int.ofNat (3 : Nat)
abbrev R6 (a : TK) (a1 : TK) : Prop := (↑a.k : Int) = IntKind.i64.wrap ((↑a1.k : Int) + (1 : Int))
abbrev zC (a : TK) (a1 : TK) : Prop := ∀ (i : Nat), i < (3 : Nat) -> gD (GQ a.t) i = gD (GQ a1.t) i
abbrev O6 (a : TK) : Nat := (3 : Nat) - a.k
abbrev M6 (a : TK) (a1 : Nat) (a2 : TK) : Prop := iW a a1 /\ O6 a < O6 a2
abbrev yF (a : TK) : Prop := (0 : Int) <= (↑(DX (GQ a.t) a.k).fst : Int) /\ (↑(DX (GQ a.t) a.k).fst : Int) < (↑(3 : Nat) : Int)
abbrev Xn (a : TK) : Nat := (0 : Nat) + (DX (GQ a.t) a.k).fst
theorem BHC (_x : One) : (V_Tu _x) = ((FH /\ (∀ (i : Nat), i < (3 : Nat) -> gD (AJ ADH λ (i : Nat) => Q6 i) i = Q6 i) /\ ((1 : Nat) <= (3 : Nat) /\ (3 : Nat) <= (12 : Nat)) /\ true = true) /\ ((0 : Int) <=
 (↑(3 : Nat) : Int) /\ AFA = AFA /\ (↑(3 : Nat) : Int) <= (9223372036854775807 : Int) /\ (↑(8 : Nat) : Int) * (↑(3 : Nat) : Int) <= (281474976710656 : Int)) /\ (∃ (a : Nat), (FH /\ (∀ (i : Nat), i < (3 : Nat) -> gD clT
 i = Q6 i) /\ dM /\ bM /\ FH /\ Yw /\ (↑a : Int) = (0 : Int) /\ FH /\ ∀ (i : Nat), i < (3 : Nat) -> gD (GQ a) i = (0 : Int)) /\ a.le (9 : Nat)) /\ ∀ (a : Nat), a.le (9 : Nat) -> bif decide ((↑a : Int) < (9
 : Int)) then (AGN /\ AGN /\ z_Tu_9.succ.le (3 : Nat)) /\ (∃ (a_2 : TK), (FH /\ PO /\ dM /\ bM /\ FH /\ Yw /\ (↑a_2.t : Int) = (↑a : Int) /\ (↑(DX (GQ a_2.t) a_2.k).fst : Int) = (0 : Int) /\ FH
 /\ PO /\ Int.ofNat (3 : Nat) = Int.ofNat clT.length /\ (↑a_2.k : Int) = (0 : Int) /\ FH /\ (∀ (i : Nat), i < (3 : Nat) -> gD (GQ a_2.t) i = gD (GQ a) i) /\ TU a_2 = wr ((2 : Int) * gD clT (Int.toNat (0 :
 Int))) /\ UL a_2 = wr (wr ((2 : Int) * IntKind.i64.wrap (gD (GQ a) z_Tu_9 + (1 : Int))) - (1 : Int))) /\ iW a_2 a) /\ ∀ (a_2 : TK), iW a_2 a -> bif decide ((↑a_2.k : Int) < (3 : Int)) then N1 a_2 /\
 (N1 a_2 /\ (zD a_2).succ.le (3 : Nat)) /\ bif bif !(lA a_2 == TU a_2 && (kE a_2 == UL a_2 && true)) then YL (Q2.mk (Qn.mk (lA a_2) (kE a_2)) (Qn.mk (TU a_2) (UL a_2)))
 else false then ∃ (a_4 : TK), (FH /\ PO /\ dM /\ bM /\ FH /\ Yw /\ N3 a_4 a_2 /\ (↑(DX (GQ a_4.t) a_4.k).fst : Int) = (↑a_2.k : Int) /\ FH /\ PO /\ E2 /\ R6 a_4 a_2 /\ FH /\
 zC a_4 a_2 /\ TU a_4 = lA a_2 /\ UL a_4 = kE a_2) /\ M6 a_4 a a_2 else ∃ (a_4 : TK), (FH /\ PO /\ dM /\ bM /\ FH /\ Yw /\ N3 a_4 a_2 /\ (↑(DX (GQ a_4.t) a_4.k).fst :
 Int) = (↑(DX (GQ a_2.t) a_2.k).fst : Int) /\ FH /\ PO /\ E2 /\ R6 a_4 a_2 /\ FH /\ zC a_4 a_2 /\ TU a_4 = TU a_2 /\ UL a_4 = UL a_2) /\ M6 a_4 a a_2 else (yF a_2 /\
 Xn a_2 < (3 : Nat) /\ yF a_2 /\ (Xn a_2).succ.le (3 : Nat)) /\ ∃ (a_4 : Nat), (FH /\ PO /\ dM /\ bM /\ FH /\ Yw /\ (↑a_4 : Int) = IntKind.i64.wrap ((↑a_2.t : Int) + (1 : Int)) /\ FH /\ ∀
 (i : Nat), i < (3 : Nat) -> gD (GQ a_4) i = bif decide (i = Xn a_2) then IntKind.i64.wrap (gD (GQ a_2.t) (Xn a_2) + (1 : Int)) else gD (GQ a_2.t) i) /\ a_4.le (9 : Nat) /\ lX a_4 < lX a else FH
 /\ (3 : Nat) <= (3 : Nat) /\ (∀ (j : Nat), j < (3 : Nat) -> gD [(5 : Int), (3 : Int), (1 : Int)] j = gD (GQ a) ((0 : Nat) + j)) /\ Int.ofNat (0 : Nat) = Int.ofNat (0 : Nat)) := by kernel_rfl
theorem AUD {o : List Int} {k : Nat} (h : (bif !(wr (2 * gD clT k) == (DX o k).2.c && (wr (wr (2 * IntKind.i64.wrap (gD o k + 1)) - 1) == (DX o k).2.b && true)) then YL ⟨⟨wr (2 * gD clT k), wr (wr (2 * IntKind.i64.wrap (gD o k + 1)) - 1)⟩, ⟨(DX o k).2.c, (DX o k).2.b⟩⟩ else false) = true) : DX o (k + 1) = (k, qT o k) := by
 have e : ((!((qT o k).c == (DX o k).2.c && (qT o k).b == (DX o k).2.b)) && YL ⟨qT o k, (DX o k).2⟩) = true := by
  rw [Bool.and_true] at h
  show ((!(wr (2 * gD clT k) == (DX o k).2.c && wr (wr (2 * IntKind.i64.wrap (gD o k + 1)) - 1) == (DX o k).2.b)) && YL ⟨⟨wr (2 * gD clT k), wr (wr (2 * IntKind.i64.wrap (gD o k + 1)) - 1)⟩, ⟨(DX o k).2.c, (DX o k).2.b⟩⟩) = _
  generalize (!(wr (2 * gD clT k) == (DX o k).2.c && wr (wr (2 * IntKind.i64.wrap (gD o k + 1)) - 1) == (DX o k).2.b)) = q at h ⊢
  cases q
  ·exact h
  ·exact h
 simp only [DX, e, cond_true]
theorem BBE {o : List Int} {k : Nat} (h : (bif !(wr (2 * gD clT k) == (DX o k).2.c && (wr (wr (2 * IntKind.i64.wrap (gD o k + 1)) - 1) == (DX o k).2.b && true)) then YL ⟨⟨wr (2 * gD clT k), wr (wr (2 * IntKind.i64.wrap (gD o k + 1)) - 1)⟩, ⟨(DX o k).2.c, (DX o k).2.b⟩⟩ else false) = false) : DX o (k + 1) = DX o k := by
 have e : ((!((qT o k).c == (DX o k).2.c && (qT o k).b == (DX o k).2.b)) && YL ⟨qT o k, (DX o k).2⟩) = false := by
  rw [Bool.and_true] at h
  show ((!(wr (2 * gD clT k) == (DX o k).2.c && wr (wr (2 * IntKind.i64.wrap (gD o k + 1)) - 1) == (DX o k).2.b)) && YL ⟨⟨wr (2 * gD clT k), wr (wr (2 * IntKind.i64.wrap (gD o k + 1)) - 1)⟩, ⟨(DX o k).2.c, (DX o k).2.b⟩⟩) = _
  generalize (!(wr (2 * gD clT k) == (DX o k).2.c && wr (wr (2 * IntKind.i64.wrap (gD o k + 1)) - 1) == (DX o k).2.b)) = q at h ⊢
  cases q
  ·exact h
  ·exact h
 simp only [DX, e, cond_false]
theorem ALC (o : List Int) : ∀ k, k <= 3 -> (DX o k).1 < 3
 | 0, _ => Nat.lt_of_sub_eq_succ rfl
 | k + 1, h => by
  have := ALC o k (by omega)
  simp only [DX]
  cases (!((qT o k).c == (DX o k).2.c && (qT o k).b == (DX o k).2.b)) && YL ⟨qT o k, (DX o k).2⟩
  ·simp only [cond_false]; exact this
  ·show k < 3; omega
theorem AII : ∀ t, (GQ t).length = 3
 | 0 => rfl
 | t + 1 => by simp only [GQ, List.length_set, AII t]
theorem p_Tu (x : One) : V_Tu x := by
 rw [BHC]; delta FH z_Tu_1 ADH Q6 AFA dM bM Yw AGN z_Tu_9 PO TU UL lX iW N1 zD lA kE N3 E2 R6 zC O6 M6 yF Xn; simp only [BF, eq_self, implies_true, and_self, true_and, and_true, true_implies, forall_const, decide_eq_true_eq, decide_eq_false_iff_not, Int.toNat_natCast, dSpan_eSpan, dInt_eInt, AV, BH, BJ, BC, AZ, AX, AY, Nat.zero_add, Int.zero_sub, Nat.le_eq, Nat.succ_eq_add_one, Nat.add_one_le_iff, Bool.not_eq_true', Bool.not_eq_false', rng_length, AT, AP]
 refine ⟨by decide, by decide, ⟨0, ⟨λ _ _ => rfl, rfl, by decide⟩, Nat.zero_le _⟩, λ t ht => ⟨λ hlt => ?_, λ hge => ?_⟩⟩
 ·have hlt : t < 9 := by omega
  refine ⟨by decide, ⟨⟨t, 0⟩, ⟨rfl, rfl, rfl, rfl, λ _ _ => rfl, rfl, rfl⟩, hlt, rfl, Nat.zero_le _⟩, λ s hs => ⟨λ hk => ?_, λ hk => ?_⟩⟩
  all_goals obtain ⟨st, sk⟩ := s
  all_goals obtain ⟨h1, h2, h3⟩ : st < 9 /\ 10 - st = 10 - t /\ sk <= 3 := hs
  all_goals obtain rfl : st = t := by omega
  ·have hk : sk < 3 := by have q : (sk : Int) < 3 := hk; omega
   refine ⟨⟨by omega, by omega⟩, ⟨⟨by omega, by omega⟩, hk⟩, λ hb => ⟨⟨st, sk + 1⟩, ?_, ⟨hlt, rfl, hk⟩, ?_⟩, λ hb => ⟨⟨st, sk + 1⟩, ?_, ⟨hlt, rfl, hk⟩, ?_⟩⟩
   ·have e := AUD hb
    dsimp only
    rw [e]
    exact ⟨rfl, rfl, (CE (by omega)).symm, λ _ _ => rfl, rfl, rfl⟩
   ·show 3 - (sk + 1) < 3 - sk; omega
   ·have e := BBE hb
    dsimp only
    rw [e]
    exact ⟨rfl, rfl, (CE (by omega)).symm, λ _ _ => rfl, rfl, rfl⟩
   ·show 3 - (sk + 1) < 3 - sk; omega
  ·obtain rfl : sk = 3 := by have q : ¬ (sk : Int) < 3 := hk; omega
   have hb : (DX (GQ st) 3).1 < 3 := ALC (GQ st) 3 (Nat.le_refl _)
   refine ⟨⟨⟨Int.natCast_nonneg _, Int.ofNat_lt.2 hb⟩, hb, ⟨Int.natCast_nonneg _, Int.ofNat_lt.2 hb⟩, hb⟩, st + 1, ⟨(CE (by omega)).symm, λ i hi => ?_⟩, hlt, by omega⟩
   show gD ((GQ st).set _ _) i = bif _ then _ else _
   have hl := AII st
   unfold gD
   rw [List.getD_eq_getElem?_getD, List.getElem?_set]
   by_cases he : (DX (GQ st) 3).1 = i
   ·subst he; simp [hl, hb]; rfl
   ·have he2 : ¬ i = (DX (GQ st) 3).1 := λ q => he q.symm
    simp [he, he2]
 ·obtain rfl : t = 9 := by omega
  exact ⟨by decide, by decide +kernel⟩
theorem BEL : AR Try.prog P0 (C_Tu.spec d_Tu) := EX C_Tu (λ _ => A_Tu) [] [201] AQY (λ _ => by kernel_rfl) (λ _ => AH BAA (AH Nx (AH BCY (AH BFM (AH ATO AM))))) (λ (x : One) _ => p_Tu x) (λ _ => FK rfl rfl) _
def six : List Wk := [⟨[], 1, 5⟩, ⟨[], 1, 6⟩, ⟨[0, 1], 1, 10⟩, ⟨[1], 1, 30⟩, ⟨[2, 3], 1, 20⟩, ⟨[4], 1, 1⟩]
def C_Six : Ctr := { α := One, xs := λ _ => [], L := λ _ => [], val := λ _ => .d (JZ six), keep := λ _ => [] }
def AWC : Ann := { ann 12 [] with md := λ id => if id = 1 then some (λ k => if k == 2 || k == 4 || k == 6 || k == 8 || k == 10 then 4 else 0) else none }
def AXY (_x : One) : Prop := BB Try.prog AWC APD (AS APD) [] (AK []) (.d (JZ six)) [] [] []
def lst2 (a b : Int) : DVal := .list 1 2 (YE [BM a, BM b]) true
def lst1 (a : Int) : DVal := .list 1 1 (YE [BM a]) true
def g6 : Nat -> DVal := YE [.agg [QF, BM 1, BM 5], .agg [QF, BM 1, BM 6], .agg [lst2 0 1, BM 1, BM 10], .agg [lst1 1, BM 1, BM 30], .agg [lst2 2 3, BM 1, BM 20], .agg [lst1 4, BM 1, BM 1]]
theorem BGH (x : One) : AXY x = CJ (IE (JZ six) (.list 3 6 g6 true)) := by kernel_rfl
def AID : Ann := { ann 48 [(APJ, C_Six.spec xC), (gX, C_Stale.spec pB), (APO, C_Two.spec xC), (vF, C_Asg.spec AIH), (P0, C_Tu.spec d_Tu), (ACA, C_Same.spec d_L2)] with md := λ id => if id = 1 then some (λ k => if k == 1 then 4 else 0) else if id = 3 then some (λ k => if k == 0 then 4 else 0) else if id = 4 then some (λ k => if k == 12 || k == 17 || k == 22 then 4 else 0) else none }
def C_aware : Ctr := { α := One, xs := λ _ => [], L := λ _ => [], val := λ _ => .bool true, keep := λ _ => [] }
def AHT (_x : One) : Prop := BB Try.prog AID Q9 (AS Q9) [] (AK []) (.bool true) [] [] []
abbrev cH : List Wk := AJ six.length λ (i : Nat) => BE (BK (gD six i))
abbrev Dp (i : Nat) : Wk := gD cH i
abbrev aK (i : Nat) : List Int := (Dp i).of
abbrev aM : List Int := AJ (1 : Nat) λ (i : Nat) => (0 : Int)
abbrev dV : WI := WI.mk cH aM
abbrev QP : Prop := (2 : Nat) = (2 : Nat)
abbrev Dm (i : Nat) : Nat := (gD two.p i).length
abbrev cU (i : Nat) (i1 : Nat) : Int := gD (gD two.p i) i1
abbrev eF (i : Nat) (i1 : Nat) : Int := gD (gD two.s i).o i1
abbrev Eh : Prop := (3 : Nat) = (3 : Nat)
abbrev OH (i : Nat) : Bool := decide (i = (0 : Nat))
abbrev Oa (i : Nat) : Nat := i - (1 : Nat)
abbrev UC (i : Nat) : Bool := decide (Oa i = (0 : Nat))
abbrev Oe : Prop := (4 : Nat) = (4 : Nat)
abbrev z_aware_14 : List Int := Kn dV
abbrev Sg (i : Nat) : Int := gD z_aware_14 i
abbrev Pw : List Int := AJ z_aware_14.length λ (i : Nat) => Sg i
abbrev Gy (i : Nat) : Int := bif OH i then (0 : Int) else bif UC i then (2 : Int) else bif decide (Oa i - (1 : Nat) = (0 : Nat)) then (4 : Int) else (5 : Int)
abbrev Gu : List Int := AJ (4 : Nat) λ (i : Nat) => Gy i
abbrev z_aware_19 : List Int := [(1 : Int), (0 : Int)]
abbrev Ng (i : Nat) : Int := gD z_aware_19 i
abbrev Hd : List Int := AJ z_aware_19.length λ (i : Nat) => Ng i
abbrev Qe (i : Nat) : Int := bif OH i then (1 : Int) else (0 : Int)
abbrev Rb : List Int := AJ (2 : Nat) λ (i : Nat) => Qe i
abbrev z_aware_24 : List Int := [(5 : Int), (3 : Int), (1 : Int)]
abbrev Iy (i : Nat) : Int := gD z_aware_24 i
abbrev Ll : List Int := AJ z_aware_24.length λ (i : Nat) => Iy i
abbrev Tc (i : Nat) : Int := bif OH i then (5 : Int) else bif UC i then (3 : Int) else (1 : Int)
abbrev Kt : List Int := AJ (3 : Nat) λ (i : Nat) => Tc i
theorem AMK (_x : One) : (AHT _x) = (((6 : Nat) = (6 : Nat) /\ (∀ (i : Nat), i < (6 : Nat) -> (aK i).length = (gD six i).of.length /\ (∀ (i_1 : Nat), i_1 < (gD (AJ (6 : Nat) λ (i : Nat) => BE (BK (gD
 six i))) i).of.length -> gD (aK i) i_1 = gD (gD six i).of i_1) /\ (Dp i).ba = (gD six i).ba /\ (Dp i).mi = (gD six i).mi) /\ (1 : Nat) = (1 : Nat) /\ (∀ (i : Nat), i < (1 : Nat) -> gD aM i = (0 :
 Int)) /\ RvOk dV) /\ (QP /\ (∀ (i : Nat), i < (2 : Nat) -> Dm i = Dm i /\ ∀ (i_1 : Nat), i_1 < Dm i -> cU i i_1 = cU i i_1) /\ QP /\ ∀ (i : Nat), i < (2 : Nat) -> (gD two.s
 i).n = (gD two.s i).n /\ (gD two.s i).o.length = (gD two.s i).o.length /\ ∀ (i_1 : Nat), i_1 < (gD two.s i).o.length -> eF i i_1 = eF i i_1) /\ (Eh /\ (∀ (i : Nat), i < (3 : Nat) -> gD [(60 : Int), (30 :
 Int), (10 : Int)] i = bif OH i then (60 : Int) else bif UC i then (30 : Int) else (10 : Int)) /\ Int.ofNat (9 : Nat) = Int.ofNat (9 : Nat) /\ Int.ofNat (1 : Nat) = Int.ofNat (1 : Nat)) /\ (True -> true =
 true) /\ (true = true -> true = true) /\ (True -> true = true) /\ (true = true -> true = true) /\ ((True -> true = true) /\ (True -> true = true) /\ (true = true -> Oe /\ (∀ (i : Nat), i < (4 : Nat) -> gD Pw i =
 Sg i) /\ Oe /\ (∀ (i : Nat), i < (4 : Nat) -> gD Gu i = Gy i) /\ (4 : Nat) < (4611686018427387904 : Nat) /\ Pw = Gu)) /\ (true = true -> true = true) /\ ((True -> true = true) /\
 (True -> true = true) /\ (true = true -> QP /\ (∀ (i : Nat), i < (2 : Nat) -> gD Hd i = Ng i) /\ QP /\ (∀ (i : Nat), i < (2 : Nat) -> gD Rb i = Qe i) /\ (2 : Nat) <
 (4611686018427387904 : Nat) /\ Hd = Rb)) /\ (true = true -> true = true) /\ ((True -> true = true) /\ (True -> true = true) /\ (true = true -> Eh /\ (∀ (i : Nat), i < (3 : Nat) -> gD Ll i = Iy
 i) /\ Eh /\ (∀ (i : Nat), i < (3 : Nat) -> gD Kt i = Tc i) /\ (3 : Nat) < (4611686018427387904 : Nat) /\ Ll = Kt)) /\ (true = true -> true = true) /\ true = true) := by kernel_rfl
theorem BER (x : One) : AXY x := by
 rw [BGH]
 refine ⟨rfl, λ i hi => ?_⟩
 have hi : i < 6 := hi
 have hi : i = 0 ∨ i = 1 ∨ i = 2 ∨ i = 3 ∨ i = 4 ∨ i = 5 := by omega
 rcases hi with rfl | rfl | rfl | rfl | rfl | rfl
 ·exact ⟨rfl, rfl, rfl, rfl⟩
 ·exact ⟨rfl, rfl, rfl, rfl⟩
 ·refine ⟨rfl, λ j hj => ?_, rfl, rfl⟩
  have hj : j < 2 := hj
  obtain rfl | rfl : j = 0 ∨ j = 1 := by omega
  ·exact rfl
  ·exact rfl
 ·refine ⟨rfl, λ j hj => ?_, rfl, rfl⟩
  have hj : j < 1 := hj
  obtain rfl : j = 0 := by omega
  exact rfl
 ·refine ⟨rfl, λ j hj => ?_, rfl, rfl⟩
  have hj : j < 2 := hj
  obtain rfl | rfl : j = 0 ∨ j = 1 := by omega
  ·exact rfl
  ·exact rfl
 ·refine ⟨rfl, λ j hj => ?_, rfl, rfl⟩
  have hj : j < 1 := hj
  obtain rfl : j = 0 := by omega
  exact rfl
theorem BAB : AR Try.prog APJ (C_Six.spec xC) := EX C_Six (λ _ => AWC) [] [] AZE (λ _ => by kernel_rfl) (λ _ => AM) (λ (x : One) _ => BER x) (λ _ => FK rfl rfl) _
def wk1B (l : List Wk) (i : Nat) : Bool := decide (((gD l i).of.length <= 5 /\ (0 <= (gD l i).ba /\ (gD l i).ba <= 1000002) /\ 0 <= (gD l i).mi /\ (gD l i).mi <= 10000) /\ ∀ j, j < (gD l i).of.length -> (0 <= gD (gD l i).of j /\ gD (gD l i).of j < i) /\ ∀ k, k < j -> gD (gD l i).of k ≠ gD (gD l i).of j)
def wksB (l : List Wk) : Bool := decide ((1 <= l.length /\ l.length <= 30) /\ ∀ i, i < l.length -> wk1B l i = true)
theorem AGU {l : List Wk} (h : wksB l = true) : WksOk l := by
 obtain ⟨hl, h⟩ := of_decide_eq_true h
 have h2 : ∀ i, i < l.length -> _ := λ i hi => of_decide_eq_true (show decide _ = true from h i hi)
 exact ⟨hl, λ i hi => (h2 i hi).1.1, λ i hi => (h2 i hi).1.2, λ i j hi hj => ((h2 i hi).2 j hj).1, λ i j k hi hj hk => ((h2 i hi).2 k hk).2 j hj⟩
theorem BAU : RvOk ⟨six, [0]⟩ := ⟨AGU (by decide +kernel), rfl, by decide⟩
theorem AST (x : One) : AHT x := by
 rw [AMK]; delta cH Dp aK aM dV QP Dm cU eF Eh OH Oa UC Oe z_aware_14 Sg Pw Gy Gu z_aware_19 Ng Hd Qe Rb z_aware_24 Iy Ll Tc Kt; simp only [BF, eq_self, implies_true, and_self, true_and, and_true, true_implies, forall_const, decide_eq_true_eq, decide_eq_false_iff_not, Int.toNat_natCast, dSpan_eSpan, dInt_eInt, AV, BH, BJ, BC, AZ, AX, AY, Nat.zero_add, Int.zero_sub, Nat.le_eq, Nat.succ_eq_add_one, Nat.add_one_le_iff, Bool.not_eq_true', Bool.not_eq_false', rng_length, AT, AP]
 repeat' apply And.intro
 all_goals first
  | decide +kernel
  | exact BAU
  | trace_state
theorem AQN : AR Try.prog N9 (C_aware.spec xC) := EX C_aware (λ _ => AID) [] [] AOP (λ _ => by kernel_rfl) (λ _ => AH BAB (AH AAZ (AH BBO (AH BCT (AH BEL (AH ASQ AM)))))) (λ (x : One) _ => AST x) (λ _ => FK rfl rfl) _
end Go.Bal
