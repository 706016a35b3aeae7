/- The reference of package balance: Check, asked; the program's asked. -/
import Derived.Test.YtonddbmhljelgaaBalU
set_option linter.unusedVariables false
set_option linter.unusedSimpArgs false
namespace Go.Bal
open Go Go.Sym Go.Proofs
def V60 (a b d : Int) : Prop := BC Try.prog (ann 15 []) Try.f60 (AH Try.f60) [.int a, .int b, .int d] (AE []) (.bool (!inM a b d)) [] [] []
theorem vc60 (a : Int) (b : Int) (d : Int) : (V60 a b d) = ((!inM a b d) = bif decide (a < b) then true else decide (a > d)) := by kernel_rfl
def f60 : List AVal -> Option (AVal × List Prop)
 | [.d (.v (.int .i64 a)), .d (.v (.int .i64 b)), .d (.v (.int .i64 c))] => some (.bool (!inM a b c), [])
 | _ => none
def s60 := DX f60
theorem p60 (a b d : Int) : V60 a b d := by
 rw [vc60]; unfold inM
 by_cases h1 : a < b <;> by_cases h2 : d < a <;> simp [h1, h2] <;> omega
theorem So : AI Try.prog 60 s60 := CE λ xs v p h _ => by
 unfold f60 at h; split at h
 ·cases h; exact NE (A := ann 15 []) (ren := []) (fz := []) Try.func60 (by kernel_rfl) AF (p60 _ _ _)
 ·cases h
def V82 (s : Span) : Prop := BC Try.prog (ann 18 []) Try.f82 (AH Try.f82) [.d (EU s)] (AE []) (.bool (!CJ s)) [] [] []
theorem vc82 (s : Span) : (V82 s) = ((!CJ s) = bif bif decide (s.lo < -1000000) then true else decide (s.hi > 1000000) then true else decide (s.lo > s.hi)) := by kernel_rfl
def f82 : List AVal -> Option (AVal × List Prop)
 | [.d (.agg [.v (.int .i64 a), .v (.int .i64 b)])] => some (.bool (!CJ ⟨a, b⟩), [])
 | _ => none
def s82 := DX f82
theorem p82 (s : Span) : V82 s := by
 rw [vc82]; unfold CJ inM
 by_cases h1 : s.lo < -1000000 <;> by_cases h2 : 1000000 < s.hi <;> by_cases h3 : s.hi < s.lo <;> simp [h1, h2, h3] <;> omega
theorem ok82 : AI Try.prog 82 s82 := CE λ xs v p h _ => by
 unfold f82 at h; split at h
 ·cases h; exact NE (A := ann 18 []) (ren := []) (fz := []) Try.func82 (by kernel_rfl) AF (p82 ⟨_, _⟩)
 ·cases h
def A45 (N : NetL) : Ann := { ann 73 [(60, s60), (82, s82)] with loops := λ id => if id = 4 then some [{ α := Nat, dflt := 0, T := λ k => ⟨[(1, .bptr 200 0), (3, .int k)], [(200, EZ N)]⟩, inv := λ k => (1 <= N.g.length /\ N.g.length <= 8 /\ N.r.length <= 14) /\ k <= N.g.length /\ ∀ i, i < k -> CJ (gD N.g i) = true, meas := λ k => N.g.length - k, first := [(200, 1000)] }] else if id = 9 then some [{ α := Nat, dflt := 0, T := λ k => ⟨[(1, .bptr 200 0), (4, .int k)], [(200, EZ N)]⟩, inv := λ k => (1 <= N.g.length /\ N.g.length <= 8 /\ N.r.length <= 14) /\ k <= N.r.length /\ AC N = GE (λ i => NF (PS N) (gD N.r i)) (N.r.length - k) k, meas := λ k => N.r.length - k }] else none }
def C45 : Ctr := { α := NetL, xs := λ N => [.d (EI N)], L := λ _ => [], val := λ N => .int (AC N), keep := λ _ => [], pre := λ N => [QJ N] }
def V45 (N : NetL) : Prop := BC Try.prog (A45 N) Try.f45 (AH Try.f45) (C45.xs N) (AE []) (C45.val N) [] [] []
theorem vc45 (N : NetL) : (V45 N) = (let q := N
 let y0 := q.g.length = q.g.length /\ (∀ (i : Nat), i < q.g.length -> (gD q.g i).lo = (gD q.g i).lo /\ (gD q.g i).hi = (gD q.g i).hi) /\ q.r.length = q.r.length /\ ∀ (i : Nat), i < q.r.length -> (gD q.r i).fr = (gD q.r i).fr /\ (gD q.r i).to = (gD q.r i).to /\ (gD q.r i).sp.lo = (gD q.r i).sp.lo /\ (gD q.r i).sp.hi = (gD q.r i).sp.hi
 let y1 (a : Nat) := (↑a : Int) = 0 /\ y0
 let y2 := 1 <= q.g.length /\ q.g.length <= 8 /\ q.r.length <= 14
 let y3 (a : Nat) := y2 /\ a <= q.g.length /\ ∀ (i : Nat), i < a -> CJ (gD q.g i) = true
 let y4 (a : Nat) := (↑a : Int) < (↑q.g.length : Int)
 let y5 (a : Nat) := 0 <= (↑a : Int)
 let y6 (a : Nat) (a1 : Nat) := (↑a : Int) = IntKind.i64.wrap ((↑a1 : Int) + 1) /\ y0
 let y7 (a : Nat) := q.g.length - a
 let y8 (a : Nat) := q.r.length - a
 let y9 (a : Nat) := y2 /\ a <= q.r.length /\ AC q = GE (λ (i : Nat) => NF (PS q) (gD q.r i)) (y8 a) a
 let y10 (a : Nat) := (↑a : Int) < (↑q.r.length : Int)
 let y11 := IntKind.i64.wrap ((↑q.g.length : Int) - 1)
 (bif bif bif decide ((↑N.g.length : Int) < 1) then true else decide ((↑N.g.length : Int) > 8) then true else decide ((↑N.r.length : Int) > 14) then AC N = 3 else (∃ (a : Nat),
 y1 a /\ y3 a) /\ ∀ (a : Nat), y3 a -> bif decide (y4 a) then (y5 a /\ y4 a) /\ bif !CJ (gD N.g a) then AC N = 90 else ∃ (a_2 : Nat), y6 a_2 a /\ y3 a_2 /\ y7 a_2 < y7 a
 else (∃ (a : Nat), y1 a /\ y9 a) /\ ∀ (a : Nat), y9 a -> bif decide (y10 a) then (y5 a /\ y10 a) /\ bif bif bif !inM (gD N.r a).fr 0 y11 then true else !inM (gD N.r a).to 0 y11 then
 true else (gD N.r a).fr == (gD N.r a).to then AC N = 2 else bif !CJ (gD N.r a).sp then AC N = 90 else ∃ (a_3 : Nat), y6 a_3 a /\ y9 a_3 /\ y8 a_3 < y8 a else AC N = 0)) := by kernel_rfl
theorem ABE {p : Prop} [Decidable p] (h : ¬ p) : true = !decide p := by simp [h]
theorem ABF {p : Prop} [Decidable p] (h : p) : false = !decide p := by simp [h]
theorem Rn {p : Prop} [Decidable p] (h : (!decide p) = true) : ¬ p := λ hp => by rw [decide_eq_true hp] at h; cases h
theorem Pp {p : Prop} [Decidable p] (h : (!decide p) = false) : p := Decidable.byContradiction λ hp => by rw [decide_eq_false hp] at h; cases h
theorem Lj {N : NetL} (h : ¬ (1 <= N.g.length /\ N.g.length <= 8 /\ N.r.length <= 14)) : AC N = 3 := by
 unfold AC DE
 rw [if_pos]
 have hg : ((PS N).nG : Int) = N.g.length := rfl
 have hr : (PS N).nR = N.r.length := rfl
 rw [hg, hr]
 simp only [Bool.or_eq_true, Bool.not_eq_true', decide_eq_true_eq, inM, Bool.and_eq_false_iff, decide_eq_false_iff_not]
 omega
theorem QQ {N : NetL} (h : 1 <= N.g.length /\ N.g.length <= 8 /\ N.r.length <= 14) : AC N = if HP (λ i => CJ (gD N.g i)) N.g.length then GE (λ i => NF (PS N) (gD N.r i)) N.r.length 0 else 90 := by
 unfold AC DE
 rw [if_neg]
 ·rfl
 have hg : ((PS N).nG : Int) = N.g.length := rfl
 have hr : (PS N).nR = N.r.length := rfl
 rw [hg, hr]
 simp only [Bool.or_eq_true, Bool.not_eq_true', decide_eq_true_eq, inM, Bool.and_eq_false_iff, decide_eq_false_iff_not]
 omega
theorem p45 (N : NetL) (hs : QJ N) : V45 N := by
 obtain ⟨hs1, hs2⟩ := hs
 rw [vc45]; (conv => zeta); simp only [CC, eq_self, implies_true, forall_const, DL.d1, DL.d2, JY]
 have e1 : (bif bif decide ((N.g.length : Int) < 1) then true else decide ((N.g.length : Int) > 8) then true else decide ((N.r.length : Int) > 14)) = !decide (1 <= N.g.length /\ N.g.length <= 8 /\ N.r.length <= 14) := by
  by_cases a : (N.g.length : Int) < 1 <;> by_cases b : (N.g.length : Int) > 8 <;> by_cases c : (N.r.length : Int) > 14 <;> simp only [a, b, c, decide_true, decide_false, cond_true, cond_false] <;> first | exact ABE (by omega) | exact ABF (by omega)
 rw [e1]
 refine ⟨λ hb => Lj (Rn hb), λ hb => ?_⟩
 have hok : 1 <= N.g.length /\ N.g.length <= 8 /\ N.r.length <= 14 := Pp hb
 refine ⟨⟨0, rfl, hok, Nat.zero_le _, λ i hi => by omega⟩, λ k ⟨_, q1, q2⟩ => ⟨λ hlt => ⟨⟨by omega, hlt⟩, λ hf => ?_, λ hf => ⟨k + 1, (AN (by omega)).symm, ⟨hok, by omega, λ i hi => ?_⟩, by omega⟩⟩, λ hge => ⟨⟨0, rfl, hok, Nat.zero_le _, ?_⟩, λ q ⟨_, q3, q4⟩ => ⟨λ hlt => ⟨⟨by omega, hlt⟩, λ hc => ?_, λ hc => ⟨λ hf => ?_, λ hf => ⟨q + 1, (AN (by omega)).symm, ⟨hok, by omega, ?_⟩, by omega⟩⟩⟩, λ hge => ?_⟩⟩⟩⟩
 ·rw [QQ hok, if_neg]
  rw [ET]; intro h
  rw [h k (by omega)] at hf; cases hf
 ·by_cases he : i = k
  ·subst he; exact hf
  ·exact q2 i (by omega)
 ·rw [QQ hok, if_pos (ET.2 λ i hi => q2 i (by omega))]; rfl
 all_goals have hw : IntKind.i64.wrap ((N.g.length : Int) - 1) = (N.g.length : Int) - 1 := LO (by omega) (by omega)
 all_goals have hq : (PS N).nG = N.g.length := rfl
 ·rw [hw] at hc
  have e : NF (PS N) (gD N.r q) = 2 := by
   unfold NF; rw [hq, if_pos]; rw [<- hc]
   cases inM (gD N.r q).fr 0 ((N.g.length : Int) - 1) <;> cases inM (gD N.r q).to 0 ((N.g.length : Int) - 1) <;> simp [Bool.beq_eq_decide_eq]
  rw [q4, NJ (by omega) (by rw [e]; decide), e]
 ·rw [hw] at hc
  have e : NF (PS N) (gD N.r q) = 90 := by
   unfold NF; rw [hq, if_neg, hf]
   ·rfl
   ·rw [Bool.not_eq_true, <- hc]
    cases inM (gD N.r q).fr 0 ((N.g.length : Int) - 1) <;> cases inM (gD N.r q).to 0 ((N.g.length : Int) - 1) <;> simp [Bool.beq_eq_decide_eq]
  rw [q4, NJ (by omega) (by rw [e]; decide), e]
 ·rw [hw] at hc
  have e : NF (PS N) (gD N.r q) = 0 := by
   unfold NF; rw [hq, if_neg, hf]
   ·rfl
   ·rw [Bool.not_eq_true, <- hc]
    cases inM (gD N.r q).fr 0 ((N.g.length : Int) - 1) <;> cases inM (gD N.r q).to 0 ((N.g.length : Int) - 1) <;> simp [Bool.beq_eq_decide_eq]
  rw [q4]; exact Fp (by omega) e
 ·rw [q4]; exact Bi (by omega)
theorem Uf : AI Try.prog 45 (C45.spec QO) := HQ C45 A45 [] [] Try.func45 (λ _ => by kernel_rfl) (λ _ => AA So (AA ok82 AF)) (λ N h => p45 N h) (λ _ => IL rfl rfl) _
theorem ABN (a b c d : Nat) : (bif ((a : Int) != (b : Int)) then true else ((c : Int) != (d : Int))) = !decide (a = b /\ c = d) := by
 by_cases h1 : a = b
 ·by_cases h2 : c = d
  ·subst h1; subst h2; simp
  ·have : (c : Int) ≠ d := by omega
   simp [h1, h2, this]
 ·have : (a : Int) ≠ b := by omega
  simp [h1, this]
def EK (N : NetL) (T : TruthL) : Int := if AC N = 0 then if T.f.length = N.r.length /\ T.t.length = N.g.length then if HP (λ i => inM (gD T.f i) (-100000000) 100000000) T.f.length && HP (λ i => inM (gD T.t i) (-100000000) 100000000) T.t.length then 0 else 4 else 2 else AC N
def Ft (T : TruthL) : Prop := T.f.length <= 1000000 /\ T.t.length <= 1000000
def C78 : Ctr := { α := NT, xs := λ a => [.d (EI a.N), .d (EY a.T)], L := λ _ => [], val := λ a => .int (EK a.N a.T), keep := λ _ => [], pre := λ a => [QJ a.N, Ft a.T] }
def Yh : List AVal -> Heap -> Option (NT × List (Nat × Nat) × List Nat)
 | [.d x, .d (.agg [.list _ n f _, .list _ m g _])], _ => match MV x with
  | some N => some (⟨N, AD n λ i => FH (f i), AD m λ i => FH (g i)⟩, [], [])
  | none => none
 | _, _ => none
def Tt (T : TruthL) : HCell := .live (.box [.d (AW T.f), .d (AW T.t)])
def A83 (a : NT) : Ann := { ann 55 [(45, C45.spec QO), (60, s60)] with loops := λ id => if id = 7 then some [{ α := Nat, dflt := 0, T := λ k => ⟨[(3, .bptr 201 0), (6, .int k)], [(201, Tt a.T)]⟩, inv := λ k => (AC a.N = 0 /\ a.T.f.length = a.N.r.length /\ a.T.t.length = a.N.g.length) /\ k <= a.T.f.length /\ ∀ i, i < k -> inM (gD a.T.f i) (-100000000) 100000000 = true, meas := λ k => a.T.f.length - k, first := [(201, 1016)] }] else if id = 12 then some [{ α := Nat, dflt := 0, T := λ k => ⟨[(3, .bptr 201 0), (7, .int k)], [(201, Tt a.T)]⟩, inv := λ k => (AC a.N = 0 /\ a.T.f.length = a.N.r.length /\ a.T.t.length = a.N.g.length) /\ (∀ i, i < a.T.f.length -> inM (gD a.T.f i) (-100000000) 100000000 = true) /\ k <= a.T.t.length /\ ∀ i, i < k -> inM (gD a.T.t i) (-100000000) 100000000 = true, meas := λ k => a.T.t.length - k }] else none }
def V83 (a : NT) : Prop := BC Try.prog (A83 a) Try.f83 (AH Try.f83) (C78.xs a) (AE []) (C78.val a) [] [] []
theorem vc83 (a : NT) : (V83 a) = (let q := a
 let y0 : List Span := AD q.N.g.length λ (i : Nat) => gD q.N.g i
 let y1 := y0.length
 let y2 (i : Nat) : Span := gD y0 i
 let y3 : List Reach := AD q.N.r.length λ (i : Nat) => gD q.N.r i
 let y4 := y3.length
 let y5 (i : Nat) : Reach := gD y3 i
 let y6 (i : Nat) : Span := (y5 i).sp
 let y7 := AC (NetL.mk y0 y3)
 let y8 := q.T.f.length = q.T.f.length /\ (∀ (i : Nat), i < q.T.f.length -> gD q.T.f i = gD q.T.f i) /\ q.T.t.length = q.T.t.length /\ ∀ (i : Nat), i < q.T.t.length -> gD q.T.t i = gD q.T.t i
 let y9 (a : Nat) := (↑a : Int) = 0 /\ y8
 let y10 := AC q.N = 0 /\ q.T.f.length = q.N.r.length /\ q.T.t.length = q.N.g.length
 let y11 (i : Nat) := inM (gD q.T.f i) (-100000000) 100000000
 let y12 (i : Nat) := y11 i = true
 let y13 (a1 : Nat) := y10 /\ a1 <= q.T.f.length /\ ∀ (i : Nat), i < a1 -> y12 i
 let y14 (a : Nat) := (↑a : Int) < (↑q.T.f.length : Int)
 let y15 (a : Nat) := 0 <= (↑a : Int)
 let y16 := EK q.N q.T = 4
 let y17 (a : Nat) (a1 : Nat) := (↑a : Int) = IntKind.i64.wrap ((↑a1 : Int) + 1) /\ y8
 let y18 (a1 : Nat) := q.T.f.length - a1
 let y19 (i : Nat) := inM (gD q.T.t i) (-100000000) 100000000
 let y20 (a1 : Nat) := y10 /\ (∀ (i : Nat), i < q.T.f.length -> y12 i) /\ a1 <= q.T.t.length /\ ∀ (i : Nat), i < a1 -> y19 i = true
 let y21 (a : Nat) := (↑a : Int) < (↑q.T.t.length : Int)
 let y22 (a1 : Nat) := q.T.t.length - a1
 ((y1 = a.N.g.length /\ (∀ (i : Nat), i < y1 -> (y2 i).lo = (gD a.N.g i).lo /\ (y2 i).hi = (gD a.N.g i).hi) /\ y4 = a.N.r.length /\ (∀ (i : Nat), i < y4 -> (y5 i).fr = (gD a.N.r i).fr /\ (y5 i).to = (gD a.N.r i).to /\ (y6 i).lo = (gD a.N.r i).sp.lo /\ (y6 i).hi = (gD a.N.r i).sp.hi) /\ y1 <= 1000000 /\ y4 <= 1000000) /\ bif y7 != 0 then EK a.N a.T =
 y7 else bif bif (↑a.T.f.length : Int) != (↑a.N.r.length : Int) then true else (↑a.T.t.length : Int) != (↑a.N.g.length : Int) then EK a.N a.T = 2 else (∃ (a_1 : Nat), y9 a_1 /\ y13 a_1) /\ ∀ (a_1 : Nat),
 y13 a_1 -> bif decide (y14 a_1) then (y15 a_1 /\ y14 a_1) /\ bif !y11 a_1 then y16 else ∃ (a_3 : Nat), y17 a_3 a_1 /\ y13 a_3 /\ y18 a_3 < y18 a_1 else (∃ (a_3 : Nat), y9 a_3 /\ y20 a_3) /\ ∀ (a_3 : Nat), y20 a_3 -> bif decide (y21 a_3) then (y15 a_3 /\ y21 a_3) /\ bif !y19 a_3 then y16 else ∃ (a_5 : Nat), y17 a_5 a_3 /\ y20 a_5 /\ y22 a_5 < y22 a_3 else EK a.N a.T = 0)) := by kernel_rfl
theorem p83 (a : NT) (h1 : QJ a.N) (h2 : Ft a.T) : V83 a := by
 rw [vc83]; (conv => zeta); simp only [CC, eq_self, implies_true, forall_const, DL.d1, DL.d2, DL.d7, DL.d8, JY]
 obtain ⟨t1, t2⟩ := h2
 rw [ABN]
 refine ⟨h1, λ hb => ?_, λ hb => ⟨λ hl => ?_, λ hl => ?_⟩⟩
 ·have : AC a.N ≠ 0 := by simpa using hb
  simp [EK, this]
 all_goals have hc : AC a.N = 0 := by simpa using hb
 ·have : ¬ (a.T.f.length = a.N.r.length /\ a.T.t.length = a.N.g.length) := Rn hl
  simp only [EK, hc, if_true, if_neg this]
 have hl : a.T.f.length = a.N.r.length /\ a.T.t.length = a.N.g.length := Pp hl
 have no1 : ∀ k, k < a.T.f.length -> inM (gD a.T.f k) (-100000000) 100000000 = false -> EK a.N a.T = 4 := λ k hk hf => by
  have : HP (λ i => inM (gD a.T.f i) (-100000000) 100000000) a.T.f.length = false := by
   rw [Bool.eq_false_iff]; intro h; rw [ET.1 h k hk] at hf; cases hf
  simp only [EK, hc, if_true, if_pos hl, this, Bool.false_and, Bool.false_eq_true, if_false]
 have no2 : ∀ k, k < a.T.t.length -> inM (gD a.T.t k) (-100000000) 100000000 = false -> EK a.N a.T = 4 := λ k hk hf => by
  have : HP (λ i => inM (gD a.T.t i) (-100000000) 100000000) a.T.t.length = false := by
   rw [Bool.eq_false_iff]; intro h; rw [ET.1 h k hk] at hf; cases hf
  simp only [EK, hc, if_true, if_pos hl, this, Bool.and_false, Bool.false_eq_true, if_false]
 refine ⟨⟨0, rfl, ⟨hc, hl⟩, Nat.zero_le _, λ i hi => by omega⟩, λ k ⟨_, q1, q2⟩ => ⟨λ hlt => ⟨⟨by omega, hlt⟩, λ hf => no1 k (by omega) hf, λ hf => ⟨k + 1, (AN (by omega)).symm, ⟨⟨hc, hl⟩, by omega, λ i hi => ?_⟩, by omega⟩⟩, λ hge => ⟨⟨0, rfl, ⟨hc, hl⟩, λ i hi => q2 i (by omega), Nat.zero_le _, λ i hi => by omega⟩, λ q ⟨_, q3, q4, q5⟩ => ⟨λ hlt => ⟨⟨by omega, hlt⟩, λ hf => no2 q (by omega) hf, λ hf => ⟨q + 1, (AN (by omega)).symm, ⟨⟨hc, hl⟩, q3, by omega, λ i hi => ?_⟩, by omega⟩⟩, λ hge => ?_⟩⟩⟩⟩
 ·by_cases he : i = k
  ·subst he; exact hf
  ·exact q2 i (by omega)
 ·by_cases he : i = q
  ·subst he; exact hf
  ·exact q5 i (by omega)
 ·have e1 := (ET (p := λ i => inM (gD a.T.f i) (-100000000) 100000000) (n := a.T.f.length)).2 λ i hi => q3 i hi
  have e2 := (ET (p := λ i => inM (gD a.T.t i) (-100000000) 100000000) (n := a.T.t.length)).2 λ i hi => q5 i (by omega)
  simp only [EK, hc, if_true, if_pos hl, e1, e2, Bool.and_self]
theorem ok83 : AI Try.prog 83 (C78.spec Yh) := HQ C78 A83 [] [] Try.func83 (λ _ => by kernel_rfl) (λ _ => AA Uf (AA So AF)) (λ a h => p83 a h.1 h.2) (λ _ => IL rfl rfl) _
end Go.Bal
