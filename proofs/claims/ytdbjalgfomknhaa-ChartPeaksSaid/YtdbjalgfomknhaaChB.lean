/- Package chart: which charts are right; a chart at work. -/
import Derived.Test.YtdbjalgfomknhaaChE
set_option linter.unusedVariables false
set_option linter.unusedSimpArgs false
namespace Go.Bal
open Go Go.Sym Go.Proofs
def mkC : Int -> List Mk -> Int
 | _, [] => 0
 | a, m :: r => bif (bif !inM m.pl 0 10000 then true else !inM m.ht 0 1000) then 30 else bif decide (m.pl <= a) then 9 else mkC m.pl r
def dupP (l : List Nt) (i : Nat) : Bool := !(l.take i).any λ x => x.mi == (gD l i).mi
def headC (c : Cht) : Int := bif (bif !inM c.ms.length 1 40 then true else decide ((c.ns.length : Int) > 20)) then 3 else bif (bif (bif (bif !withinM c.p 1 600 then true else !inM c.base (-1000000) 1000000) then true else !inM c.scale 0 1000) then true else !inM c.off 0 1000) then 30 else 0
def checkC (c : Cht) : Int := bif headC c != 0 then headC c else bif mkC (-1) c.ms != 0 then mkC (-1) c.ms else bif !c.ns.all (λ n => rightM n c.ms.length) then 30 else bif allB (dupP c.ns) c.ns.length then 0 else 10
def dC1 : List AVal -> Heap -> Option (Cht × List (Nat × Nat) × List Nat)
 | [y], H => match dChtA y H with
  | some (l, f) => some (l, [], f)
  | none => none
 | _, _ => none
def C_Check : Ctr := { α := Cht, xs := λ c => [.d (eCht c)], L := λ _ => [], val := λ c => .int (checkC c), keep := λ _ => [], pre := λ c => [c.ms.length < 4611686018427387904 /\ c.ns.length < 4611686018427387904] }
def ck7 (c : Cht) : Shape := { α := NI, dflt := default, T := λ s => ⟨[(1, .bptr 201 0), (3, .int s.m), (44, .d (eMks c.ms)), (45, .int c.ms.length), (46, .int s.k)], [(201, .live (chB c))]⟩, inv := λ s => s.k <= c.ms.length /\ headC c = 0 /\ mkC s.m (c.ms.drop s.k) = mkC (-1) c.ms, meas := λ s => c.ms.length - s.k, first := [(201, 1000)] }
def ck18 (c : Cht) : Shape := { α := Nat, dflt := 0, T := λ k => ⟨[(1, .bptr 201 0), (75, .d (eNts c.ns)), (76, .int c.ns.length), (77, .int k)], [(201, .live (chB c))]⟩, inv := λ k => k <= c.ns.length /\ headC c = 0 /\ mkC (-1) c.ms = 0 /\ c.ns.all (λ n => rightM n c.ms.length) = true /\ allB (dupP c.ns) k = true, meas := λ k => c.ns.length - k }
def A_Check (c : Cht) : Ann := { ann 89 [(n_in, s_in), (n_within0, s_wi0), (n_eN, C4Nr.spec d4Nr), (n_cfN, C3Nc.spec d3Nc)] with loops := λ id => if id = 7 then some [ck7 c] else if id = 18 then some [ck18 c] else none }
def V_Check (c : Cht) : Prop := fnVC Try.prog (A_Check c) F_Check (bodyOf F_Check) (C_Check.xs c) (heapOf []) (C_Check.val c) [] [] []
abbrev z_Check_0 (c : Cht) : Prop := c.ms.length = c.ms.length
abbrev z_Check_1 (c : Cht) : Prop := ∀ (i : Nat), i < c.ms.length -> (gD c.ms i).pl = (gD c.ms i).pl /\ (gD c.ms i).ht = (gD c.ms i).ht
abbrev z_Check_2 (c : Cht) : Prop := (↑c.ms.length : Int) = (↑c.ms.length : Int)
abbrev z_Check_3 (c : Cht) : Prop := c.ns.length = c.ns.length
abbrev z_Check_4 (c : Cht) (i : Nat) : Prop := (gD c.ns i).mi = (gD c.ns i).mi
abbrev z_Check_5 (c : Cht) (i : Nat) : Prop := (gD c.ns i).t.lo = (gD c.ns i).t.lo
abbrev z_Check_6 (c : Cht) (i : Nat) : Prop := (gD c.ns i).t.hi = (gD c.ns i).t.hi
abbrev z_Check_7 (c : Cht) (i : Nat) : Prop := (gD c.ns i).s.lo = (gD c.ns i).s.lo
abbrev z_Check_8 (c : Cht) (i : Nat) : Prop := (gD c.ns i).s.hi = (gD c.ns i).s.hi
abbrev z_Check_9 (c : Cht) : Prop := ∀ (i : Nat), i < c.ns.length -> z_Check_4 c i /\ z_Check_5 c i /\ z_Check_6 c i /\ z_Check_7 c i /\ z_Check_8 c i
abbrev z_Check_10 (c : Cht) : Prop := c.p.lo = c.p.lo /\ c.p.hi = c.p.hi /\ c.base = c.base /\ c.scale = c.scale /\ c.off = c.off /\ z_Check_0 c /\ z_Check_1 c /\ z_Check_3 c /\ z_Check_9 c
abbrev z_Check_11 (c : Cht) : Int := mkC (-1 : Int) c.ms
abbrev z_Check_12 (a : NI) (c : Cht) : Prop := a.k <= c.ms.length /\ headC c = (0 : Int) /\ mkC a.m (List.drop a.k c.ms) = z_Check_11 c
abbrev z_Check_13 (a : NI) (c : Cht) : Prop := (↑a.k : Int) < (↑c.ms.length : Int)
abbrev z_Check_14 (c : Cht) (a : NI) : Nat := c.ms.length - a.k
abbrev z_Check_15 (c : Cht) : List Nt := rng c.ns.length λ (i : Nat) => gD c.ns i
abbrev z_Check_16 (c : Cht) : Nat := (z_Check_15 c).length
abbrev z_Check_17 (c : Cht) : Prop := z_Check_16 c = c.ns.length
abbrev z_Check_18 (c : Cht) (i : Nat) : Nt := gD (z_Check_15 c) i
abbrev z_Check_19 (c : Cht) (i : Nat) : Int := (z_Check_18 c i).mi
abbrev z_Check_20 (c : Cht) (i : Nat) : Span := (z_Check_18 c i).t
abbrev z_Check_21 (c : Cht) (i : Nat) : Int := (z_Check_20 c i).lo
abbrev z_Check_22 (c : Cht) (i : Nat) : Int := (z_Check_20 c i).hi
abbrev z_Check_23 (c : Cht) (i : Nat) : Span := (z_Check_18 c i).s
abbrev z_Check_24 (c : Cht) (i : Nat) : Int := (z_Check_23 c i).lo
abbrev z_Check_25 (c : Cht) (i : Nat) : Int := (z_Check_23 c i).hi
abbrev z_Check_26 (c : Cht) : Prop := ∀ (i : Nat), i < z_Check_16 c -> z_Check_19 c i = (gD c.ns i).mi /\ z_Check_21 c i = (gD c.ns i).t.lo /\ z_Check_22 c i = (gD c.ns i).t.hi /\ z_Check_24 c i = (gD c.ns i).s.lo /\
 z_Check_25 c i = (gD c.ns i).s.hi
abbrev z_Check_27 (c : Cht) : List Mk := rng c.ms.length λ (i : Nat) => gD c.ms i
abbrev z_Check_28 (c : Cht) : Nat := (z_Check_27 c).length
abbrev z_Check_29 (c : Cht) (i : Nat) : Mk := gD (z_Check_27 c) i
abbrev z_Check_30 (c : Cht) (i : Nat) : Int := (z_Check_29 c i).pl
abbrev z_Check_31 (c : Cht) (i : Nat) : Int := (z_Check_29 c i).ht
abbrev z_Check_32 (c : Cht) : Prop := (↑c.ns.length : Int) = (↑c.ns.length : Int)
abbrev z_Check_33 (a : Nat) (c : Cht) : Prop := a <= c.ns.length /\ headC c = (0 : Int) /\ z_Check_11 c = (0 : Int) /\ (c.ns.all λ (n : Nt) => rightM n (↑c.ms.length : Int)) = true /\ allB (dupP c.ns) a = true
abbrev z_Check_34 (a : Nat) (c : Cht) : Prop := (↑a : Int) < (↑c.ns.length : Int)
abbrev z_Check_35 (a : Nat) : Prop := (0 : Int) <= (↑a : Int)
abbrev z_Check_36 (a : Nat) : Nat := a - Int.toNat (0 : Int)
abbrev z_Check_37 (c : Cht) (i : Nat) : Nt := gD c.ns (Int.toNat (0 : Int) + i)
abbrev z_Check_38 (a : Nat) (c : Cht) : List Nt := rng (z_Check_36 a) λ (i : Nat) => z_Check_37 c i
abbrev z_Check_39 (a : Nat) (c : Cht) : Nat := (rng (a - (0 : Nat)) λ (i : Nat) => gD c.ns ((0 : Nat) + i)).length
abbrev z_Check_40 (a : Nat) (c : Cht) (i : Nat) : Nt := gD (z_Check_38 a c) i
abbrev z_Check_41 (a : Nat) (c : Cht) (i : Nat) : Span := (z_Check_40 a c i).t
abbrev z_Check_42 (c : Cht) (i : Nat) : Span := (z_Check_37 c i).t
abbrev z_Check_43 (a : Nat) (c : Cht) (i : Nat) : Span := (z_Check_40 a c i).s
abbrev z_Check_44 (c : Cht) (i : Nat) : Span := (z_Check_37 c i).s
abbrev z_Check_45 (c : Cht) (a : Nat) : Nat := c.ns.length - a
theorem vc_Check (c : Cht) : (V_Check c) = (bif bif !inM (↑c.ms.length : Int) (1 : Int) (40 : Int) then true else decide ((↑c.ns.length : Int) > (20 : Int)) then checkC c = (3 : Int) else bif bif bif bif !withinM c.p (1
 : Int) (600 : Int) then true else !inM c.base (-1000000 : Int) (1000000 : Int) then true else !inM c.scale (0 : Int) (1000 : Int) then true else !inM c.off (0 : Int) (1000 : Int) then checkC c = (30 : Int) else (∃ (a :
 NI), (a.m = (-1 : Int) /\ z_Check_0 c /\ z_Check_1 c /\ z_Check_2 c /\ (↑a.k : Int) = (0 : Int) /\ z_Check_10 c) /\ z_Check_12 a c) /\ ∀ (a : NI), z_Check_12 a c -> bif decide (z_Check_13 a c) then ((0 : Int) <= (↑a.k : Int) /\
 z_Check_13 a c) /\ bif bif !inM (gD c.ms a.k).pl (0 : Int) (10000 : Int) then true else !inM (gD c.ms a.k).ht (0 : Int) (1000 : Int) then checkC c = (30 : Int) else bif decide ((gD c.ms a.k).pl <= a.m) then checkC c = (9 :
 Int) else ∃ (a_2 : NI), (a_2.m = (gD c.ms a.k).pl /\ z_Check_0 c /\ z_Check_1 c /\ z_Check_2 c /\ (↑a_2.k : Int) = IntKind.i64.wrap ((↑a.k : Int) + (1 : Int)) /\ z_Check_10 c) /\ z_Check_12 a_2 c /\ z_Check_14 c a_2 <
 z_Check_14 c a else (z_Check_17 c /\ z_Check_26 c /\ c.p.lo = c.p.lo /\ c.p.hi = c.p.hi /\ c.base = c.base /\ c.scale = c.scale /\ c.off = c.off /\ z_Check_28 c = c.ms.length /\ (∀ (i : Nat), i < z_Check_28 c -> z_Check_30 c i =
 (gD c.ms i).pl /\ z_Check_31 c i = (gD c.ms i).ht) /\ z_Check_17 c /\ z_Check_26 c /\ c.p.lo = c.p.lo /\ c.p.hi = c.p.hi /\ c.base = c.base /\ c.scale = c.scale /\ c.off = c.off /\ c.ms.length = z_Check_28 c /\ (∀ (i : Nat), i <
 c.ms.length -> (gD c.ms i).pl = z_Check_30 c i /\ (gD c.ms i).ht = z_Check_31 c i) /\ c.ns.length = z_Check_16 c /\ (∀ (i : Nat), i < c.ns.length -> (gD c.ns i).mi = z_Check_19 c i /\ (gD c.ns i).t.lo = z_Check_21 c i /\ (gD
 c.ns i).t.hi = z_Check_22 c i /\ (gD c.ns i).s.lo = z_Check_24 c i /\ (gD c.ns i).s.hi = z_Check_25 c i) /\ z_Check_16 c < (4611686018427387904 : Nat) /\ True) /\ bif !(z_Check_15 c).all λ (x : Nt) => rightM x (↑(z_Check_28
 c) : Int) then checkC c = (30 : Int) else (∃ (a : Nat), (z_Check_3 c /\ z_Check_9 c /\ z_Check_32 c /\ (↑a : Int) = (0 : Int) /\ z_Check_10 c) /\ z_Check_33 a c) /\ ∀ (a : Nat), z_Check_33 a c -> bif decide (z_Check_34 a c)
 then (z_Check_35 a /\ z_Check_34 a c) /\ (((0 : Int) <= (0 : Int) /\ z_Check_35 a /\ (↑a : Int) <= (↑c.ns.length : Int)) /\ (z_Check_38 a c).length = z_Check_36 a /\ (∀ (i : Nat), i < z_Check_39 a c -> (z_Check_40 a c i).mi =
 (z_Check_37 c i).mi /\ (z_Check_41 a c i).lo = (z_Check_42 c i).lo /\ (z_Check_41 a c i).hi = (z_Check_42 c i).hi /\ (z_Check_43 a c i).lo = (z_Check_44 c i).lo /\ (z_Check_43 a c i).hi = (z_Check_44 c i).hi) /\ z_Check_4 c a
 /\ z_Check_5 c a /\ z_Check_6 c a /\ z_Check_7 c a /\ z_Check_8 c a /\ z_Check_4 c a /\ z_Check_5 c a /\ z_Check_6 c a /\ z_Check_7 c a /\ z_Check_8 c a /\ z_Check_39 a c < (4611686018427387904 : Nat) /\ True) /\ bif (z_Check_38 a
 c).any λ (x : Nt) => x.mi == (gD c.ns a).mi then checkC c = (10 : Int) else ∃ (a_3 : Nat), (z_Check_3 c /\ z_Check_9 c /\ z_Check_32 c /\ (↑a_3 : Int) = IntKind.i64.wrap ((↑a : Int) + (1 : Int)) /\ z_Check_10 c) /\
 z_Check_33 a_3 c /\ z_Check_45 c a_3 < z_Check_45 c a else checkC c = (0 : Int)) := by kernel_rfl
theorem rng_take {α : Type} [Inhabited α] {l : List α} {k : Nat} (h : k <= l.length) : (rng k λ i => gD l i) = l.take k := by
 refine gD_ext (by simp [h]) λ i hi => ?_
 have hi : i < k := by simpa using hi
 rw [rng_get _ _ _ hi]
 simp [gD, List.getD_eq_getElem?_getD, List.getElem?_take, hi]
theorem allB_stop {p : Nat -> Bool} {n k : Nat} (hk : k < n) (h : p k = false) : allB p n = false := by
 cases hc : allB p n with
 | false => rfl
 | true => rw [allB_iff.1 hc k hk] at h; cases h
theorem p_Check (c : Cht) (h : c.ms.length < 4611686018427387904 /\ c.ns.length < 4611686018427387904) : V_Check c := by
 obtain ⟨hm, hn⟩ := h
 rw [vc_Check]; delta z_Check_0 z_Check_1 z_Check_2 z_Check_3 z_Check_4 z_Check_5 z_Check_6 z_Check_7 z_Check_8 z_Check_9 z_Check_10 z_Check_11 z_Check_12 z_Check_13 z_Check_14 z_Check_15 z_Check_16 z_Check_17 z_Check_18 z_Check_19 z_Check_20 z_Check_21 z_Check_22 z_Check_23 z_Check_24 z_Check_25 z_Check_26 z_Check_27 z_Check_28 z_Check_29 z_Check_30 z_Check_31 z_Check_32 z_Check_33 z_Check_34 z_Check_35 z_Check_36 z_Check_37 z_Check_38 z_Check_39 z_Check_40 z_Check_41 z_Check_42 z_Check_43 z_Check_44 z_Check_45; simp only [condP, eq_self, implies_true, and_self, true_and, and_true, true_implies, forall_const, decide_eq_true_eq, decide_eq_false_iff_not, Int.toNat_natCast, dSpan_eSpan, dInt_eInt, dMk_e, dNt_e, dPr_e, Nat.zero_add, Int.zero_sub, Nat.le_eq, Nat.succ_eq_add_one, Nat.add_one_le_iff, Bool.not_eq_true', Bool.not_eq_false', rng_length, dSpan_mk, rng_getD, Nat.sub_zero, Int.toNat_zero]
 refine ⟨λ h1 => ?_, λ h1 => ⟨λ h2 => ?_, λ h2 => ?_⟩⟩
 ·have e : headC c = 3 := by unfold headC; rw [h1]; rfl
  unfold checkC; rw [e]; rfl
 ·have e : headC c = 30 := by unfold headC; rw [h1, h2]; rfl
  unfold checkC; rw [e]; rfl
 have e : headC c = 0 := by unfold headC; rw [h1, h2]; rfl
 have k0 : ∀ v : Int, v ≠ 0 -> mkC (-1) c.ms = v -> checkC c = v := λ v hv hm => by 
  have hv0 := hv
  have hv' : (v != 0) = true := by simpa using hv
  unfold checkC; rw [e, hm, hv']; rfl
 refine ⟨⟨⟨0, -1⟩, ⟨rfl, rfl⟩, Nat.zero_le _, e, rfl⟩, λ s ⟨s1, _, s3⟩ => ⟨λ hlt => ?_, λ hge => ?_⟩⟩
 ·have hlt : s.k < c.ms.length := by omega
  have hd := drop_gD hlt
  rw [hd] at s3
  refine ⟨by omega, λ h3 => ?_, λ h3 => ⟨λ h4 => ?_, λ h4 => ⟨⟨s.k + 1, (gD c.ms s.k).pl⟩, ⟨rfl, (wsucc (by omega)).symm⟩, ⟨by show s.k + 1 <= _; omega, e, ?_⟩, by show c.ms.length - (s.k + 1) < _; omega⟩⟩⟩
  ·exact k0 30 (by decide) (by rw [<- s3]; unfold mkC; rw [h3]; rfl)
  ·exact k0 9 (by decide) (by rw [<- s3]; unfold mkC; rw [h3, decide_eq_true h4]; rfl)
  ·rw [<- s3]; conv => rhs; unfold mkC
   rw [h3, decide_eq_false h4]; rfl
 ·have hmk : mkC (-1) c.ms = 0 := by rw [<- s3, List.drop_of_length_le (by omega)]; rfl
  refine ⟨by omega, λ h3 => ?_, λ h3 => ⟨⟨0, rfl, Nat.zero_le _, e, hmk, h3, rfl⟩, λ k ⟨k1, _, _, _, k5⟩ => ⟨λ hlt => ?_, λ hge => ?_⟩⟩⟩
  ·unfold checkC; rw [e, hmk, h3]; rfl
  ·have hlt : k < c.ns.length := by omega
   have et : (rng k λ i => gD c.ns i) = c.ns.take k := rng_take (by omega)
   rw [et]
   refine ⟨by omega, ⟨⟨by omega, by omega, by omega⟩, λ i hi => ?_, by omega⟩, λ h4 => ?_, λ h4 => ⟨k + 1, (wsucc (by omega)).symm, ⟨by omega, e, hmk, h3, ?_⟩, by omega⟩⟩
   ·rw [<- et, rng_get _ _ _ hi]; exact ⟨rfl, rfl, rfl, rfl, rfl⟩
   ·have hp : allB (dupP c.ns) c.ns.length = false := allB_stop hlt (by unfold dupP; rw [h4]; rfl)
    unfold checkC; rw [e, hmk, h3, hp]; rfl
   ·show (allB (dupP c.ns) k && dupP c.ns k) = true
    unfold dupP at k5 ⊢; rw [k5, h4]; rfl
  ·obtain rfl : k = c.ns.length := by omega
   unfold checkC; rw [e, hmk, h3, k5]; rfl
theorem ok_Check : SpecOk Try.prog n_Check (C_Check.spec dC1) := okC C_Check A_Check [] [] fn_Check (λ _ => by kernel_rfl) (λ _ => gok_cons ok_in (gok_cons ok_wi0 (gok_cons ok4Nr (gok_cons ok3Nc gok_nil)))) p_Check (λ _ => noI rfl rfl) _
def hasN (l : List Nt) (j : Int) : Bool := l.any λ x => x.mi == j
def ntOf : List Nt -> Int -> Nt
 | [], _ => default
 | n :: r, j => bif hasN r j then ntOf r j else bif n.mi == j then n else default
structure Dk where
 c : Cht
 st : Int -> Int
 sp : Nat -> Bool
def zNt : Value := .agg #[.int .i64 0, .int .i64 0, .int .i64 0, .int .i64 0, .int .i64 0]
def dkB (w : Dk) (m : Nat) : AObj := .abox [.int w.c.p.lo, .int w.c.p.hi, .int w.c.base, .int w.c.scale, .int w.c.off, .d (eMks w.c.ms), .d (eNts w.c.ns), .mref m] 40 w.sp
def dkM (w : Dk) : AObj := .imap .i64 zNt (hasN w.c.ns) (λ j => eNt (ntOf w.c.ns j)) w.st none
def dkL (w : Dk) : List (Nat × AObj) := [(100, dkB w 101), (101, dkM w)]
def dkK (w : Dk) : List (Nat × HCell) := [(100, .live (dkB w 101)), (101, .live (dkM w))]
def dkN (w : Dk) : List (Nat × HCell) := [(0, .live (dkB w 1)), (1, .live (dkM w))]
def decDk (H : Heap) (id : Nat) : Option (Dk × Nat) := match H id with
 | .live (.abox [.d a, .d b, .d c, .d d, .d e, .d (.list _ n f _), .d (.list _ m g _), .mref q] _ sp) => match H q with
  | .live (.imap _ _ _ _ st _) => some (⟨⟨⟨dInt a, dInt b⟩, dInt c, dInt d, dInt e, rng n λ i => dMk (f i), rng m λ i => dNt (g i)⟩, st, sp⟩, q)
  | _ => none
 | _ => none
def stK (l : List Nt) : Nat -> Int -> Int
 | 0 => λ _ => 0
 | k + 1 => stUp (hasN (l.take k)) (stK l k) (gD l k).mi
def newD (c : Cht) : Dk := ⟨c, stK c.ns c.ns.length, λ _ => false⟩
def C_open : Ctr := { α := Cht, xs := λ c => [.d (eCht c)], val := λ _ => .tup [.bptr 0 0, .int 0], keep := λ c => dkN (newD c), pre := λ c => [(c.ms.length < 4611686018427387904 /\ c.ns.length < 4611686018427387904) /\ checkC c = 0] }
def C_openX : Ctr := { α := Cht, xs := λ c => [.d (eCht c)], val := λ c => .tup [.d (.v (.pointer none)), .int (checkC c)], keep := λ _ => [], pre := λ c => [(c.ms.length < 4611686018427387904 /\ c.ns.length < 4611686018427387904) /\ checkC c ≠ 0] }
def op6 (c : Cht) : Shape := { α := Nat, dflt := 0, T := λ k => ⟨[(5, .bptr 201 0), (18, .d (eNts c.ns)), (19, .int c.ns.length), (20, .int k)], [(201, .live (.abox [.int c.p.lo, .int c.p.hi, .int c.base, .int c.scale, .int c.off, .d (eMks c.ms), .d (eNts c.ns), .mref 202] 40 λ _ => false)), (202, .live (.imap .i64 zNt (hasN (c.ns.take k)) (λ j => eNt (ntOf (c.ns.take k) j)) (stK c.ns k) none))]⟩, inv := λ k => k <= c.ns.length, meas := λ k => c.ns.length - k, first := [(201, 5048), (202, 5016)] }
def A_open (c : Cht) : Ann := { ann 33 [(n_Check, C_Check.spec dC1)] with loops := λ id => if id = 6 then some [op6 c] else none }
def V_open (c : Cht) : Prop := fnVC Try.prog (A_open c) F_opened (bodyOf F_opened) (C_open.xs c) (heapOf []) (C_open.val c) (C_open.keep c) [(0, 201), (1, 202)] []
abbrev z_open_0 (c : Cht) : List Mk := rng c.ms.length λ (i : Nat) => gD c.ms i
abbrev z_open_1 (c : Cht) : Nat := (z_open_0 c).length
abbrev z_open_2 (c : Cht) (i : Nat) : Mk := gD (z_open_0 c) i
abbrev z_open_3 (c : Cht) : List Nt := rng c.ns.length λ (i : Nat) => gD c.ns i
abbrev z_open_4 (c : Cht) : Nat := (z_open_3 c).length
abbrev z_open_5 (c : Cht) (i : Nat) : Nt := gD (z_open_3 c) i
abbrev z_open_6 (c : Cht) (i : Nat) : Span := (z_open_5 c i).t
abbrev z_open_7 (c : Cht) (i : Nat) : Span := (z_open_5 c i).s
abbrev z_open_8 (c : Cht) : Prop := c.ns.length = c.ns.length
abbrev z_open_9 (c : Cht) : Prop := ∀ (i : Nat), i < c.ns.length -> (gD c.ns i).mi = (gD c.ns i).mi /\ (gD c.ns i).t.lo = (gD c.ns i).t.lo /\ (gD c.ns i).t.hi = (gD c.ns i).t.hi /\ (gD c.ns i).s.lo = (gD c.ns i).s.lo /\ (gD
 c.ns i).s.hi = (gD c.ns i).s.hi
abbrev z_open_10 (c : Cht) : Prop := (↑c.ns.length : Int) = (↑c.ns.length : Int)
abbrev z_open_11 (c : Cht) : Prop := c.ms.length = c.ms.length
abbrev z_open_12 (c : Cht) : Prop := ∀ (i : Nat), i < c.ms.length -> (gD c.ms i).pl = (gD c.ms i).pl /\ (gD c.ms i).ht = (gD c.ms i).ht
abbrev z_open_13 : Prop := ∀ (i : Nat), i < (40 : Nat) -> false = false
abbrev z_open_14 (a : Nat) (c : Cht) : Prop := (↑a : Int) < (↑c.ns.length : Int)
abbrev z_open_15 (n : Int) (c : Cht) (a : Nat) : Bool := decide (n = (gD c.ns a).mi)
abbrev z_open_16 (c : Cht) (a : Nat) : Nat := c.ns.length - a
theorem vc_open (c : Cht) : (V_open c) = ((c.p.lo = c.p.lo /\ c.p.hi = c.p.hi /\ c.base = c.base /\ c.scale = c.scale /\ c.off = c.off /\ z_open_1 c = c.ms.length /\ (∀ (i : Nat), i < z_open_1 c -> (z_open_2 c i).pl = (gD c.ms
 i).pl /\ (z_open_2 c i).ht = (gD c.ms i).ht) /\ z_open_4 c = c.ns.length /\ (∀ (i : Nat), i < z_open_4 c -> (z_open_5 c i).mi = (gD c.ns i).mi /\ (z_open_6 c i).lo = (gD c.ns i).t.lo /\ (z_open_6 c i).hi = (gD c.ns i).t.hi /\
 (z_open_7 c i).lo = (gD c.ns i).s.lo /\ (z_open_7 c i).hi = (gD c.ns i).s.hi) /\ z_open_1 c < (4611686018427387904 : Nat) /\ z_open_4 c < (4611686018427387904 : Nat)) /\ bif checkC (Cht.mk c.p c.base c.scale c.off (z_open_0
 c) (z_open_3 c)) != (0 : Int) then False else (∃ (a : Nat), (z_open_8 c /\ z_open_9 c /\ z_open_10 c /\ (↑a : Int) = (0 : Int) /\ c.p.lo = c.p.lo /\ c.p.hi = c.p.hi /\ c.base = c.base /\ c.scale = c.scale /\ c.off = c.off /\
 z_open_11 c /\ z_open_12 c /\ z_open_8 c /\ z_open_9 c /\ z_open_13 /\ zNt = Value.agg #[Value.int IntKind.i64 (0 : Int), Value.int IntKind.i64 (0 : Int), Value.int IntKind.i64 (0 : Int), Value.int IntKind.i64 (0 : Int),
 Value.int IntKind.i64 (0 : Int)] /\ (∀ (n : Int), hasN (List.take a c.ns) n = false) /\ (∀ (n : Int), stK c.ns a n = (0 : Int)) /\ ∀ (n : Int), (ntOf (List.take a c.ns) n).mi = (0 : Int) /\ (ntOf (List.take a c.ns) n).t.lo =
 (0 : Int) /\ (ntOf (List.take a c.ns) n).t.hi = (0 : Int) /\ (ntOf (List.take a c.ns) n).s.lo = (0 : Int) /\ (ntOf (List.take a c.ns) n).s.hi = (0 : Int)) /\ a.le c.ns.length) /\ ∀ (a : Nat), a.le c.ns.length -> bif decide
 (z_open_14 a c) then ((0 : Int) <= (↑a : Int) /\ z_open_14 a c) /\ ∃ (a_2 : Nat), (z_open_8 c /\ z_open_9 c /\ z_open_10 c /\ (↑a_2 : Int) = IntKind.i64.wrap ((↑a : Int) + (1 : Int)) /\ c.p.lo = c.p.lo /\ c.p.hi = c.p.hi /\
 c.base = c.base /\ c.scale = c.scale /\ c.off = c.off /\ z_open_11 c /\ z_open_12 c /\ z_open_8 c /\ z_open_9 c /\ z_open_13 /\ zNt = zNt /\ (∀ (n : Int), hasN (List.take a_2 c.ns) n = hasUp (hasN (List.take a c.ns)) (gD c.ns
 a).mi n) /\ (∀ (n : Int), stK c.ns a_2 n = stUp (hasN (List.take a c.ns)) (stK c.ns a) (gD c.ns a).mi n) /\ ∀ (n : Int), ((ntOf (List.take a_2 c.ns) n).mi = bif z_open_15 n c a then (gD c.ns a).mi else (ntOf (List.take a
 c.ns) n).mi) /\ ((ntOf (List.take a_2 c.ns) n).t.lo = bif z_open_15 n c a then (gD c.ns a).t.lo else (ntOf (List.take a c.ns) n).t.lo) /\ ((ntOf (List.take a_2 c.ns) n).t.hi = bif z_open_15 n c a then (gD c.ns a).t.hi else
 (ntOf (List.take a c.ns) n).t.hi) /\ ((ntOf (List.take a_2 c.ns) n).s.lo = bif z_open_15 n c a then (gD c.ns a).s.lo else (ntOf (List.take a c.ns) n).s.lo) /\ (ntOf (List.take a_2 c.ns) n).s.hi = bif z_open_15 n c a then
 (gD c.ns a).s.hi else (ntOf (List.take a c.ns) n).s.hi) /\ a_2.le c.ns.length /\ z_open_16 c a_2 < z_open_16 c a else Int.ofNat (0 : Nat) = Int.ofNat (0 : Nat) /\ (newD c).c.p.lo = c.p.lo /\ (newD c).c.p.hi = c.p.hi /\ (newD
 c).c.base = c.base /\ (newD c).c.scale = c.scale /\ (newD c).c.off = c.off /\ (newD c).c.ms.length = c.ms.length /\ (∀ (i : Nat), i < (newD c).c.ms.length -> (gD (newD c).c.ms i).pl = (gD c.ms i).pl /\ (gD (newD c).c.ms i).ht
 = (gD c.ms i).ht) /\ (newD c).c.ns.length = c.ns.length /\ (∀ (i : Nat), i < (newD c).c.ns.length -> (gD (newD c).c.ns i).mi = (gD c.ns i).mi /\ (gD (newD c).c.ns i).t.lo = (gD c.ns i).t.lo /\ (gD (newD c).c.ns i).t.hi = (gD
 c.ns i).t.hi /\ (gD (newD c).c.ns i).s.lo = (gD c.ns i).s.lo /\ (gD (newD c).c.ns i).s.hi = (gD c.ns i).s.hi) /\ z_open_13 /\ zNt = zNt /\ (∀ (n : Int), hasN (newD c).c.ns n = hasN (List.take a c.ns) n) /\ (∀ (n : Int), (newD
 c).st n = stK c.ns a n) /\ ∀ (n : Int), (ntOf (newD c).c.ns n).mi = (ntOf (List.take a c.ns) n).mi /\ (ntOf (newD c).c.ns n).t.lo = (ntOf (List.take a c.ns) n).t.lo /\ (ntOf (newD c).c.ns n).t.hi = (ntOf (List.take a c.ns)
 n).t.hi /\ (ntOf (newD c).c.ns n).s.lo = (ntOf (List.take a c.ns) n).s.lo /\ (ntOf (newD c).c.ns n).s.hi = (ntOf (List.take a c.ns) n).s.hi) := by kernel_rfl
def V_openX (c : Cht) : Prop := fnVC Try.prog (A_open c) F_opened (bodyOf F_opened) (C_open.xs c) (heapOf []) (C_openX.val c) [] [] []
abbrev z_openX_0 (c : Cht) : List Mk := rng c.ms.length λ (i : Nat) => gD c.ms i
abbrev z_openX_1 (c : Cht) : Nat := (z_openX_0 c).length
abbrev z_openX_2 (c : Cht) (i : Nat) : Mk := gD (z_openX_0 c) i
abbrev z_openX_3 (c : Cht) : List Nt := rng c.ns.length λ (i : Nat) => gD c.ns i
abbrev z_openX_4 (c : Cht) : Nat := (z_openX_3 c).length
abbrev z_openX_5 (c : Cht) (i : Nat) : Nt := gD (z_openX_3 c) i
abbrev z_openX_6 (c : Cht) (i : Nat) : Span := (z_openX_5 c i).t
abbrev z_openX_7 (c : Cht) (i : Nat) : Span := (z_openX_5 c i).s
abbrev z_openX_8 (c : Cht) : Int := checkC (Cht.mk c.p c.base c.scale c.off (z_openX_0 c) (z_openX_3 c))
abbrev z_openX_9 (c : Cht) : Prop := c.ns.length = c.ns.length
abbrev z_openX_10 (c : Cht) : Prop := ∀ (i : Nat), i < c.ns.length -> (gD c.ns i).mi = (gD c.ns i).mi /\ (gD c.ns i).t.lo = (gD c.ns i).t.lo /\ (gD c.ns i).t.hi = (gD c.ns i).t.hi /\ (gD c.ns i).s.lo = (gD c.ns i).s.lo /\ (gD
 c.ns i).s.hi = (gD c.ns i).s.hi
abbrev z_openX_11 (c : Cht) : Prop := (↑c.ns.length : Int) = (↑c.ns.length : Int)
abbrev z_openX_12 (c : Cht) : Prop := c.ms.length = c.ms.length
abbrev z_openX_13 (c : Cht) : Prop := ∀ (i : Nat), i < c.ms.length -> (gD c.ms i).pl = (gD c.ms i).pl /\ (gD c.ms i).ht = (gD c.ms i).ht
abbrev z_openX_14 : Prop := ∀ (i : Nat), i < 40 -> false = false
abbrev z_openX_15 (a : Nat) (c : Cht) : Prop := (↑a : Int) < (↑c.ns.length : Int)
abbrev z_openX_16 (n : Int) (c : Cht) (a : Nat) : Bool := decide (n = (gD c.ns a).mi)
abbrev z_openX_17 (c : Cht) (a : Nat) : Nat := c.ns.length - a
theorem vc_openX (c : Cht) : (V_openX c) = ((c.p.lo = c.p.lo /\ c.p.hi = c.p.hi /\ c.base = c.base /\ c.scale = c.scale /\ c.off = c.off /\ z_openX_1 c = c.ms.length /\ (∀ (i : Nat), i < z_openX_1 c -> (z_openX_2 c i).pl = (gD
 c.ms i).pl /\ (z_openX_2 c i).ht = (gD c.ms i).ht) /\ z_openX_4 c = c.ns.length /\ (∀ (i : Nat), i < z_openX_4 c -> (z_openX_5 c i).mi = (gD c.ns i).mi /\ (z_openX_6 c i).lo = (gD c.ns i).t.lo /\ (z_openX_6 c i).hi = (gD c.ns
 i).t.hi /\ (z_openX_7 c i).lo = (gD c.ns i).s.lo /\ (z_openX_7 c i).hi = (gD c.ns i).s.hi) /\ z_openX_1 c < 4611686018427387904 /\ z_openX_4 c < 4611686018427387904) /\ bif z_openX_8 c != 0 then Value.pointer none =
 Value.pointer none /\ checkC c = z_openX_8 c else (∃ (a : Nat), (z_openX_9 c /\ z_openX_10 c /\ z_openX_11 c /\ (↑a : Int) = 0 /\ c.p.lo = c.p.lo /\ c.p.hi = c.p.hi /\ c.base = c.base /\ c.scale = c.scale /\ c.off = c.off /\
 z_openX_12 c /\ z_openX_13 c /\ z_openX_9 c /\ z_openX_10 c /\ z_openX_14 /\ zNt = Value.agg #[Value.int IntKind.i64 0, Value.int IntKind.i64 0, Value.int IntKind.i64 0, Value.int IntKind.i64 0, Value.int IntKind.i64 0] /\ (∀
 (n : Int), hasN (List.take a c.ns) n = false) /\ (∀ (n : Int), stK c.ns a n = 0) /\ ∀ (n : Int), (ntOf (List.take a c.ns) n).mi = 0 /\ (ntOf (List.take a c.ns) n).t.lo = 0 /\ (ntOf (List.take a c.ns) n).t.hi = 0 /\ (ntOf
 (List.take a c.ns) n).s.lo = 0 /\ (ntOf (List.take a c.ns) n).s.hi = 0) /\ a.le c.ns.length) /\ ∀ (a : Nat), a.le c.ns.length -> bif decide (z_openX_15 a c) then (0 <= (↑a : Int) /\ z_openX_15 a c) /\ ∃ (a_2 : Nat), (z_openX_9
 c /\ z_openX_10 c /\ z_openX_11 c /\ (↑a_2 : Int) = IntKind.i64.wrap ((↑a : Int) + 1) /\ c.p.lo = c.p.lo /\ c.p.hi = c.p.hi /\ c.base = c.base /\ c.scale = c.scale /\ c.off = c.off /\ z_openX_12 c /\ z_openX_13 c /\ z_openX_9 c /\
 z_openX_10 c /\ z_openX_14 /\ zNt = zNt /\ (∀ (n : Int), hasN (List.take a_2 c.ns) n = hasUp (hasN (List.take a c.ns)) (gD c.ns a).mi n) /\ (∀ (n : Int), stK c.ns a_2 n = stUp (hasN (List.take a c.ns)) (stK c.ns a) (gD c.ns
 a).mi n) /\ ∀ (n : Int), ((ntOf (List.take a_2 c.ns) n).mi = bif z_openX_16 n c a then (gD c.ns a).mi else (ntOf (List.take a c.ns) n).mi) /\ ((ntOf (List.take a_2 c.ns) n).t.lo = bif z_openX_16 n c a then (gD c.ns a).t.lo
 else (ntOf (List.take a c.ns) n).t.lo) /\ ((ntOf (List.take a_2 c.ns) n).t.hi = bif z_openX_16 n c a then (gD c.ns a).t.hi else (ntOf (List.take a c.ns) n).t.hi) /\ ((ntOf (List.take a_2 c.ns) n).s.lo = bif z_openX_16 n c
 a then (gD c.ns a).s.lo else (ntOf (List.take a c.ns) n).s.lo) /\ (ntOf (List.take a_2 c.ns) n).s.hi = bif z_openX_16 n c a then (gD c.ns a).s.hi else (ntOf (List.take a c.ns) n).s.hi) /\ a_2.le c.ns.length /\ z_openX_17 c
 a_2 < z_openX_17 c a else False) := by kernel_rfl
theorem cht_eta (c : Cht) : Cht.mk c.p c.base c.scale c.off c.ms c.ns = c := rfl
theorem newD_c (c : Cht) : (newD c).c = c := rfl
theorem hasN_snoc (l : List Nt) (x : Nt) (j : Int) : hasN (l ++ [x]) j = hasUp (hasN l) x.mi j := by
 unfold hasN hasUp; rw [List.any_append, Bool.or_comm]
 simp only [List.any_cons, List.any_nil, Bool.or_false]
 congr 1
 rw [Bool.eq_iff_iff, beq_iff_eq, decide_eq_true_eq]; exact eq_comm
theorem ntOf_snoc (l : List Nt) (x : Nt) (j : Int) : ntOf (l ++ [x]) j = bif decide (j = x.mi) then x else ntOf l j := by
 induction l with
 | nil =>
  simp only [List.nil_append, ntOf, hasN, List.any_nil, cond_false]
  have : (x.mi == j) = decide (j = x.mi) := by rw [Bool.eq_iff_iff, beq_iff_eq, decide_eq_true_eq]; exact eq_comm
  rw [this]
 | cons y l ih =>
  simp only [List.cons_append, ntOf, ih, hasN_snoc, hasUp]
  cases decide (j = x.mi) <;> rfl
theorem p_open (c : Cht) (h : (c.ms.length < 4611686018427387904 /\ c.ns.length < 4611686018427387904) /\ checkC c = 0) : V_open c := by
 obtain ⟨⟨hm, hn⟩, h0⟩ := h
 rw [vc_open]; delta z_open_0 z_open_1 z_open_2 z_open_3 z_open_4 z_open_5 z_open_6 z_open_7 z_open_8 z_open_9 z_open_10 z_open_11 z_open_12 z_open_13 z_open_14 z_open_15 z_open_16; simp only [condP, eq_self, implies_true, and_self, true_and, and_true, true_implies, forall_const, decide_eq_true_eq, decide_eq_false_iff_not, Int.toNat_natCast, dSpan_eSpan, dInt_eInt, dMk_e, dNt_e, dPr_e, Nat.zero_add, Int.zero_sub, Nat.le_eq, Nat.succ_eq_add_one, Nat.add_one_le_iff, Bool.not_eq_true', Bool.not_eq_false', rng_length, dSpan_mk, rng_getD, cht_eta, newD_c, h0]
 refine ⟨⟨hm, hn⟩, (λ h => by simp at h), λ _ => ⟨⟨0, ⟨rfl, rfl, λ _ => rfl, λ _ => rfl, λ _ => ⟨rfl, rfl, rfl, rfl, rfl⟩⟩, Nat.zero_le _⟩, λ k hk => ⟨λ hlt => ?_, λ hge => ?_⟩⟩⟩
 ·have hlt : k < c.ns.length := by omega
  refine ⟨by omega, k + 1, ⟨(wsucc (by omega)).symm, λ n => ?_, λ n => rfl, λ n => ?_⟩, by omega, by omega⟩
  ·rw [take_snoc hlt, hasN_snoc]
  ·rw [take_snoc hlt, ntOf_snoc]
   cases decide (n = (gD c.ns k).mi) <;> exact ⟨rfl, rfl, rfl, rfl, rfl⟩
 ·obtain rfl : k = c.ns.length := by omega
  simp [newD]
theorem ok_open : SpecOk Try.prog n_opened (C_open.spec dC1) := okC C_open A_open [(0, 201), (1, 202)] [] fn_opened (λ _ => by kernel_rfl) (λ _ => gok_cons ok_Check gok_nil) (λ c h => p_open c h) (λ _ => noI rfl rfl) _
theorem ok_openX : SpecOk Try.prog n_opened (C_openX.spec dC1) := okC C_openX A_open [] [] fn_opened (λ _ => by kernel_rfl) (λ _ => gok_cons ok_Check gok_nil) (λ (c : Cht) h => by
 obtain ⟨⟨hm, hn⟩, h0⟩ : (c.ms.length < 4611686018427387904 /\ c.ns.length < 4611686018427387904) /\ checkC c ≠ 0 := h
 have h0' : (checkC c != 0) = true := by simpa using h0
 show V_openX c; rw [vc_openX]; delta z_openX_0 z_openX_1 z_openX_2 z_openX_3 z_openX_4 z_openX_5 z_openX_6 z_openX_7 z_openX_8 z_openX_9 z_openX_10 z_openX_11 z_openX_12 z_openX_13 z_openX_14 z_openX_15 z_openX_16 z_openX_17; simp only [condP, eq_self, implies_true, and_self, true_and, and_true, true_implies, forall_const, decide_eq_true_eq, decide_eq_false_iff_not, Int.toNat_natCast, dSpan_eSpan, dInt_eInt, dMk_e, dNt_e, dPr_e, Nat.zero_add, Int.zero_sub, Nat.le_eq, Nat.succ_eq_add_one, Nat.add_one_le_iff, Bool.not_eq_true', Bool.not_eq_false', rng_length, dSpan_mk, rng_getD, cht_eta, h0']
 simp [hm, hn]) (λ _ => noI rfl rfl) _
def stopM (m : Int) : Int -> List Int -> Bool
 | _, [] => true
 | a, g :: r => bif inM g (wr (a + 1)) (wr (m - 2)) then stopM m g r else false
def stpF (m : Int) : Int -> List Int -> (Nat -> Bool) -> Nat -> Bool
 | _, [], f, j => f j
 | a, g :: r, f, j => bif inM g (wr (a + 1)) (wr (m - 2)) then stpF m g r (λ i => bif decide (i = g.toNat) then true else f i) j else f j
structure DkZ where
 w : Dk
 z : List Int
def stD (a : DkZ) : Dk := ⟨a.w.c, a.w.st, stpF a.w.c.ms.length (-1) a.z a.w.sp⟩
def dDkZ : List AVal -> Heap -> Option (DkZ × List (Nat × Nat) × List Nat)
 | [.bptr id _, y], H => match decDk H id, dInts y H with
  | some (w, q), some (l, f) => some (⟨w, l⟩, [(100, id), (101, q)], f)
  | _, _ => none
 | _, _ => none
structure StK where
 k : Nat
 m : Int
 f : Nat -> Bool
 deriving Inhabited
def stp3 (a : DkZ) : Shape := { α := StK, dflt := default, T := λ s => ⟨[(0, .bptr 100 0), (5, .int s.m), (8, .d (eIntsL a.z)), (9, .int a.z.length), (10, .int s.k)], dkK ⟨a.w.c, a.w.st, s.f⟩⟩, inv := λ s => (s.k <= a.z.length /\ -1 <= s.m /\ s.m <= 40) /\ stopM a.w.c.ms.length s.m (a.z.drop s.k) = stopM a.w.c.ms.length (-1) a.z /\ ∀ j, stpF a.w.c.ms.length s.m (a.z.drop s.k) s.f j = stpF a.w.c.ms.length (-1) a.z a.w.sp j, meas := λ s => a.z.length - s.k }
def C_stop : Ctr := { ro := [101], α := DkZ, xs := λ a => [.bptr 100 0, .d (eIntsL a.z)], L := λ a => dkL a.w, val := λ a => .bool (stopM a.w.c.ms.length (-1) a.z), keep := λ a => dkK (stD a), pre := λ a => [a.z.length < 4611686018427387904 /\ a.w.c.ms.length <= 40] }
def A_stop (a : DkZ) : Ann := { ann 33 [(n_in, s_in)] with E := [100, 101], loops := λ id => if id = 3 then some [stp3 a] else none }
def V_stop (a : DkZ) : Prop := fnVC Try.prog (A_stop a) F_stop (bodyOf F_stop) (C_stop.xs a) (heapOf (C_stop.L a)) (C_stop.val a) (C_stop.keep a) [] []
abbrev z_stop_0 (a : DkZ) : Prop := a.z.length = a.z.length
abbrev z_stop_1 (a : DkZ) : Prop := ∀ (i : Nat), i < a.z.length -> gD a.z i = gD a.z i
abbrev z_stop_2 (a : DkZ) : Prop := (↑a.z.length : Int) = (↑a.z.length : Int)
abbrev z_stop_3 (a : DkZ) : Prop := a.w.c.p.lo = a.w.c.p.lo
abbrev z_stop_4 (a : DkZ) : Prop := a.w.c.p.hi = a.w.c.p.hi
abbrev z_stop_5 (a : DkZ) : Prop := a.w.c.base = a.w.c.base
abbrev z_stop_6 (a : DkZ) : Prop := a.w.c.scale = a.w.c.scale
abbrev z_stop_7 (a : DkZ) : Prop := a.w.c.off = a.w.c.off
abbrev z_stop_8 (a : DkZ) : Prop := a.w.c.ms.length = a.w.c.ms.length
abbrev z_stop_9 (a : DkZ) : Prop := ∀ (i : Nat), i < a.w.c.ms.length -> (gD a.w.c.ms i).pl = (gD a.w.c.ms i).pl /\ (gD a.w.c.ms i).ht = (gD a.w.c.ms i).ht
abbrev z_stop_10 (a : DkZ) : Prop := a.w.c.ns.length = a.w.c.ns.length
abbrev z_stop_11 (a : DkZ) (i : Nat) : Int := (gD a.w.c.ns i).t.lo
abbrev z_stop_12 (a : DkZ) (i : Nat) : Int := (gD a.w.c.ns i).t.hi
abbrev z_stop_13 (a : DkZ) (i : Nat) : Int := (gD a.w.c.ns i).s.lo
abbrev z_stop_14 (a : DkZ) (i : Nat) : Int := (gD a.w.c.ns i).s.hi
abbrev z_stop_15 (a : DkZ) : Prop := ∀ (i : Nat), i < a.w.c.ns.length -> (gD a.w.c.ns i).mi = (gD a.w.c.ns i).mi /\ z_stop_11 a i = z_stop_11 a i /\ z_stop_12 a i = z_stop_12 a i /\ z_stop_13 a i = z_stop_13 a i /\ z_stop_14
 a i = z_stop_14 a i
abbrev z_stop_16 (a : DkZ) : Prop := zNt = zNt /\ (∀ (n : Int), hasN a.w.c.ns n = hasN a.w.c.ns n) /\ (∀ (n : Int), a.w.st n = a.w.st n) /\ ∀ (n : Int), (ntOf a.w.c.ns n).mi = (ntOf a.w.c.ns n).mi /\ (ntOf a.w.c.ns n).t.lo =
 (ntOf a.w.c.ns n).t.lo /\ (ntOf a.w.c.ns n).t.hi = (ntOf a.w.c.ns n).t.hi /\ (ntOf a.w.c.ns n).s.lo = (ntOf a.w.c.ns n).s.lo /\ (ntOf a.w.c.ns n).s.hi = (ntOf a.w.c.ns n).s.hi
abbrev z_stop_17 (a : DkZ) : Bool := stopM (↑a.w.c.ms.length : Int) (-1) a.z
abbrev z_stop_18 (a : StK) (a1 : DkZ) : Prop := (a.k <= a1.z.length /\ -1 <= a.m /\ a.m <= 40) /\ stopM (↑a1.w.c.ms.length : Int) a.m (List.drop a.k a1.z) = z_stop_17 a1 /\ ∀ (j : Nat), stpF (↑a1.w.c.ms.length : Int) a.m
 (List.drop a.k a1.z) a.f j = stpF (↑a1.w.c.ms.length : Int) (-1) a1.z a1.w.sp j
abbrev z_stop_19 (a : StK) (a1 : DkZ) : Prop := (↑a.k : Int) < (↑a1.z.length : Int)
abbrev z_stop_20 (a : DkZ) (a1 : StK) : Prop := (stD a).c.p.lo = a.w.c.p.lo /\ (stD a).c.p.hi = a.w.c.p.hi /\ (stD a).c.base = a.w.c.base /\ (stD a).c.scale = a.w.c.scale /\ (stD a).c.off = a.w.c.off /\ (stD a).c.ms.length =
 a.w.c.ms.length /\ (∀ (i : Nat), i < (stD a).c.ms.length -> (gD (stD a).c.ms i).pl = (gD a.w.c.ms i).pl /\ (gD (stD a).c.ms i).ht = (gD a.w.c.ms i).ht) /\ (stD a).c.ns.length = a.w.c.ns.length /\ (∀ (i : Nat), i < (stD
 a).c.ns.length -> (gD (stD a).c.ns i).mi = (gD a.w.c.ns i).mi /\ (gD (stD a).c.ns i).t.lo = z_stop_11 a i /\ (gD (stD a).c.ns i).t.hi = z_stop_12 a i /\ (gD (stD a).c.ns i).s.lo = z_stop_13 a i /\ (gD (stD a).c.ns i).s.hi =
 z_stop_14 a i) /\ (∀ (i : Nat), i < 40 -> (stD a).sp i = a1.f i) /\ zNt = zNt /\ (∀ (n : Int), hasN (stD a).c.ns n = hasN a.w.c.ns n) /\ (∀ (n : Int), (stD a).st n = a.w.st n) /\ ∀ (n : Int), (ntOf (stD a).c.ns n).mi = (ntOf
 a.w.c.ns n).mi /\ (ntOf (stD a).c.ns n).t.lo = (ntOf a.w.c.ns n).t.lo /\ (ntOf (stD a).c.ns n).t.hi = (ntOf a.w.c.ns n).t.hi /\ (ntOf (stD a).c.ns n).s.lo = (ntOf a.w.c.ns n).s.lo /\ (ntOf (stD a).c.ns n).s.hi = (ntOf
 a.w.c.ns n).s.hi
abbrev z_stop_21 (a : DkZ) (a1 : StK) : Nat := a.z.length - a1.k
theorem vc_stop (a : DkZ) : (V_stop a) = ((∃ (a_1 : StK), (a_1.m = -1 /\ z_stop_0 a /\ z_stop_1 a /\ z_stop_2 a /\ (↑a_1.k : Int) = 0 /\ z_stop_3 a /\ z_stop_4 a /\ z_stop_5 a /\ z_stop_6 a /\ z_stop_7 a /\ z_stop_8 a /\ z_stop_9 a
 /\ z_stop_10 a /\ z_stop_15 a /\ (∀ (i : Nat), i < 40 -> a_1.f i = a.w.sp i) /\ z_stop_16 a) /\ z_stop_18 a_1 a) /\ ∀ (a_1 : StK), z_stop_18 a_1 a -> bif decide (z_stop_19 a_1 a) then (0 <= (↑a_1.k : Int) /\ z_stop_19 a_1 a) /\ bif
 !inM (gD a.z a_1.k) (IntKind.i64.wrap (a_1.m + 1)) (IntKind.i64.wrap ((↑a.w.c.ms.length : Int) - 2)) then z_stop_17 a = false /\ z_stop_20 a a_1 else ((0 <= gD a.z a_1.k /\ gD a.z a_1.k < (↑40 : Int)) /\ (gD a.z
 a_1.k).toNat.succ.le 40) /\ ∃ (a_3 : StK), (a_3.m = gD a.z a_1.k /\ z_stop_0 a /\ z_stop_1 a /\ z_stop_2 a /\ (↑a_3.k : Int) = IntKind.i64.wrap ((↑a_1.k : Int) + 1) /\ z_stop_3 a /\ z_stop_4 a /\ z_stop_5 a /\ z_stop_6 a /\
 z_stop_7 a /\ z_stop_8 a /\ z_stop_9 a /\ z_stop_10 a /\ z_stop_15 a /\ (∀ (i : Nat), i < 40 -> a_3.f i = bif decide (i = (gD a.z a_1.k).toNat) then true else a_1.f i) /\ z_stop_16 a) /\ z_stop_18 a_3 a /\ z_stop_21 a a_3 <
 z_stop_21 a a_1 else z_stop_17 a = true /\ z_stop_20 a a_1) := by kernel_rfl
theorem stD_c (a : DkZ) : (stD a).c = a.w.c := rfl
theorem p_stop (a : DkZ) (h : a.z.length < 4611686018427387904 /\ a.w.c.ms.length <= 40) : V_stop a := by
 obtain ⟨hz, hm⟩ := h
 rw [vc_stop]; delta z_stop_0 z_stop_1 z_stop_2 z_stop_3 z_stop_4 z_stop_5 z_stop_6 z_stop_7 z_stop_8 z_stop_9 z_stop_10 z_stop_11 z_stop_12 z_stop_13 z_stop_14 z_stop_15 z_stop_16 z_stop_17 z_stop_18 z_stop_19 z_stop_20 z_stop_21; simp only [condP, eq_self, implies_true, and_self, true_and, and_true, true_implies, forall_const, decide_eq_true_eq, decide_eq_false_iff_not, Int.toNat_natCast, dSpan_eSpan, dInt_eInt, dMk_e, dNt_e, dPr_e, Nat.zero_add, Int.zero_sub, Nat.le_eq, Nat.succ_eq_add_one, Nat.add_one_le_iff, Bool.not_eq_true', Bool.not_eq_false', rng_length, dSpan_mk, rng_getD, stD_c]
 have e2 : IntKind.i64.wrap ((a.w.c.ms.length : Int) - 2) = (a.w.c.ms.length : Int) - 2 := w64 (by omega) (by omega)
 refine ⟨⟨⟨0, -1, a.w.sp⟩, ⟨rfl, rfl, λ _ _ => rfl⟩, ⟨Nat.zero_le _, by show (-1 : Int) <= -1; omega, by show (-1 : Int) <= 40; omega⟩, rfl, λ _ => rfl⟩, λ s ⟨⟨s1, s2, s3⟩, s4, s5⟩ => ⟨λ hlt => ?_, λ hge => ?_⟩⟩
 ·have hlt : s.k < a.z.length := by omega
  have hd := drop_gD hlt
  rw [hd] at s4 s5
  have e1 : IntKind.i64.wrap (s.m + 1) = s.m + 1 := w64 (by omega) (by omega)
  refine ⟨by omega, λ h1 => ⟨?_, λ j _ => ?_, λ _ => rfl⟩, λ h1 => ?_⟩
  ·rw [<- s4]; unfold stopM wr; rw [h1]; rfl
  ·show stpF _ _ _ _ j = _
   rw [<- s5 j]; unfold stpF wr; rw [h1]; rfl
  ·have h2 := h1
   rw [e1, e2] at h2
   simp only [inM, Bool.and_eq_true, decide_eq_true_eq] at h2
   refine ⟨by omega, ⟨s.k + 1, gD a.z s.k, λ i => bif decide (i = (gD a.z s.k).toNat) then true else s.f i⟩, ⟨rfl, (wsucc (by omega)).symm, λ _ _ => rfl⟩, ⟨⟨by show s.k + 1 <= _; omega, by show -1 <= gD a.z s.k; omega, by show gD a.z s.k <= 40; omega⟩, ?_, λ j => ?_⟩, by show a.z.length - (s.k + 1) < _; omega⟩
   ·rw [<- s4]; conv => rhs; unfold stopM wr
    rw [h1]; rfl
   ·rw [<- s5 j]; conv => rhs; unfold stpF wr
    rw [h1]; rfl
 ·rw [List.drop_of_length_le (by omega)] at s4 s5
  exact ⟨s4.symm, λ j _ => (s5 j).symm, λ _ => rfl⟩
theorem ok_stop : SpecOk Try.prog n_stop (C_stop.spec dDkZ) := okC C_stop A_stop [] [] fn_stop (λ _ => by kernel_rfl) (λ _ => gok_cons ok_in gok_nil) (λ a h => p_stop a h) (λ _ => noI rfl rfl) _
structure CZ where
 c : Cht
 z : List Int
def dCZ : List AVal -> Heap -> Option (CZ × List (Nat × Nat) × List Nat)
 | [x, y], H => match dChtA x H, dInts y H with
  | some (c, f), some (l, e) => some (⟨c, l⟩, [], f ++ e)
  | _, _ => none
 | _, _ => none
def xCZ (a : CZ) : List AVal := [.d (eCht a.c), .d (eIntsL a.z)]
def begD (a : CZ) : Dk := stD ⟨newD a.c, a.z⟩
def okZ (a : CZ) : Bool := stopM a.c.ms.length (-1) a.z
def begE (a : CZ) : Int := bif checkC a.c == 0 then bif okZ a then 0 else 2 else checkC a.c
def C_beg : Ctr := { α := CZ, xs := xCZ, val := λ a => .tup [.bptr 0 0, .int (begE a)], keep := λ a => dkN (begD a), pre := λ a => [(a.c.ms.length < 4611686018427387904 /\ a.c.ns.length < 4611686018427387904 /\ a.z.length < 4611686018427387904) /\ checkC a.c = 0] }
def C_begX : Ctr := { α := CZ, xs := xCZ, val := λ a => .tup [.d (.v (.pointer none)), .int (begE a)], keep := λ _ => [], pre := λ a => [(a.c.ms.length < 4611686018427387904 /\ a.c.ns.length < 4611686018427387904 /\ a.z.length < 4611686018427387904) /\ checkC a.c ≠ 0] }
def A_beg : Ann := { ann 23 [(n_opened, C_open.spec dC1), (n_stop, C_stop.spec dDkZ)] with md := λ id => if id = 2 then some λ k => if k = 3 ∨ k = 4 ∨ k = 5 ∨ k = 6 then 8 else 0 else none }
def A_begX : Ann := { ann 23 [(n_opened, C_openX.spec dC1)] with md := λ id => if id = 2 then some λ k => if k = 3 ∨ k = 4 ∨ k = 5 ∨ k = 6 then 9 else 0 else none }
def V_beg (a : CZ) : Prop := fnVC Try.prog A_beg F_begun (bodyOf F_begun) (xCZ a) (heapOf []) (C_beg.val a) (C_beg.keep a) [(0, 2016), (1, 2017)] []
abbrev z_beg_0 (a : CZ) : List Mk := rng a.c.ms.length λ (i : Nat) => gD a.c.ms i
abbrev z_beg_1 (a : CZ) : Nat := (z_beg_0 a).length
abbrev z_beg_2 (a : CZ) (i : Nat) : Mk := gD (z_beg_0 a) i
abbrev z_beg_3 (a : CZ) : List Nt := rng a.c.ns.length λ (i : Nat) => gD a.c.ns i
abbrev z_beg_4 (a : CZ) : Nat := (z_beg_3 a).length
abbrev z_beg_5 (a : CZ) (i : Nat) : Nt := gD (z_beg_3 a) i
abbrev z_beg_6 (a : CZ) (i : Nat) : Span := (z_beg_5 a i).t
abbrev z_beg_7 (a : CZ) (i : Nat) : Span := (z_beg_5 a i).s
abbrev z_beg_8 (a : CZ) : Cht := Cht.mk a.c.p a.c.base a.c.scale a.c.off (z_beg_0 a) (z_beg_3 a)
abbrev z_beg_9 (a : CZ) : List Int := rng a.z.length λ (i : Nat) => gD a.z i
abbrev z_beg_10 (a : CZ) : Nat := (z_beg_9 a).length
abbrev z_beg_11 (a : CZ) : Dk := newD (z_beg_8 a)
abbrev z_beg_12 (a : CZ) : Cht := (z_beg_11 a).c
abbrev z_beg_13 (a : CZ) : Span := (z_beg_12 a).p
abbrev z_beg_14 (a : CZ) : Int := (z_beg_13 a).lo
abbrev z_beg_15 (a : CZ) : Int := (z_beg_13 a).hi
abbrev z_beg_16 (a : CZ) : Int := (z_beg_12 a).base
abbrev z_beg_17 (a : CZ) : Int := (z_beg_12 a).scale
abbrev z_beg_18 (a : CZ) : Int := (z_beg_12 a).off
abbrev z_beg_19 (a : CZ) : List Mk := (z_beg_12 a).ms
abbrev z_beg_20 (a : CZ) : Nat := (z_beg_19 a).length
abbrev z_beg_21 (a : CZ) (i : Nat) : Mk := gD (z_beg_19 a) i
abbrev z_beg_22 (a : CZ) : List Mk := rng (z_beg_20 a) λ (i : Nat) => z_beg_21 a i
abbrev z_beg_23 (a : CZ) : Nat := (z_beg_22 a).length
abbrev z_beg_24 (a : CZ) (i : Nat) : Mk := gD (z_beg_22 a) i
abbrev z_beg_25 (a : CZ) : List Nt := (z_beg_12 a).ns
abbrev z_beg_26 (a : CZ) : Nat := (z_beg_25 a).length
abbrev z_beg_27 (a : CZ) (i : Nat) : Nt := gD (z_beg_25 a) i
abbrev z_beg_28 (a : CZ) : List Nt := rng (z_beg_26 a) λ (i : Nat) => z_beg_27 a i
abbrev z_beg_29 (a : CZ) : Nat := (z_beg_28 a).length
abbrev z_beg_30 (a : CZ) (i : Nat) : Nt := gD (z_beg_28 a) i
abbrev z_beg_31 (a : CZ) (i : Nat) : Span := (z_beg_30 a i).t
abbrev z_beg_32 (a : CZ) (i : Nat) : Span := (z_beg_27 a i).t
abbrev z_beg_33 (a : CZ) (i : Nat) : Span := (z_beg_30 a i).s
abbrev z_beg_34 (a : CZ) (i : Nat) : Span := (z_beg_27 a i).s
abbrev z_beg_35 (a : CZ) (n : Int) : Bool := hasN (z_beg_25 a) n
abbrev z_beg_36 (a : CZ) (n : Int) : Int := (z_beg_11 a).st n
abbrev z_beg_37 (a : CZ) (n : Int) : Nt := ntOf (z_beg_28 a) n
abbrev z_beg_38 (a : CZ) (n : Int) : Nt := ntOf (z_beg_25 a) n
abbrev z_beg_39 (a : CZ) (n : Int) : Int := (z_beg_38 a n).mi
abbrev z_beg_40 (a : CZ) (n : Int) : Span := (z_beg_37 a n).t
abbrev z_beg_41 (a : CZ) (n : Int) : Span := (z_beg_38 a n).t
abbrev z_beg_42 (a : CZ) (n : Int) : Int := (z_beg_41 a n).lo
abbrev z_beg_43 (a : CZ) (n : Int) : Int := (z_beg_41 a n).hi
abbrev z_beg_44 (a : CZ) (n : Int) : Span := (z_beg_37 a n).s
abbrev z_beg_45 (a : CZ) (n : Int) : Span := (z_beg_38 a n).s
abbrev z_beg_46 (a : CZ) (n : Int) : Int := (z_beg_45 a n).lo
abbrev z_beg_47 (a : CZ) (n : Int) : Int := (z_beg_45 a n).hi
abbrev z_beg_48 (a : CZ) : Dk := stD (DkZ.mk (Dk.mk (Cht.mk (z_beg_13 a) (z_beg_16 a) (z_beg_17 a) (z_beg_18 a) (z_beg_22 a) (z_beg_28 a)) (z_beg_11 a).st (z_beg_11 a).sp) (z_beg_9 a))
abbrev z_beg_49 (a : CZ) : Cht := (z_beg_48 a).c
abbrev z_beg_50 (a : CZ) : List Nt := (z_beg_49 a).ns
abbrev z_beg_51 (a : CZ) (n : Int) : Nt := ntOf (z_beg_50 a) n
abbrev z_beg_52 (a : CZ) (n : Int) : Span := (z_beg_51 a n).t
abbrev z_beg_53 (a : CZ) (n : Int) : Span := (z_beg_51 a n).s
abbrev z_beg_54 (a : CZ) : Span := (z_beg_49 a).p
abbrev z_beg_55 (a : CZ) : List Mk := (z_beg_49 a).ms
abbrev z_beg_56 (a : CZ) (i : Nat) : Mk := gD (z_beg_55 a) i
abbrev z_beg_57 (a : CZ) (i : Nat) : Nt := gD (z_beg_50 a) i
abbrev z_beg_58 (a : CZ) (i : Nat) : Span := (z_beg_57 a i).t
abbrev z_beg_59 (a : CZ) (i : Nat) : Span := (z_beg_57 a i).s
abbrev z_beg_60 (a : CZ) : Prop := (begD a).c.p.lo = (z_beg_54 a).lo /\ (begD a).c.p.hi = (z_beg_54 a).hi /\ (begD a).c.base = (z_beg_49 a).base /\ (begD a).c.scale = (z_beg_49 a).scale /\ (begD a).c.off = (z_beg_49 a).off /\
 (begD a).c.ms.length = (z_beg_55 a).length /\ (∀ (i : Nat), i < (begD a).c.ms.length -> (gD (begD a).c.ms i).pl = (z_beg_56 a i).pl /\ (gD (begD a).c.ms i).ht = (z_beg_56 a i).ht) /\ (begD a).c.ns.length = (z_beg_50
 a).length /\ (∀ (i : Nat), i < (begD a).c.ns.length -> (gD (begD a).c.ns i).mi = (z_beg_57 a i).mi /\ (gD (begD a).c.ns i).t.lo = (z_beg_58 a i).lo /\ (gD (begD a).c.ns i).t.hi = (z_beg_58 a i).hi /\ (gD (begD a).c.ns i).s.lo
 = (z_beg_59 a i).lo /\ (gD (begD a).c.ns i).s.hi = (z_beg_59 a i).hi) /\ (∀ (i : Nat), i < 40 -> (begD a).sp i = (z_beg_48 a).sp i) /\ zNt = zNt /\ (∀ (n : Int), hasN (begD a).c.ns n = z_beg_35 a n) /\ (∀ (n : Int), (begD
 a).st n = z_beg_36 a n) /\ ∀ (n : Int), (ntOf (begD a).c.ns n).mi = z_beg_39 a n /\ (ntOf (begD a).c.ns n).t.lo = z_beg_42 a n /\ (ntOf (begD a).c.ns n).t.hi = z_beg_43 a n /\ (ntOf (begD a).c.ns n).s.lo = z_beg_46 a n /\
 (ntOf (begD a).c.ns n).s.hi = z_beg_47 a n
theorem vc_beg (a : CZ) : (V_beg a) = ((a.c.p.lo = a.c.p.lo /\ a.c.p.hi = a.c.p.hi /\ a.c.base = a.c.base /\ a.c.scale = a.c.scale /\ a.c.off = a.c.off /\ z_beg_1 a = a.c.ms.length /\ (∀ (i : Nat), i < z_beg_1 a -> (z_beg_2 a
 i).pl = (gD a.c.ms i).pl /\ (z_beg_2 a i).ht = (gD a.c.ms i).ht) /\ z_beg_4 a = a.c.ns.length /\ (∀ (i : Nat), i < z_beg_4 a -> (z_beg_5 a i).mi = (gD a.c.ns i).mi /\ (z_beg_6 a i).lo = (gD a.c.ns i).t.lo /\ (z_beg_6 a i).hi =
 (gD a.c.ns i).t.hi /\ (z_beg_7 a i).lo = (gD a.c.ns i).s.lo /\ (z_beg_7 a i).hi = (gD a.c.ns i).s.hi) /\ (z_beg_1 a < 4611686018427387904 /\ z_beg_4 a < 4611686018427387904) /\ checkC (z_beg_8 a) = 0) /\ true = true /\ true =
 true /\ true = true /\ (z_beg_10 a = a.z.length /\ (∀ (i : Nat), i < z_beg_10 a -> gD (z_beg_9 a) i = gD a.z i) /\ z_beg_14 a = z_beg_14 a /\ z_beg_15 a = z_beg_15 a /\ z_beg_16 a = z_beg_16 a /\ z_beg_17 a = z_beg_17 a /\
 z_beg_18 a = z_beg_18 a /\ z_beg_23 a = z_beg_20 a /\ (∀ (i : Nat), i < z_beg_23 a -> (z_beg_24 a i).pl = (z_beg_21 a i).pl /\ (z_beg_24 a i).ht = (z_beg_21 a i).ht) /\ z_beg_29 a = z_beg_26 a /\ (∀ (i : Nat), i < z_beg_29 a ->
 (z_beg_30 a i).mi = (z_beg_27 a i).mi /\ (z_beg_31 a i).lo = (z_beg_32 a i).lo /\ (z_beg_31 a i).hi = (z_beg_32 a i).hi /\ (z_beg_33 a i).lo = (z_beg_34 a i).lo /\ (z_beg_33 a i).hi = (z_beg_34 a i).hi) /\ (∀ (i : Nat), i <
 40 -> false = false) /\ zNt = zNt /\ (∀ (n : Int), hasN (z_beg_28 a) n = z_beg_35 a n) /\ (∀ (n : Int), z_beg_36 a n = z_beg_36 a n) /\ (∀ (n : Int), (z_beg_37 a n).mi = z_beg_39 a n /\ (z_beg_40 a n).lo = z_beg_42 a n /\
 (z_beg_40 a n).hi = z_beg_43 a n /\ (z_beg_44 a n).lo = z_beg_46 a n /\ (z_beg_44 a n).hi = z_beg_47 a n) /\ zNt = zNt /\ (∀ (n : Int), z_beg_35 a n = hasN (z_beg_50 a) n) /\ (∀ (n : Int), z_beg_36 a n = (z_beg_48 a).st n) /\
 (∀ (n : Int), z_beg_39 a n = (z_beg_51 a n).mi /\ z_beg_42 a n = (z_beg_52 a n).lo /\ z_beg_43 a n = (z_beg_52 a n).hi /\ z_beg_46 a n = (z_beg_53 a n).lo /\ z_beg_47 a n = (z_beg_53 a n).hi) /\ z_beg_10 a <
 4611686018427387904 /\ z_beg_23 a <= 40) /\ true = true /\ bif bif 0 == 0 then !stopM (↑(z_beg_23 a) : Int) (-1) (z_beg_9 a) else false then begE a = 2 /\ z_beg_60 a else begE a = 0 /\ z_beg_60 a) := by kernel_rfl
def V_begX (a : CZ) : Prop := fnVC Try.prog A_begX F_begun (bodyOf F_begun) (xCZ a) (heapOf []) (C_begX.val a) [] [] []
theorem vc_begX (a : CZ) : (V_begX a) = ((a.c.p.lo = a.c.p.lo /\ a.c.p.hi = a.c.p.hi /\ a.c.base = a.c.base /\ a.c.scale = a.c.scale /\ a.c.off = a.c.off /\ (rng a.c.ms.length λ (i : Nat) => gD a.c.ms i).length =
 a.c.ms.length /\ (∀ (i : Nat), i < (rng a.c.ms.length λ (i : Nat) => gD a.c.ms i).length -> (gD (rng a.c.ms.length λ (i : Nat) => gD a.c.ms i) i).pl = (gD a.c.ms i).pl /\ (gD (rng a.c.ms.length λ (i : Nat) => gD
 a.c.ms i) i).ht = (gD a.c.ms i).ht) /\ (rng a.c.ns.length λ (i : Nat) => gD a.c.ns i).length = a.c.ns.length /\ (∀ (i : Nat), i < (rng a.c.ns.length λ (i : Nat) => gD a.c.ns i).length -> (gD (rng a.c.ns.length λ (i :
 Nat) => gD a.c.ns i) i).mi = (gD a.c.ns i).mi /\ (gD (rng a.c.ns.length λ (i : Nat) => gD a.c.ns i) i).t.lo = (gD a.c.ns i).t.lo /\ (gD (rng a.c.ns.length λ (i : Nat) => gD a.c.ns i) i).t.hi = (gD a.c.ns i).t.hi /\ (gD
 (rng a.c.ns.length λ (i : Nat) => gD a.c.ns i) i).s.lo = (gD a.c.ns i).s.lo /\ (gD (rng a.c.ns.length λ (i : Nat) => gD a.c.ns i) i).s.hi = (gD a.c.ns i).s.hi) /\ ((rng a.c.ms.length λ (i : Nat) => gD a.c.ms
 i).length < 4611686018427387904 /\ (rng a.c.ns.length λ (i : Nat) => gD a.c.ns i).length < 4611686018427387904) /\ checkC (Cht.mk a.c.p a.c.base a.c.scale a.c.off (rng a.c.ms.length λ (i : Nat) => gD a.c.ms i) (rng
 a.c.ns.length λ (i : Nat) => gD a.c.ns i)) ≠ 0) /\ (checkC (Cht.mk a.c.p a.c.base a.c.scale a.c.off (rng a.c.ms.length λ (i : Nat) => gD a.c.ms i) (rng a.c.ns.length λ (i : Nat) => gD a.c.ns i)) == 0) = false /\
 (checkC (Cht.mk a.c.p a.c.base a.c.scale a.c.off (rng a.c.ms.length λ (i : Nat) => gD a.c.ms i) (rng a.c.ns.length λ (i : Nat) => gD a.c.ns i)) == 0) = false /\ (checkC (Cht.mk a.c.p a.c.base a.c.scale a.c.off (rng
 a.c.ms.length λ (i : Nat) => gD a.c.ms i) (rng a.c.ns.length λ (i : Nat) => gD a.c.ns i)) == 0) = false /\ (checkC (Cht.mk a.c.p a.c.base a.c.scale a.c.off (rng a.c.ms.length λ (i : Nat) => gD a.c.ms i) (rng
 a.c.ns.length λ (i : Nat) => gD a.c.ns i)) == 0) = false /\ ((checkC (Cht.mk a.c.p a.c.base a.c.scale a.c.off (rng a.c.ms.length λ (i : Nat) => gD a.c.ms i) (rng a.c.ns.length λ (i : Nat) => gD a.c.ns i)) == 0) =
 true -> false = true) /\ bif bif checkC (Cht.mk a.c.p a.c.base a.c.scale a.c.off (rng a.c.ms.length λ (i : Nat) => gD a.c.ms i) (rng a.c.ns.length λ (i : Nat) => gD a.c.ns i)) == 0 then false else false then
 Value.pointer none = Value.pointer none /\ begE a = 2 else Value.pointer none = Value.pointer none /\ begE a = checkC (Cht.mk a.c.p a.c.base a.c.scale a.c.off (rng a.c.ms.length λ (i : Nat) => gD a.c.ms i) (rng
 a.c.ns.length λ (i : Nat) => gD a.c.ns i))) := by kernel_rfl
theorem begD_c (a : CZ) : (begD a).c = a.c := rfl
theorem dk_eta (w : Dk) : Dk.mk w.c w.st w.sp = w := rfl
theorem headC_len {c : Cht} (h : checkC c = 0) : headC c = 0 /\ (1 <= c.ms.length /\ c.ms.length <= 40) /\ c.ns.length <= 20 := by
 have h1 : headC c = 0 := by
  unfold checkC at h
  cases hc : (headC c != 0) with
  | false => simpa using hc
  | true => rw [hc] at h; simpa using h
 refine ⟨h1, ?_⟩
 unfold headC at h1
 cases hc : (bif !inM c.ms.length 1 40 then true else decide ((c.ns.length : Int) > 20)) with
 | true => rw [hc] at h1; cases h1
 | false =>
  cases hb : inM c.ms.length 1 40 with
  | false => rw [hb] at hc; cases hc
  | true =>
   rw [hb] at hc
   have hc : decide ((c.ns.length : Int) > 20) = false := hc
   simp only [inM, Bool.and_eq_true, decide_eq_true_eq, decide_eq_false_iff_not] at hb hc
   omega
theorem p_beg (a : CZ) (h : (a.c.ms.length < 4611686018427387904 /\ a.c.ns.length < 4611686018427387904 /\ a.z.length < 4611686018427387904) /\ checkC a.c = 0) : V_beg a := by
 obtain ⟨⟨hm, hn, hz⟩, h0⟩ := h
 have hl := headC_len h0
 rw [vc_beg]; delta z_beg_0 z_beg_1 z_beg_2 z_beg_3 z_beg_4 z_beg_5 z_beg_6 z_beg_7 z_beg_8 z_beg_9 z_beg_10 z_beg_11 z_beg_12 z_beg_13 z_beg_14 z_beg_15 z_beg_16 z_beg_17 z_beg_18 z_beg_19 z_beg_20 z_beg_21 z_beg_22 z_beg_23 z_beg_24 z_beg_25 z_beg_26 z_beg_27 z_beg_28 z_beg_29 z_beg_30 z_beg_31 z_beg_32 z_beg_33 z_beg_34 z_beg_35 z_beg_36 z_beg_37 z_beg_38 z_beg_39 z_beg_40 z_beg_41 z_beg_42 z_beg_43 z_beg_44 z_beg_45 z_beg_46 z_beg_47 z_beg_48 z_beg_49 z_beg_50 z_beg_51 z_beg_52 z_beg_53 z_beg_54 z_beg_55 z_beg_56 z_beg_57 z_beg_58 z_beg_59 z_beg_60; simp only [condP, eq_self, implies_true, and_self, true_and, and_true, true_implies, forall_const, decide_eq_true_eq, decide_eq_false_iff_not, Int.toNat_natCast, dSpan_eSpan, dInt_eInt, dMk_e, dNt_e, dPr_e, Nat.zero_add, Int.zero_sub, Nat.le_eq, Nat.succ_eq_add_one, Nat.add_one_le_iff, Bool.not_eq_true', Bool.not_eq_false', rng_length, dSpan_mk, rng_getD, cht_eta, newD_c, dk_eta, stD_c, begD_c]
 have e : begE a = bif okZ a then 0 else 2 := by unfold begE; rw [h0]; rfl
 have e2 : stopM a.c.ms.length (-1) a.z = okZ a := rfl
 have e3 : stD ⟨newD a.c, a.z⟩ = begD a := rfl
 simp only [e, e2, e3, begD_c]
 have e4 : ∀ n, (newD a.c).st n = (begD a).st n := λ _ => rfl
 cases okZ a <;> simp [hm, hn, hz, h0, hl.2.1.2, e4] <;> exact ⟨λ _ => rfl, λ _ _ => rfl⟩
theorem ok_beg : SpecOk Try.prog n_begun (C_beg.spec dCZ) := okC C_beg (λ _ => A_beg) [(0, 2016), (1, 2017)] [] fn_begun (λ _ => by kernel_rfl) (λ _ => gok_cons ok_open (gok_cons ok_stop gok_nil)) (λ a h => p_beg a h) (λ _ => noI rfl rfl) _
theorem ok_begX : SpecOk Try.prog n_begun (C_begX.spec dCZ) := okC C_begX (λ _ => A_begX) [] [] fn_begun (λ _ => by kernel_rfl) (λ _ => gok_cons ok_openX gok_nil) (λ (a : CZ) h => by
 obtain ⟨⟨hm, hn, hz⟩, h0⟩ : (a.c.ms.length < 4611686018427387904 /\ a.c.ns.length < 4611686018427387904 /\ a.z.length < 4611686018427387904) /\ checkC a.c ≠ 0 := h
 have h0' : (checkC a.c == 0) = false := by simpa using h0
 have e : begE a = checkC a.c := by unfold begE; rw [h0']; rfl
 show V_begX a; rw [vc_begX]; simp only [condP, eq_self, implies_true, and_self, true_and, and_true, true_implies, forall_const, decide_eq_true_eq, decide_eq_false_iff_not, Int.toNat_natCast, dSpan_eSpan, dInt_eInt, dMk_e, dNt_e, dPr_e, Nat.zero_add, Int.zero_sub, Nat.le_eq, Nat.succ_eq_add_one, Nat.add_one_le_iff, Bool.not_eq_true', Bool.not_eq_false', rng_length, dSpan_mk, rng_getD, cht_eta, h0', e]
 simp [hm, hn, h0]) (λ _ => noI rfl rfl) _
end Go.Bal
