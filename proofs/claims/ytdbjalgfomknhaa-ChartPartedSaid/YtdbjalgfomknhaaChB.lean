/- Package chart: which charts are right; a chart at work. -/
import Derived.Test.YtdbjalgfomknhaaChE
set_option linter.unusedVariables false
set_option linter.unusedSimpArgs false
namespace Go.Bal
open Go Go.Sym Go.Proofs
def mkC : Int -> List Mk -> Int
 | _, [] => 0
 | a, m :: r => bif (bif !HG m.pl 0 10000 then true else !HG m.ht 0 1000) then 30 else bif decide (m.pl <= a) then 9 else mkC m.pl r
def dupP (l : List Nt) (i : Nat) : Bool := !(l.take i).any λ x => x.mi == (gD l i).mi
def LJ (c : Cht) : Int := bif (bif !HG c.ms.length 1 40 then true else decide ((c.ns.length : Int) > 20)) then 3 else bif (bif (bif (bif !IP c.p 1 600 then true else !HG c.base (-1000000) 1000000) then true else !HG c.scale 0 1000) then true else !HG c.off 0 1000) then 30 else 0
def AK (c : Cht) : Int := bif LJ c != 0 then LJ c else bif mkC (-1) c.ms != 0 then mkC (-1) c.ms else bif !c.ns.all (λ n => CM n c.ms.length) then 30 else bif vB (dupP c.ns) c.ns.length then 0 else 10
def dC1 : List AVal -> Heap -> Option (Cht × List (Nat × Nat) × List Nat)
 | [y], H => match BWE y H with
  | some (l, f) => some (l, [], f)
  | none => none
 | _, _ => none
def C_Check : Ctr := { α := Cht, xs := λ c => [.d (XX c)], L := λ _ => [], val := λ c => .int (AK c), keep := λ _ => [], pre := λ c => [c.ms.length < 4611686018427387904 /\ c.ns.length < 4611686018427387904] }
def ck7 (c : Cht) : Shape := { α := NI, dflt := default, T := λ s => ⟨[(1, .bptr 201 0), (3, .int s.m), (44, .d (eMks c.ms)), (45, .int c.ms.length), (46, .int s.k)], [(201, .live (chB c))]⟩, inv := λ s => s.k <= c.ms.length /\ LJ c = 0 /\ mkC s.m (c.ms.drop s.k) = mkC (-1) c.ms, meas := λ s => c.ms.length - s.k, first := [(201, 1000)] }
def ck18 (c : Cht) : Shape := { α := Nat, dflt := 0, T := λ k => ⟨[(1, .bptr 201 0), (75, .d (W0 c.ns)), (76, .int c.ns.length), (77, .int k)], [(201, .live (chB c))]⟩, inv := λ k => k <= c.ns.length /\ LJ c = 0 /\ mkC (-1) c.ms = 0 /\ c.ns.all (λ n => CM n c.ms.length) = true /\ vB (dupP c.ns) k = true, meas := λ k => c.ns.length - k }
def CEQ (c : Cht) : Ann := { ann 89 [(n_in, s_in), (ZO, CDM), (n_eN, C4Nr.spec d4Nr), (BWU, C3Nc.spec d3Nc)] with loops := λ id => if id = 7 then some [ck7 c] else if id = 18 then some [ck18 c] else none }
def CED (c : Cht) : Prop := AZ Try.prog (CEQ c) BUK (AL BUK) (C_Check.xs c) (AG []) (C_Check.val c) [] [] []
abbrev bZ (c : Cht) : Prop := c.ms.length = c.ms.length
abbrev aH (c : Cht) : Prop := ∀ (i : Nat), i < c.ms.length -> (gD c.ms i).pl = (gD c.ms i).pl /\ (gD c.ms i).ht = (gD c.ms i).ht
abbrev AJC (c : Cht) : Prop := (↑c.ms.length : Int) = (↑c.ms.length : Int)
abbrev aI (c : Cht) : Prop := c.ns.length = c.ns.length
abbrev cV (c : Cht) (i : Nat) : Prop := (gD c.ns i).mi = (gD c.ns i).mi
abbrev bW (c : Cht) (i : Nat) : Prop := (gD c.ns i).t.lo = (gD c.ns i).t.lo
abbrev dP (c : Cht) (i : Nat) : Prop := (gD c.ns i).t.hi = (gD c.ns i).t.hi
abbrev Ww (c : Cht) (i : Nat) : Prop := (gD c.ns i).s.lo = (gD c.ns i).s.lo
abbrev cA (c : Cht) (i : Nat) : Prop := (gD c.ns i).s.hi = (gD c.ns i).s.hi
abbrev aA (c : Cht) : Prop := ∀ (i : Nat), i < c.ns.length -> cV c i /\ bW c i /\ dP c i /\ Ww c i /\ cA c i
abbrev TM (c : Cht) : Prop := c.p.lo = c.p.lo /\ c.p.hi = c.p.hi /\ c.base = c.base /\ c.scale = c.scale /\ c.off = c.off /\ bZ c /\ aH c /\ aI c /\ aA c
abbrev mM (c : Cht) : Int := mkC (-1 : Int) c.ms
abbrev Ft (a : NI) (c : Cht) : Prop := a.k <= c.ms.length /\ LJ c = (0 : Int) /\ mkC a.m (List.drop a.k c.ms) = mM c
abbrev gB (a : NI) (c : Cht) : Prop := (↑a.k : Int) < (↑c.ms.length : Int)
abbrev sF (c : Cht) (a : NI) : Nat := c.ms.length - a.k
abbrev Fw (c : Cht) : List Nt := AE c.ns.length λ (i : Nat) => gD c.ns i
abbrev UK (c : Cht) : Nat := (Fw c).length
abbrev rO (c : Cht) : Prop := UK c = c.ns.length
abbrev Ej (c : Cht) (i : Nat) : Nt := gD (Fw c) i
abbrev fT (c : Cht) (i : Nat) : Int := (Ej c i).mi
abbrev oB (c : Cht) (i : Nat) : Span := (Ej c i).t
abbrev qZ (c : Cht) (i : Nat) : Int := (oB c i).lo
abbrev lJ (c : Cht) (i : Nat) : Int := (oB c i).hi
abbrev fR (c : Cht) (i : Nat) : Span := (Ej c i).s
abbrev iX (c : Cht) (i : Nat) : Int := (fR c i).lo
abbrev jD (c : Cht) (i : Nat) : Int := (fR c i).hi
abbrev pC (c : Cht) : Prop := ∀ (i : Nat), i < UK c -> fT c i = (gD c.ns i).mi /\ qZ c i = (gD c.ns i).t.lo /\ lJ c i = (gD c.ns i).t.hi /\ iX c i = (gD c.ns i).s.lo /\
 jD c i = (gD c.ns i).s.hi
abbrev lQ (c : Cht) : List Mk := AE c.ms.length λ (i : Nat) => gD c.ms i
abbrev TN (c : Cht) : Nat := (lQ c).length
abbrev rK (c : Cht) (i : Nat) : Mk := gD (lQ c) i
abbrev pQ (c : Cht) (i : Nat) : Int := (rK c i).pl
abbrev oQ (c : Cht) (i : Nat) : Int := (rK c i).ht
abbrev iM (c : Cht) : Prop := (↑c.ns.length : Int) = (↑c.ns.length : Int)
abbrev Em (a : Nat) (c : Cht) : Prop := a <= c.ns.length /\ LJ c = (0 : Int) /\ mM c = (0 : Int) /\ (c.ns.all λ (n : Nt) => CM n (↑c.ms.length : Int)) = true /\ vB (dupP c.ns) a = true
abbrev lT (a : Nat) (c : Cht) : Prop := (↑a : Int) < (↑c.ns.length : Int)
abbrev mC (a : Nat) : Prop := (0 : Int) <= (↑a : Int)
abbrev iJ (a : Nat) : Nat := a - Int.toNat (0 : Int)
abbrev TO (c : Cht) (i : Nat) : Nt := gD c.ns (Int.toNat (0 : Int) + i)
abbrev Dm (a : Nat) (c : Cht) : List Nt := AE (iJ a) λ (i : Nat) => TO c i
abbrev jO (a : Nat) (c : Cht) : Nat := (AE (a - (0 : Nat)) λ (i : Nat) => gD c.ns ((0 : Nat) + i)).length
abbrev Hh (a : Nat) (c : Cht) (i : Nat) : Nt := gD (Dm a c) i
abbrev kZ (a : Nat) (c : Cht) (i : Nat) : Span := (Hh a c i).t
abbrev sI (c : Cht) (i : Nat) : Span := (TO c i).t
abbrev qG (a : Nat) (c : Cht) (i : Nat) : Span := (Hh a c i).s
abbrev rJ (c : Cht) (i : Nat) : Span := (TO c i).s
abbrev mY (c : Cht) (a : Nat) : Nat := c.ns.length - a
theorem CMR (c : Cht) : (CED c) = (bif bif !HG (↑c.ms.length : Int) (1 : Int) (40 : Int) then true else decide ((↑c.ns.length : Int) > (20 : Int)) then AK c = (3 : Int) else bif bif bif bif !IP c.p (1
 : Int) (600 : Int) then true else !HG c.base (-1000000 : Int) (1000000 : Int) then true else !HG c.scale (0 : Int) (1000 : Int) then true else !HG c.off (0 : Int) (1000 : Int) then AK c = (30 : Int) else (∃ (a :
 NI), (a.m = (-1 : Int) /\ bZ c /\ aH c /\ AJC c /\ (↑a.k : Int) = (0 : Int) /\ TM c) /\ Ft a c) /\ ∀ (a : NI), Ft a c -> bif decide (gB a c) then ((0 : Int) <= (↑a.k : Int) /\
 gB a c) /\ bif bif !HG (gD c.ms a.k).pl (0 : Int) (10000 : Int) then true else !HG (gD c.ms a.k).ht (0 : Int) (1000 : Int) then AK c = (30 : Int) else bif decide ((gD c.ms a.k).pl <= a.m) then AK c = (9 :
 Int) else ∃ (a_2 : NI), (a_2.m = (gD c.ms a.k).pl /\ bZ c /\ aH c /\ AJC c /\ (↑a_2.k : Int) = IntKind.i64.wrap ((↑a.k : Int) + (1 : Int)) /\ TM c) /\ Ft a_2 c /\ sF c a_2 <
 sF c a else (rO c /\ pC c /\ c.p.lo = c.p.lo /\ c.p.hi = c.p.hi /\ c.base = c.base /\ c.scale = c.scale /\ c.off = c.off /\ TN c = c.ms.length /\ (∀ (i : Nat), i < TN c -> pQ c i =
 (gD c.ms i).pl /\ oQ c i = (gD c.ms i).ht) /\ rO c /\ pC c /\ c.p.lo = c.p.lo /\ c.p.hi = c.p.hi /\ c.base = c.base /\ c.scale = c.scale /\ c.off = c.off /\ c.ms.length = TN c /\ (∀ (i : Nat), i <
 c.ms.length -> (gD c.ms i).pl = pQ c i /\ (gD c.ms i).ht = oQ c i) /\ c.ns.length = UK c /\ (∀ (i : Nat), i < c.ns.length -> (gD c.ns i).mi = fT c i /\ (gD c.ns i).t.lo = qZ c i /\ (gD
 c.ns i).t.hi = lJ c i /\ (gD c.ns i).s.lo = iX c i /\ (gD c.ns i).s.hi = jD c i) /\ UK c < (4611686018427387904 : Nat) /\ True) /\ bif !(Fw c).all λ (x : Nt) => CM x (↑(TN
 c) : Int) then AK c = (30 : Int) else (∃ (a : Nat), (aI c /\ aA c /\ iM c /\ (↑a : Int) = (0 : Int) /\ TM c) /\ Em a c) /\ ∀ (a : Nat), Em a c -> bif decide (lT a c)
 then (mC a /\ lT a c) /\ (((0 : Int) <= (0 : Int) /\ mC a /\ (↑a : Int) <= (↑c.ns.length : Int)) /\ (Dm a c).length = iJ a /\ (∀ (i : Nat), i < jO a c -> (Hh a c i).mi =
 (TO c i).mi /\ (kZ a c i).lo = (sI c i).lo /\ (kZ a c i).hi = (sI c i).hi /\ (qG a c i).lo = (rJ c i).lo /\ (qG a c i).hi = (rJ c i).hi) /\ cV c a
 /\ bW c a /\ dP c a /\ Ww c a /\ cA c a /\ cV c a /\ bW c a /\ dP c a /\ Ww c a /\ cA c a /\ jO a c < (4611686018427387904 : Nat) /\ True) /\ bif (Dm a
 c).any λ (x : Nt) => x.mi == (gD c.ns a).mi then AK c = (10 : Int) else ∃ (a_3 : Nat), (aI c /\ aA c /\ iM c /\ (↑a_3 : Int) = IntKind.i64.wrap ((↑a : Int) + (1 : Int)) /\ TM c) /\
 Em a_3 c /\ mY c a_3 < mY c a else AK c = (0 : Int)) := by kernel_rfl
theorem CKS {α : Type} [Inhabited α] {l : List α} {k : Nat} (h : k <= l.length) : (AE k λ i => gD l i) = l.take k := by
 refine BLV (by simp [h]) λ i hi => ?_
 have hi : i < k := by simpa using hi
 rw [BN _ _ _ hi]
 simp [gD, List.getD_eq_getElem?_getD, List.getElem?_take, hi]
theorem CGK {p : Nat -> Bool} {n k : Nat} (hk : k < n) (h : p k = false) : vB p n = false := by
 cases hc : vB p n with
 | false => rfl
 | true => rw [Cq.1 hc k hk] at h; cases h
theorem CQI (c : Cht) (h : c.ms.length < 4611686018427387904 /\ c.ns.length < 4611686018427387904) : CED c := by
 obtain ⟨hm, hn⟩ := h
 rw [CMR]; delta bZ aH AJC aI cV bW dP Ww cA aA TM mM Ft gB sF Fw UK rO Ej fT oB qZ lJ fR iX jD pC lQ TN rK pQ oQ iM Em lT mC iJ TO Dm jO Hh kZ sI qG rJ mY; simp only [CC, eq_self, implies_true, forall_const, Nat.sub_zero, Int.toNat_zero]
 refine ⟨λ h1 => ?_, λ h1 => ⟨λ h2 => ?_, λ h2 => ?_⟩⟩
 ·have e : LJ c = 3 := by unfold LJ; rw [h1]; rfl
  unfold AK; rw [e]; rfl
 ·have e : LJ c = 30 := by unfold LJ; rw [h1, h2]; rfl
  unfold AK; rw [e]; rfl
 have e : LJ c = 0 := by unfold LJ; rw [h1, h2]; rfl
 have k0 : ∀ v : Int, v ≠ 0 -> mkC (-1) c.ms = v -> AK c = v := λ v hv hm => by 
  have hv0 := hv
  have hv' : (v != 0) = true := by simpa using hv
  unfold AK; rw [e, hm, hv']; rfl
 refine ⟨⟨⟨0, -1⟩, ⟨rfl, rfl⟩, Nat.zero_le _, e, rfl⟩, λ s ⟨s1, _, s3⟩ => ⟨λ hlt => ?_, λ hge => ?_⟩⟩
 ·have hlt : s.k < c.ms.length := by omega
  have hd := CDU hlt
  rw [hd] at s3
  refine ⟨by omega, λ h3 => ?_, λ h3 => ⟨λ h4 => ?_, λ h4 => ⟨⟨s.k + 1, (gD c.ms s.k).pl⟩, ⟨rfl, (GE (by omega)).symm⟩, ⟨by show s.k + 1 <= _; omega, e, ?_⟩, by show c.ms.length - (s.k + 1) < _; omega⟩⟩⟩
  ·exact k0 30 (by decide) (by rw [<- s3]; unfold mkC; rw [h3]; rfl)
  ·exact k0 9 (by decide) (by rw [<- s3]; unfold mkC; rw [h3, decide_eq_true h4]; rfl)
  ·rw [<- s3]; conv => rhs; unfold mkC
   rw [h3, decide_eq_false h4]; rfl
 ·have hmk : mkC (-1) c.ms = 0 := by rw [<- s3, List.drop_of_length_le (by omega)]; rfl
  refine ⟨by omega, λ h3 => ?_, λ h3 => ⟨⟨0, rfl, Nat.zero_le _, e, hmk, h3, rfl⟩, λ k ⟨k1, _, _, _, k5⟩ => ⟨λ hlt => ?_, λ hge => ?_⟩⟩⟩
  ·unfold AK; rw [e, hmk, h3]; rfl
  ·have hlt : k < c.ns.length := by omega
   have et : (AE k λ i => gD c.ns i) = c.ns.take k := CKS (by omega)
   rw [et]
   refine ⟨by omega, ⟨⟨by omega, by omega, by omega⟩, λ i hi => ?_, by omega⟩, λ h4 => ?_, λ h4 => ⟨k + 1, (GE (by omega)).symm, ⟨by omega, e, hmk, h3, ?_⟩, by omega⟩⟩
   ·rw [<- et, BN _ _ _ hi]; exact ⟨rfl, rfl, rfl, rfl, rfl⟩
   ·have hp : vB (dupP c.ns) c.ns.length = false := CGK hlt (by unfold dupP; rw [h4]; rfl)
    unfold AK; rw [e, hmk, h3, hp]; rfl
   ·show (vB (dupP c.ns) k && dupP c.ns k) = true
    unfold dupP at k5 ⊢; rw [k5, h4]; rfl
  ·obtain rfl : k = c.ns.length := by omega
   unfold AK; rw [e, hmk, h3, k5]; rfl
theorem BYL : AM Try.prog BTV (C_Check.spec dC1) := LF C_Check CEQ [] [] CIC (λ _ => by kernel_rfl) (λ _ => AC BKK (AC CHL (AC CZQ (AC CZE AJ)))) CQI (λ _ => NP rfl rfl) _
def hasN (l : List Nt) (j : Int) : Bool := l.any λ x => x.mi == j
def ntOf : List Nt -> Int -> Nt
 | [], _ => default
 | n :: r, j => bif hasN r j then ntOf r j else bif n.mi == j then n else default
structure Dk where
 c : Cht
 st : Int -> Int
 sp : Nat -> Bool
def AT : Value := .agg #[.int .i64 0, .int .i64 0, .int .i64 0, .int .i64 0, .int .i64 0]
def dkB (w : Dk) (m : Nat) : AObj := .abox [.int w.c.p.lo, .int w.c.p.hi, .int w.c.base, .int w.c.scale, .int w.c.off, .d (eMks w.c.ms), .d (W0 w.c.ns), .mref m] 40 w.sp
def dkM (w : Dk) : AObj := .imap .i64 AT (hasN w.c.ns) (λ j => eNt (ntOf w.c.ns j)) w.st none
def dkL (w : Dk) : List (Nat × AObj) := [(100, dkB w 101), (101, dkM w)]
def dkK (w : Dk) : List (Nat × HCell) := [(100, .live (dkB w 101)), (101, .live (dkM w))]
def dkN (w : Dk) : List (Nat × HCell) := [(0, .live (dkB w 1)), (1, .live (dkM w))]
def eY (H : Heap) (id : Nat) : Option (Dk × Nat) := match H id with
 | .live (.abox [.d a, .d b, .d c, .d d, .d e, .d (.list _ n f _), .d (.list _ m g _), .mref q] _ sp) => match H q with
  | .live (.imap _ _ _ _ st _) => some (⟨⟨⟨CK a, CK b⟩, CK c, CK d, CK e, AE n λ i => dMk (f i), AE m λ i => dNt (g i)⟩, st, sp⟩, q)
  | _ => none
 | _ => none
def stK (l : List Nt) : Nat -> Int -> Int
 | 0 => λ _ => 0
 | k + 1 => uN (hasN (l.take k)) (stK l k) (gD l k).mi
def AH (c : Cht) : Dk := ⟨c, stK c.ns c.ns.length, λ _ => false⟩
def C_open : Ctr := { α := Cht, xs := λ c => [.d (XX c)], val := λ _ => .tup [.bptr 0 0, .int 0], keep := λ c => dkN (AH c), pre := λ c => [(c.ms.length < 4611686018427387904 /\ c.ns.length < 4611686018427387904) /\ AK c = 0] }
def C_openX : Ctr := { α := Cht, xs := λ c => [.d (XX c)], val := λ c => .tup [.d (.v (.pointer none)), .int (AK c)], keep := λ _ => [], pre := λ c => [(c.ms.length < 4611686018427387904 /\ c.ns.length < 4611686018427387904) /\ AK c ≠ 0] }
def op6 (c : Cht) : Shape := { α := Nat, dflt := 0, T := λ k => ⟨[(5, .bptr 201 0), (18, .d (W0 c.ns)), (19, .int c.ns.length), (20, .int k)], [(201, .live (.abox [.int c.p.lo, .int c.p.hi, .int c.base, .int c.scale, .int c.off, .d (eMks c.ms), .d (W0 c.ns), .mref 202] 40 λ _ => false)), (202, .live (.imap .i64 AT (hasN (c.ns.take k)) (λ j => eNt (ntOf (c.ns.take k) j)) (stK c.ns k) none))]⟩, inv := λ k => k <= c.ns.length, meas := λ k => c.ns.length - k, first := [(201, 5048), (202, 5016)] }
def BNG (c : Cht) : Ann := { ann 33 [(BTV, C_Check.spec dC1)] with loops := λ id => if id = 6 then some [op6 c] else none }
def CIF (c : Cht) : Prop := AZ Try.prog (BNG c) Qe (AL Qe) (C_open.xs c) (AG []) (C_open.val c) (C_open.keep c) [(0, 201), (1, 202)] []
abbrev A2 (c : Cht) : List Mk := AE c.ms.length λ (i : Nat) => gD c.ms i
abbrev wT (c : Cht) : Nat := (A2 c).length
abbrev BGB (c : Cht) (i : Nat) : Mk := gD (A2 c) i
abbrev J0 (c : Cht) : List Nt := AE c.ns.length λ (i : Nat) => gD c.ns i
abbrev H8 (c : Cht) : Nat := (J0 c).length
abbrev zF (c : Cht) (i : Nat) : Nt := gD (J0 c) i
abbrev ASD (c : Cht) (i : Nat) : Span := (zF c i).t
abbrev ASG (c : Cht) (i : Nat) : Span := (zF c i).s
abbrev Jb (c : Cht) : Prop := c.ns.length = c.ns.length
abbrev Mx (c : Cht) : Prop := ∀ (i : Nat), i < c.ns.length -> (gD c.ns i).mi = (gD c.ns i).mi /\ (gD c.ns i).t.lo = (gD c.ns i).t.lo /\ (gD c.ns i).t.hi = (gD c.ns i).t.hi /\ (gD c.ns i).s.lo = (gD c.ns i).s.lo /\ (gD
 c.ns i).s.hi = (gD c.ns i).s.hi
abbrev AIC (c : Cht) : Prop := (↑c.ns.length : Int) = (↑c.ns.length : Int)
abbrev AFM (c : Cht) : Prop := c.ms.length = c.ms.length
abbrev AED (c : Cht) : Prop := ∀ (i : Nat), i < c.ms.length -> (gD c.ms i).pl = (gD c.ms i).pl /\ (gD c.ms i).ht = (gD c.ms i).ht
abbrev Wt : Prop := ∀ (i : Nat), i < (40 : Nat) -> false = false
abbrev U9 (a : Nat) (c : Cht) : Prop := (↑a : Int) < (↑c.ns.length : Int)
abbrev RC (n : Int) (c : Cht) (a : Nat) : Bool := decide (n = (gD c.ns a).mi)
abbrev AJV (c : Cht) (a : Nat) : Nat := c.ns.length - a
theorem COY (c : Cht) : (CIF c) = ((c.p.lo = c.p.lo /\ c.p.hi = c.p.hi /\ c.base = c.base /\ c.scale = c.scale /\ c.off = c.off /\ wT c = c.ms.length /\ (∀ (i : Nat), i < wT c -> (BGB c i).pl = (gD c.ms
 i).pl /\ (BGB c i).ht = (gD c.ms i).ht) /\ H8 c = c.ns.length /\ (∀ (i : Nat), i < H8 c -> (zF c i).mi = (gD c.ns i).mi /\ (ASD c i).lo = (gD c.ns i).t.lo /\ (ASD c i).hi = (gD c.ns i).t.hi /\
 (ASG c i).lo = (gD c.ns i).s.lo /\ (ASG c i).hi = (gD c.ns i).s.hi) /\ wT c < (4611686018427387904 : Nat) /\ H8 c < (4611686018427387904 : Nat)) /\ bif AK (Cht.mk c.p c.base c.scale c.off (A2
 c) (J0 c)) != (0 : Int) then False else (∃ (a : Nat), (Jb c /\ Mx c /\ AIC c /\ (↑a : Int) = (0 : Int) /\ c.p.lo = c.p.lo /\ c.p.hi = c.p.hi /\ c.base = c.base /\ c.scale = c.scale /\ c.off = c.off /\
 AFM c /\ AED c /\ Jb c /\ Mx c /\ Wt /\ AT = Value.agg #[Value.int IntKind.i64 (0 : Int), Value.int IntKind.i64 (0 : Int), Value.int IntKind.i64 (0 : Int), Value.int IntKind.i64 (0 : Int),
 Value.int IntKind.i64 (0 : Int)] /\ (∀ (n : Int), hasN (List.take a c.ns) n = false) /\ (∀ (n : Int), stK c.ns a n = (0 : Int)) /\ ∀ (n : Int), (ntOf (List.take a c.ns) n).mi = (0 : Int) /\ (ntOf (List.take a c.ns) n).t.lo =
 (0 : Int) /\ (ntOf (List.take a c.ns) n).t.hi = (0 : Int) /\ (ntOf (List.take a c.ns) n).s.lo = (0 : Int) /\ (ntOf (List.take a c.ns) n).s.hi = (0 : Int)) /\ a.le c.ns.length) /\ ∀ (a : Nat), a.le c.ns.length -> bif decide
 (U9 a c) then ((0 : Int) <= (↑a : Int) /\ U9 a c) /\ ∃ (a_2 : Nat), (Jb c /\ Mx c /\ AIC c /\ (↑a_2 : Int) = IntKind.i64.wrap ((↑a : Int) + (1 : Int)) /\ c.p.lo = c.p.lo /\ c.p.hi = c.p.hi /\
 c.base = c.base /\ c.scale = c.scale /\ c.off = c.off /\ AFM c /\ AED c /\ Jb c /\ Mx c /\ Wt /\ AT = AT /\ (∀ (n : Int), hasN (List.take a_2 c.ns) n = KX (hasN (List.take a c.ns)) (gD c.ns
 a).mi n) /\ (∀ (n : Int), stK c.ns a_2 n = uN (hasN (List.take a c.ns)) (stK c.ns a) (gD c.ns a).mi n) /\ ∀ (n : Int), ((ntOf (List.take a_2 c.ns) n).mi = bif RC n c a then (gD c.ns a).mi else (ntOf (List.take a
 c.ns) n).mi) /\ ((ntOf (List.take a_2 c.ns) n).t.lo = bif RC n c a then (gD c.ns a).t.lo else (ntOf (List.take a c.ns) n).t.lo) /\ ((ntOf (List.take a_2 c.ns) n).t.hi = bif RC n c a then (gD c.ns a).t.hi else
 (ntOf (List.take a c.ns) n).t.hi) /\ ((ntOf (List.take a_2 c.ns) n).s.lo = bif RC n c a then (gD c.ns a).s.lo else (ntOf (List.take a c.ns) n).s.lo) /\ (ntOf (List.take a_2 c.ns) n).s.hi = bif RC n c a then
 (gD c.ns a).s.hi else (ntOf (List.take a c.ns) n).s.hi) /\ a_2.le c.ns.length /\ AJV c a_2 < AJV c a else Int.ofNat (0 : Nat) = Int.ofNat (0 : Nat) /\ (AH c).c.p.lo = c.p.lo /\ (AH c).c.p.hi = c.p.hi /\ (AH
 c).c.base = c.base /\ (AH c).c.scale = c.scale /\ (AH c).c.off = c.off /\ (AH c).c.ms.length = c.ms.length /\ (∀ (i : Nat), i < (AH c).c.ms.length -> (gD (AH c).c.ms i).pl = (gD c.ms i).pl /\ (gD (AH c).c.ms i).ht
 = (gD c.ms i).ht) /\ (AH c).c.ns.length = c.ns.length /\ (∀ (i : Nat), i < (AH c).c.ns.length -> (gD (AH c).c.ns i).mi = (gD c.ns i).mi /\ (gD (AH c).c.ns i).t.lo = (gD c.ns i).t.lo /\ (gD (AH c).c.ns i).t.hi = (gD
 c.ns i).t.hi /\ (gD (AH c).c.ns i).s.lo = (gD c.ns i).s.lo /\ (gD (AH c).c.ns i).s.hi = (gD c.ns i).s.hi) /\ Wt /\ AT = AT /\ (∀ (n : Int), hasN (AH c).c.ns n = hasN (List.take a c.ns) n) /\ (∀ (n : Int), (AH
 c).st n = stK c.ns a n) /\ ∀ (n : Int), (ntOf (AH c).c.ns n).mi = (ntOf (List.take a c.ns) n).mi /\ (ntOf (AH c).c.ns n).t.lo = (ntOf (List.take a c.ns) n).t.lo /\ (ntOf (AH c).c.ns n).t.hi = (ntOf (List.take a c.ns)
 n).t.hi /\ (ntOf (AH c).c.ns n).s.lo = (ntOf (List.take a c.ns) n).s.lo /\ (ntOf (AH c).c.ns n).s.hi = (ntOf (List.take a c.ns) n).s.hi) := by kernel_rfl
def CCY (c : Cht) : Prop := AZ Try.prog (BNG c) Qe (AL Qe) (C_open.xs c) (AG []) (C_openX.val c) [] [] []
abbrev eL (c : Cht) : List Mk := AE c.ms.length λ (i : Nat) => gD c.ms i
abbrev dI (c : Cht) : Nat := (eL c).length
abbrev AKW (c : Cht) (i : Nat) : Mk := gD (eL c) i
abbrev Yy (c : Cht) : List Nt := AE c.ns.length λ (i : Nat) => gD c.ns i
abbrev Yo (c : Cht) : Nat := (Yy c).length
abbrev Ys (c : Cht) (i : Nat) : Nt := gD (Yy c) i
abbrev Y4 (c : Cht) (i : Nat) : Span := (Ys c i).t
abbrev ADJ (c : Cht) (i : Nat) : Span := (Ys c i).s
abbrev AIG (c : Cht) : Int := AK (Cht.mk c.p c.base c.scale c.off (eL c) (Yy c))
abbrev Cn (c : Cht) : Prop := c.ns.length = c.ns.length
abbrev TE (c : Cht) : Prop := ∀ (i : Nat), i < c.ns.length -> (gD c.ns i).mi = (gD c.ns i).mi /\ (gD c.ns i).t.lo = (gD c.ns i).t.lo /\ (gD c.ns i).t.hi = (gD c.ns i).t.hi /\ (gD c.ns i).s.lo = (gD c.ns i).s.lo /\ (gD
 c.ns i).s.hi = (gD c.ns i).s.hi
abbrev rQ (c : Cht) : Prop := (↑c.ns.length : Int) = (↑c.ns.length : Int)
abbrev sK (c : Cht) : Prop := c.ms.length = c.ms.length
abbrev mR (c : Cht) : Prop := ∀ (i : Nat), i < c.ms.length -> (gD c.ms i).pl = (gD c.ms i).pl /\ (gD c.ms i).ht = (gD c.ms i).ht
abbrev iH : Prop := ∀ (i : Nat), i < 40 -> false = false
abbrev sG (a : Nat) (c : Cht) : Prop := (↑a : Int) < (↑c.ns.length : Int)
abbrev MD (n : Int) (c : Cht) (a : Nat) : Bool := decide (n = (gD c.ns a).mi)
abbrev kQ (c : Cht) (a : Nat) : Nat := c.ns.length - a
theorem CNS (c : Cht) : (CCY c) = ((c.p.lo = c.p.lo /\ c.p.hi = c.p.hi /\ c.base = c.base /\ c.scale = c.scale /\ c.off = c.off /\ dI c = c.ms.length /\ (∀ (i : Nat), i < dI c -> (AKW c i).pl = (gD
 c.ms i).pl /\ (AKW c i).ht = (gD c.ms i).ht) /\ Yo c = c.ns.length /\ (∀ (i : Nat), i < Yo c -> (Ys c i).mi = (gD c.ns i).mi /\ (Y4 c i).lo = (gD c.ns i).t.lo /\ (Y4 c i).hi = (gD c.ns
 i).t.hi /\ (ADJ c i).lo = (gD c.ns i).s.lo /\ (ADJ c i).hi = (gD c.ns i).s.hi) /\ dI c < 4611686018427387904 /\ Yo c < 4611686018427387904) /\ bif AIG c != 0 then Value.pointer none =
 Value.pointer none /\ AK c = AIG c else (∃ (a : Nat), (Cn c /\ TE c /\ rQ c /\ (↑a : Int) = 0 /\ c.p.lo = c.p.lo /\ c.p.hi = c.p.hi /\ c.base = c.base /\ c.scale = c.scale /\ c.off = c.off /\
 sK c /\ mR c /\ Cn c /\ TE c /\ iH /\ AT = Value.agg #[Value.int IntKind.i64 0, Value.int IntKind.i64 0, Value.int IntKind.i64 0, Value.int IntKind.i64 0, Value.int IntKind.i64 0] /\ (∀
 (n : Int), hasN (List.take a c.ns) n = false) /\ (∀ (n : Int), stK c.ns a n = 0) /\ ∀ (n : Int), (ntOf (List.take a c.ns) n).mi = 0 /\ (ntOf (List.take a c.ns) n).t.lo = 0 /\ (ntOf (List.take a c.ns) n).t.hi = 0 /\ (ntOf
 (List.take a c.ns) n).s.lo = 0 /\ (ntOf (List.take a c.ns) n).s.hi = 0) /\ a.le c.ns.length) /\ ∀ (a : Nat), a.le c.ns.length -> bif decide (sG a c) then (0 <= (↑a : Int) /\ sG a c) /\ ∃ (a_2 : Nat), (Cn
 c /\ TE c /\ rQ c /\ (↑a_2 : Int) = IntKind.i64.wrap ((↑a : Int) + 1) /\ c.p.lo = c.p.lo /\ c.p.hi = c.p.hi /\ c.base = c.base /\ c.scale = c.scale /\ c.off = c.off /\ sK c /\ mR c /\ Cn c /\
 TE c /\ iH /\ AT = AT /\ (∀ (n : Int), hasN (List.take a_2 c.ns) n = KX (hasN (List.take a c.ns)) (gD c.ns a).mi n) /\ (∀ (n : Int), stK c.ns a_2 n = uN (hasN (List.take a c.ns)) (stK c.ns a) (gD c.ns
 a).mi n) /\ ∀ (n : Int), ((ntOf (List.take a_2 c.ns) n).mi = bif MD n c a then (gD c.ns a).mi else (ntOf (List.take a c.ns) n).mi) /\ ((ntOf (List.take a_2 c.ns) n).t.lo = bif MD n c a then (gD c.ns a).t.lo
 else (ntOf (List.take a c.ns) n).t.lo) /\ ((ntOf (List.take a_2 c.ns) n).t.hi = bif MD n c a then (gD c.ns a).t.hi else (ntOf (List.take a c.ns) n).t.hi) /\ ((ntOf (List.take a_2 c.ns) n).s.lo = bif MD n c
 a then (gD c.ns a).s.lo else (ntOf (List.take a c.ns) n).s.lo) /\ (ntOf (List.take a_2 c.ns) n).s.hi = bif MD n c a then (gD c.ns a).s.hi else (ntOf (List.take a c.ns) n).s.hi) /\ a_2.le c.ns.length /\ kQ c
 a_2 < kQ c a else False) := by kernel_rfl
theorem BZ (c : Cht) : Cht.mk c.p c.base c.scale c.off c.ms c.ns = c := rfl
theorem AAT (c : Cht) : (AH c).c = c := rfl
theorem BKF (l : List Nt) (x : Nt) (j : Int) : hasN (l ++ [x]) j = KX (hasN l) x.mi j := by
 unfold hasN KX; rw [List.any_append, Bool.or_comm]
 simp only [List.any_cons, List.any_nil, Bool.or_false]
 congr 1
 rw [Bool.eq_iff_iff, beq_iff_eq, decide_eq_true_eq]; exact eq_comm
theorem CGD (l : List Nt) (x : Nt) (j : Int) : ntOf (l ++ [x]) j = bif decide (j = x.mi) then x else ntOf l j := by
 induction l with
 | nil =>
  simp only [List.nil_append, ntOf, hasN, List.any_nil, cond_false]
  have : (x.mi == j) = decide (j = x.mi) := by rw [Bool.eq_iff_iff, beq_iff_eq, decide_eq_true_eq]; exact eq_comm
  rw [this]
 | cons y l ih =>
  simp only [List.cons_append, ntOf, ih, BKF, KX]
  cases decide (j = x.mi) <;> rfl
theorem CXO (c : Cht) (h : (c.ms.length < 4611686018427387904 /\ c.ns.length < 4611686018427387904) /\ AK c = 0) : CIF c := by
 obtain ⟨⟨hm, hn⟩, h0⟩ := h
 rw [COY]; delta A2 wT BGB J0 H8 zF ASD ASG Jb Mx AIC AFM AED Wt U9 RC AJV; simp only [CC, eq_self, implies_true, forall_const, BZ, AAT, h0]
 refine ⟨⟨hm, hn⟩, (λ h => by simp at h), λ _ => ⟨⟨0, ⟨rfl, rfl, λ _ => rfl, λ _ => rfl, λ _ => ⟨rfl, rfl, rfl, rfl, rfl⟩⟩, Nat.zero_le _⟩, λ k hk => ⟨λ hlt => ?_, λ hge => ?_⟩⟩⟩
 ·have hlt : k < c.ns.length := by omega
  refine ⟨by omega, k + 1, ⟨(GE (by omega)).symm, λ n => ?_, λ n => rfl, λ n => ?_⟩, by omega, by omega⟩
  ·rw [Aq hlt, BKF]
  ·rw [Aq hlt, CGD]
   cases decide (n = (gD c.ns k).mi) <;> exact ⟨rfl, rfl, rfl, rfl, rfl⟩
 ·obtain rfl : k = c.ns.length := by omega
  simp [AH]
theorem K8 : AM Try.prog GR (C_open.spec dC1) := LF C_open BNG [(0, 201), (1, 202)] [] BKC (λ _ => by kernel_rfl) (λ _ => AC BYL AJ) (λ c h => CXO c h) (λ _ => NP rfl rfl) _
theorem yX : AM Try.prog GR (C_openX.spec dC1) := LF C_openX BNG [] [] BKC (λ _ => by kernel_rfl) (λ _ => AC BYL AJ) (λ (c : Cht) h => by
 obtain ⟨⟨hm, hn⟩, h0⟩ : (c.ms.length < 4611686018427387904 /\ c.ns.length < 4611686018427387904) /\ AK c ≠ 0 := h
 have h0' : (AK c != 0) = true := by simpa using h0
 show CCY c; rw [CNS]; delta eL dI AKW Yy Yo Ys Y4 ADJ AIG Cn TE rQ sK mR iH sG MD kQ; simp only [CC, eq_self, implies_true, forall_const, BZ, h0']
 simp [hm, hn]) (λ _ => NP rfl rfl) _
def PJ (m : Int) : Int -> List Int -> Bool
 | _, [] => true
 | a, g :: r => bif HG g (wr (a + 1)) (wr (m - 2)) then PJ m g r else false
def stpF (m : Int) : Int -> List Int -> (Nat -> Bool) -> Nat -> Bool
 | _, [], f, j => f j
 | a, g :: r, f, j => bif HG g (wr (a + 1)) (wr (m - 2)) then stpF m g r (λ i => bif decide (i = g.toNat) then true else f i) j else f j
structure DkZ where
 w : Dk
 z : List Int
def Xe (a : DkZ) : Dk := ⟨a.w.c, a.w.st, stpF a.w.c.ms.length (-1) a.z a.w.sp⟩
def dDkZ : List AVal -> Heap -> Option (DkZ × List (Nat × Nat) × List Nat)
 | [.bptr id _, y], H => match eY H id, CDC y H with
  | some (w, q), some (l, f) => some (⟨w, l⟩, [(100, id), (101, q)], f)
  | _, _ => none
 | _, _ => none
structure StK where
 k : Nat
 m : Int
 f : Nat -> Bool
 deriving Inhabited
def stp3 (a : DkZ) : Shape := { α := StK, dflt := default, T := λ s => ⟨[(0, .bptr 100 0), (5, .int s.m), (8, .d (DI a.z)), (9, .int a.z.length), (10, .int s.k)], dkK ⟨a.w.c, a.w.st, s.f⟩⟩, inv := λ s => (s.k <= a.z.length /\ -1 <= s.m /\ s.m <= 40) /\ PJ a.w.c.ms.length s.m (a.z.drop s.k) = PJ a.w.c.ms.length (-1) a.z /\ ∀ j, stpF a.w.c.ms.length s.m (a.z.drop s.k) s.f j = stpF a.w.c.ms.length (-1) a.z a.w.sp j, meas := λ s => a.z.length - s.k }
def C_stop : Ctr := { ro := [101], α := DkZ, xs := λ a => [.bptr 100 0, .d (DI a.z)], L := λ a => dkL a.w, val := λ a => .bool (PJ a.w.c.ms.length (-1) a.z), keep := λ a => dkK (Xe a), pre := λ a => [a.z.length < 4611686018427387904 /\ a.w.c.ms.length <= 40] }
def CHK (a : DkZ) : Ann := { ann 33 [(n_in, s_in)] with E := [100, 101], loops := λ id => if id = 3 then some [stp3 a] else none }
def CIJ (a : DkZ) : Prop := AZ Try.prog (CHK a) CAI (AL CAI) (C_stop.xs a) (AG (C_stop.L a)) (C_stop.val a) (C_stop.keep a) [] []
abbrev BFZ (a : DkZ) : Prop := a.z.length = a.z.length
abbrev AVS (a : DkZ) : Prop := ∀ (i : Nat), i < a.z.length -> gD a.z i = gD a.z i
abbrev BFK (a : DkZ) : Prop := (↑a.z.length : Int) = (↑a.z.length : Int)
abbrev ARX (a : DkZ) : Prop := a.w.c.p.lo = a.w.c.p.lo
abbrev BGD (a : DkZ) : Prop := a.w.c.p.hi = a.w.c.p.hi
abbrev BBE (a : DkZ) : Prop := a.w.c.base = a.w.c.base
abbrev BCB (a : DkZ) : Prop := a.w.c.scale = a.w.c.scale
abbrev BHE (a : DkZ) : Prop := a.w.c.off = a.w.c.off
abbrev BGA (a : DkZ) : Prop := a.w.c.ms.length = a.w.c.ms.length
abbrev BES (a : DkZ) : Prop := ∀ (i : Nat), i < a.w.c.ms.length -> (gD a.w.c.ms i).pl = (gD a.w.c.ms i).pl /\ (gD a.w.c.ms i).ht = (gD a.w.c.ms i).ht
abbrev AEF (a : DkZ) : Prop := a.w.c.ns.length = a.w.c.ns.length
abbrev dD (a : DkZ) (i : Nat) : Int := (gD a.w.c.ns i).t.lo
abbrev dG (a : DkZ) (i : Nat) : Int := (gD a.w.c.ns i).t.hi
abbrev Yp (a : DkZ) (i : Nat) : Int := (gD a.w.c.ns i).s.lo
abbrev dR (a : DkZ) (i : Nat) : Int := (gD a.w.c.ns i).s.hi
abbrev ABN (a : DkZ) : Prop := ∀ (i : Nat), i < a.w.c.ns.length -> (gD a.w.c.ns i).mi = (gD a.w.c.ns i).mi /\ dD a i = dD a i /\ dG a i = dG a i /\ Yp a i = Yp a i /\ dR
 a i = dR a i
abbrev X4 (a : DkZ) : Prop := AT = AT /\ (∀ (n : Int), hasN a.w.c.ns n = hasN a.w.c.ns n) /\ (∀ (n : Int), a.w.st n = a.w.st n) /\ ∀ (n : Int), (ntOf a.w.c.ns n).mi = (ntOf a.w.c.ns n).mi /\ (ntOf a.w.c.ns n).t.lo =
 (ntOf a.w.c.ns n).t.lo /\ (ntOf a.w.c.ns n).t.hi = (ntOf a.w.c.ns n).t.hi /\ (ntOf a.w.c.ns n).s.lo = (ntOf a.w.c.ns n).s.lo /\ (ntOf a.w.c.ns n).s.hi = (ntOf a.w.c.ns n).s.hi
abbrev cR (a : DkZ) : Bool := PJ (↑a.w.c.ms.length : Int) (-1) a.z
abbrev aF (a : StK) (a1 : DkZ) : Prop := (a.k <= a1.z.length /\ -1 <= a.m /\ a.m <= 40) /\ PJ (↑a1.w.c.ms.length : Int) a.m (List.drop a.k a1.z) = cR a1 /\ ∀ (j : Nat), stpF (↑a1.w.c.ms.length : Int) a.m
 (List.drop a.k a1.z) a.f j = stpF (↑a1.w.c.ms.length : Int) (-1) a1.z a1.w.sp j
abbrev AJD (a : StK) (a1 : DkZ) : Prop := (↑a.k : Int) < (↑a1.z.length : Int)
abbrev Q7 (a : DkZ) (a1 : StK) : Prop := (Xe a).c.p.lo = a.w.c.p.lo /\ (Xe a).c.p.hi = a.w.c.p.hi /\ (Xe a).c.base = a.w.c.base /\ (Xe a).c.scale = a.w.c.scale /\ (Xe a).c.off = a.w.c.off /\ (Xe a).c.ms.length =
 a.w.c.ms.length /\ (∀ (i : Nat), i < (Xe a).c.ms.length -> (gD (Xe a).c.ms i).pl = (gD a.w.c.ms i).pl /\ (gD (Xe a).c.ms i).ht = (gD a.w.c.ms i).ht) /\ (Xe a).c.ns.length = a.w.c.ns.length /\ (∀ (i : Nat), i < (Xe
 a).c.ns.length -> (gD (Xe a).c.ns i).mi = (gD a.w.c.ns i).mi /\ (gD (Xe a).c.ns i).t.lo = dD a i /\ (gD (Xe a).c.ns i).t.hi = dG a i /\ (gD (Xe a).c.ns i).s.lo = Yp a i /\ (gD (Xe a).c.ns i).s.hi =
 dR a i) /\ (∀ (i : Nat), i < 40 -> (Xe a).sp i = a1.f i) /\ AT = AT /\ (∀ (n : Int), hasN (Xe a).c.ns n = hasN a.w.c.ns n) /\ (∀ (n : Int), (Xe a).st n = a.w.st n) /\ ∀ (n : Int), (ntOf (Xe a).c.ns n).mi = (ntOf
 a.w.c.ns n).mi /\ (ntOf (Xe a).c.ns n).t.lo = (ntOf a.w.c.ns n).t.lo /\ (ntOf (Xe a).c.ns n).t.hi = (ntOf a.w.c.ns n).t.hi /\ (ntOf (Xe a).c.ns n).s.lo = (ntOf a.w.c.ns n).s.lo /\ (ntOf (Xe a).c.ns n).s.hi = (ntOf
 a.w.c.ns n).s.hi
abbrev AFC (a : DkZ) (a1 : StK) : Nat := a.z.length - a1.k
theorem CRG (a : DkZ) : (CIJ a) = ((∃ (a_1 : StK), (a_1.m = -1 /\ BFZ a /\ AVS a /\ BFK a /\ (↑a_1.k : Int) = 0 /\ ARX a /\ BGD a /\ BBE a /\ BCB a /\ BHE a /\ BGA a /\ BES a
 /\ AEF a /\ ABN a /\ (∀ (i : Nat), i < 40 -> a_1.f i = a.w.sp i) /\ X4 a) /\ aF a_1 a) /\ ∀ (a_1 : StK), aF a_1 a -> bif decide (AJD a_1 a) then (0 <= (↑a_1.k : Int) /\ AJD a_1 a) /\ bif
 !HG (gD a.z a_1.k) (IntKind.i64.wrap (a_1.m + 1)) (IntKind.i64.wrap ((↑a.w.c.ms.length : Int) - 2)) then cR a = false /\ Q7 a a_1 else ((0 <= gD a.z a_1.k /\ gD a.z a_1.k < (↑40 : Int)) /\ (gD a.z
 a_1.k).toNat.succ.le 40) /\ ∃ (a_3 : StK), (a_3.m = gD a.z a_1.k /\ BFZ a /\ AVS a /\ BFK a /\ (↑a_3.k : Int) = IntKind.i64.wrap ((↑a_1.k : Int) + 1) /\ ARX a /\ BGD a /\ BBE a /\ BCB a /\
 BHE a /\ BGA a /\ BES a /\ AEF a /\ ABN a /\ (∀ (i : Nat), i < 40 -> a_3.f i = bif decide (i = (gD a.z a_1.k).toNat) then true else a_1.f i) /\ X4 a) /\ aF a_3 a /\ AFC a a_3 <
 AFC a a_1 else cR a = true /\ Q7 a a_1) := by kernel_rfl
theorem BWM (a : DkZ) : (Xe a).c = a.w.c := rfl
theorem CXI (a : DkZ) (h : a.z.length < 4611686018427387904 /\ a.w.c.ms.length <= 40) : CIJ a := by
 obtain ⟨hz, hm⟩ := h
 rw [CRG]; delta BFZ AVS BFK ARX BGD BBE BCB BHE BGA BES AEF dD dG Yp dR ABN X4 cR aF AJD Q7 AFC; simp only [CC, eq_self, implies_true, forall_const, BWM]
 have e2 : IntKind.i64.wrap ((a.w.c.ms.length : Int) - 2) = (a.w.c.ms.length : Int) - 2 := FH (by omega) (by omega)
 refine ⟨⟨⟨0, -1, a.w.sp⟩, ⟨rfl, rfl, λ _ _ => rfl⟩, ⟨Nat.zero_le _, by show (-1 : Int) <= -1; omega, by show (-1 : Int) <= 40; omega⟩, rfl, λ _ => rfl⟩, λ s ⟨⟨s1, s2, s3⟩, s4, s5⟩ => ⟨λ hlt => ?_, λ hge => ?_⟩⟩
 ·have hlt : s.k < a.z.length := by omega
  have hd := CDU hlt
  rw [hd] at s4 s5
  have e1 : IntKind.i64.wrap (s.m + 1) = s.m + 1 := FH (by omega) (by omega)
  refine ⟨by omega, λ h1 => ⟨?_, λ j _ => ?_, λ _ => rfl⟩, λ h1 => ?_⟩
  ·rw [<- s4]; unfold PJ wr; rw [h1]; rfl
  ·show stpF _ _ _ _ j = _
   rw [<- s5 j]; unfold stpF wr; rw [h1]; rfl
  ·have h2 := h1
   rw [e1, e2] at h2
   simp only [HG, Bool.and_eq_true, decide_eq_true_eq] at h2
   refine ⟨by omega, ⟨s.k + 1, gD a.z s.k, λ i => bif decide (i = (gD a.z s.k).toNat) then true else s.f i⟩, ⟨rfl, (GE (by omega)).symm, λ _ _ => rfl⟩, ⟨⟨by show s.k + 1 <= _; omega, by show -1 <= gD a.z s.k; omega, by show gD a.z s.k <= 40; omega⟩, ?_, λ j => ?_⟩, by show a.z.length - (s.k + 1) < _; omega⟩
   ·rw [<- s4]; conv => rhs; unfold PJ wr
    rw [h1]; rfl
   ·rw [<- s5 j]; conv => rhs; unfold stpF wr
    rw [h1]; rfl
 ·rw [List.drop_of_length_le (by omega)] at s4 s5
  exact ⟨s4.symm, λ j _ => (s5 j).symm, λ _ => rfl⟩
theorem BNK : AM Try.prog BHZ (C_stop.spec dDkZ) := LF C_stop CHK [] [] CRN (λ _ => by kernel_rfl) (λ _ => AC BKK AJ) (λ a h => CXI a h) (λ _ => NP rfl rfl) _
structure CZ where
 c : Cht
 z : List Int
def dCZ : List AVal -> Heap -> Option (CZ × List (Nat × Nat) × List Nat)
 | [x, y], H => match BWE x H, CDC y H with
  | some (c, f), some (l, e) => some (⟨c, l⟩, [], f ++ e)
  | _, _ => none
 | _, _ => none
def xCZ (a : CZ) : List AVal := [.d (XX a.c), .d (DI a.z)]
def AI (a : CZ) : Dk := Xe ⟨AH a.c, a.z⟩
def okZ (a : CZ) : Bool := PJ a.c.ms.length (-1) a.z
def Bh (a : CZ) : Int := bif AK a.c == 0 then bif okZ a then 0 else 2 else AK a.c
def C_beg : Ctr := { α := CZ, xs := xCZ, val := λ a => .tup [.bptr 0 0, .int (Bh a)], keep := λ a => dkN (AI a), pre := λ a => [(a.c.ms.length < 4611686018427387904 /\ a.c.ns.length < 4611686018427387904 /\ a.z.length < 4611686018427387904) /\ AK a.c = 0] }
def C_begX : Ctr := { α := CZ, xs := xCZ, val := λ a => .tup [.d (.v (.pointer none)), .int (Bh a)], keep := λ _ => [], pre := λ a => [(a.c.ms.length < 4611686018427387904 /\ a.c.ns.length < 4611686018427387904 /\ a.z.length < 4611686018427387904) /\ AK a.c ≠ 0] }
def CUL : Ann := { ann 23 [(GR, C_open.spec dC1), (BHZ, C_stop.spec dDkZ)] with md := λ id => if id = 2 then some λ k => if k = 3 ∨ k = 4 ∨ k = 5 ∨ k = 6 then 8 else 0 else none }
def CJQ : Ann := { ann 23 [(GR, C_openX.spec dC1)] with md := λ id => if id = 2 then some λ k => if k = 3 ∨ k = 4 ∨ k = 5 ∨ k = 6 then 9 else 0 else none }
def CUT (a : CZ) : Prop := AZ Try.prog CUL xQ (AL xQ) (xCZ a) (AG []) (C_beg.val a) (C_beg.keep a) [(0, 2016), (1, 2017)] []
abbrev AMY (a : CZ) : List Mk := AE a.c.ms.length λ (i : Nat) => gD a.c.ms i
abbrev ANJ (a : CZ) : Nat := (AMY a).length
abbrev BRG (a : CZ) (i : Nat) : Mk := gD (AMY a) i
abbrev AMK (a : CZ) : List Nt := AE a.c.ns.length λ (i : Nat) => gD a.c.ns i
abbrev AOV (a : CZ) : Nat := (AMK a).length
abbrev AOS (a : CZ) (i : Nat) : Nt := gD (AMK a) i
abbrev BON (a : CZ) (i : Nat) : Span := (AOS a i).t
abbrev BTS (a : CZ) (i : Nat) : Span := (AOS a i).s
abbrev BVK (a : CZ) : Cht := Cht.mk a.c.p a.c.base a.c.scale a.c.off (AMY a) (AMK a)
abbrev tZ (a : CZ) : List Int := AE a.z.length λ (i : Nat) => gD a.z i
abbrev zI (a : CZ) : Nat := (tZ a).length
abbrev Py (a : CZ) : Dk := AH (BVK a)
abbrev TG (a : CZ) : Cht := (Py a).c
abbrev wY (a : CZ) : Span := (TG a).p
abbrev BCK (a : CZ) : Int := (wY a).lo
abbrev AQJ (a : CZ) : Int := (wY a).hi
abbrev uL (a : CZ) : Int := (TG a).base
abbrev uA (a : CZ) : Int := (TG a).scale
abbrev M0 (a : CZ) : Int := (TG a).off
abbrev BEJ (a : CZ) : List Mk := (TG a).ms
abbrev BCT (a : CZ) : Nat := (BEJ a).length
abbrev E5 (a : CZ) (i : Nat) : Mk := gD (BEJ a) i
abbrev yE (a : CZ) : List Mk := AE (BCT a) λ (i : Nat) => E5 a i
abbrev Uc (a : CZ) : Nat := (yE a).length
abbrev BHI (a : CZ) (i : Nat) : Mk := gD (yE a) i
abbrev Ol (a : CZ) : List Nt := (TG a).ns
abbrev AZR (a : CZ) : Nat := (Ol a).length
abbrev Nu (a : CZ) (i : Nat) : Nt := gD (Ol a) i
abbrev Ab (a : CZ) : List Nt := AE (AZR a) λ (i : Nat) => Nu a i
abbrev ASM (a : CZ) : Nat := (Ab a).length
abbrev zQ (a : CZ) (i : Nat) : Nt := gD (Ab a) i
abbrev AZU (a : CZ) (i : Nat) : Span := (zQ a i).t
abbrev ARL (a : CZ) (i : Nat) : Span := (Nu a i).t
abbrev BCJ (a : CZ) (i : Nat) : Span := (zQ a i).s
abbrev BAB (a : CZ) (i : Nat) : Span := (Nu a i).s
abbrev L4 (a : CZ) (n : Int) : Bool := hasN (Ol a) n
abbrev La (a : CZ) (n : Int) : Int := (Py a).st n
abbrev M6 (a : CZ) (n : Int) : Nt := ntOf (Ab a) n
abbrev uS (a : CZ) (n : Int) : Nt := ntOf (Ol a) n
abbrev G2 (a : CZ) (n : Int) : Int := (uS a n).mi
abbrev BGJ (a : CZ) (n : Int) : Span := (M6 a n).t
abbrev AXM (a : CZ) (n : Int) : Span := (uS a n).t
abbrev I8 (a : CZ) (n : Int) : Int := (AXM a n).lo
abbrev zC (a : CZ) (n : Int) : Int := (AXM a n).hi
abbrev BCA (a : CZ) (n : Int) : Span := (M6 a n).s
abbrev AUR (a : CZ) (n : Int) : Span := (uS a n).s
abbrev xR (a : CZ) (n : Int) : Int := (AUR a n).lo
abbrev L6 (a : CZ) (n : Int) : Int := (AUR a n).hi
abbrev D2 (a : CZ) : Dk := Xe (DkZ.mk (Dk.mk (Cht.mk (wY a) (uL a) (uA a) (M0 a) (yE a) (Ab a)) (Py a).st (Py a).sp) (tZ a))
abbrev UF (a : CZ) : Cht := (D2 a).c
abbrev Qr (a : CZ) : List Nt := (UF a).ns
abbrev xZ (a : CZ) (n : Int) : Nt := ntOf (Qr a) n
abbrev ATU (a : CZ) (n : Int) : Span := (xZ a n).t
abbrev AWO (a : CZ) (n : Int) : Span := (xZ a n).s
abbrev AUG (a : CZ) : Span := (UF a).p
abbrev ATS (a : CZ) : List Mk := (UF a).ms
abbrev BDP (a : CZ) (i : Nat) : Mk := gD (ATS a) i
abbrev vQ (a : CZ) (i : Nat) : Nt := gD (Qr a) i
abbrev BDS (a : CZ) (i : Nat) : Span := (vQ a i).t
abbrev BGP (a : CZ) (i : Nat) : Span := (vQ a i).s
abbrev BAC (a : CZ) : Prop := (AI a).c.p.lo = (AUG a).lo /\ (AI a).c.p.hi = (AUG a).hi /\ (AI a).c.base = (UF a).base /\ (AI a).c.scale = (UF a).scale /\ (AI a).c.off = (UF a).off /\
 (AI a).c.ms.length = (ATS a).length /\ (∀ (i : Nat), i < (AI a).c.ms.length -> (gD (AI a).c.ms i).pl = (BDP a i).pl /\ (gD (AI a).c.ms i).ht = (BDP a i).ht) /\ (AI a).c.ns.length = (Qr
 a).length /\ (∀ (i : Nat), i < (AI a).c.ns.length -> (gD (AI a).c.ns i).mi = (vQ a i).mi /\ (gD (AI a).c.ns i).t.lo = (BDS a i).lo /\ (gD (AI a).c.ns i).t.hi = (BDS a i).hi /\ (gD (AI a).c.ns i).s.lo
 = (BGP a i).lo /\ (gD (AI a).c.ns i).s.hi = (BGP a i).hi) /\ (∀ (i : Nat), i < 40 -> (AI a).sp i = (D2 a).sp i) /\ AT = AT /\ (∀ (n : Int), hasN (AI a).c.ns n = L4 a n) /\ (∀ (n : Int), (AI
 a).st n = La a n) /\ ∀ (n : Int), (ntOf (AI a).c.ns n).mi = G2 a n /\ (ntOf (AI a).c.ns n).t.lo = I8 a n /\ (ntOf (AI a).c.ns n).t.hi = zC a n /\ (ntOf (AI a).c.ns n).s.lo = xR a n /\
 (ntOf (AI a).c.ns n).s.hi = L6 a n
theorem CXA (a : CZ) : (CUT a) = ((a.c.p.lo = a.c.p.lo /\ a.c.p.hi = a.c.p.hi /\ a.c.base = a.c.base /\ a.c.scale = a.c.scale /\ a.c.off = a.c.off /\ ANJ a = a.c.ms.length /\ (∀ (i : Nat), i < ANJ a -> (BRG a
 i).pl = (gD a.c.ms i).pl /\ (BRG a i).ht = (gD a.c.ms i).ht) /\ AOV a = a.c.ns.length /\ (∀ (i : Nat), i < AOV a -> (AOS a i).mi = (gD a.c.ns i).mi /\ (BON a i).lo = (gD a.c.ns i).t.lo /\ (BON a i).hi =
 (gD a.c.ns i).t.hi /\ (BTS a i).lo = (gD a.c.ns i).s.lo /\ (BTS a i).hi = (gD a.c.ns i).s.hi) /\ (ANJ a < 4611686018427387904 /\ AOV a < 4611686018427387904) /\ AK (BVK a) = 0) /\ true = true /\ true =
 true /\ true = true /\ (zI a = a.z.length /\ (∀ (i : Nat), i < zI a -> gD (tZ a) i = gD a.z i) /\ BCK a = BCK a /\ AQJ a = AQJ a /\ uL a = uL a /\ uA a = uA a /\
 M0 a = M0 a /\ Uc a = BCT a /\ (∀ (i : Nat), i < Uc a -> (BHI a i).pl = (E5 a i).pl /\ (BHI a i).ht = (E5 a i).ht) /\ ASM a = AZR a /\ (∀ (i : Nat), i < ASM a ->
 (zQ a i).mi = (Nu a i).mi /\ (AZU a i).lo = (ARL a i).lo /\ (AZU a i).hi = (ARL a i).hi /\ (BCJ a i).lo = (BAB a i).lo /\ (BCJ a i).hi = (BAB a i).hi) /\ (∀ (i : Nat), i <
 40 -> false = false) /\ AT = AT /\ (∀ (n : Int), hasN (Ab a) n = L4 a n) /\ (∀ (n : Int), La a n = La a n) /\ (∀ (n : Int), (M6 a n).mi = G2 a n /\ (BGJ a n).lo = I8 a n /\
 (BGJ a n).hi = zC a n /\ (BCA a n).lo = xR a n /\ (BCA a n).hi = L6 a n) /\ AT = AT /\ (∀ (n : Int), L4 a n = hasN (Qr a) n) /\ (∀ (n : Int), La a n = (D2 a).st n) /\
 (∀ (n : Int), G2 a n = (xZ a n).mi /\ I8 a n = (ATU a n).lo /\ zC a n = (ATU a n).hi /\ xR a n = (AWO a n).lo /\ L6 a n = (AWO a n).hi) /\ zI a <
 4611686018427387904 /\ Uc a <= 40) /\ true = true /\ bif bif 0 == 0 then !PJ (↑(Uc a) : Int) (-1) (tZ a) else false then Bh a = 2 /\ BAC a else Bh a = 0 /\ BAC a) := by kernel_rfl
def CJA (a : CZ) : Prop := AZ Try.prog CJQ xQ (AL xQ) (xCZ a) (AG []) (C_begX.val a) [] [] []
theorem CQK (a : CZ) : (CJA a) = ((a.c.p.lo = a.c.p.lo /\ a.c.p.hi = a.c.p.hi /\ a.c.base = a.c.base /\ a.c.scale = a.c.scale /\ a.c.off = a.c.off /\ (AE a.c.ms.length λ (i : Nat) => gD a.c.ms i).length =
 a.c.ms.length /\ (∀ (i : Nat), i < (AE a.c.ms.length λ (i : Nat) => gD a.c.ms i).length -> (gD (AE a.c.ms.length λ (i : Nat) => gD a.c.ms i) i).pl = (gD a.c.ms i).pl /\ (gD (AE a.c.ms.length λ (i : Nat) => gD
 a.c.ms i) i).ht = (gD a.c.ms i).ht) /\ (AE a.c.ns.length λ (i : Nat) => gD a.c.ns i).length = a.c.ns.length /\ (∀ (i : Nat), i < (AE a.c.ns.length λ (i : Nat) => gD a.c.ns i).length -> (gD (AE a.c.ns.length λ (i :
 Nat) => gD a.c.ns i) i).mi = (gD a.c.ns i).mi /\ (gD (AE a.c.ns.length λ (i : Nat) => gD a.c.ns i) i).t.lo = (gD a.c.ns i).t.lo /\ (gD (AE a.c.ns.length λ (i : Nat) => gD a.c.ns i) i).t.hi = (gD a.c.ns i).t.hi /\ (gD
 (AE a.c.ns.length λ (i : Nat) => gD a.c.ns i) i).s.lo = (gD a.c.ns i).s.lo /\ (gD (AE a.c.ns.length λ (i : Nat) => gD a.c.ns i) i).s.hi = (gD a.c.ns i).s.hi) /\ ((AE a.c.ms.length λ (i : Nat) => gD a.c.ms
 i).length < 4611686018427387904 /\ (AE a.c.ns.length λ (i : Nat) => gD a.c.ns i).length < 4611686018427387904) /\ AK (Cht.mk a.c.p a.c.base a.c.scale a.c.off (AE a.c.ms.length λ (i : Nat) => gD a.c.ms i) (AE
 a.c.ns.length λ (i : Nat) => gD a.c.ns i)) ≠ 0) /\ (AK (Cht.mk a.c.p a.c.base a.c.scale a.c.off (AE a.c.ms.length λ (i : Nat) => gD a.c.ms i) (AE a.c.ns.length λ (i : Nat) => gD a.c.ns i)) == 0) = false /\
 (AK (Cht.mk a.c.p a.c.base a.c.scale a.c.off (AE a.c.ms.length λ (i : Nat) => gD a.c.ms i) (AE a.c.ns.length λ (i : Nat) => gD a.c.ns i)) == 0) = false /\ (AK (Cht.mk a.c.p a.c.base a.c.scale a.c.off (AE
 a.c.ms.length λ (i : Nat) => gD a.c.ms i) (AE a.c.ns.length λ (i : Nat) => gD a.c.ns i)) == 0) = false /\ (AK (Cht.mk a.c.p a.c.base a.c.scale a.c.off (AE a.c.ms.length λ (i : Nat) => gD a.c.ms i) (AE
 a.c.ns.length λ (i : Nat) => gD a.c.ns i)) == 0) = false /\ ((AK (Cht.mk a.c.p a.c.base a.c.scale a.c.off (AE a.c.ms.length λ (i : Nat) => gD a.c.ms i) (AE a.c.ns.length λ (i : Nat) => gD a.c.ns i)) == 0) =
 true -> false = true) /\ bif bif AK (Cht.mk a.c.p a.c.base a.c.scale a.c.off (AE a.c.ms.length λ (i : Nat) => gD a.c.ms i) (AE a.c.ns.length λ (i : Nat) => gD a.c.ns i)) == 0 then false else false then
 Value.pointer none = Value.pointer none /\ Bh a = 2 else Value.pointer none = Value.pointer none /\ Bh a = AK (Cht.mk a.c.p a.c.base a.c.scale a.c.off (AE a.c.ms.length λ (i : Nat) => gD a.c.ms i) (AE
 a.c.ns.length λ (i : Nat) => gD a.c.ns i))) := by kernel_rfl
theorem Kh (a : CZ) : (AI a).c = a.c := rfl
theorem YA (w : Dk) : Dk.mk w.c w.st w.sp = w := rfl
theorem ES {c : Cht} (h : AK c = 0) : LJ c = 0 /\ (1 <= c.ms.length /\ c.ms.length <= 40) /\ c.ns.length <= 20 := by
 have h1 : LJ c = 0 := by
  unfold AK at h
  cases hc : (LJ c != 0) with
  | false => simpa using hc
  | true => rw [hc] at h; simpa using h
 refine ⟨h1, ?_⟩
 unfold LJ at h1
 cases hc : (bif !HG c.ms.length 1 40 then true else decide ((c.ns.length : Int) > 20)) with
 | true => rw [hc] at h1; cases h1
 | false =>
  cases hb : HG c.ms.length 1 40 with
  | false => rw [hb] at hc; cases hc
  | true =>
   rw [hb] at hc
   have hc : decide ((c.ns.length : Int) > 20) = false := hc
   simp only [HG, Bool.and_eq_true, decide_eq_true_eq, decide_eq_false_iff_not] at hb hc
   omega
theorem DAH (a : CZ) (h : (a.c.ms.length < 4611686018427387904 /\ a.c.ns.length < 4611686018427387904 /\ a.z.length < 4611686018427387904) /\ AK a.c = 0) : CUT a := by
 obtain ⟨⟨hm, hn, hz⟩, h0⟩ := h
 have hl := ES h0
 rw [CXA]; delta AMY ANJ BRG AMK AOV AOS BON BTS BVK tZ zI Py TG wY BCK AQJ uL uA M0 BEJ BCT E5 yE Uc BHI Ol AZR Nu Ab ASM zQ AZU ARL BCJ BAB L4 La M6 uS G2 BGJ AXM I8 zC BCA AUR xR L6 D2 UF Qr xZ ATU AWO AUG ATS BDP vQ BDS BGP BAC; simp only [CC, eq_self, implies_true, forall_const, BZ, AAT, YA, BWM, Kh]
 have e : Bh a = bif okZ a then 0 else 2 := by unfold Bh; rw [h0]; rfl
 have e2 : PJ a.c.ms.length (-1) a.z = okZ a := rfl
 have e3 : Xe ⟨AH a.c, a.z⟩ = AI a := rfl
 simp only [e, e2, e3, Kh]
 have e4 : ∀ n, (AH a.c).st n = (AI a).st n := λ _ => rfl
 cases okZ a <;> simp [hm, hn, hz, h0, hl.2.1.2, e4] <;> exact ⟨λ _ => rfl, λ _ _ => rfl⟩
theorem CMO : AM Try.prog uU (C_beg.spec dCZ) := LF C_beg (λ _ => CUL) [(0, 2016), (1, 2017)] [] BVY (λ _ => by kernel_rfl) (λ _ => AC K8 (AC BNK AJ)) (λ a h => DAH a h) (λ _ => NP rfl rfl) _
theorem CPG : AM Try.prog uU (C_begX.spec dCZ) := LF C_begX (λ _ => CJQ) [] [] BVY (λ _ => by kernel_rfl) (λ _ => AC yX AJ) (λ (a : CZ) h => by
 obtain ⟨⟨hm, hn, hz⟩, h0⟩ : (a.c.ms.length < 4611686018427387904 /\ a.c.ns.length < 4611686018427387904 /\ a.z.length < 4611686018427387904) /\ AK a.c ≠ 0 := h
 have h0' : (AK a.c == 0) = false := by simpa using h0
 have e : Bh a = AK a.c := by unfold Bh; rw [h0']; rfl
 show CJA a; rw [CQK]; simp only [CC, eq_self, implies_true, forall_const, BZ, h0', e]
 simp [hm, hn, h0]) (λ _ => NP rfl rfl) _
end Go.Bal
