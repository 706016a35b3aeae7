/- Package chart: which charts are right; a chart at work. -/
import Derived.Test.YtdbjalgfomknhaaChE
set_option linter.unusedVariables false
set_option linter.unusedSimpArgs false
namespace Go.Bal
open Go Go.Sym Go.Proofs
def mkC : Int -> List Mk -> Int
 | _, [] => 0
 | a, m :: r => bif (bif !DT m.pl 0 10000 then true else !DT m.ht 0 1000) then 30 else bif decide (m.pl <= a) then 9 else mkC m.pl r
def dupP (l : List Nt) (i : Nat) : Bool := !(l.take i).any λ x => x.mi == (gD l i).mi
def ML (c : Cht) : Int := bif (bif !DT c.ms.length 1 40 then true else decide ((c.ns.length : Int) > 20)) then 3 else bif (bif (bif (bif !JH c.p 1 600 then true else !DT c.base (-1000000) 1000000) then true else !DT c.scale 0 1000) then true else !DT c.off 0 1000) then 30 else 0
def AM (c : Cht) : Int := bif ML c != 0 then ML c else bif mkC (-1) c.ms != 0 then mkC (-1) c.ms else bif !c.ns.all (λ n => CF n c.ms.length) then 30 else bif allB (dupP c.ns) c.ns.length then 0 else 10
def dC1 : List AVal -> Heap -> Option (Cht × List (Nat × Nat) × List Nat)
 | [y], H => match CAS y H with
  | some (l, f) => some (l, [], f)
  | none => none
 | _, _ => none
def C_Check : Ctr := { α := Cht, xs := λ c => [.d (XK c)], L := λ _ => [], val := λ c => .int (AM c), keep := λ _ => [], pre := λ c => [c.ms.length < 4611686018427387904 /\ c.ns.length < 4611686018427387904] }
def ck7 (c : Cht) : Shape := { α := NI, dflt := default, T := λ s => ⟨[(1, .bptr 201 0), (3, .int s.m), (44, .d (eMks c.ms)), (45, .int c.ms.length), (46, .int s.k)], [(201, .live (chB c))]⟩, inv := λ s => s.k <= c.ms.length /\ ML c = 0 /\ mkC s.m (c.ms.drop s.k) = mkC (-1) c.ms, meas := λ s => c.ms.length - s.k, first := [(201, 1000)] }
def ck18 (c : Cht) : Shape := { α := Nat, dflt := 0, T := λ k => ⟨[(1, .bptr 201 0), (75, .d (eNts c.ns)), (76, .int c.ns.length), (77, .int k)], [(201, .live (chB c))]⟩, inv := λ k => k <= c.ns.length /\ ML c = 0 /\ mkC (-1) c.ms = 0 /\ c.ns.all (λ n => CF n c.ms.length) = true /\ allB (dupP c.ns) k = true, meas := λ k => c.ns.length - k }
def CZC (c : Cht) : Ann := { ann 89 [(sZ, s_in), (In, CZJ), (n_eN, C4Nr.spec d4Nr), (CPX, C3Nc.spec d3Nc)] with loops := λ id => if id = 7 then some [ck7 c] else if id = 18 then some [ck18 c] else none }
def CWL (c : Cht) : Prop := BA Try.prog (CZC c) COX (AL COX) (C_Check.xs c) (AG []) (C_Check.val c) [] [] []
abbrev gA (c : Cht) : Prop := c.ms.length = c.ms.length
abbrev oM (c : Cht) : Prop := ∀ (i : Nat), i < c.ms.length -> (gD c.ms i).pl = (gD c.ms i).pl /\ (gD c.ms i).ht = (gD c.ms i).ht
abbrev BFH (c : Cht) : Prop := (↑c.ms.length : Int) = (↑c.ms.length : Int)
abbrev nP (c : Cht) : Prop := c.ns.length = c.ns.length
abbrev jL (c : Cht) (i : Nat) : Prop := (gD c.ns i).mi = (gD c.ns i).mi
abbrev lO (c : Cht) (i : Nat) : Prop := (gD c.ns i).t.lo = (gD c.ns i).t.lo
abbrev lJ (c : Cht) (i : Nat) : Prop := (gD c.ns i).t.hi = (gD c.ns i).t.hi
abbrev jX (c : Cht) (i : Nat) : Prop := (gD c.ns i).s.lo = (gD c.ns i).s.lo
abbrev nO (c : Cht) (i : Nat) : Prop := (gD c.ns i).s.hi = (gD c.ns i).s.hi
abbrev nV (c : Cht) : Prop := ∀ (i : Nat), i < c.ns.length -> jL c i /\ lO c i /\ lJ c i /\ jX c i /\ nO c i
abbrev YB (c : Cht) : Prop := c.p.lo = c.p.lo /\ c.p.hi = c.p.hi /\ c.base = c.base /\ c.scale = c.scale /\ c.off = c.off /\ gA c /\ oM c /\ nP c /\ nV c
abbrev F9 (c : Cht) : Int := mkC (-1 : Int) c.ms
abbrev Ob (a : NI) (c : Cht) : Prop := a.k <= c.ms.length /\ ML c = (0 : Int) /\ mkC a.m (List.drop a.k c.ms) = F9 c
abbrev O9 (a : NI) (c : Cht) : Prop := (↑a.k : Int) < (↑c.ms.length : Int)
abbrev Q7 (c : Cht) (a : NI) : Nat := c.ms.length - a.k
abbrev Nb (c : Cht) : List Nt := AF c.ns.length λ (i : Nat) => gD c.ns i
abbrev YN (c : Cht) : Nat := (Nb c).length
abbrev R0 (c : Cht) : Prop := YN c = c.ns.length
abbrev Qd (c : Cht) (i : Nat) : Nt := gD (Nb c) i
abbrev T2 (c : Cht) (i : Nat) : Int := (Qd c i).mi
abbrev I6 (c : Cht) (i : Nat) : Span := (Qd c i).t
abbrev vD (c : Cht) (i : Nat) : Int := (I6 c i).lo
abbrev A5 (c : Cht) (i : Nat) : Int := (I6 c i).hi
abbrev M4 (c : Cht) (i : Nat) : Span := (Qd c i).s
abbrev vH (c : Cht) (i : Nat) : Int := (M4 c i).lo
abbrev E8 (c : Cht) (i : Nat) : Int := (M4 c i).hi
abbrev O1 (c : Cht) : Prop := ∀ (i : Nat), i < YN c -> T2 c i = (gD c.ns i).mi /\ vD c i = (gD c.ns i).t.lo /\ A5 c i = (gD c.ns i).t.hi /\ vH c i = (gD c.ns i).s.lo /\
 E8 c i = (gD c.ns i).s.hi
abbrev J2 (c : Cht) : List Mk := AF c.ms.length λ (i : Nat) => gD c.ms i
abbrev XY (c : Cht) : Nat := (J2 c).length
abbrev X0 (c : Cht) (i : Nat) : Mk := gD (J2 c) i
abbrev V5 (c : Cht) (i : Nat) : Int := (X0 c i).pl
abbrev tG (c : Cht) (i : Nat) : Int := (X0 c i).ht
abbrev L6 (c : Cht) : Prop := (↑c.ns.length : Int) = (↑c.ns.length : Int)
abbrev Jp (a : Nat) (c : Cht) : Prop := a <= c.ns.length /\ ML c = (0 : Int) /\ F9 c = (0 : Int) /\ (c.ns.all λ (n : Nt) => CF n (↑c.ms.length : Int)) = true /\ allB (dupP c.ns) a = true
abbrev N0 (a : Nat) (c : Cht) : Prop := (↑a : Int) < (↑c.ns.length : Int)
abbrev V2 (a : Nat) : Prop := (0 : Int) <= (↑a : Int)
abbrev xD (a : Nat) : Nat := a - Int.toNat (0 : Int)
abbrev WX (c : Cht) (i : Nat) : Nt := gD c.ns (Int.toNat (0 : Int) + i)
abbrev Kq (a : Nat) (c : Cht) : List Nt := AF (xD a) λ (i : Nat) => WX c i
abbrev J0 (a : Nat) (c : Cht) : Nat := (AF (a - (0 : Nat)) λ (i : Nat) => gD c.ns ((0 : Nat) + i)).length
abbrev Jf (a : Nat) (c : Cht) (i : Nat) : Nt := gD (Kq a c) i
abbrev zW (a : Nat) (c : Cht) (i : Nat) : Span := (Jf a c i).t
abbrev tZ (c : Cht) (i : Nat) : Span := (WX c i).t
abbrev C0 (a : Nat) (c : Cht) (i : Nat) : Span := (Jf a c i).s
abbrev uA (c : Cht) (i : Nat) : Span := (WX c i).s
abbrev E1 (c : Cht) (a : Nat) : Nat := c.ns.length - a
theorem DGI (c : Cht) : (CWL c) = (bif bif !DT (↑c.ms.length : Int) (1 : Int) (40 : Int) then true else decide ((↑c.ns.length : Int) > (20 : Int)) then AM c = (3 : Int) else bif bif bif bif !JH c.p (1
 : Int) (600 : Int) then true else !DT c.base (-1000000 : Int) (1000000 : Int) then true else !DT c.scale (0 : Int) (1000 : Int) then true else !DT c.off (0 : Int) (1000 : Int) then AM c = (30 : Int) else (∃ (a :
 NI), (a.m = (-1 : Int) /\ gA c /\ oM c /\ BFH c /\ (↑a.k : Int) = (0 : Int) /\ YB c) /\ Ob a c) /\ ∀ (a : NI), Ob a c -> bif decide (O9 a c) then ((0 : Int) <= (↑a.k : Int) /\
 O9 a c) /\ bif bif !DT (gD c.ms a.k).pl (0 : Int) (10000 : Int) then true else !DT (gD c.ms a.k).ht (0 : Int) (1000 : Int) then AM c = (30 : Int) else bif decide ((gD c.ms a.k).pl <= a.m) then AM c = (9 :
 Int) else ∃ (a_2 : NI), (a_2.m = (gD c.ms a.k).pl /\ gA c /\ oM c /\ BFH c /\ (↑a_2.k : Int) = IntKind.i64.wrap ((↑a.k : Int) + (1 : Int)) /\ YB c) /\ Ob a_2 c /\ Q7 c a_2 <
 Q7 c a else (R0 c /\ O1 c /\ c.p.lo = c.p.lo /\ c.p.hi = c.p.hi /\ c.base = c.base /\ c.scale = c.scale /\ c.off = c.off /\ XY c = c.ms.length /\ (∀ (i : Nat), i < XY c -> V5 c i =
 (gD c.ms i).pl /\ tG c i = (gD c.ms i).ht) /\ R0 c /\ O1 c /\ c.p.lo = c.p.lo /\ c.p.hi = c.p.hi /\ c.base = c.base /\ c.scale = c.scale /\ c.off = c.off /\ c.ms.length = XY c /\ (∀ (i : Nat), i <
 c.ms.length -> (gD c.ms i).pl = V5 c i /\ (gD c.ms i).ht = tG c i) /\ c.ns.length = YN c /\ (∀ (i : Nat), i < c.ns.length -> (gD c.ns i).mi = T2 c i /\ (gD c.ns i).t.lo = vD c i /\ (gD
 c.ns i).t.hi = A5 c i /\ (gD c.ns i).s.lo = vH c i /\ (gD c.ns i).s.hi = E8 c i) /\ YN c < (4611686018427387904 : Nat) /\ True) /\ bif !(Nb c).all λ (x : Nt) => CF x (↑(XY
 c) : Int) then AM c = (30 : Int) else (∃ (a : Nat), (nP c /\ nV c /\ L6 c /\ (↑a : Int) = (0 : Int) /\ YB c) /\ Jp a c) /\ ∀ (a : Nat), Jp a c -> bif decide (N0 a c)
 then (V2 a /\ N0 a c) /\ (((0 : Int) <= (0 : Int) /\ V2 a /\ (↑a : Int) <= (↑c.ns.length : Int)) /\ (Kq a c).length = xD a /\ (∀ (i : Nat), i < J0 a c -> (Jf a c i).mi =
 (WX c i).mi /\ (zW a c i).lo = (tZ c i).lo /\ (zW a c i).hi = (tZ c i).hi /\ (C0 a c i).lo = (uA c i).lo /\ (C0 a c i).hi = (uA c i).hi) /\ jL c a
 /\ lO c a /\ lJ c a /\ jX c a /\ nO c a /\ jL c a /\ lO c a /\ lJ c a /\ jX c a /\ nO c a /\ J0 a c < (4611686018427387904 : Nat) /\ True) /\ bif (Kq a
 c).any λ (x : Nt) => x.mi == (gD c.ns a).mi then AM c = (10 : Int) else ∃ (a_3 : Nat), (nP c /\ nV c /\ L6 c /\ (↑a_3 : Int) = IntKind.i64.wrap ((↑a : Int) + (1 : Int)) /\ YB c) /\
 Jp a_3 c /\ E1 c a_3 < E1 c a else AM c = (0 : Int)) := by kernel_rfl
theorem DIJ {α : Type} [Inhabited α] {l : List α} {k : Nat} (h : k <= l.length) : (AF k λ i => gD l i) = l.take k := by
 refine CUZ (by simp [h]) λ i hi => ?_
 have hi : i < k := by simpa using hi
 rw [BD _ _ _ hi]
 simp [gD, List.getD_eq_getElem?_getD, List.getElem?_take, hi]
theorem DAJ {p : Nat -> Bool} {n k : Nat} (hk : k < n) (h : p k = false) : allB p n = false := by
 cases hc : allB p n with
 | false => rfl
 | true => rw [Ia.1 hc k hk] at h; cases h
theorem DLE (c : Cht) (h : c.ms.length < 4611686018427387904 /\ c.ns.length < 4611686018427387904) : CWL c := by
 obtain ⟨hm, hn⟩ := h
 rw [DGI]; delta gA oM BFH nP jL lO lJ jX nO nV YB F9 Ob O9 Q7 Nb YN R0 Qd T2 I6 vD A5 M4 vH E8 O1 J2 XY X0 V5 tG L6 Jp N0 V2 xD WX Kq J0 Jf zW tZ C0 uA E1; simp only [AU, eq_self, implies_true, and_self, true_and, and_true, true_implies, forall_const, decide_eq_true_eq, decide_eq_false_iff_not, Int.toNat_natCast, dSpan_eSpan, dInt_eInt, AY, AW, AX, Nat.zero_add, Int.zero_sub, Nat.le_eq, Nat.succ_eq_add_one, Nat.add_one_le_iff, Bool.not_eq_true', Bool.not_eq_false', rng_length, AK, AJ, Nat.sub_zero, Int.toNat_zero]
 refine ⟨λ h1 => ?_, λ h1 => ⟨λ h2 => ?_, λ h2 => ?_⟩⟩
 ·have e : ML c = 3 := by unfold ML; rw [h1]; rfl
  unfold AM; rw [e]; rfl
 ·have e : ML c = 30 := by unfold ML; rw [h1, h2]; rfl
  unfold AM; rw [e]; rfl
 have e : ML c = 0 := by unfold ML; rw [h1, h2]; rfl
 have k0 : ∀ v : Int, v ≠ 0 -> mkC (-1) c.ms = v -> AM c = v := λ v hv hm => by 
  have hv0 := hv
  have hv' : (v != 0) = true := by simpa using hv
  unfold AM; rw [e, hm, hv']; rfl
 refine ⟨⟨⟨0, -1⟩, ⟨rfl, rfl⟩, Nat.zero_le _, e, rfl⟩, λ s ⟨s1, _, s3⟩ => ⟨λ hlt => ?_, λ hge => ?_⟩⟩
 ·have hlt : s.k < c.ms.length := by omega
  have hd := CWR hlt
  rw [hd] at s3
  refine ⟨by omega, λ h3 => ?_, λ h3 => ⟨λ h4 => ?_, λ h4 => ⟨⟨s.k + 1, (gD c.ms s.k).pl⟩, ⟨rfl, (FM (by omega)).symm⟩, ⟨by show s.k + 1 <= _; omega, e, ?_⟩, by show c.ms.length - (s.k + 1) < _; omega⟩⟩⟩
  ·exact k0 30 (by decide) (by rw [<- s3]; unfold mkC; rw [h3]; rfl)
  ·exact k0 9 (by decide) (by rw [<- s3]; unfold mkC; rw [h3, decide_eq_true h4]; rfl)
  ·rw [<- s3]; conv => rhs; unfold mkC
   rw [h3, decide_eq_false h4]; rfl
 ·have hmk : mkC (-1) c.ms = 0 := by rw [<- s3, List.drop_of_length_le (by omega)]; rfl
  refine ⟨by omega, λ h3 => ?_, λ h3 => ⟨⟨0, rfl, Nat.zero_le _, e, hmk, h3, rfl⟩, λ k ⟨k1, _, _, _, k5⟩ => ⟨λ hlt => ?_, λ hge => ?_⟩⟩⟩
  ·unfold AM; rw [e, hmk, h3]; rfl
  ·have hlt : k < c.ns.length := by omega
   have et : (AF k λ i => gD c.ns i) = c.ns.take k := DIJ (by omega)
   rw [et]
   refine ⟨by omega, ⟨⟨by omega, by omega, by omega⟩, λ i hi => ?_, by omega⟩, λ h4 => ?_, λ h4 => ⟨k + 1, (FM (by omega)).symm, ⟨by omega, e, hmk, h3, ?_⟩, by omega⟩⟩
   ·rw [<- et, BD _ _ _ hi]; exact ⟨rfl, rfl, rfl, rfl, rfl⟩
   ·have hp : allB (dupP c.ns) c.ns.length = false := DAJ hlt (by unfold dupP; rw [h4]; rfl)
    unfold AM; rw [e, hmk, h3, hp]; rfl
   ·show (allB (dupP c.ns) k && dupP c.ns k) = true
    unfold dupP at k5 ⊢; rw [k5, h4]; rfl
  ·obtain rfl : k = c.ns.length := by omega
   unfold AM; rw [e, hmk, h3, k5]; rfl
theorem CQU : AN Try.prog CHD (C_Check.spec dC1) := MB C_Check CZC [] [] DCG (λ _ => by kernel_rfl) (λ _ => AD rV (AD DEM (AD DUG (AD DTV AI)))) DLE (λ _ => OS rfl rfl) _
def hasN (l : List Nt) (j : Int) : Bool := l.any λ x => x.mi == j
def ntOf : List Nt -> Int -> Nt
 | [], _ => default
 | n :: r, j => bif hasN r j then ntOf r j else bif n.mi == j then n else default
structure Dk where
 c : Cht
 st : Int -> Int
 sp : Nat -> Bool
def AO : Value := .agg #[.int .i64 0, .int .i64 0, .int .i64 0, .int .i64 0, .int .i64 0]
def dkB (w : Dk) (m : Nat) : AObj := .abox [.int w.c.p.lo, .int w.c.p.hi, .int w.c.base, .int w.c.scale, .int w.c.off, .d (eMks w.c.ms), .d (eNts w.c.ns), .mref m] 40 w.sp
def dkM (w : Dk) : AObj := .imap .i64 AO (hasN w.c.ns) (λ j => eNt (ntOf w.c.ns j)) w.st none
def dkL (w : Dk) : List (Nat × AObj) := [(100, dkB w 101), (101, dkM w)]
def dkK (w : Dk) : List (Nat × HCell) := [(100, .live (dkB w 101)), (101, .live (dkM w))]
def dkN (w : Dk) : List (Nat × HCell) := [(0, .live (dkB w 1)), (1, .live (dkM w))]
def rX (H : Heap) (id : Nat) : Option (Dk × Nat) := match H id with
 | .live (.abox [.d a, .d b, .d c, .d d, .d e, .d (.list _ n f _), .d (.list _ m g _), .mref q] _ sp) => match H q with
  | .live (.imap _ _ _ _ st _) => some (⟨⟨⟨BV a, BV b⟩, BV c, BV d, BV e, AF n λ i => dMk (f i), AF m λ i => dNt (g i)⟩, st, sp⟩, q)
  | _ => none
 | _ => none
def stK (l : List Nt) : Nat -> Int -> Int
 | 0 => λ _ => 0
 | k + 1 => stUp (hasN (l.take k)) (stK l k) (gD l k).mi
def AH (c : Cht) : Dk := ⟨c, stK c.ns c.ns.length, λ _ => false⟩
def C_open : Ctr := { α := Cht, xs := λ c => [.d (XK c)], val := λ _ => .tup [.bptr 0 0, .int 0], keep := λ c => dkN (AH c), pre := λ c => [(c.ms.length < 4611686018427387904 /\ c.ns.length < 4611686018427387904) /\ AM c = 0] }
def C_openX : Ctr := { α := Cht, xs := λ c => [.d (XK c)], val := λ c => .tup [.d (.v (.pointer none)), .int (AM c)], keep := λ _ => [], pre := λ c => [(c.ms.length < 4611686018427387904 /\ c.ns.length < 4611686018427387904) /\ AM c ≠ 0] }
def op6 (c : Cht) : Shape := { α := Nat, dflt := 0, T := λ k => ⟨[(5, .bptr 201 0), (18, .d (eNts c.ns)), (19, .int c.ns.length), (20, .int k)], [(201, .live (.abox [.int c.p.lo, .int c.p.hi, .int c.base, .int c.scale, .int c.off, .d (eMks c.ms), .d (eNts c.ns), .mref 202] 40 λ _ => false)), (202, .live (.imap .i64 AO (hasN (c.ns.take k)) (λ j => eNt (ntOf (c.ns.take k) j)) (stK c.ns k) none))]⟩, inv := λ k => k <= c.ns.length, meas := λ k => c.ns.length - k, first := [(201, 5048), (202, 5016)] }
def CHK (c : Cht) : Ann := { ann 33 [(CHD, C_Check.spec dC1)] with loops := λ id => if id = 6 then some [op6 c] else none }
def DCY (c : Cht) : Prop := BA Try.prog (CHK c) cG (AL cG) (C_open.xs c) (AG []) (C_open.val c) (C_open.keep c) [(0, 201), (1, 202)] []
abbrev AAP (c : Cht) : List Mk := AF c.ms.length λ (i : Nat) => gD c.ms i
abbrev AAC (c : Cht) : Nat := (AAP c).length
abbrev BTR (c : Cht) (i : Nat) : Mk := gD (AAP c) i
abbrev AAM (c : Cht) : List Nt := AF c.ns.length λ (i : Nat) => gD c.ns i
abbrev ADN (c : Cht) : Nat := (AAM c).length
abbrev AGS (c : Cht) (i : Nat) : Nt := gD (AAM c) i
abbrev BWV (c : Cht) (i : Nat) : Span := (AGS c i).t
abbrev BPK (c : Cht) (i : Nat) : Span := (AGS c i).s
abbrev cI (c : Cht) : Prop := c.ns.length = c.ns.length
abbrev cK (c : Cht) : Prop := ∀ (i : Nat), i < c.ns.length -> (gD c.ns i).mi = (gD c.ns i).mi /\ (gD c.ns i).t.lo = (gD c.ns i).t.lo /\ (gD c.ns i).t.hi = (gD c.ns i).t.hi /\ (gD c.ns i).s.lo = (gD c.ns i).s.lo /\ (gD
 c.ns i).s.hi = (gD c.ns i).s.hi
abbrev AVG (c : Cht) : Prop := (↑c.ns.length : Int) = (↑c.ns.length : Int)
abbrev APR (c : Cht) : Prop := c.ms.length = c.ms.length
abbrev ANL (c : Cht) : Prop := ∀ (i : Nat), i < c.ms.length -> (gD c.ms i).pl = (gD c.ms i).pl /\ (gD c.ms i).ht = (gD c.ms i).ht
abbrev eO : Prop := ∀ (i : Nat), i < (40 : Nat) -> false = false
abbrev AQA (a : Nat) (c : Cht) : Prop := (↑a : Int) < (↑c.ns.length : Int)
abbrev UM (n : Int) (c : Cht) (a : Nat) : Bool := decide (n = (gD c.ns a).mi)
abbrev AXB (c : Cht) (a : Nat) : Nat := c.ns.length - a
theorem DJU (c : Cht) : (DCY c) = ((c.p.lo = c.p.lo /\ c.p.hi = c.p.hi /\ c.base = c.base /\ c.scale = c.scale /\ c.off = c.off /\ AAC c = c.ms.length /\ (∀ (i : Nat), i < AAC c -> (BTR c i).pl = (gD c.ms
 i).pl /\ (BTR c i).ht = (gD c.ms i).ht) /\ ADN c = c.ns.length /\ (∀ (i : Nat), i < ADN c -> (AGS c i).mi = (gD c.ns i).mi /\ (BWV c i).lo = (gD c.ns i).t.lo /\ (BWV c i).hi = (gD c.ns i).t.hi /\
 (BPK c i).lo = (gD c.ns i).s.lo /\ (BPK c i).hi = (gD c.ns i).s.hi) /\ AAC c < (4611686018427387904 : Nat) /\ ADN c < (4611686018427387904 : Nat)) /\ bif AM (Cht.mk c.p c.base c.scale c.off (AAP
 c) (AAM c)) != (0 : Int) then False else (∃ (a : Nat), (cI c /\ cK c /\ AVG c /\ (↑a : Int) = (0 : Int) /\ c.p.lo = c.p.lo /\ c.p.hi = c.p.hi /\ c.base = c.base /\ c.scale = c.scale /\ c.off = c.off /\
 APR c /\ ANL c /\ cI c /\ cK c /\ eO /\ AO = Value.agg #[Value.int IntKind.i64 (0 : Int), Value.int IntKind.i64 (0 : Int), Value.int IntKind.i64 (0 : Int), Value.int IntKind.i64 (0 : Int),
 Value.int IntKind.i64 (0 : Int)] /\ (∀ (n : Int), hasN (List.take a c.ns) n = false) /\ (∀ (n : Int), stK c.ns a n = (0 : Int)) /\ ∀ (n : Int), (ntOf (List.take a c.ns) n).mi = (0 : Int) /\ (ntOf (List.take a c.ns) n).t.lo =
 (0 : Int) /\ (ntOf (List.take a c.ns) n).t.hi = (0 : Int) /\ (ntOf (List.take a c.ns) n).s.lo = (0 : Int) /\ (ntOf (List.take a c.ns) n).s.hi = (0 : Int)) /\ a.le c.ns.length) /\ ∀ (a : Nat), a.le c.ns.length -> bif decide
 (AQA a c) then ((0 : Int) <= (↑a : Int) /\ AQA a c) /\ ∃ (a_2 : Nat), (cI c /\ cK c /\ AVG c /\ (↑a_2 : Int) = IntKind.i64.wrap ((↑a : Int) + (1 : Int)) /\ c.p.lo = c.p.lo /\ c.p.hi = c.p.hi /\
 c.base = c.base /\ c.scale = c.scale /\ c.off = c.off /\ APR c /\ ANL c /\ cI c /\ cK c /\ eO /\ AO = AO /\ (∀ (n : Int), hasN (List.take a_2 c.ns) n = MD (hasN (List.take a c.ns)) (gD c.ns
 a).mi n) /\ (∀ (n : Int), stK c.ns a_2 n = stUp (hasN (List.take a c.ns)) (stK c.ns a) (gD c.ns a).mi n) /\ ∀ (n : Int), ((ntOf (List.take a_2 c.ns) n).mi = bif UM n c a then (gD c.ns a).mi else (ntOf (List.take a
 c.ns) n).mi) /\ ((ntOf (List.take a_2 c.ns) n).t.lo = bif UM n c a then (gD c.ns a).t.lo else (ntOf (List.take a c.ns) n).t.lo) /\ ((ntOf (List.take a_2 c.ns) n).t.hi = bif UM n c a then (gD c.ns a).t.hi else
 (ntOf (List.take a c.ns) n).t.hi) /\ ((ntOf (List.take a_2 c.ns) n).s.lo = bif UM n c a then (gD c.ns a).s.lo else (ntOf (List.take a c.ns) n).s.lo) /\ (ntOf (List.take a_2 c.ns) n).s.hi = bif UM n c a then
 (gD c.ns a).s.hi else (ntOf (List.take a c.ns) n).s.hi) /\ a_2.le c.ns.length /\ AXB c a_2 < AXB c a else Int.ofNat (0 : Nat) = Int.ofNat (0 : Nat) /\ (AH c).c.p.lo = c.p.lo /\ (AH c).c.p.hi = c.p.hi /\ (AH
 c).c.base = c.base /\ (AH c).c.scale = c.scale /\ (AH c).c.off = c.off /\ (AH c).c.ms.length = c.ms.length /\ (∀ (i : Nat), i < (AH c).c.ms.length -> (gD (AH c).c.ms i).pl = (gD c.ms i).pl /\ (gD (AH c).c.ms i).ht
 = (gD c.ms i).ht) /\ (AH c).c.ns.length = c.ns.length /\ (∀ (i : Nat), i < (AH c).c.ns.length -> (gD (AH c).c.ns i).mi = (gD c.ns i).mi /\ (gD (AH c).c.ns i).t.lo = (gD c.ns i).t.lo /\ (gD (AH c).c.ns i).t.hi = (gD
 c.ns i).t.hi /\ (gD (AH c).c.ns i).s.lo = (gD c.ns i).s.lo /\ (gD (AH c).c.ns i).s.hi = (gD c.ns i).s.hi) /\ eO /\ AO = AO /\ (∀ (n : Int), hasN (AH c).c.ns n = hasN (List.take a c.ns) n) /\ (∀ (n : Int), (AH
 c).st n = stK c.ns a n) /\ ∀ (n : Int), (ntOf (AH c).c.ns n).mi = (ntOf (List.take a c.ns) n).mi /\ (ntOf (AH c).c.ns n).t.lo = (ntOf (List.take a c.ns) n).t.lo /\ (ntOf (AH c).c.ns n).t.hi = (ntOf (List.take a c.ns)
 n).t.hi /\ (ntOf (AH c).c.ns n).s.lo = (ntOf (List.take a c.ns) n).s.lo /\ (ntOf (AH c).c.ns n).s.hi = (ntOf (List.take a c.ns) n).s.hi) := by kernel_rfl
def CZM (c : Cht) : Prop := BA Try.prog (CHK c) cG (AL cG) (C_open.xs c) (AG []) (C_openX.val c) [] [] []
abbrev pC (c : Cht) : List Mk := AF c.ms.length λ (i : Nat) => gD c.ms i
abbrev iJ (c : Cht) : Nat := (pC c).length
abbrev AKF (c : Cht) (i : Nat) : Mk := gD (pC c) i
abbrev pE (c : Cht) : List Nt := AF c.ns.length λ (i : Nat) => gD c.ns i
abbrev fK (c : Cht) : Nat := (pE c).length
abbrev pH (c : Cht) (i : Nat) : Nt := gD (pE c) i
abbrev AKO (c : Cht) (i : Nat) : Span := (pH c i).t
abbrev AOY (c : Cht) (i : Nat) : Span := (pH c i).s
abbrev AUY (c : Cht) : Int := AM (Cht.mk c.p c.base c.scale c.off (pC c) (pE c))
abbrev Ew (c : Cht) : Prop := c.ns.length = c.ns.length
abbrev WG (c : Cht) : Prop := ∀ (i : Nat), i < c.ns.length -> (gD c.ns i).mi = (gD c.ns i).mi /\ (gD c.ns i).t.lo = (gD c.ns i).t.lo /\ (gD c.ns i).t.hi = (gD c.ns i).t.hi /\ (gD c.ns i).s.lo = (gD c.ns i).s.lo /\ (gD
 c.ns i).s.hi = (gD c.ns i).s.hi
abbrev sO (c : Cht) : Prop := (↑c.ns.length : Int) = (↑c.ns.length : Int)
abbrev yU (c : Cht) : Prop := c.ms.length = c.ms.length
abbrev zR (c : Cht) : Prop := ∀ (i : Nat), i < c.ms.length -> (gD c.ms i).pl = (gD c.ms i).pl /\ (gD c.ms i).ht = (gD c.ms i).ht
abbrev wH : Prop := ∀ (i : Nat), i < 40 -> false = false
abbrev F8 (a : Nat) (c : Cht) : Prop := (↑a : Int) < (↑c.ns.length : Int)
abbrev MR (n : Int) (c : Cht) (a : Nat) : Bool := decide (n = (gD c.ns a).mi)
abbrev xG (c : Cht) (a : Nat) : Nat := c.ns.length - a
theorem DBT (c : Cht) : (CZM c) = ((c.p.lo = c.p.lo /\ c.p.hi = c.p.hi /\ c.base = c.base /\ c.scale = c.scale /\ c.off = c.off /\ iJ c = c.ms.length /\ (∀ (i : Nat), i < iJ c -> (AKF c i).pl = (gD
 c.ms i).pl /\ (AKF c i).ht = (gD c.ms i).ht) /\ fK c = c.ns.length /\ (∀ (i : Nat), i < fK c -> (pH c i).mi = (gD c.ns i).mi /\ (AKO c i).lo = (gD c.ns i).t.lo /\ (AKO c i).hi = (gD c.ns
 i).t.hi /\ (AOY c i).lo = (gD c.ns i).s.lo /\ (AOY c i).hi = (gD c.ns i).s.hi) /\ iJ c < 4611686018427387904 /\ fK c < 4611686018427387904) /\ bif AUY c != 0 then Value.pointer none =
 Value.pointer none /\ AM c = AUY c else (∃ (a : Nat), (Ew c /\ WG c /\ sO c /\ (↑a : Int) = 0 /\ c.p.lo = c.p.lo /\ c.p.hi = c.p.hi /\ c.base = c.base /\ c.scale = c.scale /\ c.off = c.off /\
 yU c /\ zR c /\ Ew c /\ WG c /\ wH /\ AO = Value.agg #[Value.int IntKind.i64 0, Value.int IntKind.i64 0, Value.int IntKind.i64 0, Value.int IntKind.i64 0, Value.int IntKind.i64 0] /\ (∀
 (n : Int), hasN (List.take a c.ns) n = false) /\ (∀ (n : Int), stK c.ns a n = 0) /\ ∀ (n : Int), (ntOf (List.take a c.ns) n).mi = 0 /\ (ntOf (List.take a c.ns) n).t.lo = 0 /\ (ntOf (List.take a c.ns) n).t.hi = 0 /\ (ntOf
 (List.take a c.ns) n).s.lo = 0 /\ (ntOf (List.take a c.ns) n).s.hi = 0) /\ a.le c.ns.length) /\ ∀ (a : Nat), a.le c.ns.length -> bif decide (F8 a c) then (0 <= (↑a : Int) /\ F8 a c) /\ ∃ (a_2 : Nat), (Ew
 c /\ WG c /\ sO c /\ (↑a_2 : Int) = IntKind.i64.wrap ((↑a : Int) + 1) /\ c.p.lo = c.p.lo /\ c.p.hi = c.p.hi /\ c.base = c.base /\ c.scale = c.scale /\ c.off = c.off /\ yU c /\ zR c /\ Ew c /\
 WG c /\ wH /\ AO = AO /\ (∀ (n : Int), hasN (List.take a_2 c.ns) n = MD (hasN (List.take a c.ns)) (gD c.ns a).mi n) /\ (∀ (n : Int), stK c.ns a_2 n = stUp (hasN (List.take a c.ns)) (stK c.ns a) (gD c.ns
 a).mi n) /\ ∀ (n : Int), ((ntOf (List.take a_2 c.ns) n).mi = bif MR n c a then (gD c.ns a).mi else (ntOf (List.take a c.ns) n).mi) /\ ((ntOf (List.take a_2 c.ns) n).t.lo = bif MR n c a then (gD c.ns a).t.lo
 else (ntOf (List.take a c.ns) n).t.lo) /\ ((ntOf (List.take a_2 c.ns) n).t.hi = bif MR n c a then (gD c.ns a).t.hi else (ntOf (List.take a c.ns) n).t.hi) /\ ((ntOf (List.take a_2 c.ns) n).s.lo = bif MR n c
 a then (gD c.ns a).s.lo else (ntOf (List.take a c.ns) n).s.lo) /\ (ntOf (List.take a_2 c.ns) n).s.hi = bif MR n c a then (gD c.ns a).s.hi else (ntOf (List.take a c.ns) n).s.hi) /\ a_2.le c.ns.length /\ xG c
 a_2 < xG c a else False) := by kernel_rfl
theorem BI (c : Cht) : Cht.mk c.p c.base c.scale c.off c.ms c.ns = c := rfl
theorem BBK (c : Cht) : (AH c).c = c := rfl
theorem CDJ (l : List Nt) (x : Nt) (j : Int) : hasN (l ++ [x]) j = MD (hasN l) x.mi j := by
 unfold hasN MD; rw [List.any_append, Bool.or_comm]
 simp only [List.any_cons, List.any_nil, Bool.or_false]
 congr 1
 rw [Bool.eq_iff_iff, beq_iff_eq, decide_eq_true_eq]; exact eq_comm
theorem DAU (l : List Nt) (x : Nt) (j : Int) : ntOf (l ++ [x]) j = bif decide (j = x.mi) then x else ntOf l j := by
 induction l with
 | nil =>
  simp only [List.nil_append, ntOf, hasN, List.any_nil, cond_false]
  have : (x.mi == j) = decide (j = x.mi) := by rw [Bool.eq_iff_iff, beq_iff_eq, decide_eq_true_eq]; exact eq_comm
  rw [this]
 | cons y l ih =>
  simp only [List.cons_append, ntOf, ih, CDJ, MD]
  cases decide (j = x.mi) <;> rfl
theorem DRB (c : Cht) (h : (c.ms.length < 4611686018427387904 /\ c.ns.length < 4611686018427387904) /\ AM c = 0) : DCY c := by
 obtain ⟨⟨hm, hn⟩, h0⟩ := h
 rw [DJU]; delta AAP AAC BTR AAM ADN AGS BWV BPK cI cK AVG APR ANL eO AQA UM AXB; simp only [AU, eq_self, implies_true, and_self, true_and, and_true, true_implies, forall_const, decide_eq_true_eq, decide_eq_false_iff_not, Int.toNat_natCast, dSpan_eSpan, dInt_eInt, AY, AW, AX, Nat.zero_add, Int.zero_sub, Nat.le_eq, Nat.succ_eq_add_one, Nat.add_one_le_iff, Bool.not_eq_true', Bool.not_eq_false', rng_length, AK, AJ, BI, BBK, h0]
 refine ⟨⟨hm, hn⟩, (λ h => by simp at h), λ _ => ⟨⟨0, ⟨rfl, rfl, λ _ => rfl, λ _ => rfl, λ _ => ⟨rfl, rfl, rfl, rfl, rfl⟩⟩, Nat.zero_le _⟩, λ k hk => ⟨λ hlt => ?_, λ hge => ?_⟩⟩⟩
 ·have hlt : k < c.ns.length := by omega
  refine ⟨by omega, k + 1, ⟨(FM (by omega)).symm, λ n => ?_, λ n => rfl, λ n => ?_⟩, by omega, by omega⟩
  ·rw [Hf hlt, CDJ]
  ·rw [Hf hlt, DAU]
   cases decide (n = (gD c.ns k).mi) <;> exact ⟨rfl, rfl, rfl, rfl, rfl⟩
 ·obtain rfl : k = c.ns.length := by omega
  simp [AH]
theorem AHN : AN Try.prog HW (C_open.spec dC1) := MB C_open CHK [(0, 201), (1, 202)] [] CDX (λ _ => by kernel_rfl) (λ _ => AD CQU AI) (λ c h => DRB c h) (λ _ => OS rfl rfl) _
theorem AEM : AN Try.prog HW (C_openX.spec dC1) := MB C_openX CHK [] [] CDX (λ _ => by kernel_rfl) (λ _ => AD CQU AI) (λ (c : Cht) h => by
 obtain ⟨⟨hm, hn⟩, h0⟩ : (c.ms.length < 4611686018427387904 /\ c.ns.length < 4611686018427387904) /\ AM c ≠ 0 := h
 have h0' : (AM c != 0) = true := by simpa using h0
 show CZM c; rw [DBT]; delta pC iJ AKF pE fK pH AKO AOY AUY Ew WG sO yU zR wH F8 MR xG; simp only [AU, eq_self, implies_true, and_self, true_and, and_true, true_implies, forall_const, decide_eq_true_eq, decide_eq_false_iff_not, Int.toNat_natCast, dSpan_eSpan, dInt_eInt, AY, AW, AX, Nat.zero_add, Int.zero_sub, Nat.le_eq, Nat.succ_eq_add_one, Nat.add_one_le_iff, Bool.not_eq_true', Bool.not_eq_false', rng_length, AK, AJ, BI, h0']
 simp [hm, hn]) (λ _ => OS rfl rfl) _
def RR (m : Int) : Int -> List Int -> Bool
 | _, [] => true
 | a, g :: r => bif DT g (wr (a + 1)) (wr (m - 2)) then RR m g r else false
def stpF (m : Int) : Int -> List Int -> (Nat -> Bool) -> Nat -> Bool
 | _, [], f, j => f j
 | a, g :: r, f, j => bif DT g (wr (a + 1)) (wr (m - 2)) then stpF m g r (λ i => bif decide (i = g.toNat) then true else f i) j else f j
structure DkZ where
 w : Dk
 z : List Int
def jQ (a : DkZ) : Dk := ⟨a.w.c, a.w.st, stpF a.w.c.ms.length (-1) a.z a.w.sp⟩
def dDkZ : List AVal -> Heap -> Option (DkZ × List (Nat × Nat) × List Nat)
 | [.bptr id _, y], H => match rX H id, BZN y H with
  | some (w, q), some (l, f) => some (⟨w, l⟩, [(100, id), (101, q)], f)
  | _, _ => none
 | _, _ => none
structure StK where
 k : Nat
 m : Int
 f : Nat -> Bool
 deriving Inhabited
def stp3 (a : DkZ) : Shape := { α := StK, dflt := default, T := λ s => ⟨[(0, .bptr 100 0), (5, .int s.m), (8, .d (BB a.z)), (9, .int a.z.length), (10, .int s.k)], dkK ⟨a.w.c, a.w.st, s.f⟩⟩, inv := λ s => (s.k <= a.z.length /\ -1 <= s.m /\ s.m <= 40) /\ RR a.w.c.ms.length s.m (a.z.drop s.k) = RR a.w.c.ms.length (-1) a.z /\ ∀ j, stpF a.w.c.ms.length s.m (a.z.drop s.k) s.f j = stpF a.w.c.ms.length (-1) a.z a.w.sp j, meas := λ s => a.z.length - s.k }
def C_stop : Ctr := { ro := [101], α := DkZ, xs := λ a => [.bptr 100 0, .d (BB a.z)], L := λ a => dkL a.w, val := λ a => .bool (RR a.w.c.ms.length (-1) a.z), keep := λ a => dkK (jQ a), pre := λ a => [a.z.length < 4611686018427387904 /\ a.w.c.ms.length <= 40] }
def DCR (a : DkZ) : Ann := { ann 33 [(sZ, s_in)] with E := [100, 101], loops := λ id => if id = 3 then some [stp3 a] else none }
def DIO (a : DkZ) : Prop := BA Try.prog (DCR a) CVH (AL CVH) (C_stop.xs a) (AG (C_stop.L a)) (C_stop.val a) (C_stop.keep a) [] []
abbrev BZF (a : DkZ) : Prop := a.z.length = a.z.length
abbrev BVY (a : DkZ) : Prop := ∀ (i : Nat), i < a.z.length -> gD a.z i = gD a.z i
abbrev BUF (a : DkZ) : Prop := (↑a.z.length : Int) = (↑a.z.length : Int)
abbrev CBH (a : DkZ) : Prop := a.w.c.p.lo = a.w.c.p.lo
abbrev BXP (a : DkZ) : Prop := a.w.c.p.hi = a.w.c.p.hi
abbrev CCQ (a : DkZ) : Prop := a.w.c.base = a.w.c.base
abbrev BYR (a : DkZ) : Prop := a.w.c.scale = a.w.c.scale
abbrev BOI (a : DkZ) : Prop := a.w.c.off = a.w.c.off
abbrev BWE (a : DkZ) : Prop := a.w.c.ms.length = a.w.c.ms.length
abbrev BWA (a : DkZ) : Prop := ∀ (i : Nat), i < a.w.c.ms.length -> (gD a.w.c.ms i).pl = (gD a.w.c.ms i).pl /\ (gD a.w.c.ms i).ht = (gD a.w.c.ms i).ht
abbrev AKS (a : DkZ) : Prop := a.w.c.ns.length = a.w.c.ns.length
abbrev pR (a : DkZ) (i : Nat) : Int := (gD a.w.c.ns i).t.lo
abbrev iY (a : DkZ) (i : Nat) : Int := (gD a.w.c.ns i).t.hi
abbrev nE (a : DkZ) (i : Nat) : Int := (gD a.w.c.ns i).s.lo
abbrev fX (a : DkZ) (i : Nat) : Int := (gD a.w.c.ns i).s.hi
abbrev BDS (a : DkZ) : Prop := ∀ (i : Nat), i < a.w.c.ns.length -> (gD a.w.c.ns i).mi = (gD a.w.c.ns i).mi /\ pR a i = pR a i /\ iY a i = iY a i /\ nE a i = nE a i /\ fX
 a i = fX a i
abbrev AWE (a : DkZ) : Prop := AO = AO /\ (∀ (n : Int), hasN a.w.c.ns n = hasN a.w.c.ns n) /\ (∀ (n : Int), a.w.st n = a.w.st n) /\ ∀ (n : Int), (ntOf a.w.c.ns n).mi = (ntOf a.w.c.ns n).mi /\ (ntOf a.w.c.ns n).t.lo =
 (ntOf a.w.c.ns n).t.lo /\ (ntOf a.w.c.ns n).t.hi = (ntOf a.w.c.ns n).t.hi /\ (ntOf a.w.c.ns n).s.lo = (ntOf a.w.c.ns n).s.lo /\ (ntOf a.w.c.ns n).s.hi = (ntOf a.w.c.ns n).s.hi
abbrev jS (a : DkZ) : Bool := RR (↑a.w.c.ms.length : Int) (-1) a.z
abbrev lH (a : StK) (a1 : DkZ) : Prop := (a.k <= a1.z.length /\ -1 <= a.m /\ a.m <= 40) /\ RR (↑a1.w.c.ms.length : Int) a.m (List.drop a.k a1.z) = jS a1 /\ ∀ (j : Nat), stpF (↑a1.w.c.ms.length : Int) a.m
 (List.drop a.k a1.z) a.f j = stpF (↑a1.w.c.ms.length : Int) (-1) a1.z a1.w.sp j
abbrev ATT (a : StK) (a1 : DkZ) : Prop := (↑a.k : Int) < (↑a1.z.length : Int)
abbrev AYK (a : DkZ) (a1 : StK) : Prop := (jQ a).c.p.lo = a.w.c.p.lo /\ (jQ a).c.p.hi = a.w.c.p.hi /\ (jQ a).c.base = a.w.c.base /\ (jQ a).c.scale = a.w.c.scale /\ (jQ a).c.off = a.w.c.off /\ (jQ a).c.ms.length =
 a.w.c.ms.length /\ (∀ (i : Nat), i < (jQ a).c.ms.length -> (gD (jQ a).c.ms i).pl = (gD a.w.c.ms i).pl /\ (gD (jQ a).c.ms i).ht = (gD a.w.c.ms i).ht) /\ (jQ a).c.ns.length = a.w.c.ns.length /\ (∀ (i : Nat), i < (jQ
 a).c.ns.length -> (gD (jQ a).c.ns i).mi = (gD a.w.c.ns i).mi /\ (gD (jQ a).c.ns i).t.lo = pR a i /\ (gD (jQ a).c.ns i).t.hi = iY a i /\ (gD (jQ a).c.ns i).s.lo = nE a i /\ (gD (jQ a).c.ns i).s.hi =
 fX a i) /\ (∀ (i : Nat), i < 40 -> (jQ a).sp i = a1.f i) /\ AO = AO /\ (∀ (n : Int), hasN (jQ a).c.ns n = hasN a.w.c.ns n) /\ (∀ (n : Int), (jQ a).st n = a.w.st n) /\ ∀ (n : Int), (ntOf (jQ a).c.ns n).mi = (ntOf
 a.w.c.ns n).mi /\ (ntOf (jQ a).c.ns n).t.lo = (ntOf a.w.c.ns n).t.lo /\ (ntOf (jQ a).c.ns n).t.hi = (ntOf a.w.c.ns n).t.hi /\ (ntOf (jQ a).c.ns n).s.lo = (ntOf a.w.c.ns n).s.lo /\ (ntOf (jQ a).c.ns n).s.hi = (ntOf
 a.w.c.ns n).s.hi
abbrev AVZ (a : DkZ) (a1 : StK) : Nat := a.z.length - a1.k
theorem DKU (a : DkZ) : (DIO a) = ((∃ (a_1 : StK), (a_1.m = -1 /\ BZF a /\ BVY a /\ BUF a /\ (↑a_1.k : Int) = 0 /\ CBH a /\ BXP a /\ CCQ a /\ BYR a /\ BOI a /\ BWE a /\ BWA a
 /\ AKS a /\ BDS a /\ (∀ (i : Nat), i < 40 -> a_1.f i = a.w.sp i) /\ AWE a) /\ lH a_1 a) /\ ∀ (a_1 : StK), lH a_1 a -> bif decide (ATT a_1 a) then (0 <= (↑a_1.k : Int) /\ ATT a_1 a) /\ bif
 !DT (gD a.z a_1.k) (IntKind.i64.wrap (a_1.m + 1)) (IntKind.i64.wrap ((↑a.w.c.ms.length : Int) - 2)) then jS a = false /\ AYK a a_1 else ((0 <= gD a.z a_1.k /\ gD a.z a_1.k < (↑40 : Int)) /\ (gD a.z
 a_1.k).toNat.succ.le 40) /\ ∃ (a_3 : StK), (a_3.m = gD a.z a_1.k /\ BZF a /\ BVY a /\ BUF a /\ (↑a_3.k : Int) = IntKind.i64.wrap ((↑a_1.k : Int) + 1) /\ CBH a /\ BXP a /\ CCQ a /\ BYR a /\
 BOI a /\ BWE a /\ BWA a /\ AKS a /\ BDS a /\ (∀ (i : Nat), i < 40 -> a_3.f i = bif decide (i = (gD a.z a_1.k).toNat) then true else a_1.f i) /\ AWE a) /\ lH a_3 a /\ AVZ a a_3 <
 AVZ a a_1 else jS a = true /\ AYK a a_1) := by kernel_rfl
theorem CSK (a : DkZ) : (jQ a).c = a.w.c := rfl
theorem DPO (a : DkZ) (h : a.z.length < 4611686018427387904 /\ a.w.c.ms.length <= 40) : DIO a := by
 obtain ⟨hz, hm⟩ := h
 rw [DKU]; delta BZF BVY BUF CBH BXP CCQ BYR BOI BWE BWA AKS pR iY nE fX BDS AWE jS lH ATT AYK AVZ; simp only [AU, eq_self, implies_true, and_self, true_and, and_true, true_implies, forall_const, decide_eq_true_eq, decide_eq_false_iff_not, Int.toNat_natCast, dSpan_eSpan, dInt_eInt, AY, AW, AX, Nat.zero_add, Int.zero_sub, Nat.le_eq, Nat.succ_eq_add_one, Nat.add_one_le_iff, Bool.not_eq_true', Bool.not_eq_false', rng_length, AK, AJ, CSK]
 have e2 : IntKind.i64.wrap ((a.w.c.ms.length : Int) - 2) = (a.w.c.ms.length : Int) - 2 := EN (by omega) (by omega)
 refine ⟨⟨⟨0, -1, a.w.sp⟩, ⟨rfl, rfl, λ _ _ => rfl⟩, ⟨Nat.zero_le _, by show (-1 : Int) <= -1; omega, by show (-1 : Int) <= 40; omega⟩, rfl, λ _ => rfl⟩, λ s ⟨⟨s1, s2, s3⟩, s4, s5⟩ => ⟨λ hlt => ?_, λ hge => ?_⟩⟩
 ·have hlt : s.k < a.z.length := by omega
  have hd := CWR hlt
  rw [hd] at s4 s5
  have e1 : IntKind.i64.wrap (s.m + 1) = s.m + 1 := EN (by omega) (by omega)
  refine ⟨by omega, λ h1 => ⟨?_, λ j _ => ?_, λ _ => rfl⟩, λ h1 => ?_⟩
  ·rw [<- s4]; unfold RR wr; rw [h1]; rfl
  ·show stpF _ _ _ _ j = _
   rw [<- s5 j]; unfold stpF wr; rw [h1]; rfl
  ·have h2 := h1
   rw [e1, e2] at h2
   simp only [DT, Bool.and_eq_true, decide_eq_true_eq] at h2
   refine ⟨by omega, ⟨s.k + 1, gD a.z s.k, λ i => bif decide (i = (gD a.z s.k).toNat) then true else s.f i⟩, ⟨rfl, (FM (by omega)).symm, λ _ _ => rfl⟩, ⟨⟨by show s.k + 1 <= _; omega, by show -1 <= gD a.z s.k; omega, by show gD a.z s.k <= 40; omega⟩, ?_, λ j => ?_⟩, by show a.z.length - (s.k + 1) < _; omega⟩
   ·rw [<- s4]; conv => rhs; unfold RR wr
    rw [h1]; rfl
   ·rw [<- s5 j]; conv => rhs; unfold stpF wr
    rw [h1]; rfl
 ·rw [List.drop_of_length_le (by omega)] at s4 s5
  exact ⟨s4.symm, λ j _ => (s5 j).symm, λ _ => rfl⟩
theorem CJE : AN Try.prog BSP (C_stop.spec dDkZ) := MB C_stop DCR [] [] DKM (λ _ => by kernel_rfl) (λ _ => AD rV AI) (λ a h => DPO a h) (λ _ => OS rfl rfl) _
structure CZ where
 c : Cht
 z : List Int
def dCZ : List AVal -> Heap -> Option (CZ × List (Nat × Nat) × List Nat)
 | [x, y], H => match CAS x H, BZN y H with
  | some (c, f), some (l, e) => some (⟨c, l⟩, [], f ++ e)
  | _, _ => none
 | _, _ => none
def xCZ (a : CZ) : List AVal := [.d (XK a.c), .d (BB a.z)]
def AB (a : CZ) : Dk := jQ ⟨AH a.c, a.z⟩
def okZ (a : CZ) : Bool := RR a.c.ms.length (-1) a.z
def GD (a : CZ) : Int := bif AM a.c == 0 then bif okZ a then 0 else 2 else AM a.c
def C_beg : Ctr := { α := CZ, xs := xCZ, val := λ a => .tup [.bptr 0 0, .int (GD a)], keep := λ a => dkN (AB a), pre := λ a => [(a.c.ms.length < 4611686018427387904 /\ a.c.ns.length < 4611686018427387904 /\ a.z.length < 4611686018427387904) /\ AM a.c = 0] }
def C_begX : Ctr := { α := CZ, xs := xCZ, val := λ a => .tup [.d (.v (.pointer none)), .int (GD a)], keep := λ _ => [], pre := λ a => [(a.c.ms.length < 4611686018427387904 /\ a.c.ns.length < 4611686018427387904 /\ a.z.length < 4611686018427387904) /\ AM a.c ≠ 0] }
def DOL : Ann := { ann 23 [(HW, C_open.spec dC1), (BSP, C_stop.spec dDkZ)] with md := λ id => if id = 2 then some λ k => if k = 3 ∨ k = 4 ∨ k = 5 ∨ k = 6 then 8 else 0 else none }
def DGB : Ann := { ann 23 [(HW, C_openX.spec dC1)] with md := λ id => if id = 2 then some λ k => if k = 3 ∨ k = 4 ∨ k = 5 ∨ k = 6 then 9 else 0 else none }
def DNB (a : CZ) : Prop := BA Try.prog DOL AGO (AL AGO) (xCZ a) (AG []) (C_beg.val a) (C_beg.keep a) [(0, 2016), (1, 2017)] []
abbrev BMB (a : CZ) : List Mk := AF a.c.ms.length λ (i : Nat) => gD a.c.ms i
abbrev BJN (a : CZ) : Nat := (BMB a).length
abbrev CJN (a : CZ) (i : Nat) : Mk := gD (BMB a) i
abbrev BIY (a : CZ) : List Nt := AF a.c.ns.length λ (i : Nat) => gD a.c.ns i
abbrev BKZ (a : CZ) : Nat := (BIY a).length
abbrev BIQ (a : CZ) (i : Nat) : Nt := gD (BIY a) i
abbrev CKS (a : CZ) (i : Nat) : Span := (BIQ a i).t
abbrev CFC (a : CZ) (i : Nat) : Span := (BIQ a i).s
abbrev COF (a : CZ) : Cht := Cht.mk a.c.p a.c.base a.c.scale a.c.off (BMB a) (BIY a)
abbrev AGR (a : CZ) : List Int := AF a.z.length λ (i : Nat) => gD a.z i
abbrev ACM (a : CZ) : Nat := (AGR a).length
abbrev Wd (a : CZ) : Dk := AH (COF a)
abbrev XC (a : CZ) : Cht := (Wd a).c
abbrev AJH (a : CZ) : Span := (XC a).p
abbrev BZR (a : CZ) : Int := (AJH a).lo
abbrev BSH (a : CZ) : Int := (AJH a).hi
abbrev ADJ (a : CZ) : Int := (XC a).base
abbrev AAQ (a : CZ) : Int := (XC a).scale
abbrev AKA (a : CZ) : Int := (XC a).off
abbrev BOS (a : CZ) : List Mk := (XC a).ms
abbrev BPT (a : CZ) : Nat := (BOS a).length
abbrev AFH (a : CZ) (i : Nat) : Mk := gD (BOS a) i
abbrev AGN (a : CZ) : List Mk := AF (BPT a) λ (i : Nat) => AFH a i
abbrev cO (a : CZ) : Nat := (AGN a).length
abbrev BNM (a : CZ) (i : Nat) : Mk := gD (AGN a) i
abbrev Qu (a : CZ) : List Nt := (XC a).ns
abbrev BUM (a : CZ) : Nat := (Qu a).length
abbrev Xv (a : CZ) (i : Nat) : Nt := gD (Qu a) i
abbrev Gj (a : CZ) : List Nt := AF (BUM a) λ (i : Nat) => Xv a i
abbrev CAY (a : CZ) : Nat := (Gj a).length
abbrev AFI (a : CZ) (i : Nat) : Nt := gD (Gj a) i
abbrev BOM (a : CZ) (i : Nat) : Span := (AFI a i).t
abbrev BNT (a : CZ) (i : Nat) : Span := (Xv a i).t
abbrev CAE (a : CZ) (i : Nat) : Span := (AFI a i).s
abbrev BVB (a : CZ) (i : Nat) : Span := (Xv a i).s
abbrev AFO (a : CZ) (n : Int) : Bool := hasN (Qu a) n
abbrev Vo (a : CZ) (n : Int) : Int := (Wd a).st n
abbrev AFV (a : CZ) (n : Int) : Nt := ntOf (Gj a) n
abbrev AAR (a : CZ) (n : Int) : Nt := ntOf (Qu a) n
abbrev AJR (a : CZ) (n : Int) : Int := (AAR a n).mi
abbrev CCA (a : CZ) (n : Int) : Span := (AFV a n).t
abbrev BSV (a : CZ) (n : Int) : Span := (AAR a n).t
abbrev AHA (a : CZ) (n : Int) : Int := (BSV a n).lo
abbrev ABH (a : CZ) (n : Int) : Int := (BSV a n).hi
abbrev BQI (a : CZ) (n : Int) : Span := (AFV a n).s
abbrev BPX (a : CZ) (n : Int) : Span := (AAR a n).s
abbrev AIX (a : CZ) (n : Int) : Int := (BPX a n).lo
abbrev ACD (a : CZ) (n : Int) : Int := (BPX a n).hi
abbrev AIW (a : CZ) : Dk := jQ (DkZ.mk (Dk.mk (Cht.mk (AJH a) (ADJ a) (AAQ a) (AKA a) (AGN a) (Gj a)) (Wd a).st (Wd a).sp) (AGR a))
abbrev WY (a : CZ) : Cht := (AIW a).c
abbrev Sj (a : CZ) : List Nt := (WY a).ns
abbrev AJP (a : CZ) (n : Int) : Nt := ntOf (Sj a) n
abbrev CAF (a : CZ) (n : Int) : Span := (AJP a n).t
abbrev BOH (a : CZ) (n : Int) : Span := (AJP a n).s
abbrev BQB (a : CZ) : Span := (WY a).p
abbrev BSU (a : CZ) : List Mk := (WY a).ms
abbrev BQP (a : CZ) (i : Nat) : Mk := gD (BSU a) i
abbrev AJO (a : CZ) (i : Nat) : Nt := gD (Sj a) i
abbrev BUU (a : CZ) (i : Nat) : Span := (AJO a i).t
abbrev BSZ (a : CZ) (i : Nat) : Span := (AJO a i).s
abbrev BYF (a : CZ) : Prop := (AB a).c.p.lo = (BQB a).lo /\ (AB a).c.p.hi = (BQB a).hi /\ (AB a).c.base = (WY a).base /\ (AB a).c.scale = (WY a).scale /\ (AB a).c.off = (WY a).off /\
 (AB a).c.ms.length = (BSU a).length /\ (∀ (i : Nat), i < (AB a).c.ms.length -> (gD (AB a).c.ms i).pl = (BQP a i).pl /\ (gD (AB a).c.ms i).ht = (BQP a i).ht) /\ (AB a).c.ns.length = (Sj
 a).length /\ (∀ (i : Nat), i < (AB a).c.ns.length -> (gD (AB a).c.ns i).mi = (AJO a i).mi /\ (gD (AB a).c.ns i).t.lo = (BUU a i).lo /\ (gD (AB a).c.ns i).t.hi = (BUU a i).hi /\ (gD (AB a).c.ns i).s.lo
 = (BSZ a i).lo /\ (gD (AB a).c.ns i).s.hi = (BSZ a i).hi) /\ (∀ (i : Nat), i < 40 -> (AB a).sp i = (AIW a).sp i) /\ AO = AO /\ (∀ (n : Int), hasN (AB a).c.ns n = AFO a n) /\ (∀ (n : Int), (AB
 a).st n = Vo a n) /\ ∀ (n : Int), (ntOf (AB a).c.ns n).mi = AJR a n /\ (ntOf (AB a).c.ns n).t.lo = AHA a n /\ (ntOf (AB a).c.ns n).t.hi = ABH a n /\ (ntOf (AB a).c.ns n).s.lo = AIX a n /\
 (ntOf (AB a).c.ns n).s.hi = ACD a n
theorem DPL (a : CZ) : (DNB a) = ((a.c.p.lo = a.c.p.lo /\ a.c.p.hi = a.c.p.hi /\ a.c.base = a.c.base /\ a.c.scale = a.c.scale /\ a.c.off = a.c.off /\ BJN a = a.c.ms.length /\ (∀ (i : Nat), i < BJN a -> (CJN a
 i).pl = (gD a.c.ms i).pl /\ (CJN a i).ht = (gD a.c.ms i).ht) /\ BKZ a = a.c.ns.length /\ (∀ (i : Nat), i < BKZ a -> (BIQ a i).mi = (gD a.c.ns i).mi /\ (CKS a i).lo = (gD a.c.ns i).t.lo /\ (CKS a i).hi =
 (gD a.c.ns i).t.hi /\ (CFC a i).lo = (gD a.c.ns i).s.lo /\ (CFC a i).hi = (gD a.c.ns i).s.hi) /\ (BJN a < 4611686018427387904 /\ BKZ a < 4611686018427387904) /\ AM (COF a) = 0) /\ true = true /\ true =
 true /\ true = true /\ (ACM a = a.z.length /\ (∀ (i : Nat), i < ACM a -> gD (AGR a) i = gD a.z i) /\ BZR a = BZR a /\ BSH a = BSH a /\ ADJ a = ADJ a /\ AAQ a = AAQ a /\
 AKA a = AKA a /\ cO a = BPT a /\ (∀ (i : Nat), i < cO a -> (BNM a i).pl = (AFH a i).pl /\ (BNM a i).ht = (AFH a i).ht) /\ CAY a = BUM a /\ (∀ (i : Nat), i < CAY a ->
 (AFI a i).mi = (Xv a i).mi /\ (BOM a i).lo = (BNT a i).lo /\ (BOM a i).hi = (BNT a i).hi /\ (CAE a i).lo = (BVB a i).lo /\ (CAE a i).hi = (BVB a i).hi) /\ (∀ (i : Nat), i <
 40 -> false = false) /\ AO = AO /\ (∀ (n : Int), hasN (Gj a) n = AFO a n) /\ (∀ (n : Int), Vo a n = Vo a n) /\ (∀ (n : Int), (AFV a n).mi = AJR a n /\ (CCA a n).lo = AHA a n /\
 (CCA a n).hi = ABH a n /\ (BQI a n).lo = AIX a n /\ (BQI a n).hi = ACD a n) /\ AO = AO /\ (∀ (n : Int), AFO a n = hasN (Sj a) n) /\ (∀ (n : Int), Vo a n = (AIW a).st n) /\
 (∀ (n : Int), AJR a n = (AJP a n).mi /\ AHA a n = (CAF a n).lo /\ ABH a n = (CAF a n).hi /\ AIX a n = (BOH a n).lo /\ ACD a n = (BOH a n).hi) /\ ACM a <
 4611686018427387904 /\ cO a <= 40) /\ true = true /\ bif bif 0 == 0 then !RR (↑(cO a) : Int) (-1) (AGR a) else false then GD a = 2 /\ BYF a else GD a = 0 /\ BYF a) := by kernel_rfl
def DDY (a : CZ) : Prop := BA Try.prog DGB AGO (AL AGO) (xCZ a) (AG []) (C_begX.val a) [] [] []
theorem DLT (a : CZ) : (DDY a) = ((a.c.p.lo = a.c.p.lo /\ a.c.p.hi = a.c.p.hi /\ a.c.base = a.c.base /\ a.c.scale = a.c.scale /\ a.c.off = a.c.off /\ (AF a.c.ms.length λ (i : Nat) => gD a.c.ms i).length =
 a.c.ms.length /\ (∀ (i : Nat), i < (AF a.c.ms.length λ (i : Nat) => gD a.c.ms i).length -> (gD (AF a.c.ms.length λ (i : Nat) => gD a.c.ms i) i).pl = (gD a.c.ms i).pl /\ (gD (AF a.c.ms.length λ (i : Nat) => gD
 a.c.ms i) i).ht = (gD a.c.ms i).ht) /\ (AF a.c.ns.length λ (i : Nat) => gD a.c.ns i).length = a.c.ns.length /\ (∀ (i : Nat), i < (AF a.c.ns.length λ (i : Nat) => gD a.c.ns i).length -> (gD (AF a.c.ns.length λ (i :
 Nat) => gD a.c.ns i) i).mi = (gD a.c.ns i).mi /\ (gD (AF a.c.ns.length λ (i : Nat) => gD a.c.ns i) i).t.lo = (gD a.c.ns i).t.lo /\ (gD (AF a.c.ns.length λ (i : Nat) => gD a.c.ns i) i).t.hi = (gD a.c.ns i).t.hi /\ (gD
 (AF a.c.ns.length λ (i : Nat) => gD a.c.ns i) i).s.lo = (gD a.c.ns i).s.lo /\ (gD (AF a.c.ns.length λ (i : Nat) => gD a.c.ns i) i).s.hi = (gD a.c.ns i).s.hi) /\ ((AF a.c.ms.length λ (i : Nat) => gD a.c.ms
 i).length < 4611686018427387904 /\ (AF a.c.ns.length λ (i : Nat) => gD a.c.ns i).length < 4611686018427387904) /\ AM (Cht.mk a.c.p a.c.base a.c.scale a.c.off (AF a.c.ms.length λ (i : Nat) => gD a.c.ms i) (AF
 a.c.ns.length λ (i : Nat) => gD a.c.ns i)) ≠ 0) /\ (AM (Cht.mk a.c.p a.c.base a.c.scale a.c.off (AF a.c.ms.length λ (i : Nat) => gD a.c.ms i) (AF a.c.ns.length λ (i : Nat) => gD a.c.ns i)) == 0) = false /\
 (AM (Cht.mk a.c.p a.c.base a.c.scale a.c.off (AF a.c.ms.length λ (i : Nat) => gD a.c.ms i) (AF a.c.ns.length λ (i : Nat) => gD a.c.ns i)) == 0) = false /\ (AM (Cht.mk a.c.p a.c.base a.c.scale a.c.off (AF
 a.c.ms.length λ (i : Nat) => gD a.c.ms i) (AF a.c.ns.length λ (i : Nat) => gD a.c.ns i)) == 0) = false /\ (AM (Cht.mk a.c.p a.c.base a.c.scale a.c.off (AF a.c.ms.length λ (i : Nat) => gD a.c.ms i) (AF
 a.c.ns.length λ (i : Nat) => gD a.c.ns i)) == 0) = false /\ ((AM (Cht.mk a.c.p a.c.base a.c.scale a.c.off (AF a.c.ms.length λ (i : Nat) => gD a.c.ms i) (AF a.c.ns.length λ (i : Nat) => gD a.c.ns i)) == 0) =
 true -> false = true) /\ bif bif AM (Cht.mk a.c.p a.c.base a.c.scale a.c.off (AF a.c.ms.length λ (i : Nat) => gD a.c.ms i) (AF a.c.ns.length λ (i : Nat) => gD a.c.ns i)) == 0 then false else false then
 Value.pointer none = Value.pointer none /\ GD a = 2 else Value.pointer none = Value.pointer none /\ GD a = AM (Cht.mk a.c.p a.c.base a.c.scale a.c.off (AF a.c.ms.length λ (i : Nat) => gD a.c.ms i) (AF
 a.c.ns.length λ (i : Nat) => gD a.c.ns i))) := by kernel_rfl
theorem WH (a : CZ) : (AB a).c = a.c := rfl
theorem RO (w : Dk) : Dk.mk w.c w.st w.sp = w := rfl
theorem DG {c : Cht} (h : AM c = 0) : ML c = 0 /\ (1 <= c.ms.length /\ c.ms.length <= 40) /\ c.ns.length <= 20 := by
 have h1 : ML c = 0 := by
  unfold AM at h
  cases hc : (ML c != 0) with
  | false => simpa using hc
  | true => rw [hc] at h; simpa using h
 refine ⟨h1, ?_⟩
 unfold ML at h1
 cases hc : (bif !DT c.ms.length 1 40 then true else decide ((c.ns.length : Int) > 20)) with
 | true => rw [hc] at h1; cases h1
 | false =>
  cases hb : DT c.ms.length 1 40 with
  | false => rw [hb] at hc; cases hc
  | true =>
   rw [hb] at hc
   have hc : decide ((c.ns.length : Int) > 20) = false := hc
   simp only [DT, Bool.and_eq_true, decide_eq_true_eq, decide_eq_false_iff_not] at hb hc
   omega
theorem DVD (a : CZ) (h : (a.c.ms.length < 4611686018427387904 /\ a.c.ns.length < 4611686018427387904 /\ a.z.length < 4611686018427387904) /\ AM a.c = 0) : DNB a := by
 obtain ⟨⟨hm, hn, hz⟩, h0⟩ := h
 have hl := DG h0
 rw [DPL]; delta BMB BJN CJN BIY BKZ BIQ CKS CFC COF AGR ACM Wd XC AJH BZR BSH ADJ AAQ AKA BOS BPT AFH AGN cO BNM Qu BUM Xv Gj CAY AFI BOM BNT CAE BVB AFO Vo AFV AAR AJR CCA BSV AHA ABH BQI BPX AIX ACD AIW WY Sj AJP CAF BOH BQB BSU BQP AJO BUU BSZ BYF; simp only [AU, eq_self, implies_true, and_self, true_and, and_true, true_implies, forall_const, decide_eq_true_eq, decide_eq_false_iff_not, Int.toNat_natCast, dSpan_eSpan, dInt_eInt, AY, AW, AX, Nat.zero_add, Int.zero_sub, Nat.le_eq, Nat.succ_eq_add_one, Nat.add_one_le_iff, Bool.not_eq_true', Bool.not_eq_false', rng_length, AK, AJ, BI, BBK, RO, CSK, WH]
 have e : GD a = bif okZ a then 0 else 2 := by unfold GD; rw [h0]; rfl
 have e2 : RR a.c.ms.length (-1) a.z = okZ a := rfl
 have e3 : jQ ⟨AH a.c, a.z⟩ = AB a := rfl
 simp only [e, e2, e3, WH]
 have e4 : ∀ n, (AH a.c).st n = (AB a).st n := λ _ => rfl
 cases okZ a <;> simp [hm, hn, hz, h0, hl.2.1.2, e4] <;> exact ⟨λ _ => rfl, λ _ _ => rfl⟩
theorem BUS : AN Try.prog RZ (C_beg.spec dCZ) := MB C_beg (λ _ => DOL) [(0, 2016), (1, 2017)] [] CSC (λ _ => by kernel_rfl) (λ _ => AD AHN (AD CJE AI)) (λ a h => DVD a h) (λ _ => OS rfl rfl) _
theorem CYJ : AN Try.prog RZ (C_begX.spec dCZ) := MB C_begX (λ _ => DGB) [] [] CSC (λ _ => by kernel_rfl) (λ _ => AD AEM AI) (λ (a : CZ) h => by
 obtain ⟨⟨hm, hn, hz⟩, h0⟩ : (a.c.ms.length < 4611686018427387904 /\ a.c.ns.length < 4611686018427387904 /\ a.z.length < 4611686018427387904) /\ AM a.c ≠ 0 := h
 have h0' : (AM a.c == 0) = false := by simpa using h0
 have e : GD a = AM a.c := by unfold GD; rw [h0']; rfl
 show DDY a; rw [DLT]; simp only [AU, eq_self, implies_true, and_self, true_and, and_true, true_implies, forall_const, decide_eq_true_eq, decide_eq_false_iff_not, Int.toNat_natCast, dSpan_eSpan, dInt_eInt, AY, AW, AX, Nat.zero_add, Int.zero_sub, Nat.le_eq, Nat.succ_eq_add_one, Nat.add_one_le_iff, Bool.not_eq_true', Bool.not_eq_false', rng_length, AK, AJ, BI, h0', e]
 simp [hm, hn, h0]) (λ _ => OS rfl rfl) _
end Go.Bal
