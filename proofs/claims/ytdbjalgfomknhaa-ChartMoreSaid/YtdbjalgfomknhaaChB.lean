/- Package chart: which charts are right; a chart at work. -/
import Derived.Test.YtdbjalgfomknhaaChE
set_option linter.unusedVariables false
set_option linter.unusedSimpArgs false
namespace Go.Bal
open Go Go.Sym Go.Proofs
def mkC : Int -> List Mk -> Int
 | _, [] => 0
 | a, m :: r => bif (bif !IE m.pl 0 10000 then true else !IE m.ht 0 1000) then 30 else bif decide (m.pl <= a) then 9 else mkC m.pl r
def dupP (l : List Nt) (i : Nat) : Bool := !(l.take i).any λ x => x.mi == (gD l i).mi
def MV (c : Cht) : Int := bif (bif !IE c.ms.length 1 40 then true else decide ((c.ns.length : Int) > 20)) then 3 else bif (bif (bif (bif !JV c.p 1 600 then true else !IE c.base (-1000000) 1000000) then true else !IE c.scale 0 1000) then true else !IE c.off 0 1000) then 30 else 0
def AO (c : Cht) : Int := bif MV c != 0 then MV c else bif mkC (-1) c.ms != 0 then mkC (-1) c.ms else bif !c.ns.all (λ n => CG n c.ms.length) then 30 else bif allB (dupP c.ns) c.ns.length then 0 else 10
def dC1 : List AVal -> Heap -> Option (Cht × List (Nat × Nat) × List Nat)
 | [y], H => match COX y H with
  | some (l, f) => some (l, [], f)
  | none => none
 | _, _ => none
def C_Check : Ctr := { α := Cht, xs := λ c => [.d (VZ c)], L := λ _ => [], val := λ c => .int (AO c), keep := λ _ => [], pre := λ c => [c.ms.length < 4611686018427387904 /\ c.ns.length < 4611686018427387904] }
def ck7 (c : Cht) : Shape := { α := NI, dflt := default, T := λ s => ⟨[(1, .bptr 201 0), (3, .int s.m), (44, .d (eMks c.ms)), (45, .int c.ms.length), (46, .int s.k)], [(201, .live (chB c))]⟩, inv := λ s => s.k <= c.ms.length /\ MV c = 0 /\ mkC s.m (c.ms.drop s.k) = mkC (-1) c.ms, meas := λ s => c.ms.length - s.k, first := [(201, 1000)] }
def ck18 (c : Cht) : Shape := { α := Nat, dflt := 0, T := λ k => ⟨[(1, .bptr 201 0), (75, .d (rL c.ns)), (76, .int c.ns.length), (77, .int k)], [(201, .live (chB c))]⟩, inv := λ k => k <= c.ns.length /\ MV c = 0 /\ mkC (-1) c.ms = 0 /\ c.ns.all (λ n => CG n c.ms.length) = true /\ allB (dupP c.ns) k = true, meas := λ k => c.ns.length - k }
def CVP (c : Cht) : Ann := { ann 89 [(n_in, s_in), (Bk, CUZ), (n_eN, C4Nr.spec d4Nr), (CPC, C3Nc.spec d3Nc)] with loops := λ id => if id = 7 then some [ck7 c] else if id = 18 then some [ck18 c] else none }
def CTX (c : Cht) : Prop := AZ Try.prog (CVP c) CLN (AN CLN) (C_Check.xs c) (AF []) (C_Check.val c) [] [] []
abbrev eU (c : Cht) : Prop := c.ms.length = c.ms.length
abbrev rH (c : Cht) : Prop := ∀ (i : Nat), i < c.ms.length -> (gD c.ms i).pl = (gD c.ms i).pl /\ (gD c.ms i).ht = (gD c.ms i).ht
abbrev AFP (c : Cht) : Prop := (↑c.ms.length : Int) = (↑c.ms.length : Int)
abbrev gY (c : Cht) : Prop := c.ns.length = c.ns.length
abbrev fI (c : Cht) (i : Nat) : Prop := (gD c.ns i).mi = (gD c.ns i).mi
abbrev gZ (c : Cht) (i : Nat) : Prop := (gD c.ns i).t.lo = (gD c.ns i).t.lo
abbrev gP (c : Cht) (i : Nat) : Prop := (gD c.ns i).t.hi = (gD c.ns i).t.hi
abbrev lF (c : Cht) (i : Nat) : Prop := (gD c.ns i).s.lo = (gD c.ns i).s.lo
abbrev fV (c : Cht) (i : Nat) : Prop := (gD c.ns i).s.hi = (gD c.ns i).s.hi
abbrev iK (c : Cht) : Prop := ∀ (i : Nat), i < c.ns.length -> fI c i /\ gZ c i /\ gP c i /\ lF c i /\ fV c i
abbrev UW (c : Cht) : Prop := c.p.lo = c.p.lo /\ c.p.hi = c.p.hi /\ c.base = c.base /\ c.scale = c.scale /\ c.off = c.off /\ eU c /\ rH c /\ gY c /\ iK c
abbrev tN (c : Cht) : Int := mkC (-1 : Int) c.ms
abbrev Gz (a : NI) (c : Cht) : Prop := a.k <= c.ms.length /\ MV c = (0 : Int) /\ mkC a.m (List.drop a.k c.ms) = tN c
abbrev yZ (a : NI) (c : Cht) : Prop := (↑a.k : Int) < (↑c.ms.length : Int)
abbrev B9 (c : Cht) (a : NI) : Nat := c.ms.length - a.k
abbrev Mp (c : Cht) : List Nt := AE c.ns.length λ (i : Nat) => gD c.ns i
abbrev VB (c : Cht) : Nat := (Mp c).length
abbrev yW (c : Cht) : Prop := VB c = c.ns.length
abbrev Lo (c : Cht) (i : Nat) : Nt := gD (Mp c) i
abbrev vH (c : Cht) (i : Nat) : Int := (Lo c i).mi
abbrev zU (c : Cht) (i : Nat) : Span := (Lo c i).t
abbrev sI (c : Cht) (i : Nat) : Int := (zU c i).lo
abbrev A0 (c : Cht) (i : Nat) : Int := (zU c i).hi
abbrev xA (c : Cht) (i : Nat) : Span := (Lo c i).s
abbrev wH (c : Cht) (i : Nat) : Int := (xA c i).lo
abbrev yM (c : Cht) (i : Nat) : Int := (xA c i).hi
abbrev A2 (c : Cht) : Prop := ∀ (i : Nat), i < VB c -> vH c i = (gD c.ns i).mi /\ sI c i = (gD c.ns i).t.lo /\ A0 c i = (gD c.ns i).t.hi /\ wH c i = (gD c.ns i).s.lo /\
 yM c i = (gD c.ns i).s.hi
abbrev G3 (c : Cht) : List Mk := AE c.ms.length λ (i : Nat) => gD c.ms i
abbrev WY (c : Cht) : Nat := (G3 c).length
abbrev J0 (c : Cht) (i : Nat) : Mk := gD (G3 c) i
abbrev A5 (c : Cht) (i : Nat) : Int := (J0 c i).pl
abbrev C1 (c : Cht) (i : Nat) : Int := (J0 c i).ht
abbrev H6 (c : Cht) : Prop := (↑c.ns.length : Int) = (↑c.ns.length : Int)
abbrev Jb (a : Nat) (c : Cht) : Prop := a <= c.ns.length /\ MV c = (0 : Int) /\ tN c = (0 : Int) /\ (c.ns.all λ (n : Nt) => CG n (↑c.ms.length : Int)) = true /\ allB (dupP c.ns) a = true
abbrev vM (a : Nat) (c : Cht) : Prop := (↑a : Int) < (↑c.ns.length : Int)
abbrev vD (a : Nat) : Prop := (0 : Int) <= (↑a : Int)
abbrev tR (a : Nat) : Nat := a - Int.toNat (0 : Int)
abbrev WG (c : Cht) (i : Nat) : Nt := gD c.ns (Int.toNat (0 : Int) + i)
abbrev Hb (a : Nat) (c : Cht) : List Nt := AE (tR a) λ (i : Nat) => WG c i
abbrev uS (a : Nat) (c : Cht) : Nat := (AE (a - (0 : Nat)) λ (i : Nat) => gD c.ns ((0 : Nat) + i)).length
abbrev Ji (a : Nat) (c : Cht) (i : Nat) : Nt := gD (Hb a c) i
abbrev xI (a : Nat) (c : Cht) (i : Nat) : Span := (Ji a c i).t
abbrev tP (c : Cht) (i : Nat) : Span := (WG c i).t
abbrev yN (a : Nat) (c : Cht) (i : Nat) : Span := (Ji a c i).s
abbrev I9 (c : Cht) (i : Nat) : Span := (WG c i).s
abbrev G9 (c : Cht) (a : Nat) : Nat := c.ns.length - a
theorem DEW (c : Cht) : (CTX c) = (bif bif !IE (↑c.ms.length : Int) (1 : Int) (40 : Int) then true else decide ((↑c.ns.length : Int) > (20 : Int)) then AO c = (3 : Int) else bif bif bif bif !JV c.p (1
 : Int) (600 : Int) then true else !IE c.base (-1000000 : Int) (1000000 : Int) then true else !IE c.scale (0 : Int) (1000 : Int) then true else !IE c.off (0 : Int) (1000 : Int) then AO c = (30 : Int) else (∃ (a :
 NI), (a.m = (-1 : Int) /\ eU c /\ rH c /\ AFP c /\ (↑a.k : Int) = (0 : Int) /\ UW c) /\ Gz a c) /\ ∀ (a : NI), Gz a c -> bif decide (yZ a c) then ((0 : Int) <= (↑a.k : Int) /\
 yZ a c) /\ bif bif !IE (gD c.ms a.k).pl (0 : Int) (10000 : Int) then true else !IE (gD c.ms a.k).ht (0 : Int) (1000 : Int) then AO c = (30 : Int) else bif decide ((gD c.ms a.k).pl <= a.m) then AO c = (9 :
 Int) else ∃ (a_2 : NI), (a_2.m = (gD c.ms a.k).pl /\ eU c /\ rH c /\ AFP c /\ (↑a_2.k : Int) = IntKind.i64.wrap ((↑a.k : Int) + (1 : Int)) /\ UW c) /\ Gz a_2 c /\ B9 c a_2 <
 B9 c a else (yW c /\ A2 c /\ c.p.lo = c.p.lo /\ c.p.hi = c.p.hi /\ c.base = c.base /\ c.scale = c.scale /\ c.off = c.off /\ WY c = c.ms.length /\ (∀ (i : Nat), i < WY c -> A5 c i =
 (gD c.ms i).pl /\ C1 c i = (gD c.ms i).ht) /\ yW c /\ A2 c /\ c.p.lo = c.p.lo /\ c.p.hi = c.p.hi /\ c.base = c.base /\ c.scale = c.scale /\ c.off = c.off /\ c.ms.length = WY c /\ (∀ (i : Nat), i <
 c.ms.length -> (gD c.ms i).pl = A5 c i /\ (gD c.ms i).ht = C1 c i) /\ c.ns.length = VB c /\ (∀ (i : Nat), i < c.ns.length -> (gD c.ns i).mi = vH c i /\ (gD c.ns i).t.lo = sI c i /\ (gD
 c.ns i).t.hi = A0 c i /\ (gD c.ns i).s.lo = wH c i /\ (gD c.ns i).s.hi = yM c i) /\ VB c < (4611686018427387904 : Nat) /\ True) /\ bif !(Mp c).all λ (x : Nt) => CG x (↑(WY
 c) : Int) then AO c = (30 : Int) else (∃ (a : Nat), (gY c /\ iK c /\ H6 c /\ (↑a : Int) = (0 : Int) /\ UW c) /\ Jb a c) /\ ∀ (a : Nat), Jb a c -> bif decide (vM a c)
 then (vD a /\ vM a c) /\ (((0 : Int) <= (0 : Int) /\ vD a /\ (↑a : Int) <= (↑c.ns.length : Int)) /\ (Hb a c).length = tR a /\ (∀ (i : Nat), i < uS a c -> (Ji a c i).mi =
 (WG c i).mi /\ (xI a c i).lo = (tP c i).lo /\ (xI a c i).hi = (tP c i).hi /\ (yN a c i).lo = (I9 c i).lo /\ (yN a c i).hi = (I9 c i).hi) /\ fI c a
 /\ gZ c a /\ gP c a /\ lF c a /\ fV c a /\ fI c a /\ gZ c a /\ gP c a /\ lF c a /\ fV c a /\ uS a c < (4611686018427387904 : Nat) /\ True) /\ bif (Hb a
 c).any λ (x : Nt) => x.mi == (gD c.ns a).mi then AO c = (10 : Int) else ∃ (a_3 : Nat), (gY c /\ iK c /\ H6 c /\ (↑a_3 : Int) = IntKind.i64.wrap ((↑a : Int) + (1 : Int)) /\ UW c) /\
 Jb a_3 c /\ G9 c a_3 < G9 c a else AO c = (0 : Int)) := by kernel_rfl
theorem DBM {α : Type} [Inhabited α] {l : List α} {k : Nat} (h : k <= l.length) : (AE k λ i => gD l i) = l.take k := by
 refine DCN (by simp [h]) λ i hi => ?_
 have hi : i < k := by simpa using hi
 rw [CB _ _ _ hi]
 simp [gD, List.getD_eq_getElem?_getD, List.getElem?_take, hi]
theorem CXC {p : Nat -> Bool} {n k : Nat} (hk : k < n) (h : p k = false) : allB p n = false := by
 cases hc : allB p n with
 | false => rfl
 | true => rw [Dy.1 hc k hk] at h; cases h
theorem DGR (c : Cht) (h : c.ms.length < 4611686018427387904 /\ c.ns.length < 4611686018427387904) : CTX c := by
 obtain ⟨hm, hn⟩ := h
 rw [DEW]; delta eU rH AFP gY fI gZ gP lF fV iK UW tN Gz yZ B9 Mp VB yW Lo vH zU sI A0 xA wH yM A2 G3 WY J0 A5 C1 H6 Jb vM vD tR WG Hb uS Ji xI tP yN I9 G9; simp only [CC, eq_self, implies_true, forall_const, Nat.sub_zero, Int.toNat_zero]
 refine ⟨λ h1 => ?_, λ h1 => ⟨λ h2 => ?_, λ h2 => ?_⟩⟩
 ·have e : MV c = 3 := by unfold MV; rw [h1]; rfl
  unfold AO; rw [e]; rfl
 ·have e : MV c = 30 := by unfold MV; rw [h1, h2]; rfl
  unfold AO; rw [e]; rfl
 have e : MV c = 0 := by unfold MV; rw [h1, h2]; rfl
 have k0 : ∀ v : Int, v ≠ 0 -> mkC (-1) c.ms = v -> AO c = v := λ v hv hm => by 
  have hv0 := hv
  have hv' : (v != 0) = true := by simpa using hv
  unfold AO; rw [e, hm, hv']; rfl
 refine ⟨⟨⟨0, -1⟩, ⟨rfl, rfl⟩, Nat.zero_le _, e, rfl⟩, λ s ⟨s1, _, s3⟩ => ⟨λ hlt => ?_, λ hge => ?_⟩⟩
 ·have hlt : s.k < c.ms.length := by omega
  have hd := CUW hlt
  rw [hd] at s3
  refine ⟨by omega, λ h3 => ?_, λ h3 => ⟨λ h4 => ?_, λ h4 => ⟨⟨s.k + 1, (gD c.ms s.k).pl⟩, ⟨rfl, (GC (by omega)).symm⟩, ⟨by show s.k + 1 <= _; omega, e, ?_⟩, by show c.ms.length - (s.k + 1) < _; omega⟩⟩⟩
  ·exact k0 30 (by decide) (by rw [<- s3]; unfold mkC; rw [h3]; rfl)
  ·exact k0 9 (by decide) (by rw [<- s3]; unfold mkC; rw [h3, decide_eq_true h4]; rfl)
  ·rw [<- s3]; conv => rhs; unfold mkC
   rw [h3, decide_eq_false h4]; rfl
 ·have hmk : mkC (-1) c.ms = 0 := by rw [<- s3, List.drop_of_length_le (by omega)]; rfl
  refine ⟨by omega, λ h3 => ?_, λ h3 => ⟨⟨0, rfl, Nat.zero_le _, e, hmk, h3, rfl⟩, λ k ⟨k1, _, _, _, k5⟩ => ⟨λ hlt => ?_, λ hge => ?_⟩⟩⟩
  ·unfold AO; rw [e, hmk, h3]; rfl
  ·have hlt : k < c.ns.length := by omega
   have et : (AE k λ i => gD c.ns i) = c.ns.take k := DBM (by omega)
   rw [et]
   refine ⟨by omega, ⟨⟨by omega, by omega, by omega⟩, λ i hi => ?_, by omega⟩, λ h4 => ?_, λ h4 => ⟨k + 1, (GC (by omega)).symm, ⟨by omega, e, hmk, h3, ?_⟩, by omega⟩⟩
   ·rw [<- et, CB _ _ _ hi]; exact ⟨rfl, rfl, rfl, rfl, rfl⟩
   ·have hp : allB (dupP c.ns) c.ns.length = false := CXC hlt (by unfold dupP; rw [h4]; rfl)
    unfold AO; rw [e, hmk, h3, hp]; rfl
   ·show (allB (dupP c.ns) k && dupP c.ns k) = true
    unfold dupP at k5 ⊢; rw [k5, h4]; rfl
  ·obtain rfl : k = c.ns.length := by omega
   unfold AO; rw [e, hmk, h3, k5]; rfl
theorem COM : AP Try.prog CMS (C_Check.spec dC1) := MC C_Check CVP [] [] DAE (λ _ => by kernel_rfl) (λ _ => AD CCS (AD DBV (AD DRI (AD DQP AK)))) DGR (λ _ => MO rfl rfl) _
def hasN (l : List Nt) (j : Int) : Bool := l.any λ x => x.mi == j
def ntOf : List Nt -> Int -> Nt
 | [], _ => default
 | n :: r, j => bif hasN r j then ntOf r j else bif n.mi == j then n else default
structure Dk where
 c : Cht
 st : Int -> Int
 sp : Nat -> Bool
def AU : Value := .agg #[.int .i64 0, .int .i64 0, .int .i64 0, .int .i64 0, .int .i64 0]
def dkB (w : Dk) (m : Nat) : AObj := .abox [.int w.c.p.lo, .int w.c.p.hi, .int w.c.base, .int w.c.scale, .int w.c.off, .d (eMks w.c.ms), .d (rL w.c.ns), .mref m] 40 w.sp
def dkM (w : Dk) : AObj := .imap .i64 AU (hasN w.c.ns) (λ j => eNt (ntOf w.c.ns j)) w.st none
def dkL (w : Dk) : List (Nat × AObj) := [(100, dkB w 101), (101, dkM w)]
def dkK (w : Dk) : List (Nat × HCell) := [(100, .live (dkB w 101)), (101, .live (dkM w))]
def dkN (w : Dk) : List (Nat × HCell) := [(0, .live (dkB w 1)), (1, .live (dkM w))]
def rT (H : Heap) (id : Nat) : Option (Dk × Nat) := match H id with
 | .live (.abox [.d a, .d b, .d c, .d d, .d e, .d (.list _ n f _), .d (.list _ m g _), .mref q] _ sp) => match H q with
  | .live (.imap _ _ _ _ st _) => some (⟨⟨⟨CD a, CD b⟩, CD c, CD d, CD e, AE n λ i => dMk (f i), AE m λ i => dNt (g i)⟩, st, sp⟩, q)
  | _ => none
 | _ => none
def stK (l : List Nt) : Nat -> Int -> Int
 | 0 => λ _ => 0
 | k + 1 => T6 (hasN (l.take k)) (stK l k) (gD l k).mi
def AG (c : Cht) : Dk := ⟨c, stK c.ns c.ns.length, λ _ => false⟩
def C_open : Ctr := { α := Cht, xs := λ c => [.d (VZ c)], val := λ _ => .tup [.bptr 0 0, .int 0], keep := λ c => dkN (AG c), pre := λ c => [(c.ms.length < 4611686018427387904 /\ c.ns.length < 4611686018427387904) /\ AO c = 0] }
def C_openX : Ctr := { α := Cht, xs := λ c => [.d (VZ c)], val := λ c => .tup [.d (.v (.pointer none)), .int (AO c)], keep := λ _ => [], pre := λ c => [(c.ms.length < 4611686018427387904 /\ c.ns.length < 4611686018427387904) /\ AO c ≠ 0] }
def op6 (c : Cht) : Shape := { α := Nat, dflt := 0, T := λ k => ⟨[(5, .bptr 201 0), (18, .d (rL c.ns)), (19, .int c.ns.length), (20, .int k)], [(201, .live (.abox [.int c.p.lo, .int c.p.hi, .int c.base, .int c.scale, .int c.off, .d (eMks c.ms), .d (rL c.ns), .mref 202] 40 λ _ => false)), (202, .live (.imap .i64 AU (hasN (c.ns.take k)) (λ j => eNt (ntOf (c.ns.take k) j)) (stK c.ns k) none))]⟩, inv := λ k => k <= c.ns.length, meas := λ k => c.ns.length - k, first := [(201, 5048), (202, 5016)] }
def CDW (c : Cht) : Ann := { ann 33 [(CMS, C_Check.spec dC1)] with loops := λ id => if id = 6 then some [op6 c] else none }
def DER (c : Cht) : Prop := AZ Try.prog (CDW c) Qx (AN Qx) (C_open.xs c) (AF []) (C_open.val c) (C_open.keep c) [(0, 201), (1, 202)] []
abbrev O4 (c : Cht) : List Mk := AE c.ms.length λ (i : Nat) => gD c.ms i
abbrev AAY (c : Cht) : Nat := (O4 c).length
abbrev BPJ (c : Cht) (i : Nat) : Mk := gD (O4 c) i
abbrev U2 (c : Cht) : List Nt := AE c.ns.length λ (i : Nat) => gD c.ns i
abbrev M9 (c : Cht) : Nat := (U2 c).length
abbrev V8 (c : Cht) (i : Nat) : Nt := gD (U2 c) i
abbrev BWY (c : Cht) (i : Nat) : Span := (V8 c i).t
abbrev BSO (c : Cht) (i : Nat) : Span := (V8 c i).s
abbrev aO (c : Cht) : Prop := c.ns.length = c.ns.length
abbrev Sz (c : Cht) : Prop := ∀ (i : Nat), i < c.ns.length -> (gD c.ns i).mi = (gD c.ns i).mi /\ (gD c.ns i).t.lo = (gD c.ns i).t.lo /\ (gD c.ns i).t.hi = (gD c.ns i).t.hi /\ (gD c.ns i).s.lo = (gD c.ns i).s.lo /\ (gD
 c.ns i).s.hi = (gD c.ns i).s.hi
abbrev AKM (c : Cht) : Prop := (↑c.ns.length : Int) = (↑c.ns.length : Int)
abbrev AYV (c : Cht) : Prop := c.ms.length = c.ms.length
abbrev AHP (c : Cht) : Prop := ∀ (i : Nat), i < c.ms.length -> (gD c.ms i).pl = (gD c.ms i).pl /\ (gD c.ms i).ht = (gD c.ms i).ht
abbrev fQ : Prop := ∀ (i : Nat), i < (40 : Nat) -> false = false
abbrev BEB (a : Nat) (c : Cht) : Prop := (↑a : Int) < (↑c.ns.length : Int)
abbrev TI (n : Int) (c : Cht) (a : Nat) : Bool := decide (n = (gD c.ns a).mi)
abbrev AJR (c : Cht) (a : Nat) : Nat := c.ns.length - a
theorem DJD (c : Cht) : (DER c) = ((c.p.lo = c.p.lo /\ c.p.hi = c.p.hi /\ c.base = c.base /\ c.scale = c.scale /\ c.off = c.off /\ AAY c = c.ms.length /\ (∀ (i : Nat), i < AAY c -> (BPJ c i).pl = (gD c.ms
 i).pl /\ (BPJ c i).ht = (gD c.ms i).ht) /\ M9 c = c.ns.length /\ (∀ (i : Nat), i < M9 c -> (V8 c i).mi = (gD c.ns i).mi /\ (BWY c i).lo = (gD c.ns i).t.lo /\ (BWY c i).hi = (gD c.ns i).t.hi /\
 (BSO c i).lo = (gD c.ns i).s.lo /\ (BSO c i).hi = (gD c.ns i).s.hi) /\ AAY c < (4611686018427387904 : Nat) /\ M9 c < (4611686018427387904 : Nat)) /\ bif AO (Cht.mk c.p c.base c.scale c.off (O4
 c) (U2 c)) != (0 : Int) then False else (∃ (a : Nat), (aO c /\ Sz c /\ AKM c /\ (↑a : Int) = (0 : Int) /\ c.p.lo = c.p.lo /\ c.p.hi = c.p.hi /\ c.base = c.base /\ c.scale = c.scale /\ c.off = c.off /\
 AYV c /\ AHP c /\ aO c /\ Sz c /\ fQ /\ AU = Value.agg #[Value.int IntKind.i64 (0 : Int), Value.int IntKind.i64 (0 : Int), Value.int IntKind.i64 (0 : Int), Value.int IntKind.i64 (0 : Int),
 Value.int IntKind.i64 (0 : Int)] /\ (∀ (n : Int), hasN (List.take a c.ns) n = false) /\ (∀ (n : Int), stK c.ns a n = (0 : Int)) /\ ∀ (n : Int), (ntOf (List.take a c.ns) n).mi = (0 : Int) /\ (ntOf (List.take a c.ns) n).t.lo =
 (0 : Int) /\ (ntOf (List.take a c.ns) n).t.hi = (0 : Int) /\ (ntOf (List.take a c.ns) n).s.lo = (0 : Int) /\ (ntOf (List.take a c.ns) n).s.hi = (0 : Int)) /\ a.le c.ns.length) /\ ∀ (a : Nat), a.le c.ns.length -> bif decide
 (BEB a c) then ((0 : Int) <= (↑a : Int) /\ BEB a c) /\ ∃ (a_2 : Nat), (aO c /\ Sz c /\ AKM c /\ (↑a_2 : Int) = IntKind.i64.wrap ((↑a : Int) + (1 : Int)) /\ c.p.lo = c.p.lo /\ c.p.hi = c.p.hi /\
 c.base = c.base /\ c.scale = c.scale /\ c.off = c.off /\ AYV c /\ AHP c /\ aO c /\ Sz c /\ fQ /\ AU = AU /\ (∀ (n : Int), hasN (List.take a_2 c.ns) n = KJ (hasN (List.take a c.ns)) (gD c.ns
 a).mi n) /\ (∀ (n : Int), stK c.ns a_2 n = T6 (hasN (List.take a c.ns)) (stK c.ns a) (gD c.ns a).mi n) /\ ∀ (n : Int), ((ntOf (List.take a_2 c.ns) n).mi = bif TI n c a then (gD c.ns a).mi else (ntOf (List.take a
 c.ns) n).mi) /\ ((ntOf (List.take a_2 c.ns) n).t.lo = bif TI n c a then (gD c.ns a).t.lo else (ntOf (List.take a c.ns) n).t.lo) /\ ((ntOf (List.take a_2 c.ns) n).t.hi = bif TI n c a then (gD c.ns a).t.hi else
 (ntOf (List.take a c.ns) n).t.hi) /\ ((ntOf (List.take a_2 c.ns) n).s.lo = bif TI n c a then (gD c.ns a).s.lo else (ntOf (List.take a c.ns) n).s.lo) /\ (ntOf (List.take a_2 c.ns) n).s.hi = bif TI n c a then
 (gD c.ns a).s.hi else (ntOf (List.take a c.ns) n).s.hi) /\ a_2.le c.ns.length /\ AJR c a_2 < AJR c a else Int.ofNat (0 : Nat) = Int.ofNat (0 : Nat) /\ (AG c).c.p.lo = c.p.lo /\ (AG c).c.p.hi = c.p.hi /\ (AG
 c).c.base = c.base /\ (AG c).c.scale = c.scale /\ (AG c).c.off = c.off /\ (AG c).c.ms.length = c.ms.length /\ (∀ (i : Nat), i < (AG c).c.ms.length -> (gD (AG c).c.ms i).pl = (gD c.ms i).pl /\ (gD (AG c).c.ms i).ht
 = (gD c.ms i).ht) /\ (AG c).c.ns.length = c.ns.length /\ (∀ (i : Nat), i < (AG c).c.ns.length -> (gD (AG c).c.ns i).mi = (gD c.ns i).mi /\ (gD (AG c).c.ns i).t.lo = (gD c.ns i).t.lo /\ (gD (AG c).c.ns i).t.hi = (gD
 c.ns i).t.hi /\ (gD (AG c).c.ns i).s.lo = (gD c.ns i).s.lo /\ (gD (AG c).c.ns i).s.hi = (gD c.ns i).s.hi) /\ fQ /\ AU = AU /\ (∀ (n : Int), hasN (AG c).c.ns n = hasN (List.take a c.ns) n) /\ (∀ (n : Int), (AG
 c).st n = stK c.ns a n) /\ ∀ (n : Int), (ntOf (AG c).c.ns n).mi = (ntOf (List.take a c.ns) n).mi /\ (ntOf (AG c).c.ns n).t.lo = (ntOf (List.take a c.ns) n).t.lo /\ (ntOf (AG c).c.ns n).t.hi = (ntOf (List.take a c.ns)
 n).t.hi /\ (ntOf (AG c).c.ns n).s.lo = (ntOf (List.take a c.ns) n).s.lo /\ (ntOf (AG c).c.ns n).s.hi = (ntOf (List.take a c.ns) n).s.hi) := by kernel_rfl
def CTW (c : Cht) : Prop := AZ Try.prog (CDW c) Qx (AN Qx) (C_open.xs c) (AF []) (C_openX.val c) [] [] []
abbrev nV (c : Cht) : List Mk := AE c.ms.length λ (i : Nat) => gD c.ms i
abbrev jE (c : Cht) : Nat := (nV c).length
abbrev AFH (c : Cht) (i : Nat) : Mk := gD (nV c) i
abbrev cX (c : Cht) : List Nt := AE c.ns.length λ (i : Nat) => gD c.ns i
abbrev oW (c : Cht) : Nat := (cX c).length
abbrev kD (c : Cht) (i : Nat) : Nt := gD (cX c) i
abbrev AJC (c : Cht) (i : Nat) : Span := (kD c i).t
abbrev BDJ (c : Cht) (i : Nat) : Span := (kD c i).s
abbrev AQN (c : Cht) : Int := AO (Cht.mk c.p c.base c.scale c.off (nV c) (cX c))
abbrev Gw (c : Cht) : Prop := c.ns.length = c.ns.length
abbrev WN (c : Cht) : Prop := ∀ (i : Nat), i < c.ns.length -> (gD c.ns i).mi = (gD c.ns i).mi /\ (gD c.ns i).t.lo = (gD c.ns i).t.lo /\ (gD c.ns i).t.hi = (gD c.ns i).t.hi /\ (gD c.ns i).s.lo = (gD c.ns i).s.lo /\ (gD
 c.ns i).s.hi = (gD c.ns i).s.hi
abbrev C5 (c : Cht) : Prop := (↑c.ns.length : Int) = (↑c.ns.length : Int)
abbrev F9 (c : Cht) : Prop := c.ms.length = c.ms.length
abbrev yF (c : Cht) : Prop := ∀ (i : Nat), i < c.ms.length -> (gD c.ms i).pl = (gD c.ms i).pl /\ (gD c.ms i).ht = (gD c.ms i).ht
abbrev tM : Prop := ∀ (i : Nat), i < 40 -> false = false
abbrev D5 (a : Nat) (c : Cht) : Prop := (↑a : Int) < (↑c.ns.length : Int)
abbrev NQ (n : Int) (c : Cht) (a : Nat) : Bool := decide (n = (gD c.ns a).mi)
abbrev E2 (c : Cht) (a : Nat) : Nat := c.ns.length - a
theorem DAQ (c : Cht) : (CTW c) = ((c.p.lo = c.p.lo /\ c.p.hi = c.p.hi /\ c.base = c.base /\ c.scale = c.scale /\ c.off = c.off /\ jE c = c.ms.length /\ (∀ (i : Nat), i < jE c -> (AFH c i).pl = (gD
 c.ms i).pl /\ (AFH c i).ht = (gD c.ms i).ht) /\ oW c = c.ns.length /\ (∀ (i : Nat), i < oW c -> (kD c i).mi = (gD c.ns i).mi /\ (AJC c i).lo = (gD c.ns i).t.lo /\ (AJC c i).hi = (gD c.ns
 i).t.hi /\ (BDJ c i).lo = (gD c.ns i).s.lo /\ (BDJ c i).hi = (gD c.ns i).s.hi) /\ jE c < 4611686018427387904 /\ oW c < 4611686018427387904) /\ bif AQN c != 0 then Value.pointer none =
 Value.pointer none /\ AO c = AQN c else (∃ (a : Nat), (Gw c /\ WN c /\ C5 c /\ (↑a : Int) = 0 /\ c.p.lo = c.p.lo /\ c.p.hi = c.p.hi /\ c.base = c.base /\ c.scale = c.scale /\ c.off = c.off /\
 F9 c /\ yF c /\ Gw c /\ WN c /\ tM /\ AU = Value.agg #[Value.int IntKind.i64 0, Value.int IntKind.i64 0, Value.int IntKind.i64 0, Value.int IntKind.i64 0, Value.int IntKind.i64 0] /\ (∀
 (n : Int), hasN (List.take a c.ns) n = false) /\ (∀ (n : Int), stK c.ns a n = 0) /\ ∀ (n : Int), (ntOf (List.take a c.ns) n).mi = 0 /\ (ntOf (List.take a c.ns) n).t.lo = 0 /\ (ntOf (List.take a c.ns) n).t.hi = 0 /\ (ntOf
 (List.take a c.ns) n).s.lo = 0 /\ (ntOf (List.take a c.ns) n).s.hi = 0) /\ a.le c.ns.length) /\ ∀ (a : Nat), a.le c.ns.length -> bif decide (D5 a c) then (0 <= (↑a : Int) /\ D5 a c) /\ ∃ (a_2 : Nat), (Gw
 c /\ WN c /\ C5 c /\ (↑a_2 : Int) = IntKind.i64.wrap ((↑a : Int) + 1) /\ c.p.lo = c.p.lo /\ c.p.hi = c.p.hi /\ c.base = c.base /\ c.scale = c.scale /\ c.off = c.off /\ F9 c /\ yF c /\ Gw c /\
 WN c /\ tM /\ AU = AU /\ (∀ (n : Int), hasN (List.take a_2 c.ns) n = KJ (hasN (List.take a c.ns)) (gD c.ns a).mi n) /\ (∀ (n : Int), stK c.ns a_2 n = T6 (hasN (List.take a c.ns)) (stK c.ns a) (gD c.ns
 a).mi n) /\ ∀ (n : Int), ((ntOf (List.take a_2 c.ns) n).mi = bif NQ n c a then (gD c.ns a).mi else (ntOf (List.take a c.ns) n).mi) /\ ((ntOf (List.take a_2 c.ns) n).t.lo = bif NQ n c a then (gD c.ns a).t.lo
 else (ntOf (List.take a c.ns) n).t.lo) /\ ((ntOf (List.take a_2 c.ns) n).t.hi = bif NQ n c a then (gD c.ns a).t.hi else (ntOf (List.take a c.ns) n).t.hi) /\ ((ntOf (List.take a_2 c.ns) n).s.lo = bif NQ n c
 a then (gD c.ns a).s.lo else (ntOf (List.take a c.ns) n).s.lo) /\ (ntOf (List.take a_2 c.ns) n).s.hi = bif NQ n c a then (gD c.ns a).s.hi else (ntOf (List.take a c.ns) n).s.hi) /\ a_2.le c.ns.length /\ E2 c
 a_2 < E2 c a else False) := by kernel_rfl
theorem BO (c : Cht) : Cht.mk c.p c.base c.scale c.off c.ms c.ns = c := rfl
theorem APC (c : Cht) : (AG c).c = c := rfl
theorem oR (l : List Nt) (x : Nt) (j : Int) : hasN (l ++ [x]) j = KJ (hasN l) x.mi j := by
 unfold hasN KJ; rw [List.any_append, Bool.or_comm]
 simp only [List.any_cons, List.any_nil, Bool.or_false]
 congr 1
 rw [Bool.eq_iff_iff, beq_iff_eq, decide_eq_true_eq]; exact eq_comm
theorem AZY (l : List Nt) (x : Nt) (j : Int) : ntOf (l ++ [x]) j = bif decide (j = x.mi) then x else ntOf l j := by
 induction l with
 | nil =>
  simp only [List.nil_append, ntOf, hasN, List.any_nil, cond_false]
  have : (x.mi == j) = decide (j = x.mi) := by rw [Bool.eq_iff_iff, beq_iff_eq, decide_eq_true_eq]; exact eq_comm
  rw [this]
 | cons y l ih =>
  simp only [List.cons_append, ntOf, ih, oR, KJ]
  cases decide (j = x.mi) <;> rfl
theorem DOL (c : Cht) (h : (c.ms.length < 4611686018427387904 /\ c.ns.length < 4611686018427387904) /\ AO c = 0) : DER c := by
 obtain ⟨⟨hm, hn⟩, h0⟩ := h
 rw [DJD]; delta O4 AAY BPJ U2 M9 V8 BWY BSO aO Sz AKM AYV AHP fQ BEB TI AJR; simp only [CC, eq_self, implies_true, forall_const, BO, APC, h0]
 refine ⟨⟨hm, hn⟩, (λ h => by simp at h), λ _ => ⟨⟨0, ⟨rfl, rfl, λ _ => rfl, λ _ => rfl, λ _ => ⟨rfl, rfl, rfl, rfl, rfl⟩⟩, Nat.zero_le _⟩, λ k hk => ⟨λ hlt => ?_, λ hge => ?_⟩⟩⟩
 ·have hlt : k < c.ns.length := by omega
  refine ⟨by omega, k + 1, ⟨(GC (by omega)).symm, λ n => ?_, λ n => rfl, λ n => ?_⟩, by omega, by omega⟩
  ·rw [Ep hlt, oR]
  ·rw [Ep hlt, AZY]
   cases decide (n = (gD c.ns k).mi) <;> exact ⟨rfl, rfl, rfl, rfl, rfl⟩
 ·obtain rfl : k = c.ns.length := by omega
  simp [AG]
theorem P7 : AP Try.prog HG (C_open.spec dC1) := MC C_open CDW [(0, 201), (1, 202)] [] CBN (λ _ => by kernel_rfl) (λ _ => AD COM AK) (λ c h => DOL c h) (λ _ => MO rfl rfl) _
theorem O1 : AP Try.prog HG (C_openX.spec dC1) := MC C_openX CDW [] [] CBN (λ _ => by kernel_rfl) (λ _ => AD COM AK) (λ (c : Cht) h => by
 obtain ⟨⟨hm, hn⟩, h0⟩ : (c.ms.length < 4611686018427387904 /\ c.ns.length < 4611686018427387904) /\ AO c ≠ 0 := h
 have h0' : (AO c != 0) = true := by simpa using h0
 show CTW c; rw [DAQ]; delta nV jE AFH cX oW kD AJC BDJ AQN Gw WN C5 F9 yF tM D5 NQ E2; simp only [CC, eq_self, implies_true, forall_const, BO, h0']
 simp [hm, hn]) (λ _ => MO rfl rfl) _
def RI (m : Int) : Int -> List Int -> Bool
 | _, [] => true
 | a, g :: r => bif IE g (wr (a + 1)) (wr (m - 2)) then RI m g r else false
def stpF (m : Int) : Int -> List Int -> (Nat -> Bool) -> Nat -> Bool
 | _, [], f, j => f j
 | a, g :: r, f, j => bif IE g (wr (a + 1)) (wr (m - 2)) then stpF m g r (λ i => bif decide (i = g.toNat) then true else f i) j else f j
structure DkZ where
 w : Dk
 z : List Int
def lA (a : DkZ) : Dk := ⟨a.w.c, a.w.st, stpF a.w.c.ms.length (-1) a.z a.w.sp⟩
def dDkZ : List AVal -> Heap -> Option (DkZ × List (Nat × Nat) × List Nat)
 | [.bptr id _, y], H => match rT H id, CVW y H with
  | some (w, q), some (l, f) => some (⟨w, l⟩, [(100, id), (101, q)], f)
  | _, _ => none
 | _, _ => none
structure StK where
 k : Nat
 m : Int
 f : Nat -> Bool
 deriving Inhabited
def stp3 (a : DkZ) : Shape := { α := StK, dflt := default, T := λ s => ⟨[(0, .bptr 100 0), (5, .int s.m), (8, .d (CI a.z)), (9, .int a.z.length), (10, .int s.k)], dkK ⟨a.w.c, a.w.st, s.f⟩⟩, inv := λ s => (s.k <= a.z.length /\ -1 <= s.m /\ s.m <= 40) /\ RI a.w.c.ms.length s.m (a.z.drop s.k) = RI a.w.c.ms.length (-1) a.z /\ ∀ j, stpF a.w.c.ms.length s.m (a.z.drop s.k) s.f j = stpF a.w.c.ms.length (-1) a.z a.w.sp j, meas := λ s => a.z.length - s.k }
def C_stop : Ctr := { ro := [101], α := DkZ, xs := λ a => [.bptr 100 0, .d (CI a.z)], L := λ a => dkL a.w, val := λ a => .bool (RI a.w.c.ms.length (-1) a.z), keep := λ a => dkK (lA a), pre := λ a => [a.z.length < 4611686018427387904 /\ a.w.c.ms.length <= 40] }
def CZP (a : DkZ) : Ann := { ann 33 [(n_in, s_in)] with E := [100, 101], loops := λ id => if id = 3 then some [stp3 a] else none }
def DDG (a : DkZ) : Prop := AZ Try.prog (CZP a) CRS (AN CRS) (C_stop.xs a) (AF (C_stop.L a)) (C_stop.val a) (C_stop.keep a) [] []
abbrev BVH (a : DkZ) : Prop := a.z.length = a.z.length
abbrev BNU (a : DkZ) : Prop := ∀ (i : Nat), i < a.z.length -> gD a.z i = gD a.z i
abbrev BZR (a : DkZ) : Prop := (↑a.z.length : Int) = (↑a.z.length : Int)
abbrev BKX (a : DkZ) : Prop := a.w.c.p.lo = a.w.c.p.lo
abbrev BSQ (a : DkZ) : Prop := a.w.c.p.hi = a.w.c.p.hi
abbrev BJX (a : DkZ) : Prop := a.w.c.base = a.w.c.base
abbrev BSV (a : DkZ) : Prop := a.w.c.scale = a.w.c.scale
abbrev BKG (a : DkZ) : Prop := a.w.c.off = a.w.c.off
abbrev BTT (a : DkZ) : Prop := a.w.c.ms.length = a.w.c.ms.length
abbrev BZH (a : DkZ) : Prop := ∀ (i : Nat), i < a.w.c.ms.length -> (gD a.w.c.ms i).pl = (gD a.w.c.ms i).pl /\ (gD a.w.c.ms i).ht = (gD a.w.c.ms i).ht
abbrev AUE (a : DkZ) : Prop := a.w.c.ns.length = a.w.c.ns.length
abbrev eD (a : DkZ) (i : Nat) : Int := (gD a.w.c.ns i).t.lo
abbrev jW (a : DkZ) (i : Nat) : Int := (gD a.w.c.ns i).t.hi
abbrev nN (a : DkZ) (i : Nat) : Int := (gD a.w.c.ns i).s.lo
abbrev lG (a : DkZ) (i : Nat) : Int := (gD a.w.c.ns i).s.hi
abbrev AHL (a : DkZ) : Prop := ∀ (i : Nat), i < a.w.c.ns.length -> (gD a.w.c.ns i).mi = (gD a.w.c.ns i).mi /\ eD a i = eD a i /\ jW a i = jW a i /\ nN a i = nN a i /\ lG
 a i = lG a i
abbrev AWI (a : DkZ) : Prop := AU = AU /\ (∀ (n : Int), hasN a.w.c.ns n = hasN a.w.c.ns n) /\ (∀ (n : Int), a.w.st n = a.w.st n) /\ ∀ (n : Int), (ntOf a.w.c.ns n).mi = (ntOf a.w.c.ns n).mi /\ (ntOf a.w.c.ns n).t.lo =
 (ntOf a.w.c.ns n).t.lo /\ (ntOf a.w.c.ns n).t.hi = (ntOf a.w.c.ns n).t.hi /\ (ntOf a.w.c.ns n).s.lo = (ntOf a.w.c.ns n).s.lo /\ (ntOf a.w.c.ns n).s.hi = (ntOf a.w.c.ns n).s.hi
abbrev nT (a : DkZ) : Bool := RI (↑a.w.c.ms.length : Int) (-1) a.z
abbrev gO (a : StK) (a1 : DkZ) : Prop := (a.k <= a1.z.length /\ -1 <= a.m /\ a.m <= 40) /\ RI (↑a1.w.c.ms.length : Int) a.m (List.drop a.k a1.z) = nT a1 /\ ∀ (j : Nat), stpF (↑a1.w.c.ms.length : Int) a.m
 (List.drop a.k a1.z) a.f j = stpF (↑a1.w.c.ms.length : Int) (-1) a1.z a1.w.sp j
abbrev AZF (a : StK) (a1 : DkZ) : Prop := (↑a.k : Int) < (↑a1.z.length : Int)
abbrev BCC (a : DkZ) (a1 : StK) : Prop := (lA a).c.p.lo = a.w.c.p.lo /\ (lA a).c.p.hi = a.w.c.p.hi /\ (lA a).c.base = a.w.c.base /\ (lA a).c.scale = a.w.c.scale /\ (lA a).c.off = a.w.c.off /\ (lA a).c.ms.length =
 a.w.c.ms.length /\ (∀ (i : Nat), i < (lA a).c.ms.length -> (gD (lA a).c.ms i).pl = (gD a.w.c.ms i).pl /\ (gD (lA a).c.ms i).ht = (gD a.w.c.ms i).ht) /\ (lA a).c.ns.length = a.w.c.ns.length /\ (∀ (i : Nat), i < (lA
 a).c.ns.length -> (gD (lA a).c.ns i).mi = (gD a.w.c.ns i).mi /\ (gD (lA a).c.ns i).t.lo = eD a i /\ (gD (lA a).c.ns i).t.hi = jW a i /\ (gD (lA a).c.ns i).s.lo = nN a i /\ (gD (lA a).c.ns i).s.hi =
 lG a i) /\ (∀ (i : Nat), i < 40 -> (lA a).sp i = a1.f i) /\ AU = AU /\ (∀ (n : Int), hasN (lA a).c.ns n = hasN a.w.c.ns n) /\ (∀ (n : Int), (lA a).st n = a.w.st n) /\ ∀ (n : Int), (ntOf (lA a).c.ns n).mi = (ntOf
 a.w.c.ns n).mi /\ (ntOf (lA a).c.ns n).t.lo = (ntOf a.w.c.ns n).t.lo /\ (ntOf (lA a).c.ns n).t.hi = (ntOf a.w.c.ns n).t.hi /\ (ntOf (lA a).c.ns n).s.lo = (ntOf a.w.c.ns n).s.lo /\ (ntOf (lA a).c.ns n).s.hi = (ntOf
 a.w.c.ns n).s.hi
abbrev ATL (a : DkZ) (a1 : StK) : Nat := a.z.length - a1.k
theorem DIS (a : DkZ) : (DDG a) = ((∃ (a_1 : StK), (a_1.m = -1 /\ BVH a /\ BNU a /\ BZR a /\ (↑a_1.k : Int) = 0 /\ BKX a /\ BSQ a /\ BJX a /\ BSV a /\ BKG a /\ BTT a /\ BZH a
 /\ AUE a /\ AHL a /\ (∀ (i : Nat), i < 40 -> a_1.f i = a.w.sp i) /\ AWI a) /\ gO a_1 a) /\ ∀ (a_1 : StK), gO a_1 a -> bif decide (AZF a_1 a) then (0 <= (↑a_1.k : Int) /\ AZF a_1 a) /\ bif
 !IE (gD a.z a_1.k) (IntKind.i64.wrap (a_1.m + 1)) (IntKind.i64.wrap ((↑a.w.c.ms.length : Int) - 2)) then nT a = false /\ BCC a a_1 else ((0 <= gD a.z a_1.k /\ gD a.z a_1.k < (↑40 : Int)) /\ (gD a.z
 a_1.k).toNat.succ.le 40) /\ ∃ (a_3 : StK), (a_3.m = gD a.z a_1.k /\ BVH a /\ BNU a /\ BZR a /\ (↑a_3.k : Int) = IntKind.i64.wrap ((↑a_1.k : Int) + 1) /\ BKX a /\ BSQ a /\ BJX a /\ BSV a /\
 BKG a /\ BTT a /\ BZH a /\ AUE a /\ AHL a /\ (∀ (i : Nat), i < 40 -> a_3.f i = bif decide (i = (gD a.z a_1.k).toNat) then true else a_1.f i) /\ AWI a) /\ gO a_3 a /\ ATL a a_3 <
 ATL a a_1 else nT a = true /\ BCC a a_1) := by kernel_rfl
theorem CPD (a : DkZ) : (lA a).c = a.w.c := rfl
theorem DOR (a : DkZ) (h : a.z.length < 4611686018427387904 /\ a.w.c.ms.length <= 40) : DDG a := by
 obtain ⟨hz, hm⟩ := h
 rw [DIS]; delta BVH BNU BZR BKX BSQ BJX BSV BKG BTT BZH AUE eD jW nN lG AHL AWI nT gO AZF BCC ATL; simp only [CC, eq_self, implies_true, forall_const, CPD]
 have e2 : IntKind.i64.wrap ((a.w.c.ms.length : Int) - 2) = (a.w.c.ms.length : Int) - 2 := EM (by omega) (by omega)
 refine ⟨⟨⟨0, -1, a.w.sp⟩, ⟨rfl, rfl, λ _ _ => rfl⟩, ⟨Nat.zero_le _, by show (-1 : Int) <= -1; omega, by show (-1 : Int) <= 40; omega⟩, rfl, λ _ => rfl⟩, λ s ⟨⟨s1, s2, s3⟩, s4, s5⟩ => ⟨λ hlt => ?_, λ hge => ?_⟩⟩
 ·have hlt : s.k < a.z.length := by omega
  have hd := CUW hlt
  rw [hd] at s4 s5
  have e1 : IntKind.i64.wrap (s.m + 1) = s.m + 1 := EM (by omega) (by omega)
  refine ⟨by omega, λ h1 => ⟨?_, λ j _ => ?_, λ _ => rfl⟩, λ h1 => ?_⟩
  ·rw [<- s4]; unfold RI wr; rw [h1]; rfl
  ·show stpF _ _ _ _ j = _
   rw [<- s5 j]; unfold stpF wr; rw [h1]; rfl
  ·have h2 := h1
   rw [e1, e2] at h2
   simp only [IE, Bool.and_eq_true, decide_eq_true_eq] at h2
   refine ⟨by omega, ⟨s.k + 1, gD a.z s.k, λ i => bif decide (i = (gD a.z s.k).toNat) then true else s.f i⟩, ⟨rfl, (GC (by omega)).symm, λ _ _ => rfl⟩, ⟨⟨by show s.k + 1 <= _; omega, by show -1 <= gD a.z s.k; omega, by show gD a.z s.k <= 40; omega⟩, ?_, λ j => ?_⟩, by show a.z.length - (s.k + 1) < _; omega⟩
   ·rw [<- s4]; conv => rhs; unfold RI wr
    rw [h1]; rfl
   ·rw [<- s5 j]; conv => rhs; unfold stpF wr
    rw [h1]; rfl
 ·rw [List.drop_of_length_le (by omega)] at s4 s5
  exact ⟨s4.symm, λ j _ => (s5 j).symm, λ _ => rfl⟩
theorem CKZ : AP Try.prog BRU (C_stop.spec dDkZ) := MC C_stop CZP [] [] DIX (λ _ => by kernel_rfl) (λ _ => AD CCS AK) (λ a h => DOR a h) (λ _ => MO rfl rfl) _
structure CZ where
 c : Cht
 z : List Int
def dCZ : List AVal -> Heap -> Option (CZ × List (Nat × Nat) × List Nat)
 | [x, y], H => match COX x H, CVW y H with
  | some (c, f), some (l, e) => some (⟨c, l⟩, [], f ++ e)
  | _, _ => none
 | _, _ => none
def xCZ (a : CZ) : List AVal := [.d (VZ a.c), .d (CI a.z)]
def AI (a : CZ) : Dk := lA ⟨AG a.c, a.z⟩
def okZ (a : CZ) : Bool := RI a.c.ms.length (-1) a.z
def Fd (a : CZ) : Int := bif AO a.c == 0 then bif okZ a then 0 else 2 else AO a.c
def C_beg : Ctr := { α := CZ, xs := xCZ, val := λ a => .tup [.bptr 0 0, .int (Fd a)], keep := λ a => dkN (AI a), pre := λ a => [(a.c.ms.length < 4611686018427387904 /\ a.c.ns.length < 4611686018427387904 /\ a.z.length < 4611686018427387904) /\ AO a.c = 0] }
def C_begX : Ctr := { α := CZ, xs := xCZ, val := λ a => .tup [.d (.v (.pointer none)), .int (Fd a)], keep := λ _ => [], pre := λ a => [(a.c.ms.length < 4611686018427387904 /\ a.c.ns.length < 4611686018427387904 /\ a.z.length < 4611686018427387904) /\ AO a.c ≠ 0] }
def DMX : Ann := { ann 23 [(HG, C_open.spec dC1), (BRU, C_stop.spec dDkZ)] with md := λ id => if id = 2 then some λ k => if k = 3 ∨ k = 4 ∨ k = 5 ∨ k = 6 then 8 else 0 else none }
def DCX : Ann := { ann 23 [(HG, C_openX.spec dC1)] with md := λ id => if id = 2 then some λ k => if k = 3 ∨ k = 4 ∨ k = 5 ∨ k = 6 then 9 else 0 else none }
def DML (a : CZ) : Prop := AZ Try.prog DMX ADA (AN ADA) (xCZ a) (AF []) (C_beg.val a) (C_beg.keep a) [(0, 2016), (1, 2017)] []
abbrev BHL (a : CZ) : List Mk := AE a.c.ms.length λ (i : Nat) => gD a.c.ms i
abbrev BGH (a : CZ) : Nat := (BHL a).length
abbrev CFR (a : CZ) (i : Nat) : Mk := gD (BHL a) i
abbrev BJD (a : CZ) : List Nt := AE a.c.ns.length λ (i : Nat) => gD a.c.ns i
abbrev BIN (a : CZ) : Nat := (BJD a).length
abbrev BIM (a : CZ) (i : Nat) : Nt := gD (BJD a) i
abbrev CIV (a : CZ) (i : Nat) : Span := (BIM a i).t
abbrev CEQ (a : CZ) (i : Nat) : Span := (BIM a i).s
abbrev CJF (a : CZ) : Cht := Cht.mk a.c.p a.c.base a.c.scale a.c.off (BHL a) (BJD a)
abbrev S5 (a : CZ) : List Int := AE a.z.length λ (i : Nat) => gD a.z i
abbrev Y1 (a : CZ) : Nat := (S5 a).length
abbrev Ud (a : CZ) : Dk := AG (CJF a)
abbrev WD (a : CZ) : Cht := (Ud a).c
abbrev Q4 (a : CZ) : Span := (WD a).p
abbrev BLL (a : CZ) : Int := (Q4 a).lo
abbrev BVA (a : CZ) : Int := (Q4 a).hi
abbrev AEQ (a : CZ) : Int := (WD a).base
abbrev Q9 (a : CZ) : Int := (WD a).scale
abbrev ACE (a : CZ) : Int := (WD a).off
abbrev BYC (a : CZ) : List Mk := (WD a).ms
abbrev BLA (a : CZ) : Nat := (BYC a).length
abbrev P9 (a : CZ) (i : Nat) : Mk := gD (BYC a) i
abbrev AEE (a : CZ) : List Mk := AE (BLA a) λ (i : Nat) => P9 a i
abbrev Zb (a : CZ) : Nat := (AEE a).length
abbrev BTL (a : CZ) (i : Nat) : Mk := gD (AEE a) i
abbrev Vq (a : CZ) : List Nt := (WD a).ns
abbrev BSW (a : CZ) : Nat := (Vq a).length
abbrev aQ (a : CZ) (i : Nat) : Nt := gD (Vq a) i
abbrev Ev (a : CZ) : List Nt := AE (BSW a) λ (i : Nat) => aQ a i
abbrev BSK (a : CZ) : Nat := (Ev a).length
abbrev AEI (a : CZ) (i : Nat) : Nt := gD (Ev a) i
abbrev BVJ (a : CZ) (i : Nat) : Span := (AEI a i).t
abbrev BPX (a : CZ) (i : Nat) : Span := (aQ a i).t
abbrev BSG (a : CZ) (i : Nat) : Span := (AEI a i).s
abbrev CAO (a : CZ) (i : Nat) : Span := (aQ a i).s
abbrev ABV (a : CZ) (n : Int) : Bool := hasN (Vq a) n
abbrev Oz (a : CZ) (n : Int) : Int := (Ud a).st n
abbrev ABM (a : CZ) (n : Int) : Nt := ntOf (Ev a) n
abbrev M3 (a : CZ) (n : Int) : Nt := ntOf (Vq a) n
abbrev V5 (a : CZ) (n : Int) : Int := (M3 a n).mi
abbrev BTJ (a : CZ) (n : Int) : Span := (ABM a n).t
abbrev BPK (a : CZ) (n : Int) : Span := (M3 a n).t
abbrev ADW (a : CZ) (n : Int) : Int := (BPK a n).lo
abbrev L1 (a : CZ) (n : Int) : Int := (BPK a n).hi
abbrev BQU (a : CZ) (n : Int) : Span := (ABM a n).s
abbrev BXM (a : CZ) (n : Int) : Span := (M3 a n).s
abbrev M7 (a : CZ) (n : Int) : Int := (BXM a n).lo
abbrev ADN (a : CZ) (n : Int) : Int := (BXM a n).hi
abbrev ADJ (a : CZ) : Dk := lA (DkZ.mk (Dk.mk (Cht.mk (Q4 a) (AEQ a) (Q9 a) (ACE a) (AEE a) (Ev a)) (Ud a).st (Ud a).sp) (S5 a))
abbrev UZ (a : CZ) : Cht := (ADJ a).c
abbrev Uz (a : CZ) : List Nt := (UZ a).ns
abbrev N6 (a : CZ) (n : Int) : Nt := ntOf (Uz a) n
abbrev BOI (a : CZ) (n : Int) : Span := (N6 a n).t
abbrev BXI (a : CZ) (n : Int) : Span := (N6 a n).s
abbrev BXC (a : CZ) : Span := (UZ a).p
abbrev BVF (a : CZ) : List Mk := (UZ a).ms
abbrev BPF (a : CZ) (i : Nat) : Mk := gD (BVF a) i
abbrev K9 (a : CZ) (i : Nat) : Nt := gD (Uz a) i
abbrev BOZ (a : CZ) (i : Nat) : Span := (K9 a i).t
abbrev BKN (a : CZ) (i : Nat) : Span := (K9 a i).s
abbrev BNA (a : CZ) : Prop := (AI a).c.p.lo = (BXC a).lo /\ (AI a).c.p.hi = (BXC a).hi /\ (AI a).c.base = (UZ a).base /\ (AI a).c.scale = (UZ a).scale /\ (AI a).c.off = (UZ a).off /\
 (AI a).c.ms.length = (BVF a).length /\ (∀ (i : Nat), i < (AI a).c.ms.length -> (gD (AI a).c.ms i).pl = (BPF a i).pl /\ (gD (AI a).c.ms i).ht = (BPF a i).ht) /\ (AI a).c.ns.length = (Uz
 a).length /\ (∀ (i : Nat), i < (AI a).c.ns.length -> (gD (AI a).c.ns i).mi = (K9 a i).mi /\ (gD (AI a).c.ns i).t.lo = (BOZ a i).lo /\ (gD (AI a).c.ns i).t.hi = (BOZ a i).hi /\ (gD (AI a).c.ns i).s.lo
 = (BKN a i).lo /\ (gD (AI a).c.ns i).s.hi = (BKN a i).hi) /\ (∀ (i : Nat), i < 40 -> (AI a).sp i = (ADJ a).sp i) /\ AU = AU /\ (∀ (n : Int), hasN (AI a).c.ns n = ABV a n) /\ (∀ (n : Int), (AI
 a).st n = Oz a n) /\ ∀ (n : Int), (ntOf (AI a).c.ns n).mi = V5 a n /\ (ntOf (AI a).c.ns n).t.lo = ADW a n /\ (ntOf (AI a).c.ns n).t.hi = L1 a n /\ (ntOf (AI a).c.ns n).s.lo = M7 a n /\
 (ntOf (AI a).c.ns n).s.hi = ADN a n
theorem DOA (a : CZ) : (DML a) = ((a.c.p.lo = a.c.p.lo /\ a.c.p.hi = a.c.p.hi /\ a.c.base = a.c.base /\ a.c.scale = a.c.scale /\ a.c.off = a.c.off /\ BGH a = a.c.ms.length /\ (∀ (i : Nat), i < BGH a -> (CFR a
 i).pl = (gD a.c.ms i).pl /\ (CFR a i).ht = (gD a.c.ms i).ht) /\ BIN a = a.c.ns.length /\ (∀ (i : Nat), i < BIN a -> (BIM a i).mi = (gD a.c.ns i).mi /\ (CIV a i).lo = (gD a.c.ns i).t.lo /\ (CIV a i).hi =
 (gD a.c.ns i).t.hi /\ (CEQ a i).lo = (gD a.c.ns i).s.lo /\ (CEQ a i).hi = (gD a.c.ns i).s.hi) /\ (BGH a < 4611686018427387904 /\ BIN a < 4611686018427387904) /\ AO (CJF a) = 0) /\ true = true /\ true =
 true /\ true = true /\ (Y1 a = a.z.length /\ (∀ (i : Nat), i < Y1 a -> gD (S5 a) i = gD a.z i) /\ BLL a = BLL a /\ BVA a = BVA a /\ AEQ a = AEQ a /\ Q9 a = Q9 a /\
 ACE a = ACE a /\ Zb a = BLA a /\ (∀ (i : Nat), i < Zb a -> (BTL a i).pl = (P9 a i).pl /\ (BTL a i).ht = (P9 a i).ht) /\ BSK a = BSW a /\ (∀ (i : Nat), i < BSK a ->
 (AEI a i).mi = (aQ a i).mi /\ (BVJ a i).lo = (BPX a i).lo /\ (BVJ a i).hi = (BPX a i).hi /\ (BSG a i).lo = (CAO a i).lo /\ (BSG a i).hi = (CAO a i).hi) /\ (∀ (i : Nat), i <
 40 -> false = false) /\ AU = AU /\ (∀ (n : Int), hasN (Ev a) n = ABV a n) /\ (∀ (n : Int), Oz a n = Oz a n) /\ (∀ (n : Int), (ABM a n).mi = V5 a n /\ (BTJ a n).lo = ADW a n /\
 (BTJ a n).hi = L1 a n /\ (BQU a n).lo = M7 a n /\ (BQU a n).hi = ADN a n) /\ AU = AU /\ (∀ (n : Int), ABV a n = hasN (Uz a) n) /\ (∀ (n : Int), Oz a n = (ADJ a).st n) /\
 (∀ (n : Int), V5 a n = (N6 a n).mi /\ ADW a n = (BOI a n).lo /\ L1 a n = (BOI a n).hi /\ M7 a n = (BXI a n).lo /\ ADN a n = (BXI a n).hi) /\ Y1 a <
 4611686018427387904 /\ Zb a <= 40) /\ true = true /\ bif bif 0 == 0 then !RI (↑(Zb a) : Int) (-1) (S5 a) else false then Fd a = 2 /\ BNA a else Fd a = 0 /\ BNA a) := by kernel_rfl
def DCF (a : CZ) : Prop := AZ Try.prog DCX ADA (AN ADA) (xCZ a) (AF []) (C_begX.val a) [] [] []
theorem DHS (a : CZ) : (DCF a) = ((a.c.p.lo = a.c.p.lo /\ a.c.p.hi = a.c.p.hi /\ a.c.base = a.c.base /\ a.c.scale = a.c.scale /\ a.c.off = a.c.off /\ (AE a.c.ms.length λ (i : Nat) => gD a.c.ms i).length =
 a.c.ms.length /\ (∀ (i : Nat), i < (AE a.c.ms.length λ (i : Nat) => gD a.c.ms i).length -> (gD (AE a.c.ms.length λ (i : Nat) => gD a.c.ms i) i).pl = (gD a.c.ms i).pl /\ (gD (AE a.c.ms.length λ (i : Nat) => gD
 a.c.ms i) i).ht = (gD a.c.ms i).ht) /\ (AE a.c.ns.length λ (i : Nat) => gD a.c.ns i).length = a.c.ns.length /\ (∀ (i : Nat), i < (AE a.c.ns.length λ (i : Nat) => gD a.c.ns i).length -> (gD (AE a.c.ns.length λ (i :
 Nat) => gD a.c.ns i) i).mi = (gD a.c.ns i).mi /\ (gD (AE a.c.ns.length λ (i : Nat) => gD a.c.ns i) i).t.lo = (gD a.c.ns i).t.lo /\ (gD (AE a.c.ns.length λ (i : Nat) => gD a.c.ns i) i).t.hi = (gD a.c.ns i).t.hi /\ (gD
 (AE a.c.ns.length λ (i : Nat) => gD a.c.ns i) i).s.lo = (gD a.c.ns i).s.lo /\ (gD (AE a.c.ns.length λ (i : Nat) => gD a.c.ns i) i).s.hi = (gD a.c.ns i).s.hi) /\ ((AE a.c.ms.length λ (i : Nat) => gD a.c.ms
 i).length < 4611686018427387904 /\ (AE a.c.ns.length λ (i : Nat) => gD a.c.ns i).length < 4611686018427387904) /\ AO (Cht.mk a.c.p a.c.base a.c.scale a.c.off (AE a.c.ms.length λ (i : Nat) => gD a.c.ms i) (AE
 a.c.ns.length λ (i : Nat) => gD a.c.ns i)) ≠ 0) /\ (AO (Cht.mk a.c.p a.c.base a.c.scale a.c.off (AE a.c.ms.length λ (i : Nat) => gD a.c.ms i) (AE a.c.ns.length λ (i : Nat) => gD a.c.ns i)) == 0) = false /\
 (AO (Cht.mk a.c.p a.c.base a.c.scale a.c.off (AE a.c.ms.length λ (i : Nat) => gD a.c.ms i) (AE a.c.ns.length λ (i : Nat) => gD a.c.ns i)) == 0) = false /\ (AO (Cht.mk a.c.p a.c.base a.c.scale a.c.off (AE
 a.c.ms.length λ (i : Nat) => gD a.c.ms i) (AE a.c.ns.length λ (i : Nat) => gD a.c.ns i)) == 0) = false /\ (AO (Cht.mk a.c.p a.c.base a.c.scale a.c.off (AE a.c.ms.length λ (i : Nat) => gD a.c.ms i) (AE
 a.c.ns.length λ (i : Nat) => gD a.c.ns i)) == 0) = false /\ ((AO (Cht.mk a.c.p a.c.base a.c.scale a.c.off (AE a.c.ms.length λ (i : Nat) => gD a.c.ms i) (AE a.c.ns.length λ (i : Nat) => gD a.c.ns i)) == 0) =
 true -> false = true) /\ bif bif AO (Cht.mk a.c.p a.c.base a.c.scale a.c.off (AE a.c.ms.length λ (i : Nat) => gD a.c.ms i) (AE a.c.ns.length λ (i : Nat) => gD a.c.ns i)) == 0 then false else false then
 Value.pointer none = Value.pointer none /\ Fd a = 2 else Value.pointer none = Value.pointer none /\ Fd a = AO (Cht.mk a.c.p a.c.base a.c.scale a.c.off (AE a.c.ms.length λ (i : Nat) => gD a.c.ms i) (AE
 a.c.ns.length λ (i : Nat) => gD a.c.ns i))) := by kernel_rfl
theorem Rk (a : CZ) : (AI a).c = a.c := rfl
theorem Bf (w : Dk) : Dk.mk w.c w.st w.sp = w := rfl
theorem EW {c : Cht} (h : AO c = 0) : MV c = 0 /\ (1 <= c.ms.length /\ c.ms.length <= 40) /\ c.ns.length <= 20 := by
 have h1 : MV c = 0 := by
  unfold AO at h
  cases hc : (MV c != 0) with
  | false => simpa using hc
  | true => rw [hc] at h; simpa using h
 refine ⟨h1, ?_⟩
 unfold MV at h1
 cases hc : (bif !IE c.ms.length 1 40 then true else decide ((c.ns.length : Int) > 20)) with
 | true => rw [hc] at h1; cases h1
 | false =>
  cases hb : IE c.ms.length 1 40 with
  | false => rw [hb] at hc; cases hc
  | true =>
   rw [hb] at hc
   have hc : decide ((c.ns.length : Int) > 20) = false := hc
   simp only [IE, Bool.and_eq_true, decide_eq_true_eq, decide_eq_false_iff_not] at hb hc
   omega
theorem DSC (a : CZ) (h : (a.c.ms.length < 4611686018427387904 /\ a.c.ns.length < 4611686018427387904 /\ a.z.length < 4611686018427387904) /\ AO a.c = 0) : DML a := by
 obtain ⟨⟨hm, hn, hz⟩, h0⟩ := h
 have hl := EW h0
 rw [DOA]; delta BHL BGH CFR BJD BIN BIM CIV CEQ CJF S5 Y1 Ud WD Q4 BLL BVA AEQ Q9 ACE BYC BLA P9 AEE Zb BTL Vq BSW aQ Ev BSK AEI BVJ BPX BSG CAO ABV Oz ABM M3 V5 BTJ BPK ADW L1 BQU BXM M7 ADN ADJ UZ Uz N6 BOI BXI BXC BVF BPF K9 BOZ BKN BNA; simp only [CC, eq_self, implies_true, forall_const, BO, APC, Bf, CPD, Rk]
 have e : Fd a = bif okZ a then 0 else 2 := by unfold Fd; rw [h0]; rfl
 have e2 : RI a.c.ms.length (-1) a.z = okZ a := rfl
 have e3 : lA ⟨AG a.c, a.z⟩ = AI a := rfl
 simp only [e, e2, e3, Rk]
 have e4 : ∀ n, (AG a.c).st n = (AI a).st n := λ _ => rfl
 cases okZ a <;> simp [hm, hn, hz, h0, hl.2.1.2, e4] <;> exact ⟨λ _ => rfl, λ _ _ => rfl⟩
theorem DEF : AP Try.prog ADU (C_beg.spec dCZ) := MC C_beg (λ _ => DMX) [(0, 2016), (1, 2017)] [] CNK (λ _ => by kernel_rfl) (λ _ => AD P7 (AD CKZ AK)) (λ a h => DSC a h) (λ _ => MO rfl rfl) _
theorem DGX : AP Try.prog ADU (C_begX.spec dCZ) := MC C_begX (λ _ => DCX) [] [] CNK (λ _ => by kernel_rfl) (λ _ => AD O1 AK) (λ (a : CZ) h => by
 obtain ⟨⟨hm, hn, hz⟩, h0⟩ : (a.c.ms.length < 4611686018427387904 /\ a.c.ns.length < 4611686018427387904 /\ a.z.length < 4611686018427387904) /\ AO a.c ≠ 0 := h
 have h0' : (AO a.c == 0) = false := by simpa using h0
 have e : Fd a = AO a.c := by unfold Fd; rw [h0']; rfl
 show DCF a; rw [DHS]; simp only [CC, eq_self, implies_true, forall_const, BO, h0', e]
 simp [hm, hn, h0]) (λ _ => MO rfl rfl) _
end Go.Bal
