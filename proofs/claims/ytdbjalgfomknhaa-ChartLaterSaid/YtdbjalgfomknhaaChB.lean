/- Package chart: which charts are right; a chart at work. -/
import Derived.Test.YtdbjalgfomknhaaChE
set_option linter.unusedVariables false
set_option linter.unusedSimpArgs false
namespace Go.Bal
open Go Go.Sym Go.Proofs
def mkC : Int -> List Mk -> Int
 | _, [] => 0
 | a, m :: r => bif (bif !GT m.pl 0 10000 then true else !GT m.ht 0 1000) then 30 else bif decide (m.pl <= a) then 9 else mkC m.pl r
def dupP (l : List Nt) (i : Nat) : Bool := !(l.take i).any λ x => x.mi == (gD l i).mi
def KZ (c : Cht) : Int := bif (bif !GT c.ms.length 1 40 then true else decide ((c.ns.length : Int) > 20)) then 3 else bif (bif (bif (bif !IH c.p 1 600 then true else !GT c.base (-1000000) 1000000) then true else !GT c.scale 0 1000) then true else !GT c.off 0 1000) then 30 else 0
def AJ (c : Cht) : Int := bif KZ c != 0 then KZ c else bif mkC (-1) c.ms != 0 then mkC (-1) c.ms else bif !c.ns.all (λ n => BW n c.ms.length) then 30 else bif xR (dupP c.ns) c.ns.length then 0 else 10
def dC1 : List AVal -> Heap -> Option (Cht × List (Nat × Nat) × List Nat)
 | [y], H => match BVO y H with
  | some (l, f) => some (l, [], f)
  | none => none
 | _, _ => none
def C_Check : Ctr := { α := Cht, xs := λ c => [.d (YV c)], L := λ _ => [], val := λ c => .int (AJ c), keep := λ _ => [], pre := λ c => [c.ms.length < 4611686018427387904 /\ c.ns.length < 4611686018427387904] }
def ck7 (c : Cht) : Shape := { α := NI, dflt := default, T := λ s => ⟨[(1, .bptr 201 0), (3, .int s.m), (44, .d (eMks c.ms)), (45, .int c.ms.length), (46, .int s.k)], [(201, .live (chB c))]⟩, inv := λ s => s.k <= c.ms.length /\ KZ c = 0 /\ mkC s.m (c.ms.drop s.k) = mkC (-1) c.ms, meas := λ s => c.ms.length - s.k, first := [(201, 1000)] }
def ck18 (c : Cht) : Shape := { α := Nat, dflt := 0, T := λ k => ⟨[(1, .bptr 201 0), (75, .d (yY c.ns)), (76, .int c.ns.length), (77, .int k)], [(201, .live (chB c))]⟩, inv := λ k => k <= c.ns.length /\ KZ c = 0 /\ mkC (-1) c.ms = 0 /\ c.ns.all (λ n => BW n c.ms.length) = true /\ xR (dupP c.ns) k = true, meas := λ k => c.ns.length - k }
def CBE (c : Cht) : Ann := { ann 89 [(n_in, s_in), (Bq, CCX), (n_eN, C4Nr.spec d4Nr), (BVN, C3Nc.spec d3Nc)] with loops := λ id => if id = 7 then some [ck7 c] else if id = 18 then some [ck18 c] else none }
def CCH (c : Cht) : Prop := AW Try.prog (CBE c) BPL (AK BPL) (C_Check.xs c) (AF []) (C_Check.val c) [] [] []
abbrev dB (c : Cht) : Prop := c.ms.length = c.ms.length
abbrev Zu (c : Cht) : Prop := ∀ (i : Nat), i < c.ms.length -> (gD c.ms i).pl = (gD c.ms i).pl /\ (gD c.ms i).ht = (gD c.ms i).ht
abbrev ADK (c : Cht) : Prop := (↑c.ms.length : Int) = (↑c.ms.length : Int)
abbrev gF (c : Cht) : Prop := c.ns.length = c.ns.length
abbrev aG (c : Cht) (i : Nat) : Prop := (gD c.ns i).mi = (gD c.ns i).mi
abbrev Yq (c : Cht) (i : Nat) : Prop := (gD c.ns i).t.lo = (gD c.ns i).t.lo
abbrev gJ (c : Cht) (i : Nat) : Prop := (gD c.ns i).t.hi = (gD c.ns i).t.hi
abbrev cZ (c : Cht) (i : Nat) : Prop := (gD c.ns i).s.lo = (gD c.ns i).s.lo
abbrev bS (c : Cht) (i : Nat) : Prop := (gD c.ns i).s.hi = (gD c.ns i).s.hi
abbrev eJ (c : Cht) : Prop := ∀ (i : Nat), i < c.ns.length -> aG c i /\ Yq c i /\ gJ c i /\ cZ c i /\ bS c i
abbrev SE (c : Cht) : Prop := c.p.lo = c.p.lo /\ c.p.hi = c.p.hi /\ c.base = c.base /\ c.scale = c.scale /\ c.off = c.off /\ dB c /\ Zu c /\ gF c /\ eJ c
abbrev sP (c : Cht) : Int := mkC (-1 : Int) c.ms
abbrev Fw (a : NI) (c : Cht) : Prop := a.k <= c.ms.length /\ KZ c = (0 : Int) /\ mkC a.m (List.drop a.k c.ms) = sP c
abbrev kU (a : NI) (c : Cht) : Prop := (↑a.k : Int) < (↑c.ms.length : Int)
abbrev jB (c : Cht) (a : NI) : Nat := c.ms.length - a.k
abbrev Fd (c : Cht) : List Nt := AE c.ns.length λ (i : Nat) => gD c.ns i
abbrev RW (c : Cht) : Nat := (Fd c).length
abbrev jS (c : Cht) : Prop := RW c = c.ns.length
abbrev Fj (c : Cht) (i : Nat) : Nt := gD (Fd c) i
abbrev jL (c : Cht) (i : Nat) : Int := (Fj c i).mi
abbrev jF (c : Cht) (i : Nat) : Span := (Fj c i).t
abbrev rA (c : Cht) (i : Nat) : Int := (jF c i).lo
abbrev iN (c : Cht) (i : Nat) : Int := (jF c i).hi
abbrev jK (c : Cht) (i : Nat) : Span := (Fj c i).s
abbrev oV (c : Cht) (i : Nat) : Int := (jK c i).lo
abbrev pO (c : Cht) (i : Nat) : Int := (jK c i).hi
abbrev lB (c : Cht) : Prop := ∀ (i : Nat), i < RW c -> jL c i = (gD c.ns i).mi /\ rA c i = (gD c.ns i).t.lo /\ iN c i = (gD c.ns i).t.hi /\ oV c i = (gD c.ns i).s.lo /\
 pO c i = (gD c.ns i).s.hi
abbrev lQ (c : Cht) : List Mk := AE c.ms.length λ (i : Nat) => gD c.ms i
abbrev RO (c : Cht) : Nat := (lQ c).length
abbrev sE (c : Cht) (i : Nat) : Mk := gD (lQ c) i
abbrev oP (c : Cht) (i : Nat) : Int := (sE c i).pl
abbrev lR (c : Cht) (i : Nat) : Int := (sE c i).ht
abbrev rV (c : Cht) : Prop := (↑c.ns.length : Int) = (↑c.ns.length : Int)
abbrev Gq (a : Nat) (c : Cht) : Prop := a <= c.ns.length /\ KZ c = (0 : Int) /\ sP c = (0 : Int) /\ (c.ns.all λ (n : Nt) => BW n (↑c.ms.length : Int)) = true /\ xR (dupP c.ns) a = true
abbrev jP (a : Nat) (c : Cht) : Prop := (↑a : Int) < (↑c.ns.length : Int)
abbrev nX (a : Nat) : Prop := (0 : Int) <= (↑a : Int)
abbrev nK (a : Nat) : Nat := a - Int.toNat (0 : Int)
abbrev RX (c : Cht) (i : Nat) : Nt := gD c.ns (Int.toNat (0 : Int) + i)
abbrev Fa (a : Nat) (c : Cht) : List Nt := AE (nK a) λ (i : Nat) => RX c i
abbrev nI (a : Nat) (c : Cht) : Nat := (AE (a - (0 : Nat)) λ (i : Nat) => gD c.ns ((0 : Nat) + i)).length
abbrev Gh (a : Nat) (c : Cht) (i : Nat) : Nt := gD (Fa a c) i
abbrev pA (a : Nat) (c : Cht) (i : Nat) : Span := (Gh a c i).t
abbrev oA (c : Cht) (i : Nat) : Span := (RX c i).t
abbrev tF (a : Nat) (c : Cht) (i : Nat) : Span := (Gh a c i).s
abbrev tE (c : Cht) (i : Nat) : Span := (RX c i).s
abbrev sX (c : Cht) (a : Nat) : Nat := c.ns.length - a
theorem CGL (c : Cht) : (CCH c) = (bif bif !GT (↑c.ms.length : Int) (1 : Int) (40 : Int) then true else decide ((↑c.ns.length : Int) > (20 : Int)) then AJ c = (3 : Int) else bif bif bif bif !IH c.p (1
 : Int) (600 : Int) then true else !GT c.base (-1000000 : Int) (1000000 : Int) then true else !GT c.scale (0 : Int) (1000 : Int) then true else !GT c.off (0 : Int) (1000 : Int) then AJ c = (30 : Int) else (∃ (a :
 NI), (a.m = (-1 : Int) /\ dB c /\ Zu c /\ ADK c /\ (↑a.k : Int) = (0 : Int) /\ SE c) /\ Fw a c) /\ ∀ (a : NI), Fw a c -> bif decide (kU a c) then ((0 : Int) <= (↑a.k : Int) /\
 kU a c) /\ bif bif !GT (gD c.ms a.k).pl (0 : Int) (10000 : Int) then true else !GT (gD c.ms a.k).ht (0 : Int) (1000 : Int) then AJ c = (30 : Int) else bif decide ((gD c.ms a.k).pl <= a.m) then AJ c = (9 :
 Int) else ∃ (a_2 : NI), (a_2.m = (gD c.ms a.k).pl /\ dB c /\ Zu c /\ ADK c /\ (↑a_2.k : Int) = IntKind.i64.wrap ((↑a.k : Int) + (1 : Int)) /\ SE c) /\ Fw a_2 c /\ jB c a_2 <
 jB c a else (jS c /\ lB c /\ c.p.lo = c.p.lo /\ c.p.hi = c.p.hi /\ c.base = c.base /\ c.scale = c.scale /\ c.off = c.off /\ RO c = c.ms.length /\ (∀ (i : Nat), i < RO c -> oP c i =
 (gD c.ms i).pl /\ lR c i = (gD c.ms i).ht) /\ jS c /\ lB c /\ c.p.lo = c.p.lo /\ c.p.hi = c.p.hi /\ c.base = c.base /\ c.scale = c.scale /\ c.off = c.off /\ c.ms.length = RO c /\ (∀ (i : Nat), i <
 c.ms.length -> (gD c.ms i).pl = oP c i /\ (gD c.ms i).ht = lR c i) /\ c.ns.length = RW c /\ (∀ (i : Nat), i < c.ns.length -> (gD c.ns i).mi = jL c i /\ (gD c.ns i).t.lo = rA c i /\ (gD
 c.ns i).t.hi = iN c i /\ (gD c.ns i).s.lo = oV c i /\ (gD c.ns i).s.hi = pO c i) /\ RW c < (4611686018427387904 : Nat) /\ True) /\ bif !(Fd c).all λ (x : Nt) => BW x (↑(RO
 c) : Int) then AJ c = (30 : Int) else (∃ (a : Nat), (gF c /\ eJ c /\ rV c /\ (↑a : Int) = (0 : Int) /\ SE c) /\ Gq a c) /\ ∀ (a : Nat), Gq a c -> bif decide (jP a c)
 then (nX a /\ jP a c) /\ (((0 : Int) <= (0 : Int) /\ nX a /\ (↑a : Int) <= (↑c.ns.length : Int)) /\ (Fa a c).length = nK a /\ (∀ (i : Nat), i < nI a c -> (Gh a c i).mi =
 (RX c i).mi /\ (pA a c i).lo = (oA c i).lo /\ (pA a c i).hi = (oA c i).hi /\ (tF a c i).lo = (tE c i).lo /\ (tF a c i).hi = (tE c i).hi) /\ aG c a
 /\ Yq c a /\ gJ c a /\ cZ c a /\ bS c a /\ aG c a /\ Yq c a /\ gJ c a /\ cZ c a /\ bS c a /\ nI a c < (4611686018427387904 : Nat) /\ True) /\ bif (Fa a
 c).any λ (x : Nt) => x.mi == (gD c.ns a).mi then AJ c = (10 : Int) else ∃ (a_3 : Nat), (gF c /\ eJ c /\ rV c /\ (↑a_3 : Int) = IntKind.i64.wrap ((↑a : Int) + (1 : Int)) /\ SE c) /\
 Gq a_3 c /\ sX c a_3 < sX c a else AJ c = (0 : Int)) := by kernel_rfl
theorem CJZ {α : Type} [Inhabited α] {l : List α} {k : Nat} (h : k <= l.length) : (AE k λ i => gD l i) = l.take k := by
 refine BZT (by simp [h]) λ i hi => ?_
 have hi : i < k := by simpa using hi
 rw [BK _ _ _ hi]
 simp [gD, List.getD_eq_getElem?_getD, List.getElem?_take, hi]
theorem CER {p : Nat -> Bool} {n k : Nat} (hk : k < n) (h : p k = false) : xR p n = false := by
 cases hc : xR p n with
 | false => rfl
 | true => rw [Bw.1 hc k hk] at h; cases h
theorem CMN (c : Cht) (h : c.ms.length < 4611686018427387904 /\ c.ns.length < 4611686018427387904) : CCH c := by
 obtain ⟨hm, hn⟩ := h
 rw [CGL]; delta dB Zu ADK gF aG Yq gJ cZ bS eJ SE sP Fw kU jB Fd RW jS Fj jL jF rA iN jK oV pO lB lQ RO sE oP lR rV Gq jP nX nK RX Fa nI Gh pA oA tF tE sX; simp only [CC, eq_self, implies_true, forall_const, Nat.sub_zero, Int.toNat_zero]
 refine ⟨λ h1 => ?_, λ h1 => ⟨λ h2 => ?_, λ h2 => ?_⟩⟩
 ·have e : KZ c = 3 := by unfold KZ; rw [h1]; rfl
  unfold AJ; rw [e]; rfl
 ·have e : KZ c = 30 := by unfold KZ; rw [h1, h2]; rfl
  unfold AJ; rw [e]; rfl
 have e : KZ c = 0 := by unfold KZ; rw [h1, h2]; rfl
 have k0 : ∀ v : Int, v ≠ 0 -> mkC (-1) c.ms = v -> AJ c = v := λ v hv hm => by 
  have hv0 := hv
  have hv' : (v != 0) = true := by simpa using hv
  unfold AJ; rw [e, hm, hv']; rfl
 refine ⟨⟨⟨0, -1⟩, ⟨rfl, rfl⟩, Nat.zero_le _, e, rfl⟩, λ s ⟨s1, _, s3⟩ => ⟨λ hlt => ?_, λ hge => ?_⟩⟩
 ·have hlt : s.k < c.ms.length := by omega
  have hd := CCM hlt
  rw [hd] at s3
  refine ⟨by omega, λ h3 => ?_, λ h3 => ⟨λ h4 => ?_, λ h4 => ⟨⟨s.k + 1, (gD c.ms s.k).pl⟩, ⟨rfl, (FE (by omega)).symm⟩, ⟨by show s.k + 1 <= _; omega, e, ?_⟩, by show c.ms.length - (s.k + 1) < _; omega⟩⟩⟩
  ·exact k0 30 (by decide) (by rw [<- s3]; unfold mkC; rw [h3]; rfl)
  ·exact k0 9 (by decide) (by rw [<- s3]; unfold mkC; rw [h3, decide_eq_true h4]; rfl)
  ·rw [<- s3]; conv => rhs; unfold mkC
   rw [h3, decide_eq_false h4]; rfl
 ·have hmk : mkC (-1) c.ms = 0 := by rw [<- s3, List.drop_of_length_le (by omega)]; rfl
  refine ⟨by omega, λ h3 => ?_, λ h3 => ⟨⟨0, rfl, Nat.zero_le _, e, hmk, h3, rfl⟩, λ k ⟨k1, _, _, _, k5⟩ => ⟨λ hlt => ?_, λ hge => ?_⟩⟩⟩
  ·unfold AJ; rw [e, hmk, h3]; rfl
  ·have hlt : k < c.ns.length := by omega
   have et : (AE k λ i => gD c.ns i) = c.ns.take k := CJZ (by omega)
   rw [et]
   refine ⟨by omega, ⟨⟨by omega, by omega, by omega⟩, λ i hi => ?_, by omega⟩, λ h4 => ?_, λ h4 => ⟨k + 1, (FE (by omega)).symm, ⟨by omega, e, hmk, h3, ?_⟩, by omega⟩⟩
   ·rw [<- et, BK _ _ _ hi]; exact ⟨rfl, rfl, rfl, rfl, rfl⟩
   ·have hp : xR (dupP c.ns) c.ns.length = false := CER hlt (by unfold dupP; rw [h4]; rfl)
    unfold AJ; rw [e, hmk, h3, hp]; rfl
   ·show (xR (dupP c.ns) k && dupP c.ns k) = true
    unfold dupP at k5 ⊢; rw [k5, h4]; rfl
  ·obtain rfl : k = c.ns.length := by omega
   unfold AJ; rw [e, hmk, h3, k5]; rfl
theorem BVC : AL Try.prog BMI (C_Check.spec dC1) := KV C_Check CBE [] [] CGG (λ _ => by kernel_rfl) (λ _ => AD BJI (AD CGI (AD CYT (AD CYC AI)))) CMN (λ _ => MD rfl rfl) _
def hasN (l : List Nt) (j : Int) : Bool := l.any λ x => x.mi == j
def ntOf : List Nt -> Int -> Nt
 | [], _ => default
 | n :: r, j => bif hasN r j then ntOf r j else bif n.mi == j then n else default
structure Dk where
 c : Cht
 st : Int -> Int
 sp : Nat -> Bool
def AT : Value := .agg #[.int .i64 0, .int .i64 0, .int .i64 0, .int .i64 0, .int .i64 0]
def dkB (w : Dk) (m : Nat) : AObj := .abox [.int w.c.p.lo, .int w.c.p.hi, .int w.c.base, .int w.c.scale, .int w.c.off, .d (eMks w.c.ms), .d (yY w.c.ns), .mref m] 40 w.sp
def dkM (w : Dk) : AObj := .imap .i64 AT (hasN w.c.ns) (λ j => eNt (ntOf w.c.ns j)) w.st none
def dkL (w : Dk) : List (Nat × AObj) := [(100, dkB w 101), (101, dkM w)]
def dkK (w : Dk) : List (Nat × HCell) := [(100, .live (dkB w 101)), (101, .live (dkM w))]
def dkN (w : Dk) : List (Nat × HCell) := [(0, .live (dkB w 1)), (1, .live (dkM w))]
def hC (H : Heap) (id : Nat) : Option (Dk × Nat) := match H id with
 | .live (.abox [.d a, .d b, .d c, .d d, .d e, .d (.list _ n f _), .d (.list _ m g _), .mref q] _ sp) => match H q with
  | .live (.imap _ _ _ _ st _) => some (⟨⟨⟨BU a, BU b⟩, BU c, BU d, BU e, AE n λ i => dMk (f i), AE m λ i => dNt (g i)⟩, st, sp⟩, q)
  | _ => none
 | _ => none
def stK (l : List Nt) : Nat -> Int -> Int
 | 0 => λ _ => 0
 | k + 1 => xB (hasN (l.take k)) (stK l k) (gD l k).mi
def AG (c : Cht) : Dk := ⟨c, stK c.ns c.ns.length, λ _ => false⟩
def C_open : Ctr := { α := Cht, xs := λ c => [.d (YV c)], val := λ _ => .tup [.bptr 0 0, .int 0], keep := λ c => dkN (AG c), pre := λ c => [(c.ms.length < 4611686018427387904 /\ c.ns.length < 4611686018427387904) /\ AJ c = 0] }
def C_openX : Ctr := { α := Cht, xs := λ c => [.d (YV c)], val := λ c => .tup [.d (.v (.pointer none)), .int (AJ c)], keep := λ _ => [], pre := λ c => [(c.ms.length < 4611686018427387904 /\ c.ns.length < 4611686018427387904) /\ AJ c ≠ 0] }
def op6 (c : Cht) : Shape := { α := Nat, dflt := 0, T := λ k => ⟨[(5, .bptr 201 0), (18, .d (yY c.ns)), (19, .int c.ns.length), (20, .int k)], [(201, .live (.abox [.int c.p.lo, .int c.p.hi, .int c.base, .int c.scale, .int c.off, .d (eMks c.ms), .d (yY c.ns), .mref 202] 40 λ _ => false)), (202, .live (.imap .i64 AT (hasN (c.ns.take k)) (λ j => eNt (ntOf (c.ns.take k) j)) (stK c.ns k) none))]⟩, inv := λ k => k <= c.ns.length, meas := λ k => c.ns.length - k, first := [(201, 5048), (202, 5016)] }
def BTY (c : Cht) : Ann := { ann 33 [(BMI, C_Check.spec dC1)] with loops := λ id => if id = 6 then some [op6 c] else none }
def CIV (c : Cht) : Prop := AW Try.prog (BTY c) Wv (AK Wv) (C_open.xs c) (AF []) (C_open.val c) (C_open.keep c) [(0, 201), (1, 202)] []
abbrev wM (c : Cht) : List Mk := AE c.ms.length λ (i : Nat) => gD c.ms i
abbrev uA (c : Cht) : Nat := (wM c).length
abbrev AXR (c : Cht) (i : Nat) : Mk := gD (wM c) i
abbrev G5 (c : Cht) : List Nt := AE c.ns.length λ (i : Nat) => gD c.ns i
abbrev I7 (c : Cht) : Nat := (G5 c).length
abbrev xW (c : Cht) (i : Nat) : Nt := gD (G5 c) i
abbrev AXV (c : Cht) (i : Nat) : Span := (xW c i).t
abbrev BFH (c : Cht) (i : Nat) : Span := (xW c i).s
abbrev Qq (c : Cht) : Prop := c.ns.length = c.ns.length
abbrev Nm (c : Cht) : Prop := ∀ (i : Nat), i < c.ns.length -> (gD c.ns i).mi = (gD c.ns i).mi /\ (gD c.ns i).t.lo = (gD c.ns i).t.lo /\ (gD c.ns i).t.hi = (gD c.ns i).t.hi /\ (gD c.ns i).s.lo = (gD c.ns i).s.lo /\ (gD
 c.ns i).s.hi = (gD c.ns i).s.hi
abbrev X7 (c : Cht) : Prop := (↑c.ns.length : Int) = (↑c.ns.length : Int)
abbrev AEE (c : Cht) : Prop := c.ms.length = c.ms.length
abbrev N8 (c : Cht) : Prop := ∀ (i : Nat), i < c.ms.length -> (gD c.ms i).pl = (gD c.ms i).pl /\ (gD c.ms i).ht = (gD c.ms i).ht
abbrev aK : Prop := ∀ (i : Nat), i < (40 : Nat) -> false = false
abbrev T7 (a : Nat) (c : Cht) : Prop := (↑a : Int) < (↑c.ns.length : Int)
abbrev PW (n : Int) (c : Cht) (a : Nat) : Bool := decide (n = (gD c.ns a).mi)
abbrev AHA (c : Cht) (a : Nat) : Nat := c.ns.length - a
theorem CNL (c : Cht) : (CIV c) = ((c.p.lo = c.p.lo /\ c.p.hi = c.p.hi /\ c.base = c.base /\ c.scale = c.scale /\ c.off = c.off /\ uA c = c.ms.length /\ (∀ (i : Nat), i < uA c -> (AXR c i).pl = (gD c.ms
 i).pl /\ (AXR c i).ht = (gD c.ms i).ht) /\ I7 c = c.ns.length /\ (∀ (i : Nat), i < I7 c -> (xW c i).mi = (gD c.ns i).mi /\ (AXV c i).lo = (gD c.ns i).t.lo /\ (AXV c i).hi = (gD c.ns i).t.hi /\
 (BFH c i).lo = (gD c.ns i).s.lo /\ (BFH c i).hi = (gD c.ns i).s.hi) /\ uA c < (4611686018427387904 : Nat) /\ I7 c < (4611686018427387904 : Nat)) /\ bif AJ (Cht.mk c.p c.base c.scale c.off (wM
 c) (G5 c)) != (0 : Int) then False else (∃ (a : Nat), (Qq c /\ Nm c /\ X7 c /\ (↑a : Int) = (0 : Int) /\ c.p.lo = c.p.lo /\ c.p.hi = c.p.hi /\ c.base = c.base /\ c.scale = c.scale /\ c.off = c.off /\
 AEE c /\ N8 c /\ Qq c /\ Nm c /\ aK /\ AT = Value.agg #[Value.int IntKind.i64 (0 : Int), Value.int IntKind.i64 (0 : Int), Value.int IntKind.i64 (0 : Int), Value.int IntKind.i64 (0 : Int),
 Value.int IntKind.i64 (0 : Int)] /\ (∀ (n : Int), hasN (List.take a c.ns) n = false) /\ (∀ (n : Int), stK c.ns a n = (0 : Int)) /\ ∀ (n : Int), (ntOf (List.take a c.ns) n).mi = (0 : Int) /\ (ntOf (List.take a c.ns) n).t.lo =
 (0 : Int) /\ (ntOf (List.take a c.ns) n).t.hi = (0 : Int) /\ (ntOf (List.take a c.ns) n).s.lo = (0 : Int) /\ (ntOf (List.take a c.ns) n).s.hi = (0 : Int)) /\ a.le c.ns.length) /\ ∀ (a : Nat), a.le c.ns.length -> bif decide
 (T7 a c) then ((0 : Int) <= (↑a : Int) /\ T7 a c) /\ ∃ (a_2 : Nat), (Qq c /\ Nm c /\ X7 c /\ (↑a_2 : Int) = IntKind.i64.wrap ((↑a : Int) + (1 : Int)) /\ c.p.lo = c.p.lo /\ c.p.hi = c.p.hi /\
 c.base = c.base /\ c.scale = c.scale /\ c.off = c.off /\ AEE c /\ N8 c /\ Qq c /\ Nm c /\ aK /\ AT = AT /\ (∀ (n : Int), hasN (List.take a_2 c.ns) n = KM (hasN (List.take a c.ns)) (gD c.ns
 a).mi n) /\ (∀ (n : Int), stK c.ns a_2 n = xB (hasN (List.take a c.ns)) (stK c.ns a) (gD c.ns a).mi n) /\ ∀ (n : Int), ((ntOf (List.take a_2 c.ns) n).mi = bif PW n c a then (gD c.ns a).mi else (ntOf (List.take a
 c.ns) n).mi) /\ ((ntOf (List.take a_2 c.ns) n).t.lo = bif PW n c a then (gD c.ns a).t.lo else (ntOf (List.take a c.ns) n).t.lo) /\ ((ntOf (List.take a_2 c.ns) n).t.hi = bif PW n c a then (gD c.ns a).t.hi else
 (ntOf (List.take a c.ns) n).t.hi) /\ ((ntOf (List.take a_2 c.ns) n).s.lo = bif PW n c a then (gD c.ns a).s.lo else (ntOf (List.take a c.ns) n).s.lo) /\ (ntOf (List.take a_2 c.ns) n).s.hi = bif PW n c a then
 (gD c.ns a).s.hi else (ntOf (List.take a c.ns) n).s.hi) /\ a_2.le c.ns.length /\ AHA c a_2 < AHA c a else Int.ofNat (0 : Nat) = Int.ofNat (0 : Nat) /\ (AG c).c.p.lo = c.p.lo /\ (AG c).c.p.hi = c.p.hi /\ (AG
 c).c.base = c.base /\ (AG c).c.scale = c.scale /\ (AG c).c.off = c.off /\ (AG c).c.ms.length = c.ms.length /\ (∀ (i : Nat), i < (AG c).c.ms.length -> (gD (AG c).c.ms i).pl = (gD c.ms i).pl /\ (gD (AG c).c.ms i).ht
 = (gD c.ms i).ht) /\ (AG c).c.ns.length = c.ns.length /\ (∀ (i : Nat), i < (AG c).c.ns.length -> (gD (AG c).c.ns i).mi = (gD c.ns i).mi /\ (gD (AG c).c.ns i).t.lo = (gD c.ns i).t.lo /\ (gD (AG c).c.ns i).t.hi = (gD
 c.ns i).t.hi /\ (gD (AG c).c.ns i).s.lo = (gD c.ns i).s.lo /\ (gD (AG c).c.ns i).s.hi = (gD c.ns i).s.hi) /\ aK /\ AT = AT /\ (∀ (n : Int), hasN (AG c).c.ns n = hasN (List.take a c.ns) n) /\ (∀ (n : Int), (AG
 c).st n = stK c.ns a n) /\ ∀ (n : Int), (ntOf (AG c).c.ns n).mi = (ntOf (List.take a c.ns) n).mi /\ (ntOf (AG c).c.ns n).t.lo = (ntOf (List.take a c.ns) n).t.lo /\ (ntOf (AG c).c.ns n).t.hi = (ntOf (List.take a c.ns)
 n).t.hi /\ (ntOf (AG c).c.ns n).s.lo = (ntOf (List.take a c.ns) n).s.lo /\ (ntOf (AG c).c.ns n).s.hi = (ntOf (List.take a c.ns) n).s.hi) := by kernel_rfl
def CAT (c : Cht) : Prop := AW Try.prog (BTY c) Wv (AK Wv) (C_open.xs c) (AF []) (C_openX.val c) [] [] []
abbrev gC (c : Cht) : List Mk := AE c.ms.length λ (i : Nat) => gD c.ms i
abbrev bY (c : Cht) : Nat := (gC c).length
abbrev ALU (c : Cht) (i : Nat) : Mk := gD (gC c) i
abbrev fV (c : Cht) : List Nt := AE c.ns.length λ (i : Nat) => gD c.ns i
abbrev aC (c : Cht) : Nat := (fV c).length
abbrev dI (c : Cht) (i : Nat) : Nt := gD (fV c) i
abbrev AEX (c : Cht) (i : Nat) : Span := (dI c i).t
abbrev AAZ (c : Cht) (i : Nat) : Span := (dI c i).s
abbrev AKD (c : Cht) : Int := AJ (Cht.mk c.p c.base c.scale c.off (gC c) (fV c))
abbrev Cy (c : Cht) : Prop := c.ns.length = c.ns.length
abbrev TP (c : Cht) : Prop := ∀ (i : Nat), i < c.ns.length -> (gD c.ns i).mi = (gD c.ns i).mi /\ (gD c.ns i).t.lo = (gD c.ns i).t.lo /\ (gD c.ns i).t.hi = (gD c.ns i).t.hi /\ (gD c.ns i).s.lo = (gD c.ns i).s.lo /\ (gD
 c.ns i).s.hi = (gD c.ns i).s.hi
abbrev sT (c : Cht) : Prop := (↑c.ns.length : Int) = (↑c.ns.length : Int)
abbrev sC (c : Cht) : Prop := c.ms.length = c.ms.length
abbrev qV (c : Cht) : Prop := ∀ (i : Nat), i < c.ms.length -> (gD c.ms i).pl = (gD c.ms i).pl /\ (gD c.ms i).ht = (gD c.ms i).ht
abbrev pN : Prop := ∀ (i : Nat), i < 40 -> false = false
abbrev iZ (a : Nat) (c : Cht) : Prop := (↑a : Int) < (↑c.ns.length : Int)
abbrev MA (n : Int) (c : Cht) (a : Nat) : Bool := decide (n = (gD c.ns a).mi)
abbrev qK (c : Cht) (a : Nat) : Nat := c.ns.length - a
theorem CHX (c : Cht) : (CAT c) = ((c.p.lo = c.p.lo /\ c.p.hi = c.p.hi /\ c.base = c.base /\ c.scale = c.scale /\ c.off = c.off /\ bY c = c.ms.length /\ (∀ (i : Nat), i < bY c -> (ALU c i).pl = (gD
 c.ms i).pl /\ (ALU c i).ht = (gD c.ms i).ht) /\ aC c = c.ns.length /\ (∀ (i : Nat), i < aC c -> (dI c i).mi = (gD c.ns i).mi /\ (AEX c i).lo = (gD c.ns i).t.lo /\ (AEX c i).hi = (gD c.ns
 i).t.hi /\ (AAZ c i).lo = (gD c.ns i).s.lo /\ (AAZ c i).hi = (gD c.ns i).s.hi) /\ bY c < 4611686018427387904 /\ aC c < 4611686018427387904) /\ bif AKD c != 0 then Value.pointer none =
 Value.pointer none /\ AJ c = AKD c else (∃ (a : Nat), (Cy c /\ TP c /\ sT c /\ (↑a : Int) = 0 /\ c.p.lo = c.p.lo /\ c.p.hi = c.p.hi /\ c.base = c.base /\ c.scale = c.scale /\ c.off = c.off /\
 sC c /\ qV c /\ Cy c /\ TP c /\ pN /\ AT = Value.agg #[Value.int IntKind.i64 0, Value.int IntKind.i64 0, Value.int IntKind.i64 0, Value.int IntKind.i64 0, Value.int IntKind.i64 0] /\ (∀
 (n : Int), hasN (List.take a c.ns) n = false) /\ (∀ (n : Int), stK c.ns a n = 0) /\ ∀ (n : Int), (ntOf (List.take a c.ns) n).mi = 0 /\ (ntOf (List.take a c.ns) n).t.lo = 0 /\ (ntOf (List.take a c.ns) n).t.hi = 0 /\ (ntOf
 (List.take a c.ns) n).s.lo = 0 /\ (ntOf (List.take a c.ns) n).s.hi = 0) /\ a.le c.ns.length) /\ ∀ (a : Nat), a.le c.ns.length -> bif decide (iZ a c) then (0 <= (↑a : Int) /\ iZ a c) /\ ∃ (a_2 : Nat), (Cy
 c /\ TP c /\ sT c /\ (↑a_2 : Int) = IntKind.i64.wrap ((↑a : Int) + 1) /\ c.p.lo = c.p.lo /\ c.p.hi = c.p.hi /\ c.base = c.base /\ c.scale = c.scale /\ c.off = c.off /\ sC c /\ qV c /\ Cy c /\
 TP c /\ pN /\ AT = AT /\ (∀ (n : Int), hasN (List.take a_2 c.ns) n = KM (hasN (List.take a c.ns)) (gD c.ns a).mi n) /\ (∀ (n : Int), stK c.ns a_2 n = xB (hasN (List.take a c.ns)) (stK c.ns a) (gD c.ns
 a).mi n) /\ ∀ (n : Int), ((ntOf (List.take a_2 c.ns) n).mi = bif MA n c a then (gD c.ns a).mi else (ntOf (List.take a c.ns) n).mi) /\ ((ntOf (List.take a_2 c.ns) n).t.lo = bif MA n c a then (gD c.ns a).t.lo
 else (ntOf (List.take a c.ns) n).t.lo) /\ ((ntOf (List.take a_2 c.ns) n).t.hi = bif MA n c a then (gD c.ns a).t.hi else (ntOf (List.take a c.ns) n).t.hi) /\ ((ntOf (List.take a_2 c.ns) n).s.lo = bif MA n c
 a then (gD c.ns a).s.lo else (ntOf (List.take a c.ns) n).s.lo) /\ (ntOf (List.take a_2 c.ns) n).s.hi = bif MA n c a then (gD c.ns a).s.hi else (ntOf (List.take a c.ns) n).s.hi) /\ a_2.le c.ns.length /\ qK c
 a_2 < qK c a else False) := by kernel_rfl
theorem BH (c : Cht) : Cht.mk c.p c.base c.scale c.off c.ms c.ns = c := rfl
theorem W2 (c : Cht) : (AG c).c = c := rfl
theorem BJK (l : List Nt) (x : Nt) (j : Int) : hasN (l ++ [x]) j = KM (hasN l) x.mi j := by
 unfold hasN KM; rw [List.any_append, Bool.or_comm]
 simp only [List.any_cons, List.any_nil, Bool.or_false]
 congr 1
 rw [Bool.eq_iff_iff, beq_iff_eq, decide_eq_true_eq]; exact eq_comm
theorem CFF (l : List Nt) (x : Nt) (j : Int) : ntOf (l ++ [x]) j = bif decide (j = x.mi) then x else ntOf l j := by
 induction l with
 | nil =>
  simp only [List.nil_append, ntOf, hasN, List.any_nil, cond_false]
  have : (x.mi == j) = decide (j = x.mi) := by rw [Bool.eq_iff_iff, beq_iff_eq, decide_eq_true_eq]; exact eq_comm
  rw [this]
 | cons y l ih =>
  simp only [List.cons_append, ntOf, ih, BJK, KM]
  cases decide (j = x.mi) <;> rfl
theorem CVZ (c : Cht) (h : (c.ms.length < 4611686018427387904 /\ c.ns.length < 4611686018427387904) /\ AJ c = 0) : CIV c := by
 obtain ⟨⟨hm, hn⟩, h0⟩ := h
 rw [CNL]; delta wM uA AXR G5 I7 xW AXV BFH Qq Nm X7 AEE N8 aK T7 PW AHA; simp only [CC, eq_self, implies_true, forall_const, BH, W2, h0]
 refine ⟨⟨hm, hn⟩, (λ h => by simp at h), λ _ => ⟨⟨0, ⟨rfl, rfl, λ _ => rfl, λ _ => rfl, λ _ => ⟨rfl, rfl, rfl, rfl, rfl⟩⟩, Nat.zero_le _⟩, λ k hk => ⟨λ hlt => ?_, λ hge => ?_⟩⟩⟩
 ·have hlt : k < c.ns.length := by omega
  refine ⟨by omega, k + 1, ⟨(FE (by omega)).symm, λ n => ?_, λ n => rfl, λ n => ?_⟩, by omega, by omega⟩
  ·rw [ZF hlt, BJK]
  ·rw [ZF hlt, CFF]
   cases decide (n = (gD c.ns k).mi) <;> exact ⟨rfl, rfl, rfl, rfl, rfl⟩
 ·obtain rfl : k = c.ns.length := by omega
  simp [AG]
theorem H9 : AL Try.prog GH (C_open.spec dC1) := KV C_open BTY [(0, 201), (1, 202)] [] BIY (λ _ => by kernel_rfl) (λ _ => AD BVC AI) (λ c h => CVZ c h) (λ _ => MD rfl rfl) _
theorem yV : AL Try.prog GH (C_openX.spec dC1) := KV C_openX BTY [] [] BIY (λ _ => by kernel_rfl) (λ _ => AD BVC AI) (λ (c : Cht) h => by
 obtain ⟨⟨hm, hn⟩, h0⟩ : (c.ms.length < 4611686018427387904 /\ c.ns.length < 4611686018427387904) /\ AJ c ≠ 0 := h
 have h0' : (AJ c != 0) = true := by simpa using h0
 show CAT c; rw [CHX]; delta gC bY ALU fV aC dI AEX AAZ AKD Cy TP sT sC qV pN iZ MA qK; simp only [CC, eq_self, implies_true, forall_const, BH, h0']
 simp [hm, hn]) (λ _ => MD rfl rfl) _
def PG (m : Int) : Int -> List Int -> Bool
 | _, [] => true
 | a, g :: r => bif GT g (wr (a + 1)) (wr (m - 2)) then PG m g r else false
def R1 (m : Int) : Int -> List Int -> (Nat -> Bool) -> Nat -> Bool
 | _, [], f, j => f j
 | a, g :: r, f, j => bif GT g (wr (a + 1)) (wr (m - 2)) then R1 m g r (λ i => bif decide (i = g.toNat) then true else f i) j else f j
structure DkZ where
 w : Dk
 z : List Int
def aD (a : DkZ) : Dk := ⟨a.w.c, a.w.st, R1 a.w.c.ms.length (-1) a.z a.w.sp⟩
def dDkZ : List AVal -> Heap -> Option (DkZ × List (Nat × Nat) × List Nat)
 | [.bptr id _, y], H => match hC H id, CBQ y H with
  | some (w, q), some (l, f) => some (⟨w, l⟩, [(100, id), (101, q)], f)
  | _, _ => none
 | _, _ => none
structure StK where
 k : Nat
 m : Int
 f : Nat -> Bool
 deriving Inhabited
def stp3 (a : DkZ) : Shape := { α := StK, dflt := default, T := λ s => ⟨[(0, .bptr 100 0), (5, .int s.m), (8, .d (CO a.z)), (9, .int a.z.length), (10, .int s.k)], dkK ⟨a.w.c, a.w.st, s.f⟩⟩, inv := λ s => (s.k <= a.z.length /\ -1 <= s.m /\ s.m <= 40) /\ PG a.w.c.ms.length s.m (a.z.drop s.k) = PG a.w.c.ms.length (-1) a.z /\ ∀ j, R1 a.w.c.ms.length s.m (a.z.drop s.k) s.f j = R1 a.w.c.ms.length (-1) a.z a.w.sp j, meas := λ s => a.z.length - s.k }
def C_stop : Ctr := { ro := [101], α := DkZ, xs := λ a => [.bptr 100 0, .d (CO a.z)], L := λ a => dkL a.w, val := λ a => .bool (PG a.w.c.ms.length (-1) a.z), keep := λ a => dkK (aD a), pre := λ a => [a.z.length < 4611686018427387904 /\ a.w.c.ms.length <= 40] }
def CGA (a : DkZ) : Ann := { ann 33 [(n_in, s_in)] with E := [100, 101], loops := λ id => if id = 3 then some [stp3 a] else none }
def CHT (a : DkZ) : Prop := AW Try.prog (CGA a) BXV (AK BXV) (C_stop.xs a) (AF (C_stop.L a)) (C_stop.val a) (C_stop.keep a) [] []
abbrev AUI (a : DkZ) : Prop := a.z.length = a.z.length
abbrev BBW (a : DkZ) : Prop := ∀ (i : Nat), i < a.z.length -> gD a.z i = gD a.z i
abbrev ARN (a : DkZ) : Prop := (↑a.z.length : Int) = (↑a.z.length : Int)
abbrev BHB (a : DkZ) : Prop := a.w.c.p.lo = a.w.c.p.lo
abbrev AXF (a : DkZ) : Prop := a.w.c.p.hi = a.w.c.p.hi
abbrev AZB (a : DkZ) : Prop := a.w.c.base = a.w.c.base
abbrev AQN (a : DkZ) : Prop := a.w.c.scale = a.w.c.scale
abbrev BGT (a : DkZ) : Prop := a.w.c.off = a.w.c.off
abbrev AQM (a : DkZ) : Prop := a.w.c.ms.length = a.w.c.ms.length
abbrev AQY (a : DkZ) : Prop := ∀ (i : Nat), i < a.w.c.ms.length -> (gD a.w.c.ms i).pl = (gD a.w.c.ms i).pl /\ (gD a.w.c.ms i).ht = (gD a.w.c.ms i).ht
abbrev ABJ (a : DkZ) : Prop := a.w.c.ns.length = a.w.c.ns.length
abbrev fM (a : DkZ) (i : Nat) : Int := (gD a.w.c.ns i).t.lo
abbrev eS (a : DkZ) (i : Nat) : Int := (gD a.w.c.ns i).t.hi
abbrev Yy (a : DkZ) (i : Nat) : Int := (gD a.w.c.ns i).s.lo
abbrev aI (a : DkZ) (i : Nat) : Int := (gD a.w.c.ns i).s.hi
abbrev W5 (a : DkZ) : Prop := ∀ (i : Nat), i < a.w.c.ns.length -> (gD a.w.c.ns i).mi = (gD a.w.c.ns i).mi /\ fM a i = fM a i /\ eS a i = eS a i /\ Yy a i = Yy a i /\ aI
 a i = aI a i
abbrev V9 (a : DkZ) : Prop := AT = AT /\ (∀ (n : Int), hasN a.w.c.ns n = hasN a.w.c.ns n) /\ (∀ (n : Int), a.w.st n = a.w.st n) /\ ∀ (n : Int), (ntOf a.w.c.ns n).mi = (ntOf a.w.c.ns n).mi /\ (ntOf a.w.c.ns n).t.lo =
 (ntOf a.w.c.ns n).t.lo /\ (ntOf a.w.c.ns n).t.hi = (ntOf a.w.c.ns n).t.hi /\ (ntOf a.w.c.ns n).s.lo = (ntOf a.w.c.ns n).s.lo /\ (ntOf a.w.c.ns n).s.hi = (ntOf a.w.c.ns n).s.hi
abbrev bU (a : DkZ) : Bool := PG (↑a.w.c.ms.length : Int) (-1) a.z
abbrev aN (a : StK) (a1 : DkZ) : Prop := (a.k <= a1.z.length /\ -1 <= a.m /\ a.m <= 40) /\ PG (↑a1.w.c.ms.length : Int) a.m (List.drop a.k a1.z) = bU a1 /\ ∀ (j : Nat), R1 (↑a1.w.c.ms.length : Int) a.m
 (List.drop a.k a1.z) a.f j = R1 (↑a1.w.c.ms.length : Int) (-1) a1.z a1.w.sp j
abbrev ACF (a : StK) (a1 : DkZ) : Prop := (↑a.k : Int) < (↑a1.z.length : Int)
abbrev AJO (a : DkZ) (a1 : StK) : Prop := (aD a).c.p.lo = a.w.c.p.lo /\ (aD a).c.p.hi = a.w.c.p.hi /\ (aD a).c.base = a.w.c.base /\ (aD a).c.scale = a.w.c.scale /\ (aD a).c.off = a.w.c.off /\ (aD a).c.ms.length =
 a.w.c.ms.length /\ (∀ (i : Nat), i < (aD a).c.ms.length -> (gD (aD a).c.ms i).pl = (gD a.w.c.ms i).pl /\ (gD (aD a).c.ms i).ht = (gD a.w.c.ms i).ht) /\ (aD a).c.ns.length = a.w.c.ns.length /\ (∀ (i : Nat), i < (aD
 a).c.ns.length -> (gD (aD a).c.ns i).mi = (gD a.w.c.ns i).mi /\ (gD (aD a).c.ns i).t.lo = fM a i /\ (gD (aD a).c.ns i).t.hi = eS a i /\ (gD (aD a).c.ns i).s.lo = Yy a i /\ (gD (aD a).c.ns i).s.hi =
 aI a i) /\ (∀ (i : Nat), i < 40 -> (aD a).sp i = a1.f i) /\ AT = AT /\ (∀ (n : Int), hasN (aD a).c.ns n = hasN a.w.c.ns n) /\ (∀ (n : Int), (aD a).st n = a.w.st n) /\ ∀ (n : Int), (ntOf (aD a).c.ns n).mi = (ntOf
 a.w.c.ns n).mi /\ (ntOf (aD a).c.ns n).t.lo = (ntOf a.w.c.ns n).t.lo /\ (ntOf (aD a).c.ns n).t.hi = (ntOf a.w.c.ns n).t.hi /\ (ntOf (aD a).c.ns n).s.lo = (ntOf a.w.c.ns n).s.lo /\ (ntOf (aD a).c.ns n).s.hi = (ntOf
 a.w.c.ns n).s.hi
abbrev X0 (a : DkZ) (a1 : StK) : Nat := a.z.length - a1.k
theorem COT (a : DkZ) : (CHT a) = ((∃ (a_1 : StK), (a_1.m = -1 /\ AUI a /\ BBW a /\ ARN a /\ (↑a_1.k : Int) = 0 /\ BHB a /\ AXF a /\ AZB a /\ AQN a /\ BGT a /\ AQM a /\ AQY a
 /\ ABJ a /\ W5 a /\ (∀ (i : Nat), i < 40 -> a_1.f i = a.w.sp i) /\ V9 a) /\ aN a_1 a) /\ ∀ (a_1 : StK), aN a_1 a -> bif decide (ACF a_1 a) then (0 <= (↑a_1.k : Int) /\ ACF a_1 a) /\ bif
 !GT (gD a.z a_1.k) (IntKind.i64.wrap (a_1.m + 1)) (IntKind.i64.wrap ((↑a.w.c.ms.length : Int) - 2)) then bU a = false /\ AJO a a_1 else ((0 <= gD a.z a_1.k /\ gD a.z a_1.k < (↑40 : Int)) /\ (gD a.z
 a_1.k).toNat.succ.le 40) /\ ∃ (a_3 : StK), (a_3.m = gD a.z a_1.k /\ AUI a /\ BBW a /\ ARN a /\ (↑a_3.k : Int) = IntKind.i64.wrap ((↑a_1.k : Int) + 1) /\ BHB a /\ AXF a /\ AZB a /\ AQN a /\
 BGT a /\ AQM a /\ AQY a /\ ABJ a /\ W5 a /\ (∀ (i : Nat), i < 40 -> a_3.f i = bif decide (i = (gD a.z a_1.k).toNat) then true else a_1.f i) /\ V9 a) /\ aN a_3 a /\ X0 a a_3 <
 X0 a a_1 else bU a = true /\ AJO a a_1) := by kernel_rfl
theorem BWD (a : DkZ) : (aD a).c = a.w.c := rfl
theorem CTX (a : DkZ) (h : a.z.length < 4611686018427387904 /\ a.w.c.ms.length <= 40) : CHT a := by
 obtain ⟨hz, hm⟩ := h
 rw [COT]; delta AUI BBW ARN BHB AXF AZB AQN BGT AQM AQY ABJ fM eS Yy aI W5 V9 bU aN ACF AJO X0; simp only [CC, eq_self, implies_true, forall_const, BWD]
 have e2 : IntKind.i64.wrap ((a.w.c.ms.length : Int) - 2) = (a.w.c.ms.length : Int) - 2 := CP (by omega) (by omega)
 refine ⟨⟨⟨0, -1, a.w.sp⟩, ⟨rfl, rfl, λ _ _ => rfl⟩, ⟨Nat.zero_le _, by show (-1 : Int) <= -1; omega, by show (-1 : Int) <= 40; omega⟩, rfl, λ _ => rfl⟩, λ s ⟨⟨s1, s2, s3⟩, s4, s5⟩ => ⟨λ hlt => ?_, λ hge => ?_⟩⟩
 ·have hlt : s.k < a.z.length := by omega
  have hd := CCM hlt
  rw [hd] at s4 s5
  have e1 : IntKind.i64.wrap (s.m + 1) = s.m + 1 := CP (by omega) (by omega)
  refine ⟨by omega, λ h1 => ⟨?_, λ j _ => ?_, λ _ => rfl⟩, λ h1 => ?_⟩
  ·rw [<- s4]; unfold PG wr; rw [h1]; rfl
  ·show R1 _ _ _ _ j = _
   rw [<- s5 j]; unfold R1 wr; rw [h1]; rfl
  ·have h2 := h1
   rw [e1, e2] at h2
   simp only [GT, Bool.and_eq_true, decide_eq_true_eq] at h2
   refine ⟨by omega, ⟨s.k + 1, gD a.z s.k, λ i => bif decide (i = (gD a.z s.k).toNat) then true else s.f i⟩, ⟨rfl, (FE (by omega)).symm, λ _ _ => rfl⟩, ⟨⟨by show s.k + 1 <= _; omega, by show -1 <= gD a.z s.k; omega, by show gD a.z s.k <= 40; omega⟩, ?_, λ j => ?_⟩, by show a.z.length - (s.k + 1) < _; omega⟩
   ·rw [<- s4]; conv => rhs; unfold PG wr
    rw [h1]; rfl
   ·rw [<- s5 j]; conv => rhs; unfold R1 wr
    rw [h1]; rfl
 ·rw [List.drop_of_length_le (by omega)] at s4 s5
  exact ⟨s4.symm, λ j _ => (s5 j).symm, λ _ => rfl⟩
theorem BST : AL Try.prog BGM (C_stop.spec dDkZ) := KV C_stop CGA [] [] CNY (λ _ => by kernel_rfl) (λ _ => AD BJI AI) (λ a h => CTX a h) (λ _ => MD rfl rfl) _
structure CZ where
 c : Cht
 z : List Int
def dCZ : List AVal -> Heap -> Option (CZ × List (Nat × Nat) × List Nat)
 | [x, y], H => match BVO x H, CBQ y H with
  | some (c, f), some (l, e) => some (⟨c, l⟩, [], f ++ e)
  | _, _ => none
 | _, _ => none
def xCZ (a : CZ) : List AVal := [.d (YV a.c), .d (CO a.z)]
def AH (a : CZ) : Dk := aD ⟨AG a.c, a.z⟩
def okZ (a : CZ) : Bool := PG a.c.ms.length (-1) a.z
def Bg (a : CZ) : Int := bif AJ a.c == 0 then bif okZ a then 0 else 2 else AJ a.c
def C_beg : Ctr := { α := CZ, xs := xCZ, val := λ a => .tup [.bptr 0 0, .int (Bg a)], keep := λ a => dkN (AH a), pre := λ a => [(a.c.ms.length < 4611686018427387904 /\ a.c.ns.length < 4611686018427387904 /\ a.z.length < 4611686018427387904) /\ AJ a.c = 0] }
def C_begX : Ctr := { α := CZ, xs := xCZ, val := λ a => .tup [.d (.v (.pointer none)), .int (Bg a)], keep := λ _ => [], pre := λ a => [(a.c.ms.length < 4611686018427387904 /\ a.c.ns.length < 4611686018427387904 /\ a.z.length < 4611686018427387904) /\ AJ a.c ≠ 0] }
def CSO : Ann := { ann 23 [(GH, C_open.spec dC1), (BGM, C_stop.spec dDkZ)] with md := λ id => if id = 2 then some λ k => if k = 3 ∨ k = 4 ∨ k = 5 ∨ k = 6 then 8 else 0 else none }
def CLU : Ann := { ann 23 [(GH, C_openX.spec dC1)] with md := λ id => if id = 2 then some λ k => if k = 3 ∨ k = 4 ∨ k = 5 ∨ k = 6 then 9 else 0 else none }
def CRS (a : CZ) : Prop := AW Try.prog CSO D9 (AK D9) (xCZ a) (AF []) (C_beg.val a) (C_beg.keep a) [(0, 2016), (1, 2017)] []
abbrev APX (a : CZ) : List Mk := AE a.c.ms.length λ (i : Nat) => gD a.c.ms i
abbrev APW (a : CZ) : Nat := (APX a).length
abbrev BMG (a : CZ) (i : Nat) : Mk := gD (APX a) i
abbrev ANS (a : CZ) : List Nt := AE a.c.ns.length λ (i : Nat) => gD a.c.ns i
abbrev AOS (a : CZ) : Nat := (ANS a).length
abbrev APS (a : CZ) (i : Nat) : Nt := gD (ANS a) i
abbrev BPY (a : CZ) (i : Nat) : Span := (APS a i).t
abbrev BSM (a : CZ) (i : Nat) : Span := (APS a i).s
abbrev BLQ (a : CZ) : Cht := Cht.mk a.c.p a.c.base a.c.scale a.c.off (APX a) (ANS a)
abbrev wK (a : CZ) : List Int := AE a.z.length λ (i : Nat) => gD a.z i
abbrev L2 (a : CZ) : Nat := (wK a).length
abbrev Uh (a : CZ) : Dk := AG (BLQ a)
abbrev TH (a : CZ) : Cht := (Uh a).c
abbrev A3 (a : CZ) : Span := (TH a).p
abbrev BER (a : CZ) : Int := (A3 a).lo
abbrev BDG (a : CZ) : Int := (A3 a).hi
abbrev vO (a : CZ) : Int := (TH a).base
abbrev xD (a : CZ) : Int := (TH a).scale
abbrev K8 (a : CZ) : Int := (TH a).off
abbrev AZX (a : CZ) : List Mk := (TH a).ms
abbrev AQW (a : CZ) : Nat := (AZX a).length
abbrev D8 (a : CZ) (i : Nat) : Mk := gD (AZX a) i
abbrev zS (a : CZ) : List Mk := AE (AQW a) λ (i : Nat) => D8 a i
abbrev Pn (a : CZ) : Nat := (zS a).length
abbrev AUP (a : CZ) (i : Nat) : Mk := gD (zS a) i
abbrev Sc (a : CZ) : List Nt := (TH a).ns
abbrev AWS (a : CZ) : Nat := (Sc a).length
abbrev Pu (a : CZ) (i : Nat) : Nt := gD (Sc a) i
abbrev Ba (a : CZ) : List Nt := AE (AWS a) λ (i : Nat) => Pu a i
abbrev BAD (a : CZ) : Nat := (Ba a).length
abbrev A1 (a : CZ) (i : Nat) : Nt := gD (Ba a) i
abbrev ASE (a : CZ) (i : Nat) : Span := (A1 a i).t
abbrev BBP (a : CZ) (i : Nat) : Span := (Pu a i).t
abbrev BBT (a : CZ) (i : Nat) : Span := (A1 a i).s
abbrev BII (a : CZ) (i : Nat) : Span := (Pu a i).s
abbrev wU (a : CZ) (n : Int) : Bool := hasN (Sc a) n
abbrev Wh (a : CZ) (n : Int) : Int := (Uh a).st n
abbrev C9 (a : CZ) (n : Int) : Nt := ntOf (Ba a) n
abbrev vA (a : CZ) (n : Int) : Nt := ntOf (Sc a) n
abbrev G1 (a : CZ) (n : Int) : Int := (vA a n).mi
abbrev BDJ (a : CZ) (n : Int) : Span := (C9 a n).t
abbrev AVE (a : CZ) (n : Int) : Span := (vA a n).t
abbrev uV (a : CZ) (n : Int) : Int := (AVE a n).lo
abbrev G3 (a : CZ) (n : Int) : Int := (AVE a n).hi
abbrev AXI (a : CZ) (n : Int) : Span := (C9 a n).s
abbrev BCZ (a : CZ) (n : Int) : Span := (vA a n).s
abbrev D2 (a : CZ) (n : Int) : Int := (BCZ a n).lo
abbrev I8 (a : CZ) (n : Int) : Int := (BCZ a n).hi
abbrev yR (a : CZ) : Dk := aD (DkZ.mk (Dk.mk (Cht.mk (A3 a) (vO a) (xD a) (K8 a) (zS a) (Ba a)) (Uh a).st (Uh a).sp) (wK a))
abbrev UD (a : CZ) : Cht := (yR a).c
abbrev Sz (a : CZ) : List Nt := (UD a).ns
abbrev uR (a : CZ) (n : Int) : Nt := ntOf (Sz a) n
abbrev ARZ (a : CZ) (n : Int) : Span := (uR a n).t
abbrev AQZ (a : CZ) (n : Int) : Span := (uR a n).s
abbrev BFX (a : CZ) : Span := (UD a).p
abbrev BAJ (a : CZ) : List Mk := (UD a).ms
abbrev AWG (a : CZ) (i : Nat) : Mk := gD (BAJ a) i
abbrev vU (a : CZ) (i : Nat) : Nt := gD (Sz a) i
abbrev AVB (a : CZ) (i : Nat) : Span := (vU a i).t
abbrev AVX (a : CZ) (i : Nat) : Span := (vU a i).s
abbrev AUC (a : CZ) : Prop := (AH a).c.p.lo = (BFX a).lo /\ (AH a).c.p.hi = (BFX a).hi /\ (AH a).c.base = (UD a).base /\ (AH a).c.scale = (UD a).scale /\ (AH a).c.off = (UD a).off /\
 (AH a).c.ms.length = (BAJ a).length /\ (∀ (i : Nat), i < (AH a).c.ms.length -> (gD (AH a).c.ms i).pl = (AWG a i).pl /\ (gD (AH a).c.ms i).ht = (AWG a i).ht) /\ (AH a).c.ns.length = (Sz
 a).length /\ (∀ (i : Nat), i < (AH a).c.ns.length -> (gD (AH a).c.ns i).mi = (vU a i).mi /\ (gD (AH a).c.ns i).t.lo = (AVB a i).lo /\ (gD (AH a).c.ns i).t.hi = (AVB a i).hi /\ (gD (AH a).c.ns i).s.lo
 = (AVX a i).lo /\ (gD (AH a).c.ns i).s.hi = (AVX a i).hi) /\ (∀ (i : Nat), i < 40 -> (AH a).sp i = (yR a).sp i) /\ AT = AT /\ (∀ (n : Int), hasN (AH a).c.ns n = wU a n) /\ (∀ (n : Int), (AH
 a).st n = Wh a n) /\ ∀ (n : Int), (ntOf (AH a).c.ns n).mi = G1 a n /\ (ntOf (AH a).c.ns n).t.lo = uV a n /\ (ntOf (AH a).c.ns n).t.hi = G3 a n /\ (ntOf (AH a).c.ns n).s.lo = D2 a n /\
 (ntOf (AH a).c.ns n).s.hi = I8 a n
theorem CVM (a : CZ) : (CRS a) = ((a.c.p.lo = a.c.p.lo /\ a.c.p.hi = a.c.p.hi /\ a.c.base = a.c.base /\ a.c.scale = a.c.scale /\ a.c.off = a.c.off /\ APW a = a.c.ms.length /\ (∀ (i : Nat), i < APW a -> (BMG a
 i).pl = (gD a.c.ms i).pl /\ (BMG a i).ht = (gD a.c.ms i).ht) /\ AOS a = a.c.ns.length /\ (∀ (i : Nat), i < AOS a -> (APS a i).mi = (gD a.c.ns i).mi /\ (BPY a i).lo = (gD a.c.ns i).t.lo /\ (BPY a i).hi =
 (gD a.c.ns i).t.hi /\ (BSM a i).lo = (gD a.c.ns i).s.lo /\ (BSM a i).hi = (gD a.c.ns i).s.hi) /\ (APW a < 4611686018427387904 /\ AOS a < 4611686018427387904) /\ AJ (BLQ a) = 0) /\ true = true /\ true =
 true /\ true = true /\ (L2 a = a.z.length /\ (∀ (i : Nat), i < L2 a -> gD (wK a) i = gD a.z i) /\ BER a = BER a /\ BDG a = BDG a /\ vO a = vO a /\ xD a = xD a /\
 K8 a = K8 a /\ Pn a = AQW a /\ (∀ (i : Nat), i < Pn a -> (AUP a i).pl = (D8 a i).pl /\ (AUP a i).ht = (D8 a i).ht) /\ BAD a = AWS a /\ (∀ (i : Nat), i < BAD a ->
 (A1 a i).mi = (Pu a i).mi /\ (ASE a i).lo = (BBP a i).lo /\ (ASE a i).hi = (BBP a i).hi /\ (BBT a i).lo = (BII a i).lo /\ (BBT a i).hi = (BII a i).hi) /\ (∀ (i : Nat), i <
 40 -> false = false) /\ AT = AT /\ (∀ (n : Int), hasN (Ba a) n = wU a n) /\ (∀ (n : Int), Wh a n = Wh a n) /\ (∀ (n : Int), (C9 a n).mi = G1 a n /\ (BDJ a n).lo = uV a n /\
 (BDJ a n).hi = G3 a n /\ (AXI a n).lo = D2 a n /\ (AXI a n).hi = I8 a n) /\ AT = AT /\ (∀ (n : Int), wU a n = hasN (Sz a) n) /\ (∀ (n : Int), Wh a n = (yR a).st n) /\
 (∀ (n : Int), G1 a n = (uR a n).mi /\ uV a n = (ARZ a n).lo /\ G3 a n = (ARZ a n).hi /\ D2 a n = (AQZ a n).lo /\ I8 a n = (AQZ a n).hi) /\ L2 a <
 4611686018427387904 /\ Pn a <= 40) /\ true = true /\ bif bif 0 == 0 then !PG (↑(Pn a) : Int) (-1) (wK a) else false then Bg a = 2 /\ AUC a else Bg a = 0 /\ AUC a) := by kernel_rfl
def CKZ (a : CZ) : Prop := AW Try.prog CLU D9 (AK D9) (xCZ a) (AF []) (C_begX.val a) [] [] []
theorem CPF (a : CZ) : (CKZ a) = ((a.c.p.lo = a.c.p.lo /\ a.c.p.hi = a.c.p.hi /\ a.c.base = a.c.base /\ a.c.scale = a.c.scale /\ a.c.off = a.c.off /\ (AE a.c.ms.length λ (i : Nat) => gD a.c.ms i).length =
 a.c.ms.length /\ (∀ (i : Nat), i < (AE a.c.ms.length λ (i : Nat) => gD a.c.ms i).length -> (gD (AE a.c.ms.length λ (i : Nat) => gD a.c.ms i) i).pl = (gD a.c.ms i).pl /\ (gD (AE a.c.ms.length λ (i : Nat) => gD
 a.c.ms i) i).ht = (gD a.c.ms i).ht) /\ (AE a.c.ns.length λ (i : Nat) => gD a.c.ns i).length = a.c.ns.length /\ (∀ (i : Nat), i < (AE a.c.ns.length λ (i : Nat) => gD a.c.ns i).length -> (gD (AE a.c.ns.length λ (i :
 Nat) => gD a.c.ns i) i).mi = (gD a.c.ns i).mi /\ (gD (AE a.c.ns.length λ (i : Nat) => gD a.c.ns i) i).t.lo = (gD a.c.ns i).t.lo /\ (gD (AE a.c.ns.length λ (i : Nat) => gD a.c.ns i) i).t.hi = (gD a.c.ns i).t.hi /\ (gD
 (AE a.c.ns.length λ (i : Nat) => gD a.c.ns i) i).s.lo = (gD a.c.ns i).s.lo /\ (gD (AE a.c.ns.length λ (i : Nat) => gD a.c.ns i) i).s.hi = (gD a.c.ns i).s.hi) /\ ((AE a.c.ms.length λ (i : Nat) => gD a.c.ms
 i).length < 4611686018427387904 /\ (AE a.c.ns.length λ (i : Nat) => gD a.c.ns i).length < 4611686018427387904) /\ AJ (Cht.mk a.c.p a.c.base a.c.scale a.c.off (AE a.c.ms.length λ (i : Nat) => gD a.c.ms i) (AE
 a.c.ns.length λ (i : Nat) => gD a.c.ns i)) ≠ 0) /\ (AJ (Cht.mk a.c.p a.c.base a.c.scale a.c.off (AE a.c.ms.length λ (i : Nat) => gD a.c.ms i) (AE a.c.ns.length λ (i : Nat) => gD a.c.ns i)) == 0) = false /\
 (AJ (Cht.mk a.c.p a.c.base a.c.scale a.c.off (AE a.c.ms.length λ (i : Nat) => gD a.c.ms i) (AE a.c.ns.length λ (i : Nat) => gD a.c.ns i)) == 0) = false /\ (AJ (Cht.mk a.c.p a.c.base a.c.scale a.c.off (AE
 a.c.ms.length λ (i : Nat) => gD a.c.ms i) (AE a.c.ns.length λ (i : Nat) => gD a.c.ns i)) == 0) = false /\ (AJ (Cht.mk a.c.p a.c.base a.c.scale a.c.off (AE a.c.ms.length λ (i : Nat) => gD a.c.ms i) (AE
 a.c.ns.length λ (i : Nat) => gD a.c.ns i)) == 0) = false /\ ((AJ (Cht.mk a.c.p a.c.base a.c.scale a.c.off (AE a.c.ms.length λ (i : Nat) => gD a.c.ms i) (AE a.c.ns.length λ (i : Nat) => gD a.c.ns i)) == 0) =
 true -> false = true) /\ bif bif AJ (Cht.mk a.c.p a.c.base a.c.scale a.c.off (AE a.c.ms.length λ (i : Nat) => gD a.c.ms i) (AE a.c.ns.length λ (i : Nat) => gD a.c.ns i)) == 0 then false else false then
 Value.pointer none = Value.pointer none /\ Bg a = 2 else Value.pointer none = Value.pointer none /\ Bg a = AJ (Cht.mk a.c.p a.c.base a.c.scale a.c.off (AE a.c.ms.length λ (i : Nat) => gD a.c.ms i) (AE
 a.c.ns.length λ (i : Nat) => gD a.c.ns i))) := by kernel_rfl
theorem Xx (a : CZ) : (AH a).c = a.c := rfl
theorem YR (w : Dk) : Dk.mk w.c w.st w.sp = w := rfl
theorem EB {c : Cht} (h : AJ c = 0) : KZ c = 0 /\ (1 <= c.ms.length /\ c.ms.length <= 40) /\ c.ns.length <= 20 := by
 have h1 : KZ c = 0 := by
  unfold AJ at h
  cases hc : (KZ c != 0) with
  | false => simpa using hc
  | true => rw [hc] at h; simpa using h
 refine ⟨h1, ?_⟩
 unfold KZ at h1
 cases hc : (bif !GT c.ms.length 1 40 then true else decide ((c.ns.length : Int) > 20)) with
 | true => rw [hc] at h1; cases h1
 | false =>
  cases hb : GT c.ms.length 1 40 with
  | false => rw [hb] at hc; cases hc
  | true =>
   rw [hb] at hc
   have hc : decide ((c.ns.length : Int) > 20) = false := hc
   simp only [GT, Bool.and_eq_true, decide_eq_true_eq, decide_eq_false_iff_not] at hb hc
   omega
theorem CXC (a : CZ) (h : (a.c.ms.length < 4611686018427387904 /\ a.c.ns.length < 4611686018427387904 /\ a.z.length < 4611686018427387904) /\ AJ a.c = 0) : CRS a := by
 obtain ⟨⟨hm, hn, hz⟩, h0⟩ := h
 have hl := EB h0
 rw [CVM]; delta APX APW BMG ANS AOS APS BPY BSM BLQ wK L2 Uh TH A3 BER BDG vO xD K8 AZX AQW D8 zS Pn AUP Sc AWS Pu Ba BAD A1 ASE BBP BBT BII wU Wh C9 vA G1 BDJ AVE uV G3 AXI BCZ D2 I8 yR UD Sz uR ARZ AQZ BFX BAJ AWG vU AVB AVX AUC; simp only [CC, eq_self, implies_true, forall_const, BH, W2, YR, BWD, Xx]
 have e : Bg a = bif okZ a then 0 else 2 := by unfold Bg; rw [h0]; rfl
 have e2 : PG a.c.ms.length (-1) a.z = okZ a := rfl
 have e3 : aD ⟨AG a.c, a.z⟩ = AH a := rfl
 simp only [e, e2, e3, Xx]
 have e4 : ∀ n, (AG a.c).st n = (AH a).st n := λ _ => rfl
 cases okZ a <;> simp [hm, hn, hz, h0, hl.2.1.2, e4] <;> exact ⟨λ _ => rfl, λ _ _ => rfl⟩
theorem CGU : AL Try.prog xQ (C_beg.spec dCZ) := KV C_beg (λ _ => CSO) [(0, 2016), (1, 2017)] [] BVZ (λ _ => by kernel_rfl) (λ _ => AD H9 (AD BST AI)) (λ a h => CXC a h) (λ _ => MD rfl rfl) _
theorem CNH : AL Try.prog xQ (C_begX.spec dCZ) := KV C_begX (λ _ => CLU) [] [] BVZ (λ _ => by kernel_rfl) (λ _ => AD yV AI) (λ (a : CZ) h => by
 obtain ⟨⟨hm, hn, hz⟩, h0⟩ : (a.c.ms.length < 4611686018427387904 /\ a.c.ns.length < 4611686018427387904 /\ a.z.length < 4611686018427387904) /\ AJ a.c ≠ 0 := h
 have h0' : (AJ a.c == 0) = false := by simpa using h0
 have e : Bg a = AJ a.c := by unfold Bg; rw [h0']; rfl
 show CKZ a; rw [CPF]; simp only [CC, eq_self, implies_true, forall_const, BH, h0', e]
 simp [hm, hn, h0]) (λ _ => MD rfl rfl) _
end Go.Bal
