/- Package chart: which charts are right; a chart at work. -/
import Derived.Test.YtdbjalgfomknhaaChE
set_option linter.unusedVariables false
set_option linter.unusedSimpArgs false
namespace Go.Bal
open Go Go.Sym Go.Proofs
def mkC : Int -> List Mk -> Int
 | _, [] => 0
 | a, m :: r => bif (bif !HK m.pl 0 10000 then true else !HK m.ht 0 1000) then 30 else bif decide (m.pl <= a) then 9 else mkC m.pl r
def dupP (l : List Nt) (i : Nat) : Bool := !(l.take i).any λ x => x.mi == (gD l i).mi
def LN (c : Cht) : Int := bif (bif !HK c.ms.length 1 40 then true else decide ((c.ns.length : Int) > 20)) then 3 else bif (bif (bif (bif !IV c.p 1 600 then true else !HK c.base (-1000000) 1000000) then true else !HK c.scale 0 1000) then true else !HK c.off 0 1000) then 30 else 0
def AK (c : Cht) : Int := bif LN c != 0 then LN c else bif mkC (-1) c.ms != 0 then mkC (-1) c.ms else bif !c.ns.all (λ n => CO n c.ms.length) then 30 else bif tS (dupP c.ns) c.ns.length then 0 else 10
def dC1 : List AVal -> Heap -> Option (Cht × List (Nat × Nat) × List Nat)
 | [y], H => match BYW y H with
  | some (l, f) => some (l, [], f)
  | none => none
 | _, _ => none
def C_Check : Ctr := { α := Cht, xs := λ c => [.d (YE c)], L := λ _ => [], val := λ c => .int (AK c), keep := λ _ => [], pre := λ c => [c.ms.length < 4611686018427387904 /\ c.ns.length < 4611686018427387904] }
def ck7 (c : Cht) : Shape := { α := NI, dflt := default, T := λ s => ⟨[(1, .bptr 201 0), (3, .int s.m), (44, .d (eMks c.ms)), (45, .int c.ms.length), (46, .int s.k)], [(201, .live (chB c))]⟩, inv := λ s => s.k <= c.ms.length /\ LN c = 0 /\ mkC s.m (c.ms.drop s.k) = mkC (-1) c.ms, meas := λ s => c.ms.length - s.k, first := [(201, 1000)] }
def ck18 (c : Cht) : Shape := { α := Nat, dflt := 0, T := λ k => ⟨[(1, .bptr 201 0), (75, .d (eNts c.ns)), (76, .int c.ns.length), (77, .int k)], [(201, .live (chB c))]⟩, inv := λ k => k <= c.ns.length /\ LN c = 0 /\ mkC (-1) c.ms = 0 /\ c.ns.all (λ n => CO n c.ms.length) = true /\ tS (dupP c.ns) k = true, meas := λ k => c.ns.length - k }
def CEE (c : Cht) : Ann := { ann 89 [(n_in, s_in), (Ac, CFL), (n_eN, C4Nr.spec d4Nr), (BXZ, C3Nc.spec d3Nc)] with loops := λ id => if id = 7 then some [ck7 c] else if id = 18 then some [ck18 c] else none }
def CCT (c : Cht) : Prop := BB Try.prog (CEE c) BUJ (AL BUJ) (C_Check.xs c) (AG []) (C_Check.val c) [] [] []
abbrev Xk (c : Cht) : Prop := c.ms.length = c.ms.length
abbrev Xp (c : Cht) : Prop := ∀ (i : Nat), i < c.ms.length -> (gD c.ms i).pl = (gD c.ms i).pl /\ (gD c.ms i).ht = (gD c.ms i).ht
abbrev AIT (c : Cht) : Prop := (↑c.ms.length : Int) = (↑c.ms.length : Int)
abbrev bR (c : Cht) : Prop := c.ns.length = c.ns.length
abbrev Xr (c : Cht) (i : Nat) : Prop := (gD c.ns i).mi = (gD c.ns i).mi
abbrev Xl (c : Cht) (i : Nat) : Prop := (gD c.ns i).t.lo = (gD c.ns i).t.lo
abbrev bB (c : Cht) (i : Nat) : Prop := (gD c.ns i).t.hi = (gD c.ns i).t.hi
abbrev eY (c : Cht) (i : Nat) : Prop := (gD c.ns i).s.lo = (gD c.ns i).s.lo
abbrev Xh (c : Cht) (i : Nat) : Prop := (gD c.ns i).s.hi = (gD c.ns i).s.hi
abbrev aX (c : Cht) : Prop := ∀ (i : Nat), i < c.ns.length -> Xr c i /\ Xl c i /\ bB c i /\ eY c i /\ Xh c i
abbrev TQ (c : Cht) : Prop := c.p.lo = c.p.lo /\ c.p.hi = c.p.hi /\ c.base = c.base /\ c.scale = c.scale /\ c.off = c.off /\ Xk c /\ Xp c /\ bR c /\ aX c
abbrev qJ (c : Cht) : Int := mkC (-1 : Int) c.ms
abbrev Io (a : NI) (c : Cht) : Prop := a.k <= c.ms.length /\ LN c = (0 : Int) /\ mkC a.m (List.drop a.k c.ms) = qJ c
abbrev gX (a : NI) (c : Cht) : Prop := (↑a.k : Int) < (↑c.ms.length : Int)
abbrev fV (c : Cht) (a : NI) : Nat := c.ms.length - a.k
abbrev Ga (c : Cht) : List Nt := AE c.ns.length λ (i : Nat) => gD c.ns i
abbrev TI (c : Cht) : Nat := (Ga c).length
abbrev hC (c : Cht) : Prop := TI c = c.ns.length
abbrev Dp (c : Cht) (i : Nat) : Nt := gD (Ga c) i
abbrev sY (c : Cht) (i : Nat) : Int := (Dp c i).mi
abbrev kF (c : Cht) (i : Nat) : Span := (Dp c i).t
abbrev lT (c : Cht) (i : Nat) : Int := (kF c i).lo
abbrev jE (c : Cht) (i : Nat) : Int := (kF c i).hi
abbrev iK (c : Cht) (i : Nat) : Span := (Dp c i).s
abbrev nG (c : Cht) (i : Nat) : Int := (iK c i).lo
abbrev sQ (c : Cht) (i : Nat) : Int := (iK c i).hi
abbrev iU (c : Cht) : Prop := ∀ (i : Nat), i < TI c -> sY c i = (gD c.ns i).mi /\ lT c i = (gD c.ns i).t.lo /\ jE c i = (gD c.ns i).t.hi /\ nG c i = (gD c.ns i).s.lo /\
 sQ c i = (gD c.ns i).s.hi
abbrev oQ (c : Cht) : List Mk := AE c.ms.length λ (i : Nat) => gD c.ms i
abbrev TX (c : Cht) : Nat := (oQ c).length
abbrev jY (c : Cht) (i : Nat) : Mk := gD (oQ c) i
abbrev oD (c : Cht) (i : Nat) : Int := (jY c i).pl
abbrev oG (c : Cht) (i : Nat) : Int := (jY c i).ht
abbrev rN (c : Cht) : Prop := (↑c.ns.length : Int) = (↑c.ns.length : Int)
abbrev Gi (a : Nat) (c : Cht) : Prop := a <= c.ns.length /\ LN c = (0 : Int) /\ qJ c = (0 : Int) /\ (c.ns.all λ (n : Nt) => CO n (↑c.ms.length : Int)) = true /\ tS (dupP c.ns) a = true
abbrev gC (a : Nat) (c : Cht) : Prop := (↑a : Int) < (↑c.ns.length : Int)
abbrev kV (a : Nat) : Prop := (0 : Int) <= (↑a : Int)
abbrev pM (a : Nat) : Nat := a - Int.toNat (0 : Int)
abbrev TJ (c : Cht) (i : Nat) : Nt := gD c.ns (Int.toNat (0 : Int) + i)
abbrev Dw (a : Nat) (c : Cht) : List Nt := AE (pM a) λ (i : Nat) => TJ c i
abbrev pJ (a : Nat) (c : Cht) : Nat := (AE (a - (0 : Nat)) λ (i : Nat) => gD c.ns ((0 : Nat) + i)).length
abbrev Ia (a : Nat) (c : Cht) (i : Nat) : Nt := gD (Dw a c) i
abbrev oB (a : Nat) (c : Cht) (i : Nat) : Span := (Ia a c i).t
abbrev kC (c : Cht) (i : Nat) : Span := (TJ c i).t
abbrev sG (a : Nat) (c : Cht) (i : Nat) : Span := (Ia a c i).s
abbrev gE (c : Cht) (i : Nat) : Span := (TJ c i).s
abbrev kZ (c : Cht) (a : Nat) : Nat := c.ns.length - a
theorem CLN (c : Cht) : (CCT c) = (bif bif !HK (↑c.ms.length : Int) (1 : Int) (40 : Int) then true else decide ((↑c.ns.length : Int) > (20 : Int)) then AK c = (3 : Int) else bif bif bif bif !IV c.p (1
 : Int) (600 : Int) then true else !HK c.base (-1000000 : Int) (1000000 : Int) then true else !HK c.scale (0 : Int) (1000 : Int) then true else !HK c.off (0 : Int) (1000 : Int) then AK c = (30 : Int) else (∃ (a :
 NI), (a.m = (-1 : Int) /\ Xk c /\ Xp c /\ AIT c /\ (↑a.k : Int) = (0 : Int) /\ TQ c) /\ Io a c) /\ ∀ (a : NI), Io a c -> bif decide (gX a c) then ((0 : Int) <= (↑a.k : Int) /\
 gX a c) /\ bif bif !HK (gD c.ms a.k).pl (0 : Int) (10000 : Int) then true else !HK (gD c.ms a.k).ht (0 : Int) (1000 : Int) then AK c = (30 : Int) else bif decide ((gD c.ms a.k).pl <= a.m) then AK c = (9 :
 Int) else ∃ (a_2 : NI), (a_2.m = (gD c.ms a.k).pl /\ Xk c /\ Xp c /\ AIT c /\ (↑a_2.k : Int) = IntKind.i64.wrap ((↑a.k : Int) + (1 : Int)) /\ TQ c) /\ Io a_2 c /\ fV c a_2 <
 fV c a else (hC c /\ iU c /\ c.p.lo = c.p.lo /\ c.p.hi = c.p.hi /\ c.base = c.base /\ c.scale = c.scale /\ c.off = c.off /\ TX c = c.ms.length /\ (∀ (i : Nat), i < TX c -> oD c i =
 (gD c.ms i).pl /\ oG c i = (gD c.ms i).ht) /\ hC c /\ iU c /\ c.p.lo = c.p.lo /\ c.p.hi = c.p.hi /\ c.base = c.base /\ c.scale = c.scale /\ c.off = c.off /\ c.ms.length = TX c /\ (∀ (i : Nat), i <
 c.ms.length -> (gD c.ms i).pl = oD c i /\ (gD c.ms i).ht = oG c i) /\ c.ns.length = TI c /\ (∀ (i : Nat), i < c.ns.length -> (gD c.ns i).mi = sY c i /\ (gD c.ns i).t.lo = lT c i /\ (gD
 c.ns i).t.hi = jE c i /\ (gD c.ns i).s.lo = nG c i /\ (gD c.ns i).s.hi = sQ c i) /\ TI c < (4611686018427387904 : Nat) /\ True) /\ bif !(Ga c).all λ (x : Nt) => CO x (↑(TX
 c) : Int) then AK c = (30 : Int) else (∃ (a : Nat), (bR c /\ aX c /\ rN c /\ (↑a : Int) = (0 : Int) /\ TQ c) /\ Gi a c) /\ ∀ (a : Nat), Gi a c -> bif decide (gC a c)
 then (kV a /\ gC a c) /\ (((0 : Int) <= (0 : Int) /\ kV a /\ (↑a : Int) <= (↑c.ns.length : Int)) /\ (Dw a c).length = pM a /\ (∀ (i : Nat), i < pJ a c -> (Ia a c i).mi =
 (TJ c i).mi /\ (oB a c i).lo = (kC c i).lo /\ (oB a c i).hi = (kC c i).hi /\ (sG a c i).lo = (gE c i).lo /\ (sG a c i).hi = (gE c i).hi) /\ Xr c a
 /\ Xl c a /\ bB c a /\ eY c a /\ Xh c a /\ Xr c a /\ Xl c a /\ bB c a /\ eY c a /\ Xh c a /\ pJ a c < (4611686018427387904 : Nat) /\ True) /\ bif (Dw a
 c).any λ (x : Nt) => x.mi == (gD c.ns a).mi then AK c = (10 : Int) else ∃ (a_3 : Nat), (bR c /\ aX c /\ rN c /\ (↑a_3 : Int) = IntKind.i64.wrap ((↑a : Int) + (1 : Int)) /\ TQ c) /\
 Gi a_3 c /\ kZ c a_3 < kZ c a else AK c = (0 : Int)) := by kernel_rfl
theorem CKZ {α : Type} [Inhabited α] {l : List α} {k : Nat} (h : k <= l.length) : (AE k λ i => gD l i) = l.take k := by
 refine BRP (by simp [h]) λ i hi => ?_
 have hi : i < k := by simpa using hi
 rw [BH _ _ _ hi]
 simp [gD, List.getD_eq_getElem?_getD, List.getElem?_take, hi]
theorem CGO {p : Nat -> Bool} {n k : Nat} (hk : k < n) (h : p k = false) : tS p n = false := by
 cases hc : tS p n with
 | false => rfl
 | true => rw [Bv.1 hc k hk] at h; cases h
theorem CPL (c : Cht) (h : c.ms.length < 4611686018427387904 /\ c.ns.length < 4611686018427387904) : CCT c := by
 obtain ⟨hm, hn⟩ := h
 rw [CLN]; delta Xk Xp AIT bR Xr Xl bB eY Xh aX TQ qJ Io gX fV Ga TI hC Dp sY kF lT jE iK nG sQ iU oQ TX jY oD oG rN Gi gC kV pM TJ Dw pJ Ia oB kC sG gE kZ; simp only [CC, eq_self, implies_true, forall_const, Nat.sub_zero, Int.toNat_zero]
 refine ⟨λ h1 => ?_, λ h1 => ⟨λ h2 => ?_, λ h2 => ?_⟩⟩
 ·have e : LN c = 3 := by unfold LN; rw [h1]; rfl
  unfold AK; rw [e]; rfl
 ·have e : LN c = 30 := by unfold LN; rw [h1, h2]; rfl
  unfold AK; rw [e]; rfl
 have e : LN c = 0 := by unfold LN; rw [h1, h2]; rfl
 have k0 : ∀ v : Int, v ≠ 0 -> mkC (-1) c.ms = v -> AK c = v := λ v hv hm => by 
  have hv0 := hv
  have hv' : (v != 0) = true := by simpa using hv
  unfold AK; rw [e, hm, hv']; rfl
 refine ⟨⟨⟨0, -1⟩, ⟨rfl, rfl⟩, Nat.zero_le _, e, rfl⟩, λ s ⟨s1, _, s3⟩ => ⟨λ hlt => ?_, λ hge => ?_⟩⟩
 ·have hlt : s.k < c.ms.length := by omega
  have hd := CDL hlt
  rw [hd] at s3
  refine ⟨by omega, λ h3 => ?_, λ h3 => ⟨λ h4 => ?_, λ h4 => ⟨⟨s.k + 1, (gD c.ms s.k).pl⟩, ⟨rfl, (GK (by omega)).symm⟩, ⟨by show s.k + 1 <= _; omega, e, ?_⟩, by show c.ms.length - (s.k + 1) < _; omega⟩⟩⟩
  ·exact k0 30 (by decide) (by rw [<- s3]; unfold mkC; rw [h3]; rfl)
  ·exact k0 9 (by decide) (by rw [<- s3]; unfold mkC; rw [h3, decide_eq_true h4]; rfl)
  ·rw [<- s3]; conv => rhs; unfold mkC
   rw [h3, decide_eq_false h4]; rfl
 ·have hmk : mkC (-1) c.ms = 0 := by rw [<- s3, List.drop_of_length_le (by omega)]; rfl
  refine ⟨by omega, λ h3 => ?_, λ h3 => ⟨⟨0, rfl, Nat.zero_le _, e, hmk, h3, rfl⟩, λ k ⟨k1, _, _, _, k5⟩ => ⟨λ hlt => ?_, λ hge => ?_⟩⟩⟩
  ·unfold AK; rw [e, hmk, h3]; rfl
  ·have hlt : k < c.ns.length := by omega
   have et : (AE k λ i => gD c.ns i) = c.ns.take k := CKZ (by omega)
   rw [et]
   refine ⟨by omega, ⟨⟨by omega, by omega, by omega⟩, λ i hi => ?_, by omega⟩, λ h4 => ?_, λ h4 => ⟨k + 1, (GK (by omega)).symm, ⟨by omega, e, hmk, h3, ?_⟩, by omega⟩⟩
   ·rw [<- et, BH _ _ _ hi]; exact ⟨rfl, rfl, rfl, rfl, rfl⟩
   ·have hp : tS (dupP c.ns) c.ns.length = false := CGO hlt (by unfold dupP; rw [h4]; rfl)
    unfold AK; rw [e, hmk, h3, hp]; rfl
   ·show (tS (dupP c.ns) k && dupP c.ns k) = true
    unfold dupP at k5 ⊢; rw [k5, h4]; rfl
  ·obtain rfl : k = c.ns.length := by omega
   unfold AK; rw [e, hmk, h3, k5]; rfl
theorem BYM : AM Try.prog BUB (C_Check.spec dC1) := LM C_Check CEE [] [] CIP (λ _ => by kernel_rfl) (λ _ => AC BKI (AC CIS (AC CYZ (AC CZM AJ)))) CPL (λ _ => OA rfl rfl) _
def hasN (l : List Nt) (j : Int) : Bool := l.any λ x => x.mi == j
def ntOf : List Nt -> Int -> Nt
 | [], _ => default
 | n :: r, j => bif hasN r j then ntOf r j else bif n.mi == j then n else default
structure Dk where
 c : Cht
 st : Int -> Int
 sp : Nat -> Bool
def AT : Value := .agg #[.int .i64 0, .int .i64 0, .int .i64 0, .int .i64 0, .int .i64 0]
def dkB (w : Dk) (m : Nat) : AObj := .abox [.int w.c.p.lo, .int w.c.p.hi, .int w.c.base, .int w.c.scale, .int w.c.off, .d (eMks w.c.ms), .d (eNts w.c.ns), .mref m] 40 w.sp
def dkM (w : Dk) : AObj := .imap .i64 AT (hasN w.c.ns) (λ j => eNt (ntOf w.c.ns j)) w.st none
def dkL (w : Dk) : List (Nat × AObj) := [(100, dkB w 101), (101, dkM w)]
def dkK (w : Dk) : List (Nat × HCell) := [(100, .live (dkB w 101)), (101, .live (dkM w))]
def dkN (w : Dk) : List (Nat × HCell) := [(0, .live (dkB w 1)), (1, .live (dkM w))]
def fJ (H : Heap) (id : Nat) : Option (Dk × Nat) := match H id with
 | .live (.abox [.d a, .d b, .d c, .d d, .d e, .d (.list _ n f _), .d (.list _ m g _), .mref q] _ sp) => match H q with
  | .live (.imap _ _ _ _ st _) => some (⟨⟨⟨CL a, CL b⟩, CL c, CL d, CL e, AE n λ i => dMk (f i), AE m λ i => dNt (g i)⟩, st, sp⟩, q)
  | _ => none
 | _ => none
def stK (l : List Nt) : Nat -> Int -> Int
 | 0 => λ _ => 0
 | k + 1 => zH (hasN (l.take k)) (stK l k) (gD l k).mi
def AH (c : Cht) : Dk := ⟨c, stK c.ns c.ns.length, λ _ => false⟩
def C_open : Ctr := { α := Cht, xs := λ c => [.d (YE c)], val := λ _ => .tup [.bptr 0 0, .int 0], keep := λ c => dkN (AH c), pre := λ c => [(c.ms.length < 4611686018427387904 /\ c.ns.length < 4611686018427387904) /\ AK c = 0] }
def C_openX : Ctr := { α := Cht, xs := λ c => [.d (YE c)], val := λ c => .tup [.d (.v (.pointer none)), .int (AK c)], keep := λ _ => [], pre := λ c => [(c.ms.length < 4611686018427387904 /\ c.ns.length < 4611686018427387904) /\ AK c ≠ 0] }
def op6 (c : Cht) : Shape := { α := Nat, dflt := 0, T := λ k => ⟨[(5, .bptr 201 0), (18, .d (eNts c.ns)), (19, .int c.ns.length), (20, .int k)], [(201, .live (.abox [.int c.p.lo, .int c.p.hi, .int c.base, .int c.scale, .int c.off, .d (eMks c.ms), .d (eNts c.ns), .mref 202] 40 λ _ => false)), (202, .live (.imap .i64 AT (hasN (c.ns.take k)) (λ j => eNt (ntOf (c.ns.take k) j)) (stK c.ns k) none))]⟩, inv := λ k => k <= c.ns.length, meas := λ k => c.ns.length - k, first := [(201, 5048), (202, 5016)] }
def BQE (c : Cht) : Ann := { ann 33 [(BUB, C_Check.spec dC1)] with loops := λ id => if id = 6 then some [op6 c] else none }
def CJU (c : Cht) : Prop := BB Try.prog (BQE c) Kr (AL Kr) (C_open.xs c) (AG []) (C_open.val c) (C_open.keep c) [(0, 201), (1, 202)] []
abbrev yL (c : Cht) : List Mk := AE c.ms.length λ (i : Nat) => gD c.ms i
abbrev zE (c : Cht) : Nat := (yL c).length
abbrev BCM (c : Cht) (i : Nat) : Mk := gD (yL c) i
abbrev D9 (c : Cht) : List Nt := AE c.ns.length λ (i : Nat) => gD c.ns i
abbrev xY (c : Cht) : Nat := (D9 c).length
abbrev D6 (c : Cht) (i : Nat) : Nt := gD (D9 c) i
abbrev AQD (c : Cht) (i : Nat) : Span := (D6 c i).t
abbrev BIT (c : Cht) (i : Nat) : Span := (D6 c i).s
abbrev Rc (c : Cht) : Prop := c.ns.length = c.ns.length
abbrev Oq (c : Cht) : Prop := ∀ (i : Nat), i < c.ns.length -> (gD c.ns i).mi = (gD c.ns i).mi /\ (gD c.ns i).t.lo = (gD c.ns i).t.lo /\ (gD c.ns i).t.hi = (gD c.ns i).t.hi /\ (gD c.ns i).s.lo = (gD c.ns i).s.lo /\ (gD
 c.ns i).s.hi = (gD c.ns i).s.hi
abbrev AAC (c : Cht) : Prop := (↑c.ns.length : Int) = (↑c.ns.length : Int)
abbrev ADV (c : Cht) : Prop := c.ms.length = c.ms.length
abbrev ALG (c : Cht) : Prop := ∀ (i : Nat), i < c.ms.length -> (gD c.ms i).pl = (gD c.ms i).pl /\ (gD c.ms i).ht = (gD c.ms i).ht
abbrev eR : Prop := ∀ (i : Nat), i < (40 : Nat) -> false = false
abbrev AGS (a : Nat) (c : Cht) : Prop := (↑a : Int) < (↑c.ns.length : Int)
abbrev RP (n : Int) (c : Cht) (a : Nat) : Bool := decide (n = (gD c.ns a).mi)
abbrev U3 (c : Cht) (a : Nat) : Nat := c.ns.length - a
theorem CQZ (c : Cht) : (CJU c) = ((c.p.lo = c.p.lo /\ c.p.hi = c.p.hi /\ c.base = c.base /\ c.scale = c.scale /\ c.off = c.off /\ zE c = c.ms.length /\ (∀ (i : Nat), i < zE c -> (BCM c i).pl = (gD c.ms
 i).pl /\ (BCM c i).ht = (gD c.ms i).ht) /\ xY c = c.ns.length /\ (∀ (i : Nat), i < xY c -> (D6 c i).mi = (gD c.ns i).mi /\ (AQD c i).lo = (gD c.ns i).t.lo /\ (AQD c i).hi = (gD c.ns i).t.hi /\
 (BIT c i).lo = (gD c.ns i).s.lo /\ (BIT c i).hi = (gD c.ns i).s.hi) /\ zE c < (4611686018427387904 : Nat) /\ xY c < (4611686018427387904 : Nat)) /\ bif AK (Cht.mk c.p c.base c.scale c.off (yL
 c) (D9 c)) != (0 : Int) then False else (∃ (a : Nat), (Rc c /\ Oq c /\ AAC c /\ (↑a : Int) = (0 : Int) /\ c.p.lo = c.p.lo /\ c.p.hi = c.p.hi /\ c.base = c.base /\ c.scale = c.scale /\ c.off = c.off /\
 ADV c /\ ALG c /\ Rc c /\ Oq c /\ eR /\ AT = Value.agg #[Value.int IntKind.i64 (0 : Int), Value.int IntKind.i64 (0 : Int), Value.int IntKind.i64 (0 : Int), Value.int IntKind.i64 (0 : Int),
 Value.int IntKind.i64 (0 : Int)] /\ (∀ (n : Int), hasN (List.take a c.ns) n = false) /\ (∀ (n : Int), stK c.ns a n = (0 : Int)) /\ ∀ (n : Int), (ntOf (List.take a c.ns) n).mi = (0 : Int) /\ (ntOf (List.take a c.ns) n).t.lo =
 (0 : Int) /\ (ntOf (List.take a c.ns) n).t.hi = (0 : Int) /\ (ntOf (List.take a c.ns) n).s.lo = (0 : Int) /\ (ntOf (List.take a c.ns) n).s.hi = (0 : Int)) /\ a.le c.ns.length) /\ ∀ (a : Nat), a.le c.ns.length -> bif decide
 (AGS a c) then ((0 : Int) <= (↑a : Int) /\ AGS a c) /\ ∃ (a_2 : Nat), (Rc c /\ Oq c /\ AAC c /\ (↑a_2 : Int) = IntKind.i64.wrap ((↑a : Int) + (1 : Int)) /\ c.p.lo = c.p.lo /\ c.p.hi = c.p.hi /\
 c.base = c.base /\ c.scale = c.scale /\ c.off = c.off /\ ADV c /\ ALG c /\ Rc c /\ Oq c /\ eR /\ AT = AT /\ (∀ (n : Int), hasN (List.take a_2 c.ns) n = LD (hasN (List.take a c.ns)) (gD c.ns
 a).mi n) /\ (∀ (n : Int), stK c.ns a_2 n = zH (hasN (List.take a c.ns)) (stK c.ns a) (gD c.ns a).mi n) /\ ∀ (n : Int), ((ntOf (List.take a_2 c.ns) n).mi = bif RP n c a then (gD c.ns a).mi else (ntOf (List.take a
 c.ns) n).mi) /\ ((ntOf (List.take a_2 c.ns) n).t.lo = bif RP n c a then (gD c.ns a).t.lo else (ntOf (List.take a c.ns) n).t.lo) /\ ((ntOf (List.take a_2 c.ns) n).t.hi = bif RP n c a then (gD c.ns a).t.hi else
 (ntOf (List.take a c.ns) n).t.hi) /\ ((ntOf (List.take a_2 c.ns) n).s.lo = bif RP n c a then (gD c.ns a).s.lo else (ntOf (List.take a c.ns) n).s.lo) /\ (ntOf (List.take a_2 c.ns) n).s.hi = bif RP n c a then
 (gD c.ns a).s.hi else (ntOf (List.take a c.ns) n).s.hi) /\ a_2.le c.ns.length /\ U3 c a_2 < U3 c a else Int.ofNat (0 : Nat) = Int.ofNat (0 : Nat) /\ (AH c).c.p.lo = c.p.lo /\ (AH c).c.p.hi = c.p.hi /\ (AH
 c).c.base = c.base /\ (AH c).c.scale = c.scale /\ (AH c).c.off = c.off /\ (AH c).c.ms.length = c.ms.length /\ (∀ (i : Nat), i < (AH c).c.ms.length -> (gD (AH c).c.ms i).pl = (gD c.ms i).pl /\ (gD (AH c).c.ms i).ht
 = (gD c.ms i).ht) /\ (AH c).c.ns.length = c.ns.length /\ (∀ (i : Nat), i < (AH c).c.ns.length -> (gD (AH c).c.ns i).mi = (gD c.ns i).mi /\ (gD (AH c).c.ns i).t.lo = (gD c.ns i).t.lo /\ (gD (AH c).c.ns i).t.hi = (gD
 c.ns i).t.hi /\ (gD (AH c).c.ns i).s.lo = (gD c.ns i).s.lo /\ (gD (AH c).c.ns i).s.hi = (gD c.ns i).s.hi) /\ eR /\ AT = AT /\ (∀ (n : Int), hasN (AH c).c.ns n = hasN (List.take a c.ns) n) /\ (∀ (n : Int), (AH
 c).st n = stK c.ns a n) /\ ∀ (n : Int), (ntOf (AH c).c.ns n).mi = (ntOf (List.take a c.ns) n).mi /\ (ntOf (AH c).c.ns n).t.lo = (ntOf (List.take a c.ns) n).t.lo /\ (ntOf (AH c).c.ns n).t.hi = (ntOf (List.take a c.ns)
 n).t.hi /\ (ntOf (AH c).c.ns n).s.lo = (ntOf (List.take a c.ns) n).s.lo /\ (ntOf (AH c).c.ns n).s.hi = (ntOf (List.take a c.ns) n).s.hi) := by kernel_rfl
def CFE (c : Cht) : Prop := BB Try.prog (BQE c) Kr (AL Kr) (C_open.xs c) (AG []) (C_openX.val c) [] [] []
abbrev cL (c : Cht) : List Mk := AE c.ms.length λ (i : Nat) => gD c.ms i
abbrev Xf (c : Cht) : Nat := (cL c).length
abbrev AHG (c : Cht) (i : Nat) : Mk := gD (cL c) i
abbrev Xo (c : Cht) : List Nt := AE c.ns.length λ (i : Nat) => gD c.ns i
abbrev Zd (c : Cht) : Nat := (Xo c).length
abbrev cP (c : Cht) (i : Nat) : Nt := gD (Xo c) i
abbrev AJX (c : Cht) (i : Nat) : Span := (cP c i).t
abbrev W2 (c : Cht) (i : Nat) : Span := (cP c i).s
abbrev ABR (c : Cht) : Int := AK (Cht.mk c.p c.base c.scale c.off (cL c) (Xo c))
abbrev Bx (c : Cht) : Prop := c.ns.length = c.ns.length
abbrev RU (c : Cht) : Prop := ∀ (i : Nat), i < c.ns.length -> (gD c.ns i).mi = (gD c.ns i).mi /\ (gD c.ns i).t.lo = (gD c.ns i).t.lo /\ (gD c.ns i).t.hi = (gD c.ns i).t.hi /\ (gD c.ns i).s.lo = (gD c.ns i).s.lo /\ (gD
 c.ns i).s.hi = (gD c.ns i).s.hi
abbrev gT (c : Cht) : Prop := (↑c.ns.length : Int) = (↑c.ns.length : Int)
abbrev jV (c : Cht) : Prop := c.ms.length = c.ms.length
abbrev jC (c : Cht) : Prop := ∀ (i : Nat), i < c.ms.length -> (gD c.ms i).pl = (gD c.ms i).pl /\ (gD c.ms i).ht = (gD c.ms i).ht
abbrev qZ : Prop := ∀ (i : Nat), i < 40 -> false = false
abbrev kJ (a : Nat) (c : Cht) : Prop := (↑a : Int) < (↑c.ns.length : Int)
abbrev NH (n : Int) (c : Cht) (a : Nat) : Bool := decide (n = (gD c.ns a).mi)
abbrev jH (c : Cht) (a : Nat) : Nat := c.ns.length - a
theorem CML (c : Cht) : (CFE c) = ((c.p.lo = c.p.lo /\ c.p.hi = c.p.hi /\ c.base = c.base /\ c.scale = c.scale /\ c.off = c.off /\ Xf c = c.ms.length /\ (∀ (i : Nat), i < Xf c -> (AHG c i).pl = (gD
 c.ms i).pl /\ (AHG c i).ht = (gD c.ms i).ht) /\ Zd c = c.ns.length /\ (∀ (i : Nat), i < Zd c -> (cP c i).mi = (gD c.ns i).mi /\ (AJX c i).lo = (gD c.ns i).t.lo /\ (AJX c i).hi = (gD c.ns
 i).t.hi /\ (W2 c i).lo = (gD c.ns i).s.lo /\ (W2 c i).hi = (gD c.ns i).s.hi) /\ Xf c < 4611686018427387904 /\ Zd c < 4611686018427387904) /\ bif ABR c != 0 then Value.pointer none =
 Value.pointer none /\ AK c = ABR c else (∃ (a : Nat), (Bx c /\ RU c /\ gT c /\ (↑a : Int) = 0 /\ c.p.lo = c.p.lo /\ c.p.hi = c.p.hi /\ c.base = c.base /\ c.scale = c.scale /\ c.off = c.off /\
 jV c /\ jC c /\ Bx c /\ RU c /\ qZ /\ AT = Value.agg #[Value.int IntKind.i64 0, Value.int IntKind.i64 0, Value.int IntKind.i64 0, Value.int IntKind.i64 0, Value.int IntKind.i64 0] /\ (∀
 (n : Int), hasN (List.take a c.ns) n = false) /\ (∀ (n : Int), stK c.ns a n = 0) /\ ∀ (n : Int), (ntOf (List.take a c.ns) n).mi = 0 /\ (ntOf (List.take a c.ns) n).t.lo = 0 /\ (ntOf (List.take a c.ns) n).t.hi = 0 /\ (ntOf
 (List.take a c.ns) n).s.lo = 0 /\ (ntOf (List.take a c.ns) n).s.hi = 0) /\ a.le c.ns.length) /\ ∀ (a : Nat), a.le c.ns.length -> bif decide (kJ a c) then (0 <= (↑a : Int) /\ kJ a c) /\ ∃ (a_2 : Nat), (Bx
 c /\ RU c /\ gT c /\ (↑a_2 : Int) = IntKind.i64.wrap ((↑a : Int) + 1) /\ c.p.lo = c.p.lo /\ c.p.hi = c.p.hi /\ c.base = c.base /\ c.scale = c.scale /\ c.off = c.off /\ jV c /\ jC c /\ Bx c /\
 RU c /\ qZ /\ AT = AT /\ (∀ (n : Int), hasN (List.take a_2 c.ns) n = LD (hasN (List.take a c.ns)) (gD c.ns a).mi n) /\ (∀ (n : Int), stK c.ns a_2 n = zH (hasN (List.take a c.ns)) (stK c.ns a) (gD c.ns
 a).mi n) /\ ∀ (n : Int), ((ntOf (List.take a_2 c.ns) n).mi = bif NH n c a then (gD c.ns a).mi else (ntOf (List.take a c.ns) n).mi) /\ ((ntOf (List.take a_2 c.ns) n).t.lo = bif NH n c a then (gD c.ns a).t.lo
 else (ntOf (List.take a c.ns) n).t.lo) /\ ((ntOf (List.take a_2 c.ns) n).t.hi = bif NH n c a then (gD c.ns a).t.hi else (ntOf (List.take a c.ns) n).t.hi) /\ ((ntOf (List.take a_2 c.ns) n).s.lo = bif NH n c
 a then (gD c.ns a).s.lo else (ntOf (List.take a c.ns) n).s.lo) /\ (ntOf (List.take a_2 c.ns) n).s.hi = bif NH n c a then (gD c.ns a).s.hi else (ntOf (List.take a c.ns) n).s.hi) /\ a_2.le c.ns.length /\ jH c
 a_2 < jH c a else False) := by kernel_rfl
theorem CB (c : Cht) : Cht.mk c.p c.base c.scale c.off c.ms c.ns = c := rfl
theorem AKH (c : Cht) : (AH c).c = c := rfl
theorem BKQ (l : List Nt) (x : Nt) (j : Int) : hasN (l ++ [x]) j = LD (hasN l) x.mi j := by
 unfold hasN LD; rw [List.any_append, Bool.or_comm]
 simp only [List.any_cons, List.any_nil, Bool.or_false]
 congr 1
 rw [Bool.eq_iff_iff, beq_iff_eq, decide_eq_true_eq]; exact eq_comm
theorem CGV (l : List Nt) (x : Nt) (j : Int) : ntOf (l ++ [x]) j = bif decide (j = x.mi) then x else ntOf l j := by
 induction l with
 | nil =>
  simp only [List.nil_append, ntOf, hasN, List.any_nil, cond_false]
  have : (x.mi == j) = decide (j = x.mi) := by rw [Bool.eq_iff_iff, beq_iff_eq, decide_eq_true_eq]; exact eq_comm
  rw [this]
 | cons y l ih =>
  simp only [List.cons_append, ntOf, ih, BKQ, LD]
  cases decide (j = x.mi) <;> rfl
theorem CVT (c : Cht) (h : (c.ms.length < 4611686018427387904 /\ c.ns.length < 4611686018427387904) /\ AK c = 0) : CJU c := by
 obtain ⟨⟨hm, hn⟩, h0⟩ := h
 rw [CQZ]; delta yL zE BCM D9 xY D6 AQD BIT Rc Oq AAC ADV ALG eR AGS RP U3; simp only [CC, eq_self, implies_true, forall_const, CB, AKH, h0]
 refine ⟨⟨hm, hn⟩, (λ h => by simp at h), λ _ => ⟨⟨0, ⟨rfl, rfl, λ _ => rfl, λ _ => rfl, λ _ => ⟨rfl, rfl, rfl, rfl, rfl⟩⟩, Nat.zero_le _⟩, λ k hk => ⟨λ hlt => ?_, λ hge => ?_⟩⟩⟩
 ·have hlt : k < c.ns.length := by omega
  refine ⟨by omega, k + 1, ⟨(GK (by omega)).symm, λ n => ?_, λ n => rfl, λ n => ?_⟩, by omega, by omega⟩
  ·rw [Ck hlt, BKQ]
  ·rw [Ck hlt, CGV]
   cases decide (n = (gD c.ns k).mi) <;> exact ⟨rfl, rfl, rfl, rfl, rfl⟩
 ·obtain rfl : k = c.ns.length := by omega
  simp [AH]
theorem xA : AM Try.prog GX (C_open.spec dC1) := LM C_open BQE [(0, 201), (1, 202)] [] BKM (λ _ => by kernel_rfl) (λ _ => AC BYM AJ) (λ c h => CVT c h) (λ _ => OA rfl rfl) _
theorem yD : AM Try.prog GX (C_openX.spec dC1) := LM C_openX BQE [] [] BKM (λ _ => by kernel_rfl) (λ _ => AC BYM AJ) (λ (c : Cht) h => by
 obtain ⟨⟨hm, hn⟩, h0⟩ : (c.ms.length < 4611686018427387904 /\ c.ns.length < 4611686018427387904) /\ AK c ≠ 0 := h
 have h0' : (AK c != 0) = true := by simpa using h0
 show CFE c; rw [CML]; delta cL Xf AHG Xo Zd cP AJX W2 ABR Bx RU gT jV jC qZ kJ NH jH; simp only [CC, eq_self, implies_true, forall_const, CB, h0']
 simp [hm, hn]) (λ _ => OA rfl rfl) _
def PP (m : Int) : Int -> List Int -> Bool
 | _, [] => true
 | a, g :: r => bif HK g (wr (a + 1)) (wr (m - 2)) then PP m g r else false
def P3 (m : Int) : Int -> List Int -> (Nat -> Bool) -> Nat -> Bool
 | _, [], f, j => f j
 | a, g :: r, f, j => bif HK g (wr (a + 1)) (wr (m - 2)) then P3 m g r (λ i => bif decide (i = g.toNat) then true else f i) j else f j
structure DkZ where
 w : Dk
 z : List Int
def Yk (a : DkZ) : Dk := ⟨a.w.c, a.w.st, P3 a.w.c.ms.length (-1) a.z a.w.sp⟩
def dDkZ : List AVal -> Heap -> Option (DkZ × List (Nat × Nat) × List Nat)
 | [.bptr id _, y], H => match fJ H id, CDY y H with
  | some (w, q), some (l, f) => some (⟨w, l⟩, [(100, id), (101, q)], f)
  | _, _ => none
 | _, _ => none
structure StK where
 k : Nat
 m : Int
 f : Nat -> Bool
 deriving Inhabited
def stp3 (a : DkZ) : Shape := { α := StK, dflt := default, T := λ s => ⟨[(0, .bptr 100 0), (5, .int s.m), (8, .d (DK a.z)), (9, .int a.z.length), (10, .int s.k)], dkK ⟨a.w.c, a.w.st, s.f⟩⟩, inv := λ s => (s.k <= a.z.length /\ -1 <= s.m /\ s.m <= 40) /\ PP a.w.c.ms.length s.m (a.z.drop s.k) = PP a.w.c.ms.length (-1) a.z /\ ∀ j, P3 a.w.c.ms.length s.m (a.z.drop s.k) s.f j = P3 a.w.c.ms.length (-1) a.z a.w.sp j, meas := λ s => a.z.length - s.k }
def C_stop : Ctr := { ro := [101], α := DkZ, xs := λ a => [.bptr 100 0, .d (DK a.z)], L := λ a => dkL a.w, val := λ a => .bool (PP a.w.c.ms.length (-1) a.z), keep := λ a => dkK (Yk a), pre := λ a => [a.z.length < 4611686018427387904 /\ a.w.c.ms.length <= 40] }
def CIX (a : DkZ) : Ann := { ann 33 [(n_in, s_in)] with E := [100, 101], loops := λ id => if id = 3 then some [stp3 a] else none }
def CKP (a : DkZ) : Prop := BB Try.prog (CIX a) CBT (AL CBT) (C_stop.xs a) (AG (C_stop.L a)) (C_stop.val a) (C_stop.keep a) [] []
abbrev BEJ (a : DkZ) : Prop := a.z.length = a.z.length
abbrev ARY (a : DkZ) : Prop := ∀ (i : Nat), i < a.z.length -> gD a.z i = gD a.z i
abbrev ASG (a : DkZ) : Prop := (↑a.z.length : Int) = (↑a.z.length : Int)
abbrev BEY (a : DkZ) : Prop := a.w.c.p.lo = a.w.c.p.lo
abbrev BEF (a : DkZ) : Prop := a.w.c.p.hi = a.w.c.p.hi
abbrev BCT (a : DkZ) : Prop := a.w.c.base = a.w.c.base
abbrev AWM (a : DkZ) : Prop := a.w.c.scale = a.w.c.scale
abbrev ATX (a : DkZ) : Prop := a.w.c.off = a.w.c.off
abbrev BFD (a : DkZ) : Prop := a.w.c.ms.length = a.w.c.ms.length
abbrev ARP (a : DkZ) : Prop := ∀ (i : Nat), i < a.w.c.ms.length -> (gD a.w.c.ms i).pl = (gD a.w.c.ms i).pl /\ (gD a.w.c.ms i).ht = (gD a.w.c.ms i).ht
abbrev ACD (a : DkZ) : Prop := a.w.c.ns.length = a.w.c.ns.length
abbrev Zm (a : DkZ) (i : Nat) : Int := (gD a.w.c.ns i).t.lo
abbrev Xm (a : DkZ) (i : Nat) : Int := (gD a.w.c.ns i).t.hi
abbrev Yw (a : DkZ) (i : Nat) : Int := (gD a.w.c.ns i).s.lo
abbrev cN (a : DkZ) (i : Nat) : Int := (gD a.w.c.ns i).s.hi
abbrev ACJ (a : DkZ) : Prop := ∀ (i : Nat), i < a.w.c.ns.length -> (gD a.w.c.ns i).mi = (gD a.w.c.ns i).mi /\ Zm a i = Zm a i /\ Xm a i = Xm a i /\ Yw a i = Yw a i /\ cN
 a i = cN a i
abbrev AAL (a : DkZ) : Prop := AT = AT /\ (∀ (n : Int), hasN a.w.c.ns n = hasN a.w.c.ns n) /\ (∀ (n : Int), a.w.st n = a.w.st n) /\ ∀ (n : Int), (ntOf a.w.c.ns n).mi = (ntOf a.w.c.ns n).mi /\ (ntOf a.w.c.ns n).t.lo =
 (ntOf a.w.c.ns n).t.lo /\ (ntOf a.w.c.ns n).t.hi = (ntOf a.w.c.ns n).t.hi /\ (ntOf a.w.c.ns n).s.lo = (ntOf a.w.c.ns n).s.lo /\ (ntOf a.w.c.ns n).s.hi = (ntOf a.w.c.ns n).s.hi
abbrev cO (a : DkZ) : Bool := PP (↑a.w.c.ms.length : Int) (-1) a.z
abbrev Zt (a : StK) (a1 : DkZ) : Prop := (a.k <= a1.z.length /\ -1 <= a.m /\ a.m <= 40) /\ PP (↑a1.w.c.ms.length : Int) a.m (List.drop a.k a1.z) = cO a1 /\ ∀ (j : Nat), P3 (↑a1.w.c.ms.length : Int) a.m
 (List.drop a.k a1.z) a.f j = P3 (↑a1.w.c.ms.length : Int) (-1) a1.z a1.w.sp j
abbrev AHK (a : StK) (a1 : DkZ) : Prop := (↑a.k : Int) < (↑a1.z.length : Int)
abbrev U5 (a : DkZ) (a1 : StK) : Prop := (Yk a).c.p.lo = a.w.c.p.lo /\ (Yk a).c.p.hi = a.w.c.p.hi /\ (Yk a).c.base = a.w.c.base /\ (Yk a).c.scale = a.w.c.scale /\ (Yk a).c.off = a.w.c.off /\ (Yk a).c.ms.length =
 a.w.c.ms.length /\ (∀ (i : Nat), i < (Yk a).c.ms.length -> (gD (Yk a).c.ms i).pl = (gD a.w.c.ms i).pl /\ (gD (Yk a).c.ms i).ht = (gD a.w.c.ms i).ht) /\ (Yk a).c.ns.length = a.w.c.ns.length /\ (∀ (i : Nat), i < (Yk
 a).c.ns.length -> (gD (Yk a).c.ns i).mi = (gD a.w.c.ns i).mi /\ (gD (Yk a).c.ns i).t.lo = Zm a i /\ (gD (Yk a).c.ns i).t.hi = Xm a i /\ (gD (Yk a).c.ns i).s.lo = Yw a i /\ (gD (Yk a).c.ns i).s.hi =
 cN a i) /\ (∀ (i : Nat), i < 40 -> (Yk a).sp i = a1.f i) /\ AT = AT /\ (∀ (n : Int), hasN (Yk a).c.ns n = hasN a.w.c.ns n) /\ (∀ (n : Int), (Yk a).st n = a.w.st n) /\ ∀ (n : Int), (ntOf (Yk a).c.ns n).mi = (ntOf
 a.w.c.ns n).mi /\ (ntOf (Yk a).c.ns n).t.lo = (ntOf a.w.c.ns n).t.lo /\ (ntOf (Yk a).c.ns n).t.hi = (ntOf a.w.c.ns n).t.hi /\ (ntOf (Yk a).c.ns n).s.lo = (ntOf a.w.c.ns n).s.lo /\ (ntOf (Yk a).c.ns n).s.hi = (ntOf
 a.w.c.ns n).s.hi
abbrev ABB (a : DkZ) (a1 : StK) : Nat := a.z.length - a1.k
theorem COY (a : DkZ) : (CKP a) = ((∃ (a_1 : StK), (a_1.m = -1 /\ BEJ a /\ ARY a /\ ASG a /\ (↑a_1.k : Int) = 0 /\ BEY a /\ BEF a /\ BCT a /\ AWM a /\ ATX a /\ BFD a /\ ARP a
 /\ ACD a /\ ACJ a /\ (∀ (i : Nat), i < 40 -> a_1.f i = a.w.sp i) /\ AAL a) /\ Zt a_1 a) /\ ∀ (a_1 : StK), Zt a_1 a -> bif decide (AHK a_1 a) then (0 <= (↑a_1.k : Int) /\ AHK a_1 a) /\ bif
 !HK (gD a.z a_1.k) (IntKind.i64.wrap (a_1.m + 1)) (IntKind.i64.wrap ((↑a.w.c.ms.length : Int) - 2)) then cO a = false /\ U5 a a_1 else ((0 <= gD a.z a_1.k /\ gD a.z a_1.k < (↑40 : Int)) /\ (gD a.z
 a_1.k).toNat.succ.le 40) /\ ∃ (a_3 : StK), (a_3.m = gD a.z a_1.k /\ BEJ a /\ ARY a /\ ASG a /\ (↑a_3.k : Int) = IntKind.i64.wrap ((↑a_1.k : Int) + 1) /\ BEY a /\ BEF a /\ BCT a /\ AWM a /\
 ATX a /\ BFD a /\ ARP a /\ ACD a /\ ACJ a /\ (∀ (i : Nat), i < 40 -> a_3.f i = bif decide (i = (gD a.z a_1.k).toNat) then true else a_1.f i) /\ AAL a) /\ Zt a_3 a /\ ABB a a_3 <
 ABB a a_1 else cO a = true /\ U5 a a_1) := by kernel_rfl
theorem BYC (a : DkZ) : (Yk a).c = a.w.c := rfl
theorem CXY (a : DkZ) (h : a.z.length < 4611686018427387904 /\ a.w.c.ms.length <= 40) : CKP a := by
 obtain ⟨hz, hm⟩ := h
 rw [COY]; delta BEJ ARY ASG BEY BEF BCT AWM ATX BFD ARP ACD Zm Xm Yw cN ACJ AAL cO Zt AHK U5 ABB; simp only [CC, eq_self, implies_true, forall_const, BYC]
 have e2 : IntKind.i64.wrap ((a.w.c.ms.length : Int) - 2) = (a.w.c.ms.length : Int) - 2 := FC (by omega) (by omega)
 refine ⟨⟨⟨0, -1, a.w.sp⟩, ⟨rfl, rfl, λ _ _ => rfl⟩, ⟨Nat.zero_le _, by show (-1 : Int) <= -1; omega, by show (-1 : Int) <= 40; omega⟩, rfl, λ _ => rfl⟩, λ s ⟨⟨s1, s2, s3⟩, s4, s5⟩ => ⟨λ hlt => ?_, λ hge => ?_⟩⟩
 ·have hlt : s.k < a.z.length := by omega
  have hd := CDL hlt
  rw [hd] at s4 s5
  have e1 : IntKind.i64.wrap (s.m + 1) = s.m + 1 := FC (by omega) (by omega)
  refine ⟨by omega, λ h1 => ⟨?_, λ j _ => ?_, λ _ => rfl⟩, λ h1 => ?_⟩
  ·rw [<- s4]; unfold PP wr; rw [h1]; rfl
  ·show P3 _ _ _ _ j = _
   rw [<- s5 j]; unfold P3 wr; rw [h1]; rfl
  ·have h2 := h1
   rw [e1, e2] at h2
   simp only [HK, Bool.and_eq_true, decide_eq_true_eq] at h2
   refine ⟨by omega, ⟨s.k + 1, gD a.z s.k, λ i => bif decide (i = (gD a.z s.k).toNat) then true else s.f i⟩, ⟨rfl, (GK (by omega)).symm, λ _ _ => rfl⟩, ⟨⟨by show s.k + 1 <= _; omega, by show -1 <= gD a.z s.k; omega, by show gD a.z s.k <= 40; omega⟩, ?_, λ j => ?_⟩, by show a.z.length - (s.k + 1) < _; omega⟩
   ·rw [<- s4]; conv => rhs; unfold PP wr
    rw [h1]; rfl
   ·rw [<- s5 j]; conv => rhs; unfold P3 wr
    rw [h1]; rfl
 ·rw [List.drop_of_length_le (by omega)] at s4 s5
  exact ⟨s4.symm, λ j _ => (s5 j).symm, λ _ => rfl⟩
theorem BLV : AM Try.prog AYT (C_stop.spec dDkZ) := LM C_stop CIX [] [] CQU (λ _ => by kernel_rfl) (λ _ => AC BKI AJ) (λ a h => CXY a h) (λ _ => OA rfl rfl) _
structure CZ where
 c : Cht
 z : List Int
def dCZ : List AVal -> Heap -> Option (CZ × List (Nat × Nat) × List Nat)
 | [x, y], H => match BYW x H, CDY y H with
  | some (c, f), some (l, e) => some (⟨c, l⟩, [], f ++ e)
  | _, _ => none
 | _, _ => none
def xCZ (a : CZ) : List AVal := [.d (YE a.c), .d (DK a.z)]
def AI (a : CZ) : Dk := Yk ⟨AH a.c, a.z⟩
def okZ (a : CZ) : Bool := PP a.c.ms.length (-1) a.z
def Cw (a : CZ) : Int := bif AK a.c == 0 then bif okZ a then 0 else 2 else AK a.c
def C_beg : Ctr := { α := CZ, xs := xCZ, val := λ a => .tup [.bptr 0 0, .int (Cw a)], keep := λ a => dkN (AI a), pre := λ a => [(a.c.ms.length < 4611686018427387904 /\ a.c.ns.length < 4611686018427387904 /\ a.z.length < 4611686018427387904) /\ AK a.c = 0] }
def C_begX : Ctr := { α := CZ, xs := xCZ, val := λ a => .tup [.d (.v (.pointer none)), .int (Cw a)], keep := λ _ => [], pre := λ a => [(a.c.ms.length < 4611686018427387904 /\ a.c.ns.length < 4611686018427387904 /\ a.z.length < 4611686018427387904) /\ AK a.c ≠ 0] }
def CUZ : Ann := { ann 23 [(GX, C_open.spec dC1), (AYT, C_stop.spec dDkZ)] with md := λ id => if id = 2 then some λ k => if k = 3 ∨ k = 4 ∨ k = 5 ∨ k = 6 then 8 else 0 else none }
def CHS : Ann := { ann 23 [(GX, C_openX.spec dC1)] with md := λ id => if id = 2 then some λ k => if k = 3 ∨ k = 4 ∨ k = 5 ∨ k = 6 then 9 else 0 else none }
def CUL (a : CZ) : Prop := BB Try.prog CUZ zI (AL zI) (xCZ a) (AG []) (C_beg.val a) (C_beg.keep a) [(0, 2016), (1, 2017)] []
abbrev ANZ (a : CZ) : List Mk := AE a.c.ms.length λ (i : Nat) => gD a.c.ms i
abbrev APH (a : CZ) : Nat := (ANZ a).length
abbrev BPD (a : CZ) (i : Nat) : Mk := gD (ANZ a) i
abbrev APC (a : CZ) : List Nt := AE a.c.ns.length λ (i : Nat) => gD a.c.ns i
abbrev ANU (a : CZ) : Nat := (APC a).length
abbrev APK (a : CZ) (i : Nat) : Nt := gD (APC a) i
abbrev BNH (a : CZ) (i : Nat) : Span := (APK a i).t
abbrev BVP (a : CZ) (i : Nat) : Span := (APK a i).s
abbrev BTA (a : CZ) : Cht := Cht.mk a.c.p a.c.base a.c.scale a.c.off (ANZ a) (APC a)
abbrev K8 (a : CZ) : List Int := AE a.z.length λ (i : Nat) => gD a.z i
abbrev E9 (a : CZ) : Nat := (K8 a).length
abbrev Kx (a : CZ) : Dk := AH (BTA a)
abbrev TV (a : CZ) : Cht := (Kx a).c
abbrev zZ (a : CZ) : Span := (TV a).p
abbrev BBY (a : CZ) : Int := (zZ a).lo
abbrev AYP (a : CZ) : Int := (zZ a).hi
abbrev H8 (a : CZ) : Int := (TV a).base
abbrev wN (a : CZ) : Int := (TV a).scale
abbrev M3 (a : CZ) : Int := (TV a).off
abbrev ASI (a : CZ) : List Mk := (TV a).ms
abbrev BEO (a : CZ) : Nat := (ASI a).length
abbrev N1 (a : CZ) (i : Nat) : Mk := gD (ASI a) i
abbrev wY (a : CZ) : List Mk := AE (BEO a) λ (i : Nat) => N1 a i
abbrev Vq (a : CZ) : Nat := (wY a).length
abbrev AWZ (a : CZ) (i : Nat) : Mk := gD (wY a) i
abbrev Se (a : CZ) : List Nt := (TV a).ns
abbrev BCD (a : CZ) : Nat := (Se a).length
abbrev Wr (a : CZ) (i : Nat) : Nt := gD (Se a) i
abbrev Dd (a : CZ) : List Nt := AE (BCD a) λ (i : Nat) => Wr a i
abbrev BHT (a : CZ) : Nat := (Dd a).length
abbrev G8 (a : CZ) (i : Nat) : Nt := gD (Dd a) i
abbrev BFC (a : CZ) (i : Nat) : Span := (G8 a i).t
abbrev BBH (a : CZ) (i : Nat) : Span := (Wr a i).t
abbrev BJF (a : CZ) (i : Nat) : Span := (G8 a i).s
abbrev BGY (a : CZ) (i : Nat) : Span := (Wr a i).s
abbrev xW (a : CZ) (n : Int) : Bool := hasN (Se a) n
abbrev Mj (a : CZ) (n : Int) : Int := (Kx a).st n
abbrev yU (a : CZ) (n : Int) : Nt := ntOf (Dd a) n
abbrev L3 (a : CZ) (n : Int) : Nt := ntOf (Se a) n
abbrev vG (a : CZ) (n : Int) : Int := (L3 a n).mi
abbrev AZH (a : CZ) (n : Int) : Span := (yU a n).t
abbrev ASO (a : CZ) (n : Int) : Span := (L3 a n).t
abbrev B5 (a : CZ) (n : Int) : Int := (ASO a n).lo
abbrev N7 (a : CZ) (n : Int) : Int := (ASO a n).hi
abbrev BHP (a : CZ) (n : Int) : Span := (yU a n).s
abbrev BCN (a : CZ) (n : Int) : Span := (L3 a n).s
abbrev B9 (a : CZ) (n : Int) : Int := (BCN a n).lo
abbrev uV (a : CZ) (n : Int) : Int := (BCN a n).hi
abbrev vR (a : CZ) : Dk := Yk (DkZ.mk (Dk.mk (Cht.mk (zZ a) (H8 a) (wN a) (M3 a) (wY a) (Dd a)) (Kx a).st (Kx a).sp) (K8 a))
abbrev UB (a : CZ) : Cht := (vR a).c
abbrev Sg (a : CZ) : List Nt := (UB a).ns
abbrev zL (a : CZ) (n : Int) : Nt := ntOf (Sg a) n
abbrev BAO (a : CZ) (n : Int) : Span := (zL a n).t
abbrev BBZ (a : CZ) (n : Int) : Span := (zL a n).s
abbrev BAV (a : CZ) : Span := (UB a).p
abbrev BIC (a : CZ) : List Mk := (UB a).ms
abbrev BCO (a : CZ) (i : Nat) : Mk := gD (BIC a) i
abbrev uC (a : CZ) (i : Nat) : Nt := gD (Sg a) i
abbrev AWL (a : CZ) (i : Nat) : Span := (uC a i).t
abbrev AZV (a : CZ) (i : Nat) : Span := (uC a i).s
abbrev AVY (a : CZ) : Prop := (AI a).c.p.lo = (BAV a).lo /\ (AI a).c.p.hi = (BAV a).hi /\ (AI a).c.base = (UB a).base /\ (AI a).c.scale = (UB a).scale /\ (AI a).c.off = (UB a).off /\
 (AI a).c.ms.length = (BIC a).length /\ (∀ (i : Nat), i < (AI a).c.ms.length -> (gD (AI a).c.ms i).pl = (BCO a i).pl /\ (gD (AI a).c.ms i).ht = (BCO a i).ht) /\ (AI a).c.ns.length = (Sg
 a).length /\ (∀ (i : Nat), i < (AI a).c.ns.length -> (gD (AI a).c.ns i).mi = (uC a i).mi /\ (gD (AI a).c.ns i).t.lo = (AWL a i).lo /\ (gD (AI a).c.ns i).t.hi = (AWL a i).hi /\ (gD (AI a).c.ns i).s.lo
 = (AZV a i).lo /\ (gD (AI a).c.ns i).s.hi = (AZV a i).hi) /\ (∀ (i : Nat), i < 40 -> (AI a).sp i = (vR a).sp i) /\ AT = AT /\ (∀ (n : Int), hasN (AI a).c.ns n = xW a n) /\ (∀ (n : Int), (AI
 a).st n = Mj a n) /\ ∀ (n : Int), (ntOf (AI a).c.ns n).mi = vG a n /\ (ntOf (AI a).c.ns n).t.lo = B5 a n /\ (ntOf (AI a).c.ns n).t.hi = N7 a n /\ (ntOf (AI a).c.ns n).s.lo = B9 a n /\
 (ntOf (AI a).c.ns n).s.hi = uV a n
theorem CXV (a : CZ) : (CUL a) = ((a.c.p.lo = a.c.p.lo /\ a.c.p.hi = a.c.p.hi /\ a.c.base = a.c.base /\ a.c.scale = a.c.scale /\ a.c.off = a.c.off /\ APH a = a.c.ms.length /\ (∀ (i : Nat), i < APH a -> (BPD a
 i).pl = (gD a.c.ms i).pl /\ (BPD a i).ht = (gD a.c.ms i).ht) /\ ANU a = a.c.ns.length /\ (∀ (i : Nat), i < ANU a -> (APK a i).mi = (gD a.c.ns i).mi /\ (BNH a i).lo = (gD a.c.ns i).t.lo /\ (BNH a i).hi =
 (gD a.c.ns i).t.hi /\ (BVP a i).lo = (gD a.c.ns i).s.lo /\ (BVP a i).hi = (gD a.c.ns i).s.hi) /\ (APH a < 4611686018427387904 /\ ANU a < 4611686018427387904) /\ AK (BTA a) = 0) /\ true = true /\ true =
 true /\ true = true /\ (E9 a = a.z.length /\ (∀ (i : Nat), i < E9 a -> gD (K8 a) i = gD a.z i) /\ BBY a = BBY a /\ AYP a = AYP a /\ H8 a = H8 a /\ wN a = wN a /\
 M3 a = M3 a /\ Vq a = BEO a /\ (∀ (i : Nat), i < Vq a -> (AWZ a i).pl = (N1 a i).pl /\ (AWZ a i).ht = (N1 a i).ht) /\ BHT a = BCD a /\ (∀ (i : Nat), i < BHT a ->
 (G8 a i).mi = (Wr a i).mi /\ (BFC a i).lo = (BBH a i).lo /\ (BFC a i).hi = (BBH a i).hi /\ (BJF a i).lo = (BGY a i).lo /\ (BJF a i).hi = (BGY a i).hi) /\ (∀ (i : Nat), i <
 40 -> false = false) /\ AT = AT /\ (∀ (n : Int), hasN (Dd a) n = xW a n) /\ (∀ (n : Int), Mj a n = Mj a n) /\ (∀ (n : Int), (yU a n).mi = vG a n /\ (AZH a n).lo = B5 a n /\
 (AZH a n).hi = N7 a n /\ (BHP a n).lo = B9 a n /\ (BHP a n).hi = uV a n) /\ AT = AT /\ (∀ (n : Int), xW a n = hasN (Sg a) n) /\ (∀ (n : Int), Mj a n = (vR a).st n) /\
 (∀ (n : Int), vG a n = (zL a n).mi /\ B5 a n = (BAO a n).lo /\ N7 a n = (BAO a n).hi /\ B9 a n = (BBZ a n).lo /\ uV a n = (BBZ a n).hi) /\ E9 a <
 4611686018427387904 /\ Vq a <= 40) /\ true = true /\ bif bif 0 == 0 then !PP (↑(Vq a) : Int) (-1) (K8 a) else false then Cw a = 2 /\ AVY a else Cw a = 0 /\ AVY a) := by kernel_rfl
def CLJ (a : CZ) : Prop := BB Try.prog CHS zI (AL zI) (xCZ a) (AG []) (C_begX.val a) [] [] []
theorem CRD (a : CZ) : (CLJ a) = ((a.c.p.lo = a.c.p.lo /\ a.c.p.hi = a.c.p.hi /\ a.c.base = a.c.base /\ a.c.scale = a.c.scale /\ a.c.off = a.c.off /\ (AE a.c.ms.length λ (i : Nat) => gD a.c.ms i).length =
 a.c.ms.length /\ (∀ (i : Nat), i < (AE a.c.ms.length λ (i : Nat) => gD a.c.ms i).length -> (gD (AE a.c.ms.length λ (i : Nat) => gD a.c.ms i) i).pl = (gD a.c.ms i).pl /\ (gD (AE a.c.ms.length λ (i : Nat) => gD
 a.c.ms i) i).ht = (gD a.c.ms i).ht) /\ (AE a.c.ns.length λ (i : Nat) => gD a.c.ns i).length = a.c.ns.length /\ (∀ (i : Nat), i < (AE a.c.ns.length λ (i : Nat) => gD a.c.ns i).length -> (gD (AE a.c.ns.length λ (i :
 Nat) => gD a.c.ns i) i).mi = (gD a.c.ns i).mi /\ (gD (AE a.c.ns.length λ (i : Nat) => gD a.c.ns i) i).t.lo = (gD a.c.ns i).t.lo /\ (gD (AE a.c.ns.length λ (i : Nat) => gD a.c.ns i) i).t.hi = (gD a.c.ns i).t.hi /\ (gD
 (AE a.c.ns.length λ (i : Nat) => gD a.c.ns i) i).s.lo = (gD a.c.ns i).s.lo /\ (gD (AE a.c.ns.length λ (i : Nat) => gD a.c.ns i) i).s.hi = (gD a.c.ns i).s.hi) /\ ((AE a.c.ms.length λ (i : Nat) => gD a.c.ms
 i).length < 4611686018427387904 /\ (AE a.c.ns.length λ (i : Nat) => gD a.c.ns i).length < 4611686018427387904) /\ AK (Cht.mk a.c.p a.c.base a.c.scale a.c.off (AE a.c.ms.length λ (i : Nat) => gD a.c.ms i) (AE
 a.c.ns.length λ (i : Nat) => gD a.c.ns i)) ≠ 0) /\ (AK (Cht.mk a.c.p a.c.base a.c.scale a.c.off (AE a.c.ms.length λ (i : Nat) => gD a.c.ms i) (AE a.c.ns.length λ (i : Nat) => gD a.c.ns i)) == 0) = false /\
 (AK (Cht.mk a.c.p a.c.base a.c.scale a.c.off (AE a.c.ms.length λ (i : Nat) => gD a.c.ms i) (AE a.c.ns.length λ (i : Nat) => gD a.c.ns i)) == 0) = false /\ (AK (Cht.mk a.c.p a.c.base a.c.scale a.c.off (AE
 a.c.ms.length λ (i : Nat) => gD a.c.ms i) (AE a.c.ns.length λ (i : Nat) => gD a.c.ns i)) == 0) = false /\ (AK (Cht.mk a.c.p a.c.base a.c.scale a.c.off (AE a.c.ms.length λ (i : Nat) => gD a.c.ms i) (AE
 a.c.ns.length λ (i : Nat) => gD a.c.ns i)) == 0) = false /\ ((AK (Cht.mk a.c.p a.c.base a.c.scale a.c.off (AE a.c.ms.length λ (i : Nat) => gD a.c.ms i) (AE a.c.ns.length λ (i : Nat) => gD a.c.ns i)) == 0) =
 true -> false = true) /\ bif bif AK (Cht.mk a.c.p a.c.base a.c.scale a.c.off (AE a.c.ms.length λ (i : Nat) => gD a.c.ms i) (AE a.c.ns.length λ (i : Nat) => gD a.c.ns i)) == 0 then false else false then
 Value.pointer none = Value.pointer none /\ Cw a = 2 else Value.pointer none = Value.pointer none /\ Cw a = AK (Cht.mk a.c.p a.c.base a.c.scale a.c.off (AE a.c.ms.length λ (i : Nat) => gD a.c.ms i) (AE
 a.c.ns.length λ (i : Nat) => gD a.c.ns i))) := by kernel_rfl
theorem Oy (a : CZ) : (AI a).c = a.c := rfl
theorem YF (w : Dk) : Dk.mk w.c w.st w.sp = w := rfl
theorem ET {c : Cht} (h : AK c = 0) : LN c = 0 /\ (1 <= c.ms.length /\ c.ms.length <= 40) /\ c.ns.length <= 20 := by
 have h1 : LN c = 0 := by
  unfold AK at h
  cases hc : (LN c != 0) with
  | false => simpa using hc
  | true => rw [hc] at h; simpa using h
 refine ⟨h1, ?_⟩
 unfold LN at h1
 cases hc : (bif !HK c.ms.length 1 40 then true else decide ((c.ns.length : Int) > 20)) with
 | true => rw [hc] at h1; cases h1
 | false =>
  cases hb : HK c.ms.length 1 40 with
  | false => rw [hb] at hc; cases hc
  | true =>
   rw [hb] at hc
   have hc : decide ((c.ns.length : Int) > 20) = false := hc
   simp only [HK, Bool.and_eq_true, decide_eq_true_eq, decide_eq_false_iff_not] at hb hc
   omega
theorem CYQ (a : CZ) (h : (a.c.ms.length < 4611686018427387904 /\ a.c.ns.length < 4611686018427387904 /\ a.z.length < 4611686018427387904) /\ AK a.c = 0) : CUL a := by
 obtain ⟨⟨hm, hn, hz⟩, h0⟩ := h
 have hl := ET h0
 rw [CXV]; delta ANZ APH BPD APC ANU APK BNH BVP BTA K8 E9 Kx TV zZ BBY AYP H8 wN M3 ASI BEO N1 wY Vq AWZ Se BCD Wr Dd BHT G8 BFC BBH BJF BGY xW Mj yU L3 vG AZH ASO B5 N7 BHP BCN B9 uV vR UB Sg zL BAO BBZ BAV BIC BCO uC AWL AZV AVY; simp only [CC, eq_self, implies_true, forall_const, CB, AKH, YF, BYC, Oy]
 have e : Cw a = bif okZ a then 0 else 2 := by unfold Cw; rw [h0]; rfl
 have e2 : PP a.c.ms.length (-1) a.z = okZ a := rfl
 have e3 : Yk ⟨AH a.c, a.z⟩ = AI a := rfl
 simp only [e, e2, e3, Oy]
 have e4 : ∀ n, (AH a.c).st n = (AI a).st n := λ _ => rfl
 cases okZ a <;> simp [hm, hn, hz, h0, hl.2.1.2, e4] <;> exact ⟨λ _ => rfl, λ _ _ => rfl⟩
theorem CHZ : AM Try.prog xQ (C_beg.spec dCZ) := LM C_beg (λ _ => CUZ) [(0, 2016), (1, 2017)] [] BWN (λ _ => by kernel_rfl) (λ _ => AC xA (AC BLV AJ)) (λ a h => CYQ a h) (λ _ => OA rfl rfl) _
theorem CQV : AM Try.prog xQ (C_begX.spec dCZ) := LM C_begX (λ _ => CHS) [] [] BWN (λ _ => by kernel_rfl) (λ _ => AC yD AJ) (λ (a : CZ) h => by
 obtain ⟨⟨hm, hn, hz⟩, h0⟩ : (a.c.ms.length < 4611686018427387904 /\ a.c.ns.length < 4611686018427387904 /\ a.z.length < 4611686018427387904) /\ AK a.c ≠ 0 := h
 have h0' : (AK a.c == 0) = false := by simpa using h0
 have e : Cw a = AK a.c := by unfold Cw; rw [h0']; rfl
 show CLJ a; rw [CRD]; simp only [CC, eq_self, implies_true, forall_const, CB, h0', e]
 simp [hm, hn, h0]) (λ _ => OA rfl rfl) _
end Go.Bal
