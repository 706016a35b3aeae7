/- Package rating: Reach. -/
import Derived.Test.YtoihhodbkimedaaGreatRatJ
set_option linter.unusedVariables false
set_option linter.unusedSimpArgs false
namespace Go.Bal
open Go Go.Sym Go.Proofs
structure GBu where
 a : GBt
 u : Bool
def dGBu : List AVal -> Heap -> Option (GBu × List (Nat × Nat) × List Nat)
 | [x, y, .d t, .d u], H => match Bc x H, XT y H with
  | some (l, f), some (m, e) => some (⟨⟨l, m, DH t⟩, CPR u⟩, [], f ++ e)
  | _, _ => none
 | _, _ => none
def xGBu (x : GBu) : List AVal := [.d (AS x.a.g), .d (BC x.a.b), .int x.a.t, .bool x.u]
def GD (x : GBu) : Ln := bif BD x.a == 0 then (bif x.u then GI LR x.a.t (lB (bkT x.a)) else GI LS x.a.t (lB (bkT x.a))) else default
def C_Reach : Ctr := { α := GBu, xs := xGBu, L := λ _ => [], val := λ x => .tup [.d (eLn (GD x)), .int (BD x.a)], keep := λ _ => [], pre := λ x => [preT x.a /\ True] }
def CFK (c : Sym.Spec) : List (FuncId × Sym.Spec) := [(QD, c), (BGU, C_less.spec d0), (ATR, C_more.spec d0), (ASM, orS ((JF LS FW).spec (dBkT FW)) ((JF LR FG).spec (dBkT FG)))]
def BNO : Ann := ann 40 (CFK (C_stg.spec Yi))
def BNZ : Ann := ann 40 (CFK (C_stgA.spec Yi))
def BLR : Ann := { ann 40 (CFK (C_stgX.spec Yi)) with cut := λ id => if id = 4 then some [] else none }
def BNR (x : GBu) : Prop := AN Try.prog BNO Hq (AF Hq) (xGBu x) (AC []) (C_Reach.val x) [] [] []
abbrev Hm (x : GBu) : List Gau := AE x.a.g.length λ (i : Nat) => gD x.a.g i
abbrev Ef (x : GBu) : Nat := (Hm x).length
abbrev Ii (x : GBu) (i : Nat) : Gau := gD (Hm x) i
abbrev Gp (x : GBu) : List Int := AE x.a.b.length λ (i : Nat) => gD x.a.b i
abbrev In (x : GBu) : Nat := (Gp x).length
abbrev cP (x : GBu) : GBt := GBt.mk (Hm x) (Gp x) x.a.t
abbrev bQ (x : GBu) : GB := GA (cP x)
abbrev KB (x : GBu) : Bk := AP (bQ x)
abbrev jY (x : GBu) : List Gau := (KB x).g
abbrev TE (x : GBu) : Nat := (jY x).length
abbrev PX (x : GBu) (i : Nat) : Gau := gD (jY x) i
abbrev QF (x : GBu) : List Gau := AE (TE x) λ (i : Nat) => PX x i
abbrev VG (x : GBu) : Nat := (QF x).length
abbrev UY (x : GBu) (i : Nat) : Gau := gD (QF x) i
abbrev Jy (x : GBu) (i : Nat) : Int := (PX x i).st
abbrev Mr (x : GBu) (i : Nat) : Int := (PX x i).lo
abbrev Mf (x : GBu) (i : Nat) : Int := (PX x i).hi
abbrev Om (x : GBu) : List Int := (KB x).b
abbrev PE (x : GBu) : Nat := (Om x).length
abbrev VK (x : GBu) (i : Nat) : Int := gD (Om x) i
abbrev KO (x : GBu) : List Int := AE (PE x) λ (i : Nat) => VK x i
abbrev VA (x : GBu) : Nat := (KO x).length
abbrev Ng : Value := Value.slice none 0 0
abbrev Qb (x : GBu) (n : Int) : Int := (KB x).st n
abbrev VP (x : GBu) : Bk := Bk.mk (QF x) (KO x) (KB x).has (KB x).st
abbrev Ou (x : GBu) (n : Int) : List Ln := AK (VP x) n
abbrev Pz (x : GBu) (n : Int) : Nat := (Ou x n).length
abbrev Mw (x : GBu) (n : Int) : List Ln := AK (KB x) n
abbrev PS (x : GBu) (n : Int) (i : Nat) : Ln := gD (Ou x n) i
abbrev PZ (x : GBu) (n : Int) (i : Nat) : Ln := gD (Mw x n) i
abbrev Qi (x : GBu) : BkT := BkT.mk (VP x) x.a.t
abbrev Kf (x : GBu) : Bk := CF (VP x) (kB (Qi x))
abbrev Py (x : GBu) : List Gau := (Kf x).g
abbrev VW (x : GBu) (i : Nat) : Gau := gD (Py x) i
abbrev Qa (x : GBu) : List Int := (Kf x).b
abbrev Pi (x : GBu) : Prop := x.a.t = x.a.t /\ VG x = TE x /\ (∀ (i : Nat), i < VG x -> (UY x i).st = Jy x i /\ (UY x i).lo = Mr x i /\ (UY x
 i).hi = Mf x i) /\ VA x = PE x /\ (∀ (i : Nat), i < VA x -> gD (KO x) i = VK x i) /\ Ng = Ng /\ (∀ (n : Int), false = false) /\ (∀ (n : Int), Qb
 x n = Qb x n) /\ (∀ (n : Int), Pz x n = (Mw x n).length /\ ∀ (i : Nat), i < Pz x n -> (PS x n i).a0 = (PZ x n i).a0 /\ (PS x n i).a1 = (PZ x n i).a1 /\
 (PS x n i).b0 = (PZ x n i).b0 /\ (PS x n i).b1 = (PZ x n i).b1) /\ TE x = (Py x).length /\ (∀ (i : Nat), i < TE x -> Jy x i = (VW x i).st /\
 Mr x i = (VW x i).lo /\ Mf x i = (VW x i).hi) /\ PE x = (Qa x).length /\ (∀ (i : Nat), i < PE x -> VK x i = gD (Qa x) i) /\ (VG x <= 24
 /\ (∀ (x_1 : Gau), List.Mem x_1 (QF x) -> 0 <= x_1.st /\ x_1.st <= 2000 /\ 0 <= x_1.lo /\ x_1.lo <= x_1.hi /\ x_1.hi <= 200000) /\ VA x <= 24 /\ List.Pairwise (λ (x1 x2 : Int) => x1 < x2) (KO x) /\ ∀ (x_1 :
 Int), List.Mem x_1 (KO x) -> 1 <= x_1 /\ x_1 <= 2000) /\ 0 <= x.a.t /\ x.a.t <= 2000
abbrev VY (x : GBu) : List Ln := lB (Qi x)
abbrev Lc (x : GBu) : Nat := (VY x).length
abbrev Qg (x : GBu) : Bool := !decide (Lc x ≠ 0)
abbrev Kw (x : GBu) : Prop := (GD x).a0 = 0 /\ (GD x).a1 = 0 /\ (GD x).b0 = 0 /\ (GD x).b1 = 0 /\ BD x.a = 6
abbrev Pe (x : GBu) : Bool := decide (Lc x = 0)
abbrev PQ (x : GBu) : Ln := bif Pe x then default else GI LR x.a.t (VY x)
abbrev Nn (x : GBu) : Prop := BD x.a = 0
abbrev PN (x : GBu) : Ln := bif Pe x then default else GI LS x.a.t (VY x)
theorem BXV (x : GBu) : (BNR x) = ((Ef x = x.a.g.length /\ (∀ (i : Nat), i < Ef x -> (Ii x i).st = (gD x.a.g i).st /\ (Ii x i).lo = (gD x.a.g i).lo /\ (Ii x i).hi = (gD
 x.a.g i).hi) /\ In x = x.a.b.length /\ (∀ (i : Nat), i < In x -> gD (Gp x) i = gD x.a.b i) /\ x.a.t = x.a.t /\ (Ef x < 4611686018427387904 /\ In x < 4611686018427387904) /\ AH
 (bQ x) = 0 /\ inT (cP x) = true) /\ bif x.u then Pi x /\ bif Qg x then Kw x else (GD x).a0 = (PQ x).a0 /\ (GD x).a1 = (PQ x).a1 /\ (GD x).b0 = (PQ
 x).b0 /\ (GD x).b1 = (PQ x).b1 /\ Nn x else Pi x /\ bif Qg x then Kw x else (GD x).a0 = (PN x).a0 /\ (GD x).a1 = (PN x).a1 /\ (GD x).b0 = (PN
 x).b0 /\ (GD x).b1 = (PN x).b1 /\ Nn x) := by kernel_rfl
def BLX (x : GBu) : Prop := AN Try.prog BNZ Hq (AF Hq) (xGBu x) (AC []) (C_Reach.val x) [] [] []
theorem BZG (x : GBu) : (BLX x) = (((AE x.a.g.length λ (i : Nat) => gD x.a.g i).length = x.a.g.length /\ (∀ (i : Nat), i < (AE x.a.g.length λ (i : Nat) => gD x.a.g i).length -> (gD (AE x.a.g.length λ (i
 : Nat) => gD x.a.g i) i).st = (gD x.a.g i).st /\ (gD (AE x.a.g.length λ (i : Nat) => gD x.a.g i) i).lo = (gD x.a.g i).lo /\ (gD (AE x.a.g.length λ (i : Nat) => gD x.a.g i) i).hi = (gD x.a.g i).hi) /\ (AE x.a.b.length
 λ (i : Nat) => gD x.a.b i).length = x.a.b.length /\ (∀ (i : Nat), i < (AE x.a.b.length λ (i : Nat) => gD x.a.b i).length -> gD (AE x.a.b.length λ (i : Nat) => gD x.a.b i) i = gD x.a.b i) /\ x.a.t = x.a.t /\ ((AE
 x.a.g.length λ (i : Nat) => gD x.a.g i).length < 4611686018427387904 /\ (AE x.a.b.length λ (i : Nat) => gD x.a.b i).length < 4611686018427387904) /\ AH (GA (GBt.mk (AE x.a.g.length λ (i : Nat) => gD x.a.g i)
 (AE x.a.b.length λ (i : Nat) => gD x.a.b i) x.a.t)) = 0 /\ inT (GBt.mk (AE x.a.g.length λ (i : Nat) => gD x.a.g i) (AE x.a.b.length λ (i : Nat) => gD x.a.b i) x.a.t) = false) /\ (GD x).a0 = 0 /\ (GD x).a1 = 0 /\
 (GD x).b0 = 0 /\ (GD x).b1 = 0 /\ BD x.a = 4) := by kernel_rfl
def BLT (x : GBu) : Prop := AN Try.prog BLR Hq (AF Hq) (xGBu x) (AC []) (C_Reach.val x) [] [] []
theorem BYA (x : GBu) : (BLT x) = (((AE x.a.g.length λ (i : Nat) => gD x.a.g i).length = x.a.g.length /\ (∀ (i : Nat), i < (AE x.a.g.length λ (i : Nat) => gD x.a.g i).length -> (gD (AE x.a.g.length λ (i
 : Nat) => gD x.a.g i) i).st = (gD x.a.g i).st /\ (gD (AE x.a.g.length λ (i : Nat) => gD x.a.g i) i).lo = (gD x.a.g i).lo /\ (gD (AE x.a.g.length λ (i : Nat) => gD x.a.g i) i).hi = (gD x.a.g i).hi) /\ (AE x.a.b.length
 λ (i : Nat) => gD x.a.b i).length = x.a.b.length /\ (∀ (i : Nat), i < (AE x.a.b.length λ (i : Nat) => gD x.a.b i).length -> gD (AE x.a.b.length λ (i : Nat) => gD x.a.b i) i = gD x.a.b i) /\ x.a.t = x.a.t /\ ((AE
 x.a.g.length λ (i : Nat) => gD x.a.g i).length < 4611686018427387904 /\ (AE x.a.b.length λ (i : Nat) => gD x.a.b i).length < 4611686018427387904) /\ AH (GA (GBt.mk (AE x.a.g.length λ (i : Nat) => gD x.a.g i)
 (AE x.a.b.length λ (i : Nat) => gD x.a.b i) x.a.t)) ≠ 0) /\ (bif AH (GA (GBt.mk (AE x.a.g.length λ (i : Nat) => gD x.a.g i) (AE x.a.b.length λ (i : Nat) => gD x.a.b i) x.a.t)) != 0 then (GD x).a0 = 0 /\
 (GD x).a1 = 0 /\ (GD x).b0 = 0 /\ (GD x).b1 = 0 /\ BD x.a = AH (GA (GBt.mk (AE x.a.g.length λ (i : Nat) => gD x.a.g i) (AE x.a.b.length λ (i : Nat) => gD x.a.b i) x.a.t)) else False) /\ True) := by
 kernel_rfl
theorem CCW : AG Try.prog BGI (C_Reach.spec dGBu) := Ctr.spec_ok (C := C_Reach) (λ (x : GBu) h => by
 have h : preT x.a := (show preT x.a /\ True from h).1
 by_cases hE : AH (GA x.a) = 0
 ·cases hT : inT x.a with
  | true =>
   refine KZ (A := BNO) (L := []) (keep := []) (ren := []) (fz := []) ALN (by kernel_rfl) (AB CFB (AB AHT (AB Vb (AB (Ha rX oB) AD)))) ?_
   show BNR x; rw [BXV]; delta Hm Ef Ii Gp In cP bQ KB jY TE PX QF VG UY Jy Mr Mf Om PE VK KO VA Ng Qb VP Ou Pz Mw PS PZ Qi Kf Py VW Qa Pi VY Lc Qg Kw Pe PQ Nn PN; simp only [CC, eq_self, implies_true, forall_const, JG, JP, Iz, Iy, JT, show GBt.mk x.a.g x.a.b x.a.t = x.a from rfl, show BkT.mk (AP (GA x.a)) x.a.t = bkT x.a from rfl]
   have hi : 0 <= x.a.t /\ x.a.t <= 2000 := by
    unfold inT BY at hT; simpa using hT
   have hb : GZ (GA x.a).g (GA x.a).b := HP hE
   have e6 : ¬(lB (bkT x.a)).length ≠ 0 -> BD x.a = 6 := λ hc => by unfold BD; rw [hE, hT, decide_eq_true (show (lB (bkT x.a)).length = 0 by omega)]; rfl
   have e0 : (lB (bkT x.a)).length ≠ 0 -> BD x.a = 0 := λ hc => by unfold BD; rw [hE, hT, decide_eq_false hc]; rfl
   refine ⟨⟨h, hE, hT⟩, λ hu => ⟨⟨hb, hi⟩, λ hc => ?_, λ hc => ?_⟩, λ hu => ⟨⟨hb, hi⟩, λ hc => ?_, λ hc => ?_⟩⟩
   ·have e2 : GD x = default := by unfold GD; rw [e6 hc]; rfl
    rw [e2]; exact ⟨rfl, rfl, rfl, rfl, e6 hc⟩
   ·have e2 : GD x = GI LR x.a.t (lB (bkT x.a)) := by unfold GD; rw [e0 hc, hu]; rfl
    rw [e2, decide_eq_false hc]; exact ⟨rfl, rfl, rfl, rfl, e0 hc⟩
   ·have e2 : GD x = default := by unfold GD; rw [e6 hc]; rfl
    rw [e2]; exact ⟨rfl, rfl, rfl, rfl, e6 hc⟩
   ·have e2 : GD x = GI LS x.a.t (lB (bkT x.a)) := by unfold GD; rw [e0 hc, hu]; rfl
    rw [e2, decide_eq_false hc]; exact ⟨rfl, rfl, rfl, rfl, e0 hc⟩
  | false =>
   refine KZ (A := BNZ) (L := []) (keep := []) (ren := []) (fz := []) ALN (by kernel_rfl) (AB BUE (AB AHT (AB Vb (AB (Ha rX oB) AD)))) ?_
   show BLX x; rw [BZG]; simp only [CC, eq_self, implies_true, forall_const, show GBt.mk x.a.g x.a.b x.a.t = x.a from rfl]
   have e : BD x.a = 4 := by unfold BD; rw [hE, hT]; rfl
   have e2 : GD x = default := by unfold GD; rw [e]; rfl
   rw [e2]; exact ⟨⟨h, hE, hT⟩, rfl, rfl, rfl, rfl, e⟩
 ·refine KZ (A := BLR) (L := []) (keep := []) (ren := []) (fz := []) ALN (by kernel_rfl) (AB BWK (AB AHT (AB Vb (AB (Ha rX oB) AD)))) ?_
  show BLT x; rw [BYA]; simp only [CC, eq_self, implies_true, forall_const, show GBt.mk x.a.g x.a.b x.a.t = x.a from rfl]
  have e : BD x.a = AH (GA x.a) := by unfold BD; rw [show (AH (GA x.a) == 0) = false by simpa using hE]; rfl
  have e2 : GD x = default := by unfold GD; rw [e, show (AH (GA x.a) == 0) = false by simpa using hE]; rfl
  rw [e2]; exact ⟨⟨h, hE⟩, λ _ => ⟨rfl, rfl, rfl, rfl, e⟩, λ hc => hE (by simpa using hc)⟩) _
end Go.Bal
