/- Package rating: Flow, Reach. -/
import Derived.Test.YtoihhodbkimedaaGreatRatI
set_option linter.unusedVariables false
set_option linter.unusedSimpArgs false
namespace Go.Bal
open Go Go.Sym Go.Proofs
structure GBt where
 g : List Gau
 b : List Int
 t : Int
def dGBt : List AVal -> Heap -> Option (GBt × List (Nat × Nat) × List Nat)
 | [x, y, .d t], H => match kX x H, Re y H with
  | some (l, f), some (m, e) => some (⟨l, m, CT t⟩, [], f ++ e)
  | _, _ => none
 | _, _ => none
def xGBt (a : GBt) : List AVal := [.d (BE a.g), .d (BD a.b), .int a.t]
def JG (a : GBt) : GB := ⟨a.g, a.b⟩
def inT (a : GBt) : Bool := CJ a.t 0 2000
def preT (a : GBt) : Prop := a.g.length < 4611686018427387904 /\ a.b.length < 4611686018427387904
def C_stg : Ctr := { α := GBt, xs := xGBt, L := λ _ => [], val := λ _ => .tup [.bptr 0 0, .int 0], keep := λ a => [(0, .live (bkB (BK (JG a)) 1)), (1, .live (bkM (BK (JG a))))], pre := λ a => [preT a /\ AX (JG a) = 0 /\ inT a = true] }
def C_stgA : Ctr := { α := GBt, xs := xGBt, L := λ _ => [], val := λ _ => .tup [.bptr 0 0, .int 4], keep := λ a => [(0, .live (bkB (BK (JG a)) 1)), (1, .live (bkM (BK (JG a))))], pre := λ a => [preT a /\ AX (JG a) = 0 /\ inT a = false] }
def C_stgX : Ctr := { α := GBt, xs := xGBt, L := λ _ => [], val := λ a => .tup [.d (.v (.pointer none)), .int (AX (JG a))], keep := λ _ => [], pre := λ a => [preT a /\ AX (JG a) ≠ 0] }
def BBL : Ann := ann 25 [(QW, C_open.spec dGB), (Qw, Uh)]
def BEK : Ann := ann 25 [(QW, C_openX.spec dGB), (Qw, Uh)]
def BQW (a : GBt) : Prop := AO Try.prog BBL QF (AF QF) (xGBt a) (AC []) (C_stg.val a) (C_stg.keep a) [(0, 2032), (1, 2033)] []
abbrev I9 (a : GBt) : List Gau := AD a.g.length λ (i : Nat) => gD a.g i
abbrev M2 (a : GBt) : Nat := (I9 a).length
abbrev G2 (a : GBt) (i : Nat) : Gau := gD (I9 a) i
abbrev G7 (a : GBt) : List Int := AD a.b.length λ (i : Nat) => gD a.b i
abbrev I1 (a : GBt) : Nat := (G7 a).length
abbrev AML (a : GBt) : GB := GB.mk (I9 a) (G7 a)
abbrev lT (a : GBt) : Bk := BK (AML a)
abbrev AMZ (a : GBt) : List Gau := (lT a).g
abbrev F7 (a : GBt) (i : Nat) : Gau := gD (AMZ a) i
abbrev AQT (a : GBt) : List Int := (lT a).b
abbrev T7 : Value := Value.slice none (0 : Nat) (0 : Nat)
abbrev AHV (a : GBt) (n : Int) : List Ln := AI (lT a) n
abbrev It (a : GBt) (n : Int) (i : Nat) : Ln := gD (AHV a n) i
abbrev Y0 (a : GBt) : Prop := (BK (JG a)).g.length = (AMZ a).length /\ (∀ (i : Nat), i < (BK (JG a)).g.length -> (gD (BK (JG a)).g i).st = (F7 a i).st /\ (gD (BK (JG a)).g i).lo = (F7 a i).lo
 /\ (gD (BK (JG a)).g i).hi = (F7 a i).hi) /\ (BK (JG a)).b.length = (AQT a).length /\ (∀ (i : Nat), i < (BK (JG a)).b.length -> gD (BK (JG a)).b i = gD (AQT a) i) /\ T7 = T7 /\ (∀ (n :
 Int), false = false) /\ (∀ (n : Int), (BK (JG a)).st n = (lT a).st n) /\ ∀ (n : Int), (AI (BK (JG a)) n).length = (AHV a n).length /\ ∀ (i : Nat), i < (AI (BK (JG a)) n).length -> (gD (AI (BK (JG a))
 n) i).a0 = (It a n i).a0 /\ (gD (AI (BK (JG a)) n) i).a1 = (It a n i).a1 /\ (gD (AI (BK (JG a)) n) i).b0 = (It a n i).b0 /\ (gD (AI (BK (JG a)) n) i).b1 = (It a n i).b1
theorem BTP (a : GBt) : (BQW a) = ((M2 a = a.g.length /\ (∀ (i : Nat), i < M2 a -> (G2 a i).st = (gD a.g i).st /\ (G2 a i).lo = (gD a.g i).lo /\ (G2 a i).hi = (gD a.g i).hi) /\ I1 a =
 a.b.length /\ (∀ (i : Nat), i < I1 a -> gD (G7 a) i = gD a.b i) /\ M2 a < (4611686018427387904 : Nat) /\ I1 a < (4611686018427387904 : Nat) /\ AX (AML a) = (0 : Int)) /\ bif bif (0 : Int) == (0 :
 Int) then !CJ a.t (0 : Int) (2000 : Int) else false then Int.ofNat (0 : Nat) = Int.ofNat (4 : Nat) /\ Y0 a else Int.ofNat (0 : Nat) = Int.ofNat (0 : Nat) /\ Y0 a) := by kernel_rfl
def BIX (a : GBt) : Prop := AO Try.prog BBL QF (AF QF) (xGBt a) (AC []) (C_stgA.val a) (C_stgA.keep a) [(0, 2032), (1, 2033)] []
abbrev lZ (a : GBt) : List Gau := AD a.g.length λ (i : Nat) => gD a.g i
abbrev fO (a : GBt) : Nat := (lZ a).length
abbrev lH (a : GBt) (i : Nat) : Gau := gD (lZ a) i
abbrev eU (a : GBt) : List Int := AD a.b.length λ (i : Nat) => gD a.b i
abbrev jG (a : GBt) : Nat := (eU a).length
abbrev ADU (a : GBt) : GB := GB.mk (lZ a) (eU a)
abbrev Ex (a : GBt) : Bk := BK (ADU a)
abbrev AFU (a : GBt) : List Gau := (Ex a).g
abbrev hZ (a : GBt) (i : Nat) : Gau := gD (AFU a) i
abbrev ACI (a : GBt) : List Int := (Ex a).b
abbrev tQ : Value := Value.slice none (0 : Nat) (0 : Nat)
abbrev rV (a : GBt) (n : Int) : List Ln := AI (Ex a) n
abbrev TO (a : GBt) (n : Int) (i : Nat) : Ln := gD (rV a n) i
abbrev tC (a : GBt) : Prop := (BK (JG a)).g.length = (AFU a).length /\ (∀ (i : Nat), i < (BK (JG a)).g.length -> (gD (BK (JG a)).g i).st = (hZ a i).st /\ (gD (BK (JG a)).g i).lo = (hZ a
 i).lo /\ (gD (BK (JG a)).g i).hi = (hZ a i).hi) /\ (BK (JG a)).b.length = (ACI a).length /\ (∀ (i : Nat), i < (BK (JG a)).b.length -> gD (BK (JG a)).b i = gD (ACI a) i) /\ tQ = tQ /\
 (∀ (n : Int), false = false) /\ (∀ (n : Int), (BK (JG a)).st n = (Ex a).st n) /\ ∀ (n : Int), (AI (BK (JG a)) n).length = (rV a n).length /\ ∀ (i : Nat), i < (AI (BK (JG a)) n).length -> (gD (AI
 (BK (JG a)) n) i).a0 = (TO a n i).a0 /\ (gD (AI (BK (JG a)) n) i).a1 = (TO a n i).a1 /\ (gD (AI (BK (JG a)) n) i).b0 = (TO a n i).b0 /\ (gD (AI (BK (JG a)) n) i).b1 = (TO a n i).b1
theorem BNQ (a : GBt) : (BIX a) = ((fO a = a.g.length /\ (∀ (i : Nat), i < fO a -> (lH a i).st = (gD a.g i).st /\ (lH a i).lo = (gD a.g i).lo /\ (lH a i).hi = (gD a.g i).hi) /\ jG a
 = a.b.length /\ (∀ (i : Nat), i < jG a -> gD (eU a) i = gD a.b i) /\ fO a < (4611686018427387904 : Nat) /\ jG a < (4611686018427387904 : Nat) /\ AX (ADU a) = (0 : Int)) /\ bif bif (0 : Int) ==
 (0 : Int) then !CJ a.t (0 : Int) (2000 : Int) else false then Int.ofNat (4 : Nat) = Int.ofNat (4 : Nat) /\ tC a else Int.ofNat (4 : Nat) = Int.ofNat (0 : Nat) /\ tC a) := by kernel_rfl
def BEN (a : GBt) : Prop := AO Try.prog BEK QF (AF QF) (xGBt a) (AC []) (C_stgX.val a) [] [] []
theorem BNR (a : GBt) : (BEN a) = (((AD a.g.length λ (i : Nat) => gD a.g i).length = a.g.length /\ (∀ (i : Nat), i < (AD a.g.length λ (i : Nat) => gD a.g i).length -> (gD (AD a.g.length λ (i : Nat) => gD
 a.g i) i).st = (gD a.g i).st /\ (gD (AD a.g.length λ (i : Nat) => gD a.g i) i).lo = (gD a.g i).lo /\ (gD (AD a.g.length λ (i : Nat) => gD a.g i) i).hi = (gD a.g i).hi) /\ (AD a.b.length λ (i : Nat) => gD a.b
 i).length = a.b.length /\ (∀ (i : Nat), i < (AD a.b.length λ (i : Nat) => gD a.b i).length -> gD (AD a.b.length λ (i : Nat) => gD a.b i) i = gD a.b i) /\ (AD a.g.length λ (i : Nat) => gD a.g i).length <
 4611686018427387904 /\ (AD a.b.length λ (i : Nat) => gD a.b i).length < 4611686018427387904 /\ AX (GB.mk (AD a.g.length λ (i : Nat) => gD a.g i) (AD a.b.length λ (i : Nat) => gD a.b i)) ≠ 0) /\ bif bif AX
 (GB.mk (AD a.g.length λ (i : Nat) => gD a.g i) (AD a.b.length λ (i : Nat) => gD a.b i)) == 0 then !CJ a.t 0 2000 else false then Value.pointer none = Value.pointer none /\ AX (JG a) = 4 else Value.pointer none
 = Value.pointer none /\ AX (JG a) = AX (GB.mk (AD a.g.length λ (i : Nat) => gD a.g i) (AD a.b.length λ (i : Nat) => gD a.b i))) := by kernel_rfl
theorem BVX : AG Try.prog QE (C_stg.spec dGBt) := GD C_stg (λ _ => BBL) [(0, 2032), (1, 2033)] [] zW (λ _ => by kernel_rfl) (λ _ => AB L1 (AB XG AE)) (λ (a : GBt) h => by
 show BQW a; rw [BTP]; delta I9 M2 G2 G7 I1 AML lT AMZ F7 AQT T7 AHV It Y0; simp only [CC, eq_self, implies_true, forall_const, show GB.mk a.g a.b = JG a from rfl]
 obtain ⟨⟨h1, h2⟩, h3, h4⟩ : preT a /\ AX (JG a) = 0 /\ inT a = true := h
 unfold inT at h4
 refine ⟨⟨h1, h2, h3⟩, λ h => ?_⟩
 rw [show (!CJ a.t 0 2000) = false by rw [h4]; rfl] at h; cases h) (λ _ => GJ rfl rfl) _
theorem BOS : AG Try.prog QE (C_stgA.spec dGBt) := GD C_stgA (λ _ => BBL) [(0, 2032), (1, 2033)] [] zW (λ _ => by kernel_rfl) (λ _ => AB L1 (AB XG AE)) (λ (a : GBt) h => by
 show BIX a; rw [BNQ]; delta lZ fO lH eU jG ADU Ex AFU hZ ACI tQ rV TO tC; simp only [CC, eq_self, implies_true, forall_const, show GB.mk a.g a.b = JG a from rfl]
 obtain ⟨⟨h1, h2⟩, h3, h4⟩ : preT a /\ AX (JG a) = 0 /\ inT a = false := h
 unfold inT at h4
 refine ⟨⟨h1, h2, h3⟩, λ h => ?_⟩
 rw [show (!CJ a.t 0 2000) = true by rw [h4]; rfl] at h; cases h) (λ _ => GJ rfl rfl) _
theorem BPV : AG Try.prog QE (C_stgX.spec dGBt) := GD C_stgX (λ _ => BEK) [] [] zW (λ _ => by kernel_rfl) (λ _ => AB W8 (AB XG AE)) (λ (a : GBt) h => by
 show BEN a; rw [BNR]; simp only [CC, eq_self, implies_true, forall_const]
 obtain ⟨⟨h1, h2⟩, h3⟩ : preT a /\ AX (JG a) ≠ 0 := h
 refine ⟨⟨h1, h2, h3⟩, λ h => ?_, λ _ => rfl⟩
 have h3 : AX (GB.mk a.g a.b) ≠ 0 := h3
 rw [show (AX (GB.mk a.g a.b) == 0) = false by simpa using h3] at h; cases h) (λ _ => GJ rfl rfl) _
def bkT (a : GBt) : BkT := ⟨BK (JG a), a.t⟩
def SK (a : GBt) : Int := bif AX (JG a) == 0 then (bif inT a then (bif decide ((lB (bkT a)).length = 0) then 6 else 0) else 4) else AX (JG a)
def FU (a : GBt) : Bnd := bif SK a == 0 then ZN (lB (bkT a)) a.t else default
def C_Flow : Ctr := { α := GBt, xs := xGBt, L := λ _ => [], val := λ a => .tup [.d (eBnd (FU a)), .int (SK a)], keep := λ _ => [], pre := λ a => [preT a /\ True] }
def AZA : Ann := ann 33 [(QE, C_stg.spec dGBt), (RY, C_bnd.spec dBkt)]
def BAW : Ann := ann 33 [(QE, C_stgA.spec dGBt), (RY, C_bnd.spec dBkt)]
def BCH : Ann := { ann 33 [(QE, C_stgX.spec dGBt), (RY, C_bnd.spec dBkt)] with cut := λ id => if id = 4 then some [] else none }
def BCL (a : GBt) : Prop := AO Try.prog AZA Yr (AF Yr) (xGBt a) (AC []) (C_Flow.val a) [] [] []
abbrev Nn (a : GBt) : List Gau := AD a.g.length λ (i : Nat) => gD a.g i
abbrev Py (a : GBt) : Nat := (Nn a).length
abbrev Oz (a : GBt) (i : Nat) : Gau := gD (Nn a) i
abbrev Qf (a : GBt) : List Int := AD a.b.length λ (i : Nat) => gD a.b i
abbrev Mf (a : GBt) : Nat := (Qf a).length
abbrev sV (a : GBt) : GBt := GBt.mk (Nn a) (Qf a) a.t
abbrev rA (a : GBt) : GB := JG (sV a)
abbrev MT (a : GBt) : Bk := BK (rA a)
abbrev qZ (a : GBt) : List Gau := (MT a).g
abbrev VZ (a : GBt) : Nat := (qZ a).length
abbrev RN (a : GBt) (i : Nat) : Gau := gD (qZ a) i
abbrev RP (a : GBt) : List Gau := AD (VZ a) λ (i : Nat) => RN a i
abbrev Bc (a : GBt) : Nat := (RP a).length
abbrev Ao (a : GBt) (i : Nat) : Gau := gD (RP a) i
abbrev Zu (a : GBt) (i : Nat) : Int := (RN a i).st
abbrev Sd (a : GBt) (i : Nat) : Int := (RN a i).lo
abbrev Sx (a : GBt) (i : Nat) : Int := (RN a i).hi
abbrev aU (a : GBt) : List Int := (MT a).b
abbrev QU (a : GBt) : Nat := (aU a).length
abbrev Cz (a : GBt) (i : Nat) : Int := gD (aU a) i
abbrev KQ (a : GBt) : List Int := AD (QU a) λ (i : Nat) => Cz a i
abbrev Bu (a : GBt) : Nat := (KQ a).length
abbrev Ui : Value := Value.slice none 0 0
abbrev Xm (a : GBt) (n : Int) : Int := (MT a).st n
abbrev Bw (a : GBt) : Bk := Bk.mk (RP a) (KQ a) (MT a).has (MT a).st
abbrev Sk (a : GBt) (n : Int) : List Ln := AI (Bw a) n
abbrev cJ (a : GBt) (n : Int) : Nat := (Sk a n).length
abbrev cY (a : GBt) (n : Int) : List Ln := AI (MT a) n
abbrev QX (a : GBt) (n : Int) (i : Nat) : Ln := gD (Sk a n) i
abbrev QV (a : GBt) (n : Int) (i : Nat) : Ln := gD (cY a n) i
abbrev cG (a : GBt) : BkT := BkT.mk (Bw a) a.t
abbrev Ww (a : GBt) : Bk := BY (Bw a) (kB (cG a))
abbrev Xt (a : GBt) : List Gau := (Ww a).g
abbrev Cp (a : GBt) (i : Nat) : Gau := gD (Xt a) i
abbrev Yp (a : GBt) : List Int := (Ww a).b
abbrev dF (a : GBt) : List Ln := lB (cG a)
abbrev dY (a : GBt) : Bnd := ZN (dF a) a.t
abbrev Zc (a : GBt) : Rt := (dY a).lo
abbrev Za (a : GBt) : Rt := (dY a).hi
theorem BLP (a : GBt) : (BCL a) = ((Py a = a.g.length /\ (∀ (i : Nat), i < Py a -> (Oz a i).st = (gD a.g i).st /\ (Oz a i).lo = (gD a.g i).lo /\ (Oz a i).hi = (gD a.g i).hi) /\
 Mf a = a.b.length /\ (∀ (i : Nat), i < Mf a -> gD (Qf a) i = gD a.b i) /\ a.t = a.t /\ (Py a < 4611686018427387904 /\ Mf a < 4611686018427387904) /\ AX (rA a) = 0 /\ inT (sV
 a) = true) /\ (a.t = a.t /\ Bc a = VZ a /\ (∀ (i : Nat), i < Bc a -> (Ao a i).st = Zu a i /\ (Ao a i).lo = Sd a i /\ (Ao a i).hi = Sx a i) /\ Bu a =
 QU a /\ (∀ (i : Nat), i < Bu a -> gD (KQ a) i = Cz a i) /\ Ui = Ui /\ (∀ (n : Int), false = false) /\ (∀ (n : Int), Xm a n = Xm a n) /\ (∀ (n : Int), cJ a
 n = (cY a n).length /\ ∀ (i : Nat), i < cJ a n -> (QX a n i).a0 = (QV a n i).a0 /\ (QX a n i).a1 = (QV a n i).a1 /\ (QX a n i).b0 = (QV a n i).b0 /\ (QX
 a n i).b1 = (QV a n i).b1) /\ VZ a = (Xt a).length /\ (∀ (i : Nat), i < VZ a -> Zu a i = (Cp a i).st /\ Sd a i = (Cp a i).lo /\ Sx a i = (Cp a
 i).hi) /\ QU a = (Yp a).length /\ (∀ (i : Nat), i < QU a -> Cz a i = gD (Yp a) i) /\ (Bc a <= 24 /\ (∀ (x : Gau), List.Mem x (RP a) -> 0 <= x.st /\ x.st <= 2000 /\ 0 <= x.lo /\
 x.lo <= x.hi /\ x.hi <= 200000) /\ Bu a <= 24 /\ List.Pairwise (λ (x1 x2 : Int) => x1 < x2) (KQ a) /\ ∀ (x : Int), List.Mem x (KQ a) -> 1 <= x /\ x <= 2000) /\ 0 <= a.t /\ a.t <= 2000) /\ bif !decide
 ((dF a).length ≠ 0) then (FU a).lo.n = 0 /\ (FU a).lo.d = 0 /\ (FU a).hi.n = 0 /\ (FU a).hi.d = 0 /\ SK a = 6 else (FU a).lo.n = (Zc a).n /\ (FU a).lo.d = (Zc a).d /\ (FU a).hi.n
 = (Za a).n /\ (FU a).hi.d = (Za a).d /\ SK a = 0) := by kernel_rfl
def AZS (a : GBt) : Prop := AO Try.prog BAW Yr (AF Yr) (xGBt a) (AC []) (C_Flow.val a) [] [] []
theorem BIK (a : GBt) : (AZS a) = (((AD a.g.length λ (i : Nat) => gD a.g i).length = a.g.length /\ (∀ (i : Nat), i < (AD a.g.length λ (i : Nat) => gD a.g i).length -> (gD (AD a.g.length λ (i : Nat) => gD
 a.g i) i).st = (gD a.g i).st /\ (gD (AD a.g.length λ (i : Nat) => gD a.g i) i).lo = (gD a.g i).lo /\ (gD (AD a.g.length λ (i : Nat) => gD a.g i) i).hi = (gD a.g i).hi) /\ (AD a.b.length λ (i : Nat) => gD a.b
 i).length = a.b.length /\ (∀ (i : Nat), i < (AD a.b.length λ (i : Nat) => gD a.b i).length -> gD (AD a.b.length λ (i : Nat) => gD a.b i) i = gD a.b i) /\ a.t = a.t /\ ((AD a.g.length λ (i : Nat) => gD a.g i).length
 < 4611686018427387904 /\ (AD a.b.length λ (i : Nat) => gD a.b i).length < 4611686018427387904) /\ AX (JG (GBt.mk (AD a.g.length λ (i : Nat) => gD a.g i) (AD a.b.length λ (i : Nat) => gD a.b i) a.t)) = 0 /\ inT
 (GBt.mk (AD a.g.length λ (i : Nat) => gD a.g i) (AD a.b.length λ (i : Nat) => gD a.b i) a.t) = false) /\ (FU a).lo.n = 0 /\ (FU a).lo.d = 0 /\ (FU a).hi.n = 0 /\ (FU a).hi.d = 0 /\ SK a = 4) := by
 kernel_rfl
def AZY (a : GBt) : Prop := AO Try.prog BCH Yr (AF Yr) (xGBt a) (AC []) (C_Flow.val a) [] [] []
theorem BMA (a : GBt) : (AZY a) = (((AD a.g.length λ (i : Nat) => gD a.g i).length = a.g.length /\ (∀ (i : Nat), i < (AD a.g.length λ (i : Nat) => gD a.g i).length -> (gD (AD a.g.length λ (i : Nat) => gD
 a.g i) i).st = (gD a.g i).st /\ (gD (AD a.g.length λ (i : Nat) => gD a.g i) i).lo = (gD a.g i).lo /\ (gD (AD a.g.length λ (i : Nat) => gD a.g i) i).hi = (gD a.g i).hi) /\ (AD a.b.length λ (i : Nat) => gD a.b
 i).length = a.b.length /\ (∀ (i : Nat), i < (AD a.b.length λ (i : Nat) => gD a.b i).length -> gD (AD a.b.length λ (i : Nat) => gD a.b i) i = gD a.b i) /\ a.t = a.t /\ ((AD a.g.length λ (i : Nat) => gD a.g i).length
 < 4611686018427387904 /\ (AD a.b.length λ (i : Nat) => gD a.b i).length < 4611686018427387904) /\ AX (JG (GBt.mk (AD a.g.length λ (i : Nat) => gD a.g i) (AD a.b.length λ (i : Nat) => gD a.b i) a.t)) ≠ 0) /\
 (bif AX (JG (GBt.mk (AD a.g.length λ (i : Nat) => gD a.g i) (AD a.b.length λ (i : Nat) => gD a.b i) a.t)) != 0 then (FU a).lo.n = 0 /\ (FU a).lo.d = 0 /\ (FU a).hi.n = 0 /\ (FU a).hi.d = 0 /\ SK a =
 AX (JG (GBt.mk (AD a.g.length λ (i : Nat) => gD a.g i) (AD a.b.length λ (i : Nat) => gD a.b i) a.t)) else False) /\ True) := by kernel_rfl
theorem AVQ : ∀ (l : List Int) (x : Int), 0 <= x /\ x <= 2000 -> pT x l = 0 -> l.Pairwise (· < ·) /\ ∀ y ∈ l, x < y /\ y <= 2000
 | [], _, _, _ => ⟨.nil, by simp⟩
 | z :: l, x, hx, h => by
  unfold pT at h
  cases hi : CJ z (wr (x + 1)) 2000 with
  | false => rw [hi] at h; cases h
  | true =>
   rw [hi] at h
   unfold wr CJ at hi
   rw [HM (n := x + 1) (by omega) (by omega)] at hi
   simp only [Bool.and_eq_true, decide_eq_true_eq] at hi
   obtain ⟨h1, h2⟩ := AVQ l z (by omega) h
   refine ⟨List.pairwise_cons.2 ⟨λ y hy => (h2 y hy).1, h1⟩, λ y hy => ?_⟩
   rcases List.mem_cons.1 hy with rfl | hy
   ·exact ⟨by omega, by omega⟩
   ·have := h2 y hy; exact ⟨by omega, this.2⟩
theorem ASM {a : GB} (h : AX a = 0) : GP a.g a.b := by
 unfold AX at h
 cases h1 : AK a.g == 0 with
 | false => rw [h1] at h; rw [show AK a.g = 0 from h] at h1; cases h1
 | true =>
  rw [h1] at h
  have h : BI a.b = 0 := h
  have h1 : AK a.g = 0 := by simpa using h1
  unfold AK at h1
  cases h2 : CJ a.g.length 1 24 with
  | false => rw [h2] at h1; cases h1
  | true =>
   rw [h2] at h1
   cases h3 : a.g.all Dz with
   | false => rw [h3] at h1; cases h1
   | true =>
    unfold CJ at h2
    simp only [Bool.and_eq_true, decide_eq_true_eq] at h2
    unfold BI at h
    split at h
    ·cases h
    ·obtain ⟨h5, h6⟩ := AVQ _ 0 (by omega) h
     refine ⟨by omega, λ x hx => ?_, by omega, h5, λ y hy => ⟨by have := h6 y hy; omega, (h6 y hy).2⟩⟩
     have := List.all_eq_true.1 h3 x hx
     unfold Dz CJ at this
     simp only [Bool.and_eq_true, decide_eq_true_eq] at this
     unfold Dd; omega
theorem BMM : AG Try.prog AYJ (C_Flow.spec dGBt) := Ctr.spec_ok (C := C_Flow) (λ (a : GBt) h => by
 have h : preT a := (show preT a /\ True from h).1
 by_cases hE : AX (JG a) = 0
 ·cases hT : inT a with
  | true =>
   refine JZ (A := AZA) (L := []) (keep := []) (ren := []) (fz := []) ALW (by kernel_rfl) (AB BVX (AB dR AE)) ?_
   show BCL a; rw [BLP]; delta Nn Py Oz Qf Mf sV rA MT qZ VZ RN RP Bc Ao Zu Sd Sx aU QU Cz KQ Bu Ui Xm Bw Sk cJ cY QX QV cG Ww Xt Cp Yp dF dY Zc Za; simp only [CC, eq_self, implies_true, forall_const, JI, NB, Rm, Rf, MZ, show GBt.mk a.g a.b a.t = a from rfl, show BkT.mk (BK (JG a)) a.t = bkT a from rfl]
   have hi : 0 <= a.t /\ a.t <= 2000 := by
    unfold inT CJ at hT; simpa using hT
   have hb : GP (JG a).g (JG a).b := ASM hE
   refine ⟨⟨h, hE, hT⟩, ⟨hb, hi⟩, λ hc => ?_, λ hc => ?_⟩
   ·have e : SK a = 6 := by unfold SK; rw [hE, hT, decide_eq_true (show (lB (bkT a)).length = 0 by omega)]; rfl
    have e2 : FU a = default := by unfold FU; rw [e]; rfl
    rw [e2]; exact ⟨rfl, rfl, rfl, rfl, e⟩
   ·have e : SK a = 0 := by unfold SK; rw [hE, hT, decide_eq_false hc]; rfl
    have e2 : FU a = ZN (lB (bkT a)) a.t := by unfold FU; rw [e]; rfl
    rw [e2]; exact ⟨rfl, rfl, rfl, rfl, e⟩
  | false =>
   refine JZ (A := BAW) (L := []) (keep := []) (ren := []) (fz := []) ALW (by kernel_rfl) (AB BOS (AB dR AE)) ?_
   show AZS a; rw [BIK]; simp only [CC, eq_self, implies_true, forall_const, show GBt.mk a.g a.b a.t = a from rfl]
   have e : SK a = 4 := by unfold SK; rw [hE, hT]; rfl
   have e2 : FU a = default := by unfold FU; rw [e]; rfl
   rw [e2]; exact ⟨⟨h, hE, hT⟩, rfl, rfl, rfl, rfl, e⟩
 ·refine JZ (A := BCH) (L := []) (keep := []) (ren := []) (fz := []) ALW (by kernel_rfl) (AB BPV (AB dR AE)) ?_
  show AZY a; rw [BMA]; simp only [CC, eq_self, implies_true, forall_const, show GBt.mk a.g a.b a.t = a from rfl]
  have e : SK a = AX (JG a) := by unfold SK; rw [show (AX (JG a) == 0) = false by simpa using hE]; rfl
  have e2 : FU a = default := by unfold FU; rw [e, show (AX (JG a) == 0) = false by simpa using hE]; rfl
  rw [e2]; exact ⟨⟨h, hE⟩, λ _ => ⟨rfl, rfl, rfl, rfl, e⟩, λ hc => hE (by simpa using hc)⟩) _
end Go.Bal
