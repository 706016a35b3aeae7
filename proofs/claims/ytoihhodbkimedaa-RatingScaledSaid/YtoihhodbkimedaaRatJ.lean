/- Package rating: Flow, Reach. -/
import Derived.Test.YtoihhodbkimedaaRatI
set_option linter.unusedVariables false
set_option linter.unusedSimpArgs false
namespace Go.Bal
open Go Go.Sym Go.Proofs
structure GBt where
 g : List Gau
 b : List Int
 t : Int
def dGBt : List AVal -> Heap -> Option (GBt × List (Nat × Nat) × List Nat)
 | [x, y, .d t], H => match AIZ x H, AEV y H with
  | some (l, f), some (m, e) => some (⟨l, m, DK t⟩, [], f ++ e)
  | _, _ => none
 | _, _ => none
def xGBt (a : GBt) : List AVal := [.d (BO a.g), .d (BL a.b), .int a.t]
def KI (a : GBt) : GB := ⟨a.g, a.b⟩
def inT (a : GBt) : Bool := FT a.t 0 2000
def preT (a : GBt) : Prop := a.g.length < 4611686018427387904 /\ a.b.length < 4611686018427387904
def C_stg : Ctr := { α := GBt, xs := xGBt, L := λ _ => [], val := λ _ => .tup [.bptr 0 0, .int 0], keep := λ a => [(0, .live (bkB (BG (KI a)) 1)), (1, .live (bkM (BG (KI a))))], pre := λ a => [preT a /\ AV (KI a) = 0 /\ inT a = true] }
def C_stgA : Ctr := { α := GBt, xs := xGBt, L := λ _ => [], val := λ _ => .tup [.bptr 0 0, .int 4], keep := λ a => [(0, .live (bkB (BG (KI a)) 1)), (1, .live (bkM (BG (KI a))))], pre := λ a => [preT a /\ AV (KI a) = 0 /\ inT a = false] }
def C_stgX : Ctr := { α := GBt, xs := xGBt, L := λ _ => [], val := λ a => .tup [.d (.v (.pointer none)), .int (AV (KI a))], keep := λ _ => [], pre := λ a => [preT a /\ AV (KI a) ≠ 0] }
def BQI : Ann := ann 25 [(TW, C_open.spec dGB), (J5, s_in)]
def BZD : Ann := ann 25 [(TW, C_openX.spec dGB), (J5, s_in)]
def CIX (a : GBt) : Prop := AY Try.prog BQI SS (AF SS) (xGBt a) (AC []) (C_stg.val a) (C_stg.keep a) [(0, 2032), (1, 2033)] []
abbrev AHG (a : GBt) : List Gau := AD a.g.length λ (i : Nat) => gD a.g i
abbrev AHQ (a : GBt) : Nat := (AHG a).length
abbrev AGZ (a : GBt) (i : Nat) : Gau := gD (AHG a) i
abbrev AIH (a : GBt) : List Int := AD a.b.length λ (i : Nat) => gD a.b i
abbrev AFW (a : GBt) : Nat := (AIH a).length
abbrev BFR (a : GBt) : GB := GB.mk (AHG a) (AIH a)
abbrev pH (a : GBt) : Bk := BG (BFR a)
abbrev BED (a : GBt) : List Gau := (pH a).g
abbrev AFS (a : GBt) (i : Nat) : Gau := gD (BED a) i
abbrev BIZ (a : GBt) : List Int := (pH a).b
abbrev AKB : Value := Value.slice none (0 : Nat) (0 : Nat)
abbrev AMY (a : GBt) (n : Int) : List Ln := AK (pH a) n
abbrev Kr (a : GBt) (n : Int) (i : Nat) : Ln := gD (AMY a n) i
abbrev AJH (a : GBt) : Prop := (BG (KI a)).g.length = (BED a).length /\ (∀ (i : Nat), i < (BG (KI a)).g.length -> (gD (BG (KI a)).g i).st = (AFS a i).st /\ (gD (BG (KI a)).g i).lo = (AFS a i).lo
 /\ (gD (BG (KI a)).g i).hi = (AFS a i).hi) /\ (BG (KI a)).b.length = (BIZ a).length /\ (∀ (i : Nat), i < (BG (KI a)).b.length -> gD (BG (KI a)).b i = gD (BIZ a) i) /\ AKB = AKB /\ (∀ (n :
 Int), false = false) /\ (∀ (n : Int), (BG (KI a)).st n = (pH a).st n) /\ ∀ (n : Int), (AK (BG (KI a)) n).length = (AMY a n).length /\ ∀ (i : Nat), i < (AK (BG (KI a)) n).length -> (gD (AK (BG (KI a))
 n) i).a0 = (Kr a n i).a0 /\ (gD (AK (BG (KI a)) n) i).a1 = (Kr a n i).a1 /\ (gD (AK (BG (KI a)) n) i).b0 = (Kr a n i).b0 /\ (gD (AK (BG (KI a)) n) i).b1 = (Kr a n i).b1
theorem CKX (a : GBt) : (CIX a) = ((AHQ a = a.g.length /\ (∀ (i : Nat), i < AHQ a -> (AGZ a i).st = (gD a.g i).st /\ (AGZ a i).lo = (gD a.g i).lo /\ (AGZ a i).hi = (gD a.g i).hi) /\ AFW a =
 a.b.length /\ (∀ (i : Nat), i < AFW a -> gD (AIH a) i = gD a.b i) /\ AHQ a < (4611686018427387904 : Nat) /\ AFW a < (4611686018427387904 : Nat) /\ AV (BFR a) = (0 : Int)) /\ bif bif (0 : Int) == (0 :
 Int) then !FT a.t (0 : Int) (2000 : Int) else false then Int.ofNat (0 : Nat) = Int.ofNat (4 : Nat) /\ AJH a else Int.ofNat (0 : Nat) = Int.ofNat (0 : Nat) /\ AJH a) := by kernel_rfl
def BYW (a : GBt) : Prop := AY Try.prog BQI SS (AF SS) (xGBt a) (AC []) (C_stgA.val a) (C_stgA.keep a) [(0, 2032), (1, 2033)] []
abbrev tJ (a : GBt) : List Gau := AD a.g.length λ (i : Nat) => gD a.g i
abbrev pK (a : GBt) : Nat := (tJ a).length
abbrev qM (a : GBt) (i : Nat) : Gau := gD (tJ a) i
abbrev rO (a : GBt) : List Int := AD a.b.length λ (i : Nat) => gD a.b i
abbrev pB (a : GBt) : Nat := (rO a).length
abbrev AQI (a : GBt) : GB := GB.mk (tJ a) (rO a)
abbrev Og (a : GBt) : Bk := BG (AQI a)
abbrev AKU (a : GBt) : List Gau := (Og a).g
abbrev wS (a : GBt) (i : Nat) : Gau := gD (AKU a) i
abbrev ANT (a : GBt) : List Int := (Og a).b
abbrev yU : Value := Value.slice none (0 : Nat) (0 : Nat)
abbrev A1 (a : GBt) (n : Int) : List Ln := AK (Og a) n
abbrev WS (a : GBt) (n : Int) (i : Nat) : Ln := gD (A1 a n) i
abbrev F6 (a : GBt) : Prop := (BG (KI a)).g.length = (AKU a).length /\ (∀ (i : Nat), i < (BG (KI a)).g.length -> (gD (BG (KI a)).g i).st = (wS a i).st /\ (gD (BG (KI a)).g i).lo = (wS a
 i).lo /\ (gD (BG (KI a)).g i).hi = (wS a i).hi) /\ (BG (KI a)).b.length = (ANT a).length /\ (∀ (i : Nat), i < (BG (KI a)).b.length -> gD (BG (KI a)).b i = gD (ANT a) i) /\ yU = yU /\
 (∀ (n : Int), false = false) /\ (∀ (n : Int), (BG (KI a)).st n = (Og a).st n) /\ ∀ (n : Int), (AK (BG (KI a)) n).length = (A1 a n).length /\ ∀ (i : Nat), i < (AK (BG (KI a)) n).length -> (gD (AK
 (BG (KI a)) n) i).a0 = (WS a n i).a0 /\ (gD (AK (BG (KI a)) n) i).a1 = (WS a n i).a1 /\ (gD (AK (BG (KI a)) n) i).b0 = (WS a n i).b0 /\ (gD (AK (BG (KI a)) n) i).b1 = (WS a n i).b1
theorem CFI (a : GBt) : (BYW a) = ((pK a = a.g.length /\ (∀ (i : Nat), i < pK a -> (qM a i).st = (gD a.g i).st /\ (qM a i).lo = (gD a.g i).lo /\ (qM a i).hi = (gD a.g i).hi) /\ pB a
 = a.b.length /\ (∀ (i : Nat), i < pB a -> gD (rO a) i = gD a.b i) /\ pK a < (4611686018427387904 : Nat) /\ pB a < (4611686018427387904 : Nat) /\ AV (AQI a) = (0 : Int)) /\ bif bif (0 : Int) ==
 (0 : Int) then !FT a.t (0 : Int) (2000 : Int) else false then Int.ofNat (4 : Nat) = Int.ofNat (4 : Nat) /\ F6 a else Int.ofNat (4 : Nat) = Int.ofNat (0 : Nat) /\ F6 a) := by kernel_rfl
def BZY (a : GBt) : Prop := AY Try.prog BZD SS (AF SS) (xGBt a) (AC []) (C_stgX.val a) [] [] []
theorem CEN (a : GBt) : (BZY a) = (((AD a.g.length λ (i : Nat) => gD a.g i).length = a.g.length /\ (∀ (i : Nat), i < (AD a.g.length λ (i : Nat) => gD a.g i).length -> (gD (AD a.g.length λ (i : Nat) => gD
 a.g i) i).st = (gD a.g i).st /\ (gD (AD a.g.length λ (i : Nat) => gD a.g i) i).lo = (gD a.g i).lo /\ (gD (AD a.g.length λ (i : Nat) => gD a.g i) i).hi = (gD a.g i).hi) /\ (AD a.b.length λ (i : Nat) => gD a.b
 i).length = a.b.length /\ (∀ (i : Nat), i < (AD a.b.length λ (i : Nat) => gD a.b i).length -> gD (AD a.b.length λ (i : Nat) => gD a.b i) i = gD a.b i) /\ (AD a.g.length λ (i : Nat) => gD a.g i).length <
 4611686018427387904 /\ (AD a.b.length λ (i : Nat) => gD a.b i).length < 4611686018427387904 /\ AV (GB.mk (AD a.g.length λ (i : Nat) => gD a.g i) (AD a.b.length λ (i : Nat) => gD a.b i)) ≠ 0) /\ bif bif AV
 (GB.mk (AD a.g.length λ (i : Nat) => gD a.g i) (AD a.b.length λ (i : Nat) => gD a.b i)) == 0 then !FT a.t 0 2000 else false then Value.pointer none = Value.pointer none /\ AV (KI a) = 4 else Value.pointer none
 = Value.pointer none /\ AV (KI a) = AV (GB.mk (AD a.g.length λ (i : Nat) => gD a.g i) (AD a.b.length λ (i : Nat) => gD a.b i))) := by kernel_rfl
theorem CKQ : AG Try.prog SF (C_stg.spec dGBt) := JX C_stg (λ _ => BQI) [(0, 2032), (1, 2033)] [] N2 (λ _ => by kernel_rfl) (λ _ => AB AGG (AB Ka AE)) (λ (a : GBt) h => by
 show CIX a; rw [CKX]; delta AHG AHQ AGZ AIH AFW BFR pH BED AFS BIZ AKB AMY Kr AJH; simp only [CC, eq_self, implies_true, forall_const, show GB.mk a.g a.b = KI a from rfl]
 obtain ⟨⟨h1, h2⟩, h3, h4⟩ : preT a /\ AV (KI a) = 0 /\ inT a = true := h
 unfold inT at h4
 refine ⟨⟨h1, h2, h3⟩, λ h => ?_⟩
 rw [show (!FT a.t 0 2000) = false by rw [h4]; rfl] at h; cases h) (λ _ => KJ rfl rfl) _
theorem CDK : AG Try.prog SF (C_stgA.spec dGBt) := JX C_stgA (λ _ => BQI) [(0, 2032), (1, 2033)] [] N2 (λ _ => by kernel_rfl) (λ _ => AB AGG (AB Ka AE)) (λ (a : GBt) h => by
 show BYW a; rw [CFI]; delta tJ pK qM rO pB AQI Og AKU wS ANT yU A1 WS F6; simp only [CC, eq_self, implies_true, forall_const, show GB.mk a.g a.b = KI a from rfl]
 obtain ⟨⟨h1, h2⟩, h3, h4⟩ : preT a /\ AV (KI a) = 0 /\ inT a = false := h
 unfold inT at h4
 refine ⟨⟨h1, h2, h3⟩, λ h => ?_⟩
 rw [show (!FT a.t 0 2000) = true by rw [h4]; rfl] at h; cases h) (λ _ => KJ rfl rfl) _
theorem CFK : AG Try.prog SF (C_stgX.spec dGBt) := JX C_stgX (λ _ => BZD) [] [] N2 (λ _ => by kernel_rfl) (λ _ => AB AOM (AB Ka AE)) (λ (a : GBt) h => by
 show BZY a; rw [CEN]; simp only [CC, eq_self, implies_true, forall_const]
 obtain ⟨⟨h1, h2⟩, h3⟩ : preT a /\ AV (KI a) ≠ 0 := h
 refine ⟨⟨h1, h2, h3⟩, λ h => ?_, λ _ => rfl⟩
 have h3 : AV (GB.mk a.g a.b) ≠ 0 := h3
 rw [show (AV (GB.mk a.g a.b) == 0) = false by simpa using h3] at h; cases h) (λ _ => KJ rfl rfl) _
def bkT (a : GBt) : BkT := ⟨BG (KI a), a.t⟩
def GD (a : GBt) : Int := bif AV (KI a) == 0 then (bif inT a then (bif decide ((lB (bkT a)).length = 0) then 6 else 0) else 4) else AV (KI a)
def AS (a : GBt) : Bnd := bif GD a == 0 then VT (lB (bkT a)) a.t else default
def C_Flow : Ctr := { α := GBt, xs := xGBt, L := λ _ => [], val := λ a => .tup [.d (eBnd (AS a)), .int (GD a)], keep := λ _ => [], pre := λ a => [preT a /\ True] }
def BQT : Ann := ann 33 [(SF, C_stg.spec dGBt), (TH, C_bnd.spec dBkt)]
def BQO : Ann := ann 33 [(SF, C_stgA.spec dGBt), (TH, C_bnd.spec dBkt)]
def BTD : Ann := { ann 33 [(SF, C_stgX.spec dGBt), (TH, C_bnd.spec dBkt)] with cut := λ id => if id = 4 then some [] else none }
def BTA (a : GBt) : Prop := AY Try.prog BQT Wu (AF Wu) (xGBt a) (AC []) (C_Flow.val a) [] [] []
abbrev Pq (a : GBt) : List Gau := AD a.g.length λ (i : Nat) => gD a.g i
abbrev Sw (a : GBt) : Nat := (Pq a).length
abbrev Rw (a : GBt) (i : Nat) : Gau := gD (Pq a) i
abbrev Qk (a : GBt) : List Int := AD a.b.length λ (i : Nat) => gD a.b i
abbrev Oz (a : GBt) : Nat := (Qk a).length
abbrev ACE (a : GBt) : GBt := GBt.mk (Pq a) (Qk a) a.t
abbrev J3 (a : GBt) : GB := KI (ACE a)
abbrev NY (a : GBt) : Bk := BG (J3 a)
abbrev Q9 (a : GBt) : List Gau := (NY a).g
abbrev XZ (a : GBt) : Nat := (Q9 a).length
abbrev TN (a : GBt) (i : Nat) : Gau := gD (Q9 a) i
abbrev UJ (a : GBt) : List Gau := AD (XZ a) λ (i : Nat) => TN a i
abbrev Dg (a : GBt) : Nat := (UJ a).length
abbrev Fr (a : GBt) (i : Nat) : Gau := gD (UJ a) i
abbrev aW (a : GBt) (i : Nat) : Int := (TN a i).st
abbrev bD (a : GBt) (i : Nat) : Int := (TN a i).lo
abbrev lL (a : GBt) (i : Nat) : Int := (TN a i).hi
abbrev bC (a : GBt) : List Int := (NY a).b
abbrev TT (a : GBt) : Nat := (bC a).length
abbrev Cd (a : GBt) (i : Nat) : Int := gD (bC a) i
abbrev MW (a : GBt) : List Int := AD (TT a) λ (i : Nat) => Cd a i
abbrev Cx (a : GBt) : Nat := (MW a).length
abbrev oA : Value := Value.slice none 0 0
abbrev nF (a : GBt) (n : Int) : Int := (NY a).st n
abbrev Cm (a : GBt) : Bk := Bk.mk (UJ a) (MW a) (NY a).has (NY a).st
abbrev dM (a : GBt) (n : Int) : List Ln := AK (Cm a) n
abbrev Zw (a : GBt) (n : Int) : Nat := (dM a n).length
abbrev bI (a : GBt) (n : Int) : List Ln := AK (NY a) n
abbrev TB (a : GBt) (n : Int) (i : Nat) : Ln := gD (dM a n) i
abbrev TP (a : GBt) (n : Int) (i : Nat) : Ln := gD (bI a n) i
abbrev fJ (a : GBt) : BkT := BkT.mk (Cm a) a.t
abbrev lI (a : GBt) : Bk := CK (Cm a) (kB (fJ a))
abbrev jO (a : GBt) : List Gau := (lI a).g
abbrev Hb (a : GBt) (i : Nat) : Gau := gD (jO a) i
abbrev gV (a : GBt) : List Int := (lI a).b
abbrev Ww (a : GBt) : List Ln := lB (fJ a)
abbrev jT (a : GBt) : Bnd := VT (Ww a) a.t
abbrev Xx (a : GBt) : Rt := (jT a).lo
abbrev cD (a : GBt) : Rt := (jT a).hi
theorem BVO (a : GBt) : (BTA a) = ((Sw a = a.g.length /\ (∀ (i : Nat), i < Sw a -> (Rw a i).st = (gD a.g i).st /\ (Rw a i).lo = (gD a.g i).lo /\ (Rw a i).hi = (gD a.g i).hi) /\
 Oz a = a.b.length /\ (∀ (i : Nat), i < Oz a -> gD (Qk a) i = gD a.b i) /\ a.t = a.t /\ (Sw a < 4611686018427387904 /\ Oz a < 4611686018427387904) /\ AV (J3 a) = 0 /\ inT (ACE
 a) = true) /\ (a.t = a.t /\ Dg a = XZ a /\ (∀ (i : Nat), i < Dg a -> (Fr a i).st = aW a i /\ (Fr a i).lo = bD a i /\ (Fr a i).hi = lL a i) /\ Cx a =
 TT a /\ (∀ (i : Nat), i < Cx a -> gD (MW a) i = Cd a i) /\ oA = oA /\ (∀ (n : Int), false = false) /\ (∀ (n : Int), nF a n = nF a n) /\ (∀ (n : Int), Zw a
 n = (bI a n).length /\ ∀ (i : Nat), i < Zw a n -> (TB a n i).a0 = (TP a n i).a0 /\ (TB a n i).a1 = (TP a n i).a1 /\ (TB a n i).b0 = (TP a n i).b0 /\ (TB
 a n i).b1 = (TP a n i).b1) /\ XZ a = (jO a).length /\ (∀ (i : Nat), i < XZ a -> aW a i = (Hb a i).st /\ bD a i = (Hb a i).lo /\ lL a i = (Hb a
 i).hi) /\ TT a = (gV a).length /\ (∀ (i : Nat), i < TT a -> Cd a i = gD (gV a) i) /\ (Dg a <= 24 /\ (∀ (x : Gau), List.Mem x (UJ a) -> 0 <= x.st /\ x.st <= 2000 /\ 0 <= x.lo /\
 x.lo <= x.hi /\ x.hi <= 200000) /\ Cx a <= 24 /\ List.Pairwise (λ (x1 x2 : Int) => x1 < x2) (MW a) /\ ∀ (x : Int), List.Mem x (MW a) -> 1 <= x /\ x <= 2000) /\ 0 <= a.t /\ a.t <= 2000) /\ bif !decide
 ((Ww a).length ≠ 0) then (AS a).lo.n = 0 /\ (AS a).lo.d = 0 /\ (AS a).hi.n = 0 /\ (AS a).hi.d = 0 /\ GD a = 6 else (AS a).lo.n = (Xx a).n /\ (AS a).lo.d = (Xx a).d /\ (AS a).hi.n
 = (cD a).n /\ (AS a).hi.d = (cD a).d /\ GD a = 0) := by kernel_rfl
def BSD (a : GBt) : Prop := AY Try.prog BQO Wu (AF Wu) (xGBt a) (AC []) (C_Flow.val a) [] [] []
theorem CAU (a : GBt) : (BSD a) = (((AD a.g.length λ (i : Nat) => gD a.g i).length = a.g.length /\ (∀ (i : Nat), i < (AD a.g.length λ (i : Nat) => gD a.g i).length -> (gD (AD a.g.length λ (i : Nat) => gD
 a.g i) i).st = (gD a.g i).st /\ (gD (AD a.g.length λ (i : Nat) => gD a.g i) i).lo = (gD a.g i).lo /\ (gD (AD a.g.length λ (i : Nat) => gD a.g i) i).hi = (gD a.g i).hi) /\ (AD a.b.length λ (i : Nat) => gD a.b
 i).length = a.b.length /\ (∀ (i : Nat), i < (AD a.b.length λ (i : Nat) => gD a.b i).length -> gD (AD a.b.length λ (i : Nat) => gD a.b i) i = gD a.b i) /\ a.t = a.t /\ ((AD a.g.length λ (i : Nat) => gD a.g i).length
 < 4611686018427387904 /\ (AD a.b.length λ (i : Nat) => gD a.b i).length < 4611686018427387904) /\ AV (KI (GBt.mk (AD a.g.length λ (i : Nat) => gD a.g i) (AD a.b.length λ (i : Nat) => gD a.b i) a.t)) = 0 /\ inT
 (GBt.mk (AD a.g.length λ (i : Nat) => gD a.g i) (AD a.b.length λ (i : Nat) => gD a.b i) a.t) = false) /\ (AS a).lo.n = 0 /\ (AS a).lo.d = 0 /\ (AS a).hi.n = 0 /\ (AS a).hi.d = 0 /\ GD a = 4) := by
 kernel_rfl
def BRO (a : GBt) : Prop := AY Try.prog BTD Wu (AF Wu) (xGBt a) (AC []) (C_Flow.val a) [] [] []
theorem CAE (a : GBt) : (BRO a) = (((AD a.g.length λ (i : Nat) => gD a.g i).length = a.g.length /\ (∀ (i : Nat), i < (AD a.g.length λ (i : Nat) => gD a.g i).length -> (gD (AD a.g.length λ (i : Nat) => gD
 a.g i) i).st = (gD a.g i).st /\ (gD (AD a.g.length λ (i : Nat) => gD a.g i) i).lo = (gD a.g i).lo /\ (gD (AD a.g.length λ (i : Nat) => gD a.g i) i).hi = (gD a.g i).hi) /\ (AD a.b.length λ (i : Nat) => gD a.b
 i).length = a.b.length /\ (∀ (i : Nat), i < (AD a.b.length λ (i : Nat) => gD a.b i).length -> gD (AD a.b.length λ (i : Nat) => gD a.b i) i = gD a.b i) /\ a.t = a.t /\ ((AD a.g.length λ (i : Nat) => gD a.g i).length
 < 4611686018427387904 /\ (AD a.b.length λ (i : Nat) => gD a.b i).length < 4611686018427387904) /\ AV (KI (GBt.mk (AD a.g.length λ (i : Nat) => gD a.g i) (AD a.b.length λ (i : Nat) => gD a.b i) a.t)) ≠ 0) /\
 (bif AV (KI (GBt.mk (AD a.g.length λ (i : Nat) => gD a.g i) (AD a.b.length λ (i : Nat) => gD a.b i) a.t)) != 0 then (AS a).lo.n = 0 /\ (AS a).lo.d = 0 /\ (AS a).hi.n = 0 /\ (AS a).hi.d = 0 /\ GD a =
 AV (KI (GBt.mk (AD a.g.length λ (i : Nat) => gD a.g i) (AD a.b.length λ (i : Nat) => gD a.b i) a.t)) else False) /\ True) := by kernel_rfl
theorem BWR : ∀ (l : List Int) (x : Int), 0 <= x /\ x <= 2000 -> brk x l = 0 -> l.Pairwise (· < ·) /\ ∀ y ∈ l, x < y /\ y <= 2000
 | [], _, _, _ => ⟨.nil, by simp⟩
 | z :: l, x, hx, h => by
  unfold brk at h
  cases hi : FT z (wr (x + 1)) 2000 with
  | false => rw [hi] at h; cases h
  | true =>
   rw [hi] at h
   unfold wr FT at hi
   rw [EO (n := x + 1) (by omega) (by omega)] at hi
   simp only [Bool.and_eq_true, decide_eq_true_eq] at hi
   obtain ⟨h1, h2⟩ := BWR l z (by omega) h
   refine ⟨List.pairwise_cons.2 ⟨λ y hy => (h2 y hy).1, h1⟩, λ y hy => ?_⟩
   rcases List.mem_cons.1 hy with rfl | hy
   ·exact ⟨by omega, by omega⟩
   ·have := h2 y hy; exact ⟨by omega, this.2⟩
theorem AIG {a : GB} (h : AV a = 0) : HI a.g a.b := by
 unfold AV at h
 cases h1 : AT a.g == 0 with
 | false => rw [h1] at h; rw [show AT a.g = 0 from h] at h1; cases h1
 | true =>
  rw [h1] at h
  have h : GN a.b = 0 := h
  have h1 : AT a.g = 0 := by simpa using h1
  unfold AT at h1
  cases h2 : FT a.g.length 1 24 with
  | false => rw [h2] at h1; cases h1
  | true =>
   rw [h2] at h1
   cases h3 : a.g.all Tf with
   | false => rw [h3] at h1; cases h1
   | true =>
    unfold FT at h2
    simp only [Bool.and_eq_true, decide_eq_true_eq] at h2
    unfold GN at h
    split at h
    ·cases h
    ·obtain ⟨h5, h6⟩ := BWR _ 0 (by omega) h
     refine ⟨by omega, λ x hx => ?_, by omega, h5, λ y hy => ⟨by have := h6 y hy; omega, (h6 y hy).2⟩⟩
     have := List.all_eq_true.1 h3 x hx
     unfold Tf FT at this
     simp only [Bool.and_eq_true, decide_eq_true_eq] at this
     unfold GY; omega
theorem BDM : AG Try.prog BEF (C_Flow.spec dGBt) := Ctr.spec_ok (C := C_Flow) (λ (a : GBt) h => by
 have h : preT a := (show preT a /\ True from h).1
 by_cases hE : AV (KI a) = 0
 ·cases hT : inT a with
  | true =>
   refine RD (A := BQT) (L := []) (keep := []) (ren := []) (fz := []) BGM (by kernel_rfl) (AB CKQ (AB Zv AE)) ?_
   show BTA a; rw [BVO]; delta Pq Sw Rw Qk Oz ACE J3 NY Q9 XZ TN UJ Dg Fr aW bD lL bC TT Cd MW Cx oA nF Cm dM Zw bI TB TP fJ lI jO Hb gV Ww jT Xx cD; simp only [CC, eq_self, implies_true, forall_const, LB, OO, Vi, Vs, OR, show GBt.mk a.g a.b a.t = a from rfl, show BkT.mk (BG (KI a)) a.t = bkT a from rfl]
   have hi : 0 <= a.t /\ a.t <= 2000 := by
    unfold inT FT at hT; simpa using hT
   have hb : HI (KI a).g (KI a).b := AIG hE
   refine ⟨⟨h, hE, hT⟩, ⟨hb, hi⟩, λ hc => ?_, λ hc => ?_⟩
   ·have e : GD a = 6 := by unfold GD; rw [hE, hT, decide_eq_true (show (lB (bkT a)).length = 0 by omega)]; rfl
    have e2 : AS a = default := by unfold AS; rw [e]; rfl
    rw [e2]; exact ⟨rfl, rfl, rfl, rfl, e⟩
   ·have e : GD a = 0 := by unfold GD; rw [hE, hT, decide_eq_false hc]; rfl
    have e2 : AS a = VT (lB (bkT a)) a.t := by unfold AS; rw [e]; rfl
    rw [e2]; exact ⟨rfl, rfl, rfl, rfl, e⟩
  | false =>
   refine RD (A := BQO) (L := []) (keep := []) (ren := []) (fz := []) BGM (by kernel_rfl) (AB CDK (AB Zv AE)) ?_
   show BSD a; rw [CAU]; simp only [CC, eq_self, implies_true, forall_const, show GBt.mk a.g a.b a.t = a from rfl]
   have e : GD a = 4 := by unfold GD; rw [hE, hT]; rfl
   have e2 : AS a = default := by unfold AS; rw [e]; rfl
   rw [e2]; exact ⟨⟨h, hE, hT⟩, rfl, rfl, rfl, rfl, e⟩
 ·refine RD (A := BTD) (L := []) (keep := []) (ren := []) (fz := []) BGM (by kernel_rfl) (AB CFK (AB Zv AE)) ?_
  show BRO a; rw [CAE]; simp only [CC, eq_self, implies_true, forall_const, show GBt.mk a.g a.b a.t = a from rfl]
  have e : GD a = AV (KI a) := by unfold GD; rw [show (AV (KI a) == 0) = false by simpa using hE]; rfl
  have e2 : AS a = default := by unfold AS; rw [e, show (AV (KI a) == 0) = false by simpa using hE]; rfl
  rw [e2]; exact ⟨⟨h, hE⟩, λ _ => ⟨rfl, rfl, rfl, rfl, e⟩, λ hc => hE (by simpa using hc)⟩) _
end Go.Bal
