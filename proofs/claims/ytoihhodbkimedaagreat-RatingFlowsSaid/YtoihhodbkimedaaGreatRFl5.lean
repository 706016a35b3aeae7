/- Law RatingFlows: its walk. -/
import Derived.Test.YtoihhodbkimedaaGreatRFl4
import Derived.Test.YtoihhodbkimedaaGreatRatU
import Derived.Test.YtoihhodbkimedaaGreatRat0
import Derived.Test.YtoihhodbkimedaaGreatRows
import Derived.WalkKit
import Derived.ProofKit
import Derived.OpenShut
import Derived.ShutString
import Derived.ChangeOld
import Derived.Below
import Derived.ChangeArms
set_option linter.unusedVariables false
set_option linter.unusedSimpArgs false
namespace Go.Bal
open Go Go.Sym Go.Proofs
structure FlA where
 l : List Gau
 b : List Int
 s : Int
 q : Int
 f : Int
 t : Int
 u : Bool
def xFl (a : FlA) : List AVal := [.d (AS a.l), .d (BC a.b), .int a.s, .int a.q, .int a.f, .int a.t, .bool a.u]
def A_Fl : Ann := ann 207 [(BKU, BWH), (BHR, C_cdG.spec JM), (BEN, C_cdI.spec dIs1), (BRR, C_Gaus.spec JM), (BHX, C_Flow.spec Yi), (wX, C_rFlow.spec Yi), (BGI, C_Reach.spec dGBu), (BKW, BTH), (BSD, C_rRch.spec dRcA), (qE, C_Stages.spec dGBf), (BPX, C_rStg.spec dGBf), (BVX, C_Dry.spec dGB), (BQP, C_rDry.spec dGB), (AXY, C_Wid.spec dGBw), (BSM, C_Wid.spec dGBw), (BHJ, C_smI.spec dIs2), (BLB, C_smG.spec dGs2)]
def V_Fl (a : FlA) : Prop := AN Try.prog A_Fl AWB (AF AWB) (xFl a) (AC []) (.bool true) [] [] []
abbrev BSO (a : FlA) : List Gau := AE a.l.length λ (i : Nat) => gD a.l i
abbrev yH (a : FlA) : Nat := (BSO a).length
abbrev BRM (a : FlA) : Prop := yH a = a.l.length
abbrev AVP (a : FlA) (i : Nat) : Gau := gD (BSO a) i
abbrev BSG (a : FlA) (i : Nat) : Int := (AVP a i).st
abbrev BOL (a : FlA) (i : Nat) : Int := (AVP a i).lo
abbrev BRU (a : FlA) (i : Nat) : Int := (AVP a i).hi
abbrev BQT (a : FlA) : Prop := ∀ (i : Nat), i < yH a -> BSG a i = (gD a.l i).st /\ BOL a i = (gD a.l i).lo /\ BRU a i = (gD a.l i).hi
abbrev BST (a : FlA) : Prop := yH a < 1073741824 /\ True
abbrev AZW (a : FlA) : List Int := AE a.b.length λ (i : Nat) => gD a.b i
abbrev Sp (a : FlA) : Nat := (AZW a).length
abbrev VL (a : FlA) : Prop := Sp a = a.b.length
abbrev AGN (a : FlA) (i : Nat) : Int := gD (AZW a) i
abbrev VT (a : FlA) : Prop := ∀ (i : Nat), i < Sp a -> AGN a i = gD a.b i
abbrev BEM (a : FlA) : Prop := Sp a < 1073741824
abbrev Im (a : FlA) : List Gau := AE (yH a) λ (i : Nat) => AVP a i
abbrev Rv (a : FlA) : Nat := (Im a).length
abbrev HO (a : FlA) : Prop := Rv a = yH a
abbrev BER (i : Nat) (a : FlA) : Prop := i < Rv a
abbrev AJE (a : FlA) (i : Nat) : Gau := gD (Im a) i
abbrev BIW (a : FlA) (i : Nat) : Int := (AJE a i).st
abbrev BHU (a : FlA) (i : Nat) : Int := (AJE a i).lo
abbrev BCV (a : FlA) (i : Nat) : Int := (AJE a i).hi
abbrev HN (a : FlA) : Prop := ∀ (i : Nat), BER i a -> BIW a i = BSG a i /\ BHU a i = BOL a i /\ BCV a i = BRU a i
abbrev qX (a : FlA) : List Int := AE (Sp a) λ (i : Nat) => AGN a i
abbrev Ql (a : FlA) : Nat := (qX a).length
abbrev VO (a : FlA) : Prop := Ql a = Sp a
abbrev BDG (i : Nat) (a : FlA) : Prop := i < Ql a
abbrev BKJ (a : FlA) (i : Nat) : Int := gD (qX a) i
abbrev VH (a : FlA) : Prop := ∀ (i : Nat), BDG i a -> BKJ a i = AGN a i
abbrev sY (a : FlA) : Prop := (Rv a < 4611686018427387904 /\ Ql a < 4611686018427387904) /\ True
abbrev AHH (a : FlA) : Prop := Rv a < 1073741824
abbrev Dy (a : FlA) : Prop := AHH a /\ BEM a
abbrev AIG (a : FlA) : GBt := GBt.mk (Im a) (qX a) a.s
abbrev AJP (a : FlA) : Int := BD (AIG a)
abbrev AJD (a : FlA) : GBt := GBt.mk (Im a) (AZW a) a.s
abbrev BHG (a : FlA) : Int := BD (AJD a)
abbrev BCQ (a : FlA) : Bool := AJP a != BHG a
abbrev BDE (a : FlA) : Bnd := AU (AIG a)
abbrev BCT (a : FlA) : Rt := (BDE a).lo
abbrev BFP (a : FlA) : Bnd := AU (AJD a)
abbrev AIB (a : FlA) : Rt := (BFP a).lo
abbrev BIN (a : FlA) : Rt := (BDE a).hi
abbrev AHD (a : FlA) : Rt := (BFP a).hi
abbrev VF (a : FlA) : Ln := GD (GBu.mk (AIG a) a.u)
abbrev Ry (a : FlA) : Int := (VF a).a0
abbrev Qu (a : FlA) : Int := (VF a).a1
abbrev Va (a : FlA) : Int := (VF a).b0
abbrev Vv (a : FlA) : Int := (VF a).b1
abbrev BIM (a : FlA) : Bool := bif BCQ a then true else bif AJP a != 0 then !(Ry a == 0 && (Qu a == 0 && true) && (Va a == 0 && (Vv a == 0 && true) && true)) else false
abbrev BIL (a : FlA) : Bool := AJP a == 0
abbrev tF (a : FlA) : GB := GB.mk (Im a) (qX a)
abbrev BIR (a : FlA) : Span × Int := CA (GBf.mk (tF a) a.q)
abbrev vO (a : FlA) : GB := GB.mk (Im a) (AZW a)
abbrev BJM (a : FlA) : Span × Int := CA (GBf.mk (vO a) a.q)
abbrev BJD (a : FlA) : Span := (BIR a).fst
abbrev BKY (a : FlA) : Span := (BJM a).fst
abbrev BEO (a : FlA) : Span × Int := EN (tF a)
abbrev BJK (a : FlA) : Span × Int := EN (vO a)
abbrev BIT (a : FlA) : Span := (BEO a).fst
abbrev BLA (a : FlA) : Span := (BJK a).fst
abbrev BFC (a : FlA) : Int := IntKind.i64.wrap (a.t - a.f)
abbrev tM (a : FlA) : Int := IntKind.i64.wrap (a.f + 29)
abbrev BDU (a : FlA) : Prop := tM a = tM a
abbrev BGL (a : FlA) : Prop := Ql a < 1073741824
abbrev BIC (a : FlA) : Prop := AHH a /\ BGL a
abbrev BEA (a : FlA) : Int × Int := Jh (GBw.mk (tF a) a.f (tM a))
abbrev BFB (a : FlA) : Int × Int := Jh (GBw.mk (vO a) a.f (tM a))
abbrev BFZ (a : FlA) : Bool := bif (BEA a).snd == (BFB a).snd then (BEA a).fst == (BFB a).fst else false
abbrev BGO (a : FlA) : Prop := HO a /\ HN a /\ Rv a = a.l.length /\ (∀ (i : Nat), BER i a -> BIW a i = (gD a.l i).st /\ BHU a i = (gD a.l i).lo /\ BCV a i = (gD a.l i).hi) /\ AHH a /\ True
abbrev BKQ (a : FlA) : Bool := bif BFZ a then true else false
abbrev BKT (a : FlA) : Prop := VO a /\ VH a /\ Ql a = a.b.length /\ (∀ (i : Nat), BDG i a -> BKJ a i = gD a.b i) /\ BGL a /\ True
abbrev BKV (a : FlA) : Int × Int := Jh (GBw.mk (tF a) a.f a.t)
abbrev BIQ (a : FlA) : Int × Int := Jh (GBw.mk (vO a) a.f a.t)
abbrev BHV (a : FlA) : Bool := bif (BKV a).snd == (BIQ a).snd then (BKV a).fst == (BIQ a).fst else false
abbrev BGX (a : FlA) : Bool := bif BHV a then true else false
theorem CVQ (a : FlA) : (V_Fl a) = (bif bif bif bif decide ((↑a.l.length : Int) > 10) then decide ((↑a.l.length : Int) < 24) else false then true else decide ((↑a.l.length : Int) > 26) then true else decide
 ((↑a.b.length : Int) > 27) then true = true else (BRM a /\ BQT a /\ BST a /\ VL a /\ VT a /\ BEM a /\ True) /\ (BRM a /\ BQT a /\ BST a) /\ (HO a /\ HN a /\ VO a /\ VH a /\ a.s = a.s
 /\ sY a) /\ (HO a /\ HN a /\ VL a /\ VT a /\ a.s = a.s /\ Dy a) /\ bif bif BCQ a then true else !((BCT a).n == (AIB a).n && ((BCT a).d == (AIB a).d && true) && ((BIN a).n ==
 (AHD a).n && ((BIN a).d == (AHD a).d && true) && true)) then true = false else (HO a /\ HN a /\ VO a /\ VH a /\ a.s = a.s /\ a.u = a.u /\ sY a) /\ ((!BIM a && BIL a) = true -> HO
 a /\ HN a /\ VL a /\ VT a /\ a.s = a.s /\ a.u = a.u /\ Ry a = Ry a /\ Qu a = Qu a /\ Va a = Va a /\ Vv a = Vv a /\ Dy a /\ BHG a = 0 /\ (0 <= Ry a /\ Ry a <
 Va a /\ Va a <= 2000 /\ 0 <= Qu a /\ Qu a <= Vv a /\ Vv a <= 200000) /\ (∀ (g : Gau), List.Mem g (Ut (RcA.mk (AJD a) a.u (VF a))) -> BJ (VF a) g = true) /\ CT (ER (VF a)
 a.s) = bif a.u then AHD a else AIB a) /\ bif bif BIM a then true else bif BIL a then !true else false then true = false else (HO a /\ HN a /\ VO a /\ VH a /\ a.q = a.q /\ sY a) /\
 (HO a /\ HN a /\ VL a /\ VT a /\ a.q = a.q /\ Dy a) /\ bif bif (BIR a).snd != (BJM a).snd then true else !((BJD a).lo == (BKY a).lo && ((BJD a).hi == (BKY a).hi && true)) then
 true = false else (HO a /\ HN a /\ VO a /\ VH a /\ sY a) /\ (HO a /\ HN a /\ VL a /\ VT a /\ Dy a) /\ bif bif (BEO a).snd != (BJK a).snd then true else !((BIT a).lo ==
 (BLA a).lo && ((BIT a).hi == (BLA a).hi && true)) then true = false else bif bif bif bif decide (a.f >= 0) then decide (a.t <= 3000) else false then decide (BFC a > 29) else false then decide (BFC a <
 200) else false then (HO a /\ HN a /\ VO a /\ VH a /\ a.f = a.f /\ BDU a /\ BIC a) /\ (HO a /\ HN a /\ VL a /\ VT a /\ a.f = a.f /\ BDU a /\ Dy a) /\ ((BFZ a = true ->
 BGO a) /\ (BKQ a = true -> BKT a)) /\ true = bif bif BKQ a then true else false then true else false else (HO a /\ HN a /\ VO a /\ VH a /\ a.f = a.f /\ a.t = a.t /\ BIC a) /\ (HO a /\
 HN a /\ VL a /\ VT a /\ a.f = a.f /\ a.t = a.t /\ Dy a) /\ ((BHV a = true -> BGO a) /\ (BGX a = true -> BKT a)) /\ true = bif bif BGX a then true else false then true else false) := by
 kernel_rfl
theorem BZQ {a : GBt} {u : Bool} (h : BD a = 0) : DR (GD ⟨a, u⟩) /\ (∀ g ∈ DP a.g a.b (ET a.b a.t), BJ (GD ⟨a, u⟩) g = true) /\ CT (ER (GD ⟨a, u⟩) a.t) = (bif u then (AU a).hi else (AU a).lo) := by
 obtain ⟨hE, hT⟩ := CAB h
 have ho : ∀ g ∈ a.g, DJ g := UG hE
 have ho' : ∀ g ∈ BE a.g a.b (ET a.b a.t), DJ g := JS ho
 have hne : CR (BE a.g a.b (ET a.b a.t)) a.t ≠ [] := λ q => by
  unfold BD at h
  rw [hE, hT, decide_eq_true (show (lB (bkT a)).length = 0 by show (CR (BE a.g a.b (ET a.b a.t)) a.t).length = 0; rw [q]; rfl)] at h
  cases h
 have e : GD ⟨a, u⟩ = bif u then GI LR a.t (CR (BE a.g a.b (ET a.b a.t)) a.t) else GI LS a.t (CR (BE a.g a.b (ET a.b a.t)) a.t) := by
  unfold GD; rw [h]; rfl
 have e2 : AU a = FU (BE a.g a.b (ET a.b a.t)) a.t := by unfold AU; rw [h]; rfl
 have hp : ∀ {x : Ln}, x ∈ CR (BE a.g a.b (ET a.b a.t)) a.t -> DR x /\ ∀ g ∈ DP a.g a.b (ET a.b a.t), BJ x g = true := λ {x} hx => by
  obtain ⟨h1, h2⟩ := GH ho' hx
  exact ⟨h1, λ g hg => (AFF h1).2 (h2 g (Pr.1 hg))⟩
 rw [e, e2, BKP hne]
 cases u with
 | true =>
  obtain ⟨h1, h2⟩ := hp (BLC (t := a.t) (λ x hx => (GH ho' hx).1) hne).1
  exact ⟨h1, h2, rfl⟩
 | false =>
  obtain ⟨h1, h2⟩ := hp (BHW (t := a.t) (λ x hx => (GH ho' hx).1) hne).1
  exact ⟨h1, h2, rfl⟩
theorem p_Fl (a : FlA) : V_Fl a := by
 rw [CVQ]; delta BSO yH BRM AVP BSG BOL BRU BQT BST AZW Sp VL AGN VT BEM Im Rv HO BER AJE BIW BHU BCV HN qX Ql VO BDG BKJ VH sY AHH Dy AIG AJP AJD BHG BCQ BDE BCT BFP AIB BIN AHD VF Ry Qu Va Vv BIM BIL tF BIR vO BJM BJD BKY BEO BJK BIT BLA BFC tM BDU BGL BIC BEA BFB BFZ BGO BKQ BKT BKV BIQ BHV BGX; simp only [CC, eq_self, implies_true, forall_const]
 intro hb
 have hl : a.l.length <= 26 /\ a.b.length <= 27 := by
  by_cases h2 : (a.l.length : Int) > 26
  ·rw [decide_eq_true h2] at hb
   cases q : (bif decide ((a.l.length : Int) > 10) then decide ((a.l.length : Int) < 24) else false) <;> rw [q] at hb <;> cases hb
  ·by_cases h3 : (a.b.length : Int) > 27
   ·rw [decide_eq_true h3] at hb
    cases q : (bif bif decide ((a.l.length : Int) > 10) then decide ((a.l.length : Int) < 24) else false then true else decide ((a.l.length : Int) > 26)) <;> rw [q] at hb <;> cases hb
   ·omega
 obtain ⟨l1, l2⟩ := hl
 have k1 : a.l.length < 1073741824 := by omega
 have k2 : a.b.length < 1073741824 := by omega
 have k4 : a.l.length < 4611686018427387904 := by omega
 have k5 : a.b.length < 4611686018427387904 := by omega
 have kr := λ h => BZQ (a := ⟨a.l, a.b, a.s⟩) (u := a.u) h
 have kd : ¬BD ⟨a.l, a.b, a.s⟩ = 0 -> GD ⟨⟨a.l, a.b, a.s⟩, a.u⟩ = ⟨0, 0, 0, 0⟩ := λ h => by
  unfold GD; rw [show (BD ⟨a.l, a.b, a.s⟩ == 0) = false by simpa using h]; rfl
 refine ⟨⟨k1, k2⟩, k1, ⟨k4, k5⟩, ⟨k1, k2⟩, λ hc => by simp at hc, λ _ => ⟨⟨k4, k5⟩, λ hc => ⟨⟨k1, k2⟩, ?_⟩, λ hc => ?_, λ _ => ⟨⟨k4, k5⟩, ⟨k1, k2⟩, λ hc => by simp at hc, λ _ => ⟨⟨k4, k5⟩, ⟨k1, k2⟩, λ hc => by simp at hc, λ _ => ?_⟩⟩⟩⟩
 ·have h0 : BD ⟨a.l, a.b, a.s⟩ = 0 := by
   rw [Bool.and_eq_true] at hc
   exact eq_of_beq hc.2
  exact ⟨h0, kr h0⟩
 ·by_cases h0 : BD ⟨a.l, a.b, a.s⟩ = 0
  ·rw [h0] at hc; simp at hc
  ·rw [kd h0] at hc
   simp [h0] at hc
 ·simp [k1, k2]
theorem CVV (a : FlA) : FnT Try.prog BNJ (xFl a) (AC []) (.bool true) [] := KZ (A := A_Fl) (ren := []) (fz := []) BYT (by kernel_rfl) (AB CEE (AB CUB (AB CSE (AB CKA (AB BUP (AB AKE (AB CCW (AB CCJ (AB CMC (AB BBC (AB CKT (AB CGT (AB CNE (AB CSQ (AB CKE (AB CTQ (AB CSD AD))))))))))))))))) (p_Fl a)
end Go.Bal

set_option maxRecDepth 100000
namespace Go.Bal
open Go Go.Sym Go.Proofs Go.ChangeShapes Go.WideShapes Go.RowKit
theorem CGW {α : Type} [Inhabited α] (f : Nat -> α) {n i : Nat} (h : i < n) : gD ((List.range n).map f) i = f i := by
 simp [gD, List.getD_eq_getElem?_getD, h]
def Ku (w : World) : KN := λ b => match w.heap[b]? with
 | some (.cells c _ _) => some c
 | _ => none
theorem CCG (w : World) (ι : Nat -> Pl) : HRel (Ku w) ι (AC []) w := by
 refine ⟨λ i o h => by simp [AC, DI] at h, λ i j o o' h => by simp [AC, DI] at h, λ i o h => by simp [AC, DI] at h, λ b c h => ?_⟩
 unfold Ku at h
 split at h
 ·rename_i c' e fr hc
  cases h
  exact ⟨e, fr, hc⟩
 ·cases h
theorem BLN {w : World} {b off : Nat} {v : Value} (h : w.cell? ⟨b, off, none⟩ = some v) : ∃ c, Ku w b = some c /\ c[off]? = some v := by
 unfold World.cell? at h
 simp only at h
 split at h
 ·rename_i c e fr hc
  simp only [Option.isSome_none, Bool.false_eq_true, ↓reduceIte] at h
  exact ⟨c, by unfold Ku; rw [hc], h⟩
 ·cases h
section
variable {X : Type} {enc : TypeId × Value -> X} {P : Program} {w : World} {base : Nat} {spare : Nat -> Bool} {held : Bool}
def AYN (X : Type) (enc : TypeId × Value -> X) (P : Program) (w : World) (base : Nat) (spare : Nat -> Bool) (held : Bool) (e : TypeId) (k : Nat) {α : Type} (en : α -> DVal) : Prop :=
 P.cellsOf e = k /\ ∀ (fuel : Nat) (cs : List Value) (x : DataW X × List MemPlace), DataW.trod enc P w base spare held fuel e cs = some x -> cs.length = k -> ∃ d : α, (en d).cells1 = cs.map DVal.v /\ BR (en d).cells1 = true
theorem BWZ {α : Type} [Inhabited α] {t e : TypeId} {k : Nat} {en : α -> DVal} (hk : 0 < k) (ht : P.underlying t = some (.slice e)) (he : AYN X enc P w base spare held e k en) {fuel : Nat} {v : Value} {x : DataW X × List MemPlace}
  (h : DataW.trod enc P w base spare held fuel t [v] = some x) : ∃ l : List α, DRel (Ku w) (lst k l.length λ i => en (gD l i)) v := by
 rcases DataW.trod_slice ht h with ⟨h0, _⟩ | ⟨a, len, cap, elems, rest, n, _, hv, _, hb, hl, hm, hlen, hel, _⟩
 ·cases h0
  exact ⟨[], .nil (λ h => by cases h) (.inl rfl)⟩
 ·cases hv
  by_cases h0 : len = 0
  ·subst h0
   exact ⟨[], .nil (λ h => by cases h) (.inr (by simp))⟩
  obtain ⟨hck, hE⟩ := he
  have each : ∀ i, ∃ (d : α) (cs : List Value), i < len -> w.cells? base (a.add (i * k)) k = some cs /\ (en d).cells1 = cs.map DVal.v /\ BR (en d).cells1 = true := by
   intro i
   by_cases hi : i < len
   ·have h1 := hel i hi
    have h2 : elems[i]? = some (elems[i]'(by omega)) := List.getElem?_eq_getElem (by omega)
    rw [h2, Option.bind_eq_some_iff] at h1
    obtain ⟨cs, h3, h4⟩ := h1
    rw [hck] at h3
    obtain ⟨d, h5⟩ := hE n cs _ h4 (World.cells?_some h3).2.1
    exact ⟨d, cs, λ _ => ⟨h3, h5⟩⟩
   ·exact ⟨default, [], λ h => absurd h hi⟩
  have cell : ∀ i j, i < len -> j < k -> ∃ y, (en (Classical.choose (each i))).cells1[j]? = some (.v y) /\ w.cell? ((a.add (i * k)).add j) = some y := by
   intro i j hi hj
   obtain ⟨cs, hcs⟩ := Classical.choose_spec (each i)
   obtain ⟨h1, h2, _⟩ := hcs hi
   obtain ⟨_, h3, h4⟩ := World.cells?_some h1
   have h5 : cs[j]? = some (cs[j]'(by omega)) := List.getElem?_eq_getElem (by omega)
   refine ⟨cs[j]'(by omega), ?_, ?_⟩
   ·rw [h2, List.getElem?_map, h5]; rfl
   ·rw [h4 j hj, h5]
  have hspot : a.spot = none := by
   obtain ⟨y, _, h1⟩ := cell 0 0 (by omega) hk
   have := World.cell?_spot h1
   simpa [Addr.add] using this
  obtain ⟨b, off, spot⟩ := a
  simp only at hspot
  subst hspot
  have cell' : ∀ i j, i < len -> j < k -> ∃ y, (en (Classical.choose (each i))).cells1[j]? = some (.v y) /\ w.cell? ⟨b, off + i * k + j, none⟩ = some y := by
   intro i j hi hj
   obtain ⟨y, h1, h2⟩ := cell i j hi hj
   refine ⟨y, h1, ?_⟩
   have : ((Addr.mk b off none).add (i * k)).add j = ⟨b, off + i * k + j, none⟩ := by
    unfold Addr.add
    split <;> split <;> simp_all
   rw [<- this]; exact h2
  obtain ⟨y0, _, hc0⟩ := cell' 0 0 (by omega) hk
  obtain ⟨c, hB, _⟩ := BLN hc0
  have at' : ∀ i j, i < len -> j < k -> ∃ y, (en (Classical.choose (each i))).cells1[j]? = some (.v y) /\ c[off + i * k + j]? = some y := by
   intro i j hi hj
   obtain ⟨y, h1, h2⟩ := cell' i j hi hj
   obtain ⟨c', h3, h4⟩ := BLN h2
   rw [hB] at h3; cases h3
   exact ⟨y, h1, h4⟩
  have hg : ∀ i, i < len -> gD ((List.range len).map λ i => Classical.choose (each i)) i = Classical.choose (each i) := λ i hi => CGW _ hi
  have hll : ((List.range len).map λ i => Classical.choose (each i)).length = len := by simp
  refine ⟨(List.range len).map λ i => Classical.choose (each i), ?_⟩
  rw [hll]
  have e1 : ∀ i, i < len -> (en (Classical.choose (each i))).cells1.length = k := by
   intro i hi
   obtain ⟨cs, hcs⟩ := Classical.choose_spec (each i)
   obtain ⟨h1, h2, _⟩ := hcs hi
   rw [h2, List.length_map]; exact (World.cells?_some h1).2.1
  refine DRel.list (by omega) hB hl (λ h => by cases h) (λ i hi => ?_) ?_ (λ i j x y hi hx hy => ?_)
  ·rw [hg i hi]
   obtain ⟨cs, hcs⟩ := Classical.choose_spec (each i)
   exact ⟨e1 i hi, (hcs hi).2.2⟩
  ·obtain ⟨y, _, h1⟩ := at' (len - 1) (k - 1) (by omega) (by omega)
   have h2 := (Array.getElem?_eq_some_iff.1 h1).1
   have h3 : len * k = (len - 1) * k + k := by
    obtain ⟨m, rfl⟩ : ∃ m, len = m + 1 := ⟨len - 1, by omega⟩
    rw [Nat.add_sub_cancel, Nat.succ_mul]
   omega
  ·rw [hg i hi] at hx
   have hj : j < k := by
    have := (List.getElem?_eq_some_iff.1 hx).1
    have := e1 i hi
    omega
   obtain ⟨z, h1, h2⟩ := at' i j hi hj
   rw [h1] at hx; rw [h2] at hy
   cases hx; cases hy
   exact .v _
theorem BZU {e : TypeId} (he : P.underlying e = some (.int .i64)) (hc : P.cellsOf e = 1) : AYN X enc P w base spare held e 1 CU := by
 refine ⟨hc, λ fuel cs x h hl => ?_⟩
 obtain ⟨n, rfl, _, _⟩ := DataW.trod_int he h
 exact ⟨n, rfl, rfl⟩
theorem G2 {e : TypeId} {fuel : Nat} {cs : List Value} {x : DataW X × List MemPlace} (he : P.underlying e = some (.int .i64)) (h : DataW.trod enc P w base spare held fuel e cs = some x) : ∃ n, cs = [.int .i64 n] := by
 obtain ⟨n, h1, _, _⟩ := DataW.trod_int he h
 exact ⟨n, h1⟩
end
section
variable {X : Type} {enc : TypeId × Value -> X} {w : World} {base : Nat} {spare : Nat -> Bool} {held : Bool}
theorem BXW : AYN X enc Try.prog w base spare held 28 2 ePt := by
 refine ⟨by kernel_rfl, λ fuel cs x h hl => ?_⟩
 obtain ⟨xs, n, _, _, _, hx, hf⟩ := DataW.trod_struct Tryz.underlying28 h
 have hx : xs.length = 2 := hx
 have c3 : Try.prog.cellsOf 3 = 1 := by kernel_rfl
 match cs, hl with
 | [a, b], _ =>
  have h0 : DataW.trod enc Try.prog w base spare held n 3 (([a, b].drop 0).take (Try.prog.cellsOf 3)) = xs[0]? := hf 0 _ rfl
  have h1 : DataW.trod enc Try.prog w base spare held n 3 (([a, b].drop 1).take (Try.prog.cellsOf 3)) = xs[1]? := hf 1 _ rfl
  rw [c3] at h0 h1
  rw [List.getElem?_eq_getElem (by omega)] at h0 h1
  obtain ⟨p, hp⟩ := G2 Tryz.underlying3 h0
  obtain ⟨q, hq⟩ := G2 Tryz.underlying3 h1
  simp only [List.drop_zero, List.drop_succ_cons, List.take_succ_cons, List.take_zero, List.cons.injEq, and_true] at hp hq
  subst hp hq
  exact ⟨⟨p, q⟩, rfl, rfl⟩
theorem CEP : AYN X enc Try.prog w base spare held 30 3 WG := by
 refine ⟨by kernel_rfl, λ fuel cs x h hl => ?_⟩
 obtain ⟨xs, n, _, _, _, hx, hf⟩ := DataW.trod_struct Tryz.underlying30 h
 have hx : xs.length = 2 := hx
 have c3 : Try.prog.cellsOf 3 = 1 := by kernel_rfl
 have c28 : Try.prog.cellsOf 28 = 2 := by kernel_rfl
 match cs, hl with
 | [a, b, c], _ =>
  have h0 : DataW.trod enc Try.prog w base spare held n 3 (([a, b, c].drop 0).take (Try.prog.cellsOf 3)) = xs[0]? := hf 0 _ rfl
  have h1 : DataW.trod enc Try.prog w base spare held n 28 (([a, b, c].drop 1).take (Try.prog.cellsOf 28)) = xs[1]? := hf 1 _ rfl
  rw [c3] at h0
  rw [c28] at h1
  rw [List.getElem?_eq_getElem (by omega)] at h0 h1
  obtain ⟨p, hp⟩ := G2 Tryz.underlying3 h0
  simp only [List.drop_zero, List.drop_succ_cons, List.take_succ_cons, List.take_zero, List.cons.injEq, and_true] at hp h1
  subst hp
  obtain ⟨⟨s, t⟩, he, _⟩ := BXW.2 n _ _ h1 rfl
  have he : [DVal.v (.int .i64 s), DVal.v (.int .i64 t)] = [DVal.v b, DVal.v c] := he
  cases he
  exact ⟨⟨p, s, t⟩, rfl, rfl⟩
theorem CSN : AYN X enc Try.prog w base spare held 3 1 CU := BZU Tryz.underlying3 (by kernel_rfl)
theorem CHG {v : Value} {d : DataW X} {ps : List MemPlace} {r : Go.Reach} {b0 : Nat} (hv : Value.okWide Try.prog w r b0 22 v) (h : DataW.Trod enc Try.prog w base spare held 22 v d ps) : ∃ l : List Gau, DRel (Ku w) (AS l) v := by
 obtain ⟨a, len, cap, rfl⟩ := okWide_slice Tryz.underlying22 hv
 obtain ⟨fuel, hf⟩ := h
 exact BWZ (by omega) Tryz.underlying22 CEP hf
theorem CHR {v : Value} {d : DataW X} {ps : List MemPlace} {r : Go.Reach} {b0 : Nat} (hv : Value.okWide Try.prog w r b0 23 v) (h : DataW.Trod enc Try.prog w base spare held 23 v d ps) : ∃ l : List Int, DRel (Ku w) (BC l) v := by
 obtain ⟨a, len, cap, rfl⟩ := okWide_slice Tryz.underlying23 hv
 obtain ⟨fuel, hf⟩ := h
 exact BWZ (by omega) Tryz.underlying23 CSN hf
theorem AHL {v : Value} {d : DataW X} {ps : List MemPlace} {r : Go.Reach} {b0 : Nat} (hv : Value.okWide Try.prog w r b0 3 v) (h : DataW.Trod enc Try.prog w base spare held 3 v d ps) : ∃ n : Int, (-9223372036854775808 <= n /\ n <= 9223372036854775807) /\ DRel (Ku w) (.v (.int .i64 n)) v := by
 obtain ⟨m, rfl⟩ := okWide_int Tryz.underlying3 hv
 obtain ⟨fuel, hf⟩ := h
 obtain ⟨n, e, _, hw⟩ := DataW.trod_int Tryz.underlying3 hf
 have e : [Value.int .i64 m] = [.int .i64 n] := e
 cases e
 have hw : (decide (IntKind.i64.min <= m) && decide (m <= IntKind.i64.max)) = true := hw
 simp only [Bool.and_eq_true, decide_eq_true_eq] at hw
 have e1 : IntKind.i64.min = -9223372036854775808 := rfl
 have e2 : IntKind.i64.max = 9223372036854775807 := rfl
 exact ⟨m, ⟨by omega, by omega⟩, .v _⟩
theorem CAM {v : Value} {d : DataW X} {ps : List MemPlace} {r : Go.Reach} {b0 : Nat} (hv : Value.okWide Try.prog w r b0 4 v) (h : DataW.Trod enc Try.prog w base spare held 4 v d ps) : ∃ n : Bool, DRel (Ku w) (.v (.bool n)) v := by
 obtain ⟨m, rfl⟩ := okWide_bool Tryz.underlying4 hv
 exact ⟨m, .v _⟩
end
theorem BYB {g : FuncId} {xs : List AVal} (hg : FnT Try.prog g xs (AC []) (.bool true) []) {w : World} {vs : Array Value} (hl : vs.size = xs.length)
  (hx : ∀ (j : Nat) (a : AVal) (y : Value), xs[j]? = some a -> vs[j]? = some y -> ∃ d, a = .d d /\ DRel (Ku w) d y) :
  Calls Try.prog g vs w λ e w' => e = .returned (.bool true) /\ Below w.heap.size w w' := by
 refine (hg.2 (Ku w) (λ _ => ⟨0, 0⟩) w vs ⟨hl, λ j a y ha hy => ?_⟩ (CCG w _)).mono λ e w' ⟨v, H', he, _, B', ι', hm, hv⟩ => ?_
 ·obtain ⟨d, rfl, hd⟩ := hx j a y ha hy
  exact .d hd
 ·subst he
  cases hv with
  | d hd =>
   cases hd
   exact ⟨rfl, hm.calm.os, hm.calm.tape, hm.calm.output, hm.size, λ k hk => hm.frame k hk λ i o h => by simp [AC, DI] at h⟩
end Go.Bal
