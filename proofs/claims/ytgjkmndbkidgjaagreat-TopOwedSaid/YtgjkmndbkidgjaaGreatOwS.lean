/- TopOwed: the roster of two: opened, better stations. -/
import Derived.Test.YtgjkmndbkidgjaaGreatOwR
set_option linter.unusedVariables false
set_option linter.unusedSimpArgs false
namespace Go.Bal
open Go Go.Sym Go.Proofs
def eRo (r : Ros) : DVal := .agg [eIL r.p, Ua r.s]
structure RosOk (r : Ros) : Prop where
 len : (1 <= r.p.length /\ r.p.length <= 12) /\ 1 <= r.s.length /\ r.s.length <= 12
 p1 : (r.p.all λ x => X1 r x) = true
 s1 : (r.s.all λ x => X0 r x) = true
 p2 : (r.p.all λ x => CB x) = true
 s2 : (r.s.all λ x => CB x.o) = true
 pl : ∀ i, i < r.p.length -> (gD r.p i).length < 4611686018427387904
 sl : ∀ i, i < r.s.length -> (gD r.s i).o.length < 4611686018427387904
def d_Ro : List AVal -> Heap -> Option (Ros × List (Nat × Nat) × List Nat)
 | [.d (.agg [.list _ n f _, .list _ m g _])], _ => some (⟨AJ n λ i => BS (f i), AJ m λ i => AU (g i)⟩, [], [])
 | _, _ => none
def C_Check : Ctr := { α := Ros, xs := λ r => [.d (eRo r)], L := λ _ => [], val := λ _ => .int 0, keep := λ _ => [], pre := λ r => [RosOk r] }
def AJE : Ann := ann 40 [(ABF, WB), (n_eL, orS (C4Ki.spec d4Ki) (C4Kj.spec d4Kj)), (n_eS, orS (C4Kk.spec d4Kk) (C4Km.spec d4Km))]
def AHW (r : Ros) : Prop := BB Try.prog AJE yZ (AS yZ) (C_Check.xs r) (AK []) (C_Check.val r) [] [] []
abbrev MI (r : Ros) : List (List Int) := AJ r.p.length λ (i : Nat) => BS (AF (gD r.p i))
abbrev RG (r : Ros) : Nat := (MI r).length
abbrev RX (r : Ros) : Prop := RG r = r.p.length
abbrev aW (i : Nat) (r : Ros) : Prop := i < RG r
abbrev fD (r : Ros) (i : Nat) : List Int := gD (MI r) i
abbrev QK (r : Ros) (i : Nat) : Nat := (fD r i).length
abbrev Ee (r : Ros) (i : Nat) : Nat := (gD r.p i).length
abbrev fH (r : Ros) (i : Nat) (i1 : Nat) : Int := gD (fD r i) i1
abbrev aO (r : Ros) (i : Nat) (i1 : Nat) : Int := gD (gD r.p i) i1
abbrev QL (r : Ros) : Prop := ∀ (i : Nat), aW i r -> QK r i = Ee r i /\ ∀ (i_1 : Nat), i_1 < QK r i -> fH r i i_1 = aO r i i_1
abbrev KQ (r : Ros) : List Sta := AJ r.s.length λ (i : Nat) => AU (AW (gD r.s i))
abbrev OI (r : Ros) : Nat := (KQ r).length
abbrev OK (r : Ros) : Prop := OI r = r.s.length
abbrev Ob (i : Nat) (r : Ros) : Prop := i < OI r
abbrev Mk (r : Ros) (i : Nat) : Sta := gD (KQ r) i
abbrev Ju (r : Ros) (i : Nat) : Int := (Mk r i).n
abbrev Lq (r : Ros) (i : Nat) : List Int := (Mk r i).o
abbrev PD (r : Ros) (i : Nat) : Nat := (Lq r i).length
abbrev Rl (r : Ros) (i : Nat) (i1 : Nat) : Int := gD (Lq r i) i1
abbrev Hr (r : Ros) (i : Nat) (i1 : Nat) : Int := gD (gD r.s i).o i1
abbrev MV (r : Ros) : Prop := ∀ (i : Nat), Ob i r -> Ju r i = (gD r.s i).n /\ PD r i = (gD r.s i).o.length /\ ∀ (i_1 : Nat), i_1 < PD r i -> Rl r i i_1 = Hr r i i_1
abbrev Rs (r : Ros) : Prop := r.p.length = RG r
abbrev Oj (r : Ros) : Prop := ∀ (i : Nat), i < r.p.length -> Ee r i = QK r i /\ ∀ (i_1 : Nat), i_1 < Ee r i -> aO r i i_1 = fH r i i_1
abbrev Mu (r : Ros) : Prop := r.s.length = OI r
abbrev Pu (r : Ros) : Prop := ∀ (i : Nat), i < r.s.length -> (gD r.s i).n = Ju r i /\ (gD r.s i).o.length = PD r i /\ ∀ (i_1 : Nat), i_1 < (gD r.s i).o.length -> Hr r i i_1 = Rl r i
 i_1
abbrev Sk (r : Ros) : Prop := RG r < (4611686018427387904 : Nat) /\ ∀ (i : Nat), aW i r -> QK r i < (4611686018427387904 : Nat)
abbrev Gi (r : Ros) : Ros := Ros.mk (MI r) (KQ r)
abbrev Fh (r : Ros) : Bool := !(MI r).all λ (x : List Int) => X1 (Gi r) x
abbrev Qd (r : Ros) : Prop := OI r < (4611686018427387904 : Nat) /\ ∀ (i : Nat), Ob i r -> PD r i < (4611686018427387904 : Nat)
abbrev Is (r : Ros) : Bool := !(MI r).all λ (x : List Int) => CB x
theorem AMF (r : Ros) : (AHW r) = (bif bif !HO (↑r.p.length : Int) (1 : Int) (12 : Int) then true else !HO (↑r.s.length : Int) (1 : Int) (12 : Int) then Int.ofNat (0 : Nat) = Int.ofNat (3 : Nat) else
 (RX r /\ QL r /\ RX r /\ QL r /\ OK r /\ MV r /\ Rs r /\ Oj r /\ Mu r /\ Pu r /\ Sk r /\ ((!Fh r) = true -> OK r /\ MV r /\
 RX r /\ QL r /\ OK r /\ MV r /\ Rs r /\ Oj r /\ Mu r /\ Pu r /\ Qd r)) /\ bif bif Fh r then true else !(KQ r).all λ (x : Sta) => X0
 (Gi r) x then Int.ofNat (0 : Nat) = Int.ofNat (120 : Nat) else (RX r /\ QL r /\ Sk r /\ ((!Is r) = true -> OK r /\ MV r /\ Qd r)) /\ bif bif Is r then true
 else !(KQ r).all λ (x : Sta) => CB x.o then Int.ofNat (0 : Nat) = Int.ofNat (10 : Nat) else Int.ofNat (0 : Nat) = Int.ofNat (0 : Nat)) := by kernel_rfl
theorem AUR (r : Ros) (h : RosOk r) : AHW r := by
 have hl := h.len
 have e1 : HO r.p.length 1 12 = true := by simp [HO]; omega
 have e2 : HO r.s.length 1 12 = true := by simp [HO]; omega
 rw [AMF]; delta MI RG RX aW fD QK Ee fH aO QL KQ OI OK Ob Mk Ju Lq PD Rl Hr MV Rs Oj Mu Pu Sk Gi Fh Qd Is; simp only [BF, eq_self, implies_true, and_self, true_and, and_true, true_implies, forall_const, decide_eq_true_eq, decide_eq_false_iff_not, Int.toNat_natCast, dSpan_eSpan, dInt_eInt, AV, BH, BJ, BC, AZ, AX, AY, Nat.zero_add, Int.zero_sub, Nat.le_eq, Nat.succ_eq_add_one, Nat.add_one_le_iff, Bool.not_eq_true', Bool.not_eq_false', rng_length, AT, AP, FC, DD, EF, CQ, e1, e2, h.p1, h.s1, h.p2, h.s2]
 simp
 exact ⟨⟨by omega, h.pl⟩, ⟨by omega, h.sl⟩⟩
theorem AOZ : AR Try.prog C5 (C_Check.spec d_Ro) := EX C_Check (λ _ => AJE) [] [] ASB (λ _ => by kernel_rfl) (λ _ => AH I6 (AH (aT BIE BHJ) (AH (aT BJP BJW) AM))) (λ (r : Ros) h => AUR r h) (λ _ => FK rfl rfl) _
def two : Ros := ⟨[[0, 1], [0, 1]], [⟨1, [1, 0]⟩, ⟨1, [0, 1]⟩]⟩
def wkO : AObj := .box (.d (eIL two.p) :: .d (Ua two.s) :: (([1, 0] ++ List.replicate 10 (0 : Int)) ++ ([0, 1] ++ List.replicate 130 (0 : Int))).map λ n => .int n)
def C_cOpn : Ctr := { α := One, xs := λ _ => [.d (eRo two)], L := λ _ => [], val := λ _ => .tup [.bptr 0 0, .int 0], keep := λ _ => [(0, .live wkO)] }
def AIH : List AVal -> Heap -> Option (One × List (Nat × Nat) × List Nat)
 | [_], _ => some (default, [], [])
 | _, _ => none
def ARD : Ann := { ann 45 [(C5, C_Check.spec d_Ro), (AHH, C_ix.spec d_LI)] with unr := λ id => if id = 6 then 3 else if id = 9 then 3 else 0, off := λ gs => gs.headD 0 }
def AMU (_x : One) : Prop := BB Try.prog ARD ACM (AS ACM) [.d (eRo two)] (AK []) (.tup [.bptr 0 0, .int 0]) [(0, .live wkO)] [(0, 5032)] []
abbrev JJ : Prop := (2 : Nat) = (2 : Nat)
abbrev qU (i : Nat) : List Int := BS (AF (gD two.p i))
abbrev vU : List (List Int) := AJ two.p.length λ (i : Nat) => qU i
abbrev tU (i : Nat) : List Int := gD vU i
abbrev ZI (i : Nat) : Nat := (gD two.p i).length
abbrev Xb (i : Nat) (i1 : Nat) : Int := gD (gD two.p i) i1
abbrev sG : List Sta := AJ two.s.length λ (i : Nat) => AU (AW (gD two.s i))
abbrev qQ (i : Nat) : Sta := gD sG i
abbrev tQ (i : Nat) : List Int := (qQ i).o
abbrev Wj (i : Nat) (i1 : Nat) : Int := gD (gD two.s i).o i1
abbrev bQ : Prop := (0 : Int) <= (0 : Int)
abbrev z_cOpn_11 : List Int := (gD two.s (Int.toNat (0 : Int))).o
abbrev Zs (i : Nat) : Int := gD z_cOpn_11 i
abbrev cG : Prop := ∀ (i : Nat), i < (2 : Nat) -> gD (AJ z_cOpn_11.length λ (i : Nat) => Zs i) i = Zs i
abbrev AI : Prop := Int.ofNat (0 : Nat) = Int.ofNat (0 : Nat)
abbrev RY : Prop := (2 : Nat) < (4611686018427387904 : Nat)
abbrev QV : Prop := bQ /\ (0 : Int) < (↑(12 : Nat) : Int)
abbrev cC : Nat := (0 : Nat) + (1 : Nat)
abbrev cZ : Int := Int.ofNat (cC % ((2 : Int) ^ IntKind.i64.bits).natAbs)
abbrev bU : Prop := cZ = cZ
abbrev z_cOpn_20 : Int := IntKind.i64.wrap ((0 : Int) + (1 : Int))
abbrev Zc : Prop := (0 : Int) <= z_cOpn_20
abbrev RI : Prop := Zc /\ z_cOpn_20 < (↑(12 : Nat) : Int)
abbrev z_cOpn_23 : List Int := (gD two.s z_cOpn_20.toNat).o
abbrev Zw (i : Nat) : Int := gD z_cOpn_23 i
abbrev Yx : Prop := ∀ (i : Nat), i < (2 : Nat) -> gD (AJ z_cOpn_23.length λ (i : Nat) => Zw i) i = Zw i
abbrev aV : Prop := Int.ofNat (1 : Nat) = Int.ofNat cC
theorem AUY (_x : One) : (AMU _x) = ((JJ /\ (∀ (i : Nat), i < (2 : Nat) -> (tU i).length = ZI i /\ ∀ (i_1 : Nat), i_1 < (gD (AJ (2 : Nat) λ (i : Nat) => qU i) i).length -> gD (tU i)
 i_1 = Xb i i_1) /\ JJ /\ (∀ (i : Nat), i < (2 : Nat) -> (qQ i).n = (gD two.s i).n /\ (tQ i).length = (gD two.s i).o.length /\ ∀ (i_1 : Nat), i_1 < (gD (AJ (2 : Nat) λ (i : Nat) => AU (AW (gD
 two.s i))) i).o.length -> gD (tQ i) i_1 = Wj i i_1) /\ RosOk (Ros.mk vU sG)) /\ (bQ /\ (0 : Int) < (↑(2 : Nat) : Int)) /\ (JJ /\ cG /\ AI /\ RY /\ QV /\ QV) /\
 (JJ /\ cG /\ bU /\ RY /\ QV /\ RI) /\ (Zc /\ z_cOpn_20 < (↑(2 : Nat) : Int)) /\ (JJ /\ Yx /\ AI /\ RY /\ RI /\ QV) /\ (JJ /\ Yx /\
 bU /\ RY /\ RI /\ RI) /\ AI /\ JJ /\ (∀ (i : Nat), i < (2 : Nat) -> ZI i = ZI i /\ ∀ (i_1 : Nat), i_1 < ZI i -> Xb i i_1 = Xb i i_1) /\ JJ /\ (∀ (i :
 Nat), i < (2 : Nat) -> (gD two.s i).n = (gD two.s i).n /\ (gD two.s i).o.length = (gD two.s i).o.length /\ ∀ (i_1 : Nat), i_1 < (gD two.s i).o.length -> Wj i i_1 = Wj i i_1) /\ aV /\ AI /\ AI /\
 AI /\ AI /\ AI /\ AI /\ AI /\ AI /\ AI /\ AI /\ AI /\ AI /\ aV /\ AI /\ AI /\ AI /\ AI /\ AI /\ AI /\ AI /\
 AI /\ AI /\ AI /\ AI /\ AI /\ AI /\ AI /\ AI /\ AI /\ AI /\ AI /\ AI /\ AI /\ AI /\ AI /\ AI /\ AI /\ AI /\
 AI /\ AI /\ AI /\ AI /\ AI /\ AI /\ AI /\ AI /\ AI /\ AI /\ AI /\ AI /\ AI /\ AI /\ AI /\ AI /\ AI /\ AI /\
 AI /\ AI /\ AI /\ AI /\ AI /\ AI /\ AI /\ AI /\ AI /\ AI /\ AI /\ AI /\ AI /\ AI /\ AI /\ AI /\ AI /\ AI /\
 AI /\ AI /\ AI /\ AI /\ AI /\ AI /\ AI /\ AI /\ AI /\ AI /\ AI /\ AI /\ AI /\ AI /\ AI /\ AI /\ AI /\ AI /\
 AI /\ AI /\ AI /\ AI /\ AI /\ AI /\ AI /\ AI /\ AI /\ AI /\ AI /\ AI /\ AI /\ AI /\ AI /\ AI /\ AI /\ AI /\
 AI /\ AI /\ AI /\ AI /\ AI /\ AI /\ AI /\ AI /\ AI /\ AI /\ AI /\ AI /\ AI /\ AI /\ AI /\ AI /\ AI /\ AI /\
 AI /\ AI /\ AI /\ AI /\ AI /\ AI /\ AI /\ AI /\ AI /\ AI /\ AI /\ AI /\ AI /\ AI /\ AI) := by kernel_rfl
theorem BAL : RosOk two := ⟨by decide, by decide +kernel, by decide +kernel, by decide +kernel, by decide +kernel, by decide, by decide⟩
theorem BAI (x : One) : AMU x := by
 rw [AUY]; delta JJ qU vU tU ZI Xb sG qQ tQ Wj bQ z_cOpn_11 Zs cG AI RY QV cC cZ bU z_cOpn_20 Zc RI z_cOpn_23 Zw Yx aV
 repeat' apply And.intro
 all_goals first
  | rfl
  | exact BAL
  | decide +kernel
theorem AUA : AR Try.prog ADG (C_cOpn.spec AIH) := EX C_cOpn (λ _ => ARD) [(0, 5032)] [] ASM (λ _ => by kernel_rfl) (λ _ => AH AOZ (AH AVY AM)) (λ (x : One) _ => BAI x) (λ _ => FK rfl rfl) _
def C_better : Ctr := { ro := [100], α := Int, xs := λ p => [.bptr 100 0, .int p, .int (-1)], L := λ _ => [(100, wkO)], val := λ _ => .fn (.func ML) [] [.bptr 0 0, .bptr 1 0, .bptr 2 0], keep := λ p => [(100, .live wkO), (0, .live (.box [.bptr 100 0])), (1, .live (.box [.int p])), (2, .live (.box [.int (-1)]))] }
def ABE : List AVal -> Heap -> Option (Int × List (Nat × Nat) × List Nat)
 | [.bptr w _, .d p, _], _ => some (CR p, [(100, w)], [])
 | _, _ => none
def AAR : Ann := { ann 8 [] with E := [100] }
def AAT (p : Int) : Prop := BB Try.prog AAR tZ (AS tZ) (C_better.xs p) (AK (C_better.L p)) (C_better.val p) (C_better.keep p) [(0, 1000), (1, 1016), (2, 1032)] []
abbrev Ho : Prop := (2 : Nat) = (2 : Nat)
abbrev TR (i : Nat) : Nat := (gD two.p i).length
abbrev Il (i : Nat) (i1 : Nat) : Int := gD (gD two.p i) i1
abbrev Nn (i : Nat) (i1 : Nat) : Int := gD (gD two.s i).o i1
abbrev Rc : Prop := Int.ofNat (1 : Nat) = Int.ofNat (1 : Nat)
abbrev AG : Prop := Int.ofNat (0 : Nat) = Int.ofNat (0 : Nat)
theorem AJX (p : Int) : (AAT p) = (Ho /\ (∀ (i : Nat), i < (2 : Nat) -> TR i = TR i /\ ∀ (i_1 : Nat), i_1 < TR i -> Il i i_1 = Il i i_1) /\ Ho /\ (∀ (i : Nat),
 i < (2 : Nat) -> (gD two.s i).n = (gD two.s i).n /\ (gD two.s i).o.length = (gD two.s i).o.length /\ ∀ (i_1 : Nat), i_1 < (gD two.s i).o.length -> Nn i i_1 = Nn i i_1) /\ Rc /\ AG /\ AG /\
 AG /\ AG /\ AG /\ AG /\ AG /\ AG /\ AG /\ AG /\ AG /\ AG /\ Rc /\ AG /\ AG /\ AG /\ AG /\ AG /\ AG /\
 AG /\ AG /\ AG /\ AG /\ AG /\ AG /\ AG /\ AG /\ AG /\ AG /\ AG /\ AG /\ AG /\ AG /\ AG /\ AG /\ AG /\
 AG /\ AG /\ AG /\ AG /\ AG /\ AG /\ AG /\ AG /\ AG /\ AG /\ AG /\ AG /\ AG /\ AG /\ AG /\ AG /\ AG /\
 AG /\ AG /\ AG /\ AG /\ AG /\ AG /\ AG /\ AG /\ AG /\ AG /\ AG /\ AG /\ AG /\ AG /\ AG /\ AG /\ AG /\
 AG /\ AG /\ AG /\ AG /\ AG /\ AG /\ AG /\ AG /\ AG /\ AG /\ AG /\ AG /\ AG /\ AG /\ AG /\ AG /\ AG /\
 AG /\ AG /\ AG /\ AG /\ AG /\ AG /\ AG /\ AG /\ AG /\ AG /\ AG /\ AG /\ AG /\ AG /\ AG /\ AG /\ AG /\
 AG /\ AG /\ AG /\ AG /\ AG /\ AG /\ AG /\ AG /\ AG /\ AG /\ AG /\ AG /\ AG /\ AG /\ AG /\ AG /\ AG /\
 AG /\ AG /\ AG /\ AG /\ AG /\ AG /\ AG /\ AG /\ AG /\ AG /\ AG /\ AG /\ AG /\ AG /\ AG /\ AG /\ AG /\
 AG /\ AG /\ AG /\ AG /\ AG /\ p = p /\ Int.negSucc (0 : Nat) = Int.negSucc (0 : Nat)) := by kernel_rfl
def AXR (p s : Int) : List AVal := [.bptr 100 0, .int p, .int s]
def qF : Ann := { ann 28 [(OO, rK)] with E := [100] }
def W2 (p s : Int) : Prop := BB Try.prog qF AET (AS AET) (AXR p s) (AK [(100, wkO)]) (.bool true) [(100, .live wkO)] [] []
def AVD (_x : One) : Prop := W2 0 0
def AWW (_x : One) : Prop := W2 0 1
def AXZ (_x : One) : Prop := W2 1 0
def AXI (_x : One) : Prop := W2 1 1
abbrev V8 : Prop := (0 : Int) <= (0 : Int)
abbrev T9 : Prop := V8 /\ (0 : Int) < (↑(12 : Nat) : Int)
abbrev mG : Prop := (2 : Nat) = (2 : Nat)
abbrev z_p00_3 : List Int := gD two.p (Int.toNat (0 : Int))
abbrev D1 (i : Nat) : Int := gD z_p00_3 i
abbrev z_p00_5 : List Int := AJ z_p00_3.length λ (i : Nat) => D1 i
abbrev AN : Prop := Int.ofNat (0 : Nat) = Int.ofNat (0 : Nat)
abbrev kD (i : Nat) : Nat := (gD two.p i).length
abbrev M0 (i : Nat) (i1 : Nat) : Int := gD (gD two.p i) i1
abbrev P2 (i : Nat) (i1 : Nat) : Int := gD (gD two.s i).o i1
abbrev pN : Prop := Int.ofNat (1 : Nat) = Int.ofNat (1 : Nat)
theorem BCA (_x : One) : (AVD _x) = ((T9 /\ T9 /\ (true = true -> V8 /\ (0 : Int) < (↑(2 : Nat) : Int)) /\ (true = true -> mG /\ (∀ (i : Nat), i < (2 : Nat) -> gD z_p00_5 i = D1 i) /\ AN /\
 z_p00_5.length.succ.le (4611686018427387904 : Nat))) /\ true = true /\ mG /\ (∀ (i : Nat), i < (2 : Nat) -> kD i = kD i /\ ∀ (i_1 : Nat), i_1 < kD i -> M0 i i_1 = M0 i i_1) /\ mG /\ (∀ (i :
 Nat), i < (2 : Nat) -> (gD two.s i).n = (gD two.s i).n /\ (gD two.s i).o.length = (gD two.s i).o.length /\ ∀ (i_1 : Nat), i_1 < (gD two.s i).o.length -> P2 i i_1 = P2 i i_1) /\ pN /\ AN /\ AN /\ AN
 /\ AN /\ AN /\ AN /\ AN /\ AN /\ AN /\ AN /\ AN /\ AN /\ pN /\ AN /\ AN /\ AN /\ AN /\ AN /\ AN /\ AN /\ AN /\ AN /\ AN /\ AN /\ AN
 /\ AN /\ AN /\ AN /\ AN /\ AN /\ AN /\ AN /\ AN /\ AN /\ AN /\ AN /\ AN /\ AN /\ AN /\ AN /\ AN /\ AN /\ AN /\ AN /\ AN /\ AN /\ AN
 /\ AN /\ AN /\ AN /\ AN /\ AN /\ AN /\ AN /\ AN /\ AN /\ AN /\ AN /\ AN /\ AN /\ AN /\ AN /\ AN /\ AN /\ AN /\ AN /\ AN /\ AN /\ AN
 /\ AN /\ AN /\ AN /\ AN /\ AN /\ AN /\ AN /\ AN /\ AN /\ AN /\ AN /\ AN /\ AN /\ AN /\ AN /\ AN /\ AN /\ AN /\ AN /\ AN /\ AN /\ AN
 /\ AN /\ AN /\ AN /\ AN /\ AN /\ AN /\ AN /\ AN /\ AN /\ AN /\ AN /\ AN /\ AN /\ AN /\ AN /\ AN /\ AN /\ AN /\ AN /\ AN /\ AN /\ AN
 /\ AN /\ AN /\ AN /\ AN /\ AN /\ AN /\ AN /\ AN /\ AN /\ AN /\ AN /\ AN /\ AN /\ AN /\ AN /\ AN /\ AN /\ AN /\ AN /\ AN /\ AN /\ AN
 /\ AN /\ AN /\ AN /\ AN /\ AN /\ AN /\ AN /\ AN) := by kernel_rfl
abbrev zF : Prop := (0 : Int) <= (0 : Int)
abbrev kV : Prop := (2 : Nat) = (2 : Nat)
abbrev z_p01_2 : List Int := gD two.p (Int.toNat (0 : Int))
abbrev G3 (i : Nat) : Int := gD z_p01_2 i
abbrev z_p01_4 : List Int := AJ z_p01_2.length λ (i : Nat) => G3 i
abbrev lI : Prop := Int.ofNat (1 : Nat) = Int.ofNat (1 : Nat)
abbrev lB (i : Nat) : Nat := (gD two.p i).length
abbrev F2 (i : Nat) (i1 : Nat) : Int := gD (gD two.p i) i1
abbrev P7 (i : Nat) (i1 : Nat) : Int := gD (gD two.s i).o i1
abbrev AQ : Prop := Int.ofNat (0 : Nat) = Int.ofNat (0 : Nat)
theorem AZN (_x : One) : (AWW _x) = ((((0 : Int) <= (1 : Int) /\ (1 : Int) < (↑(12 : Nat) : Int)) /\ (zF /\ (0 : Int) < (↑(12 : Nat) : Int)) /\ (true = true -> zF /\ (0 : Int) < (↑(2 : Nat) : Int)) /\ (true = true
 -> kV /\ (∀ (i : Nat), i < (2 : Nat) -> gD z_p01_4 i = G3 i) /\ lI /\ z_p01_4.length.succ.le (4611686018427387904 : Nat))) /\ true = true /\ kV /\ (∀ (i : Nat), i < (2 : Nat) -> lB i = lB i /\ ∀ (i_1
 : Nat), i_1 < lB i -> F2 i i_1 = F2 i i_1) /\ kV /\ (∀ (i : Nat), i < (2 : Nat) -> (gD two.s i).n = (gD two.s i).n /\ (gD two.s i).o.length = (gD two.s i).o.length /\ ∀ (i_1 : Nat), i_1 < (gD two.s
 i).o.length -> P7 i i_1 = P7 i i_1) /\ lI /\ AQ /\ AQ /\ AQ /\ AQ /\ AQ /\ AQ /\ AQ /\ AQ /\ AQ /\ AQ /\ AQ /\ AQ /\ lI /\ AQ /\ AQ /\ AQ /\
 AQ /\ AQ /\ AQ /\ AQ /\ AQ /\ AQ /\ AQ /\ AQ /\ AQ /\ AQ /\ AQ /\ AQ /\ AQ /\ AQ /\ AQ /\ AQ /\ AQ /\ AQ /\ AQ /\ AQ /\ AQ /\ AQ /\
 AQ /\ AQ /\ AQ /\ AQ /\ AQ /\ AQ /\ AQ /\ AQ /\ AQ /\ AQ /\ AQ /\ AQ /\ AQ /\ AQ /\ AQ /\ AQ /\ AQ /\ AQ /\ AQ /\ AQ /\ AQ /\ AQ /\
 AQ /\ AQ /\ AQ /\ AQ /\ AQ /\ AQ /\ AQ /\ AQ /\ AQ /\ AQ /\ AQ /\ AQ /\ AQ /\ AQ /\ AQ /\ AQ /\ AQ /\ AQ /\ AQ /\ AQ /\ AQ /\ AQ /\
 AQ /\ AQ /\ AQ /\ AQ /\ AQ /\ AQ /\ AQ /\ AQ /\ AQ /\ AQ /\ AQ /\ AQ /\ AQ /\ AQ /\ AQ /\ AQ /\ AQ /\ AQ /\ AQ /\ AQ /\ AQ /\ AQ /\
 AQ /\ AQ /\ AQ /\ AQ /\ AQ /\ AQ /\ AQ /\ AQ /\ AQ /\ AQ /\ AQ /\ AQ /\ AQ /\ AQ /\ AQ /\ AQ /\ AQ /\ AQ /\ AQ /\ AQ /\ AQ /\ AQ /\
 AQ /\ AQ /\ AQ /\ AQ /\ AQ /\ AQ /\ AQ /\ AQ /\ AQ /\ AQ /\ AQ /\ AQ /\ AQ /\ AQ /\ AQ /\ AQ /\ AQ) := by kernel_rfl
abbrev Q3 : Prop := (0 : Int) <= (1 : Int)
abbrev jL : Prop := (2 : Nat) = (2 : Nat)
abbrev z_p10_2 : List Int := gD two.p (Int.toNat (1 : Int))
abbrev L3 (i : Nat) : Int := gD z_p10_2 i
abbrev z_p10_4 : List Int := AJ z_p10_2.length λ (i : Nat) => L3 i
abbrev AO : Prop := Int.ofNat (0 : Nat) = Int.ofNat (0 : Nat)
abbrev kM (i : Nat) : Nat := (gD two.p i).length
abbrev I8 (i : Nat) (i1 : Nat) : Int := gD (gD two.p i) i1
abbrev W3 (i : Nat) (i1 : Nat) : Int := gD (gD two.s i).o i1
abbrev zS : Prop := Int.ofNat (1 : Nat) = Int.ofNat (1 : Nat)
theorem BAO (_x : One) : (AXZ _x) = ((((0 : Int) <= (0 : Int) /\ (0 : Int) < (↑(12 : Nat) : Int)) /\ (Q3 /\ (1 : Int) < (↑(12 : Nat) : Int)) /\ (true = true -> Q3 /\ (1 : Int) < (↑(2 : Nat) : Int)) /\ (true = true
 -> jL /\ (∀ (i : Nat), i < (2 : Nat) -> gD z_p10_4 i = L3 i) /\ AO /\ z_p10_4.length.succ.le (4611686018427387904 : Nat))) /\ true = true /\ jL /\ (∀ (i : Nat), i < (2 : Nat) -> kM i = kM i /\ ∀ (i_1
 : Nat), i_1 < kM i -> I8 i i_1 = I8 i i_1) /\ jL /\ (∀ (i : Nat), i < (2 : Nat) -> (gD two.s i).n = (gD two.s i).n /\ (gD two.s i).o.length = (gD two.s i).o.length /\ ∀ (i_1 : Nat), i_1 < (gD two.s
 i).o.length -> W3 i i_1 = W3 i i_1) /\ zS /\ AO /\ AO /\ AO /\ AO /\ AO /\ AO /\ AO /\ AO /\ AO /\ AO /\ AO /\ AO /\ zS /\ AO /\ AO /\ AO /\
 AO /\ AO /\ AO /\ AO /\ AO /\ AO /\ AO /\ AO /\ AO /\ AO /\ AO /\ AO /\ AO /\ AO /\ AO /\ AO /\ AO /\ AO /\ AO /\ AO /\ AO /\ AO /\
 AO /\ AO /\ AO /\ AO /\ AO /\ AO /\ AO /\ AO /\ AO /\ AO /\ AO /\ AO /\ AO /\ AO /\ AO /\ AO /\ AO /\ AO /\ AO /\ AO /\ AO /\ AO /\
 AO /\ AO /\ AO /\ AO /\ AO /\ AO /\ AO /\ AO /\ AO /\ AO /\ AO /\ AO /\ AO /\ AO /\ AO /\ AO /\ AO /\ AO /\ AO /\ AO /\ AO /\ AO /\
 AO /\ AO /\ AO /\ AO /\ AO /\ AO /\ AO /\ AO /\ AO /\ AO /\ AO /\ AO /\ AO /\ AO /\ AO /\ AO /\ AO /\ AO /\ AO /\ AO /\ AO /\ AO /\
 AO /\ AO /\ AO /\ AO /\ AO /\ AO /\ AO /\ AO /\ AO /\ AO /\ AO /\ AO /\ AO /\ AO /\ AO /\ AO /\ AO /\ AO /\ AO /\ AO /\ AO /\ AO /\
 AO /\ AO /\ AO /\ AO /\ AO /\ AO /\ AO /\ AO /\ AO /\ AO /\ AO /\ AO /\ AO /\ AO /\ AO /\ AO /\ AO) := by kernel_rfl
abbrev yY : Prop := (0 : Int) <= (1 : Int)
abbrev M3 : Prop := yY /\ (1 : Int) < (↑(12 : Nat) : Int)
abbrev lK : Prop := (2 : Nat) = (2 : Nat)
abbrev z_p11_3 : List Int := gD two.p (Int.toNat (1 : Int))
abbrev yE (i : Nat) : Int := gD z_p11_3 i
abbrev z_p11_5 : List Int := AJ z_p11_3.length λ (i : Nat) => yE i
abbrev iH : Prop := Int.ofNat (1 : Nat) = Int.ofNat (1 : Nat)
abbrev mO (i : Nat) : Nat := (gD two.p i).length
abbrev L1 (i : Nat) (i1 : Nat) : Int := gD (gD two.p i) i1
abbrev G6 (i : Nat) (i1 : Nat) : Int := gD (gD two.s i).o i1
abbrev AL : Prop := Int.ofNat (0 : Nat) = Int.ofNat (0 : Nat)
theorem BBA (_x : One) : (AXI _x) = ((M3 /\ M3 /\ (true = true -> yY /\ (1 : Int) < (↑(2 : Nat) : Int)) /\ (true = true -> lK /\ (∀ (i : Nat), i < (2 : Nat) -> gD z_p11_5 i = yE i) /\ iH /\
 z_p11_5.length.succ.le (4611686018427387904 : Nat))) /\ true = true /\ lK /\ (∀ (i : Nat), i < (2 : Nat) -> mO i = mO i /\ ∀ (i_1 : Nat), i_1 < mO i -> L1 i i_1 = L1 i i_1) /\ lK /\ (∀ (i :
 Nat), i < (2 : Nat) -> (gD two.s i).n = (gD two.s i).n /\ (gD two.s i).o.length = (gD two.s i).o.length /\ ∀ (i_1 : Nat), i_1 < (gD two.s i).o.length -> G6 i i_1 = G6 i i_1) /\ iH /\ AL /\ AL /\
 AL /\ AL /\ AL /\ AL /\ AL /\ AL /\ AL /\ AL /\ AL /\ AL /\ iH /\ AL /\ AL /\ AL /\ AL /\ AL /\ AL /\ AL /\ AL /\ AL /\
 AL /\ AL /\ AL /\ AL /\ AL /\ AL /\ AL /\ AL /\ AL /\ AL /\ AL /\ AL /\ AL /\ AL /\ AL /\ AL /\ AL /\ AL /\ AL /\ AL /\
 AL /\ AL /\ AL /\ AL /\ AL /\ AL /\ AL /\ AL /\ AL /\ AL /\ AL /\ AL /\ AL /\ AL /\ AL /\ AL /\ AL /\ AL /\ AL /\ AL /\
 AL /\ AL /\ AL /\ AL /\ AL /\ AL /\ AL /\ AL /\ AL /\ AL /\ AL /\ AL /\ AL /\ AL /\ AL /\ AL /\ AL /\ AL /\ AL /\ AL /\
 AL /\ AL /\ AL /\ AL /\ AL /\ AL /\ AL /\ AL /\ AL /\ AL /\ AL /\ AL /\ AL /\ AL /\ AL /\ AL /\ AL /\ AL /\ AL /\ AL /\
 AL /\ AL /\ AL /\ AL /\ AL /\ AL /\ AL /\ AL /\ AL /\ AL /\ AL /\ AL /\ AL /\ AL /\ AL /\ AL /\ AL /\ AL /\ AL /\ AL /\
 AL /\ AL /\ AL /\ AL /\ AL /\ AL /\ AL /\ AL /\ AL /\ AL /\ AL /\ AL /\ AL /\ AL /\ AL /\ AL /\ AL /\ AL /\ AL /\ AL /\
 AL) := by kernel_rfl
def C_poss : Ctr := { ro := [100], α := I2, xs := λ a => AXR a.a a.b, L := λ _ => [(100, wkO)], val := λ _ => .bool true, keep := λ _ => [(100, .live wkO)], pre := λ a => [(a.a = 0 ∨ a.a = 1) /\ (a.b = 0 ∨ a.b = 1)] }
def ANC : List AVal -> Heap -> Option (I2 × List (Nat × Nat) × List Nat)
 | [.bptr w _, .d p, .d s], _ => some (⟨CR p, CR s⟩, [(100, w)], [])
 | _, _ => none
theorem ARW (p : Int) : AAT p := by
 rw [AJX]; delta Ho TR Il Nn Rc AG
 repeat' apply And.intro
 all_goals first
  | rfl
  | decide +kernel
  | (intro i hi; exact ⟨rfl, λ _ _ => rfl⟩)
  | (intro i hi; exact ⟨rfl, rfl, λ _ _ => rfl⟩)
  | (intro _; exact ⟨rfl, λ i hi => FE _ _ _ hi, rfl, Nat.le_of_ble_eq_true rfl⟩)
  | (intros; rfl)
theorem aQ : AR Try.prog rO (C_better.spec ABE) := EX C_better (λ _ => AAR) [(0, 1000), (1, 1016), (2, 1032)] [] AKL (λ _ => by kernel_rfl) (λ _ => AM) (λ (p : Int) _ => ARW p) (λ _ => FK rfl rfl) _
theorem BJN (x : One) : AVD x := by
 rw [BCA]; delta V8 T9 mG z_p00_3 D1 z_p00_5 AN kD M0 P2 pN
 repeat' apply And.intro
 all_goals first
  | rfl
  | decide +kernel
  | (intro i hi; exact ⟨rfl, λ _ _ => rfl⟩)
  | (intro i hi; exact ⟨rfl, rfl, λ _ _ => rfl⟩)
  | (intro _; exact ⟨rfl, λ i hi => FE _ _ _ hi, rfl, Nat.le_of_ble_eq_true rfl⟩)
  | (intros; rfl)
theorem BFC (x : One) : AWW x := by
 rw [AZN]; delta zF kV z_p01_2 G3 z_p01_4 lI lB F2 P7 AQ
 repeat' apply And.intro
 all_goals first
  | rfl
  | decide +kernel
  | (intro i hi; exact ⟨rfl, λ _ _ => rfl⟩)
  | (intro i hi; exact ⟨rfl, rfl, λ _ _ => rfl⟩)
  | (intro _; exact ⟨rfl, λ i hi => FE _ _ _ hi, rfl, Nat.le_of_ble_eq_true rfl⟩)
  | (intros; rfl)
theorem BDS (x : One) : AXZ x := by
 rw [BAO]; delta Q3 jL z_p10_2 L3 z_p10_4 AO kM I8 W3 zS
 repeat' apply And.intro
 all_goals first
  | rfl
  | decide +kernel
  | (intro i hi; exact ⟨rfl, λ _ _ => rfl⟩)
  | (intro i hi; exact ⟨rfl, rfl, λ _ _ => rfl⟩)
  | (intro _; exact ⟨rfl, λ i hi => FE _ _ _ hi, rfl, Nat.le_of_ble_eq_true rfl⟩)
  | (intros; rfl)
theorem BEI (x : One) : AXI x := by
 rw [BBA]; delta yY M3 lK z_p11_3 yE z_p11_5 iH mO L1 G6 AL
 repeat' apply And.intro
 all_goals first
  | rfl
  | decide +kernel
  | (intro i hi; exact ⟨rfl, λ _ _ => rfl⟩)
  | (intro i hi; exact ⟨rfl, rfl, λ _ _ => rfl⟩)
  | (intro _; exact ⟨rfl, λ i hi => FE _ _ _ hi, rfl, Nat.le_of_ble_eq_true rfl⟩)
  | (intros; rfl)
theorem S9 : AR Try.prog ACZ (C_poss.spec ANC) := okT C_poss (λ (a : I2) h => by
 obtain ⟨p, s⟩ := a
 obtain ⟨h1, h2⟩ : (p = 0 ∨ p = 1) /\ (s = 0 ∨ s = 1) := h
 rcases h1 with rfl | rfl <;> rcases h2 with rfl | rfl
 ·exact JK (A := qF) (ren := []) (fz := []) hJ (by kernel_rfl) (AH RO AM) (BJN default)
 ·exact JK (A := qF) (ren := []) (fz := []) hJ (by kernel_rfl) (AH RO AM) (BFC default)
 ·exact JK (A := qF) (ren := []) (fz := []) hJ (by kernel_rfl) (AH RO AM) (BDS default)
 ·exact JK (A := qF) (ren := []) (fz := []) hJ (by kernel_rfl) (AH RO AM) (BEI default)) _
end Go.Bal
