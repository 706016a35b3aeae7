/- TopOwed: works that are right, and their order. -/
import Derived.Test.YtgjkmndbkidgjaaGreatOwG
set_option linter.unusedVariables false
set_option linter.unusedSimpArgs false
namespace Go.Bal
open Go Go.Sym Go.Proofs
structure WksOk (l : List Wk) : Prop where
 len : 1 <= l.length /\ l.length <= 30
 few : ∀ i, i < l.length -> (gD l i).of.length <= 5
 num : ∀ i, i < l.length -> (0 <= (gD l i).ba /\ (gD l i).ba <= 1000002) /\ 0 <= (gD l i).mi /\ (gD l i).mi <= 10000
 of : ∀ i j, i < l.length -> j < (gD l i).of.length -> 0 <= gD (gD l i).of j /\ gD (gD l i).of j < i
 apart : ∀ i j k, i < l.length -> j < k -> k < (gD l i).of.length -> gD (gD l i).of j ≠ gD (gD l i).of k
def dWks (a : AVal) (H : Heap) : Option (List Wk × List Nat) := match HK a H with
 | some (n, g, f) => some (AJ n λ i => BE (g i), f)
 | none => none
def dW1 : List AVal -> Heap -> Option (List Wk × List (Nat × Nat) × List Nat)
 | [y], H => match dWks y H with
  | some (l, f) => some (l, [], f)
  | none => none
 | _, _ => none
structure NJ where
 i : Nat
 j : Nat
 deriving Inhabited
def wkB (w : Wk) : AObj := .box [.d (AF w.of), .int w.ba, .int w.mi]
def C_right : Ctr := { α := List Wk, xs := λ l => [.d (JZ l)], L := λ _ => [], val := λ _ => .int 0, keep := λ _ => [], pre := λ l => [WksOk l] }
def rt5 (l : List Wk) : Shape := { α := Nat, dflt := 0, T := λ i => ⟨[(1, .bptr 201 0), (3, .bool false), (17, .d (JZ l)), (18, .int l.length), (19, .int i)], [(201, .live (HY l))]⟩, inv := λ i => i <= l.length, meas := λ i => 30 - i, first := [(201, 1000)] }
def rt10 (l : List Wk) (m : Nat) : Shape := { α := NJ, dflt := default, T := λ a => ⟨[(1, .bptr 201 0), (3, .bool false), (5, .bptr 202 0), (17, .d (JZ l)), (18, .int l.length), (19, .int a.i), (42, .d (AF (gD l a.i).of)), (43, .int (gD l a.i).of.length), (44, .int a.j)], [(201, .live (HY l)), (202, .live (wkB (gD l a.i)))]⟩, inv := λ a => a.i < l.length /\ 30 - a.i = m /\ a.j <= (gD l a.i).of.length, meas := λ a => (gD l a.i).of.length - a.j, first := [(202, 7064)] }
def AHV (l : List Wk) : Ann := { ann 61 [(xL, WB), (n_eW, C4Kw.spec d4Kw), (qY, C4Kr.spec d4Kr), (OO, rK)] with loops := λ id => if id = 5 then some [rt5 l] else none, inner := λ gs id => if id = 10 then match gs with
  | m :: _ => some [rt10 l m]
  | [] => none
 else none }
def AHA (l : List Wk) : Prop := BB Try.prog (AHV l) C0 (AS C0) (C_right.xs l) (AK []) (C_right.val l) [] [] []
abbrev aU (l : List Wk) : Bool := !HO (↑l.length : Int) (1 : Int) (30 : Int)
abbrev SG (l : List Wk) : List Wk := AJ l.length λ (i : Nat) => BE (BK (gD l i))
abbrev SF (l : List Wk) : Nat := (SG l).length
abbrev eM (l : List Wk) : Prop := SF l = l.length
abbrev Df (l : List Wk) (i : Nat) : Wk := gD (SG l) i
abbrev dC (l : List Wk) (i : Nat) : List Int := (Df l i).of
abbrev Ec (l : List Wk) (i : Nat) : Nat := (dC l i).length
abbrev dQ (l : List Wk) (i : Nat) (i1 : Nat) : Int := gD (dC l i) i1
abbrev IK (l : List Wk) (i : Nat) (i1 : Nat) : Int := gD (gD l i).of i1
abbrev aN (l : List Wk) (i : Nat) : Int := (Df l i).ba
abbrev Sz (l : List Wk) (i : Nat) : Int := (Df l i).mi
abbrev Sl (l : List Wk) : Prop := ∀ (i : Nat), i < SF l -> Ec l i = (gD l i).of.length /\ (∀ (i_1 : Nat), i_1 < Ec l i -> dQ l i i_1 = IK l i i_1) /\ aN l i = (gD l i).ba /\
 Sz l i = (gD l i).mi
abbrev Rr (i : Nat) (l : List Wk) (i1 : Nat) : Prop := i < (gD l i1).of.length
abbrev HA (l : List Wk) : Prop := ∀ (i : Nat), i < l.length -> (gD l i).of.length = (gD l i).of.length /\ (∀ (i_1 : Nat), Rr i_1 l i -> IK l i i_1 = IK l i i_1) /\ (gD l i).ba = (gD l i).ba /\
 (gD l i).mi = (gD l i).mi
abbrev NQ (l : List Wk) : Prop := (↑l.length : Int) = (↑l.length : Int)
abbrev Ip (l : List Wk) : Prop := l.length = l.length /\ HA l
abbrev Nz (a : Nat) (l : List Wk) : Prop := (↑a : Int) < (↑l.length : Int)
abbrev Lv (l : List Wk) (a : Nat) : Bool := bif !HO (gD l a).ba (0 : Int) (1000002 : Int) then true else !HO (gD l a).mi (0 : Int) (10000 : Int)
abbrev TP (l : List Wk) (a : Nat) : List Int := AJ (gD l a).of.length λ (i : Nat) => IK l a i
abbrev VK (l : List Wk) (a : Nat) : Nat := (TP l a).length
abbrev Gk (a : Nat) : Prop := (↑a : Int) = (↑a : Int)
abbrev Ki (l : List Wk) (a : NJ) (a1 : Nat) : Prop := (gD l a.i).of.length = (gD l a1).of.length
abbrev My (i : Nat) (l : List Wk) (a : NJ) : Prop := i < (gD l a.i).of.length
abbrev XC (l : List Wk) (a : NJ) (i : Nat) : Int := gD (gD l a.i).of i
abbrev Fl (l : List Wk) (a : NJ) (a1 : Nat) : Prop := ∀ (i : Nat), My i l a -> XC l a i = IK l a1 i
abbrev XD (a : Nat) : Nat := (30 : Nat) - a
abbrev TW (a : NJ) (l : List Wk) (a1 : Nat) : Prop := a.i < l.length /\ (30 : Nat) - a.i = XD a1 /\ a.j <= (gD l a.i).of.length
abbrev Ow (a : NJ) (l : List Wk) : Prop := (↑a.j : Int) < (↑(gD l a.i).of.length : Int)
abbrev Ox (a : NJ) : Prop := (0 : Int) <= (↑a.j : Int)
abbrev Gn (a : NJ) : Nat := a.j - Int.toNat (0 : Int)
abbrev Rj (l : List Wk) (a : NJ) (i : Nat) : Int := gD (gD l a.i).of (Int.toNat (0 : Int) + i)
abbrev SV (a : NJ) (l : List Wk) : List Int := AJ (Gn a) λ (i : Nat) => Rj l a i
abbrev Js (a : NJ) (l : List Wk) : Nat := (SV a l).length
abbrev TA (l : List Wk) (a : NJ) : Int := gD (gD l a.i).of a.j
abbrev Td (l : List Wk) (a : NJ) (a1 : NJ) : Prop := (gD l a.i).of.length = (gD l a1.i).of.length
abbrev Mj (l : List Wk) (a : NJ) (a1 : NJ) : Prop := ∀ (i : Nat), My i l a -> XC l a i = XC l a1 i
abbrev Mv (l : List Wk) (a : NJ) : Nat := (gD l a.i).of.length - a.j
theorem AKW (l : List Wk) : (AHA l) = (((!aU l) = true -> eM l /\ Sl l /\ SF l < (4611686018427387904 : Nat) /\ True) /\ bif bif aU l then true else !(SG l).all λ (x : Wk)
 => KN x then Int.ofNat (0 : Nat) = Int.ofNat (3 : Nat) else (∃ (a : Nat), (false = false /\ l.length = l.length /\ HA l /\ NQ l /\ (↑a : Int) = (0 : Int) /\ Ip l) /\ a.le l.length) /\ ∀ (a : Nat), a.le
 l.length -> bif decide (Nz a l) then ((0 : Int) <= (↑a : Int) /\ Nz a l) /\ ((!Lv l a) = true -> VK l a = (gD l a).of.length /\ (∀ (i : Nat), i < VK l a -> gD (TP l a) i =
 IK l a i) /\ eM l /\ Sl l /\ Gk a /\ l.length = SF l /\ (∀ (i : Nat), i < l.length -> (gD l i).of.length = Ec l i /\ (∀ (i_1 : Nat), Rr i_1 l i -> IK l i i_1 = dQ
 l i i_1) /\ (gD l i).ba = aN l i /\ (gD l i).mi = Sz l i) /\ Gk a /\ VK l a < (4611686018427387904 : Nat) /\ True) /\ bif bif Lv l a then true else !(TP l a).all λ (x : Int) =>
 xT (SG l) (↑a : Int) x then Int.ofNat (0 : Nat) = Int.ofNat (140 : Nat) else (∃ (a_2 : NJ), (false = false /\ l.length = l.length /\ HA l /\ NQ l /\ (↑a_2.i : Int) = (↑a : Int) /\ Ki l a_2 a /\
 Fl l a_2 a /\ (↑(gD l a_2.i).of.length : Int) = (↑(gD l a).of.length : Int) /\ (↑a_2.j : Int) = (0 : Int) /\ l.length = l.length /\ HA l /\ Ki l a_2 a /\ Fl l a_2 a /\ (gD l a_2.i).ba = (gD l
 a).ba /\ (gD l a_2.i).mi = (gD l a).mi) /\ TW a_2 l a) /\ ∀ (a_2 : NJ), TW a_2 l a -> bif decide (Ow a_2 l) then (Ox a_2 /\ Ow a_2 l) /\ ((true = true -> (0 : Int) <= (0 : Int) /\
 Ox a_2 /\ (↑a_2.j : Int) <= (↑(gD l a_2.i).of.length : Int)) /\ (true = true -> Js a_2 l = Gn a_2 /\ (∀ (i : Nat), i < (AJ (a_2.j - (0 : Nat)) λ (i : Nat) => gD (gD l a_2.i).of ((0 : Nat) +
 i)).length -> gD (SV a_2 l) i = Rj l a_2 i) /\ TA l a_2 = TA l a_2 /\ (Js a_2 l).succ.le (4611686018427387904 : Nat))) /\ ∃ (a_4 : NJ), ((false = bif false then true else CK
 (SV a_2 l) (TA l a_2)) /\ l.length = l.length /\ HA l /\ NQ l /\ (↑a_4.i : Int) = (↑a_2.i : Int) /\ Td l a_4 a_2 /\ Mj l a_4 a_2 /\ (↑(gD l a_4.i).of.length : Int) = (↑(gD l
 a_2.i).of.length : Int) /\ (↑a_4.j : Int) = IntKind.i64.wrap ((↑a_2.j : Int) + (1 : Int)) /\ l.length = l.length /\ HA l /\ Td l a_4 a_2 /\ Mj l a_4 a_2 /\ (gD l a_4.i).ba = (gD l a_2.i).ba /\ (gD l
 a_4.i).mi = (gD l a_2.i).mi) /\ TW a_4 l a /\ Mv l a_4 < Mv l a_2 else ∃ (a_4 : Nat), (false = false /\ l.length = l.length /\ HA l /\ NQ l /\ (↑a_4 : Int) = IntKind.i64.wrap ((↑a_2.i :
 Int) + (1 : Int)) /\ Ip l) /\ a_4.le l.length /\ XD a_4 < XD a else Int.ofNat (0 : Nat) = Int.ofNat (0 : Nat)) := by kernel_rfl
def nilN : List Int := []
def th0L : List (Nat × AObj) := [(100, .box [.fn (.func GP) [] [.bptr 101 0]]), (101, .box [.d QF])]
def th0K : List (Nat × HCell) := [(100, .live (.box [.fn (.func GP) [] [.bptr 101 0]])), (101, .live (.box [.d QF]))]
def C_if0 : Ctr := { ro := [100, 101], α := List Int, xs := λ l => [.d (AF l), .fn (.func PN) [] [.bptr 100 0]], L := λ _ => th0L, val := λ _ => .int (-1), keep := λ _ => th0K, pre := λ l => [l.length = 0] }
def AHK : List AVal -> Heap -> Option (List Int × List (Nat × Nat) × List Nat)
 | [y, .fn _ _ [.bptr id _]], H => match YY y H, H id with
  | some (l, f), .live (.box [.fn _ _ [.bptr j _]]) => match H j with
   | .live (.box [.d _]) => some (l, [(100, id), (101, j)], f)
   | _ => none
  | _, _ => none
 | _, _ => none
def AYB : Ann := { ann 19 [] with E := [100, 101], unr := λ id => if id = 2 then 1 else 0 }
def AXU (_x : One) : Prop := BB Try.prog AYB IQ (AS IQ) (C_if0.xs nilN) (AK (C_if0.L nilN)) (C_if0.val nilN) (C_if0.keep nilN) [] []
theorem BBV (_x : One) : (AXU _x) = (Int.negSucc (0 : Nat) = Int.negSucc (0 : Nat) /\ (0 : Nat) = (0 : Nat) /\ ∀ (i : Nat), i < (0 : Nat) -> false = false) := by kernel_rfl
theorem AUZ (l : List Wk) (h : WksOk l) : AHA l := by
 have hl := h.len
 have e1 : HO l.length 1 30 = true := by simp [HO]; omega
 have e2 : (l.all λ (x : Wk) => KN x) = true := by
  rw [List.all_eq_true]; intro x hx; obtain ⟨i, hi, rfl⟩ := OW hx
  have := h.few i hi
  simp [KN, this]
 have e3 : ∀ i, i < l.length -> HO (gD l i).ba 0 1000002 = true /\ HO (gD l i).mi 0 10000 = true := λ i hi => by
  have := h.num i hi
  simp [HO]; omega
 have e4 : ∀ i : Nat, i < l.length -> ((gD l i).of.all λ (x : Int) => xT l i x) = true := λ i hi => by
  rw [List.all_eq_true]; intro x hx; obtain ⟨j, hj, rfl⟩ := OW hx
  have := h.of i j hi hj
  have hw : wr ((l.length : Int) - 1) = (l.length : Int) - 1 := JA (by omega) (by omega)
  simp only [xT, Wx, HO, hw, Bool.and_eq_true, decide_eq_true_eq, bne_iff_ne]
  omega
 rw [AKW]; delta aU SG SF eM Df dC Ec dQ IK aN Sz Sl Rr HA NQ Ip Nz Lv TP VK Gk Ki My XC Fl XD TW Ow Ox Gn Rj SV Js TA Td Mj Mv; simp only [BF, eq_self, implies_true, and_self, true_and, and_true, true_implies, forall_const, decide_eq_true_eq, decide_eq_false_iff_not, Int.toNat_natCast, dSpan_eSpan, dInt_eInt, AV, BH, BJ, BC, AZ, AX, AY, Nat.zero_add, Int.zero_sub, Nat.le_eq, Nat.succ_eq_add_one, Nat.add_one_le_iff, Bool.not_eq_true', Bool.not_eq_false', rng_length, AT, AP, e1, e2]
 refine ⟨by omega, λ h0 => absurd h0 (by decide), λ _ => ⟨⟨0, rfl, Nat.zero_le _⟩, λ i hi hlt => ?_⟩⟩
 have hi : i < l.length := by omega
 obtain ⟨q1, q2⟩ := e3 i hi
 have hf := h.few i hi
 simp only [q1, q2, e4 i hi]
 refine ⟨⟨by omega, by omega⟩, λ _ => by omega, λ h0 => absurd h0 (by decide), λ _ => ⟨⟨⟨i, 0⟩, ⟨rfl, rfl, λ _ _ => rfl, rfl, rfl, rfl, λ _ _ => rfl, rfl, rfl⟩, hi, rfl, Nat.zero_le _⟩, λ a ha => ?_⟩⟩
 obtain ⟨h1, h2, h3⟩ := ha
 have hai : a.i = i := by omega
 obtain ⟨ai, aj⟩ := a
 have hai : ai = i := hai
 subst hai
 refine ⟨λ hlt => ?_, λ hge => ⟨ai + 1, (CE (by omega)).symm, by omega, by omega⟩⟩
 have hj : aj < (gD l ai).of.length := by have : (aj : Int) < (gD l ai).of.length := hlt; omega
 have e5 : CK (AJ (aj - Int.toNat 0) λ (i : Nat) => gD (gD l ai).of (Int.toNat 0 + i)) (gD (gD l ai).of aj) = false := by
  rw [Bool.eq_false_iff]; intro hm
  rw [nT] at hm
  obtain ⟨k, hk, e⟩ := OW hm
  rw [rng_length] at hk
  rw [FE _ _ _ hk] at e
  simp only [Int.toNat_zero, Nat.zero_add, Nat.sub_zero] at e hk
  exact h.apart ai k aj hi hk hj e
 refine ⟨⟨by omega, by omega⟩, ⟨⟨by omega, by omega, by omega⟩, λ k hk => ?_, ?_⟩, ⟨ai, aj + 1⟩, ⟨?_, rfl, rfl, λ _ _ => rfl, rfl, (CE (by omega)).symm, rfl, λ _ _ => rfl, rfl, rfl⟩, ⟨hi, rfl, hj⟩, ?_⟩
 ·rw [FE _ _ _ (by simpa using hk)]
 ·show aj - Int.toNat 0 < _; omega
 ·exact e5.symm
 ·show (gD l ai).of.length - (aj + 1) < (gD l ai).of.length - aj; omega
theorem AQW : AR Try.prog yS (C_right.spec dW1) := EX C_right AHV [] [] AQQ (λ _ => by kernel_rfl) (λ _ => AH K7 (AH BFX (AH BJA (AH RO AM)))) (λ (l : List Wk) h => AUZ l h) (λ _ => FK rfl rfl) _
theorem BBJ {l : List Int} (h : l.length = 0) : l = nilN := List.length_eq_zero_iff.1 h
theorem AZX : AR Try.prog JM (C_if0.spec AHK) := okT C_if0 (λ (l : List Int) h => by
 cases BBJ h
 exact JK (A := AYB) (ren := []) (fz := []) WK (by kernel_rfl) AM (by
  show AXU default; rw [BBV]; exact ⟨rfl, rfl, λ _ _ => rfl⟩)) _
def C_cf0 : Ctr := { C_if0 with val := λ (_ : List Int) => .bool false }
def AYC : Ann := { ann 9 [(JM, C_if0.spec AHK)] with E := [100, 101] }
def AYH (l : List Int) : Prop := BB Try.prog AYC IY (AS IY) (C_if0.xs l) (AK (C_if0.L l)) (.bool false) (C_if0.keep l) [] []
theorem BCG (l : List Int) : (AYH l) = (((AJ l.length λ (i : Nat) => gD l i).length = l.length /\ (∀ (i : Nat), i < (AJ l.length λ (i : Nat) => gD l i).length -> gD (AJ l.length λ (i : Nat) => gD l i) i = gD
 l i) /\ 0 = 0 /\ (∀ (i : Nat), i < 0 -> false = false) /\ 0 = 0 /\ (∀ (i : Nat), i < 0 -> false = false) /\ (AJ l.length λ (i : Nat) => gD l i).length = 0) /\ false = false /\ 0 = 0 /\ ∀ (i : Nat), i < 0 -> false = false) := by
 kernel_rfl
def C_e0 : Ctr := { ro := [101], α := List Int, xs := λ l => [.fn (.func GP) [] [.bptr 101 0], .d (AF l)], L := λ _ => [(101, .box [.d QF])], val := λ _ => .bool true, keep := λ _ => [(101, .live (.box [.d QF]))], pre := λ l => [l.length = 0] }
def d_e0 : List AVal -> Heap -> Option (List Int × List (Nat × Nat) × List Nat)
 | [.fn _ _ [.bptr j _], y], H => match YY y H, H j with
  | some (l, f), .live (.box [.d _]) => some (l, [(101, j)], f)
  | _, _ => none
 | _, _ => none
def A_e0 : Ann := { ann 9 [(JD, C_cf0.spec AHK)] with E := [101] }
def V_e0 (l : List Int) : Prop := BB Try.prog A_e0 yQ (AS yQ) (C_e0.xs l) (AK (C_e0.L l)) (C_e0.val l) (C_e0.keep l) [] []
theorem BJL (l : List Int) : (V_e0 l) = (((AJ l.length λ (i : Nat) => gD l i).length = l.length /\ (∀ (i : Nat), i < (AJ l.length λ (i : Nat) => gD l i).length -> gD (AJ l.length λ (i : Nat) => gD l i) i = gD l
 i) /\ 0 = 0 /\ (∀ (i : Nat), i < 0 -> false = false) /\ 0 = 0 /\ (∀ (i : Nat), i < 0 -> false = false) /\ (AJ l.length λ (i : Nat) => gD l i).length = 0) /\ true = true /\ 0 = 0 /\ ∀ (i : Nat), i < 0 -> false = false) := by
 kernel_rfl
def C_order : Ctr := { ro := [100], α := List Wk, xs := λ _ => [.bptr 100 0], L := λ l => [(100, HY l)], val := λ l => .d (AF (CC l.length)), keep := λ l => [(100, .live (HY l))], pre := λ l => [WksOk l] }
def AIW : List AVal -> Heap -> Option (List Wk × List (Nat × Nat) × List Nat)
 | [.bptr p _], H => match JC H p with
  | some l => some (l, [(100, p)], [])
  | none => none
 | _, _ => none
def or4n (l : List Wk) : Shape := { α := One, dflt := default, T := λ _ => ⟨[(0, .bptr 100 0), (3, .bptr 201 0), (4, .fn (.func GP) [] [.bptr 201 0]), (5, .int 0)], [(100, .live (HY l)), (201, .live (.box [.d QF]))]⟩, inv := λ _ => True, meas := λ _ => 2000, first := [(201, 2000)] }
def or4o (l : List Wk) : Shape := { α := NJ, dflt := default, T := λ a => ⟨[(0, .bptr 100 0), (3, .bptr 201 0), (4, .fn (.func GP) [] [.bptr 201 0]), (5, .int a.j)], [(100, .live (HY l)), (201, .live (.box [.own 202 1 0 a.i])), (202, .live (.row 1 a.i λ i => BM (i : Int)))]⟩, inv := λ a => 1 <= a.i /\ a.i <= l.length /\ a.j <= a.i, meas := λ a => (31 - a.i) * 40 + (a.i - a.j), again := [(202, 8048)] }
def or4p (l : List Wk) : Shape := { or4o l with again := [] }
def AIF (l : List Wk) : Ann := { ann 39 [(GP, orS (C_th0.spec AYG) (C_th.spec d_th)), (qY, orS (C_e0.spec d_e0) (C4Kt.spec d4Kt))] with E := [100], mt := λ id => id == 7, loops := λ id => if id = 4 then some [or4n l, or4o l, or4p l] else none }
def AGZ (l : List Wk) : Prop := BB Try.prog (AIF l) K9 (AS K9) (C_order.xs l) (AK (C_order.L l)) (C_order.val l) (C_order.keep l) [] [202]
abbrev Zg : Prop := Int.ofNat (0 : Nat) = Int.ofNat (0 : Nat)
abbrev cK (l : List Wk) (i : Nat) (i1 : Nat) : Int := gD (gD l i).of i1
abbrev MM (l : List Wk) : Prop := ∀ (i : Nat), i < l.length -> (gD l i).of.length = (gD l i).of.length /\ (∀ (i_1 : Nat), i_1 < (gD l i).of.length -> cK l i i_1 = cK l i i_1) /\ (gD l i).ba = (gD l i).ba
 /\ (gD l i).mi = (gD l i).mi
abbrev EQ : Prop := (0 : Nat) = (0 : Nat)
abbrev MN : Prop := ∀ (i : Nat), i < (0 : Nat) -> false = false
abbrev fG (l : List Wk) : Prop := (0 : Int) < (↑l.length : Int)
abbrev eT (l : List Wk) : List Int := (gD l (Int.toNat (0 : Int))).of
abbrev bJ (l : List Wk) : Nat := (eT l).length
abbrev cO (l : List Wk) (i : Nat) : Int := gD (eT l) i
abbrev bP (l : List Wk) : List Int := AJ (bJ l) λ (i : Nat) => cO l i
abbrev Gt (l : List Wk) : Nat := (bP l).length
abbrev Pm (l : List Wk) : List Int := (gD l (0 : Nat)).of
abbrev XM : Prop := (0 : Nat) < (1 : Nat)
abbrev Pj : Prop := (1 : Nat) = (1 : Nat)
abbrev Oi : Prop := (1 : Nat) <= (1 : Nat) /\ (XM -> Pj)
abbrev On (a : NJ) : Prop := (↑a.j : Int) = IntKind.i64.wrap ((-1 : Int) + (1 : Int))
abbrev UW (a : NJ) (l : List Wk) : Prop := (1 : Nat) <= a.i /\ a.i <= l.length /\ a.j <= a.i
abbrev WC (a : NJ) : Nat := ((31 : Nat) - a.i) * (40 : Nat) + (a.i - a.j)
abbrev Sf (l : List Wk) : Prop := (CC l.length).length = (0 : Nat)
abbrev Qs (l : List Wk) : Prop := l.length = l.length /\ MM l
abbrev Mq (a : NJ) (l : List Wk) : Prop := (↑a.j : Int) < (↑l.length : Int)
abbrev KO (a : NJ) : Prop := ∀ (i : Nat), i < a.i -> (↑i : Int) = (↑i : Int)
abbrev Pa (a : NJ) : Prop := a.i <= (30 : Nat)
abbrev Lg (a : NJ) : Bool := !CK (CC a.i) (↑a.j : Int)
abbrev Jm (a : NJ) : Prop := Lg a = true
abbrev Ko (l : List Wk) (a : NJ) (i : Nat) : Int := gD (gD l a.j).of i
abbrev XO (l : List Wk) (a : NJ) : List Int := AJ (gD l a.j).of.length λ (i : Nat) => Ko l a i
abbrev SO (l : List Wk) (a : NJ) : Nat := (XO l a).length
abbrev VD (a : NJ) : Nat := a.i + (1 : Nat)
abbrev Sr (a : NJ) (a1 : NJ) : Prop := a.i = VD a1
abbrev Qk (a : NJ) (l : List Wk) (a1 : NJ) : Prop := UW a l /\ WC a < WC a1
abbrev Sx (l : List Wk) : Prop := ∀ (a : NJ), UW a l -> bif decide (Mq a l) then ((↑a.j : Int) = (↑a.j : Int) /\ EQ /\ a.i = a.i /\ a.i = a.i /\ KO a /\ EQ /\ a.i = a.i /\ a.i = a.i
 /\ KO a /\ Pa a /\ (Jm a -> (0 : Int) <= (↑a.j : Int) /\ Mq a l) /\ (Jm a -> SO l a = (gD l a.j).of.length /\ (∀ (i : Nat), i < SO l a -> gD (XO l a) i = Ko l
 a i) /\ EQ /\ a.i = a.i /\ a.i = a.i /\ KO a /\ EQ /\ a.i = a.i /\ a.i = a.i /\ KO a /\ SO l a < (4611686018427387904 : Nat) /\ Pa a)) /\ bif bif Lg a then (XO l a).all
 λ (x : Int) => CK (CC a.i) x else false then ((a.i = a.i /\ ((0 : Nat) < a.i -> Pj)) /\ Oi /\ (false = true -> XM) /\ VD a <= (9223372036854775807 : Nat) /\ VD a * (8 : Nat) <=
 (140737488355328 : Nat)) /\ ∃ (a_2 : NJ), (On a_2 /\ l.length = l.length /\ MM l /\ EQ /\ Sr a_2 a /\ Sr a_2 a /\ ∀ (i : Nat), i < a_2.i -> (↑i : Int) = bif decide (i < a.i) then (↑i : Int)
 else (↑a.j : Int)) /\ Qk a_2 l a else ∃ (a_2 : NJ), ((↑a_2.j : Int) = IntKind.i64.wrap ((↑a.j : Int) + (1 : Int)) /\ l.length = l.length /\ MM l /\ EQ /\ a_2.i = a.i /\ a_2.i = a.i /\ KO a_2) /\
 Qk a_2 l a else (CC l.length).length = a.i /\ (0 : Nat) + a.i <= a.i /\ (∀ (j : Nat), j < (CC l.length).length -> gD (CC l.length) j = (↑((0 : Nat) + j) : Int)) /\ Qs l
theorem AOH (l : List Wk) : (AGZ l) = ((∃ (a : One), (Zg /\ l.length = l.length /\ MM l /\ EQ /\ MN) /\ True) /\ (∀ (a : One), True -> bif decide (fG l) then (Zg /\ EQ /\
 MN /\ EQ /\ MN /\ (true = true -> (0 : Int) <= (0 : Int) /\ fG l) /\ (true = true -> Gt l = bJ l /\ (∀ (i : Nat), i < (AJ (Pm l).length λ (i : Nat) => gD (Pm l)
 i).length -> gD (bP l) i = cO l i) /\ EQ /\ MN /\ EQ /\ MN /\ Gt l = (0 : Nat))) /\ ((True /\ ((0 : Nat) < (0 : Nat) -> (0 : Nat) = (1 : Nat))) /\ Oi /\ (true = true ->
 XM) /\ (1 : Nat) <= (9223372036854775807 : Nat) /\ (8 : Nat) <= (140737488355328 : Nat)) /\ ∃ (a : NJ), (On a /\ l.length = l.length /\ MM l /\ EQ /\ a.i = (1 : Nat) /\ a.i = (1 : Nat) /\ ∀ (i : Nat),
 i < a.i -> (↑i : Int) = (0 : Int)) /\ UW a l /\ WC a < (2000 : Nat) else Sf l /\ Sf l /\ Qs l) /\ Sx l /\ Sx l) := by kernel_rfl
theorem AZA : AR Try.prog JD (C_cf0.spec AHK) := okT C_cf0 (λ (l : List Int) h => JK (A := AYC) (ren := []) (fz := []) UA (by kernel_rfl) (AH AZX AM) (by
 have h : l.length = 0 := h
 show AYH l; rw [BCG]; simp [h])) _
theorem BDW : AR Try.prog qY (C_e0.spec d_e0) := okT C_e0 (λ (l : List Int) h => JK (A := A_e0) (ren := []) (fz := []) AHF (by kernel_rfl) (AH AZA AM) (by
 have h : l.length = 0 := h
 show V_e0 l; rw [BJL]; simp only [BF, eq_self, implies_true, and_self, true_and, and_true, true_implies, forall_const, decide_eq_true_eq, decide_eq_false_iff_not, Int.toNat_natCast, dSpan_eSpan, dInt_eInt, AV, BH, BJ, BC, AZ, AX, AY, Nat.zero_add, Int.zero_sub, Nat.le_eq, Nat.succ_eq_add_one, Nat.add_one_le_iff, Bool.not_eq_true', Bool.not_eq_false', rng_length, AT, AP]; exact h)) _
theorem RH (m : Nat) : (CC m).length = m := rng_length _ _
theorem Av {m i : Nat} (h : i < m) : gD (CC m) i = (i : Int) := FE _ _ _ h
theorem AAM {m : Nat} {x : Int} : CK (CC m) x = true ↔ 0 <= x /\ x < m := by
 rw [nT]
 constructor
 ·intro h
  obtain ⟨i, hi, rfl⟩ := OW h
  rw [RH] at hi
  rw [Av hi]; omega
 ·intro h
  have : gD (CC m) x.toNat = x := by rw [Av (by omega)]; omega
  rw [<- this]; exact ADP (by rw [RH]; omega)
theorem AUO (l : List Wk) (h : WksOk l) : AGZ l := by
 have hl := h.len
 have h0 : (gD l 0).of.length = 0 := by
  by_cases hz : (gD l 0).of.length = 0
  ·exact hz
  ·have := h.of 0 0 (by omega) (by omega); omega
 have w0 : IntKind.i64.wrap ((-1) + 1) = ((0 : Nat) : Int) := JA (by omega) (by omega)
 rw [AOH]; delta Zg cK MM EQ MN fG eT bJ cO bP Gt Pm XM Pj Oi On UW WC Sf Qs Mq KO Pa Lg Jm Ko XO SO VD Sr Qk Sx; simp only [BF, eq_self, implies_true, and_self, true_and, and_true, true_implies, forall_const, decide_eq_true_eq, decide_eq_false_iff_not, Int.toNat_natCast, dSpan_eSpan, dInt_eInt, AV, BH, BJ, BC, AZ, AX, AY, Nat.zero_add, Int.zero_sub, Nat.le_eq, Nat.succ_eq_add_one, Nat.add_one_le_iff, Bool.not_eq_true', Bool.not_eq_false', rng_length, AT, AP, w0, RH]
 refine ⟨⟨default, trivial⟩, ⟨λ _ => ⟨⟨⟨by omega, by omega⟩, h0⟩, ⟨by omega, by omega, by omega, by omega, by omega⟩, ⟨1, 0⟩, ⟨rfl, rfl, rfl, λ i hi => by have hi : i < 1 := hi; omega⟩, ⟨Nat.le_refl 1, by show 1 <= l.length; omega, Nat.zero_le _⟩, by decide⟩, λ h1 => absurd h1 (by omega)⟩, λ a ha => ?_⟩
 obtain ⟨m, j⟩ := a
 obtain ⟨a1, a2, a3⟩ := ha
 have a1 : 1 <= m := a1
 have a2 : m <= l.length := a2
 have a3 : j <= m := a3
 refine ⟨λ hlt => ?_, λ hge => ?_⟩
 ·have hj : j < l.length := by have : (j : Int) < l.length := hlt; omega
  clear hlt
  have hall : j = m -> ((gD l j).of.all λ (x : Int) => CK (CC m) x) = true := λ e => by
   subst e
   rw [List.all_eq_true]; intro x hx; obtain ⟨k, hk, rfl⟩ := OW hx
   rw [AAM]; exact h.of j k hj hk
  have hm : CK (CC m) j = decide (j < m) := by
   rw [Bool.eq_iff_iff, AAM, decide_eq_true_eq]; omega
  have hf := h.few j hj
  simp only [hm, Int.toNat_natCast]
  refine ⟨⟨by omega, λ _ => ⟨by omega, by omega⟩, λ _ => ⟨by omega, by omega⟩⟩, λ hc => ?_, λ hc => ?_⟩
  ·have hjm : j = m := by
    by_cases q : j < m
    ·rw [decide_eq_true q] at hc; cases hc
    ·omega
   subst hjm
   refine ⟨⟨by omega, (λ h => by cases h), by omega, by omega⟩, ⟨j + 1, 0⟩, ⟨rfl, rfl, rfl, λ i hi => ?_⟩, ⟨by show 1 <= j + 1; omega, hj, Nat.zero_le _⟩, ?_⟩
   ·have hi : i < j + 1 := hi
    by_cases q : i < j
    ·rw [decide_eq_true q]; rfl
    ·rw [decide_eq_false q]; show (i : Int) = j; omega
   ·show (31 - (j + 1)) * 40 + (j + 1 - 0) < (31 - j) * 40 + (j - j); omega
  ·have hjm : j < m := by
    by_cases q : j < m
    ·exact q
    ·rw [decide_eq_false q, hall (by omega)] at hc; cases hc
   refine ⟨⟨m, j + 1⟩, ⟨(CE (by omega)).symm, rfl⟩, ⟨a1, a2, hjm⟩, ?_⟩
   show (31 - m) * 40 + (m - (j + 1)) < (31 - m) * 40 + (m - j); omega
 ·have hge : ¬ (j : Int) < l.length := hge
  obtain rfl : m = l.length := by omega
  exact ⟨rfl, Nat.le_refl _, λ i hi => Av hi⟩
theorem APP : AR Try.prog F7 (C_order.spec AIW) := EX C_order AIF [] [202] AMX (λ _ => by kernel_rfl) (λ _ => AH (aT BAH AXE) (AH (aT BDW BFA) AM)) (λ (l : List Wk) h => AUO l h) (λ _ => FK rfl rfl) _
end Go.Bal
