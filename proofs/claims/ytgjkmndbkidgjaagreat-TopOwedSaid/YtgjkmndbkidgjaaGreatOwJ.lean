/- TopOwed: works at work; who is stale, and when works are ready. -/
import Derived.Test.YtgjkmndbkidgjaaGreatOwH
set_option linter.unusedVariables false
set_option linter.unusedSimpArgs false
namespace Go.Bal
open Go Go.Sym Go.Proofs
def C_opened : Ctr := { α := List Wk, xs := λ l => [.d (JZ l)], L := λ _ => [], val := λ l => .tup [.bptr 0 0, .d (AF (CC l.length)), .int 0], keep := λ l => [(0, .live (HY l))], pre := λ l => [WksOk l] }
def Y2 : Ann := ann 26 [(yS, C_right.spec dW1), (F7, C_order.spec AIW)]
def AAG (l : List Wk) : Prop := BB Try.prog Y2 uZ (AS uZ) (C_opened.xs l) (AK []) (C_opened.val l) (C_opened.keep l) [(0, 5048)] []
theorem AJK (l : List Wk) : (AAG l) = (((AJ l.length λ (i : Nat) => BE (BK (gD l i))).length = l.length /\ (∀ (i : Nat), i < (AJ l.length λ (i : Nat) => BE (BK (gD l i))).length -> (gD (AJ l.length
 λ (i : Nat) => BE (BK (gD l i))) i).of.length = (gD l i).of.length /\ (∀ (i_1 : Nat), i_1 < (gD (AJ l.length λ (i : Nat) => BE (BK (gD l i))) i).of.length -> gD (gD (AJ l.length λ (i : Nat) => BE (BK (gD l
 i))) i).of i_1 = gD (gD l i).of i_1) /\ (gD (AJ l.length λ (i : Nat) => BE (BK (gD l i))) i).ba = (gD l i).ba /\ (gD (AJ l.length λ (i : Nat) => BE (BK (gD l i))) i).mi = (gD l i).mi) /\ WksOk (AJ l.length λ (i
 : Nat) => BE (BK (gD l i)))) /\ ((AJ l.length λ (i : Nat) => BE (BK (gD l i))).length = l.length /\ (∀ (i : Nat), i < (AJ l.length λ (i : Nat) => BE (BK (gD l i))).length -> (gD (AJ l.length λ (i : Nat) =>
 BE (BK (gD l i))) i).of.length = (gD l i).of.length /\ (∀ (i_1 : Nat), i_1 < (gD (AJ l.length λ (i : Nat) => BE (BK (gD l i))) i).of.length -> gD (gD (AJ l.length λ (i : Nat) => BE (BK (gD l i))) i).of i_1 = gD
 (gD l i).of i_1) /\ (gD (AJ l.length λ (i : Nat) => BE (BK (gD l i))) i).ba = (gD l i).ba /\ (gD (AJ l.length λ (i : Nat) => BE (BK (gD l i))) i).mi = (gD l i).mi) /\ l.length = (AJ l.length λ (i : Nat) => BE
 (BK (gD l i))).length /\ (∀ (i : Nat), i < l.length -> (gD l i).of.length = (gD (AJ l.length λ (i : Nat) => BE (BK (gD l i))) i).of.length /\ (∀ (i_1 : Nat), i_1 < (gD l i).of.length -> gD (gD l i).of i_1 = gD (gD (AJ
 l.length λ (i : Nat) => BE (BK (gD l i))) i).of i_1) /\ (gD l i).ba = (gD (AJ l.length λ (i : Nat) => BE (BK (gD l i))) i).ba /\ (gD l i).mi = (gD (AJ l.length λ (i : Nat) => BE (BK (gD l i))) i).mi) /\ WksOk
 (AJ l.length λ (i : Nat) => BE (BK (gD l i)))) /\ bif decide ((↑(CC (AJ l.length λ (i : Nat) => BE (BK (gD l i))).length).length : Int) < (↑l.length : Int)) then False else (CC l.length).length = (CC (AJ
 l.length λ (i : Nat) => BE (BK (gD l i))).length).length /\ (∀ (i : Nat), i < (CC l.length).length -> gD (CC l.length) i = gD (CC (AJ l.length λ (i : Nat) => BE (BK (gD l i))).length) i) /\ Int.ofNat (0 :
 Nat) = Int.ofNat (0 : Nat) /\ l.length = l.length /\ ∀ (i : Nat), i < l.length -> (gD l i).of.length = (gD l i).of.length /\ (∀ (i_1 : Nat), i_1 < (gD l i).of.length -> gD (gD l i).of i_1 = gD (gD l i).of i_1) /\ (gD l i).ba =
 (gD l i).ba /\ (gD l i).mi = (gD l i).mi) := by kernel_rfl
structure WI where
 l : List Wk
 v : List Int
structure RvOk (a : WI) : Prop where
 w : WksOk a.l
 one : a.v.length = 1
 inn : 0 <= gD a.v 0 /\ gD a.v 0 < a.l.length
def pB : List AVal -> Heap -> Option (WI × List (Nat × Nat) × List Nat)
 | [x, y], H => match dWks x H, YY y H with
  | some (l, f), some (v, g) => some (⟨l, v⟩, [], f ++ g)
  | _, _ => none
 | _, _ => none
def C_listed : Ctr := { α := WI, xs := λ a => [.d (JZ a.l), .d (AF a.v)], L := λ _ => [], val := λ _ => .int 0, keep := λ _ => [], pre := λ a => [RvOk a] }
def Z2 : Ann := { ann 26 [(qY, C4Kl.spec d4Kl)] with unr := λ id => if id = 4 then 1 else 0 }
def Y9 (a : WI) : Prop := BB Try.prog Z2 vO (AS vO) (C_listed.xs a) (AK []) (C_listed.val a) [] [] []
theorem AKC (a : WI) : (Y9 a) = (((AJ a.v.length λ (i : Nat) => gD a.v i).length = a.v.length /\ (∀ (i : Nat), i < (AJ a.v.length λ (i : Nat) => gD a.v i).length -> gD (AJ a.v.length λ (i : Nat) => gD
 a.v i) i = gD a.v i) /\ (AJ a.l.length λ (i : Nat) => BE (BK (gD a.l i))).length = a.l.length /\ (∀ (i : Nat), i < (AJ a.l.length λ (i : Nat) => BE (BK (gD a.l i))).length -> (gD (AJ a.l.length λ (i : Nat) =>
 BE (BK (gD a.l i))) i).of.length = (gD a.l i).of.length /\ (∀ (i_1 : Nat), i_1 < (gD (AJ a.l.length λ (i : Nat) => BE (BK (gD a.l i))) i).of.length -> gD (gD (AJ a.l.length λ (i : Nat) => BE (BK (gD a.l i)))
 i).of i_1 = gD (gD a.l i).of i_1) /\ (gD (AJ a.l.length λ (i : Nat) => BE (BK (gD a.l i))) i).ba = (gD a.l i).ba /\ (gD (AJ a.l.length λ (i : Nat) => BE (BK (gD a.l i))) i).mi = (gD a.l i).mi) /\ a.l.length = (AJ
 a.l.length λ (i : Nat) => BE (BK (gD a.l i))).length /\ (∀ (i : Nat), i < a.l.length -> (gD a.l i).of.length = (gD (AJ a.l.length λ (i : Nat) => BE (BK (gD a.l i))) i).of.length /\ (∀ (i_1 : Nat), i_1 < (gD a.l
 i).of.length -> gD (gD a.l i).of i_1 = gD (gD (AJ a.l.length λ (i : Nat) => BE (BK (gD a.l i))) i).of i_1) /\ (gD a.l i).ba = (gD (AJ a.l.length λ (i : Nat) => BE (BK (gD a.l i))) i).ba /\ (gD a.l i).mi = (gD (AJ
 a.l.length λ (i : Nat) => BE (BK (gD a.l i))) i).mi) /\ (AJ a.v.length λ (i : Nat) => gD a.v i).length < (4611686018427387904 : Nat) /\ True) /\ bif !(AJ a.v.length λ (i : Nat) => gD a.v i).all λ (x : Int) =>
 Wx (AJ a.l.length λ (i : Nat) => BE (BK (gD a.l i))) x then Int.ofNat (0 : Nat) = Int.ofNat (2 : Nat) else bif decide ((1 : Int) < (↑a.v.length : Int)) then (((0 : Int) <= (1 : Int) /\ (1 : Int) < (↑a.v.length :
 Int)) /\ (0 : Int) <= IntKind.i64.wrap ((1 : Int) - (1 : Int)) /\ IntKind.i64.wrap ((1 : Int) - (1 : Int)) < (↑a.v.length : Int)) /\ bif decide (gD a.v (Int.toNat (1 : Int)) <= gD a.v (IntKind.i64.wrap ((1 : Int) - (1 :
 Int))).toNat) then Int.ofNat (0 : Nat) = Int.ofNat (9 : Nat) else False else Int.ofNat (0 : Nat) = Int.ofNat (0 : Nat)) := by kernel_rfl
def anyI (b : Nat -> Bool) (l : List Int) : Bool := decide (0 <= BN (λ i => b (gD l i).toNat) l.length 0)
def MP (l : List Wk) (v : List Int) : Nat -> Nat -> Bool
 | 0, _ => false
 | k + 1, i => bif decide (i = k) then (bif CK v k then true else anyI (MP l v k) (gD l k).of) else MP l v k i
def C_asked : Ctr := { α := WI, xs := λ a => [.d (JZ a.l), .d (AF a.v)], L := λ _ => [], val := λ a => .tup [.bptr 0 0, .d (AF (CC a.l.length)), .d (.arr 1 30 λ i => xG (MP a.l a.v a.l.length i)), .int 0], keep := λ a => [(0, .live (HY a.l))], pre := λ a => [RvOk a] }
def as8 (a : WI) : Shape := { α := Nat, dflt := 0, T := λ k => ⟨[(0, .d (JZ a.l)), (1, .d (AF a.v)), (6, .rptr 201 1 0 0), (8, .rptr 202 1 0 0), (9, .bptr 203 0), (10, .d (AF (CC a.l.length))), (29, .d (AF (CC a.l.length))), (30, .int a.l.length), (31, .int k)], [(201, .live (stR λ _ => false)), (202, .live (stR (MP a.l a.v k))), (203, .live (HY a.l))]⟩, inv := λ k => k <= a.l.length, meas := λ k => 40 - k, first := [(201, 1032), (202, 2000), (203, 3016)] }
def AIU (a : WI) : Ann := { ann 53 [(oM, C_opened.spec dW1), (vX, C_listed.spec pB), (OO, rK), (JD, C3Ka.spec d3Ka)] with loops := λ id => if id = 8 then some [as8 a] else none }
def AIE (a : WI) : Prop := BB Try.prog (AIU a) ADM (AS ADM) (C_asked.xs a) (AK []) (C_asked.val a) (C_asked.keep a) [(0, 203)] []
abbrev cV : Prop := (Value.agg #[Value.bool false, Value.bool false, Value.bool false, Value.bool false, Value.bool false, Value.bool false, Value.bool false, Value.bool false, Value.bool false, Value.bool false,
 Value.bool false, Value.bool false, Value.bool false, Value.bool false, Value.bool false, Value.bool false, Value.bool false, Value.bool false, Value.bool false, Value.bool false, Value.bool false, Value.bool false,
 Value.bool false, Value.bool false, Value.bool false, Value.bool false, Value.bool false, Value.bool false, Value.bool false, Value.bool false]).cells.toList = (List.replicate (30 : Nat) (Value.bool
 false).cells.toList).flatten
abbrev QR (a : WI) : List Wk := AJ a.l.length λ (i : Nat) => BE (BK (gD a.l i))
abbrev RZ (a : WI) : Nat := (QR a).length
abbrev eB (a : WI) : Prop := RZ a = a.l.length
abbrev Cg (a : WI) (i : Nat) : Wk := gD (QR a) i
abbrev cM (a : WI) (i : Nat) : List Int := (Cg a i).of
abbrev El (a : WI) (i : Nat) : Nat := (cM a i).length
abbrev Yq (a : WI) (i : Nat) (i1 : Nat) : Int := gD (cM a i) i1
abbrev SD (a : WI) (i : Nat) (i1 : Nat) : Int := gD (gD a.l i).of i1
abbrev eZ (a : WI) (i : Nat) : Int := (Cg a i).ba
abbrev Sw (a : WI) (i : Nat) : Int := (Cg a i).mi
abbrev Sm (a : WI) : Prop := ∀ (i : Nat), i < RZ a -> El a i = (gD a.l i).of.length /\ (∀ (i_1 : Nat), i_1 < El a i -> Yq a i i_1 = SD a i i_1) /\ eZ a i = (gD a.l i).ba /\
 Sw a i = (gD a.l i).mi
abbrev NL (a : WI) : List Int := AJ a.v.length λ (i : Nat) => gD a.v i
abbrev TQ (a : WI) : Nat := (NL a).length
abbrev Jh (a : WI) : Prop := TQ a = a.v.length
abbrev Re (a : WI) : Prop := ∀ (i : Nat), i < TQ a -> gD (NL a) i = gD a.v i
abbrev TO (a : WI) : Prop := a.l.length = a.l.length
abbrev Nq (i : Nat) (a : WI) (i1 : Nat) : Prop := i < (gD a.l i1).of.length
abbrev UT (a : WI) : Prop := ∀ (i : Nat), i < a.l.length -> (gD a.l i).of.length = (gD a.l i).of.length /\ (∀ (i_1 : Nat), Nq i_1 a i -> SD a i i_1 = SD a i i_1) /\ (gD a.l i).ba = (gD a.l i).ba
 /\ (gD a.l i).mi = (gD a.l i).mi
abbrev Me (a : WI) : Prop := a.v.length = a.v.length
abbrev Mz (a : WI) : Prop := ∀ (i : Nat), i < a.v.length -> gD a.v i = gD a.v i
abbrev KI : Prop := (0 : Nat) = (0 : Nat)
abbrev Jp (a : WI) : List Int := CC (RZ a)
abbrev Jb (a : WI) : Nat := (Jp a).length
abbrev Fz (a : WI) : Prop := (CC a.l.length).length = Jb a
abbrev Ru (i : Nat) (a : WI) : Prop := i < (CC a.l.length).length
abbrev Nt (a : WI) : Prop := ∀ (i : Nat), Ru i a -> gD (CC a.l.length) i = gD (Jp a) i
abbrev GU : Prop := (30 : Nat) = (30 : Nat)
abbrev Se : Prop := ∀ (i : Nat), i < (30 : Nat) -> false = false
abbrev Sq (a : WI) (a1 : Nat) : Prop := gD (CC a.l.length) a1 = gD (CC a.l.length) a1
abbrev Pq (a : WI) (a1 : Nat) : Bool := CK (NL a) (gD (CC a.l.length) a1)
abbrev Rp (a : WI) (a1 : Nat) : Prop := (!Pq a a1) = true
abbrev Ls (a : WI) (a1 : Nat) : Prop := (0 : Int) <= gD (CC a.l.length) a1
abbrev TS (a : WI) (a1 : Nat) : Nat := (gD (CC a.l.length) a1).toNat
abbrev Ht (a : WI) (a1 : Nat) : List Int := (gD a.l (TS a a1)).of
abbrev Pn (a : WI) (a1 : Nat) : Nat := (Ht a a1).length
abbrev Qv (a : WI) (a1 : Nat) (i : Nat) : Int := gD (Ht a a1) i
abbrev Pr (a : WI) (a1 : Nat) : List Int := AJ (Pn a a1) λ (i : Nat) => Qv a a1 i
abbrev OE (a : WI) (a1 : Nat) : Nat := (Pr a a1).length
abbrev Lc (i : Nat) (a : WI) (a1 : Nat) : Prop := i < OE a a1
abbrev NW (a : WI) (a1 : Nat) (i : Nat) : Int := gD (Pr a a1) i
abbrev Ij (a : WI) (a1 : Nat) : Prop := ∀ (i : Nat), i < (30 : Nat) -> MP a.l a.v a1 i = MP a.l a.v a1 i
abbrev TV (a : WI) : Prop := (CC a.l.length).length = (CC a.l.length).length
abbrev WR (a : WI) : Prop := ∀ (i : Nat), Ru i a -> Sq a i
abbrev Lj (a : WI) : Prop := TO a /\ UT a
abbrev Nv (a : Nat) : Nat := (40 : Nat) - a
theorem AQL (a : WI) : (AIE a) = (cV /\ cV /\ (eB a /\ Sm a /\ WksOk (QR a)) /\ (eB a /\ Sm a /\ Jh a /\ Re a /\ RvOk (WI.mk (QR a) (NL
 a))) /\ (∃ (a_1 : Nat), (TO a /\ UT a /\ Me a /\ Mz a /\ KI /\ KI /\ Fz a /\ Nt a /\ Fz a /\ Nt a /\ (↑a.l.length : Int) = (↑(Jb a) : Int) /\
 (↑a_1 : Int) = (0 : Int) /\ GU /\ Se /\ GU /\ (∀ (i : Nat), i < (30 : Nat) -> MP a.l a.v a_1 i = false) /\ a.l.length = RZ a /\ ∀ (i : Nat), i < a.l.length -> (gD a.l i).of.length = El a i
 /\ (∀ (i_1 : Nat), Nq i_1 a i -> SD a i i_1 = Yq a i i_1) /\ (gD a.l i).ba = eZ a i /\ (gD a.l i).mi = Sw a i) /\ a_1.le a.l.length) /\ ∀ (a_1 : Nat), a_1.le a.l.length -> bif decide ((↑a_1
 : Int) < (↑a.l.length : Int)) then ((0 : Int) <= (↑a_1 : Int) /\ (↑a_1 : Int) < (↑(CC a.l.length).length : Int)) /\ (Jh a /\ Re a /\ Sq a a_1 /\ TQ a < (4611686018427387904 : Nat) /\
 (Rp a a_1 -> Ls a a_1 /\ gD (CC a.l.length) a_1 < (↑a.l.length : Int)) /\ (Rp a a_1 -> OE a a_1 = Pn a a_1 /\ (∀ (i : Nat), Lc i a a_1 -> NW a a_1 i = Qv a a_1
 i) /\ KI /\ GU /\ Ij a a_1 /\ GU /\ Ij a a_1 /\ OE a a_1 < (4611686018427387904 : Nat) /\ ∀ (i : Nat), Lc i a a_1 -> (0 : Int) <= NW a a_1 i /\ NW a a_1 i <
 (30 : Int)) /\ (Ls a a_1 /\ gD (CC a.l.length) a_1 < (↑(30 : Nat) : Int)) /\ (TS a a_1).succ.le (30 : Nat)) /\ ∃ (a_3 : Nat), (TO a /\ UT a /\ Me a /\ Mz a /\ KI /\
 KI /\ TV a /\ WR a /\ TV a /\ WR a /\ (↑a.l.length : Int) = (↑a.l.length : Int) /\ (↑a_3 : Int) = IntKind.i64.wrap ((↑a_1 : Int) + (1 : Int)) /\ GU /\ Se /\ GU /\ (∀
 (i : Nat), i < (30 : Nat) -> MP a.l a.v a_3 i = bif decide (i = TS a a_1) then bif Pq a a_1 then true else decide (BN (λ (i : Nat) => MP a.l a.v a_1 (NW a a_1 i).toNat) (OE a a_1) (0 :
 Nat) >= (0 : Int)) else MP a.l a.v a_1 i) /\ Lj a) /\ a_3.le a.l.length /\ Nv a_3 < Nv a_1 else TV a /\ WR a /\ GU /\ (∀ (i : Nat), i < (30 : Nat) -> MP a.l a.v a.l.length i =
 MP a.l a.v a_1 i) /\ Int.ofNat (0 : Nat) = Int.ofNat (0 : Nat) /\ Lj a) := by kernel_rfl
theorem AQX (l : List Wk) (h : WksOk l) : AAG l := by
 rw [AJK]; simp only [BF, eq_self, implies_true, and_self, true_and, and_true, true_implies, forall_const, decide_eq_true_eq, decide_eq_false_iff_not, Int.toNat_natCast, dSpan_eSpan, dInt_eInt, AV, BH, BJ, BC, AZ, AX, AY, Nat.zero_add, Int.zero_sub, Nat.le_eq, Nat.succ_eq_add_one, Nat.add_one_le_iff, Bool.not_eq_true', Bool.not_eq_false', rng_length, AT, AP, RH]
 exact ⟨h, h, λ h0 => absurd h0 (by omega)⟩
theorem AKQ : AR Try.prog oM (C_opened.spec dW1) := EX C_opened (λ _ => Y2) [(0, 5048)] [] AKO (λ _ => by kernel_rfl) (λ _ => AH AQW (AH APP AM)) (λ (l : List Wk) h => AQX l h) (λ _ => FK rfl rfl) _
theorem APT (a : WI) (h : RvOk a) : Y9 a := by
 have h1 := h.one
 have h2 := h.inn
 have hl := h.w.len
 have e : (a.v.all λ (x : Int) => Wx a.l x) = true := by
  rw [List.all_eq_true]; intro x hx; obtain ⟨i, hi, rfl⟩ := OW hx
  obtain rfl : i = 0 := by omega
  have hw : wr ((a.l.length : Int) - 1) = (a.l.length : Int) - 1 := JA (by omega) (by omega)
  simp only [Wx, HO, hw, Bool.and_eq_true, decide_eq_true_eq]; omega
 rw [AKC]; simp only [BF, eq_self, implies_true, and_self, true_and, and_true, true_implies, forall_const, decide_eq_true_eq, decide_eq_false_iff_not, Int.toNat_natCast, dSpan_eSpan, dInt_eInt, AV, BH, BJ, BC, AZ, AX, AY, Nat.zero_add, Int.zero_sub, Nat.le_eq, Nat.succ_eq_add_one, Nat.add_one_le_iff, Bool.not_eq_true', Bool.not_eq_false', rng_length, AT, AP, e]
 exact ⟨by omega, λ h0 => absurd h0 (by decide), λ h0 => absurd h0 (by omega)⟩
theorem AJP : AR Try.prog vX (C_listed.spec pB) := EX C_listed (λ _ => Z2) [] [] AJW (λ _ => by kernel_rfl) (λ _ => AH BJY AM) (λ (a : WI) h => APT a h) (λ _ => FK rfl rfl) _
theorem ATB (a : WI) (h : RvOk a) : AIE a := by
 have hl := h.w.len
 have h1 := h.one
 rw [AQL]; delta cV QR RZ eB Cg cM El Yq SD eZ Sw Sm NL TQ Jh Re TO Nq UT Me Mz KI Jp Jb Fz Ru Nt GU Se Sq Pq Rp Ls TS Ht Pn Qv Pr OE Lc NW Ij TV WR Lj Nv; simp only [BF, eq_self, implies_true, and_self, true_and, and_true, true_implies, forall_const, decide_eq_true_eq, decide_eq_false_iff_not, Int.toNat_natCast, dSpan_eSpan, dInt_eInt, AV, BH, BJ, BC, AZ, AX, AY, Nat.zero_add, Int.zero_sub, Nat.le_eq, Nat.succ_eq_add_one, Nat.add_one_le_iff, Bool.not_eq_true', Bool.not_eq_false', rng_length, AT, AP, RH]
 refine ⟨rfl, rfl, h.w, h, ⟨0, ⟨rfl, λ _ _ => rfl⟩, Nat.zero_le _⟩, λ k hk => ⟨λ hlt => ?_, λ hge => ?_⟩⟩
 ·have hk : k < a.l.length := by omega
  have hf := h.w.few k hk
  simp only [Av hk, Int.toNat_natCast]
  refine ⟨⟨by omega, by omega⟩, ⟨by omega, λ _ => ⟨by omega, by omega⟩, λ _ => ⟨by omega, λ i hi => ?_⟩, ⟨by omega, by omega⟩, by omega⟩, k + 1, ⟨(CE (by omega)).symm, λ i _ => rfl⟩, hk, by omega⟩
  have := h.w.of k i hk hi
  omega
 ·obtain rfl : k = a.l.length := by omega
  exact λ _ _ => rfl
theorem rB : AR Try.prog uX (C_asked.spec pB) := EX C_asked AIU [(0, 203)] [] AUI (λ _ => by kernel_rfl) (λ _ => AH AKQ (AH AJP (AH RO (AH BFY AM)))) (λ (a : WI) h => ATB a h) (λ _ => FK rfl rfl) _
def DG (b : Nat -> Bool) : Nat -> List Int
 | 0 => []
 | k + 1 => bif b k then DG b k ++ [(k : Int)] else DG b k
def Kn (a : WI) : List Int := DG (MP a.l a.v a.l.length) a.l.length
def C_Stale : Ctr := { α := WI, xs := λ a => [.d (JZ a.l), .d (AF a.v)], L := λ _ => [], val := λ a => .tup [.d (AF (Kn a)), .int 0], keep := λ _ => [], pre := λ a => [RvOk a] }
def sl4n (a : WI) : Shape := { α := Nat, dflt := 0, T := λ k => ⟨[(8, .rptr 201 1 0 0), (9, .int 0), (10, .d QF), (21, .int a.l.length), (22, .int k)], [(201, .live (stR (MP a.l a.v a.l.length)))]⟩, inv := λ k => k <= a.l.length /\ DG (MP a.l a.v a.l.length) k = [], meas := λ k => 40 - k, first := [(201, 2128)] }
def sl4o (a : WI) : Shape := { α := Nat, dflt := 0, T := λ k => ⟨[(8, .rptr 201 1 0 0), (9, .int 0), (10, .own 202 1 0 (DG (MP a.l a.v a.l.length) k).length), (21, .int a.l.length), (22, .int k)], [(201, .live (stR (MP a.l a.v a.l.length))), (202, .live (rwI (DG (MP a.l a.v a.l.length) k)))]⟩, inv := λ k => k <= a.l.length /\ 0 < (DG (MP a.l a.v a.l.length) k).length, meas := λ k => 40 - k, again := [(202, 8048)] }
def sl4p (a : WI) : Shape := { sl4o a with again := [] }
def AHJ (a : WI) : Ann := { ann 39 [(uX, C_asked.spec pB)] with mt := λ id => id == 7, loops := λ id => if id = 4 then some [sl4n a, sl4o a, sl4p a] else none }
def AHM (a : WI) : Prop := BB Try.prog (AHJ a) U9 (AS U9) (C_Stale.xs a) (AK []) (C_Stale.val a) [] [] [202]
abbrev QW (a : WI) : List Wk := AJ a.l.length λ (i : Nat) => BE (BK (gD a.l i))
abbrev Bo (a : WI) : Nat := (QW a).length
abbrev Bf (a : WI) (i : Nat) : Wk := gD (QW a) i
abbrev Zu (a : WI) (i : Nat) : List Int := (Bf a i).of
abbrev eP (a : WI) (i : Nat) : Nat := (Zu a i).length
abbrev QO (a : WI) : List Int := AJ a.v.length λ (i : Nat) => gD a.v i
abbrev eE (a : WI) : Nat := (QO a).length
abbrev FP : Prop := (0 : Nat) = (0 : Nat)
abbrev IN : Prop := Int.ofNat (0 : Nat) = Int.ofNat (0 : Nat)
abbrev aA : Prop := ∀ (i : Nat), i < (0 : Nat) -> false = false
abbrev JP (a : WI) : Prop := (↑a.l.length : Int) = (↑a.l.length : Int)
abbrev KS : Prop := (30 : Nat) = (30 : Nat)
abbrev PF (a : WI) (i : Nat) : Bool := MP a.l a.v a.l.length i
abbrev OX (a : WI) (a1 : Nat) : List Int := DG (MP a.l a.v a.l.length) a1
abbrev TF (a : Nat) (a1 : WI) : Prop := a <= a1.l.length /\ OX a1 a = []
abbrev Si (a : Nat) (a1 : WI) : Bool := decide ((↑a : Int) < (↑a1.l.length : Int))
abbrev Ir (a : Nat) : Prop := (true = true -> (0 : Int) <= (↑a : Int) /\ (↑a : Int) < (↑(30 : Nat) : Int)) /\ (true = true -> a.succ.le (30 : Nat))
abbrev Jr (a : WI) (a1 : Nat) : Bool := bif (0 : Int) == (0 : Int) then PF a a1 else false
abbrev UJ : Prop := (0 : Nat) < (1 : Nat)
abbrev Mh : Prop := (1 : Nat) = (1 : Nat)
abbrev Qz : Prop := (1 : Nat) <= (1 : Nat) /\ (UJ -> Mh)
abbrev DY (a : WI) (a1 : Nat) : Nat := (OX a a1).length
abbrev Mx (a : WI) (a1 : Nat) : Prop := DY a a1 = (1 : Nat)
abbrev NX (a : Nat) (a1 : Nat) : Prop := (↑a : Int) = IntKind.i64.wrap ((↑a1 : Int) + (1 : Int))
abbrev NG (a : WI) : Prop := ∀ (i : Nat), i < (30 : Nat) -> PF a i = PF a i
abbrev NB (i : Nat) (a : WI) (a1 : Nat) : Prop := i < DY a a1
abbrev KD (a : WI) (a1 : Nat) (i : Nat) : Int := gD (OX a a1) i
abbrev Gp (a : WI) (a1 : Nat) : Prop := (0 : Nat) < DY a a1
abbrev Qp (a : Nat) (a1 : WI) : Prop := a <= a1.l.length /\ Gp a1 a
abbrev Sy (a : Nat) : Nat := (40 : Nat) - a
abbrev Ns (a : Nat) (a1 : Nat) : Prop := Sy a < Sy a1
abbrev SY (a : Nat) (a1 : WI) (a2 : Nat) : Prop := Qp a a1 /\ Ns a a2
abbrev Gg (a : WI) : Prop := (Kn a).length = (0 : Nat)
abbrev TM (a : WI) (a1 : Nat) : Nat := DY a a1 + (1 : Nat)
abbrev Sp (a : WI) (a1 : Nat) (a2 : Nat) : Prop := DY a a1 = TM a a2
abbrev Jk (a : WI) (a1 : Nat) (a2 : Nat) : Prop := DY a a1 = DY a a2
abbrev Ih (a : WI) : Prop := ∀ (a_1 : Nat), Qp a_1 a -> bif Si a_1 a then Ir a_1 /\ bif Jr a a_1 then ((DY a a_1 = DY a a_1 /\ (Gp a a_1 -> Mh)) /\
 Qz /\ (false = true -> UJ) /\ TM a a_1 <= (9223372036854775807 : Nat) /\ TM a a_1 * (8 : Nat) <= (140737488355328 : Nat)) /\ ∃ (a_3 : Nat), (FP /\ IN /\ FP /\ Sp a a_3
 a_1 /\ JP a /\ NX a_3 a_1 /\ KS /\ NG a /\ Sp a a_3 a_1 /\ ∀ (i : Nat), NB i a a_3 -> KD a a_3 i = bif decide (NB i a a_1) then KD a a_1 i else (↑a_1 :
 Int)) /\ SY a_3 a a_1 else ∃ (a_3 : Nat), (FP /\ IN /\ FP /\ Jk a a_3 a_1 /\ JP a /\ NX a_3 a_1 /\ KS /\ NG a /\ Jk a a_3 a_1 /\ ∀ (i : Nat), NB
 i a a_3 -> KD a a_3 i = KD a a_1 i) /\ SY a_3 a a_1 else (Kn a).length = DY a a_1 /\ (0 : Nat) + DY a a_1 <= DY a a_1 /\ (∀ (j : Nat), j < (Kn a).length -> gD (Kn a) j = gD
 (OX a a_1) ((0 : Nat) + j)) /\ IN
theorem AQZ (a : WI) : (AHM a) = ((Bo a = a.l.length /\ (∀ (i : Nat), i < Bo a -> eP a i = (gD a.l i).of.length /\ (∀ (i_1 : Nat), i_1 < eP a i -> gD (Zu a i) i_1 = gD (gD a.l
 i).of i_1) /\ (Bf a i).ba = (gD a.l i).ba /\ (Bf a i).mi = (gD a.l i).mi) /\ eE a = a.v.length /\ (∀ (i : Nat), i < eE a -> gD (QO a) i = gD a.v i) /\ RvOk (WI.mk (QW a) (QO a))
 /\ (Value.agg #[Value.bool false, Value.bool false, Value.bool false, Value.bool false, Value.bool false, Value.bool false, Value.bool false, Value.bool false, Value.bool false, Value.bool false, Value.bool false,
 Value.bool false, Value.bool false, Value.bool false, Value.bool false, Value.bool false, Value.bool false, Value.bool false, Value.bool false, Value.bool false, Value.bool false, Value.bool false, Value.bool false,
 Value.bool false, Value.bool false, Value.bool false, Value.bool false, Value.bool false, Value.bool false, Value.bool false]).cells.toList = (List.replicate (30 : Nat) (Value.bool false).cells.toList).flatten) /\ (∃ (a_1
 : Nat), (FP /\ IN /\ FP /\ aA /\ JP a /\ (↑a_1 : Int) = (0 : Int) /\ KS /\ ∀ (i : Nat), i < (30 : Nat) -> PF a i = MP (QW a) (QO a) (Bo a) i) /\ TF
 a_1 a) /\ (∀ (a_1 : Nat), TF a_1 a -> bif Si a_1 a then Ir a_1 /\ bif Jr a a_1 then ((True /\ ((0 : Nat) < (0 : Nat) -> (0 : Nat) = (1 : Nat))) /\ Qz /\ (true = true -> UJ) /\ (1 :
 Nat) <= (9223372036854775807 : Nat) /\ (8 : Nat) <= (140737488355328 : Nat)) /\ ∃ (a_3 : Nat), (FP /\ IN /\ FP /\ Mx a a_3 /\ JP a /\ NX a_3 a_1 /\ KS /\ NG a /\
 Mx a a_3 /\ ∀ (i : Nat), NB i a a_3 -> KD a a_3 i = (↑a_1 : Int)) /\ SY a_3 a a_1 else ∃ (a_3 : Nat), (FP /\ IN /\ FP /\ aA /\ JP a /\ NX a_3 a_1 /\
 KS /\ NG a) /\ TF a_3 a /\ Ns a_3 a_1 else Gg a /\ Gg a /\ IN) /\ Ih a /\ Ih a) := by kernel_rfl
theorem vG (b : Nat -> Bool) : ∀ k, (DG b k).length <= k
 | 0 => Nat.le_refl _
 | k + 1 => by
  simp only [DG]
  have := vG b k
  cases b k
  ·simp only [cond_false]; omega
  ·simp only [cond_true, List.length_append, List.length_cons, List.length_nil]; omega
theorem ASO (a : WI) (h : RvOk a) : AHM a := by
 have hl := h.w.len
 rw [AQZ]; delta QW Bo Bf Zu eP QO eE FP IN aA JP KS PF OX TF Si Ir Jr UJ Mh Qz DY Mx NX NG NB KD Gp Qp Sy Ns SY Gg TM Sp Jk Ih; simp only [BF, eq_self, implies_true, and_self, true_and, and_true, true_implies, forall_const, decide_eq_true_eq, decide_eq_false_iff_not, Int.toNat_natCast, dSpan_eSpan, dInt_eInt, AV, BH, BJ, BC, AZ, AX, AY, Nat.zero_add, Int.zero_sub, Nat.le_eq, Nat.succ_eq_add_one, Nat.add_one_le_iff, Bool.not_eq_true', Bool.not_eq_false', rng_length, AT, AP]
 refine ⟨⟨h, rfl⟩, ⟨0, rfl, Nat.zero_le _, rfl⟩, λ k hk => ⟨λ hlt => ?_, λ hge => ?_⟩, λ k hk => ⟨λ hlt => ?_, λ hge => ?_⟩⟩
 ·have hlt : k < a.l.length := by omega
  obtain ⟨_, h0⟩ := hk
  refine ⟨⟨⟨by omega, by omega⟩, by omega⟩, λ hb => ?_, λ hb => ?_⟩
  ·have hb : MP a.l a.v a.l.length k = true := by simpa using hb
   have e : DG (MP a.l a.v a.l.length) (k + 1) = [(k : Int)] := by simp only [DG, hb, h0]; rfl
   refine ⟨⟨by omega, by omega, by omega, by omega, by omega⟩, k + 1, ⟨by rw [e]; rfl, (CE (by omega)).symm, by rw [e]; rfl, λ i hi => ?_⟩, ⟨hlt, by rw [e]; exact Nat.one_pos⟩, by omega⟩
   rw [e] at hi ⊢
   have hi : i < 1 := hi
   obtain rfl : i = 0 := by omega
   rfl
  ·have hb : MP a.l a.v a.l.length k = false := by simpa using hb
   exact ⟨k + 1, (CE (by omega)).symm, ⟨hlt, by simp only [DG, hb, h0]; rfl⟩, by omega⟩
 ·obtain rfl : k = a.l.length := by omega
  unfold Kn; rw [hk.2]; rfl
 ·have hlt : k < a.l.length := by omega
  obtain ⟨_, h0⟩ := hk
  have hn := vG (MP a.l a.v a.l.length) k
  refine ⟨⟨⟨by omega, by omega⟩, by omega⟩, λ hb => ?_, λ hb => ?_⟩
  ·have hb : MP a.l a.v a.l.length k = true := by simpa using hb
   have e : DG (MP a.l a.v a.l.length) (k + 1) = DG (MP a.l a.v a.l.length) k ++ [(k : Int)] := by simp only [DG, hb]; rfl
   have el : (DG (MP a.l a.v a.l.length) (k + 1)).length = (DG (MP a.l a.v a.l.length) k).length + 1 := by rw [e]; simp
   refine ⟨⟨by omega, (λ h => by cases h), by omega, by omega⟩, k + 1, ⟨el, (CE (by omega)).symm, el, λ i hi => ?_⟩, ⟨hlt, by omega⟩, by omega⟩
   rw [el] at hi
   rw [e]; exact Cs _ _ hi
  ·have hb : MP a.l a.v a.l.length k = false := by simpa using hb
   have e : DG (MP a.l a.v a.l.length) (k + 1) = DG (MP a.l a.v a.l.length) k := by simp only [DG, hb]; rfl
   exact ⟨k + 1, ⟨by rw [e], (CE (by omega)).symm, by rw [e], λ i _ => by rw [e]⟩, ⟨hlt, by rw [e]; exact h0⟩, by omega⟩
 ·obtain rfl : k = a.l.length := by omega
  exact ⟨rfl, Nat.le_refl _, λ _ _ => rfl⟩
theorem AAZ : AR Try.prog gX (C_Stale.spec pB) := EX C_Stale AHJ [] [202] AMB (λ _ => by kernel_rfl) (λ _ => AH rB AM) (λ (a : WI) h => ASO a h) (λ _ => FK rfl rfl) _
def begK (b : Nat -> Int) (l : List Int) : Nat -> Int
 | 0 => 0
 | j + 1 => Yv (begK b l j) (b (gD l j).toNat)
def wD (l : List Wk) (st : Nat -> Bool) : Nat -> Nat -> Int
 | 0, _ => -1
 | k + 1, i => bif decide (i = k) && st k then wr (begK (wD l st k) (gD l k).of (gD l k).of.length + (gD l k).mi) else wD l st k i
structure WS where
 l : List Wk
 st : Nat -> Bool
def C_rdy : Ctr := { α := WS, xs := λ a => [.d (JZ a.l), .d (AF (CC a.l.length)), .d (.arr 1 30 λ i => xG (a.st i))], L := λ _ => [], val := λ a => .d (lst 1 a.l.length λ i => BM (wD a.l a.st a.l.length i)), keep := λ _ => [], pre := λ a => [WksOk a.l] }
def d_WS : List AVal -> Heap -> Option (WS × List (Nat × Nat) × List Nat)
 | [x, _, .d (.arr _ _ g)], H => match dWks x H with
  | some (l, f) => some (⟨l, λ i => ABC (g i)⟩, [], f)
  | none => none
 | _, _ => none
def rdR (l : List Wk) (st : Nat -> Bool) (k : Nat) : AObj := .row 1 l.length λ i => BM (wD l st k i)
def rd3 (a : WS) : Shape := { α := Nat, dflt := 0, T := λ k => ⟨[(0, .d (JZ a.l)), (5, .rptr 201 1 0 0), (7, .own 202 1 0 a.l.length), (17, .d (AF (CC a.l.length))), (18, .int a.l.length), (19, .int k)], [(201, .live (stR a.st)), (202, .live (rdR a.l a.st k))]⟩, inv := λ k => k <= a.l.length, meas := λ k => 40 - k, first := [(201, 1000), (202, 2048)] }
def rd8 (a : WS) (m : Nat) : Shape := { α := NJ, dflt := default, T := λ s => ⟨[(0, .d (JZ a.l)), (5, .rptr 201 1 0 0), (7, .own 202 1 0 a.l.length), (9, .int s.i), (10, .int (begK (wD a.l a.st s.i) (gD a.l s.i).of s.j)), (17, .d (AF (CC a.l.length))), (18, .int a.l.length), (19, .int s.i), (31, .d (AF (gD a.l s.i).of)), (32, .int (gD a.l s.i).of.length), (33, .int s.j)], [(201, .live (stR a.st)), (202, .live (rdR a.l a.st s.i))]⟩, inv := λ s => s.i < a.l.length /\ 40 - s.i = m /\ s.j <= (gD a.l s.i).of.length /\ a.st s.i = true, meas := λ s => (gD a.l s.i).of.length - s.j }
def AXM (a : WS) : Ann := { ann 56 [(AIK, C_rep.spec AOF)] with loops := λ id => if id = 3 then some [rd3 a] else none, inner := λ gs id => if id = 8 then match gs with
  | m :: _ => some [rd8 a m]
  | [] => none
 else none }
def AXS (a : WS) : Prop := BB Try.prog (AXM a) T5 (AS T5) (C_rdy.xs a) (AK []) (C_rdy.val a) [] [] [202]
abbrev D3 : Int := gD (AJ 1 λ (i : Nat) => -1) 0
abbrev Cz (a : WS) : Prop := (↑a.l.length : Int) = (↑a.l.length : Int)
abbrev FF (a : WS) : Prop := a.l.length = a.l.length
abbrev C1 (a : WS) (i : Nat) (i1 : Nat) : Int := gD (gD a.l i).of i1
abbrev Cq (a : WS) : Prop := ∀ (i : Nat), i < a.l.length -> (gD a.l i).of.length = (gD a.l i).of.length /\ (∀ (i_1 : Nat), i_1 < (gD a.l i).of.length -> C1 a i i_1 = C1 a i i_1) /\ (gD a.l i).ba = (gD a.l
 i).ba /\ (gD a.l i).mi = (gD a.l i).mi
abbrev IS : Prop := 0 = 0
abbrev By (a : WS) : Prop := (CC a.l.length).length = (CC a.l.length).length
abbrev Ct (a : WS) : Prop := ∀ (i : Nat), i < (CC a.l.length).length -> gD (CC a.l.length) i = gD (CC a.l.length) i
abbrev Cj : Prop := 30 = 30
abbrev Ek (a : WS) : Prop := ∀ (i : Nat), i < 30 -> a.st i = a.st i
abbrev rI (a : WS) (a1 : Nat) : Prop := 0 <= gD (CC a.l.length) a1
abbrev Wa (a : WS) (a1 : Nat) : Nat := (gD (CC a.l.length) a1).toNat
abbrev Vq (a : Nat) : Nat := 40 - a
abbrev uO (a : Nat) (a1 : WS) (a2 : Nat) : Prop := a.le a1.l.length /\ Vq a < Vq a2
abbrev ZE (a : WS) (a1 : NJ) : Int := begK (wD a.l a.st a1.i) (gD a.l a1.i).of a1.j
abbrev GW (a : WS) (a1 : NJ) : Nat := (gD a.l a1.i).of.length
abbrev nM (a : WS) (a1 : Nat) : List Int := (gD a.l (Wa a a1)).of
abbrev nN (a : WS) (a1 : Nat) : Nat := (nM a a1).length
abbrev nU (i : Nat) (a : WS) (a1 : NJ) : Prop := i < GW a a1
abbrev Wv (a : WS) (a1 : NJ) (i : Nat) : Int := gD (gD a.l a1.i).of i
abbrev Tl (a : NJ) (a1 : WS) (a2 : Nat) : Prop := a.i < a1.l.length /\ 40 - a.i = Vq a2 /\ a.j <= GW a1 a /\ a1.st a.i = true
abbrev rJ (a : NJ) (a1 : WS) : Prop := (↑a.j : Int) < (↑(GW a1 a) : Int)
abbrev Ut (a : WS) (a1 : NJ) : Int := gD (gD a.l a1.i).of a1.j
abbrev nC (a : WS) (a1 : NJ) : Nat := 0 + (Ut a a1).toNat
abbrev qV (a : NJ) (a1 : NJ) : Prop := (↑a.i : Int) = (↑a1.i : Int)
abbrev qJ (a : WS) (a1 : NJ) : Nat := GW a a1 - a1.j
abbrev qI (a : NJ) (a1 : WS) : Prop := 0 <= (↑a.i : Int) /\ (↑a.i : Int) < (↑a1.l.length : Int)
abbrev rV (a : NJ) : Nat := 0 + a.i
theorem BCQ (a : WS) : (AXS a) = ((1 = 1 /\ 1 <= 1 /\ (∀ (j : Nat), j < 1 -> gD (sng D3) j = -1) /\ Cz a /\ 1 <= a.l.length /\ a.l.length <= 40) /\ (∃ (a_1 : Nat), (FF a /\ Cq a /\ IS /\ IS /\
 FF a /\ By a /\ Ct a /\ (↑a.l.length : Int) = (↑(CC a.l.length).length : Int) /\ (↑a_1 : Int) = 0 /\ Cj /\ Ek a /\ FF a /\ ∀ (i : Nat), i < a.l.length -> wD a.l a.st a_1 i = D3) /\ a_1.le
 a.l.length) /\ ∀ (a_1 : Nat), a_1.le a.l.length -> bif decide ((↑a_1 : Int) < (↑a.l.length : Int)) then (0 <= (↑a_1 : Int) /\ (↑a_1 : Int) < (↑(CC a.l.length).length : Int)) /\ ((rI a a_1 /\ gD (CC a.l.length) a_1 <
 (↑30 : Int)) /\ (Wa a a_1).succ.le 30) /\ bif !a.st (Wa a a_1) then ∃ (a_3 : Nat), (FF a /\ Cq a /\ IS /\ IS /\ FF a /\ By a /\ Ct a /\ Cz a /\ (↑a_3 : Int) = IntKind.i64.wrap
 ((↑a_1 : Int) + 1) /\ Cj /\ Ek a /\ FF a /\ ∀ (i : Nat), i < a.l.length -> wD a.l a.st a_3 i = wD a.l a.st a_1 i) /\ uO a_3 a a_1 else (rI a a_1 /\ gD (CC a.l.length) a_1 < (↑a.l.length : Int)) /\
 (∃ (a_3 : NJ), (FF a /\ Cq a /\ IS /\ IS /\ FF a /\ (↑a_3.i : Int) = gD (CC a.l.length) a_1 /\ ZE a a_3 = 0 /\ By a /\ Ct a /\ Cz a /\ (↑a_3.i : Int) = (↑a_1 : Int) /\ GW a a_3
 = nN a a_1 /\ (∀ (i : Nat), nU i a a_3 -> Wv a a_3 i = gD (nM a a_1) i) /\ (↑(GW a a_3) : Int) = (↑(nN a a_1) : Int) /\ (↑a_3.j : Int) = 0 /\ Cj /\ Ek a /\ FF a /\ ∀ (i : Nat),
 i < a.l.length -> wD a.l a.st a_3.i i = wD a.l a.st a_1 i) /\ Tl a_3 a a_1) /\ ∀ (a_3 : NJ), Tl a_3 a a_1 -> bif decide (rJ a_3 a) then (0 <= (↑a_3.j : Int) /\ rJ a_3 a) /\ ((0 <= Ut a a_3 /\
 Ut a a_3 < (↑a.l.length : Int)) /\ (nC a a_3).succ.le a.l.length) /\ ∃ (a_5 : NJ), (FF a /\ Cq a /\ IS /\ IS /\ FF a /\ qV a_5 a_3 /\ ZE a a_5 = Yv (ZE a a_3) (wD a.l
 a.st a_3.i (nC a a_3)) /\ By a /\ Ct a /\ Cz a /\ qV a_5 a_3 /\ GW a a_5 = GW a a_3 /\ (∀ (i : Nat), nU i a a_5 -> Wv a a_5 i = Wv a a_3 i) /\ (↑(GW a a_5) : Int) =
 (↑(GW a a_3) : Int) /\ (↑a_5.j : Int) = IntKind.i64.wrap ((↑a_3.j : Int) + 1) /\ Cj /\ Ek a /\ FF a /\ ∀ (i : Nat), i < a.l.length -> wD a.l a.st a_5.i i = wD a.l a.st a_3.i i) /\ Tl a_5 a a_1 /\
 qJ a a_5 < qJ a a_3 else (qI a_3 a /\ qI a_3 a /\ (rV a_3).succ.le a.l.length) /\ ∃ (a_5 : Nat), (FF a /\ Cq a /\ IS /\ IS /\ FF a /\ By a /\ Ct a /\ Cz a /\
 (↑a_5 : Int) = IntKind.i64.wrap ((↑a_3.i : Int) + 1) /\ Cj /\ Ek a /\ FF a /\ ∀ (i : Nat), i < a.l.length -> wD a.l a.st a_5 i = bif decide (i = rV a_3) then IntKind.i64.wrap (ZE a a_3 + (gD a.l
 a_3.i).mi) else wD a.l a.st a_3.i i) /\ uO a_5 a a_1 else FF a /\ 0 + a.l.length <= a.l.length /\ ∀ (j : Nat), j < a.l.length -> wD a.l a.st a.l.length j = wD a.l a.st a_1 (0 + j)) := by kernel_rfl
theorem BFB (a : WS) (h : WksOk a.l) : AXS a := by
 have hl := h.len
 have e0 : gD (sng (gD (AJ 1 λ (i : Nat) => (-1 : Int)) 0)) 0 = -1 := rfl
 rw [BCQ]; delta D3 Cz FF C1 Cq IS By Ct Cj Ek rI Wa Vq uO ZE GW nM nN nU Wv Tl rJ Ut nC qV qJ qI rV; simp only [BF, eq_self, implies_true, and_self, true_and, and_true, true_implies, forall_const, decide_eq_true_eq, decide_eq_false_iff_not, Int.toNat_natCast, dSpan_eSpan, dInt_eInt, AV, BH, BJ, BC, AZ, AX, AY, Nat.zero_add, Int.zero_sub, Nat.le_eq, Nat.succ_eq_add_one, Nat.add_one_le_iff, Bool.not_eq_true', Bool.not_eq_false', rng_length, AT, AP, RH]
 refine ⟨⟨by omega, λ j hj => ?_, by omega, by omega⟩, ⟨0, ⟨rfl, λ _ _ => rfl⟩, Nat.zero_le _⟩, λ k hk => ⟨λ hlt => ?_, λ hge => ?_⟩⟩
 ·obtain rfl : j = 0 := by omega
  rfl
 ·have hk : k < a.l.length := by omega
  have hf := h.few k hk
  simp only [Av hk, Int.toNat_natCast]
  refine ⟨⟨by omega, by omega⟩, ⟨⟨by omega, by omega⟩, by omega⟩, λ hs => ⟨k + 1, ⟨(CE (by omega)).symm, λ i _ => ?_⟩, hk, by omega⟩, λ hs => ⟨⟨by omega, by omega⟩, ⟨⟨k, 0⟩, ⟨rfl, rfl, rfl, rfl, λ _ _ => rfl, rfl, rfl, λ _ _ => rfl⟩, hk, rfl, Nat.zero_le _, hs⟩, λ s hs2 => ?_⟩⟩
  ·simp only [wD, hs, Bool.and_false, cond_false]
  ·obtain ⟨si, sj⟩ := s
   obtain ⟨s1, s2, s3, s4⟩ := hs2
   have s2 : 40 - si = 40 - k := s2
   have s1 : si < a.l.length := s1
   have s3 : sj <= (gD a.l si).of.length := s3
   have s4 : a.st si = true := s4
   obtain rfl : si = k := by omega
   refine ⟨λ hj => ?_, λ hj => ?_⟩
   ·have hj : sj < (gD a.l si).of.length := by have q : (sj : Int) < (gD a.l si).of.length := hj; omega
    have ho := h.of si sj s1 hj
    refine ⟨⟨by omega, by omega⟩, ⟨⟨ho.1, ?_⟩, ?_⟩, ⟨si, sj + 1⟩, ⟨rfl, rfl, rfl, rfl, λ _ _ => rfl, rfl, (CE (by omega)).symm, λ _ _ => rfl⟩, ⟨s1, rfl, hj, s4⟩, ?_⟩
    ·show gD (gD a.l si).of sj < _; omega
    ·show (gD (gD a.l si).of sj).toNat < _; omega
    ·show (gD a.l si).of.length - (sj + 1) < (gD a.l si).of.length - sj; omega
   ·have hj : ¬ (sj : Int) < (gD a.l si).of.length := hj
    obtain rfl : sj = (gD a.l si).of.length := by omega
    refine ⟨⟨⟨by omega, by omega⟩, ⟨by omega, by omega⟩, s1⟩, si + 1, ⟨(CE (by omega)).symm, λ i _ => ?_⟩, s1, by omega⟩
    simp only [wD, s4, Bool.and_true]; rfl
 ·obtain rfl : k = a.l.length := by omega
  exact ⟨Nat.le_refl _, λ _ _ => rfl⟩
theorem AZF : AR Try.prog U5 (C_rdy.spec d_WS) := EX C_rdy AXM [] [202] ALO (λ _ => by kernel_rfl) (λ _ => AH ARV AM) (λ (a : WS) h => BFB a h) (λ _ => FK rfl rfl) _
def gG (l : List Wk) (st : Nat -> Bool) : List Int := AJ l.length λ i => wD l st l.length i
def C_Ready : Ctr := { α := WI, xs := λ a => [.d (JZ a.l), .d (AF a.v)], L := λ _ => [], val := λ a => .tup [.d (AF (gG a.l (MP a.l a.v a.l.length))), .int 0], keep := λ _ => [], pre := λ a => [RvOk a] }
def AHL : Ann := ann 25 [(uX, C_asked.spec pB), (U5, C_rdy.spec d_WS)]
def AJF (a : WI) : Prop := BB Try.prog AHL yX (AS yX) (C_Ready.xs a) (AK []) (C_Ready.val a) [] [] []
theorem APQ (a : WI) : (AJF a) = (((AJ a.l.length λ (i : Nat) => BE (BK (gD a.l i))).length = a.l.length /\ (∀ (i : Nat), i < (AJ a.l.length λ (i : Nat) => BE (BK (gD a.l i))).length -> (gD (AJ
 a.l.length λ (i : Nat) => BE (BK (gD a.l i))) i).of.length = (gD a.l i).of.length /\ (∀ (i_1 : Nat), i_1 < (gD (AJ a.l.length λ (i : Nat) => BE (BK (gD a.l i))) i).of.length -> gD (gD (AJ a.l.length λ (i : Nat)
 => BE (BK (gD a.l i))) i).of i_1 = gD (gD a.l i).of i_1) /\ (gD (AJ a.l.length λ (i : Nat) => BE (BK (gD a.l i))) i).ba = (gD a.l i).ba /\ (gD (AJ a.l.length λ (i : Nat) => BE (BK (gD a.l i))) i).mi = (gD a.l
 i).mi) /\ (AJ a.v.length λ (i : Nat) => gD a.v i).length = a.v.length /\ (∀ (i : Nat), i < (AJ a.v.length λ (i : Nat) => gD a.v i).length -> gD (AJ a.v.length λ (i : Nat) => gD a.v i) i = gD a.v i) /\ RvOk (WI.mk
 (AJ a.l.length λ (i : Nat) => BE (BK (gD a.l i))) (AJ a.v.length λ (i : Nat) => gD a.v i)) /\ (Value.agg #[Value.bool false, Value.bool false, Value.bool false, Value.bool false, Value.bool false, Value.bool
 false, Value.bool false, Value.bool false, Value.bool false, Value.bool false, Value.bool false, Value.bool false, Value.bool false, Value.bool false, Value.bool false, Value.bool false, Value.bool false, Value.bool
 false, Value.bool false, Value.bool false, Value.bool false, Value.bool false, Value.bool false, Value.bool false, Value.bool false, Value.bool false, Value.bool false, Value.bool false, Value.bool false, Value.bool
 false]).cells.toList = (List.replicate (30 : Nat) (Value.bool false).cells.toList).flatten) /\ ((AJ a.l.length λ (i : Nat) => BE (BK (gD a.l i))).length = a.l.length /\ (∀ (i : Nat), i < (AJ a.l.length λ (i : Nat)
 => BE (BK (gD a.l i))).length -> (gD (AJ a.l.length λ (i : Nat) => BE (BK (gD a.l i))) i).of.length = (gD a.l i).of.length /\ (∀ (i_1 : Nat), i_1 < (gD (AJ a.l.length λ (i : Nat) => BE (BK (gD a.l i)))
 i).of.length -> gD (gD (AJ a.l.length λ (i : Nat) => BE (BK (gD a.l i))) i).of i_1 = gD (gD a.l i).of i_1) /\ (gD (AJ a.l.length λ (i : Nat) => BE (BK (gD a.l i))) i).ba = (gD a.l i).ba /\ (gD (AJ a.l.length fun
 (i : Nat) => BE (BK (gD a.l i))) i).mi = (gD a.l i).mi) /\ (CC (AJ a.l.length λ (i : Nat) => BE (BK (gD a.l i))).length).length = (CC (AJ a.l.length λ (i : Nat) => BE (BK (gD a.l i))).length).length /\ (∀
 (i : Nat), i < (CC (AJ a.l.length λ (i : Nat) => BE (BK (gD a.l i))).length).length -> gD (CC (AJ a.l.length λ (i : Nat) => BE (BK (gD a.l i))).length) i = gD (CC (AJ a.l.length λ (i : Nat) => BE (BK
 (gD a.l i))).length) i) /\ (30 : Nat) = (30 : Nat) /\ (∀ (i : Nat), i < (30 : Nat) -> MP (AJ a.l.length λ (i : Nat) => BE (BK (gD a.l i))) (AJ a.v.length λ (i : Nat) => gD a.v i) (AJ a.l.length λ (i : Nat) =>
 BE (BK (gD a.l i))).length i = MP (AJ a.l.length λ (i : Nat) => BE (BK (gD a.l i))) (AJ a.v.length λ (i : Nat) => gD a.v i) (AJ a.l.length λ (i : Nat) => BE (BK (gD a.l i))).length i) /\ WksOk (AJ
 a.l.length λ (i : Nat) => BE (BK (gD a.l i)))) /\ (gG a.l (MP a.l a.v a.l.length)).length = (AJ a.l.length λ (i : Nat) => BE (BK (gD a.l i))).length /\ (∀ (i : Nat), i < (gG a.l (MP a.l a.v
 a.l.length)).length -> gD (gG a.l (MP a.l a.v a.l.length)) i = wD (AJ a.l.length λ (i : Nat) => BE (BK (gD a.l i))) (λ (i : Nat) => MP (AJ a.l.length λ (i : Nat) => BE (BK (gD a.l i))) (AJ a.v.length fun
 (i : Nat) => gD a.v i) (AJ a.l.length λ (i : Nat) => BE (BK (gD a.l i))).length i) (AJ a.l.length λ (i : Nat) => BE (BK (gD a.l i))).length i) /\ Int.ofNat (0 : Nat) = Int.ofNat (0 : Nat)) := by kernel_rfl
def C_kept : Ctr := { α := WI, xs := λ a => [.d (JZ a.l), .d (AF a.v), .int (wr (a.l.length - 1))], L := λ _ => [], val := λ _ => .tup [.bptr 0 0, .int 0], keep := λ a => [(0, .live (HY a.l))], pre := λ a => [RvOk a /\ gD a.v 0 + 1 < a.l.length] }
def AXL : List AVal -> Heap -> Option (WI × List (Nat × Nat) × List Nat)
 | [x, y, _], H => match dWks x H, YY y H with
  | some (l, f), some (v, g) => some (⟨l, v⟩, [], f ++ g)
  | _, _ => none
 | _, _ => none
def ARB : Ann := ann 36 [(uX, C_asked.spec pB), (xL, WB), (OO, rK)]
def AOX (a : WI) : Prop := BB Try.prog ARB AFM (AS AFM) (C_kept.xs a) (AK []) (C_kept.val a) (C_kept.keep a) [(0, 2032)] []
theorem AVA (a : WI) : (AOX a) = (((AJ a.l.length λ (i : Nat) => BE (BK (gD a.l i))).length = a.l.length /\ (∀ (i : Nat), i < (AJ a.l.length λ (i : Nat) => BE (BK (gD a.l i))).length -> (gD (AJ a.l.length
 λ (i : Nat) => BE (BK (gD a.l i))) i).of.length = (gD a.l i).of.length /\ (∀ (i_1 : Nat), i_1 < (gD (AJ a.l.length λ (i : Nat) => BE (BK (gD a.l i))) i).of.length -> gD (gD (AJ a.l.length λ (i : Nat) => BE
 (BK (gD a.l i))) i).of i_1 = gD (gD a.l i).of i_1) /\ (gD (AJ a.l.length λ (i : Nat) => BE (BK (gD a.l i))) i).ba = (gD a.l i).ba /\ (gD (AJ a.l.length λ (i : Nat) => BE (BK (gD a.l i))) i).mi = (gD a.l i).mi) /\
 (AJ a.v.length λ (i : Nat) => gD a.v i).length = a.v.length /\ (∀ (i : Nat), i < (AJ a.v.length λ (i : Nat) => gD a.v i).length -> gD (AJ a.v.length λ (i : Nat) => gD a.v i) i = gD a.v i) /\ RvOk (WI.mk (AJ
 a.l.length λ (i : Nat) => BE (BK (gD a.l i))) (AJ a.v.length λ (i : Nat) => gD a.v i)) /\ (Value.agg #[Value.bool false, Value.bool false, Value.bool false, Value.bool false, Value.bool false, Value.bool false,
 Value.bool false, Value.bool false, Value.bool false, Value.bool false, Value.bool false, Value.bool false, Value.bool false, Value.bool false, Value.bool false, Value.bool false, Value.bool false, Value.bool false,
 Value.bool false, Value.bool false, Value.bool false, Value.bool false, Value.bool false, Value.bool false, Value.bool false, Value.bool false, Value.bool false, Value.bool false, Value.bool false, Value.bool
 false]).cells.toList = (List.replicate (30 : Nat) (Value.bool false).cells.toList).flatten) /\ bif !HO (wr ((↑a.l.length : Int) - (1 : Int))) (0 : Int) (IntKind.i64.wrap ((↑a.l.length : Int) - (1 : Int))) then False else
 ((AJ a.v.length λ (i : Nat) => gD a.v i).length = a.v.length /\ (∀ (i : Nat), i < (AJ a.v.length λ (i : Nat) => gD a.v i).length -> gD (AJ a.v.length λ (i : Nat) => gD a.v i) i = gD a.v i) /\ wr ((↑a.l.length :
 Int) - (1 : Int)) = wr ((↑a.l.length : Int) - (1 : Int)) /\ (AJ a.v.length λ (i : Nat) => gD a.v i).length.succ.le (4611686018427387904 : Nat)) /\ bif CK (AJ a.v.length λ (i : Nat) => gD a.v i) (wr ((↑a.l.length :
 Int) - (1 : Int))) then False else Int.ofNat (0 : Nat) = Int.ofNat (0 : Nat) /\ a.l.length = (AJ a.l.length λ (i : Nat) => BE (BK (gD a.l i))).length /\ ∀ (i : Nat), i < a.l.length -> (gD a.l i).of.length = (gD (AJ
 a.l.length λ (i : Nat) => BE (BK (gD a.l i))) i).of.length /\ (∀ (i_1 : Nat), i_1 < (gD a.l i).of.length -> gD (gD a.l i).of i_1 = gD (gD (AJ a.l.length λ (i : Nat) => BE (BK (gD a.l i))) i).of i_1) /\ (gD a.l
 i).ba = (gD (AJ a.l.length λ (i : Nat) => BE (BK (gD a.l i))) i).ba /\ (gD a.l i).mi = (gD (AJ a.l.length λ (i : Nat) => BE (BK (gD a.l i))) i).mi) := by kernel_rfl
theorem ATX (a : WI) (h : RvOk a) : AJF a := by
 rw [APQ]; simp only [BF, eq_self, implies_true, and_self, true_and, and_true, true_implies, forall_const, decide_eq_true_eq, decide_eq_false_iff_not, Int.toNat_natCast, dSpan_eSpan, dInt_eInt, AV, BH, BJ, BC, AZ, AX, AY, Nat.zero_add, Int.zero_sub, Nat.le_eq, Nat.succ_eq_add_one, Nat.add_one_le_iff, Bool.not_eq_true', Bool.not_eq_false', rng_length, AT, AP]
 refine ⟨⟨h, rfl⟩, h.w, rng_length _ _, λ i hi => ?_⟩
 have hi : i < a.l.length := by simpa [gG] using hi
 exact FE _ _ _ hi
theorem ARC : AR Try.prog U2 (C_Ready.spec pB) := EX C_Ready (λ _ => AHL) [] [] AMC (λ _ => by kernel_rfl) (λ _ => AH rB (AH AZF AM)) (λ (a : WI) h => ATX a h) (λ _ => FK rfl rfl) _
theorem BBQ (a : WI) (h : RvOk a /\ gD a.v 0 + 1 < a.l.length) : AOX a := by
 obtain ⟨h, hk⟩ := h
 have hl := h.w.len
 have h1 := h.one
 have hw : wr ((a.l.length : Int) - 1) = (a.l.length : Int) - 1 := JA (by omega) (by omega)
 have hw2 : IntKind.i64.wrap ((a.l.length : Int) - 1) = (a.l.length : Int) - 1 := hw
 have e1 : HO ((a.l.length : Int) - 1) 0 ((a.l.length : Int) - 1) = true := by simp [HO]; omega
 have e2 : CK a.v ((a.l.length : Int) - 1) = false := by
  rw [Bool.eq_false_iff]; intro hm
  rw [nT] at hm
  obtain ⟨i, hi, e⟩ := OW hm
  obtain rfl : i = 0 := by omega
  omega
 rw [AVA]; simp only [BF, eq_self, implies_true, and_self, true_and, and_true, true_implies, forall_const, decide_eq_true_eq, decide_eq_false_iff_not, Int.toNat_natCast, dSpan_eSpan, dInt_eInt, AV, BH, BJ, BC, AZ, AX, AY, Nat.zero_add, Int.zero_sub, Nat.le_eq, Nat.succ_eq_add_one, Nat.add_one_le_iff, Bool.not_eq_true', Bool.not_eq_false', rng_length, AT, AP, hw, hw2, e1, e2]
 exact ⟨⟨h, rfl⟩, (λ h => by cases h), by omega, λ h => by cases h⟩
theorem AIT : AR Try.prog AFH (C_kept.spec AXL) := EX C_kept (λ _ => ARB) [(0, 2032)] [] AUU (λ _ => by kernel_rfl) (λ _ => AH rB (AH K7 (AH RO AM))) (λ (a : WI) h => BBQ a h) (λ _ => FK rfl rfl) _
end Go.Bal
