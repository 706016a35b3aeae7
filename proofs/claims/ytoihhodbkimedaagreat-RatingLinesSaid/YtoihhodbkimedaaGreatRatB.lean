/- Package rating: what is allowed; parts; ends. -/
import Derived.Test.YtoihhodbkimedaaGreatRatE
set_option linter.unusedVariables false
set_option linter.unusedSimpArgs false
namespace Go.Bal
open Go Go.Sym Go.Proofs
def AK (l : List Gau) : Int := bif !CJ l.length 1 24 then 3 else bif !l.all Dz then 50 else 0
def JW : List AVal -> Heap -> Option (List Gau × List (Nat × Nat) × List Nat)
 | [y], H => match kX y H with
  | some (l, f) => some (l, [], f)
  | none => none
 | _, _ => none
def C_Check : Ctr := { α := List Gau, xs := λ l => [.d (BE l)], L := λ _ => [], val := λ l => .int (AK l), keep := λ _ => [], pre := λ l => [l.length < 4611686018427387904 /\ True] }
def BBR : Ann := ann 12 [(Qw, Uh), (n_eG, C4Gr.spec d4Gr)]
def BAC (l : List Gau) : Prop := AO Try.prog BBR ALQ (AF ALQ) (C_Check.xs l) (AC []) (C_Check.val l) [] [] []
theorem BJS (l : List Gau) : (BAC l) = (bif !CJ (↑l.length : Int) 1 24 then AK l = 3 else ((AD l.length λ (i : Nat) => gD l i).length = l.length /\ (∀ (i : Nat), i < (AD l.length λ (i : Nat) => gD l
 i).length -> (gD (AD l.length λ (i : Nat) => gD l i) i).st = (gD l i).st /\ (gD (AD l.length λ (i : Nat) => gD l i) i).lo = (gD l i).lo /\ (gD (AD l.length λ (i : Nat) => gD l i) i).hi = (gD l i).hi) /\ (AD
 l.length λ (i : Nat) => gD l i).length < 4611686018427387904 /\ True) /\ bif !(AD l.length λ (i : Nat) => gD l i).all λ (x : Gau) => Dz x then AK l = 50 else AK l = 0) := by kernel_rfl
theorem VK : AG Try.prog Cb (C_Check.spec JW) := GD C_Check (λ _ => BBR) [] [] BIN (λ _ => by kernel_rfl) (λ _ => AB XG (AB BWW AE)) (λ (l : List Gau) h => by
 show BAC l; rw [BJS]; simp only [CC, eq_self, implies_true, forall_const]
 have h' : l.length < 4611686018427387904 /\ True := h
 unfold AK
 cases CJ l.length 1 24 <;> cases hr : l.all Dz <;> simp [h'.1, hr]) (λ _ => GJ rfl rfl) _
def pT : Int -> List Int -> Int
 | _, [] => 0
 | a, b :: r => bif CJ b (wr (a + 1)) 2000 then pT b r else 2
def BI (l : List Int) : Int := if (l.length : Int) > 24 then 3 else pT 0 l
def dIs1 : List AVal -> Heap -> Option (List Int × List (Nat × Nat) × List Nat)
 | [y], H => match Re y H with
  | some (l, f) => some (l, [], f)
  | none => none
 | _, _ => none
def C_checkB : Ctr := { α := List Int, xs := λ l => [.d (BD l)], L := λ _ => [], val := λ l => .int (BI l), keep := λ _ => [], pre := λ l => [l.length < 4611686018427387904 /\ True] }
def AVD (l : List Int) : Ann := { ann 22 [(Qw, Uh)] with loops := λ id => if id = 5 then some [{ α := NI, dflt := default, T := λ s => ⟨[(3, .int s.m), (9, .d (BD l)), (10, .int l.length), (11, .int s.k)], []⟩, inv := λ s => s.k <= l.length /\ pT s.m (l.drop s.k) = pT 0 l, meas := λ s => l.length - s.k }] else none }
def ATG (l : List Int) : Prop := AO Try.prog (AVD l) ABC (AF ABC) (C_checkB.xs l) (AC []) (C_checkB.val l) [] [] []
theorem BDW (l : List Int) : (ATG l) = (bif decide ((↑l.length : Int) > 24) then BI l = 3 else (∃ (a : NI), (a.m = 0 /\ l.length = l.length /\ (∀ (i : Nat), i < l.length -> gD l i = gD l i) /\ (↑l.length :
 Int) = (↑l.length : Int) /\ (↑a.k : Int) = 0) /\ a.k <= l.length /\ pT a.m (List.drop a.k l) = pT 0 l) /\ ∀ (a : NI), a.k <= l.length /\ pT a.m (List.drop a.k l) = pT 0 l -> bif decide ((↑a.k : Int) < (↑l.length : Int)) then
 (0 <= (↑a.k : Int) /\ (↑a.k : Int) < (↑l.length : Int)) /\ bif !CJ (gD l a.k) (IntKind.i64.wrap (a.m + 1)) 2000 then BI l = 2 else ∃ (a_2 : NI), (a_2.m = gD l a.k /\ l.length = l.length /\ (∀ (i : Nat), i < l.length ->
 gD l i = gD l i) /\ (↑l.length : Int) = (↑l.length : Int) /\ (↑a_2.k : Int) = IntKind.i64.wrap ((↑a.k : Int) + 1)) /\ (a_2.k <= l.length /\ pT a_2.m (List.drop a_2.k l) = pT 0 l) /\ l.length - a_2.k < l.length - a.k else
 BI l = 0) := by kernel_rfl
theorem pP : AG Try.prog gS (C_checkB.spec dIs1) := GD C_checkB AVD [] [] BEG (λ _ => by kernel_rfl) (λ _ => AB XG AE) (λ (l : List Int) h => by
 show ATG l; rw [BDW]; simp only [CC, eq_self, implies_true, forall_const]
 have h' : l.length < 4611686018427387904 /\ True := h
 unfold BI
 refine ⟨λ h1 => by rw [if_pos h1], λ h1 => ⟨⟨⟨0, 0⟩, ⟨rfl, rfl⟩, Nat.zero_le _, rfl⟩, λ s hs => ⟨λ hlt => ?_, λ hge => ?_⟩⟩⟩
 ·have hlt : s.k < l.length := by omega
  have hd := BAS hlt
  refine ⟨⟨by omega, by omega⟩, λ hb => ?_, λ hb => ⟨⟨s.k + 1, gD l s.k⟩, ⟨rfl, (BH (by omega)).symm⟩, ⟨hlt, ?_⟩, ?_⟩⟩
  ·rw [if_neg h1, <- hs.2, hd]; simp [pT, wr, hb]
  ·show pT (gD l s.k) _ = _
   rw [<- hs.2, hd]; simp [pT, wr, hb]
  ·show l.length - (s.k + 1) < l.length - s.k; omega
 ·rw [if_neg h1, <- hs.2, List.drop_of_length_le (by omega)]; rfl) (λ _ => GJ rfl rfl) _
def AZ (r : Rtg) : Int := bif BI r.b != 0 then BI r.b else bif (r.l.length : Int) != (r.b.length : Int) + 1 then 2 else bif !r.l.all FT then 50 else 0
def dRt1 : List AVal -> Heap -> Option (Rtg × List (Nat × Nat) × List Nat)
 | [y], H => match dRtg y H with
  | some (l, f) => some (l, [], f)
  | none => none
 | _, _ => none
def C_CheckR : Ctr := { α := Rtg, xs := λ r => [.d (E4 r)], L := λ _ => [], val := λ r => .int (AZ r), keep := λ _ => [], pre := λ r => [r.b.length < 4611686018427387904 /\ r.l.length < 4611686018427387904] }
def AVE : Ann := ann 25 [(gS, C_checkB.spec dIs1), (n_eL, C4Lr.spec d4Lr)]
def AUP (r : Rtg) : Prop := AO Try.prog AVE Q9 (AF Q9) (C_CheckR.xs r) (AC []) (C_CheckR.val r) [] [] []
theorem BEF (r : Rtg) : (AUP r) = (((AD r.b.length λ (i : Nat) => gD r.b i).length = r.b.length /\ (∀ (i : Nat), i < (AD r.b.length λ (i : Nat) => gD r.b i).length -> gD (AD r.b.length λ (i : Nat) => gD
 r.b i) i = gD r.b i) /\ (AD r.b.length λ (i : Nat) => gD r.b i).length < 4611686018427387904 /\ True) /\ bif BI (AD r.b.length λ (i : Nat) => gD r.b i) != 0 then AZ r = BI (AD r.b.length λ (i : Nat)
 => gD r.b i) else bif (↑r.l.length : Int) != IntKind.i64.wrap ((↑r.b.length : Int) + 1) then AZ r = 2 else ((AD r.l.length λ (i : Nat) => gD r.l i).length = r.l.length /\ (∀ (i : Nat), i < (AD r.l.length λ (i :
 Nat) => gD r.l i).length -> (gD (AD r.l.length λ (i : Nat) => gD r.l i) i).a0 = (gD r.l i).a0 /\ (gD (AD r.l.length λ (i : Nat) => gD r.l i) i).a1 = (gD r.l i).a1 /\ (gD (AD r.l.length λ (i : Nat) => gD r.l i)
 i).b0 = (gD r.l i).b0 /\ (gD (AD r.l.length λ (i : Nat) => gD r.l i) i).b1 = (gD r.l i).b1) /\ (AD r.l.length λ (i : Nat) => gD r.l i).length < 4611686018427387904 /\ True) /\ bif !(AD r.l.length λ (i : Nat) => gD
 r.l i).all λ (x : Ln) => FT x then AZ r = 50 else AZ r = 0) := by kernel_rfl
theorem tN : AG Try.prog Ej (C_CheckR.spec dRt1) := GD C_CheckR (λ _ => AVE) [] [] BCX (λ _ => by kernel_rfl) (λ _ => AB pP (AB BYN AE)) (λ (r : Rtg) h => by
 show AUP r; rw [BEF]; simp only [CC, eq_self, implies_true, forall_const]
 have h' : r.b.length < 4611686018427387904 /\ r.l.length < 4611686018427387904 := h
 have e : IntKind.i64.wrap ((r.b.length : Int) + 1) = (r.b.length : Int) + 1 := HM (by omega) (by omega)
 rw [e]
 unfold AZ
 cases h1 : (BI r.b != 0) <;> cases h2 : ((r.l.length : Int) != (r.b.length : Int) + 1) <;> cases hr : r.l.all FT <;> simp [h', h1, h2, hr]) (λ _ => GJ rfl rfl) _
structure IX where
 l : List Int
 x : Int
structure IJ where
 i : Nat
 j : Nat
 deriving Inhabited
def ltC (l : List Int) (x : Int) : Nat := l.countP λ b => decide (b < x)
def FA (l : List Int) (x : Int) : Nat := l.countP λ b => decide (b <= x)
def asc (l : List Int) : Prop := l.Pairwise (· < ·)
def dIX : List AVal -> Heap -> Option (IX × List (Nat × Nat) × List Nat)
 | [y, .d x], H => match Re y H with
  | some (l, f) => some (⟨l, CT x⟩, [], f)
  | none => none
 | _, _ => none
def xIX (a : IX) : List AVal := [.d (BD a.l), .int a.x]
def C_bins : Ctr := { α := IX, xs := xIX, L := λ _ => [], val := λ a => .tup [.int (ltC a.l a.x), .bool (decide (a.x ∈ a.l))], keep := λ _ => [], pre := λ a => [a.l.length < 4611686018427387904 /\ asc a.l] }
def BJD (a : IX) : Ann := { ann 54 [(ASC, BAE), (AWC, dW)] with loops := λ id => if id = 3 then some [{ α := IJ, dflt := default, T := λ s => ⟨[(0, .d (BD a.l)), (1, .int a.x), (6, .int a.l.length), (7, .int s.i), (8, .int s.j)], []⟩, inv := λ s => s.i <= s.j /\ s.j <= a.l.length /\ (∀ k, k < s.i -> gD a.l k < a.x) /\ (∀ k, s.j <= k -> k < a.l.length -> a.x <= gD a.l k), meas := λ s => s.j - s.i }] else none }
def BEW (a : IX) : Prop := AO Try.prog (BJD a) AVW (AF AVW) (xIX a) (AC []) (C_bins.val a) [] [] []
theorem BMZ (a : IX) : (BEW a) = ((∃ (a_1 : IJ), (a.l.length = a.l.length /\ (∀ (i : Nat), i < a.l.length -> gD a.l i = gD a.l i) /\ a.x = a.x /\ (↑a.l.length : Int) = (↑a.l.length : Int) /\ (↑a_1.i : Int) = (0 : Int)
 /\ (↑a_1.j : Int) = (↑a.l.length : Int)) /\ a_1.i <= a_1.j /\ a_1.j <= a.l.length /\ (∀ (k : Nat), k < a_1.i -> gD a.l k < a.x) /\ ∀ (k : Nat), a_1.j <= k -> k < a.l.length -> a.x <= gD a.l k) /\ ∀ (a_1 : IJ), (a_1.i <= a_1.j /\ a_1.j
 <= a.l.length /\ (∀ (k : Nat), k < a_1.i -> gD a.l k < a.x) /\ ∀ (k : Nat), a_1.j <= k -> k < a.l.length -> a.x <= gD a.l k) -> bif decide ((↑a_1.i : Int) < (↑a_1.j : Int)) then ((0 : Int) <= (1 : Int) /\ (1 : Int) <= (↑(64 : Nat) :
 Int)) /\ ((0 : Int) <= IntKind.i64.wrap (IntKind.u64.wrap (IntKind.i64.wrap ((↑a_1.i : Int) + (↑a_1.j : Int))) / (2 : Int) ^ (1 : Nat)) /\ IntKind.i64.wrap (IntKind.u64.wrap (IntKind.i64.wrap ((↑a_1.i : Int) + (↑a_1.j :
 Int))) / (2 : Int) ^ (1 : Nat)) < (↑a.l.length : Int)) /\ bif decide (gD a.l (IntKind.i64.wrap (IntKind.u64.wrap (IntKind.i64.wrap ((↑a_1.i : Int) + (↑a_1.j : Int))) / (2 : Int) ^ Int.toNat (1 : Int))).toNat < a.x) then ∃
 (a_3 : IJ), (a.l.length = a.l.length /\ (∀ (i : Nat), i < a.l.length -> gD a.l i = gD a.l i) /\ a.x = a.x /\ (↑a.l.length : Int) = (↑a.l.length : Int) /\ (↑a_3.i : Int) = IntKind.i64.wrap (IntKind.i64.wrap (IntKind.u64.wrap
 (IntKind.i64.wrap ((↑a_1.i : Int) + (↑a_1.j : Int))) / (2 : Int) ^ Int.toNat (1 : Int)) + (1 : Int)) /\ (↑a_3.j : Int) = (↑a_1.j : Int)) /\ (a_3.i <= a_3.j /\ a_3.j <= a.l.length /\ (∀ (k : Nat), k < a_3.i -> gD a.l k < a.x) /\
 ∀ (k : Nat), a_3.j <= k -> k < a.l.length -> a.x <= gD a.l k) /\ a_3.j - a_3.i < a_1.j - a_1.i else ∃ (a_3 : IJ), (a.l.length = a.l.length /\ (∀ (i : Nat), i < a.l.length -> gD a.l i = gD a.l i) /\ a.x = a.x /\ (↑a.l.length :
 Int) = (↑a.l.length : Int) /\ (↑a_3.i : Int) = (↑a_1.i : Int) /\ (↑a_3.j : Int) = IntKind.i64.wrap (IntKind.u64.wrap (IntKind.i64.wrap ((↑a_1.i : Int) + (↑a_1.j : Int))) / (2 : Int) ^ Int.toNat (1 : Int))) /\ (a_3.i <= a_3.j
 /\ a_3.j <= a.l.length /\ (∀ (k : Nat), k < a_3.i -> gD a.l k < a.x) /\ ∀ (k : Nat), a_3.j <= k -> k < a.l.length -> a.x <= gD a.l k) /\ a_3.j - a_3.i < a_1.j - a_1.i else ((decide ((↑a_1.i : Int) < (↑a.l.length : Int)) = true ->
 (0 : Int) <= (↑a_1.i : Int) /\ (↑a_1.i : Int) < (↑a.l.length : Int)) /\ ((decide ((↑a_1.i : Int) < (↑a.l.length : Int)) && !gD a.l a_1.i == a.x) = true -> (0 : Int) <= (↑a_1.i : Int) /\ (↑a_1.i : Int) < (↑a.l.length : Int))) /\
 (↑(ltC a.l a.x) : Int) = (↑a_1.i : Int) /\ decide (a.x ∈ a.l) = bif decide ((↑a_1.i : Int) < (↑a.l.length : Int)) then bif gD a.l a_1.i == a.x then true else bif false then false else false else false) := by kernel_rfl
theorem u64w {n : Int} (h0 : 0 <= n) (h1 : n < 18446744073709551616) : IntKind.u64.wrap n = n := by
 simp only [IntKind.wrap, IntKind.bits, IntKind.signed]
 have : n % (2 ^ 64 : Int) = n := Int.emod_eq_of_lt h0 (by omega)
 simp only [this]
 simp
theorem half {i j : Nat} (h : i + j < 9223372036854775807) : IntKind.i64.wrap (IntKind.u64.wrap (IntKind.i64.wrap ((i : Int) + j)) / 2 ^ Int.toNat 1) = (((i + j) / 2 : Nat) : Int) := by
 rw [HM (n := (i : Int) + j) (by omega) (by omega), u64w (by omega) (by omega)]
 show IntKind.i64.wrap (((i : Int) + j) / 2) = _
 rw [HM (by omega) (by omega)]; omega
theorem ATI {p : Int -> Bool} {l : List Int} {i : Nat} (hi : i <= l.length) (h1 : ∀ k, k < i -> p (gD l k) = true) (h2 : ∀ k, i <= k -> k < l.length -> p (gD l k) = false) : l.countP p = i := by
 conv => lhs; rw [<- List.take_append_drop i l]
 rw [List.countP_append]
 have e1 : (l.take i).countP p = i := by
  rw [List.countP_eq_length.2]
  ·simp; omega
  ·intro x hx
   obtain ⟨k, hk, rfl⟩ := List.getElem_of_mem hx
   have hk' : k < i := by simp at hk; omega
   have := h1 k hk'
   simpa [gD, List.getD_eq_getElem?_getD, show k < l.length by omega] using this
 have e2 : (l.drop i).countP p = 0 := by
  rw [List.countP_eq_zero]
  intro x hx
  obtain ⟨k, hk, rfl⟩ := List.getElem_of_mem hx
  have hk' : i + k < l.length := by simp at hk; omega
  have := h2 (i + k) (by omega) hk'
  simp [gD, List.getD_eq_getElem?_getD, hk'] at this
  simp [this]
 omega
theorem yN {l : List Int} (h : asc l) {i j : Nat} (hij : i < j) (hj : j < l.length) : gD l i < gD l j := by
 have := List.pairwise_iff_getElem.1 h i j (by omega) hj hij
 simpa [gD, List.getD_eq_getElem?_getD, hj, show i < l.length by omega] using this
theorem BUK {l : List Int} {x : Int} {i : Nat} (h : asc l) (hi : i <= l.length) (h1 : ∀ k, k < i -> gD l k < x) (h2 : ∀ k, i <= k -> k < l.length -> x <= gD l k) : decide (x ∈ l) = (decide ((i : Int) < l.length) && gD l i == x) := by
 rw [Bool.eq_iff_iff]
 simp only [decide_eq_true_eq, Bool.and_eq_true, beq_iff_eq]
 constructor
 ·intro hx
  obtain ⟨k, hk, rfl⟩ := ALG hx
  have hik : i <= k := by
   rcases Nat.lt_or_ge k i with h3 | h3
   ·have := h1 k h3; omega
   ·exact h3
  refine ⟨by omega, ?_⟩
  rcases Nat.lt_or_ge i k with h3 | h3
  ·have := yN h h3 hk
   have := h2 i (Nat.le_refl _) (by omega)
   omega
  ·rw [show i = k by omega]
 ·rintro ⟨h3, rfl⟩
  exact EG (by omega)
theorem BNV : AG Try.prog AYB (C_bins.spec dIX) := GD C_bins BJD [] [] BPS (λ _ => by kernel_rfl) (λ _ => AB BKX (AB BMV AE)) (λ (a : IX) h => by
 show BEW a; rw [BMZ]; simp only [CC, eq_self, implies_true, forall_const]
 obtain ⟨hl, ha⟩ : a.l.length < 4611686018427387904 /\ asc a.l := h
 refine ⟨⟨⟨0, a.l.length⟩, ⟨rfl, rfl⟩, Nat.zero_le _, Nat.le_refl _, λ k hk => absurd hk (Nat.not_lt_zero k), λ k h1 h2 => absurd h2 (by have h1 : a.l.length <= k := h1; omega)⟩, λ s ⟨h1, h2, h3, h4⟩ => ⟨λ hlt => ?_, λ hge => ?_⟩⟩
 ·have hlt : s.i < s.j := by omega
  have hh := half (i := s.i) (j := s.j) (by omega)
  obtain ⟨m, hm⟩ : ∃ m, m = (s.i + s.j) / 2 := ⟨_, rfl⟩
  have hh' : IntKind.i64.wrap (IntKind.u64.wrap (IntKind.i64.wrap ((s.i : Int) + s.j)) / 2 ^ 1) = (m : Int) := by rw [hm]; exact hh
  rw [<- hm] at hh
  rw [hh, hh']
  have hm1 : s.i <= m := by omega
  have hm2 : m < s.j := by omega
  refine ⟨by omega, ⟨by omega, by omega⟩, λ hx => ⟨⟨m + 1, s.j⟩, ⟨(BH (by omega)).symm, rfl⟩, ⟨by show m + 1 <= s.j; omega, h2, λ k hk => ?_, h4⟩, by show s.j - (m + 1) < s.j - s.i; omega⟩, λ hx => ⟨⟨s.i, m⟩, ⟨rfl, rfl⟩, ⟨hm1, by show m <= _; omega, h3, λ k h5 h6 => ?_⟩, by show m - s.i < s.j - s.i; omega⟩⟩
  ·have hk : k < m + 1 := hk
   simp only [Int.toNat_natCast] at hx
   rcases Nat.lt_or_ge k m with h7 | h7
   ·have := yN ha h7 (by omega); omega
   ·rw [show k = m by omega]; exact hx
  ·have h5 : m <= k := h5
   simp only [Int.toNat_natCast] at hx
   rcases Nat.lt_or_ge m k with h7 | h7
   ·have := yN ha h7 h6; omega
   ·rw [show k = m by omega]; omega
 ·have he : s.i = s.j := by omega
  have h4 : ∀ k, s.i <= k -> k < a.l.length -> a.x <= gD a.l k := by rw [he]; exact h4
  refine ⟨⟨λ h5 => by omega, λ h5 => by simp at h5; omega⟩, ?_, ?_⟩
  ·have := ATI (p := λ b => decide (b < a.x)) (l := a.l) (i := s.i) (by omega) (λ k hk => by simpa using h3 k hk) (λ k h5 h6 => by have := h4 k h5 h6; simp; omega)
   unfold ltC; omega
  ·rw [BUK ha (by omega) h3 h4]
   cases decide ((s.i : Int) < a.l.length) <;> cases (gD a.l s.i == a.x) <;> rfl) (λ _ => GJ rfl rfl) _
theorem BFA {l : List Int} {x : Int} (h : asc l) : (FA l x : Int) = if x ∈ l then (ltC l x : Int) + 1 else ltC l x := by
 unfold FA ltC
 induction l with
 | nil => simp
 | cons b r ih =>
  obtain ⟨h1, h2⟩ := List.pairwise_cons.1 h
  have ih := ih h2
  by_cases hb : b = x
  ·subst hb
   have : b ∉ r := λ hm => absurd (h1 b hm) (by omega)
   simp only [this, if_false] at ih
   simp; omega
  ·by_cases hm : x ∈ r
   ·have h3 := h1 x hm
    simp only [hm, if_true] at ih
    simp [hm, h3, show b <= x by omega]
    omega
   ·simp only [hm, if_false] at ih
    have hne : x ≠ b := λ h => hb h.symm
    simp only [List.mem_cons, hne, hm, or_self, if_false, List.countP_cons]
    by_cases h3 : b < x
    ·simp [h3, show b <= x by omega]; omega
    ·simp [h3, show ¬ b <= x by omega]; omega
def C_part : Ctr := { C_bins with val := λ (a : IX) => .int (FA a.l a.x) }
def BHX : Ann := ann 17 [(AYB, C_bins.spec dIX)]
def BFT (a : IX) : Prop := AO Try.prog BHX AWK (AF AWK) (xIX a) (AC []) (C_part.val a) [] [] []
theorem BOH (a : IX) : (BFT a) = (((AD a.l.length λ (i : Nat) => gD a.l i).length = a.l.length /\ (∀ (i : Nat), i < (AD a.l.length λ (i : Nat) => gD a.l i).length -> gD (AD a.l.length λ (i : Nat) => gD a.l
 i) i = gD a.l i) /\ a.x = a.x /\ (AD a.l.length λ (i : Nat) => gD a.l i).length < 4611686018427387904 /\ List.Pairwise (λ (x1 x2 : Int) => x1 < x2) (AD a.l.length λ (i : Nat) => gD a.l i)) /\ bif decide (a.x ∈ AD
 a.l.length λ (i : Nat) => gD a.l i) then (↑(FA a.l a.x) : Int) = IntKind.i64.wrap ((↑(ltC (AD a.l.length λ (i : Nat) => gD a.l i) a.x) : Int) + 1) else (↑(FA a.l a.x) : Int) = (↑(ltC (AD a.l.length λ (i : Nat)
 => gD a.l i) a.x) : Int)) := by kernel_rfl
theorem iG : AG Try.prog yQ (C_part.spec dIX) := Ctr.spec_ok (C := C_part) (λ (a : IX) h => JZ (A := BHX) (L := []) (keep := []) (ren := []) (fz := []) BNO (by kernel_rfl) (AB BNV AE) (by
 show BFT a; rw [BOH]; simp only [CC, eq_self, implies_true, forall_const]
 have h : a.l.length < 4611686018427387904 /\ asc a.l := h
 refine ⟨h, λ hm => ?_, λ hm => ?_⟩
 ·rw [BFA h.2, if_pos hm, HM (by omega) (by have : ltC a.l a.x <= a.l.length := List.countP_le_length; omega)]
 ·rw [BFA h.2, if_neg hm])) _
end Go.Bal
