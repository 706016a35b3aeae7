/- Package rating: what is allowed; parts; ends. -/
import Derived.Test.YtoihhodbkimedaaGreatRatE
set_option linter.unusedVariables false
set_option linter.unusedSimpArgs false
namespace Go.Bal
open Go Go.Sym Go.Proofs
def AQ (l : List Gau) : Int := bif !BY l.length 1 24 then 3 else bif !l.all Ck then 50 else 0
def JM : List AVal -> Heap -> Option (List Gau × List (Nat × Nat) × List Nat)
 | [y], H => match Bc y H with
  | some (l, f) => some (l, [], f)
  | none => none
 | _, _ => none
def C_Check : Ctr := { α := List Gau, xs := λ l => [.d (AS l)], L := λ _ => [], val := λ l => .int (AQ l), keep := λ _ => [], pre := λ l => [l.length < 4611686018427387904 /\ True] }
def BWB : Ann := ann 12 [(sE, Q7), (n_eG, C4Gr.spec d4Gr)]
def BTA (l : List Gau) : Prop := AN Try.prog BWB BDQ (AF BDQ) (C_Check.xs l) (AC []) (C_Check.val l) [] [] []
theorem CJB (l : List Gau) : (BTA l) = (bif !BY (↑l.length : Int) 1 24 then AQ l = 3 else ((AE l.length λ (i : Nat) => gD l i).length = l.length /\ (∀ (i : Nat), i < (AE l.length λ (i : Nat) => gD l
 i).length -> (gD (AE l.length λ (i : Nat) => gD l i) i).st = (gD l i).st /\ (gD (AE l.length λ (i : Nat) => gD l i) i).lo = (gD l i).lo /\ (gD (AE l.length λ (i : Nat) => gD l i) i).hi = (gD l i).hi) /\ (AE
 l.length λ (i : Nat) => gD l i).length < 4611686018427387904 /\ True) /\ bif !(AE l.length λ (i : Nat) => gD l i).all λ (x : Gau) => Ck x then AQ l = 50 else AQ l = 0) := by kernel_rfl
theorem vN : AG Try.prog vL (C_Check.spec JM) := HR C_Check (λ _ => BWB) [] [] CEY (λ _ => by kernel_rfl) (λ _ => AB Bv (AB CVX AD)) (λ (l : List Gau) h => by
 show BTA l; rw [CJB]; simp only [CC, eq_self, implies_true, forall_const]
 have h' : l.length < 4611686018427387904 /\ True := h
 unfold AQ
 cases BY l.length 1 24 <;> cases hr : l.all Ck <;> simp [h'.1, hr]) (λ _ => IN rfl rfl) _
def brk : Int -> List Int -> Int
 | _, [] => 0
 | a, b :: r => bif BY b (wr (a + 1)) 2000 then brk b r else 2
def DQ (l : List Int) : Int := if (l.length : Int) > 24 then 3 else brk 0 l
def dIs1 : List AVal -> Heap -> Option (List Int × List (Nat × Nat) × List Nat)
 | [y], H => match XT y H with
  | some (l, f) => some (l, [], f)
  | none => none
 | _, _ => none
def C_checkB : Ctr := { α := List Int, xs := λ l => [.d (BC l)], L := λ _ => [], val := λ l => .int (DQ l), keep := λ _ => [], pre := λ l => [l.length < 4611686018427387904 /\ True] }
def BMN (l : List Int) : Ann := { ann 22 [(sE, Q7)] with loops := λ id => if id = 5 then some [{ α := NI, dflt := default, T := λ s => ⟨[(3, .int s.m), (9, .d (BC l)), (10, .int l.length), (11, .int s.k)], []⟩, inv := λ s => s.k <= l.length /\ brk s.m (l.drop s.k) = brk 0 l, meas := λ s => l.length - s.k }] else none }
def BMT (l : List Int) : Prop := AN Try.prog (BMN l) ASP (AF ASP) (C_checkB.xs l) (AC []) (C_checkB.val l) [] [] []
theorem BXZ (l : List Int) : (BMT l) = (bif decide ((↑l.length : Int) > 24) then DQ l = 3 else (∃ (a : NI), (a.m = 0 /\ l.length = l.length /\ (∀ (i : Nat), i < l.length -> gD l i = gD l i) /\ (↑l.length :
 Int) = (↑l.length : Int) /\ (↑a.k : Int) = 0) /\ a.k <= l.length /\ brk a.m (List.drop a.k l) = brk 0 l) /\ ∀ (a : NI), a.k <= l.length /\ brk a.m (List.drop a.k l) = brk 0 l -> bif decide ((↑a.k : Int) < (↑l.length : Int)) then
 (0 <= (↑a.k : Int) /\ (↑a.k : Int) < (↑l.length : Int)) /\ bif !BY (gD l a.k) (IntKind.i64.wrap (a.m + 1)) 2000 then DQ l = 2 else ∃ (a_2 : NI), (a_2.m = gD l a.k /\ l.length = l.length /\ (∀ (i : Nat), i < l.length ->
 gD l i = gD l i) /\ (↑l.length : Int) = (↑l.length : Int) /\ (↑a_2.k : Int) = IntKind.i64.wrap ((↑a.k : Int) + 1)) /\ (a_2.k <= l.length /\ brk a_2.m (List.drop a_2.k l) = brk 0 l) /\ l.length - a_2.k < l.length - a.k else
 DQ l = 0) := by kernel_rfl
theorem BBV : AG Try.prog APQ (C_checkB.spec dIs1) := HR C_checkB BMN [] [] BXY (λ _ => by kernel_rfl) (λ _ => AB Bv AD) (λ (l : List Int) h => by
 show BMT l; rw [BXZ]; simp only [CC, eq_self, implies_true, forall_const]
 have h' : l.length < 4611686018427387904 /\ True := h
 unfold DQ
 refine ⟨λ h1 => by rw [if_pos h1], λ h1 => ⟨⟨⟨0, 0⟩, ⟨rfl, rfl⟩, Nat.zero_le _, rfl⟩, λ s hs => ⟨λ hlt => ?_, λ hge => ?_⟩⟩⟩
 ·have hlt : s.k < l.length := by omega
  have hd := BXI hlt
  refine ⟨⟨by omega, by omega⟩, λ hb => ?_, λ hb => ⟨⟨s.k + 1, gD l s.k⟩, ⟨rfl, (BF (by omega)).symm⟩, ⟨hlt, ?_⟩, ?_⟩⟩
  ·rw [if_neg h1, <- hs.2, hd]; simp [brk, wr, hb]
  ·show brk (gD l s.k) _ = _
   rw [<- hs.2, hd]; simp [brk, wr, hb]
  ·show l.length - (s.k + 1) < l.length - s.k; omega
 ·rw [if_neg h1, <- hs.2, List.drop_of_length_le (by omega)]; rfl) (λ _ => IN rfl rfl) _
structure IX where
 l : List Int
 x : Int
structure IJ where
 i : Nat
 j : Nat
 deriving Inhabited
def ltC (l : List Int) (x : Int) : Nat := l.countP λ b => decide (b < x)
def ET (l : List Int) (x : Int) : Nat := l.countP λ b => decide (b <= x)
def asc (l : List Int) : Prop := l.Pairwise (· < ·)
def dIX : List AVal -> Heap -> Option (IX × List (Nat × Nat) × List Nat)
 | [y, .d x], H => match XT y H with
  | some (l, f) => some (⟨l, DH x⟩, [], f)
  | none => none
 | _, _ => none
def xIX (a : IX) : List AVal := [.d (BC a.l), .int a.x]
def C_bins : Ctr := { α := IX, xs := xIX, L := λ _ => [], val := λ a => .tup [.int (ltC a.l a.x), .bool (decide (a.x ∈ a.l))], keep := λ _ => [], pre := λ a => [a.l.length < 4611686018427387904 /\ asc a.l] }
def CFL (a : IX) : Ann := { ann 54 [(BJG, BXD), (BOJ, jL)] with loops := λ id => if id = 3 then some [{ α := IJ, dflt := default, T := λ s => ⟨[(0, .d (BC a.l)), (1, .int a.x), (6, .int a.l.length), (7, .int s.i), (8, .int s.j)], []⟩, inv := λ s => s.i <= s.j /\ s.j <= a.l.length /\ (∀ k, k < s.i -> gD a.l k < a.x) /\ (∀ k, s.j <= k -> k < a.l.length -> a.x <= gD a.l k), meas := λ s => s.j - s.i }] else none }
def CHM (a : IX) : Prop := AN Try.prog (CFL a) BQC (AF BQC) (xIX a) (AC []) (C_bins.val a) [] [] []
theorem CKL (a : IX) : (CHM a) = ((∃ (a_1 : IJ), (a.l.length = a.l.length /\ (∀ (i : Nat), i < a.l.length -> gD a.l i = gD a.l i) /\ a.x = a.x /\ (↑a.l.length : Int) = (↑a.l.length : Int) /\ (↑a_1.i : Int) = (0 : Int)
 /\ (↑a_1.j : Int) = (↑a.l.length : Int)) /\ a_1.i <= a_1.j /\ a_1.j <= a.l.length /\ (∀ (k : Nat), k < a_1.i -> gD a.l k < a.x) /\ ∀ (k : Nat), a_1.j <= k -> k < a.l.length -> a.x <= gD a.l k) /\ ∀ (a_1 : IJ), (a_1.i <= a_1.j /\ a_1.j
 <= a.l.length /\ (∀ (k : Nat), k < a_1.i -> gD a.l k < a.x) /\ ∀ (k : Nat), a_1.j <= k -> k < a.l.length -> a.x <= gD a.l k) -> bif decide ((↑a_1.i : Int) < (↑a_1.j : Int)) then ((0 : Int) <= (1 : Int) /\ (1 : Int) <= (↑(64 : Nat) :
 Int)) /\ ((0 : Int) <= IntKind.i64.wrap (IntKind.u64.wrap (IntKind.i64.wrap ((↑a_1.i : Int) + (↑a_1.j : Int))) / (2 : Int) ^ (1 : Nat)) /\ IntKind.i64.wrap (IntKind.u64.wrap (IntKind.i64.wrap ((↑a_1.i : Int) + (↑a_1.j :
 Int))) / (2 : Int) ^ (1 : Nat)) < (↑a.l.length : Int)) /\ bif decide (gD a.l (IntKind.i64.wrap (IntKind.u64.wrap (IntKind.i64.wrap ((↑a_1.i : Int) + (↑a_1.j : Int))) / (2 : Int) ^ Int.toNat (1 : Int))).toNat < a.x) then ∃
 (a_3 : IJ), (a.l.length = a.l.length /\ (∀ (i : Nat), i < a.l.length -> gD a.l i = gD a.l i) /\ a.x = a.x /\ (↑a.l.length : Int) = (↑a.l.length : Int) /\ (↑a_3.i : Int) = IntKind.i64.wrap (IntKind.i64.wrap (IntKind.u64.wrap
 (IntKind.i64.wrap ((↑a_1.i : Int) + (↑a_1.j : Int))) / (2 : Int) ^ Int.toNat (1 : Int)) + (1 : Int)) /\ (↑a_3.j : Int) = (↑a_1.j : Int)) /\ (a_3.i <= a_3.j /\ a_3.j <= a.l.length /\ (∀ (k : Nat), k < a_3.i -> gD a.l k < a.x) /\
 ∀ (k : Nat), a_3.j <= k -> k < a.l.length -> a.x <= gD a.l k) /\ a_3.j - a_3.i < a_1.j - a_1.i else ∃ (a_3 : IJ), (a.l.length = a.l.length /\ (∀ (i : Nat), i < a.l.length -> gD a.l i = gD a.l i) /\ a.x = a.x /\ (↑a.l.length :
 Int) = (↑a.l.length : Int) /\ (↑a_3.i : Int) = (↑a_1.i : Int) /\ (↑a_3.j : Int) = IntKind.i64.wrap (IntKind.u64.wrap (IntKind.i64.wrap ((↑a_1.i : Int) + (↑a_1.j : Int))) / (2 : Int) ^ Int.toNat (1 : Int))) /\ (a_3.i <= a_3.j
 /\ a_3.j <= a.l.length /\ (∀ (k : Nat), k < a_3.i -> gD a.l k < a.x) /\ ∀ (k : Nat), a_3.j <= k -> k < a.l.length -> a.x <= gD a.l k) /\ a_3.j - a_3.i < a_1.j - a_1.i else ((decide ((↑a_1.i : Int) < (↑a.l.length : Int)) = true ->
 (0 : Int) <= (↑a_1.i : Int) /\ (↑a_1.i : Int) < (↑a.l.length : Int)) /\ ((decide ((↑a_1.i : Int) < (↑a.l.length : Int)) && !gD a.l a_1.i == a.x) = true -> (0 : Int) <= (↑a_1.i : Int) /\ (↑a_1.i : Int) < (↑a.l.length : Int))) /\
 (↑(ltC a.l a.x) : Int) = (↑a_1.i : Int) /\ decide (a.x ∈ a.l) = bif decide ((↑a_1.i : Int) < (↑a.l.length : Int)) then bif gD a.l a_1.i == a.x then true else bif false then false else false else false) := by kernel_rfl
theorem u64w {n : Int} (h0 : 0 <= n) (h1 : n < 18446744073709551616) : IntKind.u64.wrap n = n := by
 simp only [IntKind.wrap, IntKind.bits, IntKind.signed]
 have : n % (2 ^ 64 : Int) = n := Int.emod_eq_of_lt h0 (by omega)
 simp only [this]
 simp
theorem half {i j : Nat} (h : i + j < 9223372036854775807) : IntKind.i64.wrap (IntKind.u64.wrap (IntKind.i64.wrap ((i : Int) + j)) / 2 ^ Int.toNat 1) = (((i + j) / 2 : Nat) : Int) := by
 rw [EV (n := (i : Int) + j) (by omega) (by omega), u64w (by omega) (by omega)]
 show IntKind.i64.wrap (((i : Int) + j) / 2) = _
 rw [EV (by omega) (by omega)]; omega
theorem ANP {p : Int -> Bool} {l : List Int} {i : Nat} (hi : i <= l.length) (h1 : ∀ k, k < i -> p (gD l k) = true) (h2 : ∀ k, i <= k -> k < l.length -> p (gD l k) = false) : l.countP p = i := by
 conv => lhs; rw [<- List.take_append_drop i l]
 rw [List.countP_append]
 have e1 : (l.take i).countP p = i := by
  rw [List.countP_eq_length.2]
  ·simp; omega
  ·intro x hx
   obtain ⟨k, hk, rfl⟩ := List.getElem_of_mem hx
   have hk' : k < i := by simp at hk; omega
   have := h1 k hk'
   simpa [gD, List.getD_eq_getElem?_getD, show k < l.length by omega] using this
 have e2 : (l.drop i).countP p = 0 := by
  rw [List.countP_eq_zero]
  intro x hx
  obtain ⟨k, hk, rfl⟩ := List.getElem_of_mem hx
  have hk' : i + k < l.length := by simp at hk; omega
  have := h2 (i + k) (by omega) hk'
  simp [gD, List.getD_eq_getElem?_getD, hk'] at this
  simp [this]
 omega
theorem Gd {l : List Int} (h : asc l) {i j : Nat} (hij : i < j) (hj : j < l.length) : gD l i < gD l j := by
 have := List.pairwise_iff_getElem.1 h i j (by omega) hj hij
 simpa [gD, List.getD_eq_getElem?_getD, hj, show i < l.length by omega] using this
theorem CSL {l : List Int} {x : Int} {i : Nat} (h : asc l) (hi : i <= l.length) (h1 : ∀ k, k < i -> gD l k < x) (h2 : ∀ k, i <= k -> k < l.length -> x <= gD l k) : decide (x ∈ l) = (decide ((i : Int) < l.length) && gD l i == x) := by
 rw [Bool.eq_iff_iff]
 simp only [decide_eq_true_eq, Bool.and_eq_true, beq_iff_eq]
 constructor
 ·intro hx
  obtain ⟨k, hk, rfl⟩ := HM hx
  have hik : i <= k := by
   rcases Nat.lt_or_ge k i with h3 | h3
   ·have := h1 k h3; omega
   ·exact h3
  refine ⟨by omega, ?_⟩
  rcases Nat.lt_or_ge i k with h3 | h3
  ·have := Gd h h3 hk
   have := h2 i (Nat.le_refl _) (by omega)
   omega
  ·rw [show i = k by omega]
 ·rintro ⟨h3, rfl⟩
  exact BM (by omega)
theorem CNV : AG Try.prog BRW (C_bins.spec dIX) := HR C_bins CFL [] [] CKM (λ _ => by kernel_rfl) (λ _ => AB CAA (AB CJW AD)) (λ (a : IX) h => by
 show CHM a; rw [CKL]; simp only [CC, eq_self, implies_true, forall_const]
 obtain ⟨hl, ha⟩ : a.l.length < 4611686018427387904 /\ asc a.l := h
 refine ⟨⟨⟨0, a.l.length⟩, ⟨rfl, rfl⟩, Nat.zero_le _, Nat.le_refl _, λ k hk => absurd hk (Nat.not_lt_zero k), λ k h1 h2 => absurd h2 (by have h1 : a.l.length <= k := h1; omega)⟩, λ s ⟨h1, h2, h3, h4⟩ => ⟨λ hlt => ?_, λ hge => ?_⟩⟩
 ·have hlt : s.i < s.j := by omega
  have hh := half (i := s.i) (j := s.j) (by omega)
  obtain ⟨m, hm⟩ : ∃ m, m = (s.i + s.j) / 2 := ⟨_, rfl⟩
  have hh' : IntKind.i64.wrap (IntKind.u64.wrap (IntKind.i64.wrap ((s.i : Int) + s.j)) / 2 ^ 1) = (m : Int) := by rw [hm]; exact hh
  rw [<- hm] at hh
  rw [hh, hh']
  have hm1 : s.i <= m := by omega
  have hm2 : m < s.j := by omega
  refine ⟨by omega, ⟨by omega, by omega⟩, λ hx => ⟨⟨m + 1, s.j⟩, ⟨(BF (by omega)).symm, rfl⟩, ⟨by show m + 1 <= s.j; omega, h2, λ k hk => ?_, h4⟩, by show s.j - (m + 1) < s.j - s.i; omega⟩, λ hx => ⟨⟨s.i, m⟩, ⟨rfl, rfl⟩, ⟨hm1, by show m <= _; omega, h3, λ k h5 h6 => ?_⟩, by show m - s.i < s.j - s.i; omega⟩⟩
  ·have hk : k < m + 1 := hk
   simp only [Int.toNat_natCast] at hx
   rcases Nat.lt_or_ge k m with h7 | h7
   ·have := Gd ha h7 (by omega); omega
   ·rw [show k = m by omega]; exact hx
  ·have h5 : m <= k := h5
   simp only [Int.toNat_natCast] at hx
   rcases Nat.lt_or_ge m k with h7 | h7
   ·have := Gd ha h7 h6; omega
   ·rw [show k = m by omega]; omega
 ·have he : s.i = s.j := by omega
  have h4 : ∀ k, s.i <= k -> k < a.l.length -> a.x <= gD a.l k := by rw [he]; exact h4
  refine ⟨⟨λ h5 => by omega, λ h5 => by simp at h5; omega⟩, ?_, ?_⟩
  ·have := ANP (p := λ b => decide (b < a.x)) (l := a.l) (i := s.i) (by omega) (λ k hk => by simpa using h3 k hk) (λ k h5 h6 => by have := h4 k h5 h6; simp; omega)
   unfold ltC; omega
  ·rw [CSL ha (by omega) h3 h4]
   cases decide ((s.i : Int) < a.l.length) <;> cases (gD a.l s.i == a.x) <;> rfl) (λ _ => IN rfl rfl) _
theorem CGP {l : List Int} {x : Int} (h : asc l) : (ET l x : Int) = if x ∈ l then (ltC l x : Int) + 1 else ltC l x := by
 unfold ET ltC
 induction l with
 | nil => simp
 | cons b r ih =>
  obtain ⟨h1, h2⟩ := List.pairwise_cons.1 h
  have ih := ih h2
  by_cases hb : b = x
  ·subst hb
   have : b ∉ r := λ hm => absurd (h1 b hm) (by omega)
   simp only [this, if_false] at ih
   simp; omega
  ·by_cases hm : x ∈ r
   ·have h3 := h1 x hm
    simp only [hm, if_true] at ih
    simp [hm, h3, show b <= x by omega]
    omega
   ·simp only [hm, if_false] at ih
    have hne : x ≠ b := λ h => hb h.symm
    simp only [List.mem_cons, hne, hm, or_self, if_false, List.countP_cons]
    by_cases h3 : b < x
    ·simp [h3, show b <= x by omega]; omega
    ·simp [h3, show ¬ b <= x by omega]; omega
def C_part : Ctr := { C_bins with val := λ (a : IX) => .int (ET a.l a.x) }
def CHL : Ann := ann 17 [(BRW, C_bins.spec dIX)]
def CCZ (a : IX) : Prop := AN Try.prog CHL BQN (AF BQN) (xIX a) (AC []) (C_part.val a) [] [] []
theorem CMR (a : IX) : (CCZ a) = (((AE a.l.length λ (i : Nat) => gD a.l i).length = a.l.length /\ (∀ (i : Nat), i < (AE a.l.length λ (i : Nat) => gD a.l i).length -> gD (AE a.l.length λ (i : Nat) => gD a.l
 i) i = gD a.l i) /\ a.x = a.x /\ (AE a.l.length λ (i : Nat) => gD a.l i).length < 4611686018427387904 /\ List.Pairwise (λ (x1 x2 : Int) => x1 < x2) (AE a.l.length λ (i : Nat) => gD a.l i)) /\ bif decide (a.x ∈ AE
 a.l.length λ (i : Nat) => gD a.l i) then (↑(ET a.l a.x) : Int) = IntKind.i64.wrap ((↑(ltC (AE a.l.length λ (i : Nat) => gD a.l i) a.x) : Int) + 1) else (↑(ET a.l a.x) : Int) = (↑(ltC (AE a.l.length λ (i : Nat)
 => gD a.l i) a.x) : Int)) := by kernel_rfl
theorem BGN : AG Try.prog BLD (C_part.spec dIX) := Ctr.spec_ok (C := C_part) (λ (a : IX) h => KZ (A := CHL) (L := []) (keep := []) (ren := []) (fz := []) CLR (by kernel_rfl) (AB CNV AD) (by
 show CCZ a; rw [CMR]; simp only [CC, eq_self, implies_true, forall_const]
 have h : a.l.length < 4611686018427387904 /\ asc a.l := h
 refine ⟨h, λ hm => ?_, λ hm => ?_⟩
 ·rw [CGP h.2, if_pos hm, EV (by omega) (by have : ltC a.l a.x <= a.l.length := List.countP_le_length; omega)]
 ·rw [CGP h.2, if_neg hm])) _
end Go.Bal
