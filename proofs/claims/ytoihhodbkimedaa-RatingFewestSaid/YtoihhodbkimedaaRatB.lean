/- Package rating: what is allowed; parts; ends. -/
import Derived.Test.YtoihhodbkimedaaRatE
set_option linter.unusedVariables false
set_option linter.unusedSimpArgs false
namespace Go.Bal
open Go Go.Sym Go.Proofs
def AZ (l : List Gau) : Int := bif !Cb l.length 1 24 then 3 else bif !l.all riG then 50 else 0
def Ch : List AVal -> Heap -> Option (List Gau × List (Nat × Nat) × List Nat)
 | [y], H => match tL y H with
  | some (l, f) => some (l, [], f)
  | none => none
 | _, _ => none
def C_Check : Ctr := { α := List Gau, xs := λ l => [.d (DX l)], L := λ _ => [], val := λ l => .int (AZ l), keep := λ _ => [], pre := λ l => [l.length < 4611686018427387904 /\ True] }
def BGY : Ann := ann 12 [(n_in, s_in), (n_eG, C4Gr.spec d4Gr)]
def BHP (l : List Gau) : Prop := CH Try.prog BGY AVL (AI AVL) (C_Check.xs l) (AD []) (C_Check.val l) [] [] []
abbrev Io:=AZ
abbrev ZP a:=CD (Io a)
abbrev UB a b c:=AH a b c EF
abbrev YN a b c:=UB (BR a) (BW b) c
attribute [go_sem] Io ZP UB YN
theorem BRY (l : List Gau) : (BHP l) = (FA (not (Cb (FQ l) 1 24)) (AO (Io l) 3) (BC (YN l l (Av l)) (not (AJN (AU l) riG)) (AO (Io l) 50) (ZP l))) := by kernel_rfl
theorem Wv : AL Try.prog mR (C_Check.spec Ch) := Ih C_Check (λ _ => BGY) [] [] BOB (λ _ => by kernel_rfl) (λ _ => AB qF (AB CHG AF)) (λ (l : List Gau) h => by
 show BHP l; rw [BRY]<;> delta GH HK FK FA AO AT AG CG CM BK DM GP EF AJN Io AE FQ AP AU AX AH BH CY BN CL CQ DF DG EN AW DE DN EO DY CD EU FE DV FG ZP MN FB BE BC BW BR FW UB Av YN; simp only [CC, eq_self, implies_true, forall_const]
 have h' : l.length < 4611686018427387904 /\ True := h
 unfold AZ
 cases Cb l.length 1 24 <;> cases hr : l.all riG <;> simp [h'.1, hr]) (λ _ => Jf rfl rfl) _
def brk : Int -> List Int -> Int
 | _, [] => 0
 | a, b :: r => bif Cb b (wr (a + 1)) 2000 then brk b r else 2
def Kt (l : List Int) : Int := if (l.length : Int) > 24 then 3 else brk 0 l
def dIs1 : List AVal -> Heap -> Option (List Int × List (Nat × Nat) × List Nat)
 | [y], H => match AIY y H with
  | some (l, f) => some (l, [], f)
  | none => none
 | _, _ => none
def C_checkB : Ctr := { α := List Int, xs := λ l => [.d (DC l)], L := λ _ => [], val := λ l => .int (Kt l), keep := λ _ => [], pre := λ l => [l.length < 4611686018427387904 /\ True] }
def BAB (l : List Int) : Ann := { ann 22 [(n_in, s_in)] with loops := λ id => if id = 5 then some [{ α := NI, dflt := default, T := λ s => ⟨[(3, .int s.m), (9, .d (DC l)), (10, .int l.length), (11, .int s.k)], []⟩, inv := λ s => s.k <= l.length /\ brk s.m (l.drop s.k) = brk 0 l, meas := λ s => l.length - s.k }] else none }
def AZR (l : List Int) : Prop := CH Try.prog (BAB l) AMX (AI AMX) (C_checkB.xs l) (AD []) (C_checkB.val l) [] [] []
abbrev xY:=Kt
abbrev BBJ:=@List.drop Int
attribute [go_sem] xY BBJ
theorem BLE (l : List Int) : (AZR l) = (FA (ZR (FP l) 24) (AO (xY l) 3) (And (hd33 (λ i=>JB (AJ (CD (wT i)) (GN l) (LL l) (OY l) (CN (El i))) (EL (El i) l) (brk (wT i) (BBJ (El i) l)) (brk 0 l))) (hd49 (λ i=>DH (EB (EL (El i) l) (brk (wT i) (BBJ (El i) l)) (brk 0 l)) (El i) (FP l) (BC (GA (El i) (FP l)) (not (Cb (EM l (El i)) (DP (wT i)) 2000)) (AO (xY l) 2) (hd33 (λ j=>CJ (AJ (AO (wT j) (EM l (El i))) (GN l) (LL l) (OY l) (BJ (El j) (El i))) (EB (EL (El j) l) (brk (wT j) (BBJ (El j) l)) (brk 0 l)) (VL l (El j)) (VL l (El i))))) (CD (xY l)))))) := by kernel_rfl
theorem ATW : AL Try.prog AQK (C_checkB.spec dIs1) := Ih C_checkB BAB [] [] BLJ (λ _ => by kernel_rfl) (λ _ => AB qF AF) (λ (l : List Int) h => by
 show AZR l; rw [BLE]<;> delta KN FA AO ZR hd33 wT AT CX AG CG CM EM BK El DB hd49 DW DT QP PD RO FM xY BBJ AE AJ AP DR AK BO DK CZ CA DP ED IG FP MX Ma CJ GN CD JM Ir JE IF VL LL BC EZ BJ EB DH EL CN GA OY JB; simp only [CC, eq_self, implies_true, forall_const]
 have h' : l.length < 4611686018427387904 /\ True := h
 unfold Kt
 refine ⟨λ h1 => by rw [if_pos h1], λ h1 => ⟨⟨⟨0, 0⟩, ⟨rfl, rfl⟩, Nat.zero_le _, rfl⟩, λ s hs => ⟨λ hlt => ?_, λ hge => ?_⟩⟩⟩
 ·have hlt : s.k < l.length := by omega
  have hd := BXA hlt
  refine ⟨⟨by omega, by omega⟩, λ hb => ?_, λ hb => ⟨⟨s.k + 1, gD l s.k⟩, ⟨rfl, (EQ (by omega)).symm⟩, ⟨hlt, ?_⟩, ?_⟩⟩
  ·rw [if_neg h1, <- hs.2, hd]; simp [brk, wr, hb]
  ·show brk (gD l s.k) _ = _
   rw [<- hs.2, hd]; simp [brk, wr, hb]
  ·show l.length - (s.k + 1) < l.length - s.k; omega
 ·rw [if_neg h1, <- hs.2, List.drop_of_length_le (by omega)]; rfl) (λ _ => Jf rfl rfl) _
def cB (r : Rtg) : Int := bif Kt r.b != 0 then Kt r.b else bif (r.l.length : Int) != (r.b.length : Int) + 1 then 2 else bif !r.l.all jT then 50 else 0
structure IX where
 l : List Int
 x : Int
structure IJ where
 i : Nat
 j : Nat
 deriving Inhabited
def ltC (l : List Int) (x : Int) : Nat := l.countP λ b => decide (b < x)
def Tl (l : List Int) (x : Int) : Nat := l.countP λ b => decide (b <= x)
def asc (l : List Int) : Prop := l.Pairwise (· < ·)
def dIX : List AVal -> Heap -> Option (IX × List (Nat × Nat) × List Nat)
 | [y, .d x], H => match AIY y H with
  | some (l, f) => some (⟨l, JD x⟩, [], f)
  | none => none
 | _, _ => none
def xIX (a : IX) : List AVal := [.d (DC a.l), .int a.x]
def C_bins : Ctr := { α := IX, xs := xIX, L := λ _ => [], val := λ a => .tup [.int (ltC a.l a.x), .bool (decide (a.x ∈ a.l))], keep := λ _ => [], pre := λ a => [a.l.length < 4611686018427387904 /\ asc a.l] }
def BPB (a : IX) : Ann := { ann 54 [(AWG, BHQ), (BDL, R0)] with loops := λ id => if id = 3 then some [{ α := IJ, dflt := default, T := λ s => ⟨[(0, .d (DC a.l)), (1, .int a.x), (6, .int a.l.length), (7, .int s.i), (8, .int s.j)], []⟩, inv := λ s => s.i <= s.j /\ s.j <= a.l.length /\ (∀ k, k < s.i -> gD a.l k < a.x) /\ (∀ k, s.j <= k -> k < a.l.length -> a.x <= gD a.l k), meas := λ s => s.j - s.i }] else none }
def BNL (a : IX) : Prop := CH Try.prog (BPB a) BDE (AI BDE) (xIX a) (AD []) (C_bins.val a) [] [] []
abbrev AZU:=@Exists IJ
abbrev RP:=IX.l
abbrev XO:=IX.x
abbrev Bb:=IJ.i
abbrev UZ:=IJ.j
abbrev ATF:=@HDiv.hDiv Int Int Int (@instHDiv Int Int.instDiv)
abbrev AUA:=IntKind.u64
abbrev GF:=Int.toNat
abbrev BCO:=λ (x0 : List Int) (x1 : Int) => decide (x1 ∈ x0)
abbrev Tx a b:=EM (RP a) b
abbrev nR a:=FP (RP a)
abbrev Zi a:=BK (Bb a)
abbrev LW a:=KY a PN
abbrev MY a b:=CG (LW a) b
abbrev RW a b c:=MY a (JM b c)
abbrev FU a b c d e f g:=CJ a (AH b c d e) f g
abbrev Iw a b c:=CG (DB a b) c
abbrev Jx a:=(@HPow.hPow Int Nat Int (@instHPow Int Nat (@instPowNat Int Int.instNatPow))) 2 a
abbrev cZ a b:=EM a (GF b)
abbrev Ix a b:=IG a (DW a b)
attribute [go_sem] AZU RP XO Bb UZ ATF AUA GF BCO Tx nR Zi LW MY RW FU Iw Jx cZ Ix
theorem BXU (a : IX) : (BNL a) = (And (AZU (λ i=>AJ (AY (GN (RP a)) (LL (RP a)) (AK (XO a)) (OY (RP a)) (CN (Bb i)) (ED (UZ i) (nR a))) (DB (Bb i) (UZ i)) (EL (UZ i) (RP a)) (AG (λ j=>AP j (Bb i) (DT (Tx a j) (XO a)))) (AG (λ j=>Iw (UZ i) j (CZ j (RP a) (DW (XO a) (Tx a j))))))) ((λ (f : IJ -> Prop) => ∀ (x : IJ), f x) (λ i=>DH (AH (DB (Bb i) (UZ i)) (EL (UZ i) (RP a)) (AG (λ j=>AP j (Bb i) (DT (Tx a j) (XO a)))) (AG (λ j=>Iw (UZ i) j (CZ j (RP a) (DW (XO a) (Tx a j)))))) (Bb i) (BK (UZ i)) (AE (Ix 1 (BK 64)) (JM (DR (ATF (QP AUA (DK (Zi i) (BK (UZ i)))) (Jx 1))) (nR a)) (IF (cZ (RP a) (DR (ATF (QP AUA (DK (Zi i) (BK (UZ i)))) (Jx (GF 1))))) (XO a) (AZU (λ j=>FU (AY (GN (RP a)) (LL (RP a)) (AK (XO a)) (OY (RP a)) (JE (Bb j) (DR (ATF (QP AUA (DK (Zi i) (BK (UZ i)))) (Jx (GF 1))))) (EA (UZ j) (UZ i))) (DB (Bb j) (UZ j)) (EL (UZ j) (RP a)) (AG (λ k=>AP k (Bb j) (DT (Tx a k) (XO a)))) (AG (λ k=>Iw (UZ j) k (CZ k (RP a) (DW (XO a) (Tx a k))))) (FM (UZ j) (Bb j)) (FM (UZ i) (Bb i)))) (AZU (λ j=>FU (AY (GN (RP a)) (LL (RP a)) (AK (XO a)) (OY (RP a)) (EA (Bb j) (Bb i)) (ED (UZ j) (DR (ATF (QP AUA (DK (Zi i) (BK (UZ i)))) (Jx (GF 1)))))) (DB (Bb j) (UZ j)) (EL (UZ j) (RP a)) (AG (λ k=>AP k (Bb j) (DT (Tx a k) (XO a)))) (AG (λ k=>Iw (UZ j) k (CZ k (RP a) (DW (XO a) (Tx a k))))) (FM (UZ j) (Bb j)) (FM (UZ i) (Bb i)))))) (AE (And (RW (KN (Zi i) (nR a)) (Zi i) (nR a)) (RW (and (KN (Zi i) (nR a)) (not (TU (Tx a (Bb i)) (XO a)))) (Zi i) (nR a))) (EA (ltC (RP a) (XO a)) (Bb i)) (KY (BCO (RP a) (XO a)) (HG (KN (Zi i) (nR a)) (RC (TU (Tx a (Bb i)) (XO a)) (HG Dc Dc)))))))) := by kernel_rfl
theorem u64w {n : Int} (h0 : 0 <= n) (h1 : n < 18446744073709551616) : IntKind.u64.wrap n = n := by
 simp only [IntKind.wrap, IntKind.bits, IntKind.signed]
 have : n % (2 ^ 64 : Int) = n := Int.emod_eq_of_lt h0 (by omega)
 simp only [this]
 simp
theorem half {i j : Nat} (h : i + j < 9223372036854775807) : IntKind.i64.wrap (IntKind.u64.wrap (IntKind.i64.wrap ((i : Int) + j)) / 2 ^ Int.toNat 1) = (((i + j) / 2 : Nat) : Int) := by
 rw [LS (n := (i : Int) + j) (by omega) (by omega), u64w (by omega) (by omega)]
 show IntKind.i64.wrap (((i : Int) + j) / 2) = _
 rw [LS (by omega) (by omega)]; omega
theorem X9 {p : Int -> Bool} {l : List Int} {i : Nat} (hi : i <= l.length) (h1 : ∀ k, k < i -> p (gD l k) = true) (h2 : ∀ k, i <= k -> k < l.length -> p (gD l k) = false) : l.countP p = i := by
 conv => lhs; rw [<- List.take_append_drop i l]
 rw [List.countP_append]
 have e1 : (l.take i).countP p = i := by
  rw [List.countP_eq_length.2]
  ·simp; omega
  ·intro x hx
   obtain ⟨k, hk, rfl⟩ := List.getElem_of_mem hx
   have hk' : k < i := by simp at hk; omega
   have := h1 k hk'
   simpa [gD, List.getD_eq_getElem?_getD, show k < l.length by omega] using this
 have e2 : (l.drop i).countP p = 0 := by
  rw [List.countP_eq_zero]
  intro x hx
  obtain ⟨k, hk, rfl⟩ := List.getElem_of_mem hx
  have hk' : i + k < l.length := by simp at hk; omega
  have := h2 (i + k) (by omega) hk'
  simp [gD, List.getD_eq_getElem?_getD, hk'] at this
  simp [this]
 omega
theorem We {l : List Int} (h : asc l) {i j : Nat} (hij : i < j) (hj : j < l.length) : gD l i < gD l j := by
 have := List.pairwise_iff_getElem.1 h i j (by omega) hj hij
 simpa [gD, List.getD_eq_getElem?_getD, hj, show i < l.length by omega] using this
theorem CCP {l : List Int} {x : Int} {i : Nat} (h : asc l) (hi : i <= l.length) (h1 : ∀ k, k < i -> gD l k < x) (h2 : ∀ k, i <= k -> k < l.length -> x <= gD l k) : decide (x ∈ l) = (decide ((i : Int) < l.length) && gD l i == x) := by
 rw [Bool.eq_iff_iff]
 simp only [decide_eq_true_eq, Bool.and_eq_true, beq_iff_eq]
 constructor
 ·intro hx
  obtain ⟨k, hk, rfl⟩ := YL hx
  have hik : i <= k := by
   rcases Nat.lt_or_ge k i with h3 | h3
   ·have := h1 k h3; omega
   ·exact h3
  refine ⟨by omega, ?_⟩
  rcases Nat.lt_or_ge i k with h3 | h3
  ·have := We h h3 hk
   have := h2 i (Nat.le_refl _) (by omega)
   omega
  ·rw [show i = k by omega]
 ·rintro ⟨h3, rfl⟩
  exact DU (by omega)
theorem BXJ : AL Try.prog BGF (C_bins.spec dIX) := Ih C_bins BPB [] [] BUK (λ _ => by kernel_rfl) (λ _ => AB BSR (AB BVF AF)) (λ (a : IX) h => by
 show BNL a; rw [BXU]<;> delta KY hd5 Dc KN PN FA AO AT CX AG CG CM EM BK DB DW DT QP PD RO FM TU AZU RP XO Bb UZ ATF AUA GF BCO AE AJ AP DR AK BO DK AH CZ CA DP ED IG FP MX AY Ma LW CJ EA GN MY JM Ir JE HG IF Ix LL Iw EZ RW DH EL CN RC OY FU cZ Tx Zi nR Jx; simp only [CC, eq_self, implies_true, forall_const]
 obtain ⟨hl, ha⟩ : a.l.length < 4611686018427387904 /\ asc a.l := h
 refine ⟨⟨⟨0, a.l.length⟩, ⟨rfl, rfl⟩, Nat.zero_le _, Nat.le_refl _, λ k hk => absurd hk (Nat.not_lt_zero k), λ k h1 h2 => absurd h2 (by have h1 : a.l.length <= k := h1; omega)⟩, λ s ⟨h1, h2, h3, h4⟩ => ⟨λ hlt => ?_, λ hge => ?_⟩⟩
 ·have hlt : s.i < s.j := by omega
  have hh := half (i := s.i) (j := s.j) (by omega)
  obtain ⟨m, hm⟩ : ∃ m, m = (s.i + s.j) / 2 := ⟨_, rfl⟩
  have hh' : IntKind.i64.wrap (IntKind.u64.wrap (IntKind.i64.wrap ((s.i : Int) + s.j)) / 2 ^ 1) = (m : Int) := by rw [hm]; exact hh
  rw [<- hm] at hh
  rw [hh, hh']
  have hm1 : s.i <= m := by omega
  have hm2 : m < s.j := by omega
  refine ⟨by omega, ⟨by omega, by omega⟩, λ hx => ⟨⟨m + 1, s.j⟩, ⟨(EQ (by omega)).symm, rfl⟩, ⟨by show m + 1 <= s.j; omega, h2, λ k hk => ?_, h4⟩, by show s.j - (m + 1) < s.j - s.i; omega⟩, λ hx => ⟨⟨s.i, m⟩, ⟨rfl, rfl⟩, ⟨hm1, by show m <= _; omega, h3, λ k h5 h6 => ?_⟩, by show m - s.i < s.j - s.i; omega⟩⟩
  ·have hk : k < m + 1 := hk
   simp only [Int.toNat_natCast] at hx
   rcases Nat.lt_or_ge k m with h7 | h7
   ·have := We ha h7 (by omega); omega
   ·rw [show k = m by omega]; exact hx
  ·have h5 : m <= k := h5
   simp only [Int.toNat_natCast] at hx
   rcases Nat.lt_or_ge m k with h7 | h7
   ·have := We ha h7 h6; omega
   ·rw [show k = m by omega]; omega
 ·have he : s.i = s.j := by omega
  have h4 : ∀ k, s.i <= k -> k < a.l.length -> a.x <= gD a.l k := by rw [he]; exact h4
  refine ⟨⟨λ h5 => by omega, λ h5 => by simp at h5; omega⟩, ?_, ?_⟩
  ·have := X9 (p := λ b => decide (b < a.x)) (l := a.l) (i := s.i) (by omega) (λ k hk => by simpa using h3 k hk) (λ k h5 h6 => by have := h4 k h5 h6; simp; omega)
   unfold ltC; omega
  ·rw [CCP ha (by omega) h3 h4]
   cases decide ((s.i : Int) < a.l.length) <;> cases (gD a.l s.i == a.x) <;> rfl) (λ _ => Jf rfl rfl) _
theorem BOR {l : List Int} {x : Int} (h : asc l) : (Tl l x : Int) = if x ∈ l then (ltC l x : Int) + 1 else ltC l x := by
 unfold Tl ltC
 induction l with
 | nil => simp
 | cons b r ih =>
  obtain ⟨h1, h2⟩ := List.pairwise_cons.1 h
  have ih := ih h2
  by_cases hb : b = x
  ·subst hb
   have : b ∉ r := λ hm => absurd (h1 b hm) (by omega)
   simp only [this, if_false] at ih
   simp; omega
  ·by_cases hm : x ∈ r
   ·have h3 := h1 x hm
    simp only [hm, if_true] at ih
    simp [hm, h3, show b <= x by omega]
    omega
   ·simp only [hm, if_false] at ih
    have hne : x ≠ b := λ h => hb h.symm
    simp only [List.mem_cons, hne, hm, or_self, if_false, List.countP_cons]
    by_cases h3 : b < x
    ·simp [h3, show b <= x by omega]; omega
    ·simp [h3, show ¬ b <= x by omega]; omega
def C_part : Ctr := { C_bins with val := λ (a : IX) => .int (Tl a.l a.x) }
def BQK : Ann := ann 17 [(BGF, C_bins.spec dIX)]
def BOJ (a : IX) : Prop := CH Try.prog BQK BDH (AI BDH) (xIX a) (AD []) (C_part.val a) [] [] []
abbrev Cr:=@List.Pairwise Int
abbrev mZ a:=QK (RP a)
attribute [go_sem] Cr mZ
theorem BUL (a : IX) : (BOJ a) = (BC (AJ (CO (mZ a) (RP a)) (CE (mZ a) (RP a)) (AK (XO a)) (KM (mZ a)) (Cr DT (mZ a))) (BCO (mZ a) (XO a)) (BJ (Tl (RP a) (XO a)) (ltC (mZ a) (XO a))) (EA (Tl (RP a) (XO a)) (ltC (mZ a) (XO a)))) := by kernel_rfl
theorem AXW : AL Try.prog AXD (C_part.spec dIX) := Ctr.spec_ok (C := C_part) (λ (a : IX) h => Lg (A := BQK) (L := []) (keep := []) (ren := []) (fz := []) BXC (by kernel_rfl) (AB BXJ AF) (by
 show BOJ a; rw [BUL]<;> delta FA AO AT CX AG CG CM EM BK DT QP PD RO PQ RP XO BCO Cr KK AE KC AJ AP DR AK QS DK CZ DP FT GI BB ED QK HI FC EA HP CE CO JE BC JC BJ KM mZ; simp only [CC, eq_self, implies_true, forall_const]
 have h : a.l.length < 4611686018427387904 /\ asc a.l := h
 refine ⟨h, λ hm => ?_, λ hm => ?_⟩
 ·rw [BOR h.2, if_pos hm, LS (by omega) (by have : ltC a.l a.x <= a.l.length := List.countP_le_length; omega)]
 ·rw [BOR h.2, if_neg hm])) _
end Go.Bal
