/- Data, and how they read. -/
import Derived.Test.YtoihhodbkimedaaSym10
import Derived.KernelRfl
import Derived.Test.YtoihhodbkimedaaProg
set_option linter.unusedVariables false
set_option linter.unusedSimpArgs false
namespace Go.Bal
open Go Go.Sym
def gD {α : Type} [Inhabited α] (l : List α) (i : Nat) : α := l.getD i default
def OC {α : Type} (n : Nat) (f : Nat -> α) : List α := (List.range n).map f
@[simp] theorem rng_length {α : Type} (n : Nat) (f : Nat -> α) : (OC n f).length = n := by simp [OC]
theorem Rp {α : Type} [Inhabited α] (n : Nat) (f : Nat -> α) (i : Nat) (h : i < n) : gD (OC n f) i = f i := by
 simp [gD, OC, List.getD_eq_getElem?_getD, h]
theorem Eo {α : Type} [Inhabited α] (l : List α) : OC l.length (λ i => gD l i) = l := by
 apply List.ext_getElem
 ·simp
 ·intro i h1 h2
  simp [gD, OC, List.getD_eq_getElem?_getD, h2]
theorem BFF {α : Type} [Inhabited α] {l : List α} {k : Nat} {x : α} (h : k < l.length) (i : Nat) : gD (l.set k x) i = if i = k then x else gD l i := by
 simp only [gD, List.getD_eq_getElem?_getD, List.getElem?_set]
 by_cases hi : i = k
 ·subst hi; simp [h]
 ·rw [if_neg (Ne.symm hi), if_neg hi]
theorem jI {α : Type} [Inhabited α] (l m : List α) (i : Nat) : gD (l ++ m) i = if i < l.length then gD l i else gD m (i - l.length) := by
 simp only [gD, List.getD_eq_getElem?_getD]
 split
 ·rename_i h; rw [List.getElem?_append_left h]
 ·rename_i h; rw [List.getElem?_append_right (by omega)]
theorem BXA {α : Type} [Inhabited α] {l : List α} {k : Nat} (h : k < l.length) : l.drop k = gD l k :: l.drop (k + 1) := by
 rw [List.drop_eq_getElem_cons h]; simp [gD, List.getD_eq_getElem?_getD, h]
structure Span where
 lo : Int
 hi : Int
 deriving Inhabited, DecidableEq
def PT (n : Int) : DVal := .v (.int .i64 n)
def CHY (b : Bool) : DVal := .v (.bool b)
def AUB (s : Span) : DVal := .agg [PT s.lo, PT s.hi]
def lst (k n : Nat) (g : Nat -> DVal) : DVal := .list k n g false
def VG : DVal := .list 0 0 (λ _ => default) true
def JD : DVal -> Int
 | .v (.int _ n) => n
 | _ => 0
def AUG : DVal -> Span
 | .agg [a, b] => ⟨JD a, JD b⟩
 | _ => default
def AI (f : Func) : Code := f.body.getD .skip
@[simp] theorem dInt_eInt (n : Int) : JD (PT n) = n := rfl
@[simp] theorem dSpan_eSpan (s : Span) : AUG (AUB s) = s := rfl
theorem BTP (a b : Int) : AUG (.agg [PT a, PT b]) = Span.mk a b := rfl
def ann (n : Nat) (l : List (FuncId × Sym.Spec)) : Ann := { base := λ id => 1000 * (id + 1), Γ := Sym.look l, E := [], n := n }
def okFn (A : Ann) (fn : Func) (xs : List AVal) (L : List (Nat × AObj)) (keep : List (Nat × HCell)) : Bool :=
 !(fn.name == "runtime.NumGoroutine") && fn.body.isSome && Nat.beq A.n fn.ntmps && Nat.ble xs.length fn.ntmps && A.E == L.map (·.1) && nodup (keep.map (·.1))
theorem LS {n : Int} (h0 : -9223372036854775808 <= n) (h1 : n <= 9223372036854775807) : IntKind.i64.wrap n = n := by
 simp only [IntKind.wrap, IntKind.bits, IntKind.signed]
 rcases Int.lt_or_le n 0 with h | h
 ·have : n % (2 ^ 64 : Int) = n + 2 ^ 64 := by
   rw [<- Int.add_emod_right]; exact Int.emod_eq_of_lt (by omega) (by omega)
  simp only [this]
  rw [if_pos (by simp; omega)]; omega
 ·have : n % (2 ^ 64 : Int) = n := Int.emod_eq_of_lt h (by omega)
  simp only [this]
  rw [if_neg (by simp; omega)]
theorem EQ {a : Nat} (h : a < 9223372036854775807) : IntKind.i64.wrap ((a : Int) + 1) = ((a + 1 : Nat) : Int) := by
 rw [LS (by omega) (by omega)]; rfl
def fY (p : Nat -> Bool) : Nat -> Nat -> Int
 | 0, _ => -1
 | n + 1, k => if p k then k else fY p n (k + 1)
theorem ABP {p : Nat -> Bool} {n k : Nat} (hk : k < n) (h : p k = true) : fY p (n - k) k = k := by
 obtain ⟨m, rfl⟩ : ∃ m, n = k + 1 + m := ⟨n - k - 1, by omega⟩
 rw [show k + 1 + m - k = m + 1 by omega]; simp [fY, h]
theorem AWZ {p : Nat -> Bool} {n k : Nat} (hk : k < n) (h : p k = false) : fY p (n - k) k = fY p (n - (k + 1)) (k + 1) := by
 obtain ⟨m, rfl⟩ : ∃ m, n = k + 1 + m := ⟨n - k - 1, by omega⟩
 rw [show k + 1 + m - k = m + 1 by omega, show k + 1 + m - (k + 1) = m by omega]; simp [fY, h]
theorem AKH {p : Nat -> Bool} {n k : Nat} (hk : n <= k) : fY p (n - k) k = -1 := by
 rw [show n - k = 0 by omega]; rfl
theorem bV {α : Type} [Inhabited α] (l : List α) (x : α) {i : Nat} (hi : i < l.length + 1) : gD (l ++ [x]) i = bif decide (i < l.length) then gD l i else x := by
 rw [jI]
 by_cases h : i < l.length
 ·simp [h]
 ·have : i - l.length = 0 := by omega
  simp only [h, if_false, decide_false, cond_false, this]; rfl
theorem DU {α : Type} [Inhabited α] {l : List α} {k : Nat} (h : k < l.length) : gD l k ∈ l := by
 unfold gD; rw [List.getD_eq_getElem?_getD, List.getElem?_eq_getElem h]; exact List.getElem_mem h
theorem YL {α : Type} [Inhabited α] {l : List α} {x : α} (h : x ∈ l) : ∃ i, i < l.length /\ gD l i = x := by
 obtain ⟨i, hi, rfl⟩ := List.getElem_of_mem h
 exact ⟨i, hi, by simp [gD, List.getD_eq_getElem?_getD, hi]⟩
theorem BPM {α β : Type} [Inhabited α] [Inhabited β] (f : α -> β) {l : List α} {i : Nat} (h : i < l.length) : gD (l.map f) i = f (gD l i) := by
 simp [gD, List.getD_eq_getElem?_getD, h]
def DC (l : List Int) : DVal := lst 1 l.length λ i => PT (gD l i)
def dRow : AVal -> Heap -> Option (Nat × (Nat -> DVal) × List Nat)
 | .d (.list _ n g _), _ => some (n, g, [])
 | .own id _ _ n, H => match H id with
  | .live (.row _ _ g) => some (n, g, [id])
  | _ => none
 | _, _ => none
def AIY (a : AVal) (H : Heap) : Option (List Int × List Nat) := match dRow a H with
 | some (n, g, f) => some (OC n λ i => JD (g i), f)
 | none => none
structure One where
 u : Nat := 0
 deriving Inhabited
end Go.Bal
namespace Go.Bal.DL
open Go.Sym Go
theorem a1 (n : Int) : JD (PT n) = n := rfl
theorem a2 (s : Span) : AUG (AUB s) = s := rfl
theorem b2 (a b : Int) : AUG (.agg [PT a, PT b]) = Span.mk a b := rfl
theorem d1 (s : Span) : Span.mk s.lo s.hi = s := rfl
theorem e1 (n : Nat) : Int.toNat (n : Int) = n := rfl
theorem e2 (n : Nat) : (Int.ofNat n).toNat = n := rfl
end Go.Bal.DL

namespace Go.Bal
open Go Go.Sym Go.Proofs
theorem BAY : Try.prog.follows .mixedOrders = true := by kernel_rfl
theorem Jf {A : Ann} (h : A.iterIn = λ _ _ => none) (h2 : A.iter = λ _ => none) : nT Try.prog A := λ gs g x e => by
 rw [Ann.iterAt, h] at e; simp only [h2] at e; cases e
theorem Lg {A : Ann} {g : FuncId} {fn : Func} {xs : List AVal} {L : List (Nat × AObj)} {val : AVal} {keep : List (Nat × HCell)} {ren : List (Nat × Nat)} {fz : List Nat} (hf : Try.prog.funcs[g]? = some fn) (hok : okFn A fn xs L keep = true)
  (hΓ : GOk Try.prog A.Γ) (h : CH Try.prog A fn (AI fn) xs (AD L) val keep ren fz) (hI : nT Try.prog A := by exact Jf rfl rfl) : FnT Try.prog g xs (AD L) val keep := by
 simp only [okFn, Bool.and_eq_true, Bool.not_eq_true', beq_iff_eq, JX, Nat.ble_eq, Option.isSome_iff_exists] at hok
 obtain ⟨⟨⟨⟨⟨h1, code, h2⟩, h3⟩, h4⟩, h5⟩, h6⟩ := hok
 exact FnT.of_vc hΓ hI BAY hf h1 h2 ⟨h3, h4⟩ h5 h6 (by unfold AI at h; rw [h2] at h; exact h)
theorem fntS {A : Ann} {S : Nat -> Bool} {g : FuncId} {fn : Func} {xs : List AVal} {L : List (Nat × AObj)} {val : AVal} {keep : List (Nat × HCell)} {ren : List (Nat × Nat)} {fz : List Nat} (hf : Try.prog.funcs[g]? = some fn) (hok : okFn A fn xs L keep = true)
  (hΓ : GOk Try.prog A.Γ) (hl : ∀ k, S k = true -> Em Try.prog A S k (stdF Try.prog A S) (AI fn) [] (endQ Try.prog A fn val keep ren fz)) (h : BJV Try.prog A S fn (AI fn) xs (AD L) val keep ren fz) (hI : nT Try.prog A := by exact Jf rfl rfl) : FnT Try.prog g xs (AD L) val keep := by
 simp only [okFn, Bool.and_eq_true, Bool.not_eq_true', beq_iff_eq, JX, Nat.ble_eq, Option.isSome_iff_exists] at hok
 obtain ⟨⟨⟨⟨⟨h1, code, h2⟩, h3⟩, h4⟩, h5⟩, h6⟩ := hok
 refine FnT.of_vcS hΓ hI BAY hf h1 h2 ⟨h3, h4⟩ h5 h6 (S := S) (ren := ren) (fz := fz) (λ k h1 _ => ?_) (by unfold AI at h; rw [h2] at h; exact h)
 have := hl k h1
 unfold AI at this; rw [h2] at this; exact this
theorem BRF {A : Ann} (n0 : FuncId) (x : IterAnn) (h : A.iterIn = λ _ _ => none) (h2 : A.iter = λ g => if g = n0 then some x else none) (hΓ : GOk Try.prog x.ann.Γ) (hf : Try.prog.funcs[n0]? = some x.fn) (hname : (x.fn.name == "runtime.NumGoroutine") = false) (hb : x.fn.body = some x.code) : nT Try.prog A := λ gs g y e => by
 rw [Ann.iterAt, h] at e
 simp only [h2] at e
 split at e
 ·rename_i hg
  cases e; subst hg
  exact ⟨hΓ, AFO hf hname hb, hf, hb⟩
 ·cases e
theorem Ih (C : Ctr) (A : C.α -> Ann) (ren : List (Nat × Nat)) (fz : List Nat) {g : FuncId} {fn : Func} (hf : Try.prog.funcs[g]? = some fn) (hok : ∀ a, okFn (A a) fn (C.xs a) (C.L a) (C.keep a) = true) (hΓ : ∀ a, GOk Try.prog (A a).Γ)
  (h : ∀ a, EG (C.pre a) -> CH Try.prog (A a) fn (AI fn) (C.xs a) (AD (C.L a)) (C.val a) (C.keep a) ren fz) (hI : ∀ a, nT Try.prog (A a)) (dec : List AVal -> Heap -> Option (C.α × List (Nat × Nat) × List Nat)) : AL Try.prog g (C.spec dec) :=
 Ctr.spec_ok (λ a ha => Lg hf (hok a) (hΓ a) (h a ha) (hI a)) dec
theorem okT (C : Ctr) {g : FuncId} (h : ∀ a, EG (C.pre a) -> FnT Try.prog g (C.xs a) (AD (C.L a)) (C.val a) (C.keep a)) (dec : List AVal -> Heap -> Option (C.α × List (Nat × Nat) × List Nat)) : AL Try.prog g (C.spec dec) := Ctr.spec_ok h dec
end Go.Bal

namespace Go.Bal
open Go Go.Sym Go.Proofs
abbrev n_in : FuncId := 35
noncomputable abbrev F_in : Func := Try.f35
theorem CGW : Try.prog.funcs[n_in]? = some F_in := Try.func35
abbrev n_eG : FuncId := 74
noncomputable abbrev F_eG : Func := Try.f74
theorem CAN : Try.prog.funcs[n_eG]? = some F_eG := Try.func74
abbrev n_eI : FuncId := 76
noncomputable abbrev F_eI : Func := Try.f76
theorem CIG : Try.prog.funcs[n_eI]? = some F_eI := Try.func76
abbrev Z7 : FuncId := 94
noncomputable abbrev BAL : Func := Try.f94
theorem BQV : Try.prog.funcs[Z7]? = some BAL := Try.func94
abbrev BBK : FuncId := 96
noncomputable abbrev BQM : Func := Try.f96
theorem CCA : Try.prog.funcs[BBK]? = some BQM := Try.func96
abbrev BAG : FuncId := 93
noncomputable abbrev BCJ : Func := Try.f93
theorem BOO : Try.prog.funcs[BAG]? = some BCJ := Try.func93
abbrev BPO : FuncId := 95
noncomputable abbrev BPE : Func := Try.f95
theorem CCX : Try.prog.funcs[BPO]? = some BPE := Try.func95
abbrev BCG : FuncId := 106
noncomputable abbrev BBP : Func := Try.f106
theorem BSP : Try.prog.funcs[BCG]? = some BBP := Try.func106
abbrev BQT : FuncId := 107
noncomputable abbrev BSV : Func := Try.f107
theorem CCM : Try.prog.funcs[BQT]? = some BSV := Try.func107
abbrev BGO : FuncId := 75
noncomputable abbrev BQL : Func := Try.f75
theorem CEW : Try.prog.funcs[BGO]? = some BQL := Try.func75
abbrev BKD : FuncId := 88
noncomputable abbrev BSS : Func := Try.f88
theorem CBZ : Try.prog.funcs[BKD]? = some BSS := Try.func88
abbrev AZF : FuncId := 64
noncomputable abbrev BRT : Func := Try.f64
theorem CCH : Try.prog.funcs[AZF]? = some BRT := Try.func64
abbrev mR : FuncId := 49
noncomputable abbrev AVL : Func := Try.f49
theorem BOB : Try.prog.funcs[mR]? = some AVL := Try.func49
abbrev AQK : FuncId := 62
noncomputable abbrev AMX : Func := Try.f62
theorem BLJ : Try.prog.funcs[AQK]? = some AMX := Try.func62
abbrev Q3 : FuncId := 109
noncomputable abbrev A3 : Func := Try.f109
theorem BBC : Try.prog.funcs[Q3]? = some A3 := Try.func109
abbrev AKQ : FuncId := 101
noncomputable abbrev AUV : Func := Try.f101
theorem BNA : Try.prog.funcs[AKQ]? = some AUV := Try.func101
abbrev vK : FuncId := 40
noncomputable abbrev AHH : Func := Try.f40
theorem BDG : Try.prog.funcs[vK]? = some AHH := Try.func40
abbrev ATR : FuncId := 83
noncomputable abbrev BRD : Func := Try.f83
theorem CDQ : Try.prog.funcs[ATR]? = some BRD := Try.func83
abbrev vH : FuncId := 130
noncomputable abbrev AII : Func := Try.f130
theorem BFZ : Try.prog.funcs[vH]? = some AII := Try.func130
abbrev ALQ : FuncId := 129
noncomputable abbrev AXN : Func := Try.f129
theorem BPA : Try.prog.funcs[ALQ]? = some AXN := Try.func129
abbrev AXD : FuncId := 57
noncomputable abbrev BDH : Func := Try.f57
theorem BXC : Try.prog.funcs[AXD]? = some BDH := Try.func57
abbrev BGF : FuncId := 82
noncomputable abbrev BDE : Func := Try.f82
theorem BUK : Try.prog.funcs[BGF]? = some BDE := Try.func82
abbrev qL : FuncId := 53
noncomputable abbrev BDF : Func := Try.f53
theorem BUU : Try.prog.funcs[qL]? = some BDF := Try.func53
abbrev AWG : FuncId := 99
noncomputable abbrev AXH : Func := Try.f99
theorem BST : Try.prog.funcs[AWG]? = some AXH := Try.func99
abbrev ADB : FuncId := 81
noncomputable abbrev BGK : Func := Try.f81
theorem BUT : Try.prog.funcs[ADB]? = some BGK := Try.func81
abbrev BDL : FuncId := 100
noncomputable abbrev BDD : Func := Try.f100
theorem BXX : Try.prog.funcs[BDL]? = some BDD := Try.func100
abbrev AKV : FuncId := 48
noncomputable abbrev AXY : Func := Try.f48
theorem BQU : Try.prog.funcs[AKV]? = some AXY := Try.func48
abbrev X5 : FuncId := 58
noncomputable abbrev APE : Func := Try.f58
theorem BKR : Try.prog.funcs[X5]? = some APE := Try.func58
abbrev oU : FuncId := 67
noncomputable abbrev AWQ : Func := Try.f67
theorem BPT : Try.prog.funcs[oU]? = some AWQ := Try.func67
abbrev ANP : FuncId := 68
noncomputable abbrev BGM : Func := Try.f68
theorem BXK : Try.prog.funcs[ANP]? = some BGM := Try.func68
abbrev AXA : FuncId := 90
noncomputable abbrev ANE : Func := Try.f90
theorem BGS : Try.prog.funcs[AXA]? = some ANE := Try.func90
abbrev AQJ : FuncId := 103
noncomputable abbrev ALY : Func := Try.f103
theorem BHS : Try.prog.funcs[AQJ]? = some ALY := Try.func103
abbrev uM : FuncId := 65
noncomputable abbrev AGC : Func := Try.f65
theorem BFD : Try.prog.funcs[uM]? = some AGC := Try.func65
abbrev ZW : FuncId := 89
noncomputable abbrev Xv : Func := Try.f89
theorem rK : Try.prog.funcs[ZW]? = some Xv := Try.func89
abbrev gS : FuncId := 66
noncomputable abbrev AFH : Func := Try.f66
theorem BDX : Try.prog.funcs[gS]? = some AFH := Try.func66
abbrev AIJ : FuncId := 56
noncomputable abbrev BFH : Func := Try.f56
theorem BVI : Try.prog.funcs[AIJ]? = some BFH := Try.func56
abbrev Sb : FuncId := 34
noncomputable abbrev tN : Func := Try.f34
theorem AUL : Try.prog.funcs[Sb]? = some tN := Try.func34
abbrev AAY : FuncId := 55
noncomputable abbrev ARL : Func := Try.f55
theorem BLB : Try.prog.funcs[AAY]? = some ARL := Try.func55
abbrev AIM : FuncId := 27
noncomputable abbrev gW : Func := Try.f27
theorem AQO : Try.prog.funcs[AIM]? = some gW := Try.func27
abbrev Vp : FuncId := 54
noncomputable abbrev AQG : Func := Try.f54
theorem BMD : Try.prog.funcs[Vp]? = some AQG := Try.func54
abbrev uG : FuncId := 50
noncomputable abbrev AVP : Func := Try.f50
theorem BPH : Try.prog.funcs[uG]? = some AVP := Try.func50
abbrev ACA : FuncId := 77
noncomputable abbrev ARK : Func := Try.f77
theorem BKZ : Try.prog.funcs[ACA]? = some ARK := Try.func77
abbrev jK : FuncId := 79
noncomputable abbrev ANK : Func := Try.f79
theorem BLV : Try.prog.funcs[jK]? = some ANK := Try.func79
abbrev AMU : FuncId := 78
noncomputable abbrev AOL : Func := Try.f78
theorem BKL : Try.prog.funcs[AMU]? = some AOL := Try.func78
abbrev AYQ : FuncId := 28
noncomputable abbrev BGD : Func := Try.f28
theorem BVP : Try.prog.funcs[AYQ]? = some BGD := Try.func28
abbrev XN : FuncId := 47
noncomputable abbrev sC : Func := Try.f47
theorem ASG : Try.prog.funcs[XN]? = some sC := Try.func47
abbrev Qk : FuncId := 71
noncomputable abbrev AFI : Func := Try.f71
theorem BCW : Try.prog.funcs[Qk]? = some AFI := Try.func71
abbrev ACX : FuncId := 72
noncomputable abbrev AFV : Func := Try.f72
theorem BCZ : Try.prog.funcs[ACX]? = some AFV := Try.func72
abbrev BOH : FuncId := 70
noncomputable abbrev BUB : Func := Try.f70
theorem CBV : Try.prog.funcs[BOH]? = some BUB := Try.func70
abbrev BJO : FuncId := 91
noncomputable abbrev BMJ : Func := Try.f91
theorem CDV : Try.prog.funcs[BJO]? = some BMJ := Try.func91
abbrev AYS : FuncId := 104
noncomputable abbrev BEJ : Func := Try.f104
theorem BXS : Try.prog.funcs[AYS]? = some BEJ := Try.func104
abbrev ASZ : FuncId := 51
noncomputable abbrev BBV : Func := Try.f51
theorem BOM : Try.prog.funcs[ASZ]? = some BBV := Try.func51
abbrev ASQ : FuncId := 80
noncomputable abbrev BAT : Func := Try.f80
theorem BPP : Try.prog.funcs[ASQ]? = some BAT := Try.func80
abbrev AHN : FuncId := 97
noncomputable abbrev AMP : Func := Try.f97
theorem BHV : Try.prog.funcs[AHN]? = some AMP := Try.func97
abbrev AFE : FuncId := 73
noncomputable abbrev AGS : Func := Try.f73
theorem BFO : Try.prog.funcs[AFE]? = some AGS := Try.func73
abbrev kK : FuncId := 92
noncomputable abbrev D4 : Func := Try.f92
theorem AZP : Try.prog.funcs[kK]? = some D4 := Try.func92
abbrev APX : FuncId := 22
noncomputable abbrev BFN : Func := Try.f22
theorem BIE : Try.prog.funcs[APX]? = some BFN := Try.func22
abbrev uE : FuncId := 25
noncomputable abbrev lD : Func := Try.f25
theorem APH : Try.prog.funcs[uE]? = some lD := Try.func25
abbrev AAX : FuncId := 26
noncomputable abbrev tD : Func := Try.f26
theorem ATJ : Try.prog.funcs[AAX]? = some tD := Try.func26
abbrev VP : FuncId := 52
noncomputable abbrev AGH : Func := Try.f52
theorem BFX : Try.prog.funcs[VP]? = some AGH := Try.func52
abbrev BDR : FuncId := 59
noncomputable abbrev BCT : Func := Try.f59
theorem BVJ : Try.prog.funcs[BDR]? = some BCT := Try.func59
abbrev ZH : FuncId := 84
noncomputable abbrev AYB : Func := Try.f84
theorem BSB : Try.prog.funcs[ZH]? = some AYB := Try.func84
abbrev BFC : FuncId := 60
noncomputable abbrev BDQ : Func := Try.f60
theorem BVO : Try.prog.funcs[BFC]? = some BDQ := Try.func60
abbrev ZM : FuncId := 85
noncomputable abbrev AXP : Func := Try.f85
theorem BUA : Try.prog.funcs[ZM]? = some AXP := Try.func85
abbrev Y0 : FuncId := 36
noncomputable abbrev AAA : Func := Try.f36
theorem BAI : Try.prog.funcs[Y0]? = some AAA := Try.func36
abbrev ALH : FuncId := 69
noncomputable abbrev X1 : Func := Try.f69
theorem BBH : Try.prog.funcs[ALH]? = some X1 := Try.func69
abbrev AWY : FuncId := 61
noncomputable abbrev APK : Func := Try.f61
theorem BIT : Try.prog.funcs[AWY]? = some APK := Try.func61
abbrev Xo : FuncId := 33
noncomputable abbrev ARB : Func := Try.f33
theorem BKU : Try.prog.funcs[Xo]? = some ARB := Try.func33
abbrev bA : FuncId := 32
noncomputable abbrev Xs : Func := Try.f32
theorem ACH : Try.prog.funcs[bA]? = some Xs := Try.func32
abbrev BFS : FuncId := 12
noncomputable abbrev J6 : Func := Try.f12
theorem AVE : Try.prog.funcs[BFS]? = some J6 := Try.func12
abbrev AOC : FuncId := 37
noncomputable abbrev BEA : Func := Try.f37
theorem BVK : Try.prog.funcs[AOC]? = some BEA := Try.func37
abbrev J5 : FuncId := 38
noncomputable abbrev mO : Func := Try.f38
theorem AKU : Try.prog.funcs[J5]? = some mO := Try.func38
abbrev AOZ : FuncId := 15
noncomputable abbrev tI : Func := Try.f15
theorem ATB : Try.prog.funcs[AOZ]? = some tI := Try.func15
abbrev QN : FuncId := 39
noncomputable abbrev AEH : Func := Try.f39
theorem BDK : Try.prog.funcs[QN]? = some AEH := Try.func39
abbrev QM : FuncId := 41
noncomputable abbrev AGT : Func := Try.f41
theorem BER : Try.prog.funcs[QM]? = some AGT := Try.func41
abbrev BTR : FuncId := 16
noncomputable abbrev BAP : Func := Try.f16
theorem BQR : Try.prog.funcs[BTR]? = some BAP := Try.func16
abbrev AEQ : FuncId := 42
noncomputable abbrev BFU : Func := Try.f42
theorem BVG : Try.prog.funcs[AEQ]? = some BFU := Try.func42
abbrev Pc : FuncId := 43
noncomputable abbrev BDS : Func := Try.f43
theorem BXP : Try.prog.funcs[Pc]? = some BDS := Try.func43
abbrev Oq : FuncId := 44
noncomputable abbrev BFQ : Func := Try.f44
theorem BWV : Try.prog.funcs[Oq]? = some BFQ := Try.func44
-- none: nilometer/rating.Widest
abbrev BEY : FuncId := 9
noncomputable abbrev BFL : Func := Try.f9
theorem BXW : Try.prog.funcs[BEY]? = some BFL := Try.func9
abbrev BPQ : FuncId := 10
noncomputable abbrev BOV : Func := Try.f10
theorem CDM : Try.prog.funcs[BPQ]? = some BOV := Try.func10
abbrev AOX : FuncId := 20
noncomputable abbrev BEL : Func := Try.f20
theorem BVS : Try.prog.funcs[AOX]? = some BEL := Try.func20
abbrev AAS : FuncId := 24
noncomputable abbrev AOP : Func := Try.f24
theorem BLX : Try.prog.funcs[AAS]? = some AOP := Try.func24
abbrev AWR : FuncId := 19
noncomputable abbrev ABH : Func := Try.f19
theorem AZD : Try.prog.funcs[AWR]? = some ABH := Try.func19
-- none: nilometer/nilometerkit.Copy[nilometer/rating.Line]
abbrev BYF : FuncId := 14
noncomputable abbrev BHE : Func := Try.f13
abbrev AUO : FuncId := 17
noncomputable abbrev AVV : Func := Try.f17
theorem BQF : Try.prog.funcs[AUO]? = some AVV := Try.func17
abbrev AVH : FuncId := 45
noncomputable abbrev AWC : Func := Try.f45
theorem BOW : Try.prog.funcs[AVH]? = some AWC := Try.func45
abbrev zO : FuncId := 46
noncomputable abbrev G0 : Func := Try.f46
theorem AYU : Try.prog.funcs[zO]? = some G0 := Try.func46
abbrev ATL : FuncId := 6
noncomputable abbrev Vf : Func := Try.f6
theorem AMZ : Try.prog.funcs[ATL]? = some Vf := Try.func6
end Go.Bal
