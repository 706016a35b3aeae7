/- Data, and how they read. -/
import Derived.Test.YtdbjalgfomknhaaGreatSym11
import Derived.KernelRfl
import Derived.Test.YtdbjalgfomknhaaGreatProg
set_option linter.unusedVariables false
set_option linter.unusedSimpArgs false
namespace Go.Bal
open Go Go.Sym
def gD {α : Type} [Inhabited α] (l : List α) (i : Nat) : α := l.getD i default
def ME {α : Type} (n : Nat) (f : Nat -> α) : List α := (List.range n).map f
@[simp] theorem rng_length {α : Type} (n : Nat) (f : Nat -> α) : (ME n f).length = n := by simp [ME]
theorem KL {α : Type} [Inhabited α] (n : Nat) (f : Nat -> α) (i : Nat) (h : i < n) : gD (ME n f) i = f i := by
 simp [gD, ME, List.getD_eq_getElem?_getD, h]
theorem WA {α : Type} [Inhabited α] (l : List α) : ME l.length (λ i => gD l i) = l := by
 apply List.ext_getElem
 ·simp
 ·intro i h1 h2
  simp [gD, ME, List.getD_eq_getElem?_getD, h2]
theorem Nw {α : Type} [Inhabited α] (l m : List α) (i : Nat) : gD (l ++ m) i = if i < l.length then gD l i else gD m (i - l.length) := by
 simp only [gD, List.getD_eq_getElem?_getD]
 split
 ·rename_i h; rw [List.getElem?_append_left h]
 ·rename_i h; rw [List.getElem?_append_right (by omega)]
theorem AAA {α : Type} [Inhabited α] {l : List α} {k : Nat} (h : k < l.length) : l.drop k = gD l k :: l.drop (k + 1) := by
 rw [List.drop_eq_getElem_cons h]; simp [gD, List.getD_eq_getElem?_getD, h]
theorem BIT {α : Type} [Inhabited α] {l m : List α} (hl : l.length = m.length) (h : ∀ i, i < l.length -> gD l i = gD m i) : l = m := by
 apply List.ext_getElem hl
 intro i h1 h2
 have := h i h1
 simpa [gD, List.getD_eq_getElem?_getD, h1, h2] using this
structure Span where
 lo : Int
 hi : Int
 deriving Inhabited, DecidableEq
def UH (n : Int) : DVal := .v (.int .i64 n)
def IK (s : Span) : DVal := .agg [UH s.lo, UH s.hi]
def lst (k n : Nat) (g : Nat -> DVal) : DVal := .list k n g false
def Ou : DVal := .list 0 0 (λ _ => default) true
def HJ : DVal -> Int
 | .v (.int _ n) => n
 | _ => 0
def CAW : DVal -> Bool
 | .v (.bool b) => b
 | _ => false
def La : DVal -> Span
 | .agg [a, b] => ⟨HJ a, HJ b⟩
 | _ => default
def AH (f : Func) : Code := f.body.getD .skip
@[simp] theorem dInt_eInt (n : Int) : HJ (UH n) = n := rfl
@[simp] theorem dSpan_eSpan (s : Span) : La (IK s) = s := rfl
theorem BIA (a b : Int) : La (.agg [UH a, UH b]) = Span.mk a b := rfl
def ann (n : Nat) (l : List (FuncId × Sym.Spec)) : Ann := { base := λ id => 1000 * (id + 1), Γ := Sym.look l, E := [], n := n }
def okFn (A : Ann) (fn : Func) (xs : List AVal) (L : List (Nat × AObj)) (keep : List (Nat × HCell)) : Bool :=
 !(fn.name == "runtime.NumGoroutine") && fn.body.isSome && Nat.beq A.n fn.ntmps && Nat.ble xs.length fn.ntmps && A.E == L.map (·.1) && nodup (keep.map (·.1))
theorem TC {n : Int} (h0 : -9223372036854775808 <= n) (h1 : n <= 9223372036854775807) : IntKind.i64.wrap n = n := by
 simp only [IntKind.wrap, IntKind.bits, IntKind.signed]
 rcases Int.lt_or_le n 0 with h | h
 ·have : n % (2 ^ 64 : Int) = n + 2 ^ 64 := by
   rw [<- Int.add_emod_right]; exact Int.emod_eq_of_lt (by omega) (by omega)
  simp only [this]
  rw [if_pos (by simp; omega)]; omega
 ·have : n % (2 ^ 64 : Int) = n := Int.emod_eq_of_lt h (by omega)
  simp only [this]
  rw [if_neg (by simp; omega)]
theorem HL {a : Nat} (h : a < 9223372036854775807) : IntKind.i64.wrap ((a : Int) + 1) = ((a + 1 : Nat) : Int) := by
 rw [TC (by omega) (by omega)]; rfl
def aN (p : Nat -> Bool) : Nat -> Nat -> Int
 | 0, _ => -1
 | n + 1, k => if p k then k else aN p n (k + 1)
theorem jI {p : Nat -> Bool} {n k : Nat} (hk : k < n) (h : p k = true) : aN p (n - k) k = k := by
 obtain ⟨m, rfl⟩ : ∃ m, n = k + 1 + m := ⟨n - k - 1, by omega⟩
 rw [show k + 1 + m - k = m + 1 by omega]; simp [aN, h]
theorem ADT {p : Nat -> Bool} {n k : Nat} (hk : k < n) (h : p k = false) : aN p (n - k) k = aN p (n - (k + 1)) (k + 1) := by
 obtain ⟨m, rfl⟩ : ∃ m, n = k + 1 + m := ⟨n - k - 1, by omega⟩
 rw [show k + 1 + m - k = m + 1 by omega, show k + 1 + m - (k + 1) = m by omega]; simp [aN, h]
theorem wD {p : Nat -> Bool} {n k : Nat} (hk : n <= k) : aN p (n - k) k = -1 := by
 rw [show n - k = 0 by omega]; rfl
theorem HW {α : Type} [Inhabited α] {l : List α} {k : Nat} (h : k < l.length) : gD l k ∈ l := by
 unfold gD; rw [List.getD_eq_getElem?_getD, List.getElem?_eq_getElem h]; exact List.getElem_mem h
theorem OV {α : Type} [Inhabited α] {l : List α} {x : α} (h : x ∈ l) : ∃ i, i < l.length /\ gD l i = x := by
 obtain ⟨i, hi, rfl⟩ := List.getElem_of_mem h
 exact ⟨i, hi, by simp [gD, List.getD_eq_getElem?_getD, hi]⟩
theorem ATW {α β : Type} [Inhabited α] [Inhabited β] (f : α -> β) {l : List α} {i : Nat} (h : i < l.length) : gD (l.map f) i = f (gD l i) := by
 simp [gD, List.getD_eq_getElem?_getD, h]
def PH (l : List Int) : DVal := lst 1 l.length λ i => UH (gD l i)
def xU : AVal -> Heap -> Option (Nat × (Nat -> DVal) × List Nat)
 | .d (.list _ n g _), _ => some (n, g, [])
 | .own id _ _ n, H => match H id with
  | .live (.row _ _ g) => some (n, g, [id])
  | _ => none
 | _, _ => none
def ACO (a : AVal) (H : Heap) : Option (List Int × List Nat) := match xU a H with
 | some (n, g, f) => some (ME n λ i => HJ (g i), f)
 | none => none
structure One where
 u : Nat := 0
 deriving Inhabited
end Go.Bal
namespace Go.Bal.DL
open Go.Sym Go
theorem a1 (n : Int) : HJ (UH n) = n := rfl
theorem a2 (s : Span) : La (IK s) = s := rfl
theorem a7 (n : Int) : HJ (.v (.int .i64 n)) = n := rfl
theorem b2 (a b : Int) : La (.agg [UH a, UH b]) = Span.mk a b := rfl
theorem d1 (s : Span) : Span.mk s.lo s.hi = s := rfl
theorem e1 (n : Nat) : Int.toNat (n : Int) = n := rfl
theorem e2 (n : Nat) : (Int.ofNat n).toNat = n := rfl
end Go.Bal.DL

namespace Go.Proofs.Try
open Go
noncomputable abbrev prog : Program := Go.Proofs.Tryz.prog
end Go.Proofs.Try
namespace Go.Bal
open Go Go.Sym Go.Proofs
theorem AZE : Try.prog.follows .mixedOrders = true := by kernel_rfl
theorem WY {A : Ann} (h : A.iterIn = λ _ _ => none) (h2 : A.iter = λ _ => none) : N8 Try.prog A := λ gs g x e => by
 rw [Ann.iterAt, h] at e; simp only [h2] at e; cases e
theorem Pn {A : Ann} {g : FuncId} {fn : Func} {xs : List AVal} {L : List (Nat × AObj)} {val : AVal} {keep : List (Nat × HCell)} {ren : List (Nat × Nat)} {fz : List Nat} (hf : Try.prog.funcs[g]? = some fn) (hok : okFn A fn xs L keep = true)
  (hΓ : GOk Try.prog A.Γ) (h : CF Try.prog A fn (AH fn) xs (AB L) val keep ren fz) (hI : N8 Try.prog A := by exact WY rfl rfl) : FnT Try.prog g xs (AB L) val keep := by
 simp only [okFn, Bool.and_eq_true, Bool.not_eq_true', beq_iff_eq, NN, Nat.ble_eq, Option.isSome_iff_exists] at hok
 obtain ⟨⟨⟨⟨⟨h1, code, h2⟩, h3⟩, h4⟩, h5⟩, h6⟩ := hok
 exact FnT.of_vc hΓ hI AZE hf h1 h2 ⟨h3, h4⟩ h5 h6 (by unfold AH at h; rw [h2] at h; exact h)
theorem BQV {A : Ann} (n0 : FuncId) (x : IterAnn) (h : A.iterIn = λ _ _ => none) (h2 : A.iter = λ g => if g = n0 then some x else none) (hΓ : GOk Try.prog x.ann.Γ) (hf : Try.prog.funcs[n0]? = some x.fn) (hname : (x.fn.name == "runtime.NumGoroutine") = false) (hb : x.fn.body = some x.code) : N8 Try.prog A := λ gs g y e => by
 rw [Ann.iterAt, h] at e
 simp only [h2] at e
 split at e
 ·rename_i hg
  cases e; subst hg
  exact ⟨hΓ, AJX hf hname hb, hf, hb⟩
 ·cases e
theorem VV (C : Ctr) (A : C.α -> Ann) (ren : List (Nat × Nat)) (fz : List Nat) {g : FuncId} {fn : Func} (hf : Try.prog.funcs[g]? = some fn) (hok : ∀ a, okFn (A a) fn (C.xs a) (C.L a) (C.keep a) = true) (hΓ : ∀ a, GOk Try.prog (A a).Γ)
  (h : ∀ a, EM (C.pre a) -> CF Try.prog (A a) fn (AH fn) (C.xs a) (AB (C.L a)) (C.val a) (C.keep a) ren fz) (hI : ∀ a, N8 Try.prog (A a)) (dec : List AVal -> Heap -> Option (C.α × List (Nat × Nat) × List Nat)) : AK Try.prog g (C.spec dec) :=
 Ctr.spec_ok (λ a ha => Pn hf (hok a) (hΓ a) (h a ha) (hI a)) dec
theorem okT (C : Ctr) {g : FuncId} (h : ∀ a, EM (C.pre a) -> FnT Try.prog g (C.xs a) (AB (C.L a)) (C.val a) (C.keep a)) (dec : List AVal -> Heap -> Option (C.α × List (Nat × Nat) × List Nat)) : AK Try.prog g (C.spec dec) := Ctr.spec_ok h dec
end Go.Bal

namespace Go.Bal
open Go Go.Sym Go.Proofs
abbrev ARU : FuncId := 4
noncomputable abbrev AHD : Func := Tryz.f4
theorem BBT : Try.prog.funcs[ARU]? = some AHD := Tryz.func4
abbrev APG : FuncId := 38
noncomputable abbrev zQ : Func := Tryz.f38
theorem AQY : Try.prog.funcs[APG]? = some zQ := Tryz.func38
abbrev AAL : FuncId := 23
noncomputable abbrev APP : Func := Tryz.f23
theorem BDT : Try.prog.funcs[AAL]? = some APP := Tryz.func23
abbrev ATV : FuncId := 9
noncomputable abbrev AVP : Func := Tryz.f9
theorem BPK : Try.prog.funcs[ATV]? = some AVP := Tryz.func9
abbrev ANI : FuncId := 12
noncomputable abbrev yI : Func := Tryz.f12
theorem ARC : Try.prog.funcs[ANI]? = some yI := Tryz.func12
abbrev ALV : FuncId := 8
noncomputable abbrev AOH : Func := Tryz.f8
theorem BGK : Try.prog.funcs[ALV]? = some AOH := Tryz.func8
abbrev AGR : FuncId := 33
noncomputable abbrev jX : Func := Tryz.f33
theorem AKL : Try.prog.funcs[AGR]? = some jX := Tryz.func33
abbrev AWU : FuncId := 14
noncomputable abbrev ACM : Func := Tryz.f14
theorem AXV : Try.prog.funcs[AWU]? = some ACM := Tryz.func14
abbrev APM : FuncId := 16
noncomputable abbrev wW : Func := Tryz.f16
theorem ASK : Try.prog.funcs[APM]? = some wW := Tryz.func16
abbrev AMK : FuncId := 35
noncomputable abbrev ANK : Func := Tryz.f35
theorem BGD : Try.prog.funcs[AMK]? = some ANK := Tryz.func35
abbrev AAM : FuncId := 25
noncomputable abbrev AOG : Func := Tryz.f25
theorem BFW : Try.prog.funcs[AAM]? = some AOG := Tryz.func25
abbrev zH : FuncId := 29
noncomputable abbrev lS : Func := Tryz.f29
theorem AJU : Try.prog.funcs[zH]? = some lS := Tryz.func29
abbrev AUH : FuncId := 21
noncomputable abbrev ABM : Func := Tryz.f21
theorem BAX : Try.prog.funcs[AUH]? = some ABM := Tryz.func21
abbrev Ux : FuncId := 45
noncomputable abbrev sU : Func := Tryz.f45
theorem ALP : Try.prog.funcs[Ux]? = some sU := Tryz.func45
abbrev ACI : FuncId := 67
noncomputable abbrev Vs : Func := Tryz.f67
theorem A0 : Try.prog.funcs[ACI]? = some Vs := Tryz.func67
abbrev APD : FuncId := 43
noncomputable abbrev ANU : Func := Tryz.f43
theorem BIB : Try.prog.funcs[APD]? = some ANU := Tryz.func43
abbrev ALZ : FuncId := 44
noncomputable abbrev APT : Func := Tryz.f44
theorem BHP : Try.prog.funcs[ALZ]? = some APT := Tryz.func44
abbrev AOC : FuncId := 20
noncomputable abbrev AMJ : Func := Tryz.f20
theorem BKG : Try.prog.funcs[AOC]? = some AMJ := Tryz.func20
abbrev N7 : FuncId := 46
noncomputable abbrev AXE : Func := Tryz.f46
theorem BOH : Try.prog.funcs[N7]? = some AXE := Tryz.func46
abbrev n_in : FuncId := 47
noncomputable abbrev F_in : Func := Tryz.f47
theorem CCE : Try.prog.funcs[n_in]? = some F_in := Tryz.func47
abbrev AOM : FuncId := 48
noncomputable abbrev ATM : Func := Tryz.f48
theorem BMT : Try.prog.funcs[AOM]? = some ATM := Tryz.func48
abbrev Vv : FuncId := 49
noncomputable abbrev tX : Func := Tryz.f49
theorem ARH : Try.prog.funcs[Vv]? = some tX := Tryz.func49
abbrev zL : FuncId := 50
noncomputable abbrev AEP : Func := Tryz.f50
theorem BBE : Try.prog.funcs[zL]? = some AEP := Tryz.func50
abbrev xX : FuncId := 51
noncomputable abbrev AOJ : Func := Tryz.f51
theorem BDM : Try.prog.funcs[xX]? = some AOJ := Tryz.func51
abbrev BEE : FuncId := 42
noncomputable abbrev BHJ : Func := Tryz.f42
theorem BXP : Try.prog.funcs[BEE]? = some BHJ := Tryz.func42
abbrev AAN : FuncId := 30
noncomputable abbrev AOW : Func := Tryz.f30
theorem BDG : Try.prog.funcs[AAN]? = some AOW := Tryz.func30
abbrev Z6 : FuncId := 60
noncomputable abbrev ANZ : Func := Tryz.f60
theorem BHN : Try.prog.funcs[Z6]? = some ANZ := Tryz.func60
abbrev Z0 : FuncId := 61
noncomputable abbrev ANY : Func := Tryz.f61
theorem BES : Try.prog.funcs[Z0]? = some ANY := Tryz.func61
abbrev UF : FuncId := 62
noncomputable abbrev kB : Func := Tryz.f62
theorem AKH : Try.prog.funcs[UF]? = some kB := Tryz.func62
abbrev AQI : FuncId := 79
noncomputable abbrev BLF : Func := Tryz.f79
theorem BYN : Try.prog.funcs[AQI]? = some BLF := Tryz.func79
abbrev AID : FuncId := 56
noncomputable abbrev AGG : Func := Tryz.f56
theorem BCR : Try.prog.funcs[AID]? = some AGG := Tryz.func56
abbrev AOL : FuncId := 57
noncomputable abbrev AMX : Func := Tryz.f57
theorem BKL : Try.prog.funcs[AOL]? = some AMX := Tryz.func57
abbrev hZ : FuncId := 58
noncomputable abbrev Xn : Func := Tryz.f58
theorem W0 : Try.prog.funcs[hZ]? = some Xn := Tryz.func58
abbrev AVK : FuncId := 59
noncomputable abbrev AXD : Func := Tryz.f59
theorem BNM : Try.prog.funcs[AVK]? = some AXD := Tryz.func59
abbrev n_eP : FuncId := 71
noncomputable abbrev F_eP : Func := Tryz.f71
theorem BZO : Try.prog.funcs[n_eP]? = some F_eP := Tryz.func71
abbrev ACF : FuncId := 63
noncomputable abbrev AUW : Func := Tryz.f63
theorem BPP : Try.prog.funcs[ACF]? = some AUW := Tryz.func63
abbrev ABB : FuncId := 64
noncomputable abbrev AUR : Func := Tryz.f64
theorem BOE : Try.prog.funcs[ABB]? = some AUR := Tryz.func64
abbrev yR : FuncId := 80
noncomputable abbrev xS : Func := Tryz.f80
theorem AQQ : Try.prog.funcs[yR]? = some xS := Tryz.func80
abbrev AOB : FuncId := 83
noncomputable abbrev AQD : Func := Tryz.f83
theorem BLJ : Try.prog.funcs[AOB]? = some AQD := Tryz.func83
abbrev ABV : FuncId := 84
noncomputable abbrev ADI : Func := Tryz.f84
theorem BBW : Try.prog.funcs[ABV]? = some ADI := Tryz.func84
abbrev zN : FuncId := 87
noncomputable abbrev ALE : Func := Tryz.f87
theorem BHX : Try.prog.funcs[zN]? = some ALE := Tryz.func87
abbrev yS : FuncId := 88
noncomputable abbrev ACZ : Func := Tryz.f88
theorem BBD : Try.prog.funcs[yS]? = some ACZ := Tryz.func88
abbrev zO : FuncId := 97
noncomputable abbrev gS : Func := Tryz.f97
theorem AFE : Try.prog.funcs[zO]? = some gS := Tryz.func97
abbrev WS : FuncId := 98
noncomputable abbrev AWP : Func := Tryz.f98
theorem BNK : Try.prog.funcs[WS]? = some AWP := Tryz.func98
abbrev AVR : FuncId := 99
noncomputable abbrev ATL : Func := Tryz.f99
theorem BNQ : Try.prog.funcs[AVR]? = some ATL := Tryz.func99
abbrev AEN : FuncId := 100
noncomputable abbrev AWR : Func := Tryz.f100
theorem BPN : Try.prog.funcs[AEN]? = some AWR := Tryz.func100
abbrev mW : FuncId := 90
noncomputable abbrev zB : Func := Tryz.f90
theorem ARE : Try.prog.funcs[mW]? = some zB := Tryz.func90
abbrev yO : FuncId := 91
noncomputable abbrev AIA : Func := Tryz.f91
theorem BBL : Try.prog.funcs[yO]? = some AIA := Tryz.func91
abbrev O9 : FuncId := 92
noncomputable abbrev AUZ : Func := Tryz.f92
theorem BNZ : Try.prog.funcs[O9]? = some AUZ := Tryz.func92
abbrev n_eS : FuncId := 93
noncomputable abbrev F_eS : Func := Tryz.f93
theorem BSO : Try.prog.funcs[n_eS]? = some F_eS := Tryz.func93
abbrev AQC : FuncId := 94
noncomputable abbrev AWM : Func := Tryz.f94
theorem BOA : Try.prog.funcs[AQC]? = some AWM := Tryz.func94
abbrev ALR : FuncId := 31
noncomputable abbrev ALT : Func := Tryz.f31
theorem BDH : Try.prog.funcs[ALR]? = some ALT := Tryz.func31
abbrev ANT : FuncId := 105
noncomputable abbrev AWN : Func := Tryz.f105
theorem BPX : Try.prog.funcs[ANT]? = some AWN := Tryz.func105
abbrev Vo : FuncId := 95
noncomputable abbrev AEV : Func := Tryz.f95
theorem BBG : Try.prog.funcs[Vo]? = some AEV := Tryz.func95
abbrev dI : FuncId := 96
noncomputable abbrev APX : Func := Tryz.f96
theorem BIG : Try.prog.funcs[dI]? = some APX := Tryz.func96
abbrev BEP : FuncId := 101
noncomputable abbrev BHC : Func := Tryz.f101
theorem BUX : Try.prog.funcs[BEP]? = some BHC := Tryz.func101
abbrev ARO : FuncId := 102
noncomputable abbrev BGZ : Func := Tryz.f102
theorem BXJ : Try.prog.funcs[ARO]? = some BGZ := Tryz.func102
abbrev AVT : FuncId := 108
noncomputable abbrev AWX : Func := Tryz.f108
theorem BPG : Try.prog.funcs[AVT]? = some AWX := Tryz.func108
abbrev X7 : FuncId := 112
noncomputable abbrev AFC : Func := Tryz.f112
theorem ATR : Try.prog.funcs[X7]? = some AFC := Tryz.func112
abbrev lK : FuncId := 113
noncomputable abbrev ACX : Func := Tryz.f113
theorem BAP : Try.prog.funcs[lK]? = some ACX := Tryz.func113
abbrev ANJ : FuncId := 114
noncomputable abbrev AVS : Func := Tryz.f114
theorem BND : Try.prog.funcs[ANJ]? = some AVS := Tryz.func114
abbrev ASS : FuncId := 110
noncomputable abbrev ASJ : Func := Tryz.f110
theorem BJZ : Try.prog.funcs[ASS]? = some ASJ := Tryz.func110
abbrev zA : FuncId := 111
noncomputable abbrev AQX : Func := Tryz.f111
theorem BFO : Try.prog.funcs[zA]? = some AQX := Tryz.func111
abbrev bL : FuncId := 72
noncomputable abbrev A5 : Func := Tryz.f72
theorem AWK : Try.prog.funcs[bL]? = some A5 := Tryz.func72
abbrev n_eN : FuncId := 73
noncomputable abbrev F_eN : Func := Tryz.f73
theorem BZC : Try.prog.funcs[n_eN]? = some F_eN := Tryz.func73
abbrev wH : FuncId := 74
noncomputable abbrev AFV : Func := Tryz.f74
theorem BBX : Try.prog.funcs[wH]? = some AFV := Tryz.func74
abbrev AKS : FuncId := 75
noncomputable abbrev AOR : Func := Tryz.f75
theorem BJA : Try.prog.funcs[AKS]? = some AOR := Tryz.func75
abbrev AQH : FuncId := 76
noncomputable abbrev ARR : Func := Tryz.f76
theorem BKR : Try.prog.funcs[AQH]? = some ARR := Tryz.func76
abbrev lC : FuncId := 77
noncomputable abbrev AFF : Func := Tryz.f77
theorem BBJ : Try.prog.funcs[lC]? = some AFF := Tryz.func77
abbrev BIR : FuncId := 115
noncomputable abbrev BHU : Func := Tryz.f115
theorem BVC : Try.prog.funcs[BIR]? = some BHU := Tryz.func115
abbrev AVQ : FuncId := 117
noncomputable abbrev AWY : Func := Tryz.f117
theorem BMS : Try.prog.funcs[AVQ]? = some AWY := Tryz.func117
abbrev L6 : FuncId := 119
noncomputable abbrev AHZ : Func := Tryz.f119
theorem AZF : Try.prog.funcs[L6]? = some AHZ := Tryz.func119
abbrev AEO : FuncId := 121
noncomputable abbrev AGE : Func := Tryz.f121
theorem BBU : Try.prog.funcs[AEO]? = some AGE := Tryz.func121
abbrev AEW : FuncId := 122
noncomputable abbrev ADB : Func := Tryz.f122
theorem BBR : Try.prog.funcs[AEW]? = some ADB := Tryz.func122
abbrev N3 : FuncId := 124
noncomputable abbrev F3 : Func := Tryz.f124
theorem ATU : Try.prog.funcs[N3]? = some F3 := Tryz.func124
abbrev APB : FuncId := 126
noncomputable abbrev ANQ : Func := Tryz.f126
theorem BKD : Try.prog.funcs[APB]? = some ANQ := Tryz.func126
abbrev Vd : FuncId := 128
noncomputable abbrev mG : Func := Tryz.f128
theorem AIU : Try.prog.funcs[Vd]? = some mG := Tryz.func128
abbrev ATF : FuncId := 118
noncomputable abbrev ASX : Func := Tryz.f118
theorem BDV : Try.prog.funcs[ATF]? = some ASX := Tryz.func118
abbrev ASP : FuncId := 103
noncomputable abbrev BJE : Func := Tryz.f103
theorem BUY : Try.prog.funcs[ASP]? = some BJE := Tryz.func103
abbrev ATA : FuncId := 104
noncomputable abbrev ASC : Func := Tryz.f104
theorem BLD : Try.prog.funcs[ATA]? = some ASC := Tryz.func104
abbrev wA : FuncId := 130
noncomputable abbrev AGO : Func := Tryz.f130
theorem BCH : Try.prog.funcs[wA]? = some AGO := Tryz.func130
abbrev F5 : FuncId := 132
noncomputable abbrev Q5 : Func := Tryz.f132
theorem AVA : Try.prog.funcs[F5]? = some Q5 := Tryz.func132
abbrev AWG : FuncId := 133
noncomputable abbrev AUK : Func := Tryz.f133
theorem BLP : Try.prog.funcs[AWG]? = some AUK := Tryz.func133
abbrev AAS : FuncId := 135
noncomputable abbrev ACR : Func := Tryz.f135
theorem BBZ : Try.prog.funcs[AAS]? = some ACR := Tryz.func135
abbrev AES : FuncId := 136
noncomputable abbrev AFL : Func := Tryz.f136
theorem BCA : Try.prog.funcs[AES]? = some AFL := Tryz.func136
end Go.Bal
