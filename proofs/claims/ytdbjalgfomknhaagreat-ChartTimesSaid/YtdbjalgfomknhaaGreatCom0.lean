/- Data, and how they read. -/
import Derived.Test.YtdbjalgfomknhaaGreatSym11
import Derived.KernelRfl
import Derived.Test.YtdbjalgfomknhaaGreatProg
set_option linter.unusedVariables false
set_option linter.unusedSimpArgs false
namespace Go.Bal
open Go Go.Sym
def gD {α : Type} [Inhabited α] (l : List α) (i : Nat) : α := l.getD i default
def IK {α : Type} (n : Nat) (f : Nat -> α) : List α := (List.range n).map f
@[simp] theorem rng_length {α : Type} (n : Nat) (f : Nat -> α) : (IK n f).length = n := by simp [IK]
theorem FF {α : Type} [Inhabited α] (n : Nat) (f : Nat -> α) (i : Nat) (h : i < n) : gD (IK n f) i = f i := by
 simp [gD, IK, List.getD_eq_getElem?_getD, h]
theorem TS {α : Type} [Inhabited α] (l : List α) : IK l.length (λ i => gD l i) = l := by
 apply List.ext_getElem
 ·simp
 ·intro i h1 h2
  simp [gD, IK, List.getD_eq_getElem?_getD, h2]
theorem Qo {α : Type} [Inhabited α] (l m : List α) (i : Nat) : gD (l ++ m) i = if i < l.length then gD l i else gD m (i - l.length) := by
 simp only [gD, List.getD_eq_getElem?_getD]
 split
 ·rename_i h; rw [List.getElem?_append_left h]
 ·rename_i h; rw [List.getElem?_append_right (by omega)]
theorem AAL {α : Type} [Inhabited α] {l : List α} {k : Nat} (h : k < l.length) : l.drop k = gD l k :: l.drop (k + 1) := by
 rw [List.drop_eq_getElem_cons h]; simp [gD, List.getD_eq_getElem?_getD, h]
theorem AQS {α : Type} [Inhabited α] {l m : List α} (hl : l.length = m.length) (h : ∀ i, i < l.length -> gD l i = gD m i) : l = m := by
 apply List.ext_getElem hl
 intro i h1 h2
 have := h i h1
 simpa [gD, List.getD_eq_getElem?_getD, h1, h2] using this
structure Span where
 lo : Int
 hi : Int
 deriving Inhabited, DecidableEq
def TT (n : Int) : DVal := .v (.int .i64 n)
def IL (s : Span) : DVal := .agg [TT s.lo, TT s.hi]
def lst (k n : Nat) (g : Nat -> DVal) : DVal := .list k n g false
def Jn : DVal := .list 0 0 (λ _ => default) true
def HK : DVal -> Int
 | .v (.int _ n) => n
 | _ => 0
def BXY : DVal -> Bool
 | .v (.bool b) => b
 | _ => false
def Ni : DVal -> Span
 | .agg [a, b] => ⟨HK a, HK b⟩
 | _ => default
def AH (f : Func) : Code := f.body.getD .skip
@[simp] theorem dInt_eInt (n : Int) : HK (TT n) = n := rfl
@[simp] theorem dSpan_eSpan (s : Span) : Ni (IL s) = s := rfl
theorem BFB (a b : Int) : Ni (.agg [TT a, TT b]) = Span.mk a b := rfl
def ann (n : Nat) (l : List (FuncId × Sym.Spec)) : Ann := { base := λ id => 1000 * (id + 1), Γ := Sym.look l, E := [], n := n }
def okFn (A : Ann) (fn : Func) (xs : List AVal) (L : List (Nat × AObj)) (keep : List (Nat × HCell)) : Bool :=
 !(fn.name == "runtime.NumGoroutine") && fn.body.isSome && Nat.beq A.n fn.ntmps && Nat.ble xs.length fn.ntmps && A.E == L.map (·.1) && nodup (keep.map (·.1))
theorem BSM {x y : DVal} (h : JX x y) : Nk (λ i => i) (λ i => (MQ [] i).isSome) [.d x] [.d y] := ⟨h, trivial⟩
theorem Bc {n : Int} (h0 : -9223372036854775808 <= n) (h1 : n <= 9223372036854775807) : IntKind.i64.wrap n = n := by
 simp only [IntKind.wrap, IntKind.bits, IntKind.signed]
 rcases Int.lt_or_le n 0 with h | h
 ·have : n % (2 ^ 64 : Int) = n + 2 ^ 64 := by
   rw [<- Int.add_emod_right]; exact Int.emod_eq_of_lt (by omega) (by omega)
  simp only [this]
  rw [if_pos (by simp; omega)]; omega
 ·have : n % (2 ^ 64 : Int) = n := Int.emod_eq_of_lt h (by omega)
  simp only [this]
  rw [if_neg (by simp; omega)]
theorem HY {a : Nat} (h : a < 9223372036854775807) : IntKind.i64.wrap ((a : Int) + 1) = ((a + 1 : Nat) : Int) := by
 rw [Bc (by omega) (by omega)]; rfl
def Zd (p : Nat -> Bool) : Nat -> Nat -> Int
 | 0, _ => -1
 | n + 1, k => if p k then k else Zd p n (k + 1)
theorem fI {p : Nat -> Bool} {n k : Nat} (hk : k < n) (h : p k = true) : Zd p (n - k) k = k := by
 obtain ⟨m, rfl⟩ : ∃ m, n = k + 1 + m := ⟨n - k - 1, by omega⟩
 rw [show k + 1 + m - k = m + 1 by omega]; simp [Zd, h]
theorem O9 {p : Nat -> Bool} {n k : Nat} (hk : k < n) (h : p k = false) : Zd p (n - k) k = Zd p (n - (k + 1)) (k + 1) := by
 obtain ⟨m, rfl⟩ : ∃ m, n = k + 1 + m := ⟨n - k - 1, by omega⟩
 rw [show k + 1 + m - k = m + 1 by omega, show k + 1 + m - (k + 1) = m by omega]; simp [Zd, h]
theorem qU {p : Nat -> Bool} {n k : Nat} (hk : n <= k) : Zd p (n - k) k = -1 := by
 rw [show n - k = 0 by omega]; rfl
theorem TY {α : Type} [Inhabited α] {l : List α} {k : Nat} (h : k < l.length) : gD l k ∈ l := by
 unfold gD; rw [List.getD_eq_getElem?_getD, List.getElem?_eq_getElem h]; exact List.getElem_mem h
theorem YH {α : Type} [Inhabited α] {l : List α} {x : α} (h : x ∈ l) : ∃ i, i < l.length /\ gD l i = x := by
 obtain ⟨i, hi, rfl⟩ := List.getElem_of_mem h
 exact ⟨i, hi, by simp [gD, List.getD_eq_getElem?_getD, hi]⟩
theorem ARM {α β : Type} [Inhabited α] [Inhabited β] (f : α -> β) {l : List α} {i : Nat} (h : i < l.length) : gD (l.map f) i = f (gD l i) := by
 simp [gD, List.getD_eq_getElem?_getD, h]
def DV (l : List Int) : DVal := lst 1 l.length λ i => TT (gD l i)
def sB : AVal -> Heap -> Option (Nat × (Nat -> DVal) × List Nat)
 | .d (.list _ n g _), _ => some (n, g, [])
 | .own id _ _ n, H => match H id with
  | .live (.row _ _ g) => some (n, g, [id])
  | _ => none
 | _, _ => none
def fM (a : AVal) (H : Heap) : Option (List Int × List Nat) := match sB a H with
 | some (n, g, f) => some (IK n λ i => HK (g i), f)
 | none => none
structure One where
 u : Nat := 0
 deriving Inhabited
end Go.Bal
namespace Go.Bal.DL
open Go.Sym Go
theorem a1 (n : Int) : HK (TT n) = n := rfl
theorem a2 (s : Span) : Ni (IL s) = s := rfl
theorem a7 (n : Int) : HK (.v (.int .i64 n)) = n := rfl
theorem b2 (a b : Int) : Ni (.agg [TT a, TT b]) = Span.mk a b := rfl
theorem d1 (s : Span) : Span.mk s.lo s.hi = s := rfl
theorem e1 (n : Nat) : Int.toNat (n : Int) = n := rfl
theorem e2 (n : Nat) : (Int.ofNat n).toNat = n := rfl
end Go.Bal.DL

namespace Go.Proofs.Try
open Go
noncomputable abbrev prog : Program := Go.Proofs.Tryz.prog
end Go.Proofs.Try
namespace Go.Bal
open Go Go.Sym Go.Proofs
theorem AXG : Try.prog.follows .mixedOrders = true := by kernel_rfl
theorem YS {A : Ann} (h : A.iterIn = λ _ _ => none) (h2 : A.iter = λ _ => none) : F0 Try.prog A := λ gs g x e => by
 rw [Ann.iterAt, h] at e; simp only [h2] at e; cases e
theorem Hp {A : Ann} {g : FuncId} {fn : Func} {xs : List AVal} {L : List (Nat × AObj)} {val : AVal} {keep : List (Nat × HCell)} {ren : List (Nat × Nat)} {fz : List Nat} (hf : Try.prog.funcs[g]? = some fn) (hok : okFn A fn xs L keep = true)
  (hΓ : GOk Try.prog A.Γ) (h : CH Try.prog A fn (AH fn) xs (AB L) val keep ren fz) (hI : F0 Try.prog A := by exact YS rfl rfl) : FnT Try.prog g xs (AB L) val keep := by
 simp only [okFn, Bool.and_eq_true, Bool.not_eq_true', beq_iff_eq, NV, Nat.ble_eq, Option.isSome_iff_exists] at hok
 obtain ⟨⟨⟨⟨⟨h1, code, h2⟩, h3⟩, h4⟩, h5⟩, h6⟩ := hok
 exact FnT.of_vc hΓ hI AXG hf h1 h2 ⟨h3, h4⟩ h5 h6 (by unfold AH at h; rw [h2] at h; exact h)
theorem AOJ {A : Ann} (n0 : FuncId) (x : IterAnn) (h : A.iterIn = λ _ _ => none) (h2 : A.iter = λ g => if g = n0 then some x else none) (hΓ : GOk Try.prog x.ann.Γ) (hf : Try.prog.funcs[n0]? = some x.fn) (hname : (x.fn.name == "runtime.NumGoroutine") = false) (hb : x.fn.body = some x.code) : F0 Try.prog A := λ gs g y e => by
 rw [Ann.iterAt, h] at e
 simp only [h2] at e
 split at e
 ·rename_i hg
  cases e; subst hg
  exact ⟨hΓ, AIP hf hname hb, hf, hb⟩
 ·cases e
theorem XP (C : Ctr) (A : C.α -> Ann) (ren : List (Nat × Nat)) (fz : List Nat) {g : FuncId} {fn : Func} (hf : Try.prog.funcs[g]? = some fn) (hok : ∀ a, okFn (A a) fn (C.xs a) (C.L a) (C.keep a) = true) (hΓ : ∀ a, GOk Try.prog (A a).Γ)
  (h : ∀ a, EI (C.pre a) -> CH Try.prog (A a) fn (AH fn) (C.xs a) (AB (C.L a)) (C.val a) (C.keep a) ren fz) (hI : ∀ a, F0 Try.prog (A a)) (dec : List AVal -> Heap -> Option (C.α × List (Nat × Nat) × List Nat)) : AJ Try.prog g (C.spec dec) :=
 Ctr.spec_ok (λ a ha => Hp hf (hok a) (hΓ a) (h a ha) (hI a)) dec
theorem okT (C : Ctr) {g : FuncId} (h : ∀ a, EI (C.pre a) -> FnT Try.prog g (C.xs a) (AB (C.L a)) (C.val a) (C.keep a)) (dec : List AVal -> Heap -> Option (C.α × List (Nat × Nat) × List Nat)) : AJ Try.prog g (C.spec dec) := Ctr.spec_ok h dec
end Go.Bal

namespace Go.Bal
open Go Go.Sym Go.Proofs
abbrev AOQ : FuncId := 5
noncomputable abbrev ACQ : Func := Tryz.f5
theorem AYJ : Try.prog.funcs[AOQ]? = some ACQ := Tryz.func5
abbrev AAJ : FuncId := 38
noncomputable abbrev zE : Func := Tryz.f38
theorem AON : Try.prog.funcs[AAJ]? = some zE := Tryz.func38
abbrev AMW : FuncId := 23
noncomputable abbrev ALE : Func := Tryz.f23
theorem BIJ : Try.prog.funcs[AMW]? = some ALE := Tryz.func23
abbrev AQX : FuncId := 9
noncomputable abbrev ARL : Func := Tryz.f9
theorem BMW : Try.prog.funcs[AQX]? = some ARL := Tryz.func9
abbrev AMU : FuncId := 12
noncomputable abbrev wP : Func := Tryz.f12
theorem AQA : Try.prog.funcs[AMU]? = some wP := Tryz.func12
abbrev ALQ : FuncId := 8
noncomputable abbrev AJG : Func := Tryz.f8
theorem BFA : Try.prog.funcs[ALQ]? = some AJG := Tryz.func8
abbrev xH : FuncId := 33
noncomputable abbrev kO : Func := Tryz.f33
theorem AHM : Try.prog.funcs[xH]? = some kO := Tryz.func33
abbrev ATG : FuncId := 14
noncomputable abbrev AFV : Func := Tryz.f14
theorem AVG : Try.prog.funcs[ATG]? = some AFV := Tryz.func14
abbrev AJY : FuncId := 16
noncomputable abbrev xT : Func := Tryz.f16
theorem APN : Try.prog.funcs[AJY]? = some xT := Tryz.func16
abbrev AAE : FuncId := 35
noncomputable abbrev ALA : Func := Tryz.f35
theorem BIK : Try.prog.funcs[AAE]? = some ALA := Tryz.func35
abbrev AJB : FuncId := 25
noncomputable abbrev AKS : Func := Tryz.f25
theorem BEP : Try.prog.funcs[AJB]? = some AKS := Tryz.func25
abbrev ABS : FuncId := 39
noncomputable abbrev lO : Func := Tryz.f39
theorem AHC : Try.prog.funcs[ABS]? = some lO := Tryz.func39
abbrev ADV : FuncId := 29
noncomputable abbrev kX : Func := Tryz.f29
theorem AIO : Try.prog.funcs[ADV]? = some kX := Tryz.func29
abbrev AMT : FuncId := 10
noncomputable abbrev AKY : Func := Tryz.f10
theorem BGC : Try.prog.funcs[AMT]? = some AKY := Tryz.func10
abbrev AAC : FuncId := 36
noncomputable abbrev yS : Func := Tryz.f36
theorem AQF : Try.prog.funcs[AAC]? = some yS := Tryz.func36
abbrev lH : FuncId := 40
noncomputable abbrev Ky : Func := Tryz.f40
theorem qO : Try.prog.funcs[lH]? = some Ky := Tryz.func40
abbrev Pm : FuncId := 45
noncomputable abbrev vA : Func := Tryz.f45
theorem AIY : Try.prog.funcs[Pm]? = some vA := Tryz.func45
abbrev ACD : FuncId := 67
noncomputable abbrev Yt : Func := Tryz.f67
theorem A0 : Try.prog.funcs[ACD]? = some Yt := Tryz.func67
abbrev AMF : FuncId := 43
noncomputable abbrev AJS : Func := Tryz.f43
theorem BCY : Try.prog.funcs[AMF]? = some AJS := Tryz.func43
abbrev AJM : FuncId := 44
noncomputable abbrev AMS : Func := Tryz.f44
theorem AZR : Try.prog.funcs[AJM]? = some AMS := Tryz.func44
abbrev U4 : FuncId := 46
noncomputable abbrev ASS : Func := Tryz.f46
theorem BJM : Try.prog.funcs[U4]? = some ASS := Tryz.func46
abbrev sA : FuncId := 47
noncomputable abbrev F_in : Func := Tryz.f47
theorem BYH : Try.prog.funcs[sA]? = some F_in := Tryz.func47
abbrev H3 : FuncId := 48
noncomputable abbrev ATM : Func := Tryz.f48
theorem BIU : Try.prog.funcs[H3]? = some ATM := Tryz.func48
abbrev YX : FuncId := 49
noncomputable abbrev Yx : Func := Tryz.f49
theorem W8 : Try.prog.funcs[YX]? = some Yx := Tryz.func49
abbrev yJ : FuncId := 50
noncomputable abbrev AEI : Func := Tryz.f50
theorem AXT : Try.prog.funcs[yJ]? = some AEI := Tryz.func50
abbrev wV : FuncId := 51
noncomputable abbrev AKX : Func := Tryz.f51
theorem BAV : Try.prog.funcs[wV]? = some AKX := Tryz.func51
abbrev BAU : FuncId := 42
noncomputable abbrev BHP : Func := Tryz.f42
theorem BTM : Try.prog.funcs[BAU]? = some BHP := Tryz.func42
abbrev AIU : FuncId := 30
noncomputable abbrev AKG : Func := Tryz.f30
theorem BCQ : Try.prog.funcs[AIU]? = some AKG := Tryz.func30
abbrev AAN : FuncId := 60
noncomputable abbrev ANC : Func := Tryz.f60
theorem BEH : Try.prog.funcs[AAN]? = some ANC := Tryz.func60
abbrev AAB : FuncId := 61
noncomputable abbrev ALN : Func := Tryz.f61
theorem BAO : Try.prog.funcs[AAB]? = some ALN := Tryz.func61
abbrev AMR : FuncId := 19
noncomputable abbrev AIX : Func := Tryz.f19
theorem BBB : Try.prog.funcs[AMR]? = some AIX := Tryz.func19
abbrev ZZ : FuncId := 62
noncomputable abbrev nP : Func := Tryz.f62
theorem AHD : Try.prog.funcs[ZZ]? = some nP := Tryz.func62
abbrev AIH : FuncId := 79
noncomputable abbrev BCF : Func := Tryz.f79
theorem BSC : Try.prog.funcs[AIH]? = some BCF := Tryz.func79
abbrev ABT : FuncId := 56
noncomputable abbrev ADC : Func := Tryz.f56
theorem AYT : Try.prog.funcs[ABT]? = some ADC := Tryz.func56
abbrev AIZ : FuncId := 57
noncomputable abbrev AMG : Func := Tryz.f57
theorem BBK : Try.prog.funcs[AIZ]? = some AMG := Tryz.func57
abbrev hX : FuncId := 58
noncomputable abbrev Yj : Func := Tryz.f58
theorem Y6 : Try.prog.funcs[hX]? = some Yj := Tryz.func58
abbrev ATP : FuncId := 59
noncomputable abbrev ATK : Func := Tryz.f59
theorem BMI : Try.prog.funcs[ATP]? = some ATK := Tryz.func59
abbrev n_eP : FuncId := 71
noncomputable abbrev F_eP : Func := Tryz.f71
theorem BXT : Try.prog.funcs[n_eP]? = some F_eP := Tryz.func71
abbrev AJJ : FuncId := 63
noncomputable abbrev ASD : Func := Tryz.f63
theorem BKY : Try.prog.funcs[AJJ]? = some ASD := Tryz.func63
abbrev AJQ : FuncId := 64
noncomputable abbrev ARF : Func := Tryz.f64
theorem BMT : Try.prog.funcs[AJQ]? = some ARF := Tryz.func64
abbrev Jy : FuncId := 80
noncomputable abbrev xK : Func := Tryz.f80
theorem AOE : Try.prog.funcs[Jy]? = some xK := Tryz.func80
abbrev n_eI : FuncId := 81
noncomputable abbrev F_eI : Func := Tryz.f81
theorem BYC : Try.prog.funcs[n_eI]? = some F_eI := Tryz.func81
abbrev zD : FuncId := 82
noncomputable abbrev ADY : Func := Tryz.f82
theorem AYU : Try.prog.funcs[zD]? = some ADY := Tryz.func82
abbrev xN : FuncId := 83
noncomputable abbrev AMD : Func := Tryz.f83
theorem BAD : Try.prog.funcs[xN]? = some AMD := Tryz.func83
abbrev nF : FuncId := 84
noncomputable abbrev AFS : Func := Tryz.f84
theorem AZL : Try.prog.funcs[nF]? = some AFS := Tryz.func84
abbrev Up : FuncId := 87
noncomputable abbrev zG : Func := Tryz.f87
theorem ANS : Try.prog.funcs[Up]? = some zG := Tryz.func87
abbrev fK : FuncId := 88
noncomputable abbrev AEW : Func := Tryz.f88
theorem AYY : Try.prog.funcs[fK]? = some AEW := Tryz.func88
abbrev yV : FuncId := 89
noncomputable abbrev lM : Func := Tryz.f89
theorem AHY : Try.prog.funcs[yV]? = some lM := Tryz.func89
abbrev yW : FuncId := 97
noncomputable abbrev iJ : Func := Tryz.f97
theorem ACG : Try.prog.funcs[yW]? = some iJ := Tryz.func97
abbrev WG : FuncId := 98
noncomputable abbrev ASK : Func := Tryz.f98
theorem BJR : Try.prog.funcs[WG]? = some ASK := Tryz.func98
abbrev ARV : FuncId := 99
noncomputable abbrev AST : Func := Tryz.f99
theorem BNA : Try.prog.funcs[ARV]? = some AST := Tryz.func99
abbrev ACR : FuncId := 100
noncomputable abbrev AQV : Func := Tryz.f100
theorem BMV : Try.prog.funcs[ACR]? = some AQV := Tryz.func100
abbrev Kn : FuncId := 90
noncomputable abbrev Un : Func := Tryz.f90
theorem lP : Try.prog.funcs[Kn]? = some Un := Tryz.func90
abbrev yI : FuncId := 91
noncomputable abbrev ADR : Func := Tryz.f91
theorem AZH : Try.prog.funcs[yI]? = some ADR := Tryz.func91
abbrev T7 : FuncId := 92
noncomputable abbrev ASL : Func := Tryz.f92
theorem BKK : Try.prog.funcs[T7]? = some ASL := Tryz.func92
abbrev n_eS : FuncId := 93
noncomputable abbrev F_eS : Func := Tryz.f93
theorem BNF : Try.prog.funcs[n_eS]? = some F_eS := Tryz.func93
abbrev AML : FuncId := 94
noncomputable abbrev ATE : Func := Tryz.f94
theorem BMJ : Try.prog.funcs[AML]? = some ATE := Tryz.func94
abbrev AAY : FuncId := 31
noncomputable abbrev AME : Func := Tryz.f31
theorem BDP : Try.prog.funcs[AAY]? = some AME := Tryz.func31
abbrev AKK : FuncId := 105
noncomputable abbrev ATI : Func := Tryz.f105
theorem BKH : Try.prog.funcs[AKK]? = some ATI := Tryz.func105
abbrev Ya : FuncId := 95
noncomputable abbrev ADD : Func := Tryz.f95
theorem AYZ : Try.prog.funcs[Ya]? = some ADD := Tryz.func95
abbrev fR : FuncId := 96
noncomputable abbrev ANJ : Func := Tryz.f96
theorem BBP : Try.prog.funcs[fR]? = some ANJ := Tryz.func96
abbrev BBW : FuncId := 101
noncomputable abbrev BHY : Func := Tryz.f101
theorem BVJ : Try.prog.funcs[BBW]? = some BHY := Tryz.func101
abbrev APP : FuncId := 102
noncomputable abbrev BGI : Func := Tryz.f102
theorem BRX : Try.prog.funcs[APP]? = some BGI := Tryz.func102
abbrev BAX : FuncId := 106
noncomputable abbrev BDR : Func := Tryz.f106
theorem BUD : Try.prog.funcs[BAX]? = some BDR := Tryz.func106
abbrev AOM : FuncId := 107
noncomputable abbrev BGT : Func := Tryz.f107
theorem BUX : Try.prog.funcs[AOM]? = some BGT := Tryz.func107
abbrev ASE : FuncId := 108
noncomputable abbrev ATD : Func := Tryz.f108
theorem BLY : Try.prog.funcs[ASE]? = some ATD := Tryz.func108
abbrev Y0 : FuncId := 112
noncomputable abbrev ADI : Func := Tryz.f112
theorem ARC : Try.prog.funcs[Y0]? = some ADI := Tryz.func112
abbrev C7 : FuncId := 113
noncomputable abbrev AEJ : Func := Tryz.f113
theorem AUM : Try.prog.funcs[C7]? = some AEJ := Tryz.func113
abbrev AKT : FuncId := 114
noncomputable abbrev ATC : Func := Tryz.f114
theorem BIT : Try.prog.funcs[AKT]? = some ATC := Tryz.func114
abbrev ANQ : FuncId := 110
noncomputable abbrev AQH : Func := Tryz.f110
theorem BGG : Try.prog.funcs[ANQ]? = some AQH := Tryz.func110
abbrev yY : FuncId := 111
noncomputable abbrev ANM : Func := Tryz.f111
theorem BEC : Try.prog.funcs[yY]? = some ANM := Tryz.func111
abbrev dR : FuncId := 72
noncomputable abbrev L2 : Func := Tryz.f72
theorem ARI : Try.prog.funcs[dR]? = some L2 := Tryz.func72
abbrev n_eN : FuncId := 73
noncomputable abbrev F_eN : Func := Tryz.f73
theorem BYI : Try.prog.funcs[n_eN]? = some F_eN := Tryz.func73
abbrev yX : FuncId := 74
noncomputable abbrev AGL : Func := Tryz.f74
theorem AYC : Try.prog.funcs[yX]? = some AGL := Tryz.func74
abbrev ALH : FuncId := 75
noncomputable abbrev ALD : Func := Tryz.f75
theorem BCH : Try.prog.funcs[ALH]? = some ALD := Tryz.func75
abbrev APH : FuncId := 76
noncomputable abbrev AQJ : Func := Tryz.f76
theorem AZZ : Try.prog.funcs[APH]? = some AQJ := Tryz.func76
abbrev nW : FuncId := 77
noncomputable abbrev AEL : Func := Tryz.f77
theorem AYQ : Try.prog.funcs[nW]? = some AEL := Tryz.func77
abbrev BFN : FuncId := 115
noncomputable abbrev BIF : Func := Tryz.f115
theorem BRI : Try.prog.funcs[BFN]? = some BIF := Tryz.func115
abbrev BFX : FuncId := 116
noncomputable abbrev BDC : Func := Tryz.f116
theorem BSD : Try.prog.funcs[BFX]? = some BDC := Tryz.func116
abbrev ARP : FuncId := 117
noncomputable abbrev AQW : Func := Tryz.f117
theorem BMG : Try.prog.funcs[ARP]? = some AQW := Tryz.func117
abbrev V0 : FuncId := 119
noncomputable abbrev AEB : Func := Tryz.f119
theorem AUB : Try.prog.funcs[V0]? = some AEB := Tryz.func119
abbrev ABV : FuncId := 122
noncomputable abbrev ADL : Func := Tryz.f122
theorem AZA : Try.prog.funcs[ABV]? = some ADL := Tryz.func122
abbrev E4 : FuncId := 124
noncomputable abbrev A6 : Func := Tryz.f124
theorem ARO : Try.prog.funcs[E4]? = some A6 := Tryz.func124
abbrev AJX : FuncId := 126
noncomputable abbrev AMX : Func := Tryz.f126
theorem BAB : Try.prog.funcs[AJX]? = some AMX := Tryz.func126
abbrev Zb : FuncId := 128
noncomputable abbrev Xm : Func := Tryz.f128
theorem B9 : Try.prog.funcs[Zb]? = some Xm := Tryz.func128
abbrev AQG : FuncId := 118
noncomputable abbrev ANK : Func := Tryz.f118
theorem BBH : Try.prog.funcs[AQG]? = some ANK := Tryz.func118
abbrev AOS : FuncId := 103
noncomputable abbrev BBF : Func := Tryz.f103
theorem BTP : Try.prog.funcs[AOS]? = some BBF := Tryz.func103
abbrev APL : FuncId := 104
noncomputable abbrev APB : Func := Tryz.f104
theorem BCB : Try.prog.funcs[APL]? = some APB := Tryz.func104
abbrev wS : FuncId := 130
noncomputable abbrev AEA : Func := Tryz.f130
theorem AXV : Try.prog.funcs[wS]? = some AEA := Tryz.func130
abbrev AEG : FuncId := 135
noncomputable abbrev ACV : Func := Tryz.f135
theorem AYX : Try.prog.funcs[AEG]? = some ACV := Tryz.func135
abbrev ACN : FuncId := 136
noncomputable abbrev AEM : Func := Tryz.f136
theorem AZJ : Try.prog.funcs[ACN]? = some AEM := Tryz.func136
end Go.Bal
