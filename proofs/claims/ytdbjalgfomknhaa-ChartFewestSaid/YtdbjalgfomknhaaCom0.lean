/- Data, and how they read. -/
import Derived.Test.YtdbjalgfomknhaaSym11
import Derived.Test.YtdbjalgfomknhaaSym12
import Derived.KernelRfl
import Derived.Test.YtdbjalgfomknhaaProg
set_option linter.unusedVariables false
set_option linter.unusedSimpArgs false
namespace Go.Bal
open Go Go.Sym
def gD {α : Type} [Inhabited α] (l : List α) (i : Nat) : α := l.getD i default
def HX {α : Type} (n : Nat) (f : Nat -> α) : List α := (List.range n).map f
@[simp] theorem rng_length {α : Type} (n : Nat) (f : Nat -> α) : (HX n f).length = n := by simp [HX]
theorem EK {α : Type} [Inhabited α] (n : Nat) (f : Nat -> α) (i : Nat) (h : i < n) : gD (HX n f) i = f i := by
 simp [gD, HX, List.getD_eq_getElem?_getD, h]
theorem Cq {α : Type} [Inhabited α] (l : List α) : HX l.length (λ i => gD l i) = l := by
 apply List.ext_getElem
 ·simp
 ·intro i h1 h2
  simp [gD, HX, List.getD_eq_getElem?_getD, h2]
theorem BUL {α : Type} [Inhabited α] {l : List α} {k : Nat} {x : α} (h : k < l.length) (i : Nat) : gD (l.set k x) i = if i = k then x else gD l i := by
 simp only [gD, List.getD_eq_getElem?_getD, List.getElem?_set]
 by_cases hi : i = k
 ·subst hi; simp [h]
 ·rw [if_neg (Ne.symm hi), if_neg hi]
theorem AEU {α : Type} [Inhabited α] (l m : List α) (i : Nat) : gD (l ++ m) i = if i < l.length then gD l i else gD m (i - l.length) := by
 simp only [gD, List.getD_eq_getElem?_getD]
 split
 ·rename_i h; rw [List.getElem?_append_left h]
 ·rename_i h; rw [List.getElem?_append_right (by omega)]
theorem BQF {α : Type} [Inhabited α] {l : List α} {k : Nat} (h : k < l.length) : l.drop k = gD l k :: l.drop (k + 1) := by
 rw [List.drop_eq_getElem_cons h]; simp [gD, List.getD_eq_getElem?_getD, h]
theorem BVB {α : Type} [Inhabited α] {l m : List α} (hl : l.length = m.length) (h : ∀ i, i < l.length -> gD l i = gD m i) : l = m := by
 apply List.ext_getElem hl
 intro i h1 h2
 have := h i h1
 simpa [gD, List.getD_eq_getElem?_getD, h1, h2] using this
structure Span where
 lo : Int
 hi : Int
 deriving Inhabited, DecidableEq
def TZ (n : Int) : DVal := .v (.int .i64 n)
def JS (s : Span) : DVal := .agg [TZ s.lo, TZ s.hi]
def lst (k n : Nat) (g : Nat -> DVal) : DVal := .list k n g false
def UJ : DVal := .list 0 0 (λ _ => default) true
def JQ : DVal -> Int
 | .v (.int _ n) => n
 | _ => 0
def CLU : DVal -> Bool
 | .v (.bool b) => b
 | _ => false
def Ms : DVal -> Span
 | .agg [a, b] => ⟨JQ a, JQ b⟩
 | _ => default
def AP (f : Func) : Code := f.body.getD .skip
@[simp] theorem dInt_eInt (n : Int) : JQ (TZ n) = n := rfl
@[simp] theorem dSpan_eSpan (s : Span) : Ms (JS s) = s := rfl
theorem BWW (a b : Int) : Ms (.agg [TZ a, TZ b]) = Span.mk a b := rfl
def ann (n : Nat) (l : List (FuncId × Sym.Spec)) : Ann := { base := λ id => 1000 * (id + 1), Γ := Sym.look l, E := [], n := n }
def okFn (A : Ann) (fn : Func) (xs : List AVal) (L : List (Nat × AObj)) (keep : List (Nat × HCell)) : Bool :=
 !(fn.name == "runtime.NumGoroutine") && fn.body.isSome && Nat.beq A.n fn.ntmps && Nat.ble xs.length fn.ntmps && A.E == L.map (·.1) && nodup (keep.map (·.1))
theorem PE {n : Int} (h0 : -9223372036854775808 <= n) (h1 : n <= 9223372036854775807) : IntKind.i64.wrap n = n := by
 simp only [IntKind.wrap, IntKind.bits, IntKind.signed]
 rcases Int.lt_or_le n 0 with h | h
 ·have : n % (2 ^ 64 : Int) = n + 2 ^ 64 := by
   rw [<- Int.add_emod_right]; exact Int.emod_eq_of_lt (by omega) (by omega)
  simp only [this]
  rw [if_pos (by simp; omega)]; omega
 ·have : n % (2 ^ 64 : Int) = n := Int.emod_eq_of_lt h (by omega)
  simp only [this]
  rw [if_neg (by simp; omega)]
theorem HH {a : Nat} (h : a < 9223372036854775807) : IntKind.i64.wrap ((a : Int) + 1) = ((a + 1 : Nat) : Int) := by
 rw [PE (by omega) (by omega)]; rfl
def lU (p : Nat -> Bool) : Nat -> Nat -> Int
 | 0, _ => -1
 | n + 1, k => if p k then k else lU p n (k + 1)
theorem R2 {p : Nat -> Bool} {n k : Nat} (hk : k < n) (h : p k = true) : lU p (n - k) k = k := by
 obtain ⟨m, rfl⟩ : ∃ m, n = k + 1 + m := ⟨n - k - 1, by omega⟩
 rw [show k + 1 + m - k = m + 1 by omega]; simp [lU, h]
theorem BBL {p : Nat -> Bool} {n k : Nat} (hk : k < n) (h : p k = false) : lU p (n - k) k = lU p (n - (k + 1)) (k + 1) := by
 obtain ⟨m, rfl⟩ : ∃ m, n = k + 1 + m := ⟨n - k - 1, by omega⟩
 rw [show k + 1 + m - k = m + 1 by omega, show k + 1 + m - (k + 1) = m by omega]; simp [lU, h]
theorem ANJ {p : Nat -> Bool} {n k : Nat} (hk : n <= k) : lU p (n - k) k = -1 := by
 rw [show n - k = 0 by omega]; rfl
theorem APO {α : Type} [Inhabited α] (l : List α) (x : α) {i : Nat} (hi : i < l.length + 1) : gD (l ++ [x]) i = bif decide (i < l.length) then gD l i else x := by
 rw [AEU]
 by_cases h : i < l.length
 ·simp [h]
 ·have : i - l.length = 0 := by omega
  simp only [h, if_false, decide_false, cond_false, this]; rfl
theorem HP {α : Type} [Inhabited α] {l : List α} {k : Nat} (h : k < l.length) : gD l k ∈ l := by
 unfold gD; rw [List.getD_eq_getElem?_getD, List.getElem?_eq_getElem h]; exact List.getElem_mem h
theorem XR {α : Type} [Inhabited α] {l : List α} {x : α} (h : x ∈ l) : ∃ i, i < l.length /\ gD l i = x := by
 obtain ⟨i, hi, rfl⟩ := List.getElem_of_mem h
 exact ⟨i, hi, by simp [gD, List.getD_eq_getElem?_getD, hi]⟩
theorem BMU {α β : Type} [Inhabited α] [Inhabited β] (f : α -> β) {l : List α} {i : Nat} (h : i < l.length) : gD (l.map f) i = f (gD l i) := by
 simp [gD, List.getD_eq_getElem?_getD, h]
def GQ (l : List Int) : DVal := lst 1 l.length λ i => TZ (gD l i)
def dRow : AVal -> Heap -> Option (Nat × (Nat -> DVal) × List Nat)
 | .d (.list _ n g _), _ => some (n, g, [])
 | .own id _ _ n, H => match H id with
  | .live (.row _ _ g) => some (n, g, [id])
  | _ => none
 | _, _ => none
def BPS (a : AVal) (H : Heap) : Option (List Int × List Nat) := match dRow a H with
 | some (n, g, f) => some (HX n λ i => JQ (g i), f)
 | none => none
structure One where
 u : Nat := 0
 deriving Inhabited
end Go.Bal
namespace Go.Bal.DL
open Go.Sym Go
theorem a1 (n : Int) : JQ (TZ n) = n := rfl
theorem a2 (s : Span) : Ms (JS s) = s := rfl
theorem b2 (a b : Int) : Ms (.agg [TZ a, TZ b]) = Span.mk a b := rfl
theorem d1 (s : Span) : Span.mk s.lo s.hi = s := rfl
theorem e1 (n : Nat) : Int.toNat (n : Int) = n := rfl
theorem e2 (n : Nat) : (Int.ofNat n).toNat = n := rfl
end Go.Bal.DL

namespace Go.Bal
open Go Go.Sym Go.Proofs
theorem BIO : Try.prog.follows .mixedOrders = true := by kernel_rfl
theorem Mi {A : Ann} (h : A.iterIn = λ _ _ => none) (h2 : A.iter = λ _ => none) : sG Try.prog A := λ gs g x e => by
 rw [Ann.iterAt, h] at e; simp only [h2] at e; cases e
theorem Su {A : Ann} {g : FuncId} {fn : Func} {xs : List AVal} {L : List (Nat × AObj)} {val : AVal} {keep : List (Nat × HCell)} {ren : List (Nat × Nat)} {fz : List Nat} (hf : Try.prog.funcs[g]? = some fn) (hok : okFn A fn xs L keep = true)
  (hΓ : GOk Try.prog A.Γ) (h : DN Try.prog A fn (AP fn) xs (AH L) val keep ren fz) (hI : sG Try.prog A := by exact Mi rfl rfl) : FnT Try.prog g xs (AH L) val keep := by
 simp only [okFn, Bool.and_eq_true, Bool.not_eq_true', beq_iff_eq, LL, Nat.ble_eq, Option.isSome_iff_exists] at hok
 obtain ⟨⟨⟨⟨⟨h1, code, h2⟩, h3⟩, h4⟩, h5⟩, h6⟩ := hok
 exact FnT.of_vc hΓ hI BIO hf h1 h2 ⟨h3, h4⟩ h5 h6 (by unfold AP at h; rw [h2] at h; exact h)
theorem fntS {A : Ann} {S : Nat -> Bool} {g : FuncId} {fn : Func} {xs : List AVal} {L : List (Nat × AObj)} {val : AVal} {keep : List (Nat × HCell)} {ren : List (Nat × Nat)} {fz : List Nat} (hf : Try.prog.funcs[g]? = some fn) (hok : okFn A fn xs L keep = true)
  (hΓ : GOk Try.prog A.Γ) (hl : ∀ k, S k = true -> Eb Try.prog A S k (stdF Try.prog A S) (AP fn) [] (endQ Try.prog A fn val keep ren fz)) (h : BEH Try.prog A S fn (AP fn) xs (AH L) val keep ren fz) (hI : sG Try.prog A := by exact Mi rfl rfl) : FnT Try.prog g xs (AH L) val keep := by
 simp only [okFn, Bool.and_eq_true, Bool.not_eq_true', beq_iff_eq, LL, Nat.ble_eq, Option.isSome_iff_exists] at hok
 obtain ⟨⟨⟨⟨⟨h1, code, h2⟩, h3⟩, h4⟩, h5⟩, h6⟩ := hok
 refine FnT.of_vcS hΓ hI BIO hf h1 h2 ⟨h3, h4⟩ h5 h6 (S := S) (ren := ren) (fz := fz) (λ k h1 _ => ?_) (by unfold AP at h; rw [h2] at h; exact h)
 have := hl k h1
 unfold AP at this; rw [h2] at this; exact this
theorem CFA {A : Ann} (n0 : FuncId) (x : IterAnn) (h : A.iterIn = λ _ _ => none) (h2 : A.iter = λ g => if g = n0 then some x else none) (hΓ : GOk Try.prog x.ann.Γ) (hf : Try.prog.funcs[n0]? = some x.fn) (hname : (x.fn.name == "runtime.NumGoroutine") = false) (hb : x.fn.body = some x.code) : sG Try.prog A := λ gs g y e => by
 rw [Ann.iterAt, h] at e
 simp only [h2] at e
 split at e
 ·rename_i hg
  cases e; subst hg
  exact ⟨hΓ, AQG hf hname hb, hf, hb⟩
 ·cases e
theorem Jp (C : Ctr) (A : C.α -> Ann) (ren : List (Nat × Nat)) (fz : List Nat) {g : FuncId} {fn : Func} (hf : Try.prog.funcs[g]? = some fn) (hok : ∀ a, okFn (A a) fn (C.xs a) (C.L a) (C.keep a) = true) (hΓ : ∀ a, GOk Try.prog (A a).Γ)
  (h : ∀ a, DZ (C.pre a) -> DN Try.prog (A a) fn (AP fn) (C.xs a) (AH (C.L a)) (C.val a) (C.keep a) ren fz) (hI : ∀ a, sG Try.prog (A a)) (dec : List AVal -> Heap -> Option (C.α × List (Nat × Nat) × List Nat)) : AR Try.prog g (C.spec dec) :=
 Ctr.spec_ok (λ a ha => Su hf (hok a) (hΓ a) (h a ha) (hI a)) dec
theorem okT (C : Ctr) {g : FuncId} (h : ∀ a, DZ (C.pre a) -> FnT Try.prog g (C.xs a) (AH (C.L a)) (C.val a) (C.keep a)) (dec : List AVal -> Heap -> Option (C.α × List (Nat × Nat) × List Nat)) : AR Try.prog g (C.spec dec) := Ctr.spec_ok h dec
end Go.Bal

namespace Go.Bal
open Go Go.Sym Go.Proofs
abbrev BDM : FuncId := 7
noncomputable abbrev YS : Func := Try.f7
theorem AHM : Try.prog.funcs[BDM]? = some YS := Try.func7
abbrev BHA : FuncId := 10
noncomputable abbrev AYC : Func := Try.f10
theorem BQB : Try.prog.funcs[BHA]? = some AYC := Try.func10
abbrev CAZ : FuncId := 11
noncomputable abbrev BVZ : Func := Try.f11
theorem CJS : Try.prog.funcs[CAZ]? = some BVZ := Try.func11
abbrev BHM : FuncId := 12
noncomputable abbrev AOP : Func := Try.f12
theorem BIY : Try.prog.funcs[BHM]? = some AOP := Try.func12
abbrev AEO : FuncId := 13
noncomputable abbrev sM : Func := Try.f13
theorem BAY : Try.prog.funcs[AEO]? = some sM := Try.func13
abbrev AYW : FuncId := 15
noncomputable abbrev BMS : Func := Try.f15
theorem CCZ : Try.prog.funcs[AYW]? = some BMS := Try.func15
abbrev BFV : FuncId := 18
noncomputable abbrev ANU : Func := Try.f18
theorem BJP : Try.prog.funcs[BFV]? = some ANU := Try.func18
abbrev BGR : FuncId := 19
noncomputable abbrev BHK : Func := Try.f19
theorem BVH : Try.prog.funcs[BGR]? = some BHK := Try.func19
abbrev BCA : FuncId := 20
noncomputable abbrev ADO : Func := Try.f20
theorem BEF : Try.prog.funcs[BCA]? = some ADO := Try.func20
abbrev BLP : FuncId := 21
noncomputable abbrev BBR : Func := Try.f21
theorem BPL : Try.prog.funcs[BLP]? = some BBR := Try.func21
abbrev BGI : FuncId := 22
noncomputable abbrev AON : Func := Try.f22
theorem BIN : Try.prog.funcs[BGI]? = some AON := Try.func22
abbrev BHU : FuncId := 23
noncomputable abbrev BHT : Func := Try.f23
theorem BTS : Try.prog.funcs[BHU]? = some BHT := Try.func23
abbrev AGI : FuncId := 24
noncomputable abbrev sB : Func := Try.f24
theorem AYO : Try.prog.funcs[AGI]? = some sB := Try.func24
abbrev AZJ : FuncId := 25
noncomputable abbrev vE : Func := Try.f25
theorem BEC : Try.prog.funcs[AZJ]? = some vE := Try.func25
abbrev mH : FuncId := 26
noncomputable abbrev X2 : Func := Try.f26
theorem ADU : Try.prog.funcs[mH]? = some X2 := Try.func26
abbrev BHW : FuncId := 27
noncomputable abbrev AOA : Func := Try.f27
theorem BIJ : Try.prog.funcs[BHW]? = some AOA := Try.func27
abbrev BNW : FuncId := 28
noncomputable abbrev AYY : Func := Try.f28
theorem BPK : Try.prog.funcs[BNW]? = some AYY := Try.func28
abbrev AZI : FuncId := 31
noncomputable abbrev AYT : Func := Try.f31
theorem BTB : Try.prog.funcs[AZI]? = some AYT := Try.func31
abbrev Ot : FuncId := 32
noncomputable abbrev AKD : Func := Try.f32
theorem BGE : Try.prog.funcs[Ot]? = some AKD := Try.func32
abbrev lX : FuncId := 33
noncomputable abbrev Kh : Func := Try.f33
theorem AEK : Try.prog.funcs[lX]? = some Kh := Try.func33
abbrev ATZ : FuncId := 36
noncomputable abbrev BML : Func := Try.f36
theorem CDM : Try.prog.funcs[ATZ]? = some BML := Try.func36
abbrev n_in : FuncId := 37
noncomputable abbrev F_in : Func := Try.f37
theorem CKX : Try.prog.funcs[n_in]? = some F_in := Try.func37
abbrev BFT : FuncId := 38
noncomputable abbrev BLW : Func := Try.f38
theorem CCX : Try.prog.funcs[BFT]? = some BLW := Try.func38
abbrev Yv : FuncId := 39
noncomputable abbrev AIZ : Func := Try.f39
theorem BIK : Try.prog.funcs[Yv]? = some AIZ := Try.func39
abbrev APJ : FuncId := 40
noncomputable abbrev BBZ : Func := Try.f40
theorem BTD : Try.prog.funcs[APJ]? = some BBZ := Try.func40
abbrev ANK : FuncId := 41
noncomputable abbrev BIH : Func := Try.f41
theorem CAI : Try.prog.funcs[ANK]? = some BIH := Try.func41
abbrev BWU : FuncId := 42
noncomputable abbrev BYL : Func := Try.f42
theorem CJI : Try.prog.funcs[BWU]? = some BYL := Try.func42
abbrev BFJ : FuncId := 43
noncomputable abbrev BGG : Func := Try.f43
theorem CAJ : Try.prog.funcs[BFJ]? = some BGG := Try.func43
-- none: nilometer/nilometerkit.Same[nilometer/chart.Mark]
-- none: nilometer/nilometerkit.Same[nilometer/chart.Note]
-- none: nilometer/nilometerkit.Same[int]
abbrev VE : FuncId := 44
noncomputable abbrev AAT : Func := Try.f44
theorem BEQ : Try.prog.funcs[VE]? = some AAT := Try.func44
abbrev BKY : FuncId := 45
noncomputable abbrev BVO : Func := Try.f45
theorem CHZ : Try.prog.funcs[BKY]? = some BVO := Try.func45
abbrev BBY : FuncId := 46
noncomputable abbrev AZU : Func := Try.f46
theorem BSI : Try.prog.funcs[BBY]? = some AZU := Try.func46
abbrev BGM : FuncId := 47
noncomputable abbrev BIF : Func := Try.f47
theorem CAQ : Try.prog.funcs[BGM]? = some BIF := Try.func47
abbrev sO : FuncId := 48
noncomputable abbrev Zl : Func := Try.f48
theorem AWV : Try.prog.funcs[sO]? = some Zl := Try.func48
abbrev BLM : FuncId := 49
noncomputable abbrev BMC : Func := Try.f49
theorem CBR : Try.prog.funcs[BLM]? = some BMC := Try.func49
abbrev n_eP : FuncId := 50
noncomputable abbrev F_eP : Func := Try.f50
theorem COC : Try.prog.funcs[n_eP]? = some F_eP := Try.func50
abbrev BBW : FuncId := 51
noncomputable abbrev BMG : Func := Try.f51
theorem CDW : Try.prog.funcs[BBW]? = some BMG := Try.func51
abbrev BAG : FuncId := 52
noncomputable abbrev BNZ : Func := Try.f52
theorem CED : Try.prog.funcs[BAG]? = some BNZ := Try.func52
abbrev ANO : FuncId := 53
noncomputable abbrev ANI : Func := Try.f53
theorem BJS : Try.prog.funcs[ANO]? = some ANI := Try.func53
abbrev BHX : FuncId := 56
noncomputable abbrev BEY : Func := Try.f56
theorem BYR : Try.prog.funcs[BHX]? = some BEY := Try.func56
abbrev AZO : FuncId := 57
noncomputable abbrev BBX : Func := Try.f57
theorem BSM : Try.prog.funcs[AZO]? = some BBX := Try.func57
abbrev AOD : FuncId := 58
noncomputable abbrev BGL : Func := Try.f58
theorem BVC : Try.prog.funcs[AOD]? = some BGL := Try.func58
abbrev ANW : FuncId := 59
noncomputable abbrev AZL : Func := Try.f59
theorem BSG : Try.prog.funcs[ANW]? = some AZL := Try.func59
abbrev AOI : FuncId := 61
noncomputable abbrev APA : Func := Try.f61
theorem BJB : Try.prog.funcs[AOI]? = some APA := Try.func61
abbrev Td : FuncId := 62
noncomputable abbrev BNH : Func := Try.f62
theorem CEI : Try.prog.funcs[Td]? = some BNH := Try.func62
abbrev BNR : FuncId := 63
noncomputable abbrev BLV : Func := Try.f63
theorem CBS : Try.prog.funcs[BNR]? = some BLV := Try.func63
abbrev BBS : FuncId := 64
noncomputable abbrev BNV : Func := Try.f64
theorem CEJ : Try.prog.funcs[BBS]? = some BNV := Try.func64
abbrev AES : FuncId := 65
noncomputable abbrev AOU : Func := Try.f65
theorem BKS : Try.prog.funcs[AES]? = some AOU := Try.func65
abbrev ANV : FuncId := 66
noncomputable abbrev BBN : Func := Try.f66
theorem BST : Try.prog.funcs[ANV]? = some BBN := Try.func66
abbrev ARF : FuncId := 67
noncomputable abbrev BLL : Func := Try.f67
theorem CDG : Try.prog.funcs[ARF]? = some BLL := Try.func67
abbrev n_eS : FuncId := 68
noncomputable abbrev F_eS : Func := Try.f68
theorem CFO : Try.prog.funcs[n_eS]? = some F_eS := Try.func68
abbrev BEV : FuncId := 69
noncomputable abbrev BNF : Func := Try.f69
theorem CEE : Try.prog.funcs[BEV]? = some BNF := Try.func69
abbrev BFO : FuncId := 70
noncomputable abbrev BGW : Func := Try.f70
theorem CAG : Try.prog.funcs[BFO]? = some BGW := Try.func70
abbrev BGO : FuncId := 71
noncomputable abbrev BMV : Func := Try.f71
theorem CBQ : Try.prog.funcs[BGO]? = some BMV := Try.func71
abbrev Xw : FuncId := 72
noncomputable abbrev BAR : Func := Try.f72
theorem BRT : Try.prog.funcs[Xw]? = some BAR := Try.func72
abbrev rY : FuncId := 73
noncomputable abbrev BFX : Func := Try.f73
theorem BYG : Try.prog.funcs[rY]? = some BFX := Try.func73
abbrev BVE : FuncId := 74
noncomputable abbrev BUE : Func := Try.f74
theorem CJT : Try.prog.funcs[BVE]? = some BUE := Try.func74
abbrev BKE : FuncId := 75
noncomputable abbrev BWK : Func := Try.f75
theorem CKC : Try.prog.funcs[BKE]? = some BWK := Try.func75
abbrev BLN : FuncId := 78
noncomputable abbrev BNE : Func := Try.f78
theorem CEO : Try.prog.funcs[BLN]? = some BNE := Try.func78
abbrev BDQ : FuncId := 79
noncomputable abbrev BKU : Func := Try.f79
theorem BUD : Try.prog.funcs[BDQ]? = some BKU := Try.func79
abbrev BFB : FuncId := 80
noncomputable abbrev BNT : Func := Try.f80
theorem CCP : Try.prog.funcs[BFB]? = some BNT := Try.func80
abbrev BIG : FuncId := 81
noncomputable abbrev BNO : Func := Try.f81
theorem CDX : Try.prog.funcs[BIG]? = some BNO := Try.func81
abbrev BJI : FuncId := 82
noncomputable abbrev BJK : Func := Try.f82
theorem CBA : Try.prog.funcs[BJI]? = some BJK := Try.func82
abbrev APB : FuncId := 83
noncomputable abbrev BJV : Func := Try.f83
theorem BUY : Try.prog.funcs[APB]? = some BJV := Try.func83
abbrev oB : FuncId := 84
noncomputable abbrev ASU : Func := Try.f84
theorem BNX : Try.prog.funcs[oB]? = some ASU := Try.func84
abbrev n_eN : FuncId := 85
noncomputable abbrev F_eN : Func := Try.f85
theorem CLA : Try.prog.funcs[n_eN]? = some F_eN := Try.func85
abbrev AOE : FuncId := 86
noncomputable abbrev BCF : Func := Try.f86
theorem BSF : Try.prog.funcs[AOE]? = some BCF := Try.func86
abbrev BFM : FuncId := 87
noncomputable abbrev BHL : Func := Try.f87
theorem BZN : Try.prog.funcs[BFM]? = some BHL := Try.func87
abbrev BJN : FuncId := 88
noncomputable abbrev BKB : Func := Try.f88
theorem BWL : Try.prog.funcs[BJN]? = some BKB := Try.func88
abbrev L7 : FuncId := 89
noncomputable abbrev BAM : Func := Try.f89
theorem BTF : Try.prog.funcs[L7]? = some BAM := Try.func89
abbrev CAK : FuncId := 90
noncomputable abbrev BXA : Func := Try.f90
theorem CKI : Try.prog.funcs[CAK]? = some BXA := Try.func90
abbrev BMD : FuncId := 92
noncomputable abbrev BLT : Func := Try.f92
theorem CCB : Try.prog.funcs[BMD]? = some BLT := Try.func92
abbrev AQB : FuncId := 93
noncomputable abbrev BAV : Func := Try.f93
theorem BPD : Try.prog.funcs[AQB]? = some BAV := Try.func93
abbrev ANF : FuncId := 102
noncomputable abbrev AZG : Func := Try.f102
theorem BSU : Try.prog.funcs[ANF]? = some AZG := Try.func102
abbrev BIQ : FuncId := 103
noncomputable abbrev BKA : Func := Try.f103
theorem CAE : Try.prog.funcs[BIQ]? = some BKA := Try.func103
abbrev BKM : FuncId := 104
noncomputable abbrev BTR : Func := Try.f104
theorem CKG : Try.prog.funcs[BKM]? = some BTR := Try.func104
abbrev BKR : FuncId := 105
noncomputable abbrev BKO : Func := Try.f105
theorem BUI : Try.prog.funcs[BKR]? = some BKO := Try.func105
abbrev APK : FuncId := 107
noncomputable abbrev AYA : Func := Try.f107
theorem BRY : Try.prog.funcs[APK]? = some AYA := Try.func107
end Go.Bal
