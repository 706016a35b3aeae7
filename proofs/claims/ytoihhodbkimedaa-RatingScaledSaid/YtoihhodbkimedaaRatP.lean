/- Package rating: Dry. -/
import Derived.Test.YtoihhodbkimedaaRatO
set_option linter.unusedVariables false
set_option linter.unusedSimpArgs false
namespace Go.Bal
open Go Go.Sym Go.Proofs
def Lw (a : GB) : Span × Int := bif AV a == 0 then (bif decide ((lnK a 0).length = 0) then (default, 6) else (⟨upMO dr2 ⟨BG a, 0⟩, upMO P3 ⟨BG a, 0⟩⟩, 0)) else (default, AV a)
def C_Dry : Ctr := { α := GB, xs := xGB, L := λ _ => [], val := λ x => .tup [.d (BBQ (Lw x).1), .int (Lw x).2], keep := λ _ => [], pre := λ x => [preB x /\ True] }
def G_dy (c : Sym.Spec) : List (FuncId × Sym.Spec) := [(TW, c), (oP, C_lns.spec dBkS), (aF, orS ((VR dr2 LR).spec (dUpO LR)) ((VR P3 LP).spec (dUpO LP)))]
def CHU : Ann := ann 31 (G_dy (C_open.spec dGB))
def CJH : Ann := { ann 31 (G_dy (C_openX.spec dGB)) with cut := λ id => if id = 4 then some [] else none }
def CJT (x : GB) : Prop := AY Try.prog CHU BLH (AF BLH) (xGB x) (AC []) (C_Dry.val x) [] [] []
abbrev AFV (x : GB) : List Gau := AD x.g.length λ (i : Nat) => gD x.g i
abbrev AHF (x : GB) : Nat := (AFV x).length
abbrev AGC (x : GB) (i : Nat) : Gau := gD (AFV x) i
abbrev AIA (x : GB) : List Int := AD x.b.length λ (i : Nat) => gD x.b i
abbrev AGQ (x : GB) : Nat := (AIA x).length
abbrev BIF (x : GB) : GB := GB.mk (AFV x) (AIA x)
abbrev uY : Prop := (0 : Int) = Int.ofNat (0 : Nat)
abbrev Ek (x : GB) : Bk := BG (BIF x)
abbrev BHT (x : GB) : List Gau := (Ek x).g
abbrev Qj (x : GB) : Nat := (BHT x).length
abbrev Nt (x : GB) (i : Nat) : Gau := gD (BHT x) i
abbrev Am (x : GB) : List Gau := AD (Qj x) λ (i : Nat) => Nt x i
abbrev Ig (x : GB) : Nat := (Am x).length
abbrev wG (x : GB) : Prop := Ig x = Qj x
abbrev sT (x : GB) (i : Nat) : Gau := gD (Am x) i
abbrev ATI (x : GB) (i : Nat) : Int := (sT x i).st
abbrev qU (x : GB) (i : Nat) : Int := (Nt x i).st
abbrev ATJ (x : GB) (i : Nat) : Int := (sT x i).lo
abbrev vC (x : GB) (i : Nat) : Int := (Nt x i).lo
abbrev ANO (x : GB) (i : Nat) : Int := (sT x i).hi
abbrev sI (x : GB) (i : Nat) : Int := (Nt x i).hi
abbrev qS (x : GB) : Prop := ∀ (i : Nat), i < Ig x -> ATI x i = qU x i /\ ATJ x i = vC x i /\ ANO x i = sI x i
abbrev AML (x : GB) : List Int := (Ek x).b
abbrev Al (x : GB) : Nat := (AML x).length
abbrev Ji (x : GB) (i : Nat) : Int := gD (AML x) i
abbrev SJ (x : GB) : List Int := AD (Al x) λ (i : Nat) => Ji x i
abbrev XU (x : GB) : Nat := (SJ x).length
abbrev vI (x : GB) : Prop := XU x = Al x
abbrev AQD (x : GB) (i : Nat) : Int := gD (SJ x) i
abbrev tP (x : GB) : Prop := ∀ (i : Nat), i < XU x -> AQD x i = Ji x i
abbrev AXC : Value := Value.slice none (0 : Nat) (0 : Nat)
abbrev WM : Prop := AXC = AXC
abbrev ARF (x : GB) (n : Int) : Int := (Ek x).st n
abbrev xH (x : GB) : Bk := Bk.mk (Am x) (SJ x) (Ek x).has (Ek x).st
abbrev AZP (x : GB) (n : Int) : List Ln := AK (xH x) n
abbrev ASK (x : GB) (n : Int) : Nat := (AZP x n).length
abbrev AMJ (x : GB) (n : Int) : List Ln := AK (Ek x) n
abbrev Js (x : GB) (n : Int) (i : Nat) : Ln := gD (AZP x n) i
abbrev Kn (x : GB) (n : Int) (i : Nat) : Ln := gD (AMJ x n) i
abbrev PO (x : GB) : Bk := CK (xH x) (0 : Int)
abbrev AYQ (x : GB) : List Gau := (PO x).g
abbrev BAK (i : Nat) (x : GB) : Prop := i < Qj x
abbrev uK (x : GB) (i : Nat) : Gau := gD (AYQ x) i
abbrev AOS (x : GB) : List Int := (PO x).b
abbrev AQO (i : Nat) (x : GB) : Prop := i < Al x
abbrev AWT (x : GB) : Prop := Ig x <= (24 : Nat) /\ (∀ (x_1 : Gau), List.Mem x_1 (Am x) -> (0 : Int) <= x_1.st /\ x_1.st <= (2000 : Int) /\ (0 : Int) <= x_1.lo /\ x_1.lo <= x_1.hi /\ x_1.hi <= (200000 : Int)) /\
 XU x <= (24 : Nat) /\ List.Pairwise (λ (x1 x2 : Int) => x1 < x2) (SJ x) /\ ∀ (x_1 : Int), List.Mem x_1 (SJ x) -> (1 : Int) <= x_1 /\ x_1 <= (2000 : Int)
abbrev ALJ : Prop := (0 : Int) <= (0 : Int)
abbrev AOI (x : GB) (n : Int) : Bool := (PO x).has n
abbrev Mj (x : GB) : Prop := ∀ (n : Int), AOI x n = AOI x n
abbrev AQX (x : GB) (n : Int) : Int := (PO x).st n
abbrev Kz (x : GB) : Prop := ∀ (n : Int), AQX x n = AQX x n
abbrev AVV (x : GB) : Bk := Bk.mk (Am x) (SJ x) (PO x).has (PO x).st
abbrev APW (x : GB) (n : Int) : List Ln := AK (AVV x) n
abbrev uZ (x : GB) (n : Int) : Nat := (APW x n).length
abbrev BAE (x : GB) (n : Int) : List Ln := AK (PO x) n
abbrev tX (x : GB) (n : Int) : Nat := (BAE x n).length
abbrev Jl (x : GB) (n : Int) (i : Nat) : Ln := gD (APW x n) i
abbrev ASP (x : GB) (n : Int) (i : Nat) : Int := (Jl x n i).a0
abbrev Mh (x : GB) (n : Int) (i : Nat) : Ln := gD (BAE x n) i
abbrev AMM (x : GB) (n : Int) (i : Nat) : Int := (Mh x n i).a0
abbrev AYT (x : GB) (n : Int) (i : Nat) : Int := (Jl x n i).a1
abbrev AMZ (x : GB) (n : Int) (i : Nat) : Int := (Mh x n i).a1
abbrev AXN (x : GB) (n : Int) (i : Nat) : Int := (Jl x n i).b0
abbrev AYR (x : GB) (n : Int) (i : Nat) : Int := (Mh x n i).b0
abbrev AUK (x : GB) (n : Int) (i : Nat) : Int := (Jl x n i).b1
abbrev AYA (x : GB) (n : Int) (i : Nat) : Int := (Mh x n i).b1
abbrev AWR (x : GB) : Prop := ∀ (n : Int), uZ x n = tX x n /\ ∀ (i : Nat), i < uZ x n -> ASP x n i = AMM x n i /\ AYT x n i = AMZ x n i /\ AXN x n i = AYR x n i /\ AUK
 x n i = AYA x n i
abbrev AMK (x : GB) : Prop := Qj x = Ig x
abbrev AJC (x : GB) : Prop := ∀ (i : Nat), BAK i x -> qU x i = ATI x i /\ vC x i = ATJ x i /\ sI x i = ANO x i
abbrev AKY (x : GB) : Prop := Al x = XU x
abbrev AJZ (x : GB) : Prop := ∀ (i : Nat), AQO i x -> Ji x i = AQD x i
abbrev AWQ (x : GB) : Prop := ∀ (n : Int), tX x n = uZ x n /\ ∀ (i : Nat), i < tX x n -> AMM x n i = ASP x n i /\ AMZ x n i = AYT x n i /\ AYR x n i = AXN x n i /\ AYA
 x n i = AUK x n i
abbrev ARA (x : GB) : Prop := AWT x /\ ALJ /\ (0 : Int) <= (↑(XU x) : Int) /\ true = true
abbrev AZZ (x : GB) : BkI := BkI.mk (AVV x) (0 : Int)
theorem CML (x : GB) : (CJT x) = ((AHF x = x.g.length /\ (∀ (i : Nat), i < AHF x -> (AGC x i).st = (gD x.g i).st /\ (AGC x i).lo = (gD x.g i).lo /\ (AGC x i).hi = (gD x.g i).hi) /\ AGQ x =
 x.b.length /\ (∀ (i : Nat), i < AGQ x -> gD (AIA x) i = gD x.b i) /\ AHF x < (4611686018427387904 : Nat) /\ AGQ x < (4611686018427387904 : Nat) /\ AV (BIF x) = (0 : Int)) /\ (uY /\ uY /\ wG
 x /\ qS x /\ vI x /\ tP x /\ WM /\ (∀ (n : Int), false = false) /\ (∀ (n : Int), ARF x n = ARF x n) /\ (∀ (n : Int), ASK x n = (AMJ x n).length /\ ∀ (i : Nat), i < ASK x n ->
 (Js x n i).a0 = (Kn x n i).a0 /\ (Js x n i).a1 = (Kn x n i).a1 /\ (Js x n i).b0 = (Kn x n i).b0 /\ (Js x n i).b1 = (Kn x n i).b1) /\ Qj x = (AYQ x).length /\ (∀ (i :
 Nat), BAK i x -> qU x i = (uK x i).st /\ vC x i = (uK x i).lo /\ sI x i = (uK x i).hi) /\ Al x = (AOS x).length /\ (∀ (i : Nat), AQO i x -> Ji x i = gD (AOS
 x) i) /\ AWT x /\ ALJ /\ (0 : Int) <= (2000 : Int)) /\ bif (↑(DW (sB (BkS.mk (xH x) (0 : Int) (0 : Int))) (0 : Int)).length : Int) == (0 : Int) then (Lw x).fst.lo = (0 : Int) /\ (Lw x).fst.hi = (0 : Int)
 /\ (Lw x).snd = (6 : Int) else (uY /\ wG x /\ qS x /\ vI x /\ tP x /\ WM /\ Mj x /\ Kz x /\ AWR x /\ AMK x /\ AJC x /\ AKY x /\ AJZ x /\ WM /\ Mj x /\
 Kz x /\ AWQ x /\ ARA x /\ uY /\ wG x /\ qS x /\ vI x /\ tP x /\ WM /\ Mj x /\ Kz x /\ AWR x /\ AMK x /\ AJC x /\ AKY x /\ AJZ x /\ WM /\
 Mj x /\ Kz x /\ AWQ x /\ ARA x) /\ (Lw x).fst.lo = upMO dr2 (AZZ x) /\ (Lw x).fst.hi = upMO P3 (AZZ x) /\ (Lw x).snd = (0 : Int)) := by kernel_rfl
def CIM (x : GB) : Prop := AY Try.prog CJH BLH (AF BLH) (xGB x) (AC []) (C_Dry.val x) [] [] []
theorem CKK (x : GB) : (CIM x) = (((AD x.g.length λ (i : Nat) => gD x.g i).length = x.g.length /\ (∀ (i : Nat), i < (AD x.g.length λ (i : Nat) => gD x.g i).length -> (gD (AD x.g.length λ (i : Nat) => gD x.g
 i) i).st = (gD x.g i).st /\ (gD (AD x.g.length λ (i : Nat) => gD x.g i) i).lo = (gD x.g i).lo /\ (gD (AD x.g.length λ (i : Nat) => gD x.g i) i).hi = (gD x.g i).hi) /\ (AD x.b.length λ (i : Nat) => gD x.b i).length
 = x.b.length /\ (∀ (i : Nat), i < (AD x.b.length λ (i : Nat) => gD x.b i).length -> gD (AD x.b.length λ (i : Nat) => gD x.b i) i = gD x.b i) /\ (AD x.g.length λ (i : Nat) => gD x.g i).length < 4611686018427387904 /\
 (AD x.b.length λ (i : Nat) => gD x.b i).length < 4611686018427387904 /\ AV (GB.mk (AD x.g.length λ (i : Nat) => gD x.g i) (AD x.b.length λ (i : Nat) => gD x.b i)) ≠ 0) /\ (bif AV (GB.mk (AD x.g.length fun
 (i : Nat) => gD x.g i) (AD x.b.length λ (i : Nat) => gD x.b i)) != 0 then (Lw x).fst.lo = 0 /\ (Lw x).fst.hi = 0 /\ (Lw x).snd = AV (GB.mk (AD x.g.length λ (i : Nat) => gD x.g i) (AD x.b.length λ (i :
 Nat) => gD x.b i)) else False) /\ True) := by kernel_rfl
theorem CPI (x : GB) (h : preB x) (hE : AV x = 0) : CJT x := by
 rw [CML]; delta AFV AHF AGC AIA AGQ BIF uY Ek BHT Qj Nt Am Ig wG sT ATI qU ATJ vC ANO sI qS AML Al Ji SJ XU vI AQD tP AXC WM ARF xH AZP ASK AMJ Js Kn PO AYQ BAK uK AOS AQO AWT ALJ AOI Mj AQX Kz AVV APW uZ BAE tX Jl ASP Mh AMM AYT AMZ AXN AYR AUK AYA AWR AMK AJC AKY AJZ AWQ ARA AZZ; simp only [CC, eq_self, implies_true, forall_const, LB, OO, Vi, Vs, OR, if_true]
 have hb : HI x.g x.b := AIG hE
 have e0 : AV x == 0 := by rw [hE]; rfl
 refine ⟨⟨h.1, h.2, hE⟩, ⟨rfl, rfl, hb, by omega, by omega⟩, λ hc => ?_, λ hc => ⟨⟨rfl, ⟨hb, by omega, by omega⟩, rfl, hb, by omega, by omega⟩, ?_⟩⟩
 ·have hc : ((lnK x 0).length : Int) == 0 := hc
  have e : Lw x = (default, 6) := by
   unfold Lw; rw [e0, decide_eq_true (show (lnK x 0).length = 0 by have := eq_of_beq hc; omega)]; rfl
  rw [e]; exact ⟨rfl, rfl, rfl⟩
 ·have hc : (((lnK x 0).length : Int) == 0) = false := hc
  have e : Lw x = (⟨upMO dr2 ⟨BG x, 0⟩, upMO P3 ⟨BG x, 0⟩⟩, 0) := by
   unfold Lw; rw [e0, decide_eq_false (show ¬(lnK x 0).length = 0 by intro h0; rw [h0] at hc; cases hc)]; rfl
  rw [e]; exact ⟨rfl, rfl, rfl⟩
theorem CQD (x : GB) (h : preB x) (hE : AV x ≠ 0) : CIM x := by
 rw [CKK]; simp only [CC, eq_self, implies_true, forall_const, LB, OO, Vi, Vs, OR, if_true]
 have hE : AV ⟨x.g, x.b⟩ ≠ 0 := hE
 have e0 : (AV ⟨x.g, x.b⟩ == 0) = false := by simpa using hE
 refine ⟨⟨h.1, h.2, hE⟩, λ _ => ?_, λ hc => ?_⟩
 ·have e : Lw x = (default, AV x) := by unfold Lw; rw [show (AV x == 0) = false from e0]; rfl
  rw [e]; exact ⟨rfl, rfl, rfl⟩
 ·exact hE (by simpa using hc)
theorem CKD : AG Try.prog CCV (C_Dry.spec dGB) := Ctr.spec_ok (C := C_Dry) (λ (x : GB) h => by
 have h : preB x := (show preB x /\ True from h).1
 by_cases hE : AV x = 0
 ·exact RD (A := CHU) (L := []) (keep := []) (ren := []) (fz := []) BVV (by kernel_rfl) (AB AGG (AB N0 (AB (Y1 BTL BPV) AE))) (CPI x h hE)
 ·exact RD (A := CJH) (L := []) (keep := []) (ren := []) (fz := []) BVV (by kernel_rfl) (AB AOM (AB N0 (AB (Y1 BTL BPV) AE))) (CQD x h hE)) _
end Go.Bal
