/- Package rating: Dry. -/
import Derived.Test.YtoihhodbkimedaaGreatRatO
set_option linter.unusedVariables false
set_option linter.unusedSimpArgs false
namespace Go.Bal
open Go Go.Sym Go.Proofs
def EN (a : GB) : Span × Int := bif AH a == 0 then (bif decide ((lnK a 0).length = 0) then (default, 6) else (⟨TL Yv ⟨AP a, 0⟩, TL nZ ⟨AP a, 0⟩⟩, 0)) else (default, AH a)
def C_Dry : Ctr := { α := GB, xs := xGB, L := λ _ => [], val := λ x => .tup [.d (AFS (EN x).1), .int (EN x).2], keep := λ _ => [], pre := λ x => [preB x /\ True] }
def G_dy (c : Sym.Spec) : List (FuncId × Sym.Spec) := [(QA, c), (tN, C_lns.spec dBkS), (iU, orS ((WA Yv MF).spec (dUpO MF)) ((WA nZ ML).spec (dUpO ML)))]
def CPS : Ann := ann 31 (G_dy (C_open.spec dGB))
def COT : Ann := { ann 31 (G_dy (C_openX.spec dGB)) with cut := λ id => if id = 4 then some [] else none }
def COU (x : GB) : Prop := AN Try.prog CPS BNL (AF BNL) (xGB x) (AC []) (C_Dry.val x) [] [] []
abbrev AGK (x : GB) : List Gau := AE x.g.length λ (i : Nat) => gD x.g i
abbrev AIP (x : GB) : Nat := (AGK x).length
abbrev AGM (x : GB) (i : Nat) : Gau := gD (AGK x) i
abbrev AIU (x : GB) : List Int := AE x.b.length λ (i : Nat) => gD x.b i
abbrev AGH (x : GB) : Nat := (AIU x).length
abbrev BDC (x : GB) : GB := GB.mk (AGK x) (AIU x)
abbrev qJ : Prop := (0 : Int) = Int.ofNat (0 : Nat)
abbrev Dr (x : GB) : Bk := AP (BDC x)
abbrev BCS (x : GB) : List Gau := (Dr x).g
abbrev Tf (x : GB) : Nat := (BCS x).length
abbrev Ld (x : GB) (i : Nat) : Gau := gD (BCS x) i
abbrev XG (x : GB) : List Gau := AE (Tf x) λ (i : Nat) => Ld x i
abbrev Pp (x : GB) : Nat := (XG x).length
abbrev oJ (x : GB) : Prop := Pp x = Tf x
abbrev pP (x : GB) (i : Nat) : Gau := gD (XG x) i
abbrev AQA (x : GB) (i : Nat) : Int := (pP x i).st
abbrev sS (x : GB) (i : Nat) : Int := (Ld x i).st
abbrev ARZ (x : GB) (i : Nat) : Int := (pP x i).lo
abbrev uG (x : GB) (i : Nat) : Int := (Ld x i).lo
abbrev ANS (x : GB) (i : Nat) : Int := (pP x i).hi
abbrev tY (x : GB) (i : Nat) : Int := (Ld x i).hi
abbrev xH (x : GB) : Prop := ∀ (i : Nat), i < Pp x -> AQA x i = sS x i /\ ARZ x i = uG x i /\ ANS x i = tY x i
abbrev AWP (x : GB) : List Int := (Dr x).b
abbrev Bm (x : GB) : Nat := (AWP x).length
abbrev Ly (x : GB) (i : Nat) : Int := gD (AWP x) i
abbrev TI (x : GB) : List Int := AE (Bm x) λ (i : Nat) => Ly x i
abbrev Bp (x : GB) : Nat := (TI x).length
abbrev xK (x : GB) : Prop := Bp x = Bm x
abbrev APK (x : GB) (i : Nat) : Int := gD (TI x) i
abbrev xP (x : GB) : Prop := ∀ (i : Nat), i < Bp x -> APK x i = Ly x i
abbrev AZA : Value := Value.slice none (0 : Nat) (0 : Nat)
abbrev Av : Prop := AZA = AZA
abbrev AVR (x : GB) (n : Int) : Int := (Dr x).st n
abbrev tX (x : GB) : Bk := Bk.mk (XG x) (TI x) (Dr x).has (Dr x).st
abbrev AKX (x : GB) (n : Int) : List Ln := AK (tX x) n
abbrev ATG (x : GB) (n : Int) : Nat := (AKX x n).length
abbrev AXZ (x : GB) (n : Int) : List Ln := AK (Dr x) n
abbrev Kz (x : GB) (n : Int) (i : Nat) : Ln := gD (AKX x n) i
abbrev Mn (x : GB) (n : Int) (i : Nat) : Ln := gD (AXZ x n) i
abbrev PY (x : GB) : Bk := CF (tX x) (0 : Int)
abbrev ALB (x : GB) : List Gau := (PY x).g
abbrev AUP (i : Nat) (x : GB) : Prop := i < Tf x
abbrev uR (x : GB) (i : Nat) : Gau := gD (ALB x) i
abbrev AYO (x : GB) : List Int := (PY x).b
abbrev AWX (i : Nat) (x : GB) : Prop := i < Bm x
abbrev AXE (x : GB) : Prop := Pp x <= (24 : Nat) /\ (∀ (x_1 : Gau), List.Mem x_1 (XG x) -> (0 : Int) <= x_1.st /\ x_1.st <= (2000 : Int) /\ (0 : Int) <= x_1.lo /\ x_1.lo <= x_1.hi /\ x_1.hi <= (200000 : Int)) /\
 Bp x <= (24 : Nat) /\ List.Pairwise (λ (x1 x2 : Int) => x1 < x2) (TI x) /\ ∀ (x_1 : Int), List.Mem x_1 (TI x) -> (1 : Int) <= x_1 /\ x_1 <= (2000 : Int)
abbrev AXL : Prop := (0 : Int) <= (0 : Int)
abbrev ASS (x : GB) (n : Int) : Bool := (PY x).has n
abbrev Mb (x : GB) : Prop := ∀ (n : Int), ASS x n = ASS x n
abbrev AYH (x : GB) (n : Int) : Int := (PY x).st n
abbrev Of (x : GB) : Prop := ∀ (n : Int), AYH x n = AYH x n
abbrev AUG (x : GB) : Bk := Bk.mk (XG x) (TI x) (PY x).has (PY x).st
abbrev AWY (x : GB) (n : Int) : List Ln := AK (AUG x) n
abbrev vS (x : GB) (n : Int) : Nat := (AWY x n).length
abbrev AND (x : GB) (n : Int) : List Ln := AK (PY x) n
abbrev tO (x : GB) (n : Int) : Nat := (AND x n).length
abbrev Ny (x : GB) (n : Int) (i : Nat) : Ln := gD (AWY x n) i
abbrev ATS (x : GB) (n : Int) (i : Nat) : Int := (Ny x n i).a0
abbrev Ms (x : GB) (n : Int) (i : Nat) : Ln := gD (AND x n) i
abbrev ATO (x : GB) (n : Int) (i : Nat) : Int := (Ms x n i).a0
abbrev AMP (x : GB) (n : Int) (i : Nat) : Int := (Ny x n i).a1
abbrev BAC (x : GB) (n : Int) (i : Nat) : Int := (Ms x n i).a1
abbrev AXR (x : GB) (n : Int) (i : Nat) : Int := (Ny x n i).b0
abbrev AVB (x : GB) (n : Int) (i : Nat) : Int := (Ms x n i).b0
abbrev ASD (x : GB) (n : Int) (i : Nat) : Int := (Ny x n i).b1
abbrev AUT (x : GB) (n : Int) (i : Nat) : Int := (Ms x n i).b1
abbrev APC (x : GB) : Prop := ∀ (n : Int), vS x n = tO x n /\ ∀ (i : Nat), i < vS x n -> ATS x n i = ATO x n i /\ AMP x n i = BAC x n i /\ AXR x n i = AVB x n i /\ ASD
 x n i = AUT x n i
abbrev AVV (x : GB) : Prop := Tf x = Pp x
abbrev AXM (x : GB) : Prop := ∀ (i : Nat), AUP i x -> sS x i = AQA x i /\ uG x i = ARZ x i /\ tY x i = ANS x i
abbrev ASA (x : GB) : Prop := Bm x = Bp x
abbrev AUO (x : GB) : Prop := ∀ (i : Nat), AWX i x -> Ly x i = APK x i
abbrev AKD (x : GB) : Prop := ∀ (n : Int), tO x n = vS x n /\ ∀ (i : Nat), i < tO x n -> ATO x n i = ATS x n i /\ BAC x n i = AMP x n i /\ AVB x n i = AXR x n i /\ AUT
 x n i = ASD x n i
abbrev ALP (x : GB) : Prop := AXE x /\ AXL /\ (0 : Int) <= (↑(Bp x) : Int) /\ true = true
abbrev AMW (x : GB) : BkI := BkI.mk (AUG x) (0 : Int)
theorem CTP (x : GB) : (COU x) = ((AIP x = x.g.length /\ (∀ (i : Nat), i < AIP x -> (AGM x i).st = (gD x.g i).st /\ (AGM x i).lo = (gD x.g i).lo /\ (AGM x i).hi = (gD x.g i).hi) /\ AGH x =
 x.b.length /\ (∀ (i : Nat), i < AGH x -> gD (AIU x) i = gD x.b i) /\ AIP x < (4611686018427387904 : Nat) /\ AGH x < (4611686018427387904 : Nat) /\ AH (BDC x) = (0 : Int)) /\ (qJ /\ qJ /\ oJ
 x /\ xH x /\ xK x /\ xP x /\ Av /\ (∀ (n : Int), false = false) /\ (∀ (n : Int), AVR x n = AVR x n) /\ (∀ (n : Int), ATG x n = (AXZ x n).length /\ ∀ (i : Nat), i < ATG x n ->
 (Kz x n i).a0 = (Mn x n i).a0 /\ (Kz x n i).a1 = (Mn x n i).a1 /\ (Kz x n i).b0 = (Mn x n i).b0 /\ (Kz x n i).b1 = (Mn x n i).b1) /\ Tf x = (ALB x).length /\ (∀ (i :
 Nat), AUP i x -> sS x i = (uR x i).st /\ uG x i = (uR x i).lo /\ tY x i = (uR x i).hi) /\ Bm x = (AYO x).length /\ (∀ (i : Nat), AWX i x -> Ly x i = gD (AYO
 x) i) /\ AXE x /\ AXL /\ (0 : Int) <= (2000 : Int)) /\ bif (↑(CR (sB (BkS.mk (tX x) (0 : Int) (0 : Int))) (0 : Int)).length : Int) == (0 : Int) then (EN x).fst.lo = (0 : Int) /\ (EN x).fst.hi = (0 : Int)
 /\ (EN x).snd = (6 : Int) else (qJ /\ oJ x /\ xH x /\ xK x /\ xP x /\ Av /\ Mb x /\ Of x /\ APC x /\ AVV x /\ AXM x /\ ASA x /\ AUO x /\ Av /\ Mb x /\
 Of x /\ AKD x /\ ALP x /\ qJ /\ oJ x /\ xH x /\ xK x /\ xP x /\ Av /\ Mb x /\ Of x /\ APC x /\ AVV x /\ AXM x /\ ASA x /\ AUO x /\ Av /\
 Mb x /\ Of x /\ AKD x /\ ALP x) /\ (EN x).fst.lo = TL Yv (AMW x) /\ (EN x).fst.hi = TL nZ (AMW x) /\ (EN x).snd = (0 : Int)) := by kernel_rfl
def CQX (x : GB) : Prop := AN Try.prog COT BNL (AF BNL) (xGB x) (AC []) (C_Dry.val x) [] [] []
theorem CRI (x : GB) : (CQX x) = (((AE x.g.length λ (i : Nat) => gD x.g i).length = x.g.length /\ (∀ (i : Nat), i < (AE x.g.length λ (i : Nat) => gD x.g i).length -> (gD (AE x.g.length λ (i : Nat) => gD x.g
 i) i).st = (gD x.g i).st /\ (gD (AE x.g.length λ (i : Nat) => gD x.g i) i).lo = (gD x.g i).lo /\ (gD (AE x.g.length λ (i : Nat) => gD x.g i) i).hi = (gD x.g i).hi) /\ (AE x.b.length λ (i : Nat) => gD x.b i).length
 = x.b.length /\ (∀ (i : Nat), i < (AE x.b.length λ (i : Nat) => gD x.b i).length -> gD (AE x.b.length λ (i : Nat) => gD x.b i) i = gD x.b i) /\ (AE x.g.length λ (i : Nat) => gD x.g i).length < 4611686018427387904 /\
 (AE x.b.length λ (i : Nat) => gD x.b i).length < 4611686018427387904 /\ AH (GB.mk (AE x.g.length λ (i : Nat) => gD x.g i) (AE x.b.length λ (i : Nat) => gD x.b i)) ≠ 0) /\ (bif AH (GB.mk (AE x.g.length fun
 (i : Nat) => gD x.g i) (AE x.b.length λ (i : Nat) => gD x.b i)) != 0 then (EN x).fst.lo = 0 /\ (EN x).fst.hi = 0 /\ (EN x).snd = AH (GB.mk (AE x.g.length λ (i : Nat) => gD x.g i) (AE x.b.length λ (i :
 Nat) => gD x.b i)) else False) /\ True) := by kernel_rfl
theorem CVG (x : GB) (h : preB x) (hE : AH x = 0) : COU x := by
 rw [CTP]; delta AGK AIP AGM AIU AGH BDC qJ Dr BCS Tf Ld XG Pp oJ pP AQA sS ARZ uG ANS tY xH AWP Bm Ly TI Bp xK APK xP AZA Av AVR tX AKX ATG AXZ Kz Mn PY ALB AUP uR AYO AWX AXE AXL ASS Mb AYH Of AUG AWY vS AND tO Ny ATS Ms ATO AMP BAC AXR AVB ASD AUT APC AVV AXM ASA AUO AKD ALP AMW; simp only [CC, eq_self, implies_true, forall_const, JG, JP, Iz, Iy, JT, if_true]
 have hb : GZ x.g x.b := HP hE
 have e0 : AH x == 0 := by rw [hE]; rfl
 refine ⟨⟨h.1, h.2, hE⟩, ⟨rfl, rfl, hb, by omega, by omega⟩, λ hc => ?_, λ hc => ⟨⟨rfl, ⟨hb, by omega, by omega⟩, rfl, hb, by omega, by omega⟩, ?_⟩⟩
 ·have hc : ((lnK x 0).length : Int) == 0 := hc
  have e : EN x = (default, 6) := by
   unfold EN; rw [e0, decide_eq_true (show (lnK x 0).length = 0 by have := eq_of_beq hc; omega)]; rfl
  rw [e]; exact ⟨rfl, rfl, rfl⟩
 ·have hc : (((lnK x 0).length : Int) == 0) = false := hc
  have e : EN x = (⟨TL Yv ⟨AP x, 0⟩, TL nZ ⟨AP x, 0⟩⟩, 0) := by
   unfold EN; rw [e0, decide_eq_false (show ¬(lnK x 0).length = 0 by intro h0; rw [h0] at hc; cases hc)]; rfl
  rw [e]; exact ⟨rfl, rfl, rfl⟩
theorem CXA (x : GB) (h : preB x) (hE : AH x ≠ 0) : CQX x := by
 rw [CRI]; simp only [CC, eq_self, implies_true, forall_const, JG, JP, Iz, Iy, JT, if_true]
 have hE : AH ⟨x.g, x.b⟩ ≠ 0 := hE
 have e0 : (AH ⟨x.g, x.b⟩ == 0) = false := by simpa using hE
 refine ⟨⟨h.1, h.2, hE⟩, λ _ => ?_, λ hc => ?_⟩
 ·have e : EN x = (default, AH x) := by unfold EN; rw [show (AH x == 0) = false from e0]; rfl
  rw [e]; exact ⟨rfl, rfl, rfl⟩
 ·exact hE (by simpa using hc)
theorem CGT : AG Try.prog BVX (C_Dry.spec dGB) := Ctr.spec_ok (C := C_Dry) (λ (x : GB) h => by
 have h : preB x := (show preB x /\ True from h).1
 by_cases hE : AH x = 0
 ·exact KZ (A := CPS) (L := []) (keep := []) (ren := []) (fz := []) CBM (by kernel_rfl) (AB xA (AB Q8 (AB (Ha BXH BTE) AD))) (CVG x h hE)
 ·exact KZ (A := COT) (L := []) (keep := []) (ren := []) (fz := []) CBM (by kernel_rfl) (AB oN (AB Q8 (AB (Ha BXH BTE) AD))) (CXA x h hE)) _
end Go.Bal
