/- The functions of package balance: whole contracts. -/
import Derived.Test.YtonddbmhljelgaaBalR
import Derived.Test.YtonddbmhljelgaaBalT19
import Derived.Test.YtonddbmhljelgaaBalZ2
import Derived.Test.YtonddbmhljelgaaBalU
set_option linter.unusedVariables false
set_option linter.unusedSimpArgs false
namespace Go.Bal
open Go Go.Sym Go.Proofs
def dRow : AVal -> Heap -> Option (Nat × (Nat -> DVal) × List Nat)
 | .d (.list _ n g _), _ => some (n, g, [])
 | .own id _ _ n, H => match H id with
  | .live (.row _ _ g) => some (n, g, [id])
  | _ => none
 | _, _ => none
def dNet : AVal -> Heap -> Option (NetL × List Nat)
 | .d x, _ => match Tf x with
  | some N => some (N, [])
  | none => none
 | .agg [a, b], H => match dRow a H, dRow b H with
  | some (n, g, f1), some (m, r, f2) => some (⟨NO n λ i => ZX (g i), NO m λ i => RN (r i)⟩, f1 ++ f2)
  | _, _ => none
 | _, _ => none
def AKA (a : AVal) (H : Heap) : Option (List Int × List Nat) := match dRow a H with
 | some (n, g, f) => some (NO n λ i => OO (g i), f)
 | none => none
def dTru : AVal -> Heap -> Option (TruthL × List Nat)
 | .d (.agg [.list _ n f _, .list _ m g _]), _ => some (⟨NO n λ i => OO (f i), NO m λ i => OO (g i)⟩, [])
 | .agg [a, b], H => match AKA a H, AKA b H with
  | some (x, f1), some (y, f2) => some (⟨x, y⟩, f1 ++ f2)
  | _, _ => none
 | _, _ => none
def dN : List AVal -> Heap -> Option (NetL × List (Nat × Nat) × List Nat)
 | [x], H => match dNet x H with
  | some (N, f) => some (N, [], f)
  | none => none
 | _, _ => none
def dNT : List AVal -> Heap -> Option (NT × List (Nat × Nat) × List Nat)
 | [x, y], H => match dNet x H, dTru y H with
  | some (N, f), some (T, g) => some (⟨N, T⟩, [], f ++ g)
  | _, _ => none
 | _, _ => none
def agrM (N : NetL) : Bool := decide (AB N = 0) && decide (EV N = 0)
def corT (N : NetL) : TruthL := if AB N = 0 then S1 N else zT
def corC (N : NetL) : Int := if AB N = 0 then EV N else 0
def levT (N : NetL) : List Int := if AB N = 0 then Gn N else []
def xsN (N : NetL) : List AVal := [.d (LW N)]
def C19t : Ctr := { α := NetL, xs := xsN, val := λ N => .tup [.bool (agrM N), .int (AB N)] }
def C20t : Ctr := { α := NetL, xs := xsN, val := λ N => .tup [.d (OG (corT N)), .int (corC N), .int (AB N)] }
def C21t : Ctr := { α := NetL, xs := xsN, val := λ N => .tup [.d (BC (levT N)), .int (AB N)] }
theorem okT (C : Ctr) {g : FuncId} (h : ∀ a, DV (C.pre a) -> FnT Try.prog g (C.xs a) (AD (C.L a)) (C.val a) (C.keep a)) (dec : List AVal -> Heap -> Option (C.α × List (Nat × Nat) × List Nat)) : AH Try.prog g (C.spec dec) := Ctr.spec_ok h dec
theorem BPR : AH Try.prog 19 (C19t.spec dN) := okT C19t (λ (N : NetL) _ => by
 by_cases h : AB N = 0
 ·have := Pb (A := A19) (xs := C19.xs N) (L := []) (val := C19.val N) (keep := []) (ren := []) (fz := []) Try.func19 (by kernel_rfl) (AA ok55 AE) (p19 N h (BY h).1)
  have e : C19t.val N = C19.val N := by show AVal.tup [.bool (agrM N), .int (AB N)] = .tup [.bool (decide (EV N = 0)), .int 0]; unfold agrM; rw [h]; rfl
  rw [e]; exact this
 ·have := Pb (A := A19b) (xs := C19b.xs N) (L := []) (val := C19b.val N) (keep := []) (ren := []) (fz := []) Try.func19 (by kernel_rfl) (AA APX AE) (p19b N h)
  have e : C19t.val N = C19b.val N := by show AVal.tup [.bool (agrM N), .int (AB N)] = .tup [.bool false, .int (AB N)]; unfold agrM; rw [decide_eq_false h]; rfl
  rw [e]; exact this) dN
theorem BQR : AH Try.prog 20 (C20t.spec dN) := okT C20t (λ (N : NetL) _ => by
 by_cases h : AB N = 0
 ·have := Pb (A := A20) (xs := C20.xs N) (L := []) (val := C20.val N) (keep := []) (ren := []) (fz := [5016, 5017]) Try.func20 (by kernel_rfl) (AA ok55 (AA ok56 AE)) (p20 N h (BY h).1)
  have e : C20t.val N = C20.val N := by show AVal.tup [.d (OG (corT N)), .int (corC N), .int (AB N)] = .tup [.d (OG (AW (AI N))), .int (EV N), .int 0]; unfold corT corC; rw [if_pos h, if_pos h, h]; rfl
  rw [e]; exact this
 ·have := Pb (A := A20b) (xs := C20b.xs N) (L := []) (val := C20b.val N) (keep := []) (ren := []) (fz := []) Try.func20 (by kernel_rfl) (AA APX AE) (p20b N h)
  have e : C20t.val N = C20b.val N := by show AVal.tup [.d (OG (corT N)), .int (corC N), .int (AB N)] = .tup [.d (OG zT), .int 0, .int (AB N)]; unfold corT corC; rw [if_neg h, if_neg h]
  rw [e]; exact this) dN
theorem BRQ : AH Try.prog 21 (C21t.spec dN) := okT C21t (λ (N : NetL) _ => by
 by_cases h : AB N = 0
 ·have := Pb (A := A21 N) (xs := C21.xs N) (L := []) (val := C21.val N) (keep := []) (ren := []) (fz := [202]) Try.func21 (by kernel_rfl) (AA ok55 (AA BMQ AE)) (p21 N h (BY h).1 (ANT h))
  have e : C21t.val N = C21.val N := by show AVal.tup [.d (BC (levT N)), .int (AB N)] = .tup [.d (BC (Gn N)), .int 0]; unfold levT; rw [if_pos h, h]
  rw [e]; exact this
 ·have := Pb (A := A21b) (xs := C21b.xs N) (L := []) (val := C21b.val N) (keep := []) (ren := []) (fz := []) Try.func21 (by kernel_rfl) (AA APX AE) (p21b N h)
  have e : C21t.val N = C21b.val N := by show AVal.tup [.d (BC (levT N)), .int (AB N)] = .tup [.d (BC []), .int (AB N)]; unfold levT; rw [if_neg h]
  rw [e]; exact this) dN
def S0 (N : NetL) : List Span := if WM N = 0 then Zj N else []
def fitG (N : NetL) : List Span := if WM N = 0 then qL N else []
theorem Yy {N : NetL} : WM N = 0 ↔ AB N = 0 /\ EV N = 0 := by
 unfold WM
 by_cases h : AB N = 0
 ·rw [if_pos h]
  have := TJ h
  by_cases h2 : 0 < EV N
  ·rw [if_pos h2]; constructor
   ·intro h; cases h
   ·intro h; omega
  ·rw [if_neg h2]; constructor
   ·intro _; exact ⟨h, by omega⟩
   ·intro _; rfl
 ·rw [if_neg h]; constructor
  ·intro h2; exact absurd h2 h
  ·intro h2; exact absurd h2.1 h
def C34t : Ctr := { α := NetL, xs := xsN, val := λ N => .tup [iK (S0 N), iK (fitG N), .int (WM N)] }
theorem BRH : AH Try.prog 34 (C34t.spec dN) := okT C34t (λ (N : NetL) _ => by
 by_cases h : WM N = 0
 ·obtain ⟨h1, h2⟩ := Yy.1 h
  have := Pb (A := A34 N) (xs := C34.xs N) (L := []) (val := C34.val N) (keep := []) (ren := []) (fz := [210, 211]) Try.func34 (by kernel_rfl) (AA ok73 (AA ok74 AE)) (p34 N h1 (BY h1).1 (by omega) (BCR h1 h2))
  have e : C34t.val N = C34.val N := by show AVal.tup [iK (S0 N), iK (fitG N), .int (WM N)] = .tup [iK (Zj N), iK (qL N), .int 0]; unfold S0 fitG; rw [if_pos h, if_pos h, h]
  rw [e]; exact this
 ·have := Pb (A := A34b) (xs := C34b.xs N) (L := []) (val := C34b.val N) (keep := []) (ren := []) (fz := []) Try.func34 (by kernel_rfl) (AA BFF AE) (p34b N h λ h => (BY h).1)
  have e : C34t.val N = C34b.val N := by show AVal.tup [iK (S0 N), iK (fitG N), .int (WM N)] = .tup [iK [], iK [], .int (WM N)]; unfold S0 fitG; rw [if_neg h, if_neg h]
  rw [e]; exact this) dN
def G6 (a : NRF) : TruthL := if FC a = 0 then AW a.res.1 else zT
def C38t : Ctr := { α := NRF, xs := xs38, val := λ a => .tup [.d (OG (G6 a)), .int (FC a)] }
def d38 : List AVal -> Heap -> Option (NRF × List (Nat × Nat) × List Nat)
 | [x, .d (.v (.int _ r)), .d (.v (.int _ q))], H => match dNet x H with
  | some (N, f) => some (⟨N, r, q⟩, [], f)
  | none => none
 | _, _ => none
theorem ASC {a : NRF} (h1 : AB a.N = 0) (h2 : inM a.r 0 (a.N.r.length - 1) = true) (h3 : ¬ 0 < EV a.N) (h4 : inM a.f (-100000000) 100000000 = true) : a.sh.isSome = true := by
 obtain ⟨N, r, f⟩ := a
 have h2 := CV.1 h2
 have h4 := CV.1 h4
 simp only at h1 h2 h3 h4
 have := (tE h1 (by have := TJ h1; omega) (r := r.toNat) (by omega) (f := f) h4).1
 rw [show ((r.toNat : Nat) : Int) = r by omega] at this
 exact this
theorem BPF : AH Try.prog 38 (C38t.spec d38) := okT C38t (λ (a : NRF) _ => by
 by_cases h : FC a = 0
 ·obtain ⟨c1, c2, c3, c4, c5⟩ := G8 h
  have := Pb (A := A38) (xs := C38.xs a) (L := []) (val := C38.val a) (keep := []) (ren := []) (fz := [15016, 15017]) Try.func38 (by kernel_rfl) (AA R7 (AA ok62 (AA ok73 (AA ok77 (AA ok56 AE))))) (p38 a h (BY c1).1 (ASC c1 c2 c3 c4))
  have e : C38t.val a = C38.val a := by show AVal.tup [.d (OG (G6 a)), .int (FC a)] = .tup [.d (OG (AW a.res.1)), .int 0]; unfold G6; rw [if_pos h, h]
  rw [e]; exact this
 ·have e : C38t.val a = C38b.val a := by show AVal.tup [.d (OG (G6 a)), .int (FC a)] = .tup [.d (OG zT), .int (FC a)]; unfold G6; rw [if_neg h]
  rw [e]
  by_cases h6 : 0 < EV a.N
  ·exact Pb (A := A38e) (xs := C38b.xs a) (L := []) (val := C38b.val a) (keep := []) (ren := []) (fz := []) Try.func38 (by kernel_rfl) (AA R7 (AA ok62 (AA BFF AE))) (p38e a h (λ h => (BY h).1) h6)
  ·exact Pb (A := A38) (xs := C38b.xs a) (L := []) (val := C38b.val a) (keep := []) (ren := []) (fz := []) Try.func38 (by kernel_rfl) (AA R7 (AA ok62 (AA ok73 (AA ok77 (AA ok56 AE))))) (p38b a h (λ h => (BY h).1) (λ h1 h2 h3 h4 => ASC h1 h2 h3 h4) h6)) d38
def R1 (N : NetL) : List Int := if YB N = 0 then IR N N.r.length else []
def C25t : Ctr := { α := NetL, xs := xsN, val := λ N => .tup [.d (BC (R1 N)), .int (YB N)] }
theorem AHC {N : NetL} : YB N = 0 ↔ AB N = 0 /\ EV N ≠ 0 := by
 unfold YB
 by_cases h : AB N = 0
 ·rw [if_pos h]
  by_cases h2 : EV N = 0
  ·rw [if_pos h2]; constructor
   ·intro h; cases h
   ·intro h; exact absurd h2 h.2
  ·rw [if_neg h2]; exact ⟨λ _ => ⟨h, h2⟩, λ _ => rfl⟩
 ·rw [if_neg h]; constructor
  ·intro h2; exact absurd h2 h
  ·intro h2; exact absurd h2.1 h
theorem BRG : AH Try.prog 25 (C25t.spec dN) := okT C25t (λ (N : NetL) _ => by
 by_cases h : YB N = 0
 ·obtain ⟨h1, h2⟩ := AHC.1 h
  have := Pb (A := A25 N) (xs := C25.xs N) (L := []) (val := C25.val N) (keep := []) (ren := []) (fz := [202]) Try.func25 (by kernel_rfl) (AA ok19 (AA ok67 (AA ok68 (AA ok56 (AA ok69 (AA ok70 AE)))))) (p25 N h1 (BY h1).1 h2 λ i hi => (ABE h1 hi).1)
  have e : C25t.val N = C25.val N := by show AVal.tup [.d (BC (R1 N)), .int (YB N)] = .tup [.d (BC (IR N N.r.length)), .int 0]; unfold R1; rw [if_pos h, h]
  rw [e]; exact this
 ·have e : C25t.val N = C25b.val N := by show AVal.tup [.d (BC (R1 N)), .int (YB N)] = .tup [.d (BC []), .int (YB N)]; unfold R1; rw [if_neg h]
  rw [e]
  by_cases h1 : AB N = 0
  ·have h3 : EV N = 0 := Classical.byContradiction λ hne => h (AHC.2 ⟨h1, hne⟩)
   exact Pb (A := A25e) (xs := C25b.xs N) (L := []) (val := C25b.val N) (keep := []) (ren := []) (fz := []) Try.func25 (by kernel_rfl) (AA ok19 AE) (p25e N h1 (BY h1).1 h3)
  ·exact Pb (A := A25b) (xs := C25b.xs N) (L := []) (val := C25b.val N) (keep := []) (ren := []) (fz := []) Try.func25 (by kernel_rfl) (AA BRN AE) (p25b N h1)) dN
theorem AAX {n : Nat} : ∀ (l : List Int) {e : Int} (last : Int), e ≠ 0 -> Vb n e last l = e
 | [], _, _, _ => rfl
 | s :: l, e, last, h => by simp only [Vb]; rw [if_neg h]; exact AAX l s h
theorem ACP {n : Nat} : ∀ (l : List Int) (last : Int), Vb n 0 last l = if grpBad n last l then 2 else 0
 | [], _ => rfl
 | s :: l, last => by
  have e1 : Vb n 0 last (s :: l) = Vb n (if inM s (wr (last + 1)) (wr ((n : Int) - 1)) then 0 else 2) s l := rfl
  have e2 : grpBad n last (s :: l) = (!inM s (wr (last + 1)) (wr ((n : Int) - 1)) || grpBad n s l) := rfl
  rw [e1, e2]
  generalize inM s (wr (last + 1)) (wr ((n : Int) - 1)) = b
  cases b with
  | true => exact ACP l s
  | false => exact AAX l s (by decide)
theorem AZP (a : NGr) : Mt a = if AB a.N = 0 then if grpBad a.N.g.length (-1) a.st = true ∨ a.st.length = 0 then 2 else if 0 < EV a.N then 6 else 0 else AB a.N := by
 unfold Mt yV hY
 by_cases h : AB a.N = 0
 ·rw [h, ACP, if_pos rfl]
  cases hb : grpBad a.N.g.length (-1) a.st with
  | true => simp
  | false =>
   simp only [Bool.false_eq_true, if_false, if_true, false_or]
   by_cases hl : a.st.length = 0
   ·simp [hl]
   ·simp only [hl, if_false, if_true]
    unfold WM; rw [if_pos h]
 ·rw [AAX _ _ h, if_neg h, if_neg h, if_neg h]
theorem AKM {a : NGr} : Mt a = 0 ↔ AB a.N = 0 /\ grpBad a.N.g.length (-1) a.st = false /\ a.st.length ≠ 0 /\ EV a.N = 0 := by
 rw [AZP]
 by_cases h : AB a.N = 0
 ·rw [if_pos h]
  have hn := TJ h
  by_cases hb : grpBad a.N.g.length (-1) a.st = true ∨ a.st.length = 0
  ·rw [if_pos hb]
   constructor
   ·intro h; cases h
   ·rintro ⟨_, h1, h2, _⟩
    rcases hb with hb | hb
    ·rw [h1] at hb; cases hb
    ·exact absurd hb h2
  ·rw [if_neg hb]
   have hb1 : grpBad a.N.g.length (-1) a.st = false := by cases x : grpBad a.N.g.length (-1) a.st <;> simp_all
   have hb2 : a.st.length ≠ 0 := λ h => hb (.inr h)
   by_cases h2 : 0 < EV a.N
   ·rw [if_pos h2]; constructor
    ·intro h; cases h
    ·rintro ⟨_, _, _, h3⟩; omega
   ·rw [if_neg h2]; exact ⟨λ _ => ⟨h, hb1, hb2, by omega⟩, λ _ => rfl⟩
 ·rw [if_neg h]; constructor
  ·intro h2; exact absurd h2 h
  ·intro h2; exact absurd h2.1 h
def grpT (a : NGr) : Span := if Mt a = 0 then To a else ⟨0, 0⟩
def C35t : Ctr := { α := NGr, xs := xs35, val := λ a => .tup [.d (OW (grpT a)), .int (Mt a)], pre := λ a => [a.st.length <= 1000000] }
def dGr : List AVal -> Heap -> Option (NGr × List (Nat × Nat) × List Nat)
 | [x, y], H => match dNet x H, AKA y H with
  | some (N, f), some (l, g) => some (⟨N, l⟩, [], f ++ g)
  | _, _ => none
 | _, _ => none
theorem BRJ : AH Try.prog 35 (C35t.spec dGr) := okT C35t (λ (a : NGr) hl => by
 have hl : a.st.length <= 1000000 := hl
 by_cases h : Mt a = 0
 ·obtain ⟨h1, h2, h3, h4⟩ := AKM.1 h
  have := Pb (A := A35 a) (xs := C35.xs a) (L := []) (val := C35.val a) (keep := []) (ren := []) (fz := []) Try.func35 (by kernel_rfl) (AA R7 (AA ok62 (AA ok73 (AA ok75 (AA ok74 AE))))) (p35 a h1 (BY h1).1 (by omega) h2 ⟨by omega, hl⟩ (AGM h1 h4 h2).1)
  have e : C35t.val a = C35.val a := by show AVal.tup [.d (OW (grpT a)), .int (Mt a)] = .tup [.d (OW (To a)), .int 0]; unfold grpT; rw [if_pos h, h]
  rw [e]; exact this
 ·have := Pb (A := A35b a) (xs := C35b.xs a) (L := []) (val := C35b.val a) (keep := []) (ren := []) (fz := []) Try.func35 (by kernel_rfl) (AA R7 (AA ok62 (AA BFF AE))) (p35b a h (λ h => (BY h).1) (by omega))
  have e : C35t.val a = C35b.val a := by show AVal.tup [.d (OW (grpT a)), .int (Mt a)] = .tup [.d (OW ⟨0, 0⟩), .int (Mt a)]; unfold grpT; rw [if_neg h]
  rw [e]; exact this) dGr
end Go.Bal

namespace Go.Bal.DL
open Go.Sym Go
theorem m1 (n : Int) : OO (.v (.int .u8 n)) = n := rfl
end Go.Bal.DL
namespace Go.Bal
open Go Go.Sym Go.Proofs
structure Stm where
 bs : List Int
 used : Int
 mix : Int
 deriving Inhabited
end Go.Bal
namespace Go.Bal.DL
theorem m2 (s : Stm) : Stm.mk s.bs s.used s.mix = s := rfl
end Go.Bal.DL
namespace Go.Bal
open Go Go.Sym Go.Proofs
def Oq (s : Stm) : Int := if s.bs.length <= s.used then wr (wr (gD s.bs (s.used.tmod s.bs.length).toNat) + wr (wr (11 * s.mix) + wr (s.used.tdiv s.bs.length))) else wr (gD s.bs (s.used.tmod s.bs.length).toNat)
def N8 (s : Stm) : Int := (wr (wr (wr (5 * s.mix) + Oq s) + 1)).tmod 251
def idle (s : Stm) (n : Int) : Bool := if n < 2 then true else decide (s.bs.length = 0)
def PO (s : Stm) (n : Int) : Stm := if idle s n then s else ⟨s.bs, wr (s.used + 1), N8 s⟩
def KY (s : Stm) (n : Int) : Int := if idle s n then 0 else (if 256 < n then wr (wr (256 * Oq s) + N8 s) else Oq s).tmod n
def witN (lo hi : Int) : Int := wr (wr (hi - lo) + 1)
def witV (s : Stm) (lo hi : Int) : Int := wr (lo + KY s (witN lo hi))
def witS (s : Stm) (lo hi : Int) : Stm := PO s (witN lo hi)
theorem BLF {a b : Int} (ha : 0 <= a) (hb : 0 < b) : 0 <= a.tmod b /\ a.tmod b < b := by
 rw [Int.tmod_eq_emod_of_nonneg ha]
 exact ⟨Int.emod_nonneg _ (by omega), Int.emod_lt_of_pos _ hb⟩
structure StmB (K : Int) (s : Stm) : Prop where
 used : 0 <= s.used /\ s.used <= K
 mix : 0 <= s.mix /\ s.mix < 251
 bs : ∀ i, i < s.bs.length -> 0 <= gD s.bs i /\ gD s.bs i <= 255
theorem ANP {a b : Int} (ha : 0 <= a) (hb : 0 < b) : 0 <= a.tmod b /\ a.tmod b < b := by
 rw [Int.tmod_eq_emod_of_nonneg ha]
 exact ⟨Int.emod_nonneg _ (by omega), Int.emod_lt_of_pos _ hb⟩
theorem AQP {K : Int} {s : Stm} (h : StmB K s) (hK : K <= 1000000000000000) (hb : s.bs.length ≠ 0) : 0 <= Oq s /\ Oq s <= 1000000000010000 := by
 have hu := h.used
 have hm := h.mix
 have hi := ANP hu.1 (show 0 < (s.bs.length : Int) by omega)
 have hx := h.bs (s.used.tmod s.bs.length).toNat (by omega)
 have hq : 0 <= s.used.tdiv s.bs.length /\ s.used.tdiv s.bs.length <= 1000000000000000 := by
  rw [Int.tdiv_eq_ediv_of_nonneg hu.1]
  refine ⟨Int.ediv_nonneg hu.1 (by omega), ?_⟩
  have := Int.ediv_le_self (s.bs.length : Int) hu.1
  omega
 have e0 : wr (gD s.bs (s.used.tmod s.bs.length).toNat) = gD s.bs (s.used.tmod s.bs.length).toNat := Gp (by omega) (by omega)
 have e1 : wr (11 * s.mix) = 11 * s.mix := Gp (by omega) (by omega)
 have e2 : wr (s.used.tdiv s.bs.length) = s.used.tdiv s.bs.length := Gp (by omega) (by omega)
 have e3 : wr (11 * s.mix + s.used.tdiv s.bs.length) = 11 * s.mix + s.used.tdiv s.bs.length := Gp (by omega) (by omega)
 have e4 : wr (gD s.bs (s.used.tmod s.bs.length).toNat + (11 * s.mix + s.used.tdiv s.bs.length)) = gD s.bs (s.used.tmod s.bs.length).toNat + (11 * s.mix + s.used.tdiv s.bs.length) := Gp (by omega) (by omega)
 unfold Oq
 rw [e0, e1, e2, e3, e4]
 split <;> omega
theorem ASE {K : Int} {s : Stm} (h : StmB K s) (hK : K <= 1000000000000000) (hb : s.bs.length ≠ 0) : 0 <= N8 s /\ N8 s < 251 := by
 have hm := h.mix
 have hn := AQP h hK hb
 have e1 : wr (5 * s.mix) = 5 * s.mix := Gp (by omega) (by omega)
 have e2 : wr (5 * s.mix + Oq s) = 5 * s.mix + Oq s := Gp (by omega) (by omega)
 have e3 : wr (5 * s.mix + Oq s + 1) = 5 * s.mix + Oq s + 1 := Gp (by omega) (by omega)
 unfold N8
 rw [e1, e2, e3]
 exact ANP (by omega) (by omega)
theorem BGU {s : Stm} {n : Int} (h : idle s n = false) : 2 <= n /\ s.bs.length ≠ 0 := by
 unfold idle at h
 by_cases x : n < 2
 ·rw [if_pos x] at h; cases h
 ·rw [if_neg x] at h; exact ⟨by omega, by simpa using h⟩
theorem StmB.mono {K M : Int} {s : Stm} (h : StmB K s) (hK : K <= M) : StmB M s := ⟨⟨h.used.1, by have := h.used; omega⟩, h.mix, h.bs⟩
theorem StmB.next {K : Int} {s : Stm} (h : StmB K s) (hK : K <= 1000000000000000) (n : Int) : StmB (K + 1) (PO s n) := by
 unfold PO
 cases hi : idle s n with
 | true => exact h.mono (by omega)
 | false =>
  obtain ⟨_, hb⟩ := BGU hi
  have hu := h.used
  have e : wr (s.used + 1) = s.used + 1 := Gp (by omega) (by omega)
  refine ⟨?_, ASE h hK hb, h.bs⟩
  show 0 <= wr (s.used + 1) /\ wr (s.used + 1) <= K + 1
  rw [e]; omega
theorem Zl {K : Int} {s : Stm} (h : StmB K s) (hK : K <= 1000000000000000) (n : Int) : 0 <= KY s n /\ (1 <= n -> KY s n < n) := by
 unfold KY
 cases hi : idle s n with
 | true => exact ⟨Int.le_refl _, λ h => by show (0 : Int) < n; omega⟩
 | false =>
  obtain ⟨hn, hb⟩ := BGU hi
  have h1 := AQP h hK hb
  have h2 := ASE h hK hb
  have e1 : wr (256 * Oq s) = 256 * Oq s := Gp (by omega) (by omega)
  have e2 : wr (256 * Oq s + N8 s) = 256 * Oq s + N8 s := Gp (by omega) (by omega)
  rw [e1, e2]
  have := ANP (a := if 256 < n then 256 * Oq s + N8 s else Oq s) (b := n) (by split <;> omega) (by omega)
  exact ⟨this.1, λ _ => this.2⟩
theorem AZF {K : Int} {s : Stm} (h : StmB K s) (hK : K <= 1000000000000000) {lo hi : Int} (h1 : -1000000000 <= lo) (h2 : lo <= hi) (h3 : hi <= 1000000000) : lo <= witV s lo hi /\ witV s lo hi <= hi := by
 have e1 : wr (hi - lo) = hi - lo := Gp (by omega) (by omega)
 have e2 : wr (hi - lo + 1) = hi - lo + 1 := Gp (by omega) (by omega)
 unfold witV witN
 rw [e1, e2]
 have := Zl h hK (hi - lo + 1)
 have h4 := this.2 (by omega)
 have e3 : wr (lo + KY s (hi - lo + 1)) = lo + KY s (hi - lo + 1) := Gp (by omega) (by omega)
 rw [e3]; omega
end Go.Bal

namespace Go.Bal
open Go Go.Sym Go.Proofs
def rowR (l : List Reach) : HCell := .live (.row 4 l.length λ i => Ms (gD l i))
end Go.Bal

namespace Go.Bal
open Go Go.Sym Go.Proofs
structure MS where
 s : Stm
 r : List Reach
 f : List Int
 m : List Int
 deriving Inhabited
def AYD (st : Int) (a : MS) : Stm := witS (PO a.s st) 1 (wr (st - 1))
def UO (st : Int) (a : MS) : Int := witV (AYD st a) (-20) 120
def Ga (st : Int) (a : MS) : Stm := witS (AYD st a) (-20) 120
def Cx (st : Int) (a : MS) : Int := KY a.s st
def Ag (st : Int) (a : MS) : Int := (wr (KY a.s st + witV (PO a.s st) 1 (wr (st - 1)))).tmod st
def TI (st : Int) (a : MS) : MS := ⟨PO (PO (Ga st a) 9) 9, a.r ++ [⟨Cx st a, Ag st a, ⟨wr (UO st a - KY (Ga st a) 9), wr (UO st a + KY (PO (Ga st a) 9) 9)⟩⟩], a.f ++ [UO st a], (a.m.modify (Cx st a).toNat λ y => wr (y - UO st a)).modify (Ag st a).toNat λ y => wr (y + UO st a)⟩
def AAL : Nat -> Int -> MS -> MS
 | 0, _, a => a
 | k + 1, st, a => AAL k st (TI st a)
structure GS where
 s : Stm
 g : List Span
 t : List Int
 deriving Inhabited
def Vd (x : Int) (a : GS) : GS := ⟨PO (PO a.s 9) 9, a.g ++ [⟨wr (x - KY a.s 9), wr (x + KY (PO a.s 9) 9)⟩], a.t ++ [x]⟩
def ANL : List Int -> GS -> GS
 | [], a => a
 | x :: l, a => ANL l (Vd (wr (-x)) a)
structure Mx (st : Int) (K : Int) (a : MS) : Prop where
 s0 : StmB (K + 1) (PO a.s st)
 x : StmB (K + 2) (AYD st a)
 y : StmB (K + 3) (Ga st a)
 z : StmB (K + 4) (PO (Ga st a) 9)
 s : StmB (K + 5) (TI st a).s
 fr : 0 <= Cx st a /\ Cx st a < st
 to : 0 <= Ag st a /\ Ag st a < st
 ne : Cx st a ≠ Ag st a
 v : -20 <= UO st a /\ UO st a <= 120
 lo : 0 <= KY (Ga st a) 9 /\ KY (Ga st a) 9 < 9
 hi : 0 <= KY (PO (Ga st a) 9) 9 /\ KY (PO (Ga st a) 9) 9 < 9
theorem APW {st K : Int} (hst : 2 <= st /\ st <= 8) {a : MS} (h : StmB K a.s) (hK : K <= 100000000000000) : Mx st K a := by
 have s0 := h.next (by omega) st
 have ew : wr (st - 1) = st - 1 := Gp (by omega) (by omega)
 have x : StmB (K + 2) (AYD st a) := (s0.next (by omega) (witN 1 (wr (st - 1)))).mono (by omega)
 have y : StmB (K + 3) (Ga st a) := (x.next (by omega) (witN (-20) 120)).mono (by omega)
 have z : StmB (K + 4) (PO (Ga st a) 9) := (y.next (by omega) 9).mono (by omega)
 have s : StmB (K + 5) (TI st a).s := (z.next (by omega) 9).mono (by omega)
 have f := Zl h (by omega) st
 have fr : 0 <= Cx st a /\ Cx st a < st := ⟨f.1, f.2 (by omega)⟩
 have w := AZF s0 (by omega) (lo := 1) (hi := wr (st - 1)) (by omega) (by omega) (by omega)
 rw [ew] at w
 have e : wr (KY a.s st + witV (PO a.s st) 1 (st - 1)) = KY a.s st + witV (PO a.s st) 1 (st - 1) := Gp (by omega) (by omega)
 have et : Ag st a = (KY a.s st + witV (PO a.s st) 1 (st - 1)) % st := by
  unfold Ag; rw [ew, e, Int.tmod_eq_emod_of_nonneg (by omega)]
 have to : 0 <= Ag st a /\ Ag st a < st := by rw [et]; exact ⟨Int.emod_nonneg _ (by omega), Int.emod_lt_of_pos _ (by omega)⟩
 refine ⟨s0, x, y, z, s, fr, to, ?_, AZF x (by omega) (by omega) (by omega) (by omega), ?_, ?_⟩
 ·rw [et]
  unfold Cx
  intro he
  by_cases hlt : KY a.s st + witV (PO a.s st) 1 (st - 1) < st
  ·rw [Int.emod_eq_of_lt (by omega) hlt] at he; omega
  ·rw [<- Int.sub_emod_right, Int.emod_eq_of_lt (by omega) (by omega)] at he; omega
 ·have := Zl y (by omega) 9; exact ⟨this.1, this.2 (by omega)⟩
 ·have := Zl z (by omega) 9; exact ⟨this.1, this.2 (by omega)⟩
theorem BGS (st : Int) (a : MS) : (TI st a).r.length = a.r.length + 1 /\ (TI st a).f.length = a.f.length + 1 /\ (TI st a).m.length = a.m.length := by simp [TI]
theorem mr_r (st : Int) (a : MS) {i : Nat} (hi : i < a.r.length + 1) : (gD (TI st a).r i).fr = (bif decide (i < a.r.length) then (gD a.r i).fr else Cx st a) /\ (gD (TI st a).r i).to = (bif decide (i < a.r.length) then (gD a.r i).to else Ag st a) /\ (gD (TI st a).r i).sp.lo = (bif decide (i < a.r.length) then (gD a.r i).sp.lo else wr (UO st a - KY (Ga st a) 9)) /\ (gD (TI st a).r i).sp.hi = (bif decide (i < a.r.length) then (gD a.r i).sp.hi else wr (UO st a + KY (PO (Ga st a) 9) 9)) := by
 have e : (TI st a).r = a.r ++ [⟨Cx st a, Ag st a, ⟨wr (UO st a - KY (Ga st a) 9), wr (UO st a + KY (PO (Ga st a) 9) 9)⟩⟩] := by simp only [TI]
 rw [e, CP]
 by_cases h : i < a.r.length
 ·simp [h]
 ·have : i - a.r.length = 0 := by omega
  simp only [h, if_false, decide_false, cond_false, this]
  exact ⟨rfl, rfl, rfl, rfl⟩
theorem mr_f (st : Int) (a : MS) {i : Nat} (hi : i < a.f.length + 1) : gD (TI st a).f i = bif decide (i < a.f.length) then gD a.f i else UO st a := by
 have e : (TI st a).f = a.f ++ [UO st a] := by simp only [TI]
 rw [e, CP]
 by_cases h : i < a.f.length
 ·simp [h]
 ·have : i - a.f.length = 0 := by omega
  simp only [h, if_false, decide_false, cond_false, this]; rfl
theorem mr_m {st : Int} {a : MS} (hf : (Cx st a).toNat < a.m.length) (ht : (Ag st a).toNat < a.m.length) (hne : (Ag st a).toNat ≠ (Cx st a).toNat) (i : Nat) : gD (TI st a).m i = bif decide (i = (Ag st a).toNat) then wr (gD a.m (Ag st a).toNat + UO st a) else bif decide (i = (Cx st a).toNat) then wr (gD a.m (Cx st a).toNat - UO st a) else gD a.m i := by
 have e : (TI st a).m = (a.m.modify (Cx st a).toNat λ y => wr (y - UO st a)).modify (Ag st a).toNat λ y => wr (y + UO st a) := by simp only [TI]
 rw [e, BD (by rw [List.length_modify]; exact ht), BD hf, BD hf, if_neg hne]
 by_cases h1 : i = (Ag st a).toNat
 ·simp [h1]
 ·by_cases h2 : i = (Cx st a).toNat
  ·simp [h1, h2]
  ·simp [h1, h2]
theorem BOX (x : Int) (a : GS) : (Vd x a).g.length = a.g.length + 1 /\ (Vd x a).t.length = a.t.length + 1 := by simp [Vd]
theorem mg_g (x : Int) (a : GS) {i : Nat} (hi : i < a.g.length + 1) : (gD (Vd x a).g i).lo = (bif decide (i < a.g.length) then (gD a.g i).lo else wr (x - KY a.s 9)) /\ (gD (Vd x a).g i).hi = (bif decide (i < a.g.length) then (gD a.g i).hi else wr (x + KY (PO a.s 9) 9)) := by
 have e : (Vd x a).g = a.g ++ [⟨wr (x - KY a.s 9), wr (x + KY (PO a.s 9) 9)⟩] := by simp only [Vd]
 rw [e, CP]
 by_cases h : i < a.g.length
 ·simp [h]
 ·have : i - a.g.length = 0 := by omega
  simp only [h, if_false, decide_false, cond_false, this]
  exact ⟨rfl, rfl⟩
theorem mg_t (x : Int) (a : GS) {i : Nat} (hi : i < a.t.length + 1) : gD (Vd x a).t i = bif decide (i < a.t.length) then gD a.t i else x := by
 have e : (Vd x a).t = a.t ++ [x] := by simp only [Vd]
 rw [e, CP]
 by_cases h : i < a.t.length
 ·simp [h]
 ·have : i - a.t.length = 0 := by omega
  simp only [h, if_false, decide_false, cond_false, this]; rfl
theorem mg_s (x : Int) (a : GS) : (Vd x a).s = PO (PO a.s 9) 9 := by simp only [Vd]
end Go.Bal
