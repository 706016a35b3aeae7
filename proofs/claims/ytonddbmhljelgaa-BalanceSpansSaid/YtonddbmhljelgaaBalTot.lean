/- The functions of package balance: whole contracts. -/
import Derived.Test.YtonddbmhljelgaaBalR
import Derived.Test.YtonddbmhljelgaaBalT18
import Derived.Test.YtonddbmhljelgaaBalT19
import Derived.Test.YtonddbmhljelgaaBalZ2
import Derived.Test.YtonddbmhljelgaaBalU
set_option linter.unusedVariables false
set_option linter.unusedSimpArgs false
namespace Go.Bal
open Go Go.Sym Go.Proofs
def Za : AVal -> Heap -> Option (Nat × (Nat -> DVal) × List Nat)
 | .d (.list _ n g _), _ => some (n, g, [])
 | .own id _ _ n, H => match H id with
  | .live (.row _ _ g) => some (n, g, [id])
  | _ => none
 | _, _ => none
def Si : AVal -> Heap -> Option (NetL × List Nat)
 | .d x, _ => match MV x with
  | some N => some (N, [])
  | none => none
 | .agg [a, b], H => match Za a H, Za b H with
  | some (n, g, f1), some (m, r, f2) => some (⟨AD n λ i => IC (g i), AD m λ i => FM (r i)⟩, f1 ++ f2)
  | _, _ => none
 | _, _ => none
def Uk (a : AVal) (H : Heap) : Option (List Int × List Nat) := match Za a H with
 | some (n, g, f) => some (AD n λ i => FH (g i), f)
 | none => none
def dN : List AVal -> Heap -> Option (NetL × List (Nat × Nat) × List Nat)
 | [x], H => match Si x H with
  | some (N, f) => some (N, [], f)
  | none => none
 | _, _ => none
def Fa (N : NetL) : Bool := decide (AC N = 0) && decide (BK N = 0)
def Mh (N : NetL) : TruthL := if AC N = 0 then Ai N else zT
def Fd (N : NetL) : Int := if AC N = 0 then BK N else 0
def Mm (N : NetL) : List Int := if AC N = 0 then JJ N else []
def Yg (N : NetL) : List AVal := [.d (EI N)]
def C19t : Ctr := { α := NetL, xs := Yg, val := λ N => .tup [.bool (Fa N), .int (AC N)] }
def C20t : Ctr := { α := NetL, xs := Yg, val := λ N => .tup [.d (EY (Mh N)), .int (Fd N), .int (AC N)] }
def C21t : Ctr := { α := NetL, xs := Yg, val := λ N => .tup [.d (AW (Mm N)), .int (AC N)] }
theorem okT (C : Ctr) {g : FuncId} (h : ∀ a, BR (C.pre a) -> FnT Try.prog g (C.xs a) (AE (C.L a)) (C.val a) (C.keep a)) (dec : List AVal -> Heap -> Option (C.α × List (Nat × Nat) × List Nat)) : AI Try.prog g (C.spec dec) := Ctr.spec_ok h dec
theorem ABY : AI Try.prog 19 (C19t.spec dN) := okT C19t (λ (N : NetL) _ => by
 by_cases h : AC N = 0
 ·have := NE (A := A19) (xs := C19.xs N) (L := []) (val := C19.val N) (keep := []) (ren := []) (fz := []) Try.func19 (by kernel_rfl) (AA Lm AF) (p19 N h (BD h).1)
  have e : C19t.val N = C19.val N := by show AVal.tup [.bool (Fa N), .int (AC N)] = .tup [.bool (decide (BK N = 0)), .int 0]; unfold Fa; rw [h]; rfl
  rw [e]; exact this
 ·have := NE (A := A19b) (xs := C19b.xs N) (L := []) (val := C19b.val N) (keep := []) (ren := []) (fz := []) Try.func19 (by kernel_rfl) (AA Kl AF) (p19b N h)
  have e : C19t.val N = C19b.val N := by show AVal.tup [.bool (Fa N), .int (AC N)] = .tup [.bool false, .int (AC N)]; unfold Fa; rw [decide_eq_false h]; rfl
  rw [e]; exact this) dN
theorem ACC : AI Try.prog 20 (C20t.spec dN) := okT C20t (λ (N : NetL) _ => by
 by_cases h : AC N = 0
 ·have := NE (A := A20) (xs := C20.xs N) (L := []) (val := C20.val N) (keep := []) (ren := []) (fz := [5016, 5017]) Try.func20 (by kernel_rfl) (AA Lm (AA Ng AF)) (p20 N h (BD h).1)
  have e : C20t.val N = C20.val N := by show AVal.tup [.d (EY (Mh N)), .int (Fd N), .int (AC N)] = .tup [.d (EY (AL (AB N))), .int (BK N), .int 0]; unfold Mh Fd; rw [if_pos h, if_pos h, h]; rfl
  rw [e]; exact this
 ·have := NE (A := A20b) (xs := C20b.xs N) (L := []) (val := C20b.val N) (keep := []) (ren := []) (fz := []) Try.func20 (by kernel_rfl) (AA Kl AF) (p20b N h)
  have e : C20t.val N = C20b.val N := by show AVal.tup [.d (EY (Mh N)), .int (Fd N), .int (AC N)] = .tup [.d (EY zT), .int 0, .int (AC N)]; unfold Mh Fd; rw [if_neg h, if_neg h]
  rw [e]; exact this) dN
theorem ABZ : AI Try.prog 21 (C21t.spec dN) := okT C21t (λ (N : NetL) _ => by
 by_cases h : AC N = 0
 ·have := NE (A := A21 N) (xs := C21.xs N) (L := []) (val := C21.val N) (keep := []) (ren := []) (fz := [202]) Try.func21 (by kernel_rfl) (AA Lm (AA AAI AF)) (p21 N h (BD h).1 (Jk h))
  have e : C21t.val N = C21.val N := by show AVal.tup [.d (AW (Mm N)), .int (AC N)] = .tup [.d (AW (JJ N)), .int 0]; unfold Mm; rw [if_pos h, h]
  rw [e]; exact this
 ·have := NE (A := A21b) (xs := C21b.xs N) (L := []) (val := C21b.val N) (keep := []) (ren := []) (fz := []) Try.func21 (by kernel_rfl) (AA Kl AF) (p21b N h)
  have e : C21t.val N = C21b.val N := by show AVal.tup [.d (AW (Mm N)), .int (AC N)] = .tup [.d (AW []), .int (AC N)]; unfold Mm; rw [if_neg h]
  rw [e]; exact this) dN
def Af (N : NetL) : List Span := if FF N = 0 then OE N else []
def Bm (N : NetL) : List Span := if FF N = 0 then TN N else []
theorem OP {N : NetL} : FF N = 0 ↔ AC N = 0 /\ BK N = 0 := by
 unfold FF
 by_cases h : AC N = 0
 ·rw [if_pos h]
  have := FY h
  by_cases h2 : 0 < BK N
  ·rw [if_pos h2]; constructor
   ·intro h; cases h
   ·intro h; omega
  ·rw [if_neg h2]; constructor
   ·intro _; exact ⟨h, by omega⟩
   ·intro _; rfl
 ·rw [if_neg h]; constructor
  ·intro h2; exact absurd h2 h
  ·intro h2; exact absurd h2.1 h
def C34t : Ctr := { α := NetL, xs := Yg, val := λ N => .tup [SG (Af N), SG (Bm N), .int (FF N)] }
theorem ACV : AI Try.prog 34 (C34t.spec dN) := okT C34t (λ (N : NetL) _ => by
 by_cases h : FF N = 0
 ·obtain ⟨h1, h2⟩ := OP.1 h
  have := NE (A := A34 N) (xs := C34.xs N) (L := []) (val := C34.val N) (keep := []) (ren := []) (fz := [210, 211]) Try.func34 (by kernel_rfl) (AA Sp (AA Zu AF)) (p34 N h1 (BD h1).1 (by omega) (Sz h1 h2))
  have e : C34t.val N = C34.val N := by show AVal.tup [SG (Af N), SG (Bm N), .int (FF N)] = .tup [SG (OE N), SG (TN N), .int 0]; unfold Af Bm; rw [if_pos h, if_pos h, h]
  rw [e]; exact this
 ·have := NE (A := A34b) (xs := C34b.xs N) (L := []) (val := C34b.val N) (keep := []) (ren := []) (fz := []) Try.func34 (by kernel_rfl) (AA Ut AF) (p34b N h λ h => (BD h).1)
  have e : C34t.val N = C34b.val N := by show AVal.tup [SG (Af N), SG (Bm N), .int (FF N)] = .tup [SG [], SG [], .int (FF N)]; unfold Af Bm; rw [if_neg h, if_neg h]
  rw [e]; exact this) dN
def Aa (a : NRF) : TruthL := if BS a = 0 then AL a.res.1 else zT
def C38t : Ctr := { α := NRF, xs := Zp, val := λ a => .tup [.d (EY (Aa a)), .int (BS a)] }
def d38 : List AVal -> Heap -> Option (NRF × List (Nat × Nat) × List Nat)
 | [x, .d (.v (.int _ r)), .d (.v (.int _ q))], H => match Si x H with
  | some (N, f) => some (⟨N, r, q⟩, [], f)
  | none => none
 | _, _ => none
theorem Kh {a : NRF} (h1 : AC a.N = 0) (h2 : inM a.r 0 (a.N.r.length - 1) = true) (h3 : ¬ 0 < BK a.N) (h4 : inM a.f (-100000000) 100000000 = true) : a.sh.isSome = true := by
 obtain ⟨N, r, f⟩ := a
 have h2 := BI.1 h2
 have h4 := BI.1 h4
 simp only at h1 h2 h3 h4
 have := (VI h1 (by have := FY h1; omega) (r := r.toNat) (by omega) (f := f) h4).1
 rw [show ((r.toNat : Nat) : Int) = r by omega] at this
 exact this
theorem ACE : AI Try.prog 38 (C38t.spec d38) := okT C38t (λ (a : NRF) _ => by
 by_cases h : BS a = 0
 ·obtain ⟨c1, c2, c3, c4, c5⟩ := XS h
  have := NE (A := A38) (xs := C38.xs a) (L := []) (val := C38.val a) (keep := []) (ren := []) (fz := [15016, 15017]) Try.func38 (by kernel_rfl) (AA Jt (AA Hm (AA Sp (AA ok77 (AA Ng AF))))) (p38 a h (BD c1).1 (Kh c1 c2 c3 c4))
  have e : C38t.val a = C38.val a := by show AVal.tup [.d (EY (Aa a)), .int (BS a)] = .tup [.d (EY (AL a.res.1)), .int 0]; unfold Aa; rw [if_pos h, h]
  rw [e]; exact this
 ·have e : C38t.val a = C38b.val a := by show AVal.tup [.d (EY (Aa a)), .int (BS a)] = .tup [.d (EY zT), .int (BS a)]; unfold Aa; rw [if_neg h]
  rw [e]
  by_cases h6 : 0 < BK a.N
  ·exact NE (A := A38e) (xs := C38b.xs a) (L := []) (val := C38b.val a) (keep := []) (ren := []) (fz := []) Try.func38 (by kernel_rfl) (AA Jt (AA Hm (AA Ut AF))) (p38e a h (λ h => (BD h).1) h6)
  ·exact NE (A := A38) (xs := C38b.xs a) (L := []) (val := C38b.val a) (keep := []) (ren := []) (fz := []) Try.func38 (by kernel_rfl) (AA Jt (AA Hm (AA Sp (AA ok77 (AA Ng AF))))) (p38b a h (λ h => (BD h).1) (λ h1 h2 h3 h4 => Kh h1 h2 h3 h4) h6)) d38
def Ac (N : NetL) : List Int := if HN N = 0 then BE N N.r.length else []
def C25t : Ctr := { α := NetL, xs := Yg, val := λ N => .tup [.d (AW (Ac N)), .int (HN N)] }
theorem Cx {N : NetL} : HN N = 0 ↔ AC N = 0 /\ BK N ≠ 0 := by
 unfold HN
 by_cases h : AC N = 0
 ·rw [if_pos h]
  by_cases h2 : BK N = 0
  ·rw [if_pos h2]; constructor
   ·intro h; cases h
   ·intro h; exact absurd h2 h.2
  ·rw [if_neg h2]; exact ⟨λ _ => ⟨h, h2⟩, λ _ => rfl⟩
 ·rw [if_neg h]; constructor
  ·intro h2; exact absurd h2 h
  ·intro h2; exact absurd h2.1 h
theorem ACG : AI Try.prog 25 (C25t.spec dN) := okT C25t (λ (N : NetL) _ => by
 by_cases h : HN N = 0
 ·obtain ⟨h1, h2⟩ := Cx.1 h
  have := NE (A := A25 N) (xs := C25.xs N) (L := []) (val := C25.val N) (keep := []) (ren := []) (fz := [202]) Try.func25 (by kernel_rfl) (AA ok19 (AA ok67 (AA ok68 (AA Ng (AA ok69 (AA ok70 AF)))))) (p25 N h1 (BD h1).1 h2 λ i hi => (Bj h1 hi).1)
  have e : C25t.val N = C25.val N := by show AVal.tup [.d (AW (Ac N)), .int (HN N)] = .tup [.d (AW (BE N N.r.length)), .int 0]; unfold Ac; rw [if_pos h, h]
  rw [e]; exact this
 ·have e : C25t.val N = C25b.val N := by show AVal.tup [.d (AW (Ac N)), .int (HN N)] = .tup [.d (AW []), .int (HN N)]; unfold Ac; rw [if_neg h]
  rw [e]
  by_cases h1 : AC N = 0
  ·have h3 : BK N = 0 := Classical.byContradiction λ hne => h (Cx.2 ⟨h1, hne⟩)
   exact NE (A := A25e) (xs := C25b.xs N) (L := []) (val := C25b.val N) (keep := []) (ren := []) (fz := []) Try.func25 (by kernel_rfl) (AA ok19 AF) (p25e N h1 (BD h1).1 h3)
  ·exact NE (A := A25b) (xs := C25b.xs N) (L := []) (val := C25b.val N) (keep := []) (ren := []) (fz := []) Try.func25 (by kernel_rfl) (AA ADD AF) (p25b N h1)) dN
theorem Dm {n : Nat} : ∀ (l : List Int) {e : Int} (last : Int), e ≠ 0 -> SF n e last l = e
 | [], _, _, _ => rfl
 | s :: l, e, last, h => by simp only [SF]; rw [if_neg h]; exact Dm l s h
theorem Dr {n : Nat} : ∀ (l : List Int) (last : Int), SF n 0 last l = if grpBad n last l then 2 else 0
 | [], _ => rfl
 | s :: l, last => by
  have e1 : SF n 0 last (s :: l) = SF n (if inM s (wr (last + 1)) (wr ((n : Int) - 1)) then 0 else 2) s l := rfl
  have e2 : grpBad n last (s :: l) = (!inM s (wr (last + 1)) (wr ((n : Int) - 1)) || grpBad n s l) := rfl
  rw [e1, e2]
  generalize inM s (wr (last + 1)) (wr ((n : Int) - 1)) = b
  cases b with
  | true => exact Dr l s
  | false => exact Dm l s (by decide)
theorem Pe (a : NGr) : LG a = if AC a.N = 0 then if grpBad a.N.g.length (-1) a.st = true ∨ a.st.length = 0 then 2 else if 0 < BK a.N then 6 else 0 else AC a.N := by
 unfold LG XI WB
 by_cases h : AC a.N = 0
 ·rw [h, Dr, if_pos rfl]
  cases hb : grpBad a.N.g.length (-1) a.st with
  | true => simp
  | false =>
   simp only [Bool.false_eq_true, if_false, if_true, false_or]
   by_cases hl : a.st.length = 0
   ·simp [hl]
   ·simp only [hl, if_false, if_true]
    unfold FF; rw [if_pos h]
 ·rw [Dm _ _ h, if_neg h, if_neg h, if_neg h]
theorem Gz {a : NGr} : LG a = 0 ↔ AC a.N = 0 /\ grpBad a.N.g.length (-1) a.st = false /\ a.st.length ≠ 0 /\ BK a.N = 0 := by
 rw [Pe]
 by_cases h : AC a.N = 0
 ·rw [if_pos h]
  have hn := FY h
  by_cases hb : grpBad a.N.g.length (-1) a.st = true ∨ a.st.length = 0
  ·rw [if_pos hb]
   constructor
   ·intro h; cases h
   ·rintro ⟨_, h1, h2, _⟩
    rcases hb with hb | hb
    ·rw [h1] at hb; cases hb
    ·exact absurd hb h2
  ·rw [if_neg hb]
   have hb1 : grpBad a.N.g.length (-1) a.st = false := by cases x : grpBad a.N.g.length (-1) a.st <;> simp_all
   have hb2 : a.st.length ≠ 0 := λ h => hb (.inr h)
   by_cases h2 : 0 < BK a.N
   ·rw [if_pos h2]; constructor
    ·intro h; cases h
    ·rintro ⟨_, _, _, h3⟩; omega
   ·rw [if_neg h2]; exact ⟨λ _ => ⟨h, hb1, hb2, by omega⟩, λ _ => rfl⟩
 ·rw [if_neg h]; constructor
  ·intro h2; exact absurd h2 h
  ·intro h2; exact absurd h2.1 h
def Ku (a : NGr) : Span := if LG a = 0 then NB a else ⟨0, 0⟩
def C35t : Ctr := { α := NGr, xs := Zq, val := λ a => .tup [.d (EU (Ku a)), .int (LG a)], pre := λ a => [a.st.length <= 1000000] }
def dGr : List AVal -> Heap -> Option (NGr × List (Nat × Nat) × List Nat)
 | [x, y], H => match Si x H, Uk y H with
  | some (N, f), some (l, g) => some (⟨N, l⟩, [], f ++ g)
  | _, _ => none
 | _, _ => none
theorem ADB : AI Try.prog 35 (C35t.spec dGr) := okT C35t (λ (a : NGr) hl => by
 have hl : a.st.length <= 1000000 := hl
 by_cases h : LG a = 0
 ·obtain ⟨h1, h2, h3, h4⟩ := Gz.1 h
  have := NE (A := A35 a) (xs := C35.xs a) (L := []) (val := C35.val a) (keep := []) (ren := []) (fz := []) Try.func35 (by kernel_rfl) (AA Jt (AA Hm (AA Sp (AA ok75 (AA Zu AF))))) (p35 a h1 (BD h1).1 (by omega) h2 ⟨by omega, hl⟩ (Eb h1 h4 h2).1)
  have e : C35t.val a = C35.val a := by show AVal.tup [.d (EU (Ku a)), .int (LG a)] = .tup [.d (EU (NB a)), .int 0]; unfold Ku; rw [if_pos h, h]
  rw [e]; exact this
 ·have := NE (A := A35b a) (xs := C35b.xs a) (L := []) (val := C35b.val a) (keep := []) (ren := []) (fz := []) Try.func35 (by kernel_rfl) (AA Jt (AA Hm (AA Ut AF))) (p35b a h (λ h => (BD h).1) (by omega))
  have e : C35t.val a = C35b.val a := by show AVal.tup [.d (EU (Ku a)), .int (LG a)] = .tup [.d (EU ⟨0, 0⟩), .int (LG a)]; unfold Ku; rw [if_neg h]
  rw [e]; exact this) dGr
end Go.Bal

namespace Go.Bal.DL
open Go.Sym Go
theorem m1 (n : Int) : FH (.v (.int .u8 n)) = n := rfl
end Go.Bal.DL
namespace Go.Bal
open Go Go.Sym Go.Proofs
structure Stm where
 bs : List Int
 used : Int
 mix : Int
 deriving Inhabited
end Go.Bal
namespace Go.Bal.DL
theorem m2 (s : Stm) : Stm.mk s.bs s.used s.mix = s := rfl
end Go.Bal.DL
namespace Go.Bal
open Go Go.Sym Go.Proofs
def LM (s : Stm) : Int := if s.bs.length <= s.used then wr (wr (gD s.bs (s.used.tmod s.bs.length).toNat) + wr (wr (11 * s.mix) + wr (s.used.tdiv s.bs.length))) else wr (gD s.bs (s.used.tmod s.bs.length).toNat)
def ZU (s : Stm) : Int := (wr (wr (wr (5 * s.mix) + LM s) + 1)).tmod 251
def Sf (s : Stm) (n : Int) : Bool := if n < 2 then true else decide (s.bs.length = 0)
def FA (s : Stm) (n : Int) : Stm := if Sf s n then s else ⟨s.bs, wr (s.used + 1), ZU s⟩
def EB (s : Stm) (n : Int) : Int := if Sf s n then 0 else (if 256 < n then wr (wr (256 * LM s) + ZU s) else LM s).tmod n
def Xb (lo hi : Int) : Int := wr (wr (hi - lo) + 1)
def Ih (s : Stm) (lo hi : Int) : Int := wr (lo + EB s (Xb lo hi))
def witS (s : Stm) (lo hi : Int) : Stm := FA s (Xb lo hi)
structure StmB (K : Int) (s : Stm) : Prop where
 used : 0 <= s.used /\ s.used <= K
 mix : 0 <= s.mix /\ s.mix < 251
 bs : ∀ i, i < s.bs.length -> 0 <= gD s.bs i /\ gD s.bs i <= 255
theorem Hp {a b : Int} (ha : 0 <= a) (hb : 0 < b) : 0 <= a.tmod b /\ a.tmod b < b := by
 rw [Int.tmod_eq_emod_of_nonneg ha]
 exact ⟨Int.emod_nonneg _ (by omega), Int.emod_lt_of_pos _ hb⟩
theorem Ke {K : Int} {s : Stm} (h : StmB K s) (hK : K <= 1000000000000000) (hb : s.bs.length ≠ 0) : 0 <= LM s /\ LM s <= 1000000000010000 := by
 have hu := h.used
 have hm := h.mix
 have hi := Hp hu.1 (show 0 < (s.bs.length : Int) by omega)
 have hx := h.bs (s.used.tmod s.bs.length).toNat (by omega)
 have hq : 0 <= s.used.tdiv s.bs.length /\ s.used.tdiv s.bs.length <= 1000000000000000 := by
  rw [Int.tdiv_eq_ediv_of_nonneg hu.1]
  refine ⟨Int.ediv_nonneg hu.1 (by omega), ?_⟩
  have := Int.ediv_le_self (s.bs.length : Int) hu.1
  omega
 have e0 : wr (gD s.bs (s.used.tmod s.bs.length).toNat) = gD s.bs (s.used.tmod s.bs.length).toNat := LO (by omega) (by omega)
 have e1 : wr (11 * s.mix) = 11 * s.mix := LO (by omega) (by omega)
 have e2 : wr (s.used.tdiv s.bs.length) = s.used.tdiv s.bs.length := LO (by omega) (by omega)
 have e3 : wr (11 * s.mix + s.used.tdiv s.bs.length) = 11 * s.mix + s.used.tdiv s.bs.length := LO (by omega) (by omega)
 have e4 : wr (gD s.bs (s.used.tmod s.bs.length).toNat + (11 * s.mix + s.used.tdiv s.bs.length)) = gD s.bs (s.used.tmod s.bs.length).toNat + (11 * s.mix + s.used.tdiv s.bs.length) := LO (by omega) (by omega)
 unfold LM
 rw [e0, e1, e2, e3, e4]
 split <;> omega
theorem Le {K : Int} {s : Stm} (h : StmB K s) (hK : K <= 1000000000000000) (hb : s.bs.length ≠ 0) : 0 <= ZU s /\ ZU s < 251 := by
 have hm := h.mix
 have hn := Ke h hK hb
 have e1 : wr (5 * s.mix) = 5 * s.mix := LO (by omega) (by omega)
 have e2 : wr (5 * s.mix + LM s) = 5 * s.mix + LM s := LO (by omega) (by omega)
 have e3 : wr (5 * s.mix + LM s + 1) = 5 * s.mix + LM s + 1 := LO (by omega) (by omega)
 unfold ZU
 rw [e1, e2, e3]
 exact Hp (by omega) (by omega)
theorem Xe {s : Stm} {n : Int} (h : Sf s n = false) : 2 <= n /\ s.bs.length ≠ 0 := by
 unfold Sf at h
 by_cases x : n < 2
 ·rw [if_pos x] at h; cases h
 ·rw [if_neg x] at h; exact ⟨by omega, by simpa using h⟩
theorem StmB.mono {K M : Int} {s : Stm} (h : StmB K s) (hK : K <= M) : StmB M s := ⟨⟨h.used.1, by have := h.used; omega⟩, h.mix, h.bs⟩
theorem StmB.next {K : Int} {s : Stm} (h : StmB K s) (hK : K <= 1000000000000000) (n : Int) : StmB (K + 1) (FA s n) := by
 unfold FA
 cases hi : Sf s n with
 | true => exact h.mono (by omega)
 | false =>
  obtain ⟨_, hb⟩ := Xe hi
  have hu := h.used
  have e : wr (s.used + 1) = s.used + 1 := LO (by omega) (by omega)
  refine ⟨?_, Le h hK hb, h.bs⟩
  show 0 <= wr (s.used + 1) /\ wr (s.used + 1) <= K + 1
  rw [e]; omega
theorem OJ {K : Int} {s : Stm} (h : StmB K s) (hK : K <= 1000000000000000) (n : Int) : 0 <= EB s n /\ (1 <= n -> EB s n < n) := by
 unfold EB
 cases hi : Sf s n with
 | true => exact ⟨Int.le_refl _, λ h => by show (0 : Int) < n; omega⟩
 | false =>
  obtain ⟨hn, hb⟩ := Xe hi
  have h1 := Ke h hK hb
  have h2 := Le h hK hb
  have e1 : wr (256 * LM s) = 256 * LM s := LO (by omega) (by omega)
  have e2 : wr (256 * LM s + ZU s) = 256 * LM s + ZU s := LO (by omega) (by omega)
  rw [e1, e2]
  have := Hp (a := if 256 < n then 256 * LM s + ZU s else LM s) (b := n) (by split <;> omega) (by omega)
  exact ⟨this.1, λ _ => this.2⟩
theorem Rb {K : Int} {s : Stm} (h : StmB K s) (hK : K <= 1000000000000000) {lo hi : Int} (h1 : -1000000000 <= lo) (h2 : lo <= hi) (h3 : hi <= 1000000000) : lo <= Ih s lo hi /\ Ih s lo hi <= hi := by
 have e1 : wr (hi - lo) = hi - lo := LO (by omega) (by omega)
 have e2 : wr (hi - lo + 1) = hi - lo + 1 := LO (by omega) (by omega)
 unfold Ih Xb
 rw [e1, e2]
 have := OJ h hK (hi - lo + 1)
 have h4 := this.2 (by omega)
 have e3 : wr (lo + EB s (hi - lo + 1)) = lo + EB s (hi - lo + 1) := LO (by omega) (by omega)
 rw [e3]; omega
end Go.Bal


namespace Go.Bal
open Go Go.Sym Go.Proofs
structure MS where
 s : Stm
 r : List Reach
 f : List Int
 m : List Int
 deriving Inhabited
def Rp (st : Int) (a : MS) : Stm := witS (FA a.s st) 1 (wr (st - 1))
def GJ (st : Int) (a : MS) : Int := Ih (Rp st a) (-20) 120
def JE (st : Int) (a : MS) : Stm := witS (Rp st a) (-20) 120
def IP (st : Int) (a : MS) : Int := EB a.s st
def HX (st : Int) (a : MS) : Int := (wr (EB a.s st + Ih (FA a.s st) 1 (wr (st - 1)))).tmod st
def FZ (st : Int) (a : MS) : MS := ⟨FA (FA (JE st a) 9) 9, a.r ++ [⟨IP st a, HX st a, ⟨wr (GJ st a - EB (JE st a) 9), wr (GJ st a + EB (FA (JE st a) 9) 9)⟩⟩], a.f ++ [GJ st a], (a.m.modify (IP st a).toNat λ y => wr (y - GJ st a)).modify (HX st a).toNat λ y => wr (y + GJ st a)⟩
def Ci : Nat -> Int -> MS -> MS
 | 0, _, a => a
 | k + 1, st, a => Ci k st (FZ st a)
structure GS where
 s : Stm
 g : List Span
 t : List Int
 deriving Inhabited
def NK (x : Int) (a : GS) : GS := ⟨FA (FA a.s 9) 9, a.g ++ [⟨wr (x - EB a.s 9), wr (x + EB (FA a.s 9) 9)⟩], a.t ++ [x]⟩
def Ju : List Int -> GS -> GS
 | [], a => a
 | x :: l, a => Ju l (NK (wr (-x)) a)
structure Mx (st : Int) (K : Int) (a : MS) : Prop where
 s0 : StmB (K + 1) (FA a.s st)
 x : StmB (K + 2) (Rp st a)
 y : StmB (K + 3) (JE st a)
 z : StmB (K + 4) (FA (JE st a) 9)
 s : StmB (K + 5) (FZ st a).s
 fr : 0 <= IP st a /\ IP st a < st
 to : 0 <= HX st a /\ HX st a < st
 ne : IP st a ≠ HX st a
 v : -20 <= GJ st a /\ GJ st a <= 120
 lo : 0 <= EB (JE st a) 9 /\ EB (JE st a) 9 < 9
 hi : 0 <= EB (FA (JE st a) 9) 9 /\ EB (FA (JE st a) 9) 9 < 9
theorem Kf {st K : Int} (hst : 2 <= st /\ st <= 8) {a : MS} (h : StmB K a.s) (hK : K <= 100000000000000) : Mx st K a := by
 have s0 := h.next (by omega) st
 have ew : wr (st - 1) = st - 1 := LO (by omega) (by omega)
 have x : StmB (K + 2) (Rp st a) := (s0.next (by omega) (Xb 1 (wr (st - 1)))).mono (by omega)
 have y : StmB (K + 3) (JE st a) := (x.next (by omega) (Xb (-20) 120)).mono (by omega)
 have z : StmB (K + 4) (FA (JE st a) 9) := (y.next (by omega) 9).mono (by omega)
 have s : StmB (K + 5) (FZ st a).s := (z.next (by omega) 9).mono (by omega)
 have f := OJ h (by omega) st
 have fr : 0 <= IP st a /\ IP st a < st := ⟨f.1, f.2 (by omega)⟩
 have w := Rb s0 (by omega) (lo := 1) (hi := wr (st - 1)) (by omega) (by omega) (by omega)
 rw [ew] at w
 have e : wr (EB a.s st + Ih (FA a.s st) 1 (st - 1)) = EB a.s st + Ih (FA a.s st) 1 (st - 1) := LO (by omega) (by omega)
 have et : HX st a = (EB a.s st + Ih (FA a.s st) 1 (st - 1)) % st := by
  unfold HX; rw [ew, e, Int.tmod_eq_emod_of_nonneg (by omega)]
 have to : 0 <= HX st a /\ HX st a < st := by rw [et]; exact ⟨Int.emod_nonneg _ (by omega), Int.emod_lt_of_pos _ (by omega)⟩
 refine ⟨s0, x, y, z, s, fr, to, ?_, Rb x (by omega) (by omega) (by omega) (by omega), ?_, ?_⟩
 ·rw [et]
  unfold IP
  intro he
  by_cases hlt : EB a.s st + Ih (FA a.s st) 1 (st - 1) < st
  ·rw [Int.emod_eq_of_lt (by omega) hlt] at he; omega
  ·rw [<- Int.sub_emod_right, Int.emod_eq_of_lt (by omega) (by omega)] at he; omega
 ·have := OJ y (by omega) 9; exact ⟨this.1, this.2 (by omega)⟩
 ·have := OJ z (by omega) 9; exact ⟨this.1, this.2 (by omega)⟩
theorem Us (st : Int) (a : MS) : (FZ st a).r.length = a.r.length + 1 /\ (FZ st a).f.length = a.f.length + 1 /\ (FZ st a).m.length = a.m.length := by simp [FZ]
theorem mr_r (st : Int) (a : MS) {i : Nat} (hi : i < a.r.length + 1) : (gD (FZ st a).r i).fr = (bif decide (i < a.r.length) then (gD a.r i).fr else IP st a) /\ (gD (FZ st a).r i).to = (bif decide (i < a.r.length) then (gD a.r i).to else HX st a) /\ (gD (FZ st a).r i).sp.lo = (bif decide (i < a.r.length) then (gD a.r i).sp.lo else wr (GJ st a - EB (JE st a) 9)) /\ (gD (FZ st a).r i).sp.hi = (bif decide (i < a.r.length) then (gD a.r i).sp.hi else wr (GJ st a + EB (FA (JE st a) 9) 9)) := by
 have e : (FZ st a).r = a.r ++ [⟨IP st a, HX st a, ⟨wr (GJ st a - EB (JE st a) 9), wr (GJ st a + EB (FA (JE st a) 9) 9)⟩⟩] := by simp only [FZ]
 rw [e, BO]
 by_cases h : i < a.r.length
 ·simp [h]
 ·have : i - a.r.length = 0 := by omega
  simp only [h, if_false, decide_false, cond_false, this]
  exact ⟨rfl, rfl, rfl, rfl⟩
theorem mr_f (st : Int) (a : MS) {i : Nat} (hi : i < a.f.length + 1) : gD (FZ st a).f i = bif decide (i < a.f.length) then gD a.f i else GJ st a := by
 have e : (FZ st a).f = a.f ++ [GJ st a] := by simp only [FZ]
 rw [e, BO]
 by_cases h : i < a.f.length
 ·simp [h]
 ·have : i - a.f.length = 0 := by omega
  simp only [h, if_false, decide_false, cond_false, this]; rfl
theorem mr_m {st : Int} {a : MS} (hf : (IP st a).toNat < a.m.length) (ht : (HX st a).toNat < a.m.length) (hne : (HX st a).toNat ≠ (IP st a).toNat) (i : Nat) : gD (FZ st a).m i = bif decide (i = (HX st a).toNat) then wr (gD a.m (HX st a).toNat + GJ st a) else bif decide (i = (IP st a).toNat) then wr (gD a.m (IP st a).toNat - GJ st a) else gD a.m i := by
 have e : (FZ st a).m = (a.m.modify (IP st a).toNat λ y => wr (y - GJ st a)).modify (HX st a).toNat λ y => wr (y + GJ st a) := by simp only [FZ]
 rw [e, BB (by rw [List.length_modify]; exact ht), BB hf, BB hf, if_neg hne]
 by_cases h1 : i = (HX st a).toNat
 ·simp [h1]
 ·by_cases h2 : i = (IP st a).toNat
  ·simp [h1, h2]
  ·simp [h1, h2]
theorem ABH (x : Int) (a : GS) : (NK x a).g.length = a.g.length + 1 /\ (NK x a).t.length = a.t.length + 1 := by simp [NK]
theorem mg_g (x : Int) (a : GS) {i : Nat} (hi : i < a.g.length + 1) : (gD (NK x a).g i).lo = (bif decide (i < a.g.length) then (gD a.g i).lo else wr (x - EB a.s 9)) /\ (gD (NK x a).g i).hi = (bif decide (i < a.g.length) then (gD a.g i).hi else wr (x + EB (FA a.s 9) 9)) := by
 have e : (NK x a).g = a.g ++ [⟨wr (x - EB a.s 9), wr (x + EB (FA a.s 9) 9)⟩] := by simp only [NK]
 rw [e, BO]
 by_cases h : i < a.g.length
 ·simp [h]
 ·have : i - a.g.length = 0 := by omega
  simp only [h, if_false, decide_false, cond_false, this]
  exact ⟨rfl, rfl⟩
theorem mg_t (x : Int) (a : GS) {i : Nat} (hi : i < a.t.length + 1) : gD (NK x a).t i = bif decide (i < a.t.length) then gD a.t i else x := by
 have e : (NK x a).t = a.t ++ [x] := by simp only [NK]
 rw [e, BO]
 by_cases h : i < a.t.length
 ·simp [h]
 ·have : i - a.t.length = 0 := by omega
  simp only [h, if_false, decide_false, cond_false, this]; rfl
theorem mg_s (x : Int) (a : GS) : (NK x a).s = FA (FA a.s 9) 9 := by simp only [NK]
end Go.Bal
