/- Package chart: every. Printed by gench.py. -/
import Derived.Test.YtdbjalgfomknhaaChA
set_option linter.unusedVariables false
set_option linter.unusedSimpArgs false
namespace Go.Bal
open Go Go.Sym Go.Proofs
def allB (p : Nat -> Bool) : Nat -> Bool
 | 0 => true
 | n + 1 => allB p n && p n
theorem allB_iff {p : Nat -> Bool} : ∀ {n : Nat}, allB p n = true ↔ ∀ i, i < n -> p i = true
 | 0 => by simp [allB]
 | n + 1 => by
  simp only [allB, Bool.and_eq_true, allB_iff (n := n)]
  constructor
  ·intro h i hi
   by_cases he : i = n
   ·subst he; exact h.2
   ·exact h.1 i (by omega)
  ·exact λ h => ⟨λ i hi => h i (by omega), h n (by omega)⟩
theorem idx_ge {p : Nat -> Bool} : ∀ {n k : Nat}, (0 <= idx p n k) ↔ ∃ i, k <= i /\ i < k + n /\ p i = true
 | 0, k => by simp [idx]; omega
 | n + 1, k => by
  simp only [idx]
  by_cases h : p k = true
  ·rw [if_pos h]
   constructor
   ·intro _; exact ⟨k, Nat.le_refl _, by omega, h⟩
   ·intro _; omega
  ·rw [if_neg h, idx_ge (n := n) (k := k + 1)]
   constructor
   ·rintro ⟨i, h1, h2, h3⟩; exact ⟨i, by omega, by omega, h3⟩
   ·rintro ⟨i, h1, h2, h3⟩
    refine ⟨i, ?_, by omega, h3⟩
    by_cases he : i = k
    ·subst he; exact absurd h3 h
    ·omega
theorem every_eq {p : Nat -> Bool} {n : Nat} : (!decide (0 <= idx (λ i => !p i) n 0)) = allB p n := by
 rw [Bool.eq_iff_iff, allB_iff]
 simp only [Bool.not_eq_true', decide_eq_false_iff_not, idx_ge, Nat.zero_le, Nat.zero_add, true_and]
 constructor
 ·intro h i hi
  cases hp : p i with
  | true => rfl
  | false => exact (h ⟨i, hi, by simp [hp]⟩).elim
 ·rintro h ⟨i, hi, hp⟩
  rw [h i hi] at hp; cases hp
theorem every_all {α : Type} [Inhabited α] {p : α -> Bool} {l : List α} : (!decide (0 <= idx (λ i => !p (gD l i)) l.length 0)) = l.all p := by
 rw [every_eq, Bool.eq_iff_iff, allB_iff, List.all_eq_true]
 exact ⟨λ h x hx => by obtain ⟨i, hi, rfl⟩ := mem_gD hx; exact h i hi, λ h i hi => h _ (gD_mem hi)⟩
def chB (c : Cht) : AObj := .box [.int c.p.lo, .int c.p.hi, .int c.base, .int c.scale, .int c.off, .d (eMks c.ms), .d (eNts c.ns)]
def decChB (H : Heap) (id : Nat) : Option Cht := match H id with
 | .live (.box [.d a, .d b, .d c, .d d, .d e, .d (.list _ n f _), .d (.list _ m g _)]) => some ⟨⟨dInt a, dInt b⟩, dInt c, dInt d, dInt e, rng n λ i => dMk (f i), rng m λ i => dNt (g i)⟩
 | _ => none
structure ChN where
 q : Cht
 e : Nt
def C_ck1 : Ctr := { ro := [101], α := ChN, xs := λ a => [.d (eNt a.e), .bptr 101 0], L := λ a => [(101, chB a.q)], val := λ a => .bool (rightM a.e a.q.ms.length), keep := λ a => [(101, .live (chB a.q))] }
def d_ck1 : List AVal -> Heap -> Option (ChN × List (Nat × Nat) × List Nat)
 | [.d d, .bptr id _], H => match decChB H id with
  | some q => some (⟨q, dNt d⟩, [(101, id)], [])
  | none => none
 | _, _ => none
def A_ck1 : Ann := { ann 9 [(n_right, s_right)] with E := [101] }
def V_ck1 (a : ChN) : Prop := fnVC Try.prog A_ck1 F_Check1 (bodyOf F_Check1) (C_ck1.xs a) (heapOf (C_ck1.L a)) (C_ck1.val a) (C_ck1.keep a) [] []
theorem vc_ck1 (a : ChN) : (V_ck1 a) = (rightM a.e (↑a.q.ms.length : Int) = rightM (Nt.mk a.e.mi a.e.t a.e.s) (↑a.q.ms.length : Int) /\ a.q.p.lo = a.q.p.lo /\ a.q.p.hi = a.q.p.hi /\ a.q.base = a.q.base /\ a.q.scale =
 a.q.scale /\ a.q.off = a.q.off /\ a.q.ms.length = a.q.ms.length /\ (∀ (i : Nat), i < a.q.ms.length -> (gD a.q.ms i).pl = (gD a.q.ms i).pl /\ (gD a.q.ms i).ht = (gD a.q.ms i).ht) /\ a.q.ns.length = a.q.ns.length /\ ∀ (i : Nat),
 i < a.q.ns.length -> (gD a.q.ns i).mi = (gD a.q.ns i).mi /\ (gD a.q.ns i).t.lo = (gD a.q.ns i).t.lo /\ (gD a.q.ns i).t.hi = (gD a.q.ns i).t.hi /\ (gD a.q.ns i).s.lo = (gD a.q.ns i).s.lo /\ (gD a.q.ns i).s.hi = (gD a.q.ns
 i).s.hi) := by kernel_rfl
theorem ok_ck1 : SpecOk Try.prog n_Check1 (C_ck1.spec d_ck1) := okC C_ck1 (λ _ => A_ck1) [] [] fn_Check1 (λ _ => by kernel_rfl) (λ _ => gok_cons ok_right gok_nil) (λ (a : ChN) _ => by
 show V_ck1 a; rw [vc_ck1]; simp [wr, rng_getD]) (λ _ => noI rfl rfl) _
def leM (s : Span) : Bool := decide (s.lo <= s.hi)
def V_all1 (x : Span) : Prop := fnVC Try.prog (ann 8 []) F_all1 (bodyOf F_all1) (xS1 x) (heapOf []) (.bool (leM x)) [] [] []
theorem vc_all1 (x : Span) : (V_all1 x) = (leM x = decide (x.lo <= x.hi)) := by kernel_rfl
def s_all1 := pD dS1 λ x => .bool (leM x)
theorem ok_all1 : SpecOk Try.prog n_all1 s_all1 := pD_ok xS1 hS1 λ x _ => fnt (A := ann 8 []) (ren := []) (fz := []) fn_all1 (by kernel_rfl) gok_nil (by
 show V_all1 x; rw [vc_all1]; try simp [leM])
def V_nar2 (x : Span) : Prop := fnVC Try.prog (ann 8 []) F_nar2 (bodyOf F_nar2) (xS1 x) (heapOf []) (.bool (leM x)) [] [] []
theorem vc_nar2 (x : Span) : (V_nar2 x) = (leM x = decide (x.lo <= x.hi)) := by kernel_rfl
theorem ok_nar2 : SpecOk Try.prog n_nar2 s_all1 := pD_ok xS1 hS1 λ x _ => fnt (A := ann 8 []) (ren := []) (fz := []) fn_nar2 (by kernel_rfl) gok_nil (by
 show V_nar2 x; rw [vc_nar2]; try simp [leM])
def LXNr (q : Cht) : List (Nat × AObj) := [(101, chB q)]
def KXNr (q : Cht) : List (Nat × HCell) := [(101, .live (chB q))]
def fvNr (q : Cht) : AVal := .fn (.func n_Check1) [] [.bptr 101 0]
def BNr (q : Cht) : AObj := .box [fvNr q]
structure ENr where
 q : Cht
 e : Nt
structure MNr where
 q : Cht
 l : List Nt
def C1Nr : Ctr := { ro := [100, 101], α := ENr, xs := λ a => [.d (eNt a.e), .bptr 100 0], L := λ a => (100, BNr a.q) :: LXNr a.q, val := λ a => .bool (!rightM a.e a.q.ms.length), keep := λ a => (100, .live (BNr a.q)) :: KXNr a.q }
def d1Nr : List AVal -> Heap -> Option (ENr × List (Nat × Nat) × List Nat)
 | [.d d, .bptr id _], H => match H id with
  | .live (.box [.fn _ _ [.bptr j _]]) => match decChB H j with
   | some q => some (⟨q, dNt d⟩, [(100, id), (101, j)], [])
   | none => none
  | _ => none
 | _, _ => none
def A1Nr : Ann := { ann 8 [(n_Check1, C_ck1.spec d_ck1)] with E := [100, 101] }
def V1Nr (a : ENr) : Prop := fnVC Try.prog A1Nr F_eN1 (bodyOf F_eN1) (C1Nr.xs a) (heapOf (C1Nr.L a)) (C1Nr.val a) (C1Nr.keep a) [] []
theorem vc1Nr (a : ENr) : (V1Nr a) = ((a.e.mi = a.e.mi /\ a.e.t.lo = a.e.t.lo /\ a.e.t.hi = a.e.t.hi /\ a.e.s.lo = a.e.s.lo /\ a.e.s.hi = a.e.s.hi /\ a.q.p.lo = a.q.p.lo /\ a.q.p.hi = a.q.p.hi /\ a.q.base = a.q.base /\ a.q.scale
 = a.q.scale /\ a.q.off = a.q.off /\ (rng a.q.ms.length λ (i : Nat) => gD a.q.ms i).length = a.q.ms.length /\ (∀ (i : Nat), i < (rng a.q.ms.length λ (i : Nat) => gD a.q.ms i).length -> (gD (rng a.q.ms.length λ (i : Nat)
 => gD a.q.ms i) i).pl = (gD a.q.ms i).pl /\ (gD (rng a.q.ms.length λ (i : Nat) => gD a.q.ms i) i).ht = (gD a.q.ms i).ht) /\ (rng a.q.ns.length λ (i : Nat) => gD a.q.ns i).length = a.q.ns.length /\ (∀ (i : Nat), i < (rng
 a.q.ns.length λ (i : Nat) => gD a.q.ns i).length -> (gD (rng a.q.ns.length λ (i : Nat) => gD a.q.ns i) i).mi = (gD a.q.ns i).mi /\ (gD (rng a.q.ns.length λ (i : Nat) => gD a.q.ns i) i).t.lo = (gD a.q.ns i).t.lo /\ (gD
 (rng a.q.ns.length λ (i : Nat) => gD a.q.ns i) i).t.hi = (gD a.q.ns i).t.hi /\ (gD (rng a.q.ns.length λ (i : Nat) => gD a.q.ns i) i).s.lo = (gD a.q.ns i).s.lo /\ (gD (rng a.q.ns.length λ (i : Nat) => gD a.q.ns i)
 i).s.hi = (gD a.q.ns i).s.hi) /\ a.q.p.lo = a.q.p.lo /\ a.q.p.hi = a.q.p.hi /\ a.q.base = a.q.base /\ a.q.scale = a.q.scale /\ a.q.off = a.q.off /\ a.q.ms.length = (rng a.q.ms.length λ (i : Nat) => gD a.q.ms i).length /\ (∀
 (i : Nat), i < a.q.ms.length -> (gD a.q.ms i).pl = (gD (rng a.q.ms.length λ (i : Nat) => gD a.q.ms i) i).pl /\ (gD a.q.ms i).ht = (gD (rng a.q.ms.length λ (i : Nat) => gD a.q.ms i) i).ht) /\ a.q.ns.length = (rng
 a.q.ns.length λ (i : Nat) => gD a.q.ns i).length /\ ∀ (i : Nat), i < a.q.ns.length -> (gD a.q.ns i).mi = (gD (rng a.q.ns.length λ (i : Nat) => gD a.q.ns i) i).mi /\ (gD a.q.ns i).t.lo = (gD (rng a.q.ns.length λ (i :
 Nat) => gD a.q.ns i) i).t.lo /\ (gD a.q.ns i).t.hi = (gD (rng a.q.ns.length λ (i : Nat) => gD a.q.ns i) i).t.hi /\ (gD a.q.ns i).s.lo = (gD (rng a.q.ns.length λ (i : Nat) => gD a.q.ns i) i).s.lo /\ (gD a.q.ns i).s.hi =
 (gD (rng a.q.ns.length λ (i : Nat) => gD a.q.ns i) i).s.hi) /\ (!rightM a.e (↑a.q.ms.length : Int)) = !rightM (Nt.mk a.e.mi a.e.t a.e.s) (↑(rng a.q.ms.length λ (i : Nat) => gD a.q.ms i).length : Int) /\ a.q.p.lo =
 a.q.p.lo /\ a.q.p.hi = a.q.p.hi /\ a.q.base = a.q.base /\ a.q.scale = a.q.scale /\ a.q.off = a.q.off /\ a.q.ms.length = a.q.ms.length /\ (∀ (i : Nat), i < a.q.ms.length -> (gD a.q.ms i).pl = (gD a.q.ms i).pl /\ (gD a.q.ms i).ht
 = (gD a.q.ms i).ht) /\ a.q.ns.length = a.q.ns.length /\ ∀ (i : Nat), i < a.q.ns.length -> (gD a.q.ns i).mi = (gD a.q.ns i).mi /\ (gD a.q.ns i).t.lo = (gD a.q.ns i).t.lo /\ (gD a.q.ns i).t.hi = (gD a.q.ns i).t.hi /\ (gD a.q.ns
 i).s.lo = (gD a.q.ns i).s.lo /\ (gD a.q.ns i).s.hi = (gD a.q.ns i).s.hi) := by kernel_rfl
theorem ok1Nr : SpecOk Try.prog n_eN1 (C1Nr.spec d1Nr) := okC C1Nr (λ _ => A1Nr) [] [] fn_eN1 (λ _ => by kernel_rfl) (λ _ => gok_cons ok_ck1 gok_nil) (λ (a : ENr) h => by
 show V1Nr a; rw [vc1Nr]; try simp [wr, rng_getD]) (λ _ => noI rfl rfl) _
def d2Nr : List AVal -> Heap -> Option (MNr × List (Nat × Nat) × List Nat)
 | [y, .fn _ _ [.bptr id _]], H => match dRow y H with
  | some (n, g, f) => match H id with
   | .live (.box [.fn _ _ [.bptr j _]]) => match decChB H j with
    | some q => some (⟨q, rng n λ i => dNt (g i)⟩, [(100, id), (101, j)], f)
    | none => none
   | _ => none
  | none => none
 | _, _ => none
def A2Nr (a : MNr) : Ann := { ann 19 [(n_eN1, C1Nr.spec d1Nr)] with E := [100, 101], loops := λ id => if id = 2 then some [{ α := Nat, dflt := 0, T := λ k => ⟨[(0, .d (eNts a.l)), (1, .fn (.func n_eN1) [] [.bptr 100 0]), (7, .int a.l.length), (8, .int k)], (100, .live (BNr a.q)) :: KXNr a.q⟩, inv := λ k => k <= a.l.length /\ idx (λ i => !rightM (gD a.l i) a.q.ms.length) a.l.length 0 = idx (λ i => !rightM (gD a.l i) a.q.ms.length) (a.l.length - k) k, meas := λ k => a.l.length - k }] else none }
def PNr (a : MNr) : List Prop := [a.l.length < 4611686018427387904 /\ True]
def C2Nr : Ctr := { ro := [100, 101], α := MNr, xs := λ a => [.d (eNts a.l), .fn (.func n_eN1) [] [.bptr 100 0]], L := λ a => (100, BNr a.q) :: LXNr a.q, val := λ a => .int (idx (λ i => !rightM (gD a.l i) a.q.ms.length) a.l.length 0), keep := λ a => (100, .live (BNr a.q)) :: KXNr a.q, pre := PNr }
def V2Nr (a : MNr) : Prop := fnVC Try.prog (A2Nr a) F_ifN (bodyOf F_ifN) (C2Nr.xs a) (heapOf (C2Nr.L a)) (C2Nr.val a) (C2Nr.keep a) [] []
abbrev z2Nr_0 (a : MNr) : Prop := a.l.length = a.l.length
abbrev z2Nr_1 (a : MNr) (i : Nat) : Prop := (gD a.l i).mi = (gD a.l i).mi
abbrev z2Nr_2 (a : MNr) (i : Nat) : Prop := (gD a.l i).t.lo = (gD a.l i).t.lo
abbrev z2Nr_3 (a : MNr) (i : Nat) : Prop := (gD a.l i).t.hi = (gD a.l i).t.hi
abbrev z2Nr_4 (a : MNr) (i : Nat) : Prop := (gD a.l i).s.lo = (gD a.l i).s.lo
abbrev z2Nr_5 (a : MNr) (i : Nat) : Prop := (gD a.l i).s.hi = (gD a.l i).s.hi
abbrev z2Nr_6 (a : MNr) : Prop := ∀ (i : Nat), i < a.l.length -> z2Nr_1 a i /\ z2Nr_2 a i /\ z2Nr_3 a i /\ z2Nr_4 a i /\ z2Nr_5 a i
abbrev z2Nr_7 (a : MNr) : Prop := (↑a.l.length : Int) = (↑a.l.length : Int)
abbrev z2Nr_8 (a : MNr) : Prop := a.q.p.lo = a.q.p.lo
abbrev z2Nr_9 (a : MNr) : Prop := a.q.p.hi = a.q.p.hi
abbrev z2Nr_10 (a : MNr) : Prop := z2Nr_8 a /\ z2Nr_9 a /\ a.q.base = a.q.base /\ a.q.scale = a.q.scale /\ a.q.off = a.q.off /\ a.q.ms.length = a.q.ms.length /\ (∀ (i : Nat), i < a.q.ms.length -> (gD a.q.ms i).pl = (gD a.q.ms
 i).pl /\ (gD a.q.ms i).ht = (gD a.q.ms i).ht) /\ a.q.ns.length = a.q.ns.length /\ ∀ (i : Nat), i < a.q.ns.length -> (gD a.q.ns i).mi = (gD a.q.ns i).mi /\ (gD a.q.ns i).t.lo = (gD a.q.ns i).t.lo /\ (gD a.q.ns i).t.hi = (gD
 a.q.ns i).t.hi /\ (gD a.q.ns i).s.lo = (gD a.q.ns i).s.lo /\ (gD a.q.ns i).s.hi = (gD a.q.ns i).s.hi
abbrev z2Nr_11 (a : MNr) (i : Nat) : Bool := !rightM (gD a.l i) (↑a.q.ms.length : Int)
abbrev z2Nr_12 (a : MNr) : Int := idx (λ (i : Nat) => z2Nr_11 a i) a.l.length 0
abbrev z2Nr_13 (a : MNr) (a1 : Nat) : Nat := a.l.length - a1
abbrev z2Nr_14 (a : Nat) (a1 : MNr) : Prop := a <= a1.l.length /\ z2Nr_12 a1 = idx (λ (i : Nat) => z2Nr_11 a1 i) (z2Nr_13 a1 a) a
abbrev z2Nr_15 (a : Nat) (a1 : MNr) : Prop := (↑a : Int) < (↑a1.l.length : Int)
abbrev z2Nr_16 (a : MNr) : List Mk := rng a.q.ms.length λ (i : Nat) => gD a.q.ms i
abbrev z2Nr_17 (a : MNr) : Nat := (z2Nr_16 a).length
abbrev z2Nr_18 (a : MNr) (i : Nat) : Mk := gD (z2Nr_16 a) i
abbrev z2Nr_19 (a : MNr) (i : Nat) : Int := (z2Nr_18 a i).pl
abbrev z2Nr_20 (a : MNr) (i : Nat) : Int := (z2Nr_18 a i).ht
abbrev z2Nr_21 (a : MNr) : List Nt := rng a.q.ns.length λ (i : Nat) => gD a.q.ns i
abbrev z2Nr_22 (a : MNr) : Nat := (z2Nr_21 a).length
abbrev z2Nr_23 (a : MNr) (i : Nat) : Nt := gD (z2Nr_21 a) i
abbrev z2Nr_24 (a : MNr) (i : Nat) : Int := (z2Nr_23 a i).mi
abbrev z2Nr_25 (a : MNr) (i : Nat) : Span := (z2Nr_23 a i).t
abbrev z2Nr_26 (a : MNr) (i : Nat) : Int := (z2Nr_25 a i).lo
abbrev z2Nr_27 (a : MNr) (i : Nat) : Int := (z2Nr_25 a i).hi
abbrev z2Nr_28 (a : MNr) (i : Nat) : Span := (z2Nr_23 a i).s
abbrev z2Nr_29 (a : MNr) (i : Nat) : Int := (z2Nr_28 a i).lo
abbrev z2Nr_30 (a : MNr) (i : Nat) : Int := (z2Nr_28 a i).hi
theorem vc2Nr (a : MNr) : (V2Nr a) = ((∃ (a_1 : Nat), (z2Nr_0 a /\ z2Nr_6 a /\ z2Nr_7 a /\ (↑a_1 : Int) = 0 /\ z2Nr_10 a) /\ z2Nr_14 a_1 a) /\ ∀ (a_1 : Nat), z2Nr_14 a_1 a -> bif decide (z2Nr_15 a_1 a) then ((0 <= (↑a_1 : Int) /\
 z2Nr_15 a_1 a) /\ z2Nr_1 a a_1 /\ z2Nr_2 a a_1 /\ z2Nr_3 a a_1 /\ z2Nr_4 a a_1 /\ z2Nr_5 a a_1 /\ z2Nr_8 a /\ z2Nr_9 a /\ a.q.base = a.q.base /\ a.q.scale = a.q.scale /\ a.q.off = a.q.off /\ z2Nr_17 a = a.q.ms.length /\ (∀ (i :
 Nat), i < z2Nr_17 a -> z2Nr_19 a i = (gD a.q.ms i).pl /\ z2Nr_20 a i = (gD a.q.ms i).ht) /\ z2Nr_22 a = a.q.ns.length /\ (∀ (i : Nat), i < z2Nr_22 a -> z2Nr_24 a i = (gD a.q.ns i).mi /\ z2Nr_26 a i = (gD a.q.ns i).t.lo /\
 z2Nr_27 a i = (gD a.q.ns i).t.hi /\ z2Nr_29 a i = (gD a.q.ns i).s.lo /\ z2Nr_30 a i = (gD a.q.ns i).s.hi) /\ z2Nr_8 a /\ z2Nr_9 a /\ a.q.base = a.q.base /\ a.q.scale = a.q.scale /\ a.q.off = a.q.off /\ a.q.ms.length = z2Nr_17 a
 /\ (∀ (i : Nat), i < a.q.ms.length -> (gD a.q.ms i).pl = z2Nr_19 a i /\ (gD a.q.ms i).ht = z2Nr_20 a i) /\ a.q.ns.length = z2Nr_22 a /\ ∀ (i : Nat), i < a.q.ns.length -> (gD a.q.ns i).mi = z2Nr_24 a i /\ (gD a.q.ns i).t.lo =
 z2Nr_26 a i /\ (gD a.q.ns i).t.hi = z2Nr_27 a i /\ (gD a.q.ns i).s.lo = z2Nr_29 a i /\ (gD a.q.ns i).s.hi = z2Nr_30 a i) /\ bif !rightM (Nt.mk (gD a.l a_1).mi (gD a.l a_1).t (gD a.l a_1).s) (↑(z2Nr_17 a) : Int) then z2Nr_12
 a = (↑a_1 : Int) /\ z2Nr_10 a else ∃ (a_3 : Nat), (z2Nr_0 a /\ z2Nr_6 a /\ z2Nr_7 a /\ (↑a_3 : Int) = IntKind.i64.wrap ((↑a_1 : Int) + 1) /\ z2Nr_10 a) /\ z2Nr_14 a_3 a /\ z2Nr_13 a a_3 < z2Nr_13 a a_1 else z2Nr_12 a = -1 /\
 z2Nr_10 a) := by kernel_rfl
theorem p2Nr (a : MNr) (h : allP (PNr a)) : V2Nr a := by
 obtain ⟨h, hp⟩ : a.l.length < 4611686018427387904 /\ True := h
 rw [vc2Nr]; delta z2Nr_0 z2Nr_1 z2Nr_2 z2Nr_3 z2Nr_4 z2Nr_5 z2Nr_6 z2Nr_7 z2Nr_8 z2Nr_9 z2Nr_10 z2Nr_11 z2Nr_12 z2Nr_13 z2Nr_14 z2Nr_15 z2Nr_16 z2Nr_17 z2Nr_18 z2Nr_19 z2Nr_20 z2Nr_21 z2Nr_22 z2Nr_23 z2Nr_24 z2Nr_25 z2Nr_26 z2Nr_27 z2Nr_28 z2Nr_29 z2Nr_30
 simp only [condP, eq_self, implies_true, and_self, true_and, and_true, true_implies, forall_const, decide_eq_true_eq, decide_eq_false_iff_not, Int.toNat_natCast, dSpan_eSpan, dInt_eInt, dMk_e, dNt_e, dPr_e, Nat.zero_add, Int.zero_sub, Nat.le_eq, Nat.succ_eq_add_one, Nat.add_one_le_iff, Bool.not_eq_true', Bool.not_eq_false', rng_length, dSpan_mk, rng_getD]
 refine ⟨⟨0, rfl, Nat.zero_le _, rfl⟩, λ k ⟨h1, h2⟩ => ⟨λ hlt => ?_, λ hge => ?_⟩⟩
 ·have hlt : k < a.l.length := by omega
  refine ⟨⟨by omega, by omega⟩, λ hp => ?_, λ hp => ⟨k + 1, (wsucc (by omega)).symm, ⟨by omega, ?_⟩, by omega⟩⟩
  ·rw [h2]; exact idx_stop hlt (by simpa using hp)
  ·rw [h2]; exact idx_go hlt (by simpa using hp)
 ·rw [h2]; exact idx_end (by omega)
theorem ok2Nr : SpecOk Try.prog n_ifN (C2Nr.spec d2Nr) := okC C2Nr A2Nr [] [] fn_ifN (λ _ => by kernel_rfl) (λ _ => gok_cons ok1Nr gok_nil) p2Nr (λ _ => noI rfl rfl) _
def C3Nr : Ctr := { C2Nr with val := λ (a : MNr) => .bool (decide (idx (λ i => !rightM (gD a.l i) a.q.ms.length) a.l.length 0 >= 0)) }
def d3Nr : List AVal -> Heap -> Option (C3Nr.α × List (Nat × Nat) × List Nat) := d2Nr
def A3Nr : Ann := { ann 9 [(n_ifN, C2Nr.spec d2Nr)] with E := [100, 101] }
def V3Nr (a : MNr) : Prop := fnVC Try.prog A3Nr F_cfN (bodyOf F_cfN) (C3Nr.xs a) (heapOf (C3Nr.L a)) (C3Nr.val a) (C3Nr.keep a) [] []
theorem vc3Nr (a : MNr) : (V3Nr a) = (((rng a.l.length λ (i : Nat) => gD a.l i).length = a.l.length /\ (∀ (i : Nat), i < (rng a.l.length λ (i : Nat) => gD a.l i).length -> (gD (rng a.l.length λ (i : Nat) => gD a.l i)
 i).mi = (gD a.l i).mi /\ (gD (rng a.l.length λ (i : Nat) => gD a.l i) i).t.lo = (gD a.l i).t.lo /\ (gD (rng a.l.length λ (i : Nat) => gD a.l i) i).t.hi = (gD a.l i).t.hi /\ (gD (rng a.l.length λ (i : Nat) => gD a.l i)
 i).s.lo = (gD a.l i).s.lo /\ (gD (rng a.l.length λ (i : Nat) => gD a.l i) i).s.hi = (gD a.l i).s.hi) /\ a.q.p.lo = a.q.p.lo /\ a.q.p.hi = a.q.p.hi /\ a.q.base = a.q.base /\ a.q.scale = a.q.scale /\ a.q.off = a.q.off /\ (rng
 a.q.ms.length λ (i : Nat) => gD a.q.ms i).length = a.q.ms.length /\ (∀ (i : Nat), i < (rng a.q.ms.length λ (i : Nat) => gD a.q.ms i).length -> (gD (rng a.q.ms.length λ (i : Nat) => gD a.q.ms i) i).pl = (gD a.q.ms
 i).pl /\ (gD (rng a.q.ms.length λ (i : Nat) => gD a.q.ms i) i).ht = (gD a.q.ms i).ht) /\ (rng a.q.ns.length λ (i : Nat) => gD a.q.ns i).length = a.q.ns.length /\ (∀ (i : Nat), i < (rng a.q.ns.length λ (i : Nat) => gD
 a.q.ns i).length -> (gD (rng a.q.ns.length λ (i : Nat) => gD a.q.ns i) i).mi = (gD a.q.ns i).mi /\ (gD (rng a.q.ns.length λ (i : Nat) => gD a.q.ns i) i).t.lo = (gD a.q.ns i).t.lo /\ (gD (rng a.q.ns.length λ (i : Nat)
 => gD a.q.ns i) i).t.hi = (gD a.q.ns i).t.hi /\ (gD (rng a.q.ns.length λ (i : Nat) => gD a.q.ns i) i).s.lo = (gD a.q.ns i).s.lo /\ (gD (rng a.q.ns.length λ (i : Nat) => gD a.q.ns i) i).s.hi = (gD a.q.ns i).s.hi) /\
 a.q.p.lo = a.q.p.lo /\ a.q.p.hi = a.q.p.hi /\ a.q.base = a.q.base /\ a.q.scale = a.q.scale /\ a.q.off = a.q.off /\ a.q.ms.length = (rng a.q.ms.length λ (i : Nat) => gD a.q.ms i).length /\ (∀ (i : Nat), i < a.q.ms.length ->
 (gD a.q.ms i).pl = (gD (rng a.q.ms.length λ (i : Nat) => gD a.q.ms i) i).pl /\ (gD a.q.ms i).ht = (gD (rng a.q.ms.length λ (i : Nat) => gD a.q.ms i) i).ht) /\ a.q.ns.length = (rng a.q.ns.length λ (i : Nat) => gD
 a.q.ns i).length /\ (∀ (i : Nat), i < a.q.ns.length -> (gD a.q.ns i).mi = (gD (rng a.q.ns.length λ (i : Nat) => gD a.q.ns i) i).mi /\ (gD a.q.ns i).t.lo = (gD (rng a.q.ns.length λ (i : Nat) => gD a.q.ns i) i).t.lo /\ (gD
 a.q.ns i).t.hi = (gD (rng a.q.ns.length λ (i : Nat) => gD a.q.ns i) i).t.hi /\ (gD a.q.ns i).s.lo = (gD (rng a.q.ns.length λ (i : Nat) => gD a.q.ns i) i).s.lo /\ (gD a.q.ns i).s.hi = (gD (rng a.q.ns.length λ (i :
 Nat) => gD a.q.ns i) i).s.hi) /\ (rng a.l.length λ (i : Nat) => gD a.l i).length < 4611686018427387904 /\ True) /\ decide (idx (λ (i : Nat) => !rightM (gD a.l i) (↑a.q.ms.length : Int)) a.l.length 0 >= 0) = decide (idx
 (λ (i : Nat) => !rightM (gD (rng a.l.length λ (i : Nat) => gD a.l i) i) (↑(rng a.q.ms.length λ (i : Nat) => gD a.q.ms i).length : Int)) (rng a.l.length λ (i : Nat) => gD a.l i).length 0 >= 0) /\ a.q.p.lo = a.q.p.lo
 /\ a.q.p.hi = a.q.p.hi /\ a.q.base = a.q.base /\ a.q.scale = a.q.scale /\ a.q.off = a.q.off /\ a.q.ms.length = a.q.ms.length /\ (∀ (i : Nat), i < a.q.ms.length -> (gD a.q.ms i).pl = (gD a.q.ms i).pl /\ (gD a.q.ms i).ht = (gD
 a.q.ms i).ht) /\ a.q.ns.length = a.q.ns.length /\ ∀ (i : Nat), i < a.q.ns.length -> (gD a.q.ns i).mi = (gD a.q.ns i).mi /\ (gD a.q.ns i).t.lo = (gD a.q.ns i).t.lo /\ (gD a.q.ns i).t.hi = (gD a.q.ns i).t.hi /\ (gD a.q.ns
 i).s.lo = (gD a.q.ns i).s.lo /\ (gD a.q.ns i).s.hi = (gD a.q.ns i).s.hi) := by kernel_rfl
theorem ok3Nr : SpecOk Try.prog n_cfN (C3Nr.spec d3Nr) := Ctr.spec_ok (C := C3Nr) (λ (a : MNr) h => fnt (A := A3Nr) (ren := []) (fz := []) fn_cfN (by kernel_rfl) (gok_cons ok2Nr gok_nil) (by
 obtain ⟨h, hp⟩ : a.l.length < 4611686018427387904 /\ True := h
 show V3Nr a; rw [vc3Nr]; simp [h, rng_getD])) _
def d4Nr : List AVal -> Heap -> Option (MNr × List (Nat × Nat) × List Nat)
 | [y, .fn _ _ [.bptr j _]], H => match dRow y H with
  | some (n, g, f) => match decChB H j with
   | some q => some (⟨q, rng n λ i => dNt (g i)⟩, [(101, j)], f)
   | none => none
  | none => none
 | _, _ => none
def A4Nr : Ann := { ann 9 [(n_cfN, C3Nr.spec d3Nr)] with E := [101] }
def C4Nr : Ctr := { ro := [101], α := MNr, xs := λ a => [.d (eNts a.l), fvNr a.q], L := λ a => LXNr a.q, val := λ a => .bool (a.l.all λ x => rightM x a.q.ms.length), keep := λ a => KXNr a.q, pre := PNr }
def V4Nr (a : MNr) : Prop := fnVC Try.prog A4Nr F_eN (bodyOf F_eN) (C4Nr.xs a) (heapOf (C4Nr.L a)) (C4Nr.val a) (C4Nr.keep a) [] []
theorem vc4Nr (a : MNr) : (V4Nr a) = (((rng a.l.length λ (i : Nat) => gD a.l i).length = a.l.length /\ (∀ (i : Nat), i < (rng a.l.length λ (i : Nat) => gD a.l i).length -> (gD (rng a.l.length λ (i : Nat) => gD a.l i)
 i).mi = (gD a.l i).mi /\ (gD (rng a.l.length λ (i : Nat) => gD a.l i) i).t.lo = (gD a.l i).t.lo /\ (gD (rng a.l.length λ (i : Nat) => gD a.l i) i).t.hi = (gD a.l i).t.hi /\ (gD (rng a.l.length λ (i : Nat) => gD a.l i)
 i).s.lo = (gD a.l i).s.lo /\ (gD (rng a.l.length λ (i : Nat) => gD a.l i) i).s.hi = (gD a.l i).s.hi) /\ a.q.p.lo = a.q.p.lo /\ a.q.p.hi = a.q.p.hi /\ a.q.base = a.q.base /\ a.q.scale = a.q.scale /\ a.q.off = a.q.off /\ (rng
 a.q.ms.length λ (i : Nat) => gD a.q.ms i).length = a.q.ms.length /\ (∀ (i : Nat), i < (rng a.q.ms.length λ (i : Nat) => gD a.q.ms i).length -> (gD (rng a.q.ms.length λ (i : Nat) => gD a.q.ms i) i).pl = (gD a.q.ms
 i).pl /\ (gD (rng a.q.ms.length λ (i : Nat) => gD a.q.ms i) i).ht = (gD a.q.ms i).ht) /\ (rng a.q.ns.length λ (i : Nat) => gD a.q.ns i).length = a.q.ns.length /\ (∀ (i : Nat), i < (rng a.q.ns.length λ (i : Nat) => gD
 a.q.ns i).length -> (gD (rng a.q.ns.length λ (i : Nat) => gD a.q.ns i) i).mi = (gD a.q.ns i).mi /\ (gD (rng a.q.ns.length λ (i : Nat) => gD a.q.ns i) i).t.lo = (gD a.q.ns i).t.lo /\ (gD (rng a.q.ns.length λ (i : Nat)
 => gD a.q.ns i) i).t.hi = (gD a.q.ns i).t.hi /\ (gD (rng a.q.ns.length λ (i : Nat) => gD a.q.ns i) i).s.lo = (gD a.q.ns i).s.lo /\ (gD (rng a.q.ns.length λ (i : Nat) => gD a.q.ns i) i).s.hi = (gD a.q.ns i).s.hi) /\
 a.q.p.lo = a.q.p.lo /\ a.q.p.hi = a.q.p.hi /\ a.q.base = a.q.base /\ a.q.scale = a.q.scale /\ a.q.off = a.q.off /\ a.q.ms.length = (rng a.q.ms.length λ (i : Nat) => gD a.q.ms i).length /\ (∀ (i : Nat), i < a.q.ms.length ->
 (gD a.q.ms i).pl = (gD (rng a.q.ms.length λ (i : Nat) => gD a.q.ms i) i).pl /\ (gD a.q.ms i).ht = (gD (rng a.q.ms.length λ (i : Nat) => gD a.q.ms i) i).ht) /\ a.q.ns.length = (rng a.q.ns.length λ (i : Nat) => gD
 a.q.ns i).length /\ (∀ (i : Nat), i < a.q.ns.length -> (gD a.q.ns i).mi = (gD (rng a.q.ns.length λ (i : Nat) => gD a.q.ns i) i).mi /\ (gD a.q.ns i).t.lo = (gD (rng a.q.ns.length λ (i : Nat) => gD a.q.ns i) i).t.lo /\ (gD
 a.q.ns i).t.hi = (gD (rng a.q.ns.length λ (i : Nat) => gD a.q.ns i) i).t.hi /\ (gD a.q.ns i).s.lo = (gD (rng a.q.ns.length λ (i : Nat) => gD a.q.ns i) i).s.lo /\ (gD a.q.ns i).s.hi = (gD (rng a.q.ns.length λ (i :
 Nat) => gD a.q.ns i) i).s.hi) /\ (rng a.l.length λ (i : Nat) => gD a.l i).length < 4611686018427387904 /\ True) /\ (a.l.all λ (x : Nt) => rightM x (↑a.q.ms.length : Int)) = !decide (idx (λ (i : Nat) => !rightM (gD
 (rng a.l.length λ (i : Nat) => gD a.l i) i) (↑(rng a.q.ms.length λ (i : Nat) => gD a.q.ms i).length : Int)) (rng a.l.length λ (i : Nat) => gD a.l i).length 0 >= 0) /\ a.q.p.lo = a.q.p.lo /\ a.q.p.hi = a.q.p.hi /\
 a.q.base = a.q.base /\ a.q.scale = a.q.scale /\ a.q.off = a.q.off /\ a.q.ms.length = a.q.ms.length /\ (∀ (i : Nat), i < a.q.ms.length -> (gD a.q.ms i).pl = (gD a.q.ms i).pl /\ (gD a.q.ms i).ht = (gD a.q.ms i).ht) /\
 a.q.ns.length = a.q.ns.length /\ ∀ (i : Nat), i < a.q.ns.length -> (gD a.q.ns i).mi = (gD a.q.ns i).mi /\ (gD a.q.ns i).t.lo = (gD a.q.ns i).t.lo /\ (gD a.q.ns i).t.hi = (gD a.q.ns i).t.hi /\ (gD a.q.ns i).s.lo = (gD a.q.ns
 i).s.lo /\ (gD a.q.ns i).s.hi = (gD a.q.ns i).s.hi) := by kernel_rfl
theorem fn4Nr (a : MNr) (h : allP (PNr a)) : FnT Try.prog n_eN (C4Nr.xs a) (heapOf (C4Nr.L a)) (C4Nr.val a) (C4Nr.keep a) := fnt (A := A4Nr) (ren := []) (fz := []) fn_eN (by kernel_rfl) (gok_cons ok3Nr gok_nil) (by
 have h' : a.l.length < 4611686018427387904 /\ True := h
 show V4Nr a; rw [vc4Nr]; simp only [condP, eq_self, implies_true, and_self, true_and, and_true, true_implies, forall_const, decide_eq_true_eq, decide_eq_false_iff_not, Int.toNat_natCast, dSpan_eSpan, dInt_eInt, dMk_e, dNt_e, dPr_e, Nat.zero_add, Int.zero_sub, Nat.le_eq, Nat.succ_eq_add_one, Nat.add_one_le_iff, Bool.not_eq_true', Bool.not_eq_false', rng_length, dSpan_mk, rng_getD, ge_iff_le]
 rw [<- every_all]
 exact ⟨h'.1, rfl⟩)
theorem ok4Nr : SpecOk Try.prog n_eN (C4Nr.spec d4Nr) := Ctr.spec_ok (C := C4Nr) fn4Nr _
def fvSa (q : One) : AVal := .fn (.func n_all1) [] []
def BSa (q : One) : AObj := .box [fvSa q]
structure ESa where
 q : One
 e : Span
structure MSa where
 q : One
 l : List Span
def C1Sa : Ctr := { ro := [100], α := ESa, xs := λ a => [.d (eSpan a.e), .bptr 100 0], L := λ a => (100, BSa a.q) :: [], val := λ a => .bool (!leM a.e), keep := λ a => (100, .live (BSa a.q)) :: [] }
def d1Sa : List AVal -> Heap -> Option (ESa × List (Nat × Nat) × List Nat)
 | [.d d, .bptr id _], H => some (⟨default, dSpan d⟩, [(100, id)], [])
 | _, _ => none
def A1Sa : Ann := { ann 8 [(n_all1, s_all1)] with E := [100] }
def V1Sa (a : ESa) : Prop := fnVC Try.prog A1Sa F_eS1 (bodyOf F_eS1) (C1Sa.xs a) (heapOf (C1Sa.L a)) (C1Sa.val a) (C1Sa.keep a) [] []
theorem vc1Sa (a : ESa) : (V1Sa a) = ((!leM a.e) = !leM a.e) := by kernel_rfl
theorem ok1Sa : SpecOk Try.prog n_eS1 (C1Sa.spec d1Sa) := okC C1Sa (λ _ => A1Sa) [] [] fn_eS1 (λ _ => by kernel_rfl) (λ _ => gok_cons ok_all1 gok_nil) (λ (a : ESa) h => by
 show V1Sa a; rw [vc1Sa]; try simp [wr, rng_getD]) (λ _ => noI rfl rfl) _
def d2Sa : List AVal -> Heap -> Option (MSa × List (Nat × Nat) × List Nat)
 | [y, .fn _ _ [.bptr id _]], H => match dRow y H with
  | some (n, g, f) => some (⟨default, rng n λ i => dSpan (g i)⟩, [(100, id)], f)
  | none => none
 | _, _ => none
def A2Sa (a : MSa) : Ann := { ann 19 [(n_eS1, C1Sa.spec d1Sa)] with E := [100], loops := λ id => if id = 2 then some [{ α := Nat, dflt := 0, T := λ k => ⟨[(0, .d (eSpans a.l)), (1, .fn (.func n_eS1) [] [.bptr 100 0]), (7, .int a.l.length), (8, .int k)], (100, .live (BSa a.q)) :: []⟩, inv := λ k => k <= a.l.length /\ idx (λ i => !leM (gD a.l i)) a.l.length 0 = idx (λ i => !leM (gD a.l i)) (a.l.length - k) k, meas := λ k => a.l.length - k }] else none }
def PSa (a : MSa) : List Prop := [a.l.length < 4611686018427387904 /\ True]
def C2Sa : Ctr := { ro := [100], α := MSa, xs := λ a => [.d (eSpans a.l), .fn (.func n_eS1) [] [.bptr 100 0]], L := λ a => (100, BSa a.q) :: [], val := λ a => .int (idx (λ i => !leM (gD a.l i)) a.l.length 0), keep := λ a => (100, .live (BSa a.q)) :: [], pre := PSa }
def V2Sa (a : MSa) : Prop := fnVC Try.prog (A2Sa a) F_ifS (bodyOf F_ifS) (C2Sa.xs a) (heapOf (C2Sa.L a)) (C2Sa.val a) (C2Sa.keep a) [] []
theorem vc2Sa (a : MSa) : (V2Sa a) = ((∃ (a_1 : Nat), (a.l.length = a.l.length /\ (∀ (i : Nat), i < a.l.length -> (gD a.l i).lo = (gD a.l i).lo /\ (gD a.l i).hi = (gD a.l i).hi) /\ (↑a.l.length : Int) = (↑a.l.length : Int) /\
 (↑a_1 : Int) = 0) /\ a_1 <= a.l.length /\ idx (λ (i : Nat) => !leM (gD a.l i)) a.l.length 0 = idx (λ (i : Nat) => !leM (gD a.l i)) (a.l.length - a_1) a_1) /\ ∀ (a_1 : Nat), a_1 <= a.l.length /\ idx (λ (i : Nat) => !leM
 (gD a.l i)) a.l.length 0 = idx (λ (i : Nat) => !leM (gD a.l i)) (a.l.length - a_1) a_1 -> bif decide ((↑a_1 : Int) < (↑a.l.length : Int)) then ((0 <= (↑a_1 : Int) /\ (↑a_1 : Int) < (↑a.l.length : Int)) /\ (gD a.l a_1).lo =
 (gD a.l a_1).lo /\ (gD a.l a_1).hi = (gD a.l a_1).hi) /\ bif !leM (gD a.l a_1) then idx (λ (i : Nat) => !leM (gD a.l i)) a.l.length 0 = (↑a_1 : Int) else ∃ (a_3 : Nat), (a.l.length = a.l.length /\ (∀ (i : Nat), i <
 a.l.length -> (gD a.l i).lo = (gD a.l i).lo /\ (gD a.l i).hi = (gD a.l i).hi) /\ (↑a.l.length : Int) = (↑a.l.length : Int) /\ (↑a_3 : Int) = IntKind.i64.wrap ((↑a_1 : Int) + 1)) /\ (a_3 <= a.l.length /\ idx (λ (i : Nat) =>
 !leM (gD a.l i)) a.l.length 0 = idx (λ (i : Nat) => !leM (gD a.l i)) (a.l.length - a_3) a_3) /\ a.l.length - a_3 < a.l.length - a_1 else idx (λ (i : Nat) => !leM (gD a.l i)) a.l.length 0 = -1) := by kernel_rfl
theorem p2Sa (a : MSa) (h : allP (PSa a)) : V2Sa a := by
 obtain ⟨h, hp⟩ : a.l.length < 4611686018427387904 /\ True := h
 rw [vc2Sa]
 simp only [condP, eq_self, implies_true, and_self, true_and, and_true, true_implies, forall_const, decide_eq_true_eq, decide_eq_false_iff_not, Int.toNat_natCast, dSpan_eSpan, dInt_eInt, dMk_e, dNt_e, dPr_e, Nat.zero_add, Int.zero_sub, Nat.le_eq, Nat.succ_eq_add_one, Nat.add_one_le_iff, Bool.not_eq_true', Bool.not_eq_false', rng_length, dSpan_mk, rng_getD]
 refine ⟨⟨0, rfl, Nat.zero_le _, rfl⟩, λ k ⟨h1, h2⟩ => ⟨λ hlt => ?_, λ hge => ?_⟩⟩
 ·have hlt : k < a.l.length := by omega
  refine ⟨⟨by omega, by omega⟩, λ hp => ?_, λ hp => ⟨k + 1, (wsucc (by omega)).symm, ⟨by omega, ?_⟩, by omega⟩⟩
  ·rw [h2]; exact idx_stop hlt (by simpa using hp)
  ·rw [h2]; exact idx_go hlt (by simpa using hp)
 ·rw [h2]; exact idx_end (by omega)
theorem ok2Sa : SpecOk Try.prog n_ifS (C2Sa.spec d2Sa) := okC C2Sa A2Sa [] [] fn_ifS (λ _ => by kernel_rfl) (λ _ => gok_cons ok1Sa gok_nil) p2Sa (λ _ => noI rfl rfl) _
def C3Sa : Ctr := { C2Sa with val := λ (a : MSa) => .bool (decide (idx (λ i => !leM (gD a.l i)) a.l.length 0 >= 0)) }
def d3Sa : List AVal -> Heap -> Option (C3Sa.α × List (Nat × Nat) × List Nat) := d2Sa
def A3Sa : Ann := { ann 9 [(n_ifS, C2Sa.spec d2Sa)] with E := [100] }
def V3Sa (a : MSa) : Prop := fnVC Try.prog A3Sa F_cfS (bodyOf F_cfS) (C3Sa.xs a) (heapOf (C3Sa.L a)) (C3Sa.val a) (C3Sa.keep a) [] []
theorem vc3Sa (a : MSa) : (V3Sa a) = (((rng a.l.length λ (i : Nat) => gD a.l i).length = a.l.length /\ (∀ (i : Nat), i < (rng a.l.length λ (i : Nat) => gD a.l i).length -> (gD (rng a.l.length λ (i : Nat) => gD a.l i)
 i).lo = (gD a.l i).lo /\ (gD (rng a.l.length λ (i : Nat) => gD a.l i) i).hi = (gD a.l i).hi) /\ (rng a.l.length λ (i : Nat) => gD a.l i).length < 4611686018427387904 /\ True) /\ decide (idx (λ (i : Nat) => !leM (gD a.l
 i)) a.l.length 0 >= 0) = decide (idx (λ (i : Nat) => !leM (gD (rng a.l.length λ (i : Nat) => gD a.l i) i)) (rng a.l.length λ (i : Nat) => gD a.l i).length 0 >= 0)) := by kernel_rfl
theorem ok3Sa : SpecOk Try.prog n_cfS (C3Sa.spec d3Sa) := Ctr.spec_ok (C := C3Sa) (λ (a : MSa) h => fnt (A := A3Sa) (ren := []) (fz := []) fn_cfS (by kernel_rfl) (gok_cons ok2Sa gok_nil) (by
 obtain ⟨h, hp⟩ : a.l.length < 4611686018427387904 /\ True := h
 show V3Sa a; rw [vc3Sa]; simp [h, rng_getD])) _
def d4Sa : List AVal -> Heap -> Option (MSa × List (Nat × Nat) × List Nat)
 | [y, .fn _ _ _], H => match dRow y H with
  | some (n, g, f) => some (⟨default, rng n λ i => dSpan (g i)⟩, [], f)
  | none => none
 | _, _ => none
def A4Sa : Ann := { ann 9 [(n_cfS, C3Sa.spec d3Sa)] with E := [] }
def C4Sa : Ctr := { ro := [], α := MSa, xs := λ a => [.d (eSpans a.l), fvSa a.q], L := λ a => [], val := λ a => .bool (a.l.all λ x => leM x), keep := λ a => [], pre := PSa }
def V4Sa (a : MSa) : Prop := fnVC Try.prog A4Sa F_eS (bodyOf F_eS) (C4Sa.xs a) (heapOf (C4Sa.L a)) (C4Sa.val a) (C4Sa.keep a) [] []
theorem vc4Sa (a : MSa) : (V4Sa a) = (((rng a.l.length λ (i : Nat) => gD a.l i).length = a.l.length /\ (∀ (i : Nat), i < (rng a.l.length λ (i : Nat) => gD a.l i).length -> (gD (rng a.l.length λ (i : Nat) => gD a.l i)
 i).lo = (gD a.l i).lo /\ (gD (rng a.l.length λ (i : Nat) => gD a.l i) i).hi = (gD a.l i).hi) /\ (rng a.l.length λ (i : Nat) => gD a.l i).length < 4611686018427387904 /\ True) /\ (a.l.all λ (x : Span) => leM x) =
 !decide (idx (λ (i : Nat) => !leM (gD (rng a.l.length λ (i : Nat) => gD a.l i) i)) (rng a.l.length λ (i : Nat) => gD a.l i).length 0 >= 0)) := by kernel_rfl
theorem fn4Sa (a : MSa) (h : allP (PSa a)) : FnT Try.prog n_eS (C4Sa.xs a) (heapOf (C4Sa.L a)) (C4Sa.val a) (C4Sa.keep a) := fnt (A := A4Sa) (ren := []) (fz := []) fn_eS (by kernel_rfl) (gok_cons ok3Sa gok_nil) (by
 have h' : a.l.length < 4611686018427387904 /\ True := h
 show V4Sa a; rw [vc4Sa]; simp only [condP, eq_self, implies_true, and_self, true_and, and_true, true_implies, forall_const, decide_eq_true_eq, decide_eq_false_iff_not, Int.toNat_natCast, dSpan_eSpan, dInt_eInt, dMk_e, dNt_e, dPr_e, Nat.zero_add, Int.zero_sub, Nat.le_eq, Nat.succ_eq_add_one, Nat.add_one_le_iff, Bool.not_eq_true', Bool.not_eq_false', rng_length, dSpan_mk, rng_getD, ge_iff_le]
 rw [<- every_all]
 exact ⟨h'.1, rfl⟩)
theorem ok4Sa : SpecOk Try.prog n_eS (C4Sa.spec d4Sa) := Ctr.spec_ok (C := C4Sa) fn4Sa _
def fvSn (q : One) : AVal := .fn (.func n_nar2) [] []
def BSn (q : One) : AObj := .box [fvSn q]
structure ESn where
 q : One
 e : Span
structure MSn where
 q : One
 l : List Span
def C1Sn : Ctr := { ro := [100], α := ESn, xs := λ a => [.d (eSpan a.e), .bptr 100 0], L := λ a => (100, BSn a.q) :: [], val := λ a => .bool (!leM a.e), keep := λ a => (100, .live (BSn a.q)) :: [] }
def d1Sn : List AVal -> Heap -> Option (ESn × List (Nat × Nat) × List Nat)
 | [.d d, .bptr id _], H => some (⟨default, dSpan d⟩, [(100, id)], [])
 | _, _ => none
def A1Sn : Ann := { ann 8 [(n_nar2, s_all1)] with E := [100] }
def V1Sn (a : ESn) : Prop := fnVC Try.prog A1Sn F_eS1 (bodyOf F_eS1) (C1Sn.xs a) (heapOf (C1Sn.L a)) (C1Sn.val a) (C1Sn.keep a) [] []
theorem vc1Sn (a : ESn) : (V1Sn a) = ((!leM a.e) = !leM a.e) := by kernel_rfl
theorem ok1Sn : SpecOk Try.prog n_eS1 (C1Sn.spec d1Sn) := okC C1Sn (λ _ => A1Sn) [] [] fn_eS1 (λ _ => by kernel_rfl) (λ _ => gok_cons ok_nar2 gok_nil) (λ (a : ESn) h => by
 show V1Sn a; rw [vc1Sn]; try simp [wr, rng_getD]) (λ _ => noI rfl rfl) _
def d2Sn : List AVal -> Heap -> Option (MSn × List (Nat × Nat) × List Nat)
 | [y, .fn _ _ [.bptr id _]], H => match dRow y H with
  | some (n, g, f) => some (⟨default, rng n λ i => dSpan (g i)⟩, [(100, id)], f)
  | none => none
 | _, _ => none
def A2Sn (a : MSn) : Ann := { ann 19 [(n_eS1, C1Sn.spec d1Sn)] with E := [100], loops := λ id => if id = 2 then some [{ α := Nat, dflt := 0, T := λ k => ⟨[(0, .d (eSpans a.l)), (1, .fn (.func n_eS1) [] [.bptr 100 0]), (7, .int a.l.length), (8, .int k)], (100, .live (BSn a.q)) :: []⟩, inv := λ k => k <= a.l.length /\ idx (λ i => !leM (gD a.l i)) a.l.length 0 = idx (λ i => !leM (gD a.l i)) (a.l.length - k) k, meas := λ k => a.l.length - k }] else none }
def PSn (a : MSn) : List Prop := [a.l.length < 4611686018427387904 /\ True]
def C2Sn : Ctr := { ro := [100], α := MSn, xs := λ a => [.d (eSpans a.l), .fn (.func n_eS1) [] [.bptr 100 0]], L := λ a => (100, BSn a.q) :: [], val := λ a => .int (idx (λ i => !leM (gD a.l i)) a.l.length 0), keep := λ a => (100, .live (BSn a.q)) :: [], pre := PSn }
def V2Sn (a : MSn) : Prop := fnVC Try.prog (A2Sn a) F_ifS (bodyOf F_ifS) (C2Sn.xs a) (heapOf (C2Sn.L a)) (C2Sn.val a) (C2Sn.keep a) [] []
theorem vc2Sn (a : MSn) : (V2Sn a) = ((∃ (a_1 : Nat), (a.l.length = a.l.length /\ (∀ (i : Nat), i < a.l.length -> (gD a.l i).lo = (gD a.l i).lo /\ (gD a.l i).hi = (gD a.l i).hi) /\ (↑a.l.length : Int) = (↑a.l.length : Int) /\
 (↑a_1 : Int) = 0) /\ a_1 <= a.l.length /\ idx (λ (i : Nat) => !leM (gD a.l i)) a.l.length 0 = idx (λ (i : Nat) => !leM (gD a.l i)) (a.l.length - a_1) a_1) /\ ∀ (a_1 : Nat), a_1 <= a.l.length /\ idx (λ (i : Nat) => !leM
 (gD a.l i)) a.l.length 0 = idx (λ (i : Nat) => !leM (gD a.l i)) (a.l.length - a_1) a_1 -> bif decide ((↑a_1 : Int) < (↑a.l.length : Int)) then ((0 <= (↑a_1 : Int) /\ (↑a_1 : Int) < (↑a.l.length : Int)) /\ (gD a.l a_1).lo =
 (gD a.l a_1).lo /\ (gD a.l a_1).hi = (gD a.l a_1).hi) /\ bif !leM (gD a.l a_1) then idx (λ (i : Nat) => !leM (gD a.l i)) a.l.length 0 = (↑a_1 : Int) else ∃ (a_3 : Nat), (a.l.length = a.l.length /\ (∀ (i : Nat), i <
 a.l.length -> (gD a.l i).lo = (gD a.l i).lo /\ (gD a.l i).hi = (gD a.l i).hi) /\ (↑a.l.length : Int) = (↑a.l.length : Int) /\ (↑a_3 : Int) = IntKind.i64.wrap ((↑a_1 : Int) + 1)) /\ (a_3 <= a.l.length /\ idx (λ (i : Nat) =>
 !leM (gD a.l i)) a.l.length 0 = idx (λ (i : Nat) => !leM (gD a.l i)) (a.l.length - a_3) a_3) /\ a.l.length - a_3 < a.l.length - a_1 else idx (λ (i : Nat) => !leM (gD a.l i)) a.l.length 0 = -1) := by kernel_rfl
theorem p2Sn (a : MSn) (h : allP (PSn a)) : V2Sn a := by
 obtain ⟨h, hp⟩ : a.l.length < 4611686018427387904 /\ True := h
 rw [vc2Sn]
 simp only [condP, eq_self, implies_true, and_self, true_and, and_true, true_implies, forall_const, decide_eq_true_eq, decide_eq_false_iff_not, Int.toNat_natCast, dSpan_eSpan, dInt_eInt, dMk_e, dNt_e, dPr_e, Nat.zero_add, Int.zero_sub, Nat.le_eq, Nat.succ_eq_add_one, Nat.add_one_le_iff, Bool.not_eq_true', Bool.not_eq_false', rng_length, dSpan_mk, rng_getD]
 refine ⟨⟨0, rfl, Nat.zero_le _, rfl⟩, λ k ⟨h1, h2⟩ => ⟨λ hlt => ?_, λ hge => ?_⟩⟩
 ·have hlt : k < a.l.length := by omega
  refine ⟨⟨by omega, by omega⟩, λ hp => ?_, λ hp => ⟨k + 1, (wsucc (by omega)).symm, ⟨by omega, ?_⟩, by omega⟩⟩
  ·rw [h2]; exact idx_stop hlt (by simpa using hp)
  ·rw [h2]; exact idx_go hlt (by simpa using hp)
 ·rw [h2]; exact idx_end (by omega)
theorem ok2Sn : SpecOk Try.prog n_ifS (C2Sn.spec d2Sn) := okC C2Sn A2Sn [] [] fn_ifS (λ _ => by kernel_rfl) (λ _ => gok_cons ok1Sn gok_nil) p2Sn (λ _ => noI rfl rfl) _
def C3Sn : Ctr := { C2Sn with val := λ (a : MSn) => .bool (decide (idx (λ i => !leM (gD a.l i)) a.l.length 0 >= 0)) }
def d3Sn : List AVal -> Heap -> Option (C3Sn.α × List (Nat × Nat) × List Nat) := d2Sn
def A3Sn : Ann := { ann 9 [(n_ifS, C2Sn.spec d2Sn)] with E := [100] }
def V3Sn (a : MSn) : Prop := fnVC Try.prog A3Sn F_cfS (bodyOf F_cfS) (C3Sn.xs a) (heapOf (C3Sn.L a)) (C3Sn.val a) (C3Sn.keep a) [] []
theorem vc3Sn (a : MSn) : (V3Sn a) = (((rng a.l.length λ (i : Nat) => gD a.l i).length = a.l.length /\ (∀ (i : Nat), i < (rng a.l.length λ (i : Nat) => gD a.l i).length -> (gD (rng a.l.length λ (i : Nat) => gD a.l i)
 i).lo = (gD a.l i).lo /\ (gD (rng a.l.length λ (i : Nat) => gD a.l i) i).hi = (gD a.l i).hi) /\ (rng a.l.length λ (i : Nat) => gD a.l i).length < 4611686018427387904 /\ True) /\ decide (idx (λ (i : Nat) => !leM (gD a.l
 i)) a.l.length 0 >= 0) = decide (idx (λ (i : Nat) => !leM (gD (rng a.l.length λ (i : Nat) => gD a.l i) i)) (rng a.l.length λ (i : Nat) => gD a.l i).length 0 >= 0)) := by kernel_rfl
theorem ok3Sn : SpecOk Try.prog n_cfS (C3Sn.spec d3Sn) := Ctr.spec_ok (C := C3Sn) (λ (a : MSn) h => fnt (A := A3Sn) (ren := []) (fz := []) fn_cfS (by kernel_rfl) (gok_cons ok2Sn gok_nil) (by
 obtain ⟨h, hp⟩ : a.l.length < 4611686018427387904 /\ True := h
 show V3Sn a; rw [vc3Sn]; simp [h, rng_getD])) _
def A4Sn : Ann := { ann 9 [(n_cfS, C3Sn.spec d3Sn)] with E := [] }
def C4Sn : Ctr := { ro := [], α := MSn, xs := λ a => [.d (eSpans a.l), fvSn a.q], L := λ a => [], val := λ a => .bool (a.l.all λ x => leM x), keep := λ a => [], pre := PSn }
def V4Sn (a : MSn) : Prop := fnVC Try.prog A4Sn F_eS (bodyOf F_eS) (C4Sn.xs a) (heapOf (C4Sn.L a)) (C4Sn.val a) (C4Sn.keep a) [] []
theorem vc4Sn (a : MSn) : (V4Sn a) = (((rng a.l.length λ (i : Nat) => gD a.l i).length = a.l.length /\ (∀ (i : Nat), i < (rng a.l.length λ (i : Nat) => gD a.l i).length -> (gD (rng a.l.length λ (i : Nat) => gD a.l i)
 i).lo = (gD a.l i).lo /\ (gD (rng a.l.length λ (i : Nat) => gD a.l i) i).hi = (gD a.l i).hi) /\ (rng a.l.length λ (i : Nat) => gD a.l i).length < 4611686018427387904 /\ True) /\ (a.l.all λ (x : Span) => leM x) =
 !decide (idx (λ (i : Nat) => !leM (gD (rng a.l.length λ (i : Nat) => gD a.l i) i)) (rng a.l.length λ (i : Nat) => gD a.l i).length 0 >= 0)) := by kernel_rfl
theorem fn4Sn (a : MSn) (h : allP (PSn a)) : FnT Try.prog n_eS (C4Sn.xs a) (heapOf (C4Sn.L a)) (C4Sn.val a) (C4Sn.keep a) := fnt (A := A4Sn) (ren := []) (fz := []) fn_eS (by kernel_rfl) (gok_cons ok3Sn gok_nil) (by
 have h' : a.l.length < 4611686018427387904 /\ True := h
 show V4Sn a; rw [vc4Sn]; simp only [condP, eq_self, implies_true, and_self, true_and, and_true, true_implies, forall_const, decide_eq_true_eq, decide_eq_false_iff_not, Int.toNat_natCast, dSpan_eSpan, dInt_eInt, dMk_e, dNt_e, dPr_e, Nat.zero_add, Int.zero_sub, Nat.le_eq, Nat.succ_eq_add_one, Nat.add_one_le_iff, Bool.not_eq_true', Bool.not_eq_false', rng_length, dSpan_mk, rng_getD, ge_iff_le]
 rw [<- every_all]
 exact ⟨h'.1, rfl⟩)
structure N2 where
 q : Nt
 e : Nt
def ntB (q : Nt) : AObj := .box [.int q.mi, .int q.t.lo, .int q.t.hi, .int q.s.lo, .int q.s.hi]
def decNtB (H : Heap) (id : Nat) : Option Nt := match H id with
 | .live (.box [.d a, .d b, .d c, .d d, .d e]) => some ⟨dInt a, ⟨dInt b, dInt c⟩, ⟨dInt d, dInt e⟩⟩
 | _ => none
def C_ck2 : Ctr := { ro := [100], α := N2, xs := λ a => [.d (eNt a.e), .bptr 100 0], L := λ a => [(100, ntB a.q)], val := λ a => .bool (a.e.mi == a.q.mi), keep := λ a => [(100, .live (ntB a.q))] }
def d_ck2 : List AVal -> Heap -> Option (N2 × List (Nat × Nat) × List Nat)
 | [.d d, .bptr id _], H => match decNtB H id with
  | some q => some (⟨q, dNt d⟩, [(100, id)], [])
  | none => none
 | _, _ => none
def A_ck2 : Ann := { ann 9 [] with E := [100] }
def V_ck2 (a : N2) : Prop := fnVC Try.prog A_ck2 F_Check2 (bodyOf F_Check2) (C_ck2.xs a) (heapOf (C_ck2.L a)) (C_ck2.val a) (C_ck2.keep a) [] []
theorem vc_ck2 (a : N2) : (V_ck2 a) = ((a.e.mi == a.q.mi) = (a.e.mi == a.q.mi) /\ a.q.mi = a.q.mi /\ a.q.t.lo = a.q.t.lo /\ a.q.t.hi = a.q.t.hi /\ a.q.s.lo = a.q.s.lo /\ a.q.s.hi = a.q.s.hi) := by kernel_rfl
theorem ok_ck2 : SpecOk Try.prog n_Check2 (C_ck2.spec d_ck2) := okC C_ck2 (λ _ => A_ck2) [] [] fn_Check2 (λ _ => by kernel_rfl) (λ _ => gok_nil) (λ (a : N2) _ => by
 show V_ck2 a; rw [vc_ck2]; try simp) (λ _ => noI rfl rfl) _
structure MNc where
 q : Nt
 l : List Nt
def d2Nc : List AVal -> Heap -> Option (MNc × List (Nat × Nat) × List Nat)
 | [y, .fn _ _ [.bptr id _]], H => match dRow y H with
  | some (n, g, f) => match decNtB H id with
   | some q => some (⟨q, rng n λ i => dNt (g i)⟩, [(100, id)], f)
   | none => none
  | none => none
 | _, _ => none
def A2Nc (a : MNc) : Ann := { ann 19 [(n_Check2, C_ck2.spec d_ck2)] with E := [100], loops := λ id => if id = 2 then some [{ α := Nat, dflt := 0, T := λ k => ⟨[(0, .d (eNts a.l)), (1, .fn (.func n_Check2) [] [.bptr 100 0]), (7, .int a.l.length), (8, .int k)], [(100, .live (ntB a.q))]⟩, inv := λ k => k <= a.l.length /\ idx (λ i => (gD a.l i).mi == a.q.mi) a.l.length 0 = idx (λ i => (gD a.l i).mi == a.q.mi) (a.l.length - k) k, meas := λ k => a.l.length - k }] else none }
def C2Nc : Ctr := { ro := [100], α := MNc, xs := λ a => [.d (eNts a.l), .fn (.func n_Check2) [] [.bptr 100 0]], L := λ a => [(100, ntB a.q)], val := λ a => .int (idx (λ i => (gD a.l i).mi == a.q.mi) a.l.length 0), keep := λ a => [(100, .live (ntB a.q))], pre := λ a => [a.l.length < 4611686018427387904 /\ True] }
def V2Nc (a : MNc) : Prop := fnVC Try.prog (A2Nc a) F_ifN (bodyOf F_ifN) (C2Nc.xs a) (heapOf (C2Nc.L a)) (C2Nc.val a) (C2Nc.keep a) [] []
theorem vc2Nc (a : MNc) : (V2Nc a) = ((∃ (a_1 : Nat), (a.l.length = a.l.length /\ (∀ (i : Nat), i < a.l.length -> (gD a.l i).mi = (gD a.l i).mi /\ (gD a.l i).t.lo = (gD a.l i).t.lo /\ (gD a.l i).t.hi = (gD a.l i).t.hi /\ (gD
 a.l i).s.lo = (gD a.l i).s.lo /\ (gD a.l i).s.hi = (gD a.l i).s.hi) /\ (↑a.l.length : Int) = (↑a.l.length : Int) /\ (↑a_1 : Int) = 0 /\ a.q.mi = a.q.mi /\ a.q.t.lo = a.q.t.lo /\ a.q.t.hi = a.q.t.hi /\ a.q.s.lo = a.q.s.lo /\
 a.q.s.hi = a.q.s.hi) /\ a_1 <= a.l.length /\ idx (λ (i : Nat) => (gD a.l i).mi == a.q.mi) a.l.length 0 = idx (λ (i : Nat) => (gD a.l i).mi == a.q.mi) (a.l.length - a_1) a_1) /\ ∀ (a_1 : Nat), a_1 <= a.l.length /\ idx (fun
 (i : Nat) => (gD a.l i).mi == a.q.mi) a.l.length 0 = idx (λ (i : Nat) => (gD a.l i).mi == a.q.mi) (a.l.length - a_1) a_1 -> bif decide ((↑a_1 : Int) < (↑a.l.length : Int)) then ((0 <= (↑a_1 : Int) /\ (↑a_1 : Int) <
 (↑a.l.length : Int)) /\ (gD a.l a_1).mi = (gD a.l a_1).mi /\ (gD a.l a_1).t.lo = (gD a.l a_1).t.lo /\ (gD a.l a_1).t.hi = (gD a.l a_1).t.hi /\ (gD a.l a_1).s.lo = (gD a.l a_1).s.lo /\ (gD a.l a_1).s.hi = (gD a.l a_1).s.hi /\
 a.q.mi = a.q.mi /\ a.q.t.lo = a.q.t.lo /\ a.q.t.hi = a.q.t.hi /\ a.q.s.lo = a.q.s.lo /\ a.q.s.hi = a.q.s.hi /\ a.q.mi = a.q.mi /\ a.q.t.lo = a.q.t.lo /\ a.q.t.hi = a.q.t.hi /\ a.q.s.lo = a.q.s.lo /\ a.q.s.hi = a.q.s.hi) /\ bif (gD
 a.l a_1).mi == a.q.mi then idx (λ (i : Nat) => (gD a.l i).mi == a.q.mi) a.l.length 0 = (↑a_1 : Int) /\ a.q.mi = a.q.mi /\ a.q.t.lo = a.q.t.lo /\ a.q.t.hi = a.q.t.hi /\ a.q.s.lo = a.q.s.lo /\ a.q.s.hi = a.q.s.hi else ∃ (a_3
 : Nat), (a.l.length = a.l.length /\ (∀ (i : Nat), i < a.l.length -> (gD a.l i).mi = (gD a.l i).mi /\ (gD a.l i).t.lo = (gD a.l i).t.lo /\ (gD a.l i).t.hi = (gD a.l i).t.hi /\ (gD a.l i).s.lo = (gD a.l i).s.lo /\ (gD a.l
 i).s.hi = (gD a.l i).s.hi) /\ (↑a.l.length : Int) = (↑a.l.length : Int) /\ (↑a_3 : Int) = IntKind.i64.wrap ((↑a_1 : Int) + 1) /\ a.q.mi = a.q.mi /\ a.q.t.lo = a.q.t.lo /\ a.q.t.hi = a.q.t.hi /\ a.q.s.lo = a.q.s.lo /\ a.q.s.hi =
 a.q.s.hi) /\ (a_3 <= a.l.length /\ idx (λ (i : Nat) => (gD a.l i).mi == a.q.mi) a.l.length 0 = idx (λ (i : Nat) => (gD a.l i).mi == a.q.mi) (a.l.length - a_3) a_3) /\ a.l.length - a_3 < a.l.length - a_1 else idx (λ (i
 : Nat) => (gD a.l i).mi == a.q.mi) a.l.length 0 = -1 /\ a.q.mi = a.q.mi /\ a.q.t.lo = a.q.t.lo /\ a.q.t.hi = a.q.t.hi /\ a.q.s.lo = a.q.s.lo /\ a.q.s.hi = a.q.s.hi) := by kernel_rfl
theorem p2Nc (a : MNc) (h : allP (C2Nc.pre a)) : V2Nc a := by
 obtain ⟨h, hp⟩ : a.l.length < 4611686018427387904 /\ True := h
 rw [vc2Nc]
 simp only [condP, eq_self, implies_true, and_self, true_and, and_true, true_implies, forall_const, decide_eq_true_eq, decide_eq_false_iff_not, Int.toNat_natCast, dSpan_eSpan, dInt_eInt, dMk_e, dNt_e, dPr_e, Nat.zero_add, Int.zero_sub, Nat.le_eq, Nat.succ_eq_add_one, Nat.add_one_le_iff, Bool.not_eq_true', Bool.not_eq_false', rng_length, dSpan_mk, rng_getD]
 refine ⟨⟨0, rfl, Nat.zero_le _, rfl⟩, λ k ⟨h1, h2⟩ => ⟨λ hlt => ?_, λ hge => ?_⟩⟩
 ·have hlt : k < a.l.length := by omega
  refine ⟨⟨by omega, by omega⟩, λ hp => ?_, λ hp => ⟨k + 1, (wsucc (by omega)).symm, ⟨by omega, ?_⟩, by omega⟩⟩
  ·rw [h2]; exact idx_stop hlt (by simpa using hp)
  ·rw [h2]; exact idx_go hlt (by simpa using hp)
 ·rw [h2]; exact idx_end (by omega)
theorem ok2Nc : SpecOk Try.prog n_ifN (C2Nc.spec d2Nc) := okC C2Nc A2Nc [] [] fn_ifN (λ _ => by kernel_rfl) (λ _ => gok_cons ok_ck2 gok_nil) p2Nc (λ _ => noI rfl rfl) _
def C3Nc : Ctr := { C2Nc with val := λ (a : MNc) => .bool (a.l.any λ x => x.mi == a.q.mi) }
def d3Nc : List AVal -> Heap -> Option (C3Nc.α × List (Nat × Nat) × List Nat) := d2Nc
def A3Nc : Ann := { ann 9 [(n_ifN, C2Nc.spec d2Nc)] with E := [100] }
def V3Nc (a : MNc) : Prop := fnVC Try.prog A3Nc F_cfN (bodyOf F_cfN) (C3Nc.xs a) (heapOf (C3Nc.L a)) (C3Nc.val a) (C3Nc.keep a) [] []
theorem vc3Nc (a : MNc) : (V3Nc a) = (((rng a.l.length λ (i : Nat) => gD a.l i).length = a.l.length /\ (∀ (i : Nat), i < (rng a.l.length λ (i : Nat) => gD a.l i).length -> (gD (rng a.l.length λ (i : Nat) => gD a.l i)
 i).mi = (gD a.l i).mi /\ (gD (rng a.l.length λ (i : Nat) => gD a.l i) i).t.lo = (gD a.l i).t.lo /\ (gD (rng a.l.length λ (i : Nat) => gD a.l i) i).t.hi = (gD a.l i).t.hi /\ (gD (rng a.l.length λ (i : Nat) => gD a.l i)
 i).s.lo = (gD a.l i).s.lo /\ (gD (rng a.l.length λ (i : Nat) => gD a.l i) i).s.hi = (gD a.l i).s.hi) /\ a.q.mi = a.q.mi /\ a.q.t.lo = a.q.t.lo /\ a.q.t.hi = a.q.t.hi /\ a.q.s.lo = a.q.s.lo /\ a.q.s.hi = a.q.s.hi /\ a.q.mi =
 a.q.mi /\ a.q.t.lo = a.q.t.lo /\ a.q.t.hi = a.q.t.hi /\ a.q.s.lo = a.q.s.lo /\ a.q.s.hi = a.q.s.hi /\ (rng a.l.length λ (i : Nat) => gD a.l i).length < 4611686018427387904 /\ True) /\ (a.l.any λ (x : Nt) => x.mi == a.q.mi)
 = decide (idx (λ (i : Nat) => (gD (rng a.l.length λ (i : Nat) => gD a.l i) i).mi == a.q.mi) (rng a.l.length λ (i : Nat) => gD a.l i).length 0 >= 0) /\ a.q.mi = a.q.mi /\ a.q.t.lo = a.q.t.lo /\ a.q.t.hi = a.q.t.hi /\
 a.q.s.lo = a.q.s.lo /\ a.q.s.hi = a.q.s.hi) := by kernel_rfl
theorem some_any {α : Type} [Inhabited α] {p : α -> Bool} {l : List α} : decide (0 <= idx (λ i => p (gD l i)) l.length 0) = l.any p := by
 rw [Bool.eq_iff_iff, decide_eq_true_eq, idx_ge, List.any_eq_true]
 exact ⟨λ ⟨i, _, h1, h2⟩ => ⟨gD l i, gD_mem (by omega), h2⟩, λ ⟨x, hx, h2⟩ => by obtain ⟨i, hi, rfl⟩ := mem_gD hx; exact ⟨i, Nat.zero_le _, by omega, h2⟩⟩
theorem ok3Nc : SpecOk Try.prog n_cfN (C3Nc.spec d3Nc) := Ctr.spec_ok (C := C3Nc) (λ (a : MNc) h => fnt (A := A3Nc) (ren := []) (fz := []) fn_cfN (by kernel_rfl) (gok_cons ok2Nc gok_nil) (by
 obtain ⟨h, hp⟩ : a.l.length < 4611686018427387904 /\ True := h
 show V3Nc a; rw [vc3Nc]; simp only [condP, eq_self, implies_true, and_self, true_and, and_true, true_implies, forall_const, decide_eq_true_eq, decide_eq_false_iff_not, Int.toNat_natCast, dSpan_eSpan, dInt_eInt, dMk_e, dNt_e, dPr_e, Nat.zero_add, Int.zero_sub, Nat.le_eq, Nat.succ_eq_add_one, Nat.add_one_le_iff, Bool.not_eq_true', Bool.not_eq_false', rng_length, dSpan_mk, rng_getD, ge_iff_le]
 rw [<- some_any]
 simp [h, rng_getD])) _
end Go.Bal
