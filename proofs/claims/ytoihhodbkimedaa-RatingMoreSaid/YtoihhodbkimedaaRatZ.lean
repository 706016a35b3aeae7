/- Package rating: Passes, Through, At. -/
import Derived.Test.YtoihhodbkimedaaRatX
set_option linter.unusedVariables false
set_option linter.unusedSimpArgs false
namespace Go.Bal
open Go Go.Sym Go.Proofs
structure GR where
 g : List Gau
 r : Rtg
def notP (a : GR) (i : Nat) : Bool := !passM (gD a.r.l (leC a.r.b (gD a.g i).st)) (gD a.g i)
def pasK (a : GR) (n : Nat) : List Int := ((List.range n).filter (notP a)).map Int.ofNat
def pasE (a : GR) : Int := bif checkG a.g == 0 then checkRM a.r else checkG a.g
def pasM (a : GR) : List Int := bif pasE a == 0 then pasK a a.g.length else []
def rtgC (r : Rtg) : HCell := .live (.box [.d (eIntsL r.b), .d (eLns r.l)])
structure RtI where
 r : Rtg
 t : Int
def okRt (r : Rtg) : Prop := asc r.b /\ r.l.length = r.b.length + 1 /\ (∀ x ∈ r.l, okL x) /\ r.b.length <= 24
def dRtI : List AVal -> Heap -> Option (RtI × List (Nat × Nat) × List Nat)
 | [x, .d t], H => match dRtg x H with
  | some (r, f) => some (⟨r, dInt t⟩, [], f)
  | none => none
 | _, _ => none
def atF (a : RtI) : Rt := flowM (gD a.r.l (leC a.r.b a.t)) a.t
def C_flowR : Ctr := { α := RtI, xs := λ a => [.d (eRtg a.r), .int a.t], L := λ _ => [], val := λ a => .d (eRt (atF a)), keep := λ _ => [], pre := λ a => [okRt a.r /\ 0 <= a.t /\ a.t <= 2000] }
def A_flowR : Ann := ann 15 [(n_part, C_part.spec dIX), (n_flowL, s_flowL)]
def V_flowR (a : RtI) : Prop := fnVC Try.prog A_flowR F_flowR (bodyOf F_flowR) (C_flowR.xs a) (heapOf []) (C_flowR.val a) [] [] []
theorem vc_flowR (a : RtI) : (V_flowR a) = (((rng a.r.b.length λ (i : Nat) => gD a.r.b i).length = a.r.b.length /\ (∀ (i : Nat), i < (rng a.r.b.length λ (i : Nat) => gD a.r.b i).length -> gD (rng a.r.b.length λ (i :
 Nat) => gD a.r.b i) i = gD a.r.b i) /\ a.t = a.t /\ ((rng a.r.b.length λ (i : Nat) => gD a.r.b i).length < 4611686018427387904 /\ List.Pairwise (λ (x1 x2 : Int) => x1 < x2) (rng a.r.b.length λ (i : Nat) => gD a.r.b
 i)) /\ (0 <= (↑(leC (rng a.r.b.length λ (i : Nat) => gD a.r.b i) a.t) : Int) /\ (↑(leC (rng a.r.b.length λ (i : Nat) => gD a.r.b i) a.t) : Int) < (↑a.r.l.length : Int)) /\ (0 <= (gD a.r.l (leC (rng a.r.b.length λ (i :
 Nat) => gD a.r.b i) a.t)).a0 /\ (gD a.r.l (leC (rng a.r.b.length λ (i : Nat) => gD a.r.b i) a.t)).a0 < (gD a.r.l (leC (rng a.r.b.length λ (i : Nat) => gD a.r.b i) a.t)).b0 /\ (gD a.r.l (leC (rng a.r.b.length λ (i :
 Nat) => gD a.r.b i) a.t)).b0 <= 2000 /\ 0 <= (gD a.r.l (leC (rng a.r.b.length λ (i : Nat) => gD a.r.b i) a.t)).a1 /\ (gD a.r.l (leC (rng a.r.b.length λ (i : Nat) => gD a.r.b i) a.t)).a1 <= (gD a.r.l (leC (rng a.r.b.length
 λ (i : Nat) => gD a.r.b i) a.t)).b1 /\ (gD a.r.l (leC (rng a.r.b.length λ (i : Nat) => gD a.r.b i) a.t)).b1 <= 200000) /\ 0 <= a.t /\ a.t <= 2000) /\ (atF a).n = (flowM (gD a.r.l (leC (rng a.r.b.length λ (i : Nat) => gD
 a.r.b i) a.t)) a.t).n /\ (atF a).d = (flowM (gD a.r.l (leC (rng a.r.b.length λ (i : Nat) => gD a.r.b i) a.t)) a.t).d) := by kernel_rfl
def dAR : List AVal -> Heap -> Option (RtI × List (Nat × Nat) × List Nat)
 | [.d (.iface 27 (.agg [.list _ n f _, .list _ m g _])), .d t], _ => some (⟨⟨rng n λ i => dInt (f i), rng m λ i => dLn (g i)⟩, dInt t⟩, [], [])
 | _, _ => none
def C_askR : Ctr := { C_flowR with xs := λ (a : RtI) => [.d (.iface 27 (eRtg a.r)), .int a.t] }
def V_askR (a : RtI) : Prop := fnVC Try.prog (ann 8 [(n_flowR, C_flowR.spec dRtI)]) F_asked (bodyOf F_asked) (C_askR.xs a) (heapOf []) (C_askR.val a) [] [] []
theorem vc_askR (a : RtI) : (V_askR a) = (((rng a.r.b.length λ (i : Nat) => gD a.r.b i).length = a.r.b.length /\ (∀ (i : Nat), i < (rng a.r.b.length λ (i : Nat) => gD a.r.b i).length -> gD (rng a.r.b.length λ (i :
 Nat) => gD a.r.b i) i = gD a.r.b i) /\ (rng a.r.l.length λ (i : Nat) => gD a.r.l i).length = a.r.l.length /\ (∀ (i : Nat), i < (rng a.r.l.length λ (i : Nat) => gD a.r.l i).length -> (gD (rng a.r.l.length λ (i : Nat)
 => gD a.r.l i) i).a0 = (gD a.r.l i).a0 /\ (gD (rng a.r.l.length λ (i : Nat) => gD a.r.l i) i).a1 = (gD a.r.l i).a1 /\ (gD (rng a.r.l.length λ (i : Nat) => gD a.r.l i) i).b0 = (gD a.r.l i).b0 /\ (gD (rng a.r.l.length fun
 (i : Nat) => gD a.r.l i) i).b1 = (gD a.r.l i).b1) /\ a.t = a.t /\ (List.Pairwise (λ (x1 x2 : Int) => x1 < x2) (rng a.r.b.length λ (i : Nat) => gD a.r.b i) /\ (rng a.r.l.length λ (i : Nat) => gD a.r.l i).length = (rng
 a.r.b.length λ (i : Nat) => gD a.r.b i).length + 1 /\ (∀ (x : Ln), List.Mem x (rng a.r.l.length λ (i : Nat) => gD a.r.l i) -> 0 <= x.a0 /\ x.a0 < x.b0 /\ x.b0 <= 2000 /\ 0 <= x.a1 /\ x.a1 <= x.b1 /\ x.b1 <= 200000) /\ (rng
 a.r.b.length λ (i : Nat) => gD a.r.b i).length <= 24) /\ 0 <= a.t /\ a.t <= 2000) /\ (atF a).n = (atF (RtI.mk (Rtg.mk (rng a.r.b.length λ (i : Nat) => gD a.r.b i) (rng a.r.l.length λ (i : Nat) => gD a.r.l i)) a.t)).n /\
 (atF a).d = (atF (RtI.mk (Rtg.mk (rng a.r.b.length λ (i : Nat) => gD a.r.b i) (rng a.r.l.length λ (i : Nat) => gD a.r.l i)) a.t)).d) := by kernel_rfl
def atE (a : RtI) : Int := bif checkRM a.r == 0 then (bif inM a.t 0 2000 then 0 else 4) else checkRM a.r
def atM (a : RtI) : Rt := bif atE a == 0 then atF a else ⟨0, 0⟩
def C_At : Ctr := { α := RtI, xs := λ a => [.d (eRtg a.r), .int a.t], L := λ _ => [], val := λ a => .tup [.d (eRt (atM a)), .int (atE a)], keep := λ _ => [], pre := λ a => [a.r.b.length < 1073741824 /\ a.r.l.length < 1073741824] }
def A_At : Ann := ann 21 [(n_CheckR, C_CheckR.spec dRt1), (n_in, s_in), (n_asked, C_askR.spec dAR)]
def V_At (a : RtI) : Prop := fnVC Try.prog A_At F_At (bodyOf F_At) (C_At.xs a) (heapOf []) (C_At.val a) [] [] []
theorem vc_At (a : RtI) : (V_At a) = (((rng a.r.b.length λ (i : Nat) => gD a.r.b i).length = a.r.b.length /\ (∀ (i : Nat), i < (rng a.r.b.length λ (i : Nat) => gD a.r.b i).length -> gD (rng a.r.b.length λ (i : Nat)
 => gD a.r.b i) i = gD a.r.b i) /\ (rng a.r.l.length λ (i : Nat) => gD a.r.l i).length = a.r.l.length /\ (∀ (i : Nat), i < (rng a.r.l.length λ (i : Nat) => gD a.r.l i).length -> (gD (rng a.r.l.length λ (i : Nat) => gD
 a.r.l i) i).a0 = (gD a.r.l i).a0 /\ (gD (rng a.r.l.length λ (i : Nat) => gD a.r.l i) i).a1 = (gD a.r.l i).a1 /\ (gD (rng a.r.l.length λ (i : Nat) => gD a.r.l i) i).b0 = (gD a.r.l i).b0 /\ (gD (rng a.r.l.length λ (i :
 Nat) => gD a.r.l i) i).b1 = (gD a.r.l i).b1) /\ (rng a.r.b.length λ (i : Nat) => gD a.r.b i).length < 4611686018427387904 /\ (rng a.r.l.length λ (i : Nat) => gD a.r.l i).length < 4611686018427387904) /\ bif checkRM
 (Rtg.mk (rng a.r.b.length λ (i : Nat) => gD a.r.b i) (rng a.r.l.length λ (i : Nat) => gD a.r.l i)) != 0 then (atM a).n = 0 /\ (atM a).d = 0 /\ atE a = checkRM (Rtg.mk (rng a.r.b.length λ (i : Nat) => gD a.r.b i) (rng
 a.r.l.length λ (i : Nat) => gD a.r.l i)) else bif !inM a.t 0 2000 then (atM a).n = 0 /\ (atM a).d = 0 /\ atE a = 4 else ((rng a.r.b.length λ (i : Nat) => gD a.r.b i).length = a.r.b.length /\ (∀ (i : Nat), i < (rng
 a.r.b.length λ (i : Nat) => gD a.r.b i).length -> gD (rng a.r.b.length λ (i : Nat) => gD a.r.b i) i = gD a.r.b i) /\ (rng a.r.l.length λ (i : Nat) => gD a.r.l i).length = a.r.l.length /\ (∀ (i : Nat), i < (rng
 a.r.l.length λ (i : Nat) => gD a.r.l i).length -> (gD (rng a.r.l.length λ (i : Nat) => gD a.r.l i) i).a0 = (gD a.r.l i).a0 /\ (gD (rng a.r.l.length λ (i : Nat) => gD a.r.l i) i).a1 = (gD a.r.l i).a1 /\ (gD (rng
 a.r.l.length λ (i : Nat) => gD a.r.l i) i).b0 = (gD a.r.l i).b0 /\ (gD (rng a.r.l.length λ (i : Nat) => gD a.r.l i) i).b1 = (gD a.r.l i).b1) /\ a.t = a.t /\ (List.Pairwise (λ (x1 x2 : Int) => x1 < x2) (rng
 a.r.b.length λ (i : Nat) => gD a.r.b i) /\ (rng a.r.l.length λ (i : Nat) => gD a.r.l i).length = (rng a.r.b.length λ (i : Nat) => gD a.r.b i).length + 1 /\ (∀ (x : Ln), List.Mem x (rng a.r.l.length λ (i : Nat) =>
 gD a.r.l i) -> 0 <= x.a0 /\ x.a0 < x.b0 /\ x.b0 <= 2000 /\ 0 <= x.a1 /\ x.a1 <= x.b1 /\ x.b1 <= 200000) /\ (rng a.r.b.length λ (i : Nat) => gD a.r.b i).length <= 24) /\ 0 <= a.t /\ a.t <= 2000) /\ (atM a).n = (atF (RtI.mk (Rtg.mk (rng
 a.r.b.length λ (i : Nat) => gD a.r.b i) (rng a.r.l.length λ (i : Nat) => gD a.r.l i)) a.t)).n /\ (atM a).d = (atF (RtI.mk (Rtg.mk (rng a.r.b.length λ (i : Nat) => gD a.r.b i) (rng a.r.l.length λ (i : Nat) => gD
 a.r.l i)) a.t)).d /\ atE a = 0) := by kernel_rfl
theorem checkR_ok {r : Rtg} (h : checkRM r = 0) : okRt r /\ ∀ x ∈ r.b, 1 <= x /\ x <= 2000 := by
 unfold checkRM at h
 cases hb : checkBM r.b != 0 with
 | true => rw [hb] at h; have h : checkBM r.b = 0 := h; rw [h] at hb; cases hb
 | false =>
  rw [hb] at h
  have hb0 : checkBM r.b = 0 := by simpa using hb
  cases hl : (r.l.length : Int) != (r.b.length : Int) + 1 with
  | true => rw [hl] at h; cases h
  | false =>
   rw [hl] at h
   cases hr : r.l.all riL with
   | false => rw [hr] at h; cases h
   | true =>
    have hl0 : (r.l.length : Int) = (r.b.length : Int) + 1 := by simpa using hl
    unfold checkBM at hb0
    split at hb0
    ·cases hb0
    ·obtain ⟨h5, h6⟩ := brk_ok _ 0 (by omega) hb0
     exact ⟨⟨h5, by omega, λ x hx => riL_ok.1 (List.all_eq_true.1 hr x hx), by omega⟩, λ x hx => by have := h6 x hx; omega⟩
theorem ok_flowR : SpecOk Try.prog n_flowR (C_flowR.spec dRtI) := okC C_flowR (λ _ => A_flowR) [] [] fn_flowR (λ _ => by kernel_rfl) (λ _ => gok_cons ok_part (gok_cons ok_flowL gok_nil)) (λ (a : RtI) h => by
 show V_flowR a; rw [vc_flowR]; simp only [condP, eq_self, implies_true, and_self, true_and, and_true, true_implies, forall_const, decide_eq_true_eq, decide_eq_false_iff_not, Int.toNat_natCast, dSpan_eSpan, dInt_eInt, dGau_e, dPt_e, dLn_e, dRt_e, Nat.zero_add, Int.zero_sub, Nat.le_eq, Nat.succ_eq_add_one, Nat.add_one_le_iff, Bool.not_eq_true', Bool.not_eq_false', rng_length, dSpan_mk, rng_getD]
 obtain ⟨⟨h1, h2, h3, h4⟩, h5⟩ : okRt a.r /\ 0 <= a.t /\ a.t <= 2000 := h
 have hle : leC a.r.b a.t <= a.r.b.length := List.countP_le_length
 exact ⟨⟨⟨by omega, h1⟩, ⟨by omega, by omega⟩, h3 _ (gD_mem (by omega)), h5⟩, rfl, rfl⟩) (λ _ => noI rfl rfl) _
theorem ok_askR : SpecOk Try.prog n_asked (C_askR.spec dAR) := okC C_askR (λ _ => ann 8 [(n_flowR, C_flowR.spec dRtI)]) [] [] fn_asked (λ _ => by kernel_rfl) (λ _ => gok_cons ok_flowR gok_nil) (λ (a : RtI) h => by
 show V_askR a; rw [vc_askR]; simp only [condP, eq_self, implies_true, and_self, true_and, and_true, true_implies, forall_const, decide_eq_true_eq, decide_eq_false_iff_not, Int.toNat_natCast, dSpan_eSpan, dInt_eInt, dGau_e, dPt_e, dLn_e, dRt_e, Nat.zero_add, Int.zero_sub, Nat.le_eq, Nat.succ_eq_add_one, Nat.add_one_le_iff, Bool.not_eq_true', Bool.not_eq_false', rng_length, dSpan_mk, rng_getD]
 exact h) (λ _ => noI rfl rfl) _
theorem ok_At : SpecOk Try.prog n_At (C_At.spec dRtI) := okC C_At (λ _ => A_At) [] [] fn_At (λ _ => by kernel_rfl) (λ _ => gok_cons ok_CheckR (gok_cons ok_in (gok_cons ok_askR gok_nil))) (λ (a : RtI) h => by
 show V_At a; rw [vc_At]; simp only [condP, eq_self, implies_true, and_self, true_and, and_true, true_implies, forall_const, decide_eq_true_eq, decide_eq_false_iff_not, Int.toNat_natCast, dSpan_eSpan, dInt_eInt, dGau_e, dPt_e, dLn_e, dRt_e, Nat.zero_add, Int.zero_sub, Nat.le_eq, Nat.succ_eq_add_one, Nat.add_one_le_iff, Bool.not_eq_true', Bool.not_eq_false', rng_length, dSpan_mk, rng_getD]
 obtain ⟨h1, h2⟩ : a.r.b.length < 1073741824 /\ a.r.l.length < 1073741824 := h
 refine ⟨⟨by omega, by omega⟩, λ hc => ?_, λ hc => ?_⟩
 ·have e0 : (checkRM a.r == 0) = false := by simpa using hc
  have e : atE a = checkRM a.r := by unfold atE; rw [e0]; rfl
  have e2 : atM a = ⟨0, 0⟩ := by unfold atM; rw [e, e0]; rfl
  rw [e2]; exact ⟨rfl, rfl, e⟩
 ·have e1 : checkRM a.r = 0 := by simpa using hc
  have e0 : (checkRM a.r == 0) = true := by simpa using hc
  refine ⟨λ hi => ?_, λ hi => ?_⟩
  ·have e : atE a = 4 := by unfold atE; rw [e0, hi]; rfl
   have e2 : atM a = ⟨0, 0⟩ := by unfold atM; rw [e]; rfl
   rw [e2]; exact ⟨rfl, rfl, e⟩
  ·have e : atE a = 0 := by unfold atE; rw [e0, hi]; rfl
   have e2 : atM a = atF a := by unfold atM; rw [e]; rfl
   have ht : 0 <= a.t /\ a.t <= 2000 := by unfold inM at hi; simpa using hi
   rw [e2]; exact ⟨⟨(checkR_ok e1).1, ht⟩, rfl, rfl, e⟩) (λ _ => noI rfl rfl) _
end Go.Bal
