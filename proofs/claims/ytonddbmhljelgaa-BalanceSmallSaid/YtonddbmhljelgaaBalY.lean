/- The reference of package balance: Check, asked; the program's asked. -/
import Derived.Test.YtonddbmhljelgaaBalU
set_option linter.unusedVariables false
set_option linter.unusedSimpArgs false
namespace Go.Bal
open Go Go.Sym Go.Proofs
def V60 (a b d : Int) : Prop := BN Try.prog (ann 15 []) Try.f60 (AF Try.f60) [.int a, .int b, .int d] (AD []) (.bool (!inM a b d)) [] [] []
abbrev Jm a b c:=WS a (Ys b c)
attribute [go_sem] Jm
theorem vc60 (a : Int) (b : Int) (d : Int) : (V60 a b d) = (Gq (Ew a b d) (Jm (Tt a b) a d)) := by kernel_rfl
def f60 : List AVal -> Option (AVal × List Prop)
 | [.d (.v (.int .i64 a)), .d (.v (.int .i64 b)), .d (.v (.int .i64 c))] => some (.bool (!inM a b c), [])
 | _ => none
def s60 := IY f60
theorem p60 (a b d : Int) : V60 a b d := by
 rw [vc60]<;> simp only [go_sem]; unfold inM
 by_cases h1 : a < b <;> by_cases h2 : d < a <;> simp [h1, h2] <;> omega
theorem ok60 : AH Try.prog 60 s60 := EH λ xs v p h _ => by
 unfold f60 at h; split at h
 ·cases h; exact Pb (A := ann 15 []) (ren := []) (fz := []) Try.func60 (by kernel_rfl) AE (p60 _ _ _)
 ·cases h
def V82 (s : Span) : Prop := BN Try.prog (ann 18 []) Try.f82 (AF Try.f82) [.d (OW s)] (AD []) (.bool (!RX s)) [] [] []
theorem vc82 (s : Span) : (V82 s) = (Gq (not (hd6 s)) (Jm (Jm (Tt (Ou s) (-1000000)) (Ok s) 1000000) (Ou s) (Ok s))) := by kernel_rfl
def f82 : List AVal -> Option (AVal × List Prop)
 | [.d (.agg [.v (.int .i64 a), .v (.int .i64 b)])] => some (.bool (!RX ⟨a, b⟩), [])
 | _ => none
def s82 := IY f82
theorem p82 (s : Span) : V82 s := by
 rw [vc82]<;> simp only [go_sem]; unfold RX inM
 by_cases h1 : s.lo < -1000000 <;> by_cases h2 : 1000000 < s.hi <;> by_cases h3 : s.hi < s.lo <;> simp [h1, h2, h3] <;> omega
theorem ok82 : AH Try.prog 82 s82 := EH λ xs v p h _ => by
 unfold f82 at h; split at h
 ·cases h; exact Pb (A := ann 18 []) (ren := []) (fz := []) Try.func82 (by kernel_rfl) AE (p82 ⟨_, _⟩)
 ·cases h
def A45 (N : NetL) : Ann := { ann 73 [(60, s60), (82, s82)] with loops := λ id => if id = 4 then some [{ α := Nat, dflt := 0, T := λ k => ⟨[(1, .bptr 200 0), (3, .int k)], [(200, LF N)]⟩, inv := λ k => (1 <= N.g.length /\ N.g.length <= 8 /\ N.r.length <= 14) /\ k <= N.g.length /\ ∀ i, i < k -> RX (gD N.g i) = true, meas := λ k => N.g.length - k, first := [(200, 1000)] }] else if id = 9 then some [{ α := Nat, dflt := 0, T := λ k => ⟨[(1, .bptr 200 0), (4, .int k)], [(200, LF N)]⟩, inv := λ k => (1 <= N.g.length /\ N.g.length <= 8 /\ N.r.length <= 14) /\ k <= N.r.length /\ AB N = QY (λ i => Pj (Wy N) (gD N.r i)) (N.r.length - k) k, meas := λ k => N.r.length - k }] else none }
def C45 : Ctr := { α := NetL, xs := λ N => [.d (LW N)], L := λ _ => [], val := λ N => .int (AB N), keep := λ _ => [], pre := λ N => [Ot N] }
def V45 (N : NetL) : Prop := BN Try.prog (A45 N) Try.f45 (AF Try.f45) (C45.xs N) (AD []) (C45.val N) [] [] []
abbrev nK a:=EP 1 a
abbrev rH a:=nK (AY a)
abbrev UB a b c:=HJ a b (LY c)
attribute [go_sem] nK rH UB
theorem vc45 (N : NetL) : (V45 N) = (IK (Jm (Jm (Tt (JC N) 1) (JC N) 8) (BT (AM N)) 14) (bP N 3) (PV (λ i=>OE (Fh (AZ i) N) (VR (rH N) (EP (AY N) 8) (AM N) 14) i (AY N) (AG (λ j=>UB j i (hd6 (CU N j))))) (λ i=>GM (Rz (VR (rH N) (EP (AY N) 8) (AM N) 14) i (AY N) (λ j=>UB j i (hd6 (CU N j)))) i (AY N) (GF i (AY N)) (not (hd6 (CU N i))) (bP N 90) (IJ (λ j=>CB (Fh (AU j i) N) (Rz (VR (rH N) (EP (AY N) 8) (AM N) 14) j (AY N) (λ k=>UB k j (hd6 (CU N k)))) (AY N) j i)) (PV (λ j=>OE (Fh (AZ j) N) (VR (rH N) (EP (AY N) 8) (AM N) 14) j (AM N) (bP N (QY (λ k=>Pj (Wy N) (Fa N k)) (Xm N j) j))) (λ j=>GM (YL (VR (rH N) (EP (AY N) 8) (AM N) 14) j (AM N) (YC N) (QY (λ k=>Pj (Wy N) (Fa N k)) (Xm N j) j)) j (AM N) (GF j (AM N)) (WS (SD (Ew (EJ N j) 0 (WY (JC N))) (inM (EC N j) 0 (WY (JC N)))) (Bz (EJ N j) (EC N j))) (bP N 2) (AGH (not (hd6 (CY N j))) (bP N 90) (λ k=>CB (Fh (AU k j) N) (YL (VR (rH N) (EP (AY N) 8) (AM N) 14) k (AM N) (YC N) (QY (λ l=>Pj (Wy N) (Fa N l)) (Xm N k) k)) (AM N) k j)) (LD N)))))) := by kernel_rfl
theorem BMX {p : Prop} [Decidable p] (h : ¬ p) : true = !decide p := by simp [h]
theorem BNF {p : Prop} [Decidable p] (h : p) : false = !decide p := by simp [h]
theorem API {p : Prop} [Decidable p] (h : (!decide p) = true) : ¬ p := λ hp => by rw [decide_eq_true hp] at h; cases h
theorem AMA {p : Prop} [Decidable p] (h : (!decide p) = false) : p := Decidable.byContradiction λ hp => by rw [decide_eq_false hp] at h; cases h
theorem APR {N : NetL} (h : ¬ (1 <= N.g.length /\ N.g.length <= 8 /\ N.r.length <= 14)) : AB N = 3 := by
 unfold AB QB
 rw [if_pos]
 have hg : ((Wy N).nG : Int) = N.g.length := rfl
 have hr : (Wy N).nR = N.r.length := rfl
 rw [hg, hr]
 simp only [Bool.or_eq_true, Bool.not_eq_true', decide_eq_true_eq, inM, Bool.and_eq_false_iff, decide_eq_false_iff_not]
 omega
theorem lD {N : NetL} (h : 1 <= N.g.length /\ N.g.length <= 8 /\ N.r.length <= 14) : AB N = if XT (λ i => RX (gD N.g i)) N.g.length then QY (λ i => Pj (Wy N) (gD N.r i)) N.r.length 0 else 90 := by
 unfold AB QB
 rw [if_neg]
 ·rfl
 have hg : ((Wy N).nG : Int) = N.g.length := rfl
 have hr : (Wy N).nR = N.r.length := rfl
 rw [hg, hr]
 simp only [Bool.or_eq_true, Bool.not_eq_true', decide_eq_true_eq, inM, Bool.and_eq_false_iff, decide_eq_false_iff_not]
 omega
theorem p45 (N : NetL) (hs : Ot N) : V45 N := by
 obtain ⟨hs1, hs2⟩ := hs
 rw [vc45]<;> simp only [go_sem]; simp only [CC, eq_self, implies_true, forall_const, DL.d1, DL.d2, XW]
 have e1 : (bif bif decide ((N.g.length : Int) < 1) then true else decide ((N.g.length : Int) > 8) then true else decide ((N.r.length : Int) > 14)) = !decide (1 <= N.g.length /\ N.g.length <= 8 /\ N.r.length <= 14) := by
  by_cases a : (N.g.length : Int) < 1 <;> by_cases b : (N.g.length : Int) > 8 <;> by_cases c : (N.r.length : Int) > 14 <;> simp only [a, b, c, decide_true, decide_false, cond_true, cond_false] <;> first | exact BMX (by omega) | exact BNF (by omega)
 rw [e1]
 refine ⟨λ hb => APR (API hb), λ hb => ?_⟩
 have hok : 1 <= N.g.length /\ N.g.length <= 8 /\ N.r.length <= 14 := AMA hb
 refine ⟨⟨0, rfl, hok, Nat.zero_le _, λ i hi => by omega⟩, λ k ⟨_, q1, q2⟩ => ⟨λ hlt => ⟨⟨by omega, hlt⟩, λ hf => ?_, λ hf => ⟨k + 1, (AL (by omega)).symm, ⟨hok, by omega, λ i hi => ?_⟩, by omega⟩⟩, λ hge => ⟨⟨0, rfl, hok, Nat.zero_le _, ?_⟩, λ q ⟨_, q3, q4⟩ => ⟨λ hlt => ⟨⟨by omega, hlt⟩, λ hc => ?_, λ hc => ⟨λ hf => ?_, λ hf => ⟨q + 1, (AL (by omega)).symm, ⟨hok, by omega, ?_⟩, by omega⟩⟩⟩, λ hge => ?_⟩⟩⟩⟩
 ·rw [lD hok, if_neg]
  rw [PE]; intro h
  rw [h k (by omega)] at hf; cases hf
 ·by_cases he : i = k
  ·subst he; exact hf
  ·exact q2 i (by omega)
 ·rw [lD hok, if_pos (PE.2 λ i hi => q2 i (by omega))]; rfl
 all_goals have hw : IntKind.i64.wrap ((N.g.length : Int) - 1) = (N.g.length : Int) - 1 := Gp (by omega) (by omega)
 all_goals have hq : (Wy N).nG = N.g.length := rfl
 ·rw [hw] at hc
  have e : Pj (Wy N) (gD N.r q) = 2 := by
   unfold Pj; rw [hq, if_pos]; rw [<- hc]
   cases inM (gD N.r q).fr 0 ((N.g.length : Int) - 1) <;> cases inM (gD N.r q).to 0 ((N.g.length : Int) - 1) <;> simp [Bool.beq_eq_decide_eq]
  rw [q4, Um (by omega) (by rw [e]; decide), e]
 ·rw [hw] at hc
  have e : Pj (Wy N) (gD N.r q) = 90 := by
   unfold Pj; rw [hq, if_neg, hf]
   ·rfl
   ·rw [Bool.not_eq_true, <- hc]
    cases inM (gD N.r q).fr 0 ((N.g.length : Int) - 1) <;> cases inM (gD N.r q).to 0 ((N.g.length : Int) - 1) <;> simp [Bool.beq_eq_decide_eq]
  rw [q4, Um (by omega) (by rw [e]; decide), e]
 ·rw [hw] at hc
  have e : Pj (Wy N) (gD N.r q) = 0 := by
   unfold Pj; rw [hq, if_neg, hf]
   ·rfl
   ·rw [Bool.not_eq_true, <- hc]
    cases inM (gD N.r q).fr 0 ((N.g.length : Int) - 1) <;> cases inM (gD N.r q).to 0 ((N.g.length : Int) - 1) <;> simp [Bool.beq_eq_decide_eq]
  rw [q4]; exact AJU (by omega) e
 ·rw [q4]; exact AFJ (by omega)
theorem ok45 : AH Try.prog 45 (C45.spec fT) := UY C45 A45 [] [] Try.func45 (λ _ => by kernel_rfl) (λ _ => AA ok60 (AA ok82 AE)) (λ N h => p45 N h) (λ _ => WR rfl rfl) _
theorem BMT (a b c d : Nat) : (bif ((a : Int) != (b : Int)) then true else ((c : Int) != (d : Int))) = !decide (a = b /\ c = d) := by
 by_cases h1 : a = b
 ·by_cases h2 : c = d
  ·subst h1; subst h2; simp
  ·have : (c : Int) ≠ d := by omega
   simp [h1, h2, this]
 ·have : (a : Int) ≠ b := by omega
  simp [h1, this]
def II (N : NetL) (T : TruthL) : Int := if AB N = 0 then if T.f.length = N.r.length /\ T.t.length = N.g.length then if XT (λ i => inM (gD T.f i) (-100000000) 100000000) T.f.length && XT (λ i => inM (gD T.t i) (-100000000) 100000000) T.t.length then 0 else 4 else 2 else AB N
def qE (T : TruthL) : Prop := T.f.length <= 1000000 /\ T.t.length <= 1000000
def C78 : Ctr := { α := NT, xs := λ a => [.d (LW a.N), .d (OG a.T)], L := λ _ => [], val := λ a => .int (II a.N a.T), keep := λ _ => [], pre := λ a => [Ot a.N, qE a.T] }
def d78 : List AVal -> Heap -> Option (NT × List (Nat × Nat) × List Nat)
 | [.d x, .d (.agg [.list _ n f _, .list _ m g _])], _ => match Tf x with
  | some N => some (⟨N, NO n λ i => OO (f i), NO m λ i => OO (g i)⟩, [], [])
  | none => none
 | _, _ => none
def A78 := ann 43 [(44, s44), (64, C64c102.spec AZJ)]
def V78 (a : NT) : Prop := BN Try.prog A78 Try.f78 (AF Try.f78) (C78.xs a) (AD []) (C78.val a) [] [] []
abbrev Jd a b:=II (AX a) (PL b)
abbrev ZG a:=GP (Jd a a)
abbrev OM a:=HQ (UL a)
abbrev kH a:=EA (OM a)
abbrev NM a:=HQ (Ab a)
abbrev RP a:=FH (OM a) (UL a)
abbrev UZ a:=KH (NM a) (Ab a)
abbrev SE a:=FH (NM a) (Ab a)
attribute [go_sem] Jd ZG OM kH NM RP UZ SE
theorem vc78 (a : NT) : (V78 a) = (JY (AGD (BV a) (HD a)) (ACF (BV a) (AX a) (HD a) (AX a)) (AS (Jd a a) (ACF (BV a) (AX a) (HD a) (AX a))) (IK (WS (cS (BT (QV a)) (HD a)) (cS (PS (UL a)) (BV a))) (AS (Jd a a) 2) (EG (AP (SE a) (UZ a) (Sm (EA (NM a))) (Rf (not (not (Q7 (λ i=>QF (NM a) i) (EA (NM a))))) (RP a) (λ i=>FW i (OM a) (UL a)) (Sm (kH a)))) (SD (not (Q7 (λ i=>QF (NM a) i) (EA (NM a)))) (Q7 (λ i=>QF (OM a) i) (kH a))) (AS (Jd a a) 4) (ZG a)))) := by kernel_rfl
def truO (T : TruthL) : HCell := .live (.box [.d (BC T.f), .d (BC T.t)])
def A83 (a : NT) : Ann := { ann 55 [(45, C45.spec fT), (60, s60)] with loops := λ id => if id = 7 then some [{ α := Nat, dflt := 0, T := λ k => ⟨[(3, .bptr 201 0), (6, .int k)], [(201, truO a.T)]⟩, inv := λ k => (AB a.N = 0 /\ a.T.f.length = a.N.r.length /\ a.T.t.length = a.N.g.length) /\ k <= a.T.f.length /\ ∀ i, i < k -> inM (gD a.T.f i) (-100000000) 100000000 = true, meas := λ k => a.T.f.length - k, first := [(201, 1016)] }] else if id = 12 then some [{ α := Nat, dflt := 0, T := λ k => ⟨[(3, .bptr 201 0), (7, .int k)], [(201, truO a.T)]⟩, inv := λ k => (AB a.N = 0 /\ a.T.f.length = a.N.r.length /\ a.T.t.length = a.N.g.length) /\ (∀ i, i < a.T.f.length -> inM (gD a.T.f i) (-100000000) 100000000 = true) /\ k <= a.T.t.length /\ ∀ i, i < k -> inM (gD a.T.t i) (-100000000) 100000000 = true, meas := λ k => a.T.t.length - k }] else none }
def V83 (a : NT) : Prop := BN Try.prog (A83 a) Try.f83 (AF Try.f83) (C78.xs a) (AD []) (C78.val a) [] [] []
abbrev kZ a b:=QF (Ab a) b
abbrev Ff a b c:=AJ (LD a) b c
abbrev kU a b:=FI a (BV b)
abbrev UK a:=IF (AX a)
abbrev VM a:=Cd (HA a)
abbrev Vv a:=VM (AX a)
abbrev Ty a:=RV (AX a)
abbrev VT a b c d e f:=ABC a (AX b) (AX b) c (AX b) d (AKC e f)
abbrev VE a:=AGN (AX a) (HD a)
abbrev Xx a:=My (AX a) (BV a)
attribute [go_sem] kZ Ff kU UK VM Vv Ty VT VE Xx
theorem vc83 (a : NT) : (V83 a) = (JY (L3 (Xx a) (AX a) (VE a) (λ i=>VT i a i i a i) (Ty a) (Vv a)) (YC (UK a)) (AS (Jd a a) (YC (UK a))) (IK (WS (cS (BT (QV a)) (HD a)) (cS (PS (UL a)) (BV a))) (AS (Jd a a) 2) (PV (λ i=>OE (Be (AZ i) (eD a) (λ j=>BJ j a) (cC a) (λ j=>BI j a)) (Ff (AX a) (FI (Ab a) (HD a)) (kU (UL a) a)) i (QV a) (AG (λ j=>UB j i (kZ a j)))) (λ i=>GM (Rz (Ff (AX a) (FI (Ab a) (HD a)) (kU (UL a) a)) i (QV a) (λ j=>UB j i (kZ a j))) i (QV a) (GF i (QV a)) (not (kZ a i)) (AS (Jd a a) 4) (IJ (λ j=>CB (Be (AU j i) (eD a) (λ k=>BJ k a) (cC a) (λ k=>BI k a)) (Rz (Ff (AX a) (FI (Ab a) (HD a)) (kU (UL a) a)) j (QV a) (λ k=>UB k j (kZ a k))) (QV a) j i)) (PV (λ j=>Be (Be (AZ j) (eD a) (λ k=>BJ k a) (cC a) (λ k=>BI k a)) (Ff (AX a) (FI (Ab a) (HD a)) (kU (UL a) a)) (λ k=>Fo k (Ab a) (LY (kZ a k))) (EP j (YE a)) (λ k=>UB k j (QF (UL a) k))) (λ j=>GM (DW (Ff (AX a) (FI (Ab a) (HD a)) (kU (UL a) a)) (λ k=>Fo k (Ab a) (LY (kZ a k))) (EP j (YE a)) (AG (λ k=>UB k j (QF (UL a) k)))) j (YE a) (GF j (YE a)) (not (QF (UL a) j)) (AS (Jd a a) 4) (IJ (λ k=>CB (Be (AU k j) (eD a) (λ l=>BJ l a) (cC a) (λ l=>BI l a)) (DW (Ff (AX a) (FI (Ab a) (HD a)) (kU (UL a) a)) (λ l=>Fo l (Ab a) (LY (kZ a l))) (EP k (YE a)) (AG (λ l=>UB l k (QF (UL a) l)))) (YE a) k j)) (ZG a))))))) := by kernel_rfl
theorem p78 (a : NT) (h1 : Ot a.N) (h2 : qE a.T) : V78 a := by
 rw [vc78]<;> simp only [go_sem]; simp only [CC, eq_self, implies_true, forall_const, DL.d1, DL.d2, DL.d7, DL.d8, XW]
 obtain ⟨t1, t2⟩ := h2
 obtain ⟨n1, n2⟩ := h1
 rw [BMT]
 refine ⟨λ hb => ?_, λ hb => ⟨λ hl => ?_, λ hl => ⟨⟨by omega, λ _ => by omega⟩, λ h4 => ?_, λ h5 => ?_⟩⟩⟩
 ·have : AB a.N ≠ 0 := by simpa using hb
  simp only [II, if_neg this]
 all_goals have hc : AB a.N = 0 := by simpa using hb
 ·simp only [II, hc, if_true, if_neg (API hl)]
 all_goals simp only [II, hc, if_true, if_pos (AMA hl)]
 ·cases hf : XT (λ i => inM (gD a.T.f i) (-100000000) 100000000) a.T.f.length <;> cases hg : XT (λ i => inM (gD a.T.t i) (-100000000) 100000000) a.T.t.length <;> rw [hf, hg] at h4 <;> first | rfl | cases h4
 ·cases hf : XT (λ i => inM (gD a.T.f i) (-100000000) 100000000) a.T.f.length <;> cases hg : XT (λ i => inM (gD a.T.t i) (-100000000) 100000000) a.T.t.length <;> rw [hf, hg] at h5 <;> first | rfl | cases h5
theorem ok78 : AH Try.prog 78 (C78.spec d78) := UY C78 (λ _ => A78) [] [] Try.func78 (λ _ => by kernel_rfl) (λ _ => AA R7 (AA BJT AE)) (λ a h => p78 a h.1 h.2) (λ _ => WR rfl rfl) _
theorem p83 (a : NT) (h1 : Ot a.N) (h2 : qE a.T) : V83 a := by
 rw [vc83]<;> simp only [go_sem]; simp only [CC, eq_self, implies_true, forall_const, DL.d1, DL.d2, DL.d7, DL.d8, XW]
 obtain ⟨t1, t2⟩ := h2
 rw [BMT]
 refine ⟨h1, λ hb => ?_, λ hb => ⟨λ hl => ?_, λ hl => ?_⟩⟩
 ·have : AB a.N ≠ 0 := by simpa using hb
  simp [II, this]
 all_goals have hc : AB a.N = 0 := by simpa using hb
 ·have : ¬ (a.T.f.length = a.N.r.length /\ a.T.t.length = a.N.g.length) := API hl
  simp only [II, hc, if_true, if_neg this]
 have hl : a.T.f.length = a.N.r.length /\ a.T.t.length = a.N.g.length := AMA hl
 have no1 : ∀ k, k < a.T.f.length -> inM (gD a.T.f k) (-100000000) 100000000 = false -> II a.N a.T = 4 := λ k hk hf => by
  have : XT (λ i => inM (gD a.T.f i) (-100000000) 100000000) a.T.f.length = false := by
   rw [Bool.eq_false_iff]; intro h; rw [PE.1 h k hk] at hf; cases hf
  simp only [II, hc, if_true, if_pos hl, this, Bool.false_and, Bool.false_eq_true, if_false]
 have no2 : ∀ k, k < a.T.t.length -> inM (gD a.T.t k) (-100000000) 100000000 = false -> II a.N a.T = 4 := λ k hk hf => by
  have : XT (λ i => inM (gD a.T.t i) (-100000000) 100000000) a.T.t.length = false := by
   rw [Bool.eq_false_iff]; intro h; rw [PE.1 h k hk] at hf; cases hf
  simp only [II, hc, if_true, if_pos hl, this, Bool.and_false, Bool.false_eq_true, if_false]
 refine ⟨⟨0, rfl, ⟨hc, hl⟩, Nat.zero_le _, λ i hi => by omega⟩, λ k ⟨_, q1, q2⟩ => ⟨λ hlt => ⟨⟨by omega, hlt⟩, λ hf => no1 k (by omega) hf, λ hf => ⟨k + 1, (AL (by omega)).symm, ⟨⟨hc, hl⟩, by omega, λ i hi => ?_⟩, by omega⟩⟩, λ hge => ⟨⟨0, rfl, ⟨hc, hl⟩, λ i hi => q2 i (by omega), Nat.zero_le _, λ i hi => by omega⟩, λ q ⟨_, q3, q4, q5⟩ => ⟨λ hlt => ⟨⟨by omega, hlt⟩, λ hf => no2 q (by omega) hf, λ hf => ⟨q + 1, (AL (by omega)).symm, ⟨⟨hc, hl⟩, q3, by omega, λ i hi => ?_⟩, by omega⟩⟩, λ hge => ?_⟩⟩⟩⟩
 ·by_cases he : i = k
  ·subst he; exact hf
  ·exact q2 i (by omega)
 ·by_cases he : i = q
  ·subst he; exact hf
  ·exact q5 i (by omega)
 ·have e1 := (PE (p := λ i => inM (gD a.T.f i) (-100000000) 100000000) (n := a.T.f.length)).2 λ i hi => q3 i hi
  have e2 := (PE (p := λ i => inM (gD a.T.t i) (-100000000) 100000000) (n := a.T.t.length)).2 λ i hi => q5 i (by omega)
  simp only [II, hc, if_true, if_pos hl, e1, e2, Bool.and_self]
theorem ok83 : AH Try.prog 83 (C78.spec d78) := UY C78 A83 [] [] Try.func83 (λ _ => by kernel_rfl) (λ _ => AA ok45 (AA ok60 AE)) (λ a h => p83 a h.1 h.2) (λ _ => WR rfl rfl) _
end Go.Bal
