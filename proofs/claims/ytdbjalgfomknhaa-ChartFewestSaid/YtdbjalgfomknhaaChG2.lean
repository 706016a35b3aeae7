/- Package chart: pairs of notes. -/
import Derived.Test.YtdbjalgfomknhaaChG1
set_option linter.unusedVariables false
set_option linter.unusedSimpArgs false
namespace Go.Bal
open Go Go.Sym Go.Proofs
def nA (c : Cht) (p : Pr) : Nt := gD c.ns p.a.toNat
def nB (c : Cht) (p : Pr) : Nt := gD c.ns p.b.toNat
def uT (n : Int) (p : Pr) : Bool := Fw p.a 0 (wr (n - 1)) && Fw p.b 0 (wr (n - 1))
def OS (c : Cht) (p : Pr) : Bool := bif uT c.ns.length p then bif (!(p.a == p.b && p.b == p.a)) then decide ((nA c p).mi < (nB c p).mi) else false else false
def XN (c : Cht) (p : Pr) : Bool := decide (wr ((nB c p).t.lo - (nA c p).t.hi) > wr (c.p.hi * wr ((gD c.ms (nB c p).mi.toNat).pl - (gD c.ms (nA c p).mi.toNat).pl)))
structure DkP where
 w : Dk
 p : Pr
def dDkP : List AVal -> Heap -> Option (DkP × List (Nat × Nat) × List Nat)
 | [.bptr id _, .d p], H => match AGR H id with
  | some (w, q) => some (⟨w, dPr p⟩, [(100, id), (101, q)], [])
  | none => none
 | _, _ => none
def C_pair : Ctr := { ro := [100, 101], α := DkP, xs := λ a => [.bptr 100 0, .d (ePr a.p)], L := λ a => dkL a.w, val := λ a => .bool (OS a.w.c a.p), keep := λ a => dkK a.w, pre := λ a => [a.w.c.ns.length < 1073741824 /\ True] }
def BXP : Ann := { ann 59 [(n_in, s_in)] with E := [100, 101] }
def BWY (a : DkP) : Prop := DN Try.prog BXP BMG (AP BMG) (C_pair.xs a) (AH (C_pair.L a)) (C_pair.val a) (C_pair.keep a) [] []
abbrev Qi:=OS
abbrev Be a:=AQ (DkP.w a)
abbrev kK a b:=aB (Be a) b
abbrev ZP a:=Pr.b (DkP.p a)
abbrev ZK a:=Pr.a (DkP.p a)
abbrev Kl a b c:=and (Ye a b) c
abbrev G9 a:=Yy (Be a)
attribute [go_sem] Qi Be kK ZP ZK Kl G9
theorem CBW (a : DkP) : (BWY a) = (BZ (Cw (Nl (kW (ZK a) (G9 a)) (kW (ZP a) (G9 a)) (not (Kl (ZK a) (ZP a) (Kl (ZP a) (ZK a) PB)))) (ZK a) (BB (Be a))) (Cw (Nl (kW (ZK a) (G9 a)) (kW (ZP a) (G9 a)) (not (Kl (ZK a) (ZP a) (Kl (ZP a) (ZK a) PB)))) (ZP a) (BB (Be a))) (CM (MF (Qi (Be a) (DkP.p a)) (II (Nl (kW (ZK a) (G9 a)) (kW (ZP a) (G9 a)) (not (Kl (ZK a) (ZP a) (Kl (ZP a) (ZK a) PB)))) (WN (kK a (ZK a)) (kK a (ZP a))))) (BA (Be a)) (AZ (Be a)) (BE (Be a)) (BD (Be a)) (AW (Be a)) (UK (Be a) (DkP.w a)))) := by kernel_rfl
theorem BOW : AR Try.prog BBW (C_pair.spec dDkP) := Jp C_pair (λ _ => BXP) [] [] CDW (λ _ => by kernel_rfl) (λ _ => AC BDP AL) (λ (a : DkP) h => by
 have hn : a.w.c.ns.length < 1073741824 := (show a.w.c.ns.length < 1073741824 /\ True from h).1
 have w1 : IntKind.i64.wrap ((a.w.c.ns.length : Int) - 1) = (a.w.c.ns.length : Int) - 1 := PE (by omega) (by omega)
 show BWY a; rw [CBW]<;> delta MF Sw BU CO FM TP WF Ua FQ FP CL AK CA DD AU BW WN KZ KB IV HC HA HZ ID IA JD GN FW FY Ye PB JW PY BI NH AQ OE KO Qi AI BG DV AN BO BK CG BJ BB BY AO AM BL BV ED NK CS CD CJ CX DM AZ IY CR DH BA AW HD DQ HY DG BD FS FU IK BE OZ FR OO DI BZ MN KP EO BC KY XD LB GX KU GO TL Bf LD TT LG VO MK OG HB LP EL MX Yy Be NF CM QA BS QQ OH KQ NA II UR VX aB IF ZP ZK UK Kl sU Cw Nl kW kK G9; simp only [CC, eq_self, implies_true, forall_const]
 have e : (bif Fw a.p.a 0 (IntKind.i64.wrap ((a.w.c.ns.length : Int) - 1)) then Fw a.p.b 0 (IntKind.i64.wrap ((a.w.c.ns.length : Int) - 1)) else false) = uT a.w.c.ns.length a.p := by
  unfold uT wr; cases Fw a.p.a 0 (IntKind.i64.wrap ((a.w.c.ns.length : Int) - 1)) <;> rfl
 rw [e]
 have hb : uT a.w.c.ns.length a.p = true -> (0 <= a.p.a /\ a.p.a < a.w.c.ns.length) /\ 0 <= a.p.b /\ a.p.b < a.w.c.ns.length := λ h => by
  unfold uT wr Fw at h; rw [w1] at h
  simp only [Bool.and_eq_true, decide_eq_true_eq] at h; omega
 cases hq : uT a.w.c.ns.length a.p with
 | false =>
  refine ⟨⟨(λ h => by cases h), (λ h => by cases h)⟩, ?_⟩
  unfold OS; rw [hq]; rfl
 | true =>
  refine ⟨⟨λ _ => (hb hq).1, λ _ => (hb hq).2⟩, ?_⟩
  unfold OS; rw [hq]
  simp only [cond_true, Bool.and_true]
  rfl) (λ _ => Mi rfl rfl) _
def C_late : Ctr := { ro := [100, 101], α := DkP, xs := λ a => [.bptr 100 0, .d (ePr a.p)], L := λ a => dkL a.w, val := λ a => .bool (XN a.w.c a.p), keep := λ a => dkK a.w, pre := λ a => [((0 <= a.p.a /\ a.p.a < a.w.c.ns.length) /\ 0 <= a.p.b /\ a.p.b < a.w.c.ns.length) /\ (a.w.c.ms.length <= 40 /\ a.w.c.ns.length <= 20) /\ ∀ i, i < a.w.c.ns.length -> 0 <= (gD a.w.c.ns i).mi /\ (gD a.w.c.ns i).mi < a.w.c.ms.length] }
def BYM : Ann := { ann 61 [] with E := [100, 101] }
def BYI (a : DkP) : Prop := DN Try.prog BYM BNZ (AP BNZ) (C_late.xs a) (AH (C_late.L a)) (C_late.val a) (C_late.keep a) [] []
abbrev ACK:=XN
attribute [go_sem] ACK
theorem CDT (a : DkP) : (BYI a) = (LI (WE (ZK a) (BB (Be a)) (DI (ZP a)) (ZP a)) (WE (kK a (ZP a)) (BY (Be a)) (DI (kK a (ZK a))) (kK a (ZK a))) (MF (ACK (Be a) (DkP.p a)) (Sb (KY (DQ (Be a) (JW (ZP a))) (Nf (BG (Be a) (JW (ZK a))))) (Km (CO (HA (Be a))) (KY (CX (Be a) (JW (kK a (ZP a)))) (CX (Be a) (JW (kK a (ZK a)))))))) (Be a) (UK (Be a) (DkP.w a))) := by kernel_rfl
theorem ANG : AR Try.prog BAG (C_late.spec dDkP) := Jp C_late (λ _ => BYM) [] [] CED (λ _ => by kernel_rfl) (λ _ => AL) (λ (a : DkP) h => by
 obtain ⟨⟨h1, h2⟩, _, h3⟩ : ((0 <= a.p.a /\ a.p.a < a.w.c.ns.length) /\ 0 <= a.p.b /\ a.p.b < a.w.c.ns.length) /\ (a.w.c.ms.length <= 40 /\ a.w.c.ns.length <= 20) /\ ∀ i, i < a.w.c.ns.length -> 0 <= (gD a.w.c.ns i).mi /\ (gD a.w.c.ns i).mi < a.w.c.ms.length := h
 show BYI a; rw [CDT]<;> delta MF BU CO FM TP WF Ua FQ FP CL AK CA DD AU BW KZ KB IV HC HA HZ ID IA JD GN FW FY Sb JW PY BI NH AQ OE KO uU ACK AI BG DV AN BO BK CG BJ BB BY AO AM BL BV ED NK CS CD CJ CX DM AZ IY CR DH BA AW HD DQ HY DG BD FS FU IK BE OZ FR OO DI MN KP EO BC KY XD LB KU GO TL Bf LD LG VO MK OG HB LP EL MX Be NF QA BS QQ OH NA JJ UR VX Km aB IF ZP ZK Br WE Ud Hi UK LI Nf kK; simp only [CC, eq_self, implies_true, forall_const]
 exact ⟨⟨h1, h2⟩, ⟨h3 _ (by omega), h3 _ (by omega)⟩, rfl⟩) (λ _ => Mi rfl rfl) _
end Go.Bal
