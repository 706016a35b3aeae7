/- Package chart: every pair. Printed by gench2.py. -/
import Derived.Test.YtdbjalgfomknhaaGreatChG1
set_option linter.unusedVariables false
set_option linter.unusedSimpArgs false
namespace Go.Bal
open Go Go.Sym Go.Proofs
def LXPp (q : Dk) : List (Nat × AObj) := [(101, dkB q 102), (102, dkM q)]
def KXPp (q : Dk) : List (Nat × HCell) := [(101, .live (dkB q 102)), (102, .live (dkM q))]
def fvPp (q : Dk) : AVal := .fn (.func AIB) [.bptr 101 0] []
def BPp (q : Dk) : AObj := .box [fvPp q]
structure EPp where
 q : Dk
 e : Pr
structure MPp where
 q : Dk
 l : List Pr
def C1Pp : Ctr := { ro := [100, 101, 102], α := EPp, xs := λ a => [.d (ePr a.e), .bptr 100 0], L := λ a => (100, BPp a.q) :: LXPp a.q, val := λ a => .bool (!We a.q.c a.e), keep := λ a => (100, .live (BPp a.q)) :: KXPp a.q, pre := λ a => [a.q.c.ns.length < 1073741824 /\ True] }
def d1Pp : List AVal -> Heap -> Option (EPp × List (Nat × Nat) × List Nat)
 | [.d d, .bptr id _], H => match H id with
  | .live (.box [.fn _ [.bptr j _] _]) => match oV H j with
   | some (q, m) => some (⟨q, dPr d⟩, [(100, id), (101, j), (102, m)], [])
   | none => none
  | _ => none
 | _, _ => none
def A1Pp : Ann := { ann 8 [(AIB, C_pair.spec dDkP)] with E := [100, 101, 102] }
def V1Pp (a : EPp) : Prop := CL Try.prog A1Pp AXE (AH AXE) (C1Pp.xs a) (AB (C1Pp.L a)) (C1Pp.val a) (C1Pp.keep a) [] []
abbrev pB:=EPp.q
abbrev RW a:=AV (pB a)
attribute [go_sem] pB RW
theorem BRS (a : EPp) : (V1Pp a) = (HP (HP (AF (Pr.a (EPp.e a))) (AF (Pr.b (EPp.e a))) (AM (RW a)) (AL (RW a)) (AP (RW a)) (AS (RW a)) (AT (RW a)) (QK (BM (RW a)) (λ i=>AZ i (RW a)) (BK (RW a)) (λ i=>BJ i (RW a)) (pB a) BL (λ i=>NW (RW a) i) (λ i=>MC (pB a) i) (AR (BT (λ i=>HZ (RW a) i (SW (pB a) i))) (AM (RW a)) (AL (RW a)) (AP (RW a)) (AS (RW a)) (AT (RW a)) (CA (RW a)) (KI (RW a)) (MY (BZ (RW a)) (λ i=>CP i (RW a)) (IB (pB a)) (IE (RW a)) (HB (pB a)) (λ i=>JU (SW (pB a) i) (RW a) i) (OB (FS (RW a))) LG)))) (KY (not (cV (RW a) (EPp.e a))) (not (cV (EH (RW a)) (EPp.e a)))) (AM (RW a)) (AL (RW a)) (AP (RW a)) (AS (RW a)) (AT (RW a)) (TY (RW a) (pB a))) := by kernel_rfl
theorem BRE : AK Try.prog AJE (C1Pp.spec d1Pp) := XM C1Pp (λ _ => A1Pp) [] [] BLW (λ _ => by kernel_rfl) (λ _ => AA BGD AD) (λ (a : EPp) h => by
 have h : a.q.c.ns.length < 1073741824 := (show a.q.c.ns.length < 1073741824 /\ True from h).1
 show V1Pp a; rw [BRS]<;> delta KY BA BI FW EX FI CE AC BX CM AQ ER GP GA HQ HT HC HR DS GB ED LG SX BT PO AV LW cV pB AE BG AW EO GJ GI AG GM BF BE CK QU AR CN BD AF JJ CG BC EZ AO CQ GT BS CV JL CY BO CR DD AL KA CF AM AT DM DR DZ GG RB AS DJ EG FC Ic AP EY FG FS EN SW DB CS HW FV JD HA RY QW KB LQ FU EH FE ET DE AN BY LP FY FJ EV KD BL XQ JS JE HY JH LR OK XJ ZA JQ OM RW KV BK QZ IT EB MC KF LM OJ MR IB MG WB HB KE KR MO KC OV Dj QS QY QP BM BZ CA EP FQ AZ CH JC YM JN SI HP MM FF LA GO KL ZH ZJ Bv YI HZ EE NW ZI BJ SG IE JU CP NB OB KI YJ TY QK MY; simp [wr, WU, h, DN]) (λ _ => YR rfl rfl) _
def d2Pp : List AVal -> Heap -> Option (MPp × List (Nat × Nat) × List Nat)
 | [y, .fn _ _ [.bptr id _]], H => match vH y H with
  | some (n, g, f) => match H id with
   | .live (.box [.fn _ [.bptr j _] _]) => match oV H j with
    | some (q, m) => some (⟨q, QR n λ i => dPr (g i)⟩, [(100, id), (101, j), (102, m)], f)
    | none => none
   | _ => none
  | none => none
 | _, _ => none
def A2Pp (a : MPp) : Ann := { ann 19 [(AJE, C1Pp.spec d1Pp)] with E := [100, 101, 102], loops := λ id => if id = 2 then some [{ α := Nat, dflt := 0, T := λ k => ⟨[(0, .d (bQ a.l)), (1, .fn (.func AJE) [] [.bptr 100 0]), (7, .int a.l.length), (8, .int k)], (100, .live (BPp a.q)) :: KXPp a.q⟩, inv := λ k => k <= a.l.length /\ aJ (λ i => !We a.q.c (gD a.l i)) a.l.length 0 = aJ (λ i => !We a.q.c (gD a.l i)) (a.l.length - k) k, meas := λ k => a.l.length - k }] else none }
def PPp (a : MPp) : List Prop := [a.l.length < 4611686018427387904 /\ a.q.c.ns.length < 1073741824]
def C2Pp : Ctr := { ro := [100, 101, 102], α := MPp, xs := λ a => [.d (bQ a.l), .fn (.func AJE) [] [.bptr 100 0]], L := λ a => (100, BPp a.q) :: LXPp a.q, val := λ a => .int (aJ (λ i => !We a.q.c (gD a.l i)) a.l.length 0), keep := λ a => (100, .live (BPp a.q)) :: KXPp a.q, pre := PPp }
def V2Pp (a : MPp) : Prop := CL Try.prog (A2Pp a) BAL (AH BAL) (C2Pp.xs a) (AB (C2Pp.L a)) (C2Pp.val a) (C2Pp.keep a) [] []
abbrev WQ:=@List.length Pr
abbrev Ol:=MPp.l
abbrev Sp:=@gD Pr instInhabitedPr
abbrev Bo:=MPp.q
abbrev FM a:=AV (Bo a)
abbrev Eb a b:=QU (FM a) b
abbrev Mf a:=AT (FM a)
abbrev Lv a:=AS (FM a)
abbrev Mm a:=AP (FM a)
abbrev Nc a:=AL (FM a)
abbrev Lu a:=AM (FM a)
abbrev SF a:=WQ (Ol a)
abbrev wZ a b:=cV (FM a) b
abbrev sU a b:=Sp (Ol a) b
abbrev Qh a b c:=wZ a (sU b c)
abbrev MI a b:=Pr.b (Sp a b)
abbrev MK a b:=Pr.a (Sp a b)
attribute [go_sem] WQ Ol Sp Bo FM Eb Mf Lv Mm Nc Lu SF wZ sU Qh MI MK
theorem BRM (a : MPp) : (V2Pp a) = (DY (λ i=>ML (And (BC (SF a)) (FR (AC (λ j=>FE j (SF a) (MK (Ol a) j) (MI (Ol a) j))) (BW (SF a)) (BR i) (FM a) (RE (FM a) (Bo a) (λ j=>Eb a j)))) i (SF a) (Cq (λ j=>Qh a a j) (SF a) (λ j=>Qh a a j) i i)) (λ i=>CO (JI i (SF a) (Cq (λ j=>Qh a a j) (SF a) (λ j=>Qh a a j) i i)) i (SF a) (FR (DG i (SF a)) (AF (MK (Ol a) i)) (AF (MI (Ol a) i)) (FM a) (QK (BM (FM a)) (λ j=>AZ j (FM a)) (BK (FM a)) (λ j=>BJ j (FM a)) (Bo a) BL (λ j=>NW (FM a) j) (λ j=>MC (Bo a) j) (AR (BT (λ j=>HZ (FM a) j (Eb a j))) (Lu a) (Nc a) (Mm a) (Lv a) (Mf a) (CA (FM a)) (KI (FM a)) (MY (BZ (FM a)) (λ j=>CP j (FM a)) (IB (Bo a)) (IE (FM a)) (HB (Bo a)) (λ j=>JU (Eb a j) (FM a) j) (OB (FS (FM a))) LG)))) (PB (not (cV (EH (FM a)) (sU a i))) (CI (Je (λ j=>Qh a a j) (SF a) (BU i)) (Lu a) (Nc a) (Mm a) (Lv a) (Mf a) (RE (FM a) (Bo a) (λ j=>Eb a j))) (λ j=>LH (And (BC (SF a)) (FR (AC (λ k=>FE k (SF a) (MK (Ol a) k) (MI (Ol a) k))) (BW (SF a)) (BH j i) (FM a) (RE (FM a) (Bo a) (λ k=>Eb a k)))) j (SF a) (Cq (λ k=>Qh a a k) (SF a) (λ k=>Qh a a k) j j) i)) (CI (Je (λ j=>Qh a a j) (SF a) (-1)) (Lu a) (Nc a) (Mm a) (Lv a) (Mf a) (RE (FM a) (Bo a) (λ j=>Eb a j))))) := by kernel_rfl
theorem p2Pp (a : MPp) (h : EF (PPp a)) : V2Pp a := by
 obtain ⟨h, hp⟩ : a.l.length < 4611686018427387904 /\ a.q.c.ns.length < 1073741824 := h
 rw [BRM]<;> delta KY BA BI FW OH PR EX FI CE AC BX CM AQ BU DH DX IP HD LS PG JV ER GP GA HQ HT HC HR DS GB ED GW LG SX BT PO AV LW cV WQ Ol Sp Bo AE BG AW EO GJ GI AG GM BF BE CK QU AR CN BD AF JJ CG BC EZ AO CQ GT BS CV JL CY BO HK CR DD AL KA CF AM AT FM DM DR DZ GF GG DW RB AS DJ EG FC Ic AP EY FG FS EN DC DB CS HW FV GR FZ JD HA RY QW KB LQ FU EH FE ET DE CJ GQ BY LP FY FJ EV KD BL XQ JS FL JE HY JH LR OK LV JG XJ BH JI ZA JQ OM KV JP DV DG BK QZ IT EB MC KF LM LX OJ MR IB MG WB HB KE KR MO IS KC MU OV Dj QS QY QP HG HX Vv DU BM BZ CA EP FQ AZ CH JC CI SF YM MI BR BW JN SI MK Eb CO DY MM FF LA GO KL Fw ZH ZJ sU Bv HZ EE NW ZI BJ SG IE JU Je CP NB OB KI YJ FR ZX LH RE ML PB wZ Mm Lv Mf Qh Cq Lu Nc QK MY
 simp only [CC, eq_self, implies_true, forall_const]
 refine ⟨⟨0, rfl, Nat.zero_le _, rfl⟩, λ k ⟨h1, h2⟩ => ⟨λ hlt => ?_, λ hge => ?_⟩⟩
 ·have hlt : k < a.l.length := by omega
  refine ⟨⟨⟨by omega, by omega⟩, hp⟩, λ hp => ?_, λ hp => ⟨k + 1, (FH (by omega)).symm, ⟨by omega, ?_⟩, by omega⟩⟩
  ·rw [h2]; exact iM hlt (by simpa using hp)
  ·rw [h2]; exact Z4 hlt (by simpa using hp)
 ·rw [h2]; exact uK (by omega)
theorem BQS : AK Try.prog AVM (C2Pp.spec d2Pp) := XM C2Pp A2Pp [] [] BOB (λ _ => by kernel_rfl) (λ _ => AA BRE AD) p2Pp (λ _ => YR rfl rfl) _
def C3Pp : Ctr := { C2Pp with val := λ (a : MPp) => .bool (decide (aJ (λ i => !We a.q.c (gD a.l i)) a.l.length 0 >= 0)) }
def d3Pp : List AVal -> Heap -> Option (C3Pp.α × List (Nat × Nat) × List Nat) := d2Pp
def A3Pp : Ann := { ann 9 [(AVM, C2Pp.spec d2Pp)] with E := [100, 101, 102] }
def V3Pp (a : MPp) : Prop := CL Try.prog A3Pp AZH (AH AZH) (C3Pp.xs a) (AB (C3Pp.L a)) (C3Pp.val a) (C3Pp.keep a) [] []
abbrev iI:=@QR Pr
abbrev Xx a b:=iI (SF a) (λ i=>sU b i)
abbrev Up a b:=WQ (Xx a b)
attribute [go_sem] iI Xx Up
theorem BQH (a : MPp) : (V3Pp a) = (HP (HP (CE (Up a a) (SF a)) (AC (λ i=>CS i (Up a a) (MK (Xx a a) i) (MK (Ol a) i) (MI (Xx a a) i) (MI (Ol a) i))) (Lu a) (Nc a) (Mm a) (Lv a) (Mf a) (QK (BM (FM a)) (λ i=>AZ i (FM a)) (BK (FM a)) (λ i=>BJ i (FM a)) (Bo a) BL (λ i=>NW (FM a) i) (λ i=>MC (Bo a) i) (AR (BT (λ i=>HZ (FM a) i (Eb a i))) (Lu a) (Nc a) (Mm a) (Lv a) (Mf a) (CA (FM a)) (KI (FM a)) (MY (BZ (FM a)) (λ i=>CP i (FM a)) (IB (Bo a)) (IE (FM a)) (HB (Bo a)) (λ i=>JU (Eb a i) (FM a) i) (EJ (Up a a)) (OB (FS (FM a))))))) (KY (VD (λ i=>Qh a a i) (SF a)) (VD (λ i=>cV (EH (FM a)) (Sp (Xx a a) i)) (Up a a))) (Lu a) (Nc a) (Mm a) (Lv a) (Mf a) (RE (FM a) (Bo a) (λ i=>Eb a i))) := by kernel_rfl
theorem BPQ : AK Try.prog AXB (C3Pp.spec d3Pp) := Ctr.spec_ok (C := C3Pp) (λ (a : MPp) h => Rc (A := A3Pp) (ren := []) (fz := []) BLI (by kernel_rfl) (AA BQS AD) (by
 obtain ⟨h, hp⟩ : a.l.length < 4611686018427387904 /\ a.q.c.ns.length < 1073741824 := h
 show V3Pp a; rw [BQH]<;> delta KY lI BA BI FW EX FI CE AC BX CM AQ ER GP GA HQ HT HC HR DS GB ED SX BT PO AV LW cV WQ Ol Sp Bo iI AE BG AW EO GJ GI AG GM BF BE CK QU AR CN BD AF JJ CG BC EZ AO CQ GT BS CV JL CY BO CR DD AL KA CF AM AT FM DM DR DZ GG RB AS DJ EG FC Ic AP EY FG FS EN DB CS HW FV JD HA RY QW KB LQ FU EH FE ET DE AN BY LP FY FJ EV EJ KD BL XQ JS JE HY JH LR OK XJ ZA JQ OM KV BK QZ IT EB MC KF LM OJ MR IB MG WB HB KE KR MO KC OV Dj QS QY QP Vv BM BZ CA EP FQ AZ CH JC SF YM MI JN SI MK Eb HP MM FF LA GO KL Fw ZH ZJ sU Bv HZ EE NW ZI BJ SG IE JU CP NB OB KI YJ RE Kc Xx VD wZ Mm Lv Mf Qh Lu Up Nc QK MY; simp [h, hp, WU, DN])) _
def d4Pp : List AVal -> Heap -> Option (MPp × List (Nat × Nat) × List Nat)
 | [y, .fn _ [.bptr j _] _], H => match vH y H with
  | some (n, g, f) => match oV H j with
   | some (q, m) => some (⟨q, QR n λ i => dPr (g i)⟩, [(101, j), (102, m)], f)
   | none => none
  | none => none
 | _, _ => none
def A4Pp : Ann := { ann 9 [(AXB, C3Pp.spec d3Pp)] with E := [101, 102] }
def C4Pp : Ctr := { ro := [101, 102], α := MPp, xs := λ a => [.d (bQ a.l), fvPp a.q], L := λ a => LXPp a.q, val := λ a => .bool (a.l.all λ x => We a.q.c x), keep := λ a => KXPp a.q, pre := PPp }
def V4Pp (a : MPp) : Prop := CL Try.prog A4Pp F_eP (AH F_eP) (C4Pp.xs a) (AB (C4Pp.L a)) (C4Pp.val a) (C4Pp.keep a) [] []
theorem BQA (a : MPp) : (V4Pp a) = (HP (HP (CE (Up a a) (SF a)) (AC (λ i=>CS i (Up a a) (MK (Xx a a) i) (MK (Ol a) i) (MI (Xx a a) i) (MI (Ol a) i))) (Lu a) (Nc a) (Mm a) (Lv a) (Mf a) (QK (BM (FM a)) (λ i=>AZ i (FM a)) (BK (FM a)) (λ i=>BJ i (FM a)) (Bo a) BL (λ i=>NW (FM a) i) (λ i=>MC (Bo a) i) (AR (BT (λ i=>HZ (FM a) i (Eb a i))) (Lu a) (Nc a) (Mm a) (Lv a) (Mf a) (CA (FM a)) (KI (FM a)) (MY (BZ (FM a)) (λ i=>CP i (FM a)) (IB (Bo a)) (IE (FM a)) (HB (Bo a)) (λ i=>JU (Eb a i) (FM a) i) (EJ (Up a a)) (OB (FS (FM a))))))) (KY ((@List.all Pr) (Ol a) (λ i=>wZ a i)) (not (VD (λ i=>cV (EH (FM a)) (Sp (Xx a a) i)) (Up a a)))) (Lu a) (Nc a) (Mm a) (Lv a) (Mf a) (RE (FM a) (Bo a) (λ i=>Eb a i))) := by kernel_rfl
theorem BOY (a : MPp) (h : EF (PPp a)) : FnT Try.prog n_eP (C4Pp.xs a) (AB (C4Pp.L a)) (C4Pp.val a) (C4Pp.keep a) := Rc (A := A4Pp) (ren := []) (fz := []) BQT (by kernel_rfl) (AA BPQ AD) (by
 have h' : a.l.length < 4611686018427387904 /\ a.q.c.ns.length < 1073741824 := h
 show V4Pp a; rw [BQA]<;> delta KY lI BA BI FW EX FI CE AC BX CM AQ ER GP GA HQ HT HC HR DS GB ED SX BT PO AV LW cV WQ Ol Sp Bo iI AE BG AW EO GJ GI AG GM BF BE CK QU AR CN BD AF JJ CG BC EZ AO CQ GT BS CV JL CY BO CR DD AL KA CF AM AT FM DM DR DZ GG RB AS DJ EG FC Ic AP EY FG FS EN DB CS HW FV JD HA RY QW KB LQ FU EH FE ET DE AN BY LP FY FJ EV EJ KD BL XQ JS JE HY JH LR OK XJ ZA JQ OM KV BK QZ IT EB MC KF LM OJ MR IB MG WB HB KE KR MO KC OV Dj QS QY QP Vv BM BZ CA EP FQ AZ CH JC SF YM MI JN SI MK Eb HP MM FF LA GO KL Fw ZH ZJ sU Bv HZ EE NW ZI BJ SG IE JU CP NB OB KI YJ RE Kc Xx VD wZ Mm Lv Mf Lu Up Nc QK MY; simp only [CC, eq_self, implies_true, forall_const, ge_iff_le]
 rw [<- lT]
 exact ⟨h', rfl⟩)
theorem BQN : AK Try.prog n_eP (C4Pp.spec d4Pp) := Ctr.spec_ok (C := C4Pp) BOY _
end Go.Bal
