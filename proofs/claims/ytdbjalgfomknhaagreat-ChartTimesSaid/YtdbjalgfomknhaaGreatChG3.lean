/- Package chart: every pair. Printed by gench2.py. -/
import Derived.Test.YtdbjalgfomknhaaGreatChG1
set_option linter.unusedVariables false
set_option linter.unusedSimpArgs false
namespace Go.Bal
open Go Go.Sym Go.Proofs
def LXPp (q : Dk) : List (Nat × AObj) := [(101, dkB q 102), (102, dkM q)]
def KXPp (q : Dk) : List (Nat × HCell) := [(101, .live (dkB q 102)), (102, .live (dkM q))]
def fvPp (q : Dk) : AVal := .fn (.func AJJ) [.bptr 101 0] []
def BPp (q : Dk) : AObj := .box [fvPp q]
structure EPp where
 q : Dk
 e : Pr
structure MPp where
 q : Dk
 l : List Pr
def C1Pp : Ctr := { ro := [100, 101, 102], α := EPp, xs := λ a => [.d (ePr a.e), .bptr 100 0], L := λ a => (100, BPp a.q) :: LXPp a.q, val := λ a => .bool (!Xo a.q.c a.e), keep := λ a => (100, .live (BPp a.q)) :: KXPp a.q, pre := λ a => [a.q.c.ns.length < 1073741824 /\ True] }
def d1Pp : List AVal -> Heap -> Option (EPp × List (Nat × Nat) × List Nat)
 | [.d d, .bptr id _], H => match H id with
  | .live (.box [.fn _ [.bptr j _] _]) => match tE H j with
   | some (q, m) => some (⟨q, dPr d⟩, [(100, id), (101, j), (102, m)], [])
   | none => none
  | _ => none
 | _, _ => none
def A1Pp : Ann := { ann 8 [(AJJ, C_pair.spec dDkP)] with E := [100, 101, 102] }
def V1Pp (a : EPp) : Prop := CH Try.prog A1Pp BGI (AH BGI) (C1Pp.xs a) (AB (C1Pp.L a)) (C1Pp.val a) (C1Pp.keep a) [] []
abbrev ZX a:=AL (EPp.q a)
attribute [go_sem] ZX
theorem BXS (a : EPp) : (V1Pp a) = (FX (FX (AG (Pr.a (EPp.e a))) (AG (Pr.b (EPp.e a))) (AQ (ZX a)) (AT (ZX a)) (AP (ZX a)) (AS (ZX a)) (AV (ZX a)) (NX (ZX a) (EPp.q a) (MJ (HL (ZX a)) (AQ (ZX a)) (ZX a) (AP (ZX a)) (AS (ZX a)) (CQ (ZX a)) (DN (ZX a)) (OG (ZX a) (EPp.q a) (LW (DA (ZX a))) IH)))) (Iq (not (fH (ZX a) (EPp.e a))) (fH (DK (ZX a)) (EPp.e a))) (AQ (ZX a)) (AT (ZX a)) (AP (ZX a)) (AS (ZX a)) (AV (ZX a)) (SG (ZX a) (EPp.q a))) := by kernel_rfl
theorem BWF : AJ Try.prog APP (C1Pp.spec d1Pp) := XP C1Pp (λ _ => A1Pp) [] [] BRX (λ _ => by kernel_rfl) (λ _ => AA BMR AC) (λ (a : EPp) h => by
 have h : a.q.c.ns.length < 1073741824 := (show a.q.c.ns.length < 1073741824 /\ True from h).1
 show V1Pp a; rw [BXS]<;> delta KH BG BJ EC ES ET BW AD BU CL AR EJ GW EX HP HN HJ GT GB HC DU GG FE JW IH NY EU MP AL JO fH AE CR FA BB GA AF AY AU RA AG EM EZ BC FD AX FC BM CJ AK AN DD BH HX BY BP CX HZ BN CY BS CE QX FU AV DA AQ EV DW AZ LX DQ CP FT AS OT ZW AP ID AT EG BX NE HD CG OK HV AO DC Cn BT UR EL FV DK NF EP HW DB FN FM KZ UV VU TL Cs EA FQ PZ NH GJ LQ BE DX FO FZ KL NC ZX GH SV IC LM OI SY Bi BO DH CQ BK JF GY CS EE TV KQ RZ DG MC UL FX DI SE VI DN UM QG UG TN HL JI VL TK TG XM LW SG TO XR WZ MJ NX OG Iq; simp [wr, TS, h, CU]) (λ _ => YS rfl rfl) _
def d2Pp : List AVal -> Heap -> Option (MPp × List (Nat × Nat) × List Nat)
 | [y, .fn _ _ [.bptr id _]], H => match sB y H with
  | some (n, g, f) => match H id with
   | .live (.box [.fn _ [.bptr j _] _]) => match tE H j with
    | some (q, m) => some (⟨q, IK n λ i => dPr (g i)⟩, [(100, id), (101, j), (102, m)], f)
    | none => none
   | _ => none
  | none => none
 | _, _ => none
def A2Pp (a : MPp) : Ann := { ann 19 [(APP, C1Pp.spec d1Pp)] with E := [100, 101, 102], loops := λ id => if id = 2 then some [{ α := Nat, dflt := 0, T := λ k => ⟨[(0, .d (eO a.l)), (1, .fn (.func APP) [] [.bptr 100 0]), (7, .int a.l.length), (8, .int k)], (100, .live (BPp a.q)) :: KXPp a.q⟩, inv := λ k => k <= a.l.length /\ Zd (λ i => !Xo a.q.c (gD a.l i)) a.l.length 0 = Zd (λ i => !Xo a.q.c (gD a.l i)) (a.l.length - k) k, meas := λ k => a.l.length - k }] else none }
def PPp (a : MPp) : List Prop := [a.l.length < 4611686018427387904 /\ a.q.c.ns.length < 1073741824]
def C2Pp : Ctr := { ro := [100, 101, 102], α := MPp, xs := λ a => [.d (eO a.l), .fn (.func APP) [] [.bptr 100 0]], L := λ a => (100, BPp a.q) :: LXPp a.q, val := λ a => .int (Zd (λ i => !Xo a.q.c (gD a.l i)) a.l.length 0), keep := λ a => (100, .live (BPp a.q)) :: KXPp a.q, pre := PPp }
def V2Pp (a : MPp) : Prop := CH Try.prog (A2Pp a) BIF (AH BIF) (C2Pp.xs a) (AB (C2Pp.L a)) (C2Pp.val a) (C2Pp.keep a) [] []
abbrev YC:=@List.length Pr
abbrev Qz:=MPp.l
abbrev Ws:=@gD Pr instInhabitedPr
abbrev Rp:=MPp.q
abbrev MN a:=AL (Rp a)
abbrev bI a:=AV (MN a)
abbrev Ph a:=AS (MN a)
abbrev Ol a:=AP (MN a)
abbrev bE a:=AT (MN a)
abbrev Oi a:=AQ (MN a)
abbrev SF a:=YC (Qz a)
abbrev M4 a b:=fH (MN a) b
abbrev tY a b:=Ws (Qz a) b
abbrev Sk a b c:=M4 a (tY b c)
abbrev Le a b c d:=BH a b (AG c) d
abbrev RT a b:=Pr.b (Ws a b)
abbrev cK a b:=AG (RT a b)
abbrev MF a b:=Pr.a (Ws a b)
attribute [go_sem] YC Qz Ws Rp MN bI Ph Ol bE Oi SF M4 tY Sk Le RT cK MF
theorem BWR (a : MPp) : (V2Pp a) = (DP (λ i=>SD (And (BC (SF a)) (KD (AD (λ j=>Le j (SF a) (MF (Qz a) j) (cK (Qz a) j))) (IM (SF a)) (BR i) (MN a) (Rp a))) i (SF a) (WO (λ j=>Sk a a j) (SF a) (λ j=>Sk a a j) i i)) (λ i=>GQ (GZ i (SF a) (WO (λ j=>Sk a a j) (SF a) (λ j=>Sk a a j) i i)) i (SF a) (HT (FR i (SF a)) (AG (MF (Qz a) i)) (cK (Qz a) i) (MN a) (NX (MN a) (Rp a) (MJ (HL (MN a)) (Oi a) (MN a) (Ol a) (Ph a) (CQ (MN a)) (DN (MN a)) (OG (MN a) (Rp a) (LW (DA (MN a))) IH)))) (KS (not (fH (DK (MN a)) (tY a i))) (Cf (λ j=>Sk a a j) (SF a) (BZ i)) (Oi a) (AF (bE a) (Ol a) (Ph a) (bI a) (SG (MN a) (Rp a))) (GN (λ j=>MA (And (BC (SF a)) (KD (AD (λ k=>Le k (SF a) (MF (Qz a) k) (cK (Qz a) k))) (IM (SF a)) (BD j i) (MN a) (Rp a))) j (SF a) (WO (λ k=>Sk a a k) (SF a) (λ k=>Sk a a k) j j) i))) (IR (Cf (λ j=>Sk a a j) (SF a) (-1)) (Oi a) (bE a) (Ol a) (Ph a) (bI a) (SG (MN a) (Rp a))))) := by kernel_rfl
theorem p2Pp (a : MPp) (h : EI (PPp a)) : V2Pp a := by
 obtain ⟨h, hp⟩ : a.l.length < 4611686018427387904 /\ a.q.c.ns.length < 1073741824 := h
 rw [BWR]<;> delta KH BG BJ EC MM NO ES ET BW AD BU CL AR BZ DJ EK JH HO KB NL LO EJ GW EX HP HN HJ GT GB HC DU GG FE JW GN IH NY EU MP AL JO fH YC Qz Ws Rp AE CR FA BB GA AF AY AU RA AG EM EZ BC FD AX FC BM CJ AK AN DD BH HX BY BP CX HZ BN CY BS CE HQ QX FU AV MN DA AQ EV DW AZ LX DQ CP FT AS OT ZW FS DM AP ID AT EG CN BX NE HD CG GP GU OK DS FH HV DC Cn BT UR EL FV DK CD NF EP HW EO DB FN FM KZ UV VU TL JB DZ Cs BD EA FQ PZ FR IW NH GJ LQ BE DX FO FZ KL NC GH SV IC LM LB IM OI Mz SY Bi HS HB BO EB DH CQ BK JF GY CS EE GM GZ TV BR KQ RZ DG MC UL SF RT GC Be DP DI SE TD VI MF DN Cf tY HT UM QG UG TN HL JI VL KS TK TG XM LW GQ SG KD IR ZN Ah MA TO XR WZ MJ WO SD M4 Ol Ph Oi NX OG Sk Le cK bE bI
 simp only [CC, eq_self, implies_true, forall_const]
 refine ⟨⟨0, rfl, Nat.zero_le _, rfl⟩, λ k ⟨h1, h2⟩ => ⟨λ hlt => ?_, λ hge => ?_⟩⟩
 ·have hlt : k < a.l.length := by omega
  refine ⟨⟨⟨by omega, by omega⟩, hp⟩, λ hp => ?_, λ hp => ⟨k + 1, (HY (by omega)).symm, ⟨by omega, ?_⟩, by omega⟩⟩
  ·rw [h2]; exact fI hlt (by simpa using hp)
  ·rw [h2]; exact O9 hlt (by simpa using hp)
 ·rw [h2]; exact qU (by omega)
theorem BWJ : AJ Try.prog BFN (C2Pp.spec d2Pp) := XP C2Pp A2Pp [] [] BRI (λ _ => by kernel_rfl) (λ _ => AA BWF AC) p2Pp (λ _ => YS rfl rfl) _
def C3Pp : Ctr := { C2Pp with val := λ (a : MPp) => .bool (decide (Zd (λ i => !Xo a.q.c (gD a.l i)) a.l.length 0 >= 0)) }
def d3Pp : List AVal -> Heap -> Option (C3Pp.α × List (Nat × Nat) × List Nat) := d2Pp
def A3Pp : Ann := { ann 9 [(BFN, C2Pp.spec d2Pp)] with E := [100, 101, 102] }
def V3Pp (a : MPp) : Prop := CH Try.prog A3Pp BHY (AH BHY) (C3Pp.xs a) (AB (C3Pp.L a)) (C3Pp.val a) (C3Pp.keep a) [] []
abbrev mS:=@IK Pr
abbrev bO a b:=mS (SF a) (λ i=>tY b i)
abbrev Xy a b:=YC (bO a b)
attribute [go_sem] mS bO Xy
theorem BXV (a : MPp) : (V3Pp a) = (FX (FX (BW (Xy a a) (SF a)) (AD (λ i=>DB i (Xy a a) (MF (bO a a) i) (MF (Qz a) i) (RT (bO a a) i) (RT (Qz a) i))) (Oi a) (bE a) (Ol a) (Ph a) (bI a) (NX (MN a) (Rp a) (MJ (HL (MN a)) (Oi a) (MN a) (Ol a) (Ph a) (CQ (MN a)) (DN (MN a)) (OG (MN a) (Rp a) (DT (Xy a a)) (LW (DA (MN a))))))) (KH (QM (λ i=>Sk a a i) (SF a)) (QM (λ i=>fH (DK (MN a)) (Ws (bO a a) i)) (Xy a a))) (Oi a) (bE a) (Ol a) (Ph a) (bI a) (SG (MN a) (Rp a))) := by kernel_rfl
theorem BWH : AJ Try.prog BBW (C3Pp.spec d3Pp) := Ctr.spec_ok (C := C3Pp) (λ (a : MPp) h => Hp (A := A3Pp) (ren := []) (fz := []) BVJ (by kernel_rfl) (AA BWJ AC) (by
 obtain ⟨h, hp⟩ : a.l.length < 4611686018427387904 /\ a.q.c.ns.length < 1073741824 := h
 show V3Pp a; rw [BXV]<;> delta KH rW BG BJ EC ES ET BW AD BU CL AR EJ GW EX HP HN HJ GT GB HC DU GG FE JW NY EU MP AL JO fH YC Qz Ws Rp mS AE CR FA BB GA AF AY AU RA AG EM EZ BC FD AX FC BM CJ AK AN DD BH HX BY BP CX HZ BN CY BS CE QX FU AV MN DA AQ EV DW AZ LX DQ CP FT AS OT ZW AP ID AT EG BX NE HD CG OK HV AO DC Cn DT BT UR EL FV DK NF EP HW DB FN FM KZ UV VU TL Cs EA FQ PZ NH GJ LQ BE DX FO FZ KL NC GH SV IC LM OI Mz SY Bi BO DH CQ BK JF GY CS EE TV KQ RZ DG MC UL SF RT FX Be DI SE VI MF DN tY UM QG UG TN HL JI VL TK TG XM LW SG As QM TO XR bO WZ MJ M4 Ol Ph Oi NX OG Sk Xy bE bI; simp [h, hp, TS, CU])) _
def d4Pp : List AVal -> Heap -> Option (MPp × List (Nat × Nat) × List Nat)
 | [y, .fn _ [.bptr j _] _], H => match sB y H with
  | some (n, g, f) => match tE H j with
   | some (q, m) => some (⟨q, IK n λ i => dPr (g i)⟩, [(101, j), (102, m)], f)
   | none => none
  | none => none
 | _, _ => none
def A4Pp : Ann := { ann 9 [(BBW, C3Pp.spec d3Pp)] with E := [101, 102] }
def C4Pp : Ctr := { ro := [101, 102], α := MPp, xs := λ a => [.d (eO a.l), fvPp a.q], L := λ a => LXPp a.q, val := λ a => .bool (a.l.all λ x => Xo a.q.c x), keep := λ a => KXPp a.q, pre := PPp }
def V4Pp (a : MPp) : Prop := CH Try.prog A4Pp F_eP (AH F_eP) (C4Pp.xs a) (AB (C4Pp.L a)) (C4Pp.val a) (C4Pp.keep a) [] []
theorem BYY (a : MPp) : (V4Pp a) = (FX (FX (BW (Xy a a) (SF a)) (AD (λ i=>DB i (Xy a a) (MF (bO a a) i) (MF (Qz a) i) (RT (bO a a) i) (RT (Qz a) i))) (Oi a) (bE a) (Ol a) (Ph a) (bI a) (NX (MN a) (Rp a) (MJ (HL (MN a)) (Oi a) (MN a) (Ol a) (Ph a) (CQ (MN a)) (DN (MN a)) (OG (MN a) (Rp a) (DT (Xy a a)) (LW (DA (MN a))))))) (Iq ((@List.all Pr) (Qz a) (λ i=>M4 a i)) (QM (λ i=>fH (DK (MN a)) (Ws (bO a a) i)) (Xy a a))) (Oi a) (bE a) (Ol a) (Ph a) (bI a) (SG (MN a) (Rp a))) := by kernel_rfl
theorem BWP (a : MPp) (h : EI (PPp a)) : FnT Try.prog n_eP (C4Pp.xs a) (AB (C4Pp.L a)) (C4Pp.val a) (C4Pp.keep a) := Hp (A := A4Pp) (ren := []) (fz := []) BXT (by kernel_rfl) (AA BWH AC) (by
 have h' : a.l.length < 4611686018427387904 /\ a.q.c.ns.length < 1073741824 := h
 show V4Pp a; rw [BYY]<;> delta KH rW BG BJ EC ES ET BW AD BU CL AR EJ GW EX HP HN HJ GT GB HC DU GG FE JW NY EU MP AL JO fH YC Qz Ws Rp mS AE CR FA BB GA AF AY AU RA AG EM EZ BC FD AX FC BM CJ AK AN DD BH HX BY BP CX HZ BN CY BS CE QX FU AV MN DA AQ EV DW AZ LX DQ CP FT AS OT ZW AP ID AT EG BX NE HD CG OK HV AO DC Cn DT BT UR EL FV DK NF EP HW DB FN FM KZ UV VU TL Cs EA FQ PZ NH GJ LQ BE DX FO FZ KL NC GH SV IC LM OI Mz SY Bi BO DH CQ BK JF GY CS EE TV KQ RZ DG MC UL SF RT FX Be DI SE VI MF DN tY UM QG UG TN HL JI VL TK TG XM LW SG As QM TO XR bO WZ MJ M4 Ol Ph Oi NX OG Xy bE Iq bI; simp only [CC, eq_self, implies_true, forall_const, ge_iff_le]
 rw [<- eN]
 exact ⟨h', rfl⟩)
theorem BXA : AJ Try.prog n_eP (C4Pp.spec d4Pp) := Ctr.spec_ok (C := C4Pp) BWP _
end Go.Bal
