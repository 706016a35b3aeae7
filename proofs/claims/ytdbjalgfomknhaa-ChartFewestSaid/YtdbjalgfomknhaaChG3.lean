/- Package chart: every pair. Printed by gench2.py. -/
import Derived.Test.YtdbjalgfomknhaaChG2
set_option linter.unusedVariables false
set_option linter.unusedSimpArgs false
namespace Go.Bal
open Go Go.Sym Go.Proofs
def LXPp (q : Dk) : List (Nat × AObj) := [(101, dkB q 102), (102, dkM q)]
def KXPp (q : Dk) : List (Nat × HCell) := [(101, .live (dkB q 102)), (102, .live (dkM q))]
def fvPp (q : Dk) : AVal := .fn (.func BBW) [.bptr 101 0] []
def BPp (q : Dk) : AObj := .box [fvPp q]
structure EPp where
 q : Dk
 e : Pr
structure MPp where
 q : Dk
 l : List Pr
def C1Pp : Ctr := { ro := [100, 101, 102], α := EPp, xs := λ a => [.d (ePr a.e), .bptr 100 0], L := λ a => (100, BPp a.q) :: LXPp a.q, val := λ a => .bool (!OS a.q.c a.e), keep := λ a => (100, .live (BPp a.q)) :: KXPp a.q, pre := λ a => [a.q.c.ns.length < 1073741824 /\ True] }
def d1Pp : List AVal -> Heap -> Option (EPp × List (Nat × Nat) × List Nat)
 | [.d d, .bptr id _], H => match H id with
  | .live (.box [.fn _ [.bptr j _] _]) => match AGR H j with
   | some (q, m) => some (⟨q, dPr d⟩, [(100, id), (101, j), (102, m)], [])
   | none => none
  | _ => none
 | _, _ => none
def A1Pp : Ann := { ann 8 [(BBW, C_pair.spec dDkP)] with E := [100, 101, 102] }
def V1Pp (a : EPp) : Prop := DN Try.prog A1Pp BWK (AP BWK) (C1Pp.xs a) (AH (C1Pp.L a)) (C1Pp.val a) (C1Pp.keep a) [] []
abbrev AGS:=EPp.q
abbrev RA a:=AQ (AGS a)
attribute [go_sem] AGS RA
theorem CMC (a : EPp) : (V1Pp a) = (BZ (AM (Pr.a (EPp.e a))) (CM (AM (Pr.b (EPp.e a))) (BA (RA a)) (AZ (RA a)) (BE (RA a)) (BD (RA a)) (AW (RA a)) (PF (BR (RA a)) (λ i=>CH i (RA a)) (DF (RA a)) (λ i=>BP i (RA a)) (λ i=>LP i (AGS a)) (EV (RA a)) (AGS a) (AO (BI (λ i=>FG (RA a) i (IK (AGS a) i))) (BA (RA a)) (AZ (RA a)) (BE (RA a)) (BD (RA a)) (AW (RA a)) (DA (RA a)) (HO (RA a)) (DJ (DB (RA a)) (λ i=>CQ i (RA a)) (EP (AGS a)) BC (EQ (RA a)) (EC (AGS a)) (BI (λ i=>FF (IK (AGS a) i) (RA a) i)) (RH (EJ (RA a))) FO)))) (CM (MF (not (Qi (RA a) (EPp.e a))) (not (Qi (CV (RA a)) (EPp.e a)))) (BA (RA a)) (AZ (RA a)) (BE (RA a)) (BD (RA a)) (AW (RA a)) (UK (RA a) (AGS a)))) := by kernel_rfl
theorem CMV : AR Try.prog BKE (C1Pp.spec d1Pp) := Jp C1Pp (λ _ => A1Pp) [] [] CKC (λ _ => by kernel_rfl) (λ _ => AC BOW AL) (λ (a : EPp) h => by
 have h : a.q.c.ns.length < 1073741824 := (show a.q.c.ns.length < 1073741824 /\ True from h).1
 show V1Pp a; rw [CMC]<;> delta MF BU CO FM FQ FP CL AK CA DD AU IV HC HA HZ ID IA JD GN FW FY FO PY BI NH AQ OE KO Qi AGS AI BG DV EN GF AN BO BK CG BJ BB BY AO AM HS FZ BL BV ED NK CS GS CD IW CJ CX DM AZ CR CY DP EU CV DH BA AW HD Fs DQ GJ EA EI HY DG BD FS EJ FU IK BE EH ER OZ OO BZ HM MN GC HI KP EF EO GI BC XD FH GR JG HR KU GO FI LC FT RA JU TL Bf LD JX IR Ac LG GD NL JH VO MK LR OG BR DF LP IL IP IS IM JZ EL CH MX OC NF RC CM QA WQ DB DA MM BS QQ OH EC NA JK BP MB WG FV HN UR VX EP YC EV XS DJ FF IF CQ FG EQ HO UK RH Ez PF; simp [wr, Cq, h, EB]) (λ _ => Mi rfl rfl) _
def d2Pp : List AVal -> Heap -> Option (MPp × List (Nat × Nat) × List Nat)
 | [y, .fn _ _ [.bptr id _]], H => match dRow y H with
  | some (n, g, f) => match H id with
   | .live (.box [.fn _ [.bptr j _] _]) => match AGR H j with
    | some (q, m) => some (⟨q, HX n λ i => dPr (g i)⟩, [(100, id), (101, j), (102, m)], f)
    | none => none
   | _ => none
  | none => none
 | _, _ => none
def A2Pp (a : MPp) : Ann := { ann 19 [(BKE, C1Pp.spec d1Pp)] with E := [100, 101, 102], loops := λ id => if id = 2 then some [{ α := Nat, dflt := 0, T := λ k => ⟨[(0, .d (Wt a.l)), (1, .fn (.func BKE) [] [.bptr 100 0]), (7, .int a.l.length), (8, .int k)], (100, .live (BPp a.q)) :: KXPp a.q⟩, inv := λ k => k <= a.l.length /\ lU (λ i => !OS a.q.c (gD a.l i)) a.l.length 0 = lU (λ i => !OS a.q.c (gD a.l i)) (a.l.length - k) k, meas := λ k => a.l.length - k }] else none }
def PPp (a : MPp) : List Prop := [a.l.length < 4611686018427387904 /\ a.q.c.ns.length < 1073741824]
def C2Pp : Ctr := { ro := [100, 101, 102], α := MPp, xs := λ a => [.d (Wt a.l), .fn (.func BKE) [] [.bptr 100 0]], L := λ a => (100, BPp a.q) :: LXPp a.q, val := λ a => .int (lU (λ i => !OS a.q.c (gD a.l i)) a.l.length 0), keep := λ a => (100, .live (BPp a.q)) :: KXPp a.q, pre := PPp }
def V2Pp (a : MPp) : Prop := DN Try.prog (A2Pp a) BXA (AP BXA) (C2Pp.xs a) (AH (C2Pp.L a)) (C2Pp.val a) (C2Pp.keep a) [] []
abbrev LH:=@List.length Pr
abbrev iO:=MPp.l
abbrev Fm:=@gD Pr instInhabitedPr
abbrev Dd:=MPp.q
abbrev FE a:=AQ (Dd a)
abbrev Vw a b:=NK (FE a) b
abbrev Gw a:=AW (FE a)
abbrev Gx a:=BD (FE a)
abbrev Hs a:=BE (FE a)
abbrev Gt a:=AZ (FE a)
abbrev Ii a:=BA (FE a)
abbrev RG a:=LH (iO a)
abbrev AHY a b c:=Qi a (Fm b c)
abbrev BAL a b c:=AHY a (iO b) c
abbrev Uv a b c:=BAL (FE a) b c
abbrev XX a b:=Pr.b (Fm a b)
abbrev bT a b:=AM (XX a b)
abbrev uI a b c d:=CD a b (AM c) (bT d a)
abbrev VJ a b:=Pr.a (Fm a b)
abbrev Tn a b c:=uI a b (VJ c a) c
attribute [go_sem] LH iO Fm Dd FE Vw Gw Gx Hs Gt Ii RG AHY BAL Uv XX bT uI VJ Tn
theorem CMK (a : MPp) : (V2Pp a) = (NQ (λ i=>DY (And (BV (RG a)) (HQ (λ j=>Tn j (RG a) (iO a)) (GA (RG a)) (CF i) (Ii a) (Gt a) (Hs a) (Gx a) (Gw a) (IF (FE a) (Dd a) (λ j=>Vw a j)))) i (RG a) (Ct (λ j=>Uv a a j) (RG a) (λ j=>Uv a a j) i i)) (λ i=>CU (LZ i (RG a) (Ct (λ j=>Uv a a j) (RG a) (λ j=>Uv a a j) i i)) i (BW (RG a)) (EX (LI (YG i (RG a)) (AM (VJ (iO a) i)) (bT (iO a) i) (FE a) (PF (BR (FE a)) (λ j=>CH j (FE a)) (DF (FE a)) (λ j=>BP j (FE a)) (λ j=>LP j (Dd a)) (EV (FE a)) (Dd a) (AO (BI (λ j=>FG (FE a) j (Vw a j))) (Ii a) (Gt a) (Hs a) (Gx a) (Gw a) (DA (FE a)) (HO (FE a)) (DJ (DB (FE a)) (λ j=>CQ j (FE a)) (EP (Dd a)) BC (EQ (FE a)) (EC (Dd a)) (BI (λ j=>FF (Vw a j) (FE a) j)) (RH (EJ (FE a))) FO)))) (not (BAL (CV (FE a)) a i)) (CM (Me (λ j=>Uv a a j) (RG a) (BW i)) (Ii a) (Gt a) (Hs a) (Gx a) (Gw a) (IF (FE a) (Dd a) (λ j=>Vw a j))) (GY (λ j=>DC (And (BV (RG a)) (HQ (λ k=>Tn k (RG a) (iO a)) (GA (RG a)) (BT j i) (Ii a) (Gt a) (Hs a) (Gx a) (Gw a) (IF (FE a) (Dd a) (λ k=>Vw a k)))) (LZ j (RG a) (Ct (λ k=>Uv a a k) (RG a) (λ k=>Uv a a k) j j)) (RG a) j i))) (CM (Me (λ j=>Uv a a j) (RG a) (-1)) (Ii a) (Gt a) (Hs a) (Gx a) (Gw a) (IF (FE a) (Dd a) (λ j=>Vw a j))))) := by kernel_rfl
theorem p2Pp (a : MPp) (h : DZ (PPp a)) : V2Pp a := by
 obtain ⟨h, hp⟩ : a.l.length < 4611686018427387904 /\ a.q.c.ns.length < 1073741824 := h
 rw [CMK]<;> delta MF BU CO FM TP WF FQ FP CL AK CA DD AU BW GM FX WN KZ KB XF NR IV HC HA HZ ID IA JD GN FW FY GY FO PY BI NH AQ OE KO Qi LH iO Fm Dd AI BG DV EN GF AN BO BK CG BJ BB BY AO AM HS FZ BL BV ED NK CS GS CD IW CJ CX DM AZ IY CR CY DP EU CV DH FE BA AW HD Fs DQ GJ GG EA EI HY DG BD FS EJ FU KR BE EH ER OZ EY FR XX OO DI IE HM MN GC HI KP EF VJ DU EO GI BC XD FH LB HQ GR JG HR KU GO FI LC FT JU TL Bf LD JX IR Ac LG GD NL JH VO OT BT LV MK Vw LR OG HB BR DC DF LP IL IP IS IM JZ EL CH MX OC NF RC CM QA OF WQ Ht DB DA MM BS QQ OH CU bT EC NA JK BP uI MB EX DY WG GA FV Tn HN UR VX EP YC CF EV XS Gy DJ FF IF CQ FG RG LZ EQ Me UW Ud HO Hi NQ LI Hs Gx AHY YG RH Gw Ii BAL Gt Uv Ct Ez PF
 simp only [CC, eq_self, implies_true, forall_const]
 refine ⟨⟨0, rfl, Nat.zero_le _, rfl⟩, λ k ⟨h1, h2⟩ => ⟨λ hlt => ?_, λ hge => ?_⟩⟩
 ·have hlt : k < a.l.length := by omega
  refine ⟨⟨⟨by omega, by omega⟩, hp⟩, λ hp => ?_, λ hp => ⟨k + 1, (HH (by omega)).symm, ⟨by omega, ?_⟩, by omega⟩⟩
  ·rw [h2]; exact R2 hlt (by simpa using hp)
  ·rw [h2]; exact BBL hlt (by simpa using hp)
 ·rw [h2]; exact ANJ (by omega)
theorem CLE : AR Try.prog CAK (C2Pp.spec d2Pp) := Jp C2Pp A2Pp [] [] CKI (λ _ => by kernel_rfl) (λ _ => AC CMV AL) p2Pp (λ _ => Mi rfl rfl) _
def C3Pp : Ctr := { C2Pp with val := λ (a : MPp) => .bool (decide (lU (λ i => !OS a.q.c (gD a.l i)) a.l.length 0 >= 0)) }
def d3Pp : List AVal -> Heap -> Option (C3Pp.α × List (Nat × Nat) × List Nat) := d2Pp
def A3Pp : Ann := { ann 9 [(CAK, C2Pp.spec d2Pp)] with E := [100, 101, 102] }
def V3Pp (a : MPp) : Prop := DN Try.prog A3Pp BUE (AP BUE) (C3Pp.xs a) (AH (C3Pp.L a)) (C3Pp.val a) (C3Pp.keep a) [] []
abbrev AHC:=@HX Pr
abbrev cD a b:=AHC a (λ i=>Fm b i)
abbrev Mq a:=cD (LH a) a
abbrev Nv a:=Mq (iO a)
abbrev Et a:=DS (LH a)
abbrev ON a b c d e:=ER a b (VJ c a) d (XX c a) e
abbrev Ge a b c d e f:=ON a b c d (XX e f)
abbrev Pf a b c d e:=Ge a b c d e a
abbrev Ou a b c d:=Pf a b c (VJ d a) d
abbrev OJ a b c:=AK (λ i=>Ou i a b c)
abbrev Oi a b c:=OJ (LH a) b c
abbrev UF a b:=Oi a a b
abbrev PM a b:=CL (LH a) b
attribute [go_sem] AHC cD Mq Nv Et ON Ge Pf Ou OJ Oi UF PM
theorem CLS (a : MPp) : (V3Pp a) = (BZ (PM (Nv a) (RG a)) (CM (UF (Nv a) (iO a)) (Ii a) (Gt a) (Hs a) (Gx a) (Gw a) (PF (BR (FE a)) (λ i=>CH i (FE a)) (DF (FE a)) (λ i=>BP i (FE a)) (λ i=>LP i (Dd a)) (EV (FE a)) (Dd a) (AO (BI (λ i=>FG (FE a) i (Vw a i))) (Ii a) (Gt a) (Hs a) (Gx a) (Gw a) (DA (FE a)) (HO (FE a)) (DJ (DB (FE a)) (λ i=>CQ i (FE a)) (EP (Dd a)) BC (EQ (FE a)) (EC (Dd a)) (BI (λ i=>FF (Vw a i) (FE a) i)) (Et (Nv a)) (RH (EJ (FE a))))))) (CM (MF (WB (λ i=>Uv a a i) (RG a)) (WB (λ i=>AHY (CV (FE a)) (Nv a) i) (LH (Nv a)))) (Ii a) (Gt a) (Hs a) (Gx a) (Gw a) (IF (FE a) (Dd a) (λ i=>Vw a i)))) := by kernel_rfl
theorem CLI : AR Try.prog BVE (C3Pp.spec d3Pp) := Ctr.spec_ok (C := C3Pp) (λ (a : MPp) h => Su (A := A3Pp) (ren := []) (fz := []) CJT (by kernel_rfl) (AC CLE AL) (by
 obtain ⟨h, hp⟩ : a.l.length < 4611686018427387904 /\ a.q.c.ns.length < 1073741824 := h
 show V3Pp a; rw [CLS]<;> delta MF hd6 BU CO FM FQ FP CL AK CA DD AU IV HC HA HZ ID IA JD GN FW FY PY BI NH AQ OE KO Qi LH iO Fm Dd AHC AI BG DV EN GF AN BO BK CG BJ BB BY AO AM HS FZ BL BV ED NK CS GS CD IW CJ CX DM AZ CR CY DP EU CV DH FE BA AW HD Fs DQ GJ EA EI HY DG BD FS EJ FU BE EH ER OZ XX OO BZ HM MN GC HI KP EF VJ EO GI DS BC XD FH GR JG HR KU GO FI LC FT JU TL Bf cD LD JX IR Ac LG GD NL JH VO MK Vw LR OG BR DF Mq LP IL IP IS IM JZ EL CH MX OC NF RC CM QA WQ Ht DB DA MM ON BS QQ OH Ge EC NA Pf JK BP MB WG FV Ou HN UR OJ VX EP YC EV XS Gy DJ FF PM IF CQ FG RG EQ HO Oi UF Lt WB Hs Gx AHY Nv Et RH Gw Ii BAL Gt Uv Ez PF; simp [h, hp, Cq, EB])) _
def d4Pp : List AVal -> Heap -> Option (MPp × List (Nat × Nat) × List Nat)
 | [y, .fn _ [.bptr j _] _], H => match dRow y H with
  | some (n, g, f) => match AGR H j with
   | some (q, m) => some (⟨q, HX n λ i => dPr (g i)⟩, [(101, j), (102, m)], f)
   | none => none
  | none => none
 | _, _ => none
def A4Pp : Ann := { ann 9 [(BVE, C3Pp.spec d3Pp)] with E := [101, 102] }
def C4Pp : Ctr := { ro := [101, 102], α := MPp, xs := λ a => [.d (Wt a.l), fvPp a.q], L := λ a => LXPp a.q, val := λ a => .bool (a.l.all λ x => OS a.q.c x), keep := λ a => KXPp a.q, pre := PPp }
def V4Pp (a : MPp) : Prop := DN Try.prog A4Pp F_eP (AP F_eP) (C4Pp.xs a) (AH (C4Pp.L a)) (C4Pp.val a) (C4Pp.keep a) [] []
theorem CMB (a : MPp) : (V4Pp a) = (BZ (PM (Nv a) (RG a)) (CM (UF (Nv a) (iO a)) (Ii a) (Gt a) (Hs a) (Gx a) (Gw a) (PF (BR (FE a)) (λ i=>CH i (FE a)) (DF (FE a)) (λ i=>BP i (FE a)) (λ i=>LP i (Dd a)) (EV (FE a)) (Dd a) (AO (BI (λ i=>FG (FE a) i (Vw a i))) (Ii a) (Gt a) (Hs a) (Gx a) (Gw a) (DA (FE a)) (HO (FE a)) (DJ (DB (FE a)) (λ i=>CQ i (FE a)) (EP (Dd a)) BC (EQ (FE a)) (EC (Dd a)) (BI (λ i=>FF (Vw a i) (FE a) i)) (Et (Nv a)) (RH (EJ (FE a))))))) (CM (MF ((@List.all Pr) (iO a) (λ i=>Qi (FE a) i)) (not (WB (λ i=>AHY (CV (FE a)) (Nv a) i) (LH (Nv a))))) (Ii a) (Gt a) (Hs a) (Gx a) (Gw a) (IF (FE a) (Dd a) (λ i=>Vw a i)))) := by kernel_rfl
theorem COB (a : MPp) (h : DZ (PPp a)) : FnT Try.prog n_eP (C4Pp.xs a) (AH (C4Pp.L a)) (C4Pp.val a) (C4Pp.keep a) := Su (A := A4Pp) (ren := []) (fz := []) COC (by kernel_rfl) (AC CLI AL) (by
 have h' : a.l.length < 4611686018427387904 /\ a.q.c.ns.length < 1073741824 := h
 show V4Pp a; rw [CMB]<;> delta MF hd6 BU CO FM FQ FP CL AK CA DD AU IV HC HA HZ ID IA JD GN FW FY PY BI NH AQ OE KO Qi LH iO Fm Dd AHC AI BG DV EN GF AN BO BK CG BJ BB BY AO AM HS FZ BL BV ED NK CS GS CD IW CJ CX DM AZ CR CY DP EU CV DH FE BA AW HD Fs DQ GJ EA EI HY DG BD FS EJ FU BE EH ER OZ XX OO BZ HM MN GC HI KP EF VJ EO GI DS BC XD FH GR JG HR KU GO FI LC FT JU TL Bf cD LD JX IR Ac LG GD NL JH VO MK Vw LR OG BR DF Mq LP IL IP IS IM JZ EL CH MX OC NF RC CM QA WQ Ht DB DA MM ON BS QQ OH Ge EC NA Pf JK BP MB WG FV Ou HN UR OJ VX EP YC EV XS Gy DJ FF PM IF CQ FG RG EQ HO Oi UF Lt WB Hs Gx AHY Nv Et RH Gw Ii Gt Ez PF; simp only [CC, eq_self, implies_true, forall_const, ge_iff_le]
 rw [<- AEF]
 exact ⟨h', rfl⟩)
theorem CFC : AR Try.prog n_eP (C4Pp.spec d4Pp) := Ctr.spec_ok (C := C4Pp) COB _
end Go.Bal
