/- Package chart: every pair. Printed by gench2.py. -/
import Derived.Test.YtdbjalgfomknhaaGreatChG1
set_option linter.unusedVariables false
set_option linter.unusedSimpArgs false
namespace Go.Bal
open Go Go.Sym Go.Proofs
def LXPp (q : Dk) : List (Nat × AObj) := [(101, dkB q 102), (102, dkM q)]
def KXPp (q : Dk) : List (Nat × HCell) := [(101, .live (dkB q 102)), (102, .live (dkM q))]
def fvPp (q : Dk) : AVal := .fn (.func ACF) [.bptr 101 0] []
def BPp (q : Dk) : AObj := .box [fvPp q]
structure EPp where
 q : Dk
 e : Pr
structure MPp where
 q : Dk
 l : List Pr
def C1Pp : Ctr := { ro := [100, 101, 102], α := EPp, xs := λ a => [.d (ePr a.e), .bptr 100 0], L := λ a => (100, BPp a.q) :: LXPp a.q, val := λ a => .bool (!PD a.q.c a.e), keep := λ a => (100, .live (BPp a.q)) :: KXPp a.q, pre := λ a => [a.q.c.ns.length < 1073741824 /\ True] }
def d1Pp : List AVal -> Heap -> Option (EPp × List (Nat × Nat) × List Nat)
 | [.d d, .bptr id _], H => match H id with
  | .live (.box [.fn _ [.bptr j _] _]) => match rH H j with
   | some (q, m) => some (⟨q, dPr d⟩, [(100, id), (101, j), (102, m)], [])
   | none => none
  | _ => none
 | _, _ => none
def A1Pp : Ann := { ann 8 [(ACF, C_pair.spec dDkP)] with E := [100, 101, 102] }
def V1Pp (a : EPp) : Prop := CF Try.prog A1Pp BGZ (AH BGZ) (C1Pp.xs a) (AB (C1Pp.L a)) (C1Pp.val a) (C1Pp.keep a) [] []
abbrev W3:=EPp.q
abbrev QO a:=AP (W3 a)
abbrev Ma a:=MJ (FD a)
attribute [go_sem] W3 QO Ma
theorem BZH (a : EPp) : (V1Pp a) = (BC (AE (QW (EPp.e a))) (DT (AE (QS (EPp.e a))) (AJ (QO a)) (AL (QO a)) (AM (QO a)) (AN (QO a)) (AQ (QO a)) (MP (BP (QO a)) (λ i=>BH i (QO a)) (BN (QO a)) (λ i=>BG i (QO a)) (IY (W3 a)) BQ (λ i=>LU (QO a) i) (GT (W3 a)) (AR (FM (QO a)) (AJ (QO a)) (AL (QO a)) (AM (QO a)) (AN (QO a)) (AQ (QO a)) (FI (QO a)) (IA (QO a)) (JY (FJ (QO a)) (λ i=>CQ i (QO a)) (IY (W3 a)) (HP (QO a)) (GT (W3 a)) (λ i=>LN (QO a) i) (Ma (QO a)) FL)))) (DT (JH (not (Ht (QO a) (EPp.e a))) (not (Ht (CU (QO a)) (EPp.e a)))) (AJ (QO a)) (AL (QO a)) (AM (QO a)) (AN (QO a)) (AQ (QO a)) (LR (QO a) (W3 a)))) := by kernel_rfl
theorem BZB : AK Try.prog ARO (C1Pp.spec d1Pp) := VV C1Pp (λ _ => A1Pp) [] [] BXJ (λ _ => by kernel_rfl) (λ _ => AA BAU AC) (λ (a : EPp) h => by
 have h : a.q.c.ns.length < 1073741824 := (show a.q.c.ns.length < 1073741824 /\ True from h).1
 show V1Pp a; rw [BZH]<;> delta JH BI BF EN EB EA BY AF CN CO AS ET GW FK HV IB HK GV FU HC DV FW EY LD FL QU EK OK AP LI QW QS Ht W3 AD CI AU FT GN AG GK AZ AX AE FA BM GQ AW JP BL BD AO AR DD BA BK II NC JQ BO BJ CX BW BV AJ AQ NU JD AV EH FC NH CK AN AL LH JE JO HG FX FQ FO MR AM IV FD Db HE ID DR ES OX BC PI IW HS DX JA CW EZ BQ Kq XE EV WP CU PX FH HQ EW DU Fa GT FZ GI BN NB GA GC EO HD VM IY QO PQ MP Ff Bw IS ND MC NM Hp PO DT BP FJ FI EI OE BH BG IP PR VZ YM YJ LU HY ZQ ZY MJ XZ CQ GD NE HP YB TA XT IA LR ZW FM LN JY Ma; simp [wr, WA, h, CL]) (λ _ => WY rfl rfl) _
def d2Pp : List AVal -> Heap -> Option (MPp × List (Nat × Nat) × List Nat)
 | [y, .fn _ _ [.bptr id _]], H => match xU y H with
  | some (n, g, f) => match H id with
   | .live (.box [.fn _ [.bptr j _] _]) => match rH H j with
    | some (q, m) => some (⟨q, ME n λ i => dPr (g i)⟩, [(100, id), (101, j), (102, m)], f)
    | none => none
   | _ => none
  | none => none
 | _, _ => none
def A2Pp (a : MPp) : Ann := { ann 19 [(ARO, C1Pp.spec d1Pp)] with E := [100, 101, 102], loops := λ id => if id = 2 then some [{ α := Nat, dflt := 0, T := λ k => ⟨[(0, .d (Kw a.l)), (1, .fn (.func ARO) [] [.bptr 100 0]), (7, .int a.l.length), (8, .int k)], (100, .live (BPp a.q)) :: KXPp a.q⟩, inv := λ k => k <= a.l.length /\ aN (λ i => !PD a.q.c (gD a.l i)) a.l.length 0 = aN (λ i => !PD a.q.c (gD a.l i)) (a.l.length - k) k, meas := λ k => a.l.length - k }] else none }
def PPp (a : MPp) : List Prop := [a.l.length < 4611686018427387904 /\ a.q.c.ns.length < 1073741824]
def C2Pp : Ctr := { ro := [100, 101, 102], α := MPp, xs := λ a => [.d (Kw a.l), .fn (.func ARO) [] [.bptr 100 0]], L := λ a => (100, BPp a.q) :: LXPp a.q, val := λ a => .int (aN (λ i => !PD a.q.c (gD a.l i)) a.l.length 0), keep := λ a => (100, .live (BPp a.q)) :: KXPp a.q, pre := PPp }
def V2Pp (a : MPp) : Prop := CF Try.prog (A2Pp a) BHU (AH BHU) (C2Pp.xs a) (AB (C2Pp.L a)) (C2Pp.val a) (C2Pp.keep a) [] []
abbrev IE:=@List.length Pr
abbrev Sc:=MPp.l
abbrev Xg:=@gD Pr instInhabitedPr
abbrev bB:=MPp.q
abbrev GJ a:=AP (bB a)
abbrev Ob a:=AQ (GJ a)
abbrev Nb a:=AN (GJ a)
abbrev Mt a:=AM (GJ a)
abbrev Mp a:=AL (GJ a)
abbrev Ls a:=AJ (GJ a)
abbrev RF a:=IE (Sc a)
abbrev sP a b c:=Ht a (Xg b c)
abbrev AFO a b c:=sP a (Sc b) c
abbrev Rn a b c:=AFO (GJ a) b c
abbrev Zs a b c d:=BA a b (AE c) d
abbrev Lf a b:=QS (Xg a b)
abbrev L9 a b:=AE (Lf a b)
abbrev Iw a b c d e:=Zs a b c (L9 d e)
abbrev VP a b:=QW (Xg a b)
abbrev aA a:=GT (bB a)
abbrev Zb a:=IY (bB a)
attribute [go_sem] IE Sc Xg bB GJ Ob Nb Mt Mp Ls RF sP AFO Rn Zs Lf L9 Iw VP aA Zb
theorem CCC (a : MPp) : (V2Pp a) = (FV (λ i=>CE (BM (RF a)) (UY (AF (λ j=>Iw j (RF a) (VP (Sc a) j) (Sc a) j)) (FS (RF a)) (BZ i) (GJ a) (bB a)) (EU i (RF a)) (Ar (λ j=>Rn a a j) (RF a) (λ j=>Rn a a j) i i)) (λ i=>OS (IH i (RF a) (Ar (λ j=>Rn a a j) (RF a) (λ j=>Rn a a j) i i)) i (RF a) (UR (HF (BE i) (RF a)) (AE (VP (Sc a) i)) (L9 (Sc a) i) (GJ a) (MP (BP (GJ a)) (λ j=>BH j (GJ a)) (BN (GJ a)) (λ j=>BG j (GJ a)) (Zb a) BQ (λ j=>LU (GJ a) j) (aA a) (AR (FM (GJ a)) (Ls a) (Mp a) (Mt a) (Nb a) (Ob a) (FI (GJ a)) (IA (GJ a)) (JY (FJ (GJ a)) (λ j=>CQ j (GJ a)) (Zb a) (HP (GJ a)) (aA a) (λ j=>LN (GJ a) j) (Ma (GJ a)) FL)))) (NG (not (AFO (CU (GJ a)) a i)) (DT (Ke (λ j=>Rn a a j) (RF a) (BE i)) (Ls a) (Mp a) (Mt a) (Nb a) (Ob a) (LR (GJ a) (bB a))) (λ j=>GM (BM (RF a)) (UY (AF (λ k=>Iw k (RF a) (VP (Sc a) k) (Sc a) k)) (FS (RF a)) (BR j i) (GJ a) (bB a)) (IH j (RF a) (Ar (λ k=>Rn a a k) (RF a) (λ k=>Rn a a k) j j)) (RF a) j i)) (DT (Ke (λ j=>Rn a a j) (RF a) (-1)) (Ls a) (Mp a) (Mt a) (Nb a) (Ob a) (LR (GJ a) (bB a))))) := by kernel_rfl
theorem p2Pp (a : MPp) (h : EM (PPp a)) : V2Pp a := by
 obtain ⟨h, hp⟩ : a.l.length < 4611686018427387904 /\ a.q.c.ns.length < 1073741824 := h
 rw [CCC]<;> delta JH BI BF EN MM ON EB EA BY AF CN CO AS BE EU EC JL FY MN NT LS ET GW FK HV IB HK GV FU HC DV FW EY LD HA FL QU EK OK AP LI QW QS Ht IE Sc Xg bB AD CI AU FT GN AG GK AZ AX AE FA BM GQ AW JP BL BD AO AR DD BA BK II NC JQ BO BJ CX HI BW BV AJ AQ NU JD AV EH FC NH CK GJ AN AL LH GH JE JO HG FX FQ FO MR AM IV FD Db HE DK ID DR ES BX DO OX PI IW HS DX HH JA CE CW EZ BQ Kq XE EV WP CU PX FH HQ DZ EW DU JB ED Fa BR GT FZ GI BN NB GA GC EO HD VM PF Lf LG IY FS IH VP SX PQ MP Ff Bw IS ND MC NM Hp PO Uw DT QV HF BP MQ FJ FI EI OE BH BG IP PR VZ HZ IR BZ YM YJ LU HY GM ZQ Fs ZY MJ FV XZ CQ GD NE HP YB RF TA XT JF Ke IA LR ZW My FM Po LN NG UR Zs sP L9 Mt JY AFO UY Mp OS Nb Ob Ar Ls Rn Iw Ma Zb aA
 simp only [CC, eq_self, implies_true, forall_const]
 refine ⟨⟨0, rfl, Nat.zero_le _, rfl⟩, λ k ⟨h1, h2⟩ => ⟨λ hlt => ?_, λ hge => ?_⟩⟩
 ·have hlt : k < a.l.length := by omega
  refine ⟨⟨⟨by omega, by omega⟩, hp⟩, λ hp => ?_, λ hp => ⟨k + 1, (HL (by omega)).symm, ⟨by omega, ?_⟩, by omega⟩⟩
  ·rw [h2]; exact jI hlt (by simpa using hp)
  ·rw [h2]; exact ADT hlt (by simpa using hp)
 ·rw [h2]; exact wD (by omega)
theorem CBQ : AK Try.prog BIR (C2Pp.spec d2Pp) := VV C2Pp A2Pp [] [] BVC (λ _ => by kernel_rfl) (λ _ => AA BZB AC) p2Pp (λ _ => WY rfl rfl) _
def C3Pp : Ctr := { C2Pp with val := λ (a : MPp) => .bool (decide (aN (λ i => !PD a.q.c (gD a.l i)) a.l.length 0 >= 0)) }
def d3Pp : List AVal -> Heap -> Option (C3Pp.α × List (Nat × Nat) × List Nat) := d2Pp
def A3Pp : Ann := { ann 9 [(BIR, C2Pp.spec d2Pp)] with E := [100, 101, 102] }
def V3Pp (a : MPp) : Prop := CF Try.prog A3Pp BHC (AH BHC) (C3Pp.xs a) (AB (C3Pp.L a)) (C3Pp.val a) (C3Pp.keep a) [] []
abbrev AJQ a (b:Nat->Pr):=(@ME Pr) (IE a) b
abbrev X6 a:=AJQ a (λ i=>Xg a i)
abbrev Zl a:=X6 (Sc a)
abbrev fA a:=IE (Zl a)
abbrev Ao a b c d e:=EW a b (VP c a) d (Lf c a) e
abbrev Qs a b c d e f g:=Ao a b c (VP d e) (Lf f g)
abbrev QX a b c d e f:=Qs a b c d e d f
abbrev RQ a b:=BY (IE a) b
attribute [go_sem] AJQ X6 Zl fA Ao Qs QX RQ
theorem CCA (a : MPp) : (V3Pp a) = (BC (RQ (Zl a) (RF a)) (DT (AF (λ i=>QX i (fA a) (Zl a) (Sc a) i i)) (Ls a) (Mp a) (Mt a) (Nb a) (Ob a) (MP (BP (GJ a)) (λ i=>BH i (GJ a)) (BN (GJ a)) (λ i=>BG i (GJ a)) (Zb a) BQ (λ i=>LU (GJ a) i) (aA a) (AR (FM (GJ a)) (Ls a) (Mp a) (Mt a) (Nb a) (Ob a) (FI (GJ a)) (IA (GJ a)) (JY (FJ (GJ a)) (λ i=>CQ i (GJ a)) (Zb a) (HP (GJ a)) (aA a) (λ i=>LN (GJ a) i) (EQ (fA a)) (Ma (GJ a)))))) (DT (JH (UK (λ i=>Rn a a i) (RF a)) (UK (λ i=>sP (CU (GJ a)) (Zl a) i) (fA a))) (Ls a) (Mp a) (Mt a) (Nb a) (Ob a) (LR (GJ a) (bB a)))) := by kernel_rfl
theorem BYU : AK Try.prog BEP (C3Pp.spec d3Pp) := Ctr.spec_ok (C := C3Pp) (λ (a : MPp) h => Pn (A := A3Pp) (ren := []) (fz := []) BUX (by kernel_rfl) (AA CBQ AC) (by
 obtain ⟨h, hp⟩ : a.l.length < 4611686018427387904 /\ a.q.c.ns.length < 1073741824 := h
 show V3Pp a; rw [CCA]<;> delta JH jA BI BF EN EB EA BY AF CN CO AS ET GW FK HV IB HK GV FU HC DV FW EY LD QU EK OK AP LI QW QS Ht IE Sc Xg bB AD CI AU FT GN AG GK AZ AX AE FA BM GQ AW JP BL BD AO AR DD BA BK II NC JQ BO BJ CX BW BV AJ AQ NU JD AV EH FC NH CK GJ AN AL LH JE JO HG FX FQ FO MR AM IV FD Db HE AJQ ID DR ES OX BC PI IW HS DX JA CW EZ BQ Kq XE EV WP EQ CU PX FH HQ EW DU Fa GT X6 FZ GI BN NB GA GC EO HD VM Lf IY VP PQ MP Ff Bw IS ND MC NM Hp PO Uw DT BP FJ FI EI OE BH BG IP PR VZ YM YJ LU HY ZQ Fs ZY MJ XZ CQ GD NE RQ HP YB RF Ao TA XT IA LR ZW FM Qs QX LN Es Zl UK sP Mt JY AFO Mp Nb Ob Ls Rn Ma Zb fA aA; simp [h, hp, WA, CL])) _
def d4Pp : List AVal -> Heap -> Option (MPp × List (Nat × Nat) × List Nat)
 | [y, .fn _ [.bptr j _] _], H => match xU y H with
  | some (n, g, f) => match rH H j with
   | some (q, m) => some (⟨q, ME n λ i => dPr (g i)⟩, [(101, j), (102, m)], f)
   | none => none
  | none => none
 | _, _ => none
def A4Pp : Ann := { ann 9 [(BEP, C3Pp.spec d3Pp)] with E := [101, 102] }
def C4Pp : Ctr := { ro := [101, 102], α := MPp, xs := λ a => [.d (Kw a.l), fvPp a.q], L := λ a => LXPp a.q, val := λ a => .bool (a.l.all λ x => PD a.q.c x), keep := λ a => KXPp a.q, pre := PPp }
def V4Pp (a : MPp) : Prop := CF Try.prog A4Pp F_eP (AH F_eP) (C4Pp.xs a) (AB (C4Pp.L a)) (C4Pp.val a) (C4Pp.keep a) [] []
theorem BZV (a : MPp) : (V4Pp a) = (BC (RQ (Zl a) (RF a)) (DT (AF (λ i=>QX i (fA a) (Zl a) (Sc a) i i)) (Ls a) (Mp a) (Mt a) (Nb a) (Ob a) (MP (BP (GJ a)) (λ i=>BH i (GJ a)) (BN (GJ a)) (λ i=>BG i (GJ a)) (Zb a) BQ (λ i=>LU (GJ a) i) (aA a) (AR (FM (GJ a)) (Ls a) (Mp a) (Mt a) (Nb a) (Ob a) (FI (GJ a)) (IA (GJ a)) (JY (FJ (GJ a)) (λ i=>CQ i (GJ a)) (Zb a) (HP (GJ a)) (aA a) (λ i=>LN (GJ a) i) (EQ (fA a)) (Ma (GJ a)))))) (DT (JH ((@List.all Pr) (Sc a) (λ i=>Ht (GJ a) i)) (not (UK (λ i=>sP (CU (GJ a)) (Zl a) i) (fA a)))) (Ls a) (Mp a) (Mt a) (Nb a) (Ob a) (LR (GJ a) (bB a)))) := by kernel_rfl
theorem CAT (a : MPp) (h : EM (PPp a)) : FnT Try.prog n_eP (C4Pp.xs a) (AB (C4Pp.L a)) (C4Pp.val a) (C4Pp.keep a) := Pn (A := A4Pp) (ren := []) (fz := []) BZO (by kernel_rfl) (AA BYU AC) (by
 have h' : a.l.length < 4611686018427387904 /\ a.q.c.ns.length < 1073741824 := h
 show V4Pp a; rw [BZV]<;> delta JH jA BI BF EN EB EA BY AF CN CO AS ET GW FK HV IB HK GV FU HC DV FW EY LD QU EK OK AP LI QW QS Ht IE Sc Xg bB AD CI AU FT GN AG GK AZ AX AE FA BM GQ AW JP BL BD AO AR DD BA BK II NC JQ BO BJ CX BW BV AJ AQ NU JD AV EH FC NH CK GJ AN AL LH JE JO HG FX FQ FO MR AM IV FD Db HE AJQ ID DR ES OX BC PI IW HS DX JA CW EZ BQ Kq XE EV WP EQ CU PX FH HQ EW DU Fa GT X6 FZ GI BN NB GA GC EO HD VM Lf IY VP PQ MP Ff Bw IS ND MC NM Hp PO Uw DT BP FJ FI EI OE BH BG IP PR VZ YM YJ LU HY ZQ Fs ZY MJ XZ CQ GD NE RQ HP YB RF Ao TA XT IA LR ZW FM Qs QX LN Es Zl UK sP Mt JY Mp Nb Ob Ls Ma Zb fA aA; simp only [CC, eq_self, implies_true, forall_const, ge_iff_le]
 rw [<- pY]
 exact ⟨h', rfl⟩)
theorem CBI : AK Try.prog n_eP (C4Pp.spec d4Pp) := Ctr.spec_ok (C := C4Pp) CAT _
end Go.Bal
