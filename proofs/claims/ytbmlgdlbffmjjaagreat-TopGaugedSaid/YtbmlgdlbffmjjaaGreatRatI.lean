/- Package rating: bounds of a flow. -/
import Derived.Test.YtbmlgdlbffmjjaaGreatRatH
set_option linter.unusedVariables false
set_option linter.unusedSimpArgs false
namespace Go.Bal
open Go Go.Sym Go.Proofs
def bndM(l:List Ln)(t:Int):Bnd:=bif decide (l.length=0) then default else⟨MB (dK ltR t l) t,MB (dK gtR t l) t⟩
def dBkt:List AVal->Heap->Option (BkT×List (Nat×Nat)×List Nat)
 |[.bptr id _,.d t],H=>match BFI H id with
  |some (w,q)=>some (⟨w,LO t⟩,[(100,id),(101,q)],[])
  |none=>none
 |_,_=>none
def C_bnd:Ctr:={ ro:=[100],α:=BkT,xs:=λa=>[.bptr 100 0,.int a.st],L:=λa=>bkL a.w,val:=λa=>.tup [.d (eBnd (bndM (lB a) a.st)),.bool (decide ((lB a).length≠0))],keep:=λa=>bkK (N9 a.w (kB a)),pre:=λa=>[gJ a.w.g a.w.b/\0<=a.st/\a.st<=2000] }
def CJD:Ann:={ ann 36 [(BEJ,C_less.spec d0),(BAA,C_more.spec d0),(APX,orS ((Oj ltR Ex).spec (dBkT Ex)) ((Oj gtR Fc).spec (dBkT Fc))),(ACU,BAL)] with E:=[100,101] }
def CKR(a:BkT):Prop:=AX Try.prog CJD AJB (AF AJB) (C_bnd.xs a) (AC (C_bnd.L a)) (C_bnd.val a) (C_bnd.keep a) [] []
abbrev BGW a b:=BkT.mk a (Rx b)
abbrev zT a:=BGW (ZR a) a
abbrev Jt a b:=gS (ZR a) (zT b)
abbrev jG a:=ANR a a (Jt a a)
abbrev W6 a:=BGW (jG a) a
abbrev VM a:=gS (jG a) (W6 a)
abbrev uT a b:=bndM (lB a) b
abbrev lA a b:=uT a (Rx b)
attribute [go_sem] BGW zT Jt jG W6 VM uT lA
theorem CLK(a:BkT):(CKR a)=(AG (RY (Jg a) (Fy (YV a) (IT a)) (λi=>DZ i (YV a) (Dj a i) (Ej a i) (Ek a i)) (AI (Il (VR a) a) (Ik (VR a) a) EO (dR (IT a)) (AS (Hg (IT a)) (DJ (λi=>PW (RU (ZR a) i) (IT a) i (λj=>ME j (RU (ZR a) i) (QB (IU (ZR a) i j) (IT a) i j) (IU (ZR a) i j) (IU (IT a) i j) (FY (ZR a) i j) (FY (IT a) i j) (GE (ZR a) i j) (GE (IT a) i j)))) (OK (IT a) (Jt a a)) (AE (λi=>KZ i (IT a) (Dj a i) (NK (Jt a a) i) (Ej a i) (NO (Jt a a) i) (Ek a i) (NH (Jt a a) i))) (Jq (gB a) (Jt a a)) (Ic (gB a) (Jt a a)) (AI (Qx (YV a)) (SX (λi=>RA i (YV a) i i i i)) (Kq (kQ a)) (Gm ER (VR a)) (DJ (λi=>TL (Rb i (VR a)) (Dt i) (HJ i)))) (dN a) (fU a)))) (RY (Jg a) (Fy (YV a) (IT a)) (λi=>DZ i (YV a) (Dj a i) (Ej a i) (Ek a i)) (AI (Il (VR a) a) (Ik (VR a) a) EO (dR (Jt a a)) (AS (Hg (Jt a a)) (DJ (λi=>PW (RU (jG a) i) (Jt a a) i (λj=>ME j (RU (jG a) i) (QB (IU (jG a) i j) (Jt a a) i j) (IU (jG a) i j) (IU (Jt a a) i j) (FY (jG a) i j) (FY (Jt a a) i j) (GE (jG a) i j) (GE (Jt a a) i j)))) (OK (IT a) (VM a)) (AE (λi=>KZ i (IT a) (Dj a i) (NK (VM a) i) (Ej a i) (NO (VM a) i) (Ek a i) (NH (VM a) i))) (Jq (gB a) (VM a)) (Ic (gB a) (VM a)) (AI (Qx (YV a)) (SX (λi=>RA i (YV a) i i i i)) (Kq (kQ a)) (Gm ER (VR a)) (DJ (λi=>TL (Rb i (VR a)) (Dt i) (HJ i)))) (dN a) (fU a)))) (FA (not (Sy (zT a))) (OD (CP (OI (lA a a))) (NG (lA a a)) 0 (OQ (lA a a)) 0 (CP (NA (lA a a))) (WS (Dz (Sy a)) (OK (CX a) (IT a)) (λi=>KZ i (CX a) (NK (CX a) i) (Dj a i) (NO (CX a) i) (Ej a i) (NH (CX a) i) (Ek a i)) (Il (Eg a) a) (Ik (Eg a) a) (DJ (λi=>Ix (CX a) i (De (VM a) i))) (DJ (λi=>YJ (CX a) i (VM a) i)) (λi=>PW (OF a i) (VM a) i (λj=>ME j (OF a i) (QB (VB a i j) (VM a) i j) (VB a i j) (IU (VM a) i j) (FY (CX a) i j) (FY (VM a) i j) (GE (CX a) i j) (GE (VM a) i j))))) (AV (AI (LU (Nv (zT a) a)) (WF (Rx a)) (LU (Qa (W6 a) a)) (dN a) (fU a)) (AK (OI (lA a a)) (Gg (aH (Nv (zT a) a) a))) (AK (NG (lA a a)) (Dw (aH (Nv (zT a) a) a))) (AK (OQ (lA a a)) (Gg (aH (Qa (W6 a) a) a))) (AK (NA (lA a a)) (Dw (aH (Qa (W6 a) a) a))) (WS (GI (Sy a)) (OK (CX a) (IT a)) (λi=>KZ i (CX a) (NK (CX a) i) (Dj a i) (NO (CX a) i) (Ej a i) (NH (CX a) i) (Ek a i)) (Il (Eg a) a) (Ik (Eg a) a) (DJ (λi=>Ix (CX a) i (De (VM a) i))) (DJ (λi=>YJ (CX a) i (VM a) i)) (λi=>PW (OF a i) (VM a) i (λj=>ME j (OF a i) (QB (VB a i j) (VM a) i j) (VB a i j) (IU (VM a) i j) (FY (CX a) i j) (FY (VM a) i j) (GE (CX a) i j) (GE (VM a) i j))))))):=by kernel_rfl
theorem BMH(w:Bk)(k:Int):N9 (N9 w k) k=N9 w k:=ALJ (by show QH w.has k k=true;simp[QH])
theorem BIE(a:BkT):BkT.mk a.w a.st=a:=rfl
theorem BFO(w:Bk)(k:Int):Bk.mk w.g w.b (N9 w k).has (N9 w k).st=N9 w k:=rfl
theorem CJS(w:Bk)(k:Int):(N9 w k).g=w.g:=rfl
theorem CIV(w:Bk)(k:Int):(N9 w k).b=w.b:=rfl
theorem CRE(a:BkT)(k:Int):kB ⟨N9 a.w k,a.st⟩=kB a:=rfl
theorem CRD(a:BkT)(k:Int):lB ⟨N9 a.w k,a.st⟩=lB a:=rfl
theorem CRP(a:BkT)(h:gJ a.w.g a.w.b)(h2:0<=a.st/\a.st<=2000):CKR a:=by
 rw[CLK]<;> delta LI UD KA LX JZ LQ HV GZ JJ HU FA AK AN FI AE BA BM IR CW DC ER Ff Gg Dw mZ mU BP GU SX HR LF ZU Gm Fw Fe Ro DJ De Pz Rb IT Rx AG AI AO AJ DR Ri VY QG Dd gB IU AS EL gQ DW IF VR F4 BF gS HB RU DF J1 JG DK HA AQ JH BGW JK CX KD ANR EA ML FB CI OT XJ GI NQ UH GM AV FH RO ZR dR EO HQ BK IY HJ Hg KE RB zT HZ DZ Jt FG UC Sr jG BR OD Bf UZ Ch XB GE ME FY VC W6 KG CP Fy PC Eg OF Iy T5 TL NH NO NA Dz NK NG OQ OK VM OI KZ VB QY PW QB YV Ek LU Ej cI Dj Jg Kq RY Ik uT Il WF RA YJ Ix Ic Jq Qa Nv Dt lA aH Qx WS fU Sy dN kQ;simp only[CC,CU,V4,BFO,CJS,CIV,BIE,CRE,CRD,BMH,if_true]
 obtain⟨_,hok⟩:=BZV h
 unfold bndM
 refine⟨⟨h,h2⟩,⟨h,h2⟩,λhc=>?_,λhc=>?_⟩
 ·rw[decide_eq_true (show (lB a).length=0 by omega)]
  exact⟨rfl,rfl,rfl,rfl,hc⟩
 ·rw[decide_eq_false hc]
  have hb:∀lt,PT (dK lt a.st (lB a)):=λlt=>Q8 ▸ AEY hok (by omega)
  exact⟨⟨hb _,h2,hb _,h2⟩,rfl,rfl,rfl,rfl,hc⟩
theorem BAT:AH Try.prog uC (C_bnd.spec dBkt):=PU C_bnd (λ_=>CJD) [] [] BLM (λ_=>by kernel_rfl) (λ_=>AA CGG (AA CBU (AA (BSV BTG BUE) (AA API AD)))) (λ(a:BkT) h=>by
 have h:gJ a.w.g a.w.b/\0<=a.st/\a.st<=2000:=h
 exact CRP a h.1 h.2) (λ_=>RR rfl rfl) _
end Go.Bal

namespace Go.Bal
open Go Go.Sym Go.Proofs
structure GBt where
 g:List Gau
 b:List Int
 t:Int
def dGBt:List AVal->Heap->Option (GBt×List (Nat×Nat)×List Nat)
 |[x,y,.d t],H=>match AHL x H,F6 y H with
  |some (l,f),some (m,e)=>some (⟨l,m,LO t⟩,[],f ++ e)
  |_,_=>none
 |_,_=>none
def xGBt(a:GBt):List AVal:=[.d (KB a.g),.d (II a.b),.int a.t]
def T8(a:GBt):GB:=⟨a.g,a.b⟩
def inT(a:GBt):Bool:=MN a.t 0 2000
def preT(a:GBt):Prop:=a.g.length<4611686018427387904/\a.b.length<4611686018427387904
def C_stg:Ctr:={ α:=GBt,xs:=xGBt,L:=λ_=>[],val:=λ_=>.tup [.bptr 0 0,.int 0],keep:=λa=>[(0,.live (bkB (Ce (T8 a)) 1)),(1,.live (bkM (Ce (T8 a))))],pre:=λa=>[preT a/\RS (T8 a)=0/\inT a=true] }
def C_stgA:Ctr:={ α:=GBt,xs:=xGBt,L:=λ_=>[],val:=λ_=>.tup [.bptr 0 0,.int 4],keep:=λa=>[(0,.live (bkB (Ce (T8 a)) 1)),(1,.live (bkM (Ce (T8 a))))],pre:=λa=>[preT a/\RS (T8 a)=0/\inT a=false] }
def C_stgX:Ctr:={ α:=GBt,xs:=xGBt,L:=λ_=>[],val:=λa=>.tup [.d (.v (.pointer none)),.int (RS (T8 a))],keep:=λ_=>[],pre:=λa=>[preT a/\RS (T8 a)≠0] }
def BHH:Ann:=ann 25 [(uF,C_open.spec dGB),(n_in,Fh)]
def BTF:Ann:=ann 25 [(uF,C_openX.spec dGB),(n_in,Fh)]
def CHE(a:GBt):Prop:=AX Try.prog BHH cZ (AF cZ) (xGBt a) (AC []) (C_stg.val a) (C_stg.keep a) [(0,2032),(1,2033)] []
abbrev Vy:=GBt.g
abbrev Vu:=GBt.b
abbrev My:=GBt.t
abbrev Gs a:=EL (Vu a)
abbrev Gn a:=BB (Vy a)
abbrev kE a b:=GB.mk (Gn a) (Gs b)
abbrev EG a:=Dc (kE a a)
abbrev MX a:=Dc (T8 a)
abbrev bP a b c:=IU (MX a) b c
abbrev cC a b:=RU (MX a) b
abbrev cU a:=Fe (MX a)
attribute [go_sem] Vy Vu My Gs Gn kE EG MX bP cC cU
theorem CPG(a:GBt):(CHE a)=(GV (FJ (CI (Gn a) (Vy a)) (BU (Gn a) (Vy a)) (BK (Gs a) (Vu a)) (BR (Gs a) (Vu a)) (OP (Gn a)) (HP (FI (Gs a))) (CP (eK (kE a a)))) (BZ (QI 0) (not (FC (My a) 2000))) (WS (TY 0 4) (OK (MX a) (EG a)) (λi=>KZ i (MX a) (NK (MX a) i) (NK (EG a) i) (NO (MX a) i) (NO (EG a) i) (NH (MX a) i) (NH (EG a) i)) (Jq (cU a) (EG a)) (Ic (cU a) (EG a)) Xy (DJ (λi=>YJ (MX a) i (EG a) i)) (λi=>PW (cC a i) (EG a) i (λj=>ME j (cC a i) (QB (bP a i j) (EG a) i j) (bP a i j) (IU (EG a) i j) (FY (MX a) i j) (FY (EG a) i j) (GE (MX a) i j) (GE (EG a) i j)))) (WS AL (OK (MX a) (EG a)) (λi=>KZ i (MX a) (NK (MX a) i) (NK (EG a) i) (NO (MX a) i) (NO (EG a) i) (NH (MX a) i) (NH (EG a) i)) (Jq (cU a) (EG a)) (Ic (cU a) (EG a)) Xy (DJ (λi=>YJ (MX a) i (EG a) i)) (λi=>PW (cC a i) (EG a) i (λj=>ME j (cC a i) (QB (bP a i j) (EG a) i j) (bP a i j) (IU (EG a) i j) (FY (MX a) i j) (FY (EG a) i j) (GE (MX a) i j) (GE (EG a) i j))))):=by kernel_rfl
def BTN(a:GBt):Prop:=AX Try.prog BHH cZ (AF cZ) (xGBt a) (AC []) (C_stgA.val a) (C_stgA.keep a) [(0,2032),(1,2033)] []
theorem CFH(a:GBt):(BTN a)=(GV (FJ (CI (Gn a) (Vy a)) (BU (Gn a) (Vy a)) (BK (Gs a) (Vu a)) (BR (Gs a) (Vu a)) (OP (Gn a)) (HP (FI (Gs a))) (CP (eK (kE a a)))) (BZ (QI 0) (not (FC (My a) 2000))) (WS (BO 4) (OK (MX a) (EG a)) (λi=>KZ i (MX a) (NK (MX a) i) (NK (EG a) i) (NO (MX a) i) (NO (EG a) i) (NH (MX a) i) (NH (EG a) i)) (Jq (cU a) (EG a)) (Ic (cU a) (EG a)) Xy (DJ (λi=>YJ (MX a) i (EG a) i)) (λi=>PW (cC a i) (EG a) i (λj=>ME j (cC a i) (QB (bP a i j) (EG a) i j) (bP a i j) (IU (EG a) i j) (FY (MX a) i j) (FY (EG a) i j) (GE (MX a) i j) (GE (EG a) i j)))) (WS (TY 4 0) (OK (MX a) (EG a)) (λi=>KZ i (MX a) (NK (MX a) i) (NK (EG a) i) (NO (MX a) i) (NO (EG a) i) (NH (MX a) i) (NH (EG a) i)) (Jq (cU a) (EG a)) (Ic (cU a) (EG a)) Xy (DJ (λi=>YJ (MX a) i (EG a) i)) (λi=>PW (cC a i) (EG a) i (λj=>ME j (cC a i) (QB (bP a i j) (EG a) i j) (bP a i j) (IU (EG a) i j) (FY (MX a) i j) (FY (EG a) i j) (GE (MX a) i j) (GE (EG a) i j))))):=by kernel_rfl
def BSN(a:GBt):Prop:=AX Try.prog BTF cZ (AF cZ) (xGBt a) (AC []) (C_stgX.val a) [] [] []
abbrev lQ a:=eK (T8 a)
attribute [go_sem] lQ
theorem CED(a:GBt):(BSN a)=(And (FJ (CI (Gn a) (Vy a)) (BU (Gn a) (Vy a)) (BK (Gs a) (Vu a)) (BR (Gs a) (Vu a)) (OP (Gn a)) (HP (FI (Gs a))) (Sf (eK (kE a a)))) (EW (BZ (QI (eK (kE a a))) (not (FC (My a) 2000))) (Ri (ALL Ro)) (AK (lQ a) 4) (And (Ri (ALL Ro)) (AK (lQ a) (eK (kE a a)))))):=by kernel_rfl
theorem CNG:AH Try.prog cW (C_stg.spec dGBt):=PU C_stg (λ_=>BHH) [(0,2032),(1,2033)] [] O9 (λ_=>by kernel_rfl) (λ_=>AA BIP (AA J6 AD)) (λ(a:GBt) h=>by
 show CHE a;rw[CPG]<;> delta LI Wo UD KA LX JZ LQ HV GZ JJ FA AK AN FI AE BA BM IR Ff FF ZJ BP GU HR LF Fw Fe Ro DJ Pz Dc eK Vy Vu My AG AI AO AJ DR Ri VY QG Dd IU AS EL BB DW IF HB RU DF JG DK BO HA Gn JH MX JK KD ML FB CI Gs OT NQ UH GM FH RO EO HQ BK IY AL FJ HZ DZ BZ Sr KH EH BR BU OC kE EG OP FC GE ME FY VC JX CP Fy GV Iy NH NO HP NK OK KZ QY PW QB QI TY cI YJ Ic Jq cU cC Xy WS bP;simp only[CC,CU,show GB.mk a.g a.b=T8 a from rfl]
 obtain⟨⟨h1,h2⟩,h3,h4⟩:preT a/\RS (T8 a)=0/\inT a=true:=h
 unfold inT at h4
 refine⟨⟨h1,h2,h3⟩,λh=>?_⟩
 rw[show (!MN a.t 0 2000)=false by rw[h4];rfl] at h;cases h) (λ_=>RR rfl rfl) _
theorem CDD:AH Try.prog cW (C_stgA.spec dGBt):=PU C_stgA (λ_=>BHH) [(0,2032),(1,2033)] [] O9 (λ_=>by kernel_rfl) (λ_=>AA BIP (AA J6 AD)) (λ(a:GBt) h=>by
 show BTN a;rw[CFH]<;> delta LI Wo UD KA LX JZ LQ HV GZ JJ FA AK AN FI AE BA BM IR Ff FF ZJ BP GU HR LF Fw Fe Ro DJ Pz Dc eK Vy Vu My AG AI AO AJ DR Ri VY QG Dd IU AS EL BB DW IF HB RU DF JG DK BO HA Gn JH MX JK KD ML FB CI Gs OT NQ UH GM FH RO EO HQ BK IY FJ HZ DZ BZ Sr KH EH BR BU OC kE EG OP FC GE ME FY VC JX CP Fy GV Iy NH NO HP NK OK KZ QY PW QB QI TY cI YJ Ic Jq cU cC Xy WS bP;simp only[CC,CU,show GB.mk a.g a.b=T8 a from rfl]
 obtain⟨⟨h1,h2⟩,h3,h4⟩:preT a/\RS (T8 a)=0/\inT a=false:=h
 unfold inT at h4
 refine⟨⟨h1,h2,h3⟩,λh=>?_⟩
 rw[show (!MN a.t 0 2000)=true by rw[h4];rfl] at h;cases h) (λ_=>RR rfl rfl) _
theorem CFS:AH Try.prog cW (C_stgX.spec dGBt):=PU C_stgX (λ_=>BTF) [] [] O9 (λ_=>by kernel_rfl) (λ_=>AA BQI (AA J6 AD)) (λ(a:GBt) h=>by
 show BSN a;rw[CED]<;> delta Wo UD KA LX JZ FA AK AN FI AE BA BM IR Ff ZJ BP GU Ro ALL eK Vy Vu My AG AI AO Ri VY QG EL BB DW HB DF JG DK HA Gn JH JK KD ML CI Gs OT NQ GM RO BK IY EW FJ HZ DZ BZ KH EH BR BU OC kE OP FC HP QI lQ Sf;simp only[CC,CU]
 obtain⟨⟨h1,h2⟩,h3⟩:preT a/\RS (T8 a)≠0:=h
 refine⟨⟨h1,h2,h3⟩,λh=>?_,λ_=>rfl⟩
 have h3:RS (GB.mk a.g a.b)≠0:=h3
 rw[show (RS (GB.mk a.g a.b)==0)=false by simpa using h3] at h;cases h) (λ_=>RR rfl rfl) _
def bkT(a:GBt):BkT:=⟨Ce (T8 a),a.t⟩
def Na(a:GBt):Int:=bif RS (T8 a)==0 then (bif inT a then (bif decide ((lB (bkT a)).length=0) then 6 else 0) else 4) else RS (T8 a)
def TA(a:GBt):Bnd:=bif Na a==0 then bndM (lB (bkT a)) a.t else default
def C_Flow:Ctr:={ α:=GBt,xs:=xGBt,L:=λ_=>[],val:=λa=>.tup [.d (eBnd (TA a)),.int (Na a)],keep:=λ_=>[],pre:=λa=>[preT a/\True] }
def BFW:Ann:=ann 33 [(cW,C_stg.spec dGBt),(uC,C_bnd.spec dBkt)]
def BFJ:Ann:=ann 33 [(cW,C_stgA.spec dGBt),(uC,C_bnd.spec dBkt)]
def BHI:Ann:={ ann 33 [(cW,C_stgX.spec dGBt),(uC,C_bnd.spec dBkt)] with cut:=λid=>if id=4 then some [] else none }
def BIU(a:GBt):Prop:=AX Try.prog BFW B7 (AF B7) (xGBt a) (AC []) (C_Flow.val a) [] [] []
abbrev We:=TA
abbrev pG a:=GBt.mk (Gn a) (Gs a) (My a)
abbrev Dl a:=MX (pG a)
abbrev lS a:=Fe (Dl a)
abbrev Uz a b:=Dd (Dl a) b
abbrev Lc a:=T7 (Dl a) (λi=>Uz a i) (lS a)
abbrev Te a b:=BkT.mk (Lc a) (My b)
attribute [go_sem] We pG Dl lS Uz Lc Te
theorem BTC(a:GBt):(BIU a)=(AG (AQ (CI (Gn a) (Vy a)) (BU (Gn a) (Vy a)) (BK (Gs a) (Vu a)) (Di (BR (Gs a) (Vu a)) (My a) (And (OP (Gn a)) (HP (FI (Gs a)))) (CP (lQ (pG a))) (GI (inT (pG a))))) (RY (AJ (My a)) (Fy (gQ (Dl a) (λi=>Uz a i)) (Dl a)) (λi=>DZ i (gQ (Dl a) (λj=>Uz a j)) (KA (Uz a i)) (LX (Uz a i)) (JZ (Uz a i))) (AI (HI (lS a)) (GQ (lS a)) EO Xy (AS (Hg (Dl a)) (DJ (λi=>PW (RU (Lc a) i) (Dl a) i (λj=>ME j (RU (Lc a) i) (QB (IU (Lc a) i j) (Dl a) i j) (IU (Lc a) i j) (IU (Dl a) i j) (FY (Lc a) i j) (FY (Dl a) i j) (GE (Lc a) i j) (GE (Dl a) i j)))) (OK (Dl a) (gS (Lc a) (Te a a))) (AE (λi=>KZ i (Dl a) (KA (Uz a i)) (NK (gS (Lc a) (Te a a)) i) (LX (Uz a i)) (NO (gS (Lc a) (Te a a)) i) (JZ (Uz a i)) (NH (gS (Lc a) (Te a a)) i))) (Jq (lS a) (gS (Lc a) (Te a a))) (Ic (lS a) (gS (Lc a) (Te a a))) (AI (Qx (gQ (Dl a) (λi=>Uz a i))) (SX (λi=>RA i (gQ (Dl a) (λj=>Uz a j)) i i i i)) (Kq (JO (lS a))) (Gm ER (EL (lS a))) (DJ (λi=>TL (Rb i (EL (lS a))) (Dt i) (HJ i)))) (BF (My a)) (HJ (My a))))) (FA (not (Sy (Te a a))) (OD (CP (OI (We a))) (NG (We a)) 0 (OQ (We a)) 0 (CP (NA (We a))) (AK (Na a) 6)) (OD (AK (OI (We a)) (OI (uT (Te a a) (My a)))) (NG (We a)) (NG (uT (Te a a) (My a))) (OQ (We a)) (OQ (uT (Te a a) (My a))) (AK (NA (We a)) (NA (uT (Te a a) (My a)))) (CP (Na a))))):=by kernel_rfl
def BJD(a:GBt):Prop:=AX Try.prog BFJ B7 (AF B7) (xGBt a) (AC []) (C_Flow.val a) [] [] []
theorem BVY(a:GBt):(BJD a)=(((VZ a.g.length λ(i:Nat)=>gD a.g i).length=a.g.length/\(∀(i:Nat),i<(VZ a.g.length λ(i:Nat)=>gD a.g i).length->(gD (VZ a.g.length λ(i:Nat)=>gD
 a.g i) i).st=(gD a.g i).st/\(gD (VZ a.g.length λ(i:Nat)=>gD a.g i) i).lo=(gD a.g i).lo/\(gD (VZ a.g.length λ(i:Nat)=>gD a.g i) i).hi=(gD a.g i).hi)/\(VZ a.b.length λ(i:Nat)=>gD a.b
 i).length=a.b.length/\(∀(i:Nat),i<(VZ a.b.length λ(i:Nat)=>gD a.b i).length->gD (VZ a.b.length λ(i:Nat)=>gD a.b i) i=gD a.b i)/\a.t=a.t/\((VZ a.g.length λ(i:Nat)=>gD a.g i).length
 < 4611686018427387904/\(VZ a.b.length λ(i:Nat)=>gD a.b i).length<4611686018427387904)/\RS (T8 (GBt.mk (VZ a.g.length λ(i:Nat)=>gD a.g i) (VZ a.b.length λ(i:Nat)=>gD a.b i) a.t))=0/\inT
 (GBt.mk (VZ a.g.length λ(i:Nat)=>gD a.g i) (VZ a.b.length λ(i:Nat)=>gD a.b i) a.t)=false)/\(TA a).lo.n=0/\(TA a).lo.d=0/\(TA a).hi.n=0/\(TA a).hi.d=0/\Na a=4):=by
 kernel_rfl
def BFG(a:GBt):Prop:=AX Try.prog BHI B7 (AF B7) (xGBt a) (AC []) (C_Flow.val a) [] [] []
theorem BPR(a:GBt):(BFG a)=(AG (FJ (CI (Gn a) (Vy a)) (BU (Gn a) (Vy a)) (BK (Gs a) (Vu a)) (BR (Gs a) (Vu a)) (AJ (My a)) (And (OP (Gn a)) (HP (FI (Gs a)))) (Sf (lQ (pG a)))) (FA (RJ (lQ (pG a))) (OD (CP (OI (We a))) (NG (We a)) 0 (OQ (We a)) 0 (CP (NA (We a))) (AK (Na a) (lQ (pG a)))) lZ) FW):=by kernel_rfl
theorem BAX:∀(l:List Int) (x:Int),0<=x/\x<=2000->brk x l=0->l.Pairwise (· < ·)/\∀y∈l,x<y/\y<=2000
 |[],_,_,_=>⟨.nil,by simp⟩
 |z :: l,x,hx,h=>by
  unfold brk at h
  cases hi:MN z (wr (x+1)) 2000 with
  |false=>rw[hi] at h;cases h
  |true=>
   rw[hi] at h
   unfold wr MN at hi
   rw[ZW (n:=x+1) (by omega) (by omega)] at hi
   simp only[Bool.and_eq_true,decide_eq_true_eq] at hi
   obtain⟨h1,h2⟩:=BAX l z (by omega) h
   refine⟨List.pairwise_cons.2 ⟨λy hy=>(h2 y hy).1,h1⟩,λy hy=>?_⟩
   rcases List.mem_cons.1 hy with rfl | hy
   ·exact⟨by omega,by omega⟩
   ·have:=h2 y hy;exact⟨by omega,this.2⟩
theorem BHE{a:GB}(h:RS a=0):gJ a.g a.b:=by
 unfold RS at h
 cases h1:IH a.g==0 with
 |false=>rw[h1] at h;rw[show IH a.g=0 from h] at h1;cases h1
 |true=>
  rw[h1] at h
  have h:Aw a.b=0:=h
  have h1:IH a.g=0:=by simpa using h1
  unfold IH at h1
  cases h2:MN a.g.length 1 24 with
  |false=>rw[h2] at h1;cases h1
  |true=>
   rw[h2] at h1
   cases h3:a.g.all riG with
   |false=>rw[h3] at h1;cases h1
   |true=>
    unfold MN at h2
    simp only[Bool.and_eq_true,decide_eq_true_eq] at h2
    unfold Aw at h
    split at h
    ·cases h
    ·obtain⟨h5,h6⟩:=BAX _ 0 (by omega) h
     refine⟨by omega,λx hx=>?_,by omega,h5,λy hy=>⟨by have:=h6 y hy;omega,(h6 y hy).2⟩⟩
     have:=List.all_eq_true.1 h3 x hx
     unfold riG MN at this
     simp only[Bool.and_eq_true,decide_eq_true_eq] at this
     unfold Ho;omega
theorem CEO:AH Try.prog BDA (C_Flow.spec dGBt):=Ctr.spec_ok (C:=C_Flow) (λ(a:GBt) h=>by
 have h:preT a:=(show preT a/\True from h).1
 by_cases hE:RS (T8 a)=0
 ·cases hT:inT a with
  |true=>
   refine Ee (A:=BFW) (L:=[]) (keep:=[]) (ren:=[]) (fz:=[]) AUA (by kernel_rfl) (AA CNG (AA BAT AD)) ?_
   show BIU a;rw[BTC]<;> delta LI UD KA LX JZ LQ HV GZ JJ HU FA AK AN FI AE BA BM IR CW DC ER Ff Gg Dw mZ mU BP GU SX HR LF Gm Fw Fe Ro DJ De Pz Dc eK Rb Vy Vu My We AG AI AO AJ DR Ri VY QG Dd IU AS EL BB gQ DW IF BF gS HB RU DF J1 JG DK HA AQ Gn JH MX JK KD ML FB CI Gs OT GI NQ UH GM FH RO EO HQ BK IY T7 HJ Hg KE RB pG HZ DZ Dl FG UC Sr KH EH BR BU OC OD Bf UZ Ch XB OP JO GE Uz ME Di FY lS HI CP Fy Iy TL NH GQ NO NA HP NK NG OQ OK Lc OI KZ PW QB Kq RY uT RA Te Ic Jq Dt Qx Xy Sy lQ;simp only[CC,CU,V4,BFO,CJS,CIV,BIE,show GBt.mk a.g a.b a.t=a from rfl,show BkT.mk (Ce (T8 a)) a.t=bkT a from rfl]
   have hi:0<=a.t/\a.t<=2000:=by
    unfold inT MN at hT;simpa using hT
   have hb:gJ (T8 a).g (T8 a).b:=BHE hE
   refine⟨⟨h,hE,hT⟩,⟨hb,hi⟩,λhc=>?_,λhc=>?_⟩
   ·have e:Na a=6:=by unfold Na;rw[hE,hT,decide_eq_true (show (lB (bkT a)).length=0 by omega)];rfl
    have e2:TA a=default:=by unfold TA;rw[e];rfl
    rw[e2];exact⟨rfl,rfl,rfl,rfl,e⟩
   ·have e:Na a=0:=by unfold Na;rw[hE,hT,decide_eq_false hc];rfl
    have e2:TA a=bndM (lB (bkT a)) a.t:=by unfold TA;rw[e];rfl
    rw[e2];exact⟨rfl,rfl,rfl,rfl,e⟩
  |false=>
   refine Ee (A:=BFJ) (L:=[]) (keep:=[]) (ren:=[]) (fz:=[]) AUA (by kernel_rfl) (AA CDD (AA BAT AD)) ?_
   show BJD a;rw[BVY];simp only[CC,CU,show GBt.mk a.g a.b a.t=a from rfl]
   have e:Na a=4:=by unfold Na;rw[hE,hT];rfl
   have e2:TA a=default:=by unfold TA;rw[e];rfl
   rw[e2];exact⟨⟨h,hE,hT⟩,rfl,rfl,rfl,rfl,e⟩
 ·refine Ee (A:=BHI) (L:=[]) (keep:=[]) (ren:=[]) (fz:=[]) AUA (by kernel_rfl) (AA CFS (AA BAT AD)) ?_
  show BFG a;rw[BPR]<;> delta KA LX JZ cN FA AK AN FI AE BA BM IR Ff lZ Gg Dw mZ mU FW BP GU eK Vy Vu My We AG AI AO AJ VY QG EL BB DW HB DF JG DK HA Gn JH JK KD ML CI Gs OT NQ GM RO BK IY FJ pG HZ DZ FG KH EH BR BU OC OD OP CP NA HP NG OQ RJ OI lQ Sf;simp only[CC,CU,show GBt.mk a.g a.b a.t=a from rfl]
  have e:Na a=RS (T8 a):=by unfold Na;rw[show (RS (T8 a)==0)=false by simpa using hE];rfl
  have e2:TA a=default:=by unfold TA;rw[e,show (RS (T8 a)==0)=false by simpa using hE];rfl
  rw[e2];exact⟨⟨h,hE⟩,λ_=>⟨rfl,rfl,rfl,rfl,e⟩,λhc=>hE (by simpa using hc)⟩) _
end Go.Bal
