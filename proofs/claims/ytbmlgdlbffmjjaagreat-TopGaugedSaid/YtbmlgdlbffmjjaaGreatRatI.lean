/- Package rating: bounds of a flow. -/
import Derived.Test.YtbmlgdlbffmjjaaGreatRatH
set_option linter.unusedVariables false
set_option linter.unusedSimpArgs false
namespace Go.Bal
open Go Go.Sym Go.Proofs
def bndM(l:List Ln)(t:Int):Bnd:=bif decide (l.length=0) then default else⟨LZ (eF ltR t l) t,LZ (eF gtR t l) t⟩
def dBkt:List AVal->Heap->Option (BkT×List (Nat×Nat)×List Nat)
 |[.bptr id _,.d t],H=>match BIY H id with
  |some (w,q)=>some (⟨w,LR t⟩,[(100,id),(101,q)],[])
  |none=>none
 |_,_=>none
def C_bnd:Ctr:={ ro:=[100],α:=BkT,xs:=λa=>[.bptr 100 0,.int a.st],L:=λa=>bkL a.w,val:=λa=>.tup [.d (eBnd (bndM (lB a) a.st)),.bool (decide ((lB a).length≠0))],keep:=λa=>bkK (O0 a.w (kB a)),pre:=λa=>[gI a.w.g a.w.b/\0<=a.st/\a.st<=2000] }
def CHM:Ann:={ ann 36 [(AZS,C_less.spec d0),(BCM,C_more.spec d0),(ATI,orS ((Qr ltR Ex).spec (dBkT Ex)) ((Qr gtR Ev).spec (dBkT Ev))),(ADK,BEL)] with E:=[100,101] }
def CIN(a:BkT):Prop:=AX Try.prog CHM AHC (AF AHC) (C_bnd.xs a) (AC (C_bnd.L a)) (C_bnd.val a) (C_bnd.keep a) [] []
abbrev BJB a b:=BkT.mk a (Rx b)
abbrev zB a:=BJB (ZT a) a
abbrev Iy a b:=gO (ZT a) (zB b)
abbrev lC a:=ANX a a (Iy a a)
abbrev Y0 a:=BJB (lC a) a
abbrev UV a:=gO (lC a) (Y0 a)
abbrev uH a b:=bndM (lB a) b
abbrev kL a b:=uH a (Rx b)
attribute [go_sem] BJB zB Iy lC Y0 UV uH kL
theorem CPR(a:BkT):(CIN a)=(AG (SI (Ji a) (Ha (XR a) (IS a)) (λi=>DV i (XR a) (Dn a i) (Ec a i) (Ek a i)) (AI (Ix (VV a) a) (Jl (VV a) a) EO (eI (IS a)) (AS (Ga (IS a)) (DJ (λi=>QA (RQ (ZT a) i) (IS a) i (λj=>MG j (RQ (ZT a) i) (QO (IT (ZT a) i j) (IS a) i j) (IT (ZT a) i j) (IT (IS a) i j) (GF (ZT a) i j) (GF (IS a) i j) (FY (ZT a) i j) (FY (IS a) i j)))) (OP (IS a) (Iy a a)) (AE (λi=>KV i (IS a) (Dn a i) (NE (Iy a a) i) (Ec a i) (NH (Iy a a) i) (Ek a i) (NV (Iy a a) i))) (Jm (dZ a) (Iy a a)) (Ik (dZ a) (Iy a a)) (AI (Qu (XR a)) (TA (λi=>QV i (XR a) i i i i)) (Me (lH a)) (Ft ER (VV a)) (DJ (λi=>TO (Og i (VV a)) (Ej i) (HI i)))) (cV a) (eH a)))) (SI (Ji a) (Ha (XR a) (IS a)) (λi=>DV i (XR a) (Dn a i) (Ec a i) (Ek a i)) (AI (Ix (VV a) a) (Jl (VV a) a) EO (eI (Iy a a)) (AS (Ga (Iy a a)) (DJ (λi=>QA (RQ (lC a) i) (Iy a a) i (λj=>MG j (RQ (lC a) i) (QO (IT (lC a) i j) (Iy a a) i j) (IT (lC a) i j) (IT (Iy a a) i j) (GF (lC a) i j) (GF (Iy a a) i j) (FY (lC a) i j) (FY (Iy a a) i j)))) (OP (IS a) (UV a)) (AE (λi=>KV i (IS a) (Dn a i) (NE (UV a) i) (Ec a i) (NH (UV a) i) (Ek a i) (NV (UV a) i))) (Jm (dZ a) (UV a)) (Ik (dZ a) (UV a)) (AI (Qu (XR a)) (TA (λi=>QV i (XR a) i i i i)) (Me (lH a)) (Ft ER (VV a)) (DJ (λi=>TO (Og i (VV a)) (Ej i) (HI i)))) (cV a) (eH a)))) (EZ (not (Sg (zB a))) (OR (CQ (OJ (kL a a))) (NW (kL a a)) 0 (OG (kL a a)) 0 (CQ (NB (kL a a))) (WX (Di (Sg a)) (OP (CX a) (IS a)) (λi=>KV i (CX a) (NE (CX a) i) (Dn a i) (NH (CX a) i) (Ec a i) (NV (CX a) i) (Ek a i)) (Ix (El a) a) (Jl (El a) a) (DJ (λi=>Ig (CX a) i (Df (UV a) i))) (DJ (λi=>YM (CX a) i (UV a) i)) (λi=>QA (OH a i) (UV a) i (λj=>MG j (OH a i) (QO (UU a i j) (UV a) i j) (UU a i j) (IT (UV a) i j) (GF (CX a) i j) (GF (UV a) i j) (FY (CX a) i j) (FY (UV a) i j))))) (AV (AI (LU (Nx (zB a) a)) (WS (Rx a)) (LU (Pf (Y0 a) a)) (cV a) (eH a)) (AK (OJ (kL a a)) (Gn (Ze (Nx (zB a) a) a))) (AK (NW (kL a a)) (Dj (Ze (Nx (zB a) a) a))) (AK (OG (kL a a)) (Gn (Ze (Pf (Y0 a) a) a))) (AK (NB (kL a a)) (Dj (Ze (Pf (Y0 a) a) a))) (WX (GI (Sg a)) (OP (CX a) (IS a)) (λi=>KV i (CX a) (NE (CX a) i) (Dn a i) (NH (CX a) i) (Ec a i) (NV (CX a) i) (Ek a i)) (Ix (El a) a) (Jl (El a) a) (DJ (λi=>Ig (CX a) i (Df (UV a) i))) (DJ (λi=>YM (CX a) i (UV a) i)) (λi=>QA (OH a i) (UV a) i (λj=>MG j (OH a i) (QO (UU a i j) (UV a) i j) (UU a i j) (IT (UV a) i j) (GF (CX a) i j) (GF (UV a) i j) (FY (CX a) i j) (FY (UV a) i j))))))):=by kernel_rfl
theorem BMB(w:Bk)(k:Int):O0 (O0 w k) k=O0 w k:=AHH (by show QD w.has k k=true;simp[QD])
theorem BJL(a:BkT):BkT.mk a.w a.st=a:=rfl
theorem BHA(w:Bk)(k:Int):Bk.mk w.g w.b (O0 w k).has (O0 w k).st=O0 w k:=rfl
theorem CGR(w:Bk)(k:Int):(O0 w k).g=w.g:=rfl
theorem CHL(w:Bk)(k:Int):(O0 w k).b=w.b:=rfl
theorem CTT(a:BkT)(k:Int):kB ⟨O0 a.w k,a.st⟩=kB a:=rfl
theorem CQJ(a:BkT)(k:Int):lB ⟨O0 a.w k,a.st⟩=lB a:=rfl
theorem CQT(a:BkT)(h:gI a.w.g a.w.b)(h2:0<=a.st/\a.st<=2000):CIN a:=by
 rw[CPR]<;> delta LI UD KA LV JY LL HV GZ JJ HU EZ AK AN FI AE BA BN IQ CV DC ER Ff Gn Dj nI mA BP GU TA HT LH ZP Ft Hh Fc Ro DJ Df Qa Og IS Rx AG AI AO AJ DF Ri VW QM Dc dZ IT AS EL gQ DY IG VV M0 BG gO HC RQ DI E4 JH DO HD AQ JI BJB JO CX KC ANX EB MM EX CI OS XJ GI NK UG GM AV FH RR ZT eI EO HQ BK IY HI Ga KO RJ zB IA DV Iy FE UA Ve lC BQ OR Cq US Ap WH FY MG GF VD Y0 KM CQ Ha PK El OH Jt X0 TO NV NH NB Di NE NW OG OP UV OJ KV UU RL QA QO XR Ek LU Ec eD Dn Ji Me SI Jl uH Ix WS QV YM Ig Ik Jm Pf Nx Ej kL Ze Qu WX eH Sg cV lH;simp only[CC,CU,P3,BHA,CGR,CHL,BJL,CTT,CQJ,BMB,if_true]
 obtain⟨_,hok⟩:=BYR h
 unfold bndM
 refine⟨⟨h,h2⟩,⟨h,h2⟩,λhc=>?_,λhc=>?_⟩
 ·rw[decide_eq_true (show (lB a).length=0 by omega)]
  exact⟨rfl,rfl,rfl,rfl,hc⟩
 ·rw[decide_eq_false hc]
  have hb:∀lt,PO (eF lt a.st (lB a)):=λlt=>X8 ▸ AIO hok (by omega)
  exact⟨⟨hb _,h2,hb _,h2⟩,rfl,rfl,rfl,rfl,hc⟩
theorem BEG:AH Try.prog uU (C_bnd.spec dBkt):=PU C_bnd (λ_=>CHM) [] [] BLL (λ_=>by kernel_rfl) (λ_=>AA CCS (AA CBR (AA (BTD BRC BXI) (AA AOY AD)))) (λ(a:BkT) h=>by
 have h:gI a.w.g a.w.b/\0<=a.st/\a.st<=2000:=h
 exact CQT a h.1 h.2) (λ_=>RU rfl rfl) _
end Go.Bal

namespace Go.Bal
open Go Go.Sym Go.Proofs
structure GBt where
 g:List Gau
 b:List Int
 t:Int
def dGBt:List AVal->Heap->Option (GBt×List (Nat×Nat)×List Nat)
 |[x,y,.d t],H=>match AKV x H,I7 y H with
  |some (l,f),some (m,e)=>some (⟨l,m,LR t⟩,[],f ++ e)
  |_,_=>none
 |_,_=>none
def xGBt(a:GBt):List AVal:=[.d (KD a.g),.d (IM a.b),.int a.t]
def V5(a:GBt):GB:=⟨a.g,a.b⟩
def inT(a:GBt):Bool:=MN a.t 0 2000
def preT(a:GBt):Prop:=a.g.length<4611686018427387904/\a.b.length<4611686018427387904
def C_stg:Ctr:={ α:=GBt,xs:=xGBt,L:=λ_=>[],val:=λ_=>.tup [.bptr 0 0,.int 0],keep:=λa=>[(0,.live (bkB (Ca (V5 a)) 1)),(1,.live (bkM (Ca (V5 a))))],pre:=λa=>[preT a/\RN (V5 a)=0/\inT a=true] }
def C_stgA:Ctr:={ α:=GBt,xs:=xGBt,L:=λ_=>[],val:=λ_=>.tup [.bptr 0 0,.int 4],keep:=λa=>[(0,.live (bkB (Ca (V5 a)) 1)),(1,.live (bkM (Ca (V5 a))))],pre:=λa=>[preT a/\RN (V5 a)=0/\inT a=false] }
def C_stgX:Ctr:={ α:=GBt,xs:=xGBt,L:=λ_=>[],val:=λa=>.tup [.d (.v (.pointer none)),.int (RN (V5 a))],keep:=λ_=>[],pre:=λa=>[preT a/\RN (V5 a)≠0] }
def BIL:Ann:=ann 25 [(wM,C_open.spec dGB),(n_in,Fg)]
def BYV:Ann:=ann 25 [(wM,C_openX.spec dGB),(n_in,Fg)]
def CIR(a:GBt):Prop:=AX Try.prog BIL eZ (AF eZ) (xGBt a) (AC []) (C_stg.val a) (C_stg.keep a) [(0,2032),(1,2033)] []
abbrev Vy:=GBt.g
abbrev Vz:=GBt.b
abbrev Mt:=GBt.t
abbrev Hn a:=EL (Vz a)
abbrev Gc a:=BB (Vy a)
abbrev iG a b:=GB.mk (Gc a) (Hn b)
abbrev EH a:=Cz (iG a a)
abbrev MX a:=Cz (V5 a)
abbrev cZ a b c:=IT (MX a) b c
abbrev dL a b:=RQ (MX a) b
abbrev bU a:=Fc (MX a)
attribute [go_sem] Vy Vz Mt Hn Gc iG EH MX cZ dL bU
theorem CNB(a:GBt):(CIR a)=(GO (FK (CI (Gc a) (Vy a)) (BU (Gc a) (Vy a)) (BK (Hn a) (Vz a)) (BQ (Hn a) (Vz a)) (OE (Gc a)) (HP (FI (Hn a))) (CQ (eA (iG a a)))) (BY (QG 0) (not (FC (Mt a) 2000))) (WX (UB 0 4) (OP (MX a) (EH a)) (λi=>KV i (MX a) (NE (MX a) i) (NE (EH a) i) (NH (MX a) i) (NH (EH a) i) (NV (MX a) i) (NV (EH a) i)) (Jm (bU a) (EH a)) (Ik (bU a) (EH a)) Zn (DJ (λi=>YM (MX a) i (EH a) i)) (λi=>QA (dL a i) (EH a) i (λj=>MG j (dL a i) (QO (cZ a i j) (EH a) i j) (cZ a i j) (IT (EH a) i j) (GF (MX a) i j) (GF (EH a) i j) (FY (MX a) i j) (FY (EH a) i j)))) (WX AL (OP (MX a) (EH a)) (λi=>KV i (MX a) (NE (MX a) i) (NE (EH a) i) (NH (MX a) i) (NH (EH a) i) (NV (MX a) i) (NV (EH a) i)) (Jm (bU a) (EH a)) (Ik (bU a) (EH a)) Zn (DJ (λi=>YM (MX a) i (EH a) i)) (λi=>QA (dL a i) (EH a) i (λj=>MG j (dL a i) (QO (cZ a i j) (EH a) i j) (cZ a i j) (IT (EH a) i j) (GF (MX a) i j) (GF (EH a) i j) (FY (MX a) i j) (FY (EH a) i j))))):=by kernel_rfl
def BXR(a:GBt):Prop:=AX Try.prog BIL eZ (AF eZ) (xGBt a) (AC []) (C_stgA.val a) (C_stgA.keep a) [(0,2032),(1,2033)] []
theorem CAK(a:GBt):(BXR a)=(GO (FK (CI (Gc a) (Vy a)) (BU (Gc a) (Vy a)) (BK (Hn a) (Vz a)) (BQ (Hn a) (Vz a)) (OE (Gc a)) (HP (FI (Hn a))) (CQ (eA (iG a a)))) (BY (QG 0) (not (FC (Mt a) 2000))) (WX (BO 4) (OP (MX a) (EH a)) (λi=>KV i (MX a) (NE (MX a) i) (NE (EH a) i) (NH (MX a) i) (NH (EH a) i) (NV (MX a) i) (NV (EH a) i)) (Jm (bU a) (EH a)) (Ik (bU a) (EH a)) Zn (DJ (λi=>YM (MX a) i (EH a) i)) (λi=>QA (dL a i) (EH a) i (λj=>MG j (dL a i) (QO (cZ a i j) (EH a) i j) (cZ a i j) (IT (EH a) i j) (GF (MX a) i j) (GF (EH a) i j) (FY (MX a) i j) (FY (EH a) i j)))) (WX (UB 4 0) (OP (MX a) (EH a)) (λi=>KV i (MX a) (NE (MX a) i) (NE (EH a) i) (NH (MX a) i) (NH (EH a) i) (NV (MX a) i) (NV (EH a) i)) (Jm (bU a) (EH a)) (Ik (bU a) (EH a)) Zn (DJ (λi=>YM (MX a) i (EH a) i)) (λi=>QA (dL a i) (EH a) i (λj=>MG j (dL a i) (QO (cZ a i j) (EH a) i j) (cZ a i j) (IT (EH a) i j) (GF (MX a) i j) (GF (EH a) i j) (FY (MX a) i j) (FY (EH a) i j))))):=by kernel_rfl
def BTI(a:GBt):Prop:=AX Try.prog BYV eZ (AF eZ) (xGBt a) (AC []) (C_stgX.val a) [] [] []
abbrev iO a:=eA (V5 a)
attribute [go_sem] iO
theorem CAU(a:GBt):(BTI a)=(And (FK (CI (Gc a) (Vy a)) (BU (Gc a) (Vy a)) (BK (Hn a) (Vz a)) (BQ (Hn a) (Vz a)) (OE (Gc a)) (HP (FI (Hn a))) (Vf (eA (iG a a)))) (EY (BY (QG (eA (iG a a))) (not (FC (Mt a) 2000))) (Ri (AJJ Ro)) (AK (iO a) 4) (And (Ri (AJJ Ro)) (AK (iO a) (eA (iG a a)))))):=by kernel_rfl
theorem CMN:AH Try.prog dR (C_stg.spec dGBt):=PU C_stg (λ_=>BIL) [(0,2032),(1,2033)] [] W5 (λ_=>by kernel_rfl) (λ_=>AA BIT (AA H3 AD)) (λ(a:GBt) h=>by
 show CIR a;rw[CNB]<;> delta LI Wo UD KA LV JY LL HV GZ JJ EZ AK AN FI AE BA BN IQ Ff FD ZN BP GU HT LH Hh Fc Ro DJ Qa Cz eA Vy Vz Mt AG AI AO AJ DF Ri VW QM Dc IT AS EL BB DY IG HC RQ DI JH DO BO HD Gc JI MX JO KC MM EX CI Hn OS NK UG GM FH RR EO HQ BK IY AL FK IA DV BY Ve KL EF BQ BU ON iG EH OE FC FY MG GF VD JN CQ Ha GO Jt NV NH HP NE OP KV RL QA QO QG UB eD YM Ik Jm bU dL Zn WX cZ;simp only[CC,CU,show GB.mk a.g a.b=V5 a from rfl]
 obtain⟨⟨h1,h2⟩,h3,h4⟩:preT a/\RN (V5 a)=0/\inT a=true:=h
 unfold inT at h4
 refine⟨⟨h1,h2,h3⟩,λh=>?_⟩
 rw[show (!MN a.t 0 2000)=false by rw[h4];rfl] at h;cases h) (λ_=>RU rfl rfl) _
theorem CDB:AH Try.prog dR (C_stgA.spec dGBt):=PU C_stgA (λ_=>BIL) [(0,2032),(1,2033)] [] W5 (λ_=>by kernel_rfl) (λ_=>AA BIT (AA H3 AD)) (λ(a:GBt) h=>by
 show BXR a;rw[CAK]<;> delta LI Wo UD KA LV JY LL HV GZ JJ EZ AK AN FI AE BA BN IQ Ff FD ZN BP GU HT LH Hh Fc Ro DJ Qa Cz eA Vy Vz Mt AG AI AO AJ DF Ri VW QM Dc IT AS EL BB DY IG HC RQ DI JH DO BO HD Gc JI MX JO KC MM EX CI Hn OS NK UG GM FH RR EO HQ BK IY FK IA DV BY Ve KL EF BQ BU ON iG EH OE FC FY MG GF VD JN CQ Ha GO Jt NV NH HP NE OP KV RL QA QO QG UB eD YM Ik Jm bU dL Zn WX cZ;simp only[CC,CU,show GB.mk a.g a.b=V5 a from rfl]
 obtain⟨⟨h1,h2⟩,h3,h4⟩:preT a/\RN (V5 a)=0/\inT a=false:=h
 unfold inT at h4
 refine⟨⟨h1,h2,h3⟩,λh=>?_⟩
 rw[show (!MN a.t 0 2000)=true by rw[h4];rfl] at h;cases h) (λ_=>RU rfl rfl) _
theorem CBC:AH Try.prog dR (C_stgX.spec dGBt):=PU C_stgX (λ_=>BYV) [] [] W5 (λ_=>by kernel_rfl) (λ_=>AA BPA (AA H3 AD)) (λ(a:GBt) h=>by
 show BTI a;rw[CAU]<;> delta Wo UD KA LV JY EZ AK AN FI AE BA BN IQ Ff ZN BP GU Ro AJJ eA Vy Vz Mt AG AI AO Ri VW QM EL BB DY HC DI JH DO HD Gc JI JO KC MM CI Hn OS NK GM RR BK IY EY FK IA DV BY KL EF BQ BU ON iG OE FC HP QG iO Vf;simp only[CC,CU]
 obtain⟨⟨h1,h2⟩,h3⟩:preT a/\RN (V5 a)≠0:=h
 refine⟨⟨h1,h2,h3⟩,λh=>?_,λ_=>rfl⟩
 have h3:RN (GB.mk a.g a.b)≠0:=h3
 rw[show (RN (GB.mk a.g a.b)==0)=false by simpa using h3] at h;cases h) (λ_=>RU rfl rfl) _
def bkT(a:GBt):BkT:=⟨Ca (V5 a),a.t⟩
def Mw(a:GBt):Int:=bif RN (V5 a)==0 then (bif inT a then (bif decide ((lB (bkT a)).length=0) then 6 else 0) else 4) else RN (V5 a)
def SZ(a:GBt):Bnd:=bif Mw a==0 then bndM (lB (bkT a)) a.t else default
def C_Flow:Ctr:={ α:=GBt,xs:=xGBt,L:=λ_=>[],val:=λa=>.tup [.d (eBnd (SZ a)),.int (Mw a)],keep:=λ_=>[],pre:=λa=>[preT a/\True] }
def BHH:Ann:=ann 33 [(dR,C_stg.spec dGBt),(uU,C_bnd.spec dBkt)]
def BFB:Ann:=ann 33 [(dR,C_stgA.spec dGBt),(uU,C_bnd.spec dBkt)]
def BHK:Ann:={ ann 33 [(dR,C_stgX.spec dGBt),(uU,C_bnd.spec dBkt)] with cut:=λid=>if id=4 then some [] else none }
def BJQ(a:GBt):Prop:=AX Try.prog BHH zF (AF zF) (xGBt a) (AC []) (C_Flow.val a) [] [] []
abbrev Wi:=SZ
abbrev oU a:=GBt.mk (Gc a) (Hn a) (Mt a)
abbrev Ei a:=MX (oU a)
abbrev lS a:=Fc (Ei a)
abbrev Uz a b:=Dc (Ei a) b
abbrev Kt a:=U9 (Ei a) (λi=>Uz a i) (lS a)
abbrev Ue a b:=BkT.mk (Kt a) (Mt b)
attribute [go_sem] Wi oU Ei lS Uz Kt Ue
theorem BUO(a:GBt):(BJQ a)=(AG (AQ (CI (Gc a) (Vy a)) (BU (Gc a) (Vy a)) (BK (Hn a) (Vz a)) (Dk (BQ (Hn a) (Vz a)) (Mt a) (And (OE (Gc a)) (HP (FI (Hn a)))) (CQ (iO (oU a))) (GI (inT (oU a))))) (SI (AJ (Mt a)) (Ha (gQ (Ei a) (λi=>Uz a i)) (Ei a)) (λi=>DV i (gQ (Ei a) (λj=>Uz a j)) (KA (Uz a i)) (LV (Uz a i)) (JY (Uz a i))) (AI (HJ (lS a)) (GX (lS a)) EO Zn (AS (Ga (Ei a)) (DJ (λi=>QA (RQ (Kt a) i) (Ei a) i (λj=>MG j (RQ (Kt a) i) (QO (IT (Kt a) i j) (Ei a) i j) (IT (Kt a) i j) (IT (Ei a) i j) (GF (Kt a) i j) (GF (Ei a) i j) (FY (Kt a) i j) (FY (Ei a) i j)))) (OP (Ei a) (gO (Kt a) (Ue a a))) (AE (λi=>KV i (Ei a) (KA (Uz a i)) (NE (gO (Kt a) (Ue a a)) i) (LV (Uz a i)) (NH (gO (Kt a) (Ue a a)) i) (JY (Uz a i)) (NV (gO (Kt a) (Ue a a)) i))) (Jm (lS a) (gO (Kt a) (Ue a a))) (Ik (lS a) (gO (Kt a) (Ue a a))) (AI (Qu (gQ (Ei a) (λi=>Uz a i))) (TA (λi=>QV i (gQ (Ei a) (λj=>Uz a j)) i i i i)) (Me (JR (lS a))) (Ft ER (EL (lS a))) (DJ (λi=>TO (Og i (EL (lS a))) (Ej i) (HI i)))) (BG (Mt a)) (HI (Mt a))))) (EZ (not (Sg (Ue a a))) (OR (CQ (OJ (Wi a))) (NW (Wi a)) 0 (OG (Wi a)) 0 (CQ (NB (Wi a))) (AK (Mw a) 6)) (OR (AK (OJ (Wi a)) (OJ (uH (Ue a a) (Mt a)))) (NW (Wi a)) (NW (uH (Ue a a) (Mt a))) (OG (Wi a)) (OG (uH (Ue a a) (Mt a))) (AK (NB (Wi a)) (NB (uH (Ue a a) (Mt a)))) (CQ (Mw a))))):=by kernel_rfl
def BGA(a:GBt):Prop:=AX Try.prog BFB zF (AF zF) (xGBt a) (AC []) (C_Flow.val a) [] [] []
theorem BPL(a:GBt):(BGA a)=(((WA a.g.length λ(i:Nat)=>gD a.g i).length=a.g.length/\(∀(i:Nat),i<(WA a.g.length λ(i:Nat)=>gD a.g i).length->(gD (WA a.g.length λ(i:Nat)=>gD
 a.g i) i).st=(gD a.g i).st/\(gD (WA a.g.length λ(i:Nat)=>gD a.g i) i).lo=(gD a.g i).lo/\(gD (WA a.g.length λ(i:Nat)=>gD a.g i) i).hi=(gD a.g i).hi)/\(WA a.b.length λ(i:Nat)=>gD a.b
 i).length=a.b.length/\(∀(i:Nat),i<(WA a.b.length λ(i:Nat)=>gD a.b i).length->gD (WA a.b.length λ(i:Nat)=>gD a.b i) i=gD a.b i)/\a.t=a.t/\((WA a.g.length λ(i:Nat)=>gD a.g i).length
 < 4611686018427387904/\(WA a.b.length λ(i:Nat)=>gD a.b i).length<4611686018427387904)/\RN (V5 (GBt.mk (WA a.g.length λ(i:Nat)=>gD a.g i) (WA a.b.length λ(i:Nat)=>gD a.b i) a.t))=0/\inT
 (GBt.mk (WA a.g.length λ(i:Nat)=>gD a.g i) (WA a.b.length λ(i:Nat)=>gD a.b i) a.t)=false)/\(SZ a).lo.n=0/\(SZ a).lo.d=0/\(SZ a).hi.n=0/\(SZ a).hi.d=0/\Mw a=4):=by
 kernel_rfl
def BHG(a:GBt):Prop:=AX Try.prog BHK zF (AF zF) (xGBt a) (AC []) (C_Flow.val a) [] [] []
theorem BXL(a:GBt):(BHG a)=(AG (FK (CI (Gc a) (Vy a)) (BU (Gc a) (Vy a)) (BK (Hn a) (Vz a)) (BQ (Hn a) (Vz a)) (AJ (Mt a)) (And (OE (Gc a)) (HP (FI (Hn a)))) (Vf (iO (oU a)))) (EZ (QW (iO (oU a))) (OR (CQ (OJ (Wi a))) (NW (Wi a)) 0 (OG (Wi a)) 0 (CQ (NB (Wi a))) (AK (Mw a) (iO (oU a)))) mM) FT):=by kernel_rfl
theorem BBQ:∀(l:List Int) (x:Int),0<=x/\x<=2000->brk x l=0->l.Pairwise (· < ·)/\∀y∈l,x<y/\y<=2000
 |[],_,_,_=>⟨.nil,by simp⟩
 |z :: l,x,hx,h=>by
  unfold brk at h
  cases hi:MN z (wr (x+1)) 2000 with
  |false=>rw[hi] at h;cases h
  |true=>
   rw[hi] at h
   unfold wr MN at hi
   rw[Ab (n:=x+1) (by omega) (by omega)] at hi
   simp only[Bool.and_eq_true,decide_eq_true_eq] at hi
   obtain⟨h1,h2⟩:=BBQ l z (by omega) h
   refine⟨List.pairwise_cons.2 ⟨λy hy=>(h2 y hy).1,h1⟩,λy hy=>?_⟩
   rcases List.mem_cons.1 hy with rfl | hy
   ·exact⟨by omega,by omega⟩
   ·have:=h2 y hy;exact⟨by omega,this.2⟩
theorem BIM{a:GB}(h:RN a=0):gI a.g a.b:=by
 unfold RN at h
 cases h1:IH a.g==0 with
 |false=>rw[h1] at h;rw[show IH a.g=0 from h] at h1;cases h1
 |true=>
  rw[h1] at h
  have h:Ak a.b=0:=h
  have h1:IH a.g=0:=by simpa using h1
  unfold IH at h1
  cases h2:MN a.g.length 1 24 with
  |false=>rw[h2] at h1;cases h1
  |true=>
   rw[h2] at h1
   cases h3:a.g.all riG with
   |false=>rw[h3] at h1;cases h1
   |true=>
    unfold MN at h2
    simp only[Bool.and_eq_true,decide_eq_true_eq] at h2
    unfold Ak at h
    split at h
    ·cases h
    ·obtain⟨h5,h6⟩:=BBQ _ 0 (by omega) h
     refine⟨by omega,λx hx=>?_,by omega,h5,λy hy=>⟨by have:=h6 y hy;omega,(h6 y hy).2⟩⟩
     have:=List.all_eq_true.1 h3 x hx
     unfold riG MN at this
     simp only[Bool.and_eq_true,decide_eq_true_eq] at this
     unfold Ht;omega
theorem CDA:AH Try.prog BCR (C_Flow.spec dGBt):=Ctr.spec_ok (C:=C_Flow) (λ(a:GBt) h=>by
 have h:preT a:=(show preT a/\True from h).1
 by_cases hE:RN (V5 a)=0
 ·cases hT:inT a with
  |true=>
   refine Dy (A:=BHH) (L:=[]) (keep:=[]) (ren:=[]) (fz:=[]) ATT (by kernel_rfl) (AA CMN (AA BEG AD)) ?_
   show BJQ a;rw[BUO]<;> delta LI UD KA LV JY LL HV GZ JJ HU EZ AK AN FI AE BA BN IQ CV DC ER Ff Gn Dj nI mA BP GU TA HT LH Ft Hh Fc Ro DJ Df Qa Cz eA Og Vy Vz Mt Wi AG AI AO AJ DF Ri VW QM Dc IT AS EL BB gQ DY IG BG gO HC RQ DI E4 JH DO HD AQ Gc JI MX JO KC MM EX CI Hn OS GI NK UG GM FH RR EO HQ BK IY U9 HI Ga KO RJ oU IA DV Ei FE UA Ve KL EF BQ BU ON OR Cq US Ap WH OE JR FY Uz MG Dk GF lS HJ CQ Ha Jt TO NV GX NH NB HP NE NW OG OP Kt OJ KV QA QO Me SI uH QV Ue Ik Jm Ej Qu Zn Sg iO;simp only[CC,CU,P3,BHA,CGR,CHL,BJL,show GBt.mk a.g a.b a.t=a from rfl,show BkT.mk (Ca (V5 a)) a.t=bkT a from rfl]
   have hi:0<=a.t/\a.t<=2000:=by
    unfold inT MN at hT;simpa using hT
   have hb:gI (V5 a).g (V5 a).b:=BIM hE
   refine⟨⟨h,hE,hT⟩,⟨hb,hi⟩,λhc=>?_,λhc=>?_⟩
   ·have e:Mw a=6:=by unfold Mw;rw[hE,hT,decide_eq_true (show (lB (bkT a)).length=0 by omega)];rfl
    have e2:SZ a=default:=by unfold SZ;rw[e];rfl
    rw[e2];exact⟨rfl,rfl,rfl,rfl,e⟩
   ·have e:Mw a=0:=by unfold Mw;rw[hE,hT,decide_eq_false hc];rfl
    have e2:SZ a=bndM (lB (bkT a)) a.t:=by unfold SZ;rw[e];rfl
    rw[e2];exact⟨rfl,rfl,rfl,rfl,e⟩
  |false=>
   refine Dy (A:=BFB) (L:=[]) (keep:=[]) (ren:=[]) (fz:=[]) ATT (by kernel_rfl) (AA CDB (AA BEG AD)) ?_
   show BGA a;rw[BPL];simp only[CC,CU,show GBt.mk a.g a.b a.t=a from rfl]
   have e:Mw a=4:=by unfold Mw;rw[hE,hT];rfl
   have e2:SZ a=default:=by unfold SZ;rw[e];rfl
   rw[e2];exact⟨⟨h,hE,hT⟩,rfl,rfl,rfl,rfl,e⟩
 ·refine Dy (A:=BHK) (L:=[]) (keep:=[]) (ren:=[]) (fz:=[]) ATT (by kernel_rfl) (AA CBC (AA BEG AD)) ?_
  show BHG a;rw[BXL]<;> delta KA LV JY cI EZ AK AN FI AE BA BN IQ Ff mM Gn Dj nI mA FT BP GU eA Vy Vz Mt Wi AG AI AO AJ VW QM EL BB DY HC DI JH DO HD Gc JI JO KC MM CI Hn OS NK GM RR BK IY FK oU IA DV FE KL EF BQ BU ON OR OE CQ NB HP NW OG QW OJ iO Vf;simp only[CC,CU,show GBt.mk a.g a.b a.t=a from rfl]
  have e:Mw a=RN (V5 a):=by unfold Mw;rw[show (RN (V5 a)==0)=false by simpa using hE];rfl
  have e2:SZ a=default:=by unfold SZ;rw[e,show (RN (V5 a)==0)=false by simpa using hE];rfl
  rw[e2];exact⟨⟨h,hE⟩,λ_=>⟨rfl,rfl,rfl,rfl,e⟩,λhc=>hE (by simpa using hc)⟩) _
end Go.Bal
