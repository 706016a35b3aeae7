/- Package level: Check. Printed by gengau.py. -/
import Derived.Test.YtbmlgdlbffmjjaaGreatGaA
import Derived.Test.YtbmlgdlbffmjjaaGreatRatE
import Derived.Test.YtbmlgdlbffmjjaaGreatGaI
set_option linter.unusedVariables false
set_option linter.unusedSimpArgs false
namespace Go.Bal
open Go Go.Sym Go.Proofs
structure LNI where
 l:List Lin
 i:Int
structure LNX where
 l:List Lin
 x:Lin
def netB(l:List Lin):AObj:=.box [.int 3,.d (F2 l)]
def ckL(l:List Lin):List (Nat×AObj):=[(101,.box [.fn (.func C6) [] [.bptr 102 0]]),(102,netB l)]
def ckK(l:List Lin):List (Nat×HCell):=[(101,.live (.box [.fn (.func C6) [] [.bptr 102 0]])),(102,.live (netB l))]
def BTE(H:Heap)(id:Nat):Option (List Lin):=match H id with
 | .live (.box [_,.d (.list _ n f _)])=>some (VZ n λj=>tQ (f j))
 |_=>none
def BJO(H:Heap)(id:Nat):Option (List Lin×Nat):=match H id with
 | .live (.box [.fn _ _ [.bptr j _]])=>(BTE H j).map λl=>(l,j)
 |_=>none
def C_lCk1:Ctr:={ ro:=[102],α:=LNI,xs:=λa=>[.int a.i,.bptr 102 0],L:=λa=>[(102,netB a.l)],val:=λa=>.bool (MN a.i 0 2),keep:=λa=>[(102,.live (netB a.l))] }
def BSU:List AVal->Heap->Option (LNI×List (Nat×Nat)×List Nat)
 |[.d (.v (.int .i64 i)),.bptr id _],H=>(BTE H id).map λl=>(⟨l,i⟩,[(102,id)],[])
 |_,_=>none
def BWS:Ann:={ ann 9 [(ANL,Fh)] with E:=[102] }
def BVT(a:LNI):Prop:=AX Try.prog BWS BDN (AF BDN) (C_lCk1.xs a) (AC (C_lCk1.L a)) (C_lCk1.val a) (C_lCk1.keep a) [] []
theorem CDB(a:LNI):(BVT a)=(AQ (LI (FC (LNI.i a) 2) (FC (LNI.i a) (Re 3))) AT (JC (LNI.l a)) (RD (LNI.l a))):=by kernel_rfl
def ZO(x:Lin):Bool:=MN x.f 0 2&&(MN x.t 0 2&&(!(x.f==x.t)&&(MN x.d 0 40000&&(MN x.r (-1000000) 1000000&&MN x.e 0 10000))))
def C_lCk2:Ctr:={ ro:=[101,102],α:=LNX,xs:=λa=>[.d (eLin a.x),.bptr 101 0],L:=λa=>ckL a.l,val:=λa=>.bool (ZO a.x),keep:=λa=>ckK a.l }
def BPK:List AVal->Heap->Option (LNX×List (Nat×Nat)×List Nat)
 |[.d d,.bptr id _],H=>(BJO H id).map λp=>(⟨p.1,tQ d⟩,[(101,id),(102,p.2)],[])
 |_,_=>none
def BRZ:Ann:={ ann 36 [(ANL,Fh),(C6,C_lCk1.spec BSU)] with E:=[101,102] }
def BPN(a:LNX):Prop:=AX Try.prog BRZ BBS (AF BBS) (C_lCk2.xs a) (AC (C_lCk2.L a)) (C_lCk2.val a) (C_lCk2.keep a) [] []
abbrev mC:=LNX.x
abbrev Gi:=LNX.l
abbrev Kc:=ZO
abbrev PI a b c d e:=AQ a b (AN c d) e
abbrev GX a b c d e f g h:=FX a b c d (AK (FN b e) f) g h
abbrev NJ a b c:=AK (JP a b) c
abbrev Rw a b:=(@VZ Lin) (OG a) (λi=>Fg b i)
abbrev HC a b:=Fg (Rw a a) b
abbrev UK a b:=ZM (HC a b)
abbrev QX a b c:=NJ a b (UK a c)
abbrev NW a b c:=AK (JR a b) c
abbrev UN a b:=ZK (HC a b)
abbrev RI a b c:=NW a b (UN a c)
abbrev KM a b:=ZN (HC a b)
abbrev Ha a b:=AK a (TK b)
abbrev QL a b c:=Ha (EN a b) c
abbrev RE a b c:=QL a b (HC a c)
abbrev Gb a b:=AK a (TC b)
abbrev QE a b c:=Gb (IW a b) c
abbrev RL a b c:=QE a b (HC a c)
abbrev IQ a:=Rw a a
abbrev FT a:=OG (IQ a)
abbrev PF a b:=AN a (FT b)
abbrev UB a:=PF (OG a) a
abbrev Au a b c d e f g:=LG a (FT b) c d e f g
abbrev Bl a b c:=AK a (JP b c)
abbrev Bz a b c:=AK a (JR b c)
abbrev Cd a b c:=AK a (FN b c)
abbrev OH a b c d e f g:=Au a b c d (Cd e b a) (Bz f b a) (Bl g b a)
abbrev Ca a b c:=AK a (EN b c)
abbrev ON a b c:=Ca (TK a) b c
abbrev Cq a b c:=AK a (IW b c)
abbrev OR a b c:=Cq (TC a) b c
abbrev IM a b c d e f g:=OH a b (OR (HC b c) b c) (ON (HC b d) b d) (KM b e) (UN b f) (UK b g)
abbrev Dx a b:=AN a (OG b)
abbrev FM a:=Dx (FT a) a
abbrev Sb:=FF 3
attribute [go_sem] mC Gi Kc PI GX NJ Rw HC UK QX NW UN RI KM Ha QL RE Gb QE RL IQ FT PF UB Au Bl Bz Cd OH Ca ON Cq OR IM Dx FM Sb
theorem CDP(a:LNX):(BPN a)=(LR (PI (AJ (TC (mC a))) AT (FT (Gi a)) (OG (Gi a)) (Af (λi=>IM i (Gi a) i i i i i) AT (UB (Gi a)) (AE (λi=>GX i (Gi a) (RL (Gi a) i i) (RE (Gi a) i i) i (KM (Gi a) i) (RI (Gi a) i i) (QX (Gi a) i i))) (FV (FC (TC (mC a)) 2) (CM (AJ (TK (mC a))) Sb (LR (FM (Gi a)) (AE (λi=>IM i (Gi a) i i i i i)) AT (UB (Gi a)) (λi=>GX i (Gi a) (RL (Gi a) i i) (RE (Gi a) i i) i (KM (Gi a) i) (RI (Gi a) i i) (QX (Gi a) i i))))))) (HX (Kc (mC a)) (BZ (BZ (BZ (BZ (FC (TC (mC a)) 2) (FC (TK (mC a)) 2)) (cN (TC (mC a)) (TK (mC a)))) (FC (ZN (mC a)) 40000)) (MN (ZK (mC a)) (-1000000) 1000000)) (FC (ZM (mC a)) 10000)) AT (JC (Gi a)) (λi=>ND i (Gi a))):=by kernel_rfl
theorem CEY:AH Try.prog C6 (C_lCk1.spec BSU):=PU C_lCk1 (λ_=>BWS) [] [] CEX (λ_=>by kernel_rfl) (λ_=>AA ATO AD) (λ(a:LNI) _=>by
 show BVT a;rw[CDB]<;> delta LI AK AN AE BA BM NE Nn FF TK TC OG Fg ZN ZK ZM CS AG AI AO AJ AR IV BO AQ LG JP JR AT IW EN FX FN JC XN YR XL YB YL FC ND RD Re;simp only[CC,CU,CF];try rfl) (λ_=>RR rfl rfl) _
theorem CAO:AH Try.prog AUT (C_lCk2.spec BPK):=PU C_lCk2 (λ_=>BRZ) [] [] CCZ (λ_=>by kernel_rfl) (λ_=>AA ATO (AA CEY AD)) (λ(a:LNX) _=>by
 show BPN a;rw[CDP]<;> delta LI Wo UD cN HU AK AN AE BA BM FF TK TC OG Fg ZN ZK ZM mC Gi Kc AG AI AO AJ AR CM Rw BO AQ HC IQ FT LG JP GI JR AT IW EN FV FX FN PI BZ JC XN YR XL Cd YB Ca Dx UK YL Cq UN FC Bz KM OR ON Bl Au LR FM ND PF Gb HX Ha QE QL NW NJ GX OH IM UB QX RI RE Af RL Sb;simp only[CC,CU,CF]
 unfold ZO
 rw[show (a.x.f != a.x.t)=!(a.x.f==a.x.t) from rfl]
 generalize (a.x.f==a.x.t)=b
 cases MN a.x.f 0 2<;>cases MN a.x.t 0 2<;>cases b<;>cases MN a.x.d 0 40000<;>cases MN a.x.r (-1000000) 1000000<;>rfl) (λ_=>RR rfl rfl) _
def LXKn(q:(List Lin)):List (Nat×AObj):=[(101,.box [.fn (.func C6) [] [.bptr 102 0]]),(102,netB q)]
def KXKn(q:(List Lin)):List (Nat×HCell):=[(101,.live (.box [.fn (.func C6) [] [.bptr 102 0]])),(102,.live (netB q))]
def fvKn(q:(List Lin)):AVal:=.fn (.func AUT) [] [.bptr 101 0]
def BKn(q:(List Lin)):AObj:=.box [fvKn q]
structure EKn where
 q:(List Lin)
 e:Lin
structure MKn where
 q:(List Lin)
 l:List Lin
def C1Kn:Ctr:={ ro:=[100,101,102],α:=EKn,xs:=λa=>[.d (eLin a.e),.bptr 100 0],L:=λa=>(100,BKn a.q) :: LXKn a.q,val:=λa=>.bool (!ZO a.e),keep:=λa=>(100,.live (BKn a.q)) :: KXKn a.q,pre:=λa=>[True] }
def d1Kn:List AVal->Heap->Option (EKn×List (Nat×Nat)×List Nat)
 |[.d d,.bptr id _],H=>match H id with
  | .live (.box [.fn _ _ [.bptr j _]])=>match BJO H j with
   |some p=>some (⟨p.1,tQ d⟩,[(100,id),(101,j),(102,p.2)],[])
   |none=>none
  |_=>none
 |_,_=>none
def A1Kn:Ann:={ ann 8 [(AUT,C_lCk2.spec BPK)] with E:=[100,101,102] }
def V1Kn(a:EKn):Prop:=AX Try.prog A1Kn BXM (AF BXM) (C1Kn.xs a) (AC (C1Kn.L a)) (C1Kn.val a) (C1Kn.keep a) [] []
abbrev ABP:=EKn.e
abbrev mB:=EKn.q
attribute [go_sem] ABP mB
theorem CQJ(a:EKn):(V1Kn a)=(LR (CM (AJ (TC (ABP a))) (TK (ABP a)) (eR (AJ (ZN (ABP a))) (AJ (ZK (ABP a))) (AJ (ZM (ABP a))) AT (FM (mB a)) (AE (λi=>IM i (mB a) i i i i i)) (UB (mB a)) (AE (λi=>GX i (mB a) (RL (mB a) i i) (RE (mB a) i i) i (KM (mB a) i) (RI (mB a) i i) (QX (mB a) i i))))) (Eb (Kc (ABP a))) AT (JC (mB a)) (λi=>ND i (mB a))):=by kernel_rfl
theorem CQP:AH Try.prog AZL (C1Kn.spec d1Kn):=PU C1Kn (λ_=>A1Kn) [] [] CNF (λ_=>by kernel_rfl) (λ_=>AA CAO AD) (λ(a:EKn) h=>by
 have h:True:=h
 show V1Kn a;rw[CQJ]<;> delta LI AK AN AE BA BM FF TK TC OG Fg ZN ZK ZM Kc ABP mB AG AI AO AJ AR DR AS CM eR Rw BO HC IQ FT LG JP JR AT IW EN FX FN JC XN YR XL Cd YB Ca Dx UK YL Cq UN Bz KM OR ON Bl Au LR FM ND PF Gb Ha QE QL NW NJ GX OH IM UB QX RI RE Eb RL;try simp[wr,Gw,CF,CDY,h]) (λ_=>RR rfl rfl) _
def d2Kn:List AVal->Heap->Option (MKn×List (Nat×Nat)×List Nat)
 |[y,.fn _ _ [.bptr id _]],H=>match xZ y H with
  |some (n,g,f)=>match H id with
   | .live (.box [.fn _ _ [.bptr j _]])=>match BJO H j with
    |some p=>some (⟨p.1,VZ n λi=>tQ (g i)⟩,[(100,id),(101,j),(102,p.2)],f)
    |none=>none
   |_=>none
  |none=>none
 |_,_=>none
def A2Kn(a:MKn):Ann:={ ann 19 [(AZL,C1Kn.spec d1Kn)] with E:=[100,101,102],loops:=λid=>if id=2 then some [{ α:=Nat,dflt:=0,T:=λk=>⟨[(0,.d (F2 a.l)),(1,.fn (.func AZL) [] [.bptr 100 0]),(7,.int a.l.length),(8,.int k)],(100,.live (BKn a.q)) :: KXKn a.q⟩,inv:=λk=>k<=a.l.length/\aX (λi=>!ZO (gD a.l i)) a.l.length 0=aX (λi=>!ZO (gD a.l i)) (a.l.length-k) k,meas:=λk=>a.l.length-k }] else none }
def PKn(a:MKn):List Prop:=[a.l.length<4611686018427387904/\True]
def C2Kn:Ctr:={ ro:=[100,101,102],α:=MKn,xs:=λa=>[.d (F2 a.l),.fn (.func AZL) [] [.bptr 100 0]],L:=λa=>(100,BKn a.q) :: LXKn a.q,val:=λa=>.int (aX (λi=>!ZO (gD a.l i)) a.l.length 0),keep:=λa=>(100,.live (BKn a.q)) :: KXKn a.q,pre:=PKn }
def V2Kn(a:MKn):Prop:=AX Try.prog (A2Kn a) BXF (AF BXF) (C2Kn.xs a) (AC (C2Kn.L a)) (C2Kn.val a) (C2Kn.keep a) [] []
abbrev ZT:=MKn.l
abbrev OB:=MKn.q
abbrev jB a:=JC (OB a)
abbrev YM a:=OG (ZT a)
abbrev Tb a b:=Kc (Fg (ZT a) b)
attribute [go_sem] ZT OB jB YM Tb
theorem CSA(a:MKn):(V2Kn a)=(TU (λi=>FD (FJ (JC (ZT a)) (RD (ZT a)) (EI (YM a)) (BD i) AT (jB a) (RD (OB a))) i (YM a) (WZ (λj=>Tb a j) (YM a) (λj=>Tb a j) (KJ (YM a) i) i)) (λi=>UT (CJ i (YM a) (WZ (λj=>Tb a j) (YM a) (λj=>Tb a j) (KJ (YM a) i) i)) i (YM a) (AI (BE i (YM a)) (XL (ZT a) i) (YR (ZT a) i) (XN (ZT a) i) (AS (YB (ZT a) i) (YL (ZT a) i) AT (FM (OB a)) (AE (λj=>IM j (OB a) j j j j j)) AT (UB (OB a)) (AE (λj=>GX j (OB a) (RL (OB a) j j) (RE (OB a) j j) j (KM (OB a) j) (RI (OB a) j j) (QX (OB a) j j))) FW)) (not (Tb a i)) (AQ (Kz (λj=>Tb a j) (YM a) (BH i)) AT (jB a) (RD (OB a))) (CG (λj=>EY (FJ (JC (ZT a)) (RD (ZT a)) (EI (YM a)) (AU j i) AT (jB a) (RD (OB a))) (CJ j (YM a) (WZ (λk=>Tb a k) (YM a) (λk=>Tb a k) (KJ (YM a) j) j)) (YM a) j i)) (AQ (Kz (λj=>Tb a j) (YM a) (-1)) AT (jB a) (RD (OB a))))):=by kernel_rfl
theorem p2Kn(a:MKn)(h:CR (PKn a)):V2Kn a:=by
 obtain⟨h,hp⟩:a.l.length<4611686018427387904/\True:=h
 rw[CSA]<;> delta NL FA AK AN AE BA BM BH CW DC ER NE TD KJ FF TK TC FW OG Fg ZN ZK ZM CG Kc ZT OB CS AG AI AO AJ AR AS BF DN Rw BO GH AQ HC IQ EI EA DG FB FP FT LG JP EV JR AT DT IW JA EN AU EW FX FN FJ BE IA CJ LB HK Gr JC XN YR XL BD Cd YB Ca Dx UK HE YL Cq UN FD Bz KM OR ON Bl Bu Au SG FM TF EY ND RD PF Gb Ha QE QL NW UT NJ GX OH YM Kz WZ IM UB QX RI RE TU Tb RL jB
 simp only[CC,CU,CF]
 refine⟨⟨0,rfl,Nat.zero_le _,rfl⟩,λk ⟨h1,h2⟩=>⟨λhlt=>?_,λhge=>?_⟩⟩
 ·have hlt:k<a.l.length:=by omega
  refine⟨⟨by omega,by omega⟩,λhp=>?_,λhp=>⟨k+1,(GJ (by omega)).symm,⟨by omega,?_⟩,by omega⟩⟩
  ·rw[h2];exact mO hlt (by simpa using hp)
  ·rw[h2];exact P9 hlt (by simpa using hp)
 ·rw[h2];exact xN (by omega)
theorem CRB:AH Try.prog BPB (C2Kn.spec d2Kn):=PU C2Kn A2Kn [] [] COX (λ_=>by kernel_rfl) (λ_=>AA CQP AD) p2Kn (λ_=>RR rfl rfl) _
def C3Kn:Ctr:={ C2Kn with val:=λ(a:MKn)=>.bool (decide (aX (λi=>!ZO (gD a.l i)) a.l.length 0>=0)) }
def d3Kn:List AVal->Heap->Option (C3Kn.α×List (Nat×Nat)×List Nat):=d2Kn
def A3Kn:Ann:={ ann 9 [(BPB,C2Kn.spec d2Kn)] with E:=[100,101,102] }
def V3Kn(a:MKn):Prop:=AX Try.prog A3Kn BRE (AF BRE) (C3Kn.xs a) (AC (C3Kn.L a)) (C3Kn.val a) (C3Kn.keep a) [] []
abbrev LN(a:Nat->Prop) b c d e f g h p:=AS (AE a) b c d e f g h p
abbrev EX(a:Nat->Prop) b c d e f(g:Nat->Prop) h p:=LN a b c d e f (AE g) h p
attribute [go_sem] LN EX
theorem CTR(a:MKn):(V3Kn a)=(LR (And (FM (ZT a)) (EX (λi=>IM i (ZT a) i i i i i) AT (FM (OB a)) (AE (λi=>IM i (OB a) i i i i i)) AT (UB (OB a)) (λi=>GX i (OB a) (RL (OB a) i i) (RE (OB a) i i) i (KM (OB a) i) (RI (OB a) i i) (QX (OB a) i i)) (HP (FT (ZT a))) FW)) (LI (SQ (λi=>Tb a i) (YM a)) (SQ (λi=>Kc (HC (ZT a) i)) (FT (ZT a)))) AT (jB a) (λi=>ND i (OB a))):=by kernel_rfl
theorem CTE:AH Try.prog BQV (C3Kn.spec d3Kn):=Ctr.spec_ok (C:=C3Kn) (λ(a:MKn) h=>Ee (A:=A3Kn) (ren:=[]) (fz:=[]) CMQ (by kernel_rfl) (AA CRB AD) (by
 obtain⟨h,hp⟩:a.l.length<4611686018427387904/\True:=h
 show V3Kn a;rw[CTR]<;> delta LI G4 AK AN AE BA BM FF TK TC FW OG Fg ZN ZK ZM Kc ZT OB AG AI AO AJ AR AS Rw BO LN HC IQ FT LG JP JR AT IW EN EX FX FN Gr JC XN YR XL Cd YB Ca Dx UK YL Cq UN Bz KM OR ON Bl Bu Au LR FM ND PF Gb Ha QE HP QL NW NJ GX OH YM Lw SQ IM UB QX RI RE Tb RL jB;simp[h,hp,Gw,CF])) _
def d4Kn:List AVal->Heap->Option (MKn×List (Nat×Nat)×List Nat)
 |[y,.fn _ _ [.bptr j _]],H=>match xZ y H with
  |some (n,g,f)=>match BJO H j with
   |some p=>some (⟨p.1,VZ n λi=>tQ (g i)⟩,[(101,j),(102,p.2)],f)
   |none=>none
  |none=>none
 |_,_=>none
def A4Kn:Ann:={ ann 9 [(BQV,C3Kn.spec d3Kn)] with E:=[101,102] }
def C4Kn:Ctr:={ ro:=[101,102],α:=MKn,xs:=λa=>[.d (F2 a.l),fvKn a.q],L:=λa=>LXKn a.q,val:=λa=>.bool (a.l.all λx=>ZO x),keep:=λa=>KXKn a.q,pre:=PKn }
def V4Kn(a:MKn):Prop:=AX Try.prog A4Kn F_eN (AF F_eN) (C4Kn.xs a) (AC (C4Kn.L a)) (C4Kn.val a) (C4Kn.keep a) [] []
abbrev rM:=@List.all Lin
attribute [go_sem] rM
theorem CTM(a:MKn):(V4Kn a)=(LR (And (FM (ZT a)) (EX (λi=>IM i (ZT a) i i i i i) AT (FM (OB a)) (AE (λi=>IM i (OB a) i i i i i)) AT (UB (OB a)) (λi=>GX i (OB a) (RL (OB a) i i) (RE (OB a) i i) i (KM (OB a) i) (RI (OB a) i i) (QX (OB a) i i)) (HP (FT (ZT a))) FW)) (Am (rM (ZT a) Kc) (SQ (λi=>Kc (HC (ZT a) i)) (FT (ZT a)))) AT (jB a) (λi=>ND i (OB a))):=by kernel_rfl
theorem CQG(a:MKn)(h:CR (PKn a)):FnT Try.prog n_eN (C4Kn.xs a) (AC (C4Kn.L a)) (C4Kn.val a) (C4Kn.keep a):=Ee (A:=A4Kn) (ren:=[]) (fz:=[]) CRZ (by kernel_rfl) (AA CTE AD) (by
 have h':a.l.length<4611686018427387904/\True:=h
 show V4Kn a;rw[CTM]<;> delta LI G4 AK AN AE BA BM FF TK TC FW OG Fg ZN ZK ZM Kc ZT OB rM AG AI AO AJ AR AS Rw BO LN HC IQ FT LG JP JR AT IW EN EX FX FN Gr JC XN YR XL Cd YB Ca Dx UK YL Cq UN Bz KM OR ON Bl Bu Au LR FM ND PF Gb Ha QE HP QL NW NJ GX OH Lw SQ IM UB QX RI RE RL Am jB;simp only[CC,CU,CF,ge_iff_le]
 rw[<-nH]
 exact⟨h'.1,rfl⟩)
theorem CSG:AH Try.prog n_eN (C4Kn.spec d4Kn):=Ctr.spec_ok (C:=C4Kn) CQG _
def C_lCheck:Ctr:={ α:=List Lin,xs:=λl=>[.d (R3 l)],L:=λ_=>[],val:=λ_=>.int 0,keep:=λ_=>[],pre:=λl=>[l.length<=30/\l.all ZO=true] }
def vP:List AVal->Heap->Option (List Lin×List (Nat×Nat)×List Nat)
 |[.d (.agg [_,.list _ n f _])],_=>some (VZ n λj=>tQ (f j),[],[])
 |_,_=>none
def AVO:Ann:=ann 22 [(ANL,Fh),(n_eN,C4Kn.spec d4Kn)]
def AZE(l:List Lin):Prop:=AX Try.prog AVO AHD (AF AHD) (C_lCheck.xs l) (AC []) (C_lCheck.val l) [] [] []
abbrev uP a b c d:=AI a b c a d
attribute [go_sem] uP
theorem BLK(l:List Lin):(AZE l)=(FA (PD (not (MN 3 1 12)) (Xi (BH (OG l)) 30)) (TY 0 3) (GV (And (FM l) (uP (AE (λi=>IM i l i i i i i)) AT (FM l) (Hn (UB l) (λi=>GX i l (RL l i i) (RE l i i) i (KM l i) (RI l i i) (QX l i i)) (HP (FT l)) FW))) (not (rM (IQ l) Kc)) (TY 0 20) AL)):=by kernel_rfl
theorem AMR:AH Try.prog M1 (C_lCheck.spec vP):=PU C_lCheck (λ_=>AVO) [] [] BKK (λ_=>by kernel_rfl) (λ_=>AA ATO (AA CSG AD)) (λ(l:List Lin) h=>by
 obtain⟨h1,h2⟩:l.length<=30/\l.all ZO=true:=h
 show AZE l;rw[BLK]<;> delta Wo HU FA AK Xi AN AE BA BM BH FF TK TC FW OG Fg ZN ZK ZM Kc rM AG AI AO AJ uP Rw BO HC IQ FT LG JP JR AT IW EN AL FX FN PD Cd FU Ca Dx UK Cq UN Bz KM OR ON Bl Au JX FM PF GV Gb Ha QE HP QL NW NJ GX OH TY IM UB QX RI RE Hn RL;simp only[CC,CU,CF]
 rw[show MN 3 1 12=true from rfl,decide_eq_false (show ¬((l.length:Int)>30) by omega),show (l.all λx=>ZO x)=true from h2]
 exact⟨λh=>(by cases h),λ_=>⟨(by omega),λh=>(by cases h)⟩⟩) (λ_=>RR rfl rfl) _
end Go.Bal
