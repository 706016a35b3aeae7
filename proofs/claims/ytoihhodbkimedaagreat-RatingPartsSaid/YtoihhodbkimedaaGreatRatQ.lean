/- Package rating: knots. -/
import Derived.Test.YtoihhodbkimedaaGreatRatO
set_option linter.unusedVariables false
set_option linter.unusedSimpArgs false
namespace Go.Bal
open Go Go.Sym Go.Proofs
def C_isKnot:Ctr:={ C_line with val:=λ(s:List Gau)=>.bool (!(DC s).2) }
def BDN(s:List Gau):Prop:=BQ Try.prog (ann 12 [(AFL,C_line.spec dGsK)]) AMI (AI AMI) (C_isKnot.xs s) (AD []) (C_isKnot.val s) [] [] []
abbrev AAK:=@Prod.snd Ln Bool
abbrev gL a:=AAK (DC (BH a))
abbrev Kt a:=not (gL a)
abbrev RZ a:=RO (BH a)
abbrev FN a:=II (HY a)
attribute [go_sem] AAK gL Kt RZ FN
theorem BQU(s:List Gau):(BDN s)=(DY (CE s) (BB s) (FN s) (RZ s) (JT (not (AAK (DC s))) (Kt s))):=by kernel_rfl
structure GG where
 a:Gau
 b:Gau
def dGG:List AVal->Option GG
 |[.d (.agg [.v (.int .i64 a),.v (.int .i64 b),.v (.int .i64 c)]),.d (.agg [.v (.int .i64 p),.v (.int .i64 q),.v (.int .i64 r)])]=>some ⟨⟨a,b,c⟩,⟨p,q,r⟩⟩
 |_=>none
def xGG(a:GG):List AVal:=[.d (jI a.a),.d (jI a.b)]
def CLH:=pD dGG λa=>.int (Oz a.a.st a.b.st)
def CLX(a:GG):Prop:=BQ Try.prog (ann 10 [(sV,G6)]) AOO (AI AOO) (xGG a) (AD []) (.int (Oz a.a.st a.b.st)) [] [] []
theorem CQN(a:GG):(CLX a)=(AM (Mo (EE (GG.a a)) (EE (GG.b a)))):=by kernel_rfl
def srtK(s:List Gau):Nat->Bool
 |0=>true
 |k+1=>bif decide (Oz (gD s (k+1)).st (gD s k).st<0) then false else srtK s k
def srtM(s:List Gau):Bool:=srtK s (s.length-1)
def C_sorted:Ctr:={ α:=List Gau,xs:=λs=>[.d (BX s),.fn (.func gV) [] []],L:=λ_=>[],val:=λs=>.bool (srtM s),keep:=λ_=>[],pre:=λs=>[0<s.length/\s.length<1073741824] }
def BDF:List AVal->Heap->Option (List Gau×List (Nat×Nat)×List Nat)
 |[y,.fn (.func g) [] []],H=>if g=gV then match aE y H with
  |some (l,f)=>some (l,[],f)
  |none=>none else none
 |_,_=>none
def so2(s:List Gau):Shape:={ α:=Nat,dflt:=0,T:=λk=>⟨[(0,.d (BX s)),(1,.fn (.func gV) [] []),(5,.int k)],[]⟩,inv:=λk=>k+1<=s.length/\srtM s=srtK s k,meas:=λk=>k }
def BCV(s:List Gau):Ann:={ ann 25 [(gV,CLH)] with loops:=λid=>if id=2 then some [so2 s] else none }
def BBY(s:List Gau):Prop:=BQ Try.prog (BCV s) AMJ (AI AMJ) (C_sorted.xs s) (AD []) (C_sorted.val s) [] [] []
abbrev Fh a b c:=CS a (LC b) c
abbrev Gi a b:=HI a (CI b)
attribute [go_sem] Fh Gi
theorem BRU(s:List Gau):(BBY s)=(DJ (λi=>AG (MY s (CQ i (JZ (EY s)))) (FX (EO i) s) (JT (srtM s) (srtK s i))) (λi=>FL (OU (EO i) s (JT (srtM s) (srtK s i))) (vC i) (AG (IB i s) (BC (US i)) (Gi (US i) s)) (Fh (YL (AH s i) (AH s (UO (AQ i)))) (srtM s) (FB (λj=>BW (MY s (CQ j (US i))) (OU (EO j) s (JT (srtM s) (srtK s j))) j i))) (EL (srtM s)))):=by kernel_rfl
structure GK where
 g:List Gau
 k:List Int
def dGK:List AVal->Heap->Option (GK×List (Nat×Nat)×List Nat)
 |[x,y],H=>match aE x H,tT y H with
  |some (l,f),some (m,e)=>some (⟨l,m⟩,[],f ++ e)
  |_,_=>none
 |_,_=>none
def xGK(a:GK):List AVal:=[.d (BX a.g),.d (CZ a.k)]
def By(a:GK):List Gau:=a.k.map λi=>gD a.g i.toNat
def Sp(a:GK):Bool:=bif QY a.k.length 2 3 then a.k.all λx=>QY x 0 (wr (a.g.length-1)) else false
def nmB(s:List Gau):Bool:=bif srtM s then decide ((gD s 0).st<(gD s (s.length-1)).st) else false
def Gr(a:GK):List Gau×Bool:=bif Sp a then (By a,nmB (By a)) else ([],false)
def C_named:Ctr:={ α:=GK,xs:=xGK,L:=λ_=>[],val:=λa=>.tup [.d (BX (Gr a).1),.bool (Gr a).2],keep:=λ_=>[],pre:=λa=>[a.g.length<1073741824/\a.k.length<1073741824] }
def nm5n(a:GK):Shape:={ α:=One,dflt:=default,T:=λ_=>⟨[(2,.bptr 200 0),(6,.d ZU),(20,.d (CZ a.k)),(21,.int a.k.length),(22,.int 0)],[(200,.live (.box [.d (BX a.g)]))]⟩,inv:=λ_=>Sp a=true,meas:=λ_=>a.k.length+1,first:=[(200,1000)] }
def nm5o(a:GK):Shape:={ α:=GsK,dflt:=default,T:=λx=>⟨[(2,.bptr 200 0),(6,.own 201 3 0 x.l.length),(20,.d (CZ a.k)),(21,.int a.k.length),(22,.int x.i)],[(200,.live (.box [.d (BX a.g)])),(201,.live (rowG x.l))]⟩,inv:=λx=>Sp a=true/\1<=x.i/\x.i<=a.k.length/\x.l=(a.k.take x.i).map λi=>gD a.g i.toNat,meas:=λx=>a.k.length-x.i,again:=[(201,8096)] }
def nm9(a:GK):Shape:={ α:=One,dflt:=default,T:=λ_=>⟨[(6,.d (BX (By a)))],[]⟩,inv:=λ_=>Sp a=true,meas:=λ_=>0,ffz:=[201] }
def BKY(a:GK):Ann:={ ann 52 [(n_in,s_in),(n_eI,C4In.spec d4In),(ARN,C_sorted.spec BDF)] with mt:=λid=>id==7,loops:=λid=>if id=5 then some [nm5n a,nm5o a] else none,cut:=λid=>if id=9 then some [nm9 a] else none }
def BKT(a:GK):Prop:=BQ Try.prog (BKY a) AXI (AI AXI) (C_named.xs a) (AD []) (C_named.val a) [] [] []
abbrev IK:=GK.k
abbrev DO:=GK.g
abbrev cS:=@Prod.fst (List Gau) Bool
abbrev Mv:=@Prod.snd (List Gau) Bool
abbrev AAH:=@List.map Int Gau
abbrev Rb a:=Mv (Gr a)
abbrev TL a:=And ML (TQ a)
abbrev Pg a:=MW (HY a)
abbrev uC a:=EL (Sp a)
abbrev Yb a:=CG (IK a)
abbrev Au a b:=JF a (IK b)
abbrev nY a:=NB (CH a)
abbrev zH a b c d e f g h:=AX a b c d e f g a h
abbrev Jn a b:=EU (CM a b)
abbrev YN a b:=Jn (IK a) b
abbrev Gc a b c:=AH (DO a) (YN b c)
abbrev fQ a:=FC (IK a)
abbrev eK a:=CX (IK a)
abbrev Gh:=VO 3
abbrev Fy a b:=CM (IK a) b
abbrev Mg a b c:=ON (Fy a b) (DO c)
abbrev Cx a:=EK (IK a)
abbrev Jf a:=GD 0 a
attribute [go_sem] IK DO cS Mv AAH Rb TL Pg uC Yb Au nY zH Jn YN Gc fQ eK Gh Fy Mg Cx Jf
theorem CCT(a:GK):(BKT a)=(UN (EX (not (OE (Cx a) 2 3)) (AN (IA (IK a)) (FA (IK a)) (CE (DO a)) (NY (BB (DO a)) (KX (DO a)) (NP (DO a)) (CT (IK a)) FP))) (MS (OE (Cx a) 2 3) (not (BDC (CT (IK a)) (λi=>Hs i (wr (Qc (HY (DO a)))))))) (Yd (Ff (cS (Gr a))) (LC (Rb a))) (And (AG (Vu (λi=>DY AL DH (eK a) (QD (fQ a) (QV (IK a)) BY (AZ (DO a)) (DO a)) (uC a))) (XB (λi=>EX (Sp a) (CS (Jf (Cx a)) (DE ML (TQ (Yb a)) (BJ (Mg a 0 a) Iy Gh MP MU ZC) (gX (λj=>LN (JJ (zH (Lu j 1) (eK a) (fQ a) (QV (IK a)) (EA (CH j) 0) (AZ (DO a)) (BN (DO a)) (AK (λk=>Nm k j (Cw (Gn j k) (Gc a a HB) (HW j) k (DO a) (YN a HB)))))) (AN (uC a) (nY j) (Au (CH j) a) (Bc j (AAH (λk=>EZ (DO a) (EU k)) (iL (CH j) (IK a))))) (Yb a) (CH j) (Ht (IK a))))) (QA (cU (Ff (By a))) (uC a))))) (ACM (λi=>NJ (AN (uC a) (nY i) (Au (CH i) a) (Bc i (AAH (λj=>EZ (DO a) (EU j)) (iL (CH i) (IK a))))) (FD (CH i) (Cx a)) (IN (CH i) (IK a)) (BJ (Mg a (CH i) a) (Le (HW i) (Nm 0 i VL)) Gh MD (OC (Xp i)) (OR (Tr i) 24)) (gX (λj=>EV (JJ (zH (Lu j (Tr i)) (eK a) (fQ a) (QV (IK a)) (BS (CH j) (CH i)) (AZ (DO a)) (BN (DO a)) (AK (λk=>Nm k j (ZZ (Gn j k) (Rw k i (Gn i k) (Gc a a (CH i))) (HW j) k (Rw k i (AP (HW i) k) (AP (DO a) (YN a (CH i)))) k (Rw k i (AS (HW i) k) (AS (DO a) (YN a (CH i))))))))) (AN (uC a) (nY j) (Au (CH j) a) (Bc j (AAH (λk=>EZ (DO a) (EU k)) (iL (CH j) (IK a))))) (Yb a) (CH j) (CH i))) (QA (IQ (By a) (HW i) (FX (BP (Xp i)) (HW i)) (AK (λj=>BR j (By a) (Cw (AH (By a) j) (Gn i (BP j)) (By a) j (HW i) (BP j))))) (uC a))))) (XB (λi=>EX (Sp a) (AF (AN (CE (By a)) (BB (By a)) (Pg (By a)) (FN (By a))) (And (EX (srtM (BH (By a))) (TL (CI (By a)))) (EX (srtM (BH (By a))) (ON (JZ (EY (By a))) (By a)))) (AW (cS (Gr a)) (By a)) (ER (cS (Gr a)) (By a)) (WZ (Rb a) (srtM (BH (By a))) (GD (AH (By a) HB) (AH (By a) (UO (EY (By a))))))))))):=by kernel_rfl
def bX(a:GK):Int:=bif AV a.g==0 then (bif (Gr a).2 then 0 else 2) else AV a.g
def pY(a:GK):Bool:=bif bX a==0 then !(DC (Gr a).1).2 else false
def C_Knot:Ctr:={ α:=GK,xs:=xGK,L:=λ_=>[],val:=λa=>.tup [.bool (pY a),.int (bX a)],keep:=λ_=>[],pre:=λa=>[a.g.length<1073741824/\a.k.length<1073741824] }
def CCM:Ann:=ann 24 [(nS,C_Check.spec WJ),(xO,C_named.spec dGK),(Wx,C_isKnot.spec dGsK)]
def BSS(a:GK):Prop:=BQ Try.prog CCM BGA (AI BGA) (C_Knot.xs a) (AD []) (C_Knot.val a) [] [] []
abbrev Sq:=pY
abbrev Sk:=bX
abbrev Is a b c d:=CL a (LC b) c d
abbrev UK a b c d e:=Is a b (AO c d) e
abbrev cG a b:=GK.mk (BH a) b
abbrev pL a b:=cG a (CT b)
abbrev tV a b:=Gr (pL a b)
abbrev gF a b:=tV (DO a) (IK b)
abbrev Qo a b:=cS (gF a b)
abbrev sX a b c d e f:=BJ a b (IA c) d e f
abbrev Do a b c d e:=sX a b c (FA c) d e
abbrev Ao a:=Ep (BH a)
abbrev Cq a:=FI (Ao a)
attribute [go_sem] Sq Sk Is UK cG pL tV gF Qo sX Do Ao Cq
theorem CFM(a:GK):(BSS a)=(VE (DO a) (ZK (DO a)) (UK (Cq (DO a)) (Sq a) (Sk a) (Ao (DO a)) (And (Do (CE (DO a)) (BB (DO a)) (IK a) (FN (DO a)) (HS (IK a))) (UK (not (Mv (gF a a))) (Sq a) (Sk a) 2 (EI (CE (Qo a a)) (BB (Qo a a)) (FN (Qo a a)) (RZ (Qo a a)) (JT (Sq a) (Kt (Qo a a))) (CP (Sk a))))))):=by kernel_rfl
theorem iS:AJ Try.prog Wx (C_isKnot.spec dGsK):=VD C_isKnot (λ_=>ann 12 [(AFL,C_line.spec dGsK)]) [] [] BSG (λ_=>by kernel_rfl) (λ_=>AC AMB AE) (λ(s:List Gau) h=>by
 show BDN s;rw[BQU]<;> delta JT EE EC DP AO AR AK BV BZ DD CI EZ LZ VY AAK AG GT GV AF AT AH CA CF BH AP BR AS AW DX CR BC AN EP HU II GU HY EM FE EW FM FK MI CE SD NQ BB HZ DY FN RO RZ gL Kt;simp only[CC,eq_self,implies_true,forall_const];exact h) (λ_=>WK rfl rfl) _
theorem hGG(xs:List AVal)(a:GG)(h:dGG xs=some a):xs=xGG a:=by
 unfold dGG at h;split at h<;>cases h;rfl
theorem CPO:AJ Try.prog gV CLH:=UX xGG hGG λa _=>Mn (A:=ann 10 [(sV,G6)]) (ren:=[]) (fz:=[]) BRK (by kernel_rfl) (AC ALH AE) (by
 show CLX a;rw[CQN]<;> delta EE AO Mo AM)
theorem BQV:AJ Try.prog ARN (C_sorted.spec BDF):=VD C_sorted BCV [] [] BQT (λ_=>by kernel_rfl) (λ_=>AC CPO AE) (λ(s:List Gau) h=>by
 show BBY s;rw[BRU]<;> delta JT XL EE EC DP GD JG CS AO Mo KO AR AK BV BZ AQ BU DD ES Ba CI EZ FB EU LM AG DG AT AH CA CF AM GQ AP HA BR AS AW EO BC HH CQ HL JZ AZ ED BW EL FX HI FZ JA CL DV GF BN ON FL LC EY DJ UO IB Fh OU MY Az XG US YL Gi vC;simp only[CC,eq_self,implies_true,forall_const]
 obtain⟨h1,h2⟩:0<s.length/\s.length<1073741824:=h
 refine⟨⟨s.length-1,by rw[JH (by omega) (by omega)];omega,by omega,rfl⟩,λk ⟨hk1,hk2⟩=>⟨λhlt=>?_,λhge=>?_⟩⟩
 ·obtain⟨k,rfl⟩:∃n,k=n+1:=⟨k-1,by omega⟩
  have e:IntKind.i64.wrap (((k+1:Nat):Int)-1)=(k:Nat):=by rw[JH (by omega) (by omega)];omega
  rw[e,Int.toNat_natCast]
  unfold srtK at hk2
  refine⟨⟨⟨by omega,by omega⟩,by omega,by omega⟩,λhc=>?_,λhc=>⟨k,rfl,⟨by omega,?_⟩,by omega⟩⟩
  ·rw[hk2,decide_eq_true hc];rfl
  ·rw[hk2,decide_eq_false hc];rfl
 ·rw[hk2,show k=0 by omega];rfl) (λ_=>WK rfl rfl) _
theorem cZ{a:GK}(hg:a.g.length<1073741824)(h:Sp a=true):2<=a.k.length/\a.k.length<=3/\∀x∈a.k,0<=x/\x<a.g.length:=by
 unfold Sp at h
 cases hc:QY a.k.length 2 3 with
 |false=>rw[hc] at h;cases h
 |true=>
  rw[hc] at h
  have h:(a.k.all λx=>QY x 0 (wr (a.g.length-1)))=true:=h
  unfold QY at hc
  simp only[Bool.and_eq_true,decide_eq_true_eq] at hc
  refine⟨by omega,by omega,λx hx=>?_⟩
  have:=List.all_eq_true.1 h x hx
  unfold QY wr at this
  rw[JH (by omega) (by omega)] at this
  simp only[Bool.and_eq_true,decide_eq_true_eq] at this
  omega
theorem CHS(a:GK)(h1:a.g.length<1073741824)(h2:a.k.length<1073741824):BKT a:=by
 rw[CCT]<;> delta JT qD XL EE EC DP GD JG CS AO AR CG AK BV BZ CM AQ BU iL DD ES LX EF NK Ba UM CI EZ LZ FP BDC EU LM Vu XB Jv Mz AKR gX HW CH ACM IK DO cS Mv AAH AG GT JO GV IE DG AF AT AH FF Jn CA CF BH AM CT BL GQ JM cU Ky Yd AP HA BR AS AW DF DX EO DU CR AX BP BC HH CQ HL IC AN AL JZ AZ zH EP GI BE ED AY BW HU EL FX GC HI CX JD II JA HG EK CU EA Hb EX HY FU RH DV ZZ EM GH PG IH GF FE BJ BN BM FC EW FM FK FD LN MW ON Bt HB Ks LL KJ Ac MS CE EV IA NT DH ER BS JF JS ZX JQ BY LC BB EY FA NB DY Cz OE Ht HP Db FN RN DE Cx UO OA VO YN QV ZG JJ MC LP Fy ML OR IQ Qc KX IN UP QA TQ In YS Xp MD NP MU Au Bc VL OC MP NJ QD Gn Gc Ak TL NY UN WZ Gh Lu Pg Rb ZC Mg Tr Ff Nm fQ Iy Hs Ry Cw eK Rw Yb nY Le uC Jf;simp only[CC,eq_self,implies_true,forall_const]
 have hk:∀{i:Nat},Sp a=true->i<a.k.length->0<=gD a.k i/\gD a.k i<a.g.length:=λh hi=>(cZ h1 h).2.2 _ (CV hi)
 have hl:∀i,((a.k.take i).map λi=>gD a.g i.toNat).length<=a.k.length:=λi=>by simp;omega
 have hnl:(By a).length=a.k.length:=by unfold By;simp
 refine⟨λ_=>by omega,λhb=>?_,λhb=>⟨⟨⟨default,?_⟩,λhn=>⟨λhlt=>⟨⟨by omega,by omega⟩,⟨hk hn (by omega),by omega,by omega,by omega,by omega,by omega⟩,⟨1,[gD a.g (gD a.k 0).toNat]⟩,⟨rfl,rfl,rfl,λi hi=>?_⟩,⟨hn,by show 0<1;omega,by show 1<=_;omega,?_⟩,by show a.k.length-1<_;omega⟩,λhge=>?_⟩,λx ⟨hn,x1,x2,x3⟩=>⟨λhlt=>⟨⟨by omega,by omega⟩,⟨hk hn (by omega),by omega,λh=>(by cases h),?_,?_⟩,⟨x.i+1,x.l ++ [gD a.g (gD a.k x.i).toNat]⟩,⟨by simp,(CN (by omega)).symm,by simp,BNC _ _⟩,⟨hn,by show 0<x.i+1;omega,by show x.i+1<=_;omega,?_⟩,by show a.k.length-(x.i+1)<_;omega⟩,λhge=>⟨default,?_,hn⟩⟩⟩,λhn=>?_⟩⟩
 ·have e:Sp a=false:=by
   unfold Sp
   cases hc:QY a.k.length 2 3 with
   |false=>rfl
   |true=>rw[hc] at hb;simpa using hb
  have:Gr a=([],false):=by unfold Gr;rw[e];rfl
  rw[this];exact⟨rfl,rfl,rfl⟩
 ·unfold Sp
  cases hc:QY a.k.length 2 3 with
  |false=>rw[hc] at hb;cases hb
  |true=>rw[hc] at hb;simpa using hb
 ·have hi:i<1:=hi
  rw[show i=0 by omega];exact⟨rfl,rfl,rfl⟩
 ·show [gD a.g (gD a.k 0).toNat]=(a.k.take 1).map _
  rw[ND (by omega:0<a.k.length)];rfl
 ·have:=cZ h1 hn;omega
 ·have:=hl x.i;rw[<-x3] at this;omega
 ·have:=hl x.i;rw[<-x3] at this;omega
 ·show x.l ++ _=(a.k.take (x.i+1)).map _
  rw[ND (by omega:x.i<a.k.length),List.map_append,x3];rfl
 ·have:x.l=By a:=by rw[x3,List.take_of_length_le (by omega)];rfl
  rw[this];exact⟨rfl,Nat.le_refl _,λ_ _=>⟨rfl,rfl,rfl⟩⟩
 ·have:=cZ h1 hn
  have e:Gr a=(By a,nmB (By a)):=by unfold Gr;rw[hn];rfl
  rw[e,JH (by omega) (by omega)]
  refine⟨⟨by omega,by omega⟩,⟨λ_=>⟨by omega,by omega⟩,λ_=>⟨by omega,by omega⟩⟩,rfl,λ_ _=>⟨rfl,rfl,rfl⟩,?_⟩
  rw[show ((By a).length-1:Int).toNat=(By a).length-1 by omega];rfl
theorem ABB:AJ Try.prog xO (C_named.spec dGK):=VD C_named BKY [] [] BXB (λ_=>by kernel_rfl) (λ_=>AC uN (AC CTJ (AC BQV AE))) (λ(a:GK) h=>CHS a h.1 h.2) (λ_=>WK rfl rfl) _
theorem BID{a:GK}(hg:∀g∈a.g,RK g)(h1:a.g.length<1073741824):(Gr a).1.length<1073741824/\∀g∈(Gr a).1,RK g:=by
 unfold Gr
 cases hc:Sp a with
 |false=>exact⟨by show 0<_;omega,λg hg=>by cases hg⟩
 |true=>
  have:=cZ h1 hc
  refine⟨by show (By a).length<_;unfold By;rw[List.length_map];omega,λg hgm=>?_⟩
  have hgm:g∈By a:=hgm
  unfold By at hgm
  obtain⟨x,hx,rfl⟩:=List.mem_map.1 hgm
  have:=this.2.2 x hx
  exact hg _ (CV (by omega))
theorem NV{g:List Gau}(h:AV g=0):(1<=g.length/\g.length<=24)/\∀x∈g,RK x:=by
 unfold AV at h
 cases h2:QY g.length 1 24 with
 |false=>rw[h2] at h;cases h
 |true=>
  rw[h2] at h
  cases h3:g.all riG with
  |false=>rw[h3] at h;cases h
  |true=>
   unfold QY at h2
   simp only[Bool.and_eq_true,decide_eq_true_eq] at h2
   refine⟨by omega,λx hx=>?_⟩
   have:=List.all_eq_true.1 h3 x hx
   unfold riG QY at this
   simp only[Bool.and_eq_true,decide_eq_true_eq] at this
   unfold RK;omega
theorem BLP:AJ Try.prog AWQ (C_Knot.spec dGK):=VD C_Knot (λ_=>CCM) [] [] CEK (λ_=>by kernel_rfl) (λ_=>AC jM (AC ABB (AC iS AE))) (λ(a:GK) h=>by
 show BSS a;rw[CFM]<;> delta JT XL EE EC DP WI CS AO AR CG AK BV BZ CM DD NK CI EZ LZ FP VY Ep AAK IK DO cS Mv Sq Sk AG GT JO GV IE AF AT AH CA CF BH CT AP BR AS AW DF DX CR BC IC AN EP GI AY HU GC II HG CL GU HY CP EM GH IH FE BJ BM EW FM FK SL MI Ac cG CE IA JS ZX SD NQ LC BB FA HZ DY HS FN pL FI tV EI Is RO Ao RZ gL gF Kt QP UK Qo ZK Cq sX VE Do;simp only[CC,eq_self,implies_true,forall_const]
 obtain⟨h1,h2⟩:a.g.length<1073741824/\a.k.length<1073741824:=h
 refine⟨by omega,λhc=>?_,λhc=>⟨⟨h1,h2⟩,λhn=>?_,λhn=>?_⟩⟩
 ·have e0:(AV a.g==0)=false:=by simpa using hc
  have e:bX a=AV a.g:=by unfold bX;rw[e0];rfl
  have e2:pY a=false:=by unfold pY;rw[e,e0];rfl
  exact⟨e2,e⟩
 all_goals
  have c0:AV a.g=0:=by simpa using hc
  have e0:(AV a.g==0)=true:=by simpa using hc
 ·have e:bX a=2:=by unfold bX;rw[e0,show (Gr a).2=false from hn];rfl
  have e2:pY a=false:=by unfold pY;rw[e];rfl
  exact⟨e2,e⟩
 ·have e:bX a=0:=by unfold bX;rw[e0,show (Gr a).2=true from hn];rfl
  have e2:pY a=!(DC (Gr a).1).2:=by unfold pY;rw[e];rfl
  exact⟨BID (NV c0).2 h1,e2,e⟩) (λ_=>WK rfl rfl) _
end Go.Bal
