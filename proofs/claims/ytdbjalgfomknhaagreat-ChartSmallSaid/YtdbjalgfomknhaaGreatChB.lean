/- Package chart: which charts are right; a chart at work. -/
import Derived.Test.YtdbjalgfomknhaaGreatChE
set_option linter.unusedVariables false
set_option linter.unusedSimpArgs false
namespace Go.Bal
open Go Go.Sym Go.Proofs
def A6:Int->List Mk->Int
 |_,[]=>0
 |a,m :: r=>bif (bif !PN m.pl 0 10000 then true else !PN m.ht 0 1000) then 30 else bif decide (m.pl<=a) then 9 else A6 m.pl r
def J3(l:List Nt)(i:Nat):Bool:=!(l.take i).any λx=>x.mi==(gD l i).mi
def Gh(c:Cht):Int:=bif (bif !PN c.ms.length 1 40 then true else decide ((c.ns.length:Int)>20)) then 3 else bif (bif (bif (bif !Hx c.p 1 600 then true else !PN c.base (-1000000) 1000000) then true else !PN c.scale 0 1000) then true else !PN c.off 0 1000) then 30 else 0
def AP(c:Cht):Int:=bif Gh c != 0 then Gh c else bif A6 (-1) c.ms != 0 then A6 (-1) c.ms else bif !c.ns.all (λn=>Du n c.ms.length) then 30 else bif Lu (J3 c.ns) c.ns.length then 0 else 10
def iT:List AVal->Heap->Option (Cht×List (Nat×Nat)×List Nat)
 |[y],H=>match tN y H with
  |some (l,f)=>some (l,[],f)
  |none=>none
 |_,_=>none
def C_Check:Ctr:={ α:=Cht,xs:=λc=>[.d (Nj c)],L:=λ_=>[],val:=λc=>.int (AP c),keep:=λ_=>[],pre:=λc=>[c.ms.length<4611686018427387904/\c.ns.length<4611686018427387904] }
def ck7(c:Cht):Shape:={ α:=NI,dflt:=default,T:=λs=>⟨[(1,.bptr 201 0),(3,.int s.m),(44,.d (dE c.ms)),(45,.int c.ms.length),(46,.int s.k)],[(201,.live (xO c))]⟩,inv:=λs=>s.k<=c.ms.length/\Gh c=0/\A6 s.m (c.ms.drop s.k)=A6 (-1) c.ms,meas:=λs=>c.ms.length-s.k,first:=[(201,1000)] }
def ck18(c:Cht):Shape:={ α:=Nat,dflt:=0,T:=λk=>⟨[(1,.bptr 201 0),(75,.d (sL c.ns)),(76,.int c.ns.length),(77,.int k)],[(201,.live (xO c))]⟩,inv:=λk=>k<=c.ns.length/\Gh c=0/\A6 (-1) c.ms=0/\c.ns.all (λn=>Du n c.ms.length)=true/\Lu (J3 c.ns) k=true,meas:=λk=>c.ns.length-k }
def BTT(c:Cht):Ann:={ ann 89 [(n_in,s_in),(xS,BUR),(n_eN,C4Nr.spec d4Nr),(BKN,C3Nc.spec d3Nc)] with loops:=λid=>if id=7 then some [ck7 c] else if id=18 then some [ck18 c] else none }
def BVD(c:Cht):Prop:=ES Try.prog (BTT c) BJJ (AJ BJJ) (C_Check.xs c) (AD []) (C_Check.val c) [] [] []
abbrev LW:=true
abbrev WB:=λ(x0 x1:Int)=>decide (x0>x1)
abbrev US:=AP
abbrev ADW:=@Exists NI
abbrev Qd:=NI.m
abbrev RO:=NI.k
abbrev ALE:=@List.drop Mk
abbrev AYL:=λ(f:NI->Prop)=>∀(x:NI),f x
abbrev HM:=Int.toNat
abbrev IV:=@HAdd.hAdd Nat Nat Nat (@instHAdd Nat instAddNat)
abbrev KE a b:=N6 a LW b
abbrev Cg a b c d:=FV (KE a b) c d
abbrev Fb a b(c:Nat->Prop)(d:Nat->Prop):=FV a b (HX c d)
abbrev FG a:=AY a 0
abbrev GZ a:=FG (US a)
abbrev EA a:=MD a LW
abbrev V9 a b:=EA (Lu a b)
abbrev kO a b:=V9 (J3 (FO a)) b
abbrev uJ a:=A6 (-1) (FX a)
abbrev Yg a:=FG (uJ a)
abbrev Ju a:=FG (Gh a)
abbrev Qc a b:=CW a (AO b)
abbrev Dq a:=EF (AO a)
abbrev Cm a b:=AY (US a) b
abbrev nX a b(c:Nat->Nat):=(@NK Nt) a (λi=>CK b (c i))
abbrev Cn:=HM 0
abbrev Bp a:=IV Cn a
abbrev Pz a:=IG a Cn
abbrev CS a b c d e f g:=AH a b (AI c d e f g)
abbrev BG a:=IV 0 a
abbrev QI a:=IG a 0
abbrev MW a b c:=CH a (IG b c)
abbrev Hr a b:=HD a (CG b)
abbrev WZ:=HD 0 0
abbrev Bq a b c d e f:=And a (AI b c d e f)
abbrev IL a:=GW (HF a)
abbrev eE a b:=CW a (AX b)
abbrev Kn a:=AF (MZ a)
abbrev JC a:=AB (λi=>GP i a)
abbrev An a b:=ZO a 0 b
abbrev Sp a b:=FK a (MZ b)
abbrev LQ a b c d e f g:=BL a (AI b c d e f) g
abbrev Nw a b c:=KE (KE a b) c
abbrev UP a b:=WB (CG a) b
attribute [go_sem] LW WB US ADW Qd RO ALE AYL HM IV KE Cg Fb FG GZ EA V9 kO uJ Yg Ju Qc Dq Cm nX Cn Bp Pz CS BG QI MW Hr WZ Bq IL eE Kn JC An Sp LQ Nw UP
theorem BXO(c:Cht):(BVD c)=(Cg (ZO (MZ c) 1 40) (UP (AO c) 20) (Cm c 3) (Cg (Nw (not (hd9 (EC c) 1 600)) (ZO (GY c) (-1000000) 1000000) (An (GX c) 1000)) (An (GR c) 1000) (Cm c 30) (And (ADW (λi=>LQ (AY (Qd i) (-1)) (GD c) (JC c) (Kn c) (CQ (RO i)) (KP c) (SY (eE (RO i) c) (Ju c) (A6 (Qd i) (ALE (RO i) (FX c))) (uJ c)))) (AYL (λi=>PY (SY (eE (RO i) c) (Ju c) (A6 (Qd i) (ALE (RO i) (FX c))) (uJ c)) (Sp (RO i) c) (CL (RO i) (AX c) (Cg (An (BE c (RO i)) 10000) (An (BS c (RO i)) 1000) (Cm c 30) (FV (hd7 (BE c (RO i)) (Qd i)) (Cm c 9) (ADW (λj=>FH (AY (Qd j) (BE c (RO i))) (AI (GD c) (JC c) (Kn c) (BA (RO j) (RO i)) (KP c)) (SY (eE (RO j) c) (Ju c) (A6 (Qd j) (ALE (RO j) (FX c))) (uJ c)) (AX c) (RO j) (RO i)))))) (BL (BO c) (Mb (AB (λj=>AT j c (AM c j) (AN c j) (AS c j) (AC c j) (AL c j) (AR c j) (AE c j))) (BY c) (EC c) (BM c) (Ar c (BW c) (DK c) (λj=>AT j c (AM c j) (AN c j) (AS c j) (AC c j) (AL c j) (AR c j) (AE c j)) (BY c) (DF c) (MR c (HS c) (λj=>JL j c) (KS c) (λj=>AU j c (EI c j) (EJ c j) (AC c j) (AS c j) (EH c j) (AE c j) (AR c j)) (IL c) IP))) (Fb (not (hd80 (IK c) (λj=>hd15 j (eZ c)))) (Cm c 30) (λj=>Bq (AI (HG c) (HI c) (Dq c) (CQ j) (KP c)) (Qc j c) (Ju c) (Yg c) (EA (hd80 (FO c) (λk=>Zl k c))) (kO c j)) (λj=>XL (AI (Qc j c) (Ju c) (Yg c) (EA (hd80 (FO c) (λk=>Zl k c))) (kO c j)) j (AO c) (QN j (AO c) (CS (AH WZ (DX j) (Hr (CG j) (AO c))) (MW (DV (nX (Pz j) c Bp)) j Cn) (AB (λk=>BJ k (DV (nX (QI j) c BG)) (DR (PH (nX (Pz j) c Bp) k) c (Bp k)) (CX (Ay (nX (Pz j) c Bp) k) c (Bp k)) (Ay (nX (Pz j) c Bp) k) (AC c (Bp k)) (CU (Ax (nX (Pz j) c Bp) k) c (Bp k)) (Ax (nX (Pz j) c Bp) k) (AE c (Bp k)))) (OR c j) (OU c j) (IS (AC c j)) (yN (OT c j) (IS (AE c j)) (OR c j) (OU c j) (IS (AC c j)) (OT c j) (GW (DV (nX (QI j) c BG))) IP)) (WF ((@List.any Nt) (nX (Pz j) c Bp) (λk=>Og (DY k) (BR c j))) (Cm c 10) (λk=>IF (AI (HG c) (HI c) (Dq c) (BA k j) (KP c)) (AI (Qc k c) (Ju c) (Yg c) (EA (hd80 (FO c) (λl=>Zl l c))) (kO c k)) (AO c) k j))) (GZ c))))))))):=by kernel_rfl
theorem BZK{α:Type}[Inhabited α]{l:List α}{k:Nat}(h:k<=l.length):(NK k λi=>gD l i)=l.take k:=by
 refine BGD (by simp[h]) λi hi=>?_
 have hi:i<k:=by simpa using hi
 rw[FF _ _ _ hi]
 simp[gD,List.getD_eq_getElem?_getD,List.getElem?_take,hi]
theorem nP{p:Nat->Bool}{n k:Nat}(hk:k<n)(h:p k=false):Lu p n=false:=by
 cases hc:Lu p n with
 |false=>rfl
 |true=>rw[Rw.1 hc k hk] at h;cases h
theorem CLE(c:Cht)(h:c.ms.length<4611686018427387904/\c.ns.length<4611686018427387904):BVD c:=by
 obtain⟨hm,hn⟩:=h
 rw[BXO]<;> delta MD N6 hd7 hd9 BH BK hd15 DY RD RU EM EO CH AB CJ CE AY CG CW FV NL HD KA UI IG EB FX EC GY GX GR GG DV FO FU KI IP hd80 Og LW WB US ADW Qd RO ALE AYL HM IV AH CK IW AX JE AI BC AV AF IK IN BI AQ JB BB AC BZ CN BF AE AO BD HK DD AZ DC BG BR BE BS BJ JQ AR BQ IS Mb LY yN BV HF CI OC EQ BL AS BM CY BY FL CF IE HR BX KL CU GW DN MW GD CX OT OR OE DF DU HY MZ DR OU HG OD EA DT KQ FE FG FW AT Ax MJ JA DX HE Ay OF EX JJ BA RG AU DO CS GZ PH HW BO BW JH AL AN AM GP ID NP FK MQ JC MN DK KE SC FT EF QD HI TQ CQ KS HS CL MR EH EJ EI JY FH IL JK Fq JL Ew Cn IF UP HX ZO PY KP QP Cg Cl LQ SY V9 Dq WZ QI Hr Ju QN Cm Bp An Zl uJ XL WF Dp Kn Pz Yg Nw Qc Bq Ar Fb kO eE nX Sp eZ;simp only[CC,eq_self,implies_true,forall_const,Nat.sub_zero,Int.toNat_zero]
 refine⟨λh1=>?_,λh1=>⟨λh2=>?_,λh2=>?_⟩⟩
 ·have e:Gh c=3:=by unfold Gh;rw[h1];rfl
  unfold AP;rw[e];rfl
 ·have e:Gh c=30:=by unfold Gh;rw[h1,h2];rfl
  unfold AP;rw[e];rfl
 have e:Gh c=0:=by unfold Gh;rw[h1,h2];rfl
 have k0:∀v:Int,v≠0->A6 (-1) c.ms=v->AP c=v:=λv hv hm=>by 
  have hv0:=hv
  have hv':(v != 0)=true:=by simpa using hv
  unfold AP;rw[e,hm,hv'];rfl
 refine⟨⟨⟨0,-1⟩,⟨rfl,rfl⟩,Nat.zero_le _,e,rfl⟩,λs ⟨s1,_,s3⟩=>⟨λhlt=>?_,λhge=>?_⟩⟩
 ·have hlt:s.k<c.ms.length:=by omega
  have hd:=AXJ hlt
  rw[hd] at s3
  refine⟨by omega,λh3=>?_,λh3=>⟨λh4=>?_,λh4=>⟨⟨s.k+1,(gD c.ms s.k).pl⟩,⟨rfl,(II (by omega)).symm⟩,⟨by show s.k+1<=_;omega,e,?_⟩,by show c.ms.length-(s.k+1)<_;omega⟩⟩⟩
  ·exact k0 30 (by decide) (by rw[<-s3];unfold A6;rw[h3];rfl)
  ·exact k0 9 (by decide) (by rw[<-s3];unfold A6;rw[h3,decide_eq_true h4];rfl)
  ·rw[<-s3];conv=>rhs;unfold A6
   rw[h3,decide_eq_false h4];rfl
 ·have hmk:A6 (-1) c.ms=0:=by rw[<-s3,List.drop_of_length_le (by omega)];rfl
  refine⟨by omega,λh3=>?_,λh3=>⟨⟨0,rfl,Nat.zero_le _,e,hmk,h3,rfl⟩,λk ⟨k1,_,_,_,k5⟩=>⟨λhlt=>?_,λhge=>?_⟩⟩⟩
  ·unfold AP;rw[e,hmk,h3];rfl
  ·have hlt:k<c.ns.length:=by omega
   have et:(NK k λi=>gD c.ns i)=c.ns.take k:=BZK (by omega)
   rw[et]
   refine⟨by omega,⟨⟨by omega,by omega,by omega⟩,λi hi=>?_,by omega⟩,λh4=>?_,λh4=>⟨k+1,(II (by omega)).symm,⟨by omega,e,hmk,h3,?_⟩,by omega⟩⟩
   ·rw[<-et,FF _ _ _ hi];exact⟨rfl,rfl,rfl,rfl,rfl⟩
   ·have hp:Lu (J3 c.ns) c.ns.length=false:=nP hlt (by unfold J3;rw[h4];rfl)
    unfold AP;rw[e,hmk,h3,hp];rfl
   ·show (Lu (J3 c.ns) k&&J3 c.ns k)=true
    unfold J3 at k5 ⊢;rw[k5,h4];rfl
  ·obtain rfl:k=c.ns.length:=by omega
   unfold AP;rw[e,hmk,h3,k5];rfl
theorem ALC:AW Try.prog AIY (C_Check.spec iT):=Je C_Check BTT [] [] CBX (λ_=>by kernel_rfl) (λ_=>AA R9 (AA CEV (AA DAG (AA DAL AK)))) CLE (λ_=>Kp rfl rfl) _
def hasN(l:List Nt)(j:Int):Bool:=l.any λx=>x.mi==j
def ntOf:List Nt->Int->Nt
 |[],_=>default
 |n :: r,j=>bif hasN r j then ntOf r j else bif n.mi==j then n else default
structure Dk where
 c:Cht
 st:Int->Int
 sp:Nat->Bool
def E6:Value:=.agg #[.int .i64 0,.int .i64 0,.int .i64 0,.int .i64 0,.int .i64 0]
def dkB(w:Dk)(m:Nat):AObj:=.abox [.int w.c.p.lo,.int w.c.p.hi,.int w.c.base,.int w.c.scale,.int w.c.off,.d (dE w.c.ms),.d (sL w.c.ns),.mref m] 40 w.sp
def dkM(w:Dk):AObj:=.imap .i64 E6 (hasN w.c.ns) (λj=>eNt (ntOf w.c.ns j)) w.st none
def dkL(w:Dk):List (Nat×AObj):=[(100,dkB w 101),(101,dkM w)]
def dkK(w:Dk):List (Nat×HCell):=[(100,.live (dkB w 101)),(101,.live (dkM w))]
def dkN(w:Dk):List (Nat×HCell):=[(0,.live (dkB w 1)),(1,.live (dkM w))]
def ADS(H:Heap)(id:Nat):Option (Dk×Nat):=match H id with
 | .live (.abox [.d a,.d b,.d c,.d d,.d e,.d (.list _ n f _),.d (.list _ m g _),.mref q] _ sp)=>match H q with
  | .live (.imap _ _ _ _ st _)=>some (⟨⟨⟨KN a,KN b⟩,KN c,KN d,KN e,NK n λi=>dMk (f i),NK m λi=>dNt (g i)⟩,st,sp⟩,q)
  |_=>none
 |_=>none
def stK(l:List Nt):Nat->Int->Int
 |0=>λ_=>0
 |k+1=>stUp (hasN (l.take k)) (stK l k) (gD l k).mi
def CM(c:Cht):Dk:=⟨c,stK c.ns c.ns.length,λ_=>false⟩
def C_open:Ctr:={ α:=Cht,xs:=λc=>[.d (Nj c)],val:=λ_=>.tup [.bptr 0 0,.int 0],keep:=λc=>dkN (CM c),pre:=λc=>[(c.ms.length<4611686018427387904/\c.ns.length<4611686018427387904)/\AP c=0] }
def C_openX:Ctr:={ α:=Cht,xs:=λc=>[.d (Nj c)],val:=λc=>.tup [.d (.v (.pointer none)),.int (AP c)],keep:=λ_=>[],pre:=λc=>[(c.ms.length<4611686018427387904/\c.ns.length<4611686018427387904)/\AP c≠0] }
def op6(c:Cht):Shape:={ α:=Nat,dflt:=0,T:=λk=>⟨[(5,.bptr 201 0),(18,.d (sL c.ns)),(19,.int c.ns.length),(20,.int k)],[(201,.live (.abox [.int c.p.lo,.int c.p.hi,.int c.base,.int c.scale,.int c.off,.d (dE c.ms),.d (sL c.ns),.mref 202] 40 λ_=>false)),(202,.live (.imap .i64 E6 (hasN (c.ns.take k)) (λj=>eNt (ntOf (c.ns.take k) j)) (stK c.ns k) none))]⟩,inv:=λk=>k<=c.ns.length,meas:=λk=>c.ns.length-k,first:=[(201,5048),(202,5016)] }
def BHK(c:Cht):Ann:={ ann 33 [(AIY,C_Check.spec iT)] with loops:=λid=>if id=6 then some [op6 c] else none }
def CEY(c:Cht):Prop:=ES Try.prog (BHK c) U3 (AJ U3) (C_open.xs c) (AD []) (C_open.val c) (C_open.keep c) [(0,201),(1,202)] []
abbrev QR:=@bne Int (@instBEqOfDecidableEq Int Int.instDecidableEq)
abbrev VS:=False
abbrev YU:=@Eq Value
abbrev AEI:=Value.agg
abbrev ADV:=@List.toArray Value
abbrev ADT:=@List.nil Value
abbrev KM:=λ(f:Int->Prop)=>∀(x:Int),f x
abbrev WU:=hasN
abbrev ED:=Nat.le
abbrev NR:=@cond Int
abbrev BES:=λ(x0 x1:Int)=>decide (x0=x1)
abbrev BN:=Dk.c
abbrev YV:=Dk.st
abbrev FA a b c:=CJ (ED a b) c
abbrev VI a b c(d:Nat->Prop)(e:Nat->Prop) f g h p:=CF a b c (AB d) e f g h p
abbrev Wy a b c(d:Nat->Prop)(e:Nat->Prop) f(g:Int->Prop)(h:Int->Prop) p:=VI a b c d e f (KM g) (KM h) p
abbrev Fw a b c(d:Nat->Prop)(e:Nat->Prop) f(g:Int->Prop)(h:Int->Prop)(p:Int->Prop):=Wy a b c d e f g h (KM p)
abbrev Ct a b c d e f:=DC (AY a b) (AZ c d) c d (AZ e f) e f
abbrev Eh a b:=ntOf (FO a) b
abbrev ZK a b:=EO (Eh a b)
abbrev Ch a b:=EM (Eh a b)
abbrev Cx a b:=DY (Eh a b)
abbrev Ff a b c d e:=Ct (Cx a b) c (Ch a b) d (ZK a b) e
abbrev cQ a b:=(@List.take Nt) a (FO b)
abbrev jA a b c:=ntOf (cQ a b) c
abbrev Vy a b c:=EO (jA a b c)
abbrev Vh a b c:=EM (jA a b c)
abbrev CO a:=BN (CM a)
abbrev sR a b:=YV (CM a) b
abbrev YS a b:=WU (FO a) b
abbrev Eo a b c:=MD (YS a b) c
abbrev LR:=YU E6 E6
abbrev TV a b c:=AV a b (GJ c)
abbrev Gi a b:=TV a 40 b
abbrev Bm a:=Gi a Iv
abbrev vF a b:=AE (CO a) b
abbrev Er a b c d:=CU (AE a b) c d
abbrev xK a b:=AC (CO a) b
abbrev Gu a b c d:=CX (AC a b) c d
abbrev MH a b c d:=DR (BR a b) c d
abbrev PT a b c:=MH a b c b
abbrev XF a b:=HE a (AO b)
abbrev Mw a b c d e f:=HY a b (BE c d) e (BS f a)
abbrev Hf a b c:=Mw a (AX b) b a c b
abbrev VH a b:=AB (λi=>Hf i a b)
abbrev VK a b:=FW (AX a) b
abbrev JU a b:=AY (GR a) b
abbrev GK a b:=JU a (GR b)
abbrev JW a b:=AY (GX a) b
abbrev GH a b:=JW a (GX b)
abbrev JZ a b:=AY (GY a) b
abbrev GO a b:=JZ a (GY b)
abbrev GM a b:=AZ (EC a) (EC b)
abbrev jN a b:=ED a (AO b)
abbrev Va a b c d e f g h p:=BB a b c d (DF e) f g h p
abbrev Aq a b c d e:=Va a b c (BY d) d (BM d) (BV d) (BQ d) e
abbrev Dy a b c d e f:=AI (AY a b) c d e f
abbrev XO a b c d e f g h:=Dy a b c (BC d e) f (BC g h)
abbrev gU a b c d e:=NR (BES a (BR b c)) d e
abbrev WH a:=BC a 0
abbrev UO a:=BD a 0
abbrev DZ a:=MD a Iv
abbrev Xg a:=Value.int RU a
abbrev vS:=Xg 0
abbrev vB a:=(@List.cons Value) vS a
abbrev fO a:=vB (vB a)
abbrev MG a:=QR a 0
abbrev MC a b c d e f:=Cht.mk a (GY b) (GX c) (GR d) e f
abbrev LZ a b c d e f:=MC a b c d e (IK f)
abbrev SZ a b:=LZ (EC a) b b b (IN b) b
abbrev FQ a:=SZ a a
abbrev Ao a:=US (FQ a)
abbrev Kl a:=MG (Ao a)
abbrev Bf a b:=AH (BY a) (DF a) b
abbrev YH a b(c:Nat->Prop)(d:Nat->Prop) e f:=MR a b c (BO a) d e f
abbrev TY a(b:Nat->Prop) c d:=Bf a (YH a (BW a) (λi=>ID i a) b c d)
abbrev RQ a:=GW (HK a)
attribute [go_sem] QR VS YU AEI ADV ADT KM WU ED NR BES BN YV FA VI Wy Fw Ct Eh ZK Ch Cx Ff cQ jA Vy Vh CO sR YS Eo LR TV Gi Bm vF Er xK Gu MH PT XF Mw Hf VH VK JU GK JW GH JZ GO GM jN Va Aq Dy XO gU WH UO DZ Xg vS vB fO MG MC LZ SZ FQ Ao Kl Bf YH TY RQ
theorem CMB(c:Cht):(CEY c)=(And (TY c (λi=>AT i c (AM c i) (AN c i) (AS c i) (AC c i) (AL c i) (AR c i) (AE c i)) (RQ c) (IL c)) (Fb (Kl c) VS (λi=>BL (HG c) (Aq (HI c) (Dq c) (CQ i) c (Fw (GD c) (JC c) (HG c) (λj=>FT j c) Bm (YU E6 (AEI (ADV (vB (fO (fO ADT)))))) (λj=>DZ (WU (cQ i c) j)) (λj=>FG (stK (FO c) i j)) (λj=>AI (FG (DY (jA i c j))) (UO (Vh i c j)) (WH (Vh i c j)) (UO (Vy i c j)) (WH (Vy i c j))))) (jN i c)) (λi=>FA i (AO c) (FV (JY i (AO c)) (CL i (AO c) (KI (λj=>FH (HG c) (Aq (HI c) (Dq c) (BA j i) c (Fw (GD c) (JC c) (HG c) (λk=>FT k c) Bm LR (λk=>MD (WU (cQ j c) k) (aU (WU (cQ i c)) (BR c i) k)) (λk=>AY (stK (FO c) j k) (stUp (WU (cQ i c)) (stK (FO c) i) (BR c i) k)) (λk=>XO (DY (jA j c k)) (gU k c i (BR c i) (DY (jA i c k))) (BD (Vh j c k) (gU k c i (BH (AC c i)) (BH (Vh i c k)))) (Vh j c k) (gU k c i (BK (AC c i)) (BK (Vh i c k))) (BD (Vy j c k) (gU k c i (BH (AE c i)) (BH (Vy i c k)))) (Vy j c k) (gU k c i (BK (AE c i)) (BK (Vy i c k)))))) (jN j c) (AO c) j i))) (CS BP (GM (CO c) c) (CY (CO c) c) (GO (CO c) c) (GH (CO c) c) (GK (CO c) c) (Fw (VK (CO c) c) (VH (CO c) c) (XF (CO c) c) (λj=>AU j (CO c) (PT (CO c) j c) (Gu (CO c) j c j) (xK c j) (AC c j) (Er (CO c) j c j) (vF c j) (AE c j)) Bm LR (λj=>Eo (CO c) j (WU (cQ i c) j)) (λj=>AY (sR c j) (stK (FO c) i j)) (λj=>Ff (CO c) j (DY (jA i c j)) (Vh i c j) (Vy i c j)))))))):=by kernel_rfl
def BTN(c:Cht):Prop:=ES Try.prog (BHK c) U3 (AJ U3) (C_open.xs c) (AD []) (C_openX.val c) [] [] []
abbrev Ic a b c d e:=And a (EZ b c d e)
abbrev oP:=YU (Value.pointer (@none Addr)) (Value.pointer (@none Addr))
attribute [go_sem] Ic oP
theorem CDT(c:Cht):(BTN c)=(Ic (TY c (λi=>AT i c (AM c i) (AN c i) (AS c i) (AC c i) (AL c i) (AR c i) (AE c i)) (RQ c) (IL c)) (Kl c) oP (Cm c (Ao c)) (HX (λi=>BL (HG c) (Aq (HI c) (Dq c) (CQ i) c (Fw (GD c) (JC c) (HG c) (λj=>FT j c) Bm (YU E6 (AEI (ADV (vB (fO (fO ADT)))))) (λj=>DZ (WU (cQ i c) j)) (λj=>FG (stK (FO c) i j)) (λj=>AI (FG (DY (jA i c j))) (UO (Vh i c j)) (WH (Vh i c j)) (UO (Vy i c j)) (WH (Vy i c j))))) (jN i c)) (λi=>FA i (AO c) (FV (JY i (AO c)) (CL i (AO c) (KI (λj=>FH (HG c) (Aq (HI c) (Dq c) (BA j i) c (Fw (GD c) (JC c) (HG c) (λk=>FT k c) Bm LR (λk=>MD (WU (cQ j c) k) (aU (WU (cQ i c)) (BR c i) k)) (λk=>AY (stK (FO c) j k) (stUp (WU (cQ i c)) (stK (FO c) i) (BR c i) k)) (λk=>XO (DY (jA j c k)) (gU k c i (BR c i) (DY (jA i c k))) (BD (Vh j c k) (gU k c i (BH (AC c i)) (BH (Vh i c k)))) (Vh j c k) (gU k c i (BK (AC c i)) (BK (Vh i c k))) (BD (Vy j c k) (gU k c i (BH (AE c i)) (BH (Vy i c k)))) (Vy j c k) (gU k c i (BK (AE c i)) (BK (Vy i c k)))))) (jN j c) (AO c) j i))) VS)))):=by kernel_rfl
theorem FR(c:Cht):Cht.mk c.p c.base c.scale c.off c.ms c.ns=c:=rfl
theorem AGZ(c:Cht):(CM c).c=c:=rfl
theorem BFE(l:List Nt)(x:Nt)(j:Int):hasN (l ++ [x]) j=aU (hasN l) x.mi j:=by
 unfold hasN aU;rw[List.any_append,Bool.or_comm]
 simp only[List.any_cons,List.any_nil,Bool.or_false]
 congr 1
 rw[Bool.eq_iff_iff,beq_iff_eq,decide_eq_true_eq];exact eq_comm
theorem BXG(l:List Nt)(x:Nt)(j:Int):ntOf (l ++ [x]) j=bif decide (j=x.mi) then x else ntOf l j:=by
 induction l with
 |nil=>
  simp only[List.nil_append,ntOf,hasN,List.any_nil,cond_false]
  have:(x.mi==j)=decide (j=x.mi):=by rw[Bool.eq_iff_iff,beq_iff_eq,decide_eq_true_eq];exact eq_comm
  rw[this]
 |cons y l ih=>
  simp only[List.cons_append,ntOf,ih,BFE,aU]
  cases decide (j=x.mi)<;>rfl
theorem CWU(c:Cht)(h:(c.ms.length<4611686018427387904/\c.ns.length<4611686018427387904)/\AP c=0):CEY c:=by
 obtain⟨⟨hm,hn⟩,h0⟩:=h
 rw[CMB]<;> delta MD Iv BH BK DY RD RU EM EO CH AB CJ CE AY CG MY FV NL HD KA UI IG EB FX EC GY GX GR GG DV FO FU KI US QR VS YU AEI ADV ADT KM WU ED NR BES BN YV AH CK IW AX JE AI CO BC AV AF IK IN BI GJ AQ JB BB AC BZ CN Eh BF MC AE AO BD HK DD LZ AZ DC BR BE BS BJ JQ Ch AR BQ LY SZ BV HF ZK CI OC EQ BL AS BM CY BY ER FL CF IE HR BX TV KL CU GW YS DN GD CX OT OR Cx OE FQ DF DU HY DR OU HG OD DT LR Gi FE FG FW AT MJ JA DX HE OF EX JJ BA BP AU CS Xg DZ HW BO BW JH AL AN AM GP ID Ct FK JC VI JU FT EF JW GK MH HI JZ GM GH FA CQ GO CL PT MR JY FH IL cQ Eo JK HX jA VK XF Bm Ff Ao MG vS Mw Va RQ Dq Bf YH Hf UO VH WH Aq vB Dy fO TY Vy Vh Er Kl Gu Fb XO Wy Fw gU sR jN vF xK;simp only[CC,eq_self,implies_true,forall_const,FR,AGZ,h0]
 refine⟨⟨hm,hn⟩,(λh=>by simp at h),λ_=>⟨⟨0,⟨rfl,rfl,λ_=>rfl,λ_=>rfl,λ_=>⟨rfl,rfl,rfl,rfl,rfl⟩⟩,Nat.zero_le _⟩,λk hk=>⟨λhlt=>?_,λhge=>?_⟩⟩⟩
 ·have hlt:k<c.ns.length:=by omega
  refine⟨by omega,k+1,⟨(II (by omega)).symm,λn=>?_,λn=>rfl,λn=>?_⟩,by omega,by omega⟩
  ·rw[xR hlt,BFE]
  ·rw[xR hlt,BXG]
   cases decide (n=(gD c.ns k).mi)<;>exact⟨rfl,rfl,rfl,rfl,rfl⟩
 ·obtain rfl:k=c.ns.length:=by omega
  simp[CM]
theorem ABR:AW Try.prog Iz (C_open.spec iT):=Je C_open BHK [(0,201),(1,202)] [] BEG (λ_=>by kernel_rfl) (λ_=>AA ALC AK) (λc h=>CWU c h) (λ_=>Kp rfl rfl) _
theorem O1:AW Try.prog Iz (C_openX.spec iT):=Je C_openX BHK [] [] BEG (λ_=>by kernel_rfl) (λ_=>AA ALC AK) (λ(c:Cht) h=>by
 obtain⟨⟨hm,hn⟩,h0⟩:(c.ms.length<4611686018427387904/\c.ns.length<4611686018427387904)/\AP c≠0:=h
 have h0':(AP c != 0)=true:=by simpa using h0
 show BTN c;rw[CDT]<;> delta MD Iv BH BK DY RD RU EM EO CH AB CJ CE AY CG FV NL HD KA UI IG EB FX EC GY GX GR GG DV FO FU KI US QR VS YU AEI ADV ADT KM WU ED NR BES AH CK IW AX JE AI BC AV AF IK IN BI GJ AQ JB BB AC BZ CN BF MC AE AO BD HK DD LZ AZ DC BR BE BS BJ JQ AR BQ LY SZ BV HF CI OC EQ BL AS BM CY BY FL CF IE HR BX TV KL CU GW DN GD CX OT OR OE FQ DF DU HY DR OU HG OD DT LR Gi FE FG FW AT MJ JA DX OF EZ EX JJ BA Xg DZ HW BO BW JH AL AN AM GP ID FK JC VI FT EF HI FA CQ CL MR JY FH IL cQ JK HX jA Bm Ao MG vS Va RQ Dq Bf YH UO WH Aq Cm vB Dy fO TY Vy Vh Kl XO Wy Ic Fw gU jN oP;simp only[CC,eq_self,implies_true,forall_const,FR,h0']
 simp[hm,hn]) (λ_=>Kp rfl rfl) _
def Wc(m:Int):Int->List Int->Bool
 |_,[]=>true
 |a,g :: r=>bif PN g (wr (a+1)) (wr (m-2)) then Wc m g r else false
def Q5(m:Int):Int->List Int->(Nat->Bool)->Nat->Bool
 |_,[],f,j=>f j
 |a,g :: r,f,j=>bif PN g (wr (a+1)) (wr (m-2)) then Q5 m g r (λi=>bif decide (i=g.toNat) then true else f i) j else f j
structure DkZ where
 w:Dk
 z:List Int
def stD(a:DkZ):Dk:=⟨a.w.c,a.w.st,Q5 a.w.c.ms.length (-1) a.z a.w.sp⟩
def dDkZ:List AVal->Heap->Option (DkZ×List (Nat×Nat)×List Nat)
 |[.bptr id _,y],H=>match ADS H id,tL y H with
  |some (w,q),some (l,f)=>some (⟨w,l⟩,[(100,id),(101,q)],f)
  |_,_=>none
 |_,_=>none
structure StK where
 k:Nat
 m:Int
 f:Nat->Bool
 deriving Inhabited
def stp3(a:DkZ):Shape:={ α:=StK,dflt:=default,T:=λs=>⟨[(0,.bptr 100 0),(5,.int s.m),(8,.d (GB a.z)),(9,.int a.z.length),(10,.int s.k)],dkK ⟨a.w.c,a.w.st,s.f⟩⟩,inv:=λs=>(s.k<=a.z.length /\ -1<=s.m/\s.m<=40)/\Wc a.w.c.ms.length s.m (a.z.drop s.k)=Wc a.w.c.ms.length (-1) a.z/\∀j,Q5 a.w.c.ms.length s.m (a.z.drop s.k) s.f j=Q5 a.w.c.ms.length (-1) a.z a.w.sp j,meas:=λs=>a.z.length-s.k }
def C_stop:Ctr:={ ro:=[101],α:=DkZ,xs:=λa=>[.bptr 100 0,.d (GB a.z)],L:=λa=>dkL a.w,val:=λa=>.bool (Wc a.w.c.ms.length (-1) a.z),keep:=λa=>dkK (stD a),pre:=λa=>[a.z.length<4611686018427387904/\a.w.c.ms.length<=40] }
def CEB(a:DkZ):Ann:={ ann 33 [(n_in,s_in)] with E:=[100,101],loops:=λid=>if id=3 then some [stp3 a] else none }
def CEG(a:DkZ):Prop:=ES Try.prog (CEB a) BQQ (AJ BQQ) (C_stop.xs a) (AD (C_stop.L a)) (C_stop.val a) (C_stop.keep a) [] []
abbrev iE:=StK.m
abbrev Lz:=DkZ.z
abbrev Qi:=StK.k
abbrev V5:=DkZ.w
abbrev AEH:=StK.f
abbrev WT:=Dk.sp
abbrev M9:=@List.drop Int
abbrev WW:=λ(x0 x1:Nat)=>decide (x0=x1)
abbrev Do a b c d e:=Ct a (Cx b c) d (Ch b c) e (ZK b c)
abbrev Gs a b c d e f:=Do (Cx a b) c d (Ch a e) (ZK a f)
abbrev RA a:=BN (V5 a)
abbrev Aw a:=BN (stD a)
abbrev Eb a b c:=MD a (YS b c)
abbrev Hv a b c d:=Eb (YS a b) c d
abbrev Jw a b c:=AV a 40 (MD b c)
abbrev wX a:=MZ (RA a)
abbrev wP a b c:=Wc (wX a) b c
abbrev wJ a:=FP (Lz a)
abbrev LF a b(c:Nat->Prop):=AH a b (AB c)
abbrev qX a:=HD a 40
abbrev HQ a:=KM (λi=>AF (YV a i))
abbrev TF a b c(d:Nat->Prop)(e:Nat->Prop) f g h:=VI a b c d e LR f (HQ g) h
abbrev XK a:=KM (λi=>GJ (YS a i))
abbrev Dv a(b:Nat->Prop) c d:=TF (GD a) (JC a) (HG a) (λi=>FT i a) b (XK a) c d
abbrev RL a:=KM (λi=>VX (Cx a i) (Ch a i) (ZK a i))
abbrev Cp a(b:Nat->Prop) c:=Dv a b c (RL a)
abbrev HU a b:=ED (Nat.succ a) b
abbrev Xu a:=HU a 40
abbrev FY a b c d:=And a (AH b c d)
attribute [go_sem] iE Lz Qi V5 AEH WT M9 WW Do Gs RA Aw Eb Hv Jw wX wP wJ LF qX HQ TF XK Dv RL Cp HU Xu FY
theorem CMF(a:DkZ):(CEG a)=(And ((@Exists StK) (λi=>FY (AH (AY (iE i) (-1)) (Ge (Lz a)) (Aq (Ak (Lz a)) (EF (wJ a)) (CQ (Qi i)) (RA a) (Cp (RA a) (λj=>Jw j (AEH i j) (WT (V5 a) j)) (V5 a)))) (AH (CW (Qi i) (wJ a)) (HD (-1) (iE i)) (qX (iE i))) (MD (wP a (iE i) (M9 (Qi i) (Lz a))) (wP a (-1) (Lz a))) (AB (λj=>MD (Q5 (wX a) (iE i) (M9 (Qi i) (Lz a)) (AEH i) j) (Q5 (wX a) (-1) (Lz a) (WT (V5 a)) j))))) ((λ(f:StK->Prop)=>∀(x:StK),f x) (λi=>XL (LF (AH (CW (Qi i) (wJ a)) (HD (-1) (iE i)) (qX (iE i))) (MD (wP a (iE i) (M9 (Qi i) (Lz a))) (wP a (-1) (Lz a))) (λj=>MD (Q5 (wX a) (iE i) (M9 (Qi i) (Lz a)) (AEH i) j) (Q5 (wX a) (-1) (Lz a) (WT (V5 a)) j))) (Qi i) (wJ a) (CL (Qi i) (wJ a) (FV (ZO (FS (Lz a) (Qi i)) (HR (iE i)) (LH (wX a) 2)) (CS (DZ (wP a (-1) (Lz a))) (GM (Aw a) (RA a)) (CY (Aw a) (RA a)) (GO (Aw a) (RA a)) (GH (Aw a) (RA a)) (GK (Aw a) (RA a)) (Fw (VK (Aw a) (RA a)) (VH (Aw a) (RA a)) (XF (Aw a) (RA a)) (λj=>AU j (Aw a) (PT (Aw a) j (RA a)) (Gu (Aw a) j (RA a) j) (AC (Aw a) j) (AC (RA a) j) (Er (Aw a) j (RA a) j) (AE (Aw a) j) (AE (RA a) j)) (λj=>Jw j (WT (stD a) j) (AEH i j)) LR (λj=>Hv (Aw a) j (RA a) j) (λj=>AY (YV (stD a) j) (YV (V5 a) j)) (λj=>Gs (Aw a) j (RA a) j j j))) (And (BL (BX (FS (Lz a) (Qi i))) (KA (FS (Lz a) (Qi i)) 40) (Xu (HM (FS (Lz a) (Qi i))))) ((@Exists StK) (λj=>IF (AH (AY (iE j) (FS (Lz a) (Qi i))) (Ge (Lz a)) (Aq (Ak (Lz a)) (EF (wJ a)) (BA (Qi j) (Qi i)) (RA a) (Cp (RA a) (λk=>Jw k (AEH j k) (KE (WW k (HM (FS (Lz a) (Qi i)))) (AEH i k))) (V5 a)))) (LF (AH (CW (Qi j) (wJ a)) (HD (-1) (iE j)) (qX (iE j))) (MD (wP a (iE j) (M9 (Qi j) (Lz a))) (wP a (-1) (Lz a))) (λk=>MD (Q5 (wX a) (iE j) (M9 (Qi j) (Lz a)) (AEH j) k) (Q5 (wX a) (-1) (Lz a) (WT (V5 a)) k))) (wJ a) (Qi j) (Qi i)))))) (CS (EA (wP a (-1) (Lz a))) (GM (Aw a) (RA a)) (CY (Aw a) (RA a)) (GO (Aw a) (RA a)) (GH (Aw a) (RA a)) (GK (Aw a) (RA a)) (Fw (VK (Aw a) (RA a)) (VH (Aw a) (RA a)) (XF (Aw a) (RA a)) (λj=>AU j (Aw a) (PT (Aw a) j (RA a)) (Gu (Aw a) j (RA a) j) (AC (Aw a) j) (AC (RA a) j) (Er (Aw a) j (RA a) j) (AE (Aw a) j) (AE (RA a) j)) (λj=>Jw j (WT (stD a) j) (AEH i j)) LR (λj=>Hv (Aw a) j (RA a) j) (λj=>AY (YV (stD a) j) (YV (V5 a) j)) (λj=>Gs (Aw a) j (RA a) j j j)))))):=by kernel_rfl
theorem BFM(a:DkZ):(stD a).c=a.w.c:=rfl
theorem CWI(a:DkZ)(h:a.z.length<4611686018427387904/\a.w.c.ms.length<=40):CEG a:=by
 obtain⟨hz,hm⟩:=h
 rw[CMF]<;> delta MD N6 Iv BH BK DY RD RU Mr EM EO CH AB CJ CE AY CG CW FV NL HD KA UI IG EB FX EC GY GX GR GG DV FO FU FP FS LW HM YU KM WU ED BN YV iE Lz Qi V5 AEH WT M9 WW AH CK AX AI BC AV AF BI GJ AQ BB AC BZ CN Eh BF AE AO BD DD AZ DC BR BE BS BJ JQ Ch BQ LY BV ZK CI EQ GQ BL BM CY BY FL CF HR BX KL CU YS DN GD CX OT OR Cx LH DF DU HY MZ DR OU HG EA LR FE FW Aw MJ DX HE Ge EX JJ BA HT AU RA CS DZ HU HW JH GP HQ XK VX Ct FK JC VI KE JU Py FT EF JW GK MH Eb JZ GM GH TF CQ GO CL PT RL Ak JY FY Do IF ZO LF PY VK XF Dv Cp Mw Va Hf VH Aq wX XL Hv Er Gu Wy wJ Jw Xu Gs Fw wP qX;simp only[CC,eq_self,implies_true,forall_const,BFM]
 have e2:IntKind.i64.wrap ((a.w.c.ms.length:Int)-2)=(a.w.c.ms.length:Int)-2:=Ap (by omega) (by omega)
 refine⟨⟨⟨0,-1,a.w.sp⟩,⟨rfl,rfl,λ_ _=>rfl⟩,⟨Nat.zero_le _,by show (-1:Int) <= -1;omega,by show (-1:Int)<=40;omega⟩,rfl,λ_=>rfl⟩,λs ⟨⟨s1,s2,s3⟩,s4,s5⟩=>⟨λhlt=>?_,λhge=>?_⟩⟩
 ·have hlt:s.k<a.z.length:=by omega
  have hd:=AXJ hlt
  rw[hd] at s4 s5
  have e1:IntKind.i64.wrap (s.m+1)=s.m+1:=Ap (by omega) (by omega)
  refine⟨by omega,λh1=>⟨?_,λj _=>?_,λ_=>rfl⟩,λh1=>?_⟩
  ·rw[<-s4];unfold Wc wr;rw[h1];rfl
  ·show Q5 _ _ _ _ j=_
   rw[<-s5 j];unfold Q5 wr;rw[h1];rfl
  ·have h2:=h1
   rw[e1,e2] at h2
   simp only[PN,Bool.and_eq_true,decide_eq_true_eq] at h2
   refine⟨by omega,⟨s.k+1,gD a.z s.k,λi=>bif decide (i=(gD a.z s.k).toNat) then true else s.f i⟩,⟨rfl,(II (by omega)).symm,λ_ _=>rfl⟩,⟨⟨by show s.k+1<=_;omega,by show -1<=gD a.z s.k;omega,by show gD a.z s.k<=40;omega⟩,?_,λj=>?_⟩,by show a.z.length-(s.k+1)<_;omega⟩
   ·rw[<-s4];conv=>rhs;unfold Wc wr
    rw[h1];rfl
   ·rw[<-s5 j];conv=>rhs;unfold Q5 wr
    rw[h1];rfl
 ·rw[List.drop_of_length_le (by omega)] at s4 s5
  exact⟨s4.symm,λj _=>(s5 j).symm,λ_=>rfl⟩
theorem BIL:AW Try.prog AZN (C_stop.spec dDkZ):=Je C_stop CEB [] [] CNQ (λ_=>by kernel_rfl) (λ_=>AA R9 AK) (λa h=>CWI a h) (λ_=>Kp rfl rfl) _
structure CZ where
 c:Cht
 z:List Int
def B6:List AVal->Heap->Option (CZ×List (Nat×Nat)×List Nat)
 |[x,y],H=>match tN x H,tL y H with
  |some (c,f),some (l,e)=>some (⟨c,l⟩,[],f ++ e)
  |_,_=>none
 |_,_=>none
def xCZ(a:CZ):List AVal:=[.d (Nj a.c),.d (GB a.z)]
def FZ(a:CZ):Dk:=stD ⟨CM a.c,a.z⟩
def N7(a:CZ):Bool:=Wc a.c.ms.length (-1) a.z
def XV(a:CZ):Int:=bif AP a.c==0 then bif N7 a then 0 else 2 else AP a.c
def C_beg:Ctr:={ α:=CZ,xs:=xCZ,val:=λa=>.tup [.bptr 0 0,.int (XV a)],keep:=λa=>dkN (FZ a),pre:=λa=>[(a.c.ms.length<4611686018427387904/\a.c.ns.length<4611686018427387904/\a.z.length<4611686018427387904)/\AP a.c=0] }
def C_begX:Ctr:={ α:=CZ,xs:=xCZ,val:=λa=>.tup [.d (.v (.pointer none)),.int (XV a)],keep:=λ_=>[],pre:=λa=>[(a.c.ms.length<4611686018427387904/\a.c.ns.length<4611686018427387904/\a.z.length<4611686018427387904)/\AP a.c≠0] }
def CPE:Ann:={ ann 23 [(Iz,C_open.spec iT),(AZN,C_stop.spec dDkZ)] with md:=λid=>if id=2 then some λk=>if k=3∨k=4∨k=5∨k=6 then 8 else 0 else none }
def CGB:Ann:={ ann 23 [(Iz,C_openX.spec iT)] with md:=λid=>if id=2 then some λk=>if k=3∨k=4∨k=5∨k=6 then 9 else 0 else none }
def COR(a:CZ):Prop:=ES Try.prog CPE AKE (AJ AKE) (xCZ a) (AD []) (C_beg.val a) (C_beg.keep a) [(0,2016),(1,2017)] []
abbrev FN:=CZ.c
abbrev TW:=CZ.z
abbrev Yq:=XV
abbrev Ko:=FZ
abbrev Qq a b c d:=AI a b c a d
abbrev AWD a b c:=Qq a a b c
abbrev Kv a:=IN (FN a)
abbrev Ei a:=EC (FN a)
abbrev Qh a b c:=LZ (Ei a) b b b (Kv c) b
abbrev tY a b c:=Qh a (FN b) c
abbrev Gf a:=tY a a a
abbrev Am a:=CO (Gf a)
abbrev LX a:=BN (Ko a)
abbrev Yk a b:=YV (Ko a) b
abbrev Ul a b c:=AY (Yk a b) c
abbrev uH a b:=stD (DkZ.mk a b)
abbrev Au a:=WV (TW a) (TW a)
abbrev yV a b c:=Dk.mk a (YV b) (WT c)
abbrev BKX a b c:=yV a (CM b) c
abbrev BDZ a:=FQ (CO a)
abbrev rP a b:=BKX (BDZ a) b (CM b)
abbrev Dc a b:=WT (Ko a) b
abbrev BCO a b:=Aw (DkZ.mk (rP a a) b)
abbrev YR a:=BCO (Gf a) (Au a)
abbrev Yo a:=AY a 2
abbrev Ug a b:=IB a (not b)
abbrev ZE a b c d e f(g:Nat->Prop) h:=KQ a b c d e f g LR h
abbrev Pe a b:=CW (HK a) b
abbrev ZB a:=Pe a 40
abbrev Ad a:=NV (Au a)
abbrev Oc a b:=ntOf (IK a) b
abbrev Ql a b:=EO (Oc a b)
abbrev Qe a b:=EM (Oc a b)
abbrev Fs a b:=DY (Oc a b)
abbrev Fh a b c d e f:=Do (Fs a b) c d (Qe a e) (Ql a f)
abbrev MF a:=KM (λi=>Fh a i a i i i)
abbrev Bi a:=HQ (CM a)
abbrev WK a b:=WU (IK a) b
abbrev Fo a b c d:=Eb (WK a b) c d
abbrev TE a:=KM (λi=>Fo a i a i)
abbrev XR a b c:=KO a b (TW c)
abbrev WL a b:=XR a (Au b) b
abbrev XE a b:=IZ a (TW b)
abbrev WA a:=XE (Au a) a
abbrev IU:=GJ LW
abbrev Yi a:=GZ (Gf a)
abbrev Vj a b:=And a (IL b)
abbrev Cy a:=EB (Kv a)
abbrev Aj a:=GW (Cy a)
abbrev Dz a b c d e f g h p:=AT a (FN b) c d e f g h p
abbrev Ea a b:=AE (FN a) b
abbrev Cz a b:=AR (FN a) b
abbrev Ef a b:=AL (FN a) b
abbrev Da a b:=AC (FN a) b
abbrev Dh a b:=AS (FN a) b
abbrev Dr a b:=AN (FN a) b
abbrev Dd a b:=AM (FN a) b
abbrev VV a b:=Mk.ht (GG a b)
abbrev VB a b c d e:=HY a b c d (VV e a)
abbrev OS a b:=Mk.pl (GG a b)
abbrev YC a b c:=VB a (Cy b) (OS (Kv b) a) c (Kv b)
abbrev Al a b:=FW (Cy a) b
abbrev Dn a b:=Al a (FN b)
abbrev NZ a:=IS (Ei a)
abbrev NX a:=BZ (Ei a)
attribute [go_sem] FN TW Yq Ko Qq AWD Kv Ei Qh tY Gf Am LX Yk Ul uH Au yV BKX BDZ rP Dc BCO YR Yo Ug ZE Pe ZB Ad Oc Ql Qe Fs Fh MF Bi WK Fo TE XR WL XE WA IU Yi Vj Cy Aj Dz Ea Cz Ef Da Dh Dr Dd VV VB OS YC Al Dn NZ NX
theorem CUG(a:CZ):(COR a)=(Ng (NX a) (NZ a) (YH (FN a) (Dn a a) (λi=>YC i a (FN a)) (λi=>Dz i a (Dd a i) (Dr a i) (Dh a i) (Da a i) (Ef a i) (Cz a i) (Ea a i)) (Vj (Aj a) (FN a)) (Yi a)) IU (AWD IU (And (WA a) (Mb (AB (λi=>WL i a)) (BY (Am a)) (EC (Am a)) (BM (Am a)) (ZE (BV (Am a)) (BQ (Am a)) (BW (Am a)) (DK (Am a)) (BO (Am a)) (AB (λi=>AT i (Am a) (AM (Am a) i) (AN (Am a) i) (AS (Am a) i) (AC (Am a) i) (AL (Am a) i) (AR (Am a) i) (AE (Am a) i))) Bm (BB (TE (Am a)) (Bi (Gf a)) (MF (Am a)) LR (KM (λi=>Hv (Am a) i (YR a) i)) (KM (λi=>AY (sR (Gf a) i) (YV (uH (rP (Gf a) (Gf a)) (Au a)) i))) (KM (λi=>Gs (Am a) i (YR a) i i i)) (Ad a) (ZB (Am a)))))) (FV (Ug ((@BEq.beq Nat (@instBEqOfDecidableEq Nat instDecidableEqNat)) 0 0) (Wc (eZ (Am a)) (-1) (Au a))) (CS (Yo (Yq a)) (GM (LX a) (YR a)) (CY (LX a) (YR a)) (GO (LX a) (YR a)) (GH (LX a) (YR a)) (GK (LX a) (YR a)) (Fw (VK (LX a) (YR a)) (VH (LX a) (YR a)) (XF (LX a) (YR a)) (λi=>AU i (LX a) (PT (LX a) i (YR a)) (Gu (LX a) i (YR a) i) (AC (LX a) i) (AC (YR a) i) (Er (LX a) i (YR a) i) (AE (LX a) i) (AE (YR a) i)) (λi=>Jw i (Dc a i) (WT (uH (rP (Gf a) (Gf a)) (Au a)) i)) LR (λi=>Hv (LX a) i (Am a) i) (λi=>Ul a i (sR (Gf a) i)) (λi=>Gs (LX a) i (Am a) i i i))) (CS (FG (Yq a)) (GM (LX a) (YR a)) (CY (LX a) (YR a)) (GO (LX a) (YR a)) (GH (LX a) (YR a)) (GK (LX a) (YR a)) (Fw (VK (LX a) (YR a)) (VH (LX a) (YR a)) (XF (LX a) (YR a)) (λi=>AU i (LX a) (PT (LX a) i (YR a)) (Gu (LX a) i (YR a) i) (AC (LX a) i) (AC (YR a) i) (Er (LX a) i (YR a) i) (AE (LX a) i) (AE (YR a) i)) (λi=>Jw i (Dc a i) (WT (uH (rP (Gf a) (Gf a)) (Au a)) i)) LR (λi=>Hv (LX a) i (Am a) i) (λi=>Ul a i (sR (Gf a) i)) (λi=>Gs (LX a) i (Am a) i i i)))))):=by kernel_rfl
def CCK(a:CZ):Prop:=ES Try.prog CGB AKE (AJ AKE) (xCZ a) (AD []) (C_begX.val a) [] [] []
abbrev Rn:=@Ne Int
abbrev Jc a b c d:=AI a b a c d
abbrev Yw a b c:=Jc a a b c
abbrev dP a:=US (Gf a)
abbrev Ob a:=Og a 0
abbrev IT a b:=CJ (EA a) b
abbrev NQ a:=Rn a 0
attribute [go_sem] Rn Jc Yw dP Ob IT NQ
theorem CIV(a:CZ):(CCK a)=(Ng (NX a) (NZ a) (YH (FN a) (Dn a a) (λi=>YC i a (FN a)) (λi=>Dz i a (Dd a i) (Dr a i) (Dh a i) (Da a i) (Ef a i) (Cz a i) (Ea a i)) (Vj (Aj a) (FN a)) (NQ (dP a))) (DZ (Ob (dP a))) (Yw (DZ (Ob (dP a))) (IT (Ob (dP a)) (EA Iv)) (EZ (IB (Ob (dP a)) Iv) oP (Yo (Yq a)) (And oP (AY (Yq a) (dP a)))))):=by kernel_rfl
theorem Uk(a:CZ):(FZ a).c=a.c:=rfl
theorem fK(w:Dk):Dk.mk w.c w.st w.sp=w:=rfl
theorem PR{c:Cht}(h:AP c=0):Gh c=0/\(1<=c.ms.length/\c.ms.length<=40)/\c.ns.length<=20:=by
 have h1:Gh c=0:=by
  unfold AP at h
  cases hc:(Gh c != 0) with
  |false=>simpa using hc
  |true=>rw[hc] at h;simpa using h
 refine⟨h1,?_⟩
 unfold Gh at h1
 cases hc:(bif !PN c.ms.length 1 40 then true else decide ((c.ns.length:Int)>20)) with
 |true=>rw[hc] at h1;cases h1
 |false=>
  cases hb:PN c.ms.length 1 40 with
  |false=>rw[hb] at hc;cases hc
  |true=>
   rw[hb] at hc
   have hc:decide ((c.ns.length:Int)>20)=false:=hc
   simp only[PN,Bool.and_eq_true,decide_eq_true_eq,decide_eq_false_iff_not] at hb hc
   omega
theorem DCR(a:CZ)(h:(a.c.ms.length<4611686018427387904/\a.c.ns.length<4611686018427387904/\a.z.length<4611686018427387904)/\AP a.c=0):COR a:=by
 obtain⟨⟨hm,hn,hz⟩,h0⟩:=h
 have hl:=PR h0
 rw[CUG]<;> delta MD N6 Iv BH BK DY EM EO CH AB CJ CE AY CG CW FV EB FX EC GY GX GR GG DV FO FU FP FS El LW US YU KM WU BN YV WT FN TW Yq Ko AH CK IW AX JE AI LX CO WE BC AV AF IK IN GJ Qq AWD AQ WV JB BB AC Kv BZ CN Eh BF MC AE Ei AO BD HK DD LZ AZ DC BR BE BS BJ Ch AR BQ Au IS Mb SZ BV HF ZK CI OC GQ Qh AS BM CY Oc tY BY EV CF IE TV CU GW YS Cy HO CX Cx OE FQ DU Gf HY IC DR OD Ql LR Gi KQ HH FG FW Qe Aw AT yV IZ BDZ VV JA HE OF OS BKX WK Fs AU CS NZ GZ BO BW AL AN AM LJ KO ID HQ Ct rP NX DK VI IU JU BCO JW GK MH Eb NV JZ GM GH IB GO PT MR IL Fo Al VB Do TE Am XE VK XF Bm Fh YC MF XR YR Mw Pe Bi Ad Aj YH WA WL Hf VH ZB Dc Dn Yk Dd Dr Ef Dh Cz Vj Ea Hv Ug Da Er ZE Gu Yi Wy Jw Gs Fw Dz Ng Ul uH sR eZ Yo;simp only[CC,eq_self,implies_true,forall_const,FR,AGZ,fK,BFM,Uk]
 have e:XV a=bif N7 a then 0 else 2:=by unfold XV;rw[h0];rfl
 have e2:Wc a.c.ms.length (-1) a.z=N7 a:=rfl
 have e3:stD ⟨CM a.c,a.z⟩=FZ a:=rfl
 simp only[e,e2,e3,Uk]
 have e4:∀n,(CM a.c).st n=(FZ a).st n:=λ_=>rfl
 cases N7 a<;>simp[hm,hn,hz,h0,hl.2.1.2,e4]<;>exact⟨λ_=>rfl,λ_ _=>rfl⟩
theorem ASO:AW Try.prog Zw (C_beg.spec B6):=Je C_beg (λ_=>CPE) [(0,2016),(1,2017)] [] BLN (λ_=>by kernel_rfl) (λ_=>AA ABR (AA BIL AK)) (λa h=>DCR a h) (λ_=>Kp rfl rfl) _
theorem BGC:AW Try.prog Zw (C_begX.spec B6):=Je C_begX (λ_=>CGB) [] [] BLN (λ_=>by kernel_rfl) (λ_=>AA O1 AK) (λ(a:CZ) h=>by
 obtain⟨⟨hm,hn,hz⟩,h0⟩:(a.c.ms.length<4611686018427387904/\a.c.ns.length<4611686018427387904/\a.z.length<4611686018427387904)/\AP a.c≠0:=h
 have h0':(AP a.c==0)=false:=by simpa using h0
 have e:XV a=AP a.c:=by unfold XV;rw[h0'];rfl
 show CCK a;rw[CIV]<;> delta MD N6 Iv BH BK DY EM EO CH AB CJ CE AY FV EB FX EC GY GX GR GG DV FO FU Og LW US YU FN Yq Rn AH CK IW AX JE AI BC AV AF IK IN Jc Yw AQ JB BB AC Kv BZ CN BF MC AE Ei AO BD DD LZ AZ DC BR BE BS BJ AR BQ IS BV HF CI Qh AS BM tY CF IE CU GW Cy CX DU Gf HY DR EA FW AT VV JA IT OS EZ NZ DZ BO AL AN AM NX IB MR IL Al VB NQ YC Aj YH Dn Dd Dr Ef Dh Cz Vj Ea Da Ob dP Dz Ng oP Yo;simp only[CC,eq_self,implies_true,forall_const,FR,h0',e]
 simp[hm,hn,h0]) (λ_=>Kp rfl rfl) _
end Go.Bal
