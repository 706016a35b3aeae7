/- Package chart: the fewest stops. -/
import Derived.Test.YtdbjalgfomknhaaGreatChJ
set_option linter.unusedVariables false
set_option linter.unusedSimpArgs false
namespace Go.Bal
open Go Go.Sym Go.Proofs
def idL(n:Nat):List Int:=NK n λi=>(i:Int)
def IM(c:Cht):List Int:=stM (aE c) (idL c.ns.length)
structure FwS where
 la:Int
 q:List Int
 r:List Pr
 deriving Inhabited
def miA(c:Cht)(a:Int):Int:=(gD c.ns a.toNat).mi
def fwP(c:Cht)(la b a:Int):Bool:=bif decide (miA c a>la) then Eg c ⟨a,b⟩ else false
def fwN(c:Cht)(s:FwS)(b:Int):Option Int->FwS
 |none=>s
 |some a=>⟨wr (miA c b-1),s.q ++ [wr (miA c b-1)],s.r ++ [⟨a,b⟩]⟩
def Mf(c:Cht):Nat->FwS
 |0=>⟨-1,[],[]⟩
 |k+1=>fwN c (Mf c k) (gD (IM c) k) (((IM c).take k).find? (fwP c (Mf c k).la (gD (IM c) k)))
def Hm(c:Cht):FwS:=Mf c c.ns.length
def fwW(c:Cht):Dk:=stD ⟨CM c,(Hm c).q⟩
structure FwR where
 q:List Int
 r:List Pr
 e:Int
def nilI:List Int:=[]
def nilP:List Pr:=[]
def N5(c:Cht):FwR:=bif (JD (fwW c)).2 then⟨(Hm c).q,(Hm c).r,0⟩ else⟨nilI,nilP,6⟩
def Jg(c:Cht):FwR:=bif AP c==0 then N5 c else⟨nilI,nilP,AP c⟩
def DCB:Ctr:={ α:=Cht,xs:=λc=>[.d (Nj c)],val:=λc=>.tup [.d (GB (Jg c).q),.d (aZ (Jg c).r),.int (Jg c).e],keep:=λ_=>[],pre:=λc=>[c.ms.length<4611686018427387904/\c.ns.length<4611686018427387904] }
def fwH(c:Cht):List (Nat×HCell):=[(201,.live (xO c)),(203,.live (dkB (CM c) 204)),(204,.live (dkM (CM c)))]
def fw6S(c:Cht)(k:Nat):List (Nat×AVal):=[(1,.bptr 201 0),(5,.bptr 203 0),(29,.int c.ns.length),(30,.int k)]
def fwR:List (Nat×Nat):=[(201,1000),(203,2016),(204,2017)]
def fw6n(c:Cht):Shape:={ α:=One,dflt:=default,T:=λ_=>⟨(7,.d Ej) :: fw6S c 0,fwH c⟩,inv:=λ_=>True,meas:=λ_=>60,first:=fwR }
def fw6o(c:Cht):Shape:={ α:=Nat,dflt:=0,T:=λk=>⟨(7,.own 202 1 0 k) :: fw6S c k,fwH c ++ [(202,.live (.row 1 k λi=>Gk i))]⟩,inv:=λk=>1<=k/\k<=c.ns.length,meas:=λk=>50-k,again:=[(202,9048)] }
def fwB(c:Cht):List (Nat×AVal):=[(1,.bptr 201 0),(5,.bptr 203 0),(7,.d (GB (IM c)))]
def fw11(c:Cht)(z:List Nat):Shape:={ α:=One,dflt:=default,T:=λ_=>⟨fwB c,fwH c⟩,inv:=λ_=>True,meas:=λ_=>0,ffz:=z }
def fwT(c:Cht)(k:Nat):List (Nat×AVal):=fwB c ++ [(11,.int (Mf c k).la),(41,.d (GB (IM c))),(42,.int c.ns.length),(43,.int k)]
def fwY(c:Cht)(k:Nat):List (Nat×HCell):=fwH c ++ [(301,.live (.row 1 (Mf c k).q.length λi=>Gk (gD (Mf c k).q i))),(302,.live (.row 2 (Mf c k).r.length λi=>ePr (gD (Mf c k).r i)))]
def BRO:List (Nat×AVal):=[(9,.d Ej),(10,.d Ej)]
def CEM(c:Cht)(k:Nat):List (Nat×AVal):=[(9,.own 301 1 0 (Mf c k).q.length),(10,.own 302 2 0 (Mf c k).r.length)]
def DAB(c:Cht):Shape:={ α:=Nat,dflt:=0,T:=λk=>⟨BRO ++ fwT c k,fwH c⟩,inv:=λk=>k<=c.ns.length/\(Mf c k).q=[],meas:=λk=>c.ns.length-k,tag:=[0] }
def DDP(c:Cht):Shape:={ α:=Nat,dflt:=0,T:=λk=>⟨CEM c k ++ fwT c k,fwY c k⟩,inv:=λk=>k<=c.ns.length/\1<=(Mf c k).q.length,meas:=λk=>c.ns.length-k,tag:=[1] }
def fwJ(c:Cht)(k j:Nat):List (Nat×AVal):=[(13,.int (gD (IM c) k)),(50,.d (GB ((IM c).take k))),(51,.int k),(52,.int j)]
def DBO(c:Cht)(m:Nat):Shape:={ α:=IJ,dflt:=default,T:=λs=>⟨fwJ c s.i s.j ++ (BRO ++ fwT c s.i),fwH c⟩,inv:=λs=>(s.i<c.ns.length/\c.ns.length-s.i=m/\s.j<=s.i/\∀t,t<s.j->fwP c (Mf c s.i).la (gD (IM c) s.i) (gD (IM c) t)=false)/\(Mf c s.i).q=[],meas:=λs=>c.ns.length-s.j }
def DEN(c:Cht)(m:Nat):Shape:={ α:=IJ,dflt:=default,T:=λs=>⟨fwJ c s.i s.j ++ (CEM c s.i ++ fwT c s.i),fwY c s.i⟩,inv:=λs=>(s.i<c.ns.length/\c.ns.length-s.i=m/\s.j<=s.i/\∀t,t<s.j->fwP c (Mf c s.i).la (gD (IM c) s.i) (gD (IM c) t)=false)/\1<=(Mf c s.i).q.length,meas:=λs=>c.ns.length-s.j }
def fwT2(c:Cht)(k:Nat):List (Nat×AVal):=fwB c ++ [(11,.int (Mf c (k+1)).la),(41,.d (GB (IM c))),(42,.int c.ns.length),(43,.int k)]
def DAN(c:Cht)(m:Nat):Shape:={ α:=Nat,dflt:=0,T:=λk=>⟨BRO ++ fwT2 c k,fwH c⟩,inv:=λk=>k<c.ns.length/\c.ns.length-k=m/\(Mf c (k+1)).q=[],meas:=λ_=>0 }
def CEP(c:Cht)(m:Nat)(f:List (Nat×Nat)):Shape:={ α:=Nat,dflt:=0,T:=λk=>⟨CEM c (k+1) ++ fwT2 c k,fwY c (k+1)⟩,inv:=λk=>k<c.ns.length/\c.ns.length-k=m/\1<=(Mf c (k+1)).q.length,meas:=λ_=>0,first:=f }
def fw26(c:Cht)(z:List Nat):Shape:={ α:=One,dflt:=default,T:=λ_=>⟨[(5,.bptr 203 0),(9,.d (GB (Hm c).q)),(10,.d (aZ (Hm c).r))],[(203,.live (dkB (CM c) 204)),(204,.live (dkM (CM c)))]⟩,inv:=λ_=>True,meas:=λ_=>0,ffz:=z }
def fw10(c:Cht):Shape:={ α:=One,dflt:=default,T:=λ_=>⟨[(1,.bptr 201 0),(5,.bptr 203 0),(7,.own 202 1 0 c.ns.length)],fwH c ++ [(202,.live (.row 1 c.ns.length λi=>Gk i))]⟩,inv:=λ_=>1<=c.ns.length,meas:=λ_=>0 }
theorem BXS(a b:Int):dPr (.agg [Gk a,.v (.int .i64 b)])=⟨a,b⟩:=rfl
theorem AJL(c:Cht):Dk.mk c (CM c).st (CM c).sp=CM c:=rfl
theorem BXR{c:Cht}(h:nsIn c):∀i,i<c.ns.length->0<=(gD c.ns i).mi/\(gD c.ns i).mi<c.ms.length:=λi hi=>h _ (List.any_eq_true.2 ⟨_,OH hi,by simp⟩)
theorem BRU(n:Nat):(idL n).length=n:=by unfold idL;simp
theorem BFG(c:Cht):(IM c).Perm (idL c.ns.length):=V6 _ _
theorem BDB(c:Cht):(IM c).length=c.ns.length:=by rw[(BFG c).length_eq,BRU]
theorem CJX(c:Cht){i:Nat}(hi:i<c.ns.length):0<=gD (IM c) i/\gD (IM c) i<c.ns.length:=by
 have hm:gD (IM c) i∈idL c.ns.length:=(BFG c).mem_iff.1 (OH (by rw[BDB];exact hi))
 obtain⟨k,hk,e⟩:=Df hm
 rw[BRU] at hk
 have e2:gD (idL c.ns.length) k=(k:Int):=FF _ _ _ hk
 rw[<-e,e2];omega
theorem CSZ{c:Cht}{k:Nat}(hk:k<=c.ns.length)(h:∀t,t<k->fwP c (Mf c k).la (gD (IM c) k) (gD (IM c) t)=false):Mf c (k+1)=Mf c k:=by
 show fwN c (Mf c k) _ (((IM c).take k).find? _)=_
 rw[BHE]
 ·rfl
 ·intro t ht
  have ht:t<k:=by rw[List.length_take] at ht;omega
  rw[mP ht];exact h t ht
theorem CQW{c:Cht}{k j:Nat}(hk:k<=c.ns.length)(hj:j<k)(h:∀t,t<j->fwP c (Mf c k).la (gD (IM c) k) (gD (IM c) t)=false)(h2:fwP c (Mf c k).la (gD (IM c) k) (gD (IM c) j)=true):Mf c (k+1)=⟨wr (miA c (gD (IM c) k)-1),(Mf c k).q ++ [wr (miA c (gD (IM c) k)-1)],(Mf c k).r ++ [⟨gD (IM c) j,gD (IM c) k⟩]⟩:=by
 have e:(((IM c).take k).find? (fwP c (Mf c k).la (gD (IM c) k)))=some (gD ((IM c).take k) j):=BRW (by rw[List.length_take,BDB];omega) (λt ht=>by rw[mP (by omega)];exact h t ht) (by rw[mP hj];exact h2)
 show fwN c (Mf c k) _ (((IM c).take k).find? _)=_
 rw[e,mP hj];rfl
theorem BJY(c:Cht):∀k,(Mf c k).q.length<=k/\(Mf c k).r.length=(Mf c k).q.length
 |0=>⟨Nat.le_refl _,rfl⟩
 |k+1=>by
  obtain⟨h1,h2⟩:=BJY c k
  show (fwN c (Mf c k) _ (((IM c).take k).find? _)).q.length<=_/\(fwN c (Mf c k) _ (((IM c).take k).find? _)).r.length=(fwN c (Mf c k) _ (((IM c).take k).find? _)).q.length
  cases ((IM c).take k).find? (fwP c (Mf c k).la (gD (IM c) k)) with
  |none=>exact⟨by show (Mf c k).q.length<=_;omega,h2⟩
  |some a=>
   refine⟨?_,?_⟩
   ·show ((Mf c k).q ++ [_]).length<=_
    rw[List.length_append];simp;omega
   ·show ((Mf c k).r ++ [_]).length=((Mf c k).q ++ [_]).length
    rw[List.length_append,List.length_append];simp;omega
theorem BSC{α:Type}[Inhabited α](l:List α)(x:α)(i:Nat)(h:i<l.length+1):gD (l ++ [x]) i=bif decide (i<l.length) then gD l i else x:=by
 rw[BEJ]
 by_cases h2:i<l.length
 ·simp[h2]
 ·have:i-l.length=0:=by omega
  rw[if_neg h2,this,decide_eq_false h2];rfl
def C_insZ:Ctr:={ ro:=[100],α:=Cht,xs:=λ_=>[.d Ej,.int 0,.int 0,.fn (.func jE) [] [.bptr 100 0]],L:=λc=>[(100,xO c)],val:=λ_=>.d (.tup []),keep:=λc=>[(100,.live (xO c))] }
def CFF:List AVal->Heap->Option (Cht×List (Nat×Nat)×List Nat)
 |[.d _,_,_,.fn _ _ [.bptr id _]],H=>match rG H id with
  |some q=>some (q,[(100,id)],[])
  |none=>none
 |_,_=>none
def iz1(c:Cht):Shape:={ α:=One,dflt:=default,T:=λ_=>⟨[(0,.d Ej),(1,.int 0),(2,.int 0),(3,.fn (.func jE) [] [.bptr 100 0]),(8,.int 1)],[(100,.live (xO c))]⟩,inv:=λ_=>True,meas:=λ_=>0 }
def CAD(c:Cht):Ann:={ ann 53 [] with E:=[100],loops:=λid=>if id=1 then some [iz1 c] else none }
def CCS(c:Cht):Prop:=ES Try.prog (CAD c) AZK (AJ AZK) (C_insZ.xs c) (AD (C_insZ.L c)) (C_insZ.val c) (C_insZ.keep c) [] []
abbrev Oh a b c d:=AI a b b c d
attribute [go_sem] Oh
theorem CIN(c:Cht):(CCS c)=(Yc (Pj AG (Oh EY BP (ZZ (MY 1) ((@HMod.hMod Nat Nat Nat (@instHMod Nat Nat.instMod)) (BG 1) (Int.natAbs (BEM 2 (IntKind.bits RU))))) (KP c))) (KP c)):=by kernel_rfl
theorem CNK:AW Try.prog AUD (C_insZ.spec CFF):=Je C_insZ CAD [] [] BUD (λ_=>by kernel_rfl) (λ_=>AK) (λ(c:Cht) _=>by
 show CCS c;rw[CIN]<;> delta MD Iv BH BK DY RU EM EO CH AB CJ CE AY MY EB FX EC GY GX GR GG DV FO FU IP IV Qr Qj BEM AH CK AX AI BC AV AF BI GJ Oh AQ BB AC BZ CN BF AE AO DD DC BG BR BE BS BJ BQ LY BV BL BM CY BY ER AG TV KL GD OT OR DF OU HG KQ BP GP NP FT QD Gb HI EY Fq Ew ZZ KP Qv Dw jV Pj Yc;exact⟨⟨default,by simp;rfl,trivial⟩,λ_ _=>by simp⟩) (λ_=>Kp rfl rfl) _
def C_pdqZ:Ctr:={ ro:=[100],α:=Cht,xs:=λ_=>[.d Ej,.int 0,.int 0,.any,.fn (.func jE) [] [.bptr 100 0]],L:=λc=>[(100,xO c)],val:=λ_=>.d (.tup []),keep:=λc=>[(100,.live (xO c))] }
def CCY:List AVal->Heap->Option (Cht×List (Nat×Nat)×List Nat)
 |[.d _,_,_,_,.fn _ _ [.bptr id _]],H=>match rG H id with
  |some q=>some (q,[(100,id)],[])
  |none=>none
 |_,_=>none
def pz2(c:Cht):Shape:={ α:=One,dflt:=default,T:=λ_=>⟨[(0,.d Ej),(1,.int 0),(2,.int 0),(3,.any),(4,.fn (.func jE) [] [.bptr 100 0]),(10,.bool true),(11,.bool true)],[(100,.live (xO c))]⟩,inv:=λ_=>True,meas:=λ_=>0 }
def CEZ(c:Cht):Ann:={ ann 148 [(AUD,C_insZ.spec CFF)] with E:=[100],loops:=λid=>if id=2 then some [pz2 c] else none }
def CCW(c:Cht):Prop:=ES Try.prog (CEZ c) BKC (AJ BKC) (C_pdqZ.xs c) (AD (C_pdqZ.L c)) (C_pdqZ.val c) (C_pdqZ.keep c) [] []
abbrev M3 a b c:=Sz a a b c
attribute [go_sem] M3
theorem CNA(c:Cht):(CCW c)=(Yc (Dg (Ow EY (M3 BP IU (KP c)))) (BL AG (Oh EY BP (BY c) (RR c (BM c) (BV c) (BQ c) (BW c) (DK c) (BO c) (λi=>AT i c (AM c i) (AN c i) (AS c i) (AC c i) (AL c i) (AR c i) (AE c i)) (Gd c (AB (λi=>AU i c (EI c i) (EJ c i) (AC c i) (AS c i) (EH c i) (AE c i) (AR c i)))))) (KP c))):=by kernel_rfl
theorem COD:AW Try.prog BEV (C_pdqZ.spec CCY):=Je C_pdqZ CEZ [] [] BZB (λ_=>by kernel_rfl) (λ_=>AA CNK AK) (λ(c:Cht) _=>by
 show CCW c;rw[CNA]<;> delta MD Iv BH BK DY EM EO CH AB CJ CE AY MY EB FX EC GY GX GR GG DV FO FU IP LW Qr Qj AH CK IW AX JE AI BC AV AF IK IN BI GJ Sz M3 Oh AQ JB BB AC BZ CN BF AE AO BD HK DD AZ DC BR BE BS BJ AR BQ LY BV HF CI OC BL AS BM CY BY ER AG IE TV KL CU GD CX OT OR OE DF DU HY DR OU HG OD KQ FW AT HE OF BP RG AU DO DI BO BW AL AN AM GP ID NP MQ MN DK IU SC FT QD Gb HI KS HS Gr EH EJ EI EY Fq JL Ew KP RR Qv Xn Gd Dw Dg Ow Yc;simp only[CC,eq_self,implies_true,forall_const];exact⟨default,trivial⟩) (λ_=>Kp rfl rfl) _
def C_sortZ:Ctr:={ ro:=[100],α:=Cht,xs:=λ_=>[.d Ej,.fn (.func jE) [] [.bptr 100 0]],L:=λc=>[(100,xO c)],val:=λ_=>.d (.tup []),keep:=λc=>[(100,.live (xO c))] }
def BUF:List AVal->Heap->Option (Cht×List (Nat×Nat)×List Nat)
 |[.d _,.fn _ _ [.bptr id _]],H=>match rG H id with
  |some q=>some (q,[(100,id)],[])
  |none=>none
 |_,_=>none
def BUG:Ann:={ ann 14 [(BIO,BFL),(BEV,C_pdqZ.spec CCY)] with E:=[100] }
def BUL(c:Cht):Prop:=ES Try.prog BUG AHZ (AJ AHZ) (C_sortZ.xs c) (AD (C_sortZ.L c)) (C_sortZ.val c) (C_sortZ.keep c) [] []
theorem CEL(c:Cht):(BUL c)=(And (DT (BX (Zh (CG 0))) (HD (Zh (CG 0)) 20) AG (Oh EY BP (BY c) (RR c (BM c) (BV c) (BQ c) (BW c) (DK c) (BO c) (λi=>AT i c (AM c i) (AN c i) (AS c i) (AC c i) (AL c i) (AR c i) (AE c i)) (Gd c (AB (λi=>AU i c (EI c i) (EJ c i) (AC c i) (AS c i) (EH c i) (AE c i) (AR c i))))))) (KP c)):=by kernel_rfl
theorem CGE:AW Try.prog AKN (C_sortZ.spec BUF):=Je C_sortZ (λ_=>BUG) [] [] BMF (λ_=>by kernel_rfl) (λ_=>AA CEI (AA COD AK)) (λ(c:Cht) _=>by
 show BUL c;rw[CEL]<;> delta MD Iv BH BK DY RD EM EO CH AB CJ CE AY CG MY HD EB FX EC GY GX GR GG DV FO FU AH CK IW AX JE AI BC AV AF IK IN BI GJ Oh AQ JB BB AC BZ CN BF AE AO BD HK DD AZ DC BR BE BS BJ AR BQ LY BV HF CI OC AS BM CY BY ER AG IE BX TV KL CU GD CX OT OR OE DF DU HY DR OU HG OD DT KQ FW AT HE OF BP RG AU DO DI BO BW AL AN AM GP ID NP MQ MN DK SC FT QD Gb HI KS HS Gr EH EJ EI EY Fq JL Ew KP RR Gd Zh;simp only[CC,eq_self,implies_true,forall_const];rw[u64w (by omega) (by omega)];omega) (λ_=>Kp rfl rfl) _
def fz6(c:Cht):Shape:={ α:=One,dflt:=default,T:=λ_=>⟨(7,.d Ej) :: fw6S c 0,fwH c⟩,inv:=λ_=>c.ns.length=0,meas:=λ_=>60,first:=fwR }
def fz15(c:Cht):Shape:={ α:=One,dflt:=default,T:=λ_=>⟨BRO ++ [(1,.bptr 201 0),(5,.bptr 203 0),(7,.d Ej),(11,.int (-1)),(41,.d Ej),(42,.int 0),(43,.int 0)],fwH c⟩,inv:=λ_=>c.ns.length=0,meas:=λ_=>60 }
def CDY(c:Cht):Ann:={ ann 101 [(Iz,C_open.spec iT),(AKN,C_sortZ.spec BUF),(AZN,C_stop.spec dDkZ),(mQ,C_times.spec sX)] with loops:=λid=>if id=6 then some [fz6 c] else if id=15 then some [fz15 c] else none }
def CFN(c:Cht):Prop:=ES Try.prog (CDY c) sJ (AJ sJ) [.d (Nj c)] (AD []) (.tup [.d (GB (N5 c).q),.d (aZ (N5 c).r),.int (N5 c).e]) [] [] []
abbrev AIP(c:Cht):List Mk:=NK c.ms.length λ(i:Nat)=>gD c.ms i
abbrev T9(c:Cht):Nat:=(AIP c).length
abbrev AZU(c:Cht):Prop:=T9 c=c.ms.length
abbrev AYP(c:Cht)(i:Nat):Mk:=gD (AIP c) i
abbrev AYZ(c:Cht)(i:Nat):Int:=(AYP c i).pl
abbrev BBA(c:Cht)(i:Nat):Int:=(AYP c i).ht
abbrev AYB(c:Cht):Prop:=∀(i:Nat),i<T9 c->AYZ c i=(gD c.ms i).pl/\BBA c i=(gD c.ms i).ht
abbrev AIM(c:Cht):List Nt:=NK c.ns.length λ(i:Nat)=>gD c.ns i
abbrev Z0(c:Cht):Nat:=(AIM c).length
abbrev BDD(c:Cht):Prop:=Z0 c=c.ns.length
abbrev ABM(c:Cht)(i:Nat):Nt:=gD (AIM c) i
abbrev AMU(c:Cht)(i:Nat):Int:=(ABM c i).mi
abbrev APG(c:Cht)(i:Nat):Span:=(ABM c i).t
abbrev ALY(c:Cht)(i:Nat):Int:=(APG c i).lo
abbrev ANW(c:Cht)(i:Nat):Int:=(APG c i).hi
abbrev AUK(c:Cht)(i:Nat):Span:=(ABM c i).s
abbrev ALU(c:Cht)(i:Nat):Int:=(AUK c i).lo
abbrev AQN(c:Cht)(i:Nat):Int:=(AUK c i).hi
abbrev ANL(c:Cht):Prop:=∀(i:Nat),i<Z0 c->AMU c i=(gD c.ns i).mi/\ALY c i=(gD c.ns i).t.lo/\ANW c i=(gD c.ns i).t.hi/\ALU c i=(gD c.ns i).s.lo/\AQN c i =
 (gD c.ns i).s.hi
abbrev ASJ(c:Cht):Cht:=Cht.mk c.p c.base c.scale c.off (AIP c) (AIM c)
abbrev Tv:Prop:=(0:Nat)=(0:Nat)
abbrev gR:Prop:=∀(i:Nat),i<(0:Nat)->false=false
abbrev ACR:Prop:=Int.ofNat (0:Nat)=Int.ofNat (0:Nat)
abbrev ATH(c:Cht):Prop:=c.ms.length=c.ms.length
abbrev AUG(c:Cht):Prop:=∀(i:Nat),i<c.ms.length->(gD c.ms i).pl=(gD c.ms i).pl/\(gD c.ms i).ht=(gD c.ms i).ht
abbrev ANE(c:Cht):Prop:=c.ns.length=c.ns.length
abbrev AQT(c:Cht):Prop:=∀(i:Nat),i<c.ns.length->(gD c.ns i).mi=(gD c.ns i).mi/\(gD c.ns i).t.lo=(gD c.ns i).t.lo/\(gD c.ns i).t.hi=(gD c.ns i).t.hi/\(gD c.ns i).s.lo=(gD c.ns i).s.lo/\(gD
 c.ns i).s.hi=(gD c.ns i).s.hi
abbrev AUL(c:Cht):Dk:=CM (ASJ c)
abbrev dM(c:Cht):Cht:=(AUL c).c
abbrev AOD(c:Cht):Span:=(dM c).p
abbrev ANZ(c:Cht):List Mk:=(dM c).ms
abbrev ATG(i:Nat)(c:Cht):Prop:=i<(CM c).c.ms.length
abbrev ASC(c:Cht)(i:Nat):Mk:=gD (ANZ c) i
abbrev A4(c:Cht):List Nt:=(dM c).ns
abbrev ANX(i:Nat)(c:Cht):Prop:=i<(CM c).c.ns.length
abbrev ADE(c:Cht)(i:Nat):Nt:=gD (A4 c) i
abbrev zK(c:Cht)(i:Nat):Int:=(gD (CM c).c.ns i).t.lo
abbrev AOY(c:Cht)(i:Nat):Span:=(ADE c i).t
abbrev zT(c:Cht)(i:Nat):Int:=(gD (CM c).c.ns i).t.hi
abbrev yF(c:Cht)(i:Nat):Int:=(gD (CM c).c.ns i).s.lo
abbrev AQL(c:Cht)(i:Nat):Span:=(ADE c i).s
abbrev yU(c:Cht)(i:Nat):Int:=(gD (CM c).c.ns i).s.hi
abbrev nI:Prop:=∀(i:Nat),i<(40:Nat)->false=false
abbrev AAA(c:Cht)(n:Int):Nt:=ntOf (A4 c) n
abbrev AOG(c:Cht)(n:Int):Span:=(AAA c n).t
abbrev AOC(c:Cht)(n:Int):Span:=(AAA c n).s
abbrev yH(c:Cht):Prop:=c.ns.length=(0:Nat)
abbrev ATI:Prop:=(0:Nat)<(1:Nat)
abbrev AUO(c:Cht):Prop:=(CM c).c.p.lo=(CM c).c.p.lo
abbrev ARQ(c:Cht):Prop:=(CM c).c.p.hi=(CM c).c.p.hi
abbrev AUR(c:Cht):Prop:=(CM c).c.base=(CM c).c.base
abbrev ALS(c:Cht):Prop:=(CM c).c.scale=(CM c).c.scale
abbrev ALQ(c:Cht):Prop:=(CM c).c.off=(CM c).c.off
abbrev yK(c:Cht):Prop:=∀(n:Int),(CM c).st n=(CM c).st n
abbrev ACA(c:Cht):List Mk:=NK (CM c).c.ms.length λ(i:Nat)=>gD (CM c).c.ms i
abbrev ACY(c:Cht):Nat:=(ACA c).length
abbrev AQD(c:Cht)(i:Nat):Mk:=gD (ACA c) i
abbrev nK(c:Cht):List Nt:=NK (CM c).c.ns.length λ(i:Nat)=>gD (CM c).c.ns i
abbrev ARP(c:Cht):Nat:=(nK c).length
abbrev ACM(c:Cht)(i:Nat):Nt:=gD (nK c) i
abbrev ANR(c:Cht)(i:Nat):Span:=(ACM c i).t
abbrev AUM(c:Cht)(i:Nat):Span:=(ACM c i).s
abbrev ADG(c:Cht)(n:Int):Nt:=ntOf (nK c) n
abbrev ASX(c:Cht)(n:Int):Span:=(ADG c n).t
abbrev AMJ(c:Cht)(n:Int):Span:=(ADG c n).s
abbrev Z6(c:Cht):Dk:=stD (DkZ.mk (Dk.mk (Cht.mk (CM c).c.p (CM c).c.base (CM c).c.scale (CM c).c.off (ACA c) (nK c)) (CM c).st (CM c).sp) (NK (0:Nat) λ(i:Nat)=>default))
abbrev fH(c:Cht):Cht:=(Z6 c).c
abbrev yP(c:Cht):List Nt:=(fH c).ns
abbrev ACJ(c:Cht)(n:Int):Nt:=ntOf (yP c) n
abbrev APJ(c:Cht)(n:Int):Span:=(ACJ c n).t
abbrev ALR(c:Cht)(n:Int):Span:=(ACJ c n).s
abbrev ACV(c:Cht):Span:=(fH c).p
abbrev ARZ(c:Cht):Int:=(ACV c).lo
abbrev ASE(c:Cht):Prop:=ARZ c=ARZ c
abbrev AOK(c:Cht):Int:=(ACV c).hi
abbrev ASS(c:Cht):Prop:=AOK c=AOK c
abbrev ABV(c:Cht):Int:=(fH c).base
abbrev ANU(c:Cht):Prop:=ABV c=ABV c
abbrev ACX(c:Cht):Int:=(fH c).scale
abbrev AMT(c:Cht):Prop:=ACX c=ACX c
abbrev AAS(c:Cht):Int:=(fH c).off
abbrev ASH(c:Cht):Prop:=AAS c=AAS c
abbrev ATZ(c:Cht):List Mk:=(fH c).ms
abbrev zS(c:Cht):Nat:=(ATZ c).length
abbrev ACO(c:Cht)(i:Nat):Mk:=gD (ATZ c) i
abbrev AAF(c:Cht):List Mk:=NK (zS c) λ(i:Nat)=>ACO c i
abbrev eN(c:Cht):Nat:=(AAF c).length
abbrev ASL(c:Cht)(i:Nat):Mk:=gD (AAF c) i
abbrev ATY(c:Cht)(i:Nat):Int:=(ASL c i).pl
abbrev APK(c:Cht)(i:Nat):Int:=(ACO c i).pl
abbrev ATJ(c:Cht)(i:Nat):Int:=(ASL c i).ht
abbrev APC(c:Cht)(i:Nat):Int:=(ACO c i).ht
abbrev xV(c:Cht):Nat:=(yP c).length
abbrev xX(c:Cht)(i:Nat):Nt:=gD (yP c) i
abbrev nJ(c:Cht):List Nt:=NK (xV c) λ(i:Nat)=>xX c i
abbrev AAR(c:Cht):Nat:=(nJ c).length
abbrev ABG(c:Cht)(i:Nat):Nt:=gD (nJ c) i
abbrev ASQ(c:Cht)(i:Nat):Int:=(ABG c i).mi
abbrev ALZ(c:Cht)(i:Nat):Int:=(xX c i).mi
abbrev ANS(c:Cht)(i:Nat):Span:=(ABG c i).t
abbrev AFF(c:Cht)(i:Nat):Int:=(ANS c i).lo
abbrev AFI(c:Cht)(i:Nat):Span:=(xX c i).t
abbrev AFV(c:Cht)(i:Nat):Int:=(AFI c i).lo
abbrev AHF(c:Cht)(i:Nat):Int:=(ANS c i).hi
abbrev AGH(c:Cht)(i:Nat):Int:=(AFI c i).hi
abbrev AGY(c:Cht)(i:Nat):Span:=(ABG c i).s
abbrev AFO(c:Cht)(i:Nat):Int:=(AGY c i).lo
abbrev AGD(c:Cht)(i:Nat):Span:=(xX c i).s
abbrev AEP(c:Cht)(i:Nat):Int:=(AGD c i).lo
abbrev AFQ(c:Cht)(i:Nat):Int:=(AGY c i).hi
abbrev AHA(c:Cht)(i:Nat):Int:=(AGD c i).hi
abbrev I4(c:Cht)(n:Int):Bool:=hasN (nJ c) n
abbrev F6(c:Cht)(n:Int):Nt:=ntOf (nJ c) n
abbrev AFN(c:Cht)(n:Int):Int:=(F6 c n).mi
abbrev AHN(c:Cht)(n:Int):Span:=(F6 c n).t
abbrev AEU(c:Cht)(n:Int):Int:=(AHN c n).lo
abbrev AGO(c:Cht)(n:Int):Int:=(AHN c n).hi
abbrev AFB(c:Cht)(n:Int):Span:=(F6 c n).s
abbrev AGU(c:Cht)(n:Int):Int:=(AFB c n).lo
abbrev AGK(c:Cht)(n:Int):Int:=(AFB c n).hi
abbrev pW(c:Cht):Prop:=(N5 c).q.length=(0:Nat)
abbrev sM(c:Cht):Prop:=(N5 c).r.length=(0:Nat)
theorem CNU(c:Cht):(CFN c)=((c.p.lo=c.p.lo/\c.p.hi=c.p.hi/\c.base=c.base/\c.scale=c.scale/\c.off=c.off/\AZU c/\AYB c/\BDD c/\ANL c/\(T9 c<(4611686018427387904
 : Nat)/\Z0 c<(4611686018427387904:Nat))/\AP (ASJ c)=(0:Int))/\(∃(a:One),(Tv/\gR/\(↑c.ns.length:Int)=(↑c.ns.length:Int)/\ACR/\c.p.lo=c.p.lo/\c.p.hi=c.p.hi
 /\ c.base=c.base/\c.scale=c.scale/\c.off=c.off/\ATH c/\AUG c/\ANE c/\AQT c/\(CM c).c.p.lo=(AOD c).lo/\(CM c).c.p.hi=(AOD c).hi/\(CM c).c.base=(dM
 c).base/\(CM c).c.scale=(dM c).scale/\(CM c).c.off=(dM c).off/\(CM c).c.ms.length=(ANZ c).length/\(∀(i:Nat),ATG i c->(gD (CM c).c.ms i).pl=(ASC c i).pl/\(gD (CM
 c).c.ms i).ht=(ASC c i).ht)/\(CM c).c.ns.length=(A4 c).length/\(∀(i:Nat),ANX i c->(gD (CM c).c.ns i).mi=(ADE c i).mi/\zK c i=(AOY c i).lo/\zT c i =
 (AOY c i).hi/\yF c i=(AQL c i).lo/\yU c i=(AQL c i).hi)/\nI/\E6=E6/\(∀(n:Int),hasN (CM c).c.ns n=hasN (A4 c) n)/\(∀(n:Int),(CM c).st n =
 (AUL c).st n)/\∀(n:Int),(ntOf (CM c).c.ns n).mi=(AAA c n).mi/\(ntOf (CM c).c.ns n).t.lo=(AOG c n).lo/\(ntOf (CM c).c.ns n).t.hi=(AOG c n).hi/\(ntOf (CM c).c.ns n).s.lo =
 (AOC c n).lo/\(ntOf (CM c).c.ns n).s.hi=(AOC c n).hi)/\yH c)/\∀(a:One),yH c->bif decide ((↑(0:Nat):Int)<(↑c.ns.length:Int)) then ((True/\((0:Nat)<(0:Nat)->(0:Nat) =
 (1:Nat)))/\((1:Nat)<=(1:Nat)/\(ATI->(1:Nat)=(1:Nat)))/\(false=true->ATI)/\(1:Nat)<=(9223372036854775807:Nat)/\(8:Nat)<=(140737488355328:Nat))/\False else (Tv /\
 gR/\c.p.lo=c.p.lo/\c.p.hi=c.p.hi/\c.base=c.base/\c.scale=c.scale/\c.off=c.off/\AZU c/\AYB c/\BDD c/\ANL c/\c.p.lo=c.p.lo/\c.p.hi=c.p.hi/\c.base=c.base/\c.scale =
 c.scale/\c.off=c.off/\c.ms.length=T9 c/\(∀(i:Nat),i<c.ms.length->(gD c.ms i).pl=AYZ c i/\(gD c.ms i).ht=BBA c i)/\c.ns.length=Z0 c/\∀(i:Nat),i<c.ns.length->(gD c.ns
 i).mi=AMU c i/\(gD c.ns i).t.lo=ALY c i/\(gD c.ns i).t.hi=ANW c i/\(gD c.ns i).s.lo=ALU c i/\(gD c.ns i).s.hi=AQN c i)/\(∃(a:One),(Tv/\gR/\Tv /\
 gR/\Tv/\gR/\Int.negSucc (0:Nat)=Int.negSucc (0:Nat)/\Tv/\gR/\ACR/\ACR/\c.p.lo=c.p.lo/\c.p.hi=c.p.hi/\c.base=c.base/\c.scale=c.scale/\c.off=c.off
 /\ ATH c/\AUG c/\ANE c/\AQT c/\AUO c/\ARQ c/\AUR c/\ALS c/\ALQ c/\(CM c).c.ms.length=(CM c).c.ms.length/\(∀(i:Nat),ATG i c->(gD (CM
 c).c.ms i).pl=(gD (CM c).c.ms i).pl/\(gD (CM c).c.ms i).ht=(gD (CM c).c.ms i).ht)/\(CM c).c.ns.length=(CM c).c.ns.length/\(∀(i:Nat),ANX i c->(gD (CM c).c.ns i).mi=(gD (CM c).c.ns i).mi
 /\ zK c i=zK c i/\zT c i=zT c i/\yF c i=yF c i/\yU c i=yU c i)/\nI/\E6=E6/\(∀(n:Int),hasN (CM c).c.ns n=hasN (CM c).c.ns n) /\
 yK c/\∀(n:Int),(ntOf (CM c).c.ns n).mi=(ntOf (CM c).c.ns n).mi/\(ntOf (CM c).c.ns n).t.lo=(ntOf (CM c).c.ns n).t.lo/\(ntOf (CM c).c.ns n).t.hi=(ntOf (CM c).c.ns n).t.hi/\(ntOf (CM
 c).c.ns n).s.lo=(ntOf (CM c).c.ns n).s.lo/\(ntOf (CM c).c.ns n).s.hi=(ntOf (CM c).c.ns n).s.hi)/\yH c)/\∀(a:One),yH c->(Tv/\Tv/\AUO c/\ARQ c/\AUR c /\
 ALS c/\ALQ c/\ACY c=(CM c).c.ms.length/\(∀(i:Nat),i<ACY c->(AQD c i).pl=(gD (CM c).c.ms i).pl/\(AQD c i).ht=(gD (CM c).c.ms i).ht)/\ARP c=(CM
 c).c.ns.length/\(∀(i:Nat),i<ARP c->(ACM c i).mi=(gD (CM c).c.ns i).mi/\(ANR c i).lo=zK c i/\(ANR c i).hi=zT c i/\(AUM c i).lo=yF c i/\(AUM c
 i).hi=yU c i)/\nI/\E6=E6/\(∀(n:Int),hasN (nK c) n=hasN (CM c).c.ns n)/\yK c/\(∀(n:Int),(ADG c n).mi=(ntOf (CM c).c.ns n).mi/\(ASX c n).lo=(ntOf (CM
 c).c.ns n).t.lo/\(ASX c n).hi=(ntOf (CM c).c.ns n).t.hi/\(AMJ c n).lo=(ntOf (CM c).c.ns n).s.lo/\(AMJ c n).hi=(ntOf (CM c).c.ns n).s.hi)/\E6=E6/\(∀(n:Int),hasN (CM c).c.ns n =
 hasN (yP c) n)/\(∀(n:Int),(CM c).st n=(Z6 c).st n)/\(∀(n:Int),(ntOf (CM c).c.ns n).mi=(ACJ c n).mi/\(ntOf (CM c).c.ns n).t.lo=(APJ c n).lo/\(ntOf (CM c).c.ns n).t.hi =
 (APJ c n).hi/\(ntOf (CM c).c.ns n).s.lo=(ALR c n).lo/\(ntOf (CM c).c.ns n).s.hi=(ALR c n).hi)/\(0:Nat)<(4611686018427387904:Nat)/\ACY c<=(40:Nat))/\(ASE c/\ASS c
 /\ ANU c/\AMT c/\ASH c/\eN c=zS c/\(∀(i:Nat),i<eN c->ATY c i=APK c i/\ATJ c i=APC c i)/\AAR c=xV c/\(∀(i:Nat),i <
 AAR c->ASQ c i=ALZ c i/\AFF c i=AFV c i/\AHF c i=AGH c i/\AFO c i=AEP c i/\AFQ c i=AHA c i)/\nI/\E6=E6/\(∀(n:Int),
 I4 c n=hasN (CM c).c.ns n)/\yK c/\(∀(n:Int),AFN c n=(ntOf (CM c).c.ns n).mi/\AEU c n=(ntOf (CM c).c.ns n).t.lo/\AGO c n=(ntOf (CM c).c.ns n).t.hi/\AGU c
 n=(ntOf (CM c).c.ns n).s.lo/\AGK c n=(ntOf (CM c).c.ns n).s.hi)/\ASE c/\ASS c/\ANU c/\AMT c/\ASH c/\zS c=eN c/\(∀(i:Nat),i<zS c ->
 APK c i=ATY c i/\APC c i=ATJ c i)/\xV c=AAR c/\(∀(i:Nat),i<xV c->ALZ c i=ASQ c i/\AFV c i=AFF c i/\AGH c i=AHF c
 i/\AEP c i=AFO c i/\AHA c i=AFQ c i)/\nI/\E6=E6/\(∀(n:Int),hasN (CM c).c.ns n=I4 c n)/\yK c/\(∀(n:Int),(ntOf (CM c).c.ns n).mi=AFN c
 n/\(ntOf (CM c).c.ns n).t.lo=AEU c n/\(ntOf (CM c).c.ns n).t.hi=AGO c n/\(ntOf (CM c).c.ns n).s.lo=AGU c n/\(ntOf (CM c).c.ns n).s.hi=AGK c n)/\(1:Nat)<=eN c /\
 eN c<=(40:Nat)/\∀(j:Int),I4 c j=true->(0:Int)<=j/\j<(↑(eN c):Int))/\bif !(JD (Dk.mk (Cht.mk (ACV c) (ABV c) (ACX c) (AAS c) (AAF c) (nJ
 c)) (CM c).st (Z6 c).sp)).snd then pW c/\pW c/\sM c/\sM c/\(N5 c).e=(6:Int) else pW c/\pW c/\sM c/\sM c/\(N5 c).e=(0:Int)):=by
 kernel_rfl
def CEA:Ann:=ann 101 [(Iz,C_openX.spec iT)]
def CFZ(c:Cht):Prop:=ES Try.prog CEA sJ (AJ sJ) [.d (Nj c)] (AD []) (.tup [.d (GB nilI),.d (aZ nilP),.int (AP c)]) [] [] []
abbrev N4 a b:=Yw a a b
abbrev Vt a:=N4 AG a
attribute [go_sem] N4 Vt
theorem CMJ(c:Cht):(CFZ c)=(And (Ki c (λi=>AT i c (AM c i) (AN c i) (AS c i) (AC c i) (AL c i) (AR c i) (AE c i)) (fT c)) (FV (Kl c) (Vt (Cm c (Ao c))) VS)):=by kernel_rfl
theorem CTO(c:Cht)(h1:c.ms.length<4611686018427387904/\c.ns.length<4611686018427387904)(h0:AP c=0)(hn:c.ns.length=0):CFN c:=by
 have hl:=PR h0
 have hs:=Zu h0
 rw[CNU];delta AIP T9 AZU AYP AYZ BBA AYB AIM Z0 BDD ABM AMU APG ALY ANW AUK ALU AQN ANL ASJ Tv gR ACR ATH AUG ANE AQT AUL dM AOD ANZ ATG ASC A4 ANX ADE zK AOY zT yF AQL yU nI AAA AOG AOC yH ATI AUO ARQ AUR ALS ALQ yK ACA ACY AQD nK ARP ACM ANR AUM ADG ASX AMJ Z6 fH yP ACJ APJ ALR ACV ARZ ASE AOK ASS ABV ANU ACX AMT AAS ASH ATZ zS ACO AAF eN ASL ATY APK ATJ APC xV xX nJ AAR ABG ASQ ALZ ANS AFF AFI AFV AHF AGH AGY AFO AGD AEP AFQ AHA I4 F6 AFN AHN AEU AGO AFB AGU AGK pW sM;simp only[CC,eq_self,implies_true,forall_const,FR,AGZ,fK,BFM,AJL]
 have hq:(Hm c).q=[]:=by unfold Hm;rw[hn];rfl
 have hr:(Hm c).r=[]:=by unfold Hm;rw[hn];rfl
 refine⟨⟨h1,h0⟩,⟨default,hn⟩,λ_=>⟨λh=>by omega,λ_=>⟨⟨default,hn⟩,λ_=>⟨⟨λn=>rfl,by decide,hl.2.1.2⟩,⟨hl.2.1.1,hl.2.1.2,hs.1⟩,λhc=>?_,λhc=>?_⟩⟩⟩⟩
 ·have hc:(JD (stD ⟨CM c,[]⟩)).2=false:=hc
  have hc:(JD (fwW c)).2=false:=by unfold fwW;rw[hq];exact hc
  unfold N5;rw[hc];exact⟨rfl,rfl,rfl,rfl,rfl⟩
 ·have hc:(JD (stD ⟨CM c,[]⟩)).2=true:=hc
  have hc:(JD (fwW c)).2=true:=by unfold fwW;rw[hq];exact hc
  unfold N5;rw[hc]
  exact⟨by show (Hm c).q.length=0;rw[hq];rfl,by show (Hm c).q.length=0;rw[hq];rfl,by show (Hm c).r.length=0;rw[hr];rfl,by show (Hm c).r.length=0;rw[hr];rfl,rfl⟩
end Go.Bal
