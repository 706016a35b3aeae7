/- Package rating: the least and the greatest flow (no program in sight). -/
import Derived.Test.YtoihhodbkimedaaGreatRatI
set_option linter.unusedVariables false
set_option linter.unusedSimpArgs false
namespace Go.Bal
open Go Go.Sym Go.Proofs
def Mq(a b:Rt):Prop:=a.n*b.d<=b.n*a.d
def okR(r:Rt):Prop:=(0<r.d/\r.d<=2000)/\0<=r.n/\r.n<=200000*r.d
def Bn(f:Rl)(t:Int):Rt:=if f.num t<0 then⟨0,1⟩ else if 200000*f.w<f.num t then⟨200000,1⟩ else⟨f.num t,f.w⟩
theorem Bw{f:Rl}{t:Int}(h:0<f.w):0<(Bn f t).d:=by
 unfold Bn;split
 ·exact Int.one_pos
 ·split
  ·exact Int.one_pos
  ·exact h
theorem NE{a b c:Rt}(ha:0<=a.d)(hb:0<b.d)(hc:0<=c.d)(h1:Mq a b)(h2:Mq b c):Mq a c:=AAF hb h1 h2 ha hc
theorem ABT(a:Rt):Mq a a:=Int.le_refl _
theorem AHY{f g:Rl}{t u:Int}(hf:0<f.w)(hg:0<g.w)(h:f.num t*g.w<=g.num u*f.w):Mq (Bn f t) (Bn g u):=by
 unfold Bn Mq
 generalize f.num t=a at *
 generalize g.num u=b at *
 generalize f.w=c at *
 generalize g.w=d at *
 by_cases h1:a<0
 ·rw[if_pos h1]
  split
  ·simp
  ·split
   ·simp
   ·simp;omega
 ·rw[if_neg h1]
  have ha:=Int.mul_nonneg (show 0<=a by omega) (Int.le_of_lt hg)
  have hb:0<=b:=eJ hf (by rw[Int.zero_mul];omega)
  rw[if_neg (show ¬b<0 by omega)]
  by_cases h2:200000*c<a
  ·rw[if_pos h2]
   have h3:=Int.mul_lt_mul_of_pos_right h2 hg
   have h4:200000*d<b:=Int.lt_of_mul_lt_mul_right (a:=c) (by grind) (Int.le_of_lt hf)
   rw[if_pos h4];simp
  ·rw[if_neg h2]
   split
   ·simp;omega
   ·exact h
theorem CAG{N W:Int}(hW:0<W):((Vx N W).n<0↔N<0)/\(200000*(Vx N W).d<(Vx N W).n↔200000*W<N):=by
 have hv:=AMQ (n:=N) hW
 have hd:=(BJJ (n:=N) hW).1
 generalize Vx N W=r at *
 refine⟨⟨λh=>?_,λh=>?_⟩,λh=>?_,λh=>?_⟩
 ·have:=Int.mul_neg_of_neg_of_pos h hW
  rcases Int.lt_or_le N 0 with h1 | h1
  ·exact h1
  ·have:=Int.mul_nonneg h1 (Int.le_of_lt hd);omega
 ·have:=Int.mul_neg_of_neg_of_pos h hd
  rcases Int.lt_or_le r.n 0 with h1 | h1
  ·exact h1
  ·have:=Int.mul_nonneg h1 (Int.le_of_lt hW);omega
 ·have:=Int.mul_lt_mul_of_pos_right h hW
  exact Int.lt_of_mul_lt_mul_right (a:=r.d) (by grind) (Int.le_of_lt hd)
 ·have:=Int.mul_lt_mul_of_pos_right h hd
  exact Int.lt_of_mul_lt_mul_right (a:=W) (by grind) (Int.le_of_lt hW)
theorem BEP{x:Ln}{t:Int}(h:PJ x):(MF x t).n*(Bn (RA x) t).d=(Bn (RA x) t).n*(MF x t).d:=by
 have hW:=(MM h).1
 obtain⟨h1,h2⟩:=CAG (N:=(RA x).num t) hW
 have hv:=AMQ (n:=(RA x).num t) hW
 unfold MF APS Bn
 rw[BPA]
 by_cases c1:(RA x).num t<0
 ·rw[if_pos c1,if_pos (h1.2 c1)]
 ·rw[if_neg c1,if_neg (λh=>c1 (h1.1 h))]
  by_cases c2:200000*(RA x).w<(RA x).num t
  ·rw[if_pos c2,if_pos (h2.2 c2)]
  ·rw[if_neg c2,if_neg (λh=>c2 (h2.1 h))]
   exact hv
theorem KU{x:Ln}{t:Int}(h:PJ x):okR (MF x t):=by
 have hd:=AWO (t:=t) h
 unfold MF APS
 split
 ·exact⟨⟨Int.one_pos,by show (1:Int)<=2000;omega⟩,Int.le_refl _,by show (0:Int)<=200000*1;omega⟩
 ·split
  ·exact⟨⟨Int.one_pos,by show (1:Int)<=2000;omega⟩,by show (0:Int)<=200000;omega,by show (200000:Int)<=200000*1;omega⟩
  ·exact⟨hd,by omega,by omega⟩
theorem BKW{x:Ln}{t:Int}{r:Rt}(h:PJ x)(hr:0<r.d):Mq (MF x t) r↔Mq (Bn (RA x) t) r:=by
 have hv:=BEP (t:=t) h
 have h1:=(KU (t:=t) h).1.1
 have h2:=Bw (t:=t) (MM h).1
 exact⟨λa=>NE (Int.le_of_lt h2) h1 (Int.le_of_lt hr) (by unfold Mq;omega) a,λa=>NE (Int.le_of_lt h1) h2 (Int.le_of_lt hr) (by unfold Mq;omega) a⟩
theorem BAD{x:Ln}{t:Int}{r:Rt}(h:PJ x)(hr:0<r.d):Mq r (MF x t)↔Mq r (Bn (RA x) t):=by
 have hv:=BEP (t:=t) h
 have h1:=(KU (t:=t) h).1.1
 have h2:=Bw (t:=t) (MM h).1
 exact⟨λa=>NE (Int.le_of_lt hr) h1 (Int.le_of_lt h2) a (by unfold Mq;omega),λa=>NE (Int.le_of_lt hr) h2 (Int.le_of_lt h1) a (by unfold Mq;omega)⟩
theorem AKX{a b:Rt}(ha:okR a)(hb:okR b):wr (a.n*b.d)=a.n*b.d:=by
 obtain⟨⟨a1,a2⟩,a3,a4⟩:=ha
 obtain⟨⟨b1,b2⟩,b3,b4⟩:=hb
 have h1:=mulb (A:=400000000) (B:=2000) a3 (by omega) (Int.le_of_lt b1) b2
 exact JH (by omega) (by omega)
theorem CRE{a b:Int}:Oz a b>0↔b<a:=by
 unfold Oz
 by_cases h:a<b
 ·simp[h];omega
 ·by_cases h2:b<a
  ·simp[h,h2]
  ·simp[h,h2]
theorem CFF{a b:Int}:Oz a b<0↔a<b:=by
 unfold Oz
 by_cases h:a<b
 ·simp[h]
 ·by_cases h2:b<a
  ·simp[h,h2]
  ·simp[h,h2]
theorem AWG{a b:Rt}(ha:okR a)(hb:okR b):uO a b<0↔a.n*b.d<b.n*a.d:=by
 unfold uO;rw[AKX ha hb,AKX hb ha,CFF]
theorem AYQ{a b:Rt}(ha:okR a)(hb:okR b):uO a b>0↔b.n*a.d<a.n*b.d:=by
 unfold uO;rw[AKX ha hb,AKX hb ha,CRE]
theorem CDW{a b:Rt}(ha:okR a)(hb:okR b):zK a b=false↔Mq b a:=by
 unfold zK Mq;rw[decide_eq_false_iff_not,AWG ha hb];omega
theorem CIJ{a b:Rt}(ha:okR a)(hb:okR b):yP a b=false↔Mq a b:=by
 unfold yP Mq;rw[decide_eq_false_iff_not,AYQ ha hb];omega
theorem AGQ{lt:Rt->Rt->Bool}{le:Rt->Rt->Prop}{t:Int}(hle:∀a b,okR a->okR b->(lt a b=false↔le b a))(hlt:∀a b,okR a->okR b->lt a b=true->le a b)(htr:∀a b c,okR a->okR b->okR c->le a b->le b c->le a c)(hrf:∀a,le a a):∀(l:List Ln) (b:Ln),PJ b->(∀x∈l,PJ x)->(l.foldl (Gv lt t) b=b∨l.foldl (Gv lt t) b∈l)/\PJ (l.foldl (Gv lt t) b)/\le (MF (l.foldl (Gv lt t) b) t) (MF b t)/\∀x∈l,le (MF (l.foldl (Gv lt t) b) t) (MF x t)
 |[],b,hb,_=>⟨.inl rfl,hb,hrf _,λx hx=>by cases hx⟩
 |z :: l,b,hb,h=>by
  rw[List.foldl_cons]
  have hz:=h z (List.mem_cons_self ..)
  have hp:PJ (Gv lt t b z)/\(Gv lt t b z=b∨Gv lt t b z=z)/\le (MF (Gv lt t b z) t) (MF b t)/\le (MF (Gv lt t b z) t) (MF z t):=by
   unfold Gv
   cases hc:lt (MF z t) (MF b t) with
   |true=>exact⟨hz,.inr rfl,hlt _ _ (KU hz) (KU hb) hc,hrf _⟩
   |false=>exact⟨hb,.inl rfl,hrf _,(hle _ _ (KU hz) (KU hb)).1 hc⟩
  obtain⟨p1,p2,p3,p4⟩:=hp
  obtain⟨r1,r2,r3,r4⟩:=AGQ hle hlt htr hrf l (Gv lt t b z) p1 (λx hx=>h x (List.mem_cons_of_mem _ hx))
  refine⟨?_,r2,htr _ _ _ (KU r2) (KU p1) (KU hb) r3 p3,λx hx=>?_⟩
  ·rcases r1 with r1 | r1
   ·rw[r1]
    rcases p2 with p2 | p2
    ·exact .inl p2
    ·exact .inr (by rw[p2];exact List.mem_cons_self ..)
   ·exact .inr (List.mem_cons_of_mem _ r1)
  ·rcases List.mem_cons.1 hx with rfl | hx
   ·exact htr _ _ _ (KU r2) (KU p1) (KU hz) r3 p4
   ·exact r4 x hx
theorem BML{l:List Ln}{t:Int}(h:∀x∈l,PJ x)(hne:l≠[]):aV zK t l∈l/\∀x∈l,Mq (MF (aV zK t l) t) (MF x t):=by
 have h0:0<l.length:=List.length_pos_iff.2 hne
 obtain⟨r1,r2,r3,r4⟩:=AGQ (lt:=zK) (le:=Mq) (t:=t) (λa b ha hb=>CDW ha hb) (λa b ha hb hc=>by
  unfold zK at hc;have:=(AWG ha hb).1 (of_decide_eq_true hc);unfold Mq;omega) (λa b c ha hb hc h1 h2=>NE (Int.le_of_lt ha.1.1) hb.1.1 (Int.le_of_lt hc.1.1) h1 h2) (λa=>ABT a) l (gD l 0) (h _ (CV h0)) h
 refine⟨?_,r4⟩
 rcases r1 with r1 | r1
 ·unfold aV;rw[r1];exact CV h0
 ·exact r1
theorem BMY{l:List Ln}{t:Int}(h:∀x∈l,PJ x)(hne:l≠[]):aV yP t l∈l/\∀x∈l,Mq (MF x t) (MF (aV yP t l) t):=by
 have h0:0<l.length:=List.length_pos_iff.2 hne
 obtain⟨r1,r2,r3,r4⟩:=AGQ (lt:=yP) (le:=λa b=>Mq b a) (t:=t) (λa b ha hb=>CIJ ha hb) (λa b ha hb hc=>by
  unfold yP at hc;have:=(AYQ ha hb).1 (of_decide_eq_true hc);unfold Mq;omega) (λa b c ha hb hc h1 h2=>NE (Int.le_of_lt hc.1.1) hb.1.1 (Int.le_of_lt ha.1.1) h2 h1) (λa=>ABT a) l (gD l 0) (h _ (CV h0)) h
 refine⟨?_,r4⟩
 rcases r1 with r1 | r1
 ·unfold aV;rw[r1];exact CV h0
 ·exact r1
theorem AXY{f:Rl}{s:List Gau}{t:Int}(hs:∀g∈s,RK g)(ht:0<=t/\t<=2000)(hf:f.ok)(hp:f.passes s):VP s t≠[]:=by
 obtain⟨y,hy,_⟩:=BFG hs ht hf hp
 intro he;rw[he] at hy;cases hy
def wO(s:List Gau)(t:Int):Bnd:=bndM (VP s t) t
theorem BII{s:List Gau}{t:Int}(h:VP s t≠[]):wO s t=⟨MF (aV zK t (VP s t)) t,MF (aV yP t (VP s t)) t⟩:=by
 unfold wO bndM;rw[decide_eq_false (λhe=>h (List.eq_nil_of_length_eq_zero he))];rfl
theorem BVX{f:Rl}{s:List Gau}{t:Int}(hs:∀g∈s,RK g)(ht:0<=t/\t<=2000)(hf:f.ok)(hp:f.passes s):Mq (wO s t).lo (Bn f t):=by
 have hne:=AXY hs ht hf hp
 rw[BII hne]
 obtain⟨b1,b2⟩:=BML (t:=t) (λx hx=>(He hs hx).1) hne
 obtain⟨y,hy,oy,hc⟩:=BFG hs ht hf hp
 have hw:=(MM oy).1
 have key:Mq (Bn (RA y) t) (Bn f t):=by
  rcases hc with hc | hc
  ·have hz:Mq (Bn (RA y) t) ⟨0,1⟩:=by
    unfold Bn Mq;split
    ·exact Int.le_refl _
    ·rw[if_neg (by omega)];show (RA y).num t*1<=0*_;omega
   refine NE (b:=⟨0,1⟩) (Int.le_of_lt (Bw hw)) Int.one_pos (Int.le_of_lt (Bw hf.1)) hz ?_
   unfold Bn Mq;split
   ·exact Int.le_refl _
   ·split
    ·show (0:Int)*1<=200000*1;omega
    ·show 0*f.w<=f.num t*1;omega
  ·exact AHY hw hf.1 hc
 have ob:=(He hs b1).1
 exact NE (Int.le_of_lt (KU ob).1.1) (KU oy).1.1 (Int.le_of_lt (Bw hf.1)) (b2 y hy) ((BKW oy (Bw hf.1)).2 key)
theorem CRA{f:Rl}{s:List Gau}{t:Int}(hs:∀g∈s,RK g)(ht:0<=t/\t<=2000)(hf:f.ok)(hp:f.passes s):Mq (Bn f t) (wO s t).hi:=by
 have hne:=AXY hs ht hf hp
 rw[BII hne]
 obtain⟨b1,b2⟩:=BMY (t:=t) (λx hx=>(He hs hx).1) hne
 obtain⟨y,hy,oy,hc⟩:=BQH hs ht hf hp
 have hw:=(MM oy).1
 have key:Mq (Bn f t) (Bn (RA y) t):=by
  rcases hc with hc | hc
  ·have hz:Mq ⟨200000,1⟩ (Bn (RA y) t):=by
    unfold Bn Mq
    rw[if_neg (by omega)];split
    ·exact Int.le_refl _
    ·show 200000*(RA y).w<=(RA y).num t*1;omega
   refine NE (b:=⟨200000,1⟩) (Int.le_of_lt (Bw hf.1)) Int.one_pos (Int.le_of_lt (Bw hw)) ?_ hz
   unfold Bn Mq;split
   ·show (0:Int)*1<=200000*1;omega
   ·split
    ·exact Int.le_refl _
    ·show f.num t*1<=200000*f.w;omega
  ·exact AHY hf.1 hw hc
 have ob:=(He hs b1).1
 exact NE (Int.le_of_lt (Bw hf.1)) (KU oy).1.1 (Int.le_of_lt (KU ob).1.1) ((BAD oy (Bw hf.1)).2 key) (b2 y hy)
theorem ACP{s:List Gau}{t:Int}(hs:∀g∈s,RK g)(h:VP s t≠[]):(∃y,PJ y/\(RA y).passes s/\(wO s t).lo=MF y t)/\∃y,PJ y/\(RA y).passes s/\(wO s t).hi=MF y t:=by
 rw[BII h]
 obtain⟨b1,_⟩:=BML (t:=t) (λx hx=>(He hs hx).1) h
 obtain⟨c1,_⟩:=BMY (t:=t) (λx hx=>(He hs hx).1) h
 exact⟨⟨_,(He hs b1).1,(He hs b1).2,rfl⟩,_,(He hs c1).1,(He hs c1).2,rfl⟩
theorem ASV{f:Rl}{t u:Int}(hf:f.ok)(h:t<=u):Mq (Bn f t) (Bn f u):=by
 refine AHY hf.1 hf.1 ?_
 have:=Int.mul_le_mul_of_nonneg_left h hf.2
 exact Int.mul_le_mul_of_nonneg_right (by unfold Rl.num;omega) (Int.le_of_lt hf.1)
theorem BFJ{s:List Gau}{t u:Int}(hs:∀g∈s,RK g)(ht:0<=t)(htu:t<=u)(hu:u<=2000)(h:VP s t≠[]):Mq (wO s t).lo (wO s u).lo/\Mq (wO s t).hi (wO s u).hi:=by
 obtain⟨_,y,oy,py,ey⟩:=ACP hs h
 have h2:VP s u≠[]:=AXY hs ⟨by omega,hu⟩ (MM oy) py
 obtain⟨⟨z,oz,pz,ez⟩,y',oy',py',ey'⟩:=ACP hs h2
 obtain⟨⟨z',oz',pz',ez'⟩,_⟩:=ACP hs h
 have dz:=Bw (f:=RA z) (t:=t) (MM oz).1
 have dz2:=Bw (f:=RA z) (t:=u) (MM oz).1
 have dy:=Bw (f:=RA y) (t:=t) (MM oy).1
 have dy2:=Bw (f:=RA y) (t:=u) (MM oy).1
 refine⟨?_,?_⟩
 ·have a1:=BVX hs ⟨ht,by omega⟩ (MM oz) pz
  have a2:=ASV (MM oz) htu
  have d1:0<(wO s t).lo.d:=by rw[ez'];exact (KU oz').1.1
  have a3:=NE (Int.le_of_lt d1) dz (Int.le_of_lt dz2) a1 a2
  rw[ez];exact (BAD oz d1).2 a3
 ·have a1:=CRA hs ⟨by omega,hu⟩ (MM oy) py
  have a2:=ASV (MM oy) htu
  have d1:0<(wO s u).hi.d:=by rw[ey'];exact (KU oy').1.1
  have a3:=NE (Int.le_of_lt dy) dy2 (Int.le_of_lt d1) a2 a1
  rw[ey];exact (BKW oy d1).2 a3
theorem CQE{s:List Gau}{t:Int}(hs:∀g∈s,RK g)(ht:0<=t/\t<=2000)(h:VP s t≠[]):okR (wO s t).lo/\okR (wO s t).hi/\Mq (wO s t).lo (wO s t).hi:=by
 obtain⟨⟨z,oz,pz,ez⟩,y,oy,py,ey⟩:=ACP hs h
 have a1:=BVX hs ht (MM oy) py
 refine⟨ez ▸ KU oz,ey ▸ KU oy,?_⟩
 have d1:0<(wO s t).lo.d:=by rw[ez];exact (KU oz).1.1
 rw[ey];exact (BAD oy d1).2 a1
end Go.Bal

namespace Go.Bal
open Go Go.Sym Go.Proofs
structure GBt where
 g:List Gau
 b:List Int
 t:Int
def dGBt:List AVal->Heap->Option (GBt×List (Nat×Nat)×List Nat)
 |[x,y,.d t],H=>match aE x H,tT y H with
  |some (l,f),some (m,e)=>some (⟨l,m,KT t⟩,[],f ++ e)
  |_,_=>none
 |_,_=>none
def xGBt(a:GBt):List AVal:=[.d (BX a.g),.d (CZ a.b),.int a.t]
def gbt(a:GBt):GB:=⟨a.g,a.b⟩
def inT(a:GBt):Bool:=QY a.t 0 2000
def preT(a:GBt):Prop:=a.g.length<4611686018427387904/\a.b.length<4611686018427387904
def C_stg:Ctr:={ α:=GBt,xs:=xGBt,L:=λ_=>[],val:=λ_=>.tup [.bptr 0 0,.int 0],keep:=λa=>[(0,.live (bkB (PB (gbt a)) 1)),(1,.live (bkM (PB (gbt a))))],pre:=λa=>[preT a/\EG (gbt a)=0/\inT a=true] }
def C_stgA:Ctr:={ α:=GBt,xs:=xGBt,L:=λ_=>[],val:=λ_=>.tup [.bptr 0 0,.int 4],keep:=λa=>[(0,.live (bkB (PB (gbt a)) 1)),(1,.live (bkM (PB (gbt a))))],pre:=λa=>[preT a/\EG (gbt a)=0/\inT a=false] }
def C_stgX:Ctr:={ α:=GBt,xs:=xGBt,L:=λ_=>[],val:=λa=>.tup [.d (.v (.pointer none)),.int (EG (gbt a))],keep:=λ_=>[],pre:=λa=>[preT a/\EG (gbt a)≠0] }
def BPW:Ann:=ann 25 [(Sz,C_open.spec dGB),(n_in,s_in)]
def CAN:Ann:=ann 25 [(Sz,C_openX.spec dGB),(n_in,s_in)]
def CLO(a:GBt):Prop:=BQ Try.prog BPW aH (AI aH) (xGBt a) (AD []) (C_stg.val a) (C_stg.keep a) [(0,2032),(1,2033)] []
abbrev Su:=GBt.g
abbrev Sn:=GBt.b
abbrev WD:=GBt.t
abbrev AJZ a b:=GP (GB.mk a b)
abbrev WB a:=CT (Sn a)
abbrev WF a:=BH (Su a)
abbrev GJ a:=AJZ (WF a) (WB a)
abbrev KN a:=GP (gbt a)
abbrev VF:=UM 0
abbrev Ya a:=OL a a
abbrev WU a b:=SZ (GB.mk a b)
attribute [go_sem] Su Sn WD AJZ WB WF GJ KN VF Ya WU
theorem CNE(a:GBt):(CLO a)=(UN (IQ (WF a) (Su a) (ER (WF a) (Su a)) (NY (AY (WB a) (Sn a)) (BM (WB a) (Sn a)) (UE (WF a)) (WB a) (CP (WU (WF a) (WB a))))) (FU (Ya 0) (Ig (WD a))) (OF (AO VF (UM 4)) (PD (KN a) (GJ a)) (PE (KN a) (GJ a)) (OM (KN a) (GJ a)) (PC (KN a) (GJ a)) ZM (JK (KN a) (GJ a)) (λi=>CJ (KN a) i (GJ a) (λj=>CK j (KN a) i (GJ a) (EJ (BO (KN a) i j) (BO (GJ a) i j) (BI (KN a) i j) (BI (GJ a) i j) (DW (KN a) i j) (GJ a) i j)))) (OF BY (PD (KN a) (GJ a)) (PE (KN a) (GJ a)) (OM (KN a) (GJ a)) (PC (KN a) (GJ a)) ZM (JK (KN a) (GJ a)) (λi=>CJ (KN a) i (GJ a) (λj=>CK j (KN a) i (GJ a) (EJ (BO (KN a) i j) (BO (GJ a) i j) (BI (KN a) i j) (BI (GJ a) i j) (DW (KN a) i j) (GJ a) i j))))):=by kernel_rfl
def CBI(a:GBt):Prop:=BQ Try.prog BPW aH (AI aH) (xGBt a) (AD []) (C_stgA.val a) (C_stgA.keep a) [(0,2032),(1,2033)] []
abbrev Lk a:=AO a VF
attribute [go_sem] Lk
theorem CEJ(a:GBt):(CBI a)=(UN (IQ (WF a) (Su a) (ER (WF a) (Su a)) (NY (AY (WB a) (Sn a)) (BM (WB a) (Sn a)) (UE (WF a)) (WB a) (CP (WU (WF a) (WB a))))) (FU (Ya 0) (Ig (WD a))) (OF (RH 4) (PD (KN a) (GJ a)) (PE (KN a) (GJ a)) (OM (KN a) (GJ a)) (PC (KN a) (GJ a)) ZM (JK (KN a) (GJ a)) (λi=>CJ (KN a) i (GJ a) (λj=>CK j (KN a) i (GJ a) (EJ (BO (KN a) i j) (BO (GJ a) i j) (BI (KN a) i j) (BI (GJ a) i j) (DW (KN a) i j) (GJ a) i j)))) (OF (Lk (UM 4)) (PD (KN a) (GJ a)) (PE (KN a) (GJ a)) (OM (KN a) (GJ a)) (PC (KN a) (GJ a)) ZM (JK (KN a) (GJ a)) (λi=>CJ (KN a) i (GJ a) (λj=>CK j (KN a) i (GJ a) (EJ (BO (KN a) i j) (BO (GJ a) i j) (BI (KN a) i j) (BI (GJ a) i j) (DW (KN a) i j) (GJ a) i j))))):=by kernel_rfl
def BWK(a:GBt):Prop:=BQ Try.prog CAN aH (AI aH) (xGBt a) (AD []) (C_stgX.val a) [] [] []
abbrev dZ a:=SZ (gbt a)
attribute [go_sem] dZ
theorem CDN(a:GBt):(BWK a)=(And (IQ (WF a) (Su a) (ER (WF a) (Su a)) (NY (AY (WB a) (Sn a)) (BM (WB a) (Sn a)) (UE (WF a)) (WB a) (Bg (WU (WF a) (WB a))))) (CL (FU (VU (WU (WF a) (WB a))) (Ig (WD a))) (Bu (ARV Bq)) (AO (dZ a) 4) (And (Bu (ARV Bq)) (AO (dZ a) (WU (WF a) (WB a)))))):=by kernel_rfl
theorem CNO:AJ Try.prog Zz (C_stg.spec dGBt):=VD C_stg (λ_=>BPW) [(0,2032),(1,2033)] [] AED (λ_=>by kernel_rfl) (λ_=>AC AAM (AC uN AE)) (λ(a:GBt) h=>by
 show CLO a;rw[CNE]<;> delta JT qD XL EE EC DP OV LY LW MN CS AO AR CG AK BV BZ CM NK UM OL CI EZ LZ ID RG PA PK Bq BG Dd GP SZ Su Sn WD AG GT JO GV IE AF AT AH AJZ CA Eo CF BH AM CT JM Bu Ya AP BR AS AW DF DX CR AX WB GA WF IC KN Ha EP GI AY DW GC BI FZ UU HG BO PF Ng CP FU RH EM GH IH FE BM EW FM FK EQ Mr EJ SE NT ER SB JS BY NH CJ GJ CK NM OE QW WR OF WU LP IQ JK PD OM PE PC UE VF ZM NY UN Ig;simp only[CC,eq_self,implies_true,forall_const,show GB.mk a.g a.b=gbt a from rfl]
 obtain⟨⟨h1,h2⟩,h3,h4⟩:preT a/\EG (gbt a)=0/\inT a=true:=h
 unfold inT at h4
 refine⟨⟨h1,h2,h3⟩,λh=>?_⟩
 rw[show (!QY a.t 0 2000)=false by rw[h4];rfl] at h;cases h) (λ_=>WK rfl rfl) _
theorem CFX:AJ Try.prog Zz (C_stgA.spec dGBt):=VD C_stgA (λ_=>BPW) [(0,2032),(1,2033)] [] AED (λ_=>by kernel_rfl) (λ_=>AC AAM (AC uN AE)) (λ(a:GBt) h=>by
 show CBI a;rw[CEJ]<;> delta JT qD XL EE EC DP OV LY LW MN CS AO AR CG AK BV BZ CM NK UM OL CI EZ LZ ID RG PA PK Bq BG Dd GP SZ Su Sn WD AG GT JO GV IE AF AT AH AJZ CA Eo CF BH AM CT JM Bu Ya AP BR AS AW DF DX CR AX WB GA WF IC KN Ha EP GI AY DW GC BI FZ UU HG BO PF Ng CP FU RH EM GH IH FE BM EW FM FK EQ Mr EJ SE NT ER SB JS NH CJ GJ CK NM OE QW WR OF WU LP IQ JK PD OM PE PC UE VF ZM NY UN Ig Lk;simp only[CC,eq_self,implies_true,forall_const,show GB.mk a.g a.b=gbt a from rfl]
 obtain⟨⟨h1,h2⟩,h3,h4⟩:preT a/\EG (gbt a)=0/\inT a=false:=h
 unfold inT at h4
 refine⟨⟨h1,h2,h3⟩,λh=>?_⟩
 rw[show (!QY a.t 0 2000)=true by rw[h4];rfl] at h;cases h) (λ_=>WK rfl rfl) _
theorem CEE:AJ Try.prog Zz (C_stgX.spec dGBt):=VD C_stgX (λ_=>CAN) [] [] AED (λ_=>by kernel_rfl) (λ_=>AC ADC (AC uN AE)) (λ(a:GBt) h=>by
 show BWK a;rw[CDN]<;> delta qD XL EE EC DP CS AO AR CG AK BV BZ CM NK OL CI EZ LZ Bq ARV SZ Su Sn WD AG GT JO GV IE AF AT AH CA CF BH CT Bu AP BR AS AW DF DX CR WB WF IC EP GI AY GC HG CL FU EM GH IH FE BM EW FM FK NT ER JS OE WR WU LP IQ UE NY VU Ig Bg dZ;simp only[CC,eq_self,implies_true,forall_const]
 obtain⟨⟨h1,h2⟩,h3⟩:preT a/\EG (gbt a)≠0:=h
 refine⟨⟨h1,h2,h3⟩,λh=>?_,λ_=>rfl⟩
 have h3:EG (GB.mk a.g a.b)≠0:=h3
 rw[show (EG (GB.mk a.g a.b)==0)=false by simpa using h3] at h;cases h) (λ_=>WK rfl rfl) _
def bkT(a:GBt):BkT:=⟨PB (gbt a),a.t⟩
def cK(a:GBt):Int:=bif EG (gbt a)==0 then (bif inT a then (bif decide ((lB (bkT a)).length=0) then 6 else 0) else 4) else EG (gbt a)
def cL(a:GBt):Bnd:=bif cK a==0 then bndM (lB (bkT a)) a.t else default
def C_Flow:Ctr:={ α:=GBt,xs:=xGBt,L:=λ_=>[],val:=λa=>.tup [.d (eBnd (cL a)),.int (cK a)],keep:=λ_=>[],pre:=λa=>[preT a/\True] }
def BOJ:Ann:=ann 33 [(Zz,C_stg.spec dGBt),(Zt,C_bnd.spec dBkt)]
def BMH:Ann:=ann 33 [(Zz,C_stgA.spec dGBt),(Zt,C_bnd.spec dBkt)]
def BMM:Ann:={ ann 33 [(Zz,C_stgX.spec dGBt),(Zt,C_bnd.spec dBkt)] with cut:=λid=>if id=4 then some [] else none }
def BPD(a:GBt):Prop:=BQ Try.prog BOJ R5 (AI R5) (xGBt a) (AD []) (C_Flow.val a) [] [] []
abbrev bO:=cL
abbrev uF a b c:=bndM (yR a b) c
abbrev sP a b c d e f:=cX (Xf a b) c d e f
abbrev ACB a b c:=sP a a a a b c
abbrev gZ a:=ACB a a a
abbrev mU a:=GBt.mk (WF a) (WB a) (WD a)
abbrev SU a:=KN (mU a)
abbrev Fs a:=gZ (SU a)
abbrev Hd a:=Xf a a
attribute [go_sem] bO uF sP ACB gZ mU SU Fs Hd
theorem CDA(a:GBt):(BPD a)=(EI (AW (WF a) (Su a)) (ER (WF a) (Su a)) (AY (WB a) (Sn a)) (AF (BM (WB a) (Sn a)) (AM (WD a)) (And (UE (WF a)) (LP (WB a))) (CP (dZ (mU a))) (EL (inT (mU a)))) (Cl (WD a) (NM (Hd (SU a)) (SU a)) (NH (Hd (SU a)) (SU a)) (AF (SB (XT (SU a)) (SU a)) (SE (XT (SU a)) (SU a)) EQ ZM (JR (OP (SU a)) (BG (λi=>CJ (Fs a) i (SU a) (λj=>CK j (Fs a) i (SU a) (EJ (BO (Fs a) i j) (BO (SU a) i j) (BI (Fs a) i j) (BI (SU a) i j) (DW (Fs a) i j) (SU a) i j)))) (PD (SU a) (jU (Fs a) (WD a))) (PE (SU a) (jU (Fs a) (WD a))) (OM (SU a) (jU (Fs a) (WD a))) (PC (SU a) (jU (Fs a) (WD a))) (LA (Hd (SU a)) (XT (SU a)) ES) (WD a) (GU (WD a))))) (CS (not (rE (ID (yR (Fs a) (WD a))))) (AF (CP (OS (bO a))) (CP (JI (bO a))) (CP (JP (bO a))) (CP (OX (bO a))) (AO (cK a) 6)) (AF (AO (OS (bO a)) (OS (uF (Fs a) (WD a) (WD a)))) (AO (JI (bO a)) (JI (uF (Fs a) (WD a) (WD a)))) (AO (JP (bO a)) (JP (uF (Fs a) (WD a) (WD a)))) (AO (OX (bO a)) (OX (uF (Fs a) (WD a) (WD a)))) (CP (cK a))))):=by kernel_rfl
def BNI(a:GBt):Prop:=BQ Try.prog BMH R5 (AI R5) (xGBt a) (AD []) (C_Flow.val a) [] [] []
theorem BWQ(a:GBt):(BNI a)=(((MK a.g.length λ(i:Nat)=>gD a.g i).length=a.g.length/\(∀(i:Nat),i<(MK a.g.length λ(i:Nat)=>gD a.g i).length->(gD (MK a.g.length λ(i:Nat)=>gD
 a.g i) i).st=(gD a.g i).st/\(gD (MK a.g.length λ(i:Nat)=>gD a.g i) i).lo=(gD a.g i).lo/\(gD (MK a.g.length λ(i:Nat)=>gD a.g i) i).hi=(gD a.g i).hi)/\(MK a.b.length λ(i:Nat)=>gD a.b
 i).length=a.b.length/\(∀(i:Nat),i<(MK a.b.length λ(i:Nat)=>gD a.b i).length->gD (MK a.b.length λ(i:Nat)=>gD a.b i) i=gD a.b i)/\a.t=a.t/\((MK a.g.length λ(i:Nat)=>gD a.g i).length
 < 4611686018427387904/\(MK a.b.length λ(i:Nat)=>gD a.b i).length<4611686018427387904)/\EG (gbt (GBt.mk (MK a.g.length λ(i:Nat)=>gD a.g i) (MK a.b.length λ(i:Nat)=>gD a.b i) a.t))=0/\inT
 (GBt.mk (MK a.g.length λ(i:Nat)=>gD a.g i) (MK a.b.length λ(i:Nat)=>gD a.b i) a.t)=false)/\(cL a).lo.n=0/\(cL a).lo.d=0/\(cL a).hi.n=0/\(cL a).hi.d=0/\cK a=4):=by
 kernel_rfl
def BPN(a:GBt):Prop:=BQ Try.prog BMM R5 (AI R5) (xGBt a) (AD []) (C_Flow.val a) [] [] []
theorem BYU(a:GBt):(BPN a)=(AG (IQ (WF a) (Su a) (ER (WF a) (Su a)) (AF (AY (WB a) (Sn a)) (BM (WB a) (Sn a)) (AM (WD a)) (And (UE (WF a)) (LP (WB a))) (Bg (dZ (mU a))))) (CS (FI (dZ (mU a))) (AF (CP (OS (bO a))) (CP (JI (bO a))) (CP (JP (bO a))) (CP (OX (bO a))) (AO (cK a) (dZ (mU a)))) Sv) FP):=by kernel_rfl
theorem BFK:∀(l:List Int) (x:Int),0<=x/\x<=2000->brk x l=0->l.Pairwise (· < ·)/\∀y∈l,x<y/\y<=2000
 |[],_,_,_=>⟨.nil,by simp⟩
 |z :: l,x,hx,h=>by
  unfold brk at h
  cases hi:QY z (wr (x+1)) 2000 with
  |false=>rw[hi] at h;cases h
  |true=>
   rw[hi] at h
   unfold wr QY at hi
   rw[JH (n:=x+1) (by omega) (by omega)] at hi
   simp only[Bool.and_eq_true,decide_eq_true_eq] at hi
   obtain⟨h1,h2⟩:=BFK l z (by omega) h
   refine⟨List.pairwise_cons.2 ⟨λy hy=>(h2 y hy).1,h1⟩,λy hy=>?_⟩
   rcases List.mem_cons.1 hy with rfl | hy
   ·exact⟨by omega,by omega⟩
   ·have:=h2 y hy;exact⟨by omega,this.2⟩
theorem xY{a:GB}(h:EG a=0):ZV a.g a.b:=by
 unfold EG at h
 cases h1:AV a.g==0 with
 |false=>rw[h1] at h;rw[show AV a.g=0 from h] at h1;cases h1
 |true=>
  rw[h1] at h
  have h:RM a.b=0:=h
  have h1:AV a.g=0:=by simpa using h1
  unfold AV at h1
  cases h2:QY a.g.length 1 24 with
  |false=>rw[h2] at h1;cases h1
  |true=>
   rw[h2] at h1
   cases h3:a.g.all riG with
   |false=>rw[h3] at h1;cases h1
   |true=>
    unfold QY at h2
    simp only[Bool.and_eq_true,decide_eq_true_eq] at h2
    unfold RM at h
    split at h
    ·cases h
    ·obtain⟨h5,h6⟩:=BFK _ 0 (by omega) h
     refine⟨by omega,λx hx=>?_,by omega,h5,λy hy=>⟨by have:=h6 y hy;omega,(h6 y hy).2⟩⟩
     have:=List.all_eq_true.1 h3 x hx
     unfold riG QY at this
     simp only[Bool.and_eq_true,decide_eq_true_eq] at this
     unfold RK;omega
theorem CGX:AJ Try.prog BIJ (C_Flow.spec dGBt):=Ctr.spec_ok (C:=C_Flow) (λ(a:GBt) h=>by
 have h:preT a:=(show preT a/\True from h).1
 by_cases hE:EG (gbt a)=0
 ·cases hT:inT a with
  |true=>
   refine Mn (A:=BOJ) (L:=[]) (keep:=[]) (ren:=[]) (fz:=[]) AVQ (by kernel_rfl) (AC CNO (AC W6 AE)) ?_
   show BPD a;rw[CDA]<;> delta JT XL EE EC DP OV LY LW MN JG CS AO AR CG AK BV BZ CM BU DD ES NK WL WY iR gU CI EZ LZ VY Lj ID RG PA PK Bq BG Jp Dd GP SZ Ms Su Sn WD bO AG GT JO GV IE AF AT AH CA Eo CF rQ BH AM CT JM Bu aD Xf AP BR cX AS AW DF DX sP CR AX BC WB GA WF IC KN AN Ha jU XT Hd ACB gZ EP GI AY yR DW EL GC BI FZ uF UU HG BO PF GU Ng CP EM GH IH FE BM EW FM FK EQ MI Mr Gw EJ SE NT OP ER SB JS SD OX OS NH NQ CJ mU HZ CK JI JP NM SU ME Bz EI Dv LP RO PD OM PE PC UE Fs JR LA ZM rE Cl dZ;simp only[CC,eq_self,implies_true,forall_const,Fa,Sh,yL,yM,Si,show GBt.mk a.g a.b a.t=a from rfl,show BkT.mk (PB (gbt a)) a.t=bkT a from rfl]
   have hi:0<=a.t/\a.t<=2000:=by
    unfold inT QY at hT;simpa using hT
   have hb:ZV (gbt a).g (gbt a).b:=xY hE
   refine⟨⟨h,hE,hT⟩,⟨hb,hi⟩,λhc=>?_,λhc=>?_⟩
   ·have e:cK a=6:=by unfold cK;rw[hE,hT,decide_eq_true (show (lB (bkT a)).length=0 by omega)];rfl
    have e2:cL a=default:=by unfold cL;rw[e];rfl
    rw[e2];exact⟨rfl,rfl,rfl,rfl,e⟩
   ·have e:cK a=0:=by unfold cK;rw[hE,hT,decide_eq_false hc];rfl
    have e2:cL a=bndM (lB (bkT a)) a.t:=by unfold cL;rw[e];rfl
    rw[e2];exact⟨rfl,rfl,rfl,rfl,e⟩
  |false=>
   refine Mn (A:=BMH) (L:=[]) (keep:=[]) (ren:=[]) (fz:=[]) AVQ (by kernel_rfl) (AC CFX (AC W6 AE)) ?_
   show BNI a;rw[BWQ];simp only[CC,eq_self,implies_true,forall_const,show GBt.mk a.g a.b a.t=a from rfl]
   have e:cK a=4:=by unfold cK;rw[hE,hT];rfl
   have e2:cL a=default:=by unfold cL;rw[e];rfl
   rw[e2];exact⟨⟨h,hE,hT⟩,rfl,rfl,rfl,rfl,e⟩
 ·refine Mn (A:=BMM) (L:=[]) (keep:=[]) (ren:=[]) (fz:=[]) AVQ (by kernel_rfl) (AC CEE (AC W6 AE)) ?_
  show BPN a;rw[BYU]<;> delta EE EC DP WI CS AO AR CG AK BV BZ CM NK Sv WL WY iR gU CI EZ LZ FP SZ Su Sn WD bO AG GT JO GV IE AF AT AH CA CF BH AM CT AP BR AS AW DF DX CR WB WF IC EP GI AY GC HG CP EM GH IH FE BM EW FM FK NT ER JS OX OS mU JI JP FI LP IQ UE Bg dZ;simp only[CC,eq_self,implies_true,forall_const,show GBt.mk a.g a.b a.t=a from rfl]
  have e:cK a=EG (gbt a):=by unfold cK;rw[show (EG (gbt a)==0)=false by simpa using hE];rfl
  have e2:cL a=default:=by unfold cL;rw[e,show (EG (gbt a)==0)=false by simpa using hE];rfl
  rw[e2];exact⟨⟨h,hE⟩,λ_=>⟨rfl,rfl,rfl,rfl,e⟩,λhc=>hE (by simpa using hc)⟩) _
end Go.Bal
