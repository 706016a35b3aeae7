/- Package rating: the least and the greatest flow (no program in sight). -/
import Derived.Test.YtpidmmilfdcepaaGreatRatI
set_option linter.unusedVariables false
set_option linter.unusedSimpArgs false
namespace Go.Bal
open Go Go.Sym Go.Proofs
def XE(a b:Rt):Prop:=a.n*b.d<=b.n*a.d
def sV(r:Rt):Prop:=(0<r.d/\r.d<=2000)/\0<=r.n/\r.n<=200000*r.d
def FG(f:Rl)(t:Int):Rt:=if f.num t<0 then⟨0,1⟩ else if 200000*f.w<f.num t then⟨200000,1⟩ else⟨f.num t,f.w⟩
theorem OF{f:Rl}{t:Int}(h:0<f.w):0<(FG f t).d:=by
 unfold FG;split
 ·exact Int.one_pos
 ·split
  ·exact Int.one_pos
  ·exact h
theorem IQ{a b c:Rt}(ha:0<=a.d)(hb:0<b.d)(hc:0<=c.d)(h1:XE a b)(h2:XE b c):XE a c:=ACK hb h1 h2 ha hc
theorem ADL(a:Rt):XE a a:=Int.le_refl _
theorem By{f g:Rl}{t u:Int}(hf:0<f.w)(hg:0<g.w)(h:f.num t*g.w<=g.num u*f.w):XE (FG f t) (FG g u):=by
 unfold FG XE
 generalize f.num t=a at *
 generalize g.num u=b at *
 generalize f.w=c at *
 generalize g.w=d at *
 by_cases h1:a<0
 ·rw[if_pos h1]
  split
  ·simp
  ·split
   ·simp
   ·simp;omega
 ·rw[if_neg h1]
  have ha:=Int.mul_nonneg (show 0<=a by omega) (Int.le_of_lt hg)
  have hb:0<=b:=fH hf (by rw[Int.zero_mul];omega)
  rw[if_neg (show ¬b<0 by omega)]
  by_cases h2:200000*c<a
  ·rw[if_pos h2]
   have h3:=Int.mul_lt_mul_of_pos_right h2 hg
   have h4:200000*d<b:=Int.lt_of_mul_lt_mul_right (a:=c) (by grind) (Int.le_of_lt hf)
   rw[if_pos h4];simp
  ·rw[if_neg h2]
   split
   ·simp;omega
   ·exact h
theorem BZZ{N W:Int}(hW:0<W):((El N W).n<0↔N<0)/\(200000*(El N W).d<(El N W).n↔200000*W<N):=by
 have hv:=jU (n:=N) hW
 have hd:=(U4 (n:=N) hW).1
 generalize El N W=r at *
 refine⟨⟨λh=>?_,λh=>?_⟩,λh=>?_,λh=>?_⟩
 ·have:=Int.mul_neg_of_neg_of_pos h hW
  rcases Int.lt_or_le N 0 with h1 | h1
  ·exact h1
  ·have:=Int.mul_nonneg h1 (Int.le_of_lt hd);omega
 ·have:=Int.mul_neg_of_neg_of_pos h hd
  rcases Int.lt_or_le r.n 0 with h1 | h1
  ·exact h1
  ·have:=Int.mul_nonneg h1 (Int.le_of_lt hW);omega
 ·have:=Int.mul_lt_mul_of_pos_right h hW
  exact Int.lt_of_mul_lt_mul_right (a:=r.d) (by grind) (Int.le_of_lt hd)
 ·have:=Int.mul_lt_mul_of_pos_right h hd
  exact Int.lt_of_mul_lt_mul_right (a:=W) (by grind) (Int.le_of_lt hW)
theorem BEI{x:Ln}{t:Int}(h:MI x):(JF x t).n*(FG (HM x) t).d=(FG (HM x) t).n*(JF x t).d:=by
 have hW:=(EM h).1
 obtain⟨h1,h2⟩:=BZZ (N:=(HM x).num t) hW
 have hv:=jU (n:=(HM x).num t) hW
 unfold JF Cf FG
 rw[AJU]
 by_cases c1:(HM x).num t<0
 ·rw[if_pos c1,if_pos (h1.2 c1)]
 ·rw[if_neg c1,if_neg (λh=>c1 (h1.1 h))]
  by_cases c2:200000*(HM x).w<(HM x).num t
  ·rw[if_pos c2,if_pos (h2.2 c2)]
  ·rw[if_neg c2,if_neg (λh=>c2 (h2.1 h))]
   exact hv
theorem JC{x:Ln}{t:Int}(h:MI x):sV (JF x t):=by
 have hd:=AFA (t:=t) h
 unfold JF Cf
 split
 ·exact⟨⟨Int.one_pos,by show (1:Int)<=2000;omega⟩,Int.le_refl _,by show (0:Int)<=200000*1;omega⟩
 ·split
  ·exact⟨⟨Int.one_pos,by show (1:Int)<=2000;omega⟩,by show (0:Int)<=200000;omega,by show (200000:Int)<=200000*1;omega⟩
  ·exact⟨hd,by omega,by omega⟩
theorem AAP{x:Ln}{t:Int}{r:Rt}(h:MI x)(hr:0<r.d):XE (JF x t) r↔XE (FG (HM x) t) r:=by
 have hv:=BEI (t:=t) h
 have h1:=(JC (t:=t) h).1.1
 have h2:=OF (t:=t) (EM h).1
 exact⟨λa=>IQ (Int.le_of_lt h2) h1 (Int.le_of_lt hr) (by unfold XE;omega) a,λa=>IQ (Int.le_of_lt h1) h2 (Int.le_of_lt hr) (by unfold XE;omega) a⟩
theorem A7{x:Ln}{t:Int}{r:Rt}(h:MI x)(hr:0<r.d):XE r (JF x t)↔XE r (FG (HM x) t):=by
 have hv:=BEI (t:=t) h
 have h1:=(JC (t:=t) h).1.1
 have h2:=OF (t:=t) (EM h).1
 exact⟨λa=>IQ (Int.le_of_lt hr) h1 (Int.le_of_lt h2) a (by unfold XE;omega),λa=>IQ (Int.le_of_lt hr) h2 (Int.le_of_lt h1) a (by unfold XE;omega)⟩
theorem F6{a b:Rt}(ha:sV a)(hb:sV b):wr (a.n*b.d)=a.n*b.d:=by
 obtain⟨⟨a1,a2⟩,a3,a4⟩:=ha
 obtain⟨⟨b1,b2⟩,b3,b4⟩:=hb
 have h1:=mulb (A:=400000000) (B:=2000) a3 (by omega) (Int.le_of_lt b1) b2
 exact HL (by omega) (by omega)
theorem BWP{a b:Int}:Ib a b>0↔b<a:=by
 unfold Ib
 by_cases h:a<b
 ·simp[h];omega
 ·by_cases h2:b<a
  ·simp[h,h2]
  ·simp[h,h2]
theorem CJK{a b:Int}:Ib a b<0↔a<b:=by
 unfold Ib
 by_cases h:a<b
 ·simp[h]
 ·by_cases h2:b<a
  ·simp[h,h2]
  ·simp[h,h2]
theorem AUV{a b:Rt}(ha:sV a)(hb:sV b):jT a b<0↔a.n*b.d<b.n*a.d:=by
 unfold jT;rw[F6 ha hb,F6 hb ha,CJK]
theorem AUS{a b:Rt}(ha:sV a)(hb:sV b):jT a b>0↔b.n*a.d<a.n*b.d:=by
 unfold jT;rw[F6 ha hb,F6 hb ha,BWP]
theorem CJC{a b:Rt}(ha:sV a)(hb:sV b):jX a b=false↔XE b a:=by
 unfold jX XE;rw[decide_eq_false_iff_not,AUV ha hb];omega
theorem CKL{a b:Rt}(ha:sV a)(hb:sV b):jY a b=false↔XE a b:=by
 unfold jY XE;rw[decide_eq_false_iff_not,AUS ha hb];omega
theorem AGJ{lt:Rt->Rt->Bool}{le:Rt->Rt->Prop}{t:Int}(hle:∀a b,sV a->sV b->(lt a b=false↔le b a))(hlt:∀a b,sV a->sV b->lt a b=true->le a b)(htr:∀a b c,sV a->sV b->sV c->le a b->le b c->le a c)(hrf:∀a,le a a):∀(l:List Ln) (b:Ln),MI b->(∀x∈l,MI x)->(l.foldl (Ez lt t) b=b∨l.foldl (Ez lt t) b∈l)/\MI (l.foldl (Ez lt t) b)/\le (JF (l.foldl (Ez lt t) b) t) (JF b t)/\∀x∈l,le (JF (l.foldl (Ez lt t) b) t) (JF x t)
 |[],b,hb,_=>⟨.inl rfl,hb,hrf _,λx hx=>by cases hx⟩
 |z :: l,b,hb,h=>by
  rw[List.foldl_cons]
  have hz:=h z (List.mem_cons_self ..)
  have hp:MI (Ez lt t b z)/\(Ez lt t b z=b∨Ez lt t b z=z)/\le (JF (Ez lt t b z) t) (JF b t)/\le (JF (Ez lt t b z) t) (JF z t):=by
   unfold Ez
   cases hc:lt (JF z t) (JF b t) with
   |true=>exact⟨hz,.inr rfl,hlt _ _ (JC hz) (JC hb) hc,hrf _⟩
   |false=>exact⟨hb,.inl rfl,hrf _,(hle _ _ (JC hz) (JC hb)).1 hc⟩
  obtain⟨p1,p2,p3,p4⟩:=hp
  obtain⟨r1,r2,r3,r4⟩:=AGJ hle hlt htr hrf l (Ez lt t b z) p1 (λx hx=>h x (List.mem_cons_of_mem _ hx))
  refine⟨?_,r2,htr _ _ _ (JC r2) (JC p1) (JC hb) r3 p3,λx hx=>?_⟩
  ·rcases r1 with r1 | r1
   ·rw[r1]
    rcases p2 with p2 | p2
    ·exact .inl p2
    ·exact .inr (by rw[p2];exact List.mem_cons_self ..)
   ·exact .inr (List.mem_cons_of_mem _ r1)
  ·rcases List.mem_cons.1 hx with rfl | hx
   ·exact htr _ _ _ (JC r2) (JC p1) (JC hz) r3 p4
   ·exact r4 x hx
theorem AYR{l:List Ln}{t:Int}(h:∀x∈l,MI x)(hne:l≠[]):Es jX t l∈l/\∀x∈l,XE (JF (Es jX t l) t) (JF x t):=by
 have h0:0<l.length:=List.length_pos_iff.2 hne
 obtain⟨r1,r2,r3,r4⟩:=AGJ (lt:=jX) (le:=XE) (t:=t) (λa b ha hb=>CJC ha hb) (λa b ha hb hc=>by
  unfold jX at hc;have:=(AUV ha hb).1 (of_decide_eq_true hc);unfold XE;omega) (λa b c ha hb hc h1 h2=>IQ (Int.le_of_lt ha.1.1) hb.1.1 (Int.le_of_lt hc.1.1) h1 h2) (λa=>ADL a) l (gD l 0) (h _ (BU h0)) h
 refine⟨?_,r4⟩
 rcases r1 with r1 | r1
 ·unfold Es;rw[r1];exact BU h0
 ·exact r1
theorem BBY{l:List Ln}{t:Int}(h:∀x∈l,MI x)(hne:l≠[]):Es jY t l∈l/\∀x∈l,XE (JF x t) (JF (Es jY t l) t):=by
 have h0:0<l.length:=List.length_pos_iff.2 hne
 obtain⟨r1,r2,r3,r4⟩:=AGJ (lt:=jY) (le:=λa b=>XE b a) (t:=t) (λa b ha hb=>CKL ha hb) (λa b ha hb hc=>by
  unfold jY at hc;have:=(AUS ha hb).1 (of_decide_eq_true hc);unfold XE;omega) (λa b c ha hb hc h1 h2=>IQ (Int.le_of_lt hc.1.1) hb.1.1 (Int.le_of_lt ha.1.1) h2 h1) (λa=>ADL a) l (gD l 0) (h _ (BU h0)) h
 refine⟨?_,r4⟩
 rcases r1 with r1 | r1
 ·unfold Es;rw[r1];exact BU h0
 ·exact r1
theorem nH{f:Rl}{s:List Gau}{t:Int}(hs:∀g∈s,IT g)(ht:0<=t/\t<=2000)(hf:f.ok)(hp:f.passes s):PX s t≠[]:=by
 obtain⟨y,hy,_⟩:=BGV hs ht hf hp
 intro he;rw[he] at hy;cases hy
def RP(s:List Gau)(t:Int):Bnd:=bndM (PX s t) t
theorem AWP{s:List Gau}{t:Int}(h:PX s t≠[]):RP s t=⟨JF (Es jX t (PX s t)) t,JF (Es jY t (PX s t)) t⟩:=by
 unfold RP bndM;rw[decide_eq_false (λhe=>h (List.eq_nil_of_length_eq_zero he))];rfl
theorem APY{f:Rl}{s:List Gau}{t:Int}(hs:∀g∈s,IT g)(ht:0<=t/\t<=2000)(hf:f.ok)(hp:f.passes s):XE (RP s t).lo (FG f t):=by
 have hne:=nH hs ht hf hp
 rw[AWP hne]
 obtain⟨b1,b2⟩:=AYR (t:=t) (λx hx=>(UT hs hx).1) hne
 obtain⟨y,hy,oy,hc⟩:=BGV hs ht hf hp
 have hw:=(EM oy).1
 have key:XE (FG (HM y) t) (FG f t):=by
  rcases hc with hc | hc
  ·have hz:XE (FG (HM y) t) ⟨0,1⟩:=by
    unfold FG XE;split
    ·exact Int.le_refl _
    ·rw[if_neg (by omega)];show (HM y).num t*1<=0*_;omega
   refine IQ (b:=⟨0,1⟩) (Int.le_of_lt (OF hw)) Int.one_pos (Int.le_of_lt (OF hf.1)) hz ?_
   unfold FG XE;split
   ·exact Int.le_refl _
   ·split
    ·show (0:Int)*1<=200000*1;omega
    ·show 0*f.w<=f.num t*1;omega
  ·exact By hw hf.1 hc
 have ob:=(UT hs b1).1
 exact IQ (Int.le_of_lt (JC ob).1.1) (JC oy).1.1 (Int.le_of_lt (OF hf.1)) (b2 y hy) ((AAP oy (OF hf.1)).2 key)
theorem AYT{f:Rl}{s:List Gau}{t:Int}(hs:∀g∈s,IT g)(ht:0<=t/\t<=2000)(hf:f.ok)(hp:f.passes s):XE (FG f t) (RP s t).hi:=by
 have hne:=nH hs ht hf hp
 rw[AWP hne]
 obtain⟨b1,b2⟩:=BBY (t:=t) (λx hx=>(UT hs hx).1) hne
 obtain⟨y,hy,oy,hc⟩:=BVL hs ht hf hp
 have hw:=(EM oy).1
 have key:XE (FG f t) (FG (HM y) t):=by
  rcases hc with hc | hc
  ·have hz:XE ⟨200000,1⟩ (FG (HM y) t):=by
    unfold FG XE
    rw[if_neg (by omega)];split
    ·exact Int.le_refl _
    ·show 200000*(HM y).w<=(HM y).num t*1;omega
   refine IQ (b:=⟨200000,1⟩) (Int.le_of_lt (OF hf.1)) Int.one_pos (Int.le_of_lt (OF hw)) ?_ hz
   unfold FG XE;split
   ·show (0:Int)*1<=200000*1;omega
   ·split
    ·exact Int.le_refl _
    ·show f.num t*1<=200000*f.w;omega
  ·exact By hf.1 hw hc
 have ob:=(UT hs b1).1
 exact IQ (Int.le_of_lt (OF hf.1)) (JC oy).1.1 (Int.le_of_lt (JC ob).1.1) ((A7 oy (OF hf.1)).2 key) (b2 y hy)
theorem Ay{s:List Gau}{t:Int}(hs:∀g∈s,IT g)(h:PX s t≠[]):(∃y,MI y/\(HM y).passes s/\(RP s t).lo=JF y t)/\∃y,MI y/\(HM y).passes s/\(RP s t).hi=JF y t:=by
 rw[AWP h]
 obtain⟨b1,_⟩:=AYR (t:=t) (λx hx=>(UT hs hx).1) h
 obtain⟨c1,_⟩:=BBY (t:=t) (λx hx=>(UT hs hx).1) h
 exact⟨⟨_,(UT hs b1).1,(UT hs b1).2,rfl⟩,_,(UT hs c1).1,(UT hs c1).2,rfl⟩
theorem ARR{f:Rl}{t u:Int}(hf:f.ok)(h:t<=u):XE (FG f t) (FG f u):=by
 refine By hf.1 hf.1 ?_
 have:=Int.mul_le_mul_of_nonneg_left h hf.2
 exact Int.mul_le_mul_of_nonneg_right (by unfold Rl.num;omega) (Int.le_of_lt hf.1)
theorem ABT{s:List Gau}{t u:Int}(hs:∀g∈s,IT g)(ht:0<=t)(htu:t<=u)(hu:u<=2000)(h:PX s t≠[]):XE (RP s t).lo (RP s u).lo/\XE (RP s t).hi (RP s u).hi:=by
 obtain⟨_,y,oy,py,ey⟩:=Ay hs h
 have h2:PX s u≠[]:=nH hs ⟨by omega,hu⟩ (EM oy) py
 obtain⟨⟨z,oz,pz,ez⟩,y',oy',py',ey'⟩:=Ay hs h2
 obtain⟨⟨z',oz',pz',ez'⟩,_⟩:=Ay hs h
 have dz:=OF (f:=HM z) (t:=t) (EM oz).1
 have dz2:=OF (f:=HM z) (t:=u) (EM oz).1
 have dy:=OF (f:=HM y) (t:=t) (EM oy).1
 have dy2:=OF (f:=HM y) (t:=u) (EM oy).1
 refine⟨?_,?_⟩
 ·have a1:=APY hs ⟨ht,by omega⟩ (EM oz) pz
  have a2:=ARR (EM oz) htu
  have d1:0<(RP s t).lo.d:=by rw[ez'];exact (JC oz').1.1
  have a3:=IQ (Int.le_of_lt d1) dz (Int.le_of_lt dz2) a1 a2
  rw[ez];exact (A7 oz d1).2 a3
 ·have a1:=AYT hs ⟨by omega,hu⟩ (EM oy) py
  have a2:=ARR (EM oy) htu
  have d1:0<(RP s u).hi.d:=by rw[ey'];exact (JC oy').1.1
  have a3:=IQ (Int.le_of_lt dy) dy2 (Int.le_of_lt d1) a2 a1
  rw[ey];exact (AAP oy d1).2 a3
theorem K2{s:List Gau}{t:Int}(hs:∀g∈s,IT g)(ht:0<=t/\t<=2000)(h:PX s t≠[]):sV (RP s t).lo/\sV (RP s t).hi/\XE (RP s t).lo (RP s t).hi:=by
 obtain⟨⟨z,oz,pz,ez⟩,y,oy,py,ey⟩:=Ay hs h
 have a1:=APY hs ht (EM oy) py
 refine⟨ez ▸ JC oz,ey ▸ JC oy,?_⟩
 have d1:0<(RP s t).lo.d:=by rw[ez];exact (JC oz).1.1
 rw[ey];exact (A7 oy d1).2 a1
structure GBt where
 g:List Gau
 b:List Int
 t:Int
def G7:List AVal->Heap->Option (GBt×List (Nat×Nat)×List Nat)
 |[x,y,.d t],H=>match Ht x H,Xt y H with
  |some (l,f),some (m,e)=>some (⟨l,m,EG t⟩,[],f ++ e)
  |_,_=>none
 |_,_=>none
def xGBt(a:GBt):List AVal:=[.d (AT a.g),.d (AZ a.b),.int a.t]
def Pq(a:GBt):GB:=⟨a.g,a.b⟩
def inT(a:GBt):Bool:=JD a.t 0 2000
def preT(a:GBt):Prop:=a.g.length<4611686018427387904/\a.b.length<4611686018427387904
def C_stg:Ctr:={ α:=GBt,xs:=xGBt,L:=λ_=>[],val:=λ_=>.tup [.bptr 0 0,.int 0],keep:=λa=>[(0,.live (bkB (FM (Pq a)) 1)),(1,.live (bkM (FM (Pq a))))],pre:=λa=>[preT a/\AV (Pq a)=0/\inT a=true] }
def C_stgA:Ctr:={ α:=GBt,xs:=xGBt,L:=λ_=>[],val:=λ_=>.tup [.bptr 0 0,.int 4],keep:=λa=>[(0,.live (bkB (FM (Pq a)) 1)),(1,.live (bkM (FM (Pq a))))],pre:=λa=>[preT a/\AV (Pq a)=0/\inT a=false] }
def C_stgX:Ctr:={ α:=GBt,xs:=xGBt,L:=λ_=>[],val:=λa=>.tup [.d (.v (.pointer none)),.int (AV (Pq a))],keep:=λ_=>[],pre:=λa=>[preT a/\AV (Pq a)≠0] }
def BQS:Ann:=ann 25 [(67,C_open.spec dGB),(49,G4)]
def BWC:Ann:=ann 25 [(67,C_openX.spec dGB),(49,G4)]
def CQI(a:GBt):Prop:=AS ZP BQS Tryz.f82 (AE Tryz.f82) (xGBt a) (AB []) (C_stg.val a) (C_stg.keep a) [(0,2032),(1,2033)] []
abbrev ALV:=GBt.g
abbrev RN:=GBt.t
abbrev BXL a b:=GN (GB.mk a b)
abbrev Lq a:=FI (GBt.b a)
abbrev YC a:=CG (ALV a)
abbrev EX a:=BXL (YC a) (Lq a)
abbrev JE a:=GN (Pq a)
abbrev oD a b:=BM a (hd63 b)
abbrev Yd a b:=oD (hd63 a) b
abbrev Bf a:=VS a a
abbrev V0 a b:=AOB (GB.mk a b)
abbrev wP a b:=V0 (YC a) (Lq b)
abbrev vZ a:=ZS (Lq a)
abbrev Kc a:=BR (Lq a) (GBt.b a)
abbrev Iz a:=BC (Lq a) (GBt.b a)
abbrev BAD a b:=EK a (ALV b)
abbrev vQ a b:=BAD (YC a) b
abbrev AYG a b:=HQ a (ALV b)
abbrev uX a b:=AYG (YC a) b
attribute [go_sem] ALV RN BXL Lq YC EX JE oD Yd Bf V0 wP vZ Kc Iz BAD vQ AYG uX
theorem CVW(a:GBt):(CQI a)=(TC (CY (uX a a) (vQ a a) (Iz a) (Kc a) (Fz (YC a)) (vZ a) (CL (wP a a))) (EP (Bf 0) (XP (RN a))) (TX (Yd 0 4) (JJ (JE a) (EX a)) (JK (JE a) (EX a)) (JI (JE a) (EX a)) (JM (JE a) (EX a)) Gq (LA (JE a) (EX a)) (λi=>DI (JE a) i (EX a) (λj=>CP j (JE a) i (EX a) (CE (BA (JE a) i j) (BA (EX a) i j) (BE (JE a) i j) (BE (EX a) i j) (JE a) i j (BZ (EX a) i j))))) (TX BB (JJ (JE a) (EX a)) (JK (JE a) (EX a)) (JI (JE a) (EX a)) (JM (JE a) (EX a)) Gq (LA (JE a) (EX a)) (λi=>DI (JE a) i (EX a) (λj=>CP j (JE a) i (EX a) (CE (BA (JE a) i j) (BA (EX a) i j) (BE (JE a) i j) (BE (EX a) i j) (JE a) i j (BZ (EX a) i j)))))):=by kernel_rfl
def BXZ(a:GBt):Prop:=AS ZP BQS Tryz.f82 (AE Tryz.f82) (xGBt a) (AB []) (C_stgA.val a) (C_stgA.keep a) [(0,2032),(1,2033)] []
theorem CLS(a:GBt):(BXZ a)=(TC (CY (uX a a) (vQ a a) (Iz a) (Kc a) (Fz (YC a)) (vZ a) (CL (wP a a))) (EP (Bf 0) (XP (RN a))) (TX (JQ 4) (JJ (JE a) (EX a)) (JK (JE a) (EX a)) (JI (JE a) (EX a)) (JM (JE a) (EX a)) Gq (LA (JE a) (EX a)) (λi=>DI (JE a) i (EX a) (λj=>CP j (JE a) i (EX a) (CE (BA (JE a) i j) (BA (EX a) i j) (BE (JE a) i j) (BE (EX a) i j) (JE a) i j (BZ (EX a) i j))))) (TX (Yd 4 0) (JJ (JE a) (EX a)) (JK (JE a) (EX a)) (JI (JE a) (EX a)) (JM (JE a) (EX a)) Gq (LA (JE a) (EX a)) (λi=>DI (JE a) i (EX a) (λj=>CP j (JE a) i (EX a) (CE (BA (JE a) i j) (BA (EX a) i j) (BE (JE a) i j) (BE (EX a) i j) (JE a) i j (BZ (EX a) i j)))))):=by kernel_rfl
def CEO(a:GBt):Prop:=AS ZP BWC Tryz.f82 (AE Tryz.f82) (xGBt a) (AB []) (C_stgX.val a) [] [] []
theorem CLD(a:GBt):(CEO a)=(SK (CY (uX a a) (vQ a a) (Iz a) (Kc a) (Fz (YC a)) (vZ a) (II (wP a a))) (EP (OJ (wP a a)) (XP (RN a))) (ATR (BFW yJ)) (oG (Pq a) 4) (And (ATR (BFW yJ)) (oG (Pq a) (wP a a)))):=by kernel_rfl
theorem BXN:AH ZP 82 (C_stg.spec G7):=PW C_stg (λ_=>BQS) [(0,2032),(1,2033)] [] Tryz.func82 (λ_=>by kernel_rfl) (λ_=>AA C4 (AA aH AD)) (λ(a:GBt) h=>by
 show CQI a;rw[CVW]<;> dsimp only[go_sem];simp only[CC,CU,show GB.mk a.g a.b=Pq a from rfl]
 obtain⟨⟨h1,h2⟩,h3,h4⟩:preT a/\AV (Pq a)=0/\inT a=true:=h
 unfold inT at h4
 refine⟨⟨h1,h2,h3⟩,λh=>?_⟩
 rw[show (!JD a.t 0 2000)=false by rw[h4];rfl] at h;cases h) (λ_=>RA rfl rfl) _
theorem BOI:AH ZP 82 (C_stgA.spec G7):=PW C_stgA (λ_=>BQS) [(0,2032),(1,2033)] [] Tryz.func82 (λ_=>by kernel_rfl) (λ_=>AA C4 (AA aH AD)) (λ(a:GBt) h=>by
 show BXZ a;rw[CLS]<;> dsimp only[go_sem];simp only[CC,CU,show GB.mk a.g a.b=Pq a from rfl]
 obtain⟨⟨h1,h2⟩,h3,h4⟩:preT a/\AV (Pq a)=0/\inT a=false:=h
 unfold inT at h4
 refine⟨⟨h1,h2,h3⟩,λh=>?_⟩
 rw[show (!JD a.t 0 2000)=true by rw[h4];rfl] at h;cases h) (λ_=>RA rfl rfl) _
theorem BSW:AH ZP 82 (C_stgX.spec G7):=PW C_stgX (λ_=>BWC) [] [] Tryz.func82 (λ_=>by kernel_rfl) (λ_=>AA yY (AA aH AD)) (λ(a:GBt) h=>by
 show CEO a;rw[CLD]<;> dsimp only[go_sem];simp only[CC,CU]
 obtain⟨⟨h1,h2⟩,h3⟩:preT a/\AV (Pq a)≠0:=h
 refine⟨⟨h1,h2,h3⟩,λh=>?_,λ_=>rfl⟩
 have h3:AV (GB.mk a.g a.b)≠0:=h3
 rw[show (AV (GB.mk a.g a.b)==0)=false by simpa using h3] at h;cases h) (λ_=>RA rfl rfl) _
def bkT(a:GBt):BkT:=⟨FM (Pq a),a.t⟩
def EW(a:GBt):Int:=bif AV (Pq a)==0 then (bif inT a then (bif decide ((lB (bkT a)).length=0) then 6 else 0) else 4) else AV (Pq a)
def KN(a:GBt):Bnd:=bif EW a==0 then bndM (lB (bkT a)) a.t else default
def C_Flow:Ctr:={ α:=GBt,xs:=xGBt,L:=λ_=>[],val:=λa=>.tup [.d (eBnd (KN a)),.int (EW a)],keep:=λ_=>[],pre:=λa=>[preT a/\True] }
def BNV:Ann:=ann 33 [(82,C_stg.spec G7),(83,C_bnd.spec dBkt)]
def BSL:Ann:=ann 33 [(82,C_stgA.spec G7),(83,C_bnd.spec dBkt)]
def BQL:Ann:={ ann 33 [(82,C_stgX.spec G7),(83,C_bnd.spec dBkt)] with cut:=λid=>if id=4 then some [] else none }
def BQN(a:GBt):Prop:=AS ZP BNV Tryz.f39 (AE Tryz.f39) (xGBt a) (AB []) (C_Flow.val a) [] [] []
abbrev AQP:=KN
abbrev ADA:=EW
abbrev AMN a b:=CCC (Ej a) b
abbrev O3 a b:=bndM (AMN a b) b
abbrev CGP a b c:=GBt.mk (CG a) (Lq b) (RN c)
abbrev BWQ a b:=JE (CGP a b b)
abbrev IG a:=BWQ (ALV a) a
abbrev oJ a:=NT (AQP a)
abbrev oT a:=NS (AQP a)
abbrev rN a:=OO (AQP a)
abbrev rD a:=MV (AQP a)
abbrev pP a b:=BM (ADA a) b
abbrev A0 a b:=CES (Ej a) b
abbrev Gd a:=mS (bH a) a
abbrev Eb a:=kJ (bH a) a
abbrev ATM a b:=CGP a b b
abbrev Wp a:=ATM (ALV a) a
abbrev Rf a:=CL (AOB a)
attribute [go_sem] AQP ADA AMN O3 CGP BWQ IG oJ oT rN rD pP A0 Gd Eb ATM Wp Rf
theorem CGQ(a:GBt):(BQN a)=(AO (DY (uX a a) (vQ a a) (Iz a) (Kc a) (AK (RN a)) (And (Fz (YC a)) (vZ a)) (Rf (Pq (Wp a))) (IN (inT (Wp a)))) (DY (AK (RN a)) (Eb (IG a)) (Gd (IG a)) (OL (Is (IG a)) (IG a)) (OX (Is (IG a)) (IG a)) CZ Gq (Jf (MU (IG a)) (λi=>DI (Ej (IG a)) i (IG a) (λj=>CP j (Ej (IG a)) i (IG a) (CE (BA (Ej (IG a)) i j) (BA (IG a) i j) (BE (Ej (IG a)) i j) (BE (IG a) i j) (Ej (IG a)) i j (BZ (IG a) i j)))) (JJ (IG a) (A0 (IG a) (RN a))) (JK (IG a) (A0 (IG a) (RN a))) (JI (IG a) (A0 (IG a) (RN a))) (JM (IG a) (A0 (IG a) (RN a))) (SF (IG a) (Is (IG a)) OB) (RN a))) (Uk (Z3 (CO (AMN (IG a) (RN a)))) (Rn (rD a) (rN a) (oT a) (oJ a) (pP a 6)) (AR (BM (rD a) (MV (O3 (IG a) (RN a)))) (BM (rN a) (OO (O3 (IG a) (RN a)))) (BM (oT a) (NS (O3 (IG a) (RN a)))) (BM (oJ a) (NT (O3 (IG a) (RN a)))) (CL (ADA a))))):=by kernel_rfl
def BPB(a:GBt):Prop:=AS ZP BSL Tryz.f39 (AE Tryz.f39) (xGBt a) (AB []) (C_Flow.val a) [] [] []
theorem CCB(a:GBt):(BPB a)=(((HA a.g.length λ(i:Nat)=>gD a.g i).length=a.g.length/\(∀(i:Nat),i<(HA a.g.length λ(i:Nat)=>gD a.g i).length->(gD (HA a.g.length λ(i:Nat)=>gD
 a.g i) i).st=(gD a.g i).st/\(gD (HA a.g.length λ(i:Nat)=>gD a.g i) i).lo=(gD a.g i).lo/\(gD (HA a.g.length λ(i:Nat)=>gD a.g i) i).hi=(gD a.g i).hi)/\(HA a.b.length λ(i:Nat)=>gD a.b
 i).length=a.b.length/\(∀(i:Nat),i<(HA a.b.length λ(i:Nat)=>gD a.b i).length->gD (HA a.b.length λ(i:Nat)=>gD a.b i) i=gD a.b i)/\a.t=a.t/\((HA a.g.length λ(i:Nat)=>gD a.g i).length
 < 4611686018427387904/\(HA a.b.length λ(i:Nat)=>gD a.b i).length<4611686018427387904)/\AV (Pq (GBt.mk (HA a.g.length λ(i:Nat)=>gD a.g i) (HA a.b.length λ(i:Nat)=>gD a.b i) a.t))=0/\inT
 (GBt.mk (HA a.g.length λ(i:Nat)=>gD a.g i) (HA a.b.length λ(i:Nat)=>gD a.b i) a.t)=false)/\(KN a).lo.n=0/\(KN a).lo.d=0/\(KN a).hi.n=0/\(KN a).hi.d=0/\EW a=4):=by
 kernel_rfl
def BSN(a:GBt):Prop:=AS ZP BQL Tryz.f39 (AE Tryz.f39) (xGBt a) (AB []) (C_Flow.val a) [] [] []
theorem BWN(a:GBt):(BSN a)=(AO (CY (uX a a) (vQ a a) (Iz a) (Kc a) (AK (RN a)) (And (Fz (YC a)) (vZ a)) (II (AOB (Pq (Wp a))))) (HZ (RR (AOB (Pq (Wp a)))) (Rn (rD a) (rN a) (oT a) (oJ a) (pP a (AOB (Pq (Wp a))))) zA) HO):=by kernel_rfl
theorem BJQ:∀(l:List Int) (x:Int),0<=x/\x<=2000->brk x l=0->l.Pairwise (· < ·)/\∀y∈l,x<y/\y<=2000
 |[],_,_,_=>⟨.nil,by simp⟩
 |z :: l,x,hx,h=>by
  unfold brk at h
  cases hi:JD z (wr (x+1)) 2000 with
  |false=>rw[hi] at h;cases h
  |true=>
   rw[hi] at h
   unfold wr JD at hi
   rw[HL (n:=x+1) (by omega) (by omega)] at hi
   simp only[Bool.and_eq_true,decide_eq_true_eq] at hi
   obtain⟨h1,h2⟩:=BJQ l z (by omega) h
   refine⟨List.pairwise_cons.2 ⟨λy hy=>(h2 y hy).1,h1⟩,λy hy=>?_⟩
   rcases List.mem_cons.1 hy with rfl | hy
   ·exact⟨by omega,by omega⟩
   ·have:=h2 y hy;exact⟨by omega,this.2⟩
theorem WT{a:GB}(h:AV a=0):US a.g a.b:=by
 unfold AV at h
 cases h1:AL a.g==0 with
 |false=>rw[h1] at h;rw[show AL a.g=0 from h] at h1;cases h1
 |true=>
  rw[h1] at h
  have h:OC a.b=0:=h
  have h1:AL a.g=0:=by simpa using h1
  unfold AL at h1
  cases h2:JD a.g.length 1 24 with
  |false=>rw[h2] at h1;cases h1
  |true=>
   rw[h2] at h1
   cases h3:a.g.all riG with
   |false=>rw[h3] at h1;cases h1
   |true=>
    unfold JD at h2
    simp only[Bool.and_eq_true,decide_eq_true_eq] at h2
    unfold OC at h
    split at h
    ·cases h
    ·obtain⟨h5,h6⟩:=BJQ _ 0 (by omega) h
     refine⟨by omega,λx hx=>?_,by omega,h5,λy hy=>⟨by have:=h6 y hy;omega,(h6 y hy).2⟩⟩
     have:=List.all_eq_true.1 h3 x hx
     unfold riG JD at this
     simp only[Bool.and_eq_true,decide_eq_true_eq] at this
     unfold IT;omega
theorem BTP:AH ZP 39 (C_Flow.spec G7):=Ctr.spec_ok (C:=C_Flow) (λ(a:GBt) h=>by
 have h:preT a:=(show preT a/\True from h).1
 by_cases hE:AV (Pq a)=0
 ·cases hT:inT a with
  |true=>
   refine WP (A:=BNV) (L:=[]) (keep:=[]) (ren:=[]) (fz:=[]) Tryz.func39 (by kernel_rfl) (AA BXN (AA oO AD)) ?_
   show BQN a;rw[CGQ]<;> dsimp only[go_sem];simp only[CC,CU,XS,Fe,sK,sJ,Fh,show GBt.mk a.g a.b a.t=a from rfl,show BkT.mk (FM (Pq a)) a.t=bkT a from rfl]
   have hi:0<=a.t/\a.t<=2000:=by
    unfold inT JD at hT;simpa using hT
   have hb:US (Pq a).g (Pq a).b:=WT hE
   refine⟨⟨h,hE,hT⟩,⟨hb,hi⟩,λhc=>?_,λhc=>?_⟩
   ·have e:EW a=6:=by unfold EW;rw[hE,hT,decide_eq_true (show (lB (bkT a)).length=0 by omega)];rfl
    have e2:KN a=default:=by unfold KN;rw[e];rfl
    rw[e2];exact⟨rfl,rfl,rfl,rfl,e⟩
   ·have e:EW a=0:=by unfold EW;rw[hE,hT,decide_eq_false hc];rfl
    have e2:KN a=bndM (lB (bkT a)) a.t:=by unfold KN;rw[e];rfl
    rw[e2];exact⟨rfl,rfl,rfl,rfl,e⟩
  |false=>
   refine WP (A:=BSL) (L:=[]) (keep:=[]) (ren:=[]) (fz:=[]) Tryz.func39 (by kernel_rfl) (AA BOI (AA oO AD)) ?_
   show BPB a;rw[CCB];simp only[CC,CU,show GBt.mk a.g a.b a.t=a from rfl]
   have e:EW a=4:=by unfold EW;rw[hE,hT];rfl
   have e2:KN a=default:=by unfold KN;rw[e];rfl
   rw[e2];exact⟨⟨h,hE,hT⟩,rfl,rfl,rfl,rfl,e⟩
 ·refine WP (A:=BQL) (L:=[]) (keep:=[]) (ren:=[]) (fz:=[]) Tryz.func39 (by kernel_rfl) (AA BSW (AA oO AD)) ?_
  show BSN a;rw[BWN]<;> dsimp only[go_sem];simp only[CC,CU,show GBt.mk a.g a.b a.t=a from rfl]
  have e:EW a=AV (Pq a):=by unfold EW;rw[show (AV (Pq a)==0)=false by simpa using hE];rfl
  have e2:KN a=default:=by unfold KN;rw[e,show (AV (Pq a)==0)=false by simpa using hE];rfl
  rw[e2];exact⟨⟨h,hE⟩,λ_=>⟨rfl,rfl,rfl,rfl,e⟩,λhc=>hE (by simpa using hc)⟩) _
structure GBu where
 a:GBt
 u:Bool
def dGBu:List AVal->Heap->Option (GBu×List (Nat×Nat)×List Nat)
 |[x,y,.d t,.d u],H=>match Ht x H,Xt y H with
  |some (l,f),some (m,e)=>some (⟨⟨l,m,EG t⟩,CGC u⟩,[],f ++ e)
  |_,_=>none
 |_,_=>none
def xGBu(x:GBu):List AVal:=[.d (AT x.a.g),.d (AZ x.a.b),.int x.a.t,.bool x.u]
def Qg(x:GBu):Ln:=bif EW x.a==0 then (bif x.u then Es jY x.a.t (lB (bkT x.a)) else Es jX x.a.t (lB (bkT x.a))) else default
def C_Reach:Ctr:={ α:=GBu,xs:=xGBu,L:=λ_=>[],val:=λx=>.tup [.d (eLn (Qg x)),.int (EW x.a)],keep:=λ_=>[],pre:=λx=>[preT x.a/\True] }
def BZY(c:Sym.Spec):List (FuncId×Sym.Spec):=[(82,c),(85,C_less.spec d0),(86,C_more.spec d0),(87,orS ((Da jX 120).spec (dBkT 120)) ((Da jY 121).spec (dBkT 121)))]
def BDN:Ann:=ann 40 (BZY (C_stg.spec G7))
def BDM:Ann:=ann 40 (BZY (C_stgA.spec G7))
def BEP:Ann:={ ann 40 (BZY (C_stgX.spec G7)) with cut:=λid=>if id=4 then some [] else none }
def BGC(x:GBu):Prop:=AS ZP BDN Tryz.f41 (AE Tryz.f41) (xGBu x) (AB []) (C_Reach.val x) [] [] []
abbrev Jo:=GBu.a
abbrev Em:=Qg
abbrev Ai a:=RN (Jo a)
abbrev sN a:=ALV (Jo a)
abbrev HC a:=BWQ (sN a) (Jo a)
abbrev gF a:=AMN (HC a) (Ai a)
abbrev aQ a:=CO (gF a)
abbrev U3 a:=Is (HC a)
abbrev lP a b:=A0 (HC a) (Ai b)
abbrev Xf a:=Ej (HC a)
attribute [go_sem] Jo Em Ai sN HC gF aQ U3 lP Xf
theorem BVC(x:GBu):(BGC x)=(SK (DY (AY (sN x)) (BJ (sN x)) (Iz (Jo x)) (Kc (Jo x)) (AK (Ai x)) (And (dS (sN x)) (vZ (Jo x))) (Rf (Pq (ATM (sN x) (Jo x)))) (IN (inT (ATM (sN x) (Jo x))))) (GBu.u x) (DY (AK (Ai x)) (Eb (HC x)) (Gd (HC x)) (OL (U3 x) (HC x)) (OX (U3 x) (HC x)) CZ Gq (Jf (MU (HC x)) (λi=>DI (Xf x) i (HC x) (λj=>CP j (Xf x) i (HC x) (CE (BA (Xf x) i j) (BA (HC x) i j) (BE (Xf x) i j) (BE (HC x) i j) (Xf x) i j (BZ (HC x) i j)))) (JJ (HC x) (lP x x)) (JK (HC x) (lP x x)) (JI (HC x) (lP x x)) (JM (HC x) (lP x x)) (SF (HC x) (U3 x) OB) (Ai x))) (Uk (Z3 (aQ x)) (Rn (MG (Em x)) (QT (Em x)) (RU (Em x)) (SJ (Em x)) (pP (Jo x) 6)) (AR (Cz (Em x) (dJ (aQ x) jY (Ai x) (gF x))) (Dr (Em x) (dJ (aQ x) jY (Ai x) (gF x))) (Dz (Em x) (dJ (aQ x) jY (Ai x) (gF x))) (Dj (Em x) (dJ (aQ x) jY (Ai x) (gF x))) (CL (ADA (Jo x))))) (TC (DY (AK (Ai x)) (Eb (HC x)) (Gd (HC x)) (OL (U3 x) (HC x)) (OX (U3 x) (HC x)) CZ Gq (Jf (MU (HC x)) (λi=>DI (Xf x) i (HC x) (λj=>CP j (Xf x) i (HC x) (CE (BA (Xf x) i j) (BA (HC x) i j) (BE (Xf x) i j) (BE (HC x) i j) (Xf x) i j (BZ (HC x) i j)))) (JJ (HC x) (lP x x)) (JK (HC x) (lP x x)) (JI (HC x) (lP x x)) (JM (HC x) (lP x x)) (SF (HC x) (U3 x) OB) (Ai x))) (not (Z3 (aQ x))) (Rn (MG (Em x)) (QT (Em x)) (RU (Em x)) (SJ (Em x)) (pP (Jo x) 6)) (AR (Cz (Em x) (dJ (aQ x) jX (Ai x) (gF x))) (Dr (Em x) (dJ (aQ x) jX (Ai x) (gF x))) (Dz (Em x) (dJ (aQ x) jX (Ai x) (gF x))) (Dj (Em x) (dJ (aQ x) jX (Ai x) (gF x))) (CL (ADA (Jo x)))))):=by kernel_rfl
def BGH(x:GBu):Prop:=AS ZP BDM Tryz.f41 (AE Tryz.f41) (xGBu x) (AB []) (C_Reach.val x) [] [] []
theorem BVJ(x:GBu):(BGH x)=(AW (DY (AY (sN x)) (BJ (sN x)) (Iz (Jo x)) (Kc (Jo x)) (AK (Ai x)) (And (dS (sN x)) (vZ (Jo x))) (Rf (Pq (ATM (sN x) (Jo x)))) (KU (inT (ATM (sN x) (Jo x))))) (CL (MG (Em x))) (CL (QT (Em x))) (CL (RU (Em x))) (CL (SJ (Em x))) (pP (Jo x) 4)):=by kernel_rfl
def BFC(x:GBu):Prop:=AS ZP BEP Tryz.f41 (AE Tryz.f41) (xGBu x) (AB []) (C_Reach.val x) [] [] []
theorem BUT(x:GBu):(BFC x)=(((HA x.a.g.length λ(i:Nat)=>gD x.a.g i).length=x.a.g.length/\(∀(i:Nat),i<(HA x.a.g.length λ(i:Nat)=>gD x.a.g i).length->(gD (HA x.a.g.length λ(i
 : Nat)=>gD x.a.g i) i).st=(gD x.a.g i).st/\(gD (HA x.a.g.length λ(i:Nat)=>gD x.a.g i) i).lo=(gD x.a.g i).lo/\(gD (HA x.a.g.length λ(i:Nat)=>gD x.a.g i) i).hi=(gD x.a.g i).hi)/\(HA x.a.b.length
 λ(i:Nat)=>gD x.a.b i).length=x.a.b.length/\(∀(i:Nat),i<(HA x.a.b.length λ(i:Nat)=>gD x.a.b i).length->gD (HA x.a.b.length λ(i:Nat)=>gD x.a.b i) i=gD x.a.b i)/\x.a.t=x.a.t/\((HA
 x.a.g.length λ(i:Nat)=>gD x.a.g i).length<4611686018427387904/\(HA x.a.b.length λ(i:Nat)=>gD x.a.b i).length<4611686018427387904)/\AV (Pq (GBt.mk (HA x.a.g.length λ(i:Nat)=>gD x.a.g i)
 (HA x.a.b.length λ(i:Nat)=>gD x.a.b i) x.a.t))≠0)/\(bif AV (Pq (GBt.mk (HA x.a.g.length λ(i:Nat)=>gD x.a.g i) (HA x.a.b.length λ(i:Nat)=>gD x.a.b i) x.a.t)) != 0 then (Qg x).a0=0 /\
 (Qg x).a1=0/\(Qg x).b0=0/\(Qg x).b1=0/\EW x.a=AV (Pq (GBt.mk (HA x.a.g.length λ(i:Nat)=>gD x.a.g i) (HA x.a.b.length λ(i:Nat)=>gD x.a.b i) x.a.t)) else False)/\True):=by
 kernel_rfl
theorem CFJ:AH ZP 41 (C_Reach.spec dGBu):=Ctr.spec_ok (C:=C_Reach) (λ(x:GBu) h=>by
 have h:preT x.a:=(show preT x.a/\True from h).1
 by_cases hE:AV (Pq x.a)=0
 ·cases hT:inT x.a with
  |true=>
   refine WP (A:=BDN) (L:=[]) (keep:=[]) (ren:=[]) (fz:=[]) Tryz.func41 (by kernel_rfl) (AA BXN (AA AKK (AA F9 (AA (pR ACJ ACD) AD)))) ?_
   show BGC x;rw[BVC]<;> dsimp only[go_sem];simp only[CC,CU,XS,Fe,sK,sJ,Fh,show GBt.mk x.a.g x.a.b x.a.t=x.a from rfl,show BkT.mk (FM (Pq x.a)) x.a.t=bkT x.a from rfl]
   have hi:0<=x.a.t/\x.a.t<=2000:=by
    unfold inT JD at hT;simpa using hT
   have hb:US (Pq x.a).g (Pq x.a).b:=WT hE
   have e6:¬(lB (bkT x.a)).length≠0->EW x.a=6:=λhc=>by unfold EW;rw[hE,hT,decide_eq_true (show (lB (bkT x.a)).length=0 by omega)];rfl
   have e0:(lB (bkT x.a)).length≠0->EW x.a=0:=λhc=>by unfold EW;rw[hE,hT,decide_eq_false hc];rfl
   refine⟨⟨h,hE,hT⟩,λhu=>⟨⟨hb,hi⟩,λhc=>?_,λhc=>?_⟩,λhu=>⟨⟨hb,hi⟩,λhc=>?_,λhc=>?_⟩⟩
   ·have e2:Qg x=default:=by unfold Qg;rw[e6 hc];rfl
    rw[e2];exact⟨rfl,rfl,rfl,rfl,e6 hc⟩
   ·have e2:Qg x=Es jY x.a.t (lB (bkT x.a)):=by unfold Qg;rw[e0 hc,hu];rfl
    rw[e2,decide_eq_false hc];exact⟨rfl,rfl,rfl,rfl,e0 hc⟩
   ·have e2:Qg x=default:=by unfold Qg;rw[e6 hc];rfl
    rw[e2];exact⟨rfl,rfl,rfl,rfl,e6 hc⟩
   ·have e2:Qg x=Es jX x.a.t (lB (bkT x.a)):=by unfold Qg;rw[e0 hc,hu];rfl
    rw[e2,decide_eq_false hc];exact⟨rfl,rfl,rfl,rfl,e0 hc⟩
  |false=>
   refine WP (A:=BDM) (L:=[]) (keep:=[]) (ren:=[]) (fz:=[]) Tryz.func41 (by kernel_rfl) (AA BOI (AA AKK (AA F9 (AA (pR ACJ ACD) AD)))) ?_
   show BGH x;rw[BVJ]<;> dsimp only[go_sem];simp only[CC,CU,show GBt.mk x.a.g x.a.b x.a.t=x.a from rfl]
   have e:EW x.a=4:=by unfold EW;rw[hE,hT];rfl
   have e2:Qg x=default:=by unfold Qg;rw[e];rfl
   rw[e2];exact⟨⟨h,hE,hT⟩,rfl,rfl,rfl,rfl,e⟩
 ·refine WP (A:=BEP) (L:=[]) (keep:=[]) (ren:=[]) (fz:=[]) Tryz.func41 (by kernel_rfl) (AA BSW (AA AKK (AA F9 (AA (pR ACJ ACD) AD)))) ?_
  show BFC x;rw[BUT];simp only[CC,CU,show GBt.mk x.a.g x.a.b x.a.t=x.a from rfl]
  have e:EW x.a=AV (Pq x.a):=by unfold EW;rw[show (AV (Pq x.a)==0)=false by simpa using hE];rfl
  have e2:Qg x=default:=by unfold Qg;rw[e,show (AV (Pq x.a)==0)=false by simpa using hE];rfl
  rw[e2];exact⟨⟨h,hE⟩,λ_=>⟨rfl,rfl,rfl,rfl,e⟩,λhc=>hE (by simpa using hc)⟩) _
end Go.Bal
