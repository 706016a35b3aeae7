/- Package chart: what Stage, Peak and First return, by truths (no program in sight). -/
import Derived.Test.YtceloknnpdonhaaGreatChW
import Derived.Test.YtceloknnpdonhaaGreatChJ
import Derived.Test.YtceloknnpdonhaaGreatChT6
import Derived.Test.YtceloknnpdonhaaGreatCom0
set_option linter.unusedVariables false
set_option linter.unusedSimpArgs false
namespace Go.Bal
open Go Go.Sym Go.Proofs
theorem AJY(a b:Int):OL a b=a/\b<=a∨OL a b=b/\a<=b:=by unfold OL;split<;>omega
theorem ACX(a b:Int):Ie a b=a/\a<=b∨Ie a b=b/\b<=a:=by unfold Ie;split<;>omega
def HulIs(h:Hul)(S:Span->Prop):Prop:=(h.m=true->(∃s,S s/\s.lo=h.s.lo)/\∃s,S s/\s.hi=h.s.hi)/\∀s,S s->h.m=true/\h.s.lo<=s.lo/\s.hi<=h.s.hi
theorem HulIs.zero{S:Span->Prop}(h:∀s,¬ S s):HulIs zHul S:=⟨λh=>(by cases h),λs hs=>absurd hs (h s)⟩
theorem HulIs.ext{h:Hul}{S T:Span->Prop}(hs:HulIs h S)(e:∀s,S s↔T s):HulIs h T:=
 ⟨λhm=>let ⟨⟨a,a1,a2⟩,b,b1,b2⟩:=hs.1 hm;⟨⟨a,(e a).1 a1,a2⟩,b,(e b).1 b1,b2⟩,λs q=>hs.2 s ((e s).2 q)⟩
theorem HulIs.add{h:Hul}{S:Span->Prop}(hs:HulIs h S)(x:Span):HulIs (vT h x) λs=>S s∨s=x:=by
 cases hm:h.m with
 |false=>
  have no:∀s,¬ S s:=λs q=>by have:=(hs.2 s q).1;rw[hm] at this;cases this
  have e:vT h x=⟨x,true⟩:=by unfold vT;rw[hm];rfl
  rw[e]
  exact⟨λ_=>⟨⟨x,.inr rfl,rfl⟩,x,.inr rfl,rfl⟩,λs q=>q.elim (λq=>absurd q (no s)) λq=>by subst q;exact⟨rfl,Int.le_refl _,Int.le_refl _⟩⟩
 |true=>
  have e:vT h x=⟨⟨Ie x.lo h.s.lo,OL x.hi h.s.hi⟩,true⟩:=by unfold vT;rw[hm];rfl
  obtain⟨⟨a,a1,a2⟩,b,b1,b2⟩:=hs.1 hm
  have m1:=CCF x.lo h.s.lo
  have m2:=BNM x.hi h.s.hi
  rw[e]
  refine⟨λ_=>⟨?_,?_⟩,λs q=>⟨rfl,?_,?_⟩⟩
  ·show ∃s,(S s∨s=x)/\s.lo=Ie x.lo h.s.lo
   rcases ACX x.lo h.s.lo with⟨q,_⟩ | ⟨q,_⟩<;>rw[q]
   ·exact⟨x,.inr rfl,rfl⟩
   ·exact⟨a,.inl a1,a2⟩
  ·show ∃s,(S s∨s=x)/\s.hi=OL x.hi h.s.hi
   rcases AJY x.hi h.s.hi with⟨q,_⟩ | ⟨q,_⟩<;>rw[q]
   ·exact⟨x,.inr rfl,rfl⟩
   ·exact⟨b,.inl b1,b2⟩
  ·show Ie x.lo h.s.lo<=s.lo
   rcases q with q | q
   ·have:=(hs.2 s q).2;omega
   ·subst q;exact m1.1
  ·show s.hi<=OL x.hi h.s.hi
   rcases q with q | q
   ·have:=(hs.2 s q).2;omega
   ·subst q;exact m2.1
theorem HulIs.who{h:Hul}{S:Span->Prop}(hs:HulIs h S):(∃s,S s)/\(whoM h).2=0/\(whoM h).1=h.s/\h.m=true∨(∀s,¬ S s)/\whoM h=(⟨0,0⟩,5):=by
 cases hm:h.m with
 |true=>
  obtain⟨⟨a,a1,_⟩,_⟩:=hs.1 hm
  exact .inl ⟨⟨a,a1⟩,by unfold whoM;rw[hm];rfl,by unfold whoM;rw[hm];rfl,rfl⟩
 |false=>exact .inr ⟨λs q=>(by have:=(hs.2 s q).1;rw[hm] at this;cases this),by unfold whoM;rw[hm];rfl⟩
theorem TrC.bd{c:Cht}(h:ChOk c){sp:Nat->Bool}{u:Nat->Int}(hu:TrC c sp u){i:Nat}(hi:i<c.ms.length):-100000000<=u i/\u i<=100000000:=by
 have n:=hu.note hi
 have b:=(CAL h (i:Int)).1
 unfold Yd at b
 unfold Span.has at n
 omega
theorem TrC.inc{c:Cht}(h:ChOk c){sp:Nat->Bool}{u:Nat->Int}(hu:TrC c sp u){g:Nat}(hg:g+1<c.ms.length):u g<u (g+1):=by
 have a:=(hu.gap g (by omega)).1
 have b:=(h.gap sp hg).1
 have a:c.p.lo*iB c g<=u (g+1)-u g:=a
 omega
theorem TrC.lt{c:Cht}(h:ChOk c){sp:Nat->Bool}{u:Nat->Int}(hu:TrC c sp u){i:Nat}:∀{j:Nat},i<j->j<c.ms.length->u i<u j
 |j+1,hij,hj=>by
  have:=hu.inc h hj
  rcases Nat.lt_or_ge i j with q | q
  ·have:=hu.lt h q (by omega);omega
  ·obtain rfl:i=j:=by omega
   exact this
theorem TrC.le{c:Cht}(h:ChOk c){sp:Nat->Bool}{u:Nat->Int}(hu:TrC c sp u){i j:Nat}(hij:i<=j)(hj:j<c.ms.length):u i<=u j:=by
 rcases Nat.lt_or_ge i j with q | q
 ·exact Int.le_of_lt (hu.lt h q hj)
 ·obtain rfl:i=j:=by omega
  exact Int.le_refl _
theorem BXR{c:Cht}{i:Nat}(hi:i<c.ms.length):gD (Ol c) i=xT c i:=OW _ _ _ hi
def StS(a:CZ)(t:Int)(s:Span):Prop:=∃u,TrC a.c (Fh a).sp u/\((∃i,i<a.c.ms.length/\u i=t/\s=gD (Ol a.c) i)∨∃g,g+1<a.c.ms.length/\(u g<=t-1/\t+1<=u (g+1))/\(s=gD (Ol a.c) g∨s=gD (Ol a.c) (g+1)))
theorem CCM(a:CZ)(t:Int):∀k,HulIs (hul1 a t k) λs=>∃i,i<k/\(gD (eA a) i).has t/\s=gD (Ol a.c) i
 |0=>HulIs.zero λs ⟨i,h,_⟩=>absurd h (Nat.not_lt_zero _)
 |k+1=>by
  have ih:=CCM a t k
  show HulIs (bif XA t (gD (eA a) k).lo (gD (eA a) k).hi then vT (hul1 a t k) (gD (Ol a.c) k) else hul1 a t k) _
  cases hi:XA t (gD (eA a) k).lo (gD (eA a) k).hi with
  |true=>
   refine (ih.add (gD (Ol a.c) k)).ext λs=>⟨?_,?_⟩
   ·rintro (⟨i,h1,h2⟩ | h)
    ·exact⟨i,by omega,h2⟩
    ·exact⟨k,Nat.lt_succ_self _,PX.1 hi,h⟩
   ·rintro⟨i,h1,h2,h3⟩
    rcases Nat.lt_or_ge i k with q | q
    ·exact .inl ⟨i,q,h2,h3⟩
    ·obtain rfl:i=k:=by omega
     exact .inr h3
  |false=>
   refine ih.ext λs=>⟨λ⟨i,h1,h2⟩=>⟨i,by omega,h2⟩,?_⟩
   rintro⟨i,h1,h2,h3⟩
   rcases Nat.lt_or_ge i k with q | q
   ·exact⟨i,q,h2,h3⟩
   ·obtain rfl:i=k:=by omega
    rw[PX.2 h2] at hi;cases hi
theorem CMQ(a:CZ)(t:Int):∀k,HulIs (hul2 a t k) λs=>(∃i,i<a.c.ms.length/\(gD (eA a) i).has t/\s=gD (Ol a.c) i)∨∃g,g<k/\ADP a t g=true/\(s=gD (Ol a.c) g∨s=gD (Ol a.c) (g+1))
 |0=>(CCM a t a.c.ms.length).ext λs=>⟨.inl,λh=>h.elim id λ⟨g,h,_⟩=>absurd h (Nat.not_lt_zero _)⟩
 |k+1=>by
  have ih:=CMQ a t k
  show HulIs (bif ADP a t k then vT (vT (hul2 a t k) (gD (Ol a.c) k)) (gD (Ol a.c) (k+1)) else hul2 a t k) _
  cases hi:ADP a t k with
  |true=>
   refine ((ih.add (gD (Ol a.c) k)).add (gD (Ol a.c) (k+1))).ext λs=>⟨?_,?_⟩
   ·rintro (((h | ⟨g,h1,h2⟩) | h) | h)
    ·exact .inl h
    ·exact .inr ⟨g,by omega,h2⟩
    ·exact .inr ⟨k,Nat.lt_succ_self _,hi,.inl h⟩
    ·exact .inr ⟨k,Nat.lt_succ_self _,hi,.inr h⟩
   ·rintro (h | ⟨g,h1,h2,h3⟩)
    ·exact .inl (.inl (.inl h))
    ·rcases Nat.lt_or_ge g k with q | q
     ·exact .inl (.inl (.inr ⟨g,q,h2,h3⟩))
     ·obtain rfl:g=k:=by omega
      rcases h3 with h3 | h3
      ·exact .inl (.inr h3)
      ·exact .inr h3
  |false=>
   refine ih.ext λs=>⟨λh=>h.elim .inl λ⟨g,h1,h2⟩=>.inr ⟨g,by omega,h2⟩,?_⟩
   rintro (h | ⟨g,h1,h2,h3⟩)
   ·exact .inl h
   ·rcases Nat.lt_or_ge g k with q | q
    ·exact .inr ⟨g,q,h2,h3⟩
    ·obtain rfl:g=k:=by omega
     rw[h2] at hi;cases hi
theorem DCU{a:CZ}(h:ChOk a.c)(hr:Ac a=0)(t:Int):HulIs (stgH ⟨a,t⟩) (StS a t):=by
 have hm:=h.m
 have one:∀s,(∃i,i<a.c.ms.length/\(gD (eA a) i).has t/\s=gD (Ol a.c) i)↔∃u,TrC a.c (Fh a).sp u/\∃i,i<a.c.ms.length/\u i=t/\s=gD (Ol a.c) i:=λs=>by
  constructor
  ·rintro⟨i,h1,h2,h3⟩
   obtain⟨u,u1,u2⟩:=(BWS h hr h1).1 h2
   exact⟨u,u1,i,h1,u2,h3⟩
  ·rintro⟨u,u1,i,h1,u2,h3⟩
   exact⟨i,h1,(BWS h hr h1).2 ⟨u,u1,u2⟩,h3⟩
 unfold stgH
 cases hi:XA t (-100000000) 100000000 with
 |false=>
  refine (CCM a t a.c.ms.length).ext λs=>?_
  rw[one s]
  constructor
  ·rintro⟨u,u1,u2⟩;exact⟨u,u1,.inl u2⟩
  ·rintro⟨u,u1,u2 | ⟨g,g1,⟨g2,g3⟩,_⟩⟩
   ·exact⟨u,u1,u2⟩
   ·have b1:=u1.bd h (i:=g) (by omega)
    have b2:=u1.bd h g1
    rw[PX.2 (by omega)] at hi;cases hi
 |true=>
  have ht:=PX.1 hi
  refine (CMQ a t (a.c.ms.length-1)).ext λs=>?_
  rw[one s]
  constructor
  ·rintro (⟨u,u1,u2⟩ | ⟨g,g1,g2,g3⟩)
   ·exact⟨u,u1,.inl u2⟩
   ·obtain⟨u,u1,u2⟩:=(COT h hr (show g+1<_ by omega) ht).1 g2
    exact⟨u,u1,.inr ⟨g,by omega,u2,g3⟩⟩
  ·rintro⟨u,u1,u2 | ⟨g,g1,g2,g3⟩⟩
   ·exact .inl ⟨u,u1,u2⟩
   ·exact .inr ⟨g,by omega,(COT h hr g1 ht).2 ⟨u,u1,g2⟩,g3⟩
end Go.Bal

namespace Go.Bal
open Go Go.Sym Go.Proofs
theorem CVN{a:CZ}(h:ChOk a.c)(hz:okZ a=true)(hs:AEQ a.c=true){t:Nat->Int}(ht:TrC a.c (Fh a).sp t):Ac a=0:=by
 unfold Ac
 rw[CXP.2 h,hz,(CDW (w:=Fh a) h).2 ⟨hs,t,ht⟩];rfl
theorem MadeF.stg{a:MkIQ}(h:MadeF a):AEQ (ZP a)=true:=BZQ.2 λi hi=>by
 rw[CHG] at hi
 rw[BXR hi]
 exact Int.le_trans (h.st i hi).1 (h.st i hi).2
theorem MadeF.read{a:MkIQ}(h:MadeF a){z:List Int}(hz:okZ ⟨ZP a,z⟩=true)(hs:∀g∈(jV a).z,g∈z):Ac ⟨ZP a,z⟩=0/\TrC (ZP a) (Fh ⟨ZP a,z⟩).sp (gD (jV a).t):=by
 have t:=h.tr (Fh ⟨ZP a,z⟩).sp λg hg=>(DIS (a:=⟨ZP a,z⟩) h.ok.m hz g).2 (hs _ hg)
 exact⟨CVN (a:=⟨ZP a,z⟩) h.ok hz h.stg t,t⟩
end Go.Bal

namespace Go.Bal
open Go Go.Sym Go.Proofs
theorem CIU{c:Cht}(h:ChOk c){i:Nat}(hi:i<c.ms.length):-3000000<=(gD (Ol c) i).lo/\(gD (Ol c) i).hi<=3000000:=by
 rw[BXR hi]
 have hb:=h.b
 have hs:=h.sc
 have ho:=h.of
 obtain⟨_,m1,m2⟩:=h.mks i hi
 have p0:=Int.mul_nonneg hs.1 m1
 have p1:=Int.mul_le_mul hs.2 m2 m1 (show (0:Int)<=1000 by omega)
 have e:atMQ c (i:Int)=c.base+c.scale*(gD c.ms i).ht:=by
  unfold atMQ MQ
  rw[Int.toNat_natCast,JC (show _<=c.scale*(gD c.ms i).ht by omega) (by omega),JC (by omega) (by omega)]
 have e0:st0 c (i:Int)=⟨atMQ c i-c.off,atMQ c i+c.off⟩:=by
  unfold st0 MQ
  rw[JC (show _<=atMQ c (i:Int)-c.off by omega) (by omega),JC (by omega) (by omega)]
 have h0:-3000000<=(st0 c (i:Int)).lo/\(st0 c (i:Int)).hi<=3000000:=by
  rw[e0,e];exact⟨by show _<=_-c.off;omega,by show _+c.off<=_;omega⟩
 unfold xT
 cases hasN c.ns (i:Int) with
 |false=>exact h0
 |true=>
  have a:=AJY (st0 c (i:Int)).lo (ntOf c.ns (i:Int)).s.lo
  have b:=ACX (st0 c (i:Int)).hi (ntOf c.ns (i:Int)).s.hi
  exact⟨by show _<=OL _ _;omega,by show Ie _ _<=_;omega⟩
theorem CJC{a:MkIQ}(h:MadeF a){k:Nat}(hk:k<(ZP a).ms.length):(Gt ⟨⟨ZP a,(jV a).z⟩,gD (jV a).t k⟩).2=0/\((Gt ⟨⟨ZP a,(jV a).z⟩,gD (jV a).t k⟩).1.lo<=gD (jV a).s k/\gD (jV a).s k<=(Gt ⟨⟨ZP a,(jV a).z⟩,gD (jV a).t k⟩).1.hi) /\ -3000000<=(Gt ⟨⟨ZP a,(jV a).z⟩,gD (jV a).t k⟩).1.lo/\(Gt ⟨⟨ZP a,(jV a).z⟩,gD (jV a).t k⟩).1.hi<=3000000:=by
 obtain⟨hr,ht⟩:=h.read h.z (λg hg=>hg)
 generalize hv:gD (jV a).t k=v
 have I:=DCU (a:=⟨ZP a,(jV a).z⟩) h.ok hr v
 have e:Gt ⟨⟨ZP a,(jV a).z⟩,v⟩=whoM (stgH ⟨⟨ZP a,(jV a).z⟩,v⟩):=by unfold Gt;rw[show Ac (CZI.mk ⟨ZP a,(jV a).z⟩ v).a=0 from hr];rfl
 have me:StS ⟨ZP a,(jV a).z⟩ v (gD (Ol (ZP a)) k):=⟨gD (jV a).t,ht,.inl ⟨k,hk,hv,rfl⟩⟩
 rw[e]
 rcases I.who with⟨_,e1,e2,hm⟩ | ⟨no,_⟩
 ·rw[e2]
  have i2:=I.2 _ me
  have st:=h.st k hk
  rw[<-BXR hk] at st
  have st1:=st.1
  have st2:=st.2
  have bd:∀s,StS ⟨ZP a,(jV a).z⟩ v s -> -3000000<=s.lo/\s.hi<=3000000:=λs ⟨u,_,q⟩=>by
   rcases q with⟨i,hi,_,rfl⟩ | ⟨g,hg,_,rfl | rfl⟩
   ·exact CIU h.ok hi
   ·exact CIU h.ok (show g<(ZP a).ms.length from Nat.lt_of_succ_lt hg)
   ·exact CIU h.ok hg
  obtain⟨⟨s,s1,s2⟩,r,r1,r2⟩:=I.1 hm
  have b1:=bd s s1
  have b2:=bd r r1
  exact⟨e1,⟨by omega,by omega⟩,by omega,by omega⟩
 ·exact absurd me (no _)
theorem DFJ:∀{z:List Int} {a b:Int},z.Pairwise (· < ·)->(∀g∈z,a<=g/\g<b)->(z.length:Int)<=b-a∨z=[]
 |[],_,_,_,_=>.inr rfl
 |g :: r,a,b,hp,hb=>by
  rw[List.pairwise_cons] at hp
  have h0:=hb g (List.mem_cons_self ..)
  rcases DFJ (a:=g+1) (b:=b) hp.2 (λx hx=>by have:=hp.1 x hx;have:=hb x (List.mem_cons_of_mem _ hx);omega) with h | h
  ·left;rw[List.length_cons];omega
  ·subst h;left;show ((1:Nat):Int)<=_;omega
theorem CZX{bs:List Int}(h:∀i,i<bs.length->0<=gD bs i/\gD bs i<=255){m:Int}{b:Bool}(hm:1<=m/\m<=14):AJS ⟨⟨bs,0,0⟩,m,b⟩:=⟨⟨⟨Int.le_refl _,Int.le_refl _⟩,⟨Int.le_refl _,by show (0:Int)<251;omega⟩,h⟩,hm⟩
end Go.Bal

namespace Go.Bal
open Go Go.Sym Go.Proofs
abbrev n_in:FuncId:=37
noncomputable abbrev F_in:Func:=Tryz.f37
theorem DUV:Try.prog.funcs[n_in]?=some F_in:=Tryz.func37
abbrev n_eG:FuncId:=39
noncomputable abbrev F_eG:Func:=Tryz.f39
theorem DMF:Try.prog.funcs[n_eG]?=some F_eG:=Tryz.func39
abbrev n_eL:FuncId:=42
noncomputable abbrev F_eL:Func:=Tryz.f42
theorem DWB:Try.prog.funcs[n_eL]?=some F_eL:=Tryz.func42
abbrev n_eI:FuncId:=86
noncomputable abbrev F_eI:Func:=Tryz.f86
theorem DTW:Try.prog.funcs[n_eI]?=some F_eI:=Tryz.func86
abbrev BDJ:FuncId:=72
noncomputable abbrev CEI:Func:=Tryz.f72
theorem CWL:Try.prog.funcs[BDJ]?=some CEI:=Tryz.func72
abbrev CFU:FuncId:=74
noncomputable abbrev CYT:Func:=Tryz.f74
theorem DSF:Try.prog.funcs[CFU]?=some CYT:=Tryz.func74
abbrev CFJ:FuncId:=111
noncomputable abbrev DAU:Func:=Tryz.f111
theorem DTD:Try.prog.funcs[CFJ]?=some DAU:=Tryz.func111
abbrev CFT:FuncId:=71
noncomputable abbrev CET:Func:=Tryz.f71
theorem CUC:Try.prog.funcs[CFT]?=some CET:=Tryz.func71
abbrev CXU:FuncId:=73
noncomputable abbrev CXJ:Func:=Tryz.f73
theorem DQG:Try.prog.funcs[CXU]?=some CXJ:=Tryz.func73
abbrev DCK:FuncId:=110
noncomputable abbrev DED:Func:=Tryz.f110
theorem DPL:Try.prog.funcs[DCK]?=some DED:=Tryz.func110
abbrev CFX:FuncId:=104
noncomputable abbrev CHM:Func:=Tryz.f104
theorem CWN:Try.prog.funcs[CFX]?=some CHM:=Tryz.func104
abbrev DAV:FuncId:=105
noncomputable abbrev DAW:Func:=Tryz.f105
theorem DPG:Try.prog.funcs[DAV]?=some DAW:=Tryz.func105
abbrev DAI:FuncId:=119
noncomputable abbrev CXG:Func:=Tryz.f119
theorem DRZ:Try.prog.funcs[DAI]?=some CXG:=Tryz.func119
abbrev CNE:FuncId:=40
noncomputable abbrev DEA:Func:=Tryz.f40
theorem DRN:Try.prog.funcs[CNE]?=some DEA:=Tryz.func40
abbrev CPD:FuncId:=75
noncomputable abbrev CWG:Func:=Tryz.f75
theorem DSV:Try.prog.funcs[CPD]?=some CWG:=Tryz.func75
abbrev BSW:FuncId:=43
noncomputable abbrev DEY:Func:=Tryz.f43
theorem DSE:Try.prog.funcs[BSW]?=some DEY:=Tryz.func43
abbrev ALW:FuncId:=17
noncomputable abbrev BXY:Func:=Tryz.f17
theorem DAS:Try.prog.funcs[ALW]?=some BXY:=Tryz.func17
abbrev BCR:FuncId:=41
noncomputable abbrev BQC:Func:=Tryz.f41
theorem CTK:Try.prog.funcs[BCR]?=some BQC:=Tryz.func41
abbrev BDV:FuncId:=18
noncomputable abbrev BUK:Func:=Tryz.f18
theorem CSI:Try.prog.funcs[BDV]?=some BUK:=Tryz.func18
abbrev AZI:FuncId:=107
noncomputable abbrev AUY:Func:=Tryz.f107
theorem CFS:Try.prog.funcs[AZI]?=some AUY:=Tryz.func107
abbrev BNX:FuncId:=78
noncomputable abbrev BZO:Func:=Tryz.f78
theorem DEV:Try.prog.funcs[BNX]?=some BZO:=Tryz.func78
abbrev ALU:FuncId:=54
noncomputable abbrev BER:Func:=Tryz.f54
theorem CIO:Try.prog.funcs[ALU]?=some BER:=Tryz.func54
abbrev BWR:FuncId:=45
noncomputable abbrev DCJ:Func:=Tryz.f45
theorem DSI:Try.prog.funcs[BWR]?=some DCJ:=Tryz.func45
abbrev ANN:FuncId:=151
noncomputable abbrev BFH:Func:=Tryz.f151
theorem CJU:Try.prog.funcs[ANN]?=some BFH:=Tryz.func151
abbrev BEE:FuncId:=150
noncomputable abbrev BYL:Func:=Tryz.f150
theorem CVZ:Try.prog.funcs[BEE]?=some BYL:=Tryz.func150
abbrev BMP:FuncId:=149
noncomputable abbrev BXS:Func:=Tryz.f149
theorem DEC:Try.prog.funcs[BMP]?=some BXS:=Tryz.func149
abbrev BJD:FuncId:=19
noncomputable abbrev CKL:Func:=Tryz.f19
theorem DGO:Try.prog.funcs[BJD]?=some CKL:=Tryz.func19
abbrev CKJ:FuncId:=44
noncomputable abbrev CMK:Func:=Tryz.f44
theorem DKH:Try.prog.funcs[CKJ]?=some CMK:=Tryz.func44
abbrev AQE:FuncId:=81
noncomputable abbrev CLD:Func:=Tryz.f81
theorem DKC:Try.prog.funcs[AQE]?=some CLD:=Tryz.func81
abbrev CBR:FuncId:=76
noncomputable abbrev BYV:Func:=Tryz.f76
theorem CYY:Try.prog.funcs[CBR]?=some BYV:=Tryz.func76
abbrev BII:FuncId:=106
noncomputable abbrev CKO:Func:=Tryz.f106
theorem DIJ:Try.prog.funcs[BII]?=some CKO:=Tryz.func106
abbrev CJW:FuncId:=77
noncomputable abbrev CIP:Func:=Tryz.f77
theorem DKN:Try.prog.funcs[CJW]?=some CIP:=Tryz.func77
abbrev AMO:FuncId:=38
noncomputable abbrev BDU:Func:=Tryz.f38
theorem CGT:Try.prog.funcs[AMO]?=some BDU:=Tryz.func38
abbrev n_At:FuncId:=12
noncomputable abbrev F_At:Func:=Tryz.f12
theorem DYL:Try.prog.funcs[n_At]?=some F_At:=Tryz.func12
abbrev AAG:FuncId:=20
noncomputable abbrev BRY:Func:=Tryz.f20
theorem CTO:Try.prog.funcs[AAG]?=some BRY:=Tryz.func20
abbrev BTN:FuncId:=7
noncomputable abbrev BUG:Func:=Tryz.f7
theorem CRS:Try.prog.funcs[BTN]?=some BUG:=Tryz.func7
abbrev C6:FuncId:=82
noncomputable abbrev CAR:Func:=Tryz.f82
theorem CWT:Try.prog.funcs[C6]?=some CAR:=Tryz.func82
abbrev BQQ:FuncId:=93
noncomputable abbrev CIY:Func:=Tryz.f93
theorem DGC:Try.prog.funcs[BQQ]?=some CIY:=Tryz.func93
abbrev CBM:FuncId:=113
noncomputable abbrev BQD:Func:=Tryz.f113
theorem CMY:Try.prog.funcs[CBM]?=some BQD:=Tryz.func113
abbrev BUD:FuncId:=120
noncomputable abbrev BRM:Func:=Tryz.f120
theorem CQU:Try.prog.funcs[BUD]?=some BRM:=Tryz.func120
abbrev ANK:FuncId:=91
noncomputable abbrev BKM:Func:=Tryz.f91
theorem CLA:Try.prog.funcs[ANK]?=some BKM:=Tryz.func91
abbrev Jk:FuncId:=112
noncomputable abbrev pV:Func:=Tryz.f112
theorem AKV:Try.prog.funcs[Jk]?=some pV:=Tryz.func112
abbrev C0:FuncId:=92
noncomputable abbrev BIM:Func:=Tryz.f92
theorem CMD:Try.prog.funcs[C0]?=some BIM:=Tryz.func92
abbrev BSL:FuncId:=84
noncomputable abbrev CLW:Func:=Tryz.f84
theorem DKD:Try.prog.funcs[BSL]?=some CLW:=Tryz.func84
abbrev lO:FuncId:=49
noncomputable abbrev ABI:Func:=Tryz.f49
theorem BVS:Try.prog.funcs[lO]?=some ABI:=Tryz.func49
abbrev BRU:FuncId:=90
noncomputable abbrev BRB:Func:=Tryz.f90
theorem CTJ:Try.prog.funcs[BRU]?=some BRB:=Tryz.func90
-- none: nilometer/rating.Through
abbrev AIF:FuncId:=48
noncomputable abbrev BPH:Func:=Tryz.f48
theorem CTP:Try.prog.funcs[AIF]?=some BPH:=Tryz.func48
abbrev BNE:FuncId:=47
noncomputable abbrev BYM:Func:=Tryz.f47
theorem CUB:Try.prog.funcs[BNE]?=some BYM:=Tryz.func47
abbrev BDK:FuncId:=87
noncomputable abbrev BQY:Func:=Tryz.f87
theorem CTC:Try.prog.funcs[BDK]?=some BQY:=Tryz.func87
abbrev zP:FuncId:=89
noncomputable abbrev BQA:Func:=Tryz.f89
theorem CRY:Try.prog.funcs[zP]?=some BQA:=Tryz.func89
abbrev BSC:FuncId:=88
noncomputable abbrev BRI:Func:=Tryz.f88
theorem CTM:Try.prog.funcs[BSC]?=some BRI:=Tryz.func88
abbrev CJH:FuncId:=24
noncomputable abbrev CJL:Func:=Tryz.f24
theorem DGJ:Try.prog.funcs[CJH]?=some CJL:=Tryz.func24
abbrev zD:FuncId:=46
noncomputable abbrev BRK:Func:=Tryz.f46
theorem CRU:Try.prog.funcs[zD]?=some BRK:=Tryz.func46
abbrev cW:FuncId:=80
noncomputable abbrev BGL:Func:=Tryz.f80
theorem CJD:Try.prog.funcs[cW]?=some BGL:=Tryz.func80
abbrev BJW:FuncId:=83
noncomputable abbrev BGA:Func:=Tryz.f83
theorem CIV:Try.prog.funcs[BJW]?=some BGA:=Tryz.func83
abbrev DDW:FuncId:=79
noncomputable abbrev CVF:Func:=Tryz.f79
theorem DPJ:Try.prog.funcs[DDW]?=some CVF:=Tryz.func79
abbrev CMN:FuncId:=108
noncomputable abbrev CZZ:Func:=Tryz.f108
theorem DRD:Try.prog.funcs[CMN]?=some CZZ:=Tryz.func108
abbrev CCL:FuncId:=117
noncomputable abbrev CIJ:Func:=Tryz.f117
theorem DKO:Try.prog.funcs[CCL]?=some CIJ:=Tryz.func117
abbrev BJF:FuncId:=85
noncomputable abbrev BGW:Func:=Tryz.f85
theorem CMJ:Try.prog.funcs[BJF]?=some BGW:=Tryz.func85
abbrev V1:FuncId:=109
noncomputable abbrev AWA:Func:=Tryz.f109
theorem CDN:Try.prog.funcs[V1]?=some AWA:=Tryz.func109
abbrev CKW:FuncId:=22
noncomputable abbrev CID:Func:=Tryz.f22
theorem DJJ:Try.prog.funcs[CKW]?=some CID:=Tryz.func22
abbrev BYE:FuncId:=23
noncomputable abbrev CCA:Func:=Tryz.f23
theorem CZT:Try.prog.funcs[BYE]?=some CCA:=Tryz.func23
-- none: nilometer/rating.Proves
-- none: nilometer/rating.Proves$1
abbrev CKS:FuncId:=69
noncomputable abbrev CLF:Func:=Tryz.f69
theorem DGL:Try.prog.funcs[CKS]?=some CLF:=Tryz.func69
abbrev Ib:FuncId:=102
noncomputable abbrev CCV:Func:=Tryz.f102
theorem DBI:Try.prog.funcs[Ib]?=some CCV:=Tryz.func102
abbrev CJY:FuncId:=70
noncomputable abbrev CJE:Func:=Tryz.f70
theorem DGE:Try.prog.funcs[CJY]?=some CJE:=Tryz.func70
abbrev Hx:FuncId:=103
noncomputable abbrev CBI:Func:=Tryz.f103
theorem CUU:Try.prog.funcs[Hx]?=some CBI:=Tryz.func103
abbrev BCE:FuncId:=50
noncomputable abbrev BCJ:Func:=Tryz.f50
theorem CHU:Try.prog.funcs[BCE]?=some BCJ:=Tryz.func50
abbrev BNP:FuncId:=94
noncomputable abbrev BBG:Func:=Tryz.f94
theorem CEL:Try.prog.funcs[BNP]?=some BBG:=Tryz.func94
abbrev CAA:FuncId:=68
noncomputable abbrev BPT:Func:=Tryz.f68
theorem COX:Try.prog.funcs[CAA]?=some BPT:=Tryz.func68
abbrev nL:FuncId:=36
noncomputable abbrev BOG:Func:=Tryz.f36
theorem CSS:Try.prog.funcs[nL]?=some BOG:=Tryz.func36
abbrev nC:FuncId:=35
noncomputable abbrev oS:Func:=Tryz.f35
theorem BJS:Try.prog.funcs[nC]?=some oS:=Tryz.func35
abbrev CBW:FuncId:=11
noncomputable abbrev ARV:Func:=Tryz.f11
theorem CAI:Try.prog.funcs[CBW]?=some ARV:=Tryz.func11
-- none: nilometer/rating.Reach
abbrev BPO:FuncId:=51
noncomputable abbrev CJV:Func:=Tryz.f51
theorem DGK:Try.prog.funcs[BPO]?=some CJV:=Tryz.func51
abbrev AYK:FuncId:=52
noncomputable abbrev R7:Func:=Tryz.f52
theorem BMO:Try.prog.funcs[AYK]?=some R7:=Tryz.func52
abbrev BON:FuncId:=25
noncomputable abbrev AFI:Func:=Tryz.f25
theorem BUX:Try.prog.funcs[BON]?=some AFI:=Tryz.func25
abbrev WV:FuncId:=53
noncomputable abbrev BHE:Func:=Tryz.f53
theorem CIF:Try.prog.funcs[WV]?=some BHE:=Tryz.func53
abbrev WW:FuncId:=55
noncomputable abbrev BES:Func:=Tryz.f55
theorem CMC:Try.prog.funcs[WW]?=some BES:=Tryz.func55
abbrev CYE:FuncId:=26
noncomputable abbrev CGU:Func:=Tryz.f26
theorem CZE:Try.prog.funcs[CYE]?=some CGU:=Tryz.func26
abbrev BGB:FuncId:=56
noncomputable abbrev CIB:Func:=Tryz.f56
theorem DHV:Try.prog.funcs[BGB]?=some CIB:=Tryz.func56
abbrev aZ:FuncId:=57
noncomputable abbrev CLH:Func:=Tryz.f57
theorem DJT:Try.prog.funcs[aZ]?=some CLH:=Tryz.func57
abbrev dJ:FuncId:=58
noncomputable abbrev CKX:Func:=Tryz.f58
theorem DHH:Try.prog.funcs[dJ]?=some CKX:=Tryz.func58
-- none: nilometer/rating.Widest
abbrev CJT:FuncId:=6
noncomputable abbrev CLN:Func:=Tryz.f6
theorem DIF:Try.prog.funcs[CJT]?=some CLN:=Tryz.func6
abbrev DDD:FuncId:=5
noncomputable abbrev CXO:Func:=Tryz.f5
theorem DRF:Try.prog.funcs[DDD]?=some CXO:=Tryz.func5
abbrev CJR:FuncId:=9
noncomputable abbrev CJJ:Func:=Tryz.f9
theorem DFO:Try.prog.funcs[CJR]?=some CJJ:=Tryz.func9
abbrev CBA:FuncId:=16
noncomputable abbrev CKY:Func:=Tryz.f16
theorem DJU:Try.prog.funcs[CBA]?=some CKY:=Tryz.func16
abbrev BOS:FuncId:=15
noncomputable abbrev BUL:Func:=Tryz.f15
theorem CSB:Try.prog.funcs[BOS]?=some BUL:=Tryz.func15
-- none: nilometer/nilometerkit.Mixed
-- none: nilometer/nilometerkit.Copy[nilometer/rating.Gauging]
-- none: nilometer/nilometerkit.Copy[int]
-- none: nilometer/nilometerkit.Copy[nilometer/rating.Line]
abbrev BNW:FuncId:=14
noncomputable abbrev CAB:Func:=Tryz.f14
theorem DDP:Try.prog.funcs[BNW]?=some CAB:=Tryz.func14
abbrev BXJ:FuncId:=13
noncomputable abbrev CBO:Func:=Tryz.f13
theorem DAQ:Try.prog.funcs[BXJ]?=some CBO:=Tryz.func13
abbrev CDG:FuncId:=8
noncomputable abbrev BXW:Func:=Tryz.f8
theorem DBU:Try.prog.funcs[CDG]?=some BXW:=Tryz.func8
abbrev BYH:FuncId:=21
noncomputable abbrev CCD:Func:=Tryz.f21
theorem DCV:Try.prog.funcs[BYH]?=some CCD:=Tryz.func21
abbrev AXG:FuncId:=27
noncomputable abbrev AWC:Func:=Tryz.f27
theorem CDY:Try.prog.funcs[AXG]?=some AWC:=Tryz.func27
-- none: nilometer/nilometerlaw04.RatingRises
-- none: nilometer/nilometerlaw04.RatingScaled
-- none: nilometer/nilometerlaw04.RatingMore
-- none: nilometer/nilometerlaw04.RatingFewest
-- none: nilometer/nilometerlaw04.RatingPassed
-- none: nilometer/nilometerlaw04.RatingReached
-- none: nilometer/rating.Has
-- none: nilometer/nilometerref04.outside
-- none: nilometer/nilometerref04.Check
-- none: nilometer/nilometerref04.broken
-- none: nilometer/nilometerref04.crooked
-- none: nilometer/nilometerref04.CheckRating
-- none: nilometer/nilometerref04.low
-- none: nilometer/nilometerref04.below
-- none: nilometer/nilometerref04.had
-- none: nilometer/nilometerref04.kept
-- none: nilometer/nilometerref04.Has
-- none: nilometer/nilometerref04.Part
-- none: nilometer/nilometerref04.At
-- none: nilometer/nilometerref04.Passes
-- none: nilometer/nilometerlaw04.Gaugings
-- none: nilometer/nilometerlaw04.line
-- none: nilometer/nilometerlaw04.model
-- none: nilometer/nilometerkit.Same[nilometer/rating.Gauging]
-- none: nilometer/nilometerkit.Same[int]
-- none: nilometer/nilometerkit.Same[nilometer/rating.Line]
-- none: nilometer/nilometerlaw04.RatingLines
-- none: nilometer/nilometerref04.asked
-- none: nilometer/nilometerref04.Passable
-- none: nilometer/nilometerref04.inside
-- none: nilometer/nilometerref04.sorted
-- none: nilometer/nilometerref04.three
-- none: nilometer/nilometerref04.pair
-- none: nilometer/nilometerref04.beyond
-- none: nilometer/nilometerref04.flow
-- none: nilometer/nilometerref04.Flow
-- none: nilometer/nilometerref04.Reaches
-- none: nilometer/nilometerref04.Stages
-- none: nilometer/nilometerref04.Dry
-- none: nilometer/nilometerref04.Widest
-- none: nilometer/nilometerref04.Through
-- none: nilometer/nilometerref04.Parts
-- none: nilometer/nilometerref04.unnamed
-- none: nilometer/nilometerref04.tied
-- none: nilometer/nilometerref04.Knot
-- none: nilometer/nilometerref04.Proves
-- none: nilometer/nilometerkit.CopyLists[int]
-- none: nilometer/nilometerkit.SameLists[int]
-- none: nilometer/nilometerlaw04.RatingParts
-- none: nilometer/nilometerlaw04.RatingFlows
-- none: nilometer/nilometerlaw04.RatingSmall
abbrev BOI:FuncId:=3
noncomputable abbrev ATT:Func:=Tryz.f3
theorem CFO:Try.prog.funcs[BOI]?=some ATT:=Tryz.func3
end Go.Bal

namespace Go.Bal
open Go Go.Sym Go.Proofs
structure Gau where
 st:Int
 lo:Int
 hi:Int
 deriving Inhabited,DecidableEq
structure Pt where
 st:Int
 fl:Int
 deriving Inhabited,DecidableEq
structure Ln where
 a0:Int
 a1:Int
 b0:Int
 b1:Int
 deriving Inhabited,DecidableEq
structure Rt where
 n:Int
 d:Int
 deriving Inhabited,DecidableEq
structure Bnd where
 lo:Rt
 hi:Rt
 deriving Inhabited,DecidableEq
structure Rtg where
 b:List Int
 l:List Ln
 deriving Inhabited,DecidableEq
def eGau(g:Gau):DVal:=.agg [JS g.st,JS g.lo,JS g.hi]
def ePt(p:Pt):DVal:=.agg [JS p.st,JS p.fl]
def eLn(x:Ln):DVal:=.agg [JS x.a0,JS x.a1,JS x.b0,JS x.b1]
def eRt(r:Rt):DVal:=.agg [JS r.n,JS r.d]
def eBnd(b:Bnd):DVal:=.agg [JS b.lo.n,JS b.lo.d,JS b.hi.n,JS b.hi.d]
def KZ(l:List Gau):DVal:=lst 3 l.length λi=>eGau (gD l i)
def ePts(l:List Pt):DVal:=lst 2 l.length λi=>ePt (gD l i)
def eLns(l:List Ln):DVal:=lst 4 l.length λi=>eLn (gD l i)
def eRtg(r:Rtg):DVal:=.agg [FE r.b,eLns r.l]
def qG:DVal->Gau
 | .agg [a,b,c]=>⟨EO a,EO b,EO c⟩
 |_=>default
def dPt:DVal->Pt
 | .agg [a,b]=>⟨EO a,EO b⟩
 |_=>default
def dLn:DVal->Ln
 | .agg [a,b,c,d]=>⟨EO a,EO b,EO c,EO d⟩
 |_=>default
def dRt:DVal->Rt
 | .agg [a,b]=>⟨EO a,EO b⟩
 |_=>default
theorem CVS(g:Gau):qG (eGau g)=g:=rfl
theorem DON(g:Pt):dPt (ePt g)=g:=rfl
theorem DLS(g:Ln):dLn (eLn g)=g:=rfl
theorem DNM(g:Rt):dRt (eRt g)=g:=rfl
def BLF(a:AVal)(H:Heap):Option (List Gau×List Nat):=match vE a H with
 |some (n,g,f)=>some (KA n λi=>qG (g i),f)
 |none=>none
def dPts(a:AVal)(H:Heap):Option (List Pt×List Nat):=match vE a H with
 |some (n,g,f)=>some (KA n λi=>dPt (g i),f)
 |none=>none
def dLns(a:AVal)(H:Heap):Option (List Ln×List Nat):=match vE a H with
 |some (n,g,f)=>some (KA n λi=>dLn (g i),f)
 |none=>none
def dRtg:AVal->Heap->Option (Rtg×List Nat)
 | .d (.agg [.list _ n f _,.list _ m g _]),_=>some (⟨KA n λi=>EO (f i),KA m λi=>dLn (g i)⟩,[])
 | .agg [a,b],H=>match W2 a H,dLns b H with
  |some (x,f1),some (y,f2)=>some (⟨x,y⟩,f1 ++ f2)
  |_,_=>none
 |_,_=>none
def pD{α:Type}(dec:List AVal->Option α)(val:α->AVal)(pre:α->List Prop:=λ_=>[]):Sym.Spec:=yR λxs=>match dec xs with
 |some a=>some (val a,pre a)
 |none=>none
theorem Hv{α:Type}{g:FuncId}{dec:List AVal->Option α}{val:α->AVal}{pre:α->List Prop}(enc:α->List AVal)(hde:∀xs a,dec xs=some a->xs=enc a)(h:∀a,EL (pre a)->FnT Try.prog g (enc a) (AF []) (val a) []):AM Try.prog g (pD dec val pre):=sE λxs v p hf hp=>by
 split at hf
 ·rename_i a ha
  cases hf
  rw[hde xs a ha];exact h a hp
 ·cases hf
def dI1:List AVal->Option Int
 |[.d (.v (.int .i64 a))]=>some a
 |_=>none
def xI1(a:Int):List AVal:=[.int a]
theorem hI1(xs:List AVal)(a:Int)(h:dI1 xs=some a):xs=xI1 a:=by
 unfold dI1 at h;split at h<;>cases h;rfl
structure I2 where
 a:Int
 b:Int
structure I3 where
 a:Int
 b:Int
 c:Int
def dI2:List AVal->Option I2
 |[.d (.v (.int .i64 a)),.d (.v (.int .i64 b))]=>some ⟨a,b⟩
 |_=>none
def xI2(x:I2):List AVal:=[.int x.a,.int x.b]
theorem hI2(xs:List AVal)(a:I2)(h:dI2 xs=some a):xs=xI2 a:=by
 unfold dI2 at h;split at h<;>cases h;rfl
def dI3:List AVal->Option I3
 |[.d (.v (.int .i64 a)),.d (.v (.int .i64 b)),.d (.v (.int .i64 c))]=>some ⟨a,b,c⟩
 |_=>none
def xI3(x:I3):List AVal:=[.int x.a,.int x.b,.int x.c]
theorem hI3(xs:List AVal)(a:I3)(h:dI3 xs=some a):xs=xI3 a:=by
 unfold dI3 at h;split at h<;>cases h;rfl
def dG1:List AVal->Option Gau
 |[.d (.agg [.v (.int .i64 a),.v (.int .i64 b),.v (.int .i64 c)])]=>some ⟨a,b,c⟩
 |_=>none
def xG1(g:Gau):List AVal:=[.d (eGau g)]
theorem hG1(xs:List AVal)(a:Gau)(h:dG1 xs=some a):xs=xG1 a:=by
 unfold dG1 at h;split at h<;>cases h;rfl
def dP1:List AVal->Option Pt
 |[.d (.agg [.v (.int .i64 a),.v (.int .i64 b)])]=>some ⟨a,b⟩
 |_=>none
def xP1(g:Pt):List AVal:=[.d (ePt g)]
theorem hP1(xs:List AVal)(a:Pt)(h:dP1 xs=some a):xs=xP1 a:=by
 unfold dP1 at h;split at h<;>cases h;rfl
def dL1:List AVal->Option Ln
 |[.d (.agg [.v (.int .i64 a),.v (.int .i64 b),.v (.int .i64 c),.v (.int .i64 d)])]=>some ⟨a,b,c,d⟩
 |_=>none
def xL1(g:Ln):List AVal:=[.d (eLn g)]
theorem hL1(xs:List AVal)(a:Ln)(h:dL1 xs=some a):xs=xL1 a:=by
 unfold dL1 at h;split at h<;>cases h;rfl
structure LnI where
 x:Ln
 s:Int
def dLI:List AVal->Option LnI
 |[.d (.agg [.v (.int .i64 a),.v (.int .i64 b),.v (.int .i64 c),.v (.int .i64 d)]),.d (.v (.int .i64 s))]=>some ⟨⟨a,b,c,d⟩,s⟩
 |_=>none
def xLI(a:LnI):List AVal:=[.d (eLn a.x),.int a.s]
theorem hLI(xs:List AVal)(a:LnI)(h:dLI xs=some a):xs=xLI a:=by
 unfold dLI at h;split at h<;>cases h;rfl
structure LnG where
 x:Ln
 g:Gau
def dLG:List AVal->Option LnG
 |[.d (.agg [.v (.int .i64 a),.v (.int .i64 b),.v (.int .i64 c),.v (.int .i64 d)]),.d (.agg [.v (.int .i64 p),.v (.int .i64 q),.v (.int .i64 r)])]=>some ⟨⟨a,b,c,d⟩,⟨p,q,r⟩⟩
 |_=>none
def xLG(a:LnG):List AVal:=[.d (eLn a.x),.d (eGau a.g)]
theorem hLG(xs:List AVal)(a:LnG)(h:dLG xs=some a):xs=xLG a:=by
 unfold dLG at h;split at h<;>cases h;rfl
def dR1:List AVal->Option Rt
 |[.d (.agg [.v (.int .i64 a),.v (.int .i64 b)])]=>some ⟨a,b⟩
 |_=>none
def xR1(g:Rt):List AVal:=[.d (eRt g)]
theorem hR1(xs:List AVal)(a:Rt)(h:dR1 xs=some a):xs=xR1 a:=by
 unfold dR1 at h;split at h<;>cases h;rfl
def dR2:List AVal->Option Bnd
 |[.d (.agg [.v (.int .i64 a),.v (.int .i64 b)]),.d (.agg [.v (.int .i64 c),.v (.int .i64 d)])]=>some ⟨⟨a,b⟩,⟨c,d⟩⟩
 |_=>none
def xR2(g:Bnd):List AVal:=[.d (eRt g.lo),.d (eRt g.hi)]
theorem hR2(xs:List AVal)(a:Bnd)(h:dR2 xs=some a):xs=xR2 a:=by
 unfold dR2 at h;split at h<;>cases h;rfl
def orS(s t:Sym.Spec):Sym.Spec:=λxs H r=>match s xs H r with
 |some x=>some x
 |none=>t xs H r
theorem BEQ{g:FuncId}{s t:Sym.Spec}(h1:AM Try.prog g s)(h2:AM Try.prog g t):AM Try.prog g (orS s t):=λxs H r x hx hp=>by
 unfold orS at hx
 split at hx
 ·rename_i y hy;cases hx;exact h1 xs H r _ hy hp
 ·exact h2 xs H r x hx hp
theorem mulb{a b A B:Int}(h1:0<=a)(h2:a<=A)(h3:0<=b)(h4:b<=B):0<=a*b/\a*b<=A*B:=
 ⟨Int.mul_nonneg h1 h3,Int.mul_le_mul h2 h4 h3 (by omega)⟩
theorem DVB{a b A B:Int}(h1:-A<=a)(h2:a<=A)(h3:-B<=b)(h4:b<=B):-(A*B)<=a*b/\a*b<=A*B:=by
 have hA:0<=A:=by omega
 have hB:0<=B:=by omega
 rcases Int.le_total 0 a with ha | ha<;>rcases Int.le_total 0 b with hb | hb
 ·have:=mulb ha h2 hb h4
  have:0<=A*B:=Int.mul_nonneg hA hB
  omega
 ·have:=mulb ha h2 (show 0 <= -b by omega) (show -b<=B by omega)
  rw[Int.mul_neg] at this
  have:0<=A*B:=Int.mul_nonneg hA hB
  omega
 ·have:=mulb (show 0 <= -a by omega) (show -a<=A by omega) hb h4
  rw[Int.neg_mul] at this
  have:0<=A*B:=Int.mul_nonneg hA hB
  omega
 ·have:=mulb (show 0 <= -a by omega) (show -a<=A by omega) (show 0 <= -b by omega) (show -b<=B by omega)
  rw[Int.neg_mul_neg] at this
  have:0<=A*B:=Int.mul_nonneg hA hB
  omega
theorem CC:((∀{b:Bool} {p q:Prop},(bif b then p else q)=((b=true->p)/\(b=false->q)))/\(∀(p:Prop),(p/\p)=p)/\(∀(p:Prop),(True/\p)=p)/\(∀(p:Prop),(p/\True)=p)/\(∀(p:Prop),(True->p)=p)/\(∀{p:Prop} [inst:Decidable p],(decide p=true)=p)/\(∀{p:Prop} {x:Decidable p},decide p=false↔¬p))/\(∀(n:Nat),(n:Int).toNat=n)/\(∀(s:Span),Ty (TF s)=s)/\(∀(n:Int),EO (JS n)=n)/\(∀(g:Gau),qG (eGau g)=g)/\(∀(g:Pt),dPt (ePt g)=g)/\(∀(g:Ln),dLn (eLn g)=g)/\(∀(g:Rt),dRt (eRt g)=g)/\(∀(n:Nat),0+n=n)/\(∀(a:Int),0-a=-a)/\(∀{x y:Nat},x.le y=(x<=y))/\(∀(n:Nat),n.succ=n+1)/\(∀{n m:Nat},n+1<=m↔n<m)/\(∀(b:Bool),((!b)=true)=(b=false))/\(∀(b:Bool),((!b)=false)=(b=true))/\(∀{α:Type} (n:Nat) (f:Nat->α),(KA n f).length=n)/\(∀(a b:Int),Ty (.agg [JS a,JS b])=⟨a,b⟩)/\(∀{α:Type} [Inhabited α] (l:List α),(KA l.length λi=>gD l i)=l):=⟨⟨CGX,and_self,true_and,and_true,true_implies,decide_eq_true_eq,decide_eq_false_iff_not⟩,Int.toNat_natCast,dSpan_eSpan,dInt_eInt,CVS,DON,DLS,DNM,Nat.zero_add,Int.zero_sub,Nat.le_eq,Nat.succ_eq_add_one,Nat.add_one_le_iff,Bool.not_eq_true',Bool.not_eq_false',rng_length,CER,RI⟩
end Go.Bal
namespace Go.Bal.DL
open Go.Sym Go
theorem g1(s:Gau):qG (eGau s)=s:=rfl
theorem g2(s:Pt):dPt (ePt s)=s:=rfl
theorem g3(s:Ln):dLn (eLn s)=s:=rfl
theorem g4(s:Rt):dRt (eRt s)=s:=rfl
theorem h1(a b c:Int):qG (.agg [JS a,JS b,JS c])=Gau.mk a b c:=rfl
theorem h2(a b:Int):dPt (.agg [JS a,JS b])=Pt.mk a b:=rfl
theorem h3(a b c d:Int):dLn (.agg [JS a,JS b,JS c,JS d])=Ln.mk a b c d:=rfl
theorem h4(a b:Int):dRt (.agg [JS a,JS b])=Rt.mk a b:=rfl
theorem k1(s:Gau):Gau.mk s.st s.lo s.hi=s:=rfl
theorem k2(s:Pt):Pt.mk s.st s.fl=s:=rfl
theorem k3(s:Ln):Ln.mk s.a0 s.a1 s.b0 s.b1=s:=rfl
theorem k4(s:Rt):Rt.mk s.n s.d=s:=rfl
end Go.Bal.DL
