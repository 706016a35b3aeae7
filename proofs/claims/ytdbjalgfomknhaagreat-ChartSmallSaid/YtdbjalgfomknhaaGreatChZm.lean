/- Package chart, with the reference: Proves. -/
import Derived.Test.YtdbjalgfomknhaaGreatChZm0
import Derived.Test.YtdbjalgfomknhaaGreatChZw
import Derived.Test.YtdbjalgfomknhaaGreatChSt
set_option linter.unusedVariables false
set_option linter.unusedSimpArgs false
namespace Go.Bal
open Go Go.Sym Go.Proofs
def zvO(x:Prv):Prop:=AP x.c=0/\x.l.length<=40/\∀i,i<x.l.length->Ca x.c (gD x.l i)=true
def zvS(x:Prv):List (Nat×AVal):=[(1,.int x.m),(2,.d (aZ x.l)),(3,.bptr 201 0)]
def zvH(x:Prv):List (Nat×HCell):=[(201,.live (xO x.c))]
def zv7(x:Prv):Shape:={ α:=Nat,dflt:=0,T:=λk=>⟨zvS x ++ [(9,.int k)],zvH x⟩,inv:=λk=>(k<=x.l.length/\AP x.c=0/\x.l.length<=40)/\∀i,i<k->Ca x.c (gD x.l i)=true,meas:=λk=>x.l.length-k,first:=[(201,1000)] }
def zv12(x:Prv):Shape:={ α:=Nat,dflt:=0,T:=λk=>⟨zvS x ++ [(10,.int k)],zvH x⟩,inv:=λk=>(k<=x.l.length/\zvO x)/\pvK x k=true,meas:=λk=>x.l.length-k }
def zv17(x:Prv)(m:Nat):Shape:={ α:=IJ,dflt:=default,T:=λs=>⟨zvS x ++ [(10,.int s.i),(11,.int s.j)],zvH x⟩,inv:=λs=>(s.i<x.l.length/\x.l.length-s.i=m/\s.j<=s.i/\zvO x)/\(pvK x s.i=true/\Eg x.c (gD x.l s.i)=true)/\∀k,k<s.j->disP x k s.i,meas:=λs=>s.i-s.j }
def CGF(x:Prv):Ann:={ ann 98 [(Wd,C_Check.spec iT),(yR,C_zNoP.spec dCP),(ADF,C_zLt.spec dCP)] with loops:=λid=>if id=7 then some [zv7 x] else if id=12 then some [zv12 x] else none,inner:=λgs id=>if id=17 then some [zv17 x (gs.getD 0 0)] else none }
def CEQ(x:Prv):Prop:=ES Try.prog (CGF x) AQU (AJ AQU) (xPrv x) (AD []) (.tup [.bool (Jb x).1,.int (Jb x).2]) [] [] []
abbrev R4(x:Prv):Prop:=x.c.p.lo=x.c.p.lo
abbrev P8(x:Prv):Prop:=x.c.p.hi=x.c.p.hi
abbrev AKQ(x:Prv):List Mk:=NK x.c.ms.length λ(i:Nat)=>gD x.c.ms i
abbrev AKK(x:Prv):Nat:=(AKQ x).length
abbrev ALB(x:Prv):Prop:=AKK x=x.c.ms.length
abbrev AYK(x:Prv)(i:Nat):Mk:=gD (AKQ x) i
abbrev AIU(x:Prv):Prop:=∀(i:Nat),i<AKK x->(AYK x i).pl=(gD x.c.ms i).pl/\(AYK x i).ht=(gD x.c.ms i).ht
abbrev ALG(x:Prv):List Nt:=NK x.c.ns.length λ(i:Nat)=>gD x.c.ns i
abbrev ALI(x:Prv):Nat:=(ALG x).length
abbrev AKW(x:Prv):Prop:=ALI x=x.c.ns.length
abbrev AAW(x:Prv)(i:Nat):Nt:=gD (ALG x) i
abbrev ATA(x:Prv)(i:Nat):Span:=(AAW x i).t
abbrev AOP(x:Prv)(i:Nat):Span:=(AAW x i).s
abbrev AAB(x:Prv):Prop:=∀(i:Nat),i<ALI x->(AAW x i).mi=(gD x.c.ns i).mi/\(ATA x i).lo=(gD x.c.ns i).t.lo/\(ATA x i).hi=(gD x.c.ns i).t.hi/\(AOP x i).lo=(gD
 x.c.ns i).s.lo/\(AOP x i).hi=(gD x.c.ns i).s.hi
abbrev AAH(x:Prv):Cht:=Cht.mk x.c.p x.c.base x.c.scale x.c.off (AKQ x) (ALG x)
abbrev ADO(x:Prv):Int:=AP (AAH x)
abbrev nH(x:Prv):Prop:=x.l.length=x.l.length
abbrev ACU(x:Prv)(i:Nat):Prop:=(gD x.l i).a=(gD x.l i).a
abbrev ADP(x:Prv)(i:Nat):Prop:=(gD x.l i).b=(gD x.l i).b
abbrev mZ(x:Prv):Prop:=∀(i:Nat),i<x.l.length->ACU x i/\ADP x i
abbrev mY(x:Prv):Prop:=R4 x/\P8 x/\x.c.base=x.c.base/\x.c.scale=x.c.scale/\x.c.off=x.c.off/\x.c.ms.length=x.c.ms.length/\(∀(i:Nat),i<x.c.ms.length->(gD x.c.ms i).pl=(gD
 x.c.ms i).pl/\(gD x.c.ms i).ht=(gD x.c.ms i).ht)/\x.c.ns.length=x.c.ns.length/\∀(i:Nat),i<x.c.ns.length->(gD x.c.ns i).mi=(gD x.c.ns i).mi/\(gD x.c.ns i).t.lo=(gD x.c.ns i).t.lo/\(gD x.c.ns i).t.hi =
 (gD x.c.ns i).t.hi/\(gD x.c.ns i).s.lo=(gD x.c.ns i).s.lo/\(gD x.c.ns i).s.hi=(gD x.c.ns i).s.hi
abbrev ARI(x:Prv)(a:Nat):Prop:=x.m=x.m/\nH x/\mZ x/\(↑a:Int)=0/\mY x
abbrev AOU(x:Prv):Prop:=AP x.c=0
abbrev AQV(x:Prv):Prop:=x.l.length<=40
abbrev APA(x:Prv)(i:Nat):Prop:=Ca x.c (gD x.l i)=true
abbrev ABD(a:Nat)(x:Prv):Prop:=(a<=x.l.length/\AOU x/\AQV x)/\∀(i:Nat),i<a->APA x i
abbrev AMQ(a:Nat)(x:Prv):Prop:=(↑a:Int)<(↑x.l.length:Int)
abbrev ARW(a:Nat)(x:Prv):Bool:=decide (AMQ a x)
abbrev APD(a:Nat)(x:Prv):Prop:=0<=(↑a:Int)/\AMQ a x
abbrev ARU(x:Prv):Prop:=ADO x=0
abbrev ARY(x:Prv)(a:Nat):Bool:=Ca (AAH x) (gD x.l a)
abbrev ADI(x:Prv)(a:Nat):Nat:=x.l.length-a
abbrev ANC(x:Prv)(a:Nat)(a1:Nat):Prop:=ADI x a<ADI x a1
abbrev AOQ(x:Prv):Prop:=AOU x/\AQV x/\∀(i:Nat),i<x.l.length->APA x i
abbrev ACQ(a:Nat)(x:Prv):Prop:=(a<=x.l.length/\AOQ x)/\pvK x a=true
abbrev ARH(x:Prv):Prop:=(Jb x).snd=0
abbrev AQB(x:Prv):Prop:=(Jb x).fst=false/\ARH x
abbrev ABU(a:IJ)(x:Prv)(a1:Nat):Prop:=(a.i<x.l.length/\x.l.length-a.i=ADI x a1/\a.j<=a.i/\AOQ x)/\(pvK x a.i=true/\Eg x.c (gD x.l a.i)=true)/\∀(k:Nat),k<a.j->∀(i
 : Nat),¬((Qt x k<=(↑i:Int)/\(↑i:Int)<pvB x k)/\Qt x a.i<=(↑i:Int)/\(↑i:Int)<pvB x a.i)
abbrev ARF(a:IJ)(x:Prv):Prop:=0<=(↑a.i:Int)/\(↑a.i:Int)<(↑x.l.length:Int)
abbrev ANQ(a:IJ)(x:Prv):Prop:=0<=(↑a.j:Int)/\(↑a.j:Int)<(↑x.l.length:Int)
abbrev ATR(x:Prv)(a:IJ):Bool:=decide ((gD x.c.ns (gD x.l a.i).a.toNat).mi<(gD x.c.ns (gD x.l a.j).b.toNat).mi)
abbrev xT(x:Prv)(a:IJ):Prop:=ATR x a=true
abbrev AMV(a:IJ):Nat:=a.i-a.j
theorem CMK(x:Prv):(CEQ x)=((R4 x/\P8 x/\x.c.base=x.c.base/\x.c.scale=x.c.scale/\x.c.off=x.c.off/\ALB x/\AIU x/\AKW x/\AAB x/\AKK x<4611686018427387904
 /\ ALI x<4611686018427387904)/\bif ADO x != 0 then (Jb x).fst=false/\(Jb x).snd=ADO x else bif decide ((↑x.l.length:Int)>40) then (Jb x).fst=false/\(Jb x).snd=3 else (∃(a :
 Nat),ARI x a/\ABD a x)/\∀(a:Nat),ABD a x->bif ARW a x then (APD a x/\R4 x/\P8 x/\x.c.base=x.c.base/\x.c.scale=x.c.scale/\x.c.off=x.c.off/\ALB x /\
 AIU x/\AKW x/\AAB x/\ACU x a/\ADP x a/\ARU x)/\bif !ARY x a then (Jb x).fst=false/\(Jb x).snd=2 else ∃(a_2:Nat),(x.m=x.m/\nH x/\mZ x/\(↑a_2
 : Int)=IntKind.i64.wrap ((↑a:Int)+1)/\mY x)/\ABD a_2 x/\ANC x a_2 a else (∃(a:Nat),ARI x a/\ACQ a x)/\∀(a:Nat),ACQ a x->bif ARW a x then (APD a x /\
 R4 x/\P8 x/\x.c.base=x.c.base/\x.c.scale=x.c.scale/\x.c.off=x.c.off/\ALB x/\AIU x/\AKW x/\AAB x/\ACU x a/\ADP x a/\ARU x/\ARY x a=true)/\bif
 !Eg (AAH x) (gD x.l a) then AQB x else (∃(a_3:IJ),(x.m=x.m/\nH x/\mZ x/\(↑a_3.i:Int)=(↑a:Int)/\(↑a_3.j:Int)=0/\mY x)/\ABU a_3 x a)/\∀(a_3:IJ),ABU
 a_3 x a->bif decide ((↑a_3.j:Int)<(↑a_3.i:Int)) then (ARF a_3 x/\(0<=(gD x.l a_3.i).a/\(gD x.l a_3.i).a<(↑x.c.ns.length:Int))/\ANQ a_3 x/\(0<=(gD x.l a_3.j).b/\(gD x.l a_3.j).b <
 (↑x.c.ns.length:Int))/\(xT x a_3->ANQ a_3 x)/\(xT x a_3->0<=(gD x.l a_3.j).a/\(gD x.l a_3.j).a<(↑x.c.ns.length:Int))/\(xT x a_3->ARF a_3 x)/\(xT x a_3->0<=(gD x.l
 a_3.i).b/\(gD x.l a_3.i).b<(↑x.c.ns.length:Int)))/\bif bif ATR x a_3 then decide ((gD x.c.ns (gD x.l a_3.j).a.toNat).mi<(gD x.c.ns (gD x.l a_3.i).b.toNat).mi) else false then AQB x else ∃(a_5:IJ),
 (x.m=x.m/\nH x/\mZ x/\(↑a_5.i:Int)=(↑a_3.i:Int)/\(↑a_5.j:Int)=IntKind.i64.wrap ((↑a_3.j:Int)+1)/\mY x)/\ABU a_5 x a/\AMV a_5<AMV a_3 else ∃(a_5:Nat),
 (x.m=x.m/\nH x/\mZ x/\(↑a_5:Int)=IntKind.i64.wrap ((↑a_3.i:Int)+1)/\mY x)/\ACQ a_5 x/\ANC x a_5 a else (Jb x).fst=decide ((↑x.l.length:Int)>=x.m)/\ARH x):=
 by kernel_rfl
theorem BZS(x:Prv){k:Nat}(h:pvK x (k+1)=false):∀n,k<n->pvK x n=false
 |0,hn=>absurd hn (Nat.not_lt_zero _)
 |n+1,hn=>by
  by_cases e:k=n
  ·subst e;exact h
  ·show (pvK x n&&_&&_)=false
   rw[BZS x h n (by omega)];rfl
theorem BIU{x:Prv}(h:zvO x):Jb x=(pvK x x.l.length&&decide ((x.l.length:Int)>=x.m),0):=by
 obtain⟨h0,h1,h2⟩:=h
 unfold Jb Ub
 have e:(x.l.all λp=>Ca x.c p)=true:=List.all_eq_true.2 λp hp=>by obtain⟨i,hi,rfl⟩:=Df hp;exact h2 i hi
 rw[h0,decide_eq_false (show ¬ (x.l.length:Int)>40 by omega),e];rfl
theorem BUM{x:Prv}(h:zvO x){i:Nat}(hi:i<x.l.length):((0<=(gD x.l i).a/\(gD x.l i).a<x.c.ns.length)/\0<=(gD x.l i).b/\(gD x.l i).b<x.c.ns.length)/\0<=Qt x i/\Qt x i<pvB x i:=by
 have hc:=KB.1 h.1
 obtain⟨q1,q2⟩:=BRT (x:=⟨x.c,gD x.l i⟩) h.1 (h.2.2 i hi)
 have q1:(0<=(gD x.l i).a/\(gD x.l i).a<x.c.ns.length)/\0<=(gD x.l i).b/\(gD x.l i).b<x.c.ns.length:=q1
 have m:=(hc.nt _ (show nA x.c (gD x.l i)∈x.c.ns from OH (by omega))).mi
 exact⟨q1,m.1,q2⟩
theorem CYD(x:Prv)(h:x.c.ms.length<4611686018427387904/\x.c.ns.length<4611686018427387904/\x.l.length<4611686018427387904):CEQ x:=by
 rw[CMK];delta R4 P8 AKQ AKK ALB AYK AIU ALG ALI AKW AAW ATA AOP AAB AAH ADO nH ACU ADP mZ mY ARI AOU AQV APA ABD AMQ ARW APD ARU ARY ADI ANC AOQ ACQ ARH AQB ABU ARF ANQ ATR xT AMV;simp only[CC,eq_self,implies_true,forall_const,FR]
 refine⟨⟨h.1,h.2.1⟩,λq=>?_,λq=>?_⟩
 ·have q':(AP x.c==0)=false:=by simpa using q
  unfold Jb;rw[q'];exact⟨rfl,rfl⟩
 have h0:AP x.c=0:=by simpa using q
 have e0:Jb x=Ub x:=by unfold Jb;rw[h0];rfl
 refine⟨λhl=>?_,λhl=>⟨⟨0,rfl,⟨Nat.zero_le _,h0,by omega⟩,λi hi=>absurd hi (Nat.not_lt_zero _)⟩,λk ⟨⟨k1,_,k3⟩,k4⟩=>⟨λhlt=>⟨⟨by omega,h0⟩,λhp=>?_,λhp=>⟨k+1,(II (by omega)).symm,⟨⟨by omega,h0,k3⟩,λi hi=>?_⟩,by omega⟩⟩,λhge=>?_⟩⟩⟩
 ·rw[e0];unfold Ub;rw[decide_eq_true (show (x.l.length:Int)>40 by omega)];exact⟨rfl,rfl⟩
 ·have e:(x.l.all λp=>Ca x.c p)=false:=by
   cases q:(x.l.all λp=>Ca x.c p) with
   |false=>rfl
   |true=>
    have:=List.all_eq_true.1 q (gD x.l k) (OH (by omega))
    rw[hp] at this;cases this
  rw[e0];unfold Ub;rw[decide_eq_false (show ¬ (x.l.length:Int)>40 by omega),e];exact⟨rfl,rfl⟩
 ·by_cases e:i=k
  ·subst e;exact hp
  ·exact k4 i (by omega)
 have hz:zvO x:=⟨h0,k3,λi hi=>k4 i (by omega)⟩
 have nn:∀n,n<=x.l.length->∀k,k<n->0<=Qt x k:=λn hn k hk=>(BUM hz (by omega)).2.1
 have bad:∀k,k<x.l.length->pvK x (k+1)=false->(Jb x).1=false/\(Jb x).2=0:=λk hk hb=>by
  rw[BIU hz,BZS x hb _ hk];exact⟨rfl,rfl⟩
 refine⟨⟨0,rfl,⟨Nat.zero_le _,hz⟩,rfl⟩,λk ⟨⟨k1,_⟩,k5⟩=>⟨λhlt=>⟨⟨by omega,h0,hz.2.2 k (by omega)⟩,λhp=>?_,λhp=>⟨⟨⟨k,0⟩,⟨rfl,rfl⟩,⟨by show k<_;omega,rfl,Nat.zero_le _,hz⟩,⟨k5,hp⟩,λj hj=>absurd hj (Nat.not_lt_zero _)⟩,λs ⟨⟨s1,s2,s3,_⟩,⟨s4,s5⟩,s6⟩=>⟨λhj=>?_,λhj=>?_⟩⟩⟩,λhge=>?_⟩⟩
 ·refine bad k (by omega) ?_
  show (pvK x k&&Eg x.c (gD x.l k)&&_)=false
  rw[hp,Bool.and_false];rfl
 ·have hj:s.j<s.i:=by omega
  obtain⟨a1,a2⟩:=BUM hz s1
  obtain⟨a3,a4⟩:=BUM hz (show s.j<x.l.length by omega)
  have di:=COC a4 a2
  refine⟨⟨by omega,by omega,by omega,by omega,λ_=>by omega,λ_=>by omega,λ_=>by omega,λ_=>by omega⟩,λhb=>?_,λhb=>⟨⟨s.i,s.j+1⟩,⟨rfl,(II (by omega)).symm⟩,⟨⟨s1,s2,by show s.j+1<=s.i;omega,hz⟩,⟨s4,s5⟩,λj hj2=>?_⟩,by show s.i-(s.j+1)<s.i-s.j;omega⟩⟩
  ·have hb2:Qt x s.i<pvB x s.j/\Qt x s.j<pvB x s.i:=by
    by_cases q1:(gD x.c.ns (gD x.l s.i).a.toNat).mi<(gD x.c.ns (gD x.l s.j).b.toNat).mi
    ·rw[decide_eq_true q1] at hb
     exact⟨q1,of_decide_eq_true hb⟩
    ·rw[decide_eq_false q1] at hb;cases hb
   refine bad s.i s1 ?_
   cases q:pvK x (s.i+1) with
   |false=>rfl
   |true=>
    have:=((AZD (s.i+1) (nn _ (by omega))).1 q).2 s.j s.i hj (Nat.lt_succ_self _)
    exact absurd hb2 (di.1 this)
  ·by_cases e:j=s.j
   ·subst e
    refine di.2 λhb2=>?_
    have q1:(gD x.c.ns (gD x.l s.i).a.toNat).mi<(gD x.c.ns (gD x.l s.j).b.toNat).mi:=hb2.1
    have q2:(gD x.c.ns (gD x.l s.j).a.toNat).mi<(gD x.c.ns (gD x.l s.i).b.toNat).mi:=hb2.2
    rw[decide_eq_true q1,decide_eq_true q2] at hb;cases hb
   ·exact s6 j (by have:j<s.j+1:=hj2;omega)
 ·have hj:s.j=s.i:=by omega
  refine⟨s.i+1,(II (by omega)).symm,⟨⟨by omega,hz⟩,?_⟩,by omega⟩
  obtain⟨r1,r2⟩:=(AZD s.i (nn _ (by omega))).1 s4
  refine (AZD (s.i+1) (nn _ (by omega))).2 ⟨λk hk=>?_,λj k hjk hk=>?_⟩
  ·by_cases e:k=s.i
   ·subst e;exact s5
   ·exact r1 k (by omega)
  ·by_cases e:k=s.i
   ·subst e;exact s6 j (by omega)
   ·exact r2 j k hjk (by omega)
 ·obtain rfl:k=x.l.length:=by omega
  rw[BIU hz,k5];exact⟨rfl,rfl⟩
theorem CLM:AW Try.prog ANI (C_prov.spec dPrv):=Je C_prov CGF [] [] BQZ (λ_=>by kernel_rfl) (λ_=>AA dW (AA BRM (AA BPM AK))) (λx h=>CYD x h) (λ_=>Kp rfl rfl) _
end Go.Bal

namespace Go.Bal
open Go Go.Sym Go.Proofs
theorem BZP{a:CZ}(h:ChOk a.c)(hz:N7 a=true):DJ a=0↔Mg a.c=true/\∃t,TrC a.c (FZ a).sp t:=by
 have k:=ALH (w:=FZ a) h
 unfold DJ
 rw[KB.2 h,hz]
 cases q:(JD (FZ a)).2 with
 |true=>rw[q] at k;exact⟨λ_=>k.1 rfl,λ_=>rfl⟩
 |false=>rw[q] at k;exact⟨λe=>absurd e (by decide),λe=>absurd (k.2 e) (by decide)⟩
theorem TrC.wide{c:Cht}(h:ChOk c){sp sq:Nat->Bool}{t:Nat->Int}(ht:TrC c sp t)(hs:∀g,g+1<c.ms.length->sp g=true->sq g=true):TrC c sq t:=⟨ht.at_,λg hg=>by
 have q:=ht.gap g hg
 have b:=h.gap sp (g:=g) (by omega)
 refine⟨q.1,?_⟩
 have q2:t (g+1)-t g<=bif sp g then 200000000 else c.p.hi*Cw c g:=q.2
 show t (g+1)-t g<=bif sq g then 200000000 else c.p.hi*Cw c g
 cases e:sp g with
 |true=>rw[hs g (by omega) e];rw[e] at q2;exact q2
 |false=>
  rw[e] at q2
  have q2:t (g+1)-t g<=c.p.hi*Cw c g:=q2
  cases sq g with
  |true=>show _<=(200000000:Int);omega
  |false=>exact q2⟩
theorem BMD{c:Cht}{g:Int}:g∈iG c↔0<=g/\g+1<c.ms.length:=by
 unfold iG NK
 rw[List.mem_map]
 constructor
 ·rintro⟨i,hi,rfl⟩
  have:=List.mem_range.1 hi
  omega
 ·rintro⟨h1,h2⟩
  exact⟨g.toNat,List.mem_range.2 (by omega),by omega⟩
theorem BVG{c:Cht}(h:ChOk c):N7 ⟨c,iG c⟩=true:=(BJF (a:=⟨c,iG c⟩) h.m).2 ⟨λg hg=>BMD.1 hg,by
 show (iG c).Pairwise _
 unfold iG NK
 rw[List.pairwise_map]
 exact List.Pairwise.imp (λh=>by omega) List.pairwise_lt_range⟩
theorem CTU{c:Cht}(h:ChOk c):DJ ⟨c,iG c⟩=0↔(JD (fwW c)).2=true:=by
 rw[BZP (a:=⟨c,iG c⟩) h (BVG h),ALH (w:=fwW c) h]
 refine⟨λ⟨a,t,ht⟩=>⟨a,BNW h ht⟩,λ⟨a,t,ht⟩=>⟨a,t,?_⟩⟩
 exact TrC.wide h ht λg hg _=>(AXL (a:=⟨c,iG c⟩) h.m (BVG h) g).2 (BMD.2 (by omega))
theorem AWN{c:Cht}{f t:Int}:jW ⟨c,f,t⟩=true↔∀a b,a<c.ns.length->b<c.ns.length->f<=(gD c.ns a).mi->(gD c.ns a).mi<(gD c.ns b).mi->(gD c.ns b).mi<t->Eg c ⟨(a:Int),(b:Int)⟩=true->False:=by
 have p:∀a b:Nat,whP ⟨c,f,t⟩ a b=true↔f<=(gD c.ns a).mi/\(gD c.ns a).mi<(gD c.ns b).mi/\(gD c.ns b).mi<t/\Eg c ⟨(a:Int),(b:Int)⟩=true:=λa b=>by
  show (bif bif bif decide ((gD c.ns a).mi>=f) then decide ((gD c.ns a).mi<(gD c.ns b).mi) else false then decide ((gD c.ns b).mi<t) else false then Eg c ⟨(a:Int),(b:Int)⟩ else false)=true↔_
  by_cases q1:(gD c.ns a).mi>=f
  ·by_cases q2:(gD c.ns a).mi<(gD c.ns b).mi
   ·by_cases q3:(gD c.ns b).mi<t
    ·rw[decide_eq_true q1,decide_eq_true q2,decide_eq_true q3]
     exact⟨λe=>⟨q1,q2,q3,e⟩,λe=>e.2.2.2⟩
    ·rw[decide_eq_true q1,decide_eq_true q2,decide_eq_false q3]
     exact⟨λe=>(by cases e),λe=>absurd e.2.2.1 q3⟩
   ·rw[decide_eq_true q1,decide_eq_false q2]
    exact⟨λe=>(by cases e),λe=>absurd e.2.1 q2⟩
  ·rw[decide_eq_false q1]
   exact⟨λe=>(by cases e),λe=>absurd e.1 q1⟩
 show Lu (λa=>Lu (λb=>!whP ⟨c,f,t⟩ a b) c.ns.length) c.ns.length=true↔_
 rw[Rw]
 constructor
 ·intro H a b ha hb h1 h2 h3 h4
  have:=Rw.1 (H a ha) b hb
  rw[(p a b).2 ⟨h1,h2,h3,h4⟩] at this;cases this
 ·intro H a ha
  refine Rw.2 λb hb=>?_
  cases q:whP ⟨c,f,t⟩ a b with
  |false=>rfl
  |true=>
   obtain⟨h1,h2,h3,h4⟩:=(p a b).1 q
   exact absurd (H a b ha hb h1 h2 h3 h4) id
theorem BCG{c:Cht}(hm:c.ms.length<=40){P:Nat->Int}{f:Nat}:∀k,(∀t,f<t->t<=f+k->0<=P t/\P t<=(c.ms.length:Int)+1)->(0<=dpV c P f k/\dpV c P f k<=(c.ms.length:Int)+1)/\(∀t:Nat,f<t->t<=f+k->jW ⟨c,(f:Int),(t:Int)⟩=true->dpV c P f k<=P t+1)/\(dpV c P f k=(c.ms.length:Int)+1∨∃t:Nat,f<t/\t<=f+k/\jW ⟨c,(f:Int),(t:Int)⟩=true/\dpV c P f k=P t+1)
 |0,_=>by
  have e:dpV c P f 0=(c.ms.length:Int)+1:=Ap (by omega) (by omega)
  rw[e]
  exact⟨⟨by omega,by omega⟩,λt h1 h2=>by omega,.inl rfl⟩
 |k+1,hP=>by
  obtain⟨b,u,w⟩:=BCG hm k λt h1 h2=>hP t h1 (by omega)
  have bp:=hP (f+1+k) (by omega) (by omega)
  have ew:wr (P (f+1+k)+1)=P (f+1+k)+1:=Ap (by omega) (by omega)
  have e:dpV c P f (k+1)=bif (bif jW ⟨c,(f:Int),((f+1+k:Nat):Int)⟩ then decide (P (f+1+k)+1<dpV c P f k) else false) then P (f+1+k)+1 else dpV c P f k:=by
   show (bif (bif jW ⟨c,(f:Int),((f+1+k:Nat):Int)⟩ then decide (wr (P (f+1+k)+1)<dpV c P f k) else false) then wr (P (f+1+k)+1) else dpV c P f k)=_
   rw[ew]
  have cs:(jW ⟨c,(f:Int),((f+1+k:Nat):Int)⟩=true/\P (f+1+k)+1<dpV c P f k/\dpV c P f (k+1)=P (f+1+k)+1)∨(dpV c P f (k+1)=dpV c P f k/\(jW ⟨c,(f:Int),((f+1+k:Nat):Int)⟩=true->dpV c P f k<=P (f+1+k)+1)):=by
   rw[e]
   cases q:jW ⟨c,(f:Int),((f+1+k:Nat):Int)⟩ with
   |false=>exact .inr ⟨rfl,λh=>(by cases h)⟩
   |true=>
    by_cases r:P (f+1+k)+1<dpV c P f k
    ·rw[decide_eq_true r];exact .inl ⟨rfl,r,rfl⟩
    ·rw[decide_eq_false r];exact .inr ⟨rfl,λ_=>by omega⟩
  rcases cs with⟨c1,c2,c3⟩ | ⟨c1,c2⟩
  ·rw[c3]
   refine⟨⟨by omega,by omega⟩,λt h1 h2 h3=>?_,.inr ⟨f+1+k,by omega,by omega,c1,rfl⟩⟩
   by_cases q:t=f+1+k
   ·subst q;exact Int.le_refl _
   ·have:=u t h1 (by omega) h3;omega
  ·rw[c1]
   refine⟨b,λt h1 h2 h3=>?_,?_⟩
   ·by_cases q:t=f+1+k
    ·subst q;exact c2 h3
    ·exact u t h1 (by omega) h3
   ·rcases w with w | ⟨t,h1,h2,h3,h4⟩
    ·exact .inl w
    ·exact .inr ⟨t,h1,by omega,h3,h4⟩
theorem CCN{c:Cht}{j i:Nat}(h:i≠c.ms.length-1-j):K0 c (j+1) i=K0 c j i:=by
 show (bif decide (i=c.ms.length-1-j) then _ else _)=_
 rw[decide_eq_false h];rfl
theorem BRK{c:Cht}{j:Nat}:K0 c (j+1) (c.ms.length-1-j)=dpV c (K0 c j) (c.ms.length-1-j) (j+1):=by
 show (bif decide (c.ms.length-1-j=c.ms.length-1-j) then _ else _)=_
 rw[decide_eq_true rfl];rfl
theorem AXI{c:Cht}{j t:Nat}(ht:c.ms.length-j<=t):∀d,j+d<=c.ms.length->K0 c (j+d) t=K0 c j t
 |0,_=>rfl
 |d+1,h=>by
  have:=AXI ht d (by omega)
  rw[show j+(d+1)=(j+d)+1 by omega,CCN (by omega),this]
theorem BJL{c:Cht}(hm:c.ms.length<=40):∀j t,0<=K0 c j t/\K0 c j t<=(c.ms.length:Int)+1
 |0,t=>by show (0:Int)<=0/\(0:Int)<=_;omega
 |j+1,t=>by
  have ih:=BJL hm j
  by_cases q:t=c.ms.length-1-j
  ·rw[q,BRK]
   exact (BCG hm (j+1) λt _ _=>ih t).1
  ·rw[CCN q];exact ih t
def fD(c:Cht)(f:Nat):Int:=K0 c c.ms.length f
theorem CGY(c:Cht):fD c c.ms.length=0:=by
 have:=AXI (c:=c) (j:=0) (t:=c.ms.length) (by omega) c.ms.length (by omega)
 unfold fD
 rw[Nat.zero_add] at this
 rw[this];rfl
theorem AXD{c:Cht}(hm:c.ms.length<=40){f:Nat}(hf:f<c.ms.length):(∀t:Nat,f<t->t<=c.ms.length->jW ⟨c,(f:Int),(t:Int)⟩=true->fD c f<=fD c t+1)/\(fD c f=(c.ms.length:Int)+1∨∃t:Nat,f<t/\t<=c.ms.length/\jW ⟨c,(f:Int),(t:Int)⟩=true/\fD c f=fD c t+1):=by
 obtain⟨j,hj⟩:∃j,c.ms.length-1-j=f/\j+1+f=c.ms.length:=⟨c.ms.length-1-f,by omega,by omega⟩
 have e:fD c f=dpV c (K0 c j) f (j+1):=by
  have a:=AXI (c:=c) (j:=j+1) (t:=f) (by omega) f (by omega)
  rw[show j+1+f=c.ms.length by omega] at a
  unfold fD
  rw[a]
  have:=BRK (c:=c) (j:=j)
  rw[hj.1] at this;exact this
 have e2:∀t,f<t->K0 c j t=fD c t:=λt ht=>by
  have a:=AXI (c:=c) (j:=j) (t:=t) (by omega) (f+1) (by omega)
  rw[show j+(f+1)=c.ms.length by omega] at a
  exact a.symm
 obtain⟨_,u,w⟩:=BCG hm (P:=K0 c j) (f:=f) (j+1) λt _ _=>BJL hm j t
 rw[e]
 refine⟨λt h1 h2 h3=>?_,?_⟩
 ·rw[<-e2 t h1];exact u t h1 (by omega) h3
 ·rcases w with w | ⟨t,h1,h2,h3,h4⟩
  ·exact .inl w
  ·exact .inr ⟨t,h1,by omega,h3,by rw[<-e2 t h1];exact h4⟩
theorem CIY(c:Cht)(f:Nat):jW ⟨c,(f:Int),((f+1:Nat):Int)⟩=true:=AWN.2 λa b _ _ h1 h2 h3 _=>by omega
theorem CPU{c:Cht}(hm:c.ms.length<=40):∀d f,f+d=c.ms.length->fD c f<=(d:Int)
 |0,f,h=>by
  obtain rfl:f=c.ms.length:=by omega
  rw[CGY];omega
 |d+1,f,h=>by
  have ih:=CPU hm d (f+1) (by omega)
  have:=(AXD hm (show f<_ by omega)).1 (f+1) (by omega) (by omega) (CIY c f)
  omega
theorem DBG{R:Int->Int->Prop}{l:List Int}(h:l.Pairwise R){i j:Nat}(hij:i<j)(hj:j<l.length):R (gD l i) (gD l j):=by
 have:=List.pairwise_iff_getElem.1 h i j (by omega) hj hij
 simpa[gD,List.getD_eq_getElem?_getD,hj,Nat.lt_trans hij hj] using this
theorem CCB{R:Pr->Pr->Prop}{l:List Pr}(h:l.Pairwise R){i j:Nat}(hij:i<j)(hj:j<l.length):R (gD l i) (gD l j):=by
 have:=List.pairwise_iff_getElem.1 h i j (by omega) hj hij
 simpa[gD,List.getD_eq_getElem?_getD,hj,Nat.lt_trans hij hj] using this
theorem BND{c:Cht}(h:ChOk c){a b:Nat}(ha:a<c.ns.length)(hb:b<c.ns.length)(hl:(gD c.ns a).mi<(gD c.ns b).mi)(h2:Eg c ⟨(a:Int),(b:Int)⟩=true):∃g∈(Hm c).q,(gD c.ns a).mi<=g/\g<(gD c.ns b).mi:=by
 have I:=ADN h c.ns.length (Nat.le_refl _)
 obtain⟨i,hi,ei⟩:=ADA c ha
 obtain⟨j,hj,ej⟩:=ADA c hb
 have o1:mO c i=(gD c.ns a).mi:=by unfold mO miA;rw[ei];rfl
 have o2:mO c j=(gD c.ns b).mi:=by unfold mO miA;rw[ej];rfl
 have lt:i<j:=by
  rcases Nat.lt_trichotomy i j with q | q | q
  ·exact q
  ·subst q;omega
  ·have:=BFF h q hi;omega
 obtain⟨g,g1,g2,g3⟩:=I.met i j lt hj (by
  unfold ltO;rw[o1,o2];exact (ASD h ha hb).1 h2)
 exact⟨g,g1,by omega,by omega⟩
def bnF(c:Cht)(i:Nat):Nat:=if i=0 then 0 else (gD (Hm c).q (i-1)).toNat+1
theorem DBY{c:Cht}(h:ChOk c):∀d i,i+d=(Hm c).q.length->bnF c i<c.ms.length/\fD c (bnF c i)<=(d:Int)+1:=by
 have I:=ADN h c.ns.length (Nat.le_refl _)
 have hq:∀k,k<(Hm c).q.length->0<=gD (Hm c).q k/\gD (Hm c).q k+1<c.ms.length:=λk hk=>(I.q _ (OH hk)).1
 have up:∀i j,i<j->j<(Hm c).q.length->gD (Hm c).q i<gD (Hm c).q j:=λi j hij hj=>DBG I.up hij hj
 have hb:∀i,i<=(Hm c).q.length->bnF c i<c.ms.length:=λi hi=>by
  unfold bnF
  have:=h.m
  split
  ·omega
  ·have:=hq (i-1) (by omega);omega
 have far:∀i k,i<=(Hm c).q.length->k<(Hm c).q.length->(bnF c i:Int)<=gD (Hm c).q k->i<=k:=λi k hi hk hg=>by
  unfold bnF at hg
  split at hg
  ·omega
  ·rename_i ne
   have b:=hq (i-1) (by omega)
   rcases Nat.lt_or_ge k i with q | q
   ·rcases Nat.lt_or_ge k (i-1) with r | r
    ·have:=up k (i-1) r (by omega);omega
    ·obtain rfl:k=i-1:=by omega
     omega
   ·exact q
 intro d
 induction d with
 |zero=>
  intro i hi
  refine⟨hb i (by omega),?_⟩
  have w:jW ⟨c,(bnF c i:Int),(c.ms.length:Int)⟩=true:=AWN.2 λa b ha hb' h1 h2 h3 h4=>by
   obtain⟨g,g1,g2,g3⟩:=BND h ha hb' h2 h4
   obtain⟨k,hk,rfl⟩:=Df g1
   have:=far i k (by omega) hk (by omega)
   omega
  have:=(AXD h.m.2 (hb i (by omega))).1 c.ms.length (hb i (by omega)) (Nat.le_refl _) w
  rw[CGY] at this
  exact this
 |succ d ih=>
  intro i hi
  obtain⟨_,i2⟩:=ih (i+1) (by omega)
  refine⟨hb i (by omega),?_⟩
  have e:bnF c (i+1)=(gD (Hm c).q i).toNat+1:=rfl
  have bi:=hq i (by omega)
  have lt:bnF c i<bnF c (i+1):=by
   rw[e]
   unfold bnF
   split
   ·omega
   ·have:=up (i-1) i (by omega) (by omega)
    have:=hq (i-1) (by omega)
    omega
  have w:jW ⟨c,(bnF c i:Int),(bnF c (i+1):Int)⟩=true:=AWN.2 λa b ha hb' h1 h2 h3 h4=>by
   obtain⟨g,g1,g2,g3⟩:=BND h ha hb' h2 h4
   obtain⟨k,hk,rfl⟩:=Df g1
   have:=far i k (by omega) hk (by omega)
   rw[e] at h3
   rcases Nat.lt_or_ge i k with q | q
   ·have:=up i k q hk;omega
   ·obtain rfl:k=i:=by omega
    omega
  have:=(AXD h.m.2 (hb i (by omega))).1 _ lt (Nat.le_of_lt (hb (i+1) (by omega))) w
  omega
theorem DDN{c:Cht}(h:ChOk c):∀d f,f+(d+1)=c.ms.length->∀i,i<=(Hm c).r.length->(i=0∨(f:Int)<=(nA c (gD (Hm c).r ((Hm c).r.length-i))).mi)->(i:Int)+1<=fD c f:=by
 have R:=AKT h c.ns.length (Nat.le_refl _)
 have R:PrI c c.ns.length (Hm c):=R
 intro d
 induction d using Nat.strongRecOn with
 |ind d ih=>
 intro f hf i hi hA
 obtain⟨_,w⟩:=AXD h.m.2 (show f<c.ms.length by omega)
 have up:=CPU h.m.2 (d+1) f hf
 rcases w with w | ⟨t,h1,h2,h3,h4⟩
 ·omega
 have tp:0<=fD c t:=(BJL h.m.2 _ _).1
 rcases Nat.eq_zero_or_pos i with z | ip
 ·subst z;omega
 have hA:(f:Int)<=(nA c (gD (Hm c).r ((Hm c).r.length-i))).mi:=by
  rcases hA with hA | hA
  ·omega
  ·exact hA
 have hk:(Hm c).r.length-i<(Hm c).r.length:=by omega
 obtain⟨⟨o1,o2⟩,_⟩:=R.ok _ (OH hk)
 obtain⟨⟨⟨b1,b2⟩,b3,b4⟩,_⟩:=AWU (by have:=h.n;omega) o1
 obtain⟨⟨l1,l2,l3⟩,_⟩:=BSU h o1 o2
 have nt:¬ (nB c (gD (Hm c).r ((Hm c).r.length-i))).mi<(t:Int):=λq=>by
  refine AWN.1 h3 (gD (Hm c).r ((Hm c).r.length-i)).a.toNat (gD (Hm c).r ((Hm c).r.length-i)).b.toNat (by omega) (by omega) hA l2 q ?_
  rw[Int.toNat_of_nonneg b1,Int.toNat_of_nonneg b3];exact o2
 have tn:t<c.ms.length:=by omega
 have main:=ih (c.ms.length-1-t) (by omega) t (by omega) (i-1) (by omega) (by
  rcases Nat.eq_zero_or_pos (i-1) with z | z
  ·exact .inl z
  ·refine .inr ?_
   have:=CCB R.dis (i:=(Hm c).r.length-i) (j:=(Hm c).r.length-(i-1)) (by omega) (by omega)
   omega)
 omega
theorem DAA{c:Cht}(h:ChOk c):fD c 0=((Hm c).q.length:Int)+1:=by
 have R:PrI c c.ns.length (Hm c):=AKT h c.ns.length (Nat.le_refl _)
 have hm:=h.m
 have a:=(DBY h (Hm c).q.length 0 (Nat.zero_add _)).2
 have a:fD c 0<=((Hm c).q.length:Int)+1:=a
 have b:=DDN h (c.ms.length-1) 0 (by omega) (Hm c).r.length (Nat.le_refl _) (by
  rcases Nat.eq_zero_or_pos (Hm c).r.length with z | z
  ·exact .inl z
  ·refine .inr ?_
   rw[Nat.sub_self]
   obtain⟨⟨o1,o2⟩,_⟩:=R.ok _ (OH z)
   exact (BSU h o1 o2).1.1)
 rw[R.len] at b
 omega
theorem CYK(c:Cht):A5 c=(((Jg c).q.length:Int),(Jg c).e):=by
 by_cases q:AP c=0
 ·have h:=KB.1 q
  have e1:Jg c=N5 c:=by unfold Jg;rw[q];rfl
  have k:=CTU h
  rw[e1]
  by_cases r:DJ ⟨c,iG c⟩=0
  ·have e2:N5 c=⟨(Hm c).q,(Hm c).r,0⟩:=by unfold N5;rw[k.1 r];rfl
   have e3:A5 c=(wr (K0 c c.ms.length 0-1),0):=by unfold A5;rw[q,r];rfl
   have e4:K0 c c.ms.length 0=((Hm c).q.length:Int)+1:=DAA h
   have b:=(BJL h.m.2 c.ms.length 0).2
   have m:=h.m
   rw[e3,e2,e4]
   rw[e4] at b
   have e5:wr (((Hm c).q.length:Int)+1-1)=((Hm c).q.length:Int):=(Ap (by omega) (by omega)).trans (by omega)
   rw[e5]
  ·have t:(JD (fwW c)).2=false:=by
    cases t:(JD (fwW c)).2 with
    |false=>rfl
    |true=>exact absurd (k.2 t) r
   have e2:N5 c=⟨nilI,nilP,6⟩:=by unfold N5;rw[t];rfl
   have e3:A5 c=(0,6):=by
    have r':(DJ ⟨c,iG c⟩==0)=false:=by simpa using r
    unfold A5;rw[q,r'];rfl
   rw[e3,e2];rfl
 ·have q':(AP c==0)=false:=by simpa using q
  unfold A5 Jg
  rw[q'];rfl
theorem BWC{c:Cht}(he:(Jg c).e=0):AP c=0/\(Jg c).q.length=(Jg c).r.length/\(Jg c).q.length<=20/\DJ ⟨c,(Jg c).q⟩=0/\Jb ⟨c,((Jg c).q.length:Int),(Jg c).r⟩=(true,0):=by
 have q:AP c=0:=by
  by_cases q:AP c=0
  ·exact q
  ·have q':(AP c==0)=false:=by simpa using q
   unfold Jg at he
   rw[q'] at he
   exact absurd he q
 have h:=KB.1 q
 have e1:Jg c=N5 c:=by unfold Jg;rw[q];rfl
 have t:(JD (fwW c)).2=true:=by
  cases t:(JD (fwW c)).2 with
  |true=>rfl
  |false=>
   rw[e1] at he
   unfold N5 at he
   rw[t] at he
   have he:(6:Int)=0:=he
   omega
 have e2:N5 c=⟨(Hm c).q,(Hm c).r,0⟩:=by unfold N5;rw[t];rfl
 rw[e1,e2]
 have R:PrI c c.ns.length (Hm c):=AKT h c.ns.length (Nat.le_refl _)
 have hn:=h.n
 have l1:=R.le
 have l2:=R.len
 refine⟨q,R.len.symm,by show (Hm c).q.length<=20;omega,(BZP (a:=⟨c,(Hm c).q⟩) h (BYC h)).2 ((ALH (w:=fwW c) h).1 t),?_⟩
 have O:zvO ⟨c,((Hm c).q.length:Int),(Hm c).r⟩:=⟨q,by show (Hm c).r.length<=40;omega,λi hi=>(R.ok _ (OH hi)).1.1⟩
 show Jb ⟨c,((Hm c).q.length:Int),(Hm c).r⟩=_
 rw[BIU O]
 have p:pvK ⟨c,((Hm c).q.length:Int),(Hm c).r⟩ (Hm c).r.length=true:=(AZD _ λk hk=>(BUM O hk).2.1).2 ⟨λk hk=>(R.ok _ (OH hk)).1.2,λj k hjk hk i hi=>by
  have:=CCB R.dis hjk hk
  have e1:pvB ⟨c,((Hm c).q.length:Int),(Hm c).r⟩ j=(nB c (gD (Hm c).r j)).mi:=rfl
  have e2:Qt ⟨c,((Hm c).q.length:Int),(Hm c).r⟩ k=(nA c (gD (Hm c).r k)).mi:=rfl
  rw[e1,e2] at hi
  omega⟩
 show (pvK ⟨c,((Hm c).q.length:Int),(Hm c).r⟩ (Hm c).r.length&&decide (((Hm c).r.length:Int)>=((Hm c).q.length:Int)),0)=_
 rw[p,decide_eq_true (show ((Hm c).r.length:Int)>=((Hm c).q.length:Int) by omega)];rfl
end Go.Bal

namespace Go.Bal
open Go Go.Sym Go.Proofs
structure SpI where
 c:Cht
 p:Pr
 n:Int
 l:List Pr
def xSp(x:SpI):List AVal:=[.d (Nj x.c),.d (ePr x.p),.int x.n,.d (aZ x.l)]
theorem CJB{c:Cht}(h:bigV c=false):c.ms.length<=42/\c.ns.length<=22:=by
 unfold bigV at h
 simp only[Bool.or_eq_false_iff,decide_eq_false_iff_not] at h
 omega
theorem CIM(c:Cht):(Jg c).r.length=(Jg c).q.length:=by
 have h:(Hm c).r.length=(Hm c).q.length:=(BJY c c.ns.length).2
 unfold Jg N5
 cases AP c==0 with
 |false=>rfl
 |true=>
  cases (JD (fwW c)).2 with
  |false=>rfl
  |true=>exact h
theorem CZH(c:Cht)(h:c.ns.length<=22):(Jg c).q.length<=22:=by
 have h1:(Hm c).q.length<=c.ns.length:=(BJY c c.ns.length).1
 unfold Jg N5
 cases AP c==0 with
 |false=>show 0<=22;omega
 |true=>
  cases (JD (fwW c)).2 with
  |false=>show 0<=22;omega
  |true=>show (Hm c).q.length<=22;omega
end Go.Bal
