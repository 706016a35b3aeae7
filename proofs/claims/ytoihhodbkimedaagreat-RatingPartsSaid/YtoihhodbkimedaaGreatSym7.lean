/- States that tell less, under other names. -/
import Derived.Test.YtoihhodbkimedaaGreatSym6
set_option linter.unusedVariables false
set_option linter.unusedSimpArgs false
namespace Go.Sym
variable {P : Program} {B B' : Jk} {ι ι' : Nat -> Pl} {H H' : Heap} {D : Nat -> Prop} {w w' : World}
mutual
def rR(ρ:Nat->Nat)(p:Nat->Bool):AVal->AVal->Prop
 | .any,_=>True
 | .d x,.d y=>JU x y
 | .agg xs,.agg ys=>Vp ρ p xs ys
 | .tup xs,.tup ys=>Vp ρ p xs ys
 | .bptr i c,.bptr j d=>j=ρ i/\p i=true/\c=d
 | .rptr i k e c,.rptr j k' e' c'=>j=ρ i/\p i=true/\k=k'/\e=e'/\c=c'
 | .own i k e n,.own j k' e' n'=>j=ρ i/\p i=true/\k=k'/\e=e'/\n=n'
 | .fn f a b,.fn g c d=>f=g/\Vp ρ p a c/\Vp ρ p b d
 | .mref i,.mref j=>j=ρ i/\p i=true
 | .opt g a,.opt h b=>g=h/\rR ρ p a b
 |_,_=>False
def Vp(ρ:Nat->Nat)(p:Nat->Bool):List AVal->List AVal->Prop
 |[],[]=>True
 |x :: xs,y :: ys=>rR ρ p x y/\Vp ρ p xs ys
 |_,_=>False
end
theorem Pc{ρ:Nat->Nat}{p:Nat->Bool}:∀{xs ys:List AVal},Vp ρ p xs ys->xs.length=ys.length
 |[],[],_=>rfl
 |x :: xs,y :: ys,h=>by simp only[Vp] at h;simp[Pc h.2]
 |[],_ :: _,h=>by simp[Vp] at h
 |_ :: _,[],h=>by simp[Vp] at h
theorem Rz{ρ:Nat->Nat}{p:Nat->Bool}:∀{xs ys:List AVal},Vp ρ p xs ys->∀{j:Nat} {x:AVal},xs[j]?=some x->∃y,ys[j]?=some y/\rR ρ p x y
 |[],[],_,j,x,hx=>by simp at hx
 |a :: xs,b :: ys,h,0,x,hx=>by simp only[Vp] at h;simp at hx;subst hx;exact⟨b,rfl,h.1⟩
 |a :: xs,b :: ys,h,j+1,x,hx=>by
  simp only[Vp] at h
  obtain⟨y,hy,hs⟩:=Rz h.2 (j:=j) (by simpa using hx)
  exact⟨y,by simpa using hy,hs⟩
 |[],_ :: _,h,_,_,_=>by simp[Vp] at h
 |_ :: _,[],h,_,_,_=>by simp[Vp] at h
mutual
theorem kQ{ρ:Nat->Nat}{p:Nat->Bool}{D':Nat->Prop}(hp:∀i,p i=true->D' i):∀(x y:AVal) (v:Value),rR ρ p x y->VRel B ι D y v->VRel B (λi=>ι (ρ i)) D' x v
 | .any,_,_,_,_=>.any
 | .d x,y,v,h,hv=>by cases y<;>simp only[rR] at h;exact .d (IS _ _ _ h hv.d_inv)
 | .agg xs,y,v,h,hv=>by
  cases y<;>simp only[rR] at h
  cases hv with
  |agg hl hr=>
   exact .agg (by rw[hl,Pc h]) λj x z hx hz=>by
    obtain⟨y,hy,hs⟩:=Rz h hx
    exact Kb hp xs j x y z hx hs (hr j y z hy hz)
 | .tup xs,y,v,h,hv=>by
  cases y<;>simp only[rR] at h
  cases hv with
  |tup hl hr=>
   exact .tup (by rw[hl,Pc h]) λj x z hx hz=>by
    obtain⟨y,hy,hs⟩:=Rz h hx
    exact Kb hp xs j x y z hx hs (hr j y z hy hz)
 | .bptr i c,y,v,h,hv=>by
  cases y<;>simp only[rR] at h
  obtain⟨rfl,h2,rfl⟩:=h
  cases hv;exact VRel.bptr (ι:=λi=>ι (ρ i)) (hp _ h2)
 | .rptr i k e c,y,v,h,hv=>by
  cases y<;>simp only[rR] at h
  obtain⟨rfl,h2,rfl,rfl,rfl⟩:=h
  cases hv;exact VRel.rptr (ι:=λi=>ι (ρ i)) (hp _ h2)
 | .own i k e n,y,v,h,hv=>by
  cases y<;>simp only[rR] at h
  obtain⟨rfl,h2,rfl,rfl,rfl⟩:=h
  cases hv with
  |own _ h3 h4=>exact VRel.own (ι:=λi=>ι (ρ i)) (hp _ h2) h3 h4
 | .fn f a b,y,v,h,hv=>by
  cases y<;>simp only[rR] at h
  obtain⟨rfl,h1,h2⟩:=h
  cases hv with
  |fn h3 h4 h5 h6=>
   exact .fn (by rw[h3,Pc h1]) (by rw[h4,Pc h2])
    (λj x z hx hz=>by
     obtain⟨y,hy,hs⟩:=Rz h1 hx
     exact Kb hp a j x y z hx hs (h5 j y z hy hz))
    λj x z hx hz=>by
     obtain⟨y,hy,hs⟩:=Rz h2 hx
     exact Kb hp b j x y z hx hs (h6 j y z hy hz)
 | .mref i,y,v,h,hv=>by
  cases y<;>simp only[rR] at h
  obtain⟨rfl,h2⟩:=h
  cases hv;exact VRel.mref (ι:=λi=>ι (ρ i)) (hp _ h2)
 | .opt g a,y,v,h,hv=>by
  cases y<;>simp only[rR] at h
  obtain⟨rfl,h2⟩:=h
  cases hv with
  |opt h3 h4=>exact .opt (λhg=>kQ hp a _ v h2 (h3 hg)) h4
theorem Kb{ρ:Nat->Nat}{p:Nat->Bool}{D':Nat->Prop}(hp:∀i,p i=true->D' i):∀(l:List AVal) (j:Nat) (x y:AVal) (v:Value),l[j]?=some x->rR ρ p x y->VRel B ι D y v->VRel B (λi=>ι (ρ i)) D' x v
 |[],j,x,y,v,hx,_,_=>by simp at hx
 |a :: l,0,x,y,v,hx,h,hv=>by simp at hx;subst hx;exact kQ hp a y v h hv
 |a :: l,j+1,x,y,v,hx,h,hv=>Kb hp l j x y v (by simpa using hx) h hv
end
def osub(ρ:Nat->Nat)(p:Nat->Bool):AObj->AObj->Prop
 | .row k n g,.row k' n' g'=>k=k'/\n=n'/\∀i,i<n->JU (g i) (g' i)
 | .box es,.box es'=>Vp ρ p es es'
 | .imap q z h g s p,.imap q' z' h' g' s' p'=>q=q'/\z=z'/\p=p'/\(∀n,h n=h' n)/\(∀n,s n=s' n)/\∀n,JU (g n) (g' n)
 |_,_=>False
theorem J6{ρ:Nat->Nat}{p:Nat->Bool}{D':Nat->Prop}(hp:∀i,p i=true->D' i){q:Nat}{a b:AObj}{x:Option Obj}(h:osub ρ p a b)(hb:ORel B ι D q b x):ORel B (λi=>ι (ρ i)) D' q a x:=by
 cases a with
 |row k n g=>
  cases b<;>simp only[osub] at h
  obtain⟨rfl,rfl,hg⟩:=h
  cases hb with
  |row hk hn hsz hr=>
   refine .row (λi hi=>AAP (hg i hi) (hk i hi)) hn hsz λi j x y hi hx hy=>?_
   have h1:(i+1)*k<=n*k:=Nat.mul_le_mul_right k hi
   have h2:(i+1)*k=i*k+k:=Nat.succ_mul i k
   have h3:n*k<=q*k:=Nat.mul_le_mul_right k hn
   exact ABY (hg i hi) (hk i hi) (by omega) (λj x y hx hy=>hr i j x y hi hx hy) (λv hv=>IS (g i) _ v (hg i hi) hv) j x y hx hy
 |box es=>
  cases b<;>simp only[osub] at h
  cases hb with
  |box hsz hr=>
   exact .box (by rw[hsz,Pc h]) λj x z hx hz=>by
    obtain⟨y,hy,hs⟩:=Rz h hx
    exact Kb hp es j x y z hx hs (hr j y z hy hz)
 |imap kd z has get st pend=>
  cases b<;>simp only[osub] at h
  obtain⟨rfl,rfl,rfl,hh,hs,hg⟩:=h
  cases hb with
  |imap hm=>
   refine .imap ⟨λi e he=>?_,λn hn=>?_,λn hn=>hm.met n (by rw[<-hh n];exact hn),hm.once⟩
   ·obtain⟨n,h1,h2,h3,h4,h5⟩:=hm.keys i e he
    exact⟨n,h1,by rw[hh n];exact h2,h3,by rw[hs n];exact h4,IS _ _ _ (hg n) h5⟩
   ·obtain⟨h1,h2⟩:=hm.miss n (by rw[<-hh n];exact hn)
    exact⟨IS _ _ _ (hg n) h1,by rw[hs n];exact h2⟩
def PN:List (Nat×AVal)->Nat->AVal
 |[],_=>.any
 |(j,v) :: r,t=>if t=j then v else PN r t
def jF(l:List (Nat×HCell)):Heap:=λi=>(Eh l i).getD .none
structure ST where
 sl:List (Nat×AVal)
 H:List (Nat×HCell)
def ST.st(s:ST):AState:=⟨PN s.sl,jF s.H⟩
def CAJ(ρ:Nat->Nat)(p:Nat->Bool)(sl:Nat->AVal):List (Nat×AVal)->Prop
 |[]=>True
 |(t,v) :: r=>rR ρ p v (sl t)/\CAJ ρ p sl r
def cSub(ρ:Nat->Nat)(p:Nat->Bool):HCell->HCell->Prop
 | .live o,.live o'=>osub ρ p o o'
 | .dead,.live _=>True
 | .dead,.dead=>True
 |_,_=>False
def hSub(ρ:Nat->Nat)(p:Nat->Bool)(H:Heap):List (Nat×HCell)->Prop
 |[]=>True
 |(i,c) :: r=>cSub ρ p c (H (ρ i))/\hSub ρ p H r
def OI(l:List (Nat×Nat))(i:Nat):Nat:=match l with
 |[]=>i
 |(a,b) :: r=>if i=a then b else OI r i
def CLN(E:List Nat)(l:List (Nat×Nat))(s:ST)(σ:AState):Prop:=
 CAJ (OI l) (λi=>(Eh s.H i).isSome) σ.sl s.sl/\hSub (OI l) (λi=>(Eh s.H i).isSome) σ.H s.H /\
  (nodup (s.H.map λx=>OI l x.1)&&E.all λi=>OI l i==i&&(Eh s.H i).isSome)=true
theorem ATD{ρ:Nat->Nat}{p:Nat->Bool}{sl:Nat->AVal}:∀{l:List (Nat×AVal)},CAJ ρ p sl l->∀t,rR ρ p (PN l t) (sl t)
 |[],_,t=>by simp[PN,rR]
 |(j,v) :: r,h,t=>by
  simp only[PN]
  split
  ·rename_i e;subst e;exact h.1
  ·exact ATD h.2 t
theorem AQN{ρ:Nat->Nat}{p:Nat->Bool}{H:Heap}:∀{l:List (Nat×HCell)},hSub ρ p H l->∀{i:Nat} {c:HCell},(i,c)∈l->cSub ρ p c (H (ρ i))
 |[],_,i,c,h=>by cases h
 |(j,d) :: r,h,i,c,hm=>by
  rcases List.mem_cons.1 hm with hm | hm
  ·cases hm;exact h.1
  ·exact AQN h.2 hm
theorem Rel.sub{c:Ctx}{E:List Nat}{l:List (Nat×Nat)}{s:ST}{σ:AState}{a:Act}(hE:∀i,c.H0.dom i->i∈E)(h:CLN E l s σ)(hR:Rel c B ι σ a w):Rel c B (λi=>ι (OI l i)) s.st a w:=by
 obtain⟨h1,h2,h3⟩:=h
 simp only[Bool.and_eq_true,List.all_eq_true,beq_iff_eq] at h3
 obtain⟨h3,h4⟩:=h3
 have hnd:=YG h3
 have hdom:∀i,(λi=>(Eh s.H i).isSome) i=true->(ST.st s).H.dom i:=λi hi=>by
  obtain⟨d,hd⟩:=Option.isSome_iff_exists.1 hi
  have:=AQN h2 (Ae hd)
  unfold Heap.dom
  show (Eh s.H i).getD .none≠.none
  rw[hd]
  intro he
  simp at he;subst he
  simp[cSub] at this
 have live:∀i o,(ST.st s).H i=.live o->(i,.live o)∈s.H/\∃o',σ.H (OI l i)=.live o'/\osub (OI l) (λi=>(Eh s.H i).isSome) o o':=λi o hi=>by
  have hg:Eh s.H i=some (.live o):=by
   have:(Eh s.H i).getD .none=.live o:=hi
   cases hq:Eh s.H i with
   |none=>rw[hq] at this;cases this
   |some d=>rw[hq] at this;simpa using this
  have hm:=Ae hg
  have:=AQN h2 hm
  refine⟨hm,?_⟩
  cases hq:σ.H (OI l i) with
  |live o'=>rw[hq] at this;exact⟨o',rfl,this⟩
  |none=>rw[hq] at this;simp[cSub] at this
  |dead=>rw[hq] at this;simp[cSub] at this
 refine⟨λt=>kQ hdom _ _ _ (ATD h1 t) (hR.slots t),hR.size,?_,?_⟩
 ·obtain⟨Ds,d1,d0,d2,d3⟩:=hR.defers
  refine⟨Ds,d1,d0,d2,λD hD=>⟨(d3 D hD).1,(d3 D hD).2.here,λi o hi=>?_⟩⟩
  obtain⟨_,o',ho,_⟩:=live i o hi
  exact (d3 D hD).2.sep _ _ ho
 have hm:=hR.mv
 refine⟨hm.bm,hm.bn,λi hi=>?_,⟨λi o hi=>?_,λi j o o' hi hj hij=>?_,λi o hi=>?_,hm.heap.imm⟩,λi o hi=>?_,hm.frame,hm.size,hm.calm⟩
 ·obtain⟨h5,h6⟩:=h4 i (hE i hi)
  exact⟨hdom i h6,by rw[h5];exact (hm.im i hi).2⟩
 ·obtain⟨_,o',ho,hs⟩:=live i o hi
  exact J6 hdom hs (hm.heap.obj _ _ ho)
 ·obtain⟨m1,o1,ho1,_⟩:=live i o hi
  obtain⟨m2,o2,ho2,_⟩:=live j o' hj
  exact (P0 hnd m1 m2 (hm.heap.inj _ _ _ _ ho1 ho2 hij)).1
 ·obtain⟨_,o',ho,_⟩:=live i o hi
  exact hm.heap.sep _ _ ho
 ·obtain⟨_,o',ho,_⟩:=live i o hi
  exact hm.own _ _ ho
theorem CodeE.sub{c:Ctx}{E:List Nat}{l:List (Nat×Nat)}{s:ST}{σ:AState}{code:Code}{Q:Exit->AState->Prop}(hE:∀i,c.H0.dom i->i∈E)(hs:CLN E l s σ)(h:CodeE P c code Q s.st):CodeE P c code Q σ:=
 λ_ _ a w hR=>h _ _ a w (hR.sub hE hs)
end Go.Sym

namespace Go.Sym
variable {P : Program} {B B' : Jk} {ι ι' : Nat -> Pl} {H H' : Heap} {D : Nat -> Prop} {w w' : World}
theorem MT{a b:Nat}:(Nat.beq a b=true)=(a=b):=propext ⟨Nat.eq_of_beq_eq_true,λh=>by subst h;exact Nat.beq_refl a⟩
def IM:Option (List Prop)->Prop
 |some l=>FT l
 |none=>False
def qU:Option (List Prop)->Option (List Prop)->Option (List Prop)
 |some l,some m=>some (l ++ m)
 |_,_=>none
def BWF:Value->Value->Option (List Prop)
 | .int k a,.int k' b=>if k=k' then some [a=b] else none
 | .bool a,.bool b=>some [a=b]
 | .string a,.string b=>some [a=b]
 |x,y=>some [x=y]
theorem KE{a b:Option (List Prop)}(h:IM (qU a b)):IM a/\IM b:=by
 cases a with
 |none=>exact h.elim
 |some l=>cases b with
  |none=>exact h.elim
  |some m=>exact DI h
theorem BQG(x:Value):vEq x x:=by
 unfold vEq;split<;>simp_all
theorem BJK{x y:Value}(h:IM (BWF x y)):vEq x y:=by
 unfold BWF at h
 split at h
 ·split at h
  ·rename_i hk;exact⟨hk,h⟩
  ·exact h.elim
 ·exact h
 ·exact h
 ·have h:x=y:=h
  subst h
  exact BQG x
mutual
def Mu:DVal->DVal->Option (List Prop)
 | .v x,.v y=>BWF x y
 | .agg xs,.agg ys=>AJI xs ys
 | .tup xs,.tup ys=>AJI xs ys
 | .list k n g e,.list k' n' g' e'=>if Nat.beq k k'&&(!e||e') then some [n=n',∀i,i<n->IM (Mu (g i) (g' i))] else if (Nat.beq k' 0||Nat.beq k 0)&&(!e||e') then some [n=n',n=0] else none
 | .arr k n g,.arr k' n' g'=>if Nat.beq k k' then some [n=n',∀i,i<n->IM (Mu (g i) (g' i))] else none
 | .eref x c,.eref y d=>if Nat.beq c d then Mu x y else none
 | .iface t x,.iface u y=>if Nat.beq t u then Mu x y else none
 | .anyB,.anyB=>some []
 |_,_=>none
def AJI:List DVal->List DVal->Option (List Prop)
 |[],[]=>some []
 |x :: xs,y :: ys=>qU (Mu x y) (AJI xs ys)
 |_,_=>none
end
mutual
theorem KQ:∀(x y:DVal),IM (Mu x y)->JU x y
 | .v x,y,h=>by cases y<;>simp only[Mu] at h<;>first | exact (by simp only[JU];exact BJK h) | exact h.elim
 | .agg xs,y,h=>by cases y<;>simp only[Mu] at h<;>first | exact (by simp only[JU];exact uY _ _ h) | exact h.elim
 | .tup xs,y,h=>by cases y<;>simp only[Mu] at h<;>first | exact (by simp only[JU];exact uY _ _ h) | exact h.elim
 | .list k n g e,y,h=>by
  cases y<;>simp only[Mu] at h<;>try exact h.elim
  split at h
  ·rename_i hc
   simp only[Bool.and_eq_true,MT,Bool.or_eq_true,Bool.not_eq_true'] at hc
   obtain⟨h1,h2⟩:=PU.1 h
   simp only[JU]
   refine⟨.inl hc.1,h1,λhe=>?_,λi hi=>KQ _ _ (h2 i hi)⟩
   rcases hc.2 with h | h
   ·rw[he] at h;cases h
   ·exact h
  ·split at h
   ·rename_i hc
    simp only[Bool.and_eq_true,MT,Bool.or_eq_true,Bool.not_eq_true'] at hc
    obtain⟨h1,h2⟩:=PU.1 h
    have h2:n=0:=h2
    simp only[JU]
    refine⟨.inr h2,h1,λhe=>?_,λi hi=>by omega⟩
    rcases hc.2 with h | h
    ·rw[he] at h;cases h
    ·exact h
   ·exact h.elim
 | .arr k n g,y,h=>by
  cases y<;>simp only[Mu] at h<;>try exact h.elim
  split at h
  ·rename_i hc
   obtain⟨h1,h2⟩:=PU.1 h
   simp only[JU]
   exact⟨Nat.eq_of_beq_eq_true hc,h1,λi hi=>KQ _ _ (h2 i hi)⟩
  ·exact h.elim
 | .anyB,y,h=>by
  cases y<;>simp only[Mu] at h<;>try exact h.elim
  simp only[JU]
 | .iface x c,y,h=>by
  cases y<;>simp only[Mu] at h<;>try exact h.elim
  split at h
  ·rename_i hc
   simp only[JU]
   exact⟨Nat.eq_of_beq_eq_true hc,KQ _ _ h⟩
  ·exact h.elim
 | .eref x c,y,h=>by
  cases y<;>simp only[Mu] at h<;>try exact h.elim
  split at h
  ·rename_i hc
   simp only[JU]
   exact⟨Nat.eq_of_beq_eq_true hc,KQ _ _ h⟩
  ·exact h.elim
theorem uY:∀(x y:List DVal),IM (AJI x y)->Jr x y
 |[],y,h=>by cases y<;>simp only[AJI] at h<;>first | trivial | exact h.elim
 |x :: xs,y,h=>by
  cases y<;>simp only[AJI] at h
  ·exact h.elim
  ·obtain⟨h1,h2⟩:=KE h
   simp only[Jr]
   exact⟨KQ _ _ h1,uY _ _ h2⟩
end
abbrev xE:=Nat->Option (Nat×Nat×(Nat->DVal))
structure FrzRow(B':Jk)(ι:Nat->Pl)(id k m:Nat)(get:Nat->DVal)(c:Array Value):Prop where
 at':B' (ι id).b=some c
 len:m<=(ι id).cap
 size:(ι id).cap*k<=c.size
 ok:∀i,i<m->EOk k (get i)
 rel:∀(i j:Nat) (x:DVal) (y:Value),i<m->(get i).cells1[j]?=some x->c[i*k+j]?=some y->DRel B' x y
def uT(B B':Jk)(ι:Nat->Pl)(F:xE):Prop:=
 (∀b c,B b=some c->B' b=some c)/\∀id k m get,F id=some (k,m,get)->∃c,FrzRow B' ι id k m get c
mutual
def Qx(F:xE):DVal->AVal->Option (List Prop)
 |x,.d y=>Mu x y
 | .list k n g e,.own id k' i n'=>match F id with
  |some (k2,m,get)=>if Nat.beq k k'&&Nat.beq k k2&&!e then some [n=n',i+n'<=m,∀j,j<n->IM (Mu (g j) (get (i+j)))] else none
  |none=>none
 | .agg xs,.agg ys=>Hr F xs ys
 | .tup xs,.tup ys=>Hr F xs ys
 |_,_=>none
def Hr(F:xE):List DVal->List AVal->Option (List Prop)
 |[],[]=>some []
 |x :: xs,y :: ys=>qU (Qx F x y) (Hr F xs ys)
 |_,_=>none
end
theorem sM{F:xE}:∀{xs:List DVal} {ys:List AVal},IM (Hr F xs ys)->xs.length=ys.length
 |[],[],_=>rfl
 |x :: xs,y :: ys,h=>by simp only[Hr] at h;simp[sM (KE h).2]
 |[],_ :: _,h=>by simp only[Hr] at h;exact h.elim
 |_ :: _,[],h=>by simp only[Hr] at h;exact h.elim
theorem sN{F:xE}:∀{xs:List DVal} {ys:List AVal},IM (Hr F xs ys)->∀{j:Nat} {x:DVal},xs[j]?=some x->∃y,ys[j]?=some y/\IM (Qx F x y)
 |[],[],_,j,x,hx=>by simp at hx
 |a :: xs,b :: ys,h,0,x,hx=>by simp only[Hr] at h;simp at hx;subst hx;exact⟨b,rfl,(KE h).1⟩
 |a :: xs,b :: ys,h,j+1,x,hx=>by
  simp only[Hr] at h
  obtain⟨y,hy,hs⟩:=sN (KE h).2 (j:=j) (by simpa using hx)
  exact⟨y,by simpa using hy,hs⟩
 |[],_ :: _,h,_,_,_=>by simp only[Hr] at h;exact h.elim
 |_ :: _,[],h,_,_,_=>by simp only[Hr] at h;exact h.elim
theorem ANZ{F:xE}(hF:uT B B' ι F){k n:Nat}{g:Nat->DVal}{id i n' m:Nat}{get:Nat->DVal}{v:Value}(hf:F id=some (k,m,get))(hn:n=n')(hm:i+n'<=m)(hg:∀j,j<n->JU (g j) (get (i+j)))(hv:VRel B ι D (.own id k i n') v):DRel B' (.list k n g false) v:=by
 obtain⟨c,hc⟩:=hF.2 id k m get hf
 subst hn
 cases hv with
 |own hD hcap hq=>
  rcases Nat.eq_zero_or_pos n with rfl | hp
  ·exact .nil (λh=>by cases h) (.inr (by simp))
  ·have hsz:∀j,j<n->(i+j+1)*k<=c.size:=λj hj=>by
    have h1:(i+j+1)*k<=(ι id).cap*k:=Nat.mul_le_mul_right k (by have:=hc.len;omega)
    have:=hc.size
    omega
   refine .list hp hc.at' hcap (λh=>by cases h) (λj hj=>AAP (hg j hj) (hc.ok _ (by omega))) ?_ λj l x y hj hx hy=>?_
   ·have h1:(i+n)*k<=(ι id).cap*k:=Nat.mul_le_mul_right k (by have:=hc.len;omega)
    have h2:(i+n)*k=i*k+n*k:=Nat.add_mul i n k
    have:=hc.size
    omega
   ·have e1:(i+j)*k=i*k+j*k:=Nat.add_mul i j k
    have e2:(i+j+1)*k=(i+j)*k+k:=Nat.succ_mul _ k
    refine (ABY (o:=(i+j)*k) (hg j hj) (hc.ok _ (by omega)) (by have:=hsz j hj;omega) (λl x y hx hy=>hc.rel (i+j) l x y (by omega) hx hy) (λv hv=>IS _ _ v (hg j hj) hv) l x y hx (by rw[e1];exact hy))
mutual
theorem AAS{F:xE}(hF:uT B B' ι F):∀(x:DVal) (y:AVal) (v:Value),IM (Qx F x y)->VRel B ι D y v->DRel B' x v
 | .v x,y,v,h,hv=>by
  cases y<;>simp only[Qx] at h<;>try exact h.elim
  exact (IS _ _ v (KQ _ _ h) hv.d_inv).mono hF.1
 | .anyB,y,v,h,hv=>by
  cases y<;>simp only[Qx] at h<;>try exact h.elim
  exact (IS _ _ v (KQ _ _ h) hv.d_inv).mono hF.1
 | .iface x c,y,v,h,hv=>by
  cases y<;>simp only[Qx] at h<;>try exact h.elim
  exact (IS _ _ v (KQ _ _ h) hv.d_inv).mono hF.1
 | .eref x c,y,v,h,hv=>by
  cases y<;>simp only[Qx] at h<;>try exact h.elim
  exact (IS _ _ v (KQ _ _ h) hv.d_inv).mono hF.1
 | .arr k n g,y,v,h,hv=>by
  cases y<;>simp only[Qx] at h<;>try exact h.elim
  exact (IS _ _ v (KQ _ _ h) hv.d_inv).mono hF.1
 | .list k n g e,y,v,h,hv=>by
  cases y<;>simp only[Qx] at h<;>try exact h.elim
  ·exact (IS _ _ v (KQ _ _ h) hv.d_inv).mono hF.1
  ·split at h
   ·rename_i k2 m get hf
    split at h
    ·rename_i hc
     simp only[Bool.and_eq_true,MT,Bool.not_eq_true'] at hc
     obtain⟨⟨rfl,rfl⟩,rfl⟩:=hc
     obtain⟨h1,h2⟩:=PU.1 h
     obtain⟨h2,h3⟩:=PU.1 h2
     exact ANZ hF hf h1 h2 (λj hj=>KQ _ _ (h3 j hj)) hv
    ·exact h.elim
   ·exact h.elim
 | .agg xs,y,v,h,hv=>by
  cases y<;>simp only[Qx] at h<;>try exact h.elim
  ·exact (IS _ _ v (KQ _ _ h) hv.d_inv).mono hF.1
  ·cases hv with
   |agg hl hr=>
    exact .agg (by rw[hl,sM h]) λj x z hx hz=>by
     obtain⟨y,hy,hs⟩:=sN h hx
     exact gG hF xs j x y z hx hs (hr j y z hy hz)
 | .tup xs,y,v,h,hv=>by
  cases y<;>simp only[Qx] at h<;>try exact h.elim
  ·exact (IS _ _ v (KQ _ _ h) hv.d_inv).mono hF.1
  ·cases hv with
   |tup hl hr=>
    exact .tup (by rw[hl,sM h]) λj x z hx hz=>by
     obtain⟨y,hy,hs⟩:=sN h hx
     exact gG hF xs j x y z hx hs (hr j y z hy hz)
theorem gG{F:xE}(hF:uT B B' ι F):∀(l:List DVal) (j:Nat) (x:DVal) (y:AVal) (v:Value),l[j]?=some x->IM (Qx F x y)->VRel B ι D y v->DRel B' x v
 |[],j,x,y,v,hx,_,_=>by simp at hx
 |a :: l,0,x,y,v,hx,h,hv=>by simp at hx;subst hx;exact AAS hF a y v h hv
 |a :: l,j+1,x,y,v,hx,h,hv=>gG hF l j x y v (by simpa using hx) h hv
end
def BWV:Fn->Fn->Option (List Prop)
 | .func a,.func b=>if Nat.beq a b then some [] else none
 |f,g=>some [f=g]
theorem BJY{f g:Fn}(h:IM (BWV f g)):f=g:=by
 unfold BWV at h
 split at h
 ·split at h
  ·rename_i hb;rw[Nat.eq_of_beq_eq_true hb]
  ·exact h.elim
 ·exact h
mutual
def Kx(F:xE)(ρ:Nat->Nat)(p:Nat->Bool):AVal->AVal->Option (List Prop)
 | .any,_=>some []
 | .d x,y=>Qx F x y
 | .agg xs,.agg ys=>TR F ρ p xs ys
 | .agg xs,.d (.agg ys)=>TR F ρ p xs (ys.map .d)
 | .tup xs,.tup ys=>TR F ρ p xs ys
 | .tup xs,.d (.tup ys)=>TR F ρ p xs (ys.map .d)
 | .bptr i c,.bptr j d=>if Nat.beq j (ρ i)&&p i&&Nat.beq c d then some [] else none
 | .rptr i k e c,.rptr j k' e' c'=>if Nat.beq j (ρ i)&&p i&&Nat.beq k k'&&Nat.beq c c' then some [e=e'] else none
 | .own i k e n,.own j k' e' n'=>if Nat.beq j (ρ i)&&p i&&Nat.beq k k' then some [e=e',n=n'] else none
 | .fn f a b,.fn g c d=>qU (BWV f g) (qU (TR F ρ p a c) (TR F ρ p b d))
 | .mref i,.mref j=>if Nat.beq j (ρ i)&&p i then some [] else none
 | .opt g a,.opt h b=>qU (some [g=h]) (Kx F ρ p a b)
 |_,_=>none
def TR(F:xE)(ρ:Nat->Nat)(p:Nat->Bool):List AVal->List AVal->Option (List Prop)
 |[],[]=>some []
 |x :: xs,y :: ys=>qU (Kx F ρ p x y) (TR F ρ p xs ys)
 |_,_=>none
end
theorem Ch{F:xE}{ρ:Nat->Nat}{p:Nat->Bool}:∀{xs ys:List AVal},IM (TR F ρ p xs ys)->xs.length=ys.length
 |[],[],_=>rfl
 |x :: xs,y :: ys,h=>by simp only[TR] at h;simp[Ch (KE h).2]
 |[],_ :: _,h=>by simp only[TR] at h;exact h.elim
 |_ :: _,[],h=>by simp only[TR] at h;exact h.elim
theorem Ca{F:xE}{ρ:Nat->Nat}{p:Nat->Bool}:∀{xs ys:List AVal},IM (TR F ρ p xs ys)->∀{j:Nat} {x:AVal},xs[j]?=some x->∃y,ys[j]?=some y/\IM (Kx F ρ p x y)
 |[],[],_,j,x,hx=>by simp at hx
 |a :: xs,b :: ys,h,0,x,hx=>by simp only[TR] at h;simp at hx;subst hx;exact⟨b,rfl,(KE h).1⟩
 |a :: xs,b :: ys,h,j+1,x,hx=>by
  simp only[TR] at h
  obtain⟨y,hy,hs⟩:=Ca (KE h).2 (j:=j) (by simpa using hx)
  exact⟨y,by simpa using hy,hs⟩
 |[],_ :: _,h,_,_,_=>by simp only[TR] at h;exact h.elim
 |_ :: _,[],h,_,_,_=>by simp only[TR] at h;exact h.elim
theorem CIH{ys:List DVal}{v:Value}(h:DRel B (.agg ys) v):VRel B ι D (.agg (ys.map .d)) v:=by
 cases h with
 |agg hl hr=>
  refine .agg (by simp[hl]) λj x z hx hz=>?_
  rw[List.getElem?_map] at hx
  obtain⟨x',h1,rfl⟩:=Option.map_eq_some_iff.1 hx
  exact .d (hr j x' z h1 hz)
theorem CGK{ys:List DVal}{v:Value}(h:DRel B (.tup ys) v):VRel B ι D (.tup (ys.map .d)) v:=by
 cases h with
 |tup hl hr=>
  refine .tup (by simp[hl]) λj x z hx hz=>?_
  rw[List.getElem?_map] at hx
  obtain⟨x',h1,rfl⟩:=Option.map_eq_some_iff.1 hx
  exact .d (hr j x' z h1 hz)
mutual
theorem Sm{F:xE}(hF:uT B B' ι F){ρ:Nat->Nat}{p:Nat->Bool}{D':Nat->Prop}(hp:∀i,p i=true->D' i):∀(x y:AVal) (v:Value),IM (Kx F ρ p x y)->VRel B ι D y v->VRel B' (λi=>ι (ρ i)) D' x v
 | .any,_,_,_,_=>.any
 | .d x,y,v,h,hv=>.d (AAS hF x y v (by simpa only[Kx] using h) hv)
 | .agg xs,y,v,h,hv=>by
  have fin:∀ys:List AVal,IM (TR F ρ p xs ys)->VRel B ι D (.agg ys) v->VRel B' (λi=>ι (ρ i)) D' (.agg xs) v:=λys h hv=>by
   cases hv with
   |agg hl hr=>
    exact .agg (by rw[hl,Ch h]) λj x z hx hz=>by
     obtain⟨y,hy,hs⟩:=Ca h hx
     exact Em hF hp xs j x y z hx hs (hr j y z hy hz)
  cases y<;>(try simp only[Kx] at h)<;>try exact h.elim
  ·rename_i x
   cases x<;>(try simp only[Kx] at h)<;>try exact h.elim
   exact fin _ h (CIH hv.d_inv)
  ·exact fin _ h hv
 | .tup xs,y,v,h,hv=>by
  have fin:∀ys:List AVal,IM (TR F ρ p xs ys)->VRel B ι D (.tup ys) v->VRel B' (λi=>ι (ρ i)) D' (.tup xs) v:=λys h hv=>by
   cases hv with
   |tup hl hr=>
    exact .tup (by rw[hl,Ch h]) λj x z hx hz=>by
     obtain⟨y,hy,hs⟩:=Ca h hx
     exact Em hF hp xs j x y z hx hs (hr j y z hy hz)
  cases y<;>(try simp only[Kx] at h)<;>try exact h.elim
  ·rename_i x
   cases x<;>(try simp only[Kx] at h)<;>try exact h.elim
   exact fin _ h (CGK hv.d_inv)
  ·exact fin _ h hv
 | .bptr i c,y,v,h,hv=>by
  cases y<;>simp only[Kx] at h<;>try exact h.elim
  split at h
  ·rename_i hc
   simp only[Bool.and_eq_true,MT] at hc
   obtain⟨⟨rfl,h2⟩,rfl⟩:=hc
   cases hv;exact VRel.bptr (ι:=λi=>ι (ρ i)) (hp _ h2)
  ·exact h.elim
 | .rptr i k e c,y,v,h,hv=>by
  cases y<;>simp only[Kx] at h<;>try exact h.elim
  split at h
  ·rename_i hc
   simp only[Bool.and_eq_true,MT] at hc
   obtain⟨⟨⟨rfl,h2⟩,rfl⟩,rfl⟩:=hc
   have h:e=_:=h
   subst h
   cases hv;exact VRel.rptr (ι:=λi=>ι (ρ i)) (hp _ h2)
  ·exact h.elim
 | .own i k e n,y,v,h,hv=>by
  cases y<;>simp only[Kx] at h<;>try exact h.elim
  split at h
  ·rename_i hc
   simp only[Bool.and_eq_true,MT] at hc
   obtain⟨⟨rfl,h2⟩,rfl⟩:=hc
   obtain⟨h3,h4⟩:=PU.1 h
   have h4:n=_:=h4
   subst h3;subst h4
   cases hv with
   |own _ h3 h4=>exact VRel.own (ι:=λi=>ι (ρ i)) (hp _ h2) h3 h4
  ·exact h.elim
 | .fn f a b,y,v,h,hv=>by
  cases y<;>simp only[Kx] at h<;>try exact h.elim
  obtain⟨h1,h2⟩:=KE h
  obtain⟨h2,h3⟩:=KE h2
  have h1:=BJY h1
  subst h1
  cases hv with
  |fn h4 h5 h6 h7=>
   exact .fn (by rw[h4,Ch h2]) (by rw[h5,Ch h3])
    (λj x z hx hz=>by
     obtain⟨y,hy,hs⟩:=Ca h2 hx
     exact Em hF hp a j x y z hx hs (h6 j y z hy hz))
    λj x z hx hz=>by
     obtain⟨y,hy,hs⟩:=Ca h3 hx
     exact Em hF hp b j x y z hx hs (h7 j y z hy hz)
 | .mref i,y,v,h,hv=>by
  cases y<;>simp only[Kx] at h<;>try exact h.elim
  split at h
  ·rename_i hc
   simp only[Bool.and_eq_true,MT] at hc
   obtain⟨rfl,h2⟩:=hc
   cases hv;exact VRel.mref (ι:=λi=>ι (ρ i)) (hp _ h2)
  ·exact h.elim
 | .opt g a,y,v,h,hv=>by
  cases y<;>simp only[Kx] at h<;>try exact h.elim
  obtain⟨h1,h2⟩:=KE h
  have h1:g=_:=h1
  subst h1
  cases hv with
  |opt h3 h4=>exact .opt (λhg=>Sm hF hp a _ v h2 (h3 hg)) h4
theorem Em{F:xE}(hF:uT B B' ι F){ρ:Nat->Nat}{p:Nat->Bool}{D':Nat->Prop}(hp:∀i,p i=true->D' i):∀(l:List AVal) (j:Nat) (x y:AVal) (v:Value),l[j]?=some x->IM (Kx F ρ p x y)->VRel B ι D y v->VRel B' (λi=>ι (ρ i)) D' x v
 |[],j,x,y,v,hx,_,_=>by simp at hx
 |a :: l,0,x,y,v,hx,h,hv=>by simp at hx;subst hx;exact Sm hF hp a y v h hv
 |a :: l,j+1,x,y,v,hx,h,hv=>Em hF hp l j x y v (by simpa using hx) h hv
end
def jB(F:xE)(ρ:Nat->Nat)(p:Nat->Bool):AObj->AObj->Option (List Prop)
 | .row k n g,.row k' n' g'=>if Nat.beq k k' then some [n=n',∀i,i<n->IM (Mu (g i) (g' i))] else none
 | .box es,.box es'=>TR F ρ p es es'
 | .imap q z h g s none,.imap q' z' h' g' s' none=>if q=q' then some [z=z',∀n,h n=h' n,∀n,s n=s' n,∀n,IM (Mu (g n) (g' n))] else none
 |_,_=>none
theorem dA{F:xE}(hF:uT B B' ι F){ρ:Nat->Nat}{p:Nat->Bool}{D':Nat->Prop}(hp:∀i,p i=true->D' i){q:Nat}{a b:AObj}{x:Option Obj}(h:IM (jB F ρ p a b))(hb:ORel B ι D q b x):ORel B' (λi=>ι (ρ i)) D' q a x:=by
 cases a with
 |row k n g=>
  cases b<;>simp only[jB] at h<;>try exact h.elim
  split at h
  ·rename_i hc
   obtain⟨h1,h2⟩:=PU.1 h
   have hs:osub ρ p (.row k n g) (.row _ _ _):=⟨Nat.eq_of_beq_eq_true hc,h1,λi hi=>KQ _ _ (h2 i hi)⟩
   exact (J6 hp hs hb).mono hF.1 λi hi=>⟨hi,rfl⟩
  ·exact h.elim
 |box es=>
  cases b<;>simp only[jB] at h<;>try exact h.elim
  cases hb with
  |box hsz hr=>
   exact .box (by rw[hsz,Ch h]) λj x z hx hz=>by
    obtain⟨y,hy,hs⟩:=Ca h hx
    exact Em hF hp es j x y z hx hs (hr j y z hy hz)
 |imap q z hs g st pend=>
  cases pend with
  |some x=>cases b<;>simp only[jB] at h<;>exact h.elim
  |none=>
  cases b<;>try (simp only[jB] at h;exact h.elim)
  rename_i q' z' hs' g' st' pend'
  cases pend' with
  |some x=>simp only[jB] at h;exact h.elim
  |none=>
  simp only[jB] at h
  split at h
  ·rename_i hc
   obtain⟨h1,h3⟩:=PU.1 h
   obtain⟨h3,h4⟩:=PU.1 h3
   obtain⟨h4,h5⟩:=PU.1 h4
   have hs:osub ρ p (.imap q z hs g st none) (.imap _ _ _ _ _ _):=⟨hc,h1,rfl,h3,h4,λn=>KQ _ _ (h5 n)⟩
   exact (J6 hp hs hb).mono hF.1 λi hi=>⟨hi,rfl⟩
  ·exact h.elim
def HK(H:Heap):List Nat->Heap
 |[]=>H
 |id :: r=>match H id with
  | .live (.row _ _ _)=>HK (IV H id .dead) r
  |_=>HK H r
def SA(H:Heap)(ids:List Nat):xE:=λid=>if ids.contains id then match H id with
  | .live (.row k m get)=>some (k,m,get)
  |_=>none
 else none
theorem YA:∀(ids:List Nat) {B:Jk} {H:Heap},HRel B ι H w->∃B',Moved B ι H w B' ι (HK H ids) w/\uT B B' ι (SA H ids)
 |[],B,H,h=>⟨B,Moved.refl h,λ_ _ h=>h,λid k m get hf=>by simp[SA] at hf⟩
 |id :: r,B,H,h=>by
  simp only[HK]
  split
  ·rename_i k m get hid
   obtain⟨c,e,h1,h2,h3,h4,h5,h6⟩:=Moved.freeze h hid
   obtain⟨B',h7,h8⟩:=YA r h2.heap
   refine⟨B',h2.trans h7,λb c hb=>h8.1 b c (h2.bm b c hb),λid' k' m' get' hf=>?_⟩
   by_cases he:id'=id
   ·subst he
    simp only[SA,List.contains_cons,beq_self_eq_true,Bool.true_or,if_true,hid,Option.some.injEq,Prod.mk.injEq] at hf
    obtain⟨rfl,rfl,rfl⟩:=hf
    exact⟨c,h8.1 _ _ (by simp),h3,h4,h5,λi j x y hi hx hy=>(h6 i j x y hi hx hy).mono λb c hb=>h8.1 b c (h2.bm b c hb)⟩
   ·refine h8.2 id' k' m' get' ?_
    have e1:(id'==id)=false:=by simpa using he
    simp only[SA,List.contains_cons,e1,Bool.false_or] at hf
    simp only[SA,MQ _ _ he]
    exact hf
  ·rename_i hn
   obtain⟨B',h7,h8⟩:=YA r h
   refine⟨B',h7,h8.1,λid' k' m' get' hf=>?_⟩
   by_cases he:id'=id
   ·subst he
    simp only[SA,List.contains_cons,beq_self_eq_true,Bool.true_or,if_true] at hf
    first | cases hf | (split at hf;(rename_i hq;exact (hn _ _ _ hq).elim);cases hf)
   ·refine h8.2 id' k' m' get' ?_
    have e1:(id'==id)=false:=by simpa using he
    simp only[SA,List.contains_cons,e1,Bool.false_or] at hf
    exact hf
theorem Ox:∀(ids:List Nat) {H:Heap} {i:Nat} {o:AObj},HK H ids i=.live o->H i=.live o
 |[],_,_,_,h=>h
 |id :: r,H,i,o,h=>by
  have key:∀H',(H'=H∨H'=IV H id .dead)->HK H' r i=.live o->H i=.live o:=λH' hH h=>by
   have:=Ox r h
   rcases hH with rfl | rfl
   ·exact this
   ·by_cases he:i=id
    ·subst he;rw[NF] at this;cases this
    ·rwa [MQ _ _ he] at this
  simp only[HK] at h
  cases hq:H id with
  |live o'=>cases o' with
   |row=>simp only[hq] at h;exact key _ (.inr rfl) h
   |_=>simp only[hq] at h;exact key _ (.inl rfl) h
  |_=>simp only[hq] at h;exact key _ (.inl rfl) h
def AKO(F:xE)(ρ:Nat->Nat)(p:Nat->Bool):HCell->HCell->Option (List Prop)
 | .live o,.live o'=>jB F ρ p o o'
 | .dead,.live _=>some []
 | .dead,.dead=>some []
 |_,_=>none
def BGX(F:xE)(ρ:Nat->Nat)(p:Nat->Bool)(sl:Nat->AVal):List (Nat×AVal)->Option (List Prop)
 |[]=>some []
 |(t,v) :: r=>qU (Kx F ρ p v (sl t)) (BGX F ρ p sl r)
def BWS(F:xE)(ρ:Nat->Nat)(p:Nat->Bool)(H:Heap):List (Nat×HCell)->Option (List Prop)
 |[]=>some []
 |(i,c) :: r=>qU (AKO F ρ p c (H (ρ i))) (BWS F ρ p H r)
theorem ANK{F:xE}{ρ:Nat->Nat}{p:Nat->Bool}{sl:Nat->AVal}:∀{l:List (Nat×AVal)},IM (BGX F ρ p sl l)->∀t,IM (Kx F ρ p (PN l t) (sl t))
 |[],_,t=>by simp only[PN,Kx];trivial
 |(j,v) :: r,h,t=>by
  obtain⟨h1,h2⟩:=KE h
  simp only[PN]
  split
  ·rename_i e;subst e;exact h1
  ·exact ANK h2 t
theorem ADU{F:xE}{ρ:Nat->Nat}{p:Nat->Bool}{H:Heap}:∀{l:List (Nat×HCell)},IM (BWS F ρ p H l)->∀{i:Nat} {c:HCell},(i,c)∈l->IM (AKO F ρ p c (H (ρ i)))
 |[],_,i,c,h=>by cases h
 |(j,d) :: r,h,i,c,hm=>by
  obtain⟨h1,h2⟩:=KE h
  rcases List.mem_cons.1 hm with hm | hm
  ·cases hm;exact h1
  ·exact ADU h2 hm
def Kk(E:List Nat)(fz:List Nat)(l:List (Nat×Nat))(s:ST)(σ:AState):Option (List Prop):=
 if (nodup (s.H.map λx=>OI l x.1)&&E.all λi=>Nat.beq (OI l i) i&&(Eh s.H i).isSome) then
  qU (BGX (SA σ.H fz) (OI l) (λi=>(Eh s.H i).isSome) σ.sl s.sl) (BWS (SA σ.H fz) (OI l) (λi=>(Eh s.H i).isSome) (HK σ.H fz) s.H)
 else none
theorem Moved.subF{B0:Jk}{ι0:Nat->Pl}{H0:Heap}{w0:World}{E fz:List Nat}{l:List (Nat×Nat)}{s:ST}{sl:Nat->AVal}(hE:∀i,H0.dom i->i∈E)(h:IM (Kk E fz l s ⟨sl,H⟩))(hm0:Moved B0 ι0 H0 w0 B ι H w) :
  ∃B',Moved B0 ι0 H0 w0 B' (λi=>ι (OI l i)) (jF s.H) w/\(∀t v,VRel B ι H.dom (sl t) v->VRel B' (λi=>ι (OI l i)) (jF s.H).dom (PN s.sl t) v)/\(∀i o,jF s.H i=.live o->∃o',H (OI l i)=.live o') /\
   (∀b c,B b=some c->B' b=some c)/\∀i∈E,(jF s.H).dom i/\OI l i=i:=by
 unfold Kk at h
 split at h
 case isFalse=>exact h.elim
 rename_i h3
 obtain⟨h1,h2⟩:=KE h
 simp only[Bool.and_eq_true,List.all_eq_true,MT] at h3
 obtain⟨h3,h4⟩:=h3
 have hnd:=YG h3
 obtain⟨B',hk,hF⟩:=YA fz hm0.heap
 have hm:=hm0.trans hk
 have hdom:∀i,(λi=>(Eh s.H i).isSome) i=true->(jF s.H).dom i:=λi hi=>by
  obtain⟨d,hd⟩:=Option.isSome_iff_exists.1 hi
  have:=ADU h2 (Ae hd)
  unfold Heap.dom
  show (Eh s.H i).getD .none≠.none
  rw[hd]
  intro he
  simp at he;subst he
  simp only[AKO] at this;exact this
 have live:∀i o,jF s.H i=.live o->(i,.live o)∈s.H/\∃o',HK H fz (OI l i)=.live o'/\IM (jB (SA H fz) (OI l) (λi=>(Eh s.H i).isSome) o o'):=λi o hi=>by
  have hg:Eh s.H i=some (.live o):=by
   have:(Eh s.H i).getD .none=.live o:=hi
   cases hq:Eh s.H i with
   |none=>rw[hq] at this;cases this
   |some d=>rw[hq] at this;simpa using this
  have hm:=Ae hg
  have:=ADU h2 hm
  refine⟨hm,?_⟩
  cases hq:HK H fz (OI l i) with
  |live o'=>rw[hq] at this;exact⟨o',rfl,this⟩
  |none=>rw[hq] at this;simp only[AKO] at this;exact this.elim
  |dead=>rw[hq] at this;simp only[AKO] at this;exact this.elim
 refine⟨B',?_,λt v hv=>Sm hF hdom _ _ _ (ANK h1 t) hv,λi o hi=>by obtain⟨_,o',ho,_⟩:=live i o hi;exact⟨o',Ox fz ho⟩,hF.1,λi hi=>⟨hdom i (h4 i hi).2,(h4 i hi).1⟩⟩
 refine⟨hm.bm,hm.bn,λi hi=>?_,⟨λi o hi=>?_,λi j o o' hi hj hij=>?_,λi o hi=>?_,hm.heap.imm⟩,λi o hi=>?_,hm.frame,hm.size,hm.calm⟩
 ·obtain⟨h5,h6⟩:=h4 i (hE i hi)
  exact⟨hdom i h6,by show ι (OI l i)=_;rw[h5];exact (hm.im i hi).2⟩
 ·obtain⟨_,o',ho,hs⟩:=live i o hi
  exact dA hF hdom hs (hm0.heap.obj _ _ (Ox fz ho))
 ·obtain⟨m1,o1,ho1,_⟩:=live i o hi
  obtain⟨m2,o2,ho2,_⟩:=live j o' hj
  exact (P0 hnd m1 m2 (hm.heap.inj _ _ _ _ ho1 ho2 hij)).1
 ·obtain⟨_,o',ho,_⟩:=live i o hi
  exact hm.heap.sep _ _ ho
 ·obtain⟨_,o',ho,_⟩:=live i o hi
  exact hm.own _ _ ho
theorem Rel.subF{c:Ctx}{E fz:List Nat}{l:List (Nat×Nat)}{s:ST}{σ:AState}{a:Act}(hE:∀i,c.H0.dom i->i∈E)(h:IM (Kk E fz l s σ))(hR:Rel c B ι σ a w):∃B',Rel c B' (λi=>ι (OI l i)) s.st a w:=by
 obtain⟨B',h1,h2,h3,_⟩:=Moved.subF hE h hR.mv
 obtain⟨Ds,d1,d0,d2,d3⟩:=hR.defers
 refine⟨B',λt=>h2 t _ (hR.slots t),hR.size,⟨Ds,d1,d0,d2,λD hD=>⟨(d3 D hD).1,(d3 D hD).2.here,λi o hi=>?_⟩⟩,h1⟩
 obtain⟨o',ho⟩:=h3 i o hi
 exact (d3 D hD).2.sep _ _ ho
theorem CodeE.subF{c:Ctx}{E fz:List Nat}{l:List (Nat×Nat)}{s:ST}{σ:AState}{code:Code}{Q:Exit->AState->Prop}(hE:∀i,c.H0.dom i->i∈E)(hs:IM (Kk E fz l s σ))(h:CodeE P c code Q s.st):CodeE P c code Q σ:=
 λ_ _ a w hR=>let ⟨B',hR'⟩:=Rel.subF hE hs hR;h B' _ a w hR'
def andK:List Prop->Prop->Prop
 |[],K=>K
 |l,K=>FT l/\K
theorem WX{l:List Prop}{K:Prop}(h:andK l K):FT l/\K:=by
 cases l with
 |nil=>exact⟨trivial,h⟩
 |cons=>exact h
def BKH:Option (List Prop)->Prop->Prop
 |some l,K=>andK l K
 |none,_=>False
theorem T5{l:Option (List Prop)}{K:Prop}(h:BKH l K):IM l/\K:=by
 cases l with
 |none=>exact h.elim
 |some l=>exact WX h
end Go.Sym

namespace Go.Sym
theorem Hq{a b:List Prop}:FT (a ++ b)↔FT a/\FT b:=by
 induction a with
 |nil=>simp[FT]
 |cons p a ih=>rw[List.cons_append,PU,PU,ih,and_assoc]
variable {P : Program} {B B' : Jk} {ι ι' : Nat -> Pl} {H H' : Heap} {D : Nat -> Prop} {w w' : World}
def BCM(o:Oper)(t:Nat):Bool:=match o.dst with
 |some d=>Nat.beq d t
 |none=>false
theorem BGW{o:Oper}{t:Nat}(h:BCM o t=true):o.dst=some t:=by
 unfold BCM at h
 split at h
 ·rename_i d hd;rw[hd,Nat.eq_of_beq_eq_true h]
 ·cases h
def Wo:List Oper->Bool
 |[]=>true
 |o :: l=>(match o.dst with
  |some d=>l.all λo'=>!BCM o' d
  |none=>true)&&Wo l
theorem uD{l:List Oper}(h:Wo l=true){i k:Nat}{o o':Oper}{t:Nat}(hik:i<k)(ho:l[i]?=some o)(ho':l[k]?=some o')(ht:o.dst=some t):o'.dst≠some t:=by
 induction l generalizing i k with
 |nil=>simp at ho
 |cons a l ih=>
  simp only[Wo,Bool.and_eq_true] at h
  cases k with
  |zero=>omega
  |succ k=>
   rw[List.getElem?_cons_succ] at ho'
   cases i with
   |zero=>
    rw[List.getElem?_cons_zero] at ho
    cases ho
    have h1:=h.1
    rw[ht] at h1
    simp only[List.all_eq_true] at h1
    have:=h1 o' (List.mem_of_getElem? ho')
    intro he
    simp[BCM,he] at this
   |succ i=>exact ih h.2 (i:=i) (k:=k) (by omega) (by rw[List.getElem?_cons_succ] at ho;exact ho) ho'
def lowL:List Oper->Nat->Bool
 |[],_=>true
 |o :: l,k=>(match o.guard with
  |some q=>Nat.blt q.1 k
  |none=>true)&&lowL l (k+1)
theorem xP:∀{l:List Oper} {k:Nat},lowL l k=true->∀{i:Nat} {o:Oper} {q:Nat×Bool},l[i]?=some o->o.guard=some q->q.1<k+i
 |[],_,_,i,o,q,h,_=>by simp at h
 |a :: l,k,h,0,o,q,ho,hq=>by
  simp only[lowL,Bool.and_eq_true] at h
  simp at ho;subst ho
  have h1:=h.1
  rw[hq] at h1
  simpa using h1
 |a :: l,k,h,i+1,o,q,ho,hq=>by
  simp only[lowL,Bool.and_eq_true] at h
  have:=xP h.2 (i:=i) (by simpa using ho) hq
  omega
def wg:List Oper->Nat->Nat->Option (Nat×Bool)
 |[],_,_=>none
 |_ :: _,0,_=>none
 |o :: l,k+1,t=>if BCM o t then o.guard else wg l k t
theorem BOU:∀{l:List Oper} {k t:Nat} {q:Nat×Bool},wg l k t=some q->∃i o,i<k/\l[i]?=some o/\o.dst=some t/\o.guard=some q
 |[],k,t,q,h=>by simp[wg] at h
 |o :: l,0,t,q,h=>by simp[wg] at h
 |o :: l,k+1,t,q,h=>by
  simp only[wg] at h
  split at h
  ·rename_i hd;exact⟨0,o,by omega,rfl,BGW hd,h⟩
  ·obtain⟨i,o',h1,h2,h3⟩:=BOU h
   exact⟨i+1,o',by omega,by simpa using h2,h3⟩
def gcov(ops:Array Oper):Nat->Nat×Bool->Nat×Bool->Bool
 |0,_,_=>false
 |f+1,q,q'=>(Nat.beq q.1 q'.1&&(q.2==q'.2))||match (ops[q.1]?).bind (·.guard) with
  |some q2=>gcov ops f q2 q'
  |none=>false
def GInv(ops:Array Oper)(sl:Nat->AVal)(k:Nat):Prop:=
 ∀i o t q,i<k->ops[i]?=some o->o.dst=some t->o.guard=some q->∃g v,sl t=.opt g v/\MB ops sl q.1 q.2=some g
theorem BJX{ops:Array Oper}{sl:Nat->AVal}{j:Nat}{want g gd:Bool}{t:Nat}{v:AVal}(ht:(ops[j]?).bind (·.dst)=some t)(hs:sl t=.opt gd v)(h:MB ops sl j want=some g)(hg:g=true):gd=true:=by
 unfold MB at h
 rw[ht] at h
 simp only[hs] at h
 split at h<;>simp_all
theorem BFY{ops:Array Oper}{sl:Nat->AVal}{j:Nat}{want g:Bool}(h:MB ops sl j want=some g):∃o t,ops[j]?=some o/\o.dst=some t:=by
 unfold MB at h
 split at h
 ·rename_i t ht
  cases hj:ops[j]? with
  |none=>rw[hj] at ht;cases ht
  |some o=>rw[hj] at ht;exact⟨o,t,rfl,ht⟩
 ·cases h
theorem AUF{ops:Array Oper}{sl:Nat->AVal}{k:Nat}(hI:GInv ops sl k)(hl:lowL ops.toList 0=true):∀(f:Nat) (q q':Nat×Bool) (g g':Bool),gcov ops f q q'=true->q.1<k->MB ops sl q.1 q.2=some g->g=true->MB ops sl q'.1 q'.2=some g'->g'=true
 |0,_,_,_,_,h,_,_,_,_=>by simp[gcov] at h
 |f+1,q,q',g,g',h,hq,h1,hg,h2=>by
  simp only[gcov,Bool.or_eq_true,Bool.and_eq_true,MT,beq_iff_eq] at h
  rcases h with⟨e1,e2⟩ | h
  ·rw[<-e1,<-e2,h1] at h2;cases h2;exact hg
  ·split at h
   ·rename_i q2 hq2
    obtain⟨o,t,ho,ht⟩:=BFY h1
    have hgq:o.guard=some q2:=by rw[ho] at hq2;exact hq2
    obtain⟨gd,v,hs,hgd⟩:=hI q.1 o t q2 hq ho ht hgq
    have:=BJX (by rw[ho];exact ht) hs h1 hg
    have hlow:=xP hl (i:=q.1) (by simpa using ho) hgq
    exact AUF hI hl f q2 q' gd g' h (by omega) hgd this h2
   ·cases h
def tagW(cv:Nat×Bool->Bool)(ops:Array Oper)(k:Nat)(c:Prop)(x:Operand)(a:AVal):List Prop:=match a with
 | .opt g _=>match x with
  | .tmp t=>match wg ops.toList k t with
   |some q=>if cv q then [] else [c->g=true]
   |none=>[c->g=true]
  |_=>[c->g=true]
 |_=>[]
theorem wC{cv:Nat×Bool->Bool}{ops:Array Oper}{sl:Nat->AVal}{k:Nat}{c:Prop}{x:Operand}(hI:GInv ops sl k)(hcv:∀q g,cv q=true->MB ops sl q.1 q.2=some g->c->g=true)(h:FT (tagW cv ops k c x (CO sl x))):FT (Xc c (CO sl x)):=by
 generalize ha:CO sl x=a at h
 cases a with
 |opt g v=>
  simp only[tagW] at h
  split at h
  ·rename_i t
   split at h
   ·rename_i q hq
    split at h
    ·rename_i hc
     obtain⟨i,o,h1,h2,h3,h4⟩:=BOU hq
     obtain⟨g',v',h5,h6⟩:=hI i o t q h1 (by simpa using h2) h3 h4
     have:sl t=.opt g v:=ha
     rw[h5] at this;cases this
     exact λc=>hcv q _ hc h6 c
    ·exact h
   ·exact h
  ·exact h
 |_=>trivial
def cvOwn(ops:Array Oper)(k:Nat)(gd:Option (Nat×Bool))(q:Nat×Bool):Bool:=match gd with
 |some g=>gcov ops (k+1) g q
 |none=>false
def BAS(ops:Array Oper)(k:Nat)(gd:Option (Nat×Bool))(c:Operand)(want:Bool)(q:Nat×Bool):Bool:=
 (match c,(ops[q.1]?).bind (·.dst) with
  | .tmp tc,some t=>Nat.beq t tc&&(q.2==want)
  |_,_=>false)||cvOwn ops k gd q
def BMN(ops:Array Oper)(k:Nat)(sl:Nat->AVal)(o:Oper):List Prop:=match o.op,o.guard with
 | .pick c a b,gd=>match GW (CO sl c) with
  | .d (.v (.bool t))=>tagW (cvOwn ops k gd) ops k True c (CO sl c) ++ (tagW (BAS ops k gd c true) ops k (t=true) a (CO sl a) ++ tagW (BAS ops k gd c false) ops k (t=false) b (CO sl b))
  |_=>[]
 |_,none=>[]
 |op,some q=>op.operands.toList.flatMap λx=>tagW (cvOwn ops k (some q)) ops k True x (CO sl x)
def qI(sl:Nat->AVal)(o:Oper):List Prop:=match o.op,o.guard with
 | .pick c a b,_=>match GW (CO sl c) with
  | .d (.v (.bool t))=>Xc True (CO sl c) ++ (Xc (t=true) (CO sl a) ++ Xc (t=false) (CO sl b))
  |_=>[]
 |_,none=>[]
 |op,some _=>Gq (CO sl) op.operands.toList
theorem AJP{ops:Array Oper}{sl:Nat->AVal}{k:Nat}{gd:Option (Nat×Bool)}{c:Operand}{want t:Bool}(hO:∀q g,cvOwn ops k gd q=true->MB ops sl q.1 q.2=some g->g=true)(hc:GW (CO sl c)=.d (.v (.bool t)))(ht:FT (Xc True (CO sl c)))(q:Nat×Bool)(g:Bool)
  (h:BAS ops k gd c want q=true) (hg:MB ops sl q.1 q.2=some g) (hw:t=want):g=true:=by
 simp only[BAS,Bool.or_eq_true] at h
 rcases h with h | h
 ·split at h
  ·rename_i tc t' hd
   simp only[Bool.and_eq_true,MT,beq_iff_eq] at h
   obtain⟨rfl,h2⟩:=h
   unfold MB at hg
   rw[hd] at hg
   simp only[CO] at hc ht
   subst hw
   rw[h2] at hg
   obtain⟨v,hv⟩:∃v,sl t'=v:=⟨_,rfl⟩
   simp only[hv] at hc ht hg
   cases v with
   |opt gc v'=>
    have:gc=true:=ht trivial
    subst this
    simp only[GW] at hc;subst hc
    cases t<;>simp at hg<;>exact hg
   |d x=>simp only[GW] at hc;cases hc;cases t<;>simp at hg<;>exact hg
   |_=>simp only[GW] at hc;cases hc
  ·cases h
 ·exact hO q g h hg
theorem BHL{ops:Array Oper}{sl:Nat->AVal}{k:Nat}{o:Oper}(hI:GInv ops sl k)(hl:lowL ops.toList 0=true)(ho:ops[k]?=some o)(hgd:∀q,o.guard=some q->MB ops sl q.1 q.2=some true)(h:FT (BMN ops k sl o)):FT (qI sl o):=by
 have hO:∀q g,cvOwn ops k o.guard q=true->MB ops sl q.1 q.2=some g->g=true:=λq g hc hg=>by
  unfold cvOwn at hc
  split at hc
  ·rename_i q0 hq0
   have:=xP hl (i:=k) (by simpa using ho) hq0
   exact AUF hI hl _ q0 q true g hc (by omega) (hgd q0 hq0) rfl hg
  ·cases hc
 unfold BMN at h
 unfold qI
 split at h
 ·rename_i c a b ho'
  split at h
  ·rename_i t hc
   obtain⟨h1,h2⟩:=DI h
   obtain⟨h2,h3⟩:=DI h2
   have t1:=wC hI (λq g a b _=>hO q g a b) h1
   exact Hq.2 ⟨t1,Hq.2 ⟨wC hI (λq g a b c=>AJP hO hc t1 q g a b c) h2,wC hI (λq g a b c=>AJP hO hc t1 q g a b c) h3⟩⟩
  ·trivial
 ·trivial
 ·rename_i q hgn hq
  rw[hgn] at hO
  generalize o.op.operands.toList=l at h
  induction l with
  |nil=>trivial
  |cons x l ih=>
   rw[List.flatMap_cons] at h
   obtain⟨h1,h2⟩:=DI h
   show FT (Xc True (CO sl x) ++ Gq (CO sl) l)
   exact Hq.2 ⟨wC hI (λq g a b _=>hO q g a b) h1,ih h2⟩
theorem GInv.next{ops:Array Oper}{sl:Nat->AVal}{k:Nat}{o:Oper}{v:AVal}(hI:GInv ops sl k)(hl:lowL ops.toList 0=true)(hd:Wo ops.toList=true)(ho:ops[k]?=some o)(hv:∀q,o.guard=some q->∃g v',v=.opt g v'/\MB ops sl q.1 q.2=some g)(sl':Nat->AVal)
  (hsl:∀t,sl' t=if o.dst=some t then v else sl t):GInv ops sl' (k+1):=by
 have hk:∀j want,j<k->MB ops sl' j want=MB ops sl j want:=λj want hj=>by
  unfold MB
  cases hjo:ops[j]? with
  |none=>rfl
  |some oj=>
   simp only[Option.bind_some]
   cases hdj:oj.dst with
   |none=>rfl
   |some t=>
    simp only
    rw[hsl t,if_neg (uD hd hj (by simpa using hjo) (by simpa using ho) hdj)]
 intro i o' t q hi ho' ht hq
 have hlow:=xP hl (i:=i) (by simpa using ho') hq
 rcases Nat.lt_or_ge i k with hik | hik
 ·obtain⟨g,v',h1,h2⟩:=hI i o' t q hik ho' ht hq
  refine⟨g,v',?_,by rw[hk _ _ (by omega)];exact h2⟩
  rw[hsl t,if_neg (uD hd hik (by simpa using ho') (by simpa using ho) ht)]
  exact h1
 ·have:i=k:=by omega
  subst this
  rw[ho] at ho';cases ho'
  obtain⟨g,v',h1,h2⟩:=hv q hq
  exact⟨g,v',by rw[hsl t,if_pos ht];exact h1,by rw[hk _ _ (by omega)];exact h2⟩
end Go.Sym
