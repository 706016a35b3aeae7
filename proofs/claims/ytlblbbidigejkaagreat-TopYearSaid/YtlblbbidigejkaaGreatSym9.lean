/- One state tells less than another. -/
import Derived.Test.YtlblbbidigejkaaGreatSym8
set_option linter.unusedVariables false
set_option linter.unusedSimpArgs false
namespace Go.Sym
variable {P : Program} {B B' : Ft} {ι ι' : Nat -> Pl} {H H' : Heap} {D : Nat -> Prop} {w w' : World}
mutual
def GY:DVal->DVal->Prop
 | .v x,.v y=>vEq x y
 | .agg xs,.agg ys=>Fs xs ys
 | .tup xs,.tup ys=>Fs xs ys
 | .list k n g e,.list k' n' g' e'=>(k=k'∨n=0)/\n=n'/\(e=true->e'=true)/\∀i,i<n->GY (g i) (g' i)
 | .arr k n g,.arr k' n' g'=>k=k'/\n=n'/\∀i,i<n->GY (g i) (g' i)
 | .eref x c,.eref y d=>c=d/\GY x y
 | .iface t x,.iface u y=>t=u/\GY x y
 | .anyB,.anyB=>True
 |_,_=>False
def Fs:List DVal->List DVal->Prop
 |[],[]=>True
 |x :: xs,y :: ys=>GY x y/\Fs xs ys
 |_,_=>False
def vEq:Value->Value->Prop
 | .int k a,.int k' b=>k=k'/\a=b
 | .bool a,.bool b=>a=b
 | .string a,.string b=>a=b
 |x,y=>x=y
end
theorem CDF{x y:Value}(h:vEq x y):x=y:=by
 unfold vEq at h
 split at h
 ·obtain⟨rfl,rfl⟩:=h;rfl
 ·rw[h]
 ·rw[h]
 ·exact h
theorem Jq:∀{xs ys:List DVal},Fs xs ys->xs.length=ys.length
 |[],[],_=>rfl
 |x :: xs,y :: ys,h=>by simp only[Fs] at h;simp[Jq h.2]
 |[],_ :: _,h=>by simp[Fs] at h
 |_ :: _,[],h=>by simp[Fs] at h
theorem Q7:∀{xs ys:List DVal},Fs xs ys->∀{j:Nat} {x:DVal},xs[j]?=some x->∃y,ys[j]?=some y/\GY x y
 |[],[],_,j,x,hx=>by simp at hx
 |a :: xs,b :: ys,h,0,x,hx=>by simp only[Fs] at h;simp at hx;subst hx;exact⟨b,rfl,h.1⟩
 |a :: xs,b :: ys,h,j+1,x,hx=>by
  simp only[Fs] at h
  obtain⟨y,hy,hs⟩:=Q7 h.2 (j:=j) (by simpa using hx)
  exact⟨y,by simpa using hy,hs⟩
 |[],_ :: _,h,_,_,_=>by simp[Fs] at h
 |_ :: _,[],h,_,_,_=>by simp[Fs] at h
theorem ALD:∀{x y:DVal},GY x y->Fs x.cells1 y.cells1
 | .v x,y,h=>by cases y<;>simp only[GY] at h;exact⟨by simpa[GY] using h,trivial⟩
 | .agg xs,y,h=>by cases y<;>simp only[GY] at h;exact h
 | .tup xs,y,h=>by cases y<;>(try simp only[GY] at h)<;>exact⟨by simpa only[GY] using h,trivial⟩
 | .list k n g e,y,h=>by cases y<;>(try simp only[GY] at h)<;>exact⟨by simpa only[GY] using h,trivial⟩
 | .arr k n g,y,h=>by cases y<;>(try simp only[GY] at h)<;>exact⟨by simpa only[GY] using h,trivial⟩
 | .eref a c,y,h=>by cases y<;>(try simp only[GY] at h)<;>exact⟨by simpa only[GY] using h,trivial⟩
 | .iface a c,y,h=>by cases y<;>(try simp only[GY] at h)<;>exact⟨by simpa only[GY] using h,trivial⟩
 | .anyB,y,h=>by cases y<;>(try simp only[GY] at h)<;>exact⟨by simp only[GY],trivial⟩
theorem ALW(x:DVal)(r:List DVal):EY (x :: r)=(EY [x]&&EY r):=by
 cases x with
 |v y=>cases y<;>simp[EY]
 |_=>simp[EY]
theorem BYP{x y:DVal}(h:GY x y):EY [x]=EY [y]:=by
 cases x<;>cases y<;>simp only[GY] at h<;>try rfl
 rw[CDF h]
theorem AWG:∀{xs ys:List DVal},Fs xs ys->EY xs=EY ys
 |[],[],_=>rfl
 |x :: xs,y :: ys,h=>by simp only[Fs] at h;rw[ALW,ALW y,BYP h.1,AWG h.2]
 |[],_ :: _,h=>by simp[Fs] at h
 |_ :: _,[],h=>by simp[Fs] at h
theorem AEV{k:Nat}{x y:DVal}(h:GY x y)(hy:EOk k y):EOk k x:=by
 have:=ALD h
 exact⟨by rw[Jq this];exact hy.len,by rw[AWG this];exact hy.one⟩
theorem BVP{e:DVal}{zs:Array Value}(hl:zs.size=e.cells1.length)(h:∀(j:Nat) (x:DVal) (z:Value),e.cells1[j]?=some x->zs[j]?=some z->DRel B x z) :
  ∃v,DRel B e v/\∀e2,GY e2 e->DRel B e2 v->∀(j:Nat) (x:DVal) (z:Value),e2.cells1[j]?=some x->zs[j]?=some z->DRel B x z:=by
 have other:e.cells1=[e]->(∀e2,GY e2 e->e2.cells1=[e2])->∃v,DRel B e v/\∀e2,GY e2 e->DRel B e2 v->∀(j:Nat) (x:DVal) (z:Value),e2.cells1[j]?=some x->zs[j]?=some z->DRel B x z:=by
  intro h1 h2
  rw[h1] at hl h
  have hz:0<zs.size:=by rw[hl];simp
  refine⟨zs[0],h 0 e zs[0] rfl (by simp[hz]),λe2 hs hv j x z hx hz'=>?_⟩
  rw[h2 e2 hs] at hx
  cases j with
  |zero=>simp at hx;subst hx;simp[hz] at hz';subst hz';exact hv
  |succ j=>simp at hx
 cases e with
 |agg ds=>
  refine⟨.agg zs,.agg hl h,λe2 hs hv j x z hx hz=>?_⟩
  cases e2<;>simp only[GY] at hs
  cases hv with
  |agg hl hr=>exact hr j x z hx hz
 |v y=>exact other rfl λe2 hs=>by cases e2<;>first | rfl | simp only[GY] at hs
 |tup y=>exact other rfl λe2 hs=>by cases e2<;>first | rfl | simp only[GY] at hs
 |list a b c d=>exact other rfl λe2 hs=>by cases e2<;>first | rfl | simp only[GY] at hs
 |eref a b=>exact other rfl λe2 hs=>by cases e2<;>first | rfl | simp only[GY] at hs
 |iface a b=>exact other rfl λe2 hs=>by cases e2<;>first | rfl | simp only[GY] at hs
 |anyB=>exact other rfl λe2 hs=>by cases e2<;>first | rfl | simp only[GY] at hs
 |arr a b c=>exact other rfl λe2 hs=>by cases e2<;>first | rfl | simp only[GY] at hs
theorem AFE{a b:DVal}{c:Array Value}{o k:Nat}(hs:GY a b)(ok:EOk k b)(hsz:o+k<=c.size)(h:∀(j:Nat) (x:DVal) (y:Value),b.cells1[j]?=some x->c[o+j]?=some y->DRel B x y)
  (down:∀v,DRel B b v->DRel B a v):∀(j:Nat) (x:DVal) (y:Value),a.cells1[j]?=some x->c[o+j]?=some y->DRel B x y:=by
 have hz:∀j,j<k->(c.extract o (o+k))[j]?=c[o+j]?:=λj hj=>by rw[Array.getElem?_extract];simp;omega
 obtain⟨v,h1,h2⟩:=BVP (B:=B) (e:=b) (zs:=c.extract o (o+k)) (by rw[ok.len];simp;omega) (λj x z hx hz'=>by
  have hlt:=(List.getElem?_eq_some_iff.1 hx).1
  rw[ok.len] at hlt
  rw[hz j hlt] at hz'
  exact h j x z hx hz')
 intro j x y hx hy
 have hlt:=(List.getElem?_eq_some_iff.1 hx).1
 rw[(AEV hs ok).len] at hlt
 exact h2 a hs (down v h1) j x y hx (by rw[hz j hlt];exact hy)
mutual
theorem DU:∀(x:DVal) (y:DVal) (v:Value),GY x y->DRel B y v->DRel B x v
 | .v x,y,v,h,hv=>by cases y<;>simp only[GY] at h;rw[CDF h];exact hv
 | .agg xs,y,v,h,hv=>by
  cases y<;>simp only[GY] at h
  cases hv with
  |agg hl hr=>
   exact .agg (by rw[hl,Jq h]) λj x z hx hz=>by
    obtain⟨y,hy,hs⟩:=Q7 h hx
    exact D0 xs j x y z hx hs (hr j y z hy hz)
 | .tup xs,y,v,h,hv=>by
  cases y<;>simp only[GY] at h
  cases hv with
  |tup hl hr=>
   exact .tup (by rw[hl,Jq h]) λj x z hx hz=>by
    obtain⟨y,hy,hs⟩:=Q7 h hx
    exact D0 xs j x y z hx hs (hr j y z hy hz)
 | .list k n g e,y,v,h,hv=>by
  cases y<;>simp only[GY] at h
  obtain⟨hkk,rfl,he,hg⟩:=h
  cases hv with
  |nil h1 h2=>exact .nil (λh=>h1 (he h)) h2
  |list hn hb hcap hex hk hsz hr=>
   rcases hkk with rfl | h0
   case inr=>omega
   refine .list hn hb hcap (λh=>hex (he h)) (λi hi=>AEV (hg i hi) (hk i hi)) hsz λi j x y hi hx hy=>?_
   have h1:(i+1)*k<=n*k:=Nat.mul_le_mul_right k hi
   have h2:(i+1)*k=i*k+k:=Nat.succ_mul i k
   exact AFE (hg i hi) (hk i hi) (by omega) (λj x y hx hy=>hr i j x y hi hx hy) (λv hv=>DU (g i) _ v (hg i hi) hv) j x y hx hy
 | .arr k n g,y,v,h,hv=>by
  cases y<;>simp only[GY] at h
  obtain⟨rfl,rfl,hg⟩:=h
  cases hv with
  |arr hl hk hr=>
   refine .arr hl (λi hi=>AEV (hg i hi) (hk i hi)) λi j x y hi hx hy=>?_
   have h1:(i+1)*k<=n*k:=Nat.mul_le_mul_right k hi
   have h2:(i+1)*k=i*k+k:=Nat.succ_mul i k
   exact AFE (hg i hi) (hk i hi) (by omega) (λj x y hx hy=>hr i j x y hi hx hy) (λv hv=>DU (g i) _ v (hg i hi) hv) j x y hx hy
 | .anyB,y,v,h,hv=>by
  cases y<;>simp only[GY] at h
  exact hv
 | .iface a c,y,v,h,hv=>by
  cases y<;>simp only[GY] at h
  obtain⟨rfl,hs⟩:=h
  cases hv with
  |iface hr=>exact .iface (DU _ _ _ hs hr)
 | .eref a c,y,v,h,hv=>by
  cases y<;>simp only[GY] at h
  obtain⟨rfl,hs⟩:=h
  cases hv with
  |eref hb hsz hr=>
   have hl:=Jq (ALD hs)
   rename_i d b off cs
   refine .eref hb (by omega) λj x y hx hy=>?_
   have hz:∀j,j<d.cells1.length->(cs.extract off (off+d.cells1.length))[j]?=cs[off+j]?:=λj hj=>by rw[Array.getElem?_extract];simp;omega
   obtain⟨v,h1,h2⟩:=BVP (B:=B) (e:=d) (zs:=cs.extract off (off+d.cells1.length)) (by simp;omega) (λj x z hx hz'=>by
    have hlt:=(List.getElem?_eq_some_iff.1 hx).1
    rw[hz j hlt] at hz'
    exact hr j x z hx hz')
   have hlt:=(List.getElem?_eq_some_iff.1 hx).1
   exact h2 a hs (DU a d v hs h1) j x y hx (by rw[hz j (by omega)];exact hy)
theorem D0:∀(l:List DVal) (j:Nat) (x y:DVal) (v:Value),l[j]?=some x->GY x y->DRel B y v->DRel B x v
 |[],j,x,y,v,hx,_,_=>by simp at hx
 |a :: l,0,x,y,v,hx,h,hv=>by simp at hx;subst hx;exact DU a y v h hv
 |a :: l,j+1,x,y,v,hx,h,hv=>D0 l j x y v (by simpa using hx) h hv
end
end Go.Sym
namespace Go.Sym
variable {P : Program} {B B' : Ft} {ι ι' : Nat -> Pl} {H H' : Heap} {D : Nat -> Prop} {w w' : World}
mutual
def zE(ρ:Nat->Nat)(p:Nat->Bool):AVal->AVal->Prop
 | .any,_=>True
 | .d x,.d y=>GY x y
 | .agg xs,.agg ys=>Sz ρ p xs ys
 | .tup xs,.tup ys=>Sz ρ p xs ys
 | .bptr i c,.bptr j d=>j=ρ i/\p i=true/\c=d
 | .rptr i k e c,.rptr j k' e' c'=>j=ρ i/\p i=true/\k=k'/\e=e'/\c=c'
 | .own i k e n,.own j k' e' n'=>j=ρ i/\p i=true/\k=k'/\e=e'/\n=n'
 | .fn f a b,.fn g c d=>f=g/\Sz ρ p a c/\Sz ρ p b d
 | .mref i,.mref j=>j=ρ i/\p i=true
 | .opt g a,.opt h b=>g=h/\zE ρ p a b
 |_,_=>False
def Sz(ρ:Nat->Nat)(p:Nat->Bool):List AVal->List AVal->Prop
 |[],[]=>True
 |x :: xs,y :: ys=>zE ρ p x y/\Sz ρ p xs ys
 |_,_=>False
end
theorem Cv{ρ:Nat->Nat}{p:Nat->Bool}:∀{xs ys:List AVal},Sz ρ p xs ys->xs.length=ys.length
 |[],[],_=>rfl
 |x :: xs,y :: ys,h=>by simp only[Sz] at h;simp[Cv h.2]
 |[],_ :: _,h=>by simp[Sz] at h
 |_ :: _,[],h=>by simp[Sz] at h
theorem Jk{ρ:Nat->Nat}{p:Nat->Bool}:∀{xs ys:List AVal},Sz ρ p xs ys->∀{j:Nat} {x:AVal},xs[j]?=some x->∃y,ys[j]?=some y/\zE ρ p x y
 |[],[],_,j,x,hx=>by simp at hx
 |a :: xs,b :: ys,h,0,x,hx=>by simp only[Sz] at h;simp at hx;subst hx;exact⟨b,rfl,h.1⟩
 |a :: xs,b :: ys,h,j+1,x,hx=>by
  simp only[Sz] at h
  obtain⟨y,hy,hs⟩:=Jk h.2 (j:=j) (by simpa using hx)
  exact⟨y,by simpa using hy,hs⟩
 |[],_ :: _,h,_,_,_=>by simp[Sz] at h
 |_ :: _,[],h,_,_,_=>by simp[Sz] at h
mutual
theorem rZ{ρ:Nat->Nat}{p:Nat->Bool}{D':Nat->Prop}(hp:∀i,p i=true->D' i):∀(x y:AVal) (v:Value),zE ρ p x y->VRel B ι D y v->VRel B (λi=>ι (ρ i)) D' x v
 | .any,_,_,_,_=>.any
 | .d x,y,v,h,hv=>by cases y<;>simp only[zE] at h;exact .d (DU _ _ _ h hv.d_inv)
 | .agg xs,y,v,h,hv=>by
  cases y<;>simp only[zE] at h
  cases hv with
  |agg hl hr=>
   exact .agg (by rw[hl,Cv h]) λj x z hx hz=>by
    obtain⟨y,hy,hs⟩:=Jk h hx
    exact Bl hp xs j x y z hx hs (hr j y z hy hz)
 | .tup xs,y,v,h,hv=>by
  cases y<;>simp only[zE] at h
  cases hv with
  |tup hl hr=>
   exact .tup (by rw[hl,Cv h]) λj x z hx hz=>by
    obtain⟨y,hy,hs⟩:=Jk h hx
    exact Bl hp xs j x y z hx hs (hr j y z hy hz)
 | .bptr i c,y,v,h,hv=>by
  cases y<;>simp only[zE] at h
  obtain⟨rfl,h2,rfl⟩:=h
  cases hv;exact VRel.bptr (ι:=λi=>ι (ρ i)) (hp _ h2)
 | .rptr i k e c,y,v,h,hv=>by
  cases y<;>simp only[zE] at h
  obtain⟨rfl,h2,rfl,rfl,rfl⟩:=h
  cases hv;exact VRel.rptr (ι:=λi=>ι (ρ i)) (hp _ h2)
 | .own i k e n,y,v,h,hv=>by
  cases y<;>simp only[zE] at h
  obtain⟨rfl,h2,rfl,rfl,rfl⟩:=h
  cases hv with
  |own _ h3 h4=>exact VRel.own (ι:=λi=>ι (ρ i)) (hp _ h2) h3 h4
 | .fn f a b,y,v,h,hv=>by
  cases y<;>simp only[zE] at h
  obtain⟨rfl,h1,h2⟩:=h
  cases hv with
  |fn h3 h4 h5 h6=>
   exact .fn (by rw[h3,Cv h1]) (by rw[h4,Cv h2])
    (λj x z hx hz=>by
     obtain⟨y,hy,hs⟩:=Jk h1 hx
     exact Bl hp a j x y z hx hs (h5 j y z hy hz))
    λj x z hx hz=>by
     obtain⟨y,hy,hs⟩:=Jk h2 hx
     exact Bl hp b j x y z hx hs (h6 j y z hy hz)
 | .mref i,y,v,h,hv=>by
  cases y<;>simp only[zE] at h
  obtain⟨rfl,h2⟩:=h
  cases hv;exact VRel.mref (ι:=λi=>ι (ρ i)) (hp _ h2)
 | .opt g a,y,v,h,hv=>by
  cases y<;>simp only[zE] at h
  obtain⟨rfl,h2⟩:=h
  cases hv with
  |opt h3 h4=>exact .opt (λhg=>rZ hp a _ v h2 (h3 hg)) h4
theorem Bl{ρ:Nat->Nat}{p:Nat->Bool}{D':Nat->Prop}(hp:∀i,p i=true->D' i):∀(l:List AVal) (j:Nat) (x y:AVal) (v:Value),l[j]?=some x->zE ρ p x y->VRel B ι D y v->VRel B (λi=>ι (ρ i)) D' x v
 |[],j,x,y,v,hx,_,_=>by simp at hx
 |a :: l,0,x,y,v,hx,h,hv=>by simp at hx;subst hx;exact rZ hp a y v h hv
 |a :: l,j+1,x,y,v,hx,h,hv=>Bl hp l j x y v (by simpa using hx) h hv
end
def osub(ρ:Nat->Nat)(p:Nat->Bool):AObj->AObj->Prop
 | .row k n g,.row k' n' g'=>k=k'/\n=n'/\∀i,i<n->GY (g i) (g' i)
 | .box es,.box es'=>Sz ρ p es es'
 | .imap q z h g s p,.imap q' z' h' g' s' p'=>q=q'/\z=z'/\p=p'/\(∀n,h n=h' n)/\(∀n,s n=s' n)/\∀n,GY (g n) (g' n)
 | .kmap q z h g,.kmap q' z' h' g'=>q=q'/\z=z'/\(∀n,h n=h' n)/\∀n,GY (g n) (g' n)
 | .abox es m g,.abox es' m' g'=>Sz ρ p es es'/\m=m'/\∀i,i<m->g i=g' i
 | .nbox ds m z g,.nbox ds' m' z' g'=>Fs ds ds'/\m=m'/\z=z'/\∀i,ds.length<=i->i<ds.length+m->g i=g' i
 | .miter m a b c d,.miter m' a' b' c' d'=>p m=true/\ρ m=m'/\(∀n,a n=a' n)/\(∀n,b n=b' n)/\(∀n,c n=c' n)/\(d=none∨d=d')
 |_,_=>False
theorem Rx{ρ:Nat->Nat}{p:Nat->Bool}{D':Nat->Prop}(hp:∀i,p i=true->D' i){q:Nat}{a b:AObj}{x:Option Obj}(h:osub ρ p a b)(hb:ORel B ι D q b x):ORel B (λi=>ι (ρ i)) D' q a x:=by
 cases a with
 |row k n g=>
  cases b<;>simp only[osub] at h
  obtain⟨rfl,rfl,hg⟩:=h
  cases hb with
  |row hk hn hsz hr=>
   refine .row (λi hi=>AEV (hg i hi) (hk i hi)) hn hsz λi j x y hi hx hy=>?_
   have h1:(i+1)*k<=n*k:=Nat.mul_le_mul_right k hi
   have h2:(i+1)*k=i*k+k:=Nat.succ_mul i k
   have h3:n*k<=q*k:=Nat.mul_le_mul_right k hn
   exact AFE (hg i hi) (hk i hi) (by omega) (λj x y hx hy=>hr i j x y hi hx hy) (λv hv=>DU (g i) _ v (hg i hi) hv) j x y hx hy
 |box es=>
  cases b<;>simp only[osub] at h
  cases hb with
  |box hsz hr=>
   exact .box (by rw[hsz,Cv h]) λj x z hx hz=>by
    obtain⟨y,hy,hs⟩:=Jk h hx
    exact Bl hp es j x y z hx hs (hr j y z hy hz)
 |imap kd z has get st pend=>
  cases b<;>simp only[osub] at h
  obtain⟨rfl,rfl,rfl,hh,hs,hg⟩:=h
  cases hb with
  |imap hm=>
   refine .imap ⟨λi e he=>?_,λn hn=>?_,λn hn=>hm.met n (by rw[<-hh n];exact hn),hm.once⟩
   ·obtain⟨n,h1,h2,h3,h4,h5⟩:=hm.keys i e he
    exact⟨n,h1,by rw[hh n];exact h2,h3,by rw[hs n];exact h4,DU _ _ _ (hg n) h5⟩
   ·obtain⟨h1,h2⟩:=hm.miss n (by rw[<-hh n];exact hn)
    exact⟨DU _ _ _ (hg n) h1,by rw[hs n];exact h2⟩
 |kmap kd z has get=>
  cases b<;>simp only[osub] at h
  obtain⟨rfl,rfl,hh,hg⟩:=h
  cases hb with
  |kmap hm=>
   refine .kmap ⟨λi e he=>?_,λn hn=>?_,λn hn=>hm.met n (by rw[<-hh n];exact hn),hm.once⟩
   ·obtain⟨n,h1,h2,h5⟩:=hm.keys i e he
    exact⟨n,h1,by rw[hh n];exact h2,DU _ _ _ (hg n) h5⟩
   ·exact DU _ _ _ (hg n) (hm.miss n (by rw[<-hh n];exact hn))
 |abox es m g=>
  cases b<;>simp only[osub] at h
  obtain⟨h,rfl,hg⟩:=h
  cases hb with
  |abox hsz hr hb=>
   exact .abox (by rw[hsz,Cv h]) (λj x z hx hz=>by
    obtain⟨y,hy,hs⟩:=Jk h hx
    exact Bl hp es j x y z hx hs (hr j y z hy hz)) λj hj=>by rw[Cv h,hg j hj];exact hb j hj
 |nbox ds m z g=>
  cases b<;>simp only[osub] at h
  obtain⟨h,rfl,rfl,hg⟩:=h
  cases hb with
  |nbox hsz hr hb=>
   exact .nbox (by rw[hsz,Jq h]) (λj x z hx hz=>by
    obtain⟨y,hy,hs⟩:=Q7 h hx
    exact DU x y z hs (hr j y z hy hz)) λj hj1 hj2=>by rw[hg j hj1 hj2];exact hb j (by rw[<-Jq h];exact hj1) (by rw[<-Jq h];exact hj2)
 |miter m a1 b1 c1 d1=>
  cases b<;>simp only[osub] at h
  obtain⟨h0,rfl,ha,hb',hc,hd⟩:=h
  obtain rfl:a1=_:=funext ha
  obtain rfl:b1=_:=funext hb'
  obtain rfl:c1=_:=funext hc
  cases hb with
  |miter hD h1 h2 h3 h4 h5=>
   refine .miter (hp m h0) h1 h2 h3 h4 λk hk=>?_
   rcases hd with rfl | rfl
   ·cases hk
   ·exact h5 k hk
def LF:List (Nat×AVal)->Nat->AVal
 |[],_=>.any
 |(j,v) :: r,t=>if t=j then v else LF r t
def lK(l:List (Nat×HCell)):Heap:=λi=>(Cu l i).getD .none
structure ST where
 sl:List (Nat×AVal)
 H:List (Nat×HCell)
def ST.st(s:ST):AState:=⟨LF s.sl,lK s.H⟩
def CCW(ρ:Nat->Nat)(p:Nat->Bool)(sl:Nat->AVal):List (Nat×AVal)->Prop
 |[]=>True
 |(t,v) :: r=>zE ρ p v (sl t)/\CCW ρ p sl r
def cSub(ρ:Nat->Nat)(p:Nat->Bool):HCell->HCell->Prop
 | .live o,.live o'=>osub ρ p o o'
 | .dead,.live _=>True
 | .dead,.dead=>True
 |_,_=>False
def hSub(ρ:Nat->Nat)(p:Nat->Bool)(H:Heap):List (Nat×HCell)->Prop
 |[]=>True
 |(i,c) :: r=>cSub ρ p c (H (ρ i))/\hSub ρ p H r
def NC(l:List (Nat×Nat))(i:Nat):Nat:=match l with
 |[]=>i
 |(a,b) :: r=>if i=a then b else NC r i
def CQU(E:List Nat)(l:List (Nat×Nat))(s:ST)(σ:AState):Prop:=
 CCW (NC l) (λi=>(Cu s.H i).isSome) σ.sl s.sl/\hSub (NC l) (λi=>(Cu s.H i).isSome) σ.H s.H /\
  (nodup (s.H.map λx=>NC l x.1)&&E.all λi=>NC l i==i&&(Cu s.H i).isSome)=true
theorem AVT{ρ:Nat->Nat}{p:Nat->Bool}{sl:Nat->AVal}:∀{l:List (Nat×AVal)},CCW ρ p sl l->∀t,zE ρ p (LF l t) (sl t)
 |[],_,t=>by simp[LF,zE]
 |(j,v) :: r,h,t=>by
  simp only[LF]
  split
  ·rename_i e;subst e;exact h.1
  ·exact AVT h.2 t
theorem AOT{ρ:Nat->Nat}{p:Nat->Bool}{H:Heap}:∀{l:List (Nat×HCell)},hSub ρ p H l->∀{i:Nat} {c:HCell},(i,c)∈l->cSub ρ p c (H (ρ i))
 |[],_,i,c,h=>by cases h
 |(j,d) :: r,h,i,c,hm=>by
  rcases List.mem_cons.1 hm with hm | hm
  ·cases hm;exact h.1
  ·exact AOT h.2 hm
theorem Rel.sub{c:Ctx}{E:List Nat}{l:List (Nat×Nat)}{s:ST}{σ:AState}{a:Act}(hE:∀i,c.H0.dom i->i∈E)(h:CQU E l s σ)(hR:Rel c B ι σ a w):Rel c B (λi=>ι (NC l i)) s.st a w:=by
 obtain⟨h1,h2,h3⟩:=h
 simp only[Bool.and_eq_true,List.all_eq_true,beq_iff_eq] at h3
 obtain⟨h3,h4⟩:=h3
 have hnd:=XJ h3
 have hdom:∀i,(λi=>(Cu s.H i).isSome) i=true->(ST.st s).H.dom i:=λi hi=>by
  obtain⟨d,hd⟩:=Option.isSome_iff_exists.1 hi
  have:=AOT h2 (YD hd)
  unfold Heap.dom
  show (Cu s.H i).getD .none≠.none
  rw[hd]
  intro he
  simp at he;subst he
  simp[cSub] at this
 have live:∀i o,(ST.st s).H i=.live o->(i,.live o)∈s.H/\∃o',σ.H (NC l i)=.live o'/\osub (NC l) (λi=>(Cu s.H i).isSome) o o':=λi o hi=>by
  have hg:Cu s.H i=some (.live o):=by
   have:(Cu s.H i).getD .none=.live o:=hi
   cases hq:Cu s.H i with
   |none=>rw[hq] at this;cases this
   |some d=>rw[hq] at this;simpa using this
  have hm:=YD hg
  have:=AOT h2 hm
  refine⟨hm,?_⟩
  cases hq:σ.H (NC l i) with
  |live o'=>rw[hq] at this;exact⟨o',rfl,this⟩
  |none=>rw[hq] at this;simp[cSub] at this
  |dead=>rw[hq] at this;simp[cSub] at this
 refine⟨λt=>rZ hdom _ _ _ (AVT h1 t) (hR.slots t),hR.size,?_,?_⟩
 ·obtain⟨Ds,d1,d0,d2,d3⟩:=hR.defers
  refine⟨Ds,d1,d0,d2,λD hD=>⟨(d3 D hD).1,(d3 D hD).2.here,λi o hi=>?_⟩⟩
  obtain⟨_,o',ho,_⟩:=live i o hi
  exact (d3 D hD).2.sep _ _ ho
 have hm:=hR.mv
 refine⟨hm.bm,hm.bn,λi hi=>?_,⟨λi o hi=>?_,λi j o o' hi hj hij=>?_,λi o hi=>?_,hm.heap.imm⟩,λi o hi=>?_,hm.frame,hm.size,hm.calm⟩
 ·obtain⟨h5,h6⟩:=h4 i (hE i hi)
  exact⟨hdom i h6,by rw[h5];exact (hm.im i hi).2⟩
 ·obtain⟨_,o',ho,hs⟩:=live i o hi
  exact Rx hdom hs (hm.heap.obj _ _ ho)
 ·obtain⟨m1,o1,ho1,_⟩:=live i o hi
  obtain⟨m2,o2,ho2,_⟩:=live j o' hj
  exact (AAH hnd m1 m2 (hm.heap.inj _ _ _ _ ho1 ho2 hij)).1
 ·obtain⟨_,o',ho,_⟩:=live i o hi
  exact hm.heap.sep _ _ ho
 ·obtain⟨_,o',ho,_⟩:=live i o hi
  exact hm.own _ _ ho
theorem CodeE.sub{c:Ctx}{E:List Nat}{l:List (Nat×Nat)}{s:ST}{σ:AState}{code:Code}{Q:Exit->AState->Prop}(hE:∀i,c.H0.dom i->i∈E)(hs:CQU E l s σ)(h:CodeE P c code Q s.st):CodeE P c code Q σ:=
 λ_ _ a w hR=>h _ _ a w (hR.sub hE hs)
end Go.Sym
namespace Go.Sym
variable {P : Program} {B B' : Ft} {ι ι' : Nat -> Pl} {H H' : Heap} {D : Nat -> Prop} {w w' : World}
theorem LC{a b:Nat}:(Nat.beq a b=true)=(a=b):=propext ⟨Nat.eq_of_beq_eq_true,λh=>by subst h;exact Nat.beq_refl a⟩
def FF:Option (List Prop)->Prop
 |some l=>BG l
 |none=>False
def lL:Option (List Prop)->Option (List Prop)->Option (List Prop)
 |some l,some m=>some (l ++ m)
 |_,_=>none
def CBQ:Value->Value->Option (List Prop)
 | .int k a,.int k' b=>if k=k' then some [a=b] else none
 | .bool a,.bool b=>some [a=b]
 | .string a,.string b=>some [a=b]
 |x,y=>some [x=y]
theorem FO{a b:Option (List Prop)}(h:FF (lL a b)):FF a/\FF b:=by
 cases a with
 |none=>exact h.elim
 |some l=>cases b with
  |none=>exact h.elim
  |some m=>exact BE h
theorem BXL(x:Value):vEq x x:=by
 unfold vEq;split<;>simp_all
theorem BNF{x y:Value}(h:FF (CBQ x y)):vEq x y:=by
 unfold CBQ at h
 split at h
 ·split at h
  ·rename_i hk;exact⟨hk,h⟩
  ·exact h.elim
 ·exact h
 ·exact h
 ·have h:x=y:=h
  subst h
  exact BXL x
mutual
def Kb:DVal->DVal->Option (List Prop)
 | .v x,.v y=>CBQ x y
 | .agg xs,.agg ys=>ABU xs ys
 | .tup xs,.tup ys=>ABU xs ys
 | .list k n g e,.list k' n' g' e'=>if Nat.beq k k'&&(!e||e') then some [n=n',∀i,i<n->FF (Kb (g i) (g' i))] else if (Nat.beq k' 0||Nat.beq k 0)&&(!e||e') then some [n=n',n=0] else none
 | .arr k n g,.arr k' n' g'=>if Nat.beq k k' then some [n=n',∀i,i<n->FF (Kb (g i) (g' i))] else none
 | .eref x c,.eref y d=>if Nat.beq c d then Kb x y else none
 | .iface t x,.iface u y=>if Nat.beq t u then Kb x y else none
 | .anyB,.anyB=>some []
 |_,_=>none
def ABU:List DVal->List DVal->Option (List Prop)
 |[],[]=>some []
 |x :: xs,y :: ys=>lL (Kb x y) (ABU xs ys)
 |_,_=>none
end
mutual
theorem GV:∀(x y:DVal),FF (Kb x y)->GY x y
 | .v x,y,h=>by cases y<;>simp only[Kb] at h<;>first | exact (by simp only[GY];exact BNF h) | exact h.elim
 | .agg xs,y,h=>by cases y<;>simp only[Kb] at h<;>first | exact (by simp only[GY];exact eB _ _ h) | exact h.elim
 | .tup xs,y,h=>by cases y<;>simp only[Kb] at h<;>first | exact (by simp only[GY];exact eB _ _ h) | exact h.elim
 | .list k n g e,y,h=>by
  cases y<;>simp only[Kb] at h<;>try exact h.elim
  split at h
  ·rename_i hc
   simp only[Bool.and_eq_true,LC,Bool.or_eq_true,Bool.not_eq_true'] at hc
   obtain⟨h1,h2⟩:=HK.1 h
   simp only[GY]
   refine⟨.inl hc.1,h1,λhe=>?_,λi hi=>GV _ _ (h2 i hi)⟩
   rcases hc.2 with h | h
   ·rw[he] at h;cases h
   ·exact h
  ·split at h
   ·rename_i hc
    simp only[Bool.and_eq_true,LC,Bool.or_eq_true,Bool.not_eq_true'] at hc
    obtain⟨h1,h2⟩:=HK.1 h
    have h2:n=0:=h2
    simp only[GY]
    refine⟨.inr h2,h1,λhe=>?_,λi hi=>by omega⟩
    rcases hc.2 with h | h
    ·rw[he] at h;cases h
    ·exact h
   ·exact h.elim
 | .arr k n g,y,h=>by
  cases y<;>simp only[Kb] at h<;>try exact h.elim
  split at h
  ·rename_i hc
   obtain⟨h1,h2⟩:=HK.1 h
   simp only[GY]
   exact⟨Nat.eq_of_beq_eq_true hc,h1,λi hi=>GV _ _ (h2 i hi)⟩
  ·exact h.elim
 | .anyB,y,h=>by
  cases y<;>simp only[Kb] at h<;>try exact h.elim
  simp only[GY]
 | .iface x c,y,h=>by
  cases y<;>simp only[Kb] at h<;>try exact h.elim
  split at h
  ·rename_i hc
   simp only[GY]
   exact⟨Nat.eq_of_beq_eq_true hc,GV _ _ h⟩
  ·exact h.elim
 | .eref x c,y,h=>by
  cases y<;>simp only[Kb] at h<;>try exact h.elim
  split at h
  ·rename_i hc
   simp only[GY]
   exact⟨Nat.eq_of_beq_eq_true hc,GV _ _ h⟩
  ·exact h.elim
theorem eB:∀(x y:List DVal),FF (ABU x y)->Fs x y
 |[],y,h=>by cases y<;>simp only[ABU] at h<;>first | trivial | exact h.elim
 |x :: xs,y,h=>by
  cases y<;>simp only[ABU] at h
  ·exact h.elim
  ·obtain⟨h1,h2⟩:=FO h
   simp only[Fs]
   exact⟨GV _ _ h1,eB _ _ h2⟩
end
abbrev P7:=Nat->Option (Nat×Nat×(Nat->DVal))
structure FrzRow(B':Ft)(ι:Nat->Pl)(id k m:Nat)(get:Nat->DVal)(c:Array Value):Prop where
 at':B' (ι id).b=some c
 len:m<=(ι id).cap
 size:(ι id).cap*k<=c.size
 ok:∀i,i<m->EOk k (get i)
 rel:∀(i j:Nat) (x:DVal) (y:Value),i<m->(get i).cells1[j]?=some x->c[i*k+j]?=some y->DRel B' x y
def D1(B B':Ft)(ι:Nat->Pl)(F:P7):Prop:=
 (∀b c,B b=some c->B' b=some c)/\∀id k m get,F id=some (k,m,get)->∃c,FrzRow B' ι id k m get c
mutual
def Po(F:P7):DVal->AVal->Option (List Prop)
 |x,.d y=>Kb x y
 | .list k n g e,.own id k' i n'=>match F id with
  |some (k2,m,get)=>if Nat.beq k k'&&Nat.beq k k2&&!e then some [n=n',i+n'<=m,∀j,j<n->FF (Kb (g j) (get (i+j)))] else none
  |none=>none
 | .agg xs,.agg ys=>Gc F xs ys
 | .tup xs,.tup ys=>Gc F xs ys
 |_,_=>none
def Gc(F:P7):List DVal->List AVal->Option (List Prop)
 |[],[]=>some []
 |x :: xs,y :: ys=>lL (Po F x y) (Gc F xs ys)
 |_,_=>none
end
theorem zR{F:P7}:∀{xs:List DVal} {ys:List AVal},FF (Gc F xs ys)->xs.length=ys.length
 |[],[],_=>rfl
 |x :: xs,y :: ys,h=>by simp only[Gc] at h;simp[zR (FO h).2]
 |[],_ :: _,h=>by simp only[Gc] at h;exact h.elim
 |_ :: _,[],h=>by simp only[Gc] at h;exact h.elim
theorem N6{F:P7}:∀{xs:List DVal} {ys:List AVal},FF (Gc F xs ys)->∀{j:Nat} {x:DVal},xs[j]?=some x->∃y,ys[j]?=some y/\FF (Po F x y)
 |[],[],_,j,x,hx=>by simp at hx
 |a :: xs,b :: ys,h,0,x,hx=>by simp only[Gc] at h;simp at hx;subst hx;exact⟨b,rfl,(FO h).1⟩
 |a :: xs,b :: ys,h,j+1,x,hx=>by
  simp only[Gc] at h
  obtain⟨y,hy,hs⟩:=N6 (FO h).2 (j:=j) (by simpa using hx)
  exact⟨y,by simpa using hy,hs⟩
 |[],_ :: _,h,_,_,_=>by simp only[Gc] at h;exact h.elim
 |_ :: _,[],h,_,_,_=>by simp only[Gc] at h;exact h.elim
theorem AQQ{F:P7}(hF:D1 B B' ι F){k n:Nat}{g:Nat->DVal}{id i n' m:Nat}{get:Nat->DVal}{v:Value}(hf:F id=some (k,m,get))(hn:n=n')(hm:i+n'<=m)(hg:∀j,j<n->GY (g j) (get (i+j)))(hv:VRel B ι D (.own id k i n') v):DRel B' (.list k n g false) v:=by
 obtain⟨c,hc⟩:=hF.2 id k m get hf
 subst hn
 cases hv with
 |own hD hcap hq=>
  rcases Nat.eq_zero_or_pos n with rfl | hp
  ·exact .nil (λh=>by cases h) (.inr (by simp))
  ·have hsz:∀j,j<n->(i+j+1)*k<=c.size:=λj hj=>by
    have h1:(i+j+1)*k<=(ι id).cap*k:=Nat.mul_le_mul_right k (by have:=hc.len;omega)
    have:=hc.size
    omega
   refine .list hp hc.at' hcap (λh=>by cases h) (λj hj=>AEV (hg j hj) (hc.ok _ (by omega))) ?_ λj l x y hj hx hy=>?_
   ·have h1:(i+n)*k<=(ι id).cap*k:=Nat.mul_le_mul_right k (by have:=hc.len;omega)
    have h2:(i+n)*k=i*k+n*k:=Nat.add_mul i n k
    have:=hc.size
    omega
   ·have e1:(i+j)*k=i*k+j*k:=Nat.add_mul i j k
    have e2:(i+j+1)*k=(i+j)*k+k:=Nat.succ_mul _ k
    refine (AFE (o:=(i+j)*k) (hg j hj) (hc.ok _ (by omega)) (by have:=hsz j hj;omega) (λl x y hx hy=>hc.rel (i+j) l x y (by omega) hx hy) (λv hv=>DU _ _ v (hg j hj) hv) l x y hx (by rw[e1];exact hy))
mutual
theorem AEQ{F:P7}(hF:D1 B B' ι F):∀(x:DVal) (y:AVal) (v:Value),FF (Po F x y)->VRel B ι D y v->DRel B' x v
 | .v x,y,v,h,hv=>by
  cases y<;>simp only[Po] at h<;>try exact h.elim
  exact (DU _ _ v (GV _ _ h) hv.d_inv).mono hF.1
 | .anyB,y,v,h,hv=>by
  cases y<;>simp only[Po] at h<;>try exact h.elim
  exact (DU _ _ v (GV _ _ h) hv.d_inv).mono hF.1
 | .iface x c,y,v,h,hv=>by
  cases y<;>simp only[Po] at h<;>try exact h.elim
  exact (DU _ _ v (GV _ _ h) hv.d_inv).mono hF.1
 | .eref x c,y,v,h,hv=>by
  cases y<;>simp only[Po] at h<;>try exact h.elim
  exact (DU _ _ v (GV _ _ h) hv.d_inv).mono hF.1
 | .arr k n g,y,v,h,hv=>by
  cases y<;>simp only[Po] at h<;>try exact h.elim
  exact (DU _ _ v (GV _ _ h) hv.d_inv).mono hF.1
 | .list k n g e,y,v,h,hv=>by
  cases y<;>simp only[Po] at h<;>try exact h.elim
  ·exact (DU _ _ v (GV _ _ h) hv.d_inv).mono hF.1
  ·split at h
   ·rename_i k2 m get hf
    split at h
    ·rename_i hc
     simp only[Bool.and_eq_true,LC,Bool.not_eq_true'] at hc
     obtain⟨⟨rfl,rfl⟩,rfl⟩:=hc
     obtain⟨h1,h2⟩:=HK.1 h
     obtain⟨h2,h3⟩:=HK.1 h2
     exact AQQ hF hf h1 h2 (λj hj=>GV _ _ (h3 j hj)) hv
    ·exact h.elim
   ·exact h.elim
 | .agg xs,y,v,h,hv=>by
  cases y<;>simp only[Po] at h<;>try exact h.elim
  ·exact (DU _ _ v (GV _ _ h) hv.d_inv).mono hF.1
  ·cases hv with
   |agg hl hr=>
    exact .agg (by rw[hl,zR h]) λj x z hx hz=>by
     obtain⟨y,hy,hs⟩:=N6 h hx
     exact iX hF xs j x y z hx hs (hr j y z hy hz)
 | .tup xs,y,v,h,hv=>by
  cases y<;>simp only[Po] at h<;>try exact h.elim
  ·exact (DU _ _ v (GV _ _ h) hv.d_inv).mono hF.1
  ·cases hv with
   |tup hl hr=>
    exact .tup (by rw[hl,zR h]) λj x z hx hz=>by
     obtain⟨y,hy,hs⟩:=N6 h hx
     exact iX hF xs j x y z hx hs (hr j y z hy hz)
theorem iX{F:P7}(hF:D1 B B' ι F):∀(l:List DVal) (j:Nat) (x:DVal) (y:AVal) (v:Value),l[j]?=some x->FF (Po F x y)->VRel B ι D y v->DRel B' x v
 |[],j,x,y,v,hx,_,_=>by simp at hx
 |a :: l,0,x,y,v,hx,h,hv=>by simp at hx;subst hx;exact AEQ hF a y v h hv
 |a :: l,j+1,x,y,v,hx,h,hv=>iX hF l j x y v (by simpa using hx) h hv
end
def CBD:Fn->Fn->Option (List Prop)
 | .func a,.func b=>if Nat.beq a b then some [] else none
 |f,g=>some [f=g]
theorem BOG{f g:Fn}(h:FF (CBD f g)):f=g:=by
 unfold CBD at h
 split at h
 ·split at h
  ·rename_i hb;rw[Nat.eq_of_beq_eq_true hb]
  ·exact h.elim
 ·exact h
mutual
def Ke(F:P7)(ρ:Nat->Nat)(p:Nat->Bool):AVal->AVal->Option (List Prop)
 | .any,_=>some []
 | .d x,y=>Po F x y
 | .agg xs,.agg ys=>PD F ρ p xs ys
 | .agg xs,.d (.agg ys)=>PD F ρ p xs (ys.map .d)
 | .tup xs,.tup ys=>PD F ρ p xs ys
 | .tup xs,.d (.tup ys)=>PD F ρ p xs (ys.map .d)
 | .bptr i c,.bptr j d=>if Nat.beq j (ρ i)&&p i&&Nat.beq c d then some [] else none
 | .rptr i k e c,.rptr j k' e' c'=>if Nat.beq j (ρ i)&&p i&&Nat.beq k k'&&Nat.beq c c' then some [e=e'] else none
 | .own i k e n,.own j k' e' n'=>if Nat.beq j (ρ i)&&p i&&Nat.beq k k' then some [e=e',n=n'] else none
 | .fn f a b,.fn g c d=>lL (CBD f g) (lL (PD F ρ p a c) (PD F ρ p b d))
 | .mref i,.mref j=>if Nat.beq j (ρ i)&&p i then some [] else none
 | .opt g a,.opt h b=>lL (some [g=h]) (Ke F ρ p a b)
 |_,_=>none
def PD(F:P7)(ρ:Nat->Nat)(p:Nat->Bool):List AVal->List AVal->Option (List Prop)
 |[],[]=>some []
 |x :: xs,y :: ys=>lL (Ke F ρ p x y) (PD F ρ p xs ys)
 |_,_=>none
end
theorem TR{F:P7}{ρ:Nat->Nat}{p:Nat->Bool}:∀{xs ys:List AVal},FF (PD F ρ p xs ys)->xs.length=ys.length
 |[],[],_=>rfl
 |x :: xs,y :: ys,h=>by simp only[PD] at h;simp[TR (FO h).2]
 |[],_ :: _,h=>by simp only[PD] at h;exact h.elim
 |_ :: _,[],h=>by simp only[PD] at h;exact h.elim
theorem XV{F:P7}{ρ:Nat->Nat}{p:Nat->Bool}:∀{xs ys:List AVal},FF (PD F ρ p xs ys)->∀{j:Nat} {x:AVal},xs[j]?=some x->∃y,ys[j]?=some y/\FF (Ke F ρ p x y)
 |[],[],_,j,x,hx=>by simp at hx
 |a :: xs,b :: ys,h,0,x,hx=>by simp only[PD] at h;simp at hx;subst hx;exact⟨b,rfl,(FO h).1⟩
 |a :: xs,b :: ys,h,j+1,x,hx=>by
  simp only[PD] at h
  obtain⟨y,hy,hs⟩:=XV (FO h).2 (j:=j) (by simpa using hx)
  exact⟨y,by simpa using hy,hs⟩
 |[],_ :: _,h,_,_,_=>by simp only[PD] at h;exact h.elim
 |_ :: _,[],h,_,_,_=>by simp only[PD] at h;exact h.elim
theorem CNP{ys:List DVal}{v:Value}(h:DRel B (.agg ys) v):VRel B ι D (.agg (ys.map .d)) v:=by
 cases h with
 |agg hl hr=>
  refine .agg (by simp[hl]) λj x z hx hz=>?_
  rw[List.getElem?_map] at hx
  obtain⟨x',h1,rfl⟩:=Option.map_eq_some_iff.1 hx
  exact .d (hr j x' z h1 hz)
theorem COX{ys:List DVal}{v:Value}(h:DRel B (.tup ys) v):VRel B ι D (.tup (ys.map .d)) v:=by
 cases h with
 |tup hl hr=>
  refine .tup (by simp[hl]) λj x z hx hz=>?_
  rw[List.getElem?_map] at hx
  obtain⟨x',h1,rfl⟩:=Option.map_eq_some_iff.1 hx
  exact .d (hr j x' z h1 hz)
mutual
theorem Te{F:P7}(hF:D1 B B' ι F){ρ:Nat->Nat}{p:Nat->Bool}{D':Nat->Prop}(hp:∀i,p i=true->D' i):∀(x y:AVal) (v:Value),FF (Ke F ρ p x y)->VRel B ι D y v->VRel B' (λi=>ι (ρ i)) D' x v
 | .any,_,_,_,_=>.any
 | .d x,y,v,h,hv=>.d (AEQ hF x y v (by simpa only[Ke] using h) hv)
 | .agg xs,y,v,h,hv=>by
  have fin:∀ys:List AVal,FF (PD F ρ p xs ys)->VRel B ι D (.agg ys) v->VRel B' (λi=>ι (ρ i)) D' (.agg xs) v:=λys h hv=>by
   cases hv with
   |agg hl hr=>
    exact .agg (by rw[hl,TR h]) λj x z hx hz=>by
     obtain⟨y,hy,hs⟩:=XV h hx
     exact WV hF hp xs j x y z hx hs (hr j y z hy hz)
  cases y<;>(try simp only[Ke] at h)<;>try exact h.elim
  ·rename_i x
   cases x<;>(try simp only[Ke] at h)<;>try exact h.elim
   exact fin _ h (CNP hv.d_inv)
  ·exact fin _ h hv
 | .tup xs,y,v,h,hv=>by
  have fin:∀ys:List AVal,FF (PD F ρ p xs ys)->VRel B ι D (.tup ys) v->VRel B' (λi=>ι (ρ i)) D' (.tup xs) v:=λys h hv=>by
   cases hv with
   |tup hl hr=>
    exact .tup (by rw[hl,TR h]) λj x z hx hz=>by
     obtain⟨y,hy,hs⟩:=XV h hx
     exact WV hF hp xs j x y z hx hs (hr j y z hy hz)
  cases y<;>(try simp only[Ke] at h)<;>try exact h.elim
  ·rename_i x
   cases x<;>(try simp only[Ke] at h)<;>try exact h.elim
   exact fin _ h (COX hv.d_inv)
  ·exact fin _ h hv
 | .bptr i c,y,v,h,hv=>by
  cases y<;>simp only[Ke] at h<;>try exact h.elim
  split at h
  ·rename_i hc
   simp only[Bool.and_eq_true,LC] at hc
   obtain⟨⟨rfl,h2⟩,rfl⟩:=hc
   cases hv;exact VRel.bptr (ι:=λi=>ι (ρ i)) (hp _ h2)
  ·exact h.elim
 | .rptr i k e c,y,v,h,hv=>by
  cases y<;>simp only[Ke] at h<;>try exact h.elim
  split at h
  ·rename_i hc
   simp only[Bool.and_eq_true,LC] at hc
   obtain⟨⟨⟨rfl,h2⟩,rfl⟩,rfl⟩:=hc
   have h:e=_:=h
   subst h
   cases hv;exact VRel.rptr (ι:=λi=>ι (ρ i)) (hp _ h2)
  ·exact h.elim
 | .own i k e n,y,v,h,hv=>by
  cases y<;>simp only[Ke] at h<;>try exact h.elim
  split at h
  ·rename_i hc
   simp only[Bool.and_eq_true,LC] at hc
   obtain⟨⟨rfl,h2⟩,rfl⟩:=hc
   obtain⟨h3,h4⟩:=HK.1 h
   have h4:n=_:=h4
   subst h3;subst h4
   cases hv with
   |own _ h3 h4=>exact VRel.own (ι:=λi=>ι (ρ i)) (hp _ h2) h3 h4
  ·exact h.elim
 | .fn f a b,y,v,h,hv=>by
  cases y<;>simp only[Ke] at h<;>try exact h.elim
  obtain⟨h1,h2⟩:=FO h
  obtain⟨h2,h3⟩:=FO h2
  have h1:=BOG h1
  subst h1
  cases hv with
  |fn h4 h5 h6 h7=>
   exact .fn (by rw[h4,TR h2]) (by rw[h5,TR h3])
    (λj x z hx hz=>by
     obtain⟨y,hy,hs⟩:=XV h2 hx
     exact WV hF hp a j x y z hx hs (h6 j y z hy hz))
    λj x z hx hz=>by
     obtain⟨y,hy,hs⟩:=XV h3 hx
     exact WV hF hp b j x y z hx hs (h7 j y z hy hz)
 | .mref i,y,v,h,hv=>by
  cases y<;>simp only[Ke] at h<;>try exact h.elim
  split at h
  ·rename_i hc
   simp only[Bool.and_eq_true,LC] at hc
   obtain⟨rfl,h2⟩:=hc
   cases hv;exact VRel.mref (ι:=λi=>ι (ρ i)) (hp _ h2)
  ·exact h.elim
 | .opt g a,y,v,h,hv=>by
  cases y<;>simp only[Ke] at h<;>try exact h.elim
  obtain⟨h1,h2⟩:=FO h
  have h1:g=_:=h1
  subst h1
  cases hv with
  |opt h3 h4=>exact .opt (λhg=>Te hF hp a _ v h2 (h3 hg)) h4
theorem WV{F:P7}(hF:D1 B B' ι F){ρ:Nat->Nat}{p:Nat->Bool}{D':Nat->Prop}(hp:∀i,p i=true->D' i):∀(l:List AVal) (j:Nat) (x y:AVal) (v:Value),l[j]?=some x->FF (Ke F ρ p x y)->VRel B ι D y v->VRel B' (λi=>ι (ρ i)) D' x v
 |[],j,x,y,v,hx,_,_=>by simp at hx
 |a :: l,0,x,y,v,hx,h,hv=>by simp at hx;subst hx;exact Te hF hp a y v h hv
 |a :: l,j+1,x,y,v,hx,h,hv=>WV hF hp l j x y v (by simpa using hx) h hv
end
def Nr(F:P7)(ρ:Nat->Nat)(p:Nat->Bool):AObj->AObj->Option (List Prop)
 | .row k n g,.row k' n' g'=>if Nat.beq k k' then some [n=n',∀i,i<n->FF (Kb (g i) (g' i))] else none
 | .box es,.box es'=>PD F ρ p es es'
 | .imap q z h g s none,.imap q' z' h' g' s' none=>if q=q' then some [z=z',∀n,h n=h' n,∀n,s n=s' n,∀n,FF (Kb (g n) (g' n))] else none
 | .kmap q z h g,.kmap q' z' h' g'=>if q=q' then some [z=z',∀n,h n=h' n,∀n,FF (Kb (g n) (g' n))] else none
 | .abox es m g,.abox es' m' g'=>if Nat.beq m m' then lL (PD F ρ p es es') (some [∀i,i<m->g i=g' i]) else none
 | .nbox ds m z g,.nbox ds' m' z' g'=>if Nat.beq m m' then lL (ABU ds ds') (some [z=z',∀i,ds.length<=i->i<ds.length+m->g i=g' i]) else none
 | .miter m a b c none,.miter m' a' b' c' _=>if p m&&Nat.beq (ρ m) m' then some [∀n,a n=a' n,∀n,b n=b' n,∀n,c n=c' n] else none
 |_,_=>none
theorem cZ{F:P7}(hF:D1 B B' ι F){ρ:Nat->Nat}{p:Nat->Bool}{D':Nat->Prop}(hp:∀i,p i=true->D' i){q:Nat}{a b:AObj}{x:Option Obj}(h:FF (Nr F ρ p a b))(hb:ORel B ι D q b x):ORel B' (λi=>ι (ρ i)) D' q a x:=by
 cases a with
 |row k n g=>
  cases b<;>simp only[Nr] at h<;>try exact h.elim
  split at h
  ·rename_i hc
   obtain⟨h1,h2⟩:=HK.1 h
   have hs:osub ρ p (.row k n g) (.row _ _ _):=⟨Nat.eq_of_beq_eq_true hc,h1,λi hi=>GV _ _ (h2 i hi)⟩
   exact (Rx hp hs hb).mono hF.1 λi hi=>⟨hi,rfl⟩
  ·exact h.elim
 |box es=>
  cases b<;>simp only[Nr] at h<;>try exact h.elim
  cases hb with
  |box hsz hr=>
   exact .box (by rw[hsz,TR h]) λj x z hx hz=>by
    obtain⟨y,hy,hs⟩:=XV h hx
    exact WV hF hp es j x y z hx hs (hr j y z hy hz)
 |imap q z hs g st pend=>
  cases pend with
  |some x=>cases b<;>simp only[Nr] at h<;>exact h.elim
  |none=>
  cases b<;>try (simp only[Nr] at h;exact h.elim)
  rename_i q' z' hs' g' st' pend'
  cases pend' with
  |some x=>simp only[Nr] at h;exact h.elim
  |none=>
  simp only[Nr] at h
  split at h
  ·rename_i hc
   obtain⟨h1,h3⟩:=HK.1 h
   obtain⟨h3,h4⟩:=HK.1 h3
   obtain⟨h4,h5⟩:=HK.1 h4
   have hs:osub ρ p (.imap q z hs g st none) (.imap _ _ _ _ _ _):=⟨hc,h1,rfl,h3,h4,λn=>GV _ _ (h5 n)⟩
   exact (Rx hp hs hb).mono hF.1 λi hi=>⟨hi,rfl⟩
  ·exact h.elim
 |kmap q z hs g=>
  cases b<;>simp only[Nr] at h<;>try exact h.elim
  split at h
  ·rename_i hc
   obtain⟨h1,h3⟩:=HK.1 h
   obtain⟨h3,h5⟩:=HK.1 h3
   have hs:osub ρ p (.kmap q z hs g) (.kmap _ _ _ _):=⟨hc,h1,h3,λn=>GV _ _ (h5 n)⟩
   exact (Rx hp hs hb).mono hF.1 λi hi=>⟨hi,rfl⟩
  ·exact h.elim
 |abox es m g=>
  cases b<;>simp only[Nr] at h<;>try exact h.elim
  split at h
  ·rename_i hc
   obtain rfl:=Nat.eq_of_beq_eq_true hc
   obtain⟨h,hg⟩:=FO h
   cases hb with
   |abox hsz hr hb=>
    exact .abox (by rw[hsz,TR h]) (λj x z hx hz=>by
     obtain⟨y,hy,hs⟩:=XV h hx
     exact WV hF hp es j x y z hx hs (hr j y z hy hz)) λj hj=>by rw[TR h,show g j=_ from hg j hj];exact hb j hj
  ·exact h.elim
 |nbox ds m z g=>
  cases b<;>simp only[Nr] at h<;>try exact h.elim
  split at h
  ·rename_i hc
   obtain⟨h,hg⟩:=FO h
   obtain⟨h1,h2⟩:=HK.1 hg
   have hs:osub ρ p (.nbox ds m z g) (.nbox _ _ _ _):=⟨eB _ _ h,Nat.eq_of_beq_eq_true hc,h1,h2⟩
   exact (Rx hp hs hb).mono hF.1 λi hi=>⟨hi,rfl⟩
  ·exact h.elim
 |miter m a1 b1 c1 d1=>
  cases d1 with
  |some x=>cases b<;>simp only[Nr] at h<;>exact h.elim
  |none=>
  cases b<;>simp only[Nr] at h<;>try exact h.elim
  split at h
  ·rename_i hc
   simp only[Bool.and_eq_true] at hc
   obtain⟨h1,h3⟩:=HK.1 h
   obtain⟨h3,h4⟩:=HK.1 h3
   rename_i m' a' b' c' d' _
   have hs:osub ρ p (.miter m a1 b1 c1 none) (.miter m' a' b' c' d'):=⟨hc.1,Nat.eq_of_beq_eq_true hc.2,h1,h3,h4,.inl rfl⟩
   exact (Rx hp hs hb).mono hF.1 λi hi=>⟨hi,rfl⟩
  ·exact h.elim
def EW(H:Heap):List Nat->Heap
 |[]=>H
 |id :: r=>match H id with
  | .live (.row _ _ _)=>EW (EC H id .dead) r
  |_=>EW H r
def PW(H:Heap)(ids:List Nat):P7:=λid=>if ids.contains id then match H id with
  | .live (.row k m get)=>some (k,m,get)
  |_=>none
 else none
theorem WC:∀(ids:List Nat) {B:Ft} {H:Heap},HRel B ι H w->∃B',Moved B ι H w B' ι (EW H ids) w/\D1 B B' ι (PW H ids)
 |[],B,H,h=>⟨B,Moved.refl h,λ_ _ h=>h,λid k m get hf=>by simp[PW] at hf⟩
 |id :: r,B,H,h=>by
  simp only[EW]
  split
  ·rename_i k m get hid
   obtain⟨c,e,h1,h2,h3,h4,h5,h6⟩:=Moved.freeze h hid
   obtain⟨B',h7,h8⟩:=WC r h2.heap
   refine⟨B',h2.trans h7,λb c hb=>h8.1 b c (h2.bm b c hb),λid' k' m' get' hf=>?_⟩
   by_cases he:id'=id
   ·subst he
    simp only[PW,List.contains_cons,beq_self_eq_true,Bool.true_or,if_true,hid,Option.some.injEq,Prod.mk.injEq] at hf
    obtain⟨rfl,rfl,rfl⟩:=hf
    exact⟨c,h8.1 _ _ (by simp),h3,h4,h5,λi j x y hi hx hy=>(h6 i j x y hi hx hy).mono λb c hb=>h8.1 b c (h2.bm b c hb)⟩
   ·refine h8.2 id' k' m' get' ?_
    have e1:(id'==id)=false:=by simpa using he
    simp only[PW,List.contains_cons,e1,Bool.false_or] at hf
    simp only[PW,HL _ _ he]
    exact hf
  ·rename_i hn
   obtain⟨B',h7,h8⟩:=WC r h
   refine⟨B',h7,h8.1,λid' k' m' get' hf=>?_⟩
   by_cases he:id'=id
   ·subst he
    simp only[PW,List.contains_cons,beq_self_eq_true,Bool.true_or,if_true] at hf
    first | cases hf | (split at hf;(rename_i hq;exact (hn _ _ _ hq).elim);cases hf)
   ·refine h8.2 id' k' m' get' ?_
    have e1:(id'==id)=false:=by simpa using he
    simp only[PW,List.contains_cons,e1,Bool.false_or] at hf
    exact hf
theorem Sf:∀(ids:List Nat) {H:Heap} {i:Nat} {o:AObj},EW H ids i=.live o->H i=.live o
 |[],_,_,_,h=>h
 |id :: r,H,i,o,h=>by
  have key:∀H',(H'=H∨H'=EC H id .dead)->EW H' r i=.live o->H i=.live o:=λH' hH h=>by
   have:=Sf r h
   rcases hH with rfl | rfl
   ·exact this
   ·by_cases he:i=id
    ·subst he;rw[HM] at this;cases this
    ·rwa [HL _ _ he] at this
  simp only[EW] at h
  cases hq:H id with
  |live o'=>cases o' with
   |row=>simp only[hq] at h;exact key _ (.inr rfl) h
   |_=>simp only[hq] at h;exact key _ (.inl rfl) h
  |_=>simp only[hq] at h;exact key _ (.inl rfl) h
def AKV(F:P7)(ρ:Nat->Nat)(p:Nat->Bool):HCell->HCell->Option (List Prop)
 | .live o,.live o'=>Nr F ρ p o o'
 | .dead,.live _=>some []
 | .dead,.dead=>some []
 |_,_=>none
def BPL(F:P7)(ρ:Nat->Nat)(p:Nat->Bool)(sl:Nat->AVal):List (Nat×AVal)->Option (List Prop)
 |[]=>some []
 |(t,v) :: r=>lL (Ke F ρ p v (sl t)) (BPL F ρ p sl r)
def CGP(F:P7)(ρ:Nat->Nat)(p:Nat->Bool)(H:Heap):List (Nat×HCell)->Option (List Prop)
 |[]=>some []
 |(i,c) :: r=>lL (AKV F ρ p c (H (ρ i))) (CGP F ρ p H r)
theorem ANI{F:P7}{ρ:Nat->Nat}{p:Nat->Bool}{sl:Nat->AVal}:∀{l:List (Nat×AVal)},FF (BPL F ρ p sl l)->∀t,FF (Ke F ρ p (LF l t) (sl t))
 |[],_,t=>by simp only[LF,Ke];trivial
 |(j,v) :: r,h,t=>by
  obtain⟨h1,h2⟩:=FO h
  simp only[LF]
  split
  ·rename_i e;subst e;exact h1
  ·exact ANI h2 t
theorem AIB{F:P7}{ρ:Nat->Nat}{p:Nat->Bool}{H:Heap}:∀{l:List (Nat×HCell)},FF (CGP F ρ p H l)->∀{i:Nat} {c:HCell},(i,c)∈l->FF (AKV F ρ p c (H (ρ i)))
 |[],_,i,c,h=>by cases h
 |(j,d) :: r,h,i,c,hm=>by
  obtain⟨h1,h2⟩:=FO h
  rcases List.mem_cons.1 hm with hm | hm
  ·cases hm;exact h1
  ·exact AIB h2 hm
def Jv(E:List Nat)(fz:List Nat)(l:List (Nat×Nat))(s:ST)(σ:AState):Option (List Prop):=
 if (nodup (s.H.map λx=>NC l x.1)&&E.all λi=>Nat.beq (NC l i) i&&(Cu s.H i).isSome) then
  lL (BPL (PW σ.H fz) (NC l) (λi=>(Cu s.H i).isSome) σ.sl s.sl) (CGP (PW σ.H fz) (NC l) (λi=>(Cu s.H i).isSome) (EW σ.H fz) s.H)
 else none
theorem Moved.subF{B0:Ft}{ι0:Nat->Pl}{H0:Heap}{w0:World}{E fz:List Nat}{l:List (Nat×Nat)}{s:ST}{sl:Nat->AVal}(hE:∀i,H0.dom i->i∈E)(h:FF (Jv E fz l s ⟨sl,H⟩))(hm0:Moved B0 ι0 H0 w0 B ι H w) :
  ∃B',Moved B0 ι0 H0 w0 B' (λi=>ι (NC l i)) (lK s.H) w/\(∀t v,VRel B ι H.dom (sl t) v->VRel B' (λi=>ι (NC l i)) (lK s.H).dom (LF s.sl t) v)/\(∀i o,lK s.H i=.live o->∃o',H (NC l i)=.live o') /\
   (∀b c,B b=some c->B' b=some c)/\∀i∈E,(lK s.H).dom i/\NC l i=i:=by
 unfold Jv at h
 split at h
 case isFalse=>exact h.elim
 rename_i h3
 obtain⟨h1,h2⟩:=FO h
 simp only[Bool.and_eq_true,List.all_eq_true,LC] at h3
 obtain⟨h3,h4⟩:=h3
 have hnd:=XJ h3
 obtain⟨B',hk,hF⟩:=WC fz hm0.heap
 have hm:=hm0.trans hk
 have hdom:∀i,(λi=>(Cu s.H i).isSome) i=true->(lK s.H).dom i:=λi hi=>by
  obtain⟨d,hd⟩:=Option.isSome_iff_exists.1 hi
  have:=AIB h2 (YD hd)
  unfold Heap.dom
  show (Cu s.H i).getD .none≠.none
  rw[hd]
  intro he
  simp at he;subst he
  simp only[AKV] at this;exact this
 have live:∀i o,lK s.H i=.live o->(i,.live o)∈s.H/\∃o',EW H fz (NC l i)=.live o'/\FF (Nr (PW H fz) (NC l) (λi=>(Cu s.H i).isSome) o o'):=λi o hi=>by
  have hg:Cu s.H i=some (.live o):=by
   have:(Cu s.H i).getD .none=.live o:=hi
   cases hq:Cu s.H i with
   |none=>rw[hq] at this;cases this
   |some d=>rw[hq] at this;simpa using this
  have hm:=YD hg
  have:=AIB h2 hm
  refine⟨hm,?_⟩
  cases hq:EW H fz (NC l i) with
  |live o'=>rw[hq] at this;exact⟨o',rfl,this⟩
  |none=>rw[hq] at this;simp only[AKV] at this;exact this.elim
  |dead=>rw[hq] at this;simp only[AKV] at this;exact this.elim
 refine⟨B',?_,λt v hv=>Te hF hdom _ _ _ (ANI h1 t) hv,λi o hi=>by obtain⟨_,o',ho,_⟩:=live i o hi;exact⟨o',Sf fz ho⟩,hF.1,λi hi=>⟨hdom i (h4 i hi).2,(h4 i hi).1⟩⟩
 refine⟨hm.bm,hm.bn,λi hi=>?_,⟨λi o hi=>?_,λi j o o' hi hj hij=>?_,λi o hi=>?_,hm.heap.imm⟩,λi o hi=>?_,hm.frame,hm.size,hm.calm⟩
 ·obtain⟨h5,h6⟩:=h4 i (hE i hi)
  exact⟨hdom i h6,by show ι (NC l i)=_;rw[h5];exact (hm.im i hi).2⟩
 ·obtain⟨_,o',ho,hs⟩:=live i o hi
  exact cZ hF hdom hs (hm0.heap.obj _ _ (Sf fz ho))
 ·obtain⟨m1,o1,ho1,_⟩:=live i o hi
  obtain⟨m2,o2,ho2,_⟩:=live j o' hj
  exact (AAH hnd m1 m2 (hm.heap.inj _ _ _ _ ho1 ho2 hij)).1
 ·obtain⟨_,o',ho,_⟩:=live i o hi
  exact hm.heap.sep _ _ ho
 ·obtain⟨_,o',ho,_⟩:=live i o hi
  exact hm.own _ _ ho
theorem Rel.subF{c:Ctx}{E fz:List Nat}{l:List (Nat×Nat)}{s:ST}{σ:AState}{a:Act}(hE:∀i,c.H0.dom i->i∈E)(h:FF (Jv E fz l s σ))(hR:Rel c B ι σ a w):∃B',Rel c B' (λi=>ι (NC l i)) s.st a w:=by
 obtain⟨B',h1,h2,h3,_⟩:=Moved.subF hE h hR.mv
 obtain⟨Ds,d1,d0,d2,d3⟩:=hR.defers
 refine⟨B',λt=>h2 t _ (hR.slots t),hR.size,⟨Ds,d1,d0,d2,λD hD=>⟨(d3 D hD).1,(d3 D hD).2.here,λi o hi=>?_⟩⟩,h1⟩
 obtain⟨o',ho⟩:=h3 i o hi
 exact (d3 D hD).2.sep _ _ ho
theorem CodeE.subF{c:Ctx}{E fz:List Nat}{l:List (Nat×Nat)}{s:ST}{σ:AState}{code:Code}{Q:Exit->AState->Prop}(hE:∀i,c.H0.dom i->i∈E)(hs:FF (Jv E fz l s σ))(h:CodeE P c code Q s.st):CodeE P c code Q σ:=
 λ_ _ a w hR=>let ⟨B',hR'⟩:=Rel.subF hE hs hR;h B' _ a w hR'
def cC:List Prop->Prop->Prop
 |[],K=>K
 |l,K=>BG l/\K
theorem IG{l:List Prop}{K:Prop}(h:cC l K):BG l/\K:=by
 cases l with
 |nil=>exact⟨trivial,h⟩
 |cons=>exact h
def BSY:Option (List Prop)->Prop->Prop
 |some l,K=>cC l K
 |none,_=>False
theorem ABK{l:Option (List Prop)}{K:Prop}(h:BSY l K):FF l/\K:=by
 cases l with
 |none=>exact h.elim
 |some l=>exact IG h
end Go.Sym
