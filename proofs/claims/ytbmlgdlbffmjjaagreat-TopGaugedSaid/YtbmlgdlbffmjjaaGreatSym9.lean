/- One state tells less than another. -/
import Derived.Test.YtbmlgdlbffmjjaaGreatSym8
set_option linter.unusedVariables false
set_option linter.unusedSimpArgs false
namespace Go.Sym
variable {P : Program} {B B' : Kb} {ι ι' : Nat -> Pl} {H H' : Heap} {D : Nat -> Prop} {w w' : World}
mutual
def JS:DVal->DVal->Prop
 | .v x,.v y=>vEq x y
 | .agg xs,.agg ys=>Jy xs ys
 | .tup xs,.tup ys=>Jy xs ys
 | .list k n g e,.list k' n' g' e'=>(k=k'∨n=0)/\n=n'/\(e=true->e'=true)/\∀i,i<n->JS (g i) (g' i)
 | .arr k n g,.arr k' n' g'=>k=k'/\n=n'/\∀i,i<n->JS (g i) (g' i)
 | .eref x c,.eref y d=>c=d/\JS x y
 | .iface t x,.iface u y=>t=u/\JS x y
 | .anyB,.anyB=>True
 |_,_=>False
def Jy:List DVal->List DVal->Prop
 |[],[]=>True
 |x :: xs,y :: ys=>JS x y/\Jy xs ys
 |_,_=>False
def vEq:Value->Value->Prop
 | .int k a,.int k' b=>k=k'/\a=b
 | .bool a,.bool b=>a=b
 | .string a,.string b=>a=b
 |x,y=>x=y
end
theorem BQQ{x y:Value}(h:vEq x y):x=y:=by
 unfold vEq at h
 split at h
 ·obtain⟨rfl,rfl⟩:=h;rfl
 ·rw[h]
 ·rw[h]
 ·exact h
theorem Mu:∀{xs ys:List DVal},Jy xs ys->xs.length=ys.length
 |[],[],_=>rfl
 |x :: xs,y :: ys,h=>by simp only[Jy] at h;simp[Mu h.2]
 |[],_ :: _,h=>by simp[Jy] at h
 |_ :: _,[],h=>by simp[Jy] at h
theorem xD:∀{xs ys:List DVal},Jy xs ys->∀{j:Nat} {x:DVal},xs[j]?=some x->∃y,ys[j]?=some y/\JS x y
 |[],[],_,j,x,hx=>by simp at hx
 |a :: xs,b :: ys,h,0,x,hx=>by simp only[Jy] at h;simp at hx;subst hx;exact⟨b,rfl,h.1⟩
 |a :: xs,b :: ys,h,j+1,x,hx=>by
  simp only[Jy] at h
  obtain⟨y,hy,hs⟩:=xD h.2 (j:=j) (by simpa using hx)
  exact⟨y,by simpa using hy,hs⟩
 |[],_ :: _,h,_,_,_=>by simp[Jy] at h
 |_ :: _,[],h,_,_,_=>by simp[Jy] at h
theorem AAK:∀{x y:DVal},JS x y->Jy x.cells1 y.cells1
 | .v x,y,h=>by cases y<;>simp only[JS] at h;exact⟨by simpa[JS] using h,trivial⟩
 | .agg xs,y,h=>by cases y<;>simp only[JS] at h;exact h
 | .tup xs,y,h=>by cases y<;>(try simp only[JS] at h)<;>exact⟨by simpa only[JS] using h,trivial⟩
 | .list k n g e,y,h=>by cases y<;>(try simp only[JS] at h)<;>exact⟨by simpa only[JS] using h,trivial⟩
 | .arr k n g,y,h=>by cases y<;>(try simp only[JS] at h)<;>exact⟨by simpa only[JS] using h,trivial⟩
 | .eref a c,y,h=>by cases y<;>(try simp only[JS] at h)<;>exact⟨by simpa only[JS] using h,trivial⟩
 | .iface a c,y,h=>by cases y<;>(try simp only[JS] at h)<;>exact⟨by simpa only[JS] using h,trivial⟩
 | .anyB,y,h=>by cases y<;>(try simp only[JS] at h)<;>exact⟨by simp only[JS],trivial⟩
theorem AAP(x:DVal)(r:List DVal):HO (x :: r)=(HO [x]&&HO r):=by
 cases x with
 |v y=>cases y<;>simp[HO]
 |_=>simp[HO]
theorem BVT{x y:DVal}(h:JS x y):HO [x]=HO [y]:=by
 cases x<;>cases y<;>simp only[JS] at h<;>try rfl
 rw[BQQ h]
theorem ANQ:∀{xs ys:List DVal},Jy xs ys->HO xs=HO ys
 |[],[],_=>rfl
 |x :: xs,y :: ys,h=>by simp only[Jy] at h;rw[AAP,AAP y,BVT h.1,ANQ h.2]
 |[],_ :: _,h=>by simp[Jy] at h
 |_ :: _,[],h=>by simp[Jy] at h
theorem N1{k:Nat}{x y:DVal}(h:JS x y)(hy:EOk k y):EOk k x:=by
 have:=AAK h
 exact⟨by rw[Mu this];exact hy.len,by rw[ANQ this];exact hy.one⟩
theorem BGL{e:DVal}{zs:Array Value}(hl:zs.size=e.cells1.length)(h:∀(j:Nat) (x:DVal) (z:Value),e.cells1[j]?=some x->zs[j]?=some z->DRel B x z) :
  ∃v,DRel B e v/\∀e2,JS e2 e->DRel B e2 v->∀(j:Nat) (x:DVal) (z:Value),e2.cells1[j]?=some x->zs[j]?=some z->DRel B x z:=by
 have other:e.cells1=[e]->(∀e2,JS e2 e->e2.cells1=[e2])->∃v,DRel B e v/\∀e2,JS e2 e->DRel B e2 v->∀(j:Nat) (x:DVal) (z:Value),e2.cells1[j]?=some x->zs[j]?=some z->DRel B x z:=by
  intro h1 h2
  rw[h1] at hl h
  have hz:0<zs.size:=by rw[hl];simp
  refine⟨zs[0],h 0 e zs[0] rfl (by simp[hz]),λe2 hs hv j x z hx hz'=>?_⟩
  rw[h2 e2 hs] at hx
  cases j with
  |zero=>simp at hx;subst hx;simp[hz] at hz';subst hz';exact hv
  |succ j=>simp at hx
 cases e with
 |agg ds=>
  refine⟨.agg zs,.agg hl h,λe2 hs hv j x z hx hz=>?_⟩
  cases e2<;>simp only[JS] at hs
  cases hv with
  |agg hl hr=>exact hr j x z hx hz
 |v y=>exact other rfl λe2 hs=>by cases e2<;>first | rfl | simp only[JS] at hs
 |tup y=>exact other rfl λe2 hs=>by cases e2<;>first | rfl | simp only[JS] at hs
 |list a b c d=>exact other rfl λe2 hs=>by cases e2<;>first | rfl | simp only[JS] at hs
 |eref a b=>exact other rfl λe2 hs=>by cases e2<;>first | rfl | simp only[JS] at hs
 |iface a b=>exact other rfl λe2 hs=>by cases e2<;>first | rfl | simp only[JS] at hs
 |anyB=>exact other rfl λe2 hs=>by cases e2<;>first | rfl | simp only[JS] at hs
 |arr a b c=>exact other rfl λe2 hs=>by cases e2<;>first | rfl | simp only[JS] at hs
theorem L0{a b:DVal}{c:Array Value}{o k:Nat}(hs:JS a b)(ok:EOk k b)(hsz:o+k<=c.size)(h:∀(j:Nat) (x:DVal) (y:Value),b.cells1[j]?=some x->c[o+j]?=some y->DRel B x y)
  (down:∀v,DRel B b v->DRel B a v):∀(j:Nat) (x:DVal) (y:Value),a.cells1[j]?=some x->c[o+j]?=some y->DRel B x y:=by
 have hz:∀j,j<k->(c.extract o (o+k))[j]?=c[o+j]?:=λj hj=>by rw[Array.getElem?_extract];simp;omega
 obtain⟨v,h1,h2⟩:=BGL (B:=B) (e:=b) (zs:=c.extract o (o+k)) (by rw[ok.len];simp;omega) (λj x z hx hz'=>by
  have hlt:=(List.getElem?_eq_some_iff.1 hx).1
  rw[ok.len] at hlt
  rw[hz j hlt] at hz'
  exact h j x z hx hz')
 intro j x y hx hy
 have hlt:=(List.getElem?_eq_some_iff.1 hx).1
 rw[(N1 hs ok).len] at hlt
 exact h2 a hs (down v h1) j x y hx (by rw[hz j hlt];exact hy)
mutual
theorem GC:∀(x:DVal) (y:DVal) (v:Value),JS x y->DRel B y v->DRel B x v
 | .v x,y,v,h,hv=>by cases y<;>simp only[JS] at h;rw[BQQ h];exact hv
 | .agg xs,y,v,h,hv=>by
  cases y<;>simp only[JS] at h
  cases hv with
  |agg hl hr=>
   exact .agg (by rw[hl,Mu h]) λj x z hx hz=>by
    obtain⟨y,hy,hs⟩:=xD h hx
    exact tX xs j x y z hx hs (hr j y z hy hz)
 | .tup xs,y,v,h,hv=>by
  cases y<;>simp only[JS] at h
  cases hv with
  |tup hl hr=>
   exact .tup (by rw[hl,Mu h]) λj x z hx hz=>by
    obtain⟨y,hy,hs⟩:=xD h hx
    exact tX xs j x y z hx hs (hr j y z hy hz)
 | .list k n g e,y,v,h,hv=>by
  cases y<;>simp only[JS] at h
  obtain⟨hkk,rfl,he,hg⟩:=h
  cases hv with
  |nil h1 h2=>exact .nil (λh=>h1 (he h)) h2
  |list hn hb hcap hex hk hsz hr=>
   rcases hkk with rfl | h0
   case inr=>omega
   refine .list hn hb hcap (λh=>hex (he h)) (λi hi=>N1 (hg i hi) (hk i hi)) hsz λi j x y hi hx hy=>?_
   have h1:(i+1)*k<=n*k:=Nat.mul_le_mul_right k hi
   have h2:(i+1)*k=i*k+k:=Nat.succ_mul i k
   exact L0 (hg i hi) (hk i hi) (by omega) (λj x y hx hy=>hr i j x y hi hx hy) (λv hv=>GC (g i) _ v (hg i hi) hv) j x y hx hy
 | .arr k n g,y,v,h,hv=>by
  cases y<;>simp only[JS] at h
  obtain⟨rfl,rfl,hg⟩:=h
  cases hv with
  |arr hl hk hr=>
   refine .arr hl (λi hi=>N1 (hg i hi) (hk i hi)) λi j x y hi hx hy=>?_
   have h1:(i+1)*k<=n*k:=Nat.mul_le_mul_right k hi
   have h2:(i+1)*k=i*k+k:=Nat.succ_mul i k
   exact L0 (hg i hi) (hk i hi) (by omega) (λj x y hx hy=>hr i j x y hi hx hy) (λv hv=>GC (g i) _ v (hg i hi) hv) j x y hx hy
 | .anyB,y,v,h,hv=>by
  cases y<;>simp only[JS] at h
  exact hv
 | .iface a c,y,v,h,hv=>by
  cases y<;>simp only[JS] at h
  obtain⟨rfl,hs⟩:=h
  cases hv with
  |iface hr=>exact .iface (GC _ _ _ hs hr)
 | .eref a c,y,v,h,hv=>by
  cases y<;>simp only[JS] at h
  obtain⟨rfl,hs⟩:=h
  cases hv with
  |eref hb hsz hr=>
   have hl:=Mu (AAK hs)
   rename_i d b off cs
   refine .eref hb (by omega) λj x y hx hy=>?_
   have hz:∀j,j<d.cells1.length->(cs.extract off (off+d.cells1.length))[j]?=cs[off+j]?:=λj hj=>by rw[Array.getElem?_extract];simp;omega
   obtain⟨v,h1,h2⟩:=BGL (B:=B) (e:=d) (zs:=cs.extract off (off+d.cells1.length)) (by simp;omega) (λj x z hx hz'=>by
    have hlt:=(List.getElem?_eq_some_iff.1 hx).1
    rw[hz j hlt] at hz'
    exact hr j x z hx hz')
   have hlt:=(List.getElem?_eq_some_iff.1 hx).1
   exact h2 a hs (GC a d v hs h1) j x y hx (by rw[hz j (by omega)];exact hy)
theorem tX:∀(l:List DVal) (j:Nat) (x y:DVal) (v:Value),l[j]?=some x->JS x y->DRel B y v->DRel B x v
 |[],j,x,y,v,hx,_,_=>by simp at hx
 |a :: l,0,x,y,v,hx,h,hv=>by simp at hx;subst hx;exact GC a y v h hv
 |a :: l,j+1,x,y,v,hx,h,hv=>tX l j x y v (by simpa using hx) h hv
end
end Go.Sym

namespace Go.Sym
variable {P : Program} {B B' : Kb} {ι ι' : Nat -> Pl} {H H' : Heap} {D : Nat -> Prop} {w w' : World}
mutual
def vA(ρ:Nat->Nat)(p:Nat->Bool):AVal->AVal->Prop
 | .any,_=>True
 | .d x,.d y=>JS x y
 | .agg xs,.agg ys=>Wk ρ p xs ys
 | .tup xs,.tup ys=>Wk ρ p xs ys
 | .bptr i c,.bptr j d=>j=ρ i/\p i=true/\c=d
 | .rptr i k e c,.rptr j k' e' c'=>j=ρ i/\p i=true/\k=k'/\e=e'/\c=c'
 | .own i k e n,.own j k' e' n'=>j=ρ i/\p i=true/\k=k'/\e=e'/\n=n'
 | .fn f a b,.fn g c d=>f=g/\Wk ρ p a c/\Wk ρ p b d
 | .mref i,.mref j=>j=ρ i/\p i=true
 | .opt g a,.opt h b=>g=h/\vA ρ p a b
 |_,_=>False
def Wk(ρ:Nat->Nat)(p:Nat->Bool):List AVal->List AVal->Prop
 |[],[]=>True
 |x :: xs,y :: ys=>vA ρ p x y/\Wk ρ p xs ys
 |_,_=>False
end
theorem Hs{ρ:Nat->Nat}{p:Nat->Bool}:∀{xs ys:List AVal},Wk ρ p xs ys->xs.length=ys.length
 |[],[],_=>rfl
 |x :: xs,y :: ys,h=>by simp only[Wk] at h;simp[Hs h.2]
 |[],_ :: _,h=>by simp[Wk] at h
 |_ :: _,[],h=>by simp[Wk] at h
theorem My{ρ:Nat->Nat}{p:Nat->Bool}:∀{xs ys:List AVal},Wk ρ p xs ys->∀{j:Nat} {x:AVal},xs[j]?=some x->∃y,ys[j]?=some y/\vA ρ p x y
 |[],[],_,j,x,hx=>by simp at hx
 |a :: xs,b :: ys,h,0,x,hx=>by simp only[Wk] at h;simp at hx;subst hx;exact⟨b,rfl,h.1⟩
 |a :: xs,b :: ys,h,j+1,x,hx=>by
  simp only[Wk] at h
  obtain⟨y,hy,hs⟩:=My h.2 (j:=j) (by simpa using hx)
  exact⟨y,by simpa using hy,hs⟩
 |[],_ :: _,h,_,_,_=>by simp[Wk] at h
 |_ :: _,[],h,_,_,_=>by simp[Wk] at h
mutual
theorem nN{ρ:Nat->Nat}{p:Nat->Bool}{D':Nat->Prop}(hp:∀i,p i=true->D' i):∀(x y:AVal) (v:Value),vA ρ p x y->VRel B ι D y v->VRel B (λi=>ι (ρ i)) D' x v
 | .any,_,_,_,_=>.any
 | .d x,y,v,h,hv=>by cases y<;>simp only[vA] at h;exact .d (GC _ _ _ h hv.d_inv)
 | .agg xs,y,v,h,hv=>by
  cases y<;>simp only[vA] at h
  cases hv with
  |agg hl hr=>
   exact .agg (by rw[hl,Hs h]) λj x z hx hz=>by
    obtain⟨y,hy,hs⟩:=My h hx
    exact Hj hp xs j x y z hx hs (hr j y z hy hz)
 | .tup xs,y,v,h,hv=>by
  cases y<;>simp only[vA] at h
  cases hv with
  |tup hl hr=>
   exact .tup (by rw[hl,Hs h]) λj x z hx hz=>by
    obtain⟨y,hy,hs⟩:=My h hx
    exact Hj hp xs j x y z hx hs (hr j y z hy hz)
 | .bptr i c,y,v,h,hv=>by
  cases y<;>simp only[vA] at h
  obtain⟨rfl,h2,rfl⟩:=h
  cases hv;exact VRel.bptr (ι:=λi=>ι (ρ i)) (hp _ h2)
 | .rptr i k e c,y,v,h,hv=>by
  cases y<;>simp only[vA] at h
  obtain⟨rfl,h2,rfl,rfl,rfl⟩:=h
  cases hv;exact VRel.rptr (ι:=λi=>ι (ρ i)) (hp _ h2)
 | .own i k e n,y,v,h,hv=>by
  cases y<;>simp only[vA] at h
  obtain⟨rfl,h2,rfl,rfl,rfl⟩:=h
  cases hv with
  |own _ h3 h4=>exact VRel.own (ι:=λi=>ι (ρ i)) (hp _ h2) h3 h4
 | .fn f a b,y,v,h,hv=>by
  cases y<;>simp only[vA] at h
  obtain⟨rfl,h1,h2⟩:=h
  cases hv with
  |fn h3 h4 h5 h6=>
   exact .fn (by rw[h3,Hs h1]) (by rw[h4,Hs h2])
    (λj x z hx hz=>by
     obtain⟨y,hy,hs⟩:=My h1 hx
     exact Hj hp a j x y z hx hs (h5 j y z hy hz))
    λj x z hx hz=>by
     obtain⟨y,hy,hs⟩:=My h2 hx
     exact Hj hp b j x y z hx hs (h6 j y z hy hz)
 | .mref i,y,v,h,hv=>by
  cases y<;>simp only[vA] at h
  obtain⟨rfl,h2⟩:=h
  cases hv;exact VRel.mref (ι:=λi=>ι (ρ i)) (hp _ h2)
 | .opt g a,y,v,h,hv=>by
  cases y<;>simp only[vA] at h
  obtain⟨rfl,h2⟩:=h
  cases hv with
  |opt h3 h4=>exact .opt (λhg=>nN hp a _ v h2 (h3 hg)) h4
theorem Hj{ρ:Nat->Nat}{p:Nat->Bool}{D':Nat->Prop}(hp:∀i,p i=true->D' i):∀(l:List AVal) (j:Nat) (x y:AVal) (v:Value),l[j]?=some x->vA ρ p x y->VRel B ι D y v->VRel B (λi=>ι (ρ i)) D' x v
 |[],j,x,y,v,hx,_,_=>by simp at hx
 |a :: l,0,x,y,v,hx,h,hv=>by simp at hx;subst hx;exact nN hp a y v h hv
 |a :: l,j+1,x,y,v,hx,h,hv=>Hj hp l j x y v (by simpa using hx) h hv
end
def zY(ρ:Nat->Nat)(p:Nat->Bool):AObj->AObj->Prop
 | .row k n g,.row k' n' g'=>k=k'/\n=n'/\∀i,i<n->JS (g i) (g' i)
 | .box es,.box es'=>Wk ρ p es es'
 | .imap q z h g s p,.imap q' z' h' g' s' p'=>q=q'/\z=z'/\p=p'/\(∀n,h n=h' n)/\(∀n,s n=s' n)/\∀n,JS (g n) (g' n)
 | .kmap q z h g,.kmap q' z' h' g'=>q=q'/\z=z'/\(∀n,h n=h' n)/\∀n,JS (g n) (g' n)
 | .abox es m g,.abox es' m' g'=>Wk ρ p es es'/\m=m'/\∀i,i<m->g i=g' i
 | .nbox ds m z g,.nbox ds' m' z' g'=>Jy ds ds'/\m=m'/\z=z'/\∀i,ds.length<=i->i<ds.length+m->g i=g' i
 | .miter m a b c d,.miter m' a' b' c' d'=>p m=true/\ρ m=m'/\(∀n,a n=a' n)/\(∀n,b n=b' n)/\(∀n,c n=c' n)/\(d=none∨d=d')
 |_,_=>False
theorem Tg{ρ:Nat->Nat}{p:Nat->Bool}{D':Nat->Prop}(hp:∀i,p i=true->D' i){q:Nat}{a b:AObj}{x:Option Obj}(h:zY ρ p a b)(hb:ORel B ι D q b x):ORel B (λi=>ι (ρ i)) D' q a x:=by
 cases a with
 |row k n g=>
  cases b<;>simp only[zY] at h
  obtain⟨rfl,rfl,hg⟩:=h
  cases hb with
  |row hk hn hsz hr=>
   refine .row (λi hi=>N1 (hg i hi) (hk i hi)) hn hsz λi j x y hi hx hy=>?_
   have h1:(i+1)*k<=n*k:=Nat.mul_le_mul_right k hi
   have h2:(i+1)*k=i*k+k:=Nat.succ_mul i k
   have h3:n*k<=q*k:=Nat.mul_le_mul_right k hn
   exact L0 (hg i hi) (hk i hi) (by omega) (λj x y hx hy=>hr i j x y hi hx hy) (λv hv=>GC (g i) _ v (hg i hi) hv) j x y hx hy
 |box es=>
  cases b<;>simp only[zY] at h
  cases hb with
  |box hsz hr=>
   exact .box (by rw[hsz,Hs h]) λj x z hx hz=>by
    obtain⟨y,hy,hs⟩:=My h hx
    exact Hj hp es j x y z hx hs (hr j y z hy hz)
 |imap kd z has get st pend=>
  cases b<;>simp only[zY] at h
  obtain⟨rfl,rfl,rfl,hh,hs,hg⟩:=h
  cases hb with
  |imap hm=>
   refine .imap ⟨λi e he=>?_,λn hn=>?_,λn hn=>hm.met n (by rw[<-hh n];exact hn),hm.once⟩
   ·obtain⟨n,h1,h2,h3,h4,h5⟩:=hm.keys i e he
    exact⟨n,h1,by rw[hh n];exact h2,h3,by rw[hs n];exact h4,GC _ _ _ (hg n) h5⟩
   ·obtain⟨h1,h2⟩:=hm.miss n (by rw[<-hh n];exact hn)
    exact⟨GC _ _ _ (hg n) h1,by rw[hs n];exact h2⟩
 |kmap kd z has get=>
  cases b<;>simp only[zY] at h
  obtain⟨rfl,rfl,hh,hg⟩:=h
  cases hb with
  |kmap hm=>
   refine .kmap ⟨λi e he=>?_,λn hn=>?_,λn hn=>hm.met n (by rw[<-hh n];exact hn),hm.once⟩
   ·obtain⟨n,h1,h2,h5⟩:=hm.keys i e he
    exact⟨n,h1,by rw[hh n];exact h2,GC _ _ _ (hg n) h5⟩
   ·exact GC _ _ _ (hg n) (hm.miss n (by rw[<-hh n];exact hn))
 |abox es m g=>
  cases b<;>simp only[zY] at h
  obtain⟨h,rfl,hg⟩:=h
  cases hb with
  |abox hsz hr hb=>
   exact .abox (by rw[hsz,Hs h]) (λj x z hx hz=>by
    obtain⟨y,hy,hs⟩:=My h hx
    exact Hj hp es j x y z hx hs (hr j y z hy hz)) λj hj=>by rw[Hs h,hg j hj];exact hb j hj
 |nbox ds m z g=>
  cases b<;>simp only[zY] at h
  obtain⟨h,rfl,rfl,hg⟩:=h
  cases hb with
  |nbox hsz hr hb=>
   exact .nbox (by rw[hsz,Mu h]) (λj x z hx hz=>by
    obtain⟨y,hy,hs⟩:=xD h hx
    exact GC x y z hs (hr j y z hy hz)) λj hj1 hj2=>by rw[hg j hj1 hj2];exact hb j (by rw[<-Mu h];exact hj1) (by rw[<-Mu h];exact hj2)
 |miter m a1 b1 c1 d1=>
  cases b<;>simp only[zY] at h
  obtain⟨h0,rfl,ha,hb',hc,hd⟩:=h
  obtain rfl:a1=_:=funext ha
  obtain rfl:b1=_:=funext hb'
  obtain rfl:c1=_:=funext hc
  cases hb with
  |miter hD h1 h2 h3 h4 h5=>
   refine .miter (hp m h0) h1 h2 h3 h4 λk hk=>?_
   rcases hd with rfl | rfl
   ·cases hk
   ·exact h5 k hk
def NY:List (Nat×AVal)->Nat->AVal
 |[],_=>.any
 |(j,v) :: r,t=>if t=j then v else NY r t
def mI(l:List (Nat×HCell)):Heap:=λi=>(Hp l i).getD .none
structure ST where
 sl:List (Nat×AVal)
 H:List (Nat×HCell)
def ST.st(s:ST):AState:=⟨NY s.sl,mI s.H⟩
def BYJ(ρ:Nat->Nat)(p:Nat->Bool)(sl:Nat->AVal):List (Nat×AVal)->Prop
 |[]=>True
 |(t,v) :: r=>vA ρ p v (sl t)/\BYJ ρ p sl r
def cSub(ρ:Nat->Nat)(p:Nat->Bool):HCell->HCell->Prop
 | .live o,.live o'=>zY ρ p o o'
 | .dead,.live _=>True
 | .dead,.dead=>True
 |_,_=>False
def hSub(ρ:Nat->Nat)(p:Nat->Bool)(H:Heap):List (Nat×HCell)->Prop
 |[]=>True
 |(i,c) :: r=>cSub ρ p c (H (ρ i))/\hSub ρ p H r
def PN(l:List (Nat×Nat))(i:Nat):Nat:=match l with
 |[]=>i
 |(a,b) :: r=>if i=a then b else PN r i
def CJJ(E:List Nat)(l:List (Nat×Nat))(s:ST)(σ:AState):Prop:=
 BYJ (PN l) (λi=>(Hp s.H i).isSome) σ.sl s.sl/\hSub (PN l) (λi=>(Hp s.H i).isSome) σ.H s.H /\
  (nodup (s.H.map λx=>PN l x.1)&&E.all λi=>PN l i==i&&(Hp s.H i).isSome)=true
theorem AMQ{ρ:Nat->Nat}{p:Nat->Bool}{sl:Nat->AVal}:∀{l:List (Nat×AVal)},BYJ ρ p sl l->∀t,vA ρ p (NY l t) (sl t)
 |[],_,t=>by simp[NY,vA]
 |(j,v) :: r,h,t=>by
  simp only[NY]
  split
  ·rename_i e;subst e;exact h.1
  ·exact AMQ h.2 t
theorem AFF{ρ:Nat->Nat}{p:Nat->Bool}{H:Heap}:∀{l:List (Nat×HCell)},hSub ρ p H l->∀{i:Nat} {c:HCell},(i,c)∈l->cSub ρ p c (H (ρ i))
 |[],_,i,c,h=>by cases h
 |(j,d) :: r,h,i,c,hm=>by
  rcases List.mem_cons.1 hm with hm | hm
  ·cases hm;exact h.1
  ·exact AFF h.2 hm
theorem Rel.sub{c:Ctx}{E:List Nat}{l:List (Nat×Nat)}{s:ST}{σ:AState}{a:Act}(hE:∀i,c.H0.dom i->i∈E)(h:CJJ E l s σ)(hR:Rel c B ι σ a w):Rel c B (λi=>ι (PN l i)) s.st a w:=by
 obtain⟨h1,h2,h3⟩:=h
 simp only[Bool.and_eq_true,List.all_eq_true,beq_iff_eq] at h3
 obtain⟨h3,h4⟩:=h3
 have hnd:=Ah h3
 have hdom:∀i,(λi=>(Hp s.H i).isSome) i=true->(ST.st s).H.dom i:=λi hi=>by
  obtain⟨d,hd⟩:=Option.isSome_iff_exists.1 hi
  have:=AFF h2 (Cx hd)
  unfold Heap.dom
  show (Hp s.H i).getD .none≠.none
  rw[hd]
  intro he
  simp at he;subst he
  simp[cSub] at this
 have live:∀i o,(ST.st s).H i=.live o->(i,.live o)∈s.H/\∃o',σ.H (PN l i)=.live o'/\zY (PN l) (λi=>(Hp s.H i).isSome) o o':=λi o hi=>by
  have hg:Hp s.H i=some (.live o):=by
   have:(Hp s.H i).getD .none=.live o:=hi
   cases hq:Hp s.H i with
   |none=>rw[hq] at this;cases this
   |some d=>rw[hq] at this;simpa using this
  have hm:=Cx hg
  have:=AFF h2 hm
  refine⟨hm,?_⟩
  cases hq:σ.H (PN l i) with
  |live o'=>rw[hq] at this;exact⟨o',rfl,this⟩
  |none=>rw[hq] at this;simp[cSub] at this
  |dead=>rw[hq] at this;simp[cSub] at this
 refine⟨λt=>nN hdom _ _ _ (AMQ h1 t) (hR.slots t),hR.size,?_,?_⟩
 ·obtain⟨Ds,d1,d0,d2,d3⟩:=hR.defers
  refine⟨Ds,d1,d0,d2,λD hD=>⟨(d3 D hD).1,(d3 D hD).2.here,λi o hi=>?_⟩⟩
  obtain⟨_,o',ho,_⟩:=live i o hi
  exact (d3 D hD).2.sep _ _ ho
 have hm:=hR.mv
 refine⟨hm.bm,hm.bn,λi hi=>?_,⟨λi o hi=>?_,λi j o o' hi hj hij=>?_,λi o hi=>?_,hm.heap.imm⟩,λi o hi=>?_,hm.frame,hm.size,hm.calm⟩
 ·obtain⟨h5,h6⟩:=h4 i (hE i hi)
  exact⟨hdom i h6,by rw[h5];exact (hm.im i hi).2⟩
 ·obtain⟨_,o',ho,hs⟩:=live i o hi
  exact Tg hdom hs (hm.heap.obj _ _ ho)
 ·obtain⟨m1,o1,ho1,_⟩:=live i o hi
  obtain⟨m2,o2,ho2,_⟩:=live j o' hj
  exact (C3 hnd m1 m2 (hm.heap.inj _ _ _ _ ho1 ho2 hij)).1
 ·obtain⟨_,o',ho,_⟩:=live i o hi
  exact hm.heap.sep _ _ ho
 ·obtain⟨_,o',ho,_⟩:=live i o hi
  exact hm.own _ _ ho
theorem CodeE.sub{c:Ctx}{E:List Nat}{l:List (Nat×Nat)}{s:ST}{σ:AState}{code:Code}{Q:Exit->AState->Prop}(hE:∀i,c.H0.dom i->i∈E)(hs:CJJ E l s σ)(h:CodeE P c code Q s.st):CodeE P c code Q σ:=
 λ_ _ a w hR=>h _ _ a w (hR.sub hE hs)
end Go.Sym

namespace Go.Sym
variable {P : Program} {B B' : Kb} {ι ι' : Nat -> Pl} {H H' : Heap} {D : Nat -> Prop} {w w' : World}
theorem NU{a b:Nat}:(Nat.beq a b=true)=(a=b):=propext ⟨Nat.eq_of_beq_eq_true,λh=>by subst h;exact Nat.beq_refl a⟩
def HN:Option (List Prop)->Prop
 |some l=>CR l
 |none=>False
def lT:Option (List Prop)->Option (List Prop)->Option (List Prop)
 |some l,some m=>some (l ++ m)
 |_,_=>none
def BWK:Value->Value->Option (List Prop)
 | .int k a,.int k' b=>if k=k' then some [a=b] else none
 | .bool a,.bool b=>some [a=b]
 | .string a,.string b=>some [a=b]
 |x,y=>some [x=y]
theorem IE{a b:Option (List Prop)}(h:HN (lT a b)):HN a/\HN b:=by
 cases a with
 |none=>exact h.elim
 |some l=>cases b with
  |none=>exact h.elim
  |some m=>exact BV h
theorem BKV(x:Value):vEq x x:=by
 unfold vEq;split<;>simp_all
theorem BAC{x y:Value}(h:HN (BWK x y)):vEq x y:=by
 unfold BWK at h
 split at h
 ·split at h
  ·rename_i hk;exact⟨hk,h⟩
  ·exact h.elim
 ·exact h
 ·exact h
 ·have h:x=y:=h
  subst h
  exact BKV x
mutual
def Kj:DVal->DVal->Option (List Prop)
 | .v x,.v y=>BWK x y
 | .agg xs,.agg ys=>A9 xs ys
 | .tup xs,.tup ys=>A9 xs ys
 | .list k n g e,.list k' n' g' e'=>if Nat.beq k k'&&(!e||e') then some [n=n',∀i,i<n->HN (Kj (g i) (g' i))] else if (Nat.beq k' 0||Nat.beq k 0)&&(!e||e') then some [n=n',n=0] else none
 | .arr k n g,.arr k' n' g'=>if Nat.beq k k' then some [n=n',∀i,i<n->HN (Kj (g i) (g' i))] else none
 | .eref x c,.eref y d=>if Nat.beq c d then Kj x y else none
 | .iface t x,.iface u y=>if Nat.beq t u then Kj x y else none
 | .anyB,.anyB=>some []
 |_,_=>none
def A9:List DVal->List DVal->Option (List Prop)
 |[],[]=>some []
 |x :: xs,y :: ys=>lT (Kj x y) (A9 xs ys)
 |_,_=>none
end
mutual
theorem JK:∀(x y:DVal),HN (Kj x y)->JS x y
 | .v x,y,h=>by cases y<;>simp only[Kj] at h<;>first | exact (by simp only[JS];exact BAC h) | exact h.elim
 | .agg xs,y,h=>by cases y<;>simp only[Kj] at h<;>first | exact (by simp only[JS];exact gR _ _ h) | exact h.elim
 | .tup xs,y,h=>by cases y<;>simp only[Kj] at h<;>first | exact (by simp only[JS];exact gR _ _ h) | exact h.elim
 | .list k n g e,y,h=>by
  cases y<;>simp only[Kj] at h<;>try exact h.elim
  split at h
  ·rename_i hc
   simp only[Bool.and_eq_true,NU,Bool.or_eq_true,Bool.not_eq_true'] at hc
   obtain⟨h1,h2⟩:=KF.1 h
   simp only[JS]
   refine⟨.inl hc.1,h1,λhe=>?_,λi hi=>JK _ _ (h2 i hi)⟩
   rcases hc.2 with h | h
   ·rw[he] at h;cases h
   ·exact h
  ·split at h
   ·rename_i hc
    simp only[Bool.and_eq_true,NU,Bool.or_eq_true,Bool.not_eq_true'] at hc
    obtain⟨h1,h2⟩:=KF.1 h
    have h2:n=0:=h2
    simp only[JS]
    refine⟨.inr h2,h1,λhe=>?_,λi hi=>by omega⟩
    rcases hc.2 with h | h
    ·rw[he] at h;cases h
    ·exact h
   ·exact h.elim
 | .arr k n g,y,h=>by
  cases y<;>simp only[Kj] at h<;>try exact h.elim
  split at h
  ·rename_i hc
   obtain⟨h1,h2⟩:=KF.1 h
   simp only[JS]
   exact⟨Nat.eq_of_beq_eq_true hc,h1,λi hi=>JK _ _ (h2 i hi)⟩
  ·exact h.elim
 | .anyB,y,h=>by
  cases y<;>simp only[Kj] at h<;>try exact h.elim
  simp only[JS]
 | .iface x c,y,h=>by
  cases y<;>simp only[Kj] at h<;>try exact h.elim
  split at h
  ·rename_i hc
   simp only[JS]
   exact⟨Nat.eq_of_beq_eq_true hc,JK _ _ h⟩
  ·exact h.elim
 | .eref x c,y,h=>by
  cases y<;>simp only[Kj] at h<;>try exact h.elim
  split at h
  ·rename_i hc
   simp only[JS]
   exact⟨Nat.eq_of_beq_eq_true hc,JK _ _ h⟩
  ·exact h.elim
theorem gR:∀(x y:List DVal),HN (A9 x y)->Jy x y
 |[],y,h=>by cases y<;>simp only[A9] at h<;>first | trivial | exact h.elim
 |x :: xs,y,h=>by
  cases y<;>simp only[A9] at h
  ·exact h.elim
  ·obtain⟨h1,h2⟩:=IE h
   simp only[Jy]
   exact⟨JK _ _ h1,gR _ _ h2⟩
end
abbrev wY:=Nat->Option (Nat×Nat×(Nat->DVal))
structure FrzRow(B':Kb)(ι:Nat->Pl)(id k m:Nat)(get:Nat->DVal)(c:Array Value):Prop where
 at':B' (ι id).b=some c
 len:m<=(ι id).cap
 size:(ι id).cap*k<=c.size
 ok:∀i,i<m->EOk k (get i)
 rel:∀(i j:Nat) (x:DVal) (y:Value),i<m->(get i).cells1[j]?=some x->c[i*k+j]?=some y->DRel B' x y
def vY(B B':Kb)(ι:Nat->Pl)(F:wY):Prop:=
 (∀b c,B b=some c->B' b=some c)/\∀id k m get,F id=some (k,m,get)->∃c,FrzRow B' ι id k m get c
mutual
def Ux(F:wY):DVal->AVal->Option (List Prop)
 |x,.d y=>Kj x y
 | .list k n g e,.own id k' i n'=>match F id with
  |some (k2,m,get)=>if Nat.beq k k'&&Nat.beq k k2&&!e then some [n=n',i+n'<=m,∀j,j<n->HN (Kj (g j) (get (i+j)))] else none
  |none=>none
 | .agg xs,.agg ys=>Kn F xs ys
 | .tup xs,.tup ys=>Kn F xs ys
 |_,_=>none
def Kn(F:wY):List DVal->List AVal->Option (List Prop)
 |[],[]=>some []
 |x :: xs,y :: ys=>lT (Ux F x y) (Kn F xs ys)
 |_,_=>none
end
theorem sY{F:wY}:∀{xs:List DVal} {ys:List AVal},HN (Kn F xs ys)->xs.length=ys.length
 |[],[],_=>rfl
 |x :: xs,y :: ys,h=>by simp only[Kn] at h;simp[sY (IE h).2]
 |[],_ :: _,h=>by simp only[Kn] at h;exact h.elim
 |_ :: _,[],h=>by simp only[Kn] at h;exact h.elim
theorem vG{F:wY}:∀{xs:List DVal} {ys:List AVal},HN (Kn F xs ys)->∀{j:Nat} {x:DVal},xs[j]?=some x->∃y,ys[j]?=some y/\HN (Ux F x y)
 |[],[],_,j,x,hx=>by simp at hx
 |a :: xs,b :: ys,h,0,x,hx=>by simp only[Kn] at h;simp at hx;subst hx;exact⟨b,rfl,(IE h).1⟩
 |a :: xs,b :: ys,h,j+1,x,hx=>by
  simp only[Kn] at h
  obtain⟨y,hy,hs⟩:=vG (IE h).2 (j:=j) (by simpa using hx)
  exact⟨y,by simpa using hy,hs⟩
 |[],_ :: _,h,_,_,_=>by simp only[Kn] at h;exact h.elim
 |_ :: _,[],h,_,_,_=>by simp only[Kn] at h;exact h.elim
theorem AJL{F:wY}(hF:vY B B' ι F){k n:Nat}{g:Nat->DVal}{id i n' m:Nat}{get:Nat->DVal}{v:Value}(hf:F id=some (k,m,get))(hn:n=n')(hm:i+n'<=m)(hg:∀j,j<n->JS (g j) (get (i+j)))(hv:VRel B ι D (.own id k i n') v):DRel B' (.list k n g false) v:=by
 obtain⟨c,hc⟩:=hF.2 id k m get hf
 subst hn
 cases hv with
 |own hD hcap hq=>
  rcases Nat.eq_zero_or_pos n with rfl | hp
  ·exact .nil (λh=>by cases h) (.inr (by simp))
  ·have hsz:∀j,j<n->(i+j+1)*k<=c.size:=λj hj=>by
    have h1:(i+j+1)*k<=(ι id).cap*k:=Nat.mul_le_mul_right k (by have:=hc.len;omega)
    have:=hc.size
    omega
   refine .list hp hc.at' hcap (λh=>by cases h) (λj hj=>N1 (hg j hj) (hc.ok _ (by omega))) ?_ λj l x y hj hx hy=>?_
   ·have h1:(i+n)*k<=(ι id).cap*k:=Nat.mul_le_mul_right k (by have:=hc.len;omega)
    have h2:(i+n)*k=i*k+n*k:=Nat.add_mul i n k
    have:=hc.size
    omega
   ·have e1:(i+j)*k=i*k+j*k:=Nat.add_mul i j k
    have e2:(i+j+1)*k=(i+j)*k+k:=Nat.succ_mul _ k
    refine (L0 (o:=(i+j)*k) (hg j hj) (hc.ok _ (by omega)) (by have:=hsz j hj;omega) (λl x y hx hy=>hc.rel (i+j) l x y (by omega) hx hy) (λv hv=>GC _ _ v (hg j hj) hv) l x y hx (by rw[e1];exact hy))
mutual
theorem F5{F:wY}(hF:vY B B' ι F):∀(x:DVal) (y:AVal) (v:Value),HN (Ux F x y)->VRel B ι D y v->DRel B' x v
 | .v x,y,v,h,hv=>by
  cases y<;>simp only[Ux] at h<;>try exact h.elim
  exact (GC _ _ v (JK _ _ h) hv.d_inv).mono hF.1
 | .anyB,y,v,h,hv=>by
  cases y<;>simp only[Ux] at h<;>try exact h.elim
  exact (GC _ _ v (JK _ _ h) hv.d_inv).mono hF.1
 | .iface x c,y,v,h,hv=>by
  cases y<;>simp only[Ux] at h<;>try exact h.elim
  exact (GC _ _ v (JK _ _ h) hv.d_inv).mono hF.1
 | .eref x c,y,v,h,hv=>by
  cases y<;>simp only[Ux] at h<;>try exact h.elim
  exact (GC _ _ v (JK _ _ h) hv.d_inv).mono hF.1
 | .arr k n g,y,v,h,hv=>by
  cases y<;>simp only[Ux] at h<;>try exact h.elim
  exact (GC _ _ v (JK _ _ h) hv.d_inv).mono hF.1
 | .list k n g e,y,v,h,hv=>by
  cases y<;>simp only[Ux] at h<;>try exact h.elim
  ·exact (GC _ _ v (JK _ _ h) hv.d_inv).mono hF.1
  ·split at h
   ·rename_i k2 m get hf
    split at h
    ·rename_i hc
     simp only[Bool.and_eq_true,NU,Bool.not_eq_true'] at hc
     obtain⟨⟨rfl,rfl⟩,rfl⟩:=hc
     obtain⟨h1,h2⟩:=KF.1 h
     obtain⟨h2,h3⟩:=KF.1 h2
     exact AJL hF hf h1 h2 (λj hj=>JK _ _ (h3 j hj)) hv
    ·exact h.elim
   ·exact h.elim
 | .agg xs,y,v,h,hv=>by
  cases y<;>simp only[Ux] at h<;>try exact h.elim
  ·exact (GC _ _ v (JK _ _ h) hv.d_inv).mono hF.1
  ·cases hv with
   |agg hl hr=>
    exact .agg (by rw[hl,sY h]) λj x z hx hz=>by
     obtain⟨y,hy,hs⟩:=vG h hx
     exact iJ hF xs j x y z hx hs (hr j y z hy hz)
 | .tup xs,y,v,h,hv=>by
  cases y<;>simp only[Ux] at h<;>try exact h.elim
  ·exact (GC _ _ v (JK _ _ h) hv.d_inv).mono hF.1
  ·cases hv with
   |tup hl hr=>
    exact .tup (by rw[hl,sY h]) λj x z hx hz=>by
     obtain⟨y,hy,hs⟩:=vG h hx
     exact iJ hF xs j x y z hx hs (hr j y z hy hz)
theorem iJ{F:wY}(hF:vY B B' ι F):∀(l:List DVal) (j:Nat) (x:DVal) (y:AVal) (v:Value),l[j]?=some x->HN (Ux F x y)->VRel B ι D y v->DRel B' x v
 |[],j,x,y,v,hx,_,_=>by simp at hx
 |a :: l,0,x,y,v,hx,h,hv=>by simp at hx;subst hx;exact F5 hF a y v h hv
 |a :: l,j+1,x,y,v,hx,h,hv=>iJ hF l j x y v (by simpa using hx) h hv
end
def BXS:Fn->Fn->Option (List Prop)
 | .func a,.func b=>if Nat.beq a b then some [] else none
 |f,g=>some [f=g]
theorem BBV{f g:Fn}(h:HN (BXS f g)):f=g:=by
 unfold BXS at h
 split at h
 ·split at h
  ·rename_i hb;rw[Nat.eq_of_beq_eq_true hb]
  ·exact h.elim
 ·exact h
mutual
def Ql(F:wY)(ρ:Nat->Nat)(p:Nat->Bool):AVal->AVal->Option (List Prop)
 | .any,_=>some []
 | .d x,y=>Ux F x y
 | .agg xs,.agg ys=>RZ F ρ p xs ys
 | .agg xs,.d (.agg ys)=>RZ F ρ p xs (ys.map .d)
 | .tup xs,.tup ys=>RZ F ρ p xs ys
 | .tup xs,.d (.tup ys)=>RZ F ρ p xs (ys.map .d)
 | .bptr i c,.bptr j d=>if Nat.beq j (ρ i)&&p i&&Nat.beq c d then some [] else none
 | .rptr i k e c,.rptr j k' e' c'=>if Nat.beq j (ρ i)&&p i&&Nat.beq k k'&&Nat.beq c c' then some [e=e'] else none
 | .own i k e n,.own j k' e' n'=>if Nat.beq j (ρ i)&&p i&&Nat.beq k k' then some [e=e',n=n'] else none
 | .fn f a b,.fn g c d=>lT (BXS f g) (lT (RZ F ρ p a c) (RZ F ρ p b d))
 | .mref i,.mref j=>if Nat.beq j (ρ i)&&p i then some [] else none
 | .opt g a,.opt h b=>lT (some [g=h]) (Ql F ρ p a b)
 |_,_=>none
def RZ(F:wY)(ρ:Nat->Nat)(p:Nat->Bool):List AVal->List AVal->Option (List Prop)
 |[],[]=>some []
 |x :: xs,y :: ys=>lT (Ql F ρ p x y) (RZ F ρ p xs ys)
 |_,_=>none
end
theorem WO{F:wY}{ρ:Nat->Nat}{p:Nat->Bool}:∀{xs ys:List AVal},HN (RZ F ρ p xs ys)->xs.length=ys.length
 |[],[],_=>rfl
 |x :: xs,y :: ys,h=>by simp only[RZ] at h;simp[WO (IE h).2]
 |[],_ :: _,h=>by simp only[RZ] at h;exact h.elim
 |_ :: _,[],h=>by simp only[RZ] at h;exact h.elim
theorem Bd{F:wY}{ρ:Nat->Nat}{p:Nat->Bool}:∀{xs ys:List AVal},HN (RZ F ρ p xs ys)->∀{j:Nat} {x:AVal},xs[j]?=some x->∃y,ys[j]?=some y/\HN (Ql F ρ p x y)
 |[],[],_,j,x,hx=>by simp at hx
 |a :: xs,b :: ys,h,0,x,hx=>by simp only[RZ] at h;simp at hx;subst hx;exact⟨b,rfl,(IE h).1⟩
 |a :: xs,b :: ys,h,j+1,x,hx=>by
  simp only[RZ] at h
  obtain⟨y,hy,hs⟩:=Bd (IE h).2 (j:=j) (by simpa using hx)
  exact⟨y,by simpa using hy,hs⟩
 |[],_ :: _,h,_,_,_=>by simp only[RZ] at h;exact h.elim
 |_ :: _,[],h,_,_,_=>by simp only[RZ] at h;exact h.elim
theorem CAY{ys:List DVal}{v:Value}(h:DRel B (.agg ys) v):VRel B ι D (.agg (ys.map .d)) v:=by
 cases h with
 |agg hl hr=>
  refine .agg (by simp[hl]) λj x z hx hz=>?_
  rw[List.getElem?_map] at hx
  obtain⟨x',h1,rfl⟩:=Option.map_eq_some_iff.1 hx
  exact .d (hr j x' z h1 hz)
theorem CBZ{ys:List DVal}{v:Value}(h:DRel B (.tup ys) v):VRel B ι D (.tup (ys.map .d)) v:=by
 cases h with
 |tup hl hr=>
  refine .tup (by simp[hl]) λj x z hx hz=>?_
  rw[List.getElem?_map] at hx
  obtain⟨x',h1,rfl⟩:=Option.map_eq_some_iff.1 hx
  exact .d (hr j x' z h1 hz)
mutual
theorem Wh{F:wY}(hF:vY B B' ι F){ρ:Nat->Nat}{p:Nat->Bool}{D':Nat->Prop}(hp:∀i,p i=true->D' i):∀(x y:AVal) (v:Value),HN (Ql F ρ p x y)->VRel B ι D y v->VRel B' (λi=>ι (ρ i)) D' x v
 | .any,_,_,_,_=>.any
 | .d x,y,v,h,hv=>.d (F5 hF x y v (by simpa only[Ql] using h) hv)
 | .agg xs,y,v,h,hv=>by
  have fin:∀ys:List AVal,HN (RZ F ρ p xs ys)->VRel B ι D (.agg ys) v->VRel B' (λi=>ι (ρ i)) D' (.agg xs) v:=λys h hv=>by
   cases hv with
   |agg hl hr=>
    exact .agg (by rw[hl,WO h]) λj x z hx hz=>by
     obtain⟨y,hy,hs⟩:=Bd h hx
     exact Bu hF hp xs j x y z hx hs (hr j y z hy hz)
  cases y<;>(try simp only[Ql] at h)<;>try exact h.elim
  ·rename_i x
   cases x<;>(try simp only[Ql] at h)<;>try exact h.elim
   exact fin _ h (CAY hv.d_inv)
  ·exact fin _ h hv
 | .tup xs,y,v,h,hv=>by
  have fin:∀ys:List AVal,HN (RZ F ρ p xs ys)->VRel B ι D (.tup ys) v->VRel B' (λi=>ι (ρ i)) D' (.tup xs) v:=λys h hv=>by
   cases hv with
   |tup hl hr=>
    exact .tup (by rw[hl,WO h]) λj x z hx hz=>by
     obtain⟨y,hy,hs⟩:=Bd h hx
     exact Bu hF hp xs j x y z hx hs (hr j y z hy hz)
  cases y<;>(try simp only[Ql] at h)<;>try exact h.elim
  ·rename_i x
   cases x<;>(try simp only[Ql] at h)<;>try exact h.elim
   exact fin _ h (CBZ hv.d_inv)
  ·exact fin _ h hv
 | .bptr i c,y,v,h,hv=>by
  cases y<;>simp only[Ql] at h<;>try exact h.elim
  split at h
  ·rename_i hc
   simp only[Bool.and_eq_true,NU] at hc
   obtain⟨⟨rfl,h2⟩,rfl⟩:=hc
   cases hv;exact VRel.bptr (ι:=λi=>ι (ρ i)) (hp _ h2)
  ·exact h.elim
 | .rptr i k e c,y,v,h,hv=>by
  cases y<;>simp only[Ql] at h<;>try exact h.elim
  split at h
  ·rename_i hc
   simp only[Bool.and_eq_true,NU] at hc
   obtain⟨⟨⟨rfl,h2⟩,rfl⟩,rfl⟩:=hc
   have h:e=_:=h
   subst h
   cases hv;exact VRel.rptr (ι:=λi=>ι (ρ i)) (hp _ h2)
  ·exact h.elim
 | .own i k e n,y,v,h,hv=>by
  cases y<;>simp only[Ql] at h<;>try exact h.elim
  split at h
  ·rename_i hc
   simp only[Bool.and_eq_true,NU] at hc
   obtain⟨⟨rfl,h2⟩,rfl⟩:=hc
   obtain⟨h3,h4⟩:=KF.1 h
   have h4:n=_:=h4
   subst h3;subst h4
   cases hv with
   |own _ h3 h4=>exact VRel.own (ι:=λi=>ι (ρ i)) (hp _ h2) h3 h4
  ·exact h.elim
 | .fn f a b,y,v,h,hv=>by
  cases y<;>simp only[Ql] at h<;>try exact h.elim
  obtain⟨h1,h2⟩:=IE h
  obtain⟨h2,h3⟩:=IE h2
  have h1:=BBV h1
  subst h1
  cases hv with
  |fn h4 h5 h6 h7=>
   exact .fn (by rw[h4,WO h2]) (by rw[h5,WO h3])
    (λj x z hx hz=>by
     obtain⟨y,hy,hs⟩:=Bd h2 hx
     exact Bu hF hp a j x y z hx hs (h6 j y z hy hz))
    λj x z hx hz=>by
     obtain⟨y,hy,hs⟩:=Bd h3 hx
     exact Bu hF hp b j x y z hx hs (h7 j y z hy hz)
 | .mref i,y,v,h,hv=>by
  cases y<;>simp only[Ql] at h<;>try exact h.elim
  split at h
  ·rename_i hc
   simp only[Bool.and_eq_true,NU] at hc
   obtain⟨rfl,h2⟩:=hc
   cases hv;exact VRel.mref (ι:=λi=>ι (ρ i)) (hp _ h2)
  ·exact h.elim
 | .opt g a,y,v,h,hv=>by
  cases y<;>simp only[Ql] at h<;>try exact h.elim
  obtain⟨h1,h2⟩:=IE h
  have h1:g=_:=h1
  subst h1
  cases hv with
  |opt h3 h4=>exact .opt (λhg=>Wh hF hp a _ v h2 (h3 hg)) h4
theorem Bu{F:wY}(hF:vY B B' ι F){ρ:Nat->Nat}{p:Nat->Bool}{D':Nat->Prop}(hp:∀i,p i=true->D' i):∀(l:List AVal) (j:Nat) (x y:AVal) (v:Value),l[j]?=some x->HN (Ql F ρ p x y)->VRel B ι D y v->VRel B' (λi=>ι (ρ i)) D' x v
 |[],j,x,y,v,hx,_,_=>by simp at hx
 |a :: l,0,x,y,v,hx,h,hv=>by simp at hx;subst hx;exact Wh hF hp a y v h hv
 |a :: l,j+1,x,y,v,hx,h,hv=>Bu hF hp l j x y v (by simpa using hx) h hv
end
def Rh(F:wY)(ρ:Nat->Nat)(p:Nat->Bool):AObj->AObj->Option (List Prop)
 | .row k n g,.row k' n' g'=>if Nat.beq k k' then some [n=n',∀i,i<n->HN (Kj (g i) (g' i))] else none
 | .box es,.box es'=>RZ F ρ p es es'
 | .imap q z h g s none,.imap q' z' h' g' s' none=>if q=q' then some [z=z',∀n,h n=h' n,∀n,s n=s' n,∀n,HN (Kj (g n) (g' n))] else none
 | .kmap q z h g,.kmap q' z' h' g'=>if q=q' then some [z=z',∀n,h n=h' n,∀n,HN (Kj (g n) (g' n))] else none
 | .abox es m g,.abox es' m' g'=>if Nat.beq m m' then lT (RZ F ρ p es es') (some [∀i,i<m->g i=g' i]) else none
 | .nbox ds m z g,.nbox ds' m' z' g'=>if Nat.beq m m' then lT (A9 ds ds') (some [z=z',∀i,ds.length<=i->i<ds.length+m->g i=g' i]) else none
 | .miter m a b c none,.miter m' a' b' c' _=>if p m&&Nat.beq (ρ m) m' then some [∀n,a n=a' n,∀n,b n=b' n,∀n,c n=c' n] else none
 |_,_=>none
theorem gM{F:wY}(hF:vY B B' ι F){ρ:Nat->Nat}{p:Nat->Bool}{D':Nat->Prop}(hp:∀i,p i=true->D' i){q:Nat}{a b:AObj}{x:Option Obj}(h:HN (Rh F ρ p a b))(hb:ORel B ι D q b x):ORel B' (λi=>ι (ρ i)) D' q a x:=by
 cases a with
 |row k n g=>
  cases b<;>simp only[Rh] at h<;>try exact h.elim
  split at h
  ·rename_i hc
   obtain⟨h1,h2⟩:=KF.1 h
   have hs:zY ρ p (.row k n g) (.row _ _ _):=⟨Nat.eq_of_beq_eq_true hc,h1,λi hi=>JK _ _ (h2 i hi)⟩
   exact (Tg hp hs hb).mono hF.1 λi hi=>⟨hi,rfl⟩
  ·exact h.elim
 |box es=>
  cases b<;>simp only[Rh] at h<;>try exact h.elim
  cases hb with
  |box hsz hr=>
   exact .box (by rw[hsz,WO h]) λj x z hx hz=>by
    obtain⟨y,hy,hs⟩:=Bd h hx
    exact Bu hF hp es j x y z hx hs (hr j y z hy hz)
 |imap q z hs g st pend=>
  cases pend with
  |some x=>cases b<;>simp only[Rh] at h<;>exact h.elim
  |none=>
  cases b<;>try (simp only[Rh] at h;exact h.elim)
  rename_i q' z' hs' g' st' pend'
  cases pend' with
  |some x=>simp only[Rh] at h;exact h.elim
  |none=>
  simp only[Rh] at h
  split at h
  ·rename_i hc
   obtain⟨h1,h3⟩:=KF.1 h
   obtain⟨h3,h4⟩:=KF.1 h3
   obtain⟨h4,h5⟩:=KF.1 h4
   have hs:zY ρ p (.imap q z hs g st none) (.imap _ _ _ _ _ _):=⟨hc,h1,rfl,h3,h4,λn=>JK _ _ (h5 n)⟩
   exact (Tg hp hs hb).mono hF.1 λi hi=>⟨hi,rfl⟩
  ·exact h.elim
 |kmap q z hs g=>
  cases b<;>simp only[Rh] at h<;>try exact h.elim
  split at h
  ·rename_i hc
   obtain⟨h1,h3⟩:=KF.1 h
   obtain⟨h3,h5⟩:=KF.1 h3
   have hs:zY ρ p (.kmap q z hs g) (.kmap _ _ _ _):=⟨hc,h1,h3,λn=>JK _ _ (h5 n)⟩
   exact (Tg hp hs hb).mono hF.1 λi hi=>⟨hi,rfl⟩
  ·exact h.elim
 |abox es m g=>
  cases b<;>simp only[Rh] at h<;>try exact h.elim
  split at h
  ·rename_i hc
   obtain rfl:=Nat.eq_of_beq_eq_true hc
   obtain⟨h,hg⟩:=IE h
   cases hb with
   |abox hsz hr hb=>
    exact .abox (by rw[hsz,WO h]) (λj x z hx hz=>by
     obtain⟨y,hy,hs⟩:=Bd h hx
     exact Bu hF hp es j x y z hx hs (hr j y z hy hz)) λj hj=>by rw[WO h,show g j=_ from hg j hj];exact hb j hj
  ·exact h.elim
 |nbox ds m z g=>
  cases b<;>simp only[Rh] at h<;>try exact h.elim
  split at h
  ·rename_i hc
   obtain⟨h,hg⟩:=IE h
   obtain⟨h1,h2⟩:=KF.1 hg
   have hs:zY ρ p (.nbox ds m z g) (.nbox _ _ _ _):=⟨gR _ _ h,Nat.eq_of_beq_eq_true hc,h1,h2⟩
   exact (Tg hp hs hb).mono hF.1 λi hi=>⟨hi,rfl⟩
  ·exact h.elim
 |miter m a1 b1 c1 d1=>
  cases d1 with
  |some x=>cases b<;>simp only[Rh] at h<;>exact h.elim
  |none=>
  cases b<;>simp only[Rh] at h<;>try exact h.elim
  split at h
  ·rename_i hc
   simp only[Bool.and_eq_true] at hc
   obtain⟨h1,h3⟩:=KF.1 h
   obtain⟨h3,h4⟩:=KF.1 h3
   rename_i m' a' b' c' d' _
   have hs:zY ρ p (.miter m a1 b1 c1 none) (.miter m' a' b' c' d'):=⟨hc.1,Nat.eq_of_beq_eq_true hc.2,h1,h3,h4,.inl rfl⟩
   exact (Tg hp hs hb).mono hF.1 λi hi=>⟨hi,rfl⟩
  ·exact h.elim
def HM(H:Heap):List Nat->Heap
 |[]=>H
 |id :: r=>match H id with
  | .live (.row _ _ _)=>HM (GN H id .dead) r
  |_=>HM H r
def TB(H:Heap)(ids:List Nat):wY:=λid=>if ids.contains id then match H id with
  | .live (.row k m get)=>some (k,m,get)
  |_=>none
 else none
theorem ZY:∀(ids:List Nat) {B:Kb} {H:Heap},HRel B ι H w->∃B',Moved B ι H w B' ι (HM H ids) w/\vY B B' ι (TB H ids)
 |[],B,H,h=>⟨B,Moved.refl h,λ_ _ h=>h,λid k m get hf=>by simp[TB] at hf⟩
 |id :: r,B,H,h=>by
  simp only[HM]
  split
  ·rename_i k m get hid
   obtain⟨c,e,h1,h2,h3,h4,h5,h6⟩:=Moved.freeze h hid
   obtain⟨B',h7,h8⟩:=ZY r h2.heap
   refine⟨B',h2.trans h7,λb c hb=>h8.1 b c (h2.bm b c hb),λid' k' m' get' hf=>?_⟩
   by_cases he:id'=id
   ·subst he
    simp only[TB,List.contains_cons,beq_self_eq_true,Bool.true_or,if_true,hid,Option.some.injEq,Prod.mk.injEq] at hf
    obtain⟨rfl,rfl,rfl⟩:=hf
    exact⟨c,h8.1 _ _ (by simp),h3,h4,h5,λi j x y hi hx hy=>(h6 i j x y hi hx hy).mono λb c hb=>h8.1 b c (h2.bm b c hb)⟩
   ·refine h8.2 id' k' m' get' ?_
    have e1:(id'==id)=false:=by simpa using he
    simp only[TB,List.contains_cons,e1,Bool.false_or] at hf
    simp only[TB,KH _ _ he]
    exact hf
  ·rename_i hn
   obtain⟨B',h7,h8⟩:=ZY r h
   refine⟨B',h7,h8.1,λid' k' m' get' hf=>?_⟩
   by_cases he:id'=id
   ·subst he
    simp only[TB,List.contains_cons,beq_self_eq_true,Bool.true_or,if_true] at hf
    first | cases hf | (split at hf;(rename_i hq;exact (hn _ _ _ hq).elim);cases hf)
   ·refine h8.2 id' k' m' get' ?_
    have e1:(id'==id)=false:=by simpa using he
    simp only[TB,List.contains_cons,e1,Bool.false_or] at hf
    exact hf
theorem Vh:∀(ids:List Nat) {H:Heap} {i:Nat} {o:AObj},HM H ids i=.live o->H i=.live o
 |[],_,_,_,h=>h
 |id :: r,H,i,o,h=>by
  have key:∀H',(H'=H∨H'=GN H id .dead)->HM H' r i=.live o->H i=.live o:=λH' hH h=>by
   have:=Vh r h
   rcases hH with rfl | rfl
   ·exact this
   ·by_cases he:i=id
    ·subst he;rw[KN] at this;cases this
    ·rwa [KH _ _ he] at this
  simp only[HM] at h
  cases hq:H id with
  |live o'=>cases o' with
   |row=>simp only[hq] at h;exact key _ (.inr rfl) h
   |_=>simp only[hq] at h;exact key _ (.inl rfl) h
  |_=>simp only[hq] at h;exact key _ (.inl rfl) h
def AAX(F:wY)(ρ:Nat->Nat)(p:Nat->Bool):HCell->HCell->Option (List Prop)
 | .live o,.live o'=>Rh F ρ p o o'
 | .dead,.live _=>some []
 | .dead,.dead=>some []
 |_,_=>none
def BEN(F:wY)(ρ:Nat->Nat)(p:Nat->Bool)(sl:Nat->AVal):List (Nat×AVal)->Option (List Prop)
 |[]=>some []
 |(t,v) :: r=>lT (Ql F ρ p v (sl t)) (BEN F ρ p sl r)
def BQJ(F:wY)(ρ:Nat->Nat)(p:Nat->Bool)(H:Heap):List (Nat×HCell)->Option (List Prop)
 |[]=>some []
 |(i,c) :: r=>lT (AAX F ρ p c (H (ρ i))) (BQJ F ρ p H r)
theorem AEQ{F:wY}{ρ:Nat->Nat}{p:Nat->Bool}{sl:Nat->AVal}:∀{l:List (Nat×AVal)},HN (BEN F ρ p sl l)->∀t,HN (Ql F ρ p (NY l t) (sl t))
 |[],_,t=>by simp only[NY,Ql];trivial
 |(j,v) :: r,h,t=>by
  obtain⟨h1,h2⟩:=IE h
  simp only[NY]
  split
  ·rename_i e;subst e;exact h1
  ·exact AEQ h2 t
theorem V0{F:wY}{ρ:Nat->Nat}{p:Nat->Bool}{H:Heap}:∀{l:List (Nat×HCell)},HN (BQJ F ρ p H l)->∀{i:Nat} {c:HCell},(i,c)∈l->HN (AAX F ρ p c (H (ρ i)))
 |[],_,i,c,h=>by cases h
 |(j,d) :: r,h,i,c,hm=>by
  obtain⟨h1,h2⟩:=IE h
  rcases List.mem_cons.1 hm with hm | hm
  ·cases hm;exact h1
  ·exact V0 h2 hm
def Oz(E:List Nat)(fz:List Nat)(l:List (Nat×Nat))(s:ST)(σ:AState):Option (List Prop):=
 if (nodup (s.H.map λx=>PN l x.1)&&E.all λi=>Nat.beq (PN l i) i&&(Hp s.H i).isSome) then
  lT (BEN (TB σ.H fz) (PN l) (λi=>(Hp s.H i).isSome) σ.sl s.sl) (BQJ (TB σ.H fz) (PN l) (λi=>(Hp s.H i).isSome) (HM σ.H fz) s.H)
 else none
theorem Moved.subF{B0:Kb}{ι0:Nat->Pl}{H0:Heap}{w0:World}{E fz:List Nat}{l:List (Nat×Nat)}{s:ST}{sl:Nat->AVal}(hE:∀i,H0.dom i->i∈E)(h:HN (Oz E fz l s ⟨sl,H⟩))(hm0:Moved B0 ι0 H0 w0 B ι H w) :
  ∃B',Moved B0 ι0 H0 w0 B' (λi=>ι (PN l i)) (mI s.H) w/\(∀t v,VRel B ι H.dom (sl t) v->VRel B' (λi=>ι (PN l i)) (mI s.H).dom (NY s.sl t) v)/\(∀i o,mI s.H i=.live o->∃o',H (PN l i)=.live o') /\
   (∀b c,B b=some c->B' b=some c)/\∀i∈E,(mI s.H).dom i/\PN l i=i:=by
 unfold Oz at h
 split at h
 case isFalse=>exact h.elim
 rename_i h3
 obtain⟨h1,h2⟩:=IE h
 simp only[Bool.and_eq_true,List.all_eq_true,NU] at h3
 obtain⟨h3,h4⟩:=h3
 have hnd:=Ah h3
 obtain⟨B',hk,hF⟩:=ZY fz hm0.heap
 have hm:=hm0.trans hk
 have hdom:∀i,(λi=>(Hp s.H i).isSome) i=true->(mI s.H).dom i:=λi hi=>by
  obtain⟨d,hd⟩:=Option.isSome_iff_exists.1 hi
  have:=V0 h2 (Cx hd)
  unfold Heap.dom
  show (Hp s.H i).getD .none≠.none
  rw[hd]
  intro he
  simp at he;subst he
  simp only[AAX] at this;exact this
 have live:∀i o,mI s.H i=.live o->(i,.live o)∈s.H/\∃o',HM H fz (PN l i)=.live o'/\HN (Rh (TB H fz) (PN l) (λi=>(Hp s.H i).isSome) o o'):=λi o hi=>by
  have hg:Hp s.H i=some (.live o):=by
   have:(Hp s.H i).getD .none=.live o:=hi
   cases hq:Hp s.H i with
   |none=>rw[hq] at this;cases this
   |some d=>rw[hq] at this;simpa using this
  have hm:=Cx hg
  have:=V0 h2 hm
  refine⟨hm,?_⟩
  cases hq:HM H fz (PN l i) with
  |live o'=>rw[hq] at this;exact⟨o',rfl,this⟩
  |none=>rw[hq] at this;simp only[AAX] at this;exact this.elim
  |dead=>rw[hq] at this;simp only[AAX] at this;exact this.elim
 refine⟨B',?_,λt v hv=>Wh hF hdom _ _ _ (AEQ h1 t) hv,λi o hi=>by obtain⟨_,o',ho,_⟩:=live i o hi;exact⟨o',Vh fz ho⟩,hF.1,λi hi=>⟨hdom i (h4 i hi).2,(h4 i hi).1⟩⟩
 refine⟨hm.bm,hm.bn,λi hi=>?_,⟨λi o hi=>?_,λi j o o' hi hj hij=>?_,λi o hi=>?_,hm.heap.imm⟩,λi o hi=>?_,hm.frame,hm.size,hm.calm⟩
 ·obtain⟨h5,h6⟩:=h4 i (hE i hi)
  exact⟨hdom i h6,by show ι (PN l i)=_;rw[h5];exact (hm.im i hi).2⟩
 ·obtain⟨_,o',ho,hs⟩:=live i o hi
  exact gM hF hdom hs (hm0.heap.obj _ _ (Vh fz ho))
 ·obtain⟨m1,o1,ho1,_⟩:=live i o hi
  obtain⟨m2,o2,ho2,_⟩:=live j o' hj
  exact (C3 hnd m1 m2 (hm.heap.inj _ _ _ _ ho1 ho2 hij)).1
 ·obtain⟨_,o',ho,_⟩:=live i o hi
  exact hm.heap.sep _ _ ho
 ·obtain⟨_,o',ho,_⟩:=live i o hi
  exact hm.own _ _ ho
theorem Rel.subF{c:Ctx}{E fz:List Nat}{l:List (Nat×Nat)}{s:ST}{σ:AState}{a:Act}(hE:∀i,c.H0.dom i->i∈E)(h:HN (Oz E fz l s σ))(hR:Rel c B ι σ a w):∃B',Rel c B' (λi=>ι (PN l i)) s.st a w:=by
 obtain⟨B',h1,h2,h3,_⟩:=Moved.subF hE h hR.mv
 obtain⟨Ds,d1,d0,d2,d3⟩:=hR.defers
 refine⟨B',λt=>h2 t _ (hR.slots t),hR.size,⟨Ds,d1,d0,d2,λD hD=>⟨(d3 D hD).1,(d3 D hD).2.here,λi o hi=>?_⟩⟩,h1⟩
 obtain⟨o',ho⟩:=h3 i o hi
 exact (d3 D hD).2.sep _ _ ho
theorem CodeE.subF{c:Ctx}{E fz:List Nat}{l:List (Nat×Nat)}{s:ST}{σ:AState}{code:Code}{Q:Exit->AState->Prop}(hE:∀i,c.H0.dom i->i∈E)(hs:HN (Oz E fz l s σ))(h:CodeE P c code Q s.st):CodeE P c code Q σ:=
 λ_ _ a w hR=>let ⟨B',hR'⟩:=Rel.subF hE hs hR;h B' _ a w hR'
def dE:List Prop->Prop->Prop
 |[],K=>K
 |l,K=>CR l/\K
theorem LJ{l:List Prop}{K:Prop}(h:dE l K):CR l/\K:=by
 cases l with
 |nil=>exact⟨trivial,h⟩
 |cons=>exact h
def BJO:Option (List Prop)->Prop->Prop
 |some l,K=>dE l K
 |none,_=>False
theorem zX{l:Option (List Prop)}{K:Prop}(h:BJO l K):HN l/\K:=by
 cases l with
 |none=>exact h.elim
 |some l=>exact LJ h
end Go.Sym
