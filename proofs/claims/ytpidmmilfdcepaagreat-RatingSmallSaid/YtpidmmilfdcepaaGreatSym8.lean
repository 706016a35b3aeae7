/- When a state tells less than another: a list of conditions on scalars. -/
import Derived.Test.YtpidmmilfdcepaaGreatSym7
set_option linter.unusedVariables false
set_option linter.unusedSimpArgs false
namespace Go.Sym
variable {P : Program} {B B' : Fi} {ι ι' : Nat -> Pl} {H H' : Heap} {D : Nat -> Prop} {w w' : World}
theorem IM{a b:Nat}:(Nat.beq a b=true)=(a=b):=propext ⟨Nat.eq_of_beq_eq_true,λh=>by subst h;exact Nat.beq_refl a⟩
def FO:Option (List Prop)->Prop
 |some l=>DJ l
 |none=>False
def nG:Option (List Prop)->Option (List Prop)->Option (List Prop)
 |some l,some m=>some (l ++ m)
 |_,_=>none
def CDJ:Value->Value->Option (List Prop)
 | .int k a,.int k' b=>if k=k' then some [a=b] else none
 | .bool a,.bool b=>some [a=b]
 | .string a,.string b=>some [a=b]
 |x,y=>some [x=y]
theorem GU{a b:Option (List Prop)}(h:FO (nG a b)):FO a/\FO b:=by
 cases a with
 |none=>exact h.elim
 |some l=>cases b with
  |none=>exact h.elim
  |some m=>exact BS h
theorem BVS(x:Value):vEq x x:=by
 unfold vEq;split<;>simp_all
theorem BJC{x y:Value}(h:FO (CDJ x y)):vEq x y:=by
 unfold CDJ at h
 split at h
 ·split at h
  ·rename_i hk;exact⟨hk,h⟩
  ·exact h.elim
 ·exact h
 ·exact h
 ·have h:x=y:=h
  subst h
  exact BVS x
mutual
def Lj:DVal->DVal->Option (List Prop)
 | .v x,.v y=>CDJ x y
 | .agg xs,.agg ys=>AFB xs ys
 | .tup xs,.tup ys=>AFB xs ys
 | .list k n g e,.list k' n' g' e'=>if Nat.beq k k'&&(!e||e') then some [n=n',∀i,i<n->FO (Lj (g i) (g' i))] else if (Nat.beq k' 0||Nat.beq k 0)&&(!e||e') then some [n=n',n=0] else none
 | .arr k n g,.arr k' n' g'=>if Nat.beq k k' then some [n=n',∀i,i<n->FO (Lj (g i) (g' i))] else none
 | .eref x c,.eref y d=>if Nat.beq c d then Lj x y else none
 | .iface t x,.iface u y=>if Nat.beq t u then Lj x y else none
 | .anyB,.anyB=>some []
 |_,_=>none
def AFB:List DVal->List DVal->Option (List Prop)
 |[],[]=>some []
 |x :: xs,y :: ys=>nG (Lj x y) (AFB xs ys)
 |_,_=>none
end
mutual
theorem IH:∀(x y:DVal),FO (Lj x y)->HP x y
 | .v x,y,h=>by cases y<;>simp only[Lj] at h<;>first | exact (by simp only[HP];exact BJC h) | exact h.elim
 | .agg xs,y,h=>by cases y<;>simp only[Lj] at h<;>first | exact (by simp only[HP];exact xZ _ _ h) | exact h.elim
 | .tup xs,y,h=>by cases y<;>simp only[Lj] at h<;>first | exact (by simp only[HP];exact xZ _ _ h) | exact h.elim
 | .list k n g e,y,h=>by
  cases y<;>simp only[Lj] at h<;>try exact h.elim
  split at h
  ·rename_i hc
   simp only[Bool.and_eq_true,IM,Bool.or_eq_true,Bool.not_eq_true'] at hc
   obtain⟨h1,h2⟩:=LI.1 h
   simp only[HP]
   refine⟨.inl hc.1,h1,λhe=>?_,λi hi=>IH _ _ (h2 i hi)⟩
   rcases hc.2 with h | h
   ·rw[he] at h;cases h
   ·exact h
  ·split at h
   ·rename_i hc
    simp only[Bool.and_eq_true,IM,Bool.or_eq_true,Bool.not_eq_true'] at hc
    obtain⟨h1,h2⟩:=LI.1 h
    have h2:n=0:=h2
    simp only[HP]
    refine⟨.inr h2,h1,λhe=>?_,λi hi=>by omega⟩
    rcases hc.2 with h | h
    ·rw[he] at h;cases h
    ·exact h
   ·exact h.elim
 | .arr k n g,y,h=>by
  cases y<;>simp only[Lj] at h<;>try exact h.elim
  split at h
  ·rename_i hc
   obtain⟨h1,h2⟩:=LI.1 h
   simp only[HP]
   exact⟨Nat.eq_of_beq_eq_true hc,h1,λi hi=>IH _ _ (h2 i hi)⟩
  ·exact h.elim
 | .anyB,y,h=>by
  cases y<;>simp only[Lj] at h<;>try exact h.elim
  simp only[HP]
 | .iface x c,y,h=>by
  cases y<;>simp only[Lj] at h<;>try exact h.elim
  split at h
  ·rename_i hc
   simp only[HP]
   exact⟨Nat.eq_of_beq_eq_true hc,IH _ _ h⟩
  ·exact h.elim
 | .eref x c,y,h=>by
  cases y<;>simp only[Lj] at h<;>try exact h.elim
  split at h
  ·rename_i hc
   simp only[HP]
   exact⟨Nat.eq_of_beq_eq_true hc,IH _ _ h⟩
  ·exact h.elim
theorem xZ:∀(x y:List DVal),FO (AFB x y)->Hw x y
 |[],y,h=>by cases y<;>simp only[AFB] at h<;>first | trivial | exact h.elim
 |x :: xs,y,h=>by
  cases y<;>simp only[AFB] at h
  ·exact h.elim
  ·obtain⟨h1,h2⟩:=GU h
   simp only[Hw]
   exact⟨IH _ _ h1,xZ _ _ h2⟩
end
abbrev C2:=Nat->Option (Nat×Nat×(Nat->DVal))
structure FrzRow(B':Fi)(ι:Nat->Pl)(id k m:Nat)(get:Nat->DVal)(c:Array Value):Prop where
 at':B' (ι id).b=some c
 len:m<=(ι id).cap
 size:(ι id).cap*k<=c.size
 ok:∀i,i<m->EOk k (get i)
 rel:∀(i j:Nat) (x:DVal) (y:Value),i<m->(get i).cells1[j]?=some x->c[i*k+j]?=some y->DRel B' x y
def zP(B B':Fi)(ι:Nat->Pl)(F:C2):Prop:=
 (∀b c,B b=some c->B' b=some c)/\∀id k m get,F id=some (k,m,get)->∃c,FrzRow B' ι id k m get c
mutual
def Nk(F:C2):DVal->AVal->Option (List Prop)
 |x,.d y=>Lj x y
 | .list k n g e,.own id k' i n'=>match F id with
  |some (k2,m,get)=>if Nat.beq k k'&&Nat.beq k k2&&!e then some [n=n',i+n'<=m,∀j,j<n->FO (Lj (g j) (get (i+j)))] else none
  |none=>none
 | .agg xs,.agg ys=>Fb F xs ys
 | .tup xs,.tup ys=>Fb F xs ys
 |_,_=>none
def Fb(F:C2):List DVal->List AVal->Option (List Prop)
 |[],[]=>some []
 |x :: xs,y :: ys=>nG (Nk F x y) (Fb F xs ys)
 |_,_=>none
end
theorem vT{F:C2}:∀{xs:List DVal} {ys:List AVal},FO (Fb F xs ys)->xs.length=ys.length
 |[],[],_=>rfl
 |x :: xs,y :: ys,h=>by simp only[Fb] at h;simp[vT (GU h).2]
 |[],_ :: _,h=>by simp only[Fb] at h;exact h.elim
 |_ :: _,[],h=>by simp only[Fb] at h;exact h.elim
theorem vC{F:C2}:∀{xs:List DVal} {ys:List AVal},FO (Fb F xs ys)->∀{j:Nat} {x:DVal},xs[j]?=some x->∃y,ys[j]?=some y/\FO (Nk F x y)
 |[],[],_,j,x,hx=>by simp at hx
 |a :: xs,b :: ys,h,0,x,hx=>by simp only[Fb] at h;simp at hx;subst hx;exact⟨b,rfl,(GU h).1⟩
 |a :: xs,b :: ys,h,j+1,x,hx=>by
  simp only[Fb] at h
  obtain⟨y,hy,hs⟩:=vC (GU h).2 (j:=j) (by simpa using hx)
  exact⟨y,by simpa using hy,hs⟩
 |[],_ :: _,h,_,_,_=>by simp only[Fb] at h;exact h.elim
 |_ :: _,[],h,_,_,_=>by simp only[Fb] at h;exact h.elim
theorem AOJ{F:C2}(hF:zP B B' ι F){k n:Nat}{g:Nat->DVal}{id i n' m:Nat}{get:Nat->DVal}{v:Value}(hf:F id=some (k,m,get))(hn:n=n')(hm:i+n'<=m)(hg:∀j,j<n->HP (g j) (get (i+j)))(hv:VRel B ι D (.own id k i n') v):DRel B' (.list k n g false) v:=by
 obtain⟨c,hc⟩:=hF.2 id k m get hf
 subst hn
 cases hv with
 |own hD hcap hq=>
  rcases Nat.eq_zero_or_pos n with rfl | hp
  ·exact .nil (λh=>by cases h) (.inr (by simp))
  ·have hsz:∀j,j<n->(i+j+1)*k<=c.size:=λj hj=>by
    have h1:(i+j+1)*k<=(ι id).cap*k:=Nat.mul_le_mul_right k (by have:=hc.len;omega)
    have:=hc.size
    omega
   refine .list hp hc.at' hcap (λh=>by cases h) (λj hj=>AAE (hg j hj) (hc.ok _ (by omega))) ?_ λj l x y hj hx hy=>?_
   ·have h1:(i+n)*k<=(ι id).cap*k:=Nat.mul_le_mul_right k (by have:=hc.len;omega)
    have h2:(i+n)*k=i*k+n*k:=Nat.add_mul i n k
    have:=hc.size
    omega
   ·have e1:(i+j)*k=i*k+j*k:=Nat.add_mul i j k
    have e2:(i+j+1)*k=(i+j)*k+k:=Nat.succ_mul _ k
    refine (ACY (o:=(i+j)*k) (hg j hj) (hc.ok _ (by omega)) (by have:=hsz j hj;omega) (λl x y hx hy=>hc.rel (i+j) l x y (by omega) hx hy) (λv hv=>FX _ _ v (hg j hj) hv) l x y hx (by rw[e1];exact hy))
mutual
theorem ABQ{F:C2}(hF:zP B B' ι F):∀(x:DVal) (y:AVal) (v:Value),FO (Nk F x y)->VRel B ι D y v->DRel B' x v
 | .v x,y,v,h,hv=>by
  cases y<;>simp only[Nk] at h<;>try exact h.elim
  exact (FX _ _ v (IH _ _ h) hv.d_inv).mono hF.1
 | .anyB,y,v,h,hv=>by
  cases y<;>simp only[Nk] at h<;>try exact h.elim
  exact (FX _ _ v (IH _ _ h) hv.d_inv).mono hF.1
 | .iface x c,y,v,h,hv=>by
  cases y<;>simp only[Nk] at h<;>try exact h.elim
  exact (FX _ _ v (IH _ _ h) hv.d_inv).mono hF.1
 | .eref x c,y,v,h,hv=>by
  cases y<;>simp only[Nk] at h<;>try exact h.elim
  exact (FX _ _ v (IH _ _ h) hv.d_inv).mono hF.1
 | .arr k n g,y,v,h,hv=>by
  cases y<;>simp only[Nk] at h<;>try exact h.elim
  exact (FX _ _ v (IH _ _ h) hv.d_inv).mono hF.1
 | .list k n g e,y,v,h,hv=>by
  cases y<;>simp only[Nk] at h<;>try exact h.elim
  ·exact (FX _ _ v (IH _ _ h) hv.d_inv).mono hF.1
  ·split at h
   ·rename_i k2 m get hf
    split at h
    ·rename_i hc
     simp only[Bool.and_eq_true,IM,Bool.not_eq_true'] at hc
     obtain⟨⟨rfl,rfl⟩,rfl⟩:=hc
     obtain⟨h1,h2⟩:=LI.1 h
     obtain⟨h2,h3⟩:=LI.1 h2
     exact AOJ hF hf h1 h2 (λj hj=>IH _ _ (h3 j hj)) hv
    ·exact h.elim
   ·exact h.elim
 | .agg xs,y,v,h,hv=>by
  cases y<;>simp only[Nk] at h<;>try exact h.elim
  ·exact (FX _ _ v (IH _ _ h) hv.d_inv).mono hF.1
  ·cases hv with
   |agg hl hr=>
    exact .agg (by rw[hl,vT h]) λj x z hx hz=>by
     obtain⟨y,hy,hs⟩:=vC h hx
     exact eO hF xs j x y z hx hs (hr j y z hy hz)
 | .tup xs,y,v,h,hv=>by
  cases y<;>simp only[Nk] at h<;>try exact h.elim
  ·exact (FX _ _ v (IH _ _ h) hv.d_inv).mono hF.1
  ·cases hv with
   |tup hl hr=>
    exact .tup (by rw[hl,vT h]) λj x z hx hz=>by
     obtain⟨y,hy,hs⟩:=vC h hx
     exact eO hF xs j x y z hx hs (hr j y z hy hz)
theorem eO{F:C2}(hF:zP B B' ι F):∀(l:List DVal) (j:Nat) (x:DVal) (y:AVal) (v:Value),l[j]?=some x->FO (Nk F x y)->VRel B ι D y v->DRel B' x v
 |[],j,x,y,v,hx,_,_=>by simp at hx
 |a :: l,0,x,y,v,hx,h,hv=>by simp at hx;subst hx;exact ABQ hF a y v h hv
 |a :: l,j+1,x,y,v,hx,h,hv=>eO hF l j x y v (by simpa using hx) h hv
end
def CFS:Fn->Fn->Option (List Prop)
 | .func a,.func b=>if Nat.beq a b then some [] else none
 |f,g=>some [f=g]
theorem BKK{f g:Fn}(h:FO (CFS f g)):f=g:=by
 unfold CFS at h
 split at h
 ·split at h
  ·rename_i hb;rw[Nat.eq_of_beq_eq_true hb]
  ·exact h.elim
 ·exact h
mutual
def Kd(F:C2)(ρ:Nat->Nat)(p:Nat->Bool):AVal->AVal->Option (List Prop)
 | .any,_=>some []
 | .d x,y=>Nk F x y
 | .agg xs,.agg ys=>PG F ρ p xs ys
 | .agg xs,.d (.agg ys)=>PG F ρ p xs (ys.map .d)
 | .tup xs,.tup ys=>PG F ρ p xs ys
 | .tup xs,.d (.tup ys)=>PG F ρ p xs (ys.map .d)
 | .bptr i c,.bptr j d=>if Nat.beq j (ρ i)&&p i&&Nat.beq c d then some [] else none
 | .rptr i k e c,.rptr j k' e' c'=>if Nat.beq j (ρ i)&&p i&&Nat.beq k k'&&Nat.beq c c' then some [e=e'] else none
 | .own i k e n,.own j k' e' n'=>if Nat.beq j (ρ i)&&p i&&Nat.beq k k' then some [e=e',n=n'] else none
 | .fn f a b,.fn g c d=>nG (CFS f g) (nG (PG F ρ p a c) (PG F ρ p b d))
 | .mref i,.mref j=>if Nat.beq j (ρ i)&&p i then some [] else none
 | .opt g a,.opt h b=>nG (some [g=h]) (Kd F ρ p a b)
 |_,_=>none
def PG(F:C2)(ρ:Nat->Nat)(p:Nat->Bool):List AVal->List AVal->Option (List Prop)
 |[],[]=>some []
 |x :: xs,y :: ys=>nG (Kd F ρ p x y) (PG F ρ p xs ys)
 |_,_=>none
end
theorem TK{F:C2}{ρ:Nat->Nat}{p:Nat->Bool}:∀{xs ys:List AVal},FO (PG F ρ p xs ys)->xs.length=ys.length
 |[],[],_=>rfl
 |x :: xs,y :: ys,h=>by simp only[PG] at h;simp[TK (GU h).2]
 |[],_ :: _,h=>by simp only[PG] at h;exact h.elim
 |_ :: _,[],h=>by simp only[PG] at h;exact h.elim
theorem WJ{F:C2}{ρ:Nat->Nat}{p:Nat->Bool}:∀{xs ys:List AVal},FO (PG F ρ p xs ys)->∀{j:Nat} {x:AVal},xs[j]?=some x->∃y,ys[j]?=some y/\FO (Kd F ρ p x y)
 |[],[],_,j,x,hx=>by simp at hx
 |a :: xs,b :: ys,h,0,x,hx=>by simp only[PG] at h;simp at hx;subst hx;exact⟨b,rfl,(GU h).1⟩
 |a :: xs,b :: ys,h,j+1,x,hx=>by
  simp only[PG] at h
  obtain⟨y,hy,hs⟩:=WJ (GU h).2 (j:=j) (by simpa using hx)
  exact⟨y,by simpa using hy,hs⟩
 |[],_ :: _,h,_,_,_=>by simp only[PG] at h;exact h.elim
 |_ :: _,[],h,_,_,_=>by simp only[PG] at h;exact h.elim
theorem CLU{ys:List DVal}{v:Value}(h:DRel B (.agg ys) v):VRel B ι D (.agg (ys.map .d)) v:=by
 cases h with
 |agg hl hr=>
  refine .agg (by simp[hl]) λj x z hx hz=>?_
  rw[List.getElem?_map] at hx
  obtain⟨x',h1,rfl⟩:=Option.map_eq_some_iff.1 hx
  exact .d (hr j x' z h1 hz)
theorem CHT{ys:List DVal}{v:Value}(h:DRel B (.tup ys) v):VRel B ι D (.tup (ys.map .d)) v:=by
 cases h with
 |tup hl hr=>
  refine .tup (by simp[hl]) λj x z hx hz=>?_
  rw[List.getElem?_map] at hx
  obtain⟨x',h1,rfl⟩:=Option.map_eq_some_iff.1 hx
  exact .d (hr j x' z h1 hz)
mutual
theorem Px{F:C2}(hF:zP B B' ι F){ρ:Nat->Nat}{p:Nat->Bool}{D':Nat->Prop}(hp:∀i,p i=true->D' i):∀(x y:AVal) (v:Value),FO (Kd F ρ p x y)->VRel B ι D y v->VRel B' (λi=>ι (ρ i)) D' x v
 | .any,_,_,_,_=>.any
 | .d x,y,v,h,hv=>.d (ABQ hF x y v (by simpa only[Kd] using h) hv)
 | .agg xs,y,v,h,hv=>by
  have fin:∀ys:List AVal,FO (PG F ρ p xs ys)->VRel B ι D (.agg ys) v->VRel B' (λi=>ι (ρ i)) D' (.agg xs) v:=λys h hv=>by
   cases hv with
   |agg hl hr=>
    exact .agg (by rw[hl,TK h]) λj x z hx hz=>by
     obtain⟨y,hy,hs⟩:=WJ h hx
     exact WW hF hp xs j x y z hx hs (hr j y z hy hz)
  cases y<;>(try simp only[Kd] at h)<;>try exact h.elim
  ·rename_i x
   cases x<;>(try simp only[Kd] at h)<;>try exact h.elim
   exact fin _ h (CLU hv.d_inv)
  ·exact fin _ h hv
 | .tup xs,y,v,h,hv=>by
  have fin:∀ys:List AVal,FO (PG F ρ p xs ys)->VRel B ι D (.tup ys) v->VRel B' (λi=>ι (ρ i)) D' (.tup xs) v:=λys h hv=>by
   cases hv with
   |tup hl hr=>
    exact .tup (by rw[hl,TK h]) λj x z hx hz=>by
     obtain⟨y,hy,hs⟩:=WJ h hx
     exact WW hF hp xs j x y z hx hs (hr j y z hy hz)
  cases y<;>(try simp only[Kd] at h)<;>try exact h.elim
  ·rename_i x
   cases x<;>(try simp only[Kd] at h)<;>try exact h.elim
   exact fin _ h (CHT hv.d_inv)
  ·exact fin _ h hv
 | .bptr i c,y,v,h,hv=>by
  cases y<;>simp only[Kd] at h<;>try exact h.elim
  split at h
  ·rename_i hc
   simp only[Bool.and_eq_true,IM] at hc
   obtain⟨⟨rfl,h2⟩,rfl⟩:=hc
   cases hv;exact VRel.bptr (ι:=λi=>ι (ρ i)) (hp _ h2)
  ·exact h.elim
 | .rptr i k e c,y,v,h,hv=>by
  cases y<;>simp only[Kd] at h<;>try exact h.elim
  split at h
  ·rename_i hc
   simp only[Bool.and_eq_true,IM] at hc
   obtain⟨⟨⟨rfl,h2⟩,rfl⟩,rfl⟩:=hc
   have h:e=_:=h
   subst h
   cases hv;exact VRel.rptr (ι:=λi=>ι (ρ i)) (hp _ h2)
  ·exact h.elim
 | .own i k e n,y,v,h,hv=>by
  cases y<;>simp only[Kd] at h<;>try exact h.elim
  split at h
  ·rename_i hc
   simp only[Bool.and_eq_true,IM] at hc
   obtain⟨⟨rfl,h2⟩,rfl⟩:=hc
   obtain⟨h3,h4⟩:=LI.1 h
   have h4:n=_:=h4
   subst h3;subst h4
   cases hv with
   |own _ h3 h4=>exact VRel.own (ι:=λi=>ι (ρ i)) (hp _ h2) h3 h4
  ·exact h.elim
 | .fn f a b,y,v,h,hv=>by
  cases y<;>simp only[Kd] at h<;>try exact h.elim
  obtain⟨h1,h2⟩:=GU h
  obtain⟨h2,h3⟩:=GU h2
  have h1:=BKK h1
  subst h1
  cases hv with
  |fn h4 h5 h6 h7=>
   exact .fn (by rw[h4,TK h2]) (by rw[h5,TK h3])
    (λj x z hx hz=>by
     obtain⟨y,hy,hs⟩:=WJ h2 hx
     exact WW hF hp a j x y z hx hs (h6 j y z hy hz))
    λj x z hx hz=>by
     obtain⟨y,hy,hs⟩:=WJ h3 hx
     exact WW hF hp b j x y z hx hs (h7 j y z hy hz)
 | .mref i,y,v,h,hv=>by
  cases y<;>simp only[Kd] at h<;>try exact h.elim
  split at h
  ·rename_i hc
   simp only[Bool.and_eq_true,IM] at hc
   obtain⟨rfl,h2⟩:=hc
   cases hv;exact VRel.mref (ι:=λi=>ι (ρ i)) (hp _ h2)
  ·exact h.elim
 | .opt g a,y,v,h,hv=>by
  cases y<;>simp only[Kd] at h<;>try exact h.elim
  obtain⟨h1,h2⟩:=GU h
  have h1:g=_:=h1
  subst h1
  cases hv with
  |opt h3 h4=>exact .opt (λhg=>Px hF hp a _ v h2 (h3 hg)) h4
theorem WW{F:C2}(hF:zP B B' ι F){ρ:Nat->Nat}{p:Nat->Bool}{D':Nat->Prop}(hp:∀i,p i=true->D' i):∀(l:List AVal) (j:Nat) (x y:AVal) (v:Value),l[j]?=some x->FO (Kd F ρ p x y)->VRel B ι D y v->VRel B' (λi=>ι (ρ i)) D' x v
 |[],j,x,y,v,hx,_,_=>by simp at hx
 |a :: l,0,x,y,v,hx,h,hv=>by simp at hx;subst hx;exact Px hF hp a y v h hv
 |a :: l,j+1,x,y,v,hx,h,hv=>WW hF hp l j x y v (by simpa using hx) h hv
end
def Uw(F:C2)(ρ:Nat->Nat)(p:Nat->Bool):AObj->AObj->Option (List Prop)
 | .row k n g,.row k' n' g'=>if Nat.beq k k' then some [n=n',∀i,i<n->FO (Lj (g i) (g' i))] else none
 | .box es,.box es'=>PG F ρ p es es'
 | .imap q z h g s none,.imap q' z' h' g' s' none=>if q=q' then some [z=z',∀n,h n=h' n,∀n,s n=s' n,∀n,FO (Lj (g n) (g' n))] else none
 | .abox es m g,.abox es' m' g'=>if Nat.beq m m' then nG (PG F ρ p es es') (some [∀i,i<m->g i=g' i]) else none
 | .miter m a b c none,.miter m' a' b' c' _=>if p m&&Nat.beq (ρ m) m' then some [∀n,a n=a' n,∀n,b n=b' n,∀n,c n=c' n] else none
 |_,_=>none
theorem bJ{F:C2}(hF:zP B B' ι F){ρ:Nat->Nat}{p:Nat->Bool}{D':Nat->Prop}(hp:∀i,p i=true->D' i){q:Nat}{a b:AObj}{x:Option Obj}(h:FO (Uw F ρ p a b))(hb:ORel B ι D q b x):ORel B' (λi=>ι (ρ i)) D' q a x:=by
 cases a with
 |row k n g=>
  cases b<;>simp only[Uw] at h<;>try exact h.elim
  split at h
  ·rename_i hc
   obtain⟨h1,h2⟩:=LI.1 h
   have hs:osub ρ p (.row k n g) (.row _ _ _):=⟨Nat.eq_of_beq_eq_true hc,h1,λi hi=>IH _ _ (h2 i hi)⟩
   exact (qD hp hs hb).mono hF.1 λi hi=>⟨hi,rfl⟩
  ·exact h.elim
 |box es=>
  cases b<;>simp only[Uw] at h<;>try exact h.elim
  cases hb with
  |box hsz hr=>
   exact .box (by rw[hsz,TK h]) λj x z hx hz=>by
    obtain⟨y,hy,hs⟩:=WJ h hx
    exact WW hF hp es j x y z hx hs (hr j y z hy hz)
 |imap q z hs g st pend=>
  cases pend with
  |some x=>cases b<;>simp only[Uw] at h<;>exact h.elim
  |none=>
  cases b<;>try (simp only[Uw] at h;exact h.elim)
  rename_i q' z' hs' g' st' pend'
  cases pend' with
  |some x=>simp only[Uw] at h;exact h.elim
  |none=>
  simp only[Uw] at h
  split at h
  ·rename_i hc
   obtain⟨h1,h3⟩:=LI.1 h
   obtain⟨h3,h4⟩:=LI.1 h3
   obtain⟨h4,h5⟩:=LI.1 h4
   have hs:osub ρ p (.imap q z hs g st none) (.imap _ _ _ _ _ _):=⟨hc,h1,rfl,h3,h4,λn=>IH _ _ (h5 n)⟩
   exact (qD hp hs hb).mono hF.1 λi hi=>⟨hi,rfl⟩
  ·exact h.elim
 |abox es m g=>
  cases b<;>simp only[Uw] at h<;>try exact h.elim
  split at h
  ·rename_i hc
   obtain rfl:=Nat.eq_of_beq_eq_true hc
   obtain⟨h,hg⟩:=GU h
   cases hb with
   |abox hsz hr hb=>
    exact .abox (by rw[hsz,TK h]) (λj x z hx hz=>by
     obtain⟨y,hy,hs⟩:=WJ h hx
     exact WW hF hp es j x y z hx hs (hr j y z hy hz)) λj hj=>by rw[TK h,show g j=_ from hg j hj];exact hb j hj
  ·exact h.elim
 |miter m a1 b1 c1 d1=>
  cases d1 with
  |some x=>cases b<;>simp only[Uw] at h<;>exact h.elim
  |none=>
  cases b<;>simp only[Uw] at h<;>try exact h.elim
  split at h
  ·rename_i hc
   simp only[Bool.and_eq_true] at hc
   obtain⟨h1,h3⟩:=LI.1 h
   obtain⟨h3,h4⟩:=LI.1 h3
   rename_i m' a' b' c' d' _
   have hs:osub ρ p (.miter m a1 b1 c1 none) (.miter m' a' b' c' d'):=⟨hc.1,Nat.eq_of_beq_eq_true hc.2,h1,h3,h4,.inl rfl⟩
   exact (qD hp hs hb).mono hF.1 λi hi=>⟨hi,rfl⟩
  ·exact h.elim
def FB(H:Heap):List Nat->Heap
 |[]=>H
 |id :: r=>match H id with
  | .live (.row _ _ _)=>FB (FL H id .dead) r
  |_=>FB H r
def PN(H:Heap)(ids:List Nat):C2:=λid=>if ids.contains id then match H id with
  | .live (.row k m get)=>some (k,m,get)
  |_=>none
 else none
theorem WB:∀(ids:List Nat) {B:Fi} {H:Heap},HRel B ι H w->∃B',Moved B ι H w B' ι (FB H ids) w/\zP B B' ι (PN H ids)
 |[],B,H,h=>⟨B,Moved.refl h,λ_ _ h=>h,λid k m get hf=>by simp[PN] at hf⟩
 |id :: r,B,H,h=>by
  simp only[FB]
  split
  ·rename_i k m get hid
   obtain⟨c,e,h1,h2,h3,h4,h5,h6⟩:=Moved.freeze h hid
   obtain⟨B',h7,h8⟩:=WB r h2.heap
   refine⟨B',h2.trans h7,λb c hb=>h8.1 b c (h2.bm b c hb),λid' k' m' get' hf=>?_⟩
   by_cases he:id'=id
   ·subst he
    simp only[PN,List.contains_cons,beq_self_eq_true,Bool.true_or,if_true,hid,Option.some.injEq,Prod.mk.injEq] at hf
    obtain⟨rfl,rfl,rfl⟩:=hf
    exact⟨c,h8.1 _ _ (by simp),h3,h4,h5,λi j x y hi hx hy=>(h6 i j x y hi hx hy).mono λb c hb=>h8.1 b c (h2.bm b c hb)⟩
   ·refine h8.2 id' k' m' get' ?_
    have e1:(id'==id)=false:=by simpa using he
    simp only[PN,List.contains_cons,e1,Bool.false_or] at hf
    simp only[PN,JX _ _ he]
    exact hf
  ·rename_i hn
   obtain⟨B',h7,h8⟩:=WB r h
   refine⟨B',h7,h8.1,λid' k' m' get' hf=>?_⟩
   by_cases he:id'=id
   ·subst he
    simp only[PN,List.contains_cons,beq_self_eq_true,Bool.true_or,if_true] at hf
    first | cases hf | (split at hf;(rename_i hq;exact (hn _ _ _ hq).elim);cases hf)
   ·refine h8.2 id' k' m' get' ?_
    have e1:(id'==id)=false:=by simpa using he
    simp only[PN,List.contains_cons,e1,Bool.false_or] at hf
    exact hf
theorem Mj:∀(ids:List Nat) {H:Heap} {i:Nat} {o:AObj},FB H ids i=.live o->H i=.live o
 |[],_,_,_,h=>h
 |id :: r,H,i,o,h=>by
  have key:∀H',(H'=H∨H'=FL H id .dead)->FB H' r i=.live o->H i=.live o:=λH' hH h=>by
   have:=Mj r h
   rcases hH with rfl | rfl
   ·exact this
   ·by_cases he:i=id
    ·subst he;rw[LF] at this;cases this
    ·rwa [JX _ _ he] at this
  simp only[FB] at h
  cases hq:H id with
  |live o'=>cases o' with
   |row=>simp only[hq] at h;exact key _ (.inr rfl) h
   |_=>simp only[hq] at h;exact key _ (.inl rfl) h
  |_=>simp only[hq] at h;exact key _ (.inl rfl) h
def AHP(F:C2)(ρ:Nat->Nat)(p:Nat->Bool):HCell->HCell->Option (List Prop)
 | .live o,.live o'=>Uw F ρ p o o'
 | .dead,.live _=>some []
 | .dead,.dead=>some []
 |_,_=>none
def BIT(F:C2)(ρ:Nat->Nat)(p:Nat->Bool)(sl:Nat->AVal):List (Nat×AVal)->Option (List Prop)
 |[]=>some []
 |(t,v) :: r=>nG (Kd F ρ p v (sl t)) (BIT F ρ p sl r)
def CCM(F:C2)(ρ:Nat->Nat)(p:Nat->Bool)(H:Heap):List (Nat×HCell)->Option (List Prop)
 |[]=>some []
 |(i,c) :: r=>nG (AHP F ρ p c (H (ρ i))) (CCM F ρ p H r)
theorem API{F:C2}{ρ:Nat->Nat}{p:Nat->Bool}{sl:Nat->AVal}:∀{l:List (Nat×AVal)},FO (BIT F ρ p sl l)->∀t,FO (Kd F ρ p (KT l t) (sl t))
 |[],_,t=>by simp only[KT,Kd];trivial
 |(j,v) :: r,h,t=>by
  obtain⟨h1,h2⟩:=GU h
  simp only[KT]
  split
  ·rename_i e;subst e;exact h1
  ·exact API h2 t
theorem ADQ{F:C2}{ρ:Nat->Nat}{p:Nat->Bool}{H:Heap}:∀{l:List (Nat×HCell)},FO (CCM F ρ p H l)->∀{i:Nat} {c:HCell},(i,c)∈l->FO (AHP F ρ p c (H (ρ i)))
 |[],_,i,c,h=>by cases h
 |(j,d) :: r,h,i,c,hm=>by
  obtain⟨h1,h2⟩:=GU h
  rcases List.mem_cons.1 hm with hm | hm
  ·cases hm;exact h1
  ·exact ADQ h2 hm
def Ae(E:List Nat)(fz:List Nat)(l:List (Nat×Nat))(s:ST)(σ:AState):Option (List Prop):=
 if (nodup (s.H.map λx=>NB l x.1)&&E.all λi=>Nat.beq (NB l i) i&&(Bz s.H i).isSome) then
  nG (BIT (PN σ.H fz) (NB l) (λi=>(Bz s.H i).isSome) σ.sl s.sl) (CCM (PN σ.H fz) (NB l) (λi=>(Bz s.H i).isSome) (FB σ.H fz) s.H)
 else none
theorem Moved.subF{B0:Fi}{ι0:Nat->Pl}{H0:Heap}{w0:World}{E fz:List Nat}{l:List (Nat×Nat)}{s:ST}{sl:Nat->AVal}(hE:∀i,H0.dom i->i∈E)(h:FO (Ae E fz l s ⟨sl,H⟩))(hm0:Moved B0 ι0 H0 w0 B ι H w) :
  ∃B',Moved B0 ι0 H0 w0 B' (λi=>ι (NB l i)) (cP s.H) w/\(∀t v,VRel B ι H.dom (sl t) v->VRel B' (λi=>ι (NB l i)) (cP s.H).dom (KT s.sl t) v)/\(∀i o,cP s.H i=.live o->∃o',H (NB l i)=.live o') /\
   (∀b c,B b=some c->B' b=some c)/\∀i∈E,(cP s.H).dom i/\NB l i=i:=by
 unfold Ae at h
 split at h
 case isFalse=>exact h.elim
 rename_i h3
 obtain⟨h1,h2⟩:=GU h
 simp only[Bool.and_eq_true,List.all_eq_true,IM] at h3
 obtain⟨h3,h4⟩:=h3
 have hnd:=TI h3
 obtain⟨B',hk,hF⟩:=WB fz hm0.heap
 have hm:=hm0.trans hk
 have hdom:∀i,(λi=>(Bz s.H i).isSome) i=true->(cP s.H).dom i:=λi hi=>by
  obtain⟨d,hd⟩:=Option.isSome_iff_exists.1 hi
  have:=ADQ h2 (XF hd)
  unfold Heap.dom
  show (Bz s.H i).getD .none≠.none
  rw[hd]
  intro he
  simp at he;subst he
  simp only[AHP] at this;exact this
 have live:∀i o,cP s.H i=.live o->(i,.live o)∈s.H/\∃o',FB H fz (NB l i)=.live o'/\FO (Uw (PN H fz) (NB l) (λi=>(Bz s.H i).isSome) o o'):=λi o hi=>by
  have hg:Bz s.H i=some (.live o):=by
   have:(Bz s.H i).getD .none=.live o:=hi
   cases hq:Bz s.H i with
   |none=>rw[hq] at this;cases this
   |some d=>rw[hq] at this;simpa using this
  have hm:=XF hg
  have:=ADQ h2 hm
  refine⟨hm,?_⟩
  cases hq:FB H fz (NB l i) with
  |live o'=>rw[hq] at this;exact⟨o',rfl,this⟩
  |none=>rw[hq] at this;simp only[AHP] at this;exact this.elim
  |dead=>rw[hq] at this;simp only[AHP] at this;exact this.elim
 refine⟨B',?_,λt v hv=>Px hF hdom _ _ _ (API h1 t) hv,λi o hi=>by obtain⟨_,o',ho,_⟩:=live i o hi;exact⟨o',Mj fz ho⟩,hF.1,λi hi=>⟨hdom i (h4 i hi).2,(h4 i hi).1⟩⟩
 refine⟨hm.bm,hm.bn,λi hi=>?_,⟨λi o hi=>?_,λi j o o' hi hj hij=>?_,λi o hi=>?_,hm.heap.imm⟩,λi o hi=>?_,hm.frame,hm.size,hm.calm⟩
 ·obtain⟨h5,h6⟩:=h4 i (hE i hi)
  exact⟨hdom i h6,by show ι (NB l i)=_;rw[h5];exact (hm.im i hi).2⟩
 ·obtain⟨_,o',ho,hs⟩:=live i o hi
  exact bJ hF hdom hs (hm0.heap.obj _ _ (Mj fz ho))
 ·obtain⟨m1,o1,ho1,_⟩:=live i o hi
  obtain⟨m2,o2,ho2,_⟩:=live j o' hj
  exact (R3 hnd m1 m2 (hm.heap.inj _ _ _ _ ho1 ho2 hij)).1
 ·obtain⟨_,o',ho,_⟩:=live i o hi
  exact hm.heap.sep _ _ ho
 ·obtain⟨_,o',ho,_⟩:=live i o hi
  exact hm.own _ _ ho
theorem Rel.subF{c:Ctx}{E fz:List Nat}{l:List (Nat×Nat)}{s:ST}{σ:AState}{a:Act}(hE:∀i,c.H0.dom i->i∈E)(h:FO (Ae E fz l s σ))(hR:Rel c B ι σ a w):∃B',Rel c B' (λi=>ι (NB l i)) s.st a w:=by
 obtain⟨B',h1,h2,h3,_⟩:=Moved.subF hE h hR.mv
 obtain⟨Ds,d1,d0,d2,d3⟩:=hR.defers
 refine⟨B',λt=>h2 t _ (hR.slots t),hR.size,⟨Ds,d1,d0,d2,λD hD=>⟨(d3 D hD).1,(d3 D hD).2.here,λi o hi=>?_⟩⟩,h1⟩
 obtain⟨o',ho⟩:=h3 i o hi
 exact (d3 D hD).2.sep _ _ ho
theorem CodeE.subF{c:Ctx}{E fz:List Nat}{l:List (Nat×Nat)}{s:ST}{σ:AState}{code:Code}{Q:Exit->AState->Prop}(hE:∀i,c.H0.dom i->i∈E)(hs:FO (Ae E fz l s σ))(h:CodeE P c code Q s.st):CodeE P c code Q σ:=
 λ_ _ a w hR=>let ⟨B',hR'⟩:=Rel.subF hE hs hR;h B' _ a w hR'
def iM:List Prop->Prop->Prop
 |[],K=>K
 |l,K=>DJ l/\K
theorem LJ{l:List Prop}{K:Prop}(h:iM l K):DJ l/\K:=by
 cases l with
 |nil=>exact⟨trivial,h⟩
 |cons=>exact h
def BQA:Option (List Prop)->Prop->Prop
 |some l,K=>iM l K
 |none,_=>False
theorem Z2{l:Option (List Prop)}{K:Prop}(h:BQA l K):FO l/\K:=by
 cases l with
 |none=>exact h.elim
 |some l=>exact LJ h
end Go.Sym
namespace Go.Sym
theorem SO{a b:List Prop}:DJ (a ++ b)↔DJ a/\DJ b:=by
 induction a with
 |nil=>simp[DJ]
 |cons p a ih=>rw[List.cons_append,LI,LI,ih,and_assoc]
variable {P : Program} {B B' : Fi} {ι ι' : Nat -> Pl} {H H' : Heap} {D : Nat -> Prop} {w w' : World}
def BGN(o:Oper)(t:Nat):Bool:=match o.dst with
 |some d=>Nat.beq d t
 |none=>false
theorem BLH{o:Oper}{t:Nat}(h:BGN o t=true):o.dst=some t:=by
 unfold BGN at h
 split at h
 ·rename_i d hd;rw[hd,Nat.eq_of_beq_eq_true h]
 ·cases h
def Hm:List Oper->Bool
 |[]=>true
 |o :: l=>(match o.dst with
  |some d=>l.all λo'=>!BGN o' d
  |none=>true)&&Hm l
theorem xK{l:List Oper}(h:Hm l=true){i k:Nat}{o o':Oper}{t:Nat}(hik:i<k)(ho:l[i]?=some o)(ho':l[k]?=some o')(ht:o.dst=some t):o'.dst≠some t:=by
 induction l generalizing i k with
 |nil=>simp at ho
 |cons a l ih=>
  simp only[Hm,Bool.and_eq_true] at h
  cases k with
  |zero=>omega
  |succ k=>
   rw[List.getElem?_cons_succ] at ho'
   cases i with
   |zero=>
    rw[List.getElem?_cons_zero] at ho
    cases ho
    have h1:=h.1
    rw[ht] at h1
    simp only[List.all_eq_true] at h1
    have:=h1 o' (List.mem_of_getElem? ho')
    intro he
    simp[BGN,he] at this
   |succ i=>exact ih h.2 (i:=i) (k:=k) (by omega) (by rw[List.getElem?_cons_succ] at ho;exact ho) ho'
def lowL:List Oper->Nat->Bool
 |[],_=>true
 |o :: l,k=>(match o.guard with
  |some q=>Nat.blt q.1 k
  |none=>true)&&lowL l (k+1)
theorem F8:∀{l:List Oper} {k:Nat},lowL l k=true->∀{i:Nat} {o:Oper} {q:Nat×Bool},l[i]?=some o->o.guard=some q->q.1<k+i
 |[],_,_,i,o,q,h,_=>by simp at h
 |a :: l,k,h,0,o,q,ho,hq=>by
  simp only[lowL,Bool.and_eq_true] at h
  simp at ho;subst ho
  have h1:=h.1
  rw[hq] at h1
  simpa using h1
 |a :: l,k,h,i+1,o,q,ho,hq=>by
  simp only[lowL,Bool.and_eq_true] at h
  have:=F8 h.2 (i:=i) (by simpa using ho) hq
  omega
def wg:List Oper->Nat->Nat->Option (Nat×Bool)
 |[],_,_=>none
 |_ :: _,0,_=>none
 |o :: l,k+1,t=>if BGN o t then o.guard else wg l k t
theorem BSZ:∀{l:List Oper} {k t:Nat} {q:Nat×Bool},wg l k t=some q->∃i o,i<k/\l[i]?=some o/\o.dst=some t/\o.guard=some q
 |[],k,t,q,h=>by simp[wg] at h
 |o :: l,0,t,q,h=>by simp[wg] at h
 |o :: l,k+1,t,q,h=>by
  simp only[wg] at h
  split at h
  ·rename_i hd;exact⟨0,o,by omega,rfl,BLH hd,h⟩
  ·obtain⟨i,o',h1,h2,h3⟩:=BSZ h
   exact⟨i+1,o',by omega,by simpa using h2,h3⟩
def gcov(ops:Array Oper):Nat->Nat×Bool->Nat×Bool->Bool
 |0,_,_=>false
 |f+1,q,q'=>(Nat.beq q.1 q'.1&&(q.2==q'.2))||match (ops[q.1]?).bind (·.guard) with
  |some q2=>gcov ops f q2 q'
  |none=>false
def GInv(ops:Array Oper)(sl:Nat->AVal)(k:Nat):Prop:=
 ∀i o t q,i<k->ops[i]?=some o->o.dst=some t->o.guard=some q->∃g v,sl t=.opt g v/\GC ops sl q.1 q.2=some g
theorem BKZ{ops:Array Oper}{sl:Nat->AVal}{j:Nat}{want g gd:Bool}{t:Nat}{v:AVal}(ht:(ops[j]?).bind (·.dst)=some t)(hs:sl t=.opt gd v)(h:GC ops sl j want=some g)(hg:g=true):gd=true:=by
 unfold GC at h
 rw[ht] at h
 simp only[hs] at h
 split at h<;>simp_all
theorem BHK{ops:Array Oper}{sl:Nat->AVal}{j:Nat}{want g:Bool}(h:GC ops sl j want=some g):∃o t,ops[j]?=some o/\o.dst=some t:=by
 unfold GC at h
 split at h
 ·rename_i t ht
  cases hj:ops[j]? with
  |none=>rw[hj] at ht;cases ht
  |some o=>rw[hj] at ht;exact⟨o,t,rfl,ht⟩
 ·cases h
theorem ASJ{ops:Array Oper}{sl:Nat->AVal}{k:Nat}(hI:GInv ops sl k)(hl:lowL ops.toList 0=true):∀(f:Nat) (q q':Nat×Bool) (g g':Bool),gcov ops f q q'=true->q.1<k->GC ops sl q.1 q.2=some g->g=true->GC ops sl q'.1 q'.2=some g'->g'=true
 |0,_,_,_,_,h,_,_,_,_=>by simp[gcov] at h
 |f+1,q,q',g,g',h,hq,h1,hg,h2=>by
  simp only[gcov,Bool.or_eq_true,Bool.and_eq_true,IM,beq_iff_eq] at h
  rcases h with⟨e1,e2⟩ | h
  ·rw[<-e1,<-e2,h1] at h2;cases h2;exact hg
  ·split at h
   ·rename_i q2 hq2
    obtain⟨o,t,ho,ht⟩:=BHK h1
    have hgq:o.guard=some q2:=by rw[ho] at hq2;exact hq2
    obtain⟨gd,v,hs,hgd⟩:=hI q.1 o t q2 hq ho ht hgq
    have:=BKZ (by rw[ho];exact ht) hs h1 hg
    have hlow:=F8 hl (i:=q.1) (by simpa using ho) hgq
    exact ASJ hI hl f q2 q' gd g' h (by omega) hgd this h2
   ·cases h
def tagW(cv:Nat×Bool->Bool)(ops:Array Oper)(k:Nat)(c:Prop)(x:Operand)(a:AVal):List Prop:=match a with
 | .opt g _=>match x with
  | .tmp t=>match wg ops.toList k t with
   |some q=>if cv q then [] else [c->g=true]
   |none=>[c->g=true]
  |_=>[c->g=true]
 |_=>[]
theorem D6{cv:Nat×Bool->Bool}{ops:Array Oper}{sl:Nat->AVal}{k:Nat}{c:Prop}{x:Operand}(hI:GInv ops sl k)(hcv:∀q g,cv q=true->GC ops sl q.1 q.2=some g->c->g=true)(h:DJ (tagW cv ops k c x (BH sl x))):DJ (Oi c (BH sl x)):=by
 generalize ha:BH sl x=a at h
 cases a with
 |opt g v=>
  simp only[tagW] at h
  split at h
  ·rename_i t
   split at h
   ·rename_i q hq
    split at h
    ·rename_i hc
     obtain⟨i,o,h1,h2,h3,h4⟩:=BSZ hq
     obtain⟨g',v',h5,h6⟩:=hI i o t q h1 (by simpa using h2) h3 h4
     have:sl t=.opt g v:=ha
     rw[h5] at this;cases this
     exact λc=>hcv q _ hc h6 c
    ·exact h
   ·exact h
  ·exact h
 |_=>trivial
def cvOwn(ops:Array Oper)(k:Nat)(gd:Option (Nat×Bool))(q:Nat×Bool):Bool:=match gd with
 |some g=>gcov ops (k+1) g q
 |none=>false
def AVF(ops:Array Oper)(k:Nat)(gd:Option (Nat×Bool))(c:Operand)(want:Bool)(q:Nat×Bool):Bool:=
 (match c,(ops[q.1]?).bind (·.dst) with
  | .tmp tc,some t=>Nat.beq t tc&&(q.2==want)
  |_,_=>false)||cvOwn ops k gd q
def BOB(ops:Array Oper)(k:Nat)(sl:Nat->AVal)(o:Oper):List Prop:=match o.op,o.guard with
 | .pick c a b,gd=>match CQ (BH sl c) with
  | .d (.v (.bool t))=>tagW (cvOwn ops k gd) ops k True c (BH sl c) ++ (tagW (AVF ops k gd c true) ops k (t=true) a (BH sl a) ++ tagW (AVF ops k gd c false) ops k (t=false) b (BH sl b))
  |_=>[]
 |_,none=>[]
 |op,some q=>op.operands.toList.flatMap λx=>tagW (cvOwn ops k (some q)) ops k True x (BH sl x)
def jR(sl:Nat->AVal)(o:Oper):List Prop:=match o.op,o.guard with
 | .pick c a b,_=>match CQ (BH sl c) with
  | .d (.v (.bool t))=>Oi True (BH sl c) ++ (Oi (t=true) (BH sl a) ++ Oi (t=false) (BH sl b))
  |_=>[]
 |_,none=>[]
 |op,some _=>ZX (BH sl) op.operands.toList
theorem AHR{ops:Array Oper}{sl:Nat->AVal}{k:Nat}{gd:Option (Nat×Bool)}{c:Operand}{want t:Bool}(hO:∀q g,cvOwn ops k gd q=true->GC ops sl q.1 q.2=some g->g=true)(hc:CQ (BH sl c)=.d (.v (.bool t)))(ht:DJ (Oi True (BH sl c)))(q:Nat×Bool)(g:Bool)
  (h:AVF ops k gd c want q=true) (hg:GC ops sl q.1 q.2=some g) (hw:t=want):g=true:=by
 simp only[AVF,Bool.or_eq_true] at h
 rcases h with h | h
 ·split at h
  ·rename_i tc t' hd
   simp only[Bool.and_eq_true,IM,beq_iff_eq] at h
   obtain⟨rfl,h2⟩:=h
   unfold GC at hg
   rw[hd] at hg
   simp only[BH] at hc ht
   subst hw
   rw[h2] at hg
   obtain⟨v,hv⟩:∃v,sl t'=v:=⟨_,rfl⟩
   simp only[hv] at hc ht hg
   cases v with
   |opt gc v'=>
    have:gc=true:=ht trivial
    subst this
    simp only[CQ] at hc;subst hc
    cases t<;>simp at hg<;>exact hg
   |d x=>simp only[CQ] at hc;cases hc;cases t<;>simp at hg<;>exact hg
   |_=>simp only[CQ] at hc;cases hc
  ·cases h
 ·exact hO q g h hg
theorem BJD{ops:Array Oper}{sl:Nat->AVal}{k:Nat}{o:Oper}(hI:GInv ops sl k)(hl:lowL ops.toList 0=true)(ho:ops[k]?=some o)(hgd:∀q,o.guard=some q->GC ops sl q.1 q.2=some true)(h:DJ (BOB ops k sl o)):DJ (jR sl o):=by
 have hO:∀q g,cvOwn ops k o.guard q=true->GC ops sl q.1 q.2=some g->g=true:=λq g hc hg=>by
  unfold cvOwn at hc
  split at hc
  ·rename_i q0 hq0
   have:=F8 hl (i:=k) (by simpa using ho) hq0
   exact ASJ hI hl _ q0 q true g hc (by omega) (hgd q0 hq0) rfl hg
  ·cases hc
 unfold BOB at h
 unfold jR
 split at h
 ·rename_i c a b ho'
  split at h
  ·rename_i t hc
   obtain⟨h1,h2⟩:=BS h
   obtain⟨h2,h3⟩:=BS h2
   have t1:=D6 hI (λq g a b _=>hO q g a b) h1
   exact SO.2 ⟨t1,SO.2 ⟨D6 hI (λq g a b c=>AHR hO hc t1 q g a b c) h2,D6 hI (λq g a b c=>AHR hO hc t1 q g a b c) h3⟩⟩
  ·trivial
 ·trivial
 ·rename_i q hgn hq
  rw[hgn] at hO
  generalize o.op.operands.toList=l at h
  induction l with
  |nil=>trivial
  |cons x l ih=>
   rw[List.flatMap_cons] at h
   obtain⟨h1,h2⟩:=BS h
   show DJ (Oi True (BH sl x) ++ ZX (BH sl) l)
   exact SO.2 ⟨D6 hI (λq g a b _=>hO q g a b) h1,ih h2⟩
theorem GInv.next{ops:Array Oper}{sl:Nat->AVal}{k:Nat}{o:Oper}{v:AVal}(hI:GInv ops sl k)(hl:lowL ops.toList 0=true)(hd:Hm ops.toList=true)(ho:ops[k]?=some o)(hv:∀q,o.guard=some q->∃g v',v=.opt g v'/\GC ops sl q.1 q.2=some g)(sl':Nat->AVal)
  (hsl:∀t,sl' t=if o.dst=some t then v else sl t):GInv ops sl' (k+1):=by
 have hk:∀j want,j<k->GC ops sl' j want=GC ops sl j want:=λj want hj=>by
  unfold GC
  cases hjo:ops[j]? with
  |none=>rfl
  |some oj=>
   simp only[Option.bind_some]
   cases hdj:oj.dst with
   |none=>rfl
   |some t=>
    simp only
    rw[hsl t,if_neg (xK hd hj (by simpa using hjo) (by simpa using ho) hdj)]
 intro i o' t q hi ho' ht hq
 have hlow:=F8 hl (i:=i) (by simpa using ho') hq
 rcases Nat.lt_or_ge i k with hik | hik
 ·obtain⟨g,v',h1,h2⟩:=hI i o' t q hik ho' ht hq
  refine⟨g,v',?_,by rw[hk _ _ (by omega)];exact h2⟩
  rw[hsl t,if_neg (xK hd hik (by simpa using ho') (by simpa using ho) ht)]
  exact h1
 ·have:i=k:=by omega
  subst this
  rw[ho] at ho';cases ho'
  obtain⟨g,v',h1,h2⟩:=hv q hq
  exact⟨g,v',by rw[hsl t,if_pos ht];exact h1,by rw[hk _ _ (by omega)];exact h2⟩
end Go.Sym
