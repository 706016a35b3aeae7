/- When a state tells less than another: a list of conditions on scalars. -/
import Derived.Test.YtceloknnpdonhaaGreatSym7
set_option linter.unusedVariables false
set_option linter.unusedSimpArgs false
namespace Go.Sym
variable {P : Program} {B B' : Rr} {ι ι' : Nat -> Pl} {H H' : Heap} {D : Nat -> Prop} {w w' : World}
theorem PT{a b:Nat}:(Nat.beq a b=true)=(a=b):=propext ⟨Nat.eq_of_beq_eq_true,λh=>by subst h;exact Nat.beq_refl a⟩
def JM:Option (List Prop)->Prop
 |some l=>EL l
 |none=>False
def V7:Option (List Prop)->Option (List Prop)->Option (List Prop)
 |some l,some m=>some (l ++ m)
 |_,_=>none
def DAF:Value->Value->Option (List Prop)
 | .int k a,.int k' b=>if k=k' then some [a=b] else none
 | .bool a,.bool b=>some [a=b]
 | .string a,.string b=>some [a=b]
 |x,y=>some [x=y]
theorem KV{a b:Option (List Prop)}(h:JM (V7 a b)):JM a/\JM b:=by
 cases a with
 |none=>exact h.elim
 |some l=>cases b with
  |none=>exact h.elim
  |some m=>exact BW h
theorem CSO(x:Value):vEq x x:=by
 unfold vEq;split<;>simp_all
theorem CKK{x y:Value}(h:JM (DAF x y)):vEq x y:=by
 unfold DAF at h
 split at h
 ·split at h
  ·rename_i hk;exact⟨hk,h⟩
  ·exact h.elim
 ·exact h
 ·exact h
 ·have h:x=y:=h
  subst h
  exact CSO x
mutual
def Yl:DVal->DVal->Option (List Prop)
 | .v x,.v y=>DAF x y
 | .agg xs,.agg ys=>BIE xs ys
 | .tup xs,.tup ys=>BIE xs ys
 | .list k n g e,.list k' n' g' e'=>if Nat.beq k k'&&(!e||e') then some [n=n',∀i,i<n->JM (Yl (g i) (g' i))] else if (Nat.beq k' 0||Nat.beq k 0)&&(!e||e') then some [n=n',n=0] else none
 | .arr k n g,.arr k' n' g'=>if Nat.beq k k' then some [n=n',∀i,i<n->JM (Yl (g i) (g' i))] else none
 | .eref x c,.eref y d=>if Nat.beq c d then Yl x y else none
 | .iface t x,.iface u y=>if Nat.beq t u then Yl x y else none
 | .anyB,.anyB=>some []
 |_,_=>none
def BIE:List DVal->List DVal->Option (List Prop)
 |[],[]=>some []
 |x :: xs,y :: ys=>V7 (Yl x y) (BIE xs ys)
 |_,_=>none
end
mutual
theorem NF:∀(x y:DVal),JM (Yl x y)->LU x y
 | .v x,y,h=>by cases y<;>simp only[Yl] at h<;>first | exact (by simp only[LU];exact CKK h) | exact h.elim
 | .agg xs,y,h=>by cases y<;>simp only[Yl] at h<;>first | exact (by simp only[LU];exact AFX _ _ h) | exact h.elim
 | .tup xs,y,h=>by cases y<;>simp only[Yl] at h<;>first | exact (by simp only[LU];exact AFX _ _ h) | exact h.elim
 | .list k n g e,y,h=>by
  cases y<;>simp only[Yl] at h<;>try exact h.elim
  split at h
  ·rename_i hc
   simp only[Bool.and_eq_true,PT,Bool.or_eq_true,Bool.not_eq_true'] at hc
   obtain⟨h1,h2⟩:=QG.1 h
   simp only[LU]
   refine⟨.inl hc.1,h1,λhe=>?_,λi hi=>NF _ _ (h2 i hi)⟩
   rcases hc.2 with h | h
   ·rw[he] at h;cases h
   ·exact h
  ·split at h
   ·rename_i hc
    simp only[Bool.and_eq_true,PT,Bool.or_eq_true,Bool.not_eq_true'] at hc
    obtain⟨h1,h2⟩:=QG.1 h
    have h2:n=0:=h2
    simp only[LU]
    refine⟨.inr h2,h1,λhe=>?_,λi hi=>by omega⟩
    rcases hc.2 with h | h
    ·rw[he] at h;cases h
    ·exact h
   ·exact h.elim
 | .arr k n g,y,h=>by
  cases y<;>simp only[Yl] at h<;>try exact h.elim
  split at h
  ·rename_i hc
   obtain⟨h1,h2⟩:=QG.1 h
   simp only[LU]
   exact⟨Nat.eq_of_beq_eq_true hc,h1,λi hi=>NF _ _ (h2 i hi)⟩
  ·exact h.elim
 | .anyB,y,h=>by
  cases y<;>simp only[Yl] at h<;>try exact h.elim
  simp only[LU]
 | .iface x c,y,h=>by
  cases y<;>simp only[Yl] at h<;>try exact h.elim
  split at h
  ·rename_i hc
   simp only[LU]
   exact⟨Nat.eq_of_beq_eq_true hc,NF _ _ h⟩
  ·exact h.elim
 | .eref x c,y,h=>by
  cases y<;>simp only[Yl] at h<;>try exact h.elim
  split at h
  ·rename_i hc
   simp only[LU]
   exact⟨Nat.eq_of_beq_eq_true hc,NF _ _ h⟩
  ·exact h.elim
theorem AFX:∀(x y:List DVal),JM (BIE x y)->Ul x y
 |[],y,h=>by cases y<;>simp only[BIE] at h<;>first | trivial | exact h.elim
 |x :: xs,y,h=>by
  cases y<;>simp only[BIE] at h
  ·exact h.elim
  ·obtain⟨h1,h2⟩:=KV h
   simp only[Ul]
   exact⟨NF _ _ h1,AFX _ _ h2⟩
end
abbrev Frz:=Nat->Option (Nat×Nat×(Nat->DVal))
structure FrzRow(B':Rr)(ι:Nat->Pl)(id k m:Nat)(get:Nat->DVal)(c:Array Value):Prop where
 at':B' (ι id).b=some c
 len:m<=(ι id).cap
 size:(ι id).cap*k<=c.size
 ok:∀i,i<m->EOk k (get i)
 rel:∀(i j:Nat) (x:DVal) (y:Value),i<m->(get i).cells1[j]?=some x->c[i*k+j]?=some y->DRel B' x y
def AEO(B B':Rr)(ι:Nat->Pl)(F:Frz):Prop:=
 (∀b c,B b=some c->B' b=some c)/\∀id k m get,F id=some (k,m,get)->∃c,FrzRow B' ι id k m get c
mutual
def Zz(F:Frz):DVal->AVal->Option (List Prop)
 |x,.d y=>Yl x y
 | .list k n g e,.own id k' i n'=>match F id with
  |some (k2,m,get)=>if Nat.beq k k'&&Nat.beq k k2&&!e then some [n=n',i+n'<=m,∀j,j<n->JM (Yl (g j) (get (i+j)))] else none
  |none=>none
 | .agg xs,.agg ys=>Pw F xs ys
 | .tup xs,.tup ys=>Pw F xs ys
 |_,_=>none
def Pw(F:Frz):List DVal->List AVal->Option (List Prop)
 |[],[]=>some []
 |x :: xs,y :: ys=>V7 (Zz F x y) (Pw F xs ys)
 |_,_=>none
end
theorem ABK{F:Frz}:∀{xs:List DVal} {ys:List AVal},JM (Pw F xs ys)->xs.length=ys.length
 |[],[],_=>rfl
 |x :: xs,y :: ys,h=>by simp only[Pw] at h;simp[ABK (KV h).2]
 |[],_ :: _,h=>by simp only[Pw] at h;exact h.elim
 |_ :: _,[],h=>by simp only[Pw] at h;exact h.elim
theorem ALG{F:Frz}:∀{xs:List DVal} {ys:List AVal},JM (Pw F xs ys)->∀{j:Nat} {x:DVal},xs[j]?=some x->∃y,ys[j]?=some y/\JM (Zz F x y)
 |[],[],_,j,x,hx=>by simp at hx
 |a :: xs,b :: ys,h,0,x,hx=>by simp only[Pw] at h;simp at hx;subst hx;exact⟨b,rfl,(KV h).1⟩
 |a :: xs,b :: ys,h,j+1,x,hx=>by
  simp only[Pw] at h
  obtain⟨y,hy,hs⟩:=ALG (KV h).2 (j:=j) (by simpa using hx)
  exact⟨y,by simpa using hy,hs⟩
 |[],_ :: _,h,_,_,_=>by simp only[Pw] at h;exact h.elim
 |_ :: _,[],h,_,_,_=>by simp only[Pw] at h;exact h.elim
theorem BSR{F:Frz}(hF:AEO B B' ι F){k n:Nat}{g:Nat->DVal}{id i n' m:Nat}{get:Nat->DVal}{v:Value}(hf:F id=some (k,m,get))(hn:n=n')(hm:i+n'<=m)(hg:∀j,j<n->LU (g j) (get (i+j)))(hv:VRel B ι D (.own id k i n') v):DRel B' (.list k n g false) v:=by
 obtain⟨c,hc⟩:=hF.2 id k m get hf
 subst hn
 cases hv with
 |own hD hcap hq=>
  rcases Nat.eq_zero_or_pos n with rfl | hp
  ·exact .nil (λh=>by cases h) (.inr (by simp))
  ·have hsz:∀j,j<n->(i+j+1)*k<=c.size:=λj hj=>by
    have h1:(i+j+1)*k<=(ι id).cap*k:=Nat.mul_le_mul_right k (by have:=hc.len;omega)
    have:=hc.size
    omega
   refine .list hp hc.at' hcap (λh=>by cases h) (λj hj=>BEA (hg j hj) (hc.ok _ (by omega))) ?_ λj l x y hj hx hy=>?_
   ·have h1:(i+n)*k<=(ι id).cap*k:=Nat.mul_le_mul_right k (by have:=hc.len;omega)
    have h2:(i+n)*k=i*k+n*k:=Nat.add_mul i n k
    have:=hc.size
    omega
   ·have e1:(i+j)*k=i*k+j*k:=Nat.add_mul i j k
    have e2:(i+j+1)*k=(i+j)*k+k:=Nat.succ_mul _ k
    refine (BCS (o:=(i+j)*k) (hg j hj) (hc.ok _ (by omega)) (by have:=hsz j hj;omega) (λl x y hx hy=>hc.rel (i+j) l x y (by omega) hx hy) (λv hv=>JP _ _ v (hg j hj) hv) l x y hx (by rw[e1];exact hy))
mutual
theorem BDA{F:Frz}(hF:AEO B B' ι F):∀(x:DVal) (y:AVal) (v:Value),JM (Zz F x y)->VRel B ι D y v->DRel B' x v
 | .v x,y,v,h,hv=>by
  cases y<;>simp only[Zz] at h<;>try exact h.elim
  exact (JP _ _ v (NF _ _ h) hv.d_inv).mono hF.1
 | .anyB,y,v,h,hv=>by
  cases y<;>simp only[Zz] at h<;>try exact h.elim
  exact (JP _ _ v (NF _ _ h) hv.d_inv).mono hF.1
 | .iface x c,y,v,h,hv=>by
  cases y<;>simp only[Zz] at h<;>try exact h.elim
  exact (JP _ _ v (NF _ _ h) hv.d_inv).mono hF.1
 | .eref x c,y,v,h,hv=>by
  cases y<;>simp only[Zz] at h<;>try exact h.elim
  exact (JP _ _ v (NF _ _ h) hv.d_inv).mono hF.1
 | .arr k n g,y,v,h,hv=>by
  cases y<;>simp only[Zz] at h<;>try exact h.elim
  exact (JP _ _ v (NF _ _ h) hv.d_inv).mono hF.1
 | .list k n g e,y,v,h,hv=>by
  cases y<;>simp only[Zz] at h<;>try exact h.elim
  ·exact (JP _ _ v (NF _ _ h) hv.d_inv).mono hF.1
  ·split at h
   ·rename_i k2 m get hf
    split at h
    ·rename_i hc
     simp only[Bool.and_eq_true,PT,Bool.not_eq_true'] at hc
     obtain⟨⟨rfl,rfl⟩,rfl⟩:=hc
     obtain⟨h1,h2⟩:=QG.1 h
     obtain⟨h2,h3⟩:=QG.1 h2
     exact BSR hF hf h1 h2 (λj hj=>NF _ _ (h3 j hj)) hv
    ·exact h.elim
   ·exact h.elim
 | .agg xs,y,v,h,hv=>by
  cases y<;>simp only[Zz] at h<;>try exact h.elim
  ·exact (JP _ _ v (NF _ _ h) hv.d_inv).mono hF.1
  ·cases hv with
   |agg hl hr=>
    exact .agg (by rw[hl,ABK h]) λj x z hx hz=>by
     obtain⟨y,hy,hs⟩:=ALG h hx
     exact xG hF xs j x y z hx hs (hr j y z hy hz)
 | .tup xs,y,v,h,hv=>by
  cases y<;>simp only[Zz] at h<;>try exact h.elim
  ·exact (JP _ _ v (NF _ _ h) hv.d_inv).mono hF.1
  ·cases hv with
   |tup hl hr=>
    exact .tup (by rw[hl,ABK h]) λj x z hx hz=>by
     obtain⟨y,hy,hs⟩:=ALG h hx
     exact xG hF xs j x y z hx hs (hr j y z hy hz)
theorem xG{F:Frz}(hF:AEO B B' ι F):∀(l:List DVal) (j:Nat) (x:DVal) (y:AVal) (v:Value),l[j]?=some x->JM (Zz F x y)->VRel B ι D y v->DRel B' x v
 |[],j,x,y,v,hx,_,_=>by simp at hx
 |a :: l,0,x,y,v,hx,h,hv=>by simp at hx;subst hx;exact BDA hF a y v h hv
 |a :: l,j+1,x,y,v,hx,h,hv=>xG hF l j x y v (by simpa using hx) h hv
end
def DBC:Fn->Fn->Option (List Prop)
 | .func a,.func b=>if Nat.beq a b then some [] else none
 |f,g=>some [f=g]
theorem CKE{f g:Fn}(h:JM (DBC f g)):f=g:=by
 unfold DBC at h
 split at h
 ·split at h
  ·rename_i hb;rw[Nat.eq_of_beq_eq_true hb]
  ·exact h.elim
 ·exact h
mutual
def Wa(F:Frz)(ρ:Nat->Nat)(p:Nat->Bool):AVal->AVal->Option (List Prop)
 | .any,_=>some []
 | .d x,y=>Zz F x y
 | .agg xs,.agg ys=>VI F ρ p xs ys
 | .agg xs,.d (.agg ys)=>VI F ρ p xs (ys.map .d)
 | .tup xs,.tup ys=>VI F ρ p xs ys
 | .tup xs,.d (.tup ys)=>VI F ρ p xs (ys.map .d)
 | .bptr i c,.bptr j d=>if Nat.beq j (ρ i)&&p i&&Nat.beq c d then some [] else none
 | .rptr i k e c,.rptr j k' e' c'=>if Nat.beq j (ρ i)&&p i&&Nat.beq k k'&&Nat.beq c c' then some [e=e'] else none
 | .own i k e n,.own j k' e' n'=>if Nat.beq j (ρ i)&&p i&&Nat.beq k k' then some [e=e',n=n'] else none
 | .fn f a b,.fn g c d=>V7 (DBC f g) (V7 (VI F ρ p a c) (VI F ρ p b d))
 | .mref i,.mref j=>if Nat.beq j (ρ i)&&p i then some [] else none
 | .opt g a,.opt h b=>V7 (some [g=h]) (Wa F ρ p a b)
 |_,_=>none
def VI(F:Frz)(ρ:Nat->Nat)(p:Nat->Bool):List AVal->List AVal->Option (List Prop)
 |[],[]=>some []
 |x :: xs,y :: ys=>V7 (Wa F ρ p x y) (VI F ρ p xs ys)
 |_,_=>none
end
theorem Ay{F:Frz}{ρ:Nat->Nat}{p:Nat->Bool}:∀{xs ys:List AVal},JM (VI F ρ p xs ys)->xs.length=ys.length
 |[],[],_=>rfl
 |x :: xs,y :: ys,h=>by simp only[VI] at h;simp[Ay (KV h).2]
 |[],_ :: _,h=>by simp only[VI] at h;exact h.elim
 |_ :: _,[],h=>by simp only[VI] at h;exact h.elim
theorem Fj{F:Frz}{ρ:Nat->Nat}{p:Nat->Bool}:∀{xs ys:List AVal},JM (VI F ρ p xs ys)->∀{j:Nat} {x:AVal},xs[j]?=some x->∃y,ys[j]?=some y/\JM (Wa F ρ p x y)
 |[],[],_,j,x,hx=>by simp at hx
 |a :: xs,b :: ys,h,0,x,hx=>by simp only[VI] at h;simp at hx;subst hx;exact⟨b,rfl,(KV h).1⟩
 |a :: xs,b :: ys,h,j+1,x,hx=>by
  simp only[VI] at h
  obtain⟨y,hy,hs⟩:=Fj (KV h).2 (j:=j) (by simpa using hx)
  exact⟨y,by simpa using hy,hs⟩
 |[],_ :: _,h,_,_,_=>by simp only[VI] at h;exact h.elim
 |_ :: _,[],h,_,_,_=>by simp only[VI] at h;exact h.elim
theorem DID{ys:List DVal}{v:Value}(h:DRel B (.agg ys) v):VRel B ι D (.agg (ys.map .d)) v:=by
 cases h with
 |agg hl hr=>
  refine .agg (by simp[hl]) λj x z hx hz=>?_
  rw[List.getElem?_map] at hx
  obtain⟨x',h1,rfl⟩:=Option.map_eq_some_iff.1 hx
  exact .d (hr j x' z h1 hz)
theorem DIU{ys:List DVal}{v:Value}(h:DRel B (.tup ys) v):VRel B ι D (.tup (ys.map .d)) v:=by
 cases h with
 |tup hl hr=>
  refine .tup (by simp[hl]) λj x z hx hz=>?_
  rw[List.getElem?_map] at hx
  obtain⟨x',h1,rfl⟩:=Option.map_eq_some_iff.1 hx
  exact .d (hr j x' z h1 hz)
mutual
theorem fP{F:Frz}(hF:AEO B B' ι F){ρ:Nat->Nat}{p:Nat->Bool}{D':Nat->Prop}(hp:∀i,p i=true->D' i):∀(x y:AVal) (v:Value),JM (Wa F ρ p x y)->VRel B ι D y v->VRel B' (λi=>ι (ρ i)) D' x v
 | .any,_,_,_,_=>.any
 | .d x,y,v,h,hv=>.d (BDA hF x y v (by simpa only[Wa] using h) hv)
 | .agg xs,y,v,h,hv=>by
  have fin:∀ys:List AVal,JM (VI F ρ p xs ys)->VRel B ι D (.agg ys) v->VRel B' (λi=>ι (ρ i)) D' (.agg xs) v:=λys h hv=>by
   cases hv with
   |agg hl hr=>
    exact .agg (by rw[hl,Ay h]) λj x z hx hz=>by
     obtain⟨y,hy,hs⟩:=Fj h hx
     exact Et hF hp xs j x y z hx hs (hr j y z hy hz)
  cases y<;>(try simp only[Wa] at h)<;>try exact h.elim
  ·rename_i x
   cases x<;>(try simp only[Wa] at h)<;>try exact h.elim
   exact fin _ h (DID hv.d_inv)
  ·exact fin _ h hv
 | .tup xs,y,v,h,hv=>by
  have fin:∀ys:List AVal,JM (VI F ρ p xs ys)->VRel B ι D (.tup ys) v->VRel B' (λi=>ι (ρ i)) D' (.tup xs) v:=λys h hv=>by
   cases hv with
   |tup hl hr=>
    exact .tup (by rw[hl,Ay h]) λj x z hx hz=>by
     obtain⟨y,hy,hs⟩:=Fj h hx
     exact Et hF hp xs j x y z hx hs (hr j y z hy hz)
  cases y<;>(try simp only[Wa] at h)<;>try exact h.elim
  ·rename_i x
   cases x<;>(try simp only[Wa] at h)<;>try exact h.elim
   exact fin _ h (DIU hv.d_inv)
  ·exact fin _ h hv
 | .bptr i c,y,v,h,hv=>by
  cases y<;>simp only[Wa] at h<;>try exact h.elim
  split at h
  ·rename_i hc
   simp only[Bool.and_eq_true,PT] at hc
   obtain⟨⟨rfl,h2⟩,rfl⟩:=hc
   cases hv;exact VRel.bptr (ι:=λi=>ι (ρ i)) (hp _ h2)
  ·exact h.elim
 | .rptr i k e c,y,v,h,hv=>by
  cases y<;>simp only[Wa] at h<;>try exact h.elim
  split at h
  ·rename_i hc
   simp only[Bool.and_eq_true,PT] at hc
   obtain⟨⟨⟨rfl,h2⟩,rfl⟩,rfl⟩:=hc
   have h:e=_:=h
   subst h
   cases hv;exact VRel.rptr (ι:=λi=>ι (ρ i)) (hp _ h2)
  ·exact h.elim
 | .own i k e n,y,v,h,hv=>by
  cases y<;>simp only[Wa] at h<;>try exact h.elim
  split at h
  ·rename_i hc
   simp only[Bool.and_eq_true,PT] at hc
   obtain⟨⟨rfl,h2⟩,rfl⟩:=hc
   obtain⟨h3,h4⟩:=QG.1 h
   have h4:n=_:=h4
   subst h3;subst h4
   cases hv with
   |own _ h3 h4=>exact VRel.own (ι:=λi=>ι (ρ i)) (hp _ h2) h3 h4
  ·exact h.elim
 | .fn f a b,y,v,h,hv=>by
  cases y<;>simp only[Wa] at h<;>try exact h.elim
  obtain⟨h1,h2⟩:=KV h
  obtain⟨h2,h3⟩:=KV h2
  have h1:=CKE h1
  subst h1
  cases hv with
  |fn h4 h5 h6 h7=>
   exact .fn (by rw[h4,Ay h2]) (by rw[h5,Ay h3])
    (λj x z hx hz=>by
     obtain⟨y,hy,hs⟩:=Fj h2 hx
     exact Et hF hp a j x y z hx hs (h6 j y z hy hz))
    λj x z hx hz=>by
     obtain⟨y,hy,hs⟩:=Fj h3 hx
     exact Et hF hp b j x y z hx hs (h7 j y z hy hz)
 | .mref i,y,v,h,hv=>by
  cases y<;>simp only[Wa] at h<;>try exact h.elim
  split at h
  ·rename_i hc
   simp only[Bool.and_eq_true,PT] at hc
   obtain⟨rfl,h2⟩:=hc
   cases hv;exact VRel.mref (ι:=λi=>ι (ρ i)) (hp _ h2)
  ·exact h.elim
 | .opt g a,y,v,h,hv=>by
  cases y<;>simp only[Wa] at h<;>try exact h.elim
  obtain⟨h1,h2⟩:=KV h
  have h1:g=_:=h1
  subst h1
  cases hv with
  |opt h3 h4=>exact .opt (λhg=>fP hF hp a _ v h2 (h3 hg)) h4
theorem Et{F:Frz}(hF:AEO B B' ι F){ρ:Nat->Nat}{p:Nat->Bool}{D':Nat->Prop}(hp:∀i,p i=true->D' i):∀(l:List AVal) (j:Nat) (x y:AVal) (v:Value),l[j]?=some x->JM (Wa F ρ p x y)->VRel B ι D y v->VRel B' (λi=>ι (ρ i)) D' x v
 |[],j,x,y,v,hx,_,_=>by simp at hx
 |a :: l,0,x,y,v,hx,h,hv=>by simp at hx;subst hx;exact fP hF hp a y v h hv
 |a :: l,j+1,x,y,v,hx,h,hv=>Et hF hp l j x y v (by simpa using hx) h hv
end
def jC(F:Frz)(ρ:Nat->Nat)(p:Nat->Bool):AObj->AObj->Option (List Prop)
 | .row k n g,.row k' n' g'=>if Nat.beq k k' then some [n=n',∀i,i<n->JM (Yl (g i) (g' i))] else none
 | .box es,.box es'=>VI F ρ p es es'
 | .imap q z h g s none,.imap q' z' h' g' s' none=>if q=q' then some [z=z',∀n,h n=h' n,∀n,s n=s' n,∀n,JM (Yl (g n) (g' n))] else none
 | .abox es m g,.abox es' m' g'=>if Nat.beq m m' then V7 (VI F ρ p es es') (some [∀i,i<m->g i=g' i]) else none
 | .miter m a b c none,.miter m' a' b' c' _=>if p m&&Nat.beq (ρ m) m' then some [∀n,a n=a' n,∀n,b n=b' n,∀n,c n=c' n] else none
 |_,_=>none
theorem sH{F:Frz}(hF:AEO B B' ι F){ρ:Nat->Nat}{p:Nat->Bool}{D':Nat->Prop}(hp:∀i,p i=true->D' i){q:Nat}{a b:AObj}{x:Option Obj}(h:JM (jC F ρ p a b))(hb:ORel B ι D q b x):ORel B' (λi=>ι (ρ i)) D' q a x:=by
 cases a with
 |row k n g=>
  cases b<;>simp only[jC] at h<;>try exact h.elim
  split at h
  ·rename_i hc
   obtain⟨h1,h2⟩:=QG.1 h
   have hs:osub ρ p (.row k n g) (.row _ _ _):=⟨Nat.eq_of_beq_eq_true hc,h1,λi hi=>NF _ _ (h2 i hi)⟩
   exact (U0 hp hs hb).mono hF.1 λi hi=>⟨hi,rfl⟩
  ·exact h.elim
 |box es=>
  cases b<;>simp only[jC] at h<;>try exact h.elim
  cases hb with
  |box hsz hr=>
   exact .box (by rw[hsz,Ay h]) λj x z hx hz=>by
    obtain⟨y,hy,hs⟩:=Fj h hx
    exact Et hF hp es j x y z hx hs (hr j y z hy hz)
 |imap q z hs g st pend=>
  cases pend with
  |some x=>cases b<;>simp only[jC] at h<;>exact h.elim
  |none=>
  cases b<;>try (simp only[jC] at h;exact h.elim)
  rename_i q' z' hs' g' st' pend'
  cases pend' with
  |some x=>simp only[jC] at h;exact h.elim
  |none=>
  simp only[jC] at h
  split at h
  ·rename_i hc
   obtain⟨h1,h3⟩:=QG.1 h
   obtain⟨h3,h4⟩:=QG.1 h3
   obtain⟨h4,h5⟩:=QG.1 h4
   have hs:osub ρ p (.imap q z hs g st none) (.imap _ _ _ _ _ _):=⟨hc,h1,rfl,h3,h4,λn=>NF _ _ (h5 n)⟩
   exact (U0 hp hs hb).mono hF.1 λi hi=>⟨hi,rfl⟩
  ·exact h.elim
 |abox es m g=>
  cases b<;>simp only[jC] at h<;>try exact h.elim
  split at h
  ·rename_i hc
   obtain rfl:=Nat.eq_of_beq_eq_true hc
   obtain⟨h,hg⟩:=KV h
   cases hb with
   |abox hsz hr hb=>
    exact .abox (by rw[hsz,Ay h]) (λj x z hx hz=>by
     obtain⟨y,hy,hs⟩:=Fj h hx
     exact Et hF hp es j x y z hx hs (hr j y z hy hz)) λj hj=>by rw[Ay h,show g j=_ from hg j hj];exact hb j hj
  ·exact h.elim
 |miter m a1 b1 c1 d1=>
  cases d1 with
  |some x=>cases b<;>simp only[jC] at h<;>exact h.elim
  |none=>
  cases b<;>simp only[jC] at h<;>try exact h.elim
  split at h
  ·rename_i hc
   simp only[Bool.and_eq_true] at hc
   obtain⟨h1,h3⟩:=QG.1 h
   obtain⟨h3,h4⟩:=QG.1 h3
   rename_i m' a' b' c' d' _
   have hs:osub ρ p (.miter m a1 b1 c1 none) (.miter m' a' b' c' d'):=⟨hc.1,Nat.eq_of_beq_eq_true hc.2,h1,h3,h4,.inl rfl⟩
   exact (U0 hp hs hb).mono hF.1 λi hi=>⟨hi,rfl⟩
  ·exact h.elim
def IF(H:Heap):List Nat->Heap
 |[]=>H
 |id :: r=>match H id with
  | .live (.row _ _ _)=>IF (JH H id .dead) r
  |_=>IF H r
def WM(H:Heap)(ids:List Nat):Frz:=λid=>if ids.contains id then match H id with
  | .live (.row k m get)=>some (k,m,get)
  |_=>none
 else none
theorem Ea:∀(ids:List Nat) {B:Rr} {H:Heap},HRel B ι H w->∃B',Moved B ι H w B' ι (IF H ids) w/\AEO B B' ι (WM H ids)
 |[],B,H,h=>⟨B,Moved.refl h,λ_ _ h=>h,λid k m get hf=>by simp[WM] at hf⟩
 |id :: r,B,H,h=>by
  simp only[IF]
  split
  ·rename_i k m get hid
   obtain⟨c,e,h1,h2,h3,h4,h5,h6⟩:=Moved.freeze h hid
   obtain⟨B',h7,h8⟩:=Ea r h2.heap
   refine⟨B',h2.trans h7,λb c hb=>h8.1 b c (h2.bm b c hb),λid' k' m' get' hf=>?_⟩
   by_cases he:id'=id
   ·subst he
    simp only[WM,List.contains_cons,beq_self_eq_true,Bool.true_or,if_true,hid,Option.some.injEq,Prod.mk.injEq] at hf
    obtain⟨rfl,rfl,rfl⟩:=hf
    exact⟨c,h8.1 _ _ (by simp),h3,h4,h5,λi j x y hi hx hy=>(h6 i j x y hi hx hy).mono λb c hb=>h8.1 b c (h2.bm b c hb)⟩
   ·refine h8.2 id' k' m' get' ?_
    have e1:(id'==id)=false:=by simpa using he
    simp only[WM,List.contains_cons,e1,Bool.false_or] at hf
    simp only[WM,OV _ _ he]
    exact hf
  ·rename_i hn
   obtain⟨B',h7,h8⟩:=Ea r h
   refine⟨B',h7,h8.1,λid' k' m' get' hf=>?_⟩
   by_cases he:id'=id
   ·subst he
    simp only[WM,List.contains_cons,beq_self_eq_true,Bool.true_or,if_true] at hf
    first | cases hf | (split at hf;(rename_i hq;exact (hn _ _ _ hq).elim);cases hf)
   ·refine h8.2 id' k' m' get' ?_
    have e1:(id'==id)=false:=by simpa using he
    simp only[WM,List.contains_cons,e1,Bool.false_or] at hf
    exact hf
theorem Zi:∀(ids:List Nat) {H:Heap} {i:Nat} {o:AObj},IF H ids i=.live o->H i=.live o
 |[],_,_,_,h=>h
 |id :: r,H,i,o,h=>by
  have key:∀H',(H'=H∨H'=JH H id .dead)->IF H' r i=.live o->H i=.live o:=λH' hH h=>by
   have:=Zi r h
   rcases hH with rfl | rfl
   ·exact this
   ·by_cases he:i=id
    ·subst he;rw[QH] at this;cases this
    ·rwa [OV _ _ he] at this
  simp only[IF] at h
  cases hq:H id with
  |live o'=>cases o' with
   |row=>simp only[hq] at h;exact key _ (.inr rfl) h
   |_=>simp only[hq] at h;exact key _ (.inl rfl) h
  |_=>simp only[hq] at h;exact key _ (.inl rfl) h
def BKX(F:Frz)(ρ:Nat->Nat)(p:Nat->Bool):HCell->HCell->Option (List Prop)
 | .live o,.live o'=>jC F ρ p o o'
 | .dead,.live _=>some []
 | .dead,.dead=>some []
 |_,_=>none
def CMH(F:Frz)(ρ:Nat->Nat)(p:Nat->Bool)(sl:Nat->AVal):List (Nat×AVal)->Option (List Prop)
 |[]=>some []
 |(t,v) :: r=>V7 (Wa F ρ p v (sl t)) (CMH F ρ p sl r)
def CUR(F:Frz)(ρ:Nat->Nat)(p:Nat->Bool)(H:Heap):List (Nat×HCell)->Option (List Prop)
 |[]=>some []
 |(i,c) :: r=>V7 (BKX F ρ p c (H (ρ i))) (CUR F ρ p H r)
theorem BRH{F:Frz}{ρ:Nat->Nat}{p:Nat->Bool}{sl:Nat->AVal}:∀{l:List (Nat×AVal)},JM (CMH F ρ p sl l)->∀t,JM (Wa F ρ p (QK l t) (sl t))
 |[],_,t=>by simp only[QK,Wa];trivial
 |(j,v) :: r,h,t=>by
  obtain⟨h1,h2⟩:=KV h
  simp only[QK]
  split
  ·rename_i e;subst e;exact h1
  ·exact BRH h2 t
theorem BJQ{F:Frz}{ρ:Nat->Nat}{p:Nat->Bool}{H:Heap}:∀{l:List (Nat×HCell)},JM (CUR F ρ p H l)->∀{i:Nat} {c:HCell},(i,c)∈l->JM (BKX F ρ p c (H (ρ i)))
 |[],_,i,c,h=>by cases h
 |(j,d) :: r,h,i,c,hm=>by
  obtain⟨h1,h2⟩:=KV h
  rcases List.mem_cons.1 hm with hm | hm
  ·cases hm;exact h1
  ·exact BJQ h2 hm
def Wo(E:List Nat)(fz:List Nat)(l:List (Nat×Nat))(s:ST)(σ:AState):Option (List Prop):=
 if (nodup (s.H.map λx=>SD l x.1)&&E.all λi=>Nat.beq (SD l i) i&&(Lm s.H i).isSome) then
  V7 (CMH (WM σ.H fz) (SD l) (λi=>(Lm s.H i).isSome) σ.sl s.sl) (CUR (WM σ.H fz) (SD l) (λi=>(Lm s.H i).isSome) (IF σ.H fz) s.H)
 else none
theorem Moved.subF{B0:Rr}{ι0:Nat->Pl}{H0:Heap}{w0:World}{E fz:List Nat}{l:List (Nat×Nat)}{s:ST}{sl:Nat->AVal}(hE:∀i,H0.dom i->i∈E)(h:JM (Wo E fz l s ⟨sl,H⟩))(hm0:Moved B0 ι0 H0 w0 B ι H w) :
  ∃B',Moved B0 ι0 H0 w0 B' (λi=>ι (SD l i)) (A6 s.H) w/\(∀t v,VRel B ι H.dom (sl t) v->VRel B' (λi=>ι (SD l i)) (A6 s.H).dom (QK s.sl t) v)/\(∀i o,A6 s.H i=.live o->∃o',H (SD l i)=.live o') /\
   (∀b c,B b=some c->B' b=some c)/\∀i∈E,(A6 s.H).dom i/\SD l i=i:=by
 unfold Wo at h
 split at h
 case isFalse=>exact h.elim
 rename_i h3
 obtain⟨h1,h2⟩:=KV h
 simp only[Bool.and_eq_true,List.all_eq_true,PT] at h3
 obtain⟨h3,h4⟩:=h3
 have hnd:=Eo h3
 obtain⟨B',hk,hF⟩:=Ea fz hm0.heap
 have hm:=hm0.trans hk
 have hdom:∀i,(λi=>(Lm s.H i).isSome) i=true->(A6 s.H).dom i:=λi hi=>by
  obtain⟨d,hd⟩:=Option.isSome_iff_exists.1 hi
  have:=BJQ h2 (Gl hd)
  unfold Heap.dom
  show (Lm s.H i).getD .none≠.none
  rw[hd]
  intro he
  simp at he;subst he
  simp only[BKX] at this;exact this
 have live:∀i o,A6 s.H i=.live o->(i,.live o)∈s.H/\∃o',IF H fz (SD l i)=.live o'/\JM (jC (WM H fz) (SD l) (λi=>(Lm s.H i).isSome) o o'):=λi o hi=>by
  have hg:Lm s.H i=some (.live o):=by
   have:(Lm s.H i).getD .none=.live o:=hi
   cases hq:Lm s.H i with
   |none=>rw[hq] at this;cases this
   |some d=>rw[hq] at this;simpa using this
  have hm:=Gl hg
  have:=BJQ h2 hm
  refine⟨hm,?_⟩
  cases hq:IF H fz (SD l i) with
  |live o'=>rw[hq] at this;exact⟨o',rfl,this⟩
  |none=>rw[hq] at this;simp only[BKX] at this;exact this.elim
  |dead=>rw[hq] at this;simp only[BKX] at this;exact this.elim
 refine⟨B',?_,λt v hv=>fP hF hdom _ _ _ (BRH h1 t) hv,λi o hi=>by obtain⟨_,o',ho,_⟩:=live i o hi;exact⟨o',Zi fz ho⟩,hF.1,λi hi=>⟨hdom i (h4 i hi).2,(h4 i hi).1⟩⟩
 refine⟨hm.bm,hm.bn,λi hi=>?_,⟨λi o hi=>?_,λi j o o' hi hj hij=>?_,λi o hi=>?_,hm.heap.imm⟩,λi o hi=>?_,hm.frame,hm.size,hm.calm⟩
 ·obtain⟨h5,h6⟩:=h4 i (hE i hi)
  exact⟨hdom i h6,by show ι (SD l i)=_;rw[h5];exact (hm.im i hi).2⟩
 ·obtain⟨_,o',ho,hs⟩:=live i o hi
  exact sH hF hdom hs (hm0.heap.obj _ _ (Zi fz ho))
 ·obtain⟨m1,o1,ho1,_⟩:=live i o hi
  obtain⟨m2,o2,ho2,_⟩:=live j o' hj
  exact (AXP hnd m1 m2 (hm.heap.inj _ _ _ _ ho1 ho2 hij)).1
 ·obtain⟨_,o',ho,_⟩:=live i o hi
  exact hm.heap.sep _ _ ho
 ·obtain⟨_,o',ho,_⟩:=live i o hi
  exact hm.own _ _ ho
theorem Rel.subF{c:Ctx}{E fz:List Nat}{l:List (Nat×Nat)}{s:ST}{σ:AState}{a:Act}(hE:∀i,c.H0.dom i->i∈E)(h:JM (Wo E fz l s σ))(hR:Rel c B ι σ a w):∃B',Rel c B' (λi=>ι (SD l i)) s.st a w:=by
 obtain⟨B',h1,h2,h3,_⟩:=Moved.subF hE h hR.mv
 obtain⟨Ds,d1,d0,d2,d3⟩:=hR.defers
 refine⟨B',λt=>h2 t _ (hR.slots t),hR.size,⟨Ds,d1,d0,d2,λD hD=>⟨(d3 D hD).1,(d3 D hD).2.here,λi o hi=>?_⟩⟩,h1⟩
 obtain⟨o',ho⟩:=h3 i o hi
 exact (d3 D hD).2.sep _ _ ho
theorem CodeE.subF{c:Ctx}{E fz:List Nat}{l:List (Nat×Nat)}{s:ST}{σ:AState}{code:Code}{Q:Exit->AState->Prop}(hE:∀i,c.H0.dom i->i∈E)(hs:JM (Wo E fz l s σ))(h:CodeE P c code Q s.st):CodeE P c code Q σ:=
 λ_ _ a w hR=>let ⟨B',hR'⟩:=Rel.subF hE hs hR;h B' _ a w hR'
def zN:List Prop->Prop->Prop
 |[],K=>K
 |l,K=>EL l/\K
theorem QF{l:List Prop}{K:Prop}(h:zN l K):EL l/\K:=by
 cases l with
 |nil=>exact⟨trivial,h⟩
 |cons=>exact h
def CMR:Option (List Prop)->Prop->Prop
 |some l,K=>zN l K
 |none,_=>False
theorem BAQ{l:Option (List Prop)}{K:Prop}(h:CMR l K):JM l/\K:=by
 cases l with
 |none=>exact h.elim
 |some l=>exact QF h
end Go.Sym

namespace Go.Sym
theorem ZM{a b:List Prop}:EL (a ++ b)↔EL a/\EL b:=by
 induction a with
 |nil=>simp[EL]
 |cons p a ih=>rw[List.cons_append,QG,QG,ih,and_assoc]
variable {P : Program} {B B' : Rr} {ι ι' : Nat -> Pl} {H H' : Heap} {D : Nat -> Prop} {w w' : World}
def CEB(o:Oper)(t:Nat):Bool:=match o.dst with
 |some d=>Nat.beq d t
 |none=>false
theorem CKZ{o:Oper}{t:Nat}(h:CEB o t=true):o.dst=some t:=by
 unfold CEB at h
 split at h
 ·rename_i d hd;rw[hd,Nat.eq_of_beq_eq_true h]
 ·cases h
def Tq:List Oper->Bool
 |[]=>true
 |o :: l=>(match o.dst with
  |some d=>l.all λo'=>!CEB o' d
  |none=>true)&&Tq l
theorem AFU{l:List Oper}(h:Tq l=true){i k:Nat}{o o':Oper}{t:Nat}(hik:i<k)(ho:l[i]?=some o)(ho':l[k]?=some o')(ht:o.dst=some t):o'.dst≠some t:=by
 induction l generalizing i k with
 |nil=>simp at ho
 |cons a l ih=>
  simp only[Tq,Bool.and_eq_true] at h
  cases k with
  |zero=>omega
  |succ k=>
   rw[List.getElem?_cons_succ] at ho'
   cases i with
   |zero=>
    rw[List.getElem?_cons_zero] at ho
    cases ho
    have h1:=h.1
    rw[ht] at h1
    simp only[List.all_eq_true] at h1
    have:=h1 o' (List.mem_of_getElem? ho')
    intro he
    simp[CEB,he] at this
   |succ i=>exact ih h.2 (i:=i) (k:=k) (by omega) (by rw[List.getElem?_cons_succ] at ho;exact ho) ho'
def lowL:List Oper->Nat->Bool
 |[],_=>true
 |o :: l,k=>(match o.guard with
  |some q=>Nat.blt q.1 k
  |none=>true)&&lowL l (k+1)
theorem AMV:∀{l:List Oper} {k:Nat},lowL l k=true->∀{i:Nat} {o:Oper} {q:Nat×Bool},l[i]?=some o->o.guard=some q->q.1<k+i
 |[],_,_,i,o,q,h,_=>by simp at h
 |a :: l,k,h,0,o,q,ho,hq=>by
  simp only[lowL,Bool.and_eq_true] at h
  simp at ho;subst ho
  have h1:=h.1
  rw[hq] at h1
  simpa using h1
 |a :: l,k,h,i+1,o,q,ho,hq=>by
  simp only[lowL,Bool.and_eq_true] at h
  have:=AMV h.2 (i:=i) (by simpa using ho) hq
  omega
def wg:List Oper->Nat->Nat->Option (Nat×Bool)
 |[],_,_=>none
 |_ :: _,0,_=>none
 |o :: l,k+1,t=>if CEB o t then o.guard else wg l k t
theorem COS:∀{l:List Oper} {k t:Nat} {q:Nat×Bool},wg l k t=some q->∃i o,i<k/\l[i]?=some o/\o.dst=some t/\o.guard=some q
 |[],k,t,q,h=>by simp[wg] at h
 |o :: l,0,t,q,h=>by simp[wg] at h
 |o :: l,k+1,t,q,h=>by
  simp only[wg] at h
  split at h
  ·rename_i hd;exact⟨0,o,by omega,rfl,CKZ hd,h⟩
  ·obtain⟨i,o',h1,h2,h3⟩:=COS h
   exact⟨i+1,o',by omega,by simpa using h2,h3⟩
def gcov(ops:Array Oper):Nat->Nat×Bool->Nat×Bool->Bool
 |0,_,_=>false
 |f+1,q,q'=>(Nat.beq q.1 q'.1&&(q.2==q'.2))||match (ops[q.1]?).bind (·.guard) with
  |some q2=>gcov ops f q2 q'
  |none=>false
def GInv(ops:Array Oper)(sl:Nat->AVal)(k:Nat):Prop:=
 ∀i o t q,i<k->ops[i]?=some o->o.dst=some t->o.guard=some q->∃g v,sl t=.opt g v/\JX ops sl q.1 q.2=some g
theorem CIX{ops:Array Oper}{sl:Nat->AVal}{j:Nat}{want g gd:Bool}{t:Nat}{v:AVal}(ht:(ops[j]?).bind (·.dst)=some t)(hs:sl t=.opt gd v)(h:JX ops sl j want=some g)(hg:g=true):gd=true:=by
 unfold JX at h
 rw[ht] at h
 simp only[hs] at h
 split at h<;>simp_all
theorem CJO{ops:Array Oper}{sl:Nat->AVal}{j:Nat}{want g:Bool}(h:JX ops sl j want=some g):∃o t,ops[j]?=some o/\o.dst=some t:=by
 unfold JX at h
 split at h
 ·rename_i t ht
  cases hj:ops[j]? with
  |none=>rw[hj] at ht;cases ht
  |some o=>rw[hj] at ht;exact⟨o,t,rfl,ht⟩
 ·cases h
theorem BWC{ops:Array Oper}{sl:Nat->AVal}{k:Nat}(hI:GInv ops sl k)(hl:lowL ops.toList 0=true):∀(f:Nat) (q q':Nat×Bool) (g g':Bool),gcov ops f q q'=true->q.1<k->JX ops sl q.1 q.2=some g->g=true->JX ops sl q'.1 q'.2=some g'->g'=true
 |0,_,_,_,_,h,_,_,_,_=>by simp[gcov] at h
 |f+1,q,q',g,g',h,hq,h1,hg,h2=>by
  simp only[gcov,Bool.or_eq_true,Bool.and_eq_true,PT,beq_iff_eq] at h
  rcases h with⟨e1,e2⟩ | h
  ·rw[<-e1,<-e2,h1] at h2;cases h2;exact hg
  ·split at h
   ·rename_i q2 hq2
    obtain⟨o,t,ho,ht⟩:=CJO h1
    have hgq:o.guard=some q2:=by rw[ho] at hq2;exact hq2
    obtain⟨gd,v,hs,hgd⟩:=hI q.1 o t q2 hq ho ht hgq
    have:=CIX (by rw[ho];exact ht) hs h1 hg
    have hlow:=AMV hl (i:=q.1) (by simpa using ho) hgq
    exact BWC hI hl f q2 q' gd g' h (by omega) hgd this h2
   ·cases h
def tagW(cv:Nat×Bool->Bool)(ops:Array Oper)(k:Nat)(c:Prop)(x:Operand)(a:AVal):List Prop:=match a with
 | .opt g _=>match x with
  | .tmp t=>match wg ops.toList k t with
   |some q=>if cv q then [] else [c->g=true]
   |none=>[c->g=true]
  |_=>[c->g=true]
 |_=>[]
theorem ALL{cv:Nat×Bool->Bool}{ops:Array Oper}{sl:Nat->AVal}{k:Nat}{c:Prop}{x:Operand}(hI:GInv ops sl k)(hcv:∀q g,cv q=true->JX ops sl q.1 q.2=some g->c->g=true)(h:EL (tagW cv ops k c x (BM sl x))):EL (Zn c (BM sl x)):=by
 generalize ha:BM sl x=a at h
 cases a with
 |opt g v=>
  simp only[tagW] at h
  split at h
  ·rename_i t
   split at h
   ·rename_i q hq
    split at h
    ·rename_i hc
     obtain⟨i,o,h1,h2,h3,h4⟩:=COS hq
     obtain⟨g',v',h5,h6⟩:=hI i o t q h1 (by simpa using h2) h3 h4
     have:sl t=.opt g v:=ha
     rw[h5] at this;cases this
     exact λc=>hcv q _ hc h6 c
    ·exact h
   ·exact h
  ·exact h
 |_=>trivial
def cvOwn(ops:Array Oper)(k:Nat)(gd:Option (Nat×Bool))(q:Nat×Bool):Bool:=match gd with
 |some g=>gcov ops (k+1) g q
 |none=>false
def CBG(ops:Array Oper)(k:Nat)(gd:Option (Nat×Bool))(c:Operand)(want:Bool)(q:Nat×Bool):Bool:=
 (match c,(ops[q.1]?).bind (·.dst) with
  | .tmp tc,some t=>Nat.beq t tc&&(q.2==want)
  |_,_=>false)||cvOwn ops k gd q
def CPC(ops:Array Oper)(k:Nat)(sl:Nat->AVal)(o:Oper):List Prop:=match o.op,o.guard with
 | .pick c a b,gd=>match EK (BM sl c) with
  | .d (.v (.bool t))=>tagW (cvOwn ops k gd) ops k True c (BM sl c) ++ (tagW (CBG ops k gd c true) ops k (t=true) a (BM sl a) ++ tagW (CBG ops k gd c false) ops k (t=false) b (BM sl b))
  |_=>[]
 |_,none=>[]
 |op,some q=>op.operands.toList.flatMap λx=>tagW (cvOwn ops k (some q)) ops k True x (BM sl x)
def yD(sl:Nat->AVal)(o:Oper):List Prop:=match o.op,o.guard with
 | .pick c a b,_=>match EK (BM sl c) with
  | .d (.v (.bool t))=>Zn True (BM sl c) ++ (Zn (t=true) (BM sl a) ++ Zn (t=false) (BM sl b))
  |_=>[]
 |_,none=>[]
 |op,some _=>Jf (BM sl) op.operands.toList
theorem BLH{ops:Array Oper}{sl:Nat->AVal}{k:Nat}{gd:Option (Nat×Bool)}{c:Operand}{want t:Bool}(hO:∀q g,cvOwn ops k gd q=true->JX ops sl q.1 q.2=some g->g=true)(hc:EK (BM sl c)=.d (.v (.bool t)))(ht:EL (Zn True (BM sl c)))(q:Nat×Bool)(g:Bool)
  (h:CBG ops k gd c want q=true) (hg:JX ops sl q.1 q.2=some g) (hw:t=want):g=true:=by
 simp only[CBG,Bool.or_eq_true] at h
 rcases h with h | h
 ·split at h
  ·rename_i tc t' hd
   simp only[Bool.and_eq_true,PT,beq_iff_eq] at h
   obtain⟨rfl,h2⟩:=h
   unfold JX at hg
   rw[hd] at hg
   simp only[BM] at hc ht
   subst hw
   rw[h2] at hg
   obtain⟨v,hv⟩:∃v,sl t'=v:=⟨_,rfl⟩
   simp only[hv] at hc ht hg
   cases v with
   |opt gc v'=>
    have:gc=true:=ht trivial
    subst this
    simp only[EK] at hc;subst hc
    cases t<;>simp at hg<;>exact hg
   |d x=>simp only[EK] at hc;cases hc;cases t<;>simp at hg<;>exact hg
   |_=>simp only[EK] at hc;cases hc
  ·cases h
 ·exact hO q g h hg
theorem CLR{ops:Array Oper}{sl:Nat->AVal}{k:Nat}{o:Oper}(hI:GInv ops sl k)(hl:lowL ops.toList 0=true)(ho:ops[k]?=some o)(hgd:∀q,o.guard=some q->JX ops sl q.1 q.2=some true)(h:EL (CPC ops k sl o)):EL (yD sl o):=by
 have hO:∀q g,cvOwn ops k o.guard q=true->JX ops sl q.1 q.2=some g->g=true:=λq g hc hg=>by
  unfold cvOwn at hc
  split at hc
  ·rename_i q0 hq0
   have:=AMV hl (i:=k) (by simpa using ho) hq0
   exact BWC hI hl _ q0 q true g hc (by omega) (hgd q0 hq0) rfl hg
  ·cases hc
 unfold CPC at h
 unfold yD
 split at h
 ·rename_i c a b ho'
  split at h
  ·rename_i t hc
   obtain⟨h1,h2⟩:=BW h
   obtain⟨h2,h3⟩:=BW h2
   have t1:=ALL hI (λq g a b _=>hO q g a b) h1
   exact ZM.2 ⟨t1,ZM.2 ⟨ALL hI (λq g a b c=>BLH hO hc t1 q g a b c) h2,ALL hI (λq g a b c=>BLH hO hc t1 q g a b c) h3⟩⟩
  ·trivial
 ·trivial
 ·rename_i q hgn hq
  rw[hgn] at hO
  generalize o.op.operands.toList=l at h
  induction l with
  |nil=>trivial
  |cons x l ih=>
   rw[List.flatMap_cons] at h
   obtain⟨h1,h2⟩:=BW h
   show EL (Zn True (BM sl x) ++ Jf (BM sl) l)
   exact ZM.2 ⟨ALL hI (λq g a b _=>hO q g a b) h1,ih h2⟩
theorem GInv.next{ops:Array Oper}{sl:Nat->AVal}{k:Nat}{o:Oper}{v:AVal}(hI:GInv ops sl k)(hl:lowL ops.toList 0=true)(hd:Tq ops.toList=true)(ho:ops[k]?=some o)(hv:∀q,o.guard=some q->∃g v',v=.opt g v'/\JX ops sl q.1 q.2=some g)(sl':Nat->AVal)
  (hsl:∀t,sl' t=if o.dst=some t then v else sl t):GInv ops sl' (k+1):=by
 have hk:∀j want,j<k->JX ops sl' j want=JX ops sl j want:=λj want hj=>by
  unfold JX
  cases hjo:ops[j]? with
  |none=>rfl
  |some oj=>
   simp only[Option.bind_some]
   cases hdj:oj.dst with
   |none=>rfl
   |some t=>
    simp only
    rw[hsl t,if_neg (AFU hd hj (by simpa using hjo) (by simpa using ho) hdj)]
 intro i o' t q hi ho' ht hq
 have hlow:=AMV hl (i:=i) (by simpa using ho') hq
 rcases Nat.lt_or_ge i k with hik | hik
 ·obtain⟨g,v',h1,h2⟩:=hI i o' t q hik ho' ht hq
  refine⟨g,v',?_,by rw[hk _ _ (by omega)];exact h2⟩
  rw[hsl t,if_neg (AFU hd hik (by simpa using ho') (by simpa using ho) ht)]
  exact h1
 ·have:i=k:=by omega
  subst this
  rw[ho] at ho';cases ho'
  obtain⟨g,v',h1,h2⟩:=hv q hq
  exact⟨g,v',by rw[hsl t,if_pos ht];exact h1,by rw[hk _ _ (by omega)];exact h2⟩
end Go.Sym
