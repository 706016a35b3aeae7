/- Package rating: what knots prove (no program in sight). -/
import Derived.Test.YtoihhodbkimedaaGreatRT5
import Derived.Test.YtoihhodbkimedaaGreatRatU
import Derived.Test.YtoihhodbkimedaaGreatRFl2
set_option linter.unusedVariables false
set_option linter.unusedSimpArgs false
namespace Go.Bal
open Go Go.Sym Go.Proofs
def fsS(s:List Gau):Int:=(gD s 0).st
def laS(s:List Gau):Int:=(gD s (s.length-1)).st
structure SetOk(g s:List Gau):Prop where
 sub:∀x∈s,x∈g
 len:2<=s.length/\s.length<=3
 rise:∀x∈s,fsS s<=x.st/\x.st<=laS s
 lt:fsS s<laS s
theorem BWC{a b:Int}:decide (Oz a b<0)=decide (a<b):=by
 by_cases h:a<b
 ·rw[decide_eq_true h,decide_eq_true (BWG.2 h)]
 ·rw[decide_eq_false h,decide_eq_false λhc=>h (BWG.1 hc)]
theorem BNB(x y:Gau):nmB [x,y]=true↔x.st<y.st:=by
 show (bif (bif decide (Oz y.st x.st<0) then false else true) then decide (x.st<y.st) else false)=true↔_
 rw[BWC]
 by_cases h:y.st<x.st
 ·simp[h];omega
 ·simp[h]
theorem BPO(x y z:Gau):nmB [x,y,z]=true↔x.st<=y.st/\y.st<=z.st/\x.st<z.st:=by
 show (bif (bif decide (Oz z.st y.st<0) then false else bif decide (Oz y.st x.st<0) then false else true) then decide (x.st<z.st) else false)=true↔_
 rw[BWC,BWC]
 by_cases h:z.st<y.st
 ·simp[h];omega
 ·by_cases h2:y.st<x.st
  ·simp[h,h2];omega
  ·simp[h,h2];omega
theorem BUH{a:GK}(h:(Gr a).2=true):Sp a=true/\nmB (By a)=true/\Gr a=(By a,true):=by
 unfold Gr at h ⊢
 cases hc:Sp a with
 |false=>rw[hc] at h;cases h
 |true=>rw[hc] at h;have h:nmB (By a)=true:=h;exact⟨rfl,h,by rw[h];rfl⟩
theorem BGR{a:GK}(hl:a.g.length<1073741824)(h:(Gr a).2=true):Gr a=(By a,true)/\SetOk a.g (By a):=by
 obtain⟨hok,hB,he⟩:=BUH h
 obtain⟨h1,h2,h3⟩:=cZ hl hok
 refine⟨he,?_⟩
 have sub:∀x∈By a,x∈a.g:=λx hx=>by
  obtain⟨i,hi,rfl⟩:=List.mem_map.1 hx
  have:=h3 i hi
  exact CV (by omega)
 obtain⟨g,k⟩:=a
 rcases k with _ | ⟨p,_ | ⟨q,_ | ⟨r,_ | ⟨t,l⟩⟩⟩⟩
 ·simp at h1
 ·simp at h1
 ·have hB:(gD g p.toNat).st<(gD g q.toNat).st:=(BNB _ _).1 hB
  refine⟨sub,⟨Nat.le_refl _,by show 2<=3;omega⟩,λx hx=>?_,hB⟩
  show (gD g p.toNat).st<=x.st/\x.st<=(gD g q.toNat).st
  rcases List.mem_cons.1 hx with rfl | hx
  ·show (gD g p.toNat).st<=(gD g p.toNat).st/\(gD g p.toNat).st<=(gD g q.toNat).st;omega
  ·rw[List.mem_singleton.1 hx];show (gD g p.toNat).st<=(gD g q.toNat).st/\(gD g q.toNat).st<=(gD g q.toNat).st;omega
 ·obtain⟨b1,b2,b3⟩:(gD g p.toNat).st<=(gD g q.toNat).st/\(gD g q.toNat).st<=(gD g r.toNat).st/\(gD g p.toNat).st<(gD g r.toNat).st:=(BPO _ _ _).1 hB
  refine⟨sub,⟨by show 2<=3;omega,Nat.le_refl _⟩,λx hx=>?_,b3⟩
  show (gD g p.toNat).st<=x.st/\x.st<=(gD g r.toNat).st
  rcases List.mem_cons.1 hx with rfl | hx
  ·show (gD g p.toNat).st<=(gD g p.toNat).st/\(gD g p.toNat).st<=(gD g r.toNat).st;omega
  ·rcases List.mem_cons.1 hx with rfl | hx
   ·show (gD g p.toNat).st<=(gD g q.toNat).st/\(gD g q.toNat).st<=(gD g r.toNat).st;omega
   ·rw[List.mem_singleton.1 hx];show (gD g p.toNat).st<=(gD g r.toNat).st/\(gD g r.toNat).st<=(gD g r.toNat).st;omega
 ·simp at h2
theorem CRI{g:List Gau}(hl:g.length<1073741824){x y:Int}(hx:0<=x/\x<g.length)(hy:0<=y/\y<g.length)(h:(gD g x.toNat).st<(gD g y.toNat).st):(Gr ⟨g,[x,y]⟩).2=true:=by
 have e:wr ((g.length:Int)-1)=(g.length:Int)-1:=JH (by omega) (by omega)
 have hok:Sp ⟨g,[x,y]⟩=true:=by
  unfold Sp
  simp only[e,List.all_cons,List.all_nil,Bool.and_true]
  rw[show QY x 0 ((g.length:Int)-1)=true by unfold QY;simp;omega,show QY y 0 ((g.length:Int)-1)=true by unfold QY;simp;omega]
  rfl
 unfold Gr
 rw[hok]
 exact (BNB _ _).2 h
theorem CNT{g:List Gau}(hl:g.length<1073741824){x y z:Int}(hx:0<=x/\x<g.length)(hy:0<=y/\y<g.length)(hz:0<=z/\z<g.length)(h1:(gD g x.toNat).st<=(gD g y.toNat).st)(h2:(gD g y.toNat).st<=(gD g z.toNat).st)(h3:(gD g x.toNat).st<(gD g z.toNat).st):(Gr ⟨g,[x,y,z]⟩).2=true:=by
 have e:wr ((g.length:Int)-1)=(g.length:Int)-1:=JH (by omega) (by omega)
 have hok:Sp ⟨g,[x,y,z]⟩=true:=by
  unfold Sp
  simp only[e,List.all_cons,List.all_nil,Bool.and_true]
  rw[show QY x 0 ((g.length:Int)-1)=true by unfold QY;simp;omega,show QY y 0 ((g.length:Int)-1)=true by unfold QY;simp;omega,show QY z 0 ((g.length:Int)-1)=true by unfold QY;simp;omega]
  rfl
 unfold Gr
 rw[hok]
 exact (BPO _ _ _).2 ⟨h1,h2,h3⟩
theorem iW{a:GK}(hl:a.g.length<1073741824)(ho:∀x∈a.g,RK x):QZ a=true↔(Gr a).2=true/\¬Can (By a):=by
 unfold QZ
 cases h:(Gr a).2 with
 |false=>exact⟨λh=>(by cases h),λh=>(by cases h.1)⟩
 |true=>
  obtain⟨e,hs⟩:=BGR hl h
  rw[e]
  have hL:=(bY (s:=By a) λx hx=>ho x (hs.sub x hx)).1
  cases hq:(DC (By a)).2 with
  |true=>exact⟨λh=>(by cases h),λh=>absurd (hL.1 hq) h.2⟩
  |false=>exact⟨λ_=>⟨rfl,λhc=>by rw[hL.2 hc] at hq;cases hq⟩,λ_=>rfl⟩
theorem ATE{g:List Gau}{a b:Int}:∀(cs z:List Int),knt3 g a b cs=some z->QZ ⟨g,z⟩=true/\∀x∈z,x=a∨x=b∨x∈cs
 |[],z,h=>by cases h
 |c :: cs,z,h=>by
  rw[BJW] at h
  cases hc:QZ ⟨g,[a,b,c]⟩ with
  |true=>rw[hc] at h;cases h;exact⟨hc,λx hx=>by simp at hx ⊢;rcases hx with h | h | h<;>simp[h]⟩
  |false=>
   rw[hc] at h
   obtain⟨h1,h2⟩:=ATE cs z h
   exact⟨h1,λx hx=>by rcases h2 x hx with h | h | h<;>simp[h]⟩
theorem BFH{x y:Option (List Int)}{z:List Int}(h:orO x y=some z):x=some z∨y=some z:=by
 cases x with
 |none=>exact .inr h
 |some w=>exact .inl h
theorem BDE{x y:Option (List Int)}(h:orO x y=none):x=none/\y=none:=by
 cases x with
 |none=>exact⟨rfl,h⟩
 |some w=>cases h
theorem AUS{g:List Gau}{a:Int}:∀(cs z:List Int),knt2 g a cs=some z->QZ ⟨g,z⟩=true/\∀x∈z,x=a∨x∈cs
 |[],z,h=>by cases h
 |b :: cs,z,h=>by
  rw[BFM] at h
  cases hc:QZ ⟨g,[a,b]⟩ with
  |true=>rw[hc] at h;cases h;exact⟨hc,λx hx=>by simp at hx ⊢;rcases hx with h | h<;>simp[h]⟩
  |false=>
   rw[hc] at h
   rcases BFH h with h | h
   ·obtain⟨h1,h2⟩:=ATE cs z h
    exact⟨h1,λx hx=>by rcases h2 x hx with h | h | h<;>simp[h]⟩
   ·obtain⟨h1,h2⟩:=AUS cs z h
    exact⟨h1,λx hx=>by rcases h2 x hx with h | h<;>simp[h]⟩
theorem AUV{g:List Gau}:∀(k z:List Int),iX g k=some z->QZ ⟨g,z⟩=true/\∀x∈z,x∈k
 |[],z,h=>by cases h
 |a :: bs,z,h=>by
  rw[BFX] at h
  rcases BFH h with h | h
  ·obtain⟨h1,h2⟩:=AUS bs z h
   exact⟨h1,λx hx=>by rcases h2 x hx with h | h<;>simp[h]⟩
  ·obtain⟨h1,h2⟩:=AUV bs z h
   exact⟨h1,λx hx=>List.mem_cons_of_mem _ (h2 x hx)⟩
theorem AVC{g:List Gau}{a b:Int}:∀(cs:List Int),knt3 g a b cs=none->∀i,i<cs.length->QZ ⟨g,[a,b,gD cs i]⟩=false
 |[],h,i,hi=>by simp at hi
 |c :: cs,h,i,hi=>by
  rw[BJW] at h
  cases hc:QZ ⟨g,[a,b,c]⟩ with
  |true=>rw[hc] at h;cases h
  |false=>
   rw[hc] at h
   cases i with
   |zero=>exact hc
   |succ i=>exact AVC cs h i (by simpa using hi)
theorem AUJ{g:List Gau}{a:Int}:∀(cs:List Int),knt2 g a cs=none->∀i,i<cs.length->QZ ⟨g,[a,gD cs i]⟩=false/\∀j,i<j->j<cs.length->QZ ⟨g,[a,gD cs i,gD cs j]⟩=false
 |[],h,i,hi=>by simp at hi
 |b :: cs,h,i,hi=>by
  rw[BFM] at h
  cases hc:QZ ⟨g,[a,b]⟩ with
  |true=>rw[hc] at h;cases h
  |false=>
   rw[hc] at h
   obtain⟨h1,h2⟩:=BDE h
   cases i with
   |zero=>
    refine⟨hc,λj hj hl=>?_⟩
    cases j with
    |zero=>omega
    |succ j=>exact AVC cs h1 j (by simpa using hl)
   |succ i=>
    obtain⟨h3,h4⟩:=AUJ cs h2 i (by simpa using hi)
    refine⟨h3,λj hj hl=>?_⟩
    cases j with
    |zero=>omega
    |succ j=>exact h4 j (by omega) (by simpa using hl)
theorem ATM{g:List Gau}:∀(k:List Int),iX g k=none->∀i j,i<j->j<k.length->QZ ⟨g,[gD k i,gD k j]⟩=false/\∀m,j<m->m<k.length->QZ ⟨g,[gD k i,gD k j,gD k m]⟩=false
 |[],h,i,j,_,hi=>by simp at hi
 |a :: bs,h,i,j,hij,hj=>by
  rw[BFX] at h
  obtain⟨h1,h2⟩:=BDE h
  obtain⟨j,rfl⟩:∃q,j=q+1:=⟨j-1,by omega⟩
  cases i with
  |zero=>
   obtain⟨h3,h4⟩:=AUJ bs h1 j (by simpa using hj)
   refine⟨h3,λm hm hl=>?_⟩
   obtain⟨m,rfl⟩:∃q,m=q+1:=⟨m-1,by omega⟩
   exact h4 m (by omega) (by simpa using hl)
  |succ i=>
   obtain⟨h3,h4⟩:=ATM bs h2 i j (by omega) (by simpa using hj)
   refine⟨h3,λm hm hl=>?_⟩
   obtain⟨m,rfl⟩:∃q,m=q+1:=⟨m-1,by omega⟩
   exact h4 m (by omega) (by simpa using hl)
theorem ADP{o:List Int}{m n p:Nat}(hn:n<=o.length)(h1:m<=p)(h2:p<n):gD ((o.take n).drop m) (p-m)=gD o p:=by
 rw[Wb,show m+(p-m)=p by omega]
 simp[gD,List.getD_eq_getElem?_getD,List.getElem?_take,h2]
theorem CHI{o:List Int}{m n:Nat}(hn:n<=o.length){x:Int}(h:x∈(o.take n).drop m):∃p,m<=p/\p<n/\gD o p=x:=by
 obtain⟨i,hi,rfl⟩:=NL h
 rw[List.length_drop,List.length_take] at hi
 refine⟨m+i,by omega,by omega,?_⟩
 have:=ADP (o:=o) (m:=m) (n:=n) (p:=m+i) hn (by omega) (by omega)
 rw[show m+i-m=i by omega] at this;exact this.symm
theorem BXK{g:List Gau}(hc:AV g=0)(h1:∀x∈g,Can (g.filter λy=>y.st==x.st)){m n:Nat}(hn:n<=g.length)(h:iX g (((AU g).take n).drop m)=none):Can (T4 g (AU g) m n):=by
 obtain⟨⟨hl1,hl2⟩,ho⟩:=NV hc
 have hN:=ATM _ h
 have hol:(AU g).length=g.length:=CD g
 have hlen:(((AU g).take n).drop m).length=n-m:=by rw[List.length_drop,List.length_take];omega
 have pair:∀i k,m<=i->i<k->k<n->iG g i<iG g k->Can [Ke g i,Ke g k]:=λi k a1 a2 a3 hs=>by
  have:=(hN (i-m) (k-m) (by omega) (by omega)).1
  rw[ADP (by omega) a1 (by omega),ADP (by omega) (by omega) a3] at this
  refine Classical.byContradiction λhcn=>?_
  have ht:=(iW (a:=⟨g,[gD (AU g) i,gD (AU g) k]⟩) (show g.length<1073741824 by omega) ho).2 ⟨CRI (by omega) (Tx (by omega)) (Tx (by omega)) hs,hcn⟩
  rw[this] at ht;cases ht
 have core:∀i j k,m<=i->i<=j->j<=k->k<n->Can [Ke g i,Ke g j,Ke g k]:=λi j k a1 a2 a3 a4=>by
  have s1:iG g i<=iG g j:=Gs a2 (by omega)
  have s2:iG g j<=iG g k:=Gs a3 (by omega)
  by_cases hs:iG g i=iG g k
  ·refine (h1 _ (Hj (g:=g) (i:=i) (by omega))).mono λx hx=>?_
   have q:∀p,p<n->iG g p=iG g i->Ke g p∈g.filter λy=>y.st==(Ke g i).st:=λp hp he=>List.mem_filter.2 ⟨Hj (by omega),beq_iff_eq.2 he⟩
   simp only[List.mem_cons,List.not_mem_nil,or_false] at hx
   rcases hx with rfl | rfl | rfl
   ·exact q i (by omega) rfl
   ·exact q j (by omega) (by omega)
   ·exact q k (by omega) (by omega)
  ·by_cases e1:i=j
   ·subst e1
    exact (pair i k a1 (by have:i≠k:=λe=>hs (by rw[e]);omega) a4 (by omega)).mono λx hx=>by simp at hx ⊢;rcases hx with h | h<;>simp[h]
   ·by_cases e2:j=k
    ·subst e2
     exact (pair i j a1 (by omega) a4 (by omega)).mono λx hx=>by simp at hx ⊢;rcases hx with h | h<;>simp[h]
    ·have:=(hN (i-m) (j-m) (by omega) (by omega)).2 (k-m) (by omega) (by omega)
     rw[ADP (by omega) a1 (by omega),ADP (by omega) (by omega) (by omega),ADP (by omega) (by omega) a4] at this
     refine Classical.byContradiction λhcn=>?_
     have ht:=(iW (a:=⟨g,[gD (AU g) i,gD (AU g) j,gD (AU g) k]⟩) (show g.length<1073741824 by omega) ho).2 ⟨CNT (by omega) (Tx (by omega)) (Tx (by omega)) (Tx (by omega)) s1 s2 (show iG g i<iG g k by omega),hcn⟩
     rw[this] at ht;cases ht
 refine CSL (APY ho hn) λa b c ha hb hc=>?_
 obtain⟨i,i1,i2,rfl⟩:=(sJ hn).1 ha
 obtain⟨j,j1,j2,rfl⟩:=(sJ hn).1 hb
 obtain⟨k,k1,k2,rfl⟩:=(sJ hn).1 hc
 have fin:∀{p q r:Nat},Can [Ke g p,Ke g q,Ke g r]->(∀x∈[Ke g i,Ke g j,Ke g k],x∈[Ke g p,Ke g q,Ke g r])->Can [Ke g i,Ke g j,Ke g k]:=λh hs=>h.mono hs
 rcases Nat.le_total i j with h1 | h1<;>rcases Nat.le_total j k with h2 | h2<;>rcases Nat.le_total i k with h3 | h3
 ·exact core i j k i1 h1 h2 k2
 ·exact core i j k i1 h1 h2 k2
 ·exact fin (core i k j i1 h3 h2 j2) λx hx=>by simp at hx ⊢;rcases hx with h | h | h<;>simp[h]
 ·exact fin (core k i j k1 h3 h1 j2) λx hx=>by simp at hx ⊢;rcases hx with h | h | h<;>simp[h]
 ·exact fin (core j i k j1 h1 h3 k2) λx hx=>by simp at hx ⊢;rcases hx with h | h | h<;>simp[h]
 ·exact fin (core j k i j1 h2 h3 i2) λx hx=>by simp at hx ⊢;rcases hx with h | h | h<;>simp[h]
 ·exact fin (core k j i k1 h2 h1 i2) λx hx=>by simp at hx ⊢;rcases hx with h | h | h<;>simp[h]
 ·exact fin (core k j i k1 h2 h1 i2) λx hx=>by simp at hx ⊢;rcases hx with h | h | h<;>simp[h]
structure KnotAt(g:List Gau)(b:List Int)(z:List Int)(i:Nat):Prop where
 tied:QZ ⟨g,z⟩=true
 nm:(Gr ⟨g,z⟩).2=true
 set:SetOk g (By ⟨g,z⟩)
 no:¬Can (By ⟨g,z⟩)
 lo:i≠0->gD b (i-1)<=fsS (By ⟨g,z⟩)
 hi:laS (By ⟨g,z⟩)<=gD b i
theorem Few.knot{g:List Gau}{b:List Int}{l:List Ln}{k:List (List Int)}(W:Few g b l k)(hc:AV g=0){i:Nat}(hi:i<b.length):KnotAt g b (gD k i) i:=by
 obtain⟨⟨hl1,hl2⟩,ho⟩:=NV hc
 obtain⟨P,hp⟩:=W.parts
 obtain⟨a1,a2,a3,a4⟩:=hp.up i hi
 obtain⟨n1,n2⟩:=ACI a2
 obtain⟨b1,b2⟩:=BNO a2
 have hol:(AU g).length=g.length:=CD g
 have e:=hp.knot i hi
 cases hk:iX g (((AU g).take (Mp g (AU g) (gD P (i+1)))).drop (gD P i)) with
 |none=>exact absurd (BXK hc W.one n2 hk) (hp.bad i hi)
 |some z=>
  have ez:gD k i=z:=by rw[e];unfold Vz;rw[hk];rfl
  rw[ez]
  obtain⟨h1,h2⟩:=AUV _ _ hk
  obtain⟨t1,t2⟩:=(iW (a:=⟨g,z⟩) (show g.length<1073741824 by omega) ho).1 h1
  obtain⟨s1,s2⟩:=BGR (a:=⟨g,z⟩) (show g.length<1073741824 by omega) t1
  have hin:∀x∈By ⟨g,z⟩,(i≠0->gD b (i-1)<=x.st)/\x.st<=gD b i:=λx hx=>by
   obtain⟨y,hy,rfl⟩:=List.mem_map.1 hx
   obtain⟨p,p1,p2,rfl⟩:=CHI (by omega) (h2 y hy)
   refine⟨λh0=>?_,?_⟩
   ·have e2:=(hp.up (i-1) (by omega)).2.2.2
    rw[show i-1+1=i by omega] at e2
    rw[e2]
    exact Gs p1 (by omega)
   ·show iG g p<=_
    rw[a4]
    by_cases hj:p<=gD P (i+1)
    ·exact Gs hj a2
    ·rw[b2 p (by omega) p2];exact Int.le_refl _
  have hlen:=s2.len
  exact⟨h1,t1,s2,t2,(hin _ (CV (by omega))).1,(hin _ (CV (by omega))).2⟩
def eN(s t:List Gau):Prop:=laS s<=fsS t∨laS t<=fsS s
theorem ABE{S T:List (List Gau)}(hp:S.Perm T)(hT:T.Pairwise eN)(hl:∀s∈T,fsS s<laS s)(hs:∀i,i+1<S.length->fsS (gD S i)<=fsS (gD S (i+1))):∀i,i+1<S.length->laS (gD S i)<=fsS (gD S (i+1)):=λi hi=>by
 have h1:S.Pairwise eN:=(hp.pairwise_iff (λ{a b} h=>Or.symm h)).2 hT
 have h2:=List.pairwise_iff_getElem.1 h1 i (i+1) (by omega) hi (by omega)
 have e1:S[i]=gD S i:=by simp[gD,List.getD_eq_getElem?_getD,show i<S.length by omega]
 have e2:S[i+1]=gD S (i+1):=by simp[gD,List.getD_eq_getElem?_getD,hi]
 rw[e1,e2] at h2
 have h3:=hs i hi
 have h4:=hl _ (hp.mem_iff.1 (CV hi))
 rcases h2 with h2 | h2<;>omega
theorem Few.apart{g:List Gau}{b:List Int}{l:List Ln}{k:List (List Int)}(W:Few g b l k)(hc:AV g=0):(k.map λz=>By ⟨g,z⟩).Pairwise eN:=by
 rw[List.pairwise_map]
 refine List.pairwise_iff_getElem.2 λi j hi hj hij=>.inl ?_
 have e1:k[i]=gD k i:=by simp[gD,List.getD_eq_getElem?_getD,hi]
 have e2:k[j]=gD k j:=by simp[gD,List.getD_eq_getElem?_getD,hj]
 rw[e1,e2]
 have hk:=W.lenk
 have h1:=(W.knot hc (i:=i) (by omega)).hi
 have h2:=(W.knot hc (i:=j) (by omega)).lo (by omega)
 have h3:gD b i<=gD b (j-1):=by
  by_cases he:i=j-1
  ·rw[<-he];exact Int.le_refl _
  ·exact Int.le_of_lt (Qf W.asc (by omega) (by omega))
 omega
end Go.Bal

namespace Go.Bal
open Go Go.Sym Go.Proofs
def DM(S:List (List Gau))(x:Int):Int:=(gD (gD S x.toNat) 0).st
def cpS(S:List (List Gau))(l:List Int):List (List Gau):=MK S.length λi=>gD S (gD l i).toNat
theorem Ls(S:List (List Gau))(l:List Int):(cpS S l).length=S.length:=APK _ _
theorem qE{S:List (List Gau)}{l:List Int}{i:Nat}(h:i<S.length):gD (cpS S l) i=gD S (gD l i).toNat:=AWC h
theorem ADF(n:Nat):inR n (WH n):=λx hx=>by
 obtain⟨i,hi,rfl⟩:=NL hx
 rw[RW] at hi;rw[Fd hi];omega
theorem BSY{S:List (List Gau)}{l:List Int}(hl:l.length=S.length){a b n i:Nat}(h1:a+n<=b)(h2:b+n<=S.length)(hi:i<S.length):gD (cpS S l) (gD (zD (WH S.length) a b n) i).toNat=gD S (gD (zD l a b n) i).toNat:=by
 have h3:=COY h1 h2 hi
 rw[yQ (by rw[RW];exact hi),yQ (by rw[hl];exact hi),Fd h3,Int.toNat_natCast,qE h3]
theorem BYM{key key':Int->Int}{l:List Int}{a b:Nat}(hab:a<=b)(hb:b<=l.length)(h:∀x∈l,key x=key' x):GO key' l a b=GO key l a b:=by
 have hp:(GO key' l a b).Perm l:=YU hab
 refine I0 hab hb hp (λi hi ho=>Av hab hb ho) λi j h1 h2 h3=>?_
 have hl:=hp.length_eq
 have e:=oU (key:=key') hab hb i j h1 h2 h3
 have e1:=h _ (hp.mem_iff.1 (CV (show i<(GO key' l a b).length by omega)))
 have e2:=h _ (hp.mem_iff.1 (CV (show j<(GO key' l a b).length by omega)))
 rw[Ga] at *
 rw[e1,e2];exact e
def BCE(key:Int->Int)(l:List Int)(a b:Nat):Prop:=∀i j,a<=i->i<j->j<b->key (gD l i)=key (gD l j)->gD l i<=gD l j
theorem BDS{l:List Int}{f:Int->Int}{i:Nat}(h:i<l.length):gD (l.map f) i=f (gD l i):=by
 simp[gD,List.getD_eq_getElem?_getD,h]
theorem CNK{key:Int->Int}{l:List Int}{a b:Nat}(hab:a<=b)(hb:b<=l.length)(hc:BCE key l a b):(GO (λk=>key (gD l k.toNat)) (WH l.length) a b).map (λk=>gD l k.toNat)=GO key l a b:=by
 have hi:(WH l.length).length=l.length:=RW _
 have hp:(GO (λk=>key (gD l k.toNat)) (WH l.length) a b).Perm (WH l.length):=YU hab
 have hln:(GO (λk=>key (gD l k.toNat)) (WH l.length) a b).length=l.length:=by rw[UR hab,hi]
 have eb:(WH l.length).map (λk=>gD l k.toNat)=l:=by
  refine dP (by rw[List.length_map,hi]) λi h=>?_
  rw[List.length_map,hi] at h
  rw[BDS (by rw[hi];exact h),Fd h,Int.toNat_natCast]
 refine I0 hab hb (by have:=hp.map (λk=>gD l k.toNat);rw[eb] at this;exact this) (λi h ho=>?_) λi j h1 h2 h3=>?_
 ·rw[BDS (by omega),Av hab (by omega) ho,Fd h,Int.toNat_natCast]
 ·rw[BDS (by omega),BDS (by omega)]
  have e:=oU (key:=λk=>key (gD l k.toNat)) (l:=WH l.length) hab (by omega) i j h1 h2 h3
  obtain⟨i',a1,a2,a3⟩:=tQ (key:=λk=>key (gD l k.toNat)) (l:=WH l.length) hab (by omega) h1 (by omega)
  obtain⟨j',b1,b2,b3⟩:=tQ (key:=λk=>key (gD l k.toNat)) (l:=WH l.length) hab (by omega) (show a<=j by omega) h3
  rw[Fd (by omega)] at a3 b3
  rw[a3,b3] at e ⊢
  simp only[Ga,Int.toNat_natCast] at e ⊢
  rcases e with e | ⟨e1,e2⟩
  ·exact .inl e
  ·refine .inr ⟨e1,?_⟩
   by_cases q:i'=j'
   ·rw[q];exact Int.le_refl _
   ·exact hc i' j' a1 (by omega) b2 e1
theorem ANQ{S:List (List Gau)}{l:List Int}{k:Int}(h:0<=k/\k<S.length):DM (cpS S l) k=DM S (gD l k.toNat):=by
 unfold DM
 rw[qE (by omega)]
theorem BBQ{S:List (List Gau)}{l:List Int}(hl:l.length=S.length){a b i:Nat}(hab:a<=b)(hb:b<=S.length)(hc:BCE (DM S) l a b)(hi:i<S.length):gD (cpS S l) (gD (GO (DM (cpS S l)) (WH S.length) a b) i).toNat=gD S (gD (GO (DM S) l a b) i).toNat:=by
 have e0:GO (DM (cpS S l)) (WH S.length) a b=GO (λk=>DM S (gD l k.toNat)) (WH S.length) a b:=BYM hab (by rw[RW];exact hb) λx hx=>(ANQ (ADF _ x hx)).symm
 have e1:=CNK (key:=DM S) hab (by omega) hc
 rw[e0,<-e1,<-hl]
 have hln:(GO (λk=>DM S (gD l k.toNat)) (WH l.length) a b).length=l.length:=by rw[UR hab,RW]
 rw[BDS (by omega)]
 have hm:=ADF _ _ ((YU (key:=λk=>DM S (gD l k.toNat)) (l:=WH l.length) hab).mem_iff.1 (CV (show i<(GO (λk=>DM S (gD l k.toNat)) (WH l.length) a b).length by omega)))
 rw[qE (by omega)]
structure pSmS(S:List (List Gau))(a m b:Nat):Prop where
 ln:S.length<=24
 ne:∀i,i<S.length->0<(gD S i).length
 d:a<m/\m<b/\b<=S.length
 sa:∀i j:Nat,a<=i->i<j->j<m->DM S i<=DM S j
 sb:∀i j:Nat,m<=i->i<j->j<b->DM S i<=DM S j
theorem pSmS.of{S:List (List Gau)}{a m b:Nat}(h:pSmS S a m b):pSm (DM S) S.length (WH S.length) a m b:=by
 obtain⟨h1,h2,h3,h4,h5⟩:=h
 refine⟨by rw[RW];exact h1,ADF _,by rw[RW];exact h3,λi j q1 q2 q3=>?_,λi j q1 q2 q3=>?_,λi j q1 q2 q3 q4 _=>?_⟩
 ·rw[Fd (by omega),Fd (by omega),Ga]
  have:=h4 i j q1 q2 q3
  by_cases e:DM S i=DM S j
  ·exact .inr ⟨e,by omega⟩
  ·left;omega
 ·rw[Fd (by omega),Fd (by omega),Ga]
  have:=h5 i j q1 q2 q3
  by_cases e:DM S i=DM S j
  ·exact .inr ⟨e,by omega⟩
  ·left;omega
 ·rw[Fd (by omega),Fd (by omega)];omega
theorem BXJ{S:List (List Gau)}{l:List Int}(hl:l.length=S.length)(hr:inR S.length l)(h:∀i,i<S.length->0<(gD S i).length):∀i,i<(cpS S l).length->0<(gD (cpS S l) i).length:=λi hi=>by
 rw[Ls] at hi
 rw[qE hi]
 have:=AYJ hr (show i<l.length by omega)
 exact h _ (by omega)
theorem pSm.cp{S:List (List Gau)}{l:List Int}(hl:l.length=S.length)(hne:∀i,i<S.length->0<(gD S i).length){a m b:Nat}(h:pSm (DM S) S.length l a m b):pSmS (cpS S l) a m b:=by
 have hd:=h.d
 refine⟨by rw[Ls,<-hl];exact h.ln,BXJ hl h.i hne,by rw[Ls,<-hl];exact hd,λi j q1 q2 q3=>?_,λi j q1 q2 q3=>?_⟩
 ·rw[ANQ (by omega),ANQ (by omega),Int.toNat_natCast,Int.toNat_natCast]
  exact sY (h.sa i j q1 q2 q3)
 ·rw[ANQ (by omega),ANQ (by omega),Int.toNat_natCast,Int.toNat_natCast]
  exact sY (h.sb i j q1 q2 q3)
theorem pSm.tie{key:Int->Int}{n:Nat}{l:List Int}{a m b:Nat}(h:pSm key n l a m b):BCE key l a b:=λi j q1 q2 q3 e=>by
 have f:lxB key (gD l i) (gD l j)=true->gD l i<=gD l j:=λq=>by rw[Ga] at q;omega
 by_cases c1:j<m
 ·exact f (h.sa i j q1 q2 c1)
 ·by_cases c2:i<m
  ·exact h.c i j q1 c2 (by omega) q3 e
  ·exact f (h.sb i j (by omega) q2 q3)
end Go.Bal
