/- Package rating: what knots prove (no program in sight). -/
import Derived.Test.YtpidmmilfdcepaaGreatRFl2
set_option linter.unusedVariables false
set_option linter.unusedSimpArgs false
namespace Go.Bal
open Go Go.Sym Go.Proofs
def fsS(s:List Gau):Int:=(gD s 0).st
def laS(s:List Gau):Int:=(gD s (s.length-1)).st
structure SetOk(g s:List Gau):Prop where
 sub:∀x∈s,x∈g
 len:2<=s.length/\s.length<=3
 rise:∀x∈s,fsS s<=x.st/\x.st<=laS s
 lt:fsS s<laS s
theorem CAO{a b:Int}:decide (Ib a b<0)=decide (a<b):=by
 by_cases h:a<b
 ·rw[decide_eq_true h,decide_eq_true (R1.2 h)]
 ·rw[decide_eq_false h,decide_eq_false λhc=>h (R1.1 hc)]
theorem BRW(x y:Gau):nmB [x,y]=true↔x.st<y.st:=by
 show (bif (bif decide (Ib y.st x.st<0) then false else true) then decide (x.st<y.st) else false)=true↔_
 rw[CAO]
 by_cases h:y.st<x.st
 ·simp[h];omega
 ·simp[h]
theorem BRB(x y z:Gau):nmB [x,y,z]=true↔x.st<=y.st/\y.st<=z.st/\x.st<z.st:=by
 show (bif (bif decide (Ib z.st y.st<0) then false else bif decide (Ib y.st x.st<0) then false else true) then decide (x.st<z.st) else false)=true↔_
 rw[CAO,CAO]
 by_cases h:z.st<y.st
 ·simp[h];omega
 ·by_cases h2:y.st<x.st
  ·simp[h,h2];omega
  ·simp[h,h2];omega
theorem CEK{a:GK}(h:(Cn a).2=true):Fx a=true/\nmB (Ax a)=true/\Cn a=(Ax a,true):=by
 unfold Cn at h ⊢
 cases hc:Fx a with
 |false=>rw[hc] at h;cases h
 |true=>rw[hc] at h;have h:nmB (Ax a)=true:=h;exact⟨rfl,h,by rw[h];rfl⟩
theorem BJN{a:GK}(hl:a.g.length<1073741824)(h:(Cn a).2=true):Cn a=(Ax a,true)/\SetOk a.g (Ax a):=by
 obtain⟨hok,hB,he⟩:=CEK h
 obtain⟨h1,h2,h3⟩:=cK hl hok
 refine⟨he,?_⟩
 have sub:∀x∈Ax a,x∈a.g:=λx hx=>by
  obtain⟨i,hi,rfl⟩:=List.mem_map.1 hx
  have:=h3 i hi
  exact BU (by omega)
 obtain⟨g,k⟩:=a
 rcases k with _ | ⟨p,_ | ⟨q,_ | ⟨r,_ | ⟨t,l⟩⟩⟩⟩
 ·simp at h1
 ·simp at h1
 ·have hB:(gD g p.toNat).st<(gD g q.toNat).st:=(BRW _ _).1 hB
  refine⟨sub,⟨Nat.le_refl _,by show 2<=3;omega⟩,λx hx=>?_,hB⟩
  show (gD g p.toNat).st<=x.st/\x.st<=(gD g q.toNat).st
  rcases List.mem_cons.1 hx with rfl | hx
  ·show (gD g p.toNat).st<=(gD g p.toNat).st/\(gD g p.toNat).st<=(gD g q.toNat).st;omega
  ·rw[List.mem_singleton.1 hx];show (gD g p.toNat).st<=(gD g q.toNat).st/\(gD g q.toNat).st<=(gD g q.toNat).st;omega
 ·obtain⟨b1,b2,b3⟩:(gD g p.toNat).st<=(gD g q.toNat).st/\(gD g q.toNat).st<=(gD g r.toNat).st/\(gD g p.toNat).st<(gD g r.toNat).st:=(BRB _ _ _).1 hB
  refine⟨sub,⟨by show 2<=3;omega,Nat.le_refl _⟩,λx hx=>?_,b3⟩
  show (gD g p.toNat).st<=x.st/\x.st<=(gD g r.toNat).st
  rcases List.mem_cons.1 hx with rfl | hx
  ·show (gD g p.toNat).st<=(gD g p.toNat).st/\(gD g p.toNat).st<=(gD g r.toNat).st;omega
  ·rcases List.mem_cons.1 hx with rfl | hx
   ·show (gD g p.toNat).st<=(gD g q.toNat).st/\(gD g q.toNat).st<=(gD g r.toNat).st;omega
   ·rw[List.mem_singleton.1 hx];show (gD g p.toNat).st<=(gD g r.toNat).st/\(gD g r.toNat).st<=(gD g r.toNat).st;omega
 ·simp at h2
theorem CRR{g:List Gau}(hl:g.length<1073741824){x y:Int}(hx:0<=x/\x<g.length)(hy:0<=y/\y<g.length)(h:(gD g x.toNat).st<(gD g y.toNat).st):(Cn ⟨g,[x,y]⟩).2=true:=by
 have e:wr ((g.length:Int)-1)=(g.length:Int)-1:=HL (by omega) (by omega)
 have hok:Fx ⟨g,[x,y]⟩=true:=by
  unfold Fx
  simp only[e,List.all_cons,List.all_nil,Bool.and_true]
  rw[show JD x 0 ((g.length:Int)-1)=true by unfold JD;simp;omega,show JD y 0 ((g.length:Int)-1)=true by unfold JD;simp;omega]
  rfl
 unfold Cn
 rw[hok]
 exact (BRW _ _).2 h
theorem CRC{g:List Gau}(hl:g.length<1073741824){x y z:Int}(hx:0<=x/\x<g.length)(hy:0<=y/\y<g.length)(hz:0<=z/\z<g.length)(h1:(gD g x.toNat).st<=(gD g y.toNat).st)(h2:(gD g y.toNat).st<=(gD g z.toNat).st)(h3:(gD g x.toNat).st<(gD g z.toNat).st):(Cn ⟨g,[x,y,z]⟩).2=true:=by
 have e:wr ((g.length:Int)-1)=(g.length:Int)-1:=HL (by omega) (by omega)
 have hok:Fx ⟨g,[x,y,z]⟩=true:=by
  unfold Fx
  simp only[e,List.all_cons,List.all_nil,Bool.and_true]
  rw[show JD x 0 ((g.length:Int)-1)=true by unfold JD;simp;omega,show JD y 0 ((g.length:Int)-1)=true by unfold JD;simp;omega,show JD z 0 ((g.length:Int)-1)=true by unfold JD;simp;omega]
  rfl
 unfold Cn
 rw[hok]
 exact (BRB _ _ _).2 ⟨h1,h2,h3⟩
theorem iR{a:GK}(hl:a.g.length<1073741824)(ho:∀x∈a.g,IT x):PC a=true↔(Cn a).2=true/\¬Can (Ax a):=by
 unfold PC
 cases h:(Cn a).2 with
 |false=>exact⟨λh=>(by cases h),λh=>(by cases h.1)⟩
 |true=>
  obtain⟨e,hs⟩:=BJN hl h
  rw[e]
  have hL:=(bR (s:=Ax a) λx hx=>ho x (hs.sub x hx)).1
  cases hq:(EV (Ax a)).2 with
  |true=>exact⟨λh=>(by cases h),λh=>absurd (hL.1 hq) h.2⟩
  |false=>exact⟨λ_=>⟨rfl,λhc=>by rw[hL.2 hc] at hq;cases hq⟩,λ_=>rfl⟩
theorem ARW{g:List Gau}{a b:Int}:∀(cs z:List Int),knt3 g a b cs=some z->PC ⟨g,z⟩=true/\∀x∈z,x=a∨x=b∨x∈cs
 |[],z,h=>by cases h
 |c :: cs,z,h=>by
  rw[BHA] at h
  cases hc:PC ⟨g,[a,b,c]⟩ with
  |true=>rw[hc] at h;cases h;exact⟨hc,λx hx=>by simp at hx ⊢;rcases hx with h | h | h<;>simp[h]⟩
  |false=>
   rw[hc] at h
   obtain⟨h1,h2⟩:=ARW cs z h
   exact⟨h1,λx hx=>by rcases h2 x hx with h | h | h<;>simp[h]⟩
theorem BEH{x y:Option (List Int)}{z:List Int}(h:orO x y=some z):x=some z∨y=some z:=by
 cases x with
 |none=>exact .inr h
 |some w=>exact .inl h
theorem BDS{x y:Option (List Int)}(h:orO x y=none):x=none/\y=none:=by
 cases x with
 |none=>exact⟨rfl,h⟩
 |some w=>cases h
theorem ATG{g:List Gau}{a:Int}:∀(cs z:List Int),knt2 g a cs=some z->PC ⟨g,z⟩=true/\∀x∈z,x=a∨x∈cs
 |[],z,h=>by cases h
 |b :: cs,z,h=>by
  rw[BKR] at h
  cases hc:PC ⟨g,[a,b]⟩ with
  |true=>rw[hc] at h;cases h;exact⟨hc,λx hx=>by simp at hx ⊢;rcases hx with h | h<;>simp[h]⟩
  |false=>
   rw[hc] at h
   rcases BEH h with h | h
   ·obtain⟨h1,h2⟩:=ARW cs z h
    exact⟨h1,λx hx=>by rcases h2 x hx with h | h | h<;>simp[h]⟩
   ·obtain⟨h1,h2⟩:=ATG cs z h
    exact⟨h1,λx hx=>by rcases h2 x hx with h | h<;>simp[h]⟩
theorem ASV{g:List Gau}:∀(k z:List Int),iZ g k=some z->PC ⟨g,z⟩=true/\∀x∈z,x∈k
 |[],z,h=>by cases h
 |a :: bs,z,h=>by
  rw[BLS] at h
  rcases BEH h with h | h
  ·obtain⟨h1,h2⟩:=ATG bs z h
   exact⟨h1,λx hx=>by rcases h2 x hx with h | h<;>simp[h]⟩
  ·obtain⟨h1,h2⟩:=ASV bs z h
   exact⟨h1,λx hx=>List.mem_cons_of_mem _ (h2 x hx)⟩
theorem AUB{g:List Gau}{a b:Int}:∀(cs:List Int),knt3 g a b cs=none->∀i,i<cs.length->PC ⟨g,[a,b,gD cs i]⟩=false
 |[],h,i,hi=>by simp at hi
 |c :: cs,h,i,hi=>by
  rw[BHA] at h
  cases hc:PC ⟨g,[a,b,c]⟩ with
  |true=>rw[hc] at h;cases h
  |false=>
   rw[hc] at h
   cases i with
   |zero=>exact hc
   |succ i=>exact AUB cs h i (by simpa using hi)
theorem ARN{g:List Gau}{a:Int}:∀(cs:List Int),knt2 g a cs=none->∀i,i<cs.length->PC ⟨g,[a,gD cs i]⟩=false/\∀j,i<j->j<cs.length->PC ⟨g,[a,gD cs i,gD cs j]⟩=false
 |[],h,i,hi=>by simp at hi
 |b :: cs,h,i,hi=>by
  rw[BKR] at h
  cases hc:PC ⟨g,[a,b]⟩ with
  |true=>rw[hc] at h;cases h
  |false=>
   rw[hc] at h
   obtain⟨h1,h2⟩:=BDS h
   cases i with
   |zero=>
    refine⟨hc,λj hj hl=>?_⟩
    cases j with
    |zero=>omega
    |succ j=>exact AUB cs h1 j (by simpa using hl)
   |succ i=>
    obtain⟨h3,h4⟩:=ARN cs h2 i (by simpa using hi)
    refine⟨h3,λj hj hl=>?_⟩
    cases j with
    |zero=>omega
    |succ j=>exact h4 j (by omega) (by simpa using hl)
theorem ASP{g:List Gau}:∀(k:List Int),iZ g k=none->∀i j,i<j->j<k.length->PC ⟨g,[gD k i,gD k j]⟩=false/\∀m,j<m->m<k.length->PC ⟨g,[gD k i,gD k j,gD k m]⟩=false
 |[],h,i,j,_,hi=>by simp at hi
 |a :: bs,h,i,j,hij,hj=>by
  rw[BLS] at h
  obtain⟨h1,h2⟩:=BDS h
  obtain⟨j,rfl⟩:∃q,j=q+1:=⟨j-1,by omega⟩
  cases i with
  |zero=>
   obtain⟨h3,h4⟩:=ARN bs h1 j (by simpa using hj)
   refine⟨h3,λm hm hl=>?_⟩
   obtain⟨m,rfl⟩:∃q,m=q+1:=⟨m-1,by omega⟩
   exact h4 m (by omega) (by simpa using hl)
  |succ i=>
   obtain⟨h3,h4⟩:=ASP bs h2 i j (by omega) (by simpa using hj)
   refine⟨h3,λm hm hl=>?_⟩
   obtain⟨m,rfl⟩:∃q,m=q+1:=⟨m-1,by omega⟩
   exact h4 m (by omega) (by simpa using hl)
theorem ADS{o:List Int}{m n p:Nat}(hn:n<=o.length)(h1:m<=p)(h2:p<n):gD ((o.take n).drop m) (p-m)=gD o p:=by
 rw[Pp,show m+(p-m)=p by omega]
 simp[gD,List.getD_eq_getElem?_getD,List.getElem?_take,h2]
theorem CJV{o:List Int}{m n:Nat}(hn:n<=o.length){x:Int}(h:x∈(o.take n).drop m):∃p,m<=p/\p<n/\gD o p=x:=by
 obtain⟨i,hi,rfl⟩:=JP h
 rw[List.length_drop,List.length_take] at hi
 refine⟨m+i,by omega,by omega,?_⟩
 have:=ADS (o:=o) (m:=m) (n:=n) (p:=m+i) hn (by omega) (by omega)
 rw[show m+i-m=i by omega] at this;exact this.symm
theorem BXS{g:List Gau}(hc:AL g=0)(h1:∀x∈g,Can (g.filter λy=>y.st==x.st)){m n:Nat}(hn:n<=g.length)(h:iZ g (((AM g).take n).drop m)=none):Can (L7 g (AM g) m n):=by
 obtain⟨⟨hl1,hl2⟩,ho⟩:=JU hc
 have hN:=ASP _ h
 have hol:(AM g).length=g.length:=BW g
 have hlen:(((AM g).take n).drop m).length=n-m:=by rw[List.length_drop,List.length_take];omega
 have pair:∀i k,m<=i->i<k->k<n->jD g i<jD g k->Can [Ih g i,Ih g k]:=λi k a1 a2 a3 hs=>by
  have:=(hN (i-m) (k-m) (by omega) (by omega)).1
  rw[ADS (by omega) a1 (by omega),ADS (by omega) (by omega) a3] at this
  refine Classical.byContradiction λhcn=>?_
  have ht:=(iR (a:=⟨g,[gD (AM g) i,gD (AM g) k]⟩) (show g.length<1073741824 by omega) ho).2 ⟨CRR (by omega) (Ug (by omega)) (Ug (by omega)) hs,hcn⟩
  rw[this] at ht;cases ht
 have core:∀i j k,m<=i->i<=j->j<=k->k<n->Can [Ih g i,Ih g j,Ih g k]:=λi j k a1 a2 a3 a4=>by
  have s1:jD g i<=jD g j:=En a2 (by omega)
  have s2:jD g j<=jD g k:=En a3 (by omega)
  by_cases hs:jD g i=jD g k
  ·refine (h1 _ (Ei (g:=g) (i:=i) (by omega))).mono λx hx=>?_
   have q:∀p,p<n->jD g p=jD g i->Ih g p∈g.filter λy=>y.st==(Ih g i).st:=λp hp he=>List.mem_filter.2 ⟨Ei (by omega),beq_iff_eq.2 he⟩
   simp only[List.mem_cons,List.not_mem_nil,or_false] at hx
   rcases hx with rfl | rfl | rfl
   ·exact q i (by omega) rfl
   ·exact q j (by omega) (by omega)
   ·exact q k (by omega) (by omega)
  ·by_cases e1:i=j
   ·subst e1
    exact (pair i k a1 (by have:i≠k:=λe=>hs (by rw[e]);omega) a4 (by omega)).mono λx hx=>by simp at hx ⊢;rcases hx with h | h<;>simp[h]
   ·by_cases e2:j=k
    ·subst e2
     exact (pair i j a1 (by omega) a4 (by omega)).mono λx hx=>by simp at hx ⊢;rcases hx with h | h<;>simp[h]
    ·have:=(hN (i-m) (j-m) (by omega) (by omega)).2 (k-m) (by omega) (by omega)
     rw[ADS (by omega) a1 (by omega),ADS (by omega) (by omega) (by omega),ADS (by omega) (by omega) a4] at this
     refine Classical.byContradiction λhcn=>?_
     have ht:=(iR (a:=⟨g,[gD (AM g) i,gD (AM g) j,gD (AM g) k]⟩) (show g.length<1073741824 by omega) ho).2 ⟨CRC (by omega) (Ug (by omega)) (Ug (by omega)) (Ug (by omega)) s1 s2 (show jD g i<jD g k by omega),hcn⟩
     rw[this] at ht;cases ht
 refine CZI (APJ ho hn) λa b c ha hb hc=>?_
 obtain⟨i,i1,i2,rfl⟩:=(yD hn).1 ha
 obtain⟨j,j1,j2,rfl⟩:=(yD hn).1 hb
 obtain⟨k,k1,k2,rfl⟩:=(yD hn).1 hc
 have fin:∀{p q r:Nat},Can [Ih g p,Ih g q,Ih g r]->(∀x∈[Ih g i,Ih g j,Ih g k],x∈[Ih g p,Ih g q,Ih g r])->Can [Ih g i,Ih g j,Ih g k]:=λh hs=>h.mono hs
 rcases Nat.le_total i j with h1 | h1<;>rcases Nat.le_total j k with h2 | h2<;>rcases Nat.le_total i k with h3 | h3
 ·exact core i j k i1 h1 h2 k2
 ·exact core i j k i1 h1 h2 k2
 ·exact fin (core i k j i1 h3 h2 j2) λx hx=>by simp at hx ⊢;rcases hx with h | h | h<;>simp[h]
 ·exact fin (core k i j k1 h3 h1 j2) λx hx=>by simp at hx ⊢;rcases hx with h | h | h<;>simp[h]
 ·exact fin (core j i k j1 h1 h3 k2) λx hx=>by simp at hx ⊢;rcases hx with h | h | h<;>simp[h]
 ·exact fin (core j k i j1 h2 h3 i2) λx hx=>by simp at hx ⊢;rcases hx with h | h | h<;>simp[h]
 ·exact fin (core k j i k1 h2 h1 i2) λx hx=>by simp at hx ⊢;rcases hx with h | h | h<;>simp[h]
 ·exact fin (core k j i k1 h2 h1 i2) λx hx=>by simp at hx ⊢;rcases hx with h | h | h<;>simp[h]
structure KnotAt(g:List Gau)(b:List Int)(z:List Int)(i:Nat):Prop where
 tied:PC ⟨g,z⟩=true
 nm:(Cn ⟨g,z⟩).2=true
 set:SetOk g (Ax ⟨g,z⟩)
 no:¬Can (Ax ⟨g,z⟩)
 lo:i≠0->gD b (i-1)<=fsS (Ax ⟨g,z⟩)
 hi:laS (Ax ⟨g,z⟩)<=gD b i
theorem Few.knot{g:List Gau}{b:List Int}{l:List Ln}{k:List (List Int)}(W:Few g b l k)(hc:AL g=0){i:Nat}(hi:i<b.length):KnotAt g b (gD k i) i:=by
 obtain⟨⟨hl1,hl2⟩,ho⟩:=JU hc
 obtain⟨P,hp⟩:=W.parts
 obtain⟨a1,a2,a3,a4⟩:=hp.up i hi
 obtain⟨n1,n2⟩:=AAI a2
 obtain⟨b1,b2⟩:=BPT a2
 have hol:(AM g).length=g.length:=BW g
 have e:=hp.knot i hi
 cases hk:iZ g (((AM g).take (Kw g (AM g) (gD P (i+1)))).drop (gD P i)) with
 |none=>exact absurd (BXS hc W.one n2 hk) (hp.bad i hi)
 |some z=>
  have ez:gD k i=z:=by rw[e];unfold Vp;rw[hk];rfl
  rw[ez]
  obtain⟨h1,h2⟩:=ASV _ _ hk
  obtain⟨t1,t2⟩:=(iR (a:=⟨g,z⟩) (show g.length<1073741824 by omega) ho).1 h1
  obtain⟨s1,s2⟩:=BJN (a:=⟨g,z⟩) (show g.length<1073741824 by omega) t1
  have hin:∀x∈Ax ⟨g,z⟩,(i≠0->gD b (i-1)<=x.st)/\x.st<=gD b i:=λx hx=>by
   obtain⟨y,hy,rfl⟩:=List.mem_map.1 hx
   obtain⟨p,p1,p2,rfl⟩:=CJV (by omega) (h2 y hy)
   refine⟨λh0=>?_,?_⟩
   ·have e2:=(hp.up (i-1) (by omega)).2.2.2
    rw[show i-1+1=i by omega] at e2
    rw[e2]
    exact En p1 (by omega)
   ·show jD g p<=_
    rw[a4]
    by_cases hj:p<=gD P (i+1)
    ·exact En hj a2
    ·rw[b2 p (by omega) p2];exact Int.le_refl _
  have hlen:=s2.len
  exact⟨h1,t1,s2,t2,(hin _ (BU (by omega))).1,(hin _ (BU (by omega))).2⟩
def fA(s t:List Gau):Prop:=laS s<=fsS t∨laS t<=fsS s
theorem ACI{S T:List (List Gau)}(hp:S.Perm T)(hT:T.Pairwise fA)(hl:∀s∈T,fsS s<laS s)(hs:∀i,i+1<S.length->fsS (gD S i)<=fsS (gD S (i+1))):∀i,i+1<S.length->laS (gD S i)<=fsS (gD S (i+1)):=λi hi=>by
 have h1:S.Pairwise fA:=(hp.pairwise_iff (λ{a b} h=>Or.symm h)).2 hT
 have h2:=List.pairwise_iff_getElem.1 h1 i (i+1) (by omega) hi (by omega)
 have e1:S[i]=gD S i:=by simp[gD,List.getD_eq_getElem?_getD,show i<S.length by omega]
 have e2:S[i+1]=gD S (i+1):=by simp[gD,List.getD_eq_getElem?_getD,hi]
 rw[e1,e2] at h2
 have h3:=hs i hi
 have h4:=hl _ (hp.mem_iff.1 (BU hi))
 rcases h2 with h2 | h2<;>omega
theorem Few.apart{g:List Gau}{b:List Int}{l:List Ln}{k:List (List Int)}(W:Few g b l k)(hc:AL g=0):(k.map λz=>Ax ⟨g,z⟩).Pairwise fA:=by
 rw[List.pairwise_map]
 refine List.pairwise_iff_getElem.2 λi j hi hj hij=>.inl ?_
 have e1:k[i]=gD k i:=by simp[gD,List.getD_eq_getElem?_getD,hi]
 have e2:k[j]=gD k j:=by simp[gD,List.getD_eq_getElem?_getD,hj]
 rw[e1,e2]
 have hk:=W.lenk
 have h1:=(W.knot hc (i:=i) (by omega)).hi
 have h2:=(W.knot hc (i:=j) (by omega)).lo (by omega)
 have h3:gD b i<=gD b (j-1):=by
  by_cases he:i=j-1
  ·rw[<-he];exact Int.le_refl _
  ·exact Int.le_of_lt (Lt W.asc (by omega) (by omega))
 omega
structure GsP where
 a:List Gau
 b:List Gau
def dGsP:List AVal->Heap->Option (GsP×List (Nat×Nat)×List Nat)
 |[x,y],H=>match Ht x H,Ht y H with
  |some (l,f),some (m,e)=>some (⟨l,m⟩,[],f ++ e)
  |_,_=>none
 |_,_=>none
def C_pv1:Ctr:={ α:=GsP,xs:=λa=>[.d (AT a.a),.d (AT a.b)],val:=λa=>.int (Ib (gD a.a 0).st (gD a.b 0).st),pre:=λa=>[0<a.a.length/\0<a.b.length] }
def COL:Ann:=ann 14 [(81,N8)]
def CMG(a:GsP):Prop:=AS ZP COL Tryz.f80 (AE Tryz.f80) (C_pv1.xs a) (AB []) (C_pv1.val a) [] [] []
theorem CRK(a:GsP):(CMG a)=(And (AO (Wg (Rm 0 (GsP.a a))) zM (Rm 0 (GsP.b a))) (BM (hd30 (mK (GsP.a a)) (mK (GsP.b a))) (hd30 (BL (GsP.a a) DW) (BL (GsP.b a) DW)))):=by kernel_rfl
def dGsD:DVal->List Gau
 | .list _ n h _=>HA n λi=>Ky (h i)
 |_=>default
def keyS(S:List (List Gau))(x:Int):Int:=(gD (gD S x.toNat) 0).st
def rowS(S:List (List Gau)):AObj:=.row 1 S.length λi=>AT (gD S i)
def COO(S:List (List Gau))(l:List Int):AObj:=.row 1 S.length λi=>AT (gD S (gD l i).toNat)
structure SS where
 s:List (List Gau)
 a:Int
 b:Int
 e:Bool
def jH:AVal:=.fn (.func 80) [] []
def oSS(S:List (List Gau)):AVal:=.own 100 1 0 S.length
def glS(S:List (List Gau))(l:List Int):List (Nat×HCell):=[(100,.live (COO S l))]
def inS(S:List (List Gau))(l:List Int):Prop:=l.length=S.length/\∀i,i<S.length->0<=gD l i/\gD l i<S.length
def okSs(S:List (List Gau)):Prop:=S.length<20/\∀i,i<S.length->0<(gD S i).length
def Ic(S:List (List Gau)):List Int:=stM (keyS S) (Il S.length)
def xSS(a:SS):AVal:=bif a.e then .d NC else oSS a.s
def lSS(a:SS):List (Nat×AObj):=bif a.e then [] else [(100,rowS a.s)]
def kSS(a:SS):List (Nat×HCell):=bif a.e then [] else glS a.s (Ic a.s)
def pSS(a:SS):Prop:=bif a.e then True else okSs a.s
def dSS:List AVal->Heap->Option (SS×List (Nat×Nat)×List Nat)
 |[.own id _ _ n,.d x,.d y,.fn (.func f) [] []],H=>if f=80 then match H id with
  | .live (.row _ _ r)=>some (⟨HA n λi=>dGsD (r i),EG x,EG y,false⟩,[(100,id)],[])
  |_=>none else none
 |[.d (.list 0 0 _ _),.d x,.d y,.fn (.func f) [] []],_=>if f=80 then some (⟨[],EG x,EG y,true⟩,[],[]) else none
 |_,_=>none
def nS(a:SS):Int:=bif a.e then 0 else a.s.length
def C_insS:Ctr:={ α:=SS,xs:=λa=>[xSS a,.int a.a,.int a.b,jH],L:=lSS,val:=λ_=>.d (.tup []),keep:=kSS,pre:=λa=>[(a.a=0/\a.b=nS a)/\pSS a] }
def iS1(S:List (List Gau)):Shape:={ α:=IL2,dflt:=default,T:=λx=>⟨[(0,oSS S),(1,.int 0),(2,.int S.length),(3,jH),(8,.int x.i)],glS S x.l⟩,inv:=λx=>1<=x.i/\(x.i<=S.length∨x.i=1)/\inS S x.l/\Ic S=stR (keyS S) (S.length-x.i) x.i x.l,meas:=λx=>S.length-x.i }
def iS4(S:List (List Gau))(m:Nat):Shape:={ α:=IJL,dflt:=default,T:=λx=>⟨[(0,oSS S),(1,.int 0),(2,.int S.length),(3,jH),(8,.int x.i),(9,.int x.j)],glS S x.l⟩,inv:=λx=>S.length-x.i=m/\1<=x.i/\x.i<S.length/\x.j<=x.i/\inS S x.l/\Ic S=stR (keyS S) (S.length-(x.i+1)) (x.i+1) (Xi (keyS S) x.j x.l),meas:=λx=>x.j }
def BWM(S:List (List Gau)):Ann:={ ann 53 [(80,C_pv1.spec dGsP)] with E:=[100],loops:=λid=>if id=1 then some [iS1 S] else none,inner:=λgs id=>if id=4 then some [iS4 S (gs.getD 0 0)] else none }
def CCI(S:List (List Gau)):Prop:=AS ZP (BWM S) Tryz.f134 (AE Tryz.f134) [oSS S,.int 0,.int S.length,jH] (AB [(100,rowS S)]) (.d (.tup [])) (glS S (Ic S)) [] []
abbrev CJ:=@List.length (List Gau)
abbrev bM:=@gD (List Gau) (@instInhabitedList Gau)
abbrev J5:=keyS
abbrev Gt a b c d:=Ku a b (HQ c d) (EK c d)
abbrev V6 a b c:=bM a (O1 b c)
abbrev dQ a b:=V6 a (Ic a) b
abbrev aE a b c:=V6 a (MZ b) c
abbrev X9 a:=BP (CJ a)
abbrev kT a:=DR (CJ a)
abbrev rQ a b c:=aE a b (XQ c)
abbrev pL a b c:=aE a b (Se c)
attribute [go_sem] CJ bM J5 Gt V6 dQ aE X9 kT rQ pL
theorem CHY(S:List (List Gau)):(CCI S)=(And (BEA (λi=>AR (yF AF (kT S) BB (X9 S) (oW (NM i)) (AG (λj=>Gt j (CJ S) (V6 S (RJ i) j) (bM S j)))) (M9 i) (fP (NM i) (CJ S) (T9 i)) (QY (OD (RJ i) (CJ S)) (λj=>uW j (CJ S) (RJ i) j (Wr (KL (RJ i) j) (CJ S)))) (Pi (Ic S) (J5 S) (CJ S) (NM i) (RJ i)))) (CET (λi=>WU (BD (M9 i) (fP (NM i) (CJ S) (T9 i)) (QY (OD (RJ i) (CJ S)) (λj=>uW j (CJ S) (RJ i) j (Wr (KL (RJ i) j) (CJ S)))) (Pi (Ic S) (J5 S) (CJ S) (NM i) (RJ i))) (NM i) (CJ S) (BFL (λj=>CY (AEG AF (kT S) (hd63 0) (X9 S) (AI (SP j) (NM i)) (AI (JB j) (NM i)) (AG (λk=>Gt k (CJ S) (aE S j k) (V6 S (RJ i) k)))) (IZ (CJ S) (SP j) (NM i)) (S5 j) (FC (SP j) (CJ S)) (FF (JB j) (SP j)) (QY (OD (MZ j) (CJ S)) (λk=>uW k (CJ S) (MZ j) k (Wr (KL (MZ j) k) (CJ S)))) (Pi (Ic S) (J5 S) (CJ S) (O0 j) (Xi (J5 S) (JB j) (MZ j))))) (CBA (λj=>LZ (AW (IZ (CJ S) (SP j) (NM i)) (S5 j) (FC (SP j) (CJ S)) (FF (JB j) (SP j)) (QY (OD (MZ j) (CJ S)) (λk=>uW k (CJ S) (MZ j) k (Wr (KL (MZ j) k) (CJ S)))) (Pi (Ic S) (J5 S) (CJ S) (O0 j) (Xi (J5 S) (JB j) (MZ j)))) (AR (Xo j (CR (JB j) (CJ S))) (Xo j (IU (Se j) (CJ S))) (Xo j (TV (JB j) (CJ S))) (Xo j (IU (XQ j) (CJ S))) (Xo j (AW (AY (pL S j j)) (BJ (pL S j j)) (AY (rQ S j j)) (BJ (rQ S j j)) (jZ (CG (pL S j j))) (jZ (CG (rQ S j j)))))) (FD (Iv (JB j) (eC (mK (CG (pL S j j))) (mK (CG (rQ S j j))))) (SG (TV (JB j) (CJ S)) (XQ j) (CJ S) (CR (JB j) (CJ S)) (ABN (FC (Se j) (CJ S)) (CR (JB j) (CJ S)) (TV (JB j) (CJ S)) (IU (XQ j) (CJ S)))) (BFL (λk=>IB (AEG AF (kT S) (hd63 0) (X9 S) (AI (SP k) (SP j)) (lU (JB k) (JB j)) (AG (λl=>Ku l (CJ S) (Uy (aE S k l) (H4 (AOF l (XQ j)) (CH (pL S j j)) (H4 (AOF l (Se j)) (CH (rQ S j j)) (CH (aE S j l))))) (AG (λm=>Pg m (aE S k l) (SE l (XQ j) (BL (pL S j j) m) (SE l (Se j) (BL (rQ S j j) m) (BL (aE S j l) m))) (SE l (XQ j) (DF (pL S j j) m) (SE l (Se j) (DF (rQ S j j) m) (DF (aE S j l) m))) (SE l (XQ j) (DG (pL S j j) m) (SE l (Se j) (DG (rQ S j j) m) (DG (aE S j l) m)))))))) (AW (IZ (CJ S) (SP k) (NM i)) (S5 k) (FC (SP k) (CJ S)) (FF (JB k) (SP k)) (QY (OD (MZ k) (CJ S)) (λl=>uW l (CJ S) (MZ k) l (Wr (KL (MZ k) l) (CJ S)))) (Pi (Ic S) (J5 S) (CJ S) (O0 k) (Xi (J5 S) (JB k) (MZ k)))) (JB k) (JB j))) (BEA (λk=>EO (yF AF (kT S) BB (X9 S) (AJ (NM k) (SP j)) (AG (λl=>Gt l (CJ S) (V6 S (RJ k) l) (aE S j l)))) (BD (M9 k) (fP (NM k) (CJ S) (T9 k)) (QY (OD (RJ k) (CJ S)) (λl=>uW l (CJ S) (RJ k) l (Wr (KL (RJ k) l) (CJ S)))) (Pi (Ic S) (J5 S) (CJ S) (NM k) (RJ k))) (CJ S) (NM k) (NM i)))))) (YJ (CJ S) (λj=>Gt j (CJ S) (dQ S j) (V6 S (RJ i) j)))))):=by kernel_rfl
def iE1:Shape:={ α:=One,dflt:=default,T:=λ_=>⟨[(0,.d NC),(1,.int 0),(2,.int 0),(3,jH),(8,.int 1)],[]⟩,inv:=λ_=>True,meas:=λ_=>0 }
def CAG:Ann:={ ann 53 [(80,C_pv1.spec dGsP)] with loops:=λid=>if id=1 then some [iE1] else if id=4 then some [] else none }
def CBR(_x:One):Prop:=AS ZP CAG Tryz.f134 (AE Tryz.f134) [.d NC,.int 0,.int 0,jH] (AB []) (.d (.tup [])) [] [] []
theorem CHZ(_x:One):(CBR _x)=(Ir (KZ (AQD AF AN BB (Yd 1 (BOA (AQ 1) (hd65 (BEG 2 (BQT hd53))))))) (PY HO HO)):=by kernel_rfl
def dSSs:List AVal->Heap->Option (SS×List (Nat×Nat)×List Nat)
 |[.own id _ _ n,.d x,.fn (.func f) [] []],H=>if f=80 then match H id with
  | .live (.row _ _ r)=>some (⟨HA n λi=>dGsD (r i),EG x,0,false⟩,[(100,id)],[])
  |_=>none else none
 |[.d (.list 0 0 _ _),.d x,.fn (.func f) [] []],_=>if f=80 then some (⟨[],EG x,0,true⟩,[],[]) else none
 |_,_=>none
def C_stS:Ctr:={ α:=SS,xs:=λa=>[xSS a,.int a.a,jH],L:=lSS,val:=λ_=>.d (.tup []),keep:=kSS,pre:=λa=>[a.a=nS a/\pSS a] }
def sbS(S:List (List Gau))(c:HCell)(r:List (Nat×AVal)):Shape:={ α:=One,dflt:=default,T:=λ_=>⟨[(0,oSS S),(1,.int S.length),(2,jH),(6,.int 20)] ++ r,[(100,c)]⟩,inv:=λ_=>True,meas:=λ_=>0 }
def CMB(S:List (List Gau)):Ann:={ ann 63 [(134,C_insS.spec dSS)] with E:=[100],loops:=λid=>if id=2 then some [sbS S (.live (rowS S)) [(7,.int 0),(8,.int 20)]] else if id=7 then some [sbS S (.live (COO S (Ic S))) []] else none }
def CNL(S:List (List Gau)):Prop:=AS ZP (CMB S) Tryz.f117 (AE Tryz.f117) [oSS S,.int S.length,jH] (AB [(100,rowS S)]) (.d (.tup [])) (glS S (Ic S)) [] []
abbrev yW a:=BO (CJ a)
abbrev gJ a:=(@HA (List Gau)) (CJ a) (λi=>dGsD (AT (bM a i)))
abbrev RV a:=CJ (gJ a)
abbrev kP a b:=bM (gJ a) b
attribute [go_sem] yW gJ RV kP
theorem CSO(S:List (List Gau)):(CNL S)=(Ir (KZ (Gn AF (kT S) (yW S) (ABN Uf BB (kT S) (AG (λi=>Ku i (CJ S) (BQ (bM S i)) (AP (bM S i))))))) (MO HO (hd7 20 (yW S)) (BEC AF (DU (RV S) (CJ S)) Fq (oD 20 20) (AG (λi=>Gt i (RV S) (kP S i) (bM S i))) (And Fq (BM 20 (nS (SS.mk (gJ S) 0 20 hd8)))) (qT (RV S)) (AG (λi=>HJ i (RV S) (jZ (kP S i))))) (Ur (λi=>IB (Wx AF (kT S) (yW S) Uf (Yd 0 20) (Yd 20 (BOA (sG 20 20) (hd65 (BEG 2 (BQT hd53))))) (DU (CJ S) (RV S)) (AG (λj=>Gt j (CJ S) (bM S j) (dQ (gJ S) j)))) HO 0 0)) (AO (BEC AF (DU (RV S) (CJ S)) Fq (X9 S) (AG (λi=>Gt i (RV S) (kP S i) (bM S i))) (And Fq (MM (CJ S) (nS (SS.mk (gJ S) 0 (yW S) hd8)))) (qT (RV S)) (AG (λi=>HJ i (RV S) (jZ (kP S i))))) (KZ (AW AF (kT S) (X9 S) Uf (DU (CJ S) (RV S)) (AG (λi=>Gt i (CJ S) (dQ S i) (dQ (gJ S) i))))) (Ep (λi=>So HO 20 (yW S) zA (YJ (CJ S) (λj=>Ku j (CJ S) (BQ (dQ S j)) (AP (dQ S j))))))))):=by kernel_rfl
def sbE(r:List (Nat×AVal)):Shape:={ α:=One,dflt:=default,T:=λ_=>⟨[(0,.d NC),(1,.int 0),(2,jH),(6,.int 20)] ++ r,[]⟩,inv:=λ_=>True,meas:=λ_=>0 }
def CMH:Ann:={ ann 63 [(134,C_insS.spec dSS)] with loops:=λid=>if id=2 then some [sbE [(7,.int 0),(8,.int 20)]] else if id=7 then some [sbE []] else none }
def CPI(_x:One):Prop:=AS ZP CMH Tryz.f117 (AE Tryz.f117) [.d NC,.int 0,jH] (AB []) (.d (.tup [])) [] [] []
theorem CVC(_x:One):(CPI _x)=(Ir (KZ (EN (BPK AN BB Uf))) (PY HO (AO (zB AF AN BB BB (AAX BB)) (KZ (Gn AF AN (hd63 0) Uf)) (lN HO HO)))):=by kernel_rfl
def dSSt:List AVal->Heap->Option (SS×List (Nat×Nat)×List Nat)
 |[.own id _ _ n,.fn (.func f) [] []],H=>if f=80 then match H id with
  | .live (.row _ _ r)=>some (⟨HA n λi=>dGsD (r i),0,0,false⟩,[(100,id)],[])
  |_=>none else none
 |[.d (.list 0 0 _ _),.fn (.func f) [] []],_=>if f=80 then some (⟨[],0,0,true⟩,[],[]) else none
 |_,_=>none
def C_ssS:Ctr:={ α:=SS,xs:=λa=>[xSS a,jH],L:=lSS,val:=λ_=>.d (.tup []),keep:=kSS,pre:=λa=>[pSS a] }
def CNH:Ann:={ ann 9 [(117,C_stS.spec dSSs)] with E:=[100] }
def CQX(S:List (List Gau)):Prop:=AS ZP CNH Tryz.f79 (AE Tryz.f79) [oSS S,jH] (AB [(100,rowS S)]) (.d (.tup [])) (glS S (Ic S)) [] []
theorem CUY(S:List (List Gau)):(CQX S)=(WX (Wx AF (DU (RV S) (CJ S)) (yW S) (DU (RV S) (CJ S)) (AG (λi=>Gt i (RV S) (kP S i) (bM S i))) (MM (CJ S) (nS (SS.mk (gJ S) (yW S) 0 hd8))) (qT (RV S)) (AG (λi=>HJ i (RV S) (jZ (kP S i))))) (DU (CJ S) (RV S)) (λi=>Gt i (CJ S) (dQ S i) (dQ (gJ S) i))):=by kernel_rfl
def CNV:Ann:=ann 9 [(117,C_stS.spec dSSs)]
def COA(_x:One):Prop:=AS ZP CNV Tryz.f79 (AE Tryz.f79) [.d NC,jH] (AB []) (.d (.tup [])) [] [] []
theorem CRG(_x:One):(COA _x)=(((0:Nat)=(0:Nat)/\(∀(i:Nat),i<(0:Nat)->false=false)/\Int.ofNat (0:Nat)=Int.ofNat (0:Nat)/\Int.ofNat (0:Nat)=Int.ofNat (0:Nat)/\True)/\True):=
 by kernel_rfl
theorem CDG:AH ZP 80 (C_pv1.spec dGsP):=PW C_pv1 (λ_=>COL) [] [] Tryz.func80 (λ_=>by kernel_rfl) (λ_=>AA AJK AD) (λ(a:GsP) h=>by
 show CMG a;rw[CRK]<;> dsimp only[go_sem]
 obtain⟨h1,h2⟩:0<a.a.length/\0<a.b.length:=h
 exact⟨⟨⟨by omega,by omega⟩,by omega,by omega⟩,rfl⟩) (λ_=>RA rfl rfl) _
theorem CWF(l:List Gau):dGsD (AT l)=l:=by
 show HA l.length (λi=>Ky (Ry (gD l i)))=l
 simp only[CGR];exact RB l
theorem CEA(S:List (List Gau)):(HA S.length λi=>dGsD (AT (gD S i)))=S:=by
 simp only[CWF];exact RB S
theorem CVD(S:List (List Gau))(h:okSs S):CCI S:=by
 rw[CHY]<;> dsimp only[go_sem];simp only[CC,CU]
 obtain⟨hlen,hne⟩:=h
 have rfl3:∀(l:List Gau),l.length=l.length/\∀i,i<l.length->(gD l i).st=(gD l i).st/\(gD l i).lo=(gD l i).lo/\(gD l i).hi=(gD l i).hi:=λl=>⟨rfl,λ_ _=>⟨rfl,rfl,rfl⟩⟩
 refine⟨⟨⟨1,Il S.length⟩,⟨by show (1:Int)=_;rw[HL (by omega) (by omega)];rfl,λi hi=>?_⟩,Nat.one_pos,.inr rfl,⟨UK _,λi hi=>?_⟩,?_⟩,λx ⟨x1,x2,⟨x3,x4⟩,x5⟩=>⟨λhlt=>⟨⟨⟨x.i,x.i,x.l⟩,⟨rfl,rfl,λ_ _=>rfl3 _⟩,rfl,x1,Int.ofNat_lt.1 hlt,Nat.le_refl _,⟨x3,x4⟩,?_⟩,λy ⟨y1,y2,y3,y4,⟨y5,y6⟩,y7⟩=>?_⟩,λhge=>?_⟩⟩
 ·rw[ADW hi];exact rfl3 _
 ·rw[ADW hi];omega
 ·unfold Ic stM;rw[UK]
 ·rw[x5,show S.length-x.i=(S.length-(x.i+1))+1 by omega];rfl
 ·have g6:∀i,i<S.length->(gD y.l i).toNat<S.length:=λi hi=>by have:=y6 i hi;omega
  refine⟨⟨λ_=>⟨by omega,by omega⟩,λ_=>by omega,λhj=>?_,λhj=>?_,λhj=>⟨hne _ (g6 _ (by omega)),hne _ (g6 _ ?_)⟩⟩,λhc=>?_,λhc=>?_⟩
  ·rw[HL (by omega) (by omega)];omega
  ·rw[HL (by omega) (by omega)];omega
  ·rw[HL (by omega) (by omega)];omega
  ·have hj:0<y.j:=by
    cases hd:decide ((y.j:Int)>0) with
    |false=>rw[hd] at hc;cases hc
    |true=>have:=of_decide_eq_true hd;omega
   obtain⟨j,hj2⟩:∃j,y.j=j+1:=⟨y.j-1,by omega⟩
   have e:IntKind.i64.wrap ((y.j:Int)-1)=(j:Nat):=by rw[HL (by omega) (by omega)];omega
   rw[decide_eq_true (show (y.j:Int)>0 by omega)] at hc
   have hc:decide (Ib (keyS S (gD y.l y.j)) (keyS S (gD y.l (IntKind.i64.wrap ((y.j:Int)-1)).toNat))<0)=true:=hc
   rw[e] at hc ⊢
   simp only[Int.toNat_natCast] at hc ⊢
   refine⟨⟨⟨by omega,by omega⟩,by omega,⟨by omega,by omega⟩,by omega,⟨by omega,by omega⟩,by omega,⟨by omega,by omega⟩,by omega⟩,⟨y.i,j,swL y.l j⟩,⟨rfl,rfl,λi hi=>?_⟩,⟨y1,y2,y3,by show j<=y.i;omega,⟨by rw[AFY];exact y5,λi hi=>?_⟩,?_⟩,by show j<_;omega⟩
   ·show (gD S (gD (swL y.l j) i).toNat).length=_/\∀i_1,i_1<(gD S (gD (swL y.l j) i).toNat).length->(gD (gD S (gD (swL y.l j) i).toNat) i_1).st=_/\(gD (gD S (gD (swL y.l j) i).toNat) i_1).lo=_/\(gD (gD S (gD (swL y.l j) i).toNat) i_1).hi=_
    rw[ACB (by omega),hj2]
    cases decide (i=j)
    ·cases decide (i=j+1)
     ·exact rfl3 _
     ·exact rfl3 _
    ·exact rfl3 _
   ·show 0<=gD (swL y.l j) i/\gD (swL y.l j) i<_
    rw[ACB (by omega)]
    cases decide (i=j)
    ·cases decide (i=j+1)
     ·exact y6 i hi
     ·exact y6 j (by omega)
    ·exact y6 (j+1) (by omega)
   ·rw[hj2] at hc y7
    unfold Xi at y7
    rw[hc] at y7;exact y7
  ·have hq:Xi (keyS S) y.j y.l=y.l:=by
    cases hd:decide ((y.j:Int)>0) with
    |false=>
     have:=of_decide_eq_false hd
     rw[show y.j=0 by omega];rfl
    |true=>
     have hj:=of_decide_eq_true hd
     obtain⟨j,hj2⟩:∃j,y.j=j+1:=⟨y.j-1,by omega⟩
     have e:IntKind.i64.wrap ((y.j:Int)-1)=(j:Nat):=by rw[HL (by omega) (by omega)];omega
     rw[hd] at hc
     have hc:decide (Ib (keyS S (gD y.l y.j)) (keyS S (gD y.l (IntKind.i64.wrap ((y.j:Int)-1)).toNat))<0)=false:=hc
     rw[e,hj2] at hc
     simp only[Int.toNat_natCast] at hc
     rw[hj2];unfold Xi;rw[hc];rfl
   rw[hq] at y7
   refine⟨⟨y.i+1,y.l⟩,⟨(BF (by omega)).symm,λ_ _=>rfl3 _⟩,⟨by show 0<y.i+1;omega,.inl (by show y.i+1<=_;omega),⟨y5,y6⟩,y7⟩,by show S.length-(y.i+1)<_;omega⟩
 ·intro i hi
  rw[x5,show S.length-x.i=0 by omega];exact rfl3 _
theorem BQU:AH ZP 134 (C_insS.spec dSS):=okT C_insS (λ(a:SS) h=>by
 obtain⟨⟨ha,hb⟩,h⟩:(a.a=0/\a.b=nS a)/\pSS a:=h
 obtain⟨S,x,y,e⟩:=a
 cases ha
 have hb:y=nS ⟨S,0,y,e⟩:=hb
 cases e with
 |true=>
  show FnT ZP 134 [.d NC,.int 0,.int y,jH] (AB []) _ []
  rw[show y=0 from hb]
  exact WP (A:=CAG) (L:=[]) (keep:=[]) (ren:=[]) (fz:=[]) Tryz.func134 (by kernel_rfl) (AA CDG AD) (by show CBR default;rw[CHZ]<;> dsimp only[go_sem];simp only[CC,CU];exact⟨default,rfl⟩)
 |false=>
  show FnT ZP 134 [oSS S,.int 0,.int y,jH] (AB [(100,rowS S)]) _ (glS S (Ic S))
  rw[show y=S.length from hb]
  exact WP (A:=BWM S) (L:=[(100,rowS S)]) (keep:=glS S (Ic S)) (ren:=[]) (fz:=[]) Tryz.func134 (by kernel_rfl) (AA CDG AD) (CVD S h)) _
theorem CAJ:AH ZP 117 (C_stS.spec dSSs):=okT C_stS (λ(a:SS) h=>by
 obtain⟨ha,h⟩:a.a=nS a/\pSS a:=h
 obtain⟨S,x,y,e⟩:=a
 have ha:x=nS ⟨S,x,y,e⟩:=ha
 cases e with
 |true=>
  show FnT ZP 117 [.d NC,.int x,jH] (AB []) _ []
  rw[show x=0 from ha]
  exact WP (A:=CMH) (L:=[]) (keep:=[]) (ren:=[]) (fz:=[]) Tryz.func117 (by kernel_rfl) (AA BQU AD) (by show CPI default;rw[CVC]<;> dsimp only[go_sem];simp only[CC,CU];exact⟨default,trivial⟩)
 |false=>
  have h:okSs S:=h
  show FnT ZP 117 [oSS S,.int x,jH] (AB [(100,rowS S)]) _ (glS S (Ic S))
  rw[show x=S.length from ha]
  refine WP (A:=CMB S) (L:=[(100,rowS S)]) (keep:=glS S (Ic S)) (ren:=[]) (fz:=[]) Tryz.func117 (by kernel_rfl) (AA BQU AD) ?_
  show CNL S
  rw[CSO]<;> dsimp only[go_sem];simp only[CC,CU,CEA]
  have h1:=h.1
  exact⟨⟨default,trivial⟩,λhc=>by omega,λ_=>⟨⟨rfl,⟨rfl,rfl⟩,h⟩,⟨default,trivial⟩,λhc=>by omega⟩⟩) _
theorem BYB:AH ZP 79 (C_ssS.spec dSSt):=okT C_ssS (λ(a:SS) h=>by
 have h:pSS a:=h
 obtain⟨S,x,y,e⟩:=a
 cases e with
 |true=>
  show FnT ZP 79 [.d NC,jH] (AB []) _ []
  exact WP (A:=CNV) (L:=[]) (keep:=[]) (ren:=[]) (fz:=[]) Tryz.func79 (by kernel_rfl) (AA CAJ AD) (by show COA default;rw[CRG];simp only[CC,CU])
 |false=>
  have h:okSs S:=h
  show FnT ZP 79 [oSS S,jH] (AB [(100,rowS S)]) _ (glS S (Ic S))
  refine WP (A:=CNH) (L:=[(100,rowS S)]) (keep:=glS S (Ic S)) (ren:=[]) (fz:=[]) Tryz.func79 (by kernel_rfl) (AA CAJ AD) ?_
  show CQX S
  rw[CUY]<;> dsimp only[go_sem];simp only[CC,CU,CEA]
  exact⟨rfl,h⟩) _
end Go.Bal
