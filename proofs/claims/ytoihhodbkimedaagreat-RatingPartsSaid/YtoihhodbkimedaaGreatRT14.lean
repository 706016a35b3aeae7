/- Package rating: what Proves, Knot and Through return for the fewest parts (no program in sight). -/
import Derived.Test.YtoihhodbkimedaaGreatRT13
import Derived.Test.YtoihhodbkimedaaGreatRatPw
import Derived.Test.YtoihhodbkimedaaGreatRZ6
import Derived.Test.YtoihhodbkimedaaGreatRatU
set_option linter.unusedVariables false
set_option linter.unusedSimpArgs false
namespace Go.Bal
open Go Go.Sym Go.Proofs
theorem AZZ{α β:Type}[Inhabited α](f:α->β)(l:List α):(List.range l.length).map (λi=>f (gD l i))=l.map f:=by
 apply List.ext_getElem (by simp)
 intro i h1 h2
 simp at h1
 simp[gD,List.getD_eq_getElem?_getD,h1]
theorem AAV(a:PV):(Hp a).Perm (bS a):=by
 have h1:=(UY (DM (bS a)) (WH (bS a).length)).map λx:Int=>gD (bS a) x.toNat
 have e:(WH (bS a).length).map (λx:Int=>gD (bS a) x.toNat)=bS a:=by
  unfold WH
  rw[List.map_map]
  have:=AZZ (λx:List Gau=>x) (bS a)
  simpa[Function.comp_def] using this
 rw[e] at h1;exact h1
theorem AMV{a:PV}:∀i,i+1<(Hp a).length->fsS (gD (Hp a) i)<=fsS (gD (Hp a) (i+1)):=λi hi=>by
 rw[BAT] at hi
 have:=ARA (DM (bS a)) (WH (bS a).length) i (i+1) (by omega) (by rw[RW,Dz];omega)
 rw[BBE (by omega),BBE (by omega)]
 exact this
theorem AQZ{T:List (List Gau)}{i:Nat}:badP T i=false↔(DC (gD T i)).2=false/\(0<i->laS (gD T (i-1))<=fsS (gD T i)):=by
 unfold badP
 cases (DC (gD T i)).2 with
 |true=>exact⟨λh=>(by cases h),λh=>(by cases h.1)⟩
 |false=>
  by_cases h0:0<i
  ·rw[decide_eq_true (show (i:Int)>0 by omega)]
   show decide (laS (gD T (i-1))>fsS (gD T i))=false↔_
   rw[decide_eq_false_iff_not]
   exact⟨λh=>⟨rfl,λ_=>by omega⟩,λh=>by have:=h.2 h0;omega⟩
  ·rw[decide_eq_false (show ¬(i:Int)>0 by omega)]
   exact⟨λ_=>⟨rfl,λh=>absurd h h0⟩,λ_=>rfl⟩
theorem BDG{T:List (List Gau)}:∀(n i:Nat),qN T n i=true↔∀j,i<=j->j<i+n->badP T j=false
 |0,i=>⟨λ_ j h1 h2=>by omega,λ_=>rfl⟩
 |n+1,i=>by
  unfold qN
  cases hb:badP T i with
  |true=>exact⟨λh=>(by cases h),λh=>by rw[h i (Nat.le_refl _) (by omega)] at hb;cases hb⟩
  |false=>
   show qN T n (i+1)=true↔_
   rw[BDG n (i+1)]
   exact⟨λh j h1 h2=>by
    by_cases e:j=i
    ·rw[e];exact hb
    ·exact h j (by omega) (by omega),λh j h1 h2=>h j (by omega) (by omega)⟩
theorem APU{g:List Gau}{m:Int}{k:List (List Int)}{o:Bool}(hc:AV g=0)(hk:k.length<=24)(hn:∀i,i<k.length->(Gr ⟨g,gD k i⟩).2=true):bV ⟨g,m,k,o⟩=0/\(pQ ⟨g,m,k,o⟩=true↔m<=k.length+1/\(∀s∈bS ⟨g,m,k,o⟩,¬Can s)/\∀i,i+1<(Hp ⟨g,m,k,o⟩).length->laS (gD (Hp ⟨g,m,k,o⟩) i)<=fsS (gD (Hp ⟨g,m,k,o⟩) (i+1))):=by
 generalize ha:(⟨g,m,k,o⟩:PV)=a
 have hc:AV a.g=0:=by rw[<-ha];exact hc
 have hk:a.k.length<=24:=by rw[<-ha];exact hk
 have hn:∀i,i<a.k.length->(Gr ⟨a.g,gD a.k i⟩).2=true:=by rw[<-ha];exact hn
 have em:m=a.m:=by rw[<-ha]
 have ek:k=a.k:=by rw[<-ha]
 rw[em,ek]
 obtain⟨⟨hl1,hl2⟩,ho⟩:=NV hc
 obtain⟨e1,e2⟩:=CCZ hc hk (ACO.2 hn)
 refine⟨e1,?_⟩
 have w:wr ((a.k.length:Int)+1)=(a.k.length:Int)+1:=JH (by omega) (by omega)
 have cn:∀i,i<(Hp a).length->((DC (gD (Hp a) i)).2=false↔¬Can (gD (Hp a) i)):=λi hi=>by
  rw[BAT] at hi
  obtain⟨j,hj,e⟩:=BXZ hi
  have:=(BGR (a:=⟨a.g,gD a.k j⟩) (show a.g.length<1073741824 by omega) (hn j hj)).2
  rw[e]
  have hL:=(bY (s:=By ⟨a.g,gD a.k j⟩) λx hx=>ho x (this.sub x hx)).1
  rw[<-hL];simp
 rw[e2,w]
 have key:qN (Hp a) (Hp a).length 0=true↔(∀s∈bS a,¬Can s)/\∀i,i+1<(Hp a).length->laS (gD (Hp a) i)<=fsS (gD (Hp a) (i+1)):=by
  rw[BDG]
  constructor
  ·intro h
   refine⟨λs hs=>?_,λi hi=>?_⟩
   ·obtain⟨i,hi,rfl⟩:=NL ((AAV a).mem_iff.2 hs)
    exact (cn i hi).1 (AQZ.1 (h i (Nat.zero_le _) (by omega))).1
   ·exact (AQZ.1 (h (i+1) (Nat.zero_le _) (by omega))).2 (Nat.succ_pos _)
  ·rintro⟨h1,h2⟩ j _ hj
   have hj:j<(Hp a).length:=by omega
   refine AQZ.2 ⟨(cn j hj).2 (h1 _ ((AAV a).mem_iff.1 (CV hj))),λh0=>?_⟩
   have:=h2 (j-1) (by omega)
   rwa [show j-1+1=j by omega] at this
 cases hq:qN (Hp a) (Hp a).length 0 with
 |true=>
  show decide (a.m<=(a.k.length:Int)+1)=true↔_
  rw[decide_eq_true_iff]
  exact⟨λh=>⟨h,key.1 hq⟩,λh=>h.1⟩
 |false=>exact⟨λh=>(by cases h),λh=>by rw[key.2 h.2] at hq;cases hq⟩
theorem Few.prv{g:List Gau}{b:List Int}{l:List Ln}{k:List (List Int)}(W:Few g b l k)(hc:AV g=0){k':List (List Int)}(hp:k'.Perm k)(m:Int)(o:Bool):bV ⟨g,m,k',o⟩=0/\pQ ⟨g,m,k',o⟩=decide (m<=k.length+1):=by
 have hl:=hp.length_eq
 have hk:k.length<=24:=by
  have:=W.lenk
  have:=W.few
  omega
 have kn:∀z∈k,QZ ⟨g,z⟩=true/\(Gr ⟨g,z⟩).2=true/\SetOk g (By ⟨g,z⟩)/\¬Can (By ⟨g,z⟩):=λz hz=>by
  obtain⟨i,hi,rfl⟩:=NL hz
  have:=W.knot hc (i:=i) (by rw[<-W.lenk];exact hi)
  exact⟨this.tied,this.nm,this.set,this.no⟩
 obtain⟨e1,e2⟩:=APU (g:=g) (m:=m) (k:=k') (o:=o) hc (by omega) λi hi=>(kn _ (hp.mem_iff.1 (CV hi))).2.1
 refine⟨e1,?_⟩
 have hS:∀s∈bS ⟨g,m,k',o⟩,¬Can s/\fsS s<laS s:=λs hs=>by
  obtain⟨z,hz,rfl⟩:=List.mem_map.1 hs
  have:=kn z (hp.mem_iff.1 hz)
  exact⟨this.2.2.2,this.2.2.1.lt⟩
 have hq:(bS ⟨g,m,k',o⟩).Perm (k.map λz=>By ⟨g,z⟩):=hp.map _
 have ch:=ABE ((AAV ⟨g,m,k',o⟩).trans hq) (W.apart hc) (λs hs=>(hS s (hq.mem_iff.2 hs)).2) AMV
 by_cases hm:m<=k.length+1
 ·rw[decide_eq_true hm]
  exact e2.2 ⟨by omega,λs hs=>(hS s hs).1,ch⟩
 ·rw[decide_eq_false hm]
  cases hq:pQ ⟨g,m,k',o⟩ with
  |false=>rfl
  |true=>have:=(e2.1 hq).1;omega
end Go.Bal

namespace Go.Bal
open Go Go.Sym Go.Proofs
def bdG(s:List Gau)(i:Nat):Prop:=i=0∨i=s.length∨(gD s (i-1)).st≠(gD s i).st
def iF(s:List Gau)(i j:Nat):List Gau:=(s.take j).drop i
def chn(s:List Gau):Nat->Nat->Prop
 |0,i=>i=s.length
 |k+1,i=>i<s.length/\bdG s i/\∃j,i<j/\j<=s.length/\bdG s j/\Can (iF s i j)/\chn s k j
theorem BYE{s:List Gau}{i j p:Nat}(h1:i<=p)(h2:p<j)(h3:p<s.length):gD s p∈iF s i j:=by
 unfold iF
 have e:gD ((s.take j).drop i) (p-i)=gD s p:=by
  simp only[gD,List.getD_eq_getElem?_getD,List.getElem?_drop,List.getElem?_take]
  rw[show i+(p-i)=p by omega,if_pos h2]
 rw[<-e]
 exact CV (by rw[List.length_drop,List.length_take];omega)
theorem BAF{s:List Gau}{i:Nat}{g:Gau}(h:g∈s.drop i):∃p,i<=p/\p<s.length/\gD s p=g:=by
 obtain⟨q,hq,rfl⟩:=NL h
 rw[List.length_drop] at hq
 refine⟨i+q,by omega,by omega,?_⟩
 simp only[gD,List.getD_eq_getElem?_getD,List.getElem?_drop]
theorem CJW{s:List Gau}(ha:yD s){j p:Nat}(hj:j<s.length)(hb:bdG s j)(hp:p<j):(gD s p).st<(gD s j).st:=by
 have h1:=ha p (j-1) (by omega) (by omega)
 have h2:=ha (j-1) j (by omega) hj
 rcases hb with h | h | h
 ·omega
 ·omega
 ·omega
theorem BDX(x:Int)(c:List Int)(t:Int):Et (x :: c) t=(if x<=t then 1 else 0)+Et c t:=by
 unfold Et
 rw[List.countP_cons]
 by_cases h:x<=t
 ·simp[h];omega
 ·simp[h]
theorem BWW{c:List Int}{t:Int}(h:∀x∈c,t<x):Et c t=0:=by
 unfold Et
 rw[List.countP_eq_zero]
 intro x hx
 have:=h x hx
 simp;omega
theorem Q2{s:List Gau}(ha:yD s):∀(k i:Nat),chn s (k+1) i->∃c:List Int,c.length=k/\asc c/\(∀x∈c,(gD s i).st<x)/\∀j,j<=k->Can ((s.drop i).filter λg=>Et c g.st==j)
 |0,i,⟨h1,h2,j,h3,h4,h5,h6,h7⟩=>by
  have h7:j=s.length:=h7
  subst h7
  refine⟨[],rfl,List.Pairwise.nil,λx hx=>(by cases hx),λj hj=>h6.mono λg hg=>?_⟩
  obtain⟨p,p1,p2,rfl⟩:=BAF (List.mem_filter.1 hg).1
  exact BYE p1 p2 p2
 |k+1,i,⟨h1,h2,j,h3,h4,h5,h6,h7⟩=>by
  have hj:j<s.length:=h7.1
  obtain⟨c,c1,c2,c3,c4⟩:=Q2 ha k j h7
  have hij:=CJW ha hj h5 h3
  refine⟨(gD s j).st :: c,by simp[c1],List.pairwise_cons.2 ⟨c3,c2⟩,λx hx=>?_,λm hm=>?_⟩
  ·rcases List.mem_cons.1 hx with rfl | hx
   ·exact hij
   ·have:=c3 x hx;omega
  ·cases m with
   |zero=>
    refine h6.mono λg hg=>?_
    obtain⟨g1,g2⟩:=List.mem_filter.1 hg
    obtain⟨p,p1,p2,rfl⟩:=BAF g1
    have g2:=eq_of_beq g2
    rw[BDX] at g2
    refine BYE p1 ?_ p2
    refine Classical.byContradiction λhn=>?_
    have:=ha j p (by omega) p2
    rw[if_pos this] at g2;omega
   |succ m=>
    refine (c4 m (by omega)).mono λg hg=>?_
    obtain⟨g1,g2⟩:=List.mem_filter.1 hg
    obtain⟨p,p1,p2,rfl⟩:=BAF g1
    have g2:=eq_of_beq g2
    rw[BDX] at g2
    have hp:j<=p:=by
     refine Classical.byContradiction λhn=>?_
     have h8:=CJW ha hj h5 (show p<j by omega)
     rw[if_neg (by omega),BWW (λx hx=>by have:=c3 x hx;omega)] at g2
     omega
    have h9:=ha j p hp p2
    rw[if_pos h9] at g2
    refine List.mem_filter.2 ⟨?_,beq_iff_eq.2 (by omega)⟩
    have e:gD (s.drop j) (p-j)=gD s p:=by
     simp only[gD,List.getD_eq_getElem?_getD,List.getElem?_drop]
     rw[show j+(p-j)=p by omega]
    rw[<-e]
    exact CV (by rw[List.length_drop];omega)
theorem BRM{g:List Gau}{b:List Int}{l:List Ln}{k:List (List Int)}(W:Few g b l k){m:Nat}(h:chn (FW g) m 0)(hg:0<g.length):b.length+1<=m:=by
 cases m with
 |zero=>
  have h:0=(FW g).length:=h
  rw[(LR g).length_eq] at h;omega
 |succ m=>
  obtain⟨c,c1,c2,c3,c4⟩:=Q2 (rC g) m 0 h
  have:=W.least (c:=c) λi hi=>(c4 i (by omega)).mono λx hx=>by
   obtain⟨x1,x2⟩:=Lw.1 hx
   exact List.mem_filter.2 ⟨(LR g).mem_iff.2 x1,beq_iff_eq.2 (by omega)⟩
  omega
theorem BUT{g:List Gau}{x:Gau}(hx:x∈g)(hn:¬Can (g.filter λy=>y.st==x.st))(m:Nat):¬chn (FW g) m 0:=λh=>by
 cases m with
 |zero=>
  have h:0=(FW g).length:=h
  rw[(LR g).length_eq] at h
  have:=List.length_pos_of_mem hx;omega
 |succ m=>
  obtain⟨c,c1,c2,c3,c4⟩:=Q2 (rC g) m 0 h
  refine hn ((c4 (Et c x.st) (by rw[<-c1];exact AYR _ _)).mono λy hy=>?_)
  obtain⟨y1,y2⟩:=List.mem_filter.1 hy
  refine List.mem_filter.2 ⟨(LR g).mem_iff.2 y1,beq_iff_eq.2 ?_⟩
  rw[eq_of_beq y2]
end Go.Bal

namespace Go.Bal
open Go Go.Sym Go.Proofs
def fA(t:Int):List Gau->Nat
 |[]=>0
 |g :: l=>if g.st<t then fA t l+1 else 0
theorem BLQ(t:Int):∀s:List Gau,fA t s<=s.length
 |[]=>Nat.le_refl _
 |g :: l=>by
  unfold fA
  split
  ·have:=BLQ t l;show _<=l.length+1;omega
  ·exact Nat.zero_le _
theorem ABF(t:Int):∀(s:List Gau) (i:Nat),i<fA t s->(gD s i).st<t
 |[],i,h=>by have h:i<0:=h;omega
 |g :: l,i,h=>by
  unfold fA at h
  by_cases c:g.st<t
  ·rw[if_pos c] at h
   cases i with
   |zero=>exact c
   |succ i=>exact ABF t l i (by omega)
  ·rw[if_neg c] at h;omega
theorem ACD(t:Int):∀s:List Gau,fA t s<s.length->t<=(gD s (fA t s)).st
 |[],h=>by have h:0<0:=h;omega
 |g :: l,h=>by
  unfold fA at h ⊢
  by_cases c:g.st<t
  ·rw[if_pos c] at h ⊢
   exact ACD t l (by have h:fA t l+1<l.length+1:=h;omega)
  ·rw[if_neg c];show t<=g.st;omega
theorem CHW{s:List Gau}{t:Int}{x:Gau}(ha:yD s)(hx:x∈s)(h:t<=x.st):fA t s<s.length:=by
 obtain⟨i,hi,rfl⟩:=NL hx
 refine Classical.byContradiction λhn=>?_
 have:=ABF t s i (by omega)
 omega
theorem CEM{s:List Gau}{t:Int}(h:fA t s<s.length):bdG s (fA t s):=by
 by_cases h0:fA t s=0
 ·exact .inl h0
 ·have h1:=ABF t s (fA t s-1) (by omega)
  have h2:=ACD t s h
  exact .inr (.inr (by omega))
theorem BQD{s:List Gau}{t u:Int}(ha:yD s){x:Gau}(hx:x∈s)(h1:t<=x.st)(h2:x.st<u):fA t s<fA u s:=by
 obtain⟨i,hi,rfl⟩:=NL hx
 refine Classical.byContradiction λhn=>?_
 have hu:=BLQ t s
 by_cases hi2:i<fA t s
 ·have:=ABF t s i hi2;omega
 ·have h3:=ACD u s (by omega)
  have:=ha (fA u s) i (by omega) hi
  omega
theorem AQU{s:List Gau}{i j:Nat}{x:Gau}(h:x∈iF s i j):∃p,i<=p/\p<j/\p<s.length/\gD s p=x:=by
 unfold iF at h
 obtain⟨q,hq,rfl⟩:=NL h
 rw[List.length_drop,List.length_take] at hq
 refine⟨i+q,by omega,by omega,by omega,?_⟩
 simp only[gD,List.getD_eq_getElem?_getD,List.getElem?_drop,List.getElem?_take]
 rw[if_pos (by omega)]
def idxG(s:List Gau)(b:List Int)(j:Nat):Nat:=if j=0 then 0 else fA (gD b (j-1)) s
theorem AUL{g:List Gau}{b:List Int}{l:List Ln}{k:List (List Int)}(W:Few g b l k){i:Nat}(hi:i<b.length):∃x∈g,x.st=gD b i:=by
 obtain⟨P,hp⟩:=W.parts
 obtain⟨a1,a2,a3,a4⟩:=hp.up i hi
 exact⟨_,Hj a2,a4.symm⟩
theorem BQN{g:List Gau}{b:List Int}{l:List Ln}{k:List (List Int)}(W:Few g b l k)(hb:0<b.length):∃x∈g,x.st<gD b 0:=by
 obtain⟨P,hp⟩:=W.parts
 obtain⟨a1,a2,a3,a4⟩:=hp.up 0 hb
 rw[hp.zero] at a1
 exact⟨_,Hj (i:=0) (by omega),by rw[a4];exact a3 0 (gD P (0+1)) a1 (Nat.le_refl _) a2⟩
theorem CGG{g:List Gau}{b:List Int}{l:List Ln}{k:List (List Int)}(W:Few g b l k)(hc:AV g=0):∀m j,j+m=b.length->chn (FW g) (m+1) (idxG (FW g) b j):=λm=>by
 have ha:=rC g
 have hl:=(LR g).length_eq
 have hg:=(NV hc).1
 have hT:=(W.thru hc).can
 have mem:∀{x},x∈g->x∈FW g:=λh=>(LR g).mem_iff.2 h
 have start:∀j,j<=b.length->idxG (FW g) b j<(FW g).length/\bdG (FW g) (idxG (FW g) b j):=λj hj=>by
  unfold idxG
  by_cases h0:j=0
  ·rw[if_pos h0];exact⟨by omega,.inl rfl⟩
  ·rw[if_neg h0]
   obtain⟨x,x1,x2⟩:=AUL W (i:=j-1) (by omega)
   have:=CHW (t:=gD b (j-1)) ha (mem x1) (by omega)
   exact⟨this,CEM this⟩
 have below:∀{j p:Nat},j<=b.length->idxG (FW g) b j<=p->p<(FW g).length->∀q,q<j->gD b q<=(gD (FW g) p).st:=λ{j p} hj h1 h2 q hq=>by
  unfold idxG at h1
  rw[if_neg (by omega)] at h1
  have h3:=ACD (gD b (j-1)) (FW g) (by omega)
  have h4:=ha _ _ h1 h2
  by_cases e:q=j-1
  ·rw[e];omega
  ·have:=Qf W.asc (show q<j-1 by omega) (by omega);omega
 induction m with
 |zero=>
  intro j hj
  obtain⟨s1,s2⟩:=start j (by omega)
  refine⟨s1,s2,(FW g).length,s1,Nat.le_refl _,.inr (.inl rfl),(hT j (by omega)).mono λx hx=>?_,rfl⟩
  obtain⟨p,p1,p2,p3,rfl⟩:=AQU hx
  refine Lw.2 ⟨(LR g).mem_iff.1 (CV p3),?_⟩
  unfold Et
  refine congrArg (Nat.cast:Nat->Int) ?_
  exact iK (l:=b) (p:=λy=>decide (y<=(gD (FW g) p).st)) (by omega) (λq hq=>decide_eq_true (below (by omega) p1 p3 q hq)) (λq h1 h2=>by omega)
 |succ m ih=>
  intro j hj
  obtain⟨s1,s2⟩:=start j (by omega)
  obtain⟨t1,t2⟩:=start (j+1) (by omega)
  have ej:idxG (FW g) b (j+1)=fA (gD b j) (FW g):=by unfold idxG;rw[if_neg (by omega)];rfl
  have hlt:idxG (FW g) b j<idxG (FW g) b (j+1):=by
   rw[ej]
   by_cases h0:j=0
   ·subst h0
    obtain⟨x,x1,x2⟩:=BQN W (by omega)
    obtain⟨i,hi,e⟩:=NL (mem x1)
    show 0<_
    refine Nat.pos_of_ne_zero λhz=>?_
    have h3:=ACD (gD b 0) (FW g) (by omega)
    rw[hz] at h3
    have:=ha 0 i (Nat.zero_le _) hi
    rw[e] at this;omega
   ·have e2:idxG (FW g) b j=fA (gD b (j-1)) (FW g):=by unfold idxG;rw[if_neg h0]
    rw[e2]
    obtain⟨x,x1,x2⟩:=AUL W (i:=j-1) (by omega)
    have:=Qf W.asc (show j-1<j by omega) (by omega)
    exact BQD ha (mem x1) (by omega) (by omega)
  refine⟨s1,s2,idxG (FW g) b (j+1),hlt,Nat.le_of_lt t1,t2,(hT j (by omega)).mono λx hx=>?_,ih (j+1) (by omega)⟩
  obtain⟨p,p1,p2,p3,rfl⟩:=AQU hx
  refine Lw.2 ⟨(LR g).mem_iff.1 (CV p3),?_⟩
  rw[ej] at p2
  have h5:=ABF (gD b j) (FW g) p p2
  unfold Et
  refine congrArg (Nat.cast:Nat->Int) ?_
  refine iK (l:=b) (p:=λy=>decide (y<=(gD (FW g) p).st)) (by omega) (λq hq=>decide_eq_true (below (by omega) p1 p3 q hq)) (λq h1 h2=>decide_eq_false ?_)
  by_cases e:q=j
  ·rw[e];omega
  ·have:=Qf W.asc (show j<q by omega) h2;omega
end Go.Bal

namespace Go.Bal
open Go Go.Sym Go.Proofs
structure GR where
 g:List Gau
 r:Rtg
def dGR:List AVal->Heap->Option (GR×List (Nat×Nat)×List Nat)
 |[x,y],H=>match aE x H,dRtg y H with
  |some (l,f),some (r,e)=>some (⟨l,r⟩,[],f ++ e)
  |_,_=>none
 |_,_=>none
def xGR(a:GR):List AVal:=[.d (BX a.g),.d (eRtg a.r)]
def notP(a:GR)(i:Nat):Bool:=!LB (gD a.r.l (Et a.r.b (gD a.g i).st)) (gD a.g i)
def H7(a:GR)(n:Nat):List Int:=((List.range n).filter (notP a)).map Int.ofNat
def qP(a:GR):Int:=bif AV a.g==0 then Eg a.r else AV a.g
def L0(a:GR):List Int:=bif qP a==0 then H7 a a.g.length else []
def C_Passes:Ctr:={ α:=GR,xs:=xGR,L:=λ_=>[],val:=λa=>.tup [.d (CZ (L0 a)),.int (qP a)],keep:=λ_=>[],pre:=λa=>[a.g.length<1073741824/\a.r.b.length<1073741824/\a.r.l.length<1073741824] }
structure KI where
 k:Nat
 l:List Int
 deriving Inhabited
def rtgC(r:Rtg):HCell:=.live (.box [.d (CZ r.b),.d (eLns r.l)])
def psI(a:GR)(k:Nat)(l:List Int):Prop:=qP a=0/\k<=a.g.length/\l=H7 a k
def thrK(a:GB):Nat->Nat->Bool
 |0,_=>true
 |n+1,k=>bif (DC (Ja (PB a) k)).2 then thrK a n (k+1) else false
def thrM(a:GB):Bool:=bif EG a==0 then thrK a (a.b.length+1) 0 else false
def C_Through:Ctr:={ α:=GB,xs:=xGB,L:=λ_=>[],val:=λa=>.tup [.bool (thrM a),.int (EG a)],keep:=λ_=>[],pre:=λx=>[preB x/\True] }
def th5(a:GB):Shape:={ α:=Nat,dflt:=0,T:=λk=>⟨[(6,.bptr 2032 0),(22,.int (a.b.length+1)),(23,.int k)],bkH (PB a) 2032 2033⟩,inv:=λk=>k<=a.b.length+1/\thrM a=thrK a (a.b.length+1-k) k,meas:=λk=>a.b.length+1-k }
def G_th(c:Sym.Spec):List (FuncId×Sym.Spec):=[(Sz,c),(ACW,C_inside.spec dBkI),(AFL,C_line.spec dGsK)]
def CMF(a:GB):Ann:={ ann 36 (G_th (C_open.spec dGB)) with loops:=λid=>if id=5 then some [th5 a] else none }
def CML:Ann:={ ann 36 (G_th (C_openX.spec dGB)) with cut:=λid=>if id=4 then some [] else none }
def CJP(a:GB):Prop:=BQ Try.prog (CMF a) kJ (AI kJ) (xGB a) (AD []) (C_Through.val a) [] [] []
abbrev Lo:=thrM
abbrev Da a:=gZ (GP a)
attribute [go_sem] Lo Da
theorem CQF(a:GB):(CJP a)=(KC (IQ (TJ a) (WE a) (UG a) (NY (UA a) (UB a) (Dl a) (TE a) (CP (TD a)))) (FB (λi=>DE (AO (Xh a) (DU (tJ a))) (OF (BD i) (PD (GP a) (IG a)) (PE (GP a) (IG a)) (OM (GP a) (IG a)) (PC (GP a) (IG a)) ZM (JK (GP a) (IG a)) (λj=>CJ (GP a) j (IG a) (λk=>CK k (GP a) j (IG a) (EJ (BO (GP a) j k) (BO (IG a) j k) (BI (GP a) j k) (BI (IG a) j k) (DW (GP a) j k) (IG a) j k)))) (BU i (YW a)) (JT (Lo a) (thrK a (EF (YW a) i) i)))) (λi=>FH (VH i (YW a) (JT (Lo a) (thrK a (EF (YW a) i) i))) i (Xh a) (BJ (BE i) (NM (Hd (GP a)) (GP a)) (NH (Hd (GP a)) (GP a)) (SB (XT (GP a)) (GP a)) (SE (XT (GP a)) (GP a)) (AX EQ ZM (OP (GP a)) (BG (λj=>CJ (Da a) j (GP a) (λk=>CK k (Da a) j (GP a) (EJ (BO (Da a) j k) (BO (GP a) j k) (BI (Da a) j k) (BI (GP a) j k) (DW (Da a) j k) (GP a) j k)))) (AW (bP a) (Hd (GP a))) (ER (bP a) (Hd (GP a))) (AY (aT a) (XT (GP a))) (BM (aT a) (XT (GP a))) (AX EQ ZM (OP (GP a)) (BG (λj=>CJ (GP a) j (Da a) (λk=>CK k (GP a) j (Da a) (EJ (BO (GP a) j k) (BO (Da a) j k) (BI (GP a) j k) (BI (Da a) j k) (DW (GP a) j k) (Da a) j k)))) (Vc (LA (Hd (GP a)) (XT (GP a)) ES)) (CE (bZ (Da a) (AQ i))) (BB (bZ (Da a) (AQ i))) (FN (bZ (Da a) (AQ i))) (RZ (bZ (Da a) (AQ i)))))) (Is (Kt (bZ (Da a) (AQ i))) (Lo a) (CP (SZ a)) (FB (λj=>EV (And (AM (Xh a)) (OF (BS j i) (AZ (bP a)) (BN (bP a)) (CX (aT a)) (FC (aT a)) ZM (OP (GP a)) (λk=>UL (GP a) k (λl=>UC l (GP a) k (BO (GP a) k l))))) (VH j (YW a) (JT (Lo a) (thrK a (EF (YW a) j) j))) (YW a) j i))) (And (EL (Lo a)) (CP (SZ a))))):=by kernel_rfl
def CKA(a:GB):Prop:=BQ Try.prog CML kJ (AI kJ) (xGB a) (AD []) (C_Through.val a) [] [] []
theorem COI(a:GB):(CKA a)=(AG (IQ (TJ a) (WE a) (UG a) (NY (UA a) (UB a) (Dl a) (TE a) (Bg (TD a)))) (UK (FI (TD a)) (Lo a) (SZ a) (TD a) Sv) FP):=by kernel_rfl
def okRt(r:Rtg):Prop:=asc r.b/\r.l.length=r.b.length+1/\(∀x∈r.l,PJ x)/\r.b.length<=24
theorem BQK{r:Rtg}(h:Eg r=0):okRt r/\∀x∈r.b,1<=x/\x<=2000:=by
 unfold Eg at h
 cases hb:RM r.b != 0 with
 |true=>rw[hb] at h;have h:RM r.b=0:=h;rw[h] at hb;cases hb
 |false=>
  rw[hb] at h
  have hb0:RM r.b=0:=by simpa using hb
  cases hl:(r.l.length:Int) != (r.b.length:Int)+1 with
  |true=>rw[hl] at h;cases h
  |false=>
   rw[hl] at h
   cases hr:r.l.all Va with
   |false=>rw[hr] at h;cases h
   |true=>
    have hl0:(r.l.length:Int)=(r.b.length:Int)+1:=by simpa using hl
    unfold RM at hb0
    split at hb0
    ·cases hb0
    ·obtain⟨h5,h6⟩:=BFK _ 0 (by omega) hb0
     exact⟨⟨h5,by omega,λx hx=>aQ.1 (List.all_eq_true.1 hr x hx),by omega⟩,λx hx=>by have:=h6 x hx;omega⟩
theorem vR{a:GR}{k:Nat}:H7 a (k+1)=if notP a k=true then H7 a k ++ [(k:Int)] else H7 a k:=by
 unfold H7
 rw[List.range_succ,List.filter_append,List.map_append]
 by_cases h:notP a k=true
 ·rw[if_pos h,List.filter_cons_of_pos h];rfl
 ·rw[if_neg h,List.filter_cons_of_neg h];simp
theorem BYL(a:GR)(k:Nat):(H7 a k).length<=k:=by
 unfold H7;rw[List.length_map]
 exact Nat.le_trans (List.length_filter_le _ _) (by simp)
theorem CPI{g:List Gau}{b:List Int}(h:ZV g b)(k:Int):(Ja (PB ⟨g,b⟩) k).length<1073741824/\∀x∈Ja (PB ⟨g,b⟩) k,RK x:=by
 obtain⟨h1,h2,_⟩:=h
 refine⟨?_,λx hx=>h2 x (List.mem_filter.1 hx).1⟩
 have:(Ja (PB ⟨g,b⟩) k).length<=g.length:=List.length_filter_le _ _
 omega
theorem BGE:AJ Try.prog AHW (C_Through.spec dGB):=Ctr.spec_ok (C:=C_Through) (λ(a:GB) h=>by
 have h:preB a:=(show preB a/\True from h).1
 by_cases hE:EG a=0
 ·refine Mn (A:=CMF a) (L:=[]) (keep:=[]) (ren:=[]) (fz:=[]) ARP (by kernel_rfl) (AC AAM (AC xH (AC AMB AE))) ?_
  show CJP a;rw[CQF]<;> delta JT XL EE EC DP OV LY LW MN GD JG CS AO AR CG AK BV BZ CM AQ BU DD ES LX EF NK CI EZ FB LZ FP VY Lj ID RG LM AAK PA PK Bq BG Jp Dd bZ WE Jl GP SZ Ms Lo AG GT JO GV IE DG AF AT AH FF AJZ CA Eo CF BH AM CT BL GQ JM Bu aD Xf TJ TE AP BR cX AS AW DF DX EO DU sP CR AX BC HH GA CQ HL IC Ha XT IG AZ Hd ACB gZ EP GI BE AY DW BW HU EL GC CX JD BI FZ II UU JA HG BO CL EK PF GU EA Ng HY CP EM GH PG IH GF FE BJ BN BM FC EW FM FK FD EQ LN Aa MI LL FL Mr Gw EJ SE CE EV NT OP ER BS SB JS SD NH NQ BD LC FH BB CJ HZ CK VW NM Ht FN DE UL YW QW ME Bz OF WU Dv LP IQ UC Is RO JK KC PD OM PE PC Da RZ UE gL TD VH Md Ll Kt Kn LA tJ ZM NY UB UA UG Vc Dl aT bP Xh;simp only[CC,eq_self,implies_true,forall_const,Fa]
  have hb:ZV a.g a.b:=xY hE
  have hl:=hb.2.2.1
  have eT:thrM a=thrK a (a.b.length+1) 0:=by unfold thrM;rw[hE];rfl
  refine⟨⟨h.1,h.2,hE⟩,⟨0,⟨(JH (by omega) (by omega)).symm,rfl⟩,Nat.zero_le _,eT⟩,λk ⟨k1,k2⟩=>⟨λhlt=>?_,λhge=>?_⟩⟩
  ·obtain⟨n,hn⟩:∃n,a.b.length+1-k=n+1:=⟨a.b.length-k,by omega⟩
   rw[hn] at k2;unfold thrK at k2
   refine⟨⟨hb,CPI hb _⟩,λhq=>?_,λhq=>?_⟩
   ·rw[hq] at k2;exact⟨k2,hE⟩
   ·rw[hq] at k2
    exact⟨k+1,(CN (by omega)).symm,⟨by omega,by rw[show a.b.length+1-(k+1)=n by omega];exact k2⟩,by omega⟩
  ·rw[show a.b.length+1-k=0 by omega] at k2
   exact⟨k2,hE⟩
 ·refine Mn (A:=CML) (L:=[]) (keep:=[]) (ren:=[]) (fz:=[]) ARP (by kernel_rfl) (AC ADC (AC xH (AC AMB AE))) ?_
  show CKA a;rw[COI]<;> delta JT XL EE EC DP WI CS AO AR CG AK BV BZ CM NK Sv CI EZ LZ FP WE Jl SZ Lo AG GT JO GV IE AF AT AH CA CF BH CT TJ TE AP BR AS AW DF DX CR IC EP GI AY GC HG CL EM GH IH FE BM EW FM FK NT ER JS LC FI WU LP IQ Is UE TD Md Ll Kn UK NY UB UA UG Dl Bg;simp only[CC,eq_self,implies_true,forall_const,Fa]
  refine⟨⟨h.1,h.2,hE⟩,λ_=>?_,λhc=>?_⟩
  ·unfold thrM;rw[show (EG a==0)=false by simpa using hE];rfl
  ·have hE:EG ⟨a.g,a.b⟩≠0:=hE
   exact hE (by simpa using hc)) _
end Go.Bal
