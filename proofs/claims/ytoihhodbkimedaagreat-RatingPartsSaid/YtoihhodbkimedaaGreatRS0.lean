/- Package rating: the order that a stable sort makes; rotations (no program in sight). -/
import Derived.Test.YtoihhodbkimedaaGreatRatB
import Derived.Test.YtoihhodbkimedaaGreatRatQ
set_option linter.unusedVariables false
set_option linter.unusedSimpArgs false
namespace Go.Bal
open Go Go.Sym Go.Proofs
theorem AWC{α:Type}[Inhabited α]{n i:Nat}{f:Nat->α}(h:i<n):gD (MK n f) i=f i:=by
 simp[gD,MK,List.getD_eq_getElem?_getD,h]
theorem APK{α:Type}(n:Nat)(f:Nat->α):(MK n f).length=n:=by simp[MK]
theorem dP{α:Type}[Inhabited α]{l m:List α}(h:l.length=m.length)(h2:∀i,i<l.length->gD l i=gD m i):l=m:=by
 apply List.ext_getElem h
 intro i h3 h4
 have:=h2 i h3
 simpa[gD,List.getD_eq_getElem?_getD,h3,h4] using this
theorem BOK:∀{l m:List Nat},l.Nodup->m.Nodup->(∀x,x∈l↔x∈m)->l.Perm m
 |[],m,_,_,h=>by
  cases m with
  |nil=>exact List.Perm.refl _
  |cons x m=>have:=(h x).2 (by simp);simp at this
 |x :: l,m,h1,h2,h=>by
  have hx:x∈m:=(h x).1 (by simp)
  refine List.Perm.trans (List.Perm.cons x (BOK (List.nodup_cons.1 h1).2 (h2.erase x) λy=>?_)) (List.perm_cons_erase hx).symm
  rw[h2.mem_erase_iff,<-h y]
  constructor
  ·intro hy
   exact⟨λe=>(List.nodup_cons.1 h1).1 (e ▸ hy),by simp[hy]⟩
  ·rintro⟨a,b⟩
   rcases List.mem_cons.1 b with e | e
   ·exact absurd e a
   ·exact e
theorem BWZ{l:List Int}{σ τ:Nat->Nat}(h1:∀i,i<l.length->σ i<l.length/\τ (σ i)=i)(h2:∀i,i<l.length->τ i<l.length/\σ (τ i)=i):(MK l.length λi=>gD l (σ i)).Perm l:=by
 have hp:((List.range l.length).map σ).Perm (List.range l.length):=by
  refine BOK ?_ List.nodup_range λx=>?_
  ·rw[List.Nodup,List.pairwise_map]
   refine List.Pairwise.imp_of_mem (λ{a b} ha hb hne he=>?_) (List.nodup_range (n:=l.length))
   have ea:=(h1 a (List.mem_range.1 ha)).2
   have eb:=(h1 b (List.mem_range.1 hb)).2
   exact hne (by rw[<-ea,<-eb,he])
  ·rw[List.mem_map,List.mem_range]
   constructor
   ·rintro⟨i,hi,rfl⟩
    exact (h1 i (List.mem_range.1 hi)).1
   ·intro hx
    exact⟨τ x,List.mem_range.2 (h2 x hx).1,(h2 x hx).2⟩
 have:=hp.map (λi=>gD l i)
 rw[List.map_map] at this
 have e:(List.range l.length).map (λi=>gD l i)=l:=RB l
 rw[e] at this
 exact this
def rtI(a m b i:Nat):Nat:=if a<=i/\i<b then (if i<a+(b-m) then i+(m-a) else i-(b-m)) else i
def swI(a b n i:Nat):Nat:=if a<=i/\i<a+n then i-a+b else if b<=i/\i<b+n then i-b+a else i
def KA(l:List Int)(a m b:Nat):List Int:=MK l.length λi=>gD l (rtI a m b i)
def zD(l:List Int)(a b n:Nat):List Int:=MK l.length λi=>gD l (swI a b n i)
theorem TF(l:List Int)(a m b:Nat):(KA l a m b).length=l.length:=APK _ _
theorem cO(l:List Int)(a b n:Nat):(zD l a b n).length=l.length:=APK _ _
theorem yZ{l:List Int}{a m b i:Nat}(h:i<l.length):gD (KA l a m b) i=gD l (rtI a m b i):=AWC h
theorem yQ{l:List Int}{a b n i:Nat}(h:i<l.length):gD (zD l a b n) i=gD l (swI a b n i):=AWC h
theorem AVY{a m b i n:Nat}(h1:a<=m)(h2:m<=b)(h3:b<=n)(hi:i<n):rtI a m b i<n:=by
 unfold rtI;split
 ·split<;>omega
 ·exact hi
theorem COY{a b k i n:Nat}(h1:a+k<=b)(h3:b+k<=n)(hi:i<n):swI a b k i<n:=by
 unfold swI;split
 ·omega
 ·split<;>omega
theorem BLM{a m b i:Nat}(h1:a<=m)(h2:m<=b):rtI a m b (rtI a (a+(b-m)) b i)=i:=by
 unfold rtI
 by_cases c:a<=i/\i<b
 ·rw[if_pos c]
  by_cases d:i<a+(b-(a+(b-m)))
  ·rw[if_pos d,if_pos (by omega),if_neg (by omega)];omega
  ·rw[if_neg d,if_pos (by omega),if_pos (by omega)];omega
 ·rw[if_neg c,if_neg c]
theorem pK{l:List Int}{a m b:Nat}(h1:a<=m)(h2:m<=b)(h3:b<=l.length):(KA l a m b).Perm l:=by
 refine BWZ (τ:=rtI a (a+(b-m)) b) (λi hi=>⟨AVY h1 h2 h3 hi,?_⟩) (λi hi=>⟨AVY (by omega) (by omega) h3 hi,BLM h1 h2⟩)
 have:=BLM (a:=a) (m:=a+(b-m)) (b:=b) (i:=i) (by omega) (by omega)
 rw[show a+(b-(a+(b-m)))=m by omega] at this
 exact this
theorem BGD{l:List Int}{a m b i:Nat}(hi:i<l.length)(h:i<a∨b<=i):gD (KA l a m b) i=gD l i:=by
 rw[yZ hi];unfold rtI;rw[if_neg (by omega)]
theorem AKC{l:List Int}{a m b:Nat}(h1:a<=m)(h2:m<=b)(h:a=m∨m=b):KA l a m b=l:=by
 refine dP (TF _ _ _ _) λi hi=>?_
 rw[TF] at hi
 rw[yZ hi]
 congr 1
 unfold rtI
 split
 ·split<;>omega
 ·rfl
theorem BDW{l:List Int}{m i j:Nat}(h1:j<i)(h2:i<=m)(h3:m+j<=l.length):KA (zD l (m-i) m j) (m-(i-j)) m (m+j)=KA l (m-i) m (m+j):=by
 refine dP (by rw[TF,cO,TF]) λk hk=>?_
 rw[TF,cO] at hk
 rw[yZ (by rw[cO];exact hk),yZ hk,yQ (AVY (by omega) (by omega) h3 hk)]
 congr 1
 unfold rtI swI
 by_cases c1:m-(i-j)<=k/\k<m+j
 ·rw[if_pos c1,if_pos (show m-i<=k/\k<m+j by omega)]
  by_cases c2:k<m-(i-j)+(m+j-m)
  ·rw[if_pos c2]
   by_cases c3:k<m-i+(m+j-m)
   ·omega
   ·rw[if_neg c3]
    rw[if_neg (by omega),if_pos (by omega)];omega
  ·rw[if_neg c2,if_neg (by omega),if_neg (by omega),if_neg (by omega)]
 ·rw[if_neg c1]
  by_cases c2:m-i<=k/\k<m-i+j
  ·rw[if_pos c2,if_pos (by omega),if_pos (by omega)];omega
  ·rw[if_neg c2]
   rw[if_neg (by omega),if_neg (by omega)]
theorem BEK{l:List Int}{m i j:Nat}(h1:i<j)(h2:i<=m)(h3:m+j<=l.length):KA (zD l (m-i) (m+j-i) i) (m-i) m (m+j-i)=KA l (m-i) m (m+j):=by
 refine dP (by rw[TF,cO,TF]) λk hk=>?_
 rw[TF,cO] at hk
 rw[yZ (by rw[cO];exact hk),yZ hk,yQ (AVY (by omega) (by omega) (by omega) hk)]
 congr 1
 unfold rtI swI
 by_cases c1:m-i<=k/\k<m+j-i
 ·rw[if_pos c1,if_pos (show m-i<=k/\k<m+j by omega)]
  by_cases c2:k<m-i+(m+j-i-m)
  ·rw[if_pos c2,if_neg (by omega),if_neg (by omega),if_pos (by omega)]
  ·rw[if_neg c2,if_pos (by omega),if_pos (by omega)];omega
 ·rw[if_neg c1]
  by_cases c2:m+j-i<=k/\k<m+j-i+i
  ·rw[if_neg (by omega),if_pos c2,if_pos (by omega),if_neg (by omega)];omega
  ·rw[if_neg (by omega),if_neg c2,if_neg (by omega)]
theorem BEN{l:List Int}{m i:Nat}(h2:i<=m)(h3:m+i<=l.length):zD l (m-i) m i=KA l (m-i) m (m+i):=by
 refine dP (by rw[TF,cO]) λk hk=>?_
 rw[cO] at hk
 rw[yZ hk,yQ hk]
 congr 1
 unfold rtI swI
 by_cases c1:m-i<=k/\k<m-i+i
 ·rw[if_pos c1,if_pos (by omega),if_pos (by omega)];omega
 ·rw[if_neg c1]
  by_cases c2:m<=k/\k<m+i
  ·rw[if_pos c2,if_pos (by omega),if_neg (by omega)];omega
  ·rw[if_neg c2,if_neg (by omega)]
def lxB(key:Int->Int)(x y:Int):Bool:=decide (key x<key y)||(key x==key y&&decide (x<=y))
theorem Ga{key:Int->Int}{x y:Int}:lxB key x y=true↔key x<key y∨key x=key y/\x<=y:=by
 unfold lxB;simp
theorem CCY{key:Int->Int}(x y z:Int)(h1:lxB key x y=true)(h2:lxB key y z=true):lxB key x z=true:=by
 rw[Ga] at *;omega
theorem BVW{key:Int->Int}(x y:Int):(lxB key x y||lxB key y x)=true:=by
 rw[Bool.or_eq_true,Ga,Ga];omega
theorem CEW{key:Int->Int}{x y:Int}(h1:lxB key x y=true)(h2:lxB key y x=true):x=y:=by
 rw[Ga] at *;omega
theorem sY{key:Int->Int}{x y:Int}(h:lxB key x y=true):key x<=key y:=by
 rw[Ga] at h;omega
def insL(key:Int->Int)(x:Int):List Int->List Int
 |[]=>[x]
 |y :: t=>bif lxB key x y then x :: y :: t else y :: insL key x t
def yG(key:Int->Int):List Int->List Int
 |[]=>[]
 |x :: t=>insL key x (yG key t)
theorem AIO(key:Int->Int)(x:Int):∀l,(insL key x l).Perm (x :: l)
 |[]=>List.Perm.refl _
 |y :: t=>by
  unfold insL
  cases lxB key x y
  ·exact (List.Perm.cons y (AIO key x t)).trans (List.Perm.swap _ _ _)
  ·exact List.Perm.refl _
theorem BPM(key:Int->Int)(x:Int):∀l,List.Pairwise (λa b=>lxB key a b=true) l->List.Pairwise (λa b=>lxB key a b=true) (insL key x l)
 |[],_=>by unfold insL;simp
 |y :: t,h=>by
  obtain⟨h1,h2⟩:=List.pairwise_cons.1 h
  unfold insL
  cases c:lxB key x y with
  |true=>
   refine List.pairwise_cons.2 ⟨λz hz=>?_,h⟩
   rcases List.mem_cons.1 hz with e | e
   ·rw[e];exact c
   ·exact CCY _ _ _ c (h1 z e)
  |false=>
   have c2:lxB key y x=true:=by
    have:=BVW (key:=key) x y
    rw[c] at this;simpa using this
   refine List.pairwise_cons.2 ⟨λz hz=>?_,BPM key x t h2⟩
   rcases List.mem_cons.1 ((AIO key x t).mem_iff.1 hz) with e | e
   ·rw[e];exact c2
   ·exact h1 z e
theorem BGB(key:Int->Int):∀l,List.Pairwise (λa b=>lxB key a b=true) (yG key l)
 |[]=>List.Pairwise.nil
 |x :: t=>BPM key x _ (BGB key t)
def bU(key:Int->Int)(l:List Int)(a b:Nat):Prop:=∀i j,a<=i->i<j->j<b->lxB key (gD l i) (gD l j)=true
def crs(key:Int->Int)(l:List Int)(a m b:Nat):Prop:=∀i j,a<=i->i<m->m<=j->j<b->key (gD l i)=key (gD l j)->gD l i<=gD l j
def GO(key:Int->Int)(l:List Int)(a b:Nat):List Int:=l.take a ++ (yG key ((l.take b).drop a) ++ l.drop b)
theorem UY(key:Int->Int):∀l,(yG key l).Perm l
 |[]=>List.Perm.refl _
 |x :: t=>(AIO key x _).trans (List.Perm.cons x (UY key t))
theorem CLZ{R:Int->Int->Prop}{l:List Int}:List.Pairwise R l↔∀i j,i<j->j<l.length->R (gD l i) (gD l j):=by
 rw[List.pairwise_iff_getElem]
 have e:∀i (h:i<l.length),gD l i=l[i]:=λi h=>by simp[gD,List.getD_eq_getElem?_getD,h]
 constructor
 ·intro h i j h1 h2
  rw[e i (by omega),e j h2];exact h i j (by omega) h2 h1
 ·intro h i j h1 h2 h3
  rw[<-e i h1,<-e j h2];exact h i j h3 h2
theorem AYG(key:Int->Int)(l:List Int):bU key (yG key l) 0 (yG key l).length:=λi j _ h1 h2=>
 CLZ.1 (BGB key l) i j h1 h2
theorem BNF{key:Int->Int}{l m:List Int}(hp:m.Perm l)(hs:bU key m 0 m.length):m=yG key l:=
 List.Perm.eq_of_pairwise (le:=λx y=>lxB key x y=true) (λ_ _ _ _=>CEW) (CLZ.2 λi j h1 h2=>hs i j (Nat.zero_le _) h1 h2) (BGB key l) (hp.trans (UY key l).symm)
theorem uG{l:List Int}{a b:Nat}(h:a<=b):l=l.take a ++ ((l.take b).drop a ++ l.drop b):=by
 have e1:(l.take b).take a=l.take a:=by rw[List.take_take,Nat.min_eq_left h]
 conv=>lhs;rw[<-List.take_append_drop b l,<-List.take_append_drop a (l.take b),e1]
 rw[List.append_assoc]
theorem I0{key:Int->Int}{l m:List Int}{a b:Nat}(hab:a<=b)(hb:b<=l.length)(hp:m.Perm l)(ho:∀i,i<l.length->(i<a∨b<=i)->gD m i=gD l i)(hs:bU key m a b):m=GO key l a b:=by
 have hl:=hp.length_eq
 have e1:m.take a=l.take a:=by
  refine dP (by rw[List.length_take,List.length_take,hl]) λi hi=>?_
  rw[List.length_take] at hi
  have:=ho i (by omega) (.inl (by omega))
  simpa[gD,List.getD_eq_getElem?_getD,List.getElem?_take,show i<a by omega] using this
 have e2:m.drop b=l.drop b:=by
  refine dP (by rw[List.length_drop,List.length_drop,hl]) λi hi=>?_
  rw[List.length_drop] at hi
  have:=ho (b+i) (by omega) (.inr (by omega))
  simpa[gD,List.getD_eq_getElem?_getD,List.getElem?_drop] using this
 have hm:((m.take b).drop a).Perm ((l.take b).drop a):=by
  have h1:=uG (l:=m) hab
  have h2:=uG (l:=l) hab
  rw[h1,h2,e1,e2] at hp
  exact (List.perm_append_right_iff _).1 ((List.perm_append_left_iff _).1 hp)
 have hln:((m.take b).drop a).length=b-a:=by rw[List.length_drop,List.length_take];omega
 have e3:(m.take b).drop a=yG key ((l.take b).drop a):=by
  refine BNF hm λi j h0 h1 h2=>?_
  rw[hln] at h2
  have:=hs (a+i) (a+j) (by omega) (by omega) (by omega)
  have g:∀k,k<b-a->gD ((m.take b).drop a) k=gD m (a+k):=λk hk=>by
   simp[gD,List.getD_eq_getElem?_getD,List.getElem?_drop,List.getElem?_take,show a+k<b by omega]
  rw[g i (by omega),g j h2];exact this
 unfold GO
 rw[<-e3,<-e2,<-e1]
 exact uG hab
theorem UR{key:Int->Int}{l:List Int}{a b:Nat}(hab:a<=b):(GO key l a b).length=l.length:=by
 unfold GO
 rw[List.length_append,List.length_append,(UY key _).length_eq]
 have:=congrArg List.length (uG (l:=l) hab)
 rw[List.length_append,List.length_append] at this
 exact this.symm
theorem YU{key:Int->Int}{l:List Int}{a b:Nat}(hab:a<=b):(GO key l a b).Perm l:=by
 conv=>rhs;rw[uG (l:=l) hab]
 unfold GO
 exact List.Perm.append_left _ (List.Perm.append_right _ (UY key _))
theorem BSM{l m:List Int}{i:Nat}:gD (l ++ m) i=if i<l.length then gD l i else gD m (i-l.length):=by
 by_cases h:i<l.length
 ·rw[if_pos h]
  simp[gD,List.getD_eq_getElem?_getD,List.getElem?_append_left h]
 ·rw[if_neg h]
  simp[gD,List.getD_eq_getElem?_getD,List.getElem?_append_right (show l.length<=i by omega)]
theorem BOZ{key:Int->Int}{l:List Int}{a b i:Nat}(hab:a<=b)(hb:b<=l.length):gD (GO key l a b) i=if i<a then gD l i else if i<b then gD (yG key ((l.take b).drop a)) (i-a) else gD l i:=by
 have hl:(yG key ((l.take b).drop a)).length=b-a:=by rw[(UY key _).length_eq,List.length_drop,List.length_take];omega
 have hlt:(l.take a).length=a:=by rw[List.length_take];omega
 unfold GO
 rw[BSM,hlt]
 by_cases h1:i<a
 ·rw[if_pos h1,if_pos h1]
  simp[gD,List.getD_eq_getElem?_getD,List.getElem?_take,h1]
 ·rw[if_neg h1,if_neg h1,BSM,hl]
  by_cases h2:i<b
  ·rw[if_pos (by omega),if_pos h2]
  ·rw[if_neg (by omega),if_neg h2]
   simp only[gD,List.getD_eq_getElem?_getD,List.getElem?_drop]
   rw[show b+(i-a-(b-a))=i by omega]
theorem Av{key:Int->Int}{l:List Int}{a b i:Nat}(hab:a<=b)(hb:b<=l.length)(h:i<a∨b<=i):gD (GO key l a b) i=gD l i:=by
 rw[BOZ hab hb]
 by_cases h1:i<a
 ·rw[if_pos h1]
 ·rw[if_neg h1,if_neg (by omega)]
theorem oU{key:Int->Int}{l:List Int}{a b:Nat}(hab:a<=b)(hb:b<=l.length):bU key (GO key l a b) a b:=λi j h1 h2 h3=>by
 rw[BOZ hab hb,BOZ hab hb,if_neg (by omega),if_pos (by omega),if_neg (by omega),if_pos h3]
 have hl:(yG key ((l.take b).drop a)).length=b-a:=by rw[(UY key _).length_eq,List.length_drop,List.length_take];omega
 exact AYG key _ (i-a) (j-a) (Nat.zero_le _) (by omega) (by omega)
theorem tQ{key:Int->Int}{l:List Int}{a b i:Nat}(hab:a<=b)(hb:b<=l.length)(h1:a<=i)(h2:i<b):∃j,a<=j/\j<b/\gD (GO key l a b) i=gD l j:=by
 have hln:((l.take b).drop a).length=b-a:=by rw[List.length_drop,List.length_take];omega
 have hl:(yG key ((l.take b).drop a)).length=b-a:=by rw[(UY key _).length_eq,hln]
 rw[BOZ hab hb,if_neg (by omega),if_pos h2]
 have hm:=CV (l:=yG key ((l.take b).drop a)) (k:=i-a) (by omega)
 obtain⟨k,hk,e⟩:=NL ((UY key _).mem_iff.1 hm)
 rw[hln] at hk
 refine⟨a+k,by omega,by omega,?_⟩
 rw[<-e]
 simp[gD,List.getD_eq_getElem?_getD,List.getElem?_drop,List.getElem?_take,show a+k<b by omega]
theorem AYP{key:Int->Int}{l:List Int}{a b:Nat}(hab:a<=b)(hb:b<=l.length)(h:bU key l a b):GO key l a b=l:=(I0 hab hb (List.Perm.refl _) (λ_ _ _=>rfl) h).symm
theorem CLG{key:Int->Int}{l:List Int}{a i b:Nat}(h1:a<=i)(h2:i<=b)(hb:b<=l.length):GO key (GO key l a i) a b=GO key l a b:=by
 have hl:=UR (key:=key) (l:=l) h1
 refine I0 (by omega) hb ((YU (by omega)).trans (YU h1)) (λk hk ho=>?_) (oU (by omega) (by omega))
 rw[Av (by omega) (by omega) ho,Av h1 (by omega) (by omega)]
theorem BHZ(key:Int->Int)(l:List Int):GO key l 0 l.length=yG key l:=by
 unfold GO;simp
theorem COO{key:Int->Int}{l:List Int}{a b i:Nat}(hb:b<=l.length)(h1:a<i)(h2:i<=b)(hs:bU key l (a+1) b)(hc:crs key l a (a+1) b)(f1:∀k,a+1<=k->k<i->key (gD l k)<key (gD l a))(f2:∀k,i<=k->k<b->¬key (gD l k)<key (gD l a)):KA l a (a+1) i=GO key l a b:=by
 refine I0 (by omega) hb (pK (by omega) (by omega) (by omega)) (λk hk ho=>BGD hk (by omega)) λp q q1 q2 q3=>?_
 have e:∀k,a<=k->k<b->gD (KA l a (a+1) i) k=if k+1<i then gD l (k+1) else if k+1=i then gD l a else gD l k:=λk k1 k2=>by
  rw[yZ (by omega)]
  unfold rtI
  by_cases c1:k+1<i
  ·rw[if_pos (by omega),if_pos (by omega),if_pos c1,show k+(a+1-a)=k+1 by omega]
  ·rw[if_neg c1]
   by_cases c2:k+1=i
   ·rw[if_pos c2,if_pos (by omega),if_neg (by omega),show k-(i-(a+1))=a by omega]
   ·rw[if_neg c2,if_neg (by omega)]
 rw[e p (by omega) (by omega),e q (by omega) q3]
 by_cases c1:p+1<i
 ·rw[if_pos c1]
  by_cases c2:q+1<i
  ·rw[if_pos c2];exact hs _ _ (by omega) (by omega) (by omega)
  ·rw[if_neg c2]
   by_cases c3:q+1=i
   ·rw[if_pos c3,Ga];exact .inl (f1 _ (by omega) c1)
   ·rw[if_neg c3];exact hs _ _ (by omega) (by omega) q3
 ·rw[if_neg c1,if_neg (show ¬q+1<i by omega),if_neg (show ¬q+1=i by omega)]
  by_cases c2:p+1=i
  ·rw[if_pos c2,Ga]
   have g1:=f2 q (by omega) q3
   by_cases g2:key (gD l a)=key (gD l q)
   ·exact .inr ⟨g2,hc a q (by omega) (by omega) (by omega) q3 g2⟩
   ·left;omega
  ·rw[if_neg c2];exact hs _ _ (by omega) q2 q3
theorem BHF{key:Int->Int}{l:List Int}{a m i:Nat}(hb:m<l.length)(h1:a<=i)(h2:i<=m)(hs:bU key l a m)(hc:crs key l a m (m+1))(f1:∀k,a<=k->k<i->¬key (gD l m)<key (gD l k))(f2:∀k,i<=k->k<m->key (gD l m)<key (gD l k)):KA l i m (m+1)=GO key l a (m+1):=by
 refine I0 (by omega) (by omega) (pK (by omega) (by omega) (by omega)) (λk hk ho=>BGD hk (by omega)) λp q q1 q2 q3=>?_
 have e:∀k,a<=k->k<m+1->gD (KA l i m (m+1)) k=if k<i then gD l k else if k=i then gD l m else gD l (k-1):=λk k1 k2=>by
  rw[yZ (by omega)]
  unfold rtI
  by_cases c1:k<i
  ·rw[if_neg (by omega),if_pos c1]
  ·rw[if_neg c1]
   by_cases c2:k=i
   ·rw[if_pos c2,if_pos (by omega),if_pos (by omega),show k+(m-i)=m by omega]
   ·rw[if_neg c2,if_pos (by omega),if_neg (by omega),show k-(m+1-m)=k-1 by omega]
 rw[e p (by omega) (by omega),e q (by omega) q3]
 by_cases c1:q<i
 ·rw[if_pos c1,if_pos (by omega)];exact hs _ _ q1 q2 (by omega)
 ·rw[if_neg c1]
  by_cases c2:p<i
  ·rw[if_pos c2]
   by_cases c3:q=i
   ·rw[if_pos c3,Ga]
    have g1:=f1 p q1 c2
    by_cases g2:key (gD l p)=key (gD l m)
    ·exact .inr ⟨g2,hc p m q1 (by omega) (Nat.le_refl _) (by omega) g2⟩
    ·left;omega
   ·rw[if_neg c3];exact hs _ _ q1 (by omega) (by omega)
  ·rw[if_neg c2,if_neg (show ¬q=i by omega)]
   by_cases c3:p=i
   ·rw[if_pos c3,Ga];exact .inl (f2 _ (by omega) (by omega))
   ·rw[if_neg c3];exact hs _ _ (by omega) (by omega) (by omega)
def yC(a m b:Nat):Nat:=if m>(a+b) / 2 then (a+b) / 2+m-b else a
def qT(a m b:Nat):Nat:=if m>(a+b) / 2 then (a+b) / 2 else m
structure SmI(key:Int->Int)(l:List Int)(a m b s:Nat):Prop where
 lo:yC a m b<=s
 hi:s<=qT a m b
 no:yC a m b<s->¬key (gD l ((a+b) / 2+m-s))<key (gD l (s-1))
 yes:s<qT a m b->key (gD l ((a+b) / 2+m-1-s))<key (gD l s)
theorem Ud{a m b s:Nat}(h1:a<m)(h2:m<b)(lo:yC a m b<=s)(hi:s<=qT a m b):(a<=s/\s<=m/\s<=(a+b) / 2)/\m<=(a+b) / 2+m-s/\(a+b) / 2+m-s<=b/\(a+b) / 2<=(a+b) / 2+m-s:=by
 unfold yC at lo;unfold qT at hi
 by_cases c:m>(a+b) / 2
 ·rw[if_pos c] at lo hi;omega
 ·rw[if_neg c] at lo hi;omega
theorem rG{l:List Int}{s m e k:Nat}(h1:s<=m)(h2:m<=e)(hk:k<l.length):gD (KA l s m e) k=if k<s then gD l k else if k<s+(e-m) then gD l (k+(m-s)) else if k<e then gD l (k-(e-m)) else gD l k:=by
 rw[yZ hk];unfold rtI
 by_cases c1:k<s
 ·rw[if_neg (by omega),if_pos c1]
 ·rw[if_neg c1]
  by_cases c2:k<s+(e-m)
  ·rw[if_pos c2,if_pos (by omega),if_pos c2]
  ·rw[if_neg c2]
   by_cases c3:k<e
   ·rw[if_pos c3,if_pos (by omega),if_neg c2]
   ·rw[if_neg c3,if_neg (by omega),if_neg c2]
theorem sT{key:Int->Int}{l:List Int}{a m b s:Nat}(h1:a<m)(h2:m<b)(hb:b<=l.length)(sa:bU key l a m)(sb:bU key l m b)(hc:crs key l a m b)(I:SmI key l a m b s):(bU key (KA l s m ((a+b) / 2+m-s)) a s/\bU key (KA l s m ((a+b) / 2+m-s)) s ((a+b) / 2)/\crs key (KA l s m ((a+b) / 2+m-s)) a s ((a+b) / 2))/\(bU key (KA l s m ((a+b) / 2+m-s)) ((a+b) / 2) ((a+b) / 2+m-s)/\bU key (KA l s m ((a+b) / 2+m-s)) ((a+b) / 2+m-s) b/\crs key (KA l s m ((a+b) / 2+m-s)) ((a+b) / 2) ((a+b) / 2+m-s) b)/\GO key (GO key (KA l s m ((a+b) / 2+m-s)) a ((a+b) / 2)) ((a+b) / 2) b=GO key l a b:=by
 obtain⟨⟨d1,d2,d3⟩,d4,d5,d6⟩:=Ud h1 h2 I.lo I.hi
 have no:=I.no
 have yes:=I.yes
 have lo:=I.lo
 have hi:=I.hi
 generalize hmid:(a+b) / 2=mid at *
 have m1:2*mid<=a+b/\a+b<=2*mid+1:=by omega
 generalize hen:mid+m-s=en at *
 have e1:en+s=mid+m:=by omega
 have g:∀k,k<b->gD (KA l s m en) k=if k<s then gD l k else if k<mid then gD l (k+(m-s)) else if k<en then gD l (k-(en-m)) else gD l k:=λk hk=>by
  rw[rG d2 (by omega) (by omega),show s+(en-m)=mid by omega]
 have kA:∀i j,a<=i->i<=j->j<m->key (gD l i)<=key (gD l j):=λi j q1 q2 q3=>by
  by_cases c:i=j
  ·rw[c];exact Int.le_refl _
  ·exact sY (sa i j q1 (by omega) q3)
 have kB:∀i j,m<=i->i<=j->j<b->key (gD l i)<=key (gD l j):=λi j q1 q2 q3=>by
  by_cases c:i=j
  ·rw[c];exact Int.le_refl _
  ·exact sY (sb i j q1 (by omega) q3)
 have AB:∀i j,a<=i->i<s->en<=j->j<b->lxB key (gD l i) (gD l j)=true:=λi j q1 q2 q3 q4=>by
  have hs:yC a m b<s:=by
   unfold yC at *
   by_cases c:m>(a+b) / 2
   ·rw[if_pos c];omega
   ·rw[if_neg c];omega
  have q:=no hs
  have k1:=kA i (s-1) q1 (by omega) (by omega)
  have k2:=kB en j d4 q3 q4
  rw[Ga]
  by_cases c:key (gD l i)=key (gD l j)
  ·exact .inr ⟨c,hc i j q1 (by omega) (by omega) q4 c⟩
  ·left;omega
 have BA:∀i j,m<=i->i<en->s<=j->j<m->lxB key (gD l i) (gD l j)=true:=λi j q1 q2 q3 q4=>by
  have hs:s<qT a m b:=by
   unfold qT at *
   by_cases c:m>(a+b) / 2
   ·rw[if_pos c];omega
   ·rw[if_neg c];omega
  have q:=yes hs
  rw[show mid+m-1-s=en-1 by omega] at q
  have k1:=kB i (en-1) q1 (by omega) (by omega)
  have k2:=kA s j (by omega) q3 q4
  rw[Ga];left;omega
 have L1:bU key (KA l s m en) a s:=λi j q1 q2 q3=>by
  rw[g i (by omega),g j (by omega),if_pos (by omega),if_pos q3];exact sa i j q1 q2 (by omega)
 have L2:bU key (KA l s m en) s mid:=λi j q1 q2 q3=>by
  rw[g i (by omega),g j (by omega),if_neg (by omega),if_pos (by omega),if_neg (by omega),if_pos q3];exact sb _ _ (by omega) (by omega) (by omega)
 have L3:crs key (KA l s m en) a s mid:=λi j q1 q2 q3 q4=>by
  rw[g i (by omega),g j (by omega),if_pos q2,if_neg (by omega),if_pos q4];exact hc _ _ q1 (by omega) (by omega) (by omega)
 have R1:bU key (KA l s m en) mid en:=λi j q1 q2 q3=>by
  rw[g i (by omega),g j (by omega),if_neg (by omega),if_neg (by omega),if_pos (by omega),if_neg (by omega),if_neg (by omega),if_pos q3];exact sa _ _ (by omega) (by omega) (by omega)
 have R2:bU key (KA l s m en) en b:=λi j q1 q2 q3=>by
  rw[g i (by omega),g j (by omega),if_neg (by omega),if_neg (by omega),if_neg (by omega),if_neg (by omega),if_neg (by omega),if_neg (by omega)];exact sb _ _ (by omega) (by omega) (by omega)
 have R3:crs key (KA l s m en) mid en b:=λi j q1 q2 q3 q4=>by
  rw[g i (by omega),g j (by omega),if_neg (by omega),if_neg (by omega),if_pos q2,if_neg (by omega),if_neg (by omega),if_neg (by omega)];exact hc _ _ (by omega) (by omega) (by omega) q4
 have hl1:=TF l s m en
 have X:∀i j,a<=i->i<mid->mid<=j->j<b->lxB key (gD (KA l s m en) i) (gD (KA l s m en) j)=true:=λi j q1 q2 q3 q4=>by
  rw[g i (by omega),g j (by omega),if_neg (show ¬j<s by omega),if_neg (show ¬j<mid by omega)]
  by_cases c1:i<s
  ·rw[if_pos c1]
   by_cases c2:j<en
   ·rw[if_pos c2];exact sa _ _ q1 (by omega) (by omega)
   ·rw[if_neg c2];exact AB _ _ q1 c1 (by omega) q4
  ·rw[if_neg c1,if_pos q2]
   by_cases c2:j<en
   ·rw[if_pos c2];exact BA _ _ (by omega) (by omega) (by omega) (by omega)
   ·rw[if_neg c2];exact sb _ _ (by omega) (by omega) q4
 refine⟨⟨L1,L2,L3⟩,⟨R1,R2,R3⟩,?_⟩
 have ln1:=UR (key:=key) (l:=KA l s m en) (show a<=mid by omega)
 refine I0 (by omega) hb ((YU (by omega)).trans ((YU (by omega)).trans (pK d2 (by omega) (by omega)))) (λk hk ho=>?_) λi j q1 q2 q3=>?_
 ·rw[Av (by omega) (by omega) (by omega),Av (by omega) (by omega) (by omega),BGD hk (by omega)]
 ·by_cases c1:j<mid
  ·rw[Av (by omega) (by omega) (.inl (by omega)),Av (by omega) (by omega) (.inl c1)]
   exact oU (by omega) (by omega) i j q1 q2 c1
  ·by_cases c2:i<mid
   ·rw[Av (by omega) (by omega) (.inl c2)]
    obtain⟨i',a1,a2,a3⟩:=tQ (key:=key) (l:=KA l s m en) (show a<=mid by omega) (by omega) q1 c2
    obtain⟨j',b1,b2,b3⟩:=tQ (key:=key) (l:=GO key (KA l s m en) a mid) (show mid<=b by omega) (by omega) (by omega) q3
    rw[a3,b3,Av (by omega) (by omega) (.inr b1)]
    exact X i' j' a1 a2 b1 b2
   ·exact oU (by omega) (by omega) i j (by omega) q2 q3
theorem cY(key:Int->Int)(l:List Int)(x:Nat):GO key l x x=l:=by
 unfold GO
 rw[List.drop_take,Nat.sub_self,List.take_zero]
 simp[yG]
theorem AVZ(key:Int->Int)(l:List Int)(x:Nat):GO key l x (x+1)=l:=by
 by_cases h:x+1<=l.length
 ·exact AYP (by omega) h λi j h1 h2 h3=>by omega
 ·unfold GO
  rw[List.drop_eq_nil_of_le (show (l.take (x+1)).length<=x by rw[List.length_take];omega),List.drop_eq_nil_of_le (show l.length<=x+1 by omega),List.take_of_length_le (by omega)]
  simp[yG]
theorem Tb{a b:Int}:Oz a b<0↔a<b:=by
 unfold Oz
 by_cases h:a<b
 ·simp[h]
 ·by_cases h2:b<a
  ·simp[h,h2]
  ·simp[h,h2]
theorem BNN{l:List Int}{x y i k:Nat}(h1:x+i<y)(h2:y+i<l.length)(hk:k<l.length):gD (zD l x y (i+1)) k=bif decide (k=y+i) then gD (zD l x y i) (x+i) else bif decide (k=x+i) then gD (zD l x y i) (y+i) else gD (zD l x y i) k:=by
 rw[yQ hk,yQ (by omega),yQ h2,yQ hk]
 by_cases c1:k=y+i
 ·rw[decide_eq_true c1,c1]
  show _=gD l _
  congr 1
  unfold swI
  rw[if_neg (by omega),if_pos (by omega),if_neg (by omega),if_neg (by omega)];omega
 ·rw[decide_eq_false c1]
  by_cases c2:k=x+i
  ·rw[decide_eq_true c2,c2]
   show _=gD l _
   congr 1
   unfold swI
   rw[if_pos (by omega),if_neg (by omega),if_neg (by omega)];omega
  ·rw[decide_eq_false c2]
   show _=gD l _
   congr 1
   unfold swI
   by_cases d1:x<=k/\k<x+i
   ·rw[if_pos d1,if_pos (by omega)]
   ·rw[if_neg d1,if_neg (by omega)]
    by_cases d2:y<=k/\k<y+i
    ·rw[if_pos d2,if_pos (by omega)]
    ·rw[if_neg d2,if_neg (by omega)]
theorem BPV{l:List Int}{x y:Nat}:zD l x y 0=l:=by
 refine dP (cO _ _ _ _) λi hi=>?_
 rw[cO] at hi
 rw[yQ hi];congr 1
 unfold swI;rw[if_neg (by omega),if_neg (by omega)]
theorem BOC{l:List Int}{j i k:Nat}(h0:0<j)(h1:j<=i)(h2:i<l.length)(hk:k<l.length):gD (KA l (j-1) i (i+1)) k=bif decide (k=j-1) then gD (KA l j i (i+1)) j else bif decide (k=j) then gD (KA l j i (i+1)) (j-1) else gD (KA l j i (i+1)) k:=by
 rw[rG (by omega) (by omega) hk,rG h1 (by omega) (by omega),rG h1 (by omega) (by omega),rG h1 (by omega) hk]
 by_cases c1:k=j-1
 ·rw[decide_eq_true c1,if_neg (by omega),if_pos (by omega)]
  show _=if j<j then _ else _
  rw[if_neg (by omega),if_pos (by omega)]
  congr 1;omega
 ·rw[decide_eq_false c1]
  by_cases c2:k=j
  ·rw[decide_eq_true c2,if_neg (by omega),if_neg (by omega),if_pos (by omega)]
   show _=if j-1<j then _ else _
   rw[if_pos (by omega)]
   congr 1;omega
  ·rw[decide_eq_false c2]
   show _=if k<j then _ else _
   by_cases c3:k<j
   ·rw[if_pos c3,if_pos (by omega)]
   ·rw[if_neg c3,if_neg (by omega),if_neg (by omega)]
    by_cases c4:k<i+1
    ·rw[if_pos c4,if_neg (by omega)]
    ·rw[if_neg c4,if_neg (by omega)]
theorem CLP{l:List Int}{a j k:Nat}(h1:a<=j)(h2:j+1<l.length)(hk:k<l.length):gD (KA l a (a+1) (j+2)) k=bif decide (k=j+1) then gD (KA l a (a+1) (j+1)) j else bif decide (k=j) then gD (KA l a (a+1) (j+1)) (j+1) else gD (KA l a (a+1) (j+1)) k:=by
 rw[rG (by omega) (by omega) hk,rG (by omega) (by omega) (by omega),rG (by omega) (by omega) h2,rG (by omega) (by omega) hk]
 by_cases c1:k=j+1
 ·rw[decide_eq_true c1,if_neg (by omega),if_neg (by omega),if_pos (by omega)]
  show _=if j<a then _ else _
  rw[if_neg (by omega),if_neg (by omega),if_pos (by omega)]
  congr 1;omega
 ·rw[decide_eq_false c1]
  by_cases c2:k=j
  ·rw[decide_eq_true c2,if_neg (by omega),if_pos (by omega)]
   show _=if j+1<a then _ else _
   rw[if_neg (by omega),if_neg (by omega),if_neg (by omega)]
   congr 1;omega
  ·rw[decide_eq_false c2]
   show _=if k<a then _ else _
   by_cases c3:k<a
   ·rw[if_pos c3,if_pos c3]
   ·rw[if_neg c3,if_neg c3]
    by_cases c4:k<j
    ·rw[if_pos (by omega),if_pos (by omega)]
    ·rw[if_neg (by omega),if_neg (by omega),if_neg (by omega),if_neg (by omega)]
theorem BME{l:List Int}{j i:Nat}(h1:j<=i)(h2:i<l.length):gD (KA l j i (i+1)) j=gD l i:=by
 rw[rG h1 (by omega) (by omega),if_neg (by omega),if_pos (by omega)]
 congr 1;omega
theorem BEE{l:List Int}{j i k:Nat}(h1:j<=i)(h2:i<l.length)(hk:k<j):gD (KA l j i (i+1)) k=gD l k:=by
 rw[rG h1 (by omega) (by omega),if_pos hk]
end Go.Bal
