/- Package rating: the steps of symMerge (no program in sight). -/
import Derived.Test.YtoihhodbkimedaaGreatRS0
set_option linter.unusedVariables false
set_option linter.unusedSimpArgs false
namespace Go.Bal
open Go Go.Sym Go.Proofs
def inR(n:Nat)(l:List Int):Prop:=∀x∈l,0<=x/\x<n
theorem Hh{n:Nat}{l m:List Int}(h:inR n l)(hp:m.Perm l):inR n m:=λx hx=>h x (hp.mem_iff.1 hx)
theorem AYJ{n:Nat}{l:List Int}(h:inR n l){i:Nat}(hi:i<l.length):0<=gD l i/\gD l i<n:=h _ (CV hi)
structure pSm(key:Int->Int)(n:Nat)(l:List Int)(a m b:Nat):Prop where
 ln:l.length<=24
 i:inR n l
 d:a<m/\m<b/\b<=l.length
 sa:bU key l a m
 sb:bU key l m b
 c:crs key l a m b
theorem rS{key:Int->Int}{l:List Int}{a b i j:Nat}(h:bU key l a b)(h1:a<=i)(h2:i<=j)(h3:j<b):key (gD l i)<=key (gD l j):=by
 by_cases c:i=j
 ·rw[c];exact Int.le_refl _
 ·exact sY (h i j h1 (by omega) h3)
structure smLo(key:Int->Int)(l:List Int)(a b i j:Nat):Prop where
 d:a+1<=i/\i<=j/\j<=b
 f:∀k,a+1<=k->k<i->key (gD l k)<key (gD l a)
 t:∀k,j<=k->k<b->¬key (gD l k)<key (gD l a)
structure smHi(key:Int->Int)(l:List Int)(a m i j:Nat):Prop where
 d:a<=i/\i<=j/\j<=m
 f:∀k,a<=k->k<i->¬key (gD l m)<key (gD l k)
 t:∀k,j<=k->k<m->key (gD l m)<key (gD l k)
structure smBi(key:Int->Int)(l:List Int)(a m b s r:Nat):Prop where
 d:yC a m b<=s/\s<=r/\r<=qT a m b
 f:∀k,yC a m b<=k->k<s->¬key (gD l ((a+b) / 2+m-1-k))<key (gD l k)
 t:∀k,r<=k->k<qT a m b->key (gD l ((a+b) / 2+m-1-k))<key (gD l k)
section
variable {key : Int -> Int} {n : Nat} {l : List Int} {a m b i j : Nat}
theorem lo_0(h:pSm key n l a m b)(e:m=a+1):smLo key l a b m b:=⟨by have:=h.d;omega,λk h1 h2=>by omega,λk h1 h2=>by omega⟩
theorem CMC(h:pSm key n l a m b)(e:m=a+1)(I:smLo key l a b i j)(hij:i<j)(c:key (gD l ((i+j) / 2))<key (gD l a)):smLo key l a b ((i+j) / 2+1) j:=by
 obtain⟨d1,d2,d3⟩:=I.d
 refine⟨by omega,λk h1 h2=>?_,I.t⟩
 have:=rS h.sb (i:=k) (j:=(i+j) / 2) (by omega) (by omega) (by omega);omega
theorem CLK(h:pSm key n l a m b)(e:m=a+1)(I:smLo key l a b i j)(hij:i<j)(c:¬key (gD l ((i+j) / 2))<key (gD l a)):smLo key l a b i ((i+j) / 2):=by
 obtain⟨d1,d2,d3⟩:=I.d
 refine⟨by omega,I.f,λk h1 h2=>?_⟩
 have:=rS h.sb (i:=(i+j) / 2) (j:=k) (by omega) h1 h2;omega
theorem BXU(h:pSm key n l a m b)(e:m=a+1)(I:smLo key l a b i i):KA l a (a+1) i=GO key l a b:=by
 obtain⟨d1,d2,d3⟩:=I.d
 exact COO h.d.2.2 (by omega) d3 (e ▸ h.sb) (e ▸ h.c) I.f I.t
theorem hi_0(h:pSm key n l a m b):smHi key l a m a m:=⟨by have:=h.d;omega,λk h1 h2=>by omega,λk h1 h2=>by omega⟩
theorem CJE(h:pSm key n l a m b)(I:smHi key l a m i j)(hij:i<j)(c:¬key (gD l m)<key (gD l ((i+j) / 2))):smHi key l a m ((i+j) / 2+1) j:=by
 obtain⟨d1,d2,d3⟩:=I.d
 refine⟨by omega,λk h1 h2=>?_,I.t⟩
 have:=rS h.sa (i:=k) (j:=(i+j) / 2) h1 (by omega) (by omega);omega
theorem CJN(h:pSm key n l a m b)(I:smHi key l a m i j)(hij:i<j)(c:key (gD l m)<key (gD l ((i+j) / 2))):smHi key l a m i ((i+j) / 2):=by
 obtain⟨d1,d2,d3⟩:=I.d
 refine⟨by omega,I.f,λk h1 h2=>?_⟩
 have:=rS h.sa (i:=(i+j) / 2) (j:=k) (by omega) h1 h2;omega
theorem BXF(h:pSm key n l a m b)(e:b=m+1)(I:smHi key l a m i i):KA l i m (m+1)=GO key l a b:=by
 obtain⟨d1,d2,d3⟩:=I.d
 have:=h.d
 rw[e]
 exact BHF (by omega) d1 d3 h.sa (e ▸ h.c) I.f I.t
theorem AEG(h:a<m/\m<b){k:Nat}(h1:yC a m b<=k)(h2:k<qT a m b):(a<=k/\k<m)/\m<=(a+b) / 2+m-1-k/\(a+b) / 2+m-1-k<b:=by
 unfold yC at h1;unfold qT at h2
 by_cases c:m>(a+b) / 2
 ·rw[if_pos c] at h1 h2;omega
 ·rw[if_neg c] at h1 h2;omega
theorem CSB(h:a<m/\m<b):yC a m b<=qT a m b:=by
 unfold yC qT
 by_cases c:m>(a+b) / 2
 ·rw[if_pos c,if_pos c];omega
 ·rw[if_neg c,if_neg c];omega
theorem bi_0(h:pSm key n l a m b):smBi key l a m b (yC a m b) (qT a m b):=⟨⟨Nat.le_refl _,CSB ⟨h.d.1,h.d.2.1⟩,Nat.le_refl _⟩,λk h1 h2=>by omega,λk h1 h2=>by omega⟩
theorem CMJ(h:pSm key n l a m b)(I:smBi key l a m b i j)(hij:i<j)(c:¬key (gD l ((a+b) / 2+m-1-(i+j) / 2))<key (gD l ((i+j) / 2))):smBi key l a m b ((i+j) / 2+1) j:=by
 obtain⟨d1,d2,d3⟩:=I.d
 have hd:=h.d
 refine⟨by omega,λk h1 h2 q=>?_,I.t⟩
 have r1:=AEG ⟨hd.1,hd.2.1⟩ (k:=k) h1 (by omega)
 have r2:=AEG ⟨hd.1,hd.2.1⟩ (k:=(i+j) / 2) (by omega) (by omega)
 have k1:=rS h.sa (i:=k) (j:=(i+j) / 2) r1.1.1 (by omega) r2.1.2
 have k2:=rS h.sb (i:=(a+b) / 2+m-1-(i+j) / 2) (j:=(a+b) / 2+m-1-k) r2.2.1 (by omega) r1.2.2
 omega
theorem CKX(h:pSm key n l a m b)(I:smBi key l a m b i j)(hij:i<j)(c:key (gD l ((a+b) / 2+m-1-(i+j) / 2))<key (gD l ((i+j) / 2))):smBi key l a m b i ((i+j) / 2):=by
 obtain⟨d1,d2,d3⟩:=I.d
 have hd:=h.d
 refine⟨by omega,I.f,λk h1 h2=>?_⟩
 have r1:=AEG ⟨hd.1,hd.2.1⟩ (k:=k) (by omega) h2
 have r2:=AEG ⟨hd.1,hd.2.1⟩ (k:=(i+j) / 2) (by omega) (by omega)
 have k1:=rS h.sa (i:=(i+j) / 2) (j:=k) r2.1.1 h1 r1.1.2
 have k2:=rS h.sb (i:=(a+b) / 2+m-1-k) (j:=(a+b) / 2+m-1-(i+j) / 2) r1.2.1 (by omega) r2.2.2
 omega
theorem BTY(h:pSm key n l a m b)(I:smBi key l a m b i i):SmI key l a m b i:=by
 obtain⟨d1,d2,d3⟩:=I.d
 have hd:=Ud h.d.1 h.d.2.1 d1 d3
 refine⟨d1,d3,λq=>?_,λq=>I.t i (Nat.le_refl _) q⟩
 have:=I.f (i-1) (by omega) (by omega)
 rw[show (a+b) / 2+m-1-(i-1)=(a+b) / 2+m-i by omega] at this
 exact this
theorem BLL(h:pSm key n l a m b)(I:SmI key l a m b i)(c:a<i/\i<(a+b) / 2):pSm key n (KA l i m ((a+b) / 2+m-i)) a i ((a+b) / 2):=by
 have hd:=h.d
 have dm:=Ud hd.1 hd.2.1 I.lo I.hi
 obtain⟨⟨L1,L2,L3⟩,_⟩:=sT hd.1 hd.2.1 hd.2.2 h.sa h.sb h.c I
 exact⟨by rw[TF];exact h.ln,Hh h.i (pK dm.1.2.1 dm.2.1 (by omega)),⟨c.1,c.2,by rw[TF];omega⟩,L1,L2,L3⟩
theorem BCB(h:pSm key n l a m b)(I:SmI key l a m b i)(c:¬(a<i/\i<(a+b) / 2)):GO key (KA l i m ((a+b) / 2+m-i)) a ((a+b) / 2)=KA l i m ((a+b) / 2+m-i):=by
 have hd:=h.d
 have dm:=Ud hd.1 hd.2.1 I.lo I.hi
 obtain⟨⟨L1,L2,L3⟩,_⟩:=sT hd.1 hd.2.1 hd.2.2 h.sa h.sb h.c I
 refine AYP (by omega) (by rw[TF];omega) ?_
 by_cases e:i=a
 ·rw[e] at L2 ⊢;exact L2
 ·have e:i=(a+b) / 2:=by omega
  rw[<-e] at L1 ⊢;exact L1
theorem AAU{x y:List Int}{a b:Nat}(h:bU key x a b)(e:∀k,a<=k->k<b->gD y k=gD x k):bU key y a b:=λp q h1 h2 h3=>by
 rw[e p (by omega) (by omega),e q (by omega) h3];exact h p q h1 h2 h3
theorem BCI(h:pSm key n l a m b)(I:SmI key l a m b i)(c:(a+b) / 2<(a+b) / 2+m-i/\(a+b) / 2+m-i<b):pSm key n (GO key (KA l i m ((a+b) / 2+m-i)) a ((a+b) / 2)) ((a+b) / 2) ((a+b) / 2+m-i) b:=by
 have hd:=h.d
 have dm:=Ud hd.1 hd.2.1 I.lo I.hi
 obtain⟨_,⟨R1,R2,R3⟩,_⟩:=sT hd.1 hd.2.1 hd.2.2 h.sa h.sb h.c I
 have hl:(GO key (KA l i m ((a+b) / 2+m-i)) a ((a+b) / 2)).length=l.length:=by rw[UR (by omega),TF]
 have e:∀k,(a+b) / 2<=k->gD (GO key (KA l i m ((a+b) / 2+m-i)) a ((a+b) / 2)) k=gD (KA l i m ((a+b) / 2+m-i)) k:=λk hk=>Av (by omega) (by rw[TF];omega) (.inr hk)
 refine⟨by rw[hl];exact h.ln,Hh h.i ((YU (by omega)).trans (pK dm.1.2.1 dm.2.1 (by omega))),⟨c.1,c.2,by rw[hl];exact hd.2.2⟩,AAU R1 λk h1 _=>e k h1,AAU R2 λk h1 _=>e k (by omega),λp q h1 h2 h3 h4 h5=>?_⟩
 rw[e p h1,e q (by omega)] at h5 ⊢
 exact R3 p q h1 h2 h3 h4 h5
theorem AUN(h:pSm key n l a m b)(I:SmI key l a m b i)(c:¬((a+b) / 2<(a+b) / 2+m-i/\(a+b) / 2+m-i<b)):GO key (GO key (KA l i m ((a+b) / 2+m-i)) a ((a+b) / 2)) ((a+b) / 2) b=GO key (KA l i m ((a+b) / 2+m-i)) a ((a+b) / 2):=by
 have hd:=h.d
 have dm:=Ud hd.1 hd.2.1 I.lo I.hi
 obtain⟨_,⟨R1,R2,R3⟩,_⟩:=sT hd.1 hd.2.1 hd.2.2 h.sa h.sb h.c I
 have hl:(GO key (KA l i m ((a+b) / 2+m-i)) a ((a+b) / 2)).length=l.length:=by rw[UR (by omega),TF]
 have e:∀k,(a+b) / 2<=k->gD (GO key (KA l i m ((a+b) / 2+m-i)) a ((a+b) / 2)) k=gD (KA l i m ((a+b) / 2+m-i)) k:=λk hk=>Av (by omega) (by rw[TF];omega) (.inr hk)
 refine AYP (by omega) (by rw[hl];exact hd.2.2) (AAU (x:=KA l i m ((a+b) / 2+m-i)) ?_ λk h1 _=>e k h1)
 by_cases q:(a+b) / 2+m-i=(a+b) / 2
 ·rw[q] at R2 ⊢;exact R2
 ·have q:(a+b) / 2+m-i=b:=by omega
  rw[q] at R1 ⊢;exact R1
theorem BZN(h:pSm key n l a m b)(I:SmI key l a m b i):GO key (GO key (KA l i m ((a+b) / 2+m-i)) a ((a+b) / 2)) ((a+b) / 2) b=GO key l a b:=(sT h.d.1 h.d.2.1 h.d.2.2 h.sa h.sb h.c I).2.2
def incr(l:List Int)(a b:Nat):Prop:=∀i j,a<=i->i<j->j<b->gD l i<=gD l j
theorem BXD(hl:l.length<=24)(hr:inR n l)(hu:incr l 0 l.length)(h:20<l.length):pSm key n (GO key (GO key l 0 20) 20 l.length) 0 20 l.length/\GO key (GO key (GO key l 0 20) 20 l.length) 0 l.length=yG key l:=by
 have l1:(GO key l 0 20).length=l.length:=UR (by omega)
 have l2:(GO key (GO key l 0 20) 20 l.length).length=l.length:=by rw[UR (by omega),l1]
 have p2:(GO key (GO key l 0 20) 20 l.length).Perm l:=(YU (by omega)).trans (YU (by omega))
 have eL:∀k,k<20->gD (GO key (GO key l 0 20) 20 l.length) k=gD (GO key l 0 20) k:=λk hk=>Av (by omega) (by omega) (.inl hk)
 refine⟨⟨by rw[l2];exact hl,Hh hr p2,by rw[l2];omega,AAU (oU (key:=key) (l:=l) (by omega) (by omega)) λk _ hk=>eL k hk,oU (by omega) (by omega),λp q h1 h2 h3 h4 _=>?_⟩,?_⟩
 ·obtain⟨p',a1,a2,a3⟩:=tQ (key:=key) (l:=l) (a:=0) (b:=20) (by omega) (by omega) h1 h2
  obtain⟨q',b1,b2,b3⟩:=tQ (key:=key) (l:=GO key l 0 20) (a:=20) (b:=l.length) (by omega) (by omega) h3 h4
  rw[eL p h2,a3,b3,Av (by omega) (by omega) (.inr b1)]
  exact hu p' q' (Nat.zero_le _) (by omega) b2
 ·have:=BHZ key (GO key (GO key l 0 20) 20 l.length)
  rw[l2] at this
  rw[this]
  exact BNF ((UY key _).trans p2) (AYG key _)
end
end Go.Bal
