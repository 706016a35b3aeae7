/- Package level: rows of three marks (plain). -/
import Derived.Test.YtbmlgdlbffmjjaaGreatGaD
set_option linter.unusedVariables false
set_option linter.unusedSimpArgs false
namespace Go.Bal
open Go Go.Sym Go.Proofs
structure T3 where
 a:Int
 b:Int
 c:Int
 deriving DecidableEq
def T3.get(x:T3)(i:Nat):Int:=bif Nat.beq i 0 then x.a else bif Nat.beq i 1 then x.b else x.c
def T3.put(x:T3)(n:Int)(i:Nat):T3:=bif Nat.beq i 0 then⟨n,x.b,x.c⟩ else bif Nat.beq i 1 then⟨x.a,n,x.c⟩ else⟨x.a,x.b,n⟩
def xT(s t:Nat)(c:Int)(x:T3):T3:=bif decide (qF [x.get s,c]<x.get t) then x.put (qF [x.get s,c]) t else x
def relT(l:List Lin)(m i:Nat)(b:Bool)(x:T3):T3:=bif lsM (gD l i) b==(m:Int) then xT m (goM (gD l i) b).toNat (sA (gD l i) b) x else x
def AWU(l:List Lin)(m i:Nat)(x:T3):Nat->T3
 |0=>x
 |j+1=>relT l m i (!decide (j=0)) (AWU l m i x j)
def AYG(l:List Lin)(m:Nat)(x:T3):Nat->T3
 |0=>x
 |i+1=>AWU l m i (AYG l m x i) 2
def mrkT(l:List Lin)(x:T3):Nat->T3
 |0=>x
 |m+1=>bif (mrkT l x m).get m==JY then mrkT l x m else AYG l m (mrkT l x m) l.length
def rndT(l:List Lin)(x:T3):Nat->T3
 |0=>x
 |k+1=>mrkT l (rndT l x k) 3
def filT(l:List Lin)(x:T3):T3:=rndT l x 3
def SA(a:Nat)(g:Nat->Int):T3:=⟨g (Oy a 0),g (Oy a 1),g (Oy a 2)⟩
theorem G2{m:Nat}(h:m<3):m=0∨m=1∨m=2:=by omega
theorem ACI{a m:Nat}(g:Nat->Int)(h:m<3):(SA a g).get m=g (Oy a m):=by
 rcases G2 h with rfl | rfl | rfl<;>rfl
theorem BFT{c:Nat}{n:Int}{g:Nat->Int}(j:Nat):putA c n g j=if j=c then n else g j:=by
 unfold putA
 by_cases h:j=c
 ·subst h;simp
 ·rw[show Nat.beq j c=false from Bool.eq_false_iff.2 λe=>h (Nat.eq_of_beq_eq_true e),if_neg h];rfl
theorem CGJ{a t:Nat}(n:Int)(g:Nat->Int)(ht:t<3):SA a (putA (Oy a t) n g)=(SA a g).put n t:=by
 unfold SA
 simp only[BFT,Oy]
 rcases G2 ht with rfl | rfl | rfl<;>simp[T3.put]<;>rfl
theorem BBE{a a' t:Nat}(n:Int)(g:Nat->Int)(ht:t<3)(ha:a'≠a):SA a' (putA (Oy a t) n g)=SA a' g:=by
 unfold SA
 simp only[BFT,Oy]
 rw[if_neg (by omega),if_neg (by omega),if_neg (by omega)]
section
variable {l : List Lin} (hok : l.all ZO = true)
include hok
theorem CGE{a m i:Nat}{b:Bool}(g:Nat->Int)(hm:m<3)(hi:i<l.length):SA a (wI l a m i b g)=relT l m i b (SA a g):=by
 have hg:=AWY (AKD hok hi) b
 unfold wI relT xT
 have h3:(goM (gD l i) b).toNat<3:=by omega
 rw[ACI g hm,ACI g h3]
 cases (lsM (gD l i) b==(m:Int)) with
 |false=>rfl
 |true=>
  simp only[cond_true]
  cases decide (qF [g (Oy a m),sA (gD l i) b]<g (Oy a (goM (gD l i) b).toNat)) with
  |false=>rfl
  |true=>exact CGJ _ _ h3
theorem BEX{a a' m i:Nat}{b:Bool}(g:Nat->Int)(hi:i<l.length)(ha:a'≠a):SA a' (wI l a m i b g)=SA a' g:=by
 have hg:=AWY (AKD hok hi) b
 unfold wI
 cases (lsM (gD l i) b==(m:Int)) with
 |false=>rfl
 |true=>
  simp only[cond_true]
  cases decide (qF [g (Oy a m),sA (gD l i) b]<g (Oy a (goM (gD l i) b).toNat)) with
  |false=>rfl
  |true=>exact BBE _ _ (by omega) ha
theorem AXR{a m i:Nat}(g:Nat->Int)(hm:m<3)(hi:i<l.length):∀j,SA a (zS l a m i g j)=AWU l m i (SA a g) j
 |0=>rfl
 |j+1=>by show SA a (wI l a m i (!decide (j=0)) (zS l a m i g j))=relT l m i (!decide (j=0)) (AWU l m i (SA a g) j);rw[CGE hok _ hm hi,AXR g hm hi j]
theorem AAM{a a' m i:Nat}(g:Nat->Int)(hi:i<l.length)(ha:a'≠a):∀j,SA a' (zS l a m i g j)=SA a' g
 |0=>rfl
 |j+1=>by show SA a' (wI l a m i (!decide (j=0)) (zS l a m i g j))=_;rw[BEX hok _ hi ha,AAM g hi ha j]
theorem AYB{a m:Nat}(g:Nat->Int)(hm:m<3):∀i,i<=l.length->SA a (legI l a m g i)=AYG l m (SA a g) i
 |0,_=>rfl
 |i+1,h=>by show SA a (zS l a m i (legI l a m g i) 2)=AWU l m i (AYG l m (SA a g) i) 2;rw[AXR hok _ hm (by omega),AYB g hm i (by omega)]
theorem AAV{a a' m:Nat}(g:Nat->Int)(ha:a'≠a):∀i,i<=l.length->SA a' (legI l a m g i)=SA a' g
 |0,_=>rfl
 |i+1,h=>by show SA a' (zS l a m i (legI l a m g i) 2)=_;rw[AAM hok _ (by omega) ha,AAV g ha i (by omega)]
theorem BIV{a:Nat}(g:Nat->Int):∀m,m<=3->SA a (dB l a g m)=mrkT l (SA a g) m
 |0,_=>rfl
 |m+1,h=>by
  show SA a (bif dB l a g m (Oy a m)==JY then dB l a g m else legI l a m (dB l a g m) l.length)=bif (mrkT l (SA a g) m).get m==JY then mrkT l (SA a g) m else AYG l m (mrkT l (SA a g) m) l.length
  rw[<-BIV g m (by omega),ACI _ (by omega)]
  cases (dB l a g m (Oy a m)==JY) with
  |true=>rfl
  |false=>exact AYB hok _ (by omega) _ (Nat.le_refl _)
theorem zH{a a':Nat}(g:Nat->Int)(ha:a'≠a):∀m,m<=3->SA a' (dB l a g m)=SA a' g
 |0,_=>rfl
 |m+1,h=>by
  show SA a' (bif dB l a g m (Oy a m)==JY then dB l a g m else legI l a m (dB l a g m) l.length)=SA a' g
  cases (dB l a g m (Oy a m)==JY) with
  |true=>exact zH g ha m (by omega)
  |false=>exact (AAV hok _ ha _ (Nat.le_refl _)).trans (zH g ha m (by omega))
theorem BIC{a:Nat}(g:Nat->Int):∀k,SA a (sC l a g k)=rndT l (SA a g) k
 |0=>rfl
 |k+1=>by show SA a (dB l a (sC l a g k) 3)=mrkT l (rndT l (SA a g) k) 3;rw[BIV hok _ 3 (Nat.le_refl _),BIC g k]
theorem AEK{a a':Nat}(g:Nat->Int)(ha:a'≠a):∀k,SA a' (sC l a g k)=SA a' g
 |0=>rfl
 |k+1=>by show SA a' (dB l a (sC l a g k) 3)=_;rw[zH hok _ ha 3 (Nat.le_refl _),AEK g ha k]
def Do(a:Nat):T3:=(⟨JY,JY,JY⟩:T3).put 0 a
omit hok in
theorem CAY{a:Nat}(h:a<3):SA a (iniA 3)=Do a:=by
 rcases G2 h with rfl | rfl | rfl<;>rfl
theorem CFE{a:Nat}(h:a<3):SA a (XK l)=filT l (Do a):=by
 have e:∀k,SA a (wrkK l (k+1))=if a=k then filT l (SA a (wrkK l k)) else SA a (wrkK l k):=λk=>by
  show SA a (sC l k (wrkK l k) 3)=_
  by_cases ha:a=k
  ·rw[if_pos ha];subst ha;exact BIC hok _ 3
  ·rw[if_neg ha];exact AEK hok _ ha 3
 show SA a (wrkK l 3)=_
 rw[e,e,e,show wrkK l 0=iniA 3 from rfl,CAY h]
 rcases G2 h with rfl | rfl | rfl<;>rfl
theorem oX{a b:Nat}(ha:a<3)(hb:b<3):XK l (Oy a b)=(filT l (Do a)).get b:=by
 rw[<-CFE hok ha,ACI _ hb]
def BRR(l:List Lin)(f:Nat)(x:T3):Prop:=0<=x.get f/\∀(m i:Nat) (b:Bool),m<3->i<l.length->lsM (gD l i) b=(m:Int)->x.get m<JY->¬wr (x.get m+sA (gD l i) b)<x.get (goM (gD l i) b).toNat
theorem APQ(h:∀f,f<3->BRR l f (filT l (Do f))):noOp l (XK l):=by
 refine⟨λm hm=>?_,λf m i b hf hm hi hs hfar=>?_⟩
 ·rw[oX hok hm hm];exact (h m hm).1
 ·have hg:=AWY (AKD hok hi) b
  rw[oX hok hf hm] at hfar ⊢
  rw[oX hok hf (by omega)]
  exact (h f hf).2 m i b hm hi hs hfar
end
end Go.Bal

namespace Go.Bal
open Go Go.Sym Go.Proofs
theorem BXY{u c:Int}(h1:-1000000000<=u/\u<=1000000000)(h2:-1000000000<=c/\c<=1000000000):qF [u,c]=u+c:=by
 show wr (wr (0+u)+c)=u+c
 unfold wr
 rw[ZW (n:=0+u) (by omega) (by omega),ZW (by omega) (by omega)];omega
theorem Uv{s t:Nat}{c u v:Int}{x:T3}(hs:x.get s=u)(ht:x.get t=v)(h1:-1000000000<=u/\u<=1000000000)(h2:-1000000000<=c/\c<=1000000000)(h:v<=u+c):xT s t c x=x:=by
 unfold xT
 rw[hs,ht,BXY h1 h2,decide_eq_false (by omega)];rfl
theorem rE{s t:Nat}{c u v:Int}{x y:T3}(hs:x.get s=u)(ht:x.get t=v)(h1:-1000000000<=u/\u<=1000000000)(h2:-1000000000<=c/\c<=1000000000)(h:u+c<v)(hy:x.put (u+c) t=y):xT s t c x=y:=by
 unfold xT
 rw[hs,ht,BXY h1 h2,decide_eq_true h];exact hy
def mn(a b:Int):Int:=if b<a then b else a
theorem cT(a b:Int):mn a b<=a/\mn a b<=b/\(mn a b=a∨mn a b=b):=by unfold mn;split<;>omega
theorem r_mn{s t:Nat}{c u v:Int}{x y:T3}(hs:x.get s=u)(ht:x.get t=v)(h1:-1000000000<=u/\u<=1000000000)(h2:-1000000000<=c/\c<=1000000000)(hx:x.put v t=x)(hy:x.put (mn v (u+c)) t=y):xT s t c x=y:=by
 unfold xT
 rw[hs,ht,BXY h1 h2]
 unfold mn at hy
 by_cases h:u+c<v
 ·rw[decide_eq_true h];rw[if_pos h] at hy;exact hy
 ·rw[decide_eq_false h];rw[if_neg h,hx] at hy;exact hy
theorem ZX{x:T3}{s:Nat}{u:Int}{y z:T3}(hs:x.get s=u)(h:u<=1000000000):(bif x.get s==JY then y else z)=z:=by
 rw[hs,show (u==JY)=false from by simp only[beq_eq_false_iff_ne,ne_eq,JY];omega];rfl
theorem ADS{x:T3}{s:Nat}{y z:T3}(hs:x.get s=JY):(bif x.get s==JY then y else z)=y:=by
 rw[hs];simp
structure Rise where
 a01:Int
 a10:Int
 a12:Int
 a21:Int
 a02:Int
 a20:Int
structure RiOk(r:Rise):Prop where
 b01:-1000<=r.a01/\r.a01<=1000
 b10:-1000<=r.a10/\r.a10<=1000
 b12:-1000<=r.a12/\r.a12<=1000
 b21:-1000<=r.a21/\r.a21<=1000
 b02:-1000<=r.a02/\r.a02<=1000
 b20:-1000<=r.a20/\r.a20<=1000
 l01:0<=r.a01+r.a10
 l12:0<=r.a12+r.a21
 l02:0<=r.a02+r.a20
 c1:0<=r.a01+r.a12+r.a20
 c2:0<=r.a02+r.a21+r.a10
def p0(r:Rise)(x:T3):T3:=bif x.get 0==JY then x else xT 0 1 r.a01 x
def p1(r:Rise)(x:T3):T3:=bif x.get 1==JY then x else xT 1 2 r.a12 (xT 1 0 r.a10 x)
def p2(r:Rise)(x:T3):T3:=bif x.get 2==JY then x else xT 2 1 r.a21 x
def pR(r:Rise)(x:T3):T3:=p2 r (p1 r (p0 r x))
theorem BET{r:Rise}(h:RiOk r){p q s:Int}(hp:-10000<=p/\p<=10000)(hq:-10000<=q/\q<=10000)(hs:-10000<=s/\s<=10000)(k1:q<=p+r.a01)(k2:p<=q+r.a10)(k3:s<=q+r.a12)(k4:q<=s+r.a21):pR r ⟨p,q,s⟩=⟨p,q,s⟩:=by
 have hb:=h.b01;have hc:=h.b10;have hd:=h.b12;have he:=h.b21
 have e0:p0 r ⟨p,q,s⟩=⟨p,q,s⟩:=(ZX (u:=p) rfl (by omega)).trans (Uv (u:=p) (v:=q) rfl rfl (by omega) (by omega) k1)
 have e1:p1 r ⟨p,q,s⟩=⟨p,q,s⟩:=by
  refine (ZX (u:=q) rfl (by omega)).trans ?_
  rw[Uv (s:=1) (t:=0) (u:=q) (v:=p) rfl rfl (by omega) (by omega) k2]
  exact Uv (u:=q) (v:=s) rfl rfl (by omega) (by omega) k3
 have e2:p2 r ⟨p,q,s⟩=⟨p,q,s⟩:=(ZX (u:=s) rfl (by omega)).trans (Uv (u:=s) (v:=q) rfl rfl (by omega) (by omega) k4)
 unfold pR;rw[e0,e1,e2]
theorem Kp{u:Int}(h:u<=1000000000):u<JY:=by unfold JY;omega
theorem pR0{r:Rise}(h:RiOk r):pR r (pR r (pR r (Do 0)))=⟨0,r.a01,r.a01+r.a12⟩:=by
 have hb:=h.b01;have hc:=h.b10;have hd:=h.b12;have he:=h.b21;have g1:=h.l01;have g2:=h.l12
 have e:pR r (Do 0)=⟨0,r.a01,r.a01+r.a12⟩:=by
  have e0:p0 r (Do 0)=⟨0,r.a01,JY⟩:=(ZX (u:=0) rfl (by omega)).trans (rE (u:=0) (v:=JY) rfl rfl (by omega) (by omega) (Kp (by omega)) (by rw[Int.zero_add];rfl))
  have e1:p1 r ⟨0,r.a01,JY⟩=⟨0,r.a01,r.a01+r.a12⟩:=by
   refine (ZX (u:=r.a01) rfl (by omega)).trans ?_
   rw[Uv (s:=1) (t:=0) (u:=r.a01) (v:=0) rfl rfl (by omega) (by omega) (by omega)]
   exact rE (u:=r.a01) (v:=JY) rfl rfl (by omega) (by omega) (Kp (by omega)) rfl
  have e2:p2 r ⟨0,r.a01,r.a01+r.a12⟩=⟨0,r.a01,r.a01+r.a12⟩:=(ZX (u:=r.a01+r.a12) rfl (by omega)).trans (Uv (u:=r.a01+r.a12) (v:=r.a01) rfl rfl (by omega) (by omega) (by omega))
  unfold pR;rw[e0,e1,e2]
 have fx:=BET h (p:=0) (q:=r.a01) (s:=r.a01+r.a12) (by omega) (by omega) (by omega) (by omega) (by omega) (by omega) (by omega)
 rw[e,fx,fx]
theorem pR1{r:Rise}(h:RiOk r):pR r (pR r (pR r (Do 1)))=⟨r.a10,0,r.a12⟩:=by
 have hb:=h.b01;have hc:=h.b10;have hd:=h.b12;have he:=h.b21;have g1:=h.l01;have g2:=h.l12
 have e:pR r (Do 1)=⟨r.a10,0,r.a12⟩:=by
  have e0:p0 r (Do 1)=Do 1:=ADS rfl
  have e1:p1 r (Do 1)=⟨r.a10,0,r.a12⟩:=by
   refine (ZX (u:=0) rfl (by omega)).trans ?_
   rw[rE (s:=1) (t:=0) (y:=⟨r.a10,0,JY⟩) (u:=0) (v:=JY) rfl rfl (by omega) (by omega) (Kp (by omega)) (by rw[Int.zero_add];rfl)]
   exact rE (u:=0) (v:=JY) rfl rfl (by omega) (by omega) (Kp (by omega)) (by rw[Int.zero_add];rfl)
  have e2:p2 r ⟨r.a10,0,r.a12⟩=⟨r.a10,0,r.a12⟩:=(ZX (u:=r.a12) rfl (by omega)).trans (Uv (u:=r.a12) (v:=0) rfl rfl (by omega) (by omega) (by omega))
  unfold pR;rw[e0,e1,e2]
 have fx:=BET h (p:=r.a10) (q:=0) (s:=r.a12) (by omega) (by omega) (by omega) (by omega) (by omega) (by omega) (by omega)
 rw[e,fx,fx]
theorem pR2{r:Rise}(h:RiOk r):pR r (pR r (pR r (Do 2)))=⟨r.a21+r.a10,r.a21,0⟩:=by
 have hb:=h.b01;have hc:=h.b10;have hd:=h.b12;have he:=h.b21;have g1:=h.l01;have g2:=h.l12
 have e:pR r (Do 2)=⟨JY,r.a21,0⟩:=by
  have e0:p0 r (Do 2)=Do 2:=ADS rfl
  have e1:p1 r (Do 2)=Do 2:=ADS rfl
  have e2:p2 r (Do 2)=⟨JY,r.a21,0⟩:=(ZX (u:=0) rfl (by omega)).trans (rE (u:=0) (v:=JY) rfl rfl (by omega) (by omega) (Kp (by omega)) (by rw[Int.zero_add];rfl))
  unfold pR;rw[e0,e1,e2]
 have e':pR r ⟨JY,r.a21,0⟩=⟨r.a21+r.a10,r.a21,0⟩:=by
  have e0:p0 r ⟨JY,r.a21,0⟩=⟨JY,r.a21,0⟩:=ADS rfl
  have e1:p1 r ⟨JY,r.a21,0⟩=⟨r.a21+r.a10,r.a21,0⟩:=by
   refine (ZX (u:=r.a21) rfl (by omega)).trans ?_
   rw[rE (s:=1) (t:=0) (y:=⟨r.a21+r.a10,r.a21,0⟩) (u:=r.a21) (v:=JY) rfl rfl (by omega) (by omega) (Kp (by omega)) rfl]
   exact Uv (u:=r.a21) (v:=0) rfl rfl (by omega) (by omega) (by omega)
  have e2:p2 r ⟨r.a21+r.a10,r.a21,0⟩=⟨r.a21+r.a10,r.a21,0⟩:=(ZX (u:=0) rfl (by omega)).trans (Uv (u:=0) (v:=r.a21) rfl rfl (by omega) (by omega) (by omega))
  unfold pR;rw[e0,e1,e2]
 have fx:=BET h (p:=r.a21+r.a10) (q:=r.a21) (s:=0) (by omega) (by omega) (by omega) (by omega) (by omega) (by omega) (by omega)
 rw[e,e',fx]
def q0(r:Rise)(x:T3):T3:=bif x.get 0==JY then x else xT 0 2 r.a02 (xT 0 1 r.a01 x)
def q2(r:Rise)(x:T3):T3:=bif x.get 2==JY then x else xT 2 0 r.a20 (xT 2 1 r.a21 x)
def rgR(r:Rise)(x:T3):T3:=q2 r (p1 r (q0 r x))
theorem BDG{r:Rise}(h:RiOk r){p q s:Int}(hp:-10000<=p/\p<=10000)(hq:-10000<=q/\q<=10000)(hs:-10000<=s/\s<=10000)(k1:q<=p+r.a01)(k2:p<=q+r.a10)(k3:s<=q+r.a12)(k4:q<=s+r.a21)(k5:s<=p+r.a02)(k6:p<=s+r.a20):rgR r ⟨p,q,s⟩=⟨p,q,s⟩:=by
 have hb:=h.b01;have hc:=h.b10;have hd:=h.b12;have he:=h.b21;have hf:=h.b02;have hg:=h.b20
 have e0:q0 r ⟨p,q,s⟩=⟨p,q,s⟩:=by
  refine (ZX (u:=p) rfl (by omega)).trans ?_
  rw[Uv (s:=0) (t:=1) (u:=p) (v:=q) rfl rfl (by omega) (by omega) k1]
  exact Uv (u:=p) (v:=s) rfl rfl (by omega) (by omega) k5
 have e1:p1 r ⟨p,q,s⟩=⟨p,q,s⟩:=by
  refine (ZX (u:=q) rfl (by omega)).trans ?_
  rw[Uv (s:=1) (t:=0) (u:=q) (v:=p) rfl rfl (by omega) (by omega) k2]
  exact Uv (u:=q) (v:=s) rfl rfl (by omega) (by omega) k3
 have e2:q2 r ⟨p,q,s⟩=⟨p,q,s⟩:=by
  refine (ZX (u:=s) rfl (by omega)).trans ?_
  rw[Uv (s:=2) (t:=1) (u:=s) (v:=q) rfl rfl (by omega) (by omega) k4]
  exact Uv (u:=s) (v:=p) rfl rfl (by omega) (by omega) k6
 unfold rgR;rw[e0,e1,e2]
theorem qR0{r:Rise}(h:RiOk r):rgR r (rgR r (rgR r (Do 0)))=⟨0,mn r.a01 (mn r.a02 (r.a01+r.a12)+r.a21),mn r.a02 (r.a01+r.a12)⟩:=by
 have hb:=h.b01;have hc:=h.b10;have hd:=h.b12;have he:=h.b21;have hf:=h.b02;have hg:=h.b20
 have g1:=h.l01;have g2:=h.l12;have g3:=h.l02;have g4:=h.c1;have g5:=h.c2
 obtain⟨m1,m2,m3⟩:=cT r.a02 (r.a01+r.a12)
 generalize hm:mn r.a02 (r.a01+r.a12)=m at *
 obtain⟨n1,n2,n3⟩:=cT r.a01 (m+r.a21)
 generalize hn:mn r.a01 (m+r.a21)=n at *
 have e:rgR r (Do 0)=⟨0,n,m⟩:=by
  have e0:q0 r (Do 0)=⟨0,r.a01,r.a02⟩:=by
   refine (ZX (u:=0) rfl (by omega)).trans ?_
   rw[rE (s:=0) (t:=1) (y:=⟨0,r.a01,JY⟩) (u:=0) (v:=JY) rfl rfl (by omega) (by omega) (Kp (by omega)) (by rw[Int.zero_add];rfl)]
   exact rE (u:=0) (v:=JY) rfl rfl (by omega) (by omega) (Kp (by omega)) (by rw[Int.zero_add];rfl)
  have e1:p1 r ⟨0,r.a01,r.a02⟩=⟨0,r.a01,m⟩:=by
   refine (ZX (u:=r.a01) rfl (by omega)).trans ?_
   rw[Uv (s:=1) (t:=0) (u:=r.a01) (v:=0) rfl rfl (by omega) (by omega) (by omega)]
   exact r_mn (u:=r.a01) (v:=r.a02) rfl rfl (by omega) (by omega) rfl (by rw[hm];rfl)
  have e2:q2 r ⟨0,r.a01,m⟩=⟨0,n,m⟩:=by
   refine (ZX (u:=m) rfl (by omega)).trans ?_
   rw[r_mn (s:=2) (t:=1) (y:=⟨0,n,m⟩) (u:=m) (v:=r.a01) rfl rfl (by omega) (by omega) rfl (by rw[hn];rfl)]
   exact Uv (u:=m) (v:=0) rfl rfl (by omega) (by omega) (by omega)
  unfold rgR;rw[e0,e1,e2]
 have fx:=BDG h (p:=0) (q:=n) (s:=m) (by omega) (by omega) (by omega) (by omega) (by omega) (by omega) (by omega) (by omega) (by omega)
 rw[e,fx,fx]
theorem qR1{r:Rise}(h:RiOk r):rgR r (rgR r (rgR r (Do 1)))=⟨mn r.a10 (r.a12+r.a20),0,mn r.a12 (mn r.a10 (r.a12+r.a20)+r.a02)⟩:=by
 have hb:=h.b01;have hc:=h.b10;have hd:=h.b12;have he:=h.b21;have hf:=h.b02;have hg:=h.b20
 have g1:=h.l01;have g2:=h.l12;have g3:=h.l02;have g4:=h.c1;have g5:=h.c2
 obtain⟨m1,m2,m3⟩:=cT r.a10 (r.a12+r.a20)
 generalize hm:mn r.a10 (r.a12+r.a20)=m at *
 obtain⟨n1,n2,n3⟩:=cT r.a12 (m+r.a02)
 generalize hn:mn r.a12 (m+r.a02)=n at *
 have e:rgR r (Do 1)=⟨m,0,r.a12⟩:=by
  have e0:q0 r (Do 1)=Do 1:=ADS rfl
  have e1:p1 r (Do 1)=⟨r.a10,0,r.a12⟩:=by
   refine (ZX (u:=0) rfl (by omega)).trans ?_
   rw[rE (s:=1) (t:=0) (y:=⟨r.a10,0,JY⟩) (u:=0) (v:=JY) rfl rfl (by omega) (by omega) (Kp (by omega)) (by rw[Int.zero_add];rfl)]
   exact rE (u:=0) (v:=JY) rfl rfl (by omega) (by omega) (Kp (by omega)) (by rw[Int.zero_add];rfl)
  have e2:q2 r ⟨r.a10,0,r.a12⟩=⟨m,0,r.a12⟩:=by
   refine (ZX (u:=r.a12) rfl (by omega)).trans ?_
   rw[Uv (s:=2) (t:=1) (u:=r.a12) (v:=0) rfl rfl (by omega) (by omega) (by omega)]
   exact r_mn (u:=r.a12) (v:=r.a10) rfl rfl (by omega) (by omega) rfl (by rw[hm];rfl)
  unfold rgR;rw[e0,e1,e2]
 have e':rgR r ⟨m,0,r.a12⟩=⟨m,0,n⟩:=by
  have e0:q0 r ⟨m,0,r.a12⟩=⟨m,0,n⟩:=by
   refine (ZX (u:=m) rfl (by omega)).trans ?_
   rw[Uv (s:=0) (t:=1) (u:=m) (v:=0) rfl rfl (by omega) (by omega) (by omega)]
   exact r_mn (u:=m) (v:=r.a12) rfl rfl (by omega) (by omega) rfl (by rw[hn];rfl)
  have e1:p1 r ⟨m,0,n⟩=⟨m,0,n⟩:=by
   refine (ZX (u:=0) rfl (by omega)).trans ?_
   rw[Uv (s:=1) (t:=0) (u:=0) (v:=m) rfl rfl (by omega) (by omega) (by omega)]
   exact Uv (u:=0) (v:=n) rfl rfl (by omega) (by omega) (by omega)
  have e2:q2 r ⟨m,0,n⟩=⟨m,0,n⟩:=by
   refine (ZX (u:=n) rfl (by omega)).trans ?_
   rw[Uv (s:=2) (t:=1) (u:=n) (v:=0) rfl rfl (by omega) (by omega) (by omega)]
   exact Uv (u:=n) (v:=m) rfl rfl (by omega) (by omega) (by omega)
  unfold rgR;rw[e0,e1,e2]
 have fx:=BDG h (p:=m) (q:=0) (s:=n) (by omega) (by omega) (by omega) (by omega) (by omega) (by omega) (by omega) (by omega) (by omega)
 rw[e,e',fx]
theorem qR2{r:Rise}(h:RiOk r):rgR r (rgR r (rgR r (Do 2)))=⟨mn r.a20 (mn r.a21 (r.a20+r.a01)+r.a10),mn r.a21 (r.a20+r.a01),0⟩:=by
 have hb:=h.b01;have hc:=h.b10;have hd:=h.b12;have he:=h.b21;have hf:=h.b02;have hg:=h.b20
 have g1:=h.l01;have g2:=h.l12;have g3:=h.l02;have g4:=h.c1;have g5:=h.c2
 obtain⟨m1,m2,m3⟩:=cT r.a21 (r.a20+r.a01)
 generalize hm:mn r.a21 (r.a20+r.a01)=m at *
 obtain⟨n1,n2,n3⟩:=cT r.a20 (m+r.a10)
 generalize hn:mn r.a20 (m+r.a10)=n at *
 have e:rgR r (Do 2)=⟨r.a20,r.a21,0⟩:=by
  have e0:q0 r (Do 2)=Do 2:=ADS rfl
  have e1:p1 r (Do 2)=Do 2:=ADS rfl
  have e2:q2 r (Do 2)=⟨r.a20,r.a21,0⟩:=by
   refine (ZX (u:=0) rfl (by omega)).trans ?_
   rw[rE (s:=2) (t:=1) (y:=⟨JY,r.a21,0⟩) (u:=0) (v:=JY) rfl rfl (by omega) (by omega) (Kp (by omega)) (by rw[Int.zero_add];rfl)]
   exact rE (u:=0) (v:=JY) rfl rfl (by omega) (by omega) (Kp (by omega)) (by rw[Int.zero_add];rfl)
  unfold rgR;rw[e0,e1,e2]
 have e':rgR r ⟨r.a20,r.a21,0⟩=⟨n,m,0⟩:=by
  have e0:q0 r ⟨r.a20,r.a21,0⟩=⟨r.a20,m,0⟩:=by
   refine (ZX (u:=r.a20) rfl (by omega)).trans ?_
   rw[r_mn (s:=0) (t:=1) (y:=⟨r.a20,m,0⟩) (u:=r.a20) (v:=r.a21) rfl rfl (by omega) (by omega) rfl (by rw[hm];rfl)]
   exact Uv (u:=r.a20) (v:=0) rfl rfl (by omega) (by omega) (by omega)
  have e1:p1 r ⟨r.a20,m,0⟩=⟨n,m,0⟩:=by
   refine (ZX (u:=m) rfl (by omega)).trans ?_
   rw[r_mn (s:=1) (t:=0) (y:=⟨n,m,0⟩) (u:=m) (v:=r.a20) rfl rfl (by omega) (by omega) rfl (by rw[hn];rfl)]
   exact Uv (u:=m) (v:=0) rfl rfl (by omega) (by omega) (by omega)
  have e2:q2 r ⟨n,m,0⟩=⟨n,m,0⟩:=by
   refine (ZX (u:=0) rfl (by omega)).trans ?_
   rw[Uv (s:=2) (t:=1) (u:=0) (v:=m) rfl rfl (by omega) (by omega) (by omega)]
   exact Uv (u:=0) (v:=n) rfl rfl (by omega) (by omega) (by omega)
  unfold rgR;rw[e0,e1,e2]
 have fx:=BDG h (p:=n) (q:=m) (s:=0) (by omega) (by omega) (by omega) (by omega) (by omega) (by omega) (by omega) (by omega) (by omega)
 rw[e,e',fx]
end Go.Bal
