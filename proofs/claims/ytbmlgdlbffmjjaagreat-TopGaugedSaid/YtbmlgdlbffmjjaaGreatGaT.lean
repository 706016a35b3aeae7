/- Package level: rows of three marks (plain). -/
import Derived.Test.YtbmlgdlbffmjjaaGreatGaD
set_option linter.unusedVariables false
set_option linter.unusedSimpArgs false
namespace Go.Bal
open Go Go.Sym Go.Proofs
structure T3 where
 a:Int
 b:Int
 c:Int
 deriving DecidableEq
def T3.get(x:T3)(i:Nat):Int:=bif Nat.beq i 0 then x.a else bif Nat.beq i 1 then x.b else x.c
def T3.put(x:T3)(n:Int)(i:Nat):T3:=bif Nat.beq i 0 then⟨n,x.b,x.c⟩ else bif Nat.beq i 1 then⟨x.a,n,x.c⟩ else⟨x.a,x.b,n⟩
def xZ(s t:Nat)(c:Int)(x:T3):T3:=bif decide (oP [x.get s,c]<x.get t) then x.put (oP [x.get s,c]) t else x
def relT(l:List Lin)(m i:Nat)(b:Bool)(x:T3):T3:=bif lsM (gD l i) b==(m:Int) then xZ m (goM (gD l i) b).toNat (sE (gD l i) b) x else x
def AYI(l:List Lin)(m i:Nat)(x:T3):Nat->T3
 |0=>x
 |j+1=>relT l m i (!decide (j=0)) (AYI l m i x j)
def AXC(l:List Lin)(m:Nat)(x:T3):Nat->T3
 |0=>x
 |i+1=>AYI l m i (AXC l m x i) 2
def mrkT(l:List Lin)(x:T3):Nat->T3
 |0=>x
 |m+1=>bif (mrkT l x m).get m==JZ then mrkT l x m else AXC l m (mrkT l x m) l.length
def rndT(l:List Lin)(x:T3):Nat->T3
 |0=>x
 |k+1=>mrkT l (rndT l x k) 3
def filT(l:List Lin)(x:T3):T3:=rndT l x 3
def SO(a:Nat)(g:Nat->Int):T3:=⟨g (Qp a 0),g (Qp a 1),g (Qp a 2)⟩
theorem G3{m:Nat}(h:m<3):m=0∨m=1∨m=2:=by omega
theorem ABX{a m:Nat}(g:Nat->Int)(h:m<3):(SO a g).get m=g (Qp a m):=by
 rcases G3 h with rfl | rfl | rfl<;>rfl
theorem BHN{c:Nat}{n:Int}{g:Nat->Int}(j:Nat):putA c n g j=if j=c then n else g j:=by
 unfold putA
 by_cases h:j=c
 ·subst h;simp
 ·rw[show Nat.beq j c=false from Bool.eq_false_iff.2 λe=>h (Nat.eq_of_beq_eq_true e),if_neg h];rfl
theorem CGB{a t:Nat}(n:Int)(g:Nat->Int)(ht:t<3):SO a (putA (Qp a t) n g)=(SO a g).put n t:=by
 unfold SO
 simp only[BHN,Qp]
 rcases G3 ht with rfl | rfl | rfl<;>simp[T3.put]<;>rfl
theorem BET{a a' t:Nat}(n:Int)(g:Nat->Int)(ht:t<3)(ha:a'≠a):SO a' (putA (Qp a t) n g)=SO a' g:=by
 unfold SO
 simp only[BHN,Qp]
 rw[if_neg (by omega),if_neg (by omega),if_neg (by omega)]
section
variable {l : List Lin} (hok : l.all Ac = true)
include hok
theorem CGA{a m i:Nat}{b:Bool}(g:Nat->Int)(hm:m<3)(hi:i<l.length):SO a (wG l a m i b g)=relT l m i b (SO a g):=by
 have hg:=AVH (AHQ hok hi) b
 unfold wG relT xZ
 have h3:(goM (gD l i) b).toNat<3:=by omega
 rw[ABX g hm,ABX g h3]
 cases (lsM (gD l i) b==(m:Int)) with
 |false=>rfl
 |true=>
  simp only[cond_true]
  cases decide (oP [g (Qp a m),sE (gD l i) b]<g (Qp a (goM (gD l i) b).toNat)) with
  |false=>rfl
  |true=>exact CGB _ _ h3
theorem BAO{a a' m i:Nat}{b:Bool}(g:Nat->Int)(hi:i<l.length)(ha:a'≠a):SO a' (wG l a m i b g)=SO a' g:=by
 have hg:=AVH (AHQ hok hi) b
 unfold wG
 cases (lsM (gD l i) b==(m:Int)) with
 |false=>rfl
 |true=>
  simp only[cond_true]
  cases decide (oP [g (Qp a m),sE (gD l i) b]<g (Qp a (goM (gD l i) b).toNat)) with
  |false=>rfl
  |true=>exact BET _ _ (by omega) ha
theorem AXT{a m i:Nat}(g:Nat->Int)(hm:m<3)(hi:i<l.length):∀j,SO a (D1 l a m i g j)=AYI l m i (SO a g) j
 |0=>rfl
 |j+1=>by show SO a (wG l a m i (!decide (j=0)) (D1 l a m i g j))=relT l m i (!decide (j=0)) (AYI l m i (SO a g) j);rw[CGA hok _ hm hi,AXT g hm hi j]
theorem ABL{a a' m i:Nat}(g:Nat->Int)(hi:i<l.length)(ha:a'≠a):∀j,SO a' (D1 l a m i g j)=SO a' g
 |0=>rfl
 |j+1=>by show SO a' (wG l a m i (!decide (j=0)) (D1 l a m i g j))=_;rw[BAO hok _ hi ha,ABL g hi ha j]
theorem AWR{a m:Nat}(g:Nat->Int)(hm:m<3):∀i,i<=l.length->SO a (legI l a m g i)=AXC l m (SO a g) i
 |0,_=>rfl
 |i+1,h=>by show SO a (D1 l a m i (legI l a m g i) 2)=AYI l m i (AXC l m (SO a g) i) 2;rw[AXT hok _ hm (by omega),AWR g hm i (by omega)]
theorem AAH{a a' m:Nat}(g:Nat->Int)(ha:a'≠a):∀i,i<=l.length->SO a' (legI l a m g i)=SO a' g
 |0,_=>rfl
 |i+1,h=>by show SO a' (D1 l a m i (legI l a m g i) 2)=_;rw[ABL hok _ (by omega) ha,AAH g ha i (by omega)]
theorem BJK{a:Nat}(g:Nat->Int):∀m,m<=3->SO a (eE l a g m)=mrkT l (SO a g) m
 |0,_=>rfl
 |m+1,h=>by
  show SO a (bif eE l a g m (Qp a m)==JZ then eE l a g m else legI l a m (eE l a g m) l.length)=bif (mrkT l (SO a g) m).get m==JZ then mrkT l (SO a g) m else AXC l m (mrkT l (SO a g) m) l.length
  rw[<-BJK g m (by omega),ABX _ (by omega)]
  cases (eE l a g m (Qp a m)==JZ) with
  |true=>rfl
  |false=>exact AWR hok _ (by omega) _ (Nat.le_refl _)
theorem B9{a a':Nat}(g:Nat->Int)(ha:a'≠a):∀m,m<=3->SO a' (eE l a g m)=SO a' g
 |0,_=>rfl
 |m+1,h=>by
  show SO a' (bif eE l a g m (Qp a m)==JZ then eE l a g m else legI l a m (eE l a g m) l.length)=SO a' g
  cases (eE l a g m (Qp a m)==JZ) with
  |true=>exact B9 g ha m (by omega)
  |false=>exact (AAH hok _ ha _ (Nat.le_refl _)).trans (B9 g ha m (by omega))
theorem BGJ{a:Nat}(g:Nat->Int):∀k,SO a (rZ l a g k)=rndT l (SO a g) k
 |0=>rfl
 |k+1=>by show SO a (eE l a (rZ l a g k) 3)=mrkT l (rndT l (SO a g) k) 3;rw[BJK hok _ 3 (Nat.le_refl _),BGJ g k]
theorem AJV{a a':Nat}(g:Nat->Int)(ha:a'≠a):∀k,SO a' (rZ l a g k)=SO a' g
 |0=>rfl
 |k+1=>by show SO a' (eE l a (rZ l a g k) 3)=_;rw[B9 hok _ ha 3 (Nat.le_refl _),AJV g ha k]
def Dz(a:Nat):T3:=(⟨JZ,JZ,JZ⟩:T3).put 0 a
omit hok in
theorem CCG{a:Nat}(h:a<3):SO a (iniA 3)=Dz a:=by
 rcases G3 h with rfl | rfl | rfl<;>rfl
theorem CFU{a:Nat}(h:a<3):SO a (XK l)=filT l (Dz a):=by
 have e:∀k,SO a (wrkK l (k+1))=if a=k then filT l (SO a (wrkK l k)) else SO a (wrkK l k):=λk=>by
  show SO a (rZ l k (wrkK l k) 3)=_
  by_cases ha:a=k
  ·rw[if_pos ha];subst ha;exact BGJ hok _ 3
  ·rw[if_neg ha];exact AJV hok _ ha 3
 show SO a (wrkK l 3)=_
 rw[e,e,e,show wrkK l 0=iniA 3 from rfl,CCG h]
 rcases G3 h with rfl | rfl | rfl<;>rfl
theorem qQ{a b:Nat}(ha:a<3)(hb:b<3):XK l (Qp a b)=(filT l (Dz a)).get b:=by
 rw[<-CFU hok ha,ABX _ hb]
def BXX(l:List Lin)(f:Nat)(x:T3):Prop:=0<=x.get f/\∀(m i:Nat) (b:Bool),m<3->i<l.length->lsM (gD l i) b=(m:Int)->x.get m<JZ->¬wr (x.get m+sE (gD l i) b)<x.get (goM (gD l i) b).toNat
theorem ARZ(h:∀f,f<3->BXX l f (filT l (Dz f))):noOp l (XK l):=by
 refine⟨λm hm=>?_,λf m i b hf hm hi hs hfar=>?_⟩
 ·rw[qQ hok hm hm];exact (h m hm).1
 ·have hg:=AVH (AHQ hok hi) b
  rw[qQ hok hf hm] at hfar ⊢
  rw[qQ hok hf (by omega)]
  exact (h f hf).2 m i b hm hi hs hfar
end
end Go.Bal

namespace Go.Bal
open Go Go.Sym Go.Proofs
theorem BQT{u c:Int}(h1:-1000000000<=u/\u<=1000000000)(h2:-1000000000<=c/\c<=1000000000):oP [u,c]=u+c:=by
 show wr (wr (0+u)+c)=u+c
 unfold wr
 rw[Ab (n:=0+u) (by omega) (by omega),Ab (by omega) (by omega)];omega
theorem Sd{s t:Nat}{c u v:Int}{x:T3}(hs:x.get s=u)(ht:x.get t=v)(h1:-1000000000<=u/\u<=1000000000)(h2:-1000000000<=c/\c<=1000000000)(h:v<=u+c):xZ s t c x=x:=by
 unfold xZ
 rw[hs,ht,BQT h1 h2,decide_eq_false (by omega)];rfl
theorem rV{s t:Nat}{c u v:Int}{x y:T3}(hs:x.get s=u)(ht:x.get t=v)(h1:-1000000000<=u/\u<=1000000000)(h2:-1000000000<=c/\c<=1000000000)(h:u+c<v)(hy:x.put (u+c) t=y):xZ s t c x=y:=by
 unfold xZ
 rw[hs,ht,BQT h1 h2,decide_eq_true h];exact hy
def mn(a b:Int):Int:=if b<a then b else a
theorem cR(a b:Int):mn a b<=a/\mn a b<=b/\(mn a b=a∨mn a b=b):=by unfold mn;split<;>omega
theorem r_mn{s t:Nat}{c u v:Int}{x y:T3}(hs:x.get s=u)(ht:x.get t=v)(h1:-1000000000<=u/\u<=1000000000)(h2:-1000000000<=c/\c<=1000000000)(hx:x.put v t=x)(hy:x.put (mn v (u+c)) t=y):xZ s t c x=y:=by
 unfold xZ
 rw[hs,ht,BQT h1 h2]
 unfold mn at hy
 by_cases h:u+c<v
 ·rw[decide_eq_true h];rw[if_pos h] at hy;exact hy
 ·rw[decide_eq_false h];rw[if_neg h,hx] at hy;exact hy
theorem Ad{x:T3}{s:Nat}{u:Int}{y z:T3}(hs:x.get s=u)(h:u<=1000000000):(bif x.get s==JZ then y else z)=z:=by
 rw[hs,show (u==JZ)=false from by simp only[beq_eq_false_iff_ne,ne_eq,JZ];omega];rfl
theorem AHX{x:T3}{s:Nat}{y z:T3}(hs:x.get s=JZ):(bif x.get s==JZ then y else z)=y:=by
 rw[hs];simp
structure Rise where
 a01:Int
 a10:Int
 a12:Int
 a21:Int
 a02:Int
 a20:Int
structure RiOk(r:Rise):Prop where
 b01:-1000<=r.a01/\r.a01<=1000
 b10:-1000<=r.a10/\r.a10<=1000
 b12:-1000<=r.a12/\r.a12<=1000
 b21:-1000<=r.a21/\r.a21<=1000
 b02:-1000<=r.a02/\r.a02<=1000
 b20:-1000<=r.a20/\r.a20<=1000
 l01:0<=r.a01+r.a10
 l12:0<=r.a12+r.a21
 l02:0<=r.a02+r.a20
 c1:0<=r.a01+r.a12+r.a20
 c2:0<=r.a02+r.a21+r.a10
def p0(r:Rise)(x:T3):T3:=bif x.get 0==JZ then x else xZ 0 1 r.a01 x
def p1(r:Rise)(x:T3):T3:=bif x.get 1==JZ then x else xZ 1 2 r.a12 (xZ 1 0 r.a10 x)
def p2(r:Rise)(x:T3):T3:=bif x.get 2==JZ then x else xZ 2 1 r.a21 x
def pR(r:Rise)(x:T3):T3:=p2 r (p1 r (p0 r x))
theorem BBJ{r:Rise}(h:RiOk r){p q s:Int}(hp:-10000<=p/\p<=10000)(hq:-10000<=q/\q<=10000)(hs:-10000<=s/\s<=10000)(k1:q<=p+r.a01)(k2:p<=q+r.a10)(k3:s<=q+r.a12)(k4:q<=s+r.a21):pR r ⟨p,q,s⟩=⟨p,q,s⟩:=by
 have hb:=h.b01;have hc:=h.b10;have hd:=h.b12;have he:=h.b21
 have e0:p0 r ⟨p,q,s⟩=⟨p,q,s⟩:=(Ad (u:=p) rfl (by omega)).trans (Sd (u:=p) (v:=q) rfl rfl (by omega) (by omega) k1)
 have e1:p1 r ⟨p,q,s⟩=⟨p,q,s⟩:=by
  refine (Ad (u:=q) rfl (by omega)).trans ?_
  rw[Sd (s:=1) (t:=0) (u:=q) (v:=p) rfl rfl (by omega) (by omega) k2]
  exact Sd (u:=q) (v:=s) rfl rfl (by omega) (by omega) k3
 have e2:p2 r ⟨p,q,s⟩=⟨p,q,s⟩:=(Ad (u:=s) rfl (by omega)).trans (Sd (u:=s) (v:=q) rfl rfl (by omega) (by omega) k4)
 unfold pR;rw[e0,e1,e2]
theorem Ko{u:Int}(h:u<=1000000000):u<JZ:=by unfold JZ;omega
theorem pR0{r:Rise}(h:RiOk r):pR r (pR r (pR r (Dz 0)))=⟨0,r.a01,r.a01+r.a12⟩:=by
 have hb:=h.b01;have hc:=h.b10;have hd:=h.b12;have he:=h.b21;have g1:=h.l01;have g2:=h.l12
 have e:pR r (Dz 0)=⟨0,r.a01,r.a01+r.a12⟩:=by
  have e0:p0 r (Dz 0)=⟨0,r.a01,JZ⟩:=(Ad (u:=0) rfl (by omega)).trans (rV (u:=0) (v:=JZ) rfl rfl (by omega) (by omega) (Ko (by omega)) (by rw[Int.zero_add];rfl))
  have e1:p1 r ⟨0,r.a01,JZ⟩=⟨0,r.a01,r.a01+r.a12⟩:=by
   refine (Ad (u:=r.a01) rfl (by omega)).trans ?_
   rw[Sd (s:=1) (t:=0) (u:=r.a01) (v:=0) rfl rfl (by omega) (by omega) (by omega)]
   exact rV (u:=r.a01) (v:=JZ) rfl rfl (by omega) (by omega) (Ko (by omega)) rfl
  have e2:p2 r ⟨0,r.a01,r.a01+r.a12⟩=⟨0,r.a01,r.a01+r.a12⟩:=(Ad (u:=r.a01+r.a12) rfl (by omega)).trans (Sd (u:=r.a01+r.a12) (v:=r.a01) rfl rfl (by omega) (by omega) (by omega))
  unfold pR;rw[e0,e1,e2]
 have fx:=BBJ h (p:=0) (q:=r.a01) (s:=r.a01+r.a12) (by omega) (by omega) (by omega) (by omega) (by omega) (by omega) (by omega)
 rw[e,fx,fx]
theorem pR1{r:Rise}(h:RiOk r):pR r (pR r (pR r (Dz 1)))=⟨r.a10,0,r.a12⟩:=by
 have hb:=h.b01;have hc:=h.b10;have hd:=h.b12;have he:=h.b21;have g1:=h.l01;have g2:=h.l12
 have e:pR r (Dz 1)=⟨r.a10,0,r.a12⟩:=by
  have e0:p0 r (Dz 1)=Dz 1:=AHX rfl
  have e1:p1 r (Dz 1)=⟨r.a10,0,r.a12⟩:=by
   refine (Ad (u:=0) rfl (by omega)).trans ?_
   rw[rV (s:=1) (t:=0) (y:=⟨r.a10,0,JZ⟩) (u:=0) (v:=JZ) rfl rfl (by omega) (by omega) (Ko (by omega)) (by rw[Int.zero_add];rfl)]
   exact rV (u:=0) (v:=JZ) rfl rfl (by omega) (by omega) (Ko (by omega)) (by rw[Int.zero_add];rfl)
  have e2:p2 r ⟨r.a10,0,r.a12⟩=⟨r.a10,0,r.a12⟩:=(Ad (u:=r.a12) rfl (by omega)).trans (Sd (u:=r.a12) (v:=0) rfl rfl (by omega) (by omega) (by omega))
  unfold pR;rw[e0,e1,e2]
 have fx:=BBJ h (p:=r.a10) (q:=0) (s:=r.a12) (by omega) (by omega) (by omega) (by omega) (by omega) (by omega) (by omega)
 rw[e,fx,fx]
theorem pR2{r:Rise}(h:RiOk r):pR r (pR r (pR r (Dz 2)))=⟨r.a21+r.a10,r.a21,0⟩:=by
 have hb:=h.b01;have hc:=h.b10;have hd:=h.b12;have he:=h.b21;have g1:=h.l01;have g2:=h.l12
 have e:pR r (Dz 2)=⟨JZ,r.a21,0⟩:=by
  have e0:p0 r (Dz 2)=Dz 2:=AHX rfl
  have e1:p1 r (Dz 2)=Dz 2:=AHX rfl
  have e2:p2 r (Dz 2)=⟨JZ,r.a21,0⟩:=(Ad (u:=0) rfl (by omega)).trans (rV (u:=0) (v:=JZ) rfl rfl (by omega) (by omega) (Ko (by omega)) (by rw[Int.zero_add];rfl))
  unfold pR;rw[e0,e1,e2]
 have e':pR r ⟨JZ,r.a21,0⟩=⟨r.a21+r.a10,r.a21,0⟩:=by
  have e0:p0 r ⟨JZ,r.a21,0⟩=⟨JZ,r.a21,0⟩:=AHX rfl
  have e1:p1 r ⟨JZ,r.a21,0⟩=⟨r.a21+r.a10,r.a21,0⟩:=by
   refine (Ad (u:=r.a21) rfl (by omega)).trans ?_
   rw[rV (s:=1) (t:=0) (y:=⟨r.a21+r.a10,r.a21,0⟩) (u:=r.a21) (v:=JZ) rfl rfl (by omega) (by omega) (Ko (by omega)) rfl]
   exact Sd (u:=r.a21) (v:=0) rfl rfl (by omega) (by omega) (by omega)
  have e2:p2 r ⟨r.a21+r.a10,r.a21,0⟩=⟨r.a21+r.a10,r.a21,0⟩:=(Ad (u:=0) rfl (by omega)).trans (Sd (u:=0) (v:=r.a21) rfl rfl (by omega) (by omega) (by omega))
  unfold pR;rw[e0,e1,e2]
 have fx:=BBJ h (p:=r.a21+r.a10) (q:=r.a21) (s:=0) (by omega) (by omega) (by omega) (by omega) (by omega) (by omega) (by omega)
 rw[e,e',fx]
def q0(r:Rise)(x:T3):T3:=bif x.get 0==JZ then x else xZ 0 2 r.a02 (xZ 0 1 r.a01 x)
def q2(r:Rise)(x:T3):T3:=bif x.get 2==JZ then x else xZ 2 0 r.a20 (xZ 2 1 r.a21 x)
def rgR(r:Rise)(x:T3):T3:=q2 r (p1 r (q0 r x))
theorem BCG{r:Rise}(h:RiOk r){p q s:Int}(hp:-10000<=p/\p<=10000)(hq:-10000<=q/\q<=10000)(hs:-10000<=s/\s<=10000)(k1:q<=p+r.a01)(k2:p<=q+r.a10)(k3:s<=q+r.a12)(k4:q<=s+r.a21)(k5:s<=p+r.a02)(k6:p<=s+r.a20):rgR r ⟨p,q,s⟩=⟨p,q,s⟩:=by
 have hb:=h.b01;have hc:=h.b10;have hd:=h.b12;have he:=h.b21;have hf:=h.b02;have hg:=h.b20
 have e0:q0 r ⟨p,q,s⟩=⟨p,q,s⟩:=by
  refine (Ad (u:=p) rfl (by omega)).trans ?_
  rw[Sd (s:=0) (t:=1) (u:=p) (v:=q) rfl rfl (by omega) (by omega) k1]
  exact Sd (u:=p) (v:=s) rfl rfl (by omega) (by omega) k5
 have e1:p1 r ⟨p,q,s⟩=⟨p,q,s⟩:=by
  refine (Ad (u:=q) rfl (by omega)).trans ?_
  rw[Sd (s:=1) (t:=0) (u:=q) (v:=p) rfl rfl (by omega) (by omega) k2]
  exact Sd (u:=q) (v:=s) rfl rfl (by omega) (by omega) k3
 have e2:q2 r ⟨p,q,s⟩=⟨p,q,s⟩:=by
  refine (Ad (u:=s) rfl (by omega)).trans ?_
  rw[Sd (s:=2) (t:=1) (u:=s) (v:=q) rfl rfl (by omega) (by omega) k4]
  exact Sd (u:=s) (v:=p) rfl rfl (by omega) (by omega) k6
 unfold rgR;rw[e0,e1,e2]
theorem qR0{r:Rise}(h:RiOk r):rgR r (rgR r (rgR r (Dz 0)))=⟨0,mn r.a01 (mn r.a02 (r.a01+r.a12)+r.a21),mn r.a02 (r.a01+r.a12)⟩:=by
 have hb:=h.b01;have hc:=h.b10;have hd:=h.b12;have he:=h.b21;have hf:=h.b02;have hg:=h.b20
 have g1:=h.l01;have g2:=h.l12;have g3:=h.l02;have g4:=h.c1;have g5:=h.c2
 obtain⟨m1,m2,m3⟩:=cR r.a02 (r.a01+r.a12)
 generalize hm:mn r.a02 (r.a01+r.a12)=m at *
 obtain⟨n1,n2,n3⟩:=cR r.a01 (m+r.a21)
 generalize hn:mn r.a01 (m+r.a21)=n at *
 have e:rgR r (Dz 0)=⟨0,n,m⟩:=by
  have e0:q0 r (Dz 0)=⟨0,r.a01,r.a02⟩:=by
   refine (Ad (u:=0) rfl (by omega)).trans ?_
   rw[rV (s:=0) (t:=1) (y:=⟨0,r.a01,JZ⟩) (u:=0) (v:=JZ) rfl rfl (by omega) (by omega) (Ko (by omega)) (by rw[Int.zero_add];rfl)]
   exact rV (u:=0) (v:=JZ) rfl rfl (by omega) (by omega) (Ko (by omega)) (by rw[Int.zero_add];rfl)
  have e1:p1 r ⟨0,r.a01,r.a02⟩=⟨0,r.a01,m⟩:=by
   refine (Ad (u:=r.a01) rfl (by omega)).trans ?_
   rw[Sd (s:=1) (t:=0) (u:=r.a01) (v:=0) rfl rfl (by omega) (by omega) (by omega)]
   exact r_mn (u:=r.a01) (v:=r.a02) rfl rfl (by omega) (by omega) rfl (by rw[hm];rfl)
  have e2:q2 r ⟨0,r.a01,m⟩=⟨0,n,m⟩:=by
   refine (Ad (u:=m) rfl (by omega)).trans ?_
   rw[r_mn (s:=2) (t:=1) (y:=⟨0,n,m⟩) (u:=m) (v:=r.a01) rfl rfl (by omega) (by omega) rfl (by rw[hn];rfl)]
   exact Sd (u:=m) (v:=0) rfl rfl (by omega) (by omega) (by omega)
  unfold rgR;rw[e0,e1,e2]
 have fx:=BCG h (p:=0) (q:=n) (s:=m) (by omega) (by omega) (by omega) (by omega) (by omega) (by omega) (by omega) (by omega) (by omega)
 rw[e,fx,fx]
theorem qR1{r:Rise}(h:RiOk r):rgR r (rgR r (rgR r (Dz 1)))=⟨mn r.a10 (r.a12+r.a20),0,mn r.a12 (mn r.a10 (r.a12+r.a20)+r.a02)⟩:=by
 have hb:=h.b01;have hc:=h.b10;have hd:=h.b12;have he:=h.b21;have hf:=h.b02;have hg:=h.b20
 have g1:=h.l01;have g2:=h.l12;have g3:=h.l02;have g4:=h.c1;have g5:=h.c2
 obtain⟨m1,m2,m3⟩:=cR r.a10 (r.a12+r.a20)
 generalize hm:mn r.a10 (r.a12+r.a20)=m at *
 obtain⟨n1,n2,n3⟩:=cR r.a12 (m+r.a02)
 generalize hn:mn r.a12 (m+r.a02)=n at *
 have e:rgR r (Dz 1)=⟨m,0,r.a12⟩:=by
  have e0:q0 r (Dz 1)=Dz 1:=AHX rfl
  have e1:p1 r (Dz 1)=⟨r.a10,0,r.a12⟩:=by
   refine (Ad (u:=0) rfl (by omega)).trans ?_
   rw[rV (s:=1) (t:=0) (y:=⟨r.a10,0,JZ⟩) (u:=0) (v:=JZ) rfl rfl (by omega) (by omega) (Ko (by omega)) (by rw[Int.zero_add];rfl)]
   exact rV (u:=0) (v:=JZ) rfl rfl (by omega) (by omega) (Ko (by omega)) (by rw[Int.zero_add];rfl)
  have e2:q2 r ⟨r.a10,0,r.a12⟩=⟨m,0,r.a12⟩:=by
   refine (Ad (u:=r.a12) rfl (by omega)).trans ?_
   rw[Sd (s:=2) (t:=1) (u:=r.a12) (v:=0) rfl rfl (by omega) (by omega) (by omega)]
   exact r_mn (u:=r.a12) (v:=r.a10) rfl rfl (by omega) (by omega) rfl (by rw[hm];rfl)
  unfold rgR;rw[e0,e1,e2]
 have e':rgR r ⟨m,0,r.a12⟩=⟨m,0,n⟩:=by
  have e0:q0 r ⟨m,0,r.a12⟩=⟨m,0,n⟩:=by
   refine (Ad (u:=m) rfl (by omega)).trans ?_
   rw[Sd (s:=0) (t:=1) (u:=m) (v:=0) rfl rfl (by omega) (by omega) (by omega)]
   exact r_mn (u:=m) (v:=r.a12) rfl rfl (by omega) (by omega) rfl (by rw[hn];rfl)
  have e1:p1 r ⟨m,0,n⟩=⟨m,0,n⟩:=by
   refine (Ad (u:=0) rfl (by omega)).trans ?_
   rw[Sd (s:=1) (t:=0) (u:=0) (v:=m) rfl rfl (by omega) (by omega) (by omega)]
   exact Sd (u:=0) (v:=n) rfl rfl (by omega) (by omega) (by omega)
  have e2:q2 r ⟨m,0,n⟩=⟨m,0,n⟩:=by
   refine (Ad (u:=n) rfl (by omega)).trans ?_
   rw[Sd (s:=2) (t:=1) (u:=n) (v:=0) rfl rfl (by omega) (by omega) (by omega)]
   exact Sd (u:=n) (v:=m) rfl rfl (by omega) (by omega) (by omega)
  unfold rgR;rw[e0,e1,e2]
 have fx:=BCG h (p:=m) (q:=0) (s:=n) (by omega) (by omega) (by omega) (by omega) (by omega) (by omega) (by omega) (by omega) (by omega)
 rw[e,e',fx]
theorem qR2{r:Rise}(h:RiOk r):rgR r (rgR r (rgR r (Dz 2)))=⟨mn r.a20 (mn r.a21 (r.a20+r.a01)+r.a10),mn r.a21 (r.a20+r.a01),0⟩:=by
 have hb:=h.b01;have hc:=h.b10;have hd:=h.b12;have he:=h.b21;have hf:=h.b02;have hg:=h.b20
 have g1:=h.l01;have g2:=h.l12;have g3:=h.l02;have g4:=h.c1;have g5:=h.c2
 obtain⟨m1,m2,m3⟩:=cR r.a21 (r.a20+r.a01)
 generalize hm:mn r.a21 (r.a20+r.a01)=m at *
 obtain⟨n1,n2,n3⟩:=cR r.a20 (m+r.a10)
 generalize hn:mn r.a20 (m+r.a10)=n at *
 have e:rgR r (Dz 2)=⟨r.a20,r.a21,0⟩:=by
  have e0:q0 r (Dz 2)=Dz 2:=AHX rfl
  have e1:p1 r (Dz 2)=Dz 2:=AHX rfl
  have e2:q2 r (Dz 2)=⟨r.a20,r.a21,0⟩:=by
   refine (Ad (u:=0) rfl (by omega)).trans ?_
   rw[rV (s:=2) (t:=1) (y:=⟨JZ,r.a21,0⟩) (u:=0) (v:=JZ) rfl rfl (by omega) (by omega) (Ko (by omega)) (by rw[Int.zero_add];rfl)]
   exact rV (u:=0) (v:=JZ) rfl rfl (by omega) (by omega) (Ko (by omega)) (by rw[Int.zero_add];rfl)
  unfold rgR;rw[e0,e1,e2]
 have e':rgR r ⟨r.a20,r.a21,0⟩=⟨n,m,0⟩:=by
  have e0:q0 r ⟨r.a20,r.a21,0⟩=⟨r.a20,m,0⟩:=by
   refine (Ad (u:=r.a20) rfl (by omega)).trans ?_
   rw[r_mn (s:=0) (t:=1) (y:=⟨r.a20,m,0⟩) (u:=r.a20) (v:=r.a21) rfl rfl (by omega) (by omega) rfl (by rw[hm];rfl)]
   exact Sd (u:=r.a20) (v:=0) rfl rfl (by omega) (by omega) (by omega)
  have e1:p1 r ⟨r.a20,m,0⟩=⟨n,m,0⟩:=by
   refine (Ad (u:=m) rfl (by omega)).trans ?_
   rw[r_mn (s:=1) (t:=0) (y:=⟨n,m,0⟩) (u:=m) (v:=r.a20) rfl rfl (by omega) (by omega) rfl (by rw[hn];rfl)]
   exact Sd (u:=m) (v:=0) rfl rfl (by omega) (by omega) (by omega)
  have e2:q2 r ⟨n,m,0⟩=⟨n,m,0⟩:=by
   refine (Ad (u:=0) rfl (by omega)).trans ?_
   rw[Sd (s:=2) (t:=1) (u:=0) (v:=m) rfl rfl (by omega) (by omega) (by omega)]
   exact Sd (u:=0) (v:=n) rfl rfl (by omega) (by omega) (by omega)
  unfold rgR;rw[e0,e1,e2]
 have fx:=BCG h (p:=n) (q:=m) (s:=0) (by omega) (by omega) (by omega) (by omega) (by omega) (by omega) (by omega) (by omega) (by omega)
 rw[e,e',fx]
end Go.Bal
