/- Package level: what is between water and bed, by two lines and by three (plain). -/
import Derived.Test.YtbmlgdlbffmjjaaGreatGaT
set_option linter.unusedVariables false
set_option linter.unusedSimpArgs false
namespace Go.Bal
open Go Go.Sym Go.Proofs
structure Gp where
 r0:Int
 e0:Int
 r1:Int
 e1:Int
 r2:Int
 e2:Int
def ln0(g:Gp):Lin:=⟨0,1,1,g.r0,g.e0⟩
def ln1(g:Gp):Lin:=⟨2,1,1,g.r1,g.e1⟩
def ln2(g:Gp):Lin:=⟨0,2,2,g.r2,g.e2⟩
def nA(g:Gp):List Lin:=[ln0 g,ln1 g]
def nB(g:Gp):List Lin:=[ln0 g,ln1 g,ln2 g]
def Rn(g:Gp):Rise:=⟨sE (ln0 g) false,sE (ln0 g) true,sE (ln1 g) true,sE (ln1 g) false,sE (ln2 g) false,sE (ln2 g) true⟩
theorem AWE(g:Gp)(x:T3):filT (nA g) x=pR (Rn g) (pR (Rn g) (pR (Rn g) x)):=by kernel_rfl
theorem AWF(g:Gp)(x:T3):filT (nB g) x=rgR (Rn g) (rgR (Rn g) (rgR (Rn g) x)):=by kernel_rfl
structure GpOk(g:Gp)(h t:Int):Prop where
 hh:-50<=h/\h<=90
 ht:5<=t/\t<=300
 e0:0<=g.e0/\g.e0<=8
 e1:0<=g.e1/\g.e1<=8
 e2:0<=g.e2/\g.e2<=8
 r0:h-g.e0<=g.r0/\g.r0<=h+g.e0
 r1:h+t-g.e1<=g.r1/\g.r1<=h+t+g.e1
 r2:-t-g.e2<=g.r2/\g.r2 <= -t+g.e2
theorem BGH{g:Gp}{h t:Int}(k:GpOk g h t):Rn g=⟨g.e0+g.r0,g.e0-g.r0,g.e1-g.r1,g.e1+g.r1,g.e2+g.r2,g.e2-g.r2⟩:=by
 have a1:=k.hh;have a2:=k.ht;have a3:=k.e0;have a4:=k.e1;have a5:=k.e2;have a6:=k.r0;have a7:=k.r1;have a8:=k.r2
 show (⟨wr (g.e0+g.r0),wr (g.e0-g.r0),wr (g.e1-g.r1),wr (g.e1+g.r1),wr (g.e2+g.r2),wr (g.e2-g.r2)⟩:Rise)=_
 unfold wr
 rw[Ab (n:=g.e0+g.r0) (by omega) (by omega),Ab (n:=g.e0-g.r0) (by omega) (by omega),Ab (n:=g.e1-g.r1) (by omega) (by omega),Ab (n:=g.e1+g.r1) (by omega) (by omega),Ab (n:=g.e2+g.r2) (by omega) (by omega),Ab (n:=g.e2-g.r2) (by omega) (by omega)]
theorem AGO{g:Gp}{h t:Int}(k:GpOk g h t):RiOk (Rn g):=by
 have a1:=k.hh;have a2:=k.ht;have a3:=k.e0;have a4:=k.e1;have a5:=k.e2;have a6:=k.r0;have a7:=k.r1;have a8:=k.r2
 rw[BGH k]
 refine⟨?_,?_,?_,?_,?_,?_,?_,?_,?_,?_,?_⟩<;>simp only<;>omega
theorem AIC{x:Lin}(h:(0<=x.f/\x.f<=2)/\(0<=x.t/\x.t<=2)/\x.f≠x.t/\(0<=x.d/\x.d<=40000)/\(-1000000<=x.r/\x.r<=1000000)/\0<=x.e/\x.e<=10000):Ac x=true:=by
 simp only[Ac,MN,Bool.and_eq_true,decide_eq_true_eq,Bool.not_eq_true',beq_eq_false_iff_ne,ne_eq]
 exact h
theorem ok0{g:Gp}{h t:Int}(k:GpOk g h t):Ac (ln0 g)=true/\Ac (ln1 g)=true/\Ac (ln2 g)=true:=by
 have a1:=k.hh;have a2:=k.ht;have a3:=k.e0;have a4:=k.e1;have a5:=k.e2;have a6:=k.r0;have a7:=k.r1;have a8:=k.r2
 refine⟨AIC ?_,AIC ?_,AIC ?_⟩<;>simp only[ln0,ln1,ln2]<;>omega
theorem okA{g:Gp}{h t:Int}(k:GpOk g h t):Z4 (nA g):=⟨by show 2<=30;omega,by obtain⟨h0,h1,_⟩:=ok0 k;simp[nA,h0,h1]⟩
theorem okB{g:Gp}{h t:Int}(k:GpOk g h t):Z4 (nB g):=⟨by show 3<=30;omega,by obtain⟨h0,h1,h2⟩:=ok0 k;simp[nB,h0,h1,h2]⟩
theorem yP{p c v:Int}(h1:-10000<=p/\p<=10000)(h2:-1000<=c/\c<=1000)(h:v<=p+c):¬wr (p+c)<v:=by
 unfold wr;rw[Ab (by omega) (by omega)];omega
theorem Jw{m:Nat}{n:Nat}(h:(n:Int)=(m:Int)):m=n:=by omega
theorem BYB{g:Gp}(r:RiOk (Rn g)){f:Nat}{p q s:Int}(hf:0<=T3.get ⟨p,q,s⟩ f)(hp:-10000<=p/\p<=10000)(hq:-10000<=q/\q<=10000)(hs:-10000<=s/\s<=10000)(k1:q<=p+(Rn g).a01)(k2:p<=q+(Rn g).a10)(k3:s<=q+(Rn g).a12)(k4:q<=s+(Rn g).a21):BXX (nA g) f ⟨p,q,s⟩:=by
 refine⟨hf,λm i b hm hi hst _=>?_⟩
 have hi:i<2:=hi
 match i,hi,b,hst with
 |0,_,false,hst=>obtain rfl:=Jw (n:=0) hst;exact yP hp r.b01 k1
 |0,_,true,hst=>obtain rfl:=Jw (n:=1) hst;exact yP hq r.b10 k2
 |1,_,false,hst=>obtain rfl:=Jw (n:=2) hst;exact yP hs r.b21 k4
 |1,_,true,hst=>obtain rfl:=Jw (n:=1) hst;exact yP hq r.b12 k3
theorem BOF{g:Gp}(r:RiOk (Rn g)){f:Nat}{p q s:Int}(hf:0<=T3.get ⟨p,q,s⟩ f)(hp:-10000<=p/\p<=10000)(hq:-10000<=q/\q<=10000)(hs:-10000<=s/\s<=10000)(k1:q<=p+(Rn g).a01)(k2:p<=q+(Rn g).a10)(k3:s<=q+(Rn g).a12)(k4:q<=s+(Rn g).a21)(k5:s<=p+(Rn g).a02)(k6:p<=s+(Rn g).a20):BXX (nB g) f ⟨p,q,s⟩:=by
 refine⟨hf,λm i b hm hi hst _=>?_⟩
 have hi:i<3:=hi
 match i,hi,b,hst with
 |0,_,false,hst=>obtain rfl:=Jw (n:=0) hst;exact yP hp r.b01 k1
 |0,_,true,hst=>obtain rfl:=Jw (n:=1) hst;exact yP hq r.b10 k2
 |1,_,false,hst=>obtain rfl:=Jw (n:=2) hst;exact yP hs r.b21 k4
 |1,_,true,hst=>obtain rfl:=Jw (n:=1) hst;exact yP hq r.b12 k3
 |2,_,false,hst=>obtain rfl:=Jw (n:=0) hst;exact yP hp r.b02 k5
 |2,_,true,hst=>obtain rfl:=Jw (n:=2) hst;exact yP hs r.b20 k6
theorem opA{g:Gp}{h t:Int}(k:GpOk g h t):noOp (nA g) (XK (nA g)):=by
 have r:=AGO k
 have b1:=r.b01;have b2:=r.b10;have b3:=r.b12;have b4:=r.b21;have l1:=r.l01;have l2:=r.l12
 refine ARZ (okA k).2 λf hf=>?_
 rcases G3 hf with rfl | rfl | rfl
 ·rw[AWE,pR0 r];exact BYB r (Int.le_refl 0) (by omega) (by omega) (by omega) (by omega) (by omega) (by omega) (by omega)
 ·rw[AWE,pR1 r];exact BYB r (Int.le_refl 0) (by omega) (by omega) (by omega) (by omega) (by omega) (by omega) (by omega)
 ·rw[AWE,pR2 r];exact BYB r (Int.le_refl 0) (by omega) (by omega) (by omega) (by omega) (by omega) (by omega) (by omega)
theorem opB{g:Gp}{h t:Int}(k:GpOk g h t):noOp (nB g) (XK (nB g)):=by
 have r:=AGO k
 have b1:=r.b01;have b2:=r.b10;have b3:=r.b12;have b4:=r.b21;have b5:=r.b02;have b6:=r.b20;have l1:=r.l01;have l2:=r.l12;have l3:=r.l02;have c1:=r.c1;have c2:=r.c2
 refine ARZ (okB k).2 λf hf=>?_
 rcases G3 hf with rfl | rfl | rfl
 ·rw[AWF,qR0 r]
  have m1:=cR (Rn g).a02 ((Rn g).a01+(Rn g).a12)
  have m2:=cR (Rn g).a01 (mn (Rn g).a02 ((Rn g).a01+(Rn g).a12)+(Rn g).a21)
  exact BOF r (Int.le_refl 0) (by omega) (by omega) (by omega) (by omega) (by omega) (by omega) (by omega) (by omega) (by omega)
 ·rw[AWF,qR1 r]
  have m1:=cR (Rn g).a10 ((Rn g).a12+(Rn g).a20)
  have m2:=cR (Rn g).a12 (mn (Rn g).a10 ((Rn g).a12+(Rn g).a20)+(Rn g).a02)
  exact BOF r (Int.le_refl 0) (by omega) (by omega) (by omega) (by omega) (by omega) (by omega) (by omega) (by omega) (by omega)
 ·rw[AWF,qR2 r]
  have m1:=cR (Rn g).a21 ((Rn g).a20+(Rn g).a01)
  have m2:=cR (Rn g).a20 (mn (Rn g).a21 ((Rn g).a20+(Rn g).a01)+(Rn g).a10)
  exact BOF r (Int.le_refl 0) (by omega) (by omega) (by omega) (by omega) (by omega) (by omega) (by omega) (by omega) (by omega)
def bA(g:Gp):Span:=btwV ⟨nA g,2,0⟩
def bB(g:Gp):Span:=btwV ⟨nB g,2,0⟩
theorem wrkA{g:Gp}{h t:Int}(k:GpOk g h t):XK (nA g) (Qp 0 2)=(Rn g).a01+(Rn g).a12/\XK (nA g) (Qp 2 0)=(Rn g).a21+(Rn g).a10:=by
 have r:=AGO k
 rw[qQ (okA k).2 (by omega) (by omega),qQ (okA k).2 (by omega) (by omega),AWE,AWE,pR0 r,pR2 r];exact⟨rfl,rfl⟩
theorem wrkB{g:Gp}{h t:Int}(k:GpOk g h t):XK (nB g) (Qp 0 2)=mn (Rn g).a02 ((Rn g).a01+(Rn g).a12)/\XK (nB g) (Qp 2 0)=mn (Rn g).a20 (mn (Rn g).a21 ((Rn g).a20+(Rn g).a01)+(Rn g).a10):=by
 have r:=AGO k
 rw[qQ (okB k).2 (by omega) (by omega),qQ (okB k).2 (by omega) (by omega),AWF,AWF,qR0 r,qR2 r];exact⟨rfl,rfl⟩
theorem Yw{g:Gp}{h t:Int}(k:GpOk g h t):CR (prB ⟨nA g,2,0⟩)/\CR (prB ⟨nB g,2,0⟩)/\((bA g).lo<=t/\t<=(bA g).hi)/\((bB g).lo<=t/\t<=(bB g).hi)/\((bA g).lo<=(bB g).lo/\(bB g).hi<=(bA g).hi)/\t-40<=(bA g).lo/\(bA g).hi<=t+40:=by
 have r:=AGO k
 obtain⟨w1,w2⟩:=wrkA k
 obtain⟨w3,w4⟩:=wrkB k
 have v:=BGH k
 have a1:=k.hh;have a2:=k.ht;have a3:=k.e0;have a4:=k.e1;have a5:=k.e2;have a6:=k.r0;have a7:=k.r1;have a8:=k.r2
 rw[v] at w1 w2 w3 w4
 simp only at w1 w2 w3 w4
 have m1:=cR (g.e2+g.r2) (g.e0+g.r0+(g.e1-g.r1))
 have m2:=cR (g.e1+g.r1) (g.e2-g.r2+(g.e0+g.r0))
 have m3:=cR (g.e2-g.r2) (mn (g.e1+g.r1) (g.e2-g.r2+(g.e0+g.r0))+(g.e0-g.r0))
 rw[<-w3] at m1
 rw[<-w4] at m3
 generalize hA:XK (nA g) (Qp 0 2)=A at *
 generalize hB:XK (nA g) (Qp 2 0)=B at *
 generalize hC:XK (nB g) (Qp 0 2)=C at *
 generalize hD:XK (nB g) (Qp 2 0)=D at *
 have e1:(bA g).lo=-A:=by unfold bA btwV;simp only;rw[hA];unfold wr;exact Ab (by omega) (by omega)
 have e2:(bA g).hi=B:=by unfold bA btwV;exact hB
 have e3:(bB g).lo=-C:=by unfold bB btwV;simp only;rw[hC];unfold wr;exact Ab (by omega) (by omega)
 have e4:(bB g).hi=D:=by unfold bB btwV;exact hD
 refine⟨?_,?_,by omega,by omega,by omega,by omega,by omega⟩
 ·refine⟨okA k,opA k,⟨by show 2<3;omega,by show 0<3;omega⟩,?_⟩
  show XK (nA g) (Qp 2 0)≠JZ
  rw[hB];unfold JZ;omega
 ·refine⟨okB k,opB k,⟨by show 2<3;omega,by show 0<3;omega⟩,?_⟩
  show XK (nB g) (Qp 2 0)≠JZ
  rw[hD];unfold JZ;omega
def thr:List Lin:=[⟨0,1,5,100,2⟩,⟨1,2,5,50,1⟩,⟨0,2,9,148,3⟩]
theorem ARA:Z4 thr:=⟨by show 3<=30;omega,by decide +kernel⟩
theorem thr0:filT thr (Dz 0)=⟨0,102,151⟩:=by decide +kernel
theorem thr1:filT thr (Dz 1)=⟨-98,0,51⟩:=by decide +kernel
theorem thr2:filT thr (Dz 2)=⟨-147,-49,0⟩:=by decide +kernel
theorem CPM:noOp thr (XK thr):=by
 refine ARZ ARA.2 λf hf=>?_
 have key:∀x:T3,(x=⟨0,102,151⟩∨x=⟨-98,0,51⟩∨x=⟨-147,-49,0⟩)->∀(m i:Nat) (b:Bool),m<3->i<thr.length->lsM (gD thr i) b=(m:Int)->x.get m<JZ->¬wr (x.get m+sE (gD thr i) b)<x.get (goM (gD thr i) b).toNat:=by
  rintro x (rfl | rfl | rfl) m i b hm hi hs _
  all_goals
   have hi:i<3:=hi
   match i,hi,b,hs with
   |0,_,false,hs=>obtain rfl:=Jw (n:=0) hs;decide +kernel
   |0,_,true,hs=>obtain rfl:=Jw (n:=1) hs;decide +kernel
   |1,_,false,hs=>obtain rfl:=Jw (n:=1) hs;decide +kernel
   |1,_,true,hs=>obtain rfl:=Jw (n:=2) hs;decide +kernel
   |2,_,false,hs=>obtain rfl:=Jw (n:=0) hs;decide +kernel
   |2,_,true,hs=>obtain rfl:=Jw (n:=2) hs;decide +kernel
 rcases G3 hf with rfl | rfl | rfl
 ·rw[thr0];exact⟨by decide +kernel,key _ (.inl rfl)⟩
 ·rw[thr1];exact⟨by decide +kernel,key _ (.inr (.inl rfl))⟩
 ·rw[thr2];exact⟨by decide +kernel,key _ (.inr (.inr rfl))⟩
theorem BHP:CR (prB ⟨thr,0,2⟩)/\btwV ⟨thr,0,2⟩=⟨147,151⟩:=by
 have h1:XK thr (Qp 0 2)=151:=by rw[qQ ARA.2 (by omega) (by omega),thr0];rfl
 have h2:XK thr (Qp 2 0)=-147:=by rw[qQ ARA.2 (by omega) (by omega),thr2];rfl
 refine⟨⟨ARA,CPM,⟨by show 0<3;omega,by show 2<3;omega⟩,?_⟩,?_⟩
 ·show XK thr (Qp 0 2)≠JZ
  rw[h1];unfold JZ;omega
 ·show (⟨wr (-(XK thr (Qp 2 0))),XK thr (Qp 0 2)⟩:Span)=_
  rw[h1,h2];rfl
end Go.Bal
