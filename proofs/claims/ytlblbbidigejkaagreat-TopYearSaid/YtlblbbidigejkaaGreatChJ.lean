/- Package chart: the greatest stages from a time to another one. -/
import Derived.Test.YtlblbbidigejkaaGreatChD3
set_option linter.unusedVariables false
set_option linter.unusedSimpArgs false

namespace Go.Bal
open Go Go.Sym Go.Proofs
theorem ANC(a b:Int):a<=EU a b/\b<=EU a b:=by unfold EU;split<;>omega
theorem AXN(a b:Int):IF a b<=a/\IF a b<=b:=by unfold IF;split<;>omega
def Nk(B:Int)(s:Span):Prop:=(-B<=s.lo/\s.lo<=B) /\ -B<=s.hi/\s.hi<=B
def gpOk(s:Nat->Span)(n:Nat):Prop:=∀g,g<n->(0<=(s g).lo/\(s g).lo<=200000000)/\0<=(s g).hi/\(s g).hi<=200000000
theorem BYU{l:List Span}{s:Nat->Span}{n:Nat}(hl:∀i,i<=n->Nk 1000000000 (gD l i))(hs:gpOk s n)(hn:n<40):∀i,i<=n->fwM l s i=fw (gD l) s i/\Nk (1000000000+200000000*i) (fw (gD l) s i)
 |0,_=>⟨rfl,by have:=hl 0 (Nat.zero_le _);show Nk _ (gD l 0);unfold Nk at *;omega⟩
 |g+1,h=>by
  obtain⟨e,hb⟩:=BYU hl hs hn g (by omega)
  have h1:=hl (g+1) h
  have h2:=hs g (by omega)
  have e2:addS (fw (gD l) s g) (s g)=⟨(fw (gD l) s g).lo+(s g).lo,(fw (gD l) s g).hi+(s g).hi⟩:=by
   unfold addS GM Nk at *
   rw[ER (by omega) (by omega),ER (by omega) (by omega)]
  refine⟨by show T9 _ (addS (fwM l s g) (s g))=_;rw[e,e2];rfl,?_⟩
  show Nk _ (T9 _ _)
  unfold T9
  generalize fw (gD l) s g=F at *
  generalize gD l (g+1)=L at *
  unfold Nk EU IF at *
  simp only at *
  constructor
  ·split<;>omega
  ·split<;>omega
theorem BYH{f s:Nat->Span}{n:Nat}(hf:∀i,i<=n->Nk 10000000000 (f i))(hs:gpOk s n)(hn:n<40):∀j,j<=n->bkMQ f s n j=bk f s n j/\Nk (10000000000+200000000*j) (bk f s n j)
 |0,_=>⟨rfl,by have:=hf n (Nat.le_refl _);show Nk _ (f n);unfold Nk at *;omega⟩
 |j+1,h=>by
  obtain⟨e,hb⟩:=BYH hf hs hn j (by omega)
  have h1:=hf (n-(j+1)) (by omega)
  have h2:=hs (n-(j+1)) (by omega)
  have e2:subS (bk f s n j) (s (n-(j+1)))=⟨(bk f s n j).lo-(s (n-(j+1))).hi,(bk f s n j).hi-(s (n-(j+1))).lo⟩:=by
   unfold subS GM Nk at *
   rw[ER (by omega) (by omega),ER (by omega) (by omega)]
  refine⟨by show T9 _ (subS (bkMQ f s n j) (s _))=_;rw[e,e2];rfl,?_⟩
  show Nk _ (T9 _ _)
  unfold T9
  generalize bk f s n j=F at *
  generalize f (n-(j+1))=L at *
  unfold Nk EU IF at *
  simp only at *
  constructor
  ·split<;>omega
  ·split<;>omega
theorem BVU{f g s:Nat->Span}{n:Nat}(h:∀i,i<=n->f i=g i):∀j,j<=n->bkMQ f s n j=bkMQ g s n j
 |0,_=>h n (Nat.le_refl _)
 |j+1,hj=>by
  show T9 _ _=T9 _ _
  rw[BVU h j (by omega),h _ (by omega)]
theorem BDU{w:Dk}{l:List Span}(h1:1<=l.length)(h40:l.length<=40)(hl:∀i,i<l.length->Nk 1000000000 (gD l i))(hs:gpOk (Ey w) (l.length-1)){i:Nat}(hi:i<l.length):gD (lC w l) i=nar (gD l) (Ey w) (l.length-1) i:=by
 have hf:=BYU (l:=l) (s:=Ey w) (n:=l.length-1) (λi h=>hl i (by omega)) hs (by omega)
 unfold lC
 rw[CS _ _ _ hi,BVU (λi h=>(hf i h).1) _ (by omega)]
 refine (BYH (λi h=>?_) hs (by omega) _ (by omega)).1
 have:=(hf i h).2
 unfold Nk at *;omega
theorem BAX{l:List Span}:l.all lZ=true↔∀i,i<l.length->(gD l i).lo<=(gD l i).hi:=by
 rw[List.all_eq_true]
 constructor
 ·intro h i hi;exact of_decide_eq_true (h _ (FD hi))
 ·intro h x hx
  obtain⟨i,hi,rfl⟩:=Hq hx
  exact decide_eq_true (h i hi)
theorem BIB(w:Dk)(l:List Span):(lC w l).length=l.length:=rng_length _ _
theorem CBG{w:Dk}{l:List Span}(h1:1<=l.length)(h40:l.length<=40)(hl:∀i,i<l.length->Nk 1000000000 (gD l i))(hs:gpOk (Ey w) (l.length-1))(hle:∀g,g<l.length-1->(Ey w g).lo<=(Ey w g).hi):(lC w l).all lZ=true↔∃t,Tr (gD l) (Ey w) (l.length-1) t:=by
 rw[<-BEY hle,BAX,BIB]
 constructor
 ·intro h i hi;rw[<-BDU h1 h40 hl hs (by omega)];exact h i (by omega)
 ·intro h i hi;rw[BDU h1 h40 hl hs hi];exact h i (by omega)
structure NtOk(m:Int)(n:Nt):Prop where
 mi:0<=n.mi/\n.mi<m
 t:0<=n.t.lo/\n.t.lo<=n.t.hi/\n.t.hi<=10000000
 s:-3000000<=n.s.lo/\n.s.lo<=n.s.hi/\n.s.hi<=3000000
structure ChOk(c:Cht):Prop where
 m:1<=c.ms.length/\c.ms.length<=40
 n:c.ns.length<=20
 p:1<=c.p.lo/\c.p.lo<=c.p.hi/\c.p.hi<=600
 b:-1000000<=c.base/\c.base<=1000000
 sc:0<=c.scale/\c.scale<=1000
 of:0<=c.off/\c.off<=1000
 mks:∀i,i<c.ms.length->(0<=(gD c.ms i).pl/\(gD c.ms i).pl<=10000)/\0<=(gD c.ms i).ht/\(gD c.ms i).ht<=1000
 up:∀i,i+1<c.ms.length->(gD c.ms i).pl<(gD c.ms (i+1)).pl
 nt:∀n∈c.ns,NtOk c.ms.length n
 one:∀i j,i<j->j<c.ns.length->(gD c.ns i).mi≠(gD c.ns j).mi
theorem KR{a b c:Int}:PX a b c=true↔b<=a/\a<=c:=by unfold PX;simp
theorem Tf{α:Type}[Inhabited α](a:α)(l:List α)(i:Nat):gD (a :: l) (i+1)=gD l i:=by simp[gD]
theorem Yg{α:Type}[Inhabited α](a:α)(l:List α):gD (a :: l) 0=a:=by simp[gD]
theorem BCD:∀(l:List Mk) (a:Int),mkC a l=0↔(∀i,i<l.length->(0<=(gD l i).pl/\(gD l i).pl<=10000)/\0<=(gD l i).ht/\(gD l i).ht<=1000)/\(0<l.length->a<(gD l 0).pl)/\∀i,i+1<l.length->(gD l i).pl<(gD l (i+1)).pl
 |[],a=>⟨λ_=>⟨λi h=>absurd h (Nat.not_lt_zero _),λh=>absurd h (Nat.not_lt_zero _),λi h=>absurd h (Nat.not_lt_zero _)⟩,λ_=>rfl⟩
 |m :: r,a=>by
  have ih:=BCD r m.pl
  show (bif (bif !PX m.pl 0 10000 then true else !PX m.ht 0 1000) then (30:Int) else bif decide (m.pl<=a) then 9 else mkC m.pl r)=0↔_
  cases h1:PX m.pl 0 10000 with
  |false=>
   refine⟨λh=>(by cases h),λh=>?_⟩
   have:=h.1 0 (Nat.succ_pos _)
   rw[Yg] at this
   rw[KR.2 this.1] at h1;cases h1
  |true=>
   cases h2:PX m.ht 0 1000 with
   |false=>
    refine⟨λh=>(by cases h),λh=>?_⟩
    have:=h.1 0 (Nat.succ_pos _)
    rw[Yg] at this
    rw[KR.2 this.2] at h2;cases h2
   |true=>
    have i1:=KR.1 h1
    have i2:=KR.1 h2
    by_cases h3:m.pl<=a
    ·refine⟨λh=>(by rw[decide_eq_true h3] at h;cases h),λh=>?_⟩
     have:=h.2.1 (Nat.succ_pos _)
     rw[Yg] at this;omega
    ·rw[decide_eq_false h3]
     refine⟨λh=>?_,λh=>ih.2 ⟨λi hi=>?_,λhr=>?_,λi hi=>?_⟩⟩
     ·obtain⟨a1,a2,a3⟩:=ih.1 h
      refine⟨λi hi=>?_,λ_=>by rw[Yg];omega,λi hi=>?_⟩
      ·rcases i with _ | i
       ·rw[Yg];exact⟨i1,i2⟩
       ·rw[Tf];exact a1 i (by simpa using hi)
      ·rcases i with _ | i
       ·rw[Yg,Tf];exact a2 (by simpa using hi)
       ·rw[Tf,Tf];exact a3 i (by simpa using hi)
     ·have:=h.1 (i+1) (Nat.succ_lt_succ hi)
      rw[Tf] at this;exact this
     ·have:=h.2.2 0 (by simpa using hr)
      rw[Yg,Tf] at this;exact this
     ·have:=h.2.2 (i+1) (by simpa using hi)
      rw[Tf,Tf] at this;exact this
theorem ASZ{n:Nt}{m:Nat}(hm:m<=1000):SJ n m=true↔NtOk m n:=by
 unfold SJ Sw GM
 rw[ER (by omega) (by omega)]
 simp only[Bool.and_eq_true,KR]
 constructor
 ·rintro⟨⟨h1,h2⟩,h3⟩;exact⟨by omega,by omega,by omega⟩
 ·rintro⟨h1,h2,h3⟩;exact⟨⟨by omega,by omega⟩,by omega⟩
theorem BHL{l:List Nt}{i:Nat}(hi:i<l.length):dupP l i=true↔∀j,j<i->(gD l j).mi≠(gD l i).mi:=by
 unfold dupP
 rw[Bool.not_eq_true',List.any_eq_false]
 constructor
 ·intro h j hj e
  have hm:gD l j∈l.take i:=by
   have:gD (l.take i) j=gD l j:=by simp[gD,List.getD_eq_getElem?_getD,List.getElem?_take,hj]
   rw[<-this];exact FD (by rw[List.length_take];omega)
  exact h _ hm (by simpa using e)
 ·intro h x hx
  obtain⟨j,hj,rfl⟩:=Hq hx
  have hj:j<i:=by rw[List.length_take] at hj;omega
  have:gD (l.take i) j=gD l j:=by simp[gD,List.getD_eq_getElem?_getD,List.getElem?_take,hj]
  rw[this];simpa using h j hj
theorem AXB{c:Cht}:Tv c=0↔(1<=c.ms.length/\c.ms.length<=40)/\c.ns.length<=20/\(1<=c.p.lo/\c.p.lo<=c.p.hi/\c.p.hi<=600)/\(-1000000<=c.base/\c.base<=1000000)/\(0<=c.scale/\c.scale<=1000)/\0<=c.off/\c.off<=1000:=by
 unfold Tv Sw
 cases a1:PX c.ms.length 1 40 with
 |false=>refine⟨λh=>(by simp at h),λh=>?_⟩;rw[KR.2 (by omega)] at a1;cases a1
 |true=>
  have i1:=KR.1 a1
  by_cases a2:(c.ns.length:Int)>20
  ·refine⟨λh=>(by simp[a2] at h),λh=>(by omega)⟩
  ·simp only[Bool.not_true,cond_false,a2,decide_false]
   cases b1:PX c.p.lo 1 600 with
   |false=>refine⟨λh=>(by simp at h),λh=>?_⟩;rw[KR.2 (by omega)] at b1;cases b1
   |true=>
    cases b2:PX c.p.hi c.p.lo 600 with
    |false=>refine⟨λh=>(by simp at h),λh=>?_⟩;rw[KR.2 (by omega)] at b2;cases b2
    |true=>
     cases b3:PX c.base (-1000000) 1000000 with
     |false=>refine⟨λh=>(by simp at h),λh=>?_⟩;rw[KR.2 (by omega)] at b3;cases b3
     |true=>
      cases b4:PX c.scale 0 1000 with
      |false=>refine⟨λh=>(by simp at h),λh=>?_⟩;rw[KR.2 (by omega)] at b4;cases b4
      |true=>
       cases b5:PX c.off 0 1000 with
       |false=>refine⟨λh=>(by simp at h),λh=>?_⟩;rw[KR.2 (by omega)] at b5;cases b5
       |true=>
        have:=KR.1 b1;have:=KR.1 b2;have:=KR.1 b3;have:=KR.1 b4;have:=KR.1 b5
        exact⟨λ_=>by omega,λ_=>rfl⟩
theorem CGB{c:Cht}:FB c=0↔ChOk c:=by
 constructor
 ·intro h
  obtain⟨h1,h2,h3⟩:=Yb h
  obtain⟨q1,q2,q3,q4,q5,q6⟩:=AXB.1 h1
  have hr:=(BBI h).2
  unfold FB at h
  rw[h1] at h
  cases hm:(mkC (-1) c.ms != 0) with
  |true=>rw[hm] at h;have h:mkC (-1) c.ms=0:=h;rw[h] at hm;cases hm
  |false=>
   have hm0:mkC (-1) c.ms=0:=by simpa using hm
   rw[hm] at h
   have ha:c.ns.all (λn=>SJ n c.ms.length)=true:=List.all_eq_true.2 hr
   rw[ha] at h
   cases hd:Xl (dupP c.ns) c.ns.length with
   |false=>rw[hd] at h;cases h
   |true=>
    obtain⟨m1,_,m3⟩:=(BCD _ _).1 hm0
    exact⟨q1,q2,q3,q4,q5,q6,m1,m3,λn hn=>(ASZ (by omega)).1 (hr n hn),λi j hij hj=>(BHL hj).1 (Yc.1 hd j hj) i hij⟩
 ·intro h
  have e1:=AXB.2 ⟨h.m,h.n,h.p,h.b,h.sc,h.of⟩
  have e2:mkC (-1) c.ms=0:=(BCD _ _).2 ⟨h.mks,λhp=>by have:=(h.mks 0 hp).1;omega,h.up⟩
  have e3:c.ns.all (λn=>SJ n c.ms.length)=true:=List.all_eq_true.2 λn hn=>(ASZ (by have:=h.m;omega)).2 (h.nt n hn)
  have e4:Xl (dupP c.ns) c.ns.length=true:=Yc.2 λj hj=>(BHL hj).2 λi hi=>h.one i j hi hj
  unfold FB;rw[e1,e2,e3,e4];rfl
theorem CAN{l:List Nt}{j:Int}:hasN l j=true↔∃n∈l,n.mi=j:=by
 unfold hasN;rw[List.any_eq_true];simp
theorem AFI:∀{l:List Nt} {j:Int},hasN l j=true->ntOf l j∈l/\(ntOf l j).mi=j
 |[],j,h=>by simp[hasN] at h
 |n :: r,j,h=>by
  show (bif hasN r j then ntOf r j else bif n.mi==j then n else default)∈n :: r/\(bif hasN r j then ntOf r j else bif n.mi==j then n else default).mi=j
  cases hr:hasN r j with
  |true=>obtain⟨a,b⟩:=AFI hr;exact⟨List.mem_cons_of_mem _ a,b⟩
  |false=>
   have h2:(n.mi==j||hasN r j)=true:=h
   rw[hr,Bool.or_false] at h2
   rw[h2];exact⟨List.mem_cons_self ..,by simpa using h2⟩
theorem ChOk.ntOf{c:Cht}(h:ChOk c){n:Nt}(hn:n∈c.ns):Bal.ntOf c.ns n.mi=n:=by
 obtain⟨h1,h2⟩:=AFI (CAN.2 ⟨n,hn,rfl⟩)
 obtain⟨i,hi,e1⟩:=Hq hn
 obtain⟨j,hj,e2⟩:=Hq h1
 rcases Nat.lt_trichotomy i j with q | q | q
 ·exact absurd (by rw[e1,e2,h2]) (h.one i j q hj)
 ·subst q;rw[<-e2,e1]
 ·exact absurd (by rw[e1,e2,h2]) (h.one j i q hi)
theorem Nf{α:Type}[Inhabited α](l:List α)(x:α)(i:Nat)(h:i<l.length+1):gD (l ++ [x]) i=bif decide (i<l.length) then gD l i else x:=by
 rw[lM]
 by_cases h2:i<l.length
 ·simp[h2]
 ·have:i-l.length=0:=by omega
  rw[if_neg h2,this,decide_eq_false h2];rfl
structure SS2 where
 l:List Span
 m:List Span
def eqS(x:SS2)(i:Nat):Bool:=(gD x.l i).lo==(gD x.m i).lo&&(gD x.l i).hi==(gD x.m i).hi
end Go.Bal
namespace Go.Bal.DLQ
open Go.Sym Go
theorem m1(n:Int):DG (.v (.int .u8 n))=n:=rfl
end Go.Bal.DLQ
namespace Go.Bal
open Go Go.Sym Go.Proofs
structure StmQ where
 bs:List Int
 used:Int
 mix:Int
 deriving Inhabited
end Go.Bal
namespace Go.Bal.DLQ
theorem m2(s:StmQ):StmQ.mk s.bs s.used s.mix=s:=rfl
end Go.Bal.DLQ
namespace Go.Bal
open Go Go.Sym Go.Proofs
def CZQ(l:List Int):DVal:=lst 1 l.length λi=>.v (.int .u8 (gD l i))
def BTH(s:StmQ):AObj:=.box [.d (CZQ s.bs),.int s.used,.int s.mix]
def U1(s:StmQ):HCell:=.live (BTH s)
def BCA(H:Heap)(id:Nat):Option StmQ:=match H id with
 | .live (.box [.d (.list _ n g _),.d (.v (.int _ u)),.d (.v (.int _ m))])=>some ⟨HQ n λi=>DG (g i),u,m⟩
 |_=>none
def RP(s:StmQ):Int:=if s.bs.length<=s.used then GM (GM (gD s.bs (s.used.tmod s.bs.length).toNat)+GM (GM (11*s.mix)+GM (s.used.tdiv s.bs.length))) else GM (gD s.bs (s.used.tmod s.bs.length).toNat)
def Ko(s:StmQ):Int:=(GM (GM (GM (5*s.mix)+RP s)+1)).tmod 251
def AFH(s:StmQ)(n:Int):Bool:=if n<2 then true else decide (s.bs.length=0)
def BL(s:StmQ)(n:Int):StmQ:=if AFH s n then s else⟨s.bs,GM (s.used+1),Ko s⟩
def AY(s:StmQ)(n:Int):Int:=if AFH s n then 0 else (if 256<n then GM (GM (256*RP s)+Ko s) else RP s).tmod n
structure SNQ where
 s:StmQ
 n:Int
def C_NextQ:Ctr:={ α:=SNQ,xs:=λa=>[.bptr 100 0,.int a.n],L:=λa=>[(100,BTH a.s)],val:=λa=>.int (AY a.s a.n),keep:=λa=>[(100,U1 (BL a.s a.n))],pre:=λa=>[0<=a.s.used] }
def BCX:List AVal->Heap->Option (SNQ×List (Nat×Nat)×List Nat)
 |[.bptr p _,.d (.v (.int _ n))],H=>match BCA H p with
  |some s=>some (⟨s,n⟩,[(100,p)],[])
  |none=>none
 |_,_=>none
def BUL:Ann:={ ann 92 [] with E:=[100] }
def BUP(a:SNQ):Prop:=AS ZP BUL Tryz.f20 (AG Tryz.f20) (C_NextQ.xs a) (AC (C_NextQ.L a)) (C_NextQ.val a) (C_NextQ.keep a) [] []
abbrev Xe:=SNQ.n
abbrev Np:=StmQ.bs
abbrev Jc:=SNQ.s
abbrev vJ:=AY
abbrev AWZ:=BL
abbrev MJ:=StmQ.used
abbrev bR:=StmQ.mix
abbrev wG:=Int.tmod
abbrev AAC a b c:=CP (UC a b) c
abbrev Qm a b:=wG (JF (AAC 5 a b)) 251
abbrev BKI a b:=ID a (OY b)
abbrev AJA a b:=wG a (LW b)
abbrev BPA a b:=bI (BKI a (AJA b a))
abbrev Gv a:=MJ (Jc a)
abbrev Jy a:=Np (Jc a)
abbrev bK a b:=BPA (Jy a) (Gv b)
abbrev Rb a:=bR (Jc a)
abbrev TG a:=AWZ (Jc a) (Xe a)
abbrev APO a b:=BO a (Np b)
abbrev ZE a b:=APO (Np a) b
abbrev AOW a b:=BH a (Np b)
abbrev XW a b:=AOW (Np a) b
abbrev Za a:=TD a Tt
abbrev tQ a:=Za (BZ a)
abbrev TP a b:=bI (Int.tdiv a b)
abbrev cB a b c d:=CP a (AAC 11 b (TP c (LW d)))
attribute [go_sem] Xe Np Jc vJ AWZ MJ bR wG AAC Qm BKI AJA BPA Gv Jy bK Rb TG APO ZE AOW XW Za tQ TP cB
theorem CEC(a:SNQ):(BUP a)=(Ba (cT (Xe a) 2) (WO (LW (Jy a))) (YJ (vJ (Jc a) (Xe a)) 0 (XW (TG a) (Jc a)) (ZE (TG a) (Jc a)) (MJ (TG a)) (Gv a) (bR (TG a)) (Rb a)) (And (WU (Ha (LW (Jy a))) (AJA (Gv a) (Jy a)) (Uo (AJA (Gv a) (Jy a)) (BQ (Jy a)))) (Wm (hd6 (Gv a) (LW (Jy a))) (AQ (Za (BC (BQ (Jy a)))) (Za (uU (wM 251))) (ABQ (hd94 (Xe a) 256) (tQ (Xe a)) (YJ (vJ (Jc a) (Xe a)) (wG (AAC 256 (cB (bK a a) (Rb a) (Gv a) (Jy a)) (Qm (Rb a) (cB (bK a a) (Rb a) (Gv a) (Jy a)))) (Xe a)) (XW (TG a) (Jc a)) (ZE (TG a) (Jc a)) (MJ (TG a)) (JF (Gv a)) (bR (TG a)) (Qm (Rb a) (cB (bK a a) (Rb a) (Gv a) (Jy a)))) (YJ (vJ (Jc a) (Xe a)) (wG (cB (bK a a) (Rb a) (Gv a) (Jy a)) (Xe a)) (XW (TG a) (Jc a)) (ZE (TG a) (Jc a)) (MJ (TG a)) (JF (Gv a)) (bR (TG a)) (Qm (Rb a) (cB (bK a a) (Rb a) (Gv a) (Jy a)))))) (Za (uU (wM 251))) (ABQ (hd94 (Xe a) 256) (tQ (Xe a)) (YJ (vJ (Jc a) (Xe a)) (wG (AAC 256 (bK a a) (Qm (Rb a) (bK a a))) (Xe a)) (XW (TG a) (Jc a)) (ZE (TG a) (Jc a)) (MJ (TG a)) (JF (Gv a)) (bR (TG a)) (Qm (Rb a) (bK a a))) (YJ (vJ (Jc a) (Xe a)) (wG (bK a a) (Xe a)) (XW (TG a) (Jc a)) (ZE (TG a) (Jc a)) (MJ (TG a)) (JF (Gv a)) (bR (TG a)) (Qm (Rb a) (bK a a))))))):=by kernel_rfl
def CGW(lo hi:Int):Int:=GM (GM (hi-lo)+1)
def Md(s:StmQ)(lo hi:Int):Int:=GM (lo+AY s (CGW lo hi))
def Jj(s:StmQ)(lo hi:Int):StmQ:=BL s (CGW lo hi)
structure SWQ where
 s:StmQ
 lo:Int
 hi:Int
def C_WithinQ:Ctr:={ α:=SWQ,xs:=λa=>[.bptr 100 0,.int a.lo,.int a.hi],L:=λa=>[(100,BTH a.s)],val:=λa=>.int (Md a.s a.lo a.hi),keep:=λa=>[(100,U1 (Jj a.s a.lo a.hi))],pre:=λa=>[0<=a.s.used] }
def AWD:List AVal->Heap->Option (SWQ×List (Nat×Nat)×List Nat)
 |[.bptr p _,.d (.v (.int _ n)),.d (.v (.int _ m))],H=>match BCA H p with
  |some s=>some (⟨s,n,m⟩,[(100,p)],[])
  |none=>none
 |_,_=>none
def AWN:Ann:={ ann 15 [(20,C_NextQ.spec BCX)] with E:=[100] }
def AXA(a:SWQ):Prop:=AS ZP AWN Tryz.f19 (AG Tryz.f19) (C_WithinQ.xs a) (AC (C_WithinQ.L a)) (C_WithinQ.val a) (C_WithinQ.keep a) [] []
abbrev vB:=SWQ.hi
abbrev kR:=SWQ.lo
abbrev vQ:=SWQ.s
abbrev ANS:=Jj
abbrev BJF a b:=StmQ.mk (LI a) (MJ b) (bR b)
abbrev ABB a:=BJF (Np a) a
abbrev Ay a b:=AWZ (ABB a) b
abbrev Rc a b:=JF (CW a b)
abbrev Ot a b:=vJ (ABB a) b
abbrev BEF a:=Int.NonNeg (hd21 a 0)
abbrev BMZ a b c d:=PO a b c d (BEF c)
abbrev XL a:=AI (bR a)
abbrev Es a:=APO (LI (Np a)) a
abbrev Ff a:=AOW (LI (Np a)) a
abbrev AJC a b:=BMZ (Ff a) (Es a) b (XL a)
abbrev uA a:=AJC a (MJ a)
attribute [go_sem] vB kR vQ ANS BJF ABB Ay Rc Ot BEF BMZ XL Es Ff AJC uA
theorem BNQ(a:SWQ):(AXA a)=(EM (AI (Rc (vB a) (kR a))) (uA (vQ a)) (YJ (Md (vQ a) (kR a) (vB a)) (CP (kR a) (Ot (vQ a) (Rc (vB a) (kR a)))) (XW (ANS (vQ a) (kR a) (vB a)) (Ay (vQ a) (Rc (vB a) (kR a)))) (ZE (ANS (vQ a) (kR a) (vB a)) (Ay (vQ a) (Rc (vB a) (kR a)))) (MJ (ANS (vQ a) (kR a) (vB a))) (MJ (Ay (vQ a) (Rc (vB a) (kR a)))) (bR (ANS (vQ a) (kR a) (vB a))) (bR (Ay (vQ a) (Rc (vB a) (kR a)))))):=by kernel_rfl
theorem CQE(s:StmQ)(n:Int):(bif decide (n<2) then true else (s.bs.length:Int)==0)=AFH s n:=by
 unfold AFH
 by_cases h:n<2
 ·simp[h]
 ·simp only[h,decide_false,cond_false,if_false]
  by_cases h2:s.bs.length=0
  ·simp[h2]
  ·have:¬ (s.bs.length:Int)=0:=by omega
   simp[h2]
theorem CEV{a b:Int}(ha:0<=a)(hb:0<b):0<=a.tmod b/\a.tmod b<b:=by
 rw[Int.tmod_eq_emod_of_nonneg ha]
 exact⟨Int.emod_nonneg _ (by omega),Int.emod_lt_of_pos _ hb⟩
theorem CMN(a:SNQ)(h:0<=a.s.used):BUP a:=by
 rw[CEC]<;> dsimp only[go_sem];simp only[P3,CU,CQE]
 refine⟨λhi=>?_,λhi=>?_⟩
 ·have e1:AY a.s a.n=0:=by unfold AY;rw[hi];rfl
  have e2:BL a.s a.n=a.s:=by unfold BL;rw[hi];rfl
  rw[e1,e2];exact⟨rfl,rfl,λ_ _=>rfl,rfl,rfl⟩
 have hi2:¬ a.n<2/\¬ a.s.bs.length=0:=by
  unfold AFH at hi
  by_cases x:a.n<2
  ·rw[if_pos x] at hi;cases hi
  ·rw[if_neg x] at hi;exact⟨x,by simpa using hi⟩
 obtain⟨i1,i2⟩:=hi2
 have e1:AY a.s a.n=(if 256<a.n then GM (GM (256*RP a.s)+Ko a.s) else RP a.s).tmod a.n:=by unfold AY;rw[hi];rfl
 have e2:BL a.s a.n=⟨a.s.bs,GM (a.s.used+1),Ko a.s⟩:=by unfold BL;rw[hi];rfl
 have hm:=CEV h (show 0<(a.s.bs.length:Int) by omega)
 rw[e1,e2]
 refine⟨⟨by omega,hm⟩,λhu=>⟨by omega,by decide,λhn=>⟨by omega,?_⟩,λhn=>⟨by omega,?_⟩⟩,λhu=>⟨by decide,λhn=>⟨by omega,?_⟩,λhn=>⟨by omega,?_⟩⟩⟩
 ·rw[if_pos (by omega)];unfold Ko RP;rw[if_pos (by omega)];exact⟨rfl,rfl,λ_ _=>rfl,rfl,rfl⟩
 ·rw[if_neg (by omega)];unfold Ko RP;rw[if_pos (by omega)];exact⟨rfl,rfl,λ_ _=>rfl,rfl,rfl⟩
 ·rw[if_pos (by omega)];unfold Ko RP;rw[if_neg (by omega)];exact⟨rfl,rfl,λ_ _=>rfl,rfl,rfl⟩
 ·rw[if_neg (by omega)];unfold Ko RP;rw[if_neg (by omega)];exact⟨rfl,rfl,λ_ _=>rfl,rfl,rfl⟩
theorem BGV:AH ZP 20 (C_NextQ.spec BCX):=MK C_NextQ (λ_=>BUL) [] [] Tryz.func20 (λ_=>by kernel_rfl) (λ_=>AD) (λa h=>CMN a h) (λ_=>OA rfl rfl) _
theorem BWO(a:SWQ)(h:0<=a.s.used):AXA a:=by
 rw[BNQ]<;> dsimp only[go_sem];simp only[P3,CU]
 exact⟨h,rfl,rfl,λ_ _=>rfl,rfl,rfl⟩
theorem BOQ:AH ZP 19 (C_WithinQ.spec AWD):=MK C_WithinQ (λ_=>AWN) [] [] Tryz.func19 (λ_=>by kernel_rfl) (λ_=>AA BGV AD) (λa h=>BWO a h) (λ_=>OA rfl rfl) _
structure StmBQ(K:Int)(s:StmQ):Prop where
 used:0<=s.used/\s.used<=K
 mix:0<=s.mix/\s.mix<251
 bs:∀i,i<s.bs.length->0<=gD s.bs i/\gD s.bs i<=255
theorem ARS{a b:Int}(ha:0<=a)(hb:0<b):0<=a.tmod b/\a.tmod b<b:=by
 rw[Int.tmod_eq_emod_of_nonneg ha]
 exact⟨Int.emod_nonneg _ (by omega),Int.emod_lt_of_pos _ hb⟩
theorem AWV{K:Int}{s:StmQ}(h:StmBQ K s)(hK:K<=1000000000000000)(hb:s.bs.length≠0):0<=RP s/\RP s<=1000000000010000:=by
 have hu:=h.used
 have hm:=h.mix
 have hi:=ARS hu.1 (show 0<(s.bs.length:Int) by omega)
 have hx:=h.bs (s.used.tmod s.bs.length).toNat (by omega)
 have hq:0<=s.used.tdiv s.bs.length/\s.used.tdiv s.bs.length<=1000000000000000:=by
  rw[Int.tdiv_eq_ediv_of_nonneg hu.1]
  refine⟨Int.ediv_nonneg hu.1 (by omega),?_⟩
  have:=Int.ediv_le_self (s.bs.length:Int) hu.1
  omega
 have e0:GM (gD s.bs (s.used.tmod s.bs.length).toNat)=gD s.bs (s.used.tmod s.bs.length).toNat:=ER (by omega) (by omega)
 have e1:GM (11*s.mix)=11*s.mix:=ER (by omega) (by omega)
 have e2:GM (s.used.tdiv s.bs.length)=s.used.tdiv s.bs.length:=ER (by omega) (by omega)
 have e3:GM (11*s.mix+s.used.tdiv s.bs.length)=11*s.mix+s.used.tdiv s.bs.length:=ER (by omega) (by omega)
 have e4:GM (gD s.bs (s.used.tmod s.bs.length).toNat+(11*s.mix+s.used.tdiv s.bs.length))=gD s.bs (s.used.tmod s.bs.length).toNat+(11*s.mix+s.used.tdiv s.bs.length):=ER (by omega) (by omega)
 unfold RP
 rw[e0,e1,e2,e3,e4]
 split<;>omega
theorem AVW{K:Int}{s:StmQ}(h:StmBQ K s)(hK:K<=1000000000000000)(hb:s.bs.length≠0):0<=Ko s/\Ko s<251:=by
 have hm:=h.mix
 have hn:=AWV h hK hb
 have e1:GM (5*s.mix)=5*s.mix:=ER (by omega) (by omega)
 have e2:GM (5*s.mix+RP s)=5*s.mix+RP s:=ER (by omega) (by omega)
 have e3:GM (5*s.mix+RP s+1)=5*s.mix+RP s+1:=ER (by omega) (by omega)
 unfold Ko
 rw[e1,e2,e3]
 exact ARS (by omega) (by omega)
theorem BUS{s:StmQ}{n:Int}(h:AFH s n=false):2<=n/\s.bs.length≠0:=by
 unfold AFH at h
 by_cases x:n<2
 ·rw[if_pos x] at h;cases h
 ·rw[if_neg x] at h;exact⟨by omega,by simpa using h⟩
theorem StmBQ.mono{K M:Int}{s:StmQ}(h:StmBQ K s)(hK:K<=M):StmBQ M s:=⟨⟨h.used.1,by have:=h.used;omega⟩,h.mix,h.bs⟩
theorem StmBQ.next{K:Int}{s:StmQ}(h:StmBQ K s)(hK:K<=1000000000000000)(n:Int):StmBQ (K+1) (BL s n):=by
 unfold BL
 cases hi:AFH s n with
 |true=>exact h.mono (by omega)
 |false=>
  obtain⟨_,hb⟩:=BUS hi
  have hu:=h.used
  have e:GM (s.used+1)=s.used+1:=ER (by omega) (by omega)
  refine⟨?_,AVW h hK hb,h.bs⟩
  show 0<=GM (s.used+1)/\GM (s.used+1)<=K+1
  rw[e];omega
theorem PY{K:Int}{s:StmQ}(h:StmBQ K s)(hK:K<=1000000000000000)(n:Int):0<=AY s n/\(1<=n->AY s n<n):=by
 unfold AY
 cases hi:AFH s n with
 |true=>exact⟨Int.le_refl _,λh=>by show (0:Int)<n;omega⟩
 |false=>
  obtain⟨hn,hb⟩:=BUS hi
  have h1:=AWV h hK hb
  have h2:=AVW h hK hb
  have e1:GM (256*RP s)=256*RP s:=ER (by omega) (by omega)
  have e2:GM (256*RP s+Ko s)=256*RP s+Ko s:=ER (by omega) (by omega)
  rw[e1,e2]
  have:=ARS (a:=if 256<n then 256*RP s+Ko s else RP s) (b:=n) (by split<;>omega) (by omega)
  exact⟨this.1,λ_=>this.2⟩
theorem kY{K:Int}{s:StmQ}(h:StmBQ K s)(hK:K<=1000000000000000){lo hi:Int}(h1:-1000000000<=lo)(h2:lo<=hi)(h3:hi<=1000000000):lo<=Md s lo hi/\Md s lo hi<=hi:=by
 have e1:GM (hi-lo)=hi-lo:=ER (by omega) (by omega)
 have e2:GM (hi-lo+1)=hi-lo+1:=ER (by omega) (by omega)
 unfold Md CGW
 rw[e1,e2]
 have:=PY h hK (hi-lo+1)
 have h4:=this.2 (by omega)
 have e3:GM (lo+AY s (hi-lo+1))=lo+AY s (hi-lo+1):=ER (by omega) (by omega)
 rw[e3];omega
structure MkIQ where
 s:StmQ
 m:Int
 b:Bool
def CQX(b:Bool):List AVal->Heap->Option (MkIQ×List (Nat×Nat)×List Nat)
 |[.bptr p _,.d (.v (.int _ n)),.d (.v (.bool c))],H=>match c==b,BCA H p with
  |true,some s=>some (⟨s,n,b⟩,[(100,p)],[])
  |_,_=>none
 |_,_=>none
def gS1(s:StmQ):StmQ:=Jj s 1 12
def gS2(s:StmQ):StmQ:=Jj (gS1 s) (-50) 400
def gS3(s:StmQ):StmQ:=BL (gS2 s) 12
def gS4(s:StmQ):StmQ:=BL (gS3 s) 9
def gS5(s:StmQ):StmQ:=BL (gS4 s) 6
def gS6(s:StmQ):StmQ:=BL (gS5 s) 300
def dU(s:StmQ):Int:=Md s 1 12
def hHi(s:StmQ):Int:=GM (dU s+AY (gS4 s) 6)
def hBs(s:StmQ):Int:=Md (gS1 s) (-50) 400
def R6(s:StmQ):Int:=AY (gS2 s) 12
def wK(s:StmQ):Int:=AY (gS3 s) 9
def hTm(s:StmQ):Int:=AY (gS5 s) 300
structure MS where
 s:StmQ
 pl:Int
 tm:Int
 ms:List Mk
 t:List Int
 st:List Int
 z:List Int
 deriving Inhabited
def Ar(x:MS):Int:=Md x.s 1 30
def advA(a:MkIQ)(x:MS):MS:=⟨Jj (Jj x.s 1 30) (GM (dU a.s*Ar x)) (GM (hHi a.s*Ar x)),GM (x.pl+Ar x),GM (x.tm+Md (Jj x.s 1 30) (GM (dU a.s*Ar x)) (GM (hHi a.s*Ar x))),x.ms,x.t,x.st,x.z⟩
def S0(a:MkIQ)(x:MS):MS:=bif a.b then bif AY x.s 5==0 then⟨BL (BL x.s 5) 400,x.pl,GM (x.tm+AY (BL x.s 5) 400),x.ms,x.t,x.st,x.z ++ [GM ((x.ms.length:Int)-1)]⟩ else⟨BL x.s 5,x.pl,x.tm,x.ms,x.t,x.st,x.z⟩ else x
def yAt(a:MkIQ)(x:MS):Int:=GM (hBs a.s+GM (R6 a.s*AY x.s 60))
def addM(a:MkIQ)(x:MS):MS:=⟨Jj (BL x.s 60) (GM (yAt a x-wK a.s)) (GM (yAt a x+wK a.s)),x.pl,x.tm,x.ms ++ [⟨x.pl,AY x.s 60⟩],x.t ++ [x.tm],x.st ++ [Md (BL x.s 60) (GM (yAt a x-wK a.s)) (GM (yAt a x+wK a.s))],x.z⟩
def goMQ(a:MkIQ)(x:MS):MS:=bif decide (0<x.ms.length) then S0 a (advA a x) else x
def stpC(a:MkIQ)(x:MS):MS:=addM a (goMQ a x)
def R4(a:MkIQ):Nat->MS->MS
 |0,x=>x
 |n+1,x=>R4 a n (stpC a x)
def mS0(a:MkIQ):MS:=⟨Jj (gS6 a.s) 1 a.m,0,hTm a.s,[],[],[],[]⟩
def mN(a:MkIQ):Nat:=(Md (gS6 a.s) 1 a.m).toNat
def mS(a:MkIQ):MS:=R4 a (mN a) (mS0 a)
structure NSt where
 s:StmQ
 ns:List Nt
 deriving Inhabited
def nS2(s:StmQ):StmQ:=BL s 40
def nS3(s:StmQ):StmQ:=BL (nS2 s) 40
def nS4(s:StmQ):StmQ:=BL (nS3 s) 9
def nS5(s:StmQ):StmQ:=BL (nS4 s) 9
def mkNt(a:MkIQ)(s:StmQ)(i:Nat):Nt:=⟨i,⟨EU 0 (GM (gD (mS a).t i-AY s 40)),GM (gD (mS a).t i+AY (nS2 s) 40)⟩,⟨GM (gD (mS a).st i-AY (nS3 s) 9),GM (gD (mS a).st i+AY (nS4 s) 9)⟩⟩
def addN(a:MkIQ)(b:Bool)(i:Nat)(x:NSt):NSt:=bif b then⟨nS5 x.s,x.ns ++ [mkNt a x.s i]⟩ else x
def stpN(a:MkIQ)(i:Nat)(x:NSt):NSt:=addN a (AY x.s 2==0) i ⟨BL x.s 2,x.ns⟩
def mkN(a:MkIQ):Nat->Nat->NSt->NSt
 |0,_,x=>x
 |n+1,i,x=>mkN a n (i+1) (stpN a i x)
def mNs(a:MkIQ):NSt:=mkN a (mS a).ms.length 0 ⟨(mS a).s,[]⟩
def swN(l:List Nt)(i k:Nat):List Nt:=(l.set i (gD l k)).set k (gD l i)
def shK:Nat->NSt->NSt
 |0,x=>x
 |j+1,x=>shK j ⟨BL x.s ((j:Int)+2),swN x.ns (j+1) (AY x.s ((j:Int)+2)).toNat⟩
def mE(a:MkIQ):NSt:=shK ((mNs a).ns.length-1) (mNs a)
def TC(a:MkIQ):Cht:=⟨⟨dU a.s,hHi a.s⟩,hBs a.s,R6 a.s,wK a.s,(mS a).ms,(mE a).ns⟩
def eD(a:MkIQ):Tru:=⟨(mS a).t,(mS a).st,(mS a).z⟩
structure KS where
 k:Nat
 x:MS
 deriving Inhabited
structure KN where
 i:Nat
 x:NSt
 deriving Inhabited
def wD(a:MkIQ):Prop:=StmBQ 0 a.s/\1<=a.m/\a.m<=14
def rowM(l:List Mk):AObj:=.row 2 l.length λi=>eMk (gD l i)
def rowN(l:List Nt):AObj:=.row 5 l.length λi=>eNt (gD l i)
def zCh:HCell:=.live (.box [.int 0,.int 0,.int 0,.int 0,.int 0,.d JX,.d JX])
def zTr:HCell:=.live (.box [.d JX,.d JX,.d JX])
def chC(a:MkIQ)(m n:AVal):HCell:=.live (.box [.int (dU a.s),.int (hHi a.s),.int (hBs a.s),.int (R6 a.s),.int (wK a.s),m,n])
def trC(t s z:AVal):HCell:=.live (.box [t,s,z])
def mdP:List (Nat×AVal):=[(0,.bptr 100 0),(6,.bptr 1000 0),(7,.bptr 1016 0),(8,.bptr 2160 0),(9,.bptr 4000 0)]
def mdSQ(b:Bool)(y:KS):List (Nat×AVal):=mdP ++ [(2,.bool b),(10,.int y.x.pl),(11,.int y.x.tm),(12,.int y.k)]
def inv6(a:MkIQ)(y:KS):Prop:=R4 a y.k y.x=mS a/\(y.k:Int)<=a.m/\StmBQ (7+7*(a.m-y.k)) y.x.s/\((y.x.ms.length:Int)+y.k<=a.m/\y.x.t.length=y.x.ms.length/\y.x.st.length=y.x.ms.length/\(y.x.z=[]∨y.x.z.length+1<=y.x.ms.length))
def mdO(y:KS):List (Nat×HCell):=[(301,.live (rowM y.x.ms)),(302,.live (CKE y.x.t)),(303,.live (CKE y.x.st))]
def ownM(y:KS):AVal:=.own 301 2 0 y.x.ms.length
def ownT(y:KS)(z:AVal):HCell:=trC (.own 302 1 0 y.x.t.length) (.own 303 1 0 y.x.st.length) z
def hpN(a:MkIQ)(y:KS):List (Nat×HCell):=[(100,U1 y.x.s),(1000,zCh),(1016,zTr),(2160,chC a (.d JX) (.d JX)),(4000,zTr)]
def hpO(a:MkIQ)(y:KS):List (Nat×HCell):=[(100,U1 y.x.s),(1000,zCh),(1016,zTr),(2160,chC a (ownM y) (.d JX)),(4000,ownT y (.d JX))] ++ mdO y
def hpP(a:MkIQ)(y:KS):List (Nat×HCell):=[(100,U1 y.x.s),(1000,zCh),(1016,zTr),(2160,chC a (ownM y) (.d JX)),(4000,ownT y (.own 304 1 0 y.x.z.length))] ++ mdO y ++ [(304,.live (CKE y.x.z))]
def md6n(b:Bool)(a:MkIQ):Shape:={ α:=KS,dflt:=default,T:=λy=>⟨mdSQ b y,hpN a y⟩,inv:=λy=>inv6 a y/\1<=y.k/\y.x.ms=[]/\y.x.z=[],meas:=λy=>100,tag:=[0] }
def md6o(b:Bool)(a:MkIQ):Shape:={ α:=KS,dflt:=default,T:=λy=>⟨mdSQ b y,hpO a y⟩,inv:=λy=>inv6 a y/\1<=y.x.ms.length/\y.x.z=[],meas:=λy=>y.k+20,again:=[(301,18064),(302,18144),(303,18368)],tag:=[1] }
def md6p(b:Bool)(a:MkIQ):Shape:={ α:=KS,dflt:=default,T:=λy=>⟨mdSQ b y,hpP a y⟩,inv:=λy=>inv6 a y/\1<=y.x.ms.length/\1<=y.x.z.length,meas:=λy=>y.k,again:=[(301,18064),(302,18144),(303,18368)],tag:=[2] }
def CBT(a:MkIQ)(y:KS):Prop:=R4 a (y.k-1) (addM a y.x)=mS a/\(1<=y.k/\(y.k:Int)<=a.m)/\StmBQ (11+7*(a.m-y.k)) y.x.s/\((y.x.ms.length:Int)+y.k<=a.m/\y.x.t.length=y.x.ms.length/\y.x.st.length=y.x.ms.length/\y.x.z.length<=y.x.ms.length)
def c15n(b:Bool)(a:MkIQ)(m:Nat):Shape:={ α:=KS,dflt:=default,T:=λy=>⟨mdSQ b y,hpN a y⟩,inv:=λy=>CBT a y/\m=100/\y.x.ms=[]/\y.x.z=[],meas:=λ_=>0 }
def c15o(b:Bool)(a:MkIQ)(m:Nat):Shape:={ α:=KS,dflt:=default,T:=λy=>⟨mdSQ b y,hpO a y⟩,inv:=λy=>CBT a y/\y.k+20<=m/\1<=y.x.ms.length/\y.x.z=[],meas:=λ_=>0 }
def c15p(b:Bool)(a:MkIQ)(m:Nat)(f:List (Nat×Nat)):Shape:={ α:=KS,dflt:=default,T:=λy=>⟨mdSQ b y,hpP a y⟩,inv:=λy=>CBT a y/\y.k<=m/\1<=y.x.ms.length/\1<=y.x.z.length,meas:=λ_=>0,first:=f }
def c15(b:Bool)(a:MkIQ)(m:Nat):Nat->List Shape
 |0=>[c15n b a m]
 |1=>bif b then [c15o b a m,c15p b a m [(304,14112)]] else [c15o b a m]
 |_=>[c15p b a m [(304,14112)],c15p b a m []]
def mdHQ(a:MkIQ)(s:StmQ)(n:AVal):List (Nat×HCell):=[(100,U1 s),(1000,zCh),(1016,zTr),(2160,chC a (.d (eMks (mS a).ms)) n),(4000,trC (.d (BM (mS a).t)) (.d (BM (mS a).st)) (.d (BM (mS a).z)))]
def fin6(a:MkIQ):Prop:=inv6 a ⟨0,mS a⟩
def md18(a:MkIQ)(z:List Nat):Shape:={ α:=One,dflt:=default,T:=λ_=>⟨mdP,mdHQ a (mS a).s (.d JX)⟩,inv:=λ_=>fin6 a,meas:=λ_=>0,ffz:=z }
def CSO(a:MkIQ)(y:KN):Prop:=fin6 a/\y.i<=(mS a).ms.length/\StmBQ (7+7*a.m+5*y.i) y.x.s/\mkN a ((mS a).ms.length-y.i) y.i y.x=mNs a/\y.x.ns.length<=y.i
def CZT(a:MkIQ):Shape:={ α:=KN,dflt:=default,T:=λy=>⟨mdP ++ [(16,.int y.i)],mdHQ a y.x.s (.d JX)⟩,inv:=λy=>CSO a y/\y.x.ns=[],meas:=λy=>100-y.i,tag:=[0] }
def DBV(a:MkIQ):Shape:={ α:=KN,dflt:=default,T:=λy=>⟨mdP ++ [(16,.int y.i)],mdHQ a y.x.s (.own 305 5 0 y.x.ns.length) ++ [(305,.live (rowN y.x.ns))]⟩,inv:=λy=>CSO a y/\1<=y.x.ns.length,meas:=λy=>100-y.i,tag:=[1] }
structure KNb where
 i:Nat
 x:NSt
 b:Bool
 deriving Inhabited
def CQW(a:MkIQ)(m:Nat)(y:KNb):Prop:=fin6 a/\(y.i<(mS a).ms.length/\100-y.i=m)/\StmBQ (8+7*a.m+5*y.i) y.x.s/\mkN a ((mS a).ms.length-(y.i+1)) (y.i+1) (addN a y.b y.i y.x)=mNs a/\y.x.ns.length<=y.i
def c22n(a:MkIQ)(m:Nat):Shape:={ α:=KNb,dflt:=default,T:=λy=>⟨mdP ++ [(16,.int y.i),(142,.bool y.b)],mdHQ a y.x.s (.d JX)⟩,inv:=λy=>CQW a m y/\y.x.ns=[],meas:=λ_=>0 }
def c22o(a:MkIQ)(m:Nat):Shape:={ α:=KNb,dflt:=default,T:=λy=>⟨mdP ++ [(16,.int y.i),(142,.bool y.b)],mdHQ a y.x.s (.own 305 5 0 y.x.ns.length) ++ [(305,.live (rowN y.x.ns))]⟩,inv:=λy=>CQW a m y/\1<=y.x.ns.length,meas:=λ_=>0 }
def CDD(a:MkIQ)(m:Nat)(y:KN):Prop:=fin6 a/\(y.i<(mS a).ms.length/\100-y.i=m)/\StmBQ (12+7*a.m+5*y.i) y.x.s/\mkN a ((mS a).ms.length-(y.i+1)) (y.i+1) y.x=mNs a/\y.x.ns.length<=y.i+1
def c20n(a:MkIQ)(m:Nat):Shape:={ α:=KN,dflt:=default,T:=λy=>⟨mdP ++ [(16,.int y.i)],mdHQ a y.x.s (.d JX)⟩,inv:=λy=>CDD a m y/\y.x.ns=[],meas:=λ_=>0 }
def c20o(a:MkIQ)(m:Nat)(f:List (Nat×Nat)):Shape:={ α:=KN,dflt:=default,T:=λy=>⟨mdP ++ [(16,.int y.i)],mdHQ a y.x.s (.own 305 5 0 y.x.ns.length) ++ [(305,.live (rowN y.x.ns))]⟩,inv:=λy=>CDD a m y/\1<=y.x.ns.length,meas:=λ_=>0,first:=f }
def DAD(a:MkIQ):Shape:={ α:=One,dflt:=default,T:=λ_=>⟨mdP,mdHQ a (mNs a).s (.d JX)⟩,inv:=λ_=>fin6 a/\(mNs a).ns=[],meas:=λ_=>0,tag:=[0] }
def DAB(a:MkIQ):Shape:={ α:=One,dflt:=default,T:=λ_=>⟨mdP,mdHQ a (mNs a).s (.own 305 5 0 (mNs a).ns.length) ++ [(305,.live (rowN (mNs a).ns))]⟩,inv:=λ_=>fin6 a/\StmBQ (7+7*a.m+5*a.m) (mNs a).s/\(1<=(mNs a).ns.length/\((mNs a).ns.length:Int)<=a.m),meas:=λ_=>0,tag:=[1] }
def CYI(a:MkIQ)(y:KN):Prop:=fin6 a/\y.i<y.x.ns.length/\StmBQ (7+7*a.m+5*a.m+a.m-y.i) y.x.s/\shK y.i y.x=mE a/\(y.x.ns.length:Int)<=a.m
def DBD(a:MkIQ):Shape:={ α:=One,dflt:=default,T:=λ_=>⟨mdP ++ [(17,.int (-1))],mdHQ a (mE a).s (.d JX)⟩,inv:=λy=>(mE a).ns=[],meas:=λy=>100 }
def CYK(a:MkIQ):Shape:={ α:=KN,dflt:=default,T:=λy=>⟨mdP ++ [(17,.int y.i)],mdHQ a y.x.s (.own 305 5 0 y.x.ns.length) ++ [(305,.live (rowN y.x.ns))]⟩,inv:=λy=>CYI a y,meas:=λy=>y.i }
def hdP(b:Bool)(a:MkIQ):List (Nat×AVal):=[(0,.bptr 100 0),(1,.int a.m),(2,.bool b),(6,.bptr 1000 0),(7,.bptr 1016 0),(8,.bptr 2160 0)]
def ch2(b:Bool)(a:MkIQ):Shape:={ α:=One,dflt:=default,T:=λ_=>⟨hdP b a,[(100,U1 (gS4 a.s)),(1000,zCh),(1016,zTr),(2160,.live (.box [.int (dU a.s),.int 0,.int (hBs a.s),.int (R6 a.s),.int (wK a.s),.d JX,.d JX]))]⟩,inv:=λ_=>StmBQ 4 (gS4 a.s),meas:=λ_=>0 }
def ch3(b:Bool)(a:MkIQ):Shape:={ α:=One,dflt:=default,T:=λ_=>⟨hdP b a,[(100,U1 (gS5 a.s)),(1000,zCh),(1016,zTr),(2160,chC a (.d JX) (.d JX))]⟩,inv:=λ_=>StmBQ 5 (gS5 a.s),meas:=λ_=>0 }
def ch5(b:Bool)(a:MkIQ):Shape:={ α:=One,dflt:=default,T:=λ_=>⟨hdP b a ++ [(9,.bptr 4000 0),(10,.int 0),(11,.int (hTm a.s))],[(100,U1 (gS6 a.s)),(1000,zCh),(1016,zTr),(2160,chC a (.d JX) (.d JX)),(4000,zTr)]⟩,inv:=λ_=>StmBQ 6 (gS6 a.s),meas:=λ_=>0 }
def CTZ(a:MkIQ)(y:KS):Prop:=R4 a (y.k-1) (addM a (S0 a y.x))=mS a/\(1<=y.k/\(y.k:Int)<=a.m)/\StmBQ (9+7*(a.m-y.k)) y.x.s/\((y.x.ms.length:Int)+y.k<=a.m/\y.x.t.length=y.x.ms.length/\y.x.st.length=y.x.ms.length/\y.x.z.length+1<=y.x.ms.length)
def c12o(b:Bool)(a:MkIQ)(m:Nat):Shape:={ α:=KS,dflt:=default,T:=λy=>⟨mdSQ b y,hpO a y⟩,inv:=λy=>CTZ a y/\y.k+20<=m/\1<=y.x.ms.length/\y.x.z=[],meas:=λ_=>0 }
def c12p(b:Bool)(a:MkIQ)(m:Nat):Shape:={ α:=KS,dflt:=default,T:=λy=>⟨mdSQ b y,hpP a y⟩,inv:=λy=>CTZ a y/\y.k<=m/\1<=y.x.ms.length/\1<=y.x.z.length,meas:=λ_=>0 }
def sR(b:Bool):Ctr:={ α:=MkIQ,xs:=λa=>[.bptr 100 0,.int a.m,.bool b],L:=λa=>[(100,BTH a.s)],val:=λa=>.tup [.d (eCht (TC a)),.d (eTru (eD a))],keep:=λa=>[(100,U1 (mE a).s)],pre:=λa=>[wD a/\a.b=b] }
def BST(b:Bool)(a:MkIQ):Ann:={ ann 217 [(20,C_NextQ.spec BCX),(19,C_WithinQ.spec AWD)] with E:=[100],md:=λid=>if id=12 then some (λk=>if k=2∨k=3∨k=4 then (bif b then 8 else 9) else 0) else none,mt:=λid=>id==13||id==17||id==22,loops:=λid=>if id=6 then (bif b then some [md6n b a,md6o b a,md6p b a] else some [md6n b a,md6o b a]) else if id=19 then some [CZT a,DBV a] else none,inner:=λgs id=>if id=24 then (if gs.getD 0 0=0 then some [DBD a] else some [CYK a]) else none,cut:=λid=>if id=2 then some [ch2 b a] else if id=3 then some [ch3 b a] else if id=5 then some [ch5 b a] else if id=18 then (bif b then some [md18 a [301,302,303],md18 a [301,302,303,304]] else some [md18 a [301,302,303]]) else if id=23 then some [DAD a,DAB a] else none,cutIn:=λgs id=>if id=15 then some (c15 b a (gs.getD 0 0) (gs.getD 1 0)) else if id=12 then (if gs.getD 1 0=1 then some [c12o b a (gs.getD 0 0)] else some [c12p b a (gs.getD 0 0)]) else if id=22 then (if gs.getD 1 0=0 then some [c22n a (gs.getD 0 0)] else some [c22o a (gs.getD 0 0)]) else if id=20 then (if gs.getD 1 0=0 then some [c20n a (gs.getD 0 0),c20o a (gs.getD 0 0) [(305,23640)]] else some [c20o a (gs.getD 0 0) [(305,23640)],c20o a (gs.getD 0 0) []]) else none }
theorem CJY(s:StmQ):StmQ.mk s.bs s.used s.mix=s:=rfl
theorem MV{K:Int}{s:StmQ}(h:StmBQ K s)(hK:K<=1000000000000000)(lo hi:Int):StmBQ (K+1) (Jj s lo hi):=h.next hK _
theorem AXV{a:MkIQ}(h:wD a):StmBQ 1 (gS1 a.s)/\StmBQ 2 (gS2 a.s)/\StmBQ 3 (gS3 a.s)/\StmBQ 4 (gS4 a.s)/\StmBQ 5 (gS5 a.s)/\StmBQ 6 (gS6 a.s):=by
 have b1:StmBQ 1 (gS1 a.s):=(MV h.1 (by omega) 1 12).mono (by omega)
 have b2:StmBQ 2 (gS2 a.s):=(MV b1 (by omega) (-50) 400).mono (by omega)
 have b3:StmBQ 3 (gS3 a.s):=(b2.next (by omega) 12).mono (by omega)
 have b4:StmBQ 4 (gS4 a.s):=(b3.next (by omega) 9).mono (by omega)
 have b5:StmBQ 5 (gS5 a.s):=(b4.next (by omega) 6).mono (by omega)
 exact⟨b1,b2,b3,b4,b5,(b5.next (by omega) 300).mono (by omega)⟩
theorem CAI{a:MkIQ}(h:wD a):(mN a:Int)=Md (gS6 a.s) 1 a.m/\1<=mN a/\(mN a:Int)<=a.m:=by
 obtain⟨_,_,_,_,_,b6⟩:=AXV h
 obtain⟨_,m1,m2⟩:=h
 have:=kY b6 (by omega) (lo:=1) (hi:=a.m) (by omega) m1 (by omega)
 unfold mN;omega
theorem go_0{a:MkIQ}{x:MS}(h:x.ms=[]):goMQ a x=x:=by unfold goMQ;rw[h];rfl
theorem go_1{a:MkIQ}{x:MS}(h:0<x.ms.length):goMQ a x=S0 a (advA a x):=by unfold goMQ;rw[decide_eq_true h];rfl
theorem BNH{a:MkIQ}{k:Nat}{x:MS}(h:0<k):R4 a k x=R4 a (k-1) (addM a (goMQ a x)):=by
 obtain⟨n,rfl⟩:∃n,k=n+1:=⟨k-1,by omega⟩
 rfl
theorem n_lt{i n k:Nat}(h:(bif decide ((i:Int)<n) then decide ((k:Int)<20) else false)=true):i<n:=by
 cases hd:decide ((i:Int)<n) with
 |false=>rw[hd] at h;cases h
 |true=>have:=of_decide_eq_true hd;omega
theorem n_ge{i n k:Nat}(hk:k<20)(h:(bif decide ((i:Int)<n) then decide ((k:Int)<20) else false)=false):¬ i<n:=by
 intro hi
 rw[decide_eq_true (show (i:Int)<n by omega),decide_eq_true (show (k:Int)<20 by omega)] at h;cases h
theorem CUE{a:MkIQ}{i:Nat}{x:NSt}(h:i<(mS a).ms.length):mkN a ((mS a).ms.length-i) i x=mkN a ((mS a).ms.length-(i+1)) (i+1) (addN a (AY x.s 2==0) i ⟨BL x.s 2,x.ns⟩):=by
 obtain⟨n,hn⟩:∃n,(mS a).ms.length-i=n+1:=⟨(mS a).ms.length-i-1,by omega⟩
 rw[hn,show (mS a).ms.length-(i+1)=n by omega];rfl
theorem cV(l:List Nt)(i k:Nat):(swN l i k).length=l.length:=by simp[swN]
theorem BVR{l:List Nt}{j i:Nat}{x:Nt}(hj:j<l.length):gD (l.set j x) i=bif decide (i=j) then x else gD l i:=by
 unfold gD
 rw[List.getD_eq_getElem?_getD,List.getD_eq_getElem?_getD,List.getElem?_set]
 by_cases h:i=j
 ·subst h;simp[hj]
 ·simp[h,Ne.symm h]
theorem CGY{l:List Nt}{i k:Nat}(hi:i<l.length)(hk:k<l.length){t:Nat}:gD (swN l i k) t=bif decide (t=k) then gD l i else bif decide (t=i) then gD l k else gD l t:=by
 unfold swN
 rw[BVR (by simpa using hk),BVR hi]
def Vh(c:Cht)(g:Nat):Int:=(gD c.ms (g+1)).pl-(gD c.ms g).pl
def gapP(c:Cht)(sp:Nat->Bool)(g:Nat):Span:=⟨c.p.lo*Vh c g,bif sp g then 200000000 else c.p.hi*Vh c g⟩
theorem ChOk.far{c:Cht}(h:ChOk c){g:Nat}(hg:g+1<c.ms.length):1<=Vh c g/\Vh c g<=10000:=by
 have h1:=h.up g hg
 have h2:=h.mks g (by omega)
 have h3:=h.mks (g+1) hg
 unfold Vh;omega
theorem ChOk.gap{c:Cht}(h:ChOk c)(sp:Nat->Bool){g:Nat}(hg:g+1<c.ms.length):(1<=c.p.lo*Vh c g/\c.p.lo*Vh c g<=6000000)/\(c.p.lo*Vh c g<=c.p.hi*Vh c g/\c.p.hi*Vh c g<=6000000)/\(gapP c sp g).lo<=(gapP c sp g).hi:=by
 obtain⟨f1,f2⟩:=h.far hg
 obtain⟨p1,p2,p3⟩:=h.p
 have a1:=AMA (a:=c.p.lo) (b:=Vh c g) (A:=600) (B:=10000) (by omega) (by omega) (by omega) f2
 have a2:=AMA (a:=c.p.hi) (b:=Vh c g) (A:=600) (B:=10000) (by omega) (by omega) (by omega) f2
 have a3:c.p.lo*Vh c g<=c.p.hi*Vh c g:=Int.mul_le_mul_of_nonneg_right p2 (by omega)
 have a4:1*1<=c.p.lo*Vh c g:=Int.mul_le_mul p1 f1 (by omega) (by omega)
 refine⟨by omega,by omega,?_⟩
 show c.p.lo*Vh c g<=bif sp g then 200000000 else c.p.hi*Vh c g
 cases sp g
 ·exact a3
 ·show _<=(200000000:Int);omega
theorem Q9{w:Dk}(h:ChOk w.c){g:Nat}(hg:g+1<w.c.ms.length):Ey w g=gapP w.c w.sp g:=by
 obtain⟨f1,f2⟩:=h.far hg
 obtain⟨a1,a2,_⟩:=h.gap w.sp hg
 have e:farM w.c g=Vh w.c g:=by unfold farM GM;unfold Vh at *;exact ER (by omega) (by omega)
 unfold Ey gapP
 rw[e]
 unfold GM
 rw[ER (by omega) (by omega),ER (by omega) (by omega)]
theorem BEK{w:Dk}(h:ChOk w.c):gpOk (Ey w) (w.c.ms.length-1):=λg hg=>by
 obtain⟨a1,a2,a3⟩:=h.gap w.sp (g:=g) (by omega)
 rw[Q9 h (by omega)]
 refine⟨⟨by show 0<=w.c.p.lo*Vh w.c g;omega,by show w.c.p.lo*Vh w.c g<=_;omega⟩,by have:(gapP w.c w.sp g).lo=w.c.p.lo*Vh w.c g:=rfl;omega,?_⟩
 show (bif w.sp g then 200000000 else w.c.p.hi*Vh w.c g)<=_
 cases w.sp g
 ·show w.c.p.hi*Vh w.c g<=_;omega
 ·show (200000000:Int)<=_;omega
theorem AYI{w:Dk}(h:ChOk w.c):∀g,g<w.c.ms.length-1->(Ey w g).lo<=(Ey w g).hi:=λg hg=>by
 rw[Q9 h (by omega)];exact (h.gap w.sp (by omega)).2.2
theorem AZO{c:Cht}(h:ChOk c)(j:Int):Nk 100000000 (notM c j)/\(notM c j).lo<=(notM c j).hi:=by
 unfold notM
 cases hj:hasN c.ns j with
 |false=>show Nk 100000000 farS/\farS.lo<=farS.hi;exact⟨⟨by decide,by decide⟩,by decide⟩
 |true=>
  obtain⟨hm,_⟩:=AFI hj
  have:=(h.nt _ hm).t
  refine⟨?_,this.2.1⟩
  show Nk _ (ntOf c.ns j).t
  unfold Nk;omega
theorem AXJ{c:Cht}{i:Nat}(hi:i<c.ms.length):gD (xC c) i=notM c i:=CS _ _ _ hi
theorem Tr.ext2{l l' s s':Nat->Span}{n:Nat}{t:Nat->Int}(h:Tr l s n t)(h1:∀i,i<=n->l i=l' i)(h2:∀g,g<n->s g=s' g):Tr l' s' n t:=⟨λi hi=>by rw[<-h1 i hi];exact h.at_ i hi,λg hg=>by rw[<-h2 g hg];exact h.gap g hg⟩
def TrC(c:Cht)(sp:Nat->Bool)(t:Nat->Int):Prop:=Tr (λi=>notM c i) (gapP c sp) (c.ms.length-1) t
theorem ASO{w:Dk}(h:ChOk w.c){t:Nat->Int}:Tr (gD (xC w.c)) (Ey w) (w.c.ms.length-1) t↔TrC w.c w.sp t:=by
 have:=h.m
 exact⟨λq=>q.ext2 (λi hi=>AXJ (by omega)) (λg hg=>Q9 h (by omega)),λq=>q.ext2 (λi hi=>(AXJ (by omega)).symm) (λg hg=>(Q9 h (by omega)).symm)⟩
theorem BVI{c:Cht}(h:ChOk c):∀i,i<(xC c).length->Nk 1000000000 (gD (xC c) i):=λi hi=>by
 rw[SX] at hi
 rw[AXJ hi]
 have:=(AZO h i).1
 unfold Nk at *;omega
theorem BFA{w:Dk}(h:ChOk w.c):(PS w).2=true↔N0 w.c=true/\∃t,TrC w.c w.sp t:=by
 have hm:=h.m
 have hk:=CBG (w:=w) (l:=xC w.c) (by rw[SX];omega) (by rw[SX];omega) (BVI h) (by rw[SX];exact BEK h) (by rw[SX];exact AYI h)
 rw[SX] at hk
 unfold PS
 cases hs:N0 w.c with
 |false=>exact⟨λh=>(by cases h),λh=>(by cases h.1)⟩
 |true=>
  show (lC w (xC w.c)).all lZ=true↔_
  rw[hk]
  exact⟨λ⟨t,ht⟩=>⟨rfl,t,(ASO h).1 ht⟩,λ⟨_,t,ht⟩=>⟨t,(ASO h).2 ht⟩⟩
theorem CCT{w:Dk}(h:ChOk w.c)(hk:(PS w).2=true){i:Nat}(hi:i<w.c.ms.length){x:Int}:(gD (PS w).1 i).has x↔∃t,TrC w.c w.sp t/\t i=x:=by
 have hm:=h.m
 obtain⟨hs,t,ht⟩:=(BFA h).1 hk
 have e:(PS w).1=lC w (xC w.c):=by unfold PS;rw[hs];rfl
 have b1:=BEK h
 have b2:=AYI h
 rw[e,BDU (by rw[SX];omega) (by rw[SX];omega) (BVI h) (by rw[SX];exact b1) (by rw[SX];exact hi),SX]
 rw[BUD b2 ((BEY b2).2 ⟨t,(ASO h).2 ht⟩) (by omega)]
 exact⟨λ⟨t,a,b⟩=>⟨t,(ASO h).1 a,b⟩,λ⟨t,a,b⟩=>⟨t,(ASO h).2 a,b⟩⟩
theorem CCB{w:Dk}(hk:(PS w).2=true){i:Nat}(hi:i<w.c.ms.length):(gD (PS w).1 i).lo<=(gD (PS w).1 i).hi:=by
 unfold PS at hk ⊢
 cases hs:N0 w.c with
 |false=>rw[hs] at hk;cases hk
 |true=>
  rw[hs] at hk
  have hk:(lC w (xC w.c)).all lZ=true:=hk
  exact BAX.1 hk i (by rw[BIB,SX];exact hi)
theorem Xz(l:List Span)(k a b:Int):(parL l k a b).length=l.length:=rng_length _ _
theorem CUW{l:List Span}{g:Nat}{a b:Int}{i:Nat}(hi:i<l.length)(hg:g+1<l.length):gD (parL l ((g:Int)+1) a b) i=⟨bif decide (i=g+1) then EU (gD l i).lo b else (gD l i).lo,bif decide (i=g) then IF (gD l i).hi a else (gD l i).hi⟩:=by
 unfold parL
 rw[CS _ _ _ hi]
 unfold parM
 have e1:((g:Int)+1).toNat=g+1:=by omega
 have e2:((g:Int)+1-1).toNat=g:=by omega
 rw[e1,e2,decide_eq_true (show (g:Int)+1<l.length by omega),decide_eq_true (show (g:Int)+1>0 by omega),Bool.and_true,Bool.true_and]
theorem AUO{a:CZ}(h:ChOk a.c)(hr:TA a=0){i:Nat}(hi:i<a.c.ms.length){x:Int}:(gD (Sq a) i).has x↔∃t,TrC a.c (XK a).sp t/\t i=x:=
 CCT (w:=XK a) h (AED hr).2.2 hi
theorem DBU{a:CZ}(hr:TA a=0){i:Nat}(hi:i<a.c.ms.length):(gD (Sq a) i).lo<=(gD (Sq a) i).hi:=CCB (w:=XK a) (AED hr).2.2 hi
theorem TrC.note{c:Cht}{sp:Nat->Bool}{t:Nat->Int}(h:TrC c sp t){i:Nat}(hi:i<c.ms.length):(notM c i).has (t i):=h.at_ i (by omega)
theorem CZJ{a:CZ}(h:ChOk a.c)(hr:TA a=0){i:Nat}(hi:i<a.c.ms.length):Nk 100000000 (gD (Sq a) i):=by
 have hle:=DBU hr hi
 obtain⟨t1,a1,b1⟩:=(AUO h hr hi).1 ⟨Int.le_refl _,hle⟩
 obtain⟨t2,a2,b2⟩:=(AUO h hr hi).1 ⟨hle,Int.le_refl _⟩
 have c1:=a1.note hi
 have c2:=a2.note hi
 have d:=(AZO h i).1
 rw[b1] at c1;rw[b2] at c2
 unfold Span.has Nk at *;omega
theorem BTS{a:CZ}(h:ChOk a.c)(hr:TA a=0){g:Nat}(hg:g+1<a.c.ms.length){t:Int}(ht:-100000000<=t/\t<=100000000):O8 a t g=true↔∃u,TrC a.c (XK a).sp u/\u g<=t-1/\t+1<=u (g+1):=by
 have hl:=BVV hr
 have hm:=h.m
 have w1:GM (t-1)=t-1:=ER (by omega) (by omega)
 have w2:GM (t+1)=t+1:=ER (by omega) (by omega)
 have b1:gpOk (Ey (XK a)) (a.c.ms.length-1):=BEK (w:=XK a) h
 have b2:∀g,g<a.c.ms.length-1->(Ey (XK a) g).lo<=(Ey (XK a) g).hi:=AYI (w:=XK a) h
 have pa:=λi (hi:i<a.c.ms.length)=>CUW (l:=Sq a) (g:=g) (a:=t-1) (b:=t+1) (i:=i) (by omega) (by omega)
 unfold O8
 rw[w1,w2,CBG (by rw[Xz];omega) (by rw[Xz];omega) (λi hi=>?_) (by rw[Xz,hl];exact b1) (by rw[Xz,hl];exact b2),Xz,hl]
 ·constructor
  ·rintro⟨u,hu⟩
   have hin:∀i,i<a.c.ms.length->(gD (Sq a) i).has (u i):=λi hi=>by
    have:=hu.at_ i (by omega)
    rw[pa i hi] at this
    obtain⟨q1,q2⟩:=this
    have m1:=ANC (gD (Sq a) i).lo (t+1)
    have m2:=AXN (gD (Sq a) i).hi (t-1)
    refine⟨Int.le_trans ?_ q1,Int.le_trans q2 ?_⟩
    ·show _<=bif decide (i=g+1) then EU (gD (Sq a) i).lo (t+1) else (gD (Sq a) i).lo
     cases decide (i=g+1)
     ·exact Int.le_refl _
     ·exact m1.1
    ·show (bif decide (i=g) then IF (gD (Sq a) i).hi (t-1) else (gD (Sq a) i).hi)<=_
     cases decide (i=g)
     ·exact Int.le_refl _
     ·exact m2.1
   refine⟨u,⟨λi hi=>?_,λk hk=>?_⟩,?_,?_⟩
   ·obtain⟨v,v1,v2⟩:=(AUO h hr (by omega)).1 (hin i (by omega))
    have:=v1.note (i:=i) (by omega)
    rw[v2] at this;exact this
   ·have:=hu.gap k hk
    rw[Q9 (w:=XK a) h (by show k+1<a.c.ms.length;omega)] at this;exact this
   ·have:=(hu.at_ g (by omega)).2
    rw[pa g (by omega)] at this
    have this:u g<=bif decide (g=g) then IF (gD (Sq a) g).hi (t-1) else (gD (Sq a) g).hi:=this
    rw[decide_eq_true rfl] at this
    have m2:=AXN (gD (Sq a) g).hi (t-1)
    exact Int.le_trans this m2.2
   ·have:=(hu.at_ (g+1) (by omega)).1
    rw[pa (g+1) hg] at this
    have this:(bif decide (g+1=g+1) then EU (gD (Sq a) (g+1)).lo (t+1) else (gD (Sq a) (g+1)).lo)<=u (g+1):=this
    rw[decide_eq_true rfl] at this
    have m2:=ANC (gD (Sq a) (g+1)).lo (t+1)
    exact Int.le_trans m2.2 this
  ·rintro⟨u,hu,u1,u2⟩
   refine⟨u,λi hi=>?_,λk hk=>?_⟩
   ·have hin:=(AUO h hr (show i<a.c.ms.length by omega)).2 ⟨u,hu,rfl⟩
    rw[pa i (by omega)]
    refine⟨?_,?_⟩
    ·show (bif decide (i=g+1) then EU (gD (Sq a) i).lo (t+1) else (gD (Sq a) i).lo)<=u i
     by_cases e:i=g+1
     ·subst e;rw[decide_eq_true rfl];exact ANE.2 ⟨hin.1,u2⟩
     ·rw[decide_eq_false e];exact hin.1
    ·show u i<=bif decide (i=g) then IF (gD (Sq a) i).hi (t-1) else (gD (Sq a) i).hi
     by_cases e:i=g
     ·subst e;rw[decide_eq_true rfl];exact BDF.2 ⟨hin.2,u1⟩
     ·rw[decide_eq_false e];exact hin.2
   ·have:=hu.gap k hk
    rw[Q9 (w:=XK a) h (by show k+1<a.c.ms.length;omega)];exact this
 ·rw[Xz,hl] at hi
  have hb:=CZJ h hr hi
  rw[pa i hi]
  refine⟨?_,?_⟩
  ·show _<=(bif decide (i=g+1) then EU (gD (Sq a) i).lo (t+1) else (gD (Sq a) i).lo)/\(bif decide (i=g+1) then EU (gD (Sq a) i).lo (t+1) else (gD (Sq a) i).lo)<=_
   unfold Nk EU at *
   cases decide (i=g+1)
   ·simp only[cond_false];omega
   ·simp only[cond_true];split<;>omega
  ·show _<=(bif decide (i=g) then IF (gD (Sq a) i).hi (t-1) else (gD (Sq a) i).hi)/\(bif decide (i=g) then IF (gD (Sq a) i).hi (t-1) else (gD (Sq a) i).hi)<=_
   unfold Nk IF at *
   cases decide (i=g)
   ·simp only[cond_false];omega
   ·simp only[cond_true];split<;>omega
end Go.Bal
