/- Package rating: bounds of a flow. -/
import Derived.Test.YtoihhodbkimedaaGreatRatH
set_option linter.unusedVariables false
set_option linter.unusedSimpArgs false
namespace Go.Bal
open Go Go.Sym Go.Proofs
def bndM(l:List Ln)(t:Int):Bnd:=bif decide (l.length=0) then default else⟨MF (aV zK t l) t,MF (aV yP t l) t⟩
def dBkt:List AVal->Heap->Option (BkT×List (Nat×Nat)×List Nat)
 |[.bptr id _,.d t],H=>match ATT H id with
  |some (w,q)=>some (⟨w,KT t⟩,[(100,id),(101,q)],[])
  |none=>none
 |_,_=>none
def C_bnd:Ctr:={ ro:=[100],α:=BkT,xs:=λa=>[.bptr 100 0,.int a.st],L:=λa=>bkL a.w,val:=λa=>.tup [.d (eBnd (bndM (lB a) a.st)),.bool (decide ((lB a).length≠0))],keep:=λa=>bkK (XU a.w (kB a)),pre:=λa=>[ZV a.w.g a.w.b/\0<=a.st/\a.st<=2000] }
def CLD:Ann:={ ann 36 [(BJV,C_less.spec d0),(BFN,C_more.spec d0),(AXN,orS ((Lz zK Bm).spec (dBkT Bm)) ((Lz yP Bo).spec (dBkT Bo))),(ALY,BJF)] with E:=[100,101] }
def CLM(a:BkT):Prop:=BQ Try.prog CLD APD (AI APD) (C_bnd.xs a) (AD (C_bnd.L a)) (C_bnd.val a) (C_bnd.keep a) [] []
abbrev jU a b:=rQ a (BkT.mk a b)
abbrev BPE a b:=jU a (ZT b)
abbrev Zj a:=BPE (Bs a) a
abbrev oA a:=AUB (Nj a) (HE a) a (Zj a) (Zj a)
abbrev WP a:=BPE (oA a) a
abbrev uR a b c:=AEO (ID a) b c a
abbrev yR a b:=lB (BkT.mk a b)
abbrev BMK a b:=yR a (ZT b)
abbrev AMR a:=BMK (oA a) a
abbrev gI a b:=bndM (lB a) (ZT b)
abbrev AGS a:=BMK (Bs a) a
attribute [go_sem] jU BPE Zj oA WP uR yR BMK AMR gI AGS
theorem COK(a:BkT):(CLM a)=(EI (Gb a) (Kh (Nj a) a) (Mk (Nj a) a) (AF (Fl (Ag a) a) (Ez (Ag a) a) EQ (WA (HE a)) (JR (OP (HE a)) (BG (λi=>CJ (Bs a) i (HE a) (λj=>CK j (Bs a) i (HE a) (EJ (BO (Bs a) i j) (BO (HE a) i j) (BI (Bs a) i j) (BI (HE a) i j) (DW (Bs a) i j) (HE a) i j)))) (PD (HE a) (Zj a)) (PE (HE a) (Zj a)) (OM (HE a) (Zj a)) (PC (HE a) (Zj a)) (LA (Nj a) (Ag a) ES) (ZT a) (Kv a))) (AN (Gb a) (Kh (Nj a) a) (Mk (Nj a) a) (AF (Fl (Ag a) a) (Ez (Ag a) a) EQ (WA (Zj a)) (JR (OP (Zj a)) (BG (λi=>CJ (oA a) i (Zj a) (λj=>CK j (oA a) i (Zj a) (EJ (BO (oA a) i j) (BO (Zj a) i j) (BI (oA a) i j) (BI (Zj a) i j) (DW (oA a) i j) (Zj a) i j)))) (PD (HE a) (WP a)) (PE (HE a) (WP a)) (OM (HE a) (WP a)) (PC (HE a) (WP a)) (LA (Nj a) (Ag a) ES) (ZT a) (Kv a)))) (CS (not (rE (ID (AGS a)))) (AF (CP (OS (gI a a))) (CP (JI (gI a a))) (CP (JP (gI a a))) (CP (OX (gI a a))) (OF (LC (fI a)) (Kh (At a) a) (Mk (At a) a) (Fl (Ax a) a) (Ez (Ax a) a) (BG (λi=>OQ (GS a) i (WP a) i)) (JK (GS a) (WP a)) (λi=>CJ (GS a) i (WP a) (λj=>CK j (GS a) i (WP a) (EJ (Ge a i j) (BO (WP a) i j) (BI (GS a) i j) (BI (WP a) i j) (DW (GS a) i j) (WP a) i j))))) (BJ (AF (ZN (uR (AGS a) zK a)) (ED (ZT a) (Kv a)) (ZN (uR (AMR a) yP a)) (BC (ZT a)) (Kv a)) (AO (OS (gI a a)) (WL (Uy (uR (AGS a) zK a) a))) (AO (JI (gI a a)) (WY (Uy (uR (AGS a) zK a) a))) (AO (JP (gI a a)) (WL (Uy (uR (AMR a) yP a) a))) (AO (OX (gI a a)) (WY (Uy (uR (AMR a) yP a) a))) (OF (EL (fI a)) (Kh (At a) a) (Mk (At a) a) (Fl (Ax a) a) (Ez (Ax a) a) (BG (λi=>OQ (GS a) i (WP a) i)) (JK (GS a) (WP a)) (λi=>CJ (GS a) i (WP a) (λj=>CK j (GS a) i (WP a) (EJ (Ge a i j) (BO (WP a) i j) (BI (GS a) i j) (BI (WP a) i j) (DW (GS a) i j) (WP a) i j))))))):=by kernel_rfl
theorem BQY(w:Bk)(k:Int):XU (XU w k) k=XU w k:=aZ (by show ZS w.has k k=true;simp[ZS])
theorem Si(a:BkT):BkT.mk a.w a.st=a:=rfl
theorem Sh(w:Bk)(k:Int):Bk.mk w.g w.b (XU w k).has (XU w k).st=XU w k:=rfl
theorem yL(w:Bk)(k:Int):(XU w k).g=w.g:=rfl
theorem yM(w:Bk)(k:Int):(XU w k).b=w.b:=rfl
theorem CUG(a:BkT)(k:Int):kB ⟨XU a.w k,a.st⟩=kB a:=rfl
theorem CRS(a:BkT)(k:Int):lB ⟨XU a.w k,a.st⟩=lB a:=rfl
theorem CUN(a:BkT)(h:ZV a.w.g a.w.b)(h2:0<=a.st/\a.st<=2000):CLM a:=by
 rw[COK]<;> delta JT XL EE EC DP OV LY LW MN JG CS AO AR CG AK BV BZ CM BU DD ES NK WL WY iR gU CI EZ LZ VY Lj ID RG XS PA PK Bq BG Jp Dd Ms HE ZT AG GT JO GV IE AF AT AH CA Eo CF rQ AM JM Bu aD Xf AP BR cX AS AW DF DX CR AX BC GA AUB IC AN Ha jU XT Nj EP GI ED AY yR DW EL GC BI FZ UU HG BO Ag PF GU Ng BPE CP GS EM GH Bs IH FE BJ BM EW FM FK EQ OH MI WA Mr Gw EJ SE BMK Zj NT OP ER SB SD OX OS NH NQ LC CJ HZ CK JI JP NM QW ME Ax oA At Bz EI OF Dv AEO RO JK PD OM WP AGS AMR PE PC OQ JR Fz uR Fl LA Gb Ii Ez Ge Kv Kh Mk gI Uy rE ZN fI;simp only[CC,eq_self,implies_true,forall_const,Fa,Sh,yL,yM,Si,CUG,CRS,BQY,if_true]
 obtain⟨_,hok⟩:=BXM h
 unfold bndM
 refine⟨⟨h,h2⟩,⟨h,h2⟩,λhc=>?_,λhc=>?_⟩
 ·rw[decide_eq_true (show (lB a).length=0 by omega)]
  exact⟨rfl,rfl,rfl,rfl,hc⟩
 ·rw[decide_eq_false hc]
  have hb:∀lt,PJ (aV lt a.st (lB a)):=λlt=>AIL ▸ AMT hok (by omega)
  exact⟨⟨hb _,h2,hb _,h2⟩,rfl,rfl,rfl,rfl,hc⟩
theorem W6:AJ Try.prog Zt (C_bnd.spec dBkt):=VD C_bnd (λ_=>CLD) [] [] BRC (λ_=>by kernel_rfl) (λ_=>AC CFN (AC CDJ (AC (AJF BZF BWB) (AC BAC AE)))) (λ(a:BkT) h=>by
 have h:ZV a.w.g a.w.b/\0<=a.st/\a.st<=2000:=h
 exact CUN a h.1 h.2) (λ_=>WK rfl rfl) _
end Go.Bal

namespace Go.Bal
open Go Go.Sym Go.Proofs
structure Rl where
 p:Int
 q:Int
 w:Int
def Rl.num(f:Rl)(u:Int):Int:=f.p+f.q*u
def Rl.ok(f:Rl):Prop:=0<f.w/\0<=f.q
def Rl.pass(f:Rl)(g:Gau):Prop:=g.lo*f.w<=f.num g.st/\f.num g.st<=g.hi*f.w
def Rl.passes(f:Rl)(s:List Gau):Prop:=∀g∈s,f.pass g
def RA(x:Ln):Rl:=⟨x.a1*(x.b0-x.a0)-(x.b1-x.a1)*x.a0,x.b1-x.a1,x.b0-x.a0⟩
theorem MM{x:Ln}(h:PJ x):(RA x).ok:=by
 obtain⟨h1,h2,h3,h4,h5,h6⟩:=h
 exact⟨by show 0<x.b0-x.a0;omega,by show 0<=x.b1-x.a1;omega⟩
theorem AWJ(x:Ln)(t:Int):(RA x).num t=x.a1*(x.b0-x.a0)+(x.b1-x.a1)*(t-x.a0):=by
 show x.a1*(x.b0-x.a0)-(x.b1-x.a1)*x.a0+(x.b1-x.a1)*t=_
 grind
theorem BPA(x:Ln)(t:Int):Wc x t=Vx ((RA x).num t) (RA x).w:=by rw[AWJ];rfl
theorem eJ{a b c:Int}(hc:0<c)(h:a*c<=b*c):a<=b:=Int.le_of_mul_le_mul_right h hc
theorem AEX{x:Ln}{g:Gau}(h:PJ x):LB x g=true↔(RA x).pass g:=by
 have hw:=(MM h).1
 have hv:=AMQ (n:=(RA x).num g.st) hw
 have hd:=(BJJ (n:=(RA x).num g.st) hw).1
 unfold LB Rl.pass
 rw[BPA]
 generalize Vx ((RA x).num g.st) (RA x).w=r at *
 generalize (RA x).num g.st=N at *
 generalize (RA x).w=W at *
 rw[Bool.and_eq_true,decide_eq_true_eq,decide_eq_true_eq]
 constructor
 ·rintro⟨h1,h2⟩
  have a1:=Int.mul_le_mul_of_nonneg_right h1 (Int.le_of_lt hw)
  have a2:=Int.mul_le_mul_of_nonneg_right h2 (Int.le_of_lt hw)
  constructor
  ·refine Int.le_of_mul_le_mul_right (a:=r.d) ?_ hd;grind
  ·refine Int.le_of_mul_le_mul_right (a:=r.d) ?_ hd;grind
 ·rintro⟨h1,h2⟩
  have a1:=Int.mul_le_mul_of_nonneg_right h1 (Int.le_of_lt hd)
  have a2:=Int.mul_le_mul_of_nonneg_right h2 (Int.le_of_lt hd)
  constructor
  ·refine Int.le_of_mul_le_mul_right (a:=W) ?_ hw;grind
  ·refine Int.le_of_mul_le_mul_right (a:=W) ?_ hw;grind
theorem ALP{x:Ln}{s:List Gau}(h:PJ x):Hn s x=true↔(RA x).passes s:=by
 unfold Hn Rl.passes
 rw[List.all_eq_true]
 exact⟨λa g hg=>(AEX h).1 (a g hg),λa g hg=>(AEX h).2 (a g hg)⟩
def okS(a v m e:Int)(g:Gau):Prop:=g.lo*e<=v*e+m*(g.st-a)/\v*e+m*(g.st-a)<=g.hi*e
theorem BUS{f:Rl}{a v m e:Int}{g:Gau}(he:0<e)(h1:f.num a=v*f.w)(h2:f.q*e=m*f.w)(hw:0<f.w)(h:okS a v m e g):f.pass g:=by
 obtain⟨h3,h4⟩:=h
 have a1:=Int.mul_le_mul_of_nonneg_right h3 (Int.le_of_lt hw)
 have a2:=Int.mul_le_mul_of_nonneg_right h4 (Int.le_of_lt hw)
 have e1:f.num g.st=v*f.w+f.q*(g.st-a):=by unfold Rl.num at *;grind
 have e2:f.q*(g.st-a)*e=m*f.w*(g.st-a):=by grind
 constructor
 ·refine Int.le_of_mul_le_mul_right (a:=e) ?_ he;rw[e1];grind
 ·refine Int.le_of_mul_le_mul_right (a:=e) ?_ he;rw[e1];grind
structure Sl where
 m:Int
 e:Int
theorem BFQ:∀(l:List Sl),l≠[]->(∀x∈l,0<x.e)->∃x∈l,∀y∈l,y.m*x.e<=x.m*y.e
 |[],h,_=>(h rfl).elim
 |[x],_,_=>⟨x,List.mem_singleton.2 rfl,λy hy=>by rw[List.mem_singleton.1 hy];exact Int.le_refl _⟩
 |x :: z :: l,_,h=>by
  obtain⟨b,hb,hm⟩:=BFQ (z :: l) (by simp) (λy hy=>h y (List.mem_cons_of_mem _ hy))
  have hx:=h x (List.mem_cons_self ..)
  have hbe:=h b (List.mem_cons_of_mem _ hb)
  rcases Int.le_total (x.m*b.e) (b.m*x.e) with hc | hc
  ·refine⟨b,List.mem_cons_of_mem _ hb,λy hy=>?_⟩
   rcases List.mem_cons.1 hy with rfl | hy
   ·exact hc
   ·exact hm y hy
  ·refine⟨x,List.mem_cons_self ..,λy hy=>?_⟩
   rcases List.mem_cons.1 hy with rfl | hy
   ·exact Int.le_refl _
   ·have hye:=h y (List.mem_cons_of_mem _ hy)
    have a1:=Int.mul_le_mul_of_nonneg_right (hm y hy) (Int.le_of_lt hx)
    have a2:=Int.mul_le_mul_of_nonneg_right hc (Int.le_of_lt hye)
    refine Int.le_of_mul_le_mul_right (a:=b.e) ?_ hbe
    grind
theorem AVH(δ:Gau->Int):∀(s:List Gau),s≠[]->∃g∈s,∀h∈s,δ g<=δ h
 |[],h=>(h rfl).elim
 |[x],_=>⟨x,List.mem_singleton.2 rfl,λy hy=>by rw[List.mem_singleton.1 hy];exact Int.le_refl _⟩
 |x :: z :: l,_=>by
  obtain⟨b,hb,hm⟩:=AVH δ (z :: l) (by simp)
  rcases Int.le_total (δ x) (δ b) with hc | hc
  ·refine⟨x,List.mem_cons_self ..,λy hy=>?_⟩
   rcases List.mem_cons.1 hy with rfl | hy
   ·exact Int.le_refl _
   ·exact Int.le_trans hc (hm y hy)
  ·refine⟨b,List.mem_cons_of_mem _ hb,λy hy=>?_⟩
   rcases List.mem_cons.1 hy with rfl | hy
   ·exact hc
   ·exact hm y hy
theorem ANM{f:Rl}{s:List Gau}(hf:f.ok)(hs:f.passes s)(hne:s≠[]):∃g∈s,(∀h∈s,okS g.st g.lo f.q f.w h)/\∀u,g.lo*f.w+f.q*(u-g.st)<=f.num u:=by
 obtain⟨g,hg,hm⟩:=AVH (λg=>f.num g.st-g.lo*f.w) s hne
 refine⟨g,hg,λh hh=>?_,λu=>?_⟩
 ·have h1:=hm h hh
  obtain⟨h2,h3⟩:=hs h hh
  obtain⟨h4,h5⟩:=hs g hg
  unfold Rl.num at *
  constructor<;>grind
 ·obtain⟨h4,h5⟩:=hs g hg
  unfold Rl.num at *
  grind
theorem BUE{f:Rl}{s:List Gau}(hf:f.ok)(hs:f.passes s)(hne:s≠[]):∃g∈s,(∀h∈s,okS g.st g.hi f.q f.w h)/\∀u,f.num u<=g.hi*f.w+f.q*(u-g.st):=by
 obtain⟨g,hg,hm⟩:=AVH (λg=>g.hi*f.w-f.num g.st) s hne
 refine⟨g,hg,λh hh=>?_,λu=>?_⟩
 ·have h1:=hm h hh
  obtain⟨h2,h3⟩:=hs h hh
  obtain⟨h4,h5⟩:=hs g hg
  unfold Rl.num at *
  constructor<;>grind
 ·obtain⟨h4,h5⟩:=hs g hg
  unfold Rl.num at *
  grind
def AVE(s:List Gau)(a v m e:Int):Prop:=∃y∈Nh s,PJ y/\(RA y).num a=v*(RA y).w/\(RA y).q*e=m*(RA y).w
theorem CCJ{s:List Gau}{p:Pt}(h:p∈AA s):BT p∈Nh s:=by
 unfold Nh blk;exact List.mem_flatMap.2 ⟨p,h,List.mem_cons_self ..⟩
theorem BOM{s:List Gau}{p q:Pt}(h:p∈AA s)(h2:q∈AA s)(h3:PJ (nG p q)):nG p q∈Nh s:=by
 unfold Nh blk
 exact List.mem_flatMap.2 ⟨p,h,List.mem_cons_of_mem _ (List.mem_filter.2 ⟨List.mem_map.2 ⟨q,h2,rfl⟩,aQ.2 h3⟩)⟩
theorem C7{s:List Gau}{g:Gau}(h:g∈s):(⟨g.st,g.lo⟩:Pt)∈AA s:=AMM.2 ⟨g,h,.inl rfl⟩
theorem AQX{s:List Gau}{g:Gau}(h:g∈s):(⟨g.st,g.hi⟩:Pt)∈AA s:=AMM.2 ⟨g,h,.inr rfl⟩
theorem ALI(p:Pt)(u:Int):(RA (BT p)).num u=p.fl*(RA (BT p)).w/\(RA (BT p)).q=0:=by
 rw[AWJ]
 unfold BT;split<;>(simp only[RA];constructor<;>grind)
theorem BXG{s:List Gau}(hs:∀g∈s,RK g){a v:Int}(h:(⟨a,v⟩:Pt)∈AA s):AVE s a v 0 1:=by
 refine⟨_,CCJ h,eQ (cM hs h),(ALI _ _).1,?_⟩
 rw[(ALI ⟨a,v⟩ 0).2];omega
theorem AEF(p q:Pt)(u:Int):(RA (nG p q)).num u=p.fl*(q.st-p.st)+(q.fl-p.fl)*(u-p.st):=by rw[AWJ];rfl
theorem AOM{s:List Gau}(hs:∀g∈s,RK g){a v b z:Int}(h:(⟨a,v⟩:Pt)∈AA s)(h2:(⟨b,z⟩:Pt)∈AA s)(hab:a<b)(hvz:v<=z):AVE s a v (z-v) (b-a):=by
 have o1:=cM hs h
 have o2:=cM hs h2
 have hl:PJ (nG ⟨a,v⟩ ⟨b,z⟩):=⟨o1.1,hab,o2.2.1,o1.2.2.1,hvz,o2.2.2.2⟩
 exact⟨_,BOM h h2 hl,hl,by rw[AEF];simp[RA,nG],by simp[RA,nG]⟩
theorem AUD{s:List Gau}(hs:∀g∈s,RK g){a v b z:Int}(h:(⟨a,v⟩:Pt)∈AA s)(h2:(⟨b,z⟩:Pt)∈AA s)(hab:b<a)(hvz:z<=v):AVE s a v (v-z) (a-b):=by
 have o1:=cM hs h
 have o2:=cM hs h2
 have hl:PJ (nG ⟨b,z⟩ ⟨a,v⟩):=⟨o2.1,hab,o1.2.1,o2.2.2.1,hvz,o1.2.2.2⟩
 exact⟨_,BOM h2 h hl,hl,by rw[AEF];simp only[RA,nG];grind,by simp[RA,nG]⟩
theorem ASX{s:List Gau}{a v m e:Int}(he:0<e)(h:AVE s a v m e)(hp:∀g∈s,okS a v m e g):∃y∈SQ s,PJ y/\(RA y).passes s/\(RA y).num a=v*(RA y).w/\(RA y).q*e=m*(RA y).w:=by
 obtain⟨y,h1,h2,h3,h4⟩:=h
 have hy:(RA y).passes s:=λg hg=>BUS he h3 h4 (MM h2).1 (hp g hg)
 exact⟨y,List.mem_filter.2 ⟨h1,(ALP h2).2 hy⟩,h2,hy,h3,h4⟩
def loSl(a v:Int)(g:Gau):List Sl:=if a<g.st then [⟨g.lo-v,g.st-a⟩] else if g.st<a then [⟨v-g.hi,a-g.st⟩] else []
def upSl(a v:Int)(g:Gau):List Sl:=if a<g.st then [⟨g.hi-v,g.st-a⟩] else if g.st<a then [⟨v-g.lo,a-g.st⟩] else []
theorem Sd{a v m e:Int}{g:Gau}:okS a v m e g↔(∀x∈loSl a v g,x.m*e<=m*x.e)/\(∀x∈upSl a v g,m*x.e<=x.m*e)/\(g.st=a->g.lo*e<=v*e/\v*e<=g.hi*e):=by
 unfold okS loSl upSl
 by_cases h1:a<g.st
 ·simp only[h1,if_true,List.mem_singleton,forall_eq]
  constructor
  ·intro h;refine⟨by grind,by grind,by omega⟩
  ·intro h;constructor<;>grind
 ·by_cases h2:g.st<a
  ·simp only[h1,h2,if_true,if_false,List.mem_singleton,forall_eq]
   constructor
   ·intro h;refine⟨by grind,by grind,by omega⟩
   ·intro h;constructor<;>grind
  ·have:g.st=a:=by omega
   simp only[h1,h2,if_false,List.not_mem_nil,false_imp_iff,implies_true,true_and]
   rw[this,Int.sub_self,Int.mul_zero,Int.add_zero]
   simp
theorem BGU{a v:Int}{g:Gau}{x:Sl}(h:x∈loSl a v g):0<x.e:=by
 unfold loSl at h;split at h
 ·rw[List.mem_singleton.1 h];show 0<g.st-a;omega
 ·split at h
  ·rw[List.mem_singleton.1 h];show 0<a-g.st;omega
  ·cases h
theorem BIF{a v:Int}{g:Gau}{x:Sl}(h:x∈upSl a v g):0<x.e:=by
 unfold upSl at h;split at h
 ·rw[List.mem_singleton.1 h];show 0<g.st-a;omega
 ·split at h
  ·rw[List.mem_singleton.1 h];show 0<a-g.st;omega
  ·cases h
theorem AAF{a b c d e f:Int}(hd:0<d)(h1:a*d<=c*b)(h2:c*f<=e*d)(hb:0<=b)(hf:0<=f):a*f<=e*b:=by
 have h3:=Int.mul_le_mul_of_nonneg_right h1 hf
 have h4:=Int.mul_le_mul_of_nonneg_right h2 hb
 refine Int.le_of_mul_le_mul_right (a:=d) ?_ hd
 grind
theorem vN{s:List Gau}(hs:∀g∈s,RK g){a v n d:Int}(hp:(⟨a,v⟩:Pt)∈AA s)(hd:0<d)(hn:0<=n)(h:∀g∈s,okS a v n d g):∃y∈SQ s,PJ y/\(RA y).passes s/\(RA y).num a=v*(RA y).w/\(RA y).q*d<=n*(RA y).w:=by
 obtain⟨x,hx,hm⟩:=BFQ (⟨0,1⟩ :: s.flatMap (loSl a v)) (by simp) (λy hy=>by
  rcases List.mem_cons.1 hy with rfl | hy
  ·exact Int.one_pos
  ·obtain⟨g,_,hg⟩:=List.mem_flatMap.1 hy;exact BGU hg)
 have hxe:0<x.e:=by
  rcases List.mem_cons.1 hx with rfl | hy
  ·exact Int.one_pos
  ·obtain⟨g,_,hg⟩:=List.mem_flatMap.1 hy;exact BGU hg
 have hxm:0<=x.m:=by have:=hm ⟨0,1⟩ (List.mem_cons_self ..);simp at this;omega
 have hle:x.m*d<=n*x.e:=by
  rcases List.mem_cons.1 hx with rfl | hy
  ·simp;exact hn
  ·obtain⟨g,hg,hgx⟩:=List.mem_flatMap.1 hy;exact (Sd.1 (h g hg)).1 _ hgx
 have hok:∀g∈s,okS a v x.m x.e g:=λg hg=>Sd.2 ⟨λy hy=>hm y (List.mem_cons_of_mem _ (List.mem_flatMap.2 ⟨g,hg,hy⟩)),λy hy=>AAF hd hle ((Sd.1 (h g hg)).2.1 y hy) (Int.le_of_lt hxe) (Int.le_of_lt (BIF hy)),λhe=>by
  obtain⟨h1,h2⟩:=(Sd.1 (h g hg)).2.2 he
  exact⟨Int.mul_le_mul_of_nonneg_right (eJ hd h1) (Int.le_of_lt hxe),Int.mul_le_mul_of_nonneg_right (eJ hd h2) (Int.le_of_lt hxe)⟩⟩
 have hc:AVE s a v x.m x.e:=by
  rcases List.mem_cons.1 hx with rfl | hy
  ·exact BXG hs hp
  ·obtain⟨g,hg,hgx⟩:=List.mem_flatMap.1 hy
   unfold loSl at hgx
   split at hgx
   ·rename_i hlt
    have:=List.mem_singleton.1 hgx
    subst this
    exact AOM hs hp (C7 hg) hlt (by have:0<=g.lo-v:=hxm;omega)
   ·split at hgx
    ·rename_i hlt
     have:=List.mem_singleton.1 hgx
     subst this
     exact AUD hs hp (AQX hg) hlt (by have:0<=v-g.hi:=hxm;omega)
    ·cases hgx
 obtain⟨y,y1,y2,y3,y4,y5⟩:=ASX hxe hc hok
 refine⟨y,y1,y2,y3,y4,?_⟩
 have hw:=(MM y2).1
 exact AAF hxe (by rw[y5];exact Int.le_refl _) hle (Int.le_of_lt hw) (Int.le_of_lt hd)
theorem BLE{s:List Gau}(hs:∀g∈s,RK g){a v n d:Int}(hp:(⟨a,v⟩:Pt)∈AA s)(hd:0<d)(hn:0<=n)(h:∀g∈s,okS a v n d g)(ho:∃g∈s,g.st≠a):∃y∈SQ s,PJ y/\(RA y).passes s/\(RA y).num a=v*(RA y).w/\n*(RA y).w<=(RA y).q*d:=by
 obtain⟨x,hx,hm⟩:=BFQ ((s.flatMap (upSl a v)).map λz=>⟨-z.m,z.e⟩) (by
  obtain⟨g,hg,hne⟩:=ho
  intro he
  have he:=List.map_eq_nil_iff.1 he
  have:upSl a v g=[]:=by
   have:=List.flatMap_eq_nil_iff.1 he g hg;exact this
  unfold upSl at this
  by_cases h1:a<g.st
  ·rw[if_pos h1] at this;cases this
  ·rw[if_neg h1,if_pos (by omega)] at this;cases this) (λy hy=>by
  obtain⟨z,hz,rfl⟩:=List.mem_map.1 hy
  obtain⟨g,_,hg⟩:=List.mem_flatMap.1 hz;exact BIF (x:=z) hg)
 obtain⟨z,hz,rfl⟩:=List.mem_map.1 hx
 obtain⟨g0,hg0,hgz⟩:=List.mem_flatMap.1 hz
 have hze:0<z.e:=BIF hgz
 have hmz:∀g∈s,∀y∈upSl a v g,z.m*y.e<=y.m*z.e:=λg hg y hy=>by
  have:=hm ⟨-y.m,y.e⟩ (List.mem_map.2 ⟨y,List.mem_flatMap.2 ⟨g,hg,hy⟩,rfl⟩)
  simp only[Int.neg_mul] at this;omega
 have hle:n*z.e<=z.m*d:=(Sd.1 (h g0 hg0)).2.1 _ hgz
 have hzm:0<=z.m:=by
  have h1:=Int.mul_nonneg hn (Int.le_of_lt hze)
  exact eJ hd (by rw[Int.zero_mul];omega)
 have hok:∀g∈s,okS a v z.m z.e g:=λg hg=>Sd.2 ⟨λy hy=>AAF hd ((Sd.1 (h g hg)).1 y hy) hle (Int.le_of_lt (BGU hy)) (Int.le_of_lt hze),λy hy=>hmz g hg y hy,λhe=>by
  obtain⟨h1,h2⟩:=(Sd.1 (h g hg)).2.2 he
  exact⟨Int.mul_le_mul_of_nonneg_right (eJ hd h1) (Int.le_of_lt hze),Int.mul_le_mul_of_nonneg_right (eJ hd h2) (Int.le_of_lt hze)⟩⟩
 have hc:AVE s a v z.m z.e:=by
  unfold upSl at hgz
  split at hgz
  ·rename_i hlt
   have:=List.mem_singleton.1 hgz
   subst this
   exact AOM hs hp (AQX hg0) hlt (by have:0<=g0.hi-v:=hzm;omega)
  ·split at hgz
   ·rename_i hlt
    have:=List.mem_singleton.1 hgz
    subst this
    exact AUD hs hp (C7 hg0) hlt (by have:0<=v-g0.lo:=hzm;omega)
   ·cases hgz
 obtain⟨y,y1,y2,y3,y4,y5⟩:=ASX hze hc hok
 refine⟨y,y1,y2,y3,y4,?_⟩
 have hw:=(MM y2).1
 have:=AAF hze hle (by rw[<-y5];exact Int.le_refl _) (Int.le_of_lt hd) (Int.le_of_lt hw)
 exact this
theorem BUJ{f:Rl}{s:List Gau}(hs:∀g∈s,RK g)(hf:f.ok)(hp:f.passes s)(hne:s≠[]):SQ s≠[]:=by
 obtain⟨g,hg,h1,_⟩:=ANM hf hp hne
 obtain⟨y,hy,_⟩:=vN hs (C7 hg) hf.1 hf.2 h1
 intro he;rw[he] at hy;cases hy
theorem xC{s:List Gau}{t:Int}{x:Ln}(h:s≠[]->SQ s≠[]):x∈VP s t↔x∈SQ s∨x∈(MJ s t).filter (yU s):=by
 unfold VP
 have:(bif decide (0<s.length) then decide ((SQ s).length=0) else false)=false:=by
  by_cases hn:0<s.length
  ·rw[decide_eq_true hn]
   have:=h (by intro he;rw[he] at hn;cases hn)
   exact decide_eq_false (by intro he;exact this (List.eq_nil_of_length_eq_zero he))
  ·rw[decide_eq_false hn];rfl
 rw[this]
 exact List.mem_append
theorem He{s:List Gau}{t:Int}(hs:∀g∈s,RK g){x:Ln}(hx:x∈VP s t):PJ x/\(RA x).passes s:=by
 have hok:=BZJ hs x hx
 refine⟨hok,(ALP hok).1 ?_⟩
 rw[M4] at hx
 revert hx
 cases (bif decide ((s.length:Int)>0) then ((SQ s).length:Int)==0 else false) with
 |true=>intro hx;cases hx
 |false=>
  intro hx
  rcases List.mem_append.1 hx with hx | hx
  ·exact (List.mem_filter.1 hx).2
  ·have:=(List.mem_filter.1 hx).2
   unfold yU at this
   cases hr:Va x with
   |true=>rw[hr] at this;exact this
   |false=>rw[hr] at this;cases this
theorem BZO{s:List Gau}{t v:Int}(h:v=0∨v=200000):BT ⟨t,v⟩∈MJ s t:=by
 unfold MJ moB
 rcases h with rfl | rfl<;>simp
theorem BTO{s:List Gau}{t:Int}{p:Pt}(h:p∈AA s):nG ⟨t,0⟩ p∈MJ s t/\nG p ⟨t,200000⟩∈MJ s t:=by
 unfold MJ
 constructor<;>(refine List.mem_append.2 (.inr (List.mem_flatMap.2 ⟨p,h,?_⟩));simp)
theorem AMF{s:List Gau}{x:Ln}(h1:PJ x)(h2:(RA x).passes s):yU s x=true:=by
 unfold yU;rw[aQ.2 h1];exact (ALP h1).2 h2
theorem BFG{f:Rl}{s:List Gau}{t:Int}(hs:∀g∈s,RK g)(ht:0<=t/\t<=2000)(hf:f.ok)(hp:f.passes s):∃y∈VP s t,PJ y/\((RA y).num t<=0∨(RA y).num t*f.w<=f.num t*(RA y).w):=by
 by_cases hne:s=[]
 ·subst hne
  have ho:PJ (BT ⟨t,0⟩):=eQ ⟨ht.1,ht.2,by show (0:Int)<=0;omega,by show (0:Int)<=200000;omega⟩
  refine⟨BT ⟨t,0⟩,(xC (λh=>(h rfl).elim)).2 (.inr (List.mem_filter.2 ⟨BZO (.inl rfl),AMF ho (λg hg=>by cases hg)⟩)),ho,.inl ?_⟩
  rw[(ALI _ _).1,Int.zero_mul];exact Int.le_refl _
 ·have hfl:=BUJ hs hf hp hne
  obtain⟨g,hg,h1,h2⟩:=ANM hf hp hne
  have hm:∀y∈SQ s,y∈VP s t:=λy hy=>(xC (λ_=>hfl)).2 (.inl hy)
  by_cases hat:g.st<=t
  ·obtain⟨y,y1,y2,y3,y4,y5⟩:=vN hs (C7 hg) hf.1 hf.2 h1
   refine⟨y,hm y y1,y2,.inr ?_⟩
   have hw:=(MM y2).1
   have a1:=Int.mul_le_mul_of_nonneg_right y5 (show 0<=t-g.st by omega)
   have a2:=Int.mul_le_mul_of_nonneg_right (h2 t) (Int.le_of_lt hw)
   have e1:(RA y).num t=g.lo*(RA y).w+(RA y).q*(t-g.st):=by unfold Rl.num at *;grind
   rw[e1];grind
  ·by_cases ho:∃h∈s,h.st≠g.st
   ·obtain⟨y,y1,y2,y3,y4,y5⟩:=BLE hs (C7 hg) hf.1 hf.2 h1 ho
    refine⟨y,hm y y1,y2,.inr ?_⟩
    have hw:=(MM y2).1
    have a1:=Int.mul_le_mul_of_nonneg_right y5 (show 0<=g.st-t by omega)
    have a2:=Int.mul_le_mul_of_nonneg_right (h2 t) (Int.le_of_lt hw)
    have e1:(RA y).num t=g.lo*(RA y).w+(RA y).q*(t-g.st):=by unfold Rl.num at *;grind
    rw[e1];grind
   ·have hall:∀h∈s,h.st=g.st:=λh hh=>Classical.byContradiction λhc=>ho ⟨h,hh,hc⟩
    have og:=hs g hg
    have hk:PJ (nG ⟨t,0⟩ ⟨g.st,g.lo⟩):=⟨ht.1,by show t<g.st;omega,og.2.1,Int.le_refl _,og.2.2.1,by show g.lo<=200000;have:=og.2.2.2;omega⟩
    refine⟨_,(xC (λ_=>hfl)).2 (.inr (List.mem_filter.2 ⟨(BTO (C7 hg)).1,AMF hk (λh hh=>?_)⟩)),hk,.inl ?_⟩
    ·obtain⟨b1,b2⟩:=(Sd.1 (h1 h hh)).2.2 (hall h hh)
     have c1:=eJ hf.1 b1
     have c2:=eJ hf.1 b2
     unfold Rl.pass
     rw[AEF,hall h hh]
     have hw:0<g.st-t:=by omega
     have e:(RA (nG ⟨t,0⟩ ⟨g.st,g.lo⟩)).w=g.st-t:=rfl
     rw[e]
     have d1:=Int.mul_le_mul_of_nonneg_right c1 (Int.le_of_lt hw)
     have d2:=Int.mul_le_mul_of_nonneg_right c2 (Int.le_of_lt hw)
     constructor<;>simp only[Int.zero_mul,Int.zero_add,Int.sub_zero]<;>omega
    ·rw[AEF];simp
theorem BQH{f:Rl}{s:List Gau}{t:Int}(hs:∀g∈s,RK g)(ht:0<=t/\t<=2000)(hf:f.ok)(hp:f.passes s):∃y∈VP s t,PJ y/\(200000*(RA y).w<=(RA y).num t∨f.num t*(RA y).w<=(RA y).num t*f.w):=by
 by_cases hne:s=[]
 ·subst hne
  have ho:PJ (BT ⟨t,200000⟩):=eQ ⟨ht.1,ht.2,by show (0:Int)<=200000;omega,by show (200000:Int)<=200000;omega⟩
  refine⟨BT ⟨t,200000⟩,(xC (λh=>(h rfl).elim)).2 (.inr (List.mem_filter.2 ⟨BZO (.inr rfl),AMF ho (λg hg=>by cases hg)⟩)),ho,.inl ?_⟩
  rw[(ALI _ _).1];exact Int.le_refl _
 ·have hfl:=BUJ hs hf hp hne
  obtain⟨g,hg,h1,h2⟩:=BUE hf hp hne
  have hm:∀y∈SQ s,y∈VP s t:=λy hy=>(xC (λ_=>hfl)).2 (.inl hy)
  by_cases hat:t<=g.st
  ·obtain⟨y,y1,y2,y3,y4,y5⟩:=vN hs (AQX hg) hf.1 hf.2 h1
   refine⟨y,hm y y1,y2,.inr ?_⟩
   have hw:=(MM y2).1
   have a1:=Int.mul_le_mul_of_nonneg_right y5 (show 0<=g.st-t by omega)
   have a2:=Int.mul_le_mul_of_nonneg_right (h2 t) (Int.le_of_lt hw)
   have e1:(RA y).num t=g.hi*(RA y).w+(RA y).q*(t-g.st):=by unfold Rl.num at *;grind
   rw[e1];grind
  ·by_cases ho:∃h∈s,h.st≠g.st
   ·obtain⟨y,y1,y2,y3,y4,y5⟩:=BLE hs (AQX hg) hf.1 hf.2 h1 ho
    refine⟨y,hm y y1,y2,.inr ?_⟩
    have hw:=(MM y2).1
    have a1:=Int.mul_le_mul_of_nonneg_right y5 (show 0<=t-g.st by omega)
    have a2:=Int.mul_le_mul_of_nonneg_right (h2 t) (Int.le_of_lt hw)
    have e1:(RA y).num t=g.hi*(RA y).w+(RA y).q*(t-g.st):=by unfold Rl.num at *;grind
    rw[e1];grind
   ·have hall:∀h∈s,h.st=g.st:=λh hh=>Classical.byContradiction λhc=>ho ⟨h,hh,hc⟩
    have og:=hs g hg
    have hk:PJ (nG ⟨g.st,g.hi⟩ ⟨t,200000⟩):=⟨og.1,by show g.st<t;omega,ht.2,by show 0<=g.hi;have:=og.2.2;omega,og.2.2.2.2,by show (200000:Int)<=200000;omega⟩
    refine⟨_,(xC (λ_=>hfl)).2 (.inr (List.mem_filter.2 ⟨(BTO (AQX hg)).2,AMF hk (λh hh=>?_)⟩)),hk,.inl ?_⟩
    ·obtain⟨b1,b2⟩:=(Sd.1 (h1 h hh)).2.2 (hall h hh)
     have c1:=eJ hf.1 b1
     have c2:=eJ hf.1 b2
     unfold Rl.pass
     rw[AEF,hall h hh]
     have hw:0<t-g.st:=by omega
     have e:(RA (nG ⟨g.st,g.hi⟩ ⟨t,200000⟩)).w=t-g.st:=rfl
     rw[e]
     have d1:=Int.mul_le_mul_of_nonneg_right c1 (Int.le_of_lt hw)
     have d2:=Int.mul_le_mul_of_nonneg_right c2 (Int.le_of_lt hw)
     constructor<;>simp only[Int.sub_self,Int.mul_zero,Int.add_zero]<;>omega
    ·rw[AEF]
     show 200000*(t-g.st)<=g.hi*(t-g.st)+(200000-g.hi)*(t-g.st)
     grind
end Go.Bal
