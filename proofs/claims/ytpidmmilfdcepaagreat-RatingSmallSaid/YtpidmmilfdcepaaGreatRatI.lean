/- Package rating: bounds of a flow. -/
import Derived.Test.YtpidmmilfdcepaaGreatRatH
set_option linter.unusedVariables false
set_option linter.unusedSimpArgs false
namespace Go.Bal
open Go Go.Sym Go.Proofs
def bndM(l:List Ln)(t:Int):Bnd:=bif decide (l.length=0) then default else⟨JF (Es jX t l) t,JF (Es jY t l) t⟩
def dBkt:List AVal->Heap->Option (BkT×List (Nat×Nat)×List Nat)
 |[.bptr id _,.d t],H=>match ARU H id with
  |some (w,q)=>some (⟨w,EG t⟩,[(100,id),(101,q)],[])
  |none=>none
 |_,_=>none
def C_bnd:Ctr:={ ro:=[100],α:=BkT,xs:=λa=>[.bptr 100 0,.int a.st],L:=λa=>bkL a.w,val:=λa=>.tup [.d (eBnd (bndM (lB a) a.st)),.bool (decide ((lB a).length≠0))],keep:=λa=>bkK (C3 a.w (kB a)),pre:=λa=>[US a.w.g a.w.b/\0<=a.st/\a.st<=2000] }
def CQN:Ann:={ ann 36 [(85,C_less.spec d0),(86,C_more.spec d0),(87,orS ((Da jX 120).spec (dBkT 120)) ((Da jY 121).spec (dBkT 121))),(61,BKI)] with E:=[100,101] }
def COP(a:BkT):Prop:=AS ZP CQN Tryz.f83 (AE Tryz.f83) (C_bnd.xs a) (AB (C_bnd.L a)) (C_bnd.val a) (C_bnd.keep a) [] []
abbrev Uk a b c:=HZ (not a) b c
abbrev CES a b:=BXI a (BkT.mk a b)
abbrev BJH a b:=CES a (VY b)
abbrev Ik a:=BJH (VB a) a
abbrev Ls a:=CBF (Ju a) (BV a) a (Ik a) (Ik a)
abbrev WH a:=BJH (Ls a) a
abbrev CCC a b:=lB (BkT.mk a b)
abbrev vV a b:=CCC a (VY b)
abbrev oQ a b:=bndM (lB a) (VY b)
abbrev wX a b:=vV (VB a) b
attribute [go_sem] Uk CES BJH Ik Ls WH CCC vV oQ wX
theorem CWS(a:BkT):(COP a)=(AO (DY (Pn a) (kJ (Ju a) (BV a)) (mS (Ju a) (BV a)) (OL (ON a) (BV a)) (OX (ON a) (BV a)) CZ (VO (BV a)) (Jf (MU (BV a)) (λi=>DI (VB a) i (BV a) (λj=>CP j (VB a) i (BV a) (CE (BA (VB a) i j) (BA (BV a) i j) (BE (VB a) i j) (BE (BV a) i j) (VB a) i j (BZ (BV a) i j)))) (JJ (BV a) (Ik a)) (JK (BV a) (Ik a)) (JI (BV a) (Ik a)) (JM (BV a) (Ik a)) (AFR (kW (Ju a)) (Ju a) (ON a) OB) (VY a))) (DY (Pn a) (kJ (Ju a) (BV a)) (mS (Ju a) (BV a)) (OL (ON a) (BV a)) (OX (ON a) (BV a)) CZ (VO (Ik a)) (Jf (MU (Ik a)) (λi=>DI (Ls a) i (Ik a) (λj=>CP j (Ls a) i (Ik a) (CE (BA (Ls a) i j) (BA (Ik a) i j) (BE (Ls a) i j) (BE (Ik a) i j) (Ls a) i j (BZ (Ik a) i j)))) (JJ (BV a) (WH a)) (JK (BV a) (WH a)) (JI (BV a) (WH a)) (JM (BV a) (WH a)) (AFR (kW (Ju a)) (Ju a) (ON a) OB) (VY a))) (Uk (Z3 (CO (wX a a))) (Rn (MV (oQ a a)) (OO (oQ a a)) (NS (oQ a a)) (NT (oQ a a)) (Tg (KU (T5 a)) (JJ (BI a) (BV a)) (JK (BI a) (BV a)) (JI (BI a) (BV a)) (JM (BI a) (BV a)) CZ (λi=>Sb (BI a) i (WH a)) (LA (BI a) (WH a)) (EL (λi=>DI (BI a) i (WH a) (λj=>CP j (BI a) i (WH a) (CE (BA (BI a) i j) (BA (WH a) i j) (Mk a i j) (BE (WH a) i j) (BI a) i j (BZ (WH a) i j))))))) (AW (AR (HX (uI (CO (wX a a)) jX a (wX a a))) (UW (VY a)) (HX (uI (CO (vV (Ls a) a)) jY a (vV (Ls a) a))) (FJ (VY a)) (VF (VY a))) (BM (MV (oQ a a)) (MH (qP (uI (CO (wX a a)) jX a (wX a a)) a))) (BM (OO (oQ a a)) (QA (qP (uI (CO (wX a a)) jX a (wX a a)) a))) (BM (NS (oQ a a)) (MH (qP (uI (CO (vV (Ls a) a)) jY a (vV (Ls a) a)) a))) (BM (NT (oQ a a)) (QA (qP (uI (CO (vV (Ls a) a)) jY a (vV (Ls a) a)) a))) (Tg (IN (T5 a)) (JJ (BI a) (BV a)) (JK (BI a) (BV a)) (JI (BI a) (BV a)) (JM (BI a) (BV a)) CZ (λi=>Sb (BI a) i (WH a)) (LA (BI a) (WH a)) (EL (λi=>DI (BI a) i (WH a) (λj=>CP j (BI a) i (WH a) (CE (BA (BI a) i j) (BA (WH a) i j) (Mk a i j) (BE (WH a) i j) (BI a) i j (BZ (WH a) i j))))))))):=by kernel_rfl
theorem BUI(w:Bk)(k:Int):C3 (C3 w k) k=C3 w k:=bA (by show WA w.has k k=true;simp[WA])
theorem Fh(a:BkT):BkT.mk a.w a.st=a:=rfl
theorem Fe(w:Bk)(k:Int):Bk.mk w.g w.b (C3 w k).has (C3 w k).st=C3 w k:=rfl
theorem sK(w:Bk)(k:Int):(C3 w k).g=w.g:=rfl
theorem sJ(w:Bk)(k:Int):(C3 w k).b=w.b:=rfl
theorem DBT(a:BkT)(k:Int):kB ⟨C3 a.w k,a.st⟩=kB a:=rfl
theorem CZQ(a:BkT)(k:Int):lB ⟨C3 a.w k,a.st⟩=lB a:=rfl
theorem DCH(a:BkT)(h:US a.w.g a.w.b)(h2:0<=a.st/\a.st<=2000):COP a:=by
 rw[CWS]<;> dsimp only[go_sem];simp only[CC,CU,XS,Fe,sK,sJ,Fh,DBT,CZQ,BUI,if_true]
 obtain⟨_,hok⟩:=BWG h
 unfold bndM
 refine⟨⟨h,h2⟩,⟨h,h2⟩,λhc=>?_,λhc=>?_⟩
 ·rw[decide_eq_true (show (lB a).length=0 by omega)]
  exact⟨rfl,rfl,rfl,rfl,hc⟩
 ·rw[decide_eq_false hc]
  have hb:∀lt,MI (Es lt a.st (lB a)):=λlt=>AEJ ▸ APM hok (by omega)
  exact⟨⟨hb _,h2,hb _,h2⟩,rfl,rfl,rfl,rfl,hc⟩
theorem oO:AH ZP 83 (C_bnd.spec dBkt):=PW C_bnd (λ_=>CQN) [] [] Tryz.func83 (λ_=>by kernel_rfl) (λ_=>AA AKK (AA F9 (AA (pR ACJ ACD) (AA BBP AD)))) (λ(a:BkT) h=>by
 have h:US a.w.g a.w.b/\0<=a.st/\a.st<=2000:=h
 exact DCH a h.1 h.2) (λ_=>RA rfl rfl) _
structure Rl where
 p:Int
 q:Int
 w:Int
def Rl.num(f:Rl)(u:Int):Int:=f.p+f.q*u
def Rl.ok(f:Rl):Prop:=0<f.w/\0<=f.q
def Rl.pass(f:Rl)(g:Gau):Prop:=g.lo*f.w<=f.num g.st/\f.num g.st<=g.hi*f.w
def Rl.passes(f:Rl)(s:List Gau):Prop:=∀g∈s,f.pass g
def HM(x:Ln):Rl:=⟨x.a1*(x.b0-x.a0)-(x.b1-x.a1)*x.a0,x.b1-x.a1,x.b0-x.a0⟩
theorem EM{x:Ln}(h:MI x):(HM x).ok:=by
 obtain⟨h1,h2,h3,h4,h5,h6⟩:=h
 exact⟨by show 0<x.b0-x.a0;omega,by show 0<=x.b1-x.a1;omega⟩
theorem AXY(x:Ln)(t:Int):(HM x).num t=x.a1*(x.b0-x.a0)+(x.b1-x.a1)*(t-x.a0):=by
 show x.a1*(x.b0-x.a0)-(x.b1-x.a1)*x.a0+(x.b1-x.a1)*t=_
 grind
theorem AJU(x:Ln)(t:Int):Ct x t=El ((HM x).num t) (HM x).w:=by rw[AXY];rfl
theorem fH{a b c:Int}(hc:0<c)(h:a*c<=b*c):a<=b:=Int.le_of_mul_le_mul_right h hc
theorem B5{x:Ln}{g:Gau}(h:MI x):NJ x g=true↔(HM x).pass g:=by
 have hw:=(EM h).1
 have hv:=jU (n:=(HM x).num g.st) hw
 have hd:=(U4 (n:=(HM x).num g.st) hw).1
 unfold NJ Rl.pass
 rw[AJU]
 generalize El ((HM x).num g.st) (HM x).w=r at *
 generalize (HM x).num g.st=N at *
 generalize (HM x).w=W at *
 rw[Bool.and_eq_true,decide_eq_true_eq,decide_eq_true_eq]
 constructor
 ·rintro⟨h1,h2⟩
  have a1:=Int.mul_le_mul_of_nonneg_right h1 (Int.le_of_lt hw)
  have a2:=Int.mul_le_mul_of_nonneg_right h2 (Int.le_of_lt hw)
  constructor
  ·refine Int.le_of_mul_le_mul_right (a:=r.d) ?_ hd;grind
  ·refine Int.le_of_mul_le_mul_right (a:=r.d) ?_ hd;grind
 ·rintro⟨h1,h2⟩
  have a1:=Int.mul_le_mul_of_nonneg_right h1 (Int.le_of_lt hd)
  have a2:=Int.mul_le_mul_of_nonneg_right h2 (Int.le_of_lt hd)
  constructor
  ·refine Int.le_of_mul_le_mul_right (a:=W) ?_ hw;grind
  ·refine Int.le_of_mul_le_mul_right (a:=W) ?_ hw;grind
theorem AJT{x:Ln}{s:List Gau}(h:MI x):Lh s x=true↔(HM x).passes s:=by
 unfold Lh Rl.passes
 rw[List.all_eq_true]
 exact⟨λa g hg=>(B5 h).1 (a g hg),λa g hg=>(B5 h).2 (a g hg)⟩
def okS(a v m e:Int)(g:Gau):Prop:=g.lo*e<=v*e+m*(g.st-a)/\v*e+m*(g.st-a)<=g.hi*e
theorem CDE{f:Rl}{a v m e:Int}{g:Gau}(he:0<e)(h1:f.num a=v*f.w)(h2:f.q*e=m*f.w)(hw:0<f.w)(h:okS a v m e g):f.pass g:=by
 obtain⟨h3,h4⟩:=h
 have a1:=Int.mul_le_mul_of_nonneg_right h3 (Int.le_of_lt hw)
 have a2:=Int.mul_le_mul_of_nonneg_right h4 (Int.le_of_lt hw)
 have e1:f.num g.st=v*f.w+f.q*(g.st-a):=by unfold Rl.num at *;grind
 have e2:f.q*(g.st-a)*e=m*f.w*(g.st-a):=by grind
 constructor
 ·refine Int.le_of_mul_le_mul_right (a:=e) ?_ he;rw[e1];grind
 ·refine Int.le_of_mul_le_mul_right (a:=e) ?_ he;rw[e1];grind
structure Sl where
 m:Int
 e:Int
theorem BMY:∀(l:List Sl),l≠[]->(∀x∈l,0<x.e)->∃x∈l,∀y∈l,y.m*x.e<=x.m*y.e
 |[],h,_=>(h rfl).elim
 |[x],_,_=>⟨x,List.mem_singleton.2 rfl,λy hy=>by rw[List.mem_singleton.1 hy];exact Int.le_refl _⟩
 |x :: z :: l,_,h=>by
  obtain⟨b,hb,hm⟩:=BMY (z :: l) (by simp) (λy hy=>h y (List.mem_cons_of_mem _ hy))
  have hx:=h x (List.mem_cons_self ..)
  have hbe:=h b (List.mem_cons_of_mem _ hb)
  rcases Int.le_total (x.m*b.e) (b.m*x.e) with hc | hc
  ·refine⟨b,List.mem_cons_of_mem _ hb,λy hy=>?_⟩
   rcases List.mem_cons.1 hy with rfl | hy
   ·exact hc
   ·exact hm y hy
  ·refine⟨x,List.mem_cons_self ..,λy hy=>?_⟩
   rcases List.mem_cons.1 hy with rfl | hy
   ·exact Int.le_refl _
   ·have hye:=h y (List.mem_cons_of_mem _ hy)
    have a1:=Int.mul_le_mul_of_nonneg_right (hm y hy) (Int.le_of_lt hx)
    have a2:=Int.mul_le_mul_of_nonneg_right hc (Int.le_of_lt hye)
    refine Int.le_of_mul_le_mul_right (a:=b.e) ?_ hbe
    grind
theorem AZH(δ:Gau->Int):∀(s:List Gau),s≠[]->∃g∈s,∀h∈s,δ g<=δ h
 |[],h=>(h rfl).elim
 |[x],_=>⟨x,List.mem_singleton.2 rfl,λy hy=>by rw[List.mem_singleton.1 hy];exact Int.le_refl _⟩
 |x :: z :: l,_=>by
  obtain⟨b,hb,hm⟩:=AZH δ (z :: l) (by simp)
  rcases Int.le_total (δ x) (δ b) with hc | hc
  ·refine⟨x,List.mem_cons_self ..,λy hy=>?_⟩
   rcases List.mem_cons.1 hy with rfl | hy
   ·exact Int.le_refl _
   ·exact Int.le_trans hc (hm y hy)
  ·refine⟨b,List.mem_cons_of_mem _ hb,λy hy=>?_⟩
   rcases List.mem_cons.1 hy with rfl | hy
   ·exact hc
   ·exact hm y hy
theorem ALO{f:Rl}{s:List Gau}(hf:f.ok)(hs:f.passes s)(hne:s≠[]):∃g∈s,(∀h∈s,okS g.st g.lo f.q f.w h)/\∀u,g.lo*f.w+f.q*(u-g.st)<=f.num u:=by
 obtain⟨g,hg,hm⟩:=AZH (λg=>f.num g.st-g.lo*f.w) s hne
 refine⟨g,hg,λh hh=>?_,λu=>?_⟩
 ·have h1:=hm h hh
  obtain⟨h2,h3⟩:=hs h hh
  obtain⟨h4,h5⟩:=hs g hg
  unfold Rl.num at *
  constructor<;>grind
 ·obtain⟨h4,h5⟩:=hs g hg
  unfold Rl.num at *
  grind
theorem CBC{f:Rl}{s:List Gau}(hf:f.ok)(hs:f.passes s)(hne:s≠[]):∃g∈s,(∀h∈s,okS g.st g.hi f.q f.w h)/\∀u,f.num u<=g.hi*f.w+f.q*(u-g.st):=by
 obtain⟨g,hg,hm⟩:=AZH (λg=>g.hi*f.w-f.num g.st) s hne
 refine⟨g,hg,λh hh=>?_,λu=>?_⟩
 ·have h1:=hm h hh
  obtain⟨h2,h3⟩:=hs h hh
  obtain⟨h4,h5⟩:=hs g hg
  unfold Rl.num at *
  constructor<;>grind
 ·obtain⟨h4,h5⟩:=hs g hg
  unfold Rl.num at *
  grind
def ATZ(s:List Gau)(a v m e:Int):Prop:=∃y∈Lf s,MI y/\(HM y).num a=v*(HM y).w/\(HM y).q*e=m*(HM y).w
theorem CDW{s:List Gau}{p:Pt}(h:p∈AC s):QB p∈Lf s:=by
 unfold Lf blk;exact List.mem_flatMap.2 ⟨p,h,List.mem_cons_self ..⟩
theorem BSI{s:List Gau}{p q:Pt}(h:p∈AC s)(h2:q∈AC s)(h3:MI (pI p q)):pI p q∈Lf s:=by
 unfold Lf blk
 exact List.mem_flatMap.2 ⟨p,h,List.mem_cons_of_mem _ (List.mem_filter.2 ⟨List.mem_map.2 ⟨q,h2,rfl⟩,aI.2 h3⟩)⟩
theorem J7{s:List Gau}{g:Gau}(h:g∈s):(⟨g.st,g.lo⟩:Pt)∈AC s:=ALJ.2 ⟨g,h,.inl rfl⟩
theorem AOY{s:List Gau}{g:Gau}(h:g∈s):(⟨g.st,g.hi⟩:Pt)∈AC s:=ALJ.2 ⟨g,h,.inr rfl⟩
theorem AKN(p:Pt)(u:Int):(HM (QB p)).num u=p.fl*(HM (QB p)).w/\(HM (QB p)).q=0:=by
 rw[AXY]
 unfold QB;split<;>(simp only[HM];constructor<;>grind)
theorem BYK{s:List Gau}(hs:∀g∈s,IT g){a v:Int}(h:(⟨a,v⟩:Pt)∈AC s):ATZ s a v 0 1:=by
 refine⟨_,CDW h,eG (bS hs h),(AKN _ _).1,?_⟩
 rw[(AKN ⟨a,v⟩ 0).2];omega
theorem AET(p q:Pt)(u:Int):(HM (pI p q)).num u=p.fl*(q.st-p.st)+(q.fl-p.fl)*(u-p.st):=by rw[AXY];rfl
theorem AQL{s:List Gau}(hs:∀g∈s,IT g){a v b z:Int}(h:(⟨a,v⟩:Pt)∈AC s)(h2:(⟨b,z⟩:Pt)∈AC s)(hab:a<b)(hvz:v<=z):ATZ s a v (z-v) (b-a):=by
 have o1:=bS hs h
 have o2:=bS hs h2
 have hl:MI (pI ⟨a,v⟩ ⟨b,z⟩):=⟨o1.1,hab,o2.2.1,o1.2.2.1,hvz,o2.2.2.2⟩
 exact⟨_,BSI h h2 hl,hl,by rw[AET];simp[HM,pI],by simp[HM,pI]⟩
theorem ATY{s:List Gau}(hs:∀g∈s,IT g){a v b z:Int}(h:(⟨a,v⟩:Pt)∈AC s)(h2:(⟨b,z⟩:Pt)∈AC s)(hab:b<a)(hvz:z<=v):ATZ s a v (v-z) (a-b):=by
 have o1:=bS hs h
 have o2:=bS hs h2
 have hl:MI (pI ⟨b,z⟩ ⟨a,v⟩):=⟨o2.1,hab,o1.2.1,o2.2.2.1,hvz,o1.2.2.2⟩
 exact⟨_,BSI h2 h hl,hl,by rw[AET];simp only[HM,pI];grind,by simp[HM,pI]⟩
theorem ASZ{s:List Gau}{a v m e:Int}(he:0<e)(h:ATZ s a v m e)(hp:∀g∈s,okS a v m e g):∃y∈bG s,MI y/\(HM y).passes s/\(HM y).num a=v*(HM y).w/\(HM y).q*e=m*(HM y).w:=by
 obtain⟨y,h1,h2,h3,h4⟩:=h
 have hy:(HM y).passes s:=λg hg=>CDE he h3 h4 (EM h2).1 (hp g hg)
 exact⟨y,List.mem_filter.2 ⟨h1,(AJT h2).2 hy⟩,h2,hy,h3,h4⟩
def loSl(a v:Int)(g:Gau):List Sl:=if a<g.st then [⟨g.lo-v,g.st-a⟩] else if g.st<a then [⟨v-g.hi,a-g.st⟩] else []
def upSl(a v:Int)(g:Gau):List Sl:=if a<g.st then [⟨g.hi-v,g.st-a⟩] else if g.st<a then [⟨v-g.lo,a-g.st⟩] else []
theorem Pr{a v m e:Int}{g:Gau}:okS a v m e g↔(∀x∈loSl a v g,x.m*e<=m*x.e)/\(∀x∈upSl a v g,m*x.e<=x.m*e)/\(g.st=a->g.lo*e<=v*e/\v*e<=g.hi*e):=by
 unfold okS loSl upSl
 by_cases h1:a<g.st
 ·simp only[h1,if_true,List.mem_singleton,forall_eq]
  constructor
  ·intro h;refine⟨by grind,by grind,by omega⟩
  ·intro h;constructor<;>grind
 ·by_cases h2:g.st<a
  ·simp only[h1,h2,if_true,if_false,List.mem_singleton,forall_eq]
   constructor
   ·intro h;refine⟨by grind,by grind,by omega⟩
   ·intro h;constructor<;>grind
  ·have:g.st=a:=by omega
   simp only[h1,h2,if_false,List.not_mem_nil,false_imp_iff,implies_true,true_and]
   rw[this,Int.sub_self,Int.mul_zero,Int.add_zero]
   simp
theorem BKA{a v:Int}{g:Gau}{x:Sl}(h:x∈loSl a v g):0<x.e:=by
 unfold loSl at h;split at h
 ·rw[List.mem_singleton.1 h];show 0<g.st-a;omega
 ·split at h
  ·rw[List.mem_singleton.1 h];show 0<a-g.st;omega
  ·cases h
theorem BIC{a v:Int}{g:Gau}{x:Sl}(h:x∈upSl a v g):0<x.e:=by
 unfold upSl at h;split at h
 ·rw[List.mem_singleton.1 h];show 0<g.st-a;omega
 ·split at h
  ·rw[List.mem_singleton.1 h];show 0<a-g.st;omega
  ·cases h
theorem ACK{a b c d e f:Int}(hd:0<d)(h1:a*d<=c*b)(h2:c*f<=e*d)(hb:0<=b)(hf:0<=f):a*f<=e*b:=by
 have h3:=Int.mul_le_mul_of_nonneg_right h1 hf
 have h4:=Int.mul_le_mul_of_nonneg_right h2 hb
 refine Int.le_of_mul_le_mul_right (a:=d) ?_ hd
 grind
theorem A9{s:List Gau}(hs:∀g∈s,IT g){a v n d:Int}(hp:(⟨a,v⟩:Pt)∈AC s)(hd:0<d)(hn:0<=n)(h:∀g∈s,okS a v n d g):∃y∈bG s,MI y/\(HM y).passes s/\(HM y).num a=v*(HM y).w/\(HM y).q*d<=n*(HM y).w:=by
 obtain⟨x,hx,hm⟩:=BMY (⟨0,1⟩ :: s.flatMap (loSl a v)) (by simp) (λy hy=>by
  rcases List.mem_cons.1 hy with rfl | hy
  ·exact Int.one_pos
  ·obtain⟨g,_,hg⟩:=List.mem_flatMap.1 hy;exact BKA hg)
 have hxe:0<x.e:=by
  rcases List.mem_cons.1 hx with rfl | hy
  ·exact Int.one_pos
  ·obtain⟨g,_,hg⟩:=List.mem_flatMap.1 hy;exact BKA hg
 have hxm:0<=x.m:=by have:=hm ⟨0,1⟩ (List.mem_cons_self ..);simp at this;omega
 have hle:x.m*d<=n*x.e:=by
  rcases List.mem_cons.1 hx with rfl | hy
  ·simp;exact hn
  ·obtain⟨g,hg,hgx⟩:=List.mem_flatMap.1 hy;exact (Pr.1 (h g hg)).1 _ hgx
 have hok:∀g∈s,okS a v x.m x.e g:=λg hg=>Pr.2 ⟨λy hy=>hm y (List.mem_cons_of_mem _ (List.mem_flatMap.2 ⟨g,hg,hy⟩)),λy hy=>ACK hd hle ((Pr.1 (h g hg)).2.1 y hy) (Int.le_of_lt hxe) (Int.le_of_lt (BIC hy)),λhe=>by
  obtain⟨h1,h2⟩:=(Pr.1 (h g hg)).2.2 he
  exact⟨Int.mul_le_mul_of_nonneg_right (fH hd h1) (Int.le_of_lt hxe),Int.mul_le_mul_of_nonneg_right (fH hd h2) (Int.le_of_lt hxe)⟩⟩
 have hc:ATZ s a v x.m x.e:=by
  rcases List.mem_cons.1 hx with rfl | hy
  ·exact BYK hs hp
  ·obtain⟨g,hg,hgx⟩:=List.mem_flatMap.1 hy
   unfold loSl at hgx
   split at hgx
   ·rename_i hlt
    have:=List.mem_singleton.1 hgx
    subst this
    exact AQL hs hp (J7 hg) hlt (by have:0<=g.lo-v:=hxm;omega)
   ·split at hgx
    ·rename_i hlt
     have:=List.mem_singleton.1 hgx
     subst this
     exact ATY hs hp (AOY hg) hlt (by have:0<=v-g.hi:=hxm;omega)
    ·cases hgx
 obtain⟨y,y1,y2,y3,y4,y5⟩:=ASZ hxe hc hok
 refine⟨y,y1,y2,y3,y4,?_⟩
 have hw:=(EM y2).1
 exact ACK hxe (by rw[y5];exact Int.le_refl _) hle (Int.le_of_lt hw) (Int.le_of_lt hd)
theorem BTR{s:List Gau}(hs:∀g∈s,IT g){a v n d:Int}(hp:(⟨a,v⟩:Pt)∈AC s)(hd:0<d)(hn:0<=n)(h:∀g∈s,okS a v n d g)(ho:∃g∈s,g.st≠a):∃y∈bG s,MI y/\(HM y).passes s/\(HM y).num a=v*(HM y).w/\n*(HM y).w<=(HM y).q*d:=by
 obtain⟨x,hx,hm⟩:=BMY ((s.flatMap (upSl a v)).map λz=>⟨-z.m,z.e⟩) (by
  obtain⟨g,hg,hne⟩:=ho
  intro he
  have he:=List.map_eq_nil_iff.1 he
  have:upSl a v g=[]:=by
   have:=List.flatMap_eq_nil_iff.1 he g hg;exact this
  unfold upSl at this
  by_cases h1:a<g.st
  ·rw[if_pos h1] at this;cases this
  ·rw[if_neg h1,if_pos (by omega)] at this;cases this) (λy hy=>by
  obtain⟨z,hz,rfl⟩:=List.mem_map.1 hy
  obtain⟨g,_,hg⟩:=List.mem_flatMap.1 hz;exact BIC (x:=z) hg)
 obtain⟨z,hz,rfl⟩:=List.mem_map.1 hx
 obtain⟨g0,hg0,hgz⟩:=List.mem_flatMap.1 hz
 have hze:0<z.e:=BIC hgz
 have hmz:∀g∈s,∀y∈upSl a v g,z.m*y.e<=y.m*z.e:=λg hg y hy=>by
  have:=hm ⟨-y.m,y.e⟩ (List.mem_map.2 ⟨y,List.mem_flatMap.2 ⟨g,hg,hy⟩,rfl⟩)
  simp only[Int.neg_mul] at this;omega
 have hle:n*z.e<=z.m*d:=(Pr.1 (h g0 hg0)).2.1 _ hgz
 have hzm:0<=z.m:=by
  have h1:=Int.mul_nonneg hn (Int.le_of_lt hze)
  exact fH hd (by rw[Int.zero_mul];omega)
 have hok:∀g∈s,okS a v z.m z.e g:=λg hg=>Pr.2 ⟨λy hy=>ACK hd ((Pr.1 (h g hg)).1 y hy) hle (Int.le_of_lt (BKA hy)) (Int.le_of_lt hze),λy hy=>hmz g hg y hy,λhe=>by
  obtain⟨h1,h2⟩:=(Pr.1 (h g hg)).2.2 he
  exact⟨Int.mul_le_mul_of_nonneg_right (fH hd h1) (Int.le_of_lt hze),Int.mul_le_mul_of_nonneg_right (fH hd h2) (Int.le_of_lt hze)⟩⟩
 have hc:ATZ s a v z.m z.e:=by
  unfold upSl at hgz
  split at hgz
  ·rename_i hlt
   have:=List.mem_singleton.1 hgz
   subst this
   exact AQL hs hp (AOY hg0) hlt (by have:0<=g0.hi-v:=hzm;omega)
  ·split at hgz
   ·rename_i hlt
    have:=List.mem_singleton.1 hgz
    subst this
    exact ATY hs hp (J7 hg0) hlt (by have:0<=v-g0.lo:=hzm;omega)
   ·cases hgz
 obtain⟨y,y1,y2,y3,y4,y5⟩:=ASZ hze hc hok
 refine⟨y,y1,y2,y3,y4,?_⟩
 have hw:=(EM y2).1
 have:=ACK hze hle (by rw[<-y5];exact Int.le_refl _) (Int.le_of_lt hd) (Int.le_of_lt hw)
 exact this
theorem CCS{f:Rl}{s:List Gau}(hs:∀g∈s,IT g)(hf:f.ok)(hp:f.passes s)(hne:s≠[]):bG s≠[]:=by
 obtain⟨g,hg,h1,_⟩:=ALO hf hp hne
 obtain⟨y,hy,_⟩:=A9 hs (J7 hg) hf.1 hf.2 h1
 intro he;rw[he] at hy;cases hy
theorem E3{s:List Gau}{t:Int}{x:Ln}(h:s≠[]->bG s≠[]):x∈PX s t↔x∈bG s∨x∈(XD s t).filter (okX s):=by
 unfold PX
 have:(bif decide (0<s.length) then decide ((bG s).length=0) else false)=false:=by
  by_cases hn:0<s.length
  ·rw[decide_eq_true hn]
   have:=h (by intro he;rw[he] at hn;cases hn)
   exact decide_eq_false (by intro he;exact this (List.eq_nil_of_length_eq_zero he))
  ·rw[decide_eq_false hn];rfl
 rw[this]
 exact List.mem_append
theorem UT{s:List Gau}{t:Int}(hs:∀g∈s,IT g){x:Ln}(hx:x∈PX s t):MI x/\(HM x).passes s:=by
 have hok:=CAN hs x hx
 refine⟨hok,(AJT hok).1 ?_⟩
 rw[Q5] at hx
 revert hx
 cases (bif decide ((s.length:Int)>0) then ((bG s).length:Int)==0 else false) with
 |true=>intro hx;cases hx
 |false=>
  intro hx
  rcases List.mem_append.1 hx with hx | hx
  ·exact (List.mem_filter.1 hx).2
  ·have:=(List.mem_filter.1 hx).2
   unfold okX at this
   cases hr:Kv x with
   |true=>rw[hr] at this;exact this
   |false=>rw[hr] at this;cases this
theorem BZV{s:List Gau}{t v:Int}(h:v=0∨v=200000):QB ⟨t,v⟩∈XD s t:=by
 unfold XD moB
 rcases h with rfl | rfl<;>simp
theorem CBJ{s:List Gau}{t:Int}{p:Pt}(h:p∈AC s):pI ⟨t,0⟩ p∈XD s t/\pI p ⟨t,200000⟩∈XD s t:=by
 unfold XD
 constructor<;>(refine List.mem_append.2 (.inr (List.mem_flatMap.2 ⟨p,h,?_⟩));simp)
theorem AKH{s:List Gau}{x:Ln}(h1:MI x)(h2:(HM x).passes s):okX s x=true:=by
 unfold okX;rw[aI.2 h1];exact (AJT h1).2 h2
theorem BGV{f:Rl}{s:List Gau}{t:Int}(hs:∀g∈s,IT g)(ht:0<=t/\t<=2000)(hf:f.ok)(hp:f.passes s):∃y∈PX s t,MI y/\((HM y).num t<=0∨(HM y).num t*f.w<=f.num t*(HM y).w):=by
 by_cases hne:s=[]
 ·subst hne
  have ho:MI (QB ⟨t,0⟩):=eG ⟨ht.1,ht.2,by show (0:Int)<=0;omega,by show (0:Int)<=200000;omega⟩
  refine⟨QB ⟨t,0⟩,(E3 (λh=>(h rfl).elim)).2 (.inr (List.mem_filter.2 ⟨BZV (.inl rfl),AKH ho (λg hg=>by cases hg)⟩)),ho,.inl ?_⟩
  rw[(AKN _ _).1,Int.zero_mul];exact Int.le_refl _
 ·have hfl:=CCS hs hf hp hne
  obtain⟨g,hg,h1,h2⟩:=ALO hf hp hne
  have hm:∀y∈bG s,y∈PX s t:=λy hy=>(E3 (λ_=>hfl)).2 (.inl hy)
  by_cases hat:g.st<=t
  ·obtain⟨y,y1,y2,y3,y4,y5⟩:=A9 hs (J7 hg) hf.1 hf.2 h1
   refine⟨y,hm y y1,y2,.inr ?_⟩
   have hw:=(EM y2).1
   have a1:=Int.mul_le_mul_of_nonneg_right y5 (show 0<=t-g.st by omega)
   have a2:=Int.mul_le_mul_of_nonneg_right (h2 t) (Int.le_of_lt hw)
   have e1:(HM y).num t=g.lo*(HM y).w+(HM y).q*(t-g.st):=by unfold Rl.num at *;grind
   rw[e1];grind
  ·by_cases ho:∃h∈s,h.st≠g.st
   ·obtain⟨y,y1,y2,y3,y4,y5⟩:=BTR hs (J7 hg) hf.1 hf.2 h1 ho
    refine⟨y,hm y y1,y2,.inr ?_⟩
    have hw:=(EM y2).1
    have a1:=Int.mul_le_mul_of_nonneg_right y5 (show 0<=g.st-t by omega)
    have a2:=Int.mul_le_mul_of_nonneg_right (h2 t) (Int.le_of_lt hw)
    have e1:(HM y).num t=g.lo*(HM y).w+(HM y).q*(t-g.st):=by unfold Rl.num at *;grind
    rw[e1];grind
   ·have hall:∀h∈s,h.st=g.st:=λh hh=>Classical.byContradiction λhc=>ho ⟨h,hh,hc⟩
    have og:=hs g hg
    have hk:MI (pI ⟨t,0⟩ ⟨g.st,g.lo⟩):=⟨ht.1,by show t<g.st;omega,og.2.1,Int.le_refl _,og.2.2.1,by show g.lo<=200000;have:=og.2.2.2;omega⟩
    refine⟨_,(E3 (λ_=>hfl)).2 (.inr (List.mem_filter.2 ⟨(CBJ (J7 hg)).1,AKH hk (λh hh=>?_)⟩)),hk,.inl ?_⟩
    ·obtain⟨b1,b2⟩:=(Pr.1 (h1 h hh)).2.2 (hall h hh)
     have c1:=fH hf.1 b1
     have c2:=fH hf.1 b2
     unfold Rl.pass
     rw[AET,hall h hh]
     have hw:0<g.st-t:=by omega
     have e:(HM (pI ⟨t,0⟩ ⟨g.st,g.lo⟩)).w=g.st-t:=rfl
     rw[e]
     have d1:=Int.mul_le_mul_of_nonneg_right c1 (Int.le_of_lt hw)
     have d2:=Int.mul_le_mul_of_nonneg_right c2 (Int.le_of_lt hw)
     constructor<;>simp only[Int.zero_mul,Int.zero_add,Int.sub_zero]<;>omega
    ·rw[AET];simp
theorem BVL{f:Rl}{s:List Gau}{t:Int}(hs:∀g∈s,IT g)(ht:0<=t/\t<=2000)(hf:f.ok)(hp:f.passes s):∃y∈PX s t,MI y/\(200000*(HM y).w<=(HM y).num t∨f.num t*(HM y).w<=(HM y).num t*f.w):=by
 by_cases hne:s=[]
 ·subst hne
  have ho:MI (QB ⟨t,200000⟩):=eG ⟨ht.1,ht.2,by show (0:Int)<=200000;omega,by show (200000:Int)<=200000;omega⟩
  refine⟨QB ⟨t,200000⟩,(E3 (λh=>(h rfl).elim)).2 (.inr (List.mem_filter.2 ⟨BZV (.inr rfl),AKH ho (λg hg=>by cases hg)⟩)),ho,.inl ?_⟩
  rw[(AKN _ _).1];exact Int.le_refl _
 ·have hfl:=CCS hs hf hp hne
  obtain⟨g,hg,h1,h2⟩:=CBC hf hp hne
  have hm:∀y∈bG s,y∈PX s t:=λy hy=>(E3 (λ_=>hfl)).2 (.inl hy)
  by_cases hat:t<=g.st
  ·obtain⟨y,y1,y2,y3,y4,y5⟩:=A9 hs (AOY hg) hf.1 hf.2 h1
   refine⟨y,hm y y1,y2,.inr ?_⟩
   have hw:=(EM y2).1
   have a1:=Int.mul_le_mul_of_nonneg_right y5 (show 0<=g.st-t by omega)
   have a2:=Int.mul_le_mul_of_nonneg_right (h2 t) (Int.le_of_lt hw)
   have e1:(HM y).num t=g.hi*(HM y).w+(HM y).q*(t-g.st):=by unfold Rl.num at *;grind
   rw[e1];grind
  ·by_cases ho:∃h∈s,h.st≠g.st
   ·obtain⟨y,y1,y2,y3,y4,y5⟩:=BTR hs (AOY hg) hf.1 hf.2 h1 ho
    refine⟨y,hm y y1,y2,.inr ?_⟩
    have hw:=(EM y2).1
    have a1:=Int.mul_le_mul_of_nonneg_right y5 (show 0<=t-g.st by omega)
    have a2:=Int.mul_le_mul_of_nonneg_right (h2 t) (Int.le_of_lt hw)
    have e1:(HM y).num t=g.hi*(HM y).w+(HM y).q*(t-g.st):=by unfold Rl.num at *;grind
    rw[e1];grind
   ·have hall:∀h∈s,h.st=g.st:=λh hh=>Classical.byContradiction λhc=>ho ⟨h,hh,hc⟩
    have og:=hs g hg
    have hk:MI (pI ⟨g.st,g.hi⟩ ⟨t,200000⟩):=⟨og.1,by show g.st<t;omega,ht.2,by show 0<=g.hi;have:=og.2.2;omega,og.2.2.2.2,by show (200000:Int)<=200000;omega⟩
    refine⟨_,(E3 (λ_=>hfl)).2 (.inr (List.mem_filter.2 ⟨(CBJ (AOY hg)).2,AKH hk (λh hh=>?_)⟩)),hk,.inl ?_⟩
    ·obtain⟨b1,b2⟩:=(Pr.1 (h1 h hh)).2.2 (hall h hh)
     have c1:=fH hf.1 b1
     have c2:=fH hf.1 b2
     unfold Rl.pass
     rw[AET,hall h hh]
     have hw:0<t-g.st:=by omega
     have e:(HM (pI ⟨g.st,g.hi⟩ ⟨t,200000⟩)).w=t-g.st:=rfl
     rw[e]
     have d1:=Int.mul_le_mul_of_nonneg_right c1 (Int.le_of_lt hw)
     have d2:=Int.mul_le_mul_of_nonneg_right c2 (Int.le_of_lt hw)
     constructor<;>simp only[Int.sub_self,Int.mul_zero,Int.add_zero]<;>omega
    ·rw[AET]
     show 200000*(t-g.st)<=g.hi*(t-g.st)+(200000-g.hi)*(t-g.st)
     grind
end Go.Bal
