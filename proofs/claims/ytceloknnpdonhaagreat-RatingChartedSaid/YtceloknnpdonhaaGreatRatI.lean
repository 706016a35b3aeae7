/- Package rating: bounds of a flow. -/
import Derived.Test.YtceloknnpdonhaaGreatRatH
set_option linter.unusedVariables false
set_option linter.unusedSimpArgs false
namespace Go.Bal
open Go Go.Sym Go.Proofs
def bndM(l:List Ln)(t:Int):Bnd:=bif decide (l.length=0) then default else⟨OT (mU ltR t l) t,OT (mU gtR t l) t⟩
def dBkt:List AVal->Heap->Option (BkT×List (Nat×Nat)×List Nat)
 |[.bptr id _,.d t],H=>match BVU H id with
  |some (w,q)=>some (⟨w,EO t⟩,[(100,id),(101,q)],[])
  |none=>none
 |_,_=>none
def C_bnd:Ctr:={ ro:=[100],α:=BkT,xs:=λa=>[.bptr 100 0,.int a.st],L:=λa=>bkL a.w,val:=λa=>.tup [.d (eBnd (bndM (lB a) a.st)),.bool (decide ((lB a).length≠0))],keep:=λa=>bkK (Du a.w (kB a)),pre:=λa=>[Ic a.w.g a.w.b/\0<=a.st/\a.st<=2000] }
def DKP:Ann:={ ann 36 [(CKS,C_less.spec d0),(CJY,C_more.spec d0),(CAA,orS ((Xs ltR Ib).spec (dBkT Ib)) ((Xs gtR Hx).spec (dBkT Hx))),(AMO,CMG)] with E:=[100,101] }
def DLI(a:BkT):Prop:=BG Try.prog DKP BOG (AL BOG) (C_bnd.xs a) (AF (C_bnd.L a)) (C_bnd.val a) (C_bnd.keep a) [] []
abbrev COZ a b:=BkT.mk a (WG b)
abbrev ARH a:=COZ (Hw a) a
abbrev Qr a:=A2 (Hw a) (ARH a)
abbrev J9 a:=tP (Yh a) (ET a) (ET a) (Qr a) (Qr a)
abbrev BEJ a:=COZ (J9 a) a
abbrev Dl a:=A2 (J9 a) (BEJ a)
abbrev yC a b:=bndM (lB a) b
abbrev vB a b:=yC a (WG b)
attribute [go_sem] COZ ARH Qr J9 BEJ Dl yC vB
theorem DRO(a:BkT):(DLI a)=(PC (HX (wX a) (Up (Yh a) a) (AT (Yh a) (XD a)) (NC (ZS a) (ET a)) (AK (λi=>TI i (ZS a) (ET a) i)) CV (QV (ET a)) (EB (OI (ET a)) (AN (λi=>EX (Hw a) i (ET a) (λj=>DW j (Hw a) i (ET a) (CU (CH (Hw a) i j) (CH (ET a) i j) (CF (Hw a) i j) (CF (ET a) i j) (FB (Hw a) i j) (ET a) i j)))) (IN (XD a) (Qr a)) (SX (XD a) (Qr a)) (MO (ET a) (Qr a)) (λi=>MP i (ET a) (Qr a)) (PD (Yh a) (ZS a) DX (λi=>PG i (ZS a) i i)) (BC (WG a)) (mW a))) (HX (wX a) (Up (Yh a) a) (AT (Yh a) (XD a)) (NC (ZS a) (ET a)) (AK (λi=>TI i (ZS a) (ET a) i)) CV (QV (Qr a)) (EB (OI (Qr a)) (AN (λi=>EX (J9 a) i (Qr a) (λj=>DW j (J9 a) i (Qr a) (CU (CH (J9 a) i j) (CH (Qr a) i j) (CF (J9 a) i j) (CF (Qr a) i j) (FB (J9 a) i j) (Qr a) i j)))) (IN (XD a) (Dl a)) (SX (XD a) (Dl a)) (MO (ET a) (Dl a)) (λi=>MP i (ET a) (Dl a)) (PD (Yh a) (ZS a) DX (λi=>PG i (ZS a) i i)) (BC (WG a)) (mW a))) (not (dT (ARH a))) (AJ (BE (IP (vB a a))) (BE (IW (vB a a))) (BE (IK (vB a a))) (BE (IR (vB a a))) (VJ (HM (dT a)) (Up (XZ a) a) (λi=>CR i (XZ a) (XD a)) (MO (CM a) (ET a)) (λi=>MP i (CM a) (ET a)) (AN (λi=>SS (CM a) i (Dl a) i)) (MV (CM a) (Dl a)) (λi=>EX (CM a) i (Dl a) (λj=>DW j (CM a) i (Dl a) (CU (Oj a i j) (CH (Dl a) i j) (Ny a i j) (CF (Dl a) i j) (FB (CM a) i j) (Dl a) i j))))) (Es (Nq (LJ (Vz (ARH a) a)) (EU (WG a) (mW a)) (LJ (Xn (BEJ a) a)) (WG a) 2000) (IP (vB a a)) (GE (iJ (Vz (ARH a) a) a)) (AO (IW (vB a a)) (IG (iJ (Vz (ARH a) a) a))) (AO (IK (vB a a)) (GE (iJ (Xn (BEJ a) a) a))) (AO (IR (vB a a)) (IG (iJ (Xn (BEJ a) a) a))) (VJ (DR (dT a)) (Up (XZ a) a) (λi=>CR i (XZ a) (XD a)) (MO (CM a) (ET a)) (λi=>MP i (CM a) (ET a)) (AN (λi=>SS (CM a) i (Dl a) i)) (MV (CM a) (Dl a)) (λi=>EX (CM a) i (Dl a) (λj=>DW j (CM a) i (Dl a) (CU (Oj a i j) (CH (Dl a) i j) (Ny a i j) (CF (Dl a) i j) (FB (CM a) i j) (Dl a) i j)))))):=by kernel_rfl
theorem CTB(w:Bk)(k:Int):Du (Du w k) k=Du w k:=nY (by show YF w.has k k=true;simp[YF])
theorem eD(a:BkT):BkT.mk a.w a.st=a:=rfl
theorem eE(w:Bk)(k:Int):Bk.mk w.g w.b (Du w k).has (Du w k).st=Du w k:=rfl
theorem AOW(w:Bk)(k:Int):(Du w k).g=w.g:=rfl
theorem AOJ(w:Bk)(k:Int):(Du w k).b=w.b:=rfl
theorem DWC(a:BkT)(k:Int):kB ⟨Du a.w k,a.st⟩=kB a:=rfl
theorem DWO(a:BkT)(k:Int):lB ⟨Du a.w k,a.st⟩=lB a:=rfl
theorem DUH(a:BkT)(h:Ic a.w.g a.w.b)(h2:0<=a.st/\a.st<=2000):DLI a:=by
 rw[DRO]<;> delta JB Oz AR AK BO CI AO EA DV DJ DX QJ QP AN BN BJ jJ JN EY GW FC GF GD HB GE IG ZX Aa tU CW FX Jb JY NK Dc QN XL Xt Ma ET WG AH LY NX LX NY AJ AZ AI FJ RH sM sI AP Wm DI tP DY A2 BZ BC DZ EZ Pd Yh DN GQ JA ID Hw HC EU AW Ca HY GT YB FB Il HL AY CG COZ CF yC Bt ZS IA CH BB JZ Yf FK JV DR HN CM ARH OB GH CV FM XD Nq Qr GM OI QV BE Hq IR IP CU Cw NC J9 CR IW IK Cy Wr AT Oc BEJ EX QE DW XK EB IN Bn UE XZ WC MO BFB Ka HM VJ MP HX Mw PG Dl MV SS TI SX LJ PC PD Oj Ny Up Xn Vz vB iJ dT mW Es wX;simp only[CC,eq_self,implies_true,forall_const,Wy,eE,AOW,AOJ,eD,DWC,DWO,CTB,if_true]
 obtain⟨_,hok⟩:=CZG h
 unfold bndM
 refine⟨⟨h,h2⟩,⟨h,h2⟩,λhc=>?_,λhc=>?_⟩
 ·rw[decide_eq_true (show (lB a).length=0 by omega)]
  exact⟨rfl,rfl,rfl,rfl,hc⟩
 ·rw[decide_eq_false hc]
  have hb:∀lt,RF (mU lt a.st (lB a)):=λlt=>BFU ▸ BUH hok (by omega)
  exact⟨⟨hb _,h2,hb _,h2⟩,rfl,rfl,rfl,rfl,hc⟩
theorem AZF:AM Try.prog nL (C_bnd.spec dBkt):=WY C_bnd (λ_=>DKP) [] [] CSS (λ_=>by kernel_rfl) (λ_=>AB DKB (AB DGB (AB (BEQ CTZ CWW) (AB CAZ AG)))) (λ(a:BkT) h=>by
 have h:Ic a.w.g a.w.b/\0<=a.st/\a.st<=2000:=h
 exact DUH a h.1 h.2) (λ_=>YE rfl rfl) _
end Go.Bal

namespace Go.Bal
open Go Go.Sym Go.Proofs
structure Rl where
 p:Int
 q:Int
 w:Int
def Rl.num(f:Rl)(u:Int):Int:=f.p+f.q*u
def Rl.ok(f:Rl):Prop:=0<f.w/\0<=f.q
def Rl.pass(f:Rl)(g:Gau):Prop:=g.lo*f.w<=f.num g.st/\f.num g.st<=g.hi*f.w
def Rl.passes(f:Rl)(s:List Gau):Prop:=∀g∈s,f.pass g
def TK(x:Ln):Rl:=⟨x.a1*(x.b0-x.a0)-(x.b1-x.a1)*x.a0,x.b1-x.a1,x.b0-x.a0⟩
theorem RE{x:Ln}(h:RF x):(TK x).ok:=by
 obtain⟨h1,h2,h3,h4,h5,h6⟩:=h
 exact⟨by show 0<x.b0-x.a0;omega,by show 0<=x.b1-x.a1;omega⟩
theorem BNV(x:Ln)(t:Int):(TK x).num t=x.a1*(x.b0-x.a0)+(x.b1-x.a1)*(t-x.a0):=by
 show x.a1*(x.b0-x.a0)-(x.b1-x.a1)*x.a0+(x.b1-x.a1)*t=_
 grind
theorem CPK(x:Ln)(t:Int):hasM x t=wI ((TK x).num t) (TK x).w:=by rw[BNV];rfl
theorem vA{a b c:Int}(hc:0<c)(h:a*c<=b*c):a<=b:=Int.le_of_mul_le_mul_right h hc
theorem AND{x:Ln}{g:Gau}(h:RF x):LL x g=true↔(TK x).pass g:=by
 have hw:=(RE h).1
 have hv:=BPQ (n:=(TK x).num g.st) hw
 have hd:=(CIM (n:=(TK x).num g.st) hw).1
 unfold LL Rl.pass
 rw[CPK]
 generalize wI ((TK x).num g.st) (TK x).w=r at *
 generalize (TK x).num g.st=N at *
 generalize (TK x).w=W at *
 rw[Bool.and_eq_true,decide_eq_true_eq,decide_eq_true_eq]
 constructor
 ·rintro⟨h1,h2⟩
  have a1:=Int.mul_le_mul_of_nonneg_right h1 (Int.le_of_lt hw)
  have a2:=Int.mul_le_mul_of_nonneg_right h2 (Int.le_of_lt hw)
  constructor
  ·refine Int.le_of_mul_le_mul_right (a:=r.d) ?_ hd;grind
  ·refine Int.le_of_mul_le_mul_right (a:=r.d) ?_ hd;grind
 ·rintro⟨h1,h2⟩
  have a1:=Int.mul_le_mul_of_nonneg_right h1 (Int.le_of_lt hd)
  have a2:=Int.mul_le_mul_of_nonneg_right h2 (Int.le_of_lt hd)
  constructor
  ·refine Int.le_of_mul_le_mul_right (a:=W) ?_ hw;grind
  ·refine Int.le_of_mul_le_mul_right (a:=W) ?_ hw;grind
theorem BMZ{x:Ln}{s:List Gau}(h:RF x):Pv s x=true↔(TK x).passes s:=by
 unfold Pv Rl.passes
 rw[List.all_eq_true]
 exact⟨λa g hg=>(AND h).1 (a g hg),λa g hg=>(AND h).2 (a g hg)⟩
def okS(a v m e:Int)(g:Gau):Prop:=g.lo*e<=v*e+m*(g.st-a)/\v*e+m*(g.st-a)<=g.hi*e
theorem CVD{f:Rl}{a v m e:Int}{g:Gau}(he:0<e)(h1:f.num a=v*f.w)(h2:f.q*e=m*f.w)(hw:0<f.w)(h:okS a v m e g):f.pass g:=by
 obtain⟨h3,h4⟩:=h
 have a1:=Int.mul_le_mul_of_nonneg_right h3 (Int.le_of_lt hw)
 have a2:=Int.mul_le_mul_of_nonneg_right h4 (Int.le_of_lt hw)
 have e1:f.num g.st=v*f.w+f.q*(g.st-a):=by unfold Rl.num at *;grind
 have e2:f.q*(g.st-a)*e=m*f.w*(g.st-a):=by grind
 constructor
 ·refine Int.le_of_mul_le_mul_right (a:=e) ?_ he;rw[e1];grind
 ·refine Int.le_of_mul_le_mul_right (a:=e) ?_ he;rw[e1];grind
structure Sl where
 m:Int
 e:Int
theorem CKR:∀(l:List Sl),l≠[]->(∀x∈l,0<x.e)->∃x∈l,∀y∈l,y.m*x.e<=x.m*y.e
 |[],h,_=>(h rfl).elim
 |[x],_,_=>⟨x,List.mem_singleton.2 rfl,λy hy=>by rw[List.mem_singleton.1 hy];exact Int.le_refl _⟩
 |x :: z :: l,_,h=>by
  obtain⟨b,hb,hm⟩:=CKR (z :: l) (by simp) (λy hy=>h y (List.mem_cons_of_mem _ hy))
  have hx:=h x (List.mem_cons_self ..)
  have hbe:=h b (List.mem_cons_of_mem _ hb)
  rcases Int.le_total (x.m*b.e) (b.m*x.e) with hc | hc
  ·refine⟨b,List.mem_cons_of_mem _ hb,λy hy=>?_⟩
   rcases List.mem_cons.1 hy with rfl | hy
   ·exact hc
   ·exact hm y hy
  ·refine⟨x,List.mem_cons_self ..,λy hy=>?_⟩
   rcases List.mem_cons.1 hy with rfl | hy
   ·exact Int.le_refl _
   ·have hye:=h y (List.mem_cons_of_mem _ hy)
    have a1:=Int.mul_le_mul_of_nonneg_right (hm y hy) (Int.le_of_lt hx)
    have a2:=Int.mul_le_mul_of_nonneg_right hc (Int.le_of_lt hye)
    refine Int.le_of_mul_le_mul_right (a:=b.e) ?_ hbe
    grind
theorem CCE(δ:Gau->Int):∀(s:List Gau),s≠[]->∃g∈s,∀h∈s,δ g<=δ h
 |[],h=>(h rfl).elim
 |[x],_=>⟨x,List.mem_singleton.2 rfl,λy hy=>by rw[List.mem_singleton.1 hy];exact Int.le_refl _⟩
 |x :: z :: l,_=>by
  obtain⟨b,hb,hm⟩:=CCE δ (z :: l) (by simp)
  rcases Int.le_total (δ x) (δ b) with hc | hc
  ·refine⟨x,List.mem_cons_self ..,λy hy=>?_⟩
   rcases List.mem_cons.1 hy with rfl | hy
   ·exact Int.le_refl _
   ·exact Int.le_trans hc (hm y hy)
  ·refine⟨b,List.mem_cons_of_mem _ hb,λy hy=>?_⟩
   rcases List.mem_cons.1 hy with rfl | hy
   ·exact hc
   ·exact hm y hy
theorem CES{f:Rl}{s:List Gau}(hf:f.ok)(hs:f.passes s)(hne:s≠[]):∃g∈s,(∀h∈s,okS g.st g.lo f.q f.w h)/\∀u,g.lo*f.w+f.q*(u-g.st)<=f.num u:=by
 obtain⟨g,hg,hm⟩:=CCE (λg=>f.num g.st-g.lo*f.w) s hne
 refine⟨g,hg,λh hh=>?_,λu=>?_⟩
 ·have h1:=hm h hh
  obtain⟨h2,h3⟩:=hs h hh
  obtain⟨h4,h5⟩:=hs g hg
  unfold Rl.num at *
  constructor<;>grind
 ·obtain⟨h4,h5⟩:=hs g hg
  unfold Rl.num at *
  grind
theorem CWV{f:Rl}{s:List Gau}(hf:f.ok)(hs:f.passes s)(hne:s≠[]):∃g∈s,(∀h∈s,okS g.st g.hi f.q f.w h)/\∀u,f.num u<=g.hi*f.w+f.q*(u-g.st):=by
 obtain⟨g,hg,hm⟩:=CCE (λg=>g.hi*f.w-f.num g.st) s hne
 refine⟨g,hg,λh hh=>?_,λu=>?_⟩
 ·have h1:=hm h hh
  obtain⟨h2,h3⟩:=hs h hh
  obtain⟨h4,h5⟩:=hs g hg
  unfold Rl.num at *
  constructor<;>grind
 ·obtain⟨h4,h5⟩:=hs g hg
  unfold Rl.num at *
  grind
def BUY(s:List Gau)(a v m e:Int):Prop:=∃y∈Yj s,RF y/\(TK y).num a=v*(TK y).w/\(TK y).q*e=m*(TK y).w
theorem CXX{s:List Gau}{p:Pt}(h:p∈AA s):CB p∈Yj s:=by
 unfold Yj blk;exact List.mem_flatMap.2 ⟨p,h,List.mem_cons_self ..⟩
theorem CPB{s:List Gau}{p q:Pt}(h:p∈AA s)(h2:q∈AA s)(h3:RF (L0 p q)):L0 p q∈Yj s:=by
 unfold Yj blk
 exact List.mem_flatMap.2 ⟨p,h,List.mem_cons_of_mem _ (List.mem_filter.2 ⟨List.mem_map.2 ⟨q,h2,rfl⟩,gS.2 h3⟩)⟩
theorem BHB{s:List Gau}{g:Gau}(h:g∈s):(⟨g.st,g.lo⟩:Pt)∈AA s:=BOV.2 ⟨g,h,.inl rfl⟩
theorem BSS{s:List Gau}{g:Gau}(h:g∈s):(⟨g.st,g.hi⟩:Pt)∈AA s:=BOV.2 ⟨g,h,.inr rfl⟩
theorem BND(p:Pt)(u:Int):(TK (CB p)).num u=p.fl*(TK (CB p)).w/\(TK (CB p)).q=0:=by
 rw[BNV]
 unfold CB;split<;>(simp only[TK];constructor<;>grind)
theorem CYA{s:List Gau}(hs:∀g∈s,Oy g){a v:Int}(h:(⟨a,v⟩:Pt)∈AA s):BUY s a v 0 1:=by
 refine⟨_,CXX h,ABJ (tW hs h),(BND _ _).1,?_⟩
 rw[(BND ⟨a,v⟩ 0).2];omega
theorem BJH(p q:Pt)(u:Int):(TK (L0 p q)).num u=p.fl*(q.st-p.st)+(q.fl-p.fl)*(u-p.st):=by rw[BNV];rfl
theorem BSQ{s:List Gau}(hs:∀g∈s,Oy g){a v b z:Int}(h:(⟨a,v⟩:Pt)∈AA s)(h2:(⟨b,z⟩:Pt)∈AA s)(hab:a<b)(hvz:v<=z):BUY s a v (z-v) (b-a):=by
 have o1:=tW hs h
 have o2:=tW hs h2
 have hl:RF (L0 ⟨a,v⟩ ⟨b,z⟩):=⟨o1.1,hab,o2.2.1,o1.2.2.1,hvz,o2.2.2.2⟩
 exact⟨_,CPB h h2 hl,hl,by rw[BJH];simp[TK,L0],by simp[TK,L0]⟩
theorem BWD{s:List Gau}(hs:∀g∈s,Oy g){a v b z:Int}(h:(⟨a,v⟩:Pt)∈AA s)(h2:(⟨b,z⟩:Pt)∈AA s)(hab:b<a)(hvz:z<=v):BUY s a v (v-z) (a-b):=by
 have o1:=tW hs h
 have o2:=tW hs h2
 have hl:RF (L0 ⟨b,z⟩ ⟨a,v⟩):=⟨o2.1,hab,o1.2.1,o2.2.2.1,hvz,o1.2.2.2⟩
 exact⟨_,CPB h2 h hl,hl,by rw[BJH];simp only[TK,L0];grind,by simp[TK,L0]⟩
theorem BWB{s:List Gau}{a v m e:Int}(he:0<e)(h:BUY s a v m e)(hp:∀g∈s,okS a v m e g):∃y∈WZ s,RF y/\(TK y).passes s/\(TK y).num a=v*(TK y).w/\(TK y).q*e=m*(TK y).w:=by
 obtain⟨y,h1,h2,h3,h4⟩:=h
 have hy:(TK y).passes s:=λg hg=>CVD he h3 h4 (RE h2).1 (hp g hg)
 exact⟨y,List.mem_filter.2 ⟨h1,(BMZ h2).2 hy⟩,h2,hy,h3,h4⟩
def loSl(a v:Int)(g:Gau):List Sl:=if a<g.st then [⟨g.lo-v,g.st-a⟩] else if g.st<a then [⟨v-g.hi,a-g.st⟩] else []
def upSl(a v:Int)(g:Gau):List Sl:=if a<g.st then [⟨g.hi-v,g.st-a⟩] else if g.st<a then [⟨v-g.lo,a-g.st⟩] else []
theorem eK{a v m e:Int}{g:Gau}:okS a v m e g↔(∀x∈loSl a v g,x.m*e<=m*x.e)/\(∀x∈upSl a v g,m*x.e<=x.m*e)/\(g.st=a->g.lo*e<=v*e/\v*e<=g.hi*e):=by
 unfold okS loSl upSl
 by_cases h1:a<g.st
 ·simp only[h1,if_true,List.mem_singleton,forall_eq]
  constructor
  ·intro h;refine⟨by grind,by grind,by omega⟩
  ·intro h;constructor<;>grind
 ·by_cases h2:g.st<a
  ·simp only[h1,h2,if_true,if_false,List.mem_singleton,forall_eq]
   constructor
   ·intro h;refine⟨by grind,by grind,by omega⟩
   ·intro h;constructor<;>grind
  ·have:g.st=a:=by omega
   simp only[h1,h2,if_false,List.not_mem_nil,false_imp_iff,implies_true,true_and]
   rw[this,Int.sub_self,Int.mul_zero,Int.add_zero]
   simp
theorem CJQ{a v:Int}{g:Gau}{x:Sl}(h:x∈loSl a v g):0<x.e:=by
 unfold loSl at h;split at h
 ·rw[List.mem_singleton.1 h];show 0<g.st-a;omega
 ·split at h
  ·rw[List.mem_singleton.1 h];show 0<a-g.st;omega
  ·cases h
theorem CJM{a v:Int}{g:Gau}{x:Sl}(h:x∈upSl a v g):0<x.e:=by
 unfold upSl at h;split at h
 ·rw[List.mem_singleton.1 h];show 0<g.st-a;omega
 ·split at h
  ·rw[List.mem_singleton.1 h];show 0<a-g.st;omega
  ·cases h
theorem BDL{a b c d e f:Int}(hd:0<d)(h1:a*d<=c*b)(h2:c*f<=e*d)(hb:0<=b)(hf:0<=f):a*f<=e*b:=by
 have h3:=Int.mul_le_mul_of_nonneg_right h1 hf
 have h4:=Int.mul_le_mul_of_nonneg_right h2 hb
 refine Int.le_of_mul_le_mul_right (a:=d) ?_ hd
 grind
theorem BJY{s:List Gau}(hs:∀g∈s,Oy g){a v n d:Int}(hp:(⟨a,v⟩:Pt)∈AA s)(hd:0<d)(hn:0<=n)(h:∀g∈s,okS a v n d g):∃y∈WZ s,RF y/\(TK y).passes s/\(TK y).num a=v*(TK y).w/\(TK y).q*d<=n*(TK y).w:=by
 obtain⟨x,hx,hm⟩:=CKR (⟨0,1⟩ :: s.flatMap (loSl a v)) (by simp) (λy hy=>by
  rcases List.mem_cons.1 hy with rfl | hy
  ·exact Int.one_pos
  ·obtain⟨g,_,hg⟩:=List.mem_flatMap.1 hy;exact CJQ hg)
 have hxe:0<x.e:=by
  rcases List.mem_cons.1 hx with rfl | hy
  ·exact Int.one_pos
  ·obtain⟨g,_,hg⟩:=List.mem_flatMap.1 hy;exact CJQ hg
 have hxm:0<=x.m:=by have:=hm ⟨0,1⟩ (List.mem_cons_self ..);simp at this;omega
 have hle:x.m*d<=n*x.e:=by
  rcases List.mem_cons.1 hx with rfl | hy
  ·simp;exact hn
  ·obtain⟨g,hg,hgx⟩:=List.mem_flatMap.1 hy;exact (eK.1 (h g hg)).1 _ hgx
 have hok:∀g∈s,okS a v x.m x.e g:=λg hg=>eK.2 ⟨λy hy=>hm y (List.mem_cons_of_mem _ (List.mem_flatMap.2 ⟨g,hg,hy⟩)),λy hy=>BDL hd hle ((eK.1 (h g hg)).2.1 y hy) (Int.le_of_lt hxe) (Int.le_of_lt (CJM hy)),λhe=>by
  obtain⟨h1,h2⟩:=(eK.1 (h g hg)).2.2 he
  exact⟨Int.mul_le_mul_of_nonneg_right (vA hd h1) (Int.le_of_lt hxe),Int.mul_le_mul_of_nonneg_right (vA hd h2) (Int.le_of_lt hxe)⟩⟩
 have hc:BUY s a v x.m x.e:=by
  rcases List.mem_cons.1 hx with rfl | hy
  ·exact CYA hs hp
  ·obtain⟨g,hg,hgx⟩:=List.mem_flatMap.1 hy
   unfold loSl at hgx
   split at hgx
   ·rename_i hlt
    have:=List.mem_singleton.1 hgx
    subst this
    exact BSQ hs hp (BHB hg) hlt (by have:0<=g.lo-v:=hxm;omega)
   ·split at hgx
    ·rename_i hlt
     have:=List.mem_singleton.1 hgx
     subst this
     exact BWD hs hp (BSS hg) hlt (by have:0<=v-g.hi:=hxm;omega)
    ·cases hgx
 obtain⟨y,y1,y2,y3,y4,y5⟩:=BWB hxe hc hok
 refine⟨y,y1,y2,y3,y4,?_⟩
 have hw:=(RE y2).1
 exact BDL hxe (by rw[y5];exact Int.le_refl _) hle (Int.le_of_lt hw) (Int.le_of_lt hd)
theorem CPT{s:List Gau}(hs:∀g∈s,Oy g){a v n d:Int}(hp:(⟨a,v⟩:Pt)∈AA s)(hd:0<d)(hn:0<=n)(h:∀g∈s,okS a v n d g)(ho:∃g∈s,g.st≠a):∃y∈WZ s,RF y/\(TK y).passes s/\(TK y).num a=v*(TK y).w/\n*(TK y).w<=(TK y).q*d:=by
 obtain⟨x,hx,hm⟩:=CKR ((s.flatMap (upSl a v)).map λz=>⟨-z.m,z.e⟩) (by
  obtain⟨g,hg,hne⟩:=ho
  intro he
  have he:=List.map_eq_nil_iff.1 he
  have:upSl a v g=[]:=by
   have:=List.flatMap_eq_nil_iff.1 he g hg;exact this
  unfold upSl at this
  by_cases h1:a<g.st
  ·rw[if_pos h1] at this;cases this
  ·rw[if_neg h1,if_pos (by omega)] at this;cases this) (λy hy=>by
  obtain⟨z,hz,rfl⟩:=List.mem_map.1 hy
  obtain⟨g,_,hg⟩:=List.mem_flatMap.1 hz;exact CJM (x:=z) hg)
 obtain⟨z,hz,rfl⟩:=List.mem_map.1 hx
 obtain⟨g0,hg0,hgz⟩:=List.mem_flatMap.1 hz
 have hze:0<z.e:=CJM hgz
 have hmz:∀g∈s,∀y∈upSl a v g,z.m*y.e<=y.m*z.e:=λg hg y hy=>by
  have:=hm ⟨-y.m,y.e⟩ (List.mem_map.2 ⟨y,List.mem_flatMap.2 ⟨g,hg,hy⟩,rfl⟩)
  simp only[Int.neg_mul] at this;omega
 have hle:n*z.e<=z.m*d:=(eK.1 (h g0 hg0)).2.1 _ hgz
 have hzm:0<=z.m:=by
  have h1:=Int.mul_nonneg hn (Int.le_of_lt hze)
  exact vA hd (by rw[Int.zero_mul];omega)
 have hok:∀g∈s,okS a v z.m z.e g:=λg hg=>eK.2 ⟨λy hy=>BDL hd ((eK.1 (h g hg)).1 y hy) hle (Int.le_of_lt (CJQ hy)) (Int.le_of_lt hze),λy hy=>hmz g hg y hy,λhe=>by
  obtain⟨h1,h2⟩:=(eK.1 (h g hg)).2.2 he
  exact⟨Int.mul_le_mul_of_nonneg_right (vA hd h1) (Int.le_of_lt hze),Int.mul_le_mul_of_nonneg_right (vA hd h2) (Int.le_of_lt hze)⟩⟩
 have hc:BUY s a v z.m z.e:=by
  unfold upSl at hgz
  split at hgz
  ·rename_i hlt
   have:=List.mem_singleton.1 hgz
   subst this
   exact BSQ hs hp (BSS hg0) hlt (by have:0<=g0.hi-v:=hzm;omega)
  ·split at hgz
   ·rename_i hlt
    have:=List.mem_singleton.1 hgz
    subst this
    exact BWD hs hp (BHB hg0) hlt (by have:0<=v-g0.lo:=hzm;omega)
   ·cases hgz
 obtain⟨y,y1,y2,y3,y4,y5⟩:=BWB hze hc hok
 refine⟨y,y1,y2,y3,y4,?_⟩
 have hw:=(RE y2).1
 have:=BDL hze hle (by rw[<-y5];exact Int.le_refl _) (Int.le_of_lt hd) (Int.le_of_lt hw)
 exact this
theorem CXF{f:Rl}{s:List Gau}(hs:∀g∈s,Oy g)(hf:f.ok)(hp:f.passes s)(hne:s≠[]):WZ s≠[]:=by
 obtain⟨g,hg,h1,_⟩:=CES hf hp hne
 obtain⟨y,hy,_⟩:=BJY hs (BHB hg) hf.1 hf.2 h1
 intro he;rw[he] at hy;cases hy
theorem AMK{s:List Gau}{t:Int}{x:Ln}(h:s≠[]->WZ s≠[]):x∈Bm s t↔x∈WZ s∨x∈(PR s t).filter (okX s):=by
 unfold Bm
 have:(bif decide (0<s.length) then decide ((WZ s).length=0) else false)=false:=by
  by_cases hn:0<s.length
  ·rw[decide_eq_true hn]
   have:=h (by intro he;rw[he] at hn;cases hn)
   exact decide_eq_false (by intro he;exact this (List.eq_nil_of_length_eq_zero he))
  ·rw[decide_eq_false hn];rfl
 rw[this]
 exact List.mem_append
theorem Pe{s:List Gau}{t:Int}(hs:∀g∈s,Oy g){x:Ln}(hx:x∈Bm s t):RF x/\(TK x).passes s:=by
 have hok:=DAG hs x hx
 refine⟨hok,(BMZ hok).1 ?_⟩
 rw[BAL] at hx
 revert hx
 cases (bif decide ((s.length:Int)>0) then ((WZ s).length:Int)==0 else false) with
 |true=>intro hx;cases hx
 |false=>
  intro hx
  rcases List.mem_append.1 hx with hx | hx
  ·exact (List.mem_filter.1 hx).2
  ·have:=(List.mem_filter.1 hx).2
   unfold okX at this
   cases hr:eM x with
   |true=>rw[hr] at this;exact this
   |false=>rw[hr] at this;cases this
theorem CXS{s:List Gau}{t v:Int}(h:v=0∨v=200000):CB ⟨t,v⟩∈PR s t:=by
 unfold PR moB
 rcases h with rfl | rfl<;>simp
theorem CVW{s:List Gau}{t:Int}{p:Pt}(h:p∈AA s):L0 ⟨t,0⟩ p∈PR s t/\L0 p ⟨t,200000⟩∈PR s t:=by
 unfold PR
 constructor<;>(refine List.mem_append.2 (.inr (List.mem_flatMap.2 ⟨p,h,?_⟩));simp)
theorem BMU{s:List Gau}{x:Ln}(h1:RF x)(h2:(TK x).passes s):okX s x=true:=by
 unfold okX;rw[gS.2 h1];exact (BMZ h1).2 h2
theorem CHV{f:Rl}{s:List Gau}{t:Int}(hs:∀g∈s,Oy g)(ht:0<=t/\t<=2000)(hf:f.ok)(hp:f.passes s):∃y∈Bm s t,RF y/\((TK y).num t<=0∨(TK y).num t*f.w<=f.num t*(TK y).w):=by
 by_cases hne:s=[]
 ·subst hne
  have ho:RF (CB ⟨t,0⟩):=ABJ ⟨ht.1,ht.2,by show (0:Int)<=0;omega,by show (0:Int)<=200000;omega⟩
  refine⟨CB ⟨t,0⟩,(AMK (λh=>(h rfl).elim)).2 (.inr (List.mem_filter.2 ⟨CXS (.inl rfl),BMU ho (λg hg=>by cases hg)⟩)),ho,.inl ?_⟩
  rw[(BND _ _).1,Int.zero_mul];exact Int.le_refl _
 ·have hfl:=CXF hs hf hp hne
  obtain⟨g,hg,h1,h2⟩:=CES hf hp hne
  have hm:∀y∈WZ s,y∈Bm s t:=λy hy=>(AMK (λ_=>hfl)).2 (.inl hy)
  by_cases hat:g.st<=t
  ·obtain⟨y,y1,y2,y3,y4,y5⟩:=BJY hs (BHB hg) hf.1 hf.2 h1
   refine⟨y,hm y y1,y2,.inr ?_⟩
   have hw:=(RE y2).1
   have a1:=Int.mul_le_mul_of_nonneg_right y5 (show 0<=t-g.st by omega)
   have a2:=Int.mul_le_mul_of_nonneg_right (h2 t) (Int.le_of_lt hw)
   have e1:(TK y).num t=g.lo*(TK y).w+(TK y).q*(t-g.st):=by unfold Rl.num at *;grind
   rw[e1];grind
  ·by_cases ho:∃h∈s,h.st≠g.st
   ·obtain⟨y,y1,y2,y3,y4,y5⟩:=CPT hs (BHB hg) hf.1 hf.2 h1 ho
    refine⟨y,hm y y1,y2,.inr ?_⟩
    have hw:=(RE y2).1
    have a1:=Int.mul_le_mul_of_nonneg_right y5 (show 0<=g.st-t by omega)
    have a2:=Int.mul_le_mul_of_nonneg_right (h2 t) (Int.le_of_lt hw)
    have e1:(TK y).num t=g.lo*(TK y).w+(TK y).q*(t-g.st):=by unfold Rl.num at *;grind
    rw[e1];grind
   ·have hall:∀h∈s,h.st=g.st:=λh hh=>Classical.byContradiction λhc=>ho ⟨h,hh,hc⟩
    have og:=hs g hg
    have hk:RF (L0 ⟨t,0⟩ ⟨g.st,g.lo⟩):=⟨ht.1,by show t<g.st;omega,og.2.1,Int.le_refl _,og.2.2.1,by show g.lo<=200000;have:=og.2.2.2;omega⟩
    refine⟨_,(AMK (λ_=>hfl)).2 (.inr (List.mem_filter.2 ⟨(CVW (BHB hg)).1,BMU hk (λh hh=>?_)⟩)),hk,.inl ?_⟩
    ·obtain⟨b1,b2⟩:=(eK.1 (h1 h hh)).2.2 (hall h hh)
     have c1:=vA hf.1 b1
     have c2:=vA hf.1 b2
     unfold Rl.pass
     rw[BJH,hall h hh]
     have hw:0<g.st-t:=by omega
     have e:(TK (L0 ⟨t,0⟩ ⟨g.st,g.lo⟩)).w=g.st-t:=rfl
     rw[e]
     have d1:=Int.mul_le_mul_of_nonneg_right c1 (Int.le_of_lt hw)
     have d2:=Int.mul_le_mul_of_nonneg_right c2 (Int.le_of_lt hw)
     constructor<;>simp only[Int.zero_mul,Int.zero_add,Int.sub_zero]<;>omega
    ·rw[BJH];simp
theorem CRZ{f:Rl}{s:List Gau}{t:Int}(hs:∀g∈s,Oy g)(ht:0<=t/\t<=2000)(hf:f.ok)(hp:f.passes s):∃y∈Bm s t,RF y/\(200000*(TK y).w<=(TK y).num t∨f.num t*(TK y).w<=(TK y).num t*f.w):=by
 by_cases hne:s=[]
 ·subst hne
  have ho:RF (CB ⟨t,200000⟩):=ABJ ⟨ht.1,ht.2,by show (0:Int)<=200000;omega,by show (200000:Int)<=200000;omega⟩
  refine⟨CB ⟨t,200000⟩,(AMK (λh=>(h rfl).elim)).2 (.inr (List.mem_filter.2 ⟨CXS (.inr rfl),BMU ho (λg hg=>by cases hg)⟩)),ho,.inl ?_⟩
  rw[(BND _ _).1];exact Int.le_refl _
 ·have hfl:=CXF hs hf hp hne
  obtain⟨g,hg,h1,h2⟩:=CWV hf hp hne
  have hm:∀y∈WZ s,y∈Bm s t:=λy hy=>(AMK (λ_=>hfl)).2 (.inl hy)
  by_cases hat:t<=g.st
  ·obtain⟨y,y1,y2,y3,y4,y5⟩:=BJY hs (BSS hg) hf.1 hf.2 h1
   refine⟨y,hm y y1,y2,.inr ?_⟩
   have hw:=(RE y2).1
   have a1:=Int.mul_le_mul_of_nonneg_right y5 (show 0<=g.st-t by omega)
   have a2:=Int.mul_le_mul_of_nonneg_right (h2 t) (Int.le_of_lt hw)
   have e1:(TK y).num t=g.hi*(TK y).w+(TK y).q*(t-g.st):=by unfold Rl.num at *;grind
   rw[e1];grind
  ·by_cases ho:∃h∈s,h.st≠g.st
   ·obtain⟨y,y1,y2,y3,y4,y5⟩:=CPT hs (BSS hg) hf.1 hf.2 h1 ho
    refine⟨y,hm y y1,y2,.inr ?_⟩
    have hw:=(RE y2).1
    have a1:=Int.mul_le_mul_of_nonneg_right y5 (show 0<=t-g.st by omega)
    have a2:=Int.mul_le_mul_of_nonneg_right (h2 t) (Int.le_of_lt hw)
    have e1:(TK y).num t=g.hi*(TK y).w+(TK y).q*(t-g.st):=by unfold Rl.num at *;grind
    rw[e1];grind
   ·have hall:∀h∈s,h.st=g.st:=λh hh=>Classical.byContradiction λhc=>ho ⟨h,hh,hc⟩
    have og:=hs g hg
    have hk:RF (L0 ⟨g.st,g.hi⟩ ⟨t,200000⟩):=⟨og.1,by show g.st<t;omega,ht.2,by show 0<=g.hi;have:=og.2.2;omega,og.2.2.2.2,by show (200000:Int)<=200000;omega⟩
    refine⟨_,(AMK (λ_=>hfl)).2 (.inr (List.mem_filter.2 ⟨(CVW (BSS hg)).2,BMU hk (λh hh=>?_)⟩)),hk,.inl ?_⟩
    ·obtain⟨b1,b2⟩:=(eK.1 (h1 h hh)).2.2 (hall h hh)
     have c1:=vA hf.1 b1
     have c2:=vA hf.1 b2
     unfold Rl.pass
     rw[BJH,hall h hh]
     have hw:0<t-g.st:=by omega
     have e:(TK (L0 ⟨g.st,g.hi⟩ ⟨t,200000⟩)).w=t-g.st:=rfl
     rw[e]
     have d1:=Int.mul_le_mul_of_nonneg_right c1 (Int.le_of_lt hw)
     have d2:=Int.mul_le_mul_of_nonneg_right c2 (Int.le_of_lt hw)
     constructor<;>simp only[Int.sub_self,Int.mul_zero,Int.add_zero]<;>omega
    ·rw[BJH]
     show 200000*(t-g.st)<=g.hi*(t-g.st)+(200000-g.hi)*(t-g.st)
     grind
end Go.Bal
