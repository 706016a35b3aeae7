/- Package rating: rising lines through all gaugings lie between the candidates (no program in sight). -/
import Derived.Test.YtbmlgdlbffmjjaaGreatRatI
import Derived.Test.YtbmlgdlbffmjjaaGreatGaW
set_option linter.unusedVariables false
set_option linter.unusedSimpArgs false
namespace Go.Bal
open Go Go.Sym Go.Proofs
structure Rl where
 p:Int
 q:Int
 w:Int
def Rl.num(f:Rl)(u:Int):Int:=f.p+f.q*u
def Rl.ok(f:Rl):Prop:=0<f.w/\0<=f.q
def Rl.pass(f:Rl)(g:Gau):Prop:=g.lo*f.w<=f.num g.st/\f.num g.st<=g.hi*f.w
def Rl.passes(f:Rl)(s:List Gau):Prop:=∀g∈s,f.pass g
def QQ(x:Ln):Rl:=⟨x.a1*(x.b0-x.a0)-(x.b1-x.a1)*x.a0,x.b1-x.a1,x.b0-x.a0⟩
theorem LD{x:Ln}(h:PO x):(QQ x).ok:=by
 obtain⟨h1,h2,h3,h4,h5,h6⟩:=h
 exact⟨by show 0<x.b0-x.a0;omega,by show 0<=x.b1-x.a1;omega⟩
theorem ASZ(x:Ln)(t:Int):(QQ x).num t=x.a1*(x.b0-x.a0)+(x.b1-x.a1)*(t-x.a0):=by
 show x.a1*(x.b0-x.a0)-(x.b1-x.a1)*x.a0+(x.b1-x.a1)*t=_
 grind
theorem BJF(x:Ln)(t:Int):A7 x t=jC ((QQ x).num t) (QQ x).w:=by rw[ASZ];rfl
theorem kH{a b c:Int}(hc:0<c)(h:a*c<=b*c):a<=b:=Int.le_of_mul_le_mul_right h hc
theorem Q2{x:Ln}{g:Gau}(h:PO x):WE x g=true↔(QQ x).pass g:=by
 have hw:=(LD h).1
 have hv:=AED (n:=(QQ x).num g.st) hw
 have hd:=(BBP (n:=(QQ x).num g.st) hw).1
 unfold WE Rl.pass
 rw[BJF]
 generalize jC ((QQ x).num g.st) (QQ x).w=r at *
 generalize (QQ x).num g.st=N at *
 generalize (QQ x).w=W at *
 rw[Bool.and_eq_true,decide_eq_true_eq,decide_eq_true_eq]
 constructor
 ·rintro⟨h1,h2⟩
  have a1:=Int.mul_le_mul_of_nonneg_right h1 (Int.le_of_lt hw)
  have a2:=Int.mul_le_mul_of_nonneg_right h2 (Int.le_of_lt hw)
  constructor
  ·refine Int.le_of_mul_le_mul_right (a:=r.d) ?_ hd;grind
  ·refine Int.le_of_mul_le_mul_right (a:=r.d) ?_ hd;grind
 ·rintro⟨h1,h2⟩
  have a1:=Int.mul_le_mul_of_nonneg_right h1 (Int.le_of_lt hd)
  have a2:=Int.mul_le_mul_of_nonneg_right h2 (Int.le_of_lt hd)
  constructor
  ·refine Int.le_of_mul_le_mul_right (a:=W) ?_ hw;grind
  ·refine Int.le_of_mul_le_mul_right (a:=W) ?_ hw;grind
theorem ACO{x:Ln}{s:List Gau}(h:PO x):Ru s x=true↔(QQ x).passes s:=by
 unfold Ru Rl.passes
 rw[List.all_eq_true]
 exact⟨λa g hg=>(Q2 h).1 (a g hg),λa g hg=>(Q2 h).2 (a g hg)⟩
def okS(a v m e:Int)(g:Gau):Prop:=g.lo*e<=v*e+m*(g.st-a)/\v*e+m*(g.st-a)<=g.hi*e
theorem BNM{f:Rl}{a v m e:Int}{g:Gau}(he:0<e)(h1:f.num a=v*f.w)(h2:f.q*e=m*f.w)(hw:0<f.w)(h:okS a v m e g):f.pass g:=by
 obtain⟨h3,h4⟩:=h
 have a1:=Int.mul_le_mul_of_nonneg_right h3 (Int.le_of_lt hw)
 have a2:=Int.mul_le_mul_of_nonneg_right h4 (Int.le_of_lt hw)
 have e1:f.num g.st=v*f.w+f.q*(g.st-a):=by unfold Rl.num at *;grind
 have e2:f.q*(g.st-a)*e=m*f.w*(g.st-a):=by grind
 constructor
 ·refine Int.le_of_mul_le_mul_right (a:=e) ?_ he;rw[e1];grind
 ·refine Int.le_of_mul_le_mul_right (a:=e) ?_ he;rw[e1];grind
structure Sl where
 m:Int
 e:Int
theorem BEU:∀(l:List Sl),l≠[]->(∀x∈l,0<x.e)->∃x∈l,∀y∈l,y.m*x.e<=x.m*y.e
 |[],h,_=>(h rfl).elim
 |[x],_,_=>⟨x,List.mem_singleton.2 rfl,λy hy=>by rw[List.mem_singleton.1 hy];exact Int.le_refl _⟩
 |x :: z :: l,_,h=>by
  obtain⟨b,hb,hm⟩:=BEU (z :: l) (by simp) (λy hy=>h y (List.mem_cons_of_mem _ hy))
  have hx:=h x (List.mem_cons_self ..)
  have hbe:=h b (List.mem_cons_of_mem _ hb)
  rcases Int.le_total (x.m*b.e) (b.m*x.e) with hc | hc
  ·refine⟨b,List.mem_cons_of_mem _ hb,λy hy=>?_⟩
   rcases List.mem_cons.1 hy with rfl | hy
   ·exact hc
   ·exact hm y hy
  ·refine⟨x,List.mem_cons_self ..,λy hy=>?_⟩
   rcases List.mem_cons.1 hy with rfl | hy
   ·exact Int.le_refl _
   ·have hye:=h y (List.mem_cons_of_mem _ hy)
    have a1:=Int.mul_le_mul_of_nonneg_right (hm y hy) (Int.le_of_lt hx)
    have a2:=Int.mul_le_mul_of_nonneg_right hc (Int.le_of_lt hye)
    refine Int.le_of_mul_le_mul_right (a:=b.e) ?_ hbe
    grind
theorem APP(δ:Gau->Int):∀(s:List Gau),s≠[]->∃g∈s,∀h∈s,δ g<=δ h
 |[],h=>(h rfl).elim
 |[x],_=>⟨x,List.mem_singleton.2 rfl,λy hy=>by rw[List.mem_singleton.1 hy];exact Int.le_refl _⟩
 |x :: z :: l,_=>by
  obtain⟨b,hb,hm⟩:=APP δ (z :: l) (by simp)
  rcases Int.le_total (δ x) (δ b) with hc | hc
  ·refine⟨x,List.mem_cons_self ..,λy hy=>?_⟩
   rcases List.mem_cons.1 hy with rfl | hy
   ·exact Int.le_refl _
   ·exact Int.le_trans hc (hm y hy)
  ·refine⟨b,List.mem_cons_of_mem _ hb,λy hy=>?_⟩
   rcases List.mem_cons.1 hy with rfl | hy
   ·exact hc
   ·exact hm y hy
theorem AYT{f:Rl}{s:List Gau}(hf:f.ok)(hs:f.passes s)(hne:s≠[]):∃g∈s,(∀h∈s,okS g.st g.lo f.q f.w h)/\∀u,g.lo*f.w+f.q*(u-g.st)<=f.num u:=by
 obtain⟨g,hg,hm⟩:=APP (λg=>f.num g.st-g.lo*f.w) s hne
 refine⟨g,hg,λh hh=>?_,λu=>?_⟩
 ·have h1:=hm h hh
  obtain⟨h2,h3⟩:=hs h hh
  obtain⟨h4,h5⟩:=hs g hg
  unfold Rl.num at *
  constructor<;>grind
 ·obtain⟨h4,h5⟩:=hs g hg
  unfold Rl.num at *
  grind
theorem BWC{f:Rl}{s:List Gau}(hf:f.ok)(hs:f.passes s)(hne:s≠[]):∃g∈s,(∀h∈s,okS g.st g.hi f.q f.w h)/\∀u,f.num u<=g.hi*f.w+f.q*(u-g.st):=by
 obtain⟨g,hg,hm⟩:=APP (λg=>g.hi*f.w-f.num g.st) s hne
 refine⟨g,hg,λh hh=>?_,λu=>?_⟩
 ·have h1:=hm h hh
  obtain⟨h2,h3⟩:=hs h hh
  obtain⟨h4,h5⟩:=hs g hg
  unfold Rl.num at *
  constructor<;>grind
 ·obtain⟨h4,h5⟩:=hs g hg
  unfold Rl.num at *
  grind
def AOC(s:List Gau)(a v m e:Int):Prop:=∃y∈Rj s,PO y/\(QQ y).num a=v*(QQ y).w/\(QQ y).q*e=m*(QQ y).w
theorem BSV{s:List Gau}{p:Pt}(h:p∈AB s):UC p∈Rj s:=by
 unfold Rj blk;exact List.mem_flatMap.2 ⟨p,h,List.mem_cons_self ..⟩
theorem BHW{s:List Gau}{p q:Pt}(h:p∈AB s)(h2:q∈AB s)(h3:PO (qS p q)):qS p q∈Rj s:=by
 unfold Rj blk
 exact List.mem_flatMap.2 ⟨p,h,List.mem_cons_of_mem _ (List.mem_filter.2 ⟨List.mem_map.2 ⟨q,h2,rfl⟩,dG.2 h3⟩)⟩
theorem Y7{s:List Gau}{g:Gau}(h:g∈s):(⟨g.st,g.lo⟩:Pt)∈AB s:=AEW.2 ⟨g,h,.inl rfl⟩
theorem AIB{s:List Gau}{g:Gau}(h:g∈s):(⟨g.st,g.hi⟩:Pt)∈AB s:=AEW.2 ⟨g,h,.inr rfl⟩
theorem ACG(p:Pt)(u:Int):(QQ (UC p)).num u=p.fl*(QQ (UC p)).w/\(QQ (UC p)).q=0:=by
 rw[ASZ]
 unfold UC;split<;>(simp only[QQ];constructor<;>grind)
theorem BQX{s:List Gau}(hs:∀g∈s,Ht g){a v:Int}(h:(⟨a,v⟩:Pt)∈AB s):AOC s a v 0 1:=by
 refine⟨_,BSV h,pS (gU hs h),(ACG _ _).1,?_⟩
 rw[(ACG ⟨a,v⟩ 0).2];omega
theorem Y8(p q:Pt)(u:Int):(QQ (qS p q)).num u=p.fl*(q.st-p.st)+(q.fl-p.fl)*(u-p.st):=by rw[ASZ];rfl
theorem AEA{s:List Gau}(hs:∀g∈s,Ht g){a v b z:Int}(h:(⟨a,v⟩:Pt)∈AB s)(h2:(⟨b,z⟩:Pt)∈AB s)(hab:a<b)(hvz:v<=z):AOC s a v (z-v) (b-a):=by
 have o1:=gU hs h
 have o2:=gU hs h2
 have hl:PO (qS ⟨a,v⟩ ⟨b,z⟩):=⟨o1.1,hab,o2.2.1,o1.2.2.1,hvz,o2.2.2.2⟩
 exact⟨_,BHW h h2 hl,hl,by rw[Y8];simp[QQ,qS],by simp[QQ,qS]⟩
theorem ANT{s:List Gau}(hs:∀g∈s,Ht g){a v b z:Int}(h:(⟨a,v⟩:Pt)∈AB s)(h2:(⟨b,z⟩:Pt)∈AB s)(hab:b<a)(hvz:z<=v):AOC s a v (v-z) (a-b):=by
 have o1:=gU hs h
 have o2:=gU hs h2
 have hl:PO (qS ⟨b,z⟩ ⟨a,v⟩):=⟨o2.1,hab,o1.2.1,o2.2.2.1,hvz,o1.2.2.2⟩
 exact⟨_,BHW h2 h hl,hl,by rw[Y8];simp only[QQ,qS];grind,by simp[QQ,qS]⟩
theorem ANV{s:List Gau}{a v m e:Int}(he:0<e)(h:AOC s a v m e)(hp:∀g∈s,okS a v m e g):∃y∈gV s,PO y/\(QQ y).passes s/\(QQ y).num a=v*(QQ y).w/\(QQ y).q*e=m*(QQ y).w:=by
 obtain⟨y,h1,h2,h3,h4⟩:=h
 have hy:(QQ y).passes s:=λg hg=>BNM he h3 h4 (LD h2).1 (hp g hg)
 exact⟨y,List.mem_filter.2 ⟨h1,(ACO h2).2 hy⟩,h2,hy,h3,h4⟩
def loSl(a v:Int)(g:Gau):List Sl:=if a<g.st then [⟨g.lo-v,g.st-a⟩] else if g.st<a then [⟨v-g.hi,a-g.st⟩] else []
def upSl(a v:Int)(g:Gau):List Sl:=if a<g.st then [⟨g.hi-v,g.st-a⟩] else if g.st<a then [⟨v-g.lo,a-g.st⟩] else []
theorem Vk{a v m e:Int}{g:Gau}:okS a v m e g↔(∀x∈loSl a v g,x.m*e<=m*x.e)/\(∀x∈upSl a v g,m*x.e<=x.m*e)/\(g.st=a->g.lo*e<=v*e/\v*e<=g.hi*e):=by
 unfold okS loSl upSl
 by_cases h1:a<g.st
 ·simp only[h1,if_true,List.mem_singleton,forall_eq]
  constructor
  ·intro h;refine⟨by grind,by grind,by omega⟩
  ·intro h;constructor<;>grind
 ·by_cases h2:g.st<a
  ·simp only[h1,h2,if_true,if_false,List.mem_singleton,forall_eq]
   constructor
   ·intro h;refine⟨by grind,by grind,by omega⟩
   ·intro h;constructor<;>grind
  ·have:g.st=a:=by omega
   simp only[h1,h2,if_false,List.not_mem_nil,false_imp_iff,implies_true,true_and]
   rw[this,Int.sub_self,Int.mul_zero,Int.add_zero]
   simp
theorem BBR{a v:Int}{g:Gau}{x:Sl}(h:x∈loSl a v g):0<x.e:=by
 unfold loSl at h;split at h
 ·rw[List.mem_singleton.1 h];show 0<g.st-a;omega
 ·split at h
  ·rw[List.mem_singleton.1 h];show 0<a-g.st;omega
  ·cases h
theorem BAK{a v:Int}{g:Gau}{x:Sl}(h:x∈upSl a v g):0<x.e:=by
 unfold upSl at h;split at h
 ·rw[List.mem_singleton.1 h];show 0<g.st-a;omega
 ·split at h
  ·rw[List.mem_singleton.1 h];show 0<a-g.st;omega
  ·cases h
theorem H5{a b c d e f:Int}(hd:0<d)(h1:a*d<=c*b)(h2:c*f<=e*d)(hb:0<=b)(hf:0<=f):a*f<=e*b:=by
 have h3:=Int.mul_le_mul_of_nonneg_right h1 hf
 have h4:=Int.mul_le_mul_of_nonneg_right h2 hb
 refine Int.le_of_mul_le_mul_right (a:=d) ?_ hd
 grind
theorem W3{s:List Gau}(hs:∀g∈s,Ht g){a v n d:Int}(hp:(⟨a,v⟩:Pt)∈AB s)(hd:0<d)(hn:0<=n)(h:∀g∈s,okS a v n d g):∃y∈gV s,PO y/\(QQ y).passes s/\(QQ y).num a=v*(QQ y).w/\(QQ y).q*d<=n*(QQ y).w:=by
 obtain⟨x,hx,hm⟩:=BEU (⟨0,1⟩ :: s.flatMap (loSl a v)) (by simp) (λy hy=>by
  rcases List.mem_cons.1 hy with rfl | hy
  ·exact Int.one_pos
  ·obtain⟨g,_,hg⟩:=List.mem_flatMap.1 hy;exact BBR hg)
 have hxe:0<x.e:=by
  rcases List.mem_cons.1 hx with rfl | hy
  ·exact Int.one_pos
  ·obtain⟨g,_,hg⟩:=List.mem_flatMap.1 hy;exact BBR hg
 have hxm:0<=x.m:=by have:=hm ⟨0,1⟩ (List.mem_cons_self ..);simp at this;omega
 have hle:x.m*d<=n*x.e:=by
  rcases List.mem_cons.1 hx with rfl | hy
  ·simp;exact hn
  ·obtain⟨g,hg,hgx⟩:=List.mem_flatMap.1 hy;exact (Vk.1 (h g hg)).1 _ hgx
 have hok:∀g∈s,okS a v x.m x.e g:=λg hg=>Vk.2 ⟨λy hy=>hm y (List.mem_cons_of_mem _ (List.mem_flatMap.2 ⟨g,hg,hy⟩)),λy hy=>H5 hd hle ((Vk.1 (h g hg)).2.1 y hy) (Int.le_of_lt hxe) (Int.le_of_lt (BAK hy)),λhe=>by
  obtain⟨h1,h2⟩:=(Vk.1 (h g hg)).2.2 he
  exact⟨Int.mul_le_mul_of_nonneg_right (kH hd h1) (Int.le_of_lt hxe),Int.mul_le_mul_of_nonneg_right (kH hd h2) (Int.le_of_lt hxe)⟩⟩
 have hc:AOC s a v x.m x.e:=by
  rcases List.mem_cons.1 hx with rfl | hy
  ·exact BQX hs hp
  ·obtain⟨g,hg,hgx⟩:=List.mem_flatMap.1 hy
   unfold loSl at hgx
   split at hgx
   ·rename_i hlt
    have:=List.mem_singleton.1 hgx
    subst this
    exact AEA hs hp (Y7 hg) hlt (by have:0<=g.lo-v:=hxm;omega)
   ·split at hgx
    ·rename_i hlt
     have:=List.mem_singleton.1 hgx
     subst this
     exact ANT hs hp (AIB hg) hlt (by have:0<=v-g.hi:=hxm;omega)
    ·cases hgx
 obtain⟨y,y1,y2,y3,y4,y5⟩:=ANV hxe hc hok
 refine⟨y,y1,y2,y3,y4,?_⟩
 have hw:=(LD y2).1
 exact H5 hxe (by rw[y5];exact Int.le_refl _) hle (Int.le_of_lt hw) (Int.le_of_lt hd)
theorem BIP{s:List Gau}(hs:∀g∈s,Ht g){a v n d:Int}(hp:(⟨a,v⟩:Pt)∈AB s)(hd:0<d)(hn:0<=n)(h:∀g∈s,okS a v n d g)(ho:∃g∈s,g.st≠a):∃y∈gV s,PO y/\(QQ y).passes s/\(QQ y).num a=v*(QQ y).w/\n*(QQ y).w<=(QQ y).q*d:=by
 obtain⟨x,hx,hm⟩:=BEU ((s.flatMap (upSl a v)).map λz=>⟨-z.m,z.e⟩) (by
  obtain⟨g,hg,hne⟩:=ho
  intro he
  have he:=List.map_eq_nil_iff.1 he
  have:upSl a v g=[]:=by
   have:=List.flatMap_eq_nil_iff.1 he g hg;exact this
  unfold upSl at this
  by_cases h1:a<g.st
  ·rw[if_pos h1] at this;cases this
  ·rw[if_neg h1,if_pos (by omega)] at this;cases this) (λy hy=>by
  obtain⟨z,hz,rfl⟩:=List.mem_map.1 hy
  obtain⟨g,_,hg⟩:=List.mem_flatMap.1 hz;exact BAK (x:=z) hg)
 obtain⟨z,hz,rfl⟩:=List.mem_map.1 hx
 obtain⟨g0,hg0,hgz⟩:=List.mem_flatMap.1 hz
 have hze:0<z.e:=BAK hgz
 have hmz:∀g∈s,∀y∈upSl a v g,z.m*y.e<=y.m*z.e:=λg hg y hy=>by
  have:=hm ⟨-y.m,y.e⟩ (List.mem_map.2 ⟨y,List.mem_flatMap.2 ⟨g,hg,hy⟩,rfl⟩)
  simp only[Int.neg_mul] at this;omega
 have hle:n*z.e<=z.m*d:=(Vk.1 (h g0 hg0)).2.1 _ hgz
 have hzm:0<=z.m:=by
  have h1:=Int.mul_nonneg hn (Int.le_of_lt hze)
  exact kH hd (by rw[Int.zero_mul];omega)
 have hok:∀g∈s,okS a v z.m z.e g:=λg hg=>Vk.2 ⟨λy hy=>H5 hd ((Vk.1 (h g hg)).1 y hy) hle (Int.le_of_lt (BBR hy)) (Int.le_of_lt hze),λy hy=>hmz g hg y hy,λhe=>by
  obtain⟨h1,h2⟩:=(Vk.1 (h g hg)).2.2 he
  exact⟨Int.mul_le_mul_of_nonneg_right (kH hd h1) (Int.le_of_lt hze),Int.mul_le_mul_of_nonneg_right (kH hd h2) (Int.le_of_lt hze)⟩⟩
 have hc:AOC s a v z.m z.e:=by
  unfold upSl at hgz
  split at hgz
  ·rename_i hlt
   have:=List.mem_singleton.1 hgz
   subst this
   exact AEA hs hp (AIB hg0) hlt (by have:0<=g0.hi-v:=hzm;omega)
  ·split at hgz
   ·rename_i hlt
    have:=List.mem_singleton.1 hgz
    subst this
    exact ANT hs hp (Y7 hg0) hlt (by have:0<=v-g0.lo:=hzm;omega)
   ·cases hgz
 obtain⟨y,y1,y2,y3,y4,y5⟩:=ANV hze hc hok
 refine⟨y,y1,y2,y3,y4,?_⟩
 have hw:=(LD y2).1
 have:=H5 hze hle (by rw[<-y5];exact Int.le_refl _) (Int.le_of_lt hd) (Int.le_of_lt hw)
 exact this
theorem BZX{f:Rl}{s:List Gau}(hs:∀g∈s,Ht g)(hf:f.ok)(hp:f.passes s)(hne:s≠[]):gV s≠[]:=by
 obtain⟨g,hg,h1,_⟩:=AYT hf hp hne
 obtain⟨y,hy,_⟩:=W3 hs (Y7 hg) hf.1 hf.2 h1
 intro he;rw[he] at hy;cases hy
theorem xF{s:List Gau}{t:Int}{x:Ln}(h:s≠[]->gV s≠[]):x∈Nn s t↔x∈gV s∨x∈(Cv s t).filter (Y3 s):=by
 unfold Nn
 have:(bif decide (0<s.length) then decide ((gV s).length=0) else false)=false:=by
  by_cases hn:0<s.length
  ·rw[decide_eq_true hn]
   have:=h (by intro he;rw[he] at hn;cases hn)
   exact decide_eq_false (by intro he;exact this (List.eq_nil_of_length_eq_zero he))
  ·rw[decide_eq_false hn];rfl
 rw[this]
 exact List.mem_append
theorem Kh{s:List Gau}{t:Int}(hs:∀g∈s,Ht g){x:Ln}(hx:x∈Nn s t):PO x/\(QQ x).passes s:=by
 have hok:=BYP hs x hx
 refine⟨hok,(ACO hok).1 ?_⟩
 rw[yU] at hx
 revert hx
 cases (bif decide ((s.length:Int)>0) then ((gV s).length:Int)==0 else false) with
 |true=>intro hx;cases hx
 |false=>
  intro hx
  rcases List.mem_append.1 hx with hx | hx
  ·exact (List.mem_filter.1 hx).2
  ·have:=(List.mem_filter.1 hx).2
   unfold Y3 at this
   cases hr:Ww x with
   |true=>rw[hr] at this;exact this
   |false=>rw[hr] at this;cases this
theorem BQD{s:List Gau}{t v:Int}(h:v=0∨v=200000):UC ⟨t,v⟩∈Cv s t:=by
 unfold Cv moB
 rcases h with rfl | rfl<;>simp
theorem BWY{s:List Gau}{t:Int}{p:Pt}(h:p∈AB s):qS ⟨t,0⟩ p∈Cv s t/\qS p ⟨t,200000⟩∈Cv s t:=by
 unfold Cv
 constructor<;>(refine List.mem_append.2 (.inr (List.mem_flatMap.2 ⟨p,h,?_⟩));simp)
theorem ACK{s:List Gau}{x:Ln}(h1:PO x)(h2:(QQ x).passes s):Y3 s x=true:=by
 unfold Y3;rw[dG.2 h1];exact (ACO h1).2 h2
theorem AVK{f:Rl}{s:List Gau}{t:Int}(hs:∀g∈s,Ht g)(ht:0<=t/\t<=2000)(hf:f.ok)(hp:f.passes s):∃y∈Nn s t,PO y/\((QQ y).num t<=0∨(QQ y).num t*f.w<=f.num t*(QQ y).w):=by
 by_cases hne:s=[]
 ·subst hne
  have ho:PO (UC ⟨t,0⟩):=pS ⟨ht.1,ht.2,by show (0:Int)<=0;omega,by show (0:Int)<=200000;omega⟩
  refine⟨UC ⟨t,0⟩,(xF (λh=>(h rfl).elim)).2 (.inr (List.mem_filter.2 ⟨BQD (.inl rfl),ACK ho (λg hg=>by cases hg)⟩)),ho,.inl ?_⟩
  rw[(ACG _ _).1,Int.zero_mul];exact Int.le_refl _
 ·have hfl:=BZX hs hf hp hne
  obtain⟨g,hg,h1,h2⟩:=AYT hf hp hne
  have hm:∀y∈gV s,y∈Nn s t:=λy hy=>(xF (λ_=>hfl)).2 (.inl hy)
  by_cases hat:g.st<=t
  ·obtain⟨y,y1,y2,y3,y4,y5⟩:=W3 hs (Y7 hg) hf.1 hf.2 h1
   refine⟨y,hm y y1,y2,.inr ?_⟩
   have hw:=(LD y2).1
   have a1:=Int.mul_le_mul_of_nonneg_right y5 (show 0<=t-g.st by omega)
   have a2:=Int.mul_le_mul_of_nonneg_right (h2 t) (Int.le_of_lt hw)
   have e1:(QQ y).num t=g.lo*(QQ y).w+(QQ y).q*(t-g.st):=by unfold Rl.num at *;grind
   rw[e1];grind
  ·by_cases ho:∃h∈s,h.st≠g.st
   ·obtain⟨y,y1,y2,y3,y4,y5⟩:=BIP hs (Y7 hg) hf.1 hf.2 h1 ho
    refine⟨y,hm y y1,y2,.inr ?_⟩
    have hw:=(LD y2).1
    have a1:=Int.mul_le_mul_of_nonneg_right y5 (show 0<=g.st-t by omega)
    have a2:=Int.mul_le_mul_of_nonneg_right (h2 t) (Int.le_of_lt hw)
    have e1:(QQ y).num t=g.lo*(QQ y).w+(QQ y).q*(t-g.st):=by unfold Rl.num at *;grind
    rw[e1];grind
   ·have hall:∀h∈s,h.st=g.st:=λh hh=>Classical.byContradiction λhc=>ho ⟨h,hh,hc⟩
    have og:=hs g hg
    have hk:PO (qS ⟨t,0⟩ ⟨g.st,g.lo⟩):=⟨ht.1,by show t<g.st;omega,og.2.1,Int.le_refl _,og.2.2.1,by show g.lo<=200000;have:=og.2.2.2;omega⟩
    refine⟨_,(xF (λ_=>hfl)).2 (.inr (List.mem_filter.2 ⟨(BWY (Y7 hg)).1,ACK hk (λh hh=>?_)⟩)),hk,.inl ?_⟩
    ·obtain⟨b1,b2⟩:=(Vk.1 (h1 h hh)).2.2 (hall h hh)
     have c1:=kH hf.1 b1
     have c2:=kH hf.1 b2
     unfold Rl.pass
     rw[Y8,hall h hh]
     have hw:0<g.st-t:=by omega
     have e:(QQ (qS ⟨t,0⟩ ⟨g.st,g.lo⟩)).w=g.st-t:=rfl
     rw[e]
     have d1:=Int.mul_le_mul_of_nonneg_right c1 (Int.le_of_lt hw)
     have d2:=Int.mul_le_mul_of_nonneg_right c2 (Int.le_of_lt hw)
     constructor<;>simp only[Int.zero_mul,Int.zero_add,Int.sub_zero]<;>omega
    ·rw[Y8];simp
theorem BMO{f:Rl}{s:List Gau}{t:Int}(hs:∀g∈s,Ht g)(ht:0<=t/\t<=2000)(hf:f.ok)(hp:f.passes s):∃y∈Nn s t,PO y/\(200000*(QQ y).w<=(QQ y).num t∨f.num t*(QQ y).w<=(QQ y).num t*f.w):=by
 by_cases hne:s=[]
 ·subst hne
  have ho:PO (UC ⟨t,200000⟩):=pS ⟨ht.1,ht.2,by show (0:Int)<=200000;omega,by show (200000:Int)<=200000;omega⟩
  refine⟨UC ⟨t,200000⟩,(xF (λh=>(h rfl).elim)).2 (.inr (List.mem_filter.2 ⟨BQD (.inr rfl),ACK ho (λg hg=>by cases hg)⟩)),ho,.inl ?_⟩
  rw[(ACG _ _).1];exact Int.le_refl _
 ·have hfl:=BZX hs hf hp hne
  obtain⟨g,hg,h1,h2⟩:=BWC hf hp hne
  have hm:∀y∈gV s,y∈Nn s t:=λy hy=>(xF (λ_=>hfl)).2 (.inl hy)
  by_cases hat:t<=g.st
  ·obtain⟨y,y1,y2,y3,y4,y5⟩:=W3 hs (AIB hg) hf.1 hf.2 h1
   refine⟨y,hm y y1,y2,.inr ?_⟩
   have hw:=(LD y2).1
   have a1:=Int.mul_le_mul_of_nonneg_right y5 (show 0<=g.st-t by omega)
   have a2:=Int.mul_le_mul_of_nonneg_right (h2 t) (Int.le_of_lt hw)
   have e1:(QQ y).num t=g.hi*(QQ y).w+(QQ y).q*(t-g.st):=by unfold Rl.num at *;grind
   rw[e1];grind
  ·by_cases ho:∃h∈s,h.st≠g.st
   ·obtain⟨y,y1,y2,y3,y4,y5⟩:=BIP hs (AIB hg) hf.1 hf.2 h1 ho
    refine⟨y,hm y y1,y2,.inr ?_⟩
    have hw:=(LD y2).1
    have a1:=Int.mul_le_mul_of_nonneg_right y5 (show 0<=t-g.st by omega)
    have a2:=Int.mul_le_mul_of_nonneg_right (h2 t) (Int.le_of_lt hw)
    have e1:(QQ y).num t=g.hi*(QQ y).w+(QQ y).q*(t-g.st):=by unfold Rl.num at *;grind
    rw[e1];grind
   ·have hall:∀h∈s,h.st=g.st:=λh hh=>Classical.byContradiction λhc=>ho ⟨h,hh,hc⟩
    have og:=hs g hg
    have hk:PO (qS ⟨g.st,g.hi⟩ ⟨t,200000⟩):=⟨og.1,by show g.st<t;omega,ht.2,by show 0<=g.hi;have:=og.2.2;omega,og.2.2.2.2,by show (200000:Int)<=200000;omega⟩
    refine⟨_,(xF (λ_=>hfl)).2 (.inr (List.mem_filter.2 ⟨(BWY (AIB hg)).2,ACK hk (λh hh=>?_)⟩)),hk,.inl ?_⟩
    ·obtain⟨b1,b2⟩:=(Vk.1 (h1 h hh)).2.2 (hall h hh)
     have c1:=kH hf.1 b1
     have c2:=kH hf.1 b2
     unfold Rl.pass
     rw[Y8,hall h hh]
     have hw:0<t-g.st:=by omega
     have e:(QQ (qS ⟨g.st,g.hi⟩ ⟨t,200000⟩)).w=t-g.st:=rfl
     rw[e]
     have d1:=Int.mul_le_mul_of_nonneg_right c1 (Int.le_of_lt hw)
     have d2:=Int.mul_le_mul_of_nonneg_right c2 (Int.le_of_lt hw)
     constructor<;>simp only[Int.sub_self,Int.mul_zero,Int.add_zero]<;>omega
    ·rw[Y8]
     show 200000*(t-g.st)<=g.hi*(t-g.st)+(200000-g.hi)*(t-g.st)
     grind
end Go.Bal
