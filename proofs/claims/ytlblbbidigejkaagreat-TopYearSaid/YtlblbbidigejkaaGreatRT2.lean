/- Package rating: the least and the greatest flow (no program in sight). -/
import Derived.Test.YtlblbbidigejkaaGreatRatH
set_option linter.unusedVariables false
set_option linter.unusedSimpArgs false
namespace Go.Bal
open Go Go.Sym Go.Proofs
def Ni(a b:Rt):Prop:=a.n*b.d<=b.n*a.d
def sN(r:Rt):Prop:=(0<r.d/\r.d<=2000)/\0<=r.n/\r.n<=200000*r.d
def ZY(f:Rl)(t:Int):Rt:=if f.num t<0 then⟨0,1⟩ else if 200000*f.w<f.num t then⟨200000,1⟩ else⟨f.num t,f.w⟩
theorem XR{f:Rl}{t:Int}(h:0<f.w):0<(ZY f t).d:=by
 unfold ZY;split
 ·exact Int.one_pos
 ·split
  ·exact Int.one_pos
  ·exact h
theorem LD{a b c:Rt}(ha:0<=a.d)(hb:0<b.d)(hc:0<=c.d)(h1:Ni a b)(h2:Ni b c):Ni a c:=AFP hb h1 h2 ha hc
theorem BHX(a:Rt):Ni a a:=Int.le_refl _
theorem P9{f g:Rl}{t u:Int}(hf:0<f.w)(hg:0<g.w)(h:f.num t*g.w<=g.num u*f.w):Ni (ZY f t) (ZY g u):=by
 unfold ZY Ni
 generalize f.num t=a at *
 generalize g.num u=b at *
 generalize f.w=c at *
 generalize g.w=d at *
 by_cases h1:a<0
 ·rw[if_pos h1]
  split
  ·simp
  ·split
   ·simp
   ·simp;omega
 ·rw[if_neg h1]
  have ha:=Int.mul_nonneg (show 0<=a by omega) (Int.le_of_lt hg)
  have hb:0<=b:=jD hf (by rw[Int.zero_mul];omega)
  rw[if_neg (show ¬b<0 by omega)]
  by_cases h2:200000*c<a
  ·rw[if_pos h2]
   have h3:=Int.mul_lt_mul_of_pos_right h2 hg
   have h4:200000*d<b:=Int.lt_of_mul_lt_mul_right (a:=c) (by grind) (Int.le_of_lt hf)
   rw[if_pos h4];simp
  ·rw[if_neg h2]
   split
   ·simp;omega
   ·exact h
theorem BYV{N W:Int}(hW:0<W):((jO N W).n<0↔N<0)/\(200000*(jO N W).d<(jO N W).n↔200000*W<N):=by
 have hv:=ATH (n:=N) hW
 have hd:=(BKM (n:=N) hW).1
 generalize jO N W=r at *
 refine⟨⟨λh=>?_,λh=>?_⟩,λh=>?_,λh=>?_⟩
 ·have:=Int.mul_neg_of_neg_of_pos h hW
  rcases Int.lt_or_le N 0 with h1 | h1
  ·exact h1
  ·have:=Int.mul_nonneg h1 (Int.le_of_lt hd);omega
 ·have:=Int.mul_neg_of_neg_of_pos h hd
  rcases Int.lt_or_le r.n 0 with h1 | h1
  ·exact h1
  ·have:=Int.mul_nonneg h1 (Int.le_of_lt hW);omega
 ·have:=Int.mul_lt_mul_of_pos_right h hW
  exact Int.lt_of_mul_lt_mul_right (a:=r.d) (by grind) (Int.le_of_lt hd)
 ·have:=Int.mul_lt_mul_of_pos_right h hd
  exact Int.lt_of_mul_lt_mul_right (a:=W) (by grind) (Int.le_of_lt hW)
theorem BES{x:Ln}{t:Int}(h:MM x):(JL x t).n*(ZY (OF x) t).d=(ZY (OF x) t).n*(JL x t).d:=by
 have hW:=(MC h).1
 obtain⟨h1,h2⟩:=BYV (N:=(OF x).num t) hW
 have hv:=ATH (n:=(OF x).num t) hW
 unfold JL APW ZY
 rw[BQG]
 by_cases c1:(OF x).num t<0
 ·rw[if_pos c1,if_pos (h1.2 c1)]
 ·rw[if_neg c1,if_neg (λh=>c1 (h1.1 h))]
  by_cases c2:200000*(OF x).w<(OF x).num t
  ·rw[if_pos c2,if_pos (h2.2 c2)]
  ·rw[if_neg c2,if_neg (λh=>c2 (h2.1 h))]
   exact hv
theorem HE{x:Ln}{t:Int}(h:MM x):sN (JL x t):=by
 have hd:=BLC (t:=t) h
 unfold JL APW
 split
 ·exact⟨⟨Int.one_pos,by show (1:Int)<=2000;omega⟩,Int.le_refl _,by show (0:Int)<=200000*1;omega⟩
 ·split
  ·exact⟨⟨Int.one_pos,by show (1:Int)<=2000;omega⟩,by show (0:Int)<=200000;omega,by show (200000:Int)<=200000*1;omega⟩
  ·exact⟨hd,by omega,by omega⟩
theorem AMZ{x:Ln}{t:Int}{r:Rt}(h:MM x)(hr:0<r.d):Ni (JL x t) r↔Ni (ZY (OF x) t) r:=by
 have hv:=BES (t:=t) h
 have h1:=(HE (t:=t) h).1.1
 have h2:=XR (t:=t) (MC h).1
 exact⟨λa=>LD (Int.le_of_lt h2) h1 (Int.le_of_lt hr) (by unfold Ni;omega) a,λa=>LD (Int.le_of_lt h1) h2 (Int.le_of_lt hr) (by unfold Ni;omega) a⟩
theorem AFR{x:Ln}{t:Int}{r:Rt}(h:MM x)(hr:0<r.d):Ni r (JL x t)↔Ni r (ZY (OF x) t):=by
 have hv:=BES (t:=t) h
 have h1:=(HE (t:=t) h).1.1
 have h2:=XR (t:=t) (MC h).1
 exact⟨λa=>LD (Int.le_of_lt hr) h1 (Int.le_of_lt h2) a (by unfold Ni;omega),λa=>LD (Int.le_of_lt hr) h2 (Int.le_of_lt h1) a (by unfold Ni;omega)⟩
theorem AND{a b:Rt}(ha:sN a)(hb:sN b):wr (a.n*b.d)=a.n*b.d:=by
 obtain⟨⟨a1,a2⟩,a3,a4⟩:=ha
 obtain⟨⟨b1,b2⟩,b3,b4⟩:=hb
 have h1:=mulb (A:=400000000) (B:=2000) a3 (by omega) (Int.le_of_lt b1) b2
 exact ER (by omega) (by omega)
theorem CVA{a b:Int}:cR a b>0↔b<a:=by
 unfold cR
 by_cases h:a<b
 ·simp[h];omega
 ·by_cases h2:b<a
  ·simp[h,h2]
  ·simp[h,h2]
theorem CMR{a b:Int}:cR a b<0↔a<b:=by
 unfold cR
 by_cases h:a<b
 ·simp[h]
 ·by_cases h2:b<a
  ·simp[h,h2]
  ·simp[h,h2]
theorem BBM{a b:Rt}(ha:sN a)(hb:sN b):J0 a b<0↔a.n*b.d<b.n*a.d:=by
 unfold J0;rw[AND ha hb,AND hb ha,CMR]
theorem BDG{a b:Rt}(ha:sN a)(hb:sN b):J0 a b>0↔b.n*a.d<a.n*b.d:=by
 unfold J0;rw[AND ha hb,AND hb ha,CVA]
theorem CKL{a b:Rt}(ha:sN a)(hb:sN b):ltR a b=false↔Ni b a:=by
 unfold ltR Ni;rw[decide_eq_false_iff_not,BBM ha hb];omega
theorem CMP{a b:Rt}(ha:sN a)(hb:sN b):gtR a b=false↔Ni a b:=by
 unfold gtR Ni;rw[decide_eq_false_iff_not,BDG ha hb];omega
theorem AKE{lt:Rt->Rt->Bool}{le:Rt->Rt->Prop}{t:Int}(hle:∀a b,sN a->sN b->(lt a b=false↔le b a))(hlt:∀a b,sN a->sN b->lt a b=true->le a b)(htr:∀a b c,sN a->sN b->sN c->le a b->le b c->le a c)(hrf:∀a,le a a):∀(l:List Ln) (b:Ln),MM b->(∀x∈l,MM x)->(l.foldl (Gb lt t) b=b∨l.foldl (Gb lt t) b∈l)/\MM (l.foldl (Gb lt t) b)/\le (JL (l.foldl (Gb lt t) b) t) (JL b t)/\∀x∈l,le (JL (l.foldl (Gb lt t) b) t) (JL x t)
 |[],b,hb,_=>⟨.inl rfl,hb,hrf _,λx hx=>by cases hx⟩
 |z :: l,b,hb,h=>by
  rw[List.foldl_cons]
  have hz:=h z (List.mem_cons_self ..)
  have hp:MM (Gb lt t b z)/\(Gb lt t b z=b∨Gb lt t b z=z)/\le (JL (Gb lt t b z) t) (JL b t)/\le (JL (Gb lt t b z) t) (JL z t):=by
   unfold Gb
   cases hc:lt (JL z t) (JL b t) with
   |true=>exact⟨hz,.inr rfl,hlt _ _ (HE hz) (HE hb) hc,hrf _⟩
   |false=>exact⟨hb,.inl rfl,hrf _,(hle _ _ (HE hz) (HE hb)).1 hc⟩
  obtain⟨p1,p2,p3,p4⟩:=hp
  obtain⟨r1,r2,r3,r4⟩:=AKE hle hlt htr hrf l (Gb lt t b z) p1 (λx hx=>h x (List.mem_cons_of_mem _ hx))
  refine⟨?_,r2,htr _ _ _ (HE r2) (HE p1) (HE hb) r3 p3,λx hx=>?_⟩
  ·rcases r1 with r1 | r1
   ·rw[r1]
    rcases p2 with p2 | p2
    ·exact .inl p2
    ·exact .inr (by rw[p2];exact List.mem_cons_self ..)
   ·exact .inr (List.mem_cons_of_mem _ r1)
  ·rcases List.mem_cons.1 hx with rfl | hx
   ·exact htr _ _ _ (HE r2) (HE p1) (HE hz) r3 p4
   ·exact r4 x hx
theorem BRM{l:List Ln}{t:Int}(h:∀x∈l,MM x)(hne:l≠[]):Zt ltR t l∈l/\∀x∈l,Ni (JL (Zt ltR t l) t) (JL x t):=by
 have h0:0<l.length:=List.length_pos_iff.2 hne
 obtain⟨r1,r2,r3,r4⟩:=AKE (lt:=ltR) (le:=Ni) (t:=t) (λa b ha hb=>CKL ha hb) (λa b ha hb hc=>by
  unfold ltR at hc;have:=(BBM ha hb).1 (of_decide_eq_true hc);unfold Ni;omega) (λa b c ha hb hc h1 h2=>LD (Int.le_of_lt ha.1.1) hb.1.1 (Int.le_of_lt hc.1.1) h1 h2) (λa=>BHX a) l (gD l 0) (h _ (FD h0)) h
 refine⟨?_,r4⟩
 rcases r1 with r1 | r1
 ·unfold Zt;rw[r1];exact FD h0
 ·exact r1
theorem BVB{l:List Ln}{t:Int}(h:∀x∈l,MM x)(hne:l≠[]):Zt gtR t l∈l/\∀x∈l,Ni (JL x t) (JL (Zt gtR t l) t):=by
 have h0:0<l.length:=List.length_pos_iff.2 hne
 obtain⟨r1,r2,r3,r4⟩:=AKE (lt:=gtR) (le:=λa b=>Ni b a) (t:=t) (λa b ha hb=>CMP ha hb) (λa b ha hb hc=>by
  unfold gtR at hc;have:=(BDG ha hb).1 (of_decide_eq_true hc);unfold Ni;omega) (λa b c ha hb hc h1 h2=>LD (Int.le_of_lt hc.1.1) hb.1.1 (Int.le_of_lt ha.1.1) h2 h1) (λa=>BHX a) l (gD l 0) (h _ (FD h0)) h
 refine⟨?_,r4⟩
 rcases r1 with r1 | r1
 ·unfold Zt;rw[r1];exact FD h0
 ·exact r1
theorem BAK{f:Rl}{s:List Gau}{t:Int}(hs:∀g∈s,Rz g)(ht:0<=t/\t<=2000)(hf:f.ok)(hp:f.passes s):Nj s t≠[]:=by
 obtain⟨y,hy,_⟩:=BHU hs ht hf hp
 intro he;rw[he] at hy;cases hy
def A2(s:List Gau)(t:Int):Bnd:=bndM (Nj s t) t
theorem BLS{s:List Gau}{t:Int}(h:Nj s t≠[]):A2 s t=⟨JL (Zt ltR t (Nj s t)) t,JL (Zt gtR t (Nj s t)) t⟩:=by
 unfold A2 bndM;rw[decide_eq_false (λhe=>h (List.eq_nil_of_length_eq_zero he))];rfl
theorem BQA{f:Rl}{s:List Gau}{t:Int}(hs:∀g∈s,Rz g)(ht:0<=t/\t<=2000)(hf:f.ok)(hp:f.passes s):Ni (A2 s t).lo (ZY f t):=by
 have hne:=BAK hs ht hf hp
 rw[BLS hne]
 obtain⟨b1,b2⟩:=BRM (t:=t) (λx hx=>(Fz hs hx).1) hne
 obtain⟨y,hy,oy,hc⟩:=BHU hs ht hf hp
 have hw:=(MC oy).1
 have key:Ni (ZY (OF y) t) (ZY f t):=by
  rcases hc with hc | hc
  ·have hz:Ni (ZY (OF y) t) ⟨0,1⟩:=by
    unfold ZY Ni;split
    ·exact Int.le_refl _
    ·rw[if_neg (by omega)];show (OF y).num t*1<=0*_;omega
   refine LD (b:=⟨0,1⟩) (Int.le_of_lt (XR hw)) Int.one_pos (Int.le_of_lt (XR hf.1)) hz ?_
   unfold ZY Ni;split
   ·exact Int.le_refl _
   ·split
    ·show (0:Int)*1<=200000*1;omega
    ·show 0*f.w<=f.num t*1;omega
  ·exact P9 hw hf.1 hc
 have ob:=(Fz hs b1).1
 exact LD (Int.le_of_lt (HE ob).1.1) (HE oy).1.1 (Int.le_of_lt (XR hf.1)) (b2 y hy) ((AMZ oy (XR hf.1)).2 key)
theorem BZB{f:Rl}{s:List Gau}{t:Int}(hs:∀g∈s,Rz g)(ht:0<=t/\t<=2000)(hf:f.ok)(hp:f.passes s):Ni (ZY f t) (A2 s t).hi:=by
 have hne:=BAK hs ht hf hp
 rw[BLS hne]
 obtain⟨b1,b2⟩:=BVB (t:=t) (λx hx=>(Fz hs hx).1) hne
 obtain⟨y,hy,oy,hc⟩:=BWU hs ht hf hp
 have hw:=(MC oy).1
 have key:Ni (ZY f t) (ZY (OF y) t):=by
  rcases hc with hc | hc
  ·have hz:Ni ⟨200000,1⟩ (ZY (OF y) t):=by
    unfold ZY Ni
    rw[if_neg (by omega)];split
    ·exact Int.le_refl _
    ·show 200000*(OF y).w<=(OF y).num t*1;omega
   refine LD (b:=⟨200000,1⟩) (Int.le_of_lt (XR hf.1)) Int.one_pos (Int.le_of_lt (XR hw)) ?_ hz
   unfold ZY Ni;split
   ·show (0:Int)*1<=200000*1;omega
   ·split
    ·exact Int.le_refl _
    ·show f.num t*1<=200000*f.w;omega
  ·exact P9 hf.1 hw hc
 have ob:=(Fz hs b1).1
 exact LD (Int.le_of_lt (XR hf.1)) (HE oy).1.1 (Int.le_of_lt (HE ob).1.1) ((AFR oy (XR hf.1)).2 key) (b2 y hy)
theorem AFL{s:List Gau}{t:Int}(hs:∀g∈s,Rz g)(h:Nj s t≠[]):(∃y,MM y/\(OF y).passes s/\(A2 s t).lo=JL y t)/\∃y,MM y/\(OF y).passes s/\(A2 s t).hi=JL y t:=by
 rw[BLS h]
 obtain⟨b1,_⟩:=BRM (t:=t) (λx hx=>(Fz hs hx).1) h
 obtain⟨c1,_⟩:=BVB (t:=t) (λx hx=>(Fz hs hx).1) h
 exact⟨⟨_,(Fz hs b1).1,(Fz hs b1).2,rfl⟩,_,(Fz hs c1).1,(Fz hs c1).2,rfl⟩
theorem AUR{f:Rl}{t u:Int}(hf:f.ok)(h:t<=u):Ni (ZY f t) (ZY f u):=by
 refine P9 hf.1 hf.1 ?_
 have:=Int.mul_le_mul_of_nonneg_left h hf.2
 exact Int.mul_le_mul_of_nonneg_right (by unfold Rl.num;omega) (Int.le_of_lt hf.1)
theorem BHM{s:List Gau}{t u:Int}(hs:∀g∈s,Rz g)(ht:0<=t)(htu:t<=u)(hu:u<=2000)(h:Nj s t≠[]):Ni (A2 s t).lo (A2 s u).lo/\Ni (A2 s t).hi (A2 s u).hi:=by
 obtain⟨_,y,oy,py,ey⟩:=AFL hs h
 have h2:Nj s u≠[]:=BAK hs ⟨by omega,hu⟩ (MC oy) py
 obtain⟨⟨z,oz,pz,ez⟩,y',oy',py',ey'⟩:=AFL hs h2
 obtain⟨⟨z',oz',pz',ez'⟩,_⟩:=AFL hs h
 have dz:=XR (f:=OF z) (t:=t) (MC oz).1
 have dz2:=XR (f:=OF z) (t:=u) (MC oz).1
 have dy:=XR (f:=OF y) (t:=t) (MC oy).1
 have dy2:=XR (f:=OF y) (t:=u) (MC oy).1
 refine⟨?_,?_⟩
 ·have a1:=BQA hs ⟨ht,by omega⟩ (MC oz) pz
  have a2:=AUR (MC oz) htu
  have d1:0<(A2 s t).lo.d:=by rw[ez'];exact (HE oz').1.1
  have a3:=LD (Int.le_of_lt d1) dz (Int.le_of_lt dz2) a1 a2
  rw[ez];exact (AFR oz d1).2 a3
 ·have a1:=BZB hs ⟨by omega,hu⟩ (MC oy) py
  have a2:=AUR (MC oy) htu
  have d1:0<(A2 s u).hi.d:=by rw[ey'];exact (HE oy').1.1
  have a3:=LD (Int.le_of_lt dy) dy2 (Int.le_of_lt d1) a2 a1
  rw[ey];exact (AMZ oy d1).2 a3
theorem CWD{s:List Gau}{t:Int}(hs:∀g∈s,Rz g)(ht:0<=t/\t<=2000)(h:Nj s t≠[]):sN (A2 s t).lo/\sN (A2 s t).hi/\Ni (A2 s t).lo (A2 s t).hi:=by
 obtain⟨⟨z,oz,pz,ez⟩,y,oy,py,ey⟩:=AFL hs h
 have a1:=BQA hs ht (MC oy) py
 refine⟨ez ▸ HE oz,ey ▸ HE oy,?_⟩
 have d1:0<(A2 s t).lo.d:=by rw[ez];exact (HE oz).1.1
 rw[ey];exact (AFR oy d1).2 a1
structure GBt where
 g:List Gau
 b:List Int
 t:Int
def dGBt:List AVal->Heap->Option (GBt×List (Nat×Nat)×List Nat)
 |[x,y,.d t],H=>match BIG x H,S6 y H with
  |some (l,f),some (m,e)=>some (⟨l,m,DG t⟩,[],f ++ e)
  |_,_=>none
 |_,_=>none
def xGBt(a:GBt):List AVal:=[.d (TB a.g),.d (BM a.b),.int a.t]
def gbt(a:GBt):GB:=⟨a.g,a.b⟩
def inT(a:GBt):Bool:=NJ a.t 0 2000
def preT(a:GBt):Prop:=a.g.length<4611686018427387904/\a.b.length<4611686018427387904
def C_stg:Ctr:={ α:=GBt,xs:=xGBt,L:=λ_=>[],val:=λ_=>.tup [.bptr 0 0,.int 0],keep:=λa=>[(0,.live (bkB (VX (gbt a)) 1)),(1,.live (bkM (VX (gbt a))))],pre:=λa=>[preT a/\OG (gbt a)=0/\inT a=true] }
def C_stgA:Ctr:={ α:=GBt,xs:=xGBt,L:=λ_=>[],val:=λ_=>.tup [.bptr 0 0,.int 4],keep:=λa=>[(0,.live (bkB (VX (gbt a)) 1)),(1,.live (bkM (VX (gbt a))))],pre:=λa=>[preT a/\OG (gbt a)=0/\inT a=false] }
def C_stgX:Ctr:={ α:=GBt,xs:=xGBt,L:=λ_=>[],val:=λa=>.tup [.d (.v (.pointer none)),.int (OG (gbt a))],keep:=λ_=>[],pre:=λa=>[preT a/\OG (gbt a)≠0] }
def BQL:Ann:=ann 25 [(69,C_open.spec dGB),(39,My)]
def BYD:Ann:=ann 25 [(69,C_openX.spec dGB),(39,My)]
def CRT(a:GBt):Prop:=AS ZP BQL Tryz.f37 (AG Tryz.f37) (xGBt a) (AC []) (C_stg.val a) (C_stg.keep a) [(0,2032),(1,2033)] []
abbrev vK:=GBt.g
abbrev vC:=GBt.b
abbrev cK:=GBt.t
abbrev YT a:=LI (vC a)
abbrev ZJ a:=NA (vK a)
abbrev ACH a b:=GB.mk (ZJ a) (YT b)
abbrev CM a:=Fv (ACH a a)
abbrev FR a:=Fv (gbt a)
abbrev pQ a b:=QR (FR a) b
abbrev nL a:=dE (FR a)
abbrev pU a:=Gt (FR a)
abbrev sA a:=DJ xE a
abbrev VM a b c d e f g:=AQ a b (CB c d e f g)
attribute [go_sem] vK vC cK YT ZJ ACH CM FR pQ nL pU sA VM
theorem CVR(a:GBt):(CRT a)=(And (VM (HT (ZJ a) (vK a)) (JC (ZJ a) (vK a)) (BH (YT a) (vC a)) (BO (YT a) (vC a)) (WL (ZJ a)) (oJ (YT a)) (BZ (AEW (ACH a a)))) (YL (IC (WO 0) (not (JR (cK a) 2000))) (Iy (sA 4) (eF (pU a) (CM a)) (λi=>EJ i (pU a) (PT (FR a) i) (PT (CM a) i) (PC (FR a) i) (PC (CM a) i) (QB (FR a) i) (QB (CM a) i)) (fP (nL a) (CM a)) (gM (nL a) (CM a)) A1 (AM (λi=>Ph (FR a) i (CM a) i)) (λi=>YZ (pQ a i) (CM a) i (λj=>Ew j (pQ a i) (FR a) i j (CM a) i j (ZC (GQ (FR a) i j) (GQ (CM a) i j) (GW (FR a) i j) (GW (CM a) i j) (XI (FR a) i j) (CM a) i j)))) (Iy AU (eF (pU a) (CM a)) (λi=>EJ i (pU a) (PT (FR a) i) (PT (CM a) i) (PC (FR a) i) (PC (CM a) i) (QB (FR a) i) (QB (CM a) i)) (fP (nL a) (CM a)) (gM (nL a) (CM a)) A1 (AM (λi=>Ph (FR a) i (CM a) i)) (λi=>YZ (pQ a i) (CM a) i (λj=>Ew j (pQ a i) (FR a) i j (CM a) i j (ZC (GQ (FR a) i j) (GQ (CM a) i j) (GW (FR a) i j) (GW (CM a) i j) (XI (FR a) i j) (CM a) i j)))))):=by kernel_rfl
def BZY(a:GBt):Prop:=AS ZP BQL Tryz.f37 (AG Tryz.f37) (xGBt a) (AC []) (C_stgA.val a) (C_stgA.keep a) [(0,2032),(1,2033)] []
theorem CLJ(a:GBt):(BZY a)=(And (VM (HT (ZJ a) (vK a)) (JC (ZJ a) (vK a)) (BH (YT a) (vC a)) (BO (YT a) (vC a)) (WL (ZJ a)) (oJ (YT a)) (BZ (AEW (ACH a a)))) (YL (IC (WO 0) (not (JR (cK a) 2000))) (Iy (aZ 4) (eF (pU a) (CM a)) (λi=>EJ i (pU a) (PT (FR a) i) (PT (CM a) i) (PC (FR a) i) (PC (CM a) i) (QB (FR a) i) (QB (CM a) i)) (fP (nL a) (CM a)) (gM (nL a) (CM a)) A1 (AM (λi=>Ph (FR a) i (CM a) i)) (λi=>YZ (pQ a i) (CM a) i (λj=>Ew j (pQ a i) (FR a) i j (CM a) i j (ZC (GQ (FR a) i j) (GQ (CM a) i j) (GW (FR a) i j) (GW (CM a) i j) (XI (FR a) i j) (CM a) i j)))) (Iy (uU (wM 4)) (eF (pU a) (CM a)) (λi=>EJ i (pU a) (PT (FR a) i) (PT (CM a) i) (PC (FR a) i) (PC (CM a) i) (QB (FR a) i) (QB (CM a) i)) (fP (nL a) (CM a)) (gM (nL a) (CM a)) A1 (AM (λi=>Ph (FR a) i (CM a) i)) (λi=>YZ (pQ a i) (CM a) i (λj=>Ew j (pQ a i) (FR a) i j (CM a) i j (ZC (GQ (FR a) i j) (GQ (CM a) i j) (GW (FR a) i j) (GW (CM a) i j) (XI (FR a) i j) (CM a) i j)))))):=by kernel_rfl
def CIW(a:GBt):Prop:=AS ZP BYD Tryz.f37 (AG Tryz.f37) (xGBt a) (AC []) (C_stgX.val a) [] [] []
abbrev ADW a:=AEW (gbt a)
attribute [go_sem] ADW
theorem CKS(a:GBt):(CIW a)=(And (VM (HT (ZJ a) (vK a)) (JC (ZJ a) (vK a)) (BH (YT a) (vC a)) (BO (YT a) (vC a)) (WL (ZJ a)) (oJ (YT a)) (Ha (AEW (ACH a a)))) (ABQ (IC (WO (AEW (ACH a a))) (not (JR (cK a) 2000))) pY (AN (ADW a) 4) (AN (ADW a) (AEW (ACH a a))))):=by kernel_rfl
theorem CXT:AH ZP 37 (C_stg.spec dGBt):=MK C_stg (λ_=>BQL) [(0,2032),(1,2033)] [] Tryz.func37 (λ_=>by kernel_rfl) (λ_=>AA BRI (AA ALI AD)) (λ(a:GBt) h=>by
 show CRT a;rw[CVR]<;> dsimp only[go_sem];simp only[CC,CU,show GB.mk a.g a.b=gbt a from rfl]
 obtain⟨⟨h1,h2⟩,h3,h4⟩:preT a/\OG (gbt a)=0/\inT a=true:=h
 unfold inT at h4
 refine⟨⟨h1,h2,h3⟩,λh=>?_⟩
 rw[show (!NJ a.t 0 2000)=false by rw[h4];rfl] at h;cases h) (λ_=>OA rfl rfl) _
theorem CQP:AH ZP 37 (C_stgA.spec dGBt):=MK C_stgA (λ_=>BQL) [(0,2032),(1,2033)] [] Tryz.func37 (λ_=>by kernel_rfl) (λ_=>AA BRI (AA ALI AD)) (λ(a:GBt) h=>by
 show BZY a;rw[CLJ]<;> dsimp only[go_sem];simp only[CC,CU,show GB.mk a.g a.b=gbt a from rfl]
 obtain⟨⟨h1,h2⟩,h3,h4⟩:preT a/\OG (gbt a)=0/\inT a=false:=h
 unfold inT at h4
 refine⟨⟨h1,h2,h3⟩,λh=>?_⟩
 rw[show (!NJ a.t 0 2000)=true by rw[h4];rfl] at h;cases h) (λ_=>OA rfl rfl) _
theorem CPO:AH ZP 37 (C_stgX.spec dGBt):=MK C_stgX (λ_=>BYD) [] [] Tryz.func37 (λ_=>by kernel_rfl) (λ_=>AA CHX (AA ALI AD)) (λ(a:GBt) h=>by
 show CIW a;rw[CKS]<;> dsimp only[go_sem];simp only[CC,CU]
 obtain⟨⟨h1,h2⟩,h3⟩:preT a/\OG (gbt a)≠0:=h
 refine⟨⟨h1,h2,h3⟩,λh=>?_,λ_=>rfl⟩
 have h3:OG (GB.mk a.g a.b)≠0:=h3
 rw[show (OG (GB.mk a.g a.b)==0)=false by simpa using h3] at h;cases h) (λ_=>OA rfl rfl) _
def bkT(a:GBt):BkT:=⟨VX (gbt a),a.t⟩
def Db(a:GBt):Int:=bif OG (gbt a)==0 then (bif inT a then (bif decide ((lB (bkT a)).length=0) then 6 else 0) else 4) else OG (gbt a)
def UP(a:GBt):Bnd:=bif Db a==0 then bndM (lB (bkT a)) a.t else default
def C_Flow:Ctr:={ α:=GBt,xs:=xGBt,L:=λ_=>[],val:=λa=>.tup [.d (eBnd (UP a)),.int (Db a)],keep:=λ_=>[],pre:=λa=>[preT a/\True] }
def BUW:Ann:=ann 33 [(37,C_stg.spec dGBt),(38,C_bnd.spec dBkt)]
def BUM:Ann:=ann 33 [(37,C_stgA.spec dGBt),(38,C_bnd.spec dBkt)]
def BSF:Ann:={ ann 33 [(37,C_stgX.spec dGBt),(38,C_bnd.spec dBkt)] with cut:=λid=>if id=4 then some [] else none }
def BUB(a:GBt):Prop:=AS ZP BUW Tryz.f10 (AG Tryz.f10) (xGBt a) (AC []) (C_Flow.val a) [] [] []
abbrev cY:=UP
abbrev AKR:=Db
abbrev ADR a b c:=GBt.mk (ZJ a) (YT b) (cK c)
abbrev XP a:=FR (ADR a a a)
abbrev pN a:=dE (XP a)
abbrev AHL a:=BDL (XP a)
abbrev Mx a:=BAQ (AHL a) (pN a) (XP a)
abbrev Tw a b:=BkT.mk (Mx a) (cK b)
abbrev gC a b:=BMJ a (Kl b)
attribute [go_sem] cY AKR ADR XP pN AHL Mx Tw gC
theorem CIQ(a:GBt):(BUB a)=(AQ (AO (HT (ZJ a) (vK a)) (JC (ZJ a) (vK a)) (BH (YT a) (vC a)) (JG (BO (YT a) (vC a)) (AI (cK a)) (And (WL (ZJ a)) (oJ (YT a))) (ADW (ADR a a a)) 0 (GT (inT (ADR a a a))))) (Fj (AI (cK a)) (TM (AHL a) (Gt (XP a))) (AE (λi=>iG i (AHL a) (PT (XP a) i) (PC (XP a) i) (Xg (XP a) i))) (JZ (pN a)) (JO (pN a)) ES A1 (DY (fB (XP a)) (AM (λi=>YZ (QR (Mx a) i) (XP a) i (λj=>Ew j (QR (Mx a) i) (Mx a) i j (XP a) i j (ZC (GQ (Mx a) i j) (GQ (XP a) i j) (GW (Mx a) i j) (GW (XP a) i j) (XI (Mx a) i j) (XP a) i j)))) (eF (Gt (XP a)) (jY (Mx a) (Tw a a))) (λi=>EJ i (Gt (XP a)) (PT (XP a) i) (PT (jY (Mx a) (Tw a a)) i) (PC (XP a) i) (PC (jY (Mx a) (Tw a a)) i) (QB (XP a) i) (QB (jY (Mx a) (Tw a a)) i)) (fP (pN a) (jY (Mx a) (Tw a a))) (gM (pN a) (jY (Mx a) (Tw a a))) (TY (I0 (AHL a)) (C1 (λi=>wY (AER i (AHL a)) i)) (XN (pN a)) 24 (Aj ZK (pN a)) (AM (λi=>Wd (zB i (pN a)) (Bo i) (SB i)))) (IM (cK a)) (SB (cK a)))) (Be (sT (Tw a a)) (YJ (Cd (cY a)) 0 (BZ (WX (cY a))) (BZ (Kl (cY a))) (XF (cY a)) 0 (AKR a) 6) (YJ (Cd (cY a)) (Cd (AHJ (Tw a a) (cK a))) (AN (WX (cY a)) (WX (AHJ (Tw a a) (cK a)))) (gC (cY a) (AHJ (Tw a a) (cK a))) (XF (cY a)) (XF (AHJ (Tw a a) (cK a))) (AKR a) 0))):=by kernel_rfl
def BSH(a:GBt):Prop:=AS ZP BUM Tryz.f10 (AG Tryz.f10) (xGBt a) (AC []) (C_Flow.val a) [] [] []
theorem CHK(a:GBt):(BSH a)=(((HQ a.g.length λ(i:Nat)=>gD a.g i).length=a.g.length/\(∀(i:Nat),i<(HQ a.g.length λ(i:Nat)=>gD a.g i).length->(gD (HQ a.g.length λ(i:Nat)=>gD
 a.g i) i).st=(gD a.g i).st/\(gD (HQ a.g.length λ(i:Nat)=>gD a.g i) i).lo=(gD a.g i).lo/\(gD (HQ a.g.length λ(i:Nat)=>gD a.g i) i).hi=(gD a.g i).hi)/\(HQ a.b.length λ(i:Nat)=>gD a.b
 i).length=a.b.length/\(∀(i:Nat),i<(HQ a.b.length λ(i:Nat)=>gD a.b i).length->gD (HQ a.b.length λ(i:Nat)=>gD a.b i) i=gD a.b i)/\a.t=a.t/\((HQ a.g.length λ(i:Nat)=>gD a.g i).length
 < 4611686018427387904/\(HQ a.b.length λ(i:Nat)=>gD a.b i).length<4611686018427387904)/\OG (gbt (GBt.mk (HQ a.g.length λ(i:Nat)=>gD a.g i) (HQ a.b.length λ(i:Nat)=>gD a.b i) a.t))=0/\inT
 (GBt.mk (HQ a.g.length λ(i:Nat)=>gD a.g i) (HQ a.b.length λ(i:Nat)=>gD a.b i) a.t)=false)/\(UP a).lo.n=0/\(UP a).lo.d=0/\(UP a).hi.n=0/\(UP a).hi.d=0/\Db a=4):=by
 kernel_rfl
def BQN(a:GBt):Prop:=AS ZP BSF Tryz.f10 (AG Tryz.f10) (xGBt a) (AC []) (C_Flow.val a) [] [] []
theorem CBO(a:GBt):(BQN a)=(AQ (AQ (HT (ZJ a) (vK a)) (JC (ZJ a) (vK a)) (PO (BH (YT a) (vC a)) (BO (YT a) (vC a)) (cK a) (And (WL (ZJ a)) (oJ (YT a))) (Ha (ADW (ADR a a a))))) (nJ (ADW (ADR a a a)) (YJ (Cd (cY a)) 0 (BZ (WX (cY a))) (BZ (Kl (cY a))) (XF (cY a)) 0 (AKR a) (ADW (ADR a a a))) Tt) EB):=by kernel_rfl
theorem BJT:∀(l:List Int) (x:Int),0<=x/\x<=2000->brk x l=0->l.Pairwise (· < ·)/\∀y∈l,x<y/\y<=2000
 |[],_,_,_=>⟨.nil,by simp⟩
 |z :: l,x,hx,h=>by
  unfold brk at h
  cases hi:NJ z (wr (x+1)) 2000 with
  |false=>rw[hi] at h;cases h
  |true=>
   rw[hi] at h
   unfold wr NJ at hi
   rw[ER (n:=x+1) (by omega) (by omega)] at hi
   simp only[Bool.and_eq_true,decide_eq_true_eq] at hi
   obtain⟨h1,h2⟩:=BJT l z (by omega) h
   refine⟨List.pairwise_cons.2 ⟨λy hy=>(h2 y hy).1,h1⟩,λy hy=>?_⟩
   rcases List.mem_cons.1 hy with rfl | hy
   ·exact⟨by omega,by omega⟩
   ·have:=h2 y hy;exact⟨by omega,this.2⟩
theorem BSU{a:GB}(h:OG a=0):cQ a.g a.b:=by
 unfold OG at h
 cases h1:LY a.g==0 with
 |false=>rw[h1] at h;rw[show LY a.g=0 from h] at h1;cases h1
 |true=>
  rw[h1] at h
  have h:UR a.b=0:=h
  have h1:LY a.g=0:=by simpa using h1
  unfold LY at h1
  cases h2:NJ a.g.length 1 24 with
  |false=>rw[h2] at h1;cases h1
  |true=>
   rw[h2] at h1
   cases h3:a.g.all riG with
   |false=>rw[h3] at h1;cases h1
   |true=>
    unfold NJ at h2
    simp only[Bool.and_eq_true,decide_eq_true_eq] at h2
    unfold UR at h
    split at h
    ·cases h
    ·obtain⟨h5,h6⟩:=BJT _ 0 (by omega) h
     refine⟨by omega,λx hx=>?_,by omega,h5,λy hy=>⟨by have:=h6 y hy;omega,(h6 y hy).2⟩⟩
     have:=List.all_eq_true.1 h3 x hx
     unfold riG NJ at this
     simp only[Bool.and_eq_true,decide_eq_true_eq] at this
     unfold Rz;omega
theorem CNV:AH ZP 10 (C_Flow.spec dGBt):=Ctr.spec_ok (C:=C_Flow) (λ(a:GBt) h=>by
 have h:preT a:=(show preT a/\True from h).1
 by_cases hE:OG (gbt a)=0
 ·cases hT:inT a with
  |true=>
   refine TF (A:=BUW) (L:=[]) (keep:=[]) (ren:=[]) (fz:=[]) Tryz.func10 (by kernel_rfl) (AA CXT (AA BMP AD)) ?_
   show BUB a;rw[CIQ]<;> dsimp only[go_sem];simp only[CC,CU,AJT,BRP,CUK,CUC,BRG,show GBt.mk a.g a.b a.t=a from rfl,show BkT.mk (VX (gbt a)) a.t=bkT a from rfl]
   have hi:0<=a.t/\a.t<=2000:=by
    unfold inT NJ at hT;simpa using hT
   have hb:cQ (gbt a).g (gbt a).b:=BSU hE
   refine⟨⟨h,hE,hT⟩,⟨hb,hi⟩,λhc=>?_,λhc=>?_⟩
   ·have e:Db a=6:=by unfold Db;rw[hE,hT,decide_eq_true (show (lB (bkT a)).length=0 by omega)];rfl
    have e2:UP a=default:=by unfold UP;rw[e];rfl
    rw[e2];exact⟨rfl,rfl,rfl,rfl,e⟩
   ·have e:Db a=0:=by unfold Db;rw[hE,hT,decide_eq_false hc];rfl
    have e2:UP a=bndM (lB (bkT a)) a.t:=by unfold UP;rw[e];rfl
    rw[e2];exact⟨rfl,rfl,rfl,rfl,e⟩
  |false=>
   refine TF (A:=BUM) (L:=[]) (keep:=[]) (ren:=[]) (fz:=[]) Tryz.func10 (by kernel_rfl) (AA CQP (AA BMP AD)) ?_
   show BSH a;rw[CHK];simp only[CC,CU,show GBt.mk a.g a.b a.t=a from rfl]
   have e:Db a=4:=by unfold Db;rw[hE,hT];rfl
   have e2:UP a=default:=by unfold UP;rw[e];rfl
   rw[e2];exact⟨⟨h,hE,hT⟩,rfl,rfl,rfl,rfl,e⟩
 ·refine TF (A:=BSF) (L:=[]) (keep:=[]) (ren:=[]) (fz:=[]) Tryz.func10 (by kernel_rfl) (AA CPO (AA BMP AD)) ?_
  show BQN a;rw[CBO]<;> dsimp only[go_sem];simp only[CC,CU,show GBt.mk a.g a.b a.t=a from rfl]
  have e:Db a=OG (gbt a):=by unfold Db;rw[show (OG (gbt a)==0)=false by simpa using hE];rfl
  have e2:UP a=default:=by unfold UP;rw[e,show (OG (gbt a)==0)=false by simpa using hE];rfl
  rw[e2];exact⟨⟨h,hE⟩,λ_=>⟨rfl,rfl,rfl,rfl,e⟩,λhc=>hE (by simpa using hc)⟩) _
structure BnF where
 b:Bnd
 f:Rt
def st1(a:BnF):Bool:=decide (J0 a.b.hi a.f<0)
def st2(a:BnF):Bool:=decide (J0 a.b.lo a.f<=0)
def upL(pr:Int->Bool):Nat->Int->Int->Int
 |0,lo,_=>lo
 |n+1,lo,hi=>bif decide (lo<hi) then (bif pr (lo+(hi-lo+1).tdiv 2) then upL pr n (lo+(hi-lo+1).tdiv 2) hi else upL pr n lo (lo+(hi-lo+1).tdiv 2-1)) else lo
structure UpI where
 w:Bk
 k:Int
 f:Rt
def upP(v:BnF->Bool)(a:UpI)(t:Int):Bool:=v ⟨bndM (lB ⟨a.w,t⟩) t,a.f⟩
def upM(v:BnF->Bool)(a:UpI):Int:=upL (upP v a) 3000 ((aS a.w a.k).lo-1) (aS a.w a.k).hi
theorem BQT{w:Bk}{k:Int}(h:cQ w.g w.b)(h1:0<=k)(h2:k<=w.b.length):0<=(aS w k).lo/\(aS w k).lo<=(aS w k).hi/\(aS w k).hi<=2000/\∀m:Int,(aS w k).lo<=m->m<=(aS w k).hi->(iV w.b m:Int)=k:=by
 obtain⟨_,_,_,hasc,hbr⟩:=h
 obtain⟨n,rfl⟩:=Int.eq_ofNat_of_zero_le h1
 have h2:n<=w.b.length:=Int.ofNat_le.1 h2
 have hb:∀i,i<w.b.length->1<=gD w.b i/\gD w.b i<=2000:=λi hi=>hbr _ (FD hi)
 have elo:(aS w n).lo=if 0<n then gD w.b (n-1) else 0:=by
  show (bif decide ((n:Int)>0) then gD w.b ((n:Int)-1).toNat else 0)=_
  by_cases h0:0<n
  ·rw[decide_eq_true (show (n:Int)>0 by omega),if_pos h0,show ((n:Int)-1).toNat=n-1 by omega];rfl
  ·rw[decide_eq_false (show ¬(n:Int)>0 by omega),if_neg h0];rfl
 have ehi:(aS w n).hi=if n<w.b.length then gD w.b n-1 else 2000:=by
  show (bif decide ((n:Int)<w.b.length) then wr (gD w.b (n:Int).toNat-1) else 2000)=_
  by_cases h0:n<w.b.length
  ·have:=hb n h0
   rw[decide_eq_true (show (n:Int)<w.b.length by omega),if_pos h0,Int.toNat_natCast]
   unfold wr;rw[ER (by omega) (by omega)];rfl
  ·rw[decide_eq_false (show ¬(n:Int)<w.b.length by omega),if_neg h0];rfl
 have h3:0<n->n<w.b.length->gD w.b (n-1)<gD w.b n:=λa b=>mF hasc (by omega) b
 refine⟨?_,?_,?_,λm hm hm2=>?_⟩
 ·rw[elo];split
  ·have:=hb (n-1) (by omega);omega
  ·omega
 ·rw[elo,ehi];split<;>split
  ·have:=h3 (by omega) (by omega);omega
  ·exact (hb (n-1) (by omega)).2
  ·have:=hb n (by omega);omega
  ·omega
 ·rw[ehi];split
  ·have:=hb n (by omega);omega
  ·omega
 ·congr 1
  refine APC h2 (λj hj=>?_) (λj hj hj2=>?_)
  ·rw[elo,if_pos (by omega)] at hm
   have:gD w.b j<=gD w.b (n-1):=by
    by_cases e:j=n-1
    ·rw[e];exact Int.le_refl _
    ·exact Int.le_of_lt (mF hasc (by omega) (by omega))
   exact decide_eq_true (by omega)
  ·rw[ehi,if_pos (by omega)] at hm2
   have:gD w.b n<=gD w.b j:=by
    by_cases e:n=j
    ·rw[e];exact Int.le_refl _
    ·exact Int.le_of_lt (mF hasc (by omega) hj2)
   exact decide_eq_false (by omega)
theorem CHU{lo hi:Int}(h:lo<hi):lo<lo+(hi-lo+1).tdiv 2/\lo+(hi-lo+1).tdiv 2<=hi:=by
 rw[Int.tdiv_eq_ediv_of_nonneg (by omega)];omega
structure GBf where
 a:GB
 f:Int
def stF(x:GBf)(k:Nat):Int:=upM st1 ⟨VX x.a,k,⟨x.f,1⟩⟩+1
def stL(x:GBf)(k:Nat):Int:=upM st2 ⟨VX x.a,k,⟨x.f,1⟩⟩
theorem BMD{pr:Int->Bool}:∀(n:Nat) (lo hi:Int),lo<=hi->lo<=upL pr n lo hi/\upL pr n lo hi<=hi
 |0,lo,hi,h=>⟨Int.le_refl _,h⟩
 |n+1,lo,hi,h=>by
  unfold upL
  by_cases hl:lo<hi
  ·obtain⟨h3,h4⟩:=CHU hl
   rw[decide_eq_true hl]
   cases pr (lo+(hi-lo+1).tdiv 2)
   ·have:=BMD (pr:=pr) n lo (lo+(hi-lo+1).tdiv 2-1) (by omega);exact⟨this.1,by have:=this.2;show upL _ _ _ _<=_;omega⟩
   ·have:=BMD (pr:=pr) n (lo+(hi-lo+1).tdiv 2) hi h4;exact⟨by have:=this.1;show _<=upL _ _ _ _;omega,this.2⟩
  ·rw[decide_eq_false hl];exact⟨Int.le_refl _,h⟩
theorem CXI{v:BnF->Bool}{a:UpI}(h:cQ a.w.g a.w.b)(h1:0<=a.k)(h2:a.k<=a.w.b.length):(aS a.w a.k).lo-1<=upM v a/\upM v a<=(aS a.w a.k).hi /\ -1<=upM v a/\upM v a<=2000:=by
 obtain⟨s1,s2,s3,_⟩:=BQT h h1 h2
 obtain⟨i1,i2⟩:=BMD (pr:=upP v a) 3000 ((aS a.w a.k).lo-1) (aS a.w a.k).hi (by omega)
 unfold upM;omega
def srtK(s:List Gau):Nat->Bool
 |0=>true
 |k+1=>bif decide (cR (gD s (k+1)).st (gD s k).st<0) then false else srtK s k
def srtM(s:List Gau):Bool:=srtK s (s.length-1)
structure GK where
 g:List Gau
 k:List Int
def nmL(a:GK):List Gau:=a.k.map λi=>gD a.g i.toNat
def nmOk(a:GK):Bool:=bif NJ a.k.length 2 3 then a.k.all λx=>NJ x 0 (wr (a.g.length-1)) else false
def nmB(s:List Gau):Bool:=bif srtM s then decide ((gD s 0).st<(gD s (s.length-1)).st) else false
def nmM(a:GK):List Gau×Bool:=bif nmOk a then (nmL a,nmB (nmL a)) else ([],false)
theorem wX{g:List Gau}(h:LY g=0):(1<=g.length/\g.length<=24)/\∀x∈g,Rz x:=by
 unfold LY at h
 cases h2:NJ g.length 1 24 with
 |false=>rw[h2] at h;cases h
 |true=>
  rw[h2] at h
  cases h3:g.all riG with
  |false=>rw[h3] at h;cases h
  |true=>
   unfold NJ at h2
   simp only[Bool.and_eq_true,decide_eq_true_eq] at h2
   refine⟨by omega,λx hx=>?_⟩
   have:=List.all_eq_true.1 h3 x hx
   unfold riG NJ at this
   simp only[Bool.and_eq_true,decide_eq_true_eq] at this
   unfold Rz;omega
def lX(g:List Gau)(x:Int):Int:=(gD g x.toNat).st
def rowI(l:List Int):AObj:=.row 1 l.length λi=>CF (gD l i)
def swL(l:List Int)(j:Nat):List Int:=(l.set j (gD l (j+1))).set (j+1) (gD l j)
def insJ(key:Int->Int):Nat->List Int->List Int
 |0,l=>l
 |j+1,l=>bif decide (cR (key (gD l (j+1))) (key (gD l j))<0) then insJ key j (swL l j) else l
def stR(key:Int->Int):Nat->Nat->List Int->List Int
 |0,_,l=>l
 |n+1,i,l=>stR key n (i+1) (insJ key i l)
def stM(key:Int->Int)(l:List Int):List Int:=stR key (l.length-1) 1 l
theorem BRX{l:List Int}{j i:Nat}{x:Int}(hj:j<l.length):gD (l.set j x) i=bif decide (i=j) then x else gD l i:=by
 unfold gD
 rw[List.getD_eq_getElem?_getD,List.getD_eq_getElem?_getD,List.getElem?_set]
 by_cases h:i=j
 ·subst h;simp[hj]
 ·simp[h,Ne.symm h]
theorem BFL{l:List Int}{j i:Nat}(hj:j+1<l.length):gD (swL l j) i=bif decide (i=j) then gD l (j+1) else bif decide (i=j+1) then gD l j else gD l i:=by
 unfold swL
 rw[BRX (by simpa using hj),BRX (by omega)]
 by_cases h:i=j
 ·subst h;simp
 ·simp[h]
theorem AYB(l:List Int)(j:Nat):(swL l j).length=l.length:=by simp[swL]
def CSD(a:GK):Bool:=bif (nmM a).2 then !(lP (nmM a).1).2 else false
def knt3(g:List Gau)(a b:Int):List Int->Option (List Int)
 |[]=>none
 |c :: cs=>bif CSD ⟨g,[a,b,c]⟩ then some [a,b,c] else knt3 g a b cs
def orO(x y:Option (List Int)):Option (List Int):=match x with
 |some z=>some z
 |none=>y
def knt2(g:List Gau)(a:Int):List Int->Option (List Int)
 |[]=>none
 |b :: cs=>bif CSD ⟨g,[a,b]⟩ then some [a,b] else orO (knt3 g a b cs) (knt2 g a cs)
def knt1(g:List Gau):List Int->Option (List Int)
 |[]=>none
 |a :: bs=>orO (knt2 g a bs) (knt1 g bs)
def kntM(a:GK):List Int:=(knt1 a.g a.k).getD []
structure GPk where
 g:List Gau
 o:List Int
 a:Int
 b:Int
def pkL(a:GPk):List Int:=(a.o.take a.b.toNat).drop a.a.toNat
def pkM(a:GPk):List Gau:=(pkL a).map λi=>gD a.g i.toNat
theorem BYT{l:List Int}{i:Nat}(h:i<l.length):l.drop i=gD l i :: l.drop (i+1):=by
 rw[List.drop_eq_getElem_cons h];simp[gD,List.getD_eq_getElem?_getD,h]
theorem BAF(l:List Int)(i j:Nat):gD (l.drop i) j=gD l (i+j):=by
 simp[gD,List.getD_eq_getElem?_getD]
theorem CXV{α:Type}[Inhabited α]{l m:List α}(h:l.length=m.length)(h2:∀i,i<l.length->gD l i=gD m i):l=m:=by
 apply List.ext_getElem h
 intro i h3 h4
 have:=h2 i h3
 simpa[gD,List.getD_eq_getElem?_getD,h3,h4] using this
theorem CZG{l:List Int}{j:Nat}(h:j+1<l.length):l=l.take j ++ (gD l j :: gD l (j+1) :: l.drop (j+2))/\swL l j=l.take j ++ (gD l (j+1) :: gD l j :: l.drop (j+2)):=by
 have e:l.drop j=gD l j :: gD l (j+1) :: l.drop (j+2):=by
  rw[BYT (show j<l.length by omega),BYT (show j+1<l.length from h)]
 refine⟨by rw[<-e,List.take_append_drop],?_⟩
 apply CXV
 ·rw[AYB];simp;omega
 ·intro i hi
  rw[AYB] at hi
  rw[BFL h,lM]
  have hl:(l.take j).length=j:=by simp;omega
  by_cases h1:i<j
  ·rw[if_pos (by rw[hl];exact h1),decide_eq_false (show ¬i=j by omega),decide_eq_false (show ¬i=j+1 by omega)]
   simp[gD,List.getD_eq_getElem?_getD,List.getElem?_take,h1]
  ·rw[if_neg (by rw[hl];exact h1),hl]
   by_cases h2:i=j
   ·subst h2;simp;rfl
   ·by_cases h3:i=j+1
    ·subst h3;rw[decide_eq_false h2,decide_eq_true rfl,show j+1-j=1 by omega];rfl
    ·rw[decide_eq_false h2,decide_eq_false h3]
     obtain⟨m,rfl⟩:∃m,i=j+2+m:=⟨i-j-2,by omega⟩
     rw[show j+2+m-j=m+2 by omega]
     show gD l (j+2+m)=gD (l.drop (j+2)) m
     rw[BAF]
theorem CQC{l:List Int}{j:Nat}(h:j+1<l.length):(swL l j).Perm l:=by
 obtain⟨h1,h2⟩:=CZG h
 rw[h2]
 conv=>rhs;rw[h1]
 exact List.Perm.append_left _ (List.Perm.swap _ _ _)
theorem AJG{key:Int->Int}:∀(j:Nat) (l:List Int),j<l.length->(insJ key j l).Perm l
 |0,l,_=>List.Perm.refl _
 |j+1,l,h=>by
  unfold insJ
  cases decide (cR (key (gD l (j+1))) (key (gD l j))<0)
  ·exact List.Perm.refl _
  ·exact (AJG j _ (by rw[AYB];omega)).trans (CQC h)
theorem BGD{key:Int->Int}:∀(n i:Nat) (l:List Int),i+n<=l.length->(stR key n i l).Perm l
 |0,_,l,_=>List.Perm.refl _
 |n+1,i,l,h=>by
  unfold stR
  have hp:=AJG (key:=key) i l (by omega)
  exact (BGD n (i+1) _ (by rw[hp.length_eq];omega)).trans hp
theorem CBC(key:Int->Int)(l:List Int):(stM key l).Perm l:=by
 unfold stM
 by_cases h:l.length=0
 ·rw[h];exact List.Perm.refl _
 ·exact BGD _ _ _ (by omega)
theorem BZD{a b:Int}:cR a b<0↔a<b:=by
 unfold cR
 by_cases h:a<b
 ·simp[h]
 ·by_cases h2:b<a
  ·simp[h,h2]
  ·simp[h,h2]
def DBW(key:Int->Int)(i j:Nat)(l:List Int):Prop:=(∀p q,p<q->q<=i->p≠j->q≠j->key (gD l p)<=key (gD l q))/\∀q,j<q->q<=i->key (gD l j)<=key (gD l q)
def upS(key:Int->Int)(i:Nat)(l:List Int):Prop:=∀p q,p<q->q<=i->key (gD l p)<=key (gD l q)
theorem AMB{key:Int->Int}{i:Nat}:∀(j:Nat) (l:List Int),j<=i->i<l.length->DBW key i j l->upS key i (insJ key j l)
 |0,l,_,hl,h=>λp q h1 h2=>by
  show key (gD l p)<=key (gD l q)
  by_cases hp:p=0
  ·subst hp;exact h.2 q h1 h2
  ·exact h.1 p q h1 h2 hp (by omega)
 |j+1,l,hj,hl,h=>by
  unfold insJ
  by_cases hc:key (gD l (j+1))<key (gD l j)
  ·rw[decide_eq_true (BZD.2 hc)]
   refine AMB j (swL l j) (by omega) (by rw[AYB];omega) ⟨λp q h1 h2 h3 h4=>?_,λq h1 h2=>?_⟩
   ·rw[BFL (by omega),BFL (by omega),decide_eq_false h3,decide_eq_false h4]
    by_cases hp:p=j+1
    ·subst hp
     rw[decide_eq_true rfl,decide_eq_false (show ¬q=j+1 by omega)]
     exact h.1 j q (by omega) h2 (by omega) (by omega)
    ·by_cases hq:q=j+1
     ·subst hq
      rw[decide_eq_true rfl,decide_eq_false hp]
      exact h.1 p j (by omega) (by omega) hp (by omega)
     ·rw[decide_eq_false hp,decide_eq_false hq]
      exact h.1 p q h1 h2 hp hq
   ·rw[BFL (by omega),BFL (by omega),decide_eq_true rfl,decide_eq_false (show ¬q=j by omega)]
    by_cases hq:q=j+1
    ·subst hq;rw[decide_eq_true rfl];exact Int.le_of_lt hc
    ·rw[decide_eq_false hq];exact h.2 q (by omega) h2
  ·rw[decide_eq_false (λhx=>hc (BZD.1 hx))]
   intro p q h1 h2
   show key (gD l p)<=key (gD l q)
   by_cases hp:p=j+1
   ·subst hp;exact h.2 q h1 h2
   ·by_cases hq:q=j+1
    ·subst hq
     by_cases hpj:p=j
     ·subst hpj;omega
     ·have:=h.1 p j (by omega) (by omega) hp (by omega);omega
    ·exact h.1 p q h1 h2 hp hq
theorem AOC{key:Int->Int}:∀(n i:Nat) (l:List Int),1<=i->i+n=l.length->upS key (i-1) l->upS key (l.length-1) (stR key n i l)
 |0,i,l,h1,h2,h=>by
  rw[show l.length-1=i-1 by omega];exact h
 |n+1,i,l,h1,h2,h=>by
  unfold stR
  have hp:=AJG (key:=key) i l (by omega)
  have:=AOC (key:=key) n (i+1) (insJ key i l) (by omega) (by rw[hp.length_eq];omega) (AMB i l (Nat.le_refl _) (by omega) ⟨λp q a b c d=>h p q a (by omega),λq a b=>by omega⟩)
  rw[hp.length_eq] at this;exact this
theorem BKF(key:Int->Int)(l:List Int):upS key (l.length-1) (stM key l):=by
 unfold stM
 by_cases h:l.length=0
 ·intro p q h1 h2;omega
 ·exact AOC _ 1 l (Nat.le_refl _) (by omega) (λp q a b=>by omega)
structure FS where
 fr:Nat
 to:Nat
 ln:Ln
 b:List Int
 l:List Ln
 k:List (List Int)
 deriving Inhabited
def iotI(n:Nat):List Int:=(List.range n).map Int.ofNat
def LJ(g:List Gau):List Int:=stM (lX g) (iotI g.length)
def nxK(g:List Gau)(o:List Int)(t:Nat):Nat->Nat->Nat
 |0,k=>k
 |n+1,k=>bif lX g (gD o k)==lX g (gD o t) then nxK g o t n (k+1) else k
def nxM(g:List Gau)(o:List Int)(t:Nat):Nat:=nxK g o t (o.length-t) t
def pkR(g:List Gau)(o:List Int)(a b:Nat):List Gau:=pkM ⟨g,o,a,b⟩
def brkF(g:List Gau)(o:List Int)(s:FS):FS:=⟨s.to,s.to,s.ln,s.b ++ [lX g (gD o s.to)],s.l ++ [s.ln],s.k ++ [kntM ⟨g,(o.take (nxM g o s.to)).drop s.fr⟩]⟩
def goF(g:List Gau)(o:List Int)(s:FS):FS:=⟨s.fr,nxM g o s.to,(lP (pkR g o s.fr (nxM g o s.to))).1,s.b,s.l,s.k⟩
def zRtg:HCell:=.live (.box [.d JX,.d JX])
theorem BVE(n:Nat):(iotI n).length=n:=by simp[iotI]
theorem ASI(g:List Gau):(LJ g).Perm (iotI g.length):=CBC _ _
theorem AGF(g:List Gau):(LJ g).length=g.length:=by rw[(ASI g).length_eq,BVE]
theorem CMQ{g:List Gau}{x:Int}(h:x∈LJ g):0<=x/\x<g.length:=by
 have:=(ASI g).mem_iff.1 h
 unfold iotI at this
 obtain⟨i,hi,rfl⟩:=List.mem_map.1 this
 have:=List.mem_range.1 hi
 exact⟨Int.natCast_nonneg _,Int.ofNat_lt.2 this⟩
theorem CVJ{g:List Gau}{i:Nat}(h:i<g.length):0<=gD (LJ g) i/\gD (LJ g) i<g.length:=CMQ (FD (by rw[AGF];exact h))
theorem CBK{g:List Gau}{o:List Int}{t:Nat}:∀(n k:Nat),k<=nxK g o t n k/\nxK g o t n k<=k+n
 |0,k=>⟨Nat.le_refl _,Nat.le_refl _⟩
 |n+1,k=>by
  unfold nxK
  cases lX g (gD o k)==lX g (gD o t)
  ·exact⟨Nat.le_refl _,by show k<=_;omega⟩
  ·have:=CBK (g:=g) (o:=o) (t:=t) n (k+1);show k<=nxK g o t n (k+1)/\nxK g o t n (k+1)<=_;omega
theorem CGX{g:List Gau}{t:Nat}(h:t<g.length):t<nxM g (LJ g) t/\nxM g (LJ g) t<=g.length:=by
 unfold nxM
 rw[AGF]
 obtain⟨n,hn⟩:∃n,g.length-t=n+1:=⟨g.length-t-1,by omega⟩
 rw[hn];unfold nxK
 rw[show (lX g (gD (LJ g) t)==lX g (gD (LJ g) t))=true by simp]
 have:=CBK (g:=g) (o:=LJ g) (t:=t) n (t+1)
 show t<nxK g (LJ g) t n (t+1)/\nxK g (LJ g) t n (t+1)<=_
 omega
theorem CTM(l:List Int)(p:Int)(i:Nat)(hi:i<(l ++ [p]).length):gD (l ++ [p]) i=bif decide (i<l.length) then gD l i else p:=P2 _ _ (by simpa using hi)
end Go.Bal
namespace Go.Bal.DL
open Go.Sym Go
theorem m1(n:Int):DG (.v (.int .u8 n))=n:=rfl
end Go.Bal.DL
namespace Go.Bal
open Go Go.Sym Go.Proofs
structure Stm where
 bs:List Int
 used:Int
 mix:Int
 deriving Inhabited
end Go.Bal
namespace Go.Bal.DL
theorem m2(s:Stm):Stm.mk s.bs s.used s.mix=s:=rfl
end Go.Bal.DL
namespace Go.Bal
open Go Go.Sym Go.Proofs
def eBys(l:List Int):DVal:=lst 1 l.length λi=>.v (.int .u8 (gD l i))
def stmO(s:Stm):AObj:=.box [.d (eBys s.bs),.int s.used,.int s.mix]
def stmH(s:Stm):HCell:=.live (stmO s)
def BLF(H:Heap)(id:Nat):Option Stm:=match H id with
 | .live (.box [.d (.list _ n g _),.d (.v (.int _ u)),.d (.v (.int _ m))])=>some ⟨HQ n λi=>DG (g i),u,m⟩
 |_=>none
def C_New:Ctr:={ α:=List Int,xs:=λl=>[.d (eBys l)],L:=λ_=>[],val:=λ_=>.bptr 0 0,keep:=λl=>[(0,stmH ⟨l,0,0⟩)] }
def CSM:List AVal->Heap->Option (List Int×List (Nat×Nat)×List Nat)
 |[.d (.list _ n g _)],_=>some (HQ n λi=>DG (g i),[],[])
 |_,_=>none
def CRU(l:List Int):Prop:=AS ZP (ann 6 []) Tryz.f5 (AG Tryz.f5) (C_New.xs l) (AC []) (C_New.val l) (C_New.keep l) [(0,2032)] []
theorem CVU(l:List Int):(CRU l)=(rH l (WH (IU l) (uU 0))):=by kernel_rfl
def Df(s:Stm):Int:=if s.bs.length<=s.used then wr (wr (gD s.bs (s.used.tmod s.bs.length).toNat)+wr (wr (11*s.mix)+wr (s.used.tdiv s.bs.length))) else wr (gD s.bs (s.used.tmod s.bs.length).toNat)
def dF(s:Stm):Int:=(wr (wr (wr (5*s.mix)+Df s)+1)).tmod 251
def idle(s:Stm)(n:Int):Bool:=if n<2 then true else decide (s.bs.length=0)
def DI(s:Stm)(n:Int):Stm:=if idle s n then s else⟨s.bs,wr (s.used+1),dF s⟩
def BS(s:Stm)(n:Int):Int:=if idle s n then 0 else (if 256<n then wr (wr (256*Df s)+dF s) else Df s).tmod n
structure SN where
 s:Stm
 n:Int
def C_Next:Ctr:={ α:=SN,xs:=λa=>[.bptr 100 0,.int a.n],L:=λa=>[(100,stmO a.s)],val:=λa=>.int (BS a.s a.n),keep:=λa=>[(100,stmH (DI a.s a.n))],pre:=λa=>[0<=a.s.used] }
def AQA:List AVal->Heap->Option (SN×List (Nat×Nat)×List Nat)
 |[.bptr p _,.d (.v (.int _ n))],H=>match BLF H p with
  |some s=>some (⟨s,n⟩,[(100,p)],[])
  |none=>none
 |_,_=>none
def CFR:Ann:={ ann 92 [] with E:=[100] }
def CFO(a:SN):Prop:=AS ZP CFR Tryz.f20 (AG Tryz.f20) (C_Next.xs a) (AC (C_Next.L a)) (C_Next.val a) (C_Next.keep a) [] []
abbrev Xb:=SN.n
abbrev dH:=Stm.bs
abbrev Jn:=SN.s
abbrev APF:=BS
abbrev NF:=Stm.used
abbrev Tb:=Stm.mix
abbrev Io a:=NF (Jn a)
abbrev Lm a:=dH (Jn a)
abbrev aT a b:=BPA (Lm a) (Io b)
abbrev Ou a:=Tb (Jn a)
abbrev TS a:=DI (Jn a) (Xb a)
abbrev BPD a b:=BO a (dH b)
abbrev MR a b:=BPD (dH a) b
abbrev BKH a b:=BH a (dH b)
abbrev JQ a b:=BKH (dH a) b
attribute [go_sem] Xb dH Jn APF NF Tb Io Lm aT Ou TS BPD MR BKH JQ
theorem CPQ(a:SN):(CFO a)=(Ba (cT (Xb a) 2) (WO (LW (Lm a))) (YJ (APF (Jn a) (Xb a)) 0 (JQ (TS a) (Jn a)) (MR (TS a) (Jn a)) (NF (TS a)) (Io a) (Tb (TS a)) (Ou a)) (And (WU (Ha (LW (Lm a))) (AJA (Io a) (Lm a)) (Uo (AJA (Io a) (Lm a)) (BQ (Lm a)))) (Wm (hd6 (Io a) (LW (Lm a))) (AQ (Za (BC (BQ (Lm a)))) (Za (uU (wM 251))) (ABQ (hd94 (Xb a) 256) (tQ (Xb a)) (YJ (APF (Jn a) (Xb a)) (wG (AAC 256 (cB (aT a a) (Ou a) (Io a) (Lm a)) (Qm (Ou a) (cB (aT a a) (Ou a) (Io a) (Lm a)))) (Xb a)) (JQ (TS a) (Jn a)) (MR (TS a) (Jn a)) (NF (TS a)) (JF (Io a)) (Tb (TS a)) (Qm (Ou a) (cB (aT a a) (Ou a) (Io a) (Lm a)))) (YJ (APF (Jn a) (Xb a)) (wG (cB (aT a a) (Ou a) (Io a) (Lm a)) (Xb a)) (JQ (TS a) (Jn a)) (MR (TS a) (Jn a)) (NF (TS a)) (JF (Io a)) (Tb (TS a)) (Qm (Ou a) (cB (aT a a) (Ou a) (Io a) (Lm a)))))) (Za (uU (wM 251))) (ABQ (hd94 (Xb a) 256) (tQ (Xb a)) (YJ (APF (Jn a) (Xb a)) (wG (AAC 256 (aT a a) (Qm (Ou a) (aT a a))) (Xb a)) (JQ (TS a) (Jn a)) (MR (TS a) (Jn a)) (NF (TS a)) (JF (Io a)) (Tb (TS a)) (Qm (Ou a) (aT a a))) (YJ (APF (Jn a) (Xb a)) (wG (aT a a) (Xb a)) (JQ (TS a) (Jn a)) (MR (TS a) (Jn a)) (NF (TS a)) (JF (Io a)) (Tb (TS a)) (Qm (Ou a) (aT a a))))))):=by kernel_rfl
def witN(lo hi:Int):Int:=wr (wr (hi-lo)+1)
def Jt(s:Stm)(lo hi:Int):Int:=wr (lo+BS s (witN lo hi))
def kQ(s:Stm)(lo hi:Int):Stm:=DI s (witN lo hi)
structure SW where
 s:Stm
 lo:Int
 hi:Int
def C_Within:Ctr:={ α:=SW,xs:=λa=>[.bptr 100 0,.int a.lo,.int a.hi],L:=λa=>[(100,stmO a.s)],val:=λa=>.int (Jt a.s a.lo a.hi),keep:=λa=>[(100,stmH (kQ a.s a.lo a.hi))],pre:=λa=>[0<=a.s.used] }
def ATV:List AVal->Heap->Option (SW×List (Nat×Nat)×List Nat)
 |[.bptr p _,.d (.v (.int _ n)),.d (.v (.int _ m))],H=>match BLF H p with
  |some s=>some (⟨s,n,m⟩,[(100,p)],[])
  |none=>none
 |_,_=>none
def BGC:Ann:={ ann 15 [(20,C_Next.spec AQA)] with E:=[100] }
def BFJ(a:SW):Prop:=AS ZP BGC Tryz.f19 (AG Tryz.f19) (C_Within.xs a) (AC (C_Within.L a)) (C_Within.val a) (C_Within.keep a) [] []
abbrev wE:=SW.hi
abbrev kT:=SW.lo
abbrev vW:=SW.s
abbrev ARC:=Stm.mk
abbrev CDZ a b:=ARC a (NF b) (Tb b)
abbrev BLR a b:=CAZ (dH a) (dH b)
abbrev BLO a b c d:=DI (CDZ (BLR a b) c) d
abbrev Af a b:=BLO a a a b
abbrev BDZ a:=BLR a a
abbrev BDA a:=CDZ (BDZ a) a
abbrev OP a b:=APF (BDA a) b
abbrev SH a:=AI (Tb a)
abbrev RX a:=BPD (BDZ a) a
abbrev SF a:=BKH (BDZ a) a
abbrev BEE a b:=BMZ (SF a) (RX a) b (SH a)
abbrev M2 a:=BEE a (NF a)
attribute [go_sem] wE kT vW ARC CDZ BLR BLO Af BDZ BDA OP SH RX SF BEE M2
theorem BXA(a:SW):(BFJ a)=(EM (AI (Rc (wE a) (kT a))) (M2 (vW a)) (YJ (Jt (vW a) (kT a) (wE a)) (CP (kT a) (OP (vW a) (Rc (wE a) (kT a)))) (JQ (kQ (vW a) (kT a) (wE a)) (Af (vW a) (Rc (wE a) (kT a)))) (MR (kQ (vW a) (kT a) (wE a)) (Af (vW a) (Rc (wE a) (kT a)))) (NF (kQ (vW a) (kT a) (wE a))) (NF (Af (vW a) (Rc (wE a) (kT a)))) (Tb (kQ (vW a) (kT a) (wE a))) (Tb (Af (vW a) (Rc (wE a) (kT a)))))):=by kernel_rfl
theorem CYM(l:List Int):CRU l:=by
 rw[CVU]<;> dsimp only[go_sem];exact⟨rfl,λ_ _=>rfl,rfl,rfl⟩
theorem CWG:AH ZP 5 (C_New.spec CSM):=MK C_New (λ_=>ann 6 []) [(0,2032)] [] Tryz.func5 (λ_=>by kernel_rfl) (λ_=>AD) (λl _=>CYM l) (λ_=>OA rfl rfl) _
theorem CXJ(s:Stm)(n:Int):(bif decide (n<2) then true else (s.bs.length:Int)==0)=idle s n:=by
 unfold idle
 by_cases h:n<2
 ·simp[h]
 ·simp only[h,decide_false,cond_false,if_false]
  by_cases h2:s.bs.length=0
  ·simp[h2]
  ·have:¬ (s.bs.length:Int)=0:=by omega
   simp[h2]
theorem CMW{a b:Int}(ha:0<=a)(hb:0<b):0<=a.tmod b/\a.tmod b<b:=by
 rw[Int.tmod_eq_emod_of_nonneg ha]
 exact⟨Int.emod_nonneg _ (by omega),Int.emod_lt_of_pos _ hb⟩
theorem CWU(a:SN)(h:0<=a.s.used):CFO a:=by
 rw[CPQ]<;> dsimp only[go_sem];simp only[CC,CU,CXJ]
 refine⟨λhi=>?_,λhi=>?_⟩
 ·have e1:BS a.s a.n=0:=by unfold BS;rw[hi];rfl
  have e2:DI a.s a.n=a.s:=by unfold DI;rw[hi];rfl
  rw[e1,e2];exact⟨rfl,rfl,λ_ _=>rfl,rfl,rfl⟩
 have hi2:¬ a.n<2/\¬ a.s.bs.length=0:=by
  unfold idle at hi
  by_cases x:a.n<2
  ·rw[if_pos x] at hi;cases hi
  ·rw[if_neg x] at hi;exact⟨x,by simpa using hi⟩
 obtain⟨i1,i2⟩:=hi2
 have e1:BS a.s a.n=(if 256<a.n then wr (wr (256*Df a.s)+dF a.s) else Df a.s).tmod a.n:=by unfold BS;rw[hi];rfl
 have e2:DI a.s a.n=⟨a.s.bs,wr (a.s.used+1),dF a.s⟩:=by unfold DI;rw[hi];rfl
 have hm:=CMW h (show 0<(a.s.bs.length:Int) by omega)
 rw[e1,e2]
 refine⟨⟨by omega,hm⟩,λhu=>⟨by omega,by decide,λhn=>⟨by omega,?_⟩,λhn=>⟨by omega,?_⟩⟩,λhu=>⟨by decide,λhn=>⟨by omega,?_⟩,λhn=>⟨by omega,?_⟩⟩⟩
 ·rw[if_pos (by omega)];unfold dF Df;rw[if_pos (by omega)];exact⟨rfl,rfl,λ_ _=>rfl,rfl,rfl⟩
 ·rw[if_neg (by omega)];unfold dF Df;rw[if_pos (by omega)];exact⟨rfl,rfl,λ_ _=>rfl,rfl,rfl⟩
 ·rw[if_pos (by omega)];unfold dF Df;rw[if_neg (by omega)];exact⟨rfl,rfl,λ_ _=>rfl,rfl,rfl⟩
 ·rw[if_neg (by omega)];unfold dF Df;rw[if_neg (by omega)];exact⟨rfl,rfl,λ_ _=>rfl,rfl,rfl⟩
theorem BAD:AH ZP 20 (C_Next.spec AQA):=MK C_Next (λ_=>CFR) [] [] Tryz.func20 (λ_=>by kernel_rfl) (λ_=>AD) (λa h=>CWU a h) (λ_=>OA rfl rfl) _
theorem CGC(a:SW)(h:0<=a.s.used):BFJ a:=by
 rw[BXA]<;> dsimp only[go_sem];simp only[CC,CU]
 exact⟨h,rfl,rfl,λ_ _=>rfl,rfl,rfl⟩
theorem AVA:AH ZP 19 (C_Within.spec ATV):=MK C_Within (λ_=>BGC) [] [] Tryz.func19 (λ_=>by kernel_rfl) (λ_=>AA BAD AD) (λa h=>CGC a h) (λ_=>OA rfl rfl) _
structure StmB(K:Int)(s:Stm):Prop where
 used:0<=s.used/\s.used<=K
 mix:0<=s.mix/\s.mix<251
 bs:∀i,i<s.bs.length->0<=gD s.bs i/\gD s.bs i<=255
theorem BDV{a b:Int}(ha:0<=a)(hb:0<b):0<=a.tmod b/\a.tmod b<b:=by
 rw[Int.tmod_eq_emod_of_nonneg ha]
 exact⟨Int.emod_nonneg _ (by omega),Int.emod_lt_of_pos _ hb⟩
theorem BHZ{K:Int}{s:Stm}(h:StmB K s)(hK:K<=1000000000000000)(hb:s.bs.length≠0):0<=Df s/\Df s<=1000000000010000:=by
 have hu:=h.used
 have hm:=h.mix
 have hi:=BDV hu.1 (show 0<(s.bs.length:Int) by omega)
 have hx:=h.bs (s.used.tmod s.bs.length).toNat (by omega)
 have hq:0<=s.used.tdiv s.bs.length/\s.used.tdiv s.bs.length<=1000000000000000:=by
  rw[Int.tdiv_eq_ediv_of_nonneg hu.1]
  refine⟨Int.ediv_nonneg hu.1 (by omega),?_⟩
  have:=Int.ediv_le_self (s.bs.length:Int) hu.1
  omega
 have e0:wr (gD s.bs (s.used.tmod s.bs.length).toNat)=gD s.bs (s.used.tmod s.bs.length).toNat:=ER (by omega) (by omega)
 have e1:wr (11*s.mix)=11*s.mix:=ER (by omega) (by omega)
 have e2:wr (s.used.tdiv s.bs.length)=s.used.tdiv s.bs.length:=ER (by omega) (by omega)
 have e3:wr (11*s.mix+s.used.tdiv s.bs.length)=11*s.mix+s.used.tdiv s.bs.length:=ER (by omega) (by omega)
 have e4:wr (gD s.bs (s.used.tmod s.bs.length).toNat+(11*s.mix+s.used.tdiv s.bs.length))=gD s.bs (s.used.tmod s.bs.length).toNat+(11*s.mix+s.used.tdiv s.bs.length):=ER (by omega) (by omega)
 unfold Df
 rw[e0,e1,e2,e3,e4]
 split<;>omega
theorem BGW{K:Int}{s:Stm}(h:StmB K s)(hK:K<=1000000000000000)(hb:s.bs.length≠0):0<=dF s/\dF s<251:=by
 have hm:=h.mix
 have hn:=BHZ h hK hb
 have e1:wr (5*s.mix)=5*s.mix:=ER (by omega) (by omega)
 have e2:wr (5*s.mix+Df s)=5*s.mix+Df s:=ER (by omega) (by omega)
 have e3:wr (5*s.mix+Df s+1)=5*s.mix+Df s+1:=ER (by omega) (by omega)
 unfold dF
 rw[e1,e2,e3]
 exact BDV (by omega) (by omega)
theorem BZJ{s:Stm}{n:Int}(h:idle s n=false):2<=n/\s.bs.length≠0:=by
 unfold idle at h
 by_cases x:n<2
 ·rw[if_pos x] at h;cases h
 ·rw[if_neg x] at h;exact⟨by omega,by simpa using h⟩
theorem StmB.mono{K M:Int}{s:Stm}(h:StmB K s)(hK:K<=M):StmB M s:=⟨⟨h.used.1,by have:=h.used;omega⟩,h.mix,h.bs⟩
theorem StmB.next{K:Int}{s:Stm}(h:StmB K s)(hK:K<=1000000000000000)(n:Int):StmB (K+1) (DI s n):=by
 unfold DI
 cases hi:idle s n with
 |true=>exact h.mono (by omega)
 |false=>
  obtain⟨_,hb⟩:=BZJ hi
  have hu:=h.used
  have e:wr (s.used+1)=s.used+1:=ER (by omega) (by omega)
  refine⟨?_,BGW h hK hb,h.bs⟩
  show 0<=wr (s.used+1)/\wr (s.used+1)<=K+1
  rw[e];omega
theorem VR{K:Int}{s:Stm}(h:StmB K s)(hK:K<=1000000000000000)(n:Int):0<=BS s n/\(1<=n->BS s n<n):=by
 unfold BS
 cases hi:idle s n with
 |true=>exact⟨Int.le_refl _,λh=>by show (0:Int)<n;omega⟩
 |false=>
  obtain⟨hn,hb⟩:=BZJ hi
  have h1:=BHZ h hK hb
  have h2:=BGW h hK hb
  have e1:wr (256*Df s)=256*Df s:=ER (by omega) (by omega)
  have e2:wr (256*Df s+dF s)=256*Df s+dF s:=ER (by omega) (by omega)
  rw[e1,e2]
  have:=BDV (a:=if 256<n then 256*Df s+dF s else Df s) (b:=n) (by split<;>omega) (by omega)
  exact⟨this.1,λ_=>this.2⟩
theorem dD{K:Int}{s:Stm}(h:StmB K s)(hK:K<=1000000000000000){lo hi:Int}(h1:-1000000000<=lo)(h2:lo<=hi)(h3:hi<=1000000000):lo<=Jt s lo hi/\Jt s lo hi<=hi:=by
 have e1:wr (hi-lo)=hi-lo:=ER (by omega) (by omega)
 have e2:wr (hi-lo+1)=hi-lo+1:=ER (by omega) (by omega)
 unfold Jt witN
 rw[e1,e2]
 have:=VR h hK (hi-lo+1)
 have h4:=this.2 (by omega)
 have e3:wr (lo+BS s (hi-lo+1))=lo+BS s (hi-lo+1):=ER (by omega) (by omega)
 rw[e3];omega
end Go.Bal
