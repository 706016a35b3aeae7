/- Package rating: the least and the greatest flow (no program in sight). -/
import Derived.Test.YtceloknnpdonhaaGreatRatI
set_option linter.unusedVariables false
set_option linter.unusedSimpArgs false
namespace Go.Bal
open Go Go.Sym Go.Proofs
def Ym(a b:Rt):Prop:=a.n*b.d<=b.n*a.d
def okR(r:Rt):Prop:=(0<r.d/\r.d<=2000)/\0<=r.n/\r.n<=200000*r.d
def Hu(f:Rl)(t:Int):Rt:=if f.num t<0 then⟨0,1⟩ else if 200000*f.w<f.num t then⟨200000,1⟩ else⟨f.num t,f.w⟩
theorem Fx{f:Rl}{t:Int}(h:0<f.w):0<(Hu f t).d:=by
 unfold Hu;split
 ·exact Int.one_pos
 ·split
  ·exact Int.one_pos
  ·exact h
theorem QI{a b c:Rt}(ha:0<=a.d)(hb:0<b.d)(hc:0<=c.d)(h1:Ym a b)(h2:Ym b c):Ym a c:=BDL hb h1 h2 ha hc
theorem CEU(a:Rt):Ym a a:=Int.le_refl _
theorem ANY{f g:Rl}{t u:Int}(hf:0<f.w)(hg:0<g.w)(h:f.num t*g.w<=g.num u*f.w):Ym (Hu f t) (Hu g u):=by
 unfold Hu Ym
 generalize f.num t=a at *
 generalize g.num u=b at *
 generalize f.w=c at *
 generalize g.w=d at *
 by_cases h1:a<0
 ·rw[if_pos h1]
  split
  ·simp
  ·split
   ·simp
   ·simp;omega
 ·rw[if_neg h1]
  have ha:=Int.mul_nonneg (show 0<=a by omega) (Int.le_of_lt hg)
  have hb:0<=b:=vA hf (by rw[Int.zero_mul];omega)
  rw[if_neg (show ¬b<0 by omega)]
  by_cases h2:200000*c<a
  ·rw[if_pos h2]
   have h3:=Int.mul_lt_mul_of_pos_right h2 hg
   have h4:200000*d<b:=Int.lt_of_mul_lt_mul_right (a:=c) (by grind) (Int.le_of_lt hf)
   rw[if_pos h4];simp
  ·rw[if_neg h2]
   split
   ·simp;omega
   ·exact h
theorem CUH{N W:Int}(hW:0<W):((wI N W).n<0↔N<0)/\(200000*(wI N W).d<(wI N W).n↔200000*W<N):=by
 have hv:=BPQ (n:=N) hW
 have hd:=(CIM (n:=N) hW).1
 generalize wI N W=r at *
 refine⟨⟨λh=>?_,λh=>?_⟩,λh=>?_,λh=>?_⟩
 ·have:=Int.mul_neg_of_neg_of_pos h hW
  rcases Int.lt_or_le N 0 with h1 | h1
  ·exact h1
  ·have:=Int.mul_nonneg h1 (Int.le_of_lt hd);omega
 ·have:=Int.mul_neg_of_neg_of_pos h hd
  rcases Int.lt_or_le r.n 0 with h1 | h1
  ·exact h1
  ·have:=Int.mul_nonneg h1 (Int.le_of_lt hW);omega
 ·have:=Int.mul_lt_mul_of_pos_right h hW
  exact Int.lt_of_mul_lt_mul_right (a:=r.d) (by grind) (Int.le_of_lt hd)
 ·have:=Int.mul_lt_mul_of_pos_right h hd
  exact Int.lt_of_mul_lt_mul_right (a:=W) (by grind) (Int.le_of_lt hW)
theorem CHJ{x:Ln}{t:Int}(h:RF x):(OT x t).n*(Hu (TK x) t).d=(Hu (TK x) t).n*(OT x t).d:=by
 have hW:=(RE h).1
 obtain⟨h1,h2⟩:=CUH (N:=(TK x).num t) hW
 have hv:=BPQ (n:=(TK x).num t) hW
 unfold OT BQE Hu
 rw[CPK]
 by_cases c1:(TK x).num t<0
 ·rw[if_pos c1,if_pos (h1.2 c1)]
 ·rw[if_neg c1,if_neg (λh=>c1 (h1.1 h))]
  by_cases c2:200000*(TK x).w<(TK x).num t
  ·rw[if_pos c2,if_pos (h2.2 c2)]
  ·rw[if_neg c2,if_neg (λh=>c2 (h2.1 h))]
   exact hv
theorem LM{x:Ln}{t:Int}(h:RF x):okR (OT x t):=by
 have hd:=CLZ (t:=t) h
 unfold OT BQE
 split
 ·exact⟨⟨Int.one_pos,by show (1:Int)<=2000;omega⟩,Int.le_refl _,by show (0:Int)<=200000*1;omega⟩
 ·split
  ·exact⟨⟨Int.one_pos,by show (1:Int)<=2000;omega⟩,by show (0:Int)<=200000;omega,by show (200000:Int)<=200000*1;omega⟩
  ·exact⟨hd,by omega,by omega⟩
theorem BNQ{x:Ln}{t:Int}{r:Rt}(h:RF x)(hr:0<r.d):Ym (OT x t) r↔Ym (Hu (TK x) t) r:=by
 have hv:=CHJ (t:=t) h
 have h1:=(LM (t:=t) h).1.1
 have h2:=Fx (t:=t) (RE h).1
 exact⟨λa=>QI (Int.le_of_lt h2) h1 (Int.le_of_lt hr) (by unfold Ym;omega) a,λa=>QI (Int.le_of_lt h1) h2 (Int.le_of_lt hr) (by unfold Ym;omega) a⟩
theorem BCF{x:Ln}{t:Int}{r:Rt}(h:RF x)(hr:0<r.d):Ym r (OT x t)↔Ym r (Hu (TK x) t):=by
 have hv:=CHJ (t:=t) h
 have h1:=(LM (t:=t) h).1.1
 have h2:=Fx (t:=t) (RE h).1
 exact⟨λa=>QI (Int.le_of_lt hr) h1 (Int.le_of_lt h2) a (by unfold Ym;omega),λa=>QI (Int.le_of_lt hr) h2 (Int.le_of_lt h1) a (by unfold Ym;omega)⟩
theorem ALT{a b:Rt}(ha:okR a)(hb:okR b):wr (a.n*b.d)=a.n*b.d:=by
 obtain⟨⟨a1,a2⟩,a3,a4⟩:=ha
 obtain⟨⟨b1,b2⟩,b3,b4⟩:=hb
 have h1:=mulb (A:=400000000) (B:=2000) a3 (by omega) (Int.le_of_lt b1) b2
 exact JC (by omega) (by omega)
theorem DPR{a b:Int}:wB a b>0↔b<a:=by
 unfold wB
 by_cases h:a<b
 ·simp[h];omega
 ·by_cases h2:b<a
  ·simp[h,h2]
  ·simp[h,h2]
theorem DJA{a b:Int}:wB a b<0↔a<b:=by
 unfold wB
 by_cases h:a<b
 ·simp[h]
 ·by_cases h2:b<a
  ·simp[h,h2]
  ·simp[h,h2]
theorem CAW{a b:Rt}(ha:okR a)(hb:okR b):cmpR a b<0↔a.n*b.d<b.n*a.d:=by
 unfold cmpR;rw[ALT ha hb,ALT hb ha,DJA]
theorem BYB{a b:Rt}(ha:okR a)(hb:okR b):cmpR a b>0↔b.n*a.d<a.n*b.d:=by
 unfold cmpR;rw[ALT ha hb,ALT hb ha,DPR]
theorem DKG{a b:Rt}(ha:okR a)(hb:okR b):ltR a b=false↔Ym b a:=by
 unfold ltR Ym;rw[decide_eq_false_iff_not,CAW ha hb];omega
theorem DJR{a b:Rt}(ha:okR a)(hb:okR b):gtR a b=false↔Ym a b:=by
 unfold gtR Ym;rw[decide_eq_false_iff_not,BYB ha hb];omega
theorem BKF{lt:Rt->Rt->Bool}{le:Rt->Rt->Prop}{t:Int}(hle:∀a b,okR a->okR b->(lt a b=false↔le b a))(hlt:∀a b,okR a->okR b->lt a b=true->le a b)(htr:∀a b c,okR a->okR b->okR c->le a b->le b c->le a c)(hrf:∀a,le a a):∀(l:List Ln) (b:Ln),RF b->(∀x∈l,RF x)->(l.foldl (Pn lt t) b=b∨l.foldl (Pn lt t) b∈l)/\RF (l.foldl (Pn lt t) b)/\le (OT (l.foldl (Pn lt t) b) t) (OT b t)/\∀x∈l,le (OT (l.foldl (Pn lt t) b) t) (OT x t)
 |[],b,hb,_=>⟨.inl rfl,hb,hrf _,λx hx=>by cases hx⟩
 |z :: l,b,hb,h=>by
  rw[List.foldl_cons]
  have hz:=h z (List.mem_cons_self ..)
  have hp:RF (Pn lt t b z)/\(Pn lt t b z=b∨Pn lt t b z=z)/\le (OT (Pn lt t b z) t) (OT b t)/\le (OT (Pn lt t b z) t) (OT z t):=by
   unfold Pn
   cases hc:lt (OT z t) (OT b t) with
   |true=>exact⟨hz,.inr rfl,hlt _ _ (LM hz) (LM hb) hc,hrf _⟩
   |false=>exact⟨hb,.inl rfl,hrf _,(hle _ _ (LM hz) (LM hb)).1 hc⟩
  obtain⟨p1,p2,p3,p4⟩:=hp
  obtain⟨r1,r2,r3,r4⟩:=BKF hle hlt htr hrf l (Pn lt t b z) p1 (λx hx=>h x (List.mem_cons_of_mem _ hx))
  refine⟨?_,r2,htr _ _ _ (LM r2) (LM p1) (LM hb) r3 p3,λx hx=>?_⟩
  ·rcases r1 with r1 | r1
   ·rw[r1]
    rcases p2 with p2 | p2
    ·exact .inl p2
    ·exact .inr (by rw[p2];exact List.mem_cons_self ..)
   ·exact .inr (List.mem_cons_of_mem _ r1)
  ·rcases List.mem_cons.1 hx with rfl | hx
   ·exact htr _ _ _ (LM r2) (LM p1) (LM hz) r3 p4
   ·exact r4 x hx
theorem COR{l:List Ln}{t:Int}(h:∀x∈l,RF x)(hne:l≠[]):mU ltR t l∈l/\∀x∈l,Ym (OT (mU ltR t l) t) (OT x t):=by
 have h0:0<l.length:=List.length_pos_iff.2 hne
 obtain⟨r1,r2,r3,r4⟩:=BKF (lt:=ltR) (le:=Ym) (t:=t) (λa b ha hb=>DKG ha hb) (λa b ha hb hc=>by
  unfold ltR at hc;have:=(CAW ha hb).1 (of_decide_eq_true hc);unfold Ym;omega) (λa b c ha hb hc h1 h2=>QI (Int.le_of_lt ha.1.1) hb.1.1 (Int.le_of_lt hc.1.1) h1 h2) (λa=>CEU a) l (gD l 0) (h _ (HI h0)) h
 refine⟨?_,r4⟩
 rcases r1 with r1 | r1
 ·unfold mU;rw[r1];exact HI h0
 ·exact r1
theorem CQQ{l:List Ln}{t:Int}(h:∀x∈l,RF x)(hne:l≠[]):mU gtR t l∈l/\∀x∈l,Ym (OT x t) (OT (mU gtR t l) t):=by
 have h0:0<l.length:=List.length_pos_iff.2 hne
 obtain⟨r1,r2,r3,r4⟩:=BKF (lt:=gtR) (le:=λa b=>Ym b a) (t:=t) (λa b ha hb=>DJR ha hb) (λa b ha hb hc=>by
  unfold gtR at hc;have:=(BYB ha hb).1 (of_decide_eq_true hc);unfold Ym;omega) (λa b c ha hb hc h1 h2=>QI (Int.le_of_lt hc.1.1) hb.1.1 (Int.le_of_lt ha.1.1) h2 h1) (λa=>CEU a) l (gD l 0) (h _ (HI h0)) h
 refine⟨?_,r4⟩
 rcases r1 with r1 | r1
 ·unfold mU;rw[r1];exact HI h0
 ·exact r1
theorem CAX{f:Rl}{s:List Gau}{t:Int}(hs:∀g∈s,Oy g)(ht:0<=t/\t<=2000)(hf:f.ok)(hp:f.passes s):Bm s t≠[]:=by
 obtain⟨y,hy,_⟩:=CHV hs ht hf hp
 intro he;rw[he] at hy;cases hy
def bdS(s:List Gau)(t:Int):Bnd:=bndM (Bm s t) t
theorem CLU{s:List Gau}{t:Int}(h:Bm s t≠[]):bdS s t=⟨OT (mU ltR t (Bm s t)) t,OT (mU gtR t (Bm s t)) t⟩:=by
 unfold bdS bndM;rw[decide_eq_false (λhe=>h (List.eq_nil_of_length_eq_zero he))];rfl
theorem CKV{f:Rl}{s:List Gau}{t:Int}(hs:∀g∈s,Oy g)(ht:0<=t/\t<=2000)(hf:f.ok)(hp:f.passes s):Ym (bdS s t).lo (Hu f t):=by
 have hne:=CAX hs ht hf hp
 rw[CLU hne]
 obtain⟨b1,b2⟩:=COR (t:=t) (λx hx=>(Pe hs hx).1) hne
 obtain⟨y,hy,oy,hc⟩:=CHV hs ht hf hp
 have hw:=(RE oy).1
 have key:Ym (Hu (TK y) t) (Hu f t):=by
  rcases hc with hc | hc
  ·have hz:Ym (Hu (TK y) t) ⟨0,1⟩:=by
    unfold Hu Ym;split
    ·exact Int.le_refl _
    ·rw[if_neg (by omega)];show (TK y).num t*1<=0*_;omega
   refine QI (b:=⟨0,1⟩) (Int.le_of_lt (Fx hw)) Int.one_pos (Int.le_of_lt (Fx hf.1)) hz ?_
   unfold Hu Ym;split
   ·exact Int.le_refl _
   ·split
    ·show (0:Int)*1<=200000*1;omega
    ·show 0*f.w<=f.num t*1;omega
  ·exact ANY hw hf.1 hc
 have ob:=(Pe hs b1).1
 exact QI (Int.le_of_lt (LM ob).1.1) (LM oy).1.1 (Int.le_of_lt (Fx hf.1)) (b2 y hy) ((BNQ oy (Fx hf.1)).2 key)
theorem CVU{f:Rl}{s:List Gau}{t:Int}(hs:∀g∈s,Oy g)(ht:0<=t/\t<=2000)(hf:f.ok)(hp:f.passes s):Ym (Hu f t) (bdS s t).hi:=by
 have hne:=CAX hs ht hf hp
 rw[CLU hne]
 obtain⟨b1,b2⟩:=CQQ (t:=t) (λx hx=>(Pe hs hx).1) hne
 obtain⟨y,hy,oy,hc⟩:=CRZ hs ht hf hp
 have hw:=(RE oy).1
 have key:Ym (Hu f t) (Hu (TK y) t):=by
  rcases hc with hc | hc
  ·have hz:Ym ⟨200000,1⟩ (Hu (TK y) t):=by
    unfold Hu Ym
    rw[if_neg (by omega)];split
    ·exact Int.le_refl _
    ·show 200000*(TK y).w<=(TK y).num t*1;omega
   refine QI (b:=⟨200000,1⟩) (Int.le_of_lt (Fx hf.1)) Int.one_pos (Int.le_of_lt (Fx hw)) ?_ hz
   unfold Hu Ym;split
   ·show (0:Int)*1<=200000*1;omega
   ·split
    ·exact Int.le_refl _
    ·show f.num t*1<=200000*f.w;omega
  ·exact ANY hf.1 hw hc
 have ob:=(Pe hs b1).1
 exact QI (Int.le_of_lt (Fx hf.1)) (LM oy).1.1 (Int.le_of_lt (LM ob).1.1) ((BCF oy (Fx hf.1)).2 key) (b2 y hy)
theorem BDR{s:List Gau}{t:Int}(hs:∀g∈s,Oy g)(h:Bm s t≠[]):(∃y,RF y/\(TK y).passes s/\(bdS s t).lo=OT y t)/\∃y,RF y/\(TK y).passes s/\(bdS s t).hi=OT y t:=by
 rw[CLU h]
 obtain⟨b1,_⟩:=COR (t:=t) (λx hx=>(Pe hs hx).1) h
 obtain⟨c1,_⟩:=CQQ (t:=t) (λx hx=>(Pe hs hx).1) h
 exact⟨⟨_,(Pe hs b1).1,(Pe hs b1).2,rfl⟩,_,(Pe hs c1).1,(Pe hs c1).2,rfl⟩
theorem BVR{f:Rl}{t u:Int}(hf:f.ok)(h:t<=u):Ym (Hu f t) (Hu f u):=by
 refine ANY hf.1 hf.1 ?_
 have:=Int.mul_le_mul_of_nonneg_left h hf.2
 exact Int.mul_le_mul_of_nonneg_right (by unfold Rl.num;omega) (Int.le_of_lt hf.1)
theorem CHX{s:List Gau}{t u:Int}(hs:∀g∈s,Oy g)(ht:0<=t)(htu:t<=u)(hu:u<=2000)(h:Bm s t≠[]):Ym (bdS s t).lo (bdS s u).lo/\Ym (bdS s t).hi (bdS s u).hi:=by
 obtain⟨_,y,oy,py,ey⟩:=BDR hs h
 have h2:Bm s u≠[]:=CAX hs ⟨by omega,hu⟩ (RE oy) py
 obtain⟨⟨z,oz,pz,ez⟩,y',oy',py',ey'⟩:=BDR hs h2
 obtain⟨⟨z',oz',pz',ez'⟩,_⟩:=BDR hs h
 have dz:=Fx (f:=TK z) (t:=t) (RE oz).1
 have dz2:=Fx (f:=TK z) (t:=u) (RE oz).1
 have dy:=Fx (f:=TK y) (t:=t) (RE oy).1
 have dy2:=Fx (f:=TK y) (t:=u) (RE oy).1
 refine⟨?_,?_⟩
 ·have a1:=CKV hs ⟨ht,by omega⟩ (RE oz) pz
  have a2:=BVR (RE oz) htu
  have d1:0<(bdS s t).lo.d:=by rw[ez'];exact (LM oz').1.1
  have a3:=QI (Int.le_of_lt d1) dz (Int.le_of_lt dz2) a1 a2
  rw[ez];exact (BCF oz d1).2 a3
 ·have a1:=CVU hs ⟨by omega,hu⟩ (RE oy) py
  have a2:=BVR (RE oy) htu
  have d1:0<(bdS s u).hi.d:=by rw[ey'];exact (LM oy').1.1
  have a3:=QI (Int.le_of_lt dy) dy2 (Int.le_of_lt d1) a2 a1
  rw[ey];exact (BNQ oy d1).2 a3
theorem DRL{s:List Gau}{t:Int}(hs:∀g∈s,Oy g)(ht:0<=t/\t<=2000)(h:Bm s t≠[]):okR (bdS s t).lo/\okR (bdS s t).hi/\Ym (bdS s t).lo (bdS s t).hi:=by
 obtain⟨⟨z,oz,pz,ez⟩,y,oy,py,ey⟩:=BDR hs h
 have a1:=CKV hs ht (RE oy) py
 refine⟨ez ▸ LM oz,ey ▸ LM oy,?_⟩
 have d1:0<(bdS s t).lo.d:=by rw[ez];exact (LM oz).1.1
 rw[ey];exact (BCF oy d1).2 a1
end Go.Bal

namespace Go.Bal
open Go Go.Sym Go.Proofs
structure GBt where
 g:List Gau
 b:List Int
 t:Int
def dGBt:List AVal->Heap->Option (GBt×List (Nat×Nat)×List Nat)
 |[x,y,.d t],H=>match BLF x H,W2 y H with
  |some (l,f),some (m,e)=>some (⟨l,m,EO t⟩,[],f ++ e)
  |_,_=>none
 |_,_=>none
def xGBt(a:GBt):List AVal:=[.d (KZ a.g),.d (FE a.b),.int a.t]
def gbt(a:GBt):GB:=⟨a.g,a.b⟩
def inT(a:GBt):Bool:=Sx a.t 0 2000
def preT(a:GBt):Prop:=a.g.length<4611686018427387904/\a.b.length<4611686018427387904
def C_stg:Ctr:={ α:=GBt,xs:=xGBt,L:=λ_=>[],val:=λ_=>.tup [.bptr 0 0,.int 0],keep:=λa=>[(0,.live (bkB (ZE (gbt a)) 1)),(1,.live (bkM (ZE (gbt a))))],pre:=λa=>[preT a/\HS (gbt a)=0/\inT a=true] }
def C_stgA:Ctr:={ α:=GBt,xs:=xGBt,L:=λ_=>[],val:=λ_=>.tup [.bptr 0 0,.int 4],keep:=λa=>[(0,.live (bkB (ZE (gbt a)) 1)),(1,.live (bkM (ZE (gbt a))))],pre:=λa=>[preT a/\HS (gbt a)=0/\inT a=false] }
def C_stgX:Ctr:={ α:=GBt,xs:=xGBt,L:=λ_=>[],val:=λa=>.tup [.d (.v (.pointer none)),.int (HS (gbt a))],keep:=λ_=>[],pre:=λa=>[preT a/\HS (gbt a)≠0] }
def CQX:Ann:=ann 25 [(lO,C_open.spec dGB),(n_in,s_in)]
def DCT:Ann:=ann 25 [(lO,C_openX.spec dGB),(n_in,s_in)]
def DMW(a:GBt):Prop:=BG Try.prog CQX oS (AL oS) (xGBt a) (AF []) (C_stg.val a) (C_stg.keep a) [(0,2032),(1,2033)] []
abbrev gM:=GBt.g
abbrev Jx:=GBt.b
abbrev To:=GBt.t
abbrev AOR a b:=GB.mk a (DG b)
abbrev BOB a b:=Po (AOR a b)
abbrev Bv a:=BU (gM a)
abbrev HF a:=BOB (Bv a) (Jx a)
abbrev QS a:=Po (gbt a)
abbrev lT a:=QN (QS a)
abbrev PI a b:=AO a (UH b)
abbrev YQ a b:=HS (AOR a b)
abbrev ZG a:=DG (Jx a)
abbrev Fo a:=BD (CW a)
attribute [go_sem] gM Jx To AOR BOB Bv HF QS lT PI YQ ZG Fo
theorem DSK(a:GBt):(DMW a)=(BF (FT (CG (Bv a) (gM a)) (AT (Bv a) (gM a)) (AW (ZG a) (Jx a)) (AS (ZG a) (Jx a)) (Fo (Bv a)) (HP (ZG a)) (BE (YQ (Bv a) (Jx a)))) (Hn (GA 0) (RD (To a) 2000)) (VJ (PI FU 4) (IN (lT a) (HF a)) (λi=>CR i (lT a) (QN (HF a))) (MO (QS a) (HF a)) (λi=>MP i (QS a) (HF a)) Ya (MV (QS a) (HF a)) (λi=>EX (QS a) i (HF a) (λj=>DW j (QS a) i (HF a) (CU (CH (QS a) i j) (CH (HF a) i j) (CF (QS a) i j) (CF (HF a) i j) (FB (QS a) i j) (HF a) i j)))) (VJ CL (IN (lT a) (HF a)) (λi=>CR i (lT a) (QN (HF a))) (MO (QS a) (HF a)) (λi=>MP i (QS a) (HF a)) Ya (MV (QS a) (HF a)) (λi=>EX (QS a) i (HF a) (λj=>DW j (QS a) i (HF a) (CU (CH (QS a) i j) (CH (HF a) i j) (CF (QS a) i j) (CF (HF a) i j) (FB (QS a) i j) (HF a) i j))))):=by kernel_rfl
def CZC(a:GBt):Prop:=BG Try.prog CQX oS (AL oS) (xGBt a) (AF []) (C_stgA.val a) (C_stgA.keep a) [(0,2032),(1,2033)] []
theorem DKM(a:GBt):(CZC a)=(BF (FT (CG (Bv a) (gM a)) (AT (Bv a) (gM a)) (AW (ZG a) (Jx a)) (AS (ZG a) (Jx a)) (Fo (Bv a)) (HP (ZG a)) (BE (YQ (Bv a) (Jx a)))) (Hn (GA 0) (RD (To a) 2000)) (VJ (AI (UH 4)) (IN (lT a) (HF a)) (λi=>CR i (lT a) (QN (HF a))) (MO (QS a) (HF a)) (λi=>MP i (QS a) (HF a)) Ya (MV (QS a) (HF a)) (λi=>EX (QS a) i (HF a) (λj=>DW j (QS a) i (HF a) (CU (CH (QS a) i j) (CH (HF a) i j) (CF (QS a) i j) (CF (HF a) i j) (FB (QS a) i j) (HF a) i j)))) (VJ (Ev (UH 4)) (IN (lT a) (HF a)) (λi=>CR i (lT a) (QN (HF a))) (MO (QS a) (HF a)) (λi=>MP i (QS a) (HF a)) Ya (MV (QS a) (HF a)) (λi=>EX (QS a) i (HF a) (λj=>DW j (QS a) i (HF a) (CU (CH (QS a) i j) (CH (HF a) i j) (CF (QS a) i j) (CF (HF a) i j) (FB (QS a) i j) (HF a) i j))))):=by kernel_rfl
def DBV(a:GBt):Prop:=BG Try.prog DCT oS (AL oS) (xGBt a) (AF []) (C_stgX.val a) [] [] []
abbrev uA a:=HS (gbt a)
attribute [go_sem] uA
theorem DGH(a:GBt):(DBV a)=(BF (FT (CG (Bv a) (gM a)) (AT (Bv a) (gM a)) (AW (ZG a) (Jx a)) (AS (ZG a) (Jx a)) (Fo (Bv a)) (HP (ZG a)) (VD (YQ (Bv a) (Jx a)))) (Hn (GA (YQ (Bv a) (Jx a))) (RD (To a) 2000)) (Ql (AO (uA a) 4)) (Ql (AO (uA a) (YQ (Bv a) (Jx a))))):=by kernel_rfl
theorem DPO:AM Try.prog nC (C_stg.spec dGBt):=WY C_stg (λ_=>CQX) [(0,2032),(1,2033)] [] BJS (λ_=>by kernel_rfl) (λ_=>AB BNK (AB X3 AG)) (λ(a:GBt) h=>by
 show DMW a;rw[DSK]<;> delta JB hd5 Oz AR AK BO CI AO UH DV Cu QP AN BN BJ JN EY GW FC GF GD HB CW FX JY NK QN XL Ma Po gM Jx To AH LY NX LX NY AJ AZ AI DG BU FJ RH AOR AP Wm DI BOB DY BZ DZ EZ DN GQ JA ID HC AW Ca HY Bv GT FB Il HL CG CF QS Bt IA CH JZ KC Yf FK BD FG EN GH ZG AS CV BF FU FM GM BE Hq CU Cw NC CR Cy HJ AT CL HF EX DW HP IN Bn PI WC GA RD MO FT VJ MP MV YQ Fo Hn lT Ya;simp only[CC,eq_self,implies_true,forall_const,show GB.mk a.g a.b=gbt a from rfl]
 obtain⟨⟨h1,h2⟩,h3,h4⟩:preT a/\HS (gbt a)=0/\inT a=true:=h
 unfold inT at h4
 refine⟨⟨h1,h2,h3⟩,λh=>?_⟩
 rw[show (!Sx a.t 0 2000)=false by rw[h4];rfl] at h;cases h) (λ_=>YE rfl rfl) _
theorem DJE:AM Try.prog nC (C_stgA.spec dGBt):=WY C_stgA (λ_=>CQX) [(0,2032),(1,2033)] [] BJS (λ_=>by kernel_rfl) (λ_=>AB BNK (AB X3 AG)) (λ(a:GBt) h=>by
 show CZC a;rw[DKM]<;> delta JB hd5 Oz AR AK BO CI AO UH DV Cu QP AN BN BJ JN EY GW FC GF GD HB CW FX JY NK QN XL Ma Po gM Jx To AH LY NX LX NY AJ AZ AI DG BU FJ RH AOR AP Wm DI BOB DY BZ DZ EZ DN GQ JA ID HC AW Ca HY Bv GT FB Il HL CG CF QS Bt IA CH JZ KC Yf FK BD FG EN GH ZG AS CV BF FU FM GM BE Hq CU Cw NC CR Cy HJ AT HF EX DW HP IN Bn WC GA RD MO FT VJ MP MV YQ Ev Fo Hn lT Ya;simp only[CC,eq_self,implies_true,forall_const,show GB.mk a.g a.b=gbt a from rfl]
 obtain⟨⟨h1,h2⟩,h3,h4⟩:preT a/\HS (gbt a)=0/\inT a=false:=h
 unfold inT at h4
 refine⟨⟨h1,h2,h3⟩,λh=>?_⟩
 rw[show (!Sx a.t 0 2000)=true by rw[h4];rfl] at h;cases h) (λ_=>YE rfl rfl) _
theorem DIT:AM Try.prog nC (C_stgX.spec dGBt):=WY C_stgX (λ_=>DCT) [] [] BJS (λ_=>by kernel_rfl) (λ_=>AB BSM (AB X3 AG)) (λ(a:GBt) h=>by
 show DBV a;rw[DGH]<;> delta hd5 Oz AR AK BO CI AO DV Cu QP BN BJ JN EY GW CW FX gM Jx To AH LY NX LX NY AJ AZ DG BU RH AOR DI DY DZ EZ DN GQ JA ID HC AW HY Bv HL CG IA KC BD FG EN GH ZG AS BF GM CR HJ AT HP GA RD FT YQ VD wT Fo Hn Ql uA;simp only[CC,eq_self,implies_true,forall_const]
 obtain⟨⟨h1,h2⟩,h3⟩:preT a/\HS (gbt a)≠0:=h
 refine⟨⟨h1,h2,h3⟩,λh=>?_,λ_=>rfl⟩
 have h3:HS (GB.mk a.g a.b)≠0:=h3
 rw[show (HS (GB.mk a.g a.b)==0)=false by simpa using h3] at h;cases h) (λ_=>YE rfl rfl) _
def bkT(a:GBt):BkT:=⟨ZE (gbt a),a.t⟩
def Pf(a:GBt):Int:=bif HS (gbt a)==0 then (bif inT a then (bif decide ((lB (bkT a)).length=0) then 6 else 0) else 4) else HS (gbt a)
def Dp(a:GBt):Bnd:=bif Pf a==0 then bndM (lB (bkT a)) a.t else default
def C_Flow:Ctr:={ α:=GBt,xs:=xGBt,L:=λ_=>[],val:=λa=>.tup [.d (eBnd (Dp a)),.int (Pf a)],keep:=λ_=>[],pre:=λa=>[preT a/\True] }
def CNI:Ann:=ann 33 [(nC,C_stg.spec dGBt),(nL,C_bnd.spec dBkt)]
def CRD:Ann:=ann 33 [(nC,C_stgA.spec dGBt),(nL,C_bnd.spec dBkt)]
def CRG:Ann:={ ann 33 [(nC,C_stgX.spec dGBt),(nL,C_bnd.spec dBkt)] with cut:=λid=>if id=4 then some [] else none }
def CPS(a:GBt):Prop:=BG Try.prog CNI ARV (AL ARV) (xGBt a) (AF []) (C_Flow.val a) [] [] []
abbrev Mg:=Dp
abbrev APF a b c:=tP (sI a a) a a b c
abbrev Ud a:=APF a a a
abbrev BMC a b:=BkT.mk (Ud a) b
abbrev N7 a:=GBt.mk (Bv a) (ZG a) (To a)
abbrev ND a:=QS (N7 a)
abbrev mA a b:=BMC (ND a) (To b)
abbrev pT a:=sI a a
abbrev kP a b:=A2 (Ud a) b
attribute [go_sem] Mg APF Ud BMC N7 ND mA pT kP
theorem CWZ(a:GBt):(CPS a)=(PC (HX (CG (Bv a) (gM a)) (AT (Bv a) (gM a)) (AW (ZG a) (Jx a)) (AS (ZG a) (Jx a)) (AI (To a)) (And (Fo (Bv a)) (HP (ZG a))) (BE (uA (N7 a))) (DR (inT (N7 a)))) (HX (AI (To a)) (IN (pT (ND a)) (ND a)) (SX (pT (ND a)) (ND a)) (NC (Pd (ND a)) (ND a)) (AK (λi=>TI i (Pd (ND a)) (ND a) i)) CV Ya (EB (OI (ND a)) (AN (λi=>EX (Ud (ND a)) i (ND a) (λj=>DW j (Ud (ND a)) i (ND a) (CU (CH (Ud (ND a)) i j) (CH (ND a) i j) (CF (Ud (ND a)) i j) (CF (ND a) i j) (FB (Ud (ND a)) i j) (ND a) i j)))) (IN (QN (ND a)) (kP (ND a) (mA a a))) (SX (QN (ND a)) (kP (ND a) (mA a a))) (MO (ND a) (kP (ND a) (mA a a))) (λi=>MP i (ND a) (kP (ND a) (mA a a))) (PD (pT (ND a)) (Pd (ND a)) DX (λi=>PG i (Pd (ND a)) i i)) (BC (To a)) (HN (To a)))) (not (dT (mA a a))) (AJ (BE (IP (Mg a))) (BE (IW (Mg a))) (BE (IK (Mg a))) (BE (IR (Mg a))) (AO (Pf a) 6)) (AJ (AO (IP (Mg a)) (IP (yC (mA a a) (To a)))) (AO (IW (Mg a)) (IW (yC (mA a a) (To a)))) (AO (IK (Mg a)) (IK (yC (mA a a) (To a)))) (AO (IR (Mg a)) (IR (yC (mA a a) (To a)))) (BE (Pf a)))):=by kernel_rfl
def CPY(a:GBt):Prop:=BG Try.prog CRD ARV (AL ARV) (xGBt a) (AF []) (C_Flow.val a) [] [] []
theorem CVX(a:GBt):(CPY a)=(((KA a.g.length λ(i:Nat)=>gD a.g i).length=a.g.length/\(∀(i:Nat),i<(KA a.g.length λ(i:Nat)=>gD a.g i).length->(gD (KA a.g.length λ(i:Nat)=>gD
 a.g i) i).st=(gD a.g i).st/\(gD (KA a.g.length λ(i:Nat)=>gD a.g i) i).lo=(gD a.g i).lo/\(gD (KA a.g.length λ(i:Nat)=>gD a.g i) i).hi=(gD a.g i).hi)/\(KA a.b.length λ(i:Nat)=>gD a.b
 i).length=a.b.length/\(∀(i:Nat),i<(KA a.b.length λ(i:Nat)=>gD a.b i).length->gD (KA a.b.length λ(i:Nat)=>gD a.b i) i=gD a.b i)/\a.t=a.t/\((KA a.g.length λ(i:Nat)=>gD a.g i).length
 < 4611686018427387904/\(KA a.b.length λ(i:Nat)=>gD a.b i).length<4611686018427387904)/\HS (gbt (GBt.mk (KA a.g.length λ(i:Nat)=>gD a.g i) (KA a.b.length λ(i:Nat)=>gD a.b i) a.t))=0/\inT
 (GBt.mk (KA a.g.length λ(i:Nat)=>gD a.g i) (KA a.b.length λ(i:Nat)=>gD a.b i) a.t)=false)/\(Dp a).lo.n=0/\(Dp a).lo.d=0/\(Dp a).hi.n=0/\(Dp a).hi.d=0/\Pf a=4):=by
 kernel_rfl
def CPR(a:GBt):Prop:=BG Try.prog CRG ARV (AL ARV) (xGBt a) (AF []) (C_Flow.val a) [] [] []
theorem CUD(a:GBt):(CPR a)=(AH (FT (CG (Bv a) (gM a)) (AT (Bv a) (gM a)) (AW (ZG a) (Jx a)) (AS (ZG a) (Jx a)) (AI (To a)) (And (Fo (Bv a)) (HP (ZG a))) (VD (uA (N7 a)))) (DV (PK (uA (N7 a))) (AJ (BE (IP (Mg a))) (BE (IW (Mg a))) (BE (IK (Mg a))) (BE (IR (Mg a))) (AO (Pf a) (uA (N7 a)))) PS) FI):=by kernel_rfl
theorem CIA:∀(l:List Int) (x:Int),0<=x/\x<=2000->brk x l=0->l.Pairwise (· < ·)/\∀y∈l,x<y/\y<=2000
 |[],_,_,_=>⟨.nil,by simp⟩
 |z :: l,x,hx,h=>by
  unfold brk at h
  cases hi:Sx z (wr (x+1)) 2000 with
  |false=>rw[hi] at h;cases h
  |true=>
   rw[hi] at h
   unfold wr Sx at hi
   rw[JC (n:=x+1) (by omega) (by omega)] at hi
   simp only[Bool.and_eq_true,decide_eq_true_eq] at hi
   obtain⟨h1,h2⟩:=CIA l z (by omega) h
   refine⟨List.pairwise_cons.2 ⟨λy hy=>(h2 y hy).1,h1⟩,λy hy=>?_⟩
   rcases List.mem_cons.1 hy with rfl | hy
   ·exact⟨by omega,by omega⟩
   ·have:=h2 y hy;exact⟨by omega,this.2⟩
theorem BMR{a:GB}(h:HS a=0):Ic a.g a.b:=by
 unfold HS at h
 cases h1:GN a.g==0 with
 |false=>rw[h1] at h;rw[show GN a.g=0 from h] at h1;cases h1
 |true=>
  rw[h1] at h
  have h:Cb a.b=0:=h
  have h1:GN a.g=0:=by simpa using h1
  unfold GN at h1
  cases h2:Sx a.g.length 1 24 with
  |false=>rw[h2] at h1;cases h1
  |true=>
   rw[h2] at h1
   cases h3:a.g.all riG with
   |false=>rw[h3] at h1;cases h1
   |true=>
    unfold Sx at h2
    simp only[Bool.and_eq_true,decide_eq_true_eq] at h2
    unfold Cb at h
    split at h
    ·cases h
    ·obtain⟨h5,h6⟩:=CIA _ 0 (by omega) h
     refine⟨by omega,λx hx=>?_,by omega,h5,λy hy=>⟨by have:=h6 y hy;omega,(h6 y hy).2⟩⟩
     have:=List.all_eq_true.1 h3 x hx
     unfold riG Sx at this
     simp only[Bool.and_eq_true,decide_eq_true_eq] at this
     unfold Oy;omega
theorem COG:AM Try.prog CBW (C_Flow.spec dGBt):=Ctr.spec_ok (C:=C_Flow) (λ(a:GBt) h=>by
 have h:preT a:=(show preT a/\True from h).1
 by_cases hE:HS (gbt a)=0
 ·cases hT:inT a with
  |true=>
   refine Mj (A:=CNI) (L:=[]) (keep:=[]) (ren:=[]) (fz:=[]) CAI (by kernel_rfl) (AB DPO (AB AZF AG)) ?_
   show CPS a;rw[CWZ]<;> delta JB Oz AR AK BO CI AO EA DV DJ DX QJ QP AN BN BJ JN EY GW FC GF GD HB GE IG ZX Aa CW FX Jb JY NK Dc QN XL Xt Ma Po gM Jx To Mg AH LY NX LX NY AJ AZ AI DG BU FJ RH sM sI AP Wm DI tP DY A2 BZ BC DZ EZ Pd pT APF Ud DN GQ JA ID HC AW Ca BMC HY Bv YB FB Il HL AY CG CF QS yC Bt IA CH JZ KC Yf FK kP JV BD DR HN FG OB EN GH ZG AS CV GM OI BE Hq IR IP CU Cw NC CR N7 ND IW IK Cy Wr AT Oc EX QE DW XK HP EB IN Bn UE MO Ka MP HX Mw PG TI SX PC PD Fo mA Ya dT uA;simp only[CC,eq_self,implies_true,forall_const,Wy,eE,AOW,AOJ,eD,show GBt.mk a.g a.b a.t=a from rfl,show BkT.mk (ZE (gbt a)) a.t=bkT a from rfl]
   have hi:0<=a.t/\a.t<=2000:=by
    unfold inT Sx at hT;simpa using hT
   have hb:Ic (gbt a).g (gbt a).b:=BMR hE
   refine⟨⟨h,hE,hT⟩,⟨hb,hi⟩,λhc=>?_,λhc=>?_⟩
   ·have e:Pf a=6:=by unfold Pf;rw[hE,hT,decide_eq_true (show (lB (bkT a)).length=0 by omega)];rfl
    have e2:Dp a=default:=by unfold Dp;rw[e];rfl
    rw[e2];exact⟨rfl,rfl,rfl,rfl,e⟩
   ·have e:Pf a=0:=by unfold Pf;rw[hE,hT,decide_eq_false hc];rfl
    have e2:Dp a=bndM (lB (bkT a)) a.t:=by unfold Dp;rw[e];rfl
    rw[e2];exact⟨rfl,rfl,rfl,rfl,e⟩
  |false=>
   refine Mj (A:=CRD) (L:=[]) (keep:=[]) (ren:=[]) (fz:=[]) CAI (by kernel_rfl) (AB DJE (AB AZF AG)) ?_
   show CPY a;rw[CVX];simp only[CC,eq_self,implies_true,forall_const,show GBt.mk a.g a.b a.t=a from rfl]
   have e:Pf a=4:=by unfold Pf;rw[hE,hT];rfl
   have e2:Dp a=default:=by unfold Dp;rw[e];rfl
   rw[e2];exact⟨⟨h,hE,hT⟩,rfl,rfl,rfl,rfl,e⟩
 ·refine Mj (A:=CRG) (L:=[]) (keep:=[]) (ren:=[]) (fz:=[]) CAI (by kernel_rfl) (AB DIT (AB AZF AG)) ?_
  show CPR a;rw[CUD]<;> delta AR AK BO CI AO DV FI Gi PS BN BJ JN EY GW GE IG ZX Aa CW FX gM Jx To Mg AH LY NX LX NY AJ AZ AI DG BU DI DY DZ EZ DN GQ JA ID HC AW HY Bv HL CG IA KC BD FG EN GH ZG AS GM BE IR IP CR N7 IW IK AT HP FT PK VD Fo uA;simp only[CC,eq_self,implies_true,forall_const,show GBt.mk a.g a.b a.t=a from rfl]
  have e:Pf a=HS (gbt a):=by unfold Pf;rw[show (HS (gbt a)==0)=false by simpa using hE];rfl
  have e2:Dp a=default:=by unfold Dp;rw[e,show (HS (gbt a)==0)=false by simpa using hE];rfl
  rw[e2];exact⟨⟨h,hE⟩,λ_=>⟨rfl,rfl,rfl,rfl,e⟩,λhc=>hE (by simpa using hc)⟩) _
end Go.Bal
