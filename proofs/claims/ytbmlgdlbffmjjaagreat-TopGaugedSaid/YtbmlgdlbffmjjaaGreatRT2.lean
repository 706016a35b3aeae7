/- Package rating: the least and the greatest flow (no program in sight). -/
import Derived.Test.YtbmlgdlbffmjjaaGreatRT1
import Derived.Test.YtbmlgdlbffmjjaaGreatGaK
set_option linter.unusedVariables false
set_option linter.unusedSimpArgs false
namespace Go.Bal
open Go Go.Sym Go.Proofs
def Nk(a b:Rt):Prop:=a.n*b.d<=b.n*a.d
def uM(r:Rt):Prop:=(0<r.d/\r.d<=2000)/\0<=r.n/\r.n<=200000*r.d
def ZR(f:Rl)(t:Int):Rt:=if f.num t<0 then⟨0,1⟩ else if 200000*f.w<f.num t then⟨200000,1⟩ else⟨f.num t,f.w⟩
theorem Fa{f:Rl}{t:Int}(h:0<f.w):0<(ZR f t).d:=by
 unfold ZR;split
 ·exact Int.one_pos
 ·split
  ·exact Int.one_pos
  ·exact h
theorem QT{a b c:Rt}(ha:0<=a.d)(hb:0<b.d)(hc:0<=c.d)(h1:Nk a b)(h2:Nk b c):Nk a c:=H5 hb h1 h2 ha hc
theorem AXY(a:Rt):Nk a a:=Int.le_refl _
theorem T4{f g:Rl}{t u:Int}(hf:0<f.w)(hg:0<g.w)(h:f.num t*g.w<=g.num u*f.w):Nk (ZR f t) (ZR g u):=by
 unfold ZR Nk
 generalize f.num t=a at *
 generalize g.num u=b at *
 generalize f.w=c at *
 generalize g.w=d at *
 by_cases h1:a<0
 ·rw[if_pos h1]
  split
  ·simp
  ·split
   ·simp
   ·simp;omega
 ·rw[if_neg h1]
  have ha:=Int.mul_nonneg (show 0<=a by omega) (Int.le_of_lt hg)
  have hb:0<=b:=kH hf (by rw[Int.zero_mul];omega)
  rw[if_neg (show ¬b<0 by omega)]
  by_cases h2:200000*c<a
  ·rw[if_pos h2]
   have h3:=Int.mul_lt_mul_of_pos_right h2 hg
   have h4:200000*d<b:=Int.lt_of_mul_lt_mul_right (a:=c) (by grind) (Int.le_of_lt hf)
   rw[if_pos h4];simp
  ·rw[if_neg h2]
   split
   ·simp;omega
   ·exact h
theorem BPY{N W:Int}(hW:0<W):((jC N W).n<0↔N<0)/\(200000*(jC N W).d<(jC N W).n↔200000*W<N):=by
 have hv:=AED (n:=N) hW
 have hd:=(BBP (n:=N) hW).1
 generalize jC N W=r at *
 refine⟨⟨λh=>?_,λh=>?_⟩,λh=>?_,λh=>?_⟩
 ·have:=Int.mul_neg_of_neg_of_pos h hW
  rcases Int.lt_or_le N 0 with h1 | h1
  ·exact h1
  ·have:=Int.mul_nonneg h1 (Int.le_of_lt hd);omega
 ·have:=Int.mul_neg_of_neg_of_pos h hd
  rcases Int.lt_or_le r.n 0 with h1 | h1
  ·exact h1
  ·have:=Int.mul_nonneg h1 (Int.le_of_lt hW);omega
 ·have:=Int.mul_lt_mul_of_pos_right h hW
  exact Int.lt_of_mul_lt_mul_right (a:=r.d) (by grind) (Int.le_of_lt hd)
 ·have:=Int.mul_lt_mul_of_pos_right h hd
  exact Int.lt_of_mul_lt_mul_right (a:=W) (by grind) (Int.le_of_lt hW)
theorem AYV{x:Ln}{t:Int}(h:PO x):(LZ x t).n*(ZR (QQ x) t).d=(ZR (QQ x) t).n*(LZ x t).d:=by
 have hW:=(LD h).1
 obtain⟨h1,h2⟩:=BPY (N:=(QQ x).num t) hW
 have hv:=AED (n:=(QQ x).num t) hW
 unfold LZ AII ZR
 rw[BJF]
 by_cases c1:(QQ x).num t<0
 ·rw[if_pos c1,if_pos (h1.2 c1)]
 ·rw[if_neg c1,if_neg (λh=>c1 (h1.1 h))]
  by_cases c2:200000*(QQ x).w<(QQ x).num t
  ·rw[if_pos c2,if_pos (h2.2 c2)]
  ·rw[if_neg c2,if_neg (λh=>c2 (h2.1 h))]
   exact hv
theorem KR{x:Ln}{t:Int}(h:PO x):uM (LZ x t):=by
 have hd:=BEB (t:=t) h
 unfold LZ AII
 split
 ·exact⟨⟨Int.one_pos,by show (1:Int)<=2000;omega⟩,Int.le_refl _,by show (0:Int)<=200000*1;omega⟩
 ·split
  ·exact⟨⟨Int.one_pos,by show (1:Int)<=2000;omega⟩,by show (0:Int)<=200000;omega,by show (200000:Int)<=200000*1;omega⟩
  ·exact⟨hd,by omega,by omega⟩
theorem ACI{x:Ln}{t:Int}{r:Rt}(h:PO x)(hr:0<r.d):Nk (LZ x t) r↔Nk (ZR (QQ x) t) r:=by
 have hv:=AYV (t:=t) h
 have h1:=(KR (t:=t) h).1.1
 have h2:=Fa (t:=t) (LD h).1
 exact⟨λa=>QT (Int.le_of_lt h2) h1 (Int.le_of_lt hr) (by unfold Nk;omega) a,λa=>QT (Int.le_of_lt h1) h2 (Int.le_of_lt hr) (by unfold Nk;omega) a⟩
theorem M8{x:Ln}{t:Int}{r:Rt}(h:PO x)(hr:0<r.d):Nk r (LZ x t)↔Nk r (ZR (QQ x) t):=by
 have hv:=AYV (t:=t) h
 have h1:=(KR (t:=t) h).1.1
 have h2:=Fa (t:=t) (LD h).1
 exact⟨λa=>QT (Int.le_of_lt hr) h1 (Int.le_of_lt h2) a (by unfold Nk;omega),λa=>QT (Int.le_of_lt hr) h2 (Int.le_of_lt h1) a (by unfold Nk;omega)⟩
theorem ADJ{a b:Rt}(ha:uM a)(hb:uM b):wr (a.n*b.d)=a.n*b.d:=by
 obtain⟨⟨a1,a2⟩,a3,a4⟩:=ha
 obtain⟨⟨b1,b2⟩,b3,b4⟩:=hb
 have h1:=mulb (A:=400000000) (B:=2000) a3 (by omega) (Int.le_of_lt b1) b2
 exact Ab (by omega) (by omega)
theorem COU{a b:Int}:kW a b>0↔b<a:=by
 unfold kW
 by_cases h:a<b
 ·simp[h];omega
 ·by_cases h2:b<a
  ·simp[h,h2]
  ·simp[h,h2]
theorem CDQ{a b:Int}:kW a b<0↔a<b:=by
 unfold kW
 by_cases h:a<b
 ·simp[h]
 ·by_cases h2:b<a
  ·simp[h,h2]
  ·simp[h,h2]
theorem APB{a b:Rt}(ha:uM a)(hb:uM b):tO a b<0↔a.n*b.d<b.n*a.d:=by
 unfold tO;rw[ADJ ha hb,ADJ hb ha,CDQ]
theorem AQQ{a b:Rt}(ha:uM a)(hb:uM b):tO a b>0↔b.n*a.d<a.n*b.d:=by
 unfold tO;rw[ADJ ha hb,ADJ hb ha,COU]
theorem CGM{a b:Rt}(ha:uM a)(hb:uM b):ltR a b=false↔Nk b a:=by
 unfold ltR Nk;rw[decide_eq_false_iff_not,APB ha hb];omega
theorem CBS{a b:Rt}(ha:uM a)(hb:uM b):gtR a b=false↔Nk a b:=by
 unfold gtR Nk;rw[decide_eq_false_iff_not,AQQ ha hb];omega
theorem R6{lt:Rt->Rt->Bool}{le:Rt->Rt->Prop}{t:Int}(hle:∀a b,uM a->uM b->(lt a b=false↔le b a))(hlt:∀a b,uM a->uM b->lt a b=true->le a b)(htr:∀a b c,uM a->uM b->uM c->le a b->le b c->le a c)(hrf:∀a,le a a):∀(l:List Ln) (b:Ln),PO b->(∀x∈l,PO x)->(l.foldl (Kg lt t) b=b∨l.foldl (Kg lt t) b∈l)/\PO (l.foldl (Kg lt t) b)/\le (LZ (l.foldl (Kg lt t) b) t) (LZ b t)/\∀x∈l,le (LZ (l.foldl (Kg lt t) b) t) (LZ x t)
 |[],b,hb,_=>⟨.inl rfl,hb,hrf _,λx hx=>by cases hx⟩
 |z :: l,b,hb,h=>by
  rw[List.foldl_cons]
  have hz:=h z (List.mem_cons_self ..)
  have hp:PO (Kg lt t b z)/\(Kg lt t b z=b∨Kg lt t b z=z)/\le (LZ (Kg lt t b z) t) (LZ b t)/\le (LZ (Kg lt t b z) t) (LZ z t):=by
   unfold Kg
   cases hc:lt (LZ z t) (LZ b t) with
   |true=>exact⟨hz,.inr rfl,hlt _ _ (KR hz) (KR hb) hc,hrf _⟩
   |false=>exact⟨hb,.inl rfl,hrf _,(hle _ _ (KR hz) (KR hb)).1 hc⟩
  obtain⟨p1,p2,p3,p4⟩:=hp
  obtain⟨r1,r2,r3,r4⟩:=R6 hle hlt htr hrf l (Kg lt t b z) p1 (λx hx=>h x (List.mem_cons_of_mem _ hx))
  refine⟨?_,r2,htr _ _ _ (KR r2) (KR p1) (KR hb) r3 p3,λx hx=>?_⟩
  ·rcases r1 with r1 | r1
   ·rw[r1]
    rcases p2 with p2 | p2
    ·exact .inl p2
    ·exact .inr (by rw[p2];exact List.mem_cons_self ..)
   ·exact .inr (List.mem_cons_of_mem _ r1)
  ·rcases List.mem_cons.1 hx with rfl | hx
   ·exact htr _ _ _ (KR r2) (KR p1) (KR hz) r3 p4
   ·exact r4 x hx
theorem BGP{l:List Ln}{t:Int}(h:∀x∈l,PO x)(hne:l≠[]):eF ltR t l∈l/\∀x∈l,Nk (LZ (eF ltR t l) t) (LZ x t):=by
 have h0:0<l.length:=List.length_pos_iff.2 hne
 obtain⟨r1,r2,r3,r4⟩:=R6 (lt:=ltR) (le:=Nk) (t:=t) (λa b ha hb=>CGM ha hb) (λa b ha hb hc=>by
  unfold ltR at hc;have:=(APB ha hb).1 (of_decide_eq_true hc);unfold Nk;omega) (λa b c ha hb hc h1 h2=>QT (Int.le_of_lt ha.1.1) hb.1.1 (Int.le_of_lt hc.1.1) h1 h2) (λa=>AXY a) l (gD l 0) (h _ (MF h0)) h
 refine⟨?_,r4⟩
 rcases r1 with r1 | r1
 ·unfold eF;rw[r1];exact MF h0
 ·exact r1
theorem BHB{l:List Ln}{t:Int}(h:∀x∈l,PO x)(hne:l≠[]):eF gtR t l∈l/\∀x∈l,Nk (LZ x t) (LZ (eF gtR t l) t):=by
 have h0:0<l.length:=List.length_pos_iff.2 hne
 obtain⟨r1,r2,r3,r4⟩:=R6 (lt:=gtR) (le:=λa b=>Nk b a) (t:=t) (λa b ha hb=>CBS ha hb) (λa b ha hb hc=>by
  unfold gtR at hc;have:=(AQQ ha hb).1 (of_decide_eq_true hc);unfold Nk;omega) (λa b c ha hb hc h1 h2=>QT (Int.le_of_lt hc.1.1) hb.1.1 (Int.le_of_lt ha.1.1) h2 h1) (λa=>AXY a) l (gD l 0) (h _ (MF h0)) h
 refine⟨?_,r4⟩
 rcases r1 with r1 | r1
 ·unfold eF;rw[r1];exact MF h0
 ·exact r1
theorem AIK{f:Rl}{s:List Gau}{t:Int}(hs:∀g∈s,Ht g)(ht:0<=t/\t<=2000)(hf:f.ok)(hp:f.passes s):Nn s t≠[]:=by
 obtain⟨y,hy,_⟩:=AVK hs ht hf hp
 intro he;rw[he] at hy;cases hy
def qD(s:List Gau)(t:Int):Bnd:=bndM (Nn s t) t
theorem BBD{s:List Gau}{t:Int}(h:Nn s t≠[]):qD s t=⟨LZ (eF ltR t (Nn s t)) t,LZ (eF gtR t (Nn s t)) t⟩:=by
 unfold qD bndM;rw[decide_eq_false (λhe=>h (List.eq_nil_of_length_eq_zero he))];rfl
theorem AFL{f:Rl}{s:List Gau}{t:Int}(hs:∀g∈s,Ht g)(ht:0<=t/\t<=2000)(hf:f.ok)(hp:f.passes s):Nk (qD s t).lo (ZR f t):=by
 have hne:=AIK hs ht hf hp
 rw[BBD hne]
 obtain⟨b1,b2⟩:=BGP (t:=t) (λx hx=>(Kh hs hx).1) hne
 obtain⟨y,hy,oy,hc⟩:=AVK hs ht hf hp
 have hw:=(LD oy).1
 have key:Nk (ZR (QQ y) t) (ZR f t):=by
  rcases hc with hc | hc
  ·have hz:Nk (ZR (QQ y) t) ⟨0,1⟩:=by
    unfold ZR Nk;split
    ·exact Int.le_refl _
    ·rw[if_neg (by omega)];show (QQ y).num t*1<=0*_;omega
   refine QT (b:=⟨0,1⟩) (Int.le_of_lt (Fa hw)) Int.one_pos (Int.le_of_lt (Fa hf.1)) hz ?_
   unfold ZR Nk;split
   ·exact Int.le_refl _
   ·split
    ·show (0:Int)*1<=200000*1;omega
    ·show 0*f.w<=f.num t*1;omega
  ·exact T4 hw hf.1 hc
 have ob:=(Kh hs b1).1
 exact QT (Int.le_of_lt (KR ob).1.1) (KR oy).1.1 (Int.le_of_lt (Fa hf.1)) (b2 y hy) ((ACI oy (Fa hf.1)).2 key)
theorem AQO{f:Rl}{s:List Gau}{t:Int}(hs:∀g∈s,Ht g)(ht:0<=t/\t<=2000)(hf:f.ok)(hp:f.passes s):Nk (ZR f t) (qD s t).hi:=by
 have hne:=AIK hs ht hf hp
 rw[BBD hne]
 obtain⟨b1,b2⟩:=BHB (t:=t) (λx hx=>(Kh hs hx).1) hne
 obtain⟨y,hy,oy,hc⟩:=BMO hs ht hf hp
 have hw:=(LD oy).1
 have key:Nk (ZR f t) (ZR (QQ y) t):=by
  rcases hc with hc | hc
  ·have hz:Nk ⟨200000,1⟩ (ZR (QQ y) t):=by
    unfold ZR Nk
    rw[if_neg (by omega)];split
    ·exact Int.le_refl _
    ·show 200000*(QQ y).w<=(QQ y).num t*1;omega
   refine QT (b:=⟨200000,1⟩) (Int.le_of_lt (Fa hf.1)) Int.one_pos (Int.le_of_lt (Fa hw)) ?_ hz
   unfold ZR Nk;split
   ·show (0:Int)*1<=200000*1;omega
   ·split
    ·exact Int.le_refl _
    ·show f.num t*1<=200000*f.w;omega
  ·exact T4 hf.1 hw hc
 have ob:=(Kh hs b1).1
 exact QT (Int.le_of_lt (Fa hf.1)) (KR oy).1.1 (Int.le_of_lt (KR ob).1.1) ((M8 oy (Fa hf.1)).2 key) (b2 y hy)
theorem sK{s:List Gau}{t:Int}(hs:∀g∈s,Ht g)(h:Nn s t≠[]):(∃y,PO y/\(QQ y).passes s/\(qD s t).lo=LZ y t)/\∃y,PO y/\(QQ y).passes s/\(qD s t).hi=LZ y t:=by
 rw[BBD h]
 obtain⟨b1,_⟩:=BGP (t:=t) (λx hx=>(Kh hs hx).1) h
 obtain⟨c1,_⟩:=BHB (t:=t) (λx hx=>(Kh hs hx).1) h
 exact⟨⟨_,(Kh hs b1).1,(Kh hs b1).2,rfl⟩,_,(Kh hs c1).1,(Kh hs c1).2,rfl⟩
theorem ANC{f:Rl}{t u:Int}(hf:f.ok)(h:t<=u):Nk (ZR f t) (ZR f u):=by
 refine T4 hf.1 hf.1 ?_
 have:=Int.mul_le_mul_of_nonneg_left h hf.2
 exact Int.mul_le_mul_of_nonneg_right (by unfold Rl.num;omega) (Int.le_of_lt hf.1)
theorem AXO{s:List Gau}{t u:Int}(hs:∀g∈s,Ht g)(ht:0<=t)(htu:t<=u)(hu:u<=2000)(h:Nn s t≠[]):Nk (qD s t).lo (qD s u).lo/\Nk (qD s t).hi (qD s u).hi:=by
 obtain⟨_,y,oy,py,ey⟩:=sK hs h
 have h2:Nn s u≠[]:=AIK hs ⟨by omega,hu⟩ (LD oy) py
 obtain⟨⟨z,oz,pz,ez⟩,y',oy',py',ey'⟩:=sK hs h2
 obtain⟨⟨z',oz',pz',ez'⟩,_⟩:=sK hs h
 have dz:=Fa (f:=QQ z) (t:=t) (LD oz).1
 have dz2:=Fa (f:=QQ z) (t:=u) (LD oz).1
 have dy:=Fa (f:=QQ y) (t:=t) (LD oy).1
 have dy2:=Fa (f:=QQ y) (t:=u) (LD oy).1
 refine⟨?_,?_⟩
 ·have a1:=AFL hs ⟨ht,by omega⟩ (LD oz) pz
  have a2:=ANC (LD oz) htu
  have d1:0<(qD s t).lo.d:=by rw[ez'];exact (KR oz').1.1
  have a3:=QT (Int.le_of_lt d1) dz (Int.le_of_lt dz2) a1 a2
  rw[ez];exact (M8 oz d1).2 a3
 ·have a1:=AQO hs ⟨by omega,hu⟩ (LD oy) py
  have a2:=ANC (LD oy) htu
  have d1:0<(qD s u).hi.d:=by rw[ey'];exact (KR oy').1.1
  have a3:=QT (Int.le_of_lt dy) dy2 (Int.le_of_lt d1) a2 a1
  rw[ey];exact (ACI oy d1).2 a3
theorem BQP{s:List Gau}{t:Int}(hs:∀g∈s,Ht g)(ht:0<=t/\t<=2000)(h:Nn s t≠[]):uM (qD s t).lo/\uM (qD s t).hi/\Nk (qD s t).lo (qD s t).hi:=by
 obtain⟨⟨z,oz,pz,ez⟩,y,oy,py,ey⟩:=sK hs h
 have a1:=AFL hs ht (LD oy) py
 refine⟨ez ▸ KR oz,ey ▸ KR oy,?_⟩
 have d1:0<(qD s t).lo.d:=by rw[ez];exact (KR oz).1.1
 rw[ey];exact (M8 oy d1).2 a1
end Go.Bal

namespace Go.Bal
open Go Go.Sym Go.Proofs
def ptK(b:List Int)(t:Int):Nat->Nat->Nat
 |0,k=>k
 |n+1,k=>bif decide (gD b k<=t) then ptK b t n (k+1) else k
def ptM(b:List Int)(t:Int):Nat:=ptK b t b.length 0
theorem BRX{b:List Int}{t:Int}:∀(n k:Nat),k<=ptK b t n k/\ptK b t n k<=k+n
 |0,k=>⟨Nat.le_refl _,Nat.le_refl _⟩
 |n+1,k=>by
  unfold ptK
  cases decide (gD b k<=t)
  ·exact⟨Nat.le_refl _,by show k<=_;omega⟩
  ·have:=BRX (b:=b) (t:=t) n (k+1);show k<=ptK b t n (k+1)/\ptK b t n (k+1)<=_;omega
end Go.Bal

namespace Go.Bal
open Go Go.Sym Go.Proofs
structure Fits(l:List Gau)(r:Rtg):Prop where
 len:1<=l.length
 ok:∀g∈l,Ht g
 small:∀g∈l,g.st<=199/\g.hi<=2000
 asc:asc r.b
 brk:∀x∈r.b,1<=x/\x<=120
 two:r.b.length<=2
 lines:r.l.length=r.b.length+1
 rise:∀x∈r.l,PO x
 pass:∀g∈l,(QQ (gD r.l (Vx r.b g.st))).pass g
theorem AIT{b:List Int}{t:Int}:∀(n k:Nat),(∀j,k<=j->j<ptK b t n k->gD b j<=t)/\(ptK b t n k<k+n->¬gD b (ptK b t n k)<=t)
 |0,k=>⟨λj h1 h2=>by have:j<k:=h2;omega,λh=>by have:k<k+0:=h;omega⟩
 |n+1,k=>by
  unfold ptK
  by_cases hc:gD b k<=t
  ·rw[decide_eq_true hc]
   obtain⟨h1,h2⟩:=AIT (b:=b) (t:=t) n (k+1)
   refine⟨λj a1 a2=>?_,λh=>h2 (by show ptK b t n (k+1)<_;have:ptK b t n (k+1)<k+(n+1):=h;omega)⟩
   by_cases hj:j=k
   ·rw[hj];exact hc
   ·exact h1 j (by omega) a2
  ·rw[decide_eq_false hc]
   exact⟨λj a1 a2=>by have:j<k:=a2;omega,λ_=>hc⟩
theorem CNF{b:List Int}{t:Int}(hb:asc b):ptM b t=Vx b t:=by
 obtain⟨h1,h2⟩:=AIT (b:=b) (t:=t) b.length 0
 have hle:=BRX (b:=b) (t:=t) b.length 0
 symm
 unfold Vx ptM
 refine I5 (by omega) (λj hj=>decide_eq_true (h1 j (Nat.zero_le _) hj)) (λj hj hj2=>decide_eq_false ?_)
 have h3:=h2 (by omega)
 intro hc
 by_cases he:ptK b t b.length 0=j
 ·exact h3 (he ▸ hc)
 ·have:=nL hb (show ptK b t b.length 0<j by omega) hj2
  omega
end Go.Bal

namespace Go.Bal
open Go Go.Sym Go.Proofs
theorem AVZ:∀(l:List Int) (x:Int),0<=x/\x<=2000->asc l->(∀y∈l,x<y/\y<=2000)->brk x l=0
 |[],_,_,_,_=>rfl
 |z :: l,x,hx,ha,h=>by
  have hz:=h z (List.mem_cons_self ..)
  obtain⟨h1,h2⟩:=List.pairwise_cons.1 ha
  unfold brk
  have:MN z (wr (x+1)) 2000=true:=by
   unfold MN wr
   rw[Ab (n:=x+1) (by omega) (by omega)]
   simp only[Bool.and_eq_true,decide_eq_true_eq];omega
  rw[this]
  exact AVZ l z (by omega) h2 (λy hy=>⟨h1 y hy,(h y (List.mem_cons_of_mem _ hy)).2⟩)
theorem AKO{l:List Gau}(h:1<=l.length/\l.length<=24)(ho:∀g∈l,Ht g):IH l=0:=by
 unfold IH
 have e1:MN l.length 1 24=true:=by unfold MN;simp only[Bool.and_eq_true,decide_eq_true_eq];omega
 have e2:l.all riG=true:=List.all_eq_true.2 λg hg=>by
  obtain⟨h1,h2,h3,h4,h5⟩:=ho g hg
  unfold riG MN;simp only[Bool.and_eq_true,decide_eq_true_eq];omega
 rw[e1,e2];rfl
theorem BFY{b:List Int}(h1:asc b)(h2:∀x∈b,1<=x/\x<=2000)(h3:b.length<=24):Ak b=0:=by
 unfold Ak
 rw[if_neg (by omega)]
 exact AVZ b 0 (by omega) h1 (λy hy=>by have:=h2 y hy;omega)
theorem BKP{l:List Gau}{b:List Int}(h:1<=l.length/\l.length<=24)(ho:∀g∈l,Ht g)(h1:asc b)(h2:∀x∈b,1<=x/\x<=2000)(h3:b.length<=24):RN ⟨l,b⟩=0:=by
 unfold RN
 rw[AKO h ho]
 exact BFY h1 h2 h3
def PW(l:List Gau)(b:List Int)(k:Int):List Gau:=aE (Ca ⟨l,b⟩) k
theorem Kl{l:List Gau}{b:List Int}{k:Int}{g:Gau}:g∈PW l b k↔g∈l/\(Vx b g.st:Int)=k:=by
 unfold PW aE Ca
 rw[List.mem_filter,beq_iff_eq]
theorem Vo{l:List Gau}{b:List Int}{k:Int}(ho:∀g∈l,Ht g):∀g∈PW l b k,Ht g:=λg hg=>ho g (Kl.1 hg).1
theorem pP(b:List Int)(t:Int):Vx b t<=b.length:=List.countP_le_length
structure Thru(l:List Gau)(b:List Int):Prop where
 len:1<=l.length/\l.length<=24
 ok:∀g∈l,Ht g
 asc:asc b
 brk:∀x∈b,1<=x/\x<=2000
 few:b.length<=24
 thru:∀k:Nat,k<=b.length->∃x,PO x/\(QQ x).passes (PW l b k)
theorem Fits.thru{l:List Gau}{r:Rtg}(h:Fits l r)(h2:l.length<=24):Thru l r.b:=⟨⟨h.len,h2⟩,h.ok,h.asc,λx hx=>by have:=h.brk x hx;omega,by have:=h.two;omega,λk hk=>⟨gD r.l k,h.rise _ (MF (by rw[h.lines];omega)),λg hg=>by
 obtain⟨h3,h4⟩:=Kl.1 hg
 have:=h.pass g h3
 rw[show Vx r.b g.st=k by omega] at this;exact this⟩⟩
theorem Thru.open{l:List Gau}{b:List Int}(h:Thru l b):RN ⟨l,b⟩=0:=BKP h.len h.ok h.asc h.brk h.few
theorem Thru.bk{l:List Gau}{b:List Int}(h:Thru l b):gI l b:=BIM h.open
theorem Thru.ne{l:List Gau}{b:List Int}(h:Thru l b){k:Nat}(hk:k<=b.length){t:Int}(ht:0<=t/\t<=2000):Nn (PW l b k) t≠[]:=by
 obtain⟨x,h1,h2⟩:=h.thru k hk
 exact AIK (Vo h.ok) ht (LD h1) h2
theorem Thru.flow{l:List Gau}{b:List Int}(h:Thru l b){t:Int}(ht:0<=t/\t<=2000):Mw ⟨l,b,t⟩=0/\SZ ⟨l,b,t⟩=qD (PW l b (Vx b t)) t:=by
 have hne:=h.ne (pP b t) ht
 have e:Mw ⟨l,b,t⟩=0:=by
  unfold Mw
  rw[show RN (V5 ⟨l,b,t⟩)=0 from h.open,show inT ⟨l,b,t⟩=true by unfold inT MN;simpa using ht,decide_eq_false (show ¬(lB (bkT ⟨l,b,t⟩)).length=0 from λhc=>hne (List.eq_nil_of_length_eq_zero hc))]
  rfl
 refine⟨e,?_⟩
 unfold SZ;rw[e];rfl
theorem Thru.in{l:List Gau}{b:List Int}(h:Thru l b){k:Nat}(hk:k<=b.length){t:Int}(ht:0<=t/\t<=2000):uM (qD (PW l b k) t).lo/\uM (qD (PW l b k) t).hi/\Nk (qD (PW l b k) t).lo (qD (PW l b k) t).hi:=BQP (Vo h.ok) ht (h.ne hk ht)
theorem AEP{pr:Int->Bool}:∀(n:Nat) (lo hi:Int),lo<=hi->(hi-lo).toNat<=n->(∀m m':Int,lo<m->m<=m'->m'<=hi->pr m'=true->pr m=true)->(∀m,lo<m->m<=upL pr n lo hi->pr m=true)/\∀m,upL pr n lo hi<m->m<=hi->pr m=false
 |0,lo,hi,h,hn,_=>⟨λm h1 h2=>by have:m<=lo:=h2;omega,λm h1 h2=>by have:lo<m:=h1;omega⟩
 |n+1,lo,hi,h,hn,hm=>by
  unfold upL
  by_cases hl:lo<hi
  ·obtain⟨h3,h4⟩:=BXV hl
   rw[decide_eq_true hl]
   generalize hM:lo+(hi-lo+1).tdiv 2=M at *
   cases hp:pr M with
   |true=>
    obtain⟨r1,r2⟩:=AEP n M hi h4 (by omega) (λm m' a b c d=>hm m m' (by omega) b c d)
    refine⟨λm a1 a2=>?_,r2⟩
    by_cases hc:m<=M
    ·exact hm m M a1 hc h4 hp
    ·exact r1 m (by omega) a2
   |false=>
    obtain⟨r1,r2⟩:=AEP n lo (M-1) (by omega) (by omega) (λm m' a b c d=>hm m m' a b (by omega) d)
    refine⟨r1,λm a1 a2=>?_⟩
    by_cases hc:m<=M-1
    ·exact r2 m a1 hc
    ·cases hq:pr m with
     |false=>rfl
     |true=>
      have:=hm M m h3 (by omega) a2 hq
      rw[this] at hp;cases hp
  ·rw[decide_eq_false hl]
   exact⟨λm h1 h2=>by have:m<=lo:=h2;omega,λm h1 h2=>by have:lo<m:=h1;omega⟩
def qR(q:Int):Rt:=⟨q,1⟩
theorem CJP{q:Int}(h:0<=q/\q<=200000):uM (qR q):=⟨⟨Int.one_pos,by show (1:Int)<=2000;omega⟩,h.1,by show q<=200000*1;omega⟩
def sF(b:List Int)(k:Nat):Span:=dB (Ca ⟨[],b⟩) k
theorem Thru.span{l:List Gau}{b:List Int}(h:Thru l b){k:Nat}(hk:k<=b.length):0<=(sF b k).lo/\(sF b k).lo<=(sF b k).hi/\(sF b k).hi<=2000/\∀m:Int,(sF b k).lo<=m->m<=(sF b k).hi->Vx b m=k:=by
 obtain⟨h1,h2,h3,h4⟩:=BGK (w:=Ca ⟨l,b⟩) (k:=k) h.bk (by omega) (Int.ofNat_le.2 hk)
 exact⟨h1,h2,h3,λm a c=>Int.ofNat.inj (h4 m a c)⟩
theorem Thru.up{l:List Gau}{b:List Int}(h:Thru l b){q:Int}(hq:0<=q/\q<=200000){k:Nat}(hk:k<=b.length)(v:BnF->Bool)(c:Bnd->Prop)(hv:∀t,(sF b k).lo<=t->t<=(sF b k).hi->(v ⟨qD (PW l b k) t,qR q⟩=true↔c (qD (PW l b k) t)))(hm:∀t u,(sF b k).lo<=t->t<=u->u<=(sF b k).hi->c (qD (PW l b k) u)->c (qD (PW l b k) t)):((sF b k).lo-1<=upM v ⟨Ca ⟨l,b⟩,k,qR q⟩/\upM v ⟨Ca ⟨l,b⟩,k,qR q⟩<=(sF b k).hi)/\(∀t,(sF b k).lo<=t->t<=upM v ⟨Ca ⟨l,b⟩,k,qR q⟩->c (qD (PW l b k) t))/\∀t,upM v ⟨Ca ⟨l,b⟩,k,qR q⟩<t->t<=(sF b k).hi->¬c (qD (PW l b k) t):=by
 obtain⟨s1,s2,s3,s4⟩:=h.span hk
 have hi:=CNG (v:=v) (a:=⟨Ca ⟨l,b⟩,k,qR q⟩) h.bk (Int.natCast_nonneg _) (Int.ofNat_le.2 hk)
 have hp:∀t,(sF b k).lo<=t->t<=(sF b k).hi->(upP v ⟨Ca ⟨l,b⟩,k,qR q⟩ t=true↔c (qD (PW l b k) t)):=λt a d=>by
  have e:upP v ⟨Ca ⟨l,b⟩,k,qR q⟩ t=v ⟨qD (PW l b (Vx b t)) t,qR q⟩:=rfl
  rw[e,s4 t a d];exact hv t a d
 have hs:=AEP (pr:=upP v ⟨Ca ⟨l,b⟩,k,qR q⟩) 3000 ((sF b k).lo-1) (sF b k).hi (by omega) (by omega) (λm m' a d e f=>(hp m (by omega) (by omega)).2 (hm m m' (by omega) d e ((hp m' (by omega) e).1 f)))
 have ho:upM v ⟨Ca ⟨l,b⟩,k,qR q⟩=upL (upP v ⟨Ca ⟨l,b⟩,k,qR q⟩) 3000 ((sF b k).lo-1) (sF b k).hi:=rfl
 rw[<-ho] at hs
 have i1:(sF b k).lo-1<=upM v ⟨Ca ⟨l,b⟩,k,qR q⟩:=hi.1
 have i2:upM v ⟨Ca ⟨l,b⟩,k,qR q⟩<=(sF b k).hi:=hi.2.1
 refine⟨⟨i1,i2⟩,λt a d=>(hp t a (by omega)).1 (hs.1 t (by omega) d),λt a d hc=>?_⟩
 have:=hs.2 t a d
 rw[(hp t (by omega) d).2 hc] at this;cases this
theorem BKY{a b:Rt}:¬Nk a b↔b.n*a.d<a.n*b.d:=by unfold Nk;omega
theorem Thru.first{l:List Gau}{b:List Int}(h:Thru l b){q:Int}(hq:0<=q/\q<=200000){k:Nat}(hk:k<=b.length):((sF b k).lo<=stF ⟨⟨l,b⟩,q⟩ k/\stF ⟨⟨l,b⟩,q⟩ k<=(sF b k).hi+1)/\(∀t,(sF b k).lo<=t->t<stF ⟨⟨l,b⟩,q⟩ k->¬Nk (qR q) (qD (PW l b k) t).hi)/\∀t,stF ⟨⟨l,b⟩,q⟩ k<=t->t<=(sF b k).hi->Nk (qR q) (qD (PW l b k) t).hi:=by
 obtain⟨s1,s2,s3,s4⟩:=h.span hk
 have oq:=CJP hq
 obtain⟨⟨r0,r1⟩,r2,r3⟩:=h.up hq hk st1 (λB=>¬Nk (qR q) B.hi) (λt a d=>by
  have:=(h.in hk (t:=t) (by omega)).2.1
  unfold st1;rw[decide_eq_true_eq,APB this oq,BKY]) (λt u a d e hc h2=>hc (by
  have h1:=(h.in hk (t:=t) (by omega)).2.1
  have h3:=(h.in hk (t:=u) (by omega)).2.1
  have:=(AXO (Vo h.ok) (show 0<=t by omega) d (by omega) (h.ne hk (t:=t) (by omega))).2
  exact QT (Int.le_of_lt oq.1.1) h1.1.1 (Int.le_of_lt h3.1.1) h2 this))
 have e:stF ⟨⟨l,b⟩,q⟩ k=upM st1 ⟨Ca ⟨l,b⟩,k,qR q⟩+1:=rfl
 rw[e]
 exact⟨⟨by omega,by omega⟩,λt a d=>r2 t a (by omega),λt a d=>Classical.byContradiction λhc=>r3 t (by omega) d hc⟩
theorem Thru.last{l:List Gau}{b:List Int}(h:Thru l b){q:Int}(hq:0<=q/\q<=200000){k:Nat}(hk:k<=b.length):((sF b k).lo-1<=stL ⟨⟨l,b⟩,q⟩ k/\stL ⟨⟨l,b⟩,q⟩ k<=(sF b k).hi)/\(∀t,(sF b k).lo<=t->t<=stL ⟨⟨l,b⟩,q⟩ k->Nk (qD (PW l b k) t).lo (qR q))/\∀t,stL ⟨⟨l,b⟩,q⟩ k<t->t<=(sF b k).hi->¬Nk (qD (PW l b k) t).lo (qR q):=by
 obtain⟨s1,s2,s3,s4⟩:=h.span hk
 have oq:=CJP hq
 exact h.up hq hk st2 (λB=>Nk B.lo (qR q)) (λt a d=>by
  have:=(h.in hk (t:=t) (by omega)).1
  unfold st2;rw[decide_eq_true_eq]
  show tO (qD (PW l b k) t).lo (qR q)<=0↔_
  have:=AQQ this oq
  unfold Nk;omega) (λt u a d e hc=>by
  have h1:=(h.in hk (t:=t) (by omega)).1
  have h3:=(h.in hk (t:=u) (by omega)).1
  have:=(AXO (Vo h.ok) (show 0<=t by omega) d (by omega) (h.ne hk (t:=t) (by omega))).1
  exact QT (Int.le_of_lt h1.1.1) h3.1.1 (Int.le_of_lt oq.1.1) this hc)
theorem BON(b:List Int)(k:Nat):(sF b k).lo=if 0<k then gD b (k-1) else 0:=by
 show (bif decide ((k:Int)>0) then gD b ((k:Int)-1).toNat else 0)=_
 by_cases h0:0<k
 ·rw[decide_eq_true (show (k:Int)>0 by omega),if_pos h0,show ((k:Int)-1).toNat=k-1 by omega];rfl
 ·rw[decide_eq_false (show ¬(k:Int)>0 by omega),if_neg h0];rfl
theorem BOW{b:List Int}(hb:∀x∈b,1<=x/\x<=2000)(k:Nat):(sF b k).hi=if k<b.length then gD b k-1 else 2000:=by
 show (bif decide ((k:Int)<b.length) then wr (gD b (k:Int).toNat-1) else 2000)=_
 by_cases h0:k<b.length
 ·have:=hb _ (MF h0)
  rw[decide_eq_true (show (k:Int)<b.length by omega),if_pos h0,Int.toNat_natCast]
  unfold wr;rw[Ab (by omega) (by omega)];rfl
 ·rw[decide_eq_false (show ¬(k:Int)<b.length by omega),if_neg h0];rfl
theorem CPK{b:List Int}{t:Int}(hb:asc b):(∀j,j<Vx b t->gD b j<=t)/\∀j,Vx b t<=j->j<b.length->t<gD b j:=by
 have h:=AIT (b:=b) (t:=t) b.length 0
 have e:ptK b t b.length 0=Vx b t:=CNF hb
 rw[e] at h
 refine⟨λj hj=>h.1 j (Nat.zero_le _) hj,λj hj hj2=>?_⟩
 have h3:=h.2 (by omega)
 by_cases he:Vx b t=j
 ·rw[he] at h3;omega
 ·have:=nL hb (show Vx b t<j by omega) hj2;omega
theorem Thru.at{l:List Gau}{b:List Int}(h:Thru l b){t:Int}(ht:0<=t/\t<=2000):(sF b (Vx b t)).lo<=t/\t<=(sF b (Vx b t)).hi:=by
 obtain⟨h1,h2⟩:=CPK (t:=t) h.asc
 rw[BON,BOW h.brk]
 constructor
 ·split
  ·exact h1 _ (by omega)
  ·exact ht.1
 ·split
  ·rename_i hl
   have:=h2 _ (Nat.le_refl _) hl;omega
  ·exact ht.2
theorem Thru.next{l:List Gau}{b:List Int}(h:Thru l b){i j:Nat}(hij:i<j)(hj:j<=b.length):(sF b i).hi<(sF b j).lo:=by
 rw[BON,BOW h.brk,if_pos (by omega),if_pos (by omega)]
 by_cases he:i=j-1
 ·rw[he];omega
 ·have:=nL h.asc (show i<j-1 by omega) (by omega);omega
end Go.Bal
