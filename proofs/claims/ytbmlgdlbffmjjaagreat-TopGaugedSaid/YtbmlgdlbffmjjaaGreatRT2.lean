/- Package rating: the least and the greatest flow (no program in sight). -/
import Derived.Test.YtbmlgdlbffmjjaaGreatRT1
import Derived.Test.YtbmlgdlbffmjjaaGreatGaK
set_option linter.unusedVariables false
set_option linter.unusedSimpArgs false
namespace Go.Bal
open Go Go.Sym Go.Proofs
def Nk(a b:Rt):Prop:=a.n*b.d<=b.n*a.d
def tN(r:Rt):Prop:=(0<r.d/\r.d<=2000)/\0<=r.n/\r.n<=200000*r.d
def Ae(f:Rl)(t:Int):Rt:=if f.num t<0 then⟨0,1⟩ else if 200000*f.w<f.num t then⟨200000,1⟩ else⟨f.num t,f.w⟩
theorem Ev{f:Rl}{t:Int}(h:0<f.w):0<(Ae f t).d:=by
 unfold Ae;split
 ·exact Int.one_pos
 ·split
  ·exact Int.one_pos
  ·exact h
theorem QR{a b c:Rt}(ha:0<=a.d)(hb:0<b.d)(hc:0<=c.d)(h1:Nk a b)(h2:Nk b c):Nk a c:=I5 hb h1 h2 ha hc
theorem AWA(a:Rt):Nk a a:=Int.le_refl _
theorem U2{f g:Rl}{t u:Int}(hf:0<f.w)(hg:0<g.w)(h:f.num t*g.w<=g.num u*f.w):Nk (Ae f t) (Ae g u):=by
 unfold Ae Nk
 generalize f.num t=a at *
 generalize g.num u=b at *
 generalize f.w=c at *
 generalize g.w=d at *
 by_cases h1:a<0
 ·rw[if_pos h1]
  split
  ·simp
  ·split
   ·simp
   ·simp;omega
 ·rw[if_neg h1]
  have ha:=Int.mul_nonneg (show 0<=a by omega) (Int.le_of_lt hg)
  have hb:0<=b:=kP hf (by rw[Int.zero_mul];omega)
  rw[if_neg (show ¬b<0 by omega)]
  by_cases h2:200000*c<a
  ·rw[if_pos h2]
   have h3:=Int.mul_lt_mul_of_pos_right h2 hg
   have h4:200000*d<b:=Int.lt_of_mul_lt_mul_right (a:=c) (by grind) (Int.le_of_lt hf)
   rw[if_pos h4];simp
  ·rw[if_neg h2]
   split
   ·simp;omega
   ·exact h
theorem BXU{N W:Int}(hW:0<W):((lK N W).n<0↔N<0)/\(200000*(lK N W).d<(lK N W).n↔200000*W<N):=by
 have hv:=AIR (n:=N) hW
 have hd:=(BEI (n:=N) hW).1
 generalize lK N W=r at *
 refine⟨⟨λh=>?_,λh=>?_⟩,λh=>?_,λh=>?_⟩
 ·have:=Int.mul_neg_of_neg_of_pos h hW
  rcases Int.lt_or_le N 0 with h1 | h1
  ·exact h1
  ·have:=Int.mul_nonneg h1 (Int.le_of_lt hd);omega
 ·have:=Int.mul_neg_of_neg_of_pos h hd
  rcases Int.lt_or_le r.n 0 with h1 | h1
  ·exact h1
  ·have:=Int.mul_nonneg h1 (Int.le_of_lt hW);omega
 ·have:=Int.mul_lt_mul_of_pos_right h hW
  exact Int.lt_of_mul_lt_mul_right (a:=r.d) (by grind) (Int.le_of_lt hd)
 ·have:=Int.mul_lt_mul_of_pos_right h hd
  exact Int.lt_of_mul_lt_mul_right (a:=W) (by grind) (Int.le_of_lt hW)
theorem AXH{x:Ln}{t:Int}(h:PT x):(MB x t).n*(Ae (QJ x) t).d=(Ae (QJ x) t).n*(MB x t).d:=by
 have hW:=(KX h).1
 obtain⟨h1,h2⟩:=BXU (N:=(QJ x).num t) hW
 have hv:=AIR (n:=(QJ x).num t) hW
 unfold MB AIM Ae
 rw[BHC]
 by_cases c1:(QJ x).num t<0
 ·rw[if_pos c1,if_pos (h1.2 c1)]
 ·rw[if_neg c1,if_neg (λh=>c1 (h1.1 h))]
  by_cases c2:200000*(QJ x).w<(QJ x).num t
  ·rw[if_pos c2,if_pos (h2.2 c2)]
  ·rw[if_neg c2,if_neg (λh=>c2 (h2.1 h))]
   exact hv
theorem KR{x:Ln}{t:Int}(h:PT x):tN (MB x t):=by
 have hd:=BCF (t:=t) h
 unfold MB AIM
 split
 ·exact⟨⟨Int.one_pos,by show (1:Int)<=2000;omega⟩,Int.le_refl _,by show (0:Int)<=200000*1;omega⟩
 ·split
  ·exact⟨⟨Int.one_pos,by show (1:Int)<=2000;omega⟩,by show (0:Int)<=200000;omega,by show (200000:Int)<=200000*1;omega⟩
  ·exact⟨hd,by omega,by omega⟩
theorem ADO{x:Ln}{t:Int}{r:Rt}(h:PT x)(hr:0<r.d):Nk (MB x t) r↔Nk (Ae (QJ x) t) r:=by
 have hv:=AXH (t:=t) h
 have h1:=(KR (t:=t) h).1.1
 have h2:=Ev (t:=t) (KX h).1
 exact⟨λa=>QR (Int.le_of_lt h2) h1 (Int.le_of_lt hr) (by unfold Nk;omega) a,λa=>QR (Int.le_of_lt h1) h2 (Int.le_of_lt hr) (by unfold Nk;omega) a⟩
theorem K4{x:Ln}{t:Int}{r:Rt}(h:PT x)(hr:0<r.d):Nk r (MB x t)↔Nk r (Ae (QJ x) t):=by
 have hv:=AXH (t:=t) h
 have h1:=(KR (t:=t) h).1.1
 have h2:=Ev (t:=t) (KX h).1
 exact⟨λa=>QR (Int.le_of_lt hr) h1 (Int.le_of_lt h2) a (by unfold Nk;omega),λa=>QR (Int.le_of_lt hr) h2 (Int.le_of_lt h1) a (by unfold Nk;omega)⟩
theorem ADA{a b:Rt}(ha:tN a)(hb:tN b):wr (a.n*b.d)=a.n*b.d:=by
 obtain⟨⟨a1,a2⟩,a3,a4⟩:=ha
 obtain⟨⟨b1,b2⟩,b3,b4⟩:=hb
 have h1:=mulb (A:=400000000) (B:=2000) a3 (by omega) (Int.le_of_lt b1) b2
 exact ZW (by omega) (by omega)
theorem CPE{a b:Int}:kJ a b>0↔b<a:=by
 unfold kJ
 by_cases h:a<b
 ·simp[h];omega
 ·by_cases h2:b<a
  ·simp[h,h2]
  ·simp[h,h2]
theorem CCV{a b:Int}:kJ a b<0↔a<b:=by
 unfold kJ
 by_cases h:a<b
 ·simp[h]
 ·by_cases h2:b<a
  ·simp[h,h2]
  ·simp[h,h2]
theorem ASP{a b:Rt}(ha:tN a)(hb:tN b):vH a b<0↔a.n*b.d<b.n*a.d:=by
 unfold vH;rw[ADA ha hb,ADA hb ha,CCV]
theorem ASD{a b:Rt}(ha:tN a)(hb:tN b):vH a b>0↔b.n*a.d<a.n*b.d:=by
 unfold vH;rw[ADA ha hb,ADA hb ha,CPE]
theorem CBD{a b:Rt}(ha:tN a)(hb:tN b):ltR a b=false↔Nk b a:=by
 unfold ltR Nk;rw[decide_eq_false_iff_not,ASP ha hb];omega
theorem CBY{a b:Rt}(ha:tN a)(hb:tN b):gtR a b=false↔Nk a b:=by
 unfold gtR Nk;rw[decide_eq_false_iff_not,ASD ha hb];omega
theorem T1{lt:Rt->Rt->Bool}{le:Rt->Rt->Prop}{t:Int}(hle:∀a b,tN a->tN b->(lt a b=false↔le b a))(hlt:∀a b,tN a->tN b->lt a b=true->le a b)(htr:∀a b c,tN a->tN b->tN c->le a b->le b c->le a c)(hrf:∀a,le a a):∀(l:List Ln) (b:Ln),PT b->(∀x∈l,PT x)->(l.foldl (Kf lt t) b=b∨l.foldl (Kf lt t) b∈l)/\PT (l.foldl (Kf lt t) b)/\le (MB (l.foldl (Kf lt t) b) t) (MB b t)/\∀x∈l,le (MB (l.foldl (Kf lt t) b) t) (MB x t)
 |[],b,hb,_=>⟨.inl rfl,hb,hrf _,λx hx=>by cases hx⟩
 |z :: l,b,hb,h=>by
  rw[List.foldl_cons]
  have hz:=h z (List.mem_cons_self ..)
  have hp:PT (Kf lt t b z)/\(Kf lt t b z=b∨Kf lt t b z=z)/\le (MB (Kf lt t b z) t) (MB b t)/\le (MB (Kf lt t b z) t) (MB z t):=by
   unfold Kf
   cases hc:lt (MB z t) (MB b t) with
   |true=>exact⟨hz,.inr rfl,hlt _ _ (KR hz) (KR hb) hc,hrf _⟩
   |false=>exact⟨hb,.inl rfl,hrf _,(hle _ _ (KR hz) (KR hb)).1 hc⟩
  obtain⟨p1,p2,p3,p4⟩:=hp
  obtain⟨r1,r2,r3,r4⟩:=T1 hle hlt htr hrf l (Kf lt t b z) p1 (λx hx=>h x (List.mem_cons_of_mem _ hx))
  refine⟨?_,r2,htr _ _ _ (KR r2) (KR p1) (KR hb) r3 p3,λx hx=>?_⟩
  ·rcases r1 with r1 | r1
   ·rw[r1]
    rcases p2 with p2 | p2
    ·exact .inl p2
    ·exact .inr (by rw[p2];exact List.mem_cons_self ..)
   ·exact .inr (List.mem_cons_of_mem _ r1)
  ·rcases List.mem_cons.1 hx with rfl | hx
   ·exact htr _ _ _ (KR r2) (KR p1) (KR hz) r3 p4
   ·exact r4 x hx
theorem BFX{l:List Ln}{t:Int}(h:∀x∈l,PT x)(hne:l≠[]):dK ltR t l∈l/\∀x∈l,Nk (MB (dK ltR t l) t) (MB x t):=by
 have h0:0<l.length:=List.length_pos_iff.2 hne
 obtain⟨r1,r2,r3,r4⟩:=T1 (lt:=ltR) (le:=Nk) (t:=t) (λa b ha hb=>CBD ha hb) (λa b ha hb hc=>by
  unfold ltR at hc;have:=(ASP ha hb).1 (of_decide_eq_true hc);unfold Nk;omega) (λa b c ha hb hc h1 h2=>QR (Int.le_of_lt ha.1.1) hb.1.1 (Int.le_of_lt hc.1.1) h1 h2) (λa=>AWA a) l (gD l 0) (h _ (MH h0)) h
 refine⟨?_,r4⟩
 rcases r1 with r1 | r1
 ·unfold dK;rw[r1];exact MH h0
 ·exact r1
theorem BJG{l:List Ln}{t:Int}(h:∀x∈l,PT x)(hne:l≠[]):dK gtR t l∈l/\∀x∈l,Nk (MB x t) (MB (dK gtR t l) t):=by
 have h0:0<l.length:=List.length_pos_iff.2 hne
 obtain⟨r1,r2,r3,r4⟩:=T1 (lt:=gtR) (le:=λa b=>Nk b a) (t:=t) (λa b ha hb=>CBY ha hb) (λa b ha hb hc=>by
  unfold gtR at hc;have:=(ASD ha hb).1 (of_decide_eq_true hc);unfold Nk;omega) (λa b c ha hb hc h1 h2=>QR (Int.le_of_lt hc.1.1) hb.1.1 (Int.le_of_lt ha.1.1) h2 h1) (λa=>AWA a) l (gD l 0) (h _ (MH h0)) h
 refine⟨?_,r4⟩
 rcases r1 with r1 | r1
 ·unfold dK;rw[r1];exact MH h0
 ·exact r1
theorem ALC{f:Rl}{s:List Gau}{t:Int}(hs:∀g∈s,Ho g)(ht:0<=t/\t<=2000)(hf:f.ok)(hp:f.passes s):No s t≠[]:=by
 obtain⟨y,hy,_⟩:=AXD hs ht hf hp
 intro he;rw[he] at hy;cases hy
def oM(s:List Gau)(t:Int):Bnd:=bndM (No s t) t
theorem BER{s:List Gau}{t:Int}(h:No s t≠[]):oM s t=⟨MB (dK ltR t (No s t)) t,MB (dK gtR t (No s t)) t⟩:=by
 unfold oM bndM;rw[decide_eq_false (λhe=>h (List.eq_nil_of_length_eq_zero he))];rfl
theorem AGC{f:Rl}{s:List Gau}{t:Int}(hs:∀g∈s,Ho g)(ht:0<=t/\t<=2000)(hf:f.ok)(hp:f.passes s):Nk (oM s t).lo (Ae f t):=by
 have hne:=ALC hs ht hf hp
 rw[BER hne]
 obtain⟨b1,b2⟩:=BFX (t:=t) (λx hx=>(Kb hs hx).1) hne
 obtain⟨y,hy,oy,hc⟩:=AXD hs ht hf hp
 have hw:=(KX oy).1
 have key:Nk (Ae (QJ y) t) (Ae f t):=by
  rcases hc with hc | hc
  ·have hz:Nk (Ae (QJ y) t) ⟨0,1⟩:=by
    unfold Ae Nk;split
    ·exact Int.le_refl _
    ·rw[if_neg (by omega)];show (QJ y).num t*1<=0*_;omega
   refine QR (b:=⟨0,1⟩) (Int.le_of_lt (Ev hw)) Int.one_pos (Int.le_of_lt (Ev hf.1)) hz ?_
   unfold Ae Nk;split
   ·exact Int.le_refl _
   ·split
    ·show (0:Int)*1<=200000*1;omega
    ·show 0*f.w<=f.num t*1;omega
  ·exact U2 hw hf.1 hc
 have ob:=(Kb hs b1).1
 exact QR (Int.le_of_lt (KR ob).1.1) (KR oy).1.1 (Int.le_of_lt (Ev hf.1)) (b2 y hy) ((ADO oy (Ev hf.1)).2 key)
theorem APV{f:Rl}{s:List Gau}{t:Int}(hs:∀g∈s,Ho g)(ht:0<=t/\t<=2000)(hf:f.ok)(hp:f.passes s):Nk (Ae f t) (oM s t).hi:=by
 have hne:=ALC hs ht hf hp
 rw[BER hne]
 obtain⟨b1,b2⟩:=BJG (t:=t) (λx hx=>(Kb hs hx).1) hne
 obtain⟨y,hy,oy,hc⟩:=BMQ hs ht hf hp
 have hw:=(KX oy).1
 have key:Nk (Ae f t) (Ae (QJ y) t):=by
  rcases hc with hc | hc
  ·have hz:Nk ⟨200000,1⟩ (Ae (QJ y) t):=by
    unfold Ae Nk
    rw[if_neg (by omega)];split
    ·exact Int.le_refl _
    ·show 200000*(QJ y).w<=(QJ y).num t*1;omega
   refine QR (b:=⟨200000,1⟩) (Int.le_of_lt (Ev hf.1)) Int.one_pos (Int.le_of_lt (Ev hw)) ?_ hz
   unfold Ae Nk;split
   ·show (0:Int)*1<=200000*1;omega
   ·split
    ·exact Int.le_refl _
    ·show f.num t*1<=200000*f.w;omega
  ·exact U2 hf.1 hw hc
 have ob:=(Kb hs b1).1
 exact QR (Int.le_of_lt (Ev hf.1)) (KR oy).1.1 (Int.le_of_lt (KR ob).1.1) ((K4 oy (Ev hf.1)).2 key) (b2 y hy)
theorem sN{s:List Gau}{t:Int}(hs:∀g∈s,Ho g)(h:No s t≠[]):(∃y,PT y/\(QJ y).passes s/\(oM s t).lo=MB y t)/\∃y,PT y/\(QJ y).passes s/\(oM s t).hi=MB y t:=by
 rw[BER h]
 obtain⟨b1,_⟩:=BFX (t:=t) (λx hx=>(Kb hs hx).1) h
 obtain⟨c1,_⟩:=BJG (t:=t) (λx hx=>(Kb hs hx).1) h
 exact⟨⟨_,(Kb hs b1).1,(Kb hs b1).2,rfl⟩,_,(Kb hs c1).1,(Kb hs c1).2,rfl⟩
theorem AMV{f:Rl}{t u:Int}(hf:f.ok)(h:t<=u):Nk (Ae f t) (Ae f u):=by
 refine U2 hf.1 hf.1 ?_
 have:=Int.mul_le_mul_of_nonneg_left h hf.2
 exact Int.mul_le_mul_of_nonneg_right (by unfold Rl.num;omega) (Int.le_of_lt hf.1)
theorem AYX{s:List Gau}{t u:Int}(hs:∀g∈s,Ho g)(ht:0<=t)(htu:t<=u)(hu:u<=2000)(h:No s t≠[]):Nk (oM s t).lo (oM s u).lo/\Nk (oM s t).hi (oM s u).hi:=by
 obtain⟨_,y,oy,py,ey⟩:=sN hs h
 have h2:No s u≠[]:=ALC hs ⟨by omega,hu⟩ (KX oy) py
 obtain⟨⟨z,oz,pz,ez⟩,y',oy',py',ey'⟩:=sN hs h2
 obtain⟨⟨z',oz',pz',ez'⟩,_⟩:=sN hs h
 have dz:=Ev (f:=QJ z) (t:=t) (KX oz).1
 have dz2:=Ev (f:=QJ z) (t:=u) (KX oz).1
 have dy:=Ev (f:=QJ y) (t:=t) (KX oy).1
 have dy2:=Ev (f:=QJ y) (t:=u) (KX oy).1
 refine⟨?_,?_⟩
 ·have a1:=AGC hs ⟨ht,by omega⟩ (KX oz) pz
  have a2:=AMV (KX oz) htu
  have d1:0<(oM s t).lo.d:=by rw[ez'];exact (KR oz').1.1
  have a3:=QR (Int.le_of_lt d1) dz (Int.le_of_lt dz2) a1 a2
  rw[ez];exact (K4 oz d1).2 a3
 ·have a1:=APV hs ⟨by omega,hu⟩ (KX oy) py
  have a2:=AMV (KX oy) htu
  have d1:0<(oM s u).hi.d:=by rw[ey'];exact (KR oy').1.1
  have a3:=QR (Int.le_of_lt dy) dy2 (Int.le_of_lt d1) a2 a1
  rw[ey];exact (ADO oy d1).2 a3
theorem BVP{s:List Gau}{t:Int}(hs:∀g∈s,Ho g)(ht:0<=t/\t<=2000)(h:No s t≠[]):tN (oM s t).lo/\tN (oM s t).hi/\Nk (oM s t).lo (oM s t).hi:=by
 obtain⟨⟨z,oz,pz,ez⟩,y,oy,py,ey⟩:=sN hs h
 have a1:=AGC hs ht (KX oy) py
 refine⟨ez ▸ KR oz,ey ▸ KR oy,?_⟩
 have d1:0<(oM s t).lo.d:=by rw[ez];exact (KR oz).1.1
 rw[ey];exact (K4 oy d1).2 a1
end Go.Bal

namespace Go.Bal
open Go Go.Sym Go.Proofs
def ptK(b:List Int)(t:Int):Nat->Nat->Nat
 |0,k=>k
 |n+1,k=>bif decide (gD b k<=t) then ptK b t n (k+1) else k
def ptM(b:List Int)(t:Int):Nat:=ptK b t b.length 0
theorem BUM{b:List Int}{t:Int}:∀(n k:Nat),k<=ptK b t n k/\ptK b t n k<=k+n
 |0,k=>⟨Nat.le_refl _,Nat.le_refl _⟩
 |n+1,k=>by
  unfold ptK
  cases decide (gD b k<=t)
  ·exact⟨Nat.le_refl _,by show k<=_;omega⟩
  ·have:=BUM (b:=b) (t:=t) n (k+1);show k<=ptK b t n (k+1)/\ptK b t n (k+1)<=_;omega
end Go.Bal

namespace Go.Bal
open Go Go.Sym Go.Proofs
structure Fits(l:List Gau)(r:Rtg):Prop where
 len:1<=l.length
 ok:∀g∈l,Ho g
 small:∀g∈l,g.st<=199/\g.hi<=2000
 asc:asc r.b
 brk:∀x∈r.b,1<=x/\x<=120
 two:r.b.length<=2
 lines:r.l.length=r.b.length+1
 rise:∀x∈r.l,PT x
 pass:∀g∈l,(QJ (gD r.l (Vs r.b g.st))).pass g
theorem AID{b:List Int}{t:Int}:∀(n k:Nat),(∀j,k<=j->j<ptK b t n k->gD b j<=t)/\(ptK b t n k<k+n->¬gD b (ptK b t n k)<=t)
 |0,k=>⟨λj h1 h2=>by have:j<k:=h2;omega,λh=>by have:k<k+0:=h;omega⟩
 |n+1,k=>by
  unfold ptK
  by_cases hc:gD b k<=t
  ·rw[decide_eq_true hc]
   obtain⟨h1,h2⟩:=AID (b:=b) (t:=t) n (k+1)
   refine⟨λj a1 a2=>?_,λh=>h2 (by show ptK b t n (k+1)<_;have:ptK b t n (k+1)<k+(n+1):=h;omega)⟩
   by_cases hj:j=k
   ·rw[hj];exact hc
   ·exact h1 j (by omega) a2
  ·rw[decide_eq_false hc]
   exact⟨λj a1 a2=>by have:j<k:=a2;omega,λ_=>hc⟩
theorem CPP{b:List Int}{t:Int}(hb:asc b):ptM b t=Vs b t:=by
 obtain⟨h1,h2⟩:=AID (b:=b) (t:=t) b.length 0
 have hle:=BUM (b:=b) (t:=t) b.length 0
 symm
 unfold Vs ptM
 refine M8 (by omega) (λj hj=>decide_eq_true (h1 j (Nat.zero_le _) hj)) (λj hj hj2=>decide_eq_false ?_)
 have h3:=h2 (by omega)
 intro hc
 by_cases he:ptK b t b.length 0=j
 ·exact h3 (he ▸ hc)
 ·have:=qC hb (show ptK b t b.length 0<j by omega) hj2
  omega
end Go.Bal

namespace Go.Bal
open Go Go.Sym Go.Proofs
theorem AZJ:∀(l:List Int) (x:Int),0<=x/\x<=2000->asc l->(∀y∈l,x<y/\y<=2000)->brk x l=0
 |[],_,_,_,_=>rfl
 |z :: l,x,hx,ha,h=>by
  have hz:=h z (List.mem_cons_self ..)
  obtain⟨h1,h2⟩:=List.pairwise_cons.1 ha
  unfold brk
  have:MN z (wr (x+1)) 2000=true:=by
   unfold MN wr
   rw[ZW (n:=x+1) (by omega) (by omega)]
   simp only[Bool.and_eq_true,decide_eq_true_eq];omega
  rw[this]
  exact AZJ l z (by omega) h2 (λy hy=>⟨h1 y hy,(h y (List.mem_cons_of_mem _ hy)).2⟩)
theorem AGD{l:List Gau}(h:1<=l.length/\l.length<=24)(ho:∀g∈l,Ho g):IH l=0:=by
 unfold IH
 have e1:MN l.length 1 24=true:=by unfold MN;simp only[Bool.and_eq_true,decide_eq_true_eq];omega
 have e2:l.all riG=true:=List.all_eq_true.2 λg hg=>by
  obtain⟨h1,h2,h3,h4,h5⟩:=ho g hg
  unfold riG MN;simp only[Bool.and_eq_true,decide_eq_true_eq];omega
 rw[e1,e2];rfl
theorem BIY{b:List Int}(h1:asc b)(h2:∀x∈b,1<=x/\x<=2000)(h3:b.length<=24):Aw b=0:=by
 unfold Aw
 rw[if_neg (by omega)]
 exact AZJ b 0 (by omega) h1 (λy hy=>by have:=h2 y hy;omega)
theorem BKX{l:List Gau}{b:List Int}(h:1<=l.length/\l.length<=24)(ho:∀g∈l,Ho g)(h1:asc b)(h2:∀x∈b,1<=x/\x<=2000)(h3:b.length<=24):RS ⟨l,b⟩=0:=by
 unfold RS
 rw[AGD h ho]
 exact BIY h1 h2 h3
def QD(l:List Gau)(b:List Int)(k:Int):List Gau:=Zt (Ce ⟨l,b⟩) k
theorem Jz{l:List Gau}{b:List Int}{k:Int}{g:Gau}:g∈QD l b k↔g∈l/\(Vs b g.st:Int)=k:=by
 unfold QD Zt Ce
 rw[List.mem_filter,beq_iff_eq]
theorem Vn{l:List Gau}{b:List Int}{k:Int}(ho:∀g∈l,Ho g):∀g∈QD l b k,Ho g:=λg hg=>ho g (Jz.1 hg).1
theorem nJ(b:List Int)(t:Int):Vs b t<=b.length:=List.countP_le_length
structure Thru(l:List Gau)(b:List Int):Prop where
 len:1<=l.length/\l.length<=24
 ok:∀g∈l,Ho g
 asc:asc b
 brk:∀x∈b,1<=x/\x<=2000
 few:b.length<=24
 thru:∀k:Nat,k<=b.length->∃x,PT x/\(QJ x).passes (QD l b k)
theorem Fits.thru{l:List Gau}{r:Rtg}(h:Fits l r)(h2:l.length<=24):Thru l r.b:=⟨⟨h.len,h2⟩,h.ok,h.asc,λx hx=>by have:=h.brk x hx;omega,by have:=h.two;omega,λk hk=>⟨gD r.l k,h.rise _ (MH (by rw[h.lines];omega)),λg hg=>by
 obtain⟨h3,h4⟩:=Jz.1 hg
 have:=h.pass g h3
 rw[show Vs r.b g.st=k by omega] at this;exact this⟩⟩
theorem Thru.open{l:List Gau}{b:List Int}(h:Thru l b):RS ⟨l,b⟩=0:=BKX h.len h.ok h.asc h.brk h.few
theorem Thru.bk{l:List Gau}{b:List Int}(h:Thru l b):gJ l b:=BHE h.open
theorem Thru.ne{l:List Gau}{b:List Int}(h:Thru l b){k:Nat}(hk:k<=b.length){t:Int}(ht:0<=t/\t<=2000):No (QD l b k) t≠[]:=by
 obtain⟨x,h1,h2⟩:=h.thru k hk
 exact ALC (Vn h.ok) ht (KX h1) h2
theorem Thru.flow{l:List Gau}{b:List Int}(h:Thru l b){t:Int}(ht:0<=t/\t<=2000):Na ⟨l,b,t⟩=0/\TA ⟨l,b,t⟩=oM (QD l b (Vs b t)) t:=by
 have hne:=h.ne (nJ b t) ht
 have e:Na ⟨l,b,t⟩=0:=by
  unfold Na
  rw[show RS (T8 ⟨l,b,t⟩)=0 from h.open,show inT ⟨l,b,t⟩=true by unfold inT MN;simpa using ht,decide_eq_false (show ¬(lB (bkT ⟨l,b,t⟩)).length=0 from λhc=>hne (List.eq_nil_of_length_eq_zero hc))]
  rfl
 refine⟨e,?_⟩
 unfold TA;rw[e];rfl
theorem Thru.in{l:List Gau}{b:List Int}(h:Thru l b){k:Nat}(hk:k<=b.length){t:Int}(ht:0<=t/\t<=2000):tN (oM (QD l b k) t).lo/\tN (oM (QD l b k) t).hi/\Nk (oM (QD l b k) t).lo (oM (QD l b k) t).hi:=BVP (Vn h.ok) ht (h.ne hk ht)
theorem AHS{pr:Int->Bool}:∀(n:Nat) (lo hi:Int),lo<=hi->(hi-lo).toNat<=n->(∀m m':Int,lo<m->m<=m'->m'<=hi->pr m'=true->pr m=true)->(∀m,lo<m->m<=upL pr n lo hi->pr m=true)/\∀m,upL pr n lo hi<m->m<=hi->pr m=false
 |0,lo,hi,h,hn,_=>⟨λm h1 h2=>by have:m<=lo:=h2;omega,λm h1 h2=>by have:lo<m:=h1;omega⟩
 |n+1,lo,hi,h,hn,hm=>by
  unfold upL
  by_cases hl:lo<hi
  ·obtain⟨h3,h4⟩:=BYZ hl
   rw[decide_eq_true hl]
   generalize hM:lo+(hi-lo+1).tdiv 2=M at *
   cases hp:pr M with
   |true=>
    obtain⟨r1,r2⟩:=AHS n M hi h4 (by omega) (λm m' a b c d=>hm m m' (by omega) b c d)
    refine⟨λm a1 a2=>?_,r2⟩
    by_cases hc:m<=M
    ·exact hm m M a1 hc h4 hp
    ·exact r1 m (by omega) a2
   |false=>
    obtain⟨r1,r2⟩:=AHS n lo (M-1) (by omega) (by omega) (λm m' a b c d=>hm m m' a b (by omega) d)
    refine⟨r1,λm a1 a2=>?_⟩
    by_cases hc:m<=M-1
    ·exact r2 m a1 hc
    ·cases hq:pr m with
     |false=>rfl
     |true=>
      have:=hm M m h3 (by omega) a2 hq
      rw[this] at hp;cases hp
  ·rw[decide_eq_false hl]
   exact⟨λm h1 h2=>by have:m<=lo:=h2;omega,λm h1 h2=>by have:lo<m:=h1;omega⟩
def qR(q:Int):Rt:=⟨q,1⟩
theorem CHJ{q:Int}(h:0<=q/\q<=200000):tN (qR q):=⟨⟨Int.one_pos,by show (1:Int)<=2000;omega⟩,h.1,by show q<=200000*1;omega⟩
def sF(b:List Int)(k:Nat):Span:=gE (Ce ⟨[],b⟩) k
theorem Thru.span{l:List Gau}{b:List Int}(h:Thru l b){k:Nat}(hk:k<=b.length):0<=(sF b k).lo/\(sF b k).lo<=(sF b k).hi/\(sF b k).hi<=2000/\∀m:Int,(sF b k).lo<=m->m<=(sF b k).hi->Vs b m=k:=by
 obtain⟨h1,h2,h3,h4⟩:=BGL (w:=Ce ⟨l,b⟩) (k:=k) h.bk (by omega) (Int.ofNat_le.2 hk)
 exact⟨h1,h2,h3,λm a c=>Int.ofNat.inj (h4 m a c)⟩
theorem Thru.up{l:List Gau}{b:List Int}(h:Thru l b){q:Int}(hq:0<=q/\q<=200000){k:Nat}(hk:k<=b.length)(v:BnF->Bool)(c:Bnd->Prop)(hv:∀t,(sF b k).lo<=t->t<=(sF b k).hi->(v ⟨oM (QD l b k) t,qR q⟩=true↔c (oM (QD l b k) t)))(hm:∀t u,(sF b k).lo<=t->t<=u->u<=(sF b k).hi->c (oM (QD l b k) u)->c (oM (QD l b k) t)):((sF b k).lo-1<=upM v ⟨Ce ⟨l,b⟩,k,qR q⟩/\upM v ⟨Ce ⟨l,b⟩,k,qR q⟩<=(sF b k).hi)/\(∀t,(sF b k).lo<=t->t<=upM v ⟨Ce ⟨l,b⟩,k,qR q⟩->c (oM (QD l b k) t))/\∀t,upM v ⟨Ce ⟨l,b⟩,k,qR q⟩<t->t<=(sF b k).hi->¬c (oM (QD l b k) t):=by
 obtain⟨s1,s2,s3,s4⟩:=h.span hk
 have hi:=COS (v:=v) (a:=⟨Ce ⟨l,b⟩,k,qR q⟩) h.bk (Int.natCast_nonneg _) (Int.ofNat_le.2 hk)
 have hp:∀t,(sF b k).lo<=t->t<=(sF b k).hi->(upP v ⟨Ce ⟨l,b⟩,k,qR q⟩ t=true↔c (oM (QD l b k) t)):=λt a d=>by
  have e:upP v ⟨Ce ⟨l,b⟩,k,qR q⟩ t=v ⟨oM (QD l b (Vs b t)) t,qR q⟩:=rfl
  rw[e,s4 t a d];exact hv t a d
 have hs:=AHS (pr:=upP v ⟨Ce ⟨l,b⟩,k,qR q⟩) 3000 ((sF b k).lo-1) (sF b k).hi (by omega) (by omega) (λm m' a d e f=>(hp m (by omega) (by omega)).2 (hm m m' (by omega) d e ((hp m' (by omega) e).1 f)))
 have ho:upM v ⟨Ce ⟨l,b⟩,k,qR q⟩=upL (upP v ⟨Ce ⟨l,b⟩,k,qR q⟩) 3000 ((sF b k).lo-1) (sF b k).hi:=rfl
 rw[<-ho] at hs
 have i1:(sF b k).lo-1<=upM v ⟨Ce ⟨l,b⟩,k,qR q⟩:=hi.1
 have i2:upM v ⟨Ce ⟨l,b⟩,k,qR q⟩<=(sF b k).hi:=hi.2.1
 refine⟨⟨i1,i2⟩,λt a d=>(hp t a (by omega)).1 (hs.1 t (by omega) d),λt a d hc=>?_⟩
 have:=hs.2 t a d
 rw[(hp t (by omega) d).2 hc] at this;cases this
theorem BKH{a b:Rt}:¬Nk a b↔b.n*a.d<a.n*b.d:=by unfold Nk;omega
theorem Thru.first{l:List Gau}{b:List Int}(h:Thru l b){q:Int}(hq:0<=q/\q<=200000){k:Nat}(hk:k<=b.length):((sF b k).lo<=stF ⟨⟨l,b⟩,q⟩ k/\stF ⟨⟨l,b⟩,q⟩ k<=(sF b k).hi+1)/\(∀t,(sF b k).lo<=t->t<stF ⟨⟨l,b⟩,q⟩ k->¬Nk (qR q) (oM (QD l b k) t).hi)/\∀t,stF ⟨⟨l,b⟩,q⟩ k<=t->t<=(sF b k).hi->Nk (qR q) (oM (QD l b k) t).hi:=by
 obtain⟨s1,s2,s3,s4⟩:=h.span hk
 have oq:=CHJ hq
 obtain⟨⟨r0,r1⟩,r2,r3⟩:=h.up hq hk st1 (λB=>¬Nk (qR q) B.hi) (λt a d=>by
  have:=(h.in hk (t:=t) (by omega)).2.1
  unfold st1;rw[decide_eq_true_eq,ASP this oq,BKH]) (λt u a d e hc h2=>hc (by
  have h1:=(h.in hk (t:=t) (by omega)).2.1
  have h3:=(h.in hk (t:=u) (by omega)).2.1
  have:=(AYX (Vn h.ok) (show 0<=t by omega) d (by omega) (h.ne hk (t:=t) (by omega))).2
  exact QR (Int.le_of_lt oq.1.1) h1.1.1 (Int.le_of_lt h3.1.1) h2 this))
 have e:stF ⟨⟨l,b⟩,q⟩ k=upM st1 ⟨Ce ⟨l,b⟩,k,qR q⟩+1:=rfl
 rw[e]
 exact⟨⟨by omega,by omega⟩,λt a d=>r2 t a (by omega),λt a d=>Classical.byContradiction λhc=>r3 t (by omega) d hc⟩
theorem Thru.last{l:List Gau}{b:List Int}(h:Thru l b){q:Int}(hq:0<=q/\q<=200000){k:Nat}(hk:k<=b.length):((sF b k).lo-1<=stL ⟨⟨l,b⟩,q⟩ k/\stL ⟨⟨l,b⟩,q⟩ k<=(sF b k).hi)/\(∀t,(sF b k).lo<=t->t<=stL ⟨⟨l,b⟩,q⟩ k->Nk (oM (QD l b k) t).lo (qR q))/\∀t,stL ⟨⟨l,b⟩,q⟩ k<t->t<=(sF b k).hi->¬Nk (oM (QD l b k) t).lo (qR q):=by
 obtain⟨s1,s2,s3,s4⟩:=h.span hk
 have oq:=CHJ hq
 exact h.up hq hk st2 (λB=>Nk B.lo (qR q)) (λt a d=>by
  have:=(h.in hk (t:=t) (by omega)).1
  unfold st2;rw[decide_eq_true_eq]
  show vH (oM (QD l b k) t).lo (qR q)<=0↔_
  have:=ASD this oq
  unfold Nk;omega) (λt u a d e hc=>by
  have h1:=(h.in hk (t:=t) (by omega)).1
  have h3:=(h.in hk (t:=u) (by omega)).1
  have:=(AYX (Vn h.ok) (show 0<=t by omega) d (by omega) (h.ne hk (t:=t) (by omega))).1
  exact QR (Int.le_of_lt h1.1.1) h3.1.1 (Int.le_of_lt oq.1.1) this hc)
theorem BSK(b:List Int)(k:Nat):(sF b k).lo=if 0<k then gD b (k-1) else 0:=by
 show (bif decide ((k:Int)>0) then gD b ((k:Int)-1).toNat else 0)=_
 by_cases h0:0<k
 ·rw[decide_eq_true (show (k:Int)>0 by omega),if_pos h0,show ((k:Int)-1).toNat=k-1 by omega];rfl
 ·rw[decide_eq_false (show ¬(k:Int)>0 by omega),if_neg h0];rfl
theorem BWD{b:List Int}(hb:∀x∈b,1<=x/\x<=2000)(k:Nat):(sF b k).hi=if k<b.length then gD b k-1 else 2000:=by
 show (bif decide ((k:Int)<b.length) then wr (gD b (k:Int).toNat-1) else 2000)=_
 by_cases h0:k<b.length
 ·have:=hb _ (MH h0)
  rw[decide_eq_true (show (k:Int)<b.length by omega),if_pos h0,Int.toNat_natCast]
  unfold wr;rw[ZW (by omega) (by omega)];rfl
 ·rw[decide_eq_false (show ¬(k:Int)<b.length by omega),if_neg h0];rfl
theorem CLV{b:List Int}{t:Int}(hb:asc b):(∀j,j<Vs b t->gD b j<=t)/\∀j,Vs b t<=j->j<b.length->t<gD b j:=by
 have h:=AID (b:=b) (t:=t) b.length 0
 have e:ptK b t b.length 0=Vs b t:=CPP hb
 rw[e] at h
 refine⟨λj hj=>h.1 j (Nat.zero_le _) hj,λj hj hj2=>?_⟩
 have h3:=h.2 (by omega)
 by_cases he:Vs b t=j
 ·rw[he] at h3;omega
 ·have:=qC hb (show Vs b t<j by omega) hj2;omega
theorem Thru.at{l:List Gau}{b:List Int}(h:Thru l b){t:Int}(ht:0<=t/\t<=2000):(sF b (Vs b t)).lo<=t/\t<=(sF b (Vs b t)).hi:=by
 obtain⟨h1,h2⟩:=CLV (t:=t) h.asc
 rw[BSK,BWD h.brk]
 constructor
 ·split
  ·exact h1 _ (by omega)
  ·exact ht.1
 ·split
  ·rename_i hl
   have:=h2 _ (Nat.le_refl _) hl;omega
  ·exact ht.2
theorem Thru.next{l:List Gau}{b:List Int}(h:Thru l b){i j:Nat}(hij:i<j)(hj:j<=b.length):(sF b i).hi<(sF b j).lo:=by
 rw[BSK,BWD h.brk,if_pos (by omega),if_pos (by omega)]
 by_cases he:i=j-1
 ·rw[he];omega
 ·have:=qC h.asc (show i<j-1 by omega) (by omega);omega
end Go.Bal
