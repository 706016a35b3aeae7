/- Package rating: what is made of numbers (no program in sight). -/
import Derived.Test.YtceloknnpdonhaaGreatRT2
import Derived.Test.YtceloknnpdonhaaGreatRatY
set_option linter.unusedVariables false
set_option linter.unusedSimpArgs false
namespace Go.Bal
open Go Go.Sym Go.Proofs
structure Fits(l:List Gau)(r:Rtg):Prop where
 len:1<=l.length
 ok:∀g∈l,Oy g
 small:∀g∈l,g.st<=199/\g.hi<=2000
 asc:asc r.b
 brk:∀x∈r.b,1<=x/\x<=120
 two:r.b.length<=2
 lines:r.l.length=r.b.length+1
 rise:∀x∈r.l,RF x
 pass:∀g∈l,(TK (gD r.l (Uo r.b g.st))).pass g
theorem BQW{b:List Int}{t:Int}:∀(n k:Nat),(∀j,k<=j->j<ptK b t n k->gD b j<=t)/\(ptK b t n k<k+n->¬gD b (ptK b t n k)<=t)
 |0,k=>⟨λj h1 h2=>by have:j<k:=h2;omega,λh=>by have:k<k+0:=h;omega⟩
 |n+1,k=>by
  unfold ptK
  by_cases hc:gD b k<=t
  ·rw[decide_eq_true hc]
   obtain⟨h1,h2⟩:=BQW (b:=b) (t:=t) n (k+1)
   refine⟨λj a1 a2=>?_,λh=>h2 (by show ptK b t n (k+1)<_;have:ptK b t n (k+1)<k+(n+1):=h;omega)⟩
   by_cases hj:j=k
   ·rw[hj];exact hc
   ·exact h1 j (by omega) a2
  ·rw[decide_eq_false hc]
   exact⟨λj a1 a2=>by have:j<k:=a2;omega,λ_=>hc⟩
theorem DDI{b:List Int}{t:Int}(hb:asc b):ptM b t=Uo b t:=by
 obtain⟨h1,h2⟩:=BQW (b:=b) (t:=t) b.length 0
 have hle:=BZZ (b:=b) (t:=t) b.length 0
 symm
 unfold Uo ptM
 refine BOW (by omega) (λj hj=>decide_eq_true (h1 j (Nat.zero_le _) hj)) (λj hj hj2=>decide_eq_false ?_)
 have h3:=h2 (by omega)
 intro hc
 by_cases he:ptK b t b.length 0=j
 ·exact h3 (he ▸ hc)
 ·have:=Q0 hb (show ptK b t b.length 0<j by omega) hj2
  omega
theorem CGM:∀(n:Nat) (x:MB) (K:Int),StmB K x.s->K+n<=1000000->asc x.b->(∀y∈x.b,5<=y/\y<=x.a)->0<=x.a/\x.a+60*n<=100000->asc (mkB n x).b/\(∀y∈(mkB n x).b,5<=y/\y<=(mkB n x).a)/\(mkB n x).b.length=x.b.length+n
 |0,x,K,_,_,h1,h2,h3=>⟨h1,h2,rfl⟩
 |n+1,x,K,hs,hK,h1,h2,h3=>by
  have hw:=AML hs (by omega) (lo:=5) (hi:=60) (by omega) (by omega) (by omega)
  have ha:wr (x.a+Yc x.s 5 60)=x.a+Yc x.s 5 60:=JC (by omega) (by omega)
  have:=CGM n (stpB x) (K+1) (Uy hs (by omega) 5 60) (by omega) (by
   show asc (x.b ++ [wr _]);rw[ha]
   refine List.pairwise_append.2 ⟨h1,List.pairwise_singleton _ _,λy hy z hz=>?_⟩
   rw[List.mem_singleton.1 hz];have:=h2 y hy;omega) (λy hy=>by
   show 5<=y/\y<=wr _
   rw[ha]
   have hy:y∈x.b ++ [wr (x.a+Yc x.s 5 60)]:=hy
   rw[ha] at hy
   rcases List.mem_append.1 hy with hy | hy
   ·have:=h2 y hy;omega
   ·rw[List.mem_singleton.1 hy];omega) (by show 0<=wr _/\wr _+_<=_;rw[ha];omega)
  refine⟨this.1,this.2.1,?_⟩
  show (mkB n (stpB x)).b.length=_
  rw[this.2.2]
  show (x.b ++ [_]).length+n=_
  rw[List.length_append,List.length_singleton];omega
theorem CQA{a:MkI}(h:preM a):X8 a ⟨0,mB a.s⟩/\asc (mB a.s).b/\∀y∈(mB a.s).b,1<=y/\y<=120:=by
 obtain⟨hs,hm1,hm2⟩:=h
 have hn:=Vt hs (by omega) 3
 have hn2:=hn.2 (by omega)
 have i0:X8 a ⟨(FD a.s 3).toNat,⟨NM a.s 3,0,[]⟩⟩:=⟨by show (FD a.s 3).toNat<=2;omega,(hs.next (by omega) 3).mono (by show _<=3-(((FD a.s 3).toNat:Nat):Int);omega),rfl,by show ((0:Nat):Int)+((FD a.s 3).toNat:Nat)<=2;omega,Int.le_refl _,by show 0<=60*(2-(((FD a.s 3).toNat:Nat):Int));omega⟩
 have go:∀(n:Nat) (y:KB),y.k=n->X8 a y->X8 a ⟨0,mB a.s⟩:=λn=>by
  induction n with
  |zero=>exact λy h1 h2=>(DFC h2 (by omega)).2
  |succ n ih=>exact λy h1 h2=>ih _ (by show y.k-1=n;omega) (CIS h2 (by omega))
 have hf:=go _ _ rfl i0
 have hg:=CGM (FD a.s 3).toNat ⟨NM a.s 3,0,[]⟩ 1 (hs.next (by omega) 3) (by omega) .nil (λy hy=>by cases hy) (by show (0:Int)<=0/\(0:Int)+_<=_;omega)
 refine⟨hf,hg.1,λy hy=>?_⟩
 have h2:=hg.2.1 y hy
 have h3:(mB a.s).a<=60*(2-((0:Nat):Int)):=hf.2.2.2.2.2
 have h4:y<=(mB a.s).a:=h2.2
 omega
theorem DHM{a:MkI}(h:preM a):fin9 a:=by
 obtain⟨hB,_⟩:=CQA h
 have i0:inv9 a ⟨0,⟨(mB a.s).s,[]⟩⟩:=⟨hB,Nat.zero_le _,(show StmB (3-((0:Nat):Int)) (mB a.s).s from hB.2.1).mono (by show _<=3+4*((0:Nat):Int);omega),rfl,rfl,λz hz=>by cases hz⟩
 have go:∀(n:Nat) (y:KL),(mB a.s).b.length+1-y.k=n->inv9 a y->fin9 a:=λn=>by
  induction n with
  |zero=>exact λy h1 h2=>(DLV h2 (by have:=h2.2.1;omega)).2
  |succ n ih=>exact λy h1 h2=>ih _ (by show (mB a.s).b.length+1-(y.k+1)=n;omega) (CMM h2 (by omega))
 exact go _ _ rfl i0
def CWB(b:List Int)(ls:List Ln)(g:Gau):Prop:=(0<=g.st/\g.st<=199)/\0<=g.lo/\g.lo<=g.hi/\g.hi<=2000/\(TK (gD ls (ptM b g.st))).pass g
theorem CZO{x:Ln}{s:Stm}{t K:Int}(hx:okMk x)(ht:0<=t/\t<=199)(hs:StmB K s)(hK:K<=1000000)(hu:(bif decide (X0 x t<0) then true else decide (X0 x t>wr (1000*wdG x)))=false):(D9 x s t).st=t/\0<=(D9 x s t).lo/\(D9 x s t).lo<=(D9 x s t).hi/\(D9 x s t).hi<=2000/\(TK x).pass (D9 x s t):=by
 obtain⟨b1,b2,b3,b4,b5⟩:=BRZ hx ht
 have v1:=Vt hs (by omega) 6
 have v2:=AML (hs.next (by omega) 6) (by omega) (lo:=1) (hi:=6) (by omega) (by omega) (by omega)
 have hw:1<=wdG x:=by rw[b1];exact hx.2.1.1
 have hu1:¬X0 x t<0:=by
  intro hc;rw[decide_eq_true hc] at hu;cases hu
 rw[decide_eq_false hu1,b3] at hu
 have hu2:X0 x t<=1000*wdG x:=by have:=of_decide_eq_false (show decide (X0 x t>1000*wdG x)=false from hu);omega
 have e1:(X0 x t).tdiv (wdG x)=X0 x t / wdG x:=Int.tdiv_eq_ediv_of_nonneg (by omega)
 have q1:0<=X0 x t / wdG x:=Int.ediv_nonneg (by omega) (by omega)
 have q2:X0 x t / wdG x*wdG x<=X0 x t:=Int.ediv_mul_le _ (by omega)
 have q3:X0 x t<(X0 x t / wdG x+1)*wdG x:=Int.lt_ediv_add_one_mul_self _ (by omega)
 have q4:X0 x t / wdG x<=1000:=by
  refine Int.ediv_le_of_le_mul (by omega) ?_;exact hu2
 have eV:vG x t=X0 x t / wdG x:=by unfold vG;rw[e1];exact JC (by omega) (by omega)
 have eN:(TK x).num t=X0 x t:=by rw[BNV,b2]
 have eW:(TK x).w=wdG x:=by rw[b1];rfl
 generalize hV:X0 x t / wdG x=V at *
 have eL:wr (vG x t-FD s 6)=V-FD s 6:=by rw[eV];exact JC (by have:=v1.2 (by omega);omega) (by omega)
 have eH:wr (vG x t+Yc (NM s 6) 1 6)=V+Yc (NM s 6) 1 6:=by rw[eV];exact JC (by omega) (by omega)
 have lo1:(D9 x s t).lo=OL 0 (V-FD s 6):=by show mxG _=_;rw[eL];rfl
 have hi1:(D9 x s t).hi=V+Yc (NM s 6) 1 6:=eH
 have lo2:0<=(D9 x s t).lo/\(D9 x s t).lo<=V:=by rw[lo1];unfold OL;split<;>omega
 refine⟨rfl,lo2.1,by rw[hi1];omega,by rw[hi1];omega,?_⟩
 unfold Rl.pass
 rw[show (D9 x s t).st=t from rfl,eN,eW]
 have m1:=Int.mul_le_mul_of_nonneg_right lo2.2 (show 0<=wdG x by omega)
 have m2:=Int.mul_le_mul_of_nonneg_right (show V+1<=(D9 x s t).hi by rw[hi1];omega) (show 0<=wdG x by omega)
 constructor<;>omega
theorem BOR{b:List Int}{ls:List Ln}{n:Int}(hl:ls.length=b.length+1)(ho:∀x∈ls,okMk x)(hn:1<=n/\n<=200):∀(k:Nat) (x:MG) (K:Int),StmB K x.s->K+3*k<=1000000->(∀g∈x.l,CWB b ls g)->(∀g∈(mkG b ls n k x).l,CWB b ls g)/\(mkG b ls n k x).l.length<=x.l.length+k
 |0,x,K,_,_,h=>⟨h,Nat.le_refl _⟩
 |k+1,x,K,hs,hK,h=>by
  have hv:=Vt hs (by omega) n
  have hv2:=hv.2 hn.1
  have s1:=hs.next (by omega) n
  have s2:=s1.next (by omega) 6
  have s3:=Uy s2 (by omega) 1 6
  have hx:okMk (gD ls (ptM b (FD x.s n))):=by
   have:=BZZ (b:=b) (t:=FD x.s n) b.length 0
   exact ho _ (HI (by rw[hl];unfold ptM;omega))
  show (∀g∈(mkG b ls n k (Yx (gD ls (ptM b (FD x.s n))) (NM x.s n) (FD x.s n) x.l)).l,CWB b ls g)/\(mkG b ls n k (Yx (gD ls (ptM b (FD x.s n))) (NM x.s n) (FD x.s n) x.l)).l.length<=_
  cases hu:(bif decide (X0 (gD ls (ptM b (FD x.s n))) (FD x.s n)<0) then true else decide (X0 (gD ls (ptM b (FD x.s n))) (FD x.s n)>wr (1000*wdG (gD ls (ptM b (FD x.s n)))))) with
  |true=>
   have es:Yx (gD ls (ptM b (FD x.s n))) (NM x.s n) (FD x.s n) x.l=⟨NM x.s n,x.l⟩:=by unfold Yx;rw[hu];rfl
   rw[es]
   have:=BOR hl ho hn k ⟨NM x.s n,x.l⟩ (K+1) s1 (by omega) h
   exact⟨this.1,by have h2:_<=x.l.length+k:=this.2;omega⟩
  |false=>
   have es:Yx (gD ls (ptM b (FD x.s n))) (NM x.s n) (FD x.s n) x.l=⟨X9 (NM (NM x.s n) 6) 1 6,x.l ++ [D9 (gD ls (ptM b (FD x.s n))) (NM x.s n) (FD x.s n)]⟩:=by unfold Yx;rw[hu];rfl
   rw[es]
   obtain⟨g1,g2,g3,g4,g5⟩:=CZO hx ⟨hv.1,by omega⟩ s1 (by omega) hu
   have:=BOR hl ho hn k ⟨X9 (NM (NM x.s n) 6) 1 6,x.l ++ [D9 (gD ls (ptM b (FD x.s n))) (NM x.s n) (FD x.s n)]⟩ (K+1+1+1) s3 (by omega) (λg hg=>by
    rcases List.mem_append.1 hg with hg | hg
    ·exact h g hg
    ·rw[List.mem_singleton.1 hg]
     exact⟨by rw[g1];omega,g2,g3,g4,by rw[g1];exact g5⟩)
   refine⟨this.1,?_⟩
   have h2:_<=(x.l ++ [_]).length+k:=this.2
   rw[List.length_append,List.length_singleton] at h2;omega
theorem DGS{x:Ln}(h:okMk x):RF x:=by
 obtain⟨h1,h2,h3,h4⟩:=h
 exact⟨by omega,by omega,by omega,by omega,by omega,by omega⟩
theorem CRR{a:MkI}(h:preM a):Fits (mdG a) (mdR a)/\(mdG a).length<=a.m.toNat:=by
 have hF:=DHM h
 obtain⟨hB,hasc,hbr⟩:=CQA h
 obtain⟨g1,g2,g3,g4,g5⟩:=BWA hF
 have hm:=h.2
 have hw:=AML g5 (by omega) (lo:=1) (hi:=a.m) (by omega) hm.1 (by omega)
 have hG:=BOR g3 g4 (n:=hiG a) (by rw[CLL hF];omega) (Yc (mL a.s).s 1 a.m).toNat (mG0 a) 16 (Uy g5 (by omega) 1 a.m) (by omega) (λg hg=>by cases hg)
 obtain⟨G1,G2⟩:=hG
 have G2:(mG a).l.length<=0+(Yc (mL a.s).s 1 a.m).toNat:=G2
 by_cases he:(mG a).l.length=0
 ·have e1:mdG a=[⟨1,1,1⟩]:=by unfold mdG;rw[decide_eq_true he];rfl
  have e2:mdR a=⟨[],[⟨0,0,1,1⟩]⟩:=by unfold mdR;rw[decide_eq_true he];rfl
  rw[e1,e2]
  refine⟨⟨Nat.le_refl _,λg hg=>?_,λg hg=>?_,.nil,λx hx=>(by cases hx),Nat.zero_le _,rfl,λx hx=>?_,λg hg=>?_⟩,by show 1<=_;omega⟩
  ·rw[List.mem_singleton.1 hg];unfold Oy;decide
  ·rw[List.mem_singleton.1 hg];decide
  ·have:=List.mem_singleton.1 hx;subst this;unfold RF;decide
  ·rw[List.mem_singleton.1 hg]
   show _/\_
   decide
 ·have e1:mdG a=(mG a).l:=by unfold mdG;rw[decide_eq_false he];rfl
  have e2:mdR a=⟨(mB a.s).b,(mL a.s).l⟩:=by unfold mdR;rw[decide_eq_false he];rfl
  rw[e1,e2]
  refine⟨⟨by omega,λg hg=>?_,λg hg=>?_,hasc,hbr,by show (mB a.s).b.length<=2;omega,g3,λx hx=>DGS (g4 x hx),λg hg=>?_⟩,by omega⟩
  ·obtain⟨a1,a2,a3,a4,a5⟩:=G1 g hg
   unfold Oy;omega
  ·obtain⟨a1,a2,a3,a4,a5⟩:=G1 g hg;omega
  ·obtain⟨a1,a2,a3,a4,a5⟩:=G1 g hg
   rw[DDI hasc] at a5;exact a5
end Go.Bal

namespace Go.Bal
open Go Go.Sym Go.Proofs
theorem CDR:∀(l:List Int) (x:Int),0<=x/\x<=2000->asc l->(∀y∈l,x<y/\y<=2000)->brk x l=0
 |[],_,_,_,_=>rfl
 |z :: l,x,hx,ha,h=>by
  have hz:=h z (List.mem_cons_self ..)
  obtain⟨h1,h2⟩:=List.pairwise_cons.1 ha
  unfold brk
  have:Sx z (wr (x+1)) 2000=true:=by
   unfold Sx wr
   rw[JC (n:=x+1) (by omega) (by omega)]
   simp only[Bool.and_eq_true,decide_eq_true_eq];omega
  rw[this]
  exact CDR l z (by omega) h2 (λy hy=>⟨h1 y hy,(h y (List.mem_cons_of_mem _ hy)).2⟩)
theorem BAV{l:List Gau}(h:1<=l.length/\l.length<=24)(ho:∀g∈l,Oy g):GN l=0:=by
 unfold GN
 have e1:Sx l.length 1 24=true:=by unfold Sx;simp only[Bool.and_eq_true,decide_eq_true_eq];omega
 have e2:l.all riG=true:=List.all_eq_true.2 λg hg=>by
  obtain⟨h1,h2,h3,h4,h5⟩:=ho g hg
  unfold riG Sx;simp only[Bool.and_eq_true,decide_eq_true_eq];omega
 rw[e1,e2];rfl
theorem CPV{b:List Int}(h1:asc b)(h2:∀x∈b,1<=x/\x<=2000)(h3:b.length<=24):Cb b=0:=by
 unfold Cb
 rw[if_neg (by omega)]
 exact CDR b 0 (by omega) h1 (λy hy=>by have:=h2 y hy;omega)
theorem CST{l:List Gau}{b:List Int}(h:1<=l.length/\l.length<=24)(ho:∀g∈l,Oy g)(h1:asc b)(h2:∀x∈b,1<=x/\x<=2000)(h3:b.length<=24):HS ⟨l,b⟩=0:=by
 unfold HS
 rw[BAV h ho]
 exact CPV h1 h2 h3
def ZW(l:List Gau)(b:List Int)(k:Int):List Gau:=Ys (ZE ⟨l,b⟩) k
theorem AKQ{l:List Gau}{b:List Int}{k:Int}{g:Gau}:g∈ZW l b k↔g∈l/\(Uo b g.st:Int)=k:=by
 unfold ZW Ys ZE
 rw[List.mem_filter,beq_iff_eq]
theorem ANH{l:List Gau}{b:List Int}{k:Int}(ho:∀g∈l,Oy g):∀g∈ZW l b k,Oy g:=λg hg=>ho g (AKQ.1 hg).1
theorem BEN(b:List Int)(t:Int):Uo b t<=b.length:=List.countP_le_length
structure Thru(l:List Gau)(b:List Int):Prop where
 len:1<=l.length/\l.length<=24
 ok:∀g∈l,Oy g
 asc:asc b
 brk:∀x∈b,1<=x/\x<=2000
 few:b.length<=24
 thru:∀k:Nat,k<=b.length->∃x,RF x/\(TK x).passes (ZW l b k)
theorem Fits.thru{l:List Gau}{r:Rtg}(h:Fits l r)(h2:l.length<=24):Thru l r.b:=⟨⟨h.len,h2⟩,h.ok,h.asc,λx hx=>by have:=h.brk x hx;omega,by have:=h.two;omega,λk hk=>⟨gD r.l k,h.rise _ (HI (by rw[h.lines];omega)),λg hg=>by
 obtain⟨h3,h4⟩:=AKQ.1 hg
 have:=h.pass g h3
 rw[show Uo r.b g.st=k by omega] at this;exact this⟩⟩
theorem Thru.open{l:List Gau}{b:List Int}(h:Thru l b):HS ⟨l,b⟩=0:=CST h.len h.ok h.asc h.brk h.few
theorem Thru.bk{l:List Gau}{b:List Int}(h:Thru l b):Ic l b:=BMR h.open
theorem Thru.ne{l:List Gau}{b:List Int}(h:Thru l b){k:Nat}(hk:k<=b.length){t:Int}(ht:0<=t/\t<=2000):Bm (ZW l b k) t≠[]:=by
 obtain⟨x,h1,h2⟩:=h.thru k hk
 exact CAX (ANH h.ok) ht (RE h1) h2
theorem Thru.flow{l:List Gau}{b:List Int}(h:Thru l b){t:Int}(ht:0<=t/\t<=2000):Pf ⟨l,b,t⟩=0/\Dp ⟨l,b,t⟩=bdS (ZW l b (Uo b t)) t:=by
 have hne:=h.ne (BEN b t) ht
 have e:Pf ⟨l,b,t⟩=0:=by
  unfold Pf
  rw[show HS (gbt ⟨l,b,t⟩)=0 from h.open,show inT ⟨l,b,t⟩=true by unfold inT Sx;simpa using ht,decide_eq_false (show ¬(lB (bkT ⟨l,b,t⟩)).length=0 from λhc=>hne (List.eq_nil_of_length_eq_zero hc))]
  rfl
 refine⟨e,?_⟩
 unfold Dp;rw[e];rfl
theorem Thru.in{l:List Gau}{b:List Int}(h:Thru l b){k:Nat}(hk:k<=b.length){t:Int}(ht:0<=t/\t<=2000):okR (bdS (ZW l b k) t).lo/\okR (bdS (ZW l b k) t).hi/\Ym (bdS (ZW l b k) t).lo (bdS (ZW l b k) t).hi:=DRL (ANH h.ok) ht (h.ne hk ht)
theorem BZR{a b:Rt}(ha:okR a)(hb:okR b):belM a b=false↔Ym b a:=by
 unfold belM Ym;rw[ALT ha hb,ALT hb ha,decide_eq_false_iff_not];omega
theorem DOX{b:Bnd}(h1:okR b.lo)(h2:okR b.hi)(h3:Ym b.lo b.hi):sndM b=true:=by
 have fs:∀r:Rt,okR r->fsM r=true:=λr hr=>by
  obtain⟨⟨a1,a2⟩,a3,a4⟩:=hr
  have e:wr (200000*r.d)=200000*r.d:=JC (by omega) (by omega)
  unfold fsM;rw[e,decide_eq_false (by omega),decide_eq_false (by omega),decide_eq_false (by omega),decide_eq_false (by omega)];rfl
 unfold sndM
 rw[fs _ h1,fs _ h2,(BZR h2 h1).2 h3];rfl
theorem BQG{pr:Int->Bool}:∀(n:Nat) (lo hi:Int),lo<=hi->(hi-lo).toNat<=n->(∀m m':Int,lo<m->m<=m'->m'<=hi->pr m'=true->pr m=true)->(∀m,lo<m->m<=upL pr n lo hi->pr m=true)/\∀m,upL pr n lo hi<m->m<=hi->pr m=false
 |0,lo,hi,h,hn,_=>⟨λm h1 h2=>by have:m<=lo:=h2;omega,λm h1 h2=>by have:lo<m:=h1;omega⟩
 |n+1,lo,hi,h,hn,hm=>by
  unfold upL
  by_cases hl:lo<hi
  ·obtain⟨h3,h4⟩:=AXH hl
   rw[decide_eq_true hl]
   generalize hM:lo+(hi-lo+1).tdiv 2=M at *
   cases hp:pr M with
   |true=>
    obtain⟨r1,r2⟩:=BQG n M hi h4 (by omega) (λm m' a b c d=>hm m m' (by omega) b c d)
    refine⟨λm a1 a2=>?_,r2⟩
    by_cases hc:m<=M
    ·exact hm m M a1 hc h4 hp
    ·exact r1 m (by omega) a2
   |false=>
    obtain⟨r1,r2⟩:=BQG n lo (M-1) (by omega) (by omega) (λm m' a b c d=>hm m m' a b (by omega) d)
    refine⟨r1,λm a1 a2=>?_⟩
    by_cases hc:m<=M-1
    ·exact r2 m a1 hc
    ·cases hq:pr m with
     |false=>rfl
     |true=>
      have:=hm M m h3 (by omega) a2 hq
      rw[this] at hp;cases hp
  ·rw[decide_eq_false hl]
   exact⟨λm h1 h2=>by have:m<=lo:=h2;omega,λm h1 h2=>by have:lo<m:=h1;omega⟩
def qR(q:Int):Rt:=⟨q,1⟩
theorem DNY{q:Int}(h:0<=q/\q<=200000):okR (qR q):=⟨⟨Int.one_pos,by show (1:Int)<=2000;omega⟩,h.1,by show q<=200000*1;omega⟩
def Y2(b:List Int)(k:Nat):Span:=FH (ZE ⟨[],b⟩) k
theorem Thru.span{l:List Gau}{b:List Int}(h:Thru l b){k:Nat}(hk:k<=b.length):0<=(Y2 b k).lo/\(Y2 b k).lo<=(Y2 b k).hi/\(Y2 b k).hi<=2000/\∀m:Int,(Y2 b k).lo<=m->m<=(Y2 b k).hi->Uo b m=k:=by
 obtain⟨h1,h2,h3,h4⟩:=I8 (w:=ZE ⟨l,b⟩) (k:=k) h.bk (by omega) (Int.ofNat_le.2 hk)
 exact⟨h1,h2,h3,λm a c=>Int.ofNat.inj (h4 m a c)⟩
theorem Thru.up{l:List Gau}{b:List Int}(h:Thru l b){q:Int}(hq:0<=q/\q<=200000){k:Nat}(hk:k<=b.length)(v:BnF->Bool)(c:Bnd->Prop)(hv:∀t,(Y2 b k).lo<=t->t<=(Y2 b k).hi->(v ⟨bdS (ZW l b k) t,qR q⟩=true↔c (bdS (ZW l b k) t)))(hm:∀t u,(Y2 b k).lo<=t->t<=u->u<=(Y2 b k).hi->c (bdS (ZW l b k) u)->c (bdS (ZW l b k) t)):((Y2 b k).lo-1<=upM v ⟨ZE ⟨l,b⟩,k,qR q⟩/\upM v ⟨ZE ⟨l,b⟩,k,qR q⟩<=(Y2 b k).hi)/\(∀t,(Y2 b k).lo<=t->t<=upM v ⟨ZE ⟨l,b⟩,k,qR q⟩->c (bdS (ZW l b k) t))/\∀t,upM v ⟨ZE ⟨l,b⟩,k,qR q⟩<t->t<=(Y2 b k).hi->¬c (bdS (ZW l b k) t):=by
 obtain⟨s1,s2,s3,s4⟩:=h.span hk
 have hi:=CVG (v:=v) (a:=⟨ZE ⟨l,b⟩,k,qR q⟩) h.bk (Int.natCast_nonneg _) (Int.ofNat_le.2 hk)
 have hp:∀t,(Y2 b k).lo<=t->t<=(Y2 b k).hi->(upP v ⟨ZE ⟨l,b⟩,k,qR q⟩ t=true↔c (bdS (ZW l b k) t)):=λt a d=>by
  have e:upP v ⟨ZE ⟨l,b⟩,k,qR q⟩ t=v ⟨bdS (ZW l b (Uo b t)) t,qR q⟩:=rfl
  rw[e,s4 t a d];exact hv t a d
 have hs:=BQG (pr:=upP v ⟨ZE ⟨l,b⟩,k,qR q⟩) 3000 ((Y2 b k).lo-1) (Y2 b k).hi (by omega) (by omega) (λm m' a d e f=>(hp m (by omega) (by omega)).2 (hm m m' (by omega) d e ((hp m' (by omega) e).1 f)))
 have ho:upM v ⟨ZE ⟨l,b⟩,k,qR q⟩=upL (upP v ⟨ZE ⟨l,b⟩,k,qR q⟩) 3000 ((Y2 b k).lo-1) (Y2 b k).hi:=rfl
 rw[<-ho] at hs
 have i1:(Y2 b k).lo-1<=upM v ⟨ZE ⟨l,b⟩,k,qR q⟩:=hi.1
 have i2:upM v ⟨ZE ⟨l,b⟩,k,qR q⟩<=(Y2 b k).hi:=hi.2.1
 refine⟨⟨i1,i2⟩,λt a d=>(hp t a (by omega)).1 (hs.1 t (by omega) d),λt a d hc=>?_⟩
 have:=hs.2 t a d
 rw[(hp t (by omega) d).2 hc] at this;cases this
theorem CRX{a b:Rt}:¬Ym a b↔b.n*a.d<a.n*b.d:=by unfold Ym;omega
theorem Thru.first{l:List Gau}{b:List Int}(h:Thru l b){q:Int}(hq:0<=q/\q<=200000){k:Nat}(hk:k<=b.length):((Y2 b k).lo<=stF ⟨⟨l,b⟩,q⟩ k/\stF ⟨⟨l,b⟩,q⟩ k<=(Y2 b k).hi+1)/\(∀t,(Y2 b k).lo<=t->t<stF ⟨⟨l,b⟩,q⟩ k->¬Ym (qR q) (bdS (ZW l b k) t).hi)/\∀t,stF ⟨⟨l,b⟩,q⟩ k<=t->t<=(Y2 b k).hi->Ym (qR q) (bdS (ZW l b k) t).hi:=by
 obtain⟨s1,s2,s3,s4⟩:=h.span hk
 have oq:=DNY hq
 obtain⟨⟨r0,r1⟩,r2,r3⟩:=h.up hq hk st1 (λB=>¬Ym (qR q) B.hi) (λt a d=>by
  have:=(h.in hk (t:=t) (by omega)).2.1
  unfold st1;rw[decide_eq_true_eq,CAW this oq,CRX]) (λt u a d e hc h2=>hc (by
  have h1:=(h.in hk (t:=t) (by omega)).2.1
  have h3:=(h.in hk (t:=u) (by omega)).2.1
  have:=(CHX (ANH h.ok) (show 0<=t by omega) d (by omega) (h.ne hk (t:=t) (by omega))).2
  exact QI (Int.le_of_lt oq.1.1) h1.1.1 (Int.le_of_lt h3.1.1) h2 this))
 have e:stF ⟨⟨l,b⟩,q⟩ k=upM st1 ⟨ZE ⟨l,b⟩,k,qR q⟩+1:=rfl
 rw[e]
 exact⟨⟨by omega,by omega⟩,λt a d=>r2 t a (by omega),λt a d=>Classical.byContradiction λhc=>r3 t (by omega) d hc⟩
theorem Thru.last{l:List Gau}{b:List Int}(h:Thru l b){q:Int}(hq:0<=q/\q<=200000){k:Nat}(hk:k<=b.length):((Y2 b k).lo-1<=stL ⟨⟨l,b⟩,q⟩ k/\stL ⟨⟨l,b⟩,q⟩ k<=(Y2 b k).hi)/\(∀t,(Y2 b k).lo<=t->t<=stL ⟨⟨l,b⟩,q⟩ k->Ym (bdS (ZW l b k) t).lo (qR q))/\∀t,stL ⟨⟨l,b⟩,q⟩ k<t->t<=(Y2 b k).hi->¬Ym (bdS (ZW l b k) t).lo (qR q):=by
 obtain⟨s1,s2,s3,s4⟩:=h.span hk
 have oq:=DNY hq
 exact h.up hq hk st2 (λB=>Ym B.lo (qR q)) (λt a d=>by
  have:=(h.in hk (t:=t) (by omega)).1
  unfold st2;rw[decide_eq_true_eq]
  show cmpR (bdS (ZW l b k) t).lo (qR q)<=0↔_
  have:=BYB this oq
  unfold Ym;omega) (λt u a d e hc=>by
  have h1:=(h.in hk (t:=t) (by omega)).1
  have h3:=(h.in hk (t:=u) (by omega)).1
  have:=(CHX (ANH h.ok) (show 0<=t by omega) d (by omega) (h.ne hk (t:=t) (by omega))).1
  exact QI (Int.le_of_lt h1.1.1) h3.1.1 (Int.le_of_lt oq.1.1) this hc)
theorem DCF(b:List Int)(k:Nat):(Y2 b k).lo=if 0<k then gD b (k-1) else 0:=by
 show (bif decide ((k:Int)>0) then gD b ((k:Int)-1).toNat else 0)=_
 by_cases h0:0<k
 ·rw[decide_eq_true (show (k:Int)>0 by omega),if_pos h0,show ((k:Int)-1).toNat=k-1 by omega];rfl
 ·rw[decide_eq_false (show ¬(k:Int)>0 by omega),if_neg h0];rfl
theorem CYJ{b:List Int}(hb:∀x∈b,1<=x/\x<=2000)(k:Nat):(Y2 b k).hi=if k<b.length then gD b k-1 else 2000:=by
 show (bif decide ((k:Int)<b.length) then wr (gD b (k:Int).toNat-1) else 2000)=_
 by_cases h0:k<b.length
 ·have:=hb _ (HI h0)
  rw[decide_eq_true (show (k:Int)<b.length by omega),if_pos h0,Int.toNat_natCast]
  unfold wr;rw[JC (by omega) (by omega)];rfl
 ·rw[decide_eq_false (show ¬(k:Int)<b.length by omega),if_neg h0];rfl
theorem DRK{b:List Int}{t:Int}(hb:asc b):(∀j,j<Uo b t->gD b j<=t)/\∀j,Uo b t<=j->j<b.length->t<gD b j:=by
 have h:=BQW (b:=b) (t:=t) b.length 0
 have e:ptK b t b.length 0=Uo b t:=DDI hb
 rw[e] at h
 refine⟨λj hj=>h.1 j (Nat.zero_le _) hj,λj hj hj2=>?_⟩
 have h3:=h.2 (by omega)
 by_cases he:Uo b t=j
 ·rw[he] at h3;omega
 ·have:=Q0 hb (show Uo b t<j by omega) hj2;omega
theorem Thru.at{l:List Gau}{b:List Int}(h:Thru l b){t:Int}(ht:0<=t/\t<=2000):(Y2 b (Uo b t)).lo<=t/\t<=(Y2 b (Uo b t)).hi:=by
 obtain⟨h1,h2⟩:=DRK (t:=t) h.asc
 rw[DCF,CYJ h.brk]
 constructor
 ·split
  ·exact h1 _ (by omega)
  ·exact ht.1
 ·split
  ·rename_i hl
   have:=h2 _ (Nat.le_refl _) hl;omega
  ·exact ht.2
theorem Thru.next{l:List Gau}{b:List Int}(h:Thru l b){i j:Nat}(hij:i<j)(hj:j<=b.length):(Y2 b i).hi<(Y2 b j).lo:=by
 rw[DCF,CYJ h.brk,if_pos (by omega),if_pos (by omega)]
 by_cases he:i=j-1
 ·rw[he];omega
 ·have:=Q0 h.asc (show i<j-1 by omega) (by omega);omega
end Go.Bal

namespace Go.Bal
open Go Go.Sym Go.Proofs
def Can(s:List Gau):Prop:=∃x,RF x/\(TK x).passes s
theorem Can.mono{s t:List Gau}(h:Can t)(hs:∀g∈s,g∈t):Can s:=by
 obtain⟨x,h1,h2⟩:=h
 exact⟨x,h1,λg hg=>h2 g (hs g hg)⟩
theorem CAH{s:List Gau}(hs:∀g∈s,Oy g):((GZ s).2=true↔Can s)/\((GZ s).2=true->RF (GZ s).1/\(TK (GZ s).1).passes s):=by
 unfold GZ
 by_cases h0:s.length=0
 ·rw[if_pos h0]
  have hn:=List.eq_nil_of_length_eq_zero h0
  have ho:RF (CB ⟨0,0⟩):=ABJ ⟨Int.le_refl _,by show (0:Int)<=2000;omega,Int.le_refl _,by show (0:Int)<=200000;omega⟩
  subst hn
  exact⟨⟨λ_=>⟨_,ho,λg hg=>by cases hg⟩,λ_=>rfl⟩,λ_=>⟨ho,λg hg=>by cases hg⟩⟩
 ·rw[if_neg h0]
  have hne:s≠[]:=λh=>h0 (by rw[h];rfl)
  cases hf:(Yj s).find? (Pv s) with
  |some x=>
   have h1:=List.find?_some hf
   have h2:=CMX hs x (List.mem_of_find?_eq_some hf)
   have h3:=(BMZ h2).1 h1
   exact⟨⟨λ_=>⟨x,h2,h3⟩,λ_=>rfl⟩,λ_=>⟨h2,h3⟩⟩
  |none=>
   refine⟨⟨λh=>(by cases h),λh=>?_⟩,λh=>(by cases h)⟩
   obtain⟨x,h1,h2⟩:=h
   exfalso
   have:=CXF hs (RE h1) h2 hne
   refine this (List.filter_eq_nil_iff.2 λy hy=>?_)
   have:=List.find?_eq_none.1 hf y hy
   exact this
def gauO(g:List Gau)(i:Nat):Gau:=gD g (gD (BL g) i).toNat
def stO(g:List Gau)(i:Nat):Int:=SQ g (gD (BL g) i)
theorem BTP{g:List Gau}{i j:Nat}(h:i<=j)(hj:j<g.length):stO g i<=stO g j:=by
 by_cases he:i=j
 ·rw[he];exact Int.le_refl _
 ·have:=CIT (SQ g) (iotI g.length) i j (by omega) (by rw[jT];omega)
  exact this
theorem CVB{g:List Gau}{i:Nat}(h:i<g.length):gauO g i∈g:=by
 have:=AVY h
 exact HI (by omega)
theorem CXI{g:List Gau}{x:Gau}(h:x∈g):∃i,i<g.length/\gauO g i=x:=by
 obtain⟨j,hj,rfl⟩:=aQ h
 have h1:(j:Int)∈iotI g.length:=List.mem_map.2 ⟨j,List.mem_range.2 hj,rfl⟩
 have h2:=(BOY g).mem_iff.2 h1
 obtain⟨i,hi,he⟩:=aQ h2
 exact⟨i,by rw[DT] at hi;exact hi,by unfold gauO;rw[he];rfl⟩
theorem CII{g:List Gau}{a b:Nat}(hb:b<=g.length){x:Gau}:x∈pkR g (BL g) a b↔∃i,a<=i/\i<b/\gauO g i=x:=by
 have hl:((BL g).take b).length=b:=by rw[List.length_take,DT];omega
 unfold pkR pkM
 rw[List.mem_map]
 show (∃y,y∈(((BL g).take b).drop a)/\_)↔_
 constructor
 ·rintro⟨y,hy,rfl⟩
  obtain⟨i,hi,rfl⟩:=aQ hy
  rw[List.length_drop,hl] at hi
  refine⟨a+i,by omega,by omega,?_⟩
  unfold gauO
  rw[jR]
  simp[gD,List.getD_eq_getElem?_getD,List.getElem?_take,show a+i<b by omega]
 ·rintro⟨i,h1,h2,rfl⟩
  refine⟨gD (((BL g).take b).drop a) (i-a),HI (by rw[List.length_drop,hl];omega),?_⟩
  unfold gauO
  rw[jR,show a+(i-a)=i by omega]
  simp[gD,List.getD_eq_getElem?_getD,List.getElem?_take,h2]
theorem CIG{g:List Gau}(h:∀x∈g,Oy x){a b:Nat}(hb:b<=g.length):∀x∈pkR g (BL g) a b,Oy x:=λx hx=>by
 obtain⟨i,_,h2,rfl⟩:=(CII hb).1 hx
 exact h _ (CVB (by omega))
def bdO(g:List Gau)(t:Nat):Prop:=∀i j,i<t->t<=j->j<g.length->stO g i<stO g j
theorem COQ{g:List Gau}{t:Nat}:∀(n k:Nat),t<=k->k+n=g.length->(∀j,t<=j->j<k->stO g j=stO g t)->(∀j,t<=j->j<nxK g (BL g) t n k->stO g j=stO g t)/\(nxK g (BL g) t n k<g.length->stO g (nxK g (BL g) t n k)≠stO g t)
 |0,k,_,hk,h=>⟨h,λhc=>by have:k<g.length:=hc;omega⟩
 |n+1,k,ht,hk,h=>by
  by_cases hc:SQ g (gD (BL g) k)=SQ g (gD (BL g) t)
  ·have e:nxK g (BL g) t (n+1) k=nxK g (BL g) t n (k+1):=by
    conv=>lhs;unfold nxK
    rw[show (SQ g (gD (BL g) k)==SQ g (gD (BL g) t))=true by rw[hc];simp];rfl
   rw[e]
   exact COQ n (k+1) (by omega) (by omega) (λj a b=>by
    by_cases hj:j=k
    ·rw[hj];exact hc
    ·exact h j a (by omega))
  ·have e:nxK g (BL g) t (n+1) k=k:=by
    unfold nxK
    rw[show (SQ g (gD (BL g) k)==SQ g (gD (BL g) t))=false by simpa using hc];rfl
   rw[e]
   exact⟨h,λ_=>hc⟩
theorem DWT{g:List Gau}{t:Nat}(h:t<g.length):bdO g (hX g (BL g) t)/\∀j,t<=j->j<hX g (BL g) t->stO g j=stO g t:=by
 obtain⟨h1,h2⟩:=BWL h
 have hs:=COQ (g:=g) (t:=t) (g.length-t) t (Nat.le_refl _) (by omega) (λj a b=>by omega)
 have e:nxK g (BL g) t (g.length-t) t=hX g (BL g) t:=by unfold hX;rw[DT]
 rw[e] at hs
 refine⟨λi j hi hj hj2=>?_,hs.1⟩
 have h3:=hs.2 (by omega)
 have h4:stO g t<=stO g (hX g (BL g) t):=BTP (by omega) (by omega)
 have h5:=BTP hj hj2
 have h6:stO g i<=stO g t:=by
  by_cases hit:i<=t
  ·exact BTP hit h
  ·rw[hs.1 i (by omega) hi];exact Int.le_refl _
 omega
structure PartsO(g:List Gau)(P:List Nat)(b:List Int)(l:List Ln)(k:List (List Int)):Prop where
 lenP:P.length=b.length+1
 lenl:l.length=b.length
 lenk:k.length=b.length
 zero:gD P 0=0
 up:∀i,i<b.length->gD P i<gD P (i+1)/\gD P (i+1)<g.length/\bdO g (gD P (i+1))/\gD b i=stO g (gD P (i+1))
 line:∀i,i<b.length->RF (gD l i)/\∀j,gD P i<=j->j<gD P (i+1)->(TK (gD l i)).pass (gauO g j)
 bad:∀i,i<b.length->¬Can (pkR g (BL g) (gD P i) (hX g (BL g) (gD P (i+1))))
 knot:∀i,i<b.length->gD k i=jU ⟨g,((BL g).take (hX g (BL g) (gD P (i+1)))).drop (gD P i)⟩
def oneS(g:List Gau)(t:Nat):Prop:=∀j,j<t->Can (g.filter λx=>x.st==stO g j)
structure StO(g:List Gau)(P:List Nat)(s:FS):Prop where
 parts:PartsO g P s.b s.l s.k
 last:gD P s.b.length=s.fr
 le:s.fr<=s.to/\s.to<=g.length
 bd:bdO g s.to
 line:RF s.ln/\∀j,s.fr<=j->j<s.to->(TK s.ln).pass (gauO g j)
 one:oneS g s.to
theorem fS{α:Type}[Inhabited α](l:List α)(x:α)(i:Nat):gD (l ++ [x]) i=if i<l.length then gD l i else if i=l.length then x else default:=by
 rw[yX]
 split
 ·rfl
 ·split
  ·rename_i h1 h2;rw[h2,Nat.sub_self];rfl
  ·rename_i h1 h2
   obtain⟨m,hm⟩:∃m,i-l.length=m+1:=⟨i-l.length-1,by omega⟩
   rw[hm];rfl
theorem StO.go{g:List Gau}{P:List Nat}{s:FS}(h:StO g P s)(ho:∀x∈g,Oy x)(ht:s.to<g.length)(hq:(GZ (pkR g (BL g) s.to (hX g (BL g) s.to))).2=true)(hr:(GZ (pkR g (BL g) s.fr (hX g (BL g) s.to))).2=true):StO g P (goF g (BL g) s):=by
 obtain⟨n1,n2⟩:=BWL ht
 obtain⟨b1,b2⟩:=DWT ht
 have hl:=(CAH (CIG ho n2 (a:=s.fr))).2 hr
 have hq2:=(CAH (CIG ho n2 (a:=s.to))).1.1 hq
 refine⟨h.parts,h.last,⟨by show s.fr<=hX _ _ _;have:=h.le;omega,n2⟩,b1,⟨hl.1,λj a c=>hl.2 _ ((CII n2).2 ⟨j,a,c,rfl⟩)⟩,λj hj=>?_⟩
 have hj:j<hX g (BL g) s.to:=hj
 by_cases hjt:j<s.to
 ·exact h.one j hjt
 ·rw[b2 j (by omega) hj]
  refine hq2.mono λx hx=>?_
  obtain⟨hx1,hx2⟩:=List.mem_filter.1 hx
  obtain⟨i,hi,rfl⟩:=CXI hx1
  have hx2:stO g i=stO g s.to:=eq_of_beq hx2
  refine (CII n2).2 ⟨i,?_,?_,rfl⟩
  ·refine Classical.byContradiction λhc=>?_
   have:=h.bd i s.to (by omega) (Nat.le_refl _) ht;omega
  ·refine Classical.byContradiction λhc=>?_
   have:=b1 s.to i (by omega) (by omega) hi;omega
theorem StO.brk{g:List Gau}{P:List Nat}{s:FS}(h:StO g P s)(ho:∀x∈g,Oy x)(ht:s.to<g.length)(hq:(GZ (pkR g (BL g) s.to (hX g (BL g) s.to))).2=true)(hr:(GZ (pkR g (BL g) s.fr (hX g (BL g) s.to))).2=false):StO g (P ++ [s.to]) (brkF g (BL g) s):=by
 obtain⟨n1,n2⟩:=BWL ht
 have hne:s.fr≠s.to:=λhe=>by rw[he,hq] at hr;cases hr
 have hbad:¬Can (pkR g (BL g) s.fr (hX g (BL g) s.to)):=λhc=>by
  rw[(CAH (CIG ho n2 (a:=s.fr))).1.2 hc] at hr;cases hr
 have hle:=h.le
 obtain⟨p1,p2,p3,p4,p5,p6,p7,p8⟩:=h.parts
 have hlast:=h.last
 have eP:∀i,i<=s.b.length->gD (P ++ [s.to]) i=gD P i:=λi hi=>by rw[fS,if_pos (by omega)]
 have eP2:gD (P ++ [s.to]) (s.b.length+1)=s.to:=by rw[fS,if_neg (by omega),if_pos (by omega)]
 have eb:∀i,i<s.b.length->gD (s.b ++ [SQ g (gD (BL g) s.to)]) i=gD s.b i:=λi hi=>by rw[fS,if_pos hi]
 have eb2:gD (s.b ++ [SQ g (gD (BL g) s.to)]) s.b.length=stO g s.to:=by rw[fS,if_neg (by omega),if_pos rfl];rfl
 have el:∀i,i<s.b.length->gD (s.l ++ [s.ln]) i=gD s.l i:=λi hi=>by rw[fS,if_pos (by omega)]
 have el2:gD (s.l ++ [s.ln]) s.b.length=s.ln:=by rw[fS,if_neg (by omega),if_pos (by omega)]
 have ek:∀(z:List Int) i,i<s.b.length->gD (s.k ++ [z]) i=gD s.k i:=λz i hi=>by rw[fS,if_pos (by omega)]
 have ek2:∀z:List Int,gD (s.k ++ [z]) s.b.length=z:=λz=>by rw[fS,if_neg (by omega),if_pos (by omega)]
 have elen:(s.b ++ [SQ g (gD (BL g) s.to)]).length=s.b.length+1:=by simp
 refine⟨⟨?_,?_,?_,?_,?_,?_,?_,?_⟩,?_,⟨Nat.le_refl _,hle.2⟩,h.bd,⟨h.line.1,λj a c=>by have a:s.to<=j:=a;have c:j<s.to:=c;omega⟩,h.one⟩
 ·show (P ++ [s.to]).length=(s.b ++ [_]).length+1;rw[elen];simp;omega
 ·show (s.l ++ [s.ln]).length=(s.b ++ [_]).length;rw[elen];simp;omega
 ·show (s.k ++ [_]).length=(s.b ++ [_]).length;rw[elen];simp;omega
 ·rw[eP 0 (Nat.zero_le _)];exact p4
 ·intro i hi
  have hi:i<s.b.length+1:=by have hi:i<(s.b ++ [_]).length:=hi;rw[elen] at hi;exact hi
  show gD (P ++ [s.to]) i<gD (P ++ [s.to]) (i+1)/\gD (P ++ [s.to]) (i+1)<g.length/\bdO g (gD (P ++ [s.to]) (i+1))/\gD (s.b ++ [SQ g (gD (BL g) s.to)]) i=stO g (gD (P ++ [s.to]) (i+1))
  by_cases hl:i<s.b.length
  ·rw[eP i (by omega),eP (i+1) (by omega),eb i hl];exact p5 i hl
  ·have:i=s.b.length:=by omega
   subst this
   rw[eP _ (Nat.le_refl _),eP2,eb2,hlast]
   exact⟨by omega,ht,h.bd,rfl⟩
 ·intro i hi
  have hi:i<s.b.length+1:=by have hi:i<(s.b ++ [_]).length:=hi;rw[elen] at hi;exact hi
  show RF (gD (s.l ++ [s.ln]) i)/\∀j,gD (P ++ [s.to]) i<=j->j<gD (P ++ [s.to]) (i+1)->(TK (gD (s.l ++ [s.ln]) i)).pass (gauO g j)
  by_cases hl:i<s.b.length
  ·rw[eP i (by omega),eP (i+1) (by omega),el i hl];exact p6 i hl
  ·have:i=s.b.length:=by omega
   subst this
   rw[eP _ (Nat.le_refl _),eP2,el2,hlast]
   exact h.line
 ·intro i hi
  have hi:i<s.b.length+1:=by have hi:i<(s.b ++ [_]).length:=hi;rw[elen] at hi;exact hi
  by_cases hl:i<s.b.length
  ·rw[eP i (by omega),eP (i+1) (by omega)];exact p7 i hl
  ·have:i=s.b.length:=by omega
   subst this
   rw[eP _ (Nat.le_refl _),eP2,hlast]
   exact hbad
 ·intro i hi
  have hi:i<s.b.length+1:=by have hi:i<(s.b ++ [_]).length:=hi;rw[elen] at hi;exact hi
  show gD (s.k ++ [_]) i=_
  by_cases hl:i<s.b.length
  ·rw[eP i (by omega),eP (i+1) (by omega),ek _ i hl];exact p8 i hl
  ·have:i=s.b.length:=by omega
   subst this
   rw[eP _ (Nat.le_refl _),eP2,hlast,ek2]
 ·show gD (P ++ [s.to]) (s.b ++ [_]).length=s.to
  rw[elen];exact eP2
end Go.Bal

namespace Go.Bal
open Go Go.Sym Go.Proofs
def DBF(g:List Gau)(b:List Int)(i:Nat):List Gau:=g.filter λx=>(decide (i=0)||decide (gD b (i-1)<=x.st))&&decide (x.st<=gD b i)
theorem BVE{g:List Gau}{b:List Int}{i:Nat}{x:Gau}:x∈DBF g b i↔x∈g/\(i≠0->gD b (i-1)<=x.st)/\x.st<=gD b i:=by
 unfold DBF
 rw[List.mem_filter,Bool.and_eq_true,Bool.or_eq_true,decide_eq_true_eq,decide_eq_true_eq,decide_eq_true_eq]
 constructor
 ·rintro⟨h1,h2,h3⟩;exact⟨h1,λh=>h2.resolve_left h,h3⟩
 ·rintro⟨h1,h2,h3⟩
  refine⟨h1,?_,h3⟩
  by_cases h:i=0
  ·exact .inl h
  ·exact .inr (h2 h)
structure Few(g:List Gau)(b:List Int)(l:List Ln)(k:List (List Int)):Prop where
 lenl:l.length=b.length+1
 lenk:k.length=b.length
 asc:asc b
 brk:∀x∈b,1<=x/\x<=2000
 few:b.length<=24
 pass:∀i,i<=b.length->RF (gD l i)/\(TK (gD l i)).passes (ZW g b i)
 bad:∀i,i<b.length->¬Can (DBF g b i)
 rise:∀x∈l,RF x
 parts:∃P:List Nat,PartsO g P b l.dropLast k
 one:∀x∈g,Can (g.filter λy=>y.st==x.st)
theorem BPM(b:List Int){t u:Int}(h:t<=u):Uo b t<=Uo b u:=List.countP_mono_left λx _ hx=>by
 rw[decide_eq_true_eq] at *;omega
theorem Few.least{g:List Gau}{b:List Int}{l:List Ln}{k:List (List Int)}(h:Few g b l k){c:List Int}(hc:∀i:Nat,i<=c.length->Can (ZW g c i)):b.length<=c.length:=by
 have key:∀i,i<b.length->i+1<=Uo c (gD b i):=λi=>by
  induction i with
  |zero=>
   intro hi
   refine Classical.byContradiction λhz=>?_
   refine h.bad 0 hi ((hc 0 (Nat.zero_le _)).mono λx hx=>?_)
   obtain⟨h1,_,h3⟩:=BVE.1 hx
   have:=BPM c h3
   exact AKQ.2 ⟨h1,by omega⟩
  |succ i ih=>
   intro hi
   have h0:=ih (by omega)
   refine Classical.byContradiction λhz=>?_
   refine h.bad (i+1) hi ((hc (i+1) (by have:=BEN c (gD b i);omega)).mono λx hx=>?_)
   obtain⟨h1,h2,h3⟩:=BVE.1 hx
   have h2:=h2 (by omega)
   rw[show i+1-1=i by omega] at h2
   have a1:=BPM c h2
   have a2:=BPM c h3
   exact AKQ.2 ⟨h1,by omega⟩
 by_cases hz:b.length=0
 ·omega
 ·have:=key (b.length-1) (by omega)
  have:=BEN c (gD b (b.length-1))
  omega
theorem Few.thru{g:List Gau}{b:List Int}{l:List Ln}{k:List (List Int)}(h:Few g b l k)(hc:GN g=0):Thru g b:=
 ⟨(eY hc).1,(eY hc).2,h.asc,h.brk,h.few,λi hi=>⟨_,(h.pass i hi).1,(h.pass i hi).2⟩⟩
end Go.Bal
