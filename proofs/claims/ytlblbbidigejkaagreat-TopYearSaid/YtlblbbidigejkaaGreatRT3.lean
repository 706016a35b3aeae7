/- Package rating: what is made of numbers (no program in sight). -/
import Derived.Test.YtlblbbidigejkaaGreatRatY
set_option linter.unusedVariables false
set_option linter.unusedSimpArgs false
namespace Go.Bal
open Go Go.Sym Go.Proofs
structure Fits(l:List Gau)(r:Rtg):Prop where
 len:1<=l.length
 ok:∀g∈l,Rz g
 small:∀g∈l,g.st<=199/\g.hi<=2000
 asc:asc r.b
 brk:∀x∈r.b,1<=x/\x<=120
 two:r.b.length<=2
 lines:r.l.length=r.b.length+1
 rise:∀x∈r.l,MM x
 pass:∀g∈l,(OF (gD r.l (iV r.b g.st))).pass g
theorem ANZ{b:List Int}{t:Int}:∀(n k:Nat),(∀j,k<=j->j<ptK b t n k->gD b j<=t)/\(ptK b t n k<k+n->¬gD b (ptK b t n k)<=t)
 |0,k=>⟨λj h1 h2=>by have:j<k:=h2;omega,λh=>by have:k<k+0:=h;omega⟩
 |n+1,k=>by
  unfold ptK
  by_cases hc:gD b k<=t
  ·rw[decide_eq_true hc]
   obtain⟨h1,h2⟩:=ANZ (b:=b) (t:=t) n (k+1)
   refine⟨λj a1 a2=>?_,λh=>h2 (by show ptK b t n (k+1)<_;have:ptK b t n (k+1)<k+(n+1):=h;omega)⟩
   by_cases hj:j=k
   ·rw[hj];exact hc
   ·exact h1 j (by omega) a2
  ·rw[decide_eq_false hc]
   exact⟨λj a1 a2=>by have:j<k:=a2;omega,λ_=>hc⟩
theorem BZS{b:List Int}{t:Int}(hb:asc b):ptM b t=iV b t:=by
 obtain⟨h1,h2⟩:=ANZ (b:=b) (t:=t) b.length 0
 have hle:=BCP (b:=b) (t:=t) b.length 0
 symm
 unfold iV ptM
 refine APC (by omega) (λj hj=>decide_eq_true (h1 j (Nat.zero_le _) hj)) (λj hj hj2=>decide_eq_false ?_)
 have h3:=h2 (by omega)
 intro hc
 by_cases he:ptK b t b.length 0=j
 ·exact h3 (he ▸ hc)
 ·have:=mF hb (show ptK b t b.length 0<j by omega) hj2
  omega
theorem BHA:∀(n:Nat) (x:MB) (K:Int),StmB K x.s->K+n<=1000000->asc x.b->(∀y∈x.b,5<=y/\y<=x.a)->0<=x.a/\x.a+60*n<=100000->asc (mkB n x).b/\(∀y∈(mkB n x).b,5<=y/\y<=(mkB n x).a)/\(mkB n x).b.length=x.b.length+n
 |0,x,K,_,_,h1,h2,h3=>⟨h1,h2,rfl⟩
 |n+1,x,K,hs,hK,h1,h2,h3=>by
  have hw:=dD hs (by omega) (lo:=5) (hi:=60) (by omega) (by omega) (by omega)
  have ha:wr (x.a+Jt x.s 5 60)=x.a+Jt x.s 5 60:=ER (by omega) (by omega)
  have:=BHA n (stpB x) (K+1) (Jz hs (by omega) 5 60) (by omega) (by
   show asc (x.b ++ [wr _]);rw[ha]
   refine List.pairwise_append.2 ⟨h1,List.pairwise_singleton _ _,λy hy z hz=>?_⟩
   rw[List.mem_singleton.1 hz];have:=h2 y hy;omega) (λy hy=>by
   show 5<=y/\y<=wr _
   rw[ha]
   have hy:y∈x.b ++ [wr (x.a+Jt x.s 5 60)]:=hy
   rw[ha] at hy
   rcases List.mem_append.1 hy with hy | hy
   ·have:=h2 y hy;omega
   ·rw[List.mem_singleton.1 hy];omega) (by show 0<=wr _/\wr _+_<=_;rw[ha];omega)
  refine⟨this.1,this.2.1,?_⟩
  show (mkB n (stpB x)).b.length=_
  rw[this.2.2]
  show (x.b ++ [_]).length+n=_
  rw[List.length_append,List.length_singleton];omega
theorem BRH{a:MkI}(h:preM a):wL a ⟨0,mB a.s⟩/\asc (mB a.s).b/\∀y∈(mB a.s).b,1<=y/\y<=120:=by
 obtain⟨hs,hm1,hm2⟩:=h
 have hn:=VR hs (by omega) 3
 have hn2:=hn.2 (by omega)
 have i0:wL a ⟨(BS a.s 3).toNat,⟨DI a.s 3,0,[]⟩⟩:=⟨by show (BS a.s 3).toNat<=2;omega,(hs.next (by omega) 3).mono (by show _<=3-(((BS a.s 3).toNat:Nat):Int);omega),rfl,by show ((0:Nat):Int)+((BS a.s 3).toNat:Nat)<=2;omega,Int.le_refl _,by show 0<=60*(2-(((BS a.s 3).toNat:Nat):Int));omega⟩
 have go:∀(n:Nat) (y:KB),y.k=n->wL a y->wL a ⟨0,mB a.s⟩:=λn=>by
  induction n with
  |zero=>exact λy h1 h2=>(CIJ h2 (by omega)).2
  |succ n ih=>exact λy h1 h2=>ih _ (by show y.k-1=n;omega) (BOM h2 (by omega))
 have hf:=go _ _ rfl i0
 have hg:=BHA (BS a.s 3).toNat ⟨DI a.s 3,0,[]⟩ 1 (hs.next (by omega) 3) (by omega) .nil (λy hy=>by cases hy) (by show (0:Int)<=0/\(0:Int)+_<=_;omega)
 refine⟨hf,hg.1,λy hy=>?_⟩
 have h2:=hg.2.1 y hy
 have h3:(mB a.s).a<=60*(2-((0:Nat):Int)):=hf.2.2.2.2.2
 have h4:y<=(mB a.s).a:=h2.2
 omega
theorem CLT{a:MkI}(h:preM a):fin9 a:=by
 obtain⟨hB,_⟩:=BRH h
 have i0:inv9 a ⟨0,⟨(mB a.s).s,[]⟩⟩:=⟨hB,Nat.zero_le _,(show StmB (3-((0:Nat):Int)) (mB a.s).s from hB.2.1).mono (by show _<=3+4*((0:Nat):Int);omega),rfl,rfl,λz hz=>by cases hz⟩
 have go:∀(n:Nat) (y:KL),(mB a.s).b.length+1-y.k=n->inv9 a y->fin9 a:=λn=>by
  induction n with
  |zero=>exact λy h1 h2=>(CTN h2 (by have:=h2.2.1;omega)).2
  |succ n ih=>exact λy h1 h2=>ih _ (by show (mB a.s).b.length+1-(y.k+1)=n;omega) (BNX h2 (by omega))
 exact go _ _ rfl i0
def BXV(b:List Int)(ls:List Ln)(g:Gau):Prop:=(0<=g.st/\g.st<=199)/\0<=g.lo/\g.lo<=g.hi/\g.hi<=2000/\(OF (gD ls (ptM b g.st))).pass g
theorem CHL{x:Ln}{s:Stm}{t K:Int}(hx:okMk x)(ht:0<=t/\t<=199)(hs:StmB K s)(hK:K<=1000000)(hu:(bif decide (vV x t<0) then true else decide (vV x t>wr (1000*U0 x)))=false):(oR x s t).st=t/\0<=(oR x s t).lo/\(oR x s t).lo<=(oR x s t).hi/\(oR x s t).hi<=2000/\(OF x).pass (oR x s t):=by
 obtain⟨b1,b2,b3,b4,b5⟩:=AQR hx ht
 have v1:=VR hs (by omega) 6
 have v2:=dD (hs.next (by omega) 6) (by omega) (lo:=1) (hi:=6) (by omega) (by omega) (by omega)
 have hw:1<=U0 x:=by rw[b1];exact hx.2.1.1
 have hu1:¬vV x t<0:=by
  intro hc;rw[decide_eq_true hc] at hu;cases hu
 rw[decide_eq_false hu1,b3] at hu
 have hu2:vV x t<=1000*U0 x:=by have:=of_decide_eq_false (show decide (vV x t>1000*U0 x)=false from hu);omega
 have e1:(vV x t).tdiv (U0 x)=vV x t / U0 x:=Int.tdiv_eq_ediv_of_nonneg (by omega)
 have q1:0<=vV x t / U0 x:=Int.ediv_nonneg (by omega) (by omega)
 have q2:vV x t / U0 x*U0 x<=vV x t:=Int.ediv_mul_le _ (by omega)
 have q3:vV x t<(vV x t / U0 x+1)*U0 x:=Int.lt_ediv_add_one_mul_self _ (by omega)
 have q4:vV x t / U0 x<=1000:=by
  refine Int.ediv_le_of_le_mul (by omega) ?_;exact hu2
 have eV:vG x t=vV x t / U0 x:=by unfold vG;rw[e1];exact ER (by omega) (by omega)
 have eN:(OF x).num t=vV x t:=by rw[AML,b2]
 have eW:(OF x).w=U0 x:=by rw[b1];rfl
 generalize hV:vV x t / U0 x=V at *
 have eL:wr (vG x t-BS s 6)=V-BS s 6:=by rw[eV];exact ER (by have:=v1.2 (by omega);omega) (by omega)
 have eH:wr (vG x t+Jt (DI s 6) 1 6)=V+Jt (DI s 6) 1 6:=by rw[eV];exact ER (by omega) (by omega)
 have lo1:(oR x s t).lo=EU 0 (V-BS s 6):=by show mxG _=_;rw[eL];rfl
 have hi1:(oR x s t).hi=V+Jt (DI s 6) 1 6:=eH
 have lo2:0<=(oR x s t).lo/\(oR x s t).lo<=V:=by rw[lo1];unfold EU;split<;>omega
 refine⟨rfl,lo2.1,by rw[hi1];omega,by rw[hi1];omega,?_⟩
 unfold Rl.pass
 rw[show (oR x s t).st=t from rfl,eN,eW]
 have m1:=Int.mul_le_mul_of_nonneg_right lo2.2 (show 0<=U0 x by omega)
 have m2:=Int.mul_le_mul_of_nonneg_right (show V+1<=(oR x s t).hi by rw[hi1];omega) (show 0<=U0 x by omega)
 constructor<;>omega
theorem ARX{b:List Int}{ls:List Ln}{n:Int}(hl:ls.length=b.length+1)(ho:∀x∈ls,okMk x)(hn:1<=n/\n<=200):∀(k:Nat) (x:MG) (K:Int),StmB K x.s->K+3*k<=1000000->(∀g∈x.l,BXV b ls g)->(∀g∈(mkG b ls n k x).l,BXV b ls g)/\(mkG b ls n k x).l.length<=x.l.length+k
 |0,x,K,_,_,h=>⟨h,Nat.le_refl _⟩
 |k+1,x,K,hs,hK,h=>by
  have hv:=VR hs (by omega) n
  have hv2:=hv.2 hn.1
  have s1:=hs.next (by omega) n
  have s2:=s1.next (by omega) 6
  have s3:=Jz s2 (by omega) 1 6
  have hx:okMk (gD ls (ptM b (BS x.s n))):=by
   have:=BCP (b:=b) (t:=BS x.s n) b.length 0
   exact ho _ (FD (by rw[hl];unfold ptM;omega))
  show (∀g∈(mkG b ls n k (Ql (gD ls (ptM b (BS x.s n))) (DI x.s n) (BS x.s n) x.l)).l,BXV b ls g)/\(mkG b ls n k (Ql (gD ls (ptM b (BS x.s n))) (DI x.s n) (BS x.s n) x.l)).l.length<=_
  cases hu:(bif decide (vV (gD ls (ptM b (BS x.s n))) (BS x.s n)<0) then true else decide (vV (gD ls (ptM b (BS x.s n))) (BS x.s n)>wr (1000*U0 (gD ls (ptM b (BS x.s n)))))) with
  |true=>
   have es:Ql (gD ls (ptM b (BS x.s n))) (DI x.s n) (BS x.s n) x.l=⟨DI x.s n,x.l⟩:=by unfold Ql;rw[hu];rfl
   rw[es]
   have:=ARX hl ho hn k ⟨DI x.s n,x.l⟩ (K+1) s1 (by omega) h
   exact⟨this.1,by have h2:_<=x.l.length+k:=this.2;omega⟩
  |false=>
   have es:Ql (gD ls (ptM b (BS x.s n))) (DI x.s n) (BS x.s n) x.l=⟨kQ (DI (DI x.s n) 6) 1 6,x.l ++ [oR (gD ls (ptM b (BS x.s n))) (DI x.s n) (BS x.s n)]⟩:=by unfold Ql;rw[hu];rfl
   rw[es]
   obtain⟨g1,g2,g3,g4,g5⟩:=CHL hx ⟨hv.1,by omega⟩ s1 (by omega) hu
   have:=ARX hl ho hn k ⟨kQ (DI (DI x.s n) 6) 1 6,x.l ++ [oR (gD ls (ptM b (BS x.s n))) (DI x.s n) (BS x.s n)]⟩ (K+1+1+1) s3 (by omega) (λg hg=>by
    rcases List.mem_append.1 hg with hg | hg
    ·exact h g hg
    ·rw[List.mem_singleton.1 hg]
     exact⟨by rw[g1];omega,g2,g3,g4,by rw[g1];exact g5⟩)
   refine⟨this.1,?_⟩
   have h2:_<=(x.l ++ [_]).length+k:=this.2
   rw[List.length_append,List.length_singleton] at h2;omega
theorem CKT{x:Ln}(h:okMk x):MM x:=by
 obtain⟨h1,h2,h3,h4⟩:=h
 exact⟨by omega,by omega,by omega,by omega,by omega,by omega⟩
theorem BXU{a:MkI}(h:preM a):Fits (mdG a) (mdR a)/\(mdG a).length<=a.m.toNat:=by
 have hF:=CLT h
 obtain⟨hB,hasc,hbr⟩:=BRH h
 obtain⟨g1,g2,g3,g4,g5⟩:=AWI hF
 have hm:=h.2
 have hw:=dD g5 (by omega) (lo:=1) (hi:=a.m) (by omega) hm.1 (by omega)
 have hG:=ARX g3 g4 (n:=hiG a) (by rw[BMU hF];omega) (Jt (mL a.s).s 1 a.m).toNat (mG0 a) 16 (Jz g5 (by omega) 1 a.m) (by omega) (λg hg=>by cases hg)
 obtain⟨G1,G2⟩:=hG
 have G2:(mG a).l.length<=0+(Jt (mL a.s).s 1 a.m).toNat:=G2
 by_cases he:(mG a).l.length=0
 ·have e1:mdG a=[⟨1,1,1⟩]:=by unfold mdG;rw[decide_eq_true he];rfl
  have e2:mdR a=⟨[],[⟨0,0,1,1⟩]⟩:=by unfold mdR;rw[decide_eq_true he];rfl
  rw[e1,e2]
  refine⟨⟨Nat.le_refl _,λg hg=>?_,λg hg=>?_,.nil,λx hx=>(by cases hx),Nat.zero_le _,rfl,λx hx=>?_,λg hg=>?_⟩,by show 1<=_;omega⟩
  ·rw[List.mem_singleton.1 hg];unfold Rz;decide
  ·rw[List.mem_singleton.1 hg];decide
  ·have:=List.mem_singleton.1 hx;subst this;unfold MM;decide
  ·rw[List.mem_singleton.1 hg]
   show _/\_
   decide
 ·have e1:mdG a=(mG a).l:=by unfold mdG;rw[decide_eq_false he];rfl
  have e2:mdR a=⟨(mB a.s).b,(mL a.s).l⟩:=by unfold mdR;rw[decide_eq_false he];rfl
  rw[e1,e2]
  refine⟨⟨by omega,λg hg=>?_,λg hg=>?_,hasc,hbr,by show (mB a.s).b.length<=2;omega,g3,λx hx=>CKT (g4 x hx),λg hg=>?_⟩,by omega⟩
  ·obtain⟨a1,a2,a3,a4,a5⟩:=G1 g hg
   unfold Rz;omega
  ·obtain⟨a1,a2,a3,a4,a5⟩:=G1 g hg;omega
  ·obtain⟨a1,a2,a3,a4,a5⟩:=G1 g hg
   rw[BZS hasc] at a5;exact a5
theorem BIZ:∀(l:List Int) (x:Int),0<=x/\x<=2000->asc l->(∀y∈l,x<y/\y<=2000)->brk x l=0
 |[],_,_,_,_=>rfl
 |z :: l,x,hx,ha,h=>by
  have hz:=h z (List.mem_cons_self ..)
  obtain⟨h1,h2⟩:=List.pairwise_cons.1 ha
  unfold brk
  have:NJ z (wr (x+1)) 2000=true:=by
   unfold NJ wr
   rw[ER (n:=x+1) (by omega) (by omega)]
   simp only[Bool.and_eq_true,decide_eq_true_eq];omega
  rw[this]
  exact BIZ l z (by omega) h2 (λy hy=>⟨h1 y hy,(h y (List.mem_cons_of_mem _ hy)).2⟩)
theorem ADQ{l:List Gau}(h:1<=l.length/\l.length<=24)(ho:∀g∈l,Rz g):LY l=0:=by
 unfold LY
 have e1:NJ l.length 1 24=true:=by unfold NJ;simp only[Bool.and_eq_true,decide_eq_true_eq];omega
 have e2:l.all riG=true:=List.all_eq_true.2 λg hg=>by
  obtain⟨h1,h2,h3,h4,h5⟩:=ho g hg
  unfold riG NJ;simp only[Bool.and_eq_true,decide_eq_true_eq];omega
 rw[e1,e2];rfl
theorem BVX{b:List Int}(h1:asc b)(h2:∀x∈b,1<=x/\x<=2000)(h3:b.length<=24):UR b=0:=by
 unfold UR
 rw[if_neg (by omega)]
 exact BIZ b 0 (by omega) h1 (λy hy=>by have:=h2 y hy;omega)
theorem BWV{l:List Gau}{b:List Int}(h:1<=l.length/\l.length<=24)(ho:∀g∈l,Rz g)(h1:asc b)(h2:∀x∈b,1<=x/\x<=2000)(h3:b.length<=24):OG ⟨l,b⟩=0:=by
 unfold OG
 rw[ADQ h ho]
 exact BVX h1 h2 h3
def SV(l:List Gau)(b:List Int)(k:Int):List Gau:=Rm (VX ⟨l,b⟩) k
theorem AQU{l:List Gau}{b:List Int}{k:Int}{g:Gau}:g∈SV l b k↔g∈l/\(iV b g.st:Int)=k:=by
 unfold SV Rm VX
 rw[List.mem_filter,beq_iff_eq]
theorem qL{l:List Gau}{b:List Int}{k:Int}(ho:∀g∈l,Rz g):∀g∈SV l b k,Rz g:=λg hg=>ho g (AQU.1 hg).1
theorem AZP(b:List Int)(t:Int):iV b t<=b.length:=List.countP_le_length
structure Thru(l:List Gau)(b:List Int):Prop where
 len:1<=l.length/\l.length<=24
 ok:∀g∈l,Rz g
 asc:asc b
 brk:∀x∈b,1<=x/\x<=2000
 few:b.length<=24
 thru:∀k:Nat,k<=b.length->∃x,MM x/\(OF x).passes (SV l b k)
theorem Fits.thru{l:List Gau}{r:Rtg}(h:Fits l r)(h2:l.length<=24):Thru l r.b:=⟨⟨h.len,h2⟩,h.ok,h.asc,λx hx=>by have:=h.brk x hx;omega,by have:=h.two;omega,λk hk=>⟨gD r.l k,h.rise _ (FD (by rw[h.lines];omega)),λg hg=>by
 obtain⟨h3,h4⟩:=AQU.1 hg
 have:=h.pass g h3
 rw[show iV r.b g.st=k by omega] at this;exact this⟩⟩
theorem Thru.open{l:List Gau}{b:List Int}(h:Thru l b):OG ⟨l,b⟩=0:=BWV h.len h.ok h.asc h.brk h.few
theorem Thru.bk{l:List Gau}{b:List Int}(h:Thru l b):cQ l b:=BSU h.open
theorem Thru.ne{l:List Gau}{b:List Int}(h:Thru l b){k:Nat}(hk:k<=b.length){t:Int}(ht:0<=t/\t<=2000):Nj (SV l b k) t≠[]:=by
 obtain⟨x,h1,h2⟩:=h.thru k hk
 exact BAK (qL h.ok) ht (MC h1) h2
theorem Thru.flow{l:List Gau}{b:List Int}(h:Thru l b){t:Int}(ht:0<=t/\t<=2000):Db ⟨l,b,t⟩=0/\UP ⟨l,b,t⟩=A2 (SV l b (iV b t)) t:=by
 have hne:=h.ne (AZP b t) ht
 have e:Db ⟨l,b,t⟩=0:=by
  unfold Db
  rw[show OG (gbt ⟨l,b,t⟩)=0 from h.open,show inT ⟨l,b,t⟩=true by unfold inT NJ;simpa using ht,decide_eq_false (show ¬(lB (bkT ⟨l,b,t⟩)).length=0 from λhc=>hne (List.eq_nil_of_length_eq_zero hc))]
  rfl
 refine⟨e,?_⟩
 unfold UP;rw[e];rfl
theorem Thru.in{l:List Gau}{b:List Int}(h:Thru l b){k:Nat}(hk:k<=b.length){t:Int}(ht:0<=t/\t<=2000):sN (A2 (SV l b k) t).lo/\sN (A2 (SV l b k) t).hi/\Ni (A2 (SV l b k) t).lo (A2 (SV l b k) t).hi:=CWD (qL h.ok) ht (h.ne hk ht)
theorem APU{pr:Int->Bool}:∀(n:Nat) (lo hi:Int),lo<=hi->(hi-lo).toNat<=n->(∀m m':Int,lo<m->m<=m'->m'<=hi->pr m'=true->pr m=true)->(∀m,lo<m->m<=upL pr n lo hi->pr m=true)/\∀m,upL pr n lo hi<m->m<=hi->pr m=false
 |0,lo,hi,h,hn,_=>⟨λm h1 h2=>by have:m<=lo:=h2;omega,λm h1 h2=>by have:lo<m:=h1;omega⟩
 |n+1,lo,hi,h,hn,hm=>by
  unfold upL
  by_cases hl:lo<hi
  ·obtain⟨h3,h4⟩:=CHU hl
   rw[decide_eq_true hl]
   generalize hM:lo+(hi-lo+1).tdiv 2=M at *
   cases hp:pr M with
   |true=>
    obtain⟨r1,r2⟩:=APU n M hi h4 (by omega) (λm m' a b c d=>hm m m' (by omega) b c d)
    refine⟨λm a1 a2=>?_,r2⟩
    by_cases hc:m<=M
    ·exact hm m M a1 hc h4 hp
    ·exact r1 m (by omega) a2
   |false=>
    obtain⟨r1,r2⟩:=APU n lo (M-1) (by omega) (by omega) (λm m' a b c d=>hm m m' a b (by omega) d)
    refine⟨r1,λm a1 a2=>?_⟩
    by_cases hc:m<=M-1
    ·exact r2 m a1 hc
    ·cases hq:pr m with
     |false=>rfl
     |true=>
      have:=hm M m h3 (by omega) a2 hq
      rw[this] at hp;cases hp
  ·rw[decide_eq_false hl]
   exact⟨λm h1 h2=>by have:m<=lo:=h2;omega,λm h1 h2=>by have:lo<m:=h1;omega⟩
def qR(q:Int):Rt:=⟨q,1⟩
theorem CTT{q:Int}(h:0<=q/\q<=200000):sN (qR q):=⟨⟨Int.one_pos,by show (1:Int)<=2000;omega⟩,h.1,by show q<=200000*1;omega⟩
def wR(b:List Int)(k:Nat):Span:=aS (VX ⟨[],b⟩) k
theorem Thru.span{l:List Gau}{b:List Int}(h:Thru l b){k:Nat}(hk:k<=b.length):0<=(wR b k).lo/\(wR b k).lo<=(wR b k).hi/\(wR b k).hi<=2000/\∀m:Int,(wR b k).lo<=m->m<=(wR b k).hi->iV b m=k:=by
 obtain⟨h1,h2,h3,h4⟩:=BQT (w:=VX ⟨l,b⟩) (k:=k) h.bk (by omega) (Int.ofNat_le.2 hk)
 exact⟨h1,h2,h3,λm a c=>Int.ofNat.inj (h4 m a c)⟩
theorem Thru.up{l:List Gau}{b:List Int}(h:Thru l b){q:Int}(hq:0<=q/\q<=200000){k:Nat}(hk:k<=b.length)(v:BnF->Bool)(c:Bnd->Prop)(hv:∀t,(wR b k).lo<=t->t<=(wR b k).hi->(v ⟨A2 (SV l b k) t,qR q⟩=true↔c (A2 (SV l b k) t)))(hm:∀t u,(wR b k).lo<=t->t<=u->u<=(wR b k).hi->c (A2 (SV l b k) u)->c (A2 (SV l b k) t)):((wR b k).lo-1<=upM v ⟨VX ⟨l,b⟩,k,qR q⟩/\upM v ⟨VX ⟨l,b⟩,k,qR q⟩<=(wR b k).hi)/\(∀t,(wR b k).lo<=t->t<=upM v ⟨VX ⟨l,b⟩,k,qR q⟩->c (A2 (SV l b k) t))/\∀t,upM v ⟨VX ⟨l,b⟩,k,qR q⟩<t->t<=(wR b k).hi->¬c (A2 (SV l b k) t):=by
 obtain⟨s1,s2,s3,s4⟩:=h.span hk
 have hi:=CXI (v:=v) (a:=⟨VX ⟨l,b⟩,k,qR q⟩) h.bk (Int.natCast_nonneg _) (Int.ofNat_le.2 hk)
 have hp:∀t,(wR b k).lo<=t->t<=(wR b k).hi->(upP v ⟨VX ⟨l,b⟩,k,qR q⟩ t=true↔c (A2 (SV l b k) t)):=λt a d=>by
  have e:upP v ⟨VX ⟨l,b⟩,k,qR q⟩ t=v ⟨A2 (SV l b (iV b t)) t,qR q⟩:=rfl
  rw[e,s4 t a d];exact hv t a d
 have hs:=APU (pr:=upP v ⟨VX ⟨l,b⟩,k,qR q⟩) 3000 ((wR b k).lo-1) (wR b k).hi (by omega) (by omega) (λm m' a d e f=>(hp m (by omega) (by omega)).2 (hm m m' (by omega) d e ((hp m' (by omega) e).1 f)))
 have ho:upM v ⟨VX ⟨l,b⟩,k,qR q⟩=upL (upP v ⟨VX ⟨l,b⟩,k,qR q⟩) 3000 ((wR b k).lo-1) (wR b k).hi:=rfl
 rw[<-ho] at hs
 have i1:(wR b k).lo-1<=upM v ⟨VX ⟨l,b⟩,k,qR q⟩:=hi.1
 have i2:upM v ⟨VX ⟨l,b⟩,k,qR q⟩<=(wR b k).hi:=hi.2.1
 refine⟨⟨i1,i2⟩,λt a d=>(hp t a (by omega)).1 (hs.1 t (by omega) d),λt a d hc=>?_⟩
 have:=hs.2 t a d
 rw[(hp t (by omega) d).2 hc] at this;cases this
theorem BXR{a b:Rt}:¬Ni a b↔b.n*a.d<a.n*b.d:=by unfold Ni;omega
theorem Thru.first{l:List Gau}{b:List Int}(h:Thru l b){q:Int}(hq:0<=q/\q<=200000){k:Nat}(hk:k<=b.length):((wR b k).lo<=stF ⟨⟨l,b⟩,q⟩ k/\stF ⟨⟨l,b⟩,q⟩ k<=(wR b k).hi+1)/\(∀t,(wR b k).lo<=t->t<stF ⟨⟨l,b⟩,q⟩ k->¬Ni (qR q) (A2 (SV l b k) t).hi)/\∀t,stF ⟨⟨l,b⟩,q⟩ k<=t->t<=(wR b k).hi->Ni (qR q) (A2 (SV l b k) t).hi:=by
 obtain⟨s1,s2,s3,s4⟩:=h.span hk
 have oq:=CTT hq
 obtain⟨⟨r0,r1⟩,r2,r3⟩:=h.up hq hk st1 (λB=>¬Ni (qR q) B.hi) (λt a d=>by
  have:=(h.in hk (t:=t) (by omega)).2.1
  unfold st1;rw[decide_eq_true_eq,BBM this oq,BXR]) (λt u a d e hc h2=>hc (by
  have h1:=(h.in hk (t:=t) (by omega)).2.1
  have h3:=(h.in hk (t:=u) (by omega)).2.1
  have:=(BHM (qL h.ok) (show 0<=t by omega) d (by omega) (h.ne hk (t:=t) (by omega))).2
  exact LD (Int.le_of_lt oq.1.1) h1.1.1 (Int.le_of_lt h3.1.1) h2 this))
 have e:stF ⟨⟨l,b⟩,q⟩ k=upM st1 ⟨VX ⟨l,b⟩,k,qR q⟩+1:=rfl
 rw[e]
 exact⟨⟨by omega,by omega⟩,λt a d=>r2 t a (by omega),λt a d=>Classical.byContradiction λhc=>r3 t (by omega) d hc⟩
theorem Thru.last{l:List Gau}{b:List Int}(h:Thru l b){q:Int}(hq:0<=q/\q<=200000){k:Nat}(hk:k<=b.length):((wR b k).lo-1<=stL ⟨⟨l,b⟩,q⟩ k/\stL ⟨⟨l,b⟩,q⟩ k<=(wR b k).hi)/\(∀t,(wR b k).lo<=t->t<=stL ⟨⟨l,b⟩,q⟩ k->Ni (A2 (SV l b k) t).lo (qR q))/\∀t,stL ⟨⟨l,b⟩,q⟩ k<t->t<=(wR b k).hi->¬Ni (A2 (SV l b k) t).lo (qR q):=by
 obtain⟨s1,s2,s3,s4⟩:=h.span hk
 have oq:=CTT hq
 exact h.up hq hk st2 (λB=>Ni B.lo (qR q)) (λt a d=>by
  have:=(h.in hk (t:=t) (by omega)).1
  unfold st2;rw[decide_eq_true_eq]
  show J0 (A2 (SV l b k) t).lo (qR q)<=0↔_
  have:=BDG this oq
  unfold Ni;omega) (λt u a d e hc=>by
  have h1:=(h.in hk (t:=t) (by omega)).1
  have h3:=(h.in hk (t:=u) (by omega)).1
  have:=(BHM (qL h.ok) (show 0<=t by omega) d (by omega) (h.ne hk (t:=t) (by omega))).1
  exact LD (Int.le_of_lt h1.1.1) h3.1.1 (Int.le_of_lt oq.1.1) this hc)
theorem CJS(b:List Int)(k:Nat):(wR b k).lo=if 0<k then gD b (k-1) else 0:=by
 show (bif decide ((k:Int)>0) then gD b ((k:Int)-1).toNat else 0)=_
 by_cases h0:0<k
 ·rw[decide_eq_true (show (k:Int)>0 by omega),if_pos h0,show ((k:Int)-1).toNat=k-1 by omega];rfl
 ·rw[decide_eq_false (show ¬(k:Int)>0 by omega),if_neg h0];rfl
theorem CIC{b:List Int}(hb:∀x∈b,1<=x/\x<=2000)(k:Nat):(wR b k).hi=if k<b.length then gD b k-1 else 2000:=by
 show (bif decide ((k:Int)<b.length) then wr (gD b (k:Int).toNat-1) else 2000)=_
 by_cases h0:k<b.length
 ·have:=hb _ (FD h0)
  rw[decide_eq_true (show (k:Int)<b.length by omega),if_pos h0,Int.toNat_natCast]
  unfold wr;rw[ER (by omega) (by omega)];rfl
 ·rw[decide_eq_false (show ¬(k:Int)<b.length by omega),if_neg h0];rfl
theorem CXS{b:List Int}{t:Int}(hb:asc b):(∀j,j<iV b t->gD b j<=t)/\∀j,iV b t<=j->j<b.length->t<gD b j:=by
 have h:=ANZ (b:=b) (t:=t) b.length 0
 have e:ptK b t b.length 0=iV b t:=BZS hb
 rw[e] at h
 refine⟨λj hj=>h.1 j (Nat.zero_le _) hj,λj hj hj2=>?_⟩
 have h3:=h.2 (by omega)
 by_cases he:iV b t=j
 ·rw[he] at h3;omega
 ·have:=mF hb (show iV b t<j by omega) hj2;omega
theorem Thru.at{l:List Gau}{b:List Int}(h:Thru l b){t:Int}(ht:0<=t/\t<=2000):(wR b (iV b t)).lo<=t/\t<=(wR b (iV b t)).hi:=by
 obtain⟨h1,h2⟩:=CXS (t:=t) h.asc
 rw[CJS,CIC h.brk]
 constructor
 ·split
  ·exact h1 _ (by omega)
  ·exact ht.1
 ·split
  ·rename_i hl
   have:=h2 _ (Nat.le_refl _) hl;omega
  ·exact ht.2
theorem Thru.next{l:List Gau}{b:List Int}(h:Thru l b){i j:Nat}(hij:i<j)(hj:j<=b.length):(wR b i).hi<(wR b j).lo:=by
 rw[CJS,CIC h.brk,if_pos (by omega),if_pos (by omega)]
 by_cases he:i=j-1
 ·rw[he];omega
 ·have:=mF h.asc (show i<j-1 by omega) (by omega);omega
def Can(s:List Gau):Prop:=∃x,MM x/\(OF x).passes s
theorem Can.mono{s t:List Gau}(h:Can t)(hs:∀g∈s,g∈t):Can s:=by
 obtain⟨x,h1,h2⟩:=h
 exact⟨x,h1,λg hg=>h2 g (hs g hg)⟩
theorem AMT{s:List Gau}(hs:∀g∈s,Rz g):((lP s).2=true↔Can s)/\((lP s).2=true->MM (lP s).1/\(OF (lP s).1).passes s):=by
 unfold lP
 by_cases h0:s.length=0
 ·rw[if_pos h0]
  have hn:=List.eq_nil_of_length_eq_zero h0
  have ho:MM (YE ⟨0,0⟩):=ABE ⟨Int.le_refl _,by show (0:Int)<=2000;omega,Int.le_refl _,by show (0:Int)<=200000;omega⟩
  subst hn
  exact⟨⟨λ_=>⟨_,ho,λg hg=>by cases hg⟩,λ_=>rfl⟩,λ_=>⟨ho,λg hg=>by cases hg⟩⟩
 ·rw[if_neg h0]
  have hne:s≠[]:=λh=>h0 (by rw[h];rfl)
  cases hf:(wA s).find? (Yd s) with
  |some x=>
   have h1:=List.find?_some hf
   have h2:=BTU hs x (List.mem_of_find?_eq_some hf)
   have h3:=(AMX h2).1 h1
   exact⟨⟨λ_=>⟨x,h2,h3⟩,λ_=>rfl⟩,λ_=>⟨h2,h3⟩⟩
  |none=>
   refine⟨⟨λh=>(by cases h),λh=>?_⟩,λh=>(by cases h)⟩
   obtain⟨x,h1,h2⟩:=h
   exfalso
   have:=BZM hs (MC h1) h2 hne
   refine this (List.filter_eq_nil_iff.2 λy hy=>?_)
   have:=List.find?_eq_none.1 hf y hy
   exact this
def gauO(g:List Gau)(i:Nat):Gau:=gD g (gD (LJ g) i).toNat
def stO(g:List Gau)(i:Nat):Int:=lX g (gD (LJ g) i)
theorem ASL{g:List Gau}{i j:Nat}(h:i<=j)(hj:j<g.length):stO g i<=stO g j:=by
 by_cases he:i=j
 ·rw[he];exact Int.le_refl _
 ·have:=BKF (lX g) (iotI g.length) i j (by omega) (by rw[BVE];omega)
  exact this
theorem CEY{g:List Gau}{i:Nat}(h:i<g.length):gauO g i∈g:=by
 have:=CVJ h
 exact FD (by omega)
theorem CCA{g:List Gau}{x:Gau}(h:x∈g):∃i,i<g.length/\gauO g i=x:=by
 obtain⟨j,hj,rfl⟩:=Hq h
 have h1:(j:Int)∈iotI g.length:=List.mem_map.2 ⟨j,List.mem_range.2 hj,rfl⟩
 have h2:=(ASI g).mem_iff.2 h1
 obtain⟨i,hi,he⟩:=Hq h2
 exact⟨i,by rw[AGF] at hi;exact hi,by unfold gauO;rw[he];rfl⟩
theorem BNS{g:List Gau}{a b:Nat}(hb:b<=g.length){x:Gau}:x∈pkR g (LJ g) a b↔∃i,a<=i/\i<b/\gauO g i=x:=by
 have hl:((LJ g).take b).length=b:=by rw[List.length_take,AGF];omega
 unfold pkR pkM
 rw[List.mem_map]
 show (∃y,y∈(((LJ g).take b).drop a)/\_)↔_
 constructor
 ·rintro⟨y,hy,rfl⟩
  obtain⟨i,hi,rfl⟩:=Hq hy
  rw[List.length_drop,hl] at hi
  refine⟨a+i,by omega,by omega,?_⟩
  unfold gauO
  rw[BAF]
  simp[gD,List.getD_eq_getElem?_getD,List.getElem?_take,show a+i<b by omega]
 ·rintro⟨i,h1,h2,rfl⟩
  refine⟨gD (((LJ g).take b).drop a) (i-a),FD (by rw[List.length_drop,hl];omega),?_⟩
  unfold gauO
  rw[BAF,show a+(i-a)=i by omega]
  simp[gD,List.getD_eq_getElem?_getD,List.getElem?_take,h2]
theorem BKP{g:List Gau}(h:∀x∈g,Rz x){a b:Nat}(hb:b<=g.length):∀x∈pkR g (LJ g) a b,Rz x:=λx hx=>by
 obtain⟨i,_,h2,rfl⟩:=(BNS hb).1 hx
 exact h _ (CEY (by omega))
def bdO(g:List Gau)(t:Nat):Prop:=∀i j,i<t->t<=j->j<g.length->stO g i<stO g j
theorem BSA{g:List Gau}{t:Nat}:∀(n k:Nat),t<=k->k+n=g.length->(∀j,t<=j->j<k->stO g j=stO g t)->(∀j,t<=j->j<nxK g (LJ g) t n k->stO g j=stO g t)/\(nxK g (LJ g) t n k<g.length->stO g (nxK g (LJ g) t n k)≠stO g t)
 |0,k,_,hk,h=>⟨h,λhc=>by have:k<g.length:=hc;omega⟩
 |n+1,k,ht,hk,h=>by
  by_cases hc:lX g (gD (LJ g) k)=lX g (gD (LJ g) t)
  ·have e:nxK g (LJ g) t (n+1) k=nxK g (LJ g) t n (k+1):=by
    conv=>lhs;unfold nxK
    rw[show (lX g (gD (LJ g) k)==lX g (gD (LJ g) t))=true by rw[hc];simp];rfl
   rw[e]
   exact BSA n (k+1) (by omega) (by omega) (λj a b=>by
    by_cases hj:j=k
    ·rw[hj];exact hc
    ·exact h j a (by omega))
  ·have e:nxK g (LJ g) t (n+1) k=k:=by
    unfold nxK
    rw[show (lX g (gD (LJ g) k)==lX g (gD (LJ g) t))=false by simpa using hc];rfl
   rw[e]
   exact⟨h,λ_=>hc⟩
theorem DBM{g:List Gau}{t:Nat}(h:t<g.length):bdO g (nxM g (LJ g) t)/\∀j,t<=j->j<nxM g (LJ g) t->stO g j=stO g t:=by
 obtain⟨h1,h2⟩:=CGX h
 have hs:=BSA (g:=g) (t:=t) (g.length-t) t (Nat.le_refl _) (by omega) (λj a b=>by omega)
 have e:nxK g (LJ g) t (g.length-t) t=nxM g (LJ g) t:=by unfold nxM;rw[AGF]
 rw[e] at hs
 refine⟨λi j hi hj hj2=>?_,hs.1⟩
 have h3:=hs.2 (by omega)
 have h4:stO g t<=stO g (nxM g (LJ g) t):=ASL (by omega) (by omega)
 have h5:=ASL hj hj2
 have h6:stO g i<=stO g t:=by
  by_cases hit:i<=t
  ·exact ASL hit h
  ·rw[hs.1 i (by omega) hi];exact Int.le_refl _
 omega
structure PartsO(g:List Gau)(P:List Nat)(b:List Int)(l:List Ln)(k:List (List Int)):Prop where
 lenP:P.length=b.length+1
 lenl:l.length=b.length
 lenk:k.length=b.length
 zero:gD P 0=0
 up:∀i,i<b.length->gD P i<gD P (i+1)/\gD P (i+1)<g.length/\bdO g (gD P (i+1))/\gD b i=stO g (gD P (i+1))
 line:∀i,i<b.length->MM (gD l i)/\∀j,gD P i<=j->j<gD P (i+1)->(OF (gD l i)).pass (gauO g j)
 bad:∀i,i<b.length->¬Can (pkR g (LJ g) (gD P i) (nxM g (LJ g) (gD P (i+1))))
 knot:∀i,i<b.length->gD k i=kntM ⟨g,((LJ g).take (nxM g (LJ g) (gD P (i+1)))).drop (gD P i)⟩
def oneS(g:List Gau)(t:Nat):Prop:=∀j,j<t->Can (g.filter λx=>x.st==stO g j)
structure StO(g:List Gau)(P:List Nat)(s:FS):Prop where
 parts:PartsO g P s.b s.l s.k
 last:gD P s.b.length=s.fr
 le:s.fr<=s.to/\s.to<=g.length
 bd:bdO g s.to
 line:MM s.ln/\∀j,s.fr<=j->j<s.to->(OF s.ln).pass (gauO g j)
 one:oneS g s.to
theorem Tm{α:Type}[Inhabited α](l:List α)(x:α)(i:Nat):gD (l ++ [x]) i=if i<l.length then gD l i else if i=l.length then x else default:=by
 rw[lM]
 split
 ·rfl
 ·split
  ·rename_i h1 h2;rw[h2,Nat.sub_self];rfl
  ·rename_i h1 h2
   obtain⟨m,hm⟩:∃m,i-l.length=m+1:=⟨i-l.length-1,by omega⟩
   rw[hm];rfl
theorem StO.go{g:List Gau}{P:List Nat}{s:FS}(h:StO g P s)(ho:∀x∈g,Rz x)(ht:s.to<g.length)(hq:(lP (pkR g (LJ g) s.to (nxM g (LJ g) s.to))).2=true)(hr:(lP (pkR g (LJ g) s.fr (nxM g (LJ g) s.to))).2=true):StO g P (goF g (LJ g) s):=by
 obtain⟨n1,n2⟩:=CGX ht
 obtain⟨b1,b2⟩:=DBM ht
 have hl:=(AMT (BKP ho n2 (a:=s.fr))).2 hr
 have hq2:=(AMT (BKP ho n2 (a:=s.to))).1.1 hq
 refine⟨h.parts,h.last,⟨by show s.fr<=nxM _ _ _;have:=h.le;omega,n2⟩,b1,⟨hl.1,λj a c=>hl.2 _ ((BNS n2).2 ⟨j,a,c,rfl⟩)⟩,λj hj=>?_⟩
 have hj:j<nxM g (LJ g) s.to:=hj
 by_cases hjt:j<s.to
 ·exact h.one j hjt
 ·rw[b2 j (by omega) hj]
  refine hq2.mono λx hx=>?_
  obtain⟨hx1,hx2⟩:=List.mem_filter.1 hx
  obtain⟨i,hi,rfl⟩:=CCA hx1
  have hx2:stO g i=stO g s.to:=eq_of_beq hx2
  refine (BNS n2).2 ⟨i,?_,?_,rfl⟩
  ·refine Classical.byContradiction λhc=>?_
   have:=h.bd i s.to (by omega) (Nat.le_refl _) ht;omega
  ·refine Classical.byContradiction λhc=>?_
   have:=b1 s.to i (by omega) (by omega) hi;omega
theorem StO.brk{g:List Gau}{P:List Nat}{s:FS}(h:StO g P s)(ho:∀x∈g,Rz x)(ht:s.to<g.length)(hq:(lP (pkR g (LJ g) s.to (nxM g (LJ g) s.to))).2=true)(hr:(lP (pkR g (LJ g) s.fr (nxM g (LJ g) s.to))).2=false):StO g (P ++ [s.to]) (brkF g (LJ g) s):=by
 obtain⟨n1,n2⟩:=CGX ht
 have hne:s.fr≠s.to:=λhe=>by rw[he,hq] at hr;cases hr
 have hbad:¬Can (pkR g (LJ g) s.fr (nxM g (LJ g) s.to)):=λhc=>by
  rw[(AMT (BKP ho n2 (a:=s.fr))).1.2 hc] at hr;cases hr
 have hle:=h.le
 obtain⟨p1,p2,p3,p4,p5,p6,p7,p8⟩:=h.parts
 have hlast:=h.last
 have eP:∀i,i<=s.b.length->gD (P ++ [s.to]) i=gD P i:=λi hi=>by rw[Tm,if_pos (by omega)]
 have eP2:gD (P ++ [s.to]) (s.b.length+1)=s.to:=by rw[Tm,if_neg (by omega),if_pos (by omega)]
 have eb:∀i,i<s.b.length->gD (s.b ++ [lX g (gD (LJ g) s.to)]) i=gD s.b i:=λi hi=>by rw[Tm,if_pos hi]
 have eb2:gD (s.b ++ [lX g (gD (LJ g) s.to)]) s.b.length=stO g s.to:=by rw[Tm,if_neg (by omega),if_pos rfl];rfl
 have el:∀i,i<s.b.length->gD (s.l ++ [s.ln]) i=gD s.l i:=λi hi=>by rw[Tm,if_pos (by omega)]
 have el2:gD (s.l ++ [s.ln]) s.b.length=s.ln:=by rw[Tm,if_neg (by omega),if_pos (by omega)]
 have ek:∀(z:List Int) i,i<s.b.length->gD (s.k ++ [z]) i=gD s.k i:=λz i hi=>by rw[Tm,if_pos (by omega)]
 have ek2:∀z:List Int,gD (s.k ++ [z]) s.b.length=z:=λz=>by rw[Tm,if_neg (by omega),if_pos (by omega)]
 have elen:(s.b ++ [lX g (gD (LJ g) s.to)]).length=s.b.length+1:=by simp
 refine⟨⟨?_,?_,?_,?_,?_,?_,?_,?_⟩,?_,⟨Nat.le_refl _,hle.2⟩,h.bd,⟨h.line.1,λj a c=>by have a:s.to<=j:=a;have c:j<s.to:=c;omega⟩,h.one⟩
 ·show (P ++ [s.to]).length=(s.b ++ [_]).length+1;rw[elen];simp;omega
 ·show (s.l ++ [s.ln]).length=(s.b ++ [_]).length;rw[elen];simp;omega
 ·show (s.k ++ [_]).length=(s.b ++ [_]).length;rw[elen];simp;omega
 ·rw[eP 0 (Nat.zero_le _)];exact p4
 ·intro i hi
  have hi:i<s.b.length+1:=by have hi:i<(s.b ++ [_]).length:=hi;rw[elen] at hi;exact hi
  show gD (P ++ [s.to]) i<gD (P ++ [s.to]) (i+1)/\gD (P ++ [s.to]) (i+1)<g.length/\bdO g (gD (P ++ [s.to]) (i+1))/\gD (s.b ++ [lX g (gD (LJ g) s.to)]) i=stO g (gD (P ++ [s.to]) (i+1))
  by_cases hl:i<s.b.length
  ·rw[eP i (by omega),eP (i+1) (by omega),eb i hl];exact p5 i hl
  ·have:i=s.b.length:=by omega
   subst this
   rw[eP _ (Nat.le_refl _),eP2,eb2,hlast]
   exact⟨by omega,ht,h.bd,rfl⟩
 ·intro i hi
  have hi:i<s.b.length+1:=by have hi:i<(s.b ++ [_]).length:=hi;rw[elen] at hi;exact hi
  show MM (gD (s.l ++ [s.ln]) i)/\∀j,gD (P ++ [s.to]) i<=j->j<gD (P ++ [s.to]) (i+1)->(OF (gD (s.l ++ [s.ln]) i)).pass (gauO g j)
  by_cases hl:i<s.b.length
  ·rw[eP i (by omega),eP (i+1) (by omega),el i hl];exact p6 i hl
  ·have:i=s.b.length:=by omega
   subst this
   rw[eP _ (Nat.le_refl _),eP2,el2,hlast]
   exact h.line
 ·intro i hi
  have hi:i<s.b.length+1:=by have hi:i<(s.b ++ [_]).length:=hi;rw[elen] at hi;exact hi
  by_cases hl:i<s.b.length
  ·rw[eP i (by omega),eP (i+1) (by omega)];exact p7 i hl
  ·have:i=s.b.length:=by omega
   subst this
   rw[eP _ (Nat.le_refl _),eP2,hlast]
   exact hbad
 ·intro i hi
  have hi:i<s.b.length+1:=by have hi:i<(s.b ++ [_]).length:=hi;rw[elen] at hi;exact hi
  show gD (s.k ++ [_]) i=_
  by_cases hl:i<s.b.length
  ·rw[eP i (by omega),eP (i+1) (by omega),ek _ i hl];exact p8 i hl
  ·have:i=s.b.length:=by omega
   subst this
   rw[eP _ (Nat.le_refl _),eP2,hlast,ek2]
 ·show gD (P ++ [s.to]) (s.b ++ [_]).length=s.to
  rw[elen];exact eP2
def DDA(g:List Gau)(b:List Int)(i:Nat):List Gau:=g.filter λx=>(decide (i=0)||decide (gD b (i-1)<=x.st))&&decide (x.st<=gD b i)
structure Few(g:List Gau)(b:List Int)(l:List Ln)(k:List (List Int)):Prop where
 lenl:l.length=b.length+1
 lenk:k.length=b.length
 asc:asc b
 brk:∀x∈b,1<=x/\x<=2000
 few:b.length<=24
 pass:∀i,i<=b.length->MM (gD l i)/\(OF (gD l i)).passes (SV g b i)
 bad:∀i,i<b.length->¬Can (DDA g b i)
 rise:∀x∈l,MM x
 parts:∃P:List Nat,PartsO g P b l.dropLast k
 one:∀x∈g,Can (g.filter λy=>y.st==x.st)
theorem Few.thru{g:List Gau}{b:List Int}{l:List Ln}{k:List (List Int)}(h:Few g b l k)(hc:LY g=0):Thru g b:=
 ⟨(wX hc).1,(wX hc).2,h.asc,h.brk,h.few,λi hi=>⟨_,(h.pass i hi).1,(h.pass i hi).2⟩⟩
theorem Thru.can{g:List Gau}{b:List Int}(h:Thru g b):∀i:Nat,i<=b.length->Can (SV g b i):=h.thru
structure GR where
 g:List Gau
 r:Rtg
def dGR:List AVal->Heap->Option (GR×List (Nat×Nat)×List Nat)
 |[x,y],H=>match BIG x H,dRtg y H with
  |some (l,f),some (r,e)=>some (⟨l,r⟩,[],f ++ e)
  |_,_=>none
 |_,_=>none
def xGR(a:GR):List AVal:=[.d (TB a.g),.d (eRtg a.r)]
def notP(a:GR)(i:Nat):Bool:=!KU (gD a.r.l (iV a.r.b (gD a.g i).st)) (gD a.g i)
def R8(a:GR)(n:Nat):List Int:=((List.range n).filter (notP a)).map Int.ofNat
def Ts(a:GR):Int:=bif LY a.g==0 then MD a.r else LY a.g
def cS(a:GR):List Int:=bif Ts a==0 then R8 a a.g.length else []
def C_Passes:Ctr:={ α:=GR,xs:=xGR,L:=λ_=>[],val:=λa=>.tup [.d (BM (cS a)),.int (Ts a)],keep:=λ_=>[],pre:=λa=>[a.g.length<1073741824/\a.r.b.length<1073741824/\a.r.l.length<1073741824] }
structure KI where
 k:Nat
 l:List Int
 deriving Inhabited
def rtgC(r:Rtg):HCell:=.live (.box [.d (BM r.b),.d (eLns r.l)])
def psS(a:GR)(v:AVal)(k:Nat):List (Nat×AVal):=[(3,.bptr 1000 0),(7,v),(19,.d (TB a.g)),(20,.int a.g.length),(21,.int k)]
def psI(a:GR)(k:Nat)(l:List Int):Prop:=Ts a=0/\k<=a.g.length/\l=R8 a k
def ps8n(a:GR):Shape:={ α:=Nat,dflt:=0,T:=λk=>⟨psS a (.d JX) k,[(1000,rtgC a.r)]⟩,inv:=λk=>psI a k [],meas:=λk=>a.g.length-k }
def ps8o(a:GR):Shape:={ α:=KI,dflt:=default,T:=λx=>⟨psS a (.own 301 1 0 x.l.length) x.k,[(1000,rtgC a.r),(301,.live (rowI x.l))]⟩,inv:=λx=>psI a x.k x.l,meas:=λx=>a.g.length-x.k }
def DAQ(a:GR)(m:Nat):Shape:={ α:=Nat,dflt:=0,T:=λk=>⟨psS a (.d JX) k,[(1000,rtgC a.r)]⟩,inv:=λk=>k<a.g.length/\a.g.length-k=m/\psI a (k+1) [],meas:=λ_=>0 }
def CQV(a:GR)(m:Nat)(f:List (Nat×Nat)):Shape:={ α:=KI,dflt:=default,T:=λx=>⟨psS a (.own 301 1 0 x.l.length) x.k,[(1000,rtgC a.r),(301,.live (rowI x.l))]⟩,inv:=λx=>x.k<a.g.length/\a.g.length-x.k=m/\psI a (x.k+1) x.l,meas:=λ_=>0,first:=f }
def ps4(a:GR):Shape:={ α:=One,dflt:=default,T:=λ_=>⟨[(0,.d (TB a.g)),(3,.bptr 1000 0),(6,.int (Ts a))],[(1000,rtgC a.r)]⟩,inv:=λ_=>True,meas:=λ_=>0 }
def BIW(a:GR):Ann:={ ann 44 [(21,C_Check.spec dGs1),(22,C_CheckR.spec dRt1),(23,C_part.spec dIX),(24,AQC)] with mt:=λid=>id==11,loops:=λid=>if id=8 then some [ps8n a,ps8o a] else none,cut:=λid=>if id=4 then some [ps4 a] else none,cutIn:=λgs id=>if id=12 then some [DAQ a (gs.getD 0 0),CQV a (gs.getD 0 0) [(301,12048)],CQV a (gs.getD 0 0) []] else none }
def BIJ(a:GR):Prop:=AS ZP (BIW a) Tryz.f7 (AG Tryz.f7) (xGR a) (AC []) (C_Passes.val a) [] [] [301]
abbrev Jh:=GR.g
abbrev AVM:=@Exists KI
abbrev LH:=KI.l
abbrev DD:=KI.k
abbrev BTD:=λ(f:KI->Prop)=>∀(x:KI),f x
abbrev ZD a:=BZ (Ts a)
abbrev J3 a b:=BH a (LH b)
abbrev QE a:=DW (Jh a)
abbrev sZ a b c:=CAD a (R8 b c)
abbrev OL a:=wI (GR.r a)
abbrev H5 a:=KF (OL a)
abbrev PE a:=N3 (GR.r a)
abbrev I7 a:=IU (PE a)
abbrev J6 a:=MO (PE a)
abbrev gP a:=BY (QE a)
abbrev Vt a b:=BEG (QE a) (Jh b)
abbrev Vk a:=BI (QE a)
abbrev oZ a b c:=sZ a b (HN c)
abbrev uX a b:=BPE a (QE b)
abbrev rR a b c:=UI (QE a) b c
abbrev nR a b:=OB a (QE b)
abbrev W2 a:=ADY (OL a)
abbrev X7 a:=AAW (OL a)
abbrev M6 a b:=IH (Jh a) b
abbrev Rq a b c:=AOH (PE a) (M6 b c)
abbrev ARM a b:=Rtg.mk (LI a) b
attribute [go_sem] Jh AVM LH DD BTD ZD J3 QE sZ OL H5 PE I7 J6 gP Vt Vk oZ uX rR nR W2 X7 M6 Rq ARM
theorem BXD(a:GR):(BIJ a)=(AQ (AO (TM (NA (Jh a)) (QE a)) (JC (NA (Jh a)) (Jh a)) (WL (NA (Jh a))) EB) (FW (WO (L5 (NA (Jh a)))) (BW (JZ (PE a)) (JO (PE a)) (Wp (Mt (OL a)) (OL a)) (cJ (OL a) (Mt (OL a))) (Qa (PE a)) (JY (Ir (OL a)))) (TV (VM (Vk a) (Vt a a) (AN (Ts a) (ALK (ARM (PE a) (Mt (OL a))))) (J6 a) (I7 a) (X7 a) (W2 a))) (TV (VM (Vk a) (Vt a a) (AN (Ts a) (L5 (NA (Jh a)))) (J6 a) (I7 a) (X7 a) (W2 a)))) (Xh (λi=>Is EB (UH (Ts a)) (lA (TI (cS a)) (AI (Ts a))) (AQ (EA (λj=>AO (VK (NG AK (Vk a) (Vt a a) (gP a) (BC j) (PE a) (λk=>UV k (PE a)) (X7 a) (W2 a))) (ZD a) (DC j (QE a)) (sZ S9 a j))) (AE (λj=>Mm (DK (ZD a) j (QE a) (sZ S9 a j)) j (QE a) (Fl j (QE a) (AQ (JZ (PE a)) (JO (PE a)) (AP (AI (M6 a j)) (And (Qa (PE a)) (Aj ZK (PE a))) (CL (Rq a a j) (H5 a)) (uO (NB (OL a) (Rq a a j)) (NM (OL a) (Rq a a j)) (MY (OL a) (Rq a a j)) (OS (OL a) (Rq a a j))) (IM (M6 a j)) (SB (M6 a j)) (IM (IV (Jh a) j)) (KM (IV (Jh a) j) (JP (Jh a) j)) (KM (JP (Jh a) j) 200000))) (FW (not (BDI (Nz (OL a) (Rq a a j)) (Jh a) j)) (pZ rE Ro Lo 8) (AVM (λk=>BW (AO AB (qJ (LH k)) (Vk a) (BV (Vt a a) (gP a) (AT (DD k) j) (J6 a) (I7 a) (H5 a) (λl=>kN l (OL a)) (qJ (LH k)) (AE (λl=>VL l (LH k) l (AZ j))))) (nR (DD k) a) (rR a (DD k) j) (ZD a) (uX (DD k) a) (oZ (LH k) a (DD k)))) (EA (λk=>BW (VK (NG AK (Vk a) (Vt a a) (gP a) (AT k j) (PE a) (λl=>UV l (PE a)) (X7 a) (W2 a))) (nR k a) (rR a k j) (ZD a) (uX k a) (oZ S9 a k))))) (WH (AE (λk=>TD (CB (nR k a) (rR a k j) (ZD a) (uX k a) (oZ S9 a k)) (EA (λl=>EO (VK (NG AK (Vk a) (Vt a a) (gP a) (AR l k) (PE a) (λm=>UV m (PE a)) (X7 a) (W2 a))) (DK (ZD a) l (QE a) (sZ S9 a l)) (QE a) l j)))) (BTD (λk=>TD (CB (nR (DD k) a) (rR a (DD k) j) (ZD a) (uX (DD k) a) (oZ (LH k) a (DD k))) (AVM (λl=>EO (AO AB (J3 (LH l) k) (Vk a) (BV (Vt a a) (gP a) (AR (DD l) (DD k)) (J6 a) (I7 a) (H5 a) (λm=>kN m (OL a)) (J3 (LH l) k) (BO (LH l) (LH k)))) (DK (ZD a) (DD l) (QE a) (sZ (LH l) a (DD l))) (QE a) (DD l) j))))) (lA (TI (cS a)) (ZD a)))) (BTD (λj=>Mm (DK (ZD a) (DD j) (QE a) (sZ (LH j) a (DD j))) (DD j) (QE a) (Fl (DD j) (QE a) (AQ (JZ (PE a)) (JO (PE a)) (AP (AI (M6 a (DD j))) (And (Qa (PE a)) (Aj ZK (PE a))) (CL (Rq a a (DD j)) (H5 a)) (uO (NB (OL a) (Rq a a (DD j))) (NM (OL a) (Rq a a (DD j))) (MY (OL a) (Rq a a (DD j))) (OS (OL a) (Rq a a (DD j)))) (IM (M6 a (DD j))) (SB (M6 a (DD j))) (IM (IV (Jh a) (DD j))) (KM (IV (Jh a) (DD j)) (JP (Jh a) (DD j))) (KM (JP (Jh a) (DD j)) 200000))) (FW (not (BDI (Nz (OL a) (Rq a a (DD j))) (Jh a) (DD j))) (iK (jQ (LH j)) (fI (LH j)) (fX (LH j))) (AVM (λk=>BW (AO AB (Fg (LH k) (LH j)) (Vk a) (BV (Vt a a) (gP a) (AT (DD k) (DD j)) (J6 a) (I7 a) (H5 a) (λl=>kN l (OL a)) (Fg (LH k) (LH j)) (AE (λl=>VL l (LH k) l (BF l (BQ (LH j)) (ID (LH j) l) (AZ (DD j))))))) (nR (DD k) a) (rR a (DD k) (DD j)) (ZD a) (uX (DD k) a) (oZ (LH k) a (DD k)))) (AVM (λk=>BW (AO AB (J3 (LH k) j) (Vk a) (BV (Vt a a) (gP a) (AT (DD k) (DD j)) (J6 a) (I7 a) (H5 a) (λl=>kN l (OL a)) (J3 (LH k) j) (BO (LH k) (LH j)))) (nR (DD k) a) (rR a (DD k) (DD j)) (ZD a) (uX (DD k) a) (oZ (LH k) a (DD k)))))) (WH (AE (λk=>TD (CB (nR k a) (rR a k (DD j)) (ZD a) (uX k a) (oZ S9 a k)) (EA (λl=>EO (VK (NG AK (Vk a) (Vt a a) (gP a) (AR l k) (PE a) (λm=>UV m (PE a)) (X7 a) (W2 a))) (DK (ZD a) l (QE a) (sZ S9 a l)) (QE a) l (DD j))))) (BTD (λk=>TD (CB (nR (DD k) a) (rR a (DD k) (DD j)) (ZD a) (uX (DD k) a) (oZ (LH k) a (DD k))) (AVM (λl=>EO (AO AB (J3 (LH l) k) (Vk a) (BV (Vt a a) (gP a) (AR (DD l) (DD k)) (J6 a) (I7 a) (H5 a) (λm=>kN m (OL a)) (J3 (LH l) k) (BO (LH l) (LH k)))) (DK (ZD a) (DD l) (QE a) (sZ (LH l) a (DD l))) (QE a) (DD l) (DD j)))))) (Cj (J3 (cS a) j) (AJ (BQ (LH j))) (BQ (LH j)) (AE (λk=>jU k (cS a) (LH j) (AJ k))) (ZD a)))))))):=by kernel_rfl
def thrK(a:GB):Nat->Nat->Bool
 |0,_=>true
 |n+1,k=>bif (lP (Rm (VX a) k)).2 then thrK a n (k+1) else false
def thrM(a:GB):Bool:=bif OG a==0 then thrK a (a.b.length+1) 0 else false
structure RtI where
 r:Rtg
 t:Int
def okRt(r:Rtg):Prop:=asc r.b/\r.l.length=r.b.length+1/\(∀x∈r.l,MM x)/\r.b.length<=24
def dRtI:List AVal->Heap->Option (RtI×List (Nat×Nat)×List Nat)
 |[x,.d t],H=>match dRtg x H with
  |some (r,f)=>some (⟨r,DG t⟩,[],f)
  |none=>none
 |_,_=>none
def atF(a:RtI):Rt:=JL (gD a.r.l (iV a.r.b a.t)) a.t
def C_flowR:Ctr:={ α:=RtI,xs:=λa=>[.d (eRtg a.r),.int a.t],L:=λ_=>[],val:=λa=>.d (eRt (atF a)),keep:=λ_=>[],pre:=λa=>[okRt a.r/\0<=a.t/\a.t<=2000] }
def BQW:Ann:=ann 15 [(23,C_part.spec dIX),(185,AMU)]
def BQO(a:RtI):Prop:=AS ZP BQW Tryz.f184 (AG Tryz.f184) (C_flowR.xs a) (AC []) (C_flowR.val a) [] [] []
abbrev aL:=RtI.t
abbrev ON a:=N3 (RtI.r a)
abbrev L8 a b:=AOH (ON a) (aL b)
abbrev Eb a:=wI (RtI.r a)
attribute [go_sem] aL ON L8 Eb
theorem BZR(a:RtI):(BQO a)=(Qu (And (JZ (ON a)) (LZ (JO (ON a)) (aL a) (iP (And (Qa (ON a)) (Aj ZK (ON a))) (CL (L8 a a) (KF (Eb a))) (uO (NB (Eb a) (L8 a a)) (NM (Eb a) (L8 a a)) (MY (Eb a) (L8 a a)) (OS (Eb a) (L8 a a))) (aL a) 2000))) (RH (atF a)) (RH (AKT (Nz (Eb a) (L8 a a)) (aL a))) (VG (atF a)) (VG (AKT (Nz (Eb a) (L8 a a)) (aL a)))):=by kernel_rfl
def dAR:List AVal->Heap->Option (RtI×List (Nat×Nat)×List Nat)
 |[.d (.iface 39 (.agg [.list _ n f _,.list _ m g _])),.d t],_=>some (⟨⟨HQ n λi=>DG (f i),HQ m λi=>dLn (g i)⟩,DG t⟩,[],[])
 |_,_=>none
def C_askR:Ctr:={ C_flowR with xs:=λ(a:RtI)=>[.d (.iface 39 (eRtg a.r)),.int a.t] }
def CIH(a:RtI):Prop:=AS ZP (ann 8 [(184,C_flowR.spec dRtI)]) Tryz.f40 (AG Tryz.f40) (C_askR.xs a) (AC []) (C_askR.val a) [] [] []
abbrev AJE a b c:=RtI.mk (ARM a b) c
abbrev Ah a:=Mt (Eb a)
attribute [go_sem] AJE Ah
theorem CMK(a:RtI):(CIH a)=(Qu (AO (JZ (ON a)) (JO (ON a)) (Wp (Ah a) (Eb a)) (iP (cJ (Eb a) (Ah a)) (AI (aL a)) (AO (Aj ZK (ON a)) (RY (Ah a) (aC (LI (ON a)))) (AUM (λi=>qK i (Ah a) (Yi (FJ i) (FP i) (FH i) i))) (AZV (XN (ON a)))) (aL a) 2000)) (RH (atF a)) (RH (atF (AJE (ON a) (Ah a) (aL a)))) (VG (atF a)) (VG (atF (AJE (ON a) (Ah a) (aL a))))):=by kernel_rfl
def atE(a:RtI):Int:=bif MD a.r==0 then (bif NJ a.t 0 2000 then 0 else 4) else MD a.r
def atM(a:RtI):Rt:=bif atE a==0 then atF a else⟨0,0⟩
def C_At:Ctr:={ α:=RtI,xs:=λa=>[.d (eRtg a.r),.int a.t],L:=λ_=>[],val:=λa=>.tup [.d (eRt (atM a)),.int (atE a)],keep:=λ_=>[],pre:=λa=>[a.r.b.length<1073741824/\a.r.l.length<1073741824] }
def A_At:Ann:=ann 21 [(22,C_CheckR.spec dRt1),(39,My),(40,C_askR.spec dAR)]
def V_At(a:RtI):Prop:=AS ZP A_At Tryz.f11 (AG Tryz.f11) (C_At.xs a) (AC []) (C_At.val a) [] [] []
abbrev K0 a:=VG (atM a)
attribute [go_sem] K0
theorem CYV(a:RtI):(V_At a)=(And (BW (JZ (ON a)) (JO (ON a)) (Wp (Ah a) (Eb a)) (cJ (Eb a) (Ah a)) (Qa (ON a)) (JY (Ir (Eb a)))) (nJ (ALK (ARM (ON a) (Ah a))) (YX (RH (atM a)) 0 (K0 a) 0 (atE a) (ALK (ARM (ON a) (Ah a)))) (Be (JR (aL a) 2000) (YX (RH (atM a)) 0 (K0 a) 0 (atE a) 4) (Kw (JZ (ON a)) (JO (ON a)) (Wp (Ah a) (Eb a)) (iP (cJ (Eb a) (Ah a)) (AI (aL a)) (AO (Aj ZK (ON a)) (RY (Ah a) (aC (LI (ON a)))) (AUM (λi=>qK i (Ah a) (Yi (FJ i) (FP i) (FH i) i))) (AZV (XN (ON a)))) (aL a) 2000) (YX (RH (atM a)) (RH (atF (AJE (ON a) (Ah a) (aL a)))) (K0 a) (VG (atF (AJE (ON a) (Ah a) (aL a)))) (atE a) 0))))):=by kernel_rfl
theorem AWO{r:Rtg}(h:MD r=0):okRt r/\∀x∈r.b,1<=x/\x<=2000:=by
 unfold MD at h
 cases hb:UR r.b != 0 with
 |true=>rw[hb] at h;have h:UR r.b=0:=h;rw[h] at hb;cases hb
 |false=>
  rw[hb] at h
  have hb0:UR r.b=0:=by simpa using hb
  cases hl:(r.l.length:Int) != (r.b.length:Int)+1 with
  |true=>rw[hl] at h;cases h
  |false=>
   rw[hl] at h
   cases hr:r.l.all mD with
   |false=>rw[hr] at h;cases h
   |true=>
    have hl0:(r.l.length:Int)=(r.b.length:Int)+1:=by simpa using hl
    unfold UR at hb0
    split at hb0
    ·cases hb0
    ·obtain⟨h5,h6⟩:=BJT _ 0 (by omega) hb0
     exact⟨⟨h5,by omega,λx hx=>aY.1 (List.all_eq_true.1 hr x hx),by omega⟩,λx hx=>by have:=h6 x hx;omega⟩
theorem Q2{a:GR}{k:Nat}:R8 a (k+1)=if notP a k=true then R8 a k ++ [(k:Int)] else R8 a k:=by
 unfold R8
 rw[List.range_succ,List.filter_append,List.map_append]
 by_cases h:notP a k=true
 ·rw[if_pos h,List.filter_cons_of_pos h];rfl
 ·rw[if_neg h,List.filter_cons_of_neg h];simp
theorem BEV(a:GR)(k:Nat):(R8 a k).length<=k:=by
 unfold R8;rw[List.length_map]
 exact Nat.le_trans (List.length_filter_le _ _) (by simp)
theorem BYG(a:GR)(h1:a.g.length<1073741824)(h2:a.r.b.length<1073741824)(h3:a.r.l.length<1073741824):BIJ a:=by
 rw[BXD]<;> dsimp only[go_sem];simp only[CC,CU]
 have em:¬Ts a=0->cS a=[]:=λh=>by unfold cS;rw[show (Ts a==0)=false by simpa using h];rfl
 have facts:Ts a=0->LY a.g=0/\okRt a.r:=λh=>by
  unfold Ts at h
  cases hc:LY a.g==0 with
  |false=>rw[hc] at h;have h:LY a.g=0:=h;rw[h] at hc;cases hc
  |true=>rw[hc] at h;exact⟨by simpa using hc,(AWO h).1⟩
 have pre:∀{k:Nat},Ts a=0->k<a.g.length->((a.r.b.length<4611686018427387904/\asc a.r.b)/\(0<=((iV a.r.b (gD a.g k).st:Nat):Int)/\((iV a.r.b (gD a.g k).st:Nat):Int)<a.r.l.length)/\MM (gD a.r.l (iV a.r.b (gD a.g k).st))/\Rz (gD a.g k)):=λ{k} h hk=>by
  obtain⟨f1,f2,f3,f4,f5⟩:=facts h
  have hle:iV a.r.b (gD a.g k).st<=a.r.b.length:=List.countP_le_length
  exact⟨⟨by omega,f2⟩,⟨by omega,by omega⟩,f4 _ (FD (by omega)),(wX f1).2 _ (FD hk)⟩
 have nP:∀{k:Nat},KU (gD a.r.l (iV a.r.b (gD a.g k).st)) (gD a.g k)=false->notP a k=true:=λ{k} h=>by unfold notP;rw[h];rfl
 have nQ:∀{k:Nat},KU (gD a.r.l (iV a.r.b (gD a.g k).st)) (gD a.g k)=true->¬notP a k=true:=λ{k} h=>by unfold notP;rw[h];simp
 have cn:∀(m i:Nat),i<a.g.length/\a.g.length-i=m/\psI a (i+1) []->∃j:Nat,(j:Int)=IntKind.i64.wrap ((i:Int)+1)/\psI a j []/\a.g.length-j<m:=λm i ⟨b1,b2,b3⟩=>⟨i+1,(BJ (by omega)).symm,b3,by omega⟩
 have co:∀(m:Nat) (x:KI),x.k<a.g.length/\a.g.length-x.k=m/\psI a (x.k+1) x.l->∃y:KI,(y.l.length=x.l.length/\(y.k:Int)=IntKind.i64.wrap ((x.k:Int)+1)/\y.l.length=x.l.length/\∀i,i<y.l.length->gD y.l i=gD x.l i)/\psI a y.k y.l/\a.g.length-y.k<m:=λm x ⟨b1,b2,b3⟩=>⟨⟨x.k+1,x.l⟩,⟨rfl,(BJ (by omega)).symm,rfl,λ_ _=>rfl⟩,b3,by show a.g.length-(x.k+1)<m;omega⟩
 have fin:∀{l:List Int},Ts a=0->l=R8 a a.g.length->cS a=l:=λ{l} h1 h2=>by unfold cS;rw[h1,h2];rfl
 refine⟨by omega,⟨λhc=>⟨⟨by omega,by omega⟩,default,?_⟩,λhc=>⟨default,?_⟩⟩,λhe=>?_,λhe=>⟨⟨0,rfl,by simpa using he,Nat.zero_le _,rfl⟩,λk ⟨k1,k2,k3⟩=>⟨λhlt=>⟨⟨⟨by omega,by omega⟩,pre k1 (by omega),λhp=>⟨⟨by omega,by omega,by omega,by omega,by omega⟩,⟨k,[(k:Int)]⟩,⟨rfl,rfl,rfl,λi hi=>?_⟩,by show k<_;omega,rfl,k1,by show k<_;omega,?_⟩,λhp=>⟨k,rfl,by omega,rfl,k1,by omega,?_⟩⟩,cn _,co _⟩,λhge=>?_⟩,λx ⟨x1,x2,x3⟩=>⟨λhlt=>⟨⟨⟨by omega,by omega⟩,pre x1 (by omega),λhp=>⟨⟨by omega,λh=>(by cases h),?_,?_⟩,⟨x.k,x.l ++ [(x.k:Int)]⟩,⟨by simp,rfl,by simp,CTM _ _⟩,by show x.k<_;omega,rfl,x1,by show x.k<_;omega,?_⟩,λhp=>⟨x,⟨rfl,rfl,rfl,λ_ _=>rfl⟩,by omega,rfl,x1,by omega,?_⟩⟩,cn _,co _⟩,λhge=>?_⟩⟩⟩
 ·unfold Ts;rw[hc];rfl
 ·unfold Ts;rw[hc];rfl
 ·rw[em (by simpa using he)];rfl
 ·rw[show i=0 by have h1:i<1:=hi;omega];rfl
 ·rw[Q2,if_pos (nP hp),<-k3];rfl
 ·rw[Q2,if_neg (nQ hp)];exact k3
 ·have e:cS a=[]:=fin k1 (by rw[k3,show k=a.g.length by omega])
  rw[e];exact⟨rfl,rfl,k1⟩
 ·have:=BEV a x.k;rw[<-x3] at this;omega
 ·have:=BEV a x.k;rw[<-x3] at this;omega
 ·show x.l ++ _=_;rw[Q2,if_pos (nP hp),<-x3]
 ·rw[Q2,if_neg (nQ hp)];exact x3
 ·have e:cS a=x.l:=fin x1 (by rw[x3,show x.k=a.g.length by omega])
  rw[e];exact⟨rfl,Nat.le_refl _,λ_ _=>rfl,x1⟩
theorem BWX:AH ZP 7 (C_Passes.spec dGR):=MK C_Passes BIW [] [301] Tryz.func7 (λ_=>by kernel_rfl) (λ_=>AA APN (AA AXF (AA AET (AA AVG AD)))) (λ(a:GR) h=>BYG a h.1 h.2.1 h.2.2) (λ_=>OA rfl rfl) _
theorem BZW:AH ZP 184 (C_flowR.spec dRtI):=MK C_flowR (λ_=>BQW) [] [] Tryz.func184 (λ_=>by kernel_rfl) (λ_=>AA AET (AA BGA AD)) (λ(a:RtI) h=>by
 show BQO a;rw[BZR]<;> dsimp only[go_sem];simp only[CC,CU]
 obtain⟨⟨h1,h2,h3,h4⟩,h5⟩:okRt a.r/\0<=a.t/\a.t<=2000:=h
 have hle:iV a.r.b a.t<=a.r.b.length:=List.countP_le_length
 exact⟨⟨⟨by omega,h1⟩,⟨by omega,by omega⟩,h3 _ (FD (by omega)),h5⟩,rfl,rfl⟩) (λ_=>OA rfl rfl) _
theorem COM:AH ZP 40 (C_askR.spec dAR):=MK C_askR (λ_=>ann 8 [(184,C_flowR.spec dRtI)]) [] [] Tryz.func40 (λ_=>by kernel_rfl) (λ_=>AA BZW AD) (λ(a:RtI) h=>by
 show CIH a;rw[CMK]<;> dsimp only[go_sem];simp only[CC,CU]
 exact h) (λ_=>OA rfl rfl) _
theorem DDR:AH ZP 11 (C_At.spec dRtI):=MK C_At (λ_=>A_At) [] [] Tryz.func11 (λ_=>by kernel_rfl) (λ_=>AA AXF (AA ALI (AA COM AD))) (λ(a:RtI) h=>by
 show V_At a;rw[CYV]<;> dsimp only[go_sem];simp only[CC,CU]
 obtain⟨h1,h2⟩:a.r.b.length<1073741824/\a.r.l.length<1073741824:=h
 refine⟨⟨by omega,by omega⟩,λhc=>?_,λhc=>?_⟩
 ·have e0:(MD a.r==0)=false:=by simpa using hc
  have e:atE a=MD a.r:=by unfold atE;rw[e0];rfl
  have e2:atM a=⟨0,0⟩:=by unfold atM;rw[e,e0];rfl
  rw[e2];exact⟨rfl,rfl,e⟩
 ·have e1:MD a.r=0:=by simpa using hc
  have e0:(MD a.r==0)=true:=by simpa using hc
  refine⟨λhi=>?_,λhi=>?_⟩
  ·have e:atE a=4:=by unfold atE;rw[e0,hi];rfl
   have e2:atM a=⟨0,0⟩:=by unfold atM;rw[e];rfl
   rw[e2];exact⟨rfl,rfl,e⟩
  ·have e:atE a=0:=by unfold atE;rw[e0,hi];rfl
   have e2:atM a=atF a:=by unfold atM;rw[e];rfl
   have ht:0<=a.t/\a.t<=2000:=by unfold NJ at hi;simpa using hi
   rw[e2];exact⟨⟨(AWO e1).1,ht⟩,rfl,rfl,e⟩) (λ_=>OA rfl rfl) _
structure RtOk(g:List Gau)(r:Rtg):Prop where
 chk:LY g=0
 asc:asc r.b
 brk:∀x∈r.b,1<=x/\x<=2000
 few:r.b.length<=24
 lines:r.l.length=r.b.length+1
 rise:∀x∈r.l,MM x
 pass:∀i,i<=r.b.length->(OF (gD r.l i)).passes (SV g r.b i)
theorem RtOk.chkR{g:List Gau}{r:Rtg}(h:RtOk g r):MD r=0:=by
 unfold MD
 rw[BVX h.asc h.brk h.few,h.lines,List.all_eq_true.2 λx hx=>aY.2 (h.rise x hx)]
 simp
theorem RtOk.thru{g:List Gau}{r:Rtg}(h:RtOk g r):Thru g r.b:=
 ⟨(wX h.chk).1,(wX h.chk).2,h.asc,h.brk,h.few,λi hi=>⟨_,h.rise _ (FD (by rw[h.lines];omega)),h.pass i hi⟩⟩
theorem RtOk.passes{g:List Gau}{r:Rtg}(h:RtOk g r):Ts ⟨g,r⟩=0/\cS ⟨g,r⟩=[]:=by
 have e:Ts ⟨g,r⟩=0:=by
  show (bif LY g==0 then MD r else LY g)=0
  rw[h.chk,h.chkR];rfl
 refine⟨e,?_⟩
 unfold cS;rw[e]
 show R8 ⟨g,r⟩ g.length=[]
 unfold R8
 rw[List.map_eq_nil_iff,List.filter_eq_nil_iff]
 intro i hi hc
 have hi:=List.mem_range.1 hi
 have hle:=AZP r.b (gD g i).st
 have hp:=h.pass (iV r.b (gD g i).st) hle _ (AQU.2 ⟨FD hi,rfl⟩)
 have ho:MM (gD r.l (iV r.b (gD g i).st)):=h.rise _ (FD (by rw[h.lines];omega))
 have hc:(!KU (gD r.l (iV r.b (gD g i).st)) (gD g i))=true:=hc
 rw[(R0 ho).2 hp] at hc;cases hc
theorem AVK{a:GB}:∀(n k:Nat),(∀j,k<=j->j<k+n->(lP (Rm (VX a) j)).2=true)->thrK a n k=true
 |0,_,_=>rfl
 |n+1,k,h=>by
  unfold thrK;rw[h k (Nat.le_refl _) (by omega)]
  exact AVK n (k+1) (λj a b=>h j (by omega) (by omega))
theorem Thru.thr{g:List Gau}{b:List Int}(h:Thru g b):thrM ⟨g,b⟩=true:=by
 unfold thrM;rw[h.open]
 exact AVK _ _ λj _ hj=>(AMT (qL h.ok)).1.2 (h.can j (by have hj:j<0+(b.length+1):=hj;omega))
theorem RtOk.at{g:List Gau}{r:Rtg}(h:RtOk g r){t:Int}(ht:0<=t/\t<=2000):atE ⟨r,t⟩=0/\sN (atM ⟨r,t⟩)/\Ni (UP ⟨g,r.b,t⟩).lo (atM ⟨r,t⟩)/\Ni (atM ⟨r,t⟩) (UP ⟨g,r.b,t⟩).hi:=by
 have e:atE ⟨r,t⟩=0:=by
  show (bif MD r==0 then (bif NJ t 0 2000 then 0 else 4) else MD r)=0
  rw[h.chkR,show NJ t 0 2000=true by unfold NJ;simpa using ht];rfl
 have hle:=AZP r.b t
 have ho:MM (gD r.l (iV r.b t)):=h.rise _ (FD (by rw[h.lines];omega))
 have e2:atM ⟨r,t⟩=JL (gD r.l (iV r.b t)) t:=by unfold atM;rw[e];rfl
 have hp:=h.pass _ hle
 have hT:=h.thru
 obtain⟨i1,i2,i3⟩:=hT.in hle ht
 rw[e2,(hT.flow ht).2]
 refine⟨e,HE ho,?_,?_⟩
 ·exact (AFR ho i1.1.1).2 (BQA (qL hT.ok) ht (MC ho) hp)
 ·exact (AMZ ho i2.1.1).2 (BZB (qL hT.ok) ht (MC ho) hp)
theorem BXG(g:List Gau):SV g [] (0:Nat)=g:=by
 unfold SV Rm VX
 exact List.filter_eq_self.2 λx _=>rfl
theorem APT{y:Ln}(h:MM y):MD ⟨[],[y]⟩=0:=by
 unfold MD
 have e1:UR []=0:=rfl
 rw[e1,List.all_eq_true.2 (λx hx=>by rw[List.mem_singleton.1 hx];exact aY.2 h)]
 rfl
theorem CCD{y:Ln}(h:MM y){t:Int}(ht:0<=t/\t<=2000):atE ⟨⟨[],[y]⟩,t⟩=0/\atM ⟨⟨[],[y]⟩,t⟩=JL y t:=by
 have e:atE ⟨⟨[],[y]⟩,t⟩=0:=by
  show (bif MD ⟨[],[y]⟩==0 then (bif NJ t 0 2000 then 0 else 4) else MD ⟨[],[y]⟩)=0
  rw[APT h,show NJ t 0 2000=true by unfold NJ;simpa using ht];rfl
 refine⟨e,?_⟩
 unfold atM;rw[e];rfl
theorem BZH{g:List Gau}{y:Ln}(hc:LY g=0)(h:MM y)(hp:(OF y).passes g):RtOk g ⟨[],[y]⟩:=
 ⟨hc,.nil,λx hx=>(by cases hx),Nat.zero_le _,rfl,λx hx=>by rw[List.mem_singleton.1 hx];exact h,λi hi=>by
  have:i=0:=by have hi:i<=0:=hi;omega
  subst this
  show (OF y).passes (SV g [] (0:Nat))
  rw[BXG];exact hp⟩
theorem AUQ{y:Ln}(h:MM y){s t:Int}(hst:s<=t):Ni (JL y s) (JL y t):=by
 have ho:=MC h
 rw[AFR h (HE h).1.1]
 rw[AMZ h (XR ho.1)]
 refine P9 ho.1 ho.1 (Int.mul_le_mul_of_nonneg_right ?_ (Int.le_of_lt ho.1))
 unfold Rl.num
 have:=Int.mul_le_mul_of_nonneg_left hst ho.2
 omega
theorem CIG{g:List Gau}{y:Ln}(hc:LY g=0)(h:MM y)(hp:(OF y).passes g){s t:Int}(hs:0<=s/\s<=2000)(ht:0<=t/\t<=2000) :
  (Db ⟨g,[],s⟩=0/\sN (UP ⟨g,[],s⟩).lo/\sN (UP ⟨g,[],s⟩).hi)/\atE ⟨⟨[],[y]⟩,t⟩=0/\sN (atM ⟨⟨[],[y]⟩,t⟩)/\(s<=t->Ni (UP ⟨g,[],s⟩).lo (atM ⟨⟨[],[y]⟩,t⟩))/\(t<=s->Ni (atM ⟨⟨[],[y]⟩,t⟩) (UP ⟨g,[],s⟩).hi):=by
 have hR:=BZH hc h hp
 have hT:=hR.thru
 have hf:=hT.flow (t:=s) hs
 have hin:=hT.in (AZP [] s) hs
 rw[<-hf.2] at hin
 obtain⟨f2,f3,_⟩:=hin
 obtain⟨a1,a2,a3,a4⟩:=hR.at (t:=s) hs
 obtain⟨b1,b2,_,_⟩:=hR.at (t:=t) ht
 have ea:=(CCD h hs).2
 have eb:=(CCD h ht).2
 refine⟨⟨hf.1,f2,f3⟩,b1,b2,λq=>?_,λq=>?_⟩
 ·have m:=AUQ h q
  rw[<-ea,<-eb] at m
  exact LD (Int.le_of_lt f2.1.1) a2.1.1 (Int.le_of_lt b2.1.1) a3 m
 ·have m:=AUQ h q
  rw[<-ea,<-eb] at m
  exact LD (Int.le_of_lt b2.1.1) a2.1.1 (Int.le_of_lt f3.1.1) m a4
theorem BCC{l:List Gau}{y:Ln}(hl:1<=l.length/\l.length<=24)(hg:∀g∈l,Rz g)(h:MM y):Ts ⟨l,⟨[],[y]⟩⟩=0/\∀i:Nat,i<l.length->((i:Int)∈cS ⟨l,⟨[],[y]⟩⟩↔KU y (gD l i)=false):=by
 have hc:LY l=0:=ADQ hl hg
 have e:Ts ⟨l,⟨[],[y]⟩⟩=0:=by
  show (bif LY l==0 then MD ⟨[],[y]⟩ else LY l)=0
  rw[hc,APT h];rfl
 refine⟨e,λi hi=>?_⟩
 unfold cS;rw[e]
 show (i:Int)∈R8 ⟨l,⟨[],[y]⟩⟩ l.length↔_
 unfold R8
 rw[List.mem_map]
 have en:notP ⟨l,⟨[],[y]⟩⟩ i=!KU y (gD l i):=rfl
 constructor
 ·rintro⟨j,hj,e⟩
  have e:j=i:=Int.ofNat.inj e
  subst e
  have:=(List.mem_filter.1 hj).2
  rw[en] at this
  cases hq:KU y (gD l j) with
  |true=>rw[hq] at this;cases this
  |false=>rfl
 ·intro q
  refine⟨i,List.mem_filter.2 ⟨List.mem_range.2 hi,?_⟩,rfl⟩
  rw[en,q];rfl
theorem CKF{l:List Gau}{y:Ln}(h:MM y):(OF y).passes (l.filter (KU y)):=λg hg=>(R0 h).1 (List.mem_filter.1 hg).2
structure Lin where
 f:Int
 t:Int
 d:Int
 r:Int
 e:Int
 deriving Inhabited,DecidableEq
def eLin(x:Lin):DVal:=.agg [CF x.f,CF x.t,CF x.d,CF x.r,CF x.e]
def AQJ(l:List Lin):DVal:=lst 5 l.length λi=>eLin (gD l i)
def dLin:DVal->Lin
 | .agg [a,b,c,d,e]=>⟨DG a,DG b,DG c,DG d,DG e⟩
 |_=>default
theorem CK(x:Lin):dLin (eLin x)=x:=rfl
theorem CKR(a b c d e:Int):dLin (.agg [CF a,CF b,CF c,CF d,CF e])=⟨a,b,c,d,e⟩:=rfl
def eNet(l:List Lin):DVal:=.agg [CF 3,AQJ l]
end Go.Bal
namespace Go.Bal.DL
theorem n1(x:Lin):dLin (eLin x)=x:=rfl
theorem n3(a b c d e:Int):dLin (.agg [CF a,CF b,CF c,CF d,CF e])=Lin.mk a b c d e:=rfl
theorem n2(x:Lin):Lin.mk x.f x.t x.d x.r x.e=x:=rfl
end Go.Bal.DL
namespace Go.Bal
open Go Go.Sym Go.Proofs
def svO(l:List Lin)(g:Nat->Int):AObj:=.nbox [CF 3,AQJ l] 169 338 g
def Tg(a b:Nat):Nat:=b+(2+a*13)
def CTW(x:I3):Prop:=AS ZP (ann 15 []) Tryz.f94 (AG Tryz.f94) (xI3 x) (AC []) (.bool (NJ x.a x.b x.c)) [] [] []
theorem CXH(x:I3):(CTW x)=(SQ (NJ (lY x) (I3.b x) (I3.c x)) (hd6 (lY x) (I3.b x)) (hd7 (lY x) (I3.c x))):=by kernel_rfl
theorem AXS:AH ZP 94 My:=NH xI3 hI3 λx _=>TF (A:=ann 15 []) (ren:=[]) (fz:=[]) Tryz.func94 (by kernel_rfl) AD (by
 show CTW x;rw[CXH]<;> dsimp only[go_sem];unfold NJ;by_cases h:x.b<=x.a<;>simp[h])
def dLi1:List AVal->Option Lin
 |[.d (.agg [.v (.int .i64 a),.v (.int .i64 b),.v (.int .i64 c),.v (.int .i64 d),.v (.int .i64 e)])]=>some ⟨a,b,c,d,e⟩
 |_=>none
def xLi1(x:Lin):List AVal:=[.d (eLin x)]
theorem hLi1(xs:List AVal)(a:Lin)(h:dLi1 xs=some a):xs=xLi1 a:=by
 unfold dLi1 at h;split at h<;>cases h;rfl
def CDN(x:Lin):Prop:=AS ZP (ann 5 []) Tryz.f167 (AG Tryz.f167) (xLi1 x) (AC []) (.int x.t) [] [] []
abbrev vP:=Lin.t
attribute [go_sem] vP
theorem CKV(x:Lin):(CDN x)=(AI (vP x)):=by kernel_rfl
def CDE(x:Lin):Prop:=AS ZP (ann 5 []) Tryz.f168 (AG Tryz.f168) (xLi1 x) (AC []) (.int x.f) [] [] []
abbrev vZ:=Lin.f
attribute [go_sem] vZ
theorem CPD(x:Lin):(CDE x)=(AI (vZ x)):=by kernel_rfl
def BND:=pD dLi1 λx=>.int x.t
def BJM:=pD dLi1 λx=>.int x.f
def vSts(b:Bool):AVal:=match b with
 |true=>.agg [.fn (.func 167) [] []]
 |false=>.agg [.fn (.func 168) [] []]
def CCG(b:Bool):Prop:=AS ZP (ann 6 []) Tryz.f160 (AG Tryz.f160) [.bool b] (AC []) (vSts b) [] [] []
def BTO(_x:One):Prop:=CCG true
def BVJ(_x:One):Prop:=CCG false
theorem CGU(_x:One):(BTO _x)=(EB):=by kernel_rfl
theorem CJL(_x:One):(BVJ _x)=(EB):=by kernel_rfl
theorem COP:AH ZP 167 BND:=NH xLi1 hLi1 λx _=>TF (A:=ann 5 []) (ren:=[]) (fz:=[]) Tryz.func167 (by kernel_rfl) AD (by
 show CDN x;rw[CKV]<;> dsimp only[go_sem];try simp)
theorem CNB:AH ZP 168 BJM:=NH xLi1 hLi1 λx _=>TF (A:=ann 5 []) (ren:=[]) (fz:=[]) Tryz.func168 (by kernel_rfl) AD (by
 show CDE x;rw[CPD]<;> dsimp only[go_sem];try simp)
structure LgS where
 l:List Lin
 g:Nat->Int
 i:Int
 b:Bool
def lsM(x:Lin)(b:Bool):Int:=bif b then x.t else x.f
def goM(x:Lin)(b:Bool):Int:=bif b then x.f else x.t
def R9(x:Lin)(b:Bool):Int:=bif b then wr (x.e-x.r) else wr (x.e+x.r)
def xLg(i:Int)(b:Bool):List AVal:=[.bptr 100 0,.d (.agg [CF i,AEP b])]
def d_lg:List AVal->Heap->Option (LgS×List (Nat×Nat)×List Nat)
 |[.bptr id _,.d (.agg [.v (.int .i64 i),.v (.bool b)])],H=>match H id with
  | .live (.nbox [_,.list _ n f _] _ _ g)=>some (⟨HQ n λj=>dLin (f j),g,i,b⟩,[(100,id)],[])
  |_=>none
 |_,_=>none
def C_lg(val:LgS->Int):Ctr:={ ro:=[100],α:=LgS,xs:=λa=>xLg a.i a.b,L:=λa=>[(100,svO a.l a.g)],val:=λa=>.int (val a),keep:=λa=>[(100,.live (svO a.l a.g))],pre:=λa=>[0<=a.i/\a.i<a.l.length] }
def C_lStart:Ctr:=C_lg λa=>lsM (gD a.l a.i.toNat) a.b
def C_lGoal:Ctr:=C_lg λa=>goM (gD a.l a.i.toNat) a.b
def C_lRise:Ctr:=C_lg λa=>R9 (gD a.l a.i.toNat) a.b
def BMF:Sym.Spec:=K2 λxs=>match xs with
 |[.d (.v (.bool true))]=>some (vSts true,[])
 |[.d (.v (.bool false))]=>some (vSts false,[])
 |_=>none
def A_lSt:Ann:={ ann 19 [(160,BMF),(167,BND),(168,BJM)] with E:=[100] }
def BRF:Ann:={ ann 20 [(160,BMF),(167,BND),(168,BJM)] with E:=[100] }
def CUO:Ann:={ ann 27 [] with E:=[100] }
def svK(l:List Lin)(g:Nat->Int):List (Nat×HCell):=[(100,.live (svO l g))]
def AUX(a:LgS):Prop:=AS ZP A_lSt Tryz.f159 (AG Tryz.f159) (xLg a.i true) (AC [(100,svO a.l a.g)]) (.int (gD a.l a.i.toNat).t) (svK a.l a.g) [] []
abbrev ARI:=LgS.i
abbrev Xk:=@List.length Lin
abbrev Dc:=LgS.l
abbrev Nu:=@gD Lin instInhabitedLin
abbrev APY:=Lin.d
abbrev AOS:=Lin.r
abbrev AUA:=Lin.e
abbrev ALF:=@List.cons DVal
abbrev AUW:=@List.nil DVal
abbrev ANN:=LgS.g
abbrev AW:=aZ 3
abbrev AKJ a(b:Nat->Prop) c d:=UY AW a b c d
abbrev CQ:=BI 338
abbrev X9 a(b:Nat->Prop) c:=AKJ a b CQ c
abbrev aH a(b:Nat->Prop)(c:Nat->Prop):=X9 a b (AE c)
abbrev ACU a b c d e:=AGU a b (HB c d e)
abbrev ATY a b:=ALF (CF a) b
abbrev BJV a b:=(@List.length DVal) (ATY a b)
abbrev fE a:=BJV 3 (ALF (AQJ a) AUW)
abbrev AHZ a:=JM (fE a) 169
abbrev AYO a b c:=ACU (fE a) b b (AHZ a) c
abbrev Ry a b c:=AYO a b (AI c)
abbrev Tz a b c:=HB a (Xk b) c
abbrev BBP a:=AI (AUA a)
abbrev BDN a:=AI (AOS a)
abbrev BNV a b c d:=Tz a b (Ea c (vP d) (APY d) (BDN d) (BBP d))
abbrev Fb a b:=vZ (Nu a b)
abbrev jG a b c d:=BNV a b (Fb b c) d
abbrev J1 a b:=Nu (Dc a) b
abbrev TU a:=BI (Xk a)
abbrev X0 a:=TU (Dc a)
abbrev BCK a:=OY (ARI a)
abbrev tJ a b:=J1 a (BCK b)
attribute [go_sem] ARI Xk Dc Nu APY AOS AUA ALF AUW ANN AW AKJ CQ X9 aH ACU ATY BJV fE AHZ AYO Ry Tz BBP BDN BNV Fb jG J1 TU X0 BCK tJ
theorem BPP(a:LgS):(AUX a)=(LZ (FV (ARI a) (Xk (Dc a))) (vP (tJ a a)) (aH (X0 a) (λi=>jG i (Dc a) i (J1 a i)) (λi=>Ry (Dc a) i (ANN a i)))):=by kernel_rfl
def AVY(a:LgS):Prop:=AS ZP A_lSt Tryz.f159 (AG Tryz.f159) (xLg a.i false) (AC [(100,svO a.l a.g)]) (.int (gD a.l a.i.toNat).f) (svK a.l a.g) [] []
theorem BNN(a:LgS):(AVY a)=(LZ (FV (ARI a) (Xk (Dc a))) (Fb (Dc a) (BCK a)) (aH (X0 a) (λi=>jG i (Dc a) i (J1 a i)) (λi=>Ry (Dc a) i (ANN a i)))):=by kernel_rfl
def BHE(a:LgS):Prop:=AS ZP BRF Tryz.f146 (AG Tryz.f146) (xLg a.i true) (AC [(100,svO a.l a.g)]) (.int (gD a.l a.i.toNat).f) (svK a.l a.g) [] []
theorem BXJ(a:LgS):(BHE a)=(LZ (FV (ARI a) (Xk (Dc a))) (Fb (Dc a) (BCK a)) (aH (X0 a) (λi=>jG i (Dc a) i (J1 a i)) (λi=>Ry (Dc a) i (ANN a i)))):=by kernel_rfl
def BHB(a:LgS):Prop:=AS ZP BRF Tryz.f146 (AG Tryz.f146) (xLg a.i false) (AC [(100,svO a.l a.g)]) (.int (gD a.l a.i.toNat).t) (svK a.l a.g) [] []
theorem BWJ(a:LgS):(BHB a)=(LZ (FV (ARI a) (Xk (Dc a))) (vP (tJ a a)) (aH (X0 a) (λi=>jG i (Dc a) i (J1 a i)) (λi=>Ry (Dc a) i (ANN a i)))):=by kernel_rfl
def BUE(a:LgS):Prop:=AS ZP CUO Tryz.f145 (AG Tryz.f145) (xLg a.i a.b) (AC [(100,svO a.l a.g)]) (.int (R9 (gD a.l a.i.toNat) a.b)) (svK a.l a.g) [] []
theorem CDM(a:LgS):(BUE a)=(And (FV (ARI a) (Xk (Dc a))) (FW (LgS.b a) (AN (R9 (tJ a a) (LgS.b a)) (CW (AUA (tJ a a)) (AOS (tJ a a)))) (aH (X0 a) (λi=>jG i (Dc a) i (J1 a i)) (λi=>Ry (Dc a) i (ANN a i))) (BW (Ug (R9 (tJ a a) (LgS.b a)) (AUA (tJ a a)) (AOS (tJ a a))) AW (X0 a) (AE (λi=>jG i (Dc a) i (J1 a i))) CQ (AE (λi=>Ry (Dc a) i (ANN a i)))))):=by kernel_rfl
structure LmS where
 l:List Lin
 g:Nat->Int
 m:Int
def d_lm:List AVal->Heap->Option (LmS×List (Nat×Nat)×List Nat)
 |[.bptr id _,.d (.v (.int .i64 m))],H=>match H id with
  | .live (.nbox [_,.list _ n f _] _ _ g)=>some (⟨HQ n λj=>dLin (f j),g,m⟩,[(100,id)],[])
  |_=>none
 |_,_=>none
def DAC(a b:Nat):AVal:=.fn (.func 158) [] [.bptr a 0,.bptr b 0]
def C_lLegs:Ctr:={ ro:=[100],α:=LmS,xs:=λa=>[.bptr 100 0,.int a.m],L:=λa=>[(100,svO a.l a.g)],val:=λ_=>DAC 0 1,keep:=λa=>[(100,.live (svO a.l a.g)),(0,.live (.box [.bptr 100 0])),(1,.live (.box [.int a.m]))] }
def BSM:Ann:={ ann 6 [] with E:=[100] }
def BRR(a:LmS):Prop:=AS ZP BSM Tryz.f144 (AG Tryz.f144) (C_lLegs.xs a) (AC (C_lLegs.L a)) (C_lLegs.val a) (C_lLegs.keep a) [(0,1000),(1,1016)] []
abbrev Zz a b c d e:=jG a b c (Nu d e)
attribute [go_sem] Zz
theorem CFM(a:LmS):(BRR a)=(BW AW (TU (LmS.l a)) (AE (λi=>Zz i (LmS.l a) i (LmS.l a) i)) CQ (AE (λi=>Ry (LmS.l a) i (LmS.g a i))) (AI (LmS.m a))):=by kernel_rfl
def SC(l:List Int):Int:=l.foldl (λa x=>wr (a+x)) 0
def C_lSum:Ctr:={ α:=List Int,xs:=λl=>[.d (BM l)],L:=λ_=>[],val:=λl=>.int (SC l),keep:=λ_=>[],pre:=λl=>[l.length<1073741824] }
def d_Is:List AVal->Heap->Option (List Int×List (Nat×Nat)×List Nat)
 |[a],H=>match S6 a H with
  |some (l,f)=>some (l,[],f)
  |none=>none
 |_,_=>none
def AJN(l:List Int):Ann:={ ann 17 [] with loops:=λid=>if id=3 then some [{ α:=Nat,dflt:=0,T:=λk=>⟨[(3,.int (SC (l.take k))),(6,.d (BM l)),(7,.int l.length),(8,.int k)],[]⟩,inv:=λk=>k<=l.length,meas:=λk=>l.length-k }] else none }
def CJJ(l:List Int):Prop:=AS ZP (AJN l) Tryz.f166 (AG Tryz.f166) (C_lSum.xs l) (AC []) (C_lSum.val l) [] [] []
abbrev Ow a b:=SC (BER a b)
attribute [go_sem] Ow
theorem CNR(l:List Int):(CJJ l)=(LR (λi=>Vs (Yh (BZ (Ow i l)) l l l (BC i)) i (BQ l)) (λi=>Ck (MH i (BQ l)) i (LW l) (MZ i l) (EA (λj=>Bg (Yh (Ug (Ow j l) (Ow i l) (ID l i)) l l l (AR j i)) j (BQ l) j i)) (AN (SC l) (Ow i l)))):=by kernel_rfl
theorem COZ:AH ZP 160 BMF:=L6 λxs v p h _=>by
 split at h
 ·cases h;exact TF (A:=ann 6 []) (ren:=[]) (fz:=[]) Tryz.func160 (by kernel_rfl) AD (by
   show BTO default;rw[CGU]<;> dsimp only[go_sem])
 ·cases h;exact TF (A:=ann 6 []) (ren:=[]) (fz:=[]) Tryz.func160 (by kernel_rfl) AD (by
   show BVJ default;rw[CJL]<;> dsimp only[go_sem])
 ·cases h
theorem AMQ:GOk ZP A_lSt.Γ:=AA COZ (AA COP (AA CNB AD))
theorem AVD:AH ZP 159 (C_lStart.spec d_lg):=Ctr.spec_ok (C:=C_lStart) (λ(a:LgS) h=>by
 have h:0<=a.i/\a.i<a.l.length:=h
 obtain⟨l,g,i,b⟩:=a
 cases b with
 |true=>exact TF (A:=A_lSt) (ren:=[]) (fz:=[]) Tryz.func159 (by kernel_rfl) AMQ (by show AUX ⟨l,g,i,true⟩;rw[BPP]<;> dsimp only[go_sem];simp only[CC,CU,CK];exact h)
 |false=>exact TF (A:=A_lSt) (ren:=[]) (fz:=[]) Tryz.func159 (by kernel_rfl) AMQ (by show AVY ⟨l,g,i,false⟩;rw[BNN]<;> dsimp only[go_sem];simp only[CC,CU,CK];exact h)) _
theorem BEP:AH ZP 146 (C_lGoal.spec d_lg):=Ctr.spec_ok (C:=C_lGoal) (λ(a:LgS) h=>by
 have h:0<=a.i/\a.i<a.l.length:=h
 obtain⟨l,g,i,b⟩:=a
 cases b with
 |true=>exact TF (A:=BRF) (ren:=[]) (fz:=[]) Tryz.func146 (by kernel_rfl) AMQ (by show BHE ⟨l,g,i,true⟩;rw[BXJ]<;> dsimp only[go_sem];simp only[CC,CU,CK];exact h)
 |false=>exact TF (A:=BRF) (ren:=[]) (fz:=[]) Tryz.func146 (by kernel_rfl) AMQ (by show BHB ⟨l,g,i,false⟩;rw[BWJ]<;> dsimp only[go_sem];simp only[CC,CU,CK];exact h)) _
theorem BGZ:AH ZP 145 (C_lRise.spec d_lg):=MK C_lRise (λ_=>CUO) [] [] Tryz.func145 (λ_=>by kernel_rfl) (λ_=>AD) (λ(a:LgS) h=>by
 have h:0<=a.i/\a.i<a.l.length:=h
 show BUE a;rw[CDM]<;> dsimp only[go_sem];simp only[CC,CU,CK]
 refine⟨h,λhb=>?_,λhb=>?_⟩<;>rw[hb]<;>rfl) (λ_=>OA rfl rfl) _
theorem BHP:AH ZP 144 (C_lLegs.spec d_lm):=MK C_lLegs (λ_=>BSM) [(0,1000),(1,1016)] [] Tryz.func144 (λ_=>by kernel_rfl) (λ_=>AD) (λ(a:LmS) _=>by
 show BRR a;rw[CFM]<;> dsimp only[go_sem];simp only[CC,CU,CK]) (λ_=>OA rfl rfl) _
theorem AKA(l:List Int)(k:Nat)(h:k<l.length):SC (l.take (k+1))=wr (SC (l.take k)+gD l k):=by
 unfold SC
 rw[List.take_add_one,List.getElem?_eq_getElem h,Option.toList_some,List.foldl_append]
 simp[gD,List.getD_eq_getElem?_getD,h]
theorem COD:AH ZP 166 (C_lSum.spec d_Is):=MK C_lSum AJN [] [] Tryz.func166 (λ_=>by kernel_rfl) (λ_=>AD) (λ(l:List Int) h=>by
 have h:l.length<1073741824:=h
 show CJJ l;rw[CNR]<;> dsimp only[go_sem];simp only[CC,CU,CK]
 refine⟨⟨0,⟨rfl,rfl⟩,Nat.zero_le _⟩,λk hk=>⟨λhlt=>?_,λhge=>?_⟩⟩
 ·have hlt:k<l.length:=by omega
  exact⟨⟨by omega,by omega⟩,k+1,⟨AKA l k hlt,(BJ (by omega)).symm⟩,by omega,by omega⟩
 ·have:k=l.length:=by omega
  rw[this,List.take_length]) (λ_=>OA rfl rfl) _
theorem Cp{a b c:Int}(h:b<=a/\a<=c):NJ a b c=true:=by
 unfold NJ;rw[decide_eq_true h.1,decide_eq_true h.2];rfl
def To(f:Nat->Int):Nat->Int
 |0=>0
 |n+1=>To f n+f n
theorem AXM{f g:Nat->Int}:∀{n:Nat},(∀i,i<n->f i<=g i)->To f n<=To g n
 |0,_=>Int.le_refl _
 |n+1,h=>by
  have a:=AXM (n:=n) λi hi=>h i (by omega)
  have b:=h n (by omega)
  show To f n+f n<=To g n+g n
  omega
theorem Q3{f:Nat->Int}{c:Int}:∀{n:Nat},(∀i,i<n->0<=f i/\f i<=c)->0<=To f n/\To f n<=n*c
 |0,_=>⟨Int.le_refl _,by rw[Int.natCast_zero,Int.zero_mul];exact Int.le_refl _⟩
 |n+1,h=>by
  have a:=Q3 (n:=n) λi hi=>h i (by omega)
  have b:=h n (by omega)
  have e:((n+1:Nat):Int)*c=n*c+c:=by rw[Int.natCast_add,Int.add_mul];show _=(n:Int)*c+c;omega
  show 0<=To f n+f n/\To f n+f n<=_
  omega
theorem AAB{f g:Nat->Int}:∀{n:Nat},(∀i,i<n->f i=g i)->To f n=To g n
 |0,_=>rfl
 |n+1,h=>by
  show To f n+f n=To g n+g n
  rw[AAB (n:=n) λi hi=>h i (by omega),h n (by omega)]
theorem BFO{f:Nat->Int}{k:Nat}{x:Int}:∀{n:Nat},k<n->To (λj=>bif decide (j=k) then f j+x else f j) n=To f n+x
 |0,h=>absurd h (by omega)
 |n+1,h=>by
  show To _ n+(bif decide (n=k) then f n+x else f n)=To f n+f n+x
  by_cases e:n=k
  ·rw[decide_eq_true e]
   rw[AAB (g:=f) λi hi=>by rw[decide_eq_false (show ¬ i=k by omega)];rfl]
   show _+(f n+x)=_;omega
  ·rw[decide_eq_false e,BFO (n:=n) (by omega)]
   show _+x+f n=_;omega
def narS(s:Nat->Span)(k:Nat)(a b:Int)(j:Nat):Span:=⟨bif decide (j=k) then EU (s k).lo a else (s j).lo,bif decide (j=k) then IF (s k).hi b else (s j).hi⟩
structure Rcd where
 rise:Int
 fall:Int
def fwdS(r:Rcd)(s:Nat->Span):Nat->Nat->Span
 |0=>s
 |k+1=>narS (fwdS r s k) (k+1) (wr ((fwdS r s k k).lo-r.fall)) (wr ((fwdS r s k k).hi+r.rise))
def bwS(r:Rcd)(n:Nat)(s:Nat->Span):Nat->Nat->Span
 |0=>s
 |k+1=>narS (bwS r n s k) (n-2-k) (wr ((bwS r n s k (n-1-k)).lo-r.rise)) (wr ((bwS r n s k (n-1-k)).hi+r.fall))
def Ve(r:Rcd)(n:Nat)(s:Nat->Span):Nat->Span:=bwS r n (fwdS r s (n-1)) (n-1)
def HolS(n:Nat)(t:Nat->Int)(s:Nat->Span):Prop:=∀i,i<n->0<=(s i).lo/\(s i).lo<=t i/\t i<=(s i).hi/\(s i).hi<=1000000000
structure TruS(r:Rcd)(n:Nat)(t:Nat->Int):Prop where
 rise:0<=r.rise/\r.rise<=1000000000
 fall:0<=r.fall/\r.fall<=1000000000
 step:∀i,i+1<n->t (i+1)-t i<=r.rise/\t i-t (i+1)<=r.fall
theorem BIK{n:Nat}{t:Nat->Int}{s:Nat->Span}(h:HolS n t s){k:Nat}{a b:Int}(hk:k<n)(ha:a<=t k)(hb:t k<=b):HolS n t (narS s k a b):=by
 intro i hi
 have h0:=h i hi
 unfold narS
 by_cases e:i=k
 ·subst e
  rw[decide_eq_true rfl]
  show 0<=EU _ _/\EU _ _<=_/\_<=IF _ _/\IF _ _<=_
  unfold EU IF
  split<;>split<;>omega
 ·rw[decide_eq_false e];exact h0
theorem BFH{r:Rcd}{n:Nat}{t:Nat->Int}{s:Nat->Span}(hr:TruS r n t)(h:HolS n t s):∀k,k<n->HolS n t (fwdS r s k)
 |0,_=>h
 |k+1,hk=>by
  have ih:=BFH hr h k (by omega)
  have a:=ih k (by omega)
  have b:=hr.step k (by omega)
  have c:=hr.rise;have d:=hr.fall
  have e1:wr ((fwdS r s k k).lo-r.fall)=(fwdS r s k k).lo-r.fall:=ER (by omega) (by omega)
  have e2:wr ((fwdS r s k k).hi+r.rise)=(fwdS r s k k).hi+r.rise:=ER (by omega) (by omega)
  show HolS n t (narS _ _ _ _)
  rw[e1,e2]
  exact BIK ih hk (by omega) (by omega)
theorem BUZ{r:Rcd}{n:Nat}{t:Nat->Int}{s:Nat->Span}(hr:TruS r n t)(h:HolS n t s):∀k,k<n->HolS n t (bwS r n s k)
 |0,_=>h
 |k+1,hk=>by
  have ih:=BUZ hr h k (by omega)
  have a:=ih (n-1-k) (by omega)
  have b:=hr.step (n-2-k) (by omega)
  rw[show n-2-k+1=n-1-k by omega] at b
  have c:=hr.rise;have d:=hr.fall
  have e1:wr ((bwS r n s k (n-1-k)).lo-r.rise)=(bwS r n s k (n-1-k)).lo-r.rise:=ER (by omega) (by omega)
  have e2:wr ((bwS r n s k (n-1-k)).hi+r.fall)=(bwS r n s k (n-1-k)).hi+r.fall:=ER (by omega) (by omega)
  show HolS n t (narS _ _ _ _)
  rw[e1,e2]
  exact BIK ih (by omega) (by omega) (by omega)
theorem BHY{r:Rcd}{n:Nat}{t:Nat->Int}{s:Nat->Span}(hn:0<n)(hr:TruS r n t)(h:HolS n t s):HolS n t (Ve r n s):=
 BUZ hr (BFH hr h (n-1) (by omega)) (n-1) (by omega)
theorem BSL(s:Nat->Span)(k:Nat)(a b:Int)(j:Nat):(narS s k a b j).hi<=(s j).hi:=by
 unfold narS
 by_cases e:j=k
 ·subst e
  rw[decide_eq_true rfl]
  show IF _ _<=_
  unfold IF;split<;>omega
 ·rw[decide_eq_false e];exact Int.le_refl _
theorem BUH(r:Rcd)(s:Nat->Span):∀k j,(fwdS r s k j).hi<=(s j).hi
 |0,_=>Int.le_refl _
 |k+1,j=>Int.le_trans (BSL _ _ _ _ _) (BUH r s k j)
theorem CJC(r:Rcd)(n:Nat)(s:Nat->Span):∀k j,(bwS r n s k j).hi<=(s j).hi
 |0,_=>Int.le_refl _
 |k+1,j=>Int.le_trans (BSL _ _ _ _ _) (CJC r n s k j)
theorem CQB(r:Rcd)(n:Nat)(s:Nat->Span)(j:Nat):(Ve r n s j).hi<=(s j).hi:=Int.le_trans (CJC _ _ _ _ _) (BUH _ _ _ _)
theorem BZP{α:Type}(n:Nat)(f:Nat->α):HQ (n+1) f=HQ n f ++ [f n]:=by
 unfold HQ;rw[List.range_succ,List.map_append];rfl
theorem zY{f:Nat->Int}{c:Int}(hc:0<=c/\c<=1000000000):∀{n:Nat},n<=1000->(∀i,i<n->0<=f i/\f i<=c)->SC (HQ n f)=To f n
 |0,_,_=>rfl
 |n+1,hn,h=>by
  have ih:=zY hc (n:=n) (by omega) λi hi=>h i (by omega)
  have b:=Q3 (f:=f) (c:=c) (n:=n) λi hi=>h i (by omega)
  have b2:=h n (by omega)
  have m:(n:Int)*c<=1000*c:=Int.mul_le_mul_of_nonneg_right (by omega) hc.1
  rw[BZP]
  unfold SC at ih ⊢
  rw[List.foldl_append,ih]
  show wr (To f n+f n)=To f n+f n
  exact ER (by omega) (by omega)
structure Rgh where
 s:Int
 a:Int
 l:Int
 deriving Inhabited
structure RgOk(S:Int)(x:Rgh):Prop where
 s:0<=x.s/\x.s<S
 a:0<=x.a/\x.a<=1000000000
 l:0<=x.l/\x.l<=1000
def S7(l:List Rgh)(f:Int):Nat->Int
 |0=>f
 |k+1=>wr (S7 l f k-IF (gD l k).a (S7 l f k))
def srN(l:List Rgh)(f:Int)(k:Nat):Int:=IF (gD l k).a (S7 l f k)
def srX(l:List Rgh)(f:Int)(k:Nat):Int:=wr ((wr (srN l f k*wr (1000-(gD l k).l))).tdiv 1000)
def wS(l:List Rgh)(f:Int):Nat->Nat->Int
 |0=>λ_=>0
 |k+1=>λj=>bif decide (j=(gD l k).s.toNat) then wr (wS l f k j+srX l f k) else wS l f k j
structure RgsOk(S:Int)(l:List Rgh):Prop where
 n:l.length<=30
 s:1<=S/\S<=12
 ok:∀i,i<l.length->RgOk S (gD l i)
theorem AEZ(a b:Int):IF a b<=a/\IF a b<=b/\(IF a b=a∨IF a b=b):=by unfold IF;split<;>omega
theorem AIC{S:Int}{l:List Rgh}(h:RgsOk S l){f:Int}(hf:0<=f/\f<=1000000000):∀k,k<=l.length->0<=S7 l f k/\S7 l f k<=f
 |0,_=>⟨hf.1,Int.le_refl _⟩
 |k+1,hk=>by
  have ih:=AIC h hf k (by omega)
  have a:=(h.ok k (by omega)).a
  have m:=AEZ (gD l k).a (S7 l f k)
  have e:wr (S7 l f k-IF (gD l k).a (S7 l f k))=S7 l f k-IF (gD l k).a (S7 l f k):=ER (by omega) (by omega)
  show 0<=wr _/\wr _<=f
  rw[e];omega
theorem AJS{S:Int}{l:List Rgh}(h:RgsOk S l){f:Int}(hf:0<=f/\f<=1000000000){k:Nat}(hk:k<l.length):0<=srN l f k/\srN l f k<=S7 l f k/\S7 l f (k+1)=S7 l f k-srN l f k:=by
 have ih:=AIC h hf k (by omega)
 have a:=(h.ok k hk).a
 have m:=AEZ (gD l k).a (S7 l f k)
 have e:wr (S7 l f k-IF (gD l k).a (S7 l f k))=S7 l f k-IF (gD l k).a (S7 l f k):=ER (by omega) (by omega)
 refine⟨?_,?_,e⟩
 ·show 0<=IF _ _;omega
 ·show IF _ _<=_;omega
theorem ASA{S:Int}{l:List Rgh}(h:RgsOk S l){f:Int}(hf:0<=f/\f<=1000000000){k:Nat}(hk:k<l.length):srX l f k=srN l f k*(1000-(gD l k).l) / 1000/\0<=srX l f k/\srX l f k<=srN l f k:=by
 have a:=AJS h hf hk
 have b:=AIC h hf k (by omega)
 have c:=(h.ok k hk).l
 have e1:wr (1000-(gD l k).l)=1000-(gD l k).l:=ER (by omega) (by omega)
 have m0:0<=srN l f k*(1000-(gD l k).l):=Int.mul_nonneg a.1 (by omega)
 have m1:srN l f k*(1000-(gD l k).l)<=srN l f k*1000:=Int.mul_le_mul_of_nonneg_left (by omega) a.1
 have e2:wr (srN l f k*(1000-(gD l k).l))=srN l f k*(1000-(gD l k).l):=ER (by omega) (by omega)
 have e3:wr (srN l f k*(1000-(gD l k).l) / 1000)=srN l f k*(1000-(gD l k).l) / 1000:=ER (by omega) (by omega)
 unfold srX
 rw[e1,e2,Int.tdiv_eq_ediv_of_nonneg m0,e3]
 omega
theorem BVS{S:Int}{l:List Rgh}(h:RgsOk S l){f g:Int}(hf:0<=f)(hfg:f<=g)(hg:g<=1000000000):∀k,k<=l.length->S7 l f k<=S7 l g k
 |0,_=>hfg
 |k+1,hk=>by
  have ih:=BVS h hf hfg hg k (by omega)
  have a:=AJS h ⟨hf,by omega⟩ (show k<l.length by omega)
  have b:=AJS h ⟨by omega,hg⟩ (show k<l.length by omega)
  have m:=AEZ (gD l k).a (S7 l f k)
  have m':=AEZ (gD l k).a (S7 l g k)
  rw[a.2.2,b.2.2]
  show _-IF _ _<=_-IF _ _
  omega
theorem CAH{S:Int}{l:List Rgh}(h:RgsOk S l){f g:Int}(hf:0<=f)(hfg:f<=g)(hg:g<=1000000000){k:Nat}(hk:k<l.length):srX l f k<=srX l g k:=by
 have i:=BVS h hf hfg hg k (by omega)
 have m:=AEZ (gD l k).a (S7 l f k)
 have m':=AEZ (gD l k).a (S7 l g k)
 have hn:srN l f k<=srN l g k:=by show IF _ _<=IF _ _;omega
 have c:=(h.ok k hk).l
 have q:=Int.mul_le_mul_of_nonneg_right hn (show 0<=1000-(gD l k).l by omega)
 rw[(ASA h ⟨hf,by omega⟩ hk).1,(ASA h ⟨by omega,hg⟩ hk).1]
 omega
theorem BPT{S:Int}{l:List Rgh}(h:RgsOk S l){f:Int}(hf:0<=f/\f<=1000000000):∀k,k<=l.length->∀j,0<=wS l f k j/\wS l f k j<=f-S7 l f k
 |0,_,j=>by show (0:Int)<=0/\0<=f-f;omega
 |k+1,hk,j=>by
  have ih:=BPT h hf k (by omega) j
  have b:=AIC h hf k (by omega)
  have a:=AJS h hf (show k<l.length by omega)
  have x:=ASA h hf (show k<l.length by omega)
  have e:wr (wS l f k j+srX l f k)=wS l f k j+srX l f k:=ER (by omega) (by omega)
  show 0<=(bif decide _ then wr _ else _)/\(bif decide _ then wr _ else _)<=_
  rw[e,a.2.2]
  cases decide (j=(gD l k).s.toNat)
  ·show 0<=wS l f k j/\wS l f k j<=_;omega
  ·show 0<=wS l f k j+srX l f k/\wS l f k j+srX l f k<=_;omega
theorem ARJ{S:Int}{l:List Rgh}(h:RgsOk S l){f:Int}(hf:0<=f/\f<=1000000000){k:Nat}(hk:k<l.length)(j:Nat):wS l f (k+1) j=bif decide (j=(gD l k).s.toNat) then wS l f k j+srX l f k else wS l f k j:=by
 have ih:=BPT h hf k (by omega) j
 have b:=AIC h hf k (by omega)
 have a:=AJS h hf hk
 have x:=ASA h hf hk
 have e:wr (wS l f k j+srX l f k)=wS l f k j+srX l f k:=ER (by omega) (by omega)
 show (bif decide _ then wr _ else _)=_
 rw[e]
theorem ATG{S:Int}{l:List Rgh}(h:RgsOk S l){f g:Int}(hf:0<=f)(hfg:f<=g)(hg:g<=1000000000):∀k,k<=l.length->∀j,wS l f k j<=wS l g k j
 |0,_,j=>Int.le_refl _
 |k+1,hk,j=>by
  have ih:=ATG h hf hfg hg k (by omega) j
  have x:=CAH h hf hfg hg (show k<l.length by omega)
  rw[ARJ h ⟨hf,by omega⟩ (by omega),ARJ h ⟨by omega,hg⟩ (by omega)]
  cases decide (j=(gD l k).s.toNat)
  ·exact ih
  ·show _+_<=_+_;omega
theorem BSQ{S:Int}{l:List Rgh}(h:RgsOk S l){f:Int}(hf:0<=f/\f<=1000000000):∀k,k<=l.length->To (wS l f k) S.toNat<=f-S7 l f k
 |0,_=>by
  have:=Q3 (f:=wS l f 0) (c:=0) (n:=S.toNat) λi _=>⟨Int.le_refl _,Int.le_refl _⟩
  show _<=f-f
  have e:((S.toNat:Nat):Int)*0=0:=Int.mul_zero _
  omega
 |k+1,hk=>by
  have ih:=BSQ h hf k (by omega)
  have a:=AJS h hf (show k<l.length by omega)
  have x:=ASA h hf (show k<l.length by omega)
  have s:=(h.ok k (by omega)).s
  rw[AAB (g:=λj=>bif decide (j=(gD l k).s.toNat) then wS l f k j+srX l f k else wS l f k j) λi _=>ARJ h hf (by omega) i,BFO (by omega),a.2.2]
  omega
def eRgh(x:Rgh):DVal:=.agg [CF x.s,CF x.a,CF x.l]
def dRgh:DVal->Rgh
 | .agg [a,b,c]=>⟨DG a,DG b,DG c⟩
 |_=>default
theorem JD(x:Rgh):dRgh (eRgh x)=x:=rfl
theorem FM(a b c:Int):dRgh (.agg [CF a,CF b,CF c])=⟨a,b,c⟩:=rfl
theorem FK(x:Rgh):Rgh.mk x.s x.a x.l=x:=rfl
def eRgs(l:List Rgh):DVal:=lst 3 l.length λi=>eRgh (gD l i)
structure Cmp where
 s:Int
 l:List Rgh
theorem FL(x:Cmp):Cmp.mk x.s x.l=x:=rfl
def eCmp(x:Cmp):DVal:=.agg [CF x.s,eRgs x.l]
def cmB(x:Cmp):AObj:=.box [.int x.s,.d (eRgs x.l)]
def BTA(H:Heap)(id:Nat):Option Cmp:=match H id with
 | .live (.box [s,.d (.list _ n f _)])=>match s with
  | .d (.v (.int .i64 s))=>some ⟨s,HQ n λj=>dRgh (f j)⟩
  |_=>none
 |_=>none
structure Vl where
 k:Bool
 lo:Int
 hi:Int
 deriving Inhabited
def eVl(x:Vl):DVal:=.agg [AEP x.k,CF x.lo,CF x.hi]
def dVl:DVal->Vl
 | .agg [a,b,c]=>⟨CSJ a,DG b,DG c⟩
 |_=>default
theorem QZ(x:Vl):dVl (eVl x)=x:=rfl
theorem KA(a:Bool)(b c:Int):dVl (.agg [AEP a,CF b,CF c])=⟨a,b,c⟩:=rfl
theorem JV(x:Vl):Vl.mk x.k x.lo x.hi=x:=rfl
def eVls(l:List Vl):DVal:=lst 3 l.length λi=>eVl (gD l i)
structure Rec where
 r:Rcd
 l:List Vl
theorem OE(x:Rec):Rec.mk (Rcd.mk x.r.rise x.r.fall) x.l=x:=rfl
theorem OD(r:Rcd):Rcd.mk r.rise r.fall=r:=rfl
def eRec(x:Rec):DVal:=.agg [CF x.r.rise,CF x.r.fall,eVls x.l]
def C7:List AVal->Heap->Option (Rec×List (Nat×Nat)×List Nat)
 |[.d (.agg [.v (.int .i64 a),.v (.int .i64 b),.list _ n f _])],_=>some (⟨⟨a,b⟩,HQ n λj=>dVl (f j)⟩,[],[])
 |_,_=>none
end Go.Bal
