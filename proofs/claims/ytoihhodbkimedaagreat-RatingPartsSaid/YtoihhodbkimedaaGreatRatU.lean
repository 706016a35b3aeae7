/- Package rating: Rate, Knots. -/
import Derived.Test.YtoihhodbkimedaaGreatRatT
import Derived.Test.YtoihhodbkimedaaGreatRT2
set_option linter.unusedVariables false
set_option linter.unusedSimpArgs false
namespace Go.Bal
open Go Go.Sym Go.Proofs
def C_Rate:Ctr:={ C_few with val:=λ(g:List Gau)=>.tup [.d (eRtg (IP g).r),.int (IP g).e] }
def BXI(g:List Gau):Prop:=BQ Try.prog (ann 15 [(kC,C_few.spec WJ)]) BKE (AI BKE) (C_Rate.xs g) (AD []) (C_Rate.val g) [] [] []
theorem CIZ(g:List Gau):(BXI g)=(BJ (As (CE g) (BB g) (FN g)) (AY (Fr g) (Fr (BH g))) (BM (Fr g) (Fr (BH g))) (AR (XK g) (XK (BH g))) (AK (λi=>QE i (XK g) (uV g i) (uV (BH g) i))) (Uw g (Bh (BH g)))):=by kernel_rfl
def C_Knots:Ctr:={ C_few with val:=λ(g:List Gau)=>.tup [.d (eLL (IP g).k),.int (IP g).e] }
def BMI(g:List Gau):Prop:=BQ Try.prog (ann 15 [(kC,C_few.spec WJ)]) BAO (AI BAO) (C_Knots.xs g) (AD []) (C_Knots.val g) [] [] []
theorem BTN(g:List Gau):(BMI g)=(AN (As (CE g) (BB g) (FN g)) (AR (Ko g) (Ko (BH g))) (AK (λi=>QG i (Ko g) (IF (fL g) i) (IF (fL (BH g)) i))) (Uw g (Bh (BH g)))):=by kernel_rfl
theorem BMC:AJ Try.prog AWN (C_Rate.spec WJ):=VD C_Rate (λ_=>ann 15 [(kC,C_few.spec WJ)]) [] [] CIX (λ_=>by kernel_rfl) (λ_=>AC BUN AE) (λ(g:List Gau) h=>by
 show BXI g;rw[CIZ]<;> delta EE EC DP OV LY LW MN AO AR CG AK BV BZ CM CI EZ LZ FP TO ID RG AG GT GV AF AT AH CA CF BH AP BR AS AW DF DX CR GA IC AN RF EP GI AY yX JV HU GC II UU HG PF HY EM GH IH FE BJ BM EW FM FK CE BB FN Bh uV XK Fm Fr QE Uw As;simp only[CC,eq_self,implies_true,forall_const]
 exact (show g.length<1073741824/\True from h).1) (λ_=>WK rfl rfl) _
theorem BBJ:AJ Try.prog ALW (C_Knots.spec WJ):=VD C_Knots (λ_=>ann 15 [(kC,C_few.spec WJ)]) [] [] CCI (λ_=>by kernel_rfl) (λ_=>AC BUN AE) (λ(g:List Gau) h=>by
 show BMI g;rw[BTN]<;> delta EE EC DP AO AR CG AK BV BZ CM CI EZ LZ FP HF IF AG GT GV AT AH CA CF BH AP BR AS AW DF DX CR GA IC AN EP GI AY HU XY GC II HG HY EM GH IH FE EW FM FK CE fL BB FN Bh QG Ko Uw As;simp only[CC,eq_self,implies_true,forall_const]
 exact (show g.length<1073741824/\True from h).1) (λ_=>WK rfl rfl) _
end Go.Bal

namespace Go.Bal
open Go Go.Sym Go.Proofs
def mX(a b:Int):List Gau:=[⟨100,10,12⟩,⟨200,30,32⟩,⟨300,a,b⟩]
def BLW:=pD dI2 λx=>.d (BX (mX x.a x.b))
def BKG:Ann:={ ann 14 [] with md:=λid=>if id=1 then some (λk=>if k=8 then 4 else 0) else none }
def BOT(x:I2):Prop:=BQ Try.prog BKG AYM (AI AYM) (xI2 x) (AD []) (.d (BX (mX x.a x.b))) [] [] []
theorem BYZ(x:I2):(BOT x)=((mX x.a x.b).length=3/\∀(i:Nat),i<(mX x.a x.b).length->((gD (mX x.a x.b) i).st=bif decide (i=0) then 100 else bif decide (i-1=0) then 200 else 300)
 /\ ((gD (mX x.a x.b) i).lo=bif decide (i=0) then 10 else bif decide (i-1=0) then 30 else x.a)/\(gD (mX x.a x.b) i).hi=bif decide (i=0) then 12 else bif decide (i-1=0) then 32 else x.b):=by
 kernel_rfl
def BVT:=pD dI2 λx=>.d (eRt ⟨x.a,x.b⟩)
def BWP(x:I2):Prop:=BQ Try.prog (ann 8 []) P9 (AI P9) (xI2 x) (AD []) (.d (eRt ⟨x.a,x.b⟩)) [] [] []
theorem CED(x:I2):(BWP x)=(Zu x (aU x)):=by kernel_rfl
theorem BYR:AJ Try.prog AVW BLW:=UX xI2 hI2 λx _=>Mn (A:=BKG) (ren:=[]) (fz:=[]) BUV (by kernel_rfl) AE (by
 show BOT x;rw[BYZ]
 refine⟨rfl,λi hi=>?_⟩
 match i,hi with
 |0,_=>exact⟨rfl,rfl,rfl⟩
 |1,_=>exact⟨rfl,rfl,rfl⟩
 |2,_=>exact⟨rfl,rfl,rfl⟩)
theorem CII:AJ Try.prog S7 BVT:=UX xI2 hI2 λx _=>Mn (A:=ann 8 []) (ren:=[]) (fz:=[]) BCJ (by kernel_rfl) AE (by
 show BWP x;rw[CED]<;> delta Gg Rn AO AM aU Zu;exact⟨rfl,rfl⟩)
end Go.Bal

namespace Go.Bal
open Go Go.Sym Go.Proofs
def BPR:Ann:={ ann 178 [(AVW,BLW),(AWN,C_Rate.spec WJ),(ALW,C_Knots.spec WJ),(AWQ,C_Knot.spec dGK),(BIJ,C_Flow.spec dGBt),(ASJ,C_Stages.spec dGBf),(BSR,C_Dry.spec dGB),(S7,BVT)] with md:=λid=>if id=4 then some (λk=>if k=1 then 4 else 0) else if id=5 then some (λk=>if k=4 then 4 else if k=5 then 4 else 0) else none }
def BKM(n:Nat):Prop:=BQ Try.prog BPR AXM (AI AXM) [] (AD []) (.bool true) [] [] []
abbrev Aw a b:=Fh a JG b
abbrev Xx a b:=AT a 3 b
abbrev zB a b c d e f:=FE a b c d e f e
abbrev VQ:=mX 50 52
abbrev Xr:=BH VQ
abbrev Xd:=mX 60 62
abbrev pS:=BH Xd
abbrev dI a b:=QR a 0 b
abbrev gC a:=EF a 1
attribute [go_sem] Aw Xx zB VQ Xr Xd pS dI gC
theorem BUU(n:Nat):(BKM n)=(QP VL (AK (λi=>Xx i (zB (HU VQ i) (AH VQ i) Xr i VQ i))) (II 3) (Vr (As VL (AK (λi=>Xx i (zB (HU Xd i) (AH Xd i) pS i Xd i))) (II 3)) (And VL (cP (AK (λi=>Xx i (zB (HU Xd i) (AH Xd i) pS i Xd i))) VL (AK (λi=>Xx i (GI (NK 3 (λj=>dI j (QR (gC j) 1 2))) i (dI i (QR (gC i) 1 2))))) (II 3))) (And QI (cP (AK (λi=>APL i (ZZ (AH (LZ 2 (λj=>Gau.mk (QR j 100 200) (QR j 10 5) (QR j 12 8))) i) (QR i 100 200) (LZ 2 (λj=>Gau.mk (QR j 100 200) (QR j 10 5) (QR j 12 8))) i (QR i 10 5) i (QR i 12 8)))) QI (AK (λi=>Lr i (NK 2 (λj=>dI j 1)) i (dI i 1))) (II 2))) (Aw (MS (TZ (TZ (TZ (TZ (TZ (FI (Bh Xr)) (FI (Bh pS)) (FI (Sk (cG Xd (NK 3 (λi=>dI i (QR (gC i) 1 2))))))) (FI (Sk (GK.mk (LZ 2 (λi=>Gau.mk (QR i 100 200) (QR i 10 5) (QR i 12 8))) (NK 2 (λi=>dI i 1))))) (FI (Bh pS))) (WI (AQ (XK Xr)) 1) (FI (EK (Fr Xr)))) (WI (AQ (Ko pS)) 1) (not (Sq (cG Xd (NK 3 (λi=>dI i (QR (gC i) 1 2))))))) (not (Sq (GK.mk (LZ 2 (λi=>Gau.mk (QR i 100 200) (QR i 10 5) (QR i 12 8))) (NK 2 (λi=>dI i 1))))) (WI (AQ (XK pS)) 2)) (WI (EK (Fr pS)) 1)) (BJ (Ji VL (λi=>Xx i (zB (HU VQ i) (AH VQ i) Xr i VQ i)) (Xb AL (RH 400) (And (JS 3) nB) FP)) (Ji VL (λi=>Xx i (zB (HU VQ i) (AH VQ i) Xr i VQ i)) (Xb AL (RH 150) (And (JS 3) nB) FP)) (Ji VL (λi=>Xx i (zB (HU VQ i) (AH VQ i) Xr i VQ i)) (Xb AL (RH 50) (And (JS 3) nB) FP)) (Ji VL (λi=>Xx i (zB (HU VQ i) (AH VQ i) Xr i VQ i)) (Xb AL (RH 40) (And (JS 3) nB) FP)) (And VL (rL (AK (λi=>Xx i (zB (HU VQ i) (AH VQ i) Xr i VQ i))) AL (And (JS 3) nB) FP)) MC)))):=by kernel_rfl
def BPI:List AVal->Option (AVal×List Prop)
 |[]=>some (.bool true,[])
 |_=>none
def BPQ:Sym.Spec:=ABA BPI
theorem CHE:BKM 0:=by
 rw[BUU]<;> delta JT qD XL EE EC DP WI JG CS AO AR CG AK BV BZ CM AQ EF NK UM CI EZ LZ FP TO ID XS Sq Sk HF AG GT GV AF AT AH CA BH AM BL JM Vr Xb cP rL AP AS DX CR AN AL EP GI yX JV HU II EK Ab RH ZZ EM FE BJ zB MW MS cG JS fL LC DY FI TZ QR MC VQ QI Bh Fh XK VL Xd Fr QP Ko Aw APL Xr Lr Ji pS Xx nB gC dI As;simp only[CC,eq_self,implies_true,forall_const]
 decide +kernel
theorem CAD:AJ Try.prog AYS BPQ:=AKB λxs v p h _=>by
 unfold BPI at h;split at h
 ·cases h;exact Mn (A:=BPR) (ren:=[]) (fz:=[]) BWI (by kernel_rfl) (AC BYR (AC BMC (AC BBJ (AC BLP (AC CGX (AC BQI (AC COJ (AC CII AE)))))))) CHE
 ·cases h
end Go.Bal

namespace Go.Bal
open Go Go.Sym Go.Proofs
def ptK(b:List Int)(t:Int):Nat->Nat->Nat
 |0,k=>k
 |n+1,k=>bif decide (gD b k<=t) then ptK b t n (k+1) else k
def ptM(b:List Int)(t:Int):Nat:=ptK b t b.length 0
theorem BZE{b:List Int}{t:Int}:∀(n k:Nat),k<=ptK b t n k/\ptK b t n k<=k+n
 |0,k=>⟨Nat.le_refl _,Nat.le_refl _⟩
 |n+1,k=>by
  unfold ptK
  cases decide (gD b k<=t)
  ·exact⟨Nat.le_refl _,by show k<=_;omega⟩
  ·have:=BZE (b:=b) (t:=t) n (k+1);show k<=ptK b t n (k+1)/\ptK b t n (k+1)<=_;omega
structure Fits(l:List Gau)(r:Rtg):Prop where
 len:1<=l.length
 ok:∀g∈l,RK g
 small:∀g∈l,g.st<=199/\g.hi<=2000
 asc:asc r.b
 brk:∀x∈r.b,1<=x/\x<=120
 two:r.b.length<=2
 lines:r.l.length=r.b.length+1
 rise:∀x∈r.l,PJ x
 pass:∀g∈l,(RA (gD r.l (Et r.b g.st))).pass g
theorem ASI{b:List Int}{t:Int}:∀(n k:Nat),(∀j,k<=j->j<ptK b t n k->gD b j<=t)/\(ptK b t n k<k+n->¬gD b (ptK b t n k)<=t)
 |0,k=>⟨λj h1 h2=>by have:j<k:=h2;omega,λh=>by have:k<k+0:=h;omega⟩
 |n+1,k=>by
  unfold ptK
  by_cases hc:gD b k<=t
  ·rw[decide_eq_true hc]
   obtain⟨h1,h2⟩:=ASI (b:=b) (t:=t) n (k+1)
   refine⟨λj a1 a2=>?_,λh=>h2 (by show ptK b t n (k+1)<_;have:ptK b t n (k+1)<k+(n+1):=h;omega)⟩
   by_cases hj:j=k
   ·rw[hj];exact hc
   ·exact h1 j (by omega) a2
  ·rw[decide_eq_false hc]
   exact⟨λj a1 a2=>by have:j<k:=a2;omega,λ_=>hc⟩
theorem CNJ{b:List Int}{t:Int}(hb:asc b):ptM b t=Et b t:=by
 obtain⟨h1,h2⟩:=ASI (b:=b) (t:=t) b.length 0
 have hle:=BZE (b:=b) (t:=t) b.length 0
 symm
 unfold Et ptM
 refine iK (by omega) (λj hj=>decide_eq_true (h1 j (Nat.zero_le _) hj)) (λj hj hj2=>decide_eq_false ?_)
 have h3:=h2 (by omega)
 intro hc
 by_cases he:ptK b t b.length 0=j
 ·exact h3 (he ▸ hc)
 ·have:=Qf hb (show ptK b t b.length 0<j by omega) hj2
  omega
end Go.Bal

namespace Go.Bal
open Go Go.Sym Go.Proofs
theorem BDL:∀(l:List Int) (x:Int),0<=x/\x<=2000->asc l->(∀y∈l,x<y/\y<=2000)->brk x l=0
 |[],_,_,_,_=>rfl
 |z :: l,x,hx,ha,h=>by
  have hz:=h z (List.mem_cons_self ..)
  obtain⟨h1,h2⟩:=List.pairwise_cons.1 ha
  unfold brk
  have:QY z (wr (x+1)) 2000=true:=by
   unfold QY wr
   rw[JH (n:=x+1) (by omega) (by omega)]
   simp only[Bool.and_eq_true,decide_eq_true_eq];omega
  rw[this]
  exact BDL l z (by omega) h2 (λy hy=>⟨h1 y hy,(h y (List.mem_cons_of_mem _ hy)).2⟩)
theorem BJU{l:List Gau}(h:1<=l.length/\l.length<=24)(ho:∀g∈l,RK g):AV l=0:=by
 unfold AV
 have e1:QY l.length 1 24=true:=by unfold QY;simp only[Bool.and_eq_true,decide_eq_true_eq];omega
 have e2:l.all riG=true:=List.all_eq_true.2 λg hg=>by
  obtain⟨h1,h2,h3,h4,h5⟩:=ho g hg
  unfold riG QY;simp only[Bool.and_eq_true,decide_eq_true_eq];omega
 rw[e1,e2];rfl
theorem BMQ{b:List Int}(h1:asc b)(h2:∀x∈b,1<=x/\x<=2000)(h3:b.length<=24):RM b=0:=by
 unfold RM
 rw[if_neg (by omega)]
 exact BDL b 0 (by omega) h1 (λy hy=>by have:=h2 y hy;omega)
theorem BRO{l:List Gau}{b:List Int}(h:1<=l.length/\l.length<=24)(ho:∀g∈l,RK g)(h1:asc b)(h2:∀x∈b,1<=x/\x<=2000)(h3:b.length<=24):EG ⟨l,b⟩=0:=by
 unfold EG
 rw[BJU h ho]
 exact BMQ h1 h2 h3
def PH(l:List Gau)(b:List Int)(k:Int):List Gau:=Ja (PB ⟨l,b⟩) k
theorem Lw{l:List Gau}{b:List Int}{k:Int}{g:Gau}:g∈PH l b k↔g∈l/\(Et b g.st:Int)=k:=by
 unfold PH Ja PB
 rw[List.mem_filter,beq_iff_eq]
theorem xM{l:List Gau}{b:List Int}{k:Int}(ho:∀g∈l,RK g):∀g∈PH l b k,RK g:=λg hg=>ho g (Lw.1 hg).1
theorem AYR(b:List Int)(t:Int):Et b t<=b.length:=List.countP_le_length
structure Thru(l:List Gau)(b:List Int):Prop where
 len:1<=l.length/\l.length<=24
 ok:∀g∈l,RK g
 asc:asc b
 brk:∀x∈b,1<=x/\x<=2000
 few:b.length<=24
 thru:∀k:Nat,k<=b.length->∃x,PJ x/\(RA x).passes (PH l b k)
theorem Fits.thru{l:List Gau}{r:Rtg}(h:Fits l r)(h2:l.length<=24):Thru l r.b:=⟨⟨h.len,h2⟩,h.ok,h.asc,λx hx=>by have:=h.brk x hx;omega,by have:=h.two;omega,λk hk=>⟨gD r.l k,h.rise _ (CV (by rw[h.lines];omega)),λg hg=>by
 obtain⟨h3,h4⟩:=Lw.1 hg
 have:=h.pass g h3
 rw[show Et r.b g.st=k by omega] at this;exact this⟩⟩
theorem Thru.open{l:List Gau}{b:List Int}(h:Thru l b):EG ⟨l,b⟩=0:=BRO h.len h.ok h.asc h.brk h.few
theorem Thru.bk{l:List Gau}{b:List Int}(h:Thru l b):ZV l b:=xY h.open
theorem Thru.ne{l:List Gau}{b:List Int}(h:Thru l b){k:Nat}(hk:k<=b.length){t:Int}(ht:0<=t/\t<=2000):VP (PH l b k) t≠[]:=by
 obtain⟨x,h1,h2⟩:=h.thru k hk
 exact AXY (xM h.ok) ht (MM h1) h2
theorem Thru.in{l:List Gau}{b:List Int}(h:Thru l b){k:Nat}(hk:k<=b.length){t:Int}(ht:0<=t/\t<=2000):okR (wO (PH l b k) t).lo/\okR (wO (PH l b k) t).hi/\Mq (wO (PH l b k) t).lo (wO (PH l b k) t).hi:=CQE (xM h.ok) ht (h.ne hk ht)
theorem ARX{pr:Int->Bool}:∀(n:Nat) (lo hi:Int),lo<=hi->(hi-lo).toNat<=n->(∀m m':Int,lo<m->m<=m'->m'<=hi->pr m'=true->pr m=true)->(∀m,lo<m->m<=upL pr n lo hi->pr m=true)/\∀m,upL pr n lo hi<m->m<=hi->pr m=false
 |0,lo,hi,h,hn,_=>⟨λm h1 h2=>by have:m<=lo:=h2;omega,λm h1 h2=>by have:lo<m:=h1;omega⟩
 |n+1,lo,hi,h,hn,hm=>by
  unfold upL
  by_cases hl:lo<hi
  ·obtain⟨h3,h4⟩:=O8 hl
   rw[decide_eq_true hl]
   generalize hM:lo+(hi-lo+1).tdiv 2=M at *
   cases hp:pr M with
   |true=>
    obtain⟨r1,r2⟩:=ARX n M hi h4 (by omega) (λm m' a b c d=>hm m m' (by omega) b c d)
    refine⟨λm a1 a2=>?_,r2⟩
    by_cases hc:m<=M
    ·exact hm m M a1 hc h4 hp
    ·exact r1 m (by omega) a2
   |false=>
    obtain⟨r1,r2⟩:=ARX n lo (M-1) (by omega) (by omega) (λm m' a b c d=>hm m m' a b (by omega) d)
    refine⟨r1,λm a1 a2=>?_⟩
    by_cases hc:m<=M-1
    ·exact r2 m a1 hc
    ·cases hq:pr m with
     |false=>rfl
     |true=>
      have:=hm M m h3 (by omega) a2 hq
      rw[this] at hp;cases hp
  ·rw[decide_eq_false hl]
   exact⟨λm h1 h2=>by have:m<=lo:=h2;omega,λm h1 h2=>by have:lo<m:=h1;omega⟩
def qR(q:Int):Rt:=⟨q,1⟩
theorem CLW{q:Int}(h:0<=q/\q<=200000):okR (qR q):=⟨⟨Int.one_pos,by show (1:Int)<=2000;omega⟩,h.1,by show q<=200000*1;omega⟩
def qX(b:List Int)(k:Nat):Span:=EN (PB ⟨[],b⟩) k
theorem Thru.span{l:List Gau}{b:List Int}(h:Thru l b){k:Nat}(hk:k<=b.length):0<=(qX b k).lo/\(qX b k).lo<=(qX b k).hi/\(qX b k).hi<=2000/\∀m:Int,(qX b k).lo<=m->m<=(qX b k).hi->Et b m=k:=by
 obtain⟨h1,h2,h3,h4⟩:=mH (w:=PB ⟨l,b⟩) (k:=k) h.bk (by omega) (Int.ofNat_le.2 hk)
 exact⟨h1,h2,h3,λm a c=>Int.ofNat.inj (h4 m a c)⟩
theorem Thru.up{l:List Gau}{b:List Int}(h:Thru l b){q:Int}(hq:0<=q/\q<=200000){k:Nat}(hk:k<=b.length)(v:BnF->Bool)(c:Bnd->Prop)(hv:∀t,(qX b k).lo<=t->t<=(qX b k).hi->(v ⟨wO (PH l b k) t,qR q⟩=true↔c (wO (PH l b k) t)))(hm:∀t u,(qX b k).lo<=t->t<=u->u<=(qX b k).hi->c (wO (PH l b k) u)->c (wO (PH l b k) t)):((qX b k).lo-1<=upM v ⟨PB ⟨l,b⟩,k,qR q⟩/\upM v ⟨PB ⟨l,b⟩,k,qR q⟩<=(qX b k).hi)/\(∀t,(qX b k).lo<=t->t<=upM v ⟨PB ⟨l,b⟩,k,qR q⟩->c (wO (PH l b k) t))/\∀t,upM v ⟨PB ⟨l,b⟩,k,qR q⟩<t->t<=(qX b k).hi->¬c (wO (PH l b k) t):=by
 obtain⟨s1,s2,s3,s4⟩:=h.span hk
 have hi:=BWR (v:=v) (a:=⟨PB ⟨l,b⟩,k,qR q⟩) h.bk (Int.natCast_nonneg _) (Int.ofNat_le.2 hk)
 have hp:∀t,(qX b k).lo<=t->t<=(qX b k).hi->(upP v ⟨PB ⟨l,b⟩,k,qR q⟩ t=true↔c (wO (PH l b k) t)):=λt a d=>by
  have e:upP v ⟨PB ⟨l,b⟩,k,qR q⟩ t=v ⟨wO (PH l b (Et b t)) t,qR q⟩:=rfl
  rw[e,s4 t a d];exact hv t a d
 have hs:=ARX (pr:=upP v ⟨PB ⟨l,b⟩,k,qR q⟩) 3000 ((qX b k).lo-1) (qX b k).hi (by omega) (by omega) (λm m' a d e f=>(hp m (by omega) (by omega)).2 (hm m m' (by omega) d e ((hp m' (by omega) e).1 f)))
 have ho:upM v ⟨PB ⟨l,b⟩,k,qR q⟩=upL (upP v ⟨PB ⟨l,b⟩,k,qR q⟩) 3000 ((qX b k).lo-1) (qX b k).hi:=rfl
 rw[<-ho] at hs
 have i1:(qX b k).lo-1<=upM v ⟨PB ⟨l,b⟩,k,qR q⟩:=hi.1
 have i2:upM v ⟨PB ⟨l,b⟩,k,qR q⟩<=(qX b k).hi:=hi.2.1
 refine⟨⟨i1,i2⟩,λt a d=>(hp t a (by omega)).1 (hs.1 t (by omega) d),λt a d hc=>?_⟩
 have:=hs.2 t a d
 rw[(hp t (by omega) d).2 hc] at this;cases this
theorem BRL{a b:Rt}:¬Mq a b↔b.n*a.d<a.n*b.d:=by unfold Mq;omega
theorem Thru.first{l:List Gau}{b:List Int}(h:Thru l b){q:Int}(hq:0<=q/\q<=200000){k:Nat}(hk:k<=b.length):((qX b k).lo<=stF ⟨⟨l,b⟩,q⟩ k/\stF ⟨⟨l,b⟩,q⟩ k<=(qX b k).hi+1)/\(∀t,(qX b k).lo<=t->t<stF ⟨⟨l,b⟩,q⟩ k->¬Mq (qR q) (wO (PH l b k) t).hi)/\∀t,stF ⟨⟨l,b⟩,q⟩ k<=t->t<=(qX b k).hi->Mq (qR q) (wO (PH l b k) t).hi:=by
 obtain⟨s1,s2,s3,s4⟩:=h.span hk
 have oq:=CLW hq
 obtain⟨⟨r0,r1⟩,r2,r3⟩:=h.up hq hk yS (λB=>¬Mq (qR q) B.hi) (λt a d=>by
  have:=(h.in hk (t:=t) (by omega)).2.1
  unfold yS;rw[decide_eq_true_eq,AWG this oq,BRL]) (λt u a d e hc h2=>hc (by
  have h1:=(h.in hk (t:=t) (by omega)).2.1
  have h3:=(h.in hk (t:=u) (by omega)).2.1
  have:=(BFJ (xM h.ok) (show 0<=t by omega) d (by omega) (h.ne hk (t:=t) (by omega))).2
  exact NE (Int.le_of_lt oq.1.1) h1.1.1 (Int.le_of_lt h3.1.1) h2 this))
 have e:stF ⟨⟨l,b⟩,q⟩ k=upM yS ⟨PB ⟨l,b⟩,k,qR q⟩+1:=rfl
 rw[e]
 exact⟨⟨by omega,by omega⟩,λt a d=>r2 t a (by omega),λt a d=>Classical.byContradiction λhc=>r3 t (by omega) d hc⟩
theorem Thru.last{l:List Gau}{b:List Int}(h:Thru l b){q:Int}(hq:0<=q/\q<=200000){k:Nat}(hk:k<=b.length):((qX b k).lo-1<=stL ⟨⟨l,b⟩,q⟩ k/\stL ⟨⟨l,b⟩,q⟩ k<=(qX b k).hi)/\(∀t,(qX b k).lo<=t->t<=stL ⟨⟨l,b⟩,q⟩ k->Mq (wO (PH l b k) t).lo (qR q))/\∀t,stL ⟨⟨l,b⟩,q⟩ k<t->t<=(qX b k).hi->¬Mq (wO (PH l b k) t).lo (qR q):=by
 obtain⟨s1,s2,s3,s4⟩:=h.span hk
 have oq:=CLW hq
 exact h.up hq hk st2 (λB=>Mq B.lo (qR q)) (λt a d=>by
  have:=(h.in hk (t:=t) (by omega)).1
  unfold st2;rw[decide_eq_true_eq]
  show uO (wO (PH l b k) t).lo (qR q)<=0↔_
  have:=AYQ this oq
  unfold Mq;omega) (λt u a d e hc=>by
  have h1:=(h.in hk (t:=t) (by omega)).1
  have h3:=(h.in hk (t:=u) (by omega)).1
  have:=(BFJ (xM h.ok) (show 0<=t by omega) d (by omega) (h.ne hk (t:=t) (by omega))).1
  exact NE (Int.le_of_lt h1.1.1) h3.1.1 (Int.le_of_lt oq.1.1) this hc)
theorem BWX(b:List Int)(k:Nat):(qX b k).lo=if 0<k then gD b (k-1) else 0:=by
 show (bif decide ((k:Int)>0) then gD b ((k:Int)-1).toNat else 0)=_
 by_cases h0:0<k
 ·rw[decide_eq_true (show (k:Int)>0 by omega),if_pos h0,show ((k:Int)-1).toNat=k-1 by omega];rfl
 ·rw[decide_eq_false (show ¬(k:Int)>0 by omega),if_neg h0];rfl
theorem BSP{b:List Int}(hb:∀x∈b,1<=x/\x<=2000)(k:Nat):(qX b k).hi=if k<b.length then gD b k-1 else 2000:=by
 show (bif decide ((k:Int)<b.length) then wr (gD b (k:Int).toNat-1) else 2000)=_
 by_cases h0:k<b.length
 ·have:=hb _ (CV h0)
  rw[decide_eq_true (show (k:Int)<b.length by omega),if_pos h0,Int.toNat_natCast]
  unfold wr;rw[JH (by omega) (by omega)];rfl
 ·rw[decide_eq_false (show ¬(k:Int)<b.length by omega),if_neg h0];rfl
theorem COA{b:List Int}{t:Int}(hb:asc b):(∀j,j<Et b t->gD b j<=t)/\∀j,Et b t<=j->j<b.length->t<gD b j:=by
 have h:=ASI (b:=b) (t:=t) b.length 0
 have e:ptK b t b.length 0=Et b t:=CNJ hb
 rw[e] at h
 refine⟨λj hj=>h.1 j (Nat.zero_le _) hj,λj hj hj2=>?_⟩
 have h3:=h.2 (by omega)
 by_cases he:Et b t=j
 ·rw[he] at h3;omega
 ·have:=Qf hb (show Et b t<j by omega) hj2;omega
theorem Thru.at{l:List Gau}{b:List Int}(h:Thru l b){t:Int}(ht:0<=t/\t<=2000):(qX b (Et b t)).lo<=t/\t<=(qX b (Et b t)).hi:=by
 obtain⟨h1,h2⟩:=COA (t:=t) h.asc
 rw[BWX,BSP h.brk]
 constructor
 ·split
  ·exact h1 _ (by omega)
  ·exact ht.1
 ·split
  ·rename_i hl
   have:=h2 _ (Nat.le_refl _) hl;omega
  ·exact ht.2
theorem Thru.next{l:List Gau}{b:List Int}(h:Thru l b){i j:Nat}(hij:i<j)(hj:j<=b.length):(qX b i).hi<(qX b j).lo:=by
 rw[BWX,BSP h.brk,if_pos (by omega),if_pos (by omega)]
 by_cases he:i=j-1
 ·rw[he];omega
 ·have:=Qf h.asc (show i<j-1 by omega) (by omega);omega
end Go.Bal
