/- Package rating: Rate, Knots. -/
import Derived.Test.YtpidmmilfdcepaaGreatRatT
set_option linter.unusedVariables false
set_option linter.unusedSimpArgs false
namespace Go.Bal
open Go Go.Sym Go.Proofs
def C_Rate:Ctr:={ C_few with val:=λ(g:List Gau)=>.tup [.d (eRtg (FT g).r),.int (FT g).e] }
def BWR(g:List Gau):Prop:=AS ZP (ann 15 [(73,C_few.spec NU)]) Tryz.f31 (AE Tryz.f31) (C_Rate.xs g) (AB []) (C_Rate.val g) [] [] []
abbrev N4 a:=IN (gSm (CG a))
attribute [go_sem] N4
theorem CJW(g:List Gau):(BWR g)=(AW (BD (AY g) (BJ g) (HV g) (N4 g)) (Dq (gU g) (R8 (CG g))) (Cq (gU g) (R8 (CG g))) (DU (Kb g) (Kb (CG g))) (AG (λi=>dB i (Kb g) (Cx g i) (MG (Cx (CG g) i)) (tU (QT (Cx g i)) (QT (Cx (CG g) i)) (Cx g i) (Cx (CG g) i) (SJ (Cx g i)) (SJ (Cx (CG g) i))))) (BM (Hg g) (Hg (CG g)))):=by kernel_rfl
def C_Knots:Ctr:={ C_few with val:=λ(g:List Gau)=>.tup [.d (eLL (FT g).k),.int (FT g).e] }
def BOM(g:List Gau):Prop:=AS ZP (ann 15 [(73,C_few.spec NU)]) Tryz.f33 (AE Tryz.f33) (C_Knots.xs g) (AB []) (C_Knots.val g) [] [] []
abbrev Mv a b c d e f:=ANR a b c d (KJ e f)
attribute [go_sem] Mv
theorem CAP(g:List Gau):(BOM g)=(BD (BD (AY g) (BJ g) (HV g) (N4 g)) (DU (eF g) (eF (CG g))) (AG (λi=>Mv i (eF g) (AEN g) i (AEN (CG g)) i)) (BM (Hg g) (Hg (CG g)))):=by kernel_rfl
theorem BSC:AH ZP 31 (C_Rate.spec NU):=PW C_Rate (λ_=>ann 15 [(73,C_few.spec NU)]) [] [] Tryz.func31 (λ_=>by kernel_rfl) (λ_=>AA CCE AD) (λ(g:List Gau) h=>by
 show BWR g;rw[CJW]<;> dsimp only[go_sem];simp only[CC,CU]
 exact (show g.length<1073741824/\gSm g=true from h)) (λ_=>RA rfl rfl) _
theorem BFX:AH ZP 33 (C_Knots.spec NU):=PW C_Knots (λ_=>ann 15 [(73,C_few.spec NU)]) [] [] Tryz.func33 (λ_=>by kernel_rfl) (λ_=>AA CCE AD) (λ(g:List Gau) h=>by
 show BOM g;rw[CAP]<;> dsimp only[go_sem];simp only[CC,CU]
 exact (show g.length<1073741824/\gSm g=true from h)) (λ_=>RA rfl rfl) _
def FQ(a b:Int):List Gau:=[⟨100,10,12⟩,⟨200,30,32⟩,⟨300,a,b⟩]
def BRN:=pD dI2 λx=>.d (AT (FQ x.a x.b))
def BSY:Ann:={ ann 14 [] with md:=λid=>if id=1 then some (λk=>if k=8 then 4 else 0) else none }
def BQY(x:I2):Prop:=AS ZP BSY Tryz.f4 (AE Tryz.f4) (xI2 x) (AB []) (.d (AT (FQ x.a x.b))) [] [] []
theorem BWA(x:I2):(BQY x)=((FQ x.a x.b).length=3/\∀(i:Nat),i<(FQ x.a x.b).length->((gD (FQ x.a x.b) i).st=bif decide (i=0) then 100 else bif decide (i-1=0) then 200 else 300)
 /\ ((gD (FQ x.a x.b) i).lo=bif decide (i=0) then 10 else bif decide (i-1=0) then 30 else x.a)/\(gD (FQ x.a x.b) i).hi=bif decide (i=0) then 12 else bif decide (i-1=0) then 32 else x.b):=by
 kernel_rfl
def BZR:=pD dI2 λx=>.d (G2 ⟨x.a,x.b⟩)
def CGM(x:I2):Prop:=AS ZP (ann 8 []) Tryz.f55 (AE Tryz.f55) (xI2 x) (AB []) (.d (G2 ⟨x.a,x.b⟩)) [] [] []
theorem CKD(x:I2):(CGM x)=(wW x (yE x)):=by kernel_rfl
theorem CEU:AH ZP 4 BRN:=OG xI2 hI2 λx _=>WP (A:=BSY) (ren:=[]) (fz:=[]) Tryz.func4 (by kernel_rfl) AD (by
 show BQY x;rw[BWA]
 refine⟨rfl,λi hi=>?_⟩
 match i,hi with
 |0,_=>exact⟨rfl,rfl,rfl⟩
 |1,_=>exact⟨rfl,rfl,rfl⟩
 |2,_=>exact⟨rfl,rfl,rfl⟩)
theorem CLE:AH ZP 55 BZR:=OG xI2 hI2 λx _=>WP (A:=ann 8 []) (ren:=[]) (fz:=[]) Tryz.func55 (by kernel_rfl) AD (by
 show CGM x;rw[CKD]<;> dsimp only[go_sem];exact⟨rfl,rfl⟩)
def BRJ:Ann:={ ann 178 [(4,BRN),(31,C_Rate.spec NU),(33,C_Knots.spec NU),(35,C_Knot.spec dGK),(39,C_Flow.spec G7),(43,C_Stages.spec dGBf),(45,C_Dry.spec dGB),(55,BZR)] with md:=λid=>if id=4 then some (λk=>if k=1 then 4 else 0) else if id=5 then some (λk=>if k=4 then 4 else if k=5 then 4 else 0) else none }
def BPM(n:Nat):Prop:=AS ZP BRJ Tryz.f11 (AE Tryz.f11) [] (AB []) (.bool true) [] [] []
abbrev XO:Prop:=(3:Nat)=(3:Nat)
abbrev z_awake_1:List Gau:=FQ (50:Int) (52:Int)
abbrev iT(i:Nat):Gau:=gD z_awake_1 i
abbrev B9(i:Nat):Gau:=gD (HA z_awake_1.length λ(i:Nat)=>iT i) i
abbrev Nv:Prop:=∀(i:Nat),i<(3:Nat)->(B9 i).st=(iT i).st/\(B9 i).lo=(iT i).lo/\(B9 i).hi=(iT i).hi
abbrev A6:Prop:=(3:Nat)<(1073741824:Nat)
abbrev AGX:Prop:=A6/\true=true
abbrev z_awake_7:List Gau:=FQ (60:Int) (62:Int)
abbrev jN(i:Nat):Gau:=gD z_awake_7 i
abbrev E0(i:Nat):Gau:=gD (HA z_awake_7.length λ(i:Nat)=>jN i) i
abbrev V2:Prop:=∀(i:Nat),i<(3:Nat)->(E0 i).st=(jN i).st/\(E0 i).lo=(jN i).lo/\(E0 i).hi=(jN i).hi
abbrev N5:Prop:=XO/\V2/\AGX
abbrev Oh(i:Nat):Bool:=decide (i=(0:Nat))
abbrev K9(i:Nat):Int:=bif Oh i then (0:Int) else bif decide (i-(1:Nat)=(0:Nat)) then (1:Int) else (2:Int)
abbrev T2:Prop:=(2:Nat)=(2:Nat)
abbrev U6(i:Nat):Int:=bif Oh i then (100:Int) else (200:Int)
abbrev Z7(i:Nat):Int:=bif Oh i then (10:Int) else (5:Int)
abbrev U7(i:Nat):Int:=bif Oh i then (12:Int) else (8:Int)
abbrev lK(i:Nat):Gau:=gD (HA (2:Nat) λ(i:Nat)=>Gau.mk (U6 i) (Z7 i) (U7 i)) i
abbrev Y0(i:Nat):Int:=bif Oh i then (0:Int) else (1:Int)
abbrev Y7:Prop:=(2:Nat)<(1073741824:Nat)
abbrev RH:Prop:=(0:Nat)=(0:Nat)
abbrev Ml:Prop:=((3:Nat)<(4611686018427387904:Nat)/\(0:Nat)<(4611686018427387904:Nat))/\True
theorem CEJ(n:Nat):(BPM n)=((XO/\Nv/\AGX)/\N5/\(XO/\V2/\XO/\(∀(i:Nat),i<(3:Nat)->gD (HA (3:Nat) λ(i:Nat)=>K9 i) i =
 K9 i)/\A6/\A6)/\(T2/\(∀(i:Nat),i<(2:Nat)->(lK i).st=U6 i/\(lK i).lo=Z7 i/\(lK i).hi=U7 i)/\T2/\(∀(i:Nat),i
 < (2:Nat)->gD (HA (2:Nat) λ(i:Nat)=>Y0 i) i=Y0 i)/\Y7/\Y7)/\N5/\(XO/\Nv/\RH/\RH/\Int.ofNat (400:Nat)=Int.ofNat (400:Nat)
 /\ Ml)/\(XO/\Nv/\RH/\RH/\Int.ofNat (150:Nat)=Int.ofNat (150:Nat)/\Ml)/\(XO/\Nv/\RH/\RH/\Int.ofNat (50:Nat)=Int.ofNat (50 :
 Nat)/\Ml)/\(XO/\Nv/\RH/\RH/\Int.ofNat (40:Nat)=Int.ofNat (40:Nat)/\Ml)/\(XO/\Nv/\RH/\RH/\Ml)/\true=true):=by
 kernel_rfl
def BQM:List AVal->Option (AVal×List Prop)
 |[]=>some (.bool true,[])
 |_=>none
def ADK:Sym.Spec:=AAM BQM
theorem CLY:BPM 0:=by
 rw[CEJ];delta XO z_awake_1 iT B9 Nv A6 AGX z_awake_7 jN E0 V2 N5 Oh K9 T2 U6 Z7 U7 lK Y0 Y7 RH Ml;simp only[CC,CU]
 decide +kernel
theorem ACZ:AH ZP 11 ADK:=AHQ λxs v p h _=>by
 unfold BQM at h;split at h
 ·cases h;exact WP (A:=BRJ) (ren:=[]) (fz:=[]) Tryz.func11 (by kernel_rfl) (AA CEU (AA BSC (AA BFX (AA BOU (AA BTP (AA ART (AA BYS (AA CLE AD)))))))) CLY
 ·cases h
def ptK(b:List Int)(t:Int):Nat->Nat->Nat
 |0,k=>k
 |n+1,k=>bif decide (gD b k<=t) then ptK b t n (k+1) else k
def ptM(b:List Int)(t:Int):Nat:=ptK b t b.length 0
theorem CBB{b:List Int}{t:Int}:∀(n k:Nat),k<=ptK b t n k/\ptK b t n k<=k+n
 |0,k=>⟨Nat.le_refl _,Nat.le_refl _⟩
 |n+1,k=>by
  unfold ptK
  cases decide (gD b k<=t)
  ·exact⟨Nat.le_refl _,by show k<=_;omega⟩
  ·have:=CBB (b:=b) (t:=t) n (k+1);show k<=ptK b t n (k+1)/\ptK b t n (k+1)<=_;omega
structure Fits(l:List Gau)(r:Rtg):Prop where
 len:1<=l.length
 ok:∀g∈l,IT g
 small:∀g∈l,g.st<=199/\g.hi<=2000
 asc:asc r.b
 brk:∀x∈r.b,1<=x/\x<=120
 two:r.b.length<=2
 lines:r.l.length=r.b.length+1
 rise:∀x∈r.l,MI x
 pass:∀g∈l,(HM (gD r.l (KB r.b g.st))).pass g
theorem AMU{b:List Int}{t:Int}:∀(n k:Nat),(∀j,k<=j->j<ptK b t n k->gD b j<=t)/\(ptK b t n k<k+n->¬gD b (ptK b t n k)<=t)
 |0,k=>⟨λj h1 h2=>by have:j<k:=h2;omega,λh=>by have:k<k+0:=h;omega⟩
 |n+1,k=>by
  unfold ptK
  by_cases hc:gD b k<=t
  ·rw[decide_eq_true hc]
   obtain⟨h1,h2⟩:=AMU (b:=b) (t:=t) n (k+1)
   refine⟨λj a1 a2=>?_,λh=>h2 (by show ptK b t n (k+1)<_;have:ptK b t n (k+1)<k+(n+1):=h;omega)⟩
   by_cases hj:j=k
   ·rw[hj];exact hc
   ·exact h1 j (by omega) a2
  ·rw[decide_eq_false hc]
   exact⟨λj a1 a2=>by have:j<k:=a2;omega,λ_=>hc⟩
theorem CSD{b:List Int}{t:Int}(hb:asc b):ptM b t=KB b t:=by
 obtain⟨h1,h2⟩:=AMU (b:=b) (t:=t) b.length 0
 have hle:=CBB (b:=b) (t:=t) b.length 0
 symm
 unfold KB ptM
 refine iL (by omega) (λj hj=>decide_eq_true (h1 j (Nat.zero_le _) hj)) (λj hj hj2=>decide_eq_false ?_)
 have h3:=h2 (by omega)
 intro hc
 by_cases he:ptK b t b.length 0=j
 ·exact h3 (he ▸ hc)
 ·have:=Lt hb (show ptK b t b.length 0<j by omega) hj2
  omega
theorem BGU:∀(l:List Int) (x:Int),0<=x/\x<=2000->asc l->(∀y∈l,x<y/\y<=2000)->brk x l=0
 |[],_,_,_,_=>rfl
 |z :: l,x,hx,ha,h=>by
  have hz:=h z (List.mem_cons_self ..)
  obtain⟨h1,h2⟩:=List.pairwise_cons.1 ha
  unfold brk
  have:JD z (wr (x+1)) 2000=true:=by
   unfold JD wr
   rw[HL (n:=x+1) (by omega) (by omega)]
   simp only[Bool.and_eq_true,decide_eq_true_eq];omega
  rw[this]
  exact BGU l z (by omega) h2 (λy hy=>⟨h1 y hy,(h y (List.mem_cons_of_mem _ hy)).2⟩)
theorem BHR{l:List Gau}(h:1<=l.length/\l.length<=24)(ho:∀g∈l,IT g):AL l=0:=by
 unfold AL
 have e1:JD l.length 1 24=true:=by unfold JD;simp only[Bool.and_eq_true,decide_eq_true_eq];omega
 have e2:l.all riG=true:=List.all_eq_true.2 λg hg=>by
  obtain⟨h1,h2,h3,h4,h5⟩:=ho g hg
  unfold riG JD;simp only[Bool.and_eq_true,decide_eq_true_eq];omega
 rw[e1,e2];rfl
theorem BSF{b:List Int}(h1:asc b)(h2:∀x∈b,1<=x/\x<=2000)(h3:b.length<=24):OC b=0:=by
 unfold OC
 rw[if_neg (by omega)]
 exact BGU b 0 (by omega) h1 (λy hy=>by have:=h2 y hy;omega)
theorem BVE{l:List Gau}{b:List Int}(h:1<=l.length/\l.length<=24)(ho:∀g∈l,IT g)(h1:asc b)(h2:∀x∈b,1<=x/\x<=2000)(h3:b.length<=24):AV ⟨l,b⟩=0:=by
 unfold AV
 rw[BHR h ho]
 exact BSF h1 h2 h3
def CV(l:List Gau)(b:List Int)(k:Int):List Gau:=Jp (FM ⟨l,b⟩) k
theorem Iw{l:List Gau}{b:List Int}{k:Int}{g:Gau}:g∈CV l b k↔g∈l/\(KB b g.st:Int)=k:=by
 unfold CV Jp FM
 rw[List.mem_filter,beq_iff_eq]
theorem Bv{l:List Gau}{b:List Int}{k:Int}(ho:∀g∈l,IT g):∀g∈CV l b k,IT g:=λg hg=>ho g (Iw.1 hg).1
theorem L0(b:List Int)(t:Int):KB b t<=b.length:=List.countP_le_length
structure Thru(l:List Gau)(b:List Int):Prop where
 len:1<=l.length/\l.length<=24
 ok:∀g∈l,IT g
 asc:asc b
 brk:∀x∈b,1<=x/\x<=2000
 few:b.length<=24
 thru:∀k:Nat,k<=b.length->∃x,MI x/\(HM x).passes (CV l b k)
theorem Fits.thru{l:List Gau}{r:Rtg}(h:Fits l r)(h2:l.length<=24):Thru l r.b:=⟨⟨h.len,h2⟩,h.ok,h.asc,λx hx=>by have:=h.brk x hx;omega,by have:=h.two;omega,λk hk=>⟨gD r.l k,h.rise _ (BU (by rw[h.lines];omega)),λg hg=>by
 obtain⟨h3,h4⟩:=Iw.1 hg
 have:=h.pass g h3
 rw[show KB r.b g.st=k by omega] at this;exact this⟩⟩
theorem Thru.open{l:List Gau}{b:List Int}(h:Thru l b):AV ⟨l,b⟩=0:=BVE h.len h.ok h.asc h.brk h.few
theorem Thru.bk{l:List Gau}{b:List Int}(h:Thru l b):US l b:=WT h.open
theorem Thru.ne{l:List Gau}{b:List Int}(h:Thru l b){k:Nat}(hk:k<=b.length){t:Int}(ht:0<=t/\t<=2000):PX (CV l b k) t≠[]:=by
 obtain⟨x,h1,h2⟩:=h.thru k hk
 exact nH (Bv h.ok) ht (EM h1) h2
theorem Thru.flow{l:List Gau}{b:List Int}(h:Thru l b){t:Int}(ht:0<=t/\t<=2000):EW ⟨l,b,t⟩=0/\KN ⟨l,b,t⟩=RP (CV l b (KB b t)) t:=by
 have hne:=h.ne (L0 b t) ht
 have e:EW ⟨l,b,t⟩=0:=by
  unfold EW
  rw[show AV (Pq ⟨l,b,t⟩)=0 from h.open,show inT ⟨l,b,t⟩=true by unfold inT JD;simpa using ht,decide_eq_false (show ¬(lB (bkT ⟨l,b,t⟩)).length=0 from λhc=>hne (List.eq_nil_of_length_eq_zero hc))]
  rfl
 refine⟨e,?_⟩
 unfold KN;rw[e];rfl
theorem Thru.in{l:List Gau}{b:List Int}(h:Thru l b){k:Nat}(hk:k<=b.length){t:Int}(ht:0<=t/\t<=2000):sV (RP (CV l b k) t).lo/\sV (RP (CV l b k) t).hi/\XE (RP (CV l b k) t).lo (RP (CV l b k) t).hi:=K2 (Bv h.ok) ht (h.ne hk ht)
def belM(a b:Rt):Bool:=decide (wr (a.n*b.d)<wr (b.n*a.d))
theorem CKA{a b:Rt}(ha:sV a)(hb:sV b):belM a b=false↔XE b a:=by
 unfold belM XE;rw[F6 ha hb,F6 hb ha,decide_eq_false_iff_not];omega
theorem ABF{pr:Int->Bool}:∀(n:Nat) (lo hi:Int),lo<=hi->(hi-lo).toNat<=n->(∀m m':Int,lo<m->m<=m'->m'<=hi->pr m'=true->pr m=true)->(∀m,lo<m->m<=upL pr n lo hi->pr m=true)/\∀m,upL pr n lo hi<m->m<=hi->pr m=false
 |0,lo,hi,h,hn,_=>⟨λm h1 h2=>by have:m<=lo:=h2;omega,λm h1 h2=>by have:lo<m:=h1;omega⟩
 |n+1,lo,hi,h,hn,hm=>by
  unfold upL
  by_cases hl:lo<hi
  ·obtain⟨h3,h4⟩:=Q2 hl
   rw[decide_eq_true hl]
   generalize hM:lo+(hi-lo+1).tdiv 2=M at *
   cases hp:pr M with
   |true=>
    obtain⟨r1,r2⟩:=ABF n M hi h4 (by omega) (λm m' a b c d=>hm m m' (by omega) b c d)
    refine⟨λm a1 a2=>?_,r2⟩
    by_cases hc:m<=M
    ·exact hm m M a1 hc h4 hp
    ·exact r1 m (by omega) a2
   |false=>
    obtain⟨r1,r2⟩:=ABF n lo (M-1) (by omega) (by omega) (λm m' a b c d=>hm m m' a b (by omega) d)
    refine⟨r1,λm a1 a2=>?_⟩
    by_cases hc:m<=M-1
    ·exact r2 m a1 hc
    ·cases hq:pr m with
     |false=>rfl
     |true=>
      have:=hm M m h3 (by omega) a2 hq
      rw[this] at hp;cases hp
  ·rw[decide_eq_false hl]
   exact⟨λm h1 h2=>by have:m<=lo:=h2;omega,λm h1 h2=>by have:lo<m:=h1;omega⟩
def qR(q:Int):Rt:=⟨q,1⟩
theorem BNS{q:Int}(h:0<=q/\q<=200000):sV (qR q):=⟨⟨Int.one_pos,by show (1:Int)<=2000;omega⟩,h.1,by show q<=200000*1;omega⟩
def JY(b:List Int)(k:Nat):Span:=DD (FM ⟨[],b⟩) k
theorem Thru.span{l:List Gau}{b:List Int}(h:Thru l b){k:Nat}(hk:k<=b.length):0<=(JY b k).lo/\(JY b k).lo<=(JY b k).hi/\(JY b k).hi<=2000/\∀m:Int,(JY b k).lo<=m->m<=(JY b k).hi->KB b m=k:=by
 obtain⟨h1,h2,h3,h4⟩:=Cb (w:=FM ⟨l,b⟩) (k:=k) h.bk (by omega) (Int.ofNat_le.2 hk)
 exact⟨h1,h2,h3,λm a c=>Int.ofNat.inj (h4 m a c)⟩
theorem Thru.up{l:List Gau}{b:List Int}(h:Thru l b){q:Int}(hq:0<=q/\q<=200000){k:Nat}(hk:k<=b.length)(v:BnF->Bool)(c:Bnd->Prop)(hv:∀t,(JY b k).lo<=t->t<=(JY b k).hi->(v ⟨RP (CV l b k) t,qR q⟩=true↔c (RP (CV l b k) t)))(hm:∀t u,(JY b k).lo<=t->t<=u->u<=(JY b k).hi->c (RP (CV l b k) u)->c (RP (CV l b k) t)):((JY b k).lo-1<=upM v ⟨FM ⟨l,b⟩,k,qR q⟩/\upM v ⟨FM ⟨l,b⟩,k,qR q⟩<=(JY b k).hi)/\(∀t,(JY b k).lo<=t->t<=upM v ⟨FM ⟨l,b⟩,k,qR q⟩->c (RP (CV l b k) t))/\∀t,upM v ⟨FM ⟨l,b⟩,k,qR q⟩<t->t<=(JY b k).hi->¬c (RP (CV l b k) t):=by
 obtain⟨s1,s2,s3,s4⟩:=h.span hk
 have hi:=CCT (v:=v) (a:=⟨FM ⟨l,b⟩,k,qR q⟩) h.bk (Int.natCast_nonneg _) (Int.ofNat_le.2 hk)
 have hp:∀t,(JY b k).lo<=t->t<=(JY b k).hi->(upP v ⟨FM ⟨l,b⟩,k,qR q⟩ t=true↔c (RP (CV l b k) t)):=λt a d=>by
  have e:upP v ⟨FM ⟨l,b⟩,k,qR q⟩ t=v ⟨RP (CV l b (KB b t)) t,qR q⟩:=rfl
  rw[e,s4 t a d];exact hv t a d
 have hs:=ABF (pr:=upP v ⟨FM ⟨l,b⟩,k,qR q⟩) 3000 ((JY b k).lo-1) (JY b k).hi (by omega) (by omega) (λm m' a d e f=>(hp m (by omega) (by omega)).2 (hm m m' (by omega) d e ((hp m' (by omega) e).1 f)))
 have ho:upM v ⟨FM ⟨l,b⟩,k,qR q⟩=upL (upP v ⟨FM ⟨l,b⟩,k,qR q⟩) 3000 ((JY b k).lo-1) (JY b k).hi:=rfl
 rw[<-ho] at hs
 have i1:(JY b k).lo-1<=upM v ⟨FM ⟨l,b⟩,k,qR q⟩:=hi.1
 have i2:upM v ⟨FM ⟨l,b⟩,k,qR q⟩<=(JY b k).hi:=hi.2.1
 refine⟨⟨i1,i2⟩,λt a d=>(hp t a (by omega)).1 (hs.1 t (by omega) d),λt a d hc=>?_⟩
 have:=hs.2 t a d
 rw[(hp t (by omega) d).2 hc] at this;cases this
theorem BUA{a b:Rt}:¬XE a b↔b.n*a.d<a.n*b.d:=by unfold XE;omega
theorem Thru.first{l:List Gau}{b:List Int}(h:Thru l b){q:Int}(hq:0<=q/\q<=200000){k:Nat}(hk:k<=b.length):((JY b k).lo<=G8 ⟨⟨l,b⟩,q⟩ k/\G8 ⟨⟨l,b⟩,q⟩ k<=(JY b k).hi+1)/\(∀t,(JY b k).lo<=t->t<G8 ⟨⟨l,b⟩,q⟩ k->¬XE (qR q) (RP (CV l b k) t).hi)/\∀t,G8 ⟨⟨l,b⟩,q⟩ k<=t->t<=(JY b k).hi->XE (qR q) (RP (CV l b k) t).hi:=by
 obtain⟨s1,s2,s3,s4⟩:=h.span hk
 have oq:=BNS hq
 obtain⟨⟨r0,r1⟩,r2,r3⟩:=h.up hq hk H7 (λB=>¬XE (qR q) B.hi) (λt a d=>by
  have:=(h.in hk (t:=t) (by omega)).2.1
  unfold H7;rw[decide_eq_true_eq,AUV this oq,BUA]) (λt u a d e hc h2=>hc (by
  have h1:=(h.in hk (t:=t) (by omega)).2.1
  have h3:=(h.in hk (t:=u) (by omega)).2.1
  have:=(ABT (Bv h.ok) (show 0<=t by omega) d (by omega) (h.ne hk (t:=t) (by omega))).2
  exact IQ (Int.le_of_lt oq.1.1) h1.1.1 (Int.le_of_lt h3.1.1) h2 this))
 have e:G8 ⟨⟨l,b⟩,q⟩ k=upM H7 ⟨FM ⟨l,b⟩,k,qR q⟩+1:=rfl
 rw[e]
 exact⟨⟨by omega,by omega⟩,λt a d=>r2 t a (by omega),λt a d=>Classical.byContradiction λhc=>r3 t (by omega) d hc⟩
theorem Thru.last{l:List Gau}{b:List Int}(h:Thru l b){q:Int}(hq:0<=q/\q<=200000){k:Nat}(hk:k<=b.length):((JY b k).lo-1<=G1 ⟨⟨l,b⟩,q⟩ k/\G1 ⟨⟨l,b⟩,q⟩ k<=(JY b k).hi)/\(∀t,(JY b k).lo<=t->t<=G1 ⟨⟨l,b⟩,q⟩ k->XE (RP (CV l b k) t).lo (qR q))/\∀t,G1 ⟨⟨l,b⟩,q⟩ k<t->t<=(JY b k).hi->¬XE (RP (CV l b k) t).lo (qR q):=by
 obtain⟨s1,s2,s3,s4⟩:=h.span hk
 have oq:=BNS hq
 exact h.up hq hk D2 (λB=>XE B.lo (qR q)) (λt a d=>by
  have:=(h.in hk (t:=t) (by omega)).1
  unfold D2;rw[decide_eq_true_eq]
  show jT (RP (CV l b k) t).lo (qR q)<=0↔_
  have:=AUS this oq
  unfold XE;omega) (λt u a d e hc=>by
  have h1:=(h.in hk (t:=t) (by omega)).1
  have h3:=(h.in hk (t:=u) (by omega)).1
  have:=(ABT (Bv h.ok) (show 0<=t by omega) d (by omega) (h.ne hk (t:=t) (by omega))).1
  exact IQ (Int.le_of_lt h1.1.1) h3.1.1 (Int.le_of_lt oq.1.1) this hc)
theorem AOM{x:GBf}:∀(n k:Nat) (o:Span) (m:Bool),(∀j,k<=j->j<k+n->(lnK x.a j).length≠0)->((Db x n k o m).2=0/\(m=true∨∃j,k<=j/\j<k+n/\G8 x j<=G1 x j)∨((Db x n k o m).2=5/\m=false/\∀j,k<=j->j<k+n->G1 x j<G8 x j))/\((Db x n k o m).2=0->(m=true/\(Db x n k o m).1.lo=o.lo∨m=false/\∃j,k<=j/\j<k+n/\G8 x j<=G1 x j/\(Db x n k o m).1.lo=G8 x j/\∀i,k<=i->i<j->G1 x i<G8 x i)/\((m=true/\(Db x n k o m).1.hi=o.hi/\∀i,k<=i->i<k+n->G1 x i<G8 x i)∨∃j,k<=j/\j<k+n/\G8 x j<=G1 x j/\(Db x n k o m).1.hi=G1 x j/\∀i,j<i->i<k+n->G1 x i<G8 x i))
 |0,k,o,m,_=>by
  cases m with
  |true=>exact⟨.inl ⟨rfl,.inl rfl⟩,λ_=>⟨.inl ⟨rfl,rfl⟩,.inl ⟨rfl,rfl,λi a b=>by omega⟩⟩⟩
  |false=>exact⟨.inr ⟨rfl,rfl,λj a b=>by omega⟩,λh=>by cases h⟩
 |n+1,k,o,m,hl=>by
  have e0:decide ((lnK x.a k).length=0)=false:=decide_eq_false (hl k (Nat.le_refl _) (by omega))
  by_cases hc:G1 x k<G8 x k
  ·have e:Db x (n+1) k o m=Db x n (k+1) o m:=by
    show (bif decide ((lnK x.a k).length=0) then _ else bif decide (G1 x k<G8 x k) then _ else _)=_
    rw[e0,decide_eq_true hc];rfl
   obtain⟨r1,r2⟩:=AOM n (k+1) o m (λj a b=>hl j (by omega) (by omega))
   rw[e]
   have ext:∀i,k<=i->i<k+(n+1)->(k+1<=i->G1 x i<G8 x i)->G1 x i<G8 x i:=λi a b c=>by
    by_cases hi:i=k
    ·rw[hi];exact hc
    ·exact c (by omega)
   refine⟨?_,λh0=>?_⟩
   ·rcases r1 with⟨h1,h2⟩ | ⟨h1,h2,h3⟩
    ·refine .inl ⟨h1,?_⟩
     rcases h2 with h2 | ⟨j,a,b,c⟩
     ·exact .inl h2
     ·exact .inr ⟨j,by omega,by omega,c⟩
    ·exact .inr ⟨h1,h2,λj a b=>ext j a b λc=>h3 j c (by omega)⟩
   ·obtain⟨g1,g2⟩:=r2 h0
    refine⟨?_,?_⟩
    ·rcases g1 with g1 | ⟨h2,j,a,b,c,d,f⟩
     ·exact .inl g1
     ·exact .inr ⟨h2,j,by omega,by omega,c,d,λi p q=>ext i p (by omega) λr=>f i r q⟩
    ·rcases g2 with⟨h2,h3,h4⟩ | ⟨j,a,b,c,d,f⟩
     ·exact .inl ⟨h2,h3,λi a b=>ext i a b λc=>h4 i c (by omega)⟩
     ·exact .inr ⟨j,by omega,by omega,c,d,λi p q=>f i p (by omega)⟩
  ·have e:Db x (n+1) k o m=Db x n (k+1) ⟨bif m then o.lo else G8 x k,G1 x k⟩ true:=by
    show (bif decide ((lnK x.a k).length=0) then _ else bif decide (G1 x k<G8 x k) then _ else _)=_
    rw[e0,decide_eq_false hc];rfl
   obtain⟨r1,r2⟩:=AOM n (k+1) ⟨bif m then o.lo else G8 x k,G1 x k⟩ true (λj a b=>hl j (by omega) (by omega))
   rw[e]
   have hok:G8 x k<=G1 x k:=by omega
   refine⟨?_,λh0=>?_⟩
   ·rcases r1 with⟨h1,h2⟩ | ⟨h1,h2,h3⟩
    ·exact .inl ⟨h1,.inr ⟨k,Nat.le_refl _,by omega,hok⟩⟩
    ·cases h2
   ·obtain⟨g1,g2⟩:=r2 h0
    refine⟨?_,?_⟩
    ·rcases g1 with⟨_,g1⟩ | ⟨h2,_⟩
     ·cases m with
      |true=>exact .inl ⟨rfl,g1⟩
      |false=>exact .inr ⟨rfl,k,Nat.le_refl _,by omega,hok,g1,λi p q=>by omega⟩
     ·cases h2
    ·rcases g2 with⟨h2,h3,h4⟩ | ⟨j,a,b,c,d,f⟩
     ·exact .inr ⟨k,Nat.le_refl _,by omega,hok,h3,λi p q=>h4 i (by omega) (by omega)⟩
     ·exact .inr ⟨j,by omega,by omega,c,d,λi p q=>f i p (by omega)⟩
theorem R0(b:List Int)(k:Nat):(JY b k).lo=if 0<k then gD b (k-1) else 0:=by
 show (bif decide ((k:Int)>0) then gD b ((k:Int)-1).toNat else 0)=_
 by_cases h0:0<k
 ·rw[decide_eq_true (show (k:Int)>0 by omega),if_pos h0,show ((k:Int)-1).toNat=k-1 by omega];rfl
 ·rw[decide_eq_false (show ¬(k:Int)>0 by omega),if_neg h0];rfl
theorem AER{b:List Int}(hb:∀x∈b,1<=x/\x<=2000)(k:Nat):(JY b k).hi=if k<b.length then gD b k-1 else 2000:=by
 show (bif decide ((k:Int)<b.length) then wr (gD b (k:Int).toNat-1) else 2000)=_
 by_cases h0:k<b.length
 ·have:=hb _ (BU h0)
  rw[decide_eq_true (show (k:Int)<b.length by omega),if_pos h0,Int.toNat_natCast]
  unfold wr;rw[HL (by omega) (by omega)];rfl
 ·rw[decide_eq_false (show ¬(k:Int)<b.length by omega),if_neg h0];rfl
theorem CAR{b:List Int}{t:Int}(hb:asc b):(∀j,j<KB b t->gD b j<=t)/\∀j,KB b t<=j->j<b.length->t<gD b j:=by
 have h:=AMU (b:=b) (t:=t) b.length 0
 have e:ptK b t b.length 0=KB b t:=CSD hb
 rw[e] at h
 refine⟨λj hj=>h.1 j (Nat.zero_le _) hj,λj hj hj2=>?_⟩
 have h3:=h.2 (by omega)
 by_cases he:KB b t=j
 ·rw[he] at h3;omega
 ·have:=Lt hb (show KB b t<j by omega) hj2;omega
theorem Thru.at{l:List Gau}{b:List Int}(h:Thru l b){t:Int}(ht:0<=t/\t<=2000):(JY b (KB b t)).lo<=t/\t<=(JY b (KB b t)).hi:=by
 obtain⟨h1,h2⟩:=CAR (t:=t) h.asc
 rw[R0,AER h.brk]
 constructor
 ·split
  ·exact h1 _ (by omega)
  ·exact ht.1
 ·split
  ·rename_i hl
   have:=h2 _ (Nat.le_refl _) hl;omega
  ·exact ht.2
theorem Thru.next{l:List Gau}{b:List Int}(h:Thru l b){i j:Nat}(hij:i<j)(hj:j<=b.length):(JY b i).hi<(JY b j).lo:=by
 rw[R0,AER h.brk,if_pos (by omega),if_pos (by omega)]
 by_cases he:i=j-1
 ·rw[he];omega
 ·have:=Lt h.asc (show i<j-1 by omega) (by omega);omega
def uV(l:List Gau)(b:List Int)(q t:Int):Prop:=XE (KN ⟨l,b,t⟩).lo (qR q)/\XE (qR q) (KN ⟨l,b,t⟩).hi
theorem Thru.stages{l:List Gau}{b:List Int}(h:Thru l b){q:Int}(hq:0<=q/\q<=200000):((LU ⟨⟨l,b⟩,q⟩).2=0∨(LU ⟨⟨l,b⟩,q⟩).2=5)/\(∀t,0<=t/\t<=2000->uV l b q t->(LU ⟨⟨l,b⟩,q⟩).2=0/\(LU ⟨⟨l,b⟩,q⟩).1.lo<=t/\t<=(LU ⟨⟨l,b⟩,q⟩).1.hi)/\((LU ⟨⟨l,b⟩,q⟩).2=0->((0<=(LU ⟨⟨l,b⟩,q⟩).1.lo/\(LU ⟨⟨l,b⟩,q⟩).1.lo<=2000)/\uV l b q (LU ⟨⟨l,b⟩,q⟩).1.lo)/\(0<=(LU ⟨⟨l,b⟩,q⟩).1.hi/\(LU ⟨⟨l,b⟩,q⟩).1.hi<=2000)/\uV l b q (LU ⟨⟨l,b⟩,q⟩).1.hi):=by
 have e:LU ⟨⟨l,b⟩,q⟩=Db ⟨⟨l,b⟩,q⟩ (b.length+1) 0 default false:=by
  unfold LU;rw[h.open,show inF ⟨⟨l,b⟩,q⟩=true by unfold inF JD;simpa using hq];rfl
 have hl:∀j,0<=j->j<0+(b.length+1)->(lnK ⟨l,b⟩ j).length≠0:=λj _ hj hc=>by
  have hs:=h.span (k:=j) (by omega)
  exact h.ne (k:=j) (by omega) (t:=(JY b j).lo) (by omega) (List.eq_nil_of_length_eq_zero hc)
 obtain⟨r1,r2⟩:=AOM (x:=⟨⟨l,b⟩,q⟩) (b.length+1) 0 default false hl
 rw[<-e] at r1 r2
 -- where a flow can be, its part says so
 have key:∀t,0<=t/\t<=2000->uV l b q t->G8 ⟨⟨l,b⟩,q⟩ (KB b t)<=t/\t<=G1 ⟨⟨l,b⟩,q⟩ (KB b t):=λt ht hc=>by
  obtain⟨c1,c2⟩:=hc
  have hk:=L0 b t
  rw[(h.flow ht).2] at c1 c2
  obtain⟨a1,a2⟩:=h.at ht
  obtain⟨_,f2,_⟩:=h.first hq hk
  obtain⟨_,_,l3⟩:=h.last hq hk
  constructor
  ·exact Classical.byContradiction λhc=>f2 t a1 (by omega) c2
  ·exact Classical.byContradiction λhc=>l3 t (by omega) a2 c1
 -- a stage between both is one at which it can be
 have back:∀j,j<=b.length->∀t,G8 ⟨⟨l,b⟩,q⟩ j<=t->t<=G1 ⟨⟨l,b⟩,q⟩ j->(0<=t/\t<=2000)/\uV l b q t:=λj hj t h1 h2=>by
  obtain⟨s1,s2,s3,s4⟩:=h.span hj
  obtain⟨⟨f0,_⟩,f2,f3⟩:=h.first hq hj
  obtain⟨⟨_,l0⟩,l2,l3⟩:=h.last hq hj
  have ht:0<=t/\t<=2000:=by omega
  refine⟨ht,?_⟩
  unfold uV
  rw[(h.flow ht).2,s4 t (by omega) (by omega)]
  exact⟨l2 t (by omega) h2,f3 t h1 (by omega)⟩
 refine⟨?_,λt ht hc=>?_,λh0=>?_⟩
 ·rcases r1 with r1 | r1
  ·exact .inl r1.1
  ·exact .inr r1.1
 ·obtain⟨k1,k2⟩:=key t ht hc
  have hk:=L0 b t
  obtain⟨a1,a2⟩:=h.at ht
  have h0:(LU ⟨⟨l,b⟩,q⟩).2=0:=by
   rcases r1 with r1 | ⟨_,_,r3⟩
   ·exact r1.1
   ·have:=r3 (KB b t) (Nat.zero_le _) (by omega);omega
  obtain⟨g1,g2⟩:=r2 h0
  refine⟨h0,?_,?_⟩
  ·rcases g1 with⟨g1,_⟩ | ⟨_,j,_,j2,j3,j4,j5⟩
   ·cases g1
   ·rw[j4]
    by_cases hj:j=KB b t
    ·rw[hj];exact k1
    ·by_cases hj2:j<KB b t
     ·have n1:=h.next hj2 hk
      have l0:=(h.last hq (k:=j) (by omega)).1.2
      omega
     ·have:=j5 (KB b t) (Nat.zero_le _) (by omega);omega
  ·rcases g2 with⟨g1,_⟩ | ⟨j,_,j2,j3,j4,j5⟩
   ·cases g1
   ·rw[j4]
    by_cases hj:j=KB b t
    ·rw[hj];exact k2
    ·by_cases hj2:KB b t<j
     ·have n1:=h.next hj2 (show j<=b.length by omega)
      have l0:=(h.first hq (k:=j) (by omega)).1.1
      omega
     ·have:=j5 (KB b t) (by omega) (by omega);omega
 ·obtain⟨g1,g2⟩:=r2 h0
  constructor
  ·rcases g1 with⟨g1,_⟩ | ⟨_,j,_,j2,j3,j4,j5⟩
   ·cases g1
   ·rw[j4];exact back j (by omega) _ (Int.le_refl _) j3
  ·rcases g2 with⟨g1,_⟩ | ⟨j,_,j2,j3,j4,j5⟩
   ·cases g1
   ·rw[j4];exact back j (by omega) _ j3 (Int.le_refl _)
theorem ATQ{x:Ln}{t:Int}(h:MI x):dryR (JF x t)=true↔(JF x t).n=0:=by
 unfold dryR
 rw[Bool.and_eq_true,beq_iff_eq,beq_iff_eq]
 refine⟨λa=>a.1,λh0=>⟨h0,?_⟩⟩
 unfold JF Cf at *
 split
 ·rfl
 ·rename_i c1
  rw[if_neg c1] at h0
  split
  ·rfl
  ·rename_i c2
   rw[if_neg c2] at h0
   rw[AJU] at *
   have hW:=(EM h).1
   have hv:=jU (n:=(HM x).num t) hW
   have hd:=(U4 (n:=(HM x).num t) hW).1
   rw[h0,Int.zero_mul] at hv
   have hz:(HM x).num t=0:=by
    rcases Int.mul_eq_zero.1 hv.symm with h1 | h1
    ·exact h1
    ·omega
   rw[hz]
   show (HM x).w.tdiv ((Nat.gcd (0:Int).natAbs (HM x).w.natAbs:Nat):Int)=1
   rw[show (0:Int).natAbs=0 from rfl,Nat.gcd_zero_left,Int.natAbs_of_nonneg (Int.le_of_lt hW)]
   exact Int.tdiv_self (by omega)
theorem CGF{s:List Gau}{t:Int}(hs:∀g∈s,IT g)(h:PX s t≠[]):(dryR (RP s t).lo=true↔(RP s t).lo.n=0)/\(dryR (RP s t).hi=true↔(RP s t).hi.n=0):=by
 obtain⟨⟨z,oz,pz,ez⟩,y,oy,py,ey⟩:=Ay hs h
 rw[ez,ey];exact⟨ATQ oz,ATQ oy⟩
theorem BCS{a b:Rt}(ha:sV a)(hb:sV b)(h:XE a b)(h0:b.n=0):a.n=0:=by
 unfold XE at h
 rw[h0,Int.zero_mul] at h
 have:=Int.mul_nonneg ha.2.1 (Int.le_of_lt hb.1.1)
 have h1:a.n*b.d=0:=by omega
 rcases Int.mul_eq_zero.1 h1 with h2 | h2
 ·exact h2
 ·have:=hb.1.1;omega
end Go.Bal
