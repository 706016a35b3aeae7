/- Package chart: pairs that prove how many stops there must be (no program in sight). -/
import Derived.Test.YtdbjalgfomknhaaGreatChL
import Derived.Test.YtdbjalgfomknhaaGreatChSt
import Derived.Test.YtdbjalgfomknhaaGreatChZd
set_option linter.unusedVariables false
set_option linter.unusedSimpArgs false
namespace Go.Bal
open Go Go.Sym Go.Proofs
theorem BJS{x:Prv}{i:Nat}:∀n,mtF x n i=true↔∃k,k<n/\Qt x k<=i/\(i:Int)<pvB x k
 |0=>⟨λh=>(by cases h),λ⟨k,h,_⟩=>absurd h (Nat.not_lt_zero _)⟩
 |n+1=>by
  show (mtF x n i||(decide (Qt x n<=i)&&decide ((i:Int)<pvB x n)))=true↔_
  rw[Bool.or_eq_true,BJS n,Bool.and_eq_true,decide_eq_true_eq,decide_eq_true_eq]
  constructor
  ·rintro (⟨k,a,b⟩ | b)
   ·exact⟨k,by omega,b⟩
   ·exact⟨n,Nat.lt_succ_self n,b⟩
  ·rintro⟨k,a,b⟩
   rcases Nat.lt_or_ge k n with q | q
   ·exact .inl ⟨k,q,b⟩
   ·obtain rfl:k=n:=by omega
    exact .inr b
theorem BLF{f:Nat->Bool}{a:Nat}:∀j,hitJ f a j=true↔∃t,t<j/\f (a+t)=true
 |0=>⟨λh=>(by cases h),λ⟨k,h,_⟩=>absurd h (Nat.not_lt_zero _)⟩
 |n+1=>by
  show (hitJ f a n||f (a+n))=true↔_
  rw[Bool.or_eq_true,BLF n]
  constructor
  ·rintro (⟨k,q,b⟩ | b)
   ·exact⟨k,by omega,b⟩
   ·exact⟨n,Nat.lt_succ_self n,b⟩
  ·rintro⟨k,q,b⟩
   rcases Nat.lt_or_ge k n with r | r
   ·exact .inl ⟨k,r,b⟩
   ·obtain rfl:k=n:=by omega
    exact .inr b
def disP(x:Prv)(j k:Nat):Prop:=∀i:Nat,¬ ((Qt x j<=i/\(i:Int)<pvB x j)/\Qt x k<=i/\(i:Int)<pvB x k)
theorem AZD{x:Prv}:∀n,(∀k,k<n->0<=Qt x k)->(pvK x n=true↔(∀k,k<n->Eg x.c (gD x.l k)=true)/\∀j k,j<k->k<n->disP x j k)
 |0,_=>⟨λ_=>⟨λk h=>absurd h (Nat.not_lt_zero _),λj k _ h=>absurd h (Nat.not_lt_zero _)⟩,λ_=>rfl⟩
 |n+1,h0=>by
  show (pvK x n&&Eg x.c (gD x.l n)&&!hitJ (mtF x n) (Qt x n).toNat (pvB x n-Qt x n).toNat)=true↔_
  rw[Bool.and_eq_true,Bool.and_eq_true,AZD n λk hk=>h0 k (by omega),Bool.not_eq_true',<-Bool.not_eq_true,BLF]
  have a0:=h0 n (Nat.lt_succ_self n)
  constructor
  ·rintro⟨⟨⟨h1,h2⟩,h3⟩,h4⟩
   refine⟨λk hk=>?_,λj k hjk hk i hi=>?_⟩
   ·rcases Nat.lt_or_ge k n with q | q
    ·exact h1 k q
    ·obtain rfl:k=n:=by omega
     exact h3
   ·rcases Nat.lt_or_ge k n with q | q
    ·exact h2 j k hjk q i hi
    ·obtain rfl:k=n:=by omega
     exact h4 ⟨i-(Qt x k).toNat,by omega,(BJS k).2 ⟨j,hjk,by rw[show (Qt x k).toNat+(i-(Qt x k).toNat)=i by omega];exact hi.1⟩⟩
  ·rintro⟨h1,h2⟩
   refine⟨⟨⟨λk hk=>h1 k (by omega),λj k hjk hk=>h2 j k hjk (by omega)⟩,h1 n (Nat.lt_succ_self n)⟩,?_⟩
   rintro⟨t,ht,hm⟩
   obtain⟨k,hk,q⟩:=(BJS n).1 hm
   exact h2 k n hk (Nat.lt_succ_self n) _ ⟨q,by omega,by omega⟩
theorem COC{x:Prv}{j k:Nat}(hj:0<=Qt x j/\Qt x j<pvB x j)(hk:0<=Qt x k/\Qt x k<pvB x k):disP x j k↔¬ (Qt x k<pvB x j/\Qt x j<pvB x k):=by
 constructor
 ·intro h ⟨q1,q2⟩
  by_cases e:Qt x j<=Qt x k
  ·exact h (Qt x k).toNat ⟨⟨by omega,by omega⟩,by omega,by omega⟩
  ·exact h (Qt x j).toNat ⟨⟨by omega,by omega⟩,by omega,by omega⟩
 ·intro h i hi
  apply h;omega
end Go.Bal

namespace Go.Bal
open Go Go.Sym Go.Proofs
theorem BSU{c:Cht}(h:ChOk c){p:Pr}(hp:Ca c p=true)(hl:Eg c p=true):(0<=(nA c p).mi/\(nA c p).mi<(nB c p).mi/\(nB c p).mi<c.ms.length)/\ltM c (nA c p).mi.toNat (nB c p).mi.toNat:=by
 have hn:=h.n
 obtain⟨⟨⟨a0,a1⟩,b0,b1⟩,lt⟩:=AWU (by omega) hp
 have k1:=(h.nt (nA c p) (OH (by omega))).mi
 have k2:=(h.nt (nB c p) (OH (by omega))).mi
 refine⟨by omega,?_⟩
 have e:p=⟨((p.a.toNat:Nat):Int),((p.b.toNat:Nat):Int)⟩:=by
  obtain⟨a,b⟩:=p
  show (⟨a,b⟩:Pr)=⟨((a.toNat:Nat):Int),((b.toNat:Nat):Int)⟩
  rw[Int.toNat_of_nonneg a0,Int.toNat_of_nonneg b0]
 rw[e] at hl
 exact (ASD h (a:=p.a.toNat) (b:=p.b.toNat) (by omega) (by omega)).1 hl
structure PrI(c:Cht)(k:Nat)(s:FwS):Prop where
 len:s.r.length=s.q.length
 ok:∀p∈s.r,(Ca c p=true/\Eg c p=true)/\(nB c p).mi-1<=s.la
 dis:s.r.Pairwise λa b=>(nB c a).mi<=(nA c b).mi
 le:s.q.length<=k
theorem AKT{c:Cht}(h:ChOk c):∀k,k<=c.ns.length->PrI c k (Mf c k)
 |0,_=>⟨rfl,λp hp=>(by cases hp),.nil,Nat.le_refl _⟩
 |k+1,hk=>by
  have ih:=AKT h k (by omega)
  have I:=ADN h k (by omega)
  have hk':k<c.ns.length:=by omega
  have hn:=h.n
  have bk:=BEW h hk'
  show PrI c (k+1) (fwN c (Mf c k) (gD (IM c) k) (((IM c).take k).find? (fwP c (Mf c k).la (gD (IM c) k))))
  have lt:((IM c).take k).length=k:=by rw[List.length_take,iB];omega
  cases ea:((IM c).take k).find? (fwP c (Mf c k).la (gD (IM c) k)) with
  |none=>exact⟨ih.len,ih.ok,ih.dis,Nat.le_succ_of_le ih.le⟩
  |some a=>
   have am:=List.mem_of_find?_eq_some ea
   have ap:=List.find?_some ea
   obtain⟨j,hj,ej⟩:=Df am
   rw[lt] at hj
   rw[mP hj] at ej
   subst ej
   obtain⟨p1,p2⟩:=(BJQ h (show j<_ by omega) hk').1 ap
   have jk:=BFF h hj hk'
   have bj:=BEW h (show j<_ by omega)
   have hm40:=h.m
   have lt':Eg c ⟨gD (IM c) j,gD (IM c) k⟩=true:=by
    unfold fwP at ap
    cases q:decide (miA c (gD (IM c) j)>(Mf c k).la) with
    |true=>rw[q] at ap;exact ap
    |false=>rw[q] at ap;cases ap
   obtain⟨ja,ja1,ja2⟩:=H6 c (show j<_ by omega)
   obtain⟨ka,ka1,ka2⟩:=H6 c hk'
   have eA:(nA c ⟨gD (IM c) j,gD (IM c) k⟩).mi=mO c j:=rfl
   have eB:(nB c ⟨gD (IM c) j,gD (IM c) k⟩).mi=mO c k:=rfl
   have pm:Ca c ⟨gD (IM c) j,gD (IM c) k⟩=true:=by
    unfold Ca
    have q1:tW c.ns.length ⟨gD (IM c) j,gD (IM c) k⟩=true:=by
     unfold tW wr PN
     rw[Ap (by omega) (by omega),ja2,ka2]
     simp only[Bool.and_eq_true,decide_eq_true_eq]
     omega
    have q2:(!((Pr.mk (gD (IM c) j) (gD (IM c) k)).a==(Pr.mk (gD (IM c) j) (gD (IM c) k)).b&&(Pr.mk (gD (IM c) j) (gD (IM c) k)).b==(Pr.mk (gD (IM c) j) (gD (IM c) k)).a))=true:=by
     show (!(gD (IM c) j==gD (IM c) k&&gD (IM c) k==gD (IM c) j))=true
     have ne:gD (IM c) j≠gD (IM c) k:=λe=>by
      have:mO c j=mO c k:=by unfold mO;rw[e]
      omega
     simp[ne]
    rw[q1,q2,eA,eB]
    exact decide_eq_true jk
   have e:wr (miA c (gD (IM c) k)-1)=mO c k-1:=Ap (by show -9223372036854775808<=mO c k-1;omega) (by show mO c k-1<=9223372036854775807;omega)
   show PrI c (k+1) ⟨wr (miA c (gD (IM c) k)-1),(Mf c k).q ++ [wr (miA c (gD (IM c) k)-1)],(Mf c k).r ++ [⟨gD (IM c) j,gD (IM c) k⟩]⟩
   rw[e]
   refine⟨?_,λp hp=>?_,?_,?_⟩
   ·show ((Mf c k).r ++ [_]).length=((Mf c k).q ++ [_]).length
    rw[List.length_append,List.length_append,ih.len];rfl
   ·show _/\(nB c p).mi-1<=mO c k-1
    rcases List.mem_append.1 hp with hp | hp
    ·obtain⟨q1,q2⟩:=ih.ok p hp
     exact⟨q1,by omega⟩
    ·obtain rfl:=List.mem_singleton.1 hp
     exact⟨⟨pm,lt'⟩,by rw[eB];omega⟩
   ·show ((Mf c k).r ++ [_]).Pairwise _
    rw[List.pairwise_append]
    refine⟨ih.dis,List.pairwise_singleton _ _,λp hp q hq=>?_⟩
    obtain rfl:=List.mem_singleton.1 hq
    have:=(ih.ok p hp).2
    rw[eA];omega
   ·show ((Mf c k).q ++ [_]).length<=k+1
    have:=ih.le
    rw[List.length_append];show _+1<=_;omega
end Go.Bal

namespace Go.Bal
open Go Go.Sym Go.Proofs
def C_zNoP:Ctr:={ α:=CP,xs:=xCP,val:=λx=>.bool (!Ca x.c x.p),keep:=λ_=>[],pre:=λx=>[AP x.c=0] }
def CFB(x:CP):Prop:=ES Try.prog (ann 38 [(vT,A8)]) ASU (AJ ASU) (xCP x) (AD []) (.bool (!Ca x.c x.p)) [] [] []
abbrev W3 a:=VJ (AO (FD a))
attribute [go_sem] W3
theorem CNL(x:CP):(CFB x)=(BL (UV (not (KE (An (Rb x) (W3 x)) (An (Gq x) (W3 x)))) (Rb x) (AO (FD x))) (UV (not (KE (An (Rb x) (W3 x)) (An (Gq x) (W3 x)))) (Gq x) (AO (FD x))) (MD (not (Yr (FD x) (lV x))) (Nw (An (Rb x) (W3 x)) (An (Gq x) (W3 x)) (tJ (Ni (FD x) (Rb x)) (Ni (FD x) (Gq x)))))):=by kernel_rfl
theorem BRM:AW Try.prog yR (C_zNoP.spec dCP):=Je C_zNoP (λ_=>ann 38 [(vT,A8)]) [] [] BPD (λ_=>by kernel_rfl) (λ_=>AA AAC AK) (λ(x:CP) h=>by
 have h0:AP x.c=0:=h
 have hn:=(KB.1 h0).n
 have ew:IntKind.i64.wrap ((x.c.ns.length:Int)-1)=(x.c.ns.length:Int)-1:=Ap (by omega) (by omega)
 show CFB x;rw[CNL]<;> delta MD N6 tJ DY RD RU Mr CJ CG HD KA DV FO FU LW HM JM JF Yr FD lV CK AO BR JQ BL BX DN LH EA ZN ZS IT KE VW VJ HZ ZO UV Ni Gq Rb An Nw W3
 have hb:(bif !PN x.p.a 0 (IntKind.i64.wrap ((x.c.ns.length:Int)-1)) then true else !PN x.p.b 0 (IntKind.i64.wrap ((x.c.ns.length:Int)-1)))=false->(0<=x.p.a/\x.p.a<x.c.ns.length)/\0<=x.p.b/\x.p.b<x.c.ns.length:=λq=>by
  cases q1:PN x.p.a 0 (IntKind.i64.wrap ((x.c.ns.length:Int)-1)) with
  |false=>rw[q1] at q;cases q
  |true=>
   cases q2:PN x.p.b 0 (IntKind.i64.wrap ((x.c.ns.length:Int)-1)) with
   |false=>rw[q1,q2] at q;cases q
   |true=>rw[ew] at q1 q2;have:=IX.1 q1;have:=IX.1 q2;omega
 refine⟨⟨λq=>(hb ((Bool.not_eq_true' _).mp q)).1,λq=>(hb ((Bool.not_eq_true' _).mp q)).2⟩,?_⟩
 unfold Ca tW nA nB wr
 cases PN x.p.a 0 (IntKind.i64.wrap ((x.c.ns.length:Int)-1)) with
 |false=>rfl
 |true=>
  cases PN x.p.b 0 (IntKind.i64.wrap ((x.c.ns.length:Int)-1)) with
  |false=>rfl
  |true=>
   show (!(bif !(x.p.a==x.p.b&&x.p.b==x.p.a) then decide ((gD x.c.ns x.p.a.toNat).mi<(gD x.c.ns x.p.b.toNat).mi) else false))=decide ((gD x.c.ns x.p.a.toNat).mi>=(gD x.c.ns x.p.b.toNat).mi)
   by_cases e:x.p.a=x.p.b
   ·rw[e,show (x.p.b==x.p.b&&x.p.b==x.p.b)=true by simp,decide_eq_true (Int.le_refl _)];rfl
   ·rw[show (x.p.a==x.p.b&&x.p.b==x.p.a)=false by simp[e]]
    show (!decide _)=_
    by_cases q:(gD x.c.ns x.p.a.toNat).mi<(gD x.c.ns x.p.b.toNat).mi
    ·rw[decide_eq_true q,decide_eq_false (by omega)];rfl
    ·rw[decide_eq_false q,decide_eq_true (by omega)];rfl) (λ_=>Kp rfl rfl) _
def lzP(x:CP)(k:Nat):Int:=x.c.p.hi*((gD x.c.ms ((nA x.c x.p).mi.toNat+k)).pl-(gD x.c.ms (nA x.c x.p).mi.toNat).pl)
def lzN(n:Nt):HCell:=.live (.box [.int n.mi,.int n.t.lo,.int n.t.hi,.int n.s.lo,.int n.s.hi])
def lz4(x:CP):Shape:={ α:=Nat,dflt:=0,T:=λk=>⟨[(2,.bptr 201 0),(5,.bptr 203 0),(6,.bptr 204 0),(7,.int (lzP x k)),(8,.int ((nA x.c x.p).mi+k))],[(201,.live (xO x.c)),(203,lzN (nA x.c x.p)),(204,lzN (nB x.c x.p))]⟩,inv:=λk=>k<=((nB x.c x.p).mi-(nA x.c x.p).mi).toNat,meas:=λk=>50-k,first:=[(201,1000),(203,2192),(204,2208)] }
def C_zLt:Ctr:={ α:=CP,xs:=xCP,val:=λx=>.bool (Eg x.c x.p),keep:=λ_=>[],pre:=λx=>[AP x.c=0/\Ca x.c x.p=true] }
def CSS(x:CP):Ann:={ ann 43 [(AKJ,C_zMos.spec dCZG)] with loops:=λid=>if id=4 then some [lz4 x] else none }
def CRP(x:CP):Prop:=ES Try.prog (CSS x) BJU (AJ BJU) (xCP x) (AD []) (.bool (Eg x.c x.p)) [] [] []
abbrev Sv a b:=nB (FD a) (lV b)
abbrev kL a:=nA (FD a) (lV a)
abbrev P5 a:=DY (kL a)
abbrev uL a b:=UI (P5 a) (CG b)
abbrev wF:=El 0 (λi=>(@default Int Int.instInhabited))
abbrev Y7 a:=HM (Rb a)
attribute [go_sem] Sv kL P5 uL wF Y7
theorem CYP(x:CP):(CRP x)=(LF (YG (Rb x) (AO (FD x)) (BX (Gq x)) (Us (Gq x) (FD x))) (KI (λi=>Kk (Ex (FG (lzP x i)) (DR (uL x i) (FD x) (Y7 x)) (FD x) (FD x) (Ev (FD x) (DR (P5 x) (FD x) (Y7 x)) (BB (CX (EM (kL x)) (FD x) (Y7 x)) (AQ (EM (kL x)) (gX x (Y7 x))) (CU (EO (kL x)) (FD x) (Y7 x)) (AQ (EO (kL x)) (gP x (Y7 x))) (DR (DY (Sv x x)) (FD x) (HM (Gq x))) (CX (EM (Sv x x)) (FD x) (HM (Gq x))) (AQ (EM (Sv x x)) (gX x (HM (Gq x)))) (CU (EO (Sv x x)) (FD x) (HM (Gq x))) (AQ (EO (Sv x x)) (gP x (HM (Gq x))))))) i (HM (Mr (DY (Sv x x)) (P5 x))))) (λi=>Fe i (HM (Mr (DY (Sv x x)) (P5 x))) (NL (uL x i) (DY (Sv x x))) (Ga (FD x) (cA (DK (FD x)) (BO (FD x)) (AB (λj=>AT j (FD x) (AM (FD x) j) (AN (FD x) j) (AS (FD x) j) (gX x j) (AL (FD x) j) (AR (FD x) j) (gP x j))) (Bn wF) (AF (uL x i)) (VW (uL x i) (oI (uL x i)) (HK (FD x))) (NV wF) (SA (FD x)))) (KI (λj=>Fv (Dy (lzP x j) (EQ (lzP x i) (M1 (XT (lN x) wF) (uL x i))) (AY (uL x j) (HR (uL x i))) (BY (FD x)) (DF (FD x)) (Ev (FD x) (AF (P5 x)) (BB (BZ (EM (kL x))) (IS (EM (kL x))) (BZ (EO (kL x))) (IS (EO (kL x))) (AF (DY (Sv x x))) (BZ (EM (Sv x x))) (IS (EM (Sv x x))) (BZ (EO (Sv x x))) (IS (EO (Sv x x)))))) (ED j (HM (Mr (DY (Sv x x)) (P5 x)))) j i)) (MD (tF (FD x) (lV x)) (NL (EQ (BK (EM (kL x))) (lzP x i)) (BH (EM (Sv x x))))))):=by kernel_rfl
theorem BRT{x:CP}(h0:AP x.c=0)(hp:Ca x.c x.p=true):((0<=x.p.a/\x.p.a<x.c.ns.length)/\0<=x.p.b/\x.p.b<x.c.ns.length)/\(nA x.c x.p).mi<(nB x.c x.p).mi:=by
 have hn:=(KB.1 h0).n
 unfold Ca at hp
 cases q:tW x.c.ns.length x.p with
 |false=>rw[q] at hp;cases hp
 |true=>
  rw[q] at hp
  cases q2:(!(x.p.a==x.p.b&&x.p.b==x.p.a)) with
  |false=>rw[q2] at hp;cases hp
  |true=>
   rw[q2] at hp
   have hp:decide ((nA x.c x.p).mi<(nB x.c x.p).mi)=true:=hp
   refine⟨?_,of_decide_eq_true hp⟩
   unfold tW wr at q
   rw[Ap (by omega) (by omega),Bool.and_eq_true,IX,IX] at q
   omega
theorem DDH(x:CP)(h:AP x.c=0/\Ca x.c x.p=true):CRP x:=by
 obtain⟨h0,hp⟩:=h
 have hc:=KB.1 h0
 obtain⟨⟨b1,b2⟩,b3⟩:=BRT h0 hp
 have ha:=hc.nt _ (show nA x.c x.p∈x.c.ns from OH (by omega))
 have hb:=hc.nt _ (show nB x.c x.p∈x.c.ns from OH (by omega))
 obtain⟨a1,a2⟩:=ha.mi
 obtain⟨a3,a4⟩:=hb.mi
 obtain⟨m1,m2⟩:=hc.m
 obtain⟨p1,p2,p3⟩:=hc.p
 have step:∀k:Nat,(nA x.c x.p).mi+(k:Int)+1<x.c.ms.length->lzP x (k+1)=lzP x k+x.c.p.hi*Cw x.c ((nA x.c x.p).mi.toNat+k):=λk _=>by
  unfold lzP Cw
  rw[<-Int.mul_add,show (nA x.c x.p).mi.toNat+(k+1)=(nA x.c x.p).mi.toNat+k+1 by omega]
  congr 1;omega
 have bd:∀k:Nat,(nA x.c x.p).mi+(k:Int)<x.c.ms.length->0<=lzP x k/\lzP x k<=240000000:=λk=>by
  induction k with
  |zero=>
   intro _
   have:lzP x 0=0:=by unfold lzP;rw[Nat.add_zero,Int.sub_self,Int.mul_zero]
   omega
  |succ k ih=>
   intro hk
   have h1:=ih (by omega)
   have q0:=hc.mks ((nA x.c x.p).mi.toNat+(k+1)) (by omega)
   have q1:=hc.mks (nA x.c x.p).mi.toNat (by omega)
   have g:=hc.gap (λ_=>false) (g:=(nA x.c x.p).mi.toNat+k) (by omega)
   rw[step k (by omega)]
   have up:∀j:Nat,(nA x.c x.p).mi+(j:Int)<x.c.ms.length->lzP x j<=6000000*j:=λj=>by
    induction j with
    |zero=>
     intro _
     have:lzP x 0=0:=by unfold lzP;rw[Nat.add_zero,Int.sub_self,Int.mul_zero]
     omega
    |succ j jh=>
     intro hj
     have g:=hc.gap (λ_=>false) (g:=(nA x.c x.p).mi.toNat+j) (by omega)
     rw[step j (by omega)]
     have:=jh (by omega)
     omega
   have:=up k (by omega)
   omega
 rw[CYP]<;> delta MD BH BK DY RD RU Mr EM EO CH AB CJ CE AY CG FV NL HD KA UI IG EB FX EC GY GX GR GG DV FO FU KI FP El US HM ED XT JM JF tF FD lV M1 AH CK IW AX JE AI BC AV AF IK IN BI AQ JB BB AC BZ CN BF MC AE AO BD HK DD LZ AZ DC BR BE BS BJ JQ AR BQ IS LY cA SZ BV HF CI OC EQ AS BM CY BY EV CF IE HR BX KL CU GW DN GD CX OT OR OE FQ DF DU HY DR OU HG OD DT FG FW AT MJ JA ZS OF EZ JJ CS GZ BO BW JH AL AN AM GP ID DK FT VW NV FA TQ MR IF LF Ev SA YG kL Fp Gq Gt Rb Bn Dy Ex Sv P5 Ga Fv Us Kk lN Fe gP uL gX Y7 oI wF;simp only[CC,eq_self,implies_true,forall_const,FR]
 refine⟨⟨b1,b2⟩,⟨0,⟨?_,?_,rfl,rfl,rfl,rfl,rfl,rfl,rfl,rfl,rfl,rfl⟩,Nat.zero_le _⟩,λk hk=>⟨λhlt=>⟨⟨⟨by omega,by omega⟩,by omega,h0⟩,k+1,⟨?_,?_⟩,by omega,by omega⟩,λhge=>?_⟩⟩
 ·unfold lzP;rw[Nat.add_zero,Int.sub_self,Int.mul_zero]
 ·show _+((0:Nat):Int)=_;unfold nA;omega
 ·have e:Zb ⟨x.c,NK 0 λ_=>default⟩ ((nA x.c x.p).mi+(k:Int))=x.c.p.hi*Cw x.c ((nA x.c x.p).mi.toNat+k):=by
   show x.c.p.hi*Cw x.c ((nA x.c x.p).mi+(k:Int)).toNat=_
   rw[show ((nA x.c x.p).mi+(k:Int)).toNat=(nA x.c x.p).mi.toNat+k by omega]
  have b:=bd (k+1) (by omega)
  rw[e,<-step k (by omega),Ap (by omega) (by omega)]
 ·rw[Ap (by omega) (by omega)];omega
 ·have ek:(nA x.c x.p).mi.toNat+k=(nB x.c x.p).mi.toNat:=by omega
  have b:=bd k (by omega)
  have t1:=ha.t
  have t2:=hb.t
  have q0:=hc.mks (nA x.c x.p).mi.toNat (by omega)
  have q1:=hc.mks (nB x.c x.p).mi.toNat (by omega)
  have el:lzP x k=x.c.p.hi*((gD x.c.ms (nB x.c x.p).mi.toNat).pl-(gD x.c.ms (nA x.c x.p).mi.toNat).pl):=by unfold lzP;rw[ek]
  have el2:wr (x.c.p.hi*wr ((gD x.c.ms (nB x.c x.p).mi.toNat).pl-(gD x.c.ms (nA x.c x.p).mi.toNat).pl))=lzP x k:=by
   unfold wr
   rw[Ap (n:=(gD x.c.ms (nB x.c x.p).mi.toNat).pl-(gD x.c.ms (nA x.c x.p).mi.toNat).pl) (by omega) (by omega),<-el,Ap (by omega) (by omega)]
  unfold Eg
  rw[el2]
  unfold wr
  rw[Ap (by omega) (by omega),Ap (by omega) (by omega)]
  by_cases q:(nB x.c x.p).t.lo-(nA x.c x.p).t.hi>lzP x k
  ·rw[decide_eq_true q,decide_eq_true (by omega)]
  ·rw[decide_eq_false q,decide_eq_false (by omega)]
theorem BPM:AW Try.prog ADF (C_zLt.spec dCP):=Je C_zLt CSS [] [] CGZ (λ_=>by kernel_rfl) (λ_=>AA BJV AK) (λx h=>DDH x h) (λ_=>Kp rfl rfl) _
def BSB(x:CP):Prop:=ES Try.prog (ann 18 [(Wd,C_Check.spec iT),(yR,C_zNoP.spec dCP),(ADF,C_zLt.spec dCP)]) BJT (AJ BJT) (xCP x) (AD []) (.tup [.bool (uD x).1,.int (uD x).2]) [] [] []
theorem BYL(x:CP):(BSB x)=(And (TY (FD x) (λi=>AT i (FD x) (AM (FD x) i) (AN (FD x) i) (AS (FD x) i) (gX x i) (AL (FD x) i) (AR (FD x) i) (gP x i)) (RQ (FD x)) (IL (FD x))) (pR (Kl (FD x)) (Wg (uD x)) (AY (Ua (uD x)) (Ao (FD x))) (HV (BY (FD x)) (DF (FD x)) (BM (FD x)) (Ar (FD x) (BW (FD x)) (DK (FD x)) (λi=>AT i (FD x) (AM (FD x) i) (AN (FD x) i) (AS (FD x) i) (gX x i) (AL (FD x) i) (AR (FD x) i) (gP x i)) (AF (Rb x)) (AF (Gq x)) (SA (FD x))) (pR (not (Yr (lN x) (lV x))) (Wg (uD x)) (Yo (Ua (uD x))) (Qx (Ag (FD x) (CF (BQ (FD x)) (BW (FD x)) (DK (FD x)) (BO (FD x)) (λi=>AT i (FD x) (AM (FD x) i) (AN (FD x) i) (AS (FD x) i) (gX x i) (AL (FD x) i) (AR (FD x) i) (gP x i)) (AF (Rb x)) (AF (Gq x)) (SA (FD x)) (EA (Yr (lN x) (lV x))))) (MD (Wg (uD x)) (tF (lN x) (lV x))) (Ua (uD x))))))):=by kernel_rfl
theorem CCT:AW Try.prog BHW (C_Late.spec dCP):=Je C_Late (λ_=>ann 18 [(Wd,C_Check.spec iT),(yR,C_zNoP.spec dCP),(ADF,C_zLt.spec dCP)]) [] [] CGC (λ_=>by kernel_rfl) (λ_=>AA dW (AA BRM (AA BPM AK))) (λ(x:CP) h=>by
 have h:x.c.ms.length<4611686018427387904/\x.c.ns.length<4611686018427387904:=h
 show BSB x;rw[BYL]<;> delta MD Iv BH BK DY EM EO CH AB CJ CE AY FV EB FX EC GY GX GR GG DV FO FU LW US QR Wg Ua JM JF Yr tF FD lV AH CK IW AX JE AI BC AV AF IK IN AQ JB BB AC BZ CN BF MC AE AO BD HK DD LZ AZ DC BR BE BS BJ AR BQ SZ BV HF CI OC BL AS BM CY BY CF IE CU GW CX OE FQ DF DU HY DR OD EA FG FW AT JA OF EZ GZ DZ BO BW AL AN AM ID DK MR IL HV UC Ao MG QP MO SA RQ Bf YH Gq Rb Dp TY pR Vq Ag Kl Ar lN gP gX Qx Yo;simp only[CC,eq_self,implies_true,forall_const,FR]
 refine⟨h,λq=>?_,λq=>?_⟩
 ·have q':(AP x.c==0)=false:=by simpa using q
  unfold uD;rw[q'];exact⟨rfl,rfl⟩
 ·have h0:AP x.c=0:=by simpa using q
  have e:uD x=latO x:=by unfold uD;rw[h0];rfl
  rw[e];unfold latO
  refine⟨h0,λr=>?_,λr=>⟨⟨h0,r⟩,?_⟩⟩
  ·rw[r];exact⟨rfl,rfl⟩
  ·rw[r];exact⟨rfl,rfl⟩) (λ_=>Kp rfl rfl) _
end Go.Bal
