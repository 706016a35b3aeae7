/- Package rating: what the reference finds for stages, dry stages, and the widest bounds (no program in sight). -/
import Derived.Test.YtpidmmilfdcepaaGreatRF0
set_option linter.unusedVariables false
set_option linter.unusedSimpArgs false
namespace Go.Bal
open Go Go.Sym Go.Proofs
theorem AMS{x:GBf}:∀(n k:Nat) (o:Span) (m:Bool),(∃j,k<=j/\j<k+n/\(lnK x.a j).length=0)->Db x n k o m=(default,6)
 |0,k,o,m,⟨j,h1,h2,_⟩=>by omega
 |n+1,k,o,m,⟨j,h1,h2,h3⟩=>by
  unfold Db
  by_cases c:(lnK x.a k).length=0
  ·rw[decide_eq_true c];rfl
  ·rw[decide_eq_false c]
   have hj:k+1<=j:=by
    rcases Nat.lt_or_ge k j with q | q
    ·exact q
    ·exact absurd (by rw[show k=j by omega];exact h3) c
   show (bif decide (G1 x k<G8 x k) then _ else _)=_
   cases decide (G1 x k<G8 x k)
   ·exact AMS n (k+1) _ _ ⟨j,hj,by omega,h3⟩
   ·exact AMS n (k+1) _ _ ⟨j,hj,by omega,h3⟩
theorem AMH{x:GBf}:∀(n k:Nat) (o:Span) (m:Bool),(Db x n k o m).2≠0->(Db x n k o m).1=default
 |0,k,o,m,h=>by
  unfold Db at *
  cases m
  ·rfl
  ·exact absurd rfl h
 |n+1,k,o,m,h=>by
  unfold Db at *
  cases c:decide ((lnK x.a k).length=0)
  ·rw[c] at h
   cases d:decide (G1 x k<G8 x k)
   ·rw[d] at h;exact AMH n _ _ _ h
   ·rw[d] at h;exact AMH n _ _ _ h
  ·rfl
theorem CQU{a:GB}(h:AV a=0){p:Nat}(hp:p<=a.b.length)(hc:Ci (SB a.g a.b p)=false):(lnK a p).length=0:=by
 obtain⟨s1,s2,s3,_⟩:=Cb (w:=FM a) (k:=p) (WT h) (by omega) (Int.ofNat_le.2 hp)
 have hn:¬Can (CV a.g a.b p):=λq=>by rw[(Nr (Ts h)).2 q] at hc;cases hc
 have:lnK a p=[]:=Classical.byContradiction λq=>hn ((AAU (s:=CV a.g a.b p) (t:=(DD (FM a) p).lo) (Bv (Ts h)) (by omega)).1 q)
 rw[this];rfl
theorem CUX{a:GB}(h:AV a=0){p:Nat}(hp:p<=a.b.length)(hc:Ci (SB a.g a.b p)=true):(lnK a p).length≠0:=λq=>by
 obtain⟨s1,s2,s3,_⟩:=Cb (w:=FM a) (k:=p) (WT h) (by omega) (Int.ofNat_le.2 hp)
 exact (AAU (s:=CV a.g a.b p) (t:=(DD (FM a) p).lo) (Bv (Ts h)) (by omega)).2 ((Nr (Ts h)).1 hc) (List.eq_nil_of_length_eq_zero q)
theorem CJG{x:GBf}(h:AV x.a=0)(hf:inF x=true){p:Nat}(hp:p<=x.a.b.length)(hc:Ci (SB x.a.g x.a.b p)=false):LU x=(default,6):=by
 unfold LU;rw[h,hf]
 exact AMS _ _ _ _ ⟨p,Nat.zero_le _,by omega,CQU h hp hc⟩
theorem CHN{x:GB}(h:AV x=0)(hp:∀p:Nat,p<=x.b.length->Ci (SB x.g x.b p)=true):Thru x.g x.b:=by
 have hb:=WT h
 obtain⟨b1,b2,b3,b4,b5⟩:=hb
 have hc:AL x.g=0:=by
  unfold AV at h
  cases q:AL x.g==0 with
  |true=>simpa using q
  |false=>rw[q] at h;exact h
 exact⟨(JU hc).1,b2,b4,b5,b3,λk hk=>(Nr b2).1 (hp k hk)⟩
def stI(l:List Gau)(b:List Int)(q T:Int)(o:Span)(m:Bool):Prop:=(m=false->o=default/\∀t,0<=t->t<T->¬uV l b q t)/\(m=true->(0<=o.lo/\o.lo<=o.hi/\o.hi<T)/\uV l b q o.lo/\uV l b q o.hi/\∀t,0<=t->t<T->uV l b q t->o.lo<=t/\t<=o.hi)
theorem DBN(l:List Gau)(b:List Int)(q:Int):stI l b q 0 default false:=⟨λ_=>⟨rfl,λt _ _=>by omega⟩,λh=>by cases h⟩
theorem CDH{l:List Gau}{b:List Int}{q T:Int}{o:Span}{m:Bool}(h:stI l b q T o m)(hc:¬uV l b q T):stI l b q (T+1) o m:=by
 refine⟨λhm=>⟨(h.1 hm).1,λt a c=>?_⟩,λhm=>?_⟩
 ·by_cases e:t=T
  ·rw[e];exact hc
  ·exact (h.1 hm).2 t a (by omega)
 ·obtain⟨h1,h2,h3,h4⟩:=h.2 hm
  refine⟨by omega,h2,h3,λt a c d=>?_⟩
  by_cases e:t=T
  ·rw[e] at d;exact absurd d hc
  ·exact h4 t a (by omega) d
theorem BYI{l:List Gau}{b:List Int}{q T:Int}{o:Span}{m:Bool}(hT:0<=T)(h:stI l b q T o m)(hc:uV l b q T):stI l b q (T+1) ⟨bif m then o.lo else T,T⟩ true:=by
 refine⟨λhm=>(by cases hm),λ_=>?_⟩
 cases m with
 |false=>
  obtain⟨_,h2⟩:=h.1 rfl
  refine⟨⟨hT,Int.le_refl _,by show T<T+1;omega⟩,hc,hc,λt a c d=>?_⟩
  by_cases e:t=T
  ·show T<=t/\t<=T;omega
  ·exact absurd d (h2 t a (by omega))
 |true=>
  obtain⟨h1,h2,h3,h4⟩:=h.2 rfl
  refine⟨⟨h1.1,by show o.lo<=T;omega,by show T<T+1;omega⟩,h2,hc,λt a c d=>?_⟩
  by_cases e:t=T
  ·show o.lo<=t/\t<=T;omega
  ·have:=h4 t a (by omega) d;show o.lo<=t/\t<=T;omega
theorem BSX{l:List Gau}{b:List Int}{q:Int}{o:Span}{m:Bool}(H:Thru l b)(hq:0<=q/\q<=200000)(h:stI l b q 2001 o m):LU ⟨⟨l,b⟩,q⟩=bif m then (o,0) else (default,5):=by
 obtain⟨s1,s2,s3⟩:=H.stages hq
 have e:LU ⟨⟨l,b⟩,q⟩=Db ⟨⟨l,b⟩,q⟩ (b.length+1) 0 default false:=by
  unfold LU;rw[H.open,show inF ⟨⟨l,b⟩,q⟩=true by unfold inF JD;simpa using hq];rfl
 cases m with
 |false=>
  obtain⟨_,h2⟩:=h.1 rfl
  have h5:(LU ⟨⟨l,b⟩,q⟩).2=5:=by
   rcases s1 with s1 | s1
   ·obtain⟨⟨a1,a2⟩,_⟩:=s3 s1
    exact absurd a2 (h2 _ a1.1 (by omega))
   ·exact s1
  have hd:(LU ⟨⟨l,b⟩,q⟩).1=default:=by
   rw[e] at h5 ⊢
   exact AMH _ _ _ _ (by rw[h5];omega)
  exact Prod.ext hd h5
 |true=>
  obtain⟨h1,h2,h3,h4⟩:=h.2 rfl
  obtain⟨a1,a2,a3⟩:=s2 o.lo ⟨h1.1,by omega⟩ h2
  obtain⟨_,b2,b3⟩:=s2 o.hi ⟨by omega,by omega⟩ h3
  obtain⟨⟨c1,c2⟩,c3,c4⟩:=s3 a1
  have d1:=h4 _ c1.1 (by omega) c2
  have d2:=h4 _ c3.1 (by omega) c4
  refine Prod.ext ?_ a1
  show (LU ⟨⟨l,b⟩,q⟩).1=o
  have e1:(LU ⟨⟨l,b⟩,q⟩).1.lo=o.lo:=by omega
  have e2:(LU ⟨⟨l,b⟩,q⟩).1.hi=o.hi:=by omega
  generalize (LU ⟨⟨l,b⟩,q⟩).1=z at *
  cases z;cases o;simp_all
def tP(b:List Int)(p:Nat):Int:=if p=0 then 0 else if p<=b.length then gD b (p-1) else 2001
theorem CZK{l:List Gau}{b:List Int}{p:Nat}(hp:p<=b.length):tP b p=(JY b p).lo:=by
 unfold tP;rw[R0]
 by_cases h:p=0
 ·rw[if_pos h,if_neg (by omega)]
 ·rw[if_neg h,if_pos hp,if_pos (by omega)]
theorem CIT{b:List Int}(hb:∀x∈b,1<=x/\x<=2000){p:Nat}(hp:p<=b.length):tP b (p+1)=(JY b p).hi+1:=by
 unfold tP;rw[AER hb,if_neg (by omega)]
 by_cases h:p<b.length
 ·rw[if_pos (by omega),if_pos h,show p+1-1=p by omega];omega
 ·rw[if_neg (by omega),if_neg h];omega
theorem BDB{a b:Rt}(ha:sV a)(hb:sV b):Qe a b=false↔XE b a:=CKA ha hb
theorem CRN{l:List Gau}{b:List Int}(H:Thru l b){p:Nat}(hp:p<=b.length){t:Int}(ht:0<=t/\t<=2000):RP (SB l b p) t=RP (CV l b p) t:=AWQ (Bv H.ok) (λx=>tF) ht (H.ne hp ht)
theorem AXD{l:List Gau}{b:List Int}(H:Thru l b){q:Int}(hq:0<=q/\q<=200000){p:Nat}(hp:p<=b.length){t:Int}(h1:(JY b p).lo<=t)(h2:t<=(JY b p).hi):(bif Qe (qR q) (RP (SB l b p) t).lo then true else Qe (RP (SB l b p) t).hi (qR q))=false↔uV l b q t:=by
 obtain⟨s1,s2,s3,s4⟩:=H.span hp
 have ht:0<=t/\t<=2000:=by omega
 obtain⟨i1,i2,_⟩:=H.in hp ht
 unfold uV
 rw[(H.flow ht).2,s4 t h1 h2,CRN H hp ht,<-BDB (BNS hq) i1,<-BDB i2 (BNS hq)]
 cases Qe (qR q) (RP (CV l b p) t).lo<;>simp
theorem upO0{l:List Gau}{b:List Int}(hb:US l b)(v:BnO->Bool)(c:Bnd->Prop)(hv:∀t,(JY b 0).lo<=t->t<=(JY b 0).hi->(v ⟨RP (CV l b (0:Nat)) t⟩=true↔c (RP (CV l b (0:Nat)) t)))(hm:∀t u,(JY b 0).lo<=t->t<=u->u<=(JY b 0).hi->c (RP (CV l b (0:Nat)) u)->c (RP (CV l b (0:Nat)) t)):((JY b 0).lo-1<=sT v ⟨FM ⟨l,b⟩,0⟩/\sT v ⟨FM ⟨l,b⟩,0⟩<=(JY b 0).hi)/\(∀t,(JY b 0).lo<=t->t<=sT v ⟨FM ⟨l,b⟩,0⟩->c (RP (CV l b (0:Nat)) t))/\∀t,sT v ⟨FM ⟨l,b⟩,0⟩<t->t<=(JY b 0).hi->¬c (RP (CV l b (0:Nat)) t):=by
 obtain⟨s1,s2,s3,s4⟩:0<=(JY b 0).lo/\(JY b 0).lo<=(JY b 0).hi/\(JY b 0).hi<=2000/\∀m:Int,(JY b 0).lo<=m->m<=(JY b 0).hi->(KB b m:Int)=0:=Cb (w:=FM ⟨l,b⟩) (k:=0) hb (Int.le_refl _) (Int.natCast_nonneg _)
 have hp:∀t,(JY b 0).lo<=t->t<=(JY b 0).hi->(mX v ⟨FM ⟨l,b⟩,0⟩ t=true↔c (RP (CV l b (0:Nat)) t)):=λt a d=>by
  have e:mX v ⟨FM ⟨l,b⟩,0⟩ t=v ⟨RP (CV l b (KB b t)) t⟩:=rfl
  rw[e,s4 t a d];exact hv t a d
 have hs:=ABF (pr:=mX v ⟨FM ⟨l,b⟩,0⟩) 3000 ((JY b 0).lo-1) (JY b 0).hi (by omega) (by omega) (λm m' a d e f=>(hp m (by omega) (by omega)).2 (hm m m' (by omega) d e ((hp m' (by omega) e).1 f)))
 have hi:=BAX (pr:=mX v ⟨FM ⟨l,b⟩,0⟩) 3000 ((JY b 0).lo-1) (JY b 0).hi (by omega)
 have ho:sT v ⟨FM ⟨l,b⟩,0⟩=upL (mX v ⟨FM ⟨l,b⟩,0⟩) 3000 ((JY b 0).lo-1) (JY b 0).hi:=rfl
 rw[<-ho] at hs hi
 refine⟨hi,λt a d=>(hp t a (by omega)).1 (hs.1 t (by omega) d),λt a d hc=>?_⟩
 have:=hs.2 t a d
 rw[(hp t (by omega) d).2 hc] at this;cases this
theorem dry0{x:GB}(hE:AV x=0)(hc:Ci (SB x.g x.b 0)=true):(Du x).2=0/\(-1<=(Du x).1.lo/\(Du x).1.lo<=(Du x).1.hi/\(Du x).1.hi<=(JY x.b 0).hi)/\∀t,0<=t/\t<=(JY x.b 0).hi->(t<=(Du x).1.lo↔(RP (SB x.g x.b 0) t).hi.n=0)/\(t<=(Du x).1.hi↔(RP (SB x.g x.b 0) t).lo.n=0):=by
 obtain⟨l,b⟩:=x
 have hb:US l b:=WT hE
 have ho:=Bv (b:=b) (k:=0) hb.2.1
 obtain⟨s1,s2,s3,s4⟩:0<=(JY b 0).lo/\(JY b 0).lo<=(JY b 0).hi/\(JY b 0).hi<=2000/\∀m:Int,(JY b 0).lo<=m->m<=(JY b 0).hi->(KB b m:Int)=0:=Cb (w:=FM ⟨l,b⟩) (k:=0) hb (Int.le_refl _) (Int.natCast_nonneg _)
 have hcan:Can (CV l b (0:Nat)):=(Nr hb.2.1).1 hc
 have hne:∀t,(JY b 0).lo<=t->t<=(JY b 0).hi->PX (CV l b (0:Nat)) t≠[]:=λt a c=>(AAU ho (by omega)).2 hcan
 have e:Du ⟨l,b⟩=(⟨sT rU ⟨FM ⟨l,b⟩,0⟩,sT sY ⟨FM ⟨l,b⟩,0⟩⟩,0):=by
  unfold Du
  rw[hE,decide_eq_false (show ¬(lnK ⟨l,b⟩ 0).length=0 from CUX hE (Nat.zero_le _) hc)];rfl
 have hin:∀t,(JY b 0).lo<=t->t<=(JY b 0).hi->sV (RP (CV l b (0:Nat)) t).lo/\sV (RP (CV l b (0:Nat)) t).hi/\XE (RP (CV l b (0:Nat)) t).lo (RP (CV l b (0:Nat)) t).hi:=λt a c=>K2 ho (by omega) (hne t a c)
 obtain⟨⟨a1,a2⟩,a3,a4⟩:=upO0 hb rU (λB=>B.hi.n=0) (λt a c=>(CGF ho (hne t a c)).2) (λt u a c d f=>BCS (hin t a (by omega)).2.1 (hin u (by omega) d).2.1 (ABT ho (by omega) c (by omega) (hne t a (by omega))).2 f)
 obtain⟨⟨b1,b2⟩,b3,b4⟩:=upO0 hb sY (λB=>B.lo.n=0) (λt a c=>(CGF ho (hne t a c)).1) (λt u a c d f=>BCS (hin t a (by omega)).1 (hin u (by omega) d).1 (ABT ho (by omega) c (by omega) (hne t a (by omega))).1 f)
 have z0:(JY b 0).lo=0:=by rw[R0];rfl
 rw[e]
 refine⟨rfl,⟨by show -1<=sT rU _;omega,?_,b2⟩,λt ht=>?_⟩
 ·show sT rU ⟨FM ⟨l,b⟩,0⟩<=sT sY ⟨FM ⟨l,b⟩,0⟩
  refine Classical.byContradiction λhc=>?_
  have c1:(JY b 0).lo<=sT rU ⟨FM ⟨l,b⟩,0⟩:=by omega
  have c2:=a3 _ c1 (Int.le_refl _)
  exact b4 _ (by omega) a2 (BCS (hin _ c1 a2).1 (hin _ c1 a2).2.1 (hin _ c1 a2).2.2 c2)
 ·have t2:t<=(JY b 0).hi:=ht.2
  have t1:(JY b 0).lo<=t:=by omega
  have em:RP (SB l b 0) t=RP (CV l b (0:Nat)) t:=AWQ ho (λx=>tF) (by omega) (hne t t1 t2)
  show (_↔(RP (SB l b 0) t).hi.n=0)/\(_↔(RP (SB l b 0) t).lo.n=0)
  rw[em]
  exact⟨⟨λhl=>a3 t t1 hl,λhz=>Classical.byContradiction λhc=>a4 t (Int.not_le.1 hc) t2 hz⟩,λhl=>b3 t t1 hl,λhz=>Classical.byContradiction λhc=>b4 t (Int.not_le.1 hc) t2 hz⟩
def dyI(x:GB)(T:Int)(o:Span):Prop:=(0<=T/\T<=(JY x.b 0).hi+1)/\o=⟨min (T-1) (Du x).1.lo,min (T-1) (Du x).1.hi⟩
def Ya(b:Bnd):Rt:=El (b.hi.n*b.lo.d-b.lo.n*b.hi.d) (b.hi.d*b.lo.d)
def wdB(a:GB)(t:Int):Bnd:=RP (CV a.g a.b (KB a.b t)) t
def wdN(a:GB)(t:Int):Bool:=decide ((PX (CV a.g a.b (KB a.b t)) t).length=0)
def wdS(a:GB):Nat->Int->Int->Rt->Int×Int
 |0,_,o,_=>(o,0)
 |n+1,t,o,r=>bif wdN a t then (0,6) else bif Qe r (Ya (wdB a t)) then wdS a n (t+1) t (Ya (wdB a t)) else wdS a n (t+1) o r
structure GBw where
 a:GB
 f:Int
 t:Int
def G0(x:GBw):Bool:=JD x.f 0 2000&&JD x.t x.f 2000&&decide (x.t-x.f<200)
def wdM(x:GBw):Int×Int:=bif AV x.a==0 then (bif G0 x then wdS x.a (x.t-x.f+1).toNat x.f x.f ⟨-1,1⟩ else (0,4)) else (0,AV x.a)
structure G3 where
 a:Gau
 b:Gau
 c:Gau
def dG3:List AVal->Option G3
 |[.d (.agg [.v (.int .i64 a),.v (.int .i64 b),.v (.int .i64 c)]),.d (.agg [.v (.int .i64 d),.v (.int .i64 e),.v (.int .i64 f)]),.d (.agg [.v (.int .i64 g),.v (.int .i64 h),.v (.int .i64 i)])]=>some ⟨⟨a,b,c⟩,⟨d,e,f⟩,⟨g,h,i⟩⟩
 |_=>none
def xG3(x:G3):List AVal:=[.d (Ry x.a),.d (Ry x.b),.d (Ry x.c)]
theorem hG3(xs:List AVal)(a:G3)(h:dG3 xs=some a):xs=xG3 a:=by
 unfold dG3 at h;split at h<;>cases h;rfl
def BJX:=pD dG3 (λx=>.bool (Vh x.a x.b x.c)) λx=>[IT x.a/\IT x.b/\IT x.c]
def CFM(x:G3):Prop:=AS ZP (ann 166 []) Tryz.f108 (AE Tryz.f108) (xG3 x) (AB []) (.bool (Vh x.a x.b x.c)) [] [] []
abbrev tM:=G3.a
abbrev YQ:=G3.c
abbrev Gb a:=Wk (YQ a)
abbrev AWA a b c:=AWO a (Gb b) c
abbrev UE a:=Wk (tM a)
abbrev Zc a b c:=AWA a b (UE c)
abbrev kS a:=Wk (G3.b a)
abbrev fJ a:=Qo (YQ a)
abbrev Rb a b:=minI (Qo a) b
abbrev AVG a b:=Rb a (Qo b)
abbrev AEK a b:=hd47 a (tE b)
abbrev AXH a b:=AEK (tE a) b
abbrev zN a:=tE (tM a)
abbrev ZA a b c:=Vh (tM a) (G3.b b) (YQ c)
abbrev oX a b:=VS a (Gb b)
abbrev oE a:=tE (YQ a)
abbrev AEI a b:=AXH a (G3.b b)
abbrev xU a b:=AVG a (G3.b b)
abbrev P5 a:=AME (hd58 a a)
abbrev Jw a b:=AEI (tM a) b
abbrev Sr a b:=xU (tM a) b
attribute [go_sem] tM YQ Gb AWA UE Zc kS fJ Rb AVG AEK AXH zN ZA oX oE AEI xU P5 Jw Sr
theorem CLC(x:G3):(CFM x)=(HZ (VS (UE x) (kS x)) (HZ (oX (UE x) x) (HZ (oX (UE x) x) (nO (ZA x x x) (hd47 (oE x) (Jw x x)) (Rb (YQ x) (Sr x x))) (Hd (JR (Oa (Jw x x) (Sr x x)) (Oa (hd47 (oE x) (Jw x x)) (Rb (YQ x) (Sr x x)))) (Oa (Jw x x) (Rb (YQ x) (Sr x x))) (KU (ZA x x x)) (Hd (VS (Gb x) (UE x)) (Bf (Gb x)) (IN (ZA x x x)) (Mn (ZA x x x) (hd7 (yQ (SI (Jw x x) (P5 (Gb x))) (hd47 (Jw x x) (hd47 (oE x) (Jw x x))) (Gb x) (UE x)) (Zc (Rb (YQ x) (Sr x x)) x x)) (hd6 (yQ (SI (minI (Sr x x) (Rb (YQ x) (Sr x x))) (P5 (Gb x))) (Rb (YQ x) (Sr x x)) (Gb x) (UE x)) (Zc (hd47 (oE x) (Jw x x)) x x)))))) (HZ (oX (UE x) x) (nO (ZA x x x) (oE x) (fJ x)) (Hd (JR (Oa (Jw x x) (Sr x x)) (Oa (oE x) (fJ x))) (Oa (Jw x x) (fJ x)) (KU (ZA x x x)) (Hd (Bf (UE x)) (oX (UE x) x) (IN (ZA x x x)) (Mn (ZA x x x) (hd7 (Up (Zc (Jw x x) x x) (SI (AEK (Jw x x) (YQ x)) (P5 (UE x)))) (Zc (Sr x x) x x)) (hd6 (Up (Zc (minI (Sr x x) (fJ x)) x x) (SI (fJ x) (P5 (UE x)))) (Zc (Jw x x) x x))))))) (HZ (oX (kS x) x) (HZ (oX (UE x) x) (nO (ZA x x x) (AEI (YQ x) x) (xU (YQ x) x)) (Hd (JR (Oa (zN x) (Qo (tM x))) (Oa (AEI (YQ x) x) (xU (YQ x) x))) (Oa (zN x) (xU (YQ x) x)) (KU (ZA x x x)) (Hd (VS (Gb x) (UE x)) (Bf (Gb x)) (IN (ZA x x x)) (Mn (ZA x x x) (hd7 (yQ (SI (zN x) (P5 (Gb x))) (hd47 (zN x) (AEI (YQ x) x)) (Gb x) (UE x)) (Zc (xU (YQ x) x) x x)) (hd6 (yQ (SI (Rb (tM x) (xU (YQ x) x)) (P5 (Gb x))) (xU (YQ x) x) (Gb x) (UE x)) (Zc (AEI (YQ x) x) x x)))))) (HZ (oX (UE x) x) (nO (ZA x x x) (oE x) (fJ x)) (Hd (JR (Oa (zN x) (Qo (tM x))) (Oa (oE x) (fJ x))) (Oa (zN x) (fJ x)) (KU (ZA x x x)) (Hd (VS (kS x) (UE x)) (oX (kS x) x) (IN (ZA x x x)) (Mn (ZA x x x) (hd7 (yQ (AWA (zN x) x (kS x)) (AXH (tM x) (YQ x)) (kS x) (UE x)) (Zc (Qo (G3.b x)) x x)) (hd6 (yQ (AWA (AVG (tM x) (YQ x)) x (kS x)) (fJ x) (kS x) (UE x)) (Zc (tE (G3.b x)) x x)))))))):=by kernel_rfl
structure BeA where
 a:Int
 b:Int
 v:Int
 w:Int
 t:Int
def dBeA:List AVal->Option BeA
 |[.d (.v (.int .i64 a)),.d (.v (.int .i64 b)),.d (.v (.int .i64 v)),.d (.v (.int .i64 w)),.d (.v (.int .i64 t))]=>some ⟨a,b,v,w,t⟩
 |_=>none
def xBeA(x:BeA):List AVal:=[.int x.a,.int x.b,.int x.v,.int x.w,.int x.t]
theorem hBeA(xs:List AVal)(a:BeA)(h:dBeA xs=some a):xs=xBeA a:=by
 unfold dBeA at h;split at h<;>cases h;rfl
def beyM(x:BeA):Rt:=El (x.v*(x.b-x.t)+x.w*(x.t-x.a)) (x.b-x.a)
def BMU:=pD dBeA (λx=>.d (G2 (beyM x))) λx=>[(0<=x.a/\x.a<x.b/\x.b<=2000)/\(0<=x.v/\x.v<=200000)/\(0<=x.w/\x.w<=200000)/\0<=x.t/\x.t<=2000]
def BYQ(x:BeA):Prop:=AS ZP (ann 26 [(98,Pv)]) Tryz.f136 (AE Tryz.f136) (xBeA x) (AB []) (.d (G2 (beyM x))) [] [] []
abbrev AAA:=BeA.b
abbrev ABU:=BeA.a
attribute [go_sem] AAA ABU
theorem CJI(x:BeA):(BYQ x)=(bY (S4 (Q6 (PS (AAA x) (ABU x))) (PS (AAA x) (ABU x)) 2305843009213693952 (-2305843009213693952) (lM (BeA.v x) (AAA x) (BeA.t x) (BeA.w x) (ABU x)) (Ze (lM (BeA.v x) (AAA x) (BeA.t x) (BeA.w x) (ABU x)))) (MH (beyM x)) (MH (lV (lM (BeA.v x) (AAA x) (BeA.t x) (BeA.w x) (ABU x)) (PS (AAA x) (ABU x)))) (QA (beyM x)) (QA (lV (lM (BeA.v x) (AAA x) (BeA.t x) (BeA.w x) (ABU x)) (PS (AAA x) (ABU x))))):=by kernel_rfl
structure PrA where
 a:Gau
 b:Gau
 t:Int
def dPrA:List AVal->Option PrA
 |[.d (.agg [.v (.int .i64 a),.v (.int .i64 b),.v (.int .i64 c)]),.d (.agg [.v (.int .i64 d),.v (.int .i64 e),.v (.int .i64 f)]),.d (.v (.int .i64 t))]=>some ⟨⟨a,b,c⟩,⟨d,e,f⟩,t⟩
 |_=>none
def xPrA(x:PrA):List AVal:=[.d (Ry x.a),.d (Ry x.b),.int x.t]
theorem hPrA(xs:List AVal)(a:PrA)(h:dPrA xs=some a):xs=xPrA a:=by
 unfold dPrA at h;split at h<;>cases h;rfl
def BQH:=pD dPrA (λx=>.tup [.d (G2 (U0 x.a x.b x.t)),.d (G2 (U8 x.a x.b x.t))]) λx=>[IT x.a/\IT x.b/\x.a.st<x.b.st/\0<=x.t/\x.t<=2000]
def BRD(x:PrA):Prop:=AS ZP (ann 96 [(136,BMU)]) Tryz.f119 (AE Tryz.f119) (xPrA x) (AB []) (.tup [.d (G2 (U0 x.a x.b x.t)),.d (G2 (U8 x.a x.b x.t))]) [] [] []
abbrev Lp:=PrA.t
abbrev YS:=PrA.b
abbrev Ev:=PrA.a
abbrev sI:=U0
abbrev jE:=U8
abbrev kA a:=Wk (YS a)
abbrev kC a:=Wk (Ev a)
abbrev Od a b c d e:=beyM (BeA.mk (kC a) (kA b) c d (Lp e))
abbrev iF a:=Qo (YS a)
abbrev gH a b:=AVG (Ev a) (YS b)
abbrev iC a b:=AXH (Ev a) (YS b)
abbrev dO a:=tE (Ev a)
abbrev T1 a:=VF (Lp a)
abbrev X2 a:=FJ (Lp a)
abbrev dY a:=Cd a (qH a)
abbrev L9 a:=AOC (YS a)
abbrev K3 a:=AQJ (Ev a)
attribute [go_sem] Lp YS Ev sI jE kA kC Od iF gH iC dO T1 X2 dY L9 K3
theorem CGZ(x:PrA):(BRD x)=(HZ (hd6 (Lp x) (kA x)) (AR (AW (AR (AO (K3 x) (OB (kC x) (kA x)) (L9 x)) (dY (Rb (Ev x) (iC x x))) (dY (iC x x)) (X2 x) (T1 x)) (AO (K3 x) (OB (kC x) (kA x)) (L9 x)) (dY (dO x)) (Cd (iF x) (AQA (YS x))) (X2 x) (T1 x)) (Gc (sI (Ev x) (YS x) (Lp x)) (Od x x (Rb (Ev x) (iC x x)) (iC x x) x)) (Fs (sI (Ev x) (YS x) (Lp x)) (Od x x (Rb (Ev x) (iC x x)) (iC x x) x)) (Gc (jE (Ev x) (YS x) (Lp x)) (Od x x (dO x) (iF x) x)) (Fs (jE (Ev x) (YS x) (Lp x)) (Od x x (dO x) (iF x) x))) (HZ (hd7 (Lp x) (kC x)) (AR (AW (AR (AO (K3 x) (OB (kC x) (kA x)) (L9 x)) (dY (dO x)) (Cd (iF x) (AQA (YS x))) (X2 x) (T1 x)) (AO (K3 x) (OB (kC x) (kA x)) (L9 x)) (dY (gH x x)) (dY (AEK (gH x x) (YS x))) (X2 x) (T1 x)) (Gc (sI (Ev x) (YS x) (Lp x)) (Od x x (dO x) (iF x) x)) (Fs (sI (Ev x) (YS x) (Lp x)) (Od x x (dO x) (iF x) x)) (Gc (jE (Ev x) (YS x) (Lp x)) (Od x x (gH x x) (AEK (gH x x) (YS x)) x)) (Fs (jE (Ev x) (YS x) (Lp x)) (Od x x (gH x x) (AEK (gH x x) (YS x)) x))) (AR (AW (AR (AO (K3 x) (OB (kC x) (kA x)) (L9 x)) (dY (dO x)) (dY (iC x x)) (X2 x) (T1 x)) (AO (K3 x) (OB (kC x) (kA x)) (L9 x)) (dY (gH x x)) (Cd (iF x) (AQA (YS x))) (X2 x) (T1 x)) (Gc (sI (Ev x) (YS x) (Lp x)) (Od x x (dO x) (iC x x) x)) (Fs (sI (Ev x) (YS x) (Lp x)) (Od x x (dO x) (iC x x) x)) (Gc (jE (Ev x) (YS x) (Lp x)) (Od x x (gH x x) (iF x) x)) (Fs (jE (Ev x) (YS x) (Lp x)) (Od x x (gH x x) (iF x) x))))):=by kernel_rfl
def C_rAsk:Ctr:={ α:=GB,xs:=xGB,val:=λx=>.int (AV x),pre:=λx=>[x.g.length<1073741824/\x.b.length<1073741824] }
def CGE(x:GB):Prop:=AS ZP (ann 13 [(14,C_rCheck.spec NU),(57,C_rBrok.spec dIs1)]) Tryz.f70 (AE Tryz.f70) (xGB x) (AB []) (.int (AV x)) [] [] []
abbrev Y5 a:=MB (PQ a)
attribute [go_sem] Y5
theorem CLJ(x:GB):(CGE x)=(Sa (mQ (Tk x x) (Sc x x) (PO x)) (yG x) (oG x (yG x)) (And (Dd (Lz x x) (Lw x x) (Y5 x)) (oG x (La (PQ x))))):=by kernel_rfl
theorem BBW(a b:Int):maxI a b=max a b:=by unfold maxI;split<;>omega
theorem BNP(a b:Int):minI a b=min a b:=by unfold minI;split<;>omega
theorem V5{v d:Int}(hv:0<=v/\v<=200000)(hd:-2000<=d/\d<=2000):-400000000<=v*d/\v*d<=400000000:=by
 have e1:=Int.mul_le_mul_of_nonneg_left hd.1 hv.1
 have e2:=Int.mul_le_mul_of_nonneg_left hd.2 hv.1
 omega
theorem AHK{v d:Int}(hv:0<=v/\v<=200000)(hd:-2000<=d/\d<=2000):IntKind.i64.wrap (v*d)=v*d:=by
 have:=V5 hv hd
 exact HL (by omega) (by omega)
theorem CFH{a b c:Gau}(ha:IT a)(hb:IT b)(hc:IT c)(h1:(a.st==b.st)=false)(h2:(b.st==c.st)=false)(h3:(a.st==c.st)=false)(h4:(bif bif decide (a.lo>a.hi) then true else decide (c.lo>c.hi) then true else decide (a.lo>c.hi))=false)(h5:(bif b.st==a.st then true else b.st==c.st)=false):Vh a b c=bif decide (IntKind.i64.wrap (IntKind.i64.wrap (a.lo*IntKind.i64.wrap (c.st-b.st))+IntKind.i64.wrap (max a.lo c.lo*IntKind.i64.wrap (b.st-a.st)))<=IntKind.i64.wrap (b.hi*IntKind.i64.wrap (c.st-a.st))) then decide (IntKind.i64.wrap (IntKind.i64.wrap (min a.hi c.hi*IntKind.i64.wrap (c.st-b.st))+IntKind.i64.wrap (c.hi*IntKind.i64.wrap (b.st-a.st)))>=IntKind.i64.wrap (b.lo*IntKind.i64.wrap (c.st-a.st))) else false:=by
 obtain⟨a1,a2,a3,a4,a5⟩:=ha
 obtain⟨b1,b2,b3,b4,b5⟩:=hb
 obtain⟨c1,c2,c3,c4,c5⟩:=hc
 rw[show IntKind.i64.wrap (c.st-b.st)=c.st-b.st from HL (by omega) (by omega),show IntKind.i64.wrap (b.st-a.st)=b.st-a.st from HL (by omega) (by omega),show IntKind.i64.wrap (c.st-a.st)=c.st-a.st from HL (by omega) (by omega)]
 rw[AHK (v:=a.lo) (d:=c.st-b.st) (by omega) (by omega),AHK (v:=max a.lo c.lo) (d:=b.st-a.st) (by omega) (by omega),AHK (v:=b.hi) (d:=c.st-a.st) (by omega) (by omega),AHK (v:=min a.hi c.hi) (d:=c.st-b.st) (by omega) (by omega),AHK (v:=c.hi) (d:=b.st-a.st) (by omega) (by omega),AHK (v:=b.lo) (d:=c.st-a.st) (by omega) (by omega)]
 have m1:=V5 (v:=a.lo) (d:=c.st-b.st) (by omega) (by omega)
 have m2:=V5 (v:=max a.lo c.lo) (d:=b.st-a.st) (by omega) (by omega)
 have m3:=V5 (v:=min a.hi c.hi) (d:=c.st-b.st) (by omega) (by omega)
 have m4:=V5 (v:=c.hi) (d:=b.st-a.st) (by omega) (by omega)
 rw[HL (n:=a.lo*(c.st-b.st)+max a.lo c.lo*(b.st-a.st)) (by omega) (by omega),HL (n:=min a.hi c.hi*(c.st-b.st)+c.hi*(b.st-a.st)) (by omega) (by omega)]
 unfold Vh thrA thrB iO thrC J9
 rw[h2] at h5
 simp only[h1,h2,h3,cond_false,h4,h5]
theorem BTF:AH ZP 108 BJX:=OG xG3 hG3 λx h=>WP (A:=ann 166 []) (ren:=[]) (fz:=[]) Tryz.func108 (by kernel_rfl) AD (by
 show CFM x;rw[CLC]<;> dsimp only[go_sem];simp only[CC,CU,BBW,BNP]
 obtain⟨ha,hb,hc⟩:IT x.a/\IT x.b/\IT x.c:=h
 refine⟨λh1=>⟨λh2=>⟨λh3=>?_,λh3=>(by rw[h2] at h3;cases h3)⟩,λh2=>⟨λh3=>(by rw[h2] at h3;cases h3),λ_=>⟨λh4=>?_,λh4=>?_⟩⟩⟩,λh1=>⟨λh2=>⟨λh3=>?_,λh3=>⟨λh4=>?_,λh4=>⟨λh5=>?_,λh5=>?_⟩⟩⟩,λh2=>⟨λh3=>?_,λh3=>⟨λh4=>?_,λh4=>⟨λh5=>?_,λh5=>?_⟩⟩⟩⟩⟩
 ·unfold Vh thrA thrB iO thrC J9 Bs;simp only[h1,h2,cond_true,cond_false]
 ·unfold Vh thrA thrB iO thrC J9 Bs;simp only[h1,h2,cond_true,cond_false];simp only[h2,cond_true,cond_false,h4]
 ·unfold Vh thrA thrB iO thrC J9 Bs;simp only[h1,h2,cond_true,cond_false,beq_self_eq_true];simp only[h2,cond_true,cond_false,h4];exact⟨λ_=>trivial,λh=>(by cases h)⟩
 ·unfold Vh thrA thrB iO thrC J9 Bs;simp only[h1,h2,cond_true,cond_false];simp only[h3,cond_true,cond_false]
 ·unfold Vh thrA thrB iO thrC J9 Bs;simp only[h1,h2,cond_true,cond_false];simp only[h3,h4,cond_true,cond_false]
 ·unfold Vh thrA thrB iO thrC J9 Bs;simp only[h1,h2,cond_true,cond_false];simp only[h3,h4,h5,cond_true,cond_false]
 ·simp at h5
 ·unfold Vh thrA thrB iO thrC J9 Bs;simp only[h1,h2,cond_true,cond_false];simp only[h3,cond_true,cond_false]
 ·unfold Vh thrA thrB iO thrC J9 Bs;simp only[h1,h2,cond_true,cond_false];simp only[h3,h4,cond_true,cond_false]
 ·rw[h2] at h5;unfold Vh thrA thrB iO thrC J9 Bs;simp only[h1,h2,cond_true,cond_false];simp only[h3,h4,h5,cond_true,cond_false]
 ·exact CFH ha hb hc h1 h2 h3 h4 h5)
theorem CJA:AH ZP 136 BMU:=OG xBeA hBeA λx h=>WP (A:=ann 26 [(98,Pv)]) (ren:=[]) (fz:=[]) Tryz.func136 (by kernel_rfl) (AA BAC AD) (by
 show BYQ x;rw[CJI]<;> dsimp only[go_sem]
 obtain⟨⟨h1,h2,h3⟩,h4,h5,h6⟩:(0<=x.a/\x.a<x.b/\x.b<=2000)/\(0<=x.v/\x.v<=200000)/\(0<=x.w/\x.w<=200000)/\0<=x.t/\x.t<=2000:=h
 rw[show IntKind.i64.wrap (x.b-x.a)=x.b-x.a from HL (by omega) (by omega),show IntKind.i64.wrap (x.b-x.t)=x.b-x.t from HL (by omega) (by omega),show IntKind.i64.wrap (x.t-x.a)=x.t-x.a from HL (by omega) (by omega)]
 rw[AHK (v:=x.v) (d:=x.b-x.t) h4 (by omega),AHK (v:=x.w) (d:=x.t-x.a) h5 (by omega)]
 have m1:=V5 (v:=x.v) (d:=x.b-x.t) h4 (by omega)
 have m2:=V5 (v:=x.w) (d:=x.t-x.a) h5 (by omega)
 rw[HL (n:=x.v*(x.b-x.t)+x.w*(x.t-x.a)) (by omega) (by omega)]
 exact⟨⟨by omega,by omega,by omega,by omega⟩,rfl,rfl⟩)
theorem CDL:AH ZP 119 BQH:=OG xPrA hPrA λx h=>WP (A:=ann 96 [(136,BMU)]) (ren:=[]) (fz:=[]) Tryz.func119 (by kernel_rfl) (AA CJA AD) (by
 show BRD x;rw[CGZ]<;> dsimp only[go_sem];simp only[CC,CU,BBW,BNP]
 obtain⟨⟨a1,a2,a3,a4,a5⟩,⟨b1,b2,b3,b4,b5⟩,h1,h2⟩:IT x.a/\IT x.b/\x.a.st<x.b.st/\0<=x.t/\x.t<=2000:=h
 have e:∀{v w:Int},beyM (BeA.mk x.a.st x.b.st v w x.t)=El (v*(x.b.st-x.t)+w*(x.t-x.a.st)) (x.b.st-x.a.st):=rfl
 refine⟨λc1=>⟨⟨⟨⟨by omega,by omega,by omega⟩,by omega,by omega,h2⟩,⟨by omega,by omega,by omega⟩,by omega,by omega,h2⟩,?_⟩,λc1=>⟨λc2=>⟨⟨⟨⟨by omega,by omega,by omega⟩,by omega,by omega,h2⟩,⟨by omega,by omega,by omega⟩,by omega,by omega,h2⟩,?_⟩,λc2=>⟨⟨⟨⟨by omega,by omega,by omega⟩,by omega,by omega,h2⟩,⟨by omega,by omega,by omega⟩,by omega,by omega,h2⟩,?_⟩⟩⟩
 ·have c1:x.b.st<=x.t:=c1
  rw[e,e];unfold U0 U8 loV loW hiV hiW
  rw[if_pos c1,if_pos c1,if_pos c1,if_pos c1];exact⟨rfl,rfl,rfl,rfl⟩
 ·have c1:¬x.b.st<=x.t:=c1
  rw[e,e];unfold U0 U8 loV loW hiV hiW
  rw[if_neg c1,if_neg c1,if_neg c1,if_neg c1,if_pos c2,if_pos c2,if_pos c2];exact⟨rfl,rfl,rfl,rfl⟩
 ·have c1:¬x.b.st<=x.t:=c1
  rw[e,e];unfold U0 U8 loV loW hiV hiW
  rw[if_neg c1,if_neg c1,if_neg c1,if_neg c1,if_neg c2,if_neg c2,if_neg c2];exact⟨rfl,rfl,rfl,rfl⟩)
theorem ACS:AH ZP 70 (C_rAsk.spec dGB):=PW C_rAsk (λ_=>ann 13 [(14,C_rCheck.spec NU),(57,C_rBrok.spec dIs1)]) [] [] Tryz.func70 (λ_=>by kernel_rfl) (λ_=>AA Vt (AA BDA AD)) (λ(x:GB) h=>by
 show CGE x;rw[CLJ]<;> dsimp only[go_sem];simp only[CC,CU]
 obtain⟨h1,h2⟩:x.g.length<1073741824/\x.b.length<1073741824:=h
 refine⟨h1,λhc=>?_,λhc=>⟨h2,?_⟩⟩
 ·unfold AV;rw[show (AL x.g==0)=false by simpa using hc];rfl
 ·unfold AV;rw[show (AL x.g==0)=true by simpa using hc];rfl) (λ_=>RA rfl rfl) _
end Go.Bal
