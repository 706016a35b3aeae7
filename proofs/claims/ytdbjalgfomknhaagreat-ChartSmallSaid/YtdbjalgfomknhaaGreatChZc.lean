/- Package chart, with the reference: Holds. -/
import Derived.Test.YtdbjalgfomknhaaGreatChZb
set_option linter.unusedVariables false
set_option linter.unusedSimpArgs false
namespace Go.Bal
open Go Go.Sym Go.Proofs
def zh0(x:CT):Prop:=AP x.c=0/\x.t.t.length=x.c.ms.length/\x.t.s.length=x.c.ms.length/\N7 (hJ x)=true
def zh1(x:CT)(i:Nat):Prop:=PN (gD x.t.s i) (YW x.c i).lo (YW x.c i).hi=true/\(0<i->hg1 x (i-1)=true)
def zh2(x:CT)(j:Nat):Prop:=PN (gD x.t.t (gD x.c.ns j).mi.toNat) (gD x.c.ns j).t.lo (gD x.c.ns j).t.hi=true
def zhH(x:CT):List (Nat×HCell):=[(201,.live (xO x.c)),(202,.live (.box [.d (GB x.t.t),.d (GB x.t.s),.d (GB x.t.z)]))]
def zh7(x:CT):Shape:={ α:=Nat,dflt:=0,T:=λk=>⟨[(2,.bptr 201 0),(3,.bptr 202 0),(7,.int k)],zhH x⟩,inv:=λk=>(k<=x.c.ms.length/\zh0 x)/\∀i,i<k->PN (gD x.t.t i) (-100000000) 100000000=true,meas:=λk=>x.c.ms.length-k,first:=[(201,1000),(202,1016)] }
def zh12(x:CT):Shape:={ α:=Nat,dflt:=0,T:=λk=>⟨[(2,.bptr 201 0),(3,.bptr 202 0),(8,.int k)],zhH x⟩,inv:=λk=>(k<=x.c.ms.length/\zh0 x/\inT x.t.t=true)/\∀i,i<k->zh1 x i,meas:=λk=>x.c.ms.length-k }
def zh20(x:CT):Shape:={ α:=Nat,dflt:=0,T:=λk=>⟨[(2,.bptr 201 0),(3,.bptr 202 0),(10,.int k)],zhH x⟩,inv:=λk=>(k<=x.c.ns.length/\zh0 x/\inT x.t.t=true)/\(∀i,i<x.c.ms.length->zh1 x i)/\∀j,j<k->zh2 x j,meas:=λk=>x.c.ns.length-k }
def BZG(x:CT):Ann:={ ann 156 [(Wd,C_Check.spec iT),(BGE,C_zUnl.spec B6),(vT,A8),(fE,C_zst.spec dCtI),(AJT,C_zLea.spec dCtI),(AKJ,C_zMos.spec dCZG)] with loops:=λid=>if id=7 then some [zh7 x] else if id=12 then some [zh12 x] else if id=20 then some [zh20 x] else none }
def BXV(x:CT):Prop:=ES Try.prog (BZG x) AYC (AJ AYC) (xCT x) (AD []) (.tup [.bool (Qs x).1,.int (Qs x).2]) [] [] []
abbrev vQ a b:=BR (DW a) b
abbrev P4 a:=inT (tA a)
abbrev oK a:=EA (N7 (hJ a))
abbrev BGG a b:=EV a (aQ b)
abbrev rN a b:=BGG (L1 a) b
abbrev oV a b:=BGG (tA a) b
abbrev sB a:=GZ (DW a)
abbrev W7 a:=HI (DW a)
abbrev Q4 a:=HG (DW a)
abbrev Q7 a:=JC (DW a)
abbrev Y8 a:=GD (DW a)
abbrev J7 a:=FQ (DW a)
abbrev IY a b(c:Nat->Prop) d(e:Nat->Prop) f g h p:=CF a b (AB c) d e f g h p
abbrev oI a:=UI a 1
attribute [go_sem] vQ P4 oK BGG rN oV sB W7 Q4 Q7 Y8 J7 IY oI
theorem CIT(x:CT):(BXV x)=(And (TY (DW x) (λi=>AT i (DW x) (sI x i) (qW x i) (pG x i) (Kz x i) (oB x i) (sD x i) (qO x i)) (RQ (DW x)) (IL (DW x))) (Xt (Kl (DW x)) x (AY (Vd x) (Ao (DW x))) (And (Uw (KE (jP (Iu x) x) (jP (sP x) x)) (Ag (DW x) (YJ (DW x) (BW (DW x)) (vZ x) (λi=>AT i (DW x) (sI x i) (qW x i) (pG x i) (Kz x i) (oB x i) (sD x i) (qO x i)) (HL (Ys x)) (λi=>QE i (Ys x)) (PG (Ys x)) (SA (DW x))))) (Xt (Nw (jP (Iu x) x) (jP (sP x) x) (not (N7 (Uo x x)))) x (Yo (Vd x)) (HX (λi=>DT (CQ i) (Gt (DW x) (Y8 x) (JA (Q7 x) (Q4 x) (W7 x) (Zr x) (λj=>aV j x) (aH x) (λj=>Zo j x) (aM x) (bG x))) (AI (xE i x) (sB x) (oV x x) (rN x x) (oK x)) (AB (λj=>On j i (Pm (ZC x j))))) (λi=>XL (JK (AI (xE i x) (sB x) (oV x x) (rN x x) (oK x)) (λj=>On j i (Pm (ZC x j)))) i (Iu x) (CL i (Iu x) (Xt (ZO (ZC x i) (-100000000) 100000000) x (AY (Vd x) 4) (KI (λj=>FH (BA j i) (Gt (DW x) (Y8 x) (JA (Q7 x) (Q4 x) (W7 x) (Zr x) (λk=>aV k x) (aH x) (λk=>Zo k x) (aM x) (bG x))) (JK (AI (xE j x) (sB x) (oV x x) (rN x x) (oK x)) (λk=>On k j (Pm (ZC x k)))) (aQ x) j i)))) (HX (λj=>DT (CQ j) (Gt (DW x) (Y8 x) (JA (Q7 x) (Q4 x) (W7 x) (Zr x) (λk=>aV k x) (aH x) (λk=>Zo k x) (aM x) (bG x))) (Tb (xE j x) (FY (sB x) (oV x x) (rN x x) (oK x)) (P4 x)) (AB (λk=>BF k j (EA (PN (dZ x k) (Eu (DW x) k) (Hg (DW x) k))) (On 0 k (hg1 x (WX k)))))) (λj=>XL (JK (Tb (xE j x) (FY (sB x) (oV x x) (rN x x) (oK x)) (P4 x)) (λk=>BF k j (EA (PN (dZ x k) (Eu (DW x) k) (Hg (DW x) k))) (On 0 k (hg1 x (WX k))))) j (Iu x) (Be (BY (DW x)) (DF (DW x)) (BM (DW x)) (Ar (DW x) (BW (DW x)) (vZ x) (λk=>AT k (DW x) (sI x k) (qW x k) (pG x k) (Kz x k) (oB x k) (sD x k) (qO x k)) (EF j) (NJ j (HK (DW x))) (SA (DW x))) (CL j (sP x) (Uw (NL (dZ x j) (Eu (J7 x) j)) (NJ j (sP x)))) (Xt (KE (NL (dZ x j) (Eu (J7 x) j)) (WB (dZ x j) (Hg (J7 x) j))) x (rH x) (LQ (pH j (NJ j (Iu x))) (UV (Ie j) (VJ j) (Iu x)) (pH j (FY (BY (DW x)) (DF (DW x)) (BM (DW x)) (Ar (DW x) (BW (DW x)) (vZ x) (λk=>AT k (DW x) (sI x k) (qW x k) (pG x k) (Kz x k) (oB x k) (sD x k) (qO x k)) (AF (VJ j)) (VW (VJ j) (oI (VJ j)) (HK (DW x))) (SA (DW x))))) (IT (and (Ie j) (not (NL (LH (ZC x j) (ZC x (Yl j))) (jX (EC (DW x)) (J7 x) (Yl j))))) (NJ j (Iu x))) (UV (and (Ie j) (not (NL (LH (ZC x j) (ZC x (Yl j))) (jX (EC (DW x)) (J7 x) (Yl j))))) (VJ j) (Iu x)) (IT (and (Ie j) (not (NL (LH (ZC x j) (ZC x (Yl j))) (jX (EC (DW x)) (J7 x) (Yl j))))) (Ga (DW x) (IY (vZ x) (BO (DW x)) (λk=>AT k (DW x) (sI x k) (qW x k) (pG x k) (Kz x k) (oB x k) (sD x k) (qO x k)) (HL (Ys x)) (λk=>QE k (Ys x)) (AF (VJ j)) (VW (VJ j) (oI (VJ j)) (HK (DW x))) (PG (Ys x)) (SA (DW x))))) (Xt (IB (Ie j) (KE (NL (LH (ZC x j) (ZC x (Yl j))) (jX (EC (DW x)) (J7 x) (Yl j))) (WB (LH (ZC x j) (ZC x (Yl j))) (M1 (Uo x x) (VJ j))))) x (rH x) (KI (λk=>FH (BA k j) (Gt (DW x) (Y8 x) (JA (Q7 x) (Q4 x) (W7 x) (Zr x) (λl=>aV l x) (aH x) (λl=>Zo l x) (aM x) (bG x))) (JK (Tb (xE k x) (FY (sB x) (oV x x) (rN x x) (oK x)) (P4 x)) (λl=>BF l k (EA (PN (dZ x l) (Eu (DW x) l) (Hg (DW x) l))) (On 0 l (hg1 x (WX l))))) (aQ x) k j)))))) (HX (λk=>BL (CQ k) (Gt (DW x) (Y8 x) (JA (Q7 x) (Q4 x) (W7 x) (Zr x) (λl=>aV l x) (aH x) (λl=>Zo l x) (aM x) (bG x))) (LF (Tb (Qc k (DW x)) (FY (sB x) (oV x x) (rN x x) (oK x)) (P4 x)) (AB (λl=>KL l (DW x) (EA (PN (dZ x l) (Eu (DW x) l) (Hg (DW x) l))) (On 0 l (hg1 x (WX l))))) (λl=>On l k (PN (ZC x (HM (vQ x l))) (BH (Kz x l)) (BK (Kz x l)))))) (λk=>XL (LF (Tb (Qc k (DW x)) (FY (sB x) (oV x x) (rN x x) (oK x)) (P4 x)) (AB (λl=>KL l (DW x) (EA (PN (dZ x l) (Eu (DW x) l) (Hg (DW x) l))) (On 0 l (hg1 x (WX l))))) (λl=>On l k (PN (ZC x (HM (vQ x l))) (BH (Kz x l)) (BK (Kz x l))))) k (AO (DW x)) (QN k (AO (DW x)) (WY (vQ x k) (Iu x) (UV (not (NL (ZC x (HM (vQ x k))) (BH (Kz x k)))) (vQ x k) (Iu x))) (Xt (KE (NL (ZC x (HM (vQ x k))) (BH (Kz x k))) (jK (ZC x (HM (vQ x k))) (Kz x k))) x (rH x) (KI (λl=>FH (BA l k) (Gt (DW x) (Y8 x) (JA (Q7 x) (Q4 x) (W7 x) (Zr x) (λm=>aV m x) (aH x) (λm=>Zo m x) (aM x) (bG x))) (LF (Tb (Qc l (DW x)) (FY (sB x) (oV x x) (rN x x) (oK x)) (P4 x)) (AB (λm=>KL m (DW x) (EA (PN (dZ x m) (Eu (DW x) m) (Hg (DW x) m))) (On 0 m (hg1 x (WX m))))) (λm=>On m l (PN (ZC x (HM (vQ x m))) (BH (Kz x m)) (BK (Kz x m))))) (AO (DW x)) l k)))) (And (EA (kY x)) (rH x)))))))))))):=by kernel_rfl
theorem BIM{f g:Nat->Bool}(h0:f 0=true)(hf:∀k,f (k+1)=(f k&&g k)):∀{n:Nat},(∀i,i<n->g i=true)->f n=true
 |0,_=>h0
 |n+1,h=>by rw[hf,BIM h0 hf λi hi=>h i (by omega),h n (by omega)];rfl
theorem BIC{l:List Int}(h:inT l=true){i:Nat}(hi:i<l.length):-100000000<=gD l i/\gD l i<=100000000:=
 IX.1 (List.all_eq_true.1 h _ (OH hi))
theorem CXL{l:List Int}(h:∀i,i<l.length->PN (gD l i) (-100000000) 100000000=true):inT l=true:=
 List.all_eq_true.2 λa ha=>by obtain⟨i,hi,rfl⟩:=Df ha;exact h i hi
theorem hldA{x:CT}(h:zh0 x):Qs x=bif inT x.t.t then (hdN x x.c.ms.length&&hgN x (x.c.ms.length-1),0) else (false,4):=by
 obtain⟨h0,h1,h2,h3⟩:=h
 unfold Qs XV
 rw[BNA,h0,h3]
 show hldO x=_
 unfold hldO
 rw[decide_eq_true (show x.t.t.length=x.c.ms.length/\x.t.s.length=x.c.ms.length from⟨h1,h2⟩)];rfl
theorem CRO{x:CT}(h:zh0 x)(ht:inT x.t.t=true){i:Nat}(hi:i<x.c.ms.length)(hb:hd1 x i=false):(Qs x).fst=false/\(Qs x).snd=0:=by
 rw[hldA h,ht]
 refine⟨?_,rfl⟩
 show (hdN x x.c.ms.length&&_)=false
 rw[BDL (f:=hdN x) (g:=hd1 x) (λ_=>rfl) hi hb];rfl
theorem DBQ{x:CT}(h:zh0 x)(ht:inT x.t.t=true){i:Nat}(hi:i<x.c.ms.length-1)(hb:hg1 x i=false):(Qs x).fst=false/\(Qs x).snd=0:=by
 rw[hldA h,ht]
 refine⟨?_,rfl⟩
 show (hdN x x.c.ms.length&&hgN x (x.c.ms.length-1))=false
 rw[BDL (f:=hgN x) (g:=hg1 x) (λ_=>rfl) hi hb,Bool.and_false]
theorem gapZ{x:CT}(h:zh0 x)(ht:inT x.t.t=true){a:Nat}(h1:0<a)(ha:a<x.c.ms.length){v:Bool}(hv:(bif decide (IntKind.i64.wrap (gD x.t.t a-gD x.t.t (IntKind.i64.wrap ((a:Int)-1)).toNat)<x.c.p.lo*Cw x.c (IntKind.i64.wrap ((a:Int)-1)).toNat) then true else decide (IntKind.i64.wrap (gD x.t.t a-gD x.t.t (IntKind.i64.wrap ((a:Int)-1)).toNat)>Zb (hJ x) (IntKind.i64.wrap ((a:Int)-1))))=v):hg1 x (a-1)=!v:=by
 obtain⟨h0,hl,_,hz⟩:=h
 have hc:=KB.1 h0
 obtain⟨m1,m2⟩:=hc.m
 obtain⟨g,rfl⟩:∃g,a=g+1:=⟨a-1,by omega⟩
 have e1:IntKind.i64.wrap (((g+1:Nat):Int)-1)=(g:Int):=by rw[Ap (by omega) (by omega)];omega
 rw[e1] at hv
 have t1:=BIC ht (i:=g) (by omega)
 have t2:=BIC ht (i:=g+1) (by omega)
 have e3:((g:Nat):Int).toNat=g:=by omega
 unfold Zb at hv
 rw[e3,Ap (by omega) (by omega)] at hv
 rw[<-hv]
 unfold hg1 wr
 rw[show g+1-1=g by omega,hG (w:=FZ (hJ x)) hc ha,Ap (by omega) (by omega)]
 have es:(FZ (hJ x)).sp g=stnd (hJ x).z (g:Int):=by
  rw[Bool.eq_iff_iff,AXL (a:=hJ x) ⟨m1,m2⟩ hz,ALF]
 unfold gapP
 rw[es]
 show PN _ (x.c.p.lo*Cw x.c g) (bif stnd (hJ x).z (g:Int) then 200000000 else x.c.p.hi*Cw x.c g)=_
 generalize x.c.p.lo*Cw x.c g=lo
 have e4:(hJ x).c=x.c:=rfl
 rw[e4]
 generalize x.c.p.hi*Cw x.c g=hi
 unfold PN
 cases stnd (hJ x).z (g:Int) with
 |true=>
  show _=!(bif decide (_<lo) then true else decide (_>(300000000:Int)))
  rw[decide_eq_false (show ¬ gD x.t.t (g+1)-gD x.t.t g>300000000 by omega),show decide (gD x.t.t (g+1)-gD x.t.t g<=bif true then 200000000 else hi)=true from decide_eq_true (by show _<=(200000000:Int);omega)]
  by_cases q:lo<=gD x.t.t (g+1)-gD x.t.t g<;>simp[q]<;>omega
 |false=>
  show (_&&decide (_<=hi))=!(bif decide (_<lo) then true else decide (_>hi))
  by_cases q:lo<=gD x.t.t (g+1)-gD x.t.t g<;>by_cases q2:gD x.t.t (g+1)-gD x.t.t g<=hi<;>simp[q,q2]<;>omega
theorem AWL{a b c:Int}{v:Bool}(h:(bif decide (a<b) then true else decide (a>c))=v):PN a b c=!v:=by
 rw[<-h];unfold PN
 by_cases q:b<=a<;>by_cases q2:a<=c<;>simp[q,q2]<;>omega
theorem CXS{x:CT}(h:zh0 x){j:Nat}(hj:j<x.c.ns.length)(hb:PN (gD x.t.t (gD x.c.ns j).mi.toNat) (gD x.c.ns j).t.lo (gD x.c.ns j).t.hi=false):hd1 x (gD x.c.ns j).mi.toNat=false:=by
 have hc:=KB.1 h.1
 have hn:=hc.nt _ (OH hj)
 have hm:=hn.mi
 have e1:(((gD x.c.ns j).mi.toNat:Nat):Int)=(gD x.c.ns j).mi:=by omega
 unfold hd1
 rw[tG (by omega)]
 unfold iK
 rw[e1,iR.2 ⟨_,OH hj,rfl⟩,hc.ntOf (OH hj)]
 show (PN _ (gD x.c.ns j).t.lo (gD x.c.ns j).t.hi&&_)=false
 rw[hb];rfl
theorem DDS{x:CT}(h:zh0 x)(ht:inT x.t.t=true)(h1:∀i,i<x.c.ms.length->zh1 x i)(h2:∀j,j<x.c.ns.length->zh2 x j):(Qs x).fst=true/\(Qs x).snd=0:=by
 have hc:=KB.1 h.1
 rw[hldA h,ht]
 refine⟨?_,rfl⟩
 show (hdN x x.c.ms.length&&hgN x (x.c.ms.length-1))=true
 rw[BIM (f:=hdN x) (g:=hd1 x) rfl (λ_=>rfl) λi hi=>?_,BIM (f:=hgN x) (g:=hg1 x) rfl (λ_=>rfl) λi hi=>?_]
 ·rfl
 ·exact (h1 (i+1) (by omega)).2 (by omega)
 ·unfold hd1
  rw[(h1 i hi).1,Bool.and_true,tG hi]
  unfold iK
  cases hq:hasN x.c.ns i with
  |false=>
   have:=BIC ht (i:=i) (by rw[h.2.1];exact hi)
   exact IX.2 this
  |true=>
   obtain⟨q1,q2⟩:=rY hq
   obtain⟨j,hj,e⟩:=Df q1
   have h3:=h2 j hj
   unfold zh2 at h3
   rw[e,q2] at h3
   exact h3
theorem CTP(x:CT)(hp:(x.c.ms.length<4611686018427387904/\x.c.ns.length<4611686018427387904/\x.t.z.length<4611686018427387904)/\x.t.t.length<4611686018427387904/\x.t.s.length<4611686018427387904):BXV x:=by
 obtain⟨⟨l1,l2,l3⟩,l4,l5⟩:=hp
 rw[CIT]<;> delta MD N6 Iv BH BK DY RD RU Mr EM EO CH AB CJ CE AY CG CW FV NL HD KA UI IG EB FX EC GY GX GR GG DV FO FU KI FP FS El LW WB US HM QR Qu Ty XT Wg Ua DW M1 AH CK IW AX JE AI WE BC AV AF IK IN BI AQ WV JB BB AC BZ CN BF MC AE AO BD HK DD LZ AZ DC BR BE BS BJ JQ AR BQ WQ LY SZ BV HF CI OC EQ GQ BL AS BM CY BY FL EV CF IE HR BX KL CU GW HO DN GD CX OT OR OE LH FQ DF DU HY IC MZ DR OU HG OD EA Ys DT oR HH FE FG FW AT IZ MJ JA ZN ZS tA IT DX OF Ge EZ EX JJ BA HT CS WX GZ DZ HW BO BW JH AL AN AM LJ KO GP ID FK JC DK KE Kr HL Py FT EF Mc VW NV HI TQ L1 IB CQ VJ HZ QE CL MR Ig Ak JY FH IL FY Dt JK UP HX qG aQ ZO IY LF PY UC NJ Ao MG PG QP MO SA Cl RQ ZC LQ UV Bf YH Fp Vd Pm kY Iu Ie QN Gt BGG Kz Eu XL Hg WY Dp TY pR On Vq Nw YJ Ga Ag Uo lG Qc bG aH Yl Zr Zo aM aV Kl Ar Xt Tb dZ sB oK Be rN Uw oV rH jP J7 vQ sP jX sI pH jK xE qW P4 oB oI pG Yo sD qO W7 vZ Q7 Q4 Y8;simp only[CC,eq_self,implies_true,forall_const,FR,CFJ]
 refine⟨⟨l1,l2⟩,λh=>?_,λh=>?_⟩
 ·have h:AP x.c≠0:=by simpa using h
  have h':(AP x.c==0)=false:=by simpa using h
  have e:XV (hJ x)=AP x.c:=by unfold XV;rw[BNA,h'];rfl
  unfold Qs;rw[e,h'];exact⟨rfl,rfl⟩
 have h0:AP x.c=0:=by simpa using h
 have hc:=KB.1 h0
 obtain⟨m1,m2⟩:=hc.m
 have hn:=hc.n
 refine⟨λ_=>⟨l3,h0⟩,λh=>?_,λh=>?_⟩
 ·have e:XV (hJ x)=bif N7 (hJ x) then 0 else 2:=by unfold XV;rw[BNA,h0];rfl
  unfold Qs hldO;rw[e]
  by_cases q1:x.t.t.length=x.c.ms.length<;>by_cases q2:x.t.s.length=x.c.ms.length<;>cases hq:N7 (hJ x)<;>simp[q1,q2]
  rw[q1,q2,hq] at h;simp at h
 have hz:zh0 x:=by
  by_cases q1:x.t.t.length=x.c.ms.length
  ·by_cases q2:x.t.s.length=x.c.ms.length
   ·refine⟨h0,q1,q2,?_⟩
    cases hq:N7 (hJ x) with
    |true=>rfl
    |false=>rw[q1,q2,hq] at h;simp at h
   ·exfalso
    have:((x.t.s.length:Int) != x.c.ms.length)=true:=by rw[bne_iff_ne];omega
    rw[this] at h;simp at h
  ·exfalso
   have:((x.t.t.length:Int) != x.c.ms.length)=true:=by rw[bne_iff_ne];omega
   rw[this] at h;simp at h
 have hz':=hz
 obtain⟨_,q1,q2,q3⟩:=hz'
 refine⟨⟨0,rfl,⟨Nat.zero_le _,hz⟩,λi hi=>absurd hi (Nat.not_lt_zero _)⟩,λk ⟨⟨k1,_⟩,k2⟩=>⟨λhlt=>⟨by omega,λh4=>?_,λh4=>⟨k+1,(II (by omega)).symm,⟨⟨by omega,hz⟩,λi hi=>?_⟩,by omega⟩⟩,λhge=>?_⟩⟩
 ·rw[hldA hz]
  cases hq:inT x.t.t with
  |false=>exact⟨rfl,rfl⟩
  |true=>rw[IX.2 (BIC hq (i:=k) (by omega))] at h4;cases h4
 ·by_cases e:i=k
  ·subst e;exact h4
  ·exact k2 i (by omega)
 have hT:inT x.t.t=true:=CXL λi hi=>k2 i (by omega)
 refine⟨⟨0,rfl,⟨Nat.zero_le _,hz,hT⟩,λi hi=>absurd hi (Nat.not_lt_zero _)⟩,λk ⟨⟨k1,_⟩,k2⟩=>⟨λhlt=>⟨⟨by omega,h0⟩,⟨by omega,λ_=>by omega⟩,λh4=>?_,λh4=>?_⟩,λhge=>?_⟩⟩
 ·refine CRO hz hT (i:=k) (by omega) ?_
  unfold hd1;rw[AWL h4];simp
 ·have hs:=AWL h4
  have ew:IntKind.i64.wrap ((k:Int)-1)=(k:Int)-1:=Ap (by omega) (by omega)
  have hg:∀v,(bif decide ((k:Int)>0) then bif decide (IntKind.i64.wrap (gD x.t.t k-gD x.t.t (IntKind.i64.wrap ((k:Int)-1)).toNat)<x.c.p.lo*Cw x.c (IntKind.i64.wrap ((k:Int)-1)).toNat) then true else decide (IntKind.i64.wrap (gD x.t.t k-gD x.t.t (IntKind.i64.wrap ((k:Int)-1)).toNat)>Zb (hJ x) (IntKind.i64.wrap ((k:Int)-1))) else false)=v->0<k->hg1 x (k-1)=!v:=by
   intro v hv hk
   rw[decide_eq_true (show (k:Int)>0 by omega)] at hv
   exact gapZ hz hT hk (by omega) hv
  refine⟨?_,λh5=>?_,λh5=>⟨k+1,(II (by omega)).symm,⟨⟨by omega,hz,hT⟩,λi hi=>?_⟩,by omega⟩⟩
  ·rw[ew]
   refine⟨λh=>by omega,λh=>by omega,λh=>⟨⟨by omega,by omega⟩,h0⟩,?_⟩
   refine⟨λh=>by omega,λh=>?_,λh=>?_⟩
   ·simp at h;omega
   ·simp at h;exact⟨⟨by omega,by omega⟩,l3,h0⟩
  ·have hk:0<k:=by
    rcases k with _ | k
    ·cases h5
    ·omega
   exact DBQ hz hT (i:=k-1) (by omega) (by rw[hg _ h5 hk];rfl)
  ·by_cases e:i=k
   ·subst e;exact⟨by rw[hs];rfl,λhi=>by rw[hg _ h5 hi];rfl⟩
   ·exact k2 i (by omega)
 have hA:∀i,i<x.c.ms.length->zh1 x i:=λi hi=>k2 i (by omega)
 refine⟨⟨0,rfl,⟨Nat.zero_le _,hz,hT⟩,hA,λi hi=>absurd hi (Nat.not_lt_zero _)⟩,λk ⟨⟨k1,_⟩,_,k2⟩=>⟨λhlt=>?_,λhge=>?_⟩⟩
 ·have hlt:k<x.c.ns.length:=by omega
  have hm:=(hc.nt _ (OH hlt)).mi
  refine⟨by omega,⟨by omega,λ_=>by omega⟩,λh4=>?_,λh4=>⟨k+1,(II (by omega)).symm,⟨⟨by omega,hz,hT⟩,hA,λi hi=>?_⟩,by omega⟩⟩
  ·exact CRO hz hT (i:=(gD x.c.ns k).mi.toNat) (by omega) (CXS hz hlt (by rw[AWL h4];rfl))
  ·by_cases e:i=k
   ·subst e;show PN _ _ _=true;rw[AWL h4];rfl
   ·exact k2 i (by omega)
 ·exact DDS hz hT hA λj hj=>k2 j (by omega)
theorem CIP:AW Try.prog BDJ (C_hold.spec dCT):=Je C_hold BZG [] [] BXH (λ_=>by kernel_rfl) (λ_=>AA dW (AA BRV (AA AAC (AA AYE (AA BTO (AA BJV AK)))))) (λx h=>CTP x h) (λ_=>Kp rfl rfl) _
end Go.Bal

namespace Go.Bal
open Go Go.Sym Go.Proofs
structure ZL where
 a:CZ
 l:List Span
def sY(x:ZL):List Span×Bool:=bif (XS (FZ x.a) x.l).all Od then (XS (FZ x.a) x.l,true) else ([],false)
def leaG(x:ZL)(g:Nat):Int:=x.a.c.p.lo*Cw x.a.c g
def Uz(x:ZL)(g:Nat)(a b:Span):Span:=⟨HJ a.lo (wr (b.lo-Zb x.a g)),QC a.hi (wr (b.hi-leaG x g))⟩
def zV(x:ZL)(g:Nat)(a b:Span):Span:=⟨HJ b.lo (wr ((Uz x g a b).lo+leaG x g)),QC b.hi (wr ((Uz x g a b).hi+Zb x.a g))⟩
structure SetI(x:ZL)(f:Nat->Span):Prop where
 sub:∀i,i<x.l.length->(gD x.l i).lo<=(f i).lo/\(f i).hi<=(gD x.l i).hi
 tr:∀t,Tr (gD x.l) (OG (FZ x.a)) (x.l.length-1) t->∀i,i<x.l.length->(f i).has (t i)
def neF(f:Nat->Span)(k:Nat):Prop:=∀i,i<k->(f i).lo<=(f i).hi
def fixF(x:ZL)(f:Nat->Span)(k:Nat):Prop:=∀g,g<k->Uz x g (f g) (f (g+1))=f g/\zV x g (f g) (f (g+1))=f (g+1)
def F0(f:Nat->Span):Nat->Nat
 |0=>0
 |k+1=>F0 f k+((f k).hi-(f k).lo).toNat
structure PreS(x:ZL):Prop where
 c0:AP x.a.c=0
 z0:N7 x.a=true
 zl:x.a.z.length<4611686018427387904
 len:x.l.length=x.a.c.ms.length
 bd:∀i,i<x.l.length->nL 1000000000 (gD x.l i)
 in8:∀i,i<x.l.length -> -100000000<=(gD x.l i).lo/\(gD x.l i).hi<=100000000
theorem PreS.gap{x:ZL}(h:PreS x){g:Nat}(hg:g+1<x.l.length):(OG (FZ x.a) g).lo=leaG x g/\(1<=leaG x g/\leaG x g<=6000000)/\leaG x g<=(OG (FZ x.a) g).hi/\(Zb x.a g=(OG (FZ x.a) g).hi/\(OG (FZ x.a) g).hi<=6000000∨Zb x.a g=300000000/\(OG (FZ x.a) g).hi=200000000):=by
 have hc:=KB.1 h.c0
 have hg':g+1<x.a.c.ms.length:=by have:=h.len;omega
 obtain⟨q1,q2,q3⟩:=hc.gap (FZ x.a).sp hg'
 rw[hG (w:=FZ x.a) hc hg']
 have es:(FZ x.a).sp g=stnd x.a.z (g:Int):=by
  rw[Bool.eq_iff_iff,AXL hc.m h.z0,ALF]
 refine⟨rfl,q1,q3,?_⟩
 show Zb x.a g=(bif (FZ x.a).sp g then 200000000 else x.a.c.p.hi*Cw x.a.c g)/\(bif (FZ x.a).sp g then 200000000 else x.a.c.p.hi*Cw x.a.c g)<=6000000∨_/\(bif (FZ x.a).sp g then 200000000 else x.a.c.p.hi*Cw x.a.c g)=200000000
 rw[es];unfold Zb
 rw[show ((g:Nat):Int).toNat=g from rfl]
 cases stnd x.a.z (g:Int) with
 |true=>exact .inr ⟨rfl,rfl⟩
 |false=>exact .inl ⟨rfl,q2.2⟩
theorem PreS.len1{x:ZL}(h:PreS x):1<=x.l.length/\x.l.length<=40:=by
 rw[h.len];exact (KB.1 h.c0).m
theorem SetI.in8{x:ZL}(h:PreS x){f:Nat->Span}(hf:SetI x f){i:Nat}(hi:i<x.l.length):-100000000<=(f i).lo/\(f i).hi<=100000000:=by
 have:=hf.sub i hi;have:=h.in8 i hi;omega
theorem BOU{x:ZL}(h:PreS x){f:Nat->Span}(hf:SetI x f){g:Nat}(hg:g+1<x.l.length)(n1:(f g).lo<=(f g).hi)(n2:(f (g+1)).lo<=(f (g+1)).hi) :
  Uz x g (f g) (f (g+1))=⟨HJ (f g).lo ((f (g+1)).lo-Zb x.a g),QC (f g).hi ((f (g+1)).hi-leaG x g)⟩/\zV x g (f g) (f (g+1))=⟨HJ (f (g+1)).lo ((Uz x g (f g) (f (g+1))).lo+leaG x g),QC (f (g+1)).hi ((Uz x g (f g) (f (g+1))).hi+Zb x.a g)⟩/\((f g).lo<=(Uz x g (f g) (f (g+1))).lo/\(Uz x g (f g) (f (g+1))).hi<=(f g).hi)/\(f (g+1)).lo<=(zV x g (f g) (f (g+1))).lo/\(zV x g (f g) (f (g+1))).hi<=(f (g+1)).hi:=by
 have a1:=hf.in8 h (i:=g) (by omega)
 have a2:=hf.in8 h hg
 obtain⟨_,g1,g2,g3⟩:=h.gap hg
 have e1:Uz x g (f g) (f (g+1))=⟨HJ (f g).lo ((f (g+1)).lo-Zb x.a g),QC (f g).hi ((f (g+1)).hi-leaG x g)⟩:=by
  unfold Uz wr;rw[Ap (by omega) (by omega),Ap (by omega) (by omega)]
 have b1:-500000000<=(Uz x g (f g) (f (g+1))).lo/\(Uz x g (f g) (f (g+1))).lo<=500000000/\(f g).lo<=(Uz x g (f g) (f (g+1))).lo:=by
  rw[e1];show -500000000<=HJ _ _/\HJ _ _<=_/\_<=HJ _ _
  unfold HJ;split<;>omega
 have b2:-500000000<=(Uz x g (f g) (f (g+1))).hi/\(Uz x g (f g) (f (g+1))).hi<=500000000/\(Uz x g (f g) (f (g+1))).hi<=(f g).hi:=by
  rw[e1];show -500000000<=QC _ _/\QC _ _<=_/\QC _ _<=_
  unfold QC;split<;>omega
 have e2:zV x g (f g) (f (g+1))=⟨HJ (f (g+1)).lo ((Uz x g (f g) (f (g+1))).lo+leaG x g),QC (f (g+1)).hi ((Uz x g (f g) (f (g+1))).hi+Zb x.a g)⟩:=by
  unfold zV wr;rw[Ap (by omega) (by omega),Ap (by omega) (by omega)]
 refine⟨e1,e2,⟨b1.2.2,b2.2.2⟩,?_⟩
 rw[e2];show _<=HJ _ _/\QC _ _<=_
 unfold HJ QC;constructor<;>split<;>omega
theorem CFI{x:ZL}(h:PreS x){f:Nat->Span}(hf:SetI x f){g:Nat}(hg:g+1<x.l.length)(n1:(f g).lo<=(f g).hi)(n2:(f (g+1)).lo<=(f (g+1)).hi){t:Nat->Int}(ht:Tr (gD x.l) (OG (FZ x.a)) (x.l.length-1) t):(Uz x g (f g) (f (g+1))).has (t g)/\(zV x g (f g) (f (g+1))).has (t (g+1)):=by
 obtain⟨e1,e2,_⟩:=BOU h hf hg n1 n2
 obtain⟨g0,g1,g2,g3⟩:=h.gap hg
 have t1:=hf.tr t ht g (by omega)
 have t2:=hf.tr t ht (g+1) hg
 have t3:=ht.gap g (by omega)
 have t3:leaG x g<=t (g+1)-t g/\t (g+1)-t g<=(OG (FZ x.a) g).hi:=by rw[<-g0];exact t3
 have a1:(Uz x g (f g) (f (g+1))).has (t g):=by
  rw[e1];unfold Span.has at *;rw[maxI_le,le_minI];omega
 refine⟨a1,?_⟩
 rw[e2];unfold Span.has at *;rw[maxI_le,le_minI];omega
def upF(f:Nat->Span)(g:Nat)(a b:Span)(i:Nat):Span:=if i=g+1 then b else if i=g then a else f i
theorem BLR(f:Nat->Span)(g:Nat)(a b:Span):upF f g a b g=a:=by unfold upF;rw[if_neg (by omega),if_pos rfl]
theorem BKW(f:Nat->Span)(g:Nat)(a b:Span):upF f g a b (g+1)=b:=by unfold upF;rw[if_pos rfl]
theorem CBO(f:Nat->Span)(g:Nat)(a b:Span){i:Nat}(h1:i≠g)(h2:i≠g+1):upF f g a b i=f i:=by unfold upF;rw[if_neg h2,if_neg h1]
theorem BTP{f f':Nat->Span}:∀{n:Nat},(∀i,i<n->(f i).lo<=(f' i).lo/\(f' i).hi<=(f i).hi)->F0 f' n<=F0 f n
 |0,_=>Nat.le_refl _
 |n+1,h=>by
  have:=BTP (f:=f) (f':=f') (n:=n) λi hi=>h i (by omega)
  have:=h n (by omega)
  show F0 f' n+_<=F0 f n+_
  omega
theorem BIY{f f':Nat->Span}:∀{n:Nat} {j:Nat},j<n->(∀i,i<n->(f i).lo<=(f' i).lo/\(f' i).hi<=(f i).hi)->f' j≠f j->(f' j).lo<=(f' j).hi->F0 f' n<F0 f n
 |0,j,hj,_,_,_=>absurd hj (Nat.not_lt_zero _)
 |n+1,j,hj,h,hd,hne=>by
  have hn:=h n (by omega)
  show F0 f' n+_<F0 f n+_
  by_cases e:j=n
  ·subst e
   have:=BTP (f:=f) (f':=f') (n:=j) λi hi=>h i (by omega)
   have:(f' j).lo≠(f j).lo∨(f' j).hi≠(f j).hi:=by
    by_cases q:(f' j).lo=(f j).lo
    ·by_cases q2:(f' j).hi=(f j).hi
     ·exfalso;apply hd
      generalize f' j=s at *;generalize f j=r at *
      obtain⟨s1,s2⟩:=s;obtain⟨r1,r2⟩:=r
      simp only at q q2;subst q;subst q2;rfl
     ·exact .inr q2
    ·exact .inl q
   omega
  ·have:=BIY (n:=n) (j:=j) (by omega) (λi hi=>h i (by omega)) hd hne
   omega
theorem CVO{x:ZL}(h:PreS x){f:Nat->Span}(hf:SetI x f)(hn:neF f x.l.length){g:Nat}(hg:g+1<x.l.length)(hA:(Uz x g (f g) (f (g+1))).lo<=(Uz x g (f g) (f (g+1))).hi)(hB:(zV x g (f g) (f (g+1))).lo<=(zV x g (f g) (f (g+1))).hi)(hd:Uz x g (f g) (f (g+1))≠f g∨zV x g (f g) (f (g+1))≠f (g+1)) :
  SetI x (upF f g (Uz x g (f g) (f (g+1))) (zV x g (f g) (f (g+1))))/\neF (upF f g (Uz x g (f g) (f (g+1))) (zV x g (f g) (f (g+1)))) x.l.length/\F0 (upF f g (Uz x g (f g) (f (g+1))) (zV x g (f g) (f (g+1)))) x.l.length<F0 f x.l.length:=by
 have n1:=hn g (by omega)
 have n2:=hn (g+1) hg
 obtain⟨_,_,s1,s2⟩:=BOU h hf hg n1 n2
 have ht:=λt ht=>CFI h hf hg n1 n2 (t:=t) ht
 generalize Uz x g (f g) (f (g+1))=A at *
 generalize zV x g (f g) (f (g+1))=B at *
 have sub:∀i,i<x.l.length->(f i).lo<=(upF f g A B i).lo/\(upF f g A B i).hi<=(f i).hi:=λi hi=>by
  by_cases e1:i=g
  ·subst e1;rw[BLR];exact s1
  ·by_cases e2:i=g+1
   ·subst e2;rw[BKW];exact s2
   ·rw[CBO _ _ _ _ e1 e2];exact⟨Int.le_refl _,Int.le_refl _⟩
 refine⟨⟨λi hi=>?_,λt tt i hi=>?_⟩,λi hi=>?_,?_⟩
 ·have:=sub i hi;have:=hf.sub i hi;omega
 ·by_cases e1:i=g
  ·subst e1;rw[BLR];exact (ht t tt).1
  ·by_cases e2:i=g+1
   ·subst e2;rw[BKW];exact (ht t tt).2
   ·rw[CBO _ _ _ _ e1 e2];exact hf.tr t tt i hi
 ·by_cases e1:i=g
  ·subst e1;rw[BLR];exact hA
  ·by_cases e2:i=g+1
   ·subst e2;rw[BKW];exact hB
   ·rw[CBO _ _ _ _ e1 e2];exact hn i hi
 ·rcases hd with hd | hd
  ·exact BIY (j:=g) (by omega) sub (by rw[BLR];exact hd) (by rw[BLR];exact hA)
  ·exact BIY (j:=g+1) hg sub (by rw[BKW];exact hd) (by rw[BKW];exact hB)
theorem PreS.ok{x:ZL}(h:PreS x):(XS (FZ x.a) x.l).all Od=true↔∃t,Tr (gD x.l) (OG (FZ x.a)) (x.l.length-1) t:=by
 have hc:=KB.1 h.c0
 have hl:=h.len1
 have g1:=ABO (w:=FZ x.a) hc
 have g2:=AAG (w:=FZ x.a) hc
 rw[Uk,<-h.len] at g1 g2
 exact BPF hl.1 hl.2 h.bd g1 g2
theorem CHK{x:ZL}(h:PreS x)(hn:∀t,¬ Tr (gD x.l) (OG (FZ x.a)) (x.l.length-1) t):sY x=([],false):=by
 unfold sY
 cases hq:(XS (FZ x.a) x.l).all Od with
 |false=>rfl
 |true=>obtain⟨t,ht⟩:=h.ok.1 hq;exact absurd ht (hn t)
theorem CJR{x:ZL}(h:PreS x){f:Nat->Span}(hf:SetI x f)(hn:neF f x.l.length)(hx:fixF x f (x.l.length-1)):(sY x).2=true/\(sY x).1.length=x.l.length/\∀i,i<x.l.length->gD (sY x).1 i=f i:=by
 have hc:=KB.1 h.c0
 have hl:=h.len1
 have g1:=ABO (w:=FZ x.a) hc
 have g2:=AAG (w:=FZ x.a) hc
 rw[Uk,<-h.len] at g1 g2
 have fx:∀g,g<x.l.length-1->(f (g+1)).lo-(OG (FZ x.a) g).hi<=(f g).lo/\(f g).hi<=(f (g+1)).hi-(OG (FZ x.a) g).lo/\(f g).lo+(OG (FZ x.a) g).lo<=(f (g+1)).lo/\(f (g+1)).hi<=(f g).hi+(OG (FZ x.a) g).hi:=λg hg=>by
  have n1:=hn g (by omega)
  have n2:=hn (g+1) (by omega)
  obtain⟨e1,e2,_⟩:=BOU h hf (g:=g) (by omega) n1 n2
  obtain⟨q1,q2⟩:=hx g hg
  obtain⟨g0,g3,g4,g5⟩:=h.gap (g:=g) (by omega)
  have a1:=hf.in8 h (i:=g) (by omega)
  have a2:=hf.in8 h (i:=g+1) (by omega)
  rw[q1] at e1 e2;rw[q2] at e2
  have p1:(f g).lo=HJ (f g).lo ((f (g+1)).lo-Zb x.a g):=congrArg Span.lo e1
  have p2:(f g).hi=QC (f g).hi ((f (g+1)).hi-leaG x g):=congrArg Span.hi e1
  have p3:(f (g+1)).lo=HJ (f (g+1)).lo ((f g).lo+leaG x g):=congrArg Span.lo e2
  have p4:(f (g+1)).hi=QC (f (g+1)).hi ((f g).hi+Zb x.a g):=congrArg Span.hi e2
  have r1:=(maxI_le.1 (Int.le_of_eq p1.symm)).2
  have r2:=(le_minI.1 (Int.le_of_eq p2)).2
  have r3:=(maxI_le.1 (Int.le_of_eq p3.symm)).2
  have r4:=(le_minI.1 (Int.le_of_eq p4)).2
  omega
 have arc:=CLP (N:=f) (s:=OG (FZ x.a)) (n:=x.l.length-1) g2 (λi hi=>hn i (by omega)) (λg hg=>(fx g hg).1) (λg hg=>(fx g hg).2.1) (λg hg=>(fx g hg).2.2.1) (λg hg=>(fx g hg).2.2.2)
 have un:=BQY (l:=gD x.l) g2 arc (λi hi y hy=>by
  have:=hf.sub i (by omega)
  unfold Span.has at *;omega) (λt ht i hi=>hf.tr t ht i (by omega))
 have hq:(XS (FZ x.a) x.l).all Od=true:=by
  rw[tS,We]
  intro i hi
  rw[ADK hl.1 hl.2 h.bd g1 hi,<-un i (by omega)]
  exact hn i hi
 have ev:sY x=(XS (FZ x.a) x.l,true):=by unfold sY;rw[hq];rfl
 rw[ev]
 exact⟨rfl,We _ _,λi hi=>by rw[ADK hl.1 hl.2 h.bd g1 hi,<-un i (by omega)]⟩
end Go.Bal
