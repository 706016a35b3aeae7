/- Package rating: the reference: Parts. -/
import Derived.Test.YtoihhodbkimedaaGreatRPt0
import Derived.Test.YtoihhodbkimedaaGreatRPt2a
set_option linter.unusedVariables false
set_option linter.unusedSimpArgs false
namespace Go.Bal
open Go Go.Sym Go.Proofs
def C_rParts:Ctr:={ α:=List Gau,xs:=λg=>[.d (BX g)],val:=λg=>.tup [.int (IP g).r.l.length,.int (IP g).e],pre:=λg=>[g.length<1073741824/\True] }
structure PtS where
 c:Nat
 t:Nat
 b:List Int
 deriving Inhabited
structure PtI(g:List Gau)(c:Nat)(b:List Int):Prop where
 hc:AV g=0
 hb:b.length=(FW g).length+1
 hl:c<=(FW g).length
 hs:∀j,c<=j->j<=(FW g).length->AAZ (FW g) j (gD b j)
structure PtIn(g:List Gau)(x:PtS):Prop where
 hc:AV g=0
 hb:x.b.length=(FW g).length+1
 hl:x.c<(FW g).length
 hd:bdG (FW g) x.c
 h1:x.c<x.t
 h2:x.t<=(FW g).length+1
 hs:∀j,x.c<j->j<=(FW g).length->AAZ (FW g) j (gD x.b j)
 hv:zJ (FW g) x.c x.t (gD x.b x.c)
def pt7(g:List Gau):Shape:={ α:=PtS,dflt:=default,T:=λx=>⟨[(5,.d (BX (FW g))),(6,.own 301 1 0 x.b.length),(7,.int ((x.c:Int)-1))],[(301,.live (rowI x.b))]⟩,inv:=λx=>PtI g x.c x.b,meas:=λx=>x.c,first:=[(301,6048)] }
def pt12(g:List Gau)(m:Nat):Shape:={ α:=PtS,dflt:=default,T:=λx=>⟨[(5,.d (BX (FW g))),(6,.own 301 1 0 x.b.length),(7,.int x.c),(8,.int x.t)],[(301,.live (rowI x.b))]⟩,inv:=λx=>x.c+1=m/\PtIn g x,meas:=λx=>(FW g).length+1-x.t }
def BET(g:List Gau):Ann:={ ann 104 [(Tc,C_rCheck.spec WJ),(AZA,C_rSrt.spec WJ),(ALK,C_rPb.spec WJ)] with loops:=λid=>if id=7 then some [pt7 g] else none,inner:=λgs id=>if id=12 then some [pt12 g (gs.getD 0 0)] else none }
def BEA(g:List Gau):Prop:=BQ Try.prog (BET g) AMY (AI AMY) (C_rParts.xs g) (AD []) (C_rParts.val g) [] [] []
abbrev AAD:=@Exists PtS
abbrev KS:=PtS.b
abbrev MZ:=PtS.c
abbrev BNY:=λ(f:PtS->Prop)=>∀(x:PtS),f x
abbrev SJ:=PtS.t
abbrev eV a b:=CM (KS a) b
abbrev XA a:=Qc (MZ a)
abbrev ASK a b:=LM (MZ a) b
abbrev AVM a b:=EF (SJ a) (MZ b)
abbrev Fu a b c d:=GT (AVM a b) (NG c) (λi=>ASK d i)
abbrev tW a:=EY (NG a)
abbrev sU a:=tW (BH a)
attribute [go_sem] AAD KS MZ BNY SJ eV XA ASK AVM Fu tW sU
theorem BRZ(g:List Gau):(BEA g)=(VE g (FN g) (CL (Cq g) (BD (XK g)) (Uw g (Ao g)) (AN (As (CE g) (BB g) (FN g)) (ED (DU (sU g)) (GQ (DU (sU g)) (DD (DU (sU g)) 9223372036854775807) (DD (mT (AQ 8) (DU (sU g))) 281474976710656))) (AAD (λi=>And (IQ (NG g) (NG (BH g)) (ER (NG g) (NG (BH g))) (Fc (YB (KS i) (EU (DU (sU g)))) (Iz (XA i) (sU g)) (λj=>Nb j (KS i) j 0))) (PtI g (MZ i) (KS i)))) (BNY (λi=>HP (PtI g (MZ i) (KS i)) (hd6 (XA i) 0) (DE (KJ (XA i) (KS i)) (Co (RI (XA i)) (KS i)) (And (EX (Az (XA i)) (ON (JZ (XA i)) (NG g))) (EX (Az (XA i)) (ON (XA i) (NG g)))) (CS (FU (Az (XA i)) (OL (AH (NG g) (UO (XA i))) (AH (NG g) (EU (XA i))))) (AAD (λj=>BW (MY (NG g) (Fc (AY (KS j) (KS i)) (Iz (XA j) (XA i)) (λk=>Nb k (KS j) k (Ab k (RI (XA i)) 99 (eV i k))))) (PtI g (MZ j) (KS j)) (MZ j) (MZ i))) (And (AAD (λj=>EI (AZ (NG g)) (BN (NG g)) AL (YM (AY (KS j) (KS i)) (CQ (MZ j) (XA i)) (EA (SJ j) (XA i)) (λk=>Nb k (KS j) k (Ab k (RI (XA i)) 99 (eV i k)))) (AR (EO (MZ j)) (MZ i)) (PtIn g j))) (BNY (λj=>FL (Ui (EO (MZ j)) (MZ i) (PtIn g j)) (F3 (AQ (SJ j)) (tW g)) (And (EX (FD (SJ j) (tW g)) (IB (SJ j) (NG g))) (EX (FD (SJ j) (tW g)) (ON (US (SJ j)) (NG g)))) (CS (FU (FD (SJ j) (tW g)) (OL (AH (NG g) (SJ j)) (AH (NG g) (UO (AQ (SJ j)))))) (AAD (λk=>EV (WW (NG g) AL (Vr (AY (KS k) (KS j)) (CB (MZ k) (MZ j)) (BS (SJ k) (SJ j)) (BM (KS k) (KS j)))) (Ui (EO (MZ k)) (MZ i) (PtIn g k)) (ZG (NG g)) (SJ k) (SJ j))) (DY (AG (BC (AQ (MZ j))) (DD (AQ (MZ j)) (AQ (SJ j))) (DD (AQ (SJ j)) (tW g))) (CF (Fu j j g j) (AVM j j)) (AK (λk=>BR k (Fu j j g j) (Cw (AH (Fu j j g j) k) (AH (NG g) (ASK j k)) (Fu j j g j) k (NG g) (ASK j k)))) (AF (KC (Ur (Fu j j g j)) (RO (Fu j j g j)) (λk=>AK (λl=>Hv k l l (Fu j j g j) (DD (AH (Fu j j g j) k) (AH (Fu j j g j) l))))) (EX (qA (Fu j j g j)) (IN (SJ j) (KS j))) (EX (qA (Fu j j g j)) (Co (BP (SJ j)) (KS j))) (EX (qA (Fu j j g j)) (IN (MZ j) (KS j))) (EX (qA (Fu j j g j)) (Co (BP (MZ j)) (KS j)))) (CL (FU (qA (Fu j j g j)) (GD (DU (eV j (BP (SJ j)))) (eV j (BP (MZ j))))) (AN (IN (SJ j) (KS j)) (Rd (BP (SJ j)) (KS j)) (IN (MZ j) (KS j)) (Co (BP (MZ j)) (KS j))) (AAD (λk=>EV (WW (NG g) AL (YM (AY (KS k) (KS j)) (CB (MZ k) (MZ j)) (BS (SJ k) (SJ j)) (λl=>Nb l (KS k) l (Ab l (BP (MZ j)) (DU (eV j (BP (SJ j)))) (eV j l))))) (Ui (EO (MZ k)) (MZ i) (PtIn g k)) (ZG (NG g)) (SJ k) (SJ j))) (AAD (λk=>EV (WW (NG g) AL (Vr (AY (KS k) (KS j)) (CB (MZ k) (MZ j)) (BS (SJ k) (SJ j)) (BM (KS k) (KS j)))) (Ui (EO (MZ k)) (MZ i) (PtIn g k)) (ZG (NG g)) (SJ k) (SJ j)))))) (AAD (λk=>BW (MY (NG g) (Zc (AY (KS k) (KS j)) (AO (XA k) (US (MZ j))) (BM (KS k) (KS j)))) (PtI g (MZ k) (KS k)) (MZ k) (MZ i)))))))) (And (And (TL (CG (KS i))) (Co (RI 0) (KS i))) (CL (hd6 (eV i (RI 0)) 99) (BD (XK g)) (Uw g 6) (DE (TL (CG (KS i))) (Co (RI 0) (KS i)) (CQ (XK g) (eV i (RI 0))) (CP (Bh g)))))))))):=by kernel_rfl
def updB(b:List Int)(i:Nat)(v:Int):List Int:=MK b.length λj=>bif decide (j=i) then v else gD b j
theorem ZR(b:List Int)(i:Nat)(v:Int):(updB b i v).length=b.length:=rng_length _ _
theorem ABS{b:List Int}{i j:Nat}{v:Int}(h:j<b.length):gD (updB b i v) j=bif decide (j=i) then v else gD b j:=pE _ _ _ h
theorem AZI{b:List Int}{i:Nat}{v:Int}(h:i<b.length):gD (updB b i v) i=v:=by rw[ABS h,decide_eq_true rfl];rfl
theorem BLI{b:List Int}{i j:Nat}{v:Int}(h:j<b.length)(hn:j≠i):gD (updB b i v) j=gD b j:=by rw[ABS h,decide_eq_false hn];rfl
theorem bd_t{s:List Gau}{i:Nat}(hi:i<s.length)(h:(bif decide ((i:Int)>0) then (gD s (i-1)).st==(gD s i).st else false)=true):¬bdG s i:=by
 by_cases h0:(i:Int)>0
 ·rw[decide_eq_true h0] at h
  have h:(gD s (i-1)).st=(gD s i).st:=eq_of_beq h
  rintro (q | q | q)
  ·omega
  ·omega
  ·exact q h
 ·rw[decide_eq_false h0] at h;cases h
theorem bd_f{s:List Gau}{i:Nat}(h:(bif decide ((i:Int)>0) then (gD s (i-1)).st==(gD s i).st else false)=false):bdG s i:=by
 by_cases h0:(i:Int)>0
 ·rw[decide_eq_true h0] at h
  exact .inr (.inr (beq_eq_false_iff_ne.1 h))
 ·exact .inl (by omega)
theorem CSG{s:List Gau}{i:Nat}(hi:0<i)(h:(bif decide ((i:Int)<s.length) then (gD s i).st==(gD s (i-1)).st else false)=true):¬bdG s i:=by
 by_cases h0:(i:Int)<s.length
 ·rw[decide_eq_true h0] at h
  have h:(gD s i).st=(gD s (i-1)).st:=eq_of_beq h
  rintro (q | q | q)
  ·omega
  ·omega
  ·exact q h.symm
 ·rw[decide_eq_false h0] at h;cases h
theorem CJR{s:List Gau}{i:Nat}(hi:i<=s.length)(h:(bif decide ((i:Int)<s.length) then (gD s i).st==(gD s (i-1)).st else false)=false):bdG s i:=by
 by_cases h0:(i:Int)<s.length
 ·rw[decide_eq_true h0] at h
  exact .inr (.inr λq=>beq_eq_false_iff_ne.1 h q.symm)
 ·exact .inr (.inl (by omega))
theorem BKV{s:List Gau}{i j:Nat}(h1:i<=j)(h2:j<=s.length):(MK (j-i) λp=>gD s (i+p))=iF s i j:=by
 have hl:(iF s i j).length=j-i:=by unfold iF;rw[List.length_drop,List.length_take];omega
 refine CBF (by rw[rng_length,hl]) λp hp=>?_
 rw[rng_length] at hp
 rw[pE _ _ _ hp]
 unfold iF
 simp only[gD,List.getD_eq_getElem?_getD,List.getElem?_drop,List.getElem?_take]
 rw[if_pos (by omega)]
theorem BVE(g:List Gau)(h:g.length<1073741824):BEA g:=by
 rw[BRZ]<;> delta JT qD hd6 F3 XL EE EC DP GD WI JG CS AO KO AR CG AK BV BZ CM AQ BU DD ES LX EF Ba mT OL CI EZ LZ FP VY Ep EU ID LM IY XS NG qA AAD KS MZ BNY SJ AG GT GV DG AF AT AH FF CA CF BH AM BL GQ Cm Vr AP HA BR AS AW DF DX EO DU CR BP BC HH CQ HL IC AN AL RI JZ AZ EP GI ED AY BW yX JV HU EL GC HI II JA HG CL GU EA EX Ab HY CP FU DV Nb EM GH IH GF FE CB BN BM EW FM FK FD LN PX ON Bt MI LL KJ FL CE EV NT ER BS SD NQ BD HN BB EY HZ DY HP FN DE UO FI ZG IB EI Ur ML Ui IQ Qc IN XA Bh RO KC ASK Ao TQ MY Rd XK Az AVM US Co tW Fu QP YM YB TL Zc WW Fc Cq Hv eV Ry VE Cw Iz sU Uw As;simp only[CC,eq_self,implies_true,forall_const]
 have hl:=(LR g).length_eq
 refine⟨h,λhc=>?_,λhc=>?_⟩
 ·have e:(AV g==0)=false:=by simpa using hc
  unfold IP;rw[e];exact⟨rfl,rfl⟩
 have hC:AV g=0:=by simpa using hc
 obtain⟨⟨c1,c2⟩,ho⟩:=NV hC
 have hs24:(FW g).length<=24:=by omega
 have ha:=rC g
 have hos:∀x∈FW g,RK x:=λx hx=>ho x ((LR g).mem_iff.1 hx)
 have w1:IntKind.i64.wrap (((FW g).length:Int)+1)=(((FW g).length+1:Nat):Int):=by rw[JH (by omega) (by omega)];omega
 have w2:IntKind.i64.wrap (((FW g).length:Int)-1)=((FW g).length:Int)-1:=JH (by omega) (by omega)
 rw[w1,w2,Int.toNat_natCast]
 refine⟨h,⟨by omega,by omega,by omega⟩,⟨⟨(FW g).length,0,MK ((FW g).length+1) λ_=>0⟩,⟨rng_length _ _,rfl,rng_length _ _,λi hi=>?_⟩,hC,rng_length _ _,Nat.le_refl _,λj j1 j2=>?_⟩,λx hX=>⟨λhge=>?_,λhlt=>?_⟩⟩
 ·rw[rng_length] at hi;exact pE _ _ _ hi
 ·obtain rfl:j=(FW g).length:=by have j1:(FW g).length<=j:=j1;omega
  rw[show gD (MK ((FW g).length+1) λ_=>(0:Int)) (FW g).length=0 from pE _ _ _ (by omega)]
  exact CJB _
 ·obtain⟨i,hi⟩:∃i,x.c=i+1:=⟨x.c-1,by omega⟩
  have hxl:=hX.hl
  have hxb:=hX.hb
  have hin:i<(FW g).length:=by omega
  have e1:(x.c:Int)-1=(i:Int):=by omega
  have w3:0<i->IntKind.i64.wrap ((i:Int)-1)=((i-1:Nat):Int):=λq=>by rw[JH (by omega) (by omega)];omega
  rw[e1,Int.toNat_natCast]
  have gi:(IntKind.i64.wrap ((i:Int)-1)).toNat=i-1∨¬(i:Int)>0:=by
   by_cases q:0<i
   ·exact .inl (by rw[w3 q];exact Int.toNat_natCast _)
   ·exact .inr (by omega)
  have ec:(bif decide ((i:Int)>0) then (gD (FW g) (IntKind.i64.wrap ((i:Int)-1)).toNat).st==(gD (FW g) i).st else false)=(bif decide ((i:Int)>0) then (gD (FW g) (i-1)).st==(gD (FW g) i).st else false):=by
   rcases gi with q | q
   ·rw[q]
   ·rw[decide_eq_false q];rfl
  have w4:IntKind.i64.wrap ((i:Int)-1)=(i:Int)-1:=JH (by omega) (by omega)
  rw[ec]
  have hB:∀j,i<j->j<=(FW g).length->AAZ (FW g) j (gD (updB x.b i 99) j):=λj j1 j2=>by
   rw[BLI (by omega) (by omega)];exact hX.hs j (by omega) j2
  refine⟨⟨⟨by omega,by omega⟩,by omega⟩,⟨λq=>⟨by rw[w3 (by omega)];omega,by rw[w3 (by omega)];omega⟩,λq=>⟨by omega,by omega⟩⟩,λhb=>⟨⟨i,0,updB x.b i 99⟩,⟨ZR _ _ _,w4.symm,ZR _ _ _,λj hj=>?_⟩,⟨hC,by rw[ZR];exact hxb,by show i<=_;omega,λj j1 j2=>?_⟩,by show i<_;omega⟩,λhb=>⟨⟨⟨i,i+1,updB x.b i 99⟩,⟨ZR _ _ _,rfl,(CN (by omega)).symm,ZR _ _ _,λj hj=>?_⟩,by show i+1=_;omega,hC,by rw[ZR];exact hxb,hin,bd_f hb,Nat.lt_succ_self _,by show i+1<=_;omega,hB,?_⟩,λy ⟨y0,hY⟩=>⟨λhle=>?_,λhgt=>⟨⟨y.c,0,y.b⟩,⟨rfl,(show IntKind.i64.wrap ((y.c:Int)-1)=(y.c:Int)-1 from JH (by omega) (by have:=hY.hl;omega)).symm,rfl,λ_ _=>rfl⟩,⟨hC,hY.hb,by have:=hY.hl;show y.c<=_;omega,λj j1 j2=>?_⟩,by show y.c<_;omega⟩⟩⟩⟩
  ·rw[ZR] at hj;exact ABS hj
  ·by_cases q:j=i
   ·subst q;rw[AZI (by omega)];exact CPT hin (bd_t hin hb)
   ·have j1:i<=j:=j1;exact hB j (by omega) j2
  ·rw[ZR] at hj;exact ABS hj
  ·show zJ (FW g) i (i+1) (gD (updB x.b i 99) i)
   rw[AZI (by omega)];exact CRT _ _
  ·have yc:=hY.hl
   have yb:=hY.hb
   have y1:=hY.h1
   have ht:y.t<=(FW g).length:=by omega
   have w5:IntKind.i64.wrap ((y.t:Int)-1)=((y.t-1:Nat):Int):=by rw[JH (by omega) (by omega)];omega
   have bt:=CPW hs24 (hY.hs y.t y1 ht)
   have w6:IntKind.i64.wrap (gD y.b y.t+1)=gD y.b y.t+1:=JH (by omega) (by omega)
   rw[w5,Int.toNat_natCast,w6,BKV (by omega) ht]
   have hsl:(iF (FW g) y.c y.t).length=y.t-y.c:=by unfold iF;rw[List.length_drop,List.length_take];omega
   have hso:∀x∈iF (FW g) y.c y.t,RK x:=λx hx=>by
    obtain⟨p,_,_,p3,rfl⟩:=AQU hx
    exact hos _ (CV p3)
   have hsg:∀p,p<y.t-y.c->gD (iF (FW g) y.c y.t) p=gD (FW g) (y.c+p):=λp hp=>by
    rw[<-BKV (by omega) ht];exact pE _ _ _ hp
   have hpc:qF (iF (FW g) y.c y.t)=true↔Can (iF (FW g) y.c y.t):=vT hso
   refine⟨⟨λq=>⟨by omega,q⟩,λq=>⟨by omega,by omega⟩⟩,λhb2=>⟨⟨y.c,y.t+1,y.b⟩,⟨rfl,rfl,(CN (by omega)).symm,rfl,λ_ _=>rfl⟩,⟨y0,hC,yb,yc,hY.hd,by show y.c<y.t+1;omega,by show y.t+1<=_;omega,hY.hs,BBL hY.hv λq _=>CSG (by omega) hb2 q⟩,by show (FW g).length+1-(y.t+1)<_;omega⟩,λhb2=>⟨⟨⟨by omega,by omega,by omega⟩,λp hp=>?_,⟨by omega,hso,λp q p1 p2=>?_⟩,λ_=>⟨by omega,by omega⟩,λ_=>by omega,λ_=>⟨by omega,by omega⟩,λ_=>by omega⟩,λhq=>⟨⟨⟨by omega,by omega⟩,by omega,⟨by omega,by omega⟩,by omega⟩,⟨y.c,y.t+1,updB y.b y.c (gD y.b y.t+1)⟩,⟨ZR _ _ _,rfl,(CN (by omega)).symm,ZR _ _ _,λj hj=>?_⟩,⟨y0,hC,by rw[ZR];exact yb,yc,hY.hd,by show y.c<y.t+1;omega,by show y.t+1<=_;omega,λj j1 j2=>?_,?_⟩,by show (FW g).length+1-(y.t+1)<_;omega⟩,λhq=>⟨⟨y.c,y.t+1,y.b⟩,⟨rfl,rfl,(CN (by omega)).symm,rfl,λ_ _=>rfl⟩,⟨y0,hC,yb,yc,hY.hd,by show y.c<y.t+1;omega,by show y.t+1<=_;omega,hY.hs,?_⟩,by show (FW g).length+1-(y.t+1)<_;omega⟩⟩⟩
   ·rw[hsg p hp];exact⟨rfl,rfl,rfl⟩
   ·rw[hsg p (by omega),hsg q p2];exact ha _ _ (by omega) (by omega)
   ·rw[ZR] at hj;exact ABS hj
   ·have j1:y.c<j:=j1
    rw[BLI (by omega) (by omega)];exact hY.hs j j1 j2
   ·cases hp:qF (iF (FW g) y.c y.t) with
    |false=>rw[hp] at hq;cases hq
    |true=>
     rw[hp] at hq
     have:=BEZ hs24 y1 ht hY.hv (hY.hs y.t y1 ht) (CJR ht hb2) (hpc.1 hp)
     rw[show decide (gD y.b y.t+1<gD y.b y.c)=true from hq] at this
     show zJ (FW g) y.c (y.t+1) (gD (updB y.b y.c (gD y.b y.t+1)) y.c)
     rw[AZI (by omega)];exact this
   ·show zJ (FW g) y.c (y.t+1) (gD y.b y.c)
    cases hp:qF (iF (FW g) y.c y.t) with
    |false=>exact BBL hY.hv λ_ q=>by rw[hpc.2 q] at hp;cases hp
    |true=>
     rw[hp] at hq
     have:=BEZ hs24 y1 ht hY.hv (hY.hs y.t y1 ht) (CJR ht hb2) (hpc.1 hp)
     rw[show decide (gD y.b y.t+1<gD y.b y.c)=false from hq] at this
     exact this
  ·have j1:y.c<=j:=j1
   by_cases q:j=y.c
   ·subst q
    have h2:=hY.h2
    have:=hY.hv
    rw[show y.t=(FW g).length+1 by omega] at this
    exact CIE hY.hl hY.hd this
   ·exact hY.hs j (by omega) j2
 ·have hx:=hX.hb
  have h0:x.c=0:=by omega
  have hv:=hX.hs 0 (by omega) (Nat.zero_le _)
  obtain⟨p,q⟩:=BRJ hC hv
  have p0:gD x.b (Int.toNat 0)=gD x.b 0:=rfl
  rw[p0]
  refine⟨⟨⟨by omega,by omega⟩,by show 0<_;omega⟩,λhv=>⟨(p hv).1.symm,(p hv).2.symm⟩,λhv=>⟨⟨⟨by omega,by omega⟩,by show 0<_;omega⟩,(q hv).1.symm,(q hv).2.symm⟩⟩
theorem BQW:AJ Try.prog APP (C_rParts.spec WJ):=VD C_rParts BET [] [] BQE (λ_=>by kernel_rfl) (λ_=>AC kM (AC BLT (AC BTM AE))) (λ(g:List Gau) h=>BVE g h.1) (λ_=>WK rfl rfl) _
end Go.Bal
