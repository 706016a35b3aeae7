/- Package rating: the reference: Parts. -/
import Derived.Test.YtpidmmilfdcepaaGreatRPt2a
set_option linter.unusedVariables false
set_option linter.unusedSimpArgs false
namespace Go.Bal
open Go Go.Sym Go.Proofs
def C_rParts:Ctr:={ α:=List Gau,xs:=λg=>[.d (AT g)],val:=λg=>.tup [.int (FT g).r.l.length,.int (FT g).e],pre:=λg=>[g.length<1073741824/\True] }
structure PtS where
 c:Nat
 t:Nat
 b:List Int
 deriving Inhabited
structure PtI(g:List Gau)(c:Nat)(b:List Int):Prop where
 hc:AL g=0
 hb:b.length=(EJ g).length+1
 hl:c<=(EJ g).length
 hs:∀j,c<=j->j<=(EJ g).length->ADM (EJ g) j (gD b j)
structure PtIn(g:List Gau)(x:PtS):Prop where
 hc:AL g=0
 hb:x.b.length=(EJ g).length+1
 hl:x.c<(EJ g).length
 hd:bdG (EJ g) x.c
 h1:x.c<x.t
 h2:x.t<=(EJ g).length+1
 hs:∀j,x.c<j->j<=(EJ g).length->ADM (EJ g) j (gD x.b j)
 hv:H6 (EJ g) x.c x.t (gD x.b x.c)
def pt7(g:List Gau):Shape:={ α:=PtS,dflt:=default,T:=λx=>⟨[(5,.d (AT (EJ g))),(6,.own 301 1 0 x.b.length),(7,.int ((x.c:Int)-1))],[(301,.live (rowI x.b))]⟩,inv:=λx=>PtI g x.c x.b,meas:=λx=>x.c,first:=[(301,6048)] }
def pt12(g:List Gau)(m:Nat):Shape:={ α:=PtS,dflt:=default,T:=λx=>⟨[(5,.d (AT (EJ g))),(6,.own 301 1 0 x.b.length),(7,.int x.c),(8,.int x.t)],[(301,.live (rowI x.b))]⟩,inv:=λx=>x.c+1=m/\PtIn g x,meas:=λx=>(EJ g).length+1-x.t }
def BGG(g:List Gau):Ann:={ ann 104 [(14,C_rCheck.spec NU),(74,C_rSrt.spec NU),(71,C_rPb.spec NU)] with loops:=λid=>if id=7 then some [pt7 g] else none,inner:=λgs id=>if id=12 then some [pt12 g (gs.getD 0 0)] else none }
def BFH(g:List Gau):Prop:=AS ZP (BGG g) Tryz.f32 (AE Tryz.f32) (C_rParts.xs g) (AB []) (C_rParts.val g) [] [] []
abbrev AHJ:=@Exists PtS
abbrev JV:=PtS.b
abbrev LP:=PtS.c
abbrev CHA:=λ(f:PtS->Prop)=>∀(x:PtS),f x
abbrev QI:=PtS.t
abbrev We a:=GZ (JV a)
abbrev XB a:=AFZ (BO (LP a))
abbrev BIK a b:=sG (LP a) b
abbrev BGZ a b:=TJ (QI a) (LP b)
abbrev Md a b c d:=BSB (BGZ a b) (MY c) (λi=>BIK d i)
attribute [go_sem] AHJ JV LP CHA QI We XB BIK BGZ Md
theorem BUZ(g:List Gau):(BFH g)=(SK (xA g (HV g)) (J8 g) (BX (Kb g)) (eR (Hg g) g) (BD (xA g (HV g)) (AMZ (FJ (XM (XA (aB g)))) (AK (XM (XA (aB g)))) (XM (XA (aB g))) 9223372036854775807 (KO (hd75 (BO 8) (XM (XA (aB g)))) 281474976710656)) (AHJ (λi=>And (AO (HQ (MY g) (aB g)) (EK (MY g) (aB g)) (lY (OD (JV i) (NV (XM (XA (aB g))))) (BM (XB i) (Dv (CH (aB g)))) (λj=>KC j (JV i) 0))) (PtI g (LP i) (JV i)))) (CHA (λi=>Ys (PtI g (LP i) (JV i)) (hd6 (XB i) 0) (AO (And (TG (XB i) (We i)) (IU (PL (XB i)) (We i))) (And (FA (pF (XB i)) (Gf (UH (XB i)) (MY g))) (FA (pF (XB i)) (Gf (XB i) (MY g)))) (Gj (EP (pF (XB i)) (VS (BL (MY g) (NV (UH (XB i)))) (BL (MY g) (NV (XB i))))) (AHJ (λj=>IB (Af (MY g) (lY (BC (JV j) (JV i)) (BM (XB j) (UH (XB i))) (λk=>KC k (JV j) (SE k (PL (XB i)) 99 (KL (JV i) k))))) (PtI g (LP j) (JV j)) (LP j) (LP i))) (AHJ (λj=>Sg (BQ (MY g)) (AP (MY g)) AF (Ut (BC (JV j) (JV i)) (MM (LP j) (XB i)) (AIO (QI j) (XB i)) (AG (λk=>KC k (JV j) (SE k (PL (XB i)) 99 (KL (JV i) k))))) (DU (CN (LP j)) (LP i)) (PtIn g j))) (CHA (λj=>MO (And (DU (CN (LP j)) (LP i)) (PtIn g j)) (hd7 (BO (QI j)) (XA (MY g))) (And (APE (QI j) (CH (MY g)) (PH (QI j) (MY g))) (APE (QI j) (CH (MY g)) (Gf (Dv (QI j)) (MY g)))) (HZ (EP (Gh (QI j) (CH (MY g))) (VS (BL (MY g) (QI j)) (BL (MY g) (Uh (QI j))))) (AHJ (λk=>EO (gZ (BQ (MY g)) (AP (MY g)) (Ut (BC (JV k) (JV j)) (AI (LP k) (LP j)) (AJ (QI k) (QI j)) (BR (JV k) (JV j)))) (And (DU (CN (LP k)) (LP i)) (PtIn g k)) (WR (MY g)) (QI k) (QI j))) (SK (DY (AO (FJ (BO (LP j))) (KO (BO (LP j)) (BO (QI j))) (KO (BO (QI j)) (XA (MY g)))) (Uy (Md j j g j) (BGZ j j)) (AG (λk=>S1 k (Md j j g j) (MY g) (BIK j k))) (AO (KV (Md j j g j)) (Pb (Md j j g j)) (Tj (λl k=>YG l k k (Md j j g j) (pZ (BL (Md j j g j) l) (Md j j g j) k)))) (FA (Us (Md j j g j)) (JL (QI j) (JV j))) (FA (Us (Md j j g j)) (IU (AQ (QI j)) (We j))) (FA (Us (Md j j g j)) (JL (LP j) (JV j))) (FA (Us (Md j j g j)) (IU (AQ (LP j)) (We j)))) (EP (Us (Md j j g j)) (Tx (XM (MS (JV j) (QI j))) (MS (JV j) (LP j)))) (SG (JL (QI j) (JV j)) (AQ (QI j)) (We j) (JL (LP j) (JV j)) (IU (AQ (LP j)) (We j))) (AHJ (λk=>EO (gZ (BQ (MY g)) (AP (MY g)) (Ut (BC (JV k) (JV j)) (AI (LP k) (LP j)) (AJ (QI k) (QI j)) (AG (λl=>KC l (JV k) (SE l (AQ (LP j)) (XM (MS (JV j) (QI j))) (KL (JV j) l)))))) (And (DU (CN (LP k)) (LP i)) (PtIn g k)) (WR (MY g)) (QI k) (QI j))) (AHJ (λk=>EO (gZ (BQ (MY g)) (AP (MY g)) (Ut (BC (JV k) (JV j)) (AI (LP k) (LP j)) (AJ (QI k) (QI j)) (BR (JV k) (JV j)))) (And (DU (CN (LP k)) (LP i)) (PtIn g k)) (WR (MY g)) (QI k) (QI j))))) (AHJ (λk=>IB (Af (MY g) (BHY (BC (JV k) (JV j)) (BM (XB k) (Dv (LP j))) (BR (JV k) (JV j)))) (PtI g (LP k) (JV k)) (LP k) (LP i))))))) (SK (And (VL (We i)) (IU (PL 0) (We i))) (hd6 (KL (JV i) (PL 0)) 99) (BX (Kb g)) (BM (Hg g) 6) (bY (And (VL (We i)) (IU (PL 0) (We i))) (BO (Kb g)) (KL (JV i) (PL 0)) (Hg g) 0)))))):=by kernel_rfl
def updB(b:List Int)(i:Nat)(v:Int):List Int:=HA b.length λj=>bif decide (j=i) then v else gD b j
theorem XK(b:List Int)(i:Nat)(v:Int):(updB b i v).length=b.length:=rng_length _ _
theorem ABI{b:List Int}{i j:Nat}{v:Int}(h:j<b.length):gD (updB b i v) j=bif decide (j=i) then v else gD b j:=DC _ _ _ h
theorem AXJ{b:List Int}{i:Nat}{v:Int}(h:i<b.length):gD (updB b i v) i=v:=by rw[ABI h,decide_eq_true rfl];rfl
theorem BQB{b:List Int}{i j:Nat}{v:Int}(h:j<b.length)(hn:j≠i):gD (updB b i v) j=gD b j:=by rw[ABI h,decide_eq_false hn];rfl
theorem bd_t{s:List Gau}{i:Nat}(hi:i<s.length)(h:(bif decide ((i:Int)>0) then (gD s (i-1)).st==(gD s i).st else false)=true):¬bdG s i:=by
 by_cases h0:(i:Int)>0
 ·rw[decide_eq_true h0] at h
  have h:(gD s (i-1)).st=(gD s i).st:=eq_of_beq h
  rintro (q | q | q)
  ·omega
  ·omega
  ·exact q h
 ·rw[decide_eq_false h0] at h;cases h
theorem bd_f{s:List Gau}{i:Nat}(h:(bif decide ((i:Int)>0) then (gD s (i-1)).st==(gD s i).st else false)=false):bdG s i:=by
 by_cases h0:(i:Int)>0
 ·rw[decide_eq_true h0] at h
  exact .inr (.inr (beq_eq_false_iff_ne.1 h))
 ·exact .inl (by omega)
theorem CZF{s:List Gau}{i:Nat}(hi:0<i)(h:(bif decide ((i:Int)<s.length) then (gD s i).st==(gD s (i-1)).st else false)=true):¬bdG s i:=by
 by_cases h0:(i:Int)<s.length
 ·rw[decide_eq_true h0] at h
  have h:(gD s i).st=(gD s (i-1)).st:=eq_of_beq h
  rintro (q | q | q)
  ·omega
  ·omega
  ·exact q h.symm
 ·rw[decide_eq_false h0] at h;cases h
theorem CMK{s:List Gau}{i:Nat}(hi:i<=s.length)(h:(bif decide ((i:Int)<s.length) then (gD s i).st==(gD s (i-1)).st else false)=false):bdG s i:=by
 by_cases h0:(i:Int)<s.length
 ·rw[decide_eq_true h0] at h
  exact .inr (.inr λq=>beq_eq_false_iff_ne.1 h q.symm)
 ·exact .inr (.inl (by omega))
theorem BSG{s:List Gau}{i j:Nat}(h1:i<=j)(h2:j<=s.length):(HA (j-i) λp=>gD s (i+p))=jF s i j:=by
 have hl:(jF s i j).length=j-i:=by unfold jF;rw[List.length_drop,List.length_take];omega
 refine BMI (by rw[rng_length,hl]) λp hp=>?_
 rw[rng_length] at hp
 rw[DC _ _ _ hp]
 unfold jF
 simp only[gD,List.getD_eq_getElem?_getD,List.getElem?_drop,List.getElem?_take]
 rw[if_pos (by omega)]
theorem CGA(g:List Gau)(h:g.length<1073741824):BFH g:=by
 rw[BUZ]<;> dsimp only[go_sem];simp only[CC,CU]
 have hl:=(JW g).length_eq
 refine⟨h,λhc=>?_,λhc=>?_⟩
 ·have e:(AL g==0)=false:=by simpa using hc
  unfold FT;rw[e];exact⟨rfl,rfl⟩
 have hC:AL g=0:=by simpa using hc
 obtain⟨⟨c1,c2⟩,ho⟩:=JU hC
 have hs24:(EJ g).length<=24:=by omega
 have ha:=vD g
 have hos:∀x∈EJ g,IT x:=λx hx=>ho x ((JW g).mem_iff.1 hx)
 have w1:IntKind.i64.wrap (((EJ g).length:Int)+1)=(((EJ g).length+1:Nat):Int):=by rw[HL (by omega) (by omega)];omega
 have w2:IntKind.i64.wrap (((EJ g).length:Int)-1)=((EJ g).length:Int)-1:=HL (by omega) (by omega)
 rw[w1,w2,Int.toNat_natCast]
 refine⟨h,⟨by omega,by omega,by omega⟩,⟨⟨(EJ g).length,0,HA ((EJ g).length+1) λ_=>0⟩,⟨rng_length _ _,rfl,rng_length _ _,λi hi=>?_⟩,hC,rng_length _ _,Nat.le_refl _,λj j1 j2=>?_⟩,λx hX=>⟨λhge=>?_,λhlt=>?_⟩⟩
 ·rw[rng_length] at hi;exact DC _ _ _ hi
 ·obtain rfl:j=(EJ g).length:=by have j1:(EJ g).length<=j:=j1;omega
  rw[show gD (HA ((EJ g).length+1) λ_=>(0:Int)) (EJ g).length=0 from DC _ _ _ (by omega)]
  exact CIA _
 ·obtain⟨i,hi⟩:∃i,x.c=i+1:=⟨x.c-1,by omega⟩
  have hxl:=hX.hl
  have hxb:=hX.hb
  have hin:i<(EJ g).length:=by omega
  have e1:(x.c:Int)-1=(i:Int):=by omega
  have w3:0<i->IntKind.i64.wrap ((i:Int)-1)=((i-1:Nat):Int):=λq=>by rw[HL (by omega) (by omega)];omega
  rw[e1,Int.toNat_natCast]
  have gi:(IntKind.i64.wrap ((i:Int)-1)).toNat=i-1∨¬(i:Int)>0:=by
   by_cases q:0<i
   ·exact .inl (by rw[w3 q];exact Int.toNat_natCast _)
   ·exact .inr (by omega)
  have ec:(bif decide ((i:Int)>0) then (gD (EJ g) (IntKind.i64.wrap ((i:Int)-1)).toNat).st==(gD (EJ g) i).st else false)=(bif decide ((i:Int)>0) then (gD (EJ g) (i-1)).st==(gD (EJ g) i).st else false):=by
   rcases gi with q | q
   ·rw[q]
   ·rw[decide_eq_false q];rfl
  have w4:IntKind.i64.wrap ((i:Int)-1)=(i:Int)-1:=HL (by omega) (by omega)
  rw[ec]
  have hB:∀j,i<j->j<=(EJ g).length->ADM (EJ g) j (gD (updB x.b i 99) j):=λj j1 j2=>by
   rw[BQB (by omega) (by omega)];exact hX.hs j (by omega) j2
  refine⟨⟨⟨by omega,by omega⟩,by omega⟩,⟨λq=>⟨by rw[w3 (by omega)];omega,by rw[w3 (by omega)];omega⟩,λq=>⟨by omega,by omega⟩⟩,λhb=>⟨⟨i,0,updB x.b i 99⟩,⟨XK _ _ _,w4.symm,XK _ _ _,λj hj=>?_⟩,⟨hC,by rw[XK];exact hxb,by show i<=_;omega,λj j1 j2=>?_⟩,by show i<_;omega⟩,λhb=>⟨⟨⟨i,i+1,updB x.b i 99⟩,⟨XK _ _ _,rfl,(BF (by omega)).symm,XK _ _ _,λj hj=>?_⟩,by show i+1=_;omega,hC,by rw[XK];exact hxb,hin,bd_f hb,Nat.lt_succ_self _,by show i+1<=_;omega,hB,?_⟩,λy ⟨y0,hY⟩=>⟨λhle=>?_,λhgt=>⟨⟨y.c,0,y.b⟩,⟨rfl,(show IntKind.i64.wrap ((y.c:Int)-1)=(y.c:Int)-1 from HL (by omega) (by have:=hY.hl;omega)).symm,rfl,λ_ _=>rfl⟩,⟨hC,hY.hb,by have:=hY.hl;show y.c<=_;omega,λj j1 j2=>?_⟩,by show y.c<_;omega⟩⟩⟩⟩
  ·rw[XK] at hj;exact ABI hj
  ·by_cases q:j=i
   ·subst q;rw[AXJ (by omega)];exact CSQ hin (bd_t hin hb)
   ·have j1:i<=j:=j1;exact hB j (by omega) j2
  ·rw[XK] at hj;exact ABI hj
  ·show H6 (EJ g) i (i+1) (gD (updB x.b i 99) i)
   rw[AXJ (by omega)];exact CYT _ _
  ·have yc:=hY.hl
   have yb:=hY.hb
   have y1:=hY.h1
   have ht:y.t<=(EJ g).length:=by omega
   have w5:IntKind.i64.wrap ((y.t:Int)-1)=((y.t-1:Nat):Int):=by rw[HL (by omega) (by omega)];omega
   have bt:=CUK hs24 (hY.hs y.t y1 ht)
   have w6:IntKind.i64.wrap (gD y.b y.t+1)=gD y.b y.t+1:=HL (by omega) (by omega)
   rw[w5,Int.toNat_natCast,w6,BSG (by omega) ht]
   have hsl:(jF (EJ g) y.c y.t).length=y.t-y.c:=by unfold jF;rw[List.length_drop,List.length_take];omega
   have hso:∀x∈jF (EJ g) y.c y.t,IT x:=λx hx=>by
    obtain⟨p,_,_,p3,rfl⟩:=AND hx
    exact hos _ (BU p3)
   have hsg:∀p,p<y.t-y.c->gD (jF (EJ g) y.c y.t) p=gD (EJ g) (y.c+p):=λp hp=>by
    rw[<-BSG (by omega) ht];exact DC _ _ _ hp
   have hpc:Ci (jF (EJ g) y.c y.t)=true↔Can (jF (EJ g) y.c y.t):=Vs hso
   refine⟨⟨λq=>⟨by omega,q⟩,λq=>⟨by omega,by omega⟩⟩,λhb2=>⟨⟨y.c,y.t+1,y.b⟩,⟨rfl,rfl,(BF (by omega)).symm,rfl,λ_ _=>rfl⟩,⟨y0,hC,yb,yc,hY.hd,by show y.c<y.t+1;omega,by show y.t+1<=_;omega,hY.hs,BFD hY.hv λq _=>CZF (by omega) hb2 q⟩,by show (EJ g).length+1-(y.t+1)<_;omega⟩,λhb2=>⟨⟨⟨by omega,by omega,by omega⟩,λp hp=>?_,⟨by omega,hso,λp q p1 p2=>?_⟩,λ_=>⟨by omega,by omega⟩,λ_=>by omega,λ_=>⟨by omega,by omega⟩,λ_=>by omega⟩,λhq=>⟨⟨⟨by omega,by omega⟩,by omega,⟨by omega,by omega⟩,by omega⟩,⟨y.c,y.t+1,updB y.b y.c (gD y.b y.t+1)⟩,⟨XK _ _ _,rfl,(BF (by omega)).symm,XK _ _ _,λj hj=>?_⟩,⟨y0,hC,by rw[XK];exact yb,yc,hY.hd,by show y.c<y.t+1;omega,by show y.t+1<=_;omega,λj j1 j2=>?_,?_⟩,by show (EJ g).length+1-(y.t+1)<_;omega⟩,λhq=>⟨⟨y.c,y.t+1,y.b⟩,⟨rfl,rfl,(BF (by omega)).symm,rfl,λ_ _=>rfl⟩,⟨y0,hC,yb,yc,hY.hd,by show y.c<y.t+1;omega,by show y.t+1<=_;omega,hY.hs,?_⟩,by show (EJ g).length+1-(y.t+1)<_;omega⟩⟩⟩
   ·rw[hsg p hp];exact⟨rfl,rfl,rfl⟩
   ·rw[hsg p (by omega),hsg q p2];exact ha _ _ (by omega) (by omega)
   ·rw[XK] at hj;exact ABI hj
   ·have j1:y.c<j:=j1
    rw[BQB (by omega) (by omega)];exact hY.hs j j1 j2
   ·cases hp:Ci (jF (EJ g) y.c y.t) with
    |false=>rw[hp] at hq;cases hq
    |true=>
     rw[hp] at hq
     have:=BFB hs24 y1 ht hY.hv (hY.hs y.t y1 ht) (CMK ht hb2) (hpc.1 hp)
     rw[show decide (gD y.b y.t+1<gD y.b y.c)=true from hq] at this
     show H6 (EJ g) y.c (y.t+1) (gD (updB y.b y.c (gD y.b y.t+1)) y.c)
     rw[AXJ (by omega)];exact this
   ·show H6 (EJ g) y.c (y.t+1) (gD y.b y.c)
    cases hp:Ci (jF (EJ g) y.c y.t) with
    |false=>exact BFD hY.hv λ_ q=>by rw[hpc.2 q] at hp;cases hp
    |true=>
     rw[hp] at hq
     have:=BFB hs24 y1 ht hY.hv (hY.hs y.t y1 ht) (CMK ht hb2) (hpc.1 hp)
     rw[show decide (gD y.b y.t+1<gD y.b y.c)=false from hq] at this
     exact this
  ·have j1:y.c<=j:=j1
   by_cases q:j=y.c
   ·subst q
    have h2:=hY.h2
    have:=hY.hv
    rw[show y.t=(EJ g).length+1 by omega] at this
    exact CJT hY.hl hY.hd this
   ·exact hY.hs j (by omega) j2
 ·have hx:=hX.hb
  have h0:x.c=0:=by omega
  have hv:=hX.hs 0 (by omega) (Nat.zero_le _)
  obtain⟨p,q⟩:=BVK hC hv
  have p0:gD x.b (Int.toNat 0)=gD x.b 0:=rfl
  rw[p0]
  refine⟨⟨⟨by omega,by omega⟩,by show 0<_;omega⟩,λhv=>⟨(p hv).1.symm,(p hv).2.symm⟩,λhv=>⟨⟨⟨by omega,by omega⟩,by show 0<_;omega⟩,(q hv).1.symm,(q hv).2.symm⟩⟩
theorem BVN:AH ZP 32 (C_rParts.spec NU):=PW C_rParts BGG [] [] Tryz.func32 (λ_=>by kernel_rfl) (λ_=>AA Vt (AA BTM (AA AMJ AD))) (λ(g:List Gau) h=>CGA g h.1) (λ_=>RA rfl rfl) _
def CPT:Ann:=ann 27 [(16,C_rChkR.spec dRt1),(56,Rw),(63,C_rPart.spec dIX),(60,jI),(62,AJY)]
def CQC(a:RtI):Prop:=AS ZP CPT Tryz.f22 (AE Tryz.f22) (C_At.xs a) (AB []) (C_At.val a) [] [] []
abbrev Ii a b c:=And a (KO b c)
abbrev P1 a:=Al (MB a)
attribute [go_sem] Ii P1
theorem CTW(a:RtI):(CQC a)=(Sa (AW (Dq (NE a) (Ck a)) (Cq (NE a) (Ck a)) (Sk (Dc a) (Ck a)) (AG (λi=>Ov i (Dc a) (AGR a i))) (MB (NE a)) (Br (CO (Dc a)))) (Hj (mC a a)) (Jr (wN a) (vN a) (atE a) (Hj (mC a a))) (Gj (XP (UM a)) (Jr (wN a) (vN a) (atE a) 4) (And (Dq (NE a) (Ck a)) (BK (Cq (NE a) (Ck a)) (AK (UM a)) (P1 (NE a)) (CR (AXQ a a) (IS (Ck a))) (HX (Yc a a a)) (UW (UM a)) (Ii (L6 (pT (Yc a a a) (UM a))) (QA (pT (Yc a a a) (UM a))) 4000000) (KO (-2305843009213693952) (MH (pT (Yc a a a) (UM a)))) (Ze (MH (pT (Yc a a a) (UM a)))))) (Lm (wN a) (oP (pT (Yc a a a) (UM a))) (vN a) (P4 (pT (Yc a a a) (UM a))) (atE a) 0))):=by kernel_rfl
def C_cdG:Ctr:={ α:=List Gau,xs:=λl=>[.d (AT l)],val:=λl=>.d (AT l),pre:=λl=>[l.length<1073741824/\True] }
def CMQ(l:List Gau):Prop:=AS ZP (ann 7 []) Tryz.f12 (AE Tryz.f12) (C_cdG.xs l) (AB []) (C_cdG.val l) [] [] []
theorem CTP(l:List Gau):(CMQ l)=(WX (gM X4 (And HO (AAL 0 l Iq)) (jZ l) (AQ (CH l)) 24) (Uy l (AQ (CH l))) (λi=>AXP i l l (VC i) l (VC i) l (VC i))):=by kernel_rfl
def C_cdI:Ctr:={ α:=List Int,xs:=λl=>[.d (AZ l)],val:=λl=>.d (AZ l),pre:=λl=>[l.length<1073741824/\True] }
def CQZ(l:List Int):Prop:=AS ZP (ann 7 []) Tryz.f13 (AE Tryz.f13) (C_cdI.xs l) (AB []) (C_cdI.val l) [] [] []
theorem CWB(l:List Int):(CQZ l)=(WX (gM (Xk 1) (And HO (sL 0 l UX)) (SA (GZ l)) (AQ (GZ l)) 8) (OD l (AQ (GZ l))) (λi=>M0 i l l (VC i))):=by kernel_rfl
def C_cdL:Ctr:={ α:=List Ln,xs:=λl=>[.d (Qr l)],val:=λl=>.d (Qr l),pre:=λl=>[l.length<1073741824/\True] }
def CNI(l:List Ln):Prop:=AS ZP (ann 7 []) Tryz.f8 (AE Tryz.f8) (C_cdL.xs l) (AB []) (C_cdL.val l) [] [] []
theorem CVY(l:List Ln):(CNI l)=(WX (gM (Xk 4) (fF HO (CO l)) (SA (CO l)) (xN l) 32) (LB l (xN l)) (λi=>AMT i (CO l) l (GQ l (VC i)) (LO l (VC i)) l (VC i) l (VC i))):=by kernel_rfl
def dGs2:List AVal->Heap->Option (List Gau×List (Nat×Nat)×List Nat)
 |[y,_],H=>match Ht y H with
  |some (l,f)=>some (l,[],f)
  |none=>none
 |_,_=>none
def dIs2:List AVal->Heap->Option (List Int×List (Nat×Nat)×List Nat)
 |[y,_],H=>match Xt y H with
  |some (l,f)=>some (l,[],f)
  |none=>none
 |_,_=>none
def dLs2:List AVal->Heap->Option (List Ln×List (Nat×Nat)×List Nat)
 |[y,_],H=>match dLns y H with
  |some (l,f)=>some (l,[],f)
  |none=>none
 |_,_=>none
def smS(v:AVal)(n:Nat):Shape:={ α:=Nat,dflt:=0,T:=λi=>⟨[(0,v),(1,v),(5,.int i)],[]⟩,inv:=λi=>i<=n,meas:=λi=>n-i }
def A_sm(v:AVal)(n:Nat):Ann:={ ann 26 [] with loops:=λid=>if id=4 then some [smS v n] else none }
def C_smG:Ctr:={ α:=List Gau,xs:=λl=>[.d (AT l),.d (AT l)],val:=λ_=>.bool true,pre:=λl=>[l.length<1073741824/\True] }
def CMU(l:List Gau):Prop:=AS ZP (A_sm (.d (AT l)) l.length) Tryz.f26 (AE Tryz.f26) (C_smG.xs l) (AB []) (.bool true) [] [] []
abbrev ABW a b c:=sM a b a c
abbrev Un:=KU aN
attribute [go_sem] ABW Un
theorem CRO(l:List Gau):(CMU l)=(HZ (Qh (XA l)) Un (HU (λi=>XV (ABW (BQ l) (AP l) (BX i)) i (CH l)) (λi=>An (Ko i (CH l)) i (CH l) (YE (PH i l) (BO i) (Rm (BO i) l)) (not (Mm (Bf (BL l i)) (Mm (Bf (DF l i)) (Bf (DG l i))))) Un (λj=>Bm (ABW (BQ l) (AP l) (AJ j i)) j (CH l) j i) UN))):=by kernel_rfl
def C_smI:Ctr:={ α:=List Int,xs:=λl=>[.d (AZ l),.d (AZ l)],val:=λ_=>.bool true,pre:=λl=>[l.length<1073741824/\True] }
def CQE(l:List Int):Prop:=AS ZP (A_sm (.d (AZ l)) l.length) Tryz.f25 (AE Tryz.f25) (C_smI.xs l) (AB []) (.bool true) [] [] []
theorem CTR(l:List Int):(CQE l)=(HZ (Qh (NP l)) Un (HU (λi=>XV (ABW (IW l) (EZ l) (BX i)) i (GZ l)) (λi=>An (Ko i (GZ l)) i (GZ l) (YE (JL i l) (BO i) (Wr (BO i) (GZ l))) (Qh (KL l i)) Un (λj=>Bm (ABW (IW l) (EZ l) (AJ j i)) j (GZ l) j i) UN))):=by kernel_rfl
def C_smL:Ctr:={ α:=List Ln,xs:=λl=>[.d (Qr l),.d (Qr l)],val:=λ_=>.bool true,pre:=λl=>[l.length<1073741824/\True] }
def CMX(l:List Ln):Prop:=AS ZP (A_sm (.d (Qr l)) l.length) Tryz.f27 (AE Tryz.f27) (C_smL.xs l) (AB []) (.bool true) [] [] []
theorem CTH(l:List Ln):(CMX l)=(HZ (Qh (BO (CO l))) Un (HU (λi=>XV (ABW (DR (CO l)) (AG (λj=>Jq j (CO l) (GQ l j) l j j)) (BX i)) i (CO l)) (λi=>An (Ko i (CO l)) i (CO l) (YE (CR i (CO l)) (BO i) (Wr (BO i) (CO l))) (not (Mm (Mm (Bf (GQ l i)) (Bf (LO l i))) (Mm (Bf (IV l i)) (Bf (OE l i))))) Un (λj=>Bm (ABW (DR (CO l)) (AG (λk=>Jq k (CO l) (GQ l k) l k k)) (AJ j i)) j (CO l) j i) UN))):=by kernel_rfl
theorem BYY{x:Ln}{t:Int}(h:MI x)(ht:0<=t/\t<=2000):-2305843009213693952<=(Ct x t).n/\(Ct x t).n<=2305843009213693952:=by
 obtain⟨h1,h2,h3,h4,h5,h6⟩:=h
 have hn:=BNC (n:=x.a1*(x.b0-x.a0)+(x.b1-x.a1)*(t-x.a0)) (d:=x.b0-x.a0)
 have b1:0<=x.a1*(x.b0-x.a0):=Int.mul_nonneg h4 (by omega)
 have b2:x.a1*(x.b0-x.a0)<=200000*2000:=Int.le_trans (Int.mul_le_mul_of_nonneg_left (show x.b0-x.a0<=2000 by omega) h4) (Int.mul_le_mul_of_nonneg_right (by omega) (by omega))
 have b3:(x.b1-x.a1)*(t-x.a0)<=200000*2000:=Int.le_trans (Int.mul_le_mul_of_nonneg_left (show t-x.a0<=2000 by omega) (by omega)) (Int.mul_le_mul_of_nonneg_right (by omega) (by omega))
 have b4:-(200000*2000)<=(x.b1-x.a1)*(t-x.a0):=by
  have e1:=Int.mul_le_mul_of_nonneg_left (show -2000<=t-x.a0 by omega) (show 0<=x.b1-x.a1 by omega)
  have e2:=Int.mul_le_mul_of_nonneg_right (show x.b1-x.a1<=200000 by omega) (show (0:Int)<=2000 by omega)
  rw[Int.mul_neg] at e1;omega
 unfold Ct
 omega
theorem CVO:AH ZP 22 (C_At.spec dRtI):=PW C_At (λ_=>CPT) [] [] Tryz.func22 (λ_=>by kernel_rfl) (λ_=>AA AKY (AA Vj (AA iQ (AA AJH (AA ANB AD))))) (λ(a:RtI) h=>by
 show CQC a;rw[CTW]<;> dsimp only[go_sem];simp only[CC,CU]
 obtain⟨h1,h2⟩:a.r.b.length<1073741824/\a.r.l.length<1073741824:=h
 have er:Rtg.mk a.r.b a.r.l=a.r:=rfl
 rw[er]
 refine⟨⟨h1,h2⟩,λhc=>?_,λhc=>⟨λhi=>?_,λhi=>?_⟩⟩
 ·have e0:(HB a.r==0)=false:=by simpa using hc
  have e:atE a=HB a.r:=by unfold atE;rw[e0];rfl
  have e2:atM a=⟨0,0⟩:=by unfold atM;rw[e,e0];rfl
  rw[e2];exact⟨rfl,rfl,e⟩
 ·have e0:(HB a.r==0)=true:=by simpa using hc
  have e:atE a=4:=by unfold atE;rw[e0,hi];rfl
  have e2:atM a=⟨0,0⟩:=by unfold atM;rw[e];rfl
  rw[e2];exact⟨rfl,rfl,e⟩
 ·have e1:HB a.r=0:=by simpa using hc
  have e0:(HB a.r==0)=true:=by simpa using hc
  have e:atE a=0:=by unfold atE;rw[e0,hi];rfl
  have e2:atM a=atF a:=by unfold atM;rw[e];rfl
  obtain⟨f2,f3,f4,f5⟩:=(C9 e1).1
  have hle:KB a.r.b a.t<=a.r.b.length:=List.countP_le_length
  have hx:=f4 _ (BU (l:=a.r.l) (k:=KB a.r.b a.t) (by omega))
  have ht:0<=a.t/\a.t<=2000:=by
   unfold JD at hi
   simp only[Bool.and_eq_true,decide_eq_true_eq] at hi
   omega
  have hd:=AFA (t:=a.t) hx
  have hn:-2305843009213693952<=(Ct (gD a.r.l (KB a.r.b a.t)) a.t).n/\(Ct (gD a.r.l (KB a.r.b a.t)) a.t).n<=2305843009213693952:=by
   have:=BYY hx ht;omega
  rw[e2]
  exact⟨⟨h1,⟨by omega,by omega⟩,hx,ht,⟨hd.1,by omega⟩,hn⟩,rfl,rfl,e⟩) (λ_=>RA rfl rfl) _
theorem BKG:AH ZP 12 (C_cdG.spec NU):=PW C_cdG (λ_=>ann 7 []) [] [] Tryz.func12 (λ_=>by kernel_rfl) (λ_=>AD) (λ(l:List Gau) h=>by
 show CMQ l;rw[CTP]<;> dsimp only[go_sem];simp only[CC,CU,Nat.sub_zero]
 have h:l.length<1073741824:=(show l.length<1073741824/\True from h).1
 refine⟨?_,?_,?_,?_⟩<;>first | omega | (intro h;cases h)) (λ_=>RA rfl rfl) _
theorem ALF:AH ZP 13 (C_cdI.spec dIs1):=PW C_cdI (λ_=>ann 7 []) [] [] Tryz.func13 (λ_=>by kernel_rfl) (λ_=>AD) (λ(l:List Int) h=>by
 show CQZ l;rw[CWB]<;> dsimp only[go_sem];simp only[CC,CU,Nat.sub_zero]
 have h:l.length<1073741824:=(show l.length<1073741824/\True from h).1
 refine⟨?_,?_,?_,?_⟩<;>first | omega | (intro h;cases h)) (λ_=>RA rfl rfl) _
theorem CUO:AH ZP 8 (C_cdL.spec dLs1):=PW C_cdL (λ_=>ann 7 []) [] [] Tryz.func8 (λ_=>by kernel_rfl) (λ_=>AD) (λ(l:List Ln) h=>by
 show CNI l;rw[CVY]<;> dsimp only[go_sem];simp only[CC,CU,Nat.sub_zero]
 have h:l.length<1073741824:=(show l.length<1073741824/\True from h).1
 refine⟨?_,?_,?_,?_⟩<;>first | omega | (intro h;cases h)) (λ_=>RA rfl rfl) _
theorem BHL:AH ZP 26 (C_smG.spec dGs2):=PW C_smG (λl=>A_sm (.d (AT l)) l.length) [] [] Tryz.func26 (λ_=>by kernel_rfl) (λ_=>AD) (λ(l:List Gau) h=>by
 show CMU l;rw[CRO]<;> dsimp only[go_sem];simp only[CC,CU,beq_self_eq_true,Bool.and_self]
 have h:l.length<1073741824:=(show l.length<1073741824/\True from h).1
 exact⟨λh=>by simp at h,λ_=>⟨⟨0,rfl,Nat.zero_le _⟩,λi hi hlt=>⟨⟨by omega,by omega⟩,λh=>(by cases h),i+1,(BF (by omega)).symm,by omega,by omega⟩⟩⟩) (λ_=>RA rfl rfl) _
theorem BBC:AH ZP 25 (C_smI.spec dIs2):=PW C_smI (λl=>A_sm (.d (AZ l)) l.length) [] [] Tryz.func25 (λ_=>by kernel_rfl) (λ_=>AD) (λ(l:List Int) h=>by
 show CQE l;rw[CTR]<;> dsimp only[go_sem];simp only[CC,CU]
 have h:l.length<1073741824:=(show l.length<1073741824/\True from h).1
 exact⟨λh=>by simp at h,λ_=>⟨⟨0,rfl,Nat.zero_le _⟩,λi hi hlt=>⟨⟨by omega,by omega⟩,λh=>by simp at h,λ_=>⟨i+1,(BF (by omega)).symm,by omega,by omega⟩⟩⟩⟩) (λ_=>RA rfl rfl) _
theorem CSY:AH ZP 27 (C_smL.spec dLs2):=PW C_smL (λl=>A_sm (.d (Qr l)) l.length) [] [] Tryz.func27 (λ_=>by kernel_rfl) (λ_=>AD) (λ(l:List Ln) h=>by
 show CMX l;rw[CTH]<;> dsimp only[go_sem];simp only[CC,CU,beq_self_eq_true,Bool.and_self]
 have h:l.length<1073741824:=(show l.length<1073741824/\True from h).1
 exact⟨λh=>by simp at h,λ_=>⟨⟨0,rfl,Nat.zero_le _⟩,λi hi hlt=>⟨⟨by omega,by omega⟩,λh=>(by cases h),i+1,(BF (by omega)).symm,by omega,by omega⟩⟩⟩) (λ_=>RA rfl rfl) _
def okLL(k:List (List Int)):Prop:=k.length<1073741824/\∀i,i<k.length->(gD k i).length<1073741824
def dLs:AVal->Option (List (List Int))
 | .d (.list _ n r _)=>some (sW n r)
 |_=>none
def dLL1:List AVal->Heap->Option (List (List Int)×List (Nat×Nat)×List Nat)
 |[y],_=>match dLs y with
  |some l=>some (l,[],[])
  |none=>none
 |_,_=>none
def dLL2:List AVal->Heap->Option (List (List Int)×List (Nat×Nat)×List Nat)
 |[y,_],_=>match dLs y with
  |some l=>some (l,[],[])
  |none=>none
 |_,_=>none
def C_cdLL:Ctr:={ α:=List (List Int),xs:=λl=>[.d (eLL l)],val:=λl=>.d (eLL l),pre:=λl=>[okLL l/\True] }
def cl3n(l:List (List Int)):Shape:={ α:=One,dflt:=default,T:=λ_=>⟨[(0,.d (eLL l)),(3,.d NC),(4,.int 0)],[]⟩,inv:=λ_=>True,meas:=λ_=>l.length+1 }
def cl3o(l:List (List Int)):Shape:={ α:=Nat,dflt:=0,T:=λi=>⟨[(0,.d (eLL l)),(3,.own 201 1 0 i),(4,.int i)],[(201,.live (.row 1 i λj=>AZ (gD l j)))]⟩,inv:=λi=>1<=i/\i<=l.length,meas:=λi=>l.length-i,again:=[(201,6112)] }
def CAE(l:List (List Int)):Ann:={ ann 20 [(13,C_cdI.spec dIs1)] with mt:=λid=>id==5,loops:=λid=>if id=3 then some [cl3n l,cl3o l] else none }
def CFO(l:List (List Int)):Prop:=AS ZP (CAE l) Tryz.f28 (AE Tryz.f28) (C_cdLL.xs l) (AB []) (C_cdLL.val l) [] [] [201]
theorem CKP(l:List (List Int)):(CFO l)=(WX (KZ (AR (DR (FH l)) (AG (λi=>gT i (FH l) l i)) AF AN BB)) (Ep (λi=>MO HO (Tx 0 (BO (FH l))) (BK (VL (FH l)) (EA (KJ l DW)) (AG (λj=>Wt j (FI (KJ l 0)) (FI (KJ l DW)) j (KJ l DW) j)) (Al (LV (KJ l 0))) (Xk 1) YM Xg (Nq 9223372036854775807) (tW 24)) (EI (λj=>Je (AO (DR (FH l)) (AG (λk=>gT k (FH l) l k)) (lY (PI j) (oW j) (λk=>ANR k j l k (FI (KJ l DW))))) (ZN 1 j (FH l)) (FH l) j (CN (FH l)))) (AAX (HE (FH l))))) (λi=>WU (ZN 1 i (FH l)) i (FH l) (BK (CR i (FH l)) (EA (KJ l i)) (CM (KJ l i)) (Al (LV (KJ l i))) (wA i) YM Ws (FF (CN i) 9223372036854775807) (tW (vK (CN i)))) (EI (λj=>fR (AO (DR (FH l)) (AG (λk=>gT k (FH l) l k)) (lY (QM j i) (AJ j i) (λk=>Ku k j (OD (KJ l k) (H4 (ANN k i) (GZ (KJ l k)) (GZ (FI (KJ l i))))) (AG (λm=>KC m (KJ l k) (EF k i (KL (KJ l k) m) (KL (FI (KJ l i)) m))))))) 1 j (FF j (FH l)) (FH l) j i)) (Tl (DU (FH l) i) i (AG (λj=>Mv j (FH l) l j l (AQ j)))))):=by kernel_rfl
def C_smLL:Ctr:={ α:=List (List Int),xs:=λl=>[.d (eLL l),.d (eLL l)],val:=λ_=>.bool true,pre:=λl=>[okLL l/\True] }
def BXO(l:List (List Int)):Ann:={ ann 27 [(25,C_smI.spec dIs2)] with loops:=λid=>if id=4 then some [smS (.d (eLL l)) l.length] else none }
def CEX(l:List (List Int)):Prop:=AS ZP (BXO l) Tryz.f38 (AE Tryz.f38) (C_smLL.xs l) (AB []) (.bool true) [] [] []
theorem CKT(l:List (List Int)):(CEX l)=(HZ (Qh (BO (FH l))) Un (HU (λi=>XV (ABW (DR (FH l)) (AG (λj=>gT j (FH l) l j)) (BX i)) i (FH l)) (λi=>WU (Ko i (FH l)) i (FH l) (BD (CR i (FH l)) (CR i (FH l)) (EA (KJ l i)) (ABN (CM (KJ l i)) (EA (KJ l i)) (LV (KJ l i)) HO)) (EI (λj=>Bm (ABW (DR (FH l)) (AG (λk=>gT k (FH l) l k)) (AJ j i)) j (FH l) j i)) UN))):=by kernel_rfl
theorem CRZ(l:List (List Int))(h1:l.length<1073741824)(h2:∀i,i<l.length->(gD l i).length<1073741824):CFO l:=by
 rw[CKP]<;> dsimp only[go_sem];simp only[CC,CU]
 refine⟨⟨default,trivial⟩,⟨λhlt=>⟨⟨⟨by omega,hlt⟩,h2 0 (by omega),λq=>by omega,by omega,by omega,by omega,by omega⟩,1,⟨rfl,(BF (a:=0) (by omega)).symm,rfl,λj hj=>?_⟩,⟨by omega,by omega⟩,by omega⟩,λhge=>by omega⟩,λi ⟨i1,i2⟩=>⟨λhlt=>⟨⟨⟨by omega,hlt⟩,h2 i (by omega),by omega,λq=>(by cases q),by omega,by omega⟩,i+1,⟨rfl,(BF (by omega)).symm,rfl,λj hj=>?_⟩,⟨by omega,by omega⟩,by omega⟩,λhge=>⟨by omega,Nat.le_refl _⟩⟩⟩
 ·obtain rfl:j=0:=by omega
  exact⟨rfl,λ_ _=>rfl⟩
 ·by_cases q:j<i
  ·rw[decide_eq_true q];exact⟨rfl,λ_ _=>rfl⟩
  ·obtain rfl:j=i:=by omega
   rw[decide_eq_false q];exact⟨rfl,λ_ _=>rfl⟩
theorem CHQ:AH ZP 28 (C_cdLL.spec dLL1):=PW C_cdLL CAE [] [201] Tryz.func28 (λ_=>by kernel_rfl) (λ_=>AA ALF AD) (λ(l:List (List Int)) h=>CRZ l h.1.1 h.1.2) (λ_=>RA rfl rfl) _
theorem CVG(l:List (List Int))(h1:l.length<1073741824)(h2:∀i,i<l.length->(gD l i).length<1073741824):CEX l:=by
 rw[CKT]<;> dsimp only[go_sem];simp only[CC,CU]
 exact⟨λh=>by simp at h,λ_=>⟨⟨0,rfl,Nat.zero_le _⟩,λi hi hlt=>⟨⟨⟨by omega,hlt⟩,⟨by omega,hlt⟩,h2 i (by omega)⟩,i+1,(BF (by omega)).symm,by omega,by omega⟩⟩⟩
theorem CKW:AH ZP 38 (C_smLL.spec dLL2):=PW C_smLL BXO [] [] Tryz.func38 (λ_=>by kernel_rfl) (λ_=>AA BBC AD) (λ(l:List (List Int)) h=>CVG l h.1.1 h.1.2) (λ_=>RA rfl rfl) _
theorem CHK{g:List Gau}{r:Rtg}{k:List (List Int)}(h:Few g r.b r.l k)(hc:AL g=0):Kz ⟨g,r⟩=0/\sX ⟨g,r⟩=[]:=by
 have hR:HB r=0:=by
  unfold HB
  rw[BSF h.asc h.brk h.few,h.lenl,List.all_eq_true.2 λx hx=>aI.2 (h.rise x hx)]
  simp
 have e:Kz ⟨g,r⟩=0:=by
  show (bif AL g==0 then HB r else AL g)=0
  rw[hc,hR];rfl
 refine⟨e,?_⟩
 unfold sX;rw[e]
 show vS ⟨g,r⟩ g.length=[]
 unfold vS
 rw[List.map_eq_nil_iff,List.filter_eq_nil_iff]
 intro i hi hq
 have hi:=List.mem_range.1 hi
 have hle:=L0 r.b (gD g i).st
 have hp:=(h.pass (KB r.b (gD g i).st) hle).2 _ (Iw.2 ⟨BU hi,rfl⟩)
 have ho:MI (gD r.l (KB r.b (gD g i).st)):=h.rise _ (BU (by rw[h.lenl];omega))
 have hq:(!NJ (gD r.l (KB r.b (gD g i).st)) (gD g i))=true:=hq
 rw[(B5 ho).2 hp] at hq;cases hq
theorem BCU{g:List Gau}(h:(FT g).e=0):AL g=0/\Few g (FT g).r.b (FT g).r.l (FT g).k:=by
 have hc:AL g=0:=by
  cases hq:AL g==0 with
  |true=>exact eq_of_beq hq
  |false=>
   unfold FT at h;rw[hq] at h
   have h:AL g=0:=h
   exact h
 rcases BZW hc with⟨e,_⟩ | ⟨_,W⟩
 ·rw[h] at e;cases e
 ·exact⟨hc,W⟩
theorem BUU(g:List Gau):((FT g).k.length:Int)=max 0 (((FT g).r.l.length:Int)-1)/\(FT g).r.l.length<=25/\(FT g).r.b.length<=25:=by
 by_cases h:(FT g).e=0
 ·obtain⟨_,W⟩:=BCU h
  have h1:=W.lenl
  have h2:=W.lenk
  have h3:=W.few
  omega
 ·obtain⟨h1,h2⟩:=AZE h
  rw[h1,h2]
  exact⟨rfl,Nat.zero_le _,Nat.zero_le _⟩
theorem CSP(g:List Gau)(i:Nat)(hi:i<(FT g).k.length):(gD (FT g).k i).length<1073741824:=by
 by_cases h:(FT g).e=0
 ·obtain⟨hc,W⟩:=BCU h
  have hk:=W.lenk
  have:=(W.knot hc (i:=i) (by omega)).nm
  have hl:=(JU hc).1
  have:=(M8 (a:=⟨g,gD (FT g).k i⟩) (by show g.length<_;omega) this).1.2
  show (gD (FT g).k i).length<_
  have:(gD (FT g).k i).length<=3:=this
  omega
 ·rw[(AZE h).2] at hi
  exact absurd hi (Nat.not_lt_zero _)
theorem CHU{g:List Gau}(h:(FT g).e=0):bF ⟨g,((FT g).r.l.length:Int),(FT g).k,false⟩=0/\Rs ⟨g,((FT g).r.l.length:Int),(FT g).k,false⟩=true:=by
 obtain⟨hc,W⟩:=BCU h
 obtain⟨h1,h2⟩:=W.prv hc (List.Perm.refl _) ((FT g).r.l.length:Int) false
 refine⟨h1,h2.trans (decide_eq_true ?_)⟩
 have h1:=W.lenl
 have h2:=W.lenk
 omega
end Go.Bal
