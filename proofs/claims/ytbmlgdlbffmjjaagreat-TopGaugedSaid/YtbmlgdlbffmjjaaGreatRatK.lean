/- Package rating: Reach. -/
import Derived.Test.YtbmlgdlbffmjjaaGreatRatI
set_option linter.unusedVariables false
set_option linter.unusedSimpArgs false

namespace Go.Bal
open Go Go.Sym Go.Proofs
structure BnF where
 b:Bnd
 f:Rt
def st1(a:BnF):Bool:=decide (vH a.b.hi a.f<0)
def st2(a:BnF):Bool:=decide (vH a.b.lo a.f<=0)
def upL(pr:Int->Bool):Nat->Int->Int->Int
 |0,lo,_=>lo
 |n+1,lo,hi=>bif decide (lo<hi) then (bif pr (lo+(hi-lo+1).tdiv 2) then upL pr n (lo+(hi-lo+1).tdiv 2) hi else upL pr n lo (lo+(hi-lo+1).tdiv 2-1)) else lo
structure UpI where
 w:Bk
 k:Int
 f:Rt
def upP(v:BnF->Bool)(a:UpI)(t:Int):Bool:=v ⟨bndM (lB ⟨a.w,t⟩) t,a.f⟩
def upM(v:BnF->Bool)(a:UpI):Int:=upL (upP v a) 3000 ((gE a.w a.k).lo-1) (gE a.w a.k).hi
theorem BGL{w:Bk}{k:Int}(h:gJ w.g w.b)(h1:0<=k)(h2:k<=w.b.length):0<=(gE w k).lo/\(gE w k).lo<=(gE w k).hi/\(gE w k).hi<=2000/\∀m:Int,(gE w k).lo<=m->m<=(gE w k).hi->(Vs w.b m:Int)=k:=by
 obtain⟨_,_,_,hasc,hbr⟩:=h
 obtain⟨n,rfl⟩:=Int.eq_ofNat_of_zero_le h1
 have h2:n<=w.b.length:=Int.ofNat_le.1 h2
 have hb:∀i,i<w.b.length->1<=gD w.b i/\gD w.b i<=2000:=λi hi=>hbr _ (MH hi)
 have elo:(gE w n).lo=if 0<n then gD w.b (n-1) else 0:=by
  show (bif decide ((n:Int)>0) then gD w.b ((n:Int)-1).toNat else 0)=_
  by_cases h0:0<n
  ·rw[decide_eq_true (show (n:Int)>0 by omega),if_pos h0,show ((n:Int)-1).toNat=n-1 by omega];rfl
  ·rw[decide_eq_false (show ¬(n:Int)>0 by omega),if_neg h0];rfl
 have ehi:(gE w n).hi=if n<w.b.length then gD w.b n-1 else 2000:=by
  show (bif decide ((n:Int)<w.b.length) then wr (gD w.b (n:Int).toNat-1) else 2000)=_
  by_cases h0:n<w.b.length
  ·have:=hb n h0
   rw[decide_eq_true (show (n:Int)<w.b.length by omega),if_pos h0,Int.toNat_natCast]
   unfold wr;rw[ZW (by omega) (by omega)];rfl
  ·rw[decide_eq_false (show ¬(n:Int)<w.b.length by omega),if_neg h0];rfl
 have h3:0<n->n<w.b.length->gD w.b (n-1)<gD w.b n:=λa b=>qC hasc (by omega) b
 refine⟨?_,?_,?_,λm hm hm2=>?_⟩
 ·rw[elo];split
  ·have:=hb (n-1) (by omega);omega
  ·omega
 ·rw[elo,ehi];split<;>split
  ·have:=h3 (by omega) (by omega);omega
  ·exact (hb (n-1) (by omega)).2
  ·have:=hb n (by omega);omega
  ·omega
 ·rw[ehi];split
  ·have:=hb n (by omega);omega
  ·omega
 ·congr 1
  refine M8 h2 (λj hj=>?_) (λj hj hj2=>?_)
  ·rw[elo,if_pos (by omega)] at hm
   have:gD w.b j<=gD w.b (n-1):=by
    by_cases e:j=n-1
    ·rw[e];exact Int.le_refl _
    ·exact Int.le_of_lt (qC hasc (by omega) (by omega))
   exact decide_eq_true (by omega)
  ·rw[ehi,if_pos (by omega)] at hm2
   have:gD w.b n<=gD w.b j:=by
    by_cases e:n=j
    ·rw[e];exact Int.le_refl _
    ·exact Int.le_of_lt (qC hasc (by omega) hj2)
   exact decide_eq_false (by omega)
theorem BYZ{lo hi:Int}(h:lo<hi):lo<lo+(hi-lo+1).tdiv 2/\lo+(hi-lo+1).tdiv 2<=hi:=by
 rw[Int.tdiv_eq_ediv_of_nonneg (by omega)];omega
end Go.Bal


namespace Go.Bal
open Go Go.Sym Go.Proofs
structure GBf where
 a:GB
 f:Int
def stF(x:GBf)(k:Nat):Int:=upM st1 ⟨Ce x.a,k,⟨x.f,1⟩⟩+1
def stL(x:GBf)(k:Nat):Int:=upM st2 ⟨Ce x.a,k,⟨x.f,1⟩⟩
theorem BBO{pr:Int->Bool}:∀(n:Nat) (lo hi:Int),lo<=hi->lo<=upL pr n lo hi/\upL pr n lo hi<=hi
 |0,lo,hi,h=>⟨Int.le_refl _,h⟩
 |n+1,lo,hi,h=>by
  unfold upL
  by_cases hl:lo<hi
  ·obtain⟨h3,h4⟩:=BYZ hl
   rw[decide_eq_true hl]
   cases pr (lo+(hi-lo+1).tdiv 2)
   ·have:=BBO (pr:=pr) n lo (lo+(hi-lo+1).tdiv 2-1) (by omega);exact⟨this.1,by have:=this.2;show upL _ _ _ _<=_;omega⟩
   ·have:=BBO (pr:=pr) n (lo+(hi-lo+1).tdiv 2) hi h4;exact⟨by have:=this.1;show _<=upL _ _ _ _;omega,this.2⟩
  ·rw[decide_eq_false hl];exact⟨Int.le_refl _,h⟩
theorem COS{v:BnF->Bool}{a:UpI}(h:gJ a.w.g a.w.b)(h1:0<=a.k)(h2:a.k<=a.w.b.length):(gE a.w a.k).lo-1<=upM v a/\upM v a<=(gE a.w a.k).hi /\ -1<=upM v a/\upM v a<=2000:=by
 obtain⟨s1,s2,s3,_⟩:=BGL h h1 h2
 obtain⟨i1,i2⟩:=BBO (pr:=upP v a) 3000 ((gE a.w a.k).lo-1) (gE a.w a.k).hi (by omega)
 unfold upM;omega
end Go.Bal


namespace Go.Bal
open Go Go.Sym Go.Proofs
def C_isKnot:Ctr:={ C_line with val:=λ(s:List Gau)=>.bool (!(NX s).2) }
def AXK(s:List Gau):Prop:=AX Try.prog (ann 12 [(AKN,C_line.spec dGsK)]) AHI (AF AHI) (C_isKnot.xs s) (AC []) (C_isKnot.val s) [] [] []
theorem BKR(s:List Gau):(AXK s)=(And (AQ (CN s) (CV s) (Zs s) (SX (λi=>RA i (BB s) i i i i))) (Am (not (Es s)) (Es (BB s)))):=by kernel_rfl
structure GG where
 a:Gau
 b:Gau
def dGG:List AVal->Option GG
 |[.d (.agg [.v (.int .i64 a),.v (.int .i64 b),.v (.int .i64 c)]),.d (.agg [.v (.int .i64 p),.v (.int .i64 q),.v (.int .i64 r)])]=>some ⟨⟨a,b,c⟩,⟨p,q,r⟩⟩
 |_=>none
def xGG(a:GG):List AVal:=[.d (eGau a.a),.d (eGau a.b)]
def CJT:=pD dGG λa=>.int (kJ a.a.st a.b.st)
def CKI(a:GG):Prop:=AX Try.prog (ann 10 [(zA,Z4)]) AFN (AF AFN) (xGG a) (AC []) (.int (kJ a.a.st a.b.st)) [] [] []
theorem CMI(a:GG):(CKI a)=(AJ (kW (KA (GG.a a)) (KA (GG.b a)))):=by kernel_rfl
def srtK(s:List Gau):Nat->Bool
 |0=>true
 |k+1=>bif decide (kJ (gD s (k+1)).st (gD s k).st<0) then false else srtK s k
def srtM(s:List Gau):Bool:=srtK s (s.length-1)
def C_sorted:Ctr:={ α:=List Gau,xs:=λs=>[.d (KB s),.fn (.func nI) [] []],L:=λ_=>[],val:=λs=>.bool (srtM s),keep:=λ_=>[],pre:=λs=>[0<s.length/\s.length<1073741824] }
def AYM:List AVal->Heap->Option (List Gau×List (Nat×Nat)×List Nat)
 |[y,.fn (.func g) [] []],H=>if g=nI then match AHL y H with
  |some (l,f)=>some (l,[],f)
  |none=>none else none
 |_,_=>none
def so2(s:List Gau):Shape:={ α:=Nat,dflt:=0,T:=λk=>⟨[(0,.d (KB s)),(1,.fn (.func nI) [] []),(5,.int k)],[]⟩,inv:=λk=>k+1<=s.length/\srtM s=srtK s k,meas:=λk=>k }
def AYI(s:List Gau):Ann:={ ann 25 [(nI,CJT)] with loops:=λid=>if id=2 then some [so2 s] else none }
def AYW(s:List Gau):Prop:=AX Try.prog (AYI s) AJN (AF AJN) (C_sorted.xs s) (AC []) (C_sorted.val s) [] [] []
abbrev Aq a b:=DW a (MW b)
abbrev dY a b:=DG a (BP b)
attribute [go_sem] Aq dY
theorem BKN(s:List Gau):(AYW s)=(TU (λi=>AG (AG (BW s) (BX s) (GH i (Qs (BP s)))) (HH (CL i) s) (LI (srtM s) (srtK s i))) (λi=>HK (CJ (CL i) (BP s) (LI (srtM s) (srtK s i))) (TM (BH i)) (Bi (BE i (BP s)) (Qs i) (dY (Qs i) s)) (FA (Pw (kW (DW s i) (Aq s (Qs i)))) (Dz (srtM s)) (CG (λj=>NM (AG (BW s) (BX s) (GH j (Qs i))) (CL j) (BP s) (LI (srtM s) (srtK s j)) j i))) (GI (srtM s)))):=by kernel_rfl
structure GK where
 g:List Gau
 k:List Int
def dGK:List AVal->Heap->Option (GK×List (Nat×Nat)×List Nat)
 |[x,y],H=>match AHL x H,F6 y H with
  |some (l,f),some (m,e)=>some (⟨l,m⟩,[],f ++ e)
  |_,_=>none
 |_,_=>none
def xGK(a:GK):List AVal:=[.d (KB a.g),.d (II a.k)]
def yM(a:GK):List Gau:=a.k.map λi=>gD a.g i.toNat
def L5(a:GK):Bool:=bif MN a.k.length 2 3 then a.k.all λx=>MN x 0 (wr (a.g.length-1)) else false
def nmB(s:List Gau):Bool:=bif srtM s then decide ((gD s 0).st<(gD s (s.length-1)).st) else false
def nmM(a:GK):List Gau×Bool:=bif L5 a then (yM a,nmB (yM a)) else ([],false)
def C_named:Ctr:={ α:=GK,xs:=xGK,L:=λ_=>[],val:=λa=>.tup [.d (KB (nmM a).1),.bool (nmM a).2],keep:=λ_=>[],pre:=λa=>[a.g.length<1073741824/\a.k.length<1073741824] }
def nm5n(a:GK):Shape:={ α:=One,dflt:=default,T:=λ_=>⟨[(2,.bptr 200 0),(6,.d gK),(20,.d (II a.k)),(21,.int a.k.length),(22,.int 0)],[(200,.live (.box [.d (KB a.g)]))]⟩,inv:=λ_=>L5 a=true,meas:=λ_=>a.k.length+1,first:=[(200,1000)] }
def nm5o(a:GK):Shape:={ α:=GsK,dflt:=default,T:=λx=>⟨[(2,.bptr 200 0),(6,.own 201 3 0 x.l.length),(20,.d (II a.k)),(21,.int a.k.length),(22,.int x.i)],[(200,.live (.box [.d (KB a.g)])),(201,.live (rowG x.l))]⟩,inv:=λx=>L5 a=true/\1<=x.i/\x.i<=a.k.length/\x.l=(a.k.take x.i).map λi=>gD a.g i.toNat,meas:=λx=>a.k.length-x.i,again:=[(201,8096)] }
def nm9(a:GK):Shape:={ α:=One,dflt:=default,T:=λ_=>⟨[(6,.d (KB (yM a)))],[]⟩,inv:=λ_=>L5 a=true,meas:=λ_=>0,ffz:=[201] }
def BID(a:GK):Ann:={ ann 52 [(n_in,Fh),(n_eI,C4In.spec d4In),(AED,C_sorted.spec AYM)] with mt:=λid=>id==7,loops:=λid=>if id=5 then some [nm5n a,nm5o a] else none,cut:=λid=>if id=9 then some [nm9 a] else none }
def BJI(a:GK):Prop:=AX Try.prog (BID a) APN (AF APN) (C_named.xs a) (AC []) (C_named.val a) [] [] []
abbrev RQ:=GK.k
abbrev YY:=GK.g
abbrev AFJ:=@Prod.snd (List Gau) Bool
abbrev F8:=@List.map Int Gau
abbrev gF a:=(@Prod.fst (List Gau) Bool) (nmM a)
abbrev TT a b:=DT a (BP b)
abbrev vQ a:=GI (L5 a)
abbrev cJ a:=FI (RQ a)
abbrev Mb a:=CW 1 a
abbrev pZ a:=Mb (EC a)
abbrev AEO a b c d e f g h:=AS a b c d e f g a h
abbrev fF a b:=IR a (EC b)
abbrev sH a:=BB (YY a)
attribute [go_sem] RQ YY AFJ F8 gF TT vQ cJ Mb pZ AEO fF sH
theorem BRW(a:GK):(BJI a)=(GV (FV (not (not (MN (YP (RQ a)) 2 3))) (AQ (HI (RQ a)) (GQ (RQ a)) (CN (YY a)) (AI (CV (YY a)) (CI (YY a) (sH a)) (BU (YY a) (sH a)) (Gd (RQ a)) FW))) (PD (not (MN (YP (RQ a)) 2 3)) (not (AXI (EL (RQ a)) (λi=>Vi i (sH a))))) (iB (Vh (gF a)) (Dz (AFJ (nmM a)))) (And (AG (Cr (SU CK (HT (RQ a)) (AI (EF (RQ a)) (PH (RQ a)) AL (BW (YY a)) (BX (YY a)))) (vQ a)) (Ac (λi=>FV (L5 a) (FA (NL 0 (YP (RQ a))) (AG (HW (cJ a)) (AV (TT (IR (RQ a) 0) (YY a)) (XD 3) (VF 3) GO (Mb 9223372036854775807) (LS 24)) (mL (λj=>SG (KU (AEO (Qy j 1) (HT (RQ a)) (EF (RQ a)) (PH (RQ a)) (JA (EC j) 0) (BW (YY a)) (BX (YY a)) (AE (λk=>Yx k (JQ j) (YY a) (MW (Zj (RQ a) 0)))))) (ZC (vQ a) (pZ j) (EC j) (cJ a) (Eo j (F8 (λk=>GU (YY a) (MW k)) (xY (EC j) (RQ a))))) (cJ a) (EC j) (CL (cJ a))))) (Cr (hX (Vh (yM a))) (vQ a))))) (N7 (λi=>MQ (ZC (vQ a) (pZ i) (EC i) (cJ a) (Eo i (F8 (λj=>GU (YY a) (MW j)) (xY (EC i) (RQ a))))) (EC i) (cJ a) (AG (BE (EC i) (cJ a)) (AV (TT (fF (RQ a) i) (YY a)) (And (BW (JQ i)) (JG 0 (JQ i) FQ)) (VF 3) JE (CW (Ww i) 9223372036854775807) (LS (RX (Ya i) 24))) (mL (λj=>EY (KU (AEO (Qy j (Ww i)) (HT (RQ a)) (EF (RQ a)) (PH (RQ a)) (AU (EC j) (EC i)) (BW (YY a)) (BX (YY a)) (AE (λk=>DZ k (JQ j) (So k i (DW (JQ i) k) (Aq (YY a) (fF (RQ a) i))) (So k i (DK (JQ i) k) (DK (YY a) (MW (fF (RQ a) i)))) (So k i (DF (JQ i) k) (DF (YY a) (MW (fF (RQ a) i)))))))) (ZC (vQ a) (pZ j) (EC j) (cJ a) (Eo j (F8 (λk=>GU (YY a) (MW k)) (xY (EC j) (RQ a))))) (cJ a) (EC j) (EC i)))) (Cr (WM (Tc (yM a) i) (HH (AP (Ya i)) (JQ i)) (λj=>Yx j (yM a) (JQ i) (AP j))) (vQ a))))) (Ac (λi=>FV (L5 a) (AI (AQ (CN (yM a)) (CV (yM a)) (IC (BP (BB (yM a)))) (Zs (yM a))) (And (FV (srtM (BB (yM a))) (HW (BP (yM a)))) (FV (srtM (BB (yM a))) (TT (Qs (BP (yM a))) (yM a)))) (CI (gF a) (yM a)) (BU (gF a) (yM a)) (HX (AFJ (nmM a)) (srtM (BB (yM a))) (NL (Aq (yM a) 0) (Aq (yM a) (Qs (BP (yM a))))))))))):=by kernel_rfl
theorem ANJ:AH Try.prog G9 (C_isKnot.spec dGsK):=PU C_isKnot (λ_=>ann 12 [(AKN,C_line.spec dGsK)]) [] [] BLV (λ_=>by kernel_rfl) (λ_=>AA BJU AD) (λ(s:List Gau) h=>by
 show AXK s;rw[BKR]<;> delta LI KA LX JZ AK AN AE BA BM DC BP GU SX AG AI AO QG BB DW BF HB DF JG DK AQ JH JK KD CI OT HJ RB DZ UC KH EH BU OC Bf UZ Ch XB CN CV UA Es RA Am Zs;simp only[CC,CU];exact h) (λ_=>RR rfl rfl) _
theorem hGG(xs:List AVal)(a:GG)(h:dGG xs=some a):xs=xGG a:=by
 unfold dGG at h;split at h<;>cases h;rfl
theorem CNB:AH Try.prog nI CJT:=MA xGG hGG λa _=>Ee (A:=ann 10 [(zA,Z4)]) (ren:=[]) (fz:=[]) BKI (by kernel_rfl) (AA ARL AD) (by
 show CKI a;rw[CMI]<;> delta KA AK kW AJ)
theorem BMG:AH Try.prog AED (C_sorted.spec AYM):=PU C_sorted AYI [] [] BKJ (λ_=>by kernel_rfl) (λ_=>AA CNB AD) (λ(s:List Gau) h=>by
 show AYW s;rw[BKN]<;> delta LI UD KA LX JZ NL HU FA AK kW Xi AN AE BA BM BH CW DC ER NE Nn MW HD CG BP GU CS AG AO AJ AR IV CM DW HY AAG BF BW DF MM JG DK GH VT CL EA DG FB EV GI DT Ab EW MG BE CJ HK BX HH Dz Qs TM NM dY Aq TU Bi Pw;simp only[CC,CU]
 obtain⟨h1,h2⟩:0<s.length/\s.length<1073741824:=h
 refine⟨⟨s.length-1,by rw[ZW (by omega) (by omega)];omega,by omega,rfl⟩,λk ⟨hk1,hk2⟩=>⟨λhlt=>?_,λhge=>?_⟩⟩
 ·obtain⟨k,rfl⟩:∃n,k=n+1:=⟨k-1,by omega⟩
  have e:IntKind.i64.wrap (((k+1:Nat):Int)-1)=(k:Nat):=by rw[ZW (by omega) (by omega)];omega
  rw[e,Int.toNat_natCast]
  unfold srtK at hk2
  refine⟨⟨⟨by omega,by omega⟩,by omega,by omega⟩,λhc=>?_,λhc=>⟨k,rfl,⟨by omega,?_⟩,by omega⟩⟩
  ·rw[hk2,decide_eq_true hc];rfl
  ·rw[hk2,decide_eq_false hc];rfl
 ·rw[hk2,show k=0 by omega];rfl) (λ_=>RR rfl rfl) _
theorem ACR{a:GK}(hg:a.g.length<1073741824)(h:L5 a=true):2<=a.k.length/\a.k.length<=3/\∀x∈a.k,0<=x/\x<a.g.length:=by
 unfold L5 at h
 cases hc:MN a.k.length 2 3 with
 |false=>rw[hc] at h;cases h
 |true=>
  rw[hc] at h
  have h:(a.k.all λx=>MN x 0 (wr (a.g.length-1)))=true:=h
  unfold MN at hc
  simp only[Bool.and_eq_true,decide_eq_true_eq] at hc
  refine⟨by omega,by omega,λx hx=>?_⟩
  have:=List.all_eq_true.1 h x hx
  unfold MN wr at this
  rw[ZW (by omega) (by omega)] at this
  simp only[Bool.and_eq_true,decide_eq_true_eq] at this
  omega
theorem CFF(a:GK)(h1:a.g.length<1073741824)(h2:a.k.length<1073741824):BJI a:=by
 rw[BRW]<;> delta LI Wo UD KA LX JZ NL HU FA AK AN FI AE BA BM IR BH CW xY DC ER NE TD KJ Ff Nn FF FW MW HD BP GU AXI HS Wm Ac Df ALW mL JQ EC N7 RQ YY AFJ F8 CS AG AP AI AO AJ AR DR hX VS iB VY QG IV AS CM EL BB AEO DW HY AAG BF HB BW DN DF MM JG DK BO GH VT HA AM AQ JH CL JK KD EI EA ML DG HT CI OT FP EV KC GI NQ GM AV nE DT RO Ab Mw JA BK AU IY AL Sc FV OV HZ MG DZ BE RF EF IA CK IC BZ Ei KH EH Yx BR LB BU OC PD VF BX LS HH GW CN CV FC JO SC MI JE SG QA RX Ay QM HI Cr TF EY GO Ya FQ HW GV XD HX GQ HP Dz KU PH Qs TT WM UA MQ Zj Eo YP Vi Mb Aq SU sH ZC Qy cJ Gd Ww gF Tc Vh fF So pZ Zs vQ;simp only[CC,CU]
 have hk:∀{i:Nat},L5 a=true->i<a.k.length->0<=gD a.k i/\gD a.k i<a.g.length:=λh hi=>(ACR h1 h).2.2 _ (MH hi)
 have hl:∀i,((a.k.take i).map λi=>gD a.g i.toNat).length<=a.k.length:=λi=>by simp;omega
 have hnl:(yM a).length=a.k.length:=by unfold yM;simp
 refine⟨λ_=>by omega,λhb=>?_,λhb=>⟨⟨⟨default,?_⟩,λhn=>⟨λhlt=>⟨⟨by omega,by omega⟩,⟨hk hn (by omega),by omega,by omega,by omega,by omega,by omega⟩,⟨1,[gD a.g (gD a.k 0).toNat]⟩,⟨rfl,rfl,rfl,λi hi=>?_⟩,⟨hn,by show 0<1;omega,by show 1<=_;omega,?_⟩,by show a.k.length-1<_;omega⟩,λhge=>?_⟩,λx ⟨hn,x1,x2,x3⟩=>⟨λhlt=>⟨⟨by omega,by omega⟩,⟨hk hn (by omega),by omega,λh=>(by cases h),?_,?_⟩,⟨x.i+1,x.l ++ [gD a.g (gD a.k x.i).toNat]⟩,⟨by simp,(GJ (by omega)).symm,by simp,BOT _ _⟩,⟨hn,by show 0<x.i+1;omega,by show x.i+1<=_;omega,?_⟩,by show a.k.length-(x.i+1)<_;omega⟩,λhge=>⟨default,?_,hn⟩⟩⟩,λhn=>?_⟩⟩
 ·have e:L5 a=false:=by
   unfold L5
   cases hc:MN a.k.length 2 3 with
   |false=>rfl
   |true=>rw[hc] at hb;simpa using hb
  have:nmM a=([],false):=by unfold nmM;rw[e];rfl
  rw[this];exact⟨rfl,rfl,rfl⟩
 ·unfold L5
  cases hc:MN a.k.length 2 3 with
  |false=>rw[hc] at hb;cases hb
  |true=>rw[hc] at hb;simpa using hb
 ·have hi:i<1:=hi
  rw[show i=0 by omega];exact⟨rfl,rfl,rfl⟩
 ·show [gD a.g (gD a.k 0).toNat]=(a.k.take 1).map _
  rw[VQ (by omega:0<a.k.length)];rfl
 ·have:=ACR h1 hn;omega
 ·have:=hl x.i;rw[<-x3] at this;omega
 ·have:=hl x.i;rw[<-x3] at this;omega
 ·show x.l ++ _=(a.k.take (x.i+1)).map _
  rw[VQ (by omega:x.i<a.k.length),List.map_append,x3];rfl
 ·have:x.l=yM a:=by rw[x3,List.take_of_length_le (by omega)];rfl
  rw[this];exact⟨rfl,Nat.le_refl _,λ_ _=>⟨rfl,rfl,rfl⟩⟩
 ·have:=ACR h1 hn
  have e:nmM a=(yM a,nmB (yM a)):=by unfold nmM;rw[hn];rfl
  rw[e,ZW (by omega) (by omega)]
  refine⟨⟨by omega,by omega⟩,⟨λ_=>⟨by omega,by omega⟩,λ_=>⟨by omega,by omega⟩⟩,rfl,λ_ _=>⟨rfl,rfl,rfl⟩,?_⟩
  rw[show ((yM a).length-1:Int).toNat=(yM a).length-1 by omega];rfl
theorem BYC:AH Try.prog AUS (C_named.spec dGK):=PU C_named BID [] [] BYQ (λ_=>by kernel_rfl) (λ_=>AA J6 (AA CRQ (AA BMG AD))) (λ(a:GK) h=>CFF a h.1 h.2) (λ_=>RR rfl rfl) _
theorem CND{a:GK}(hg:∀g∈a.g,Ho g)(h1:a.g.length<1073741824):(nmM a).1.length<1073741824/\∀g∈(nmM a).1,Ho g:=by
 unfold nmM
 cases hc:L5 a with
 |false=>exact⟨by show 0<_;omega,λg hg=>by cases hg⟩
 |true=>
  have:=ACR h1 hc
  refine⟨by show (yM a).length<_;unfold yM;rw[List.length_map];omega,λg hgm=>?_⟩
  have hgm:g∈yM a:=hgm
  unfold yM at hgm
  obtain⟨x,hx,rfl⟩:=List.mem_map.1 hgm
  have:=this.2.2 x hx
  exact hg _ (MH (by omega))
theorem Vz{g:List Gau}(h:IH g=0):(1<=g.length/\g.length<=24)/\∀x∈g,Ho x:=by
 unfold IH at h
 cases h2:MN g.length 1 24 with
 |false=>rw[h2] at h;cases h
 |true=>
  rw[h2] at h
  cases h3:g.all riG with
  |false=>rw[h3] at h;cases h
  |true=>
   unfold MN at h2
   simp only[Bool.and_eq_true,decide_eq_true_eq] at h2
   refine⟨by omega,λx hx=>?_⟩
   have:=List.all_eq_true.1 h3 x hx
   unfold riG MN at this
   simp only[Bool.and_eq_true,decide_eq_true_eq] at this
   unfold Ho;omega
end Go.Bal
