/- Package rating: Reach. -/
import Derived.Test.YtbmlgdlbffmjjaaGreatRatI
set_option linter.unusedVariables false
set_option linter.unusedSimpArgs false

namespace Go.Bal
open Go Go.Sym Go.Proofs
structure BnF where
 b:Bnd
 f:Rt
def st1(a:BnF):Bool:=decide (tO a.b.hi a.f<0)
def st2(a:BnF):Bool:=decide (tO a.b.lo a.f<=0)
def upL(pr:Int->Bool):Nat->Int->Int->Int
 |0,lo,_=>lo
 |n+1,lo,hi=>bif decide (lo<hi) then (bif pr (lo+(hi-lo+1).tdiv 2) then upL pr n (lo+(hi-lo+1).tdiv 2) hi else upL pr n lo (lo+(hi-lo+1).tdiv 2-1)) else lo
structure UpI where
 w:Bk
 k:Int
 f:Rt
def upP(v:BnF->Bool)(a:UpI)(t:Int):Bool:=v ⟨bndM (lB ⟨a.w,t⟩) t,a.f⟩
def upM(v:BnF->Bool)(a:UpI):Int:=upL (upP v a) 3000 ((dB a.w a.k).lo-1) (dB a.w a.k).hi
theorem BGK{w:Bk}{k:Int}(h:gI w.g w.b)(h1:0<=k)(h2:k<=w.b.length):0<=(dB w k).lo/\(dB w k).lo<=(dB w k).hi/\(dB w k).hi<=2000/\∀m:Int,(dB w k).lo<=m->m<=(dB w k).hi->(Vx w.b m:Int)=k:=by
 obtain⟨_,_,_,hasc,hbr⟩:=h
 obtain⟨n,rfl⟩:=Int.eq_ofNat_of_zero_le h1
 have h2:n<=w.b.length:=Int.ofNat_le.1 h2
 have hb:∀i,i<w.b.length->1<=gD w.b i/\gD w.b i<=2000:=λi hi=>hbr _ (MF hi)
 have elo:(dB w n).lo=if 0<n then gD w.b (n-1) else 0:=by
  show (bif decide ((n:Int)>0) then gD w.b ((n:Int)-1).toNat else 0)=_
  by_cases h0:0<n
  ·rw[decide_eq_true (show (n:Int)>0 by omega),if_pos h0,show ((n:Int)-1).toNat=n-1 by omega];rfl
  ·rw[decide_eq_false (show ¬(n:Int)>0 by omega),if_neg h0];rfl
 have ehi:(dB w n).hi=if n<w.b.length then gD w.b n-1 else 2000:=by
  show (bif decide ((n:Int)<w.b.length) then wr (gD w.b (n:Int).toNat-1) else 2000)=_
  by_cases h0:n<w.b.length
  ·have:=hb n h0
   rw[decide_eq_true (show (n:Int)<w.b.length by omega),if_pos h0,Int.toNat_natCast]
   unfold wr;rw[Ab (by omega) (by omega)];rfl
  ·rw[decide_eq_false (show ¬(n:Int)<w.b.length by omega),if_neg h0];rfl
 have h3:0<n->n<w.b.length->gD w.b (n-1)<gD w.b n:=λa b=>nL hasc (by omega) b
 refine⟨?_,?_,?_,λm hm hm2=>?_⟩
 ·rw[elo];split
  ·have:=hb (n-1) (by omega);omega
  ·omega
 ·rw[elo,ehi];split<;>split
  ·have:=h3 (by omega) (by omega);omega
  ·exact (hb (n-1) (by omega)).2
  ·have:=hb n (by omega);omega
  ·omega
 ·rw[ehi];split
  ·have:=hb n (by omega);omega
  ·omega
 ·congr 1
  refine I5 h2 (λj hj=>?_) (λj hj hj2=>?_)
  ·rw[elo,if_pos (by omega)] at hm
   have:gD w.b j<=gD w.b (n-1):=by
    by_cases e:j=n-1
    ·rw[e];exact Int.le_refl _
    ·exact Int.le_of_lt (nL hasc (by omega) (by omega))
   exact decide_eq_true (by omega)
  ·rw[ehi,if_pos (by omega)] at hm2
   have:gD w.b n<=gD w.b j:=by
    by_cases e:n=j
    ·rw[e];exact Int.le_refl _
    ·exact Int.le_of_lt (nL hasc (by omega) hj2)
   exact decide_eq_false (by omega)
theorem BXV{lo hi:Int}(h:lo<hi):lo<lo+(hi-lo+1).tdiv 2/\lo+(hi-lo+1).tdiv 2<=hi:=by
 rw[Int.tdiv_eq_ediv_of_nonneg (by omega)];omega
end Go.Bal


namespace Go.Bal
open Go Go.Sym Go.Proofs
structure GBf where
 a:GB
 f:Int
def stF(x:GBf)(k:Nat):Int:=upM st1 ⟨Ca x.a,k,⟨x.f,1⟩⟩+1
def stL(x:GBf)(k:Nat):Int:=upM st2 ⟨Ca x.a,k,⟨x.f,1⟩⟩
theorem BCH{pr:Int->Bool}:∀(n:Nat) (lo hi:Int),lo<=hi->lo<=upL pr n lo hi/\upL pr n lo hi<=hi
 |0,lo,hi,h=>⟨Int.le_refl _,h⟩
 |n+1,lo,hi,h=>by
  unfold upL
  by_cases hl:lo<hi
  ·obtain⟨h3,h4⟩:=BXV hl
   rw[decide_eq_true hl]
   cases pr (lo+(hi-lo+1).tdiv 2)
   ·have:=BCH (pr:=pr) n lo (lo+(hi-lo+1).tdiv 2-1) (by omega);exact⟨this.1,by have:=this.2;show upL _ _ _ _<=_;omega⟩
   ·have:=BCH (pr:=pr) n (lo+(hi-lo+1).tdiv 2) hi h4;exact⟨by have:=this.1;show _<=upL _ _ _ _;omega,this.2⟩
  ·rw[decide_eq_false hl];exact⟨Int.le_refl _,h⟩
theorem CNG{v:BnF->Bool}{a:UpI}(h:gI a.w.g a.w.b)(h1:0<=a.k)(h2:a.k<=a.w.b.length):(dB a.w a.k).lo-1<=upM v a/\upM v a<=(dB a.w a.k).hi /\ -1<=upM v a/\upM v a<=2000:=by
 obtain⟨s1,s2,s3,_⟩:=BGK h h1 h2
 obtain⟨i1,i2⟩:=BCH (pr:=upP v a) 3000 ((dB a.w a.k).lo-1) (dB a.w a.k).hi (by omega)
 unfold upM;omega
end Go.Bal


namespace Go.Bal
open Go Go.Sym Go.Proofs
def C_isKnot:Ctr:={ C_line with val:=λ(s:List Gau)=>.bool (!(NA s).2) }
def AVN(s:List Gau):Prop:=AX Try.prog (ann 12 [(AIR,C_line.spec dGsK)]) AET (AF AET) (C_isKnot.xs s) (AC []) (C_isKnot.val s) [] [] []
theorem BMQ(s:List Gau):(AVN s)=(And (AQ (CN s) (CW s) (Zw s) (TA (λi=>QV i (BB s) i i i i))) (Bt (not (Ef s)) (Ef (BB s)))):=by kernel_rfl
structure GG where
 a:Gau
 b:Gau
def dGG:List AVal->Option GG
 |[.d (.agg [.v (.int .i64 a),.v (.int .i64 b),.v (.int .i64 c)]),.d (.agg [.v (.int .i64 p),.v (.int .i64 q),.v (.int .i64 r)])]=>some ⟨⟨a,b,c⟩,⟨p,q,r⟩⟩
 |_=>none
def xGG(a:GG):List AVal:=[.d (eGau a.a),.d (eGau a.b)]
def CJC:=pD dGG λa=>.int (kW a.a.st a.b.st)
def CKC(a:GG):Prop:=AX Try.prog (ann 10 [(A5,U8)]) AIG (AF AIG) (xGG a) (AC []) (.int (kW a.a.st a.b.st)) [] [] []
theorem CLJ(a:GG):(CKC a)=(AJ (lO (KA (GG.a a)) (KA (GG.b a)))):=by kernel_rfl
def srtK(s:List Gau):Nat->Bool
 |0=>true
 |k+1=>bif decide (kW (gD s (k+1)).st (gD s k).st<0) then false else srtK s k
def srtM(s:List Gau):Bool:=srtK s (s.length-1)
def C_sorted:Ctr:={ α:=List Gau,xs:=λs=>[.d (KD s),.fn (.func mN) [] []],L:=λ_=>[],val:=λs=>.bool (srtM s),keep:=λ_=>[],pre:=λs=>[0<s.length/\s.length<1073741824] }
def AWC:List AVal->Heap->Option (List Gau×List (Nat×Nat)×List Nat)
 |[y,.fn (.func g) [] []],H=>if g=mN then match AKV y H with
  |some (l,f)=>some (l,[],f)
  |none=>none else none
 |_,_=>none
def so2(s:List Gau):Shape:={ α:=Nat,dflt:=0,T:=λk=>⟨[(0,.d (KD s)),(1,.fn (.func mN) [] []),(5,.int k)],[]⟩,inv:=λk=>k+1<=s.length/\srtM s=srtK s k,meas:=λk=>k }
def AVG(s:List Gau):Ann:={ ann 25 [(mN,CJC)] with loops:=λid=>if id=2 then some [so2 s] else none }
def AXU(s:List Gau):Prop:=AX Try.prog (AVG s) AKH (AF AKH) (C_sorted.xs s) (AC []) (C_sorted.val s) [] [] []
abbrev Bq a b:=DY a (MW b)
abbrev dI a b:=DR a (BP b)
attribute [go_sem] Bq dI
theorem BKM(s:List Gau):(AXU s)=(TS (λi=>AG (AG (BW s) (BX s) (GJ i (Ps (BP s)))) (HE (CL i) s) (LI (srtM s) (srtK s i))) (λi=>HH (CJ (CL i) (BP s) (LI (srtM s) (srtK s i))) (TR (BH i)) (Br (BE i (BP s)) (Ps i) (dI (Ps i) s)) (EZ (Pj (lO (DY s i) (Bq s (Ps i)))) (Di (srtM s)) (CG (λj=>NL (AG (BW s) (BX s) (GJ j (Ps i))) (CL j) (BP s) (LI (srtM s) (srtK s j)) j i))) (GI (srtM s)))):=by kernel_rfl
structure GK where
 g:List Gau
 k:List Int
def dGK:List AVal->Heap->Option (GK×List (Nat×Nat)×List Nat)
 |[x,y],H=>match AKV x H,I7 y H with
  |some (l,f),some (m,e)=>some (⟨l,m⟩,[],f ++ e)
  |_,_=>none
 |_,_=>none
def xGK(a:GK):List AVal:=[.d (KD a.g),.d (IM a.k)]
def yS(a:GK):List Gau:=a.k.map λi=>gD a.g i.toNat
def D8(a:GK):Bool:=bif MN a.k.length 2 3 then a.k.all λx=>MN x 0 (wr (a.g.length-1)) else false
def nmB(s:List Gau):Bool:=bif srtM s then decide ((gD s 0).st<(gD s (s.length-1)).st) else false
def nmM(a:GK):List Gau×Bool:=bif D8 a then (yS a,nmB (yS a)) else ([],false)
def C_named:Ctr:={ α:=GK,xs:=xGK,L:=λ_=>[],val:=λa=>.tup [.d (KD (nmM a).1),.bool (nmM a).2],keep:=λ_=>[],pre:=λa=>[a.g.length<1073741824/\a.k.length<1073741824] }
def nm5n(a:GK):Shape:={ α:=One,dflt:=default,T:=λ_=>⟨[(2,.bptr 200 0),(6,.d gK),(20,.d (IM a.k)),(21,.int a.k.length),(22,.int 0)],[(200,.live (.box [.d (KD a.g)]))]⟩,inv:=λ_=>D8 a=true,meas:=λ_=>a.k.length+1,first:=[(200,1000)] }
def nm5o(a:GK):Shape:={ α:=GsK,dflt:=default,T:=λx=>⟨[(2,.bptr 200 0),(6,.own 201 3 0 x.l.length),(20,.d (IM a.k)),(21,.int a.k.length),(22,.int x.i)],[(200,.live (.box [.d (KD a.g)])),(201,.live (rowG x.l))]⟩,inv:=λx=>D8 a=true/\1<=x.i/\x.i<=a.k.length/\x.l=(a.k.take x.i).map λi=>gD a.g i.toNat,meas:=λx=>a.k.length-x.i,again:=[(201,8096)] }
def nm9(a:GK):Shape:={ α:=One,dflt:=default,T:=λ_=>⟨[(6,.d (KD (yS a)))],[]⟩,inv:=λ_=>D8 a=true,meas:=λ_=>0,ffz:=[201] }
def BIJ(a:GK):Ann:={ ann 52 [(n_in,Fg),(n_eI,C4In.spec d4In),(AJF,C_sorted.spec AWC)] with mt:=λid=>id==7,loops:=λid=>if id=5 then some [nm5n a,nm5o a] else none,cut:=λid=>if id=9 then some [nm9 a] else none }
def BHM(a:GK):Prop:=AX Try.prog (BIJ a) APM (AF APM) (C_named.xs a) (AC []) (C_named.val a) [] [] []
abbrev RS:=GK.k
abbrev XQ:=GK.g
abbrev AEF:=@Prod.snd (List Gau) Bool
abbrev M2:=@List.map Int Gau
abbrev bT a:=(@Prod.fst (List Gau) Bool) (nmM a)
abbrev TF a b:=DT a (BP b)
abbrev vS a:=GI (D8 a)
abbrev cE a:=FI (RS a)
abbrev Lq a:=CV 1 a
abbrev pC a:=Lq (EC a)
abbrev AHE a b c d e f g h:=AS a b c d e f g a h
abbrev cL a b:=IQ a (EC b)
abbrev uW a:=BB (XQ a)
attribute [go_sem] RS XQ AEF M2 bT TF vS cE Lq pC AHE cL uW
theorem BTZ(a:GK):(BHM a)=(GO (FW (not (not (MN (YS (RS a)) 2 3))) (AQ (HJ (RS a)) (GX (RS a)) (CN (XQ a)) (AI (CW (XQ a)) (CI (XQ a) (uW a)) (BU (XQ a) (uW a)) (He (RS a)) FT))) (OZ (not (MN (YS (RS a)) 2 3)) (not (AXM (EL (RS a)) (λi=>Ts i (uW a))))) (iB (Tc (bT a)) (Di (AEF (nmM a)))) (And (AG (Co (SP CK (HS (RS a)) (AI (EG (RS a)) (PC (RS a)) AL (BW (XQ a)) (BX (XQ a)))) (vS a)) (ZV (λi=>FW (D8 a) (EZ (NX 0 (YS (RS a))) (AG (IC (cE a)) (AV (TF (IQ (RS a) 0) (XQ a)) (XA 3) (UY 3) GV (Lq 9223372036854775807) (LO 24)) (mD (λj=>SA (LB (AHE (Rc j 1) (HS (RS a)) (EG (RS a)) (PC (RS a)) (JD (EC j) 0) (BW (XQ a)) (BX (XQ a)) (AE (λk=>Xi k (JW j) (XQ a) (MW (Zu (RS a) 0)))))) (ZE (vS a) (pC j) (EC j) (cE a) (Ed j (M2 (λk=>GU (XQ a) (MW k)) (yB (EC j) (RS a))))) (cE a) (EC j) (CL (cE a))))) (Co (iC (Tc (yS a))) (vS a))))) (L4 (λi=>MU (ZE (vS a) (pC i) (EC i) (cE a) (Ed i (M2 (λj=>GU (XQ a) (MW j)) (yB (EC i) (RS a))))) (EC i) (cE a) (AG (BE (EC i) (cE a)) (AV (TF (cL (RS a) i) (XQ a)) (And (BW (JW i)) (JH 0 (JW i) FX)) (UY 3) JE (CV (Xt i) 9223372036854775807) (LO (SK (Xe i) 24))) (mD (λj=>FB (LB (AHE (Rc j (Xt i)) (HS (RS a)) (EG (RS a)) (PC (RS a)) (AU (EC j) (EC i)) (BW (XQ a)) (BX (XQ a)) (AE (λk=>DV k (JW j) (Us k i (DY (JW i) k) (Bq (XQ a) (cL (RS a) i))) (Us k i (DO (JW i) k) (DO (XQ a) (MW (cL (RS a) i)))) (Us k i (DI (JW i) k) (DI (XQ a) (MW (cL (RS a) i)))))))) (ZE (vS a) (pC j) (EC j) (cE a) (Ed j (M2 (λk=>GU (XQ a) (MW k)) (yB (EC j) (RS a))))) (cE a) (EC j) (EC i)))) (Co (WV (Tm (yS a) i) (HE (AP (Xe i)) (JW i)) (λj=>Xi j (yS a) (JW i) (AP j))) (vS a))))) (ZV (λi=>FW (D8 a) (AI (AQ (CN (yS a)) (CW (yS a)) (HW (BP (BB (yS a)))) (Zw (yS a))) (And (FW (srtM (BB (yS a))) (IC (BP (yS a)))) (FW (srtM (BB (yS a))) (TF (Ps (BP (yS a))) (yS a)))) (CI (bT a) (yS a)) (BU (bT a) (yS a)) (HY (AEF (nmM a)) (srtM (BB (yS a))) (NX (Bq (yS a) 0) (Bq (yS a) (Ps (BP (yS a))))))))))):=by kernel_rfl
theorem AOK:AH Try.prog N7 (C_isKnot.spec dGsK):=PU C_isKnot (λ_=>ann 12 [(AIR,C_line.spec dGsK)]) [] [] BLV (λ_=>by kernel_rfl) (λ_=>AA BGF AD) (λ(s:List Gau) h=>by
 show AVN s;rw[BMQ]<;> delta LI KA LV JY AK AN AE BA BN DC BP GU TA AG AI AO QM BB DY BG HC DI JH DO AQ JI JO KC CI OS HI RJ DV UA KL EF BU ON Cq US Ap WH CN CW TH Ef QV Bt Zw;simp only[CC,CU];exact h) (λ_=>RU rfl rfl) _
theorem hGG(xs:List AVal)(a:GG)(h:dGG xs=some a):xs=xGG a:=by
 unfold dGG at h;split at h<;>cases h;rfl
theorem CLA:AH Try.prog mN CJC:=MC xGG hGG λa _=>Dy (A:=ann 10 [(A5,U8)]) (ren:=[]) (fz:=[]) BNC (by kernel_rfl) (AA AUD AD) (by
 show CKC a;rw[CLJ]<;> delta KA AK lO AJ)
theorem BLX:AH Try.prog AJF (C_sorted.spec AWC):=PU C_sorted AVG [] [] BLY (λ_=>by kernel_rfl) (λ_=>AA CLA AD) (λ(s:List Gau) h=>by
 show AXU s;rw[BKM]<;> delta LI UD KA LV JY NX HU EZ AK lO aD AN AE BA BN BH CV DC ER NC No MW HA CG BP GU CS AG AO AJ AR IR CM DY HZ AAL BG BW DI MK JH DO GJ VT CL EB DR EX EV GI DT ZQ EY ME BE CJ HH BX HE Di Ps TR NL dI Bq TS Br Pj;simp only[CC,CU]
 obtain⟨h1,h2⟩:0<s.length/\s.length<1073741824:=h
 refine⟨⟨s.length-1,by rw[Ab (by omega) (by omega)];omega,by omega,rfl⟩,λk ⟨hk1,hk2⟩=>⟨λhlt=>?_,λhge=>?_⟩⟩
 ·obtain⟨k,rfl⟩:∃n,k=n+1:=⟨k-1,by omega⟩
  have e:IntKind.i64.wrap (((k+1:Nat):Int)-1)=(k:Nat):=by rw[Ab (by omega) (by omega)];omega
  rw[e,Int.toNat_natCast]
  unfold srtK at hk2
  refine⟨⟨⟨by omega,by omega⟩,by omega,by omega⟩,λhc=>?_,λhc=>⟨k,rfl,⟨by omega,?_⟩,by omega⟩⟩
  ·rw[hk2,decide_eq_true hc];rfl
  ·rw[hk2,decide_eq_false hc];rfl
 ·rw[hk2,show k=0 by omega];rfl) (λ_=>RU rfl rfl) _
theorem ADL{a:GK}(hg:a.g.length<1073741824)(h:D8 a=true):2<=a.k.length/\a.k.length<=3/\∀x∈a.k,0<=x/\x<a.g.length:=by
 unfold D8 at h
 cases hc:MN a.k.length 2 3 with
 |false=>rw[hc] at h;cases h
 |true=>
  rw[hc] at h
  have h:(a.k.all λx=>MN x 0 (wr (a.g.length-1)))=true:=h
  unfold MN at hc
  simp only[Bool.and_eq_true,decide_eq_true_eq] at hc
  refine⟨by omega,by omega,λx hx=>?_⟩
  have:=List.all_eq_true.1 h x hx
  unfold MN wr at this
  rw[Ab (by omega) (by omega)] at this
  simp only[Bool.and_eq_true,decide_eq_true_eq] at this
  omega
theorem CDW(a:GK)(h1:a.g.length<1073741824)(h2:a.k.length<1073741824):BHM a:=by
 rw[BTZ]<;> delta LI Wo UD KA LV JY NX HU EZ AK AN FI AE BA BN IQ BH CV yB DC ER NC TD KE Ff No FD FT MW HA BP GU AXM HR We ZV Cw ANZ mD JW EC L4 RS XQ AEF M2 CS AG AP AI AO AJ AR DF iC VR iB VW QM IR AS CM EL BB AHE DY HZ AAL BG HC BW DK DI MK JH DO BO GJ VT HD AM AQ JI CL JO KC EJ EB MM DR HS CI OS FP EV KB GI NK GM AV lX DT RR ZQ Mz JD BK AU IY AL Uo FW PI IA ME DV BE RB EG HX CK HW BY Eh KL EF Xi BQ LA BU ON OZ UY BX LO HE GQ CN CW FC JR SV MD JE SA QB SK Bf PY HJ Co TM FB GV Xe FX IC GO XA HY GX HP Di LB PC Ps TF WV TH MU Zu Ed YS Ts Lq Bq SP uW ZE Rc cE He Xt bT Tm Tc cL Us pC Zw vS;simp only[CC,CU]
 have hk:∀{i:Nat},D8 a=true->i<a.k.length->0<=gD a.k i/\gD a.k i<a.g.length:=λh hi=>(ADL h1 h).2.2 _ (MF hi)
 have hl:∀i,((a.k.take i).map λi=>gD a.g i.toNat).length<=a.k.length:=λi=>by simp;omega
 have hnl:(yS a).length=a.k.length:=by unfold yS;simp
 refine⟨λ_=>by omega,λhb=>?_,λhb=>⟨⟨⟨default,?_⟩,λhn=>⟨λhlt=>⟨⟨by omega,by omega⟩,⟨hk hn (by omega),by omega,by omega,by omega,by omega,by omega⟩,⟨1,[gD a.g (gD a.k 0).toNat]⟩,⟨rfl,rfl,rfl,λi hi=>?_⟩,⟨hn,by show 0<1;omega,by show 1<=_;omega,?_⟩,by show a.k.length-1<_;omega⟩,λhge=>?_⟩,λx ⟨hn,x1,x2,x3⟩=>⟨λhlt=>⟨⟨by omega,by omega⟩,⟨hk hn (by omega),by omega,λh=>(by cases h),?_,?_⟩,⟨x.i+1,x.l ++ [gD a.g (gD a.k x.i).toNat]⟩,⟨by simp,(GH (by omega)).symm,by simp,BNF _ _⟩,⟨hn,by show 0<x.i+1;omega,by show x.i+1<=_;omega,?_⟩,by show a.k.length-(x.i+1)<_;omega⟩,λhge=>⟨default,?_,hn⟩⟩⟩,λhn=>?_⟩⟩
 ·have e:D8 a=false:=by
   unfold D8
   cases hc:MN a.k.length 2 3 with
   |false=>rfl
   |true=>rw[hc] at hb;simpa using hb
  have:nmM a=([],false):=by unfold nmM;rw[e];rfl
  rw[this];exact⟨rfl,rfl,rfl⟩
 ·unfold D8
  cases hc:MN a.k.length 2 3 with
  |false=>rw[hc] at hb;cases hb
  |true=>rw[hc] at hb;simpa using hb
 ·have hi:i<1:=hi
  rw[show i=0 by omega];exact⟨rfl,rfl,rfl⟩
 ·show [gD a.g (gD a.k 0).toNat]=(a.k.take 1).map _
  rw[VP (by omega:0<a.k.length)];rfl
 ·have:=ADL h1 hn;omega
 ·have:=hl x.i;rw[<-x3] at this;omega
 ·have:=hl x.i;rw[<-x3] at this;omega
 ·show x.l ++ _=(a.k.take (x.i+1)).map _
  rw[VP (by omega:x.i<a.k.length),List.map_append,x3];rfl
 ·have:x.l=yS a:=by rw[x3,List.take_of_length_le (by omega)];rfl
  rw[this];exact⟨rfl,Nat.le_refl _,λ_ _=>⟨rfl,rfl,rfl⟩⟩
 ·have:=ADL h1 hn
  have e:nmM a=(yS a,nmB (yS a)):=by unfold nmM;rw[hn];rfl
  rw[e,Ab (by omega) (by omega)]
  refine⟨⟨by omega,by omega⟩,⟨λ_=>⟨by omega,by omega⟩,λ_=>⟨by omega,by omega⟩⟩,rfl,λ_ _=>⟨rfl,rfl,rfl⟩,?_⟩
  rw[show ((yS a).length-1:Int).toNat=(yS a).length-1 by omega];rfl
theorem BTL:AH Try.prog ARC (C_named.spec dGK):=PU C_named BIJ [] [] BWF (λ_=>by kernel_rfl) (λ_=>AA H3 (AA CRJ (AA BLX AD))) (λ(a:GK) h=>CDW a h.1 h.2) (λ_=>RU rfl rfl) _
theorem CNJ{a:GK}(hg:∀g∈a.g,Ht g)(h1:a.g.length<1073741824):(nmM a).1.length<1073741824/\∀g∈(nmM a).1,Ht g:=by
 unfold nmM
 cases hc:D8 a with
 |false=>exact⟨by show 0<_;omega,λg hg=>by cases hg⟩
 |true=>
  have:=ADL h1 hc
  refine⟨by show (yS a).length<_;unfold yS;rw[List.length_map];omega,λg hgm=>?_⟩
  have hgm:g∈yS a:=hgm
  unfold yS at hgm
  obtain⟨x,hx,rfl⟩:=List.mem_map.1 hgm
  have:=this.2.2 x hx
  exact hg _ (MF (by omega))
theorem Vs{g:List Gau}(h:IH g=0):(1<=g.length/\g.length<=24)/\∀x∈g,Ht x:=by
 unfold IH at h
 cases h2:MN g.length 1 24 with
 |false=>rw[h2] at h;cases h
 |true=>
  rw[h2] at h
  cases h3:g.all riG with
  |false=>rw[h3] at h;cases h
  |true=>
   unfold MN at h2
   simp only[Bool.and_eq_true,decide_eq_true_eq] at h2
   refine⟨by omega,λx hx=>?_⟩
   have:=List.all_eq_true.1 h3 x hx
   unfold riG MN at this
   simp only[Bool.and_eq_true,decide_eq_true_eq] at this
   unfold Ht;omega
end Go.Bal
