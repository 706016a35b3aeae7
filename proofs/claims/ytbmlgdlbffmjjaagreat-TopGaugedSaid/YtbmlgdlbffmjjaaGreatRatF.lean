/- Package rating: a book at work. -/
import Derived.Test.YtbmlgdlbffmjjaaGreatRatD
set_option linter.unusedVariables false
set_option linter.unusedSimpArgs false
namespace Go.Bal
open Go Go.Sym Go.Proofs
structure Bk where
 g:List Gau
 b:List Int
 has:Int->Bool
 st:Int->Int
def aE(w:Bk)(k:Int):List Gau:=w.g.filter λg=>(Vx w.b g.st:Int)==k
def gV(s:List Gau):List Ln:=(Rj s).filter (Ru s)
def fdM(w:Bk)(j:Int):List Ln:=bif w.has j then gV (aE w j) else []
def bkB(w:Bk)(m:Nat):AObj:=.box [.d (KD w.g),.d (IM w.b),.mref m]
def bkM(w:Bk):AObj:=.imap (.int .i64) (.slice none 0 0) w.has (λj=>K4 (fdM w j)) w.st none
def bkL(w:Bk):List (Nat×AObj):=[(100,bkB w 101),(101,bkM w)]
def bkK(w:Bk):List (Nat×HCell):=[(100,.live (bkB w 101)),(101,.live (bkM w))]
def gI(g:List Gau)(b:List Int):Prop:=g.length<=24/\(∀x∈g,Ht x)/\b.length<=24/\asc b/\∀x∈b,1<=x/\x<=2000
def BIY(H:Heap)(id:Nat):Option (Bk×Nat):=match H id with
 | .live (.box [.d (.list _ n g _),.d (.list _ m b _),.mref q])=>match H q with
  | .live (.imap _ _ has _ st _)=>some (⟨WA n λi=>gJ (g i),WA m λi=>LR (b i),has,st⟩,q)
  |_=>none
 |_=>none
structure BkI where
 w:Bk
 k:Int
def dBkI:List AVal->Heap->Option (BkI×List (Nat×Nat)×List Nat)
 |[.bptr id _,.d k],H=>match BIY H id with
  |some (w,q)=>some (⟨w,LR k⟩,[(100,id),(101,q)],[])
  |none=>none
 |_,_=>none
def inA(w:Bk)(k:Int)(i:Nat):Bool:=(Vx w.b (gD w.g i).st:Int)==k
def CGY(w:Bk)(k:Int)(m:Nat):HCell:=.live (.row 1 24 λj=>AWM (bif decide (j<m) then inA w k j else false))
def pH(w:Bk)(k:Int)(i:Nat):List Gau:=(w.g.take i).filter λg=>(Vx w.b g.st:Int)==k
def in3(a:BkI):Shape:={ α:=Nat,dflt:=0,T:=λi=>⟨[(0,.bptr 100 0),(1,.int a.k),(5,.rptr 201 1 0 0),(15,.d (KD a.w.g)),(16,.int a.w.g.length),(17,.int i)],bkK a.w ++ [(201,CGY a.w a.k i)]⟩,inv:=λi=>i<=a.w.g.length,meas:=λi=>a.w.g.length-i,first:=[(201,2000)] }
structure GsK where
 i:Nat
 l:List Gau
 deriving Inhabited
def in9s(a:BkI)(i:Nat):List (Nat×AVal):=[(5,.rptr 201 1 0 0),(39,.d (KD a.w.g)),(40,.int a.w.g.length),(41,.int i)]
def rowG(l:List Gau):AObj:=.row 3 l.length λi=>eGau (gD l i)
def in9h(a:BkI):List (Nat×HCell):=bkK a.w ++ [(201,CGY a.w a.k a.w.g.length)]
def in9n(a:BkI):Shape:={ α:=Nat,dflt:=0,T:=λi=>⟨(8,.d gK) :: in9s a i,in9h a⟩,inv:=λi=>i<=a.w.g.length/\pH a.w a.k i=[],meas:=λi=>a.w.g.length-i }
def in9o(a:BkI):Shape:={ α:=GsK,dflt:=default,T:=λx=>⟨(8,.own 202 3 0 x.l.length) :: in9s a x.i,in9h a ++ [(202,.live (rowG x.l))]⟩,inv:=λx=>x.i<=a.w.g.length/\x.l=pH a.w a.k x.i,meas:=λx=>a.w.g.length-x.i }
def CQI(a:BkI)(m:Nat):Shape:={ α:=Nat,dflt:=0,T:=λi=>⟨(8,.d gK) :: in9s a i,in9h a⟩,inv:=λi=>i<a.w.g.length/\a.w.g.length-i=m/\pH a.w a.k (i+1)=[],meas:=λi=>0 }
def CGZ(a:BkI)(m:Nat)(f:List (Nat×Nat)):Shape:={ α:=GsK,dflt:=default,T:=λx=>⟨(8,.own 202 3 0 x.l.length) :: in9s a x.i,in9h a ++ [(202,.live (rowG x.l))]⟩,inv:=λx=>x.i<a.w.g.length/\a.w.g.length-x.i=m/\x.l=pH a.w a.k (x.i+1),meas:=λx=>0,first:=f }
def C_inside:Ctr:={ ro:=[100,101],α:=BkI,xs:=λa=>[.bptr 100 0,.int a.k],L:=λa=>bkL a.w,val:=λa=>.d (KD (aE a.w a.k)),keep:=λa=>bkK a.w,pre:=λa=>[gI a.w.g a.w.b/\True] }
def AWK(a:BkI):Ann:={ ann 55 [(AJI,C_part.spec dIX)] with E:=[100,101],mt:=λid=>id==12,loops:=λid=>if id=3 then some [in3 a] else if id=9 then some [in9n a,in9o a] else none,cutIn:=λgs id=>if id=13 then some [CQI a (gs.getD 0 0),CGZ a (gs.getD 0 0) [(202,13048)],CGZ a (gs.getD 0 0) []] else none }
def AZO(a:BkI):Prop:=AX Try.prog (AWK a) AJD (AF AJD) (C_inside.xs a) (AC (C_inside.L a)) (C_inside.val a) (C_inside.keep a) [] [202]
abbrev BIZ:=@Array.toList Value
abbrev wP:=BkI.k
abbrev Hh:=Bk.g
abbrev aU:=BkI.w
abbrev Fc:=Bk.b
abbrev Ro:=@none Addr
abbrev DJ:=λ(f:Int->Prop)=>∀(x:Int),f x
abbrev Df:=Bk.has
abbrev Qa:=Bk.st
abbrev ANZ:=@Eq (List Gau)
abbrev AYU:=@List.nil Gau
abbrev mD:=@Exists GsK
abbrev JW:=GsK.l
abbrev EC:=GsK.i
abbrev L4:=λ(f:GsK->Prop)=>∀(x:GsK),f x
abbrev RQ a b:=HT (fdM a b)
abbrev ATV a b:=RQ (aU a) b
abbrev Mp a b(c:Nat->Prop):=Ce (ATV a b) c
abbrev tG a b c d e:=rN a b c (GZ d) (JJ e)
abbrev Pv a b c:=tG a b c c c
abbrev IT a b c:=LH (fdM a b) c
abbrev Mj a b c d e f:=Pv a (ATV b c) (IT (aU d) e f)
abbrev Ga a:=DJ (λi=>AJ (Qa a i))
abbrev Lv a:=Ga (aU a)
abbrev eI a:=DJ (λi=>DF (Df a i))
abbrev Ml a:=eI (aU a)
abbrev Ri a:=(@Eq Value) a a
abbrev EO:=Ri (Value.slice Ro 0 0)
abbrev WM a:=Fc (aU a)
abbrev Kw a:=HS (WM a)
abbrev wK a b c d e:=VT a b (KA c) (LV d) (JY e)
abbrev Dc a b:=GU (Hh a) b
abbrev Ti a b:=Dc (aU a) b
abbrev Y9 a:=Hh (aU a)
abbrev XF a b c d:=wK a (Y9 b) (Ti c d) (Ti c d) (Ti c d)
abbrev yR a:=BW (Hh a)
abbrev XI a:=yR (aU a)
abbrev Xi a b c d:=KL a b c d d d
abbrev Xe a:=BP (JW a)
abbrev Tm a b:=CI a (JW b)
abbrev Xu(a:Nat->Prop) b:=Rp (AE a) b
abbrev zZ a b c d:=AG a (AN b c) d
abbrev Es a b c d e:=BA (zZ a b c d) e
abbrev Je a b:=QU (Y9 a) b
abbrev Lg a b:=Je a (EC b)
abbrev Ed a b:=ANZ (JW a) b
abbrev lE a b c:=pH (aU a) (wP b) c
abbrev YA a:=BP (Y9 a)
abbrev oD(a:Nat->Prop) b c(d:Int->Prop) e(f:Nat->Prop) g h:=FA a EO b c (DJ d) e f g h
abbrev Zq a b c(d:Int->Prop) e(f:Nat->Prop) g h:=oD (λi=>PI i a) b c d e f g h
abbrev iW a b:=lX a 24 b
abbrev APQ a b c:=inA (aU a) (wP b) c
abbrev X6 a b c d e:=BY (We a b) (APQ c d e)
abbrev Tx a b c d e:=X6 a (YA b) c d e
abbrev Uv:=AR 24
abbrev Tb a:=EJ (YA a)
abbrev kJ a b c:=lE a b (CL c)
abbrev jL a b:=BN a (YA b)
abbrev pU a:=ANZ a AYU
abbrev pZ(a:Nat->Prop) b c d e f(g:Int->Prop) h p:=LP a b c d e f (DJ g) h p
abbrev cU(a:Nat->Prop) b c d e f(g:Int->Prop) h p:=pZ a b (EG c) d e f g h p
abbrev Us a b c d:=KB a (Xe b) c d
abbrev Rc a b:=JI (JW a) b
abbrev Xt a:=CL (Xe a)
abbrev yV a b:=ER (BH a) b
abbrev RL a b(c:Nat->Prop) d e f g h:=VD a b c d e EO f g h
abbrev WX a b(c:Nat->Prop) d e f g(h:Int->Prop):=RL a b c d e f g (DJ h)
abbrev Tc a:=JI a 0
abbrev P4 a b:=(@List.cons Value) (Value.bool a) b
abbrev vX a:=P4 UD (P4 UD (P4 UD (P4 UD a)))
attribute [go_sem] BIZ wP Hh aU Fc Ro DJ Df Qa ANZ AYU mD JW EC L4 RQ ATV Mp tG Pv IT Mj Ga Lv eI Ml Ri EO WM Kw wK Dc Ti Y9 XF yR XI Xi Xe Tm Xu zZ Es Je Lg Ed lE YA oD Zq iW APQ X6 Tx Uv Tb kJ jL pU pZ cU Us Rc Xt yV RL WX Tc P4 vX
theorem BKZ(a:BkI):(AZO a)=(WV ((@Eq (List Value)) (BIZ (Value.cells (Value.agg ((@List.toArray Value) (vX (vX (vX (vX (vX (vX (@List.nil Value))))))))))) ((@List.flatten Value) ((@List.replicate (List Value)) 24 (BIZ (Value.cells (Value.bool UD)))))) (CG (λi=>And (AQ (AJ (wP a)) AM (XI a) (Cl (λj=>XF j a a j) (Tb a) (BD i) (XI a) (cU (λj=>XF j a a j) (Kw a) (WM a) EO (Ml a) (Lv a) (λj=>Mp a j (λk=>Mj k a j a j k)) Uv (AE (λj=>AO j 24 (Di (X6 j i a a j))))))) (NZ i (YA a)))) (λi=>MU (NZ i (YA a)) i (YA a) (AG (BE i (YA a)) (AV (HJ (WM a)) (GX (WM a)) (AJ (KA (Ti a i))) (Dp (JR (WM a)) 4611686018427387904 (Ft ER (EL (WM a)))) (EB (BH i) (yV i 24)) (PL i 24)) (CG (λj=>EV (AQ (AJ (wP a)) AM (XI a) (Cl (λk=>XF k a a k) (Tb a) (AU j i) (XI a) (cU (λk=>XF k a a k) (Kw a) (WM a) EO (Ml a) (Lv a) (λk=>Mp a k (λl=>Mj l a k a k l)) Uv (AE (λk=>AO k 24 (LI (X6 k j a a k) (Wo (ZP k i) (ZN (BH (Vx (EL (WM a)) (KA (Ti a i)))) (wP a)) (X6 k i a a k)))))))) (NZ j (YA a)) (Je a j) (Je a i)))) (AG (CG (λj=>AG (Fv CK (XI a) (Cl (λk=>XF k a a k) (Tb a) (BD j) (XI a) (cU (λk=>XF k a a k) (Kw a) (WM a) EO (Ml a) (Lv a) (λk=>Mp a k (λl=>Mj l a k a k l)) Uv (AE (λk=>AO k 24 (HY (Tx k a a a k) (We k i) (APQ a a k))))))) (HE j (Y9 a)) (pU (lE a a j)))) (AE (λj=>HF (CJ j (YA a) (pU (lE a a j))) j (YA a) (Lw (BE j (YA a)) (As (EB (BH j) (yV j 24)) j 24) (Tx j a a a j) (Cj 3 3 GV 1 24) (mD (λk=>PF (AG AM (Rc k 1) (tV AM (XI a) (AE (λl=>XF l a a l)) (Tb a) (BC (EC k) j) (Kw a) (Zq (WM a) (Ml a) (Lv a) (λl=>Mp a l (λm=>Mj m a l a l m)) Uv (λl=>iW l (Tx l a a a l)) (Rc k 1) (AE (λl=>DV l (JW k) (KA (Ti a j)) (LV (Ti a j)) (JY (Ti a j))))))) (jL (EC k) a) (Lg a k) (Je a j) (Ed k (kJ a a (EC k))))) (CG (λk=>PF (Fv CK (XI a) (Cl (λl=>XF l a a l) (Tb a) (BC k j) (XI a) (cU (λl=>XF l a a l) (Kw a) (WM a) EO (Ml a) (Lv a) (λl=>Mp a l (λm=>Mj m a l a l m)) Uv (AE (λl=>iW l (Tx l a a a l)))))) (jL k a) (Je a k) (Je a j) (pU (kJ a a k))))) (Xu (λk=>Es (jL k a) (Je a k) (Je a j) (pU (kJ a a k)) (CG (λl=>NL (Fv CK (XI a) (Cl (λm=>XF m a a m) (Tb a) (AU l k) (XI a) (cU (λm=>XF m a a m) (Kw a) (WM a) EO (Ml a) (Lv a) (λm=>Mp a m (λn=>Mj n a m a m n)) Uv (AE (λm=>iW m (Tx m a a a m)))))) l (YA a) (pU (lE a a l)) (Je a l) (Je a j)))) (L4 (λk=>Es (jL (EC k) a) (Lg a k) (Je a j) (Ed k (kJ a a (EC k))) (mD (λl=>NL (AG AM (Tm (JW l) k) (tV AM (XI a) (AE (λm=>XF m a a m)) (Tb a) (AU (EC l) (EC k)) (Kw a) (Zq (WM a) (Ml a) (Lv a) (λm=>Mp a m (λn=>Mj n a m a m n)) Uv (λm=>iW m (Tx m a a a m)) (Tm (JW l) k) (BU (JW l) (JW k))))) (EC l) (YA a) (Ed l (lE a a (EC l))) (Lg a l) (Je a j)))))) (And (Tc (aE (aU a) (wP a))) (WX (Tc (aE (aU a) (wP a))) (XI a) (λk=>XF k a a k) (Kw a) (EG (WM a)) (Ml a) (Lv a) (λk=>Mp a k (λl=>Mj l a k a k l)))))) (L4 (λj=>HF (CJ (EC j) (YA a) (Ed j (lE a a (EC j)))) (EC j) (YA a) (Lw (BE (EC j) (YA a)) (As (EB (BH (EC j)) (yV (EC j) 24)) (EC j) 24) (Tx (EC j) a a a (EC j)) (UT (And (BW (JW j)) (JH 0 (JW j) FX)) 3 (Xt j) (SK (Xe j) 24)) (mD (λk=>PF (AG AM (Rc k (Xt j)) (tV AM (XI a) (AE (λl=>XF l a a l)) (Tb a) (BC (EC k) (EC j)) (Kw a) (Zq (WM a) (Ml a) (Lv a) (λl=>Mp a l (λm=>Mj m a l a l m)) Uv (λl=>iW l (Tx l a a a l)) (Rc k (Xt j)) (AE (λl=>DV l (JW k) (Us l j (DY (JW j) l) (KA (Ti a (EC j)))) (Us l j (DO (JW j) l) (LV (Ti a (EC j)))) (Us l j (DI (JW j) l) (JY (Ti a (EC j))))))))) (jL (EC k) a) (Lg a k) (Lg a j) (Ed k (kJ a a (EC k))))) (mD (λk=>PF (AG AM (Tm (JW k) j) (tV AM (XI a) (AE (λl=>XF l a a l)) (Tb a) (BC (EC k) (EC j)) (Kw a) (Zq (WM a) (Ml a) (Lv a) (λl=>Mp a l (λm=>Mj m a l a l m)) Uv (λl=>iW l (Tx l a a a l)) (Tm (JW k) j) (BU (JW k) (JW j))))) (jL (EC k) a) (Lg a k) (Lg a j) (Ed k (kJ a a (EC k)))))) (Xu (λk=>Es (jL k a) (Je a k) (Lg a j) (pU (kJ a a k)) (CG (λl=>NL (Fv CK (XI a) (Cl (λm=>XF m a a m) (Tb a) (AU l k) (XI a) (cU (λm=>XF m a a m) (Kw a) (WM a) EO (Ml a) (Lv a) (λm=>Mp a m (λn=>Mj n a m a m n)) Uv (AE (λm=>iW m (Tx m a a a m)))))) l (YA a) (pU (lE a a l)) (Je a l) (Lg a j)))) (L4 (λk=>Es (jL (EC k) a) (Lg a k) (Lg a j) (Ed k (kJ a a (EC k))) (mD (λl=>NL (AG AM (Tm (JW l) k) (tV AM (XI a) (AE (λm=>XF m a a m)) (Tb a) (AU (EC l) (EC k)) (Kw a) (Zq (WM a) (Ml a) (Lv a) (λm=>Mp a m (λn=>Mj n a m a m n)) Uv (λm=>iW m (Tx m a a a m)) (Tm (JW l) k) (BU (JW l) (JW k))))) (EC l) (YA a) (Ed l (lE a a (EC l))) (Lg a l) (Lg a j)))))) (AG (Tm (aE (aU a) (wP a)) j) (HE (AP (Xe j)) (JW j)) (LP (λk=>Xi k (aE (aU a) (wP a)) (JW j) (AP k)) (XI a) (AE (λk=>XF k a a k)) (Kw a) (EG (WM a)) EO (Ml a) (Lv a) (DJ (λk=>Mp a k (λl=>Mj l a k a k l)))))))))):=by kernel_rfl
theorem xO{w:Bk}{k:Int}{i:Nat}(h:i<w.g.length):pH w k (i+1)=if inA w k i=true then pH w k i ++ [gD w.g i] else pH w k i:=by
 unfold pH
 rw[VP h,List.filter_append]
 unfold inA
 split
 ·rename_i h1;simp[List.filter_cons,h1]
 ·rename_i h1;simp[List.filter_cons,h1]
theorem AXJ{w:Bk}{k:Int}{i:Nat}(h:w.g.length<=i):pH w k i=aE w k:=by unfold pH aE;rw[List.take_of_length_le h]
theorem AVM{w:Bk}{k:Int}{i:Nat}:(pH w k i).length<=w.g.length:=
 Nat.le_trans (List.length_filter_le _ _) (by simp;omega)
theorem BNF(l:List Gau)(p:Gau)(i:Nat)(hi:i<(l ++ [p]).length):((gD (l ++ [p]) i).st=bif decide (i<l.length) then (gD l i).st else p.st)/\((gD (l ++ [p]) i).lo=bif decide (i<l.length) then (gD l i).lo else p.lo)/\(gD (l ++ [p]) i).hi=bif decide (i<l.length) then (gD l i).hi else p.hi:=by
 rw[F0 _ _ (by simpa using hi)]
 cases decide (i<l.length)<;>exact⟨rfl,rfl,rfl⟩
theorem BXA(a:BkI)(h:gI a.w.g a.w.b):AZO a:=by
 rw[BKZ]<;> delta LI Wo UD KA LV JY LL HV GZ JJ NX HU EZ AK AN FI AE BA BN IQ BH CV DC ER NC TD KE Ff ZN FT HA CG NZ BP GU HT LH HR ZP We Cw Ft BIZ wP Hh aU Fc Ro DJ Df Qa ANZ AYU mD JW EC L4 CS AG AP AI AO AJ Rp AR DF Ri VR KS VW Dc IT AS CM EL M4 tV DY HZ IG BG HC RQ BW DK DI MK JH DO GJ VT HD AM AQ JI CL LP PS JO KC EJ EB MM DR EX HS CI OS FP yR EV KB GI NK BC GM AV lX rN DT RR eI Mz Ce JD EO BK wK tG AU IY EY QU FA Y9 Uo FW Ga PF Pv PI IA DV BE RB EG HX CK HW CJ PL pZ BY Eh KL EF Xi BQ LA BU KX yV cU HH UY LO HE BD YA Ns GQ HF WM JR Dp MD oD JE VD SK Bf PY Ti HJ Zq Lw Je ATV GV P4 Xe FX XA HY GX Di XI As XF WV NL MU Fv RL zZ APQ lE Ed Kw Lv Lg Ml Mp Tb X6 Es Uv Cl Rc Mj vX Xt UT Tm Tx Xu jL Tc WX Cj Us kJ pU iW;simp only[CC,CU]
 obtain⟨hg,hgo,hb,hasc,hbr⟩:=h
 have cn:∀(m i:Nat),i<a.w.g.length/\a.w.g.length-i=m/\pH a.w a.k (i+1)=[]->∃j:Nat,(j:Int)=IntKind.i64.wrap ((i:Int)+1)/\(j<=a.w.g.length/\pH a.w a.k j=[])/\a.w.g.length-j<m:=λm i h=>⟨i+1,(GH (by omega)).symm,⟨h.1,h.2.2⟩,by omega⟩
 have co:∀(m:Nat) (x:GsK),x.i<a.w.g.length/\a.w.g.length-x.i=m/\x.l=pH a.w a.k (x.i+1)->∃y:GsK,(y.l.length=x.l.length/\(y.i:Int)=IntKind.i64.wrap ((x.i:Int)+1)/\y.l.length=x.l.length/\∀(i:Nat),i<y.l.length->(gD y.l i).st=(gD x.l i).st/\(gD y.l i).lo=(gD x.l i).lo/\(gD y.l i).hi=(gD x.l i).hi)/\(y.i<=a.w.g.length/\y.l=pH a.w a.k y.i)/\a.w.g.length-y.i<m:=λm x h=>⟨⟨x.i+1,x.l⟩,⟨rfl,(GH (by omega)).symm,rfl,λ_ _=>⟨rfl,rfl,rfl⟩⟩,⟨h.1,h.2.2⟩,by show a.w.g.length-(x.i+1)<m;omega⟩
 have ne:∀(i:Nat),i<a.w.g.length->pH a.w a.k i=[]->inA a.w a.k i=false->pH a.w a.k (i+1)=[]:=λi hi h1 h2=>by
  rw[xO hi,h2,h1];simp
 refine⟨rfl,⟨0,⟨rfl,λi hi=>by simp⟩,Nat.zero_le _⟩,λi hi=>⟨λhlt=>⟨⟨by omega,by omega⟩,⟨⟨by omega,hasc⟩,⟨by omega,by omega⟩,by omega⟩,i+1,⟨(GH (by omega)).symm,λj hj=>?_⟩,by omega,by omega⟩,λhge=>⟨⟨0,⟨rfl,λj hj=>by rw[show i=a.w.g.length by omega]⟩,Nat.zero_le _,by simp[pH]⟩,
  λi hi=>⟨λhlt=>⟨⟨⟨by omega,by omega⟩,⟨⟨by omega,by omega⟩,by omega⟩,λhp=>⟨by simp,⟨i,[gD a.w.g i]⟩,⟨rfl,rfl,rfl,λj hj=>?_⟩,Int.ofNat_lt.1 hlt,rfl,?_⟩,λhp=>⟨i,rfl,by omega,rfl,ne i (by omega) hi.2 ?_⟩⟩,cn _,co _⟩,λhge=>?_⟩,
  λx hx=>⟨λhlt=>⟨⟨⟨by omega,by omega⟩,⟨⟨by omega,by omega⟩,by omega⟩,λhp=>⟨⟨by simp,by simp,?_,?_⟩,⟨x.i,x.l ++ [gD a.w.g x.i]⟩,⟨by simp,rfl,by simp,BNF _ _⟩,Int.ofNat_lt.1 hlt,rfl,?_⟩,λhp=>⟨⟨x.i,x.l⟩,⟨rfl,rfl,rfl,λ_ _=>⟨rfl,rfl,rfl⟩⟩,Int.ofNat_lt.1 hlt,rfl,?_⟩⟩,cn _,co _⟩,λhge=>?_⟩⟩⟩⟩
 ·by_cases h1:j=i
  ·subst h1;simp[inA]
  ·by_cases h2:j<i
   ·simp[h1,h2,show j<i+1 by omega]
   ·simp[h1,h2,show ¬ j<i+1 by omega]
 ·have:j=0:=by have hj:j<1:=hj;omega
  subst this;exact⟨rfl,rfl,rfl⟩
 ·have hlt':i<a.w.g.length:=Int.ofNat_lt.1 hlt
  show [gD a.w.g i]=_
  rw[xO hlt',hi.2,if_pos (by simpa[hlt'] using hp)];rfl
 ·have hlt':i<a.w.g.length:=Int.ofNat_lt.1 hlt
  simpa[hlt'] using hp
 ·rw[<-AXJ (i:=i) (by omega),hi.2];rfl
 ·have:=AVM (w:=a.w) (k:=a.k) (i:=x.i);rw[<-hx.2] at this;omega
 ·have:=AVM (w:=a.w) (k:=a.k) (i:=x.i);rw[<-hx.2] at this;omega
 ·show x.l ++ _=_
  have hlt':x.i<a.w.g.length:=Int.ofNat_lt.1 hlt
  rw[xO hlt',<-hx.2,if_pos (by simpa[hlt'] using hp)]
 ·show x.l=_
  have hlt':x.i<a.w.g.length:=Int.ofNat_lt.1 hlt
  rw[xO hlt',<-hx.2,if_neg (by simpa[hlt'] using hp)]
 ·have e:x.l=aE a.w a.k:=by rw[hx.2,AXJ (by omega)]
  rw[e];exact⟨rfl,Nat.le_refl _,λ_ _=>⟨rfl,rfl,rfl⟩⟩
theorem AME:AH Try.prog AIA (C_inside.spec dBkI):=PU C_inside AWK [] [202] BMS (λ_=>by kernel_rfl) (λ_=>AA ACP AD) (λ(a:BkI) h=>BXA a (show gI a.w.g a.w.b/\True from h).1) (λ_=>RU rfl rfl) _
def dB(w:Bk)(k:Int):Span:=⟨bif decide (k>0) then gD w.b (k-1).toNat else 0,bif decide (k<w.b.length) then wr (gD w.b k.toNat-1) else 2000⟩
structure GB where
 g:List Gau
 b:List Int
def dGB:List AVal->Heap->Option (GB×List (Nat×Nat)×List Nat)
 |[x,y],H=>match AKV x H,I7 y H with
  |some (l,f),some (m,e)=>some (⟨l,m⟩,[],f ++ e)
  |_,_=>none
 |_,_=>none
def xGB(a:GB):List AVal:=[.d (KD a.g),.d (IM a.b)]
def RN(a:GB):Int:=bif IH a.g==0 then Ak a.b else IH a.g
def Ca(a:GB):Bk:=⟨a.g,a.b,λ_=>false,λ_=>0⟩
def C_open:Ctr:={ α:=GB,xs:=xGB,L:=λ_=>[],val:=λ_=>.tup [.bptr 0 0,.int 0],keep:=λa=>[(0,.live (bkB (Ca a) 1)),(1,.live (bkM (Ca a)))],pre:=λa=>[a.g.length<4611686018427387904/\a.b.length<4611686018427387904/\RN a=0] }
def C_openX:Ctr:={ α:=GB,xs:=xGB,L:=λ_=>[],val:=λa=>.tup [.d (.v (.pointer none)),.int (RN a)],keep:=λ_=>[],pre:=λa=>[a.g.length<4611686018427387904/\a.b.length<4611686018427387904/\RN a≠0] }
def ASR:Ann:=ann 22 [(F2,C_Check.spec A2),(J7,C_checkB.spec dIs1)]
def BSL(a:GB):Prop:=AX Try.prog ASR vR (AF vR) (xGB a) (AC []) (C_open.val a) (C_open.keep a) [(0,7080),(1,7048)] []
abbrev Ng:=GB.g
abbrev aW:=GB.b
abbrev Cz:=Ca
abbrev Zn:=DJ (λi=>DF UD)
abbrev KV a b c d e f g h:=OS a (Hh b) c d e f g h
abbrev NV a b:=JY (Dc a b)
abbrev NH a b:=LV (Dc a b)
abbrev NE a b:=KA (Dc a b)
abbrev Ow a:=wI (BB a)
attribute [go_sem] Ng aW Cz Zn KV NV NH NE Ow
theorem CBX(a:GB):(BSL a)=(And (SS (Ng a) (VM (Ng a))) (EY (QG (Ow (Ng a))) (QL (HJ (aW a)) (GX (aW a)) (He (aW a))) (EZ (QW (mR (EL (aW a)))) mM (WX AL (CI (Hh (Cz a)) (Ng a)) (λi=>KV i (Cz a) (NE (Cz a) i) (DY (Ng a) i) (NH (Cz a) i) (DO (Ng a) i) (NV (Cz a) i) (DI (Ng a) i)) (BK (Fc (Cz a)) (aW a)) (BQ (Fc (Cz a)) (aW a)) Zn (DJ (λi=>CQ (Qa (Cz a) i))) (λi=>iC (NT (RQ (Cz a) i))))) (EZ (QW (Ow (Ng a))) mM (WX AL (CI (Hh (Cz a)) (Ng a)) (λi=>KV i (Cz a) (NE (Cz a) i) (DY (Ng a) i) (NH (Cz a) i) (DO (Ng a) i) (NV (Cz a) i) (DI (Ng a) i)) (BK (Fc (Cz a)) (aW a)) (BQ (Fc (Cz a)) (aW a)) Zn (DJ (λi=>CQ (Qa (Cz a) i))) (λi=>iC (NT (RQ (Cz a) i))))))):=by kernel_rfl
def BFP(a:GB):Prop:=AX Try.prog ASR vR (AF vR) (xGB a) (AC []) (C_openX.val a) [] [] []
abbrev AJJ:=Value.pointer
abbrev eA:=RN
attribute [go_sem] AJJ eA
theorem BRS(a:GB):(BFP a)=(And (SS (Ng a) (VM (Ng a))) (EY (QG (Ow (Ng a))) (QL (HJ (aW a)) (GX (aW a)) (He (aW a))) (EY (QW (mR (EL (aW a)))) (Ri (AJJ Ro)) (AK (eA a) (mR (EL (aW a)))) mM) (EY (QW (Ow (Ng a))) (Ri (AJJ Ro)) (AK (eA a) (Ow (Ng a))) mM))):=by kernel_rfl
theorem BIT:AH Try.prog wM (C_open.spec dGB):=PU C_open (λ_=>ASR) [(0,7080),(1,7048)] [] AMF (λ_=>by kernel_rfl) (λ_=>AA N0 (AA O6 AD)) (λ(a:GB) h=>by
 show BSL a;rw[CBX]<;> delta LI UD KA LV JY cI EZ AK AN FI AE BA BN IQ Ff FD mM ZN FT BP GU HT wI mR Hh Fc Ro DJ Qa Ng aW Cz AG AI AO AJ DF Ri iC VW QM Dc AS EL BB DY HC RQ DI JH DO BO HD AQ JI JO KC MM CI OS NK GM RR EO BK IY AL EY IA DV KL EF BQ BU ON CN CW NT OE JR VD HJ CQ NV GX NH HP NE QW KV QL RL QG VM SS Ow He Zn WX;simp only[CC,CU]
 obtain⟨h1,h2,h3⟩:a.g.length<4611686018427387904/\a.b.length<4611686018427387904/\RN a=0:=h
 have key:(Ca a).g.length=a.g.length/\(∀i:Nat,i<(Ca a).g.length->(gD (Ca a).g i).st=(gD a.g i).st/\(gD (Ca a).g i).lo=(gD a.g i).lo/\(gD (Ca a).g i).hi=(gD a.g i).hi)/\(Ca a).b.length=a.b.length/\(∀i:Nat,i<(Ca a).b.length->gD (Ca a).b i=gD a.b i)/\(∀n:Int,(Ca a).st n=0)/\∀n:Int,(fdM (Ca a) n).length=0:=⟨rfl,λ_ _=>⟨rfl,rfl,rfl⟩,rfl,λ_ _=>rfl,λ_=>rfl,λ_=>rfl⟩
 unfold RN at h3
 refine⟨h1,λh4=>⟨h2,λh5=>?_,λ_=>key⟩,λh4=>⟨λh5=>?_,λ_=>key⟩⟩
 ·rw[h4] at h3;simp at h3 h5;exact h5 h3
 ·rw[h4] at h3;simp at h3 h5;exact h5 h3) (λ_=>RU rfl rfl) _
theorem BPA:AH Try.prog wM (C_openX.spec dGB):=PU C_openX (λ_=>ASR) [] [] AMF (λ_=>by kernel_rfl) (λ_=>AA N0 (AA O6 AD)) (λ(a:GB) h=>by
 show BFP a;rw[BRS]<;> delta KA LV JY cI EZ AK AN FI AE BA BN IQ Ff mM ZN FT BP GU wI mR Ro Ng aW AJJ eA AG AO Ri VW QM EL BB DY HC DI JH DO HD AQ JI JO KC MM CI OS NK GM RR BK IY EY IA DV KL EF BQ BU ON CN CW OE JR HJ GX HP QW QL QG VM SS Ow He;simp only[CC,CU]
 obtain⟨h1,h2,h3⟩:a.g.length<4611686018427387904/\a.b.length<4611686018427387904/\RN a≠0:=h
 refine⟨h1,λh4=>⟨h2,λh5=>?_,λh5=>h3 ?_⟩,λh4=>⟨λh5=>?_,λh5=>h3 ?_⟩⟩
 ·unfold RN;rw[h4];rfl
 ·unfold RN;rw[h4];simpa using h5
 ·unfold RN;rw[h4];rfl
 ·unfold RN;rw[h4];simpa using h5) (λ_=>RU rfl rfl) _
end Go.Bal
