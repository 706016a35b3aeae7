/- Package rating: the fewest parts. -/
import Derived.Test.YtceloknnpdonhaaGreatRatS
set_option linter.unusedVariables false
set_option linter.unusedSimpArgs false
namespace Go.Bal
open Go Go.Sym Go.Proofs
def eLL(l:List (List Int)):DVal:=lst 1 l.length λi=>FE (gD l i)
def DWL(l:List (List Int)):AObj:=.row 1 l.length λi=>FE (gD l i)
structure FS where
 fr:Nat
 to:Nat
 ln:Ln
 b:List Int
 l:List Ln
 k:List (List Int)
 deriving Inhabited
def iotI(n:Nat):List Int:=(List.range n).map Int.ofNat
def BL(g:List Gau):List Int:=stM (SQ g) (iotI g.length)
def nxK(g:List Gau)(o:List Int)(t:Nat):Nat->Nat->Nat
 |0,k=>k
 |n+1,k=>bif SQ g (gD o k)==SQ g (gD o t) then nxK g o t n (k+1) else k
def hX(g:List Gau)(o:List Int)(t:Nat):Nat:=nxK g o t (o.length-t) t
def pkR(g:List Gau)(o:List Int)(a b:Nat):List Gau:=pkM ⟨g,o,a,b⟩
def brkF(g:List Gau)(o:List Int)(s:FS):FS:=⟨s.to,s.to,s.ln,s.b ++ [SQ g (gD o s.to)],s.l ++ [s.ln],s.k ++ [jU ⟨g,(o.take (hX g o s.to)).drop s.fr⟩]⟩
def goF(g:List Gau)(o:List Int)(s:FS):FS:=⟨s.fr,hX g o s.to,(GZ (pkR g o s.fr (hX g o s.to))).1,s.b,s.l,s.k⟩
structure FR where
 r:Rtg
 k:List (List Int)
 e:Int
def fewR(g:List Gau)(o:List Int):Nat->FS->FR
 |0,s=>⟨⟨s.b,s.l ++ [s.ln]⟩,s.k,0⟩
 |n+1,s=>bif decide (s.to<o.length) then (bif (GZ (pkR g o s.to (hX g o s.to))).2 then (bif (GZ (pkR g o s.fr (hX g o s.to))).2 then fewR g o n (goF g o s) else fewR g o n (brkF g o s)) else⟨⟨[],[]⟩,[],6⟩) else⟨⟨s.b,s.l ++ [s.ln]⟩,s.k,0⟩
def ini0:FS:=⟨0,0,CB ⟨0,0⟩,[],[],[]⟩
def jQ(g:List Gau):FR:=bif GN g==0 then fewR g (BL g) (2*g.length+2) ini0 else⟨⟨[],[]⟩,[],GN g⟩
def msF(o:List Int)(s:FS):Nat:=2*(o.length-s.to)+(if s.fr<s.to then 1 else 0)
def invF(g:List Gau)(s:FS):Prop:=GN g=0/\s.fr<=s.to/\s.to<=g.length/\s.b.length<=s.fr/\s.l.length=s.b.length/\s.k.length=s.b.length/\(∀m,msF (BL g) s+1<=m->jQ g=fewR g (BL g) m s)
def zRtg:HCell:=.live (.box [.d TE,.d TE])
def lnBx(x:Ln):HCell:=.live (.box [.int x.a0,.int x.a1,.int x.b0,.int x.b1])
def fwN(g:List Gau)(k:Nat):List (Nat×AVal):=[(1,.bptr 1000 0),(2,.bptr 1016 0),(6,.bptr 5000 0),(24,.int g.length),(25,.int k)]
def fw6n(g:List Gau):Shape:={ α:=One,dflt:=default,T:=λ_=>⟨fwN g 0,[(1000,.live (bxG g)),(1016,zRtg),(5000,.live (.box [.d TE]))]⟩,inv:=λ_=>GN g=0,meas:=λ_=>g.length+1 }
def fw6o(g:List Gau):Shape:={ α:=Nat,dflt:=0,T:=λk=>⟨fwN g k,[(1000,.live (bxG g)),(1016,zRtg),(5000,.live (.box [.own 201 1 0 k])),(201,.live (.row 1 k λi=>JS i))]⟩,inv:=λk=>GN g=0/\1<=k/\k<=g.length,meas:=λk=>g.length-k,again:=[(201,9048)] }
def fwB(g:List Gau):List (Nat×HCell):=[(1000,.live (bxG g)),(1016,zRtg),(5000,.live (.box [.d (FE (BL g))]))]
def fw10(g:List Gau):Shape:={ α:=One,dflt:=default,T:=λ_=>⟨[(1,.bptr 1000 0),(2,.bptr 1016 0),(6,.bptr 5000 0)],[(1000,.live (bxG g)),(1016,zRtg),(5000,.live (.box [.own 201 1 0 (iotI g.length).length])),(201,.live (rowI (iotI g.length)))]⟩,inv:=λ_=>GN g=0,meas:=λ_=>0 }
def fw11(g:List Gau):Shape:={ α:=One,dflt:=default,T:=λ_=>⟨[(1,.bptr 1000 0),(2,.bptr 1016 0),(6,.bptr 5000 0)],fwB g⟩,inv:=λ_=>GN g=0,meas:=λ_=>0,ffz:=[201] }
def fwS(s:FS)(kv:AVal):List (Nat×AVal):=[(1,.bptr 1000 0),(2,.bptr 1016 0),(6,.bptr 5000 0),(8,.bptr 12000 0),(9,kv),(10,.bptr 14032 0),(11,.int s.fr),(12,.int s.to)]
def fwSA(s:FS):List (Nat×AVal):=fwS s (.d TE)
def fwSB(s:FS):List (Nat×AVal):=fwS s (.own 303 1 0 s.k.length)
def fwHA(g:List Gau)(s:FS):List (Nat×HCell):=fwB g ++ [(12000,zRtg),(14032,lnBx s.ln)]
def fwHB(g:List Gau)(s:FS):List (Nat×HCell):=fwB g ++ [(12000,.live (.box [.own 301 1 0 s.b.length,.own 302 4 0 s.l.length])),(14032,lnBx s.ln),(301,.live (rowI s.b)),(302,.live (rowL s.l)),(303,.live (DWL s.k))]
def fwA(g:List Gau):Shape:={ α:=FS,dflt:=default,T:=λs=>⟨fwSA s,fwHA g s⟩,inv:=λs=>invF g s/\s.b=[]/\s.l=[]/\s.k=[],meas:=λs=>msF (BL g) s,tag:=[0] }
def fwBb(g:List Gau):Shape:={ α:=FS,dflt:=default,T:=λs=>⟨fwSB s,fwHB g s⟩,inv:=λs=>invF g s,meas:=λs=>msF (BL g) s,tag:=[1] }
structure FSK where
 s:FS
 n:Nat
 deriving Inhabited
def CNW(g:List Gau)(m:Nat)(x:FSK):Prop:=invF g x.s/\msF (BL g) x.s=m/\x.s.to<g.length/\x.s.to<=x.n/\x.n<=g.length/\hX g (BL g) x.s.to=nxK g (BL g) x.s.to (g.length-x.n) x.n
def DWW(g:List Gau)(m:Nat):Shape:={ α:=FSK,dflt:=default,T:=λx=>⟨fwSA x.s ++ [(13,.int x.n)],fwHA g x.s⟩,inv:=λx=>CNW g m x/\x.s.b=[]/\x.s.l=[]/\x.s.k=[],meas:=λx=>g.length-x.n }
def DXO(g:List Gau)(m:Nat):Shape:={ α:=FSK,dflt:=default,T:=λx=>⟨fwSB x.s ++ [(13,.int x.n)],fwHB g x.s⟩,inv:=λx=>CNW g m x,meas:=λx=>g.length-x.n }
def fw27(g:List Gau)(m:Nat):Shape:={ α:=FS,dflt:=default,T:=λs=>⟨[(1,.bptr 1000 0),(2,.bptr 1016 0),(6,.bptr 5000 0),(8,.bptr 12000 0),(9,.own 303 1 0 s.k.length),(10,.bptr 14032 0),(12,.int s.to)],fwHB g s⟩,inv:=λs=>invF g s/\s.fr=s.to/\msF (BL g) s<m,meas:=λ_=>0,first:=[(301,26176),(302,26256),(303,27128)] }
def C_few:Ctr:={ α:=List Gau,xs:=λg=>[.d (KZ g)],L:=λ_=>[],val:=λg=>.tup [.d (eRtg (jQ g).r),.d (eLL (jQ g).k),.int (jQ g).e],keep:=λ_=>[],pre:=λg=>[g.length<20/\True] }
def DLR(g:List Gau):Ann:={ ann 123 [(ALW,C_Check.spec xY),(DDW,C_ss.spec dGLt),(C6,ALX),(BJW,C_pk.spec dGPk),(AIF,C_isKnot.spec dGsK),(BSL,C_line.spec dGsK),(BJF,C_kd.spec dGK)] with mt:=λid=>id==8||id==25||id==26||id==28,loops:=λid=>if id=6 then some [fw6n g,fw6o g] else if id=15 then some [fwA g,fwBb g] else none,inner:=λgs id=>if id=17 then (if gs.getD 1 0=0 then some [DWW g (gs.getD 0 0)] else some [DXO g (gs.getD 0 0)]) else none,cut:=λid=>if id=10 then some [fw10 g] else if id=11 then some [fw11 g] else none,cutIn:=λgs id=>if id=27 then some [fw27 g (gs.getD 0 0)] else none }
def DMT(g:List Gau):Prop:=BG Try.prog (DLR g) BRK (AL BRK) (C_few.xs g) (AF []) (C_few.val g) [] [] [301,303,29064]
abbrev BKQ:=@Eq (List Ln)
abbrev BMH:=@List.nil Ln
abbrev CEJ:=@List.length (List Int)
abbrev NV:=BL
abbrev BBH:=@Exists FS
abbrev Dz:=FS.fr
abbrev Ab:=FS.to
abbrev Bu:=FS.ln
abbrev PQ:=FS.b
abbrev BLK:=@Eq (List (List Int))
abbrev BKZ:=@List.nil (List Int)
abbrev BWF:=λ(f:FS->Prop)=>∀(x:FS),f x
abbrev BVI:=@Exists FSK
abbrev Bz:=FSK.s
abbrev UT:=FSK.n
abbrev CQV:=λ(f:FSK->Prop)=>∀(x:FSK),f x
abbrev API:=@gD (List Int) (@instInhabitedList Int)
abbrev cN a:=FR.e (jQ a)
abbrev Aj a b:=API (FS.k a) b
abbrev vI a:=FR.k (jQ a)
abbrev iR a:=CEJ (vI a)
abbrev Ai a:=CEJ (FS.k a)
abbrev U5 a b:=AR a (Ai b)
abbrev Qs a b:=NK (FS.l a) b
abbrev MM a:=JY (FS.l a)
abbrev R5 a:=FR.r (jQ a)
abbrev bU a:=Ph (R5 a)
abbrev dA a:=Ly (R5 a)
abbrev K4 a b:=AW a (PQ b)
abbrev OG a b:=msF (NV a) b
abbrev BFT a b c:=cQ (Mi a) b c
abbrev E0 a b c d:=BFT a (EA b c) d
abbrev aR a b c d:=E0 a (Dz b) (Ab c) d
abbrev Fz a b c d e f(g:Nat->Prop):=RY (KQ a b) (Oc c d) e f g
abbrev Ew a b c d e f g:=Kn (JF (OG a b)) c ((@Eq FR) (jQ d) (fewR e (NV f) g b))
abbrev BYK a b:=JA a (PQ b)
abbrev dV a b:=BYK (Ai a) b
abbrev cY a b:=BYK (MM a) b
abbrev Om a b:=BHK a BK b
abbrev hC a b:=Om (BR a) b
abbrev zX a b c d e f g h:=AP a b c d e d f g h
abbrev E7 a b:=Iu (Bu a) b
abbrev H4 a b:=Iw (Bu a) b
abbrev Q3 a b:=Kh (Bu a) b
abbrev C7 a b:=Ko (Bu a) b
abbrev bT a:=GI (NV a)
abbrev dU a:=GU (NV a)
abbrev vF a b:=CN a (Ab b)
abbrev PM a:=Dz (Bz a)
abbrev BUI a b:=SG (PM a) b
abbrev BOU a b:=IS (UT a) (PM b)
abbrev iU a b c d:=LY (BOU a b) (NV c) (λi=>BUI d i)
abbrev iG a b:=Aj (Bz a) b
abbrev UO a:=Ai (Bz a)
abbrev IY a:=Bu (Bz a)
abbrev xB a b:=Qs (Bz a) b
abbrev RQ a:=MM (Bz a)
abbrev AXJ a b:=BJ (NV a) b
abbrev HD a:=Ab (Bz a)
abbrev vM a b:=AXJ a (HD b)
abbrev NJ a:=PQ (Bz a)
abbrev Sv a:=ER (NV a)
abbrev TH a:=AU (UT a)
abbrev ABD a:=AU (PM a)
abbrev OQ a:=DG (NV a)
abbrev BZF a b c:=pkM (GPk.mk (BU a) (OQ a) (AU b) (TH c))
abbrev pG a b:=BZF a (PM b) b
abbrev BPU a b:=pA (pG a b)
abbrev vZ a b:=(@Prod.fst Ln Bool) (BPU a b)
abbrev CGR a b c:=Ws a a b c
abbrev Sq a:=Jq a 0
abbrev iS a b c:=BZF a (HD b) c
abbrev iX a b:=QW a (UT b)
abbrev Vw a b:=JA a (NJ b)
abbrev vR a b c:=ABR (TH a) (Sv b) c
abbrev kO a:=yI a qW
abbrev AJP a b:=pE BK AQ a b
abbrev xH a:=iotI (CW a)
abbrev AGF a:=DG (xH a)
abbrev CFN a b:=nI a b a
attribute [go_sem] BKQ BMH CEJ NV BBH Dz Ab Bu PQ BLK BKZ BWF BVI Bz UT CQV API cN Aj vI iR Ai U5 Qs MM R5 bU dA K4 OG BFT E0 aR Fz Ew BYK dV cY Om hC zX E7 H4 Q3 C7 bT dU vF PM BUI BOU iU iG UO IY xB RQ AXJ HD vM NJ Sv TH ABD OQ BZF pG BPU vZ CGR Sq iS iX Vw vR kO AJP xH AGF CFN
theorem DSM(g:List Gau):(DMT g)=(RA (ON (CY g) (DD g) (OE g)) (Mi (BU g)) (Um (Sq (dA g)) (CGR (Iv (bU g)) (Iv (iR g)) (AO (cN g) (Mi (BU g))))) (HG (Kl (BB (XS g) CL (BY g) (BR g) AQ (CFN BK AQ)) (uH g)) (Ip (λi=>CX (uH g) 0 (HV g) (Vy (gZ (El (LD 0)) 1 8) (λj=>CK (And (XS g) (Ff (AU j) (GY 0) g (hC g (En BK (LD j) (λk=>AZ k j (CN k 0)))))) (BFT g (FW j) (KQ j g)) (QW g j) (Fb g))) PS)) (AK (λi=>CX (BFT g (FW i) (KQ i g)) i (HV g) (Vy (Do (Mu i 1) 1 (Ms i) (JF i) 8) (λj=>CK (And (XS g) (Ff (AU j) (GY i) g (hC g (En BK (Nz j i) (λk=>AZ k j (GV k (GJ k i (AU k) (AU i)))))))) (BFT g (FW j) (KQ j g)) (QW g j) (QW g i))) (ZY (λj=>NO (BY g) (hC g (En BK (Jq (xH g) i) (λk=>OB k (xH g) (AU k)))) (uH g))))) (Ru (uH g) (And (HG AQ (OD (xH g)) (DC (OD (xH g)) (QC (xH g)) (CY g) (DD g) (CG g (BU g)) (AT g (BU g)) (CI (BN (AGF g)) 20) (Hb (AGF g)) (λi=>Qt i (BN (AGF g)) (BJ (AGF g) i) (BU g))) (Kl (zX (BY g) (BR g) AQ BK AQ (AW (NV g) (xH g)) (JU (BP (BN (xH g))) (AGF g)) (AK (λi=>FG i (NV g) (stM (lH (BU g)) (AGF g)) (BP i)))) (uH g))) (Ru (uH g) (AY (EU 0 (BC 2000)) (BBH (λi=>AJ (HX AQ BK (BS (Dz i)) (BS (Ab i)) (BY g) (BR g) AQ (AJP (dU g) (Om (bT g) (AJ BK (C7 i (A1 (X5 0 0))) (Q3 i (A1 (X5 0 0))) (H4 i (A1 (X5 0 0))) (E7 i (A1 (X5 0 0))))))) (aR g i i (Fz (Ab i) g (PQ i) (Dz i) (cY i i) (dV i i) (λj=>Ew g i j g g g j))) (kO (PQ i)) (BKQ (FS.l i) BMH) (BLK (FS.k i) BKZ))) (BWF (λi=>CX (AY (aR g i i (Fz (Ab i) g (PQ i) (Dz i) (cY i i) (dV i i) (λj=>Ew g i j g g g j))) (kO (PQ i)) (BKQ (FS.l i) BMH) (BLK (FS.k i) BKZ)) (Ab i) (Sv g) (And (BVI (λj=>AJ (yL AQ BK (CN (PM j) (Dz i)) (vF (HD j) i) (vF (UT j) i) (BY g) (BR g) (AJP (dU g) (Om (bT g) (AJ BK (Ko (IY j) (Bu i)) (Kh (IY j) (Bu i)) (Iw (IY j) (Bu i)) (Iu (IY j) (Bu i)))))) (BB (E0 g (PM j) (HD j) (Fz (HD j) g (NJ j) (PM j) (Vw (RQ j) j) (Vw (UO j) j) (λk=>Ew g (Bz j) k g g g k))) (AR (OG g (Bz j)) (OG g i)) (VF (HD j) g) (EA (HD j) (UT j)) (KQ (UT j) g) (AR (hX g (NV g) (HD j)) (nxK g (NV g) (HD j) (iX g j) (UT j)))) (kO (NJ j)) (BKQ (FS.l (Bz j)) BMH) (BLK (FS.k (Bz j)) BKZ))) (CQV (λj=>BO (AY (BB (E0 g (PM j) (HD j) (Fz (HD j) g (NJ j) (PM j) (Vw (RQ j) j) (Vw (UO j) j) (λk=>Ew g (Bz j) k g g g k))) (AR (OG g (Bz j)) (OG g i)) (VF (HD j) g) (EA (HD j) (UT j)) (KQ (UT j) g) (AR (hX g (NV g) (HD j)) (nxK g (NV g) (HD j) (iX g j) (UT j)))) (kO (NJ j)) (BKQ (FS.l (Bz j)) BMH) (BLK (FS.k (Bz j)) BKZ)) (BF (AY (vR j g (CE (TH j) (Sv g))) (vR j g (VR (AXJ g (UT j)) g)) (vR j g (ES (HD j) (Sv g))) (vR j g (VR (vM g j) g))) (HJ (JD (TH j) (Sv g)) (Cu (Ck g (AXJ g (UT j))) (Ck g (vM g j)))) (BVI (λk=>CK (yL AQ BK (CN (PM k) (PM j)) (CN (HD k) (HD j)) (AV (UT k) (UT j)) (BY g) (BR g) (AJP (dU g) (Om (bT g) (AJ BK (Ko (IY k) (IY j)) (Kh (IY k) (IY j)) (Iw (IY k) (IY j)) (Iu (IY k) (IY j)))))) (AY (BB (E0 g (PM k) (HD k) (Fz (HD k) g (NJ k) (PM k) (Vw (RQ k) k) (Vw (UO k) k) (λl=>Ew g (Bz k) l g g g l))) (AR (OG g (Bz k)) (OG g i)) (VF (HD k) g) (EA (HD k) (UT k)) (KQ (UT k) g) (AR (hX g (NV g) (HD k)) (nxK g (NV g) (HD k) (iX g k) (UT k)))) (kO (NJ k)) (BKQ (FS.l (Bz k)) BMH) (BLK (FS.k (Bz k)) BKZ)) (iX g k) (iX g j))) (KM (QL (AU (HD j)) (TH j) (AJ (AW (OQ g) (NV g)) (AS (OQ g) (NV g)) (CY g) (DD g) (AP (AW (NV g) (OQ g)) (AS (NV g) (OQ g)) (CG g (BU g)) (AT g (BU g)) (And (EU (AU (HD j)) (Ns (Rz (HD j) (TH j)) (Fq (TH j) (OQ g)) (OQ g) 1073741824)) (AN (λk=>Ka k (OQ g) (VR k (BU g))))) (CY (iS g j j)) (DD (iS g j j)) (Hs (iS g j j)) (Vk (iS g j j))))) (zS (pA (iS g j j))) (Um (Sq (dA g)) (CGR (Iv (bU g)) (Iv (iR g)) (AO (cN g) 6))) (BF (QL (ABD j) (TH j) (AJ (AW (OQ g) (NV g)) (AS (OQ g) (NV g)) (CY g) (DD g) (AP (AW (NV g) (OQ g)) (AS (NV g) (OQ g)) (CG g (BU g)) (AT g (BU g)) (And (EU (ABD j) (Ns (Rz (PM j) (TH j)) (Fq (TH j) (OQ g)) (OQ g) 1073741824)) (AN (λk=>Ka k (OQ g) (VR k (BU g))))) (CY (pG g j)) (DD (pG g j)) (Hs (pG g j)) (Vk (pG g j))))) (zS (BPU g j)) (BBH (λk=>CK (HX AQ BK (CN (Dz k) (PM j)) (GV (Ab k) (TH j)) (BY g) (BR g) AQ (AJP (dU g) (Om (bT g) (AJ BK (C7 k (vZ g j)) (Q3 k (vZ g j)) (H4 k (vZ g j)) (E7 k (vZ g j)))))) (AY (aR g k k (Fz (Ab k) g (PQ k) (Dz k) (cY k k) (dV k k) (λl=>Ew g k l g g g l))) (kO (PQ k)) (BKQ (FS.l k) BMH) (BLK (FS.k k) BKZ)) (OG g k) (OG g i))) (AH (AY (ES (HD j) (Sv g)) (VR (vM g j) g) (gZ (El (LD 0)) 1 8) (Wl 4 4 32)) (HG (AH (BC (ABD j)) (Rz (PM j) (TH j)) (DJ (TH j) (Sv g))) (CY g) (LQ (DD g) (Jq (iU j j g j) (BOU j j)) (λk=>FG k (iU j j g j) (NV g) (BUI j k)) (NO (Hs g) (Hb (iU j j g j)) (Vk g)) (El (LD 0)) (Jr 1) Ir Hf (UQ 24)) (BBH (λk=>Gu (AJ AQ (LD (Ai k)) (CN (Ab k) (HD j)) (BY g) (hC g (zX BK (dU g) (bT g) AQ (mO (PQ k)) (LD (MM k)) (C7 k (IY j)) (KE (Q3 k (IY j)) (H4 k (IY j)) (E7 k (IY j)) (mO (PQ k)) (λl=>OB l (PQ k) (Ck g (vM g j))) (LD (MM k)) (λl=>JG l (MM k) (Qs k l) (IY j)) (LD (Ai k)) (AK (λl=>BZ l (Ai k) (AW (Aj k l) (jU (GK.mk (BU g) (iU j j g j)))) (AS (Aj k l) (jU (GK.mk (BU g) (iU j j g j)))))))))) (aR g k k (Fz (Ab k) g (PQ k) (Dz k) (cY k k) (dV k k) (λl=>Ew g k l g g g l))) (Dz k) (Ab k) (CI (OG g k) (OG g i))))) (BWF (λk=>BO (CK (aR g k k (Fz (Ab k) g (PQ k) (Dz k) (cY k k) (dV k k) (λl=>Ew g k l g g g l))) (AR (Dz k) (Ab k)) (OG g k) (OG g i)) (BBH (λl=>CK (BB AQ (U5 (Ai l) k) (vF (Dz l) k) (vF (Ab l) k) (BY g) (hC g (zX BK (dU g) (bT g) AQ (K4 (PQ l) k) (AR (MM l) (MM k)) (C7 l (Bu k)) (KE (Q3 l (Bu k)) (H4 l (Bu k)) (E7 l (Bu k)) (K4 (PQ l) k) (λm=>EN m (PQ l) (PQ k)) (AR (MM l) (MM k)) (λm=>JG m (MM l) (Qs l m) (Qs k m)) (U5 (Ai l) k) (AK (λm=>BZ m (Ai l) (AW (Aj l m) (Aj k m)) (AS (Aj l m) (Aj k m)))))))) (aR g l l (Fz (Ab l) g (PQ l) (Dz l) (cY l l) (dV l l) (λm=>Ew g l m g g g m))) (OG g l) (OG g i)))))))))))) (Pm (Wl 4 4 32) (Sq (dA g)) (LD (bU g)) (Ws Bo (AK (λj=>JG j (bU g) (Cd (R5 g) j) (Bu i))) (Iv (iR g)) (BE (cN g)))))) (BWF (λi=>CX (aR g i i (Fz (Ab i) g (PQ i) (Dz i) (cY i i) (dV i i) (λj=>Ew g i j g g g j))) (Ab i) (Sv g) (And (BVI (λj=>FT (FT AQ (U5 (UO j) i) (CN (PM j) (Dz i)) (vF (HD j) i) (vF (UT j) i) (BY g) (hC g (zX BK (dU g) (bT g) AQ (K4 (NJ j) i) (AR (RQ j) (MM i)) (Ko (IY j) (Bu i)) (KE (Kh (IY j) (Bu i)) (Iw (IY j) (Bu i)) (Iu (IY j) (Bu i)) (K4 (NJ j) i) (λk=>EN k (NJ j) (PQ i)) (AR (RQ j) (MM i)) (λk=>JG k (RQ j) (xB j k) (Qs i k)) (U5 (UO j) i) (AK (λk=>BZ k (UO j) (AW (iG j k) (Aj i k)) (AS (iG j k) (Aj i k)))))))) (E0 g (PM j) (HD j) (Fz (HD j) g (NJ j) (PM j) (Vw (RQ j) j) (Vw (UO j) j) (λk=>Ew g (Bz j) k g g g k))) (AR (OG g (Bz j)) (OG g i)) (VF (HD j) g) (EA (HD j) (UT j)) (KQ (UT j) g) (AR (hX g (NV g) (HD j)) (nxK g (NV g) (HD j) (iX g j) (UT j))))) (CQV (λj=>BO (BB (E0 g (PM j) (HD j) (Fz (HD j) g (NJ j) (PM j) (Vw (RQ j) j) (Vw (UO j) j) (λk=>Ew g (Bz j) k g g g k))) (AR (OG g (Bz j)) (OG g i)) (VF (HD j) g) (EA (HD j) (UT j)) (KQ (UT j) g) (AR (hX g (NV g) (HD j)) (nxK g (NV g) (HD j) (iX g j) (UT j)))) (BF (AY (vR j g (CE (TH j) (Sv g))) (vR j g (VR (AXJ g (UT j)) g)) (vR j g (ES (HD j) (Sv g))) (vR j g (VR (vM g j) g))) (HJ (JD (TH j) (Sv g)) (Cu (Ck g (AXJ g (UT j))) (Ck g (vM g j)))) (BVI (λk=>CK (FT AQ (AR (UO k) (UO j)) (CN (PM k) (PM j)) (CN (HD k) (HD j)) (AV (UT k) (UT j)) (BY g) (hC g (zX BK (dU g) (bT g) AQ (AW (NJ k) (NJ j)) (AR (RQ k) (RQ j)) (Ko (IY k) (IY j)) (KE (Kh (IY k) (IY j)) (Iw (IY k) (IY j)) (Iu (IY k) (IY j)) (AW (NJ k) (NJ j)) (λl=>EN l (NJ k) (NJ j)) (AR (RQ k) (RQ j)) (λl=>JG l (RQ k) (xB k l) (xB j l)) (AR (UO k) (UO j)) (AK (λl=>BZ l (UO k) (AW (iG k l) (iG j l)) (AS (iG k l) (iG j l)))))))) (BB (E0 g (PM k) (HD k) (Fz (HD k) g (NJ k) (PM k) (Vw (RQ k) k) (Vw (UO k) k) (λl=>Ew g (Bz k) l g g g l))) (AR (OG g (Bz k)) (OG g i)) (VF (HD k) g) (EA (HD k) (UT k)) (KQ (UT k) g) (AR (hX g (NV g) (HD k)) (nxK g (NV g) (HD k) (iX g k) (UT k)))) (iX g k) (iX g j))) (KM (QL (AU (HD j)) (TH j) (AJ (AW (OQ g) (NV g)) (AS (OQ g) (NV g)) (CY g) (DD g) (AP (AW (NV g) (OQ g)) (AS (NV g) (OQ g)) (CG g (BU g)) (AT g (BU g)) (And (EU (AU (HD j)) (Ns (Rz (HD j) (TH j)) (Fq (TH j) (OQ g)) (OQ g) 1073741824)) (AN (λk=>Ka k (OQ g) (VR k (BU g))))) (CY (iS g j j)) (DD (iS g j j)) (Hs (iS g j j)) (Vk (iS g j j))))) (zS (pA (iS g j j))) (Um (Sq (dA g)) (CGR (Iv (bU g)) (Iv (iR g)) (AO (cN g) 6))) (BF (QL (ABD j) (TH j) (AJ (AW (OQ g) (NV g)) (AS (OQ g) (NV g)) (CY g) (DD g) (AP (AW (NV g) (OQ g)) (AS (NV g) (OQ g)) (CG g (BU g)) (AT g (BU g)) (And (EU (ABD j) (Ns (Rz (PM j) (TH j)) (Fq (TH j) (OQ g)) (OQ g) 1073741824)) (AN (λk=>Ka k (OQ g) (VR k (BU g))))) (CY (pG g j)) (DD (pG g j)) (Hs (pG g j)) (Vk (pG g j))))) (zS (BPU g j)) (BBH (λk=>CK (BB AQ (AR (Ai k) (UO j)) (CN (Dz k) (PM j)) (GV (Ab k) (TH j)) (BY g) (hC g (zX BK (dU g) (bT g) AQ (AW (PQ k) (NJ j)) (AR (MM k) (RQ j)) (C7 k (vZ g j)) (KE (Q3 k (vZ g j)) (H4 k (vZ g j)) (E7 k (vZ g j)) (AW (PQ k) (NJ j)) (λl=>EN l (PQ k) (NJ j)) (AR (MM k) (RQ j)) (λl=>JG l (MM k) (Qs k l) (xB j l)) (AR (Ai k) (UO j)) (AK (λl=>BZ l (Ai k) (AW (Aj k l) (iG j l)) (AS (Aj k l) (iG j l)))))))) (aR g k k (Fz (Ab k) g (PQ k) (Dz k) (cY k k) (dV k k) (λl=>Ew g k l g g g l))) (OG g k) (OG g i))) (AH (AY (ES (HD j) (Sv g)) (VR (vM g j) g) (Do (And (GU (NJ j)) (EZ 0 (NJ j) (BI 1))) 1 (RV (Dq (NJ j))) (Dq (NJ j)) 8) (Do (Mu (RQ j) 4) 4 (Ms (RQ j)) (JF (RQ j)) 32)) (HG (AH (BC (ABD j)) (Rz (PM j) (TH j)) (DJ (TH j) (Sv g))) (CY g) (LQ (DD g) (Jq (iU j j g j) (BOU j j)) (λk=>FG k (iU j j g j) (NV g) (BUI j k)) (NO (Hs g) (Hb (iU j j g j)) (Vk g)) (Mu (UO j) 1) (Jr 1) Fp (Ms (UO j)) (UQ (Me (JF (UO j)) 24))) (BBH (λk=>Gu (AJ AQ (Nz (Ai k) (UO j)) (CN (Ab k) (HD j)) (BY g) (hC g (zX BK (dU g) (bT g) AQ (Jq (PQ k) (Dq (NJ j))) (Nz (MM k) (RQ j)) (C7 k (IY j)) (KE (Q3 k (IY j)) (H4 k (IY j)) (E7 k (IY j)) (Jq (PQ k) (Dq (NJ j))) (λl=>OB l (PQ k) (GJ l (BN (NJ j)) (BJ (NJ j) l) (Ck g (vM g j)))) (Nz (MM k) (RQ j)) (λl=>Aq l (MM k) (Qs k l) (GJ l (RQ j) (FC (xB j l)) (FC (IY j))) (GJ l (RQ j) (GF (xB j l)) (GF (IY j))) (GJ l (RQ j) (GD (xB j l)) (GD (IY j))) (GJ l (RQ j) (HB (xB j l)) (HB (IY j)))) (Nz (Ai k) (UO j)) (AK (λl=>BZ l (Ai k) (Jq (Aj k l) ((@cond Nat) (tC l (UO j)) (BN (iG j l)) (BN (jU (GK.mk (BU g) (iU j j g j)))))) (AK (λm=>OB m (Aj k l) (GJ l (UO j) (BJ (iG j l) m) (BJ (jU (GK.mk (BU g) (iU j j g j))) m)))))))))) (aR g k k (Fz (Ab k) g (PQ k) (Dz k) (cY k k) (dV k k) (λl=>Ew g k l g g g l))) (Dz k) (Ab k) (CI (OG g k) (OG g i))))) (BWF (λk=>BO (CK (aR g k k (Fz (Ab k) g (PQ k) (Dz k) (cY k k) (dV k k) (λl=>Ew g k l g g g l))) (AR (Dz k) (Ab k)) (OG g k) (OG g i)) (BBH (λl=>CK (BB AQ (U5 (Ai l) k) (vF (Dz l) k) (vF (Ab l) k) (BY g) (hC g (zX BK (dU g) (bT g) AQ (K4 (PQ l) k) (AR (MM l) (MM k)) (C7 l (Bu k)) (KE (Q3 l (Bu k)) (H4 l (Bu k)) (E7 l (Bu k)) (K4 (PQ l) k) (λm=>EN m (PQ l) (PQ k)) (AR (MM l) (MM k)) (λm=>JG m (MM l) (Qs l m) (Qs k m)) (U5 (Ai l) k) (AK (λm=>BZ m (Ai l) (AW (Aj l m) (Aj k m)) (AS (Aj l m) (Aj k m)))))))) (aR g l l (Fz (Ab l) g (PQ l) (Dz l) (cY l l) (dV l l) (λm=>Ew g l m g g g m))) (OG g l) (OG g i)))))))))))) (AH (Do (Mu (MM i) 4) 4 (Ms (MM i)) (JF (MM i)) 32) (K4 (dA g) i) (UY (JU (BP (BN (PQ i))) (PQ i)) (λj=>FG j (dA g) (PQ i) (BP j)) (Nz (bU g) (MM i)) (Hr (JF (MM i))) (λj=>Aq j (bU g) (Cd (R5 g) j) (GJ (BP j) (MM i) (FC (Qs i (BP j))) (FC (Bu i))) (GJ (BP j) (MM i) (GF (Qs i (BP j))) (GF (Bu i))) (GJ (BP j) (MM i) (GD (Qs i (BP j))) (GD (Bu i))) (GJ (BP j) (MM i) (HB (Qs i (BP j))) (HB (Bu i)))) (U5 (iR g) i) (Hr (Ai i)) (AK (λj=>BZ j (iR g) (AW (API (vI g) j) (Aj i (BP j))) (AS (API (vI g) j) (Aj i (BP j))))) (BE (cN g)))))))))))):=by kernel_rfl
theorem jT(n:Nat):(iotI n).length=n:=by simp[iotI]
theorem CUT{n i:Nat}(h:i<n):gD (iotI n) i=i:=by simp[iotI,gD,List.getD_eq_getElem?_getD,h]
theorem BOY(g:List Gau):(BL g).Perm (iotI g.length):=DBX _ _
theorem DT(g:List Gau):(BL g).length=g.length:=by rw[(BOY g).length_eq,jT]
theorem ANC{g:List Gau}{x:Int}(h:x∈BL g):0<=x/\x<g.length:=by
 have:=(BOY g).mem_iff.1 h
 unfold iotI at this
 obtain⟨i,hi,rfl⟩:=List.mem_map.1 this
 have:=List.mem_range.1 hi
 exact⟨Int.natCast_nonneg _,Int.ofNat_lt.2 this⟩
theorem AVY{g:List Gau}{i:Nat}(h:i<g.length):0<=gD (BL g) i/\gD (BL g) i<g.length:=ANC (HI (by rw[DT];exact h))
theorem CMS{l:List Int}{a b:Nat}(h:b<=l.length):(KA (b-a) λi=>gD l (a+i))=(l.take b).drop a:=by
 apply DEE
 ·rw[rng_length,List.length_drop,List.length_take];omega
 ·intro i hi
  rw[rng_length] at hi
  rw[OW _ _ _ hi,jR]
  simp[gD,List.getD_eq_getElem?_getD,List.getElem?_take,show a+i<b by omega]
theorem CPU{g:List Gau}(hc:GN g=0)(a b:Int):(pkM ⟨g,BL g,a,b⟩).length<1073741824/\∀x∈pkM ⟨g,BL g,a,b⟩,Oy x:=by
 obtain⟨⟨h1,h2⟩,h3⟩:=eY hc
 refine⟨?_,λx hx=>?_⟩
 ·unfold pkM Vd;rw[List.length_map,List.length_drop,List.length_take,DT];omega
 ·unfold pkM at hx
  obtain⟨i,hi,rfl⟩:=List.mem_map.1 hx
  have:=ANC (CRO hi)
  exact h3 _ (HI (by omega))
theorem CXY{g:List Gau}{o:List Int}{t:Nat}:∀(n k:Nat),k<=nxK g o t n k/\nxK g o t n k<=k+n
 |0,k=>⟨Nat.le_refl _,Nat.le_refl _⟩
 |n+1,k=>by
  unfold nxK
  cases SQ g (gD o k)==SQ g (gD o t)
  ·exact⟨Nat.le_refl _,by show k<=_;omega⟩
  ·have:=CXY (g:=g) (o:=o) (t:=t) n (k+1);show k<=nxK g o t n (k+1)/\nxK g o t n (k+1)<=_;omega
theorem BWL{g:List Gau}{t:Nat}(h:t<g.length):t<hX g (BL g) t/\hX g (BL g) t<=g.length:=by
 unfold hX
 rw[DT]
 obtain⟨n,hn⟩:∃n,g.length-t=n+1:=⟨g.length-t-1,by omega⟩
 rw[hn];unfold nxK
 rw[show (SQ g (gD (BL g) t)==SQ g (gD (BL g) t))=true by simp]
 have:=CXY (g:=g) (o:=BL g) (t:=t) n (t+1)
 show t<nxK g (BL g) t n (t+1)/\nxK g (BL g) t n (t+1)<=_
 omega
theorem AAL{g:List Gau}:∀(m n:Nat) (s:FS),s.fr<=s.to->s.to<=g.length->msF (BL g) s+1<=m->msF (BL g) s+1<=n->fewR g (BL g) m s=fewR g (BL g) n s
 |0,_,_,_,_,h,_=>by omega
 |m+1,0,_,_,_,_,h=>by omega
 |m+1,n+1,s,h0,h1,h2,h3=>by
  unfold fewR
  by_cases hl:s.to<(BL g).length
  ·rw[decide_eq_true hl]
   rw[DT] at hl
   have hx:=BWL hl
   unfold msF at h2 h3
   rw[DT] at h2 h3
   cases hq:(GZ (pkR g (BL g) s.to (hX g (BL g) s.to))).2
   ·rfl
   ·cases hr:(GZ (pkR g (BL g) s.fr (hX g (BL g) s.to))).2
    ·have hne:s.fr≠s.to:=λhe=>by rw[he,hq] at hr;cases hr
     rw[if_pos (by omega)] at h2 h3
     refine AAL m n (brkF g (BL g) s) (Nat.le_refl _) h1 ?_ ?_<;>(unfold msF brkF;rw[DT];simp only[Nat.lt_irrefl,if_false];omega)
    ·refine AAL m n (goF g (BL g) s) (by show s.fr<=hX _ _ _;omega) hx.2 ?_ ?_<;>(unfold msF goF;rw[DT];simp only[];split at h2<;>split<;>omega)
  ·rw[decide_eq_false hl];rfl
theorem DDO(g:List Gau)(o:List Int)(n:Nat)(s:FS):fewR g o (n+1) s=bif decide (s.to<o.length) then (bif (GZ (pkR g o s.to (hX g o s.to))).2 then (bif (GZ (pkR g o s.fr (hX g o s.to))).2 then fewR g o n (goF g o s) else fewR g o n (brkF g o s)) else⟨⟨[],[]⟩,[],6⟩) else⟨⟨s.b,s.l ++ [s.ln]⟩,s.k,0⟩:=rfl
theorem DLZ{g:List Gau}{s:FS}(h:invF g s)(ht:¬s.to<g.length):jQ g=⟨⟨s.b,s.l ++ [s.ln]⟩,s.k,0⟩:=by
 rw[h.2.2.2.2.2.2 _ (Nat.le_refl _)];unfold fewR;rw[decide_eq_false (by rw[DT];exact ht)];rfl
theorem DNI{g:List Gau}{s:FS}(h:invF g s)(ht:s.to<g.length)(hq:(GZ (pkR g (BL g) s.to (hX g (BL g) s.to))).2=false):jQ g=⟨⟨[],[]⟩,[],6⟩:=by
 rw[h.2.2.2.2.2.2 _ (Nat.le_refl _)];unfold fewR;rw[decide_eq_true (by rw[DT];exact ht),hq];rfl
theorem F_go{g:List Gau}{s:FS}(h:invF g s)(ht:s.to<g.length)(hq:(GZ (pkR g (BL g) s.to (hX g (BL g) s.to))).2=true)(hr:(GZ (pkR g (BL g) s.fr (hX g (BL g) s.to))).2=true):invF g (goF g (BL g) s)/\msF (BL g) (goF g (BL g) s)<msF (BL g) s:=by
 obtain⟨h1,h2,h3,h4,h5,h6,h7⟩:=h
 have hx:=BWL ht
 have hm:msF (BL g) (goF g (BL g) s)<msF (BL g) s:=by unfold msF goF;rw[DT];simp only[];split<;>split<;>omega
 refine⟨⟨h1,by show s.fr<=hX _ _ _;omega,hx.2,h4,h5,h6,λm hm2=>?_⟩,hm⟩
 rw[h7 (msF (BL g) s+1) (Nat.le_refl _),DDO,decide_eq_true (by rw[DT];exact ht),hq,hr]
 exact AAL (msF (BL g) s) m (goF g (BL g) s) (by show s.fr<=hX _ _ _;omega) hx.2 hm hm2
theorem DNC{g:List Gau}{s:FS}(h:invF g s)(ht:s.to<g.length)(hq:(GZ (pkR g (BL g) s.to (hX g (BL g) s.to))).2=true)(hr:(GZ (pkR g (BL g) s.fr (hX g (BL g) s.to))).2=false):invF g (brkF g (BL g) s)/\msF (BL g) (brkF g (BL g) s)<msF (BL g) s:=by
 obtain⟨h1,h2,h3,h4,h5,h6,h7⟩:=h
 have hx:=BWL ht
 have hne:s.fr≠s.to:=λhe=>by rw[he,hq] at hr;cases hr
 have hm:msF (BL g) (brkF g (BL g) s)<msF (BL g) s:=by unfold msF brkF;rw[DT];simp only[Nat.lt_irrefl,if_false];rw[if_pos (by omega)];omega
 refine⟨⟨h1,Nat.le_refl _,h3,by show (s.b ++ [_]).length<=s.to;simp;omega,by show (s.l ++ [_]).length=(s.b ++ [_]).length;simp;omega,by show (s.k ++ [_]).length=(s.b ++ [_]).length;simp;omega,λm hm2=>?_⟩,hm⟩
 rw[h7 (msF (BL g) s+1) (Nat.le_refl _),DDO,decide_eq_true (by rw[DT];exact ht),hq,hr]
 exact AAL (msF (BL g) s) m (brkF g (BL g) s) (Nat.le_refl _) h3 hm hm2
theorem CRI{g:List Gau}{t n:Nat}(hn:n<g.length)(h:SQ g (gD (BL g) n)=SQ g (gD (BL g) t)):nxK g (BL g) t (g.length-n) n=nxK g (BL g) t (g.length-(n+1)) (n+1):=by
 obtain⟨m,hm⟩:∃m,g.length-n=m+1:=⟨g.length-n-1,by omega⟩
 rw[hm,show g.length-(n+1)=m by omega]
 conv=>lhs;unfold nxK
 rw[show (SQ g (gD (BL g) n)==SQ g (gD (BL g) t))=true by rw[h];simp];rfl
theorem COD{g:List Gau}{t n:Nat}(hn:n<=g.length)(h:(bif decide (n<g.length) then SQ g (gD (BL g) n)==SQ g (gD (BL g) t) else false)=false):nxK g (BL g) t (g.length-n) n=n:=by
 by_cases hl:n<g.length
 ·rw[decide_eq_true hl] at h
  have h:(SQ g (gD (BL g) n)==SQ g (gD (BL g) t))=false:=h
  obtain⟨m,hm⟩:∃m,g.length-n=m+1:=⟨g.length-n-1,by omega⟩
  rw[hm];unfold nxK;rw[h];rfl
 ·rw[show g.length-n=0 by omega];rfl
theorem DOT{g:List Gau}{t n:Nat}(h:(bif decide (n<g.length) then SQ g (gD (BL g) n)==SQ g (gD (BL g) t) else false)=true):n<g.length/\SQ g (gD (BL g) n)=SQ g (gD (BL g) t):=by
 cases hd:decide (n<g.length) with
 |false=>rw[hd] at h;cases h
 |true=>rw[hd] at h;exact⟨of_decide_eq_true hd,by simpa using h⟩
theorem CWA(l:List Int)(p:Int)(i:Nat)(hi:i<(l ++ [p]).length):gD (l ++ [p]) i=bif decide (i<l.length) then gD l i else p:=J8 _ _ (by simpa using hi)
theorem DTJ(g:List Gau)(hg:g.length<20):DMT g:=by
 rw[DSM]<;> delta JB hd5 Oz NE AR AK BO CI AO AU UH EA DV JD DJ DX OP IS LA FI Cu QJ FZ SG Gi PS AN Pg BN BJ JN ZY Ip Me tC EY GW X5 FC GF GD HB A1 CW FX Jb JY NK Mi Ly qW zS BKQ BMH lH yI CEJ NV BBH Dz Ab Bu PQ BLK BKZ BWF BVI Bz UT CQV API AH LY NX LX NY AJ AZ EV AI DG BU BI FJ pE Um Ws nI CGR CFN Pm BBF DK AP DI DY BZ ED BC DZ EZ zX yL DN GQ Cd JA JF HE ER ID HC EU AW QL Dh HY AQ BP GT YB GY HL UW GU AY Ph CG HD GV IA Gk Dq BY BB CK JZ HV KC PM OQ VQ BD DR HN CE FG OB EN GH OH QW Mm Ce MM EC AV AS BK TH BF ES Ai FU Qs GC KQ FF MC GM HO BE VF FW BR CN OG GJ NJ GI CR CX IY HJ Kn Ji AT Oc DC XS R5 ZI Bo CL UQ Fb BS DD CY QE UY XK Rz Xl HG Aj OE Ov RQ RY Jr MK Cs UO UE Ha JU LD BZF U2 Ka BYK cQ FT Sv PK Aq Jq Ht HX BFT NO Kh RV Fp VR Iu xH Je BHK OD pG Iw Om El Hf KE KM Ko JG vI pA LQ VS E0 Ir ON Ck QC nD Hs Hg Fz RA Vw AXJ BUI Hb Ff BOU bT dV Fq Nz bU Hr Ew cY Ms dA Iv uN ABR En BPU hC iG iX Kl Vk cN iR dU Gu Sq iS aR Ru Mu iU vM vF xB vZ uH AGF Do kO AJP gZ Qt Ns vR Wl C7 Vy U5 H4 K4 mO E7 ABD Q3;simp only[CC,eq_self,implies_true,forall_const,Int.ofNat_lt]
 have zz:∀n,jQ g=⟨⟨[],[]⟩,[],n⟩->(jQ g).r.b.length=0/\(jQ g).r.b.length=0/\(jQ g).r.l.length=0/\(jQ g).r.l.length=0/\(jQ g).k.length=0/\(jQ g).k.length=0/\(jQ g).e=n:=λn h=>by rw[h];exact⟨rfl,rfl,rfl,rfl,rfl,rfl,rfl⟩
 refine⟨by omega,λhe=>?_,λhe=>?_⟩
 ·refine zz _ ?_
  unfold jQ;rw[show (GN g==0)=false by simpa using he];rfl
 ·have hc:GN g=0:=by simpa using he
  have hck:=eY hc
  refine⟨⟨⟨default,hc⟩,λ_=>⟨λh0=>⟨⟨by omega,by omega,by omega,by omega,by omega⟩,1,⟨(FN (a:=0) (by omega)).symm,rfl,rfl,λi hi=>by rw[show i=0 by omega]⟩,⟨hc,by omega,by omega⟩,by omega⟩,λh0=>by omega⟩,λk ⟨_,k1,k2⟩=>⟨λhlt=>⟨⟨by omega,λh=>(by cases h),by omega,by omega⟩,k+1,⟨(FN (by omega)).symm,rfl,rfl,λi hi=>?_⟩,⟨hc,by omega,by omega⟩,by omega⟩,λhge=>⟨default,⟨?_,?_,λi hi=>?_⟩,hc⟩⟩⟩,λ_=>⟨⟨⟨by rw[jT];exact hg,by rw[jT];omega,λi hi=>?_⟩,default,⟨?_,Nat.le_refl _,λ_ _=>rfl⟩,hc⟩,λ_=>⟨⟨by omega,by omega⟩,⟨ini0,⟨rfl,rfl,rfl,rfl,rfl,rfl⟩,⟨hc,Nat.le_refl _,Nat.zero_le _,Nat.le_refl _,rfl,rfl,λm hm=>?_⟩,rfl,rfl,rfl⟩,λs hs=>?_,λs hs=>?_⟩⟩⟩
  ·by_cases h:i<k
   ·rw[decide_eq_true h];rfl
   ·rw[decide_eq_false h,show i=k by omega];rfl
  ·rw[jT];omega
  ·rw[jT];omega
  ·rw[jT] at hi;exact CUT hi
  ·rw[jT] at hi;rw[CUT hi];omega
  ·rw[DT,jT]
  ·unfold jQ;rw[show (GN g==0)=true by rw[hc];rfl]
   exact AAL _ _ _ (Nat.le_refl _) (Nat.zero_le _) (by unfold msF ini0;rw[DT];simp) hm
  ·obtain⟨hI,hb,hl,hk⟩:invF g s/\s.b=[]/\s.l=[]/\s.k=[]:=hs
   refine⟨λht=>?_,λht=>?_⟩
   ·have ht:s.to<g.length:=by rw[DT] at ht;exact ht
    refine⟨⟨⟨s,s.to⟩,⟨rfl,rfl,rfl,rfl,rfl,rfl,rfl⟩,⟨hI,rfl,ht,Nat.le_refl _,Nat.le_of_lt ht,?_⟩,hb,hl,hk⟩,λx hx=>?_⟩
    ·unfold hX;rw[DT]
    ·obtain⟨⟨xI,x1,x2,x3,x4,x5⟩,xb,xl,xk⟩:CNW g (msF (BL g) s) x/\x.s.b=[]/\x.s.l=[]/\x.s.k=[]:=hx
     refine⟨⟨λh=>⟨by omega,by omega⟩,λh=>AVY (by rw[DT] at h;exact h),λh=>⟨by omega,by rw[DT];omega⟩,λ_=>AVY x2⟩,λhq=>?_,λhq=>?_⟩
     ·rw[DT] at hq
      obtain⟨q1,q2⟩:=DOT hq
      exact⟨⟨x.s,x.n+1⟩,⟨rfl,rfl,(FN (by omega)).symm,rfl,rfl,rfl,rfl⟩,⟨⟨xI,x1,x2,by show x.s.to<=x.n+1;omega,q1,x5.trans (CRI q1 q2)⟩,xb,xl,xk⟩,by show g.length-(x.n+1)<_;omega⟩
     ·rw[DT] at hq
      have hn:hX g (BL g) x.s.to=x.n:=x5.trans (COD x4 hq)
      have e1:pkM ⟨g,BL g,x.s.to,x.n⟩=pkR g (BL g) x.s.to (hX g (BL g) x.s.to):=by rw[hn];rfl
      have e2:pkM ⟨g,BL g,x.s.fr,x.n⟩=pkR g (BL g) x.s.fr (hX g (BL g) x.s.to):=by rw[hn];rfl
      have hfr:x.s.fr<=x.s.to:=xI.2.1
      have hbl:x.s.b.length<=x.s.fr:=xI.2.2.2.1
      have hll:x.s.l.length=x.s.b.length:=xI.2.2.2.2.1
      have hkl:x.s.k.length=x.s.b.length:=xI.2.2.2.2.2.1
      refine⟨⟨⟨⟨by omega,by omega,by rw[DT];omega,by rw[DT];omega⟩,λ_ h=>ANC h⟩,CPU hc _ _⟩,λhb1=>zz _ (DNI xI x2 (by rw[<-e1];exact hb1)),λhb1=>⟨⟨⟨⟨by omega,by omega,by rw[DT];omega,by rw[DT];omega⟩,λ_ h=>ANC h⟩,CPU hc _ _⟩,λhb2=>?_,λhb2=>?_⟩⟩
      ·obtain⟨f1,f2⟩:=F_go xI x2 (by rw[<-e1];exact hb1) (by rw[<-e2];exact hb2)
       exact⟨goF g (BL g) x.s,⟨rfl,by show ((hX g (BL g) x.s.to:Nat):Int)=x.n;rw[hn],by rw[e2];rfl,by rw[e2];rfl,by rw[e2];rfl,by rw[e2];rfl⟩,⟨f1,xb,xl,xk⟩,by rw[<-x1];exact f2⟩
      ·obtain⟨f1,f2⟩:=DNC xI x2 (by rw[<-e1];exact hb1) (by rw[<-e2];exact hb2)
       have eB:brkF g (BL g) x.s=⟨x.s.to,x.s.to,x.s.ln,[SQ g (gD (BL g) x.s.to)],[x.s.ln],[jU ⟨g,((BL g).take x.n).drop x.s.fr⟩]⟩:=by unfold brkF;rw[xb,xl,xk,hn];rfl
       rw[eB] at f1 f2
       rw[CMS (by rw[DT];exact x4)]
       refine⟨⟨⟨by omega,by rw[DT];omega⟩,AVY x2,⟨by omega,by omega,by omega,by omega,by omega⟩,by omega,by omega,by omega,by omega,by omega⟩,⟨⟨⟨by omega,by omega,by rw[DT];omega⟩,λi hi=>?_,⟨⟨by omega,by omega⟩,hck.2⟩,by omega,by omega,by omega,by omega,by omega⟩,⟨x.s.to,x.s.to,x.s.ln,[SQ g (gD (BL g) x.s.to)],[x.s.ln],[jU ⟨g,((BL g).take x.n).drop x.s.fr⟩]⟩,⟨rfl,rfl,rfl,rfl,rfl,rfl,rfl,rfl,rfl,λi hi=>(by rw[show i=0 by have h1:i<1:=hi;omega];rfl),rfl,oneL _,rfl,λi hi=>(by rw[show i=0 by have h1:i<1:=hi;omega];exact⟨rfl,λ_ _=>rfl⟩)⟩,f1,rfl,by rw[<-x1];exact f2⟩,λy ⟨y1,y2,y3⟩=>⟨y,⟨rfl,by rw[y2],rfl,rfl,rfl,rfl,rfl,rfl,rfl,rfl,λ_ _=>rfl,rfl,λ_ _=>⟨rfl,rfl,rfl,rfl⟩,rfl,λ_ _=>⟨rfl,λ_ _=>rfl⟩⟩,y1,y3⟩⟩
       rw[jR];simp[gD,List.getD_eq_getElem?_getD,List.getElem?_take,show x.s.fr+i<x.n by omega]
   ·rw[DT] at ht
    rw[DLZ hI ht,hb,hl,hk]
    exact⟨⟨by omega,by omega,by omega,by omega,by omega⟩,rfl,rfl,rfl,by omega,oneL _,rfl,rfl,rfl⟩
  ·have hI:invF g s:=hs
   have hbl:s.b.length<=s.fr:=hI.2.2.2.1
   have hll:s.l.length=s.b.length:=hI.2.2.2.2.1
   have hkl:s.k.length=s.b.length:=hI.2.2.2.2.2.1
   have hfr:s.fr<=s.to:=hI.2.1
   have hto:s.to<=g.length:=hI.2.2.1
   refine⟨λht=>?_,λht=>?_⟩
   ·have ht:s.to<g.length:=by rw[DT] at ht;exact ht
    refine⟨⟨⟨s,s.to⟩,⟨rfl,rfl,rfl,rfl,rfl,rfl,rfl,rfl,rfl,rfl,rfl,λ_ _=>rfl,rfl,λ_ _=>⟨rfl,rfl,rfl,rfl⟩,rfl,λ_ _=>⟨rfl,λ_ _=>rfl⟩⟩,hI,rfl,ht,Nat.le_refl _,Nat.le_of_lt ht,?_⟩,λx hx=>?_⟩
    ·unfold hX;rw[DT]
    ·obtain⟨xI,x1,x2,x3,x4,x5⟩:CNW g (msF (BL g) s) x:=hx
     refine⟨⟨λh=>⟨by omega,by omega⟩,λh=>AVY (by rw[DT] at h;exact h),λh=>⟨by omega,by rw[DT];omega⟩,λ_=>AVY x2⟩,λhq=>?_,λhq=>?_⟩
     ·rw[DT] at hq
      obtain⟨q1,q2⟩:=DOT hq
      exact⟨⟨x.s,x.n+1⟩,⟨rfl,rfl,rfl,(FN (by omega)).symm,rfl,rfl,rfl,rfl,rfl,rfl,rfl,λ_ _=>rfl,rfl,λ_ _=>⟨rfl,rfl,rfl,rfl⟩,rfl,λ_ _=>⟨rfl,λ_ _=>rfl⟩⟩,⟨xI,x1,x2,by show x.s.to<=x.n+1;omega,q1,x5.trans (CRI q1 q2)⟩,by show g.length-(x.n+1)<_;omega⟩
     ·rw[DT] at hq
      have hn:hX g (BL g) x.s.to=x.n:=x5.trans (COD x4 hq)
      have e1:pkM ⟨g,BL g,x.s.to,x.n⟩=pkR g (BL g) x.s.to (hX g (BL g) x.s.to):=by rw[hn];rfl
      have e2:pkM ⟨g,BL g,x.s.fr,x.n⟩=pkR g (BL g) x.s.fr (hX g (BL g) x.s.to):=by rw[hn];rfl
      have hfr:x.s.fr<=x.s.to:=xI.2.1
      have hbl:x.s.b.length<=x.s.fr:=xI.2.2.2.1
      have hll:x.s.l.length=x.s.b.length:=xI.2.2.2.2.1
      have hkl:x.s.k.length=x.s.b.length:=xI.2.2.2.2.2.1
      refine⟨⟨⟨⟨by omega,by omega,by rw[DT];omega,by rw[DT];omega⟩,λ_ h=>ANC h⟩,CPU hc _ _⟩,λhb1=>zz _ (DNI xI x2 (by rw[<-e1];exact hb1)),λhb1=>⟨⟨⟨⟨by omega,by omega,by rw[DT];omega,by rw[DT];omega⟩,λ_ h=>ANC h⟩,CPU hc _ _⟩,λhb2=>?_,λhb2=>?_⟩⟩
      ·obtain⟨f1,f2⟩:=F_go xI x2 (by rw[<-e1];exact hb1) (by rw[<-e2];exact hb2)
       exact⟨goF g (BL g) x.s,⟨rfl,rfl,by show ((hX g (BL g) x.s.to:Nat):Int)=x.n;rw[hn],rfl,rfl,by rw[e2];rfl,by rw[e2];rfl,by rw[e2];rfl,by rw[e2];rfl,rfl,λ_ _=>rfl,rfl,λ_ _=>⟨rfl,rfl,rfl,rfl⟩,rfl,λ_ _=>⟨rfl,λ_ _=>rfl⟩⟩,f1,by rw[<-x1];exact f2⟩
      ·obtain⟨f1,f2⟩:=DNC xI x2 (by rw[<-e1];exact hb1) (by rw[<-e2];exact hb2)
       have eB:brkF g (BL g) x.s=⟨x.s.to,x.s.to,x.s.ln,x.s.b ++ [SQ g (gD (BL g) x.s.to)],x.s.l ++ [x.s.ln],x.s.k ++ [jU ⟨g,((BL g).take x.n).drop x.s.fr⟩]⟩:=by unfold brkF;rw[hn]
       rw[eB] at f1 f2
       rw[CMS (by rw[DT];exact x4)]
       refine⟨⟨⟨by omega,by rw[DT];omega⟩,AVY x2,⟨by omega,λh=>(by cases h),by omega⟩,by omega,λh=>(by cases h),by omega⟩,⟨⟨⟨by omega,by omega,by rw[DT];omega⟩,λi hi=>?_,⟨⟨by omega,by omega⟩,hck.2⟩,by omega,λh=>(by cases h),by omega⟩,⟨x.s.to,x.s.to,x.s.ln,x.s.b ++ [SQ g (gD (BL g) x.s.to)],x.s.l ++ [x.s.ln],x.s.k ++ [jU ⟨g,((BL g).take x.n).drop x.s.fr⟩]⟩,⟨by simp,rfl,by simp,by simp,rfl,rfl,rfl,rfl,by simp,CWA _ _,by simp,BWH _ _,by simp,λi hi=>?_⟩,f1,rfl,by rw[<-x1];exact f2⟩,λy ⟨y1,y2,y3⟩=>⟨y,⟨rfl,by rw[y2],rfl,rfl,rfl,rfl,rfl,rfl,rfl,rfl,λ_ _=>rfl,rfl,λ_ _=>⟨rfl,rfl,rfl,rfl⟩,rfl,λ_ _=>⟨rfl,λ_ _=>rfl⟩⟩,y1,y3⟩⟩
       rw[jR];simp[gD,List.getD_eq_getElem?_getD,List.getElem?_take,show x.s.fr+i<x.n by omega]
       rw[J8 _ _ (by simpa using hi)]
       cases decide (i<x.s.k.length)<;>exact⟨rfl,λ_ _=>rfl⟩
   ·rw[DT] at ht
    rw[DLZ hI ht]
    exact⟨⟨by omega,λh=>(by cases h),by omega,by omega⟩,rfl,Nat.le_refl _,λ_ _=>rfl,by simp,by omega,BWH _ _,rfl,Nat.le_refl _,λ_ _=>⟨rfl,λ_ _=>rfl⟩,rfl⟩
theorem DBT:AM Try.prog zD (C_few.spec xY):=WY C_few DLR [] [301,303,29064] CRU (λ_=>by kernel_rfl) (λ_=>AB AGW (AB DVI (AB lR (AB DVO (AB BHQ (AB CQO (AB DXR AG))))))) (λ(g:List Gau) h=>DTJ g (show g.length<20/\True from h).1) (λ_=>YE rfl rfl) _
end Go.Bal
