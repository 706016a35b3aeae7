/- Package rating: the fewest parts. -/
import Derived.Test.YtpidmmilfdcepaaGreatRatS
set_option linter.unusedVariables false
set_option linter.unusedSimpArgs false
namespace Go.Bal
open Go Go.Sym Go.Proofs
def eLL(l:List (List Int)):DVal:=lst 1 l.length λi=>AZ (gD l i)
def ACX(l:List (List Int)):AObj:=.row 1 l.length λi=>AZ (gD l i)
structure FS where
 fr:Nat
 to:Nat
 ln:Ln
 b:List Int
 l:List Ln
 k:List (List Int)
 deriving Inhabited
def Il(n:Nat):List Int:=(List.range n).map Int.ofNat
def AM(g:List Gau):List Int:=stM (LM g) (Il g.length)
def R2(g:List Gau)(o:List Int)(t:Nat):Nat->Nat->Nat
 |0,k=>k
 |n+1,k=>bif LM g (gD o k)==LM g (gD o t) then R2 g o t n (k+1) else k
def Kw(g:List Gau)(o:List Int)(t:Nat):Nat:=R2 g o t (o.length-t) t
def L7(g:List Gau)(o:List Int)(a b:Nat):List Gau:=pkM ⟨g,o,a,b⟩
def zQ(g:List Gau)(o:List Int)(s:FS):FS:=⟨s.to,s.to,s.ln,s.b ++ [LM g (gD o s.to)],s.l ++ [s.ln],s.k ++ [Vp ⟨g,(o.take (Kw g o s.to)).drop s.fr⟩]⟩
def goF(g:List Gau)(o:List Int)(s:FS):FS:=⟨s.fr,Kw g o s.to,(EV (L7 g o s.fr (Kw g o s.to))).1,s.b,s.l,s.k⟩
structure FR where
 r:Rtg
 k:List (List Int)
 e:Int
def Qi(g:List Gau)(o:List Int):Nat->FS->FR
 |0,s=>⟨⟨s.b,s.l ++ [s.ln]⟩,s.k,0⟩
 |n+1,s=>bif decide (s.to<o.length) then (bif (EV (L7 g o s.to (Kw g o s.to))).2 then (bif (EV (L7 g o s.fr (Kw g o s.to))).2 then Qi g o n (goF g o s) else Qi g o n (zQ g o s)) else⟨⟨[],[]⟩,[],6⟩) else⟨⟨s.b,s.l ++ [s.ln]⟩,s.k,0⟩
def ini0:FS:=⟨0,0,QB ⟨0,0⟩,[],[],[]⟩
def FT(g:List Gau):FR:=bif AL g==0 then Qi g (AM g) (2*g.length+2) ini0 else⟨⟨[],[]⟩,[],AL g⟩
def sF(o:List Int)(s:FS):Nat:=2*(o.length-s.to)+(if s.fr<s.to then 1 else 0)
def invF(g:List Gau)(s:FS):Prop:=AL g=0/\s.fr<=s.to/\s.to<=g.length/\s.b.length<=s.fr/\s.l.length=s.b.length/\s.k.length=s.b.length/\(∀m,sF (AM g) s+1<=m->FT g=Qi g (AM g) m s)
def zRtg:HCell:=.live (.box [.d NC,.d NC])
def lnBx(x:Ln):HCell:=.live (.box [.int x.a0,.int x.a1,.int x.b0,.int x.b1])
def fwN(g:List Gau)(k:Nat):List (Nat×AVal):=[(1,.bptr 1000 0),(2,.bptr 1016 0),(6,.bptr 5000 0),(24,.int g.length),(25,.int k)]
def fw6n(g:List Gau):Shape:={ α:=One,dflt:=default,T:=λ_=>⟨fwN g 0,[(1000,.live (bxG g)),(1016,zRtg),(5000,.live (.box [.d NC]))]⟩,inv:=λ_=>AL g=0,meas:=λ_=>g.length+1 }
def fw6o(g:List Gau):Shape:={ α:=Nat,dflt:=0,T:=λk=>⟨fwN g k,[(1000,.live (bxG g)),(1016,zRtg),(5000,.live (.box [.own 201 1 0 k])),(201,.live (.row 1 k λi=>NY i))]⟩,inv:=λk=>AL g=0/\1<=k/\k<=g.length,meas:=λk=>g.length-k,again:=[(201,9048)] }
def fwB(g:List Gau):List (Nat×HCell):=[(1000,.live (bxG g)),(1016,zRtg),(5000,.live (.box [.d (AZ (AM g))]))]
def fw10(g:List Gau):Shape:={ α:=One,dflt:=default,T:=λ_=>⟨[(1,.bptr 1000 0),(2,.bptr 1016 0),(6,.bptr 5000 0)],[(1000,.live (bxG g)),(1016,zRtg),(5000,.live (.box [.own 201 1 0 (Il g.length).length])),(201,.live (rowI (Il g.length)))]⟩,inv:=λ_=>AL g=0,meas:=λ_=>0 }
def fw11(g:List Gau):Shape:={ α:=One,dflt:=default,T:=λ_=>⟨[(1,.bptr 1000 0),(2,.bptr 1016 0),(6,.bptr 5000 0)],fwB g⟩,inv:=λ_=>AL g=0,meas:=λ_=>0,ffz:=[201] }
def fwS(s:FS)(kv:AVal):List (Nat×AVal):=[(1,.bptr 1000 0),(2,.bptr 1016 0),(6,.bptr 5000 0),(8,.bptr 12000 0),(9,kv),(10,.bptr 14032 0),(11,.int s.fr),(12,.int s.to)]
def fwSA(s:FS):List (Nat×AVal):=fwS s (.d NC)
def fwSB(s:FS):List (Nat×AVal):=fwS s (.own 303 1 0 s.k.length)
def fwHA(g:List Gau)(s:FS):List (Nat×HCell):=fwB g ++ [(12000,zRtg),(14032,lnBx s.ln)]
def fwHB(g:List Gau)(s:FS):List (Nat×HCell):=fwB g ++ [(12000,.live (.box [.own 301 1 0 s.b.length,.own 302 4 0 s.l.length])),(14032,lnBx s.ln),(301,.live (rowI s.b)),(302,.live (rowL s.l)),(303,.live (ACX s.k))]
def fwA(g:List Gau):Shape:={ α:=FS,dflt:=default,T:=λs=>⟨fwSA s,fwHA g s⟩,inv:=λs=>invF g s/\s.b=[]/\s.l=[]/\s.k=[],meas:=λs=>sF (AM g) s,tag:=[0] }
def fwBb(g:List Gau):Shape:={ α:=FS,dflt:=default,T:=λs=>⟨fwSB s,fwHB g s⟩,inv:=λs=>invF g s,meas:=λs=>sF (AM g) s,tag:=[1] }
structure FSK where
 s:FS
 n:Nat
 deriving Inhabited
def BTK(g:List Gau)(m:Nat)(x:FSK):Prop:=invF g x.s/\sF (AM g) x.s=m/\x.s.to<g.length/\x.s.to<=x.n/\x.n<=g.length/\Kw g (AM g) x.s.to=R2 g (AM g) x.s.to (g.length-x.n) x.n
def DBC(g:List Gau)(m:Nat):Shape:={ α:=FSK,dflt:=default,T:=λx=>⟨fwSA x.s ++ [(13,.int x.n)],fwHA g x.s⟩,inv:=λx=>BTK g m x/\x.s.b=[]/\x.s.l=[]/\x.s.k=[],meas:=λx=>g.length-x.n }
def DAJ(g:List Gau)(m:Nat):Shape:={ α:=FSK,dflt:=default,T:=λx=>⟨fwSB x.s ++ [(13,.int x.n)],fwHB g x.s⟩,inv:=λx=>BTK g m x,meas:=λx=>g.length-x.n }
def fw27(g:List Gau)(m:Nat):Shape:={ α:=FS,dflt:=default,T:=λs=>⟨[(1,.bptr 1000 0),(2,.bptr 1016 0),(6,.bptr 5000 0),(8,.bptr 12000 0),(9,.own 303 1 0 s.k.length),(10,.bptr 14032 0),(12,.int s.to)],fwHB g s⟩,inv:=λs=>invF g s/\s.fr=s.to/\sF (AM g) s<m,meas:=λ_=>0,first:=[(301,26176),(302,26256),(303,27128)] }
def gSm(g:List Gau):Bool:=decide (g.length<20)||((List.range g.length).all λi=>decide ((gD g (i-1)).st<=(gD g i).st))
def C_few:Ctr:={ α:=List Gau,xs:=λg=>[.d (AT g)],L:=λ_=>[],val:=λg=>.tup [.d (eRtg (FT g).r),.d (eLL (FT g).k),.int (FT g).e],keep:=λ_=>[],pre:=λg=>[g.length<1073741824/\gSm g=true] }
def CQH(g:List Gau):Ann:={ ann 123 [(9,C_Check.spec NU),(109,C_ss.spec dGLt),(107,F7),(111,C_pk.spec dGPk),(78,C_isKnot.spec dGsK),(69,C_line.spec dGsK),(112,C_kd.spec dGK)] with mt:=λid=>id==8||id==25||id==26||id==28,loops:=λid=>if id=6 then some [fw6n g,fw6o g] else if id=15 then some [fwA g,fwBb g] else none,inner:=λgs id=>if id=17 then (if gs.getD 1 0=0 then some [DBC g (gs.getD 0 0)] else some [DAJ g (gs.getD 0 0)]) else none,cut:=λid=>if id=10 then some [fw10 g] else if id=11 then some [fw11 g] else none,cutIn:=λgs id=>if id=27 then some [fw27 g (gs.getD 0 0)] else none }
def CMF(g:List Gau):Prop:=AS ZP (CQH g) Tryz.f73 (AE Tryz.f73) (C_few.xs g) (AB []) (C_few.val g) [] [] [301,303,29064]
abbrev FH:=@List.length (List Int)
abbrev EH:=AM
abbrev AIK:=@Exists FS
abbrev XG:=FS.fr
abbrev UI:=FS.to
abbrev RI:=FS.ln
abbrev VW:=FS.b
abbrev QN:=FS.l
abbrev APU:=@Eq (List (List Int))
abbrev sA:=@List.nil (List Int)
abbrev BFZ:=λ(f:FS->Prop)=>∀(x:FS),f x
abbrev BFR:=@Exists FSK
abbrev KY:=FSK.s
abbrev GV:=FSK.n
abbrev CFI:=λ(f:FSK->Prop)=>∀(x:FSK),f x
abbrev KJ:=@gD (List Int) (@instInhabitedList Int)
abbrev Hg a:=FR.e (FT a)
abbrev BMW a b c d e:=Ku a b (BC c d) e
abbrev Kp a b c d:=BMW a b c d (BR c d)
abbrev ANR a b c d e:=Kp a b (KJ c d) e
abbrev ZD a b:=KJ (FS.k a) b
abbrev AEN a:=FR.k (FT a)
abbrev eF a:=FH (AEN a)
abbrev Df a:=FH (FS.k a)
abbrev BBV a b:=OE a (AQ b)
abbrev Pd a:=CO (QN a)
abbrev R8 a:=FR.r (FT a)
abbrev Cx a b:=KX (R8 a) b
abbrev Kb a:=IS (R8 a)
abbrev yC a b c d:=M0 a b c (AQ d)
abbrev gU a:=Cm (R8 a)
abbrev He a:=GZ (VW a)
abbrev xF a b:=BC a (VW b)
abbrev KA a b:=sF (EH a) b
abbrev Nu a b c d:=EE (Gg a) b c d
abbrev Ra a b c d:=Nu a (XG b) (UI c) d
abbrev Ef a b:=DU (Df a) b
abbrev YB a b c d e f(g:Nat->Prop):=BLC (XU a b) c d e (Ef f c) g
abbrev YL a b c d e f g:=Bi (CN (KA a b)) c ((@Eq FR) (FT d) (Qi e (EH f) g b))
abbrev AEW a b:=LB (QN a) b
abbrev Sm a b:=AEW a (He b)
abbrev jP a b c d e f g h:=BK a b c d e f g f h
abbrev xP a b:=Dj (RI a) b
abbrev uU a b:=Dz (RI a) b
abbrev zU a b:=Dr (RI a) b
abbrev yX a b:=Cz (RI a) b
abbrev Ty a:=EZ (EH a)
abbrev Ri a:=IW (EH a)
abbrev pS a b:=AI a (UI b)
abbrev ABH a b c d e f g:=sD a b c d e f a g
abbrev QD a:=XG (KY a)
abbrev AXA a b:=sG (QD a) b
abbrev BCT a b:=TJ (GV a) (QD b)
abbrev hJ a b c d:=BWU (BCT a b) (EH c) (λi=>AXA d i)
abbrev Ip a:=Df (KY a)
abbrev FN a:=RI (KY a)
abbrev MX a:=QN (KY a)
abbrev dX a:=CO (MX a)
abbrev CK a:=UI (KY a)
abbrev SH a:=VW (KY a)
abbrev Kl a:=He (KY a)
abbrev AYO a:=xD a 1 1
abbrev YM:=AYO Ea
abbrev wA a:=AVZ a 1
abbrev Jb a:=BO (GV a)
abbrev Ot a:=BO (QD a)
abbrev UX:=DR 1
abbrev RZ a:=FI (EH a)
abbrev BHH a b c:=pkM (GPk.mk (CG a) (RZ a) b (Jb c))
abbrev vX a b:=BHH a (Ot b) b
abbrev tO a b:=CG (vX a b)
abbrev pE a b:=NF (tO a b)
abbrev oC a:=OD a 0
abbrev qY a b:=uO (oC a) b
abbrev ATD a b c d:=AR a a b c d
abbrev BOX a b c:=ATD a b b c
abbrev wR a:=BO (CK a)
abbrev Oy a b c:=BHH a (wR b) c
abbrev AGZ a:=GZ (EH a)
abbrev mZ a b c:=APE (GV a) (AGZ b) c
abbrev oA a:=Il (CH a)
abbrev P0 a:=FI (oA a)
abbrev BPU a b c d e f:=BQQ a b c c d e f
attribute [go_sem] FH EH AIK XG UI RI VW QN APU sA BFZ BFR KY GV CFI KJ Hg BMW Kp ANR ZD AEN eF Df BBV Pd R8 Cx Kb yC gU He xF KA Nu Ra Ef YB YL AEW Sm jP xP uU zU yX Ty Ri pS ABH QD AXA BCT hJ Ip FN MX dX CK SH Kl AYO YM wA Jb Ot UX RZ BHH vX tO pE oC qY ATD BOX wR Oy AGZ mZ oA P0 BPU
theorem CSB(g:List Gau):(CMF g)=(Sa (zF g) (lG g) (qY (gU g) (BOX (HE (Kb g)) (HE (eF g)) (eR (Hg g) g))) (Ir (WX (xS (And (Az g) (AIJ BB (BQ g) (AP g) AF AN AF AN)) (Gg g)) (Ep (λi=>WU (Gg g) 0 (CH g) (Sx 1 YM 8) (EI (λj=>Je (OS (Az g) (AJ j 0) g (BPU (AP g) AF AN AF (PI j) (AG (λk=>HJ k j (AI k 0))))) (Nu g 1 j (XU j g)) (CH g) j (WR g))) zA)) (λi=>WU (Nu g 1 i (XU i g)) i (CH g) (U5 (wA i) YM i 8) (EI (λj=>EO (OS (Az g) (AJ j i) g (BPU (AP g) AF AN AF (QM j i) (AG (λk=>HJ k j (MM k (EF k i (BO k) (BO i))))))) (Nu g 1 j (XU j g)) (CH g) j i)) (xS (XY g (BPU (AP g) AF AN AF (OD (oA g) i) (AG (λj=>KC j (oA g) (BO j))))) (Gg g)))) (LZ (Gg g) (And (BK AF (EA (oA g)) (EA (oA g)) (CM (oA g)) (AY g) (BJ g) (OW g) (VG g) (Or (And (qT (GZ (P0 g))) (glOk (GL.mk (CG g) (P0 g) 0 0))) (GP 20 (GZ (P0 g)) (gaOk (CG g) (P0 g))))) (xS (rX (BQ g) (AP g) AF AN AN (BC (EH g) (oA g)) (Tt (AQ (GZ (oA g))) (P0 g)) (AG (λi=>yC i (EH g) (stM (Lc (CG g)) (P0 g)) i))) (Gg g))) (lN (Gg g) (BD (Wg (FJ 2000)) (AIK (λi=>AR (EN (Hk AN (BO (XG i)) 0 (AIJ (BX (UI i)) (BQ g) (AP g) AF AN (Ri g) (rX (Ty g) AF AN AF (yX i Ab) (zU i Ab) (uU i Ab) (xP i Ab))))) (Ra g i i (YB (UI i) g (He i) (XG i) (Sm i i) i (λj=>YL g i j g g g j))) (ACG (VW i) aX) (Xu (QN i)) (APU (FS.k i) sA))) (BFZ (λi=>WU (BD (Ra g i i (YB (UI i) g (He i) (XG i) (Sm i i) i (λj=>YL g i j g g g j))) (ACG (VW i) aX) (Xu (QN i)) (APU (FS.k i) sA)) (UI i) (AGZ g) (BFR (λj=>AR (AR AF AN (AI (QD j) (XG i)) (pS (CK j) i) (AIJ (pS (GV j) i) (BQ g) (AP g) AF AN (Ri g) (rX (Ty g) AF AN AF (Cz (FN j) (RI i)) (Dr (FN j) (RI i)) (Dz (FN j) (RI i)) (Dj (FN j) (RI i))))) (HF (Nu g (QD j) (CK j) (YB (CK j) g (Kl j) (QD j) (LB (MX j) (Kl j)) (KY j) (λk=>YL g (KY j) k g g g k))) (DU (KA g (KY j)) (KA g i)) (Ki (CK j) g) (FF (CK j) (GV j)) (GV j) (CH g) (DU (Kw g (EH g) (CK j)) (R2 g (EH g) (CK j) (RG g (GV j)) (GV j)))) (ACG (SH j) aX) (Xu (MX j)) (APU (FS.k (KY j)) sA))) (CFI (λj=>LZ (BD (HF (Nu g (QD j) (CK j) (YB (CK j) g (Kl j) (QD j) (LB (MX j) (Kl j)) (KY j) (λk=>YL g (KY j) k g g g k))) (DU (KA g (KY j)) (KA g i)) (Ki (CK j) g) (FF (CK j) (GV j)) (GV j) (CH g) (DU (Kw g (EH g) (CK j)) (R2 g (EH g) (CK j) (RG g (GV j)) (GV j)))) (ACG (SH j) aX) (Xu (MX j)) (APU (FS.k (KY j)) sA)) (BD (mZ j g (JL (GV j) (EH g))) (mZ j g (VA (EH g) (GV j) g)) (mZ j g (JL (CK j) (EH g))) (mZ j g (VA (EH g) (CK j) g))) (HZ (EP (Gh (GV j) (AGZ g)) (VS (Te g (EH g) (GV j)) (Te g (EH g) (CK j)))) (BFR (λk=>EO (AR AF AN (AI (QD k) (QD j)) (AI (CK k) (CK j)) (AIJ (AJ (GV k) (GV j)) (BQ g) (AP g) AF AN (Ri g) (rX (Ty g) AF AN AF (Cz (FN k) (FN j)) (Dr (FN k) (FN j)) (Dz (FN k) (FN j)) (Dj (FN k) (FN j))))) (BD (HF (Nu g (QD k) (CK k) (YB (CK k) g (Kl k) (QD k) (LB (MX k) (Kl k)) (KY k) (λl=>YL g (KY k) l g g g l))) (DU (KA g (KY k)) (KA g i)) (Ki (CK k) g) (FF (CK k) (GV k)) (GV k) (CH g) (DU (Kw g (EH g) (CK k)) (R2 g (EH g) (CK k) (RG g (GV k)) (GV k)))) (ACG (SH k) aX) (Xu (MX k)) (APU (FS.k (KY k)) sA)) (CH g) (GV k) (GV j))) (TC (AIA (wR j) (Jb j) (AR (EA (EH g)) (CM (EH g)) (AY g) (BJ g) (DO (BC (EH g) (RZ g)) (BR (EH g) (RZ g)) (OW g) (VG g) (And (AEB (FJ (wR j)) (wR j) (Jb j) (NP (RZ g)) (MB (RZ g))) (EL (λk=>PY (ATO k (RZ g)) (Gf k (CG g))))) (AY (Oy g j j)) (λk=>UA k (CG (Oy g j j)) (Oy g j j)) (HV (Oy g j j)) (Sn (Oy g j j))))) (To (Oy g j j)) (qY (gU g) (BOX (HE (Kb g)) (HE (eF g)) (BM (Hg g) 6))) (TC (AIA (Ot j) (Jb j) (AR (EA (EH g)) (CM (EH g)) (AY g) (BJ g) (DO (BC (EH g) (RZ g)) (BR (EH g) (RZ g)) (OW g) (VG g) (And (AEB (FJ (Ot j)) (Ot j) (Jb j) (NP (RZ g)) (MB (RZ g))) (EL (λk=>PY (ATO k (RZ g)) (Gf k (CG g))))) (AY (vX g j)) (λk=>UA k (tO g j) (vX g j)) (HV (vX g j)) (Pb (tO g j))))) (Yo (tO g j)) (AIK (λk=>IB (EN (Hk AN (BO (XG k)) (Ot j) (AIJ (AI (UI k) (GV j)) (BQ g) (AP g) AF AN (Ri g) (rX (Ty g) AF AN AF (yX k (pE g j)) (zU k (pE g j)) (uU k (pE g j)) (xP k (pE g j)))))) (BD (Ra g k k (YB (UI k) g (He k) (XG k) (Sm k k) k (λl=>YL g k l g g g l))) (ACG (VW k) aX) (Xu (QN k)) (APU (FS.k k) sA)) (KA g k) (KA g i))) (Sg (JL (CK j) (EH g)) (VA (EH g) (CK j) g) (Sx 1 YM 8) De (And (AO (AO (FJ (Ot j)) (KO (Ot j) (Jb j)) (gY (Jb j) (EH g))) (AY g) (BK (BJ g) (OD (hJ j j g j) (BCT j j)) (AG (λk=>M0 k (hJ j j g j) (EH g) (AXA j k))) (And (And (HV g) (MB (hJ j j g j))) (Sn g)) (Xk 1) YM Xg (Nq 9223372036854775807) (tW 24))) (AIK (λk=>BD (ABH AF (Ef k 1) (AI (UI k) (CK j)) (BQ g) (AP g) AN (Qa AN (Ri g) (Ty g) AF (mT (VW k)) (AEW k 1) (yX k (FN j)) (UQ (zU k (FN j)) (uU k (FN j)) (xP k (FN j)) (mT (VW k)) (AG (λl=>KC l (VW k) (Te g (EH g) (CK j)))) (AEW k 1) (λl=>AQM l (Pd k) (QN k) (FN j)) (Ef k 1) (λl=>Kp l (Df k) (ZD k l) (Vp (GK.mk (CG g) (hJ j j g j))))))) (Ra g k k (YB (UI k) g (He k) (XG k) (Sm k k) k (λl=>YL g k l g g g l))) (DU (XG k) (UI k)) (FC (KA g k) (KA g i))))) (BFZ (λk=>PY (IB (Ra g k k (YB (UI k) g (He k) (XG k) (Sm k k) k (λl=>YL g k l g g g l))) (DU (XG k) (UI k)) (KA g k) (KA g i)) (AIK (λl=>IB (EN (jP (Ef l (Df k)) (pS (XG l) k) (pS (UI l) k) (BQ g) (AP g) AF AN (Qa AN (Ri g) (Ty g) AF (xF (VW l) k) (Hf (QN l) (QN k)) (yX l (RI k)) (UQ (zU l (RI k)) (uU l (RI k)) (xP l (RI k)) (xF (VW l) k) (BR (VW l) (VW k)) (Hf (QN l) (QN k)) (λm=>Sy m (Pd l) (QN l) (QN k)) (Ef l (Df k)) (λm=>Kp m (Df l) (ZD l m) (ZD k m)))))) (Ra g l l (YB (UI l) g (He l) (XG l) (Sm l l) l (λm=>YL g l m g g g m))) (KA g l) (KA g i))))))))))) (AHI De (oC (gU g)) (oC (gU g)) (PI (Kb g)) Ea (AG (λj=>dB j (Kb g) (Cx g j) (MG (RI i)) (tU (QT (Cx g j)) (QT (RI i)) (Cx g j) (RI i) (SJ (Cx g j)) (SJ (RI i))))) (HE (eF g)) (CL (Hg g))))) (BFZ (λi=>WU (Ra g i i (YB (UI i) g (He i) (XG i) (Sm i i) i (λj=>YL g i j g g g j))) (UI i) (AGZ g) (BFR (λj=>AO (dH (Ef (KY j) (Df i)) (jP (AI (QD j) (XG i)) (pS (CK j) i) (pS (GV j) i) (BQ g) (AP g) AF AN (Qa AN (Ri g) (Ty g) AF (xF (SH j) i) (Hf (MX j) (QN i)) (Cz (FN j) (RI i)) (UQ (Dr (FN j) (RI i)) (Dz (FN j) (RI i)) (Dj (FN j) (RI i)) (xF (SH j) i) (BR (SH j) (VW i)) (Hf (MX j) (QN i)) (λk=>Sy k (dX j) (MX j) (QN i)) (Ef (KY j) (Df i)) (λk=>Kp k (Ip j) (ZD (KY j) k) (ZD i k)))))) (Nu g (QD j) (CK j) (YB (CK j) g (Kl j) (QD j) (LB (MX j) (Kl j)) (KY j) (λk=>YL g (KY j) k g g g k))) (FE (DU (KA g (KY j)) (KA g i)) (Ki (CK j) g) (FF (CK j) (GV j)) (GV j) (CH g) (DU (Kw g (EH g) (CK j)) (R2 g (EH g) (CK j) (RG g (GV j)) (GV j)))))) (CFI (λj=>LZ (HF (Nu g (QD j) (CK j) (YB (CK j) g (Kl j) (QD j) (LB (MX j) (Kl j)) (KY j) (λk=>YL g (KY j) k g g g k))) (DU (KA g (KY j)) (KA g i)) (Ki (CK j) g) (FF (CK j) (GV j)) (GV j) (CH g) (DU (Kw g (EH g) (CK j)) (R2 g (EH g) (CK j) (RG g (GV j)) (GV j)))) (BD (mZ j g (JL (GV j) (EH g))) (mZ j g (VA (EH g) (GV j) g)) (mZ j g (JL (CK j) (EH g))) (mZ j g (VA (EH g) (CK j) g))) (HZ (EP (Gh (GV j) (AGZ g)) (VS (Te g (EH g) (GV j)) (Te g (EH g) (CK j)))) (BFR (λk=>EO (dH (Ef (KY k) (Ip j)) (jP (AI (QD k) (QD j)) (AI (CK k) (CK j)) (AJ (GV k) (GV j)) (BQ g) (AP g) AF AN (Qa AN (Ri g) (Ty g) AF (BC (SH k) (SH j)) (Hf (MX k) (MX j)) (Cz (FN k) (FN j)) (UQ (Dr (FN k) (FN j)) (Dz (FN k) (FN j)) (Dj (FN k) (FN j)) (BC (SH k) (SH j)) (BR (SH k) (SH j)) (Hf (MX k) (MX j)) (λl=>Sy l (dX k) (MX k) (MX j)) (Ef (KY k) (Ip j)) (λl=>Kp l (Ip k) (ZD (KY k) l) (ZD (KY j) l)))))) (HF (Nu g (QD k) (CK k) (YB (CK k) g (Kl k) (QD k) (LB (MX k) (Kl k)) (KY k) (λl=>YL g (KY k) l g g g l))) (DU (KA g (KY k)) (KA g i)) (Ki (CK k) g) (FF (CK k) (GV k)) (GV k) (CH g) (DU (Kw g (EH g) (CK k)) (R2 g (EH g) (CK k) (RG g (GV k)) (GV k)))) (CH g) (GV k) (GV j))) (TC (AIA (wR j) (Jb j) (AR (EA (EH g)) (CM (EH g)) (AY g) (BJ g) (DO (BC (EH g) (RZ g)) (BR (EH g) (RZ g)) (OW g) (VG g) (And (AEB (FJ (wR j)) (wR j) (Jb j) (NP (RZ g)) (MB (RZ g))) (EL (λk=>PY (ATO k (RZ g)) (Gf k (CG g))))) (AY (Oy g j j)) (λk=>UA k (CG (Oy g j j)) (Oy g j j)) (HV (Oy g j j)) (Sn (Oy g j j))))) (To (Oy g j j)) (qY (gU g) (BOX (HE (Kb g)) (HE (eF g)) (BM (Hg g) 6))) (TC (AIA (Ot j) (Jb j) (AR (EA (EH g)) (CM (EH g)) (AY g) (BJ g) (DO (BC (EH g) (RZ g)) (BR (EH g) (RZ g)) (OW g) (VG g) (And (AEB (FJ (Ot j)) (Ot j) (Jb j) (NP (RZ g)) (MB (RZ g))) (EL (λk=>PY (ATO k (RZ g)) (Gf k (CG g))))) (AY (vX g j)) (λk=>UA k (tO g j) (vX g j)) (HV (vX g j)) (Pb (tO g j))))) (Yo (tO g j)) (AIK (λk=>IB (EN (jP (Ef k (Ip j)) (AI (XG k) (QD j)) (AI (UI k) (GV j)) (BQ g) (AP g) AF AN (Qa AN (Ri g) (Ty g) AF (BC (VW k) (SH j)) (Hf (QN k) (MX j)) (yX k (pE g j)) (UQ (zU k (pE g j)) (uU k (pE g j)) (xP k (pE g j)) (BC (VW k) (SH j)) (BR (VW k) (SH j)) (Hf (QN k) (MX j)) (λl=>Sy l (Pd k) (QN k) (MX j)) (Ef k (Ip j)) (λl=>Kp l (Df k) (ZD k l) (ZD (KY j) l)))))) (Ra g k k (YB (UI k) g (He k) (XG k) (Sm k k) k (λl=>YL g k l g g g l))) (KA g k) (KA g i))) (Sg (JL (CK j) (EH g)) (VA (EH g) (CK j) g) (eV (And (IW (SH j)) (sL 0 (SH j) UX)) YM (ZT (SH j)) 8) (ADZ (dX j)) (And (AO (AO (FJ (Ot j)) (KO (Ot j) (Jb j)) (gY (Jb j) (EH g))) (AY g) (BK (BJ g) (OD (hJ j j g j) (BCT j j)) (AG (λk=>M0 k (hJ j j g j) (EH g) (AXA j k))) (And (And (HV g) (MB (hJ j j g j))) (Sn g)) (wA (Ip j)) YM Ws (FF (CN (Ip j)) 9223372036854775807) (tW (vK (CN (Ip j)))))) (AIK (λk=>BD (ABH AF (Ef k (CN (Ip j))) (AI (UI k) (CK j)) (BQ g) (AP g) AN (Qa AN (Ri g) (Ty g) AF (OD (VW k) (ZT (SH j))) (AEW k (CN (dX j))) (yX k (FN j)) (UQ (zU k (FN j)) (uU k (FN j)) (xP k (FN j)) (OD (VW k) (ZT (SH j))) (AG (λl=>KC l (VW k) (EF l (Kl j) (KL (SH j) l) (Te g (EH g) (CK j))))) (AEW k (CN (dX j))) (λl=>OU l (Pd k) (QN k) (EF l (dX j) (GQ (MX j) l) (MG (FN j))) (EF l (dX j) (LO (MX j) l) (QT (FN j))) (EF l (dX j) (IV (MX j) l) (RU (FN j))) (EF l (dX j) (OE (MX j) l) (SJ (FN j)))) (Ef k (CN (Ip j))) (λl=>Ku l (Df k) (OD (ZD k l) (H4 (ANN l (Ip j)) (GZ (ZD (KY j) l)) (GZ (Vp (GK.mk (CG g) (hJ j j g j)))))) (AG (λm=>KC m (ZD k l) (EF l (Ip j) (KL (ZD (KY j) l) m) (KL (Vp (GK.mk (CG g) (hJ j j g j))) m)))))))) (Ra g k k (YB (UI k) g (He k) (XG k) (Sm k k) k (λl=>YL g k l g g g l))) (DU (XG k) (UI k)) (FC (KA g k) (KA g i))))) (BFZ (λk=>PY (IB (Ra g k k (YB (UI k) g (He k) (XG k) (Sm k k) k (λl=>YL g k l g g g l))) (DU (XG k) (UI k)) (KA g k) (KA g i)) (AIK (λl=>IB (EN (jP (Ef l (Df k)) (pS (XG l) k) (pS (UI l) k) (BQ g) (AP g) AF AN (Qa AN (Ri g) (Ty g) AF (xF (VW l) k) (Hf (QN l) (QN k)) (yX l (RI k)) (UQ (zU l (RI k)) (uU l (RI k)) (xP l (RI k)) (xF (VW l) k) (BR (VW l) (VW k)) (Hf (QN l) (QN k)) (λm=>Sy m (Pd l) (QN l) (QN k)) (Ef l (Df k)) (λm=>Kp m (Df l) (ZD l m) (ZD k m)))))) (Ra g l l (YB (UI l) g (He l) (XG l) (Sm l l) l (λm=>YL g l m g g g m))) (KA g l) (KA g i))))))))))) (AO (ADZ (Pd i)) (xF (gU g) i) (BK (tT (He i)) (AG (λj=>yC j (gU g) (VW i) j)) (QM (Kb g) (Pd i)) (tT (CN (Pd i))) (AG (λj=>dB j (Kb g) (Cx g j) (EF (AQ j) (Pd i) (Qq (QN i) j) (MG (RI i))) (AEX (Cx g j) (EF (AQ j) (Pd i) (YO (QN i) j) (QT (RI i))) (EF (AQ j) (Pd i) (wT (QN i) j) (RU (RI i))) (SJ (Cx g j)) (EF (AQ j) (Pd i) (BBV (QN i) j) (SJ (RI i)))))) (DU (eF g) (Df i)) (tT (Df i)) (AG (λj=>ANR j (eF g) (AEN g) j (ZD i (AQ j)))) (CL (Hg g))))))))))):=by kernel_rfl
theorem UK(n:Nat):(Il n).length=n:=by simp[Il]
theorem ADW{n i:Nat}(h:i<n):gD (Il n) i=i:=by simp[Il,gD,List.getD_eq_getElem?_getD,h]
theorem ALY(g:List Gau):(AM g).Perm (Il g.length):=AAC _ _
theorem BW(g:List Gau):(AM g).length=g.length:=by rw[(ALY g).length_eq,UK]
theorem D9{g:List Gau}{x:Int}(h:x∈AM g):0<=x/\x<g.length:=by
 have:=(ALY g).mem_iff.1 h
 unfold Il at this
 obtain⟨i,hi,rfl⟩:=List.mem_map.1 this
 have:=List.mem_range.1 hi
 exact⟨Int.natCast_nonneg _,Int.ofNat_lt.2 this⟩
theorem Ug{g:List Gau}{i:Nat}(h:i<g.length):0<=gD (AM g) i/\gD (AM g) i<g.length:=D9 (BU (by rw[BW];exact h))
theorem BOD{l:List Int}{a b:Nat}(h:b<=l.length):(HA (b-a) λi=>gD l (a+i))=(l.take b).drop a:=by
 apply BMI
 ·rw[rng_length,List.length_drop,List.length_take];omega
 ·intro i hi
  rw[rng_length] at hi
  rw[DC _ _ _ hi,Pp]
  simp[gD,List.getD_eq_getElem?_getD,List.getElem?_take,show a+i<b by omega]
theorem BOW{g:List Gau}(hc:AL g=0)(a b:Int):(pkM ⟨g,AM g,a,b⟩).length<1073741824/\∀x∈pkM ⟨g,AM g,a,b⟩,IT x:=by
 obtain⟨⟨h1,h2⟩,h3⟩:=JU hc
 refine⟨?_,λx hx=>?_⟩
 ·unfold pkM Vr;rw[List.length_map,List.length_drop,List.length_take,BW];omega
 ·unfold pkM at hx
  obtain⟨i,hi,rfl⟩:=List.mem_map.1 hx
  have:=D9 (BPZ hi)
  exact h3 _ (BU (by omega))
theorem CBL{g:List Gau}{o:List Int}{t:Nat}:∀(n k:Nat),k<=R2 g o t n k/\R2 g o t n k<=k+n
 |0,k=>⟨Nat.le_refl _,Nat.le_refl _⟩
 |n+1,k=>by
  unfold R2
  cases LM g (gD o k)==LM g (gD o t)
  ·exact⟨Nat.le_refl _,by show k<=_;omega⟩
  ·have:=CBL (g:=g) (o:=o) (t:=t) n (k+1);show k<=R2 g o t n (k+1)/\R2 g o t n (k+1)<=_;omega
theorem AAI{g:List Gau}{t:Nat}(h:t<g.length):t<Kw g (AM g) t/\Kw g (AM g) t<=g.length:=by
 unfold Kw
 rw[BW]
 obtain⟨n,hn⟩:∃n,g.length-t=n+1:=⟨g.length-t-1,by omega⟩
 rw[hn];unfold R2
 rw[show (LM g (gD (AM g) t)==LM g (gD (AM g) t))=true by simp]
 have:=CBL (g:=g) (o:=AM g) (t:=t) n (t+1)
 show t<R2 g (AM g) t n (t+1)/\R2 g (AM g) t n (t+1)<=_
 omega
theorem zH{g:List Gau}:∀(m n:Nat) (s:FS),s.fr<=s.to->s.to<=g.length->sF (AM g) s+1<=m->sF (AM g) s+1<=n->Qi g (AM g) m s=Qi g (AM g) n s
 |0,_,_,_,_,h,_=>by omega
 |m+1,0,_,_,_,_,h=>by omega
 |m+1,n+1,s,h0,h1,h2,h3=>by
  unfold Qi
  by_cases hl:s.to<(AM g).length
  ·rw[decide_eq_true hl]
   rw[BW] at hl
   have hx:=AAI hl
   unfold sF at h2 h3
   rw[BW] at h2 h3
   cases hq:(EV (L7 g (AM g) s.to (Kw g (AM g) s.to))).2
   ·rfl
   ·cases hr:(EV (L7 g (AM g) s.fr (Kw g (AM g) s.to))).2
    ·have hne:s.fr≠s.to:=λhe=>by rw[he,hq] at hr;cases hr
     rw[if_pos (by omega)] at h2 h3
     refine zH m n (zQ g (AM g) s) (Nat.le_refl _) h1 ?_ ?_<;>(unfold sF zQ;rw[BW];simp only[Nat.lt_irrefl,if_false];omega)
    ·refine zH m n (goF g (AM g) s) (by show s.fr<=Kw _ _ _;omega) hx.2 ?_ ?_<;>(unfold sF goF;rw[BW];simp only[];split at h2<;>split<;>omega)
  ·rw[decide_eq_false hl];rfl
theorem BJZ(g:List Gau)(o:List Int)(n:Nat)(s:FS):Qi g o (n+1) s=bif decide (s.to<o.length) then (bif (EV (L7 g o s.to (Kw g o s.to))).2 then (bif (EV (L7 g o s.fr (Kw g o s.to))).2 then Qi g o n (goF g o s) else Qi g o n (zQ g o s)) else⟨⟨[],[]⟩,[],6⟩) else⟨⟨s.b,s.l ++ [s.ln]⟩,s.k,0⟩:=rfl
theorem CNG{g:List Gau}{s:FS}(h:invF g s)(ht:¬s.to<g.length):FT g=⟨⟨s.b,s.l ++ [s.ln]⟩,s.k,0⟩:=by
 rw[h.2.2.2.2.2.2 _ (Nat.le_refl _)];unfold Qi;rw[decide_eq_false (by rw[BW];exact ht)];rfl
theorem CNS{g:List Gau}{s:FS}(h:invF g s)(ht:s.to<g.length)(hq:(EV (L7 g (AM g) s.to (Kw g (AM g) s.to))).2=false):FT g=⟨⟨[],[]⟩,[],6⟩:=by
 rw[h.2.2.2.2.2.2 _ (Nat.le_refl _)];unfold Qi;rw[decide_eq_true (by rw[BW];exact ht),hq];rfl
theorem F_go{g:List Gau}{s:FS}(h:invF g s)(ht:s.to<g.length)(hq:(EV (L7 g (AM g) s.to (Kw g (AM g) s.to))).2=true)(hr:(EV (L7 g (AM g) s.fr (Kw g (AM g) s.to))).2=true):invF g (goF g (AM g) s)/\sF (AM g) (goF g (AM g) s)<sF (AM g) s:=by
 obtain⟨h1,h2,h3,h4,h5,h6,h7⟩:=h
 have hx:=AAI ht
 have hm:sF (AM g) (goF g (AM g) s)<sF (AM g) s:=by unfold sF goF;rw[BW];simp only[];split<;>split<;>omega
 refine⟨⟨h1,by show s.fr<=Kw _ _ _;omega,hx.2,h4,h5,h6,λm hm2=>?_⟩,hm⟩
 rw[h7 (sF (AM g) s+1) (Nat.le_refl _),BJZ,decide_eq_true (by rw[BW];exact ht),hq,hr]
 exact zH (sF (AM g) s) m (goF g (AM g) s) (by show s.fr<=Kw _ _ _;omega) hx.2 hm hm2
theorem CQY{g:List Gau}{s:FS}(h:invF g s)(ht:s.to<g.length)(hq:(EV (L7 g (AM g) s.to (Kw g (AM g) s.to))).2=true)(hr:(EV (L7 g (AM g) s.fr (Kw g (AM g) s.to))).2=false):invF g (zQ g (AM g) s)/\sF (AM g) (zQ g (AM g) s)<sF (AM g) s:=by
 obtain⟨h1,h2,h3,h4,h5,h6,h7⟩:=h
 have hx:=AAI ht
 have hne:s.fr≠s.to:=λhe=>by rw[he,hq] at hr;cases hr
 have hm:sF (AM g) (zQ g (AM g) s)<sF (AM g) s:=by unfold sF zQ;rw[BW];simp only[Nat.lt_irrefl,if_false];rw[if_pos (by omega)];omega
 refine⟨⟨h1,Nat.le_refl _,h3,by show (s.b ++ [_]).length<=s.to;simp;omega,by show (s.l ++ [_]).length=(s.b ++ [_]).length;simp;omega,by show (s.k ++ [_]).length=(s.b ++ [_]).length;simp;omega,λm hm2=>?_⟩,hm⟩
 rw[h7 (sF (AM g) s+1) (Nat.le_refl _),BJZ,decide_eq_true (by rw[BW];exact ht),hq,hr]
 exact zH (sF (AM g) s) m (zQ g (AM g) s) (Nat.le_refl _) h3 hm hm2
theorem BPV{g:List Gau}{t n:Nat}(hn:n<g.length)(h:LM g (gD (AM g) n)=LM g (gD (AM g) t)):R2 g (AM g) t (g.length-n) n=R2 g (AM g) t (g.length-(n+1)) (n+1):=by
 obtain⟨m,hm⟩:∃m,g.length-n=m+1:=⟨g.length-n-1,by omega⟩
 rw[hm,show g.length-(n+1)=m by omega]
 conv=>lhs;unfold R2
 rw[show (LM g (gD (AM g) n)==LM g (gD (AM g) t))=true by rw[h];simp];rfl
theorem BTU{g:List Gau}{t n:Nat}(hn:n<=g.length)(h:(bif decide (n<g.length) then LM g (gD (AM g) n)==LM g (gD (AM g) t) else false)=false):R2 g (AM g) t (g.length-n) n=n:=by
 by_cases hl:n<g.length
 ·rw[decide_eq_true hl] at h
  have h:(LM g (gD (AM g) n)==LM g (gD (AM g) t))=false:=h
  obtain⟨m,hm⟩:∃m,g.length-n=m+1:=⟨g.length-n-1,by omega⟩
  rw[hm];unfold R2;rw[h];rfl
 ·rw[show g.length-n=0 by omega];rfl
theorem COX{g:List Gau}{t n:Nat}(h:(bif decide (n<g.length) then LM g (gD (AM g) n)==LM g (gD (AM g) t) else false)=true):n<g.length/\LM g (gD (AM g) n)=LM g (gD (AM g) t):=by
 cases hd:decide (n<g.length) with
 |false=>rw[hd] at h;cases h
 |true=>rw[hd] at h;exact⟨of_decide_eq_true hd,by simpa using h⟩
theorem CBH(l:List Int)(p:Int)(i:Nat)(hi:i<(l ++ [p]).length):gD (l ++ [p]) i=bif decide (i<l.length) then gD l i else p:=D8 _ _ (by simpa using hi)
theorem CJB{g:List Gau}(h:gSm g=true)(hl:¬g.length<20):∀n i:Nat,i+n<g.length->(gD g i).st<=(gD g (i+n)).st:=by
 unfold gSm at h
 rw[decide_eq_false hl,Bool.false_or,List.all_eq_true] at h
 intro n
 induction n with
 |zero=>intro i _;exact Int.le_refl _
 |succ n ih=>
  intro i hi
  have h1:=ih i (by omega)
  have h2:=of_decide_eq_true (h (i+(n+1)) (List.mem_range.2 hi))
  rw[show i+(n+1)-1=i+n by omega] at h2
  omega
theorem CSA{g:List Gau}(h:g.length<=24)(hs:gSm g=true):glSm ⟨g,Il g.length,0,0⟩:=by
 have hi:∀i,i<(Il g.length).length->0<=gD (Il g.length) i/\gD (Il g.length) i<g.length:=λi hi=>by
  rw[UK] at hi;rw[ADW hi];omega
 by_cases hl:g.length<20
 ·exact .inl ⟨by show (Il g.length).length<20;rw[UK];exact hl,by show (Il g.length).length<_;rw[UK];omega,hi⟩
 ·refine .inr ⟨by show 20<=(Il g.length).length;rw[UK];omega,by show (Il g.length).length<=24;rw[UK];exact h,hi,λi j h1 h2=>?_⟩
  rw[UK] at h2
  have:=CJB hs hl (j-i) i (by omega)
  rw[show i+(j-i)=j by omega] at this
  unfold LM
  rw[ADW h2,ADW (show i<g.length by omega),Int.toNat_natCast,Int.toNat_natCast]
  exact Int.not_lt.2 this
theorem DAY(g:List Gau)(hg:g.length<1073741824)(hs:gSm g=true):CMF g:=by
 rw[CSB]<;> dsimp only[go_sem];simp only[CC,CU,Int.ofNat_lt]
 have zz:∀n,FT g=⟨⟨[],[]⟩,[],n⟩->(FT g).r.b.length=0/\(FT g).r.b.length=0/\(FT g).r.l.length=0/\(FT g).r.l.length=0/\(FT g).k.length=0/\(FT g).k.length=0/\(FT g).e=n:=λn h=>by rw[h];exact⟨rfl,rfl,rfl,rfl,rfl,rfl,rfl⟩
 refine⟨by omega,λhe=>?_,λhe=>?_⟩
 ·refine zz _ ?_
  unfold FT;rw[show (AL g==0)=false by simpa using he];rfl
 ·have hc:AL g=0:=by simpa using he
  have hck:=JU hc
  refine⟨⟨⟨default,hc⟩,λ_=>⟨λh0=>⟨⟨by omega,by omega,by omega,by omega,by omega⟩,1,⟨(BF (a:=0) (by omega)).symm,rfl,rfl,λi hi=>by rw[show i=0 by omega]⟩,⟨hc,by omega,by omega⟩,by omega⟩,λh0=>by omega⟩,λk ⟨_,k1,k2⟩=>⟨λhlt=>⟨⟨by omega,λh=>(by cases h),by omega,by omega⟩,k+1,⟨(BF (by omega)).symm,rfl,rfl,λi hi=>?_⟩,⟨hc,by omega,by omega⟩,by omega⟩,λhge=>⟨default,⟨?_,?_,λi hi=>?_⟩,hc⟩⟩⟩,λ_=>⟨⟨CSA hck.1.2 hs,default,⟨?_,Nat.le_refl _,λ_ _=>rfl⟩,hc⟩,λ_=>⟨⟨by omega,by omega⟩,⟨ini0,⟨rfl,rfl,rfl,rfl,rfl,rfl⟩,⟨hc,Nat.le_refl _,Nat.zero_le _,Nat.le_refl _,rfl,rfl,λm hm=>?_⟩,rfl,rfl,rfl⟩,λs hs=>?_,λs hs=>?_⟩⟩⟩
  ·by_cases h:i<k
   ·rw[decide_eq_true h];rfl
   ·rw[decide_eq_false h,show i=k by omega];rfl
  ·rw[UK];omega
  ·rw[UK];omega
  ·rw[UK] at hi;exact ADW hi
  ·rw[BW,UK]
  ·unfold FT;rw[show (AL g==0)=true by rw[hc];rfl]
   exact zH _ _ _ (Nat.le_refl _) (Nat.zero_le _) (by unfold sF ini0;rw[BW];simp) hm
  ·obtain⟨hI,hb,hl,hk⟩:invF g s/\s.b=[]/\s.l=[]/\s.k=[]:=hs
   refine⟨λht=>?_,λht=>?_⟩
   ·have ht:s.to<g.length:=by rw[BW] at ht;exact ht
    refine⟨⟨⟨s,s.to⟩,⟨rfl,rfl,rfl,rfl,rfl,rfl,rfl⟩,⟨hI,rfl,ht,Nat.le_refl _,Nat.le_of_lt ht,?_⟩,hb,hl,hk⟩,λx hx=>?_⟩
    ·unfold Kw;rw[BW]
    ·obtain⟨⟨xI,x1,x2,x3,x4,x5⟩,xb,xl,xk⟩:BTK g (sF (AM g) s) x/\x.s.b=[]/\x.s.l=[]/\x.s.k=[]:=hx
     refine⟨⟨λh=>⟨by omega,by omega⟩,λh=>Ug (by rw[BW] at h;exact h),λh=>⟨by omega,by rw[BW];omega⟩,λ_=>Ug x2⟩,λhq=>?_,λhq=>?_⟩
     ·rw[BW] at hq
      obtain⟨q1,q2⟩:=COX hq
      exact⟨⟨x.s,x.n+1⟩,⟨rfl,rfl,(BF (by omega)).symm,rfl,rfl,rfl,rfl⟩,⟨⟨xI,x1,x2,by show x.s.to<=x.n+1;omega,q1,x5.trans (BPV q1 q2)⟩,xb,xl,xk⟩,by show g.length-(x.n+1)<_;omega⟩
     ·rw[BW] at hq
      have hn:Kw g (AM g) x.s.to=x.n:=x5.trans (BTU x4 hq)
      have e1:pkM ⟨g,AM g,x.s.to,x.n⟩=L7 g (AM g) x.s.to (Kw g (AM g) x.s.to):=by rw[hn];rfl
      have e2:pkM ⟨g,AM g,x.s.fr,x.n⟩=L7 g (AM g) x.s.fr (Kw g (AM g) x.s.to):=by rw[hn];rfl
      have hfr:x.s.fr<=x.s.to:=xI.2.1
      have hbl:x.s.b.length<=x.s.fr:=xI.2.2.2.1
      have hll:x.s.l.length=x.s.b.length:=xI.2.2.2.2.1
      have hkl:x.s.k.length=x.s.b.length:=xI.2.2.2.2.2.1
      refine⟨⟨⟨⟨by omega,by omega,by rw[BW];omega,by rw[BW];omega⟩,λ_ h=>D9 h⟩,BOW hc _ _⟩,λhb1=>zz _ (CNS xI x2 (by rw[<-e1];exact hb1)),λhb1=>⟨⟨⟨⟨by omega,by omega,by rw[BW];omega,by rw[BW];omega⟩,λ_ h=>D9 h⟩,BOW hc _ _⟩,λhb2=>?_,λhb2=>?_⟩⟩
      ·obtain⟨f1,f2⟩:=F_go xI x2 (by rw[<-e1];exact hb1) (by rw[<-e2];exact hb2)
       exact⟨goF g (AM g) x.s,⟨rfl,by show ((Kw g (AM g) x.s.to:Nat):Int)=x.n;rw[hn],by rw[e2];rfl,by rw[e2];rfl,by rw[e2];rfl,by rw[e2];rfl⟩,⟨f1,xb,xl,xk⟩,by rw[<-x1];exact f2⟩
      ·obtain⟨f1,f2⟩:=CQY xI x2 (by rw[<-e1];exact hb1) (by rw[<-e2];exact hb2)
       have eB:zQ g (AM g) x.s=⟨x.s.to,x.s.to,x.s.ln,[LM g (gD (AM g) x.s.to)],[x.s.ln],[Vp ⟨g,((AM g).take x.n).drop x.s.fr⟩]⟩:=by unfold zQ;rw[xb,xl,xk,hn];rfl
       rw[eB] at f1 f2
       rw[BOD (by rw[BW];exact x4)]
       refine⟨⟨⟨by omega,by rw[BW];omega⟩,Ug x2,⟨by omega,by omega,by omega,by omega,by omega⟩,by omega,by omega,by omega,by omega,by omega⟩,⟨⟨⟨by omega,by omega,by rw[BW];omega⟩,λi hi=>?_,⟨⟨by omega,by omega⟩,hck.2⟩,by omega,by omega,by omega,by omega,by omega⟩,⟨x.s.to,x.s.to,x.s.ln,[LM g (gD (AM g) x.s.to)],[x.s.ln],[Vp ⟨g,((AM g).take x.n).drop x.s.fr⟩]⟩,⟨rfl,rfl,rfl,rfl,rfl,rfl,rfl,rfl,rfl,λi hi=>(by rw[show i=0 by have h1:i<1:=hi;omega];rfl),rfl,oneL _,rfl,λi hi=>(by rw[show i=0 by have h1:i<1:=hi;omega];exact⟨rfl,λ_ _=>rfl⟩)⟩,f1,rfl,by rw[<-x1];exact f2⟩,λy ⟨y1,y2,y3⟩=>⟨y,⟨rfl,by rw[y2],rfl,rfl,rfl,rfl,rfl,rfl,rfl,rfl,λ_ _=>rfl,rfl,λ_ _=>⟨rfl,rfl,rfl,rfl⟩,rfl,λ_ _=>⟨rfl,λ_ _=>rfl⟩⟩,y1,y3⟩⟩
       rw[Pp];simp[gD,List.getD_eq_getElem?_getD,List.getElem?_take,show x.s.fr+i<x.n by omega]
   ·rw[BW] at ht
    rw[CNG hI ht,hb,hl,hk]
    exact⟨⟨by omega,by omega,by omega,by omega,by omega⟩,rfl,rfl,rfl,by omega,oneL _,rfl,rfl,rfl⟩
  ·have hI:invF g s:=hs
   have hbl:s.b.length<=s.fr:=hI.2.2.2.1
   have hll:s.l.length=s.b.length:=hI.2.2.2.2.1
   have hkl:s.k.length=s.b.length:=hI.2.2.2.2.2.1
   have hfr:s.fr<=s.to:=hI.2.1
   have hto:s.to<=g.length:=hI.2.2.1
   refine⟨λht=>?_,λht=>?_⟩
   ·have ht:s.to<g.length:=by rw[BW] at ht;exact ht
    refine⟨⟨⟨s,s.to⟩,⟨rfl,rfl,rfl,rfl,rfl,rfl,rfl,rfl,rfl,rfl,rfl,λ_ _=>rfl,rfl,λ_ _=>⟨rfl,rfl,rfl,rfl⟩,rfl,λ_ _=>⟨rfl,λ_ _=>rfl⟩⟩,hI,rfl,ht,Nat.le_refl _,Nat.le_of_lt ht,?_⟩,λx hx=>?_⟩
    ·unfold Kw;rw[BW]
    ·obtain⟨xI,x1,x2,x3,x4,x5⟩:BTK g (sF (AM g) s) x:=hx
     refine⟨⟨λh=>⟨by omega,by omega⟩,λh=>Ug (by rw[BW] at h;exact h),λh=>⟨by omega,by rw[BW];omega⟩,λ_=>Ug x2⟩,λhq=>?_,λhq=>?_⟩
     ·rw[BW] at hq
      obtain⟨q1,q2⟩:=COX hq
      exact⟨⟨x.s,x.n+1⟩,⟨rfl,rfl,rfl,(BF (by omega)).symm,rfl,rfl,rfl,rfl,rfl,rfl,rfl,λ_ _=>rfl,rfl,λ_ _=>⟨rfl,rfl,rfl,rfl⟩,rfl,λ_ _=>⟨rfl,λ_ _=>rfl⟩⟩,⟨xI,x1,x2,by show x.s.to<=x.n+1;omega,q1,x5.trans (BPV q1 q2)⟩,by show g.length-(x.n+1)<_;omega⟩
     ·rw[BW] at hq
      have hn:Kw g (AM g) x.s.to=x.n:=x5.trans (BTU x4 hq)
      have e1:pkM ⟨g,AM g,x.s.to,x.n⟩=L7 g (AM g) x.s.to (Kw g (AM g) x.s.to):=by rw[hn];rfl
      have e2:pkM ⟨g,AM g,x.s.fr,x.n⟩=L7 g (AM g) x.s.fr (Kw g (AM g) x.s.to):=by rw[hn];rfl
      have hfr:x.s.fr<=x.s.to:=xI.2.1
      have hbl:x.s.b.length<=x.s.fr:=xI.2.2.2.1
      have hll:x.s.l.length=x.s.b.length:=xI.2.2.2.2.1
      have hkl:x.s.k.length=x.s.b.length:=xI.2.2.2.2.2.1
      refine⟨⟨⟨⟨by omega,by omega,by rw[BW];omega,by rw[BW];omega⟩,λ_ h=>D9 h⟩,BOW hc _ _⟩,λhb1=>zz _ (CNS xI x2 (by rw[<-e1];exact hb1)),λhb1=>⟨⟨⟨⟨by omega,by omega,by rw[BW];omega,by rw[BW];omega⟩,λ_ h=>D9 h⟩,BOW hc _ _⟩,λhb2=>?_,λhb2=>?_⟩⟩
      ·obtain⟨f1,f2⟩:=F_go xI x2 (by rw[<-e1];exact hb1) (by rw[<-e2];exact hb2)
       exact⟨goF g (AM g) x.s,⟨rfl,rfl,by show ((Kw g (AM g) x.s.to:Nat):Int)=x.n;rw[hn],rfl,rfl,by rw[e2];rfl,by rw[e2];rfl,by rw[e2];rfl,by rw[e2];rfl,rfl,λ_ _=>rfl,rfl,λ_ _=>⟨rfl,rfl,rfl,rfl⟩,rfl,λ_ _=>⟨rfl,λ_ _=>rfl⟩⟩,f1,by rw[<-x1];exact f2⟩
      ·obtain⟨f1,f2⟩:=CQY xI x2 (by rw[<-e1];exact hb1) (by rw[<-e2];exact hb2)
       have eB:zQ g (AM g) x.s=⟨x.s.to,x.s.to,x.s.ln,x.s.b ++ [LM g (gD (AM g) x.s.to)],x.s.l ++ [x.s.ln],x.s.k ++ [Vp ⟨g,((AM g).take x.n).drop x.s.fr⟩]⟩:=by unfold zQ;rw[hn]
       rw[eB] at f1 f2
       rw[BOD (by rw[BW];exact x4)]
       refine⟨⟨⟨by omega,by rw[BW];omega⟩,Ug x2,⟨by omega,λh=>(by cases h),by omega⟩,by omega,λh=>(by cases h),by omega⟩,⟨⟨⟨by omega,by omega,by rw[BW];omega⟩,λi hi=>?_,⟨⟨by omega,by omega⟩,hck.2⟩,by omega,λh=>(by cases h),by omega⟩,⟨x.s.to,x.s.to,x.s.ln,x.s.b ++ [LM g (gD (AM g) x.s.to)],x.s.l ++ [x.s.ln],x.s.k ++ [Vp ⟨g,((AM g).take x.n).drop x.s.fr⟩]⟩,⟨by simp,rfl,by simp,by simp,rfl,rfl,rfl,rfl,by simp,CBH _ _,by simp,BGX _ _,by simp,λi hi=>?_⟩,f1,rfl,by rw[<-x1];exact f2⟩,λy ⟨y1,y2,y3⟩=>⟨y,⟨rfl,by rw[y2],rfl,rfl,rfl,rfl,rfl,rfl,rfl,rfl,λ_ _=>rfl,rfl,λ_ _=>⟨rfl,rfl,rfl,rfl⟩,rfl,λ_ _=>⟨rfl,λ_ _=>rfl⟩⟩,y1,y3⟩⟩
       rw[Pp];simp[gD,List.getD_eq_getElem?_getD,List.getElem?_take,show x.s.fr+i<x.n by omega]
       rw[D8 _ _ (by simpa using hi)]
       cases decide (i<x.s.k.length)<;>exact⟨rfl,λ_ _=>rfl⟩
   ·rw[BW] at ht
    rw[CNG hI ht]
    exact⟨⟨by omega,λh=>(by cases h),by omega,by omega⟩,rfl,Nat.le_refl _,λ_ _=>rfl,by simp,by omega,BGX _ _,rfl,Nat.le_refl _,λ_ _=>⟨rfl,λ_ _=>rfl⟩,rfl⟩
theorem CCE:AH ZP 73 (C_few.spec NU):=PW C_few CQH [] [301,303,29064] Tryz.func73 (λ_=>by kernel_rfl) (λ_=>AA Jx (AA CWY (AA Zv (AA CYO (AA iP (AA AKE (AA DBU AD))))))) (λ(g:List Gau) h=>DAY g (show g.length<1073741824/\gSm g=true from h).1 (show g.length<1073741824/\gSm g=true from h).2) (λ_=>RA rfl rfl) _
end Go.Bal
