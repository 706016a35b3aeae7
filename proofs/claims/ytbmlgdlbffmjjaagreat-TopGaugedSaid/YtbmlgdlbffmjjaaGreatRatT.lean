/- Package rating: the fewest parts. -/
import Derived.Test.YtbmlgdlbffmjjaaGreatRatT0
set_option linter.unusedVariables false
set_option linter.unusedSimpArgs false
namespace Go.Bal
open Go Go.Sym Go.Proofs
def eLL(l:List (List Int)):DVal:=lst 1 l.length λi=>II (gD l i)
def CQX(l:List (List Int)):AObj:=.row 1 l.length λi=>II (gD l i)
structure FS where
 fr:Nat
 to:Nat
 ln:Ln
 b:List Int
 l:List Ln
 k:List (List Int)
 deriving Inhabited
def iotI(n:Nat):List Int:=(List.range n).map Int.ofNat
def AW(g:List Gau):List Int:=stM (PX g) (iotI g.length)
def zM(g:List Gau)(o:List Int)(t:Nat):Nat->Nat->Nat
 |0,k=>k
 |n+1,k=>bif PX g (gD o k)==PX g (gD o t) then zM g o t n (k+1) else k
def Vr(g:List Gau)(o:List Int)(t:Nat):Nat:=zM g o t (o.length-t) t
def O0(g:List Gau)(o:List Int)(a b:Nat):List Gau:=pkM ⟨g,o,a,b⟩
def vT(g:List Gau)(o:List Int)(s:FS):FS:=⟨s.to,s.to,s.ln,s.b ++ [PX g (gD o s.to)],s.l ++ [s.ln],s.k ++ [bH ⟨g,(o.take (Vr g o s.to)).drop s.fr⟩]⟩
def goF(g:List Gau)(o:List Int)(s:FS):FS:=⟨s.fr,Vr g o s.to,(NX (O0 g o s.fr (Vr g o s.to))).1,s.b,s.l,s.k⟩
structure FR where
 r:Rtg
 k:List (List Int)
 e:Int
def gI(g:List Gau)(o:List Int):Nat->FS->FR
 |0,s=>⟨⟨s.b,s.l ++ [s.ln]⟩,s.k,0⟩
 |n+1,s=>bif decide (s.to<o.length) then (bif (NX (O0 g o s.to (Vr g o s.to))).2 then (bif (NX (O0 g o s.fr (Vr g o s.to))).2 then gI g o n (goF g o s) else gI g o n (vT g o s)) else⟨⟨[],[]⟩,[],6⟩) else⟨⟨s.b,s.l ++ [s.ln]⟩,s.k,0⟩
def ini0:FS:=⟨0,0,TG ⟨0,0⟩,[],[],[]⟩
def ZL(g:List Gau):FR:=bif IH g==0 then gI g (AW g) (2*g.length+2) ini0 else⟨⟨[],[]⟩,[],IH g⟩
def rR(o:List Int)(s:FS):Nat:=2*(o.length-s.to)+(if s.fr<s.to then 1 else 0)
def invF(g:List Gau)(s:FS):Prop:=IH g=0/\s.fr<=s.to/\s.to<=g.length/\s.b.length<=s.fr/\s.l.length=s.b.length/\s.k.length=s.b.length/\(∀m,rR (AW g) s+1<=m->ZL g=gI g (AW g) m s)
def zRtg:HCell:=.live (.box [.d gK,.d gK])
def lnBx(x:Ln):HCell:=.live (.box [.int x.a0,.int x.a1,.int x.b0,.int x.b1])
def fwN(g:List Gau)(k:Nat):List (Nat×AVal):=[(1,.bptr 1000 0),(2,.bptr 1016 0),(6,.bptr 5000 0),(24,.int g.length),(25,.int k)]
def fw6n(g:List Gau):Shape:={ α:=One,dflt:=default,T:=λ_=>⟨fwN g 0,[(1000,.live (bxG g)),(1016,zRtg),(5000,.live (.box [.d gK]))]⟩,inv:=λ_=>IH g=0,meas:=λ_=>g.length+1 }
def fw6o(g:List Gau):Shape:={ α:=Nat,dflt:=0,T:=λk=>⟨fwN g k,[(1000,.live (bxG g)),(1016,zRtg),(5000,.live (.box [.own 201 1 0 k])),(201,.live (.row 1 k λi=>EP i))]⟩,inv:=λk=>IH g=0/\1<=k/\k<=g.length,meas:=λk=>g.length-k,again:=[(201,9048)] }
def fwB(g:List Gau):List (Nat×HCell):=[(1000,.live (bxG g)),(1016,zRtg),(5000,.live (.box [.d (II (AW g))]))]
def fw10(g:List Gau):Shape:={ α:=One,dflt:=default,T:=λ_=>⟨[(1,.bptr 1000 0),(2,.bptr 1016 0),(6,.bptr 5000 0)],[(1000,.live (bxG g)),(1016,zRtg),(5000,.live (.box [.own 201 1 0 (iotI g.length).length])),(201,.live (rowI (iotI g.length)))]⟩,inv:=λ_=>IH g=0,meas:=λ_=>0 }
def fw11(g:List Gau):Shape:={ α:=One,dflt:=default,T:=λ_=>⟨[(1,.bptr 1000 0),(2,.bptr 1016 0),(6,.bptr 5000 0)],fwB g⟩,inv:=λ_=>IH g=0,meas:=λ_=>0,ffz:=[201] }
def fwS(s:FS)(kv:AVal):List (Nat×AVal):=[(1,.bptr 1000 0),(2,.bptr 1016 0),(6,.bptr 5000 0),(8,.bptr 12000 0),(9,kv),(10,.bptr 14032 0),(11,.int s.fr),(12,.int s.to)]
def fwSA(s:FS):List (Nat×AVal):=fwS s (.d gK)
def fwSB(s:FS):List (Nat×AVal):=fwS s (.own 303 1 0 s.k.length)
def fwHA(g:List Gau)(s:FS):List (Nat×HCell):=fwB g ++ [(12000,zRtg),(14032,lnBx s.ln)]
def fwHB(g:List Gau)(s:FS):List (Nat×HCell):=fwB g ++ [(12000,.live (.box [.own 301 1 0 s.b.length,.own 302 4 0 s.l.length])),(14032,lnBx s.ln),(301,.live (rowI s.b)),(302,.live (rowL s.l)),(303,.live (CQX s.k))]
def fwA(g:List Gau):Shape:={ α:=FS,dflt:=default,T:=λs=>⟨fwSA s,fwHA g s⟩,inv:=λs=>invF g s/\s.b=[]/\s.l=[]/\s.k=[],meas:=λs=>rR (AW g) s,tag:=[0] }
def fwBb(g:List Gau):Shape:={ α:=FS,dflt:=default,T:=λs=>⟨fwSB s,fwHB g s⟩,inv:=λs=>invF g s,meas:=λs=>rR (AW g) s,tag:=[1] }
structure FSK where
 s:FS
 n:Nat
 deriving Inhabited
def BIQ(g:List Gau)(m:Nat)(x:FSK):Prop:=invF g x.s/\rR (AW g) x.s=m/\x.s.to<g.length/\x.s.to<=x.n/\x.n<=g.length/\Vr g (AW g) x.s.to=zM g (AW g) x.s.to (g.length-x.n) x.n
def CQC(g:List Gau)(m:Nat):Shape:={ α:=FSK,dflt:=default,T:=λx=>⟨fwSA x.s ++ [(13,.int x.n)],fwHA g x.s⟩,inv:=λx=>BIQ g m x/\x.s.b=[]/\x.s.l=[]/\x.s.k=[],meas:=λx=>g.length-x.n }
def CQK(g:List Gau)(m:Nat):Shape:={ α:=FSK,dflt:=default,T:=λx=>⟨fwSB x.s ++ [(13,.int x.n)],fwHB g x.s⟩,inv:=λx=>BIQ g m x,meas:=λx=>g.length-x.n }
def fw27(g:List Gau)(m:Nat):Shape:={ α:=FS,dflt:=default,T:=λs=>⟨[(1,.bptr 1000 0),(2,.bptr 1016 0),(6,.bptr 5000 0),(8,.bptr 12000 0),(9,.own 303 1 0 s.k.length),(10,.bptr 14032 0),(12,.int s.to)],fwHB g s⟩,inv:=λs=>invF g s/\s.fr=s.to/\rR (AW g) s<m,meas:=λ_=>0,first:=[(301,26176),(302,26256),(303,27128)] }
def C_few:Ctr:={ α:=List Gau,xs:=λg=>[.d (KB g)],L:=λ_=>[],val:=λg=>.tup [.d (eRtg (ZL g).r),.d (eLL (ZL g).k),.int (ZL g).e],keep:=λ_=>[],pre:=λg=>[g.length<20/\True] }
def CJU(g:List Gau):Ann:={ ann 123 [(J9,C_Check.spec A5),(BON,C_ss.spec dGLt),(nM,xE),(W5,C_pk.spec dGPk),(G9,C_isKnot.spec dGsK),(AKN,C_line.spec dGsK),(S5,C_kd.spec dGK)] with mt:=λid=>id==8||id==25||id==26||id==28,loops:=λid=>if id=6 then some [fw6n g,fw6o g] else if id=15 then some [fwA g,fwBb g] else none,inner:=λgs id=>if id=17 then (if gs.getD 1 0=0 then some [CQC g (gs.getD 0 0)] else some [CQK g (gs.getD 0 0)]) else none,cut:=λid=>if id=10 then some [fw10 g] else if id=11 then some [fw11 g] else none,cutIn:=λgs id=>if id=27 then some [fw27 g (gs.getD 0 0)] else none }
def CHD(g:List Gau):Prop:=AX Try.prog (CJU g) AJJ (AF AJJ) (C_few.xs g) (AC []) (C_few.val g) [] [] [301,303,29064]
abbrev BJE:=@List.length (List Int)
abbrev LM:=AW
abbrev J3:=@Exists FS
abbrev Dg:=FS.fr
abbrev WE:=FS.to
abbrev Cx:=FS.ln
abbrev XM:=FS.b
abbrev Oq:=FS.l
abbrev AAE:=@Eq (List (List Int))
abbrev ABN:=@List.nil (List Int)
abbrev ANU:=λ(f:FS->Prop)=>∀(x:FS),f x
abbrev AMF:=@Exists FSK
abbrev PO:=FSK.s
abbrev OA:=FSK.n
abbrev BFH:=λ(f:FSK->Prop)=>∀(x:FSK),f x
abbrev AUY:=@gD (List Int) (@instInhabitedList Int)
abbrev Sa a:=FR.e (ZL a)
abbrev WY a b:=AUY (FS.k a) b
abbrev AIN a:=FR.k (ZL a)
abbrev wK a:=BJE (AIN a)
abbrev OO a:=BJE (FS.k a)
abbrev fP a b:=ES (Oq a) b
abbrev JV a:=HR (Oq a)
abbrev XC a:=cS (FR.r (ZL a))
abbrev eJ a b:=EQ (Oq a) b
abbrev Lg a:=HV (Cx a)
abbrev dC a b:=EU (Oq a) b
abbrev Js a:=HR (XC a)
abbrev Ov a:=mE (FR.r (ZL a))
abbrev lN a:=FI (XM a)
abbrev nV a b:=BK a (XM b)
abbrev MD a b:=rR (LM a) b
abbrev bS a b c:=HB a 0 b c
abbrev S8 a b c d:=bS (tA a) (CW b c) d
abbrev AST a b:=AN a (lN b)
abbrev By a b c d e f g(h:Nat->Prop):=S8 a b c (LR d (CW (lN e) b) (AST f e) (AST g e) h)
abbrev Bq a b c d e f g:=TP (CL (MD a b)) c ((@Eq FR) (ZL d) (gI e (LM f) g b))
abbrev Td a b:=HH (WE a) b
abbrev D3 a b c:=yS a AM b c
abbrev iF a b:=D3 a CK b
abbrev Zf a b:=iF (BX a) b
abbrev Ye a b:=AN (OO a) b
abbrev aF a b:=AN (JV a) b
abbrev oQ a b:=Dk (Cx a) b
abbrev nU a b:=Mk (Cx a) b
abbrev rB a b:=HQ (Cx a) b
abbrev Ud a:=EF (LM a)
abbrev Sq a:=HT (LM a)
abbrev lM a b:=BC a (WE b)
abbrev WO a:=Dg (PO a)
abbrev AFV a b:=HD (WO a) b
abbrev AHY a b:=KJ (OA a) (WO b)
abbrev Pu a b c d:=VY (AHY a b) (LM c) (λi=>AFV d i)
abbrev Wz a b:=WY (PO a) b
abbrev QZ a:=OO (PO a)
abbrev KT a:=Cx (PO a)
abbrev RH a:=Oq (PO a)
abbrev OX a:=JV (PO a)
abbrev Wv a:=HV (KT a)
abbrev zD a b:=IR (LM a) b
abbrev DD a:=WE (PO a)
abbrev jJ a b:=zD a (DD b)
abbrev YT a:=XM (PO a)
abbrev vB a:=Bc (FI a)
abbrev Us a:=FI (LM a)
abbrev Br a:=BH (OA a)
abbrev Ml a:=BH (WO a)
abbrev MF a:=EL (LM a)
abbrev cX a b c:=pkM (GPk.mk (BB a) (MF a) b (Br c))
abbrev pF a b c:=BB (cX a b c)
abbrev Jp a b c:=pF a (Ml b) c
abbrev AFW a b c:=XS a b b c
abbrev Jm a:=BH (DD a)
abbrev Xb a b:=QU a (OA b)
abbrev AJK a b:=LB (OA a) (Us b)
abbrev jC a b c:=FV (AJK a b) c
abbrev Kr a:=iotI (BP a)
attribute [go_sem] BJE LM J3 Dg WE Cx XM Oq AAE ABN ANU AMF PO OA BFH AUY Sa WY AIN wK OO fP JV XC eJ Lg dC Js Ov lN nV MD bS S8 AST By Bq Td D3 iF Zf Ye aF oQ nU rB Ud Sq lM WO AFV AHY Pu Wz QZ KT RH OX Wv zD DD jJ YT vB Us Br Ml MF cX pF Jp AFW Jm Xb AJK jC Kr
theorem CMU(g:List Gau):(CHD g)=(GV (SE g (UQ g)) (RJ (Pd g)) (iB (GM (Ov g) 0) (AFW (NS (Js g)) (NS (wK g)) (AK (Sa g) (Pd g)))) (And (WM (Cr (AV (WJ g) AL (BW g) (BX g) AM (Fx CK AM CK)) (lR g)) (Ac (λi=>HE (lR g) 0 (BP g) (Ao 1 1 GO 1 8) (CG (λj=>EV (And (WJ g) (HB (BH j) (FP (BH 0)) (BW g) (Zf g (Uy CK j 1 (λk=>AO k j (BC k 0)))))) (S8 g 1 j (HH j g)) (QU g j) (Fo g))) lZ)) (λi=>HE (S8 g 1 i (HH i g)) i (BP g) (VE (Ku i 1) 1 (CL i) (RX i 8)) (CG (λj=>EV (And (WJ g) (HB (BH j) (FP (BH i)) (BW g) (Zf g (Uy CK j (CL i) (λk=>AO k j (GH k (KC k i (BH k) (BH i)))))))) (S8 g 1 j (HH j g)) (QU g j) (QU g i))) (Cr (And (BW g) (Zf g (Jw CK (GM (Kr g) i) (λj=>Ii j (Kr g) j (BH j))))) (lR g)))) (Ac (λi=>TL (lR g) (And (AG AM (HI (Kr g)) (JS (HI (Kr g)) (GQ (Kr g)) (CN g) (CV g) (CI g (BB g)) (BU g (BB g)) (BM (JO (Kr g)) 20) (Bc (JO (Kr g))) (λj=>Lo j (JO (Kr g)) (IR (EL (Kr g)) j) (BB g)))) (Cr (I6 (BW g) (BX g) AM CK (BK (LM g) (Kr g)) (wG (FI (Kr g)) (JO (Kr g))) (AE (λj=>HA j (LM g) (NQ (LM g) j (stM (fH (BB g)) (EL (Kr g))) (AP j))))) (lR g))) (Mp (lR g) (AQ (SC 0 (BF 2000)) (J3 (λj=>AI (SU CK (BD (Dg j)) (AI (BD (WE j)) (BW g) (BX g) AM (KQ CK AM (Sq g) (iF (Ud g) (FG CK (rB j Ct) (Lg j) (HV Ct) (nU j Ct) (oQ j Ct)))))) (By g (Dg j) (WE j) (Td j g) j (JV j) (OO j) (λk=>Bq g j k g g g k)) (Wg (XM j) Rv) (Ol (Oq j)) (AAE (FS.k j) ABN))) (ANU (λj=>HE (AQ (By g (Dg j) (WE j) (Td j g) j (JV j) (OO j) (λk=>Bq g j k g g g k)) (Wg (XM j) Rv) (Ol (Oq j)) (AAE (FS.k j) ABN)) (WE j) (Us g) (AMF (λk=>AI (AEO AM CK (BC (WO k) (Dg j)) (lM (DD k) j) (lM (OA k) j) (BW g) (BX g) (KQ CK AM (Sq g) (iF (Ud g) (FG CK (HQ (KT k) (Cx j)) (Wv k) (Lg j) (Mk (KT k) (Cx j)) (Dk (KT k) (Cx j)))))) (AV (By g (WO k) (DD k) (HH (DD k) g) (PO k) (OX k) (QZ k) (λl=>Bq g (PO k) l g g g l)) (AN (MD g (PO k)) (MD g j)) (Xv (DD k) g) (CW (DD k) (OA k)) (HH (OA k) g) (AN (Vr g (LM g) (DD k)) (zM g (LM g) (DD k) (Xb g k) (OA k)))) (Wg (YT k) Rv) (Ol (RH k)) (AAE (FS.k (PO k)) ABN))) (BFH (λk=>BA (AQ (AV (By g (WO k) (DD k) (HH (DD k) g) (PO k) (OX k) (QZ k) (λl=>Bq g (PO k) l g g g l)) (AN (MD g (PO k)) (MD g j)) (Xv (DD k) g) (CW (DD k) (OA k)) (HH (OA k) g) (AN (Vr g (LM g) (DD k)) (zM g (LM g) (DD k) (Xb g k) (OA k)))) (Wg (YT k) Rv) (Ol (RH k)) (AAE (FS.k (PO k)) ABN)) (GV (AQ (jC k g (BE (OA k) (Us g))) (jC k g (TT (zD g (OA k)) g)) (jC k g (BE (DD k) (Us g))) (jC k g (TT (jJ g k) g))) (BZ (AJK k g) (ZJ (Aq g (zD g (OA k))) (Aq g (jJ g k)))) (AMF (λl=>EV (AEO AM CK (BC (WO l) (WO k)) (BC (DD l) (DD k)) (AU (OA l) (OA k)) (BW g) (BX g) (KQ CK AM (Sq g) (iF (Ud g) (FG CK (HQ (KT l) (KT k)) (Wv l) (Wv k) (Mk (KT l) (KT k)) (Dk (KT l) (KT k)))))) (AQ (AV (By g (WO l) (DD l) (HH (DD l) g) (PO l) (OX l) (QZ l) (λm=>Bq g (PO l) m g g g m)) (AN (MD g (PO l)) (MD g j)) (Xv (DD l) g) (CW (DD l) (OA l)) (HH (OA l) g) (AN (Vr g (LM g) (DD l)) (zM g (LM g) (DD l) (Xb g l) (OA l)))) (Wg (YT l) Rv) (Ol (RH l)) (AAE (FS.k (PO l)) ABN)) (Xb g l) (Xb g k))) (GV (CM (EI (DD k)) (Br k) (AI (BK (MF g) (LM g)) (BR (MF g) (LM g)) (CN g) (CV g) (AS (BK (LM g) (MF g)) (BR (LM g) (MF g)) (CI g (BB g)) (BU g (BB g)) (And (AQ (BF (Jm k)) (DC (Jm k) (Br k)) (DC (Br k) (YP (MF g))) (vB (MF g))) (DJ (λl=>BA (Rb l (MF g)) (TT l (BB g))))) (CN (cX g (Jm k) k)) (CV (cX g (Jm k) k)) (UA (pF g (Jm k) k)) (SX (λl=>RA l (pF g (Jm k) k) l l l l))))) (not (Es (pF g (Jm k) k))) (iB (GM (Ov g) 0) (AFW (NS (Js g)) (NS (wK g)) (AK (Sa g) 6))) (GV (CM (EI (WO k)) (Br k) (AI (BK (MF g) (LM g)) (BR (MF g) (LM g)) (CN g) (CV g) (AS (BK (LM g) (MF g)) (BR (LM g) (MF g)) (CI g (BB g)) (BU g (BB g)) (And (AQ (BF (Ml k)) (DC (Ml k) (Br k)) (DC (Br k) (YP (MF g))) (vB (MF g))) (DJ (λl=>BA (Rb l (MF g)) (TT l (BB g))))) (CN (cX g (Ml k) k)) (CV (cX g (Ml k) k)) (UA (Jp g k k)) (SX (λl=>RA l (Jp g k k) l l l l))))) (Es (Jp g k k)) (J3 (λl=>EV (SU CK (BC (Dg l) (WO k)) (AI (BC (WE l) (OA k)) (BW g) (BX g) AM (KQ CK AM (Sq g) (iF (Ud g) (FG CK (rB l (OE (Jp g k k))) (Lg l) (fM (Jp g k k)) (nU l (OE (Jp g k k))) (oQ l (OE (Jp g k k)))))))) (AQ (By g (Dg l) (WE l) (Td l g) l (JV l) (OO l) (λm=>Bq g l m g g g m)) (Wg (XM l) Rv) (Ol (Oq l)) (AAE (FS.k l) ABN)) (MD g l) (MD g j))) (AG (AQ (BE (DD k) (Us g)) (TT (jJ g k) g) (Ao 1 1 GO 1 8) (It UM GO 1 32)) (And (AG (AG (BF (Ml k)) (DC (Ml k) (Br k)) (DC (Br k) (BH (Us g)))) (CN g) (LN (λl=>EH l (BB g) g) (GM (Pu k k g k) (AHY k k)) (AE (λl=>HA l (Pu k k g k) (NQ (Pu k k g k) l (LM g) (AFV k l)))) (And (And (Zs g) (vB (Pu k k g k))) (SX (λl=>RA l (BB g) l l l l))) (XD 1) (VF 1) GO (Mb 9223372036854775807) (LS 24))) (J3 (λl=>PI (AI AM (Ye l 1) (BC (WE l) (DD k)) (BW g) (Zf g (Hy CK (Sq g) (Ud g) AM (GM (XM l) 1) (aF l 1) (rB l (KT k)) (ZF (AK (Lg l) (Wv k)) (nU l (KT k)) (oQ l (KT k)) (GM (XM l) 1) (AE (λm=>Ii m (XM l) m (Aq g (jJ g k)))) (aF l 1) (λm=>FH m (JV l) (Em (Oq l) m (KT k)) (dC l m) (Wv k) (eJ l m) (GZ (KT k)) (fP l m) (JJ (KT k))) (Ye l 1) (λm=>IF m (OO l) (BK (WY l m) (bH (GK.mk (BB g) (Pu k k g k)))) (BR (WY l m) (bH (GK.mk (BB g) (Pu k k g k))))))))) (By g (Dg l) (WE l) (Td l g) l (JV l) (OO l) (λm=>Bq g l m g g g m)) (Dg l) (WE l) (BM (MD g l) (MD g j))))) (ANU (λl=>BA (EV (By g (Dg l) (WE l) (Td l g) l (JV l) (OO l) (λm=>Bq g l m g g g m)) (AN (Dg l) (WE l)) (MD g l) (MD g j)) (J3 (λm=>EV (AV AM (Ye m (OO l)) (lM (Dg m) l) (lM (WE m) l) (BW g) (Zf g (Hy CK (Sq g) (Ud g) AM (nV (XM m) l) (aF m (JV l)) (rB m (Cx l)) (ZF (AK (Lg m) (Lg l)) (nU m (Cx l)) (oQ m (Cx l)) (nV (XM m) l) (BR (XM m) (XM l)) (aF m (JV l)) (λn=>FH n (JV m) (NR (Oq m) n (Oq l)) (dC m n) (dC l n) (eJ m n) (eJ l n) (fP m n) (fP l n)) (Ye m (OO l)) (λn=>IF n (OO m) (BK (WY m n) (WY l n)) (BR (WY m n) (WY l n))))))) (By g (Dg m) (WE m) (Td m g) m (JV m) (OO m) (λn=>Bq g m n g g g n)) (MD g m) (MD g j))))))))))) (XO (It UM GO 1 32) (GM (Ov g) 0) (AN (Js g) 1) (Rc (VS 1) (AE (λk=>FH k (Js g) (Em (XC g) k (Cx j)) (EU (XC g) k) (Lg j) (EQ (XC g) k) (GZ (Cx j)) (ES (XC g) k) (JJ (Cx j)))) (NS (wK g)) (CP (Sa g)))))) (ANU (λj=>HE (By g (Dg j) (WE j) (Td j g) j (JV j) (OO j) (λk=>Bq g j k g g g k)) (WE j) (Us g) (AMF (λk=>FJ (FJ AM (AN (QZ k) (OO j)) (BC (WO k) (Dg j)) (lM (DD k) j) (lM (OA k) j) (BW g) (Zf g (Hy CK (Sq g) (Ud g) AM (nV (YT k) j) (AN (OX k) (JV j)) (HQ (KT k) (Cx j)) (ZF (AK (Wv k) (Lg j)) (Mk (KT k) (Cx j)) (Dk (KT k) (Cx j)) (nV (YT k) j) (BR (YT k) (XM j)) (AN (OX k) (JV j)) (λl=>FH l (OX k) (NR (RH k) l (Oq j)) (EU (RH k) l) (dC j l) (EQ (RH k) l) (eJ j l) (ES (RH k) l) (fP j l)) (AN (QZ k) (OO j)) (λl=>IF l (QZ k) (BK (Wz k l) (WY j l)) (BR (Wz k l) (WY j l))))))) (By g (WO k) (DD k) (HH (DD k) g) (PO k) (OX k) (QZ k) (λl=>Bq g (PO k) l g g g l)) (AN (MD g (PO k)) (MD g j)) (Xv (DD k) g) (CW (DD k) (OA k)) (HH (OA k) g) (AN (Vr g (LM g) (DD k)) (zM g (LM g) (DD k) (Xb g k) (OA k))))) (BFH (λk=>BA (AV (By g (WO k) (DD k) (HH (DD k) g) (PO k) (OX k) (QZ k) (λl=>Bq g (PO k) l g g g l)) (AN (MD g (PO k)) (MD g j)) (Xv (DD k) g) (CW (DD k) (OA k)) (HH (OA k) g) (AN (Vr g (LM g) (DD k)) (zM g (LM g) (DD k) (Xb g k) (OA k)))) (GV (AQ (jC k g (BE (OA k) (Us g))) (jC k g (TT (zD g (OA k)) g)) (jC k g (BE (DD k) (Us g))) (jC k g (TT (jJ g k) g))) (BZ (AJK k g) (ZJ (Aq g (zD g (OA k))) (Aq g (jJ g k)))) (AMF (λl=>EV (FJ AM (AN (QZ l) (QZ k)) (BC (WO l) (WO k)) (BC (DD l) (DD k)) (AU (OA l) (OA k)) (BW g) (Zf g (Hy CK (Sq g) (Ud g) AM (BK (YT l) (YT k)) (AN (OX l) (OX k)) (HQ (KT l) (KT k)) (ZF (AK (Wv l) (Wv k)) (Mk (KT l) (KT k)) (Dk (KT l) (KT k)) (BK (YT l) (YT k)) (BR (YT l) (YT k)) (AN (OX l) (OX k)) (λm=>FH m (OX l) (NR (RH l) m (RH k)) (EU (RH l) m) (EU (RH k) m) (EQ (RH l) m) (EQ (RH k) m) (ES (RH l) m) (ES (RH k) m)) (AN (QZ l) (QZ k)) (λm=>IF m (QZ l) (BK (Wz l m) (Wz k m)) (BR (Wz l m) (Wz k m))))))) (AV (By g (WO l) (DD l) (HH (DD l) g) (PO l) (OX l) (QZ l) (λm=>Bq g (PO l) m g g g m)) (AN (MD g (PO l)) (MD g j)) (Xv (DD l) g) (CW (DD l) (OA l)) (HH (OA l) g) (AN (Vr g (LM g) (DD l)) (zM g (LM g) (DD l) (Xb g l) (OA l)))) (Xb g l) (Xb g k))) (GV (CM (EI (DD k)) (Br k) (AI (BK (MF g) (LM g)) (BR (MF g) (LM g)) (CN g) (CV g) (AS (BK (LM g) (MF g)) (BR (LM g) (MF g)) (CI g (BB g)) (BU g (BB g)) (And (AQ (BF (Jm k)) (DC (Jm k) (Br k)) (DC (Br k) (YP (MF g))) (vB (MF g))) (DJ (λl=>BA (Rb l (MF g)) (TT l (BB g))))) (CN (cX g (Jm k) k)) (CV (cX g (Jm k) k)) (UA (pF g (Jm k) k)) (SX (λl=>RA l (pF g (Jm k) k) l l l l))))) (not (Es (pF g (Jm k) k))) (iB (GM (Ov g) 0) (AFW (NS (Js g)) (NS (wK g)) (AK (Sa g) 6))) (GV (CM (EI (WO k)) (Br k) (AI (BK (MF g) (LM g)) (BR (MF g) (LM g)) (CN g) (CV g) (AS (BK (LM g) (MF g)) (BR (LM g) (MF g)) (CI g (BB g)) (BU g (BB g)) (And (AQ (BF (Ml k)) (DC (Ml k) (Br k)) (DC (Br k) (YP (MF g))) (vB (MF g))) (DJ (λl=>BA (Rb l (MF g)) (TT l (BB g))))) (CN (cX g (Ml k) k)) (CV (cX g (Ml k) k)) (UA (Jp g k k)) (SX (λl=>RA l (Jp g k k) l l l l))))) (Es (Jp g k k)) (J3 (λl=>EV (AV AM (Ye l (QZ k)) (BC (Dg l) (WO k)) (BC (WE l) (OA k)) (BW g) (Zf g (Hy CK (Sq g) (Ud g) AM (BK (XM l) (YT k)) (aF l (OX k)) (rB l (OE (Jp g k k))) (ZF (AK (Lg l) (fM (Jp g k k))) (nU l (OE (Jp g k k))) (oQ l (OE (Jp g k k))) (BK (XM l) (YT k)) (BR (XM l) (YT k)) (aF l (OX k)) (λm=>FH m (JV l) (NR (Oq l) m (RH k)) (dC l m) (EU (RH k) m) (eJ l m) (EQ (RH k) m) (fP l m) (ES (RH k) m)) (Ye l (QZ k)) (λm=>IF m (OO l) (BK (WY l m) (Wz k m)) (BR (WY l m) (Wz k m))))))) (By g (Dg l) (WE l) (Td l g) l (JV l) (OO l) (λm=>Bq g l m g g g m)) (MD g l) (MD g j))) (AG (AQ (BE (DD k) (Us g)) (TT (jJ g k) g) (VE (And (HT (YT k)) (HA 0 (YT k) AZ)) 1 (CL (lN (PO k))) (RX (lN (PO k)) 8)) (It (Zo (OX k)) JE (CL (OX k)) (uM (OX k)))) (And (AG (AG (BF (Ml k)) (DC (Ml k) (Br k)) (DC (Br k) (BH (Us g)))) (CN g) (LN (λl=>EH l (BB g) g) (GM (Pu k k g k) (AHY k k)) (AE (λl=>HA l (Pu k k g k) (NQ (Pu k k g k) l (LM g) (AFV k l)))) (And (And (Zs g) (vB (Pu k k g k))) (SX (λl=>RA l (BB g) l l l l))) (Ku (QZ k) 1) (VF 1) JE (CW (CL (QZ k)) 9223372036854775807) (LS (RX (QZ k) 24)))) (J3 (λl=>PI (AI AM (Ye l (CL (QZ k))) (BC (WE l) (DD k)) (BW g) (Zf g (Hy CK (Sq g) (Ud g) AM (GM (XM l) (CL (lN (PO k)))) (aF l (CL (OX k))) (rB l (KT k)) (ZF (AK (Lg l) (Wv k)) (nU l (KT k)) (oQ l (KT k)) (GM (XM l) (CL (lN (PO k)))) (AE (λm=>Ii m (XM l) m (KC m (lN (PO k)) (IR (YT k) m) (Aq g (jJ g k))))) (aF l (CL (OX k))) (λm=>FH m (JV l) (ZD (Oq l) m (KC m (OX k) (YX (RH k) m) (LQ (KT k)))) (dC l m) (KC m (OX k) (EU (RH k) m) (Wv k)) (eJ l m) (KC m (OX k) (EQ (RH k) m) (GZ (KT k))) (fP l m) (KC m (OX k) (ES (RH k) m) (JJ (KT k)))) (Ye l (CL (QZ k))) (λm=>IF m (OO l) (GM (WY l m) (hJ (Wm m (QZ k)) (FI (Wz k m)) (FI (bH (GK.mk (BB g) (Pu k k g k)))))) (AE (λn=>Ii n (WY l m) n (KC m (QZ k) (IR (Wz k m) n) (IR (bH (GK.mk (BB g) (Pu k k g k))) n))))))))) (By g (Dg l) (WE l) (Td l g) l (JV l) (OO l) (λm=>Bq g l m g g g m)) (Dg l) (WE l) (BM (MD g l) (MD g j))))) (ANU (λl=>BA (EV (By g (Dg l) (WE l) (Td l g) l (JV l) (OO l) (λm=>Bq g l m g g g m)) (AN (Dg l) (WE l)) (MD g l) (MD g j)) (J3 (λm=>EV (AV AM (Ye m (OO l)) (lM (Dg m) l) (lM (WE m) l) (BW g) (Zf g (Hy CK (Sq g) (Ud g) AM (nV (XM m) l) (aF m (JV l)) (rB m (Cx l)) (ZF (AK (Lg m) (Lg l)) (nU m (Cx l)) (oQ m (Cx l)) (nV (XM m) l) (BR (XM m) (XM l)) (aF m (JV l)) (λn=>FH n (JV m) (NR (Oq m) n (Oq l)) (dC m n) (dC l n) (eJ m n) (eJ l n) (fP m n) (fP l n)) (Ye m (OO l)) (λn=>IF n (OO m) (BK (WY m n) (WY l n)) (BR (WY m n) (WY l n))))))) (By g (Dg m) (WE m) (Td m g) m (JV m) (OO m) (λn=>Bq g m n g g g n)) (MD g m) (MD g j))))))))))) (AG (It (Zo (JV j)) JE (CL (JV j)) (uM (JV j))) (nV (Ov g) j) (AS (Nw (lN j)) (AE (λk=>HA k (Ov g) (NQ (Ov g) k (XM j) (AP k)))) (AN (Js g) (CL (JV j))) (Nw (CL (JV j))) (AE (λk=>FH k (Js g) (ZD (XC g) k (XZ k (JV j) (YX (Oq j) (AP k)) (LQ (Cx j)))) (EU (XC g) k) (XZ k (JV j) (dC j (AP k)) (Lg j)) (EQ (XC g) k) (XZ k (JV j) (eJ j (AP k)) (GZ (Cx j))) (ES (XC g) k) (XZ k (JV j) (fP j (AP k)) (JJ (Cx j))))) (AN (wK g) (OO j)) (Nw (OO j)) (AE (λk=>IF k (wK g) (BK (AUY (AIN g) k) (WY j (AP k))) (BR (AUY (AIN g) k) (WY j (AP k))))) (CP (Sa g)))))))))))):=by kernel_rfl
theorem bJ(n:Nat):(iotI n).length=n:=by simp[iotI]
theorem BOW{n i:Nat}(h:i<n):gD (iotI n) i=i:=by simp[iotI,gD,List.getD_eq_getElem?_getD,h]
theorem AGJ(g:List Gau):(AW g).Perm (iotI g.length):=BYF _ _
theorem CB(g:List Gau):(AW g).length=g.length:=by rw[(AGJ g).length_eq,bJ]
theorem wX{g:List Gau}{x:Int}(h:x∈AW g):0<=x/\x<g.length:=by
 have:=(AGJ g).mem_iff.1 h
 unfold iotI at this
 obtain⟨i,hi,rfl⟩:=List.mem_map.1 this
 have:=List.mem_range.1 hi
 exact⟨Int.natCast_nonneg _,Int.ofNat_lt.2 this⟩
theorem A9{g:List Gau}{i:Nat}(h:i<g.length):0<=gD (AW g) i/\gD (AW g) i<g.length:=wX (MH (by rw[CB];exact h))
theorem BGO{l:List Int}{a b:Nat}(h:b<=l.length):(VZ (b-a) λi=>gD l (a+i))=(l.take b).drop a:=by
 apply BRJ
 ·rw[rng_length,List.length_drop,List.length_take];omega
 ·intro i hi
  rw[rng_length] at hi
  rw[BFS _ _ _ hi,bD]
  simp[gD,List.getD_eq_getElem?_getD,List.getElem?_take,show a+i<b by omega]
theorem BGS{g:List Gau}(hc:IH g=0)(a b:Int):(pkM ⟨g,AW g,a,b⟩).length<1073741824/\∀x∈pkM ⟨g,AW g,a,b⟩,Ho x:=by
 obtain⟨⟨h1,h2⟩,h3⟩:=Vz hc
 refine⟨?_,λx hx=>?_⟩
 ·unfold pkM aS;rw[List.length_map,List.length_drop,List.length_take,CB];omega
 ·unfold pkM at hx
  obtain⟨i,hi,rfl⟩:=List.mem_map.1 hx
  have:=wX (BIT hi)
  exact h3 _ (MH (by omega))
theorem BQT{g:List Gau}{o:List Int}{t:Nat}:∀(n k:Nat),k<=zM g o t n k/\zM g o t n k<=k+n
 |0,k=>⟨Nat.le_refl _,Nat.le_refl _⟩
 |n+1,k=>by
  unfold zM
  cases PX g (gD o k)==PX g (gD o t)
  ·exact⟨Nat.le_refl _,by show k<=_;omega⟩
  ·have:=BQT (g:=g) (o:=o) (t:=t) n (k+1);show k<=zM g o t n (k+1)/\zM g o t n (k+1)<=_;omega
theorem ABO{g:List Gau}{t:Nat}(h:t<g.length):t<Vr g (AW g) t/\Vr g (AW g) t<=g.length:=by
 unfold Vr
 rw[CB]
 obtain⟨n,hn⟩:∃n,g.length-t=n+1:=⟨g.length-t-1,by omega⟩
 rw[hn];unfold zM
 rw[show (PX g (gD (AW g) t)==PX g (gD (AW g) t))=true by simp]
 have:=BQT (g:=g) (o:=AW g) (t:=t) n (t+1)
 show t<zM g (AW g) t n (t+1)/\zM g (AW g) t n (t+1)<=_
 omega
theorem sG{g:List Gau}:∀(m n:Nat) (s:FS),s.fr<=s.to->s.to<=g.length->rR (AW g) s+1<=m->rR (AW g) s+1<=n->gI g (AW g) m s=gI g (AW g) n s
 |0,_,_,_,_,h,_=>by omega
 |m+1,0,_,_,_,_,h=>by omega
 |m+1,n+1,s,h0,h1,h2,h3=>by
  unfold gI
  by_cases hl:s.to<(AW g).length
  ·rw[decide_eq_true hl]
   rw[CB] at hl
   have hx:=ABO hl
   unfold rR at h2 h3
   rw[CB] at h2 h3
   cases hq:(NX (O0 g (AW g) s.to (Vr g (AW g) s.to))).2
   ·rfl
   ·cases hr:(NX (O0 g (AW g) s.fr (Vr g (AW g) s.to))).2
    ·have hne:s.fr≠s.to:=λhe=>by rw[he,hq] at hr;cases hr
     rw[if_pos (by omega)] at h2 h3
     refine sG m n (vT g (AW g) s) (Nat.le_refl _) h1 ?_ ?_<;>(unfold rR vT;rw[CB];simp only[Nat.lt_irrefl,if_false];omega)
    ·refine sG m n (goF g (AW g) s) (by show s.fr<=Vr _ _ _;omega) hx.2 ?_ ?_<;>(unfold rR goF;rw[CB];simp only[];split at h2<;>split<;>omega)
  ·rw[decide_eq_false hl];rfl
theorem BEO(g:List Gau)(o:List Int)(n:Nat)(s:FS):gI g o (n+1) s=bif decide (s.to<o.length) then (bif (NX (O0 g o s.to (Vr g o s.to))).2 then (bif (NX (O0 g o s.fr (Vr g o s.to))).2 then gI g o n (goF g o s) else gI g o n (vT g o s)) else⟨⟨[],[]⟩,[],6⟩) else⟨⟨s.b,s.l ++ [s.ln]⟩,s.k,0⟩:=rfl
theorem CIH{g:List Gau}{s:FS}(h:invF g s)(ht:¬s.to<g.length):ZL g=⟨⟨s.b,s.l ++ [s.ln]⟩,s.k,0⟩:=by
 rw[h.2.2.2.2.2.2 _ (Nat.le_refl _)];unfold gI;rw[decide_eq_false (by rw[CB];exact ht)];rfl
theorem CHS{g:List Gau}{s:FS}(h:invF g s)(ht:s.to<g.length)(hq:(NX (O0 g (AW g) s.to (Vr g (AW g) s.to))).2=false):ZL g=⟨⟨[],[]⟩,[],6⟩:=by
 rw[h.2.2.2.2.2.2 _ (Nat.le_refl _)];unfold gI;rw[decide_eq_true (by rw[CB];exact ht),hq];rfl
theorem F_go{g:List Gau}{s:FS}(h:invF g s)(ht:s.to<g.length)(hq:(NX (O0 g (AW g) s.to (Vr g (AW g) s.to))).2=true)(hr:(NX (O0 g (AW g) s.fr (Vr g (AW g) s.to))).2=true):invF g (goF g (AW g) s)/\rR (AW g) (goF g (AW g) s)<rR (AW g) s:=by
 obtain⟨h1,h2,h3,h4,h5,h6,h7⟩:=h
 have hx:=ABO ht
 have hm:rR (AW g) (goF g (AW g) s)<rR (AW g) s:=by unfold rR goF;rw[CB];simp only[];split<;>split<;>omega
 refine⟨⟨h1,by show s.fr<=Vr _ _ _;omega,hx.2,h4,h5,h6,λm hm2=>?_⟩,hm⟩
 rw[h7 (rR (AW g) s+1) (Nat.le_refl _),BEO,decide_eq_true (by rw[CB];exact ht),hq,hr]
 exact sG (rR (AW g) s) m (goF g (AW g) s) (by show s.fr<=Vr _ _ _;omega) hx.2 hm hm2
theorem CKV{g:List Gau}{s:FS}(h:invF g s)(ht:s.to<g.length)(hq:(NX (O0 g (AW g) s.to (Vr g (AW g) s.to))).2=true)(hr:(NX (O0 g (AW g) s.fr (Vr g (AW g) s.to))).2=false):invF g (vT g (AW g) s)/\rR (AW g) (vT g (AW g) s)<rR (AW g) s:=by
 obtain⟨h1,h2,h3,h4,h5,h6,h7⟩:=h
 have hx:=ABO ht
 have hne:s.fr≠s.to:=λhe=>by rw[he,hq] at hr;cases hr
 have hm:rR (AW g) (vT g (AW g) s)<rR (AW g) s:=by unfold rR vT;rw[CB];simp only[Nat.lt_irrefl,if_false];rw[if_pos (by omega)];omega
 refine⟨⟨h1,Nat.le_refl _,h3,by show (s.b ++ [_]).length<=s.to;simp;omega,by show (s.l ++ [_]).length=(s.b ++ [_]).length;simp;omega,by show (s.k ++ [_]).length=(s.b ++ [_]).length;simp;omega,λm hm2=>?_⟩,hm⟩
 rw[h7 (rR (AW g) s+1) (Nat.le_refl _),BEO,decide_eq_true (by rw[CB];exact ht),hq,hr]
 exact sG (rR (AW g) s) m (vT g (AW g) s) (Nat.le_refl _) h3 hm hm2
theorem BHA{g:List Gau}{t n:Nat}(hn:n<g.length)(h:PX g (gD (AW g) n)=PX g (gD (AW g) t)):zM g (AW g) t (g.length-n) n=zM g (AW g) t (g.length-(n+1)) (n+1):=by
 obtain⟨m,hm⟩:∃m,g.length-n=m+1:=⟨g.length-n-1,by omega⟩
 rw[hm,show g.length-(n+1)=m by omega]
 conv=>lhs;unfold zM
 rw[show (PX g (gD (AW g) n)==PX g (gD (AW g) t))=true by rw[h];simp];rfl
theorem BJV{g:List Gau}{t n:Nat}(hn:n<=g.length)(h:(bif decide (n<g.length) then PX g (gD (AW g) n)==PX g (gD (AW g) t) else false)=false):zM g (AW g) t (g.length-n) n=n:=by
 by_cases hl:n<g.length
 ·rw[decide_eq_true hl] at h
  have h:(PX g (gD (AW g) n)==PX g (gD (AW g) t))=false:=h
  obtain⟨m,hm⟩:∃m,g.length-n=m+1:=⟨g.length-n-1,by omega⟩
  rw[hm];unfold zM;rw[h];rfl
 ·rw[show g.length-n=0 by omega];rfl
theorem CJI{g:List Gau}{t n:Nat}(h:(bif decide (n<g.length) then PX g (gD (AW g) n)==PX g (gD (AW g) t) else false)=true):n<g.length/\PX g (gD (AW g) n)=PX g (gD (AW g) t):=by
 cases hd:decide (n<g.length) with
 |false=>rw[hd] at h;cases h
 |true=>rw[hd] at h;exact⟨of_decide_eq_true hd,by simpa using h⟩
theorem CGQ(l:List Int)(p:Int)(i:Nat)(hi:i<(l ++ [p]).length):gD (l ++ [p]) i=bif decide (i<l.length) then gD l i else p:=G3 _ _ (by simpa using hi)
theorem CQU(g:List Gau)(hg:g.length<20):CHD g:=by
 rw[CMU]<;> delta LI Wo UD KA LX JZ T6 LQ HV GZ JJ NL cN HU FA AK AN FI AE BA BM IR BH CW DC ER NE TD KJ Ff FF lZ ZJ rZ FW MW HD CG BP GU SX HR LF HS Wm Ac Df tA mE cS Rv DJ Rb mR AAD hJ fH Wg BJE LM J3 Dg WE Cx XM Oq AAE ABN ANU AMF PO OA BFH AUY CS AG AP AI AO AJ AR DR VS KQ iB XS Fx Rc AFW yS XO VY QG AS CM EL BB Hy I6 AEO DW HY IF BF HB BW DN DF MM JG DK BO GH VT HA AM AQ JH ES CL LN JK KD EI EA ML DG EQ HT CI OT FP EV KC GI NQ BC EU UH GM AV FH nE DT RO Ab Mw JA HQ BK AU IY HJ AL EW QU Sc FV WO PI TP MF DD FJ RB OV HZ MG DZ BE RF FG EF IA CK IC JV OO lN AZ BZ UC Ei KH EH BR LB BU KY OC HK Tr VF Bf BX LS UZ Jw Br HH Uy Ch Em BD XB MD JS Om KT GW HE CN CV NS OP JO WI OE AST SC JE WY RX Ay LR QM XC Xv OX Ml HI NR CP Cr Ol WJ Ku GO QZ It GV XD RH ZF TL GQ cX XZ Us bS RJ pF fO YT S8 Dk Zo TT WM PZ UA iW Kr YX Mk Jm Ct UM D3 ZD AFV Fo Es YP Lg uM Bc Mb Jp dY Aq AHY Js iF zD UQ Ov SU Ud Td Bq Sq RA Wv Zf Wz Xb AJK Ye Sa By SE Pu aF Pd dC eJ wG AIN fM VE Nw fP qJ jJ lM Mp lR Ii Ao jC nU oQ vB Zs wK nV rB Lo;simp only[CC,CU,Int.ofNat_lt]
 have zz:∀n,ZL g=⟨⟨[],[]⟩,[],n⟩->(ZL g).r.b.length=0/\(ZL g).r.b.length=0/\(ZL g).r.l.length=0/\(ZL g).r.l.length=0/\(ZL g).k.length=0/\(ZL g).k.length=0/\(ZL g).e=n:=λn h=>by rw[h];exact⟨rfl,rfl,rfl,rfl,rfl,rfl,rfl⟩
 refine⟨by omega,λhe=>?_,λhe=>?_⟩
 ·refine zz _ ?_
  unfold ZL;rw[show (IH g==0)=false by simpa using he];rfl
 ·have hc:IH g=0:=by simpa using he
  have hck:=Vz hc
  refine⟨⟨⟨default,hc⟩,λ_=>⟨λh0=>⟨⟨by omega,by omega,by omega,by omega,by omega⟩,1,⟨(GJ (a:=0) (by omega)).symm,rfl,rfl,λi hi=>by rw[show i=0 by omega]⟩,⟨hc,by omega,by omega⟩,by omega⟩,λh0=>by omega⟩,λk ⟨_,k1,k2⟩=>⟨λhlt=>⟨⟨by omega,λh=>(by cases h),by omega,by omega⟩,k+1,⟨(GJ (by omega)).symm,rfl,rfl,λi hi=>?_⟩,⟨hc,by omega,by omega⟩,by omega⟩,λhge=>⟨default,⟨?_,?_,λi hi=>?_⟩,hc⟩⟩⟩,λ_=>⟨⟨⟨by rw[bJ];exact hg,by rw[bJ];omega,λi hi=>?_⟩,default,⟨?_,Nat.le_refl _,λ_ _=>rfl⟩,hc⟩,λ_=>⟨⟨by omega,by omega⟩,⟨ini0,⟨rfl,rfl,rfl,rfl,rfl,rfl⟩,⟨hc,Nat.le_refl _,Nat.zero_le _,Nat.le_refl _,rfl,rfl,λm hm=>?_⟩,rfl,rfl,rfl⟩,λs hs=>?_,λs hs=>?_⟩⟩⟩
  ·by_cases h:i<k
   ·rw[decide_eq_true h];rfl
   ·rw[decide_eq_false h,show i=k by omega];rfl
  ·rw[bJ];omega
  ·rw[bJ];omega
  ·rw[bJ] at hi;exact BOW hi
  ·rw[bJ] at hi;rw[BOW hi];omega
  ·rw[CB,bJ]
  ·unfold ZL;rw[show (IH g==0)=true by rw[hc];rfl]
   exact sG _ _ _ (Nat.le_refl _) (Nat.zero_le _) (by unfold rR ini0;rw[CB];simp) hm
  ·obtain⟨hI,hb,hl,hk⟩:invF g s/\s.b=[]/\s.l=[]/\s.k=[]:=hs
   refine⟨λht=>?_,λht=>?_⟩
   ·have ht:s.to<g.length:=by rw[CB] at ht;exact ht
    refine⟨⟨⟨s,s.to⟩,⟨rfl,rfl,rfl,rfl,rfl,rfl,rfl⟩,⟨hI,rfl,ht,Nat.le_refl _,Nat.le_of_lt ht,?_⟩,hb,hl,hk⟩,λx hx=>?_⟩
    ·unfold Vr;rw[CB]
    ·obtain⟨⟨xI,x1,x2,x3,x4,x5⟩,xb,xl,xk⟩:BIQ g (rR (AW g) s) x/\x.s.b=[]/\x.s.l=[]/\x.s.k=[]:=hx
     refine⟨⟨λh=>⟨by omega,by omega⟩,λh=>A9 (by rw[CB] at h;exact h),λh=>⟨by omega,by rw[CB];omega⟩,λ_=>A9 x2⟩,λhq=>?_,λhq=>?_⟩
     ·rw[CB] at hq
      obtain⟨q1,q2⟩:=CJI hq
      exact⟨⟨x.s,x.n+1⟩,⟨rfl,rfl,(GJ (by omega)).symm,rfl,rfl,rfl,rfl⟩,⟨⟨xI,x1,x2,by show x.s.to<=x.n+1;omega,q1,x5.trans (BHA q1 q2)⟩,xb,xl,xk⟩,by show g.length-(x.n+1)<_;omega⟩
     ·rw[CB] at hq
      have hn:Vr g (AW g) x.s.to=x.n:=x5.trans (BJV x4 hq)
      have e1:pkM ⟨g,AW g,x.s.to,x.n⟩=O0 g (AW g) x.s.to (Vr g (AW g) x.s.to):=by rw[hn];rfl
      have e2:pkM ⟨g,AW g,x.s.fr,x.n⟩=O0 g (AW g) x.s.fr (Vr g (AW g) x.s.to):=by rw[hn];rfl
      have hfr:x.s.fr<=x.s.to:=xI.2.1
      have hbl:x.s.b.length<=x.s.fr:=xI.2.2.2.1
      have hll:x.s.l.length=x.s.b.length:=xI.2.2.2.2.1
      have hkl:x.s.k.length=x.s.b.length:=xI.2.2.2.2.2.1
      refine⟨⟨⟨⟨by omega,by omega,by rw[CB];omega,by rw[CB];omega⟩,λ_ h=>wX h⟩,BGS hc _ _⟩,λhb1=>zz _ (CHS xI x2 (by rw[<-e1];exact hb1)),λhb1=>⟨⟨⟨⟨by omega,by omega,by rw[CB];omega,by rw[CB];omega⟩,λ_ h=>wX h⟩,BGS hc _ _⟩,λhb2=>?_,λhb2=>?_⟩⟩
      ·obtain⟨f1,f2⟩:=F_go xI x2 (by rw[<-e1];exact hb1) (by rw[<-e2];exact hb2)
       exact⟨goF g (AW g) x.s,⟨rfl,by show ((Vr g (AW g) x.s.to:Nat):Int)=x.n;rw[hn],by rw[e2];rfl,by rw[e2];rfl,by rw[e2];rfl,by rw[e2];rfl⟩,⟨f1,xb,xl,xk⟩,by rw[<-x1];exact f2⟩
      ·obtain⟨f1,f2⟩:=CKV xI x2 (by rw[<-e1];exact hb1) (by rw[<-e2];exact hb2)
       have eB:vT g (AW g) x.s=⟨x.s.to,x.s.to,x.s.ln,[PX g (gD (AW g) x.s.to)],[x.s.ln],[bH ⟨g,((AW g).take x.n).drop x.s.fr⟩]⟩:=by unfold vT;rw[xb,xl,xk,hn];rfl
       rw[eB] at f1 f2
       rw[BGO (by rw[CB];exact x4)]
       refine⟨⟨⟨by omega,by rw[CB];omega⟩,A9 x2,⟨by omega,by omega,by omega,by omega,by omega⟩,by omega,by omega,by omega,by omega,by omega⟩,⟨⟨⟨by omega,by omega,by rw[CB];omega⟩,λi hi=>?_,⟨⟨by omega,by omega⟩,hck.2⟩,by omega,by omega,by omega,by omega,by omega⟩,⟨x.s.to,x.s.to,x.s.ln,[PX g (gD (AW g) x.s.to)],[x.s.ln],[bH ⟨g,((AW g).take x.n).drop x.s.fr⟩]⟩,⟨rfl,rfl,rfl,rfl,rfl,rfl,rfl,rfl,rfl,λi hi=>(by rw[show i=0 by have h1:i<1:=hi;omega];rfl),rfl,oneL _,rfl,λi hi=>(by rw[show i=0 by have h1:i<1:=hi;omega];exact⟨rfl,λ_ _=>rfl⟩)⟩,f1,rfl,by rw[<-x1];exact f2⟩,λy ⟨y1,y2,y3⟩=>⟨y,⟨rfl,by rw[y2],rfl,rfl,rfl,rfl,rfl,rfl,rfl,rfl,λ_ _=>rfl,rfl,λ_ _=>⟨rfl,rfl,rfl,rfl⟩,rfl,λ_ _=>⟨rfl,λ_ _=>rfl⟩⟩,y1,y3⟩⟩
       rw[bD];simp[gD,List.getD_eq_getElem?_getD,List.getElem?_take,show x.s.fr+i<x.n by omega]
   ·rw[CB] at ht
    rw[CIH hI ht,hb,hl,hk]
    exact⟨⟨by omega,by omega,by omega,by omega,by omega⟩,rfl,rfl,rfl,by omega,oneL _,rfl,rfl,rfl⟩
  ·have hI:invF g s:=hs
   have hbl:s.b.length<=s.fr:=hI.2.2.2.1
   have hll:s.l.length=s.b.length:=hI.2.2.2.2.1
   have hkl:s.k.length=s.b.length:=hI.2.2.2.2.2.1
   have hfr:s.fr<=s.to:=hI.2.1
   have hto:s.to<=g.length:=hI.2.2.1
   refine⟨λht=>?_,λht=>?_⟩
   ·have ht:s.to<g.length:=by rw[CB] at ht;exact ht
    refine⟨⟨⟨s,s.to⟩,⟨rfl,rfl,rfl,rfl,rfl,rfl,rfl,rfl,rfl,rfl,rfl,λ_ _=>rfl,rfl,λ_ _=>⟨rfl,rfl,rfl,rfl⟩,rfl,λ_ _=>⟨rfl,λ_ _=>rfl⟩⟩,hI,rfl,ht,Nat.le_refl _,Nat.le_of_lt ht,?_⟩,λx hx=>?_⟩
    ·unfold Vr;rw[CB]
    ·obtain⟨xI,x1,x2,x3,x4,x5⟩:BIQ g (rR (AW g) s) x:=hx
     refine⟨⟨λh=>⟨by omega,by omega⟩,λh=>A9 (by rw[CB] at h;exact h),λh=>⟨by omega,by rw[CB];omega⟩,λ_=>A9 x2⟩,λhq=>?_,λhq=>?_⟩
     ·rw[CB] at hq
      obtain⟨q1,q2⟩:=CJI hq
      exact⟨⟨x.s,x.n+1⟩,⟨rfl,rfl,rfl,(GJ (by omega)).symm,rfl,rfl,rfl,rfl,rfl,rfl,rfl,λ_ _=>rfl,rfl,λ_ _=>⟨rfl,rfl,rfl,rfl⟩,rfl,λ_ _=>⟨rfl,λ_ _=>rfl⟩⟩,⟨xI,x1,x2,by show x.s.to<=x.n+1;omega,q1,x5.trans (BHA q1 q2)⟩,by show g.length-(x.n+1)<_;omega⟩
     ·rw[CB] at hq
      have hn:Vr g (AW g) x.s.to=x.n:=x5.trans (BJV x4 hq)
      have e1:pkM ⟨g,AW g,x.s.to,x.n⟩=O0 g (AW g) x.s.to (Vr g (AW g) x.s.to):=by rw[hn];rfl
      have e2:pkM ⟨g,AW g,x.s.fr,x.n⟩=O0 g (AW g) x.s.fr (Vr g (AW g) x.s.to):=by rw[hn];rfl
      have hfr:x.s.fr<=x.s.to:=xI.2.1
      have hbl:x.s.b.length<=x.s.fr:=xI.2.2.2.1
      have hll:x.s.l.length=x.s.b.length:=xI.2.2.2.2.1
      have hkl:x.s.k.length=x.s.b.length:=xI.2.2.2.2.2.1
      refine⟨⟨⟨⟨by omega,by omega,by rw[CB];omega,by rw[CB];omega⟩,λ_ h=>wX h⟩,BGS hc _ _⟩,λhb1=>zz _ (CHS xI x2 (by rw[<-e1];exact hb1)),λhb1=>⟨⟨⟨⟨by omega,by omega,by rw[CB];omega,by rw[CB];omega⟩,λ_ h=>wX h⟩,BGS hc _ _⟩,λhb2=>?_,λhb2=>?_⟩⟩
      ·obtain⟨f1,f2⟩:=F_go xI x2 (by rw[<-e1];exact hb1) (by rw[<-e2];exact hb2)
       exact⟨goF g (AW g) x.s,⟨rfl,rfl,by show ((Vr g (AW g) x.s.to:Nat):Int)=x.n;rw[hn],rfl,rfl,by rw[e2];rfl,by rw[e2];rfl,by rw[e2];rfl,by rw[e2];rfl,rfl,λ_ _=>rfl,rfl,λ_ _=>⟨rfl,rfl,rfl,rfl⟩,rfl,λ_ _=>⟨rfl,λ_ _=>rfl⟩⟩,f1,by rw[<-x1];exact f2⟩
      ·obtain⟨f1,f2⟩:=CKV xI x2 (by rw[<-e1];exact hb1) (by rw[<-e2];exact hb2)
       have eB:vT g (AW g) x.s=⟨x.s.to,x.s.to,x.s.ln,x.s.b ++ [PX g (gD (AW g) x.s.to)],x.s.l ++ [x.s.ln],x.s.k ++ [bH ⟨g,((AW g).take x.n).drop x.s.fr⟩]⟩:=by unfold vT;rw[hn]
       rw[eB] at f1 f2
       rw[BGO (by rw[CB];exact x4)]
       refine⟨⟨⟨by omega,by rw[CB];omega⟩,A9 x2,⟨by omega,λh=>(by cases h),by omega⟩,by omega,λh=>(by cases h),by omega⟩,⟨⟨⟨by omega,by omega,by rw[CB];omega⟩,λi hi=>?_,⟨⟨by omega,by omega⟩,hck.2⟩,by omega,λh=>(by cases h),by omega⟩,⟨x.s.to,x.s.to,x.s.ln,x.s.b ++ [PX g (gD (AW g) x.s.to)],x.s.l ++ [x.s.ln],x.s.k ++ [bH ⟨g,((AW g).take x.n).drop x.s.fr⟩]⟩,⟨by simp,rfl,by simp,by simp,rfl,rfl,rfl,rfl,by simp,CGQ _ _,by simp,AWD _ _,by simp,λi hi=>?_⟩,f1,rfl,by rw[<-x1];exact f2⟩,λy ⟨y1,y2,y3⟩=>⟨y,⟨rfl,by rw[y2],rfl,rfl,rfl,rfl,rfl,rfl,rfl,rfl,λ_ _=>rfl,rfl,λ_ _=>⟨rfl,rfl,rfl,rfl⟩,rfl,λ_ _=>⟨rfl,λ_ _=>rfl⟩⟩,y1,y3⟩⟩
       rw[bD];simp[gD,List.getD_eq_getElem?_getD,List.getElem?_take,show x.s.fr+i<x.n by omega]
       rw[G3 _ _ (by simpa using hi)]
       cases decide (i<x.s.k.length)<;>exact⟨rfl,λ_ _=>rfl⟩
   ·rw[CB] at ht
    rw[CIH hI ht]
    exact⟨⟨by omega,λh=>(by cases h),by omega,by omega⟩,rfl,Nat.le_refl _,λ_ _=>rfl,by simp,by omega,AWD _ _,rfl,Nat.le_refl _,λ_ _=>⟨rfl,λ_ _=>rfl⟩,rfl⟩
theorem CPK:AH Try.prog H9 (C_few.spec A5):=PU C_few CJU [] [301,303,29064] BKO (λ_=>by kernel_rfl) (λ_=>AA H8 (AA CQO (AA fV (AA CQI (AA ANJ (AA BJU (AA CTK AD))))))) (λ(g:List Gau) h=>CQU g (show g.length<20/\True from h).1) (λ_=>RR rfl rfl) _
end Go.Bal
