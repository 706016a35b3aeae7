/- Package rating: the fewest parts. -/
import Derived.Test.YtbmlgdlbffmjjaaGreatRatT0
set_option linter.unusedVariables false
set_option linter.unusedSimpArgs false
namespace Go.Bal
open Go Go.Sym Go.Proofs
def eLL(l:List (List Int)):DVal:=lst 1 l.length λi=>IM (gD l i)
def CSM(l:List (List Int)):AObj:=.row 1 l.length λi=>IM (gD l i)
structure FS where
 fr:Nat
 to:Nat
 ln:Ln
 b:List Int
 l:List Ln
 k:List (List Int)
 deriving Inhabited
def iotI(n:Nat):List Int:=(List.range n).map Int.ofNat
def AW(g:List Gau):List Int:=stM (QF g) (iotI g.length)
def C0(g:List Gau)(o:List Int)(t:Nat):Nat->Nat->Nat
 |0,k=>k
 |n+1,k=>bif QF g (gD o k)==QF g (gD o t) then C0 g o t n (k+1) else k
def Vq(g:List Gau)(o:List Int)(t:Nat):Nat:=C0 g o t (o.length-t) t
def O1(g:List Gau)(o:List Int)(a b:Nat):List Gau:=pkM ⟨g,o,a,b⟩
def uJ(g:List Gau)(o:List Int)(s:FS):FS:=⟨s.to,s.to,s.ln,s.b ++ [QF g (gD o s.to)],s.l ++ [s.ln],s.k ++ [bC ⟨g,(o.take (Vq g o s.to)).drop s.fr⟩]⟩
def goF(g:List Gau)(o:List Int)(s:FS):FS:=⟨s.fr,Vq g o s.to,(NA (O1 g o s.fr (Vq g o s.to))).1,s.b,s.l,s.k⟩
structure FR where
 r:Rtg
 k:List (List Int)
 e:Int
def gH(g:List Gau)(o:List Int):Nat->FS->FR
 |0,s=>⟨⟨s.b,s.l ++ [s.ln]⟩,s.k,0⟩
 |n+1,s=>bif decide (s.to<o.length) then (bif (NA (O1 g o s.to (Vq g o s.to))).2 then (bif (NA (O1 g o s.fr (Vq g o s.to))).2 then gH g o n (goF g o s) else gH g o n (uJ g o s)) else⟨⟨[],[]⟩,[],6⟩) else⟨⟨s.b,s.l ++ [s.ln]⟩,s.k,0⟩
def ini0:FS:=⟨0,0,UC ⟨0,0⟩,[],[],[]⟩
def ZK(g:List Gau):FR:=bif IH g==0 then gH g (AW g) (2*g.length+2) ini0 else⟨⟨[],[]⟩,[],IH g⟩
def rG(o:List Int)(s:FS):Nat:=2*(o.length-s.to)+(if s.fr<s.to then 1 else 0)
def invF(g:List Gau)(s:FS):Prop:=IH g=0/\s.fr<=s.to/\s.to<=g.length/\s.b.length<=s.fr/\s.l.length=s.b.length/\s.k.length=s.b.length/\(∀m,rG (AW g) s+1<=m->ZK g=gH g (AW g) m s)
def zRtg:HCell:=.live (.box [.d gK,.d gK])
def lnBx(x:Ln):HCell:=.live (.box [.int x.a0,.int x.a1,.int x.b0,.int x.b1])
def fwN(g:List Gau)(k:Nat):List (Nat×AVal):=[(1,.bptr 1000 0),(2,.bptr 1016 0),(6,.bptr 5000 0),(24,.int g.length),(25,.int k)]
def fw6n(g:List Gau):Shape:={ α:=One,dflt:=default,T:=λ_=>⟨fwN g 0,[(1000,.live (bxG g)),(1016,zRtg),(5000,.live (.box [.d gK]))]⟩,inv:=λ_=>IH g=0,meas:=λ_=>g.length+1 }
def fw6o(g:List Gau):Shape:={ α:=Nat,dflt:=0,T:=λk=>⟨fwN g k,[(1000,.live (bxG g)),(1016,zRtg),(5000,.live (.box [.own 201 1 0 k])),(201,.live (.row 1 k λi=>ES i))]⟩,inv:=λk=>IH g=0/\1<=k/\k<=g.length,meas:=λk=>g.length-k,again:=[(201,9048)] }
def fwB(g:List Gau):List (Nat×HCell):=[(1000,.live (bxG g)),(1016,zRtg),(5000,.live (.box [.d (IM (AW g))]))]
def fw10(g:List Gau):Shape:={ α:=One,dflt:=default,T:=λ_=>⟨[(1,.bptr 1000 0),(2,.bptr 1016 0),(6,.bptr 5000 0)],[(1000,.live (bxG g)),(1016,zRtg),(5000,.live (.box [.own 201 1 0 (iotI g.length).length])),(201,.live (rowI (iotI g.length)))]⟩,inv:=λ_=>IH g=0,meas:=λ_=>0 }
def fw11(g:List Gau):Shape:={ α:=One,dflt:=default,T:=λ_=>⟨[(1,.bptr 1000 0),(2,.bptr 1016 0),(6,.bptr 5000 0)],fwB g⟩,inv:=λ_=>IH g=0,meas:=λ_=>0,ffz:=[201] }
def fwS(s:FS)(kv:AVal):List (Nat×AVal):=[(1,.bptr 1000 0),(2,.bptr 1016 0),(6,.bptr 5000 0),(8,.bptr 12000 0),(9,kv),(10,.bptr 14032 0),(11,.int s.fr),(12,.int s.to)]
def fwSA(s:FS):List (Nat×AVal):=fwS s (.d gK)
def fwSB(s:FS):List (Nat×AVal):=fwS s (.own 303 1 0 s.k.length)
def fwHA(g:List Gau)(s:FS):List (Nat×HCell):=fwB g ++ [(12000,zRtg),(14032,lnBx s.ln)]
def fwHB(g:List Gau)(s:FS):List (Nat×HCell):=fwB g ++ [(12000,.live (.box [.own 301 1 0 s.b.length,.own 302 4 0 s.l.length])),(14032,lnBx s.ln),(301,.live (rowI s.b)),(302,.live (rowL s.l)),(303,.live (CSM s.k))]
def fwA(g:List Gau):Shape:={ α:=FS,dflt:=default,T:=λs=>⟨fwSA s,fwHA g s⟩,inv:=λs=>invF g s/\s.b=[]/\s.l=[]/\s.k=[],meas:=λs=>rG (AW g) s,tag:=[0] }
def fwBb(g:List Gau):Shape:={ α:=FS,dflt:=default,T:=λs=>⟨fwSB s,fwHB g s⟩,inv:=λs=>invF g s,meas:=λs=>rG (AW g) s,tag:=[1] }
structure FSK where
 s:FS
 n:Nat
 deriving Inhabited
def BFI(g:List Gau)(m:Nat)(x:FSK):Prop:=invF g x.s/\rG (AW g) x.s=m/\x.s.to<g.length/\x.s.to<=x.n/\x.n<=g.length/\Vq g (AW g) x.s.to=C0 g (AW g) x.s.to (g.length-x.n) x.n
def CSY(g:List Gau)(m:Nat):Shape:={ α:=FSK,dflt:=default,T:=λx=>⟨fwSA x.s ++ [(13,.int x.n)],fwHA g x.s⟩,inv:=λx=>BFI g m x/\x.s.b=[]/\x.s.l=[]/\x.s.k=[],meas:=λx=>g.length-x.n }
def CTS(g:List Gau)(m:Nat):Shape:={ α:=FSK,dflt:=default,T:=λx=>⟨fwSB x.s ++ [(13,.int x.n)],fwHB g x.s⟩,inv:=λx=>BFI g m x,meas:=λx=>g.length-x.n }
def fw27(g:List Gau)(m:Nat):Shape:={ α:=FS,dflt:=default,T:=λs=>⟨[(1,.bptr 1000 0),(2,.bptr 1016 0),(6,.bptr 5000 0),(8,.bptr 12000 0),(9,.own 303 1 0 s.k.length),(10,.bptr 14032 0),(12,.int s.to)],fwHB g s⟩,inv:=λs=>invF g s/\s.fr=s.to/\rG (AW g) s<m,meas:=λ_=>0,first:=[(301,26176),(302,26256),(303,27128)] }
def C_few:Ctr:={ α:=List Gau,xs:=λg=>[.d (KD g)],L:=λ_=>[],val:=λg=>.tup [.d (eRtg (ZK g).r),.d (eLL (ZK g).k),.int (ZK g).e],keep:=λ_=>[],pre:=λg=>[g.length<20/\True] }
def CHY(g:List Gau):Ann:={ ann 123 [(F2,C_Check.spec A2),(BYX,C_ss.spec dGLt),(oN,xN),(R3,C_pk.spec dGPk),(N7,C_isKnot.spec dGsK),(AIR,C_line.spec dGsK),(S6,C_kd.spec dGK)] with mt:=λid=>id==8||id==25||id==26||id==28,loops:=λid=>if id=6 then some [fw6n g,fw6o g] else if id=15 then some [fwA g,fwBb g] else none,inner:=λgs id=>if id=17 then (if gs.getD 1 0=0 then some [CSY g (gs.getD 0 0)] else some [CTS g (gs.getD 0 0)]) else none,cut:=λid=>if id=10 then some [fw10 g] else if id=11 then some [fw11 g] else none,cutIn:=λgs id=>if id=27 then some [fw27 g (gs.getD 0 0)] else none }
def CHJ(g:List Gau):Prop:=AX Try.prog (CHY g) AHF (AF AHF) (C_few.xs g) (AC []) (C_few.val g) [] [] [301,303,29064]
abbrev BJI:=@List.length (List Int)
abbrev LM:=AW
abbrev F7:=@Exists FS
abbrev De:=FS.fr
abbrev VS:=FS.to
abbrev Db:=FS.ln
abbrev ZC:=FS.b
abbrev Py:=FS.l
abbrev AAB:=@Eq (List (List Int))
abbrev ABO:=@List.nil (List Int)
abbrev AMO:=λ(f:FS->Prop)=>∀(x:FS),f x
abbrev AOM:=@Exists FSK
abbrev PR:=FSK.s
abbrev OB:=FSK.n
abbrev BJA:=λ(f:FSK->Prop)=>∀(x:FSK),f x
abbrev AYJ:=@gD (List Int) (@instInhabitedList Int)
abbrev Uh a:=FR.e (ZK a)
abbrev WU a b:=AYJ (FS.k a) b
abbrev AGT a:=FR.k (ZK a)
abbrev uF a:=BJI (AGT a)
abbrev OD a:=BJI (FS.k a)
abbrev eQ a b:=EP (Py a) b
abbrev JU a:=HT (Py a)
abbrev WZ a:=eO (FR.r (ZK a))
abbrev cT a b:=EQ (Py a) b
abbrev Lo a:=HV (Db a)
abbrev eM a b:=EU (Py a) b
abbrev Is a:=HT (WZ a)
abbrev Nq a:=mV (FR.r (ZK a))
abbrev kF a:=FI (ZC a)
abbrev pF a b:=BK a (ZC b)
abbrev MI a b:=rG (LM a) b
abbrev dN a b c:=HC a 0 b c
abbrev O2 a b c d:=dN (wI a) (CV b c) d
abbrev ATS a b:=AN a (kF b)
abbrev Ch a b c d e f g(h:Nat->Prop):=O2 a b c (LQ d (CV (kF e) b) (ATS f e) (ATS g e) h)
abbrev Aw a b c d e f g:=TG (CL (MI a b)) c ((@Eq FR) (ZK d) (gH e (LM f) g b))
abbrev Tw a b:=HE (VS a) b
abbrev D2 a b c:=yN a AM b c
abbrev jN a b:=D2 a CK b
abbrev Ws a b:=jN (BX a) b
abbrev aJ a b:=AN (OD a) b
abbrev Wu a b:=AN (JU a) b
abbrev pE a b:=Dw (Db a) b
abbrev nS a b:=Mb (Db a) b
abbrev nW a b:=HQ (Db a) b
abbrev Sj a:=EG (LM a)
abbrev Te a:=HS (LM a)
abbrev jT a b:=BC a (VS b)
abbrev WW a:=De (PR a)
abbrev AJZ a b:=HA (WW a) b
abbrev AJG a b:=KE (OB a) (WW b)
abbrev Of a b c d:=VW (AJG a b) (LM c) (λi=>AJZ d i)
abbrev Zj a b:=WU (PR a) b
abbrev RI a:=OD (PR a)
abbrev KY a:=Db (PR a)
abbrev QX a:=Py (PR a)
abbrev PH a:=JU (PR a)
abbrev Zg a:=HV (KY a)
abbrev C8 a b:=IQ (LM a) b
abbrev DD a:=VS (PR a)
abbrev kE a b:=C8 a (DD b)
abbrev XX a:=ZC (PR a)
abbrev uO a:=Ar (FI a)
abbrev Ul a:=FI (LM a)
abbrev Az a:=BH (OB a)
abbrev Kr a:=BH (WW a)
abbrev MH a:=EL (LM a)
abbrev cS a b c:=pkM (GPk.mk (BB a) (MH a) b (Az c))
abbrev oZ a b c:=BB (cS a b c)
abbrev Ir a b c:=oZ a (Kr b) c
abbrev AKN a b c:=YR a b b c
abbrev Ic a:=BH (DD a)
abbrev Zk a b:=QU a (OB b)
abbrev ALH a b:=LA (OB a) (Ul b)
abbrev kC a b c:=FW (ALH a b) c
abbrev Md a:=iotI (BP a)
attribute [go_sem] BJI LM F7 De VS Db ZC Py AAB ABO AMO AOM PR OB BJA AYJ Uh WU AGT uF OD eQ JU WZ cT Lo eM Is Nq kF pF MI dN O2 ATS Ch Aw Tw D2 jN Ws aJ Wu pE nS nW Sj Te jT WW AJZ AJG Of Zj RI KY QX PH Zg C8 DD kE XX uO Ul Az Kr MH cS oZ Ir AKN Ic Zk ALH kC Md
theorem CNW(g:List Gau):(CHJ g)=(GO (SS g (VM g)) (QW (Ow g)) (iB (GM (Nq g) 0) (AKN (NT (Is g)) (NT (uF g)) (AK (Uh g) (Ow g)))) (And (WV (Co (AV (WY g) AL (BW g) (BX g) AM (Gz CK AM CK)) (kR g)) (ZV (λi=>HF (kR g) 0 (BP g) (Cj 1 1 GV 1 8) (CG (λj=>EV (And (WY g) (HC (BH j) (FP (BH 0)) (BW g) (Ws g (Tr CK j 1 (λk=>AO k j (BC k 0)))))) (O2 g 1 j (HE j g)) (QU g j) (Gk g))) mM)) (λi=>HF (O2 g 1 i (HE i g)) i (BP g) (UT (Lj i 1) 1 (CL i) (SK i 8)) (CG (λj=>EV (And (WY g) (HC (BH j) (FP (BH i)) (BW g) (Ws g (Tr CK j (CL i) (λk=>AO k j (GJ k (KB k i (BH k) (BH i)))))))) (O2 g 1 j (HE j g)) (QU g j) (QU g i))) (Co (And (BW g) (Ws g (Iz CK (GM (Md g) i) (λj=>Ja j (Md g) j (BH j))))) (kR g)))) (ZV (λi=>TO (kR g) (And (AG AM (HJ (Md g)) (JQ (HJ (Md g)) (GX (Md g)) (CN g) (CW g) (CI g (BB g)) (BU g (BB g)) (BN (JR (Md g)) 20) (Ar (JR (Md g))) (λj=>Lp j (JR (Md g)) (IQ (EL (Md g)) j) (BB g)))) (Co (I0 (BW g) (BX g) AM CK (BK (LM g) (Md g)) (tE (FI (Md g)) (JR (Md g))) (AE (λj=>HD j (LM g) (NK (LM g) j (stM (fJ (BB g)) (EL (Md g))) (AP j))))) (kR g))) (Ma (kR g) (AQ (SV 0 (BG 2000)) (F7 (λj=>AI (SP CK (BD (De j)) (AI (BD (VS j)) (BW g) (BX g) AM (KS CK AM (Te g) (jN (Sj g) (FE CK (nW j Bl) (Lo j) (HV Bl) (nS j Bl) (pE j Bl)))))) (Ch g (De j) (VS j) (Tw j g) j (JU j) (OD j) (λk=>Aw g j k g g g k)) (Wl (ZC j) Rw) (Qh (Py j)) (AAB (FS.k j) ABO))) (AMO (λj=>HF (AQ (Ch g (De j) (VS j) (Tw j g) j (JU j) (OD j) (λk=>Aw g j k g g g k)) (Wl (ZC j) Rw) (Qh (Py j)) (AAB (FS.k j) ABO)) (VS j) (Ul g) (AOM (λk=>AI (AHE AM CK (BC (WW k) (De j)) (jT (DD k) j) (jT (OB k) j) (BW g) (BX g) (KS CK AM (Te g) (jN (Sj g) (FE CK (HQ (KY k) (Db j)) (Zg k) (Lo j) (Mb (KY k) (Db j)) (Dw (KY k) (Db j)))))) (AV (Ch g (WW k) (DD k) (HE (DD k) g) (PR k) (PH k) (RI k) (λl=>Aw g (PR k) l g g g l)) (AN (MI g (PR k)) (MI g j)) (Ym (DD k) g) (CV (DD k) (OB k)) (HE (OB k) g) (AN (Vq g (LM g) (DD k)) (C0 g (LM g) (DD k) (Zk g k) (OB k)))) (Wl (XX k) Rw) (Qh (QX k)) (AAB (FS.k (PR k)) ABO))) (BJA (λk=>BA (AQ (AV (Ch g (WW k) (DD k) (HE (DD k) g) (PR k) (PH k) (RI k) (λl=>Aw g (PR k) l g g g l)) (AN (MI g (PR k)) (MI g j)) (Ym (DD k) g) (CV (DD k) (OB k)) (HE (OB k) g) (AN (Vq g (LM g) (DD k)) (C0 g (LM g) (DD k) (Zk g k) (OB k)))) (Wl (XX k) Rw) (Qh (QX k)) (AAB (FS.k (PR k)) ABO)) (GO (AQ (kC k g (BE (OB k) (Ul g))) (kC k g (TF (C8 g (OB k)) g)) (kC k g (BE (DD k) (Ul g))) (kC k g (TF (kE g k) g))) (BY (ALH k g) (ZN (Bq g (C8 g (OB k))) (Bq g (kE g k)))) (AOM (λl=>EV (AHE AM CK (BC (WW l) (WW k)) (BC (DD l) (DD k)) (AU (OB l) (OB k)) (BW g) (BX g) (KS CK AM (Te g) (jN (Sj g) (FE CK (HQ (KY l) (KY k)) (Zg l) (Zg k) (Mb (KY l) (KY k)) (Dw (KY l) (KY k)))))) (AQ (AV (Ch g (WW l) (DD l) (HE (DD l) g) (PR l) (PH l) (RI l) (λm=>Aw g (PR l) m g g g m)) (AN (MI g (PR l)) (MI g j)) (Ym (DD l) g) (CV (DD l) (OB l)) (HE (OB l) g) (AN (Vq g (LM g) (DD l)) (C0 g (LM g) (DD l) (Zk g l) (OB l)))) (Wl (XX l) Rw) (Qh (QX l)) (AAB (FS.k (PR l)) ABO)) (Zk g l) (Zk g k))) (GO (CM (EJ (DD k)) (Az k) (AI (BK (MH g) (LM g)) (BQ (MH g) (LM g)) (CN g) (CW g) (AS (BK (LM g) (MH g)) (BQ (LM g) (MH g)) (CI g (BB g)) (BU g (BB g)) (And (AQ (BG (Ic k)) (DC (Ic k) (Az k)) (DC (Az k) (YS (MH g))) (uO (MH g))) (DJ (λl=>BA (Og l (MH g)) (TF l (BB g))))) (CN (cS g (Ic k) k)) (CW (cS g (Ic k) k)) (TH (oZ g (Ic k) k)) (TA (λl=>QV l (oZ g (Ic k) k) l l l l))))) (not (Ef (oZ g (Ic k) k))) (iB (GM (Nq g) 0) (AKN (NT (Is g)) (NT (uF g)) (AK (Uh g) 6))) (GO (CM (EJ (WW k)) (Az k) (AI (BK (MH g) (LM g)) (BQ (MH g) (LM g)) (CN g) (CW g) (AS (BK (LM g) (MH g)) (BQ (LM g) (MH g)) (CI g (BB g)) (BU g (BB g)) (And (AQ (BG (Kr k)) (DC (Kr k) (Az k)) (DC (Az k) (YS (MH g))) (uO (MH g))) (DJ (λl=>BA (Og l (MH g)) (TF l (BB g))))) (CN (cS g (Kr k) k)) (CW (cS g (Kr k) k)) (TH (Ir g k k)) (TA (λl=>QV l (Ir g k k) l l l l))))) (Ef (Ir g k k)) (F7 (λl=>EV (SP CK (BC (De l) (WW k)) (AI (BC (VS l) (OB k)) (BW g) (BX g) AM (KS CK AM (Te g) (jN (Sj g) (FE CK (nW l (OC (Ir g k k))) (Lo l) (eR (Ir g k k)) (nS l (OC (Ir g k k))) (pE l (OC (Ir g k k)))))))) (AQ (Ch g (De l) (VS l) (Tw l g) l (JU l) (OD l) (λm=>Aw g l m g g g m)) (Wl (ZC l) Rw) (Qh (Py l)) (AAB (FS.k l) ABO)) (MI g l) (MI g j))) (AG (AQ (BE (DD k) (Ul g)) (TF (kE g k) g) (Cj 1 1 GV 1 8) (Jc UQ GV 1 32)) (And (AG (AG (BG (Kr k)) (DC (Kr k) (Az k)) (DC (Az k) (BH (Ul g)))) (CN g) (LP (λl=>EF l (BB g) g) (GM (Of k k g k) (AJG k k)) (AE (λl=>HD l (Of k k g k) (NK (Of k k g k) l (LM g) (AJZ k l)))) (And (And (Zw g) (uO (Of k k g k))) (TA (λl=>QV l (BB g) l l l l))) (XA 1) (UY 1) GV (Lq 9223372036854775807) (LO 24))) (F7 (λl=>PF (AI AM (aJ l 1) (BC (VS l) (DD k)) (BW g) (Ws g (Ib CK (Te g) (Sj g) AM (GM (ZC l) 1) (Wu l 1) (nW l (KY k)) (ZI (AK (Lo l) (Zg k)) (nS l (KY k)) (pE l (KY k)) (GM (ZC l) 1) (AE (λm=>Ja m (ZC l) m (Bq g (kE g k)))) (Wu l 1) (λm=>FH m (JU l) (Dr (Py l) m (KY k)) (eM l m) (Zg k) (cT l m) (GZ (KY k)) (eQ l m) (JJ (KY k))) (aJ l 1) (λm=>IG m (OD l) (BK (WU l m) (bC (GK.mk (BB g) (Of k k g k)))) (BQ (WU l m) (bC (GK.mk (BB g) (Of k k g k))))))))) (Ch g (De l) (VS l) (Tw l g) l (JU l) (OD l) (λm=>Aw g l m g g g m)) (De l) (VS l) (BN (MI g l) (MI g j))))) (AMO (λl=>BA (EV (Ch g (De l) (VS l) (Tw l g) l (JU l) (OD l) (λm=>Aw g l m g g g m)) (AN (De l) (VS l)) (MI g l) (MI g j)) (F7 (λm=>EV (AV AM (aJ m (OD l)) (jT (De m) l) (jT (VS m) l) (BW g) (Ws g (Ib CK (Te g) (Sj g) AM (pF (ZC m) l) (Wu m (JU l)) (nW m (Db l)) (ZI (AK (Lo m) (Lo l)) (nS m (Db l)) (pE m (Db l)) (pF (ZC m) l) (BQ (ZC m) (ZC l)) (Wu m (JU l)) (λn=>FH n (JU m) (NS (Py m) n (Py l)) (eM m n) (eM l n) (cT m n) (cT l n) (eQ m n) (eQ l n)) (aJ m (OD l)) (λn=>IG n (OD m) (BK (WU m n) (WU l n)) (BQ (WU m n) (WU l n))))))) (Ch g (De m) (VS m) (Tw m g) m (JU m) (OD m) (λn=>Aw g m n g g g n)) (MI g m) (MI g j))))))))))) (YG (Jc UQ GV 1 32) (GM (Nq g) 0) (AN (Is g) 1) (Qv (VR 1) (AE (λk=>FH k (Is g) (Dr (WZ g) k (Db j)) (EU (WZ g) k) (Lo j) (EQ (WZ g) k) (GZ (Db j)) (EP (WZ g) k) (JJ (Db j)))) (NT (uF g)) (CQ (Uh g)))))) (AMO (λj=>HF (Ch g (De j) (VS j) (Tw j g) j (JU j) (OD j) (λk=>Aw g j k g g g k)) (VS j) (Ul g) (AOM (λk=>FK (FK AM (AN (RI k) (OD j)) (BC (WW k) (De j)) (jT (DD k) j) (jT (OB k) j) (BW g) (Ws g (Ib CK (Te g) (Sj g) AM (pF (XX k) j) (AN (PH k) (JU j)) (HQ (KY k) (Db j)) (ZI (AK (Zg k) (Lo j)) (Mb (KY k) (Db j)) (Dw (KY k) (Db j)) (pF (XX k) j) (BQ (XX k) (ZC j)) (AN (PH k) (JU j)) (λl=>FH l (PH k) (NS (QX k) l (Py j)) (EU (QX k) l) (eM j l) (EQ (QX k) l) (cT j l) (EP (QX k) l) (eQ j l)) (AN (RI k) (OD j)) (λl=>IG l (RI k) (BK (Zj k l) (WU j l)) (BQ (Zj k l) (WU j l))))))) (Ch g (WW k) (DD k) (HE (DD k) g) (PR k) (PH k) (RI k) (λl=>Aw g (PR k) l g g g l)) (AN (MI g (PR k)) (MI g j)) (Ym (DD k) g) (CV (DD k) (OB k)) (HE (OB k) g) (AN (Vq g (LM g) (DD k)) (C0 g (LM g) (DD k) (Zk g k) (OB k))))) (BJA (λk=>BA (AV (Ch g (WW k) (DD k) (HE (DD k) g) (PR k) (PH k) (RI k) (λl=>Aw g (PR k) l g g g l)) (AN (MI g (PR k)) (MI g j)) (Ym (DD k) g) (CV (DD k) (OB k)) (HE (OB k) g) (AN (Vq g (LM g) (DD k)) (C0 g (LM g) (DD k) (Zk g k) (OB k)))) (GO (AQ (kC k g (BE (OB k) (Ul g))) (kC k g (TF (C8 g (OB k)) g)) (kC k g (BE (DD k) (Ul g))) (kC k g (TF (kE g k) g))) (BY (ALH k g) (ZN (Bq g (C8 g (OB k))) (Bq g (kE g k)))) (AOM (λl=>EV (FK AM (AN (RI l) (RI k)) (BC (WW l) (WW k)) (BC (DD l) (DD k)) (AU (OB l) (OB k)) (BW g) (Ws g (Ib CK (Te g) (Sj g) AM (BK (XX l) (XX k)) (AN (PH l) (PH k)) (HQ (KY l) (KY k)) (ZI (AK (Zg l) (Zg k)) (Mb (KY l) (KY k)) (Dw (KY l) (KY k)) (BK (XX l) (XX k)) (BQ (XX l) (XX k)) (AN (PH l) (PH k)) (λm=>FH m (PH l) (NS (QX l) m (QX k)) (EU (QX l) m) (EU (QX k) m) (EQ (QX l) m) (EQ (QX k) m) (EP (QX l) m) (EP (QX k) m)) (AN (RI l) (RI k)) (λm=>IG m (RI l) (BK (Zj l m) (Zj k m)) (BQ (Zj l m) (Zj k m))))))) (AV (Ch g (WW l) (DD l) (HE (DD l) g) (PR l) (PH l) (RI l) (λm=>Aw g (PR l) m g g g m)) (AN (MI g (PR l)) (MI g j)) (Ym (DD l) g) (CV (DD l) (OB l)) (HE (OB l) g) (AN (Vq g (LM g) (DD l)) (C0 g (LM g) (DD l) (Zk g l) (OB l)))) (Zk g l) (Zk g k))) (GO (CM (EJ (DD k)) (Az k) (AI (BK (MH g) (LM g)) (BQ (MH g) (LM g)) (CN g) (CW g) (AS (BK (LM g) (MH g)) (BQ (LM g) (MH g)) (CI g (BB g)) (BU g (BB g)) (And (AQ (BG (Ic k)) (DC (Ic k) (Az k)) (DC (Az k) (YS (MH g))) (uO (MH g))) (DJ (λl=>BA (Og l (MH g)) (TF l (BB g))))) (CN (cS g (Ic k) k)) (CW (cS g (Ic k) k)) (TH (oZ g (Ic k) k)) (TA (λl=>QV l (oZ g (Ic k) k) l l l l))))) (not (Ef (oZ g (Ic k) k))) (iB (GM (Nq g) 0) (AKN (NT (Is g)) (NT (uF g)) (AK (Uh g) 6))) (GO (CM (EJ (WW k)) (Az k) (AI (BK (MH g) (LM g)) (BQ (MH g) (LM g)) (CN g) (CW g) (AS (BK (LM g) (MH g)) (BQ (LM g) (MH g)) (CI g (BB g)) (BU g (BB g)) (And (AQ (BG (Kr k)) (DC (Kr k) (Az k)) (DC (Az k) (YS (MH g))) (uO (MH g))) (DJ (λl=>BA (Og l (MH g)) (TF l (BB g))))) (CN (cS g (Kr k) k)) (CW (cS g (Kr k) k)) (TH (Ir g k k)) (TA (λl=>QV l (Ir g k k) l l l l))))) (Ef (Ir g k k)) (F7 (λl=>EV (AV AM (aJ l (RI k)) (BC (De l) (WW k)) (BC (VS l) (OB k)) (BW g) (Ws g (Ib CK (Te g) (Sj g) AM (BK (ZC l) (XX k)) (Wu l (PH k)) (nW l (OC (Ir g k k))) (ZI (AK (Lo l) (eR (Ir g k k))) (nS l (OC (Ir g k k))) (pE l (OC (Ir g k k))) (BK (ZC l) (XX k)) (BQ (ZC l) (XX k)) (Wu l (PH k)) (λm=>FH m (JU l) (NS (Py l) m (QX k)) (eM l m) (EU (QX k) m) (cT l m) (EQ (QX k) m) (eQ l m) (EP (QX k) m)) (aJ l (RI k)) (λm=>IG m (OD l) (BK (WU l m) (Zj k m)) (BQ (WU l m) (Zj k m))))))) (Ch g (De l) (VS l) (Tw l g) l (JU l) (OD l) (λm=>Aw g l m g g g m)) (MI g l) (MI g j))) (AG (AQ (BE (DD k) (Ul g)) (TF (kE g k) g) (UT (And (HS (XX k)) (HD 0 (XX k) AZ)) 1 (CL (kF (PR k))) (SK (kF (PR k)) 8)) (Jc (Zp (PH k)) JE (CL (PH k)) (tW (PH k)))) (And (AG (AG (BG (Kr k)) (DC (Kr k) (Az k)) (DC (Az k) (BH (Ul g)))) (CN g) (LP (λl=>EF l (BB g) g) (GM (Of k k g k) (AJG k k)) (AE (λl=>HD l (Of k k g k) (NK (Of k k g k) l (LM g) (AJZ k l)))) (And (And (Zw g) (uO (Of k k g k))) (TA (λl=>QV l (BB g) l l l l))) (Lj (RI k) 1) (UY 1) JE (CV (CL (RI k)) 9223372036854775807) (LO (SK (RI k) 24)))) (F7 (λl=>PF (AI AM (aJ l (CL (RI k))) (BC (VS l) (DD k)) (BW g) (Ws g (Ib CK (Te g) (Sj g) AM (GM (ZC l) (CL (kF (PR k)))) (Wu l (CL (PH k))) (nW l (KY k)) (ZI (AK (Lo l) (Zg k)) (nS l (KY k)) (pE l (KY k)) (GM (ZC l) (CL (kF (PR k)))) (AE (λm=>Ja m (ZC l) m (KB m (kF (PR k)) (IQ (XX k) m) (Bq g (kE g k))))) (Wu l (CL (PH k))) (λm=>FH m (JU l) (XN (Py l) m (KB m (PH k) (XU (QX k) m) (LL (KY k)))) (eM l m) (KB m (PH k) (EU (QX k) m) (Zg k)) (cT l m) (KB m (PH k) (EQ (QX k) m) (GZ (KY k))) (eQ l m) (KB m (PH k) (EP (QX k) m) (JJ (KY k)))) (aJ l (CL (RI k))) (λm=>IG m (OD l) (GM (WU l m) (hJ (We m (RI k)) (FI (Zj k m)) (FI (bC (GK.mk (BB g) (Of k k g k)))))) (AE (λn=>Ja n (WU l m) n (KB m (RI k) (IQ (Zj k m) n) (IQ (bC (GK.mk (BB g) (Of k k g k))) n))))))))) (Ch g (De l) (VS l) (Tw l g) l (JU l) (OD l) (λm=>Aw g l m g g g m)) (De l) (VS l) (BN (MI g l) (MI g j))))) (AMO (λl=>BA (EV (Ch g (De l) (VS l) (Tw l g) l (JU l) (OD l) (λm=>Aw g l m g g g m)) (AN (De l) (VS l)) (MI g l) (MI g j)) (F7 (λm=>EV (AV AM (aJ m (OD l)) (jT (De m) l) (jT (VS m) l) (BW g) (Ws g (Ib CK (Te g) (Sj g) AM (pF (ZC m) l) (Wu m (JU l)) (nW m (Db l)) (ZI (AK (Lo m) (Lo l)) (nS m (Db l)) (pE m (Db l)) (pF (ZC m) l) (BQ (ZC m) (ZC l)) (Wu m (JU l)) (λn=>FH n (JU m) (NS (Py m) n (Py l)) (eM m n) (eM l n) (cT m n) (cT l n) (eQ m n) (eQ l n)) (aJ m (OD l)) (λn=>IG n (OD m) (BK (WU m n) (WU l n)) (BQ (WU m n) (WU l n))))))) (Ch g (De m) (VS m) (Tw m g) m (JU m) (OD m) (λn=>Aw g m n g g g n)) (MI g m) (MI g j))))))))))) (AG (Jc (Zp (JU j)) JE (CL (JU j)) (tW (JU j))) (pF (Nq g) j) (AS (Ou (kF j)) (AE (λk=>HD k (Nq g) (NK (Nq g) k (ZC j) (AP k)))) (AN (Is g) (CL (JU j))) (Ou (CL (JU j))) (AE (λk=>FH k (Is g) (XN (WZ g) k (XZ k (JU j) (XU (Py j) (AP k)) (LL (Db j)))) (EU (WZ g) k) (XZ k (JU j) (eM j (AP k)) (Lo j)) (EQ (WZ g) k) (XZ k (JU j) (cT j (AP k)) (GZ (Db j))) (EP (WZ g) k) (XZ k (JU j) (eQ j (AP k)) (JJ (Db j))))) (AN (uF g) (OD j)) (Ou (OD j)) (AE (λk=>IG k (uF g) (BK (AYJ (AGT g) k) (WU j (AP k))) (BQ (AYJ (AGT g) k) (WU j (AP k))))) (CQ (Uh g)))))))))))):=by kernel_rfl
theorem bD(n:Nat):(iotI n).length=n:=by simp[iotI]
theorem BOY{n i:Nat}(h:i<n):gD (iotI n) i=i:=by simp[iotI,gD,List.getD_eq_getElem?_getD,h]
theorem AKZ(g:List Gau):(AW g).Perm (iotI g.length):=BWP _ _
theorem CB(g:List Gau):(AW g).length=g.length:=by rw[(AKZ g).length_eq,bD]
theorem xB{g:List Gau}{x:Int}(h:x∈AW g):0<=x/\x<g.length:=by
 have:=(AKZ g).mem_iff.1 h
 unfold iotI at this
 obtain⟨i,hi,rfl⟩:=List.mem_map.1 this
 have:=List.mem_range.1 hi
 exact⟨Int.natCast_nonneg _,Int.ofNat_lt.2 this⟩
theorem zP{g:List Gau}{i:Nat}(h:i<g.length):0<=gD (AW g) i/\gD (AW g) i<g.length:=xB (MF (by rw[CB];exact h))
theorem BFE{l:List Int}{a b:Nat}(h:b<=l.length):(WA (b-a) λi=>gD l (a+i))=(l.take b).drop a:=by
 apply BPD
 ·rw[rng_length,List.length_drop,List.length_take];omega
 ·intro i hi
  rw[rng_length] at hi
  rw[BIS _ _ _ hi,bF]
  simp[gD,List.getD_eq_getElem?_getD,List.getElem?_take,show a+i<b by omega]
theorem BJY{g:List Gau}(hc:IH g=0)(a b:Int):(pkM ⟨g,AW g,a,b⟩).length<1073741824/\∀x∈pkM ⟨g,AW g,a,b⟩,Ht x:=by
 obtain⟨⟨h1,h2⟩,h3⟩:=Vs hc
 refine⟨?_,λx hx=>?_⟩
 ·unfold pkM aY;rw[List.length_map,List.length_drop,List.length_take,CB];omega
 ·unfold pkM at hx
  obtain⟨i,hi,rfl⟩:=List.mem_map.1 hx
  have:=xB (BFO hi)
  exact h3 _ (MF (by omega))
theorem BPW{g:List Gau}{o:List Int}{t:Nat}:∀(n k:Nat),k<=C0 g o t n k/\C0 g o t n k<=k+n
 |0,k=>⟨Nat.le_refl _,Nat.le_refl _⟩
 |n+1,k=>by
  unfold C0
  cases QF g (gD o k)==QF g (gD o t)
  ·exact⟨Nat.le_refl _,by show k<=_;omega⟩
  ·have:=BPW (g:=g) (o:=o) (t:=t) n (k+1);show k<=C0 g o t n (k+1)/\C0 g o t n (k+1)<=_;omega
theorem ABI{g:List Gau}{t:Nat}(h:t<g.length):t<Vq g (AW g) t/\Vq g (AW g) t<=g.length:=by
 unfold Vq
 rw[CB]
 obtain⟨n,hn⟩:∃n,g.length-t=n+1:=⟨g.length-t-1,by omega⟩
 rw[hn];unfold C0
 rw[show (QF g (gD (AW g) t)==QF g (gD (AW g) t))=true by simp]
 have:=BPW (g:=g) (o:=AW g) (t:=t) n (t+1)
 show t<C0 g (AW g) t n (t+1)/\C0 g (AW g) t n (t+1)<=_
 omega
theorem wD{g:List Gau}:∀(m n:Nat) (s:FS),s.fr<=s.to->s.to<=g.length->rG (AW g) s+1<=m->rG (AW g) s+1<=n->gH g (AW g) m s=gH g (AW g) n s
 |0,_,_,_,_,h,_=>by omega
 |m+1,0,_,_,_,_,h=>by omega
 |m+1,n+1,s,h0,h1,h2,h3=>by
  unfold gH
  by_cases hl:s.to<(AW g).length
  ·rw[decide_eq_true hl]
   rw[CB] at hl
   have hx:=ABI hl
   unfold rG at h2 h3
   rw[CB] at h2 h3
   cases hq:(NA (O1 g (AW g) s.to (Vq g (AW g) s.to))).2
   ·rfl
   ·cases hr:(NA (O1 g (AW g) s.fr (Vq g (AW g) s.to))).2
    ·have hne:s.fr≠s.to:=λhe=>by rw[he,hq] at hr;cases hr
     rw[if_pos (by omega)] at h2 h3
     refine wD m n (uJ g (AW g) s) (Nat.le_refl _) h1 ?_ ?_<;>(unfold rG uJ;rw[CB];simp only[Nat.lt_irrefl,if_false];omega)
    ·refine wD m n (goF g (AW g) s) (by show s.fr<=Vq _ _ _;omega) hx.2 ?_ ?_<;>(unfold rG goF;rw[CB];simp only[];split at h2<;>split<;>omega)
  ·rw[decide_eq_false hl];rfl
theorem BDE(g:List Gau)(o:List Int)(n:Nat)(s:FS):gH g o (n+1) s=bif decide (s.to<o.length) then (bif (NA (O1 g o s.to (Vq g o s.to))).2 then (bif (NA (O1 g o s.fr (Vq g o s.to))).2 then gH g o n (goF g o s) else gH g o n (uJ g o s)) else⟨⟨[],[]⟩,[],6⟩) else⟨⟨s.b,s.l ++ [s.ln]⟩,s.k,0⟩:=rfl
theorem CKM{g:List Gau}{s:FS}(h:invF g s)(ht:¬s.to<g.length):ZK g=⟨⟨s.b,s.l ++ [s.ln]⟩,s.k,0⟩:=by
 rw[h.2.2.2.2.2.2 _ (Nat.le_refl _)];unfold gH;rw[decide_eq_false (by rw[CB];exact ht)];rfl
theorem CJW{g:List Gau}{s:FS}(h:invF g s)(ht:s.to<g.length)(hq:(NA (O1 g (AW g) s.to (Vq g (AW g) s.to))).2=false):ZK g=⟨⟨[],[]⟩,[],6⟩:=by
 rw[h.2.2.2.2.2.2 _ (Nat.le_refl _)];unfold gH;rw[decide_eq_true (by rw[CB];exact ht),hq];rfl
theorem F_go{g:List Gau}{s:FS}(h:invF g s)(ht:s.to<g.length)(hq:(NA (O1 g (AW g) s.to (Vq g (AW g) s.to))).2=true)(hr:(NA (O1 g (AW g) s.fr (Vq g (AW g) s.to))).2=true):invF g (goF g (AW g) s)/\rG (AW g) (goF g (AW g) s)<rG (AW g) s:=by
 obtain⟨h1,h2,h3,h4,h5,h6,h7⟩:=h
 have hx:=ABI ht
 have hm:rG (AW g) (goF g (AW g) s)<rG (AW g) s:=by unfold rG goF;rw[CB];simp only[];split<;>split<;>omega
 refine⟨⟨h1,by show s.fr<=Vq _ _ _;omega,hx.2,h4,h5,h6,λm hm2=>?_⟩,hm⟩
 rw[h7 (rG (AW g) s+1) (Nat.le_refl _),BDE,decide_eq_true (by rw[CB];exact ht),hq,hr]
 exact wD (rG (AW g) s) m (goF g (AW g) s) (by show s.fr<=Vq _ _ _;omega) hx.2 hm hm2
theorem CJU{g:List Gau}{s:FS}(h:invF g s)(ht:s.to<g.length)(hq:(NA (O1 g (AW g) s.to (Vq g (AW g) s.to))).2=true)(hr:(NA (O1 g (AW g) s.fr (Vq g (AW g) s.to))).2=false):invF g (uJ g (AW g) s)/\rG (AW g) (uJ g (AW g) s)<rG (AW g) s:=by
 obtain⟨h1,h2,h3,h4,h5,h6,h7⟩:=h
 have hx:=ABI ht
 have hne:s.fr≠s.to:=λhe=>by rw[he,hq] at hr;cases hr
 have hm:rG (AW g) (uJ g (AW g) s)<rG (AW g) s:=by unfold rG uJ;rw[CB];simp only[Nat.lt_irrefl,if_false];rw[if_pos (by omega)];omega
 refine⟨⟨h1,Nat.le_refl _,h3,by show (s.b ++ [_]).length<=s.to;simp;omega,by show (s.l ++ [_]).length=(s.b ++ [_]).length;simp;omega,by show (s.k ++ [_]).length=(s.b ++ [_]).length;simp;omega,λm hm2=>?_⟩,hm⟩
 rw[h7 (rG (AW g) s+1) (Nat.le_refl _),BDE,decide_eq_true (by rw[CB];exact ht),hq,hr]
 exact wD (rG (AW g) s) m (uJ g (AW g) s) (Nat.le_refl _) h3 hm hm2
theorem BFJ{g:List Gau}{t n:Nat}(hn:n<g.length)(h:QF g (gD (AW g) n)=QF g (gD (AW g) t)):C0 g (AW g) t (g.length-n) n=C0 g (AW g) t (g.length-(n+1)) (n+1):=by
 obtain⟨m,hm⟩:∃m,g.length-n=m+1:=⟨g.length-n-1,by omega⟩
 rw[hm,show g.length-(n+1)=m by omega]
 conv=>lhs;unfold C0
 rw[show (QF g (gD (AW g) n)==QF g (gD (AW g) t))=true by rw[h];simp];rfl
theorem BJG{g:List Gau}{t n:Nat}(hn:n<=g.length)(h:(bif decide (n<g.length) then QF g (gD (AW g) n)==QF g (gD (AW g) t) else false)=false):C0 g (AW g) t (g.length-n) n=n:=by
 by_cases hl:n<g.length
 ·rw[decide_eq_true hl] at h
  have h:(QF g (gD (AW g) n)==QF g (gD (AW g) t))=false:=h
  obtain⟨m,hm⟩:∃m,g.length-n=m+1:=⟨g.length-n-1,by omega⟩
  rw[hm];unfold C0;rw[h];rfl
 ·rw[show g.length-n=0 by omega];rfl
theorem CKK{g:List Gau}{t n:Nat}(h:(bif decide (n<g.length) then QF g (gD (AW g) n)==QF g (gD (AW g) t) else false)=true):n<g.length/\QF g (gD (AW g) n)=QF g (gD (AW g) t):=by
 cases hd:decide (n<g.length) with
 |false=>rw[hd] at h;cases h
 |true=>rw[hd] at h;exact⟨of_decide_eq_true hd,by simpa using h⟩
theorem CID(l:List Int)(p:Int)(i:Nat)(hi:i<(l ++ [p]).length):gD (l ++ [p]) i=bif decide (i<l.length) then gD l i else p:=F0 _ _ (by simpa using hi)
theorem CRE(g:List Gau)(hg:g.length<20):CHJ g:=by
 rw[CNW]<;> delta LI Wo UD KA LV JY X9 LL HV GZ JJ NX cI HU EZ AK AN FI AE BA BN IQ BH CV DC ER NC TD KE Ff FD mM ZN sA FT MW HA CG BP GU TA HT LH HR We ZV Cw wI mV eO Rw DJ Og mP AAC hJ fJ Wl BJI LM F7 De VS Db ZC Py AAB ABO AMO AOM PR OB BJA AYJ CS AG AP AI AO AJ AR DF VR KS iB YR Gz Qv AKN yN YG VW QM AS CM EL BB Ib I0 AHE DY HZ IG BG HC BW DK DI MK JH DO BO GJ VT HD AM AQ JI EP CL LP JO KC EJ EB MM DR EQ HS CI OS FP EV KB GI NK BC EU UG GM AV FH lX DT RR ZQ Mz JD HQ BK AU IY HI AL EY QU Uo FW WW PF TG MH DD FK RJ PI IA ME DV BE RB FE EG HX CK HW JU OD kF AZ BY UA Eh KL EF BQ LA BU KX ON HH Sf UY Cq BX LO US Iz Az HE Tr Ap Dr BD WH MI JQ Ns KY GQ HF CN CW NT OE JR XE OC ATS SV JE WU SK Bf LQ PY WZ Ym PH Kr HJ NS CQ Co Qh WY Lj GV RI Jc GO XA QX ZI TO GX cS XZ Ul dN QW oZ cF XX O2 Dw Zp TF WV QL TH kZ Md XU Mb Ic Bl UQ D2 XN AJZ Gk Ef YS Lo tW Ar Lq Ir dI Bq AJG Is jN C8 VM Nq SP Sj Tw Aw Te QV Zg Ws Zj Zk ALH aJ Uh Ch SS Of Wu Ow eM cT tE AGT eR UT Ou eQ rB kE jT Ma kR Ja Cj kC nS pE uO Zw uF pF nW Lp;simp only[CC,CU,Int.ofNat_lt]
 have zz:∀n,ZK g=⟨⟨[],[]⟩,[],n⟩->(ZK g).r.b.length=0/\(ZK g).r.b.length=0/\(ZK g).r.l.length=0/\(ZK g).r.l.length=0/\(ZK g).k.length=0/\(ZK g).k.length=0/\(ZK g).e=n:=λn h=>by rw[h];exact⟨rfl,rfl,rfl,rfl,rfl,rfl,rfl⟩
 refine⟨by omega,λhe=>?_,λhe=>?_⟩
 ·refine zz _ ?_
  unfold ZK;rw[show (IH g==0)=false by simpa using he];rfl
 ·have hc:IH g=0:=by simpa using he
  have hck:=Vs hc
  refine⟨⟨⟨default,hc⟩,λ_=>⟨λh0=>⟨⟨by omega,by omega,by omega,by omega,by omega⟩,1,⟨(GH (a:=0) (by omega)).symm,rfl,rfl,λi hi=>by rw[show i=0 by omega]⟩,⟨hc,by omega,by omega⟩,by omega⟩,λh0=>by omega⟩,λk ⟨_,k1,k2⟩=>⟨λhlt=>⟨⟨by omega,λh=>(by cases h),by omega,by omega⟩,k+1,⟨(GH (by omega)).symm,rfl,rfl,λi hi=>?_⟩,⟨hc,by omega,by omega⟩,by omega⟩,λhge=>⟨default,⟨?_,?_,λi hi=>?_⟩,hc⟩⟩⟩,λ_=>⟨⟨⟨by rw[bD];exact hg,by rw[bD];omega,λi hi=>?_⟩,default,⟨?_,Nat.le_refl _,λ_ _=>rfl⟩,hc⟩,λ_=>⟨⟨by omega,by omega⟩,⟨ini0,⟨rfl,rfl,rfl,rfl,rfl,rfl⟩,⟨hc,Nat.le_refl _,Nat.zero_le _,Nat.le_refl _,rfl,rfl,λm hm=>?_⟩,rfl,rfl,rfl⟩,λs hs=>?_,λs hs=>?_⟩⟩⟩
  ·by_cases h:i<k
   ·rw[decide_eq_true h];rfl
   ·rw[decide_eq_false h,show i=k by omega];rfl
  ·rw[bD];omega
  ·rw[bD];omega
  ·rw[bD] at hi;exact BOY hi
  ·rw[bD] at hi;rw[BOY hi];omega
  ·rw[CB,bD]
  ·unfold ZK;rw[show (IH g==0)=true by rw[hc];rfl]
   exact wD _ _ _ (Nat.le_refl _) (Nat.zero_le _) (by unfold rG ini0;rw[CB];simp) hm
  ·obtain⟨hI,hb,hl,hk⟩:invF g s/\s.b=[]/\s.l=[]/\s.k=[]:=hs
   refine⟨λht=>?_,λht=>?_⟩
   ·have ht:s.to<g.length:=by rw[CB] at ht;exact ht
    refine⟨⟨⟨s,s.to⟩,⟨rfl,rfl,rfl,rfl,rfl,rfl,rfl⟩,⟨hI,rfl,ht,Nat.le_refl _,Nat.le_of_lt ht,?_⟩,hb,hl,hk⟩,λx hx=>?_⟩
    ·unfold Vq;rw[CB]
    ·obtain⟨⟨xI,x1,x2,x3,x4,x5⟩,xb,xl,xk⟩:BFI g (rG (AW g) s) x/\x.s.b=[]/\x.s.l=[]/\x.s.k=[]:=hx
     refine⟨⟨λh=>⟨by omega,by omega⟩,λh=>zP (by rw[CB] at h;exact h),λh=>⟨by omega,by rw[CB];omega⟩,λ_=>zP x2⟩,λhq=>?_,λhq=>?_⟩
     ·rw[CB] at hq
      obtain⟨q1,q2⟩:=CKK hq
      exact⟨⟨x.s,x.n+1⟩,⟨rfl,rfl,(GH (by omega)).symm,rfl,rfl,rfl,rfl⟩,⟨⟨xI,x1,x2,by show x.s.to<=x.n+1;omega,q1,x5.trans (BFJ q1 q2)⟩,xb,xl,xk⟩,by show g.length-(x.n+1)<_;omega⟩
     ·rw[CB] at hq
      have hn:Vq g (AW g) x.s.to=x.n:=x5.trans (BJG x4 hq)
      have e1:pkM ⟨g,AW g,x.s.to,x.n⟩=O1 g (AW g) x.s.to (Vq g (AW g) x.s.to):=by rw[hn];rfl
      have e2:pkM ⟨g,AW g,x.s.fr,x.n⟩=O1 g (AW g) x.s.fr (Vq g (AW g) x.s.to):=by rw[hn];rfl
      have hfr:x.s.fr<=x.s.to:=xI.2.1
      have hbl:x.s.b.length<=x.s.fr:=xI.2.2.2.1
      have hll:x.s.l.length=x.s.b.length:=xI.2.2.2.2.1
      have hkl:x.s.k.length=x.s.b.length:=xI.2.2.2.2.2.1
      refine⟨⟨⟨⟨by omega,by omega,by rw[CB];omega,by rw[CB];omega⟩,λ_ h=>xB h⟩,BJY hc _ _⟩,λhb1=>zz _ (CJW xI x2 (by rw[<-e1];exact hb1)),λhb1=>⟨⟨⟨⟨by omega,by omega,by rw[CB];omega,by rw[CB];omega⟩,λ_ h=>xB h⟩,BJY hc _ _⟩,λhb2=>?_,λhb2=>?_⟩⟩
      ·obtain⟨f1,f2⟩:=F_go xI x2 (by rw[<-e1];exact hb1) (by rw[<-e2];exact hb2)
       exact⟨goF g (AW g) x.s,⟨rfl,by show ((Vq g (AW g) x.s.to:Nat):Int)=x.n;rw[hn],by rw[e2];rfl,by rw[e2];rfl,by rw[e2];rfl,by rw[e2];rfl⟩,⟨f1,xb,xl,xk⟩,by rw[<-x1];exact f2⟩
      ·obtain⟨f1,f2⟩:=CJU xI x2 (by rw[<-e1];exact hb1) (by rw[<-e2];exact hb2)
       have eB:uJ g (AW g) x.s=⟨x.s.to,x.s.to,x.s.ln,[QF g (gD (AW g) x.s.to)],[x.s.ln],[bC ⟨g,((AW g).take x.n).drop x.s.fr⟩]⟩:=by unfold uJ;rw[xb,xl,xk,hn];rfl
       rw[eB] at f1 f2
       rw[BFE (by rw[CB];exact x4)]
       refine⟨⟨⟨by omega,by rw[CB];omega⟩,zP x2,⟨by omega,by omega,by omega,by omega,by omega⟩,by omega,by omega,by omega,by omega,by omega⟩,⟨⟨⟨by omega,by omega,by rw[CB];omega⟩,λi hi=>?_,⟨⟨by omega,by omega⟩,hck.2⟩,by omega,by omega,by omega,by omega,by omega⟩,⟨x.s.to,x.s.to,x.s.ln,[QF g (gD (AW g) x.s.to)],[x.s.ln],[bC ⟨g,((AW g).take x.n).drop x.s.fr⟩]⟩,⟨rfl,rfl,rfl,rfl,rfl,rfl,rfl,rfl,rfl,λi hi=>(by rw[show i=0 by have h1:i<1:=hi;omega];rfl),rfl,oneL _,rfl,λi hi=>(by rw[show i=0 by have h1:i<1:=hi;omega];exact⟨rfl,λ_ _=>rfl⟩)⟩,f1,rfl,by rw[<-x1];exact f2⟩,λy ⟨y1,y2,y3⟩=>⟨y,⟨rfl,by rw[y2],rfl,rfl,rfl,rfl,rfl,rfl,rfl,rfl,λ_ _=>rfl,rfl,λ_ _=>⟨rfl,rfl,rfl,rfl⟩,rfl,λ_ _=>⟨rfl,λ_ _=>rfl⟩⟩,y1,y3⟩⟩
       rw[bF];simp[gD,List.getD_eq_getElem?_getD,List.getElem?_take,show x.s.fr+i<x.n by omega]
   ·rw[CB] at ht
    rw[CKM hI ht,hb,hl,hk]
    exact⟨⟨by omega,by omega,by omega,by omega,by omega⟩,rfl,rfl,rfl,by omega,oneL _,rfl,rfl,rfl⟩
  ·have hI:invF g s:=hs
   have hbl:s.b.length<=s.fr:=hI.2.2.2.1
   have hll:s.l.length=s.b.length:=hI.2.2.2.2.1
   have hkl:s.k.length=s.b.length:=hI.2.2.2.2.2.1
   have hfr:s.fr<=s.to:=hI.2.1
   have hto:s.to<=g.length:=hI.2.2.1
   refine⟨λht=>?_,λht=>?_⟩
   ·have ht:s.to<g.length:=by rw[CB] at ht;exact ht
    refine⟨⟨⟨s,s.to⟩,⟨rfl,rfl,rfl,rfl,rfl,rfl,rfl,rfl,rfl,rfl,rfl,λ_ _=>rfl,rfl,λ_ _=>⟨rfl,rfl,rfl,rfl⟩,rfl,λ_ _=>⟨rfl,λ_ _=>rfl⟩⟩,hI,rfl,ht,Nat.le_refl _,Nat.le_of_lt ht,?_⟩,λx hx=>?_⟩
    ·unfold Vq;rw[CB]
    ·obtain⟨xI,x1,x2,x3,x4,x5⟩:BFI g (rG (AW g) s) x:=hx
     refine⟨⟨λh=>⟨by omega,by omega⟩,λh=>zP (by rw[CB] at h;exact h),λh=>⟨by omega,by rw[CB];omega⟩,λ_=>zP x2⟩,λhq=>?_,λhq=>?_⟩
     ·rw[CB] at hq
      obtain⟨q1,q2⟩:=CKK hq
      exact⟨⟨x.s,x.n+1⟩,⟨rfl,rfl,rfl,(GH (by omega)).symm,rfl,rfl,rfl,rfl,rfl,rfl,rfl,λ_ _=>rfl,rfl,λ_ _=>⟨rfl,rfl,rfl,rfl⟩,rfl,λ_ _=>⟨rfl,λ_ _=>rfl⟩⟩,⟨xI,x1,x2,by show x.s.to<=x.n+1;omega,q1,x5.trans (BFJ q1 q2)⟩,by show g.length-(x.n+1)<_;omega⟩
     ·rw[CB] at hq
      have hn:Vq g (AW g) x.s.to=x.n:=x5.trans (BJG x4 hq)
      have e1:pkM ⟨g,AW g,x.s.to,x.n⟩=O1 g (AW g) x.s.to (Vq g (AW g) x.s.to):=by rw[hn];rfl
      have e2:pkM ⟨g,AW g,x.s.fr,x.n⟩=O1 g (AW g) x.s.fr (Vq g (AW g) x.s.to):=by rw[hn];rfl
      have hfr:x.s.fr<=x.s.to:=xI.2.1
      have hbl:x.s.b.length<=x.s.fr:=xI.2.2.2.1
      have hll:x.s.l.length=x.s.b.length:=xI.2.2.2.2.1
      have hkl:x.s.k.length=x.s.b.length:=xI.2.2.2.2.2.1
      refine⟨⟨⟨⟨by omega,by omega,by rw[CB];omega,by rw[CB];omega⟩,λ_ h=>xB h⟩,BJY hc _ _⟩,λhb1=>zz _ (CJW xI x2 (by rw[<-e1];exact hb1)),λhb1=>⟨⟨⟨⟨by omega,by omega,by rw[CB];omega,by rw[CB];omega⟩,λ_ h=>xB h⟩,BJY hc _ _⟩,λhb2=>?_,λhb2=>?_⟩⟩
      ·obtain⟨f1,f2⟩:=F_go xI x2 (by rw[<-e1];exact hb1) (by rw[<-e2];exact hb2)
       exact⟨goF g (AW g) x.s,⟨rfl,rfl,by show ((Vq g (AW g) x.s.to:Nat):Int)=x.n;rw[hn],rfl,rfl,by rw[e2];rfl,by rw[e2];rfl,by rw[e2];rfl,by rw[e2];rfl,rfl,λ_ _=>rfl,rfl,λ_ _=>⟨rfl,rfl,rfl,rfl⟩,rfl,λ_ _=>⟨rfl,λ_ _=>rfl⟩⟩,f1,by rw[<-x1];exact f2⟩
      ·obtain⟨f1,f2⟩:=CJU xI x2 (by rw[<-e1];exact hb1) (by rw[<-e2];exact hb2)
       have eB:uJ g (AW g) x.s=⟨x.s.to,x.s.to,x.s.ln,x.s.b ++ [QF g (gD (AW g) x.s.to)],x.s.l ++ [x.s.ln],x.s.k ++ [bC ⟨g,((AW g).take x.n).drop x.s.fr⟩]⟩:=by unfold uJ;rw[hn]
       rw[eB] at f1 f2
       rw[BFE (by rw[CB];exact x4)]
       refine⟨⟨⟨by omega,by rw[CB];omega⟩,zP x2,⟨by omega,λh=>(by cases h),by omega⟩,by omega,λh=>(by cases h),by omega⟩,⟨⟨⟨by omega,by omega,by rw[CB];omega⟩,λi hi=>?_,⟨⟨by omega,by omega⟩,hck.2⟩,by omega,λh=>(by cases h),by omega⟩,⟨x.s.to,x.s.to,x.s.ln,x.s.b ++ [QF g (gD (AW g) x.s.to)],x.s.l ++ [x.s.ln],x.s.k ++ [bC ⟨g,((AW g).take x.n).drop x.s.fr⟩]⟩,⟨by simp,rfl,by simp,by simp,rfl,rfl,rfl,rfl,by simp,CID _ _,by simp,AXV _ _,by simp,λi hi=>?_⟩,f1,rfl,by rw[<-x1];exact f2⟩,λy ⟨y1,y2,y3⟩=>⟨y,⟨rfl,by rw[y2],rfl,rfl,rfl,rfl,rfl,rfl,rfl,rfl,λ_ _=>rfl,rfl,λ_ _=>⟨rfl,rfl,rfl,rfl⟩,rfl,λ_ _=>⟨rfl,λ_ _=>rfl⟩⟩,y1,y3⟩⟩
       rw[bF];simp[gD,List.getD_eq_getElem?_getD,List.getElem?_take,show x.s.fr+i<x.n by omega]
       rw[F0 _ _ (by simpa using hi)]
       cases decide (i<x.s.k.length)<;>exact⟨rfl,λ_ _=>rfl⟩
   ·rw[CB] at ht
    rw[CKM hI ht]
    exact⟨⟨by omega,λh=>(by cases h),by omega,by omega⟩,rfl,Nat.le_refl _,λ_ _=>rfl,by simp,by omega,AXV _ _,rfl,Nat.le_refl _,λ_ _=>⟨rfl,λ_ _=>rfl⟩,rfl⟩
theorem CMK:AH Try.prog E2 (C_few.spec A2):=PU C_few CHY [] [301,303,29064] BKB (λ_=>by kernel_rfl) (λ_=>AA N0 (AA CSA (AA bS (AA CTH (AA AOK (AA BGF (AA CQB AD))))))) (λ(g:List Gau) h=>CRE g (show g.length<20/\True from h).1) (λ_=>RU rfl rfl) _
end Go.Bal
