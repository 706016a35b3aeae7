/- Package rating: the fewest parts. -/
import Derived.Test.YtoihhodbkimedaaGreatRatS
set_option linter.unusedVariables false
set_option linter.unusedSimpArgs false
namespace Go.Bal
open Go Go.Sym Go.Proofs
def eLL(l:List (List Int)):DVal:=lst 1 l.length λi=>CZ (gD l i)
def BNQ(l:List (List Int)):AObj:=.row 1 l.length λi=>CZ (gD l i)
structure FS where
 fr:Nat
 to:Nat
 ln:Ln
 b:List Int
 l:List Ln
 k:List (List Int)
 deriving Inhabited
def WH(n:Nat):List Int:=(List.range n).map Int.ofNat
def AU(g:List Gau):List Int:=yG (CY g) (WH g.length)
def X2(g:List Gau)(o:List Int)(t:Nat):Nat->Nat->Nat
 |0,k=>k
 |n+1,k=>bif CY g (gD o k)==CY g (gD o t) then X2 g o t n (k+1) else k
def Mp(g:List Gau)(o:List Int)(t:Nat):Nat:=X2 g o t (o.length-t) t
def T4(g:List Gau)(o:List Int)(a b:Nat):List Gau:=pkM ⟨g,o,a,b⟩
def tC(g:List Gau)(o:List Int)(s:FS):FS:=⟨s.to,s.to,s.ln,s.b ++ [CY g (gD o s.to)],s.l ++ [s.ln],s.k ++ [Vz ⟨g,(o.take (Mp g o s.to)).drop s.fr⟩]⟩
def goF(g:List Gau)(o:List Int)(s:FS):FS:=⟨s.fr,Mp g o s.to,(DC (T4 g o s.fr (Mp g o s.to))).1,s.b,s.l,s.k⟩
structure FR where
 r:Rtg
 k:List (List Int)
 e:Int
def Sw(g:List Gau)(o:List Int):Nat->FS->FR
 |0,s=>⟨⟨s.b,s.l ++ [s.ln]⟩,s.k,0⟩
 |n+1,s=>bif decide (s.to<o.length) then (bif (DC (T4 g o s.to (Mp g o s.to))).2 then (bif (DC (T4 g o s.fr (Mp g o s.to))).2 then Sw g o n (goF g o s) else Sw g o n (tC g o s)) else⟨⟨[],[]⟩,[],6⟩) else⟨⟨s.b,s.l ++ [s.ln]⟩,s.k,0⟩
def ini0:FS:=⟨0,0,BT ⟨0,0⟩,[],[],[]⟩
def IP(g:List Gau):FR:=bif AV g==0 then Sw g (AU g) (2*g.length+2) ini0 else⟨⟨[],[]⟩,[],AV g⟩
def qC(o:List Int)(s:FS):Nat:=2*(o.length-s.to)+(if s.fr<s.to then 1 else 0)
def invF(g:List Gau)(s:FS):Prop:=AV g=0/\s.fr<=s.to/\s.to<=g.length/\s.b.length<=s.fr/\s.l.length=s.b.length/\s.k.length=s.b.length/\(∀m,qC (AU g) s+1<=m->IP g=Sw g (AU g) m s)
def zRtg:HCell:=.live (.box [.d ZU,.d ZU])
def lnBx(x:Ln):HCell:=.live (.box [.int x.a0,.int x.a1,.int x.b0,.int x.b1])
def fwN(g:List Gau)(k:Nat):List (Nat×AVal):=[(1,.bptr 1000 0),(2,.bptr 1016 0),(6,.bptr 5000 0),(24,.int g.length),(25,.int k)]
def fw6n(g:List Gau):Shape:={ α:=One,dflt:=default,T:=λ_=>⟨fwN g 0,[(1000,.live (bxG g)),(1016,zRtg),(5000,.live (.box [.d ZU]))]⟩,inv:=λ_=>AV g=0,meas:=λ_=>g.length+1 }
def fw6o(g:List Gau):Shape:={ α:=Nat,dflt:=0,T:=λk=>⟨fwN g k,[(1000,.live (bxG g)),(1016,zRtg),(5000,.live (.box [.own 201 1 0 k])),(201,.live (.row 1 k λi=>QH i))]⟩,inv:=λk=>AV g=0/\1<=k/\k<=g.length,meas:=λk=>g.length-k,again:=[(201,9048)] }
def fwB(g:List Gau):List (Nat×HCell):=[(1000,.live (bxG g)),(1016,zRtg),(5000,.live (.box [.d (CZ (AU g))]))]
def fw10(g:List Gau):Shape:={ α:=One,dflt:=default,T:=λ_=>⟨[(1,.bptr 1000 0),(2,.bptr 1016 0),(6,.bptr 5000 0)],[(1000,.live (bxG g)),(1016,zRtg),(5000,.live (.box [.own 201 1 0 (WH g.length).length])),(201,.live (rowI (WH g.length)))]⟩,inv:=λ_=>AV g=0,meas:=λ_=>0 }
def fw11(g:List Gau):Shape:={ α:=One,dflt:=default,T:=λ_=>⟨[(1,.bptr 1000 0),(2,.bptr 1016 0),(6,.bptr 5000 0)],fwB g⟩,inv:=λ_=>AV g=0,meas:=λ_=>0,ffz:=[201] }
def fwS(s:FS)(kv:AVal):List (Nat×AVal):=[(1,.bptr 1000 0),(2,.bptr 1016 0),(6,.bptr 5000 0),(8,.bptr 12000 0),(9,kv),(10,.bptr 14032 0),(11,.int s.fr),(12,.int s.to)]
def fwSA(s:FS):List (Nat×AVal):=fwS s (.d ZU)
def fwSB(s:FS):List (Nat×AVal):=fwS s (.own 303 1 0 s.k.length)
def fwHA(g:List Gau)(s:FS):List (Nat×HCell):=fwB g ++ [(12000,zRtg),(14032,lnBx s.ln)]
def fwHB(g:List Gau)(s:FS):List (Nat×HCell):=fwB g ++ [(12000,.live (.box [.own 301 1 0 s.b.length,.own 302 4 0 s.l.length])),(14032,lnBx s.ln),(301,.live (rowI s.b)),(302,.live (rowL s.l)),(303,.live (BNQ s.k))]
def fwA(g:List Gau):Shape:={ α:=FS,dflt:=default,T:=λs=>⟨fwSA s,fwHA g s⟩,inv:=λs=>invF g s/\s.b=[]/\s.l=[]/\s.k=[],meas:=λs=>qC (AU g) s,tag:=[0] }
def fwBb(g:List Gau):Shape:={ α:=FS,dflt:=default,T:=λs=>⟨fwSB s,fwHB g s⟩,inv:=λs=>invF g s,meas:=λs=>qC (AU g) s,tag:=[1] }
structure FSK where
 s:FS
 n:Nat
 deriving Inhabited
def BKO(g:List Gau)(m:Nat)(x:FSK):Prop:=invF g x.s/\qC (AU g) x.s=m/\x.s.to<g.length/\x.s.to<=x.n/\x.n<=g.length/\Mp g (AU g) x.s.to=X2 g (AU g) x.s.to (g.length-x.n) x.n
def CSS(g:List Gau)(m:Nat):Shape:={ α:=FSK,dflt:=default,T:=λx=>⟨fwSA x.s ++ [(13,.int x.n)],fwHA g x.s⟩,inv:=λx=>BKO g m x/\x.s.b=[]/\x.s.l=[]/\x.s.k=[],meas:=λx=>g.length-x.n }
def CSX(g:List Gau)(m:Nat):Shape:={ α:=FSK,dflt:=default,T:=λx=>⟨fwSB x.s ++ [(13,.int x.n)],fwHB g x.s⟩,inv:=λx=>BKO g m x,meas:=λx=>g.length-x.n }
def fw27(g:List Gau)(m:Nat):Shape:={ α:=FS,dflt:=default,T:=λs=>⟨[(1,.bptr 1000 0),(2,.bptr 1016 0),(6,.bptr 5000 0),(8,.bptr 12000 0),(9,.own 303 1 0 s.k.length),(10,.bptr 14032 0),(12,.int s.to)],fwHB g s⟩,inv:=λs=>invF g s/\s.fr=s.to/\qC (AU g) s<m,meas:=λ_=>0,first:=[(301,26176),(302,26256),(303,27128)] }
def C_few:Ctr:={ α:=List Gau,xs:=λg=>[.d (BX g)],L:=λ_=>[],val:=λg=>.tup [.d (eRtg (IP g).r),.d (eLL (IP g).k),.int (IP g).e],keep:=λ_=>[],pre:=λg=>[g.length<1073741824/\True] }
def CJM(g:List Gau):Ann:={ ann 123 [(nS,C_Check.spec WJ),(BTK,C_ss.spec dGLt),(kS,wZ),(ADJ,C_pk.spec dGPk),(Wx,C_isKnot.spec dGsK),(AFL,C_line.spec dGsK),(ADQ,C_kd.spec dGK)] with mt:=λid=>id==8||id==25||id==26||id==28,loops:=λid=>if id=6 then some [fw6n g,fw6o g] else if id=15 then some [fwA g,fwBb g] else none,inner:=λgs id=>if id=17 then (if gs.getD 1 0=0 then some [CSS g (gs.getD 0 0)] else some [CSX g (gs.getD 0 0)]) else none,cut:=λid=>if id=10 then some [fw10 g] else if id=11 then some [fw11 g] else none,cutIn:=λgs id=>if id=27 then some [fw27 g (gs.getD 0 0)] else none }
def CJG(g:List Gau):Prop:=BQ Try.prog (CJM g) AQS (AI AQS) (C_few.xs g) (AD []) (C_few.val g) [] [] [301,303,29064]
abbrev AJT:=@Eq (List Ln)
abbrev AJL:=@List.nil Ln
abbrev HF:=@List.length (List Int)
abbrev DK:=AU
abbrev AAJ:=@Exists FS
abbrev XX:=FS.fr
abbrev VA:=FS.to
abbrev WC:=FS.ln
abbrev MG:=FS.b
abbrev AKH:=@Eq (List (List Int))
abbrev AJQ:=@List.nil (List Int)
abbrev ATH:=λ(f:FS->Prop)=>∀(x:FS),f x
abbrev AUR:=@Exists FSK
abbrev RE:=FSK.s
abbrev LG:=FSK.n
abbrev BKK:=λ(f:FSK->Prop)=>∀(x:FSK),f x
abbrev IF:=@gD (List Int) (@instInhabitedList Int)
abbrev yN:=@cond Nat
abbrev Bh a:=FR.e (IP a)
abbrev XY a b c(d:Nat->Prop):=GA a b c (AK d)
abbrev QG a b c d:=XY a b (AY c d) (λi=>IH i c d)
abbrev Bb a b:=IF (FS.k a) b
abbrev fL a:=FR.k (IP a)
abbrev Ko a:=HF (fL a)
abbrev Hk a:=HF (FS.k a)
abbrev pC a b:=AR a (Hk b)
abbrev Vo a b:=RG (FS.l a) b
abbrev PS a:=ID (FS.l a)
abbrev yX a:=FR.r (IP a)
abbrev uV a b:=RF (yX a) b
abbrev XK a:=JV (yX a)
abbrev Fr a:=TO (yX a)
abbrev nL a b:=AY a (MG b)
abbrev TH a b:=qC (DK a) b
abbrev Ey a b c:=CA a 0 b c
abbrev Ob a b c:=Ey (Ep a) b c
abbrev pJ a b c d:=Ob a (BU b c) d
abbrev Oy a b c d:=pJ a (XX b) (VA c) d
abbrev eD a b:=BU (CG a) b
abbrev YZ a b c d e f(g:Nat->Prop):=CU (FX a b) (eD c d) e f g
abbrev ZB a b c d e f g:=PX (EO (TH a b)) c ((@Eq FR) (IP d) (Sw e (DK f) g b))
abbrev AYK a b:=IC a (MG b)
abbrev Qp a b:=AYK (Hk a) b
abbrev Of a b:=AYK (PS a) b
abbrev dH a b c:=Cm a AL b c
abbrev nA a b:=dH a DH b
abbrev Ut a b:=nA (BN a) b
abbrev oJ a b:=Dh (WC a) b
abbrev oN a b:=Cy (WC a) b
abbrev oK a b:=Ct (WC a) b
abbrev nZ a b:=PF (WC a) b
abbrev Pk a:=FC (DK a)
abbrev fV a b:=CB a (VA b)
abbrev ZW a:=XX (RE a)
abbrev AQH a b:=LM (ZW a) b
abbrev AQA a b:=EF (LG a) (ZW b)
abbrev aC a b c d:=JO (AQA a b) (DK c) (λi=>AQH d i)
abbrev QN a:=Hk (RE a)
abbrev MR a:=WC (RE a)
abbrev gK a b:=Vo (RE a) b
abbrev NZ a:=PS (RE a)
abbrev FY a:=VA (RE a)
abbrev SK a:=MG (RE a)
abbrev Cc a:=AQ (LG a)
abbrev On a:=AQ (ZW a)
abbrev TA a:=CT (DK a)
abbrev AVG a b c:=pkM (GPk.mk (BH a) (TA a) b (Cc c))
abbrev Pz a b:=AVG a (On b) b
abbrev fN a b:=(@Prod.fst Ln Bool) (DC (BH (Pz a b)))
abbrev BEJ a b c:=Xb a b b c
abbrev Uw a b:=AO (Bh a) b
abbrev eU a:=MV (CG a)
abbrev lW a:=AQ (FY a)
abbrev Vb a b c:=AVG a (lW b) c
abbrev Lc a b:=IC a (SK b)
abbrev AQG a b:=Yi (LG a) (DK b)
abbrev dM a b c:=EX (AQG a b) c
abbrev Qj:=YS (GE 0)
abbrev Xu a:=WH (CI a)
abbrev Kz a:=DU (AQ a)
abbrev qH a b c:=Cm a b a c
attribute [go_sem] AJT AJL HF DK AAJ XX VA WC MG AKH AJQ ATH AUR RE LG BKK IF yN Bh XY QG Bb fL Ko Hk pC Vo PS yX uV XK Fr nL TH Ey Ob pJ Oy eD YZ ZB AYK Qp Of dH nA Ut oJ oN oK nZ Pk fV ZW AQH AQA aC QN MR gK NZ FY SK Cc On TA AVG Pz fN BEJ Uw eU lW Vb Lc AQG dM Qj Xu Kz qH
theorem COW(g:List Gau):(CJG g)=(VE g (ZK g) (CS (Cq g) (Yd (eU (Fr g)) (BEJ (MV (XK g)) (MV (Ko g)) (Uw g (Ao g)))) (And (KC (QA (BJ (NW g) BY (AZ g) (BN g) AL (qH DH AL DH)) (YC g)) (XB (λi=>OW (YC g) 0 g (SR Qj 1 MP MU (OA 8)) (FB (λj=>Ar (And (NW g) (YP (AQ j) (Kz 0) g (Ut g (Yz DH AL (GE j) (AK (λk=>AT k j (CB k 0))))))) (Ob g (NB j) (FX j g)) g j (ZG g))) Sv)) (λi=>OW (Ob g (NB i) (FX i g)) i g (SR (YV i 1) 1 MD (OC i) (ZL i 8)) (FB (λj=>HR (And (NW g) (YP (AQ j) (Kz i) g (Ut g (Yz DH AL (HC j i) (AK (λk=>AT k j (CQ k (JQ k i (AQ k) (AQ i))))))))) (Ob g (NB j) (FX j g)) g j i)) (QA (Le g (Ut g (Yz DH AL (YB (Xu g) i) (AK (λj=>Nb j (Xu g) j (AQ j)))))) (YC g)))) (XB (λi=>ME (YC g) (And (rL AL (IA (Xu g)) (FA (Xu g)) (AF (CE g) (BB g) (KX g) (NP g) (pSt (HY g) (CT (Xu g))))) (QA (FO (AZ g) (BN g) AL DH AL DH (AY (DK g) (Xu g)) (JF (BP (CG (Xu g))) (CT (Xu g))) (λj=>GH j (DK g) (yG (Ua g) (CT (Xu g))) (BP j))) (YC g))) (Lt (YC g) (AN (And ML (BC 2000)) (AAJ (λj=>AF (LO DH (BD (XX j)) (AF (BD (VA j)) (AZ g) (BN g) AL (SC DH AL (CX (DK g)) (nA (Pk g) (AF DH (nZ j (BT (hd17 0 0))) (oK j (BT (hd17 0 0))) (oN j (BT (hd17 0 0))) (oJ j (BT (hd17 0 0)))))))) (Oy g j j (YZ (VA j) g (MG j) (XX j) (Of j j) (Qp j j) (λk=>ZB g j k g g g k))) (Kc (MG j) My) (AJT (FS.l j) AJL) (AKH (FS.k j) AJQ))) (ATH (λj=>FH (AN (Oy g j j (YZ (VA j) g (MG j) (XX j) (Of j j) (Qp j j) (λk=>ZB g j k g g g k))) (Kc (MG j) My) (AJT (FS.l j) AJL) (AKH (FS.k j) AJQ)) (VA j) (EK (DK g)) (AUR (λk=>AF (zH AL DH (CB (ZW k) (XX j)) (fV (FY k) j) (fV (LG k) j) (AZ g) (BN g) (SC DH AL (CX (DK g)) (nA (Pk g) (AF DH (PF (MR k) (WC j)) (Ct (MR k) (WC j)) (Cy (MR k) (WC j)) (Dh (MR k) (WC j)))))) (BJ (pJ g (ZW k) (FY k) (YZ (FY k) g (SK k) (ZW k) (Lc (NZ k) k) (Lc (QN k) k) (λl=>ZB g (RE k) l g g g l))) (AR (TH g (RE k)) (TH g j)) (RD (FY k) g) (BU (FY k) (LG k)) (FX (LG k) g) (AR (Mp g (DK g) (FY k)) (X2 g (DK g) (FY k) (OK g (LG k)) (LG k)))) (Kc (SK k) My) (AJT (FS.l (RE k)) AJL) (AKH (FS.k (RE k)) AJQ))) (BKK (λk=>BV (AN (BJ (pJ g (ZW k) (FY k) (YZ (FY k) g (SK k) (ZW k) (Lc (NZ k) k) (Lc (QN k) k) (λl=>ZB g (RE k) l g g g l))) (AR (TH g (RE k)) (TH g j)) (RD (FY k) g) (BU (FY k) (LG k)) (FX (LG k) g) (AR (Mp g (DK g) (FY k)) (X2 g (DK g) (FY k) (OK g (LG k)) (LG k)))) (Kc (SK k) My) (AJT (FS.l (RE k)) AJL) (AKH (FS.k (RE k)) AJQ)) (DY (dM k g (KJ (Cc k) (DK g))) (dM k g (Lh (DK g) (LG k) g)) (dM k g (IN (FY k) (DK g))) (dM k g (Lh (DK g) (FY k) g)) (CS (FU (AQG k g) (OL (Fi g (DK g) (LG k)) (Fi g (DK g) (FY k)))) (AUR (λl=>HR (zH AL DH (CB (ZW l) (ZW k)) (CB (FY l) (FY k)) (EA (LG l) (Cc k)) (AZ g) (BN g) (SC DH AL (CX (DK g)) (nA (Pk g) (AF DH (PF (MR l) (MR k)) (Ct (MR l) (MR k)) (Cy (MR l) (MR k)) (Dh (MR l) (MR k)))))) (AN (BJ (pJ g (ZW l) (FY l) (YZ (FY l) g (SK l) (ZW l) (Lc (NZ l) l) (Lc (QN l) l) (λm=>ZB g (RE l) m g g g m))) (AR (TH g (RE l)) (TH g j)) (RD (FY l) g) (BU (FY l) (LG l)) (FX (LG l) g) (AR (Mp g (DK g) (FY l)) (X2 g (DK g) (FY l) (OK g (LG l)) (LG l)))) (Kc (SK l) My) (AJT (FS.l (RE l)) AJL) (AKH (FS.k (RE l)) AJQ)) g (LG l) (LG k))) (UN (HH (lW k) (Cc k) (AF (AY (TA g) (DK g)) (BM (TA g) (DK g)) (CE g) (BB g) (AX (AY (DK g) (TA g)) (BM (DK g) (TA g)) (KX g) (NP g) (DY (BC (lW k)) (DD (lW k) (Cc k)) (VT (Cc k) (TA g)) (SL (TA g)) (BG (λl=>BV (Ms l (TA g)) (DV l (HY g))))) (CE (Vb g k k)) (BB (Vb g k k)) (FN (Vb g k k)) (RZ (Vb g k k))))) (Kt (Vb g k k)) (Yd (eU (Fr g)) (BEJ (MV (XK g)) (MV (Ko g)) (Uw g 6))) (UN (HH (On k) (Cc k) (AF (AY (TA g) (DK g)) (BM (TA g) (DK g)) (CE g) (BB g) (AX (AY (DK g) (TA g)) (BM (DK g) (TA g)) (KX g) (NP g) (DY (BC (On k)) (DD (On k) (Cc k)) (VT (Cc k) (TA g)) (SL (TA g)) (BG (λl=>BV (Ms l (TA g)) (DV l (HY g))))) (CE (Pz g k)) (BB (Pz g k)) (FN (Pz g k)) (RZ (Pz g k))))) (gL (Pz g k)) (AAJ (λl=>BW (LO DH (CB (XX l) (ZW k)) (AF (CB (VA l) (LG k)) (AZ g) (BN g) AL (SC DH AL (CX (DK g)) (nA (Pk g) (AF DH (nZ l (fN g k)) (oK l (fN g k)) (oN l (fN g k)) (oJ l (fN g k))))))) (AN (Oy g l l (YZ (VA l) g (MG l) (XX l) (Of l l) (Qp l l) (λm=>ZB g l m g g g m))) (Kc (MG l) My) (AJT (FS.l l) AJL) (AKH (FS.k l) AJQ)) (TH g l) (TH g j))) (EI (IN (FY k) (DK g)) (Lh (DK g) (FY k) g) (SR Qj 1 MP MU (OA 8)) (SR (Ak 4) 4 MP MU (OA 32)) (And (AG (AG (BC (On k)) (DD (On k) (Cc k)) (VT (Cc k) (DK g))) (CE g) (AX (BB g) (YB (aC k k g k) (AQA k k)) (AK (λl=>GH l (aC k k g k) (DK g) (AQH k l))) (And (And (FN g) (SL (aC k k g k))) (RZ g)) Qj (VO 1) MP MU ZC)) (AAJ (λl=>AN (AF AL (GE (Hk l)) (CB (VA l) (FY k)) (AZ g) (Ut g (QK DH (DK g) (Pk g) AL (GE (CG (MG l))) AL (GE (PS l)) (nZ l (MR k)) (FO (oK l (MR k)) (oN l (MR k)) (oJ l (MR k)) (GE (CG (MG l))) (AK (λm=>Nb m (MG l) m (Fi g (DK g) (FY k)))) (GE (PS l)) (AK (λm=>QE m (PS l) (Vo l m) (MR k))) (GE (Hk l)) (λm=>QG m (Hk l) (Bb l m) (Vz (cG g (aC k k g k)))))))) (Oy g l l (YZ (VA l) g (MG l) (XX l) (Of l l) (Qp l l) (λm=>ZB g l m g g g m))) (AR (XX l) (VA l)) (BZ (TH g l) (TH g j))))) (ATH (λl=>BV (BW (Oy g l l (YZ (VA l) g (MG l) (XX l) (Of l l) (Qp l l) (λm=>ZB g l m g g g m))) (AR (XX l) (VA l)) (TH g l) (TH g j)) (AAJ (λm=>BW (BJ AL (pC (Hk m) l) (fV (XX m) l) (fV (VA m) l) (AZ g) (Ut g (QK DH (DK g) (Pk g) AL (nL (MG m) l) AL (AR (PS m) (PS l)) (nZ m (WC l)) (FO (oK m (WC l)) (oN m (WC l)) (oJ m (WC l)) (nL (MG m) l) (BM (MG m) (MG l)) (AR (PS m) (PS l)) (AK (λn=>QE n (PS m) (Vo m n) (Vo l n))) (pC (Hk m) l) (λn=>QG n (Hk m) (Bb m n) (Bb l n)))))) (Oy g m m (YZ (VA m) g (MG m) (XX m) (Of m m) (Qp m m) (λn=>ZB g m n g g g n))) (TH g m) (TH g j)))))))))))) (rL (SR (Ak 4) 4 MP MU (OA 32)) (eU (Fr g)) (GE (XK g)) (Yz Db (AK (λk=>QE k (XK g) (uV g k) (WC j))) (MV (Ko g)) (CP (Bh g)))))) (ATH (λj=>FH (Oy g j j (YZ (VA j) g (MG j) (XX j) (Of j j) (Qp j j) (λk=>ZB g j k g g g k))) (VA j) (EK (DK g)) (AUR (λk=>AG (IW (pC (QN k) j) (AF (CB (ZW k) (XX j)) (fV (FY k) j) (fV (LG k) j) (AZ g) (Ut g (QK DH (DK g) (Pk g) AL (nL (SK k) j) AL (AR (NZ k) (PS j)) (PF (MR k) (WC j)) (FO (Ct (MR k) (WC j)) (Cy (MR k) (WC j)) (Dh (MR k) (WC j)) (nL (SK k) j) (BM (SK k) (MG j)) (AR (NZ k) (PS j)) (AK (λl=>QE l (NZ k) (gK k l) (Vo j l))) (pC (QN k) j) (λl=>QG l (QN k) (Bb (RE k) l) (Bb j l))))))) (pJ g (ZW k) (FY k) (YZ (FY k) g (SK k) (ZW k) (Lc (NZ k) k) (Lc (QN k) k) (λl=>ZB g (RE k) l g g g l))) (AF (AR (TH g (RE k)) (TH g j)) (RD (FY k) g) (BU (FY k) (LG k)) (FX (LG k) g) (AR (Mp g (DK g) (FY k)) (X2 g (DK g) (FY k) (OK g (LG k)) (LG k)))))) (BKK (λk=>BV (BJ (pJ g (ZW k) (FY k) (YZ (FY k) g (SK k) (ZW k) (Lc (NZ k) k) (Lc (QN k) k) (λl=>ZB g (RE k) l g g g l))) (AR (TH g (RE k)) (TH g j)) (RD (FY k) g) (BU (FY k) (LG k)) (FX (LG k) g) (AR (Mp g (DK g) (FY k)) (X2 g (DK g) (FY k) (OK g (LG k)) (LG k)))) (DY (dM k g (KJ (Cc k) (DK g))) (dM k g (Lh (DK g) (LG k) g)) (dM k g (IN (FY k) (DK g))) (dM k g (Lh (DK g) (FY k) g)) (CS (FU (AQG k g) (OL (Fi g (DK g) (LG k)) (Fi g (DK g) (FY k)))) (AUR (λl=>HR (IW (AR (QN l) (QN k)) (AF (CB (ZW l) (ZW k)) (CB (FY l) (FY k)) (EA (LG l) (Cc k)) (AZ g) (Ut g (QK DH (DK g) (Pk g) AL (AY (SK l) (SK k)) AL (AR (NZ l) (NZ k)) (PF (MR l) (MR k)) (FO (Ct (MR l) (MR k)) (Cy (MR l) (MR k)) (Dh (MR l) (MR k)) (AY (SK l) (SK k)) (BM (SK l) (SK k)) (AR (NZ l) (NZ k)) (AK (λm=>QE m (NZ l) (gK l m) (gK k m))) (AR (QN l) (QN k)) (λm=>QG m (QN l) (Bb (RE l) m) (Bb (RE k) m))))))) (BJ (pJ g (ZW l) (FY l) (YZ (FY l) g (SK l) (ZW l) (Lc (NZ l) l) (Lc (QN l) l) (λm=>ZB g (RE l) m g g g m))) (AR (TH g (RE l)) (TH g j)) (RD (FY l) g) (BU (FY l) (LG l)) (FX (LG l) g) (AR (Mp g (DK g) (FY l)) (X2 g (DK g) (FY l) (OK g (LG l)) (LG l)))) g (LG l) (LG k))) (UN (HH (lW k) (Cc k) (AF (AY (TA g) (DK g)) (BM (TA g) (DK g)) (CE g) (BB g) (AX (AY (DK g) (TA g)) (BM (DK g) (TA g)) (KX g) (NP g) (DY (BC (lW k)) (DD (lW k) (Cc k)) (VT (Cc k) (TA g)) (SL (TA g)) (BG (λl=>BV (Ms l (TA g)) (DV l (HY g))))) (CE (Vb g k k)) (BB (Vb g k k)) (FN (Vb g k k)) (RZ (Vb g k k))))) (Kt (Vb g k k)) (Yd (eU (Fr g)) (BEJ (MV (XK g)) (MV (Ko g)) (Uw g 6))) (UN (HH (On k) (Cc k) (AF (AY (TA g) (DK g)) (BM (TA g) (DK g)) (CE g) (BB g) (AX (AY (DK g) (TA g)) (BM (DK g) (TA g)) (KX g) (NP g) (DY (BC (On k)) (DD (On k) (Cc k)) (VT (Cc k) (TA g)) (SL (TA g)) (BG (λl=>BV (Ms l (TA g)) (DV l (HY g))))) (CE (Pz g k)) (BB (Pz g k)) (FN (Pz g k)) (RZ (Pz g k))))) (gL (Pz g k)) (AAJ (λl=>BW (BJ AL (AR (Hk l) (QN k)) (CB (XX l) (ZW k)) (CB (VA l) (LG k)) (AZ g) (Ut g (QK DH (DK g) (Pk g) AL (AY (MG l) (SK k)) AL (AR (PS l) (NZ k)) (nZ l (fN g k)) (FO (oK l (fN g k)) (oN l (fN g k)) (oJ l (fN g k)) (AY (MG l) (SK k)) (BM (MG l) (SK k)) (AR (PS l) (NZ k)) (AK (λm=>QE m (PS l) (Vo l m) (gK k m))) (AR (Hk l) (QN k)) (λm=>QG m (Hk l) (Bb l m) (Bb (RE k) m)))))) (Oy g l l (YZ (VA l) g (MG l) (XX l) (Of l l) (Qp l l) (λm=>ZB g l m g g g m))) (TH g l) (TH g j))) (EI (IN (FY k) (DK g)) (Lh (DK g) (FY k) g) (SR (And (CX (SK k)) (DF 0 (SK k) (BL 1))) 1 MD (BU (Ht (SK k)) 9223372036854775807) (OR (Ht (SK k)) 8)) (SR (YV (NZ k) 4) 4 MD (OC (NZ k)) (ZL (NZ k) 32)) (And (AG (AG (BC (On k)) (DD (On k) (Cc k)) (VT (Cc k) (DK g))) (CE g) (AX (BB g) (YB (aC k k g k) (AQA k k)) (AK (λl=>GH l (aC k k g k) (DK g) (AQH k l))) (And (And (FN g) (SL (aC k k g k))) (RZ g)) (YV (QN k) 1) (VO 1) MD (OC (QN k)) (ZL (QN k) 24))) (AAJ (λl=>AN (AF AL (HC (Hk l) (QN k)) (CB (VA l) (FY k)) (AZ g) (Ut g (QK DH (DK g) (Pk g) AL (HC (CG (MG l)) (CG (SK k))) AL (HC (PS l) (NZ k)) (nZ l (MR k)) (FO (oK l (MR k)) (oN l (MR k)) (oJ l (MR k)) (HC (CG (MG l)) (CG (SK k))) (AK (λm=>Nb m (MG l) m (JQ m (CG (SK k)) (CM (SK k) m) (Fi g (DK g) (FY k))))) (HC (PS l) (NZ k)) (AK (λm=>GA m (PS l) (UU (Vo l m) (JQ m (NZ k) (OV (gK k m)) (OV (MR k)))) (Fm (Vo l m) (JQ m (NZ k) (LY (gK k m)) (LY (MR k))) (JQ m (NZ k) (LW (gK k m)) (LW (MR k))) (JQ m (NZ k) (MN (gK k m)) (MN (MR k)))))) (HC (Hk l) (QN k)) (λm=>XY m (Hk l) (YB (Bb l m) (yN (Mz m (QN k)) (CG (Bb (RE k) m)) (CG (Vz (cG g (aC k k g k)))))) (λn=>Nb n (Bb l m) n (JQ m (QN k) (CM (Bb (RE k) m) n) (CM (Vz (cG g (aC k k g k))) n)))))))) (Oy g l l (YZ (VA l) g (MG l) (XX l) (Of l l) (Qp l l) (λm=>ZB g l m g g g m))) (AR (XX l) (VA l)) (BZ (TH g l) (TH g j))))) (ATH (λl=>BV (BW (Oy g l l (YZ (VA l) g (MG l) (XX l) (Of l l) (Qp l l) (λm=>ZB g l m g g g m))) (AR (XX l) (VA l)) (TH g l) (TH g j)) (AAJ (λm=>BW (BJ AL (pC (Hk m) l) (fV (XX m) l) (fV (VA m) l) (AZ g) (Ut g (QK DH (DK g) (Pk g) AL (nL (MG m) l) AL (AR (PS m) (PS l)) (nZ m (WC l)) (FO (oK m (WC l)) (oN m (WC l)) (oJ m (WC l)) (nL (MG m) l) (BM (MG m) (MG l)) (AR (PS m) (PS l)) (AK (λn=>QE n (PS m) (Vo m n) (Vo l n))) (pC (Hk m) l) (λn=>QG n (Hk m) (Bb m n) (Bb l n)))))) (Oy g m m (YZ (VA m) g (MG m) (XX m) (Of m m) (Qp m m) (λn=>ZB g m n g g g n))) (TH g m) (TH g j)))))))))))) (AG (SR (YV (PS j) 4) 4 MD (OC (PS j)) (ZL (PS j) 32)) (nL (Fr g) j) (AX (JF (BP (CG (MG j))) (MG j)) (AK (λk=>GH k (Fr g) (MG j) (BP k))) (HC (XK g) (PS j)) (Kl (EO (PS j))) (AK (λk=>GA k (XK g) (UU (uV g k) (JQ (BP k) (PS j) (OV (Vo j (BP k))) (OV (WC j)))) (Fm (uV g k) (JQ (BP k) (PS j) (LY (Vo j (BP k))) (LY (WC j))) (JQ (BP k) (PS j) (LW (Vo j (BP k))) (LW (WC j))) (JQ (BP k) (PS j) (MN (Vo j (BP k))) (MN (WC j)))))) (pC (Ko g) j) (Kl (Hk j)) (AK (λk=>QG k (Ko g) (IF (fL g) k) (Bb j (BP k)))) (CP (Bh g))))))))))))):=by kernel_rfl
theorem RW(n:Nat):(WH n).length=n:=by simp[WH]
theorem Fd{n i:Nat}(h:i<n):gD (WH n) i=i:=by simp[WH,gD,List.getD_eq_getElem?_getD,h]
theorem AMU(g:List Gau):(AU g).Perm (WH g.length):=UY _ _
theorem CD(g:List Gau):(AU g).length=g.length:=by rw[(AMU g).length_eq,RW]
theorem vX{g:List Gau}{x:Int}(h:x∈AU g):0<=x/\x<g.length:=by
 have:=(AMU g).mem_iff.1 h
 unfold WH at this
 obtain⟨i,hi,rfl⟩:=List.mem_map.1 this
 have:=List.mem_range.1 hi
 exact⟨Int.natCast_nonneg _,Int.ofNat_lt.2 this⟩
theorem Tx{g:List Gau}{i:Nat}(h:i<g.length):0<=gD (AU g) i/\gD (AU g) i<g.length:=vX (CV (by rw[CD];exact h))
theorem BMR{l:List Int}{a b:Nat}(h:b<=l.length):(MK (b-a) λi=>gD l (a+i))=(l.take b).drop a:=by
 apply CBF
 ·rw[rng_length,List.length_drop,List.length_take];omega
 ·intro i hi
  rw[rng_length] at hi
  rw[pE _ _ _ hi,Wb]
  simp[gD,List.getD_eq_getElem?_getD,List.getElem?_take,show a+i<b by omega]
theorem BMV{g:List Gau}(hc:AV g=0)(a b:Int):(pkM ⟨g,AU g,a,b⟩).length<1073741824/\∀x∈pkM ⟨g,AU g,a,b⟩,RK x:=by
 obtain⟨⟨h1,h2⟩,h3⟩:=NV hc
 refine⟨?_,λx hx=>?_⟩
 ·unfold pkM Km;rw[List.length_map,List.length_drop,List.length_take,CD];omega
 ·unfold pkM at hx
  obtain⟨i,hi,rfl⟩:=List.mem_map.1 hx
  have:=vX (BKZ hi)
  exact h3 _ (CV (by omega))
theorem BUQ{g:List Gau}{o:List Int}{t:Nat}:∀(n k:Nat),k<=X2 g o t n k/\X2 g o t n k<=k+n
 |0,k=>⟨Nat.le_refl _,Nat.le_refl _⟩
 |n+1,k=>by
  unfold X2
  cases CY g (gD o k)==CY g (gD o t)
  ·exact⟨Nat.le_refl _,by show k<=_;omega⟩
  ·have:=BUQ (g:=g) (o:=o) (t:=t) n (k+1);show k<=X2 g o t n (k+1)/\X2 g o t n (k+1)<=_;omega
theorem ACI{g:List Gau}{t:Nat}(h:t<g.length):t<Mp g (AU g) t/\Mp g (AU g) t<=g.length:=by
 unfold Mp
 rw[CD]
 obtain⟨n,hn⟩:∃n,g.length-t=n+1:=⟨g.length-t-1,by omega⟩
 rw[hn];unfold X2
 rw[show (CY g (gD (AU g) t)==CY g (gD (AU g) t))=true by simp]
 have:=BUQ (g:=g) (o:=AU g) (t:=t) n (t+1)
 show t<X2 g (AU g) t n (t+1)/\X2 g (AU g) t n (t+1)<=_
 omega
theorem tI{g:List Gau}:∀(m n:Nat) (s:FS),s.fr<=s.to->s.to<=g.length->qC (AU g) s+1<=m->qC (AU g) s+1<=n->Sw g (AU g) m s=Sw g (AU g) n s
 |0,_,_,_,_,h,_=>by omega
 |m+1,0,_,_,_,_,h=>by omega
 |m+1,n+1,s,h0,h1,h2,h3=>by
  unfold Sw
  by_cases hl:s.to<(AU g).length
  ·rw[decide_eq_true hl]
   rw[CD] at hl
   have hx:=ACI hl
   unfold qC at h2 h3
   rw[CD] at h2 h3
   cases hq:(DC (T4 g (AU g) s.to (Mp g (AU g) s.to))).2
   ·rfl
   ·cases hr:(DC (T4 g (AU g) s.fr (Mp g (AU g) s.to))).2
    ·have hne:s.fr≠s.to:=λhe=>by rw[he,hq] at hr;cases hr
     rw[if_pos (by omega)] at h2 h3
     refine tI m n (tC g (AU g) s) (Nat.le_refl _) h1 ?_ ?_<;>(unfold qC tC;rw[CD];simp only[Nat.lt_irrefl,if_false];omega)
    ·refine tI m n (goF g (AU g) s) (by show s.fr<=Mp _ _ _;omega) hx.2 ?_ ?_<;>(unfold qC goF;rw[CD];simp only[];split at h2<;>split<;>omega)
  ·rw[decide_eq_false hl];rfl
theorem BIG(g:List Gau)(o:List Int)(n:Nat)(s:FS):Sw g o (n+1) s=bif decide (s.to<o.length) then (bif (DC (T4 g o s.to (Mp g o s.to))).2 then (bif (DC (T4 g o s.fr (Mp g o s.to))).2 then Sw g o n (goF g o s) else Sw g o n (tC g o s)) else⟨⟨[],[]⟩,[],6⟩) else⟨⟨s.b,s.l ++ [s.ln]⟩,s.k,0⟩:=rfl
theorem CKL{g:List Gau}{s:FS}(h:invF g s)(ht:¬s.to<g.length):IP g=⟨⟨s.b,s.l ++ [s.ln]⟩,s.k,0⟩:=by
 rw[h.2.2.2.2.2.2 _ (Nat.le_refl _)];unfold Sw;rw[decide_eq_false (by rw[CD];exact ht)];rfl
theorem CJX{g:List Gau}{s:FS}(h:invF g s)(ht:s.to<g.length)(hq:(DC (T4 g (AU g) s.to (Mp g (AU g) s.to))).2=false):IP g=⟨⟨[],[]⟩,[],6⟩:=by
 rw[h.2.2.2.2.2.2 _ (Nat.le_refl _)];unfold Sw;rw[decide_eq_true (by rw[CD];exact ht),hq];rfl
theorem F_go{g:List Gau}{s:FS}(h:invF g s)(ht:s.to<g.length)(hq:(DC (T4 g (AU g) s.to (Mp g (AU g) s.to))).2=true)(hr:(DC (T4 g (AU g) s.fr (Mp g (AU g) s.to))).2=true):invF g (goF g (AU g) s)/\qC (AU g) (goF g (AU g) s)<qC (AU g) s:=by
 obtain⟨h1,h2,h3,h4,h5,h6,h7⟩:=h
 have hx:=ACI ht
 have hm:qC (AU g) (goF g (AU g) s)<qC (AU g) s:=by unfold qC goF;rw[CD];simp only[];split<;>split<;>omega
 refine⟨⟨h1,by show s.fr<=Mp _ _ _;omega,hx.2,h4,h5,h6,λm hm2=>?_⟩,hm⟩
 rw[h7 (qC (AU g) s+1) (Nat.le_refl _),BIG,decide_eq_true (by rw[CD];exact ht),hq,hr]
 exact tI (qC (AU g) s) m (goF g (AU g) s) (by show s.fr<=Mp _ _ _;omega) hx.2 hm hm2
theorem CLV{g:List Gau}{s:FS}(h:invF g s)(ht:s.to<g.length)(hq:(DC (T4 g (AU g) s.to (Mp g (AU g) s.to))).2=true)(hr:(DC (T4 g (AU g) s.fr (Mp g (AU g) s.to))).2=false):invF g (tC g (AU g) s)/\qC (AU g) (tC g (AU g) s)<qC (AU g) s:=by
 obtain⟨h1,h2,h3,h4,h5,h6,h7⟩:=h
 have hx:=ACI ht
 have hne:s.fr≠s.to:=λhe=>by rw[he,hq] at hr;cases hr
 have hm:qC (AU g) (tC g (AU g) s)<qC (AU g) s:=by unfold qC tC;rw[CD];simp only[Nat.lt_irrefl,if_false];rw[if_pos (by omega)];omega
 refine⟨⟨h1,Nat.le_refl _,h3,by show (s.b ++ [_]).length<=s.to;simp;omega,by show (s.l ++ [_]).length=(s.b ++ [_]).length;simp;omega,by show (s.k ++ [_]).length=(s.b ++ [_]).length;simp;omega,λm hm2=>?_⟩,hm⟩
 rw[h7 (qC (AU g) s+1) (Nat.le_refl _),BIG,decide_eq_true (by rw[CD];exact ht),hq,hr]
 exact tI (qC (AU g) s) m (tC g (AU g) s) (Nat.le_refl _) h3 hm hm2
theorem BLR{g:List Gau}{t n:Nat}(hn:n<g.length)(h:CY g (gD (AU g) n)=CY g (gD (AU g) t)):X2 g (AU g) t (g.length-n) n=X2 g (AU g) t (g.length-(n+1)) (n+1):=by
 obtain⟨m,hm⟩:∃m,g.length-n=m+1:=⟨g.length-n-1,by omega⟩
 rw[hm,show g.length-(n+1)=m by omega]
 conv=>lhs;unfold X2
 rw[show (CY g (gD (AU g) n)==CY g (gD (AU g) t))=true by rw[h];simp];rfl
theorem BLN{g:List Gau}{t n:Nat}(hn:n<=g.length)(h:(bif decide (n<g.length) then CY g (gD (AU g) n)==CY g (gD (AU g) t) else false)=false):X2 g (AU g) t (g.length-n) n=n:=by
 by_cases hl:n<g.length
 ·rw[decide_eq_true hl] at h
  have h:(CY g (gD (AU g) n)==CY g (gD (AU g) t))=false:=h
  obtain⟨m,hm⟩:∃m,g.length-n=m+1:=⟨g.length-n-1,by omega⟩
  rw[hm];unfold X2;rw[h];rfl
 ·rw[show g.length-n=0 by omega];rfl
theorem CKG{g:List Gau}{t n:Nat}(h:(bif decide (n<g.length) then CY g (gD (AU g) n)==CY g (gD (AU g) t) else false)=true):n<g.length/\CY g (gD (AU g) n)=CY g (gD (AU g) t):=by
 cases hd:decide (n<g.length) with
 |false=>rw[hd] at h;cases h
 |true=>rw[hd] at h;exact⟨of_decide_eq_true hd,by simpa using h⟩
theorem CMZ(l:List Int)(p:Int)(i:Nat)(hi:i<(l ++ [p]).length):gD (l ++ [p]) i=bif decide (i<l.length) then gD l i else p:=AAC _ _ (by simpa using hi)
theorem CGP{n:Nat}(h:n<=24):pSt n (WH n):=⟨by rw[RW];exact h,λx hx=>by
 obtain⟨i,hi,rfl⟩:=NL hx
 rw[RW] at hi;rw[Fd hi];omega,λi j _ h1 h2=>by
 rw[RW] at h2
 rw[Fd (by omega),Fd h2];omega⟩
theorem CUP(g:List Gau)(hg:g.length<1073741824):CJG g:=by
 rw[COW]<;> delta JT qD XL EE EC DP hd17 OV LY LW MN GD WI JG CS AO AR CG AK BV BZ CM AQ BU DD ES LX EF NK UM Sv OL CI EZ FB LZ FP VY Ep EU TO ID RG LM Vu XB My Jv Mz AAK BG Ms AJT AJL Jt Kc HF DK AAJ XX VA WC MG AKH AJQ ATH AUR RE LG BKK IF yN AG GT JO GV IE DG AF AT AH FF Jn CA CF BH AM CT BL GQ JM Cm Ky Yd SC qH Xb BEJ Yz rL AP BR AS AW DF DX EO DU CR AX BP BC HH GA CQ HL IC AN AL RF OK AZ zH EP GI BE ED AY BW yX JV HU EL XY FY FX GC HI CX JD II UU JA HG CL EK ZW CU TA PF GU EA Hb EX HY CP PS FU RH DV Nb EM GH PG IH GF FE CB BJ BN BM FC EW FM FK FD MW PX ON Hk Vo HC SL MI Ks Cc KJ FL RD Ac TH cG SK CE IA DH JF JS ZX SD MR JQ fL BY NQ BD FH BB EY FA HZ NB DY Cz Ht NW GE FO Db FN RN Bb Ey Ar NZ FI OA ME VO Ob QN ZG IW AVG EI eD MC AYK MV On ML OR gK YC KX HR IN Bh UP RO Dh QA KC Ao uV Cy Pz In Ct YS lW XK MD LO pJ NP Yi RZ gL MU dH SR OC Fm QG MP VT Ua Fr Kt QK YZ nA Lc Pk QP OW YP YB Fi ZL Qp AQH Ko Ak AQA Of UN Ut Lm ZK AQG Xu ZC YV ZB Kl QE Oy Vb Lh Cq fN fV eU VE Kz Qj aC dM oK nL Lt pC oN Le Uw oJ nZ;simp only[CC,eq_self,implies_true,forall_const,Int.ofNat_lt]
 have zz:∀n,IP g=⟨⟨[],[]⟩,[],n⟩->(IP g).r.b.length=0/\(IP g).r.b.length=0/\(IP g).r.l.length=0/\(IP g).r.l.length=0/\(IP g).k.length=0/\(IP g).k.length=0/\(IP g).e=n:=λn h=>by rw[h];exact⟨rfl,rfl,rfl,rfl,rfl,rfl,rfl⟩
 refine⟨by omega,λhe=>?_,λhe=>?_⟩
 ·refine zz _ ?_
  unfold IP;rw[show (AV g==0)=false by simpa using he];rfl
 ·have hc:AV g=0:=by simpa using he
  have hck:=NV hc
  refine⟨⟨⟨default,hc⟩,λ_=>⟨λh0=>⟨⟨by omega,by omega,by omega,by omega,by omega⟩,1,⟨(CN (a:=0) (by omega)).symm,rfl,rfl,λi hi=>by rw[show i=0 by omega]⟩,⟨hc,by omega,by omega⟩,by omega⟩,λh0=>by omega⟩,λk ⟨_,k1,k2⟩=>⟨λhlt=>⟨⟨by omega,λh=>(by cases h),by omega,by omega⟩,k+1,⟨(CN (by omega)).symm,rfl,rfl,λi hi=>?_⟩,⟨hc,by omega,by omega⟩,by omega⟩,λhge=>⟨default,⟨?_,?_,λi hi=>?_⟩,hc⟩⟩⟩,λ_=>⟨⟨CGP hck.1.2,default,⟨?_,Nat.le_refl _,λ_ _=>rfl⟩,hc⟩,λ_=>⟨⟨by omega,by omega⟩,⟨ini0,⟨rfl,rfl,rfl,rfl,rfl,rfl⟩,⟨hc,Nat.le_refl _,Nat.zero_le _,Nat.le_refl _,rfl,rfl,λm hm=>?_⟩,rfl,rfl,rfl⟩,λs hs=>?_,λs hs=>?_⟩⟩⟩
  ·by_cases h:i<k
   ·rw[decide_eq_true h];rfl
   ·rw[decide_eq_false h,show i=k by omega];rfl
  ·rw[RW];omega
  ·rw[RW];omega
  ·rw[RW] at hi;exact Fd hi
  ·rw[CD,RW]
  ·unfold IP;rw[show (AV g==0)=true by rw[hc];rfl]
   exact tI _ _ _ (Nat.le_refl _) (Nat.zero_le _) (by unfold qC ini0;rw[CD];simp) hm
  ·obtain⟨hI,hb,hl,hk⟩:invF g s/\s.b=[]/\s.l=[]/\s.k=[]:=hs
   refine⟨λht=>?_,λht=>?_⟩
   ·have ht:s.to<g.length:=by rw[CD] at ht;exact ht
    refine⟨⟨⟨s,s.to⟩,⟨rfl,rfl,rfl,rfl,rfl,rfl,rfl⟩,⟨hI,rfl,ht,Nat.le_refl _,Nat.le_of_lt ht,?_⟩,hb,hl,hk⟩,λx hx=>?_⟩
    ·unfold Mp;rw[CD]
    ·obtain⟨⟨xI,x1,x2,x3,x4,x5⟩,xb,xl,xk⟩:BKO g (qC (AU g) s) x/\x.s.b=[]/\x.s.l=[]/\x.s.k=[]:=hx
     refine⟨⟨λh=>⟨by omega,by omega⟩,λh=>Tx (by rw[CD] at h;exact h),λh=>⟨by omega,by rw[CD];omega⟩,λ_=>Tx x2⟩,λhq=>?_,λhq=>?_⟩
     ·rw[CD] at hq
      obtain⟨q1,q2⟩:=CKG hq
      exact⟨⟨x.s,x.n+1⟩,⟨rfl,rfl,(CN (by omega)).symm,rfl,rfl,rfl,rfl⟩,⟨⟨xI,x1,x2,by show x.s.to<=x.n+1;omega,q1,x5.trans (BLR q1 q2)⟩,xb,xl,xk⟩,by show g.length-(x.n+1)<_;omega⟩
     ·rw[CD] at hq
      have hn:Mp g (AU g) x.s.to=x.n:=x5.trans (BLN x4 hq)
      have e1:pkM ⟨g,AU g,x.s.to,x.n⟩=T4 g (AU g) x.s.to (Mp g (AU g) x.s.to):=by rw[hn];rfl
      have e2:pkM ⟨g,AU g,x.s.fr,x.n⟩=T4 g (AU g) x.s.fr (Mp g (AU g) x.s.to):=by rw[hn];rfl
      have hfr:x.s.fr<=x.s.to:=xI.2.1
      have hbl:x.s.b.length<=x.s.fr:=xI.2.2.2.1
      have hll:x.s.l.length=x.s.b.length:=xI.2.2.2.2.1
      have hkl:x.s.k.length=x.s.b.length:=xI.2.2.2.2.2.1
      refine⟨⟨⟨⟨by omega,by omega,by rw[CD];omega,by rw[CD];omega⟩,λ_ h=>vX h⟩,BMV hc _ _⟩,λhb1=>zz _ (CJX xI x2 (by rw[<-e1];exact hb1)),λhb1=>⟨⟨⟨⟨by omega,by omega,by rw[CD];omega,by rw[CD];omega⟩,λ_ h=>vX h⟩,BMV hc _ _⟩,λhb2=>?_,λhb2=>?_⟩⟩
      ·obtain⟨f1,f2⟩:=F_go xI x2 (by rw[<-e1];exact hb1) (by rw[<-e2];exact hb2)
       exact⟨goF g (AU g) x.s,⟨rfl,by show ((Mp g (AU g) x.s.to:Nat):Int)=x.n;rw[hn],by rw[e2];rfl,by rw[e2];rfl,by rw[e2];rfl,by rw[e2];rfl⟩,⟨f1,xb,xl,xk⟩,by rw[<-x1];exact f2⟩
      ·obtain⟨f1,f2⟩:=CLV xI x2 (by rw[<-e1];exact hb1) (by rw[<-e2];exact hb2)
       have eB:tC g (AU g) x.s=⟨x.s.to,x.s.to,x.s.ln,[CY g (gD (AU g) x.s.to)],[x.s.ln],[Vz ⟨g,((AU g).take x.n).drop x.s.fr⟩]⟩:=by unfold tC;rw[xb,xl,xk,hn];rfl
       rw[eB] at f1 f2
       rw[BMR (by rw[CD];exact x4)]
       refine⟨⟨⟨by omega,by rw[CD];omega⟩,Tx x2,⟨by omega,by omega,by omega,by omega,by omega⟩,by omega,by omega,by omega,by omega,by omega⟩,⟨⟨⟨by omega,by omega,by rw[CD];omega⟩,λi hi=>?_,⟨⟨by omega,by omega⟩,hck.2⟩,by omega,by omega,by omega,by omega,by omega⟩,⟨x.s.to,x.s.to,x.s.ln,[CY g (gD (AU g) x.s.to)],[x.s.ln],[Vz ⟨g,((AU g).take x.n).drop x.s.fr⟩]⟩,⟨rfl,rfl,rfl,rfl,rfl,rfl,rfl,rfl,rfl,λi hi=>(by rw[show i=0 by have h1:i<1:=hi;omega];rfl),rfl,oneL _,rfl,λi hi=>(by rw[show i=0 by have h1:i<1:=hi;omega];exact⟨rfl,λ_ _=>rfl⟩)⟩,f1,rfl,by rw[<-x1];exact f2⟩,λy ⟨y1,y2,y3⟩=>⟨y,⟨rfl,by rw[y2],rfl,rfl,rfl,rfl,rfl,rfl,rfl,rfl,λ_ _=>rfl,rfl,λ_ _=>⟨rfl,rfl,rfl,rfl⟩,rfl,λ_ _=>⟨rfl,λ_ _=>rfl⟩⟩,y1,y3⟩⟩
       rw[Wb];simp[gD,List.getD_eq_getElem?_getD,List.getElem?_take,show x.s.fr+i<x.n by omega]
   ·rw[CD] at ht
    rw[CKL hI ht,hb,hl,hk]
    exact⟨⟨by omega,by omega,by omega,by omega,by omega⟩,rfl,rfl,rfl,by omega,oneL _,rfl,rfl,rfl⟩
  ·have hI:invF g s:=hs
   have hbl:s.b.length<=s.fr:=hI.2.2.2.1
   have hll:s.l.length=s.b.length:=hI.2.2.2.2.1
   have hkl:s.k.length=s.b.length:=hI.2.2.2.2.2.1
   have hfr:s.fr<=s.to:=hI.2.1
   have hto:s.to<=g.length:=hI.2.2.1
   refine⟨λht=>?_,λht=>?_⟩
   ·have ht:s.to<g.length:=by rw[CD] at ht;exact ht
    refine⟨⟨⟨s,s.to⟩,⟨rfl,rfl,rfl,rfl,rfl,rfl,rfl,rfl,rfl,rfl,rfl,λ_ _=>rfl,rfl,λ_ _=>⟨rfl,rfl,rfl,rfl⟩,rfl,λ_ _=>⟨rfl,λ_ _=>rfl⟩⟩,hI,rfl,ht,Nat.le_refl _,Nat.le_of_lt ht,?_⟩,λx hx=>?_⟩
    ·unfold Mp;rw[CD]
    ·obtain⟨xI,x1,x2,x3,x4,x5⟩:BKO g (qC (AU g) s) x:=hx
     refine⟨⟨λh=>⟨by omega,by omega⟩,λh=>Tx (by rw[CD] at h;exact h),λh=>⟨by omega,by rw[CD];omega⟩,λ_=>Tx x2⟩,λhq=>?_,λhq=>?_⟩
     ·rw[CD] at hq
      obtain⟨q1,q2⟩:=CKG hq
      exact⟨⟨x.s,x.n+1⟩,⟨rfl,rfl,rfl,(CN (by omega)).symm,rfl,rfl,rfl,rfl,rfl,rfl,rfl,λ_ _=>rfl,rfl,λ_ _=>⟨rfl,rfl,rfl,rfl⟩,rfl,λ_ _=>⟨rfl,λ_ _=>rfl⟩⟩,⟨xI,x1,x2,by show x.s.to<=x.n+1;omega,q1,x5.trans (BLR q1 q2)⟩,by show g.length-(x.n+1)<_;omega⟩
     ·rw[CD] at hq
      have hn:Mp g (AU g) x.s.to=x.n:=x5.trans (BLN x4 hq)
      have e1:pkM ⟨g,AU g,x.s.to,x.n⟩=T4 g (AU g) x.s.to (Mp g (AU g) x.s.to):=by rw[hn];rfl
      have e2:pkM ⟨g,AU g,x.s.fr,x.n⟩=T4 g (AU g) x.s.fr (Mp g (AU g) x.s.to):=by rw[hn];rfl
      have hfr:x.s.fr<=x.s.to:=xI.2.1
      have hbl:x.s.b.length<=x.s.fr:=xI.2.2.2.1
      have hll:x.s.l.length=x.s.b.length:=xI.2.2.2.2.1
      have hkl:x.s.k.length=x.s.b.length:=xI.2.2.2.2.2.1
      refine⟨⟨⟨⟨by omega,by omega,by rw[CD];omega,by rw[CD];omega⟩,λ_ h=>vX h⟩,BMV hc _ _⟩,λhb1=>zz _ (CJX xI x2 (by rw[<-e1];exact hb1)),λhb1=>⟨⟨⟨⟨by omega,by omega,by rw[CD];omega,by rw[CD];omega⟩,λ_ h=>vX h⟩,BMV hc _ _⟩,λhb2=>?_,λhb2=>?_⟩⟩
      ·obtain⟨f1,f2⟩:=F_go xI x2 (by rw[<-e1];exact hb1) (by rw[<-e2];exact hb2)
       exact⟨goF g (AU g) x.s,⟨rfl,rfl,by show ((Mp g (AU g) x.s.to:Nat):Int)=x.n;rw[hn],rfl,rfl,by rw[e2];rfl,by rw[e2];rfl,by rw[e2];rfl,by rw[e2];rfl,rfl,λ_ _=>rfl,rfl,λ_ _=>⟨rfl,rfl,rfl,rfl⟩,rfl,λ_ _=>⟨rfl,λ_ _=>rfl⟩⟩,f1,by rw[<-x1];exact f2⟩
      ·obtain⟨f1,f2⟩:=CLV xI x2 (by rw[<-e1];exact hb1) (by rw[<-e2];exact hb2)
       have eB:tC g (AU g) x.s=⟨x.s.to,x.s.to,x.s.ln,x.s.b ++ [CY g (gD (AU g) x.s.to)],x.s.l ++ [x.s.ln],x.s.k ++ [Vz ⟨g,((AU g).take x.n).drop x.s.fr⟩]⟩:=by unfold tC;rw[hn]
       rw[eB] at f1 f2
       rw[BMR (by rw[CD];exact x4)]
       refine⟨⟨⟨by omega,by rw[CD];omega⟩,Tx x2,⟨by omega,λh=>(by cases h),by omega⟩,by omega,λh=>(by cases h),by omega⟩,⟨⟨⟨by omega,by omega,by rw[CD];omega⟩,λi hi=>?_,⟨⟨by omega,by omega⟩,hck.2⟩,by omega,λh=>(by cases h),by omega⟩,⟨x.s.to,x.s.to,x.s.ln,x.s.b ++ [CY g (gD (AU g) x.s.to)],x.s.l ++ [x.s.ln],x.s.k ++ [Vz ⟨g,((AU g).take x.n).drop x.s.fr⟩]⟩,⟨by simp,rfl,by simp,by simp,rfl,rfl,rfl,rfl,by simp,CMZ _ _,by simp,BDH _ _,by simp,λi hi=>?_⟩,f1,rfl,by rw[<-x1];exact f2⟩,λy ⟨y1,y2,y3⟩=>⟨y,⟨rfl,by rw[y2],rfl,rfl,rfl,rfl,rfl,rfl,rfl,rfl,λ_ _=>rfl,rfl,λ_ _=>⟨rfl,rfl,rfl,rfl⟩,rfl,λ_ _=>⟨rfl,λ_ _=>rfl⟩⟩,y1,y3⟩⟩
       rw[Wb];simp[gD,List.getD_eq_getElem?_getD,List.getElem?_take,show x.s.fr+i<x.n by omega]
       rw[AAC _ _ (by simpa using hi)]
       cases decide (i<x.s.k.length)<;>exact⟨rfl,λ_ _=>rfl⟩
   ·rw[CD] at ht
    rw[CKL hI ht]
    exact⟨⟨by omega,λh=>(by cases h),by omega,by omega⟩,rfl,Nat.le_refl _,λ_ _=>rfl,by simp,by omega,BDH _ _,rfl,Nat.le_refl _,λ_ _=>⟨rfl,λ_ _=>rfl⟩,rfl⟩
theorem BUN:AJ Try.prog kC (C_few.spec WJ):=VD C_few CJM [] [301,303,29064] BSI (λ_=>by kernel_rfl) (λ_=>AC jM (AC CRP (AC Wv (AC CTU (AC iS (AC AMB (AC CSZ AE))))))) (λ(g:List Gau) h=>CUP g (show g.length<1073741824/\True from h).1) (λ_=>WK rfl rfl) _
end Go.Bal
