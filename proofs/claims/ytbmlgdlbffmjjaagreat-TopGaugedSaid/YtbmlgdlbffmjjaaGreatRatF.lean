/- Package rating: a book at work. -/
import Derived.Test.YtbmlgdlbffmjjaaGreatRatD
set_option linter.unusedVariables false
set_option linter.unusedSimpArgs false
namespace Go.Bal
open Go Go.Sym Go.Proofs
structure Bk where
 g:List Gau
 b:List Int
 has:Int->Bool
 st:Int->Int
def Zt(w:Bk)(k:Int):List Gau:=w.g.filter λg=>(Vs w.b g.st:Int)==k
def hU(s:List Gau):List Ln:=(Rr s).filter (Rp s)
def fdM(w:Bk)(j:Int):List Ln:=bif w.has j then hU (Zt w j) else []
def bkB(w:Bk)(m:Nat):AObj:=.box [.d (KB w.g),.d (II w.b),.mref m]
def bkM(w:Bk):AObj:=.imap (.int .i64) (.slice none 0 0) w.has (λj=>N8 (fdM w j)) w.st none
def bkL(w:Bk):List (Nat×AObj):=[(100,bkB w 101),(101,bkM w)]
def bkK(w:Bk):List (Nat×HCell):=[(100,.live (bkB w 101)),(101,.live (bkM w))]
def gJ(g:List Gau)(b:List Int):Prop:=g.length<=24/\(∀x∈g,Ho x)/\b.length<=24/\asc b/\∀x∈b,1<=x/\x<=2000
def BFI(H:Heap)(id:Nat):Option (Bk×Nat):=match H id with
 | .live (.box [.d (.list _ n g _),.d (.list _ m b _),.mref q])=>match H q with
  | .live (.imap _ _ has _ st _)=>some (⟨VZ n λi=>gH (g i),VZ m λi=>LO (b i),has,st⟩,q)
  |_=>none
 |_=>none
structure BkI where
 w:Bk
 k:Int
def dBkI:List AVal->Heap->Option (BkI×List (Nat×Nat)×List Nat)
 |[.bptr id _,.d k],H=>match BFI H id with
  |some (w,q)=>some (⟨w,LO k⟩,[(100,id),(101,q)],[])
  |none=>none
 |_,_=>none
def inA(w:Bk)(k:Int)(i:Nat):Bool:=(Vs w.b (gD w.g i).st:Int)==k
def CIY(w:Bk)(k:Int)(m:Nat):HCell:=.live (.row 1 24 λj=>AWR (bif decide (j<m) then inA w k j else false))
def nN(w:Bk)(k:Int)(i:Nat):List Gau:=(w.g.take i).filter λg=>(Vs w.b g.st:Int)==k
def in3(a:BkI):Shape:={ α:=Nat,dflt:=0,T:=λi=>⟨[(0,.bptr 100 0),(1,.int a.k),(5,.rptr 201 1 0 0),(15,.d (KB a.w.g)),(16,.int a.w.g.length),(17,.int i)],bkK a.w ++ [(201,CIY a.w a.k i)]⟩,inv:=λi=>i<=a.w.g.length,meas:=λi=>a.w.g.length-i,first:=[(201,2000)] }
structure GsK where
 i:Nat
 l:List Gau
 deriving Inhabited
def in9s(a:BkI)(i:Nat):List (Nat×AVal):=[(5,.rptr 201 1 0 0),(39,.d (KB a.w.g)),(40,.int a.w.g.length),(41,.int i)]
def rowG(l:List Gau):AObj:=.row 3 l.length λi=>eGau (gD l i)
def in9h(a:BkI):List (Nat×HCell):=bkK a.w ++ [(201,CIY a.w a.k a.w.g.length)]
def in9n(a:BkI):Shape:={ α:=Nat,dflt:=0,T:=λi=>⟨(8,.d gK) :: in9s a i,in9h a⟩,inv:=λi=>i<=a.w.g.length/\nN a.w a.k i=[],meas:=λi=>a.w.g.length-i }
def in9o(a:BkI):Shape:={ α:=GsK,dflt:=default,T:=λx=>⟨(8,.own 202 3 0 x.l.length) :: in9s a x.i,in9h a ++ [(202,.live (rowG x.l))]⟩,inv:=λx=>x.i<=a.w.g.length/\x.l=nN a.w a.k x.i,meas:=λx=>a.w.g.length-x.i }
def CTV(a:BkI)(m:Nat):Shape:={ α:=Nat,dflt:=0,T:=λi=>⟨(8,.d gK) :: in9s a i,in9h a⟩,inv:=λi=>i<a.w.g.length/\a.w.g.length-i=m/\nN a.w a.k (i+1)=[],meas:=λi=>0 }
def CGW(a:BkI)(m:Nat)(f:List (Nat×Nat)):Shape:={ α:=GsK,dflt:=default,T:=λx=>⟨(8,.own 202 3 0 x.l.length) :: in9s a x.i,in9h a ++ [(202,.live (rowG x.l))]⟩,inv:=λx=>x.i<a.w.g.length/\a.w.g.length-x.i=m/\x.l=nN a.w a.k (x.i+1),meas:=λx=>0,first:=f }
def C_inside:Ctr:={ ro:=[100,101],α:=BkI,xs:=λa=>[.bptr 100 0,.int a.k],L:=λa=>bkL a.w,val:=λa=>.d (KB (Zt a.w a.k)),keep:=λa=>bkK a.w,pre:=λa=>[gJ a.w.g a.w.b/\True] }
def AYC(a:BkI):Ann:={ ann 55 [(AHU,C_part.spec dIX)] with E:=[100,101],mt:=λid=>id==12,loops:=λid=>if id=3 then some [in3 a] else if id=9 then some [in9n a,in9o a] else none,cutIn:=λgs id=>if id=13 then some [CTV a (gs.getD 0 0),CGW a (gs.getD 0 0) [(202,13048)],CGW a (gs.getD 0 0) []] else none }
def AZC(a:BkI):Prop:=AX Try.prog (AYC a) AGW (AF AGW) (C_inside.xs a) (AC (C_inside.L a)) (C_inside.val a) (C_inside.keep a) [] [202]
abbrev BJZ:=@Array.toList Value
abbrev vE:=BkI.k
abbrev Fw:=Bk.g
abbrev aT:=BkI.w
abbrev Fe:=Bk.b
abbrev Ro:=@none Addr
abbrev DJ:=λ(f:Int->Prop)=>∀(x:Int),f x
abbrev De:=Bk.has
abbrev Pz:=Bk.st
abbrev ALW:=@Eq (List Gau)
abbrev AYP:=@List.nil Gau
abbrev mL:=@Exists GsK
abbrev JQ:=GsK.l
abbrev EC:=GsK.i
abbrev N7:=λ(f:GsK->Prop)=>∀(x:GsK),f x
abbrev RU a b:=HR (fdM a b)
abbrev AUD a b:=RU (aT a) b
abbrev Mo a b(c:Nat->Prop):=Cs (AUD a b) c
abbrev tK a b c d e:=rF a b c (GZ d) (JJ e)
abbrev Px a b c:=tK a b c c c
abbrev IU a b c:=LF (fdM a b) c
abbrev Lu a b c d e f:=Px a (AUD b c) (IU (aT d) e f)
abbrev Hg a:=DJ (λi=>AJ (Pz a i))
abbrev Ky a:=Hg (aT a)
abbrev dR a:=DJ (λi=>DR (De a i))
abbrev Kt a:=dR (aT a)
abbrev Ri a:=(@Eq Value) a a
abbrev EO:=Ri (Value.slice Ro 0 0)
abbrev WK a:=Fe (aT a)
abbrev Mj a:=HT (WK a)
abbrev uA a b c d e:=VT a b (KA c) (LX d) (JZ e)
abbrev Dd a b:=GU (Fw a) b
abbrev Um a b:=Dd (aT a) b
abbrev P5 a:=Fw (aT a)
abbrev WQ a b c d:=uA a (P5 b) (Um c d) (Um c d) (Um c d)
abbrev yN a:=BW (Fw a)
abbrev WR a:=yN (aT a)
abbrev Yx a b c d:=KH a b c d d d
abbrev Ya a:=BP (JQ a)
abbrev Tc a b:=CI a (JQ b)
abbrev Zl(a:Nat->Prop) b:=Rn (AE a) b
abbrev zY a b c d:=AG a (AN b c) d
abbrev El a b c d e:=BA (zY a b c d) e
abbrev Jc a b:=QU (P5 a) b
abbrev Mi a b:=Jc a (EC b)
abbrev Eo a b:=ALW (JQ a) b
abbrev kU a b c:=nN (aT a) (vE b) c
abbrev YF a:=BP (P5 a)
abbrev qL(a:Nat->Prop) b c(d:Int->Prop) e(f:Nat->Prop) g h:=EX a EO b c (DJ d) e f g h
abbrev Zd a b c(d:Int->Prop) e(f:Nat->Prop) g h:=qL (λi=>OV i a) b c d e f g h
abbrev lG a b:=nE a 24 b
abbrev AQH a b c:=inA (aT a) (vE b) c
abbrev R7 a b c d e:=BZ (Wm a b) (AQH c d e)
abbrev Tu a b c d e:=R7 a (YF b) c d e
abbrev Tw:=AR 24
abbrev Sg a:=EI (YF a)
abbrev iR a b c:=kU a b (CL c)
abbrev jF a b:=BM a (YF b)
abbrev qU a:=ALW a AYP
abbrev qO(a:Nat->Prop) b c d e f(g:Int->Prop) h p:=LN a b c d e f (DJ g) h p
abbrev cG(a:Nat->Prop) b c d e f(g:Int->Prop) h p:=qO a b (EF c) d e f g h p
abbrev So a b c d:=KC a (Ya b) c d
abbrev Qy a b:=JH (JQ a) b
abbrev Ww a:=CL (Ya a)
abbrev C9 a b:=ER (BH a) b
abbrev QY a b(c:Nat->Prop) d e f g h:=VC a b c d e EO f g h
abbrev WS a b(c:Nat->Prop) d e f g(h:Int->Prop):=QY a b c d e f g (DJ h)
abbrev Vh a:=JH a 0
abbrev Q7 a b:=(@List.cons Value) (Value.bool a) b
abbrev vO a:=Q7 UD (Q7 UD (Q7 UD (Q7 UD a)))
attribute [go_sem] BJZ vE Fw aT Fe Ro DJ De Pz ALW AYP mL JQ EC N7 RU AUD Mo tK Px IU Lu Hg Ky dR Kt Ri EO WK Mj uA Dd Um P5 WQ yN WR Yx Ya Tc Zl zY El Jc Mi Eo kU YF qL Zd lG AQH R7 Tu Tw Sg iR jF qU qO cG So Qy Ww C9 QY WS Vh Q7 vO
theorem BNB(a:BkI):(AZC a)=(WM ((@Eq (List Value)) (BJZ (Value.cells (Value.agg ((@List.toArray Value) (vO (vO (vO (vO (vO (vO (@List.nil Value))))))))))) ((@List.flatten Value) ((@List.replicate (List Value)) 24 (BJZ (Value.cells (Value.bool UD)))))) (CG (λi=>And (AQ (AJ (vE a)) AM (WR a) (Af (λj=>WQ j a a j) (Sg a) (BD i) (WR a) (cG (λj=>WQ j a a j) (Mj a) (WK a) EO (Kt a) (Ky a) (λj=>Mo a j (λk=>Lu k a j a j k)) Tw (AE (λj=>AO j 24 (Dz (R7 j i a a j))))))) (NZ i (YF a)))) (λi=>MQ (NZ i (YF a)) i (YF a) (AG (BE i (YF a)) (AV (HI (WK a)) (GQ (WK a)) (AJ (KA (Um a i))) (Dv (JO (WK a)) 4611686018427387904 (Gm ER (EL (WK a)))) (EA (BH i) (C9 i 24)) (PK i 24)) (CG (λj=>EV (AQ (AJ (vE a)) AM (WR a) (Af (λk=>WQ k a a k) (Sg a) (AU j i) (WR a) (cG (λk=>WQ k a a k) (Mj a) (WK a) EO (Kt a) (Ky a) (λk=>Mo a k (λl=>Lu l a k a k l)) Tw (AE (λk=>AO k 24 (LI (R7 k j a a k) (Wo (ZU k i) (ZJ (BH (Vs (EL (WK a)) (KA (Um a i)))) (vE a)) (R7 k i a a k)))))))) (NZ j (YF a)) (Jc a j) (Jc a i)))) (AG (CG (λj=>AG (Fs CK (WR a) (Af (λk=>WQ k a a k) (Sg a) (BD j) (WR a) (cG (λk=>WQ k a a k) (Mj a) (WK a) EO (Kt a) (Ky a) (λk=>Mo a k (λl=>Lu l a k a k l)) Tw (AE (λk=>AO k 24 (HX (Tu k a a a k) (Wm k i) (AQH a a k))))))) (HH j (P5 a)) (qU (kU a a j)))) (AE (λj=>HE (CJ j (YF a) (qU (kU a a j))) j (YF a) (Ks (BE j (YF a)) (Ax (EA (BH j) (C9 j 24)) j 24) (Tu j a a a j) (Ao 3 3 GO 1 24) (mL (λk=>PI (AG AM (Qy k 1) (tT AM (WR a) (AE (λl=>WQ l a a l)) (Sg a) (BC (EC k) j) (Mj a) (Zd (WK a) (Kt a) (Ky a) (λl=>Mo a l (λm=>Lu m a l a l m)) Tw (λl=>lG l (Tu l a a a l)) (Qy k 1) (AE (λl=>DZ l (JQ k) (KA (Um a j)) (LX (Um a j)) (JZ (Um a j))))))) (jF (EC k) a) (Mi a k) (Jc a j) (Eo k (iR a a (EC k))))) (CG (λk=>PI (Fs CK (WR a) (Af (λl=>WQ l a a l) (Sg a) (BC k j) (WR a) (cG (λl=>WQ l a a l) (Mj a) (WK a) EO (Kt a) (Ky a) (λl=>Mo a l (λm=>Lu m a l a l m)) Tw (AE (λl=>lG l (Tu l a a a l)))))) (jF k a) (Jc a k) (Jc a j) (qU (iR a a k))))) (Zl (λk=>El (jF k a) (Jc a k) (Jc a j) (qU (iR a a k)) (CG (λl=>NM (Fs CK (WR a) (Af (λm=>WQ m a a m) (Sg a) (AU l k) (WR a) (cG (λm=>WQ m a a m) (Mj a) (WK a) EO (Kt a) (Ky a) (λm=>Mo a m (λn=>Lu n a m a m n)) Tw (AE (λm=>lG m (Tu m a a a m)))))) l (YF a) (qU (kU a a l)) (Jc a l) (Jc a j)))) (N7 (λk=>El (jF (EC k) a) (Mi a k) (Jc a j) (Eo k (iR a a (EC k))) (mL (λl=>NM (AG AM (Tc (JQ l) k) (tT AM (WR a) (AE (λm=>WQ m a a m)) (Sg a) (AU (EC l) (EC k)) (Mj a) (Zd (WK a) (Kt a) (Ky a) (λm=>Mo a m (λn=>Lu n a m a m n)) Tw (λm=>lG m (Tu m a a a m)) (Tc (JQ l) k) (BU (JQ l) (JQ k))))) (EC l) (YF a) (Eo l (kU a a (EC l))) (Mi a l) (Jc a j)))))) (And (Vh (Zt (aT a) (vE a))) (WS (Vh (Zt (aT a) (vE a))) (WR a) (λk=>WQ k a a k) (Mj a) (EF (WK a)) (Kt a) (Ky a) (λk=>Mo a k (λl=>Lu l a k a k l)))))) (N7 (λj=>HE (CJ (EC j) (YF a) (Eo j (kU a a (EC j)))) (EC j) (YF a) (Ks (BE (EC j) (YF a)) (Ax (EA (BH (EC j)) (C9 (EC j) 24)) (EC j) 24) (Tu (EC j) a a a (EC j)) (VE (And (BW (JQ j)) (JG 0 (JQ j) FQ)) 3 (Ww j) (RX (Ya j) 24)) (mL (λk=>PI (AG AM (Qy k (Ww j)) (tT AM (WR a) (AE (λl=>WQ l a a l)) (Sg a) (BC (EC k) (EC j)) (Mj a) (Zd (WK a) (Kt a) (Ky a) (λl=>Mo a l (λm=>Lu m a l a l m)) Tw (λl=>lG l (Tu l a a a l)) (Qy k (Ww j)) (AE (λl=>DZ l (JQ k) (So l j (DW (JQ j) l) (KA (Um a (EC j)))) (So l j (DK (JQ j) l) (LX (Um a (EC j)))) (So l j (DF (JQ j) l) (JZ (Um a (EC j))))))))) (jF (EC k) a) (Mi a k) (Mi a j) (Eo k (iR a a (EC k))))) (mL (λk=>PI (AG AM (Tc (JQ k) j) (tT AM (WR a) (AE (λl=>WQ l a a l)) (Sg a) (BC (EC k) (EC j)) (Mj a) (Zd (WK a) (Kt a) (Ky a) (λl=>Mo a l (λm=>Lu m a l a l m)) Tw (λl=>lG l (Tu l a a a l)) (Tc (JQ k) j) (BU (JQ k) (JQ j))))) (jF (EC k) a) (Mi a k) (Mi a j) (Eo k (iR a a (EC k)))))) (Zl (λk=>El (jF k a) (Jc a k) (Mi a j) (qU (iR a a k)) (CG (λl=>NM (Fs CK (WR a) (Af (λm=>WQ m a a m) (Sg a) (AU l k) (WR a) (cG (λm=>WQ m a a m) (Mj a) (WK a) EO (Kt a) (Ky a) (λm=>Mo a m (λn=>Lu n a m a m n)) Tw (AE (λm=>lG m (Tu m a a a m)))))) l (YF a) (qU (kU a a l)) (Jc a l) (Mi a j)))) (N7 (λk=>El (jF (EC k) a) (Mi a k) (Mi a j) (Eo k (iR a a (EC k))) (mL (λl=>NM (AG AM (Tc (JQ l) k) (tT AM (WR a) (AE (λm=>WQ m a a m)) (Sg a) (AU (EC l) (EC k)) (Mj a) (Zd (WK a) (Kt a) (Ky a) (λm=>Mo a m (λn=>Lu n a m a m n)) Tw (λm=>lG m (Tu m a a a m)) (Tc (JQ l) k) (BU (JQ l) (JQ k))))) (EC l) (YF a) (Eo l (kU a a (EC l))) (Mi a l) (Mi a j)))))) (AG (Tc (Zt (aT a) (vE a)) j) (HH (AP (Ya j)) (JQ j)) (LN (λk=>Yx k (Zt (aT a) (vE a)) (JQ j) (AP k)) (WR a) (AE (λk=>WQ k a a k)) (Mj a) (EF (WK a)) EO (Kt a) (Ky a) (DJ (λk=>Mo a k (λl=>Lu l a k a k l)))))))))):=by kernel_rfl
theorem xD{w:Bk}{k:Int}{i:Nat}(h:i<w.g.length):nN w k (i+1)=if inA w k i=true then nN w k i ++ [gD w.g i] else nN w k i:=by
 unfold nN
 rw[VQ h,List.filter_append]
 unfold inA
 split
 ·rename_i h1;simp[List.filter_cons,h1]
 ·rename_i h1;simp[List.filter_cons,h1]
theorem AWV{w:Bk}{k:Int}{i:Nat}(h:w.g.length<=i):nN w k i=Zt w k:=by unfold nN Zt;rw[List.take_of_length_le h]
theorem AXN{w:Bk}{k:Int}{i:Nat}:(nN w k i).length<=w.g.length:=
 Nat.le_trans (List.length_filter_le _ _) (by simp;omega)
theorem BOT(l:List Gau)(p:Gau)(i:Nat)(hi:i<(l ++ [p]).length):((gD (l ++ [p]) i).st=bif decide (i<l.length) then (gD l i).st else p.st)/\((gD (l ++ [p]) i).lo=bif decide (i<l.length) then (gD l i).lo else p.lo)/\(gD (l ++ [p]) i).hi=bif decide (i<l.length) then (gD l i).hi else p.hi:=by
 rw[G3 _ _ (by simpa using hi)]
 cases decide (i<l.length)<;>exact⟨rfl,rfl,rfl⟩
theorem BQF(a:BkI)(h:gJ a.w.g a.w.b):AZC a:=by
 rw[BNB]<;> delta LI Wo UD KA LX JZ LQ HV GZ JJ NL HU FA AK AN FI AE BA BM IR BH CW DC ER NE TD KJ Ff ZJ FW HD CG NZ BP GU HR LF HS ZU Wm Df Gm BJZ vE Fw aT Fe Ro DJ De Pz ALW AYP mL JQ EC N7 CS AG AP AI AO AJ Rn AR DR Ri VS KQ VY Dd IU AS CM EL M7 tT DW HY IF BF HB RU BW DN DF MM JG DK GH VT HA AM AQ JH CL LN PS JK KD EI EA ML DG FB HT CI OT FP yN EV KC GI NQ BC GM AV nE rF DT RO dR Mw Cs JA EO BK uA tK AU IY EW QU EX P5 Sc FV Hg PI Px OV HZ DZ BE RF EF IA CK IC CJ PK qO BZ Ei KH EH Yx BR LB BU KY C9 cG HK VF LS HH BD YF Om GW HE WK JO Dv MI qL JE VC RX Ay QM Um HI Zd Ks Jc AUD GO Q7 Ya FQ XD HX GQ Dz WR Ax WQ WM NM MQ Fs QY zY AQH kU Eo Mj Ky Mi Kt Mo Sg R7 El Tw Af Qy Lu vO Ww VE Tc Tu Zl jF Vh WS Ao So iR qU lG;simp only[CC,CU]
 obtain⟨hg,hgo,hb,hasc,hbr⟩:=h
 have cn:∀(m i:Nat),i<a.w.g.length/\a.w.g.length-i=m/\nN a.w a.k (i+1)=[]->∃j:Nat,(j:Int)=IntKind.i64.wrap ((i:Int)+1)/\(j<=a.w.g.length/\nN a.w a.k j=[])/\a.w.g.length-j<m:=λm i h=>⟨i+1,(GJ (by omega)).symm,⟨h.1,h.2.2⟩,by omega⟩
 have co:∀(m:Nat) (x:GsK),x.i<a.w.g.length/\a.w.g.length-x.i=m/\x.l=nN a.w a.k (x.i+1)->∃y:GsK,(y.l.length=x.l.length/\(y.i:Int)=IntKind.i64.wrap ((x.i:Int)+1)/\y.l.length=x.l.length/\∀(i:Nat),i<y.l.length->(gD y.l i).st=(gD x.l i).st/\(gD y.l i).lo=(gD x.l i).lo/\(gD y.l i).hi=(gD x.l i).hi)/\(y.i<=a.w.g.length/\y.l=nN a.w a.k y.i)/\a.w.g.length-y.i<m:=λm x h=>⟨⟨x.i+1,x.l⟩,⟨rfl,(GJ (by omega)).symm,rfl,λ_ _=>⟨rfl,rfl,rfl⟩⟩,⟨h.1,h.2.2⟩,by show a.w.g.length-(x.i+1)<m;omega⟩
 have ne:∀(i:Nat),i<a.w.g.length->nN a.w a.k i=[]->inA a.w a.k i=false->nN a.w a.k (i+1)=[]:=λi hi h1 h2=>by
  rw[xD hi,h2,h1];simp
 refine⟨rfl,⟨0,⟨rfl,λi hi=>by simp⟩,Nat.zero_le _⟩,λi hi=>⟨λhlt=>⟨⟨by omega,by omega⟩,⟨⟨by omega,hasc⟩,⟨by omega,by omega⟩,by omega⟩,i+1,⟨(GJ (by omega)).symm,λj hj=>?_⟩,by omega,by omega⟩,λhge=>⟨⟨0,⟨rfl,λj hj=>by rw[show i=a.w.g.length by omega]⟩,Nat.zero_le _,by simp[nN]⟩,
  λi hi=>⟨λhlt=>⟨⟨⟨by omega,by omega⟩,⟨⟨by omega,by omega⟩,by omega⟩,λhp=>⟨by simp,⟨i,[gD a.w.g i]⟩,⟨rfl,rfl,rfl,λj hj=>?_⟩,Int.ofNat_lt.1 hlt,rfl,?_⟩,λhp=>⟨i,rfl,by omega,rfl,ne i (by omega) hi.2 ?_⟩⟩,cn _,co _⟩,λhge=>?_⟩,
  λx hx=>⟨λhlt=>⟨⟨⟨by omega,by omega⟩,⟨⟨by omega,by omega⟩,by omega⟩,λhp=>⟨⟨by simp,by simp,?_,?_⟩,⟨x.i,x.l ++ [gD a.w.g x.i]⟩,⟨by simp,rfl,by simp,BOT _ _⟩,Int.ofNat_lt.1 hlt,rfl,?_⟩,λhp=>⟨⟨x.i,x.l⟩,⟨rfl,rfl,rfl,λ_ _=>⟨rfl,rfl,rfl⟩⟩,Int.ofNat_lt.1 hlt,rfl,?_⟩⟩,cn _,co _⟩,λhge=>?_⟩⟩⟩⟩
 ·by_cases h1:j=i
  ·subst h1;simp[inA]
  ·by_cases h2:j<i
   ·simp[h1,h2,show j<i+1 by omega]
   ·simp[h1,h2,show ¬ j<i+1 by omega]
 ·have:j=0:=by have hj:j<1:=hj;omega
  subst this;exact⟨rfl,rfl,rfl⟩
 ·have hlt':i<a.w.g.length:=Int.ofNat_lt.1 hlt
  show [gD a.w.g i]=_
  rw[xD hlt',hi.2,if_pos (by simpa[hlt'] using hp)];rfl
 ·have hlt':i<a.w.g.length:=Int.ofNat_lt.1 hlt
  simpa[hlt'] using hp
 ·rw[<-AWV (i:=i) (by omega),hi.2];rfl
 ·have:=AXN (w:=a.w) (k:=a.k) (i:=x.i);rw[<-hx.2] at this;omega
 ·have:=AXN (w:=a.w) (k:=a.k) (i:=x.i);rw[<-hx.2] at this;omega
 ·show x.l ++ _=_
  have hlt':x.i<a.w.g.length:=Int.ofNat_lt.1 hlt
  rw[xD hlt',<-hx.2,if_pos (by simpa[hlt'] using hp)]
 ·show x.l=_
  have hlt':x.i<a.w.g.length:=Int.ofNat_lt.1 hlt
  rw[xD hlt',<-hx.2,if_neg (by simpa[hlt'] using hp)]
 ·have e:x.l=Zt a.w a.k:=by rw[hx.2,AWV (by omega)]
  rw[e];exact⟨rfl,Nat.le_refl _,λ_ _=>⟨rfl,rfl,rfl⟩⟩
theorem ANH:AH Try.prog AFL (C_inside.spec dBkI):=PU C_inside AYC [] [202] BME (λ_=>by kernel_rfl) (λ_=>AA ADF AD) (λ(a:BkI) h=>BQF a (show gJ a.w.g a.w.b/\True from h).1) (λ_=>RR rfl rfl) _
def gE(w:Bk)(k:Int):Span:=⟨bif decide (k>0) then gD w.b (k-1).toNat else 0,bif decide (k<w.b.length) then wr (gD w.b k.toNat-1) else 2000⟩
structure GB where
 g:List Gau
 b:List Int
def dGB:List AVal->Heap->Option (GB×List (Nat×Nat)×List Nat)
 |[x,y],H=>match AHL x H,F6 y H with
  |some (l,f),some (m,e)=>some (⟨l,m⟩,[],f ++ e)
  |_,_=>none
 |_,_=>none
def xGB(a:GB):List AVal:=[.d (KB a.g),.d (II a.b)]
def RS(a:GB):Int:=bif IH a.g==0 then Aw a.b else IH a.g
def Ce(a:GB):Bk:=⟨a.g,a.b,λ_=>false,λ_=>0⟩
def C_open:Ctr:={ α:=GB,xs:=xGB,L:=λ_=>[],val:=λ_=>.tup [.bptr 0 0,.int 0],keep:=λa=>[(0,.live (bkB (Ce a) 1)),(1,.live (bkM (Ce a)))],pre:=λa=>[a.g.length<4611686018427387904/\a.b.length<4611686018427387904/\RS a=0] }
def C_openX:Ctr:={ α:=GB,xs:=xGB,L:=λ_=>[],val:=λa=>.tup [.d (.v (.pointer none)),.int (RS a)],keep:=λ_=>[],pre:=λa=>[a.g.length<4611686018427387904/\a.b.length<4611686018427387904/\RS a≠0] }
def APT:Ann:=ann 22 [(J9,C_Check.spec A5),(F1,C_checkB.spec dIs1)]
def BUW(a:GB):Prop:=AX Try.prog APT tL (AF tL) (xGB a) (AC []) (C_open.val a) (C_open.keep a) [(0,7080),(1,7048)] []
abbrev Nm:=GB.g
abbrev aW:=GB.b
abbrev Dc:=Ce
abbrev Xy:=DJ (λi=>DR UD)
abbrev KZ a b c d e f g h:=OT a (Fw b) c d e f g h
abbrev NH a b:=JZ (Dd a b)
abbrev NO a b:=LX (Dd a b)
abbrev NK a b:=KA (Dd a b)
abbrev Pd a:=tA (BB a)
attribute [go_sem] Nm aW Dc Xy KZ NH NO NK Pd
theorem CFI(a:GB):(BUW a)=(And (SE (Nm a) (UQ (Nm a))) (EW (QI (Pd (Nm a))) (PZ (HI (aW a)) (GQ (aW a)) (Gd (aW a))) (FA (RJ (lU (EL (aW a)))) lZ (WS AL (CI (Fw (Dc a)) (Nm a)) (λi=>KZ i (Dc a) (NK (Dc a) i) (DW (Nm a) i) (NO (Dc a) i) (DK (Nm a) i) (NH (Dc a) i) (DF (Nm a) i)) (BK (Fe (Dc a)) (aW a)) (BR (Fe (Dc a)) (aW a)) Xy (DJ (λi=>CP (Pz (Dc a) i))) (λi=>hX (NS (RU (Dc a) i))))) (FA (RJ (Pd (Nm a))) lZ (WS AL (CI (Fw (Dc a)) (Nm a)) (λi=>KZ i (Dc a) (NK (Dc a) i) (DW (Nm a) i) (NO (Dc a) i) (DK (Nm a) i) (NH (Dc a) i) (DF (Nm a) i)) (BK (Fe (Dc a)) (aW a)) (BR (Fe (Dc a)) (aW a)) Xy (DJ (λi=>CP (Pz (Dc a) i))) (λi=>hX (NS (RU (Dc a) i))))))):=by kernel_rfl
def BGG(a:GB):Prop:=AX Try.prog APT tL (AF tL) (xGB a) (AC []) (C_openX.val a) [] [] []
abbrev ALL:=Value.pointer
abbrev eK:=RS
attribute [go_sem] ALL eK
theorem BPT(a:GB):(BGG a)=(And (SE (Nm a) (UQ (Nm a))) (EW (QI (Pd (Nm a))) (PZ (HI (aW a)) (GQ (aW a)) (Gd (aW a))) (EW (RJ (lU (EL (aW a)))) (Ri (ALL Ro)) (AK (eK a) (lU (EL (aW a)))) lZ) (EW (RJ (Pd (Nm a))) (Ri (ALL Ro)) (AK (eK a) (Pd (Nm a))) lZ))):=by kernel_rfl
theorem BIP:AH Try.prog uF (C_open.spec dGB):=PU C_open (λ_=>APT) [(0,7080),(1,7048)] [] AOL (λ_=>by kernel_rfl) (λ_=>AA H8 (AA Z0 AD)) (λ(a:GB) h=>by
 show BUW a;rw[CFI]<;> delta LI UD KA LX JZ cN FA AK AN FI AE BA BM IR Ff FF lZ ZJ FW BP GU HR tA lU Fw Fe Ro DJ Pz Nm aW Dc AG AI AO AJ DR Ri hX VY QG Dd AS EL BB DW HB RU DF JG DK BO HA AQ JH JK KD ML CI OT NQ GM RO EO BK IY AL EW HZ DZ KH EH BR BU OC CN CV NS OP JO VC HI CP NH GQ NO HP NK RJ KZ PZ QY QI UQ SE Pd Gd Xy WS;simp only[CC,CU]
 obtain⟨h1,h2,h3⟩:a.g.length<4611686018427387904/\a.b.length<4611686018427387904/\RS a=0:=h
 have key:(Ce a).g.length=a.g.length/\(∀i:Nat,i<(Ce a).g.length->(gD (Ce a).g i).st=(gD a.g i).st/\(gD (Ce a).g i).lo=(gD a.g i).lo/\(gD (Ce a).g i).hi=(gD a.g i).hi)/\(Ce a).b.length=a.b.length/\(∀i:Nat,i<(Ce a).b.length->gD (Ce a).b i=gD a.b i)/\(∀n:Int,(Ce a).st n=0)/\∀n:Int,(fdM (Ce a) n).length=0:=⟨rfl,λ_ _=>⟨rfl,rfl,rfl⟩,rfl,λ_ _=>rfl,λ_=>rfl,λ_=>rfl⟩
 unfold RS at h3
 refine⟨h1,λh4=>⟨h2,λh5=>?_,λ_=>key⟩,λh4=>⟨λh5=>?_,λ_=>key⟩⟩
 ·rw[h4] at h3;simp at h3 h5;exact h5 h3
 ·rw[h4] at h3;simp at h3 h5;exact h5 h3) (λ_=>RR rfl rfl) _
theorem BQI:AH Try.prog uF (C_openX.spec dGB):=PU C_openX (λ_=>APT) [] [] AOL (λ_=>by kernel_rfl) (λ_=>AA H8 (AA Z0 AD)) (λ(a:GB) h=>by
 show BGG a;rw[BPT]<;> delta KA LX JZ cN FA AK AN FI AE BA BM IR Ff lZ ZJ FW BP GU tA lU Ro Nm aW ALL eK AG AO Ri VY QG EL BB DW HB DF JG DK HA AQ JH JK KD ML CI OT NQ GM RO BK IY EW HZ DZ KH EH BR BU OC CN CV OP JO HI GQ HP RJ PZ QI UQ SE Pd Gd;simp only[CC,CU]
 obtain⟨h1,h2,h3⟩:a.g.length<4611686018427387904/\a.b.length<4611686018427387904/\RS a≠0:=h
 refine⟨h1,λh4=>⟨h2,λh5=>?_,λh5=>h3 ?_⟩,λh4=>⟨λh5=>?_,λh5=>h3 ?_⟩⟩
 ·unfold RS;rw[h4];rfl
 ·unfold RS;rw[h4];simpa using h5
 ·unfold RS;rw[h4];rfl
 ·unfold RS;rw[h4];simpa using h5) (λ_=>RR rfl rfl) _
end Go.Bal
