/- Package rating: a book at work. -/
import Derived.Test.YtpidmmilfdcepaaGreatRLn2
set_option linter.unusedVariables false
set_option linter.unusedSimpArgs false
namespace Go.Bal
open Go Go.Sym Go.Proofs
structure Bk where
 g:List Gau
 b:List Int
 has:Int->Bool
 st:Int->Int
def Jp(w:Bk)(k:Int):List Gau:=w.g.filter λg=>(KB w.b g.st:Int)==k
def bG(s:List Gau):List Ln:=(Lf s).filter (Lh s)
def fdM(w:Bk)(j:Int):List Ln:=bif w.has j then bG (Jp w j) else []
def bkB(w:Bk)(m:Nat):AObj:=.box [.d (AT w.g),.d (AZ w.b),.mref m]
def bkM(w:Bk):AObj:=.imap .i64 (.slice none 0 0) w.has (λj=>Qr (fdM w j)) w.st none
def bkL(w:Bk):List (Nat×AObj):=[(100,bkB w 101),(101,bkM w)]
def bkK(w:Bk):List (Nat×HCell):=[(100,.live (bkB w 101)),(101,.live (bkM w))]
def US(g:List Gau)(b:List Int):Prop:=g.length<=24/\(∀x∈g,IT x)/\b.length<=24/\asc b/\∀x∈b,1<=x/\x<=2000
def ARU(H:Heap)(id:Nat):Option (Bk×Nat):=match H id with
 | .live (.box [.d (.list _ n g _),.d (.list _ m b _),.mref q])=>match H q with
  | .live (.imap _ _ has _ st _)=>some (⟨HA n λi=>Ky (g i),HA m λi=>EG (b i),has,st⟩,q)
  |_=>none
 |_=>none
structure BkI where
 w:Bk
 k:Int
def dBkI:List AVal->Heap->Option (BkI×List (Nat×Nat)×List Nat)
 |[.bptr id _,.d k],H=>match ARU H id with
  |some (w,q)=>some (⟨w,EG k⟩,[(100,id),(101,q)],[])
  |none=>none
 |_,_=>none
def inA(w:Bk)(k:Int)(i:Nat):Bool:=(KB w.b (gD w.g i).st:Int)==k
def CPC(w:Bk)(k:Int)(m:Nat):HCell:=.live (.row 1 24 λj=>CXP (bif decide (j<m) then inA w k j else false))
def rB(w:Bk)(k:Int)(i:Nat):List Gau:=(w.g.take i).filter λg=>(KB w.b g.st:Int)==k
def in3(a:BkI):Shape:={ α:=Nat,dflt:=0,T:=λi=>⟨[(0,.bptr 100 0),(1,.int a.k),(5,.rptr 201 1 0 0),(15,.d (AT a.w.g)),(16,.int a.w.g.length),(17,.int i)],bkK a.w ++ [(201,CPC a.w a.k i)]⟩,inv:=λi=>i<=a.w.g.length,meas:=λi=>a.w.g.length-i,first:=[(201,2000)] }
structure GsK where
 i:Nat
 l:List Gau
 deriving Inhabited
def in9s(a:BkI)(i:Nat):List (Nat×AVal):=[(5,.rptr 201 1 0 0),(39,.d (AT a.w.g)),(40,.int a.w.g.length),(41,.int i)]
def rowG(l:List Gau):AObj:=.row 3 l.length λi=>Ry (gD l i)
def in9h(a:BkI):List (Nat×HCell):=bkK a.w ++ [(201,CPC a.w a.k a.w.g.length)]
def in9n(a:BkI):Shape:={ α:=Nat,dflt:=0,T:=λi=>⟨(8,.d NC) :: in9s a i,in9h a⟩,inv:=λi=>i<=a.w.g.length/\rB a.w a.k i=[],meas:=λi=>a.w.g.length-i }
def in9o(a:BkI):Shape:={ α:=GsK,dflt:=default,T:=λx=>⟨(8,.own 202 3 0 x.l.length) :: in9s a x.i,in9h a ++ [(202,.live (rowG x.l))]⟩,inv:=λx=>x.i<=a.w.g.length/\x.l=rB a.w a.k x.i,meas:=λx=>a.w.g.length-x.i }
def CZA(a:BkI)(m:Nat):Shape:={ α:=Nat,dflt:=0,T:=λi=>⟨(8,.d NC) :: in9s a i,in9h a⟩,inv:=λi=>i<a.w.g.length/\a.w.g.length-i=m/\rB a.w a.k (i+1)=[],meas:=λi=>0 }
def CNX(a:BkI)(m:Nat)(f:List (Nat×Nat)):Shape:={ α:=GsK,dflt:=default,T:=λx=>⟨(8,.own 202 3 0 x.l.length) :: in9s a x.i,in9h a ++ [(202,.live (rowG x.l))]⟩,inv:=λx=>x.i<a.w.g.length/\a.w.g.length-x.i=m/\x.l=rB a.w a.k (x.i+1),meas:=λx=>0,first:=f }
def C_inside:Ctr:={ ro:=[100,101],α:=BkI,xs:=λa=>[.bptr 100 0,.int a.k],L:=λa=>bkL a.w,val:=λa=>.d (AT (Jp a.w a.k)),keep:=λa=>bkK a.w,pre:=λa=>[US a.w.g a.w.b/\True] }
def BEN(a:BkI):Ann:={ ann 55 [(64,C_part.spec dIX)] with E:=[100,101],mt:=λid=>id==12,loops:=λid=>if id=3 then some [in3 a] else if id=9 then some [in9n a,in9o a] else none,cutIn:=λgs id=>if id=13 then some [CZA a (gs.getD 0 0),CNX a (gs.getD 0 0) [(202,13048)],CNX a (gs.getD 0 0) []] else none }
def BDC(a:BkI):Prop:=AS ZP (BEN a) Tryz.f68 (AE Tryz.f68) (C_inside.xs a) (AB (C_inside.L a)) (C_inside.val a) (C_inside.keep a) [] [202]
abbrev BYU:=@Array.toList Value
abbrev IA:=BkI.k
abbrev Be:=Bk.g
abbrev CW:=BkI.w
abbrev Cp:=Bk.b
abbrev yJ:=@none Addr
abbrev EL:=λ(f:Int->Prop)=>∀(x:Int),f x
abbrev bT:=Bk.has
abbrev ACE:=Bk.st
abbrev BQV:=@Eq (List Gau)
abbrev AAQ:=@List.nil Gau
abbrev I4:=@Exists GsK
abbrev JG:=GsK.l
abbrev CF:=GsK.i
abbrev ATH:=λ(f:GsK->Prop)=>∀(x:GsK),f x
abbrev sQ:=Jp
abbrev Mb a b c d(e:Nat->Prop) f g:=WU a b c d (Hv (AG e) f) g
abbrev ATR a:=(@Eq Value) a a
abbrev ANI a b:=Value.slice a b b
abbrev CZ:=ATR (ANI yJ 0)
abbrev Ag a b c d e f g h:=BK a b c d e CZ f g h
abbrev TX a b c d e f g(h:Int->Prop):=Ag a b c d e f g (EL h)
abbrev YJ a(b:Nat->Prop):=QY (DR a) b
abbrev Ex a b:=CO (fdM a b)
abbrev WL a b:=Ex (CW a) b
abbrev SL a b(c:Nat->Prop):=YJ (WL a b) c
abbrev BE a b c:=bL (fdM a b) c
abbrev BZ a b c:=SJ (BE a b c)
abbrev BA a b c:=QT (BE a b c)
abbrev Js a b c d e:=BKD a b c (BA d e a) (BZ d e a)
abbrev Ul a b c:=BE (CW a) b c
abbrev RQ a b c d e f g h:=Js a (WL b c) (Ul d e f) (CW g) h
abbrev MU a:=EL (λi=>AK (ACE a i))
abbrev LQ a:=MU (CW a)
abbrev VO a:=EL (λi=>jL (bT a i))
abbrev LX a:=VO (CW a)
abbrev KF a:=Cp (CW a)
abbrev NQ a:=EZ (KF a)
abbrev NL a:=IW (KF a)
abbrev VZ a:=Be (CW a)
abbrev IR a:=AP (VZ a)
abbrev MC a:=BQ (VZ a)
abbrev S1 a b c d:=BHQ a b c d d d
abbrev BJT a b c:=S1 a b c (AQ a)
abbrev fS a b:=AG (λi=>BJT i a b)
abbrev AOS a:=CH (JG a)
abbrev fK a b:=HQ a (JG b)
abbrev AFH a b c d:=AO (FC a b) c d
abbrev fL a b c d e:=PY (AFH a b c d) e
abbrev Gv a b:=BQV (JG a) b
abbrev qM a b c:=rB (CW a) (IA b) c
abbrev MF a:=CH (VZ a)
abbrev dH a b:=AO AF a b
abbrev DO a b c d e f(g:Nat->Prop) h p:=BK a b c d e f (AG g) h p
abbrev Ro a b c(d:Int->Prop) e(f:Nat->Prop) g h:=DO a CZ b c (EL d) e f g h
abbrev qE a b:=BLT a 24 b
abbrev AEE a b c d e:=EP (ANN a b) (inA (CW c) (IA d) e)
abbrev Rv a b c d e:=AEE a (MF b) c d e
abbrev Ta:=DR 24
abbrev Rh a:=BP (MF a)
abbrev mY a b c:=qM a b (CN c)
abbrev nX a b c:=IZ (MF a) b c
abbrev uZ a:=BQV a AAQ
abbrev ATV a b c d e f g:=Ld a b c d e f c g
abbrev Tg a b c d e f(g:Int->Prop) h p:=BK a b c d e f (EL g) h p
abbrev IY a b c d e(f:Int->Prop) g h:=Tg a b c CZ d e f g h
abbrev SG a b c d e:=BD a (FC b c) d e
abbrev gB a b c d:=EF a (AOS b) c d
abbrev Oo a b:=Uy (JG a) b
abbrev Tc a:=WR (JG a)
abbrev AGE a b:=xD a b 3
abbrev Dl:=AGE Ea 1
abbrev XY a b:=And (BQ a) b
abbrev Iq:=DR 3
abbrev Td a:=Uy a 0
abbrev tB a b:=BO (KB a b)
abbrev CCX a b:=CFU (Cp a) (Cp b)
abbrev Is a:=CCX a a
abbrev PE a:=Is (CW a)
abbrev ALW a b:=(@List.cons Value) (Value.bool a) b
abbrev Z6 a:=ALW hd8 (ALW hd8 (ALW hd8 (ALW hd8 a)))
attribute [go_sem] BYU IA Be CW Cp yJ EL bT ACE BQV AAQ I4 JG CF ATH sQ Mb ATR ANI CZ Ag TX YJ Ex WL SL BE BZ BA Js Ul RQ MU LQ VO LX KF NQ NL VZ IR MC S1 BJT fS AOS fK AFH fL Gv qM MF dH DO Ro qE AEE Rv Ta Rh mY nX uZ ATV Tg IY SG gB Oo Tc AGE Dl XY Iq Td tB CCX Is PE ALW Z6
theorem BUP(a:BkI):(BDC a)=(WX ((@Eq (List Value)) (BYU (Value.cells (Value.agg ((@List.toArray Value) (Z6 (Z6 (Z6 (Z6 (Z6 (Z6 (@List.nil Value))))))))))) ((@List.flatten Value) ((@List.replicate (List Value)) 24 (BYU (Value.cells (Value.bool hd8)))))) (EI (λi=>XV (DY (AK (IA a)) AF (MC a) (IR a) (Rh a) (BX i) (MC a) (IY (IR a) (NL a) (NQ a) (LX a) (LQ a) (λj=>SL a j (λk=>RQ k a j a j k a j)) Ta (AG (λj=>HJ j 24 (KU (AEE j i a a j)))))) i (MF a))) (λi=>YH (Ko i (MF a)) i (MF a) (CR i (MF a)) (AW (BC (PE a) (KF a)) (BR (PE a) (KF a)) (AK (BL (VZ a) i)) (And (ZS (PE a)) (vI OB (PE a))) (Cd (BO i) (OB (BO i) 24)) (IU i 24)) (EI (λj=>Bm (DY (AK (IA a)) AF (MC a) (IR a) (Rh a) (AJ j i) (MC a) (IY (IR a) (NL a) (NQ a) (LX a) (LQ a) (λk=>SL a k (λl=>RQ l a k a k l a k)) Ta (AG (λk=>HJ k 24 (Va (AEE k j a a k) (hd5 (AOF k i) (VS (tB (PE a) (BL (VZ a) i)) (IA a)) (AEE k i a a k))))))) j (MF a) j i)) (AO (EI (λj=>EE (ATV AF AN (MC a) (IR a) (Rh a) (BX j) (IY (IR a) (NL a) (NQ a) (LX a) (LQ a) (λk=>SL a k (λl=>RQ l a k a k l a k)) Ta (AG (λk=>HJ k 24 (Va (Rv k a a a k) (AEE k i a a k)))))) j (MF a) (uZ (qM a a j)))) (AG (λj=>Mb (GP j (MF a) (uZ (qM a a j))) j (MF a) (UG (CR j (MF a)) (And (Cd (BO j) (OB (BO j) 24)) (IU j 24)) (Rv j a a a j) (Sx 3 Dl 24) (I4 (λk=>SG (dH (Oo k 1) (I9 AF (MC a) (IR a) (Rh a) (AI (CF k) j) (NL a) (Ro (NQ a) (LX a) (LQ a) (λl=>SL a l (λm=>RQ m a l a l m a l)) Ta (λl=>qE l (Rv l a a a l)) (Oo k 1) (AG (λl=>S1 l (JG k) (VZ a) j))))) (CF k) (MF a) (nX a (CF k) j) (Gv k (mY a a (CF k))))) (EI (λk=>SG (ATV AF AN (MC a) (IR a) (Rh a) (AI k j) (IY (IR a) (NL a) (NQ a) (LX a) (LQ a) (λl=>SL a l (λm=>RQ m a l a l m a l)) Ta (AG (λl=>qE l (Rv l a a a l))))) k (MF a) (nX a k j) (uZ (mY a a k))))) (λk=>fL k (MF a) (nX a k j) (uZ (mY a a k)) (EI (λl=>QS (ATV AF AN (MC a) (IR a) (Rh a) (AJ l k) (IY (IR a) (NL a) (NQ a) (LX a) (LQ a) (λm=>SL a m (λn=>RQ n a m a m n a m)) Ta (AG (λm=>qE m (Rv m a a a m))))) l (MF a) (uZ (qM a a l)) j))) (ATH (λk=>fL (CF k) (MF a) (nX a (CF k) j) (Gv k (mY a a (CF k))) (I4 (λl=>QS (dH (fK (JG l) k) (I9 AF (MC a) (IR a) (Rh a) (AJ (CF l) (CF k)) (NL a) (Ro (NQ a) (LX a) (LQ a) (λm=>SL a m (λn=>RQ n a m a m n a m)) Ta (λm=>qE m (Rv m a a a m)) (fK (JG l) k) (EK (JG l) (JG k))))) (CF l) (MF a) (Gv l (qM a a (CF l))) j)))) (And (Td (sQ (CW a) (IA a))) (TX (Td (sQ (CW a) (IA a))) (MC a) (IR a) (NL a) (NQ a) (LX a) (LQ a) (λk=>SL a k (λl=>RQ l a k a k l a k)))))) (ATH (λj=>Mb (GP (CF j) (MF a) (Gv j (qM a a (CF j)))) (CF j) (MF a) (UG (CR (CF j) (MF a)) (And (Cd (BO (CF j)) (OB (BO (CF j)) 24)) (IU (CF j) 24)) (Rv (CF j) a a a (CF j)) (eV (XY (JG j) (AAL 0 (JG j) Iq)) Dl (Tc j) 24) (I4 (λk=>SG (dH (Oo k (Tc j)) (I9 AF (MC a) (IR a) (Rh a) (AI (CF k) (CF j)) (NL a) (Ro (NQ a) (LX a) (LQ a) (λl=>SL a l (λm=>RQ m a l a l m a l)) Ta (λl=>qE l (Rv l a a a l)) (Oo k (Tc j)) (AG (λl=>Pg l (JG k) (gB l j (BL (JG j) l) (BL (VZ a) (CF j))) (gB l j (DF (JG j) l) (DF (VZ a) (CF j))) (gB l j (DG (JG j) l) (DG (VZ a) (CF j)))))))) (CF k) (MF a) (nX a (CF k) (CF j)) (Gv k (mY a a (CF k))))) (I4 (λk=>SG (dH (fK (JG k) j) (I9 AF (MC a) (IR a) (Rh a) (AI (CF k) (CF j)) (NL a) (Ro (NQ a) (LX a) (LQ a) (λl=>SL a l (λm=>RQ m a l a l m a l)) Ta (λl=>qE l (Rv l a a a l)) (fK (JG k) j) (EK (JG k) (JG j))))) (CF k) (MF a) (nX a (CF k) (CF j)) (Gv k (mY a a (CF k)))))) (λk=>fL k (MF a) (nX a k (CF j)) (uZ (mY a a k)) (EI (λl=>QS (ATV AF AN (MC a) (IR a) (Rh a) (AJ l k) (IY (IR a) (NL a) (NQ a) (LX a) (LQ a) (λm=>SL a m (λn=>RQ n a m a m n a m)) Ta (AG (λm=>qE m (Rv m a a a m))))) l (MF a) (uZ (qM a a l)) (CF j)))) (ATH (λk=>fL (CF k) (MF a) (nX a (CF k) (CF j)) (Gv k (mY a a (CF k))) (I4 (λl=>QS (dH (fK (JG l) k) (I9 AF (MC a) (IR a) (Rh a) (AJ (CF l) (CF k)) (NL a) (Ro (NQ a) (LX a) (LQ a) (λm=>SL a m (λn=>RQ n a m a m n a m)) Ta (λm=>qE m (Rv m a a a m)) (fK (JG l) k) (EK (JG l) (JG k))))) (CF l) (MF a) (Gv l (qM a a (CF l))) (CF j))))) (Tl (fK (sQ (CW a) (IA a)) j) (AOS j) (TX (fS (sQ (CW a) (IA a)) (JG j)) (MC a) (IR a) (NL a) (NQ a) (LX a) (LQ a) (λk=>SL a k (λl=>RQ l a k a k l a k))))))))):=by kernel_rfl
theorem C7{w:Bk}{k:Int}{i:Nat}(h:i<w.g.length):rB w k (i+1)=if inA w k i=true then rB w k i ++ [gD w.g i] else rB w k i:=by
 unfold rB
 rw[LG h,List.filter_append]
 unfold inA
 split
 ·rename_i h1;simp[List.filter_cons,h1]
 ·rename_i h1;simp[List.filter_cons,h1]
theorem BET{w:Bk}{k:Int}{i:Nat}(h:w.g.length<=i):rB w k i=Jp w k:=by unfold rB Jp;rw[List.take_of_length_le h]
theorem BEL{w:Bk}{k:Int}{i:Nat}:(rB w k i).length<=w.g.length:=
 Nat.le_trans (List.length_filter_le _ _) (by simp;omega)
theorem BOK(l:List Gau)(p:Gau)(i:Nat)(hi:i<(l ++ [p]).length):((gD (l ++ [p]) i).st=bif decide (i<l.length) then (gD l i).st else p.st)/\((gD (l ++ [p]) i).lo=bif decide (i<l.length) then (gD l i).lo else p.lo)/\(gD (l ++ [p]) i).hi=bif decide (i<l.length) then (gD l i).hi else p.hi:=by
 rw[D8 _ _ (by simpa using hi)]
 cases decide (i<l.length)<;>exact⟨rfl,rfl,rfl⟩
theorem CGD(a:BkI)(h:US a.w.g a.w.b):BDC a:=by
 rw[BUP]<;> dsimp only[go_sem];simp only[CC,CU]
 obtain⟨hg,hgo,hb,hasc,hbr⟩:=h
 have cn:∀(m i:Nat),i<a.w.g.length/\a.w.g.length-i=m/\rB a.w a.k (i+1)=[]->∃j:Nat,(j:Int)=IntKind.i64.wrap ((i:Int)+1)/\(j<=a.w.g.length/\rB a.w a.k j=[])/\a.w.g.length-j<m:=λm i h=>⟨i+1,(BF (by omega)).symm,⟨h.1,h.2.2⟩,by omega⟩
 have co:∀(m:Nat) (x:GsK),x.i<a.w.g.length/\a.w.g.length-x.i=m/\x.l=rB a.w a.k (x.i+1)->∃y:GsK,(y.l.length=x.l.length/\(y.i:Int)=IntKind.i64.wrap ((x.i:Int)+1)/\y.l.length=x.l.length/\∀(i:Nat),i<y.l.length->(gD y.l i).st=(gD x.l i).st/\(gD y.l i).lo=(gD x.l i).lo/\(gD y.l i).hi=(gD x.l i).hi)/\(y.i<=a.w.g.length/\y.l=rB a.w a.k y.i)/\a.w.g.length-y.i<m:=λm x h=>⟨⟨x.i+1,x.l⟩,⟨rfl,(BF (by omega)).symm,rfl,λ_ _=>⟨rfl,rfl,rfl⟩⟩,⟨h.1,h.2.2⟩,by show a.w.g.length-(x.i+1)<m;omega⟩
 have ne:∀(i:Nat),i<a.w.g.length->rB a.w a.k i=[]->inA a.w a.k i=false->rB a.w a.k (i+1)=[]:=λi hi h1 h2=>by
  rw[C7 hi,h2,h1];simp
 refine⟨rfl,⟨0,⟨rfl,λi hi=>by simp⟩,Nat.zero_le _⟩,λi hi=>⟨λhlt=>⟨⟨by omega,by omega⟩,⟨⟨by omega,hasc⟩,⟨by omega,by omega⟩,by omega⟩,i+1,⟨(BF (by omega)).symm,λj hj=>?_⟩,by omega,by omega⟩,λhge=>⟨⟨0,⟨rfl,λj hj=>by rw[show i=a.w.g.length by omega]⟩,Nat.zero_le _,by simp[rB]⟩,
  λi hi=>⟨λhlt=>⟨⟨⟨by omega,by omega⟩,⟨⟨by omega,by omega⟩,by omega⟩,λhp=>⟨by simp,⟨i,[gD a.w.g i]⟩,⟨rfl,rfl,rfl,λj hj=>?_⟩,Int.ofNat_lt.1 hlt,rfl,?_⟩,λhp=>⟨i,rfl,by omega,rfl,ne i (by omega) hi.2 ?_⟩⟩,cn _,co _⟩,λhge=>?_⟩,
  λx hx=>⟨λhlt=>⟨⟨⟨by omega,by omega⟩,⟨⟨by omega,by omega⟩,by omega⟩,λhp=>⟨⟨by simp,by simp,?_,?_⟩,⟨x.i,x.l ++ [gD a.w.g x.i]⟩,⟨by simp,rfl,by simp,BOK _ _⟩,Int.ofNat_lt.1 hlt,rfl,?_⟩,λhp=>⟨⟨x.i,x.l⟩,⟨rfl,rfl,rfl,λ_ _=>⟨rfl,rfl,rfl⟩⟩,Int.ofNat_lt.1 hlt,rfl,?_⟩⟩,cn _,co _⟩,λhge=>?_⟩⟩⟩⟩
 ·by_cases h1:j=i
  ·subst h1;simp[inA]
  ·by_cases h2:j<i
   ·simp[h1,h2,show j<i+1 by omega]
   ·simp[h1,h2,show ¬ j<i+1 by omega]
 ·have:j=0:=by have hj:j<1:=hj;omega
  subst this;exact⟨rfl,rfl,rfl⟩
 ·have hlt':i<a.w.g.length:=Int.ofNat_lt.1 hlt
  show [gD a.w.g i]=_
  rw[C7 hlt',hi.2,if_pos (by simpa[hlt'] using hp)];rfl
 ·have hlt':i<a.w.g.length:=Int.ofNat_lt.1 hlt
  simpa[hlt'] using hp
 ·rw[<-BET (i:=i) (by omega),hi.2];rfl
 ·have:=BEL (w:=a.w) (k:=a.k) (i:=x.i);rw[<-hx.2] at this;omega
 ·have:=BEL (w:=a.w) (k:=a.k) (i:=x.i);rw[<-hx.2] at this;omega
 ·show x.l ++ _=_
  have hlt':x.i<a.w.g.length:=Int.ofNat_lt.1 hlt
  rw[C7 hlt',<-hx.2,if_pos (by simpa[hlt'] using hp)]
 ·show x.l=_
  have hlt':x.i<a.w.g.length:=Int.ofNat_lt.1 hlt
  rw[C7 hlt',<-hx.2,if_neg (by simpa[hlt'] using hp)]
 ·have e:x.l=Jp a.w a.k:=by rw[hx.2,BET (by omega)]
  rw[e];exact⟨rfl,Nat.le_refl _,λ_ _=>⟨rfl,rfl,rfl⟩⟩
theorem C8:AH ZP 68 (C_inside.spec dBkI):=PW C_inside BEN [] [202] Tryz.func68 (λ_=>by kernel_rfl) (λ_=>AA ADJ AD) (λ(a:BkI) h=>CGD a (show US a.w.g a.w.b/\True from h).1) (λ_=>RA rfl rfl) _
def DD(w:Bk)(k:Int):Span:=⟨bif decide (k>0) then gD w.b (k-1).toNat else 0,bif decide (k<w.b.length) then wr (gD w.b k.toNat-1) else 2000⟩
def C_span:Ctr:={ ro:=[100,101],α:=BkI,xs:=λa=>[.bptr 100 0,.int a.k],L:=λa=>bkL a.w,val:=λa=>.d (AHZ (DD a.w a.k)),keep:=λa=>bkK a.w,pre:=λa=>[US a.w.g a.w.b/\0<=a.k/\a.k<=a.w.b.length] }
def CGS:Ann:={ ann 38 [] with E:=[100,101] }
def CBD(a:BkI):Prop:=AS ZP CGS Tryz.f89 (AE Tryz.f89) (C_span.xs a) (AB (C_span.L a)) (C_span.val a) (C_span.keep a) [] []
abbrev AHW:=Span.lo
abbrev AQE:=DD
abbrev jQ:=Span.hi
abbrev Fv a b:=BM (jQ a) b
abbrev Mc a b:=AHW (AQE a b)
abbrev TN a b c:=And (BM a b) c
abbrev pF a:=Oa a 0
attribute [go_sem] AHW AQE jQ Fv Mc TN pF
theorem CIF(a:BkI):(CBD a)=(FD (pF (IA a)) (TG (UH (IA a)) (GZ (KF a))) (HZ (Tx (IA a) (NP (KF a))) (Hk (TG (IA a) (GZ (KF a))) (Mc (CW a) (IA a)) (KL (KF a) (NV (UH (IA a)))) (TX (Fv (AQE (CW a) (IA a)) (UH (KL (KF a) (NV (IA a))))) (MC a) (IR a) (NL a) (NQ a) (LX a) (LQ a) (λi=>SL a i (λj=>RQ j a i a i j a i)))) (TN (Mc (CW a) (IA a)) (KL (KF a) (NV (UH (IA a)))) (TX (Fv (AQE (CW a) (IA a)) 2000) (MC a) (IR a) (NL a) (NQ a) (LX a) (LQ a) (λi=>SL a i (λj=>RQ j a i a i j a i))))) (Gj (Tx (IA a) (NP (KF a))) (Hk (TG (IA a) (GZ (KF a))) (Mc (CW a) (IA a)) 0 (TX (Fv (AQE (CW a) (IA a)) (UH (KL (KF a) (NV (IA a))))) (MC a) (IR a) (NL a) (NQ a) (LX a) (LQ a) (λi=>SL a i (λj=>RQ j a i a i j a i)))) (CL (Mc (CW a) (IA a))) (TX (Fv (AQE (CW a) (IA a)) 2000) (MC a) (IR a) (NL a) (NQ a) (LX a) (LQ a) (λi=>SL a i (λj=>RQ j a i a i j a i))))):=by kernel_rfl
theorem B7:AH ZP 89 (C_span.spec dBkI):=PW C_span (λ_=>CGS) [] [] Tryz.func89 (λ_=>by kernel_rfl) (λ_=>AD) (λ(a:BkI) h=>by
 show CBD a;rw[CIF]<;> dsimp only[go_sem];simp only[CC,CU]
 obtain⟨⟨hg,hgo,hb,hasc,hbr⟩,h1,h2⟩:US a.w.g a.w.b/\0<=a.k/\a.k<=a.w.b.length:=h
 rw[HL (n:=a.k-1) (by omega) (by omega)]
 unfold DD wr
 refine⟨λh3=>⟨by omega,λh4=>⟨by omega,?_,?_⟩,λh4=>⟨?_,?_⟩⟩,λh3=>⟨λh4=>⟨by omega,?_,?_⟩,λh4=>⟨?_,?_⟩⟩⟩<;>simp[h3,h4]) (λ_=>RA rfl rfl) _
structure GB where
 g:List Gau
 b:List Int
def dGB:List AVal->Heap->Option (GB×List (Nat×Nat)×List Nat)
 |[x,y],H=>match Ht x H,Xt y H with
  |some (l,f),some (m,e)=>some (⟨l,m⟩,[],f ++ e)
  |_,_=>none
 |_,_=>none
def xGB(a:GB):List AVal:=[.d (AT a.g),.d (AZ a.b)]
def AV(a:GB):Int:=bif AL a.g==0 then OC a.b else AL a.g
def FM(a:GB):Bk:=⟨a.g,a.b,λ_=>false,λ_=>0⟩
def C_open:Ctr:={ α:=GB,xs:=xGB,L:=λ_=>[],val:=λ_=>.tup [.bptr 0 0,.int 0],keep:=λa=>[(0,.live (bkB (FM a) 1)),(1,.live (bkM (FM a)))],pre:=λa=>[a.g.length<4611686018427387904/\a.b.length<4611686018427387904/\AV a=0] }
def C_openX:Ctr:={ α:=GB,xs:=xGB,L:=λ_=>[],val:=λa=>.tup [.d (.v (.pointer none)),.int (AV a)],keep:=λ_=>[],pre:=λa=>[a.g.length<4611686018427387904/\a.b.length<4611686018427387904/\AV a≠0] }
def BCK:Ann:=ann 22 [(9,C_Check.spec NU),(52,C_checkB.spec dIs1)]
def BZK(a:GB):Prop:=AS ZP BCK Tryz.f67 (AE Tryz.f67) (xGB a) (AB []) (C_open.val a) (C_open.keep a) [(0,7080),(1,7048)] []
abbrev G9:=GB.g
abbrev Eu:=GB.b
abbrev GN:=FM
abbrev SK a b c d e:=And a (FD b c d e)
abbrev Gq:=EL (λi=>jL hd8)
abbrev vH a b:=BR a (Eu b)
abbrev rA a:=Cp (GN a)
abbrev xE a b:=BC a (Eu b)
abbrev tK a b:=EK a (G9 b)
abbrev pC a:=Be (GN a)
abbrev xJ a b:=HQ a (G9 b)
abbrev PO a:=CG (G9 a)
abbrev yG a:=sE (PO a)
abbrev PQ a:=FI (Eu a)
abbrev P6 a:=ZS (PQ a)
abbrev Lw a b:=vH (PQ a) b
abbrev Lz a b:=xE (PQ a) b
abbrev W3 a:=Fz (PO a)
abbrev Sc a b:=tK (PO a) b
abbrev Tk a b:=xJ (PO a) b
attribute [go_sem] G9 Eu GN SK Gq vH rA xE tK pC xJ PO yG PQ P6 Lw Lz W3 Sc Tk
theorem CIN(a:GB):(BZK a)=(SK (Dd (Tk a a) (Sc a a) (W3 a)) (OJ (yG a)) (Dd (Lz a a) (Lw a a) (P6 a)) (HZ (RR (La (PQ a))) zA (TX BB (xJ (pC a) a) (tK (pC a) a) (xE (rA a) a) (vH (rA a) a) Gq (EL (λi=>CL (ACE (GN a) i))) (λi=>AAX (HE (Ex (GN a) i))))) (HZ (RR (yG a)) zA (TX BB (xJ (pC a) a) (tK (pC a) a) (xE (rA a) a) (vH (rA a) a) Gq (EL (λi=>CL (ACE (GN a) i))) (λi=>AAX (HE (Ex (GN a) i)))))):=by kernel_rfl
def BNX(a:GB):Prop:=AS ZP BCK Tryz.f67 (AE Tryz.f67) (xGB a) (AB []) (C_openX.val a) [] [] []
abbrev BFW:=Value.pointer
abbrev AOB:=AV
abbrev oG a b:=BM (AOB a) b
attribute [go_sem] BFW AOB oG
theorem CHB(a:GB):(BNX a)=(SK (Dd (Tk a a) (Sc a a) (W3 a)) (OJ (yG a)) (Dd (Lz a a) (Lw a a) (P6 a)) (FD (RR (La (PQ a))) (ATR (BFW yJ)) (oG a (La (PQ a))) zA) (FD (RR (yG a)) (ATR (BFW yJ)) (oG a (yG a)) zA)):=by kernel_rfl
theorem C4:AH ZP 67 (C_open.spec dGB):=PW C_open (λ_=>BCK) [(0,7080),(1,7048)] [] Tryz.func67 (λ_=>by kernel_rfl) (λ_=>AA Jx (AA AGS AD)) (λ(a:GB) h=>by
 show BZK a;rw[CIN]<;> dsimp only[go_sem];simp only[CC,CU]
 obtain⟨h1,h2,h3⟩:a.g.length<4611686018427387904/\a.b.length<4611686018427387904/\AV a=0:=h
 have key:(FM a).g.length=a.g.length/\(∀i:Nat,i<(FM a).g.length->(gD (FM a).g i).st=(gD a.g i).st/\(gD (FM a).g i).lo=(gD a.g i).lo/\(gD (FM a).g i).hi=(gD a.g i).hi)/\(FM a).b.length=a.b.length/\(∀i:Nat,i<(FM a).b.length->gD (FM a).b i=gD a.b i)/\(∀n:Int,(FM a).st n=0)/\∀n:Int,(fdM (FM a) n).length=0:=⟨rfl,λ_ _=>⟨rfl,rfl,rfl⟩,rfl,λ_ _=>rfl,λ_=>rfl,λ_=>rfl⟩
 unfold AV at h3
 refine⟨h1,λh4=>⟨h2,λh5=>?_,λ_=>key⟩,λh4=>⟨λh5=>?_,λ_=>key⟩⟩
 ·rw[h4] at h3;simp at h3 h5;exact h5 h3
 ·rw[h4] at h3;simp at h3 h5;exact h5 h3) (λ_=>RA rfl rfl) _
theorem yY:AH ZP 67 (C_openX.spec dGB):=PW C_openX (λ_=>BCK) [] [] Tryz.func67 (λ_=>by kernel_rfl) (λ_=>AA Jx (AA AGS AD)) (λ(a:GB) h=>by
 show BNX a;rw[CHB]<;> dsimp only[go_sem];simp only[CC,CU]
 obtain⟨h1,h2,h3⟩:a.g.length<4611686018427387904/\a.b.length<4611686018427387904/\AV a≠0:=h
 refine⟨h1,λh4=>⟨h2,λh5=>?_,λh5=>h3 ?_⟩,λh4=>⟨λh5=>?_,λh5=>h3 ?_⟩⟩
 ·unfold AV;rw[h4];rfl
 ·unfold AV;rw[h4];simpa using h5
 ·unfold AV;rw[h4];rfl
 ·unfold AV;rw[h4];simpa using h5) (λ_=>RA rfl rfl) _
end Go.Bal
