/- Package rating: a book at work. -/
import Derived.Test.YtoihhodbkimedaaGreatRLn2
set_option linter.unusedVariables false
set_option linter.unusedSimpArgs false
namespace Go.Bal
open Go Go.Sym Go.Proofs
structure Bk where
 g:List Gau
 b:List Int
 has:Int->Bool
 st:Int->Int
def Ja(w:Bk)(k:Int):List Gau:=w.g.filter λg=>(Et w.b g.st:Int)==k
def SQ(s:List Gau):List Ln:=(Nh s).filter (Hn s)
def QX(w:Bk)(j:Int):List Ln:=bif w.has j then SQ (Ja w j) else []
def bkB(w:Bk)(m:Nat):AObj:=.box [.d (BX w.g),.d (CZ w.b),.mref m]
def bkM(w:Bk):AObj:=.imap .i64 (.slice none 0 0) w.has (λj=>eLns (QX w j)) w.st none
def bkL(w:Bk):List (Nat×AObj):=[(100,bkB w 101),(101,bkM w)]
def bkK(w:Bk):List (Nat×HCell):=[(100,.live (bkB w 101)),(101,.live (bkM w))]
def ZV(g:List Gau)(b:List Int):Prop:=g.length<=24/\(∀x∈g,RK x)/\b.length<=24/\asc b/\∀x∈b,1<=x/\x<=2000
def ATT(H:Heap)(id:Nat):Option (Bk×Nat):=match H id with
 | .live (.box [.d (.list _ n g _),.d (.list _ m b _),.mref q])=>match H q with
  | .live (.imap _ _ has _ st _)=>some (⟨MK n λi=>Sr (g i),MK m λi=>KT (b i),has,st⟩,q)
  |_=>none
 |_=>none
structure BkI where
 w:Bk
 k:Int
def dBkI:List AVal->Heap->Option (BkI×List (Nat×Nat)×List Nat)
 |[.bptr id _,.d k],H=>match ATT H id with
  |some (w,q)=>some (⟨w,KT k⟩,[(100,id),(101,q)],[])
  |none=>none
 |_,_=>none
def inA(w:Bk)(k:Int)(i:Nat):Bool:=(Et w.b (gD w.g i).st:Int)==k
def CJO(w:Bk)(k:Int)(m:Nat):HCell:=.live (.row 1 24 λj=>CTZ (bif decide (j<m) then inA w k j else false))
def nM(w:Bk)(k:Int)(i:Nat):List Gau:=(w.g.take i).filter λg=>(Et w.b g.st:Int)==k
def in3(a:BkI):Shape:={ α:=Nat,dflt:=0,T:=λi=>⟨[(0,.bptr 100 0),(1,.int a.k),(5,.rptr 201 1 0 0),(15,.d (BX a.w.g)),(16,.int a.w.g.length),(17,.int i)],bkK a.w ++ [(201,CJO a.w a.k i)]⟩,inv:=λi=>i<=a.w.g.length,meas:=λi=>a.w.g.length-i,first:=[(201,2000)] }
structure GsK where
 i:Nat
 l:List Gau
 deriving Inhabited
def in9s(a:BkI)(i:Nat):List (Nat×AVal):=[(5,.rptr 201 1 0 0),(39,.d (BX a.w.g)),(40,.int a.w.g.length),(41,.int i)]
def rowG(l:List Gau):AObj:=.row 3 l.length λi=>jI (gD l i)
def in9h(a:BkI):List (Nat×HCell):=bkK a.w ++ [(201,CJO a.w a.k a.w.g.length)]
def in9n(a:BkI):Shape:={ α:=Nat,dflt:=0,T:=λi=>⟨(8,.d ZU) :: in9s a i,in9h a⟩,inv:=λi=>i<=a.w.g.length/\nM a.w a.k i=[],meas:=λi=>a.w.g.length-i }
def in9o(a:BkI):Shape:={ α:=GsK,dflt:=default,T:=λx=>⟨(8,.own 202 3 0 x.l.length) :: in9s a x.i,in9h a ++ [(202,.live (rowG x.l))]⟩,inv:=λx=>x.i<=a.w.g.length/\x.l=nM a.w a.k x.i,meas:=λx=>a.w.g.length-x.i }
def CTQ(a:BkI)(m:Nat):Shape:={ α:=Nat,dflt:=0,T:=λi=>⟨(8,.d ZU) :: in9s a i,in9h a⟩,inv:=λi=>i<a.w.g.length/\a.w.g.length-i=m/\nM a.w a.k (i+1)=[],meas:=λi=>0 }
def CLS(a:BkI)(m:Nat)(f:List (Nat×Nat)):Shape:={ α:=GsK,dflt:=default,T:=λx=>⟨(8,.own 202 3 0 x.l.length) :: in9s a x.i,in9h a ++ [(202,.live (rowG x.l))]⟩,inv:=λx=>x.i<a.w.g.length/\a.w.g.length-x.i=m/\x.l=nM a.w a.k (x.i+1),meas:=λx=>0,first:=f }
def C_inside:Ctr:={ ro:=[100,101],α:=BkI,xs:=λa=>[.bptr 100 0,.int a.k],L:=λa=>bkL a.w,val:=λa=>.d (BX (Ja a.w a.k)),keep:=λa=>bkK a.w,pre:=λa=>[ZV a.w.g a.w.b/\True] }
def BBO(a:BkI):Ann:={ ann 55 [(AVK,C_part.spec dIX)] with E:=[100,101],mt:=λid=>id==12,loops:=λid=>if id=3 then some [in3 a] else if id=9 then some [in9n a,in9o a] else none,cutIn:=λgs id=>if id=13 then some [CTQ a (gs.getD 0 0),CLS a (gs.getD 0 0) [(202,13048)],CLS a (gs.getD 0 0) []] else none }
def BEQ(a:BkI):Prop:=BQ Try.prog (BBO a) ASM (AI ASM) (C_inside.xs a) (AD (C_inside.L a)) (C_inside.val a) (C_inside.keep a) [] [202]
abbrev BNV:=@Array.toList Value
abbrev HM:=BkI.k
abbrev PA:=Bk.g
abbrev DB:=BkI.w
abbrev PK:=Bk.b
abbrev Bq:=@none Addr
abbrev BG:=λ(f:Int->Prop)=>∀(x:Int),f x
abbrev Jp:=Bk.has
abbrev Dd:=Bk.st
abbrev AKR:=@Eq (List Gau)
abbrev rU:=@List.nil Gau
abbrev gX:=@Exists GsK
abbrev HW:=GsK.l
abbrev CH:=GsK.i
abbrev ACM:=λ(f:GsK->Prop)=>∀(x:GsK),f x
abbrev bZ:=Ja
abbrev Ji a(b:Nat->Prop) c:=AG a (AK b) c
abbrev IQ a b c d:=AG (AW a b) c d
abbrev Bu a:=(@Eq Value) a a
abbrev EQ:=Bu (Value.slice Bq 0 0)
abbrev QW a b c d e f g h:=AX a b c d e EQ f g h
abbrev OF a b c d e f g(h:Int->Prop):=QW a b c d e f g (BG h)
abbrev PQ a:=PK (DB a)
abbrev Du a:=FC (PQ a)
abbrev Cs a:=CX (PQ a)
abbrev FV a:=PA (DB a)
abbrev TS a:=BN (FV a)
abbrev TG a:=AZ (FV a)
abbrev YE a b c d e f g(h:Int->Prop):=OF a (TG b) (TS c) (Cs d) (Du e) f g h
abbrev VW a(b:Nat->Prop):=FZ (BL a) b
abbrev Ha a b:=ID (QX a b)
abbrev UL a b(c:Nat->Prop):=VW (Ha a b) c
abbrev OY a b(c:Nat->Prop):=UL (DB a) b c
abbrev Ng a b c d e:=GA a (Ha b c) d e
abbrev Eo a b c:=RG (QX a b) c
abbrev DW a b c:=MN (Eo a b c)
abbrev BI a b c:=LW (Eo a b c)
abbrev UC a b c d:=Ng a b c (Aa (Eo b c a)) (HL d (BI b c a) (DW b c a))
abbrev BO a b c:=LY (Eo a b c)
abbrev Fb a b c:=BO (DB a) b c
abbrev OZ a b c d e f:=UC a (DB b) c (Fb d e f)
abbrev OP a:=BG (λi=>AM (Dd a i))
abbrev LD a:=OP (DB a)
abbrev WA a:=BG (λi=>JM (Jp a i))
abbrev KV a:=WA (DB a)
abbrev Ry a b c d e f g:=EM a b c d (AP e f) g f
abbrev Cw a b c d e f:=Ry a b c d e f e
abbrev Gn a b:=AH (HW a) b
abbrev Xp a:=CI (HW a)
abbrev Bc a b:=AKR (HW a) b
abbrev gP a b c:=nM (DB a) (HM b) c
abbrev NT a b c:=FK a b (AH b a) c a c
abbrev ER a b:=AK (λi=>NT i a b)
abbrev dR(a:Nat->Bool):=Ks 24 a
abbrev C6 a b c d e:=FU (Mz a b) (inA (DB c) (HM d) e)
abbrev AIU a:=CI (FV a)
abbrev Oa a b c d e:=C6 a (AIU b) c d e
abbrev Rv:=BL 24
abbrev Rx a:=NW (FV a)
abbrev fM a b c:=gP a b (EO c)
abbrev dU a b c:=AR (OK a b) c
abbrev VR a b c:=dU a b (OK a c)
abbrev fX a b c:=VR (FV a) b c
abbrev pI a:=AKR a rU
abbrev Gf a b c d e:=AN a (RD b c) d e
abbrev Nm a b c:=BR a (HW b) c
abbrev ZZ a b c d e f g:=EP a b c d e c f g
abbrev Rw a b c d:=JQ a (Xp b) c d
abbrev Lu a b:=CF (HW a) b
abbrev Tr a:=ZG (HW a)
abbrev Le a b:=And (AZ a) b
abbrev VL:=BL 3
abbrev Ff a:=CF a 0
abbrev VJ a b c(d:Nat->Prop):=CL a b c (FB d)
abbrev ZC:=OA 24
abbrev Iy:=Ak 3
abbrev Cl a b c d:=AN (AM a) b c d
abbrev aD a b:=IE (PK a) (PK b)
abbrev XT a:=aD a a
abbrev OB a:=XT (DB a)
abbrev LC a:=JT a XL
abbrev AFW a b:=(@List.cons Value) (Value.bool a) b
abbrev uX a:=AFW XL (AFW XL (AFW XL (AFW XL a)))
attribute [go_sem] BNV HM PA DB PK Bq BG Jp Dd AKR rU gX HW CH ACM bZ Ji IQ Bu EQ QW OF PQ Du Cs FV TS TG YE VW Ha UL OY Ng Eo DW BI UC BO Fb OZ OP LD WA KV Ry Cw Gn Xp Bc gP NT ER dR C6 AIU Oa Rv Rx fM dU VR fX pI Gf Nm ZZ Rw Lu Tr Le VL Ff VJ ZC Iy Cl aD XT OB LC AFW uX
theorem BQP(a:BkI):(BEQ a)=(KC ((@Eq (List Value)) (BNV (Value.cells (Value.agg ((@List.toArray Value) (uX (uX (uX (uX (uX (uX (@List.nil Value))))))))))) ((@List.flatten Value) ((@List.replicate (List Value)) 24 (BNV (Value.cells (Value.bool XL)))))) (FB (λi=>DY (AM (HM a)) AL (TG a) (AF (TS a) (Rx a) (BD i) (TG a) (FO (TS a) (Cs a) (Du a) EQ (KV a) (LD a) (BG (λj=>OY a j (λk=>OZ k a j a j k))) Rv (λj=>AT j 24 (LC (C6 j i a a j))))) (IY i (AIU a)))) (λi=>NJ (IY i (AIU a)) (FD i (EY (FV a))) (IB i (FV a)) (BJ (AY (OB a) (PQ a)) (BM (OB a) (PQ a)) (AM (AH (FV a) i)) (And (LP (OB a)) (Lj ES (OB a))) (ED (AQ i) (ES (AQ i) 24)) (HN i 24)) (FB (λj=>HR (Cl (HM a) AL (TG a) (AF (TS a) (Rx a) (BS j i) (TG a) (FO (TS a) (Cs a) (Du a) EQ (KV a) (LD a) (BG (λk=>OY a k (λl=>OZ l a k a k l))) Rv (λk=>AT k 24 (JT (C6 k j a a k) (qD (XS k i) (OL (AQ (Et (OB a) (AH (FV a) i))) (HM a)) (C6 k i a a k))))))) (IY j (AIU a)) (FV a) j i)) (Ji (FB (λj=>AG (Gp DH (TG a) (TS a) (Rx a) (BD j) (TG a) (FO (TS a) (Cs a) (Du a) EQ (KV a) (LD a) (BG (λk=>OY a k (λl=>OZ l a k a k l))) Rv (λk=>AT k 24 (JT (Oa k a a a k) (C6 k i a a k))))) (FX j (FV a)) (pI (gP a a j)))) (λj=>OW (OU j (FV a) (pI (gP a a j))) j (FV a) (AG (IB j (FV a)) (And (ED (AQ j) (ES (AQ j) 24)) (HN j 24)) (VJ (Oa j a a a j) (SR Iy 3 MP MU ZC) (gX (λk=>Gf (IW (Lu k 1) (iB AL (TG a) (TS a) (Rx a) (CB (CH k) j) (Cs a) (FO (Du a) EQ (KV a) (LD a) (BG (λl=>OY a l (λm=>OZ m a l a l m))) Rv (dR (λl=>Oa l a a a l)) (Lu k 1) (λl=>Nm l k (Cw (Gn k l) (AH (FV a) j) (HW k) l (FV a) j))))) (CH k) (FV a) (fX a (CH k) j) (Bc k (fM a a (CH k))))) (λk=>Gf (Gp DH (TG a) (TS a) (Rx a) (CB k j) (TG a) (AX (TS a) (Cs a) (Du a) EQ (KV a) (LD a) (BG (λl=>OY a l (λm=>OZ m a l a l m))) Rv (dR (λl=>Oa l a a a l)))) k (FV a) (fX a k j) (pI (fM a a k))))) (Jm (AK (λk=>BV (AG (RD k (FV a)) (fX a k j) (pI (fM a a k))) (FB (λl=>HR (Gp DH (TG a) (TS a) (Rx a) (BS l k) (TG a) (AX (TS a) (Cs a) (Du a) EQ (KV a) (LD a) (BG (λm=>OY a m (λn=>OZ n a m a m n))) Rv (dR (λm=>Oa m a a a m)))) (OU l (FV a) (pI (gP a a l))) (FV a) l j)))) (ACM (λk=>BV (AG (RD (CH k) (FV a)) (fX a (CH k) j) (Bc k (fM a a (CH k)))) (gX (λl=>HR (IW (AW (HW l) (HW k)) (iB AL (TG a) (TS a) (Rx a) (BS (CH l) (CH k)) (Cs a) (AX (Du a) EQ (KV a) (LD a) (BG (λm=>OY a m (λn=>OZ n a m a m n))) Rv (dR (λm=>Oa m a a a m)) (AW (HW l) (HW k)) (ER (HW l) (HW k))))) (OU (CH l) (FV a) (Bc l (gP a a (CH l)))) (FV a) (CH l) j))))) (And (Ff (bZ (DB a) (HM a))) (YE (Ff (bZ (DB a) (HM a))) a a a a (KV a) (LD a) (λk=>OY a k (λl=>OZ l a k a k l))))) (ACM (λj=>OW (OU (CH j) (FV a) (Bc j (gP a a (CH j)))) (CH j) (FV a) (AG (IB (CH j) (FV a)) (And (ED (AQ (CH j)) (ES (AQ (CH j)) 24)) (HN (CH j) 24)) (CL (Oa (CH j) a a a (CH j)) (SR (Le (HW j) (Nm 0 j VL)) 3 MD (OC (Xp j)) (OR (Tr j) 24)) (gX (λk=>Gf (IW (Lu k (Tr j)) (iB AL (TG a) (TS a) (Rx a) (CB (CH k) (CH j)) (Cs a) (FO (Du a) EQ (KV a) (LD a) (BG (λl=>OY a l (λm=>OZ m a l a l m))) Rv (dR (λl=>Oa l a a a l)) (Lu k (Tr j)) (λl=>Nm l k (ZZ (Gn k l) (Rw l j (Gn j l) (AH (FV a) (CH j))) (HW k) l (Rw l j (AP (HW j) l) (AP (FV a) (CH j))) l (Rw l j (AS (HW j) l) (AS (FV a) (CH j)))))))) (CH k) (FV a) (fX a (CH k) (CH j)) (Bc k (fM a a (CH k))))) (gX (λk=>Gf (IW (AW (HW k) (HW j)) (iB AL (TG a) (TS a) (Rx a) (CB (CH k) (CH j)) (Cs a) (AX (Du a) EQ (KV a) (LD a) (BG (λl=>OY a l (λm=>OZ m a l a l m))) Rv (dR (λl=>Oa l a a a l)) (AW (HW k) (HW j)) (ER (HW k) (HW j))))) (CH k) (FV a) (fX a (CH k) (CH j)) (Bc k (fM a a (CH k))))))) (Jm (AK (λk=>BV (AG (RD k (FV a)) (fX a k (CH j)) (pI (fM a a k))) (FB (λl=>HR (Gp DH (TG a) (TS a) (Rx a) (BS l k) (TG a) (AX (TS a) (Cs a) (Du a) EQ (KV a) (LD a) (BG (λm=>OY a m (λn=>OZ n a m a m n))) Rv (dR (λm=>Oa m a a a m)))) (OU l (FV a) (pI (gP a a l))) (FV a) l (CH j))))) (ACM (λk=>BV (AG (RD (CH k) (FV a)) (fX a (CH k) (CH j)) (Bc k (fM a a (CH k)))) (gX (λl=>HR (IW (AW (HW l) (HW k)) (iB AL (TG a) (TS a) (Rx a) (BS (CH l) (CH k)) (Cs a) (AX (Du a) EQ (KV a) (LD a) (BG (λm=>OY a m (λn=>OZ n a m a m n))) Rv (dR (λm=>Oa m a a a m)) (AW (HW l) (HW k)) (ER (HW l) (HW k))))) (OU (CH l) (FV a) (Bc l (gP a a (CH l)))) (FV a) (CH l) (CH j)))))) (IQ (bZ (DB a) (HM a)) (HW j) (FX (BP (Xp j)) (HW j)) (YE (AK (λk=>BR k (bZ (DB a) (HM a)) (Cw (AH (bZ (DB a) (HM a)) k) (Gn j (BP k)) (bZ (DB a) (HM a)) k (HW j) (BP k)))) a a a a (KV a) (LD a) (λk=>OY a k (λl=>OZ l a k a k l))))))))):=by kernel_rfl
theorem wW{w:Bk}{k:Int}{i:Nat}(h:i<w.g.length):nM w k (i+1)=if inA w k i=true then nM w k i ++ [gD w.g i] else nM w k i:=by
 unfold nM
 rw[ND h,List.filter_append]
 unfold inA
 split
 ·rename_i h1;simp[List.filter_cons,h1]
 ·rename_i h1;simp[List.filter_cons,h1]
theorem BEB{w:Bk}{k:Int}{i:Nat}(h:w.g.length<=i):nM w k i=Ja w k:=by unfold nM Ja;rw[List.take_of_length_le h]
theorem BED{w:Bk}{k:Int}{i:Nat}:(nM w k i).length<=w.g.length:=
 Nat.le_trans (List.length_filter_le _ _) (by simp;omega)
theorem BNC(l:List Gau)(p:Gau)(i:Nat)(hi:i<(l ++ [p]).length):((gD (l ++ [p]) i).st=bif decide (i<l.length) then (gD l i).st else p.st)/\((gD (l ++ [p]) i).lo=bif decide (i<l.length) then (gD l i).lo else p.lo)/\(gD (l ++ [p]) i).hi=bif decide (i<l.length) then (gD l i).hi else p.hi:=by
 rw[AAC _ _ (by simpa using hi)]
 cases decide (i<l.length)<;>exact⟨rfl,rfl,rfl⟩
theorem BSU(a:BkI)(h:ZV a.w.g a.w.b):BEQ a:=by
 rw[BQP]<;> delta JT qD XL EE EC DP OV LY LW MN GD JG CS AO AR CG AK BV BZ CM AQ BU DD ES LX EF NK OL CI EZ FB FP Lj ID RG LM IY XS Jv Mz BNV HM PA DB PK Bq BG Jp Dd AKR rU gX HW CH ACM bZ AG JO IE DG AF AT AH FF CA Eo CF AM Jm BL GQ JM Bu Ky SC aD AP BR AS AW DF DX EO DU FV CR AX BP BC HH GA CQ HL IC AN Ha AL OK XT AZ Bl iB EP GI BE ED AY DW BW EL FX GC HI CX JD BI FZ PQ JA HG BO CL EA Ng Hb EX FU DV ZZ EM GH PG IH GF FE CB BJ BN BM FC EW FM FK FD EQ Aa MW ON Ks WA FL RD NT OP DH ER BS JS JQ dU BD LC FH HN EY VW NB DY Cz TS NW OB HP FO Db RN TG UL Fb Ar Du QW OA LD VO Cs ZG IW AFW KV VR IB OF MC LP OY OR IQ HR UC UP OZ KC OU YS Xp MD MU SR AIU Bc VL OC MP gP NJ C6 Rx Gn OW Rv Ak Lu ZC Gf VJ Tr uX Ff Gp Oa Ji Nm Iy dR Ry Cw YE Rw fM fX Cl Le pI;simp only[CC,eq_self,implies_true,forall_const]
 obtain⟨hg,hgo,hb,hasc,hbr⟩:=h
 have cn:∀(m i:Nat),i<a.w.g.length/\a.w.g.length-i=m/\nM a.w a.k (i+1)=[]->∃j:Nat,(j:Int)=IntKind.i64.wrap ((i:Int)+1)/\(j<=a.w.g.length/\nM a.w a.k j=[])/\a.w.g.length-j<m:=λm i h=>⟨i+1,(CN (by omega)).symm,⟨h.1,h.2.2⟩,by omega⟩
 have co:∀(m:Nat) (x:GsK),x.i<a.w.g.length/\a.w.g.length-x.i=m/\x.l=nM a.w a.k (x.i+1)->∃y:GsK,(y.l.length=x.l.length/\(y.i:Int)=IntKind.i64.wrap ((x.i:Int)+1)/\y.l.length=x.l.length/\∀(i:Nat),i<y.l.length->(gD y.l i).st=(gD x.l i).st/\(gD y.l i).lo=(gD x.l i).lo/\(gD y.l i).hi=(gD x.l i).hi)/\(y.i<=a.w.g.length/\y.l=nM a.w a.k y.i)/\a.w.g.length-y.i<m:=λm x h=>⟨⟨x.i+1,x.l⟩,⟨rfl,(CN (by omega)).symm,rfl,λ_ _=>⟨rfl,rfl,rfl⟩⟩,⟨h.1,h.2.2⟩,by show a.w.g.length-(x.i+1)<m;omega⟩
 have ne:∀(i:Nat),i<a.w.g.length->nM a.w a.k i=[]->inA a.w a.k i=false->nM a.w a.k (i+1)=[]:=λi hi h1 h2=>by
  rw[wW hi,h2,h1];simp
 refine⟨rfl,⟨0,⟨rfl,λi hi=>by simp⟩,Nat.zero_le _⟩,λi hi=>⟨λhlt=>⟨⟨by omega,by omega⟩,⟨⟨by omega,hasc⟩,⟨by omega,by omega⟩,by omega⟩,i+1,⟨(CN (by omega)).symm,λj hj=>?_⟩,by omega,by omega⟩,λhge=>⟨⟨0,⟨rfl,λj hj=>by rw[show i=a.w.g.length by omega]⟩,Nat.zero_le _,by simp[nM]⟩,
  λi hi=>⟨λhlt=>⟨⟨⟨by omega,by omega⟩,⟨⟨by omega,by omega⟩,by omega⟩,λhp=>⟨by simp,⟨i,[gD a.w.g i]⟩,⟨rfl,rfl,rfl,λj hj=>?_⟩,Int.ofNat_lt.1 hlt,rfl,?_⟩,λhp=>⟨i,rfl,by omega,rfl,ne i (by omega) hi.2 ?_⟩⟩,cn _,co _⟩,λhge=>?_⟩,
  λx hx=>⟨λhlt=>⟨⟨⟨by omega,by omega⟩,⟨⟨by omega,by omega⟩,by omega⟩,λhp=>⟨⟨by simp,by simp,?_,?_⟩,⟨x.i,x.l ++ [gD a.w.g x.i]⟩,⟨by simp,rfl,by simp,BNC _ _⟩,Int.ofNat_lt.1 hlt,rfl,?_⟩,λhp=>⟨⟨x.i,x.l⟩,⟨rfl,rfl,rfl,λ_ _=>⟨rfl,rfl,rfl⟩⟩,Int.ofNat_lt.1 hlt,rfl,?_⟩⟩,cn _,co _⟩,λhge=>?_⟩⟩⟩⟩
 ·by_cases h1:j=i
  ·subst h1;simp[inA]
  ·by_cases h2:j<i
   ·simp[h1,h2,show j<i+1 by omega]
   ·simp[h1,h2,show ¬ j<i+1 by omega]
 ·have:j=0:=by have hj:j<1:=hj;omega
  subst this;exact⟨rfl,rfl,rfl⟩
 ·have hlt':i<a.w.g.length:=Int.ofNat_lt.1 hlt
  show [gD a.w.g i]=_
  rw[wW hlt',hi.2,if_pos (by simpa[hlt'] using hp)];rfl
 ·have hlt':i<a.w.g.length:=Int.ofNat_lt.1 hlt
  simpa[hlt'] using hp
 ·rw[<-BEB (i:=i) (by omega),hi.2];rfl
 ·have:=BED (w:=a.w) (k:=a.k) (i:=x.i);rw[<-hx.2] at this;omega
 ·have:=BED (w:=a.w) (k:=a.k) (i:=x.i);rw[<-hx.2] at this;omega
 ·show x.l ++ _=_
  have hlt':x.i<a.w.g.length:=Int.ofNat_lt.1 hlt
  rw[wW hlt',<-hx.2,if_pos (by simpa[hlt'] using hp)]
 ·show x.l=_
  have hlt':x.i<a.w.g.length:=Int.ofNat_lt.1 hlt
  rw[wW hlt',<-hx.2,if_neg (by simpa[hlt'] using hp)]
 ·have e:x.l=Ja a.w a.k:=by rw[hx.2,BEB (by omega)]
  rw[e];exact⟨rfl,Nat.le_refl _,λ_ _=>⟨rfl,rfl,rfl⟩⟩
theorem xH:AJ Try.prog ACW (C_inside.spec dBkI):=VD C_inside BBO [] [202] BQF (λ_=>by kernel_rfl) (λ_=>AC AZJ AE) (λ(a:BkI) h=>BSU a (show ZV a.w.g a.w.b/\True from h).1) (λ_=>WK rfl rfl) _
def EN(w:Bk)(k:Int):Span:=⟨bif decide (k>0) then gD w.b (k-1).toNat else 0,bif decide (k<w.b.length) then wr (gD w.b k.toNat-1) else 2000⟩
def C_span:Ctr:={ ro:=[100,101],α:=BkI,xs:=λa=>[.bptr 100 0,.int a.k],L:=λa=>bkL a.w,val:=λa=>.d (AUE (EN a.w a.k)),keep:=λa=>bkK a.w,pre:=λa=>[ZV a.w.g a.w.b/\0<=a.k/\a.k<=a.w.b.length] }
def CBC:Ann:={ ann 38 [] with E:=[100,101] }
def BTD(a:BkI):Prop:=BQ Try.prog CBC BHU (AI BHU) (C_span.xs a) (AD (C_span.L a)) (C_span.val a) (C_span.keep a) [] []
abbrev Vl:=Span.lo
abbrev Vv:=Span.hi
abbrev Jc a b:=Vv (EN a b)
abbrev WQ a b:=Vl (EN a b)
abbrev Iz a b:=AO a (JZ b)
attribute [go_sem] Vl Vv Jc WQ Iz
theorem CGW(a:BkI):(BTD a)=(CL (Az (HM a)) (KJ (JZ (HM a)) (PQ a)) (CS (GD (HM a) (EK (PQ a))) (AG (KJ (HM a) (PQ a)) (AO (WQ (DB a) (HM a)) (aM (PQ a) (HM a))) (YE (Iz (Jc (DB a) (HM a)) (CM (PQ a) (EU (HM a)))) a a a a (KV a) (LD a) (λi=>OY a i (λj=>OZ j a i a i j)))) (Ld (WQ (DB a) (HM a)) (aM (PQ a) (HM a)) (YE (AO (Jc (DB a) (HM a)) 2000) a a a a (KV a) (LD a) (λi=>OY a i (λj=>OZ j a i a i j))))) (CS (GD (HM a) (EK (PQ a))) (AG (KJ (HM a) (PQ a)) (CP (WQ (DB a) (HM a))) (YE (Iz (Jc (DB a) (HM a)) (CM (PQ a) (EU (HM a)))) a a a a (KV a) (LD a) (λi=>OY a i (λj=>OZ j a i a i j)))) (And (CP (WQ (DB a) (HM a))) (YE (AO (Jc (DB a) (HM a)) 2000) a a a a (KV a) (LD a) (λi=>OY a i (λj=>OZ j a i a i j)))))):=by kernel_rfl
theorem vP:AJ Try.prog ARL (C_span.spec dBkI):=VD C_span (λ_=>CBC) [] [] CES (λ_=>by kernel_rfl) (λ_=>AE) (λ(a:BkI) h=>by
 show BTD a;rw[CGW]<;> delta JT EE EC DP OV LY LW MN GD CS AO KO AR CG AK BV BZ CM AQ DD ES Ba CI EZ EU ID RG HM PA DB PK Bq BG Jp Dd Vl Vv AG DG AF AT AH CA Eo CF AM BL GQ JM Bu AP HA BR AS AW DF FV AX BC HH GA HL Ha JZ AZ ED DW HI CX JD BI FZ PQ JA BO CL EK Ng CP DV PG GF BN FC EQ Aa WA KJ OP VW TS TG UL Fb WQ UO Du QW LD Cs Jc KV OF OY UC OZ Ld Az YE Iz aM;simp only[CC,eq_self,implies_true,forall_const]
 obtain⟨⟨hg,hgo,hb,hasc,hbr⟩,h1,h2⟩:ZV a.w.g a.w.b/\0<=a.k/\a.k<=a.w.b.length:=h
 rw[JH (n:=a.k-1) (by omega) (by omega)]
 unfold EN wr
 refine⟨λh3=>⟨by omega,λh4=>⟨by omega,?_,?_⟩,λh4=>⟨?_,?_⟩⟩,λh3=>⟨λh4=>⟨by omega,?_,?_⟩,λh4=>⟨?_,?_⟩⟩⟩<;>simp[h3,h4]) (λ_=>WK rfl rfl) _
structure GB where
 g:List Gau
 b:List Int
def dGB:List AVal->Heap->Option (GB×List (Nat×Nat)×List Nat)
 |[x,y],H=>match aE x H,tT y H with
  |some (l,f),some (m,e)=>some (⟨l,m⟩,[],f ++ e)
  |_,_=>none
 |_,_=>none
def xGB(a:GB):List AVal:=[.d (BX a.g),.d (CZ a.b)]
def EG(a:GB):Int:=bif AV a.g==0 then RM a.b else AV a.g
def PB(a:GB):Bk:=⟨a.g,a.b,λ_=>false,λ_=>0⟩
def C_open:Ctr:={ α:=GB,xs:=xGB,L:=λ_=>[],val:=λ_=>.tup [.bptr 0 0,.int 0],keep:=λa=>[(0,.live (bkB (PB a) 1)),(1,.live (bkM (PB a)))],pre:=λa=>[a.g.length<4611686018427387904/\a.b.length<4611686018427387904/\EG a=0] }
def C_openX:Ctr:={ α:=GB,xs:=xGB,L:=λ_=>[],val:=λa=>.tup [.d (.v (.pointer none)),.int (EG a)],keep:=λ_=>[],pre:=λa=>[a.g.length<4611686018427387904/\a.b.length<4611686018427387904/\EG a≠0] }
def BBA:Ann:=ann 22 [(nS,C_Check.spec WJ),(ASD,C_checkB.spec dIs1)]
def BUR(a:GB):Prop:=BQ Try.prog BBA uK (AI uK) (xGB a) (AD []) (C_open.val a) (C_open.keep a) [(0,7080),(1,7048)] []
abbrev WE:=GB.g
abbrev Jl:=GB.b
abbrev GP:=PB
abbrev Mr a b c:=AR (Ha a b) c
abbrev ZM:=BG (λi=>JM XL)
abbrev Ll a b:=BM a (Jl b)
abbrev aT a:=PK (GP a)
abbrev Kn a b:=AY a (Jl b)
abbrev Md a b:=ER a (WE b)
abbrev bP a:=PA (GP a)
abbrev TJ a:=BH (WE a)
abbrev bM a:=Ep (TJ a)
abbrev TE a:=CT (Jl a)
abbrev As a b c:=AN a b c FP
abbrev UB a:=Ll (TE a) a
abbrev UA a:=Kn (TE a) a
abbrev VU a:=OL a 0
abbrev UE a:=JS (CI a)
abbrev Dl a:=UE (TJ a)
abbrev UG a:=Md (TJ a) a
attribute [go_sem] WE Jl GP Mr ZM Ll aT Kn Md bP TJ bM TE As UB UA VU UE Dl UG
theorem CGD(a:GB):(BUR a)=(QP (AW (TJ a) (WE a)) (UG a) (Dl a) (CL (VU (bM a)) (As (UA a) (UB a) (LP (TE a))) (CS (FI (Es (TE a))) Sv (OF BY (AW (bP a) (WE a)) (Md (bP a) a) (Kn (aT a) a) (Ll (aT a) a) ZM (BG (λi=>CP (Dd (GP a) i))) (λi=>cU (Mr (GP a) i 0)))) (CS (FI (bM a)) Sv (OF BY (AW (bP a) (WE a)) (Md (bP a) a) (Kn (aT a) a) (Ll (aT a) a) ZM (BG (λi=>CP (Dd (GP a) i))) (λi=>cU (Mr (GP a) i 0)))))):=by kernel_rfl
def BMD(a:GB):Prop:=BQ Try.prog BBA uK (AI uK) (xGB a) (AD []) (C_openX.val a) [] [] []
abbrev ARV:=Value.pointer
abbrev SZ:=EG
attribute [go_sem] ARV SZ
theorem BUB(a:GB):(BMD a)=(QP (AW (TJ a) (WE a)) (UG a) (Dl a) (CL (VU (bM a)) (As (UA a) (UB a) (LP (TE a))) (CL (FI (Es (TE a))) (Bu (ARV Bq)) (AO (SZ a) (Es (TE a))) Sv) (CL (FI (bM a)) (Bu (ARV Bq)) (AO (SZ a) (bM a)) Sv))):=by kernel_rfl
theorem AAM:AJ Try.prog Sz (C_open.spec dGB):=VD C_open (λ_=>BBA) [(0,7080),(1,7048)] [] AUX (λ_=>by kernel_rfl) (λ_=>AC jM (AC ATY AE)) (λ(a:GB) h=>by
 show BUR a;rw[CGD]<;> delta JT XL EE EC DP WI CS AO AR CG AK BV BZ CM NK UM Sv OL CI EZ LZ FP Ep Es ID PA PK Bq BG Dd WE Jl GP AG GT JO GV IE AF AT AH CA CF BH AM CT JM Bu cU TJ TE AP BR AS AW DF DX CR AX IC AN Ha EP GI AY GC HG CL CP RH EM GH IH FE BM EW FM FK EQ Mr NT ER JS BY DY FI QW OF LP UE Md Ll Kn QP ZM UB UA UG VU Dl aT bP bM As;simp only[CC,eq_self,implies_true,forall_const]
 obtain⟨h1,h2,h3⟩:a.g.length<4611686018427387904/\a.b.length<4611686018427387904/\EG a=0:=h
 have key:(PB a).g.length=a.g.length/\(∀i:Nat,i<(PB a).g.length->(gD (PB a).g i).st=(gD a.g i).st/\(gD (PB a).g i).lo=(gD a.g i).lo/\(gD (PB a).g i).hi=(gD a.g i).hi)/\(PB a).b.length=a.b.length/\(∀i:Nat,i<(PB a).b.length->gD (PB a).b i=gD a.b i)/\(∀n:Int,(PB a).st n=0)/\∀n:Int,(QX (PB a) n).length=0:=⟨rfl,λ_ _=>⟨rfl,rfl,rfl⟩,rfl,λ_ _=>rfl,λ_=>rfl,λ_=>rfl⟩
 unfold EG at h3
 refine⟨h1,λh4=>⟨h2,λh5=>?_,λ_=>key⟩,λh4=>⟨λh5=>?_,λ_=>key⟩⟩
 ·rw[h4] at h3;simp at h3 h5;exact h5 h3
 ·rw[h4] at h3;simp at h3 h5;exact h5 h3) (λ_=>WK rfl rfl) _
theorem ADC:AJ Try.prog Sz (C_openX.spec dGB):=VD C_openX (λ_=>BBA) [] [] AUX (λ_=>by kernel_rfl) (λ_=>AC jM (AC ATY AE)) (λ(a:GB) h=>by
 show BMD a;rw[BUB]<;> delta EE EC DP WI CS AO AR CG AK BV BZ CM NK Sv OL CI EZ LZ FP Ep Es Bq WE Jl ARV SZ AG GT JO GV IE AT AH CA CF BH CT Bu TJ TE AP BR AS AW DF DX CR IC AN EP GI AY GC HG CL EM GH IH FE BM EW FM FK NT ER JS DY FI LP UE Md Ll Kn QP UB UA UG VU Dl bM As;simp only[CC,eq_self,implies_true,forall_const]
 obtain⟨h1,h2,h3⟩:a.g.length<4611686018427387904/\a.b.length<4611686018427387904/\EG a≠0:=h
 refine⟨h1,λh4=>⟨h2,λh5=>?_,λh5=>h3 ?_⟩,λh4=>⟨λh5=>?_,λh5=>h3 ?_⟩⟩
 ·unfold EG;rw[h4];rfl
 ·unfold EG;rw[h4];simpa using h5
 ·unfold EG;rw[h4];rfl
 ·unfold EG;rw[h4];simpa using h5) (λ_=>WK rfl rfl) _
end Go.Bal
