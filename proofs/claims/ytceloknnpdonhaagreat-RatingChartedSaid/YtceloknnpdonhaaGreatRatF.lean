/- Package rating: a book at work. -/
import Derived.Test.YtceloknnpdonhaaGreatRatD
set_option linter.unusedVariables false
set_option linter.unusedSimpArgs false
namespace Go.Bal
open Go Go.Sym Go.Proofs
structure Bk where
 g:List Gau
 b:List Int
 has:Int->Bool
 st:Int->Int
def Ys(w:Bk)(k:Int):List Gau:=w.g.filter λg=>(Uo w.b g.st:Int)==k
def WZ(s:List Gau):List Ln:=(Yj s).filter (Pv s)
def UR(w:Bk)(j:Int):List Ln:=bif w.has j then WZ (Ys w j) else []
def bkB(w:Bk)(m:Nat):AObj:=.box [.d (KZ w.g),.d (FE w.b),.mref m]
def bkM(w:Bk):AObj:=.imap .i64 (.slice none 0 0) w.has (λj=>eLns (UR w j)) w.st none
def bkL(w:Bk):List (Nat×AObj):=[(100,bkB w 101),(101,bkM w)]
def bkK(w:Bk):List (Nat×HCell):=[(100,.live (bkB w 101)),(101,.live (bkM w))]
def Ic(g:List Gau)(b:List Int):Prop:=g.length<=24/\(∀x∈g,Oy x)/\b.length<=24/\asc b/\∀x∈b,1<=x/\x<=2000
def BVU(H:Heap)(id:Nat):Option (Bk×Nat):=match H id with
 | .live (.box [.d (.list _ n g _),.d (.list _ m b _),.mref q])=>match H q with
  | .live (.imap _ _ has _ st _)=>some (⟨KA n λi=>qG (g i),KA m λi=>EO (b i),has,st⟩,q)
  |_=>none
 |_=>none
structure BkI where
 w:Bk
 k:Int
def dBkI:List AVal->Heap->Option (BkI×List (Nat×Nat)×List Nat)
 |[.bptr id _,.d k],H=>match BVU H id with
  |some (w,q)=>some (⟨w,EO k⟩,[(100,id),(101,q)],[])
  |none=>none
 |_,_=>none
def inA(w:Bk)(k:Int)(i:Nat):Bool:=(Uo w.b (gD w.g i).st:Int)==k
def DLN(w:Bk)(k:Int)(m:Nat):HCell:=.live (.row 1 24 λj=>DXY (bif decide (j<m) then inA w k j else false))
def R9(w:Bk)(k:Int)(i:Nat):List Gau:=(w.g.take i).filter λg=>(Uo w.b g.st:Int)==k
def in3(a:BkI):Shape:={ α:=Nat,dflt:=0,T:=λi=>⟨[(0,.bptr 100 0),(1,.int a.k),(5,.rptr 201 1 0 0),(15,.d (KZ a.w.g)),(16,.int a.w.g.length),(17,.int i)],bkK a.w ++ [(201,DLN a.w a.k i)]⟩,inv:=λi=>i<=a.w.g.length,meas:=λi=>a.w.g.length-i,first:=[(201,2000)] }
structure GsK where
 i:Nat
 l:List Gau
 deriving Inhabited
def in9s(a:BkI)(i:Nat):List (Nat×AVal):=[(5,.rptr 201 1 0 0),(39,.d (KZ a.w.g)),(40,.int a.w.g.length),(41,.int i)]
def rowG(l:List Gau):AObj:=.row 3 l.length λi=>eGau (gD l i)
def in9h(a:BkI):List (Nat×HCell):=bkK a.w ++ [(201,DLN a.w a.k a.w.g.length)]
def in9n(a:BkI):Shape:={ α:=Nat,dflt:=0,T:=λi=>⟨(8,.d TE) :: in9s a i,in9h a⟩,inv:=λi=>i<=a.w.g.length/\R9 a.w a.k i=[],meas:=λi=>a.w.g.length-i }
def in9o(a:BkI):Shape:={ α:=GsK,dflt:=default,T:=λx=>⟨(8,.own 202 3 0 x.l.length) :: in9s a x.i,in9h a ++ [(202,.live (rowG x.l))]⟩,inv:=λx=>x.i<=a.w.g.length/\x.l=R9 a.w a.k x.i,meas:=λx=>a.w.g.length-x.i }
def DXD(a:BkI)(m:Nat):Shape:={ α:=Nat,dflt:=0,T:=λi=>⟨(8,.d TE) :: in9s a i,in9h a⟩,inv:=λi=>i<a.w.g.length/\a.w.g.length-i=m/\R9 a.w a.k (i+1)=[],meas:=λi=>0 }
def DMC(a:BkI)(m:Nat)(f:List (Nat×Nat)):Shape:={ α:=GsK,dflt:=default,T:=λx=>⟨(8,.own 202 3 0 x.l.length) :: in9s a x.i,in9h a ++ [(202,.live (rowG x.l))]⟩,inv:=λx=>x.i<a.w.g.length/\a.w.g.length-x.i=m/\x.l=R9 a.w a.k (x.i+1),meas:=λx=>0,first:=f }
def C_inside:Ctr:={ ro:=[100,101],α:=BkI,xs:=λa=>[.bptr 100 0,.int a.k],L:=λa=>bkL a.w,val:=λa=>.d (KZ (Ys a.w a.k)),keep:=λa=>bkK a.w,pre:=λa=>[Ic a.w.g a.w.b/\True] }
def CGL(a:BkI):Ann:={ ann 55 [(BJD,C_part.spec dIX)] with E:=[100,101],mt:=λid=>id==12,loops:=λid=>if id=3 then some [in3 a] else if id=9 then some [in9n a,in9o a] else none,cutIn:=λgs id=>if id=13 then some [DXD a (gs.getD 0 0),DMC a (gs.getD 0 0) [(202,13048)],DMC a (gs.getD 0 0) []] else none }
def CFL(a:BkI):Prop:=BG Try.prog (CGL a) BRB (AL BRB) (C_inside.xs a) (AF (C_inside.L a)) (C_inside.val a) (C_inside.keep a) [] [202]
abbrev CMO:=@Array.toList Value
abbrev XO:=BkI.k
abbrev QN:=Bk.g
abbrev IB:=BkI.w
abbrev XL:=Bk.b
abbrev Xt:=Bk.has
abbrev Ma:=Bk.st
abbrev BLB:=@Eq (List Gau)
abbrev Vh:=@Exists GsK
abbrev HU:=GsK.l
abbrev BX:=GsK.i
abbrev C1:=λ(f:GsK->Prop)=>∀(x:GsK),f x
abbrev CV:=RH (Value.slice (@none Addr) 0 0)
abbrev WC a b(c:Nat->Prop) d(e:Nat->Prop) f g h:=FM a b c d e CV f g h
abbrev VJ a b(c:Nat->Prop) d(e:Nat->Prop) f g(h:Int->Prop):=WC a b c d e f g (AN h)
abbrev Il a b:=BJ (XL a) b
abbrev Fu a b:=Il (IB a) b
abbrev UD a:=XL (IB a)
abbrev BAA a b:=Gk a (UD b) (Fu b a)
abbrev Kf a:=GU (UD a)
abbrev JL a:=QN (IB a)
abbrev XH a:=BY (JL a)
abbrev Ei a b c d e f g(h:Int->Prop):=VJ a (XH b) (λi=>HO i (JL c)) (Kf d) (λi=>BAA i e) f g h
abbrev Ct a(b:Nat->Prop):=FK (BI a) b
abbrev Ca a b:=JY (UR a b)
abbrev XI a b:=Ca (IB a) b
abbrev TG a b(c:Nat->Prop):=Ct (XI a b) c
abbrev Wm a b c:=NK (UR a b) c
abbrev FB a b c:=HB (Wm a b c)
abbrev Yf a b c:=FC (Wm a b c)
abbrev Cq a b c d e f:=Rv a b (Yf c d a) e f (FB c d a)
abbrev CF a b c:=GD (Wm a b c)
abbrev Oa a b c:=CF (IB a) b c
abbrev TB a b c d e f g h p:=Cq a (XI b c) (IB d) e f (Oa g h p)
abbrev CH a b c:=GF (Wm a b c)
abbrev KR a b c:=CH (IB a) b c
abbrev OI a:=AN (λi=>AI (Ma a i))
abbrev NH a:=OI (IB a)
abbrev QV a:=Bt (λi=>Xt a i)
abbrev NL a:=QV (IB a)
abbrev Jg a b c d e:=GM a b c d e e
abbrev Zu a b:=DI (HU a) b
abbrev xM a:=CW (HU a)
abbrev uB a b:=CG a (HU b)
abbrev BOA a b:=QW a (BX b)
abbrev Qw a b:=BOA (JL a) b
abbrev Cv a b:=BLB (HU a) b
abbrev Jy a b c:=R9 (IB a) (XO b) c
abbrev hY a:=CW (JL a)
abbrev Qj a b:=uB (HU a) b
abbrev xL a b:=Dh a 24 b
abbrev AVL a b c d e:=HJ (tC a b) (inA (IB c) (XO d) e)
abbrev cI a b c d e:=AVL a (hY b) c d e
abbrev cJ:=BI 24
abbrev aB a:=AK (λi=>BAA i a)
abbrev bN a:=XS (JL a)
abbrev Ek a:=BR (JL a)
abbrev bI a:=JF (BX a)
abbrev dM a b:=VF (BX a) b
abbrev Sj a b:=QW (JL a) b
abbrev YP a:=BLB a (@List.nil Gau)
abbrev cP a b c:=AH a b (YP c)
abbrev Gu a b c d e:=AY a b (AR c d) e
abbrev Vj a b c d e f:=GH a b b c d e f
abbrev Ke a b c d:=GJ a (xM b) c d
abbrev AUV a b:=HY (HU a) b
abbrev Uu a:=Fb (HU a)
abbrev iP a b:=AUV a (Uu b)
abbrev hZ:=BI 3
abbrev gX a:=HY a 0
abbrev gN a:=AUV a 1
abbrev sM a b:=LX (XL a) (XL b)
abbrev Pd a:=sM a a
abbrev OJ a:=Pd (IB a)
abbrev J1:=Value.bool Oz
attribute [go_sem] CMO XO QN IB XL Xt Ma BLB Vh HU BX C1 CV WC VJ Il Fu UD BAA Kf JL XH Ei Ct Ca XI TG Wm FB Yf Cq CF Oa TB CH KR OI NH QV NL Jg Zu xM uB BOA Qw Cv Jy hY Qj xL AVL cI cJ aB bN Ek bI dM Sj YP cP Gu Vj Ke AUV Uu iP hZ gX gN sM Pd OJ J1
theorem CRT(a:BkI):(CFL a)=(Ou ((@Eq (List Value)) (CMO (Value.cells (BDD (BBR (Vr J1 (Vr J1 (Vr J1 (Vr J1 (Vr J1 (Vr J1 BBO)))))))))) ((@List.flatten Value) ((@List.replicate (List Value)) 24 (CMO (Value.cells J1))))) (LA (λi=>And (HX (AI (XO a)) AQ (XH a) (Ek a) (bN a) (BS i) (XH a) (DC (Ek a) (Kf a) (aB a) CV (NL a) (NH a) (AN (λj=>TG a j (λk=>TB k a j a j (KR a j k) a j k))) cJ (λj=>AZ j 24 (HM (AVL j i a a j))))) (QT i (hY a)))) (λi=>CX (QT i (hY a)) i (HV (JL a)) (AH (Cm i (JL a)) (BB (AW (OJ a) (UD a)) (AK (λj=>OB j (OJ a) (Fu a j))) (AI (DI (JL a) i)) (And (HP (OJ a)) (Dc DX (OJ a))) (ES i 24) (KO i 24)) (LA (λj=>CK (HX (AI (XO a)) AQ (XH a) (Ek a) (bN a) (AV j i) (XH a) (DC (Ek a) (Kf a) (aB a) CV (NL a) (NH a) (AN (λk=>TG a k (λl=>TB l a k a k (KR a k l) a k l))) cJ (λk=>Od k 24 (AVL k j a a k) (hd5 (jJ k i) (Cu (AU (Uo (OJ a) (DI (JL a) i))) (XO a)) (AVL k i a a k))))) (QT j (hY a)) (Sj a j) (Sj a i)))) (AH (LA (λj=>cP (AER BK (XH a) (AJ (Ek a) (bN a) (BS j) (XH a) (DC (Ek a) (Kf a) (aB a) CV (NL a) (NH a) (AN (λk=>TG a k (λl=>TB l a k a k (KR a k l) a k l))) cJ (λk=>Od k 24 (cI k a a a k) (AVL k i a a k))))) (KQ j (JL a)) (Jy a a j))) (AK (λj=>NA j (hY a) (YP (Jy a a j)) (HV (JL a)) (HG (Cm j (JL a)) (And (ES j 24) (KO j 24)) (Fw (cI j a a a j) (Wl 3 3 24) (Vh (λk=>Gu (AH AQ (gN k) (AAI AQ (XH a) (Ek a) (bN a) (CN (BX k) j) (Kf a) (DC (aB a) CV (NL a) (NH a) (AN (λl=>TG a l (λm=>TB m a l a l (KR a l m) a l m))) cJ (AK (λl=>xL l (cI l a a a l))) (gN k) (λl=>Jg l (HU k) (DI (JL a) j) (JL a) j)))) (dM k (JL a)) (Qw a k) (Sj a j) (Cv k (Jy a a (bI k))))) (LA (λk=>Gu (AER BK (XH a) (AJ (Ek a) (bN a) (CN k j) (XH a) (DC (Ek a) (Kf a) (aB a) CV (NL a) (NH a) (AN (λl=>TG a l (λm=>TB m a l a l (KR a l m) a l m))) cJ (λl=>xL l (cI l a a a l))))) (VF k (JL a)) (Sj a k) (Sj a j) (YP (Jy a a (JF k)))))) (It (AK (λk=>BO (cP (VF k (JL a)) (AR (Sj a k) (Sj a j)) (Jy a a (JF k))) (LA (λl=>Ki (AER BK (XH a) (AJ (Ek a) (bN a) (AV l k) (XH a) (DC (Ek a) (Kf a) (aB a) CV (NL a) (NH a) (AN (λm=>TG a m (λn=>TB n a m a m (KR a m n) a m n))) cJ (λm=>xL m (cI m a a a m))))) l (hY a) (YP (Jy a a l)) (Sj a l) (Sj a j))))) (C1 (λk=>BO (AH (dM k (JL a)) (AR (Qw a k) (Sj a j)) (Cv k (Jy a a (bI k)))) (Vh (λl=>Ki (AH AQ (Qj l k) (AAI AQ (XH a) (Ek a) (bN a) (AV (BX l) (BX k)) (Kf a) (AP (aB a) CV (NL a) (NH a) (AN (λm=>TG a m (λn=>TB n a m a m (KR a m n) a m n))) cJ (AK (λm=>xL m (cI m a a a m))) (Qj l k) (AT (HU l) (HU k))))) (BX l) (hY a) (Cv l (Jy a a (BX l))) (Qw a l) (Sj a j))))))) (And (gX (Ys (IB a) (XO a))) (Ei (gX (Ys (IB a) (XO a))) a a a a (NL a) (NH a) (λk=>TG a k (λl=>TB l a k a k (KR a k l) a k l)))))) (C1 (λj=>NA (BX j) (hY a) (Cv j (Jy a a (BX j))) (HV (JL a)) (HG (Cm (BX j) (JL a)) (And (ES (BX j) 24) (KO (BX j) 24)) (Fw (cI (BX j) a a a (BX j)) (Do (And (BY (HU j)) (GQ 0 (HU j) hZ)) 3 (RV (Uu j)) (Uu j) 24) (Vh (λk=>Gu (AH AQ (iP k j) (AAI AQ (XH a) (Ek a) (bN a) (CN (BX k) (BX j)) (Kf a) (DC (aB a) CV (NL a) (NH a) (AN (λl=>TG a l (λm=>TB m a l a l (KR a l m) a l m))) cJ (AK (λl=>xL l (cI l a a a l))) (iP k j) (λl=>Vj l (HU k) l (Ke l j (Zu j l) (DI (JL a) (BX j))) (Ke l j (DZ (HU j) l) (DZ (JL a) (BX j))) (Ke l j (DY (HU j) l) (DY (JL a) (BX j))))))) (dM k (JL a)) (Qw a k) (Qw a j) (Cv k (Jy a a (bI k))))) (Vh (λk=>Gu (AH AQ (Qj k j) (AAI AQ (XH a) (Ek a) (bN a) (CN (BX k) (BX j)) (Kf a) (AP (aB a) CV (NL a) (NH a) (AN (λl=>TG a l (λm=>TB m a l a l (KR a l m) a l m))) cJ (AK (λl=>xL l (cI l a a a l))) (Qj k j) (AT (HU k) (HU j))))) (dM k (JL a)) (Qw a k) (Qw a j) (Cv k (Jy a a (bI k)))))) (It (AK (λk=>BO (cP (VF k (JL a)) (AR (Sj a k) (Qw a j)) (Jy a a (JF k))) (LA (λl=>Ki (AER BK (XH a) (AJ (Ek a) (bN a) (AV l k) (XH a) (DC (Ek a) (Kf a) (aB a) CV (NL a) (NH a) (AN (λm=>TG a m (λn=>TB n a m a m (KR a m n) a m n))) cJ (λm=>xL m (cI m a a a m))))) l (hY a) (YP (Jy a a l)) (Sj a l) (Qw a j))))) (C1 (λk=>BO (AH (dM k (JL a)) (AR (Qw a k) (Qw a j)) (Cv k (Jy a a (bI k)))) (Vh (λl=>Ki (AH AQ (Qj l k) (AAI AQ (XH a) (Ek a) (bN a) (AV (BX l) (BX k)) (Kf a) (AP (aB a) CV (NL a) (NH a) (AN (λm=>TG a m (λn=>TB n a m a m (KR a m n) a m n))) cJ (AK (λm=>xL m (cI m a a a m))) (Qj l k) (AT (HU l) (HU k))))) (BX l) (hY a) (Cv l (Jy a a (BX l))) (Qw a l) (Qw a j))))))) (AH (uB (Ys (IB a) (XO a)) j) (KQ (BP (xM j)) (HU j)) (Ei (AK (λk=>Jg k (Ys (IB a) (XO a)) (Zu j (BP k)) (HU j) (BP k))) a a a a (NL a) (NH a) (λk=>TG a k (λl=>TB l a k a k (KR a k l) a k l))))))))):=by kernel_rfl
theorem ANV{w:Bk}{k:Int}{i:Nat}(h:i<w.g.length):R9 w k (i+1)=if inA w k i=true then R9 w k i ++ [gD w.g i] else R9 w k i:=by
 unfold R9
 rw[WX h,List.filter_append]
 unfold inA
 split
 ·rename_i h1;simp[List.filter_cons,h1]
 ·rename_i h1;simp[List.filter_cons,h1]
theorem CGJ{w:Bk}{k:Int}{i:Nat}(h:w.g.length<=i):R9 w k i=Ys w k:=by unfold R9 Ys;rw[List.take_of_length_le h]
theorem CFK{w:Bk}{k:Int}{i:Nat}:(R9 w k i).length<=w.g.length:=
 Nat.le_trans (List.length_filter_le _ _) (by simp;omega)
theorem CGD(l:List Gau)(p:Gau)(i:Nat)(hi:i<(l ++ [p]).length):((gD (l ++ [p]) i).st=bif decide (i<l.length) then (gD l i).st else p.st)/\((gD (l ++ [p]) i).lo=bif decide (i<l.length) then (gD l i).lo else p.lo)/\(gD (l ++ [p]) i).hi=bif decide (i<l.length) then (gD l i).hi else p.hi:=by
 rw[J8 _ _ (by simpa using hi)]
 cases decide (i<l.length)<;>exact⟨rfl,rfl,rfl⟩
theorem DBY(a:BkI)(h:Ic a.w.g a.w.b):CFL a:=by
 rw[CRT]<;> delta JB hd5 Oz NE AR AK BO CI AO AU EA DV JD DJ DX OP IS LA FI Cu QJ SG QP BDD BBR APJ BBO AN QT Pg BN BJ jJ JN Me tC EY GW FC GF GD HB CW FX JY NK Dc CMO XO QN IB XL Xt Ma BLB Vh HU BX C1 AH LY LX AJ AZ EV AI It BI FJ RH pE sM DK AP Wm DI DY BZ ED BC DZ EZ Pd AAI DN GQ JL JA JF HE ID HC EU AW Ca QL Dh HY AQ BP GT GY FB Il HL UW GU AY CG CF Bt GV IA Gk BY CH BB CK HV Yf FK VQ BD DR CE OB KJ GH OH QW MW Ce UD EC AV BK Rv CV ES FM XI GC KQ FF Vj GM HO Jg OI QV VF FW BR CN GJ CR CX HJ Ji Fu AT DC XS ZI Bo UQ Fb XH BS Ct AXO OJ KR Xl HG Ov Oa Jr NL HP MK BOA Kf NH WC KO U2 Cv YP hY HM VJ TG BAA Cq Ht HX RV Fp Ek Je El xM Hf uB TB Bc Uu Ir Jy AUV Qw Vr NA Sj Hg AVL Qj Cm bN cJ aB Ke dM bI AER Gu Fw cI cP Od Zu J1 Do gZ Ki Ou Wl iP Ei hZ gN gX xL;simp only[CC,eq_self,implies_true,forall_const]
 obtain⟨hg,hgo,hb,hasc,hbr⟩:=h
 have cn:∀(m i:Nat),i<a.w.g.length/\a.w.g.length-i=m/\R9 a.w a.k (i+1)=[]->∃j:Nat,(j:Int)=IntKind.i64.wrap ((i:Int)+1)/\(j<=a.w.g.length/\R9 a.w a.k j=[])/\a.w.g.length-j<m:=λm i h=>⟨i+1,(FN (by omega)).symm,⟨h.1,h.2.2⟩,by omega⟩
 have co:∀(m:Nat) (x:GsK),x.i<a.w.g.length/\a.w.g.length-x.i=m/\x.l=R9 a.w a.k (x.i+1)->∃y:GsK,(y.l.length=x.l.length/\(y.i:Int)=IntKind.i64.wrap ((x.i:Int)+1)/\y.l.length=x.l.length/\∀(i:Nat),i<y.l.length->(gD y.l i).st=(gD x.l i).st/\(gD y.l i).lo=(gD x.l i).lo/\(gD y.l i).hi=(gD x.l i).hi)/\(y.i<=a.w.g.length/\y.l=R9 a.w a.k y.i)/\a.w.g.length-y.i<m:=λm x h=>⟨⟨x.i+1,x.l⟩,⟨rfl,(FN (by omega)).symm,rfl,λ_ _=>⟨rfl,rfl,rfl⟩⟩,⟨h.1,h.2.2⟩,by show a.w.g.length-(x.i+1)<m;omega⟩
 have ne:∀(i:Nat),i<a.w.g.length->R9 a.w a.k i=[]->inA a.w a.k i=false->R9 a.w a.k (i+1)=[]:=λi hi h1 h2=>by
  rw[ANV hi,h2,h1];simp
 refine⟨rfl,⟨0,⟨rfl,λi hi=>by simp⟩,Nat.zero_le _⟩,λi hi=>⟨λhlt=>⟨⟨by omega,by omega⟩,⟨⟨by omega,hasc⟩,⟨by omega,by omega⟩,by omega⟩,i+1,⟨(FN (by omega)).symm,λj hj=>?_⟩,by omega,by omega⟩,λhge=>⟨⟨0,⟨rfl,λj hj=>by rw[show i=a.w.g.length by omega]⟩,Nat.zero_le _,by simp[R9]⟩,
  λi hi=>⟨λhlt=>⟨⟨⟨by omega,by omega⟩,⟨⟨by omega,by omega⟩,by omega⟩,λhp=>⟨by simp,⟨i,[gD a.w.g i]⟩,⟨rfl,rfl,rfl,λj hj=>?_⟩,Int.ofNat_lt.1 hlt,rfl,?_⟩,λhp=>⟨i,rfl,by omega,rfl,ne i (by omega) hi.2 ?_⟩⟩,cn _,co _⟩,λhge=>?_⟩,
  λx hx=>⟨λhlt=>⟨⟨⟨by omega,by omega⟩,⟨⟨by omega,by omega⟩,by omega⟩,λhp=>⟨⟨by simp,by simp,?_,?_⟩,⟨x.i,x.l ++ [gD a.w.g x.i]⟩,⟨by simp,rfl,by simp,CGD _ _⟩,Int.ofNat_lt.1 hlt,rfl,?_⟩,λhp=>⟨⟨x.i,x.l⟩,⟨rfl,rfl,rfl,λ_ _=>⟨rfl,rfl,rfl⟩⟩,Int.ofNat_lt.1 hlt,rfl,?_⟩⟩,cn _,co _⟩,λhge=>?_⟩⟩⟩⟩
 ·by_cases h1:j=i
  ·subst h1;simp[inA]
  ·by_cases h2:j<i
   ·simp[h1,h2,show j<i+1 by omega]
   ·simp[h1,h2,show ¬ j<i+1 by omega]
 ·have:j=0:=by have hj:j<1:=hj;omega
  subst this;exact⟨rfl,rfl,rfl⟩
 ·have hlt':i<a.w.g.length:=Int.ofNat_lt.1 hlt
  show [gD a.w.g i]=_
  rw[ANV hlt',hi.2,if_pos (by simpa[hlt'] using hp)];rfl
 ·have hlt':i<a.w.g.length:=Int.ofNat_lt.1 hlt
  simpa[hlt'] using hp
 ·rw[<-CGJ (i:=i) (by omega),hi.2];rfl
 ·have:=CFK (w:=a.w) (k:=a.k) (i:=x.i);rw[<-hx.2] at this;omega
 ·have:=CFK (w:=a.w) (k:=a.k) (i:=x.i);rw[<-hx.2] at this;omega
 ·show x.l ++ _=_
  have hlt':x.i<a.w.g.length:=Int.ofNat_lt.1 hlt
  rw[ANV hlt',<-hx.2,if_pos (by simpa[hlt'] using hp)]
 ·show x.l=_
  have hlt':x.i<a.w.g.length:=Int.ofNat_lt.1 hlt
  rw[ANV hlt',<-hx.2,if_neg (by simpa[hlt'] using hp)]
 ·have e:x.l=Ys a.w a.k:=by rw[hx.2,CGJ (by omega)]
  rw[e];exact⟨rfl,Nat.le_refl _,λ_ _=>⟨rfl,rfl,rfl⟩⟩
theorem BVD:AM Try.prog BRU (C_inside.spec dBkI):=WY C_inside CGL [] [202] CTJ (λ_=>by kernel_rfl) (λ_=>AB BBY AG) (λ(a:BkI) h=>DBY a (show Ic a.w.g a.w.b/\True from h).1) (λ_=>YE rfl rfl) _
def FH(w:Bk)(k:Int):Span:=⟨bif decide (k>0) then gD w.b (k-1).toNat else 0,bif decide (k<w.b.length) then wr (gD w.b k.toNat-1) else 2000⟩
def C_span:Ctr:={ ro:=[100,101],α:=BkI,xs:=λa=>[.bptr 100 0,.int a.k],L:=λa=>bkL a.w,val:=λa=>.d (TF (FH a.w a.k)),keep:=λa=>bkK a.w,pre:=λa=>[Ic a.w.g a.w.b/\0<=a.k/\a.k<=a.w.b.length] }
def CVP:Ann:={ ann 38 [] with E:=[100,101] }
def DAH(a:BkI):Prop:=BG Try.prog CVP CJV (AL CJV) (C_span.xs a) (AF (C_span.L a)) (C_span.val a) (C_span.keep a) [] []
abbrev tD:=FH
abbrev U8 a b:=tD a (XO b)
abbrev ZB a:=U8 (IB a) a
attribute [go_sem] tD U8 ZB
theorem DKK(a:BkI):(DAH a)=(DV (Gb (XO a)) (BF (Tb (FA (XO a)) (UD a)) (JD (XO a) (ER (UD a))) (AH (Tb (XO a) (UD a)) (HT (ZB a) (Fu a (FZ (FA (XO a))))) (Ei (FQ (ZB a) (FA (Fu a (FZ (XO a))))) a a a a (NL a) (NH a) (λi=>TG a i (λj=>TB j a i a i (KR a i j) a i j)))) (And (HT (ZB a) (Fu a (FZ (FA (XO a))))) (Ei (FQ (ZB a) 2000) a a a a (NL a) (NH a) (λi=>TG a i (λj=>TB j a i a i (KR a i j) a i j))))) (DV (JD (XO a) (ER (UD a))) (AH (Tb (XO a) (UD a)) (Np (ZB a)) (Ei (FQ (ZB a) (FA (Fu a (FZ (XO a))))) a a a a (NL a) (NH a) (λi=>TG a i (λj=>TB j a i a i (KR a i j) a i j)))) (And (Np (ZB a)) (Ei (FQ (ZB a) 2000) a a a a (NL a) (NH a) (λi=>TG a i (λj=>TB j a i a i (KR a i j) a i j)))))):=by kernel_rfl
theorem AMJ:AM Try.prog BPO (C_span.spec dBkI):=WY C_span (λ_=>CVP) [] [] DGK (λ_=>by kernel_rfl) (λ_=>AG) (λ(a:BkI) h=>by
 show DAH a;rw[DKK]<;> delta JB EM FL NE Kq AR AK BO CI AO AU DV JD DJ DX Pp FZ QP AN BN BJ EY GW FC GF GD HB CW FX JY NK XO QN IB XL Xt Ma tD AH AJ AZ EV AI BI FJ RH AP Wm DI DY LI BZ BC DZ EZ GQ JL FQ HE ER HT EU Ca QL GT FB Il UW GU CF Bt Gk BY CH Yf FK CE KJ OH UD Rv CV BF FM XI FA HO OI QV Fu XH Ct KR U8 Oa NL Kf NH WC VJ TG ZB BAA Cq TB Gb Tb Np Ei;simp only[CC,eq_self,implies_true,forall_const]
 obtain⟨⟨hg,hgo,hb,hasc,hbr⟩,h1,h2⟩:Ic a.w.g a.w.b/\0<=a.k/\a.k<=a.w.b.length:=h
 rw[JC (n:=a.k-1) (by omega) (by omega)]
 unfold FH wr
 refine⟨λh3=>⟨by omega,λh4=>⟨by omega,?_,?_⟩,λh4=>⟨?_,?_⟩⟩,λh3=>⟨λh4=>⟨by omega,?_,?_⟩,λh4=>⟨?_,?_⟩⟩⟩<;>simp[h3,h4]) (λ_=>YE rfl rfl) _
structure GB where
 g:List Gau
 b:List Int
def dGB:List AVal->Heap->Option (GB×List (Nat×Nat)×List Nat)
 |[x,y],H=>match BLF x H,W2 y H with
  |some (l,f),some (m,e)=>some (⟨l,m⟩,[],f ++ e)
  |_,_=>none
 |_,_=>none
def xGB(a:GB):List AVal:=[.d (KZ a.g),.d (FE a.b)]
def HS(a:GB):Int:=bif GN a.g==0 then Cb a.b else GN a.g
def ZE(a:GB):Bk:=⟨a.g,a.b,λ_=>false,λ_=>0⟩
def C_open:Ctr:={ α:=GB,xs:=xGB,L:=λ_=>[],val:=λ_=>.tup [.bptr 0 0,.int 0],keep:=λa=>[(0,.live (bkB (ZE a) 1)),(1,.live (bkM (ZE a)))],pre:=λa=>[a.g.length<4611686018427387904/\a.b.length<4611686018427387904/\HS a=0] }
def C_openX:Ctr:={ α:=GB,xs:=xGB,L:=λ_=>[],val:=λa=>.tup [.d (.v (.pointer none)),.int (HS a)],keep:=λ_=>[],pre:=λa=>[a.g.length<4611686018427387904/\a.b.length<4611686018427387904/\HS a≠0] }
def BZE:Ann:=ann 22 [(ALW,C_Check.spec xY),(BCR,C_checkB.spec dIs1)]
def DBZ(a:GB):Prop:=BG Try.prog BZE ABI (AL ABI) (xGB a) (AF []) (C_open.val a) (C_open.keep a) [(0,7080),(1,7048)] []
abbrev gK:=GB.g
abbrev WE:=GB.b
abbrev Po:=ZE
abbrev Ya:=Bt (λi=>Oz)
abbrev Bn a b c:=HL a (XL b) (Il b a) c
abbrev Ri a b:=CG a (gK b)
abbrev YH a:=BU (gK a)
attribute [go_sem] gK WE Po Ya Bn Ri YH
theorem DFM(a:GB):(DBZ a)=(BF (ON (Ri (YH a) a) (AT (YH a) (gK a)) (CW (YH a))) (GA (Mi (YH a))) (RA (VS (OD (WE a)) (QC (WE a)) (Aw (WE a))) (xQ (DG (WE a))) PS (VJ CL (Ri (QN (Po a)) a) (λi=>CR i (QN (Po a)) (gK a)) (AW (XL (Po a)) (WE a)) (λi=>Bn i (Po a) (BJ (WE a) i)) Ya (AN (λi=>BE (Ma (Po a) i))) (λi=>BLT (Iv (Ca (Po a) i))))) (DV (PK (Mi (YH a))) PS (VJ CL (Ri (QN (Po a)) a) (λi=>CR i (QN (Po a)) (gK a)) (AW (XL (Po a)) (WE a)) (λi=>Bn i (Po a) (BJ (WE a) i)) Ya (AN (λi=>BE (Ma (Po a) i))) (λi=>BLT (Iv (Ca (Po a) i)))))):=by kernel_rfl
def CNZ(a:GB):Prop:=BG Try.prog BZE ABI (AL ABI) (xGB a) (AF []) (C_openX.val a) [] [] []
theorem DBW(a:GB):(CNZ a)=(BF (ON (Ri (YH a) a) (AT (YH a) (gK a)) (CW (YH a))) (GA (Mi (YH a))) (RA (VS (OD (WE a)) (QC (WE a)) (Aw (WE a))) (xQ (DG (WE a))) (Ql (AO (HS a) (xQ (DG (WE a))))) PS) (Fw (PK (Mi (YH a))) wT (AO (HS a) (Mi (YH a))) PS)):=by kernel_rfl
theorem BNK:AM Try.prog lO (C_open.spec dGB):=WY C_open (λ_=>BZE) [(0,7080),(1,7048)] [] BVS (λ_=>by kernel_rfl) (λ_=>AB AGW (AB BGJ AG)) (λ(a:GB) h=>by
 show DBZ a;rw[DFM]<;> delta JB Oz AR AK BO CI AO UH DV FI Cu Gi PS QP AN BN BJ JN EY GW CW FX JY Mi xQ QN XL Ma gK WE Po AH LY NX LX NY AJ AZ AI DG BU FJ RH BLT YH AP DI DY DZ EZ DN GQ JA ID HC AW Ca HY GT Il HL AY CG Bt IA KC BD FG EN GH AS CV BF FU FM GM BE CR AT CL HP Bn WC GA PK VJ OD VS ON QC RA Aw Iv Ya Ri;simp only[CC,eq_self,implies_true,forall_const]
 obtain⟨h1,h2,h3⟩:a.g.length<4611686018427387904/\a.b.length<4611686018427387904/\HS a=0:=h
 have key:(ZE a).g.length=a.g.length/\(∀i:Nat,i<(ZE a).g.length->(gD (ZE a).g i).st=(gD a.g i).st/\(gD (ZE a).g i).lo=(gD a.g i).lo/\(gD (ZE a).g i).hi=(gD a.g i).hi)/\(ZE a).b.length=a.b.length/\(∀i:Nat,i<(ZE a).b.length->gD (ZE a).b i=gD a.b i)/\(∀n:Int,(ZE a).st n=0)/\∀n:Int,(UR (ZE a) n).length=0:=⟨rfl,λ_ _=>⟨rfl,rfl,rfl⟩,rfl,λ_ _=>rfl,λ_=>rfl,λ_=>rfl⟩
 unfold HS at h3
 refine⟨h1,λh4=>⟨h2,λh5=>?_,λ_=>key⟩,λh4=>⟨λh5=>?_,λ_=>key⟩⟩
 ·rw[h4] at h3;simp at h3 h5;exact h5 h3
 ·rw[h4] at h3;simp at h3 h5;exact h5 h3) (λ_=>YE rfl rfl) _
theorem BSM:AM Try.prog lO (C_openX.spec dGB):=WY C_openX (λ_=>BZE) [] [] BVS (λ_=>by kernel_rfl) (λ_=>AB AGW (AB BGJ AG)) (λ(a:GB) h=>by
 show CNZ a;rw[DBW]<;> delta AR AK BO CI AO DV FI Cu Gi PS QP BN BJ JN EY GW CW FX Mi xQ gK WE AH LY NX LX NY AZ DG BU RH YH DI DY DZ EZ DN GQ JA ID HC AW HY HL AY CG IA KC BD FG EN GH AS BF GM CR AT HP GA PK OD VS ON QC RA Aw wT Fw Ri Ql;simp only[CC,eq_self,implies_true,forall_const]
 obtain⟨h1,h2,h3⟩:a.g.length<4611686018427387904/\a.b.length<4611686018427387904/\HS a≠0:=h
 refine⟨h1,λh4=>⟨h2,λh5=>?_,λh5=>h3 ?_⟩,λh4=>⟨λh5=>?_,λh5=>h3 ?_⟩⟩
 ·unfold HS;rw[h4];rfl
 ·unfold HS;rw[h4];simpa using h5
 ·unfold HS;rw[h4];rfl
 ·unfold HS;rw[h4];simpa using h5) (λ_=>YE rfl rfl) _
end Go.Bal
