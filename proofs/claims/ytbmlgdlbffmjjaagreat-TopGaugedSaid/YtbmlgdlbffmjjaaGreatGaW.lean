/- Law TopGauged: its walk. -/
import Derived.Test.YtbmlgdlbffmjjaaGreatGaK
import Derived.Test.YtbmlgdlbffmjjaaGreatRatU
set_option linter.unusedVariables false
set_option linter.unusedSimpArgs false
set_option maxRecDepth 8000
namespace Go.Bal
open Go Go.Sym Go.Proofs
structure TgI where
 n:List Int
 e:List Int
 m:List Int
 w:Int
structure TgS where
 s:Stm
 q:Stm
 t:Stm
 a:List Gau
 b:List Gau
def Gv(y:TgS):Int:=witV y.s 5 300
def tgS1(y:TgS):Stm:=witS y.s 5 300
def tgWv(y:TgS):Int:=witV (tgS1 y) (-50) 90
def tgS2(y:TgS):Stm:=witS (tgS1 y) (-50) 90
def tgH(y:TgS):List Int:=[0,tgWv y,wr (-(Gv y))]
def L4(y:TgS):LvS:=⟨y.q,tgH y,0,1,1⟩
def X4(y:TgS):LvS:=⟨lvS (L4 y),tgH y,2,1,1⟩
def O7(y:TgS):LvS:=⟨y.t,tgH y,0,2,2⟩
def Wb(y:TgS):Gp:=⟨lvR (L4 y),yY (L4 y),lvR (X4 y),yY (X4 y),lvR (O7 y),yY (O7 y)⟩
def tgQ2(y:TgS):Stm:=lvS (X4 y)
def tgT1(y:TgS):Stm:=lvS (O7 y)
def tgA(y:TgS):Int:=wr (10-fT (tgQ2 y) 3)
def tgQ3(y:TgS):Stm:=mX (tgQ2 y) 3
def tgB(y:TgS):Int:=wr (10+fT (tgQ3 y) 3)
def tgQ4(y:TgS):Stm:=mX (tgQ3 y) 3
def aG(y:TgS):Vt:=⟨⟨Ny 0 (bA (Wb y)).lo,(bA (Wb y)).hi⟩,⟨tgA y,tgB y⟩⟩
def Xd(y:TgS):Vt:=⟨⟨Ny 0 (bB (Wb y)).lo,(bB (Wb y)).hi⟩,⟨tgA y,tgB y⟩⟩
def xX(y:TgS):Gau:=⟨Gv y,(flV (aG y)).lo,(flV (aG y)).hi⟩
def K1(y:TgS):Gau:=⟨Gv y,(flV (Xd y)).lo,(flV (Xd y)).hi⟩
def tgNx(y:TgS):TgS:=⟨tgS2 y,tgQ4 y,tgT1 y,y.a ++ [xX y],y.b ++ [K1 y]⟩
def gG(x:TgI):Int:=witV ⟨x.n,0,0⟩ 1 6
def MZ(x:TgI):Nat->TgS
 |0=>⟨witS ⟨x.n,0,0⟩ 1 6,⟨x.e,0,0⟩,⟨x.m,0,0⟩,[],[]⟩
 |k+1=>tgNx (MZ x k)
def tgR(l:List Gau):HCell:=.live (.row 3 l.length λi=>eGau (gD l i))
def tgP(s q t:Stm):List (Nat×HCell):=[(2016,stmH s),(2048,stmH q),(2080,stmH t)]
def tgL(x:TgI)(n:Bool)(k:Nat)(y:TgS):List (Nat×AVal):=[(3,.d (.v (.int .u16 x.w))),(9,.bptr 2016 0),(10,.bptr 2048 0),(11,.bptr 2080 0),(12,match n with | true=>.d gK | false=>.own 301 3 0 y.a.length),(13,match n with | true=>.d gK | false=>.own 303 3 0 y.b.length),(47,.int (gG x)),(48,.int k)]
def tgQ(n:Bool)(y:TgS):List (Nat×HCell):=match n with
 |true=>[]
 |false=>[(301,tgR y.a),(303,tgR y.b)]
def tgI(x:TgI)(n:Bool)(m k:Nat):Prop:=(match n with | true=>k=0 | false=>0<k)/\(k:Int)<gG x/\(gG x-k).toNat=m
def tg4(x:TgI)(n:Bool):Shape:={ α:=Nat,dflt:=0,T:=λk=>⟨tgL x n k (MZ x k),tgP (MZ x k).s (MZ x k).q (MZ x k).t ++ tgQ n (MZ x k)⟩,inv:=λk=>(match n with | true=>k=0 | false=>0<k)/\(k:Int)<=gG x,meas:=λk=>(gG x-k).toNat,again:=[(301,6025048),(303,4026048)],tag:=[7,match n with | true=>1 | false=>0] }
def tg7(x:TgI)(n:Bool)(m:Nat):Shape:={ α:=Nat,dflt:=0,T:=λk=>⟨tgL x n k (MZ x k) ++ [(14,.int (Gv (MZ x k))),(15,.d (II (tgH (MZ x k))))],tgP (tgS2 (MZ x k)) (MZ x k).q (MZ x k).t ++ tgQ n (MZ x k)⟩,inv:=λk=>tgI x n m k,meas:=λ_=>0,ffz:=[7064] }
def tg8(x:TgI)(n:Bool)(m:Nat):Shape:={ α:=Nat,dflt:=0,T:=λk=>⟨tgL x n k (MZ x k) ++ [(14,.int (Gv (MZ x k))),(15,.d (II (tgH (MZ x k)))),(16,.bptr 8128 0)],tgP (tgS2 (MZ x k)) (tgQ2 (MZ x k)) (MZ x k).t ++ ((8128,.live (netB (nA (Wb (MZ x k))))) :: tgQ n (MZ x k))⟩,inv:=λk=>tgI x n m k,meas:=λ_=>0,ffz:=[8096] }
structure Tg11 where
 k:Nat
 la:List Lin
 lb:List Lin
 deriving Inhabited
def tg11(x:TgI)(n:Bool)(m:Nat):Shape:={ α:=Tg11,dflt:=default,T:=λz=>⟨tgL x n z.k (MZ x z.k) ++ [(14,.int (Gv (MZ x z.k))),(16,.bptr 8128 0),(17,.bptr 9032 0),(18,.bptr 11112 0)],tgP (tgS2 (MZ x z.k)) (tgQ4 (MZ x z.k)) (tgT1 (MZ x z.k)) ++ ((8128,.live (netB z.la)) :: (9032,.live (netB z.lb)) :: (11112,.live (.box [.int (tgA (MZ x z.k)),.int (tgB (MZ x z.k))])) :: tgQ n (MZ x z.k))⟩,inv:=λz=>tgI x n m z.k/\z.la=nA (Wb (MZ x z.k))/\z.lb=nB (Wb (MZ x z.k)),meas:=λ_=>0,ffz:=[10096] }
structure TgZ where
 k:Nat
 la:List Lin
 lb:List Lin
 s:Span
 v:Vt
 f:Span
 deriving Inhabited
def nt2(la lb:List Lin):Nat->List Lin
 |0=>la
 |_=>lb
def eNts(la lb:List Lin):DVal:=.list 2 2 (λi=>R3 (nt2 la lb i)) false
def tgRn(t:Nat):Bool:=Nat.beq t 4000000
def tgU(x:TgI)(n:Bool)(r:Bool)(z:TgZ):List (Nat×AVal):=match r with
 |false=>tgL x n z.k (MZ x z.k) ++ [(14,.int (Gv (MZ x z.k))),(18,.bptr 11112 0),(84,.d (eNts z.la z.lb)),(85,.int 2),(86,.int 0),(19,.int 0)]
 |true=>[(3,.d (.v (.int .u16 x.w))),(9,.bptr 2016 0),(10,.bptr 2048 0),(11,.bptr 2080 0),(12,.own 6025048 3 0 (z.k+1)),(13,match n with | true=>.d gK | false=>.own 303 3 0 z.k),(47,.int (gG x)),(48,.int z.k),(14,.int (Gv (MZ x z.k))),(18,.bptr 11112 0),(85,.int 2),(86,.int 1),(19,.int 1)]
def tgO(x:TgI)(n:Bool)(r:Bool)(z:TgZ):List (Nat×HCell):=tgP (tgS2 (MZ x z.k)) (tgQ4 (MZ x z.k)) (tgT1 (MZ x z.k)) ++ (11112,.live (.box [.int (tgA (MZ x z.k)),.int (tgB (MZ x z.k))])) :: (match r with
 |false=>tgQ n (MZ x z.k)
 |true=>(6025048,tgR ((MZ x z.k).a ++ [xX (MZ x z.k)])) :: (match n with | true=>[] | false=>[(303,tgR (MZ x z.k).b)]))
def tgW(x:TgI)(n:Bool)(r:Bool)(m:Nat)(z:TgZ):Prop:=tgI x n m z.k/\z.la=nA (Wb (MZ x z.k))/\z.lb=nB (Wb (MZ x z.k))/\(match r with
 |false=>z.s=bA (Wb (MZ x z.k))/\z.v=aG (MZ x z.k)/\z.f=flV (aG (MZ x z.k))
 |true=>z.s=bB (Wb (MZ x z.k))/\z.v=Xd (MZ x z.k)/\z.f=flV (Xd (MZ x z.k)))
def tgM(r:Bool)(z:TgZ):List Lin:=match r with | false=>z.la | true=>z.lb
def CJR(x:TgI)(n r:Bool)(t m:Nat):Shape:={ α:=TgZ,dflt:=default,T:=λz=>⟨tgU x n r z ++ [(20,.bptr (t+14048) 0)],(t+14048,.live (netB (tgM r z))) :: tgO x n r z⟩,inv:=λz=>tgW x n r m z,meas:=λ_=>0,ffz:=match r with | false=>[12032] | true=>[] }
def tg14(x:TgI)(n:Bool)(t m:Nat):Shape:=match tgRn t with
 |false=>CJR x n false t m
 |true=>CJR x n true t m
def CKT(x:TgI)(n r:Bool)(t m:Nat):Shape:={ α:=TgZ,dflt:=default,T:=λz=>⟨tgU x n r z ++ [(21,.bptr (t+15080) 0),(22,.int 0)],(t+15080,.live (.box [.int z.s.lo,.int z.s.hi])) :: tgO x n r z⟩,inv:=λz=>tgW x n r m z,meas:=λ_=>0 }
def tg15(x:TgI)(n:Bool)(t m:Nat):Shape:=match tgRn t with
 |false=>CKT x n false t m
 |true=>CKT x n true t m
def CHQ(x:TgI)(n r:Bool)(t m:Nat):Shape:={ α:=TgZ,dflt:=default,T:=λz=>⟨tgU x n r z ++ [(22,.int 0),(23,.bptr (t+18160) 0)],(t+18160,.live (.box [.int 0,.int 10,.own (t+18128) 5 0 1])) :: (t+18128,.live (rowV z.v)) :: tgO x n r z⟩,inv:=λz=>tgW x n r m z,meas:=λ_=>0 }
def tg18(x:TgI)(n:Bool)(t m:Nat):Shape:=match tgRn t with
 |false=>CHQ x n false t m
 |true=>CHQ x n true t m
def CIR(x:TgI)(n r:Bool)(t m:Nat):Shape:={ α:=TgZ,dflt:=default,T:=λz=>⟨tgU x n r z ++ [(22,.int 0),(24,.bptr (t+19080) 0),(25,.int (wr (100*Gv (MZ x z.k)))),(26,.int 0)],(t+19080,.live (.box [.int z.f.lo,.int z.f.hi])) :: tgO x n r z⟩,inv:=λz=>tgW x n r m z,meas:=λ_=>0 }
def tg20(x:TgI)(n:Bool)(t m:Nat):Shape:=match tgRn t with
 |false=>CIR x n false t m
 |true=>CIR x n true t m
def CKA(x:TgI)(n r:Bool)(t m:Nat):Shape:={ α:=TgZ,dflt:=default,T:=λz=>⟨tgU x n r z ++ [(24,.bptr (t+19080) 0)],(t+19080,.live (.box [.int z.f.lo,.int z.f.hi])) :: tgO x n r z⟩,inv:=λz=>tgW x n r m z,meas:=λ_=>0 }
def tg22(x:TgI)(n:Bool)(t m:Nat):Shape:=match tgRn t with
 |false=>CKA x n false t m
 |true=>CKA x n true t m
def tgE(x:TgI):TgS:=MZ x (gG x).toNat
def tg28(x:TgI):Shape:={ α:=One,dflt:=default,T:=λ_=>⟨[(3,.d (.v (.int .u16 x.w))),(12,.d (KB (tgE x).a)),(13,.d (KB (tgE x).b))],[]⟩,inv:=λ_=>True,meas:=λ_=>0,ffz:=[301,303] }
def chn:Ln:=⟨0,0,1,100⟩
def nilB:List Int:=[]
def chL:List Ln:=[chn]
def tgT(x:TgI):Int:=x.w.tmod 2001
def tgHt(x:TgI):List (Nat×HCell):=[(29064,.live (.box [.d (II nilB),.d (N8 chL)])),(31048,.live (.box [.int (wr (100*tgT x)),.int 1]))]
def tg32(x:TgI):Shape:={ α:=One,dflt:=default,T:=λ_=>⟨[(12,.d (KB (tgE x).a)),(13,.d (KB (tgE x).b)),(28,.bptr 29064 0),(29,.int (tgT x)),(30,.bptr 31048 0),(31,.d gK)],tgHt x⟩,inv:=λ_=>True,meas:=λ_=>0,ffz:=[29032] }
def gaE(x:TgI)(r:Bool):List Gau:=match r with
 |false=>(tgE x).a
 |true=>(tgE x).b
def fbE(x:TgI)(r:Bool):Bnd:=TA ⟨gaE x r,nilB,tgT x⟩
def ntG(x:TgI):Nat->List Gau
 |0=>gaE x false
 |_=>gaE x true
def CIX(x:TgI)(r:Bool):Shape:={ α:=One,dflt:=default,T:=λ_=>⟨[(28,.bptr 29064 0),(29,.int (tgT x)),(30,.bptr 31048 0),(31,match r with | false=>.d gK | true=>.own 6041048 4 0 1),(178,.d (.list 1 2 (λi=>KB (ntG x i)) false)),(179,.int 2),(180,.int (match r with | false=>0 | true=>1)),(33,.d (KB (gaE x r)))],tgHt x ++ (match r with | false=>[] | true=>[(6041048,.live (.row 4 1 λ_=>eBnd (fbE x false)))])⟩,inv:=λ_=>True,meas:=λ_=>0,ffz:=match r with | false=>[33032] | true=>[] }
def tg35(x:TgI)(t:Nat):Shape:=match tgRn t with
 |false=>CIX x false
 |true=>CIX x true
def CSY:List Nat->Nat
 |[t]=>t
 |[t,_,_,_]=>t
 |_=>0
def xTg(x:TgI):List AVal:=[.d (eBys x.n),.d (eBys x.e),.d (eBys x.m),.d (.v (.int .u16 x.w))]
def A_Tg(x:TgI):Ann:={ ann 243 [(BVZ,C_New.spec CIG),(AIV,C_Next.spec AUW),(J7,C_Within.spec AIA),(BUT,C_Lvd.spec CKS),(AQD,C_CnO.spec vP),(AOA,C_lBtw.spec BYK),(ACT,C_gFlO.spec BOH),(ADL,C_gReO.spec BNL),(BBZ,BUZ),(AJZ,C_Passes.spec dGR),(AZW,C_Rate.spec A5),(BDA,C_Flow.spec dGBt),(AGK,ASN),(BCT,BWB),(AKA,C_aw9.spec V3)] with mt:=λid=>id==9||(id==24||(id==25||id==40)),unr:=λid=>if id=12 then 3 else if id=33 then 3 else 0,off:=CSY,loops:=λid=>if id=4 then some [tg4 x true,tg4 x false] else none,cutIn:=λgs id=>if id=7 then some [tg7 x (Nat.beq (gs.getD 2 0) 1) (gs.getD 0 0)] else if id=8 then some [tg8 x (Nat.beq (gs.getD 2 0) 1) (gs.getD 0 0)] else if id=11 then some [tg11 x (Nat.beq (gs.getD 2 0) 1) (gs.getD 0 0)] else if id=14 then some [tg14 x (Nat.beq (gs.getD 3 0) 1) (gs.getD 0 0) (gs.getD 1 0)] else if id=15 then some [tg15 x (Nat.beq (gs.getD 3 0) 1) (gs.getD 0 0) (gs.getD 1 0)] else if id=18 then some [tg18 x (Nat.beq (gs.getD 3 0) 1) (gs.getD 0 0) (gs.getD 1 0)] else if id=20 then some [tg20 x (Nat.beq (gs.getD 3 0) 1) (gs.getD 0 0) (gs.getD 1 0)] else if id=22 then some [tg22 x (Nat.beq (gs.getD 3 0) 1) (gs.getD 0 0) (gs.getD 1 0)] else if id=28 then some [tg28 x] else if id=32 then some [tg32 x] else if id=35 then some [tg35 x (gs.getD 0 0)] else none }
def V_Tg(x:TgI):Prop:=AX Try.prog (A_Tg x) BED (AF BED) (xTg x) (AC []) (.bool true) [] [] []
abbrev Gc:=Tg11.k
abbrev LH:=Tg11.la
abbrev LZ:=Tg11.lb
abbrev ABK:=@Eq (List Lin)
abbrev BJB:=λ(f:Tg11->Prop)=>∀(x:Tg11),f x
abbrev vG:=@Exists TgZ
abbrev XQ:=TgZ.k
abbrev vA:=TgZ.s
abbrev vF:=TgZ.v
abbrev Od:=TgZ.f
abbrev mF:=λ(f:TgZ->Prop)=>∀(x:TgZ),f x
abbrev wH:=TgS.a
abbrev sK:=TgS.b
abbrev AVZ:=@default Int Int.instInhabited
abbrev yE:=Rt.mk
abbrev AHW a b:=BB (gaE a b)
abbrev AJQ a b c d:=GBt.mk (AHW a b) (Ff c (λi=>d)) (tgT a)
abbrev qX a b:=We (AJQ a b 0 AVZ)
abbrev Jo a:=qX a HU
abbrev Ec a:=fbE a UD
abbrev Xa:=Dz HU
abbrev tJ a:=aP 100 a
abbrev oB a:=AHW a HU
abbrev Qg:=oJ chL (λi=>dLn (eLn (LF chL i)))
abbrev uW:=EL nilB
abbrev qT a:=gaE a HU
abbrev ALK a b c:=AO a b (AJ c)
abbrev pL a:=AHW a UD
abbrev qS a:=gaE a UD
abbrev Ld a:=sK (tgE a)
abbrev Kv a:=wH (tgE a)
abbrev PE a b:=sK (MZ a b)
abbrev PL a b:=wH (MZ a b)
abbrev SV a:=AJ (TgI.w a)
abbrev Zm a b(c:TgZ->Prop):=TL a b (mF c)
abbrev Ji a b:=MW (Nn (gG a) (BH b))
abbrev tS a:=EE (Od a)
abbrev fY a b:=MZ a (XQ b)
abbrev cA a b:=sK (fY a b)
abbrev UY a:=CE (Od a)
abbrev FE a b:=Gv (fY a b)
abbrev QW a:=CL (XQ a)
abbrev LD a b:=wH (fY a b)
abbrev KV a b:=(@HAppend.hAppend (List Gau) (List Gau) (List Gau) (@instHAppendOfAppend (List Gau) (@List.instAppend Gau))) (LD a b) ((@List.cons Gau) (xX (fY a b)) AYP)
abbrev Wx a b c:=CI a (KV b c)
abbrev ZA a b:=tgT1 (fY a b)
abbrev AHO a b c:=JD a (ZA b c)
abbrev CQ a b:=TgS.t (MZ a b)
abbrev AKV a b c:=JF a (ZA b c)
abbrev AGQ a b c:=JM a (ZA b c)
abbrev AFP a b c:=HL a (ZA b c)
abbrev UI a b:=tgQ4 (fY a b)
abbrev AER a b c:=JD a (UI b c)
abbrev LP a b:=TgS.q (MZ a b)
abbrev AFM a b c:=JF a (UI b c)
abbrev AGU a b c:=JM a (UI b c)
abbrev AFT a b c:=HL a (UI b c)
abbrev XY a b:=tgS2 (fY a b)
abbrev AKE a b c:=JD a (XY b c)
abbrev WA a b:=TgS.s (MZ a b)
abbrev AFH a b c:=JF a (XY b c)
abbrev AIQ a b c:=JM a (XY b c)
abbrev AKX a b c:=HL a (XY b c)
abbrev OL a:=AJ (gG a)
abbrev zP a b:=ABK a (nB b)
abbrev ALB a b:=Wb (fY a b)
abbrev ARX a b:=zP (TgZ.lb a) (ALB b a)
abbrev AUM a b:=ABK (TgZ.la a) (nA (Wb (fY b a)))
abbrev UX a b c d e f g h:=AV a (AUM b c) (ARX d e) f g h
abbrev AQV a b:=(@Eq Span) (Od a) (flV b)
abbrev ASA a b:=Xd (fY a b)
abbrev VD a b:=AQV a (ASA b a)
abbrev ATP a b:=(@Eq Vt) (vF a) b
abbrev US a b:=ATP a (ASA b a)
abbrev ASK a b:=(@Eq Span) (vA a) b
abbrev UL a b:=ASK a (bB (ALB b a))
abbrev fW a b c d e:=R4 a b (Ji c d) (Ji c e)
abbrev Mm a b:=C9 a (gG b)
abbrev ASW a b c d:=fW a (Mm (XQ b) c) c (XQ b) d
abbrev VJ a b c:=ASW (Ga (XQ a)) a b c
abbrev VL a b c d e f g h p:=FJ a b (AUM c d) (ARX e f) g h p
abbrev AOT a b c:=BU (cA a b) c
abbrev fZ a b c d:=AOT a b (cA c d)
abbrev AIO a b c:=CI (cA a b) c
abbrev Lt a b c d:=AIO a b (cA c d)
abbrev wF a b:=tgB (fY a b)
abbrev AEJ a b c:=AK (wF a b) c
abbrev XP a b c d:=AEJ a b (wF c d)
abbrev Z5 a b:=tgA (fY a b)
abbrev D5 a b c:=AK a (Z5 b c)
abbrev YN a b c d:=D5 (Z5 a b) c d
abbrev ZE a b c d:=AHO (ZA a b) c d
abbrev XW a b c d:=AKV (ZA a b) c d
abbrev Yr a b c d:=Hi a (ZA b c) d
abbrev YC a b c d:=AFP (ZA a b) c d
abbrev XR a b c d:=AER (UI a b) c d
abbrev YO a b c d:=AFM (UI a b) c d
abbrev Of a b c d:=AGU (UI a b) c d
abbrev XV a b c d:=AFT (UI a b) c d
abbrev YQ a b c d:=AKE (XY a b) c d
abbrev ZB a b c d:=AFH (XY a b) c d
abbrev Zp a b c d:=Hi a (XY b c) d
abbrev XX a b c d:=AKX (XY a b) c d
abbrev AES a b c:=AK (FE a b) c
abbrev Zy a b c d:=AES a b (FE c d)
abbrev AIJ a b:=BC (XQ a) b
abbrev XT a b:=AIJ a (XQ b)
abbrev Pi a b:=tJ (FE a b)
abbrev kC:=RJ 0
abbrev Qc a(b:TgZ->Prop):=And a (vG b)
abbrev Za a b:=And (SV a) b
abbrev iU a:=flV (vF a)
abbrev kH a b c:=GI (eZ a b c)
abbrev Xs a:=Eu (vF a)
abbrev kF a:=CE (Xs a)
abbrev YW a:=Fz (vF a)
abbrev lE a:=eC (vF a)
abbrev zG a:=AE (λi=>ALK i 1 a)
abbrev jP a b:=zG (FE a b)
abbrev Ou a b c:=eM (Eh (YW a)) (YW b) (Xs c)
abbrev Qr a:=CE (vA a)
abbrev uR a:=EE (vA a)
abbrev jD a:=btwV (LbS.mk (IQ a) 2 0)
abbrev IP a:=tgM HU a
abbrev Xo a b c:=aA (IP a) b c
abbrev AY a b:=nt2 (TgZ.la a) (TgZ.lb a) b
abbrev Oa a:=AY a 1
abbrev A4 a b:=Dx (OG a) b
abbrev AQS a b:=aG (fY a b)
abbrev VK a b:=AQV a (AQS b a)
abbrev UR a b:=ATP a (AQS b a)
abbrev VH a b:=ASK a (bA (ALB b a))
abbrev aC a b c:=CI (LD a b) c
abbrev iM a b(c:Nat->Prop):=TJ a (WM AT b c)
abbrev jV a b c:=A4 a (AY b c)
abbrev IN a:=tgM UD a
abbrev aK a b c:=aA (IN a) b c
abbrev LA a b:=MZ a (Gc b)
abbrev Ef a b:=tgT1 (LA a b)
abbrev Et a b:=tgQ4 (LA a b)
abbrev Ea a b:=tgS2 (LA a b)
abbrev aJ a b c:=LL a 0 b c
abbrev jL a b:=AN (OG a) b
abbrev EZ a b:=nA (Wb (MZ a b))
abbrev TZ a b:=tgQ2 (MZ a b)
abbrev Mh a b:=fJ (TZ a b) 3
abbrev Hh a b:=FT (EZ a b)
abbrev Yk a b c d e:=XZ a (Hh b c) d e
abbrev Nl a b:=tgH (MZ a b)
abbrev aR a b:=EL (Nl a b)
abbrev AUJ a b c d e:=LvS.mk (ANA a a) (aR b c) d e e
abbrev R8 a b:=AUJ (CQ a b) a b 0 2
abbrev Zu a b:=lvL (R8 a b)
abbrev jE a b:=lvS (R8 a b)
abbrev kR a b:=fJ (Mh a b) 3
abbrev KN a b:=tgS2 (MZ a b)
abbrev jQ a b:=Gv (MZ a b)
abbrev AHC a:=BF (Rs a)
abbrev Ra a b:=FI (aR a b)
abbrev tR a:=AHC (lvS1 a)
abbrev jA a b c:=BK a (Nl b c)
abbrev ATM a b c d:=AUJ a b c d 1
abbrev V6 a b:=ATM (LP a b) a b 0
abbrev Su a b:=lvS (V6 a b)
abbrev Y7 a b:=ATM (Su a b) a b 2
abbrev Zv a b:=lvL (Y7 a b)
abbrev Ys a b:=lvL (V6 a b)
abbrev iT a b:=lvS (Y7 a b)
abbrev Lf a b:=qD (WA a b) 5 300
abbrev jR a b:=qD (Lf a b) (-50) 90
abbrev VG a b c:=ASW (NS (XQ a)) a b c
abbrev fX a b c d:=AGQ (ZA a b) c d
abbrev fR a b c d:=AIQ (XY a b) c d
abbrev nT a:=EL (TgI.n a)
attribute [go_sem] Gc LH LZ ABK BJB vG XQ vA vF Od mF wH sK AVZ yE AHW AJQ qX Jo Ec Xa tJ oB Qg uW qT ALK pL qS Ld Kv PE PL SV Zm Ji tS fY cA UY FE QW LD KV Wx ZA AHO CQ AKV AGQ AFP UI AER LP AFM AGU AFT XY AKE WA AFH AIQ AKX OL zP ALB ARX AUM UX AQV ASA VD ATP US ASK UL fW Mm ASW VJ VL AOT fZ AIO Lt wF AEJ XP Z5 D5 YN ZE XW Yr YC XR YO Of XV YQ ZB Zp XX AES Zy AIJ XT Pi kC Qc Za iU kH Xs kF YW lE zG jP Ou Qr uR jD IP Xo AY Oa A4 AQS VK UR VH aC iM jV IN aK LA Ef Et Ea aJ jL EZ TZ Mh Hh Yk Nl aR AUJ R8 Zu jE kR KN jQ AHC Ra tR jA ATM V6 Su Y7 Zv Ys iT Lf jR VG fX fR nT
theorem CSD(x:TgI):(V_Tg x)=(AG (AV (HI (TgI.n x)) (GQ (TgI.n x)) (HI (TgI.e x)) (GQ (TgI.e x)) (HI (TgI.m x)) (GQ (TgI.m x))) (RY (JK 1 (FF 1) 6 (FF 6) (Rc (HI (nT x)) (GQ (nT x)) (AJ 0) (Int.NonNeg (Nn 0 0)))) (CG (λi=>AG (AG (SV x) AM (KQ CK AM (AK (gG x) (mA (yL (EL (nT x)) 0 0) 1 6)) (AI (BD i) (HL (WA x i) (mH (yL (EL (nT x)) 0 0) 1 6)) (JM (WA x i) (mH (yL (EL (nT x)) 0 0) 1 6)) (JF (WA x i) (mH (yL (EL (nT x)) 0 0) 1 6)) (VC (JD (WA x i) (mH (yL (EL (nT x)) 0 0) 1 6)) (wO (LP x i) (JO (TgI.e x))) (λj=>tW j (LP x i) (EL (TgI.e x))) (Yd (LP x i) 0) (Wp (LP x i) 0) (wO (CQ x i) (JO (TgI.m x))) (AE (λj=>tW j (CQ x i) (EL (TgI.m x)))) (Yd (CQ x i) 0) (Wp (CQ x i) 0))))) (NS i) (DC (BH i) (gG x)))) (λi=>MI (And (NS i) (DC (BH i) (gG x))) (IA i (gG x)) (WM (JK 5 (FF 5) 300 (FF 300) (AI (WG (WA x i)) (Gl (WA x i)) (WL (WA x i)) (WX (WA x i)) (Sk (WA x i)))) (And (JK (-50) (sL 49) 90 (FF 90) (AI (WG (Lf x i)) (Gl (Lf x i)) (WL (Lf x i)) (WX (Lf x i)) (Sk (Lf x i)))) (CG (λj=>AQ (AG (SV x) AM (KQ CK AM (OL x) (AS (BC j i) (AK (jQ x j) (mA (gP (WA x i)) 5 300)) (GM (Nl x j) 3) (VS 3) (AE (λk=>Ii k (Nl x j) k (RV k 0 (Hc k (mA (gP (Lf x i)) (-50) 90) (Tk (mA (gP (WA x i)) 5 300)))))) (HL (KN x j) (jR x i)) (JM (KN x j) (jR x i)) (JF (KN x j) (jR x i)) (AS (JD (KN x j) (jR x i)) (HL (LP x j) (LP x i)) (JM (LP x j) (LP x i)) (JF (LP x j) (LP x i)) (JD (LP x j) (LP x i)) (HL (CQ x j) (CQ x i)) (JM (CQ x j) (CQ x i)) (JF (CQ x j) (CQ x i)) (JD (CQ x j) (CQ x i)))))) (NS j) (Mm j x) (AN (Ji x j) (Ji x i))))) (λj=>BA (fW (NS j) (Mm j x) x j i) (FB (And (AG (jA (aR x j) x j) (BR (aR x j) (Nl x j)) (XO eW (JX 1 1) (WG (LP x j)) (LN (λk=>HZ k (tZ (LP x j)) (eS (LP x j))) (WL (LP x j)) (WX (LP x j)) (AQ (EA (Rs (LP x j)) (tR (V6 x j))) (HW (Ra x j)) iK (DG 1 (Ra x j))) (jA (aR x j) x j) (BR (aR x j) (Nl x j)) (JX 2 2) (JX 1 1) (AS (JX 1 1) (WG (Su x j)) (Gl (Su x j)) (WL (Su x j)) (WX (Su x j)) (EA (Rs (Su x j)) (tR (Y7 x j))) (DT 2 (Ra x j)) iK (DG 1 (Ra x j)))))) (CG (λk=>AQ (Za x (Fx AM CK (FG (OL x) (BC k j) (jQ x k) (jQ x j) (jA (Nl x k) x j) (EX (λl=>HZ l (Nl x k) (Nl x j)) (HL (KN x k) (KN x j)) (JM (KN x k) (KN x j)) (JF (KN x k) (KN x j)) (JD (KN x k) (KN x j)) (HL (TZ x k) (iT x j)) (λl=>Hi l (TZ x k) (iT x j)) (JF (TZ x k) (iT x j)) (JS (JD (TZ x k) (iT x j)) (HL (CQ x k) (CQ x j)) (JM (CQ x k) (CQ x j)) (JF (CQ x k) (CQ x j)) (JD (CQ x k) (CQ x j)) AT (jL (EZ x k) 2) Cc (λl=>FX l (EZ x k) (LL (IW (EZ x k) l) l (TC (Ys x j)) (TC (Zv x j))) (LL (EN (EZ x k) l) l (TK (Ys x j)) (TK (Zv x j))) (LL (FN (EZ x k) l) l (ZN (Ys x j)) (ZN (Zv x j))) (LL (JR (EZ x k) l) l (ZK (Ys x j)) (ZK (Zv x j))) (LL (JP (EZ x k) l) l (ZM (Ys x j)) (ZM (Zv x j))))))))) (NS k) (Mm k x) (AN (Ji x k) (Ji x i))))) (λk=>BA (fW (NS k) (Mm k x) x k i) (AQ (Hn (FM (EZ x k)) (λl=>IM l (EZ x k) l l l l l) (IC (Hh x k)) (CW (Hh x k) 30)) (AG (jA (aR x k) x k) (BR (aR x k) (Nl x k)) (XO eW (JX 2 2) (WG (CQ x k)) (LN (λl=>HZ l (tZ (CQ x k)) (eS (CQ x k))) (WL (CQ x k)) (WX (CQ x k)) (AQ (EA (Rs (CQ x k)) (tR (R8 x k))) (HW (Ra x k)) (BF 2) (DG 2 (Ra x k))) (Ku (Hh x k) 5) (VF 5) JE (CW (CL (Hh x k)) 9223372036854775807) (LS (RX (Hh x k) 40))))) (And (AQ (JX 3 3) (WG (TZ x k)) (Gl (TZ x k)) (AS (WL (TZ x k)) (WX (TZ x k)) (AHC (TZ x k)) (JX 3 3) (WG (Mh x k)) (Gl (Mh x k)) (WL (Mh x k)) (WX (Mh x k)) (Sk (Mh x k)))) ((@Exists Tg11) (λl=>AQ (iF (SV x) (LN SH (OL x) (BC (Gc l) k) (AK (Gv (LA x l)) (jQ x k)) (HL (Ea x l) (KN x k)) (JM (Ea x l) (KN x k)) (JF (Ea x l) (KN x k)) (JD (Ea x l) (KN x k)) (AS (HL (Et x l) (kR x k)) (JM (Et x l) (kR x k)) (JF (Et x l) (kR x k)) (JD (Et x l) (kR x k)) (HL (Ef x l) (jE x k)) (JM (Ef x l) (jE x k)) (JF (Ef x l) (jE x k)) (JD (Ef x l) (jE x k)) (uP AT (A4 (LH l) (EZ x k)) (AE (λm=>FX m (LH l) (Ja (LH l) m (EZ x k) m) (Jj (LH l) m (EZ x k) m) (Jk (LH l) m (EZ x k) m) (Io (LH l) m (EZ x k) m) (Iw (LH l) m (EZ x k) m))) (FU (jL (LZ l) (CL (Hh x k))) (Nw (CL (Hh x k))) (λm=>GX m (LZ l) (AK (IW (LZ l) m) (Yk m x k (TC (HC (EZ x k) (AP m))) (TC (Zu x k)))) (AK (EN (LZ l) m) (Yk m x k (TK (HC (EZ x k) (AP m))) (TK (Zu x k)))) m (Yk m x k (KM (EZ x k) (AP m)) (ZN (Zu x k))) (NW (LZ l) m (Yk m x k (UN (EZ x k) (AP m)) (ZK (Zu x k)))) (NJ (LZ l) m (Yk m x k (UK (EZ x k) (AP m)) (ZM (Zu x k))))) (AK (tgA (LA x l)) (IV 10 (kI (TZ x k) 3))) (AK (tgB (LA x l)) (DN 10 (kI (Mh x k) 3)))))))) (fW (NS (Gc l)) (Mm (Gc l) x) x (Gc l) i) (ABK (LH l) (EZ x (Gc l))) (zP (LZ l) (Wb (LA x l)))))) (BJB (λl=>Zm (AG (fW (NS (Gc l)) (Mm (Gc l) x) x (Gc l) i) (ABK (LH l) (EZ x (Gc l))) (zP (LZ l) (Wb (LA x l)))) (Qc (Ax Qp (AP 0) 2) (λm=>VL (AG (SV x) AM (KQ CK AM (OL x) (AI (AIJ m (Gc l)) (AES x m (Gv (LA x l))) CO Cc (Ob (AE (λn=>TJ n (HB 3 (RV n 3 3) (jL (AY m n) (hJ (Pj n) (OG (LH l)) (OG (LZ l)))) (AE (λu=>FX u (AY m n) (LL (IW (AY m n) u) n (IW (LH l) u) (IW (LZ l) u)) (LL (EN (AY m n) u) n (EN (LH l) u) (EN (LZ l) u)) (LL (FN (AY m n) u) n (FN (LH l) u) (FN (LZ l) u)) (LL (JR (AY m n) u) n (JR (LH l) u) (JR (LZ l) u)) (LL (JP (AY m n) u) n (JP (LH l) u) (JP (LZ l) u))))))) BL (VC AT (jL (IN m) (hJ (Pj 0) (OG (LH l)) (OG (LZ l)))) (λn=>FX n (IN m) (aJ (IW (IN m) n) (IW (LH l) n) (IW (LZ l) n)) (aJ (EN (IN m) n) (EN (LH l) n) (EN (LZ l) n)) (aJ (FN (IN m) n) (FN (LH l) n) (FN (LZ l) n)) (aJ (JR (IN m) n) (JR (LH l) n) (JR (LZ l) n)) (aJ (JP (IN m) n) (JP (LH l) n) (JP (LZ l) n))) (HL (XY x m) (Ea x l)) (JM (XY x m) (Ea x l)) (JF (XY x m) (Ea x l)) (JD (XY x m) (Ea x l)) (HL (UI x m) (Et x l)) (LN (λn=>Hi n (UI x m) (Et x l)) (JF (UI x m) (Et x l)) (JD (UI x m) (Et x l)) (HL (ZA x m) (Ef x l)) (JM (ZA x m) (Ef x l)) (JF (ZA x m) (Ef x l)) (JD (ZA x m) (Ef x l)) (AK (Z5 x m) (tgA (LA x l))) (AEJ x m (tgB (LA x l))))))))) (VG m x i) m x m x (VH m x) (UR m x) (VK m x))) (λm=>Zm (UX (VG m x i) m x m x (VH m x) (UR m x) (VK m x)) (Qc (VC AT (FM (IN m)) (λn=>IM n (IN m) n n n n n) (GH 2 Zw) (GH 0 Va) (CJ (FT (IN m)) 30 (Bw (IN m))) (FB (AE (λn=>aB n (aK m n n))) (λn=>Wq n (λw v u=>QN w (AO v (FT (IN m)) (BA (Jf (lsM (HC (IN m) v) u) w) (Xt (aK m n w) (Xg (Yg (aK m n w) (sA (HC (IN m) v) u)) (aK m n (Kw (HC (IN m) v) u))))))))) (aL 2 (IC 3)) (YD (AK (aK m 2 0) JY))) (λn=>VL (Za x (Fx AM CK (FG (OL x) (XT n m) (FE x n) (FE x m) CO (Ob (AE (λu=>iM u (jV (AY n u) m u) (λv=>FX v (AY n u) (Ja (AY n u) v (AY m u) v) (Jj (AY n u) v (AY m u) v) (Jk (AY n u) v (AY m u) v) (Io (AY n u) v (AY m u) v) (Iw (AY n u) v (AY m u) v)))) BL (AS AL (AK (Qr n) (CE (jD (IN m)))) (YH (vA n) (jD (IN m))) (XX x n x m) (fR x n x m) (ZB x n x m) (YQ x n x m) (XV x n x m) (LN (λu=>Hi u (UI x n) (UI x m)) (YO x n x m) (XR x n x m) (YC x n x m) (fX x n x m) (XW x n x m) (ZE x n x m) (YN x n x m) (XP x n x m))))))) (VG n x i) n x n x (VH n x) (UR n x) (VK n x))) (λn=>MI (UX (VG n x i) n x n x (VH n x) (UR n x) (VK n x)) (Ju kC (Xi (Qr n) (FE x n)) (NL (uR n) (FE x n))) Xa (And (vG (λu=>VL (Za x (Fx AM CK (FG (OL x) (XT u n) (FE x u) (FE x n) CO (Ob (AE (λv=>iM v (jV (AY u v) n v) (λw=>FX w (AY u v) (Ja (AY u v) w (AY n v) w) (Jj (AY u v) w (AY n v) w) (Jk (AY u v) w (AY n v) w) (Io (AY u v) w (AY n v) w) (Iw (AY u v) w (AY n v) w)))) BL (XS AL BY AM (XS AZ (AE (λv=>LG v 1 ED (Iv (YW u) (sE 0 (Qr n))) (YH (YW u) (vA n)) (D5 (kF u) x n) (SF (Xs u) (wF x n)))) (XX x u x n) (AI (fR x u x n) (ZB x u x n) (YQ x u x n) (XV x u x n) (LN (λv=>Hi v (UI x u) (UI x n)) (YO x u x n) (XR x u x n) (YC x u x n) (fX x u x n) (XW x u x n) (ZE x u x n) (YN x u x n) (XP x u x n))))))))) (VG u x i) u x u x (VH u x) (UR u x) (VK u x))) (mF (λu=>BA (UX (VG u x i) u x u x (VH u x) (UR u x) (VK u x)) (AG (AI AL BY AM AZ (Fx AZ (Ou u u u) (lE u))) (Qc (CM AL (FF 10) (Fx AM AZ (XO AM AZ (Ou u u u) (KQ AZ (jP x u) (AE (λv=>AO v 1 (JX 10 10))) (KQ AZ (Ou u u u) (jP x u) (AI AZ (zG 10) (lE u) (kH (FE x u) (CE (YW u)) (YW u)) (kH 10 (kF u) (Xs u)))))))) (λv=>VL (AQ (SV x) AM CK (AS AM CK (OL x) (XT v u) (Zy x v x u) CO (AE (λw=>iM w (jV (AY v w) u w) (λy=>FX y (AY v w) (Ja (AY v w) y (AY u w) y) (Jj (AY v w) y (AY u w) y) (Jk (AY v w) y (AY u w) y) (Io (AY v w) y (AY u w) y) (Iw (AY v w) y (AY u w) y)))) BL (AMI AL (AK (Pi x v) (reV (ReS.mk (vF u) (FE x u) 10))) (AS AL (AK (UY v) (CE (iU u))) (YH (Od v) (iU u)) (XX x v x u) (fR x v x u) (ZB x v x u) (YQ x v x u) (XV x v x u) (LN (λw=>Hi w (UI x v) (UI x u)) (YO x v x u) (XR x v x u) (YC x v x u) (fX x v x u) (XW x v x u) (ZE x v x u) (YN x v x u) (XP x v x u)))))) (VG v x i) v x v x (VH v x) (UR v x) (VK v x))) (mF (λv=>Zm (UX (VG v x i) v x v x (VH v x) (UR v x) (VK v x)) (FA (Ju (yJ kC HU) (cN (Pi x v) (JB 100 (FE x v))) (not (eZ (Pi x v) (UY v) (Od v)))) Xa (vG (λw=>VL (iF (SV x) (LN SH (OL x) (XT w v) (Zy x w x v) CO (AE (λy=>iM y (jV (AY w y) v y) (λz=>FX z (AY w y) (Ja (AY w y) z (AY v y) z) (Jj (AY w y) z (AY v y) z) (Jk (AY w y) z (AY v y) z) (Io (AY w y) z (AY v y) z) (Iw (AY w y) z (AY v y) z)))) BL AL (AS AL (AK (UY w) (UY v)) (YH (Od w) (Od v)) (XX x w x v) (fR x w x v) (ZB x w x v) (YQ x w x v) (XV x w x v) (LN (λy=>Hi y (UI x w) (UI x v)) (YO x w x v) (XR x w x v) (YC x w x v) (fX x w x v) (XW x w x v) (ZE x w x v) (YN x w x v) (XP x w x v))))) (VG w x i) w x w x (VH w x) (UR w x) (VK w x)))) (λw=>BA (UX (VG w x i) w x w x (VH w x) (UR w x) (VK w x)) (AG (Ao 3 3 GO 1 24) (Qc Pv (λy=>VL (Za x (Fs (AN (QW y) 1) CK (FG (OL x) (XT y w) (FE x y) (FE x w) BL (XS (TY 1 pC) AT (A4 (IP y) (Oa w)) (EX (λz=>FX z (IP y) (Ja (IP y) z (Oa w) z) (Jj (IP y) z (Oa w) z) (Jk (IP y) z (Oa w) z) (Io (IP y) z (Oa w) z) (Iw (IP y) z (Oa w) z)) (XX x y x w) (fR x y x w) (ZB x y x w) (YQ x y x w) (XV x y x w) (λz=>Hi z (UI x y) (UI x w)) (YO x y x w) (JS (XR x y x w) (YC x y x w) (fX x y x w) (XW x y x w) (ZE x y x w) (YN x y x w) (XP x y x w) (JH (KV x y) 1) (λz=>DZ z (KV x y) (FE x w) (UY w) (tS w)))))))) (VG y x i) y x y x (UL y x) (US y x) (VD y x))) (mF (λy=>Zm (UX (VG y x i) y x y x (UL y x) (US y x) (VD y x)) (Qc (VC AT (FM (IP y)) (λz=>IM z (IP y) z z z z z) (GH 2 Zw) (GH 0 Va) (CJ (FT (IP y)) 30 (Bw (IP y))) (FB (AE (λz=>aB z (Xo y z z))) (λz=>Wq z (λk1 j1 i1=>QN k1 (AO j1 (FT (IP y)) (BA (Jf (lsM (HC (IP y) j1) i1) k1) (Xt (Xo y z k1) (Xg (Yg (Xo y z k1) (sA (HC (IP y) j1) i1)) (Xo y z (Kw (HC (IP y) j1) i1))))))))) (aL 2 (IC 3)) (YD (AK (Xo y 2 0) JY))) (λz=>VL (Za x (Fs (AN (QW z) (QW y)) CK (FG (OL x) (XT z y) (FE x z) (FE x y) BL (XS YG AL (AK (Qr z) (CE (jD (IP y)))) (AS (YH (vA z) (jD (IP y))) (XX x z x y) (fR x z x y) (ZB x z x y) (YQ x z x y) (XV x z x y) (Of x z x y) (YO x z x y) (AS (XR x z x y) (YC x z x y) (fX x z x y) (XW x z x y) (ZE x z x y) (YN x z x y) (XP x z x y) (Wx (KV x z) x y) (BU (KV x z) (KV x y)))))))) (VG z x i) z x z x (UL z x) (US z x) (VD z x))) (λz=>MI (UX (VG z x i) z x z x (UL z x) (US z x) (VD z x)) (Ju kC (Xi (Qr z) (FE x z)) (NL (uR z) (FE x z))) Xa (And (vG (λi1=>VL (Za x (Fs (AN (QW i1) (QW z)) CK (FG (OL x) (XT i1 z) (FE x i1) (FE x z) BL (AFW YG AL (Tr BY AZ (EX (λj1=>LG j1 1 ED (Iv (YW i1) (sE 0 (Qr z))) (YH (YW i1) (vA z)) (D5 (kF i1) x z) (SF (Xs i1) (wF x z))) (XX x i1 x z) (fR x i1 x z) (ZB x i1 x z) (YQ x i1 x z) (XV x i1 x z) (λj1=>Hi j1 (UI x i1) (UI x z)) (YO x i1 x z) (AS (XR x i1 x z) (YC x i1 x z) (fX x i1 x z) (XW x i1 x z) (ZE x i1 x z) (YN x i1 x z) (XP x i1 x z) (Wx (KV x i1) x z) (BU (KV x i1) (KV x z))))))))) (VG i1 x i) i1 x i1 x (UL i1 x) (US i1 x) (VD i1 x))) (mF (λi1=>BA (UX (VG i1 x i) i1 x i1 x (UL i1 x) (US i1 x) (VD i1 x)) (AG (AI AL BY AM AZ (Fx AZ (Ou i1 i1 i1) (lE i1))) (Qc (CM AL (FF 10) (Fx AM AZ (XO AM AZ (Ou i1 i1 i1) (KQ AZ (jP x i1) (AE (λj1=>AO j1 1 (JX 10 10))) (KQ AZ (Ou i1 i1 i1) (jP x i1) (AI AZ (zG 10) (lE i1) (kH (FE x i1) (CE (YW i1)) (YW i1)) (kH 10 (kF i1) (Xs i1)))))))) (λj1=>VL (PI (SV x) AM (QW j1) (QW i1) (AI AM CK (OL x) (XT j1 i1) (Rc (Zy x j1 x i1) BL YG (KQ AL (AK (Pi x j1) (reV (ReS.mk (vF i1) (FE x i1) 10))) (AK (UY j1) (CE (iU i1))) (AS (YH (Od j1) (iU i1)) (XX x j1 x i1) (fR x j1 x i1) (ZB x j1 x i1) (YQ x j1 x i1) (XV x j1 x i1) (Of x j1 x i1) (YO x j1 x i1) (AS (XR x j1 x i1) (YC x j1 x i1) (fX x j1 x i1) (XW x j1 x i1) (ZE x j1 x i1) (YN x j1 x i1) (XP x j1 x i1) (Wx (KV x j1) x i1) (BU (KV x j1) (KV x i1)))))))) (VG j1 x i) j1 x j1 x (UL j1 x) (US j1 x) (VD j1 x))) (mF (λj1=>Zm (UX (VG j1 x i) j1 x j1 x (UL j1 x) (US j1 x) (VD j1 x)) (FA (Ju (yJ kC HU) (cN (Pi x j1) (JB 100 (FE x j1))) (not (eZ (Pi x j1) (UY j1) (Od j1)))) Xa (vG (λk1=>VL (D3 (SV x) (AN (QW k1) (QW j1)) (Di CK (gG x) (XT k1 j1) (Zy x k1 x j1) (XO BL YG (AK (UY k1) (UY j1)) (AS (YH (Od k1) (Od j1)) (XX x k1 x j1) (fR x k1 x j1) (ZB x k1 x j1) (YQ x k1 x j1) (XV x k1 x j1) (Of x k1 x j1) (YO x k1 x j1) (AS (XR x k1 x j1) (YC x k1 x j1) (fX x k1 x j1) (XW x k1 x j1) (ZE x k1 x j1) (YN x k1 x j1) (XP x k1 x j1) (Wx (KV x k1) x j1) (BU (KV x k1) (KV x j1))))))) (VG k1 x i) k1 x k1 x (UL k1 x) (US k1 x) (VD k1 x)))) (λk1=>TL (UX (VG k1 x i) k1 x k1 x (UL k1 x) (US k1 x) (VD k1 x)) (Ao 3 3 GO 1 24) (CG (λl1=>EV (FJ (SV x) AM (JH (PL x l1) (QW k1)) AM (JH (PE x l1) 1) (OL x) (AS (AU l1 (XQ k1)) (AKX (WA x l1) x k1) (AIQ (WA x l1) x k1) (AFH (WA x l1) x k1) (AKE (WA x l1) x k1) (AFT (LP x l1) x k1) (AGU (LP x l1) x k1) (AFM (LP x l1) x k1) (JS (AER (LP x l1) x k1) (AFP (CQ x l1) x k1) (AGQ (CQ x l1) x k1) (AKV (CQ x l1) x k1) (AHO (CQ x l1) x k1) (Wx (PL x l1) x k1) (BU (PL x l1) (KV x k1)) (JH (PE x l1) 1) (λm1=>DZ m1 (PE x l1) (FE x k1) (UY k1) (tS k1))))) (And (Ga l1) (DC (BH l1) (gG x))) (Ji x l1) (Ji x i)))))))))))))))))))))))))))))) (NF (ANC (SV x) (Vh (Kv x)) (Vh (Ld x))))) (AE (λi=>MI (And (Ga i) (DC (BH i) (gG x))) (IA i (gG x)) (WM (JK 5 (FF 5) 300 (FF 300) (AI (WG (WA x i)) (Gl (WA x i)) (WL (WA x i)) (WX (WA x i)) (Sk (WA x i)))) (And (JK (-50) (sL 49) 90 (FF 90) (AI (WG (Lf x i)) (Gl (Lf x i)) (WL (Lf x i)) (WX (Lf x i)) (Sk (Lf x i)))) (CG (λj=>AQ (AG (SV x) AM (AS (CI (PL x j) (PL x i)) AM (CI (PE x j) (PE x i)) (OL x) (BC j i) (AK (jQ x j) (mA (gP (WA x i)) 5 300)) (GM (Nl x j) 3) (VS 3) (EX (λk=>Ii k (Nl x j) k (RV k 0 (Hc k (mA (gP (Lf x i)) (-50) 90) (Tk (mA (gP (WA x i)) 5 300))))) (HL (KN x j) (jR x i)) (JM (KN x j) (jR x i)) (JF (KN x j) (jR x i)) (JD (KN x j) (jR x i)) (HL (LP x j) (LP x i)) (λk=>Hi k (LP x j) (LP x i)) (JF (LP x j) (LP x i)) (AS (JD (LP x j) (LP x i)) (HL (CQ x j) (CQ x i)) (JM (CQ x j) (CQ x i)) (JF (CQ x j) (CQ x i)) (JD (CQ x j) (CQ x i)) (CI (PL x j) (PL x i)) (BU (PL x j) (PL x i)) (CI (PE x j) (PE x i)) (BU (PE x j) (PE x i)))))) (Ga j) (Mm j x) (AN (Ji x j) (Ji x i))))) (λj=>BA (fW (Ga j) (Mm j x) x j i) (FB (And (AG (jA (aR x j) x j) (BR (aR x j) (Nl x j)) (XO eW (JX 1 1) (WG (LP x j)) (LN (λk=>HZ k (tZ (LP x j)) (eS (LP x j))) (WL (LP x j)) (WX (LP x j)) (AQ (EA (Rs (LP x j)) (tR (V6 x j))) (HW (Ra x j)) iK (DG 1 (Ra x j))) (jA (aR x j) x j) (BR (aR x j) (Nl x j)) (JX 2 2) (JX 1 1) (AS (JX 1 1) (WG (Su x j)) (Gl (Su x j)) (WL (Su x j)) (WX (Su x j)) (EA (Rs (Su x j)) (tR (Y7 x j))) (DT 2 (Ra x j)) iK (DG 1 (Ra x j)))))) (CG (λk=>AQ (Za x (Fs (CI (PL x k) (PL x j)) (CI (PE x k) (PE x j)) (AS (OL x) (BC k j) (AK (jQ x k) (jQ x j)) (jA (Nl x k) x j) (BR (Nl x k) (Nl x j)) (HL (KN x k) (KN x j)) (JM (KN x k) (KN x j)) (JF (KN x k) (KN x j)) (AS (JD (KN x k) (KN x j)) (HL (TZ x k) (iT x j)) (JM (TZ x k) (iT x j)) (JF (TZ x k) (iT x j)) (JD (TZ x k) (iT x j)) (HL (CQ x k) (CQ x j)) (JM (CQ x k) (CQ x j)) (JF (CQ x k) (CQ x j)) (AS (JD (CQ x k) (CQ x j)) AT (jL (EZ x k) 2) Cc (AE (λl=>FX l (EZ x k) (LL (IW (EZ x k) l) l (TC (Ys x j)) (TC (Zv x j))) (LL (EN (EZ x k) l) l (TK (Ys x j)) (TK (Zv x j))) (LL (FN (EZ x k) l) l (ZN (Ys x j)) (ZN (Zv x j))) (LL (JR (EZ x k) l) l (ZK (Ys x j)) (ZK (Zv x j))) (LL (JP (EZ x k) l) l (ZM (Ys x j)) (ZM (Zv x j))))) (CI (PL x k) (PL x j)) (BU (PL x k) (PL x j)) (CI (PE x k) (PE x j)) (BU (PE x k) (PE x j))))))) (Ga k) (Mm k x) (AN (Ji x k) (Ji x i))))) (λk=>BA (fW (Ga k) (Mm k x) x k i) (AQ (Hn (FM (EZ x k)) (λl=>IM l (EZ x k) l l l l l) (IC (Hh x k)) (CW (Hh x k) 30)) (AG (jA (aR x k) x k) (BR (aR x k) (Nl x k)) (XO eW (JX 2 2) (WG (CQ x k)) (LN (λl=>HZ l (tZ (CQ x k)) (eS (CQ x k))) (WL (CQ x k)) (WX (CQ x k)) (AQ (EA (Rs (CQ x k)) (tR (R8 x k))) (HW (Ra x k)) (BF 2) (DG 2 (Ra x k))) (Ku (Hh x k) 5) (VF 5) JE (CW (CL (Hh x k)) 9223372036854775807) (LS (RX (Hh x k) 40))))) (And (AQ (JX 3 3) (WG (TZ x k)) (Gl (TZ x k)) (AS (WL (TZ x k)) (WX (TZ x k)) (AHC (TZ x k)) (JX 3 3) (WG (Mh x k)) (Gl (Mh x k)) (WL (Mh x k)) (WX (Mh x k)) (Sk (Mh x k)))) ((@Exists Tg11) (λl=>AQ (D3 (SV x) (CI (wH (LA x l)) (PL x k)) (AS (CI (sK (LA x l)) (PE x k)) (OL x) (BC (Gc l) k) (AK (Gv (LA x l)) (jQ x k)) (HL (Ea x l) (KN x k)) (JM (Ea x l) (KN x k)) (JF (Ea x l) (KN x k)) (JD (Ea x l) (KN x k)) (AS (HL (Et x l) (kR x k)) (JM (Et x l) (kR x k)) (JF (Et x l) (kR x k)) (JD (Et x l) (kR x k)) (HL (Ef x l) (jE x k)) (JM (Ef x l) (jE x k)) (JF (Ef x l) (jE x k)) (JD (Ef x l) (jE x k)) (uP AT (A4 (LH l) (EZ x k)) (AE (λm=>FX m (LH l) (Ja (LH l) m (EZ x k) m) (Jj (LH l) m (EZ x k) m) (Jk (LH l) m (EZ x k) m) (Io (LH l) m (EZ x k) m) (Iw (LH l) m (EZ x k) m))) (VC (jL (LZ l) (CL (Hh x k))) (Nw (CL (Hh x k))) (λm=>GX m (LZ l) (AK (IW (LZ l) m) (Yk m x k (TC (HC (EZ x k) (AP m))) (TC (Zu x k)))) (AK (EN (LZ l) m) (Yk m x k (TK (HC (EZ x k) (AP m))) (TK (Zu x k)))) m (Yk m x k (KM (EZ x k) (AP m)) (ZN (Zu x k))) (NW (LZ l) m (Yk m x k (UN (EZ x k) (AP m)) (ZK (Zu x k)))) (NJ (LZ l) m (Yk m x k (UK (EZ x k) (AP m)) (ZM (Zu x k))))) (AK (tgA (LA x l)) (IV 10 (kI (TZ x k) 3))) (AK (tgB (LA x l)) (DN 10 (kI (Mh x k) 3))) (CI (wH (LA x l)) (PL x k)) (BU (wH (LA x l)) (PL x k)) (CI (sK (LA x l)) (PE x k)) (BU (sK (LA x l)) (PE x k))))))) (fW (Ga (Gc l)) (Mm (Gc l) x) x (Gc l) i) (ABK (LH l) (EZ x (Gc l))) (zP (LZ l) (Wb (LA x l)))))) (BJB (λl=>Zm (AG (fW (Ga (Gc l)) (Mm (Gc l) x) x (Gc l) i) (ABK (LH l) (EZ x (Gc l))) (zP (LZ l) (Wb (LA x l)))) (Qc (Ax Qp (AP 0) 2) (λm=>VL (AG (SV x) AM (AS (aC x m (wH (LA x l))) AM (AIO x m (sK (LA x l))) (OL x) (AIJ m (Gc l)) (AES x m (Gv (LA x l))) CO Cc (Ob (AE (λn=>TJ n (HB 3 (RV n 3 3) (jL (AY m n) (hJ (Pj n) (OG (LH l)) (OG (LZ l)))) (AE (λu=>FX u (AY m n) (LL (IW (AY m n) u) n (IW (LH l) u) (IW (LZ l) u)) (LL (EN (AY m n) u) n (EN (LH l) u) (EN (LZ l) u)) (LL (FN (AY m n) u) n (FN (LH l) u) (FN (LZ l) u)) (LL (JR (AY m n) u) n (JR (LH l) u) (JR (LZ l) u)) (LL (JP (AY m n) u) n (JP (LH l) u) (JP (LZ l) u))))))) BL (Hn (jL (IN m) (hJ (Pj 0) (OG (LH l)) (OG (LZ l)))) (λn=>FX n (IN m) (aJ (IW (IN m) n) (IW (LH l) n) (IW (LZ l) n)) (aJ (EN (IN m) n) (EN (LH l) n) (EN (LZ l) n)) (aJ (FN (IN m) n) (FN (LH l) n) (FN (LZ l) n)) (aJ (JR (IN m) n) (JR (LH l) n) (JR (LZ l) n)) (aJ (JP (IN m) n) (JP (LH l) n) (JP (LZ l) n))) (HL (XY x m) (Ea x l)) (LN (λn=>Zp n x m (Ea x l)) (JF (XY x m) (Ea x l)) (JD (XY x m) (Ea x l)) (HL (UI x m) (Et x l)) (JM (UI x m) (Et x l)) (JF (UI x m) (Et x l)) (JD (UI x m) (Et x l)) (HL (ZA x m) (Ef x l)) (EX (λn=>Yr n x m (Ef x l)) (JF (ZA x m) (Ef x l)) (JD (ZA x m) (Ef x l)) (AK (Z5 x m) (tgA (LA x l))) (AEJ x m (tgB (LA x l))) (aC x m (wH (LA x l))) (λn=>EH n (LD x m) (wH (LA x l))) (AIO x m (sK (LA x l))) (AOT x m (sK (LA x l))))))))) (VJ m x i) m x m x (VH m x) (UR m x) (VK m x))) (λm=>Zm (UX (VJ m x i) m x m x (VH m x) (UR m x) (VK m x)) (Qc (VC AT (FM (IN m)) (λn=>IM n (IN m) n n n n n) (GH 2 Zw) (GH 0 Va) (CJ (FT (IN m)) 30 (Bw (IN m))) (FB (AE (λn=>aB n (aK m n n))) (λn=>Wq n (λw v u=>QN w (AO v (FT (IN m)) (BA (Jf (lsM (HC (IN m) v) u) w) (Xt (aK m n w) (Xg (Yg (aK m n w) (sA (HC (IN m) v) u)) (aK m n (Kw (HC (IN m) v) u))))))))) (aL 2 (IC 3)) (YD (AK (aK m 2 0) JY))) (λn=>VL (Za x (Fs (aC x n (LD x m)) (Lt x n x m) (FG (OL x) (XT n m) (FE x n) (FE x m) CO (Ob (AE (λu=>iM u (jV (AY n u) m u) (λv=>FX v (AY n u) (Ja (AY n u) v (AY m u) v) (Jj (AY n u) v (AY m u) v) (Jk (AY n u) v (AY m u) v) (Io (AY n u) v (AY m u) v) (Iw (AY n u) v (AY m u) v)))) BL (OD AL (Qr n) (CE (jD (IN m))) (uR n) (EE (jD (IN m))) (XX x n x m) (LN (λu=>Zp u x n (XY x m)) (ZB x n x m) (YQ x n x m) (XV x n x m) (Of x n x m) (YO x n x m) (XR x n x m) (YC x n x m) (EX (λu=>Yr u x n (ZA x m)) (XW x n x m) (ZE x n x m) (YN x n x m) (XP x n x m) (aC x n (LD x m)) (λu=>EH u (LD x n) (LD x m)) (Lt x n x m) (fZ x n x m)))))))) (VJ n x i) n x n x (VH n x) (UR n x) (VK n x))) (λn=>MI (UX (VJ n x i) n x n x (VH n x) (UR n x) (VK n x)) (Ju kC (Xi (Qr n) (FE x n)) (NL (uR n) (FE x n))) Xa (And (vG (λu=>VL (Za x (Fs (aC x u (LD x n)) (Lt x u x n) (FG (OL x) (XT u n) (FE x u) (FE x n) CO (Ob (AE (λv=>iM v (jV (AY u v) n v) (λw=>FX w (AY u v) (Ja (AY u v) w (AY n v) w) (Jj (AY u v) w (AY n v) w) (Jk (AY u v) w (AY n v) w) (Io (AY u v) w (AY n v) w) (Iw (AY u v) w (AY n v) w)))) BL (XS AL BY AM (XS AZ (AE (λv=>LG v 1 ED (Iv (YW u) (sE 0 (Qr n))) (YH (YW u) (vA n)) (D5 (kF u) x n) (SF (Xs u) (wF x n)))) (XX x u x n) (LN (λv=>Zp v x u (XY x n)) (ZB x u x n) (YQ x u x n) (XV x u x n) (Of x u x n) (YO x u x n) (XR x u x n) (YC x u x n) (EX (λv=>Yr v x u (ZA x n)) (XW x u x n) (ZE x u x n) (YN x u x n) (XP x u x n) (aC x u (LD x n)) (λv=>EH v (LD x u) (LD x n)) (Lt x u x n) (fZ x u x n))))))))) (VJ u x i) u x u x (VH u x) (UR u x) (VK u x))) (mF (λu=>BA (UX (VJ u x i) u x u x (VH u x) (UR u x) (VK u x)) (AG (AI AL BY AM AZ (Fx AZ (Ou u u u) (lE u))) (Qc (CM AL (FF 10) (Fx AM AZ (XO AM AZ (Ou u u u) (KQ AZ (jP x u) (AE (λv=>AO v 1 (JX 10 10))) (KQ AZ (Ou u u u) (jP x u) (AI AZ (zG 10) (lE u) (kH (FE x u) (CE (YW u)) (YW u)) (kH 10 (kF u) (Xs u)))))))) (λv=>VL (AQ (SV x) AM (aC x v (LD x u)) (AS AM (Lt x v x u) (OL x) (XT v u) (Zy x v x u) CO (AE (λw=>iM w (jV (AY v w) u w) (λy=>FX y (AY v w) (Ja (AY v w) y (AY u w) y) (Jj (AY v w) y (AY u w) y) (Jk (AY v w) y (AY u w) y) (Io (AY v w) y (AY u w) y) (Iw (AY v w) y (AY u w) y)))) BL (AMI AL (AK (Pi x v) (reV (ReS.mk (vF u) (FE x u) 10))) (OD AL (UY v) (CE (iU u)) (tS v) (EE (iU u)) (XX x v x u) (LN (λw=>Zp w x v (XY x u)) (ZB x v x u) (YQ x v x u) (XV x v x u) (Of x v x u) (YO x v x u) (XR x v x u) (YC x v x u) (EX (λw=>Yr w x v (ZA x u)) (XW x v x u) (ZE x v x u) (YN x v x u) (XP x v x u) (aC x v (LD x u)) (λw=>EH w (LD x v) (LD x u)) (Lt x v x u) (fZ x v x u))))))) (VJ v x i) v x v x (VH v x) (UR v x) (VK v x))) (mF (λv=>Zm (UX (VJ v x i) v x v x (VH v x) (UR v x) (VK v x)) (FA (Ju (yJ kC HU) (cN (Pi x v) (JB 100 (FE x v))) (not (eZ (Pi x v) (UY v) (Od v)))) Xa (vG (λw=>VL (D3 (SV x) (aC x w (LD x v)) (Di (Lt x w x v) (gG x) (XT w v) (Zy x w x v) (AS CO (AE (λy=>iM y (jV (AY w y) v y) (λz=>FX z (AY w y) (Ja (AY w y) z (AY v y) z) (Jj (AY w y) z (AY v y) z) (Jk (AY w y) z (AY v y) z) (Io (AY w y) z (AY v y) z) (Iw (AY w y) z (AY v y) z)))) BL AL AL (AK (UY w) (UY v)) (YH (Od w) (Od v)) (XX x w x v) (LN (λy=>Zp y x w (XY x v)) (ZB x w x v) (YQ x w x v) (XV x w x v) (Of x w x v) (YO x w x v) (XR x w x v) (YC x w x v) (EX (λy=>Yr y x w (ZA x v)) (XW x w x v) (ZE x w x v) (YN x w x v) (XP x w x v) (aC x w (LD x v)) (λy=>EH y (LD x w) (LD x v)) (Lt x w x v) (fZ x w x v)))))) (VJ w x i) w x w x (VH w x) (UR w x) (VK w x)))) (λw=>BA (UX (VJ w x i) w x w x (VH w x) (UR w x) (VK w x)) (AG (VE (And (BW (LD x w)) (JG 0 (LD x w) FQ)) 3 (Fo (LD x w)) (RX (BP (LD x w)) 24)) (Qc Pv (λy=>VL (PI (SV x) AM (QW y) (Fo (LD x w)) (AI AM (AN (XQ y) (BP (cA x w))) (OL x) (XT y w) (Rc (Zy x y x w) BL (TY 1 pC) (Hn (A4 (IP y) (Oa w)) (λz=>FX z (IP y) (Ja (IP y) z (Oa w) z) (Jj (IP y) z (Oa w) z) (Jk (IP y) z (Oa w) z) (Io (IP y) z (Oa w) z) (Iw (IP y) z (Oa w) z)) (XX x y x w) (LN (λz=>Zp z x y (XY x w)) (ZB x y x w) (YQ x y x w) (XV x y x w) (Of x y x w) (YO x y x w) (XR x y x w) (YC x y x w) (EX (λz=>Yr z x y (ZA x w)) (XW x y x w) (ZE x y x w) (YN x y x w) (XP x y x w) (JH (KV x y) (Fo (LD x w))) (λz=>DZ z (KV x y) (KC z (BP (LD x w)) (DW (LD x w) z) (FE x w)) (KC z (BP (LD x w)) (DK (LD x w) z) (UY w)) (KC z (BP (LD x w)) (DF (LD x w) z) (tS w))) (Lt x y x w) (fZ x y x w))))))) (VJ y x i) y x y x (UL y x) (US y x) (VD y x))) (mF (λy=>Zm (UX (VJ y x i) y x y x (UL y x) (US y x) (VD y x)) (Qc (VC AT (FM (IP y)) (λz=>IM z (IP y) z z z z z) (GH 2 Zw) (GH 0 Va) (CJ (FT (IP y)) 30 (Bw (IP y))) (FB (AE (λz=>aB z (Xo y z z))) (λz=>Wq z (λk1 j1 i1=>QN k1 (AO j1 (FT (IP y)) (BA (Jf (lsM (HC (IP y) j1) i1) k1) (Xt (Xo y z k1) (Xg (Yg (Xo y z k1) (sA (HC (IP y) j1) i1)) (Xo y z (Kw (HC (IP y) j1) i1))))))))) (aL 2 (IC 3)) (YD (AK (Xo y 2 0) JY))) (λz=>VL (PI (SV x) AM (QW z) (QW y) (AI AM (AN (XQ z) (XQ y)) (OL x) (XT z y) (Rc (Zy x z x y) BL YG (OD AL (Qr z) (CE (jD (IP y))) (uR z) (EE (jD (IP y))) (XX x z x y) (LN (λi1=>Zp i1 x z (XY x y)) (ZB x z x y) (YQ x z x y) (XV x z x y) (Of x z x y) (YO x z x y) (XR x z x y) (YC x z x y) (EX (λi1=>Yr i1 x z (ZA x y)) (XW x z x y) (ZE x z x y) (YN x z x y) (XP x z x y) (Wx (KV x z) x y) (λi1=>EH i1 (KV x z) (KV x y)) (Lt x z x y) (fZ x z x y))))))) (VJ z x i) z x z x (UL z x) (US z x) (VD z x))) (λz=>MI (UX (VJ z x i) z x z x (UL z x) (US z x) (VD z x)) (Ju kC (Xi (Qr z) (FE x z)) (NL (uR z) (FE x z))) Xa (And (vG (λi1=>VL (PI (SV x) AM (QW i1) (QW z) (AI AM (AN (XQ i1) (XQ z)) (OL x) (XT i1 z) (Rc (Zy x i1 x z) BL YG (XS AL BY AM (XS AZ (AE (λj1=>LG j1 1 ED (Iv (YW i1) (sE 0 (Qr z))) (YH (YW i1) (vA z)) (D5 (kF i1) x z) (SF (Xs i1) (wF x z)))) (XX x i1 x z) (LN (λj1=>Zp j1 x i1 (XY x z)) (ZB x i1 x z) (YQ x i1 x z) (XV x i1 x z) (Of x i1 x z) (YO x i1 x z) (XR x i1 x z) (YC x i1 x z) (EX (λj1=>Yr j1 x i1 (ZA x z)) (XW x i1 x z) (ZE x i1 x z) (YN x i1 x z) (XP x i1 x z) (Wx (KV x i1) x z) (λj1=>EH j1 (KV x i1) (KV x z)) (Lt x i1 x z) (fZ x i1 x z)))))))) (VJ i1 x i) i1 x i1 x (UL i1 x) (US i1 x) (VD i1 x))) (mF (λi1=>BA (UX (VJ i1 x i) i1 x i1 x (UL i1 x) (US i1 x) (VD i1 x)) (AG (AI AL BY AM AZ (Fx AZ (Ou i1 i1 i1) (lE i1))) (Qc (CM AL (FF 10) (Fx AM AZ (XO AM AZ (Ou i1 i1 i1) (KQ AZ (jP x i1) (AE (λj1=>AO j1 1 (JX 10 10))) (KQ AZ (Ou i1 i1 i1) (jP x i1) (AI AZ (zG 10) (lE i1) (kH (FE x i1) (CE (YW i1)) (YW i1)) (kH 10 (kF i1) (Xs i1)))))))) (λj1=>VL (Za x (Fs (AN (QW j1) (QW i1)) (AN (XQ j1) (XQ i1)) (FG (OL x) (XT j1 i1) (FE x j1) (FE x i1) BL (XS YG AL (AK (Pi x j1) (reV (ReS.mk (vF i1) (FE x i1) 10))) (OD AL (UY j1) (CE (iU i1)) (tS j1) (EE (iU i1)) (XX x j1 x i1) (LN (λk1=>Zp k1 x j1 (XY x i1)) (ZB x j1 x i1) (YQ x j1 x i1) (XV x j1 x i1) (Of x j1 x i1) (YO x j1 x i1) (XR x j1 x i1) (YC x j1 x i1) (EX (λk1=>Yr k1 x j1 (ZA x i1)) (XW x j1 x i1) (ZE x j1 x i1) (YN x j1 x i1) (XP x j1 x i1) (Wx (KV x j1) x i1) (λk1=>EH k1 (KV x j1) (KV x i1)) (Lt x j1 x i1) (fZ x j1 x i1)))))))) (VJ j1 x i) j1 x j1 x (UL j1 x) (US j1 x) (VD j1 x))) (mF (λj1=>Zm (UX (VJ j1 x i) j1 x j1 x (UL j1 x) (US j1 x) (VD j1 x)) (FA (Ju (yJ kC HU) (cN (Pi x j1) (JB 100 (FE x j1))) (not (eZ (Pi x j1) (UY j1) (Od j1)))) Xa (vG (λk1=>VL (FJ (SV x) AM (AN (QW k1) (QW j1)) AM (AN (XQ k1) (XQ j1)) (OL x) (AS (XT k1 j1) (Zy x k1 x j1) BL YG YG (AK (UY k1) (UY j1)) (YH (Od k1) (Od j1)) (XX x k1 x j1) (LN (λl1=>Zp l1 x k1 (XY x j1)) (ZB x k1 x j1) (YQ x k1 x j1) (XV x k1 x j1) (Of x k1 x j1) (YO x k1 x j1) (XR x k1 x j1) (YC x k1 x j1) (EX (λl1=>Yr l1 x k1 (ZA x j1)) (XW x k1 x j1) (ZE x k1 x j1) (YN x k1 x j1) (XP x k1 x j1) (Wx (KV x k1) x j1) (λl1=>EH l1 (KV x k1) (KV x j1)) (Lt x k1 x j1) (fZ x k1 x j1))))) (VJ k1 x i) k1 x k1 x (UL k1 x) (US k1 x) (VD k1 x)))) (λk1=>TL (UX (VJ k1 x i) k1 x k1 x (UL k1 x) (US k1 x) (VD k1 x)) (VE (RF (AN (XQ k1) (BP (cA x k1))) (XQ k1) 3) 3 (QW k1) (RX (XQ k1) 24)) (CG (λl1=>EV (FJ (SV x) AM (JH (PL x l1) (QW k1)) AM (JH (PE x l1) (QW k1)) (OL x) (AS (AU l1 (XQ k1)) (AKX (WA x l1) x k1) (AIQ (WA x l1) x k1) (AFH (WA x l1) x k1) (AKE (WA x l1) x k1) (AFT (LP x l1) x k1) (AGU (LP x l1) x k1) (AFM (LP x l1) x k1) (JS (AER (LP x l1) x k1) (AFP (CQ x l1) x k1) (AGQ (CQ x l1) x k1) (AKV (CQ x l1) x k1) (AHO (CQ x l1) x k1) (Wx (PL x l1) x k1) (BU (PL x l1) (KV x k1)) (JH (PE x l1) (QW k1)) (λm1=>DZ m1 (PE x l1) (KC m1 (XQ k1) (DW (cA x k1) m1) (FE x k1)) (KC m1 (XQ k1) (DK (cA x k1) m1) (UY k1)) (KC m1 (XQ k1) (DF (cA x k1) m1) (tS k1)))))) (And (Ga l1) (DC (BH l1) (gG x))) (Ji x l1) (Ji x i)))))))))))))))))))))))))))))) (NF (FJ (SV x) (CI (Kv x) (PL x i)) (HH (AP (BP (PL x i))) (PL x i)) (AE (λj=>Yx j (Kv x) (PL x i) (AP j))) (CI (Ld x) (PE x i)) (HH (AP (BP (PE x i))) (PE x i)) (AE (λj=>Yx j (Ld x) (PE x i) (AP j)))))))) (Mp FW (AG (YD (TY 2001 0)) (NF (AV (BW (Kv x)) (BX (Kv x)) (BW (Ld x)) (BX (Ld x)) (AK (tgT x) (sD (CS (TgI.w x)) 2001)) (Fs CK AM (FU AZ (VS 1) (λi=>FH i 1 (ZD chL i 0) (EU chL i) 0 (EQ chL i) 1 (ES chL i) 100) (AK (tJ (tgT x)) (JB 100 (sD (CS (TgI.w x)) 2001))) YG)))) (Ac (λi=>TL FW (And (Ax Qp (AP 0) 2) (NF (AQ (AJ (tgT x)) AM CK (FU CO Cc (λj=>Rz j (JH (ntG x j) (hJ (Pj j) (BP (Kv x)) (BP (Ld x)))) (AE (λk=>DZ k (ntG x j) (RV j (DW (Kv x) k) (DW (Ld x) k)) (RV j (DK (Kv x) k) (DK (Ld x) k)) (RV j (DF (Kv x) k) (DF (Ld x) k))))) BL (VC AL (JH (qS x) (hJ (Pj 0) (BP (Kv x)) (BP (Ld x)))) (λj=>DZ j (qS x) (RV 0 (DW (Kv x) j) (DW (Ld x) j)) (RV 0 (DK (Kv x) j) (DK (Ld x) j)) (RV 0 (DF (Kv x) j) (DF (Ld x) j))) AM (AE (λj=>ALK j 0 (IR nilB j))) AZ (ZG 1 chL) (AJ (tJ (tgT x))) YG))))) (Mp FW (AQ (AS (CN (qS x)) (CV (qS x)) AM (AE (λj=>Gq j 0 uW nilB)) AZ (AE (λj=>FH j 1 (NR Qg j chL) (EU Qg j) (EU chL j) (EQ Qg j) (EQ chL j) (ES Qg j) (ES chL j))) (UA (pL x)) (IC 1073741824) (Bc 1)) (SE (qS x) (OC (pL x) 20)) (AG (CN (qS x)) (CV (qS x)) (XS AM (AJ (tgT x)) (And (OP (pL x)) (IC 4611686018427387904)) FW)) (FA (PD (Ju (Ju (RJ (Kj (GR.mk (pL x) (ABD uW Qg)))) (RJ (Sa (pL x))) (RJ (Na (AJQ x UD 0 AVZ)))) (TM (YP (sM (GR.mk (pL x) (ABD uW Qg))))) (cN (BH (Js (pL x))) 1)) (not (fK (yE (tJ (tgT x)) 1) (G7 (mZ (qX x UD)) (mU (qX x UD)))))) Xa (AG (It UM GO 1 32) (And Pv (NF (AS (AJ (tgT x)) AM AZ CO (AE (λj=>Rz j (BW (ntG x j)) (BX (ntG x j)))) BL (TY 1 pC) (CI (qT x) (ntG x 1)) (LN (λj=>EH j (qT x) (ntG x 1)) AM (AE (λj=>ALK j 0 (IR nilB j))) AZ (ZG 1 chL) (AJ (tJ (tgT x))) YG AZ (AE (λj=>FH j 1 (AK (OI (Ec x)) (OI (qX x UD))) (NG (Ec x)) (NG (qX x UD)) (OQ (Ec x)) (OQ (qX x UD)) (NA (Ec x)) (NA (qX x UD)))))))) (Mp FW (AQ (AS (CN (qT x)) (CV (qT x)) AM (AE (λj=>Gq j 0 uW nilB)) AZ (AE (λj=>FH j 1 (NR Qg j chL) (EU Qg j) (EU chL j) (EQ Qg j) (EQ chL j) (ES Qg j) (ES chL j))) (UA (oB x)) (IC 1073741824) (Bc 1)) (SE (qT x) (OC (oB x) 20)) (AG (CN (qT x)) (CV (qT x)) (XS AM (AJ (tgT x)) (And (OP (oB x)) (IC 4611686018427387904)) FW)) (FA (PD (Ju (Ju (RJ (Kj (GR.mk (oB x) (ABD uW Qg)))) (RJ (Sa (oB x))) (RJ (Na (AJQ x HU 0 AVZ)))) (TM (YP (sM (GR.mk (oB x) (ABD uW Qg))))) (cN (BH (Js (oB x))) 1)) (not (fK (yE (tJ (tgT x)) 1) (G7 (mZ (Jo x)) (mU (Jo x)))))) Xa (AG (It (RF AZ 1 4) JE 2 64) (AQ Pv (BM 1 2) Qp (PK (AP 0) (CL 1))) (HX HU (and (fK (yE (KC Qd 1 (OI (Ec x)) (OI (Jo x))) (KC Qd 1 (NG (Ec x)) (NG (Jo x)))) (G7 (yE (XZ 0 1 (OI (Ec x)) (OI (Jo x))) (XZ 0 1 (NG (Ec x)) (NG (Jo x)))) (yE (XZ 0 1 (OQ (Ec x)) (OQ (Jo x))) (XZ 0 1 (NA (Ec x)) (NA (Jo x)))))) (fK (yE (KC Qd 1 (OQ (Ec x)) (OQ (Jo x))) (KC Qd 1 (NA (Ec x)) (NA (Jo x)))) (G7 (yE (XZ 0 1 (OI (Ec x)) (OI (Jo x))) (XZ 0 1 (NG (Ec x)) (NG (Jo x)))) (yE (XZ 0 1 (OQ (Ec x)) (OQ (Jo x))) (XZ 0 1 (NA (Ec x)) (NA (Jo x))))))) HU)))))))))))))):=by kernel_rfl
end Go.Bal
