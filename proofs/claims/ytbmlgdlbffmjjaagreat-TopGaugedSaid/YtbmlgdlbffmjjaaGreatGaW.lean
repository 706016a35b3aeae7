/- Law TopGauged: its walk. -/
import Derived.Test.YtbmlgdlbffmjjaaGreatGaK
import Derived.Test.YtbmlgdlbffmjjaaGreatRatU
set_option linter.unusedVariables false
set_option linter.unusedSimpArgs false
set_option maxRecDepth 8000
namespace Go.Bal
open Go Go.Sym Go.Proofs
structure TgI where
 n:List Int
 e:List Int
 m:List Int
 w:Int
structure TgS where
 s:Stm
 q:Stm
 t:Stm
 a:List Gau
 b:List Gau
def Hl(y:TgS):Int:=witV y.s 5 300
def tgS1(y:TgS):Stm:=witS y.s 5 300
def tgWv(y:TgS):Int:=witV (tgS1 y) (-50) 90
def tgS2(y:TgS):Stm:=witS (tgS1 y) (-50) 90
def tgH(y:TgS):List Int:=[0,tgWv y,wr (-(Hl y))]
def G4(y:TgS):LvS:=⟨y.q,tgH y,0,1,1⟩
def Y2(y:TgS):LvS:=⟨lvS (G4 y),tgH y,2,1,1⟩
def O7(y:TgS):LvS:=⟨y.t,tgH y,0,2,2⟩
def Vv(y:TgS):Gp:=⟨lvR (G4 y),zO (G4 y),lvR (Y2 y),zO (Y2 y),lvR (O7 y),zO (O7 y)⟩
def tgQ2(y:TgS):Stm:=lvS (Y2 y)
def tgT1(y:TgS):Stm:=lvS (O7 y)
def tgA(y:TgS):Int:=wr (10-cW (tgQ2 y) 3)
def tgQ3(y:TgS):Stm:=mF (tgQ2 y) 3
def tgB(y:TgS):Int:=wr (10+cW (tgQ3 y) 3)
def tgQ4(y:TgS):Stm:=mF (tgQ3 y) 3
def Zo(y:TgS):Vt:=⟨⟨Rb 0 (bA (Vv y)).lo,(bA (Vv y)).hi⟩,⟨tgA y,tgB y⟩⟩
def Zf(y:TgS):Vt:=⟨⟨Rb 0 (bB (Vv y)).lo,(bB (Vv y)).hi⟩,⟨tgA y,tgB y⟩⟩
def xU(y:TgS):Gau:=⟨Hl y,(flV (Zo y)).lo,(flV (Zo y)).hi⟩
def K0(y:TgS):Gau:=⟨Hl y,(flV (Zf y)).lo,(flV (Zf y)).hi⟩
def tgNx(y:TgS):TgS:=⟨tgS2 y,tgQ4 y,tgT1 y,y.a ++ [xU y],y.b ++ [K0 y]⟩
def gG(x:TgI):Int:=witV ⟨x.n,0,0⟩ 1 6
def MZ(x:TgI):Nat->TgS
 |0=>⟨witS ⟨x.n,0,0⟩ 1 6,⟨x.e,0,0⟩,⟨x.m,0,0⟩,[],[]⟩
 |k+1=>tgNx (MZ x k)
def tgR(l:List Gau):HCell:=.live (.row 3 l.length λi=>eGau (gD l i))
def tgP(s q t:Stm):List (Nat×HCell):=[(2016,stmH s),(2048,stmH q),(2080,stmH t)]
def tgL(x:TgI)(n:Bool)(k:Nat)(y:TgS):List (Nat×AVal):=[(3,.d (.v (.int .u16 x.w))),(9,.bptr 2016 0),(10,.bptr 2048 0),(11,.bptr 2080 0),(12,match n with | true=>.d gK | false=>.own 301 3 0 y.a.length),(13,match n with | true=>.d gK | false=>.own 303 3 0 y.b.length),(47,.int (gG x)),(48,.int k)]
def tgQ(n:Bool)(y:TgS):List (Nat×HCell):=match n with
 |true=>[]
 |false=>[(301,tgR y.a),(303,tgR y.b)]
def tgI(x:TgI)(n:Bool)(m k:Nat):Prop:=(match n with | true=>k=0 | false=>0<k)/\(k:Int)<gG x/\(gG x-k).toNat=m
def tg4(x:TgI)(n:Bool):Shape:={ α:=Nat,dflt:=0,T:=λk=>⟨tgL x n k (MZ x k),tgP (MZ x k).s (MZ x k).q (MZ x k).t ++ tgQ n (MZ x k)⟩,inv:=λk=>(match n with | true=>k=0 | false=>0<k)/\(k:Int)<=gG x,meas:=λk=>(gG x-k).toNat,again:=[(301,6025048),(303,4026048)],tag:=[7,match n with | true=>1 | false=>0] }
def tg7(x:TgI)(n:Bool)(m:Nat):Shape:={ α:=Nat,dflt:=0,T:=λk=>⟨tgL x n k (MZ x k) ++ [(14,.int (Hl (MZ x k))),(15,.d (IM (tgH (MZ x k))))],tgP (tgS2 (MZ x k)) (MZ x k).q (MZ x k).t ++ tgQ n (MZ x k)⟩,inv:=λk=>tgI x n m k,meas:=λ_=>0,ffz:=[7064] }
def tg8(x:TgI)(n:Bool)(m:Nat):Shape:={ α:=Nat,dflt:=0,T:=λk=>⟨tgL x n k (MZ x k) ++ [(14,.int (Hl (MZ x k))),(15,.d (IM (tgH (MZ x k)))),(16,.bptr 8128 0)],tgP (tgS2 (MZ x k)) (tgQ2 (MZ x k)) (MZ x k).t ++ ((8128,.live (netB (nA (Vv (MZ x k))))) :: tgQ n (MZ x k))⟩,inv:=λk=>tgI x n m k,meas:=λ_=>0,ffz:=[8096] }
structure Tg11 where
 k:Nat
 la:List Lin
 lb:List Lin
 deriving Inhabited
def tg11(x:TgI)(n:Bool)(m:Nat):Shape:={ α:=Tg11,dflt:=default,T:=λz=>⟨tgL x n z.k (MZ x z.k) ++ [(14,.int (Hl (MZ x z.k))),(16,.bptr 8128 0),(17,.bptr 9032 0),(18,.bptr 11112 0)],tgP (tgS2 (MZ x z.k)) (tgQ4 (MZ x z.k)) (tgT1 (MZ x z.k)) ++ ((8128,.live (netB z.la)) :: (9032,.live (netB z.lb)) :: (11112,.live (.box [.int (tgA (MZ x z.k)),.int (tgB (MZ x z.k))])) :: tgQ n (MZ x z.k))⟩,inv:=λz=>tgI x n m z.k/\z.la=nA (Vv (MZ x z.k))/\z.lb=nB (Vv (MZ x z.k)),meas:=λ_=>0,ffz:=[10096] }
structure TgZ where
 k:Nat
 la:List Lin
 lb:List Lin
 s:Span
 v:Vt
 f:Span
 deriving Inhabited
def nt2(la lb:List Lin):Nat->List Lin
 |0=>la
 |_=>lb
def eNts(la lb:List Lin):DVal:=.list 2 2 (λi=>Q9 (nt2 la lb i)) false
def tgRn(t:Nat):Bool:=Nat.beq t 4000000
def tgU(x:TgI)(n:Bool)(r:Bool)(z:TgZ):List (Nat×AVal):=match r with
 |false=>tgL x n z.k (MZ x z.k) ++ [(14,.int (Hl (MZ x z.k))),(18,.bptr 11112 0),(84,.d (eNts z.la z.lb)),(85,.int 2),(86,.int 0),(19,.int 0)]
 |true=>[(3,.d (.v (.int .u16 x.w))),(9,.bptr 2016 0),(10,.bptr 2048 0),(11,.bptr 2080 0),(12,.own 6025048 3 0 (z.k+1)),(13,match n with | true=>.d gK | false=>.own 303 3 0 z.k),(47,.int (gG x)),(48,.int z.k),(14,.int (Hl (MZ x z.k))),(18,.bptr 11112 0),(85,.int 2),(86,.int 1),(19,.int 1)]
def tgO(x:TgI)(n:Bool)(r:Bool)(z:TgZ):List (Nat×HCell):=tgP (tgS2 (MZ x z.k)) (tgQ4 (MZ x z.k)) (tgT1 (MZ x z.k)) ++ (11112,.live (.box [.int (tgA (MZ x z.k)),.int (tgB (MZ x z.k))])) :: (match r with
 |false=>tgQ n (MZ x z.k)
 |true=>(6025048,tgR ((MZ x z.k).a ++ [xU (MZ x z.k)])) :: (match n with | true=>[] | false=>[(303,tgR (MZ x z.k).b)]))
def tgW(x:TgI)(n:Bool)(r:Bool)(m:Nat)(z:TgZ):Prop:=tgI x n m z.k/\z.la=nA (Vv (MZ x z.k))/\z.lb=nB (Vv (MZ x z.k))/\(match r with
 |false=>z.s=bA (Vv (MZ x z.k))/\z.v=Zo (MZ x z.k)/\z.f=flV (Zo (MZ x z.k))
 |true=>z.s=bB (Vv (MZ x z.k))/\z.v=Zf (MZ x z.k)/\z.f=flV (Zf (MZ x z.k)))
def tgM(r:Bool)(z:TgZ):List Lin:=match r with | false=>z.la | true=>z.lb
def CHI(x:TgI)(n r:Bool)(t m:Nat):Shape:={ α:=TgZ,dflt:=default,T:=λz=>⟨tgU x n r z ++ [(20,.bptr (t+14048) 0)],(t+14048,.live (netB (tgM r z))) :: tgO x n r z⟩,inv:=λz=>tgW x n r m z,meas:=λ_=>0,ffz:=match r with | false=>[12032] | true=>[] }
def tg14(x:TgI)(n:Bool)(t m:Nat):Shape:=match tgRn t with
 |false=>CHI x n false t m
 |true=>CHI x n true t m
def CKV(x:TgI)(n r:Bool)(t m:Nat):Shape:={ α:=TgZ,dflt:=default,T:=λz=>⟨tgU x n r z ++ [(21,.bptr (t+15080) 0),(22,.int 0)],(t+15080,.live (.box [.int z.s.lo,.int z.s.hi])) :: tgO x n r z⟩,inv:=λz=>tgW x n r m z,meas:=λ_=>0 }
def tg15(x:TgI)(n:Bool)(t m:Nat):Shape:=match tgRn t with
 |false=>CKV x n false t m
 |true=>CKV x n true t m
def CHE(x:TgI)(n r:Bool)(t m:Nat):Shape:={ α:=TgZ,dflt:=default,T:=λz=>⟨tgU x n r z ++ [(22,.int 0),(23,.bptr (t+18160) 0)],(t+18160,.live (.box [.int 0,.int 10,.own (t+18128) 5 0 1])) :: (t+18128,.live (rowV z.v)) :: tgO x n r z⟩,inv:=λz=>tgW x n r m z,meas:=λ_=>0 }
def tg18(x:TgI)(n:Bool)(t m:Nat):Shape:=match tgRn t with
 |false=>CHE x n false t m
 |true=>CHE x n true t m
def CII(x:TgI)(n r:Bool)(t m:Nat):Shape:={ α:=TgZ,dflt:=default,T:=λz=>⟨tgU x n r z ++ [(22,.int 0),(24,.bptr (t+19080) 0),(25,.int (wr (100*Hl (MZ x z.k)))),(26,.int 0)],(t+19080,.live (.box [.int z.f.lo,.int z.f.hi])) :: tgO x n r z⟩,inv:=λz=>tgW x n r m z,meas:=λ_=>0 }
def tg20(x:TgI)(n:Bool)(t m:Nat):Shape:=match tgRn t with
 |false=>CII x n false t m
 |true=>CII x n true t m
def CGT(x:TgI)(n r:Bool)(t m:Nat):Shape:={ α:=TgZ,dflt:=default,T:=λz=>⟨tgU x n r z ++ [(24,.bptr (t+19080) 0)],(t+19080,.live (.box [.int z.f.lo,.int z.f.hi])) :: tgO x n r z⟩,inv:=λz=>tgW x n r m z,meas:=λ_=>0 }
def tg22(x:TgI)(n:Bool)(t m:Nat):Shape:=match tgRn t with
 |false=>CGT x n false t m
 |true=>CGT x n true t m
def tgE(x:TgI):TgS:=MZ x (gG x).toNat
def tg28(x:TgI):Shape:={ α:=One,dflt:=default,T:=λ_=>⟨[(3,.d (.v (.int .u16 x.w))),(12,.d (KD (tgE x).a)),(13,.d (KD (tgE x).b))],[]⟩,inv:=λ_=>True,meas:=λ_=>0,ffz:=[301,303] }
def chn:Ln:=⟨0,0,1,100⟩
def nilB:List Int:=[]
def chL:List Ln:=[chn]
def tgT(x:TgI):Int:=x.w.tmod 2001
def tgHt(x:TgI):List (Nat×HCell):=[(29064,.live (.box [.d (IM nilB),.d (K4 chL)])),(31048,.live (.box [.int (wr (100*tgT x)),.int 1]))]
def tg32(x:TgI):Shape:={ α:=One,dflt:=default,T:=λ_=>⟨[(12,.d (KD (tgE x).a)),(13,.d (KD (tgE x).b)),(28,.bptr 29064 0),(29,.int (tgT x)),(30,.bptr 31048 0),(31,.d gK)],tgHt x⟩,inv:=λ_=>True,meas:=λ_=>0,ffz:=[29032] }
def gaE(x:TgI)(r:Bool):List Gau:=match r with
 |false=>(tgE x).a
 |true=>(tgE x).b
def fbE(x:TgI)(r:Bool):Bnd:=SZ ⟨gaE x r,nilB,tgT x⟩
def ntG(x:TgI):Nat->List Gau
 |0=>gaE x false
 |_=>gaE x true
def CKD(x:TgI)(r:Bool):Shape:={ α:=One,dflt:=default,T:=λ_=>⟨[(28,.bptr 29064 0),(29,.int (tgT x)),(30,.bptr 31048 0),(31,match r with | false=>.d gK | true=>.own 6041048 4 0 1),(178,.d (.list 1 2 (λi=>KD (ntG x i)) false)),(179,.int 2),(180,.int (match r with | false=>0 | true=>1)),(33,.d (KD (gaE x r)))],tgHt x ++ (match r with | false=>[] | true=>[(6041048,.live (.row 4 1 λ_=>eBnd (fbE x false)))])⟩,inv:=λ_=>True,meas:=λ_=>0,ffz:=match r with | false=>[33032] | true=>[] }
def tg35(x:TgI)(t:Nat):Shape:=match tgRn t with
 |false=>CKD x false
 |true=>CKD x true
def CSH:List Nat->Nat
 |[t]=>t
 |[t,_,_,_]=>t
 |_=>0
def xTg(x:TgI):List AVal:=[.d (eBys x.n),.d (eBys x.e),.d (eBys x.m),.d (.v (.int .u16 x.w))]
def A_Tg(x:TgI):Ann:={ ann 243 [(BSY,C_New.spec CKR),(AKP,C_Next.spec APJ),(E1,C_Within.spec AEK),(BSO,C_Lvd.spec CIX),(ASA,C_CnO.spec sU),(AMG,C_lBtw.spec BWW),(ADO,C_gFlO.spec BYZ),(ADM,C_gReO.spec BSI),(BDC,BNS),(AIP,C_Passes.spec dGR),(BCZ,C_Rate.spec A2),(BCR,C_Flow.spec dGBt),(AFK,AST),(BAF,BTK),(AGC,C_aw9.spec T7)] with mt:=λid=>id==9||(id==24||(id==25||id==40)),unr:=λid=>if id=12 then 3 else if id=33 then 3 else 0,off:=CSH,loops:=λid=>if id=4 then some [tg4 x true,tg4 x false] else none,cutIn:=λgs id=>if id=7 then some [tg7 x (Nat.beq (gs.getD 2 0) 1) (gs.getD 0 0)] else if id=8 then some [tg8 x (Nat.beq (gs.getD 2 0) 1) (gs.getD 0 0)] else if id=11 then some [tg11 x (Nat.beq (gs.getD 2 0) 1) (gs.getD 0 0)] else if id=14 then some [tg14 x (Nat.beq (gs.getD 3 0) 1) (gs.getD 0 0) (gs.getD 1 0)] else if id=15 then some [tg15 x (Nat.beq (gs.getD 3 0) 1) (gs.getD 0 0) (gs.getD 1 0)] else if id=18 then some [tg18 x (Nat.beq (gs.getD 3 0) 1) (gs.getD 0 0) (gs.getD 1 0)] else if id=20 then some [tg20 x (Nat.beq (gs.getD 3 0) 1) (gs.getD 0 0) (gs.getD 1 0)] else if id=22 then some [tg22 x (Nat.beq (gs.getD 3 0) 1) (gs.getD 0 0) (gs.getD 1 0)] else if id=28 then some [tg28 x] else if id=32 then some [tg32 x] else if id=35 then some [tg35 x (gs.getD 0 0)] else none }
def V_Tg(x:TgI):Prop:=AX Try.prog (A_Tg x) BBG (AF BBG) (xTg x) (AC []) (.bool true) [] [] []
abbrev Gm:=Tg11.k
abbrev LG:=Tg11.la
abbrev MB:=Tg11.lb
abbrev AAQ:=@Eq (List Lin)
abbrev BHX:=λ(f:Tg11->Prop)=>∀(x:Tg11),f x
abbrev uV:=@Exists TgZ
abbrev YD:=TgZ.k
abbrev wL:=TgZ.s
abbrev vM:=TgZ.v
abbrev Qf:=TgZ.f
abbrev lY:=λ(f:TgZ->Prop)=>∀(x:TgZ),f x
abbrev wO:=TgS.a
abbrev uZ:=TgS.b
abbrev AYL:=@default Int Int.instInhabited
abbrev yJ:=Rt.mk
abbrev AHI a b:=BB (gaE a b)
abbrev AFH a b c d:=GBt.mk (AHI a b) (Ff c (λi=>d)) (tgT a)
abbrev nT a b:=Wi (AFH a b 0 AYL)
abbrev It a:=nT a HU
abbrev Eg a:=fbE a UD
abbrev Xr:=Di HU
abbrev tK a:=Xo 100 a
abbrev qG a:=AHI a HU
abbrev Ov:=pW chL (λi=>dLn (eLn (LH chL i)))
abbrev tF:=EL nilB
abbrev pL a:=gaE a HU
abbrev AHP a b c:=AO a b (AJ c)
abbrev oW a:=AHI a UD
abbrev qF a:=gaE a UD
abbrev Lt a:=uZ (tgE a)
abbrev Ll a:=wO (tgE a)
abbrev OY a b:=uZ (MZ a b)
abbrev PM a b:=wO (MZ a b)
abbrev SE a:=AJ (TgI.w a)
abbrev Yv a b(c:TgZ->Prop):=TO a b (lY c)
abbrev Jr a b:=MW (No (gG a) (BH b))
abbrev vT a:=EE (Qf a)
abbrev dS a b:=MZ a (YD b)
abbrev fE a b:=uZ (dS a b)
abbrev VK a:=CE (Qf a)
abbrev FF a b:=Hl (dS a b)
abbrev RD a:=CL (YD a)
abbrev KT a b:=wO (dS a b)
abbrev LC a b:=(@HAppend.hAppend (List Gau) (List Gau) (List Gau) (@instHAppendOfAppend (List Gau) (@List.instAppend Gau))) (KT a b) ((@List.cons Gau) (xU (dS a b)) AYU)
abbrev Yo a b c:=CI a (LC b c)
abbrev YP a b:=tgT1 (dS a b)
abbrev ADT a b c:=JB a (YP b c)
abbrev CP a b:=TgS.t (MZ a b)
abbrev AFB a b c:=JF a (YP b c)
abbrev AJK a b c:=JL a (YP b c)
abbrev AGI a b c:=HK a (YP b c)
abbrev UF a b:=tgQ4 (dS a b)
abbrev AGY a b c:=JB a (UF b c)
abbrev LS a b:=TgS.q (MZ a b)
abbrev AHT a b c:=JF a (UF b c)
abbrev ADR a b c:=JL a (UF b c)
abbrev AJA a b c:=HK a (UF b c)
abbrev YE a b:=tgS2 (dS a b)
abbrev AGQ a b c:=JB a (YE b c)
abbrev WB a b:=TgS.s (MZ a b)
abbrev AGV a b c:=JF a (YE b c)
abbrev AJR a b c:=JL a (YE b c)
abbrev AKU a b c:=HK a (YE b c)
abbrev OM a:=AJ (gG a)
abbrev zU a b:=AAQ a (nB b)
abbrev AKF a b:=Vv (dS a b)
abbrev ATL a b:=zU (TgZ.lb a) (AKF b a)
abbrev ARK a b:=AAQ (TgZ.la a) (nA (Vv (dS b a)))
abbrev UX a b c d e f g h:=AV a (ARK b c) (ATL d e) f g h
abbrev APY a b:=(@Eq Span) (Qf a) (flV b)
abbrev ASQ a b:=Zf (dS a b)
abbrev VJ a b:=APY a (ASQ b a)
abbrev AQN a b:=(@Eq Vt) (vM a) b
abbrev VF a b:=AQN a (ASQ b a)
abbrev ASL a b:=(@Eq Span) (wL a) b
abbrev UK a b:=ASL a (bB (AKF b a))
abbrev cM a b c d e:=Z5 a b (Jr c d) (Jr c e)
abbrev Ld a b:=yV a (gG b)
abbrev ARW a b c d:=cM a (Ld (YD b) c) c (YD b) d
abbrev UP a b c:=ARW (Fx (YD a)) a b c
abbrev VI a b c d e f g h p:=FK a b (ARK c d) (ATL e f) g h p
abbrev AUB a b c:=BU (fE a b) c
abbrev cD a b c d:=AUB a b (fE c d)
abbrev AIW a b c:=CI (fE a b) c
abbrev Kv a b c d:=AIW a b (fE c d)
abbrev tZ a b:=tgB (dS a b)
abbrev AJU a b c:=AK (tZ a b) c
abbrev XO a b c d:=AJU a b (tZ c d)
abbrev P1 a b:=tgA (dS a b)
abbrev D4 a b c:=AK a (P1 b c)
abbrev ZF a b c d:=D4 (P1 a b) c d
abbrev XM a b c d:=ADT (YP a b) c d
abbrev YX a b c d:=AFB (YP a b) c d
abbrev Yg a b c d:=Fi a (YP b c) d
abbrev XT a b c d:=AGI (YP a b) c d
abbrev YJ a b c d:=AGY (UF a b) c d
abbrev ZH a b c d:=AHT (UF a b) c d
abbrev Re a b c d:=ADR (UF a b) c d
abbrev YU a b c d:=AJA (UF a b) c d
abbrev ZB a b c d:=AGQ (YE a b) c d
abbrev ZD a b c d:=AGV (YE a b) c d
abbrev Yu a b c d:=Fi a (YE b c) d
abbrev YT a b c d:=AKU (YE a b) c d
abbrev AEU a b c:=AK (FF a b) c
abbrev Zv a b c d:=AEU a b (FF c d)
abbrev AKX a b:=BC (YD a) b
abbrev YQ a b:=AKX a (YD b)
abbrev On a b:=tK (FF a b)
abbrev jW:=QW 0
abbrev Ob a(b:TgZ->Prop):=And a (uV b)
abbrev aN a b:=And (SE a) b
abbrev iL a:=flV (vM a)
abbrev kD a b c:=GI (fW a b c)
abbrev Xh a:=Fe (vM a)
abbrev kA a:=CE (Xh a)
abbrev XP a:=Gi (vM a)
abbrev iX a:=gC (vM a)
abbrev yW a:=AE (λi=>AHP i 1 a)
abbrev lK a b:=yW (FF a b)
abbrev Qd a b c:=fL (Ep (XP a)) (XP b) (Xh c)
abbrev Pq a:=CE (wL a)
abbrev tS a:=EE (wL a)
abbrev lD a:=btwV (LbS.mk (IU a) 2 0)
abbrev IN a:=tgM HU a
abbrev Xn a b c:=Yn (IN a) b c
abbrev AY a b:=nt2 (TgZ.la a) (TgZ.lb a) b
abbrev Qb a:=AY a 1
abbrev yZ a b:=Eb (OI a) b
abbrev ART a b:=Zo (dS a b)
abbrev VG a b:=APY a (ART b a)
abbrev VL a b:=AQN a (ART b a)
abbrev UW a b:=ASL a (bA (AKF b a))
abbrev Yq a b c:=CI (KT a b) c
abbrev kI a b(c:Nat->Prop):=TP a (WV AT b c)
abbrev iY a b c:=yZ a (AY b c)
abbrev IK a:=tgM UD a
abbrev Ys a b c:=Yn (IK a) b c
abbrev KZ a b:=MZ a (Gm b)
abbrev Et a b:=tgT1 (KZ a b)
abbrev Dx a b:=tgQ4 (KZ a b)
abbrev Em a b:=tgS2 (KZ a b)
abbrev Xc a b c:=LN a 0 b c
abbrev jJ a b:=AN (OI a) b
abbrev EW a b:=nA (Vv (MZ a b))
abbrev TI a b:=tgQ2 (MZ a b)
abbrev Kz a b:=fF (TI a b) 3
abbrev Ge a b:=FU (EW a b)
abbrev Zl a b c d e:=XZ a (Ge b c) d e
abbrev Nj a b:=tgH (MZ a b)
abbrev aR a b:=EL (Nj a b)
abbrev AOQ a b c d e:=LvS.mk (AOO a a) (aR b c) d e e
abbrev Q7 a b:=AOQ (CP a b) a b 0 2
abbrev Zi a b:=lvL (Q7 a b)
abbrev jU a b:=lvS (Q7 a b)
abbrev lP a b:=fF (Kz a b) 3
abbrev KG a b:=tgS2 (MZ a b)
abbrev jX a b:=Hl (MZ a b)
abbrev AEO a:=BG (Rk a)
abbrev Qx a b:=FI (aR a b)
abbrev wC a:=AEO (lvS1 a)
abbrev jR a b c:=BK a (Nj b c)
abbrev AQT a b c d:=AOQ a b c d 1
abbrev P7 a b:=AQT (LS a b) a b 0
abbrev Tt a b:=lvS (P7 a b)
abbrev S3 a b:=AQT (Tt a b) a b 2
abbrev Wy a b:=lvL (S3 a b)
abbrev aO a b:=lvL (P7 a b)
abbrev jP a b:=lvS (S3 a b)
abbrev Mk a b:=qU (WB a b) 5 300
abbrev iF a b:=qU (Mk a b) (-50) 90
abbrev VH a b c:=ARW (NT (YD a)) a b c
abbrev fK a b c d:=AJK (YP a b) c d
abbrev cB a b c d:=AJR (YE a b) c d
abbrev oY a:=EL (TgI.n a)
attribute [go_sem] Gm LG MB AAQ BHX uV YD wL vM Qf lY wO uZ AYL yJ AHI AFH nT It Eg Xr tK qG Ov tF pL AHP oW qF Lt Ll OY PM SE Yv Jr vT dS fE VK FF RD KT LC Yo YP ADT CP AFB AJK AGI UF AGY LS AHT ADR AJA YE AGQ WB AGV AJR AKU OM zU AKF ATL ARK UX APY ASQ VJ AQN VF ASL UK cM Ld ARW UP VI AUB cD AIW Kv tZ AJU XO P1 D4 ZF XM YX Yg XT YJ ZH Re YU ZB ZD Yu YT AEU Zv AKX YQ On jW Ob aN iL kD Xh kA XP iX yW lK Qd Pq tS lD IN Xn AY Qb yZ ART VG VL UW Yq kI iY IK Ys KZ Et Dx Em Xc jJ EW TI Kz Ge Zl Nj aR AOQ Q7 Zi jU lP KG jX AEO Qx wC jR AQT P7 Tt S3 Wy aO jP Mk iF VH fK cB oY
theorem CTW(x:TgI):(V_Tg x)=(AG (AV (HJ (TgI.n x)) (GX (TgI.n x)) (HJ (TgI.e x)) (GX (TgI.e x)) (HJ (TgI.m x)) (GX (TgI.m x))) (SI (JO 1 (FD 1) 6 (FD 6) (Qv (HJ (oY x)) (GX (oY x)) (AJ 0) (Int.NonNeg (No 0 0)))) (CG (λi=>AG (AG (SE x) AM (KS CK AM (AK (gG x) (mH (yK (EL (oY x)) 0 0) 1 6)) (AI (BD i) (HK (WB x i) (mE (yK (EL (oY x)) 0 0) 1 6)) (JL (WB x i) (mE (yK (EL (oY x)) 0 0) 1 6)) (JF (WB x i) (mE (yK (EL (oY x)) 0 0) 1 6)) (VD (JB (WB x i) (mE (yK (EL (oY x)) 0 0) 1 6)) (sW (LS x i) (JR (TgI.e x))) (λj=>tU j (LS x i) (EL (TgI.e x))) (Yy (LS x i) 0) (Wr (LS x i) 0) (sW (CP x i) (JR (TgI.m x))) (AE (λj=>tU j (CP x i) (EL (TgI.m x)))) (Yy (CP x i) 0) (Wr (CP x i) 0))))) (NT i) (DC (BH i) (gG x)))) (λi=>MD (And (NT i) (DC (BH i) (gG x))) (HX i (gG x)) (WV (JO 5 (FD 5) 300 (FD 300) (AI (WR (WB x i)) (Gd (WB x i)) (XC (WB x i)) (XD (WB x i)) (Tl (WB x i)))) (And (JO (-50) (wQ 49) 90 (FD 90) (AI (WR (Mk x i)) (Gd (Mk x i)) (XC (Mk x i)) (XD (Mk x i)) (Tl (Mk x i)))) (CG (λj=>AQ (AG (SE x) AM (KS CK AM (OM x) (AS (BC j i) (AK (jX x j) (mH (gL (WB x i)) 5 300)) (GM (Nj x j) 3) (VR 3) (AE (λk=>Ja k (Nj x j) k (SD k 0 (Fq k (mH (gL (Mk x i)) (-50) 90) (Se (mH (gL (WB x i)) 5 300)))))) (HK (KG x j) (iF x i)) (JL (KG x j) (iF x i)) (JF (KG x j) (iF x i)) (AS (JB (KG x j) (iF x i)) (HK (LS x j) (LS x i)) (JL (LS x j) (LS x i)) (JF (LS x j) (LS x i)) (JB (LS x j) (LS x i)) (HK (CP x j) (CP x i)) (JL (CP x j) (CP x i)) (JF (CP x j) (CP x i)) (JB (CP x j) (CP x i)))))) (NT j) (Ld j x) (AN (Jr x j) (Jr x i))))) (λj=>BA (cM (NT j) (Ld j x) x j i) (EX (And (AG (jR (aR x j) x j) (BQ (aR x j) (Nj x j)) (YG fB (JN 1 1) (WR (LS x j)) (LP (λk=>IA k (sG (LS x j)) (cG (LS x j))) (XC (LS x j)) (XD (LS x j)) (AQ (EB (Rk (LS x j)) (wC (P7 x j))) (IC (Qx x j)) kN (DR 1 (Qx x j))) (jR (aR x j) x j) (BQ (aR x j) (Nj x j)) (JN 2 2) (JN 1 1) (AS (JN 1 1) (WR (Tt x j)) (Gd (Tt x j)) (XC (Tt x j)) (XD (Tt x j)) (EB (Rk (Tt x j)) (wC (S3 x j))) (DT 2 (Qx x j)) kN (DR 1 (Qx x j)))))) (CG (λk=>AQ (aN x (Gz AM CK (FE (OM x) (BC k j) (jX x k) (jX x j) (jR (Nj x k) x j) (FA (λl=>IA l (Nj x k) (Nj x j)) (HK (KG x k) (KG x j)) (JL (KG x k) (KG x j)) (JF (KG x k) (KG x j)) (JB (KG x k) (KG x j)) (HK (TI x k) (jP x j)) (λl=>Fi l (TI x k) (jP x j)) (JF (TI x k) (jP x j)) (JQ (JB (TI x k) (jP x j)) (HK (CP x k) (CP x j)) (JL (CP x k) (CP x j)) (JF (CP x k) (CP x j)) (JB (CP x k) (CP x j)) AT (jJ (EW x k) 2) By (λl=>FV l (EW x k) (LN (IV (EW x k) l) l (TC (aO x j)) (TC (Wy x j))) (LN (EN (EW x k) l) l (TE (aO x j)) (TE (Wy x j))) (LN (FL (EW x k) l) l (ZM (aO x j)) (ZM (Wy x j))) (LN (JX (EW x k) l) l (ZJ (aO x j)) (ZJ (Wy x j))) (LN (JV (EW x k) l) l (ZL (aO x j)) (ZL (Wy x j))))))))) (NT k) (Ld k x) (AN (Jr x k) (Jr x i))))) (λk=>BA (cM (NT k) (Ld k x) x k i) (AQ (Gb (FM (EW x k)) (λl=>IP l (EW x k) l l l l l) (HW (Ge x k)) (CV (Ge x k) 30)) (AG (jR (aR x k) x k) (BQ (aR x k) (Nj x k)) (YG fB (JN 2 2) (WR (CP x k)) (LP (λl=>IA l (sG (CP x k)) (cG (CP x k))) (XC (CP x k)) (XD (CP x k)) (AQ (EB (Rk (CP x k)) (wC (Q7 x k))) (IC (Qx x k)) (BG 2) (DR 2 (Qx x k))) (Lj (Ge x k) 5) (UY 5) JE (CV (CL (Ge x k)) 9223372036854775807) (LO (SK (Ge x k) 40))))) (And (AQ (JN 3 3) (WR (TI x k)) (Gd (TI x k)) (AS (XC (TI x k)) (XD (TI x k)) (AEO (TI x k)) (JN 3 3) (WR (Kz x k)) (Gd (Kz x k)) (XC (Kz x k)) (XD (Kz x k)) (Tl (Kz x k)))) ((@Exists Tg11) (λl=>AQ (jN (SE x) (LP RX (OM x) (BC (Gm l) k) (AK (Hl (KZ x l)) (jX x k)) (HK (Em x l) (KG x k)) (JL (Em x l) (KG x k)) (JF (Em x l) (KG x k)) (JB (Em x l) (KG x k)) (AS (HK (Dx x l) (lP x k)) (JL (Dx x l) (lP x k)) (JF (Dx x l) (lP x k)) (JB (Dx x l) (lP x k)) (HK (Et x l) (jU x k)) (JL (Et x l) (jU x k)) (JF (Et x l) (jU x k)) (JB (Et x l) (jU x k)) (vD AT (yZ (LG l) (EW x k)) (AE (λm=>FV m (LG l) (Ie (LG l) m (EW x k) m) (Js (LG l) m (EW x k) m) (Jo (LG l) m (EW x k) m) (Jd (LG l) m (EW x k) m) (Ij (LG l) m (EW x k) m))) (FQ (jJ (MB l) (CL (Ge x k))) (Ou (CL (Ge x k))) (λm=>GY m (MB l) (AK (IV (MB l) m) (Zl m x k (TC (HB (EW x k) (AP m))) (TC (Zi x k)))) (AK (EN (MB l) m) (Zl m x k (TE (HB (EW x k) (AP m))) (TE (Zi x k)))) m (Zl m x k (KJ (EW x k) (AP m)) (ZM (Zi x k))) (NG (MB l) m (Zl m x k (UL (EW x k) (AP m)) (ZJ (Zi x k)))) (NR (MB l) m (Zl m x k (VC (EW x k) (AP m)) (ZL (Zi x k))))) (AK (tgA (KZ x l)) (IR 10 (kK (TI x k) 3))) (AK (tgB (KZ x l)) (DK 10 (kK (Kz x k) 3)))))))) (cM (NT (Gm l)) (Ld (Gm l) x) x (Gm l) i) (AAQ (LG l) (EW x (Gm l))) (zU (MB l) (Vv (KZ x l)))))) (BHX (λl=>Yv (AG (cM (NT (Gm l)) (Ld (Gm l) x) x (Gm l) i) (AAQ (LG l) (EW x (Gm l))) (zU (MB l) (Vv (KZ x l)))) (Ob (As Oj (AP 0) 2) (λm=>VI (AG (SE x) AM (KS CK AM (OM x) (AI (AKX m (Gm l)) (AEU x m (Hl (KZ x l))) CO By (Nz (AE (λn=>TP n (HC 3 (SD n 3 3) (jJ (AY m n) (hJ (Qk n) (OI (LG l)) (OI (MB l)))) (AE (λu=>FV u (AY m n) (LN (IV (AY m n) u) n (IV (LG l) u) (IV (MB l) u)) (LN (EN (AY m n) u) n (EN (LG l) u) (EN (MB l) u)) (LN (FL (AY m n) u) n (FL (LG l) u) (FL (MB l) u)) (LN (JX (AY m n) u) n (JX (LG l) u) (JX (MB l) u)) (LN (JV (AY m n) u) n (JV (LG l) u) (JV (MB l) u))))))) BL (VD AT (jJ (IK m) (hJ (Qk 0) (OI (LG l)) (OI (MB l)))) (λn=>FV n (IK m) (Xc (IV (IK m) n) (IV (LG l) n) (IV (MB l) n)) (Xc (EN (IK m) n) (EN (LG l) n) (EN (MB l) n)) (Xc (FL (IK m) n) (FL (LG l) n) (FL (MB l) n)) (Xc (JX (IK m) n) (JX (LG l) n) (JX (MB l) n)) (Xc (JV (IK m) n) (JV (LG l) n) (JV (MB l) n))) (HK (YE x m) (Em x l)) (JL (YE x m) (Em x l)) (JF (YE x m) (Em x l)) (JB (YE x m) (Em x l)) (HK (UF x m) (Dx x l)) (LP (λn=>Fi n (UF x m) (Dx x l)) (JF (UF x m) (Dx x l)) (JB (UF x m) (Dx x l)) (HK (YP x m) (Et x l)) (JL (YP x m) (Et x l)) (JF (YP x m) (Et x l)) (JB (YP x m) (Et x l)) (AK (P1 x m) (tgA (KZ x l))) (AJU x m (tgB (KZ x l))))))))) (VH m x i) m x m x (UW m x) (VL m x) (VG m x))) (λm=>Yv (UX (VH m x i) m x m x (UW m x) (VL m x) (VG m x)) (Ob (VD AT (FM (IK m)) (λn=>IP n (IK m) n n n n n) (GJ 2 Xw) (GJ 0 Vd) (CJ (FU (IK m)) 30 (Bp (IK m))) (EX (AE (λn=>Yt n (Ys m n n))) (λn=>Xj n (λw v u=>QP w (AO v (FU (IK m)) (BA (Ih (lsM (HB (IK m) v) u) w) (Xy (Ys m n w) (Yp (Zc (Ys m n w) (sE (HB (IK m) v) u)) (Ys m n (Mr (HB (IK m) v) u))))))))) (Xd 2 (HW 3)) (ZG (AK (Ys m 2 0) JZ))) (λn=>VI (aN x (Gz AM CK (FE (OM x) (YQ n m) (FF x n) (FF x m) CO (Nz (AE (λu=>kI u (iY (AY n u) m u) (λv=>FV v (AY n u) (Ie (AY n u) v (AY m u) v) (Js (AY n u) v (AY m u) v) (Jo (AY n u) v (AY m u) v) (Jd (AY n u) v (AY m u) v) (Ij (AY n u) v (AY m u) v)))) BL (AS AL (AK (Pq n) (CE (lD (IK m)))) (XS (wL n) (lD (IK m))) (YT x n x m) (cB x n x m) (ZD x n x m) (ZB x n x m) (YU x n x m) (LP (λu=>Fi u (UF x n) (UF x m)) (ZH x n x m) (YJ x n x m) (XT x n x m) (fK x n x m) (YX x n x m) (XM x n x m) (ZF x n x m) (XO x n x m))))))) (VH n x i) n x n x (UW n x) (VL n x) (VG n x))) (λn=>MD (UX (VH n x i) n x n x (UW n x) (VL n x) (VG n x)) (Jb jW (aD (Pq n) (FF x n)) (NX (tS n) (FF x n))) Xr (And (uV (λu=>VI (aN x (Gz AM CK (FE (OM x) (YQ u n) (FF x u) (FF x n) CO (Nz (AE (λv=>kI v (iY (AY u v) n v) (λw=>FV w (AY u v) (Ie (AY u v) w (AY n v) w) (Js (AY u v) w (AY n v) w) (Jo (AY u v) w (AY n v) w) (Jd (AY u v) w (AY n v) w) (Ij (AY u v) w (AY n v) w)))) BL (YR AL BZ AM (YR AZ (AE (λv=>LF v 1 ED (Jj (XP u) (sD 0 (Pq n))) (XS (XP u) (wL n)) (D4 (kA u) x n) (SR (Xh u) (tZ x n)))) (YT x u x n) (AI (cB x u x n) (ZD x u x n) (ZB x u x n) (YU x u x n) (LP (λv=>Fi v (UF x u) (UF x n)) (ZH x u x n) (YJ x u x n) (XT x u x n) (fK x u x n) (YX x u x n) (XM x u x n) (ZF x u x n) (XO x u x n))))))))) (VH u x i) u x u x (UW u x) (VL u x) (VG u x))) (lY (λu=>BA (UX (VH u x i) u x u x (UW u x) (VL u x) (VG u x)) (AG (AI AL BZ AM AZ (Gz AZ (Qd u u u) (iX u))) (Ob (CM AL (FD 10) (Gz AM AZ (YG AM AZ (Qd u u u) (KS AZ (lK x u) (AE (λv=>AO v 1 (JN 10 10))) (KS AZ (Qd u u u) (lK x u) (AI AZ (yW 10) (iX u) (kD (FF x u) (CE (XP u)) (XP u)) (kD 10 (kA u) (Xh u)))))))) (λv=>VI (AQ (SE x) AM CK (AS AM CK (OM x) (YQ v u) (Zv x v x u) CO (AE (λw=>kI w (iY (AY v w) u w) (λy=>FV y (AY v w) (Ie (AY v w) y (AY u w) y) (Js (AY v w) y (AY u w) y) (Jo (AY v w) y (AY u w) y) (Jd (AY v w) y (AY u w) y) (Ij (AY v w) y (AY u w) y)))) BL (AMC AL (AK (On x v) (reV (ReS.mk (vM u) (FF x u) 10))) (AS AL (AK (VK v) (CE (iL u))) (XS (Qf v) (iL u)) (YT x v x u) (cB x v x u) (ZD x v x u) (ZB x v x u) (YU x v x u) (LP (λw=>Fi w (UF x v) (UF x u)) (ZH x v x u) (YJ x v x u) (XT x v x u) (fK x v x u) (YX x v x u) (XM x v x u) (ZF x v x u) (XO x v x u)))))) (VH v x i) v x v x (UW v x) (VL v x) (VG v x))) (lY (λv=>Yv (UX (VH v x i) v x v x (UW v x) (VL v x) (VG v x)) (EZ (Jb (yQ jW HU) (cI (On x v) (JA 100 (FF x v))) (not (fW (On x v) (VK v) (Qf v)))) Xr (uV (λw=>VI (jN (SE x) (LP RX (OM x) (YQ w v) (Zv x w x v) CO (AE (λy=>kI y (iY (AY w y) v y) (λz=>FV z (AY w y) (Ie (AY w y) z (AY v y) z) (Js (AY w y) z (AY v y) z) (Jo (AY w y) z (AY v y) z) (Jd (AY w y) z (AY v y) z) (Ij (AY w y) z (AY v y) z)))) BL AL (AS AL (AK (VK w) (VK v)) (XS (Qf w) (Qf v)) (YT x w x v) (cB x w x v) (ZD x w x v) (ZB x w x v) (YU x w x v) (LP (λy=>Fi y (UF x w) (UF x v)) (ZH x w x v) (YJ x w x v) (XT x w x v) (fK x w x v) (YX x w x v) (XM x w x v) (ZF x w x v) (XO x w x v))))) (VH w x i) w x w x (UW w x) (VL w x) (VG w x)))) (λw=>BA (UX (VH w x i) w x w x (UW w x) (VL w x) (VG w x)) (AG (Cj 3 3 GV 1 24) (Ob Qc (λy=>VI (aN x (Fv (AN (RD y) 1) CK (FE (OM x) (YQ y w) (FF x y) (FF x w) BL (YR (UB 1 oA) AT (yZ (IN y) (Qb w)) (FA (λz=>FV z (IN y) (Ie (IN y) z (Qb w) z) (Js (IN y) z (Qb w) z) (Jo (IN y) z (Qb w) z) (Jd (IN y) z (Qb w) z) (Ij (IN y) z (Qb w) z)) (YT x y x w) (cB x y x w) (ZD x y x w) (ZB x y x w) (YU x y x w) (λz=>Fi z (UF x y) (UF x w)) (ZH x y x w) (JQ (YJ x y x w) (XT x y x w) (fK x y x w) (YX x y x w) (XM x y x w) (ZF x y x w) (XO x y x w) (JI (LC x y) 1) (λz=>DV z (LC x y) (FF x w) (VK w) (vT w)))))))) (VH y x i) y x y x (UK y x) (VF y x) (VJ y x))) (lY (λy=>Yv (UX (VH y x i) y x y x (UK y x) (VF y x) (VJ y x)) (Ob (VD AT (FM (IN y)) (λz=>IP z (IN y) z z z z z) (GJ 2 Xw) (GJ 0 Vd) (CJ (FU (IN y)) 30 (Bp (IN y))) (EX (AE (λz=>Yt z (Xn y z z))) (λz=>Xj z (λk1 j1 i1=>QP k1 (AO j1 (FU (IN y)) (BA (Ih (lsM (HB (IN y) j1) i1) k1) (Xy (Xn y z k1) (Yp (Zc (Xn y z k1) (sE (HB (IN y) j1) i1)) (Xn y z (Mr (HB (IN y) j1) i1))))))))) (Xd 2 (HW 3)) (ZG (AK (Xn y 2 0) JZ))) (λz=>VI (aN x (Fv (AN (RD z) (RD y)) CK (FE (OM x) (YQ z y) (FF x z) (FF x y) BL (YR XL AL (AK (Pq z) (CE (lD (IN y)))) (AS (XS (wL z) (lD (IN y))) (YT x z x y) (cB x z x y) (ZD x z x y) (ZB x z x y) (YU x z x y) (Re x z x y) (ZH x z x y) (AS (YJ x z x y) (XT x z x y) (fK x z x y) (YX x z x y) (XM x z x y) (ZF x z x y) (XO x z x y) (Yo (LC x z) x y) (BU (LC x z) (LC x y)))))))) (VH z x i) z x z x (UK z x) (VF z x) (VJ z x))) (λz=>MD (UX (VH z x i) z x z x (UK z x) (VF z x) (VJ z x)) (Jb jW (aD (Pq z) (FF x z)) (NX (tS z) (FF x z))) Xr (And (uV (λi1=>VI (aN x (Fv (AN (RD i1) (RD z)) CK (FE (OM x) (YQ i1 z) (FF x i1) (FF x z) BL (AKN XL AL (Sf BZ AZ (FA (λj1=>LF j1 1 ED (Jj (XP i1) (sD 0 (Pq z))) (XS (XP i1) (wL z)) (D4 (kA i1) x z) (SR (Xh i1) (tZ x z))) (YT x i1 x z) (cB x i1 x z) (ZD x i1 x z) (ZB x i1 x z) (YU x i1 x z) (λj1=>Fi j1 (UF x i1) (UF x z)) (ZH x i1 x z) (AS (YJ x i1 x z) (XT x i1 x z) (fK x i1 x z) (YX x i1 x z) (XM x i1 x z) (ZF x i1 x z) (XO x i1 x z) (Yo (LC x i1) x z) (BU (LC x i1) (LC x z))))))))) (VH i1 x i) i1 x i1 x (UK i1 x) (VF i1 x) (VJ i1 x))) (lY (λi1=>BA (UX (VH i1 x i) i1 x i1 x (UK i1 x) (VF i1 x) (VJ i1 x)) (AG (AI AL BZ AM AZ (Gz AZ (Qd i1 i1 i1) (iX i1))) (Ob (CM AL (FD 10) (Gz AM AZ (YG AM AZ (Qd i1 i1 i1) (KS AZ (lK x i1) (AE (λj1=>AO j1 1 (JN 10 10))) (KS AZ (Qd i1 i1 i1) (lK x i1) (AI AZ (yW 10) (iX i1) (kD (FF x i1) (CE (XP i1)) (XP i1)) (kD 10 (kA i1) (Xh i1)))))))) (λj1=>VI (PF (SE x) AM (RD j1) (RD i1) (AI AM CK (OM x) (YQ j1 i1) (Qv (Zv x j1 x i1) BL XL (KS AL (AK (On x j1) (reV (ReS.mk (vM i1) (FF x i1) 10))) (AK (VK j1) (CE (iL i1))) (AS (XS (Qf j1) (iL i1)) (YT x j1 x i1) (cB x j1 x i1) (ZD x j1 x i1) (ZB x j1 x i1) (YU x j1 x i1) (Re x j1 x i1) (ZH x j1 x i1) (AS (YJ x j1 x i1) (XT x j1 x i1) (fK x j1 x i1) (YX x j1 x i1) (XM x j1 x i1) (ZF x j1 x i1) (XO x j1 x i1) (Yo (LC x j1) x i1) (BU (LC x j1) (LC x i1)))))))) (VH j1 x i) j1 x j1 x (UK j1 x) (VF j1 x) (VJ j1 x))) (lY (λj1=>Yv (UX (VH j1 x i) j1 x j1 x (UK j1 x) (VF j1 x) (VJ j1 x)) (EZ (Jb (yQ jW HU) (cI (On x j1) (JA 100 (FF x j1))) (not (fW (On x j1) (VK j1) (Qf j1)))) Xr (uV (λk1=>VI (D2 (SE x) (AN (RD k1) (RD j1)) (Dk CK (gG x) (YQ k1 j1) (Zv x k1 x j1) (YG BL XL (AK (VK k1) (VK j1)) (AS (XS (Qf k1) (Qf j1)) (YT x k1 x j1) (cB x k1 x j1) (ZD x k1 x j1) (ZB x k1 x j1) (YU x k1 x j1) (Re x k1 x j1) (ZH x k1 x j1) (AS (YJ x k1 x j1) (XT x k1 x j1) (fK x k1 x j1) (YX x k1 x j1) (XM x k1 x j1) (ZF x k1 x j1) (XO x k1 x j1) (Yo (LC x k1) x j1) (BU (LC x k1) (LC x j1))))))) (VH k1 x i) k1 x k1 x (UK k1 x) (VF k1 x) (VJ k1 x)))) (λk1=>TO (UX (VH k1 x i) k1 x k1 x (UK k1 x) (VF k1 x) (VJ k1 x)) (Cj 3 3 GV 1 24) (CG (λl1=>EV (FK (SE x) AM (JI (PM x l1) (RD k1)) AM (JI (OY x l1) 1) (OM x) (AS (AU l1 (YD k1)) (AKU (WB x l1) x k1) (AJR (WB x l1) x k1) (AGV (WB x l1) x k1) (AGQ (WB x l1) x k1) (AJA (LS x l1) x k1) (ADR (LS x l1) x k1) (AHT (LS x l1) x k1) (JQ (AGY (LS x l1) x k1) (AGI (CP x l1) x k1) (AJK (CP x l1) x k1) (AFB (CP x l1) x k1) (ADT (CP x l1) x k1) (Yo (PM x l1) x k1) (BU (PM x l1) (LC x k1)) (JI (OY x l1) 1) (λm1=>DV m1 (OY x l1) (FF x k1) (VK k1) (vT k1))))) (And (Fx l1) (DC (BH l1) (gG x))) (Jr x l1) (Jr x i)))))))))))))))))))))))))))))) (NM (AOB (SE x) (Tc (Ll x)) (Tc (Lt x))))) (AE (λi=>MD (And (Fx i) (DC (BH i) (gG x))) (HX i (gG x)) (WV (JO 5 (FD 5) 300 (FD 300) (AI (WR (WB x i)) (Gd (WB x i)) (XC (WB x i)) (XD (WB x i)) (Tl (WB x i)))) (And (JO (-50) (wQ 49) 90 (FD 90) (AI (WR (Mk x i)) (Gd (Mk x i)) (XC (Mk x i)) (XD (Mk x i)) (Tl (Mk x i)))) (CG (λj=>AQ (AG (SE x) AM (AS (CI (PM x j) (PM x i)) AM (CI (OY x j) (OY x i)) (OM x) (BC j i) (AK (jX x j) (mH (gL (WB x i)) 5 300)) (GM (Nj x j) 3) (VR 3) (FA (λk=>Ja k (Nj x j) k (SD k 0 (Fq k (mH (gL (Mk x i)) (-50) 90) (Se (mH (gL (WB x i)) 5 300))))) (HK (KG x j) (iF x i)) (JL (KG x j) (iF x i)) (JF (KG x j) (iF x i)) (JB (KG x j) (iF x i)) (HK (LS x j) (LS x i)) (λk=>Fi k (LS x j) (LS x i)) (JF (LS x j) (LS x i)) (AS (JB (LS x j) (LS x i)) (HK (CP x j) (CP x i)) (JL (CP x j) (CP x i)) (JF (CP x j) (CP x i)) (JB (CP x j) (CP x i)) (CI (PM x j) (PM x i)) (BU (PM x j) (PM x i)) (CI (OY x j) (OY x i)) (BU (OY x j) (OY x i)))))) (Fx j) (Ld j x) (AN (Jr x j) (Jr x i))))) (λj=>BA (cM (Fx j) (Ld j x) x j i) (EX (And (AG (jR (aR x j) x j) (BQ (aR x j) (Nj x j)) (YG fB (JN 1 1) (WR (LS x j)) (LP (λk=>IA k (sG (LS x j)) (cG (LS x j))) (XC (LS x j)) (XD (LS x j)) (AQ (EB (Rk (LS x j)) (wC (P7 x j))) (IC (Qx x j)) kN (DR 1 (Qx x j))) (jR (aR x j) x j) (BQ (aR x j) (Nj x j)) (JN 2 2) (JN 1 1) (AS (JN 1 1) (WR (Tt x j)) (Gd (Tt x j)) (XC (Tt x j)) (XD (Tt x j)) (EB (Rk (Tt x j)) (wC (S3 x j))) (DT 2 (Qx x j)) kN (DR 1 (Qx x j)))))) (CG (λk=>AQ (aN x (Fv (CI (PM x k) (PM x j)) (CI (OY x k) (OY x j)) (AS (OM x) (BC k j) (AK (jX x k) (jX x j)) (jR (Nj x k) x j) (BQ (Nj x k) (Nj x j)) (HK (KG x k) (KG x j)) (JL (KG x k) (KG x j)) (JF (KG x k) (KG x j)) (AS (JB (KG x k) (KG x j)) (HK (TI x k) (jP x j)) (JL (TI x k) (jP x j)) (JF (TI x k) (jP x j)) (JB (TI x k) (jP x j)) (HK (CP x k) (CP x j)) (JL (CP x k) (CP x j)) (JF (CP x k) (CP x j)) (AS (JB (CP x k) (CP x j)) AT (jJ (EW x k) 2) By (AE (λl=>FV l (EW x k) (LN (IV (EW x k) l) l (TC (aO x j)) (TC (Wy x j))) (LN (EN (EW x k) l) l (TE (aO x j)) (TE (Wy x j))) (LN (FL (EW x k) l) l (ZM (aO x j)) (ZM (Wy x j))) (LN (JX (EW x k) l) l (ZJ (aO x j)) (ZJ (Wy x j))) (LN (JV (EW x k) l) l (ZL (aO x j)) (ZL (Wy x j))))) (CI (PM x k) (PM x j)) (BU (PM x k) (PM x j)) (CI (OY x k) (OY x j)) (BU (OY x k) (OY x j))))))) (Fx k) (Ld k x) (AN (Jr x k) (Jr x i))))) (λk=>BA (cM (Fx k) (Ld k x) x k i) (AQ (Gb (FM (EW x k)) (λl=>IP l (EW x k) l l l l l) (HW (Ge x k)) (CV (Ge x k) 30)) (AG (jR (aR x k) x k) (BQ (aR x k) (Nj x k)) (YG fB (JN 2 2) (WR (CP x k)) (LP (λl=>IA l (sG (CP x k)) (cG (CP x k))) (XC (CP x k)) (XD (CP x k)) (AQ (EB (Rk (CP x k)) (wC (Q7 x k))) (IC (Qx x k)) (BG 2) (DR 2 (Qx x k))) (Lj (Ge x k) 5) (UY 5) JE (CV (CL (Ge x k)) 9223372036854775807) (LO (SK (Ge x k) 40))))) (And (AQ (JN 3 3) (WR (TI x k)) (Gd (TI x k)) (AS (XC (TI x k)) (XD (TI x k)) (AEO (TI x k)) (JN 3 3) (WR (Kz x k)) (Gd (Kz x k)) (XC (Kz x k)) (XD (Kz x k)) (Tl (Kz x k)))) ((@Exists Tg11) (λl=>AQ (D2 (SE x) (CI (wO (KZ x l)) (PM x k)) (AS (CI (uZ (KZ x l)) (OY x k)) (OM x) (BC (Gm l) k) (AK (Hl (KZ x l)) (jX x k)) (HK (Em x l) (KG x k)) (JL (Em x l) (KG x k)) (JF (Em x l) (KG x k)) (JB (Em x l) (KG x k)) (AS (HK (Dx x l) (lP x k)) (JL (Dx x l) (lP x k)) (JF (Dx x l) (lP x k)) (JB (Dx x l) (lP x k)) (HK (Et x l) (jU x k)) (JL (Et x l) (jU x k)) (JF (Et x l) (jU x k)) (JB (Et x l) (jU x k)) (vD AT (yZ (LG l) (EW x k)) (AE (λm=>FV m (LG l) (Ie (LG l) m (EW x k) m) (Js (LG l) m (EW x k) m) (Jo (LG l) m (EW x k) m) (Jd (LG l) m (EW x k) m) (Ij (LG l) m (EW x k) m))) (VD (jJ (MB l) (CL (Ge x k))) (Ou (CL (Ge x k))) (λm=>GY m (MB l) (AK (IV (MB l) m) (Zl m x k (TC (HB (EW x k) (AP m))) (TC (Zi x k)))) (AK (EN (MB l) m) (Zl m x k (TE (HB (EW x k) (AP m))) (TE (Zi x k)))) m (Zl m x k (KJ (EW x k) (AP m)) (ZM (Zi x k))) (NG (MB l) m (Zl m x k (UL (EW x k) (AP m)) (ZJ (Zi x k)))) (NR (MB l) m (Zl m x k (VC (EW x k) (AP m)) (ZL (Zi x k))))) (AK (tgA (KZ x l)) (IR 10 (kK (TI x k) 3))) (AK (tgB (KZ x l)) (DK 10 (kK (Kz x k) 3))) (CI (wO (KZ x l)) (PM x k)) (BU (wO (KZ x l)) (PM x k)) (CI (uZ (KZ x l)) (OY x k)) (BU (uZ (KZ x l)) (OY x k))))))) (cM (Fx (Gm l)) (Ld (Gm l) x) x (Gm l) i) (AAQ (LG l) (EW x (Gm l))) (zU (MB l) (Vv (KZ x l)))))) (BHX (λl=>Yv (AG (cM (Fx (Gm l)) (Ld (Gm l) x) x (Gm l) i) (AAQ (LG l) (EW x (Gm l))) (zU (MB l) (Vv (KZ x l)))) (Ob (As Oj (AP 0) 2) (λm=>VI (AG (SE x) AM (AS (Yq x m (wO (KZ x l))) AM (AIW x m (uZ (KZ x l))) (OM x) (AKX m (Gm l)) (AEU x m (Hl (KZ x l))) CO By (Nz (AE (λn=>TP n (HC 3 (SD n 3 3) (jJ (AY m n) (hJ (Qk n) (OI (LG l)) (OI (MB l)))) (AE (λu=>FV u (AY m n) (LN (IV (AY m n) u) n (IV (LG l) u) (IV (MB l) u)) (LN (EN (AY m n) u) n (EN (LG l) u) (EN (MB l) u)) (LN (FL (AY m n) u) n (FL (LG l) u) (FL (MB l) u)) (LN (JX (AY m n) u) n (JX (LG l) u) (JX (MB l) u)) (LN (JV (AY m n) u) n (JV (LG l) u) (JV (MB l) u))))))) BL (Gb (jJ (IK m) (hJ (Qk 0) (OI (LG l)) (OI (MB l)))) (λn=>FV n (IK m) (Xc (IV (IK m) n) (IV (LG l) n) (IV (MB l) n)) (Xc (EN (IK m) n) (EN (LG l) n) (EN (MB l) n)) (Xc (FL (IK m) n) (FL (LG l) n) (FL (MB l) n)) (Xc (JX (IK m) n) (JX (LG l) n) (JX (MB l) n)) (Xc (JV (IK m) n) (JV (LG l) n) (JV (MB l) n))) (HK (YE x m) (Em x l)) (LP (λn=>Yu n x m (Em x l)) (JF (YE x m) (Em x l)) (JB (YE x m) (Em x l)) (HK (UF x m) (Dx x l)) (JL (UF x m) (Dx x l)) (JF (UF x m) (Dx x l)) (JB (UF x m) (Dx x l)) (HK (YP x m) (Et x l)) (FA (λn=>Yg n x m (Et x l)) (JF (YP x m) (Et x l)) (JB (YP x m) (Et x l)) (AK (P1 x m) (tgA (KZ x l))) (AJU x m (tgB (KZ x l))) (Yq x m (wO (KZ x l))) (λn=>EF n (KT x m) (wO (KZ x l))) (AIW x m (uZ (KZ x l))) (AUB x m (uZ (KZ x l))))))))) (UP m x i) m x m x (UW m x) (VL m x) (VG m x))) (λm=>Yv (UX (UP m x i) m x m x (UW m x) (VL m x) (VG m x)) (Ob (VD AT (FM (IK m)) (λn=>IP n (IK m) n n n n n) (GJ 2 Xw) (GJ 0 Vd) (CJ (FU (IK m)) 30 (Bp (IK m))) (EX (AE (λn=>Yt n (Ys m n n))) (λn=>Xj n (λw v u=>QP w (AO v (FU (IK m)) (BA (Ih (lsM (HB (IK m) v) u) w) (Xy (Ys m n w) (Yp (Zc (Ys m n w) (sE (HB (IK m) v) u)) (Ys m n (Mr (HB (IK m) v) u))))))))) (Xd 2 (HW 3)) (ZG (AK (Ys m 2 0) JZ))) (λn=>VI (aN x (Fv (Yq x n (KT x m)) (Kv x n x m) (FE (OM x) (YQ n m) (FF x n) (FF x m) CO (Nz (AE (λu=>kI u (iY (AY n u) m u) (λv=>FV v (AY n u) (Ie (AY n u) v (AY m u) v) (Js (AY n u) v (AY m u) v) (Jo (AY n u) v (AY m u) v) (Jd (AY n u) v (AY m u) v) (Ij (AY n u) v (AY m u) v)))) BL (OR AL (Pq n) (CE (lD (IK m))) (tS n) (EE (lD (IK m))) (YT x n x m) (LP (λu=>Yu u x n (YE x m)) (ZD x n x m) (ZB x n x m) (YU x n x m) (Re x n x m) (ZH x n x m) (YJ x n x m) (XT x n x m) (FA (λu=>Yg u x n (YP x m)) (YX x n x m) (XM x n x m) (ZF x n x m) (XO x n x m) (Yq x n (KT x m)) (λu=>EF u (KT x n) (KT x m)) (Kv x n x m) (cD x n x m)))))))) (UP n x i) n x n x (UW n x) (VL n x) (VG n x))) (λn=>MD (UX (UP n x i) n x n x (UW n x) (VL n x) (VG n x)) (Jb jW (aD (Pq n) (FF x n)) (NX (tS n) (FF x n))) Xr (And (uV (λu=>VI (aN x (Fv (Yq x u (KT x n)) (Kv x u x n) (FE (OM x) (YQ u n) (FF x u) (FF x n) CO (Nz (AE (λv=>kI v (iY (AY u v) n v) (λw=>FV w (AY u v) (Ie (AY u v) w (AY n v) w) (Js (AY u v) w (AY n v) w) (Jo (AY u v) w (AY n v) w) (Jd (AY u v) w (AY n v) w) (Ij (AY u v) w (AY n v) w)))) BL (YR AL BZ AM (YR AZ (AE (λv=>LF v 1 ED (Jj (XP u) (sD 0 (Pq n))) (XS (XP u) (wL n)) (D4 (kA u) x n) (SR (Xh u) (tZ x n)))) (YT x u x n) (LP (λv=>Yu v x u (YE x n)) (ZD x u x n) (ZB x u x n) (YU x u x n) (Re x u x n) (ZH x u x n) (YJ x u x n) (XT x u x n) (FA (λv=>Yg v x u (YP x n)) (YX x u x n) (XM x u x n) (ZF x u x n) (XO x u x n) (Yq x u (KT x n)) (λv=>EF v (KT x u) (KT x n)) (Kv x u x n) (cD x u x n))))))))) (UP u x i) u x u x (UW u x) (VL u x) (VG u x))) (lY (λu=>BA (UX (UP u x i) u x u x (UW u x) (VL u x) (VG u x)) (AG (AI AL BZ AM AZ (Gz AZ (Qd u u u) (iX u))) (Ob (CM AL (FD 10) (Gz AM AZ (YG AM AZ (Qd u u u) (KS AZ (lK x u) (AE (λv=>AO v 1 (JN 10 10))) (KS AZ (Qd u u u) (lK x u) (AI AZ (yW 10) (iX u) (kD (FF x u) (CE (XP u)) (XP u)) (kD 10 (kA u) (Xh u)))))))) (λv=>VI (AQ (SE x) AM (Yq x v (KT x u)) (AS AM (Kv x v x u) (OM x) (YQ v u) (Zv x v x u) CO (AE (λw=>kI w (iY (AY v w) u w) (λy=>FV y (AY v w) (Ie (AY v w) y (AY u w) y) (Js (AY v w) y (AY u w) y) (Jo (AY v w) y (AY u w) y) (Jd (AY v w) y (AY u w) y) (Ij (AY v w) y (AY u w) y)))) BL (AMC AL (AK (On x v) (reV (ReS.mk (vM u) (FF x u) 10))) (OR AL (VK v) (CE (iL u)) (vT v) (EE (iL u)) (YT x v x u) (LP (λw=>Yu w x v (YE x u)) (ZD x v x u) (ZB x v x u) (YU x v x u) (Re x v x u) (ZH x v x u) (YJ x v x u) (XT x v x u) (FA (λw=>Yg w x v (YP x u)) (YX x v x u) (XM x v x u) (ZF x v x u) (XO x v x u) (Yq x v (KT x u)) (λw=>EF w (KT x v) (KT x u)) (Kv x v x u) (cD x v x u))))))) (UP v x i) v x v x (UW v x) (VL v x) (VG v x))) (lY (λv=>Yv (UX (UP v x i) v x v x (UW v x) (VL v x) (VG v x)) (EZ (Jb (yQ jW HU) (cI (On x v) (JA 100 (FF x v))) (not (fW (On x v) (VK v) (Qf v)))) Xr (uV (λw=>VI (D2 (SE x) (Yq x w (KT x v)) (Dk (Kv x w x v) (gG x) (YQ w v) (Zv x w x v) (AS CO (AE (λy=>kI y (iY (AY w y) v y) (λz=>FV z (AY w y) (Ie (AY w y) z (AY v y) z) (Js (AY w y) z (AY v y) z) (Jo (AY w y) z (AY v y) z) (Jd (AY w y) z (AY v y) z) (Ij (AY w y) z (AY v y) z)))) BL AL AL (AK (VK w) (VK v)) (XS (Qf w) (Qf v)) (YT x w x v) (LP (λy=>Yu y x w (YE x v)) (ZD x w x v) (ZB x w x v) (YU x w x v) (Re x w x v) (ZH x w x v) (YJ x w x v) (XT x w x v) (FA (λy=>Yg y x w (YP x v)) (YX x w x v) (XM x w x v) (ZF x w x v) (XO x w x v) (Yq x w (KT x v)) (λy=>EF y (KT x w) (KT x v)) (Kv x w x v) (cD x w x v)))))) (UP w x i) w x w x (UW w x) (VL w x) (VG w x)))) (λw=>BA (UX (UP w x i) w x w x (UW w x) (VL w x) (VG w x)) (AG (UT (And (BW (KT x w)) (JH 0 (KT x w) FX)) 3 (Gk (KT x w)) (SK (BP (KT x w)) 24)) (Ob Qc (λy=>VI (PF (SE x) AM (RD y) (Gk (KT x w)) (AI AM (AN (YD y) (BP (fE x w))) (OM x) (YQ y w) (Qv (Zv x y x w) BL (UB 1 oA) (Gb (yZ (IN y) (Qb w)) (λz=>FV z (IN y) (Ie (IN y) z (Qb w) z) (Js (IN y) z (Qb w) z) (Jo (IN y) z (Qb w) z) (Jd (IN y) z (Qb w) z) (Ij (IN y) z (Qb w) z)) (YT x y x w) (LP (λz=>Yu z x y (YE x w)) (ZD x y x w) (ZB x y x w) (YU x y x w) (Re x y x w) (ZH x y x w) (YJ x y x w) (XT x y x w) (FA (λz=>Yg z x y (YP x w)) (YX x y x w) (XM x y x w) (ZF x y x w) (XO x y x w) (JI (LC x y) (Gk (KT x w))) (λz=>DV z (LC x y) (KB z (BP (KT x w)) (DY (KT x w) z) (FF x w)) (KB z (BP (KT x w)) (DO (KT x w) z) (VK w)) (KB z (BP (KT x w)) (DI (KT x w) z) (vT w))) (Kv x y x w) (cD x y x w))))))) (UP y x i) y x y x (UK y x) (VF y x) (VJ y x))) (lY (λy=>Yv (UX (UP y x i) y x y x (UK y x) (VF y x) (VJ y x)) (Ob (VD AT (FM (IN y)) (λz=>IP z (IN y) z z z z z) (GJ 2 Xw) (GJ 0 Vd) (CJ (FU (IN y)) 30 (Bp (IN y))) (EX (AE (λz=>Yt z (Xn y z z))) (λz=>Xj z (λk1 j1 i1=>QP k1 (AO j1 (FU (IN y)) (BA (Ih (lsM (HB (IN y) j1) i1) k1) (Xy (Xn y z k1) (Yp (Zc (Xn y z k1) (sE (HB (IN y) j1) i1)) (Xn y z (Mr (HB (IN y) j1) i1))))))))) (Xd 2 (HW 3)) (ZG (AK (Xn y 2 0) JZ))) (λz=>VI (PF (SE x) AM (RD z) (RD y) (AI AM (AN (YD z) (YD y)) (OM x) (YQ z y) (Qv (Zv x z x y) BL XL (OR AL (Pq z) (CE (lD (IN y))) (tS z) (EE (lD (IN y))) (YT x z x y) (LP (λi1=>Yu i1 x z (YE x y)) (ZD x z x y) (ZB x z x y) (YU x z x y) (Re x z x y) (ZH x z x y) (YJ x z x y) (XT x z x y) (FA (λi1=>Yg i1 x z (YP x y)) (YX x z x y) (XM x z x y) (ZF x z x y) (XO x z x y) (Yo (LC x z) x y) (λi1=>EF i1 (LC x z) (LC x y)) (Kv x z x y) (cD x z x y))))))) (UP z x i) z x z x (UK z x) (VF z x) (VJ z x))) (λz=>MD (UX (UP z x i) z x z x (UK z x) (VF z x) (VJ z x)) (Jb jW (aD (Pq z) (FF x z)) (NX (tS z) (FF x z))) Xr (And (uV (λi1=>VI (PF (SE x) AM (RD i1) (RD z) (AI AM (AN (YD i1) (YD z)) (OM x) (YQ i1 z) (Qv (Zv x i1 x z) BL XL (YR AL BZ AM (YR AZ (AE (λj1=>LF j1 1 ED (Jj (XP i1) (sD 0 (Pq z))) (XS (XP i1) (wL z)) (D4 (kA i1) x z) (SR (Xh i1) (tZ x z)))) (YT x i1 x z) (LP (λj1=>Yu j1 x i1 (YE x z)) (ZD x i1 x z) (ZB x i1 x z) (YU x i1 x z) (Re x i1 x z) (ZH x i1 x z) (YJ x i1 x z) (XT x i1 x z) (FA (λj1=>Yg j1 x i1 (YP x z)) (YX x i1 x z) (XM x i1 x z) (ZF x i1 x z) (XO x i1 x z) (Yo (LC x i1) x z) (λj1=>EF j1 (LC x i1) (LC x z)) (Kv x i1 x z) (cD x i1 x z)))))))) (UP i1 x i) i1 x i1 x (UK i1 x) (VF i1 x) (VJ i1 x))) (lY (λi1=>BA (UX (UP i1 x i) i1 x i1 x (UK i1 x) (VF i1 x) (VJ i1 x)) (AG (AI AL BZ AM AZ (Gz AZ (Qd i1 i1 i1) (iX i1))) (Ob (CM AL (FD 10) (Gz AM AZ (YG AM AZ (Qd i1 i1 i1) (KS AZ (lK x i1) (AE (λj1=>AO j1 1 (JN 10 10))) (KS AZ (Qd i1 i1 i1) (lK x i1) (AI AZ (yW 10) (iX i1) (kD (FF x i1) (CE (XP i1)) (XP i1)) (kD 10 (kA i1) (Xh i1)))))))) (λj1=>VI (aN x (Fv (AN (RD j1) (RD i1)) (AN (YD j1) (YD i1)) (FE (OM x) (YQ j1 i1) (FF x j1) (FF x i1) BL (YR XL AL (AK (On x j1) (reV (ReS.mk (vM i1) (FF x i1) 10))) (OR AL (VK j1) (CE (iL i1)) (vT j1) (EE (iL i1)) (YT x j1 x i1) (LP (λk1=>Yu k1 x j1 (YE x i1)) (ZD x j1 x i1) (ZB x j1 x i1) (YU x j1 x i1) (Re x j1 x i1) (ZH x j1 x i1) (YJ x j1 x i1) (XT x j1 x i1) (FA (λk1=>Yg k1 x j1 (YP x i1)) (YX x j1 x i1) (XM x j1 x i1) (ZF x j1 x i1) (XO x j1 x i1) (Yo (LC x j1) x i1) (λk1=>EF k1 (LC x j1) (LC x i1)) (Kv x j1 x i1) (cD x j1 x i1)))))))) (UP j1 x i) j1 x j1 x (UK j1 x) (VF j1 x) (VJ j1 x))) (lY (λj1=>Yv (UX (UP j1 x i) j1 x j1 x (UK j1 x) (VF j1 x) (VJ j1 x)) (EZ (Jb (yQ jW HU) (cI (On x j1) (JA 100 (FF x j1))) (not (fW (On x j1) (VK j1) (Qf j1)))) Xr (uV (λk1=>VI (FK (SE x) AM (AN (RD k1) (RD j1)) AM (AN (YD k1) (YD j1)) (OM x) (AS (YQ k1 j1) (Zv x k1 x j1) BL XL XL (AK (VK k1) (VK j1)) (XS (Qf k1) (Qf j1)) (YT x k1 x j1) (LP (λl1=>Yu l1 x k1 (YE x j1)) (ZD x k1 x j1) (ZB x k1 x j1) (YU x k1 x j1) (Re x k1 x j1) (ZH x k1 x j1) (YJ x k1 x j1) (XT x k1 x j1) (FA (λl1=>Yg l1 x k1 (YP x j1)) (YX x k1 x j1) (XM x k1 x j1) (ZF x k1 x j1) (XO x k1 x j1) (Yo (LC x k1) x j1) (λl1=>EF l1 (LC x k1) (LC x j1)) (Kv x k1 x j1) (cD x k1 x j1))))) (UP k1 x i) k1 x k1 x (UK k1 x) (VF k1 x) (VJ k1 x)))) (λk1=>TO (UX (UP k1 x i) k1 x k1 x (UK k1 x) (VF k1 x) (VJ k1 x)) (UT (RB (AN (YD k1) (BP (fE x k1))) (YD k1) 3) 3 (RD k1) (SK (YD k1) 24)) (CG (λl1=>EV (FK (SE x) AM (JI (PM x l1) (RD k1)) AM (JI (OY x l1) (RD k1)) (OM x) (AS (AU l1 (YD k1)) (AKU (WB x l1) x k1) (AJR (WB x l1) x k1) (AGV (WB x l1) x k1) (AGQ (WB x l1) x k1) (AJA (LS x l1) x k1) (ADR (LS x l1) x k1) (AHT (LS x l1) x k1) (JQ (AGY (LS x l1) x k1) (AGI (CP x l1) x k1) (AJK (CP x l1) x k1) (AFB (CP x l1) x k1) (ADT (CP x l1) x k1) (Yo (PM x l1) x k1) (BU (PM x l1) (LC x k1)) (JI (OY x l1) (RD k1)) (λm1=>DV m1 (OY x l1) (KB m1 (YD k1) (DY (fE x k1) m1) (FF x k1)) (KB m1 (YD k1) (DO (fE x k1) m1) (VK k1)) (KB m1 (YD k1) (DI (fE x k1) m1) (vT k1)))))) (And (Fx l1) (DC (BH l1) (gG x))) (Jr x l1) (Jr x i)))))))))))))))))))))))))))))) (NM (FK (SE x) (CI (Ll x) (PM x i)) (HE (AP (BP (PM x i))) (PM x i)) (AE (λj=>Xi j (Ll x) (PM x i) (AP j))) (CI (Lt x) (OY x i)) (HE (AP (BP (OY x i))) (OY x i)) (AE (λj=>Xi j (Lt x) (OY x i) (AP j)))))))) (Ma FT (AG (ZG (UB 2001 0)) (NM (AV (BW (Ll x)) (BX (Ll x)) (BW (Lt x)) (BX (Lt x)) (AK (tgT x) (sC (CS (TgI.w x)) 2001)) (Fv CK AM (FQ AZ (VR 1) (λi=>FH i 1 (XN chL i 0) (EU chL i) 0 (EQ chL i) 1 (EP chL i) 100) (AK (tK (tgT x)) (JA 100 (sC (CS (TgI.w x)) 2001))) XL)))) (ZV (λi=>TO FT (And (As Oj (AP 0) 2) (NM (AQ (AJ (tgT x)) AM CK (FQ CO By (λj=>Sn j (JI (ntG x j) (hJ (Qk j) (BP (Ll x)) (BP (Lt x)))) (AE (λk=>DV k (ntG x j) (SD j (DY (Ll x) k) (DY (Lt x) k)) (SD j (DO (Ll x) k) (DO (Lt x) k)) (SD j (DI (Ll x) k) (DI (Lt x) k))))) BL (VD AL (JI (qF x) (hJ (Qk 0) (BP (Ll x)) (BP (Lt x)))) (λj=>DV j (qF x) (SD 0 (DY (Ll x) j) (DY (Lt x) j)) (SD 0 (DO (Ll x) j) (DO (Lt x) j)) (SD 0 (DI (Ll x) j) (DI (Lt x) j))) AM (AE (λj=>AHP j 0 (IQ nilB j))) AZ (YB 1 chL) (AJ (tK (tgT x))) XL))))) (Ma FT (AQ (AS (CN (qF x)) (CW (qF x)) AM (AE (λj=>Gl j 0 tF nilB)) AZ (AE (λj=>FH j 1 (NS Ov j chL) (EU Ov j) (EU chL j) (EQ Ov j) (EQ chL j) (EP Ov j) (EP chL j))) (TH (oW x)) (HW 1073741824) (Ar 1)) (SS (qF x) (ON (oW x) 20)) (AG (CN (qF x)) (CW (qF x)) (YR AM (AJ (tgT x)) (And (OE (oW x)) (HW 4611686018427387904)) FT)) (EZ (OZ (Jb (Jb (QW (Kd (GR.mk (oW x) (AAJ tF Ov)))) (QW (Uh (oW x))) (QW (Mw (AFH x UD 0 AYL)))) (TR (YS (sH (GR.mk (oW x) (AAJ tF Ov))))) (cI (BH (Is (oW x))) 1)) (not (gA (yJ (tK (tgT x)) 1) (K8 (nI (nT x UD)) (mA (nT x UD)))))) Xr (AG (Jc UQ GV 1 32) (And Qc (NM (AS (AJ (tgT x)) AM AZ CO (AE (λj=>Sn j (BW (ntG x j)) (BX (ntG x j)))) BL (UB 1 oA) (CI (pL x) (ntG x 1)) (LP (λj=>EF j (pL x) (ntG x 1)) AM (AE (λj=>AHP j 0 (IQ nilB j))) AZ (YB 1 chL) (AJ (tK (tgT x))) XL AZ (AE (λj=>FH j 1 (AK (OJ (Eg x)) (OJ (nT x UD))) (NW (Eg x)) (NW (nT x UD)) (OG (Eg x)) (OG (nT x UD)) (NB (Eg x)) (NB (nT x UD)))))))) (Ma FT (AQ (AS (CN (pL x)) (CW (pL x)) AM (AE (λj=>Gl j 0 tF nilB)) AZ (AE (λj=>FH j 1 (NS Ov j chL) (EU Ov j) (EU chL j) (EQ Ov j) (EQ chL j) (EP Ov j) (EP chL j))) (TH (qG x)) (HW 1073741824) (Ar 1)) (SS (pL x) (ON (qG x) 20)) (AG (CN (pL x)) (CW (pL x)) (YR AM (AJ (tgT x)) (And (OE (qG x)) (HW 4611686018427387904)) FT)) (EZ (OZ (Jb (Jb (QW (Kd (GR.mk (qG x) (AAJ tF Ov)))) (QW (Uh (qG x))) (QW (Mw (AFH x HU 0 AYL)))) (TR (YS (sH (GR.mk (qG x) (AAJ tF Ov))))) (cI (BH (Is (qG x))) 1)) (not (gA (yJ (tK (tgT x)) 1) (K8 (nI (It x)) (mA (It x)))))) Xr (AG (Jc (RB AZ 1 4) JE 2 64) (AQ Qc (BN 1 2) Oj (PL (AP 0) (CL 1))) (HY HU (and (gA (yJ (KB Nt 1 (OJ (Eg x)) (OJ (It x))) (KB Nt 1 (NW (Eg x)) (NW (It x)))) (K8 (yJ (XZ 0 1 (OJ (Eg x)) (OJ (It x))) (XZ 0 1 (NW (Eg x)) (NW (It x)))) (yJ (XZ 0 1 (OG (Eg x)) (OG (It x))) (XZ 0 1 (NB (Eg x)) (NB (It x)))))) (gA (yJ (KB Nt 1 (OG (Eg x)) (OG (It x))) (KB Nt 1 (NB (Eg x)) (NB (It x)))) (K8 (yJ (XZ 0 1 (OJ (Eg x)) (OJ (It x))) (XZ 0 1 (NW (Eg x)) (NW (It x)))) (yJ (XZ 0 1 (OG (Eg x)) (OG (It x))) (XZ 0 1 (NB (Eg x)) (NB (It x))))))) HU)))))))))))))):=by kernel_rfl
end Go.Bal
