/- Package rating: the stable sort of sets (at most 24). -/
import Derived.Test.YtoihhodbkimedaaGreatRSv
set_option linter.unusedVariables false
set_option linter.unusedSimpArgs false
namespace Go.Bal
open Go Go.Sym Go.Proofs
def C_mv(N:Nat):Ctr:={ α:=SX,xs:=xSX,L:=lSX,val:=λ_=>.d (.tup []),keep:=λa=>glS a.s (GO (DM a.s) (KH a.s) a.x a.z),pre:=λa=>[pSmS a.s a.x a.y a.z/\a.z-a.x<N] }
structure NS where
 n:Nat
 a:SX
def mvO(a:SX):Nat×AVal:=(0,oSS a.s)
def mvH(a:SX)(l:List Int):List (Nat×HCell):=glS a.s l
def mv3(a:SX):Shape:={ α:=NN,dflt:=default,T:=λs=>⟨[mvO a,(1,.int a.x),(4,bT),(10,.int s.a),(11,.int s.b)],mvH a (KH a.s)⟩,inv:=λs=>smLo (DM a.s) (KH a.s) a.x a.z s.a s.b/\a.y=a.x+1,meas:=λs=>s.b-s.a }
def mv9(a:SX):Shape:={ α:=NN,dflt:=default,T:=λs=>⟨[mvO a,(10,.int s.a),(13,.int s.b)],mvH a (KA (KH a.s) a.x (a.x+1) (s.b+1))⟩,inv:=λs=>(smLo (DM a.s) (KH a.s) a.x a.z s.a s.a/\a.y=a.x+1)/\a.x<=s.b/\s.b+1<=s.a,meas:=λs=>s.a-s.b }
def mv15(a:SX):Shape:={ α:=NN,dflt:=default,T:=λs=>⟨[mvO a,(2,.int a.y),(4,bT),(14,.int s.a),(15,.int s.b)],mvH a (KH a.s)⟩,inv:=λs=>smHi (DM a.s) (KH a.s) a.x a.y s.a s.b/\a.z=a.y+1,meas:=λs=>s.b-s.a }
def mv21(a:SX):Shape:={ α:=NN,dflt:=default,T:=λs=>⟨[mvO a,(14,.int s.a),(17,.int s.b)],mvH a (KA (KH a.s) s.b a.y (a.y+1))⟩,inv:=λs=>(smHi (DM a.s) (KH a.s) a.x a.y s.a s.a/\a.z=a.y+1)/\s.a<=s.b/\s.b<=a.y,meas:=λs=>s.b }
def mV(a:SX):Nat:=(a.x+a.z) / 2
def mvB(a:SX):List (Nat×AVal):=[mvO a,(1,.int a.x),(2,.int a.y),(3,.int a.z),(4,bT),(18,.int (mV a))]
def mv32(a:SX):Shape:={ α:=NN,dflt:=default,T:=λs=>⟨mvB a ++ [(19,.int (mV a+a.y)),(20,.int s.a),(21,.int s.b)],mvH a (KH a.s)⟩,inv:=λs=>s.a=yC a.x a.y a.z/\s.b=qT a.x a.y a.z,meas:=λ_=>0 }
def mv33(a:SX):Shape:={ α:=NN,dflt:=default,T:=λs=>⟨mvB a ++ [(19,.int (mV a+a.y)),(20,.int s.a),(21,.int s.b),(22,.int (mV a+a.y-1))],mvH a (KH a.s)⟩,inv:=λs=>smBi (DM a.s) (KH a.s) a.x a.y a.z s.a s.b,meas:=λs=>s.b-s.a }
def mvE(a:SX)(s:Nat):Nat:=mV a+a.y-s
def mv41(a:SX):Shape:={ α:=Nat,dflt:=0,T:=λs=>⟨mvB a ++ [(20,.int s),(24,.int (mvE a s))],mvH a (KA (KH a.s) s a.y (mvE a s))⟩,inv:=λs=>SmI (DM a.s) (KH a.s) a.x a.y a.z s,meas:=λ_=>0 }
def mv43(a:SX):Shape:={ α:=Nat,dflt:=0,T:=λs=>⟨mvB a ++ [(20,.int s),(24,.int (mvE a s))],mvH a (GO (DM a.s) (KA (KH a.s) s a.y (mvE a s)) a.x (mV a))⟩,inv:=λs=>SmI (DM a.s) (KH a.s) a.x a.y a.z s,meas:=λ_=>0 }
def A_mv(w:NS):Ann:={ ann 220 [(SN,C_pv1.spec dGsP),(BJG,C_rotS.spec dSX),(AWI,(C_mv w.n).spec dSX)] with E:=[100],loops:=λid=>if id=3 then some [mv3 w.a] else if id=9 then some [mv9 w.a] else if id=15 then some [mv15 w.a] else if id=21 then some [mv21 w.a] else if id=33 then some [mv33 w.a] else none,cut:=λid=>if id=32 then some [mv32 w.a] else if id=41 then some [mv41 w.a] else if id=43 then some [mv43 w.a] else none }
def V_mv(w:NS):Prop:=BQ Try.prog (A_mv w) BHN (AI BHN) (xSX w.a) (AD (lSX w.a)) (.d (.tup [])) (glS w.a.s (GO (DM w.a.s) (KH w.a.s) w.a.x w.a.z)) [] []
abbrev UW a:=TP (NS.a a)
abbrev MH a:=LI (UW a)
abbrev Gd a b c d:=TU a (MH b) c d
abbrev APW a b c:=XV (UW a) b c
abbrev FJ a:=cF (NS.a a)
abbrev Fk a b c d e f:=APW a (ASZ (UW b) c (FJ d) e) f
abbrev Br a:=mV (NS.a a)
abbrev SF a:=KH (UW a)
abbrev BOX a b c d:=KA (SF a) b c d
abbrev EH a:=Gx (NS.a a)
abbrev BNM a b c:=BOX a b (EH a) c
abbrev kH a b:=mvE (NS.a a) b
abbrev kN a b:=BNM a b (kH a b)
abbrev KL a:=Nc (NS.a a)
abbrev Vi a:=BE (KL a)
abbrev Yv a:=BE (Br a)
abbrev PL a:=Nd (UW a)
abbrev Uv a b c d:=APW a (kN b c) d
abbrev Iq a:=BE (EH a)
abbrev Hx a:=BE (FJ a)
abbrev QC a:=BL (MH a)
abbrev PM a b:=APW a (SF a) b
abbrev XQ a:=AQB (Br a) (EH a)
abbrev Uo a b c(d:Nat->Prop):=XY a b (AZ c) d
abbrev eC a b:=PM a (RI b)
abbrev WV a b:=eC a (Af b)
abbrev AOW a b:=kW (XQ a) b
abbrev dY a b c:=eC a (AOW b c)
abbrev Us a b:=BZ a (MH b)
abbrev gN a b:=IW (QC a) b
abbrev oE a b:=nD (FJ a) (KL b)
abbrev XC a b c d:=APW a (BNM b (DZ c) (EO (EH b))) d
abbrev fK a b:=PM a (BP b)
abbrev XJ a b c d e f:=APW a (BOX b (FJ c) (EO (FJ d)) (eG e)) f
attribute [go_sem] UW MH Gd APW FJ Fk Br SF BOX EH BNM kH kN KL Vi Yv PL Uv Iq Hx QC PM XQ Uo eC WV AOW dY Us gN oE XC fK XJ
theorem CTV(w:NS):(V_mv w)=(CL (OL (HA (AQ (EH w)) (AQ (FJ w))) 1) (UT (λi=>AG (gN w (CU (Hx w) (XF i (EH w)) (UJ i (KL w)) (QC w) (λj=>Gd j w (PM w j) (SI (UW w) j)))) (Ce (PL w) (SF w) (FJ w) (KL w) i (DZ i)) (HC (EH w) (FJ w)))) (Iv (λi=>NJ (ZD (Ce (PL w) (SF w) (FJ w) (KL w) i (DZ i)) (EH w) (FJ w)) (Zv i (HV i)) Qe (And (DV (TT i) (MH w)) (AX (Us (Ma i) w) (IR (FJ w) (MH w)) (Us (BP (FJ w)) w) (CE (WV w i)) (AK (λj=>EW j (BH (eC w (TT i))) (HU (WV w i) j) (AH (WV w i) j) (BH (WV w i)) j (WV w i) j)) (CE (fK w (FJ w))) (BB (fK w (FJ w))) (Pg (eC w (TT i))) (Pg (fK w (FJ w))))) (Zp (YL (Zo (WV w i)) (Zo (fK w (FJ w)))) (λj=>Je (gN w (CU (Hx w) (EA (BK j) (Af i)) (Yk j i) (QC w) (λk=>Uo k (MH w) (PM w k) (λl=>GF l (PM w k))))) (ZD (Ce (PL w) (SF w) (FJ w) (KL w) j (DZ j)) (EH w) (FJ w)) j j i i) (λj=>Je (gN w (CU (Hx w) (NR j i) (OG j (Af i)) (QC w) (λk=>Uo k (MH w) (PM w k) (λl=>GF l (PM w k))))) (ZD (Ce (PL w) (SF w) (FJ w) (KL w) j (DZ j)) (EH w) (FJ w)) j j i i)) (And (UT (λj=>AN (JJ (YM (QC w) (NR j i) (UJ j (FJ w)) (λk=>Gd k w (XJ w w w w j k) (PM w k)))) (ZD (Ce (PL w) (SF w) (FJ w) (KL w) j (BK j)) (EH w) (FJ w)) (YF (FJ w) j) (Dr (DZ j) j))) (Iv (λj=>FL (DE (Ce (PL w) (SF w) (FJ w) (KL w) j (BK j)) (HC (EH w) (FJ w)) (YF (FJ w) j) (Dr (DZ j) j)) (GD (HV j) (JZ (JB j))) (AN (DV (Tl j) (MH w)) (Us (Cp j) w) (Aq j (MH w)) (SC (Us (NU j) w) (Aq j (MH w)) (DV (Tl j) (MH w)) (HN (Cp j) (MH w)))) (UT (λk=>LL (JJ (YM (QC w) (NR k j) (OG k (Tl j)) (λl=>XY l (MH w) (CF (XJ w w w w k l) (Kr (XS l (Cp j)) (XJ w w w w j (NU j)) (Kr (XS l (NU j)) (XJ w w w w j (Cp j)) (CI (XJ w w w w j l))))) (λm=>BR m (XJ w w w w k l) (ZZ (AH (XJ w w w w k l) m) (Cd l (Cp j) (AH (XJ w w w w j (NU j)) m) l j (AH (XJ w w w w j (Cp j)) m) (AH (XJ w w w w j l) m)) (XJ w w w w k l) m (Cd l (Cp j) (AP (XJ w w w w j (NU j)) m) l j (AP (XJ w w w w j (Cp j)) m) (AP (XJ w w w w j l) m)) m (Cd l (Cp j) (AS (XJ w w w w j (NU j)) m) l j (AS (XJ w w w w j (Cp j)) m) (AS (XJ w w w w j l) m))))))) (DE (Ce (PL w) (SF w) (FJ w) (KL w) k (BK k)) (HC (EH w) (FJ w)) (YF (FJ w) k) (Dr (DZ k) k)) (BK k) (DZ k) (BK j) (DZ j))) (VW (MH w) (λk=>Gd k w (Fk w w (SF w) w (KL w) k) (XJ w w w w j k)))))))) (CL (OL (HA (AQ (KL w)) (AQ (EH w))) 1) (UT (λi=>AG (gN w (CU (Iq w) (XF i (FJ w)) (UJ i (EH w)) (QC w) (λj=>Gd j w (PM w j) (SI (UW w) j)))) (Ci (PL w) (SF w) (FJ w) (EH w) i (DZ i)) (HC (KL w) (EH w)))) (Iv (λi=>NJ (ZD (Ci (PL w) (SF w) (FJ w) (EH w) i (DZ i)) (KL w) (EH w)) (Zv i (HV i)) Qe (And (IR (EH w) (MH w)) (AX (Us (BP (EH w)) w) (DV (TT i) (MH w)) (Us (Ma i) w) (CE (fK w (EH w))) (BB (fK w (EH w))) (CE (WV w i)) (AK (λj=>EW j (BH (eC w (TT i))) (HU (WV w i) j) (AH (WV w i) j) (BH (WV w i)) j (WV w i) j)) (Pg (fK w (EH w))) (Pg (eC w (TT i))))) (Zp (not (YL (Zo (fK w (EH w))) (Zo (WV w i)))) (λj=>Je (gN w (CU (Iq w) (EA (BK j) (Af i)) (Yk j i) (QC w) (λk=>Uo k (MH w) (PM w k) (λl=>GF l (PM w k))))) (ZD (Ci (PL w) (SF w) (FJ w) (EH w) j (DZ j)) (KL w) (EH w)) j j i i) (λj=>Je (gN w (CU (Iq w) (NR j i) (OG j (Af i)) (QC w) (λk=>Uo k (MH w) (PM w k) (λl=>GF l (PM w k))))) (ZD (Ci (PL w) (SF w) (FJ w) (EH w) j (DZ j)) (KL w) (EH w)) j j i i)) (And (UT (λj=>AN (JJ (YM (QC w) (NR j i) (UJ j (EH w)) (λk=>Gd k w (XC w w j k) (PM w k)))) (ZD (Ci (PL w) (SF w) (FJ w) (EH w) j (BK j)) (KL w) (EH w)) (Rm j j) (Fj j (EH w)))) (Iv (λj=>FL (DE (Ci (PL w) (SF w) (FJ w) (EH w) j (BK j)) (HC (KL w) (EH w)) (Rm j j) (Fj j (EH w))) (Ok j (JB j)) (AN (Pw j (MH w)) (Us (IT j) w) (Aq j (MH w)) (SC (Us (NU j) w) (Aq j (MH w)) (Pw j (MH w)) (HN (IT j) (MH w)))) (UT (λk=>BW (JJ (YM (QC w) (NR k j) (OG k (Lx j)) (λl=>XY l (MH w) (CF (XC w w k l) (Kr (XS l (IT j)) (XC w w j (NU j)) (Kr (XS l (NU j)) (XC w w j (IT j)) (CI (XC w w j l))))) (λm=>BR m (XC w w k l) (ZZ (AH (XC w w k l) m) (Cd l (IT j) (AH (XC w w j (NU j)) m) l j (AH (XC w w j (IT j)) m) (AH (XC w w j l) m)) (XC w w k l) m (Cd l (IT j) (AP (XC w w j (NU j)) m) l j (AP (XC w w j (IT j)) m) (AP (XC w w j l) m)) m (Cd l (IT j) (AS (XC w w j (NU j)) m) l j (AS (XC w w j (IT j)) m) (AS (XC w w j l) m))))))) (DE (Ci (PL w) (SF w) (FJ w) (EH w) k (BK k)) (HC (KL w) (EH w)) (Rm k k) (Fj k (EH w))) (DZ k) (DZ j))) (VW (MH w) (λk=>Gd k w (Fk w w (SF w) w (KL w) k) (XC w w j k)))))))) (AG Qe (Zp (KO (AQ (EH w)) (oE w w)) (λi=>AG (gN w (FO (Hx w) (Iq w) (Vi w) (CQ (Br w) (oE w w)) (AO (XQ w) (VZ (oE w w) (EH w))) (UD (BK i) (VZ (oE w w) (EH w)) (AQ (KL w))) (OG i (oE w w)) (QC w) (λj=>Gd j w (PM w j) (SI (UW w) j)))) (AR (BK i) (yC (FJ w) (EH w) (KL w))) (AR (DZ i) (qT (FJ w) (EH w) (KL w)))) (λi=>AG (gN w (FO (Hx w) (Iq w) (Vi w) (CQ (Br w) (oE w w)) (AO (XQ w) (VZ (oE w w) (EH w))) (XF i (FJ w)) (UJ i (EH w)) (QC w) (λj=>Gd j w (PM w j) (SI (UW w) j)))) (AR (BK i) (yC (FJ w) (EH w) (KL w))) (AR (DZ i) (qT (FJ w) (EH w) (KL w))))) (Iv (λi=>ME (Ui (BK i) (yC (FJ w) (EH w) (KL w)) (AR (DZ i) (qT (FJ w) (EH w) (KL w)))) (UT (λj=>DY AL (QC w) (Hx w) (FO (Iq w) (Vi w) (Yv w) (AM (XQ w)) (NR j i) (Yk j i) (Iz (Bt (XQ w)) (XQ w)) (QC w) (λk=>Uo k (MH w) (PM w k) (λl=>GF l (PM w k)))) (smBi (PL w) (SF w) (FJ w) (EH w) (KL w) (BK j) (DZ j)))) (Iv (λj=>NJ (smBi (PL w) (SF w) (FJ w) (EH w) (KL w) (BK j) (DZ j)) (Zv j (HV j)) Qe (And (DV (AOW w (TT j)) (MH w)) (AX (Us (RI (AOW w (TT j))) w) (DV (TT j) (MH w)) (Us (Ma j) w) (CE (dY w w (Af j))) (AK (λk=>EW k (BH (dY w w (TT j))) (HU (dY w w (Af j)) k) (AH (dY w w (Af j)) k) (BH (dY w w (Af j))) k (dY w w (Af j)) k)) (CE (WV w j)) (AK (λk=>EW k (BH (eC w (TT j))) (HU (WV w j) k) (AH (WV w j) k) (BH (WV w j)) k (WV w j) k)) (Pg (dY w w (TT j))) (Pg (eC w (TT j))))) (Zp (not (YL (Zo (dY w w (Af j))) (Zo (WV w j)))) (λk=>Je (LO (QC w) (Hx w) (FO (Iq w) (Vi w) (Yv w) (AM (XQ w)) (EA (BK k) (Af j)) (Yk k j) (AM (Bt (XQ w))) (QC w) (λl=>Uo l (MH w) (PM w l) (λm=>GF m (PM w l))))) (smBi (PL w) (SF w) (FJ w) (EH w) (KL w) (BK k) (DZ k)) k k j j) (λk=>Je (LO (QC w) (Hx w) (FO (Iq w) (Vi w) (Yv w) (AM (XQ w)) (NR k j) (OG k (Af j)) (AM (Bt (XQ w))) (QC w) (λl=>Uo l (MH w) (PM w l) (λm=>GF m (PM w l))))) (smBi (PL w) (SF w) (FJ w) (EH w) (KL w) (BK k) (DZ k)) k k j j)) (FZ (VJ (FU (Zv j (AQ (EH w))) (FD (EH w) (HA (XQ w) (JB j)))) (IW (Ku (UW w) (λk=>PM w k) (MH w)) (AX (BE (BK j)) (Iq w) (UD (Yh (XQ w) j) (XQ w) (JB j)) (Ku (UW w) (λk=>PM w k) (MH w)) (AK (λk=>Be k (UW w) (λl=>PM w l) (λl=>PM w l) k (PM w k))) (II (Hg (UW w) (λk=>PM w k))) (Dk j (EH w)) (BZ (EH w) (Yh (XQ w) j)) (BU (Yh (XQ w) j) (Hg (UW w) (λk=>PM w k))))) (FB (λk=>Gj (FO (QC w) (Hx w) (Iq w) (Vi w) (Yv w) (Ly k j) (UD (kH w k) (XQ w) (JB j)) (YO (MH w) (UW w) (λl=>PM w l)) (λl=>Gd l w (Uv w w k l) (XV (SG (UW w) (λm=>PM w m)) (KA (KH (SG (UW w) (λm=>PM w m))) (BK j) (EH w) (Yh (XQ w) j)) l))) (SmI (PL w) (SF w) (FJ w) (EH w) (KL w) k))) (λk=>Gj (zH (QC w) (Hx w) (Iq w) (Vi w) (Yv w) (Ly k j) (UD (kH w k) (XQ w) (JB j)) (AK (λl=>Gd l w (Uv w w k l) (PM w l)))) (SmI (PL w) (SF w) (FJ w) (EH w) (KL w) k))) (λk=>BV (SmI (PL w) (SF w) (FJ w) (EH w) (KL w) k) (FZ (VJ (FU (UI (FJ w) k) (UI k (Br w))) (Bl AL (Ku (UW w) (λl=>Uv w w k l) (MH w)) (Hx w) (BE k) (Yv w) (AK (λl=>Be l (UW w) (λm=>Uv w w k m) (λm=>Uv w w k m) l (Uv w w k l))) (pSmS (SG (UW w) (λl=>Uv w w k l)) (FJ w) k (Br w)) (BZ (EF (Br w) (FJ w)) (NS.n w))) (FB (λl=>Gj (FO (QC w) (Hx w) (Iq w) (Vi w) (Yv w) (CB l k) (CB (kH w l) (kH w k)) (YO (MH w) (UW w) (λm=>Uv w w k m)) (λm=>Gd m w (Fk w w (kN w l) w (Br w) m) (Vj (SG (UW w) (λn=>Uv w w k n)) (FJ w) (Br w) m))) (SmI (PL w) (SF w) (FJ w) (EH w) (KL w) l))) (λl=>Gj (zH (QC w) (Hx w) (Iq w) (Vi w) (Yv w) (CB l k) (CB (kH w l) (kH w k)) (AK (λm=>Gd m w (Fk w w (kN w l) w (Br w) m) (Uv w w k m)))) (SmI (PL w) (SF w) (FJ w) (EH w) (KL w) l))) (λl=>HP (SmI (PL w) (SF w) (FJ w) (EH w) (KL w) l) (FU (UI (Br w) (kH w l)) (UI (kH w l) (KL w))) (KC (Bl AL (Ku (UW w) (λm=>Fk w w (kN w l) w (Br w) m) (MH w)) (Yv w) (BE (kH w l)) (Vi w) (AK (λm=>Be m (UW w) (λn=>Fk w w (kN w l) w (Br w) n) (λn=>Fk w w (kN w l) w (Br w) n) m (Fk w w (kN w l) w (Br w) m))) (pSmS (SG (UW w) (λm=>Fk w w (kN w l) w (Br w) m)) (Br w) (kH w l) (KL w)) (BZ (EF (KL w) (Br w)) (NS.n w))) (YO (MH w) (UW w) (λm=>Fk w w (kN w l) w (Br w) m)) (λm=>Gd m w (Fk w w (SF w) w (KL w) m) (Vj (SG (UW w) (λn=>Fk w w (kN w l) w (Br w) n)) (Br w) (KL w) m))) (VW (MH w) (λm=>Gd m w (Fk w w (SF w) w (KL w) m) (Fk w w (kN w l) w (Br w) m)))))))))))))):=by kernel_rfl
def okSs(S:List (List Gau)):Prop:=S.length<=24/\∀i,i<S.length->0<(gD S i).length
def mL(S:List (List Gau)):List Int:=yG (DM S) (WH S.length)
def C_stN:Ctr:={ α:=SY,xs:=λa=>[oSS a.s,.int a.x,bT],L:=λa=>[(100,rowS a.s)],val:=λ_=>.d (.tup []),keep:=λa=>glS a.s (mL a.s),pre:=λa=>[a.x=a.s.length/\okSs a.s] }
def dSYs:List AVal->Heap->Option (SY×List (Nat×Nat)×List Nat)
 |[.own id _ _ n,.d x,.fn (.func f) [] []],H=>if f=SN then match H id with
  | .live (.row _ _ r)=>some (⟨MK n λi=>dGsD (r i),(KT x).toNat,0⟩,[(100,id)],[])
  |_=>none else none
 |_,_=>none
def svT(S:List (List Gau))(b:Nat):List (Nat×AVal):=[(0,oSS S),(1,.int S.length),(2,bT),(6,.int b)]
def sv2(S:List (List Gau)):Shape:={ α:=Nat,dflt:=0,T:=λt=>⟨svT S 20 ++ [(7,.int (20*t:Nat)),(8,.int (20*t+20:Nat))],glS S (GO (DM S) (KH S) 0 (20*t))⟩,inv:=λt=>t<=1/\(t=1->20<=S.length),meas:=λt=>1-t }
def sv7(S:List (List Gau)):Shape:={ α:=Nat,dflt:=0,T:=λt=>⟨svT S (20*t+20),glS S (if t=0 then stB (DM S) (KH S) else yG (DM S) (KH S))⟩,inv:=λt=>t<=1,meas:=λt=>1-t }
def sv9(S:List (List Gau))(m:Nat):Shape:={ α:=Nat,dflt:=0,T:=λt=>⟨svT S (20*t+20) ++ [(7,.int 0),(8,.int 40)],glS S (stB (DM S) (KH S))⟩,inv:=λt=>t=0/\m=1/\20<S.length,meas:=λ_=>0 }
def CLU(S:List (List Gau)):Ann:={ ann 63 [(ANW,C_insS.spec dSY),(AWI,(C_mv 25).spec dSX)] with E:=[100],loops:=λid=>if id=2 then some [sv2 S] else if id=7 then some [sv7 S] else none,inner:=λgs id=>if id=9 then some [sv9 S (gs.getD 0 0)] else none }
def CMH(S:List (List Gau)):Prop:=BQ Try.prog (CLU S) BDI (AI BDI) [oSS S,.int S.length,bT] (AD [(100,rowS S)]) (.d (.tup [])) (glS S (mL S)) [] []
abbrev Lq a b c d:=TU a (LI b) c d
abbrev AKG a:=stB (Nd a) (KH a)
abbrev ZH a b c:=XV a (AKG b) c
abbrev Ow a:=BE (LI a)
abbrev bI a:=BL (LI a)
abbrev Ny a(b:Nat->(List Gau)) c:=Ku a b (LI c)
abbrev WO a b c:=Vj a 0 (Eu b) c
attribute [go_sem] Lq AKG ZH Ow bI Ny WO
theorem CNQ(S:List (List Gau)):(CMH S)=(DJ (λi=>EI AL (bI S) (Ow S) (CU dS (BD (Eu i)) (Xz i 20) (bI S) (λj=>Lq j S (WO S i j) (SI S j))) (BU i 1) (BV (GE i) (BU 20 (LI S)))) (λi=>FL (VH i 1 (BV (GE i) (BU 20 (LI S)))) (F3 (Hy i) (AQ (LI S))) (IW (Ny S (λj=>WO S i j) S) (AF (BE (Eu i)) (BE (XR i)) (Ny S (λj=>WO S i j) S) (AK (λj=>Be j S (λk=>WO S i k) (λk=>WO S i k) j (WO S i j))) (pInS (SG S (λj=>WO S i j)) (Eu i) (XR i)))) (FB (λj=>EV (LO (bI S) (Ow S) (CU dS (CB (Eu j) (XR i)) (Xz j (VZ (Hy i) 20)) (YO (LI S) S (λk=>WO S i k)) (λk=>Lq k S (WO S j k) (Vj (SG S (λl=>WO S i l)) (Eu i) (XR i) k)))) (VH j 1 (BV (GE j) (BU 20 (LI S)))) 1 j i)) (KC (IW (Ny S (λj=>WO S i j) S) (AF (BE (Eu i)) (Ow S) (Ny S (λj=>WO S i j) S) (AK (λj=>Be j S (λk=>WO S i k) (λk=>WO S i k) j (WO S i j))) (pInS (SG S (λj=>WO S i j)) (Eu i) (LI S)))) (FB (λj=>Gj (CU (bI S) (Ow S) (CB (XR j) 20) (YO (LI S) S (λk=>WO S i k)) (λk=>Lq k S (XV S (Pv j 0 (AKG S) (Nd S) (KH S)) k) (Vj (SG S (λl=>WO S i l)) (Eu i) (LI S) k))) (IY j 1))) (λj=>HP (IY j 1) (UI (XR j) (LI S)) (DJ (λk=>AN (LO (bI S) (Ow S) (CU (CB (XR k) (XR j)) BY (AO 40 (QS 2 (Hy j))) (bI S) (λl=>Lq l S (ZH S S l) (XV S (Pv j 0 (AKG S) (Nd S) (KH S)) l)))) (MV k) (GE (EF 1 j)) (BZ 20 (LI S))) (λk=>FL (BW (MV k) (GE (EF 1 j)) 20 (LI S)) (F3 40 (AQ (LI S))) (Bl AL (Ny S (λl=>ZH S S l) S) (CQ HB VF) (CQ (bA k) (fF k)) (CQ mR (UM 40)) (AK (λl=>Be l S (λm=>ZH S S m) (λm=>ZH S S m) l (ZH S S l))) (pSmS (SG S (λl=>ZH S S l)) HB (bA k) mR) (BZ 40 25)) (FB (λl=>BW (LO (bI S) (Ow S) (CU (CB (XR l) (XR k)) (AO VF (UM 40)) (AO 40 (oF 40 2 (Hy k))) (YO (LI S) S (λm=>ZH S S m)) (λm=>Lq m S (ZH S S m) (Vj (SG S (λn=>ZH S S n)) HB mR m)))) (BW (MV l) (GE (EF 1 j)) 20 (LI S)) 0 0)) (VJ (GD (fF k) (AQ (LI S))) (Bl AL (Ny S (λl=>ZH S S l) S) (CQ HB VF) (CQ (bA k) (fF k)) (Ow S) (AK (λl=>Be l S (λm=>ZH S S m) (λm=>ZH S S m) l (ZH S S l))) (pSmS (SG S (λl=>ZH S S l)) HB (bA k) (LI S)) (BZ (EF (LI S) 0) 25)) (FB (λl=>RL (JJ (CU (bI S) (Ow S) (Xz l (QS (Hy k) 2)) (YO (LI S) S (λm=>ZH S S m)) (λm=>Lq m S (XV S (Pv l 0 (AKG S) (Nd S) (KH S)) m) (Vj (SG S (λn=>ZH S S n)) HB (LI S) m)))) l 1 l j)) (λl=>RL (JJ (YM (bI S) (Ow S) (Xz l (QS (Hy k) 2)) (λm=>Lq m S (XV S (Pv l 0 (AKG S) (Nd S) (KH S)) m) (ZH S S m)))) l 1 l j)))) (VW (LI S) (λk=>Lq k S (XV S (mL S) k) (XV S (Pv j 0 (AKG S) (Nd S) (KH S)) k))))))):=by kernel_rfl
def C_insE:Ctr:={ α:=One,xs:=λ_=>[.d ZU,.int 0,.int 0,bT],val:=λ_=>.d (.tup []) }
def dInE:List AVal->Heap->Option (One×List (Nat×Nat)×List Nat)
 |[.d (.list 0 0 _ _),.d _,.d _,.fn (.func f) [] []],_=>if f=SN then some (default,[],[]) else none
 |_,_=>none
def iE1:Shape:={ α:=One,dflt:=default,T:=λ_=>⟨[(0,.d ZU),(1,.int 0),(2,.int 0),(3,bT),(8,.int 1)],[]⟩,inv:=λ_=>True,meas:=λ_=>0 }
def CDF:Ann:={ ann 53 [(SN,C_pv1.spec dGsP)] with loops:=λid=>if id=1 then some [iE1] else if id=4 then some [] else none }
def CAZ(_x:One):Prop:=BQ Try.prog CDF AOA (AI AOA) [.d ZU,.int 0,.int 0,bT] (AD []) (.d (.tup [])) [] [] []
theorem CIG(_x:One):(CAZ _x)=(And (Dg (Yz AL DH BY (AO (UM 1) (UM ((@HMod.hMod Nat Nat Nat (@instHMod Nat Nat.instMod)) (EO 0) (hd65 (AQO 2 (IntKind.bits IntKind.i64)))))))) (Lt FP FP)):=by kernel_rfl
def C_stE:Ctr:={ α:=One,xs:=λ_=>[.d ZU,.int 0,bT],val:=λ_=>.d (.tup []) }
def dStE:List AVal->Heap->Option (One×List (Nat×Nat)×List Nat)
 |[.d (.list 0 0 _ _),.d _,.fn (.func f) [] []],_=>if f=SN then some (default,[],[]) else none
 |_,_=>none
def sbE(r:List (Nat×AVal)):Shape:={ α:=One,dflt:=default,T:=λ_=>⟨[(0,.d ZU),(1,.int 0),(2,bT),(6,.int 20)] ++ r,[]⟩,inv:=λ_=>True,meas:=λ_=>0 }
def CJT:Ann:={ ann 63 [(ANW,C_insE.spec dInE)] with loops:=λid=>if id=2 then some [sbE [(7,.int 0),(8,.int 20)]] else if id=7 then some [sbE []] else none }
def CKJ(_x:One):Prop:=BQ Try.prog CJT BDI (AI BDI) [.d ZU,.int 0,bT] (AD []) (.d (.tup [])) [] [] []
theorem CQA(_x:One):(CKJ _x)=(And (Dg (JJ (AOY DH BY dS))) (Lt FP (DE AL (Jm DH BY) (Vu (λi=>DY AL DH BY dS FP)) (Lt FP FP)))):=by kernel_rfl
structure SS where
 s:List (List Gau)
 a:Int
 b:Int
 e:Bool
def xSS(a:SS):AVal:=bif a.e then .d ZU else oSS a.s
def lSS(a:SS):List (Nat×AObj):=bif a.e then [] else [(100,rowS a.s)]
def kSS(a:SS):List (Nat×HCell):=bif a.e then [] else glS a.s (mL a.s)
def pSS(a:SS):Prop:=bif a.e then True else okSs a.s
def dSSt:List AVal->Heap->Option (SS×List (Nat×Nat)×List Nat)
 |[.own id _ _ n,.fn (.func f) [] []],H=>if f=SN then match H id with
  | .live (.row _ _ r)=>some (⟨MK n λi=>dGsD (r i),0,0,false⟩,[(100,id)],[])
  |_=>none else none
 |[.d (.list 0 0 _ _),.fn (.func f) [] []],_=>if f=SN then some (⟨[],0,0,true⟩,[],[]) else none
 |_,_=>none
def C_ssS:Ctr:={ α:=SS,xs:=λa=>[xSS a,bT],L:=lSS,val:=λ_=>.d (.tup []),keep:=kSS,pre:=λa=>[pSS a] }
def CKQ:Ann:={ ann 9 [(ATJ,C_stN.spec dSYs)] with E:=[100] }
def CNB(S:List (List Gau)):Prop:=BQ Try.prog CKQ BCC (AI BCC) [oSS S,bT] (AD [(100,rowS S)]) (.d (.tup [])) (glS S (mL S)) [] []
theorem CPX(S:List (List Gau)):(CNB S)=(EI AL (Ny S (λi=>SI S i) S) (Ow S) (CU (Ny S (λi=>SI S i) S) (AK (λi=>Be i S (λj=>SI S j) (λj=>SI S j) i (SI S i))) (YO (LI S) S (λi=>SI S i)) (Gw (Hg S (λi=>SI S i))) (λi=>AT i (Hg S (λj=>SI S j)) (MW (CI (mI S (λj=>SI S j) i))))) (YO (LI S) S (λi=>SI S i)) (AK (λi=>Lq i S (XV S (mL S) i) (XV (SG S (λj=>SI S j)) (mL (SG S (λj=>SI S j))) i)))):=by kernel_rfl
def CJU:Ann:=ann 9 [(ATJ,C_stE.spec dStE)]
def CJK(_x:One):Prop:=BQ Try.prog CJU BCC (AI BCC) [.d ZU,bT] (AD []) (.d (.tup [])) [] [] []
theorem COL(_x:One):(CJK _x)=(Vc (IW DH BY)):=by kernel_rfl
theorem p_mv(w:NS)(hS:pSmS w.a.s w.a.x w.a.y w.a.z)(hN:w.a.z-w.a.x<w.n+1):V_mv w:=by
 rw[CTV]<;> delta qD XL EE EC DP GD CS AO Mo KO AR AK BV BZ CM AQ BU DD ES LX EF Ba UT BK DZ Iv OL CI EZ FB LZ AKA AQO EU LM IY XS yN LI TP cF Gx Nc SI Nd AG GT GV DG AF AT AH UW FF Jn CA CF BH AM BL GQ SC Vr AP XV HA BR AS AW DX HV EO SF DU CR APW AX BP BC HH GA EH CQ HL AN ASZ AL FJ RI JZ AZ Bl PM zH EP SG BE ED AUU BW BOX AJM HU XY Br Lx HI FZ AJW II JA JB CL CU MH kH EA Ab HY NU FU DV ZZ BNM Vj EM GF FE CB EW FM FK FD KL LN MW Bt HC IT Hg VZ LL FL Af OG AML CE kN NT HN BB TU VW DY eC HP FO AQB RN DE QC Ly ME TT PL IW UD Fj XQ eG JJ Ok ZO Tl NR YF Ui WV IR KC XC XG LO ZD Ku kW Cp XJ nD mI Aq UJ Hx NJ Gd YO UI Iq Dr Ma YM XF YL Fk Dk Vi AOW Ci Us Pg VJ Ce Pw Yv Rm Gj Qe Uv Kr gN Yh Yk fK Zv Zo Cd Uo dY Iz Je Zp Be oE;simp only[CC,eq_self,implies_true,forall_const,BAX]
 have h:pSm (DM w.a.s) w.a.s.length (KH w.a.s) w.a.x w.a.y w.a.z:=hS.of
 have hne:=hS.ne
 have hn:=ASL w.a.s
 have hs0:w.a.s.length<=24:=hS.ln
 obtain⟨d1,d2,d3⟩:=hS.d
 have hl:=h.ln
 have hr:∀{i:Nat},i<w.a.s.length->0<(gD w.a.s (gD (KH w.a.s) i).toNat).length:=λ{i} hi=>(by have:=AYJ h.i (show i<(KH w.a.s).length by omega);exact hne _ (by omega))
 have w1:IntKind.i64.wrap ((w.a.y:Int)-w.a.x)=((w.a.y-w.a.x:Nat):Int):=by rw[JH (by omega) (by omega)];omega
 have w2:IntKind.i64.wrap ((w.a.z:Int)-w.a.y)=((w.a.z-w.a.y:Nat):Int):=by rw[JH (by omega) (by omega)];omega
 have hM:IntKind.i64.wrap (IntKind.u64.wrap (IntKind.i64.wrap ((w.a.x:Int)+w.a.z)) / 2 ^ Int.toNat 1)=((mV w.a:Nat):Int):=half (by omega)
 have eM:mV w.a=(w.a.x+w.a.z) / 2:=rfl
 have r0:∀i,i<w.a.s.length->(gD w.a.s (gD (KH w.a.s) i).toNat).length=(gD w.a.s i).length/\∀k,k<(gD w.a.s (gD (KH w.a.s) i).toNat).length->(gD (gD w.a.s (gD (KH w.a.s) i).toNat) k).st=(gD (gD w.a.s i) k).st/\(gD (gD w.a.s (gD (KH w.a.s) i).toNat) k).lo=(gD (gD w.a.s i) k).lo/\(gD (gD w.a.s (gD (KH w.a.s) i).toNat) k).hi=(gD (gD w.a.s i) k).hi:=λi hi=>UZ (by rw[rZ hi,Int.toNat_natCast])
 have er0:(MK w.a.s.length λi=>gD w.a.s (gD (KH w.a.s) i).toNat)=w.a.s:=by
  refine dP (APK _ _) λi hi=>?_
  rw[APK] at hi
  rw[AWC hi,rZ hi,Int.toNat_natCast]
 rw[w1,w2,hM]
 refine⟨λc1=>?_,λc1=>⟨λc2=>?_,λc2=>?_⟩⟩
 ·have e:w.a.y=w.a.x+1:=by
   have:((w.a.y-w.a.x:Nat):Int)=1:=by simpa using c1
   omega
  refine⟨⟨⟨w.a.y,w.a.z⟩,⟨rfl,rfl,r0⟩,lo_0 h e,e⟩,λs ⟨s1,_⟩=>?_⟩
  obtain⟨q1,q2,q3⟩:=s1.d
  have hf:IntKind.i64.wrap (IntKind.u64.wrap (IntKind.i64.wrap ((s.a:Int)+s.b)) / 2 ^ Int.toNat 1)=(((s.a+s.b) / 2:Nat):Int):=half (by omega)
  have hf':IntKind.i64.wrap (IntKind.u64.wrap (IntKind.i64.wrap ((s.a:Int)+s.b)) / 2 ^ 1)=(((s.a+s.b) / 2:Nat):Int):=hf
  rw[hf,hf']
  simp only[Int.toNat_natCast]
  refine⟨λhlt=>⟨by omega,⟨⟨by omega,by omega⟩,by omega,⟨by omega,by omega⟩,by omega,hr (by omega),hr (by omega)⟩,λc=>⟨⟨(s.a+s.b) / 2+1,s.b⟩,⟨(CN (by omega)).symm,rfl⟩,⟨CMC h e s1 (show s.a<s.b by omega) (Tb.1 c),e⟩,by show s.b-((s.a+s.b) / 2+1)<s.b-s.a;omega⟩,λc=>⟨⟨s.a,(s.a+s.b) / 2⟩,⟨rfl,rfl⟩,⟨CLK h e s1 (show s.a<s.b by omega) (λq=>c (Tb.2 q)),e⟩,by show (s.a+s.b) / 2-s.a<s.b-s.a;omega⟩⟩,λhge=>?_⟩
  have es:s.b=s.a:=by omega
  rw[es] at s1
  refine⟨⟨⟨s.a,w.a.x⟩,⟨rfl,rfl,λi hi=>?_⟩,⟨s1,e⟩,Nat.le_refl _,by show w.a.x<s.a;omega⟩,λt ⟨⟨t1,_⟩,t2,t3⟩=>?_⟩
  ·exact UZ (by show gD w.a.s (gD (KA (KH w.a.s) w.a.x (w.a.x+1) (w.a.x+1)) i).toNat=_;rw[AKC (by omega) (Nat.le_refl _) (.inr rfl)])
  ·obtain⟨r1,r2,r3⟩:=t1.d
   have wt:IntKind.i64.wrap ((t.a:Int)-1)=((t.a-1:Nat):Int):=by rw[JH (by omega) (by omega)];omega
   have wb:IntKind.i64.wrap ((t.b:Int)+1)=((t.b+1:Nat):Int):=by rw[JH (by omega) (by omega)];omega
   rw[wt,wb];simp only[Int.toNat_natCast]
   refine⟨λhlt=>⟨⟨⟨by omega,by omega⟩,by omega,⟨by omega,by omega⟩,by omega,⟨by omega,by omega⟩,by omega,⟨by omega,by omega⟩,by omega⟩,⟨t.a,t.b+1⟩,⟨rfl,rfl,λi hi=>?_⟩,⟨⟨t1,e⟩,by show w.a.x<=t.b+1;omega,by show t.b+1<t.a;omega⟩,by show t.a-(t.b+1)<t.a-t.b;omega⟩,λhge i hi=>?_⟩
   ·exact BOA (AWK (by show gD (KA (KH w.a.s) w.a.x (w.a.x+1) (t.b+1+1)) i=_;exact CLP t2 (by omega) (by omega)))
   ·exact UZ (by rw[show t.b+1=t.a by omega,BXU h e t1])
 ·have e:w.a.z=w.a.y+1:=by
   have:((w.a.z-w.a.y:Nat):Int)=1:=by simpa using c2
   omega
  refine⟨⟨⟨w.a.x,w.a.y⟩,⟨rfl,rfl,r0⟩,hi_0 h,e⟩,λs ⟨s1,_⟩=>?_⟩
  obtain⟨q1,q2,q3⟩:=s1.d
  have hf:IntKind.i64.wrap (IntKind.u64.wrap (IntKind.i64.wrap ((s.a:Int)+s.b)) / 2 ^ Int.toNat 1)=(((s.a+s.b) / 2:Nat):Int):=half (by omega)
  have hf':IntKind.i64.wrap (IntKind.u64.wrap (IntKind.i64.wrap ((s.a:Int)+s.b)) / 2 ^ 1)=(((s.a+s.b) / 2:Nat):Int):=hf
  rw[hf,hf']
  simp only[Int.toNat_natCast]
  refine⟨λhlt=>⟨by omega,⟨⟨by omega,by omega⟩,by omega,⟨by omega,by omega⟩,by omega,hr (by omega),hr (by omega)⟩,λc=>⟨⟨(s.a+s.b) / 2+1,s.b⟩,⟨(CN (by omega)).symm,rfl⟩,⟨CJE h s1 (show s.a<s.b by omega) (λq=>c (Tb.2 q)),e⟩,by show s.b-((s.a+s.b) / 2+1)<s.b-s.a;omega⟩,λc=>⟨⟨s.a,(s.a+s.b) / 2⟩,⟨rfl,rfl⟩,⟨CJN h s1 (show s.a<s.b by omega) (Tb.1 c),e⟩,by show (s.a+s.b) / 2-s.a<s.b-s.a;omega⟩⟩,λhge=>?_⟩
  have es:s.b=s.a:=by omega
  rw[es] at s1
  refine⟨⟨⟨s.a,w.a.y⟩,⟨rfl,rfl,λi hi=>?_⟩,⟨s1,e⟩,by show s.a<=w.a.y;omega,Nat.le_refl _⟩,λt ⟨⟨t1,_⟩,t2,t3⟩=>?_⟩
  ·exact UZ (by show gD w.a.s (gD (KA (KH w.a.s) w.a.y w.a.y (w.a.y+1)) i).toNat=_;rw[AKC (Nat.le_refl _) (by omega) (.inl rfl)])
  ·obtain⟨r1,r2,r3⟩:=t1.d
   have wb:(t.b:Int)>t.a->IntKind.i64.wrap ((t.b:Int)-1)=((t.b-1:Nat):Int):=λhb=>by rw[JH (by omega) (by omega)];omega
   refine⟨λhlt=>?_,λhge i hi=>?_⟩
   ·rw[wb hlt];simp only[Int.toNat_natCast]
    refine⟨⟨⟨by omega,by omega⟩,by omega,⟨by omega,by omega⟩,by omega,⟨by omega,by omega⟩,by omega,⟨by omega,by omega⟩,by omega⟩,⟨t.a,t.b-1⟩,⟨rfl,rfl,λi hi=>?_⟩,⟨⟨t1,e⟩,by show t.a<=t.b-1;omega,by show t.b-1<=w.a.y;omega⟩,by show t.b-1<_;omega⟩
    exact BOA (AWK (by show gD (KA (KH w.a.s) (t.b-1) w.a.y (w.a.y+1)) i=_;exact BOC (by omega) t3 (by omega) (by omega)))
   ·exact UZ (by rw[show t.b=t.a by omega,BXF h e t1])
 ·have m1:w.a.y-w.a.x≠1:=λq=>by rw[q] at c1;cases c1
  have m2:w.a.z-w.a.y≠1:=λq=>by rw[q] at c2;cases c2
  have k1:IntKind.i64.wrap ((mV w.a:Int)+w.a.y)=((mV w.a:Int)+w.a.y):=JH (by omega) (by omega)
  have k2:IntKind.i64.wrap ((mV w.a:Int)+w.a.y-1)=(mV w.a:Int)+w.a.y-1:=JH (by omega) (by omega)
  have k3:IntKind.i64.wrap ((mV w.a:Int)+w.a.y-w.a.z)=(mV w.a:Int)+w.a.y-w.a.z:=JH (by omega) (by omega)
  rw[k1,k2,k3]
  refine⟨by omega,⟨λc=>⟨⟨yC w.a.x w.a.y w.a.z,qT w.a.x w.a.y w.a.z⟩,⟨rfl,rfl,?_,?_,r0⟩,rfl,rfl⟩,λc=>⟨⟨yC w.a.x w.a.y w.a.z,qT w.a.x w.a.y w.a.z⟩,⟨rfl,rfl,?_,?_,r0⟩,rfl,rfl⟩⟩,λs0 ⟨u1,u2⟩=>⟨⟨s0,⟨rfl,rfl,rfl⟩,?_⟩,λs s1=>?_⟩⟩
  ·show ((yC w.a.x w.a.y w.a.z:Nat):Int)=_
   unfold yC;rw[if_pos (by omega)];omega
  ·show ((qT w.a.x w.a.y w.a.z:Nat):Int)=_
   unfold qT;rw[if_pos (by omega)];rfl
  ·show ((yC w.a.x w.a.y w.a.z:Nat):Int)=_
   unfold yC;rw[if_neg (by omega)]
  ·show ((qT w.a.x w.a.y w.a.z:Nat):Int)=_
   unfold qT;rw[if_neg (by omega)]
  ·rw[u1,u2];exact bi_0 h
  ·obtain⟨q1,q2,q3⟩:=s1.d
   have hR:qT w.a.x w.a.y w.a.z<=w.a.y:=by unfold qT;split<;>omega
   have hf:IntKind.i64.wrap (IntKind.u64.wrap (IntKind.i64.wrap ((s.a:Int)+s.b)) / 2 ^ Int.toNat 1)=(((s.a+s.b) / 2:Nat):Int):=half (by omega)
   have hf':IntKind.i64.wrap (IntKind.u64.wrap (IntKind.i64.wrap ((s.a:Int)+s.b)) / 2 ^ 1)=(((s.a+s.b) / 2:Nat):Int):=hf
   have r0:s.a<s.b->(w.a.x<=(s.a+s.b) / 2/\(s.a+s.b) / 2<w.a.y)/\w.a.y<=mV w.a+w.a.y-1-(s.a+s.b) / 2/\mV w.a+w.a.y-1-(s.a+s.b) / 2<w.a.z:=λq=>AEG ⟨d1,d2⟩ (by omega) (by omega)
   refine⟨λhlt=>?_,λhge=>?_⟩
   ·have r0:=r0 (by omega)
    have kp:IntKind.i64.wrap ((mV w.a:Int)+w.a.y-1-(((s.a+s.b) / 2:Nat):Int))=((mV w.a+w.a.y-1-(s.a+s.b) / 2:Nat):Int):=by rw[JH (by omega) (by omega)];omega
    rw[hf,hf',kp];simp only[Int.toNat_natCast]
    exact⟨by omega,⟨⟨by omega,by omega⟩,by omega,⟨by omega,by omega⟩,by omega,hr (by omega),hr (by omega)⟩,λc=>⟨⟨(s.a+s.b) / 2+1,s.b⟩,⟨(CN (by omega)).symm,rfl⟩,CMJ h s1 (show s.a<s.b by omega) (λq=>c (Tb.2 q)),by show s.b-((s.a+s.b) / 2+1)<s.b-s.a;omega⟩,λc=>⟨⟨s.a,(s.a+s.b) / 2⟩,⟨rfl,rfl⟩,CKX h s1 (show s.a<s.b by omega) (Tb.1 c),by show (s.a+s.b) / 2-s.a<s.b-s.a;omega⟩⟩
   ·have es:s.b=s.a:=by omega
    rw[es] at s1
    have I:=BTY h s1
    have dm:=Ud d1 d2 I.lo I.hi
    rw[<-eM] at dm
    have kE:IntKind.i64.wrap ((mV w.a:Int)+w.a.y-s.a)=((mvE w.a s.a:Nat):Int):=by
     unfold mvE;rw[JH (by omega) (by omega)];omega
    have eE:∀s,mvE w.a s=mV w.a+w.a.y-s:=λ_=>rfl
    have eS:=eE s.a
    rw[kE,er0];simp only[Int.toNat_natCast]
    refine⟨⟨λc=>⟨⟨trivial,λi hi=>UZ (by rw[rZ hi,Int.toNat_natCast]),by omega,?_,?_,by omega⟩,s.a,⟨rfl,rfl,λ_ _=>rfl3 _⟩,I⟩,λc=>⟨s.a,⟨rfl,rfl,λi hi=>?_⟩,I⟩⟩,λt I=>?_⟩
    ·cases q:decide ((s.a:Int)<w.a.y) with
     |false=>rw[q] at c;cases c
     |true=>have:=of_decide_eq_true q;omega
    ·cases q:decide ((s.a:Int)<w.a.y) with
     |false=>rw[q] at c;cases c
     |true=>
      rw[q] at c
      have:=of_decide_eq_true (show decide ((w.a.y:Int)<(mvE w.a s.a:Nat))=true from c);omega
    ·have hz:KA (KH w.a.s) s.a w.a.y (mvE w.a s.a)=KH w.a.s:=by
      refine AKC (by omega) (by omega) ?_
      cases q:decide ((s.a:Int)<w.a.y) with
      |false=>have:=of_decide_eq_false q;left;omega
      |true=>
       rw[q] at c
       have:=of_decide_eq_false (show decide ((w.a.y:Int)<(mvE w.a s.a:Nat))=false from c);right;omega
     exact UZ (by rw[hz])
    ·have dm:=Ud d1 d2 I.lo I.hi
     rw[<-eM] at dm
     have eT:=eE t
     have l1:(KA (KH w.a.s) t w.a.y (mvE w.a t)).length=w.a.s.length:=by rw[TF,hn]
     have er:(MK w.a.s.length λi=>gD w.a.s (gD (KA (KH w.a.s) t w.a.y (mvE w.a t)) i).toNat)=cpS w.a.s (KA (KH w.a.s) t w.a.y (mvE w.a t)):=rfl
     rw[er];simp only[AUZ,Ls]
     refine⟨⟨λc=>?_,λc=>?_⟩,λv I=>?_⟩
     ·have cc:w.a.x<t/\t<mV w.a:=by
       cases q:decide ((w.a.x:Int)<t) with
       |false=>rw[q] at c;cases c
       |true=>
        rw[q] at c
        have:=of_decide_eq_true q
        have:=of_decide_eq_true (show decide ((t:Int)<(mV w.a:Nat))=true from c);omega
      have P:=BLL h I cc
      exact⟨⟨λi hi=>UZ (qE hi),P.cp l1 hne,by omega⟩,t,⟨rfl,rfl,λi hi=>UZ (BBQ l1 (by omega) (by omega) P.tie hi).symm⟩,I⟩
     ·have cc:¬(w.a.x<t/\t<mV w.a):=λ⟨x1,x2⟩=>by
       rw[decide_eq_true (show (w.a.x:Int)<t by omega),decide_eq_true (show (t:Int)<(mV w.a:Nat) by omega)] at c;cases c
      have E0:GO (DM w.a.s) (KA (KH w.a.s) t w.a.y (mvE w.a t)) w.a.x (mV w.a)=KA (KH w.a.s) t w.a.y (mvE w.a t):=BCB h I cc
      exact⟨t,⟨rfl,rfl,λi hi=>UZ (by rw[E0])⟩,I⟩
     ·have dm:=Ud d1 d2 I.lo I.hi
      rw[<-eM] at dm
      have eT:=eE v
      have l1:(GO (DM w.a.s) (KA (KH w.a.s) v w.a.y (mvE w.a v)) w.a.x (mV w.a)).length=w.a.s.length:=by rw[UR (by omega),TF,hn]
      have er:(MK w.a.s.length λi=>gD w.a.s (gD (GO (DM w.a.s) (KA (KH w.a.s) v w.a.y (mvE w.a v)) w.a.x (mV w.a)) i).toNat)=cpS w.a.s (GO (DM w.a.s) (KA (KH w.a.s) v w.a.y (mvE w.a v)) w.a.x (mV w.a)):=rfl
      rw[er];simp only[AUZ,Ls]
      have E:GO (DM w.a.s) (GO (DM w.a.s) (KA (KH w.a.s) v w.a.y (mvE w.a v)) w.a.x (mV w.a)) (mV w.a) w.a.z=GO (DM w.a.s) (KH w.a.s) w.a.x w.a.z:=BZN h I
      refine⟨λc=>?_,λc i hi=>?_⟩
      ·have cc:mV w.a<mvE w.a v/\mvE w.a v<w.a.z:=by
        cases q:decide (((mV w.a:Nat):Int)<(mvE w.a v:Nat)) with
        |false=>rw[q] at c;cases c
        |true=>
         rw[q] at c
         have:=of_decide_eq_true q
         have:=of_decide_eq_true (show decide (((mvE w.a v:Nat):Int)<w.a.z)=true from c);omega
       have P:=BCI h I cc
       exact⟨⟨λi hi=>UZ (qE hi),P.cp l1 hne,by omega⟩,λi hi=>UZ (by
        have:=BBQ l1 (show mV w.a<=w.a.z by omega) d3 P.tie hi
        rw[E] at this;exact this.symm)⟩
      ·have cc:¬(mV w.a<mvE w.a v/\mvE w.a v<w.a.z):=λ⟨x1,x2⟩=>by
        rw[decide_eq_true (show ((mV w.a:Nat):Int)<(mvE w.a v:Nat) by omega),decide_eq_true (show ((mvE w.a v:Nat):Int)<w.a.z by omega)] at c;cases c
       have E0:GO (DM w.a.s) (GO (DM w.a.s) (KA (KH w.a.s) v w.a.y (mvE w.a v)) w.a.x (mV w.a)) (mV w.a) w.a.z=GO (DM w.a.s) (KA (KH w.a.s) v w.a.y (mvE w.a v)) w.a.x (mV w.a):=AUN h I cc
       exact UZ (by rw[<-E0,E])
theorem CKY:∀n,AJ Try.prog AWI ((C_mv n).spec dSX)
 |0=>okT (C_mv 0) (λ(a:SX) h=>absurd (show pSmS a.s a.x a.y a.z/\a.z-a.x<0 from h).2 (Nat.not_lt_zero _)) _
 |n+1=>VD (C_mv (n+1)) (λa=>A_mv ⟨n,a⟩) [] [] CIT (λ_=>by kernel_rfl) (λ_=>AC BFV (AC CEC (AC (CKY n) AE))) (λ(a:SX) h=>p_mv ⟨n,a⟩ h.1 h.2) (λ_=>WK rfl rfl) _
theorem CTT(S:List (List Gau))(h:okSs S):CMH S:=by
 rw[CNQ]<;> delta F3 EE EC DP GD CS AO AR AK BV BZ CM AQ BU LX EF UM mT CI EZ FB EU LM IY Jv LI SI Nd AG DG AF AT AH FF Jn CA CF AM BL Vr AP XV BR AS AW DX CR AX qJ GA CQ AN ASZ AL Bl EP SG BE AUU BW Eu XY FZ CL CU RH Vj EM FE CB EW FM FK FD LN Hg HB VZ LL FL XR EV AKG NT BY QS BD TU VW HP GE DJ IW JJ EI MV oF KC ZH LO Ku VF WO mI VH fF YO UI YM Hy Ow VJ RL bI Gj bA Lq Xz Ny Pv dS mR Be;simp only[CC,eq_self,implies_true,forall_const,BAX]
 obtain⟨h1,hne⟩:=h
 have hn:=ASL S
 have h2:inR S.length (KH S):=ADF _
 have h3:∀i j:Nat,i<j->j<S.length->gD (KH S) i<=gD (KH S) j:=λi j q1 q2=>by rw[rZ (by omega),rZ q2];omega
 have er:∀t,(MK S.length λi=>gD S (gD (GO (DM S) (KH S) 0 (20*t)) i).toNat)=cpS S (GO (DM S) (KH S) 0 (20*t)):=λ_=>rfl
 have er2:(MK S.length λi=>gD S (gD (stB (DM S) (KH S)) i).toNat)=cpS S (stB (DM S) (KH S)):=rfl
 refine⟨⟨0,⟨rfl,rfl,λi hi=>?_⟩,by omega,λq=>by omega⟩,λt ⟨t1,t2⟩=>⟨λhle=>?_,λhgt=>?_⟩⟩
 ·exact UZ (by show gD S (gD (GO (DM S) (KH S) 0 0) i).toNat=_;rw[cY,rZ hi,Int.toNat_natCast])
 ·have ht:t=0:=by omega
  subst ht
  have lt:(GO (DM S) (KH S) 0 (20*0)).length=S.length:=by rw[UR (Nat.zero_le _),hn]
  have e0:GO (DM S) (KH S) 0 (20*0)=KH S:=cY _ _ _
  have T:BCE (DM S) (GO (DM S) (KH S) 0 (20*0)) (20*0) (20*0+20):=λi j _ q1 q2 _=>by rw[e0];exact h3 i j q1 (by omega)
  rw[er 0];simp only[AUZ,Ls]
  exact⟨⟨λi hi=>UZ (qE hi),⟨by rw[Ls];omega,BXJ lt (Hh h2 (YU (Nat.zero_le _))) hne,⟨by omega,by rw[Ls];omega⟩⟩⟩,1,⟨rfl,by rw[JH (by omega) (by omega)];rfl,λi hi=>UZ (by
   have:=BBQ lt (show 20*0<=20*0+20 by omega) (by omega) T hi
   rw[e0] at this ⊢
   exact this.symm)⟩,⟨Nat.le_refl _,λ_=>by omega⟩,by omega⟩
 ·have lt:(GO (DM S) (KH S) 0 (20*t)).length=S.length:=by rw[UR (Nat.zero_le _),hn]
  have ht:20*t<=S.length:=by
   by_cases c:t=1
   ·have:=t2 c;omega
   ·omega
  have eo:∀k,20*t<=k->gD (GO (DM S) (KH S) 0 (20*t)) k=gD (KH S) k:=λk hk=>Av (Nat.zero_le _) (by omega) (.inr hk)
  have T:BCE (DM S) (GO (DM S) (KH S) 0 (20*t)) (20*t) S.length:=λi j q0 q1 q2 _=>by rw[eo i q0,eo j (by omega)];exact h3 i j q1 q2
  rw[er t];simp only[AUZ,Ls]
  refine⟨⟨λi hi=>UZ (qE hi),⟨by rw[Ls];omega,BXJ lt (Hh h2 (YU (Nat.zero_le _))) hne,⟨ht,by rw[Ls];omega⟩⟩⟩,⟨0,⟨rfl,λi hi=>UZ ?_⟩,by omega⟩,λs hs=>⟨λhlt=>?_,λhge i hi=>?_⟩⟩
  ·show gD S (gD (stB (DM S) (KH S)) i).toNat=_
   have e:(if 20<=(KH S).length then 20 else 0)=20*t:=by
    rw[hn]
    by_cases c:t=1
    ·rw[if_pos (by have:=t2 c;omega),c]
    ·rw[if_neg (by omega),show t=0 by omega]
   rw[BBQ lt ht (Nat.le_refl _) T hi]
   unfold stB;rw[e,hn]
  ·have es:s=0:=by omega
   subst es
   refine⟨⟨0,⟨rfl,by rw[JH (by omega) (by omega)];rfl,λ_ _=>rfl3 _⟩,rfl,rfl,by omega⟩,λv ⟨v1,v2,v3⟩=>⟨λh40=>by omega,λ_=>⟨λhm=>?_,λhm=>?_⟩⟩⟩
   ·subst v1
    have k:IntKind.i64.wrap (0+((20*0+20:Nat):Int))=((20:Nat):Int):=by rw[JH (by omega) (by omega)];rfl
    have eB:stB (DM S) (KH S)=GO (DM S) (GO (DM S) (KH S) 0 20) 20 (KH S).length:=by unfold stB;rw[hn,if_pos (by omega)]
    have lB:(stB (DM S) (KH S)).length=S.length:=by rw[eB,UR (by omega),UR (by omega),hn]
    obtain⟨P,E⟩:=BXD (key:=DM S) (n:=S.length) (l:=KH S) (by omega) h2 (λi j _ q1 q2=>h3 i j q1 (by omega)) (by omega)
    rw[<-eB,hn] at P E
    rw[er2,k];simp only[Int.toNat_natCast,AUZ,Ls]
    exact⟨⟨rfl,trivial,λi hi=>UZ (qE hi),P.cp lB hne,by omega⟩,1,⟨by rw[JH (by omega) (by omega)];rfl,λi hi=>UZ (by
     show gD S (gD (yG (DM S) (KH S)) i).toNat=gD (cpS S (stB (DM S) (KH S))) (gD (GO (DM (cpS S (stB (DM S) (KH S)))) (WH S.length) 0 S.length) i).toNat
     have:=BBQ lB (Nat.zero_le S.length) (Nat.le_refl _) P.tie hi
     rw[E] at this;exact this.symm)⟩,by omega,by omega⟩
   ·subst v1
    have k:IntKind.i64.wrap (0+((20*0+20:Nat):Int))=((20:Nat):Int):=by rw[JH (by omega) (by omega)];rfl
    rw[k] at hm;omega
  ·refine UZ ?_
   by_cases c:s=0
   ·rw[if_pos c,BDV (by omega)];rfl
   ·rw[if_neg c];rfl
theorem COR:AJ Try.prog ATJ (C_stN.spec dSYs):=okT C_stN (λ(a:SY) h=>by
 obtain⟨ha,h⟩:a.x=a.s.length/\okSs a.s:=h
 show FnT Try.prog ATJ [oSS a.s,.int a.x,bT] _ _ _
 rw[ha]
 exact Mn (A:=CLU a.s) (L:=C_stN.L a) (keep:=C_stN.keep a) (ren:=[]) (fz:=[]) CAC (by kernel_rfl) (AC CFV (AC (CKY 25) AE)) (CTT a.s h)) _
theorem CGC:AJ Try.prog ANW (C_insE.spec dInE):=VD C_insE (λ_=>CDF) [] [] BNE (λ_=>by kernel_rfl) (λ_=>AC BFV AE) (λ(a:One) h=>by
 show CAZ default;rw[CIG]<;> delta JT XL AO AR AK BV BZ UM hd65 FP AQO LM Vu XB AG AF AT AM BL JM Yz EO AL Hb RH Ks DH BY QA Dg Lt;simp only[CC,eq_self,implies_true,forall_const];exact⟨default,rfl⟩) (λ_=>WK rfl rfl) _
theorem CQW:AJ Try.prog ATJ (C_stE.spec dStE):=VD C_stE (λ_=>CJT) [] [] CAC (λ_=>by kernel_rfl) (λ_=>AC CGC AE) (λ(a:One) h=>by
 show CKJ default;rw[CQA]<;> delta JT XL AO AR AK BV BZ UM FP Vu XB AG AF AT AM Jm BL JM Cm AOY AN AL Hb RH Ks DH BY DY DE JJ QA Dg Lt dS;simp only[CC,eq_self,implies_true,forall_const];exact⟨default,trivial⟩) (λ_=>WK rfl rfl) _
theorem CAT:AJ Try.prog AVF (C_ssS.spec dSSt):=okT C_ssS (λ(a:SS) h=>by
 have h:pSS a:=h
 obtain⟨S,x,y,e⟩:=a
 cases e with
 |true=>
  show FnT Try.prog AVF [.d ZU,bT] (AD []) _ []
  exact Mn (A:=CJU) (L:=[]) (keep:=[]) (ren:=[]) (fz:=[]) BYS (by kernel_rfl) (AC CQW AE) (by show CJK default;rw[COL]<;> delta JT XL AO AR AK BV BZ UM FP AG AT AM BL JM AL Hb RH Ks DH BY IW Vc;simp only[CC,eq_self,implies_true,forall_const])
 |false=>
  have h:okSs S:=h
  show FnT Try.prog AVF [oSS S,bT] (AD [(100,rowS S)]) _ (glS S (mL S))
  refine Mn (A:=CKQ) (L:=[(100,rowS S)]) (keep:=glS S (mL S)) (ren:=[]) (fz:=[]) BYS (by kernel_rfl) (AC COR AE) ?_
  show CNB S
  rw[CPX]<;> delta EE EC DP AO AR AK BV BZ CM AQ BU CI EZ EU LI SI AG AF AT AH Jn CA CF AM BL AP XV BR AS AW DX CR GA AN AL EP SG BE XY CU EM FE EW FM FK MW Hg Gw NT TU EI Ku mI YO Ow Lq Ny Be;simp only[CC,eq_self,implies_true,forall_const,CKV]
  exact h) _
end Go.Bal
