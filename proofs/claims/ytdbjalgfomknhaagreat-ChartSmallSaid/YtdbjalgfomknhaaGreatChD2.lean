/- Package chart: times are narrowed. -/
import Derived.Test.YtdbjalgfomknhaaGreatChC
set_option linter.unusedVariables false
set_option linter.unusedSimpArgs false
namespace Go.Bal
open Go Go.Sym Go.Proofs
def C_gaps:Ctr:={ ro:=[100,101],α:=Dk,xs:=λ_=>[.bptr 100 0],L:=λw=>dkL w,val:=λ_=>.fn (.func bO) [] [.bptr 0 0],keep:=λw=>dkK w ++ [(0,.live (.box [.bptr 100 0]))] }
def CED:Ann:={ ann 4 [] with E:=[100,101] }
def CDK(w:Dk):Prop:=ES Try.prog CED BPK (AJ BPK) (C_gaps.xs w) (AD (C_gaps.L w)) (C_gaps.val w) (C_gaps.keep w) [(0,1000)] []
theorem CLW(w:Dk):(CDK w)=(Bq (WC w) (WR w) (YO w) (YI w) (YE w) (jH w w)):=by kernel_rfl
theorem AKC:AW Try.prog AMK (C_gaps.spec sX):=Je C_gaps (λ_=>CED) [(0,1000)] [] CMW (λ_=>by kernel_rfl) (λ_=>AK) (λ(w:Dk) _=>by
 show CDK w;rw[CLW]<;> delta MD BH BK DY EM EO CH AB CJ CE AY EB FX EC GY GX GR GG DV FO FU YU KM WU BN YV WT AH CK AX AI BC AV AF BI GJ AQ BB AC BZ CN Eh BF AE AO DD DC BR BE BS BJ Ch BQ LY BV ZK BM CY BY CF TV KL YS GD OT OR Cx DF OU HG LR Gi JG GP HQ XK VX JC VI FT TF RL Dv WR Cp WC YO YI YE XA Bq jH;simp) (λ_=>Kp rfl rfl) _
def farM(c:Cht)(g:Nat):Int:=wr ((gD c.ms (g+1)).pl-(gD c.ms g).pl)
def OG(w:Dk)(g:Nat):Span:=⟨wr (w.c.p.lo*farM w.c g),bif w.sp g then 200000000 else wr (w.c.p.hi*farM w.c g)⟩
def gapL(w:Dk):List Span:=NK (w.c.ms.length-1) λg=>OG w g
structure LIS where
 l:List Span
 k:Int
 s:Span
def upd1(l:List Span)(k:Int)(s:Span)(i:Nat):Span:=bif decide (i=k.toNat) then uN (gD l k.toNat) s else gD l i
def lkR(n:Nat)(f:Nat->Span):List (Nat×HCell):=[(100,.live (.box [.own 101 2 0 n])),(101,.live (.row 2 n λi=>MV (f i)))]
def C_nar1:Ctr:={ ro:=[100],α:=LIS,xs:=λa=>[.int a.k,.d (MV a.s),.bptr 100 0],L:=λa=>[(100,.box [.own 101 2 0 a.l.length]),(101,rowS a.l)],val:=λ_=>.d (.tup []),keep:=λa=>lkR a.l.length (upd1 a.l a.k a.s),pre:=λa=>[0<=a.k/\a.k<a.l.length] }
def CDM:List AVal->Heap->Option (LIS×List (Nat×Nat)×List Nat)
 |[.d k,.d s,.bptr id _],H=>match H id with
  | .live (.box [.own j _ _ _])=>match H j with
   | .live (.row _ n g)=>some (⟨NK n λi=>bV (g i),KN k,bV s⟩,[(100,id),(101,j)],[])
   |_=>none
  |_=>none
 |_,_=>none
def CAQ:Ann:={ ann 15 [(zQ,C_com.spec BKP)] with E:=[100,101] }
def CAC(a:LIS):Prop:=ES Try.prog CAQ BPT (AJ BPT) (C_nar1.xs a) (AD (C_nar1.L a)) (C_nar1.val a) (C_nar1.keep a) [] []
abbrev tV:=LIS.k
abbrev mF:=LIS.l
abbrev AJZ:=LIS.s
abbrev VW a b c:=ZS (BX a) b c
abbrev HZ a b:=VW a a b
attribute [go_sem] tV mF AJZ VW HZ
theorem CKZ(a:LIS):(CAC a)=(pY (WY (tV a) (IH (mF a)) (QP (CE (ZX (tV a)) (IH (mF a))) (ZP (mF a) (ZX (tV a))) (ZR (mF a) (ZX (tV a))) (KX (Ps (AJZ a)) 1) HN (λi=>UG i (Ps (AJZ a)) (AJZ a)) IU (HZ (tV a) (IH (mF a))) (XZ (tV a) (IH (mF a))))) (SK (mF a)) (λi=>QQ i (mF a) (BD (upd1 (mF a) (tV a) (AJZ a) i) (YD i (tV a) (BH (cX (OV (mF a) (ZX (tV a))) (Ps (AJZ a)))) (VG (mF a) i))) (BC (upd1 (mF a) (tV a) (AJZ a) i) (YD i (tV a) (BK (cX (OV (mF a) (ZX (tV a))) (Ps (AJZ a)))) (XB (mF a) i))))):=by kernel_rfl
theorem BUE:AW Try.prog ARL (C_nar1.spec CDM):=Je C_nar1 (λ_=>CAQ) [] [] CJV (λ_=>by kernel_rfl) (λ_=>AA BGA AK) (λ(a:LIS) h=>by
 show CAC a;rw[CKZ]<;> delta MD BH BK CH IH AB CJ CE AY OV CG CW HD KA Me LW HM IV ED NR WW tV mF AJZ AH AI BC AV AF BI GJ MK Sz AQ BB BZ BF BD AZ BG IS BL AG BX NU DN QQ SK HN ZX ZS EX ZR HU ZP KX IU LS VW HZ VG QP XB Ps XZ YD WY UG pP pY cX;simp only[CC,eq_self,implies_true,forall_const]
 have h:0<=a.k/\a.k<a.l.length:=h
 have e:comM ⟨gD a.l a.k.toNat,NK 1 λ_=>a.s⟩=uN (gD a.l a.k.toNat) a.s:=rfl
 refine⟨⟨h,by omega,by omega,λj hj=>by rw[FF _ _ _ hj];exact⟨rfl,rfl⟩,h,by omega⟩,λi hi=>?_⟩
 rw[e];unfold upd1
 cases decide (i=a.k.toNat)<;>exact⟨rfl,rfl⟩) (λ_=>Kp rfl rfl) _
def addS(a s:Span):Span:=⟨wr (a.lo+s.lo),wr (a.hi+s.hi)⟩
def subS(a s:Span):Span:=⟨wr (a.lo-s.hi),wr (a.hi-s.lo)⟩
def fwM(l:List Span)(s:Nat->Span):Nat->Span
 |0=>gD l 0
 |g+1=>uN (gD l (g+1)) (addS (fwM l s g) (s g))
def bkM(f s:Nat->Span)(n:Nat):Nat->Span
 |0=>f n
 |j+1=>uN (f (n-(j+1))) (subS (bkM f s n j) (s (n-(j+1))))
def XS(w:Dk)(l:List Span):List Span:=NK l.length λi=>bkM (fwM l (OG w)) (OG w) (l.length-1) (l.length-1-i)
structure DkS where
 w:Dk
 l:List Span
def dDkS:List AVal->Heap->Option (DkS×List (Nat×Nat)×List Nat)
 |[.bptr id _,y],H=>match ADS H id,rJ y H with
  |some (w,q),some (l,f)=>some (⟨w,l⟩,[(100,id),(101,q)],f)
  |_,_=>none
 |_,_=>none
def C_nar:Ctr:={ ro:=[100,101],α:=DkS,xs:=λa=>[.bptr 100 0,.d (HA a.l)],L:=λa=>dkL a.w,val:=λa=>.tup [.d (HA (XS a.w a.l)),.bool ((XS a.w a.l).all Od)],keep:=λa=>dkK a.w,pre:=λa=>[a.l.length=a.w.c.ms.length/\1<=a.w.c.ms.length/\a.w.c.ms.length<=40] }
def nrH(a:DkS)(f:Nat->Span)(p:AVal):List (Nat×HCell):=dkK a.w ++ [(2016,.live (.row 2 a.l.length λi=>MV (f i))),(2032,.live (.box [.own 2016 2 0 a.l.length])),(3000,.live (.box [p]))]
def gpS(a:DkS)(l k:Nat):List (Nat×AVal):=[(0,.fn (.yield l) [] []),(1,.bptr 4016 0),(12,.int (wr ((a.w.c.ms.length:Int)-1))),(13,.int k)]
def gpB:Nat×HCell:=(4016,.live (.box [.bptr 100 0]))
def gp1n(a:DkS)(l:Nat):Shape:={ α:=One,dflt:=default,T:=λ_=>⟨gpS a l 0,nrH a (gD a.l) (.d Ej) ++ [gpB]⟩,inv:=λ_=>True,meas:=λ_=>60 }
def gp1o(a:DkS)(l:Nat):Shape:={ α:=Nat,dflt:=0,T:=λk=>⟨gpS a l k,nrH a (gD a.l) (.own 302 2 0 k) ++ [gpB,(302,.live (.row 2 k λi=>MV (OG a.w i)))]⟩,inv:=λk=>1<=k/\k<=a.w.c.ms.length-1,meas:=λk=>50-k,again:=[(302,6048)] }
noncomputable def CFY(a:DkS):IterAnn:={ fn:=mK,code:=AJ mK,live:=[6,7],ann:={ base:=λid=>100000+1000*(id+1),Γ:=Sym.look [],E:=[100,101,2016,2032,3000,4016],n:=66,inner:=λgs id=>if id=1 then some [gp1n a (gs.getD 0 0),gp1o a (gs.getD 0 0)] else none } }
def nr6T(a:DkS):One->ST:=λ_=>⟨[(6,.bptr 2032 0),(7,.bptr 3000 0)],nrH a (gD a.l) (.d (HA (gapL a.w)))⟩
def nr6(a:DkS)(z:List Nat):Shape:={ α:=One,dflt:=default,T:=nr6T a,inv:=λ_=>True,meas:=λ_=>0,ffz:=z }
def nr7(a:DkS):Shape:={ α:=One,dflt:=default,T:=λ_=>⟨[(6,.bptr 2032 0),(7,.bptr 3000 0),(10,.fn (.func ARL) [] [.bptr 2032 0])],nrH a (gD a.l) (.d (HA (gapL a.w)))⟩,inv:=λ_=>True,meas:=λ_=>0 }
def nrF(a:DkS)(k i:Nat):Span:=bif decide (i<=k) then fwM a.l (OG a.w) i else gD a.l i
def nrB(a:DkS)(j i:Nat):Span:=bif decide (a.w.c.ms.length-1-j<=i) then bkM (fwM a.l (OG a.w)) (OG a.w) (a.w.c.ms.length-1) (a.w.c.ms.length-1-i) else fwM a.l (OG a.w) i
def nr8(a:DkS):Shape:={ α:=Nat,dflt:=0,T:=λk=>⟨[(6,.bptr 2032 0),(7,.bptr 3000 0),(10,.fn (.func ARL) [] [.bptr 2032 0]),(25,.d (HA (gapL a.w))),(26,.int (gapL a.w).length),(27,.int k)],nrH a (nrF a k) (.d (HA (gapL a.w)))⟩,inv:=λk=>k<=a.w.c.ms.length-1,meas:=λk=>50-k }
def nr13(a:DkS):Shape:={ α:=Nat,dflt:=0,T:=λj=>⟨[(6,.bptr 2032 0),(7,.bptr 3000 0),(10,.fn (.func ARL) [] [.bptr 2032 0]),(13,.int ((a.w.c.ms.length:Int)-2-j))],nrH a (nrB a j) (.d (HA (gapL a.w)))⟩,inv:=λj=>j<=a.w.c.ms.length-1,meas:=λj=>50-j }
noncomputable def BTI(a:DkS):Ann:={ ann 92 [(AII,C_clo.spec dSs1),(AMK,C_gaps.spec sX),(ARL,C_nar1.spec CDM),(n_eS,C4SnO.spec CSV)] with E:=[100,101],mt:=λid=>id==5,iter:=λg=>if g=bO then some (CFY a) else none,loops:=λid=>if id=8 then some [nr8 a] else if id=13 then some [nr13 a] else none,cut:=λid=>if id=6 then some [nr6 a [],nr6 a [302]] else if id=7 then some [nr7 a] else none }
def CPC(a:DkS):Prop:=ES Try.prog (BTI a) qK (AJ qK) (C_nar.xs a) (AD (C_nar.L a)) (C_nar.val a) (C_nar.keep a) [] [2016]
abbrev Bv:=DkS.l
abbrev lT:=DkS.w
abbrev M7 a b:=AH a b b
abbrev Qv a b:=Qj (λi=>CJ a b)
abbrev Dw a:=Qv IP a
abbrev Yc a b:=And a (Dw b)
abbrev Fe a b c d e f:=FA a b (EZ c d e f)
abbrev En a b:=JG a (lT b)
abbrev EW a:=BN (lT a)
abbrev VR a:=BQ (EW a)
abbrev XN a:=BV (EW a)
abbrev UX a:=BM (EW a)
abbrev lP a:=DF (EW a)
abbrev VE a:=BY (EW a)
abbrev BAT a(b:Nat->Span):=Yv (Bv a) b
abbrev Bs a b:=BAT a (λi=>nrB a b i)
abbrev xB a b:=XS (lT a) (Bv b)
abbrev Ot a:=IH (Bv a)
abbrev jR a b:=ML a (Bv b)
abbrev eW a b:=ML (Bv a) b
abbrev Fv a b c d:=IF a b 50 c d
abbrev WX a:=IG a 1
abbrev kZ a:=WX (AX a)
abbrev Uj a:=kZ (EW a)
abbrev tD a:=gapL (lT a)
abbrev Rt a:=RE (tD a)
abbrev Sr a:=SK (tD a)
abbrev YB a:=SK (Bv a)
abbrev rI a b:=VG (tD a) b
abbrev ADY a b:=Mr (MZ a) b
abbrev ARO a b c:=Mr (ADY a b) (CG c)
abbrev Dm a b:=ARO (EW a) 2 b
abbrev rE a b:=HM (Dm a b)
abbrev APL a b:=HR (Dm a b)
abbrev Ym a b:=ZX (APL a b)
abbrev pB a b:=XB (tD a) b
abbrev Ab a:=RL (EW a)
abbrev YQ a:=HQ (lT a)
abbrev Aa a:=XK (EW a)
abbrev Qb a:=HI (EW a)
abbrev Ah a:=HG (EW a)
abbrev Ec a:=JC (EW a)
abbrev Ae a:=GD (EW a)
abbrev Vx a:=EC (EW a)
abbrev Ld a b:=AY a (ZN b)
abbrev NH a b c d e f:=AI (CE a b) c d e f
abbrev Ri a:=IH (tD a)
abbrev Kk a b c:=And a (ED b c)
abbrev UT a b c d e f g h:=BB a b c d e f d g h
abbrev VJ a:=ZN (CG a)
abbrev rV a b c:=nrF a b (BG c)
abbrev Xr a b c:=BAT a (λi=>nrF b c i)
abbrev Mv a b c d e:=Qr (λi=>HV a b c d e)
abbrev J8 a:=RE (Bv a)
abbrev Xn a b:=Qr (λi=>And a b)
abbrev Dg a:=Xn a IP
abbrev UC a b c d e:=AI a b c (BV d) e
abbrev Kf a b:=OG (lT a) b
abbrev fN a:=AB (λi=>En i a)
abbrev fY a b:=FT a (EW b)
abbrev jD a b c:=AH (BI a) b c
abbrev nZ a b(c:Nat->Prop):=jD a b (KI c)
abbrev gF a b:=YP a (Uj b)
abbrev Ih a b c d e(f:Nat->Prop) g h:=KQ a LR b c d e f g h
abbrev oC a b(c:Nat->Prop):=pY (YB a) b c
abbrev Vn a b c:=Hd a (LH b c)
abbrev Ud a b:=BE (EW a) b
abbrev Ib a:=HM (FE a)
abbrev Wz a b:=Ud a (Ib b)
abbrev rB a b c:=Vn (BH a) b c
abbrev rS a b c:=rB (Vx a) b c
abbrev qT a b:=Bt a (Bv b)
abbrev Pd a:=wr (ADY a 1)
abbrev uR a:=Pd (EW a)
abbrev sK a:=AF (uR a)
abbrev Fy a:=(@Eq Fn) (Fn.yield a) (Fn.yield a)
abbrev eO a b c d:=Fx a HN 1 b c d
abbrev Hi a:=eO (Bb (BI a) a) Cd (Ep a) (Es a 16)
abbrev Jz a b:=DN (CG a) b
abbrev cN a b:=Jz a (AX b)
abbrev Oz a:=MJ 50 a 60
abbrev Hq:=eO Ln Hh He 16
abbrev Mi a b c d:=AI a b c b d
abbrev Kc a b c:=Mi a AG b c
abbrev sA a:=OM (Bv a)
abbrev MI a:=CE a 1073741824
attribute [go_sem] Bv lT M7 Qv Dw Yc Fe En EW VR XN UX lP VE BAT Bs xB Ot jR eW Fv WX kZ Uj tD Rt Sr YB rI ADY ARO Dm rE APL Ym pB Ab YQ Aa Qb Ah Ec Ae Vx Ld NH Ri Kk UT VJ rV Xr Mv J8 Xn Dg UC Kf fN fY jD nZ gF Ih oC Vn Ud Ib Wz rB rS qT Pd uR sK Fy eO Hi Jz cN Oz Hq Mi Kc sA MI
theorem CXG(a:DkS):(CPC a)=(HV (RJ (Bv a)) (Fa (Bv a)) (SN (sA a)) (MI (sA a)) (M7 (HV (VE a) (lP a) (UX a) (ZE (XN a) (VR a) (BW (EW a)) (DK (EW a)) (BO (EW a)) (AB (λi=>AT i (EW a) (AM (EW a) i) (AN (EW a) i) (AS (EW a) i) (AC (EW a) i) (AL (EW a) i) (AR (EW a) i) (AE (EW a) i))) (λi=>En i a) (Va (TE (EW a)) (YQ a) (MF (EW a)) (VE a) (EW a) (UX a) (XN a) (VR a) (TF (HS (EW a)) (Gc (EW a)) (KS (EW a)) (λi=>AU i (EW a) (EI (EW a) i) (EJ (EW a) i) (AC (EW a) i) (AS (EW a) i) (EH (EW a) i) (AE (EW a) i) (AR (EW a) i)) (λi=>En i a) (WJ (EW a)) (lT a) (VZ (EW a))))) (AB (λi=>Lf (Dg (AH (Fy i) (Ld (uR a) (MZ (EW a))) (QG BP (VE a) (EW a) (UX a) (XN a) (VR a) (Ae a) (λj=>GP j (EW a)) (VQ (Ah a) (Qb a) (λj=>En j a) (Aa a) (YQ a) (Ab a) (KX (Bv a) (sA a)) (Kc (AB (λj=>UG j (Bv a) (WO (Bv a) j))) (KX (Bv a) (sA a)) EY))))) (ON IP (FK 0 (uR a)) (Gv (FE 0) (EW a) (DX 0) (cN 0 (EW a))) (QN 0 40 (Xu 0) (FV (WT (lT a) 0) (nZ i Hq (λj=>AH (AI (Fy i) (sK a) (BA j 0) (VE a) (RR (EW a) (UX a) (XN a) (VR a) (Ae a) (Ec a) (Ah a) (λk=>fY k a) (Ih (fN a) (Aa a) (YQ a) (Ab a) (YB a) (λk=>qT k a) AG (oC a (LP j) (λk=>It k j (Kf a k) (rS a (Wz a 0) (Ud a 0)) 200000000))))) (gF j a) (Oz j))) (nZ i Hq (λj=>AH (AI (Fy i) (sK a) (BA j 0) (VE a) (RR (EW a) (UX a) (XN a) (VR a) (Ae a) (Ec a) (Ah a) (λk=>fY k a) (Ih (fN a) (Aa a) (YQ a) (Ab a) (YB a) (λk=>qT k a) AG (oC a (LP j) (λk=>It k j (Kf a k) (rS a (Wz a 0) (Ud a 0)) (Vn (BK (Vx a)) (Wz a 0) (Ud a 0))))))) (gF j a) (Oz j))))) (Pj (VE a) (CS (lP a) (UX a) (XN a) (VR a) (Ae a) (Ec a) (VQ (Ah a) (Qb a) (λj=>En j a) (Aa a) (YQ a) (Ab a) (YB a) (lW (J8 a) AG (YB a) (Ed (tD a))))))) (λj=>ON (gF j a) (FK j (uR a)) (Gv (FE j) (EW a) (DX j) (cN j (EW a))) (QN j 40 (Xu j) (FV (WT (lT a) j) (nZ i (Hi j) (λk=>Fv (AI (Fy i) (sK a) (BA k j) (VE a) (RR (EW a) (UX a) (XN a) (VR a) (Ae a) (Ec a) (Ah a) (λl=>fY l a) (Ih (fN a) (Aa a) (YQ a) (Ab a) (YB a) (λl=>qT l a) AG (oC a (PI k j) (λl=>It l k (Kf a l) (Sf l j (Kf a l) (rS a (Wz a j) (Ud a j))) (Rq l j (Kf a l) 200000000)))))) (gF k a) k j)) (nZ i (Hi j) (λk=>Fv (AI (Fy i) (sK a) (BA k j) (VE a) (RR (EW a) (UX a) (XN a) (VR a) (Ae a) (Ec a) (Ah a) (λl=>fY l a) (Ih (fN a) (Aa a) (YQ a) (Ab a) (YB a) (λl=>qT l a) AG (oC a (PI k j) (λl=>It l k (Kf a l) (Sf l j (Kf a l) (rS a (Wz a j) (Ud a j))) (Rq l j (Kf a l) (Vn (BK (Vx a)) (Wz a j) (Ud a j)))))))) (gF k a) k j)))) (Dg (UC (VE a) (lP a) (UX a) (EW a) (CF (VR a) (Ae a) (Ec a) (Ah a) (λk=>fY k a) (fN a) LR (Aa a) (BB (YQ a) (Ab a) (YB a) (J8 a) AG (YB a) (KX (tD a) j) (KC j) (AB (λk=>UG k (tD a) (Kf a (BG k)))))))))))) (Dw (Yc (Mv (VE a) (lP a) (UX a) (ZE (XN a) (VR a) (Ae a) (Ec a) (Ah a) (Qb a) (λi=>En i a) (UT (Aa a) (YQ a) (Ab a) (YB a) (J8 a) AG (Sr a) (Rt a))) IP) (HX (λi=>HV (Sr a) (Rt a) (EF (Ri a)) (Mb (CQ i) (VE a) (Vx a) (UX a) (ZE (XN a) (VR a) (Ae a) (Ec a) (Ah a) (Qb a) (λj=>En j a) (UT (Aa a) (YQ a) (Ab a) (YB a) (AB (λj=>XP j (Bv a) (nrF a i j) (Bv a))) AG (Sr a) (Rt a)))) (ED i (Uj a))) (λi=>FA i (Uj a) (Fb (JY i (Ri a)) (QN i (Ri a) (QN i (Ot a) (CE (BG i) (Ot a)) (AI (NJ i (Ot a)) (CE (BG i) (Ot a)) (AF (FE i)) (AF (EQ (BH (rV a i i)) (rI a i))) (pP (AF (EQ (BK (rV a i i)) (pB a i))) (jR (Xr a a i) a) (AI (AB (λj=>UG j (Xr a a i) (nrF a i j))) AG (eW a (Xr a a i)) (BX (FE i)) (DN (FE i) (IH (Xr a a i))))))) (KI (λj=>FH (Sr a) (AH (Rt a) (EF (Ri a)) (Mb (BA j i) (VE a) (Vx a) (UX a) (ZE (XN a) (VR a) (Ae a) (Ec a) (Ah a) (Qb a) (λk=>En k a) (CF (Aa a) (YQ a) (Ab a) (eW a (Xr a a i)) (λk=>LS k (Bv a) (nrF a j k) (upd1 (Xr a a i) (FE i) (Rc (EQ (BH (rV a i i)) (rI a i)) (EQ (BK (rV a i i)) (pB a i))) k)) AG (YB a) (Sr a) (Rt a))))) (ED j (Uj a)) 50 j i))) (λj=>Kk (Mb (AY (Dm a j) (VJ (Ri a))) (VE a) (Vx a) (UX a) (ZE (XN a) (VR a) (Ae a) (Ec a) (Ah a) (Qb a) (λk=>En k a) (UT (Aa a) (YQ a) (Ab a) (YB a) (AB (λk=>LS k (Bv a) (nrB a j k) (nrF a i k))) AG (Sr a) (Rt a)))) j (Uj a)) (λj=>Fe j (Uj a) (Lj (Dm a j)) (Qq (HZ (APL a j) (Ot a)) (CE (Ym a j) (Ot a)) (HZ (Dm a j) (Ri a)) (NH (Ym a j) (Ot a) (HZ (Dm a j) (Ri a)) (AF (Dm a j)) (AF (LH (BH (nrB a j (Ym a j))) (pB a (rE a j)))) (pP (AF (LH (BK (nrB a j (Ym a j))) (rI a (rE a j)))) (jR (Bs a j) a) (AI (AB (λk=>UG k (Bs a j) (nrB a j k))) AG (eW a (Bs a j)) (BX (Dm a j)) (DN (Dm a j) (IH (Bs a j))))))) (KI (λk=>Fv (Mb (Ld (Dm a k) (Dm a j)) (VE a) (Vx a) (UX a) (ZE (XN a) (VR a) (Ae a) (Ec a) (Ah a) (Qb a) (λl=>En l a) (CF (Aa a) (YQ a) (Ab a) (eW a (Bs a j)) (λl=>LS l (Bv a) (nrB a k l) (upd1 (Bs a j) (Dm a j) (Rc (LH (BH (nrB a j (Ym a j))) (pB a (rE a j))) (LH (BK (nrB a j (Ym a j))) (rI a (rE a j)))) l)) AG (YB a) (Sr a) (Rt a)))) (ED k (Uj a)) k j)) (DT AG (YX (jR (Bs a j) a) (Nq (AB (λk=>UG k (Bs a j) (nrB a j k))) (eW a (Bs a j)) (λk=>XP k (Bv a) (nrB a j k) (Bs a j)) (GW (IH (Bs a j))) IP)) (jR (xB a a) a) (IA (KC (Ot a)) (λk=>UG k (xB a a) (nrB a j (BG k))) (Ya (Ia (xB a a)) (Bs a j)) (VE a) (lP a) (UX a) (XN a) (VR a) (Cp (EW a) (λk=>En k a) (lT a)))))))))))):=by kernel_rfl
theorem BTY{L:Nat}{f:Nat->Span}{k:Int}{s:Span}{i:Nat}(hi:i<L)(hk:k.toNat<L):upd1 (NK L f) k s i=bif decide (i=k.toNat) then uN (f k.toNat) s else f i:=by
 unfold upd1;rw[FF _ _ _ hi,FF _ _ _ hk]
theorem BKD(a:DkS){k i:Nat}(hk:k+1<a.l.length)(hi:i<a.l.length):nrF a (k+1) i=upd1 (NK a.l.length λi=>nrF a k i) ((k+1:Nat):Int) (addS (nrF a k k) (OG a.w k)) i:=by
 rw[BTY hi (by show k+1<_;exact hk)]
 show _=bif decide (i=k+1) then uN (nrF a k (k+1)) _ else _
 by_cases h:i=k+1
 ·subst h
  simp only[nrF,Nat.le_refl,decide_true,cond_true,show ¬ k+1<=k by omega,decide_false,cond_false]
  rfl
 ·have e:decide (i<=k+1)=decide (i<=k):=by rw[decide_eq_decide];omega
  simp only[nrF,h,e,decide_false,cond_false]
theorem BMX(a:DkS){j i:Nat}(hl:a.l.length=a.w.c.ms.length)(hj:j+2<=a.l.length)(hi:i<a.l.length):nrB a (j+1) i=upd1 (NK a.l.length λi=>nrB a j i) ((a.w.c.ms.length-2-j:Nat):Int) (subS (nrB a j (a.w.c.ms.length-2-j+1)) (OG a.w (a.w.c.ms.length-2-j))) i:=by
 rw[BTY hi (by show a.w.c.ms.length-2-j<_;omega)]
 show _=bif decide (i=a.w.c.ms.length-2-j) then uN (nrB a j (a.w.c.ms.length-2-j)) _ else _
 by_cases h:i=a.w.c.ms.length-2-j
 ·have e1:decide (a.w.c.ms.length-1-(j+1)<=i)=true:=by rw[decide_eq_true_eq];omega
  have e2:decide (a.w.c.ms.length-1-j<=a.w.c.ms.length-2-j)=false:=by rw[decide_eq_false_iff_not];omega
  have e3:decide (a.w.c.ms.length-1-j<=a.w.c.ms.length-2-j+1)=true:=by rw[decide_eq_true_eq];omega
  have e4:a.w.c.ms.length-1-i=j+1:=by omega
  have e5:a.w.c.ms.length-1-(a.w.c.ms.length-2-j+1)=j:=by omega
  have e6:a.w.c.ms.length-1-(j+1)=a.w.c.ms.length-2-j:=by omega
  have e7:decide (i=a.w.c.ms.length-2-j)=true:=by rw[decide_eq_true_eq];exact h
  have e8:decide (a.w.c.ms.length-2-j<=i)=true:=by rw[decide_eq_true_eq];omega
  rw[e7]
  simp only[nrB,e2,e3,e4,e5,cond_true,cond_false,bkM,e6,e8]
 ·have e1:decide (a.w.c.ms.length-1-(j+1)<=i)=decide (a.w.c.ms.length-1-j<=i):=by rw[decide_eq_decide];omega
  simp only[nrB,h,e1,decide_false,cond_false]
theorem DBH(a:DkS)(h:a.l.length=a.w.c.ms.length/\1<=a.w.c.ms.length/\a.w.c.ms.length<=40):CPC a:=by
 obtain⟨hl,h1,h2⟩:=h
 have e1:wr ((a.w.c.ms.length:Int)-1)=((a.w.c.ms.length-1:Nat):Int):=by unfold wr;rw[Ap (by omega) (by omega)];omega
 have e2:IntKind.i64.wrap ((a.w.c.ms.length:Int)-1)=((a.w.c.ms.length-1:Nat):Int):=e1
 have gl:(gapL a.w).length=a.w.c.ms.length-1:=rng_length _ _
 have gg:∀{j:Nat},j<a.w.c.ms.length-1->gD (gapL a.w) j=OG a.w j:=λhj=>FF _ _ _ hj
 have lo:∀k,(OG a.w k).lo=IntKind.i64.wrap (a.w.c.p.lo*IntKind.i64.wrap ((gD a.w.c.ms (k+1)).pl-(gD a.w.c.ms k).pl)):=λ_=>rfl
 have hi1:∀k,a.w.sp k=true->(OG a.w k).hi=200000000:=λk h=>by unfold OG;rw[h];rfl
 have hi0:∀k,a.w.sp k=false->(OG a.w k).hi=IntKind.i64.wrap (a.w.c.p.hi*IntKind.i64.wrap ((gD a.w.c.ms (k+1)).pl-(gD a.w.c.ms k).pl)):=λk h=>by unfold OG;rw[h];rfl
 have ws:∀{k:Nat},k<40->IntKind.i64.wrap ((k:Int)+1)=((k+1:Nat):Int):=λh=>II (by omega)
 rw[CXG]<;> delta MD tJ Iv BH BK DY RD RU Mr EM EO CH IH AB CJ CE AY OV CG MY CW FV NL HD KA UI IG EB FX EC GY GX GR GG DV FO FU KI IP Me hd84 LW HM IV YU KM WU ED NR BN YV WT Qu Rc Qr Qj Lg bX Bv lT AH CK IW AX JE AI BC AV AF IK M7 IN BI GJ MK YX Sz Qq Mi lW AQ JB BB AC BZ CN Eh EW BF AE AO BD HK DD AZ DC BG BR BE BS BJ JQ Ch AR BQ IS UT Mb LY BV HF ZK CI OC EQ Yv BL AS BM CY Oc BY ER FL CF AG IE HR BX TV KL CU GW YS KJ DN GD CX OT OR Cx OE LH Av DF DU HY MZ DR OU HG OD QQ EA Ql DT LR Gi KQ FE FW Qe AT ADY SK HN ZX MJ tD ZN ZS IT DX HE OF CR EZ JJ BA ZR BP WK OM NF RG Fs AU DO DI CS WX HU WO BO BW JH JG AL AN AM GP ID HQ XK VX Ct ZP FK MQ KX JC ARO MN DK VI IU LS SC Bt FT EF Gb VW XI Eb VD HI FA TF TQ TO SN CQ VJ HZ KS HS XP EH EJ EI RE EY RL JY PO FH ML Ib OZ BAT Fo Eo VU Bb Dt JK KC Do JL IF IA ON Ha HX Hd NH YB PF TE HV Dm LF VE UC En MI NJ Fh Ff Dv MF WJ Gw UX YQ VG Cp VR LP kZ VZ XN Fx Kf PI YP Bs Ab XB YM Va Cl Aa Kd Ah Ik Pd Es Ae RJ YG Ud Cd Uj Ec RR Fy VQ Hh He Vn QN Vx Qv Ep Sy Ll Lj Jz Xn Qb eO Ot Ia uR Rt UG Kt Sr Ln Dw QG APL Ri Ed Fa Dg jD Wz Gc Ym Ld pP rB pY ZE Fv Gv Fb gF eW fY Xr lP Kc Lf Kk jR It Hi sA sK Fe fN Nq jV pB qT Oz Pj Rq rI rE Hq Sf Ih Xu Mv oC rS rV cN nZ Yc Ya xB J8;simp only[CC,eq_self,implies_true,forall_const];simp only[e1,e2,gl,hl]
 refine⟨by omega,⟨⟨default,trivial⟩,⟨λh0=>?_,λh0=>⟨default,by omega⟩⟩,λk hk=>⟨λhlt=>?_,λhge=>⟨default,by omega,Nat.le_refl _,λj hj=>by rw[gg hj];exact⟨rfl,rfl⟩⟩⟩⟩,⟨default,trivial⟩,⟨0,⟨rfl,λi hi=>?_⟩,Nat.zero_le _⟩,λk hk=>⟨λhlt=>?_,λhge=>⟨⟨0,⟨?_,λi hi=>?_⟩,Nat.zero_le _⟩,λj hj=>⟨λhlt=>?_,λhlt=>?_⟩⟩⟩⟩
 ·simp only[ws (show (0:Nat)<40 by omega),Int.toNat_natCast]
  refine⟨by omega,by omega,by omega,λh=>⟨by simp,1,⟨rfl,rfl,rfl,λi hi=>?_⟩,by omega,by omega⟩,λh=>⟨by simp,1,⟨rfl,rfl,rfl,λi hi=>?_⟩,by omega,by omega⟩⟩
  ·obtain rfl:i=0:=by omega
   exact⟨lo 0,hi1 0 h⟩
  ·obtain rfl:i=0:=by omega
   exact⟨lo 0,hi0 0 h⟩
 ·simp only[ws (show k<40 by omega),Int.toNat_natCast]
  refine⟨by omega,by omega,by omega,λh=>⟨⟨by omega,(λh=>by cases h),by omega,by omega⟩,k+1,⟨rfl,rfl,rfl,λi hi=>?_⟩,by omega,by omega⟩,λh=>⟨⟨by omega,(λh=>by cases h),by omega,by omega⟩,k+1,⟨rfl,rfl,rfl,λi hi=>?_⟩,by omega,by omega⟩⟩
  ·by_cases q:i<k
   ·simp only[q,decide_true,cond_true,and_self]
   ·obtain rfl:i=k:=by omega
    simp only[q,decide_false,cond_false]
    exact⟨lo i,hi1 i h⟩
  ·by_cases q:i<k
   ·simp only[q,decide_true,cond_true,and_self]
   ·obtain rfl:i=k:=by omega
    simp only[q,decide_false,cond_false]
    exact⟨lo i,hi0 i h⟩
 ·by_cases q:i=0
  ·subst q;exact⟨rfl,rfl⟩
  ·have:¬ i<=0:=by omega
   simp only[nrF,this,decide_false,cond_false,and_self]
 ·simp only[ws (show k<40 by omega)]
  refine⟨by omega,⟨by omega,by omega,by omega,by omega,λi hi=>by rw[FF _ _ _ hi];exact⟨rfl,rfl⟩,by omega,by omega⟩,k+1,⟨rfl,λi hi=>?_⟩,by omega,by omega⟩
  have e:=BKD a (k:=k) (i:=i) (by omega) (by omega)
  rw[gg (by omega),e,hl];exact⟨rfl,rfl⟩
 ·rw[Ap (by omega) (by omega)];omega
 ·obtain rfl:k=a.w.c.ms.length-1:=by omega
  have q1:decide (i<=a.w.c.ms.length-1)=true:=by rw[decide_eq_true_eq];omega
  unfold nrB nrF;rw[q1]
  by_cases q:a.w.c.ms.length-1-0<=i
  ·have q2:a.w.c.ms.length-1-i=0:=by omega
   have q3:i=a.w.c.ms.length-1:=by omega
   simp only[q,decide_true,cond_true,q2,bkM];rw[<-q3];exact⟨rfl,rfl⟩
  ·simp only[q,decide_false,cond_false,cond_true,and_self]
 ·have g0:(a.w.c.ms.length:Int)-2-j=((a.w.c.ms.length-2-j:Nat):Int):=by omega
  have g1:IntKind.i64.wrap (((a.w.c.ms.length-2-j:Nat):Int)+1)=((a.w.c.ms.length-2-j+1:Nat):Int):=ws (by omega)
  simp only[g0,g1,Int.toNat_natCast]
  refine⟨⟨by omega,by omega,by omega,by omega,by omega,by omega,λi hi=>by rw[FF _ _ _ hi];exact⟨rfl,rfl⟩,by omega,by omega⟩,j+1,⟨?_,λi hi=>?_⟩,by omega,by omega⟩
  ·rw[Ap (by omega) (by omega)];omega
  ·have e:=BMX a (j:=j) (i:=i) hl (by omega) (by omega)
   rw[gg (by omega),e,hl];exact⟨rfl,rfl⟩
 ·have q:j=a.w.c.ms.length-1:=by omega
  have eq1:∀i,i<a.w.c.ms.length->gD (XS a.w a.l) i=nrB a j i:=λi hi=>by
   unfold XS;rw[FF _ _ _ (by omega),hl]
   have q2:decide (a.w.c.ms.length-1-j<=i)=true:=by rw[decide_eq_true_eq];omega
   unfold nrB;rw[q2];rfl
  have nl:(XS a.w a.l).length=a.w.c.ms.length:=by unfold XS;rw[rng_length,hl]
  refine⟨⟨λi hi=>by rw[FF _ _ _ hi];exact⟨rfl,rfl⟩,λi hi=>by rw[FF _ _ _ hi];exact⟨rfl,rfl⟩,by omega⟩,nl,Nat.le_refl _,λi hi=>by rw[eq1 i (by omega)];exact⟨rfl,rfl⟩,?_⟩
  congr 1
  exact BGD (by rw[nl,rng_length]) λi hi=>by rw[eq1 i (by omega),FF _ _ _ (by omega)]
theorem BCE:AW Try.prog No (C_nar.spec dDkS):=Je C_nar BTI [] [2016] AVF (λ_=>by kernel_rfl) (λ_=>AA BOO (AA AKC (AA BUE (AA CHN AK)))) (λa h=>DBH a h) (λa=>BMJ bO (CFY a) rfl rfl AK X9 (by kernel_rfl) (by kernel_rfl)) _
end Go.Bal
