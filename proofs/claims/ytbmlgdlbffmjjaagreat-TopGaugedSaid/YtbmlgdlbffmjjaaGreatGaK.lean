/- TopGauged: rows of one's own: lent to Flow and Real; copies. -/
import Derived.Test.YtbmlgdlbffmjjaaGreatGaJ
import Derived.Test.YtbmlgdlbffmjjaaGreatGaG
import Derived.Test.YtbmlgdlbffmjjaaGreatSym13
import Derived.Test.YtbmlgdlbffmjjaaGreatRatU
set_option linter.unusedVariables false
set_option linter.unusedSimpArgs false
namespace Go.Bal
open Go Go.Sym Go.Proofs
def rowV(v:Vt):AObj:=.row 5 1 λ_=>eVt v
def BJV(a:Int):AObj:=.row 1 1 λ_=>ES a
def xgO:AVal:=.agg [.int 0,.int 10,.own 100 5 0 1]
def C_gFlO:Ctr:={ ro:=[100],α:=Vt,xs:=λ_=>[xgO],L:=λv=>[(100,rowV v)],val:=λv=>.tup [.d (UJ (flV v)),.int 0],keep:=λv=>[(100,.live (rowV v))],pre:=λv=>[Rf v=true] }
def ASC(H:Heap)(id:Nat):Option DVal:=match H id with
 | .live (.row _ _ g)=>some (g 0)
 |_=>none
def BYZ:List AVal->Heap->Option (Vt×List (Nat×Nat)×List Nat)
 |[.agg [_,_,.own id _ _ _]],H=>(ASC H id).map λd=>(dVt d,[(100,id)],[])
 |_,_=>none
def C_gReO:Ctr:={ ro:=[100,101,102],α:=ReS,xs:=λ_=>[xgO,.own 101 1 0 1,.own 102 1 0 1],L:=λx=>[(100,rowV x.v),(101,BJV x.a),(102,BJV x.b)],val:=λx=>.tup [.int (reV x),.int 0],keep:=λx=>[(100,.live (rowV x.v)),(101,.live (BJV x.a)),(102,.live (BJV x.b))],pre:=λx=>[Rf x.v=true,MN x.a x.v.d.lo x.v.d.hi=true,MN x.b x.v.s.lo x.v.s.hi=true] }
def BSI:List AVal->Heap->Option (ReS×List (Nat×Nat)×List Nat)
 |[.agg [_,_,.own id _ _ _],.own j _ _ _,.own k _ _ _],H=>match ASC H id,ASC H j,ASC H k with
  |some d,some a,some b=>some (⟨dVt d,LR a,LR b⟩,[(100,id),(101,j),(102,k)],[])
  |_,_,_=>none
 |_,_=>none
def BUW(l:List Lin):AObj:=.row 5 l.length λi=>eLin (gD l i)
def C_CpO:Ctr:={ α:=List Lin,xs:=λl=>[.d (N6 l)],L:=λ_=>[],val:=λl=>.own 0 5 0 l.length,keep:=λl=>[(0,.live (BUW l))],pre:=λl=>[0<l.length/\l.length<=30] }
def CJA:Ann:={ ann 7 [] with mt:=λid=>id==2 }
def CJF(l:List Lin):Prop:=AX Try.prog CJA APZ (AF APZ) [.d (N6 l)] (AC []) (.own 0 5 0 l.length) [(0,.live (BUW l))] [(0,3032)] []
abbrev Ij a b c d:=Bg (JV a b) c d
abbrev Jd a b c d:=Ci (JX a b) c d
abbrev Jo a b c d:=Bz (FL a b) c d
abbrev Js a b c d:=Ba (EN a b) c d
abbrev Ie a b c d:=An (IV a b) c d
attribute [go_sem] Ij Jd Jo Js Ie
theorem CLB(l:List Lin):(CJF l)=(Tr (KX (XA 5) (RB FT (OI l) 5) (PY (HW (OI l))) (AP (OI l)) 9223372036854775807 (LO (Cw (AP (OI l)) 40))) (OI l) (AP (OI l)) (λi=>FV i l (Ie l i l (Wt i)) (Js l i l (Wt i)) (Jo l i l (Wt i)) (Jd l i l (Wt i)) (Ij l i l (Wt i)))):=by kernel_rfl
def C_CnO:Ctr:={ C_CpO with xs:=λl=>[.d (Q9 l)],val:=λl=>.agg [.int 3,.own 0 5 0 l.length] }
def CHD(l:List Lin):Prop:=AX Try.prog (ann 9 [(ACV,C_CpO.spec BAL)]) ARS (AF ARS) [.d (Q9 l)] (AC []) (.agg [.int 3,.own 0 5 0 l.length]) [(0,.live (BUW l))] [(0,2064)] []
theorem CNL(l:List Lin):(CHD l)=(And (AQ (FM l) (AE (λi=>IP i l i i i i i)) (HW (FU l)) (CV (FU l) 30)) (Tr AT (OI l) (FU l) (λi=>GY i l (RA l i i) (RH l i i) i (KJ l i) (QZ l i i) (QY l i i)))):=by kernel_rfl
theorem CMU(v:Vt)(h:Rf v=true):FnT Try.prog ADO [.d (eGg v)] (AC []) (C_gFlow.val v) []:=Dy (A:=BIO) (L:=[]) (keep:=[]) (ren:=[]) (fz:=[]) BVW (by kernel_rfl) (AA CGL (AA BQW AD)) (by
 show BGV v;rw[BWT]<;> delta LI HU AK AN AE BA BN BH DC ER FD CE EE Gi Fe AG AI AO AJ AR BO DR LF GI AL QN FE Ep AZ ED BZ SV SR IC Hm Jg fL XS gC UM;simp only[CC,CU,CF];exact⟨h,⟨by omega,by omega⟩,rfl,rfl⟩)
theorem CLQ(x:ReS)(h1:Rf x.v=true)(h2:MN x.a x.v.d.lo x.v.d.hi=true)(h3:MN x.b x.v.s.lo x.v.s.hi=true):FnT Try.prog ADM (C_gReal.xs x) (AC []) (C_gReal.val x) []:=Dy (A:=BIQ) (L:=[]) (keep:=[]) (ren:=[]) (fz:=[]) BTV (by kernel_rfl) (AA AMZ (AA BHI (AA AKE AD))) (by
 show BGR x;rw[BYM];simp only[CC,CU,CF,vP,eC]
 rw[h2,h3]
 exact⟨h1,⟨by omega,by omega⟩,⟨⟨by omega,by omega⟩,λ_=>⟨by omega,by omega⟩⟩,λh=>(by cases h),λ_=>⟨⟨by omega,by omega⟩,rfl⟩⟩) (K2 oI itRe rfl rfl AD AVC (by kernel_rfl) (by kernel_rfl))
theorem CEG:AH Try.prog ADO (C_gFlO.spec BYZ):=Ctr.spec_ok (C:=C_gFlO) (λ(v:Vt) h=>by
 refine FnT.lend (fz:=[100]) (xs:=[xgO]) (L:=[(100,rowV v)]) (CMU v h) rfl ?_ rfl ?_ _ ?_
 ·rfl
 ·show 0+1<=1;omega
 ·exact⟨rfl,trivial⟩) _
theorem CGO:AH Try.prog ADM (C_gReO.spec BSI):=Ctr.spec_ok (C:=C_gReO) (λ(x:ReS) h=>by
 refine FnT.lend (fz:=[100,101,102]) (xs:=C_gReO.xs x) (L:=C_gReO.L x) (CLQ x h.1 h.2.1 h.2.2) rfl ?_ rfl ?_ _ ?_
 ·rfl
 ·exact⟨by show 0+1<=1;omega,by show 0+1<=1;omega,by show 0+1<=1;omega⟩
 ·exact⟨rfl,rfl,rfl,trivial⟩) _
theorem CNY:AH Try.prog ACV (C_CpO.spec BAL):=PU C_CpO (λ_=>CJA) [(0,3032)] [] BPF (λ_=>by kernel_rfl) (λ_=>AD) (λ(l:List Lin) h=>by
 obtain⟨h1,h2⟩:0<l.length/\l.length<=30:=h
 show CJF l;rw[CLB]<;> delta LI HU AK AN AE BA BN CV KE TE TC FT OI Fh ZM ZJ ZL HA Cw AG AP AI AO AR DF Qv AM LF JV JX IV EN FV FL RB HW KX Sf LO Iz Tr Bz Ba GQ An Ci Bg Bf PY XA Ij Jd Ie Js Jo Wt;simp only[CC,CU,CF]
 exact⟨⟨λh=>(by omega),h1,by omega,by omega⟩,λi _=>⟨rfl,rfl,rfl,rfl,rfl⟩⟩) (λ_=>RU rfl rfl) _
theorem CNE:AH Try.prog ASA (C_CnO.spec sU):=PU C_CnO (λ_=>ann 9 [(ACV,C_CpO.spec BAL)]) [(0,2064)] [] BOL (λ_=>by kernel_rfl) (λ_=>AA CNY AD) (λ(l:List Lin) h=>by
 have h:0<l.length/\l.length<=30:=h
 show CHD l;rw[CNL]<;> delta AK AN AE BA BN CV FD TE TC OI Fh ZM ZJ ZL AG AI AO AJ AR Qv Rq BO AM AQ HB IU FU LF JV JX AT IV EN FV FL HW Sf Iz Tr Bz Ba Eb VC An UL Ci KJ OF OQ Bg Bv FM Gj Fu QE PZ NG NR GY OO IP QY QZ RH RA;simp only[CC,CU,CF];exact h) (λ_=>RU rfl rfl) _
end Go.Bal



namespace Go.Bal
open Go Go.Sym Go.Proofs
structure GR where
 g:List Gau
 r:Rtg
def dGR:List AVal->Heap->Option (GR×List (Nat×Nat)×List Nat)
 |[x,y],H=>match AKV x H,dRtg y H with
  |some (l,f),some (r,e)=>some (⟨l,r⟩,[],f ++ e)
  |_,_=>none
 |_,_=>none
def xGR(a:GR):List AVal:=[.d (KD a.g),.d (eRtg a.r)]
def notP(a:GR)(i:Nat):Bool:=!WE (gD a.r.l (Vx a.r.b (gD a.g i).st)) (gD a.g i)
def pasK(a:GR)(n:Nat):List Int:=((List.range n).filter (notP a)).map Int.ofNat
def xW(a:GR):Int:=bif IH a.g==0 then Hr a.r else IH a.g
def sH(a:GR):List Int:=bif xW a==0 then pasK a a.g.length else []
def C_Passes:Ctr:={ α:=GR,xs:=xGR,L:=λ_=>[],val:=λa=>.tup [.d (IM (sH a)),.int (xW a)],keep:=λ_=>[],pre:=λa=>[a.g.length<1073741824/\a.r.b.length<1073741824/\a.r.l.length<1073741824] }
structure KI where
 k:Nat
 l:List Int
 deriving Inhabited
def rtgC(r:Rtg):HCell:=.live (.box [.d (IM r.b),.d (K4 r.l)])
def psS(a:GR)(v:AVal)(k:Nat):List (Nat×AVal):=[(3,.bptr 1000 0),(7,v),(19,.d (KD a.g)),(20,.int a.g.length),(21,.int k)]
def psI(a:GR)(k:Nat)(l:List Int):Prop:=xW a=0/\k<=a.g.length/\l=pasK a k
def ps8n(a:GR):Shape:={ α:=Nat,dflt:=0,T:=λk=>⟨psS a (.d gK) k,[(1000,rtgC a.r)]⟩,inv:=λk=>psI a k [],meas:=λk=>a.g.length-k }
def ps8o(a:GR):Shape:={ α:=KI,dflt:=default,T:=λx=>⟨psS a (.own 301 1 0 x.l.length) x.k,[(1000,rtgC a.r),(301,.live (rowI x.l))]⟩,inv:=λx=>psI a x.k x.l,meas:=λx=>a.g.length-x.k }
def CTL(a:GR)(m:Nat):Shape:={ α:=Nat,dflt:=0,T:=λk=>⟨psS a (.d gK) k,[(1000,rtgC a.r)]⟩,inv:=λk=>k<a.g.length/\a.g.length-k=m/\psI a (k+1) [],meas:=λ_=>0 }
def CGS(a:GR)(m:Nat)(f:List (Nat×Nat)):Shape:={ α:=KI,dflt:=default,T:=λx=>⟨psS a (.own 301 1 0 x.l.length) x.k,[(1000,rtgC a.r),(301,.live (rowI x.l))]⟩,inv:=λx=>x.k<a.g.length/\a.g.length-x.k=m/\psI a (x.k+1) x.l,meas:=λ_=>0,first:=f }
def ps4(a:GR):Shape:={ α:=One,dflt:=default,T:=λ_=>⟨[(0,.d (KD a.g)),(3,.bptr 1000 0),(6,.int (xW a))],[(1000,rtgC a.r)]⟩,inv:=λ_=>True,meas:=λ_=>0 }
def AZE(a:GR):Ann:={ ann 44 [(F2,C_Check.spec A2),(AGA,C_CheckR.spec dRt1),(AJI,C_part.spec dIX),(tJ,ADV)] with mt:=λid=>id==11,loops:=λid=>if id=8 then some [ps8n a,ps8o a] else none,cut:=λid=>if id=4 then some [ps4 a] else none,cutIn:=λgs id=>if id=12 then some [CTL a (gs.getD 0 0),CGS a (gs.getD 0 0) [(301,12048)],CGS a (gs.getD 0 0) []] else none }
def AWW(a:GR):Prop:=AX Try.prog (AZE a) ALB (AF ALB) (xGR a) (AC []) (C_Passes.val a) [] [] [301]
abbrev SX:=GR.g
abbrev Kd:=xW
abbrev AAJ:=Rtg.mk
abbrev AEG:=@Exists KI
abbrev YL:=KI.l
abbrev MJ:=KI.k
abbrev AYA:=λ(f:KI->Prop)=>∀(x:KI),f x
abbrev tB a:=CQ (Kd a)
abbrev wN a:=FI (YL a)
abbrev pX a b:=BK a (YL b)
abbrev Pu a b:=QU (SX a) b
abbrev Lh a b:=Pu a (MJ b)
abbrev jH a b c:=Wl a (pasK b c)
abbrev lA a b c:=jH (YL a) b c
abbrev Hd a b:=HE a (SX b)
abbrev VY a:=eO (GR.r a)
abbrev Hc a:=HT (VY a)
abbrev Ty a:=AR (Hc a)
abbrev Du a:=mV (GR.r a)
abbrev qT a:=EG (Du a)
abbrev Sx a:=HS (Du a)
abbrev dT a:=WY (SX a)
abbrev Va a:=BW (SX a)
abbrev Zh a:=CL (MJ a)
abbrev iK a b:=Ym a (SX b)
abbrev vZ a:=BX (SX a)
abbrev pB a b:=DY (SX a) b
abbrev Y5 a:=EL (Du a)
abbrev Pe a b c:=Vx (Y5 a) (pB b c)
abbrev iD a:=jA (VY a)
attribute [go_sem] SX Kd AAJ AEG YL MJ AYA tB wN pX Pu Lh jH lA Hd VY Hc Ty Du qT Sx dT Va Zh iK vZ pB Y5 Pe iD
theorem BLC(a:GR):(AWW a)=(AG (SS (SX a) (VM (SX a))) (EY (QG (Ow (SX a))) (AV (HJ (Du a)) (GX (Du a)) (AN (HT (iD a)) (Hc a)) (AE (λi=>FH i (HT (iD a)) (NS (iD a) i (VY a)) (EU (iD a) i) (EU (VY a) i) (EQ (iD a) i) (EQ (VY a) i) (EP (iD a) i) (EP (VY a) i))) (He (Du a)) (HP (HT (iD a)))) (NM (FK (Va a) (vZ a) (AK (Kd a) (ABG (AAJ (Y5 a) (iD a)))) (Sx a) (qT a) (Ty a) (YB (Hc a) (VY a)))) (NM (FK (Va a) (vZ a) (AK (Kd a) (Ow (SX a))) (Sx a) (qT a) (Ty a) (YB (Hc a) (VY a))))) (ZV (λi=>MD FT (QW (Kd a)) (iB (GM (sH a) 0) (AJ (Kd a))) (AG (CG (λj=>And (LB (FA RX (Va a) (vZ a) (dT a) (BD j) (Sx a) (λk=>PI k (Du a)) (Ty a) (YB (Hc a) (VY a)))) (dN (Kd a) (Hd j a) (jH Rw a j)))) (AE (λj=>HF (dN (Kd a) (Hd j a) (jH Rw a j)) j (BP (SX a)) (Lw (BE j (BP (SX a))) (AG (HJ (Du a)) (GX (Du a)) (AS (AJ (pB a j)) (Dp (JR (Du a)) 4611686018427387904 (Ft ER (Y5 a))) (BE (Pe a a j) (Hc a)) (PK (LH (VY a) (Pe a a j)) (EQ (VY a) (Pe a a j)) (EU (VY a) (Pe a a j)) (EP (VY a) (Pe a a j))) (BG (pB a j)) (HI (pB a j)) (BG (DO (SX a) j)) (DC (DO (SX a) j) (DI (SX a) j)) (RJ (DI (SX a) j)))) (not (sX (LH (VY a) (Pe a a j)) (SX a) j)) (Cj 1 1 GV 1 8) (AEG (λk=>AV (SP (GM (YL k) 1) (Va a) (FA (λl=>ME l (SX a)) (dT a) (BC (MJ k) j) (Sx a) (qT a) (Ty a) (λl=>Gg l (Hc a) (VY a)) (GM (YL k) 1) (AE (λl=>Ja l (YL k) l (BH j))))) (iK (MJ k) a) (AN (Lh a k) (Pu a j)) (tB a) (Hd (Zh k) a) (lA k a (Zh k)))) (CG (λk=>AV (LB (FA RX (Va a) (vZ a) (dT a) (BC k j) (Sx a) (λl=>PI l (Du a)) (Ty a) (YB (Hc a) (VY a)))) (iK k a) (AN (Pu a k) (Pu a j)) (tB a) (Hd (CL k) a) (jH Rw a (CL k))))) (Xu (λk=>BA (FE (iK k a) (AN (Pu a k) (Pu a j)) (Kd a) 0 (Hd (CL k) a) (jH Rw a (CL k))) (CG (λl=>EV (LB (FA RX (Va a) (vZ a) (dT a) (AU l k) (Sx a) (λm=>PI m (Du a)) (Ty a) (YB (Hc a) (VY a)))) (dN (Kd a) (Hd l a) (jH Rw a l)) (Pu a l) (Pu a j)))) (AYA (λk=>BA (FE (iK (MJ k) a) (AN (Lh a k) (Pu a j)) (Kd a) 0 (Hd (Zh k) a) (lA k a (Zh k))) (AEG (λl=>EV (SP (pX (YL l) k) (Va a) (FA (λm=>ME m (SX a)) (dT a) (AU (MJ l) (MJ k)) (Sx a) (qT a) (Ty a) (λm=>Gg m (Hc a) (VY a)) (pX (YL l) k) (BQ (YL l) (YL k)))) (dN (Kd a) (Hd (MJ l) a) (lA l a (MJ l))) (Lh a l) (Pu a j)))))) (iB (GM (sH a) 0) (tB a)))) (AYA (λj=>HF (dN (Kd a) (Hd (MJ j) a) (lA j a (MJ j))) (MJ j) (BP (SX a)) (Lw (BE (MJ j) (BP (SX a))) (AG (HJ (Du a)) (GX (Du a)) (AS (AJ (pB a (MJ j))) (Dp (JR (Du a)) 4611686018427387904 (Ft ER (Y5 a))) (BE (Pe a a (MJ j)) (Hc a)) (PK (LH (VY a) (Pe a a (MJ j))) (EQ (VY a) (Pe a a (MJ j))) (EU (VY a) (Pe a a (MJ j))) (EP (VY a) (Pe a a (MJ j)))) (BG (pB a (MJ j))) (HI (pB a (MJ j))) (BG (DO (SX a) (MJ j))) (DC (DO (SX a) (MJ j)) (DI (SX a) (MJ j))) (RJ (DI (SX a) (MJ j))))) (not (sX (LH (VY a) (Pe a a (MJ j))) (SX a) (MJ j))) (UT (And (HS (YL j)) (HD 0 (YL j) AZ)) 1 (CL (wN j)) (SK (wN j) 8)) (AEG (λk=>AV (SP (GM (YL k) (CL (wN j))) (Va a) (FA (λl=>ME l (SX a)) (dT a) (BC (MJ k) (MJ j)) (Sx a) (qT a) (Ty a) (λl=>Gg l (Hc a) (VY a)) (GM (YL k) (CL (wN j))) (AE (λl=>Ja l (YL k) l (KB l (wN j) (IQ (YL j) l) (BH (MJ j))))))) (iK (MJ k) a) (AN (Lh a k) (Lh a j)) (tB a) (Hd (Zh k) a) (lA k a (Zh k)))) (AEG (λk=>AV (SP (pX (YL k) j) (Va a) (FA (λl=>ME l (SX a)) (dT a) (BC (MJ k) (MJ j)) (Sx a) (qT a) (Ty a) (λl=>Gg l (Hc a) (VY a)) (pX (YL k) j) (BQ (YL k) (YL j)))) (iK (MJ k) a) (AN (Lh a k) (Lh a j)) (tB a) (Hd (Zh k) a) (lA k a (Zh k))))) (Xu (λk=>BA (FE (iK k a) (AN (Pu a k) (Lh a j)) (Kd a) 0 (Hd (CL k) a) (jH Rw a (CL k))) (CG (λl=>EV (LB (FA RX (Va a) (vZ a) (dT a) (AU l k) (Sx a) (λm=>PI m (Du a)) (Ty a) (YB (Hc a) (VY a)))) (dN (Kd a) (Hd l a) (jH Rw a l)) (Pu a l) (Lh a j)))) (AYA (λk=>BA (FE (iK (MJ k) a) (AN (Lh a k) (Lh a j)) (Kd a) 0 (Hd (Zh k) a) (lA k a (Zh k))) (AEG (λl=>EV (SP (pX (YL l) k) (Va a) (FA (λm=>ME m (SX a)) (dT a) (AU (MJ l) (MJ k)) (Sx a) (qT a) (Ty a) (λm=>Gg m (Hc a) (VY a)) (pX (YL l) k) (BQ (YL l) (YL k)))) (dN (Kd a) (Hd (MJ l) a) (lA l a (MJ l))) (Lh a l) (Lh a j)))))) (SI (pX (sH a) j) (Ou (wN j)) (λk=>HD k (sH a) (NK (sH a) k (YL j) (AP k))) (tB a)))))))):=by kernel_rfl
structure RtI where
 r:Rtg
 t:Int
def okRt(r:Rtg):Prop:=asc r.b/\r.l.length=r.b.length+1/\(∀x∈r.l,PO x)/\r.b.length<=24
def atF(a:RtI):Rt:=LZ (gD a.r.l (Vx a.r.b a.t)) a.t
def atE(a:RtI):Int:=bif Hr a.r==0 then (bif MN a.t 0 2000 then 0 else 4) else Hr a.r
def atM(a:RtI):Rt:=bif atE a==0 then atF a else⟨0,0⟩
theorem BLS{r:Rtg}(h:Hr r=0):okRt r/\∀x∈r.b,1<=x/\x<=2000:=by
 unfold Hr at h
 cases hb:Ak r.b != 0 with
 |true=>rw[hb] at h;have h:Ak r.b=0:=h;rw[h] at hb;cases hb
 |false=>
  rw[hb] at h
  have hb0:Ak r.b=0:=by simpa using hb
  cases hl:(r.l.length:Int) != (r.b.length:Int)+1 with
  |true=>rw[hl] at h;cases h
  |false=>
   rw[hl] at h
   cases hr:r.l.all Ww with
   |false=>rw[hr] at h;cases h
   |true=>
    have hl0:(r.l.length:Int)=(r.b.length:Int)+1:=by simpa using hl
    unfold Ak at hb0
    split at hb0
    ·cases hb0
    ·obtain⟨h5,h6⟩:=BBQ _ 0 (by omega) hb0
     exact⟨⟨h5,by omega,λx hx=>dG.1 (List.all_eq_true.1 hr x hx),by omega⟩,λx hx=>by have:=h6 x hx;omega⟩
theorem wT{a:GR}{k:Nat}:pasK a (k+1)=if notP a k=true then pasK a k ++ [(k:Int)] else pasK a k:=by
 unfold pasK
 rw[List.range_succ,List.filter_append,List.map_append]
 by_cases h:notP a k=true
 ·rw[if_pos h,List.filter_cons_of_pos h];rfl
 ·rw[if_neg h,List.filter_cons_of_neg h];simp
theorem AYQ(a:GR)(k:Nat):(pasK a k).length<=k:=by
 unfold pasK;rw[List.length_map]
 exact Nat.le_trans (List.length_filter_le _ _) (by simp)
theorem BOR(a:GR)(h1:a.g.length<1073741824)(h2:a.r.b.length<1073741824)(h3:a.r.l.length<1073741824):AWW a:=by
 rw[BLC]<;> delta LI UD KA LV JY LL HV GZ JJ NX cI HU EZ AK AN FI AE BA BN IQ BH CV DC ER NC TD KE Ff ZN FT HA CG BP GU HT LH HR We ZV Cw wI mV ABG eO Ft Rw Wl SX Kd AAJ AEG YL MJ AYA CS AG AP AI AO AJ Rp AR DF VR iB VW QM AS CM EL BB DY HZ IG BG HC BW DK DI MK JH DO GJ VT HD AM AQ JI EP CL LP PS JO KC EJ EB MM DR EQ HS CI OS FP EV KB GI NK BC EU UG GM AV FH lX VY rN DT RR ZQ Mz JD HQ BK AU IY HI EY QU FA Uo FW FK RJ Du PI IA ME DV BE RB FE pW EG HX HW AZ UA Eh KL EF BQ jA LA BU KX ON HH UY BX LO US HE Dr BD Ns GQ HF CN CW OE JR XE Dp MD JE SK Bf PY Ym HJ NS KM CQ Co Lw WY Hc PK GV Pu XA GX dN HP LB QW pB NM Gg QL Y5 RX Hd QG jH YB sX Lh SI VM Sx Va Ty SP Pe Zh dT SS Ow tE He iD UT Ou rB iK Xu qT Ja Cj lA pX tB vZ wN;simp only[CC,CU]
 have em:¬xW a=0->sH a=[]:=λh=>by unfold sH;rw[show (xW a==0)=false by simpa using h];rfl
 have facts:xW a=0->IH a.g=0/\okRt a.r:=λh=>by
  unfold xW at h
  cases hc:IH a.g==0 with
  |false=>rw[hc] at h;have h:IH a.g=0:=h;rw[h] at hc;cases hc
  |true=>rw[hc] at h;exact⟨by simpa using hc,(BLS h).1⟩
 have pre:∀{k:Nat},xW a=0->k<a.g.length->((a.r.b.length<4611686018427387904/\asc a.r.b)/\(0<=((Vx a.r.b (gD a.g k).st:Nat):Int)/\((Vx a.r.b (gD a.g k).st:Nat):Int)<a.r.l.length)/\PO (gD a.r.l (Vx a.r.b (gD a.g k).st))/\Ht (gD a.g k)):=λ{k} h hk=>by
  obtain⟨f1,f2,f3,f4,f5⟩:=facts h
  have hle:Vx a.r.b (gD a.g k).st<=a.r.b.length:=List.countP_le_length
  exact⟨⟨by omega,f2⟩,⟨by omega,by omega⟩,f4 _ (MF (by omega)),(Vs f1).2 _ (MF hk)⟩
 have nP:∀{k:Nat},WE (gD a.r.l (Vx a.r.b (gD a.g k).st)) (gD a.g k)=false->notP a k=true:=λ{k} h=>by unfold notP;rw[h];rfl
 have nQ:∀{k:Nat},WE (gD a.r.l (Vx a.r.b (gD a.g k).st)) (gD a.g k)=true->¬notP a k=true:=λ{k} h=>by unfold notP;rw[h];simp
 have cn:∀(m i:Nat),i<a.g.length/\a.g.length-i=m/\psI a (i+1) []->∃j:Nat,(j:Int)=IntKind.i64.wrap ((i:Int)+1)/\psI a j []/\a.g.length-j<m:=λm i ⟨b1,b2,b3⟩=>⟨i+1,(GH (by omega)).symm,b3,by omega⟩
 have co:∀(m:Nat) (x:KI),x.k<a.g.length/\a.g.length-x.k=m/\psI a (x.k+1) x.l->∃y:KI,(y.l.length=x.l.length/\(y.k:Int)=IntKind.i64.wrap ((x.k:Int)+1)/\y.l.length=x.l.length/\∀i,i<y.l.length->gD y.l i=gD x.l i)/\psI a y.k y.l/\a.g.length-y.k<m:=λm x ⟨b1,b2,b3⟩=>⟨⟨x.k+1,x.l⟩,⟨rfl,(GH (by omega)).symm,rfl,λ_ _=>rfl⟩,b3,by show a.g.length-(x.k+1)<m;omega⟩
 have fin:∀{l:List Int},xW a=0->l=pasK a a.g.length->sH a=l:=λ{l} h1 h2=>by unfold sH;rw[h1,h2];rfl
 refine⟨by omega,⟨λhc=>⟨⟨by omega,by omega⟩,default,?_⟩,λhc=>⟨default,?_⟩⟩,λhe=>?_,λhe=>⟨⟨0,rfl,by simpa using he,Nat.zero_le _,rfl⟩,λk ⟨k1,k2,k3⟩=>⟨λhlt=>⟨⟨⟨by omega,by omega⟩,pre k1 (by omega),λhp=>⟨⟨by omega,by omega,by omega,by omega,by omega⟩,⟨k,[(k:Int)]⟩,⟨rfl,rfl,rfl,λi hi=>?_⟩,by show k<_;omega,rfl,k1,by show k<_;omega,?_⟩,λhp=>⟨k,rfl,by omega,rfl,k1,by omega,?_⟩⟩,cn _,co _⟩,λhge=>?_⟩,λx ⟨x1,x2,x3⟩=>⟨λhlt=>⟨⟨⟨by omega,by omega⟩,pre x1 (by omega),λhp=>⟨⟨by omega,λh=>(by cases h),?_,?_⟩,⟨x.k,x.l ++ [(x.k:Int)]⟩,⟨by simp,rfl,by simp,CID _ _⟩,by show x.k<_;omega,rfl,x1,by show x.k<_;omega,?_⟩,λhp=>⟨x,⟨rfl,rfl,rfl,λ_ _=>rfl⟩,by omega,rfl,x1,by omega,?_⟩⟩,cn _,co _⟩,λhge=>?_⟩⟩⟩
 ·unfold xW;rw[hc];rfl
 ·unfold xW;rw[hc];rfl
 ·rw[em (by simpa using he)];rfl
 ·rw[show i=0 by have h1:i<1:=hi;omega];rfl
 ·rw[wT,if_pos (nP hp),<-k3];rfl
 ·rw[wT,if_neg (nQ hp)];exact k3
 ·have e:sH a=[]:=fin k1 (by rw[k3,show k=a.g.length by omega])
  rw[e];exact⟨rfl,rfl,k1⟩
 ·have:=AYQ a x.k;rw[<-x3] at this;omega
 ·have:=AYQ a x.k;rw[<-x3] at this;omega
 ·show x.l ++ _=_;rw[wT,if_pos (nP hp),<-x3]
 ·rw[wT,if_neg (nQ hp)];exact x3
 ·have e:sH a=x.l:=fin x1 (by rw[x3,show x.k=a.g.length by omega])
  rw[e];exact⟨rfl,Nat.le_refl _,λ_ _=>rfl,x1⟩
theorem BMC:AH Try.prog AIP (C_Passes.spec dGR):=PU C_Passes AZE [] [301] BLK (λ_=>by kernel_rfl) (λ_=>AA N0 (AA BKL (AA ACP (AA AMX AD)))) (λ(a:GR) h=>BOR a h.1 h.2.1 h.2.2) (λ_=>RU rfl rfl) _
end Go.Bal
