/- Package rating: Rate, Knots. -/
import Derived.Test.YtceloknnpdonhaaGreatRatT
set_option linter.unusedVariables false
set_option linter.unusedSimpArgs false
namespace Go.Bal
open Go Go.Sym Go.Proofs
def C_Rate:Ctr:={ C_few with val:=λ(g:List Gau)=>.tup [.d (eRtg (jQ g).r),.int (jQ g).e] }
def DEM(g:List Gau):Prop:=BG Try.prog (ann 15 [(zD,C_few.spec xY)]) CID (AL CID) (C_Rate.xs g) (AF []) (C_Rate.val g) [] [] []
theorem DGN(g:List Gau):(DEM g)=(BB (VS (CY g) (DD g) (CI (OE g) 20)) (AW (dA g) (dA (BU g))) (AS (dA g) (dA (BU g))) (AR (bU g) (bU (BU g))) (AK (λi=>JG i (bU g) (Cd (R5 g) i) (Cd (R5 (BU g)) i))) (AO (cN g) (cN (BU g)))):=by kernel_rfl
def C_Knots:Ctr:={ C_few with val:=λ(g:List Gau)=>.tup [.d (eLL (jQ g).k),.int (jQ g).e] }
def CRH(g:List Gau):Prop:=BG Try.prog (ann 15 [(zD,C_few.spec xY)]) CCA (AL CCA) (C_Knots.xs g) (AF []) (C_Knots.val g) [] [] []
theorem CYK(g:List Gau):(CRH g)=(AY (VS (CY g) (DD g) (CI (OE g) 20)) (AR (iR g) (iR (BU g))) (AK (λi=>BZ i (iR g) (AW (API (vI g) i) (API (vI (BU g)) i)) (AS (API (vI g) i) (API (vI (BU g)) i)))) (AO (cN g) (cN (BU g)))):=by kernel_rfl
theorem DIE:AM Try.prog CKW (C_Rate.spec xY):=WY C_Rate (λ_=>ann 15 [(zD,C_few.spec xY)]) [] [] DJJ (λ_=>by kernel_rfl) (λ_=>AB DBT AG) (λ(g:List Gau) h=>by
 show DEM g;rw[DGN]<;> delta AR AK BO CI AO FI BN BJ EY GW FC GF GD HB CW FX JY NK Ly AH NX NY AJ AZ BU DI DY BZ DZ EZ DN GQ Cd JA ID HC AW HY HL AY Ph CG IA BB JZ KC FG EN GH AS GM CR AT R5 DD CY OE Ha Aq JG VS bU dA cN;simp only[CC,eq_self,implies_true,forall_const]
 exact (show g.length<20/\True from h).1) (λ_=>YE rfl rfl) _
theorem DEF:AM Try.prog BYE (C_Knots.spec xY):=WY C_Knots (λ_=>ann 15 [(zD,C_few.spec xY)]) [] [] CZT (λ_=>by kernel_rfl) (λ_=>AB DBT AG) (λ(g:List Gau) h=>by
 show CRH g;rw[CYK]<;> delta AR AK BO CI AO FI BN BJ EY GW CW FX CEJ API AH NX NY AZ BU DI DY BZ DZ EZ DN GQ JA ID HC AW HY HL AY CG IA KC FG EN GH AS GM CR AT DD CY OE vI VS cN iR;simp only[CC,eq_self,implies_true,forall_const]
 exact (show g.length<20/\True from h).1) (λ_=>YE rfl rfl) _
end Go.Bal

namespace Go.Bal.DL
open Go.Sym Go
theorem m1(n:Int):EO (.v (.int .u8 n))=n:=rfl
end Go.Bal.DL
namespace Go.Bal
open Go Go.Sym Go.Proofs
structure Stm where
 bs:List Int
 used:Int
 mix:Int
 deriving Inhabited
end Go.Bal
namespace Go.Bal.DL
theorem m2(s:Stm):Stm.mk s.bs s.used s.mix=s:=rfl
end Go.Bal.DL
namespace Go.Bal
open Go Go.Sym Go.Proofs
def eBys(l:List Int):DVal:=lst 1 l.length λi=>.v (.int .u8 (gD l i))
def stmO(s:Stm):AObj:=.box [.d (eBys s.bs),.int s.used,.int s.mix]
def stmH(s:Stm):HCell:=.live (stmO s)
def CLV(H:Heap)(id:Nat):Option Stm:=match H id with
 | .live (.box [.d (.list _ n g _),.d (.v (.int _ u)),.d (.v (.int _ m))])=>some ⟨KA n λi=>EO (g i),u,m⟩
 |_=>none
def C_New:Ctr:={ α:=List Int,xs:=λl=>[.d (eBys l)],L:=λ_=>[],val:=λ_=>.bptr 0 0,keep:=λl=>[(0,stmH ⟨l,0,0⟩)] }
def DKV:List AVal->Heap->Option (List Int×List (Nat×Nat)×List Nat)
 |[.d (.list _ n g _)],_=>some (KA n λi=>EO (g i),[],[])
 |_,_=>none
def DLO(l:List Int):Prop:=BG Try.prog (ann 6 []) CXO (AL CXO) (C_New.xs l) (AF []) (C_New.val l) (C_New.keep l) [(0,2032)] []
theorem DPB(l:List Int):(DLO l)=(And (GU l) (It (GI l) (Ev 0))):=by kernel_rfl
def Md(s:Stm):Int:=if s.bs.length<=s.used then wr (wr (gD s.bs (s.used.tmod s.bs.length).toNat)+wr (wr (11*s.mix)+wr (s.used.tdiv s.bs.length))) else wr (gD s.bs (s.used.tmod s.bs.length).toNat)
def qN(s:Stm):Int:=(wr (wr (wr (5*s.mix)+Md s)+1)).tmod 251
def idle(s:Stm)(n:Int):Bool:=if n<2 then true else decide (s.bs.length=0)
def NM(s:Stm)(n:Int):Stm:=if idle s n then s else⟨s.bs,wr (s.used+1),qN s⟩
def FD(s:Stm)(n:Int):Int:=if idle s n then 0 else (if 256<n then wr (wr (256*Md s)+qN s) else Md s).tmod n
structure SN where
 s:Stm
 n:Int
def C_Next:Ctr:={ α:=SN,xs:=λa=>[.bptr 100 0,.int a.n],L:=λa=>[(100,stmO a.s)],val:=λa=>.int (FD a.s a.n),keep:=λa=>[(100,stmH (NM a.s a.n))],pre:=λa=>[0<=a.s.used] }
def CLQ:List AVal->Heap->Option (SN×List (Nat×Nat)×List Nat)
 |[.bptr p _,.d (.v (.int _ n))],H=>match CLV H p with
  |some s=>some (⟨s,n⟩,[(100,p)],[])
  |none=>none
 |_,_=>none
def DEI:Ann:={ ann 92 [] with E:=[100] }
def DCQ(a:SN):Prop:=BG Try.prog DEI CKY (AL CKY) (C_Next.xs a) (AF (C_Next.L a)) (C_Next.val a) (C_Next.keep a) [] []
abbrev Wz:=SN.n
abbrev Mc:=Stm.bs
abbrev Jz:=SN.s
abbrev rH:=FD
abbrev ABF:=Stm.used
abbrev BDQ:=Stm.mix
abbrev P1 a b:=AO (BDQ a) b
abbrev Fa a:=ABF (Jz a)
abbrev Rj a:=Mc (Jz a)
abbrev bJ a:=BDQ (Jz a)
abbrev YV a:=NM (Jz a) (Wz a)
abbrev P4 a b:=AO (ABF a) b
abbrev AWQ a b:=AS a (Mc b)
abbrev Al a b:=AWQ (Mc a) b
abbrev E4 a b:=AW a (Mc b)
abbrev XM a b:=E4 (Mc a) b
abbrev iM a:=ER (Rj a)
abbrev VA a b:=P1 a (BDQ b)
abbrev VC a b:=P4 a (ABF b)
attribute [go_sem] Wz Mc Jz rH ABF BDQ P1 Fa Rj bJ YV P4 AWQ Al E4 XM iM VA VC
theorem DJY(a:SN):(DCQ a)=(DV (OK (JD (Wz a) 2) (GA (iM a))) (AJ (BE (rH (Jz a) (Wz a))) (XM (YV a) (Jz a)) (Al (YV a) (Jz a)) (VC (YV a) (Jz a)) (VA (YV a) (Jz a))) (BF (Be (VD (iM a)) (AEL (Fa a) (Rj a)) (DX (AEL (Fa a) (Rj a)) (iM a))) (hd6 (Fa a) (iM a)) (PC (Nn (iM a)) (Kt (UH 251)) (Pp (Wz a) 256) (Es (Nn (Wz a)) (rH (Jz a) (Wz a)) (pW (Zy 256 (cC (Rj a) (Fa a) (bJ a) (iM a)) (Rc (Zy 5 (bJ a) (cC (Rj a) (Fa a) (bJ a) (iM a))))) (Wz a)) (XM (YV a) (Jz a)) (Al (YV a) (Jz a)) (P4 (YV a) (ED (Fa a))) (P1 (YV a) (Rc (Zy 5 (bJ a) (cC (Rj a) (Fa a) (bJ a) (iM a)))))) (Es (Nn (Wz a)) (rH (Jz a) (Wz a)) (pW (cC (Rj a) (Fa a) (bJ a) (iM a)) (Wz a)) (XM (YV a) (Jz a)) (Al (YV a) (Jz a)) (P4 (YV a) (ED (Fa a))) (P1 (YV a) (Rc (Zy 5 (bJ a) (cC (Rj a) (Fa a) (bJ a) (iM a))))))) (BF (Kt (UH 251)) (Pp (Wz a) 256) (Es (Nn (Wz a)) (rH (Jz a) (Wz a)) (pW (Zy 256 (AJL (Rj a) (Fa a)) (Rc (cO 5 (bJ a) (xN (Rj a) (Fa a))))) (Wz a)) (XM (YV a) (Jz a)) (Al (YV a) (Jz a)) (P4 (YV a) (ED (Fa a))) (P1 (YV a) (Rc (cO 5 (bJ a) (xN (Rj a) (Fa a)))))) (Es (Nn (Wz a)) (rH (Jz a) (Wz a)) (pW (AJL (Rj a) (Fa a)) (Wz a)) (XM (YV a) (Jz a)) (Al (YV a) (Jz a)) (P4 (YV a) (ED (Fa a))) (P1 (YV a) (Rc (cO 5 (bJ a) (xN (Rj a) (Fa a))))))))):=by kernel_rfl
def witN(lo hi:Int):Int:=wr (wr (hi-lo)+1)
def Yc(s:Stm)(lo hi:Int):Int:=wr (lo+FD s (witN lo hi))
def X9(s:Stm)(lo hi:Int):Stm:=NM s (witN lo hi)
structure SW where
 s:Stm
 lo:Int
 hi:Int
def C_Within:Ctr:={ α:=SW,xs:=λa=>[.bptr 100 0,.int a.lo,.int a.hi],L:=λa=>[(100,stmO a.s)],val:=λa=>.int (Yc a.s a.lo a.hi),keep:=λa=>[(100,stmH (X9 a.s a.lo a.hi))],pre:=λa=>[0<=a.s.used] }
def CGK:List AVal->Heap->Option (SW×List (Nat×Nat)×List Nat)
 |[.bptr p _,.d (.v (.int _ n)),.d (.v (.int _ m))],H=>match CLV H p with
  |some s=>some (⟨s,n,m⟩,[(100,p)],[])
  |none=>none
 |_,_=>none
def CFR:Ann:={ ann 15 [(CBA,C_Next.spec CLQ)] with E:=[100] }
def CHF(a:SW):Prop:=BG Try.prog CFR BUL (AL BUL) (C_Within.xs a) (AF (C_Within.L a)) (C_Within.val a) (C_Within.keep a) [] []
abbrev zM:=SW.hi
abbrev tK:=SW.lo
abbrev gA:=SW.s
abbrev ACM:=Stm.mk
abbrev BBW a b:=ACM a (ABF b) (BDQ b)
abbrev CGY a b c:=NM (BBW (DG a) b) c
abbrev CHY a b c:=CGY (Mc a) b c
abbrev Ve a b:=CHY a a b
abbrev BWJ a:=DG (Mc a)
abbrev BKK a:=BBW (BWJ a) a
abbrev Re a b:=rH (BKK a) b
abbrev Nv a:=BJI (ABF a) 0
abbrev ZD a:=AI (BDQ a)
abbrev YT a:=AI (ABF a)
abbrev Di a:=AWQ (BWJ a) a
abbrev De a:=E4 (BWJ a) a
attribute [go_sem] zM tK gA ACM BBW CGY CHY Ve BWJ BKK Re Nv ZD YT Di De
theorem CSN(a:SW):(CHF a)=(Es (BB (AI (Tw (zM a) (tK a))) (De (gA a)) (Di (gA a)) (YT (gA a)) (ZD (gA a)) (Nv (gA a))) (Yc (gA a) (tK a) (zM a)) (DK (tK a) (Re (gA a) (Tw (zM a) (tK a)))) (XM (X9 (gA a) (tK a) (zM a)) (Ve (gA a) (Tw (zM a) (tK a)))) (Al (X9 (gA a) (tK a) (zM a)) (Ve (gA a) (Tw (zM a) (tK a)))) (VC (X9 (gA a) (tK a) (zM a)) (Ve (gA a) (Tw (zM a) (tK a)))) (VA (X9 (gA a) (tK a) (zM a)) (Ve (gA a) (Tw (zM a) (tK a))))):=by kernel_rfl
def sU(v n:Int):Int:=if n<1 then 0 else if v.tmod n<0 then wr (v.tmod n+n) else v.tmod n
def DCO(v n:Int):Prop:=BG Try.prog (ann 16 []) CJJ (AL CJJ) [.int v,.int n] (AF []) (.int (sU v n)) [] [] []
theorem DHB(v:Int)(n:Int):(DCO v n)=(bif decide (n<1) then sU v n=0 else (n=0->False)/\bif decide (v.tmod n<0) then sU v n=IntKind.i64.wrap (v.tmod n+n) else sU v n=v.tmod n):=
 by kernel_rfl
def DCS:List AVal->Option (AVal×List Prop)
 |[.d (.v (.int .i64 a)),.d (.v (.int .i64 b))]=>some (.int (sU a b),[])
 |_=>none
def CZD:=yR DCS
theorem DVF(l:List Int):DLO l:=by
 rw[DPB]<;> delta AR AK BO CI AO UH BN BJ AH AZ AI It BI EZ GU Gk Mm FU MC GI Ev;exact⟨rfl,λ_ _=>rfl,rfl,rfl⟩
theorem DRR:AM Try.prog DDD (C_New.spec DKV):=WY C_New (λ_=>ann 6 []) [(0,2032)] [] DRF (λ_=>by kernel_rfl) (λ_=>AG) (λl _=>DVF l) (λ_=>YE rfl rfl) _
theorem DSS(s:Stm)(n:Int):(bif decide (n<2) then true else (s.bs.length:Int)==0)=idle s n:=by
 unfold idle
 by_cases h:n<2
 ·simp[h]
 ·simp only[h,decide_false,cond_false,if_false]
  by_cases h2:s.bs.length=0
  ·simp[h2]
  ·have:¬ (s.bs.length:Int)=0:=by omega
   simp[h2]
theorem DHS{a b:Int}(ha:0<=a)(hb:0<b):0<=a.tmod b/\a.tmod b<b:=by
 rw[Int.tmod_eq_emod_of_nonneg ha]
 exact⟨Int.emod_nonneg _ (by omega),Int.emod_lt_of_pos _ hb⟩
theorem DPX(a:SN)(h:0<=a.s.used):DCQ a:=by
 rw[DJY]<;> delta hd5 hd6 NE AR AK BO CI AO AU UH DV JD DJ DX OP Cu QJ Pp FZ PS BN BJ Hy pW Wz Mc Jz rH ABF BDQ AH AJ AZ EV DK ED BC EZ xR JA ER AW HL IA BB KC FG EN AS BF FU BE PW E4 AWQ Wb Rj P1 P4 VA cO XM VC Al AEL GA Fa Ow xN YV OK AJL Ev Nn PC bJ Rc iM VD Be Kt Zy cC Es;simp only[CC,eq_self,implies_true,forall_const,DSS]
 refine⟨λhi=>?_,λhi=>?_⟩
 ·have e1:FD a.s a.n=0:=by unfold FD;rw[hi];rfl
  have e2:NM a.s a.n=a.s:=by unfold NM;rw[hi];rfl
  rw[e1,e2];exact⟨rfl,rfl,λ_ _=>rfl,rfl,rfl⟩
 have hi2:¬ a.n<2/\¬ a.s.bs.length=0:=by
  unfold idle at hi
  by_cases x:a.n<2
  ·rw[if_pos x] at hi;cases hi
  ·rw[if_neg x] at hi;exact⟨x,by simpa using hi⟩
 obtain⟨i1,i2⟩:=hi2
 have e1:FD a.s a.n=(if 256<a.n then wr (wr (256*Md a.s)+qN a.s) else Md a.s).tmod a.n:=by unfold FD;rw[hi];rfl
 have e2:NM a.s a.n=⟨a.s.bs,wr (a.s.used+1),qN a.s⟩:=by unfold NM;rw[hi];rfl
 have hm:=DHS h (show 0<(a.s.bs.length:Int) by omega)
 rw[e1,e2]
 refine⟨⟨by omega,hm⟩,λhu=>⟨by omega,by decide,λhn=>⟨by omega,?_⟩,λhn=>⟨by omega,?_⟩⟩,λhu=>⟨by decide,λhn=>⟨by omega,?_⟩,λhn=>⟨by omega,?_⟩⟩⟩
 ·rw[if_pos (by omega)];unfold qN Md;rw[if_pos (by omega)];exact⟨rfl,rfl,λ_ _=>rfl,rfl,rfl⟩
 ·rw[if_neg (by omega)];unfold qN Md;rw[if_pos (by omega)];exact⟨rfl,rfl,λ_ _=>rfl,rfl,rfl⟩
 ·rw[if_pos (by omega)];unfold qN Md;rw[if_neg (by omega)];exact⟨rfl,rfl,λ_ _=>rfl,rfl,rfl⟩
 ·rw[if_neg (by omega)];unfold qN Md;rw[if_neg (by omega)];exact⟨rfl,rfl,λ_ _=>rfl,rfl,rfl⟩
theorem CNP:AM Try.prog CBA (C_Next.spec CLQ):=WY C_Next (λ_=>DEI) [] [] DJU (λ_=>by kernel_rfl) (λ_=>AG) (λa h=>DPX a h) (λ_=>YE rfl rfl) _
theorem CYC(a:SW)(h:0<=a.s.used):CHF a:=by
 rw[CSN]<;> delta NE Kq AR AK BO CI AO OP BN BJ JN Mc rH ABF BDQ zM tK gA ACM AH LY LX AJ AZ EV AI DG BBW DK LI ED EZ CGY Tw JA AW BWJ HL CHY IA BB KC BKK Ve FG EN AS E4 AWQ P1 P4 VA XM VC Al ZD YT Di De BJI Re Nv Es;simp only[CC,eq_self,implies_true,forall_const]
 exact⟨h,rfl,rfl,λ_ _=>rfl,rfl,rfl⟩
theorem CTI:AM Try.prog BOS (C_Within.spec CGK):=WY C_Within (λ_=>CFR) [] [] CSB (λ_=>by kernel_rfl) (λ_=>AB CNP AG) (λa h=>CYC a h) (λ_=>YE rfl rfl) _
theorem DQZ(a b:Int):DCO a b:=by
 rw[DHB];simp only[CC,eq_self,implies_true,forall_const]
 unfold sU
 refine⟨λh=>if_pos h,λh=>⟨by omega,λh2=>?_,λh2=>?_⟩⟩
 ·rw[if_neg h,if_pos h2];rfl
 ·rw[if_neg h,if_neg h2]
theorem DKE:AM Try.prog CJR CZD:=sE λxs v p h _=>by
 unfold DCS at h;split at h
 ·cases h;exact Mj (A:=ann 16 []) (ren:=[]) (fz:=[]) DFO (by kernel_rfl) AG (DQZ _ _)
 ·cases h
structure StmB(K:Int)(s:Stm):Prop where
 used:0<=s.used/\s.used<=K
 mix:0<=s.mix/\s.mix<251
 bs:∀i,i<s.bs.length->0<=gD s.bs i/\gD s.bs i<=255
theorem CAG{a b:Int}(ha:0<=a)(hb:0<b):0<=a.tmod b/\a.tmod b<b:=by
 rw[Int.tmod_eq_emod_of_nonneg ha]
 exact⟨Int.emod_nonneg _ (by omega),Int.emod_lt_of_pos _ hb⟩
theorem CGG{K:Int}{s:Stm}(h:StmB K s)(hK:K<=1000000000000000)(hb:s.bs.length≠0):0<=Md s/\Md s<=1000000000010000:=by
 have hu:=h.used
 have hm:=h.mix
 have hi:=CAG hu.1 (show 0<(s.bs.length:Int) by omega)
 have hx:=h.bs (s.used.tmod s.bs.length).toNat (by omega)
 have hq:0<=s.used.tdiv s.bs.length/\s.used.tdiv s.bs.length<=1000000000000000:=by
  rw[Int.tdiv_eq_ediv_of_nonneg hu.1]
  refine⟨Int.ediv_nonneg hu.1 (by omega),?_⟩
  have:=Int.ediv_le_self (s.bs.length:Int) hu.1
  omega
 have e0:wr (gD s.bs (s.used.tmod s.bs.length).toNat)=gD s.bs (s.used.tmod s.bs.length).toNat:=JC (by omega) (by omega)
 have e1:wr (11*s.mix)=11*s.mix:=JC (by omega) (by omega)
 have e2:wr (s.used.tdiv s.bs.length)=s.used.tdiv s.bs.length:=JC (by omega) (by omega)
 have e3:wr (11*s.mix+s.used.tdiv s.bs.length)=11*s.mix+s.used.tdiv s.bs.length:=JC (by omega) (by omega)
 have e4:wr (gD s.bs (s.used.tmod s.bs.length).toNat+(11*s.mix+s.used.tdiv s.bs.length))=gD s.bs (s.used.tmod s.bs.length).toNat+(11*s.mix+s.used.tdiv s.bs.length):=JC (by omega) (by omega)
 unfold Md
 rw[e0,e1,e2,e3,e4]
 split<;>omega
theorem CEO{K:Int}{s:Stm}(h:StmB K s)(hK:K<=1000000000000000)(hb:s.bs.length≠0):0<=qN s/\qN s<251:=by
 have hm:=h.mix
 have hn:=CGG h hK hb
 have e1:wr (5*s.mix)=5*s.mix:=JC (by omega) (by omega)
 have e2:wr (5*s.mix+Md s)=5*s.mix+Md s:=JC (by omega) (by omega)
 have e3:wr (5*s.mix+Md s+1)=5*s.mix+Md s+1:=JC (by omega) (by omega)
 unfold qN
 rw[e1,e2,e3]
 exact CAG (by omega) (by omega)
theorem CZB{s:Stm}{n:Int}(h:idle s n=false):2<=n/\s.bs.length≠0:=by
 unfold idle at h
 by_cases x:n<2
 ·rw[if_pos x] at h;cases h
 ·rw[if_neg x] at h;exact⟨by omega,by simpa using h⟩
theorem StmB.mono{K M:Int}{s:Stm}(h:StmB K s)(hK:K<=M):StmB M s:=⟨⟨h.used.1,by have:=h.used;omega⟩,h.mix,h.bs⟩
theorem StmB.next{K:Int}{s:Stm}(h:StmB K s)(hK:K<=1000000000000000)(n:Int):StmB (K+1) (NM s n):=by
 unfold NM
 cases hi:idle s n with
 |true=>exact h.mono (by omega)
 |false=>
  obtain⟨_,hb⟩:=CZB hi
  have hu:=h.used
  have e:wr (s.used+1)=s.used+1:=JC (by omega) (by omega)
  refine⟨?_,CEO h hK hb,h.bs⟩
  show 0<=wr (s.used+1)/\wr (s.used+1)<=K+1
  rw[e];omega
theorem Vt{K:Int}{s:Stm}(h:StmB K s)(hK:K<=1000000000000000)(n:Int):0<=FD s n/\(1<=n->FD s n<n):=by
 unfold FD
 cases hi:idle s n with
 |true=>exact⟨Int.le_refl _,λh=>by show (0:Int)<n;omega⟩
 |false=>
  obtain⟨hn,hb⟩:=CZB hi
  have h1:=CGG h hK hb
  have h2:=CEO h hK hb
  have e1:wr (256*Md s)=256*Md s:=JC (by omega) (by omega)
  have e2:wr (256*Md s+qN s)=256*Md s+qN s:=JC (by omega) (by omega)
  rw[e1,e2]
  have:=CAG (a:=if 256<n then 256*Md s+qN s else Md s) (b:=n) (by split<;>omega) (by omega)
  exact⟨this.1,λ_=>this.2⟩
theorem AML{K:Int}{s:Stm}(h:StmB K s)(hK:K<=1000000000000000){lo hi:Int}(h1:-1000000000<=lo)(h2:lo<=hi)(h3:hi<=1000000000):lo<=Yc s lo hi/\Yc s lo hi<=hi:=by
 have e1:wr (hi-lo)=hi-lo:=JC (by omega) (by omega)
 have e2:wr (hi-lo+1)=hi-lo+1:=JC (by omega) (by omega)
 unfold Yc witN
 rw[e1,e2]
 have:=Vt h hK (hi-lo+1)
 have h4:=this.2 (by omega)
 have e3:wr (lo+FD s (hi-lo+1))=lo+FD s (hi-lo+1):=JC (by omega) (by omega)
 rw[e3];omega
end Go.Bal

namespace Go.Bal
open Go Go.Sym Go.Proofs
def belM(a b:Rt):Bool:=decide (wr (a.n*b.d)<wr (b.n*a.d))
def CCK:=pD dR2 λx=>.bool (belM x.lo x.hi)
def CRJ(a:Bnd):Prop:=BG Try.prog (ann 16 []) CAB (AL CAB) (xR2 a) (AF []) (.bool (belM a.lo a.hi)) [] [] []
theorem CYO(a:Bnd):(CRJ a)=(JB (belM (ZX a) (Aa a)) (JD (PW (IP a) (IR a)) (PW (IK a) (IW a)))):=by kernel_rfl
def dB1:List AVal->Option Bnd
 |[.d (.agg [.v (.int .i64 a),.v (.int .i64 b),.v (.int .i64 c),.v (.int .i64 d)])]=>some ⟨⟨a,b⟩,⟨c,d⟩⟩
 |_=>none
def xB1(b:Bnd):List AVal:=[.d (eBnd b)]
def fsM(r:Rt):Bool:=!(decide (r.d<1)||(decide (r.d>2000)||(decide (r.n<0)||decide (r.n>wr (200000*r.d)))))
def sndM(b:Bnd):Bool:=fsM b.lo&&(fsM b.hi&&!belM b.hi b.lo)
def CMV:=pD dB1 λb=>.bool (sndM b)
def rtL(b:Bnd):List Rt:=[b.lo,b.hi]
def so2b(b:Bnd):Shape:={ α:=Nat,dflt:=0,T:=λi=>⟨[(1,.bptr 1000 0),(9,.d (lst 2 2 λi=>eRt (gD (rtL b) i))),(10,.int 2),(11,.int i)],[(1000,.live (.box [.int b.lo.n,.int b.lo.d,.int b.hi.n,.int b.hi.d]))]⟩,inv:=λi=>i<=2/\(1<=i->fsM b.lo=true)/\(2<=i->fsM b.hi=true),meas:=λi=>2-i }
def CNK(b:Bnd):Ann:={ ann 43 [(BNW,CCK)] with md:=λid=>if id=1 then some (λk=>if k=4 then 4 else 0) else none,loops:=λid=>if id=2 then some [so2b b] else none }
def CNJ(b:Bnd):Prop:=BG Try.prog (CNK b) CBO (AL CBO) (xB1 b) (AF []) (.bool (sndM b)) [] [] []
abbrev AGC a:=DR (fsM a)
abbrev pL a b:=(@gD Rt instInhabitedRt) (rtL a) b
attribute [go_sem] AGC pL
theorem BSA(b:Bnd):(CNJ b)=(KF (λi=>AY (EP Fg (AK (λj=>DO j 2 (GE (pL b j)) (RX j 0 (IP b) (IK b)) (IG (pL b j)) (RX j 0 (IW b) (IR b)))) XQ (AJ (BS i) (AI (IP b)) (AI (IW b)) (AI (IK b)) (AI (IR b)))) (ARX i) (BO (FW i) (AGC (ZX b))) (Kn 2 i (AGC (Aa b)))) (λi=>CX (AH (ARX i) (BO (FW i) (AGC (ZX b))) (Kn 2 i (AGC (Aa b)))) i 2 (BF (DU i 2) (OK (OK (OK (JD (IG (pL b i)) 1) (Pp (IG (pL b i)) 2000)) (Ga (GE (pL b i)))) (Pp (GE (pL b i)) (PW 200000 (IG (pL b i))))) (HM (sndM b)) (LA (λj=>HR (EP Fg (AK (λk=>NB k 2 (GE (pL b k)) (IG (pL b k)))) XQ (AJ (AV j i) (AI (IP b)) (AI (IW b)) (AI (IK b)) (AI (IR b)))) (AH (ARX j) (BO (FW j) (AGC (ZX b))) (Kn 2 j (AGC (Aa b)))) 2 j i))) (XJ (sndM b) (belM (Aa b) (ZX b))))):=by kernel_rfl
def Q4(a b:Int):List Gau:=[⟨100,10,12⟩,⟨200,30,32⟩,⟨300,a,b⟩]
def CNR:=pD dI2 λx=>.d (KZ (Q4 x.a x.b))
def CMZ:Ann:={ ann 14 [] with md:=λid=>if id=1 then some (λk=>if k=8 then 4 else 0) else none }
def CNA(x:I2):Prop:=BG Try.prog CMZ CCD (AL CCD) (xI2 x) (AF []) (.d (KZ (Q4 x.a x.b))) [] [] []
theorem CUF(x:I2):(CNA x)=((Q4 x.a x.b).length=3/\∀(i:Nat),i<(Q4 x.a x.b).length->((gD (Q4 x.a x.b) i).st=bif decide (i=0) then 100 else bif decide (i-1=0) then 200 else 300)
 /\ ((gD (Q4 x.a x.b) i).lo=bif decide (i=0) then 10 else bif decide (i-1=0) then 30 else x.a)/\(gD (Q4 x.a x.b) i).hi=bif decide (i=0) then 12 else bif decide (i-1=0) then 32 else x.b):=by
 kernel_rfl
def DDF:=pD dI2 λx=>.d (eRt ⟨x.a,x.b⟩)
def DCP(x:I2):Prop:=BG Try.prog (ann 8 []) AWC (AL AWC) (xI2 x) (AF []) (.d (eRt ⟨x.a,x.b⟩)) [] [] []
theorem DIB(x:I2):(DCP x)=(And (AI (Cp x)) (AI (Mh x))):=by kernel_rfl
theorem CGP:AM Try.prog BNW CCK:=Hv xR2 hR2 λg _=>Mj (A:=ann 16 []) (ren:=[]) (fz:=[]) DDP (by kernel_rfl) AG (by
 show CRJ g;rw[CYO]<;> delta JB NE JD Hy GE IG ZX Aa EV PW IR IP IW IK;rfl)
theorem hB1(xs:List AVal)(a:Bnd)(h:dB1 xs=some a):xs=xB1 a:=by
 unfold dB1 at h;split at h<;>cases h;rfl
theorem CXV:AM Try.prog BXJ CMV:=Hv xB1 hB1 λb _=>Mj (A:=CNK b) (ren:=[]) (fz:=[]) DAQ (by kernel_rfl) (AB CGP AG) (by
 show CNJ b;rw[BSA]<;> delta JB hd5 Oz NE AR AK BO CI AO AU UH EA DV JD DJ DX OP IS LA QJ Pp Pg jJ Hy GE IG ZX Aa AH AJ AZ EV AI BI DK BZ ED BC HE EU GY AY GV CK JZ FK DR CE KJ EC AV DO BF ES FF NB PW FW JO IR IP IW IK CX NT Kn BS EP HR DU Fg HM RX KF OK XQ XJ Ga pL ARX AGC;simp only[CC,eq_self,implies_true,forall_const]
 have eF:∀r:Rt,(bif bif bif decide (r.d<1) then true else decide (r.d>2000) then true else decide (r.n<0) then true else decide (r.n>IntKind.i64.wrap (200000*r.d)))=!fsM r:=λr=>by
  unfold fsM wr;rw[Bool.not_not]
  cases decide (r.d<1)<;>cases decide (r.d>2000)<;>cases decide (r.n<0)<;>rfl
 simp only[eF]
 refine⟨⟨0,⟨λi hi=>?_,rfl⟩,by omega,λh=>absurd h (by omega),λh=>absurd h (by omega)⟩,λi ⟨i1,i2,i3⟩=>⟨λhlt=>⟨⟨by omega,by omega⟩,λhf=>?_,λhf=>⟨i+1,(FN (by omega)).symm,⟨by omega,λ_=>?_,λ_=>?_⟩,by omega⟩⟩,λhge=>?_⟩⟩
 ·match i,hi with
  |0,_=>exact⟨rfl,rfl⟩
  |1,_=>exact⟨rfl,rfl⟩
 ·have hf:fsM (gD (rtL b) i)=false:=by simpa using hf
  unfold sndM
  rcases (show i=0∨i=1 by omega) with rfl | rfl
  ·rw[show fsM b.lo=false from hf];rfl
  ·rw[show fsM b.hi=false from hf];cases fsM b.lo<;>rfl
 ·have hf:fsM (gD (rtL b) i)=true:=by simpa using hf
  rcases (show i=0∨i=1 by omega) with rfl | rfl
  ·exact hf
  ·exact i2 (by omega)
 ·have hf:fsM (gD (rtL b) i)=true:=by simpa using hf
  have:i=1:=by omega
  subst this;exact hf
 ·unfold sndM;rw[i2 (by omega),i3 (by omega)];rfl)
theorem CXL:AM Try.prog BYH CNR:=Hv xI2 hI2 λx _=>Mj (A:=CMZ) (ren:=[]) (fz:=[]) DCV (by kernel_rfl) AG (by
 show CNA x;rw[CUF]
 refine⟨rfl,λi hi=>?_⟩
 match i,hi with
 |0,_=>exact⟨rfl,rfl,rfl⟩
 |1,_=>exact⟨rfl,rfl,rfl⟩
 |2,_=>exact⟨rfl,rfl,rfl⟩)
theorem DIY:AM Try.prog AXG DDF:=Hv xI2 hI2 λx _=>Mj (A:=ann 8 []) (ren:=[]) (fz:=[]) CDY (by kernel_rfl) AG (by
 show DCP x;rw[DIB]<;> delta AO Cp Mh AI;exact⟨rfl,rfl⟩)
end Go.Bal

namespace Go.Bal
open Go Go.Sym Go.Proofs
def COO:Ann:={ ann 178 [(BYH,CNR),(CKW,C_Rate.spec xY),(BYE,C_Knots.spec xY),(CJH,C_Knot.spec dGK),(CBW,C_Flow.spec dGBt),(BON,C_Stages.spec dGBf),(CYE,C_Dry.spec dGB),(AXG,DDF)] with md:=λid=>if id=4 then some (λk=>if k=1 then 4 else 0) else if id=5 then some (λk=>if k=4 then 4 else if k=5 then 4 else 0) else none }
def COF(n:Nat):Prop:=BG Try.prog COO BXW (AL BXW) [] (AF []) (.bool true) [] [] []
abbrev Gp:Prop:=(3:Nat)=(3:Nat)
abbrev z_awake_1:List Gau:=Q4 (50:Int) (52:Int)
abbrev yZ(i:Nat):Gau:=gD z_awake_1 i
abbrev ANU(i:Nat):Gau:=gD (KA z_awake_1.length λ(i:Nat)=>yZ i) i
abbrev cA:Prop:=∀(i:Nat),i<(3:Nat)->(ANU i).st=(yZ i).st/\(ANU i).lo=(yZ i).lo/\(ANU i).hi=(yZ i).hi
abbrev BEV:Prop:=(3:Nat)<(20:Nat)/\True
abbrev z_awake_6:List Gau:=Q4 (60:Int) (62:Int)
abbrev xZ(i:Nat):Gau:=gD z_awake_6 i
abbrev ANI(i:Nat):Gau:=gD (KA z_awake_6.length λ(i:Nat)=>xZ i) i
abbrev BHS:Prop:=∀(i:Nat),i<(3:Nat)->(ANI i).st=(xZ i).st/\(ANI i).lo=(xZ i).lo/\(ANI i).hi=(xZ i).hi
abbrev AQB:Prop:=Gp/\BHS/\BEV
abbrev Yv(i:Nat):Bool:=decide (i=(0:Nat))
abbrev AWH(i:Nat):Int:=bif Yv i then (0:Int) else bif decide (i-(1:Nat)=(0:Nat)) then (1:Int) else (2:Int)
abbrev ATD:Prop:=(3:Nat)<(1073741824:Nat)
abbrev AVC:Prop:=(2:Nat)=(2:Nat)
abbrev AVH(i:Nat):Int:=bif Yv i then (100:Int) else (200:Int)
abbrev AUD(i:Nat):Int:=bif Yv i then (10:Int) else (5:Int)
abbrev AXM(i:Nat):Int:=bif Yv i then (12:Int) else (8:Int)
abbrev D2(i:Nat):Gau:=gD (KA (2:Nat) λ(i:Nat)=>Gau.mk (AVH i) (AUD i) (AXM i)) i
abbrev AVD(i:Nat):Int:=bif Yv i then (0:Int) else (1:Int)
abbrev AQC:Prop:=(2:Nat)<(1073741824:Nat)
abbrev XW:Prop:=(0:Nat)=(0:Nat)
abbrev cD:Prop:=((3:Nat)<(4611686018427387904:Nat)/\(0:Nat)<(4611686018427387904:Nat))/\True
theorem DAJ(n:Nat):(COF n)=((Gp/\cA/\BEV)/\AQB/\(Gp/\BHS/\Gp/\(∀(i:Nat),i<(3:Nat)->gD (KA (3:Nat) λ(i:Nat)=>AWH i) i =
 AWH i)/\ATD/\ATD)/\(AVC/\(∀(i:Nat),i<(2:Nat)->(D2 i).st=AVH i/\(D2 i).lo=AUD i/\(D2 i).hi=AXM i)/\AVC/\(∀(i:Nat),
 i<(2:Nat)->gD (KA (2:Nat) λ(i:Nat)=>AVD i) i=AVD i)/\AQC/\AQC)/\AQB/\(Gp/\cA/\XW/\XW/\Int.ofNat (400:Nat)=Int.ofNat (400 :
 Nat)/\cD)/\(Gp/\cA/\XW/\XW/\Int.ofNat (150:Nat)=Int.ofNat (150:Nat)/\cD)/\(Gp/\cA/\XW/\XW/\Int.ofNat (50:Nat)=Int.ofNat
 (50:Nat)/\cD)/\(Gp/\cA/\XW/\XW/\Int.ofNat (40:Nat)=Int.ofNat (40:Nat)/\cD)/\(Gp/\cA/\XW/\XW/\cD)/\true=true):=
 by kernel_rfl
def CQI:List AVal->Option (AVal×List Prop)
 |[]=>some (.bool true,[])
 |_=>none
def COA:Sym.Spec:=yR CQI
theorem DKF:COF 0:=by
 rw[DAJ];delta Gp z_awake_1 yZ ANU cA BEV z_awake_6 xZ ANI BHS AQB Yv AWH ATD AVC AVH AUD AXM D2 AVD AQC XW cD;simp only[CC,eq_self,implies_true,forall_const]
 decide +kernel
theorem DEJ:AM Try.prog CDG COA:=sE λxs v p h _=>by
 unfold CQI at h;split at h
 ·cases h;exact Mj (A:=COO) (ren:=[]) (fz:=[]) DBU (by kernel_rfl) (AB CXL (AB DIE (AB DEF (AB DHG (AB COG (AB CTF (AB DTB (AB DIY AG)))))))) DKF
 ·cases h
end Go.Bal
