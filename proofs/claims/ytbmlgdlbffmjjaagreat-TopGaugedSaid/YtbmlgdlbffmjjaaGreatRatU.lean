/- Package rating: Rate, Knots. -/
import Derived.Test.YtbmlgdlbffmjjaaGreatRatT
set_option linter.unusedVariables false
set_option linter.unusedSimpArgs false
namespace Go.Bal
open Go Go.Sym Go.Proofs
def C_Rate:Ctr:={ C_few with val:=λ(g:List Gau)=>.tup [.d (eRtg (ZL g).r),.int (ZL g).e] }
def BRX(g:List Gau):Prop:=AX Try.prog (ann 15 [(H9,C_few.spec A5)]) BDM (AF BDM) (C_Rate.xs g) (AC []) (C_Rate.val g) [] [] []
theorem CEP(g:List Gau):(BRX g)=(AV (SE g (OC (BB g) 20)) (BK (Ov g) (Ov (BB g))) (BR (Ov g) (Ov (BB g))) (AN (Js g) (Js (BB g))) (AE (λi=>FH i (Js g) (NR (XC g) i (XC (BB g))) (EU (XC g) i) (EU (XC (BB g)) i) (EQ (XC g) i) (EQ (XC (BB g)) i) (ES (XC g) i) (ES (XC (BB g)) i))) (AK (Sa g) (Sa (BB g)))):=by kernel_rfl
theorem CEV:AH Try.prog AZW (C_Rate.spec A5):=PU C_Rate (λ_=>ann 15 [(H9,C_few.spec A5)]) [] [] CER (λ_=>by kernel_rfl) (λ_=>AA CPK AD) (λ(g:List Gau) h=>by
 show BRX g;rw[CEP]<;> delta KA LX JZ LQ HV GZ JJ AK AN FI AE BA BM IR FW BP GU HR LF mE cS AG AI AO QG BB DW IF HB DF JG DK HA AQ JH ES JK KD ML EQ CI OT NQ EU UH GM AV FH RO HQ BK IY HZ DZ KH EH BR BU OC Em CN CV WI XC NR PZ Js Ov Sa SE;simp only[CC,CU]
 exact (show g.length<20/\True from h).1) (λ_=>RR rfl rfl) _
end Go.Bal

namespace Go.Bal.DL
open Go.Sym Go
theorem m1(n:Int):LO (.v (.int .u8 n))=n:=rfl
end Go.Bal.DL
namespace Go.Bal
open Go Go.Sym Go.Proofs
structure Stm where
 bs:List Int
 used:Int
 mix:Int
 deriving Inhabited
end Go.Bal
namespace Go.Bal.DL
theorem m2(s:Stm):Stm.mk s.bs s.used s.mix=s:=rfl
end Go.Bal.DL
namespace Go.Bal
open Go Go.Sym Go.Proofs
def eBys(l:List Int):DVal:=lst 1 l.length λi=>.v (.int .u8 (gD l i))
def stmO(s:Stm):AObj:=.box [.d (eBys s.bs),.int s.used,.int s.mix]
def stmH(s:Stm):HCell:=.live (stmO s)
def BCQ(H:Heap)(id:Nat):Option Stm:=match H id with
 | .live (.box [.d (.list _ n g _),.d (.v (.int _ u)),.d (.v (.int _ m))])=>some ⟨VZ n λi=>LO (g i),u,m⟩
 |_=>none
def C_New:Ctr:={ α:=List Int,xs:=λl=>[.d (eBys l)],L:=λ_=>[],val:=λ_=>.bptr 0 0,keep:=λl=>[(0,stmH ⟨l,0,0⟩)] }
def CIG:List AVal->Heap->Option (List Int×List (Nat×Nat)×List Nat)
 |[.d (.list _ n g _)],_=>some (VZ n λi=>LO (g i),[],[])
 |_,_=>none
def CHG(l:List Int):Prop:=AX Try.prog (ann 6 []) BUV (AF BUV) (C_New.xs l) (AC []) (C_New.val l) (C_New.keep l) [(0,2032)] []
theorem CMT(l:List Int):(CHG l)=(Nr (HT l) (EF l) eW):=by kernel_rfl
def Hx(s:Stm):Int:=if s.bs.length<=s.used then wr (wr (gD s.bs (s.used.tmod s.bs.length).toNat)+wr (wr (11*s.mix)+wr (s.used.tdiv s.bs.length))) else wr (gD s.bs (s.used.tmod s.bs.length).toNat)
def gV(s:Stm):Int:=(wr (wr (wr (5*s.mix)+Hx s)+1)).tmod 251
def idle(s:Stm)(n:Int):Bool:=if n<2 then true else decide (s.bs.length=0)
def mX(s:Stm)(n:Int):Stm:=if idle s n then s else⟨s.bs,wr (s.used+1),gV s⟩
def fT(s:Stm)(n:Int):Int:=if idle s n then 0 else (if 256<n then wr (wr (256*Hx s)+gV s) else Hx s).tmod n
structure SN where
 s:Stm
 n:Int
def C_Next:Ctr:={ α:=SN,xs:=λa=>[.bptr 100 0,.int a.n],L:=λa=>[(100,stmO a.s)],val:=λa=>.int (fT a.s a.n),keep:=λa=>[(100,stmH (mX a.s a.n))],pre:=λa=>[0<=a.s.used] }
def AUW:List AVal->Heap->Option (SN×List (Nat×Nat)×List Nat)
 |[.bptr p _,.d (.v (.int _ n))],H=>match BCQ H p with
  |some s=>some (⟨s,n⟩,[(100,p)],[])
  |none=>none
 |_,_=>none
def BWP:Ann:={ ann 92 [] with E:=[100] }
def BYX(a:SN):Prop:=AX Try.prog BWP AZS (AF AZS) (C_Next.xs a) (AC (C_Next.L a)) (C_Next.val a) (C_Next.keep a) [] []
abbrev Qn:=SN.n
abbrev eS:=Stm.bs
abbrev Fb:=SN.s
abbrev sR:=fT
abbrev Rs:=Stm.used
abbrev yP:=Stm.mix
abbrev Wp a b:=AK (yP a) b
abbrev yH a:=FI (eS a)
abbrev AHX a:=yH (Fb a)
abbrev cE a:=BH (AHX a)
abbrev Sv a:=Rs (Fb a)
abbrev AGF a b:=sD (Sv a) (cE b)
abbrev Xj a b c:=Zj (eS (Fb a)) (AGF b c)
abbrev Ut a b:=JB a (yP (Fb b))
abbrev VI a:=mX (Fb a) (Qn a)
abbrev Yd a b:=AK (Rs a) b
abbrev tW a b c:=Gq a (yH b) (eS b) c
abbrev Hi a b c:=tW a b (eS c)
abbrev JM a b:=AE (λi=>Hi i a b)
abbrev wO a b:=AN (yH a) b
abbrev HL a b:=wO a (yH b)
abbrev JD a b:=Wp a (yP b)
abbrev JF a b:=Yd a (Rs b)
attribute [go_sem] Qn eS Fb sR Rs yP Wp yH AHX cE Sv AGF Xj Ut VI Yd tW Hi JM wO HL JD JF
theorem CEI(a:SN):(BYX a)=(FA (PD (NL (Qn a) 2) (QI (cE a))) (AI (CP (sR (Fb a) (Qn a))) (HL (VI a) (Fb a)) (JM (VI a) (Fb a)) (JF (VI a) (Fb a)) (JD (VI a) (Fb a))) (GV (Bi (Sf (cE a)) (AGF a a) (DG (AGF a a) (AHX a))) (G4 (Sv a) (cE a)) (AG (YD (BD (AHX a))) (YD (TY 251 0)) (FA (Xi (Qn a) 256) (AV (YD (CP (Qn a))) (AK (sR (Fb a) (Qn a)) (sD (DN (JB 256 (DN (CS (Xj a a a)) (oP (Ut 11 a) (Sv a) (cE a)))) (sD (FP (DN (Ut 5 a) (DN (CS (Xj a a a)) (oP (Ut 11 a) (Sv a) (cE a))))) 251)) (Qn a))) (HL (VI a) (Fb a)) (JM (VI a) (Fb a)) (Yd (VI a) (FP (Sv a))) (Wp (VI a) (sD (FP (DN (Ut 5 a) (DN (CS (Xj a a a)) (oP (Ut 11 a) (Sv a) (cE a))))) 251))) (AV (YD (CP (Qn a))) (AK (sR (Fb a) (Qn a)) (sD (DN (CS (Xj a a a)) (oP (Ut 11 a) (Sv a) (cE a))) (Qn a))) (HL (VI a) (Fb a)) (JM (VI a) (Fb a)) (Yd (VI a) (FP (Sv a))) (Wp (VI a) (sD (FP (DN (Ut 5 a) (DN (CS (Xj a a a)) (oP (Ut 11 a) (Sv a) (cE a))))) 251))))) (GV (YD (TY 251 0)) (Xi (Qn a) 256) (AV (YD (CP (Qn a))) (AK (sR (Fb a) (Qn a)) (sD (DN (JB 256 (CS (Xj a a a))) (sD (FP (C0 (Ut 5 a) (Xj a a a))) 251)) (Qn a))) (HL (VI a) (Fb a)) (JM (VI a) (Fb a)) (Yd (VI a) (FP (Sv a))) (Wp (VI a) (sD (FP (C0 (Ut 5 a) (Xj a a a))) 251))) (AV (YD (CP (Qn a))) (AK (sR (Fb a) (Qn a)) (sD (CS (Xj a a a)) (Qn a))) (HL (VI a) (Fb a)) (JM (VI a) (Fb a)) (Yd (VI a) (FP (Sv a))) (Wp (VI a) (sD (FP (C0 (Ut 5 a) (Xj a a a))) 251)))))):=by kernel_rfl
def witN(lo hi:Int):Int:=wr (wr (hi-lo)+1)
def witV(s:Stm)(lo hi:Int):Int:=wr (lo+fT s (witN lo hi))
def witS(s:Stm)(lo hi:Int):Stm:=mX s (witN lo hi)
structure SW where
 s:Stm
 lo:Int
 hi:Int
def C_Within:Ctr:={ α:=SW,xs:=λa=>[.bptr 100 0,.int a.lo,.int a.hi],L:=λa=>[(100,stmO a.s)],val:=λa=>.int (witV a.s a.lo a.hi),keep:=λa=>[(100,stmH (witS a.s a.lo a.hi))],pre:=λa=>[0<=a.s.used] }
def AIA:List AVal->Heap->Option (SW×List (Nat×Nat)×List Nat)
 |[.bptr p _,.d (.v (.int _ n)),.d (.v (.int _ m))],H=>match BCQ H p with
  |some s=>some (⟨s,n,m⟩,[(100,p)],[])
  |none=>none
 |_,_=>none
def AVF:Ann:={ ann 15 [(AIV,C_Next.spec AUW)] with E:=[100] }
def AYT(a:SW):Prop:=AX Try.prog AVF AKR (AF AKR) (C_Within.xs a) (AC (C_Within.L a)) (C_Within.val a) (C_Within.keep a) [] []
abbrev mI:=SW.hi
abbrev hZ:=SW.lo
abbrev Wc:=SW.s
abbrev mA:=witV
abbrev yL:=Stm.mk
abbrev mH:=witS
abbrev tZ a:=EL (eS a)
abbrev ANA a b:=yL (tZ a) (Rs b) (yP b)
abbrev gP a:=ANA a a
abbrev fJ a b:=mX (gP a) b
abbrev kI a b:=sR (gP a) b
abbrev Sk a:=Int.NonNeg (Nn (Rs a) 0)
abbrev WX a:=AJ (yP a)
abbrev WL a:=AJ (Rs a)
abbrev Gl a:=BR (tZ a) (eS a)
abbrev WG a:=GM (tZ a) (yH a)
attribute [go_sem] mI hZ Wc mA yL mH tZ ANA gP fJ kI Sk WX WL Gl WG
theorem BND(a:SW):(AYT a)=(AV (AV (AJ (FP (IV (mI a) (hZ a)))) (WG (Wc a)) (Gl (Wc a)) (WL (Wc a)) (WX (Wc a)) (Sk (Wc a))) (AK (mA (Wc a) (hZ a) (mI a)) (DN (hZ a) (kI (Wc a) (FP (IV (mI a) (hZ a)))))) (HL (mH (Wc a) (hZ a) (mI a)) (fJ (Wc a) (FP (IV (mI a) (hZ a))))) (JM (mH (Wc a) (hZ a) (mI a)) (fJ (Wc a) (FP (IV (mI a) (hZ a))))) (JF (mH (Wc a) (hZ a) (mI a)) (fJ (Wc a) (FP (IV (mI a) (hZ a))))) (JD (mH (Wc a) (hZ a) (mI a)) (fJ (Wc a) (FP (IV (mI a) (hZ a)))))):=by kernel_rfl
theorem CRL(l:List Int):CHG l:=by
 rw[CMT]<;> delta AK AN FI AE BA BM IR FF AG AO AJ Rn AR HA HT Mw OV EF JX eW Nr;exact⟨rfl,λ_ _=>rfl,rfl,rfl⟩
theorem CMZ:AH Try.prog BVZ (C_New.spec CIG):=PU C_New (λ_=>ann 6 []) [(0,2032)] [] COV (λ_=>by kernel_rfl) (λ_=>AD) (λl _=>CRL l) (λ_=>RR rfl rfl) _
theorem CLZ(s:Stm)(n:Int):(bif decide (n<2) then true else (s.bs.length:Int)==0)=idle s n:=by
 unfold idle
 by_cases h:n<2
 ·simp[h]
 ·simp only[h,decide_false,cond_false,if_false]
  by_cases h2:s.bs.length=0
  ·simp[h2]
  ·have:¬ (s.bs.length:Int)=0:=by omega
   simp[h2]
theorem CCO{a b:Int}(ha:0<=a)(hb:0<b):0<=a.tmod b/\a.tmod b<b:=by
 rw[Int.tmod_eq_emod_of_nonneg ha]
 exact⟨Int.emod_nonneg _ (by omega),Int.emod_lt_of_pos _ hb⟩
theorem CPH(a:SN)(h:0<=a.s.used):BYX a:=by
 rw[CEI]<;> delta Wo G4 NL HU FA AK Xi AN FI AE BA BM IR BH DC ER NE TD FF lZ sD D8 ZJ MW Qn eS Fb sR Rs yP CS AG AI AO BF yH DN GH ML DG FP NQ AV RO wO Wp Yd HL JD JB Gq JF tW Hi PD JM BD C0 oP JX CP GV AHX Sv cE VI Zj QI TY YD AGF Ut Xj Bi Sf;simp only[CC,CU,CLZ]
 refine⟨λhi=>?_,λhi=>?_⟩
 ·have e1:fT a.s a.n=0:=by unfold fT;rw[hi];rfl
  have e2:mX a.s a.n=a.s:=by unfold mX;rw[hi];rfl
  rw[e1,e2];exact⟨rfl,rfl,λ_ _=>rfl,rfl,rfl⟩
 have hi2:¬ a.n<2/\¬ a.s.bs.length=0:=by
  unfold idle at hi
  by_cases x:a.n<2
  ·rw[if_pos x] at hi;cases hi
  ·rw[if_neg x] at hi;exact⟨x,by simpa using hi⟩
 obtain⟨i1,i2⟩:=hi2
 have e1:fT a.s a.n=(if 256<a.n then wr (wr (256*Hx a.s)+gV a.s) else Hx a.s).tmod a.n:=by unfold fT;rw[hi];rfl
 have e2:mX a.s a.n=⟨a.s.bs,wr (a.s.used+1),gV a.s⟩:=by unfold mX;rw[hi];rfl
 have hm:=CCO h (show 0<(a.s.bs.length:Int) by omega)
 rw[e1,e2]
 refine⟨⟨by omega,hm⟩,λhu=>⟨by omega,by decide,λhn=>⟨by omega,?_⟩,λhn=>⟨by omega,?_⟩⟩,λhu=>⟨by decide,λhn=>⟨by omega,?_⟩,λhn=>⟨by omega,?_⟩⟩⟩
 ·rw[if_pos (by omega)];unfold gV Hx;rw[if_pos (by omega)];exact⟨rfl,rfl,λ_ _=>rfl,rfl,rfl⟩
 ·rw[if_neg (by omega)];unfold gV Hx;rw[if_pos (by omega)];exact⟨rfl,rfl,λ_ _=>rfl,rfl,rfl⟩
 ·rw[if_pos (by omega)];unfold gV Hx;rw[if_neg (by omega)];exact⟨rfl,rfl,λ_ _=>rfl,rfl,rfl⟩
 ·rw[if_neg (by omega)];unfold gV Hx;rw[if_neg (by omega)];exact⟨rfl,rfl,λ_ _=>rfl,rfl,rfl⟩
theorem ARM:AH Try.prog AIV (C_Next.spec AUW):=PU C_Next (λ_=>BWP) [] [] CFN (λ_=>by kernel_rfl) (λ_=>AD) (λa h=>CPH a h) (λ_=>RR rfl rfl) _
theorem BRP(a:SW)(h:0<=a.s.used):AYT a:=by
 rw[BND]<;> delta AK AN FI AE BA BM IR NE TD Ff Nn eS sR Rs yP mI hZ Wc mA yL mH CS AG AI AO AJ VY IV EL yH DN tZ HA ANA ML FP NQ GM AV gP RO IY wO Wp Yd HL JD Gq HZ JF tW BR Hi JM fJ kI WX WL WG Gl Sk;simp only[CC,CU]
 exact⟨h,rfl,rfl,λ_ _=>rfl,rfl,rfl⟩
theorem AMU:AH Try.prog J7 (C_Within.spec AIA):=PU C_Within (λ_=>AVF) [] [] BMB (λ_=>by kernel_rfl) (λ_=>AA ARM AD) (λa h=>BRP a h) (λ_=>RR rfl rfl) _
structure StmB(K:Int)(s:Stm):Prop where
 used:0<=s.used/\s.used<=K
 mix:0<=s.mix/\s.mix<251
 bs:∀i,i<s.bs.length->0<=gD s.bs i/\gD s.bs i<=255
theorem ACQ{a b:Int}(ha:0<=a)(hb:0<b):0<=a.tmod b/\a.tmod b<b:=by
 rw[Int.tmod_eq_emod_of_nonneg ha]
 exact⟨Int.emod_nonneg _ (by omega),Int.emod_lt_of_pos _ hb⟩
theorem AWM{K:Int}{s:Stm}(h:StmB K s)(hK:K<=1000000000000000)(hb:s.bs.length≠0):0<=Hx s/\Hx s<=1000000000010000:=by
 have hu:=h.used
 have hm:=h.mix
 have hi:=ACQ hu.1 (show 0<(s.bs.length:Int) by omega)
 have hx:=h.bs (s.used.tmod s.bs.length).toNat (by omega)
 have hq:0<=s.used.tdiv s.bs.length/\s.used.tdiv s.bs.length<=1000000000000000:=by
  rw[Int.tdiv_eq_ediv_of_nonneg hu.1]
  refine⟨Int.ediv_nonneg hu.1 (by omega),?_⟩
  have:=Int.ediv_le_self (s.bs.length:Int) hu.1
  omega
 have e0:wr (gD s.bs (s.used.tmod s.bs.length).toNat)=gD s.bs (s.used.tmod s.bs.length).toNat:=ZW (by omega) (by omega)
 have e1:wr (11*s.mix)=11*s.mix:=ZW (by omega) (by omega)
 have e2:wr (s.used.tdiv s.bs.length)=s.used.tdiv s.bs.length:=ZW (by omega) (by omega)
 have e3:wr (11*s.mix+s.used.tdiv s.bs.length)=11*s.mix+s.used.tdiv s.bs.length:=ZW (by omega) (by omega)
 have e4:wr (gD s.bs (s.used.tmod s.bs.length).toNat+(11*s.mix+s.used.tdiv s.bs.length))=gD s.bs (s.used.tmod s.bs.length).toNat+(11*s.mix+s.used.tdiv s.bs.length):=ZW (by omega) (by omega)
 unfold Hx
 rw[e0,e1,e2,e3,e4]
 split<;>omega
theorem AWH{K:Int}{s:Stm}(h:StmB K s)(hK:K<=1000000000000000)(hb:s.bs.length≠0):0<=gV s/\gV s<251:=by
 have hm:=h.mix
 have hn:=AWM h hK hb
 have e1:wr (5*s.mix)=5*s.mix:=ZW (by omega) (by omega)
 have e2:wr (5*s.mix+Hx s)=5*s.mix+Hx s:=ZW (by omega) (by omega)
 have e3:wr (5*s.mix+Hx s+1)=5*s.mix+Hx s+1:=ZW (by omega) (by omega)
 unfold gV
 rw[e1,e2,e3]
 exact ACQ (by omega) (by omega)
theorem BXP{s:Stm}{n:Int}(h:idle s n=false):2<=n/\s.bs.length≠0:=by
 unfold idle at h
 by_cases x:n<2
 ·rw[if_pos x] at h;cases h
 ·rw[if_neg x] at h;exact⟨by omega,by simpa using h⟩
theorem StmB.mono{K M:Int}{s:Stm}(h:StmB K s)(hK:K<=M):StmB M s:=⟨⟨h.used.1,by have:=h.used;omega⟩,h.mix,h.bs⟩
theorem StmB.next{K:Int}{s:Stm}(h:StmB K s)(hK:K<=1000000000000000)(n:Int):StmB (K+1) (mX s n):=by
 unfold mX
 cases hi:idle s n with
 |true=>exact h.mono (by omega)
 |false=>
  obtain⟨_,hb⟩:=BXP hi
  have hu:=h.used
  have e:wr (s.used+1)=s.used+1:=ZW (by omega) (by omega)
  refine⟨?_,AWH h hK hb,h.bs⟩
  show 0<=wr (s.used+1)/\wr (s.used+1)<=K+1
  rw[e];omega
theorem M5{K:Int}{s:Stm}(h:StmB K s)(hK:K<=1000000000000000)(n:Int):0<=fT s n/\(1<=n->fT s n<n):=by
 unfold fT
 cases hi:idle s n with
 |true=>exact⟨Int.le_refl _,λh=>by show (0:Int)<n;omega⟩
 |false=>
  obtain⟨hn,hb⟩:=BXP hi
  have h1:=AWM h hK hb
  have h2:=AWH h hK hb
  have e1:wr (256*Hx s)=256*Hx s:=ZW (by omega) (by omega)
  have e2:wr (256*Hx s+gV s)=256*Hx s+gV s:=ZW (by omega) (by omega)
  rw[e1,e2]
  have:=ACQ (a:=if 256<n then 256*Hx s+gV s else Hx s) (b:=n) (by split<;>omega) (by omega)
  exact⟨this.1,λ_=>this.2⟩
theorem ADE{K:Int}{s:Stm}(h:StmB K s)(hK:K<=1000000000000000){lo hi:Int}(h1:-1000000000<=lo)(h2:lo<=hi)(h3:hi<=1000000000):lo<=witV s lo hi/\witV s lo hi<=hi:=by
 have e1:wr (hi-lo)=hi-lo:=ZW (by omega) (by omega)
 have e2:wr (hi-lo+1)=hi-lo+1:=ZW (by omega) (by omega)
 unfold witV witN
 rw[e1,e2]
 have:=M5 h hK (hi-lo+1)
 have h4:=this.2 (by omega)
 have e3:wr (lo+fT s (hi-lo+1))=lo+fT s (hi-lo+1):=ZW (by omega) (by omega)
 rw[e3];omega
end Go.Bal
