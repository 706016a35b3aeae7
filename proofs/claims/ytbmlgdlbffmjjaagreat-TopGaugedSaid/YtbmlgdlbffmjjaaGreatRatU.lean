/- Package rating: Rate, Knots. -/
import Derived.Test.YtbmlgdlbffmjjaaGreatRatT
set_option linter.unusedVariables false
set_option linter.unusedSimpArgs false
namespace Go.Bal
open Go Go.Sym Go.Proofs
def C_Rate:Ctr:={ C_few with val:=λ(g:List Gau)=>.tup [.d (eRtg (ZK g).r),.int (ZK g).e] }
def BQY(g:List Gau):Prop:=AX Try.prog (ann 15 [(E2,C_few.spec A2)]) BBT (AF BBT) (C_Rate.xs g) (AC []) (C_Rate.val g) [] [] []
theorem CCN(g:List Gau):(BQY g)=(AV (SS g (ON (BB g) 20)) (BK (Nq g) (Nq (BB g))) (BQ (Nq g) (Nq (BB g))) (AN (Is g) (Is (BB g))) (AE (λi=>FH i (Is g) (NS (WZ g) i (WZ (BB g))) (EU (WZ g) i) (EU (WZ (BB g)) i) (EQ (WZ g) i) (EQ (WZ (BB g)) i) (EP (WZ g) i) (EP (WZ (BB g)) i))) (AK (Uh g) (Uh (BB g)))):=by kernel_rfl
theorem CBA:AH Try.prog BCZ (C_Rate.spec A2):=PU C_Rate (λ_=>ann 15 [(E2,C_few.spec A2)]) [] [] CDS (λ_=>by kernel_rfl) (λ_=>AA CMK AD) (λ(g:List Gau) h=>by
 show BQY g;rw[CCN]<;> delta KA LV JY LL HV GZ JJ AK AN FI AE BA BN IQ FT BP GU HT LH mV eO AG AI AO QM BB DY IG HC DI JH DO HD AQ JI EP JO KC MM EQ CI OS NK EU UG GM AV FH RR HQ BK IY IA DV KL EF BQ BU ON Dr CN CW XE WZ NS QL Is Nq Uh SS;simp only[CC,CU]
 exact (show g.length<20/\True from h).1) (λ_=>RU rfl rfl) _
end Go.Bal

namespace Go.Bal.DL
open Go.Sym Go
theorem m1(n:Int):LR (.v (.int .u8 n))=n:=rfl
end Go.Bal.DL
namespace Go.Bal
open Go Go.Sym Go.Proofs
structure Stm where
 bs:List Int
 used:Int
 mix:Int
 deriving Inhabited
end Go.Bal
namespace Go.Bal.DL
theorem m2(s:Stm):Stm.mk s.bs s.used s.mix=s:=rfl
end Go.Bal.DL
namespace Go.Bal
open Go Go.Sym Go.Proofs
def eBys(l:List Int):DVal:=lst 1 l.length λi=>.v (.int .u8 (gD l i))
def stmO(s:Stm):AObj:=.box [.d (eBys s.bs),.int s.used,.int s.mix]
def stmH(s:Stm):HCell:=.live (stmO s)
def BEQ(H:Heap)(id:Nat):Option Stm:=match H id with
 | .live (.box [.d (.list _ n g _),.d (.v (.int _ u)),.d (.v (.int _ m))])=>some ⟨WA n λi=>LR (g i),u,m⟩
 |_=>none
def C_New:Ctr:={ α:=List Int,xs:=λl=>[.d (eBys l)],L:=λ_=>[],val:=λ_=>.bptr 0 0,keep:=λl=>[(0,stmH ⟨l,0,0⟩)] }
def CKR:List AVal->Heap->Option (List Int×List (Nat×Nat)×List Nat)
 |[.d (.list _ n g _)],_=>some (WA n λi=>LR (g i),[],[])
 |_,_=>none
def CIH(l:List Int):Prop:=AX Try.prog (ann 6 []) BUQ (AF BUQ) (C_New.xs l) (AC []) (C_New.val l) (C_New.keep l) [(0,2032)] []
theorem CPP(l:List Int):(CIH l)=(Qo (HS l) (EG l) fB):=by kernel_rfl
def Ia(s:Stm):Int:=if s.bs.length<=s.used then wr (wr (gD s.bs (s.used.tmod s.bs.length).toNat)+wr (wr (11*s.mix)+wr (s.used.tdiv s.bs.length))) else wr (gD s.bs (s.used.tmod s.bs.length).toNat)
def gW(s:Stm):Int:=(wr (wr (wr (5*s.mix)+Ia s)+1)).tmod 251
def idle(s:Stm)(n:Int):Bool:=if n<2 then true else decide (s.bs.length=0)
def mF(s:Stm)(n:Int):Stm:=if idle s n then s else⟨s.bs,wr (s.used+1),gW s⟩
def cW(s:Stm)(n:Int):Int:=if idle s n then 0 else (if 256<n then wr (wr (256*Ia s)+gW s) else Ia s).tmod n
structure SN where
 s:Stm
 n:Int
def C_Next:Ctr:={ α:=SN,xs:=λa=>[.bptr 100 0,.int a.n],L:=λa=>[(100,stmO a.s)],val:=λa=>.int (cW a.s a.n),keep:=λa=>[(100,stmH (mF a.s a.n))],pre:=λa=>[0<=a.s.used] }
def APJ:List AVal->Heap->Option (SN×List (Nat×Nat)×List Nat)
 |[.bptr p _,.d (.v (.int _ n))],H=>match BEQ H p with
  |some s=>some (⟨s,n⟩,[(100,p)],[])
  |none=>none
 |_,_=>none
def BNR:Ann:={ ann 92 [] with E:=[100] }
def BNP(a:SN):Prop:=AX Try.prog BNR BDX (AF BDX) (C_Next.xs a) (AC (C_Next.L a)) (C_Next.val a) (C_Next.keep a) [] []
abbrev Qi:=SN.n
abbrev cG:=Stm.bs
abbrev Ey:=SN.s
abbrev wH:=cW
abbrev Rk:=Stm.used
abbrev yO:=Stm.mix
abbrev Wr a b:=AK (yO a) b
abbrev yF a:=FI (cG a)
abbrev AJQ a:=yF (Ey a)
abbrev cX a:=BH (AJQ a)
abbrev Su a:=Rk (Ey a)
abbrev AFI a b:=sC (Su a) (cX b)
abbrev Yc a b c:=Zu (cG (Ey a)) (AFI b c)
abbrev Tz a b:=JA a (yO (Ey b))
abbrev VE a:=mF (Ey a) (Qi a)
abbrev Yy a b:=AK (Rk a) b
abbrev tU a b c:=Gl a (yF b) (cG b) c
abbrev Fi a b c:=tU a b (cG c)
abbrev JL a b:=AE (λi=>Fi i a b)
abbrev sW a b:=AN (yF a) b
abbrev HK a b:=sW a (yF b)
abbrev JB a b:=Wr a (yO b)
abbrev JF a b:=Yy a (Rk b)
attribute [go_sem] Qi cG Ey wH Rk yO Wr yF AJQ cX Su AFI Yc Tz VE Yy tU Fi JL sW HK JB JF
theorem CBW(a:SN):(BNP a)=(EZ (OZ (NX (Qi a) 2) (QG (cX a))) (AI (CQ (wH (Ey a) (Qi a))) (HK (VE a) (Ey a)) (JL (VE a) (Ey a)) (JF (VE a) (Ey a)) (JB (VE a) (Ey a))) (GO (Br (Vf (cX a)) (AFI a a) (DR (AFI a a) (AJQ a))) (N4 (Su a) (cX a)) (AG (ZG (BD (AJQ a))) (ZG (UB 251 0)) (EZ (aD (Qi a) 256) (AV (ZG (CQ (Qi a))) (AK (wH (Ey a) (Qi a)) (sC (DK (JA 256 (DK (CS (Yc a a a)) (oE (Tz 11 a) (Su a) (cX a)))) (sC (FP (DK (Tz 5 a) (DK (CS (Yc a a a)) (oE (Tz 11 a) (Su a) (cX a))))) 251)) (Qi a))) (HK (VE a) (Ey a)) (JL (VE a) (Ey a)) (Yy (VE a) (FP (Su a))) (Wr (VE a) (sC (FP (DK (Tz 5 a) (DK (CS (Yc a a a)) (oE (Tz 11 a) (Su a) (cX a))))) 251))) (AV (ZG (CQ (Qi a))) (AK (wH (Ey a) (Qi a)) (sC (DK (CS (Yc a a a)) (oE (Tz 11 a) (Su a) (cX a))) (Qi a))) (HK (VE a) (Ey a)) (JL (VE a) (Ey a)) (Yy (VE a) (FP (Su a))) (Wr (VE a) (sC (FP (DK (Tz 5 a) (DK (CS (Yc a a a)) (oE (Tz 11 a) (Su a) (cX a))))) 251))))) (GO (ZG (UB 251 0)) (aD (Qi a) 256) (AV (ZG (CQ (Qi a))) (AK (wH (Ey a) (Qi a)) (sC (DK (JA 256 (CS (Yc a a a))) (sC (FP (zQ (Tz 5 a) (Yc a a a))) 251)) (Qi a))) (HK (VE a) (Ey a)) (JL (VE a) (Ey a)) (Yy (VE a) (FP (Su a))) (Wr (VE a) (sC (FP (zQ (Tz 5 a) (Yc a a a))) 251))) (AV (ZG (CQ (Qi a))) (AK (wH (Ey a) (Qi a)) (sC (CS (Yc a a a)) (Qi a))) (HK (VE a) (Ey a)) (JL (VE a) (Ey a)) (Yy (VE a) (FP (Su a))) (Wr (VE a) (sC (FP (zQ (Tz 5 a) (Yc a a a))) 251)))))):=by kernel_rfl
def witN(lo hi:Int):Int:=wr (wr (hi-lo)+1)
def witV(s:Stm)(lo hi:Int):Int:=wr (lo+cW s (witN lo hi))
def witS(s:Stm)(lo hi:Int):Stm:=mF s (witN lo hi)
structure SW where
 s:Stm
 lo:Int
 hi:Int
def C_Within:Ctr:={ α:=SW,xs:=λa=>[.bptr 100 0,.int a.lo,.int a.hi],L:=λa=>[(100,stmO a.s)],val:=λa=>.int (witV a.s a.lo a.hi),keep:=λa=>[(100,stmH (witS a.s a.lo a.hi))],pre:=λa=>[0<=a.s.used] }
def AEK:List AVal->Heap->Option (SW×List (Nat×Nat)×List Nat)
 |[.bptr p _,.d (.v (.int _ n)),.d (.v (.int _ m))],H=>match BEQ H p with
  |some s=>some (⟨s,n,m⟩,[(100,p)],[])
  |none=>none
 |_,_=>none
def AWY:Ann:={ ann 15 [(AKP,C_Next.spec APJ)] with E:=[100] }
def AYF(a:SW):Prop:=AX Try.prog AWY ALD (AF ALD) (C_Within.xs a) (AC (C_Within.L a)) (C_Within.val a) (C_Within.keep a) [] []
abbrev mK:=SW.hi
abbrev gX:=SW.lo
abbrev Wb:=SW.s
abbrev mH:=witV
abbrev yK:=Stm.mk
abbrev mE:=witS
abbrev sG a:=EL (cG a)
abbrev AOO a b:=yK (sG a) (Rk b) (yO b)
abbrev gL a:=AOO a a
abbrev fF a b:=mF (gL a) b
abbrev kK a b:=wH (gL a) b
abbrev Tl a:=Int.NonNeg (No (Rk a) 0)
abbrev XD a:=AJ (yO a)
abbrev XC a:=AJ (Rk a)
abbrev Gd a:=BQ (sG a) (cG a)
abbrev WR a:=GM (sG a) (yF a)
attribute [go_sem] mK gX Wb mH yK mE sG AOO gL fF kK Tl XD XC Gd WR
theorem BML(a:SW):(AYF a)=(AV (AV (AJ (FP (IR (mK a) (gX a)))) (WR (Wb a)) (Gd (Wb a)) (XC (Wb a)) (XD (Wb a)) (Tl (Wb a))) (AK (mH (Wb a) (gX a) (mK a)) (DK (gX a) (kK (Wb a) (FP (IR (mK a) (gX a)))))) (HK (mE (Wb a) (gX a) (mK a)) (fF (Wb a) (FP (IR (mK a) (gX a))))) (JL (mE (Wb a) (gX a) (mK a)) (fF (Wb a) (FP (IR (mK a) (gX a))))) (JF (mE (Wb a) (gX a) (mK a)) (fF (Wb a) (FP (IR (mK a) (gX a))))) (JB (mE (Wb a) (gX a) (mK a)) (fF (Wb a) (FP (IR (mK a) (gX a)))))):=by kernel_rfl
theorem CQS(l:List Int):CIH l:=by
 rw[CPP]<;> delta AK AN FI AE BA BN IQ FD AG AO AJ Rp AR HD HS Mz PI EG JN fB Qo;exact⟨rfl,λ_ _=>rfl,rfl,rfl⟩
theorem CMO:AH Try.prog BSY (C_New.spec CKR):=PU C_New (λ_=>ann 6 []) [(0,2032)] [] COI (λ_=>by kernel_rfl) (λ_=>AD) (λl _=>CQS l) (λ_=>RU rfl rfl) _
theorem CPF(s:Stm)(n:Int):(bif decide (n<2) then true else (s.bs.length:Int)==0)=idle s n:=by
 unfold idle
 by_cases h:n<2
 ·simp[h]
 ·simp only[h,decide_false,cond_false,if_false]
  by_cases h2:s.bs.length=0
  ·simp[h2]
  ·have:¬ (s.bs.length:Int)=0:=by omega
   simp[h2]
theorem CGE{a b:Int}(ha:0<=a)(hb:0<b):0<=a.tmod b/\a.tmod b<b:=by
 rw[Int.tmod_eq_emod_of_nonneg ha]
 exact⟨Int.emod_nonneg _ (by omega),Int.emod_lt_of_pos _ hb⟩
theorem COP(a:SN)(h:0<=a.s.used):BNP a:=by
 rw[CBW]<;> delta Wo N4 NX HU EZ AK aD AN FI AE BA BN IQ BH DC ER NC TD FD mM sC J9 ZN MW Qi cG Ey wH Rk yO CS AG AI AO BG yF DK GJ MM DR FP NK AV RR sW Wr Yy HK JB JA Gl JF tU Fi OZ JL BD zQ oE JN CQ GO AJQ Su cX VE Zu QG UB ZG AFI Tz Yc Br Vf;simp only[CC,CU,CPF]
 refine⟨λhi=>?_,λhi=>?_⟩
 ·have e1:cW a.s a.n=0:=by unfold cW;rw[hi];rfl
  have e2:mF a.s a.n=a.s:=by unfold mF;rw[hi];rfl
  rw[e1,e2];exact⟨rfl,rfl,λ_ _=>rfl,rfl,rfl⟩
 have hi2:¬ a.n<2/\¬ a.s.bs.length=0:=by
  unfold idle at hi
  by_cases x:a.n<2
  ·rw[if_pos x] at hi;cases hi
  ·rw[if_neg x] at hi;exact⟨x,by simpa using hi⟩
 obtain⟨i1,i2⟩:=hi2
 have e1:cW a.s a.n=(if 256<a.n then wr (wr (256*Ia a.s)+gW a.s) else Ia a.s).tmod a.n:=by unfold cW;rw[hi];rfl
 have e2:mF a.s a.n=⟨a.s.bs,wr (a.s.used+1),gW a.s⟩:=by unfold mF;rw[hi];rfl
 have hm:=CGE h (show 0<(a.s.bs.length:Int) by omega)
 rw[e1,e2]
 refine⟨⟨by omega,hm⟩,λhu=>⟨by omega,by decide,λhn=>⟨by omega,?_⟩,λhn=>⟨by omega,?_⟩⟩,λhu=>⟨by decide,λhn=>⟨by omega,?_⟩,λhn=>⟨by omega,?_⟩⟩⟩
 ·rw[if_pos (by omega)];unfold gW Ia;rw[if_pos (by omega)];exact⟨rfl,rfl,λ_ _=>rfl,rfl,rfl⟩
 ·rw[if_neg (by omega)];unfold gW Ia;rw[if_pos (by omega)];exact⟨rfl,rfl,λ_ _=>rfl,rfl,rfl⟩
 ·rw[if_pos (by omega)];unfold gW Ia;rw[if_neg (by omega)];exact⟨rfl,rfl,λ_ _=>rfl,rfl,rfl⟩
 ·rw[if_neg (by omega)];unfold gW Ia;rw[if_neg (by omega)];exact⟨rfl,rfl,λ_ _=>rfl,rfl,rfl⟩
theorem ASU:AH Try.prog AKP (C_Next.spec APJ):=PU C_Next (λ_=>BNR) [] [] CDD (λ_=>by kernel_rfl) (λ_=>AD) (λa h=>COP a h) (λ_=>RU rfl rfl) _
theorem BSP(a:SW)(h:0<=a.s.used):AYF a:=by
 rw[BML]<;> delta AK AN FI AE BA BN IQ NC TD Ff No cG wH Rk yO mK gX Wb mH yK mE CS AG AI AO AJ VW IR EL yF DK sG HD AOO MM FP NK GM AV gL RR IY sW Wr Yy HK JB Gl IA JF tU BQ Fi JL fF kK XD XC WR Gd Tl;simp only[CC,CU]
 exact⟨h,rfl,rfl,λ_ _=>rfl,rfl,rfl⟩
theorem AOI:AH Try.prog E1 (C_Within.spec AEK):=PU C_Within (λ_=>AWY) [] [] BLB (λ_=>by kernel_rfl) (λ_=>AA ASU AD) (λa h=>BSP a h) (λ_=>RU rfl rfl) _
structure StmB(K:Int)(s:Stm):Prop where
 used:0<=s.used/\s.used<=K
 mix:0<=s.mix/\s.mix<251
 bs:∀i,i<s.bs.length->0<=gD s.bs i/\gD s.bs i<=255
theorem ABZ{a b:Int}(ha:0<=a)(hb:0<b):0<=a.tmod b/\a.tmod b<b:=by
 rw[Int.tmod_eq_emod_of_nonneg ha]
 exact⟨Int.emod_nonneg _ (by omega),Int.emod_lt_of_pos _ hb⟩
theorem AXI{K:Int}{s:Stm}(h:StmB K s)(hK:K<=1000000000000000)(hb:s.bs.length≠0):0<=Ia s/\Ia s<=1000000000010000:=by
 have hu:=h.used
 have hm:=h.mix
 have hi:=ABZ hu.1 (show 0<(s.bs.length:Int) by omega)
 have hx:=h.bs (s.used.tmod s.bs.length).toNat (by omega)
 have hq:0<=s.used.tdiv s.bs.length/\s.used.tdiv s.bs.length<=1000000000000000:=by
  rw[Int.tdiv_eq_ediv_of_nonneg hu.1]
  refine⟨Int.ediv_nonneg hu.1 (by omega),?_⟩
  have:=Int.ediv_le_self (s.bs.length:Int) hu.1
  omega
 have e0:wr (gD s.bs (s.used.tmod s.bs.length).toNat)=gD s.bs (s.used.tmod s.bs.length).toNat:=Ab (by omega) (by omega)
 have e1:wr (11*s.mix)=11*s.mix:=Ab (by omega) (by omega)
 have e2:wr (s.used.tdiv s.bs.length)=s.used.tdiv s.bs.length:=Ab (by omega) (by omega)
 have e3:wr (11*s.mix+s.used.tdiv s.bs.length)=11*s.mix+s.used.tdiv s.bs.length:=Ab (by omega) (by omega)
 have e4:wr (gD s.bs (s.used.tmod s.bs.length).toNat+(11*s.mix+s.used.tdiv s.bs.length))=gD s.bs (s.used.tmod s.bs.length).toNat+(11*s.mix+s.used.tdiv s.bs.length):=Ab (by omega) (by omega)
 unfold Ia
 rw[e0,e1,e2,e3,e4]
 split<;>omega
theorem AWT{K:Int}{s:Stm}(h:StmB K s)(hK:K<=1000000000000000)(hb:s.bs.length≠0):0<=gW s/\gW s<251:=by
 have hm:=h.mix
 have hn:=AXI h hK hb
 have e1:wr (5*s.mix)=5*s.mix:=Ab (by omega) (by omega)
 have e2:wr (5*s.mix+Ia s)=5*s.mix+Ia s:=Ab (by omega) (by omega)
 have e3:wr (5*s.mix+Ia s+1)=5*s.mix+Ia s+1:=Ab (by omega) (by omega)
 unfold gW
 rw[e1,e2,e3]
 exact ABZ (by omega) (by omega)
theorem BXW{s:Stm}{n:Int}(h:idle s n=false):2<=n/\s.bs.length≠0:=by
 unfold idle at h
 by_cases x:n<2
 ·rw[if_pos x] at h;cases h
 ·rw[if_neg x] at h;exact⟨by omega,by simpa using h⟩
theorem StmB.mono{K M:Int}{s:Stm}(h:StmB K s)(hK:K<=M):StmB M s:=⟨⟨h.used.1,by have:=h.used;omega⟩,h.mix,h.bs⟩
theorem StmB.next{K:Int}{s:Stm}(h:StmB K s)(hK:K<=1000000000000000)(n:Int):StmB (K+1) (mF s n):=by
 unfold mF
 cases hi:idle s n with
 |true=>exact h.mono (by omega)
 |false=>
  obtain⟨_,hb⟩:=BXW hi
  have hu:=h.used
  have e:wr (s.used+1)=s.used+1:=Ab (by omega) (by omega)
  refine⟨?_,AWT h hK hb,h.bs⟩
  show 0<=wr (s.used+1)/\wr (s.used+1)<=K+1
  rw[e];omega
theorem G2{K:Int}{s:Stm}(h:StmB K s)(hK:K<=1000000000000000)(n:Int):0<=cW s n/\(1<=n->cW s n<n):=by
 unfold cW
 cases hi:idle s n with
 |true=>exact⟨Int.le_refl _,λh=>by show (0:Int)<n;omega⟩
 |false=>
  obtain⟨hn,hb⟩:=BXW hi
  have h1:=AXI h hK hb
  have h2:=AWT h hK hb
  have e1:wr (256*Ia s)=256*Ia s:=Ab (by omega) (by omega)
  have e2:wr (256*Ia s+gW s)=256*Ia s+gW s:=Ab (by omega) (by omega)
  rw[e1,e2]
  have:=ABZ (a:=if 256<n then 256*Ia s+gW s else Ia s) (b:=n) (by split<;>omega) (by omega)
  exact⟨this.1,λ_=>this.2⟩
theorem ADN{K:Int}{s:Stm}(h:StmB K s)(hK:K<=1000000000000000){lo hi:Int}(h1:-1000000000<=lo)(h2:lo<=hi)(h3:hi<=1000000000):lo<=witV s lo hi/\witV s lo hi<=hi:=by
 have e1:wr (hi-lo)=hi-lo:=Ab (by omega) (by omega)
 have e2:wr (hi-lo+1)=hi-lo+1:=Ab (by omega) (by omega)
 unfold witV witN
 rw[e1,e2]
 have:=G2 h hK (hi-lo+1)
 have h4:=this.2 (by omega)
 have e3:wr (lo+cW s (hi-lo+1))=lo+cW s (hi-lo+1):=Ab (by omega) (by omega)
 rw[e3];omega
end Go.Bal
