/- Package rating: the reference: what a line has. -/
import Derived.Test.YtoihhodbkimedaaGreatRLn1
import Derived.Test.YtoihhodbkimedaaGreatRatC
set_option linter.unusedVariables false
set_option linter.unusedSimpArgs false
namespace Go.Bal
open Go Go.Sym Go.Proofs
def zBx:HCell:=.live (.box [.int 0,.int 0])
def rl4(x:I2):Shape:={ α:=NN,dflt:=default,T:=λs=>⟨[(0,.int x.a),(1,.int x.b),(4,.bptr 1000 0),(5,.int s.a),(6,.int s.b)],[(1000,zBx)]⟩,inv:=λs=>0<s.b/\s.a<=2305843009213693952/\s.b<=2305843009213693952/\Nat.gcd s.a s.b=Nat.gcd x.a.natAbs x.b.natAbs,meas:=λs=>s.a }
def BZY(x:I2):Ann:={ ann 26 [] with loops:=λid=>if id=4 then some [rl4 x] else none }
def BZV(x:I2):Prop:=BQ Try.prog (BZY x) BHG (AI BHG) (xI2 x) (AD []) (.d (eRt (Vx x.a x.b))) [] [] []
abbrev sW a:=MW (DZ a)
abbrev UD a b c:=CQ a (HA b c)
attribute [go_sem] sW UD
theorem CFT(x:I2):(BZV x)=(CL (XG (Gg x)) (UT (λi=>AF (Zu x (cP (aU x) (UD (BK i) 0 (Gg x)) (OG i (Rn x)) BY)) (sW i) (To i) (Ub i) (Vd i i x x))) (Iv (λi=>FL (AN (sW i) (To i) (Ub i) (Vd i i x x)) (FI (JB i)) (Dw (BD (BK i))) (UT (λj=>BW (Zu x (cP (aU x) (CQ (BK j) (Int.tmod (HV i) (JB i))) (OG j (JB i)) BY)) (AN (sW j) (To j) (Ub j) (Vd j j x x)) (BK j) (BK i))) (DE (Bg (HV i)) (Dw (CP (HV i))) (Ki (O0 (Gg x) (Rn x)) (Tv (Gg x) (HV i))) (Ft (O0 (Gg x) (Rn x)) (Tv (Rn x) (HV i)))))) (And (UT (λi=>AF (Zu x (cP (aU x) (CQ (BK i) (Gg x)) (OG i (Rn x)) BY)) (sW i) (To i) (Ub i) (Vd i i x x))) (Iv (λi=>FL (AN (sW i) (To i) (Ub i) (Vd i i x x)) (FI (JB i)) (Dw (BD (BK i))) (UT (λj=>BW (Zu x (cP (aU x) (CQ (BK j) (Int.tmod (HV i) (JB i))) (OG j (JB i)) BY)) (AN (sW j) (To j) (Ub j) (Vd j j x x)) (BK j) (BK i))) (DE (Bg (HV i)) (Dw (CP (HV i))) (Ki (O0 (Gg x) (Rn x)) (Tv (Gg x) (HV i))) (Ft (O0 (Gg x) (Rn x)) (Tv (Rn x) (HV i)))))))):=by kernel_rfl
def belR(a b:Rt):Bool:=decide (wr (a.n*b.d)<wr (b.n*a.d))
def BYV:=pD dR2 λx=>.bool (belR x.lo x.hi)
def BXN(a:Bnd):Prop:=BQ Try.prog (ann 16 []) BJZ (AI BJZ) (xR2 a) (AD []) (.bool (belR a.lo a.hi)) [] [] []
theorem CDT(a:Bnd):(BXN a)=(JT (belR (iR a) (gU a)) (GD (QS (OS a) (OX a)) (QS (JP a) (JI a)))):=by kernel_rfl
def BZH(a:LnI):Prop:=BQ Try.prog (ann 32 [(BAM,vK)]) BFR (AI BFR) (xLI a) (AD []) (.d (eRt (Wc a.x a.s))) [] [] []
theorem CHZ(a:LnI):(BZH a)=(EI (ES 0 (Jj a a)) (DD (Jj a a) 2305843009213693952) (DD (-2305843009213693952) (XE (ZF a) (HA (Ux a) (oB a)) (Ws a) (aY a a))) (DD (XE (ZF a) (HA (Ux a) (oB a)) (Ws a) (aY a a)) 2305843009213693952) (Ki (Um a a) (WL (O0 (XE (ZF a) (HA (Ux a) (oB a)) (Ws a) (aY a a)) (Jj a a)))) (Ft (Um a a) (WY (O0 (XE (ZF a) (HA (Ux a) (oB a)) (Ws a) (aY a a)) (Jj a a))))):=by kernel_rfl
def hasE(x:Ln)(s:Int):Int:=bif Va x then (bif QY s 0 2000 then 0 else 4) else 50
def C_rPart:Ctr:={ α:=IX,xs:=λa=>[.d (CZ a.l),.int a.x],val:=λa=>.int (Et a.l a.x),pre:=λa=>[a.l.length<1073741824/\True] }
def rp3(a:IX):Shape:={ α:=Nat,dflt:=0,T:=λi=>⟨[(0,.d (CZ a.l)),(1,.int a.x),(5,.int (Et (a.l.take i) a.x)),(6,.int i)],[]⟩,inv:=λi=>i<=a.l.length,meas:=λi=>a.l.length-i }
def BPC(a:IX):Ann:={ ann 22 [] with loops:=λid=>if id=3 then some [rp3 a] else none }
def BKX(a:IX):Prop:=BQ Try.prog (BPC a) AXF (AI AXF) (C_rPart.xs a) (AD []) (C_rPart.val a) [] [] []
abbrev RL a b c d e:=EV a (IY b c) c d e
attribute [go_sem] RL
theorem CBA(a:IX):(BKX a)=(DJ (λi=>And (AF (mJ a) (nP a) (Za a) (BD (Ul (iL i (IU a)) a)) (BD i)) (IY i (CG (IU a)))) (λi=>FH (IY i (CG (IU a))) i (EK (IU a)) (IN i (IU a)) (NO (F3 (Im a i) (Cn a)) (FB (λj=>RL (AF (mJ a) (nP a) (Za a) (BS (Ul (iL j (IU a)) a) (Ul (iL i (IU a)) a)) (BS j i)) j (CG (IU a)) j i)) (λj=>RL (AF (mJ a) (nP a) (Za a) (CB (Ul (iL j (IU a)) a) (Ul (iL i (IU a)) a)) (BS j i)) j (CG (IU a)) j i)) (CB (Ul (IU a) a) (Ul (iL i (IU a)) a)))):=by kernel_rfl
theorem CGN:AJ Try.prog BAM vK:=UX xI2 hI2 λx h=>Mn (A:=BZY x) (ren:=[]) (fz:=[]) CIW (by kernel_rfl) AE (by
 show BZV x;rw[CFT]<;> delta GD WI Gg Rn CS AO AR BV BZ AQ BU Ba UT BK DZ UM hd65 Iv Sv WL O0 WY AG DG AF AM cP HA HV CQ AN BW JB CL CP RH MW FL OG BY BD DE FI UD Fj XG Tv Dw Ft Ub Bg To aU Vd Zu sW Ki;simp only[CC,eq_self,implies_true,forall_const]
 obtain⟨h1,h2,h3,h4⟩:0<x.b/\x.b<=2305843009213693952 /\ -2305843009213693952<=x.a/\x.a<=2305843009213693952:=h
 have hg0:0<Nat.gcd x.a.natAbs x.b.natAbs:=Nat.gcd_pos_of_pos_right _ (by omega)
 have hb:((x.b.natAbs:Nat):Int)=x.b:=by omega
 have loop:∀s:NN,(0<s.b/\s.a<=2305843009213693952/\s.b<=2305843009213693952/\Nat.gcd s.a s.b=Nat.gcd x.a.natAbs x.b.natAbs)->((((s.a:Int) != 0)=true->((s.a:Int)=0->False)/\∃t:NN,((t.a:Int)=(s.b:Int).tmod s.a/\(t.b:Int)=s.a)/\(0<t.b/\t.a<=2305843009213693952/\t.b<=2305843009213693952/\Nat.gcd t.a t.b=Nat.gcd x.a.natAbs x.b.natAbs)/\t.a<s.a)/\(((s.a:Int) != 0)=false->(s.b:Int)≠0/\(Vx x.a x.b).n=IntKind.i64.wrap (x.a.tdiv s.b)/\(Vx x.a x.b).d=IntKind.i64.wrap (x.b.tdiv s.b))):=λs ⟨s1,s2,s3,s4⟩=>by
  refine⟨λhc=>?_,λhc=>?_⟩
  ·have hc:s.a≠0:=by simpa using hc
   refine⟨by omega,⟨s.b % s.a,s.a⟩,⟨(Int.ofNat_tmod s.b s.a),rfl⟩,⟨Nat.pos_of_ne_zero hc,?_,s2,?_⟩,Nat.mod_lt _ (Nat.pos_of_ne_zero hc)⟩
   ·have:=Nat.mod_lt s.b (Nat.pos_of_ne_zero hc);show s.b % s.a<=_;omega
   ·show Nat.gcd (s.b % s.a) s.a=_
    rw[<-Nat.gcd_rec];exact s4
  ·have hc:s.a=0:=by simpa using hc
   rw[hc,Nat.gcd_zero_left] at s4
   have ha:∀z:Int,(z.tdiv (s.b:Int)).natAbs<=z.natAbs:=λz=>by rw[Int.natAbs_tdiv];exact Nat.div_le_self _ _
   have e1:=ha x.a
   have e2:=ha x.b
   refine⟨by omega,?_,?_⟩
   ·rw[JH (by omega) (by omega)];unfold Vx;rw[<-s4]
   ·rw[JH (by omega) (by omega)];unfold Vx;rw[<-s4]
 refine⟨λhn=>⟨⟨⟨x.a.natAbs,x.b.natAbs⟩,⟨by show ((x.a.natAbs:Nat):Int)=_;rw[JH (by omega) (by omega)];omega,hb⟩,by show 0<x.b.natAbs;omega,by show x.a.natAbs<=_;omega,by show x.b.natAbs<=_;omega,rfl⟩,loop⟩,λhn=>⟨⟨⟨x.a.natAbs,x.b.natAbs⟩,⟨by show ((x.a.natAbs:Nat):Int)=_;omega,hb⟩,by show 0<x.b.natAbs;omega,by show x.a.natAbs<=_;omega,by show x.b.natAbs<=_;omega,rfl⟩,loop⟩⟩)
theorem CFK:AJ Try.prog BFS BYV:=UX xR2 hR2 λg _=>Mn (A:=ann 16 []) (ren:=[]) (fz:=[]) CEZ (by kernel_rfl) AE (by
 show BXN g;rw[CDT]<;> delta JT GD WL WY mT iR gU DG OX OS QS JI JP;rfl)
theorem CFW:AJ Try.prog BFT ART:=UX xLI hLI λa h=>Mn (A:=ann 32 [(BAM,vK)]) (ren:=[]) (fz:=[]) CGI (by kernel_rfl) (AC CGN AE) (by
 show BZH a;rw[CHZ]<;> delta OV LY LW MN AO DD ES LX Ba WL O0 WY mT yA oB uJ AG DG FF HA qJ AN QS dK EI Ux AMH oF XE ZF Jj Ft Ws aY Um Ki
 obtain⟨⟨h1,h2,h3,h4,h5,h6⟩,h7,h8⟩:PJ a.x/\0<=a.s/\a.s<=2000:=h
 have b1:a.x.a1*(a.x.b0-a.s)<=200000*2000:=Int.le_trans (Int.mul_le_mul_of_nonneg_left (show a.x.b0-a.s<=2000 by omega) h4) (Int.mul_le_mul_of_nonneg_right (by omega) (by omega))
 have b2:-(200000*2000)<=a.x.a1*(a.x.b0-a.s):=by
  have e1:=Int.mul_le_mul_of_nonneg_left (show -2000<=a.x.b0-a.s by omega) h4
  have e2:=Int.mul_le_mul_of_nonneg_right (show a.x.a1<=200000 by omega) (show (0:Int)<=2000 by omega)
  rw[Int.mul_neg] at e1;omega
 have b3:a.x.b1*(a.s-a.x.a0)<=200000*2000:=Int.le_trans (Int.mul_le_mul_of_nonneg_left (show a.s-a.x.a0<=2000 by omega) (by omega)) (Int.mul_le_mul_of_nonneg_right h6 (by omega))
 have b4:-(200000*2000)<=a.x.b1*(a.s-a.x.a0):=by
  have e1:=Int.mul_le_mul_of_nonneg_left (show -2000<=a.s-a.x.a0 by omega) (show 0<=a.x.b1 by omega)
  have e2:=Int.mul_le_mul_of_nonneg_right h6 (show (0:Int)<=2000 by omega)
  rw[Int.mul_neg] at e1;omega
 have w1:IntKind.i64.wrap (a.x.b0-a.x.a0)=a.x.b0-a.x.a0:=JH (by omega) (by omega)
 have w2:IntKind.i64.wrap (a.x.b0-a.s)=a.x.b0-a.s:=JH (by omega) (by omega)
 have w3:IntKind.i64.wrap (a.s-a.x.a0)=a.s-a.x.a0:=JH (by omega) (by omega)
 rw[w1,w2,w3]
 rw[JH (n:=a.x.a1*(a.x.b0-a.s)) (by omega) (by omega),JH (n:=a.x.b1*(a.s-a.x.a0)) (by omega) (by omega),JH (n:=a.x.a1*(a.x.b0-a.s)+a.x.b1*(a.s-a.x.a0)) (by omega) (by omega)]
 have e:a.x.a1*(a.x.b0-a.s)+a.x.b1*(a.s-a.x.a0)=a.x.a1*(a.x.b0-a.x.a0)+(a.x.b1-a.x.a1)*(a.s-a.x.a0):=by grind
 refine⟨⟨by omega,by omega,by omega,by omega⟩,?_,?_⟩
 ·unfold Wc;rw[e]
 ·unfold Wc;rw[e])
theorem BCW(l:List Int)(y x:Int):Et (l ++ [y]) x=Et l x+(if y<=x then 1 else 0):=by
 unfold Et;rw[List.countP_append]
 by_cases h:y<=x<;>simp[h]
theorem BDA:AJ Try.prog AKY (C_rPart.spec dIX):=VD C_rPart BPC [] [] CBH (λ_=>by kernel_rfl) (λ_=>AE) (λ(a:IX) h=>by
 show BKX a;rw[CBA]<;> delta F3 GD CS AO AR CG AK BV BZ CM AQ iL DD ES LX EF FB IU Cn IY AG DG AF AT FF AM BL DF DU BC CQ ED BW HI CX JD FZ CL EK EA DV PG CB FC FD LN LL KJ FL EV BS BD FH DJ IN NO Im RL Ul Za nP mJ;simp only[CC,eq_self,implies_true,forall_const]
 have hl:a.l.length<1073741824:=(show a.l.length<1073741824/\True from h).1
 have hle:∀i,Et (a.l.take i) a.x<=a.l.length:=λi=>by
  unfold Et
  exact Nat.le_trans List.countP_le_length (by rw[List.length_take];omega)
 refine⟨⟨0,⟨rfl,rfl⟩,Nat.zero_le _⟩,λi hi=>⟨λhlt=>⟨⟨by omega,by omega⟩,λhc=>⟨i+1,⟨?_,(CN (by omega)).symm⟩,by omega,by omega⟩,λhc=>⟨i+1,⟨?_,(CN (by omega)).symm⟩,by omega,by omega⟩⟩,λhge=>?_⟩⟩
 ·have:=hle i
  rw[ND (by omega),BCW,if_pos hc,JH (by omega) (by omega)];omega
 ·rw[ND (by omega),BCW,if_neg hc];rfl
 ·rw[List.take_of_length_le (by omega)]) (λ_=>WK rfl rfl) _
end Go.Bal

namespace Go.Bal
open Go Go.Sym Go.Proofs
def dGsK:List AVal->Heap->Option (List Gau×List (Nat×Nat)×List Nat):=WJ
def C_through:Ctr:={ α:=List Gau,xs:=λs=>[.d (BX s)],L:=λ_=>[],val:=λs=>.fn (.func Cr) [] [.bptr 0 0],keep:=λs=>[(0,.live (.box [.d (BX s)]))] }
def ATK(s:List Gau):Prop:=BQ Try.prog (ann 4 []) AFU (AI AFU) (C_through.xs s) (AD []) (C_through.val s) (C_through.keep s) [(0,1000)] []
theorem BHO(s:List Gau):(ATK s)=(FZ (AZ s) (λi=>GF i s)):=by kernel_rfl
theorem D1:AJ Try.prog vG (C_through.spec dGsK):=VD C_through (λ_=>ann 4 []) [(0,1000)] [] BIC (λ_=>by kernel_rfl) (λ_=>AE) (λ(s:List Gau) _=>by
 show ATK s;rw[BHO]<;> delta EE EC DP AO AR AK BV BZ CI EZ AG AT AH CA CF AM GQ AP BR AS AW HH HL AZ FZ JA GF;simp) (λ_=>WK rfl rfl) _
structure GsL where
 s:List Gau
 x:Ln
def dGsL:List AVal->Heap->Option (GsL×List (Nat×Nat)×List Nat)
 |[y,.d x],H=>match aE y H with
  |some (l,f)=>some (⟨l,dLn x⟩,[],f)
  |none=>none
 |_,_=>none
def C_passing:Ctr:={ α:=GsL,xs:=λa=>[.d (BX a.s),.d (eLn a.x)],L:=λ_=>[],val:=λa=>.bool (a.s.all λg=>LB a.x g),keep:=λ_=>[],pre:=λa=>[a.s.length<4611686018427387904/\(∀g∈a.s,(PJ a.x/\RK g))] }
def AUG:Ann:=ann 9 [(n_eG,C4Gp.spec d4Gp)]
def ATX(a:GsL):Prop:=BQ Try.prog AUG AGT (AI AGT) (C_passing.xs a) (AD []) (C_passing.val a) [] [] []
abbrev AKI:=GsL.s
abbrev ADG:=GsL.x
attribute [go_sem] AKI ADG
theorem BJR(a:GsL):(ATX a)=(DY (CE (AKI a)) (BB (AKI a)) (Aa (ADG a)) (AF (AM (LY (ADG a))) (AM (LW (ADG a))) (lR (ADG a)) (ZK (AKI a)) (VY (λi=>NQ i (BH (AKI a)) (BJ (ZN (ADG a)) (SD i) (GU (EE i)) (BC (EC i)) (DD (EC i) (DP i)) (MI (DP i)))))) (JT (AJY (AKI a) (λi=>LB (ADG a) i)) (AJY (BH (AKI a)) (λi=>LB (ADG a) i)))):=by kernel_rfl
theorem J3:AJ Try.prog iM (C_passing.spec dGsL):=VD C_passing (λ_=>AUG) [] [] BFZ (λ_=>by kernel_rfl) (λ_=>AC CRR AE) (λ(a:GsL) h=>by
 show ATX a;rw[BJR]<;> delta JT EE EC DP OV LY LW MN AO AR AK BV BZ DD ES CI EZ LZ VY AJY AKI ADG AG GT GV AF AT AH CA CF BH AM AP BR AS AW DX CR BC AN EP ED HU GU HY EM FE BJ EW FM FK Aa MI CE JS SD NQ BB HZ DY Fz Ii lR ZK ZN;simp only[CC,eq_self,implies_true,forall_const]
 have h:a.s.length<4611686018427387904/\(∀g∈a.s,(PJ a.x/\RK g)):=h
 first | exact h | exact⟨h,rfl⟩) (λ_=>WK rfl rfl) _
def nG(a b:Pt):Ln:=⟨a.st,a.fl,b.st,b.fl⟩
def blk(e:List Pt)(a:Pt):List Ln:=BT a :: (e.map (nG a)).filter Va
def Nh(s:List Gau):List Ln:=(AA s).flatMap (blk (AA s))
def Hn(s:List Gau)(x:Ln):Bool:=s.all λg=>LB x g
def DC(s:List Gau):Ln×Bool:=if s.length=0 then (BT ⟨0,0⟩,true) else match (Nh s).find? (Hn s) with
 |some x=>(x,true)
 |none=>(default,false)
def zLn:HCell:=.live (.box [.int 0,.int 0,.int 0,.int 0])
def lnH(s:List Gau):List (Nat×HCell):=[(1000,zLn),(2000,zLn),(3000,.live (.box [.bool false])),(4032,.live (.box [.fn (.func iM) [.d (BX s)] []]))]
def lnS(s:List Gau)(l i:Nat):List (Nat×AVal):=[(0,.fn (.yield l) [] []),(3,.d (ePts (AA s))),(11,.d (ePts (AA s))),(12,.int (AA s).length),(13,.int i)]
def Te(s:List Gau)(i:Nat):List Ln:=((AA s).take i).flatMap (blk (AA s))
def TB(s:List Gau)(i j:Nat):List Ln:=Te s i ++ BT (gD (AA s) i) :: (((AA s).take j).map (nG (gD (AA s) i))).filter Va
def lnO(s:List Gau)(l:Nat):Shape:={ α:=Nat,dflt:=0,T:=λi=>⟨lnS s l i,lnH s⟩,inv:=λi=>i<=(AA s).length/\∀x∈Te s i,Hn s x=false,meas:=λi=>(AA s).length-i }
def lnI(s:List Gau)(q l:Nat):Shape:={ α:=IJ,dflt:=default,T:=λx=>⟨[(5,.bptr 205 0),(22,.d (ePts (AA s))),(23,.int (AA s).length),(24,.int x.j)] ++ lnS s l x.i,(205,.live (.box [.int (gD (AA s) x.i).st,.int (gD (AA s) x.i).fl])) :: lnH s⟩,inv:=λx=>x.i<(AA s).length/\x.j<=(AA s).length/\(AA s).length-x.i=q/\∀y∈TB s x.i x.j,Hn s y=false,meas:=λx=>(AA s).length-x.j,first:=[(205,104032)] }
noncomputable def BUK(s:List Gau):IterAnn:={ fn:=Zx,code:=AI Zx,live:=[0,2,4,5,6],ann:={ base:=λid=>100000+1000*(id+1),Γ:=Sym.look [(AQD,C_ends.spec WJ),(kS,wZ),(BCO,BPB)],E:=[1000,2000,3000,4032],n:=41,inner:=λgs id=>if id=2 then some [lnO s (gs.getD 0 0)] else if id=6 then some [lnI s (gs.getD 0 0) (gs.getD 1 0)] else none } }
noncomputable def BYT(s:List Gau):Ann:={ ann 24 [(vG,C_through.spec dGsK),(iM,C_passing.spec dGsL),(kS,wZ)] with iter:=λg=>if g=Cr then some (BUK s) else none }
def C_line:Ctr:={ α:=List Gau,xs:=λs=>[.d (BX s)],L:=λ_=>[],val:=λs=>.tup [.d (eLn (DC s).1),.bool (DC s).2],keep:=λ_=>[],pre:=λs=>[s.length<1073741824/\∀g∈s,RK g] }
def BSZ(s:List Gau):Prop:=BQ Try.prog (BYT s) BGS (AI BGS) (C_line.xs s) (AD []) (C_line.val s) [] [] []
abbrev jZ(s:List Gau):List Gau:=MK s.length λ(i:Nat)=>gD s i
abbrev iY(s:List Gau):Nat:=(jZ s).length
abbrev ACH(s:List Gau):Prop:=iY s=s.length
abbrev sL(s:List Gau)(i:Nat):Gau:=gD (jZ s) i
abbrev ANB(s:List Gau)(i:Nat):Int:=(sL s i).st
abbrev AOG(s:List Gau)(i:Nat):Int:=(sL s i).lo
abbrev AQM(s:List Gau)(i:Nat):Int:=(sL s i).hi
abbrev AAO(s:List Gau):Prop:=∀(i:Nat),i<iY s->ANB s i=(gD s i).st/\AOG s i=(gD s i).lo/\AQM s i=(gD s i).hi
abbrev AAW(s:List Gau):List Gau:=MK (iY s) λ(i:Nat)=>sL s i
abbrev ABO(s:List Gau):Nat:=(AAW s).length
abbrev xT(s:List Gau)(i:Nat):Gau:=gD (AAW s) i
abbrev AEC(s:List Gau):List Pt:=AA (AAW s)
abbrev AIK(s:List Gau):Nat:=(AEC s).length
abbrev AID(s:List Gau):Prop:=(AA s).length=AIK s
abbrev AHS(s:List Gau)(i:Nat):Pt:=gD (AEC s) i
abbrev AHQ(s:List Gau):Prop:=∀(i:Nat),i<(AA s).length->(gD (AA s) i).st=(AHS s i).st/\(gD (AA s) i).fl=(AHS s i).fl
abbrev Ea:Prop:=Int.ofNat (0:Nat)=Int.ofNat (0:Nat)
abbrev kK(s:List Gau):Prop:=Ea/\Ea/\Ea/\Ea/\Ea/\Ea/\Ea/\Ea/\false=false/\s.length=s.length/\∀(i:Nat),i<s.length->(gD s i).st =
 (gD s i).st/\(gD s i).lo=(gD s i).lo/\(gD s i).hi=(gD s i).hi
abbrev xZ(a:Nat)(s:List Gau):Prop:=a<=(AA s).length/\∀(x:Ln),List.Mem x (Te s a)->Hn s x=false
abbrev AGF(a:Nat)(s:List Gau):Prop:=(↑a:Int)<(↑(AA s).length:Int)
abbrev AJE(s:List Gau):Prop:=iY s<(4611686018427387904:Nat)
abbrev AII(g:Gau)(s:List Gau):Prop:=List.Mem g (jZ s)
abbrev AGW(g:Gau):Prop:=(0:Int)<=g.st/\g.st<=(2000:Int)/\(0:Int)<=g.lo/\g.lo<=g.hi/\g.hi<=(200000:Int)
abbrev wN(s:List Gau):Bool:=(↑s.length:Int)==(0:Int)
abbrev z_line_24:Ln:=BT (Pt.mk (0:Int) (0:Int))
abbrev wD(s:List Gau):Prop:=((0:Int)<=(0:Int)/\(0:Int)<=(2000:Int))/\(DC s).fst.a0=z_line_24.a0/\(DC s).fst.a1=z_line_24.a1/\(DC s).fst.b0=z_line_24.b0/\(DC s).fst.b1 =
 z_line_24.b1/\(DC s).snd=true
abbrev Ec(s:List Gau):Prop:=(AA s).length=(AA s).length
abbrev Dx(s:List Gau):Prop:=∀(i:Nat),i<(AA s).length->(gD (AA s) i).st=(gD (AA s) i).st/\(gD (AA s) i).fl=(gD (AA s) i).fl
abbrev Wh(s:List Gau):Prop:=(↑(AA s).length:Int)=(↑(AA s).length:Int)
abbrev wQ(s:List Gau)(a:Nat):Nat:=(AA s).length-a
abbrev xD(a:IJ)(s:List Gau)(a1:Nat):Prop:=a.i<(AA s).length/\a.j<=(AA s).length/\(AA s).length-a.i=wQ s a1/\∀(y:Ln),List.Mem y (TB s a.i a.j)->Hn s y=false
abbrev ADR(a:IJ)(s:List Gau):Prop:=(↑a.j:Int)<(↑(AA s).length:Int)
abbrev AGG(s:List Gau)(a:IJ):Ln:=Ln.mk (gD (AA s) a.i).st (gD (AA s) a.i).fl (gD (AA s) a.j).st (gD (AA s) a.j).fl
abbrev AIR(s:List Gau)(a:IJ):Bool:=Va (AGG s a)
abbrev AGY(s:List Gau)(a:IJ):Nat:=(AA s).length-a.j
abbrev ADT(s:List Gau)(a:IJ)(l:Nat)(a1:Nat):Prop:=∃(a_1:IJ),(Ec s/\Dx s/\Wh s/\(↑a_1.j:Int)=IntKind.i64.wrap ((↑a.j:Int)+(1:Int))/\Fn.yield l=Fn.yield l /\
 Ec s/\Dx s/\Ec s/\Dx s/\Wh s/\(↑a_1.i:Int)=(↑a.i:Int)/\(gD (AA s) a_1.i).st=(gD (AA s) a.i).st/\(gD (AA s) a_1.i).fl=(gD (AA s) a.i).fl/\kK s) /\
 xD a_1 s a1/\AGY s a_1<AGY s a
theorem CHT(s:List Gau):(BSZ s)=((ACH s/\AAO s)/\∀(l:Nat),(ABO s=iY s/\(∀(i:Nat),i<ABO s->(xT s i).st=ANB s i/\(xT s i).lo=AOG s i /\
 (xT s i).hi=AQM s i)/\ABO s<(1073741824:Nat)/\True)/\(∃(a:Nat),(Fn.yield l=Fn.yield l/\AID s/\AHQ s/\AID s/\AHQ s/\(↑(AA s).length:Int)=(↑(AIK s)
 : Int)/\(↑a:Int)=(0:Int)/\kK s)/\xZ a s)/\∀(a:Nat),xZ a s->bif decide (AGF a s) then ((0:Int)<=(↑a:Int)/\AGF a s)/\((0:Int)<=(gD (AA s) a).st/\(gD (AA s)
 a).st<=(2000:Int))/\l=l/\(ACH s/\AAO s/\(BT (gD (AA s) a)).a0=(BT (gD (AA s) a)).a0/\(BT (gD (AA s) a)).a1=(BT (gD (AA s) a)).a1/\(BT (gD (AA s) a)).b0=(BT (gD (AA
 s) a)).b0/\(BT (gD (AA s) a)).b1=(BT (gD (AA s) a)).b1/\AJE s/\∀(g:Gau),AII g s->((0:Int)<=(BT (gD (AA s) a)).a0/\(BT (gD (AA s) a)).a0<(BT (gD (AA s) a)).b0/\(BT
 (gD (AA s) a)).b0<=(2000:Int)/\(0:Int)<=(BT (gD (AA s) a)).a1/\(BT (gD (AA s) a)).a1<=(BT (gD (AA s) a)).b1/\(BT (gD (AA s) a)).b1<=(200000:Int))/\AGW g)/\bif (jZ s).all
 λ(g:Gau)=>LB (BT (gD (AA s) a)) g then bif wN s then wD s else (DC s).fst.a0=(BT (gD (AA s) a)).a0/\(DC s).fst.a1=(BT (gD (AA s) a)).a1/\(DC s).fst.b0=(BT (gD
 (AA s) a)).b0/\(DC s).fst.b1=(BT (gD (AA s) a)).b1/\(DC s).snd=true else (∃(a_2:IJ),(Ec s/\Dx s/\Wh s/\(↑a_2.j:Int)=(0:Int)/\Fn.yield l=Fn.yield l/\Ec s /\
 Dx s/\Ec s/\Dx s/\Wh s/\(↑a_2.i:Int)=(↑a:Int)/\(gD (AA s) a_2.i).st=(gD (AA s) a).st/\(gD (AA s) a_2.i).fl=(gD (AA s) a).fl/\kK s)/\xD a_2 s a)/\∀
 (a_2:IJ),xD a_2 s a->bif decide (ADR a_2 s) then ((0:Int)<=(↑a_2.j:Int)/\ADR a_2 s)/\bif if true=true then AIR s a_2 else !AIR s a_2 then l=l/\(ACH s/\AAO s/\(gD
 (AA s) a_2.i).st=(gD (AA s) a_2.i).st/\(gD (AA s) a_2.i).fl=(gD (AA s) a_2.i).fl/\(gD (AA s) a_2.j).st=(gD (AA s) a_2.j).st/\(gD (AA s) a_2.j).fl=(gD (AA s) a_2.j).fl/\AJE s/\∀
 (g:Gau),AII g s->((0:Int)<=(gD (AA s) a_2.i).st/\(gD (AA s) a_2.i).st<(gD (AA s) a_2.j).st/\(gD (AA s) a_2.j).st<=(2000:Int)/\(0:Int)<=(gD (AA s) a_2.i).fl/\(gD (AA s) a_2.i).fl
 <= (gD (AA s) a_2.j).fl/\(gD (AA s) a_2.j).fl<=(200000:Int))/\AGW g)/\bif (jZ s).all λ(g:Gau)=>LB (AGG s a_2) g then bif wN s then wD s else (DC s).fst.a0=(gD
 (AA s) a_2.i).st/\(DC s).fst.a1=(gD (AA s) a_2.i).fl/\(DC s).fst.b0=(gD (AA s) a_2.j).st/\(DC s).fst.b1=(gD (AA s) a_2.j).fl/\(DC s).snd=true else ADT s a_2 l a else ADT s
 a_2 l a else ∃(a_4:Nat),(Fn.yield l=Fn.yield l/\Ec s/\Dx s/\Ec s/\Dx s/\Wh s/\(↑a_4:Int)=IntKind.i64.wrap ((↑a_2.i:Int)+(1:Int))/\kK s)/\xZ a_4 s /\
 wQ s a_4<wQ s a else bif wN s then wD s else (DC s).fst.a0=(0:Int)/\(DC s).fst.a1=(0:Int)/\(DC s).fst.b0=(0:Int)/\(DC s).fst.b1=(0:Int)/\(DC s).snd =
 false):=by kernel_rfl
def okP(p:Pt):Prop:=0<=p.st/\p.st<=2000/\0<=p.fl/\p.fl<=200000
theorem BTC{l:List Pt}{p q:Pt}:q∈addP l p↔q∈l∨q=p:=by
 unfold addP;split
 ·rename_i h
  exact⟨.inl,λh2=>h2.elim id λh2=>h2 ▸ h⟩
 ·simp
theorem AUT:∀(s:List Gau) (l:List Pt) (p:Pt),p∈s.foldl addG l↔p∈l∨∃g∈s,p=⟨g.st,g.lo⟩∨p=⟨g.st,g.hi⟩
 |[],l,p=>by simp
 |g :: s,l,p=>by
  rw[List.foldl_cons,AUT s]
  simp only[addG,BTC,List.mem_cons,exists_eq_or_imp]
  constructor
  ·rintro (((h | h) | h) | h)
   ·exact .inl h
   ·exact .inr (.inl (.inl h))
   ·exact .inr (.inl (.inr h))
   ·exact .inr (.inr h)
  ·rintro (h | (h | h) | h)
   ·exact .inl (.inl (.inl h))
   ·exact .inl (.inl (.inr h))
   ·exact .inl (.inr h)
   ·exact .inr h
theorem AMM{s:List Gau}{p:Pt}:p∈AA s↔∃g∈s,p=⟨g.st,g.lo⟩∨p=⟨g.st,g.hi⟩:=by
 unfold AA;rw[AUT];simp
theorem cM{s:List Gau}(h:∀g∈s,RK g){p:Pt}(hp:p∈AA s):okP p:=by
 obtain⟨g,hg,rfl | rfl⟩:=AMM.1 hp
 ·obtain⟨h1,h2,h3,h4,h5⟩:=h g hg;exact⟨h1,h2,h3,by show g.lo<=_;omega⟩
 ·obtain⟨h1,h2,h3,h4,h5⟩:=h g hg;exact⟨h1,h2,by show 0<=g.hi;omega,h5⟩
theorem eQ{p:Pt}(h:okP p):PJ (BT p):=by
 obtain⟨h1,h2,h3,h4⟩:=h
 unfold BT;split
 ·exact⟨by show 0<=p.st-1;omega,by show p.st-1<p.st;omega,h2,h3,Int.le_refl _,h4⟩
 ·exact⟨h1,by show p.st<p.st+1;omega,by show p.st+1<=2000;omega,h3,Int.le_refl _,h4⟩
theorem aQ{x:Ln}:Va x=true↔PJ x:=by
 unfold Va riP QY PJ
 simp only[Bool.and_eq_true,decide_eq_true_eq]
 constructor
 ·intro h;exact⟨by omega,by omega,by omega,by omega,by omega,by omega⟩
 ·intro h;exact⟨⟨⟨⟨⟨by omega,by omega⟩,by omega,by omega⟩,⟨by omega,by omega⟩,by omega,by omega⟩,by omega⟩,by omega⟩
theorem BRF{s:List Gau}{i:Nat}(h:i<(AA s).length):Te s (i+1)=Te s i ++ blk (AA s) (gD (AA s) i):=by
 unfold Te;rw[ND h,List.flatMap_append];simp
theorem rM{s:List Gau}:Te s (AA s).length=Nh s:=by unfold Te Nh;rw[List.take_length]
theorem tD{s:List Gau}{i:Nat}(h:i<(AA s).length):TB s i (AA s).length=Te s (i+1):=by
 rw[BRF h];unfold TB blk;rw[List.take_length]
theorem Wm{s:List Gau}{i j:Nat}(h:j<(AA s).length):TB s i (j+1)=TB s i j ++ (if Va (nG (gD (AA s) i) (gD (AA s) j)) then [nG (gD (AA s) i) (gD (AA s) j)] else []):=by
 unfold TB
 rw[ND h,List.map_append,List.filter_append,<-List.cons_append,<-List.append_assoc]
 simp only[List.map_cons,List.map_nil]
 congr 1
 split
 ·rename_i h1;rw[List.filter_cons_of_pos h1];rfl
 ·rename_i h1;rw[List.filter_cons_of_neg h1];rfl
theorem CRH{s:List Gau}:∀{i:Nat},∃r,Nh s=Te s i ++ r:=λ{i}=>by
 refine⟨((AA s).drop i).flatMap (blk (AA s)),?_⟩
 unfold Nh Te
 rw[<-List.flatMap_append,List.take_append_drop]
theorem BYK{s:List Gau}{i j:Nat}(h:i<(AA s).length):∃r,Nh s=TB s i j ++ r:=by
 obtain⟨r,hr⟩:=CRH (s:=s) (i:=i+1)
 rw[hr,<-tD h]
 refine⟨(((AA s).drop j).map (nG (gD (AA s) i))).filter Va ++ r,?_⟩
 unfold TB
 rw[List.take_length]
 conv=>lhs;rw[<-List.take_append_drop j (AA s)]
 simp only[List.map_append,List.filter_append,List.append_assoc,List.cons_append]
 rw[List.take_append_drop]
theorem CIM{α:Type}{f:α->Bool}{p:List α}{x:α}{r:List α}(h:∀y∈p,f y=false)(hx:f x=true):(p ++ x :: r).find? f=some x:=by
 rw[List.find?_append,List.find?_eq_none.2 (λy hy=>by simp[h y hy])]
 simp[hx]
theorem AMN{s:List Gau}{p:List Ln}{x:Ln}{r:List Ln}(h:Nh s=p ++ x :: r)(h1:∀y∈p,Hn s y=false)(hx:Hn s x=true)(h0:s.length≠0):DC s=(x,true):=by
 unfold DC;rw[if_neg h0,h,CIM h1 hx]
theorem BWN{s:List Gau}(h:s.length=0):DC s=(BT ⟨0,0⟩,true):=if_pos h
theorem BSF{s:List Gau}(h:∀y∈Nh s,Hn s y=false)(h0:s.length≠0):DC s=(default,false):=by
 unfold DC;rw[if_neg h0,List.find?_eq_none.2 (λy hy=>by simp[h y hy])]
theorem AMB:AJ Try.prog AFL (C_line.spec WJ):=VD C_line BYT [] [] CDL (λ_=>by kernel_rfl) (λ_=>AC D1 (AC J3 (AC Wv AE))) (λ(s:List Gau) h=>by
 show BSZ s;rw[CHT];delta jZ iY ACH sL ANB AOG AQM AAO AAW ABO xT AEC AIK AID AHS AHQ Ea kK xZ AGF AJE AII AGW wN z_line_24 wD Ec Dx Wh wQ xD ADR AGG AIR AGY ADT;simp only[CC,eq_self,implies_true,forall_const,if_true]
 obtain⟨hn,hg⟩:s.length<1073741824/\∀g∈s,RK g:=h
 have nil:((s.length:Int)==0)=true->(0<=(0:Int)/\(0:Int)<=2000)/\(DC s).fst.a0=(BT ⟨0,0⟩).a0/\(DC s).fst.a1=(BT ⟨0,0⟩).a1/\(DC s).fst.b0=(BT ⟨0,0⟩).b0/\(DC s).fst.b1=(BT ⟨0,0⟩).b1/\(DC s).snd=true:=λh=>by
  rw[BWN (by simpa using h)];exact⟨by omega,rfl,rfl,rfl,rfl,rfl⟩
 have ok:∀x,PJ x->s.length<4611686018427387904/\∀g:Gau,List.Mem g s->PJ x/\RK g:=λx hx=>⟨by omega,λg hgs=>⟨hx,hg g hgs⟩⟩
 have he:(AA s).length<=2*s.length:=by
  have:=Wk (s:=s) s.length (Nat.le_refl _)
  unfold Kd at this;rw[List.take_length] at this;exact this
 have e_ok:∀i,i<(AA s).length->okP (gD (AA s) i):=λi hi=>cM hg (CV hi)
 refine⟨by omega,⟨0,rfl,Nat.zero_le _,λx hx=>by cases hx⟩,λi ⟨hi,hp⟩=>⟨λhlt=>?_,λhge=>?_⟩⟩
 ·have hlt:i<(AA s).length:=by omega
  obtain⟨r0,hr0⟩:=BYK (s:=s) (j:=0) hlt
  have hpe:TB s i 0=Te s i ++ [BT (gD (AA s) i)]:=by unfold TB;simp
  have hr0':Nh s=Te s i ++ BT (gD (AA s) i) :: r0:=by rw[hr0,hpe];simp
  refine⟨⟨by omega,by omega⟩,⟨(e_ok i hlt).1,(e_ok i hlt).2.1⟩,ok _ (eQ (e_ok i hlt)),λhpa=>⟨nil,λh0=>?_⟩,λhpa=>⟨⟨⟨i,0⟩,⟨rfl,rfl,rfl,rfl⟩,hlt,Nat.zero_le _,rfl,λy hy=>?_⟩,λx ⟨hx1,hx2,hx3,hx4⟩=>⟨λhj=>?_,λhj=>?_⟩⟩⟩
  ·rw[AMN hr0' hp hpa (by simpa using h0)];exact⟨rfl,rfl,rfl,rfl,rfl⟩
  ·have hy:y∈Te s i ++ [BT (gD (AA s) i)]:=hpe ▸ hy
   rcases List.mem_append.1 hy with hy | hy
   ·exact hp y hy
   ·rw[List.mem_singleton.1 hy];exact hpa
  ·have hj:x.j<(AA s).length:=by omega
   have step:(∀y∈TB s x.i (x.j+1),Hn s y=false)->∃z:IJ,((z.j:Int)=IntKind.i64.wrap ((x.j:Int)+1)/\(z.i:Int)=x.i/\(gD (AA s) z.i).st=(gD (AA s) x.i).st/\(gD (AA s) z.i).fl=(gD (AA s) x.i).fl)/\(z.i<(AA s).length/\z.j<=(AA s).length/\(AA s).length-z.i=(AA s).length-i/\∀y:Ln,List.Mem y (TB s z.i z.j)->Hn s y=false)/\(AA s).length-z.j<(AA s).length-x.j:=λh=>
    ⟨⟨x.i,x.j+1⟩,⟨(CN (by omega)).symm,rfl,rfl,rfl⟩,⟨hx1,hj,hx3,h⟩,by show (AA s).length-(x.j+1)<_;omega⟩
   refine⟨⟨by omega,by omega⟩,λhri=>⟨ok ⟨_,_,_,_⟩ (aQ.1 hri),λhpa=>⟨nil,λh0=>?_⟩,λhpa=>step λy hy=>?_⟩,λhri=>step λy hy=>?_⟩
   ·have hri':Va (nG (gD (AA s) x.i) (gD (AA s) x.j))=true:=hri
    obtain⟨r,hr⟩:=BYK (s:=s) (j:=x.j+1) hx1
    rw[Wm hj,if_pos hri',List.append_assoc] at hr
    rw[AMN hr hx4 hpa (by simpa using h0)];exact⟨rfl,rfl,rfl,rfl,rfl⟩
   ·have hri':Va (nG (gD (AA s) x.i) (gD (AA s) x.j))=true:=hri
    rw[Wm hj,if_pos hri'] at hy
    rcases List.mem_append.1 hy with hy | hy
    ·exact hx4 y hy
    ·rw[List.mem_singleton.1 hy];exact hpa
   ·have hri':¬ Va (nG (gD (AA s) x.i) (gD (AA s) x.j))=true:=by
     intro h;have h:Va ⟨_,_,_,_⟩=true:=h;rw[hri] at h;cases h
    rw[Wm hj,if_neg hri',List.append_nil] at hy
    exact hx4 y hy
  ·have hje:x.j=(AA s).length:=by omega
   refine⟨x.i+1,(CN (by omega)).symm,⟨by omega,λy hy=>?_⟩,by omega⟩
   rw[<-tD hx1] at hy
   exact hx4 y (hje ▸ hy)
 ·have hie:i=(AA s).length:=by omega
  rw[hie,rM] at hp
  refine⟨nil,λh0=>?_⟩
  rw[BSF hp (by simpa using h0)];exact⟨rfl,rfl,rfl,rfl,rfl⟩) (λs=>BZA Cr (BUK s) rfl rfl (AC ADA (AC Wv (AC AOC AE))) sR (by kernel_rfl) (by kernel_rfl)) _
end Go.Bal
