/- Package rating: the reference: what a line has. -/
import Derived.Test.YtpidmmilfdcepaaGreatRatC
set_option linter.unusedVariables false
set_option linter.unusedSimpArgs false
namespace Go.Bal
open Go Go.Sym Go.Proofs
def zBx:HCell:=.live (.box [.int 0,.int 0])
def rl4(x:I2):Shape:={ α:=NN,dflt:=default,T:=λs=>⟨[(0,.int x.a),(1,.int x.b),(4,.bptr 1000 0),(5,.int s.a),(6,.int s.b)],[(1000,zBx)]⟩,inv:=λs=>0<s.b/\s.a<=2305843009213693952/\s.b<=2305843009213693952/\Nat.gcd s.a s.b=Nat.gcd x.a.natAbs x.b.natAbs,meas:=λs=>s.a }
def CAC(x:I2):Ann:={ ann 26 [] with loops:=λid=>if id=4 then some [rl4 x] else none }
def BXU(x:I2):Prop:=AS ZP (CAC x) Tryz.f98 (AE Tryz.f98) (xI2 x) (AB []) (.d (G2 (El x.a x.b))) [] [] []
abbrev gA a b:=FF (CS a) b
abbrev X0 a:=SA (DV a)
attribute [go_sem] gA X0
theorem CJE(x:I2):(BXU x)=(FD (cV (Ie x)) (Y3 (λi=>FE (wW x (cH (yE x) (MM (CS i) (PS 0 (Ie x))) (MM (DV i) (Vn x)) BB)) (X0 i) (gA i 2305843009213693952) (DV i) 2305843009213693952 (eS i i x x))) (hd66 (λi=>MO (JO (X0 i) (gA i 2305843009213693952) (DV i) 2305843009213693952 (eS i i x x)) (RR (Yl i)) (U9 (CS i)) (Y3 (λj=>IB (wW x (cH (yE x) (MM (CS j) (hd68 (Om i) (Yl i))) (AI (DV j) (CS i)) BB)) (JO (X0 j) (gA j 2305843009213693952) (DV j) 2305843009213693952 (eS j j x x)) (CS j) (CS i))) (bY (And (II (Om i)) (U9 (DV i))) (MH (lV (Ie x) (Vn x))) (J4 (Ie x) (Om i)) (QA (lV (Ie x) (Vn x))) (J4 (Vn x) (Om i))))) (And (Y3 (λi=>FE (wW x (cH (yE x) (MM (CS i) (Ie x)) (MM (DV i) (Vn x)) BB)) (X0 i) (gA i 2305843009213693952) (DV i) 2305843009213693952 (eS i i x x))) (hd66 (λi=>MO (JO (X0 i) (gA i 2305843009213693952) (DV i) 2305843009213693952 (eS i i x x)) (RR (Yl i)) (U9 (CS i)) (Y3 (λj=>IB (wW x (cH (yE x) (MM (CS j) (hd68 (Om i) (Yl i))) (AI (DV j) (CS i)) BB)) (JO (X0 j) (gA j 2305843009213693952) (DV j) 2305843009213693952 (eS j j x x)) (CS j) (CS i))) (bY (And (II (Om i)) (U9 (DV i))) (MH (lV (Ie x) (Vn x))) (J4 (Ie x) (Om i)) (QA (lV (Ie x) (Vn x))) (J4 (Vn x) (Om i))))))):=by kernel_rfl
def belR(a b:Rt):Bool:=decide (wr (a.n*b.d)<wr (b.n*a.d))
def tY:=pD dR2 λx=>.bool (belR x.lo x.hi)
def CBW(a:Bnd):Prop:=AS ZP (ann 16 []) Tryz.f66 (AE Tryz.f66) (xR2 a) (AB []) (.bool (belR a.lo a.hi)) [] [] []
abbrev iX:=belR
attribute [go_sem] iX
theorem CKY(a:Bnd):(CBW a)=(Va (iX (hd76 a) (hd77 a)) (Tx (AYE a) (AWS a))):=by kernel_rfl
def CGY(a:LnI):Prop:=AS ZP (ann 32 [(98,Pv)]) Tryz.f60 (AE Tryz.f60) (xLI a) (AB []) (.d (G2 (Ct a.x a.s))) [] [] []
abbrev lM a b c d e:=AGO a b c d c e
attribute [go_sem] lM
theorem CKM(a:LnI):(CGY a)=(bY (S4 (Q6 (pM a a)) (pM a a) 2305843009213693952 (-2305843009213693952) (lM (Pj a) (eA a) (Ig a) (rR a) (Ka a)) (Ze (lM (Pj a) (eA a) (Ig a) (rR a) (Ka a)))) (MH (Ow a a)) (MH (lV (lM (Pj a) (eA a) (Ig a) (rR a) (Ka a)) (pM a a))) (QA (Ow a a)) (QA (lV (lM (Pj a) (eA a) (Ig a) (rR a) (Ka a)) (pM a a)))):=by kernel_rfl
def BPO(r:Rt):Prop:=AS ZP (ann 12 [(66,tY)]) Tryz.f62 (AE Tryz.f62) (xR1 r) (AB []) (.d (G2 (Cf r))) [] [] []
abbrev Rz a:=Rt.mk a 1
attribute [go_sem] Rz
theorem CFC(r:Rt):(BPO r)=(FD (cV (MH r)) (CL (oP r)) (fN (hd81 r)) (FD (iX (Rz 200000) r) (vG (hd81 r) 200000) (fN (hd81 r)) (And (Gc (hd81 r) r) (Fs (hd81 r) r)))):=by kernel_rfl
def Uo(x:Ln)(s:Int):Int:=bif Kv x then (bif JD s 0 2000 then 0 else 4) else 50
def S8(x:Ln)(s:Int):Rt:=bif Uo x s==0 then Ct x s else⟨0,0⟩
def AZI:=pD dLI λa=>.tup [.d (G2 (S8 a.x a.s)),.int (Uo a.x a.s)]
def CAL(a:LnI):Prop:=AS ZP (ann 19 [(54,AQB),(49,G4),(59,jI)]) Tryz.f18 (AE Tryz.f18) (xLI a) (AB []) (.tup [.d (G2 (S8 a.x a.s)),.int (Uo a.x a.s)]) [] [] []
abbrev Ly a b:=S8 (Zk a) (Ig b)
abbrev YE a b c:=AO a (FJ b) c
abbrev Jr a b c d:=Lm a 0 b 0 c d
attribute [go_sem] Ly YE Jr
theorem CKJ(a:LnI):(CAL a)=(HZ (kK (Zk a)) (Jr (MH (Ly a a)) (QA (Ly a a)) (Uo (Zk a) (Ig a)) 50) (Gj (XP (Ig a)) (Jr (MH (Ly a a)) (QA (Ly a a)) (Uo (Zk a) (Ig a)) 4) (YE (HX (Zk a)) (Ig a) (VF (Ig a))) (Lm (MH (Ly a a)) (MH (Ow a a)) (QA (Ly a a)) (QA (Ow a a)) (Uo (Zk a) (Ig a)) 0))):=by kernel_rfl
def BYW(a:LnI):Prop:=AS ZP (ann 15 [(58,zR),(56,Rw),(60,jI)]) Tryz.f19 (AE Tryz.f19) (xLI a) (AB []) (.tup [.d (G2 (S8 a.x a.s)),.int (Uo a.x a.s)]) [] [] []
theorem CHR(a:LnI):(BYW a)=(HZ (kK (Zk a)) (Jr (MH (Ly a a)) (QA (Ly a a)) (Uo (Zk a) (Ig a)) 50) (Gj (XP (Ig a)) (Jr (MH (Ly a a)) (QA (Ly a a)) (Uo (Zk a) (Ig a)) 4) (YE (HX (Zk a)) (Ig a) (VF (Ig a))) (Lm (MH (Ly a a)) (MH (Ow a a)) (QA (Ly a a)) (QA (Ow a a)) (Uo (Zk a) (Ig a)) 0))):=by kernel_rfl
def C_rPart:Ctr:={ α:=IX,xs:=λa=>[.d (AZ a.l),.int a.x],val:=λa=>.int (KB a.l a.x),pre:=λa=>[a.l.length<1073741824/\True] }
def rp3(a:IX):Shape:={ α:=Nat,dflt:=0,T:=λi=>⟨[(0,.d (AZ a.l)),(1,.int a.x),(5,.int (KB (a.l.take i) a.x)),(6,.int i)],[]⟩,inv:=λi=>i<=a.l.length,meas:=λi=>a.l.length-i }
def BPX(a:IX):Ann:={ ann 22 [] with loops:=λid=>if id=3 then some [rp3 a] else none }
def BSK(a:IX):Prop:=AS ZP (BPX a) Tryz.f63 (AE Tryz.f63) (C_rPart.xs a) (AB []) (C_rPart.val a) [] [] []
abbrev Bm a b c d e:=EO a (Ko b c) c d e
abbrev XV a b c:=And a (Ko b c)
attribute [go_sem] Bm XV
theorem BYO(a:IX):(BSK a)=(HU (λi=>XV (AR (L1 a) (P8 a) (yP a) (BX (fO (G5 i (OH a)) a)) (BX i)) i (Jh a)) (λi=>An (Ko i (Jh a)) i (Jh a) (JL i (OH a)) (hd7 (Ms a i) (Ho a)) (EI (λj=>Bm (AR (L1 a) (P8 a) (yP a) (AJ (fO (G5 j (OH a)) a) (fO (G5 i (OH a)) a)) (AJ j i)) j (Jh a) j i)) (λj=>Bm (AR (L1 a) (P8 a) (yP a) (AI (fO (G5 j (OH a)) a) (fO (G5 i (OH a)) a)) (AJ j i)) j (Jh a) j i) (AI (fO (OH a) a) (fO (G5 i (OH a)) a)))):=by kernel_rfl
theorem BAC:AH ZP 98 Pv:=OG xI2 hI2 λx h=>WP (A:=CAC x) (ren:=[]) (fz:=[]) Tryz.func98 (by kernel_rfl) AD (by
 show BXU x;rw[CJE]<;> dsimp only[go_sem];simp only[CC,CU]
 obtain⟨h1,h2,h3,h4⟩:0<x.b/\x.b<=2305843009213693952 /\ -2305843009213693952<=x.a/\x.a<=2305843009213693952:=h
 have hg0:0<Nat.gcd x.a.natAbs x.b.natAbs:=Nat.gcd_pos_of_pos_right _ (by omega)
 have hb:((x.b.natAbs:Nat):Int)=x.b:=by omega
 have loop:∀s:NN,(0<s.b/\s.a<=2305843009213693952/\s.b<=2305843009213693952/\Nat.gcd s.a s.b=Nat.gcd x.a.natAbs x.b.natAbs)->((((s.a:Int) != 0)=true->((s.a:Int)=0->False)/\∃t:NN,((t.a:Int)=(s.b:Int).tmod s.a/\(t.b:Int)=s.a)/\(0<t.b/\t.a<=2305843009213693952/\t.b<=2305843009213693952/\Nat.gcd t.a t.b=Nat.gcd x.a.natAbs x.b.natAbs)/\t.a<s.a)/\(((s.a:Int) != 0)=false->(s.b:Int)≠0/\(El x.a x.b).n=IntKind.i64.wrap (x.a.tdiv s.b)/\(El x.a x.b).d=IntKind.i64.wrap (x.b.tdiv s.b))):=λs ⟨s1,s2,s3,s4⟩=>by
  refine⟨λhc=>?_,λhc=>?_⟩
  ·have hc:s.a≠0:=by simpa using hc
   refine⟨by omega,⟨s.b % s.a,s.a⟩,⟨(Int.ofNat_tmod s.b s.a),rfl⟩,⟨Nat.pos_of_ne_zero hc,?_,s2,?_⟩,Nat.mod_lt _ (Nat.pos_of_ne_zero hc)⟩
   ·have:=Nat.mod_lt s.b (Nat.pos_of_ne_zero hc);show s.b % s.a<=_;omega
   ·show Nat.gcd (s.b % s.a) s.a=_
    rw[<-Nat.gcd_rec];exact s4
  ·have hc:s.a=0:=by simpa using hc
   rw[hc,Nat.gcd_zero_left] at s4
   have ha:∀z:Int,(z.tdiv (s.b:Int)).natAbs<=z.natAbs:=λz=>by rw[Int.natAbs_tdiv];exact Nat.div_le_self _ _
   have e1:=ha x.a
   have e2:=ha x.b
   refine⟨by omega,?_,?_⟩
   ·rw[HL (by omega) (by omega)];unfold El;rw[<-s4]
   ·rw[HL (by omega) (by omega)];unfold El;rw[<-s4]
 refine⟨λhn=>⟨⟨⟨x.a.natAbs,x.b.natAbs⟩,⟨by show ((x.a.natAbs:Nat):Int)=_;rw[HL (by omega) (by omega)];omega,hb⟩,by show 0<x.b.natAbs;omega,by show x.a.natAbs<=_;omega,by show x.b.natAbs<=_;omega,rfl⟩,loop⟩,λhn=>⟨⟨⟨x.a.natAbs,x.b.natAbs⟩,⟨by show ((x.a.natAbs:Nat):Int)=_;omega,hb⟩,by show 0<x.b.natAbs;omega,by show x.a.natAbs<=_;omega,by show x.b.natAbs<=_;omega,rfl⟩,loop⟩⟩)
theorem A3:AH ZP 66 tY:=OG xR2 hR2 λg _=>WP (A:=ann 16 []) (ren:=[]) (fz:=[]) Tryz.func66 (by kernel_rfl) AD (by
 show CBW g;rw[CKY]<;> dsimp only[go_sem];rfl)
theorem AJH:AH ZP 60 jI:=OG xLI hLI λa h=>WP (A:=ann 32 [(98,Pv)]) (ren:=[]) (fz:=[]) Tryz.func60 (by kernel_rfl) (AA BAC AD) (by
 show CGY a;rw[CKM]<;> dsimp only[go_sem]
 obtain⟨⟨h1,h2,h3,h4,h5,h6⟩,h7,h8⟩:MI a.x/\0<=a.s/\a.s<=2000:=h
 have b1:a.x.a1*(a.x.b0-a.s)<=200000*2000:=Int.le_trans (Int.mul_le_mul_of_nonneg_left (show a.x.b0-a.s<=2000 by omega) h4) (Int.mul_le_mul_of_nonneg_right (by omega) (by omega))
 have b2:-(200000*2000)<=a.x.a1*(a.x.b0-a.s):=by
  have e1:=Int.mul_le_mul_of_nonneg_left (show -2000<=a.x.b0-a.s by omega) h4
  have e2:=Int.mul_le_mul_of_nonneg_right (show a.x.a1<=200000 by omega) (show (0:Int)<=2000 by omega)
  rw[Int.mul_neg] at e1;omega
 have b3:a.x.b1*(a.s-a.x.a0)<=200000*2000:=Int.le_trans (Int.mul_le_mul_of_nonneg_left (show a.s-a.x.a0<=2000 by omega) (by omega)) (Int.mul_le_mul_of_nonneg_right h6 (by omega))
 have b4:-(200000*2000)<=a.x.b1*(a.s-a.x.a0):=by
  have e1:=Int.mul_le_mul_of_nonneg_left (show -2000<=a.s-a.x.a0 by omega) (show 0<=a.x.b1 by omega)
  have e2:=Int.mul_le_mul_of_nonneg_right h6 (show (0:Int)<=2000 by omega)
  rw[Int.mul_neg] at e1;omega
 have w1:IntKind.i64.wrap (a.x.b0-a.x.a0)=a.x.b0-a.x.a0:=HL (by omega) (by omega)
 have w2:IntKind.i64.wrap (a.x.b0-a.s)=a.x.b0-a.s:=HL (by omega) (by omega)
 have w3:IntKind.i64.wrap (a.s-a.x.a0)=a.s-a.x.a0:=HL (by omega) (by omega)
 rw[w1,w2,w3]
 rw[HL (n:=a.x.a1*(a.x.b0-a.s)) (by omega) (by omega),HL (n:=a.x.b1*(a.s-a.x.a0)) (by omega) (by omega),HL (n:=a.x.a1*(a.x.b0-a.s)+a.x.b1*(a.s-a.x.a0)) (by omega) (by omega)]
 have e:a.x.a1*(a.x.b0-a.s)+a.x.b1*(a.s-a.x.a0)=a.x.a1*(a.x.b0-a.x.a0)+(a.x.b1-a.x.a1)*(a.s-a.x.a0):=by grind
 refine⟨⟨by omega,by omega,by omega,by omega⟩,?_,?_⟩
 ·unfold Ct;rw[e]
 ·unfold Ct;rw[e])
def AJY:=pD dR1 (λr=>.d (G2 (Cf r))) (λr=>[(0<r.d/\r.d<=4000000) /\ -2305843009213693952<=r.n/\r.n<=2305843009213693952])
theorem ANB:AH ZP 62 AJY:=OG xR1 hR1 λr h=>WP (A:=ann 12 [(66,tY)]) (ren:=[]) (fz:=[]) Tryz.func62 (by kernel_rfl) (AA A3 AD) (by
 show BPO r;rw[CFC]<;> dsimp only[go_sem];simp only[CC,CU]
 obtain⟨⟨h1,h2⟩,h3,h4⟩:(0<r.d/\r.d<=4000000) /\ -2305843009213693952<=r.n/\r.n<=2305843009213693952:=h
 have e:belR (Rt.mk 200000 1) r=decide (200000*r.d<r.n):=by
  unfold belR
  show decide (wr (200000*r.d)<wr (r.n*1))=_
  rw[show wr (200000*r.d)=200000*r.d from HL (by omega) (by omega),show wr (r.n*1)=r.n by rw[Int.mul_one];exact HL (by omega) (by omega)]
 rw[e]
 unfold Cf
 refine⟨λh3=>by rw[if_pos h3];exact⟨rfl,rfl⟩,λh3=>⟨λh4=>?_,λh4=>?_⟩⟩
 ·rw[if_neg h3,if_pos (by simpa using h4)];exact⟨rfl,rfl⟩
 ·rw[if_neg h3,if_neg (by simpa using h4)];exact⟨rfl,rfl⟩)
theorem BTT(a:LnI):(Kv a.x=false->(S8 a.x a.s).n=0/\(S8 a.x a.s).d=0/\Uo a.x a.s=50)/\(Kv a.x=true->(JD a.s 0 2000=false->(S8 a.x a.s).n=0/\(S8 a.x a.s).d=0/\Uo a.x a.s=4)/\(JD a.s 0 2000=true->((0<=a.x.a0/\a.x.a0<a.x.b0/\a.x.b0<=2000/\0<=a.x.a1/\a.x.a1<=a.x.b1/\a.x.b1<=200000)/\0<=a.s/\a.s<=2000)/\(S8 a.x a.s).n=(Ct a.x a.s).n/\(S8 a.x a.s).d=(Ct a.x a.s).d/\Uo a.x a.s=0)):=by
 refine⟨λh=>?_,λh=>⟨λh2=>?_,λh2=>?_⟩⟩
 ·have e:Uo a.x a.s=50:=by unfold Uo;rw[h];rfl
  unfold S8;rw[e];exact⟨rfl,rfl,rfl⟩
 ·have e:Uo a.x a.s=4:=by unfold Uo;rw[h,h2];rfl
  unfold S8;rw[e];exact⟨rfl,rfl,rfl⟩
 ·have e:Uo a.x a.s=0:=by unfold Uo;rw[h,h2];rfl
  refine⟨⟨?_,?_⟩,?_⟩
  ·unfold Kv riP JD at h
   simp only[Bool.and_eq_true,decide_eq_true_eq] at h
   omega
  ·unfold JD at h2
   simp only[Bool.and_eq_true,decide_eq_true_eq] at h2
   omega
  ·unfold S8;rw[e];exact⟨rfl,rfl,rfl⟩
theorem CJX:AH ZP 18 AZI:=OG xLI hLI λa _=>WP (A:=ann 19 [(54,AQB),(49,G4),(59,jI)]) (ren:=[]) (fz:=[]) Tryz.func18 (by kernel_rfl) (AA K6 (AA aH (AA BLK AD))) (by
 show CAL a;rw[CKJ]<;> dsimp only[go_sem];simp only[CC,CU];exact BTT a)
theorem CIX:AH ZP 19 AZI:=OG xLI hLI λa _=>WP (A:=ann 15 [(58,zR),(56,Rw),(60,jI)]) (ren:=[]) (fz:=[]) Tryz.func19 (by kernel_rfl) (AA AGF (AA Vj (AA AJH AD))) (by
 show BYW a;rw[CHR]<;> dsimp only[go_sem];simp only[CC,CU];exact BTT a)
theorem BDU(l:List Int)(y x:Int):KB (l ++ [y]) x=KB l x+(if y<=x then 1 else 0):=by
 unfold KB;rw[List.countP_append]
 by_cases h:y<=x<;>simp[h]
theorem iQ:AH ZP 63 (C_rPart.spec dIX):=PW C_rPart BPX [] [] Tryz.func63 (λ_=>by kernel_rfl) (λ_=>AD) (λ(a:IX) h=>by
 show BSK a;rw[BYO]<;> dsimp only[go_sem];simp only[CC,CU]
 have hl:a.l.length<1073741824:=(show a.l.length<1073741824/\True from h).1
 have hle:∀i,KB (a.l.take i) a.x<=a.l.length:=λi=>by
  unfold KB
  exact Nat.le_trans List.countP_le_length (by rw[List.length_take];omega)
 refine⟨⟨0,⟨rfl,rfl⟩,Nat.zero_le _⟩,λi hi=>⟨λhlt=>⟨⟨by omega,by omega⟩,λhc=>⟨i+1,⟨?_,(BF (by omega)).symm⟩,by omega,by omega⟩,λhc=>⟨i+1,⟨?_,(BF (by omega)).symm⟩,by omega,by omega⟩⟩,λhge=>?_⟩⟩
 ·have:=hle i
  rw[LG (by omega),BDU,if_pos hc,HL (by omega) (by omega)];omega
 ·rw[LG (by omega),BDU,if_neg hc];rfl
 ·rw[List.take_of_length_le (by omega)]) (λ_=>RA rfl rfl) _
def dGsK:List AVal->Heap->Option (List Gau×List (Nat×Nat)×List Nat):=NU
def C_through:Ctr:={ α:=List Gau,xs:=λs=>[.d (AT s)],L:=λ_=>[],val:=λs=>.fn (.func 129) [] [.bptr 0 0],keep:=λs=>[(0,.live (.box [.d (AT s)]))] }
def ASK(s:List Gau):Prop:=AS ZP (ann 4 []) Tryz.f106 (AE Tryz.f106) (C_through.xs s) (AB []) (C_through.val s) (C_through.keep s) [(0,1000)] []
theorem BKC(s:List Gau):(ASK s)=(QY (BQ s) (λi=>fX i s)):=by kernel_rfl
theorem W5:AH ZP 106 (C_through.spec dGsK):=PW C_through (λ_=>ann 4 []) [(0,1000)] [] Tryz.func106 (λ_=>by kernel_rfl) (λ_=>AD) (λ(s:List Gau) _=>by
 show ASK s;rw[BKC]<;> dsimp only[go_sem];simp) (λ_=>RA rfl rfl) _
structure GsL where
 s:List Gau
 x:Ln
def dGsL:List AVal->Heap->Option (GsL×List (Nat×Nat)×List Nat)
 |[y,.d x],H=>match Ht y H with
  |some (l,f)=>some (⟨l,dLn x⟩,[],f)
  |none=>none
 |_,_=>none
def C_passing:Ctr:={ α:=GsL,xs:=λa=>[.d (AT a.s),.d (eLn a.x)],L:=λ_=>[],val:=λa=>.bool (a.s.all λg=>NJ a.x g),keep:=λ_=>[],pre:=λa=>[a.s.length<4611686018427387904/\(∀g∈a.s,(MI a.x/\IT g))] }
def ASS:Ann:=ann 9 [(50,C4Gp.spec d4Gp)]
def ATJ(a:GsL):Prop:=AS ZP ASS Tryz.f105 (AE Tryz.f105) (C_passing.xs a) (AB []) (C_passing.val a) [] [] []
abbrev AQQ:=GsL.s
abbrev AHG:=GsL.x
abbrev AQC a b c d e f g(h:Gau->Prop):=BAG a b c d e f g (AID h)
attribute [go_sem] AQQ AHG AQC
theorem BLP(a:GsL):(ATJ a)=(Wo (AQC (AY (AQQ a)) (BJ (AQQ a)) (MG (AHG a)) (Su (AHG a)) (RU (AHG a)) (Sj (AHG a)) (dS (AQQ a)) (λi=>aR i (CG (AQQ a)) (tQ (HX (AHG a)) i i))) (S6 (AQQ a) (AHG a)) (S6 (CG (AQQ a)) (AHG a))):=by kernel_rfl
theorem M3:AH ZP 105 (C_passing.spec dGsL):=PW C_passing (λ_=>ASS) [] [] Tryz.func105 (λ_=>by kernel_rfl) (λ_=>AA CXL AD) (λ(a:GsL) h=>by
 show ATJ a;rw[BLP]<;> dsimp only[go_sem];simp only[CC,CU]
 have h:a.s.length<4611686018427387904/\(∀g∈a.s,(MI a.x/\IT g)):=h
 first | exact h | exact⟨h,rfl⟩) (λ_=>RA rfl rfl) _
def pI(a b:Pt):Ln:=⟨a.st,a.fl,b.st,b.fl⟩
def blk(e:List Pt)(a:Pt):List Ln:=QB a :: (e.map (pI a)).filter Kv
def Lf(s:List Gau):List Ln:=(AC s).flatMap (blk (AC s))
def Lh(s:List Gau)(x:Ln):Bool:=s.all λg=>NJ x g
def EV(s:List Gau):Ln×Bool:=if s.length=0 then (QB ⟨0,0⟩,true) else match (Lf s).find? (Lh s) with
 |some x=>(x,true)
 |none=>(default,false)
def zLn:HCell:=.live (.box [.int 0,.int 0,.int 0,.int 0])
def lnH(s:List Gau):List (Nat×HCell):=[(1000,zLn),(2000,zLn),(3000,.live (.box [.bool false])),(4032,.live (.box [.fn (.func 105) [.d (AT s)] []]))]
def lnS(s:List Gau)(l i:Nat):List (Nat×AVal):=[(0,.fn (.yield l) [] []),(3,.d (ePts (AC s))),(11,.d (ePts (AC s))),(12,.int (AC s).length),(13,.int i)]
def Qz(s:List Gau)(i:Nat):List Ln:=((AC s).take i).flatMap (blk (AC s))
def RE(s:List Gau)(i j:Nat):List Ln:=Qz s i ++ QB (gD (AC s) i) :: (((AC s).take j).map (pI (gD (AC s) i))).filter Kv
def lnO(s:List Gau)(l:Nat):Shape:={ α:=Nat,dflt:=0,T:=λi=>⟨lnS s l i,lnH s⟩,inv:=λi=>i<=(AC s).length/\∀x∈Qz s i,Lh s x=false,meas:=λi=>(AC s).length-i }
def lnI(s:List Gau)(q l:Nat):Shape:={ α:=IJ,dflt:=default,T:=λx=>⟨[(5,.bptr 205 0),(22,.d (ePts (AC s))),(23,.int (AC s).length),(24,.int x.j)] ++ lnS s l x.i,(205,.live (.box [.int (gD (AC s) x.i).st,.int (gD (AC s) x.i).fl])) :: lnH s⟩,inv:=λx=>x.i<(AC s).length/\x.j<=(AC s).length/\(AC s).length-x.i=q/\∀y∈RE s x.i x.j,Lh s y=false,meas:=λx=>(AC s).length-x.j,first:=[(205,104032)] }
noncomputable def CEY(s:List Gau):IterAnn:={ fn:=Tryz.f129,code:=AE Tryz.f129,live:=[0,2,4,5,6],ann:={ base:=λid=>100000+1000*(id+1),Γ:=Sym.look [(122,C_ends.spec NU),(107,F7),(54,AQB)],E:=[1000,2000,3000,4032],n:=41,inner:=λgs id=>if id=2 then some [lnO s (gs.getD 0 0)] else if id=6 then some [lnI s (gs.getD 0 0) (gs.getD 1 0)] else none } }
noncomputable def CCD(s:List Gau):Ann:={ ann 24 [(106,C_through.spec dGsK),(105,C_passing.spec dGsL),(107,F7)] with iter:=λg=>if g=129 then some (CEY s) else none }
def C_line:Ctr:={ α:=List Gau,xs:=λs=>[.d (AT s)],L:=λ_=>[],val:=λs=>.tup [.d (eLn (EV s).1),.bool (EV s).2],keep:=λ_=>[],pre:=λs=>[s.length<1073741824/\∀g∈s,IT g] }
def BZE(s:List Gau):Prop:=AS ZP (CCD s) Tryz.f69 (AE Tryz.f69) (C_line.xs s) (AB []) (C_line.val s) [] [] []
abbrev H3:=λ(f:Ln->Prop)=>∀(x:Ln),f x
abbrev Rn a b c d e:=BKJ a (CL b) (CL c) (CL d) e
abbrev KU a:=Va a hd8
abbrev Yo a:=(@Prod.snd Ln Bool) (EV a)
abbrev NF a:=(@Prod.fst Ln Bool) (EV a)
abbrev zE a b:=BM (SJ a) b
abbrev Dj a b:=zE a (SJ b)
abbrev Ab:=hd84 (hd17 0 0)
abbrev xV a b:=BM (RU a) b
abbrev Dz a b:=xV a (RU b)
abbrev tZ a b:=BM (QT a) b
abbrev Dr a b:=tZ a (QT b)
abbrev Cz a b:=dK a (MG b)
abbrev zM:=KO 0 0
abbrev Wg a:=And zM a
abbrev OJ a:=VS a 0
abbrev BKV a b c d e f g h:=AGN a b c d ((λ(x0 x1 x2 x3:Bool)=>if x0=x1 then x2 else x3) aN aN (Kv e) (kK e)) f g h
abbrev iB a b c:=PY ((@List.Mem Ln) a b) c
abbrev xO a b:=KU (Lh a b)
abbrev AHI a b c d e f g h:=BK a b c d e f g g h
abbrev BQQ a b c d e f g:=AHI a b c b d e f g
abbrev BWJ a b c d e f g:=Ld a b a c d e f g
abbrev CDI a b c d e f:=BWJ a b c a d e f
abbrev BVZ a b c d e:=CDI a a b c d e
abbrev ATE a b c d:=BVZ a a b c d
abbrev zZ:=jL hd8
abbrev iD a b:=AJ a (EB b)
abbrev Rc a:=DR (DZ a)
abbrev nL a b:=AK (Bg a b)
abbrev Aj a:=(@Eq Fn) (Fn.yield a) (Fn.yield a)
abbrev BRG a b c:=DU a (TJ b c)
abbrev IZ a b c:=BRG (TJ a b) a c
abbrev AEG a b c d e f g:=Wx a b c d e f b g
abbrev Zo a b:=Bg a (EB b)
abbrev Zh a b:=OY a (EB b)
abbrev BCQ a b:=AJ (BY a) (BY b)
abbrev Fp a b c d e f:=AR a (FC b c) d e f
abbrev aT a b:=hd84 (BCN a b)
abbrev xT a b:=AI a (DZ b)
abbrev sC a:=CG (CG a)
abbrev AZY a b:=DU a (DZ b)
abbrev KV a:=Br (CH a)
abbrev mQ a b c:=Dd a b (KV c)
attribute [go_sem] H3 Rn KU Yo NF zE Dj Ab xV Dz tZ Dr Cz zM Wg OJ BKV iB xO AHI BQQ BWJ CDI BVZ ATE zZ iD Rc nL Aj BRG IZ AEG Zo Zh BCQ Fp aT xT sC AZY KV mQ
theorem CHI(s:List Gau):(BZE s)=(QY (QY (AY s) (λi=>UA i (CG s) s)) (λi=>WX (mQ (Zf (sC s) s) (Xv (sC s) s) (sC s)) (EI (λj=>EE (And (Aj i) (BQQ (AZY (DZ s) (sC s)) (AG (λk=>ZV k (DZ s) (OY s k) (OY (sC s) k) (Bg s k) (Bg (sC s) k))) (AZY (DZ s) (sC s)) (xT (DZ s) (sC s)) (BX j) BB (ATE BB zZ (BQ s) (AP s)))) j (DZ s) (H3 (λk=>iB k (Qz s j) (xO s k))))) (λj=>Ee (GP j (DZ s) (H3 (λk=>iB k (Qz s j) (xO s k)))) j (DZ s) (AR (CR j (DZ s)) (UW (OY s j)) (DR i) (AQC (AY s) (BJ s) (MG (aT s j)) (Su (aT s j)) (RU (aT s j)) (Sj (aT s j)) (dS s) (λk=>aR k (CG s) (tQ (HX (aT s j)) k k))) (Gj (S6 (CG s) (aT s j)) (HZ (OJ (XA s)) (AW (Wg (FJ 2000)) (Cz (NF s) Ab) (Dr (NF s) Ab) (Dz (NF s) Ab) (Dj (NF s) Ab) (IN (Yo s))) (AR (Cz (NF s) (aT s j)) (Dr (NF s) (aT s j)) (Dz (NF s) (aT s j)) (Dj (NF s) (aT s j)) (IN (Yo s)))) (XJ (λk=>Fp (AEG (Rc s) (AG (λl=>Lk l (DZ s) (OY s l) (nL s l))) (BO (DZ s)) (BX (BY k)) (Aj i) (Rc s) (AHI (Rc s) (AG (λl=>Lk l (DZ s) (OY s l) (nL s l))) (BP (DZ s)) (APC k j) (BM (Zh s k) (OY s j)) (BM (Zo s k) (Bg s j)) BB (ATE BB zZ (BQ s) (AP s)))) (EB k) (DZ s) (FF (BY k) (DZ s)) (IZ (DZ s) (EB k) j) (H3 (λl=>iB l (RE s (EB k) (BY k)) (xO s l))))) (uD (λk=>BKV (BD (FC (EB k) (DZ s)) (FF (BY k) (DZ s)) (IZ (DZ s) (EB k) j) (H3 (λl=>iB l (RE s (EB k) (BY k)) (xO s l)))) (BY k) (DZ s) (CR (BY k) (DZ s)) (Ln.mk (Zh s k) (Zo s k) (OY s (BY k)) (Bg s (BY k))) (AO (DR i) (AQC (AY s) (BJ s) (Zh s k) (AK (Zo s k)) (OY s (BY k)) (nL s (BY k)) (dS s) (λl=>aR l (CG s) (tQ (AFT (Zh s k) (OY s (BY k)) (Zo s k) (Bg s (BY k))) l l))) (HZ (S6 (CG s) (Ln.mk (Zh s k) (Zo s k) (OY s (BY k)) (Bg s (BY k)))) (HZ (OJ (XA s)) (AW (Wg (FJ 2000)) (Cz (NF s) Ab) (Dr (NF s) Ab) (Dz (NF s) Ab) (Dj (NF s) Ab) (IN (Yo s))) (AR (dK (NF s) (Zh s k)) (tZ (NF s) (Zo s k)) (xV (NF s) (OY s (BY k))) (zE (NF s) (Bg s (BY k))) (IN (Yo s)))) (XJ (λl=>EO (AEG (Rc s) (AG (λm=>Lk m (DZ s) (OY s m) (nL s m))) (BO (DZ s)) (BCQ l k) (Aj i) (Rc s) (AHI (Rc s) (AG (λm=>Lk m (DZ s) (OY s m) (nL s m))) (BP (DZ s)) (UY l k) (BM (Zh s l) (Zh s k)) (BM (Zo s l) (Zo s k)) BB (ATE BB zZ (BQ s) (AP s)))) (BD (FC (EB l) (DZ s)) (FF (BY l) (DZ s)) (IZ (DZ s) (EB l) j) (H3 (λm=>iB m (RE s (EB l) (BY l)) (xO s m)))) (DZ s) (BY l) (BY k))))) (XJ (λl=>EO (AEG (Rc s) (AG (λm=>Lk m (DZ s) (OY s m) (nL s m))) (BO (DZ s)) (BCQ l k) (Aj i) (Rc s) (AHI (Rc s) (AG (λm=>Lk m (DZ s) (OY s m) (nL s m))) (BP (DZ s)) (UY l k) (BM (Zh s l) (Zh s k)) (BM (Zo s l) (Zo s k)) BB (ATE BB zZ (BQ s) (AP s)))) (BD (FC (EB l) (DZ s)) (FF (BY l) (DZ s)) (IZ (DZ s) (EB l) j) (H3 (λm=>iB m (RE s (EB l) (BY l)) (xO s m)))) (DZ s) (BY l) (BY k))) (EI (λl=>QS (And (Aj i) (BQQ (Rc s) (AG (λm=>Lk m (DZ s) (OY s m) (nL s m))) (Rc s) (BP (DZ s)) (iD l k) BB (ATE BB zZ (BQ s) (AP s)))) l (DZ s) (H3 (λm=>iB m (Qz s l) (xO s m))) j)))))) (HZ (OJ (XA s)) (AW (Wg (FJ 2000)) (Cz (NF s) Ab) (Dr (NF s) Ab) (Dz (NF s) Ab) (Dj (NF s) Ab) (IN (Yo s))) (Rn (MG (NF s)) (QT (NF s)) (RU (NF s)) (SJ (NF s)) (KU (Yo s))))))):=by kernel_rfl
def okP(p:Pt):Prop:=0<=p.st/\p.st<=2000/\0<=p.fl/\p.fl<=200000
theorem CFV{l:List Pt}{p q:Pt}:q∈addP l p↔q∈l∨q=p:=by
 unfold addP;split
 ·rename_i h
  exact⟨.inl,λh2=>h2.elim id λh2=>h2 ▸ h⟩
 ·simp
theorem AUA:∀(s:List Gau) (l:List Pt) (p:Pt),p∈s.foldl addG l↔p∈l∨∃g∈s,p=⟨g.st,g.lo⟩∨p=⟨g.st,g.hi⟩
 |[],l,p=>by simp
 |g :: s,l,p=>by
  rw[List.foldl_cons,AUA s]
  simp only[addG,CFV,List.mem_cons,exists_eq_or_imp]
  constructor
  ·rintro (((h | h) | h) | h)
   ·exact .inl h
   ·exact .inr (.inl (.inl h))
   ·exact .inr (.inl (.inr h))
   ·exact .inr (.inr h)
  ·rintro (h | (h | h) | h)
   ·exact .inl (.inl (.inl h))
   ·exact .inl (.inl (.inr h))
   ·exact .inl (.inr h)
   ·exact .inr h
theorem ALJ{s:List Gau}{p:Pt}:p∈AC s↔∃g∈s,p=⟨g.st,g.lo⟩∨p=⟨g.st,g.hi⟩:=by
 unfold AC;rw[AUA];simp
theorem bS{s:List Gau}(h:∀g∈s,IT g){p:Pt}(hp:p∈AC s):okP p:=by
 obtain⟨g,hg,rfl | rfl⟩:=ALJ.1 hp
 ·obtain⟨h1,h2,h3,h4,h5⟩:=h g hg;exact⟨h1,h2,h3,by show g.lo<=_;omega⟩
 ·obtain⟨h1,h2,h3,h4,h5⟩:=h g hg;exact⟨h1,h2,by show 0<=g.hi;omega,h5⟩
theorem eG{p:Pt}(h:okP p):MI (QB p):=by
 obtain⟨h1,h2,h3,h4⟩:=h
 unfold QB;split
 ·exact⟨by show 0<=p.st-1;omega,by show p.st-1<p.st;omega,h2,h3,Int.le_refl _,h4⟩
 ·exact⟨h1,by show p.st<p.st+1;omega,by show p.st+1<=2000;omega,h3,Int.le_refl _,h4⟩
theorem aI{x:Ln}:Kv x=true↔MI x:=by
 unfold Kv riP JD MI
 simp only[Bool.and_eq_true,decide_eq_true_eq]
 constructor
 ·intro h;exact⟨by omega,by omega,by omega,by omega,by omega,by omega⟩
 ·intro h;exact⟨⟨⟨⟨⟨by omega,by omega⟩,by omega,by omega⟩,⟨by omega,by omega⟩,by omega,by omega⟩,by omega⟩,by omega⟩
theorem BUG{s:List Gau}{i:Nat}(h:i<(AC s).length):Qz s (i+1)=Qz s i ++ blk (AC s) (gD (AC s) i):=by
 unfold Qz;rw[LG h,List.flatMap_append];simp
theorem tX{s:List Gau}:Qz s (AC s).length=Lf s:=by unfold Qz Lf;rw[List.take_length]
theorem vA{s:List Gau}{i:Nat}(h:i<(AC s).length):RE s i (AC s).length=Qz s (i+1):=by
 rw[BUG h];unfold RE blk;rw[List.take_length]
theorem Vy{s:List Gau}{i j:Nat}(h:j<(AC s).length):RE s i (j+1)=RE s i j ++ (if Kv (pI (gD (AC s) i) (gD (AC s) j)) then [pI (gD (AC s) i) (gD (AC s) j)] else []):=by
 unfold RE
 rw[LG h,List.map_append,List.filter_append,<-List.cons_append,<-List.append_assoc]
 simp only[List.map_cons,List.map_nil]
 congr 1
 split
 ·rename_i h1;rw[List.filter_cons_of_pos h1];rfl
 ·rename_i h1;rw[List.filter_cons_of_neg h1];rfl
theorem CRS{s:List Gau}:∀{i:Nat},∃r,Lf s=Qz s i ++ r:=λ{i}=>by
 refine⟨((AC s).drop i).flatMap (blk (AC s)),?_⟩
 unfold Lf Qz
 rw[<-List.flatMap_append,List.take_append_drop]
theorem CFA{s:List Gau}{i j:Nat}(h:i<(AC s).length):∃r,Lf s=RE s i j ++ r:=by
 obtain⟨r,hr⟩:=CRS (s:=s) (i:=i+1)
 rw[hr,<-vA h]
 refine⟨(((AC s).drop j).map (pI (gD (AC s) i))).filter Kv ++ r,?_⟩
 unfold RE
 rw[List.take_length]
 conv=>lhs;rw[<-List.take_append_drop j (AC s)]
 simp only[List.map_append,List.filter_append,List.append_assoc,List.cons_append]
 rw[List.take_append_drop]
theorem CLW{α:Type}{f:α->Bool}{p:List α}{x:α}{r:List α}(h:∀y∈p,f y=false)(hx:f x=true):(p ++ x :: r).find? f=some x:=by
 rw[List.find?_append,List.find?_eq_none.2 (λy hy=>by simp[h y hy])]
 simp[hx]
theorem ALC{s:List Gau}{p:List Ln}{x:Ln}{r:List Ln}(h:Lf s=p ++ x :: r)(h1:∀y∈p,Lh s y=false)(hx:Lh s x=true)(h0:s.length≠0):EV s=(x,true):=by
 unfold EV;rw[if_neg h0,h,CLW h1 hx]
theorem CDA{s:List Gau}(h:s.length=0):EV s=(QB ⟨0,0⟩,true):=if_pos h
theorem BUQ{s:List Gau}(h:∀y∈Lf s,Lh s y=false)(h0:s.length≠0):EV s=(default,false):=by
 unfold EV;rw[if_neg h0,List.find?_eq_none.2 (λy hy=>by simp[h y hy])]
theorem AKE:AH ZP 69 (C_line.spec NU):=PW C_line CCD [] [] Tryz.func69 (λ_=>by kernel_rfl) (λ_=>AA W5 (AA M3 (AA Zv AD))) (λ(s:List Gau) h=>by
 show BZE s;rw[CHI]<;> dsimp only[go_sem];simp only[CC,CU,if_true]
 obtain⟨hn,hg⟩:s.length<1073741824/\∀g∈s,IT g:=h
 have nil:((s.length:Int)==0)=true->(0<=(0:Int)/\(0:Int)<=2000)/\(EV s).fst.a0=(QB ⟨0,0⟩).a0/\(EV s).fst.a1=(QB ⟨0,0⟩).a1/\(EV s).fst.b0=(QB ⟨0,0⟩).b0/\(EV s).fst.b1=(QB ⟨0,0⟩).b1/\(EV s).snd=true:=λh=>by
  rw[CDA (by simpa using h)];exact⟨by omega,rfl,rfl,rfl,rfl,rfl⟩
 have ok:∀x,MI x->s.length<4611686018427387904/\∀g:Gau,List.Mem g s->MI x/\IT g:=λx hx=>⟨by omega,λg hgs=>⟨hx,hg g hgs⟩⟩
 have he:(AC s).length<=2*s.length:=by
  have:=Vz (s:=s) s.length (Nat.le_refl _)
  unfold Hx at this;rw[List.take_length] at this;exact this
 have e_ok:∀i,i<(AC s).length->okP (gD (AC s) i):=λi hi=>bS hg (BU hi)
 refine⟨by omega,⟨0,rfl,Nat.zero_le _,λx hx=>by cases hx⟩,λi ⟨hi,hp⟩=>⟨λhlt=>?_,λhge=>?_⟩⟩
 ·have hlt:i<(AC s).length:=by omega
  obtain⟨r0,hr0⟩:=CFA (s:=s) (j:=0) hlt
  have hpe:RE s i 0=Qz s i ++ [QB (gD (AC s) i)]:=by unfold RE;simp
  have hr0':Lf s=Qz s i ++ QB (gD (AC s) i) :: r0:=by rw[hr0,hpe];simp
  refine⟨⟨by omega,by omega⟩,⟨(e_ok i hlt).1,(e_ok i hlt).2.1⟩,ok _ (eG (e_ok i hlt)),λhpa=>⟨nil,λh0=>?_⟩,λhpa=>⟨⟨⟨i,0⟩,⟨rfl,rfl,rfl,rfl⟩,hlt,Nat.zero_le _,rfl,λy hy=>?_⟩,λx ⟨hx1,hx2,hx3,hx4⟩=>⟨λhj=>?_,λhj=>?_⟩⟩⟩
  ·rw[ALC hr0' hp hpa (by simpa using h0)];exact⟨rfl,rfl,rfl,rfl,rfl⟩
  ·have hy:y∈Qz s i ++ [QB (gD (AC s) i)]:=hpe ▸ hy
   rcases List.mem_append.1 hy with hy | hy
   ·exact hp y hy
   ·rw[List.mem_singleton.1 hy];exact hpa
  ·have hj:x.j<(AC s).length:=by omega
   have step:(∀y∈RE s x.i (x.j+1),Lh s y=false)->∃z:IJ,((z.j:Int)=IntKind.i64.wrap ((x.j:Int)+1)/\(z.i:Int)=x.i/\(gD (AC s) z.i).st=(gD (AC s) x.i).st/\(gD (AC s) z.i).fl=(gD (AC s) x.i).fl)/\(z.i<(AC s).length/\z.j<=(AC s).length/\(AC s).length-z.i=(AC s).length-i/\∀y:Ln,List.Mem y (RE s z.i z.j)->Lh s y=false)/\(AC s).length-z.j<(AC s).length-x.j:=λh=>
    ⟨⟨x.i,x.j+1⟩,⟨(BF (by omega)).symm,rfl,rfl,rfl⟩,⟨hx1,hj,hx3,h⟩,by show (AC s).length-(x.j+1)<_;omega⟩
   refine⟨⟨by omega,by omega⟩,λhri=>⟨ok ⟨_,_,_,_⟩ (aI.1 hri),λhpa=>⟨nil,λh0=>?_⟩,λhpa=>step λy hy=>?_⟩,λhri=>step λy hy=>?_⟩
   ·have hri':Kv (pI (gD (AC s) x.i) (gD (AC s) x.j))=true:=hri
    obtain⟨r,hr⟩:=CFA (s:=s) (j:=x.j+1) hx1
    rw[Vy hj,if_pos hri',List.append_assoc] at hr
    rw[ALC hr hx4 hpa (by simpa using h0)];exact⟨rfl,rfl,rfl,rfl,rfl⟩
   ·have hri':Kv (pI (gD (AC s) x.i) (gD (AC s) x.j))=true:=hri
    rw[Vy hj,if_pos hri'] at hy
    rcases List.mem_append.1 hy with hy | hy
    ·exact hx4 y hy
    ·rw[List.mem_singleton.1 hy];exact hpa
   ·have hri':¬ Kv (pI (gD (AC s) x.i) (gD (AC s) x.j))=true:=by
     intro h;have h:Kv ⟨_,_,_,_⟩=true:=h;rw[hri] at h;cases h
    rw[Vy hj,if_neg hri',List.append_nil] at hy
    exact hx4 y hy
  ·have hje:x.j=(AC s).length:=by omega
   refine⟨x.i+1,(BF (by omega)).symm,⟨by omega,λy hy=>?_⟩,by omega⟩
   rw[<-vA hx1] at hy
   exact hx4 y (hje ▸ hy)
 ·have hie:i=(AC s).length:=by omega
  rw[hie,tX] at hp
  refine⟨nil,λh0=>?_⟩
  rw[BUQ hp (by simpa using h0)];exact⟨rfl,rfl,rfl,rfl,rfl⟩) (λs=>BZM 129 (CEY s) rfl rfl (AA ACO (AA Zv (AA K6 AD))) Tryz.func129 (by kernel_rfl) (by kernel_rfl)) _
end Go.Bal
