/- Package chart, with the reference: whole. -/
import Derived.Test.YtdbjalgfomknhaaGreatChZm0
import Derived.Test.YtdbjalgfomknhaaGreatChZe
set_option linter.unusedVariables false
set_option linter.unusedSimpArgs false
namespace Go.Bal
open Go Go.Sym Go.Proofs
structure CFT where
 c:Cht
 f:Int
 t:Int
def dCFT:List AVal->Heap->Option (CFT×List (Nat×Nat)×List Nat)
 |[x,.d f,.d t],H=>match tN x H with
  |some (c,e)=>some (⟨c,KN f,KN t⟩,[],e)
  |none=>none
 |_,_=>none
def whP(x:CFT)(a b:Nat):Bool:=bif bif bif decide ((gD x.c.ns a).mi>=x.f) then decide ((gD x.c.ns a).mi<(gD x.c.ns b).mi) else false then decide ((gD x.c.ns b).mi<x.t) else false then Eg x.c ⟨(a:Int),(b:Int)⟩ else false
def whR(x:CFT)(a n:Nat):Bool:=Lu (λb=>!whP x a b) n
def jW(x:CFT):Bool:=Lu (λa=>whR x a x.c.ns.length) x.c.ns.length
def zw2(x:CFT):Shape:={ α:=Nat,dflt:=0,T:=λk=>⟨[(1,.int x.f),(2,.int x.t),(3,.bptr 201 0),(7,.int k)],[(201,.live (xO x.c))]⟩,inv:=λk=>k<=x.c.ns.length/\Lu (λa=>whR x a x.c.ns.length) k=true,meas:=λk=>x.c.ns.length-k,first:=[(201,1000)] }
def zw5(x:CFT)(m:Nat):Shape:={ α:=IJ,dflt:=default,T:=λs=>⟨[(1,.int x.f),(2,.int x.t),(3,.bptr 201 0),(7,.int s.i),(8,.int s.j)],[(201,.live (xO x.c))]⟩,inv:=λs=>(s.i<x.c.ns.length/\x.c.ns.length-s.i=m/\s.j<=x.c.ns.length)/\Lu (λa=>whR x a x.c.ns.length) s.i=true/\whR x s.i s.j=true,meas:=λs=>x.c.ns.length-s.j }
def C_zWh:Ctr:={ α:=CFT,xs:=λx=>[.d (Nj x.c),.int x.f,.int x.t],val:=λx=>.bool (jW x),keep:=λ_=>[],pre:=λx=>[AP x.c=0] }
def CSK(x:CFT):Ann:={ ann 63 [(ADF,C_zLt.spec dCP)] with loops:=λid=>if id=2 then some [zw2 x] else none,inner:=λgs id=>if id=5 then some [zw5 x (gs.getD 0 0)] else none }
def CSU(x:CFT):Prop:=ES Try.prog (CSK x) BCU (AJ BCU) (C_zWh.xs x) (AD []) (.bool (jW x)) [] [] []
abbrev V0:=CFT.f
abbrev AVK:=CFT.t
abbrev Qg:=CFT.c
abbrev lU:=@List.cons DVal
abbrev AEJ:=@List.nil DVal
abbrev Di a:=AO (Qg a)
abbrev U2 a b:=lU (DVal.v (Xg a)) b
abbrev dD a b:=U2 a (U2 b AEJ)
abbrev kJ a b:=dPr (DVal.agg (dD a b))
abbrev U8 a b:=BR (Qg a) b
abbrev vN a b:=U8 a (EL b)
attribute [go_sem] V0 AVK Qg lU AEJ Di U2 dD kJ U8 vN
theorem CUT(x:CFT):(CSU x)=(HX (λi=>Be (AF (V0 x)) (AF (AVK x)) (CQ i) (KP (Qg x)) (CW i (Di x)) (EA (Lu (λj=>whR x j (Di x)) i))) (λi=>OO (Uv i (Di x) (Lu (λj=>whR x j (Di x)) i)) i (Di x) (Qn (λj=>FY (AI (AF (V0 x)) (AF (AVK x)) (Oq j i) (CQ (GU j)) (KP (Qg x))) (Fi (EL j) (Di x) i (Xo j (Di x))) (EA (Lu (λk=>whR x k (Di x)) (EL j))) (EA (whR x (EL j) (GU j))))) (tO (λj=>OO (Tb (Fi (EL j) (Di x) i (Xo j (Di x))) (EA (Lu (λk=>whR x k (Di x)) (EL j))) (whR x (EL j) (GU j))) (GU j) (Di x) (AI (Dt (EL j) (Jl j) (Di x)) (IT (tJ (vN x j) (V0 x)) (Dt (EL j) (Jl j) (Di x))) (IT (tJ (vN x j) (V0 x)) (Dt (GU j) (Iq j) (Di x))) (IT (Xw (tJ (vN x j) (V0 x)) (vN x j) (U8 x (GU j))) (Dt (GU j) (Iq j) (Di x))) (IT (Xw (Xw (tJ (vN x j) (V0 x)) (vN x j) (U8 x (GU j))) (U8 x (GU j)) (AVK x)) (Ag (Qg x) (CF (BQ (Qg x)) (BW (Qg x)) (DK (Qg x)) (BO (Qg x)) (λk=>AT k (Qg x) (AM (Qg x) k) (AN (Qg x) k) (AS (Qg x) k) (AC (Qg x) k) (AL (Qg x) k) (AR (Qg x) k) (AE (Qg x) k)) (AY (JM (kJ (Jl j) (Iq j))) (Jl j)) (AY (JF (kJ (Jl j) (Iq j))) (Iq j)) (SA (Qg x)) (EA (Yr (FQ (Qg x)) (kJ (Jl j) (Iq j)))))))) (FV (IB (Xw (Xw (tJ (vN x j) (V0 x)) (vN x j) (U8 x (GU j))) (U8 x (GU j)) (AVK x)) (tF (FQ (Qg x)) (kJ (Jl j) (Iq j)))) (DZ (jW x)) (Qn (λk=>IF (AI (AF (V0 x)) (AF (AVK x)) (Wo k j) (Zt k (GU j)) (KP (Qg x))) (Tb (Fi (EL k) (Di x) i (Xo k (Di x))) (EA (Lu (λl=>whR x l (Di x)) (EL k))) (whR x (EL k) (GU k))) (Di x) (GU k) (GU j)))) (KI (λk=>FH (AF (V0 x)) (AH (AF (AVK x)) (BA k (EL j)) (KP (Qg x))) (Uv k (Di x) (Lu (λl=>whR x l (Di x)) k)) (Di x) k i)))) (EA (jW x)))):=by kernel_rfl
theorem CMA{c:Cht}(h0:AP c=0){a b:Nat}(ha:a<c.ns.length)(hb:b<c.ns.length)(h:(gD c.ns a).mi<(gD c.ns b).mi):Ca c ⟨(a:Int),(b:Int)⟩=true:=by
 have hn:=(KB.1 h0).n
 unfold Ca tW nA nB wr
 rw[Ap (by omega) (by omega)]
 show (bif PN (a:Int) 0 ((c.ns.length:Int)-1)&&PN (b:Int) 0 ((c.ns.length:Int)-1) then bif !((a:Int)==(b:Int)&&(b:Int)==(a:Int)) then decide ((gD c.ns (a:Int).toNat).mi<(gD c.ns (b:Int).toNat).mi) else false else false)=true
 rw[IX.2 (by omega),IX.2 (by omega),Int.toNat_natCast,Int.toNat_natCast,decide_eq_true h]
 have:¬ (a:Int)=(b:Int):=λe=>by
  have:a=b:=by omega
  subst this;exact absurd h (Int.lt_irrefl _)
 rw[show ((a:Int)==(b:Int)&&(b:Int)==(a:Int))=false by simp;omega];rfl
theorem DAX(x:CFT)(h0:AP x.c=0):CSU x:=by
 have hn:=(KB.1 h0).n
 have hd:∀a b:Int,dPr (.agg [.v (.int .i64 a),.v (.int .i64 b)])=⟨a,b⟩:=λ_ _=>rfl
 rw[CUT]<;> delta MD N6 tJ Iv BH BK DY RD RU EM EO CH AB CJ CE AY CG CW FV NL HD KA UI IG EB FX EC GY GX GR GG DV FO FU KI LW US JM JF Yr tF Qn EL GU tO V0 AVK Qg lU AEJ AH CK IW AX JE AI BC AV AF IK IN BI AQ JB BB AC BZ CN BF MC AE AO BD HK DD LZ AZ DC BR BE BS BJ JQ AR BQ LY SZ BV HF CI OC EQ AS BM CY BY FL CF IE HR BX KL CU DN MW GD CX OT OR OE FQ DF DU HY DR OU HG PC OD EA DT KQ FE FG FW AT MJ ZS IT DX OF EZ GT JJ BA CV GZ Xg DZ BO BW JH FI AL AN AM GP ID NP FK DK FT QD HI IB KH Td CQ Fi JY FH FY U2 Dt JK Fq Ew IF ON HX Iq Jl UC KP MO SA Di Xo Oq OO dD Vq U8 Ag Uv Wo Tb Be Xw kJ vN Zt;simp only[CC,eq_self,implies_true,forall_const,FR,hd]
 refine⟨⟨0,rfl,Nat.zero_le _,rfl⟩,λk ⟨k1,k2⟩=>⟨λhlt=>⟨⟨⟨k,0⟩,⟨rfl,rfl⟩,⟨by show k<_;omega,rfl,Nat.zero_le _⟩,k2,rfl⟩,λs ⟨⟨s1,s2,s3⟩,s4,s5⟩=>⟨λhj=>?_,λhj=>?_⟩⟩,λhge=>?_⟩⟩
 ·have hj:s.j<x.c.ns.length:=by omega
  refine⟨⟨by omega,λ_=>by omega,λ_=>by omega,λ_=>by omega,λhc=>⟨h0,?_⟩⟩,λhb=>?_,λhb=>⟨⟨s.i,s.j+1⟩,⟨rfl,(II (by omega)).symm⟩,⟨⟨s1,s2,by show s.j+1<=_;omega⟩,s4,?_⟩,by show x.c.ns.length-(s.j+1)<x.c.ns.length-s.j;omega⟩⟩
  ·refine CMA h0 s1 hj ?_
   by_cases q1:(gD x.c.ns s.i).mi>=x.f
   ·by_cases q2:(gD x.c.ns s.i).mi<(gD x.c.ns s.j).mi
    ·exact q2
    ·rw[decide_eq_true q1,decide_eq_false q2] at hc;cases hc
   ·rw[decide_eq_false q1] at hc;cases hc
  ·have e:whP x s.i s.j=true:=hb
   have e1:whR x s.i x.c.ns.length=false:=nP hj (by show (!whP x s.i s.j)=false;rw[e];rfl)
   exact nP s1 e1
  ·have e:whP x s.i s.j=false:=hb
   show (Lu (λb=>!whP x s.i b) s.j&&!whP x s.i s.j)=true
   rw[e,show Lu (λb=>!whP x s.i b) s.j=true from s5];rfl
 ·have hj:s.j=x.c.ns.length:=by omega
  refine⟨s.i+1,(II (by omega)).symm,⟨by omega,?_⟩,by omega⟩
  show (Lu (λa=>whR x a x.c.ns.length) s.i&&whR x s.i x.c.ns.length)=true
  rw[s4,<-hj,s5];rfl
 ·obtain rfl:k=x.c.ns.length:=by omega
  exact k2
theorem CUB:AW Try.prog BBH (C_zWh.spec dCFT):=Je C_zWh CSK [] [] BXK (λ_=>by kernel_rfl) (λ_=>AA BPM AK) (λx h=>DAX x h) (λ_=>Kp rfl rfl) _
end Go.Bal

namespace Go.Bal
open Go Go.Sym Go.Proofs
def iG(c:Cht):List Int:=NK (c.ms.length-1) λi=>(i:Int)
def dpV(c:Cht)(P:Nat->Int)(f:Nat):Nat->Int
 |0=>wr ((c.ms.length:Int)+1)
 |k+1=>bif (bif jW ⟨c,(f:Int),((f+1+k:Nat):Int)⟩ then decide (wr (P (f+1+k)+1)<dpV c P f k) else false) then wr (P (f+1+k)+1) else dpV c P f k
def K0(c:Cht):Nat->Nat->Int
 |0,_=>0
 |j+1,i=>bif decide (i=c.ms.length-1-j) then dpV c (K0 c j) (c.ms.length-1-j) (j+1) else K0 c j i
def A5(c:Cht):Int×Int:=bif AP c==0 then bif DJ ⟨c,iG c⟩==0 then (wr (K0 c c.ms.length 0-1),0) else (0,6) else (0,AP c)
def zx6n(c:Cht):Shape:={ α:=One,dflt:=default,T:=λ_=>⟨[(1,.bptr 201 0),(5,.d Ej),(6,.int 0)],[(201,.live (xO c))]⟩,inv:=λ_=>AP c=0,meas:=λ_=>50,first:=[(201,1000)] }
def zx6o(c:Cht):Shape:={ α:=Nat,dflt:=0,T:=λk=>⟨[(1,.bptr 201 0),(5,.own 202 1 0 k),(6,.int k)],[(201,.live (xO c)),(202,.live (.row 1 k λi=>Gk (i:Int)))]⟩,inv:=λk=>AP c=0/\1<=k/\k<=c.ms.length-1,meas:=λk=>40-k,again:=[(202,9048)] }
def zx9(c:Cht):Shape:={ α:=One,dflt:=default,T:=λ_=>⟨[(1,.bptr 201 0),(5,.d (GB (iG c)))],[(201,.live (xO c))]⟩,inv:=λ_=>AP c=0,meas:=λ_=>0,ffz:=[202] }
def zxR(c:Cht)(f:Nat->Int):List (Nat×HCell):=[(201,.live (xO c)),(203,.live (.row 1 (c.ms.length+1) λi=>Gk (f i)))]
def zx14(c:Cht):Shape:={ α:=Nat,dflt:=0,T:=λj=>⟨[(1,.bptr 201 0),(9,.own 203 1 0 (c.ms.length+1)),(10,.int ((c.ms.length:Int)-1-j))],zxR c (K0 c j)⟩,inv:=λj=>(AP c=0/\DJ ⟨c,iG c⟩=0)/\j<=c.ms.length,meas:=λj=>c.ms.length-j,first:=[(203,13064)] }
def zx18(c:Cht)(m:Nat):Shape:={ α:=IJ,dflt:=default,T:=λs=>⟨[(1,.bptr 201 0),(9,.own 203 1 0 (c.ms.length+1)),(10,.int ((c.ms.length:Int)-1-s.i)),(11,.int ((c.ms.length:Int)-s.i+s.j))],zxR c λq=>bif decide (q=c.ms.length-1-s.i) then dpV c (K0 c s.i) (c.ms.length-1-s.i) s.j else K0 c s.i q⟩,inv:=λs=>(AP c=0/\DJ ⟨c,iG c⟩=0)/\s.i<c.ms.length/\c.ms.length-s.i=m/\s.j<=s.i+1,meas:=λs=>50-s.j }
def C_zFw:Ctr:={ α:=Cht,xs:=λc=>[.d (Nj c)],val:=λc=>.tup [.int (A5 c).1,.int (A5 c).2],keep:=λ_=>[],pre:=λc=>[c.ms.length<4611686018427387904/\c.ns.length<4611686018427387904] }
def CQO(c:Cht):Ann:={ ann 94 [(Wd,C_Check.spec iT),(Wi,C_Times.spec B6),(BBH,C_zWh.spec dCFT)] with mt:=λid=>id==8,loops:=λid=>if id=6 then some [zx6n c,zx6o c] else if id=14 then some [zx14 c] else none,inner:=λgs id=>if id=18 then some [zx18 c (gs.getD 0 0)] else none,cut:=λid=>if id=9 then some [zx9 c] else none }
def CRZ(c:Cht):Prop:=ES Try.prog (CQO c) AQW (AJ AQW) (C_zFw.xs c) (AD []) (.tup [.int (A5 c).1,.int (A5 c).2]) [] [] []
abbrev AVU:=@Prod.snd Int Int
abbrev BCA:=CFT.mk
abbrev pV a:=(@Prod.fst Int Int) (A5 a)
abbrev Ce a:=KJ (AX a)
abbrev E5 a b:=Pf (XT a (iG b))
abbrev qV a b c:=K0 a (EL b) c
abbrev qI a b c d:=dpV a b c (GU d)
abbrev AEF a b c:=IG (IG a b) c
abbrev Ks a b:=AEF (AX a) 1 (EL b)
abbrev oA a b:=K0 a (EL b)
abbrev xL a:=BI (Ce a)
abbrev qH a b:=ARO a 1 b
abbrev Jn a b:=qH a (EL b)
abbrev Il a b:=UI (ADY a (Jl b)) (Iq b)
abbrev wQ a b:=CE (EL a) b
abbrev D8 a:=HR (MZ a)
attribute [go_sem] AVU BCA pV Ce E5 qV qI AEF Ks oA xL qH Jn Il wQ D8
theorem CYC(c:Cht):(CRZ c)=(Ic (TY c (λi=>AT i c (AM c i) (AN c i) (AS c i) (AC c i) (AL c i) (AR c i) (AE c i)) (RQ c) (IL c)) (Kl c) (FG (pV c)) (AY (AVU (A5 c)) (Ao c)) (And (Lf (Mv AG EY BP (KP c) (GZ c)) (Un (GZ c) (NL (HR 0) (MZ c)) (PF kB Xs Hh He 8) (λi=>DT AG (Ex (LP i) (Fz i) c c (Co c (LP i) (λj=>AV j i (CQ j)))) (eI (GZ c) i (kZ c)) (MJ 40 i 50)) (Xn (YX (Bn (iG c)) (KP c)) (GZ c))) (λi=>Un (eI (GZ c) i (kZ c)) (NL (FE i) (MZ c)) (PF (qY (BI i) i) Xs Cd (Ep i) (Es i 8)) (λj=>Jj (Ex (PI j i) (BA j i) c c (Co c (PI j i) (λk=>AV k j (FL k (OZ k i (CG k) (CG i)))))) (eI (GZ c) j (kZ c)) 40 j i) (Mv (EV (iG c) i) (KC i) (AB (λj=>Bd j (iG c) j (CG (BG j)))) (KP c) (GZ c)))) (Qv (GZ c) (LQ (BY c) (DF c) (BM c) (BV c) (BQ c) (BB (BW c) (DK c) (BO c) (AB (λi=>AT i c (AM c i) (AN c i) (AS c i) (AC c i) (AL c i) (AR c i) (AE c i))) (HL (iG c)) (QW (iG c)) (RQ c) (IL c) (PG (iG c))) (EZ (MG (ZD (qG c (iG c)))) (FG (pV c)) (AY (AVU (A5 c)) 6) (Be (BX (D8 c)) (AF (D8 c)) (HD (D8 c) 9223372036854775807) (HD (Qu (CG 8) (D8 c)) 281474976710656) (KI (λi=>DT AG (Ex (CH (Ce c) (HM (D8 c))) (Ld (qH c i) (MZ c)) c c (Co c (CH (Ce c) (HM (D8 c))) (λj=>AV j (Ce c) (FG (K0 c i j))))) (And (GZ c) (E5 c c)) (eE i c))) (AB (λi=>PY (BL (GZ c) (E5 c c) (eE i c)) (Lj (qH c i)) (AH (WY (qH c i) (Ce c) (XZ (qH c i) (Ce c))) (Qn (λj=>VD (CS AG (xL c) (AY (Jn c j) (qH c i)) (AY (Il c j) (HR (qH c i))) (BY c) (DF c) (Co c (xL c) (λk=>AV k (Ce c) (AY (NU k (Ks c j) (qI c (oA c j) (Ks c j) j) (qV c j k)) (YD k (qH c i) (D8 c) (K0 c i k)))))) (And (GZ c) (E5 c c)) (wQ j (AX c)) (FI (AX c) (EL j) i) (GU j) (KJ (EL j)))) (tO (λj=>PY (BL (GZ c) (E5 c c) (Fi (EL j) (AX c) i (Xo j (KJ (EL j))))) (hd7 (Il c j) (MZ c)) (BL (BY c) (CS (DF c) (BM c) (BV c) (BQ c) (BW c) (DK c) (IA (BO c) (λk=>AT k c (AM c k) (AN c k) (AS c k) (AC c k) (AL c k) (AR c k) (AE c k)) (AF (Jn c j)) (AF (Il c j)) (SA c) (UV (jW (BCA (FQ c) (Jn c j) (Il c j))) (Il c j) (Ce c)) (IT (jW (BCA (FQ c) (Jn c j) (Il c j))) (XZ (Il c j) (Ce c))) (UV (jW (BCA (FQ c) (Jn c j) (Il c j))) (Jn c j) (Ce c)) (IT (jW (BCA (FQ c) (Jn c j) (Il c j))) (XZ (Jn c j) (Ce c))))) (EZ (Xw (jW (BCA (FQ c) (Jn c j) (Il c j))) (HR (NU (ZX (Il c j)) (Ks c j) (qI c (oA c j) (Ks c j) j) (qV c j (ZX (Il c j))))) (NU (ZX (Jn c j)) (Ks c j) (qI c (oA c j) (Ks c j) j) (qV c j (ZX (Jn c j))))) (WY (Il c j) (Ce c) (GT (ZX (Il c j)) (Ce c) (HZ (Jn c j) (Ce c)) (XZ (Jn c j) (Ce c)))) (Qn (λk=>Fv (CS AG (xL c) (AY (Jn c k) (Jn c j)) (AY (Il c k) (HR (Il c j))) (BY c) (DF c) (Co c (xL c) (λl=>AV l (Ce c) (AY (NU l (Ks c k) (qI c (oA c k) (Ks c k) k) (qV c k l)) (YD l (Jn c j) (HR (NU (ZX (Il c j)) (Ks c j) (qI c (oA c j) (Ks c j) j) (qV c j (ZX (Il c j))))) (NU l (Ks c j) (qI c (oA c j) (Ks c j) j) (qV c j l))))))) (BL (GZ c) (E5 c c) (Fi (EL k) (AX c) i (Xo k (KJ (EL k))))) (GU k) (GU j))) (Qn (λk=>Fv (CS AG (xL c) (AY (Jn c k) (Jn c j)) (AY (Il c k) (HR (Il c j))) (BY c) (DF c) (Co c (xL c) (λl=>AV l (Ce c) (AY (NU l (Ks c k) (qI c (oA c k) (Ks c k) k) (qV c k l)) (NU l (Ks c j) (qI c (oA c j) (Ks c j) j) (qV c j l)))))) (BL (GZ c) (E5 c c) (Fi (EL k) (AX c) i (Xo k (KJ (EL k))))) (GU k) (GU j))))) (KI (λk=>Jj (Ex (xL c) (Ld (qH c k) (Jn c j)) c c (Co c (xL c) (λl=>AV l (Ce c) (AY (K0 c k l) (NU l (Ks c j) (qI c (oA c j) (Ks c j) j) (qV c j l)))))) (BL (GZ c) (E5 c c) (eE k c)) (AX c) k i))))) (Qx (EX WZ 0 (Ce c) (XZ 0 (Ce c))) (Ld (pV c) (K0 c i (ZX 0))) (AVU (A5 c))))))))))):=by kernel_rfl
theorem DDB(c:Cht)(h:c.ms.length<4611686018427387904/\c.ns.length<4611686018427387904):CRZ c:=by
 have w01:IntKind.i64.wrap ((0:Int)+1)=1:=rfl
 rw[CYC]<;> delta MD N6 tJ hd7 Iv BH BK DY RD RU Mr EM EO CH AB CJ CE AY CG MY CW FV NL HD KA UI IG EB FX EC GY GX GR GG DV FO FU KI IP FP FS El LW US HM IV QR ED NR WW Qu Qr Qj Lg bX XT Ek Qn EL GU tO T7 AVU BCA AH CK IW AX JE AI WE BC AV AF IK IN BI GJ MK YX AQ WV JB BB AC BZ CN BF AEF MC AE AO BD HK DD LZ AZ DC BG BR BE BS BJ JQ AR BQ WQ LY SZ BV HF CI OC EQ GQ BL AS BM CY BY ER FL EV CF AG IE HR BX TV KL NU CU GW KJ HO DN MW GD CX OT OR OE LH FQ DF DU HY IC MZ DR OU HG PC OD EA DT KQ oR HH FE FG FW AT ADY IZ HN ZX MJ JA ZN ZS IT OF EZ GT EX JJ BA BP NF CS WX GZ HU BO BW JH FI AL AN AM LJ KO GP ID NP ARO DK IU Kr HL FT QD Mc Gb VW XI NV VD HI IB SN Td CQ HZ QE MR Fi EY PO FH IL OZ VU Pf KC Fq Ew IF IA ON qG PF Iq HV Jl LF PY KP Ce Ao MG PG QW LP kZ PI Ev SA YM RQ qH Xo ZD Ik LQ UV Es Bf YH WZ Cd XZ Co Jn Hh He Il Qv Ep YD Bn Lj Xn WY TY Ex Ks Xk Zy qY Bd eI Ld Kl Fz Fv Be Lf Xs oA eE xL pV Ic Xw qV D8 Un Mv qI Qx wQ E5 kB Jj;simp only[CC,eq_self,implies_true,forall_const,FR,AGQ,w01]
 refine⟨h,λq=>?_,λq=>?_⟩
 ·have q':(AP c==0)=false:=by simpa using q
  unfold A5;rw[q'];exact⟨rfl,rfl⟩
 have h0:AP c=0:=by simpa using q
 obtain⟨m1,m2⟩:=(KB.1 h0).m
 have zl:(iG c).length=c.ms.length-1:=rng_length _ _
 refine⟨⟨⟨default,h0⟩,λ_=>⟨λhlt=>⟨⟨by omega,by omega,by omega,by omega,by omega⟩,1,⟨rfl,rfl,rfl,λi hi=>by omega⟩,⟨h0,by omega,by omega⟩,by omega⟩,λhge=>⟨default,by omega,h0⟩⟩,λk ⟨_,k1,k2⟩=>?_⟩,λ_=>⟨⟨h.1,h.2,by omega⟩,λhr=>?_,λhr=>?_⟩⟩
 ·have wk:IntKind.i64.wrap ((k:Int)+1)=((k+1:Nat):Int):=II (by omega)
  rw[wk]
  refine⟨λhlt=>⟨⟨by omega,by omega,by omega,by omega⟩,k+1,⟨rfl,rfl,rfl,λi hi=>?_⟩,⟨h0,by omega,by omega⟩,by omega⟩,λhge=>⟨default,⟨by omega,by omega,λj hj=>FF _ _ _ (by omega)⟩,h0⟩⟩
  by_cases e:i<k
  ·rw[decide_eq_true e];rfl
  ·rw[decide_eq_false e];show (i:Int)=(k:Int);omega
 ·have e:(DJ ⟨c,iG c⟩==0)=false:=by simpa using hr
  unfold A5;rw[h0,e];exact⟨rfl,rfl⟩
 have r0:DJ ⟨c,iG c⟩=0:=by simpa using hr
 have wn:IntKind.i64.wrap ((c.ms.length:Int)+1)=(c.ms.length:Int)+1:=Ap (by omega) (by omega)
 have wn2:IntKind.i64.wrap ((c.ms.length:Int)-1)=(c.ms.length:Int)-1:=Ap (by omega) (by omega)
 simp only[wn,wn2]
 refine⟨⟨by omega,by omega,by omega⟩,⟨0,⟨by omega,by omega,by omega,λi _=>rfl⟩,⟨h0,r0⟩,Nat.zero_le _⟩,λj ⟨_,j1⟩=>⟨λhlt=>⟨⟨by omega,by omega⟩,⟨⟨j,0⟩,⟨rfl,?_,λi hi=>?_⟩,⟨h0,r0⟩,by show j<_;omega,rfl,Nat.zero_le _⟩,λs ⟨_,s1,s2,s3⟩=>?_⟩,λhge=>?_⟩⟩
 ·rw[Ap (by omega) (by omega)]
  show (c.ms.length:Int)-(j:Int)+((0:Nat):Int)=_
  omega
 ·show (bif decide (i=c.ms.length-1-j) then wr ((c.ms.length:Int)+1) else K0 c j i)=_
  unfold wr
  rw[wn,show ((c.ms.length:Int)-1-(j:Int)).toNat=c.ms.length-1-j by omega]
 ·have i1:((c.ms.length:Int)-1-(s.i:Int)).toNat=c.ms.length-1-s.i:=by omega
  have i2:((c.ms.length:Int)-(s.i:Int)+(s.j:Int)).toNat=c.ms.length-s.i+s.j:=by omega
  have i3:decide (c.ms.length-s.i+s.j=c.ms.length-1-s.i)=false:=decide_eq_false (by omega)
  have i4:decide (c.ms.length-1-s.i=c.ms.length-1-s.i)=true:=decide_eq_true rfl
  have dv:dpV c (K0 c s.i) (c.ms.length-1-s.i) (s.j+1)=bif (bif jW ⟨c,(c.ms.length:Int)-1-(s.i:Int),(c.ms.length:Int)-(s.i:Int)+(s.j:Int)⟩ then decide (IntKind.i64.wrap (K0 c s.i (c.ms.length-s.i+s.j)+1)<dpV c (K0 c s.i) (c.ms.length-1-s.i) s.j) else false) then IntKind.i64.wrap (K0 c s.i (c.ms.length-s.i+s.j)+1) else dpV c (K0 c s.i) (c.ms.length-1-s.i) s.j:=by
   have a1:((c.ms.length-1-s.i:Nat):Int)=(c.ms.length:Int)-1-(s.i:Int):=by omega
   have a2:((c.ms.length-1-s.i+1+s.j:Nat):Int)=(c.ms.length:Int)-(s.i:Int)+(s.j:Int):=by omega
   have a3:c.ms.length-1-s.i+1+s.j=c.ms.length-s.i+s.j:=by omega
   show (bif (bif jW ⟨c,((c.ms.length-1-s.i:Nat):Int),((c.ms.length-1-s.i+1+s.j:Nat):Int)⟩ then decide (wr (K0 c s.i (c.ms.length-1-s.i+1+s.j)+1)<_) else false) then wr (K0 c s.i (c.ms.length-1-s.i+1+s.j)+1) else _)=_
   rw[a1,a2,a3];rfl
  simp only[i1,i2,i3,i4,decide_true,cond_true,cond_false]
  refine⟨λhk=>⟨⟨h0,λ_=>by omega,λ_=>by omega,λ_=>by omega,λ_=>by omega⟩,λhc=>⟨⟨by omega,by omega,by omega,by omega⟩,⟨s.i,s.j+1⟩,⟨rfl,?_,λi hi=>?_⟩,⟨⟨h0,r0⟩,s1,s2,by show s.j+1<=s.i+1;omega⟩,by show 50-(s.j+1)<50-s.j;omega⟩,λhc=>⟨⟨s.i,s.j+1⟩,⟨rfl,?_,λi hi=>?_⟩,⟨⟨h0,r0⟩,s1,s2,by show s.j+1<=s.i+1;omega⟩,by show 50-(s.j+1)<50-s.j;omega⟩⟩,λhk=>⟨s.i+1,⟨?_,λi hi=>?_⟩,⟨⟨h0,r0⟩,by omega⟩,by omega⟩⟩
  ·rw[Ap (by omega) (by omega)]
   show (c.ms.length:Int)-(s.i:Int)+((s.j+1:Nat):Int)=_
   omega
  ·show (bif decide (i=c.ms.length-1-s.i) then dpV c (K0 c s.i) (c.ms.length-1-s.i) (s.j+1) else K0 c s.i i)=_
   rw[dv,hc]
   cases decide (i=c.ms.length-1-s.i)<;>rfl
  ·rw[Ap (by omega) (by omega)]
   show (c.ms.length:Int)-(s.i:Int)+((s.j+1:Nat):Int)=_
   omega
  ·show (bif decide (i=c.ms.length-1-s.i) then dpV c (K0 c s.i) (c.ms.length-1-s.i) (s.j+1) else K0 c s.i i)=_
   rw[dv,hc];rfl
  ·rw[Ap (by omega) (by omega)];omega
  ·have e:s.j=s.i+1:=by omega
   rw[e];rfl
 ·obtain rfl:j=c.ms.length:=by omega
  have e:A5 c=(wr (K0 c c.ms.length 0-1),0):=by unfold A5;rw[h0,r0];rfl
  rw[e]
  refine⟨⟨by omega,?_⟩,rfl,rfl⟩
  show (0:Int).toNat<_
  omega
theorem CUQ:AW Try.prog APN (C_zFw.spec iT):=Je C_zFw CQO [] [] BNQ (λ_=>by kernel_rfl) (λ_=>AA dW (AA L0 (AA CUB AK))) (λc h=>DDB c h) (λ_=>Kp rfl rfl) _
end Go.Bal
