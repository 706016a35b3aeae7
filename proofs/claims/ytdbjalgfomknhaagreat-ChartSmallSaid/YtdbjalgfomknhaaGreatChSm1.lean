/- ChartSmall: its charts, plainly. -/
import Derived.Test.YtdbjalgfomknhaaGreatChSm0
import Derived.Test.YtdbjalgfomknhaaGreatSym12
set_option linter.unusedVariables false
set_option linter.unusedSimpArgs false
namespace Go.Bal
open Go Go.Sym Go.Proofs
def csV:List Int:=[-3000001,-3000000,-1000001,-1000000,-100000001,-100000000,-1,0,1,2,3,9,10,11,12,13,30,39,40,99,100,120,121,310,320,321,410,600,601,700,1000,1001,10000,10001,10000000,10000001,100000000,100000001,3000000,3000001,9223372036854775807,-9223372036854775808]
def csN:List Int:=[0,1,2,20,21,22,39,40,41,42]
def csNn:List Nat:=[0,1,2,20,21,22,39,40,41,42]
def csOk(n:Nat):Prop:=n∈csNn
def csLg(k:Nat):List Mk:=NK k λi=>⟨3*(i:Int),(i:Int)⟩
def csLn(n:Nat):List Nt:=if 1<n then [⟨(n:Int)-1,⟨5000,5100⟩,⟨-3000000,3000000⟩⟩,⟨0,⟨0,9⟩,⟨0,1000⟩⟩] else []
def csTm(k:Nat):List Mk:=NK k λi=>⟨(i:Int),0⟩
def U4(k:Nat):List Nt:=NK k λi=>⟨(i:Int),⟨100*(i:Int),100*(i:Int)+(i:Int).tmod 2⟩,⟨0,1000⟩⟩
def P7(k:Nat):List Int:=NK k λi=>(i:Int)
def Fl(n:Nat):Cht:=⟨⟨10,12⟩,500,10,5,csLg n,csLn n⟩
def Nl(n:Nat):Cht:=⟨⟨10,12⟩,500,10,5,csTm (min n 40),U4 (min n 22)⟩
theorem ALA{n:Nat}(h:csOk n):n<=42:=by
 have:∀n∈csNn,n<=42:=by decide
 exact this n h
theorem BSL{i:Nat}(h:i<10):csOk (gD csN i).toNat/\(((gD csN i).toNat:Nat):Int)=gD csN i:=by
 have:∀i:Fin 10,(gD csN i.1).toNat∈csNn/\(((gD csN i.1).toNat:Nat):Int)=gD csN i.1:=by decide +kernel
 exact this ⟨i,h⟩
theorem CZN{n:Nat}(h:csOk n):(AP (Fl n)==0)=(decide (0<n)&&decide (n<41)):=by
 have:∀n∈csNn,(AP (Fl n)==0)=(decide (0<n)&&decide (n<41)):=by decide +kernel
 exact this n h
theorem CZK{n:Nat}(h:csOk n):(AP (Nl n)==0)=(decide (0<n)&&decide (n<21)):=by
 have:∀n∈csNn,(AP (Nl n)==0)=(decide (0<n)&&decide (n<21)):=by decide +kernel
 exact this n h
theorem CWA(n:Nat):sp12 (Fl n):=λ_ _=>by
 show (csLn n).length<=12
 unfold csLn
 split
 ·exact (by decide:2<=12)
 ·exact Nat.zero_le _
theorem CTW{n:Nat}(h:csOk n):sp12 (Nl n):=by
 have:∀n∈csNn,bigV (Nl n)=false->(AP (Nl n)==0)=true->(Nl n).ns.length<=12:=by decide +kernel
 exact λa b=>this n h a (by rw[b];rfl)
theorem BKA(n k:Nat):QC (n:Int) (k:Int)=((min n k:Nat):Int):=by
 unfold QC;split<;>omega
theorem AXF{α:Type}[Inhabited α](f:Nat->α){k i:Nat}(hi:i<k+1):gD (NK (k+1) f) i=bif decide (i<k) then gD (NK k f) i else f k:=by
 rw[FF _ _ _ hi]
 by_cases h:i<k
 ·rw[decide_eq_true h,FF _ _ _ h];rfl
 ·obtain rfl:i=k:=by omega
  rw[decide_eq_false h];rfl
theorem BWX{k i:Nat}(hk:k<1000)(hi:i<k+1):((gD (csLg (k+1)) i).pl=bif decide (i<k) then (gD (csLg k) i).pl else IntKind.i64.wrap (3*(k:Int)))/\(gD (csLg (k+1)) i).ht=bif decide (i<k) then (gD (csLg k) i).ht else (k:Int):=by
 have e:gD (csLg (k+1)) i=_:=AXF _ hi
 rw[e,show IntKind.i64.wrap (3*(k:Int))=3*(k:Int) from Ap (by omega) (by omega)]
 cases decide (i<k)<;>exact⟨rfl,rfl⟩
theorem BWV{k i:Nat}(hi:i<k+1):((gD (csTm (k+1)) i).pl=bif decide (i<k) then (gD (csTm k) i).pl else (k:Int))/\(gD (csTm (k+1)) i).ht=bif decide (i<k) then (gD (csTm k) i).ht else 0:=by
 have e:gD (csTm (k+1)) i=_:=AXF _ hi
 rw[e]
 cases decide (i<k)<;>exact⟨rfl,rfl⟩
theorem BXF{k i:Nat}(hi:i<k+1):gD (P7 (k+1)) i=bif decide (i<k) then gD (P7 k) i else (k:Int):=AXF _ hi
theorem BXA{k i:Nat}(hk:k<1000)(hi:i<k+1):((gD (U4 (k+1)) i).mi=bif decide (i<k) then (gD (U4 k) i).mi else (k:Int))/\((gD (U4 (k+1)) i).t.lo=bif decide (i<k) then (gD (U4 k) i).t.lo else IntKind.i64.wrap (100*(k:Int)))/\((gD (U4 (k+1)) i).t.hi=bif decide (i<k) then (gD (U4 k) i).t.hi else IntKind.i64.wrap (IntKind.i64.wrap (100*(k:Int))+(k:Int).tmod 2))/\((gD (U4 (k+1)) i).s.lo=bif decide (i<k) then (gD (U4 k) i).s.lo else 0)/\(gD (U4 (k+1)) i).s.hi=bif decide (i<k) then (gD (U4 k) i).s.hi else 1000:=by
 have e:gD (U4 (k+1)) i=_:=AXF _ hi
 have q1:=Int.tmod_nonneg 2 (show (0:Int)<=(k:Int) by omega)
 have q2:=Int.tmod_lt_of_pos (k:Int) (show (0:Int)<2 by omega)
 rw[e,show IntKind.i64.wrap (100*(k:Int))=100*(k:Int) from Ap (by omega) (by omega),show IntKind.i64.wrap (100*(k:Int)+(k:Int).tmod 2)=100*(k:Int)+(k:Int).tmod 2 from Ap (by omega) (by omega)]
 cases decide (i<k)<;>exact⟨rfl,rfl,rfl,rfl,rfl⟩
theorem AJS(k:Nat):(csLg k).length=k:=rng_length _ _
theorem AYM(k:Nat):(csTm k).length=k:=rng_length _ _
theorem AZQ(k:Nat):(U4 k).length=k:=rng_length _ _
theorem AHX(k:Nat):(P7 k).length=k:=rng_length _ _
theorem CMT{n:Nat}(hn:1<n)(hn2:n<1000):csLn n=[⟨IntKind.i64.wrap ((n:Int)-1),⟨5000,5100⟩,⟨-3000000,3000000⟩⟩,⟨0,⟨0,9⟩,⟨0,1000⟩⟩]:=by
 unfold csLn
 rw[if_pos hn,show IntKind.i64.wrap ((n:Int)-1)=(n:Int)-1 from Ap (by omega) (by omega)]
theorem CON{n:Nat}(hn:¬1<n):csLn n=[]:=by unfold csLn;rw[if_neg hn]
theorem BZI(n:Nat)(A B:Nat->Int):∃l:List Mk,l.length=n/\∀i,i<l.length->(gD l i).pl=A i/\(gD l i).ht=B i:=
 ⟨NK n λi=>⟨A i,B i⟩,rng_length _ _,λi hi=>by rw[rng_length] at hi;rw[FF _ _ _ hi];exact⟨rfl,rfl⟩⟩
theorem BYB(n:Nat)(A B C D E:Nat->Int):∃l:List Nt,l.length=n/\∀i,i<l.length->(gD l i).mi=A i/\(gD l i).t.lo=B i/\(gD l i).t.hi=C i/\(gD l i).s.lo=D i/\(gD l i).s.hi=E i:=
 ⟨NK n λi=>⟨A i,⟨B i,C i⟩,⟨D i,E i⟩⟩,rng_length _ _,λi hi=>by rw[rng_length] at hi;rw[FF _ _ _ hi];exact⟨rfl,rfl,rfl,rfl,rfl⟩⟩
theorem CBJ(n:Nat)(A B:Nat->Int):∃l:List Pr,l.length=n/\∀i,i<l.length->(gD l i).a=A i/\(gD l i).b=B i:=
 ⟨NK n λi=>⟨A i,B i⟩,rng_length _ _,λi hi=>by rw[rng_length] at hi;rw[FF _ _ _ hi];exact⟨rfl,rfl⟩⟩
theorem AIG(n:Nat)(A:Nat->Int):∃l:List Int,l.length=n/\∀i,i<l.length->gD l i=A i:=
 ⟨NK n A,rng_length _ _,λi hi=>by rw[rng_length] at hi;exact FF _ _ _ hi⟩
end Go.Bal

namespace Go.Bal
open Go Go.Sym Go.Proofs
def BAL(m:Nat)(l:List Int):HCell:=.live (.row 1 m λj=>Gk (gD l j))
def csMk(m:Nat)(l:List Mk):HCell:=.live (.row 2 m λj=>eMk (gD l j))
def csNt(m:Nat)(l:List Nt):HCell:=.live (.row 5 m λj=>eNt (gD l j))
def csPr(m:Nat)(l:List Pr):HCell:=.live (.row 2 m λj=>ePr (gD l j))
def csBx(x:Int):HCell:=.live (.box [.int x])
def csC(c:Cht)(x y:AVal):HCell:=.live (.box [.int c.p.lo,.int c.p.hi,.int c.base,.int c.scale,.int c.off,x,y])
def csD(c:Cht):HCell:=csC c (.d (dE c.ms)) (.d (sL c.ns))
structure CsI where
 i:Nat
 n:Nat
 deriving Inhabited
structure CsR where
 c:Cht
 z:List Int
 m:Int
 t:Int
 u:Tru
 p:Pr
 y:Int
 l:List Pr
 f:Int
 o:Int
 s:Int
 i:Nat
 n:Nat
 deriving Inhabited
structure CsX where
 n:Nat
 c:Cht
 z:List Int
 t:Int
 deriving Inhabited
structure CsZ where
 i:Nat
 n:Nat
 j:Nat
 c:Cht
 l:List Pr
 deriving Inhabited
def csI2(i:Nat):List (Nat×AVal):=[(32,.own 300 1 0 42),(33,.int 42),(34,.int i)]
def csI3(i n:Nat):List (Nat×AVal):=[(2,.int (gD csV i)),(3,.int n)] ++ csI2 i
def csH:Nat×HCell:=(300,BAL 42 csV)
def cs2:Shape:={ α:=Nat,dflt:=0,T:=λi=>⟨csI2 i,[csH]⟩,inv:=λi=>i<=42,meas:=λi=>42-i,first:=[(300,2000)] }
def cs5(m:Nat):Shape:={ α:=CsI,dflt:=default,T:=λs=>⟨csI3 s.i s.n,[csH]⟩,inv:=λs=>s.i<42/\42-s.i=m/\s.n<=32,meas:=λs=>32-s.n }
def cs14(m:Nat):Shape:={ α:=Nat,dflt:=0,T:=λi=>⟨csI2 i,[csH]⟩,inv:=λi=>i<42/\42-i=m,meas:=λ_=>0 }
def csPt:List AVal:=[.bptr 401 0,.bptr 401 1,.bptr 401 2,.bptr 401 3,.bptr 401 4,.rptr 420 2 0 0,.rptr 420 2 1 0,.rptr 420 2 2 1,.rptr 421 5 0 0,.rptr 421 5 1 0,.rptr 421 5 0 2,.rptr 421 5 1 1,.rptr 421 5 1 2,.rptr 421 5 0 3,.rptr 421 5 1 4,.rptr 408 1 0 0,.bptr 402 0,.bptr 403 0,.rptr 430 1 0 0,.rptr 430 1 1 0,.rptr 430 1 2 0,.rptr 431 1 1 0,.rptr 432 1 0 0,.bptr 405 0,.bptr 405 1,.bptr 406 0,.rptr 412 2 0 0,.rptr 412 2 0 1,.bptr 407 0,.bptr 413 0,.bptr 414 0,.rptr 421 5 0 1]
def csQ(i n:Nat)(z l:AVal):List (Nat×AVal):=csI3 i n ++ [(4,.bptr 401 0),(5,z),(6,.bptr 402 0),(7,.bptr 403 0),(8,.bptr 404 0),(9,.bptr 405 0),(10,.bptr 406 0),(11,l),(12,.bptr 407 0),(13,.bptr 413 0),(14,.bptr 414 0)]
def csO:Cht:=oneM ⟨400,410⟩
def CPT(s:CsI):ST:=⟨csQ s.i s.n (.own 408 1 0 1) (.own 412 2 0 1) ++ [(15,.own 415 1 0 32)],[csH,(401,csC csO (.own 420 2 0 3) (.own 421 5 0 2)),(402,csBx 1),(403,csBx 110),(404,.live (.box [.own 430 1 0 3,.own 431 1 0 3,.own 432 1 0 1])),(405,.live (.box [.int 0,.int 1])),(406,csBx 1),(407,csBx 0),(413,csBx 110),(414,csBx 1000),(408,BAL 1 [1]),(412,csPr 1 [⟨0,1⟩]),(420,csMk 3 csO.ms),(421,csNt 2 csO.ns),(430,BAL 3 [0,110,405]),(431,BAL 3 [700,1000,800]),(432,BAL 1 [1]),(415,.live (.box csPt))]⟩
def cs11(q m:Nat):Shape:={ α:=CsI,dflt:=default,T:=CPT,inv:=λs=>s.i<42/\42-s.i=m/\s.n<32/\32-s.n=q,meas:=λ_=>0,first:=[(401,8032),(402,8048),(403,8064),(404,9112),(405,9128),(406,9144),(407,10000),(413,10016),(414,10032),(408,8016),(412,9096),(420,8000),(421,8001),(430,9000),(431,9016),(432,9032),(415,12312)] }
def cs12(q m:Nat):Shape:={ α:=CsR,dflt:=default,T:=λs=>⟨csQ s.i s.n (.d (GB s.z)) (.d (aZ s.l)),[csH,(401,csD s.c),(402,csBx s.m),(403,csBx s.t),(404,.live (.box [.d (GB s.u.t),.d (GB s.u.s),.d (GB s.u.z)])),(405,.live (.box [.int s.p.a,.int s.p.b])),(406,csBx s.y),(407,csBx s.f),(413,csBx s.o),(414,csBx s.s)]⟩,inv:=λs=>s.i<42/\42-s.i=m/\s.n<32/\32-s.n=q/\s.c.ns.length=2,meas:=λ_=>0,ffz:=[408,412,420,421,430,431,432] }
def cs16:Shape:={ α:=Nat,dflt:=0,T:=λn=>⟨[(16,.int n)],[]⟩,inv:=λn=>n<=3000,meas:=λn=>3000-n }
def csX(n:Nat):List (Nat×AVal):=[(16,.int n),(17,.bptr 411 0)]
def DCL(m:Nat):Shape:={ α:=CsX,dflt:=default,T:=λx=>⟨csX x.n ++ [(18,.int 0)],[(411,csC x.c (.d Ej) (.d Ej))]⟩,inv:=λx=>x.n<3000/\3000-x.n=m,meas:=λ_=>9,first:=[(411,19176)],tag:=[0] }
def DCF(m:Nat):Shape:={ α:=CsX,dflt:=default,T:=λx=>⟨csX x.n ++ [(18,.int x.c.ms.length)],[(411,csC x.c (.own 412 2 0 x.c.ms.length) (.d Ej)),(412,csMk x.c.ms.length x.c.ms)]⟩,inv:=λx=>x.n<3000/\3000-x.n=m/\1<=x.c.ms.length/\x.c.ms.length<=4,meas:=λx=>4-x.c.ms.length,again:=[(412,23224)],tag:=[1] }
def cs23(m:Nat)(z:List Nat):Shape:={ α:=CsX,dflt:=default,T:=λx=>⟨csX x.n,[(411,csC x.c (.d (dE x.c.ms)) (.d Ej))]⟩,inv:=λx=>x.n<3000/\3000-x.n=m,meas:=λ_=>0,ffz:=z }
def DEE(m:Nat):Shape:={ α:=CsX,dflt:=default,T:=λx=>⟨csX x.n ++ [(19,.int 0)],[(411,csC x.c (.d (dE x.c.ms)) (.d Ej))]⟩,inv:=λx=>x.n<3000/\3000-x.n=m,meas:=λ_=>9,tag:=[0] }
def DCS(m:Nat):Shape:={ α:=CsX,dflt:=default,T:=λx=>⟨csX x.n ++ [(19,.int x.c.ns.length)],[(411,csC x.c (.d (dE x.c.ms)) (.own 413 5 0 x.c.ns.length)),(413,csNt x.c.ns.length x.c.ns)]⟩,inv:=λx=>x.n<3000/\3000-x.n=m/\1<=x.c.ns.length/\x.c.ns.length<=3,meas:=λx=>4-x.c.ns.length,again:=[(413,28464)],tag:=[1] }
def cs28(m:Nat)(z:List Nat):Shape:={ α:=CsX,dflt:=default,T:=λx=>⟨csX x.n,[(411,csD x.c)]⟩,inv:=λx=>x.n<3000/\3000-x.n=m/\x.c.ns.length<=3,meas:=λ_=>0,ffz:=z }
def cs30(m:Nat):Shape:={ α:=CsX,dflt:=default,T:=λx=>⟨csX x.n ++ [(21,.d (GB x.z)),(22,.int x.t)],[(411,csD x.c)]⟩,inv:=λx=>x.n<3000/\3000-x.n=m/\x.c.ns.length<=3,meas:=λ_=>0,ffz:=[29096] }
def csN1(i:Nat):List (Nat×AVal):=[(365,.own 500 1 0 10),(366,.int 10),(367,.int i)]
def csHN:Nat×HCell:=(500,BAL 10 csN)
def csN3(i n:Nat):List (Nat×AVal):=[(24,.int n),(25,.bptr 501 0),(26,.bptr 502 0)] ++ csN1 i
def csK(s:CsZ)(m:Nat):Prop:=s.i<10/\10-s.i=m/\csOk s.n
def csZ:Cht:=⟨⟨10,12⟩,500,10,5,[],[]⟩
def cs33:Shape:={ α:=Nat,dflt:=0,T:=λi=>⟨csN1 i,[csHN]⟩,inv:=λi=>i<=10,meas:=λi=>10-i,first:=[(500,33000)] }
def cs37(m:Nat):Shape:={ α:=CsZ,dflt:=default,T:=λs=>⟨csN3 s.i s.n,[csHN,(501,csC csZ (.d Ej) (.d Ej)),(502,csC csZ (.d (dE s.c.ms)) (.d (sL s.c.ns)))]⟩,inv:=λs=>csK s m,meas:=λ_=>0,first:=[(501,36032),(502,36048)],ffz:=[36016,36017] }
def DDM(m:Nat):Shape:={ α:=CsZ,dflt:=default,T:=λs=>⟨csN3 s.i s.n ++ [(27,.int 0)],[csHN,(501,csC csZ (.d Ej) (.d Ej)),(502,csC csZ (.d (dE s.c.ms)) (.d (sL s.c.ns)))]⟩,inv:=λs=>csK s m,meas:=λ_=>60,tag:=[0] }
def DCG(m:Nat):Shape:={ α:=CsZ,dflt:=default,T:=λs=>⟨csN3 s.i s.n ++ [(27,.int s.j)],[csHN,(501,csC csZ (.own 503 2 0 s.j) (.d Ej)),(502,csC csZ (.d (dE s.c.ms)) (.d (sL s.c.ns))),(503,csMk s.j (csLg s.j))]⟩,inv:=λs=>csK s m/\1<=s.j/\s.j<=s.n,meas:=λs=>50-s.j,again:=[(503,41112)],tag:=[1] }
def cs41(m:Nat)(z:List Nat):Shape:={ α:=CsZ,dflt:=default,T:=λs=>⟨csN3 s.i s.n,[csHN,(501,csC csZ (.d (dE (csLg s.n))) (.d Ej)),(502,csC csZ (.d (dE s.c.ms)) (.d (sL s.c.ns)))]⟩,inv:=λs=>csK s m,meas:=λ_=>0,ffz:=z }
def cs43(m:Nat)(z:List Nat):Shape:={ α:=CsZ,dflt:=default,T:=λs=>⟨csN3 s.i s.n,[csHN,(501,csD (Fl s.n)),(502,csC csZ (.d (dE s.c.ms)) (.d (sL s.c.ns)))]⟩,inv:=λs=>csK s m,meas:=λ_=>0,ffz:=z }
def DCV(m:Nat):Shape:={ α:=CsZ,dflt:=default,T:=λs=>⟨csN3 s.i s.n ++ [(28,.d Ej),(29,.int 0)],[csHN,(501,csD (Fl s.n)),(502,csC csZ (.d Ej) (.d Ej))]⟩,inv:=λs=>csK s m,meas:=λ_=>60,tag:=[0] }
def DDW(m:Nat):Shape:={ α:=CsZ,dflt:=default,T:=λs=>⟨csN3 s.i s.n ++ [(28,.own 505 1 0 s.j),(29,.int s.j)],[csHN,(501,csD (Fl s.n)),(502,csC csZ (.own 504 2 0 s.j) (.d Ej)),(504,csMk s.j (csTm s.j)),(505,BAL s.j (P7 s.j))]⟩,inv:=λs=>csK s m/\1<=s.j/\s.j<=min s.n 40,meas:=λs=>50-s.j,again:=[(504,49080),(505,50048)],tag:=[1] }
def cs50(m:Nat)(z:List Nat):Shape:={ α:=CsZ,dflt:=default,T:=λs=>⟨csN3 s.i s.n ++ [(28,.d (GB (P7 (min s.n 40))))],[csHN,(501,csD (Fl s.n)),(502,csC csZ (.d (dE (csTm (min s.n 40)))) (.d Ej))]⟩,inv:=λs=>csK s m,meas:=λ_=>0,ffz:=z }
def DCY(m:Nat):Shape:={ α:=CsZ,dflt:=default,T:=λs=>⟨csN3 s.i s.n ++ [(28,.d (GB (P7 (min s.n 40)))),(30,.d Ej),(31,.int 0)],[csHN,(501,csD (Fl s.n)),(502,csC csZ (.d (dE (csTm (min s.n 40)))) (.d Ej))]⟩,inv:=λs=>csK s m,meas:=λ_=>60,tag:=[0] }
def DBJ(m:Nat):Shape:={ α:=CsZ,dflt:=default,T:=λs=>⟨csN3 s.i s.n ++ [(28,.d (GB (P7 (min s.n 40)))),(30,.own 507 2 0 s.l.length),(31,.int s.l.length)],[csHN,(501,csD (Fl s.n)),(502,csC csZ (.d (dE (csTm (min s.n 40)))) (.own 506 5 0 s.l.length)),(506,csNt s.l.length (U4 s.l.length)),(507,csPr s.l.length s.l)]⟩,inv:=λs=>csK s m/\1<=s.l.length/\s.l.length<=min s.n 22,meas:=λs=>50-s.l.length,again:=[(506,55224),(507,56112)],tag:=[1] }
def cs56(m:Nat)(z:List Nat):Shape:={ α:=CsZ,dflt:=default,T:=λs=>⟨csN3 s.i s.n ++ [(28,.d (GB (P7 (min s.n 40)))),(30,.d (aZ s.l))],[csHN,(501,csD (Fl s.n)),(502,csD (Nl s.n))]⟩,inv:=λs=>csK s m,meas:=λ_=>0,ffz:=z }
def csE:Shape:={ α:=One,dflt:=default,T:=λ_=>⟨[],[]⟩,inv:=λ_=>True,meas:=λ_=>0 }
def A_Cs:Ann:={ ann 540 [(BLP,C_oneO.spec dI2c),(BAF,C_lTi.spec dTiA),(BCV,C_lSp.spec dSpA),(ANG,C_lSt.spec dStA),(AIY,C_Check.spec iT),(ABX,AIK)] with mt:=λid=>id==22||(id==27||(id==40||(id==48||(id==49||(id==54||id==55))))),loops:=λid=>if id=2 then some [cs2] else if id=16 then some [cs16] else if id=33 then some [cs33] else none,inner:=λgs id=>if id=5 then some [cs5 (gs.getD 0 0)] else if id=20 then some [DCL (gs.getD 0 0),DCF (gs.getD 0 0)] else if id=24 then some [DEE (gs.getD 0 0),DCS (gs.getD 0 0)] else if id=38 then some [DDM (gs.getD 0 0),DCG (gs.getD 0 0)] else if id=46 then some [DCV (gs.getD 0 0),DDW (gs.getD 0 0)] else if id=52 then some [DCY (gs.getD 0 0),DBJ (gs.getD 0 0)] else none,cut:=λid=>if id=15∨id=32∨id=61 then some [csE] else none,cutIn:=λgs id=>if id=11 then some [cs11 (gs.getD 0 0) (gs.getD 1 0)] else if id=12 then some [cs12 (gs.getD 0 0) (gs.getD 1 0)] else if id=14 then some [cs14 (gs.getD 0 0)] else if id=23 then some [cs23 (gs.getD 0 0) [],cs23 (gs.getD 0 0) [412]] else if id=28 then some [cs28 (gs.getD 0 0) [],cs28 (gs.getD 0 0) [413]] else if id=30 then some [cs30 (gs.getD 0 0)] else if id=37 then some [cs37 (gs.getD 0 0)] else if id=41 then some [cs41 (gs.getD 0 0) [],cs41 (gs.getD 0 0) [503]] else if id=43 then some [cs43 (gs.getD 0 0) [],cs43 (gs.getD 0 0) [43128]] else if id=50 then some [cs50 (gs.getD 0 0) [],cs50 (gs.getD 0 0) [504,505]] else if id=56 then some [cs56 (gs.getD 0 0) [],cs56 (gs.getD 0 0) [506,507]] else none }
def Lp:Nat->Bool:=λk=>Nat.beq k 11||(Nat.beq k 12||(Nat.beq k 15||(Nat.beq k 23||(Nat.beq k 28||(Nat.beq k 30||(Nat.beq k 32||(Nat.beq k 37||(Nat.beq k 41||(Nat.beq k 43||(Nat.beq k 50||(Nat.beq k 56||Nat.beq k 61)))))))))))
abbrev To:Exit->AState->Prop:=endQ Try.prog A_Cs IR (.bool true) [] [] []
def L_Cs(k:Nat):Prop:=NT Try.prog A_Cs Lp k (stdF Try.prog A_Cs Lp) (AJ IR) [] To
def Tn(n:Nat):Leaf:=λ_ y gs Q=>∀i:Nat,i<42->42-i=gs.getD 1 0->n<32->32-n=gs.getD 0 0->vcS Try.prog A_Cs Lp y gs Q (CPT ⟨i,n⟩).st
def V_Cs(w:One):Prop:=BTC Try.prog A_Cs Lp IR (AJ IR) [] (AD []) (.bool true) [] [] []
theorem WG{a i n:Nat}{s:CsI}(h2:i<42)(h3:42-i=42-a)(h4:n<32)(h5:32-n=32-s.n){Z LA LB MA MB NA NB NC ND NE TA TB TC:Nat->Int}{c1 c2 c3 c4 c5 m t pa pb y f o q:Int}:∃x:CsR,(gD csV x.i=gD csV i/\(x.n:Int)=(n:Int)/\(0:Nat)=(0:Nat)/\(42:Nat)=(42:Nat)/\Int.ofNat (42:Nat)=Int.ofNat (42:Nat)/\(x.i:Int)=(i:Int)/\x.z.length=(1:Nat)/\(1:Nat)<=(1:Nat)/\(∀(j:Nat),j<x.z.length->gD x.z j=Z j)/\x.l.length=(1:Nat)/\(1:Nat)<=(1:Nat)/\(∀(j:Nat),j<x.l.length->(gD x.l j).a=LA j/\(gD x.l j).b=LB j)/\(42:Nat)=(42:Nat)/\(∀(i:Nat),i<(42:Nat)->gD csV i=gD csV i)/\x.c.p.lo=c1/\x.c.p.hi=c2/\x.c.base=c3/\x.c.scale=c4/\x.c.off=c5/\x.c.ms.length=(3:Nat)/\(3:Nat)<=(3:Nat)/\(∀(j:Nat),j<x.c.ms.length->(gD x.c.ms j).pl=MA j/\(gD x.c.ms j).ht=MB j)/\x.c.ns.length=(2:Nat)/\(2:Nat)<=(2:Nat)/\(∀(j:Nat),j<x.c.ns.length->(gD x.c.ns j).mi=NA j/\(gD x.c.ns j).t.lo=NB j/\(gD x.c.ns j).t.hi=NC j/\(gD x.c.ns j).s.lo=ND j/\(gD x.c.ns j).s.hi=NE j)/\x.m=m/\x.t=t/\x.u.t.length=(3:Nat)/\(3:Nat)<=(3:Nat)/\(∀(j:Nat),j<x.u.t.length->gD x.u.t j=TA j)/\x.u.s.length=(3:Nat)/\(3:Nat)<=(3:Nat)/\(∀(j:Nat),j<x.u.s.length->gD x.u.s j=TB j)/\x.u.z.length=(1:Nat)/\(1:Nat)<=(1:Nat)/\(∀(j:Nat),j<x.u.z.length->gD x.u.z j=TC j)/\x.p.a=pa/\x.p.b=pb/\x.y=y/\x.f=f/\x.o=o/\x.s=q)/\x.i<(42:Nat)/\(42:Nat)-x.i=(42:Nat)-a/\x.n<(32:Nat)/\(32:Nat)-x.n=(32:Nat)-s.n/\x.c.ns.length=(2:Nat):=by
 obtain⟨z,z1,z2⟩:=AIG 1 Z
 obtain⟨l,l1,l2⟩:=CBJ 1 LA LB
 obtain⟨ms,m1,m2⟩:=BZI 3 MA MB
 obtain⟨ns,n1,n2⟩:=BYB 2 NA NB NC ND NE
 obtain⟨ta,a1,a2⟩:=AIG 3 TA
 obtain⟨tb,b1,b2⟩:=AIG 3 TB
 obtain⟨tc,d1,d2⟩:=AIG 1 TC
 exact⟨⟨⟨⟨c1,c2⟩,c3,c4,c5,ms,ns⟩,z,m,t,⟨ta,tb,tc⟩,⟨pa,pb⟩,y,l,f,o,q,i,n⟩,⟨rfl,rfl,rfl,rfl,rfl,rfl,z1,Nat.le_refl _,z2,l1,Nat.le_refl _,l2,rfl,λ_ _=>rfl,rfl,rfl,rfl,rfl,rfl,m1,Nat.le_refl _,m2,n1,Nat.le_refl _,n2,rfl,rfl,a1,Nat.le_refl _,a2,b1,Nat.le_refl _,b2,d1,Nat.le_refl _,d2,rfl,rfl,rfl,rfl,rfl,rfl⟩,h2,h3,h4,h5,n1⟩
end Go.Bal

namespace Go.Bal
open Go Go.Sym Go.Proofs
abbrev BFI:=@Exists CsI
abbrev SS:=CsI.i
abbrev TP:=CsI.n
abbrev Az:=λ(f:CsI->Prop)=>∀(x:CsI),f x
abbrev SO:=@List.cons Int
abbrev OA a b c:=AV a b (HT c a)
abbrev OX a:=OA a 42 csV
abbrev OI:=ER 42
abbrev KT:=BI 42
abbrev PL a b:=PC 42 a 42 b
abbrev RF a b c:=FI a b (TP c)
abbrev QU a b:=PL (SS a) b
abbrev XU a b c:=SO a (SO b c)
abbrev PW a:=AE csO a
abbrev PS a:=AC csO a
abbrev OL:=(@List.cons Pr) (Pr.mk 0 1) (@List.nil Pr)
abbrev PK a b c d:=GT (SS a) b (QU a c) (CW (TP a) d)
abbrev AUA a b c d e:=J2 (WX a) b c d e
abbrev Im a b c d:=AUA a b (AEF a 1 1) c d
abbrev Xm a b c d e:=AUA (AEF a 1 1) b c d e
abbrev Ry a:=AEF (AEF a 1 1) 1 1
abbrev tT a:=Ry (Ry a)
abbrev pS a:=tT (tT a)
abbrev K3 a:=pS (pS a)
abbrev W9 a:=tT (pS a)
attribute [go_sem] BFI SS TP Az SO OA OX OI KT PL RF QU XU PW PS OL PK AUA Im Xm Ry tT pS K3 W9
theorem DCW(w:One):(V_Cs w)=(HX (λi=>BL AG (Lc KT OI (CQ i) (λj=>Yj j 42 csV j (Bz j (-3000001) (Im j (-3000000) (-1000001) (Xm j (-1000000) (Ry j) (-100000001) (Im (Ry j) (-100000000) (-1) (Xm (Ry j) 0 (tT j) 1 (Im (tT j) 2 3 (Xm (tT j) 9 (Ry (tT j)) 10 (Im (Ry (tT j)) 11 12 (Xm (Ry (tT j)) 13 (pS j) 30 (Im (pS j) 39 40 (Xm (pS j) 99 (Ry (pS j)) 100 (Im (Ry (pS j)) 120 121 (Xm (Ry (pS j)) 310 (W9 j) 320 (Im (W9 j) 321 410 (Xm (W9 j) 600 (Ry (W9 j)) 601 (Im (Ry (W9 j)) 700 1000 (Xm (Ry (W9 j)) 1001 (K3 j) 10000 (Im (K3 j) 10001 10000000 (Xm (K3 j) 10000001 (Ry (K3 j)) 100000000 (Im (Ry (K3 j)) 100000001 3000000 (Xm (Ry (K3 j)) 3000001 (tT (K3 j)) 9223372036854775807 (-9223372036854775808)))))))))))))))))))))))) (ED i 42)) (λi=>Fe i 42 (FK i 42) (AH (CL i 42 (HU (BG i) 42)) (BFI (λj=>HV (NN csV (SS j) (BG i)) (CQ (TP j)) AG (Lc KT OI (CV (SS j) i) OX) (PK j 42 i 32))) (Az (λj=>PY (PK j 42 i 32) (FK (TP j) 32) (DT (ER 400) (ER 410) (EX WZ 0 3 (YG 1 3 (HZ 2 3) (Wb (eM 2) (HZ 1 2) (Jc (HZ 1 2) (eM 2) (eM 1) (Mi (eM 3) (HZ 1 3) (HZ 2 3) (Yw (eM 1) WZ (DN 0 2))))))) (BFI (λk=>AI (Bq (NN csV (SS k) (SS j)) (CV (TP k) (TP j)) AG KT OI (Kc (CV (SS k) (SS j)) Af (CF Af AG (BI 32) KT OX EN UD UA (BB EN LI AG Bj AG YF (ER 1) (ER 110) (V2 Bj (cA AG Af BP (ER 1) BP (ER 110) (ER 1000) (Jc Af (AB (λl=>Yj l 1 (SO 1 QT) l 1)) (AB (λl=>aO l 1 OL l 0 1)) (G0 Bj (AB (λl=>Mw l 3 csO l NO csO)) YF (λl=>BJ l 2 (PT csO l NO) (CX (PS l) NO l) (PS l) (AC NO l) (CU (PW l) NO l) (PW l) (AE NO l)) (Jc Bj (AB (λl=>Yj l 3 (SO 0 (XU 110 405 QT)) l (Mt l 0 110 405))) (AB (λl=>Yj l 3 (SO 700 (XU 1000 800 QT)) l (Mt l 700 1000 800))) (Qq Af (AB (λl=>Yj l 1 (SO 1 QT) l 1)) AG (Kc YF Af (AWD Af AG (Qo AG Af YF (oN Af AG AG AG)))))))))))))) (CE (SS k) 42) (QU k i) (CE (TP k) 32) (RF 32 (TP k) j)))) (KI (λk=>DT AG (Lc KT OI (CV k (SS j)) OX) (CE k 42) (PL k i)))))) (AB (λj=>CJ (And (CE j 42) (PL j i)) (KI (λk=>Jj (Lc KT OI (BA k j) OX) (ED k 42) 42 k i)))) (Qr (λj=>IP)))):=by kernel_rfl
theorem p_Cs(w:One):V_Cs w:=by
 rw[DCW]<;> delta BH BK DY RD RU EM EO CH AB CJ CE AY CG MY CW FV NL HD KA UI IG FX GG FO FU KI IP FS IV ED NR WW Qr JM JF QB QT Ho BFI SS TP Az SO AH CK AI BC AV AF BI oN Jc Wb Qq Yw Qo AWD Mi AQ BB AC CN BF AEF AE BD DD AZ DC BG BR BE BS BJ JQ cA CI EQ BL ER FL CF AG HR BX NU CU M8 HO DN MW CX DU HY IC DR PC DT Ry LU FE tT LV XU Bz MJ ZS DX EZ GT EX JJ BA BP CV HT WX J2 HU HW JH FI NN FK PL EN LM KT MH VW pS FA TQ CQ PW OL HZ CL aO OA PT FH PS JK HX QU HV RF OI NO LI PY AUA UA OX PK UD Mw YG WZ Bj YF Af Im Mt Bq G0 Kc Lc Xm Fe K3 Yj W9 Jj V2 eM;simp only[CC,eq_self,implies_true,forall_const]
 refine⟨⟨0,⟨rfl,λi hi=>?_⟩,by omega⟩,λa ha=>⟨λh=>⟨⟨⟨⟨by omega,h⟩,by omega⟩,⟨⟨a,0⟩,⟨rfl,rfl,rfl⟩,by show a<42;omega,rfl,by show 0<=32;omega⟩,λs ⟨s1,s2,s3⟩=>⟨λh2=>⟨by simp,s,⟨rfl,rfl,rfl,λi hi=>?_,λi hi=>?_,λi hi=>⟨rfl,rfl⟩,λi hi=>⟨rfl,rfl,rfl,rfl,rfl⟩,λi hi=>?_,λi hi=>?_,λi hi=>?_⟩,s1,s2,by omega,rfl⟩,λh2=>⟨s.i,rfl,s1,s2⟩⟩⟩,λj ⟨j1,j2⟩=>⟨j+1,(II (by omega)).symm,by omega,by omega⟩⟩,λ_=>⟨default,trivial⟩⟩⟩
 ·revert hi;revert i;decide +kernel
 ·obtain rfl:i=0:=by omega
  rfl
 ·obtain rfl:i=0:=by omega
  exact⟨rfl,rfl⟩
 ·match i,hi with
  |0,_=>rfl
  |1,_=>rfl
  |2,_=>rfl
 ·match i,hi with
  |0,_=>rfl
  |1,_=>rfl
  |2,_=>rfl
 ·obtain rfl:i=0:=by omega
  rfl
end Go.Bal
