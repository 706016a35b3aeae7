/- RatingSmall: what it calls. -/
import Derived.Test.YtpidmmilfdcepaaGreatRFl5
set_option linter.unusedVariables false
set_option linter.unusedSimpArgs false
namespace Go.Bal
open Go Go.Sym Go.Proofs
def snG0:List Gau:=[]
def snI0:List Int:=[]
def snL0:List Ln:=[]
def snK0:List (List Int):=[]
def BHJ(a:AVal)(H:Heap):Option (List Gau×List Nat):=match a with
 | .d (.list k n g _)=>match Nat.beq k 0 with
  |true=>some (snG0,[])
  |false=>some (HA n λi=>Ky (g i),[])
 |a=>Ht a H
def BKW(a:AVal)(H:Heap):Option (List Int×List Nat):=match a with
 | .d (.list k n g _)=>match Nat.beq k 0 with
  |true=>some (snI0,[])
  |false=>some (HA n λi=>EG (g i),[])
 |a=>Xt a H
def CYQ(a:AVal)(H:Heap):Option (Rtg×List Nat):=match a with
 | .d (.agg [.list k n f _,.list q m g _])=>match Nat.beq k 0,Nat.beq q 0 with
  |true,true=>some (⟨snI0,snL0⟩,[])
  |_,_=>some (⟨HA n λi=>EG (f i),HA m λi=>dLn (g i)⟩,[])
 |a=>dRtg a H
def C_lLn:Ctr:={ α:=LnA,xs:=xLn,val:=λ_=>.bool true }
def dLnA:List AVal->Heap->Option (LnA×List (Nat×Nat)×List Nat)
 |[x,y,.d z,.d s],H=>match BHJ x H,CYQ y H with
  |some (l,f),some (r,e)=>some (⟨l,r,dLn z,EG s⟩,[],f ++ e)
  |_,_=>none
 |_,_=>none
def C_lFl:Ctr:={ α:=FlA,xs:=xFl,val:=λ_=>.bool true }
def dFlA:List AVal->Heap->Option (FlA×List (Nat×Nat)×List Nat)
 |[x,y,.d s,.d q,.d r,.d t,.d u],H=>match BHJ x H,BKW y H with
  |some (l,f),some (b,e)=>some (⟨l,b,EG s,EG q,EG r,EG t,CGC u⟩,[],f ++ e)
  |_,_=>none
 |_,_=>none
def kSm(k:List (List Int)):Bool:=decide (k.length<20)||(k.any λz=>decide (z.length=0))
structure PaX where
 a:PaA
 o:Nat
def lsZ(x:PaX):List Int:=gD x.a.k 0
def lsV(x:PaX):AVal:=match x.o with
 |0=>.d (eLL x.a.k)
 |1=>.own 100 1 0 x.a.k.length
 |_=>.own 100 1 0 1
def lsL(x:PaX):List (Nat×AObj):=match x.o with
 |0=>[]
 |1=>[(100,ACX x.a.k)]
 |_=>AOR (lsZ x).length λi=>NY (gD (lsZ x) i)
def lsK(x:PaX):List (Nat×HCell):=match x.o with
 |0=>[]
 |1=>[(100,.live (ACX x.a.k))]
 |_=>CMC (lsZ x).length λi=>NY (gD (lsZ x) i)
def C_lPa:Ctr:={ ro:=[100,101],α:=PaX,xs:=λx=>[.d (AT x.a.l),.d (AZ x.a.b),.d (AZ x.a.z),.int x.a.m,lsV x],L:=lsL,val:=λ_=>.bool true,keep:=lsK,pre:=λx=>[gSm x.a.l=true/\kSm x.a.k=true] }
def dPaL:AVal->Heap->Option (List (List Int)×Nat×List (Nat×Nat))
 | .d (.list k n r _),_=>match Nat.beq k 0 with
  |true=>some (snK0,0,[])
  |false=>some (sW n r,0,[])
 | .own id _ _ n,H=>match H id with
  | .live (.row _ _ r)=>some (sW n r,1,[(100,id)])
  | .live (.box [.own i2 _ _ n2])=>match H i2 with
   | .live (.row _ _ r)=>some ([HA n2 λj=>EG (r j)],2,[(100,id),(101,i2)])
   |_=>none
  |_=>none
 |_,_=>none
def dPaX:List AVal->Heap->Option (PaX×List (Nat×Nat)×List Nat)
 |[x,y,z,.d m,k],H=>match BHJ x H,BKW y H,BKW z H,dPaL k H with
  |some (l,f),some (b,e),some (w,h),some (q,o,r)=>some (⟨⟨l,b,w,EG m,q⟩,o⟩,r,f ++ e ++ h)
  |_,_,_,_=>none
 |_,_=>none
def C_ThO:Ctr:={ α:=I2,xs:=xI2,val:=λ_=>.own 0 3 0 3,keep:=λx=>[(0,.live (.row 3 3 λi=>Ry (gD (FQ x.a x.b) i)))] }
def dI2c:List AVal->Heap->Option (I2×List (Nat×Nat)×List Nat)
 |xs,_=>match dI2 xs with
  |some x=>some (x,[],[])
  |none=>none
def CNJ(x:I2):Prop:=AS ZP (ann 14 []) Tryz.f4 (AE Tryz.f4) (xI2 x) (AB []) (.own 0 3 0 3) (C_ThO.keep x) [(0,2128)] []
abbrev BHT a b c d e:=ET a b (ET c d e)
abbrev Ub a b c d e:=BHT a b (AFQ c) d e
attribute [go_sem] BHT Ub
theorem CUC(x:I2):(CNJ x)=(EN (uO Iq (AG (λi=>TO i 3 (FQ (Ie x) (Vn x)) i (Ub i 100 i 200 300) i (Ub i 10 i 30 (Ie x)) (Ub i 12 i 32 (Vn x)))))):=by kernel_rfl
def C_cpLn:Ctr:={ α:=List Ln×Bool,xs:=λx=>[bif x.2 then .d (Qr x.1) else .d NC],val:=λx=>bif x.2 then .own 0 4 0 x.1.length else .d NC,keep:=λx=>bif x.2 then [(0,.live (.row 4 x.1.length λi=>eLn (gD x.1 i)))] else [],pre:=λx=>[x.2=true->0<x.1.length/\x.1.length<1073741824] }
def dCpL:List AVal->Heap->Option ((List Ln×Bool)×List (Nat×Nat)×List Nat)
 |[.d (.list _ n r _)],_=>match Nat.beq n 0 with
  |true=>some (([],false),[],[])
  |false=>some ((HA n λi=>dLn (r i),true),[],[])
 |_,_=>none
def BYF:Ann:={ ann 7 [] with mt:=λid=>id==2 }
def CDC(l:List Ln):Prop:=AS ZP BYF Tryz.f8 (AE Tryz.f8) [.d (Qr l)] (AB []) (.own 0 4 0 l.length) [(0,.live (.row 4 l.length λi=>eLn (gD l i)))] [(0,3032)] []
theorem CLV(l:List Ln):(CDC l)=(AQD (BJF 4 (fF HO (CO l)) (Lv (SA (CO l))) (xN l) (ABE (xN l) 32)) AF (LB l (xN l)) (AG (λi=>AMT i (CO l) l (GQ l (VC i)) (LO l (VC i)) l (VC i) l (VC i)))):=by kernel_rfl
def CCK(w:One):Prop:=AS ZP (ann 7 []) Tryz.f8 (AE Tryz.f8) [.d NC] (AB []) (.d NC) [] [] []
theorem CKR(w:One):(CCK w)=(Hv (ATD (Xk 4) (APT (SA 0)) (FF 0 9223372036854775807) (tW 0)) AF):=by kernel_rfl
theorem CSG:AH ZP 5 (C_lLn.spec dLnA):=okT C_lLn (λ(a:LnA) _=>DAB a) dLnA
theorem CWD:AH ZP 7 (C_lFl.spec dFlA):=okT C_lFl (λ(a:FlA) _=>DAS a) dFlA
theorem CGG{g:List Gau}{m:Int}{k:List (List Int)}(h:kSm k=true)(hp:pvN ⟨g,m,k,false⟩=true):k.length<20:=by
 unfold kSm at h
 rcases Bool.or_eq_true_iff.1 h with h | h
 ·exact of_decide_eq_true h
 ·obtain⟨z,hz,h0⟩:=List.any_eq_true.1 h
  have:=List.all_eq_true.1 (show (k.all λz=>(Cn ⟨g,z⟩).2)=true from hp) z hz
  obtain rfl:=List.eq_nil_of_length_eq_zero (of_decide_eq_true h0)
  cases (show (Cn ⟨g,[]⟩).2=false from rfl).symm.trans this
theorem CWR:AH ZP 6 (C_lPa.spec dPaX):=okT C_lPa (λ(x:PaX) h=>by
 obtain⟨⟨l,b,z,m,k⟩,o⟩:=x
 obtain⟨hg,hk⟩:gSm l=true/\kSm k=true:=h
 match o with
 |0=>exact CAX ⟨l,b,z,m,k⟩ hg (CGG hk)
 |1=>
  refine FnT.lend (fz:=[100]) (xs:=[.d (AT l),.d (AZ b),.d (AZ z),.int m,.own 100 1 0 k.length]) (L:=[(100,ACX k)]) (CAX ⟨l,b,z,m,k⟩ hg (CGG hk)) rfl ?_ rfl ?_ _ ?_
  ·show [_,_,_,_,AVal.d (.list 1 k.length (λj=>AZ (gD k (0+j))) false)]=_
   simp only[Nat.zero_add];rfl
  ·show 0+k.length<=k.length;omega
  ·exact⟨rfl,trivial⟩
 |o+2=>exact FnT.lendB (pre:=[AT l,AZ b,AZ z,.v (.int .i64 m)]) (CAX ⟨l,b,z,m,[gD k 0]⟩ hg (λ_=>by show 1<20;omega)) rfl rfl) dPaX
theorem CVA:AH ZP 4 (C_ThO.spec dI2c):=PW C_ThO (λ_=>ann 14 []) [(0,2128)] [] Tryz.func4 (λ_=>by kernel_rfl) (λ_=>AD) (λ(x:I2) _=>by
 show CNJ x;rw[CUC]<;> dsimp only[go_sem];simp only[CC,CU]
 intro j hj
 match j,hj with
 |0,_=>exact⟨rfl,rfl,rfl⟩
 |1,_=>exact⟨rfl,rfl,rfl⟩
 |2,_=>exact⟨rfl,rfl,rfl⟩) (λ_=>RA rfl rfl) _
theorem CIU:AH ZP 8 (C_cpLn.spec dCpL):=okT C_cpLn (λ(x:List Ln×Bool) h=>by
 have h:x.2=true->0<x.1.length/\x.1.length<1073741824:=(show (x.2=true->0<x.1.length/\x.1.length<1073741824)/\True from⟨h,trivial⟩).1
 obtain⟨l,b⟩:=x
 cases b with
 |true=>
  obtain⟨h1,h2⟩:=h rfl
  have h1:0<l.length:=h1
  have h2:l.length<1073741824:=h2
  refine WP (A:=BYF) (L:=[]) (ren:=[(0,3032)]) (fz:=[]) Tryz.func8 (by kernel_rfl) AD ?_
  show CDC l;rw[CLV]<;> dsimp only[go_sem];simp only[CC,CU]
  exact⟨⟨λh=>by omega,h1,by omega,by omega⟩,λ_ _=>⟨rfl,rfl,rfl,rfl⟩⟩
 |false=>
  refine WP (A:=ann 7 []) (L:=[]) (keep:=[]) (ren:=[]) (fz:=[]) Tryz.func8 (by kernel_rfl) AD ?_
  show CCK default;rw[CKR]<;> dsimp only[go_sem]
  simp) _
def sS:List Int:=[-1,0,1,2,3,9,10,12,13,30,36,50,52,62,69,100,101,199,200,201,300,301,1999,2000,2001,199999,200000,200001,9223372036854775807,-9223372036854775808]
def snN:List Int:=[0,1,2,23,24,25,26]
def snG(n:Nat):List Gau:=(List.range n).map λ(j:Nat)=>⟨wr (80*(j:Int)),wr (1000*wr ((j:Int).tmod 2+1)),wr (wr (1000*wr ((j:Int).tmod 2+1))+j)⟩
def snB(n:Nat):List Int:=(List.range n).map λ(j:Nat)=>(j:Int)+1
def snL(n:Nat):List Ln:=(List.range n).map λ(j:Nat)=>⟨0,0,(j:Int)+1,j⟩
def R7(n:Nat):List Ln:=snL n ++ [⟨0,0,2000,200000⟩]
theorem AJD(n:Nat):(snG n).length=n:=by simp[snG]
theorem AJI(n:Nat):(snB n).length=n:=by simp[snB]
theorem ACT(n:Nat):(snL n).length=n:=by simp[snL]
theorem BGQ(n:Nat):(R7 n).length=n+1:=by simp[R7,ACT]
theorem ADP{α:Type}[Inhabited α](f:Nat->α){n i:Nat}(h:i<n):gD ((List.range n).map f) i=f i:=by
 simp[gD,List.getD_eq_getElem?_getD,h]
theorem BOV{n j:Nat}(h:j<n):gD (snG n) j=⟨wr (80*(j:Int)),wr (1000*wr ((j:Int).tmod 2+1)),wr (wr (1000*wr ((j:Int).tmod 2+1))+j)⟩:=ADP (λ(j:Nat)=>(⟨wr (80*(j:Int)),wr (1000*wr ((j:Int).tmod 2+1)),wr (wr (1000*wr ((j:Int).tmod 2+1))+j)⟩:Gau)) h
theorem BQX{n j:Nat}(h:j<n):gD (snB n) j=(j:Int)+1:=ADP (λ(j:Nat)=>(j:Int)+1) h
theorem BNU{n j:Nat}(h:j<n):gD (snL n) j=⟨0,0,(j:Int)+1,j⟩:=ADP (λ(j:Nat)=>(⟨0,0,(j:Int)+1,j⟩:Ln)) h
theorem CUF:∀n,n<27->(AL (snG n)==0)=(decide (0<n)&&decide (n<25)):=by decide +kernel
theorem CVQ:∀n,n<27->(HB ⟨snB n,R7 n⟩==0)=decide (n<25):=by decide +kernel
theorem CWE:∀n,n<27->(HB ⟨snB n,snL n⟩==0)=false:=by decide +kernel
theorem ACQ{m i:Nat}(hi:i<m+1):((gD (snG (m+1)) i).st=bif decide (i<m) then (gD (snG m) i).st else IntKind.i64.wrap (80*(m:Int)))/\((gD (snG (m+1)) i).lo=bif decide (i<m) then (gD (snG m) i).lo else IntKind.i64.wrap (1000*IntKind.i64.wrap ((m:Int).tmod 2+1)))/\(gD (snG (m+1)) i).hi=bif decide (i<m) then (gD (snG m) i).hi else IntKind.i64.wrap (IntKind.i64.wrap (1000*IntKind.i64.wrap ((m:Int).tmod 2+1))+(m:Int)):=by
 rw[BOV hi]
 by_cases h:i<m
 ·rw[BOV h,decide_eq_true h];exact⟨rfl,rfl,rfl⟩
 ·obtain rfl:i=m:=by omega
  rw[decide_eq_false h];exact⟨rfl,rfl,rfl⟩
theorem ADC{m i:Nat}(hm:m<1000)(hi:i<m+1):gD (snB (m+1)) i=bif decide (i<m) then gD (snB m) i else IntKind.i64.wrap (1+(m:Int)):=by
 rw[BQX hi]
 by_cases h:i<m
 ·rw[BQX h,decide_eq_true h];rfl
 ·obtain rfl:i=m:=by omega
  rw[decide_eq_false h,HL (by omega) (by omega)];show (i:Int)+1=1+i;omega
theorem ACP{m i:Nat}(hm:m<1000)(hi:i<m+1):((gD (snL (m+1)) i).a0=bif decide (i<m) then (gD (snL m) i).a0 else 0)/\((gD (snL (m+1)) i).a1=bif decide (i<m) then (gD (snL m) i).a1 else 0)/\((gD (snL (m+1)) i).b0=bif decide (i<m) then (gD (snL m) i).b0 else IntKind.i64.wrap (1+(m:Int)))/\(gD (snL (m+1)) i).b1=bif decide (i<m) then (gD (snL m) i).b1 else (m:Int):=by
 rw[BNU hi]
 by_cases h:i<m
 ·rw[BNU h,decide_eq_true h];exact⟨rfl,rfl,rfl,rfl⟩
 ·obtain rfl:i=m:=by omega
  rw[decide_eq_false h,HL (by omega) (by omega)];exact⟨rfl,rfl,by show (i:Int)+1=1+i;omega,rfl⟩
theorem CRE:∀i,i<7->0<=gD snN i/\gD snN i<=26:=by decide +kernel
theorem BRM(n:Nat)(A B C:Nat->Int):∃l:List Gau,l.length=n/\∀i,i<l.length->(gD l i).st=A i/\(gD l i).lo=B i/\(gD l i).hi=C i:=
 ⟨HA n λi=>⟨A i,B i,C i⟩,rng_length _ _,λi hi=>by rw[rng_length] at hi;rw[DC _ _ _ hi];exact⟨rfl,rfl,rfl⟩⟩
theorem CKX(n:Nat)(A:Nat->Int):∃l:List Int,l.length=n/\∀i,i<l.length->gD l i=A i:=
 ⟨HA n A,rng_length _ _,λi hi=>by rw[rng_length] at hi;exact DC _ _ _ hi⟩
theorem ALA(n:Nat)(m:Nat->Nat)(A:Nat->Nat->Int):∃l:List (List Int),l.length=n/\∀i,i<l.length->(gD l i).length=m i/\∀j,j<(gD l i).length->gD (gD l i) j=A i j:=
 ⟨HA n λi=>HA (m i) (A i),rng_length _ _,λi hi=>by rw[rng_length] at hi;rw[DC _ _ _ hi];exact⟨rng_length _ _,λj hj=>by rw[rng_length] at hj;exact DC _ _ _ hj⟩⟩
theorem CCO{g:List Gau}(h:g.length<20):gSm g=true:=by unfold gSm;rw[decide_eq_true h];rfl
theorem CEW{k:List (List Int)}(h:k.length<20):kSm k=true:=by unfold kSm;rw[decide_eq_true h];rfl
theorem CEG:∀n,n<27->gSm (snG n)=true:=by decide +kernel
theorem CYD:∀n,n<27->kSm (HA n λ_=>[])=true:=by decide +kernel
theorem BZT(n:Nat)(f:Nat->List Int):(sW n λi=>AZ (f i))=HA n f:=by
 unfold sW
 show (HA n λi=>HA (f i).length λj=>EG (NY (gD (f i) j)))=_
 simp only[dInt_eInt,RB]
theorem CTK(n:Nat):(sW n λ_=>ofV (Value.slice none 0 0))=HA n λ_=>[]:=rfl
def sO(m:Nat)(l:List Int):HCell:=.live (.row 1 m λj=>NY (gD l j))
def snBx(x:Int):HCell:=.live (.box [.int x])
structure SnI where
 i:Nat
 n:Nat
 deriving Inhabited
structure SnR where
 l:List Gau
 r:Rtg
 x:Ln
 s:Int
 b:List Int
 z:List Int
 m:Int
 k:List Int
 f:Int
 t:Int
 u:Int
 i:Nat
 n:Nat
 deriving Inhabited
structure SnX where
 v:Int
 n:Nat
 l:List Gau
 b:List Int
 k:List (List Int)
 deriving Inhabited
structure SnZ where
 i:Nat
 n:Nat
 j:Nat
 k:List (List Int)
 deriving Inhabited
def snI3(i n:Nat):List (Nat×AVal):=[(2,.int (gD sS i)),(3,.int n),(28,.own 300 1 0 30),(29,.int 30),(30,.int i)]
def sn2:Shape:={ α:=Nat,dflt:=0,T:=λi=>⟨[(28,.own 300 1 0 30),(29,.int 30),(30,.int i)],[(300,sO 30 sS)]⟩,inv:=λi=>i<=30,meas:=λi=>30-i,first:=[(300,2000)] }
def sn5(m:Nat):Shape:={ α:=SnI,dflt:=default,T:=λs=>⟨snI3 s.i s.n,[(300,sO 30 sS)]⟩,inv:=λs=>s.i<30/\30-s.i=m/\s.n<=22,meas:=λs=>22-s.n }
def sn13(m:Nat):Shape:={ α:=Nat,dflt:=0,T:=λi=>⟨[(28,.own 300 1 0 30),(29,.int 30),(30,.int i)],[(300,sO 30 sS)]⟩,inv:=λi=>i<30/\30-i=m,meas:=λ_=>0 }
def snPt:List AVal:=[.rptr 401 3 0 0,.rptr 401 3 1 1,.rptr 401 3 1 2,.rptr 401 3 2 0,.rptr 409 1 0 0,.rptr 410 4 0 0,.rptr 410 4 0 3,.rptr 410 4 1 2,.bptr 403 1,.bptr 403 2,.bptr 403 0,.bptr 404 0,.rptr 412 1 0 0,.rptr 413 1 0 0,.rptr 413 1 1 0,.rptr 413 1 2 0,.bptr 405 0,.rptr 414 1 2 0,.bptr 406 0,.bptr 407 0,.bptr 408 0,.rptr 401 3 2 2]
def snQ(i n:Nat)(g b z:AVal):List (Nat×AVal):=snI3 i n ++ [(4,g),(5,.bptr 402 0),(6,.bptr 403 0),(7,.bptr 404 0),(8,b),(9,z),(10,.bptr 405 0),(11,.own 411 1 0 1),(12,.bptr 406 0),(13,.bptr 407 0),(14,.bptr 408 0)]
def CNA(s:SnI):ST:=⟨snQ s.i s.n (.own 401 3 0 3) (.own 412 1 0 1) (.own 413 1 0 3) ++ [(15,.own 415 1 0 22)],[(300,sO 30 sS),(401,.live (.row 3 3 λi=>Ry (gD (FQ 60 62) i))),(402,.live (.box [.own 409 1 0 1,.own 410 4 0 2])),(403,.live (.box [.int 100,.int 12,.int 300,.int 50])),(404,snBx 50),(405,snBx 2),(406,snBx 40),(407,snBx 90),(408,snBx 110),(409,sO 1 [300]),(410,.live (.row 4 2 λi=>eLn (gD [⟨100,10,200,30⟩,⟨0,61,2000,61⟩] i))),(411,.live (.box [.own 414 1 0 3])),(412,sO 1 [250]),(413,sO 3 [0,1,2]),(414,sO 3 [0,1,2]),(415,.live (.box snPt))]⟩
def sn10(q m:Nat):Shape:={ α:=SnI,dflt:=default,T:=CNA,inv:=λs=>s.i<30/\30-s.i=m/\s.n<22/\22-s.n=q,meas:=λ_=>0,first:=[(401,8000),(402,8208),(403,8224),(404,8240),(405,9064),(406,9080),(407,9096),(408,9112),(409,8016),(410,8128),(411,9048),(412,9000),(413,9016),(414,9032),(415,10864)] }
def sn11(q m:Nat):Shape:={ α:=SnR,dflt:=default,T:=λs=>⟨snQ s.i s.n (.d (AT s.l)) (.d (AZ s.b)) (.d (AZ s.z)),[(300,sO 30 sS),(402,.live (.box [.d (AZ s.r.b),.d (Qr s.r.l)])),(403,.live (.box [.int s.x.a0,.int s.x.a1,.int s.x.b0,.int s.x.b1])),(404,snBx s.s),(405,snBx s.m),(406,snBx s.f),(407,snBx s.t),(408,snBx s.u),(411,.live (.box [.own 414 1 0 s.k.length])),(414,sO s.k.length s.k)]⟩,inv:=λs=>s.i<30/\30-s.i=m/\s.n<22/\22-s.n=q/\s.l.length=3,meas:=λ_=>0,ffz:=[401,409,410,412,413] }
def Ha:Nat:=4096
def sn15:Shape:={ α:=SnX,dflt:=default,T:=λx=>⟨[(16,.int x.v)],[]⟩,inv:=λx=>x.v=x.n/\x.n<=Ha,meas:=λx=>Ha-x.n }
def sn17(m:Nat):Shape:={ α:=SnX,dflt:=default,T:=λx=>⟨[(16,.int x.v)],[]⟩,inv:=λx=>x.v=x.n/\x.n<Ha/\Ha-x.n=m,meas:=λ_=>0 }
def sn18(m:Nat):Shape:={ α:=SnX,dflt:=default,T:=λx=>⟨[(16,.int x.v),(17,.own 601 3 0 4)],[(601,.live (.row 3 4 λt=>Ry (gD x.l t)))]⟩,inv:=λx=>x.v=x.n/\x.n<Ha/\Ha-x.n=m/\x.l.length=4,meas:=λ_=>0,first:=[(601,18880)] }
def sn19(m:Nat):Shape:={ α:=SnX,dflt:=default,T:=λx=>⟨[(16,.int x.v),(17,.d (AT x.l)),(18,.d (AZ x.b))],[]⟩,inv:=λx=>x.v=x.n/\x.n<Ha/\Ha-x.n=m/\x.l.length=4,meas:=λ_=>0,ffz:=[601] }
def sn20(m:Nat):Shape:={ α:=SnX,dflt:=default,T:=λx=>⟨[(16,.int x.v),(17,.d (AT x.l)),(18,.d (AZ x.b)),(19,.d (eLL x.k))],[]⟩,inv:=λx=>x.v=x.n/\x.n<Ha/\Ha-x.n=m/\x.k.length=2/\x.l.length=4,meas:=λ_=>0 }
def snN3(i n:Nat):List (Nat×AVal):=[(21,.int n),(23,.bptr 521 0),(298,.own 500 1 0 7),(299,.int 7),(300,.int i)]
def snHN:Nat×HCell:=(500,sO 7 snN)
def sn25:Shape:={ α:=Nat,dflt:=0,T:=λi=>⟨[(298,.own 500 1 0 7),(299,.int 7),(300,.int i)],[snHN]⟩,inv:=λi=>i<=7,meas:=λi=>7-i,first:=[(500,25000)] }
def CXA(m:Nat):Shape:={ α:=SnI,dflt:=default,T:=λs=>⟨snN3 s.i s.n ++ [(22,.d NC),(24,.d NC),(25,.int 0)],[snHN,(521,.live (.box [.d NC,.d NC]))]⟩,inv:=λs=>s.i<7/\7-s.i=m/\s.n<=26,meas:=λ_=>60,first:=[(521,29000)],tag:=[0] }
def snH(j:Nat):List (Nat×HCell):=[snHN,(521,.live (.box [.own 524 1 0 j,.own 525 4 0 j])),(523,.live (.row 3 j λt=>Ry (gD (snG j) t))),(524,sO j (snB j)),(525,.live (.row 4 j λt=>eLn (gD (snL j) t)))]
def CZV(m:Nat):Shape:={ α:=SnZ,dflt:=default,T:=λs=>⟨snN3 s.i s.n ++ [(22,.own 523 3 0 s.j),(24,.d NC),(25,.int s.j)],snH s.j⟩,inv:=λs=>s.i<7/\7-s.i=m/\s.n<=26/\1<=s.j/\s.j<=s.n/\(s.j=1∨s.n<=2),meas:=λs=>40-s.j,tag:=[1] }
def CZO(m:Nat):Shape:={ α:=SnZ,dflt:=default,T:=λs=>⟨snN3 s.i s.n ++ [(22,.own 523 3 0 s.j),(24,.own 526 1 0 s.k.length),(25,.int s.j)],snH s.j ++ [(526,.live (ACX s.k))]⟩,inv:=λs=>s.i<7/\7-s.i=m/\s.n<=26/\2<=s.j/\s.j<=s.n/\2*s.k.length<=s.j,meas:=λs=>40-s.j,tag:=[2] }
def snF:List (Nat×Nat):=[(523,34256),(524,35080),(525,35224)]
def DBL(q m:Nat):Shape:={ α:=SnZ,dflt:=default,T:=λs=>⟨snN3 s.i s.n ++ [(22,.own 523 3 0 (s.j+1)),(24,.d NC),(25,.int s.j)],snH (s.j+1)⟩,inv:=λs=>s.i<7/\7-s.i=m/\s.n<=26/\s.j<s.n/\(s.j=0∨s.n<=2)/\40-s.j<=q,meas:=λ_=>0,first:=snF }
def CQJ(q m:Nat)(f:List (Nat×Nat)):Shape:={ α:=SnZ,dflt:=default,T:=λs=>⟨snN3 s.i s.n ++ [(22,.own 523 3 0 (s.j+1)),(24,.own 526 1 0 s.k.length),(25,.int s.j)],snH (s.j+1) ++ [(526,.live (ACX s.k))]⟩,inv:=λs=>s.i<7/\7-s.i=m/\s.n<=26/\1<=s.j/\s.j<s.n/\2*s.k.length<=s.j+1/\40-s.j<=q,meas:=λ_=>0,first:=snF ++ f }
def DCG(m:Nat):Shape:={ α:=SnI,dflt:=default,T:=λs=>⟨snN3 s.i s.n ++ [(22,.d NC),(24,.d NC)],[snHN,(521,.live (.box [.d NC,.d NC]))]⟩,inv:=λs=>s.i<7/\7-s.i=m/\s.n=0,meas:=λ_=>0 }
def snDL(n:Nat):DVal:=lst 4 (n+1) λt=>eLn (gD (snL (n+1)) t)
def sn37(m:Nat)(z:List Nat):Shape:={ α:=SnZ,dflt:=default,T:=λs=>⟨snN3 s.i (s.n+1) ++ [(22,.d (AT (snG (s.n+1)))),(24,.d (eLL s.k))],[snHN,(521,.live (.box [.d (AZ (snB (s.n+1))),.d (snDL s.n)]))]⟩,inv:=λs=>s.i<7/\7-s.i=m/\s.n<26/\s.k.length<=13,meas:=λ_=>0,ffz:=z }
def sn38(m:Nat):Shape:={ α:=SnZ,dflt:=default,T:=λs=>⟨snN3 s.i s.n ++ [(22,.d (AT (snG s.n))),(24,.d (eLL s.k)),(26,.bptr 522 0)],[snHN,(521,.live (.box [.d (AZ (snB s.n)),.d (Qr (snL s.n))])),(522,.live (.box [.d (AZ (snB s.n)),.d (Qr (R7 s.n))]))]⟩,inv:=λs=>s.i<7/\7-s.i=m/\s.n<=26/\s.k.length<=13,meas:=λ_=>0,first:=[(522,38160)],ffz:=[38128] }
def snE:Shape:={ α:=One,dflt:=default,T:=λ_=>⟨[],[]⟩,inv:=λ_=>True,meas:=λ_=>0 }
def snT:List Gau:=[⟨1999,199999,199999⟩,⟨2000,200000,200000⟩,⟨0,0,0⟩]
def sn44:Shape:={ α:=One,dflt:=default,T:=λ_=>⟨[(27,.d (AT snT))],[]⟩,inv:=λ_=>True,meas:=λ_=>0 }
def snM(id:Nat):Option (Nat->Nat):=if id=18 then some λk=>if k=3 then 4 else 0 else if id=19 then some λk=>if k=6∨k=16∨k=17 then 4 else 0 else if id=36 then some λk=>if k=4∨k=5 then 4 else if k=6 then 1 else 0 else if id=43 then some λk=>if k=6 then 4 else 0 else none
def A_Sn:Ann:={ ann 458 [(4,C_ThO.spec dI2c),(5,C_lLn.spec dLnA),(7,C_lFl.spec dFlA),(6,C_lPa.spec dPaX),(9,C_Check.spec NU),(10,C_CheckR.spec dRt1),(8,C_cpLn.spec dCpL),(11,ADK)] with mt:=λid=>id==33||(id==34||id==37),md:=snM,loops:=λid=>if id=2 then some [sn2] else if id=15 then some [sn15] else if id=25 then some [sn25] else none,inner:=λgs id=>if id=5 then some [sn5 (gs.getD 0 0)] else if id=31 then some [CXA (gs.getD 0 0),CZV (gs.getD 0 0),CZO (gs.getD 0 0)] else none,cut:=λid=>if id=14∨id=24∨id=43 then some [snE] else if id=44 then some [sn44] else none,cutIn:=λgs id=>if id=10 then some [sn10 (gs.getD 0 0) (gs.getD 1 0)] else if id=11 then some [sn11 (gs.getD 0 0) (gs.getD 1 0)] else if id=13 then some [sn13 (gs.getD 0 0)] else if id=17 then some [sn17 (gs.getD 0 0)] else if id=18 then some [sn18 (gs.getD 0 0)] else if id=19 then some [sn19 (gs.getD 0 0)] else if id=20 then some [sn20 (gs.getD 0 0)] else if id=32 then some [DBL (gs.getD 0 0) (gs.getD 2 0),CQJ (gs.getD 0 0) (gs.getD 2 0) [(526,37096)],CQJ (gs.getD 0 0) (gs.getD 2 0) []] else if id=37 then some [DCG (gs.getD 0 0),sn37 (gs.getD 0 0) [523,524,525,526],sn37 (gs.getD 0 0) [523,524,525]] else if id=38 then some [sn38 (gs.getD 0 0)] else none }
def Gk:Nat->Bool:=λk=>Nat.beq k 10||(Nat.beq k 11||(Nat.beq k 13||(Nat.beq k 14||(Nat.beq k 17||(Nat.beq k 18||(Nat.beq k 19||(Nat.beq k 20||(Nat.beq k 24||(Nat.beq k 32||(Nat.beq k 37||(Nat.beq k 38||Nat.beq k 43)))))))))))
abbrev Vl:Exit->AState->Prop:=endQ ZP A_Sn Tryz.f3 (.bool true) [] [] []
def L_Sn(k:Nat):Prop:=GY ZP A_Sn Gk k (stdF ZP A_Sn Gk) (AE Tryz.f3) [] Vl
def Vk(n:Nat):Leaf:=λ_ y gs Q=>∀i:Nat,i<30->30-i=gs.getD 1 0->n<22->22-n=gs.getD 0 0->vcS ZP A_Sn Gk y gs Q (CNA ⟨i,n⟩).st
def V_Sn(w:One):Prop:=BOJ ZP A_Sn Gk Tryz.f3 (AE Tryz.f3) [] (AB []) (.bool true) [] [] []
abbrev ASD:=@Exists SnI
abbrev RO:=SnI.i
abbrev Eh:=SnI.n
abbrev ARY:=λ(f:SnI->Prop)=>∀(x:SnI),f x
abbrev BZF:=@List.cons Ln
abbrev AFE a b:=IZ 30 a b
abbrev BMK a b:=AG (λi=>HJ i a (Qc b i))
abbrev fZ:=BMK 30 sS
abbrev zK:=JQ 30
abbrev Lr:=DR 30
abbrev BIS a b c:=IZ a b (Eh c)
abbrev AGC a b:=AFE (RO a) b
abbrev BFA a b c d e f g h:=BK a b c d e f g e h
abbrev T7:=ACR 0 (wJ 1 2)
abbrev Hh:=BZF (Ln.mk 100 10 200 30) (BZF (Ln.mk 0 61 2000 61) ARI)
abbrev kO:=FQ 60 62
abbrev ANZ a b c:=BCP a b a c
abbrev AKU a b:=FF (Eh a) b
abbrev AOK a:=AKU a 22
abbrev BKQ a b:=HJ a 30 b
abbrev nR a b c d e:=BHT (AFQ a) b c d e
abbrev BTB a b:=TJ (TJ a b) b
abbrev Yk a:=BTB a 1
abbrev Wn a b c d:=nR a b (Yk a) c d
abbrev Fl a:=BTB (BTB a 1) 1
abbrev Oz a:=Fl (Fl a)
abbrev Wq a:=Oz (Oz a)
attribute [go_sem] ASD RO Eh ARY BZF AFE BMK fZ zK Lr BIS AGC BFA T7 Hh kO ANZ AKU AOK BKQ nR BTB Yk Wn Fl Oz Wq
theorem DAX(w:One):(V_Sn w)=(HU (λi=>XV (EN (Ut Lr zK (BX i) (AG (λj=>BKQ j (BFU sS j (ET j (-1) (Wn j 0 1 (nR (Yk j) 2 (Fl j) 3 (Wn (Fl j) 9 10 (nR (Yk (Fl j)) 12 (Oz j) 13 (Wn (Oz j) 30 36 (nR (Yk (Oz j)) 50 (Fl (Oz j)) 52 (Wn (Fl (Oz j)) 62 69 (nR (Yk (Fl (Oz j))) 100 (Wq j) 101 (Wn (Wq j) 199 200 (nR (Yk (Wq j)) 201 (Fl (Wq j)) 300 (Wn (Fl (Wq j)) 301 1999 (nR (Yk (Fl (Wq j))) 2000 (Oz (Wq j)) 2001 (Wn (Oz (Wq j)) 199999 200000 (nR (Yk (Oz (Wq j))) 200001 (Fl (Oz (Wq j))) 9223372036854775807 (-9223372036854775808))))))))))))))))))))) i 30) (λi=>Ys (Ko i 30) (UO i 30) (AO (dR i 30 i) (ASD (λj=>SG (gZ (ANZ sS (RO j) (AQ i)) (BX (Eh j)) (Ut Lr zK (AI (RO j) i) fZ)) (RO j) 30 (AGC j i) (AOK j))) (ARY (λj=>Ys (AFH (RO j) 30 (AGC j i) (AOK j)) (UO (Eh j) 22) (AO (And (JQ 60) (JQ 62)) (And (VL 3) (uO (TG 1 3) (AQD (TG 2 3) (VL 1) (VL 2) (ARZ (TG 1 2) (VL 1) (VL 3) (TG 1 3) (TG 2 3) (VL 1) (FJ 2) (Wr 2 3))))) (ASD (λk=>Fp (Hk (ANZ sS (RO k) (RO j)) (BO (Eh k)) (BO (Eh j)) (BCZ AF Lr zK (AI (RO k) (RO j)) Iq AF UX (Cr Iq UX AF (DR 22) Lr fZ (rX Iq (AG (λl=>HJ l 3 (BSO kO l kO l))) AF UX MR (JQ 100) (JQ 12) (BK (JQ 300) (JQ 50) (JQ 50) Re (JQ 40) (JQ 90) (JQ 110) UX (BFA (AG (λl=>Nm l 1 (ACR 300 aX) l 300)) MR (AG (λl=>OU l 2 Hh (ET l 100 0) (ET l 10 61) (ET l 200 2000) (ET l 30 61))) AF Iq UX (AG (λl=>Nm l 1 (ACR 250 aX) l 250)) (ATV (AG (λl=>Nm l 3 T7 l (Ub l 0 l 1 2))) Iq AF UX UX MR (AHI AF AF UX AF AF UX MR MR)))))))) (RO k) 30 (AGC k i) (FC (Eh k) 22) (BIS 22 (Eh k) j)))) (EI (λk=>AO (EN (Ut Lr zK (AI k (RO j)) fZ)) (FC k 30) (AFE k i)))))) (Ur (λj=>HO)))):=by kernel_rfl
theorem p_Sn(w:One):V_Sn w:=by
 rw[DAX]<;> dsimp only[go_sem];simp only[CC,CU]
 refine⟨⟨0,⟨rfl,λi hi=>?_⟩,by omega⟩,λa ha=>⟨λh=>⟨⟨⟨by omega,h⟩,by omega⟩,⟨⟨a,0⟩,⟨rfl,rfl,rfl⟩,by show a<30;omega,rfl,by show 0<=22;omega⟩,λs ⟨s1,s2,s3⟩=>⟨λh2=>⟨by simp,s,⟨rfl,rfl,rfl,λi hi=>?_,λi hi=>?_,λi hi=>?_,λi hi=>?_⟩,s1,s2,by omega,rfl⟩,λh2=>⟨s.i,rfl,s1,s2⟩⟩⟩,λ_=>⟨default,trivial⟩⟩⟩
 ·revert hi;revert i;decide +kernel
 ·obtain rfl:i=0:=by omega
  rfl
 ·match i,hi with
  |0,_=>exact⟨rfl,rfl,rfl,rfl⟩
  |1,_=>exact⟨rfl,rfl,rfl,rfl⟩
 ·obtain rfl:i=0:=by omega
  rfl
 ·match i,hi with
  |0,_=>rfl
  |1,_=>rfl
  |2,_=>rfl
end Go.Bal
