/- Package rating: stages of a flow. -/
import Derived.Test.YtpidmmilfdcepaaGreatRT2
set_option linter.unusedVariables false
set_option linter.unusedSimpArgs false
namespace Go.Bal
open Go Go.Sym Go.Proofs
structure BnF where
 b:Bnd
 f:Rt
def dBnd:DVal->Bnd
 | .agg [a,b,c,d]=>⟨⟨EG a,EG b⟩,⟨EG c,EG d⟩⟩
 |_=>default
def dBnF:List AVal->Heap->Option (BnF×List (Nat×Nat)×List Nat)
 |[.d x,.bptr id _],H=>match H id with
  | .live (.box [.d n,.d m])=>some (⟨dBnd x,⟨EG n,EG m⟩⟩,[(100,id)],[])
  |_=>none
 |_,_=>none
def bxR(f:Rt):AObj:=.box [.int f.n,.int f.d]
def Uv(v:BnF->Bool):Ctr:={ ro:=[100],α:=BnF,xs:=λa=>[.d (eBnd a.b),.bptr 100 0],L:=λa=>[(100,bxR a.f)],val:=λa=>.bool (v a),keep:=λa=>[(100,.live (bxR a.f))] }
def H7(a:BnF):Bool:=decide (jT a.b.hi a.f<0)
def D2(a:BnF):Bool:=decide (jT a.b.lo a.f<=0)
def BRS:Ann:={ ann 9 [(92,ADT)] with E:=[100] }
def COF(a:BnF):Prop:=AS ZP BRS Tryz.f91 (AE Tryz.f91) ((Uv H7).xs a) (AB ((Uv H7).L a)) ((Uv H7).val a) ((Uv H7).keep a) [] []
abbrev ADI:=BnF.f
attribute [go_sem] ADI
theorem CVI(a:BnF):(COF a)=(ARQ (Va (H7 a) (eC (Zy (NS (BnF.b a)) (QA (ADI a))) (Zy (MH (ADI a)) (NT (BnF.b a))))) (MH (ADI a)) (AMV (ADI a))):=by kernel_rfl
def CNU(a:BnF):Prop:=AS ZP BRS Tryz.f93 (AE Tryz.f93) ((Uv D2).xs a) (AB ((Uv D2).L a)) ((Uv D2).val a) ((Uv D2).keep a) [] []
abbrev nO a b c:=Va a (hd7 b c)
attribute [go_sem] nO
theorem CVF(a:BnF):(CNU a)=(ARQ (nO (D2 a) (hd30 (Zy (MV (BnF.b a)) (QA (ADI a))) (Zy (MH (ADI a)) (OO (BnF.b a)))) 0) (MH (ADI a)) (AMV (ADI a))):=by kernel_rfl
theorem CWL:AH ZP 91 ((Uv H7).spec dBnF):=PW (Uv H7) (λ_=>BRS) [] [] Tryz.func91 (λ_=>by kernel_rfl) (λ_=>AA mJ AD) (λ(a:BnF) _=>by
 show COF a;rw[CVI]<;> dsimp only[go_sem];simp only[CC,CU];first | done | trivial | exact rfl | (refine⟨rfl,?_⟩;exact⟨rfl,rfl⟩)) (λ_=>RA rfl rfl) _
theorem CTF:AH ZP 93 ((Uv D2).spec dBnF):=PW (Uv D2) (λ_=>BRS) [] [] Tryz.func93 (λ_=>by kernel_rfl) (λ_=>AA mJ AD) (λ(a:BnF) _=>by
 show CNU a;rw[CVF]<;> dsimp only[go_sem];simp only[CC,CU];first | done | trivial | exact rfl | (refine⟨rfl,?_⟩;exact⟨rfl,rfl⟩)) (λ_=>RA rfl rfl) _
def upL(pr:Int->Bool):Nat->Int->Int->Int
 |0,lo,_=>lo
 |n+1,lo,hi=>bif decide (lo<hi) then (bif pr (lo+(hi-lo+1).tdiv 2) then upL pr n (lo+(hi-lo+1).tdiv 2) hi else upL pr n lo (lo+(hi-lo+1).tdiv 2-1)) else lo
structure UpI where
 w:Bk
 k:Int
 f:Rt
def dUpI(n:FuncId):List AVal->Heap->Option (UpI×List (Nat×Nat)×List Nat)
 |[.bptr id _,.d k,.fn (.func g) [] [.bptr c _]],H=>if g=n then match ARU H id,H c with
  |some (w,q),.live (.box [.d x,.d y])=>some (⟨w,EG k,⟨EG x,EG y⟩⟩,[(100,id),(101,q),(102,c)],[])
  |_,_=>none else none
 |_,_=>none
def upP(v:BnF->Bool)(a:UpI)(t:Int):Bool:=v ⟨bndM (lB ⟨a.w,t⟩) t,a.f⟩
def upM(v:BnF->Bool)(a:UpI):Int:=upL (upP v a) 3000 ((DD a.w a.k).lo-1) (DD a.w a.k).hi
structure LH where
 lo:Int
 hi:Int
 deriving Inhabited
def upH(a:UpI):List (Nat×HCell):=bkK a.w ++ [(102,.live (bxR a.f))]
def up3(v:BnF->Bool)(n:FuncId)(a:UpI):Shape:={ α:=LH,dflt:=default,T:=λx=>⟨[(0,.bptr 100 0),(2,.fn (.func n) [] [.bptr 102 0]),(8,.int x.lo),(9,.int x.hi)],upH a⟩,inv:=λx=>(DD a.w a.k).lo-1<=x.lo/\x.lo<=x.hi/\x.hi<=(DD a.w a.k).hi/\∀m:Nat,(x.hi-x.lo).toNat<=m->upM v a=upL (upP v a) m x.lo x.hi,meas:=λx=>(x.hi-x.lo).toNat }
def C_up(v:BnF->Bool)(n:FuncId):Ctr:={ ro:=[100,101,102],α:=UpI,xs:=λa=>[.bptr 100 0,.int a.k,.fn (.func n) [] [.bptr 102 0]],L:=λa=>bkL a.w ++ [(102,bxR a.f)],val:=λa=>.int (upM v a),keep:=λa=>upH a,pre:=λa=>[US a.w.g a.w.b/\0<=a.k/\a.k<=a.w.b.length/\a.w.has a.k=true] }
def A_up(v:BnF->Bool)(n:FuncId)(f:Sym.Spec)(a:UpI):Ann:={ ann 44 [(89,C_span.spec dBkI),(83,C_bnd.spec dBkt),(n,f)] with E:=[100,101,102],loops:=λid=>if id=3 then some [up3 v n a] else none }
def CNM(a:UpI):Prop:=AS ZP (A_up H7 91 ((Uv H7).spec dBnF) a) Tryz.f90 (AE Tryz.f90) ((C_up H7 91).xs a) (AB ((C_up H7 91).L a)) ((C_up H7 91).val a) ((C_up H7 91).keep a) [] []
abbrev Ll:=UpI.k
abbrev BN:=UpI.w
abbrev jJ:=@Exists LH
abbrev NK:=LH.lo
abbrev Ch:=LH.hi
abbrev BEJ:=λ(f:LH->Prop)=>∀(x:LH),f x
abbrev BXK:=@List.nil DVal
abbrev So a b c d e:=Ys a (Tx b c) d e
abbrev Yr a:=AMV (UpI.f a)
abbrev Xp a:=AK (MH (UpI.f a))
abbrev Ft a b c:=BE (BN a) b c
abbrev kM a b:=Ex (BN a) b
abbrev Yj a:=MU (BN a)
abbrev Xr a:=VO (BN a)
abbrev K5 a:=Cp (BN a)
abbrev rJ a:=EZ (K5 a)
abbrev pK a:=IW (K5 a)
abbrev It a:=Be (BN a)
abbrev nC a:=AP (It a)
abbrev zV a:=upM H7 a
abbrev mV a b:=NV (hd58 a b)
abbrev YF a:=mV (Ch a) (NK a)
abbrev AEB a b c d e:=S4 a b c c d e
abbrev AGH a b c:=KO (AFZ (Mc a b)) (NK c)
abbrev Of a b c d e f(g:Nat->Prop):=AEB (AGH a b c) (NK d) (Ch e) f (AG g)
abbrev ZB a b c d e f g:=Bi (YF a) b (BM c (upL d e (NK f) (Ch g)))
abbrev BHM a b:=jQ (AQE a b)
abbrev AVA a b:=BHM a (Ll b)
abbrev lD a b:=AVA (BN a) b
abbrev WK a:=Up (NK a) (J4 (XM (PS (Ch a) (NK a))) 2)
abbrev BIP a b:=A0 a (WK b)
abbrev FU a b:=BIP (BN a) b
abbrev bC a b c:=BA (BN a) b c
abbrev Mr a b:=BM (Ch a) b
abbrev BMA a b:=(@List.cons DVal) (NY a) b
abbrev AMM a b c:=BMA a (BMA b c)
abbrev BJS a b:=O3 a (WK b)
abbrev Ni a b:=BJS (BN a) b
abbrev Zr a b:=dBnd (DVal.agg (AMM (MV (Ni a b)) (OO (Ni a b)) (AMM (NS (Ni a b)) (NT (Ni a b)) BXK)))
abbrev BPK a b c:=sM a b c c
abbrev WO a:=Is (BN a)
abbrev HK a:=Ej (BN a)
abbrev XW a:=PY (Yd a 0) zA
abbrev Rk:=XW 2
abbrev gY a b:=KO a (NP b)
attribute [go_sem] Ll BN jJ NK Ch BEJ BXK So Yr Xp Ft kM Yj Xr K5 rJ pK It nC zV mV YF AEB AGH Of ZB BHM AVA lD WK BIP FU bC Mr BMA AMM BJS Ni Zr BPK WO HK XW Rk gY
theorem CSW(a:UpI):(CNM a)=(Sg (AK (Ll a)) (Eb (BN a)) (Gd (BN a)) (BK (OL (WO a) (BN a)) (OX (WO a) (BN a)) CZ (Xr a) (Yj a) (EL (λi=>DI (HK a) i (BN a) (λj=>CP j (HK a) i (BN a) (CE (BA (HK a) i j) (bC a i j) (BE (HK a) i j) (Ft a i j) (HK a) i j (BZ (BN a) i j))))) (cU (It a) (BN a)) (qW (It a) (BN a)) (X7 (BC (K5 a) (WO a)) (BR (K5 a) (WO a)) CZ (Xr a) (Yj a) (EL (λi=>DI (BN a) i (HK a) (λj=>CP j (BN a) i (HK a) (CE (bC a i j) (BA (HK a) i j) (Ft a i j) (BE (HK a) i j) (BN a) i j (BZ (HK a) i j))))) (SF (BN a) (WO a) OB) (Ll a) (gY (Ll a) (WO a)))) (jJ (λi=>xB (OS (BM (NK i) (UH (Mc (HK a) (Ll a)))) (Mr i (AVA (HK a) a)) (It a) (IY (nC a) (pK a) (rJ a) (Xr a) (Yj a) (λj=>YJ (kM a j) (λk=>Js k (kM a j) (Ft a j k) (BN a) j)) (Xp a) (Yr a))) (AGH (BN a) (Ll a) i) (KO (NK i) (Ch i)) (Ch i) (lD a a) (AG (λj=>ZB i j (zV a) (upP H7 a) j i i)))) (BEJ (λi=>So (Of (BN a) (Ll a) i i i (lD a a) (λj=>ZB i j (zV a) (upP H7 a) j i i)) (NK i) (Ch i) (BD Rk (DY (AK (WK i)) (Eb (BN a)) (Gd (BN a)) (OL (WO a) (BN a)) (OX (WO a) (BN a)) CZ (Xr a) (Jf (Yj a) (λj=>DI (HK a) j (BN a) (λk=>CP k (HK a) j (BN a) (CE (BA (HK a) j k) (bC a j k) (BE (HK a) j k) (Ft a j k) (HK a) j k (BZ (BN a) j k)))) (JJ (BN a) (FU a i)) (JK (BN a) (FU a i)) (JI (BN a) (FU a i)) (JM (BN a) (FU a i)) (SF (BN a) (WO a) OB) (WK i))) (TN (MV (Zr a i)) (MV (Ni a i)) (Hk (BM (OO (Zr a i)) (OO (Ni a i))) (NS (Zr a i)) (NS (Ni a i)) (BPK (BM (NT (Zr a i)) (NT (Ni a i))) (Xp a) (Yr a)))) (HZ (H7 (BnF.mk (Zr a i) (UpI.f a))) (jJ (λj=>IB (OS (BM (NK j) (WK i)) (Mr j (Ch i)) (It a) (IY (nC a) (pK a) (rJ a) (Rj (BN a) (FU a i)) (LA (BN a) (FU a i)) (λk=>DI (BN a) k (FU a i) (λl=>CP l (BN a) k (FU a i) (CE (bC a k l) (BA (FU a i) k l) (Ft a k l) (BE (FU a i) k l) (BN a) k l (BZ (FU a i) k l)))) (Xp a) (Yr a))) (Of (BN a) (Ll a) j j j (lD a a) (λk=>ZB j k (zV a) (upP H7 a) k j j)) (YF j) (YF i))) (jJ (λj=>IB (OS (BM (NK j) (NK i)) (Mr j (UH (WK i))) (It a) (IY (nC a) (pK a) (rJ a) (Rj (BN a) (FU a i)) (LA (BN a) (FU a i)) (λk=>DI (BN a) k (FU a i) (λl=>CP l (BN a) k (FU a i) (CE (bC a k l) (BA (FU a i) k l) (Ft a k l) (BE (FU a i) k l) (BN a) k l (BZ (FU a i) k l)))) (Xp a) (Yr a))) (Of (BN a) (Ll a) j j j (lD a a) (λk=>ZB j k (zV a) (upP H7 a) k j j)) (YF j) (YF i))))) (AO (BM (zV a) (NK i)) (BQ (It a)) (IY (nC a) (pK a) (rJ a) (Xr a) (Yj a) (λj=>YJ (kM a j) (λk=>Js k (kM a j) (Ft a j k) (BN a) j)) (Xp a) (Yr a)))))):=by kernel_rfl
theorem AJP(a b c d:Int):dBnd (.agg [NY a,NY b,NY c,NY d])=⟨⟨a,b⟩,⟨c,d⟩⟩:=rfl
theorem BQF{lo hi:Int}(h1:-1<=lo)(h2:lo<=hi)(h3:hi<=2000):IntKind.i64.wrap (lo+IntKind.i64.wrap ((IntKind.i64.wrap (IntKind.i64.wrap (hi-lo)+1)).tdiv 2))=lo+(hi-lo+1).tdiv 2:=by
 have e:(hi-lo+1).tdiv 2=(hi-lo+1) / 2:=Int.tdiv_eq_ediv_of_nonneg (by omega)
 rw[HL (n:=hi-lo) (by omega) (by omega),HL (n:=hi-lo+1) (by omega) (by omega),e,HL (n:=(hi-lo+1) / 2) (by omega) (by omega),HL (by omega) (by omega)]
theorem Cb{w:Bk}{k:Int}(h:US w.g w.b)(h1:0<=k)(h2:k<=w.b.length):0<=(DD w k).lo/\(DD w k).lo<=(DD w k).hi/\(DD w k).hi<=2000/\∀m:Int,(DD w k).lo<=m->m<=(DD w k).hi->(KB w.b m:Int)=k:=by
 obtain⟨_,_,_,hasc,hbr⟩:=h
 obtain⟨n,rfl⟩:=Int.eq_ofNat_of_zero_le h1
 have h2:n<=w.b.length:=Int.ofNat_le.1 h2
 have hb:∀i,i<w.b.length->1<=gD w.b i/\gD w.b i<=2000:=λi hi=>hbr _ (BU hi)
 have elo:(DD w n).lo=if 0<n then gD w.b (n-1) else 0:=by
  show (bif decide ((n:Int)>0) then gD w.b ((n:Int)-1).toNat else 0)=_
  by_cases h0:0<n
  ·rw[decide_eq_true (show (n:Int)>0 by omega),if_pos h0,show ((n:Int)-1).toNat=n-1 by omega];rfl
  ·rw[decide_eq_false (show ¬(n:Int)>0 by omega),if_neg h0];rfl
 have ehi:(DD w n).hi=if n<w.b.length then gD w.b n-1 else 2000:=by
  show (bif decide ((n:Int)<w.b.length) then wr (gD w.b (n:Int).toNat-1) else 2000)=_
  by_cases h0:n<w.b.length
  ·have:=hb n h0
   rw[decide_eq_true (show (n:Int)<w.b.length by omega),if_pos h0,Int.toNat_natCast]
   unfold wr;rw[HL (by omega) (by omega)];rfl
  ·rw[decide_eq_false (show ¬(n:Int)<w.b.length by omega),if_neg h0];rfl
 have h3:0<n->n<w.b.length->gD w.b (n-1)<gD w.b n:=λa b=>Lt hasc (by omega) b
 refine⟨?_,?_,?_,λm hm hm2=>?_⟩
 ·rw[elo];split
  ·have:=hb (n-1) (by omega);omega
  ·omega
 ·rw[elo,ehi];split<;>split
  ·have:=h3 (by omega) (by omega);omega
  ·exact (hb (n-1) (by omega)).2
  ·have:=hb n (by omega);omega
  ·omega
 ·rw[ehi];split
  ·have:=hb n (by omega);omega
  ·omega
 ·congr 1
  refine iL h2 (λj hj=>?_) (λj hj hj2=>?_)
  ·rw[elo,if_pos (by omega)] at hm
   have:gD w.b j<=gD w.b (n-1):=by
    by_cases e:j=n-1
    ·rw[e];exact Int.le_refl _
    ·exact Int.le_of_lt (Lt hasc (by omega) (by omega))
   exact decide_eq_true (by omega)
  ·rw[ehi,if_pos (by omega)] at hm2
   have:gD w.b n<=gD w.b j:=by
    by_cases e:n=j
    ·rw[e];exact Int.le_refl _
    ·exact Int.le_of_lt (Lt hasc (by omega) hj2)
   exact decide_eq_false (by omega)
theorem Q2{lo hi:Int}(h:lo<hi):lo<lo+(hi-lo+1).tdiv 2/\lo+(hi-lo+1).tdiv 2<=hi:=by
 rw[Int.tdiv_eq_ediv_of_nonneg (by omega)];omega
theorem SX{pr:Int->Bool}:∀(m n:Nat) (lo hi:Int),lo<=hi->(hi-lo).toNat<=m->(hi-lo).toNat<=n->upL pr m lo hi=upL pr n lo hi
 |0,0,_,_,_,_,_=>rfl
 |0,n+1,lo,hi,h,h1,_=>by unfold upL;rw[decide_eq_false (show ¬lo<hi by omega)];rfl
 |m+1,0,lo,hi,h,_,h1=>by unfold upL;rw[decide_eq_false (show ¬lo<hi by omega)];rfl
 |m+1,n+1,lo,hi,h,h1,h2=>by
  unfold upL
  by_cases hl:lo<hi
  ·obtain⟨h3,h4⟩:=Q2 hl
   rw[decide_eq_true hl]
   cases pr (lo+(hi-lo+1).tdiv 2)
   ·exact SX m n _ _ (by omega) (by omega) (by omega)
   ·exact SX m n _ _ h4 (by omega) (by omega)
  ·rw[decide_eq_false hl];rfl
theorem CYS(a:UpI)(h:US a.w.g a.w.b)(hk:0<=a.k/\a.k<=a.w.b.length)(hh:a.w.has a.k=true):CNM a:=by
 rw[CSW]<;> dsimp only[go_sem];simp only[CC,CU,XS,Fe,sK,sJ,Fh,AJP,if_true]
 obtain⟨s1,s2,s3,s4⟩:=Cb h hk.1 hk.2
 refine⟨⟨h,hk⟩,⟨⟨(DD a.w a.k).lo-1,(DD a.w a.k).hi⟩,⟨(HL (n:=(DD a.w a.k).lo-1) (by omega) (by omega)).symm,rfl⟩,Int.le_refl _,(by omega:(DD a.w a.k).lo-1<=(DD a.w a.k).hi),Int.le_refl _,λm hm=>SX 3000 m ((DD a.w a.k).lo-1) (DD a.w a.k).hi (by omega) (by omega) hm⟩,λx ⟨i1,i2,i3,i4⟩=>⟨λhl=>?_,λhl=>?_⟩⟩
 ·obtain⟨m1,m2⟩:=Q2 hl
  simp only[BQF (lo:=x.lo) (hi:=x.hi) (by omega) (by omega) (by omega),show ∀t,kB ⟨a.w,t⟩=(KB a.w.b t:Int) from λ_=>rfl,s4 _ (show (DD a.w a.k).lo<=x.lo+(x.hi-x.lo+1).tdiv 2 by omega) (by omega),bA hh,implies_true,and_true]
  obtain⟨n,hn⟩:∃n,(x.hi-x.lo).toNat=n+1:=⟨(x.hi-x.lo).toNat-1,by omega⟩
  have key:=i4 (n+1) (by omega)
  unfold upL at key
  rw[decide_eq_true hl] at key
  generalize hM:x.lo+(x.hi-x.lo+1).tdiv 2=M at *
  refine⟨by simp,⟨h,by omega,by omega⟩,λhp=>⟨⟨M,x.hi⟩,⟨rfl,rfl⟩,⟨(by omega:(DD a.w a.k).lo-1<=M),m2,i3,λm hm=>?_⟩,(by omega:(x.hi-M).toNat<(x.hi-x.lo).toNat)⟩,λhp=>⟨⟨x.lo,M-1⟩,⟨rfl,(HL (n:=M-1) (by omega) (by omega)).symm⟩,⟨i1,(by omega:x.lo<=M-1),(by omega:M-1<=(DD a.w a.k).hi),λm hm=>?_⟩,(by omega:(M-1-x.lo).toNat<(x.hi-x.lo).toNat)⟩⟩
  ·rw[key,show upP H7 a M=true from hp]
   exact SX n m M x.hi m2 (by omega) hm
  ·rw[key,show upP H7 a M=false from hp]
   exact SX n m x.lo (M-1) (by omega) (by omega) hm
 ·rw[i4 0 (by omega)];rfl
def COY(a:UpI):Prop:=AS ZP (A_up D2 93 ((Uv D2).spec dBnF) a) Tryz.f90 (AE Tryz.f90) ((C_up D2 93).xs a) (AB ((C_up D2 93).L a)) ((C_up D2 93).val a) ((C_up D2 93).keep a) [] []
abbrev nB a:=upM D2 a
attribute [go_sem] nB
theorem CRI(a:UpI):(COY a)=(Sg (AK (Ll a)) (Eb (BN a)) (Gd (BN a)) (BK (OL (WO a) (BN a)) (OX (WO a) (BN a)) CZ (Xr a) (Yj a) (EL (λi=>DI (HK a) i (BN a) (λj=>CP j (HK a) i (BN a) (CE (BA (HK a) i j) (bC a i j) (BE (HK a) i j) (Ft a i j) (HK a) i j (BZ (BN a) i j))))) (cU (It a) (BN a)) (qW (It a) (BN a)) (X7 (BC (K5 a) (WO a)) (BR (K5 a) (WO a)) CZ (Xr a) (Yj a) (EL (λi=>DI (BN a) i (HK a) (λj=>CP j (BN a) i (HK a) (CE (bC a i j) (BA (HK a) i j) (Ft a i j) (BE (HK a) i j) (BN a) i j (BZ (HK a) i j))))) (SF (BN a) (WO a) OB) (Ll a) (gY (Ll a) (WO a)))) (jJ (λi=>xB (OS (BM (NK i) (UH (Mc (HK a) (Ll a)))) (Mr i (AVA (HK a) a)) (It a) (IY (nC a) (pK a) (rJ a) (Xr a) (Yj a) (λj=>YJ (kM a j) (λk=>Js k (kM a j) (Ft a j k) (BN a) j)) (Xp a) (Yr a))) (AGH (BN a) (Ll a) i) (KO (NK i) (Ch i)) (Ch i) (lD a a) (AG (λj=>ZB i j (nB a) (upP D2 a) j i i)))) (BEJ (λi=>So (Of (BN a) (Ll a) i i i (lD a a) (λj=>ZB i j (nB a) (upP D2 a) j i i)) (NK i) (Ch i) (BD Rk (DY (AK (WK i)) (Eb (BN a)) (Gd (BN a)) (OL (WO a) (BN a)) (OX (WO a) (BN a)) CZ (Xr a) (Jf (Yj a) (λj=>DI (HK a) j (BN a) (λk=>CP k (HK a) j (BN a) (CE (BA (HK a) j k) (bC a j k) (BE (HK a) j k) (Ft a j k) (HK a) j k (BZ (BN a) j k)))) (JJ (BN a) (FU a i)) (JK (BN a) (FU a i)) (JI (BN a) (FU a i)) (JM (BN a) (FU a i)) (SF (BN a) (WO a) OB) (WK i))) (TN (MV (Zr a i)) (MV (Ni a i)) (Hk (BM (OO (Zr a i)) (OO (Ni a i))) (NS (Zr a i)) (NS (Ni a i)) (BPK (BM (NT (Zr a i)) (NT (Ni a i))) (Xp a) (Yr a)))) (HZ (D2 (BnF.mk (Zr a i) (UpI.f a))) (jJ (λj=>IB (OS (BM (NK j) (WK i)) (Mr j (Ch i)) (It a) (IY (nC a) (pK a) (rJ a) (Rj (BN a) (FU a i)) (LA (BN a) (FU a i)) (λk=>DI (BN a) k (FU a i) (λl=>CP l (BN a) k (FU a i) (CE (bC a k l) (BA (FU a i) k l) (Ft a k l) (BE (FU a i) k l) (BN a) k l (BZ (FU a i) k l)))) (Xp a) (Yr a))) (Of (BN a) (Ll a) j j j (lD a a) (λk=>ZB j k (nB a) (upP D2 a) k j j)) (YF j) (YF i))) (jJ (λj=>IB (OS (BM (NK j) (NK i)) (Mr j (UH (WK i))) (It a) (IY (nC a) (pK a) (rJ a) (Rj (BN a) (FU a i)) (LA (BN a) (FU a i)) (λk=>DI (BN a) k (FU a i) (λl=>CP l (BN a) k (FU a i) (CE (bC a k l) (BA (FU a i) k l) (Ft a k l) (BE (FU a i) k l) (BN a) k l (BZ (FU a i) k l)))) (Xp a) (Yr a))) (Of (BN a) (Ll a) j j j (lD a a) (λk=>ZB j k (nB a) (upP D2 a) k j j)) (YF j) (YF i))))) (AO (BM (nB a) (NK i)) (BQ (It a)) (IY (nC a) (pK a) (rJ a) (Xr a) (Yj a) (λj=>YJ (kM a j) (λk=>Js k (kM a j) (Ft a j k) (BN a) j)) (Xp a) (Yr a)))))):=by kernel_rfl
theorem DAE(a:UpI)(h:US a.w.g a.w.b)(hk:0<=a.k/\a.k<=a.w.b.length)(hh:a.w.has a.k=true):COY a:=by
 rw[CRI]<;> dsimp only[go_sem];simp only[CC,CU,XS,Fe,sK,sJ,Fh,AJP,if_true]
 obtain⟨s1,s2,s3,s4⟩:=Cb h hk.1 hk.2
 refine⟨⟨h,hk⟩,⟨⟨(DD a.w a.k).lo-1,(DD a.w a.k).hi⟩,⟨(HL (n:=(DD a.w a.k).lo-1) (by omega) (by omega)).symm,rfl⟩,Int.le_refl _,(by omega:(DD a.w a.k).lo-1<=(DD a.w a.k).hi),Int.le_refl _,λm hm=>SX 3000 m ((DD a.w a.k).lo-1) (DD a.w a.k).hi (by omega) (by omega) hm⟩,λx ⟨i1,i2,i3,i4⟩=>⟨λhl=>?_,λhl=>?_⟩⟩
 ·obtain⟨m1,m2⟩:=Q2 hl
  simp only[BQF (lo:=x.lo) (hi:=x.hi) (by omega) (by omega) (by omega),show ∀t,kB ⟨a.w,t⟩=(KB a.w.b t:Int) from λ_=>rfl,s4 _ (show (DD a.w a.k).lo<=x.lo+(x.hi-x.lo+1).tdiv 2 by omega) (by omega),bA hh,implies_true,and_true]
  obtain⟨n,hn⟩:∃n,(x.hi-x.lo).toNat=n+1:=⟨(x.hi-x.lo).toNat-1,by omega⟩
  have key:=i4 (n+1) (by omega)
  unfold upL at key
  rw[decide_eq_true hl] at key
  generalize hM:x.lo+(x.hi-x.lo+1).tdiv 2=M at *
  refine⟨by simp,⟨h,by omega,by omega⟩,λhp=>⟨⟨M,x.hi⟩,⟨rfl,rfl⟩,⟨(by omega:(DD a.w a.k).lo-1<=M),m2,i3,λm hm=>?_⟩,(by omega:(x.hi-M).toNat<(x.hi-x.lo).toNat)⟩,λhp=>⟨⟨x.lo,M-1⟩,⟨rfl,(HL (n:=M-1) (by omega) (by omega)).symm⟩,⟨i1,(by omega:x.lo<=M-1),(by omega:M-1<=(DD a.w a.k).hi),λm hm=>?_⟩,(by omega:(M-1-x.lo).toNat<(x.hi-x.lo).toNat)⟩⟩
  ·rw[key,show upP D2 a M=true from hp]
   exact SX n m M x.hi m2 (by omega) hm
  ·rw[key,show upP D2 a M=false from hp]
   exact SX n m x.lo (M-1) (by omega) (by omega) hm
 ·rw[i4 0 (by omega)];rfl
theorem BXM:AH ZP 90 ((C_up H7 91).spec (dUpI 91)):=PW (C_up H7 91) (A_up H7 91 ((Uv H7).spec dBnF)) [] [] Tryz.func90 (λ_=>by kernel_rfl) (λ_=>AA B7 (AA oO (AA CWL AD))) (λ(a:UpI) h=>by
 have h:US a.w.g a.w.b/\0<=a.k/\a.k<=a.w.b.length/\a.w.has a.k=true:=h
 exact CYS a h.1 ⟨h.2.1,h.2.2.1⟩ h.2.2.2) (λ_=>RA rfl rfl) _
theorem BXE:AH ZP 90 ((C_up D2 93).spec (dUpI 93)):=PW (C_up D2 93) (A_up D2 93 ((Uv D2).spec dBnF)) [] [] Tryz.func90 (λ_=>by kernel_rfl) (λ_=>AA B7 (AA oO (AA CTF AD))) (λ(a:UpI) h=>by
 have h:US a.w.g a.w.b/\0<=a.k/\a.k<=a.w.b.length/\a.w.has a.k=true:=h
 exact DAE a h.1 ⟨h.2.1,h.2.2.1⟩ h.2.2.2) (λ_=>RA rfl rfl) _
def dryR(r:Rt):Bool:=r.n==0&&r.d==1
def CFR:=pD dR1 λr=>.bool (dryR r)
def CGW(r:Rt):Prop:=AS ZP (ann 6 []) Tryz.f94 (AE Tryz.f94) (xR1 r) (AB []) (.bool (dryR r)) [] [] []
theorem CKE(r:Rt):(CGW r)=(Va (dryR r) (Mm (OJ (MH r)) (VS (QA r) 1))):=by kernel_rfl
structure BnO where
 b:Bnd
def bxF:AObj:=.box [.fn (.func 94) [] []]
def dBnO:List AVal->Heap->Option (BnO×List (Nat×Nat)×List Nat)
 |[.d x,.bptr id _],H=>match H id with
  | .live (.box [.fn (.func g) [] []])=>if g=94 then some (⟨dBnd x⟩,[(100,id)],[]) else none
  |_=>none
 |_,_=>none
def Ux(v:BnO->Bool):Ctr:={ ro:=[100],α:=BnO,xs:=λa=>[.d (eBnd a.b),.bptr 100 0],L:=λ_=>[(100,bxF)],val:=λa=>.bool (v a),keep:=λ_=>[(100,.live bxF)] }
def rU(a:BnO):Bool:=dryR a.b.hi
def sY(a:BnO):Bool:=dryR a.b.lo
def BTQ:Ann:={ ann 8 [(94,CFR)] with E:=[100] }
def COR(a:BnO):Prop:=AS ZP BTQ Tryz.f95 (AE Tryz.f95) ((Ux rU).xs a) (AB ((Ux rU).L a)) ((Ux rU).val a) ((Ux rU).keep a) [] []
theorem CWO(a:BnO):(COR a)=(Va (rU a) (dryR (hd77 (BnO.b a)))):=by kernel_rfl
def COB(a:BnO):Prop:=AS ZP BTQ Tryz.f96 (AE Tryz.f96) ((Ux sY).xs a) (AB ((Ux sY).L a)) ((Ux sY).val a) ((Ux sY).keep a) [] []
theorem CRH(a:BnO):(COB a)=(Va (sY a) (dryR (hd76 (BnO.b a)))):=by kernel_rfl
theorem BOO:AH ZP 94 CFR:=OG xR1 hR1 λg _=>WP (A:=ann 6 []) (ren:=[]) (fz:=[]) Tryz.func94 (by kernel_rfl) AD (by
 show CGW g;rw[CKE]<;> dsimp only[go_sem];unfold dryR;rw[Bool.and_true])
theorem CSC:AH ZP 95 ((Ux rU).spec dBnO):=PW (Ux rU) (λ_=>BTQ) [] [] Tryz.func95 (λ_=>by kernel_rfl) (λ_=>AA BOO AD) (λ(a:BnO) _=>by
 show COR a;rw[CWO]<;> dsimp only[go_sem];rfl) (λ_=>RA rfl rfl) _
theorem CSI:AH ZP 96 ((Ux sY).spec dBnO):=PW (Ux sY) (λ_=>BTQ) [] [] Tryz.func96 (λ_=>by kernel_rfl) (λ_=>AA BOO AD) (λ(a:BnO) _=>by
 show COB a;rw[CRH]<;> dsimp only[go_sem];rfl) (λ_=>RA rfl rfl) _
def dUpO(n:FuncId):List AVal->Heap->Option (BkI×List (Nat×Nat)×List Nat)
 |[.bptr id _,.d k,.fn (.func g) [] [.bptr c _]],H=>if g=n then match ARU H id,H c with
  |some (w,q),.live (.box [.fn (.func f) [] []])=>if f=94 then some (⟨w,EG k⟩,[(100,id),(101,q),(102,c)],[]) else none
  |_,_=>none else none
 |_,_=>none
def mX(v:BnO->Bool)(a:BkI)(t:Int):Bool:=v ⟨bndM (lB ⟨a.w,t⟩) t⟩
def sT(v:BnO->Bool)(a:BkI):Int:=upL (mX v a) 3000 ((DD a.w a.k).lo-1) (DD a.w a.k).hi
def upHO(a:BkI):List (Nat×HCell):=bkK a.w ++ [(102,.live bxF)]
def upO3(v:BnO->Bool)(n:FuncId)(a:BkI):Shape:={ α:=LH,dflt:=default,T:=λx=>⟨[(0,.bptr 100 0),(2,.fn (.func n) [] [.bptr 102 0]),(8,.int x.lo),(9,.int x.hi)],upHO a⟩,inv:=λx=>(DD a.w a.k).lo-1<=x.lo/\x.lo<=x.hi/\x.hi<=(DD a.w a.k).hi/\∀m:Nat,(x.hi-x.lo).toNat<=m->sT v a=upL (mX v a) m x.lo x.hi,meas:=λx=>(x.hi-x.lo).toNat }
def cJ(v:BnO->Bool)(n:FuncId):Ctr:={ ro:=[100,101,102],α:=BkI,xs:=λa=>[.bptr 100 0,.int a.k,.fn (.func n) [] [.bptr 102 0]],L:=λa=>bkL a.w ++ [(102,bxF)],val:=λa=>.int (sT v a),keep:=λa=>upHO a,pre:=λa=>[US a.w.g a.w.b/\0<=a.k/\a.k<=a.w.b.length/\a.w.has a.k=true] }
def BRX(v:BnO->Bool)(n:FuncId)(f:Sym.Spec)(a:BkI):Ann:={ ann 44 [(89,C_span.spec dBkI),(83,C_bnd.spec dBkt),(n,f)] with E:=[100,101,102],loops:=λid=>if id=3 then some [upO3 v n a] else none }
def BZQ(a:BkI):Prop:=AS ZP (BRX rU 95 ((Ux rU).spec dBnO) a) Tryz.f90 (AE Tryz.f90) ((cJ rU 95).xs a) (AB ((cJ rU 95).L a)) ((cJ rU 95).val a) ((cJ rU 95).keep a) [] []
abbrev jW:=sT
abbrev AYZ a b:=BHM a (IA b)
abbrev oB a b:=AYZ (CW a) b
abbrev FW a b:=BIP (CW a) b
abbrev Zj a b c:=BA (CW a) b c
abbrev Lu a b:=BJS (CW a) b
abbrev Yn a b:=dBnd (DVal.agg (AMM (MV (Lu a b)) (OO (Lu a b)) (AMM (NS (Lu a b)) (NT (Lu a b)) BXK)))
abbrev HG a:=Ej (CW a)
abbrev Pm a:=bH (CW a)
attribute [go_sem] jW AYZ oB FW Zj Lu Yn HG Pm
theorem CLT(a:BkI):(BZQ a)=(Sg (AK (IA a)) (HQ (Pm a) (VZ a)) (EK (Pm a) (VZ a)) (BK (BC (PE a) (KF a)) (BR (PE a) (KF a)) CZ (LX a) (LQ a) (EL (λi=>Tv (Ex (HG a) i) (WL a i) (λj=>CP j (HG a) i (CW a) (CE (BA (HG a) i j) (Zj a i j) (BE (HG a) i j) (Ul a i j) (HG a) i j (BZ (CW a) i j))))) (HQ (VZ a) (Pm a)) (EK (VZ a) (Pm a)) (X7 (BC (KF a) (PE a)) (BR (KF a) (PE a)) CZ (LX a) (LQ a) (EL (λi=>fC (WL a i) (HG a) i (λj=>zL j (WL a i) (CW a) i (HG a) (CE (Zj a i j) (BA (HG a) i j) (Ul a i j) (BE (HG a) i j) (CW a) i j (BZ (HG a) i j))))) (SF (CW a) (PE a) OB) (IA a) (gY (IA a) (PE a)))) (jJ (λi=>xB (TN (NK i) (UH (Mc (HG a) (IA a))) (TX (Mr i (AYZ (HG a) a)) (MC a) (IR a) (NL a) (NQ a) (LX a) (LQ a) (λj=>SL a j (λk=>RQ k a j a j k a j)))) (AGH (CW a) (IA a) i) (KO (NK i) (Ch i)) (Ch i) (oB a a) (AG (λj=>ZB i j (jW rU a) (mX rU a) j i i)))) (BEJ (λi=>So (Of (CW a) (IA a) i i i (oB a a) (λj=>ZB i j (jW rU a) (mX rU a) j i i)) (NK i) (Ch i) (BD Rk (DY (AK (WK i)) (HQ (Pm a) (VZ a)) (EK (Pm a) (VZ a)) (BC (PE a) (KF a)) (BR (PE a) (KF a)) CZ (LX a) (Jf (LQ a) (λj=>Tv (Ex (HG a) j) (WL a j) (λk=>CP k (HG a) j (CW a) (CE (BA (HG a) j k) (Zj a j k) (BE (HG a) j k) (Ul a j k) (HG a) j k (BZ (CW a) j k)))) (kJ (VZ a) (FW a i)) (mS (VZ a) (FW a i)) (OL (KF a) (FW a i)) (OX (KF a) (FW a i)) (SF (CW a) (PE a) OB) (WK i))) (TN (MV (Yn a i)) (MV (Lu a i)) (Lm (OO (Yn a i)) (OO (Lu a i)) (NS (Yn a i)) (NS (Lu a i)) (NT (Yn a i)) (NT (Lu a i)))) (HZ (rU (BnO.mk (Yn a i))) (jJ (λj=>IB (TN (NK j) (WK i) (Tg (Mr j (Ch i)) (MC a) (IR a) (NL a) (NQ a) CZ (λk=>Sb (CW a) k (FW a i)) (LA (CW a) (FW a i)) (EL (λk=>fC (WL a k) (FW a i) k (λl=>zL l (WL a k) (CW a) k (FW a i) (CE (Zj a k l) (BA (FW a i) k l) (Ul a k l) (BE (FW a i) k l) (CW a) k l (BZ (FW a i) k l))))))) (Of (CW a) (IA a) j j j (oB a a) (λk=>ZB j k (jW rU a) (mX rU a) k j j)) (YF j) (YF i))) (jJ (λj=>IB (TN (NK j) (NK i) (Tg (Mr j (UH (WK i))) (MC a) (IR a) (NL a) (NQ a) CZ (λk=>Sb (CW a) k (FW a i)) (LA (CW a) (FW a i)) (EL (λk=>fC (WL a k) (FW a i) k (λl=>zL l (WL a k) (CW a) k (FW a i) (CE (Zj a k l) (BA (FW a i) k l) (Ul a k l) (BE (FW a i) k l) (CW a) k l (BZ (FW a i) k l))))))) (Of (CW a) (IA a) j j j (oB a a) (λk=>ZB j k (jW rU a) (mX rU a) k j j)) (YF j) (YF i))))) (TX (BM (jW rU a) (NK i)) (MC a) (IR a) (NL a) (NQ a) (LX a) (LQ a) (λj=>SL a j (λk=>RQ k a j a j k a j)))))):=by kernel_rfl
def CFK(a:BkI):Prop:=AS ZP (BRX sY 96 ((Ux sY).spec dBnO) a) Tryz.f90 (AE Tryz.f90) ((cJ sY 96).xs a) (AB ((cJ sY 96).L a)) ((cJ sY 96).val a) ((cJ sY 96).keep a) [] []
theorem CHX(a:BkI):(CFK a)=(Sg (AK (IA a)) (HQ (Pm a) (VZ a)) (EK (Pm a) (VZ a)) (BK (BC (PE a) (KF a)) (BR (PE a) (KF a)) CZ (LX a) (LQ a) (EL (λi=>Tv (Ex (HG a) i) (WL a i) (λj=>CP j (HG a) i (CW a) (CE (BA (HG a) i j) (Zj a i j) (BE (HG a) i j) (Ul a i j) (HG a) i j (BZ (CW a) i j))))) (HQ (VZ a) (Pm a)) (EK (VZ a) (Pm a)) (X7 (BC (KF a) (PE a)) (BR (KF a) (PE a)) CZ (LX a) (LQ a) (EL (λi=>fC (WL a i) (HG a) i (λj=>zL j (WL a i) (CW a) i (HG a) (CE (Zj a i j) (BA (HG a) i j) (Ul a i j) (BE (HG a) i j) (CW a) i j (BZ (HG a) i j))))) (SF (CW a) (PE a) OB) (IA a) (gY (IA a) (PE a)))) (jJ (λi=>xB (TN (NK i) (UH (Mc (HG a) (IA a))) (TX (Mr i (AYZ (HG a) a)) (MC a) (IR a) (NL a) (NQ a) (LX a) (LQ a) (λj=>SL a j (λk=>RQ k a j a j k a j)))) (AGH (CW a) (IA a) i) (KO (NK i) (Ch i)) (Ch i) (oB a a) (AG (λj=>ZB i j (jW sY a) (mX sY a) j i i)))) (BEJ (λi=>So (Of (CW a) (IA a) i i i (oB a a) (λj=>ZB i j (jW sY a) (mX sY a) j i i)) (NK i) (Ch i) (BD Rk (DY (AK (WK i)) (HQ (Pm a) (VZ a)) (EK (Pm a) (VZ a)) (BC (PE a) (KF a)) (BR (PE a) (KF a)) CZ (LX a) (Jf (LQ a) (λj=>Tv (Ex (HG a) j) (WL a j) (λk=>CP k (HG a) j (CW a) (CE (BA (HG a) j k) (Zj a j k) (BE (HG a) j k) (Ul a j k) (HG a) j k (BZ (CW a) j k)))) (kJ (VZ a) (FW a i)) (mS (VZ a) (FW a i)) (OL (KF a) (FW a i)) (OX (KF a) (FW a i)) (SF (CW a) (PE a) OB) (WK i))) (TN (MV (Yn a i)) (MV (Lu a i)) (Lm (OO (Yn a i)) (OO (Lu a i)) (NS (Yn a i)) (NS (Lu a i)) (NT (Yn a i)) (NT (Lu a i)))) (HZ (sY (BnO.mk (Yn a i))) (jJ (λj=>IB (TN (NK j) (WK i) (Tg (Mr j (Ch i)) (MC a) (IR a) (NL a) (NQ a) CZ (λk=>Sb (CW a) k (FW a i)) (LA (CW a) (FW a i)) (EL (λk=>fC (WL a k) (FW a i) k (λl=>zL l (WL a k) (CW a) k (FW a i) (CE (Zj a k l) (BA (FW a i) k l) (Ul a k l) (BE (FW a i) k l) (CW a) k l (BZ (FW a i) k l))))))) (Of (CW a) (IA a) j j j (oB a a) (λk=>ZB j k (jW sY a) (mX sY a) k j j)) (YF j) (YF i))) (jJ (λj=>IB (TN (NK j) (NK i) (Tg (Mr j (UH (WK i))) (MC a) (IR a) (NL a) (NQ a) CZ (λk=>Sb (CW a) k (FW a i)) (LA (CW a) (FW a i)) (EL (λk=>fC (WL a k) (FW a i) k (λl=>zL l (WL a k) (CW a) k (FW a i) (CE (Zj a k l) (BA (FW a i) k l) (Ul a k l) (BE (FW a i) k l) (CW a) k l (BZ (FW a i) k l))))))) (Of (CW a) (IA a) j j j (oB a a) (λk=>ZB j k (jW sY a) (mX sY a) k j j)) (YF j) (YF i))))) (TX (BM (jW sY a) (NK i)) (MC a) (IR a) (NL a) (NQ a) (LX a) (LQ a) (λj=>SL a j (λk=>RQ k a j a j k a j)))))):=by kernel_rfl
theorem CSM(a:BkI)(h:US a.w.g a.w.b)(hk:0<=a.k/\a.k<=a.w.b.length)(hh:a.w.has a.k=true):BZQ a:=by
 rw[CLT]<;> dsimp only[go_sem];simp only[CC,CU,XS,Fe,sK,sJ,Fh,AJP,if_true]
 obtain⟨s1,s2,s3,s4⟩:=Cb h hk.1 hk.2
 refine⟨⟨h,hk⟩,⟨⟨(DD a.w a.k).lo-1,(DD a.w a.k).hi⟩,⟨(HL (n:=(DD a.w a.k).lo-1) (by omega) (by omega)).symm,rfl⟩,Int.le_refl _,(by omega:(DD a.w a.k).lo-1<=(DD a.w a.k).hi),Int.le_refl _,λm hm=>SX 3000 m ((DD a.w a.k).lo-1) (DD a.w a.k).hi (by omega) (by omega) hm⟩,λx ⟨i1,i2,i3,i4⟩=>⟨λhl=>?_,λhl=>?_⟩⟩
 ·obtain⟨m1,m2⟩:=Q2 hl
  simp only[BQF (lo:=x.lo) (hi:=x.hi) (by omega) (by omega) (by omega),show ∀t,kB ⟨a.w,t⟩=(KB a.w.b t:Int) from λ_=>rfl,s4 _ (show (DD a.w a.k).lo<=x.lo+(x.hi-x.lo+1).tdiv 2 by omega) (by omega),bA hh,implies_true,and_true]
  obtain⟨n,hn⟩:∃n,(x.hi-x.lo).toNat=n+1:=⟨(x.hi-x.lo).toNat-1,by omega⟩
  have key:=i4 (n+1) (by omega)
  unfold upL at key
  rw[decide_eq_true hl] at key
  generalize hM:x.lo+(x.hi-x.lo+1).tdiv 2=M at *
  refine⟨by simp,⟨h,by omega,by omega⟩,λhp=>⟨⟨M,x.hi⟩,⟨rfl,rfl⟩,⟨(by omega:(DD a.w a.k).lo-1<=M),m2,i3,λm hm=>?_⟩,(by omega:(x.hi-M).toNat<(x.hi-x.lo).toNat)⟩,λhp=>⟨⟨x.lo,M-1⟩,⟨rfl,(HL (n:=M-1) (by omega) (by omega)).symm⟩,⟨i1,(by omega:x.lo<=M-1),(by omega:M-1<=(DD a.w a.k).hi),λm hm=>?_⟩,(by omega:(M-1-x.lo).toNat<(x.hi-x.lo).toNat)⟩⟩
  ·rw[key,show mX rU a M=true from hp]
   exact SX n m M x.hi m2 (by omega) hm
  ·rw[key,show mX rU a M=false from hp]
   exact SX n m x.lo (M-1) (by omega) (by omega) hm
 ·rw[i4 0 (by omega)];rfl
theorem BTG:AH ZP 90 ((cJ rU 95).spec (dUpO 95)):=PW (cJ rU 95) (BRX rU 95 ((Ux rU).spec dBnO)) [] [] Tryz.func90 (λ_=>by kernel_rfl) (λ_=>AA B7 (AA oO (AA CSC AD))) (λ(a:BkI) h=>by
 have h:US a.w.g a.w.b/\0<=a.k/\a.k<=a.w.b.length/\a.w.has a.k=true:=h
 exact CSM a h.1 ⟨h.2.1,h.2.2.1⟩ h.2.2.2) (λ_=>RA rfl rfl) _
theorem CUP(a:BkI)(h:US a.w.g a.w.b)(hk:0<=a.k/\a.k<=a.w.b.length)(hh:a.w.has a.k=true):CFK a:=by
 rw[CHX]<;> dsimp only[go_sem];simp only[CC,CU,XS,Fe,sK,sJ,Fh,AJP,if_true]
 obtain⟨s1,s2,s3,s4⟩:=Cb h hk.1 hk.2
 refine⟨⟨h,hk⟩,⟨⟨(DD a.w a.k).lo-1,(DD a.w a.k).hi⟩,⟨(HL (n:=(DD a.w a.k).lo-1) (by omega) (by omega)).symm,rfl⟩,Int.le_refl _,(by omega:(DD a.w a.k).lo-1<=(DD a.w a.k).hi),Int.le_refl _,λm hm=>SX 3000 m ((DD a.w a.k).lo-1) (DD a.w a.k).hi (by omega) (by omega) hm⟩,λx ⟨i1,i2,i3,i4⟩=>⟨λhl=>?_,λhl=>?_⟩⟩
 ·obtain⟨m1,m2⟩:=Q2 hl
  simp only[BQF (lo:=x.lo) (hi:=x.hi) (by omega) (by omega) (by omega),show ∀t,kB ⟨a.w,t⟩=(KB a.w.b t:Int) from λ_=>rfl,s4 _ (show (DD a.w a.k).lo<=x.lo+(x.hi-x.lo+1).tdiv 2 by omega) (by omega),bA hh,implies_true,and_true]
  obtain⟨n,hn⟩:∃n,(x.hi-x.lo).toNat=n+1:=⟨(x.hi-x.lo).toNat-1,by omega⟩
  have key:=i4 (n+1) (by omega)
  unfold upL at key
  rw[decide_eq_true hl] at key
  generalize hM:x.lo+(x.hi-x.lo+1).tdiv 2=M at *
  refine⟨by simp,⟨h,by omega,by omega⟩,λhp=>⟨⟨M,x.hi⟩,⟨rfl,rfl⟩,⟨(by omega:(DD a.w a.k).lo-1<=M),m2,i3,λm hm=>?_⟩,(by omega:(x.hi-M).toNat<(x.hi-x.lo).toNat)⟩,λhp=>⟨⟨x.lo,M-1⟩,⟨rfl,(HL (n:=M-1) (by omega) (by omega)).symm⟩,⟨i1,(by omega:x.lo<=M-1),(by omega:M-1<=(DD a.w a.k).hi),λm hm=>?_⟩,(by omega:(M-1-x.lo).toNat<(x.hi-x.lo).toNat)⟩⟩
  ·rw[key,show mX sY a M=true from hp]
   exact SX n m M x.hi m2 (by omega) hm
  ·rw[key,show mX sY a M=false from hp]
   exact SX n m x.lo (M-1) (by omega) (by omega) hm
 ·rw[i4 0 (by omega)];rfl
theorem BQC:AH ZP 90 ((cJ sY 96).spec (dUpO 96)):=PW (cJ sY 96) (BRX sY 96 ((Ux sY).spec dBnO)) [] [] Tryz.func90 (λ_=>by kernel_rfl) (λ_=>AA B7 (AA oO (AA CSI AD))) (λ(a:BkI) h=>by
 have h:US a.w.g a.w.b/\0<=a.k/\a.k<=a.w.b.length/\a.w.has a.k=true:=h
 exact CUP a h.1 ⟨h.2.1,h.2.2.1⟩ h.2.2.2) (λ_=>RA rfl rfl) _
end Go.Bal
