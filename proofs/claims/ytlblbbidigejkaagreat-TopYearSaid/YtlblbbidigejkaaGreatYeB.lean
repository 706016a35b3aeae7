/- TopYear: compacts: what states get of a flow. -/
import Derived.Test.YtlblbbidigejkaaGreatYeC
set_option linter.unusedVariables false
set_option linter.unusedSimpArgs false
set_option maxRecDepth 8000
namespace Go.Bal
open Go Go.Sym Go.Proofs
structure Srv where
 c:Cmp
 f:Int
def ofO(c:Cmp)(g:Nat->Int):AObj:=.nbox [CF c.s,eRgs c.l] 12 0 (λi=>g (i-2))
structure OfS where
 c:Cmp
 g:Nat->Int
 f:Int
def C_sTkn:Ctr:={ ro:=[100],α:=OfS,xs:=λx=>[.bptr 100 0,.int x.f],L:=λx=>[(100,ofO x.c x.g)],val:=λ_=>.fn (.func 117) [] [.bptr 0 0,.bptr 1 0],keep:=λx=>[(100,.live (ofO x.c x.g)),(0,.live (.box [.bptr 100 0])),(1,.live (.box [.int x.f]))] }
def CFQ:List AVal->Heap->Option (OfS×List (Nat×Nat)×List Nat)
 |[.bptr id _,.d (.v (.int .i64 f))],H=>match H id with
  | .live (.nbox [.v (.int .i64 s),.list _ n r _] _ _ g)=>some (⟨⟨s,HQ n λj=>dRgh (r j)⟩,λi=>g (i+2),f⟩,[(100,id)],[])
  |_=>none
 |_,_=>none
def BZV(x:OfS):Prop:=AS ZP { ann 6 [] with E:=[100] } Tryz.f83 (AG Tryz.f83) (C_sTkn.xs x) (AC (C_sTkn.L x)) (C_sTkn.val x) (C_sTkn.keep x) [(0,1000),(1,1016)] []
abbrev K8:=OfS.c
abbrev qC a:=JM a 12
abbrev BBY a b c:=BJV a (ALF (eRgs b) c)
attribute [go_sem] K8 qC BBY
theorem CLI(x:OfS):(BZV x)=(BW (AI (Mw (K8 x))) (BI (VY (K8 x))) (AE (λi=>Hz i (VY (K8 x)) (Dv (K8 x) i) (Ei (K8 x) i) (Dy (K8 x) i))) AB (AE (λi=>ACU (BBY (Mw (K8 x)) (Cmp.l (K8 x)) AUW) i i (qC (BBY (Mw (K8 x)) (Cmp.l (K8 x)) AUW)) (AI (OfS.g x (KO i 2))))) (AI (OfS.f x))):=by kernel_rfl
def C_clI:Ctr:={ α:=List Int,xs:=λl=>[.d (BM l)],L:=λ_=>[],val:=λl=>.d (BM l),keep:=λ_=>[],pre:=λl=>[0<l.length/\l.length<1073741824] }
def CUR(l:List Int):Prop:=AS ZP (ann 8 []) Tryz.f84 (AG Tryz.f84) (C_clI.xs l) (AC []) (C_clI.val l) [] [] []
theorem CWR(l:List Int):(CUR l)=(Hl (FI 0 (BQ l)) (ANG (AII AB 0 (BI 1)) EB (tD 0 l (BI 1)) (Y9 (BQ l)) (APG (BQ l) 9223372036854775807) (AFC (AJ (BQ l)) 8)) (Sc l (AJ (BQ l))) (λi=>jU i l l (Bu i))):=by kernel_rfl
def svH(x:Srv)(k:Nat):List (Nat×HCell):=[(2032,.live (ofO x.c (wS x.c.l x.f k))),(2048,.live (.box [.bptr 2032 0])),(3032,.live (.box [.bptr 2032 0])),(3033,.live (.box [.int (S7 x.c.l x.f k)]))]
def svI(x:Srv)(l:Nat):Shape:={ α:=Nat,dflt:=0,T:=λk=>⟨[(0,.fn (.yield l) [] []),(2,.bptr 3033 0),(11,.d (eRgs x.c.l)),(12,.int x.c.l.length),(13,.int k)],svH x k⟩,inv:=λk=>k<=x.c.l.length,meas:=λk=>x.c.l.length-k }
noncomputable def itTk(x:Srv):IterAnn:={ fn:=Tryz.f117,code:=AG Tryz.f117,live:=[5],ann:={ base:=λid=>100000+1000*(id+1),Γ:=Sym.look [],E:=[2032,2048,3032,3033],n:=30,inner:=λgs id=>if id=1 then some [svI x (gs.getD 0 0)] else none } }
noncomputable def CCR(x:Srv):Ann:={ ann 43 [(83,C_sTkn.spec CFQ),(84,C_clI.spec d_Is)] with iter:=λg=>if g=117 then some (itTk x) else none }
def svV(x:Srv):List Int:=HQ x.c.s.toNat λj=>wS x.c.l x.f x.c.l.length j
def DCH(x:Srv):List Prop:=[okCm x.c/\0<=x.f/\x.f<=1000000000]
def C_sSrv:Ctr:={ α:=Srv,xs:=λx=>[.d (eCmp x.c),.int x.f],L:=λ_=>[],val:=λx=>.d (BM (svV x)),keep:=λ_=>[],pre:=DCH }
def BIR:List AVal->Heap->Option (Srv×List (Nat×Nat)×List Nat)
 |[c,.d (.v (.int .i64 f))],H=>(BHN [c] H).map λp=>(⟨p.1,f⟩,[],[])
 |_,_=>none
def CIK(x:Srv):Prop:=AS ZP (CCR x) Tryz.f49 (AG Tryz.f49) (C_sSrv.xs x) (AC []) (C_sSrv.val x) [] [] []
abbrev eA:=Srv.f
abbrev ND:=Srv.c
abbrev BFY:=Nat.beq
abbrev ZQ a:=Mw (ND a)
abbrev AXT a:=OY (ZQ a)
abbrev F1 a(b:Nat->Int):=wH (AXT a) b
abbrev N8 a:=Cmp.l (ND a)
abbrev Ol a b c d:=wS (N8 a) (eA b) c (KO d 2)
abbrev YM:=AJ 2
abbrev BAI a b:=BBY (ZQ a) b AUW
abbrev Sj a b:=BAI a (N8 b)
abbrev XM a:=VY (ND a)
abbrev E9 a b c d e f g h:=AP a b c d e a f g h
abbrev rK a b:=Ei (ND a) b
abbrev L0 a b:=Dy (ND a) b
abbrev Hv a b:=Dv (ND a) b
attribute [go_sem] eA ND BFY ZQ AXT F1 N8 Ol YM BAI Sj XM E9 rK L0 Hv
theorem CLP(x:Srv):(CIK x)=(Ob (KD (eA x) (ZQ x) (BU (xP (ND x) (XM x)) (AE (λi=>Li i (ND x) (VE (ND x) i) (Hv x i) (UW (ND x) i) (rK x i) (VW (ND x) i) (L0 x i))) AB (AE (λi=>ACU (BAI x (I9 (ND x))) i i (qC (BAI x (I9 (ND x)))) Y3)) (AI (ZQ x)) (BB (XM x) (Zf (ND x))) (λi=>EJ i (XM x) (Hv x i) (VE (ND x) i) (rK x i) (UW (ND x) i) (L0 x i) (VW (ND x) i)) AB (AE (λi=>ACU (Sj x x) i i (qC (Sj x x)) Y3)))) (λi=>LR (λj=>Vs (AGQ i (BI (XM x)) (E9 (AE (λk=>Hz k (XM x) (Hv x k) (rK x k) (L0 x k))) (BY (XM x)) (BC j) (AI (ZQ x)) (BI (XM x)) AB (AE (λk=>ACU (Sj x x) k k (qC (Sj x x)) (BZ (Ol x x j k)))) (AN (S7 (N8 x) (eA x) j) (eA x)))) j (XM x)) (λj=>OU (MH j (XM x)) j (XM x) (AO (CL j (XM x)) (BI i) (BW (FV (Hv x j) 12) (VU (Sj x x) (hJ (OY (Hv x j))) (OB (hJ (OY (Hv x j))) (qC (Sj x x)))) (Ha 1000) (FV (Hv x j) 12) (DC (Sj x x) (hJ (OY (Hv x j)))) (OB (hJ (OY (Hv x j))) (qC (Sj x x)))) (EA (λk=>Bg (AGQ i (BI (XM x)) (E9 (AE (λl=>Hz l (XM x) (Hv x l) (rK x l) (L0 x l))) (BY (XM x)) (AR k j) (AI (ZQ x)) (BI (XM x)) AB (AE (λl=>ACU (Sj x x) l l (qC (Sj x x)) (AN (Ol x x k l) (vE (BFY l (JM (OY (Hv x j)) YM)) (CP (Ol x x j (JM (OY (Hv x j)) YM)) (TP (UC (hd51 (rK x j) (S7 (N8 x) (eA x) j)) (CW 1000 (L0 x j))) 1000)) (Ol x x j l))))) (AN (S7 (N8 x) (eA x) k) (CW (S7 (N8 x) (eA x) j) (hd51 (rK x j) (S7 (N8 x) (eA x) j)))))) k (XM x) k j))) (AQ (UY (AO (ZK 0 (ZQ x)) (KM (ZQ x) (AZ 12)) (A4 (Sj x x)) (DC (JM 2 (AXT x)) (qC (Sj x x)))) (Sc (F1 x (λk=>Ol x x j (JM YM k))) (AXT x)) (λk=>AYF k (F1 x (λl=>Ol x x j (JM 2 l))) (F1 x (λl=>Ol x x j (JM YM l))) k (Ol x x j (JM YM k))) (Iq (BQ (F1 x (λk=>Ol x x j (JM 2 k))))) (WJ (BQ (F1 x (λk=>Ol x x j (JM 2 k)))))) (BH (svV x) (F1 x (λk=>Ol x x j (JM YM k)))) (BO (svV x) (F1 x (λk=>Ol x x j (JM YM k)))))))):=by kernel_rfl
theorem CPJ:AH ZP 83 (C_sTkn.spec CFQ):=MK C_sTkn (λ_=>{ ann 6 [] with E:=[100] }) [(0,1000),(1,1016)] [] Tryz.func83 (λ_=>by kernel_rfl) (λ_=>AD) (λ(x:OfS) _=>by
 show BZV x;rw[CLI]<;> dsimp only[go_sem];simp only[CC,CU,CK,JD,FM,FK,FL,QZ,KA,JV,OE,OD]) (λ_=>OA rfl rfl) _
theorem CVG:AH ZP 84 (C_clI.spec d_Is):=MK C_clI (λ_=>ann 8 []) [] [] Tryz.func84 (λ_=>by kernel_rfl) (λ_=>AD) (λ(l:List Int) h=>by
 obtain⟨h1,h2⟩:0<l.length/\l.length<1073741824:=h
 show CUR l;rw[CWR]<;> dsimp only[go_sem];simp only[CC,CU,CK,JD,FM,FK,FL,QZ,KA,JV,OE,OD]
 exact⟨h1,⟨λh=>(by cases h),by omega,by omega⟩,λi _=>rfl⟩) (λ_=>OA rfl rfl) _
theorem BON{c:Cmp}(h:okCm c):RgsOk c.s c.l:=by
 obtain⟨h1,h2,h3⟩:=h
 refine⟨h2.2,h1,λi hi=>?_⟩
 have a:=List.all_eq_true.1 h3 _ (FD hi)
 have e:wr (c.s-1)=c.s-1:=ER (by omega) (by omega)
 unfold okRg NJ at a
 rw[e] at a
 simp only[Bool.and_eq_true,decide_eq_true_eq] at a
 exact⟨by omega,by omega,by omega⟩
theorem CVC(x:Srv)(h:okCm x.c/\0<=x.f/\x.f<=1000000000):CIK x:=by
 obtain⟨h0,h1,h2⟩:=h
 have R:=BON h0
 have hs:=R.s
 have hn:=R.n
 rw[CLP]<;> dsimp only[go_sem];simp only[CC,CU,CK,JD,FM,FK,FL,QZ,KA,JV,OE,OD]
 refine⟨⟨0,⟨rfl,λ_ _ _=>rfl,rfl⟩,Nat.zero_le _⟩,λk hk=>⟨λhlt=>?_,λhge=>?_⟩⟩
 ·have hlt:k<x.c.l.length:=by omega
  have r:=(R.ok k hlt).s
  refine⟨⟨by omega,by omega⟩,⟨⟨r.1,by omega⟩,⟨by show 2<=_;omega,by show _<14;omega⟩,by decide,⟨r.1,by omega⟩,by show 2<=_;omega,by show _<14;omega⟩,k+1,⟨(BJ (by omega)).symm,λi hi1 hi2=>?_,rfl⟩,by omega,by omega⟩
  have hi1:2<=i:=hi1
  show wS x.c.l x.f (k+1) (i-2)=bif i.beq ((gD x.c.l k).s.toNat+2) then wr (wS x.c.l x.f k ((gD x.c.l k).s.toNat+2-2)+srX x.c.l x.f k) else wS x.c.l x.f k (i-2)
  show (bif decide (i-2=(gD x.c.l k).s.toNat) then wr (wS x.c.l x.f k (i-2)+srX x.c.l x.f k) else wS x.c.l x.f k (i-2))=_
  by_cases e:i=(gD x.c.l k).s.toNat+2
  ·subst e
   rw[decide_eq_true (show (gD x.c.l k).s.toNat+2-2=(gD x.c.l k).s.toNat by omega),show ((gD x.c.l k).s.toNat+2).beq ((gD x.c.l k).s.toNat+2)=true from Nat.beq_refl _]
  ·rw[decide_eq_false (show ¬ i-2=(gD x.c.l k).s.toNat by omega),show i.beq ((gD x.c.l k).s.toNat+2)=false from Bool.eq_false_iff.2 λq=>e (Nat.eq_of_beq_eq_true q)];rfl
 ·have hk:k=x.c.l.length:=by omega
  subst hk
  refine⟨⟨⟨by omega,by omega,Nat.le_refl 2,by show 2+_<=14;omega⟩,λi hi=>by rw[CS _ _ _ hi],by omega,by omega⟩,rng_length _ _,λi hi=>?_⟩
  have hi:i<x.c.s.toNat:=by rw[show (svV x).length=x.c.s.toNat from rng_length _ _] at hi;exact hi
  show gD (HQ x.c.s.toNat λj=>wS x.c.l x.f x.c.l.length j) i=gD (HQ x.c.s.toNat λi=>wS x.c.l x.f x.c.l.length (2+i-2)) i
  rw[CS _ _ _ hi,CS _ _ _ hi,Nat.add_sub_cancel_left]
theorem BVW:AH ZP 49 (C_sSrv.spec BIR):=MK C_sSrv CCR [] [] Tryz.func49 (λ_=>by kernel_rfl) (λ_=>AA CPJ (AA CVG AD)) CVC (λx=>ASE 117 (itTk x) rfl rfl AD Tryz.func117 (by kernel_rfl) (by kernel_rfl)) _
def C_sReal:Ctr:={ C_sSrv with val:=λx:Srv=>.tup [.d (BM (svV x)),.int 0] }
def BQM:Ann:=ann 20 [(47,C_sCheck.spec BHN),(48,APZ),(49,C_sSrv.spec BIR)]
def BUO(x:Srv):Prop:=AS ZP BQM Tryz.f17 (AG Tryz.f17) (C_sSrv.xs x) (AC []) (.tup [.d (BM (svV x)),.int 0]) [] [] []
abbrev Yx a b c:=svV (Srv.mk (ZU a b) c)
abbrev M1 a b:=GT (BVY (I9 a) (S1 b))
abbrev D6 a:=JH (Zf a) 30
attribute [go_sem] Yx M1 D6
theorem CBA(x:Srv):(BUO x)=(And (BW (AI (ZQ x)) (xP (ND x) (XM x)) (AE (λi=>Li i (ND x) (VE (ND x) i) (Hv x i) (UW (ND x) i) (rK x i) (VW (ND x) i) (L0 x i))) (AZD (ZQ x) 12) (D6 (ND x)) (M1 (ND x) (ZU (ZQ x) (ND x)))) (Be (JR (eA x) 1000000000) (lA (TI (svV x)) (sA 4)) (AO (AQ (AI (ZQ x)) (xP (ND x) (XM x)) (iP (AE (λi=>Li i (ND x) (VE (ND x) i) (Hv x i) (UW (ND x) i) (rK x i) (VW (ND x) i) (L0 x i))) (AI (eA x)) (CV (Bo (ZQ x)) (KM (ZQ x) 12) (D6 (ND x)) (M1 (ND x) (ZU (ZQ x) (ND x)))) (eA x) 1000000000)) (BH (svV x) (Yx (ZQ x) (ND x) (eA x))) (BO (svV x) (Yx (ZQ x) (ND x) (eA x))) AU))):=by kernel_rfl
theorem CLK(x:Srv)(h:okCm x.c/\0<=x.f/\x.f<=1000000000):BUO x:=by
 obtain⟨h0,h1,h2⟩:=h
 rw[CBA]<;> dsimp only[go_sem];simp only[CC,CU,CK,JD,FM,FK,FL,QZ,KA,JV,OE,OD]
 rw[Cp (show (0:Int)<=x.f/\x.f<=1000000000 by omega)]
 exact⟨h0,λh=>(by cases h),λ_=>⟨h0,h1,h2⟩⟩
theorem AWK(x:Srv)(h:okCm x.c/\0<=x.f/\x.f<=1000000000):FnT ZP 17 (C_sReal.xs x) (AC []) (C_sReal.val x) []:=TF (A:=BQM) (ren:=[]) (fz:=[]) Tryz.func17 (by kernel_rfl) (AA AUP (AA AXL (AA BVW AD))) (CLK x h)
theorem CKC:AH ZP 17 (C_sReal.spec BIR):=Ctr.spec_ok (C:=C_sReal) AWK _
structure LNI where
 l:List Lin
 i:Int
structure LNX where
 l:List Lin
 x:Lin
def netB(l:List Lin):AObj:=.box [.int 3,.d (AQJ l)]
def ckL(l:List Lin):List (Nat×AObj):=[(101,.box [.fn (.func 122) [] [.bptr 102 0]]),(102,netB l)]
def ckK(l:List Lin):List (Nat×HCell):=[(101,.live (.box [.fn (.func 122) [] [.bptr 102 0]])),(102,.live (netB l))]
def BYS(H:Heap)(id:Nat):Option (List Lin):=match H id with
 | .live (.box [_,.d (.list _ n f _)])=>some (HQ n λj=>dLin (f j))
 |_=>none
def BSP(H:Heap)(id:Nat):Option (List Lin×Nat):=match H id with
 | .live (.box [.fn _ _ [.bptr j _]])=>(BYS H j).map λl=>(l,j)
 |_=>none
def C_lCk1:Ctr:={ ro:=[102],α:=LNI,xs:=λa=>[.int a.i,.bptr 102 0],L:=λa=>[(102,netB a.l)],val:=λa=>.bool (NJ a.i 0 2),keep:=λa=>[(102,.live (netB a.l))] }
def BYC:List AVal->Heap->Option (LNI×List (Nat×Nat)×List Nat)
 |[.d (.v (.int .i64 i)),.bptr id _],H=>(BYS H id).map λl=>(⟨l,i⟩,[(102,id)],[])
 |_,_=>none
def CHO:Ann:={ ann 9 [(94,My)] with E:=[102] }
def CBF(a:LNI):Prop:=AS ZP CHO Tryz.f122 (AG Tryz.f122) (C_lCk1.xs a) (AC (C_lCk1.L a)) (C_lCk1.val a) (C_lCk1.keep a) [] []
theorem CPC(a:LNI):(CBF a)=(Hl (Sr (JR (LNI.i a) 2) (JR (LNI.i a) (Mo 3))) AW (TU (LNI.l a)) (λi=>Zz i (LNI.l a) i (LNI.l a) i)):=by kernel_rfl
def WA(x:Lin):Bool:=NJ x.f 0 2&&(NJ x.t 0 2&&(!(x.f==x.t)&&(NJ x.d 0 40000&&(NJ x.r (-1000000) 1000000&&NJ x.e 0 10000))))
def C_lCk2:Ctr:={ ro:=[101,102],α:=LNX,xs:=λa=>[.d (eLin a.x),.bptr 101 0],L:=λa=>ckL a.l,val:=λa=>.bool (WA a.x),keep:=λa=>ckK a.l }
def CHJ:List AVal->Heap->Option (LNX×List (Nat×Nat)×List Nat)
 |[.d d,.bptr id _],H=>(BSP H id).map λp=>(⟨p.1,dLin d⟩,[(101,id),(102,p.2)],[])
 |_,_=>none
def CCS:Ann:={ ann 36 [(94,My),(122,C_lCk1.spec BYC)] with E:=[101,102] }
def CIM(a:LNX):Prop:=AS ZP CCS Tryz.f124 (AG Tryz.f124) (C_lCk2.xs a) (AC (C_lCk2.L a)) (C_lCk2.val a) (C_lCk2.keep a) [] []
abbrev vR:=LNX.x
abbrev Jo:=LNX.l
abbrev AFJ:=WA
abbrev Nh:=wM 3
abbrev BJU a b c d e f g h:=YJ a b c d (AOS e) f (AUA g) h
abbrev BOV a b:=AN (APY a) b
abbrev BJJ a b:=AN (vP a) b
abbrev BKD a b c d e f g h:=BJU a b (BJJ c (vP d)) (BOV e (APY f)) g (AOS h) g (AUA h)
abbrev eG a b c d:=BKD a (vZ b) (Nu c d) b (Nu c d) b (Nu c d) b
abbrev BJN a b:=(@HQ Lin) (Xk a) (λi=>Nu b i)
abbrev GF a b:=Nu (BJN a a) b
abbrev IN a:=BJN a a
abbrev LO a:=Xk (IN a)
abbrev Qs a b:=BB a (LO b)
abbrev Qh a:=Qs (Xk a) a
abbrev AHN a b c:=HB a (LO b) c
abbrev BLL a b c:=BKD (vZ a) b a c a c a c
abbrev BDP a b c d e:=AHN a b (BLL c (Fb b d) e)
abbrev Ub a b c d e:=BDP a b c d (Nu b e)
abbrev Iw a b:=BB (LO a) b
abbrev YN a:=Iw a (Xk a)
attribute [go_sem] vR Jo AFJ Nh BJU BOV BJJ BKD eG BJN GF IN LO Qs Qh AHN BLL BDP Ub Iw YN
theorem CNC(a:LNX):(CIM a)=(Ox (Fj (AI (vZ (vR a))) AW (YN (Jo a)) (AE (λi=>Ub i (Jo a) (GF (Jo a) i) i i)) AW (Qh (Jo a)) (AE (λi=>Tz i (Jo a) (eG (Fb (Jo a) i) (GF (Jo a) i) (Jo a) i))) (RN (JR (vZ (vR a)) 2) (KD (vP (vR a)) Nh (Ox (YN (Jo a)) (AE (λi=>Ub i (Jo a) (GF (Jo a) i) i i)) Nh (Qh (Jo a)) (λi=>Tz i (Jo a) (eG (Fb (Jo a) i) (GF (Jo a) i) (Jo a) i)))))) (SQ (AFJ (vR a)) (IC (IC (IC (IC (JR (vZ (vR a)) 2) (JR (vP (vR a)) 2)) (vA (vZ (vR a)) (vP (vR a)))) (JR (APY (vR a)) 40000)) (NJ (AOS (vR a)) (-1000000) 1000000)) (JR (AUA (vR a)) 10000)) Nh (TU (Jo a)) (λi=>Zz i (Jo a) i (Jo a) i)):=by kernel_rfl
theorem COH:AH ZP 122 (C_lCk1.spec BYC):=MK C_lCk1 (λ_=>CHO) [] [] Tryz.func122 (λ_=>by kernel_rfl) (λ_=>AA AXS AD) (λ(a:LNI) _=>by
 show CBF a;rw[CPC]<;> dsimp only[go_sem];simp only[CC,CU,CK];try rfl) (λ_=>OA rfl rfl) _
theorem CPA:AH ZP 124 (C_lCk2.spec CHJ):=MK C_lCk2 (λ_=>CCS) [] [] Tryz.func124 (λ_=>by kernel_rfl) (λ_=>AA AXS (AA COH AD)) (λ(a:LNX) _=>by
 show CIM a;rw[CNC]<;> dsimp only[go_sem];simp only[CC,CU,CK]
 unfold WA
 rw[show (a.x.f != a.x.t)=!(a.x.f==a.x.t) from rfl]
 generalize (a.x.f==a.x.t)=b
 cases NJ a.x.f 0 2<;>cases NJ a.x.t 0 2<;>cases b<;>cases NJ a.x.d 0 40000<;>cases NJ a.x.r (-1000000) 1000000<;>rfl) (λ_=>OA rfl rfl) _
def LXKn(q:(List Lin)):List (Nat×AObj):=[(101,.box [.fn (.func 122) [] [.bptr 102 0]]),(102,netB q)]
def KXKn(q:(List Lin)):List (Nat×HCell):=[(101,.live (.box [.fn (.func 122) [] [.bptr 102 0]])),(102,.live (netB q))]
def fvKn(q:(List Lin)):AVal:=.fn (.func 124) [] [.bptr 101 0]
def BKn(q:(List Lin)):AObj:=.box [fvKn q]
structure EKn where
 q:(List Lin)
 e:Lin
structure MKn where
 q:(List Lin)
 l:List Lin
def C1Kn:Ctr:={ ro:=[100,101,102],α:=EKn,xs:=λa=>[.d (eLin a.e),.bptr 100 0],L:=λa=>(100,BKn a.q) :: LXKn a.q,val:=λa=>.bool (!WA a.e),keep:=λa=>(100,.live (BKn a.q)) :: KXKn a.q,pre:=λa=>[True] }
def d1Kn:List AVal->Heap->Option (EKn×List (Nat×Nat)×List Nat)
 |[.d d,.bptr id _],H=>match H id with
  | .live (.box [.fn _ _ [.bptr j _]])=>match BSP H j with
   |some p=>some (⟨p.1,dLin d⟩,[(100,id),(101,j),(102,p.2)],[])
   |none=>none
  |_=>none
 |_,_=>none
def A1Kn:Ann:={ ann 8 [(124,C_lCk2.spec CHJ)] with E:=[100,101,102] }
def V1Kn(a:EKn):Prop:=AS ZP A1Kn Tryz.f142 (AG Tryz.f142) (C1Kn.xs a) (AC (C1Kn.L a)) (C1Kn.val a) (C1Kn.keep a) [] []
abbrev ARA:=EKn.e
abbrev vD:=EKn.q
attribute [go_sem] ARA vD
theorem DAF(a:EKn):(V1Kn a)=(Ox (KD (vZ (ARA a)) (vP (ARA a)) (Zp (AI (APY (ARA a))) (BDN (ARA a)) (BBP (ARA a)) AW (YN (vD a)) (AE (λi=>Ub i (vD a) (GF (vD a) i) i i)) (Qh (vD a)) (AE (λi=>Tz i (vD a) (eG (Fb (vD a) i) (GF (vD a) i) (vD a) i))))) (Qe (AFJ (ARA a))) Nh (TU (vD a)) (λi=>Zz i (vD a) i (vD a) i)):=by kernel_rfl
theorem CZF:AH ZP 142 (C1Kn.spec d1Kn):=MK C1Kn (λ_=>A1Kn) [] [] Tryz.func142 (λ_=>by kernel_rfl) (λ_=>AA CPA AD) (λ(a:EKn) h=>by
 have h:True:=h
 show V1Kn a;rw[DAF]<;> dsimp only[go_sem];try simp[wr,GC,CK,CKR,h]) (λ_=>OA rfl rfl) _
def d2Kn:List AVal->Heap->Option (MKn×List (Nat×Nat)×List Nat)
 |[y,.fn _ _ [.bptr id _]],H=>match Ti y H with
  |some (n,g,f)=>match H id with
   | .live (.box [.fn _ _ [.bptr j _]])=>match BSP H j with
    |some p=>some (⟨p.1,HQ n λi=>dLin (g i)⟩,[(100,id),(101,j),(102,p.2)],f)
    |none=>none
   |_=>none
  |none=>none
 |_,_=>none
def A2Kn(a:MKn):Ann:={ ann 19 [(142,C1Kn.spec d1Kn)] with E:=[100,101,102],loops:=λid=>if id=2 then some [{ α:=Nat,dflt:=0,T:=λk=>⟨[(0,.d (AQJ a.l)),(1,.fn (.func 142) [] [.bptr 100 0]),(7,.int a.l.length),(8,.int k)],(100,.live (BKn a.q)) :: KXKn a.q⟩,inv:=λk=>k<=a.l.length/\TE (λi=>!WA (gD a.l i)) a.l.length 0=TE (λi=>!WA (gD a.l i)) (a.l.length-k) k,meas:=λk=>a.l.length-k }] else none }
def PKn(a:MKn):List Prop:=[a.l.length<4611686018427387904/\True]
def C2Kn:Ctr:={ ro:=[100,101,102],α:=MKn,xs:=λa=>[.d (AQJ a.l),.fn (.func 142) [] [.bptr 100 0]],L:=λa=>(100,BKn a.q) :: LXKn a.q,val:=λa=>.int (TE (λi=>!WA (gD a.l i)) a.l.length 0),keep:=λa=>(100,.live (BKn a.q)) :: KXKn a.q,pre:=PKn }
def V2Kn(a:MKn):Prop:=AS ZP (A2Kn a) Tryz.f156 (AG Tryz.f156) (C2Kn.xs a) (AC (C2Kn.L a)) (C2Kn.val a) (C2Kn.keep a) [] []
abbrev Fq:=MKn.l
abbrev VC:=MKn.q
abbrev pP a b c:=BNV a b (vZ c) c
abbrev Om a b:=Nu (VC a) b
abbrev ACX a:=TU (VC a)
abbrev Pv a:=Xk (Fq a)
abbrev eX a b:=Nu (Fq a) b
abbrev Yz a b:=AFJ (eX a b)
abbrev BNI a b:=BLL a (vZ b) b
abbrev Im a b c d:=Tz a b (BNI c d)
abbrev Az a b c d:=AHN a b (BNI c d)
attribute [go_sem] Fq VC pP Om ACX Pv eX Yz BNI Im Az
theorem DDN(a:MKn):(V2Kn a)=(LR (λi=>DK (AQ (TU (Fq a)) (AE (λj=>jG j (Fq a) j (eX a j))) (Ox (BY (Pv a)) (BC i) Nh (ACX a) (λj=>pP j (VC a) (Om a j)))) i (Pv a) (JJ (λj=>Yz a j) (Pv a) (λj=>Yz a j) i)) (λi=>WR i (Pv a) (JJ (λj=>Yz a j) (Pv a) (λj=>Yz a j) i) (DO (CL i (Pv a)) (Fb (Fq a) i) (vP (eX a i)) (AI (APY (eX a i))) (AHK (BDN (eX a i)) (BBP (eX a i)) AW (YN (VC a)) (AE (λj=>Az j (VC a) (GF (VC a) j) (Om a j))) (Qh (VC a)) (AE (λj=>Im j (VC a) (Om a j) (GF (VC a) j))) EB)) (Uj (Yz a i) (Hl (cO (λj=>Yz a j) (Pv a) i) AW (ACX a) (λj=>pP j (VC a) (Om a j))) (λj=>IK (AQ (TU (Fq a)) (AE (λk=>jG k (Fq a) k (eX a k))) (Ox (BY (Pv a)) (AR j i) Nh (ACX a) (λk=>pP k (VC a) (Om a k)))) j (Pv a) (JJ (λk=>Yz a k) (Pv a) (λk=>Yz a k) j) i)) (Hl (Yt (λj=>Yz a j) (Pv a)) AW (ACX a) (λj=>pP j (VC a) (Om a j))))):=by kernel_rfl
theorem p2Kn(a:MKn)(h:BG (PKn a)):V2Kn a:=by
 obtain⟨h,hp⟩:a.l.length<4611686018427387904/\True:=h
 rw[DDN]<;> dsimp only[go_sem]
 simp only[CC,CU,CK]
 refine⟨⟨0,rfl,Nat.zero_le _,rfl⟩,λk ⟨h1,h2⟩=>⟨λhlt=>?_,λhge=>?_⟩⟩
 ·have hlt:k<a.l.length:=by omega
  refine⟨⟨by omega,by omega⟩,λhp=>?_,λhp=>⟨k+1,(BJ (by omega)).symm,⟨by omega,?_⟩,by omega⟩⟩
  ·rw[h2];exact YB hlt (by simpa using hp)
  ·rw[h2];exact Wv hlt (by simpa using hp)
 ·rw[h2];exact Ge (by omega)
theorem DCK:AH ZP 156 (C2Kn.spec d2Kn):=MK C2Kn A2Kn [] [] Tryz.func156 (λ_=>by kernel_rfl) (λ_=>AA CZF AD) p2Kn (λ_=>OA rfl rfl) _
def C3Kn:Ctr:={ C2Kn with val:=λ(a:MKn)=>.bool (decide (TE (λi=>!WA (gD a.l i)) a.l.length 0>=0)) }
def d3Kn:List AVal->Heap->Option (C3Kn.α×List (Nat×Nat)×List Nat):=d2Kn
def A3Kn:Ann:={ ann 9 [(156,C2Kn.spec d2Kn)] with E:=[100,101,102] }
def V3Kn(a:MKn):Prop:=AS ZP A3Kn Tryz.f141 (AG Tryz.f141) (C3Kn.xs a) (AC (C3Kn.L a)) (C3Kn.val a) (C3Kn.keep a) [] []
theorem DBF(a:MKn):(V3Kn a)=(Ox (And (YN (Fq a)) (BU (AE (λi=>BDP i (Fq a) (GF (Fq a) i) i (eX a i))) AW (YN (VC a)) (AE (λi=>Az i (VC a) (GF (VC a) i) (Om a i))) AW (Qh (VC a)) (λi=>Im i (VC a) (Om a i) (GF (VC a) i)) (JY (LO (Fq a))) EB)) (Yu (λi=>Yz a i) (Pv a) (λi=>AFJ (GF (Fq a) i)) (LO (Fq a))) Nh (ACX a) (λi=>pP i (VC a) (Om a i))):=by kernel_rfl
theorem DBB:AH ZP 141 (C3Kn.spec d3Kn):=Ctr.spec_ok (C:=C3Kn) (λ(a:MKn) h=>TF (A:=A3Kn) (ren:=[]) (fz:=[]) Tryz.func141 (by kernel_rfl) (AA DCK AD) (by
 obtain⟨h,hp⟩:a.l.length<4611686018427387904/\True:=h
 show V3Kn a;rw[DBF]<;> dsimp only[go_sem];simp[h,hp,GC,CK])) _
def d4Kn:List AVal->Heap->Option (MKn×List (Nat×Nat)×List Nat)
 |[y,.fn _ _ [.bptr j _]],H=>match Ti y H with
  |some (n,g,f)=>match BSP H j with
   |some p=>some (⟨p.1,HQ n λi=>dLin (g i)⟩,[(101,j),(102,p.2)],f)
   |none=>none
  |none=>none
 |_,_=>none
def A4Kn:Ann:={ ann 9 [(141,C3Kn.spec d3Kn)] with E:=[101,102] }
def C4Kn:Ctr:={ ro:=[101,102],α:=MKn,xs:=λa=>[.d (AQJ a.l),fvKn a.q],L:=λa=>LXKn a.q,val:=λa=>.bool (a.l.all λx=>WA x),keep:=λa=>KXKn a.q,pre:=PKn }
def V4Kn(a:MKn):Prop:=AS ZP A4Kn Tryz.f123 (AG Tryz.f123) (C4Kn.xs a) (AC (C4Kn.L a)) (C4Kn.val a) (C4Kn.keep a) [] []
abbrev BTZ:=@List.all Lin
attribute [go_sem] BTZ
theorem DBS(a:MKn):(V4Kn a)=(Ox (And (YN (Fq a)) (BU (AE (λi=>BDP i (Fq a) (GF (Fq a) i) i (eX a i))) AW (YN (VC a)) (AE (λi=>Az i (VC a) (GF (VC a) i) (Om a i))) AW (Qh (VC a)) (λi=>Im i (VC a) (Om a i) (GF (VC a) i)) (JY (LO (Fq a))) EB)) (jC (BTZ (Fq a) AFJ) (λi=>AFJ (GF (Fq a) i)) (LO (Fq a))) Nh (ACX a) (λi=>pP i (VC a) (Om a i))):=by kernel_rfl
theorem DCW(a:MKn)(h:BG (PKn a)):FnT ZP 123 (C4Kn.xs a) (AC (C4Kn.L a)) (C4Kn.val a) (C4Kn.keep a):=TF (A:=A4Kn) (ren:=[]) (fz:=[]) Tryz.func123 (by kernel_rfl) (AA DBB AD) (by
 have h':a.l.length<4611686018427387904/\True:=h
 show V4Kn a;rw[DBS]<;> dsimp only[go_sem];simp only[CC,CU,CK,ge_iff_le]
 rw[<-Qr]
 exact⟨h'.1,rfl⟩)
theorem CZB:AH ZP 123 (C4Kn.spec d4Kn):=Ctr.spec_ok (C:=C4Kn) DCW _
def C_lCheck:Ctr:={ α:=List Lin,xs:=λl=>[.d (eNet l)],L:=λ_=>[],val:=λ_=>.int 0,keep:=λ_=>[],pre:=λl=>[l.length<=30/\l.all WA=true] }
def AFS:List AVal->Heap->Option (List Lin×List (Nat×Nat)×List Nat)
 |[.d (.agg [_,.list _ n f _])],_=>some (HQ n λj=>dLin (f j),[],[])
 |_,_=>none
def BIY:Ann:=ann 22 [(94,My),(123,C4Kn.spec d4Kn)]
def BHR(l:List Lin):Prop:=AS ZP BIY Tryz.f93 (AG Tryz.f93) (C_lCheck.xs l) (AC []) (C_lCheck.val l) [] [] []
theorem BWH(l:List Lin):(BHR l)=(Ba (not (NJ 3 1 12)) (hd94 (AZ (Xk l)) 30) (sA 3) (EM (YN l) (Z8 (AE (λi=>Ub i l (GF l i) i i)) AW (YN l) AW (Qh l) (AE (λi=>Tz i l (eG (Fb l i) (GF l i) l i))) (JY (LO l)) EB) (Be (BTZ (IN l) AFJ) (sA 20) AU))):=by kernel_rfl
theorem AXD:AH ZP 93 (C_lCheck.spec AFS):=MK C_lCheck (λ_=>BIY) [] [] Tryz.func93 (λ_=>by kernel_rfl) (λ_=>AA AXS (AA CZB AD)) (λ(l:List Lin) h=>by
 obtain⟨h1,h2⟩:l.length<=30/\l.all WA=true:=h
 show BHR l;rw[BWH]<;> dsimp only[go_sem];simp only[CC,CU,CK]
 rw[show NJ 3 1 12=true from rfl,decide_eq_false (show ¬((l.length:Int)>30) by omega),show (l.all λx=>WA x)=true from h2]
 exact⟨λh=>(by cases h),λ_=>⟨(by omega),λh=>(by cases h)⟩⟩) (λ_=>OA rfl rfl) _
end Go.Bal
set_option maxRecDepth 8000
namespace Go.Bal
open Go Go.Sym Go.Proofs
def MX:Int:=1099511627776
def putA(c:Nat)(n:Int)(g:Nat->Int):Nat->Int:=λj=>bif Nat.beq j c then n else g j
def F7(l:List Lin)(a m:Nat)(i:Nat)(b:Bool)(g:Nat->Int):Nat->Int:=
 bif lsM (gD l i) b==(m:Int) then bif decide (SC [g (Tg a m),R9 (gD l i) b]<g (Tg a (goM (gD l i) b).toNat)) then putA (Tg a (goM (gD l i) b).toNat) (SC [g (Tg a m),R9 (gD l i) b]) g else g else g
def legJ(l:List Lin)(a m i:Nat)(g:Nat->Int):Nat->Nat->Int
 |0=>g
 |j+1=>F7 l a m i (!decide (j=0)) (legJ l a m i g j)
def legI(l:List Lin)(a m:Nat)(g:Nat->Int):Nat->Nat->Int
 |0=>g
 |i+1=>legJ l a m i (legI l a m g i) 2
def bP(l:List Lin)(a:Nat)(g:Nat->Int):Nat->Nat->Int
 |0=>g
 |m+1=>bif bP l a g m (Tg a m)==MX then bP l a g m else legI l a m (bP l a g m) l.length
def wN(l:List Lin)(a:Nat)(g:Nat->Int):Nat->Nat->Int
 |0=>g
 |k+1=>bP l a (wN l a g k) 3
def filM(l:List Lin)(a:Nat)(g:Nat->Int):Nat->Int:=wN l a g 3
structure FiS where
 k:Nat
 m:Nat
 i:Nat
 j:Nat
 g:Nat->Int
 deriving Inhabited
structure LaS where
 l:List Lin
 g:Nat->Int
 a:Nat
def fiH(x:LaS)(g:Nat->Int):List (Nat×HCell):=[(100,.live (svO x.l g)),(1000,.live (.box [.bptr 100 0])),(2160,.live (.box [.rptr 100 13 x.a 2])),(2176,.live (.box [.rptr 100 26 x.a 171]))]
def fiS(k:Nat):List (Nat×AVal):=[(2,.bptr 1000 0),(4,.bptr 2160 0),(5,.bptr 2176 0),(23,.int 3),(24,.int k)]
def fi3(x:LaS):Shape:={ α:=FiS,dflt:=default,T:=λy=>⟨fiS y.k,fiH x y.g⟩,inv:=λy=>y.k<=3/\y.g=wN x.l x.a x.g y.k,meas:=λy=>3-y.k }
def fi5(x:LaS)(q:Nat):Shape:={ α:=FiS,dflt:=default,T:=λy=>⟨fiS y.k ++ [(30,.int 3),(31,.int y.m)],fiH x y.g⟩,inv:=λy=>(y.k<3/\3-y.k=q)/\y.m<=3/\y.g=bP x.l x.a (wN x.l x.a x.g y.k) y.m,meas:=λy=>3-y.m }
def fiR:List Nat:=[100,1000,2160,2176,7016,9032,9033]
def fiI(x:LaS)(y:FiS):List (Nat×HCell):=fiH x y.g ++ [(7016,.live (.box [.int y.m])),(9032,.live (.box [.bptr 100 0])),(9033,.live (.box [.int y.m]))]
def fiT(x:LaS)(lp i:Nat):List (Nat×AVal):=[(0,.fn (.yield lp) [] []),(1,.bptr 9032 0),(2,.bptr 9033 0),(12,.int x.l.length),(13,.int i)]
def fiV(x:LaS)(y:FiS):Nat->Int:=legI x.l x.a y.m (bP x.l x.a (wN x.l x.a x.g y.k) y.m) y.i
def fi1(x:LaS)(lp q p:Nat):Shape:={ α:=FiS,dflt:=default,T:=λy=>⟨fiT x lp y.i,fiI x y⟩,inv:=λy=>((y.k<3/\3-y.k=q)/\y.m<3/\3-y.m=p)/\y.i<=x.l.length/\y.g=fiV x y,meas:=λy=>x.l.length-y.i }
def fiL(i:Nat):AObj:=.row 2 2 λj=>.agg [CF i,AEP (!decide (j=0))]
def fi4(x:LaS)(r lp q p:Nat):Shape:={ α:=FiS,dflt:=default,T:=λy=>⟨fiT x lp y.i ++ [(20,.own 200 2 0 2),(21,.int 2),(22,.int y.j)],fiI x y ++ [(200,.live (fiL y.i))]⟩,inv:=λy=>(((y.k<3/\3-y.k=q)/\y.m<3/\3-y.m=p)/\y.i<x.l.length/\x.l.length-y.i=r)/\y.j<=2/\y.g=legJ x.l x.a y.m y.i (fiV x y) y.j,meas:=λy=>2-y.j,first:=[(200,104064)] }
noncomputable def itFi(x:LaS):IterAnn:={ fn:=Tryz.f158,code:=AG Tryz.f158,live:=[2,4,5,6,23,24,30,31],ann:={ base:=λid=>100000+1000*(id+1),Γ:=Sym.look [(159,C_lStart.spec d_lg)],E:=fiR,n:=39,yd:=λid=>if id=6 then some 8 else none,inner:=λgs id=>if id=1 then some [fi1 x (gs.getD 0 0) (gs.getD 2 0) (gs.getD 1 0)] else if id=4 then some [fi4 x (gs.getD 0 0) (gs.getD 1 0) (gs.getD 3 0) (gs.getD 2 0)] else none } }
noncomputable def BVH(x:LaS):Ann:={ ann 79 [(144,C_lLegs.spec d_lm),(145,C_lRise.spec d_lg),(146,C_lGoal.spec d_lg),(166,C_lSum.spec d_Is)] with E:=[100],iter:=λg=>if g=158 then some (itFi x) else none,inner:=λgs id=>if id=3 then some [fi3 x] else if id=5 then some [fi5 x (gs.getD 0 0)] else none }
def C_lFill:Ctr:={ α:=LaS,xs:=λx=>[.bptr 100 0,.int x.a],L:=λx=>[(100,svO x.l x.g)],val:=λ_=>.d (.tup []),keep:=λx=>[(100,.live (svO x.l (filM x.l x.a x.g)))],pre:=λx=>[x.a<3/\x.l.length<=30/\x.l.all WA=true] }
def d_la:List AVal->Heap->Option (LaS×List (Nat×Nat)×List Nat)
 |[.bptr id _,.d (.v (.int .i64 a))],H=>match H id with
  | .live (.nbox [_,.list _ n f _] _ _ g)=>some (⟨HQ n λj=>dLin (f j),g,a.toNat⟩,[(100,id)],[])
  |_=>none
 |_,_=>none
def BSK(x:LaS):Prop:=AS ZP (BVH x) Tryz.f157 (AG Tryz.f157) (C_lFill.xs x) (AC (C_lFill.L x)) (C_lFill.val x) (C_lFill.keep x) [] []
abbrev XZ:=LaS.a
abbrev wC:=@Exists FiS
abbrev VF:=FiS.k
abbrev CH:=LaS.l
abbrev Ai:=FiS.g
abbrev T2:=LaS.g
abbrev CCU:=@Eq (Nat->Int)
abbrev BHQ:=λ(f:FiS->Prop)=>∀(x:FiS),f x
abbrev HR:=FiS.m
abbrev HD:=FiS.i
abbrev UN:=FiS.j
abbrev Ty a b c d:=AYO a b (AN c d)
abbrev BOX a b c d:=Ty (CH a) b c d
abbrev Mc a b:=Nu (CH a) b
abbrev Pk a b c d:=pP a (CH b) (Mc c d)
abbrev Qj a:=TU (CH a)
abbrev Dq a b:=CCU (Ai a) b
abbrev AHH a b c d e f g:=RI a b c d e f g g
abbrev Ee a:=BI (XZ a)
abbrev Ul a b c d e:=BOX a b (Ai c d) e
abbrev zS a b:=UI 3 a b
abbrev aI a:=OB a 3
abbrev L2 a b c d:=CV (aI a) (zS a b) c d
abbrev Wu a b c d:=L2 (VF a) (VF b) c d
abbrev tP a:=DC a 3
abbrev LA a:=Xk (CH a)
abbrev mK a b:=zS (HR a) (HR b)
abbrev qB a:=aI (HR a)
abbrev BBA a b c d e f g:=Ec a b c d e f g g
abbrev AAR a:=BY (LA a)
abbrev wW a b:=AT (HD a) (HD b)
abbrev Bi a:=not (AOY (UN a))
abbrev Kc a b:=GF (CH a) b
abbrev ZR a b:=Kc a (HD b)
abbrev AHT a b c:=JM a (AFC b c)
abbrev K3 a b c:=JM a (AHT b c 13)
abbrev yJ a b:=K3 a 2 b
abbrev ADA a b:=yJ a (XZ b)
abbrev bJ a b:=ADA (HR a) b
abbrev cG a b:=OY (goM a b)
abbrev G3 a b:=cG a (Bi b)
abbrev ADB a b:=OB a (AHZ b)
abbrev AIE a b:=VU (fE a) b (ADB b a)
abbrev jM a:=FV a 13
abbrev Qp a b c d:=Ry a b (Ai c d)
abbrev Z3 a:=IN (CH a)
abbrev Mh a:=CL a 13
attribute [go_sem] XZ wC VF CH Ai T2 CCU BHQ HR HD UN Ty BOX Mc Pk Qj Dq AHH Ee Ul zS aI L2 Wu tP LA mK qB BBA AAR wW Bi Kc ZR AHT K3 yJ ADA bJ cG G3 ADB AIE jM Qp Z3 Mh
theorem CGR(x:LaS):(BSK x)=(AQ (WU (Mh (XZ x)) (AZ (XZ x)) (Uz (XZ x) 13)) (wC (λi=>DK (AHH AW (BC (VF i)) (Qj x) (AE (λj=>Pk j x x j)) CQ (AE (λj=>Ul x j i j (T2 x j))) (Ee x)) (VF i) 3 (Dq i (wN (CH x) (XZ x) (T2 x) (VF i))))) (BHQ (λi=>Ck (VU (VF i) 3 (Dq i (wN (CH x) (XZ x) (T2 x) (VF i)))) (VF i) 3 (wC (λj=>AO (AQ AW (AT (VF j) (VF i)) (AHH AW (BC (HR j)) (Qj x) (AE (λk=>Pk k x x k)) CQ (AE (λk=>Ul x k j k (Ai i k))) (Ee x))) (And (aI (VF j)) (zS (VF j) (VF i))) (tP (HR j)) (Dq j (bP (CH x) (XZ x) (wN (CH x) (XZ x) (T2 x) (VF j)) (HR j))))) (BHQ (λj=>Ck (Wu j i (tP (HR j)) (Dq j (bP (CH x) (XZ x) (wN (CH x) (XZ x) (T2 x) (VF j)) (HR j)))) (HR j) 3 (NT (Mh (HR j)) (DC (fE (CH x)) (bJ j x)) (bJ j x) (AHZ (CH x))) (YL (wP (Ai j (bJ j x)) 1099511627776) (wC (λk=>EO (AQ AW (AT (VF k) (VF j)) (AHH AW (AR (HR k) (HR j)) (Qj x) (AE (λl=>Pk l x x l)) CQ (AE (λl=>Ul x l k l (Ai j l))) (Ee x))) (Wu k i (tP (HR k)) (Dq k (bP (CH x) (XZ x) (wN (CH x) (XZ x) (T2 x) (VF k)) (HR k)))) 3 (HR k) (HR j))) (Ob (KD (AZ (HR j)) Nh (BU (Iw (CH x) (LA x)) (AE (λk=>Az k (CH x) (Kc x k) (Mc x k))) CQ (AE (λk=>Qp (Z3 x) k j k)) AW (Qs (LA x) (CH x)) (λk=>Im k (CH x) (Mc x k) (Kc x k)) CQ (AE (λk=>Qp (CH x) k j k)))) (λk=>And (wC (λl=>AO (AO (FX k) (AAR x) (BC (HD l)) (BBA AW (Qj x) (AE (λm=>Pk m x x m)) CQ (AE (λm=>Ul x m l m (Ai j m))) (Ee x) (AT (HR l) (HR j)))) (Wu l i (qB l) (mK l j)) (DC (HD l) (LA x)) (Dq l (fiV x l)))) (BHQ (λl=>Mm (DK (Wu l i (qB l) (mK l j)) (HD l) (LA x) (Dq l (fiV x l))) (HD l) (LA x) (wC (λm=>AO (And (FX k) (AP (AAR x) (wW m l) AB GI Ce (BC (UN m)) AW (Qj x) (Ec (AE (λn=>Pk n x x n)) CQ (AE (λn=>Ul x n m n (Ai l n))) (Ee x) (Ee x) (AT (HR m) (HR l)) GI (AE (λn=>kJ n 2 (TO (HD m) (MW n (AZ (HD l)) (AZ (HD l)))) (Sr (not (Hw n)) (hd5 (Hw n) P8 Fa))))))) (AQ (Wu m i (qB m) (mK m j)) (OB (HD m) (LA x)) (UI (LA x) (HD m) (HD l))) (A4 (UN m)) (Dq m (legJ (CH x) (XZ x) (HR m) (HD m) (fiV x m) (UN m))))) (BHQ (λm=>Is (DK (AQ (Wu m i (qB m) (mK m j)) (OB (HD m) (LA x)) (UI (LA x) (HD m) (HD l))) (UN m) 2 (Dq m (legJ (CH x) (XZ x) (HR m) (HD m) (fiV x m) (UN m)))) (RL (UN m) 2) (AO (CL (UN m) 2) (FI (AJ (UN m)) 2) (BW (BY (HD m)) (WI (Bi m)) AW (Iw (CH x) (LA x)) (AE (λn=>Az n (CH x) (Kc x n) (Mc x n))) (E9 CQ (AE (λn=>Qp (Z3 x) n m n)) AW (Qs (LA x) (CH x)) (AE (λn=>Im n (CH x) (Mc x n) (Kc x n))) (AE (λn=>Qp (CH x) n m n)) (ABA (HD m)) (Uz (HD m) (LO (CH x))))) (BAU (wP (lsM (ZR x m) (Bi m)) (AZ (HR m))) (CB (AWT (TD EB (GT (wP (lsM (ZR x m) (Bi m)) (AZ (HR m)))))) (BI k) (AQ (Mh (HR m)) (AIE (CH x) (bJ m x)) (BV (BY (HD m)) (WI (Bi m)) AW (Iw (CH x) (LA x)) (AE (λn=>Az n (CH x) (Kc x n) (Mc x n))) 338 (λn=>Qp (Z3 x) n m n) AW (DY (Qs (LA x) (CH x)) (AE (λn=>Im n (CH x) (Mc x n) (Kc x n))) CQ (λn=>Qp (CH x) n m n) (CL (HD m) (LO (CH x))) (Sc (wH 2 (λn=>MW n (Ai m (bJ m x)) (R9 (ZR x m) (Bi m)))) 2) (AKY 2) (AE (λn=>VL n (wH 2 (λu=>MW u (Ai m (bJ m x)) (R9 (ZR x m) (Bi m)))) n (iJ n (Ai m (bJ m x)) (R9 (ZR x m) (Bi m))))) (FI (BQ (wH 2 (λn=>MW n (Ai m (bJ m x)) (R9 (ZR x m) (Bi m))))) 1073741824)))) (And (BY (HD m)) (LZ (WI (Bi m)) Nh (CB (Iw (CH x) (LA x)) (AE (λn=>Az n (CH x) (Kc x n) (Mc x n))) CQ (AE (λn=>Qp (Z3 x) n m n)) (Pm AW (Qs (LA x) (CH x)) (λn=>Im n (CH x) (Mc x n) (Kc x n)) CQ (AE (λn=>Qp (CH x) n m n)) (CL (HD m) (LO (CH x))) (jM (goM (ZR x m) (Bi m))) (DC (fE (CH x)) (ADA (G3 (ZR x m) m) x)) (ADB (ADA (G3 (ZR x m) m) x) (CH x)))))) (FW (cT (SC (wH 2 (λn=>MW n (Ai m (bJ m x)) (R9 (ZR x m) (Bi m))))) (Ai m (ADA (G3 (ZR x m) m) x))) (VM (BY (HD m)) (WI (Bi m)) AW (Iw (CH x) (LA x)) (AE (λn=>Az n (CH x) (Kc x n) (Mc x n))) CQ (DY (AE (λn=>Qp (Z3 x) n m n)) AW (Qs (LA x) (CH x)) (λn=>Im n (CH x) (Mc x n) (Kc x n)) CQ (AE (λn=>Qp (CH x) n m n)) (CL (HD m) (LO (CH x))) (BY (HD m)) (BFX (WI (Bi m)) AW (Iw (CH x) (LA x)) (AE (λn=>Az n (CH x) (Kc x n) (Mc x n))) CQ (AE (λn=>Qp (Z3 x) n m n)) (Qs (LA x) (CH x)) (BQV (AE (λn=>Im n (CH x) (Mc x n) (Kc x n))) CQ (AE (λn=>Qp (CH x) n m n)) (CL (HD m) (LO (CH x))) (jM (goM (ZR x m) (Bi m))) (AIE (CH x) (ADA (G3 (ZR x m) m) x)) (DC (AHZ (CH x)) (AHT (AHT 171 (XZ x) 26) (G3 (ZR x m) m) 2)) (DC (hJ (AHT (AHT 171 (XZ x) 26) (G3 (ZR x m) m) 2)) (JM (AHZ (CH x)) 338)))))) (wC (λn=>EO (And (FX k) (AP (AAR x) (wW n m) AB GI Ce (AR (UN n) (UN m)) AW (Qj x) (Ec (AE (λu=>Pk u x x u)) CQ (AE (λu=>Ul x u n u (vE (BFY u (ADA (G3 (ZR x m) m) x)) (SC (wH 2 (λv=>MW v (Ai m (bJ m x)) (R9 (ZR x m) (Bi m))))) (Ai m u)))) (Ee x) (Ee x) (AT (HR n) (HR m)) GI (AE (λu=>kJ u 2 (wW n m) (Qe (Hw u))))))) (DK (AQ (Wu n i (qB n) (mK n j)) (OB (HD n) (LA x)) (UI (LA x) (HD n) (HD l))) (UN n) 2 (Dq n (legJ (CH x) (XZ x) (HR n) (HD n) (fiV x n) (UN n)))) 2 (UN n) (UN m))) (wC (λn=>EO (And (FX k) (AP (AAR x) (wW n m) AB GI Ce (AR (UN n) (UN m)) AW (Qj x) (Ec (AE (λu=>Pk u x x u)) CQ (AE (λu=>Ul x u n u (Ai m u))) (Ee x) (Ee x) (AT (HR n) (HR m)) GI (AE (λu=>kJ u 2 (wW n m) (Qe (Hw u))))))) (DK (AQ (Wu n i (qB n) (mK n j)) (OB (HD n) (LA x)) (UI (LA x) (HD n) (HD l))) (UN n) 2 (Dq n (legJ (CH x) (XZ x) (HR n) (HD n) (fiV x n) (UN n)))) 2 (UN n) (UN m))))) (wC (λn=>EO (And (FX k) (AP (AAR x) (wW n m) AB GI Ce (AR (UN n) (UN m)) AW (Qj x) (Ec (AE (λu=>Pk u x x u)) CQ (AE (λu=>Ul x u n u (Ai m u))) (Ee x) (Ee x) (AT (HR n) (HR m)) GI (AE (λu=>kJ u 2 (wW n m) (Qe (Hw u))))))) (DK (AQ (Wu n i (qB n) (mK n j)) (OB (HD n) (LA x)) (UI (LA x) (HD n) (HD l))) (UN n) 2 (Dq n (legJ (CH x) (XZ x) (HR n) (HD n) (fiV x n) (UN n)))) 2 (UN n) (UN m))))) (wC (λn=>EO (AO (FX k) (AAR x) (AR (HD n) (HD m)) (BBA AW (Qj x) (AE (λu=>Pk u x x u)) CQ (AE (λu=>Ul x u n u (Ai m u))) (Ee x) (AT (HR n) (HR m)))) (DK (Wu n i (qB n) (mK n j)) (HD n) (LA x) (Dq n (fiV x n))) (LA x) (HD n) (HD l))))) (wC (λm=>EO (AQ AW (AT (VF m) (VF j)) (AHH AW (AR (HR m) (HR j)) (Qj x) (AE (λn=>Pk n x x n)) CQ (AE (λn=>Ul x n m n (Ai l n))) (Ee x))) (Wu m i (tP (HR m)) (Dq m (bP (CH x) (XZ x) (wN (CH x) (XZ x) (T2 x) (VF m)) (HR m)))) 3 (HR m) (HR j)))))))) (wC (λk=>IK (AHH AW (AR (VF k) (VF j)) (Qj x) (AE (λl=>Pk l x x l)) CQ (AE (λl=>Ul x l k l (Ai j l))) (Ee x)) (VF k) 3 (Dq k (wN (CH x) (XZ x) (T2 x) (VF k))) (VF i))))) (aH (Qj x) (λj=>Pk j x x j) (λj=>BOX x j (filM (CH x) (XZ x) (T2 x) j) (Ai i j)))))):=by kernel_rfl
theorem rngT{α:Type}(f:Nat->α):HQ 2 f=[f 0,f 1]:=rfl
theorem CMH{x:Lin}(h:WA x=true):(0<=x.f/\x.f<=2)/\(0<=x.t/\x.t<=2)/\x.f≠x.t/\(0<=x.d/\x.d<=40000)/\(-1000000<=x.r/\x.r<=1000000)/\0<=x.e/\x.e<=10000:=by
 simp only[WA,NJ,Bool.and_eq_true,decide_eq_true_eq,Bool.not_eq_true',beq_eq_false_iff_ne,ne_eq] at h
 obtain⟨h1,h2,h3,h4,h5,h6⟩:=h
 exact⟨h1,h2,h3,h4,h5,h6⟩
theorem BFV{x:Lin}(h:WA x=true)(b:Bool):0<=goM x b/\goM x b<=2:=by
 obtain⟨h1,h2,_⟩:=CMH h
 cases b
 ·exact h2
 ·exact h1
theorem APB{l:List Lin}(h:l.all WA=true){i:Nat}(hi:i<l.length):WA (gD l i)=true:=List.all_eq_true.1 h _ (FD hi)
theorem CNW(x:LaS)(ha:x.a<3)(hl:x.l.length<=30)(hok:x.l.all WA=true):BSK x:=by
 have hgo:∀i b,i<x.l.length->0<=goM (gD x.l i) b/\goM (gD x.l i) b<=2:=λi b hi=>BFV (APB hok hi) b
 rw[CGR]<;> dsimp only[go_sem]
 simp only[CC,CU,CK,List.length_cons,List.length_nil,rngT]
 refine⟨⟨by omega,by omega⟩,⟨⟨0,0,0,0,x.g⟩,⟨rfl,λ_ _ _=>rfl⟩,Nat.zero_le _,rfl⟩,λy ⟨hk,hg⟩=>⟨λhlt=>⟨⟨⟨y.k,0,0,0,y.g⟩,⟨rfl,rfl,λ_ _ _=>rfl⟩,⟨show y.k<3 by omega,rfl⟩,Nat.zero_le _,hg⟩,λz ⟨⟨z1,z2⟩,z3,z4⟩=>⟨λhlt2=>?_,λhge2=>?_⟩⟩,λhge=>?_⟩⟩
 ·have hz:z.m<3:=by omega
  have hmk:bP x.l x.a (wN x.l x.a x.g z.k) (z.m+1)=bif z.g (Tg x.a z.m)==MX then z.g else legI x.l x.a z.m z.g x.l.length:=by rw[z4];rfl
  refine⟨⟨⟨by omega,by omega⟩,by omega,by omega⟩,λhf=>?_,λhf=>?_⟩
  ·exact⟨⟨z.k,z.m+1,0,0,z.g⟩,⟨rfl,(BJ (by omega)).symm,λ_ _ _=>rfl⟩,⟨⟨z1,z2⟩,show z.m+1<=3 by omega,by show z.g=_;rw[hmk,show (z.g (Tg x.a z.m)==MX)=true from hf];rfl⟩,show 3-(z.m+1)<3-z.m by omega⟩
  ·refine⟨⟨⟨z.k,z.m,0,0,z.g⟩,⟨rfl,λ_ _ _=>rfl,rfl⟩,⟨⟨z1,z2⟩,hz,rfl⟩,Nat.zero_le _,z4⟩,λu ⟨⟨⟨u1,u2⟩,u3,u4⟩,u5,u6⟩=>⟨λhlt3=>?_,λhge3=>?_⟩⟩
   ·refine⟨⟨⟨u.k,u.m,u.i,0,u.g⟩,⟨rfl,rfl,λ_ _ _=>rfl,rfl,rfl,λi hi=>?_⟩,⟨⟨⟨u1,u2⟩,u3,u4⟩,show u.i<x.l.length by omega,rfl⟩,Nat.zero_le _,u6⟩,λv ⟨⟨⟨⟨v1,v2⟩,v3,v4⟩,v5,v6⟩,v7,v8⟩=>⟨λhlt4=>?_,λhge4=>?_⟩⟩
    ·constructor<;>cases decide (i=0)<;>rfl
    ·have hB:=hgo v.i (!decide (v.j=0)) v5
     have hstep:legJ x.l x.a v.m v.i (fiV x v) (v.j+1)=F7 x.l x.a v.m v.i (!decide (v.j=0)) v.g:=by rw[v8];rfl
     have hj1:IntKind.i64.wrap ((v.j:Int)+1)=((v.j+1:Nat):Int):=BJ (by omega)
     have hi:((u.i:Nat):Int)=v.i:=by omega
     refine⟨⟨by omega,by omega⟩,by omega,⟨by omega,by omega⟩,λhs=>?_,λhs=>?_⟩
     ·have hs':(lsM (gD x.l v.i) (!decide (v.j=0))==(v.m:Int))=true:=hs
      refine⟨hs',⟨⟨by omega,by omega⟩,⟨by omega,by omega⟩,⟨by omega,by omega⟩,by omega,λj hj=>?_,by omega⟩,⟨⟨by omega,by omega⟩,⟨hB.1,by omega⟩,by omega,by omega⟩,λh5=>?_,λh5=>?_⟩
      ·match j,hj with
       |0,_=>rfl
       |1,_=>rfl
      ·refine⟨⟨⟨by omega,by omega⟩,⟨by omega,by omega⟩,⟨hB.1,by omega⟩,⟨by omega,by omega⟩,⟨hB.1,by omega⟩,by omega,by omega⟩,⟨v.k,v.m,v.i,v.j+1,F7 x.l x.a v.m v.i (!decide (v.j=0)) v.g⟩,⟨rfl,hj1.symm,λi _ _=>?_,rfl,rfl,λ_ _=>rfl⟩,⟨⟨⟨⟨v1,v2⟩,v3,v4⟩,v5,v6⟩,show v.j+1<=2 by omega,hstep.symm⟩,show 2-(v.j+1)<2-v.j by omega⟩
       show F7 x.l x.a v.m v.i (!decide (v.j=0)) v.g i=_
       unfold F7
       rw[hs',show decide (SC [v.g (Tg x.a v.m),R9 (gD x.l v.i) (!decide (v.j=0))]<v.g (Tg x.a (goM (gD x.l v.i) (!decide (v.j=0))).toNat))=true from decide_eq_true h5]
       rfl
      ·refine⟨⟨v.k,v.m,v.i,v.j+1,F7 x.l x.a v.m v.i (!decide (v.j=0)) v.g⟩,⟨rfl,hj1.symm,λi _ _=>?_,rfl,rfl,λ_ _=>rfl⟩,⟨⟨⟨⟨v1,v2⟩,v3,v4⟩,v5,v6⟩,show v.j+1<=2 by omega,hstep.symm⟩,show 2-(v.j+1)<2-v.j by omega⟩
       show F7 x.l x.a v.m v.i (!decide (v.j=0)) v.g i=_
       unfold F7
       rw[hs',show decide (SC [v.g (Tg x.a v.m),R9 (gD x.l v.i) (!decide (v.j=0))]<v.g (Tg x.a (goM (gD x.l v.i) (!decide (v.j=0))).toNat))=false from decide_eq_false h5]
       rfl
     ·have hs':(lsM (gD x.l v.i) (!decide (v.j=0))==(v.m:Int))=false:=hs
      refine⟨⟨v.k,v.m,v.i,v.j+1,F7 x.l x.a v.m v.i (!decide (v.j=0)) v.g⟩,⟨rfl,hj1.symm,λi _ _=>?_,rfl,rfl,λ_ _=>rfl⟩,⟨⟨⟨⟨v1,v2⟩,v3,v4⟩,v5,v6⟩,show v.j+1<=2 by omega,hstep.symm⟩,show 2-(v.j+1)<2-v.j by omega⟩
      show F7 x.l x.a v.m v.i (!decide (v.j=0)) v.g i=_
      unfold F7
      rw[hs'];rfl
    ·have hj2:v.j=2:=by omega
     refine⟨⟨v.k,v.m,v.i+1,0,v.g⟩,⟨(BJ (by omega)).symm,λ_ _ _=>rfl,rfl⟩,⟨⟨⟨v1,v2⟩,v3,v4⟩,show v.i+1<=x.l.length by omega,?_⟩,show x.l.length-(v.i+1)<x.l.length-u.i by omega⟩
     show v.g=_
     rw[v8,hj2];rfl
   ·have e1:u.k=z.k:=by omega
    have e2:u.m=z.m:=by omega
    have e3:u.i=x.l.length:=by omega
    refine⟨⟨z.k,z.m+1,0,0,u.g⟩,⟨rfl,(BJ (by omega)).symm,λ_ _ _=>rfl⟩,⟨⟨z1,z2⟩,show z.m+1<=3 by omega,?_⟩,show 3-(z.m+1)<3-z.m by omega⟩
    show u.g=_
    rw[hmk,show (z.g (Tg x.a z.m)==MX)=false from hf,u6]
    unfold fiV
    rw[e1,e2,e3,<-z4];rfl
 ·have e1:z.k=y.k:=by omega
  have e2:z.m=3:=by omega
  refine⟨⟨z.k+1,0,0,0,z.g⟩,⟨(BJ (by omega)).symm,λ_ _ _=>rfl⟩,⟨show z.k+1<=3 by omega,?_⟩,show 3-(z.k+1)<3-y.k by omega⟩
  show z.g=_
  rw[z4,e2];rfl
 ·intro i _ _
  have:y.k=3:=by omega
  rw[hg,this];rfl
theorem CEI:AH ZP 157 (C_lFill.spec d_la):=MK C_lFill BVH [] [] Tryz.func157 (λ_=>by kernel_rfl) (λ_=>AA BHP (AA BGZ (AA BEP (AA COD AD)))) (λ(x:LaS) h=>CNW x h.1 h.2.1 h.2.2) (λx=>ASE 158 (itFi x) rfl rfl (AA AVD AD) Tryz.func158 (by kernel_rfl) (by kernel_rfl)) _
end Go.Bal
