/- Package rating: Reach. -/
import Derived.Test.YtoihhodbkimedaaGreatRT2
set_option linter.unusedVariables false
set_option linter.unusedSimpArgs false

namespace Go.Bal
open Go Go.Sym Go.Proofs
structure BnF where
 b:Bnd
 f:Rt
def dBnd:DVal->Bnd
 | .agg [a,b,c,d]=>⟨⟨KT a,KT b⟩,⟨KT c,KT d⟩⟩
 |_=>default
def dBnF:List AVal->Heap->Option (BnF×List (Nat×Nat)×List Nat)
 |[.d x,.bptr id _],H=>match H id with
  | .live (.box [.d n,.d m])=>some (⟨dBnd x,⟨KT n,KT m⟩⟩,[(100,id)],[])
  |_=>none
 |_,_=>none
def bxR(f:Rt):AObj:=.box [.int f.n,.int f.d]
def Vt(v:BnF->Bool):Ctr:={ ro:=[100],α:=BnF,xs:=λa=>[.d (eBnd a.b),.bptr 100 0],L:=λa=>[(100,bxR a.f)],val:=λa=>.bool (v a),keep:=λa=>[(100,.live (bxR a.f))] }
def yS(a:BnF):Bool:=decide (uO a.b.hi a.f<0)
def st2(a:BnF):Bool:=decide (uO a.b.lo a.f<=0)
def BOS:Ann:={ ann 9 [(xU,ADY)] with E:=[100] }
def CKM(a:BnF):Prop:=BQ Try.prog BOS AGJ (AI AGJ) ((Vt yS).xs a) (AD ((Vt yS).L a)) ((Vt yS).val a) ((Vt yS).keep a) [] []
abbrev uL:=BnF.f
attribute [go_sem] uL
theorem CPJ(a:BnF):(CKM a)=(AG (JT (yS a) (YL (Fq (JP (BnF.b a)) (WY (uL a))) (Fq (WL (uL a)) (OX (BnF.b a))))) (dF (uL a)) (fS (uL a))):=by kernel_rfl
def CLY(a:BnF):Prop:=BQ Try.prog BOS ADK (AI ADK) ((Vt st2).xs a) (AD ((Vt st2).L a)) ((Vt st2).val a) ((Vt st2).keep a) [] []
abbrev Mj a b c:=JT a (F3 b c)
attribute [go_sem] Mj
theorem CQH(a:BnF):(CLY a)=(AG (Mj (st2 a) (Mo (Fq (OS (BnF.b a)) (WY (uL a))) (Fq (WL (uL a)) (JI (BnF.b a)))) 0) (dF (uL a)) (fS (uL a))):=by kernel_rfl
theorem CNL:AJ Try.prog SO ((Vt yS).spec dBnF):=VD (Vt yS) (λ_=>BOS) [] [] BGJ (λ_=>by kernel_rfl) (λ_=>AC pO AE) (λ(a:BnF) _=>by
 show CKM a;rw[CPJ]<;> delta JT GD AO Mo WL WY mT gU uL AG AM OX JP XG fS dF YL Fq;simp only[CC,eq_self,implies_true,forall_const];first | done | trivial | exact rfl | (refine⟨rfl,?_⟩;exact⟨rfl,rfl⟩)) (λ_=>WK rfl rfl) _
theorem CQD:AJ Try.prog SP ((Vt st2).spec dBnF):=VD (Vt st2) (λ_=>BOS) [] [] BHS (λ_=>by kernel_rfl) (λ_=>AC pO AE) (λ(a:BnF) _=>by
 show CLY a;rw[CQH]<;> delta JT F3 AO Mo WL WY mT iR uL AG AM OS JI fS dF Fq Mj;simp only[CC,eq_self,implies_true,forall_const];first | done | trivial | exact rfl | (refine⟨rfl,?_⟩;exact⟨rfl,rfl⟩)) (λ_=>WK rfl rfl) _
def upL(pr:Int->Bool):Nat->Int->Int->Int
 |0,lo,_=>lo
 |n+1,lo,hi=>bif decide (lo<hi) then (bif pr (lo+(hi-lo+1).tdiv 2) then upL pr n (lo+(hi-lo+1).tdiv 2) hi else upL pr n lo (lo+(hi-lo+1).tdiv 2-1)) else lo
structure UpI where
 w:Bk
 k:Int
 f:Rt
def dUpI(n:FuncId):List AVal->Heap->Option (UpI×List (Nat×Nat)×List Nat)
 |[.bptr id _,.d k,.fn (.func g) [] [.bptr c _]],H=>if g=n then match ATT H id,H c with
  |some (w,q),.live (.box [.d x,.d y])=>some (⟨w,KT k,⟨KT x,KT y⟩⟩,[(100,id),(101,q),(102,c)],[])
  |_,_=>none else none
 |_,_=>none
def upP(v:BnF->Bool)(a:UpI)(t:Int):Bool:=v ⟨bndM (lB ⟨a.w,t⟩) t,a.f⟩
def upM(v:BnF->Bool)(a:UpI):Int:=upL (upP v a) 3000 ((EN a.w a.k).lo-1) (EN a.w a.k).hi
structure LH where
 lo:Int
 hi:Int
 deriving Inhabited
def upH(a:UpI):List (Nat×HCell):=bkK a.w ++ [(102,.live (bxR a.f))]
def up3(v:BnF->Bool)(n:FuncId)(a:UpI):Shape:={ α:=LH,dflt:=default,T:=λx=>⟨[(0,.bptr 100 0),(2,.fn (.func n) [] [.bptr 102 0]),(8,.int x.lo),(9,.int x.hi)],upH a⟩,inv:=λx=>(EN a.w a.k).lo-1<=x.lo/\x.lo<=x.hi/\x.hi<=(EN a.w a.k).hi/\∀m:Nat,(x.hi-x.lo).toNat<=m->upM v a=upL (upP v a) m x.lo x.hi,meas:=λx=>(x.hi-x.lo).toNat }
def C_up(v:BnF->Bool)(n:FuncId):Ctr:={ ro:=[100,101,102],α:=UpI,xs:=λa=>[.bptr 100 0,.int a.k,.fn (.func n) [] [.bptr 102 0]],L:=λa=>bkL a.w ++ [(102,bxR a.f)],val:=λa=>.int (upM v a),keep:=λa=>upH a,pre:=λa=>[ZV a.w.g a.w.b/\0<=a.k/\a.k<=a.w.b.length/\a.w.has a.k=true] }
def A_up(v:BnF->Bool)(n:FuncId)(f:Sym.Spec)(a:UpI):Ann:={ ann 44 [(ARL,C_span.spec dBkI),(Zt,C_bnd.spec dBkt),(n,f)] with E:=[100,101,102],loops:=λid=>if id=3 then some [up3 v n a] else none }
def CMQ(a:UpI):Prop:=BQ Try.prog (A_up yS SO ((Vt yS).spec dBnF) a) oP (AI oP) ((C_up yS SO).xs a) (AD ((C_up yS SO).L a)) ((C_up yS SO).val a) ((C_up yS SO).keep a) [] []
abbrev Ev:=UpI.k
abbrev CW:=UpI.w
abbrev Td:=@Exists LH
abbrev Bp:=LH.lo
abbrev TY:=LH.hi
abbrev ACA:=λ(f:LH->Prop)=>∀(x:LH),f x
abbrev APG:=@List.nil DVal
abbrev QK a b c d e f g h p:=AX a (CX b) c d e f g h p
abbrev Qr a:=fS (UpI.f a)
abbrev Ns a:=dF (UpI.f a)
abbrev Cb a b c:=BO (CW a) b c
abbrev Qm a:=OP (CW a)
abbrev Qg a:=WA (CW a)
abbrev XM a:=PK (CW a)
abbrev Yt a:=FC (XM a)
abbrev WG a:=PA (CW a)
abbrev aR a:=BN (WG a)
abbrev fB a:=upM yS a
abbrev UF a:=EU (Ba (TY a) (Bp a))
abbrev gB a b c:=DD (TY a) (Jc b c)
abbrev eA a:=DD (Bp a) (TY a)
abbrev Dm a b c d e(f:Nat->Prop):=VV a (eA b) (gB c d e) f
abbrev VG a b c d e f g:=PX (UF a) b (AO c (upL d e (Bp f) (TY g)))
abbrev S2 a b c:=DD (Bt (WQ a b)) (Bp c)
abbrev aS a b c:=S2 (CW a) (Ev b) c
abbrev Dn a b c:=Ld (Bp a) b c
abbrev APJ a b c:=qJ (Bp a) (Int.tdiv (DU (HA (TY b) (Bp c))) 2)
abbrev WM a:=APJ a a a
abbrev AOR a b:=jU a (WM b)
abbrev MX a:=sP (CW a) (CW a) (CW a) (CW a) (CW a) (CW a)
abbrev HQ a b:=AOR (MX a) b
abbrev Nw a b c:=BI (CW a) b c
abbrev AOX a b:=(@List.cons DVal) (QH a) b
abbrev ACU a b c:=AOX a (AOX b c)
abbrev APR a b:=uF a (WM b) (APJ b b b)
abbrev Zr a b:=APR (MX a) b
abbrev Ou a b:=dBnd (DVal.agg (ACU (OS (Zr a b)) (JI (Zr a b)) (ACU (JP (Zr a b)) (OX (Zr a b)) APG)))
abbrev AOY a b c:=Cm a b c c
abbrev VX a:=XT (CW a)
abbrev ZI a:=Hd (CW a)
abbrev VT a b:=DD a (EK b)
attribute [go_sem] Ev CW Td Bp TY ACA APG QK Qr Ns Cb Qm Qg XM Yt WG aR fB UF gB eA Dm VG S2 aS Dn APJ WM AOR MX HQ Nw AOX ACU APR Zr Ou AOY VX ZI VT
theorem CRG(a:UpI):(CMQ a)=(EI (AM (Ev a)) (AW (ZI a) (WG a)) (ER (ZI a) (WG a)) (AX (SB (VX a) (CW a)) (SE (VX a) (CW a)) EQ (Qg a) (Qm a) (BG (λi=>CJ (MX a) i (CW a) (λj=>CK j (MX a) i (CW a) (EJ (BO (MX a) i j) (Cb a i j) (BI (MX a) i j) (Nw a i j) (DW (MX a) i j) (CW a) i j)))) (AW (WG a) (ZI a)) (ER (WG a) (ZI a)) (JR (AY (XM a) (VX a)) (BM (XM a) (VX a)) EQ (Qg a) (Qm a) (BG (λi=>CJ (CW a) i (MX a) (λj=>CK j (CW a) i (MX a) (EJ (Cb a i j) (BO (MX a) i j) (Nw a i j) (BI (MX a) i j) (DW (CW a) i j) (MX a) i j)))) (LA (ZI a) (VX a) ES) (Ev a) (VT (Ev a) (VX a)))) (Td (λi=>CU (Dn i (JZ (WQ (MX a) (Ev a))) (YP (TY i) (Jc (MX a) (Ev a)) (WG a) (QK (aR a) (XM a) (Yt a) EQ (Qg a) (Qm a) (BG (λj=>UL (CW a) j (λk=>UC k (CW a) j (Cb a j k)))) (Ns a) (Qr a)))) (aS a a i) (eA i) (gB i (CW a) (Ev a)) (λj=>VG i j (fB a) (upP yS a) j i i))) (ACA (λi=>HP (Dm (aS a a i) i i (CW a) (Ev a) (λj=>VG i j (fB a) (upP yS a) j i i)) (GD (Bp i) (TY i)) (AN (Dw (Lk (UM 2))) (Cl (WM i) (AW (ZI a) (WG a)) (ER (ZI a) (WG a)) (AF (SB (VX a) (CW a)) (SE (VX a) (CW a)) EQ (Qg a) (JR (Qm a) (BG (λj=>CJ (MX a) j (CW a) (λk=>CK k (MX a) j (CW a) (EJ (BO (MX a) j k) (Cb a j k) (BI (MX a) j k) (Nw a j k) (DW (MX a) j k) (CW a) j k)))) (NM (WG a) (HQ a i)) (NH (WG a) (HQ a i)) (SB (XM a) (HQ a i)) (SE (XM a) (HQ a i)) (LA (ZI a) (VX a) ES) (WM i) (GU (WM i))))) (Ld (OS (Ou a i)) (OS (Zr a i)) (DX (JI (Ou a i)) (JI (Zr a i)) (JP (Ou a i)) (JP (Zr a i)) (AOY (AO (OX (Ou a i)) (OX (Zr a i))) (Ns a) (Qr a)))) (CS (yS (BnF.mk (Ou a i) (UpI.f a))) (Td (λj=>BW (Dn j (WM i) (YP (TY j) (TY i) (WG a) (QK (aR a) (XM a) (Yt a) EQ (BG (λk=>OQ (CW a) k (HQ a i) k)) (JK (CW a) (HQ a i)) (BG (λk=>CJ (CW a) k (HQ a i) (λl=>CK l (CW a) k (HQ a i) (EJ (Cb a k l) (BO (HQ a i) k l) (Nw a k l) (BI (HQ a i) k l) (DW (CW a) k l) (HQ a i) k l)))) (Ns a) (Qr a)))) (Dm (aS a a j) j j (CW a) (Ev a) (λk=>VG j k (fB a) (upP yS a) k j j)) (UF j) (UF i))) (Td (λj=>BW (Dn j (Bp i) (YP (TY j) (JZ (WM i)) (WG a) (QK (aR a) (XM a) (Yt a) EQ (BG (λk=>OQ (CW a) k (HQ a i) k)) (JK (CW a) (HQ a i)) (BG (λk=>CJ (CW a) k (HQ a i) (λl=>CK l (CW a) k (HQ a i) (EJ (Cb a k l) (BO (HQ a i) k l) (Nw a k l) (BI (HQ a i) k l) (DW (CW a) k l) (HQ a i) k l)))) (Ns a) (Qr a)))) (Dm (aS a a j) j j (CW a) (Ev a) (λk=>VG j k (fB a) (upP yS a) k j j)) (UF j) (UF i))))) (YP (fB a) (Bp i) (WG a) (QK (aR a) (XM a) (Yt a) EQ (Qg a) (Qm a) (BG (λj=>UL (CW a) j (λk=>UC k (CW a) j (Cb a j k)))) (Ns a) (Qr a)))))):=by kernel_rfl
theorem AMG(a b c d:Int):dBnd (.agg [QH a,QH b,QH c,QH d])=⟨⟨a,b⟩,⟨c,d⟩⟩:=rfl
theorem BLA{lo hi:Int}(h1:-1<=lo)(h2:lo<=hi)(h3:hi<=2000):IntKind.i64.wrap (lo+IntKind.i64.wrap ((IntKind.i64.wrap (IntKind.i64.wrap (hi-lo)+1)).tdiv 2))=lo+(hi-lo+1).tdiv 2:=by
 have e:(hi-lo+1).tdiv 2=(hi-lo+1) / 2:=Int.tdiv_eq_ediv_of_nonneg (by omega)
 rw[JH (n:=hi-lo) (by omega) (by omega),JH (n:=hi-lo+1) (by omega) (by omega),e,JH (n:=(hi-lo+1) / 2) (by omega) (by omega),JH (by omega) (by omega)]
theorem mH{w:Bk}{k:Int}(h:ZV w.g w.b)(h1:0<=k)(h2:k<=w.b.length):0<=(EN w k).lo/\(EN w k).lo<=(EN w k).hi/\(EN w k).hi<=2000/\∀m:Int,(EN w k).lo<=m->m<=(EN w k).hi->(Et w.b m:Int)=k:=by
 obtain⟨_,_,_,hasc,hbr⟩:=h
 obtain⟨n,rfl⟩:=Int.eq_ofNat_of_zero_le h1
 have h2:n<=w.b.length:=Int.ofNat_le.1 h2
 have hb:∀i,i<w.b.length->1<=gD w.b i/\gD w.b i<=2000:=λi hi=>hbr _ (CV hi)
 have elo:(EN w n).lo=if 0<n then gD w.b (n-1) else 0:=by
  show (bif decide ((n:Int)>0) then gD w.b ((n:Int)-1).toNat else 0)=_
  by_cases h0:0<n
  ·rw[decide_eq_true (show (n:Int)>0 by omega),if_pos h0,show ((n:Int)-1).toNat=n-1 by omega];rfl
  ·rw[decide_eq_false (show ¬(n:Int)>0 by omega),if_neg h0];rfl
 have ehi:(EN w n).hi=if n<w.b.length then gD w.b n-1 else 2000:=by
  show (bif decide ((n:Int)<w.b.length) then wr (gD w.b (n:Int).toNat-1) else 2000)=_
  by_cases h0:n<w.b.length
  ·have:=hb n h0
   rw[decide_eq_true (show (n:Int)<w.b.length by omega),if_pos h0,Int.toNat_natCast]
   unfold wr;rw[JH (by omega) (by omega)];rfl
  ·rw[decide_eq_false (show ¬(n:Int)<w.b.length by omega),if_neg h0];rfl
 have h3:0<n->n<w.b.length->gD w.b (n-1)<gD w.b n:=λa b=>Qf hasc (by omega) b
 refine⟨?_,?_,?_,λm hm hm2=>?_⟩
 ·rw[elo];split
  ·have:=hb (n-1) (by omega);omega
  ·omega
 ·rw[elo,ehi];split<;>split
  ·have:=h3 (by omega) (by omega);omega
  ·exact (hb (n-1) (by omega)).2
  ·have:=hb n (by omega);omega
  ·omega
 ·rw[ehi];split
  ·have:=hb n (by omega);omega
  ·omega
 ·congr 1
  refine iK h2 (λj hj=>?_) (λj hj hj2=>?_)
  ·rw[elo,if_pos (by omega)] at hm
   have:gD w.b j<=gD w.b (n-1):=by
    by_cases e:j=n-1
    ·rw[e];exact Int.le_refl _
    ·exact Int.le_of_lt (Qf hasc (by omega) (by omega))
   exact decide_eq_true (by omega)
  ·rw[ehi,if_pos (by omega)] at hm2
   have:gD w.b n<=gD w.b j:=by
    by_cases e:n=j
    ·rw[e];exact Int.le_refl _
    ·exact Int.le_of_lt (Qf hasc (by omega) hj2)
   exact decide_eq_false (by omega)
theorem O8{lo hi:Int}(h:lo<hi):lo<lo+(hi-lo+1).tdiv 2/\lo+(hi-lo+1).tdiv 2<=hi:=by
 rw[Int.tdiv_eq_ediv_of_nonneg (by omega)];omega
theorem UV{pr:Int->Bool}:∀(m n:Nat) (lo hi:Int),lo<=hi->(hi-lo).toNat<=m->(hi-lo).toNat<=n->upL pr m lo hi=upL pr n lo hi
 |0,0,_,_,_,_,_=>rfl
 |0,n+1,lo,hi,h,h1,_=>by unfold upL;rw[decide_eq_false (show ¬lo<hi by omega)];rfl
 |m+1,0,lo,hi,h,_,h1=>by unfold upL;rw[decide_eq_false (show ¬lo<hi by omega)];rfl
 |m+1,n+1,lo,hi,h,h1,h2=>by
  unfold upL
  by_cases hl:lo<hi
  ·obtain⟨h3,h4⟩:=O8 hl
   rw[decide_eq_true hl]
   cases pr (lo+(hi-lo+1).tdiv 2)
   ·exact UV m n _ _ (by omega) (by omega) (by omega)
   ·exact UV m n _ _ h4 (by omega) (by omega)
  ·rw[decide_eq_false hl];rfl
theorem CST(a:UpI)(h:ZV a.w.g a.w.b)(hk:0<=a.k/\a.k<=a.w.b.length)(hh:a.w.has a.k=true):CMQ a:=by
 rw[CRG]<;> delta JT EE EC DP OV LY LW MN GD CS AO AR CG AK BV BZ CM AQ BU DD ES LX NK Ba UM Sv WL WY iR gU CI EZ LZ VY EU Lj ID RG PA PK Bq BG Jp Dd Vl Vv Ms Ev CW Td Bp TY ACA APG AG GT JO GV IE DG AF AT AH FF CA Eo CF rQ AM BL GQ JM Bu Cm AOY aD Xf AP HA BR cX AS AW DF DX DU sP CR AX qJ BC HH GA HL IC AN Ha JZ jU XT AZ Hd EP GI AY yR DW BW GC CX JD BI FZ uF UU APJ JA HG BO EK CU PF GU Ng AOX WG MX EM WM GH PG IH GF FE BN BM FC EW APR FM FK AOR EQ Aa PX Bt ACU MI Zr WA Mr Gw EJ SE NT OP ER SB SD OX OS NH NQ HQ CJ HZ CK JI JP VW NM HP UL WQ VX ME Jc UF XM Bz EI Dv ZI VV UC RO JK Ld OQ VF JR gB fS eA S2 dF Cb VT QK LA VG YP Dn Ns Qm Qr Qg Ou Nw Dw aR Dm Yt Cl aS fB Lk;simp only[CC,eq_self,implies_true,forall_const,Fa,Sh,yL,yM,Si,AMG,if_true]
 obtain⟨s1,s2,s3,s4⟩:=mH h hk.1 hk.2
 refine⟨⟨h,hk⟩,⟨⟨(EN a.w a.k).lo-1,(EN a.w a.k).hi⟩,⟨(JH (n:=(EN a.w a.k).lo-1) (by omega) (by omega)).symm,rfl⟩,Int.le_refl _,(by omega:(EN a.w a.k).lo-1<=(EN a.w a.k).hi),Int.le_refl _,λm hm=>UV 3000 m ((EN a.w a.k).lo-1) (EN a.w a.k).hi (by omega) (by omega) hm⟩,λx ⟨i1,i2,i3,i4⟩=>⟨λhl=>?_,λhl=>?_⟩⟩
 ·obtain⟨m1,m2⟩:=O8 hl
  simp only[BLA (lo:=x.lo) (hi:=x.hi) (by omega) (by omega) (by omega),show ∀t,kB ⟨a.w,t⟩=(Et a.w.b t:Int) from λ_=>rfl,s4 _ (show (EN a.w a.k).lo<=x.lo+(x.hi-x.lo+1).tdiv 2 by omega) (by omega),aZ hh,implies_true,and_true]
  obtain⟨n,hn⟩:∃n,(x.hi-x.lo).toNat=n+1:=⟨(x.hi-x.lo).toNat-1,by omega⟩
  have key:=i4 (n+1) (by omega)
  unfold upL at key
  rw[decide_eq_true hl] at key
  generalize hM:x.lo+(x.hi-x.lo+1).tdiv 2=M at *
  refine⟨by simp,⟨h,by omega,by omega⟩,λhp=>⟨⟨M,x.hi⟩,⟨rfl,rfl⟩,⟨(by omega:(EN a.w a.k).lo-1<=M),m2,i3,λm hm=>?_⟩,(by omega:(x.hi-M).toNat<(x.hi-x.lo).toNat)⟩,λhp=>⟨⟨x.lo,M-1⟩,⟨rfl,(JH (n:=M-1) (by omega) (by omega)).symm⟩,⟨i1,(by omega:x.lo<=M-1),(by omega:M-1<=(EN a.w a.k).hi),λm hm=>?_⟩,(by omega:(M-1-x.lo).toNat<(x.hi-x.lo).toNat)⟩⟩
  ·rw[key,show upP yS a M=true from hp]
   exact UV n m M x.hi m2 (by omega) hm
  ·rw[key,show upP yS a M=false from hp]
   exact UV n m x.lo (M-1) (by omega) (by omega) hm
 ·rw[i4 0 (by omega)];rfl
end Go.Bal
