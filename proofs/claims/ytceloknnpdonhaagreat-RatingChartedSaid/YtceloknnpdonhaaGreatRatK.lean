/- Package rating: Reach. -/
import Derived.Test.YtceloknnpdonhaaGreatRT2
set_option linter.unusedVariables false
set_option linter.unusedSimpArgs false

namespace Go.Bal
open Go Go.Sym Go.Proofs
structure BnF where
 b:Bnd
 f:Rt
def dBnd:DVal->Bnd
 | .agg [a,b,c,d]=>⟨⟨EO a,EO b⟩,⟨EO c,EO d⟩⟩
 |_=>default
def dBnF:List AVal->Heap->Option (BnF×List (Nat×Nat)×List Nat)
 |[.d x,.bptr id _],H=>match H id with
  | .live (.box [.d n,.d m])=>some (⟨dBnd x,⟨EO n,EO m⟩⟩,[(100,id)],[])
  |_=>none
 |_,_=>none
def bxR(f:Rt):AObj:=.box [.int f.n,.int f.d]
def jA(v:BnF->Bool):Ctr:={ ro:=[100],α:=BnF,xs:=λa=>[.d (eBnd a.b),.bptr 100 0],L:=λa=>[(100,bxR a.f)],val:=λa=>.bool (v a),keep:=λa=>[(100,.live (bxR a.f))] }
def st1(a:BnF):Bool:=decide (cmpR a.b.hi a.f<0)
def st2(a:BnF):Bool:=decide (cmpR a.b.lo a.f<=0)
def CPN:Ann:={ ann 9 [(ALU,BJK)] with E:=[100] }
def DMR(a:BnF):Prop:=BG Try.prog CPN BHE (AL BHE) ((jA st1).xs a) (AF ((jA st1).L a)) ((jA st1).val a) ((jA st1).keep a) [] []
abbrev AEN:=BnF.f
attribute [go_sem] AEN
theorem DSR(a:BnF):(DMR a)=(HE (JB (st1 a) (Ga (Gm (Og (IK (BnF.b a)) (IG (AEN a))) (Og (GE (AEN a)) (IR (BnF.b a)))))) (GE (AEN a)) (uY (AEN a))):=by kernel_rfl
def DLB(a:BnF):Prop:=BG Try.prog CPN BES (AL BES) ((jA st2).xs a) (AF ((jA st2).L a)) ((jA st2).val a) ((jA st2).keep a) [] []
theorem DSQ(a:BnF):(DLB a)=(HE (JB (st2 a) (hd7 (Gm (Og (IP (BnF.b a)) (IG (AEN a))) (Og (GE (AEN a)) (IW (BnF.b a)))) 0)) (GE (AEN a)) (uY (AEN a))):=by kernel_rfl
theorem DOV:AM Try.prog WV ((jA st1).spec dBnF):=WY (jA st1) (λ_=>CPN) [] [] CIF (λ_=>by kernel_rfl) (λ_=>AB D4 AG) (λ(a:BnF) _=>by
 show DMR a;rw[DSR]<;> delta JB AO JD Hy Gm GE IG Aa AEN AH AI HE IR IK uY Og Ga;simp only[CC,eq_self,implies_true,forall_const];first | done | trivial | exact rfl | (refine⟨rfl,?_⟩;exact⟨rfl,rfl⟩)) (λ_=>YE rfl rfl) _
theorem DOZ:AM Try.prog WW ((jA st2).spec dBnF):=WY (jA st2) (λ_=>CPN) [] [] CMC (λ_=>by kernel_rfl) (λ_=>AB D4 AG) (λ(a:BnF) _=>by
 show DLB a;rw[DSQ]<;> delta JB hd7 AO Hy Gm GE IG ZX AEN AH AI HE IP IW uY Og;simp only[CC,eq_self,implies_true,forall_const];first | done | trivial | exact rfl | (refine⟨rfl,?_⟩;exact⟨rfl,rfl⟩)) (λ_=>YE rfl rfl) _
def upL(pr:Int->Bool):Nat->Int->Int->Int
 |0,lo,_=>lo
 |n+1,lo,hi=>bif decide (lo<hi) then (bif pr (lo+(hi-lo+1).tdiv 2) then upL pr n (lo+(hi-lo+1).tdiv 2) hi else upL pr n lo (lo+(hi-lo+1).tdiv 2-1)) else lo
structure UpI where
 w:Bk
 k:Int
 f:Rt
def dUpI(n:FuncId):List AVal->Heap->Option (UpI×List (Nat×Nat)×List Nat)
 |[.bptr id _,.d k,.fn (.func g) [] [.bptr c _]],H=>if g=n then match BVU H id,H c with
  |some (w,q),.live (.box [.d x,.d y])=>some (⟨w,EO k,⟨EO x,EO y⟩⟩,[(100,id),(101,q),(102,c)],[])
  |_,_=>none else none
 |_,_=>none
def upP(v:BnF->Bool)(a:UpI)(t:Int):Bool:=v ⟨bndM (lB ⟨a.w,t⟩) t,a.f⟩
def upM(v:BnF->Bool)(a:UpI):Int:=upL (upP v a) 3000 ((FH a.w a.k).lo-1) (FH a.w a.k).hi
structure LH where
 lo:Int
 hi:Int
 deriving Inhabited
def upH(a:UpI):List (Nat×HCell):=bkK a.w ++ [(102,.live (bxR a.f))]
def up3(v:BnF->Bool)(n:FuncId)(a:UpI):Shape:={ α:=LH,dflt:=default,T:=λx=>⟨[(0,.bptr 100 0),(2,.fn (.func n) [] [.bptr 102 0]),(8,.int x.lo),(9,.int x.hi)],upH a⟩,inv:=λx=>(FH a.w a.k).lo-1<=x.lo/\x.lo<=x.hi/\x.hi<=(FH a.w a.k).hi/\∀m:Nat,(x.hi-x.lo).toNat<=m->upM v a=upL (upP v a) m x.lo x.hi,meas:=λx=>(x.hi-x.lo).toNat }
def C_up(v:BnF->Bool)(n:FuncId):Ctr:={ ro:=[100,101,102],α:=UpI,xs:=λa=>[.bptr 100 0,.int a.k,.fn (.func n) [] [.bptr 102 0]],L:=λa=>bkL a.w ++ [(102,bxR a.f)],val:=λa=>.int (upM v a),keep:=λa=>upH a,pre:=λa=>[Ic a.w.g a.w.b/\0<=a.k/\a.k<=a.w.b.length/\a.w.has a.k=true] }
def A_up(v:BnF->Bool)(n:FuncId)(f:Sym.Spec)(a:UpI):Ann:={ ann 44 [(BPO,C_span.spec dBkI),(nL,C_bnd.spec dBkt),(n,f)] with E:=[100,101,102],loops:=λid=>if id=3 then some [up3 v n a] else none }
def DND(a:UpI):Prop:=BG Try.prog (A_up st1 WV ((jA st1).spec dBnF) a) R7 (AL R7) ((C_up st1 WV).xs a) (AF ((C_up st1 WV).L a)) ((C_up st1 WV).val a) ((C_up st1 WV).keep a) [] []
abbrev AOX:=UpI.k
abbrev DF:=UpI.w
abbrev fE:=@Exists LH
abbrev Hz:=LH.lo
abbrev YI:=LH.hi
abbrev BBL:=λ(f:LH->Prop)=>∀(x:LH),f x
abbrev BRO:=@List.nil DVal
abbrev Rs a:=uY (UpI.f a)
abbrev aX a:=AI (GE (UpI.f a))
abbrev Jv a b c:=CF (DF a) b c
abbrev Kr a b c:=CH (DF a) b c
abbrev pN a b:=Ca (DF a) b
abbrev dD a:=OI (DF a)
abbrev aH a:=QV (DF a)
abbrev Wc a:=XL (DF a)
abbrev mK a:=GU (Wc a)
abbrev QU a:=QN (DF a)
abbrev nU a:=BR (QU a)
abbrev tZ a:=upM st1 a
abbrev ZJ a:=FZ (Kq (YI a) (Hz a))
abbrev vN a b:=DJ (YI a) (FL b)
abbrev wN a:=DJ (Hz a) (YI a)
abbrev wF a b:=DJ (Nw (EM a)) (Hz b)
abbrev Kg a b c d(e:Nat->Prop):=Vp (wF a b) (wN c) (vN d a) e
abbrev Bg a b c d e f g:=Kn (ZJ a) b (AO c (upL d e (Hz f) (YI g)))
abbrev ADB a b:=tD a (AOX b)
abbrev Zd a:=ADB (DF a) a
abbrev Ju a b c:=Ax (Hz a) b c
abbrev BLM a b:=xR (Hz a) (Int.tdiv (Tw (YI b) (Hz b)) 2)
abbrev BPF a b c:=BMC a (BLM b c)
abbrev AYJ a b:=kP a (BPF a b b)
abbrev II a b:=AYJ (DF a) b
abbrev TP a:=BLM a a
abbrev AWL a b:=(@List.cons DVal) (JS a) b
abbrev D1 a b c:=AWL a (AWL b c)
abbrev AYL a b:=yC (BPF a b b) (BLM b b)
abbrev Qh a b:=AYL (DF a) b
abbrev aM a b:=dBnd (DVal.agg (D1 (IP (Qh a b)) (IW (Qh a b)) (D1 (IK (Qh a b)) (IR (Qh a b)) BRO)))
abbrev UJ a:=Pd (DF a)
abbrev Ee a:=pT (DF a)
abbrev JR a:=Ud (DF a)
abbrev Fq a b:=DJ a (ER b)
attribute [go_sem] AOX DF fE Hz YI BBL BRO Rs aX Jv Kr pN dD aH Wc mK QU nU tZ ZJ vN wN wF Kg Bg ADB Zd Ju BLM BPF AYJ II TP AWL D1 AYL Qh aM UJ Ee JR Fq
theorem DQW(a:UpI):(DND a)=(AH (AY (AI (AOX a)) (CG (Ee a) (QU a)) (AT (Ee a) (QU a)) (LP (NC (UJ a) (DF a)) (λi=>TI i (UJ a) (DF a) i) CV (aH a) (dD a) (AN (λi=>EX (JR a) i (DF a) (λj=>DW j (JR a) i (DF a) (CU (CH (JR a) i j) (Kr a i j) (CF (JR a) i j) (Jv a i j) (FB (JR a) i j) (DF a) i j)))) (CG (QU a) (Ee a)) (AT (QU a) (Ee a)) (LP (AW (Wc a) (UJ a)) (λi=>Bn i (DF a) (BJ (UJ a) i)) CV (aH a) (dD a) (AN (λi=>EX (DF a) i (JR a) (λj=>DW j (DF a) i (JR a) (CU (Kr a i j) (CH (JR a) i j) (Jv a i j) (CF (JR a) i j) (FB (DF a) i j) (JR a) i j)))) (PD (Ee a) (UJ a) DX (λi=>PG i (UJ a) i i)) (BC (AOX a)) (Fq (AOX a) (UJ a))))) (fE (λi=>RY (Ju i (FA (EM (ADB (JR a) a))) (Ff (YI i) (FL (ADB (JR a) a)) (QU a) (LQ (nU a) (mK a) (λj=>Gc j (Wc a) (DF a) j) CV (aH a) (dD a) (AN (λj=>Ct (pN a j) (λk=>Cq k (pN a j) (DF a) j (Kr a j k) (Jv a j k)))) (aX a) (Rs a)))) (wF (Zd a) i) (wN i) (vN i (Zd a)) (λj=>Bg i j (tZ a) (upP st1 a) j i i))) (BBL (λi=>FF (Kg (Zd a) i i i (λj=>Bg i j (tZ a) (upP st1 a) j i i)) (Hz i) (YI i) (AY (Kt XQ) (HX (AI (TP i)) (CG (Ee a) (QU a)) (AT (Ee a) (QU a)) (NC (UJ a) (DF a)) (AK (λj=>TI j (UJ a) (DF a) j)) CV (aH a) (EB (dD a) (AN (λj=>EX (JR a) j (DF a) (λk=>DW k (JR a) j (DF a) (CU (CH (JR a) j k) (Kr a j k) (CF (JR a) j k) (Jv a j k) (FB (JR a) j k) (DF a) j k)))) (IN (QU a) (II a i)) (SX (QU a) (II a i)) (MO (DF a) (II a i)) (λj=>MP j (DF a) (II a i)) (PD (Ee a) (UJ a) DX (λj=>PG j (UJ a) j j)) (BC (TP i)) (HN (TP i)))) (Ax (IP (aM a i)) (IP (Qh a i)) (DN (IW (aM a i)) (IW (Qh a i)) (AO (IK (aM a i)) (IK (Qh a i))) (BBF (AO (IR (aM a i)) (IR (Qh a i))) (aX a) (Rs a) (Rs a)))) (DV (st1 (BnF.mk (aM a i) (UpI.f a))) (fE (λj=>CK (Ju j (TP i) (Ff (YI j) (YI i) (QU a) (LQ (nU a) (mK a) (λk=>Gc k (Wc a) (DF a) k) CV (AN (λk=>SS (DF a) k (II a i) k)) (MV (DF a) (II a i)) (AN (λk=>EX (DF a) k (II a i) (λl=>DW l (DF a) k (II a i) (CU (Kr a k l) (CH (II a i) k l) (Jv a k l) (CF (II a i) k l) (FB (DF a) k l) (II a i) k l)))) (aX a) (Rs a)))) (Kg (Zd a) j j j (λk=>Bg j k (tZ a) (upP st1 a) k j j)) (ZJ j) (ZJ i))) (fE (λj=>CK (Ju j (Hz i) (Ff (YI j) (FA (TP i)) (QU a) (LQ (nU a) (mK a) (λk=>Gc k (Wc a) (DF a) k) CV (AN (λk=>SS (DF a) k (II a i) k)) (MV (DF a) (II a i)) (AN (λk=>EX (DF a) k (II a i) (λl=>DW l (DF a) k (II a i) (CU (Kr a k l) (CH (II a i) k l) (Jv a k l) (CF (II a i) k l) (FB (DF a) k l) (II a i) k l)))) (aX a) (Rs a)))) (Kg (Zd a) j j j (λk=>Bg j k (tZ a) (upP st1 a) k j j)) (ZJ j) (ZJ i))))) (Ff (tZ a) (Hz i) (QU a) (LQ (nU a) (mK a) (λj=>Gc j (Wc a) (DF a) j) CV (aH a) (dD a) (AN (λj=>Ct (pN a j) (λk=>Cq k (pN a j) (DF a) j (Kr a j k) (Jv a j k)))) (aX a) (Rs a)))))):=by kernel_rfl
theorem BNT(a b c d:Int):dBnd (.agg [JS a,JS b,JS c,JS d])=⟨⟨a,b⟩,⟨c,d⟩⟩:=rfl
theorem CPO{lo hi:Int}(h1:-1<=lo)(h2:lo<=hi)(h3:hi<=2000):IntKind.i64.wrap (lo+IntKind.i64.wrap ((IntKind.i64.wrap (IntKind.i64.wrap (hi-lo)+1)).tdiv 2))=lo+(hi-lo+1).tdiv 2:=by
 have e:(hi-lo+1).tdiv 2=(hi-lo+1) / 2:=Int.tdiv_eq_ediv_of_nonneg (by omega)
 rw[JC (n:=hi-lo) (by omega) (by omega),JC (n:=hi-lo+1) (by omega) (by omega),e,JC (n:=(hi-lo+1) / 2) (by omega) (by omega),JC (by omega) (by omega)]
theorem I8{w:Bk}{k:Int}(h:Ic w.g w.b)(h1:0<=k)(h2:k<=w.b.length):0<=(FH w k).lo/\(FH w k).lo<=(FH w k).hi/\(FH w k).hi<=2000/\∀m:Int,(FH w k).lo<=m->m<=(FH w k).hi->(Uo w.b m:Int)=k:=by
 obtain⟨_,_,_,hasc,hbr⟩:=h
 obtain⟨n,rfl⟩:=Int.eq_ofNat_of_zero_le h1
 have h2:n<=w.b.length:=Int.ofNat_le.1 h2
 have hb:∀i,i<w.b.length->1<=gD w.b i/\gD w.b i<=2000:=λi hi=>hbr _ (HI hi)
 have elo:(FH w n).lo=if 0<n then gD w.b (n-1) else 0:=by
  show (bif decide ((n:Int)>0) then gD w.b ((n:Int)-1).toNat else 0)=_
  by_cases h0:0<n
  ·rw[decide_eq_true (show (n:Int)>0 by omega),if_pos h0,show ((n:Int)-1).toNat=n-1 by omega];rfl
  ·rw[decide_eq_false (show ¬(n:Int)>0 by omega),if_neg h0];rfl
 have ehi:(FH w n).hi=if n<w.b.length then gD w.b n-1 else 2000:=by
  show (bif decide ((n:Int)<w.b.length) then wr (gD w.b (n:Int).toNat-1) else 2000)=_
  by_cases h0:n<w.b.length
  ·have:=hb n h0
   rw[decide_eq_true (show (n:Int)<w.b.length by omega),if_pos h0,Int.toNat_natCast]
   unfold wr;rw[JC (by omega) (by omega)];rfl
  ·rw[decide_eq_false (show ¬(n:Int)<w.b.length by omega),if_neg h0];rfl
 have h3:0<n->n<w.b.length->gD w.b (n-1)<gD w.b n:=λa b=>Q0 hasc (by omega) b
 refine⟨?_,?_,?_,λm hm hm2=>?_⟩
 ·rw[elo];split
  ·have:=hb (n-1) (by omega);omega
  ·omega
 ·rw[elo,ehi];split<;>split
  ·have:=h3 (by omega) (by omega);omega
  ·exact (hb (n-1) (by omega)).2
  ·have:=hb n (by omega);omega
  ·omega
 ·rw[ehi];split
  ·have:=hb n (by omega);omega
  ·omega
 ·congr 1
  refine BOW h2 (λj hj=>?_) (λj hj hj2=>?_)
  ·rw[elo,if_pos (by omega)] at hm
   have:gD w.b j<=gD w.b (n-1):=by
    by_cases e:j=n-1
    ·rw[e];exact Int.le_refl _
    ·exact Int.le_of_lt (Q0 hasc (by omega) (by omega))
   exact decide_eq_true (by omega)
  ·rw[ehi,if_pos (by omega)] at hm2
   have:gD w.b n<=gD w.b j:=by
    by_cases e:n=j
    ·rw[e];exact Int.le_refl _
    ·exact Int.le_of_lt (Q0 hasc (by omega) hj2)
   exact decide_eq_false (by omega)
theorem AXH{lo hi:Int}(h:lo<hi):lo<lo+(hi-lo+1).tdiv 2/\lo+(hi-lo+1).tdiv 2<=hi:=by
 rw[Int.tdiv_eq_ediv_of_nonneg (by omega)];omega
theorem ZR{pr:Int->Bool}:∀(m n:Nat) (lo hi:Int),lo<=hi->(hi-lo).toNat<=m->(hi-lo).toNat<=n->upL pr m lo hi=upL pr n lo hi
 |0,0,_,_,_,_,_=>rfl
 |0,n+1,lo,hi,h,h1,_=>by unfold upL;rw[decide_eq_false (show ¬lo<hi by omega)];rfl
 |m+1,0,lo,hi,h,_,h1=>by unfold upL;rw[decide_eq_false (show ¬lo<hi by omega)];rfl
 |m+1,n+1,lo,hi,h,h1,h2=>by
  unfold upL
  by_cases hl:lo<hi
  ·obtain⟨h3,h4⟩:=AXH hl
   rw[decide_eq_true hl]
   cases pr (lo+(hi-lo+1).tdiv 2)
   ·exact ZR m n _ _ (by omega) (by omega) (by omega)
   ·exact ZR m n _ _ h4 (by omega) (by omega)
  ·rw[decide_eq_false hl];rfl
theorem DXQ(a:UpI)(h:Ic a.w.g a.w.b)(hk:0<=a.k/\a.k<=a.w.b.length)(hh:a.w.has a.k=true):DND a:=by
 rw[DQW]<;> delta JB EM FL NE Kq AR AK BO CI AO AU UH EA DV JD DJ DX OP FZ PS QP AN BN BJ JN EY GW FC GF GD HB GE IG ZX Aa CW FX Jb JY NK Dc QN XL Xt Ma tD AOX DF fE Hz YI BBL BRO AH LY NX LX NY AJ AZ EV AI BI FJ RH BBF sM sI DK AP Wm DI tP DY LI A2 BZ ED BC DZ EZ Pd pT APF Ud xR Tw DN GQ JA HE ER ID BLM HC AW Ca QL BMC HY YB FB Il HL UW BPF GU AY CG CF yC Bt IA Gk BY CH CK JZ Yf FK kP AWL QU HN TP OB AYL KJ GH OH EC Rv CV D1 FU FA FF AYJ GM HO OI QV Hq Qh BR IR IP CU Cw NC CR IW IK Cy Kn JR Wr AT Oc Nw II Ct EX QE DW XK RY UJ EB IN ZJ Bn UE MO Ka Ax Ow Ee MP Cq ADB HX Wc Mw PG MV Zd uY LQ SS TI SX XQ vN Vp wF LP Kr wN Ev Jv Rs Gc PD Bg Ff Ju Fq aH aX dD Kt aM nU mK Kg pN tZ;simp only[CC,eq_self,implies_true,forall_const,Wy,eE,AOW,AOJ,eD,BNT,if_true]
 obtain⟨s1,s2,s3,s4⟩:=I8 h hk.1 hk.2
 refine⟨⟨h,hk⟩,⟨⟨(FH a.w a.k).lo-1,(FH a.w a.k).hi⟩,⟨(JC (n:=(FH a.w a.k).lo-1) (by omega) (by omega)).symm,rfl⟩,Int.le_refl _,(by omega:(FH a.w a.k).lo-1<=(FH a.w a.k).hi),Int.le_refl _,λm hm=>ZR 3000 m ((FH a.w a.k).lo-1) (FH a.w a.k).hi (by omega) (by omega) hm⟩,λx ⟨i1,i2,i3,i4⟩=>⟨λhl=>?_,λhl=>?_⟩⟩
 ·obtain⟨m1,m2⟩:=AXH hl
  simp only[CPO (lo:=x.lo) (hi:=x.hi) (by omega) (by omega) (by omega),show ∀t,kB ⟨a.w,t⟩=(Uo a.w.b t:Int) from λ_=>rfl,s4 _ (show (FH a.w a.k).lo<=x.lo+(x.hi-x.lo+1).tdiv 2 by omega) (by omega),nY hh,implies_true,and_true]
  obtain⟨n,hn⟩:∃n,(x.hi-x.lo).toNat=n+1:=⟨(x.hi-x.lo).toNat-1,by omega⟩
  have key:=i4 (n+1) (by omega)
  unfold upL at key
  rw[decide_eq_true hl] at key
  generalize hM:x.lo+(x.hi-x.lo+1).tdiv 2=M at *
  refine⟨by simp,⟨h,by omega,by omega⟩,λhp=>⟨⟨M,x.hi⟩,⟨rfl,rfl⟩,⟨(by omega:(FH a.w a.k).lo-1<=M),m2,i3,λm hm=>?_⟩,(by omega:(x.hi-M).toNat<(x.hi-x.lo).toNat)⟩,λhp=>⟨⟨x.lo,M-1⟩,⟨rfl,(JC (n:=M-1) (by omega) (by omega)).symm⟩,⟨i1,(by omega:x.lo<=M-1),(by omega:M-1<=(FH a.w a.k).hi),λm hm=>?_⟩,(by omega:(M-1-x.lo).toNat<(x.hi-x.lo).toNat)⟩⟩
  ·rw[key,show upP st1 a M=true from hp]
   exact ZR n m M x.hi m2 (by omega) hm
  ·rw[key,show upP st1 a M=false from hp]
   exact ZR n m x.lo (M-1) (by omega) (by omega) hm
 ·rw[i4 0 (by omega)];rfl
end Go.Bal
