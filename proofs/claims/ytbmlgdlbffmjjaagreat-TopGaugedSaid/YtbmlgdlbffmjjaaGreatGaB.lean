/- Package level: Check. Printed by gengau.py. -/
import Derived.Test.YtbmlgdlbffmjjaaGreatGaA
import Derived.Test.YtbmlgdlbffmjjaaGreatRatE
import Derived.Test.YtbmlgdlbffmjjaaGreatGaI
set_option linter.unusedVariables false
set_option linter.unusedSimpArgs false
namespace Go.Bal
open Go Go.Sym Go.Proofs
structure LNI where
 l:List Lin
 i:Int
structure LNX where
 l:List Lin
 x:Lin
def netB(l:List Lin):AObj:=.box [.int 3,.d (N6 l)]
def ckL(l:List Lin):List (Nat×AObj):=[(101,.box [.fn (.func zG) [] [.bptr 102 0]]),(102,netB l)]
def ckK(l:List Lin):List (Nat×HCell):=[(101,.live (.box [.fn (.func zG) [] [.bptr 102 0]])),(102,.live (netB l))]
def BXN(H:Heap)(id:Nat):Option (List Lin):=match H id with
 | .live (.box [_,.d (.list _ n f _)])=>some (WA n λj=>vH (f j))
 |_=>none
def BFU(H:Heap)(id:Nat):Option (List Lin×Nat):=match H id with
 | .live (.box [.fn _ _ [.bptr j _]])=>(BXN H j).map λl=>(l,j)
 |_=>none
def C_lCk1:Ctr:={ ro:=[102],α:=LNI,xs:=λa=>[.int a.i,.bptr 102 0],L:=λa=>[(102,netB a.l)],val:=λa=>.bool (MN a.i 0 2),keep:=λa=>[(102,.live (netB a.l))] }
def BZF:List AVal->Heap->Option (LNI×List (Nat×Nat)×List Nat)
 |[.d (.v (.int .i64 i)),.bptr id _],H=>(BXN H id).map λl=>(⟨l,i⟩,[(102,id)],[])
 |_,_=>none
def BUJ:Ann:={ ann 9 [(AMR,Fg)] with E:=[102] }
def BRJ(a:LNI):Prop:=AX Try.prog BUJ BDV (AF BDV) (C_lCk1.xs a) (AC (C_lCk1.L a)) (C_lCk1.val a) (C_lCk1.keep a) [] []
theorem CFY(a:LNI):(BRJ a)=(AQ (LI (FC (LNI.i a) 2) (FC (LNI.i a) (Ox 3))) AT (JC (LNI.l a)) (RE (LNI.l a))):=by kernel_rfl
def Ac(x:Lin):Bool:=MN x.f 0 2&&(MN x.t 0 2&&(!(x.f==x.t)&&(MN x.d 0 40000&&(MN x.r (-1000000) 1000000&&MN x.e 0 10000))))
def C_lCk2:Ctr:={ ro:=[101,102],α:=LNX,xs:=λa=>[.d (eLin a.x),.bptr 101 0],L:=λa=>ckL a.l,val:=λa=>.bool (Ac a.x),keep:=λa=>ckK a.l }
def BUZ:List AVal->Heap->Option (LNX×List (Nat×Nat)×List Nat)
 |[.d d,.bptr id _],H=>(BFU H id).map λp=>(⟨p.1,vH d⟩,[(101,id),(102,p.2)],[])
 |_,_=>none
def BXB:Ann:={ ann 36 [(AMR,Fg),(zG,C_lCk1.spec BZF)] with E:=[101,102] }
def BZH(a:LNX):Prop:=AX Try.prog BXB BAZ (AF BAZ) (C_lCk2.xs a) (AC (C_lCk2.L a)) (C_lCk2.val a) (C_lCk2.keep a) [] []
abbrev mX:=LNX.x
abbrev Fy:=LNX.l
abbrev Jz:=Ac
abbrev PF a b c d e:=AQ a b (AN c d) e
abbrev GY a b c d e f g h:=FV a b c d (AK (FL b e) f) g h
abbrev NR a b c:=AK (JV a b) c
abbrev Rq a b:=(@WA Lin) (OI a) (λi=>Fh b i)
abbrev HB a b:=Fh (Rq a a) b
abbrev VC a b:=ZL (HB a b)
abbrev QY a b c:=NR a b (VC a c)
abbrev NG a b c:=AK (JX a b) c
abbrev UL a b:=ZJ (HB a b)
abbrev QZ a b c:=NG a b (UL a c)
abbrev KJ a b:=ZM (HB a b)
abbrev Fu a b:=AK a (TE b)
abbrev PZ a b c:=Fu (EN a b) c
abbrev RH a b c:=PZ a b (HB a c)
abbrev Gj a b:=AK a (TC b)
abbrev QE a b c:=Gj (IV a b) c
abbrev RA a b c:=QE a b (HB a c)
abbrev IU a:=Rq a a
abbrev FU a:=OI (IU a)
abbrev OV a b:=AN a (FU b)
abbrev TY a:=OV (OI a) a
abbrev Bv a b c d e f g:=LF a (FU b) c d e f g
abbrev Bg a b c:=AK a (JV b c)
abbrev Ci a b c:=AK a (JX b c)
abbrev Bz a b c:=AK a (FL b c)
abbrev OO a b c d e f g:=Bv a b c d (Bz e b a) (Ci f b a) (Bg g b a)
abbrev Ba a b c:=AK a (EN b c)
abbrev OQ a b c:=Ba (TE a) b c
abbrev An a b c:=AK a (IV b c)
abbrev OF a b c:=An (TC a) b c
abbrev IP a b c d e f g:=OO a b (OF (HB b c) b c) (OQ (HB b d) b d) (KJ b e) (UL b f) (VC b g)
abbrev Eb a b:=AN a (OI b)
abbrev FM a:=Eb (FU a) a
abbrev Ry:=FD 3
attribute [go_sem] mX Fy Jz PF GY NR Rq HB VC QY NG UL QZ KJ Fu PZ RH Gj QE RA IU FU OV TY Bv Bg Ci Bz OO Ba OQ An OF IP Eb FM Ry
theorem CDP(a:LNX):(BZH a)=(LQ (PF (AJ (TC (mX a))) AT (FU (Fy a)) (OI (Fy a)) (Cl (λi=>IP i (Fy a) i i i i i) AT (TY (Fy a)) (AE (λi=>GY i (Fy a) (RA (Fy a) i i) (RH (Fy a) i i) i (KJ (Fy a) i) (QZ (Fy a) i i) (QY (Fy a) i i))) (FW (FC (TC (mX a)) 2) (CM (AJ (TE (mX a))) Ry (LQ (FM (Fy a)) (AE (λi=>IP i (Fy a) i i i i i)) AT (TY (Fy a)) (λi=>GY i (Fy a) (RA (Fy a) i i) (RH (Fy a) i i) i (KJ (Fy a) i) (QZ (Fy a) i i) (QY (Fy a) i i))))))) (HY (Jz (mX a)) (BY (BY (BY (BY (FC (TC (mX a)) 2) (FC (TE (mX a)) 2)) (cI (TC (mX a)) (TE (mX a)))) (FC (ZM (mX a)) 40000)) (MN (ZJ (mX a)) (-1000000) 1000000)) (FC (ZL (mX a)) 10000)) AT (JC (Fy a)) (λi=>NO i (Fy a))):=by kernel_rfl
theorem CCT:AH Try.prog zG (C_lCk1.spec BZF):=PU C_lCk1 (λ_=>BUJ) [] [] CAX (λ_=>by kernel_rfl) (λ_=>AA APO AD) (λ(a:LNI) _=>by
 show BRJ a;rw[CFY]<;> delta LI AK AN AE BA BN NC No FD TE TC OI Fh ZM ZJ ZL CS AG AI AO AJ AR IR BO AQ LF JV JX AT IV EN FV FL JC YV YF YN YZ YH FC NO RE Ox;simp only[CC,CU,CF];try rfl) (λ_=>RU rfl rfl) _
theorem CGC:AH Try.prog AUA (C_lCk2.spec BUZ):=PU C_lCk2 (λ_=>BXB) [] [] CBO (λ_=>by kernel_rfl) (λ_=>AA APO (AA CCT AD)) (λ(a:LNX) _=>by
 show BZH a;rw[CDP]<;> delta LI Wo UD cI HU AK AN AE BA BN FD TE TC OI Fh ZM ZJ ZL mX Fy Jz AG AI AO AJ AR CM Rq BO AQ HB IU FU LF JV GI JX AT IV EN FW FV FL PF BY JC YV YF YN Bz YZ Ba Eb VC YH An UL FC Ci KJ OF OQ Bg Bv LQ FM NO OV Gj HY Fu QE PZ NG NR GY OO IP TY QY QZ RH Cl RA Ry;simp only[CC,CU,CF]
 unfold Ac
 rw[show (a.x.f != a.x.t)=!(a.x.f==a.x.t) from rfl]
 generalize (a.x.f==a.x.t)=b
 cases MN a.x.f 0 2<;>cases MN a.x.t 0 2<;>cases b<;>cases MN a.x.d 0 40000<;>cases MN a.x.r (-1000000) 1000000<;>rfl) (λ_=>RU rfl rfl) _
def LXKn(q:(List Lin)):List (Nat×AObj):=[(101,.box [.fn (.func zG) [] [.bptr 102 0]]),(102,netB q)]
def KXKn(q:(List Lin)):List (Nat×HCell):=[(101,.live (.box [.fn (.func zG) [] [.bptr 102 0]])),(102,.live (netB q))]
def fvKn(q:(List Lin)):AVal:=.fn (.func AUA) [] [.bptr 101 0]
def BKn(q:(List Lin)):AObj:=.box [fvKn q]
structure EKn where
 q:(List Lin)
 e:Lin
structure MKn where
 q:(List Lin)
 l:List Lin
def C1Kn:Ctr:={ ro:=[100,101,102],α:=EKn,xs:=λa=>[.d (eLin a.e),.bptr 100 0],L:=λa=>(100,BKn a.q) :: LXKn a.q,val:=λa=>.bool (!Ac a.e),keep:=λa=>(100,.live (BKn a.q)) :: KXKn a.q,pre:=λa=>[True] }
def d1Kn:List AVal->Heap->Option (EKn×List (Nat×Nat)×List Nat)
 |[.d d,.bptr id _],H=>match H id with
  | .live (.box [.fn _ _ [.bptr j _]])=>match BFU H j with
   |some p=>some (⟨p.1,vH d⟩,[(100,id),(101,j),(102,p.2)],[])
   |none=>none
  |_=>none
 |_,_=>none
def A1Kn:Ann:={ ann 8 [(AUA,C_lCk2.spec BUZ)] with E:=[100,101,102] }
def V1Kn(a:EKn):Prop:=AX Try.prog A1Kn BZV (AF BZV) (C1Kn.xs a) (AC (C1Kn.L a)) (C1Kn.val a) (C1Kn.keep a) [] []
abbrev ABA:=EKn.e
abbrev mG:=EKn.q
attribute [go_sem] ABA mG
theorem CSG(a:EKn):(V1Kn a)=(LQ (CM (AJ (TC (ABA a))) (TE (ABA a)) (cY (AJ (ZM (ABA a))) (AJ (ZJ (ABA a))) (AJ (ZL (ABA a))) AT (FM (mG a)) (AE (λi=>IP i (mG a) i i i i i)) (TY (mG a)) (AE (λi=>GY i (mG a) (RA (mG a) i i) (RH (mG a) i i) i (KJ (mG a) i) (QZ (mG a) i i) (QY (mG a) i i))))) (Dm (Jz (ABA a))) AT (JC (mG a)) (λi=>NO i (mG a))):=by kernel_rfl
theorem CRB:AH Try.prog AWZ (C1Kn.spec d1Kn):=PU C1Kn (λ_=>A1Kn) [] [] CMP (λ_=>by kernel_rfl) (λ_=>AA CGC AD) (λ(a:EKn) h=>by
 have h:True:=h
 show V1Kn a;rw[CSG]<;> delta LI AK AN AE BA BN FD TE TC OI Fh ZM ZJ ZL Jz ABA mG AG AI AO AJ AR DF AS CM cY Rq BO HB IU FU LF JV JX AT IV EN FV FL JC YV YF YN Bz YZ Ba Eb VC YH An UL Ci KJ OF OQ Bg Bv LQ FM NO OV Gj Fu QE PZ NG NR GY OO IP TY QY QZ RH Dm RA;try simp[wr,Fj,CF,CBL,h]) (λ_=>RU rfl rfl) _
def d2Kn:List AVal->Heap->Option (MKn×List (Nat×Nat)×List Nat)
 |[y,.fn _ _ [.bptr id _]],H=>match xY y H with
  |some (n,g,f)=>match H id with
   | .live (.box [.fn _ _ [.bptr j _]])=>match BFU H j with
    |some p=>some (⟨p.1,WA n λi=>vH (g i)⟩,[(100,id),(101,j),(102,p.2)],f)
    |none=>none
   |_=>none
  |none=>none
 |_,_=>none
def A2Kn(a:MKn):Ann:={ ann 19 [(AWZ,C1Kn.spec d1Kn)] with E:=[100,101,102],loops:=λid=>if id=2 then some [{ α:=Nat,dflt:=0,T:=λk=>⟨[(0,.d (N6 a.l)),(1,.fn (.func AWZ) [] [.bptr 100 0]),(7,.int a.l.length),(8,.int k)],(100,.live (BKn a.q)) :: KXKn a.q⟩,inv:=λk=>k<=a.l.length/\aT (λi=>!Ac (gD a.l i)) a.l.length 0=aT (λi=>!Ac (gD a.l i)) (a.l.length-k) k,meas:=λk=>a.l.length-k }] else none }
def PKn(a:MKn):List Prop:=[a.l.length<4611686018427387904/\True]
def C2Kn:Ctr:={ ro:=[100,101,102],α:=MKn,xs:=λa=>[.d (N6 a.l),.fn (.func AWZ) [] [.bptr 100 0]],L:=λa=>(100,BKn a.q) :: LXKn a.q,val:=λa=>.int (aT (λi=>!Ac (gD a.l i)) a.l.length 0),keep:=λa=>(100,.live (BKn a.q)) :: KXKn a.q,pre:=PKn }
def V2Kn(a:MKn):Prop:=AX Try.prog (A2Kn a) BRI (AF BRI) (C2Kn.xs a) (AC (C2Kn.L a)) (C2Kn.val a) (C2Kn.keep a) [] []
abbrev Ae:=MKn.l
abbrev OA:=MKn.q
abbrev kP a:=JC (OA a)
abbrev XY a:=OI (Ae a)
abbrev Vg a b:=Jz (Fh (Ae a) b)
attribute [go_sem] Ae OA kP XY Vg
theorem CSX(a:MKn):(V2Kn a)=(TS (λi=>FG (FK (JC (Ae a)) (RE (Ae a)) (EJ (XY a)) (BD i) AT (kP a) (RE (OA a))) i (XY a) (XB (λj=>Vg a j) (XY a) (λj=>Vg a j) (KE (XY a) i) i)) (λi=>UO (CJ i (XY a) (XB (λj=>Vg a j) (XY a) (λj=>Vg a j) (KE (XY a) i) i)) i (XY a) (AI (BE i (XY a)) (YN (Ae a) i) (YF (Ae a) i) (YV (Ae a) i) (AS (YZ (Ae a) i) (YH (Ae a) i) AT (FM (OA a)) (AE (λj=>IP j (OA a) j j j j j)) AT (TY (OA a)) (AE (λj=>GY j (OA a) (RA (OA a) j j) (RH (OA a) j j) j (KJ (OA a) j) (QZ (OA a) j j) (QY (OA a) j j))) FT)) (not (Vg a i)) (AQ (Lx (λj=>Vg a j) (XY a) (BH i)) AT (kP a) (RE (OA a))) (CG (λj=>FB (FK (JC (Ae a)) (RE (Ae a)) (EJ (XY a)) (AU j i) AT (kP a) (RE (OA a))) (CJ j (XY a) (XB (λk=>Vg a k) (XY a) (λk=>Vg a k) (KE (XY a) j) j)) (XY a) j i)) (AQ (Lx (λj=>Vg a j) (XY a) (-1)) AT (kP a) (RE (OA a))))):=by kernel_rfl
theorem p2Kn(a:MKn)(h:CR (PKn a)):V2Kn a:=by
 obtain⟨h,hp⟩:a.l.length<4611686018427387904/\True:=h
 rw[CSX]<;> delta NX EZ AK AN AE BA BN BH CV DC ER NC TD KE FD TE TC FT OI Fh ZM ZJ ZL CG Jz Ae OA CS AG AI AO AJ AR AS BG DK Rq BO GJ AQ HB IU EJ EB DR EX FP FU LF JV EV JX AT DT IV JD EN AU EY FV FL FK BE HX CJ LA HH Gh JC YV YF YN BD Bz YZ Ba Eb VC HF YH An UL FG Ci KJ OF OQ Bg Bh Bv SA FM TM FB NO RE OV Gj Fu QE PZ NG UO NR GY OO XY Lx XB IP TY QY QZ RH TS Vg RA kP
 simp only[CC,CU,CF]
 refine⟨⟨0,rfl,Nat.zero_le _,rfl⟩,λk ⟨h1,h2⟩=>⟨λhlt=>?_,λhge=>?_⟩⟩
 ·have hlt:k<a.l.length:=by omega
  refine⟨⟨by omega,by omega⟩,λhp=>?_,λhp=>⟨k+1,(GH (by omega)).symm,⟨by omega,?_⟩,by omega⟩⟩
  ·rw[h2];exact mS hlt (by simpa using hp)
  ·rw[h2];exact P8 hlt (by simpa using hp)
 ·rw[h2];exact wW (by omega)
theorem CTB:AH Try.prog BXD (C2Kn.spec d2Kn):=PU C2Kn A2Kn [] [] CPU (λ_=>by kernel_rfl) (λ_=>AA CRB AD) p2Kn (λ_=>RU rfl rfl) _
def C3Kn:Ctr:={ C2Kn with val:=λ(a:MKn)=>.bool (decide (aT (λi=>!Ac (gD a.l i)) a.l.length 0>=0)) }
def d3Kn:List AVal->Heap->Option (C3Kn.α×List (Nat×Nat)×List Nat):=d2Kn
def A3Kn:Ann:={ ann 9 [(BXD,C2Kn.spec d2Kn)] with E:=[100,101,102] }
def V3Kn(a:MKn):Prop:=AX Try.prog A3Kn BUX (AF BUX) (C3Kn.xs a) (AC (C3Kn.L a)) (C3Kn.val a) (C3Kn.keep a) [] []
abbrev LP(a:Nat->Prop) b c d e f g h p:=AS (AE a) b c d e f g h p
abbrev FA(a:Nat->Prop) b c d e f(g:Nat->Prop) h p:=LP a b c d e f (AE g) h p
attribute [go_sem] LP FA
theorem CSF(a:MKn):(V3Kn a)=(LQ (And (FM (Ae a)) (FA (λi=>IP i (Ae a) i i i i i) AT (FM (OA a)) (AE (λi=>IP i (OA a) i i i i i)) AT (TY (OA a)) (λi=>GY i (OA a) (RA (OA a) i i) (RH (OA a) i i) i (KJ (OA a) i) (QZ (OA a) i i) (QY (OA a) i i)) (HP (FU (Ae a))) FT)) (LI (SL (λi=>Vg a i) (XY a)) (SL (λi=>Jz (HB (Ae a) i)) (FU (Ae a)))) AT (kP a) (λi=>NO i (OA a))):=by kernel_rfl
theorem CTJ:AH Try.prog BXP (C3Kn.spec d3Kn):=Ctr.spec_ok (C:=C3Kn) (λ(a:MKn) h=>Dy (A:=A3Kn) (ren:=[]) (fz:=[]) CPN (by kernel_rfl) (AA CTB AD) (by
 obtain⟨h,hp⟩:a.l.length<4611686018427387904/\True:=h
 show V3Kn a;rw[CSF]<;> delta LI N4 AK AN AE BA BN FD TE TC FT OI Fh ZM ZJ ZL Jz Ae OA AG AI AO AJ AR AS Rq BO LP HB IU FU LF JV JX AT IV EN FA FV FL Gh JC YV YF YN Bz YZ Ba Eb VC YH An UL Ci KJ OF OQ Bg Bh Bv LQ FM NO OV Gj Fu QE HP PZ NG NR GY OO XY Mi SL IP TY QY QZ RH Vg RA kP;simp[h,hp,Fj,CF])) _
def d4Kn:List AVal->Heap->Option (MKn×List (Nat×Nat)×List Nat)
 |[y,.fn _ _ [.bptr j _]],H=>match xY y H with
  |some (n,g,f)=>match BFU H j with
   |some p=>some (⟨p.1,WA n λi=>vH (g i)⟩,[(101,j),(102,p.2)],f)
   |none=>none
  |none=>none
 |_,_=>none
def A4Kn:Ann:={ ann 9 [(BXP,C3Kn.spec d3Kn)] with E:=[101,102] }
def C4Kn:Ctr:={ ro:=[101,102],α:=MKn,xs:=λa=>[.d (N6 a.l),fvKn a.q],L:=λa=>LXKn a.q,val:=λa=>.bool (a.l.all λx=>Ac x),keep:=λa=>KXKn a.q,pre:=PKn }
def V4Kn(a:MKn):Prop:=AX Try.prog A4Kn F_eN (AF F_eN) (C4Kn.xs a) (AC (C4Kn.L a)) (C4Kn.val a) (C4Kn.keep a) [] []
abbrev rE:=@List.all Lin
attribute [go_sem] rE
theorem CSK(a:MKn):(V4Kn a)=(LQ (And (FM (Ae a)) (FA (λi=>IP i (Ae a) i i i i i) AT (FM (OA a)) (AE (λi=>IP i (OA a) i i i i i)) AT (TY (OA a)) (λi=>GY i (OA a) (RA (OA a) i i) (RH (OA a) i i) i (KJ (OA a) i) (QZ (OA a) i i) (QY (OA a) i i)) (HP (FU (Ae a))) FT)) (Bt (rE (Ae a) Jz) (SL (λi=>Jz (HB (Ae a) i)) (FU (Ae a)))) AT (kP a) (λi=>NO i (OA a))):=by kernel_rfl
theorem CTK(a:MKn)(h:CR (PKn a)):FnT Try.prog n_eN (C4Kn.xs a) (AC (C4Kn.L a)) (C4Kn.val a) (C4Kn.keep a):=Dy (A:=A4Kn) (ren:=[]) (fz:=[]) CRZ (by kernel_rfl) (AA CTJ AD) (by
 have h':a.l.length<4611686018427387904/\True:=h
 show V4Kn a;rw[CSK]<;> delta LI N4 AK AN AE BA BN FD TE TC FT OI Fh ZM ZJ ZL Jz Ae OA rE AG AI AO AJ AR AS Rq BO LP HB IU FU LF JV JX AT IV EN FA FV FL Gh JC YV YF YN Bz YZ Ba Eb VC YH An UL Ci KJ OF OQ Bg Bh Bv LQ FM NO OV Gj Fu QE HP PZ NG NR GY OO Mi SL IP TY QY QZ RH RA Bt kP;simp only[CC,CU,CF,ge_iff_le]
 rw[<-mY]
 exact⟨h'.1,rfl⟩)
theorem CSI:AH Try.prog n_eN (C4Kn.spec d4Kn):=Ctr.spec_ok (C:=C4Kn) CTK _
def C_lCheck:Ctr:={ α:=List Lin,xs:=λl=>[.d (Q9 l)],L:=λ_=>[],val:=λ_=>.int 0,keep:=λ_=>[],pre:=λl=>[l.length<=30/\l.all Ac=true] }
def sU:List AVal->Heap->Option (List Lin×List (Nat×Nat)×List Nat)
 |[.d (.agg [_,.list _ n f _])],_=>some (WA n λj=>vH (f j),[],[])
 |_,_=>none
def AWP:Ann:=ann 22 [(AMR,Fg),(n_eN,C4Kn.spec d4Kn)]
def AZK(l:List Lin):Prop:=AX Try.prog AWP AHL (AF AHL) (C_lCheck.xs l) (AC []) (C_lCheck.val l) [] [] []
abbrev vD a b c d:=AI a b c a d
attribute [go_sem] vD
theorem BLR(l:List Lin):(AZK l)=(EZ (OZ (not (MN 3 1 12)) (aD (BH (OI l)) 30)) (UB 0 3) (GO (And (FM l) (vD (AE (λi=>IP i l i i i i i)) AT (FM l) (Gb (TY l) (λi=>GY i l (RA l i i) (RH l i i) i (KJ l i) (QZ l i i) (QY l i i)) (HP (FU l)) FT))) (not (rE (IU l) Jz)) (UB 0 20) AL)):=by kernel_rfl
theorem AON:AH Try.prog H8 (C_lCheck.spec sU):=PU C_lCheck (λ_=>AWP) [] [] BMK (λ_=>by kernel_rfl) (λ_=>AA APO (AA CSI AD)) (λ(l:List Lin) h=>by
 obtain⟨h1,h2⟩:l.length<=30/\l.all Ac=true:=h
 show AZK l;rw[BLR]<;> delta Wo HU EZ AK aD AN AE BA BN BH FD TE TC FT OI Fh ZM ZJ ZL Jz rE AG AI AO AJ vD Rq BO HB IU FU LF JV JX AT IV EN AL FV FL OZ Bz FQ Ba Eb VC An UL Ci KJ OF OQ Bg Bv JN FM OV GO Gj Fu QE HP PZ NG NR GY OO UB IP TY QY QZ RH Gb RA;simp only[CC,CU,CF]
 rw[show MN 3 1 12=true from rfl,decide_eq_false (show ¬((l.length:Int)>30) by omega),show (l.all λx=>Ac x)=true from h2]
 exact⟨λh=>(by cases h),λ_=>⟨(by omega),λh=>(by cases h)⟩⟩) (λ_=>RU rfl rfl) _
end Go.Bal
