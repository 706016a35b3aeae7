/- Package rating: the least and the greatest flow at a stage. -/
import Derived.Test.YtlblbbidigejkaaGreatRatG
set_option linter.unusedVariables false
set_option linter.unusedSimpArgs false
namespace Go.Bal
open Go Go.Sym Go.Proofs
def J0(p q:Rt):Int:=cR (wr (p.n*q.d)) (wr (q.n*p.d))
def AYT:=pD dR2 λx=>.bool (decide (J0 x.lo x.hi<0))
def BAJ:=pD dR2 λx=>.bool (decide (J0 x.lo x.hi>0))
def A_lm:Ann:=ann 9 [(106,AWF)]
def BTL(a:Bnd):Prop:=AS ZP A_lm Tryz.f105 (AG Tryz.f105) (xR2 a) (AC []) (.bool (decide (J0 a.lo a.hi<0))) [] [] []
theorem CCL(a:Bnd):(BTL a)=(Sr (G9 (J0 (Bnd.lo a) (Bnd.hi a))) (G9 (cR (wr (vI (Cd a) (XF a))) (wr (vI (Kl a) (WX a)))))):=by kernel_rfl
def BTQ(a:Bnd):Prop:=AS ZP A_lm Tryz.f107 (AG Tryz.f107) (xR2 a) (AC []) (.bool (decide (J0 a.lo a.hi>0))) [] [] []
theorem CHW(a:Bnd):(BTQ a)=(Sr (ABV (J0 (Bnd.lo a) (Bnd.hi a))) (ABV (cR (wr (vI (Cd a) (XF a))) (wr (vI (Kl a) (WX a)))))):=by kernel_rfl
theorem CFW:AH ZP 105 AYT:=NH xR2 hR2 λg _=>TF (A:=A_lm) (ren:=[]) (fz:=[]) Tryz.func105 (by kernel_rfl) (AA APL AD) (by
 show BTL g;rw[CCL]<;> dsimp only[go_sem];rfl)
theorem BZA:AH ZP 107 BAJ:=NH xR2 hR2 λg _=>TF (A:=A_lm) (ren:=[]) (fz:=[]) Tryz.func107 (by kernel_rfl) (AA APL AD) (by
 show BTQ g;rw[CHW]<;> dsimp only[go_sem];rfl)
def CTQ:AVal:=.agg [.fn (.func 105) [] []]
def CSL:AVal:=.agg [.fn (.func 107) [] []]
def d0:List AVal->Heap->Option (One×List (Nat×Nat)×List Nat)
 |[],_=>some (default,[],[])
 |_,_=>none
def C_less:Ctr:={ α:=One,xs:=λ_=>[],L:=λ_=>[],val:=λ_=>CTQ,keep:=λ_=>[] }
def C_more:Ctr:={ α:=One,xs:=λ_=>[],L:=λ_=>[],val:=λ_=>CSL,keep:=λ_=>[] }
def CIV(_x:One):Prop:=AS ZP (ann 2 []) Tryz.f71 (AG Tryz.f71) [] (AC []) CTQ [] [] []
theorem COA(_x:One):(CIV _x)=(EB):=by kernel_rfl
def CIP(_x:One):Prop:=AS ZP (ann 2 []) Tryz.f72 (AG Tryz.f72) [] (AC []) CSL [] [] []
theorem CPB(_x:One):(CIP _x)=(EB):=by kernel_rfl
def dAL:List AVal->Option LnI
 |[.d (.iface 87 (.agg [.v (.int .i64 a),.v (.int .i64 b),.v (.int .i64 c),.v (.int .i64 d)])),.d (.v (.int .i64 s))]=>some ⟨⟨a,b,c,d⟩,s⟩
 |_=>none
def xAL(a:LnI):List AVal:=[.d (.iface 87 (eLn a.x)),.int a.s]
def BOE:=pD dAL (λa=>.d (eRt (JL a.x a.s))) (λa=>[MM a.x,0<=a.s/\a.s<=2000])
def CCH(a:LnI):Prop:=AS ZP (ann 8 [(185,AMU)]) Tryz.f40 (AG Tryz.f40) (xAL a) (AC []) (.d (eRt (JL a.x a.s))) [] [] []
theorem CMX(a:LnI):(CCH a)=(kG (WU (Yi (BAT a) (BAN a) (Z4 a) (Jm a)) (Nw a) (SB (Nw a))) (RH (AKT (Jm a) (Nw a))) (VG (AKT (Jm a) (Nw a)))):=by kernel_rfl
theorem CPZ:AH ZP 71 (C_less.spec d0):=MK C_less (λ_=>ann 2 []) [] [] Tryz.func71 (λ_=>by kernel_rfl) (λ_=>AD) (λ(x:One) _=>by
 show CIV x;rw[COA]<;> dsimp only[go_sem]) (λ_=>OA rfl rfl) _
theorem CPL:AH ZP 72 (C_more.spec d0):=MK C_more (λ_=>ann 2 []) [] [] Tryz.func72 (λ_=>by kernel_rfl) (λ_=>AD) (λ(x:One) _=>by
 show CIP x;rw[CPB]<;> dsimp only[go_sem]) (λ_=>OA rfl rfl) _
theorem hAL(xs:List AVal)(a:LnI)(h:dAL xs=some a):xs=xAL a:=by
 unfold dAL at h;split at h<;>cases h;rfl
theorem AXZ:AH ZP 40 BOE:=NH xAL hAL λa h=>TF (A:=ann 8 [(185,AMU)]) (ren:=[]) (fz:=[]) Tryz.func40 (by kernel_rfl) (AA BGA AD) (by
 show CCH a;rw[CMX]<;> dsimp only[go_sem];exact⟨⟨h.1,h.2⟩,rfl,rfl⟩)
def Gb(lt:Rt->Rt->Bool)(t:Int)(b x:Ln):Ln:=bif lt (JL x t) (JL b t) then x else b
def lH(lt:Rt->Rt->Bool)(t:Int)(l:List Ln)(i:Nat):Ln:=(l.take i).foldl (Gb lt t) (gD l 0)
def Zt(lt:Rt->Rt->Bool)(t:Int)(l:List Ln):Ln:=l.foldl (Gb lt t) (gD l 0)
def ltR(p q:Rt):Bool:=decide (J0 p q<0)
def gtR(p q:Rt):Bool:=decide (J0 p q>0)
structure BkT where
 w:Bk
 st:Int
def kB(a:BkT):Int:=iV a.w.b a.st
def lB(a:BkT):List Ln:=Nj (Rm a.w (kB a)) a.st
def dBkT(n:FuncId):List AVal->Heap->Option (BkT×List (Nat×Nat)×List Nat)
 |[.bptr id _,.d t,.agg [.fn (.func g) [] []]],H=>if g=n then match BTY H id with
  |some (w,q)=>some (⟨w,DG t⟩,[(100,id),(101,q)],[])
  |none=>none else none
 |_,_=>none
def bvL(x:Ln)(b:Bool):AVal:=.tup [.d (eLn x),.bool b]
def be6(lt:Rt->Rt->Bool)(n:FuncId)(a:BkT):Shape:={ α:=Nat,dflt:=0,T:=λi=>⟨[(1,.int a.st),(5,.bptr 1000 0),(6,.bptr 1016 0),(9,.bptr 5048 0),(29,.d (eLns (lB a))),(30,.int (lB a).length),(31,.int i)],bkK (upB a.w (kB a)) ++ [(1000,.live (.box [.fn (.func n) [] []])),(1016,zLn),(5048,.live (.box [.int (lH lt a.st (lB a) i).a0,.int (lH lt a.st (lB a) i).a1,.int (lH lt a.st (lB a) i).b0,.int (lH lt a.st (lB a) i).b1]))]⟩,inv:=λi=>i<=(lB a).length,meas:=λi=>(lB a).length-i }
def Lj(lt:Rt->Rt->Bool)(n:FuncId):Ctr:={ ro:=[100],α:=BkT,xs:=λa=>[.bptr 100 0,.int a.st,.agg [.fn (.func n) [] []]],L:=λa=>bkL a.w,val:=λa=>bvL (bif decide ((lB a).length=0) then default else Zt lt a.st (lB a)) (decide ((lB a).length≠0)),keep:=λa=>bkK (upB a.w (kB a)),pre:=λa=>[cQ a.w.g a.w.b/\0<=a.st/\a.st<=2000] }
def BDK(lt:Rt->Rt->Bool)(n:FuncId)(f:Sym.Spec)(a:BkT):Ann:={ ann 49 [(23,C_part.spec dIX),(104,C_lns.spec dBkS),(40,BOE),(n,f)] with E:=[100,101],loops:=λid=>if id=6 then some [be6 lt n a] else none }
def BRT(a:BkT):Prop:=AS ZP (BDK ltR 105 AYT a) Tryz.f70 (AG Tryz.f70) ((Lj ltR 105).xs a) (AC ((Lj ltR 105).L a)) ((Lj ltR 105).val a) ((Lj ltR 105).keep a) [] []
abbrev UM:=BkT.w
abbrev WB:=BkT.st
abbrev jY a b:=upB a (kB b)
abbrev BA a:=jY (UM a) a
abbrev OO a b:=QR (BA a) b
abbrev W8 a:=fB (BA a)
abbrev AAG a:=uG (BA a)
abbrev Hn a:=dE (BA a)
abbrev ACL a:=IU (Hn a)
abbrev AAL a:=MO (Hn a)
abbrev VQ a:=Gt (BA a)
abbrev ACV a:=BI (VQ a)
abbrev JI a:=KF (lB a)
abbrev sT a:=(λ(x0 x1:Nat)=>decide (x0≠x1)) (JI a) 0
abbrev BPQ a b c:=lH a (WB b) (lB b) c
abbrev NY a b:=BPQ ltR a b
abbrev BMS a b c:=(@cond Ln) (Hw (JI a)) (@default Ln instInhabitedLn) (Zt b (WB c) (lB a))
abbrev Gn a b:=BMS a ltR b
abbrev pM a b:=AN (FP a) b
abbrev pL a b:=AN (FH a) b
abbrev BLB a b c d e f g h:=AP a b c b d e f g h
abbrev Y7 a b c d e f:=BLB a b b b c d e f
abbrev cF a:=AI (WB a)
abbrev sJ a b:=AKT a (WB b)
abbrev iP a b c d e:=F0 a b c (IM d) d e
abbrev EE a:=dE (UM a)
abbrev APD a b:=AOH (EE a) (WB b)
abbrev ZW a:=BDL (UM a)
abbrev BNA a b:=BAQ (ZW a) (EE a) b
abbrev QW a:=BNA a (UM a)
abbrev Ld a:=BNZ (BkS.mk (QW a) (AZ (APD a a)) (WB a)) (WB a)
abbrev Ew a b c d e f g h p:=AYL a b (ASW c d e) f g h p
abbrev EF a:=upB (QW a) (AZ (APD a a))
abbrev K5 a b:=Xg (UM a) b
abbrev Ym a b:=YF (K5 a b)
abbrev It a b:=Xc (K5 a b)
abbrev Gj a b:=Ac (K5 a b)
abbrev XE a:=Gt (UM a)
abbrev Y0 a:=KF (Ld a)
abbrev gM a b:=BO a (dE b)
abbrev fP a b:=BH a (dE b)
abbrev eF a b:=BB a (Gt b)
abbrev W5 a:=JO (EE a)
abbrev V7 a:=JZ (EE a)
attribute [go_sem] UM WB jY BA OO W8 AAG Hn ACL AAL VQ ACV JI sT BPQ NY BMS Gn pM pL BLB Y7 cF sJ iP EE APD ZW BNA QW Ld Ew EF K5 Ym It Gj XE Y0 gM fP eF W5 V7
theorem CJX(a:BkT):(BRT a)=(And (PO (V7 a) (W5 a) (WB a) (And (Qa (EE a)) (Aj ZK (EE a))) (DY (BY (APD a a)) (cF a) (TM (ZW a) (XE a)) (λi=>iG i (ZW a) (Gj a i) (It a i) (K5 a i)) (V7 a) (W5 a) ES (uG (UM a)) (DY (fB (UM a)) (AM (λi=>YZ (QR (QW a) i) (UM a) i (λj=>Ew j (QR (QW a) i) (QW a) i j (UM a) i j (ZC (GQ (QW a) i j) (GQ (UM a) i j) (GW (QW a) i j) (GW (UM a) i j) (XI (QW a) i j) (UM a) i j)))) (eF (XE a) (EF a)) (λi=>EJ i (XE a) (Gj a i) (PT (EF a) i) (It a i) (PC (EF a) i) (Ym a i) (QB (EF a) i)) (fP (EE a) (EF a)) (gM (EE a) (EF a)) (TY (I0 (ZW a)) (C1 (λi=>wY (AER i (ZW a)) i)) (XN (EE a)) 24 (Aj ZK (EE a)) (AM (λi=>Wd (zB i (EE a)) (Bo i) (SB i)))) (IM (WB a)) (SB (WB a))))) (YL (xY (Y0 a)) (Kt (FJ (Gn a a)) 0 (BZ (FH (Gn a a))) (BZ (FP (Gn a a))) (EV (Gn a a)) 0 (Iy (Hd (sT a)) (BB (VQ a) (XE a)) (λi=>EJ i (VQ a) (PT (BA a) i) (Gj a i) (PC (BA a) i) (It a i) (QB (BA a) i) (Ym a i)) (BH (Hn a) (EE a)) (BO (Hn a) (EE a)) (AM (λi=>aA (BA a) i (Nm (EF a) i))) (AM (λi=>Ph (BA a) i (EF a) i)) (λi=>YZ (OO a i) (EF a) i (λj=>Ew j (OO a i) (BA a) i j (EF a) i j (ZC (GQ (BA a) i j) (GQ (EF a) i j) (GW (BA a) i j) (GW (EF a) i j) (XI (BA a) i j) (EF a) i j))))) (CV YV (Gf (Y0 a)) (EA (λi=>Vs (UY (cF a) (Wp (lB a) (Ld a)) (λj=>C5 j (JI a) (lB a) (Ld a)) (AT (JI a) (Y0 a)) (Rh (BC i) (BB (VQ a) (XE a)) (λj=>EJ j (VQ a) (PT (BA a) j) (Gj a j) (PC (BA a) j) (It a j) (QB (BA a) j) (Ym a j)) (BH (Hn a) (EE a)) (BO (Hn a) (EE a)) (AM (λj=>aA (BA a) j (Nm (EF a) j))) (AM (λj=>Ph (BA a) j (EF a) j)) (Y7 (AM (λj=>YZ (OO a j) (EF a) j (λk=>Ew k (OO a j) (BA a) j k (EF a) j k (ZC (GQ (BA a) j k) (GQ (EF a) j k) (GW (BA a) j k) (GW (EF a) j k) (XI (BA a) j k) (EF a) j k)))) AU (nN (NY a i) (NB (Ld a) LP)) (pL (NY a i) (MY (Ld a) LP)) (pM (NY a i) (NM (Ld a) LP)) (AN (EV (NY a i)) (OS (Ld a) LP))))) i (JI a))) (AE (λi=>OU (MH i (JI a)) i (JI a) (Fl i (JI a) (iP (uO (NB (lB a) i) (NM (lB a) i) (MY (lB a) i) (OS (lB a) i)) (aO (WB a)) (Yi (FJ (NY a i)) (FP (NY a i)) (FH (NY a i)) (NY a i)) (WB a) 2000) (YL (G9 (J0 (sJ (Nz (lB a) i) a) (sJ (NY a i) a))) (EA (λj=>Bg (UY (cF a) (BI (JI a)) (λk=>AKH k (JI a) (lB a)) (BY (JI a)) (Rh (AR j i) (ACV a) (λk=>Zn k (VQ a) (Xg (BA a) k)) (AAL a) (ACL a) (AAG a) (W8 a) (Y7 (AM (λk=>cD (OO a k) (λl=>zH l (OO a k) (BA a) k l))) AU (nN (NY a j) (NB (lB a) i)) (pL (NY a j) (MY (lB a) i)) (pM (NY a j) (NM (lB a) i)) (AN (EV (NY a j)) (OS (lB a) i))))) j (JI a) j i)) (EA (λj=>Bg (UY (cF a) (BI (JI a)) (λk=>AKH k (JI a) (lB a)) (BY (JI a)) (Rh (AR j i) (ACV a) (λk=>Zn k (VQ a) (Xg (BA a) k)) (AAL a) (ACL a) (AAG a) (W8 a) (Y7 (AM (λk=>cD (OO a k) (λl=>zH l (OO a k) (BA a) k l))) AU (nN (NY a j) (FJ (NY a i))) (pL (NY a j) (FH (NY a i))) (pM (NY a j) (FP (NY a i))) (AN (EV (NY a j)) (EV (NY a i)))))) j (JI a) j i)))) (Kt (FJ (Gn a a)) (FJ (NY a i)) (pL (Gn a a) (FH (NY a i))) (pM (Gn a a) (FP (NY a i))) (EV (Gn a a)) (EV (NY a i)) (Iy (GT (sT a)) (ACV a) (λj=>Zn j (VQ a) (Xg (BA a) j)) (AAL a) (ACL a) (AAG a) (W8 a) (λj=>cD (OO a j) (λk=>zH k (OO a j) (BA a) j k))))))))):=by kernel_rfl
def BTB(a:BkT):Prop:=AS ZP (BDK gtR 107 BAJ a) Tryz.f70 (AG Tryz.f70) ((Lj gtR 107).xs a) (AC ((Lj gtR 107).L a)) ((Lj gtR 107).val a) ((Lj gtR 107).keep a) [] []
abbrev NZ a b:=BPQ gtR a b
abbrev Hj a b:=BMS a gtR b
attribute [go_sem] NZ Hj
theorem CCI(a:BkT):(BTB a)=(And (PO (V7 a) (W5 a) (WB a) (And (Qa (EE a)) (Aj ZK (EE a))) (DY (BY (APD a a)) (cF a) (TM (ZW a) (XE a)) (λi=>iG i (ZW a) (Gj a i) (It a i) (K5 a i)) (V7 a) (W5 a) ES (uG (UM a)) (DY (fB (UM a)) (AM (λi=>YZ (QR (QW a) i) (UM a) i (λj=>Ew j (QR (QW a) i) (QW a) i j (UM a) i j (ZC (GQ (QW a) i j) (GQ (UM a) i j) (GW (QW a) i j) (GW (UM a) i j) (XI (QW a) i j) (UM a) i j)))) (eF (XE a) (EF a)) (λi=>EJ i (XE a) (Gj a i) (PT (EF a) i) (It a i) (PC (EF a) i) (Ym a i) (QB (EF a) i)) (fP (EE a) (EF a)) (gM (EE a) (EF a)) (TY (I0 (ZW a)) (C1 (λi=>wY (AER i (ZW a)) i)) (XN (EE a)) 24 (Aj ZK (EE a)) (AM (λi=>Wd (zB i (EE a)) (Bo i) (SB i)))) (IM (WB a)) (SB (WB a))))) (YL (xY (Y0 a)) (Kt (FJ (Hj a a)) 0 (BZ (FH (Hj a a))) (BZ (FP (Hj a a))) (EV (Hj a a)) 0 (Iy (Hd (sT a)) (BB (VQ a) (XE a)) (λi=>EJ i (VQ a) (PT (BA a) i) (Gj a i) (PC (BA a) i) (It a i) (QB (BA a) i) (Ym a i)) (BH (Hn a) (EE a)) (BO (Hn a) (EE a)) (AM (λi=>aA (BA a) i (Nm (EF a) i))) (AM (λi=>Ph (BA a) i (EF a) i)) (λi=>YZ (OO a i) (EF a) i (λj=>Ew j (OO a i) (BA a) i j (EF a) i j (ZC (GQ (BA a) i j) (GQ (EF a) i j) (GW (BA a) i j) (GW (EF a) i j) (XI (BA a) i j) (EF a) i j))))) (CV YV (Gf (Y0 a)) (EA (λi=>Vs (UY (cF a) (Wp (lB a) (Ld a)) (λj=>C5 j (JI a) (lB a) (Ld a)) (AT (JI a) (Y0 a)) (Rh (BC i) (BB (VQ a) (XE a)) (λj=>EJ j (VQ a) (PT (BA a) j) (Gj a j) (PC (BA a) j) (It a j) (QB (BA a) j) (Ym a j)) (BH (Hn a) (EE a)) (BO (Hn a) (EE a)) (AM (λj=>aA (BA a) j (Nm (EF a) j))) (AM (λj=>Ph (BA a) j (EF a) j)) (Y7 (AM (λj=>YZ (OO a j) (EF a) j (λk=>Ew k (OO a j) (BA a) j k (EF a) j k (ZC (GQ (BA a) j k) (GQ (EF a) j k) (GW (BA a) j k) (GW (EF a) j k) (XI (BA a) j k) (EF a) j k)))) AU (nN (NZ a i) (NB (Ld a) LP)) (pL (NZ a i) (MY (Ld a) LP)) (pM (NZ a i) (NM (Ld a) LP)) (AN (EV (NZ a i)) (OS (Ld a) LP))))) i (JI a))) (AE (λi=>OU (MH i (JI a)) i (JI a) (Fl i (JI a) (iP (uO (NB (lB a) i) (NM (lB a) i) (MY (lB a) i) (OS (lB a) i)) (aO (WB a)) (Yi (FJ (NZ a i)) (FP (NZ a i)) (FH (NZ a i)) (NZ a i)) (WB a) 2000) (YL (ABV (J0 (sJ (Nz (lB a) i) a) (sJ (NZ a i) a))) (EA (λj=>Bg (UY (cF a) (BI (JI a)) (λk=>AKH k (JI a) (lB a)) (BY (JI a)) (Rh (AR j i) (ACV a) (λk=>Zn k (VQ a) (Xg (BA a) k)) (AAL a) (ACL a) (AAG a) (W8 a) (Y7 (AM (λk=>cD (OO a k) (λl=>zH l (OO a k) (BA a) k l))) AU (nN (NZ a j) (NB (lB a) i)) (pL (NZ a j) (MY (lB a) i)) (pM (NZ a j) (NM (lB a) i)) (AN (EV (NZ a j)) (OS (lB a) i))))) j (JI a) j i)) (EA (λj=>Bg (UY (cF a) (BI (JI a)) (λk=>AKH k (JI a) (lB a)) (BY (JI a)) (Rh (AR j i) (ACV a) (λk=>Zn k (VQ a) (Xg (BA a) k)) (AAL a) (ACL a) (AAG a) (W8 a) (Y7 (AM (λk=>cD (OO a k) (λl=>zH l (OO a k) (BA a) k l))) AU (nN (NZ a j) (FJ (NZ a i))) (pL (NZ a j) (FH (NZ a i))) (pM (NZ a j) (FP (NZ a i))) (AN (EV (NZ a j)) (EV (NZ a i)))))) j (JI a) j i)))) (Kt (FJ (Hj a a)) (FJ (NZ a i)) (pL (Hj a a) (FH (NZ a i))) (pM (Hj a a) (FP (NZ a i))) (EV (Hj a a)) (EV (NZ a i)) (Iy (GT (sT a)) (ACV a) (λj=>Zn j (VQ a) (Xg (BA a) j)) (AAL a) (ACL a) (AAG a) (W8 a) (λj=>cD (OO a j) (λk=>zH k (OO a j) (BA a) j k))))))))):=by kernel_rfl
theorem tX{lt:Rt->Rt->Bool}{t:Int}{l:List Ln}{i:Nat}(h:i<l.length):lH lt t l (i+1)=Gb lt t (lH lt t l i) (gD l i):=by
 unfold lH;rw[YG h,List.foldl_append];rfl
theorem AJU{lt:Rt->Rt->Bool}{t:Int}{l:List Ln}:lH lt t l l.length=Zt lt t l:=by unfold lH Zt;rw[List.take_length]
theorem BUG{lt:Rt->Rt->Bool}{t:Int}:∀(l:List Ln) (b:Ln),(∀x∈l,MM x)->MM b->MM (l.foldl (Gb lt t) b)
 |[],_,_,hb=>hb
 |x :: l,b,h,hb=>by
  rw[List.foldl_cons]
  refine BUG l _ (λy hy=>h y (by simp[hy])) ?_
  unfold Gb;cases lt (JL x t) (JL b t)
  ·exact hb
  ·exact h x (by simp)
theorem ASF{lt:Rt->Rt->Bool}{t:Int}{l:List Ln}{i:Nat}(h:∀x∈l,MM x)(h0:0<l.length):MM (lH lt t l i):=
 BUG _ _ (λx hx=>h x (List.mem_of_mem_take hx)) (h _ (FD h0))
theorem BTU{s:List Gau}(h:∀g∈s,Rz g):∀x∈wA s,MM x:=λx hx=>by
 unfold wA at hx
 obtain⟨p,hp,hx⟩:=List.mem_flatMap.1 hx
 unfold blk at hx
 rcases List.mem_cons.1 hx with rfl | hx
 ·exact ABE (tZ h hp)
 ·exact aY.1 (List.mem_filter.1 hx).2
theorem CAU{s:List Gau}{t:Int}(h:∀g∈s,Rz g):∀x∈Nj s t,MM x:=λx hx=>by
 rw[AAJ] at hx
 revert hx
 cases (bif decide ((s.length:Int)>0) then ((dY s).length:Int)==0 else false) with
 |true=>intro hx;cases hx
 |false=>
  intro hx
  rcases List.mem_append.1 hx with hx | hx
  ·exact BTU h x (List.mem_filter.1 hx).1
  ·have:=(List.mem_filter.1 hx).2
   unfold okX at this
   cases hr:mD x with
   |true=>exact aY.1 hr
   |false=>rw[hr] at this;cases this
theorem BYO{a:BkT}(h:cQ a.w.g a.w.b):(lB a).length<=10098/\∀x∈lB a,MM x:=by
 obtain⟨hs,hN,hg⟩:=CIF (a:=⟨a.w,kB a,a.st⟩) h
 refine⟨?_,CAU hg⟩
 show (Nj (sB ⟨a.w,kB a,a.st⟩) a.st).length<=_
 have h1:=BSZ hN
 have h2:=List.length_filter_le (okX (sB ⟨a.w,kB a,a.st⟩)) (XY (sB ⟨a.w,kB a,a.st⟩) a.st)
 have h3:=AGE (s:=sB ⟨a.w,kB a,a.st⟩) (t:=a.st)
 rw[AAJ]
 cases (bif decide (((sB ⟨a.w,kB a,a.st⟩).length:Int)>0) then ((dY (sB ⟨a.w,kB a,a.st⟩)).length:Int)==0 else false) with
 |true=>exact Nat.zero_le _
 |false=>rw[cond_false,List.length_append];omega
theorem CQG(a:BkT)(h:cQ a.w.g a.w.b)(h2:0<=a.st/\a.st<=2000):BRT a:=by
 rw[CJX]<;> dsimp only[go_sem];simp only[CC,CU,AJT,show iV a.w.b a.st=kB a from rfl,show (BkS.mk a.w (kB a) a.st).w=a.w from rfl,show Nj (sB (BkS.mk a.w (kB a) a.st)) a.st=lB a from rfl,if_true]
 obtain⟨hl,hok⟩:=BYO h
 refine⟨⟨⟨by have:=h.2.2.1;omega,h.2.2.2.1⟩,rfl,λ_ _=>⟨rfl,rfl,rfl⟩,rfl,λ_ _=>rfl,h,h2⟩,λhc=>?_,λhc=>?_⟩
 ·have hc:(lB a).length=0:=by simpa using hc
  rw[decide_eq_true hc]
  exact⟨rfl,rfl,rfl,rfl,by omega,rfl,λ_ _=>⟨rfl,rfl,rfl⟩,rfl,λ_ _=>rfl⟩
 ·have hc:(lB a).length≠0:=by simpa using hc
  have hb:∀i,MM (lH ltR a.st (lB a) i):=λi=>ASF hok (by omega)
  refine⟨⟨by omega,by omega⟩,⟨0,⟨rfl,rfl,λ_ _=>⟨rfl,rfl,rfl⟩,rfl,λ_ _=>rfl,rfl,rfl,rfl,rfl⟩,Nat.zero_le _⟩,λi hi=>⟨λhlt=>?_,λhge=>?_⟩⟩
  ·have hlt':i<(lB a).length:=Int.ofNat_lt.1 hlt
   refine⟨⟨by omega,hlt⟩,⟨hok _ (FD hlt'),h2,hb i,h2⟩,λhp=>⟨i+1,⟨(BJ (by omega)).symm,?_⟩,hlt',by omega⟩,λhp=>⟨i+1,⟨(BJ (by omega)).symm,?_⟩,hlt',by omega⟩⟩
   ·rw[tX hlt',Gb,show ltR _ _=true from decide_eq_true hp];exact⟨rfl,rfl,rfl,rfl⟩
   ·rw[tX hlt',Gb,show ltR _ _=false from decide_eq_false hp];exact⟨rfl,rfl,rfl,rfl⟩
  ·rw[decide_eq_false hc,show i=(lB a).length by omega,AJU]
   exact⟨rfl,rfl,rfl,rfl,hc⟩
theorem CEM:AH ZP 70 ((Lj ltR 105).spec (dBkT 105)):=MK (Lj ltR 105) (BDK ltR 105 AYT) [] [] Tryz.func70 (λ_=>by kernel_rfl) (λ_=>AA AET (AA CJZ (AA AXZ (AA CFW AD)))) (λ(a:BkT) h=>by
 have h:cQ a.w.g a.w.b/\0<=a.st/\a.st<=2000:=h
 exact CQG a h.1 h.2) (λ_=>OA rfl rfl) _
theorem CQM(a:BkT)(h:cQ a.w.g a.w.b)(h2:0<=a.st/\a.st<=2000):BTB a:=by
 rw[CCI]<;> dsimp only[go_sem];simp only[CC,CU,AJT,show iV a.w.b a.st=kB a from rfl,show (BkS.mk a.w (kB a) a.st).w=a.w from rfl,show Nj (sB (BkS.mk a.w (kB a) a.st)) a.st=lB a from rfl,if_true]
 obtain⟨hl,hok⟩:=BYO h
 refine⟨⟨⟨by have:=h.2.2.1;omega,h.2.2.2.1⟩,rfl,λ_ _=>⟨rfl,rfl,rfl⟩,rfl,λ_ _=>rfl,h,h2⟩,λhc=>?_,λhc=>?_⟩
 ·have hc:(lB a).length=0:=by simpa using hc
  rw[decide_eq_true hc]
  exact⟨rfl,rfl,rfl,rfl,by omega,rfl,λ_ _=>⟨rfl,rfl,rfl⟩,rfl,λ_ _=>rfl⟩
 ·have hc:(lB a).length≠0:=by simpa using hc
  have hb:∀i,MM (lH gtR a.st (lB a) i):=λi=>ASF hok (by omega)
  refine⟨⟨by omega,by omega⟩,⟨0,⟨rfl,rfl,λ_ _=>⟨rfl,rfl,rfl⟩,rfl,λ_ _=>rfl,rfl,rfl,rfl,rfl⟩,Nat.zero_le _⟩,λi hi=>⟨λhlt=>?_,λhge=>?_⟩⟩
  ·have hlt':i<(lB a).length:=Int.ofNat_lt.1 hlt
   refine⟨⟨by omega,hlt⟩,⟨hok _ (FD hlt'),h2,hb i,h2⟩,λhp=>⟨i+1,⟨(BJ (by omega)).symm,?_⟩,hlt',by omega⟩,λhp=>⟨i+1,⟨(BJ (by omega)).symm,?_⟩,hlt',by omega⟩⟩
   ·rw[tX hlt',Gb,show gtR _ _=true from decide_eq_true hp];exact⟨rfl,rfl,rfl,rfl⟩
   ·rw[tX hlt',Gb,show gtR _ _=false from decide_eq_false hp];exact⟨rfl,rfl,rfl,rfl⟩
  ·rw[decide_eq_false hc,show i=(lB a).length by omega,AJU]
   exact⟨rfl,rfl,rfl,rfl,hc⟩
theorem CBL:AH ZP 70 ((Lj gtR 107).spec (dBkT 107)):=MK (Lj gtR 107) (BDK gtR 107 BAJ) [] [] Tryz.func70 (λ_=>by kernel_rfl) (λ_=>AA AET (AA CJZ (AA AXZ (AA BZA AD)))) (λ(a:BkT) h=>by
 have h:cQ a.w.g a.w.b/\0<=a.st/\a.st<=2000:=h
 exact CQM a h.1 h.2) (λ_=>OA rfl rfl) _
def bndM(l:List Ln)(t:Int):Bnd:=bif decide (l.length=0) then default else⟨JL (Zt ltR t l) t,JL (Zt gtR t l) t⟩
def dBkt:List AVal->Heap->Option (BkT×List (Nat×Nat)×List Nat)
 |[.bptr id _,.d t],H=>match BTY H id with
  |some (w,q)=>some (⟨w,DG t⟩,[(100,id),(101,q)],[])
  |none=>none
 |_,_=>none
def C_bnd:Ctr:={ ro:=[100],α:=BkT,xs:=λa=>[.bptr 100 0,.int a.st],L:=λa=>bkL a.w,val:=λa=>.tup [.d (eBnd (bndM (lB a) a.st)),.bool (decide ((lB a).length≠0))],keep:=λa=>bkK (upB a.w (kB a)),pre:=λa=>[cQ a.w.g a.w.b/\0<=a.st/\a.st<=2000] }
def CST:Ann:={ ann 36 [(71,C_less.spec d0),(72,C_more.spec d0),(70,orS ((Lj ltR 105).spec (dBkT 105)) ((Lj gtR 107).spec (dBkT 107))),(40,BOE)] with E:=[100,101] }
def CQY(a:BkT):Prop:=AS ZP CST Tryz.f38 (AG Tryz.f38) (C_bnd.xs a) (AC (C_bnd.L a)) (C_bnd.val a) (C_bnd.keep a) [] []
abbrev BPX a b:=BkT.mk a (WB b)
abbrev uH a:=BPX (QW a) a
abbrev Ie a:=jY (QW a) (uH a)
abbrev tG a:=BNA a (Ie a)
abbrev B5 a:=BPX (tG a) a
abbrev TW a:=jY (tG a) (B5 a)
abbrev AHJ a b:=bndM (lB a) b
abbrev tM a b:=AHJ a (WB b)
abbrev BMJ a b:=AN (Kl a) b
attribute [go_sem] BPX uH Ie tG B5 TW AHJ tM BMJ
theorem CXU(a:BkT):(CQY a)=(AQ (Fj (cF a) (TM (ZW a) (XE a)) (AE (λi=>iG i (ZW a) (Gj a i) (It a i) (K5 a i))) (V7 a) (W5 a) ES (uG (UM a)) (DY (fB (UM a)) (AM (λi=>YZ (QR (QW a) i) (UM a) i (λj=>Ew j (QR (QW a) i) (QW a) i j (UM a) i j (ZC (GQ (QW a) i j) (GQ (UM a) i j) (GW (QW a) i j) (GW (UM a) i j) (XI (QW a) i j) (UM a) i j)))) (eF (XE a) (Ie a)) (λi=>EJ i (XE a) (Gj a i) (PT (Ie a) i) (It a i) (PC (Ie a) i) (Ym a i) (QB (Ie a) i)) (fP (EE a) (Ie a)) (gM (EE a) (Ie a)) (TY (I0 (ZW a)) (C1 (λi=>wY (AER i (ZW a)) i)) (XN (EE a)) 24 (Aj ZK (EE a)) (AM (λi=>Wd (zB i (EE a)) (Bo i) (SB i)))) (IM (WB a)) (SB (WB a)))) (Fj (cF a) (TM (ZW a) (XE a)) (AE (λi=>iG i (ZW a) (Gj a i) (It a i) (K5 a i))) (V7 a) (W5 a) ES (uG (Ie a)) (DY (fB (Ie a)) (AM (λi=>YZ (QR (tG a) i) (Ie a) i (λj=>Ew j (QR (tG a) i) (tG a) i j (Ie a) i j (ZC (GQ (tG a) i j) (GQ (Ie a) i j) (GW (tG a) i j) (GW (Ie a) i j) (XI (tG a) i j) (Ie a) i j)))) (eF (XE a) (TW a)) (λi=>EJ i (XE a) (Gj a i) (PT (TW a) i) (It a i) (PC (TW a) i) (Ym a i) (QB (TW a) i)) (fP (EE a) (TW a)) (gM (EE a) (TW a)) (TY (I0 (ZW a)) (C1 (λi=>wY (AER i (ZW a)) i)) (XN (EE a)) 24 (Aj ZK (EE a)) (AM (λi=>Wd (zB i (EE a)) (Bo i) (SB i)))) (IM (WB a)) (SB (WB a)))) (Be (sT (uH a)) (Kt (Cd (tM a a)) 0 (BZ (WX (tM a a))) (BZ (Kl (tM a a))) (XF (tM a a)) 0 (Iy (Hd (sT a)) (BB (VQ a) (XE a)) (λi=>EJ i (VQ a) (PT (BA a) i) (Gj a i) (PC (BA a) i) (It a i) (QB (BA a) i) (Ym a i)) (BH (Hn a) (EE a)) (BO (Hn a) (EE a)) (AM (λi=>aA (BA a) i (Nm (TW a) i))) (AM (λi=>Ph (BA a) i (TW a) i)) (λi=>YZ (OO a i) (TW a) i (λj=>Ew j (OO a i) (BA a) i j (TW a) i j (ZC (GQ (BA a) i j) (GQ (TW a) i j) (GW (BA a) i j) (GW (TW a) i j) (XI (BA a) i j) (TW a) i j))))) (And (iP (Yi (FJ (Gn (uH a) a)) (FP (Gn (uH a) a)) (FH (Gn (uH a) a)) (Gn (uH a) a)) (aO (WB a)) (Yi (FJ (Hj (B5 a) a)) (FP (Hj (B5 a) a)) (FH (Hj (B5 a) a)) (Hj (B5 a) a)) (WB a) 2000) (Kt (Cd (tM a a)) (RH (sJ (Gn (uH a) a) a)) (AN (WX (tM a a)) (VG (sJ (Gn (uH a) a) a))) (BMJ (tM a a) (RH (sJ (Hj (B5 a) a) a))) (XF (tM a a)) (VG (sJ (Hj (B5 a) a) a)) (Iy (GT (sT a)) (BB (VQ a) (XE a)) (λi=>EJ i (VQ a) (PT (BA a) i) (Gj a i) (PC (BA a) i) (It a i) (QB (BA a) i) (Ym a i)) (BH (Hn a) (EE a)) (BO (Hn a) (EE a)) (AM (λi=>aA (BA a) i (Nm (TW a) i))) (AM (λi=>Ph (BA a) i (TW a) i)) (λi=>YZ (OO a i) (TW a) i (λj=>Ew j (OO a i) (BA a) i j (TW a) i j (ZC (GQ (BA a) i j) (GQ (TW a) i j) (GW (BA a) i j) (GW (TW a) i j) (XI (BA a) i j) (TW a) i j)))))))):=by kernel_rfl
theorem BXK(w:Bk)(k:Int):upB (upB w k) k=upB w k:=AQV (by show KE w.has k k=true;simp[KE])
theorem BRG(a:BkT):BkT.mk a.w a.st=a:=rfl
theorem BRP(w:Bk)(k:Int):Bk.mk w.g w.b (upB w k).has (upB w k).st=upB w k:=rfl
theorem CUK(w:Bk)(k:Int):(upB w k).g=w.g:=rfl
theorem CUC(w:Bk)(k:Int):(upB w k).b=w.b:=rfl
theorem DAW(a:BkT)(k:Int):kB ⟨upB a.w k,a.st⟩=kB a:=rfl
theorem CYY(a:BkT)(k:Int):lB ⟨upB a.w k,a.st⟩=lB a:=rfl
theorem DBC(a:BkT)(h:cQ a.w.g a.w.b)(h2:0<=a.st/\a.st<=2000):CQY a:=by
 rw[CXU]<;> dsimp only[go_sem];simp only[CC,CU,AJT,BRP,CUK,CUC,BRG,DAW,CYY,BXK,if_true]
 obtain⟨_,hok⟩:=BYO h
 unfold bndM
 refine⟨⟨h,h2⟩,⟨h,h2⟩,λhc=>?_,λhc=>?_⟩
 ·rw[decide_eq_true (show (lB a).length=0 by omega)]
  exact⟨rfl,rfl,rfl,rfl,hc⟩
 ·rw[decide_eq_false hc]
  have hb:∀lt,MM (Zt lt a.st (lB a)):=λlt=>AJU ▸ ASF hok (by omega)
  exact⟨⟨hb _,h2,hb _,h2⟩,rfl,rfl,rfl,rfl,hc⟩
theorem BMP:AH ZP 38 (C_bnd.spec dBkt):=MK C_bnd (λ_=>CST) [] [] Tryz.func38 (λ_=>by kernel_rfl) (λ_=>AA CPZ (AA CPL (AA (CDH CEM CBL) (AA AXZ AD)))) (λ(a:BkT) h=>by
 have h:cQ a.w.g a.w.b/\0<=a.st/\a.st<=2000:=h
 exact DBC a h.1 h.2) (λ_=>OA rfl rfl) _
structure Rl where
 p:Int
 q:Int
 w:Int
def Rl.num(f:Rl)(u:Int):Int:=f.p+f.q*u
def Rl.ok(f:Rl):Prop:=0<f.w/\0<=f.q
def Rl.pass(f:Rl)(g:Gau):Prop:=g.lo*f.w<=f.num g.st/\f.num g.st<=g.hi*f.w
def Rl.passes(f:Rl)(s:List Gau):Prop:=∀g∈s,f.pass g
def OF(x:Ln):Rl:=⟨x.a1*(x.b0-x.a0)-(x.b1-x.a1)*x.a0,x.b1-x.a1,x.b0-x.a0⟩
theorem MC{x:Ln}(h:MM x):(OF x).ok:=by
 obtain⟨h1,h2,h3,h4,h5,h6⟩:=h
 exact⟨by show 0<x.b0-x.a0;omega,by show 0<=x.b1-x.a1;omega⟩
theorem AML(x:Ln)(t:Int):(OF x).num t=x.a1*(x.b0-x.a0)+(x.b1-x.a1)*(t-x.a0):=by
 show x.a1*(x.b0-x.a0)-(x.b1-x.a1)*x.a0+(x.b1-x.a1)*t=_
 grind
theorem BQG(x:Ln)(t:Int):hasM x t=jO ((OF x).num t) (OF x).w:=by rw[AML];rfl
theorem jD{a b c:Int}(hc:0<c)(h:a*c<=b*c):a<=b:=Int.le_of_mul_le_mul_right h hc
theorem R0{x:Ln}{g:Gau}(h:MM x):KU x g=true↔(OF x).pass g:=by
 have hw:=(MC h).1
 have hv:=ATH (n:=(OF x).num g.st) hw
 have hd:=(BKM (n:=(OF x).num g.st) hw).1
 unfold KU Rl.pass
 rw[BQG]
 generalize jO ((OF x).num g.st) (OF x).w=r at *
 generalize (OF x).num g.st=N at *
 generalize (OF x).w=W at *
 rw[Bool.and_eq_true,decide_eq_true_eq,decide_eq_true_eq]
 constructor
 ·rintro⟨h1,h2⟩
  have a1:=Int.mul_le_mul_of_nonneg_right h1 (Int.le_of_lt hw)
  have a2:=Int.mul_le_mul_of_nonneg_right h2 (Int.le_of_lt hw)
  constructor
  ·refine Int.le_of_mul_le_mul_right (a:=r.d) ?_ hd;grind
  ·refine Int.le_of_mul_le_mul_right (a:=r.d) ?_ hd;grind
 ·rintro⟨h1,h2⟩
  have a1:=Int.mul_le_mul_of_nonneg_right h1 (Int.le_of_lt hd)
  have a2:=Int.mul_le_mul_of_nonneg_right h2 (Int.le_of_lt hd)
  constructor
  ·refine Int.le_of_mul_le_mul_right (a:=W) ?_ hw;grind
  ·refine Int.le_of_mul_le_mul_right (a:=W) ?_ hw;grind
theorem AMX{x:Ln}{s:List Gau}(h:MM x):Yd s x=true↔(OF x).passes s:=by
 unfold Yd Rl.passes
 rw[List.all_eq_true]
 exact⟨λa g hg=>(R0 h).1 (a g hg),λa g hg=>(R0 h).2 (a g hg)⟩
def okS(a v m e:Int)(g:Gau):Prop:=g.lo*e<=v*e+m*(g.st-a)/\v*e+m*(g.st-a)<=g.hi*e
theorem CJP{f:Rl}{a v m e:Int}{g:Gau}(he:0<e)(h1:f.num a=v*f.w)(h2:f.q*e=m*f.w)(hw:0<f.w)(h:okS a v m e g):f.pass g:=by
 obtain⟨h3,h4⟩:=h
 have a1:=Int.mul_le_mul_of_nonneg_right h3 (Int.le_of_lt hw)
 have a2:=Int.mul_le_mul_of_nonneg_right h4 (Int.le_of_lt hw)
 have e1:f.num g.st=v*f.w+f.q*(g.st-a):=by unfold Rl.num at *;grind
 have e2:f.q*(g.st-a)*e=m*f.w*(g.st-a):=by grind
 constructor
 ·refine Int.le_of_mul_le_mul_right (a:=e) ?_ he;rw[e1];grind
 ·refine Int.le_of_mul_le_mul_right (a:=e) ?_ he;rw[e1];grind
structure Sl where
 m:Int
 e:Int
theorem BNO:∀(l:List Sl),l≠[]->(∀x∈l,0<x.e)->∃x∈l,∀y∈l,y.m*x.e<=x.m*y.e
 |[],h,_=>(h rfl).elim
 |[x],_,_=>⟨x,List.mem_singleton.2 rfl,λy hy=>by rw[List.mem_singleton.1 hy];exact Int.le_refl _⟩
 |x :: z :: l,_,h=>by
  obtain⟨b,hb,hm⟩:=BNO (z :: l) (by simp) (λy hy=>h y (List.mem_cons_of_mem _ hy))
  have hx:=h x (List.mem_cons_self ..)
  have hbe:=h b (List.mem_cons_of_mem _ hb)
  rcases Int.le_total (x.m*b.e) (b.m*x.e) with hc | hc
  ·refine⟨b,List.mem_cons_of_mem _ hb,λy hy=>?_⟩
   rcases List.mem_cons.1 hy with rfl | hy
   ·exact hc
   ·exact hm y hy
  ·refine⟨x,List.mem_cons_self ..,λy hy=>?_⟩
   rcases List.mem_cons.1 hy with rfl | hy
   ·exact Int.le_refl _
   ·have hye:=h y (List.mem_cons_of_mem _ hy)
    have a1:=Int.mul_le_mul_of_nonneg_right (hm y hy) (Int.le_of_lt hx)
    have a2:=Int.mul_le_mul_of_nonneg_right hc (Int.le_of_lt hye)
    refine Int.le_of_mul_le_mul_right (a:=b.e) ?_ hbe
    grind
theorem BDW(δ:Gau->Int):∀(s:List Gau),s≠[]->∃g∈s,∀h∈s,δ g<=δ h
 |[],h=>(h rfl).elim
 |[x],_=>⟨x,List.mem_singleton.2 rfl,λy hy=>by rw[List.mem_singleton.1 hy];exact Int.le_refl _⟩
 |x :: z :: l,_=>by
  obtain⟨b,hb,hm⟩:=BDW δ (z :: l) (by simp)
  rcases Int.le_total (δ x) (δ b) with hc | hc
  ·refine⟨x,List.mem_cons_self ..,λy hy=>?_⟩
   rcases List.mem_cons.1 hy with rfl | hy
   ·exact Int.le_refl _
   ·exact Int.le_trans hc (hm y hy)
  ·refine⟨b,List.mem_cons_of_mem _ hb,λy hy=>?_⟩
   rcases List.mem_cons.1 hy with rfl | hy
   ·exact hc
   ·exact hm y hy
theorem BIP{f:Rl}{s:List Gau}(hf:f.ok)(hs:f.passes s)(hne:s≠[]):∃g∈s,(∀h∈s,okS g.st g.lo f.q f.w h)/\∀u,g.lo*f.w+f.q*(u-g.st)<=f.num u:=by
 obtain⟨g,hg,hm⟩:=BDW (λg=>f.num g.st-g.lo*f.w) s hne
 refine⟨g,hg,λh hh=>?_,λu=>?_⟩
 ·have h1:=hm h hh
  obtain⟨h2,h3⟩:=hs h hh
  obtain⟨h4,h5⟩:=hs g hg
  unfold Rl.num at *
  constructor<;>grind
 ·obtain⟨h4,h5⟩:=hs g hg
  unfold Rl.num at *
  grind
theorem CCE{f:Rl}{s:List Gau}(hf:f.ok)(hs:f.passes s)(hne:s≠[]):∃g∈s,(∀h∈s,okS g.st g.hi f.q f.w h)/\∀u,f.num u<=g.hi*f.w+f.q*(u-g.st):=by
 obtain⟨g,hg,hm⟩:=BDW (λg=>g.hi*f.w-f.num g.st) s hne
 refine⟨g,hg,λh hh=>?_,λu=>?_⟩
 ·have h1:=hm h hh
  obtain⟨h2,h3⟩:=hs h hh
  obtain⟨h4,h5⟩:=hs g hg
  unfold Rl.num at *
  constructor<;>grind
 ·obtain⟨h4,h5⟩:=hs g hg
  unfold Rl.num at *
  grind
def AVO(s:List Gau)(a v m e:Int):Prop:=∃y∈wA s,MM y/\(OF y).num a=v*(OF y).w/\(OF y).q*e=m*(OF y).w
theorem CGH{s:List Gau}{p:Pt}(h:p∈AF s):YE p∈wA s:=by
 unfold wA blk;exact List.mem_flatMap.2 ⟨p,h,List.mem_cons_self ..⟩
theorem BRK{s:List Gau}{p q:Pt}(h:p∈AF s)(h2:q∈AF s)(h3:MM (xI p q)):xI p q∈wA s:=by
 unfold wA blk
 exact List.mem_flatMap.2 ⟨p,h,List.mem_cons_of_mem _ (List.mem_filter.2 ⟨List.mem_map.2 ⟨q,h2,rfl⟩,aY.2 h3⟩)⟩
theorem AID{s:List Gau}{g:Gau}(h:g∈s):(⟨g.st,g.lo⟩:Pt)∈AF s:=ANU.2 ⟨g,h,.inl rfl⟩
theorem ATI{s:List Gau}{g:Gau}(h:g∈s):(⟨g.st,g.hi⟩:Pt)∈AF s:=ANU.2 ⟨g,h,.inr rfl⟩
theorem ANA(p:Pt)(u:Int):(OF (YE p)).num u=p.fl*(OF (YE p)).w/\(OF (YE p)).q=0:=by
 rw[AML]
 unfold YE;split<;>(simp only[OF];constructor<;>grind)
theorem CFF{s:List Gau}(hs:∀g∈s,Rz g){a v:Int}(h:(⟨a,v⟩:Pt)∈AF s):AVO s a v 0 1:=by
 refine⟨_,CGH h,ABE (tZ hs h),(ANA _ _).1,?_⟩
 rw[(ANA ⟨a,v⟩ 0).2];omega
theorem AHB(p q:Pt)(u:Int):(OF (xI p q)).num u=p.fl*(q.st-p.st)+(q.fl-p.fl)*(u-p.st):=by rw[AML];rfl
theorem ATZ{s:List Gau}(hs:∀g∈s,Rz g){a v b z:Int}(h:(⟨a,v⟩:Pt)∈AF s)(h2:(⟨b,z⟩:Pt)∈AF s)(hab:a<b)(hvz:v<=z):AVO s a v (z-v) (b-a):=by
 have o1:=tZ hs h
 have o2:=tZ hs h2
 have hl:MM (xI ⟨a,v⟩ ⟨b,z⟩):=⟨o1.1,hab,o2.2.1,o1.2.2.1,hvz,o2.2.2.2⟩
 exact⟨_,BRK h h2 hl,hl,by rw[AHB];simp[OF,xI],by simp[OF,xI]⟩
theorem AVX{s:List Gau}(hs:∀g∈s,Rz g){a v b z:Int}(h:(⟨a,v⟩:Pt)∈AF s)(h2:(⟨b,z⟩:Pt)∈AF s)(hab:b<a)(hvz:z<=v):AVO s a v (v-z) (a-b):=by
 have o1:=tZ hs h
 have o2:=tZ hs h2
 have hl:MM (xI ⟨b,z⟩ ⟨a,v⟩):=⟨o2.1,hab,o1.2.1,o2.2.2.1,hvz,o1.2.2.2⟩
 exact⟨_,BRK h2 h hl,hl,by rw[AHB];simp only[OF,xI];grind,by simp[OF,xI]⟩
theorem AWP{s:List Gau}{a v m e:Int}(he:0<e)(h:AVO s a v m e)(hp:∀g∈s,okS a v m e g):∃y∈dY s,MM y/\(OF y).passes s/\(OF y).num a=v*(OF y).w/\(OF y).q*e=m*(OF y).w:=by
 obtain⟨y,h1,h2,h3,h4⟩:=h
 have hy:(OF y).passes s:=λg hg=>CJP he h3 h4 (MC h2).1 (hp g hg)
 exact⟨y,List.mem_filter.2 ⟨h1,(AMX h2).2 hy⟩,h2,hy,h3,h4⟩
def loSl(a v:Int)(g:Gau):List Sl:=if a<g.st then [⟨g.lo-v,g.st-a⟩] else if g.st<a then [⟨v-g.hi,a-g.st⟩] else []
def upSl(a v:Int)(g:Gau):List Sl:=if a<g.st then [⟨g.hi-v,g.st-a⟩] else if g.st<a then [⟨v-g.lo,a-g.st⟩] else []
theorem Ss{a v m e:Int}{g:Gau}:okS a v m e g↔(∀x∈loSl a v g,x.m*e<=m*x.e)/\(∀x∈upSl a v g,m*x.e<=x.m*e)/\(g.st=a->g.lo*e<=v*e/\v*e<=g.hi*e):=by
 unfold okS loSl upSl
 by_cases h1:a<g.st
 ·simp only[h1,if_true,List.mem_singleton,forall_eq]
  constructor
  ·intro h;refine⟨by grind,by grind,by omega⟩
  ·intro h;constructor<;>grind
 ·by_cases h2:g.st<a
  ·simp only[h1,h2,if_true,if_false,List.mem_singleton,forall_eq]
   constructor
   ·intro h;refine⟨by grind,by grind,by omega⟩
   ·intro h;constructor<;>grind
  ·have:g.st=a:=by omega
   simp only[h1,h2,if_false,List.not_mem_nil,false_imp_iff,implies_true,true_and]
   rw[this,Int.sub_self,Int.mul_zero,Int.add_zero]
   simp
theorem BJD{a v:Int}{g:Gau}{x:Sl}(h:x∈loSl a v g):0<x.e:=by
 unfold loSl at h;split at h
 ·rw[List.mem_singleton.1 h];show 0<g.st-a;omega
 ·split at h
  ·rw[List.mem_singleton.1 h];show 0<a-g.st;omega
  ·cases h
theorem BOU{a v:Int}{g:Gau}{x:Sl}(h:x∈upSl a v g):0<x.e:=by
 unfold upSl at h;split at h
 ·rw[List.mem_singleton.1 h];show 0<g.st-a;omega
 ·split at h
  ·rw[List.mem_singleton.1 h];show 0<a-g.st;omega
  ·cases h
theorem AFP{a b c d e f:Int}(hd:0<d)(h1:a*d<=c*b)(h2:c*f<=e*d)(hb:0<=b)(hf:0<=f):a*f<=e*b:=by
 have h3:=Int.mul_le_mul_of_nonneg_right h1 hf
 have h4:=Int.mul_le_mul_of_nonneg_right h2 hb
 refine Int.le_of_mul_le_mul_right (a:=d) ?_ hd
 grind
theorem AIT{s:List Gau}(hs:∀g∈s,Rz g){a v n d:Int}(hp:(⟨a,v⟩:Pt)∈AF s)(hd:0<d)(hn:0<=n)(h:∀g∈s,okS a v n d g):∃y∈dY s,MM y/\(OF y).passes s/\(OF y).num a=v*(OF y).w/\(OF y).q*d<=n*(OF y).w:=by
 obtain⟨x,hx,hm⟩:=BNO (⟨0,1⟩ :: s.flatMap (loSl a v)) (by simp) (λy hy=>by
  rcases List.mem_cons.1 hy with rfl | hy
  ·exact Int.one_pos
  ·obtain⟨g,_,hg⟩:=List.mem_flatMap.1 hy;exact BJD hg)
 have hxe:0<x.e:=by
  rcases List.mem_cons.1 hx with rfl | hy
  ·exact Int.one_pos
  ·obtain⟨g,_,hg⟩:=List.mem_flatMap.1 hy;exact BJD hg
 have hxm:0<=x.m:=by have:=hm ⟨0,1⟩ (List.mem_cons_self ..);simp at this;omega
 have hle:x.m*d<=n*x.e:=by
  rcases List.mem_cons.1 hx with rfl | hy
  ·simp;exact hn
  ·obtain⟨g,hg,hgx⟩:=List.mem_flatMap.1 hy;exact (Ss.1 (h g hg)).1 _ hgx
 have hok:∀g∈s,okS a v x.m x.e g:=λg hg=>Ss.2 ⟨λy hy=>hm y (List.mem_cons_of_mem _ (List.mem_flatMap.2 ⟨g,hg,hy⟩)),λy hy=>AFP hd hle ((Ss.1 (h g hg)).2.1 y hy) (Int.le_of_lt hxe) (Int.le_of_lt (BOU hy)),λhe=>by
  obtain⟨h1,h2⟩:=(Ss.1 (h g hg)).2.2 he
  exact⟨Int.mul_le_mul_of_nonneg_right (jD hd h1) (Int.le_of_lt hxe),Int.mul_le_mul_of_nonneg_right (jD hd h2) (Int.le_of_lt hxe)⟩⟩
 have hc:AVO s a v x.m x.e:=by
  rcases List.mem_cons.1 hx with rfl | hy
  ·exact CFF hs hp
  ·obtain⟨g,hg,hgx⟩:=List.mem_flatMap.1 hy
   unfold loSl at hgx
   split at hgx
   ·rename_i hlt
    have:=List.mem_singleton.1 hgx
    subst this
    exact ATZ hs hp (AID hg) hlt (by have:0<=g.lo-v:=hxm;omega)
   ·split at hgx
    ·rename_i hlt
     have:=List.mem_singleton.1 hgx
     subst this
     exact AVX hs hp (ATI hg) hlt (by have:0<=v-g.hi:=hxm;omega)
    ·cases hgx
 obtain⟨y,y1,y2,y3,y4,y5⟩:=AWP hxe hc hok
 refine⟨y,y1,y2,y3,y4,?_⟩
 have hw:=(MC y2).1
 exact AFP hxe (by rw[y5];exact Int.le_refl _) hle (Int.le_of_lt hw) (Int.le_of_lt hd)
theorem BUF{s:List Gau}(hs:∀g∈s,Rz g){a v n d:Int}(hp:(⟨a,v⟩:Pt)∈AF s)(hd:0<d)(hn:0<=n)(h:∀g∈s,okS a v n d g)(ho:∃g∈s,g.st≠a):∃y∈dY s,MM y/\(OF y).passes s/\(OF y).num a=v*(OF y).w/\n*(OF y).w<=(OF y).q*d:=by
 obtain⟨x,hx,hm⟩:=BNO ((s.flatMap (upSl a v)).map λz=>⟨-z.m,z.e⟩) (by
  obtain⟨g,hg,hne⟩:=ho
  intro he
  have he:=List.map_eq_nil_iff.1 he
  have:upSl a v g=[]:=by
   have:=List.flatMap_eq_nil_iff.1 he g hg;exact this
  unfold upSl at this
  by_cases h1:a<g.st
  ·rw[if_pos h1] at this;cases this
  ·rw[if_neg h1,if_pos (by omega)] at this;cases this) (λy hy=>by
  obtain⟨z,hz,rfl⟩:=List.mem_map.1 hy
  obtain⟨g,_,hg⟩:=List.mem_flatMap.1 hz;exact BOU (x:=z) hg)
 obtain⟨z,hz,rfl⟩:=List.mem_map.1 hx
 obtain⟨g0,hg0,hgz⟩:=List.mem_flatMap.1 hz
 have hze:0<z.e:=BOU hgz
 have hmz:∀g∈s,∀y∈upSl a v g,z.m*y.e<=y.m*z.e:=λg hg y hy=>by
  have:=hm ⟨-y.m,y.e⟩ (List.mem_map.2 ⟨y,List.mem_flatMap.2 ⟨g,hg,hy⟩,rfl⟩)
  simp only[Int.neg_mul] at this;omega
 have hle:n*z.e<=z.m*d:=(Ss.1 (h g0 hg0)).2.1 _ hgz
 have hzm:0<=z.m:=by
  have h1:=Int.mul_nonneg hn (Int.le_of_lt hze)
  exact jD hd (by rw[Int.zero_mul];omega)
 have hok:∀g∈s,okS a v z.m z.e g:=λg hg=>Ss.2 ⟨λy hy=>AFP hd ((Ss.1 (h g hg)).1 y hy) hle (Int.le_of_lt (BJD hy)) (Int.le_of_lt hze),λy hy=>hmz g hg y hy,λhe=>by
  obtain⟨h1,h2⟩:=(Ss.1 (h g hg)).2.2 he
  exact⟨Int.mul_le_mul_of_nonneg_right (jD hd h1) (Int.le_of_lt hze),Int.mul_le_mul_of_nonneg_right (jD hd h2) (Int.le_of_lt hze)⟩⟩
 have hc:AVO s a v z.m z.e:=by
  unfold upSl at hgz
  split at hgz
  ·rename_i hlt
   have:=List.mem_singleton.1 hgz
   subst this
   exact ATZ hs hp (ATI hg0) hlt (by have:0<=g0.hi-v:=hzm;omega)
  ·split at hgz
   ·rename_i hlt
    have:=List.mem_singleton.1 hgz
    subst this
    exact AVX hs hp (AID hg0) hlt (by have:0<=v-g0.lo:=hzm;omega)
   ·cases hgz
 obtain⟨y,y1,y2,y3,y4,y5⟩:=AWP hze hc hok
 refine⟨y,y1,y2,y3,y4,?_⟩
 have hw:=(MC y2).1
 have:=AFP hze hle (by rw[<-y5];exact Int.le_refl _) (Int.le_of_lt hd) (Int.le_of_lt hw)
 exact this
theorem BZM{f:Rl}{s:List Gau}(hs:∀g∈s,Rz g)(hf:f.ok)(hp:f.passes s)(hne:s≠[]):dY s≠[]:=by
 obtain⟨g,hg,h1,_⟩:=BIP hf hp hne
 obtain⟨y,hy,_⟩:=AIT hs (AID hg) hf.1 hf.2 h1
 intro he;rw[he] at hy;cases hy
theorem P0{s:List Gau}{t:Int}{x:Ln}(h:s≠[]->dY s≠[]):x∈Nj s t↔x∈dY s∨x∈(XY s t).filter (okX s):=by
 unfold Nj
 have:(bif decide (0<s.length) then decide ((dY s).length=0) else false)=false:=by
  by_cases hn:0<s.length
  ·rw[decide_eq_true hn]
   have:=h (by intro he;rw[he] at hn;cases hn)
   exact decide_eq_false (by intro he;exact this (List.eq_nil_of_length_eq_zero he))
  ·rw[decide_eq_false hn];rfl
 rw[this]
 exact List.mem_append
theorem Fz{s:List Gau}{t:Int}(hs:∀g∈s,Rz g){x:Ln}(hx:x∈Nj s t):MM x/\(OF x).passes s:=by
 have hok:=CAU hs x hx
 refine⟨hok,(AMX hok).1 ?_⟩
 rw[AAJ] at hx
 revert hx
 cases (bif decide ((s.length:Int)>0) then ((dY s).length:Int)==0 else false) with
 |true=>intro hx;cases hx
 |false=>
  intro hx
  rcases List.mem_append.1 hx with hx | hx
  ·exact (List.mem_filter.1 hx).2
  ·have:=(List.mem_filter.1 hx).2
   unfold okX at this
   cases hr:mD x with
   |true=>rw[hr] at this;exact this
   |false=>rw[hr] at this;cases this
theorem CGM{s:List Gau}{t v:Int}(h:v=0∨v=200000):YE ⟨t,v⟩∈XY s t:=by
 unfold XY moB
 rcases h with rfl | rfl<;>simp
theorem CBB{s:List Gau}{t:Int}{p:Pt}(h:p∈AF s):xI ⟨t,0⟩ p∈XY s t/\xI p ⟨t,200000⟩∈XY s t:=by
 unfold XY
 constructor<;>(refine List.mem_append.2 (.inr (List.mem_flatMap.2 ⟨p,h,?_⟩));simp)
theorem ANB{s:List Gau}{x:Ln}(h1:MM x)(h2:(OF x).passes s):okX s x=true:=by
 unfold okX;rw[aY.2 h1];exact (AMX h1).2 h2
theorem BHU{f:Rl}{s:List Gau}{t:Int}(hs:∀g∈s,Rz g)(ht:0<=t/\t<=2000)(hf:f.ok)(hp:f.passes s):∃y∈Nj s t,MM y/\((OF y).num t<=0∨(OF y).num t*f.w<=f.num t*(OF y).w):=by
 by_cases hne:s=[]
 ·subst hne
  have ho:MM (YE ⟨t,0⟩):=ABE ⟨ht.1,ht.2,by show (0:Int)<=0;omega,by show (0:Int)<=200000;omega⟩
  refine⟨YE ⟨t,0⟩,(P0 (λh=>(h rfl).elim)).2 (.inr (List.mem_filter.2 ⟨CGM (.inl rfl),ANB ho (λg hg=>by cases hg)⟩)),ho,.inl ?_⟩
  rw[(ANA _ _).1,Int.zero_mul];exact Int.le_refl _
 ·have hfl:=BZM hs hf hp hne
  obtain⟨g,hg,h1,h2⟩:=BIP hf hp hne
  have hm:∀y∈dY s,y∈Nj s t:=λy hy=>(P0 (λ_=>hfl)).2 (.inl hy)
  by_cases hat:g.st<=t
  ·obtain⟨y,y1,y2,y3,y4,y5⟩:=AIT hs (AID hg) hf.1 hf.2 h1
   refine⟨y,hm y y1,y2,.inr ?_⟩
   have hw:=(MC y2).1
   have a1:=Int.mul_le_mul_of_nonneg_right y5 (show 0<=t-g.st by omega)
   have a2:=Int.mul_le_mul_of_nonneg_right (h2 t) (Int.le_of_lt hw)
   have e1:(OF y).num t=g.lo*(OF y).w+(OF y).q*(t-g.st):=by unfold Rl.num at *;grind
   rw[e1];grind
  ·by_cases ho:∃h∈s,h.st≠g.st
   ·obtain⟨y,y1,y2,y3,y4,y5⟩:=BUF hs (AID hg) hf.1 hf.2 h1 ho
    refine⟨y,hm y y1,y2,.inr ?_⟩
    have hw:=(MC y2).1
    have a1:=Int.mul_le_mul_of_nonneg_right y5 (show 0<=g.st-t by omega)
    have a2:=Int.mul_le_mul_of_nonneg_right (h2 t) (Int.le_of_lt hw)
    have e1:(OF y).num t=g.lo*(OF y).w+(OF y).q*(t-g.st):=by unfold Rl.num at *;grind
    rw[e1];grind
   ·have hall:∀h∈s,h.st=g.st:=λh hh=>Classical.byContradiction λhc=>ho ⟨h,hh,hc⟩
    have og:=hs g hg
    have hk:MM (xI ⟨t,0⟩ ⟨g.st,g.lo⟩):=⟨ht.1,by show t<g.st;omega,og.2.1,Int.le_refl _,og.2.2.1,by show g.lo<=200000;have:=og.2.2.2;omega⟩
    refine⟨_,(P0 (λ_=>hfl)).2 (.inr (List.mem_filter.2 ⟨(CBB (AID hg)).1,ANB hk (λh hh=>?_)⟩)),hk,.inl ?_⟩
    ·obtain⟨b1,b2⟩:=(Ss.1 (h1 h hh)).2.2 (hall h hh)
     have c1:=jD hf.1 b1
     have c2:=jD hf.1 b2
     unfold Rl.pass
     rw[AHB,hall h hh]
     have hw:0<g.st-t:=by omega
     have e:(OF (xI ⟨t,0⟩ ⟨g.st,g.lo⟩)).w=g.st-t:=rfl
     rw[e]
     have d1:=Int.mul_le_mul_of_nonneg_right c1 (Int.le_of_lt hw)
     have d2:=Int.mul_le_mul_of_nonneg_right c2 (Int.le_of_lt hw)
     constructor<;>simp only[Int.zero_mul,Int.zero_add,Int.sub_zero]<;>omega
    ·rw[AHB];simp
theorem BWU{f:Rl}{s:List Gau}{t:Int}(hs:∀g∈s,Rz g)(ht:0<=t/\t<=2000)(hf:f.ok)(hp:f.passes s):∃y∈Nj s t,MM y/\(200000*(OF y).w<=(OF y).num t∨f.num t*(OF y).w<=(OF y).num t*f.w):=by
 by_cases hne:s=[]
 ·subst hne
  have ho:MM (YE ⟨t,200000⟩):=ABE ⟨ht.1,ht.2,by show (0:Int)<=200000;omega,by show (200000:Int)<=200000;omega⟩
  refine⟨YE ⟨t,200000⟩,(P0 (λh=>(h rfl).elim)).2 (.inr (List.mem_filter.2 ⟨CGM (.inr rfl),ANB ho (λg hg=>by cases hg)⟩)),ho,.inl ?_⟩
  rw[(ANA _ _).1];exact Int.le_refl _
 ·have hfl:=BZM hs hf hp hne
  obtain⟨g,hg,h1,h2⟩:=CCE hf hp hne
  have hm:∀y∈dY s,y∈Nj s t:=λy hy=>(P0 (λ_=>hfl)).2 (.inl hy)
  by_cases hat:t<=g.st
  ·obtain⟨y,y1,y2,y3,y4,y5⟩:=AIT hs (ATI hg) hf.1 hf.2 h1
   refine⟨y,hm y y1,y2,.inr ?_⟩
   have hw:=(MC y2).1
   have a1:=Int.mul_le_mul_of_nonneg_right y5 (show 0<=g.st-t by omega)
   have a2:=Int.mul_le_mul_of_nonneg_right (h2 t) (Int.le_of_lt hw)
   have e1:(OF y).num t=g.hi*(OF y).w+(OF y).q*(t-g.st):=by unfold Rl.num at *;grind
   rw[e1];grind
  ·by_cases ho:∃h∈s,h.st≠g.st
   ·obtain⟨y,y1,y2,y3,y4,y5⟩:=BUF hs (ATI hg) hf.1 hf.2 h1 ho
    refine⟨y,hm y y1,y2,.inr ?_⟩
    have hw:=(MC y2).1
    have a1:=Int.mul_le_mul_of_nonneg_right y5 (show 0<=t-g.st by omega)
    have a2:=Int.mul_le_mul_of_nonneg_right (h2 t) (Int.le_of_lt hw)
    have e1:(OF y).num t=g.hi*(OF y).w+(OF y).q*(t-g.st):=by unfold Rl.num at *;grind
    rw[e1];grind
   ·have hall:∀h∈s,h.st=g.st:=λh hh=>Classical.byContradiction λhc=>ho ⟨h,hh,hc⟩
    have og:=hs g hg
    have hk:MM (xI ⟨g.st,g.hi⟩ ⟨t,200000⟩):=⟨og.1,by show g.st<t;omega,ht.2,by show 0<=g.hi;have:=og.2.2;omega,og.2.2.2.2,by show (200000:Int)<=200000;omega⟩
    refine⟨_,(P0 (λ_=>hfl)).2 (.inr (List.mem_filter.2 ⟨(CBB (ATI hg)).2,ANB hk (λh hh=>?_)⟩)),hk,.inl ?_⟩
    ·obtain⟨b1,b2⟩:=(Ss.1 (h1 h hh)).2.2 (hall h hh)
     have c1:=jD hf.1 b1
     have c2:=jD hf.1 b2
     unfold Rl.pass
     rw[AHB,hall h hh]
     have hw:0<t-g.st:=by omega
     have e:(OF (xI ⟨g.st,g.hi⟩ ⟨t,200000⟩)).w=t-g.st:=rfl
     rw[e]
     have d1:=Int.mul_le_mul_of_nonneg_right c1 (Int.le_of_lt hw)
     have d2:=Int.mul_le_mul_of_nonneg_right c2 (Int.le_of_lt hw)
     constructor<;>simp only[Int.sub_self,Int.mul_zero,Int.add_zero]<;>omega
    ·rw[AHB]
     show 200000*(t-g.st)<=g.hi*(t-g.st)+(200000-g.hi)*(t-g.st)
     grind
end Go.Bal
