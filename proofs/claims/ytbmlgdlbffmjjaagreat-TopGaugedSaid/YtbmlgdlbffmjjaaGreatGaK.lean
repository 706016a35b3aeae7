/- TopGauged: rows of one's own: lent to Flow and Real; copies. -/
import Derived.Test.YtbmlgdlbffmjjaaGreatGaJ
import Derived.Test.YtbmlgdlbffmjjaaGreatGaG
import Derived.Test.YtbmlgdlbffmjjaaGreatSym13
import Derived.Test.YtbmlgdlbffmjjaaGreatRatU
set_option linter.unusedVariables false
set_option linter.unusedSimpArgs false
namespace Go.Bal
open Go Go.Sym Go.Proofs
def rowV(v:Vt):AObj:=.row 5 1 λ_=>eVt v
def BGK(a:Int):AObj:=.row 1 1 λ_=>EP a
def xgO:AVal:=.agg [.int 0,.int 10,.own 100 5 0 1]
def C_gFlO:Ctr:={ ro:=[100],α:=Vt,xs:=λ_=>[xgO],L:=λv=>[(100,rowV v)],val:=λv=>.tup [.d (UJ (flV v)),.int 0],keep:=λv=>[(100,.live (rowV v))],pre:=λv=>[Rf v=true] }
def APW(H:Heap)(id:Nat):Option DVal:=match H id with
 | .live (.row _ _ g)=>some (g 0)
 |_=>none
def BOH:List AVal->Heap->Option (Vt×List (Nat×Nat)×List Nat)
 |[.agg [_,_,.own id _ _ _]],H=>(APW H id).map λd=>(dVt d,[(100,id)],[])
 |_,_=>none
def C_gReO:Ctr:={ ro:=[100,101,102],α:=ReS,xs:=λ_=>[xgO,.own 101 1 0 1,.own 102 1 0 1],L:=λx=>[(100,rowV x.v),(101,BGK x.a),(102,BGK x.b)],val:=λx=>.tup [.int (reV x),.int 0],keep:=λx=>[(100,.live (rowV x.v)),(101,.live (BGK x.a)),(102,.live (BGK x.b))],pre:=λx=>[Rf x.v=true,MN x.a x.v.d.lo x.v.d.hi=true,MN x.b x.v.s.lo x.v.s.hi=true] }
def BNL:List AVal->Heap->Option (ReS×List (Nat×Nat)×List Nat)
 |[.agg [_,_,.own id _ _ _],.own j _ _ _,.own k _ _ _],H=>match APW H id,APW H j,APW H k with
  |some d,some a,some b=>some (⟨dVt d,LO a,LO b⟩,[(100,id),(101,j),(102,k)],[])
  |_,_,_=>none
 |_,_=>none
def BRQ(l:List Lin):AObj:=.row 5 l.length λi=>eLin (gD l i)
def C_CpO:Ctr:={ α:=List Lin,xs:=λl=>[.d (F2 l)],L:=λ_=>[],val:=λl=>.own 0 5 0 l.length,keep:=λl=>[(0,.live (BRQ l))],pre:=λl=>[0<l.length/\l.length<=30] }
def CIF:Ann:={ ann 7 [] with mt:=λid=>id==2 }
def CIW(l:List Lin):Prop:=AX Try.prog CIF ASU (AF ASU) [.d (F2 l)] (AC []) (.own 0 5 0 l.length) [(0,.live (BRQ l))] [(0,3032)] []
abbrev Iw a b c d:=Bl (JP a b) c d
abbrev Io a b c d:=Bz (JR a b) c d
abbrev Jk a b c d:=Cd (FN a b) c d
abbrev Jj a b c d:=Ca (EN a b) c d
abbrev Ja a b c d:=Cq (IW a b) c d
attribute [go_sem] Iw Io Jk Jj Ja
theorem CLN(l:List Lin):(CIW l)=(Uy (KY (XD 5) (RF FW (OG l) 5) (QM (IC (OG l))) (AP (OG l)) 9223372036854775807 (LS (Df (AP (OG l)) 40))) (OG l) (AP (OG l)) (λi=>FX i l (Ja l i l (Xc i)) (Jj l i l (Xc i)) (Jk l i l (Xc i)) (Io l i l (Xc i)) (Iw l i l (Xc i)))):=by kernel_rfl
def C_CnO:Ctr:={ C_CpO with xs:=λl=>[.d (R3 l)],val:=λl=>.agg [.int 3,.own 0 5 0 l.length] }
def CJY(l:List Lin):Prop:=AX Try.prog (ann 9 [(ADD,C_CpO.spec BAN)]) AUI (AF AUI) [.d (R3 l)] (AC []) (.agg [.int 3,.own 0 5 0 l.length]) [(0,.live (BRQ l))] [(0,2064)] []
theorem CNL(l:List Lin):(CJY l)=(And (AQ (FM l) (AE (λi=>IM i l i i i i i)) (IC (FT l)) (CW (FT l) 30)) (Uy AT (OG l) (FT l) (λi=>GX i l (RL l i i) (RE l i i) i (KM l i) (RI l i i) (QX l i i)))):=by kernel_rfl
theorem CNM(v:Vt)(h:Rf v=true):FnT Try.prog ACT [.d (eGg v)] (AC []) (C_gFlow.val v) []:=Ee (A:=BHW) (L:=[]) (keep:=[]) (ren:=[]) (fz:=[]) BVK (by kernel_rfl) (AA CCS (AA BRO AD)) (by
 show BIO v;rw[BNQ]<;> delta LI HU AK AN AE BA BM BH DC ER FF CE EE Fz Eu AG AI AO AJ AR BO DG LG GI AL QC FG Eh AZ ED BY SC SF HW Fp Jd eM YH eC UV;simp only[CC,CU,CF];exact⟨h,⟨by omega,by omega⟩,rfl,rfl⟩)
theorem CPY(x:ReS)(h1:Rf x.v=true)(h2:MN x.a x.v.d.lo x.v.d.hi=true)(h3:MN x.b x.v.s.lo x.v.s.hi=true):FnT Try.prog ADL (C_gReal.xs x) (AC []) (C_gReal.val x) []:=Ee (A:=BIW) (L:=[]) (keep:=[]) (ren:=[]) (fz:=[]) BTL (by kernel_rfl) (AA ANK (AA BHG (AA AEU AD))) (by
 show BGX x;rw[BSA];simp only[CC,CU,CF,wM,dH]
 rw[h2,h3]
 exact⟨h1,⟨by omega,by omega⟩,⟨⟨by omega,by omega⟩,λ_=>⟨by omega,by omega⟩⟩,λh=>(by cases h),λ_=>⟨⟨by omega,by omega⟩,rfl⟩⟩) (N6 oU itRe rfl rfl AD AWX (by kernel_rfl) (by kernel_rfl))
theorem CCE:AH Try.prog ACT (C_gFlO.spec BOH):=Ctr.spec_ok (C:=C_gFlO) (λ(v:Vt) h=>by
 refine FnT.lend (fz:=[100]) (xs:=[xgO]) (L:=[(100,rowV v)]) (CNM v h) rfl ?_ rfl ?_ _ ?_
 ·rfl
 ·show 0+1<=1;omega
 ·exact⟨rfl,trivial⟩) _
theorem CAS:AH Try.prog ADL (C_gReO.spec BNL):=Ctr.spec_ok (C:=C_gReO) (λ(x:ReS) h=>by
 refine FnT.lend (fz:=[100,101,102]) (xs:=C_gReO.xs x) (L:=C_gReO.L x) (CPY x h.1 h.2.1 h.2.2) rfl ?_ rfl ?_ _ ?_
 ·rfl
 ·exact⟨by show 0+1<=1;omega,by show 0+1<=1;omega,by show 0+1<=1;omega⟩
 ·exact⟨rfl,rfl,rfl,trivial⟩) _
theorem CNV:AH Try.prog ADD (C_CpO.spec BAN):=PU C_CpO (λ_=>CIF) [(0,3032)] [] BNR (λ_=>by kernel_rfl) (λ_=>AD) (λ(l:List Lin) h=>by
 obtain⟨h1,h2⟩:0<l.length/\l.length<=30:=h
 show CIW l;rw[CLN]<;> delta LI HU AK AN AE BA BM CW KJ TK TC FW OG Fg ZN ZK ZM HD Df AG AP AI AO AR DR Rc AM LG JP JR IW EN FX FN RF IC KY Tr LS Jw Uy Cd Ca GW Cq Bz Bl Ay QM XD Iw Io Ja Jj Jk Xc;simp only[CC,CU,CF]
 exact⟨⟨λh=>(by omega),h1,by omega,by omega⟩,λi _=>⟨rfl,rfl,rfl,rfl,rfl⟩⟩) (λ_=>RR rfl rfl) _
theorem CLO:AH Try.prog AQD (C_CnO.spec vP):=PU C_CnO (λ_=>ann 9 [(ADD,C_CpO.spec BAN)]) [(0,2064)] [] BOM (λ_=>by kernel_rfl) (λ_=>AA CNV AD) (λ(l:List Lin) h=>by
 have h:0<l.length/\l.length<=30:=h
 show CJY l;rw[CNL]<;> delta AK AN AE BA BM CW FF TK TC OG Fg ZN ZK ZM AG AI AO AJ AR Rc Rw BO AM AQ HC IQ FT LG JP JR AT IW EN FX FN IC Tr Jw Uy Cd Ca Dx UK Cq UN Bz KM OR ON Bl Au FM Gb Ha QE QL NW NJ GX OH IM QX RI RE RL;simp only[CC,CU,CF];exact h) (λ_=>RR rfl rfl) _
end Go.Bal



namespace Go.Bal
open Go Go.Sym Go.Proofs
structure GR where
 g:List Gau
 r:Rtg
def dGR:List AVal->Heap->Option (GR×List (Nat×Nat)×List Nat)
 |[x,y],H=>match AHL x H,dRtg y H with
  |some (l,f),some (r,e)=>some (⟨l,r⟩,[],f ++ e)
  |_,_=>none
 |_,_=>none
def xGR(a:GR):List AVal:=[.d (KB a.g),.d (eRtg a.r)]
def notP(a:GR)(i:Nat):Bool:=!VW (gD a.r.l (Vs a.r.b (gD a.g i).st)) (gD a.g i)
def pasK(a:GR)(n:Nat):List Int:=((List.range n).filter (notP a)).map Int.ofNat
def yB(a:GR):Int:=bif IH a.g==0 then Hq a.r else IH a.g
def sM(a:GR):List Int:=bif yB a==0 then pasK a a.g.length else []
def C_Passes:Ctr:={ α:=GR,xs:=xGR,L:=λ_=>[],val:=λa=>.tup [.d (II (sM a)),.int (yB a)],keep:=λ_=>[],pre:=λa=>[a.g.length<1073741824/\a.r.b.length<1073741824/\a.r.l.length<1073741824] }
structure KI where
 k:Nat
 l:List Int
 deriving Inhabited
def rtgC(r:Rtg):HCell:=.live (.box [.d (II r.b),.d (N8 r.l)])
def psS(a:GR)(v:AVal)(k:Nat):List (Nat×AVal):=[(3,.bptr 1000 0),(7,v),(19,.d (KB a.g)),(20,.int a.g.length),(21,.int k)]
def psI(a:GR)(k:Nat)(l:List Int):Prop:=yB a=0/\k<=a.g.length/\l=pasK a k
def ps8n(a:GR):Shape:={ α:=Nat,dflt:=0,T:=λk=>⟨psS a (.d gK) k,[(1000,rtgC a.r)]⟩,inv:=λk=>psI a k [],meas:=λk=>a.g.length-k }
def ps8o(a:GR):Shape:={ α:=KI,dflt:=default,T:=λx=>⟨psS a (.own 301 1 0 x.l.length) x.k,[(1000,rtgC a.r),(301,.live (rowI x.l))]⟩,inv:=λx=>psI a x.k x.l,meas:=λx=>a.g.length-x.k }
def CTH(a:GR)(m:Nat):Shape:={ α:=Nat,dflt:=0,T:=λk=>⟨psS a (.d gK) k,[(1000,rtgC a.r)]⟩,inv:=λk=>k<a.g.length/\a.g.length-k=m/\psI a (k+1) [],meas:=λ_=>0 }
def CGS(a:GR)(m:Nat)(f:List (Nat×Nat)):Shape:={ α:=KI,dflt:=default,T:=λx=>⟨psS a (.own 301 1 0 x.l.length) x.k,[(1000,rtgC a.r),(301,.live (rowI x.l))]⟩,inv:=λx=>x.k<a.g.length/\a.g.length-x.k=m/\psI a (x.k+1) x.l,meas:=λ_=>0,first:=f }
def ps4(a:GR):Shape:={ α:=One,dflt:=default,T:=λ_=>⟨[(0,.d (KB a.g)),(3,.bptr 1000 0),(6,.int (yB a))],[(1000,rtgC a.r)]⟩,inv:=λ_=>True,meas:=λ_=>0 }
def AVU(a:GR):Ann:={ ann 44 [(J9,C_Check.spec A5),(AGA,C_CheckR.spec dRt1),(AHU,C_part.spec dIX),(vC,ALH)] with mt:=λid=>id==11,loops:=λid=>if id=8 then some [ps8n a,ps8o a] else none,cut:=λid=>if id=4 then some [ps4 a] else none,cutIn:=λgs id=>if id=12 then some [CTH a (gs.getD 0 0),CGS a (gs.getD 0 0) [(301,12048)],CGS a (gs.getD 0 0) []] else none }
def AWF(a:GR):Prop:=AX Try.prog (AVU a) AIF (AF AIF) (xGR a) (AC []) (C_Passes.val a) [] [] [301]
abbrev SZ:=GR.g
abbrev Kj:=yB
abbrev ABD:=Rtg.mk
abbrev AKG:=@Exists KI
abbrev ZI:=KI.l
abbrev MK:=KI.k
abbrev AWQ:=λ(f:KI->Prop)=>∀(x:KI),f x
abbrev uL a:=CP (Kj a)
abbrev vW a:=FI (ZI a)
abbrev oV a b:=BK a (ZI b)
abbrev Qq a b:=QU (SZ a) b
abbrev Md a b:=Qq a (MK b)
abbrev lF a b c:=Wg a (pasK b c)
abbrev jO a b c:=lF (ZI a) b c
abbrev Hj a b:=HH a (SZ b)
abbrev VU a:=cS (GR.r a)
abbrev Fl a:=HR (VU a)
abbrev Uj a:=AR (Fl a)
abbrev Er a:=mE (GR.r a)
abbrev qP a:=EF (Er a)
abbrev Vf a:=HT (Er a)
abbrev eD a:=WJ (SZ a)
abbrev Vg a:=BW (SZ a)
abbrev Yn a:=CL (MK a)
abbrev iY a b:=Xv a (SZ b)
abbrev tV a:=BX (SZ a)
abbrev nR a b:=DW (SZ a) b
abbrev X5 a:=EL (Er a)
abbrev Nu a b c:=Vs (X5 a) (nR b c)
abbrev iS a:=iX (VU a)
attribute [go_sem] SZ Kj ABD AKG ZI MK AWQ uL vW oV Qq Md lF jO Hj VU Fl Uj Er qP Vf eD Vg Yn iY tV nR X5 Nu iS
theorem BLX(a:GR):(AWF a)=(AG (SE (SZ a) (UQ (SZ a))) (EW (QI (Pd (SZ a))) (AV (HI (Er a)) (GQ (Er a)) (AN (HR (iS a)) (Fl a)) (AE (λi=>FH i (HR (iS a)) (NR (iS a) i (VU a)) (EU (iS a) i) (EU (VU a) i) (EQ (iS a) i) (EQ (VU a) i) (ES (iS a) i) (ES (VU a) i))) (Gd (Er a)) (HP (HR (iS a)))) (NF (FJ (Vg a) (tV a) (AK (Kj a) (AAB (ABD (X5 a) (iS a)))) (Vf a) (qP a) (Uj a) (ZG (Fl a) (VU a)))) (NF (FJ (Vg a) (tV a) (AK (Kj a) (Pd (SZ a))) (Vf a) (qP a) (Uj a) (ZG (Fl a) (VU a))))) (Ac (λi=>MI FW (RJ (Kj a)) (iB (GM (sM a) 0) (AJ (Kj a))) (AG (CG (λj=>And (KU (EX SH (Vg a) (tV a) (eD a) (BD j) (Vf a) (λk=>OV k (Er a)) (Uj a) (ZG (Fl a) (VU a)))) (bS (Kj a) (Hj j a) (lF Rv a j)))) (AE (λj=>HE (bS (Kj a) (Hj j a) (lF Rv a j)) j (BP (SZ a)) (Ks (BE j (BP (SZ a))) (AG (HI (Er a)) (GQ (Er a)) (AS (AJ (nR a j)) (Dv (JO (Er a)) 4611686018427387904 (Gm ER (X5 a))) (BE (Nu a a j) (Fl a)) (PC (LF (VU a) (Nu a a j)) (EQ (VU a) (Nu a a j)) (EU (VU a) (Nu a a j)) (ES (VU a) (Nu a a j))) (BF (nR a j)) (HJ (nR a j)) (BF (DK (SZ a) j)) (DC (DK (SZ a) j) (DF (SZ a) j)) (RB (DF (SZ a) j)))) (not (vV (LF (VU a) (Nu a a j)) (SZ a) j)) (Ao 1 1 GO 1 8) (AKG (λk=>AV (SU (GM (ZI k) 1) (Vg a) (EX (λl=>MG l (SZ a)) (eD a) (BC (MK k) j) (Vf a) (qP a) (Uj a) (λl=>Hf l (Fl a) (VU a)) (GM (ZI k) 1) (AE (λl=>Ii l (ZI k) l (BH j))))) (iY (MK k) a) (AN (Md a k) (Qq a j)) (uL a) (Hj (Yn k) a) (jO k a (Yn k)))) (CG (λk=>AV (KU (EX SH (Vg a) (tV a) (eD a) (BC k j) (Vf a) (λl=>OV l (Er a)) (Uj a) (ZG (Fl a) (VU a)))) (iY k a) (AN (Qq a k) (Qq a j)) (uL a) (Hj (CL k) a) (lF Rv a (CL k))))) (Zl (λk=>BA (FG (iY k a) (AN (Qq a k) (Qq a j)) (Kj a) 0 (Hj (CL k) a) (lF Rv a (CL k))) (CG (λl=>EV (KU (EX SH (Vg a) (tV a) (eD a) (AU l k) (Vf a) (λm=>OV m (Er a)) (Uj a) (ZG (Fl a) (VU a)))) (bS (Kj a) (Hj l a) (lF Rv a l)) (Qq a l) (Qq a j)))) (AWQ (λk=>BA (FG (iY (MK k) a) (AN (Md a k) (Qq a j)) (Kj a) 0 (Hj (Yn k) a) (jO k a (Yn k))) (AKG (λl=>EV (SU (oV (ZI l) k) (Vg a) (EX (λm=>MG m (SZ a)) (eD a) (AU (MK l) (MK k)) (Vf a) (qP a) (Uj a) (λm=>Hf m (Fl a) (VU a)) (oV (ZI l) k) (BR (ZI l) (ZI k)))) (bS (Kj a) (Hj (MK l) a) (jO l a (MK l))) (Md a l) (Qq a j)))))) (iB (GM (sM a) 0) (uL a)))) (AWQ (λj=>HE (bS (Kj a) (Hj (MK j) a) (jO j a (MK j))) (MK j) (BP (SZ a)) (Ks (BE (MK j) (BP (SZ a))) (AG (HI (Er a)) (GQ (Er a)) (AS (AJ (nR a (MK j))) (Dv (JO (Er a)) 4611686018427387904 (Gm ER (X5 a))) (BE (Nu a a (MK j)) (Fl a)) (PC (LF (VU a) (Nu a a (MK j))) (EQ (VU a) (Nu a a (MK j))) (EU (VU a) (Nu a a (MK j))) (ES (VU a) (Nu a a (MK j)))) (BF (nR a (MK j))) (HJ (nR a (MK j))) (BF (DK (SZ a) (MK j))) (DC (DK (SZ a) (MK j)) (DF (SZ a) (MK j))) (RB (DF (SZ a) (MK j))))) (not (vV (LF (VU a) (Nu a a (MK j))) (SZ a) (MK j))) (VE (And (HT (ZI j)) (HA 0 (ZI j) AZ)) 1 (CL (vW j)) (RX (vW j) 8)) (AKG (λk=>AV (SU (GM (ZI k) (CL (vW j))) (Vg a) (EX (λl=>MG l (SZ a)) (eD a) (BC (MK k) (MK j)) (Vf a) (qP a) (Uj a) (λl=>Hf l (Fl a) (VU a)) (GM (ZI k) (CL (vW j))) (AE (λl=>Ii l (ZI k) l (KC l (vW j) (IR (ZI j) l) (BH (MK j))))))) (iY (MK k) a) (AN (Md a k) (Md a j)) (uL a) (Hj (Yn k) a) (jO k a (Yn k)))) (AKG (λk=>AV (SU (oV (ZI k) j) (Vg a) (EX (λl=>MG l (SZ a)) (eD a) (BC (MK k) (MK j)) (Vf a) (qP a) (Uj a) (λl=>Hf l (Fl a) (VU a)) (oV (ZI k) j) (BR (ZI k) (ZI j)))) (iY (MK k) a) (AN (Md a k) (Md a j)) (uL a) (Hj (Yn k) a) (jO k a (Yn k))))) (Zl (λk=>BA (FG (iY k a) (AN (Qq a k) (Md a j)) (Kj a) 0 (Hj (CL k) a) (lF Rv a (CL k))) (CG (λl=>EV (KU (EX SH (Vg a) (tV a) (eD a) (AU l k) (Vf a) (λm=>OV m (Er a)) (Uj a) (ZG (Fl a) (VU a)))) (bS (Kj a) (Hj l a) (lF Rv a l)) (Qq a l) (Md a j)))) (AWQ (λk=>BA (FG (iY (MK k) a) (AN (Md a k) (Md a j)) (Kj a) 0 (Hj (Yn k) a) (jO k a (Yn k))) (AKG (λl=>EV (SU (oV (ZI l) k) (Vg a) (EX (λm=>MG m (SZ a)) (eD a) (AU (MK l) (MK k)) (Vf a) (qP a) (Uj a) (λm=>Hf m (Fl a) (VU a)) (oV (ZI l) k) (BR (ZI l) (ZI k)))) (bS (Kj a) (Hj (MK l) a) (jO l a (MK l))) (Md a l) (Md a j)))))) (RY (oV (sM a) j) (Nw (vW j)) (λk=>HA k (sM a) (NQ (sM a) k (ZI j) (AP k))) (uL a)))))))):=by kernel_rfl
structure RtI where
 r:Rtg
 t:Int
def okRt(r:Rtg):Prop:=asc r.b/\r.l.length=r.b.length+1/\(∀x∈r.l,PT x)/\r.b.length<=24
def atF(a:RtI):Rt:=MB (gD a.r.l (Vs a.r.b a.t)) a.t
def atE(a:RtI):Int:=bif Hq a.r==0 then (bif MN a.t 0 2000 then 0 else 4) else Hq a.r
def atM(a:RtI):Rt:=bif atE a==0 then atF a else⟨0,0⟩
theorem BLN{r:Rtg}(h:Hq r=0):okRt r/\∀x∈r.b,1<=x/\x<=2000:=by
 unfold Hq at h
 cases hb:Aw r.b != 0 with
 |true=>rw[hb] at h;have h:Aw r.b=0:=h;rw[h] at hb;cases hb
 |false=>
  rw[hb] at h
  have hb0:Aw r.b=0:=by simpa using hb
  cases hl:(r.l.length:Int) != (r.b.length:Int)+1 with
  |true=>rw[hl] at h;cases h
  |false=>
   rw[hl] at h
   cases hr:r.l.all Zc with
   |false=>rw[hr] at h;cases h
   |true=>
    have hl0:(r.l.length:Int)=(r.b.length:Int)+1:=by simpa using hl
    unfold Aw at hb0
    split at hb0
    ·cases hb0
    ·obtain⟨h5,h6⟩:=BAX _ 0 (by omega) hb0
     exact⟨⟨h5,by omega,λx hx=>cP.1 (List.all_eq_true.1 hr x hx),by omega⟩,λx hx=>by have:=h6 x hx;omega⟩
theorem xO{a:GR}{k:Nat}:pasK a (k+1)=if notP a k=true then pasK a k ++ [(k:Int)] else pasK a k:=by
 unfold pasK
 rw[List.range_succ,List.filter_append,List.map_append]
 by_cases h:notP a k=true
 ·rw[if_pos h,List.filter_cons_of_pos h];rfl
 ·rw[if_neg h,List.filter_cons_of_neg h];simp
theorem AXS(a:GR)(k:Nat):(pasK a k).length<=k:=by
 unfold pasK;rw[List.length_map]
 exact Nat.le_trans (List.length_filter_le _ _) (by simp)
theorem BXD(a:GR)(h1:a.g.length<1073741824)(h2:a.r.b.length<1073741824)(h3:a.r.l.length<1073741824):AWF a:=by
 rw[BLX]<;> delta LI UD KA LX JZ LQ HV GZ JJ NL cN HU FA AK AN FI AE BA BM IR BH CW DC ER NE TD KJ Ff ZJ FW HD CG BP GU HR LF HS Wm Ac Df tA mE AAB cS Gm Rv Wg SZ Kj ABD AKG ZI MK AWQ CS AG AP AI AO AJ Rn AR DR VS iB VY QG AS CM EL BB DW HY IF BF HB BW DN DF MM JG DK GH VT HA AM AQ JH ES CL LN PS JK KD EI EA ML DG EQ HT CI OT FP EV KC GI NQ BC EU UH GM AV FH nE VU rF DT RO Ab Mw JA HQ BK AU IY HJ EW QU EX Sc FV FJ RB Er OV HZ MG DZ BE RF FG oJ EF IA IC AZ UC Ei KH EH BR iX LB BU KY OC HK VF BX LS UZ HH Em BD Om GW HE CN CV OP JO WI Dv MI JE RX Ay QM Xv HI NR KG CP Cr Ks WJ Fl PC GO Qq XD GQ bS HP KU RJ nR NF Hf PZ X5 SH Hj QI lF ZG vV Md RY UQ Vf Vg Uj SU Nu Yn eD SE Pd wG Gd iS VE Nw qJ iY Zl qP Ii Ao jO oV uL tV vW;simp only[CC,CU]
 have em:¬yB a=0->sM a=[]:=λh=>by unfold sM;rw[show (yB a==0)=false by simpa using h];rfl
 have facts:yB a=0->IH a.g=0/\okRt a.r:=λh=>by
  unfold yB at h
  cases hc:IH a.g==0 with
  |false=>rw[hc] at h;have h:IH a.g=0:=h;rw[h] at hc;cases hc
  |true=>rw[hc] at h;exact⟨by simpa using hc,(BLN h).1⟩
 have pre:∀{k:Nat},yB a=0->k<a.g.length->((a.r.b.length<4611686018427387904/\asc a.r.b)/\(0<=((Vs a.r.b (gD a.g k).st:Nat):Int)/\((Vs a.r.b (gD a.g k).st:Nat):Int)<a.r.l.length)/\PT (gD a.r.l (Vs a.r.b (gD a.g k).st))/\Ho (gD a.g k)):=λ{k} h hk=>by
  obtain⟨f1,f2,f3,f4,f5⟩:=facts h
  have hle:Vs a.r.b (gD a.g k).st<=a.r.b.length:=List.countP_le_length
  exact⟨⟨by omega,f2⟩,⟨by omega,by omega⟩,f4 _ (MH (by omega)),(Vz f1).2 _ (MH hk)⟩
 have nP:∀{k:Nat},VW (gD a.r.l (Vs a.r.b (gD a.g k).st)) (gD a.g k)=false->notP a k=true:=λ{k} h=>by unfold notP;rw[h];rfl
 have nQ:∀{k:Nat},VW (gD a.r.l (Vs a.r.b (gD a.g k).st)) (gD a.g k)=true->¬notP a k=true:=λ{k} h=>by unfold notP;rw[h];simp
 have cn:∀(m i:Nat),i<a.g.length/\a.g.length-i=m/\psI a (i+1) []->∃j:Nat,(j:Int)=IntKind.i64.wrap ((i:Int)+1)/\psI a j []/\a.g.length-j<m:=λm i ⟨b1,b2,b3⟩=>⟨i+1,(GJ (by omega)).symm,b3,by omega⟩
 have co:∀(m:Nat) (x:KI),x.k<a.g.length/\a.g.length-x.k=m/\psI a (x.k+1) x.l->∃y:KI,(y.l.length=x.l.length/\(y.k:Int)=IntKind.i64.wrap ((x.k:Int)+1)/\y.l.length=x.l.length/\∀i,i<y.l.length->gD y.l i=gD x.l i)/\psI a y.k y.l/\a.g.length-y.k<m:=λm x ⟨b1,b2,b3⟩=>⟨⟨x.k+1,x.l⟩,⟨rfl,(GJ (by omega)).symm,rfl,λ_ _=>rfl⟩,b3,by show a.g.length-(x.k+1)<m;omega⟩
 have fin:∀{l:List Int},yB a=0->l=pasK a a.g.length->sM a=l:=λ{l} h1 h2=>by unfold sM;rw[h1,h2];rfl
 refine⟨by omega,⟨λhc=>⟨⟨by omega,by omega⟩,default,?_⟩,λhc=>⟨default,?_⟩⟩,λhe=>?_,λhe=>⟨⟨0,rfl,by simpa using he,Nat.zero_le _,rfl⟩,λk ⟨k1,k2,k3⟩=>⟨λhlt=>⟨⟨⟨by omega,by omega⟩,pre k1 (by omega),λhp=>⟨⟨by omega,by omega,by omega,by omega,by omega⟩,⟨k,[(k:Int)]⟩,⟨rfl,rfl,rfl,λi hi=>?_⟩,by show k<_;omega,rfl,k1,by show k<_;omega,?_⟩,λhp=>⟨k,rfl,by omega,rfl,k1,by omega,?_⟩⟩,cn _,co _⟩,λhge=>?_⟩,λx ⟨x1,x2,x3⟩=>⟨λhlt=>⟨⟨⟨by omega,by omega⟩,pre x1 (by omega),λhp=>⟨⟨by omega,λh=>(by cases h),?_,?_⟩,⟨x.k,x.l ++ [(x.k:Int)]⟩,⟨by simp,rfl,by simp,CGQ _ _⟩,by show x.k<_;omega,rfl,x1,by show x.k<_;omega,?_⟩,λhp=>⟨x,⟨rfl,rfl,rfl,λ_ _=>rfl⟩,by omega,rfl,x1,by omega,?_⟩⟩,cn _,co _⟩,λhge=>?_⟩⟩⟩
 ·unfold yB;rw[hc];rfl
 ·unfold yB;rw[hc];rfl
 ·rw[em (by simpa using he)];rfl
 ·rw[show i=0 by have h1:i<1:=hi;omega];rfl
 ·rw[xO,if_pos (nP hp),<-k3];rfl
 ·rw[xO,if_neg (nQ hp)];exact k3
 ·have e:sM a=[]:=fin k1 (by rw[k3,show k=a.g.length by omega])
  rw[e];exact⟨rfl,rfl,k1⟩
 ·have:=AXS a x.k;rw[<-x3] at this;omega
 ·have:=AXS a x.k;rw[<-x3] at this;omega
 ·show x.l ++ _=_;rw[xO,if_pos (nP hp),<-x3]
 ·rw[xO,if_neg (nQ hp)];exact x3
 ·have e:sM a=x.l:=fin x1 (by rw[x3,show x.k=a.g.length by omega])
  rw[e];exact⟨rfl,Nat.le_refl _,λ_ _=>rfl,x1⟩
theorem BMI:AH Try.prog AJZ (C_Passes.spec dGR):=PU C_Passes AVU [] [301] BLU (λ_=>by kernel_rfl) (λ_=>AA H8 (AA BMN (AA ADF (AA ANI AD)))) (λ(a:GR) h=>BXD a h.1 h.2.1 h.2.2) (λ_=>RR rfl rfl) _
end Go.Bal
