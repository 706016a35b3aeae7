/- Package rating: Passes, Through, At. -/
import Derived.Test.YtceloknnpdonhaaGreatRatU
import Derived.Test.YtceloknnpdonhaaGreatRT3
set_option linter.unusedVariables false
set_option linter.unusedSimpArgs false
namespace Go.Bal
open Go Go.Sym Go.Proofs
structure GR where
 g:List Gau
 r:Rtg
def dGR:List AVal->Heap->Option (GR×List (Nat×Nat)×List Nat)
 |[x,y],H=>match BLF x H,dRtg y H with
  |some (l,f),some (r,e)=>some (⟨l,r⟩,[],f ++ e)
  |_,_=>none
 |_,_=>none
def xGR(a:GR):List AVal:=[.d (KZ a.g),.d (eRtg a.r)]
def notP(a:GR)(i:Nat):Bool:=!LL (gD a.r.l (Uo a.r.b (gD a.g i).st)) (gD a.g i)
def pasK(a:GR)(n:Nat):List Int:=((List.range n).filter (notP a)).map Int.ofNat
def X7(a:GR):Int:=bif GN a.g==0 then RG a.r else GN a.g
def Y0(a:GR):List Int:=bif X7 a==0 then pasK a a.g.length else []
def C_Passes:Ctr:={ α:=GR,xs:=xGR,L:=λ_=>[],val:=λa=>.tup [.d (FE (Y0 a)),.int (X7 a)],keep:=λ_=>[],pre:=λa=>[a.g.length<1073741824/\a.r.b.length<1073741824/\a.r.l.length<1073741824] }
structure KI where
 k:Nat
 l:List Int
 deriving Inhabited
def rtgC(r:Rtg):HCell:=.live (.box [.d (FE r.b),.d (eLns r.l)])
def psS(a:GR)(v:AVal)(k:Nat):List (Nat×AVal):=[(3,.bptr 1000 0),(7,v),(19,.d (KZ a.g)),(20,.int a.g.length),(21,.int k)]
def psI(a:GR)(k:Nat)(l:List Int):Prop:=X7 a=0/\k<=a.g.length/\l=pasK a k
def ps8n(a:GR):Shape:={ α:=Nat,dflt:=0,T:=λk=>⟨psS a (.d TE) k,[(1000,rtgC a.r)]⟩,inv:=λk=>psI a k [],meas:=λk=>a.g.length-k }
def ps8o(a:GR):Shape:={ α:=KI,dflt:=default,T:=λx=>⟨psS a (.own 301 1 0 x.l.length) x.k,[(1000,rtgC a.r),(301,.live (rowI x.l))]⟩,inv:=λx=>psI a x.k x.l,meas:=λx=>a.g.length-x.k }
def DWX(a:GR)(m:Nat):Shape:={ α:=Nat,dflt:=0,T:=λk=>⟨psS a (.d TE) k,[(1000,rtgC a.r)]⟩,inv:=λk=>k<a.g.length/\a.g.length-k=m/\psI a (k+1) [],meas:=λ_=>0 }
def DNO(a:GR)(m:Nat)(f:List (Nat×Nat)):Shape:={ α:=KI,dflt:=default,T:=λx=>⟨psS a (.own 301 1 0 x.l.length) x.k,[(1000,rtgC a.r),(301,.live (rowI x.l))]⟩,inv:=λx=>x.k<a.g.length/\a.g.length-x.k=m/\psI a (x.k+1) x.l,meas:=λ_=>0,first:=f }
def ps4(a:GR):Shape:={ α:=One,dflt:=default,T:=λ_=>⟨[(0,.d (KZ a.g)),(3,.bptr 1000 0),(6,.int (X7 a))],[(1000,rtgC a.r)]⟩,inv:=λ_=>True,meas:=λ_=>0 }
def CFM(a:GR):Ann:={ ann 44 [(ALW,C_Check.spec xY),(BDV,C_CheckR.spec dRt1),(BJD,C_part.spec dIX),(AAG,BQK)] with mt:=λid=>id==11,loops:=λid=>if id=8 then some [ps8n a,ps8o a] else none,cut:=λid=>if id=4 then some [ps4 a] else none,cutIn:=λgs id=>if id=12 then some [DWX a (gs.getD 0 0),DNO a (gs.getD 0 0) [(301,12048)],DNO a (gs.getD 0 0) []] else none }
def CGN(a:GR):Prop:=BG Try.prog (CFM a) BUG (AL BUG) (xGR a) (AF []) (C_Passes.val a) [] [] [301]
abbrev Br:=GR.g
abbrev ALH:=GR.r
abbrev fY:=X7
abbrev BQV:=@Exists KI
abbrev UX:=KI.l
abbrev QR:=KI.k
abbrev CHI:=λ(f:KI->Prop)=>∀(x:KI),f x
abbrev gO a:=BE (fY a)
abbrev L9 a b:=AW a (UX b)
abbrev Ww a b:=QW (Br a) b
abbrev Rx a b:=Ww a (QR b)
abbrev wY a b c:=yI a (pasK b c)
abbrev uF a b c:=wY (UX a) b c
abbrev Lh a b:=KQ a (Br b)
abbrev bR a b:=Cd (ALH a) b
abbrev AVZ a:=Ph (ALH a)
abbrev dY a b c d:=Ot a (AVZ b) (bR c d)
abbrev aC a:=BI (AVZ a)
abbrev Tf a:=Ly (ALH a)
abbrev cU a:=GU (Tf a)
abbrev lI a:=XS (Br a)
abbrev Yo a:=BR (Br a)
abbrev cS a:=BY (Br a)
abbrev iC a:=JF (QR a)
abbrev wP a b:=VF a (Br b)
abbrev AAM a:=GI (Tf a)
abbrev Xz a b:=DI (Br a) b
abbrev Co a:=oQ (ALH a)
abbrev Ex a b(c:Nat->Ln):=Rtg.mk a (iE b c)
attribute [go_sem] Br ALH fY BQV UX QR CHI gO L9 Ww Rx wY uF Lh bR AVZ dY aC Tf cU lI Yo cS iC wP AAM Xz Co Ex
theorem CSQ(a:GR):(CGN a)=(AH (ON (CY (Br a)) (DD (Br a)) (OE (Br a))) (Fw (GA (Mi (BU (Br a)))) (BB (AW (Co a) (Tf a)) (AS (Co a) (Tf a)) (AR (Xq (ALH a) (λi=>bR a i)) (AVZ a)) (AK (λi=>JG i (Xq (ALH a) (λj=>bR a j)) (Xh (ALH a) (λj=>bR a j) i) (bR a i))) (HP (Co a)) (BD (Xq (ALH a) (λi=>bR a i)))) (ZY (λi=>HG (cS a) (Yo a) (RY (AO (fY a) (ACP (Ex (Co a) (ALH a) (λj=>bR a j)))) (cU a) (AAM a) (aC a) (λj=>dY j a a j)) FI)) (ZY (λi=>HG (cS a) (Yo a) (RY (AO (fY a) (Mi (BU (Br a)))) (cU a) (AAM a) (aC a) (λj=>dY j a a j)) FI))) (Ip (λi=>EC FI (PK (fY a)) (Um (Sq (Y0 a)) (AI (fY a))) (AH (LA (λj=>NO AQ (DC BK (cS a) (Yo a) (lI a) (BS j) (cU a) (AAM a) (aC a) (λk=>dY k a a k)) (cQ (fY a) (Lh j a) (wY qW a j)))) (AK (λj=>CX (cQ (fY a) (Lh j a) (wY qW a j)) j (HV (Br a)) (HG (Cm j (Br a)) (AH (AW (Co a) (Tf a)) (AS (Co a) (Tf a)) (AP (AI (Xz a j)) (And (HP (Co a)) (Dc DX (Co a))) (DU (Uo (Co a) (Xz a j)) (AVZ a)) (LJ (bR a (Uo (Co a) (Xz a j)))) (BC (Xz a j)) (HN (Xz a j)) (BC (DZ (Br a) j)) (DJ (DZ (Br a) j) (DY (Br a) j)) (DJ (DY (Br a) j) 200000))) (Fw (not (ACN (bR a (Uo (Co a) (Xz a j))) (Br a) j)) (gZ (El (LD 0)) 1 8) (BQV (λk=>BB (Yp (mO (UX k)) (cS a) (KE (Yo a) (lI a) (CN (QR k) j) (cU a) (λl=>MC l (Tf a)) (aC a) (λl=>dY l a a l) (mO (UX k)) (AK (λl=>OB l (UX k) (AU j))))) (wP (QR k) a) (AR (Rx a k) (Ww a j)) (gO a) (Lh (iC k) a) (uF k a (iC k)))) (LA (λk=>BB (ZH (DC BK (cS a) (Yo a) (lI a) (CN k j) (cU a) (AAM a) (aC a) (λl=>dY l a a l))) (wP k a) (AR (Ww a k) (Ww a j)) (gO a) (Lh (JF k) a) (wY qW a (JF k))))) (It (AK (λk=>BO (AJ (wP k a) (AR (Ww a k) (Ww a j)) (gO a) (Lh (JF k) a) (wY qW a (JF k))) (LA (λl=>CK (ZH (DC BK (cS a) (Yo a) (lI a) (AV l k) (cU a) (AAM a) (aC a) (λm=>dY m a a m))) (cQ (fY a) (Lh l a) (wY qW a l)) (Ww a l) (Ww a j))))) (CHI (λk=>BO (AJ (wP (QR k) a) (AR (Rx a k) (Ww a j)) (gO a) (Lh (iC k) a) (uF k a (iC k))) (BQV (λl=>CK (Yp (L9 (UX l) k) (cS a) (KE (Yo a) (lI a) (AV (QR l) (QR k)) (cU a) (λm=>MC m (Tf a)) (aC a) (λm=>dY m a a m) (L9 (UX l) k) (AS (UX l) (UX k)))) (cQ (fY a) (Lh (QR l) a) (uF l a (QR l))) (Rx a l) (Ww a j))))))) (Um (Sq (Y0 a)) (gO a)))) (CHI (λj=>CX (cQ (fY a) (Lh (QR j) a) (uF j a (QR j))) (QR j) (HV (Br a)) (HG (Cm (QR j) (Br a)) (AH (AW (Co a) (Tf a)) (AS (Co a) (Tf a)) (AP (AI (Xz a (QR j))) (And (HP (Co a)) (Dc DX (Co a))) (DU (Uo (Co a) (Xz a (QR j))) (AVZ a)) (LJ (bR a (Uo (Co a) (Xz a (QR j))))) (BC (Xz a (QR j))) (HN (Xz a (QR j))) (BC (DZ (Br a) (QR j))) (DJ (DZ (Br a) (QR j)) (DY (Br a) (QR j))) (DJ (DY (Br a) (QR j)) 200000))) (Fw (not (ACN (bR a (Uo (Co a) (Xz a (QR j)))) (Br a) (QR j))) (Do (And (GU (UX j)) (EZ 0 (UX j) (BI 1))) 1 (RV (Dq (UX j))) (Dq (UX j)) 8) (BQV (λk=>BB (Yp (Jq (UX k) (Dq (UX j))) (cS a) (KE (Yo a) (lI a) (CN (QR k) (QR j)) (cU a) (λl=>MC l (Tf a)) (aC a) (λl=>dY l a a l) (Jq (UX k) (Dq (UX j))) (AK (λl=>OB l (UX k) (GJ l (BN (UX j)) (BJ (UX j) l) (AU (QR j))))))) (wP (QR k) a) (AR (Rx a k) (Rx a j)) (gO a) (Lh (iC k) a) (uF k a (iC k)))) (BQV (λk=>BB (Yp (L9 (UX k) j) (cS a) (KE (Yo a) (lI a) (CN (QR k) (QR j)) (cU a) (λl=>MC l (Tf a)) (aC a) (λl=>dY l a a l) (L9 (UX k) j) (AS (UX k) (UX j)))) (wP (QR k) a) (AR (Rx a k) (Rx a j)) (gO a) (Lh (iC k) a) (uF k a (iC k))))) (It (AK (λk=>BO (AJ (wP k a) (AR (Ww a k) (Rx a j)) (gO a) (Lh (JF k) a) (wY qW a (JF k))) (LA (λl=>CK (ZH (DC BK (cS a) (Yo a) (lI a) (AV l k) (cU a) (AAM a) (aC a) (λm=>dY m a a m))) (cQ (fY a) (Lh l a) (wY qW a l)) (Ww a l) (Rx a j))))) (CHI (λk=>BO (AJ (wP (QR k) a) (AR (Rx a k) (Rx a j)) (gO a) (Lh (iC k) a) (uF k a (iC k))) (BQV (λl=>CK (Yp (L9 (UX l) k) (cS a) (KE (Yo a) (lI a) (AV (QR l) (QR k)) (cU a) (λm=>MC m (Tf a)) (aC a) (λm=>dY m a a m) (L9 (UX l) k) (AS (UX l) (UX k)))) (cQ (fY a) (Lh (QR l) a) (uF l a (QR l))) (Rx a l) (Rx a j))))))) (AY (L9 (Y0 a) j) (JU (BP (BN (UX j))) (UX j)) (AK (λk=>FG k (Y0 a) (UX j) (BP k))) (gO a)))))))):=by kernel_rfl
structure RtI where
 r:Rtg
 t:Int
def okRt(r:Rtg):Prop:=asc r.b/\r.l.length=r.b.length+1/\(∀x∈r.l,RF x)/\r.b.length<=24
def dRtI:List AVal->Heap->Option (RtI×List (Nat×Nat)×List Nat)
 |[x,.d t],H=>match dRtg x H with
  |some (r,f)=>some (⟨r,EO t⟩,[],f)
  |none=>none
 |_,_=>none
def atF(a:RtI):Rt:=OT (gD a.r.l (Uo a.r.b a.t)) a.t
def C_flowR:Ctr:={ α:=RtI,xs:=λa=>[.d (eRtg a.r),.int a.t],L:=λ_=>[],val:=λa=>.d (eRt (atF a)),keep:=λ_=>[],pre:=λa=>[okRt a.r/\0<=a.t/\a.t<=2000] }
def CNB:Ann:=ann 15 [(BJD,C_part.spec dIX),(BEE,BNO)]
def CNM(a:RtI):Prop:=BG Try.prog CNB BXS (AL BXS) (C_flowR.xs a) (AF []) (C_flowR.val a) [] [] []
abbrev Le:=RtI.r
abbrev Pk:=RtI.t
abbrev YU a b:=Cd (Le a) b
abbrev OM a:=oQ (Le a)
abbrev iF a:=Ly (Le a)
attribute [go_sem] Le Pk YU OM iF
theorem CWQ(a:RtI):(CNM a)=(AH (EP (AW (OM a) (iF a)) (AS (OM a) (iF a)) (Pk a) (Nq (And (HP (OM a)) (Dc DX (OM a))) (DU (Uo (OM a) (Pk a)) (Ph (Le a))) (LJ (YU a (Uo (OM a) (Pk a)))) (Pk a) 2000)) (AO (GE (atF a)) (GE (tU (YU a (Uo (OM a) (Pk a))) (Pk a)))) (Sm (atF a) (IG (tU (YU a (Uo (OM a) (Pk a))) (Pk a))))):=by kernel_rfl
def dAR:List AVal->Heap->Option (RtI×List (Nat×Nat)×List Nat)
 |[.d (.iface 39 (.agg [.list _ n f _,.list _ m g _])),.d t],_=>some (⟨⟨KA n λi=>EO (f i),KA m λi=>dLn (g i)⟩,EO t⟩,[],[])
 |_,_=>none
def C_askR:Ctr:={ C_flowR with xs:=λ(a:RtI)=>[.d (.iface 39 (eRtg a.r)),.int a.t] }
def CYW(a:RtI):Prop:=BG Try.prog (ann 8 [(BMP,C_flowR.spec dRtI)]) BDU (AL BDU) (C_askR.xs a) (AF []) (C_askR.val a) [] [] []
abbrev ABP:=RtI.mk
abbrev gQ a b:=Xq (Le a) (λi=>YU b i)
attribute [go_sem] ABP gQ
theorem DFZ(a:RtI):(CYW a)=(AH (Gu (AW (OM a) (iF a)) (AS (OM a) (iF a)) (gQ a a) (Ph (Le a)) (Nq (AK (λi=>JG i (gQ a a) (Xh (Le a) (λj=>YU a j) i) (YU a i))) (AI (Pk a)) (AY (Dc DX (OM a)) (AR (gQ a a) (Dq (OM a))) (BBI (λi=>iO i (iE (Le a) (λj=>YU a j)) (LJ i))) (Mw (OM a))) (Pk a) 2000)) (AO (GE (atF a)) (GE (atF (ABP (Ex (OM a) (Le a) (λi=>YU a i)) (Pk a))))) (Sm (atF a) (IG (atF (ABP (Ex (OM a) (Le a) (λi=>YU a i)) (Pk a)))))):=by kernel_rfl
def atE(a:RtI):Int:=bif RG a.r==0 then (bif Sx a.t 0 2000 then 0 else 4) else RG a.r
def atM(a:RtI):Rt:=bif atE a==0 then atF a else⟨0,0⟩
def C_At:Ctr:={ α:=RtI,xs:=λa=>[.d (eRtg a.r),.int a.t],L:=λ_=>[],val:=λa=>.tup [.d (eRt (atM a)),.int (atE a)],keep:=λ_=>[],pre:=λa=>[a.r.b.length<1073741824/\a.r.l.length<1073741824] }
def A_At:Ann:=ann 21 [(BDV,C_CheckR.spec dRt1),(n_in,s_in),(AMO,C_askR.spec dAR)]
def V_At(a:RtI):Prop:=BG Try.prog A_At F_At (AL F_At) (C_At.xs a) (AF []) (C_At.val a) [] [] []
theorem DXV(a:RtI):(V_At a)=(RA (BB (AW (OM a) (iF a)) (AS (OM a) (iF a)) (AR (gQ a a) (Ph (Le a))) (AK (λi=>JG i (gQ a a) (Xh (Le a) (λj=>YU a j) i) (YU a i))) (HP (OM a)) (BD (gQ a a))) (ACP (Ex (OM a) (Le a) (λi=>YU a i))) (HC (GE (atM a)) 0 (IG (atM a)) 0 (atE a) (ACP (Ex (OM a) (Le a) (λi=>YU a i)))) (DV (not (RD (Pk a) 2000)) (HC (GE (atM a)) 0 (IG (atM a)) 0 (atE a) 4) (And (Gu (AW (OM a) (iF a)) (AS (OM a) (iF a)) (gQ a a) (Ph (Le a)) (Nq (AK (λi=>JG i (gQ a a) (Xh (Le a) (λj=>YU a j) i) (YU a i))) (AI (Pk a)) (AY (Dc DX (OM a)) (AR (gQ a a) (Dq (OM a))) (BBI (λi=>iO i (iE (Le a) (λj=>YU a j)) (LJ i))) (Mw (OM a))) (Pk a) 2000)) (HC (GE (atM a)) (GE (atF (ABP (Ex (OM a) (Le a) (λi=>YU a i)) (Pk a)))) (IG (atM a)) (IG (atF (ABP (Ex (OM a) (Le a) (λi=>YU a i)) (Pk a)))) (atE a) 0)))):=by kernel_rfl
theorem BVW{r:Rtg}(h:RG r=0):okRt r/\∀x∈r.b,1<=x/\x<=2000:=by
 unfold RG at h
 cases hb:Cb r.b != 0 with
 |true=>rw[hb] at h;have h:Cb r.b=0:=h;rw[h] at hb;cases hb
 |false=>
  rw[hb] at h
  have hb0:Cb r.b=0:=by simpa using hb
  cases hl:(r.l.length:Int) != (r.b.length:Int)+1 with
  |true=>rw[hl] at h;cases h
  |false=>
   rw[hl] at h
   cases hr:r.l.all eM with
   |false=>rw[hr] at h;cases h
   |true=>
    have hl0:(r.l.length:Int)=(r.b.length:Int)+1:=by simpa using hl
    unfold Cb at hb0
    split at hb0
    ·cases hb0
    ·obtain⟨h5,h6⟩:=CIA _ 0 (by omega) hb0
     exact⟨⟨h5,by omega,λx hx=>gS.1 (List.all_eq_true.1 hr x hx),by omega⟩,λx hx=>by have:=h6 x hx;omega⟩
theorem AMF{a:GR}{k:Nat}:pasK a (k+1)=if notP a k=true then pasK a k ++ [(k:Int)] else pasK a k:=by
 unfold pasK
 rw[List.range_succ,List.filter_append,List.map_append]
 by_cases h:notP a k=true
 ·rw[if_pos h,List.filter_cons_of_pos h];rfl
 ·rw[if_neg h,List.filter_cons_of_neg h];simp
theorem CHL(a:GR)(k:Nat):(pasK a k).length<=k:=by
 unfold pasK;rw[List.length_map]
 exact Nat.le_trans (List.length_filter_le _ _) (by simp)
theorem CVY(a:GR)(h1:a.g.length<1073741824)(h2:a.r.b.length<1073741824)(h3:a.r.l.length<1073741824):CGN a:=by
 rw[CSQ]<;> delta JB Oz NE AR AK BO CI AO AU EA DV JD DJ DX OP IS LA FI Cu QJ SG Gi Pg BN BJ JN ZY Ip Me tC EY GW FC GF GD HB tR CW FX JY NK Mi Ly ACP Dc qW yI Br ALH fY BQV UX QR CHI AH LY NX LX NY AJ AZ EV AI DG It BU BI FJ Um DK AP DI DY BZ ED BC DZ EZ DN GQ Cd JA JF HE ID HC EU AW QL Dh HY AQ BP GT YB GY HL UW GU AY Ph CG oQ GV IA Gk Dq BY BB CK JZ HV KC VQ bR BD DR iE HN CE FG OB EN KJ GH OH QW Mm Ce EC AV AS BK Rv ES GC KQ FF MC GM HO BE VF FW BR CN GJ GI CR CX Ji AT DC XS ZI Bo UQ Co BS Xh DD CY QE DU Xl Tf HG OE Ov RY Jr HP MK AVZ Ot Ha JU LD Ww Xq GA U2 cQ Xz PK Aq Jq Ht NO RV Fp Je El Hf KE JG VS Lh Ir ON wY Ex ACN Rx LJ Cm Yo cU aC ZH cS gO iC lI dY Fw Sq wP Do gZ uF L9 AAM mO Yp;simp only[CC,eq_self,implies_true,forall_const]
 have em:¬X7 a=0->Y0 a=[]:=λh=>by unfold Y0;rw[show (X7 a==0)=false by simpa using h];rfl
 have facts:X7 a=0->GN a.g=0/\okRt a.r:=λh=>by
  unfold X7 at h
  cases hc:GN a.g==0 with
  |false=>rw[hc] at h;have h:GN a.g=0:=h;rw[h] at hc;cases hc
  |true=>rw[hc] at h;exact⟨by simpa using hc,(BVW h).1⟩
 have pre:∀{k:Nat},X7 a=0->k<a.g.length->((a.r.b.length<4611686018427387904/\asc a.r.b)/\(0<=((Uo a.r.b (gD a.g k).st:Nat):Int)/\((Uo a.r.b (gD a.g k).st:Nat):Int)<a.r.l.length)/\RF (gD a.r.l (Uo a.r.b (gD a.g k).st))/\Oy (gD a.g k)):=λ{k} h hk=>by
  obtain⟨f1,f2,f3,f4,f5⟩:=facts h
  have hle:Uo a.r.b (gD a.g k).st<=a.r.b.length:=List.countP_le_length
  exact⟨⟨by omega,f2⟩,⟨by omega,by omega⟩,f4 _ (HI (by omega)),(eY f1).2 _ (HI hk)⟩
 have nP:∀{k:Nat},LL (gD a.r.l (Uo a.r.b (gD a.g k).st)) (gD a.g k)=false->notP a k=true:=λ{k} h=>by unfold notP;rw[h];rfl
 have nQ:∀{k:Nat},LL (gD a.r.l (Uo a.r.b (gD a.g k).st)) (gD a.g k)=true->¬notP a k=true:=λ{k} h=>by unfold notP;rw[h];simp
 have cn:∀(m i:Nat),i<a.g.length/\a.g.length-i=m/\psI a (i+1) []->∃j:Nat,(j:Int)=IntKind.i64.wrap ((i:Int)+1)/\psI a j []/\a.g.length-j<m:=λm i ⟨b1,b2,b3⟩=>⟨i+1,(FN (by omega)).symm,b3,by omega⟩
 have co:∀(m:Nat) (x:KI),x.k<a.g.length/\a.g.length-x.k=m/\psI a (x.k+1) x.l->∃y:KI,(y.l.length=x.l.length/\(y.k:Int)=IntKind.i64.wrap ((x.k:Int)+1)/\y.l.length=x.l.length/\∀i,i<y.l.length->gD y.l i=gD x.l i)/\psI a y.k y.l/\a.g.length-y.k<m:=λm x ⟨b1,b2,b3⟩=>⟨⟨x.k+1,x.l⟩,⟨rfl,(FN (by omega)).symm,rfl,λ_ _=>rfl⟩,b3,by show a.g.length-(x.k+1)<m;omega⟩
 have fin:∀{l:List Int},X7 a=0->l=pasK a a.g.length->Y0 a=l:=λ{l} h1 h2=>by unfold Y0;rw[h1,h2];rfl
 refine⟨by omega,⟨λhc=>⟨⟨by omega,by omega⟩,default,?_⟩,λhc=>⟨default,?_⟩⟩,λhe=>?_,λhe=>⟨⟨0,rfl,by simpa using he,Nat.zero_le _,rfl⟩,λk ⟨k1,k2,k3⟩=>⟨λhlt=>⟨⟨⟨by omega,by omega⟩,pre k1 (by omega),λhp=>⟨⟨by omega,by omega,by omega,by omega,by omega⟩,⟨k,[(k:Int)]⟩,⟨rfl,rfl,rfl,λi hi=>?_⟩,by show k<_;omega,rfl,k1,by show k<_;omega,?_⟩,λhp=>⟨k,rfl,by omega,rfl,k1,by omega,?_⟩⟩,cn _,co _⟩,λhge=>?_⟩,λx ⟨x1,x2,x3⟩=>⟨λhlt=>⟨⟨⟨by omega,by omega⟩,pre x1 (by omega),λhp=>⟨⟨by omega,λh=>(by cases h),?_,?_⟩,⟨x.k,x.l ++ [(x.k:Int)]⟩,⟨by simp,rfl,by simp,CWA _ _⟩,by show x.k<_;omega,rfl,x1,by show x.k<_;omega,?_⟩,λhp=>⟨x,⟨rfl,rfl,rfl,λ_ _=>rfl⟩,by omega,rfl,x1,by omega,?_⟩⟩,cn _,co _⟩,λhge=>?_⟩⟩⟩
 ·unfold X7;rw[hc];rfl
 ·unfold X7;rw[hc];rfl
 ·rw[em (by simpa using he)];rfl
 ·rw[show i=0 by have h1:i<1:=hi;omega];rfl
 ·rw[AMF,if_pos (nP hp),<-k3];rfl
 ·rw[AMF,if_neg (nQ hp)];exact k3
 ·have e:Y0 a=[]:=fin k1 (by rw[k3,show k=a.g.length by omega])
  rw[e];exact⟨rfl,rfl,k1⟩
 ·have:=CHL a x.k;rw[<-x3] at this;omega
 ·have:=CHL a x.k;rw[<-x3] at this;omega
 ·show x.l ++ _=_;rw[AMF,if_pos (nP hp),<-x3]
 ·rw[AMF,if_neg (nQ hp)];exact x3
 ·have e:Y0 a=x.l:=fin x1 (by rw[x3,show x.k=a.g.length by omega])
  rw[e];exact⟨rfl,Nat.le_refl _,λ_ _=>rfl,x1⟩
theorem CTR:AM Try.prog BTN (C_Passes.spec dGR):=WY C_Passes CFM [] [301] CRS (λ_=>by kernel_rfl) (λ_=>AB AGW (AB BXE (AB BBY (AB BUZ AG)))) (λ(a:GR) h=>CVY a h.1 h.2.1 h.2.2) (λ_=>YE rfl rfl) _
theorem CZA:AM Try.prog BMP (C_flowR.spec dRtI):=WY C_flowR (λ_=>CNB) [] [] DEC (λ_=>by kernel_rfl) (λ_=>AB BBY (AB CHO AG)) (λ(a:RtI) h=>by
 show CNM a;rw[CWQ]<;> delta AR AK BO CI AO AU DJ DX BN BJ JN FC GF GD HB GE IG tU JY NK Ly Dc Le Pk AH LY LX AJ AZ AI DG BC EZ Cd JA HE EU AW YB HL Ph oQ IA KC BD HN CE FG EN AS ES YU Nq OM EP QE DU HP LJ iF Sm;simp only[CC,eq_self,implies_true,forall_const]
 obtain⟨⟨h1,h2,h3,h4⟩,h5⟩:okRt a.r/\0<=a.t/\a.t<=2000:=h
 have hle:Uo a.r.b a.t<=a.r.b.length:=List.countP_le_length
 exact⟨⟨⟨by omega,h1⟩,⟨by omega,by omega⟩,h3 _ (HI (by omega)),h5⟩,rfl,rfl⟩) (λ_=>YE rfl rfl) _
theorem DGI:AM Try.prog AMO (C_askR.spec dAR):=WY C_askR (λ_=>ann 8 [(BMP,C_flowR.spec dRtI)]) [] [] CGT (λ_=>by kernel_rfl) (λ_=>AB CZA AG) (λ(a:RtI) h=>by
 show CYW a;rw[DFZ]<;> delta AR AK BO CI AO EA DJ DX SG BN BJ JN FC GF GD HB GE IG JY NK Ly Dc BBI Le Pk ABP AH LY LX AJ AZ AI DG BZ BC EZ DN Cd JA JF ID HC EU AW YB HL AY Ph oQ IA Dq JZ KC iE HN FG EN AS YU Nq Oc OM Xh QE iO Ha Xq Aq Mw JG Ex LJ Gu iF gQ Sm;simp only[CC,eq_self,implies_true,forall_const]
 exact h) (λ_=>YE rfl rfl) _
theorem DXF:AM Try.prog n_At (C_At.spec dRtI):=WY C_At (λ_=>A_At) [] [] DYL (λ_=>by kernel_rfl) (λ_=>AB BXE (AB X3 (AB DGI AG))) (λ(a:RtI) h=>by
 show V_At a;rw[DXV]<;> delta AR AK BO CI AO EA DV DJ DX SG Gi BN BJ JN FC GF GD HB GE IG JY NK Ly ACP Dc BBI Le Pk ABP AH LY LX AJ AZ AI DG BZ BC EZ DN Cd JA JF ID HC EU AW YB HL AY Ph oQ IA Dq BB JZ KC BD iE HN FG EN AS BF YU Nq Oc OM Xh QE iO HP Ha Xq RD PK Aq Mw JG Ex LJ RA Gu iF gQ;simp only[CC,eq_self,implies_true,forall_const]
 obtain⟨h1,h2⟩:a.r.b.length<1073741824/\a.r.l.length<1073741824:=h
 refine⟨⟨by omega,by omega⟩,λhc=>?_,λhc=>?_⟩
 ·have e0:(RG a.r==0)=false:=by simpa using hc
  have e:atE a=RG a.r:=by unfold atE;rw[e0];rfl
  have e2:atM a=⟨0,0⟩:=by unfold atM;rw[e,e0];rfl
  rw[e2];exact⟨rfl,rfl,e⟩
 ·have e1:RG a.r=0:=by simpa using hc
  have e0:(RG a.r==0)=true:=by simpa using hc
  refine⟨λhi=>?_,λhi=>?_⟩
  ·have e:atE a=4:=by unfold atE;rw[e0,hi];rfl
   have e2:atM a=⟨0,0⟩:=by unfold atM;rw[e];rfl
   rw[e2];exact⟨rfl,rfl,e⟩
  ·have e:atE a=0:=by unfold atE;rw[e0,hi];rfl
   have e2:atM a=atF a:=by unfold atM;rw[e];rfl
   have ht:0<=a.t/\a.t<=2000:=by unfold Sx at hi;simpa using hi
   rw[e2];exact⟨⟨(BVW e1).1,ht⟩,rfl,rfl,e⟩) (λ_=>YE rfl rfl) _
end Go.Bal
