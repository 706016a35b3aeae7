/- Law RatingFlows: its walk. -/
import Derived.Test.YtpidmmilfdcepaaGreatRFl4
set_option linter.unusedVariables false
set_option linter.unusedSimpArgs false
namespace Go.Bal
open Go Go.Sym Go.Proofs
structure FlA where
 l:List Gau
 b:List Int
 s:Int
 q:Int
 f:Int
 t:Int
 u:Bool
def xFl(a:FlA):List AVal:=[.d (AT a.l),.d (AZ a.b),.int a.s,.int a.q,.int a.f,.int a.t,.bool a.u]
def A_Fl:Ann:=ann 207 [(11,ADK),(12,C_cdG.spec NU),(13,C_cdI.spec dIs1),(15,C_Gaus.spec NU),(39,C_Flow.spec G7),(40,C_rFlow.spec G7),(41,C_Reach.spec dGBu),(20,AKF),(42,C_rRch.spec dRcA),(43,C_Stages.spec dGBf),(44,C_rStg.spec dGBf),(45,C_Dry.spec dGB),(46,C_rDry.spec dGB),(47,C_Wid.spec dGBw),(48,C_Wid.spec dGBw),(25,C_smI.spec dIs2),(26,C_smG.spec dGs2)]
def V_Fl(a:FlA):Prop:=AS ZP A_Fl Tryz.f7 (AE Tryz.f7) (xFl a) (AB []) (.bool true) [] [] []
abbrev BJL(a:FlA):List Gau:=HA a.l.length λ(i:Nat)=>gD a.l i
abbrev AFI(a:FlA):Nat:=(BJL a).length
abbrev BIQ(a:FlA):Prop:=AFI a=a.l.length
abbrev ALR(a:FlA)(i:Nat):Gau:=gD (BJL a) i
abbrev BMV(a:FlA)(i:Nat):Int:=(ALR a i).st
abbrev BIX(a:FlA)(i:Nat):Int:=(ALR a i).lo
abbrev BKY(a:FlA)(i:Nat):Int:=(ALR a i).hi
abbrev BKE(a:FlA):Prop:=∀(i:Nat),i<AFI a->BMV a i=(gD a.l i).st/\BIX a i=(gD a.l i).lo/\BKY a i=(gD a.l i).hi
abbrev BMB(a:FlA):Prop:=AFI a<1073741824/\True
abbrev AMX(a:FlA):List Int:=HA a.b.length λ(i:Nat)=>gD a.b i
abbrev D0(a:FlA):Nat:=(AMX a).length
abbrev bU(a:FlA):Prop:=D0 a=a.b.length
abbrev AJF(a:FlA)(i:Nat):Int:=gD (AMX a) i
abbrev cN(a:FlA):Prop:=∀(i:Nat),i<D0 a->AJF a i=gD a.b i
abbrev AXN(a:FlA):Prop:=D0 a<1073741824
abbrev rS(a:FlA):List Gau:=HA (AFI a) λ(i:Nat)=>ALR a i
abbrev D3(a:FlA):Nat:=(rS a).length
abbrev YP(a:FlA):Prop:=D3 a=AFI a
abbrev AZL(i:Nat)(a:FlA):Prop:=i<D3 a
abbrev AJE(a:FlA)(i:Nat):Gau:=gD (rS a) i
abbrev AVR(a:FlA)(i:Nat):Int:=(AJE a i).st
abbrev AVU(a:FlA)(i:Nat):Int:=(AJE a i).lo
abbrev AZA(a:FlA)(i:Nat):Int:=(AJE a i).hi
abbrev YY(a:FlA):Prop:=∀(i:Nat),AZL i a->AVR a i=BMV a i/\AVU a i=BIX a i/\AZA a i=BKY a i
abbrev AAR(a:FlA):List Int:=HA (D0 a) λ(i:Nat)=>AJF a i
abbrev E8(a:FlA):Nat:=(AAR a).length
abbrev bW(a:FlA):Prop:=E8 a=D0 a
abbrev AWV(i:Nat)(a:FlA):Prop:=i<E8 a
abbrev AYW(a:FlA)(i:Nat):Int:=gD (AAR a) i
abbrev bK(a:FlA):Prop:=∀(i:Nat),AWV i a->AYW a i=AJF a i
abbrev ADH(a:FlA):Prop:=(D3 a<4611686018427387904/\E8 a<4611686018427387904)/\True
abbrev AJN(a:FlA):Prop:=D3 a<1073741824
abbrev kF(a:FlA):Prop:=AJN a/\AXN a
abbrev AKC(a:FlA):GBt:=GBt.mk (rS a) (AAR a) a.s
abbrev AKI(a:FlA):Int:=EW (AKC a)
abbrev AJC(a:FlA):GBt:=GBt.mk (rS a) (AMX a) a.s
abbrev AVT(a:FlA):Int:=EW (AJC a)
abbrev AWZ(a:FlA):Bool:=AKI a != AVT a
abbrev BBD(a:FlA):Bnd:=KN (AKC a)
abbrev AZX(a:FlA):Rt:=(BBD a).lo
abbrev AYB(a:FlA):Bnd:=KN (AJC a)
abbrev AKR(a:FlA):Rt:=(AYB a).lo
abbrev AUR(a:FlA):Rt:=(BBD a).hi
abbrev AJQ(a:FlA):Rt:=(AYB a).hi
abbrev bX(a:FlA):Ln:=Qg (GBu.mk (AKC a) a.u)
abbrev E4(a:FlA):Int:=(bX a).a0
abbrev A4(a:FlA):Int:=(bX a).a1
abbrev B8(a:FlA):Int:=(bX a).b0
abbrev D1(a:FlA):Int:=(bX a).b1
abbrev BBB(a:FlA):Bool:=bif AWZ a then true else bif AKI a != 0 then !(E4 a==0&&(A4 a==0&&true)&&(B8 a==0&&(D1 a==0&&true)&&true)) else false
abbrev BAB(a:FlA):Bool:=AKI a==0
abbrev AAJ(a:FlA):GB:=GB.mk (rS a) (AAR a)
abbrev AWT(a:FlA):Span×Int:=LU (GBf.mk (AAJ a) a.q)
abbrev AAT(a:FlA):GB:=GB.mk (rS a) (AMX a)
abbrev AXG(a:FlA):Span×Int:=LU (GBf.mk (AAT a) a.q)
abbrev AVP(a:FlA):Span:=(AWT a).fst
abbrev AVX(a:FlA):Span:=(AXG a).fst
abbrev AZW(a:FlA):Span×Int:=Du (AAJ a)
abbrev AWE(a:FlA):Span×Int:=Du (AAT a)
abbrev AXI(a:FlA):Span:=(AZW a).fst
abbrev BBF(a:FlA):Span:=(AWE a).fst
abbrev BAS(a:FlA):Int:=IntKind.i64.wrap (a.t-a.f)
abbrev ABA(a:FlA):Int:=IntKind.i64.wrap (a.f+29)
abbrev BCL(a:FlA):Prop:=ABA a=ABA a
abbrev AVJ(a:FlA):Prop:=E8 a<1073741824
abbrev AZP(a:FlA):Prop:=AJN a/\AVJ a
abbrev AZD(a:FlA):Int×Int:=wdM (GBw.mk (AAJ a) a.f (ABA a))
abbrev BBA(a:FlA):Int×Int:=wdM (GBw.mk (AAT a) a.f (ABA a))
abbrev AVN(a:FlA):Bool:=bif (AZD a).snd==(BBA a).snd then (AZD a).fst==(BBA a).fst else false
abbrev AUN(a:FlA):Prop:=YP a/\YY a/\D3 a=a.l.length/\(∀(i:Nat),AZL i a->AVR a i=(gD a.l i).st/\AVU a i=(gD a.l i).lo/\AZA a i=(gD a.l i).hi)/\AJN a/\True
abbrev BAI(a:FlA):Bool:=bif AVN a then true else false
abbrev BBK(a:FlA):Prop:=bW a/\bK a/\E8 a=a.b.length/\(∀(i:Nat),AWV i a->AYW a i=gD a.b i)/\AVJ a/\True
abbrev AVM(a:FlA):Int×Int:=wdM (GBw.mk (AAJ a) a.f a.t)
abbrev BAY(a:FlA):Int×Int:=wdM (GBw.mk (AAT a) a.f a.t)
abbrev BBN(a:FlA):Bool:=bif (AVM a).snd==(BAY a).snd then (AVM a).fst==(BAY a).fst else false
abbrev BBS(a:FlA):Bool:=bif BBN a then true else false
theorem DAT(a:FlA):(V_Fl a)=(bif bif bif bif decide ((↑a.l.length:Int)>10) then decide ((↑a.l.length:Int)<24) else false then true else decide ((↑a.l.length:Int)>26) then true else decide
 ((↑a.b.length:Int)>27) then true=true else (BIQ a/\BKE a/\BMB a/\bU a/\cN a/\AXN a/\True)/\(BIQ a/\BKE a/\BMB a)/\(YP a/\YY a/\bW a/\bK a/\a.s=a.s
 /\ ADH a)/\(YP a/\YY a/\bU a/\cN a/\a.s=a.s/\kF a)/\bif bif AWZ a then true else !((AZX a).n==(AKR a).n&&((AZX a).d==(AKR a).d&&true)&&((AUR a).n ==
 (AJQ a).n&&((AUR a).d==(AJQ a).d&&true)&&true)) then true=false else (YP a/\YY a/\bW a/\bK a/\a.s=a.s/\a.u=a.u/\ADH a)/\((!BBB a&&BAB a)=true->YP
 a/\YY a/\bU a/\cN a/\a.s=a.s/\a.u=a.u/\E4 a=E4 a/\A4 a=A4 a/\B8 a=B8 a/\D1 a=D1 a/\kF a/\AVT a=0/\(0<=E4 a/\E4 a <
 B8 a/\B8 a<=2000/\0<=A4 a/\A4 a<=D1 a/\D1 a<=200000)/\(∀(g:Gau),List.Mem g (rcS (RcA.mk (AJC a) a.u (bX a)))->NJ (bX a) g=true)/\Cf (Ct (bX a)
 a.s)=bif a.u then AJQ a else AKR a)/\bif bif BBB a then true else bif BAB a then !true else false then true=false else (YP a/\YY a/\bW a/\bK a/\a.q=a.q/\ADH a) /\
 (YP a/\YY a/\bU a/\cN a/\a.q=a.q/\kF a)/\bif bif (AWT a).snd != (AXG a).snd then true else !((AVP a).lo==(AVX a).lo&&((AVP a).hi==(AVX a).hi&&true)) then
 true=false else (YP a/\YY a/\bW a/\bK a/\ADH a)/\(YP a/\YY a/\bU a/\cN a/\kF a)/\bif bif (AZW a).snd != (AWE a).snd then true else !((AXI a).lo ==
 (BBF a).lo&&((AXI a).hi==(BBF a).hi&&true)) then true=false else bif bif bif bif decide (a.f>=0) then decide (a.t<=3000) else false then decide (BAS a>29) else false then decide (BAS a <
 200) else false then (YP a/\YY a/\bW a/\bK a/\a.f=a.f/\BCL a/\AZP a)/\(YP a/\YY a/\bU a/\cN a/\a.f=a.f/\BCL a/\kF a)/\((AVN a=true ->
 AUN a)/\(BAI a=true->BBK a))/\true=bif bif BAI a then true else false then true else false else (YP a/\YY a/\bW a/\bK a/\a.f=a.f/\a.t=a.t/\AZP a)/\(YP a /\
 YY a/\bU a/\cN a/\a.f=a.f/\a.t=a.t/\kF a)/\((BBN a=true->AUN a)/\(BBS a=true->BBK a))/\true=bif bif BBS a then true else false then true else false):=by
 kernel_rfl
theorem CFF{a:GBt}{u:Bool}(h:EW a=0):MI (Qg ⟨a,u⟩)/\(∀g∈SB a.g a.b (KB a.b a.t),NJ (Qg ⟨a,u⟩) g=true)/\Cf (Ct (Qg ⟨a,u⟩) a.t)=(bif u then (KN a).hi else (KN a).lo):=by
 obtain⟨hE,hT⟩:=BYV h
 have ho:∀g∈a.g,IT g:=Ts hE
 have ho':∀g∈CV a.g a.b (KB a.b a.t),IT g:=Bv ho
 have hne:PX (CV a.g a.b (KB a.b a.t)) a.t≠[]:=λq=>by
  unfold EW at h
  rw[hE,hT,decide_eq_true (show (lB (bkT a)).length=0 by show (PX (CV a.g a.b (KB a.b a.t)) a.t).length=0;rw[q];rfl)] at h
  cases h
 have e:Qg ⟨a,u⟩=bif u then Es jY a.t (PX (CV a.g a.b (KB a.b a.t)) a.t) else Es jX a.t (PX (CV a.g a.b (KB a.b a.t)) a.t):=by
  unfold Qg;rw[h];rfl
 have e2:KN a=RP (CV a.g a.b (KB a.b a.t)) a.t:=by unfold KN;rw[h];rfl
 have hp:∀{x:Ln},x∈PX (CV a.g a.b (KB a.b a.t)) a.t->MI x/\∀g∈SB a.g a.b (KB a.b a.t),NJ x g=true:=λ{x} hx=>by
  obtain⟨h1,h2⟩:=UT ho' hx
  exact⟨h1,λg hg=>(B5 h1).2 (h2 g (tF.1 hg))⟩
 rw[e,e2,AWP hne]
 cases u with
 |true=>
  obtain⟨h1,h2⟩:=hp (BBY (t:=a.t) (λx hx=>(UT ho' hx).1) hne).1
  exact⟨h1,h2,rfl⟩
 |false=>
  obtain⟨h1,h2⟩:=hp (AYR (t:=a.t) (λx hx=>(UT ho' hx).1) hne).1
  exact⟨h1,h2,rfl⟩
theorem p_Fl(a:FlA):V_Fl a:=by
 rw[DAT];delta BJL AFI BIQ ALR BMV BIX BKY BKE BMB AMX D0 bU AJF cN AXN rS D3 YP AZL AJE AVR AVU AZA YY AAR E8 bW AWV AYW bK ADH AJN kF AKC AKI AJC AVT AWZ BBD AZX AYB AKR AUR AJQ bX E4 A4 B8 D1 BBB BAB AAJ AWT AAT AXG AVP AVX AZW AWE AXI BBF BAS ABA BCL AVJ AZP AZD BBA AVN AUN BAI BBK AVM BAY BBN BBS;simp only[CC,CU]
 intro hb
 have hl:a.l.length<=26/\a.b.length<=27:=by
  by_cases h2:(a.l.length:Int)>26
  ·rw[decide_eq_true h2] at hb
   cases q:(bif decide ((a.l.length:Int)>10) then decide ((a.l.length:Int)<24) else false)<;>rw[q] at hb<;>cases hb
  ·by_cases h3:(a.b.length:Int)>27
   ·rw[decide_eq_true h3] at hb
    cases q:(bif bif decide ((a.l.length:Int)>10) then decide ((a.l.length:Int)<24) else false then true else decide ((a.l.length:Int)>26))<;>rw[q] at hb<;>cases hb
   ·omega
 obtain⟨l1,l2⟩:=hl
 have k1:a.l.length<1073741824:=by omega
 have k2:a.b.length<1073741824:=by omega
 have k4:a.l.length<4611686018427387904:=by omega
 have k5:a.b.length<4611686018427387904:=by omega
 have kr:=λh=>CFF (a:=⟨a.l,a.b,a.s⟩) (u:=a.u) h
 have kd:¬EW ⟨a.l,a.b,a.s⟩=0->Qg ⟨⟨a.l,a.b,a.s⟩,a.u⟩=⟨0,0,0,0⟩:=λh=>by
  unfold Qg;rw[show (EW ⟨a.l,a.b,a.s⟩==0)=false by simpa using h];rfl
 refine⟨⟨k1,k2⟩,k1,⟨k4,k5⟩,⟨k1,k2⟩,λhc=>by simp at hc,λ_=>⟨⟨k4,k5⟩,λhc=>⟨⟨k1,k2⟩,?_⟩,λhc=>?_,λ_=>⟨⟨k4,k5⟩,⟨k1,k2⟩,λhc=>by simp at hc,λ_=>⟨⟨k4,k5⟩,⟨k1,k2⟩,λhc=>by simp at hc,λ_=>?_⟩⟩⟩⟩
 ·have h0:EW ⟨a.l,a.b,a.s⟩=0:=by
   rw[Bool.and_eq_true] at hc
   exact eq_of_beq hc.2
  exact⟨h0,kr h0⟩
 ·by_cases h0:EW ⟨a.l,a.b,a.s⟩=0
  ·rw[h0] at hc;simp at hc
  ·rw[kd h0] at hc
   simp[h0] at hc
 ·simp[k1,k2]
theorem DAS(a:FlA):FnT ZP 7 (xFl a) (AB []) (.bool true) []:=WP (A:=A_Fl) (ren:=[]) (fz:=[]) Tryz.func7 (by kernel_rfl) (AA ACZ (AA BKG (AA ALF (AA AUW (AA BTP (AA AOP (AA CFJ (AA AQK (AA CLN (AA ART (AA CJL (AA BYS (AA CKV (AA CVP (AA CJP (AA BBC (AA BHL AD))))))))))))))))) (p_Fl a)
structure LnA where
 l:List Gau
 r:Rtg
 x:Ln
 s:Int
def xLn(a:LnA):List AVal:=[.d (AT a.l),.d (eRtg a.r),.d (eLn a.x),.int a.s]
def A_Ln:Ann:=ann 142 [(11,ADK),(12,C_cdG.spec NU),(13,C_cdI.spec dIs1),(8,C_cdL.spec dLs1),(9,C_Check.spec NU),(15,C_Gaus.spec NU),(14,C_rCheck.spec NU),(10,C_CheckR.spec dRt1),(17,C_modC.spec dRt1),(16,C_rChkR.spec dRt1),(18,AZI),(20,AKF),(19,AZI),(21,C_At.spec dRtI),(22,C_At.spec dRtI),(23,C_Passes.spec dGR),(24,C_Passes.spec dGR),(25,C_smI.spec dIs2),(26,C_smG.spec dGs2),(27,C_smL.spec dLs2)]
def V_Ln(a:LnA):Prop:=AS ZP A_Ln Tryz.f5 (AE Tryz.f5) (xLn a) (AB []) (.bool true) [] [] []
abbrev YT:=LnA.l
abbrev Eo:=LnA.r
abbrev ABM:=LnA.s
abbrev SC a:=rZ (Eo a)
abbrev Ny a:=Jg (SC a)
abbrev UU a:=Ce (Eo a)
abbrev ADR a b:=K4 (UU a) (Ny b)
abbrev QG a:=sC (YT a)
abbrev cS a b c:=GR.mk (QG a) (ADR b c)
abbrev Yg a:=CO (Ny a)
abbrev W8 a:=Br (Yg a)
abbrev AEQ a b:=KX (Eo a) b
abbrev xW a b:=Hf (Ny a) (SC b)
abbrev X5 a:=LV (UU a)
abbrev vJ a:=CM (UU a)
abbrev wV a:=EA (UU a)
attribute [go_sem] YT Eo ABM SC Ny UU ADR QG cS Yg W8 AEQ xW X5 vJ wV
theorem DAL(a:LnA):(V_Ln a)=(Hd (JR (NO (CH (YT a)) 27) (NO (GZ (Cm (Eo a))) 27)) (NO (IS (Eo a)) 27) UN (AO (And (AY (YT a)) (DO (BJ (YT a)) (Al (HV (YT a))) (Dq (UU a) (Eo a)) (Cq (UU a) (Eo a)) (P1 (UU a)) (Sk (SC a) (Eo a)) (λi=>Ov i (SC a) (AEQ a i)) (Br (CO (SC a))) HO)) (BD (Zf (QG a) (YT a)) (Xv (QG a) (YT a)) (Al (Fz (QG a))) (BK (AY (YT a)) (BJ (YT a)) (Al (HV (YT a))) (Zf (QG a) (YT a)) (Xv (QG a) (YT a)) (Al (KV (QG a))) (Pa (Qh (sE (QG a))) (AW (wV a) (vJ a) (xW a a) (RS (Yg a) (Ny a) (SC a)) (lF (UU a)) (Hb (Yg a)))) (Pa (Qh (sE (QG a))) (AW (Dq (UU a) (Eo a)) (Cq (UU a) (Eo a)) (Sk (SC a) (Eo a)) (AG (λi=>Ov i (SC a) (AEQ a i))) (MB (UU a)) (Br (CO (SC a))))) (Pa (Qh (sE (QG a))) (AW (wV a) (vJ a) (xW a a) (RS (Yg a) (Ny a) (SC a)) (X5 a) (W8 a))))) (Tp (Qh (sE (QG a))) (Qh (Hj (ADR a a))) (Tp (Qh (Uo (LnA.x a) (ABM a))) (not (Mm (Bf (MH (S8 (LnA.x a) (ABM a)))) (Bf (QA (S8 (LnA.x a) (ABM a)))))) (AO (CY (wV a) (vJ a) (xW a a) (RS (Yg a) (Ny a) (SC a)) (AK (ABM a)) (X5 a) (W8 a)) (BD (Dq (UU a) (Eo a)) (Cq (UU a) (Eo a)) (Sk (SC a) (Eo a)) (BK (AG (λi=>Ov i (SC a) (AEQ a i))) (dF (MB (UU a)) (CO (SC a))) (wV a) (vJ a) (xW a a) (RS (Yg a) (Ny a) (SC a)) (AK (ABM a)) (X5 a) (W8 a))) (Tp (Qh (atE (AHN (ADR a a) (ABM a)))) (not (Mm (Bf (wN (AHN (ADR a a) (ABM a)))) (Bf (vN (AHN (ADR a a) (ABM a)))))) (BD (BK (Zf (QG a) (YT a)) (Xv (QG a) (YT a)) (wV a) (vJ a) (xW a a) (RS (Yg a) (Ny a) (SC a)) (KV (QG a)) (X5 a) (W8 a)) (DO (AY (YT a)) (BJ (YT a)) (Al (HV (YT a))) (Dq (UU a) (Eo a)) (Cq (UU a) (Eo a)) (Sk (SC a) (Eo a)) (λi=>Ov i (SC a) (AEQ a i)) (dF (MB (UU a)) (CO (SC a))) (BK (Zf (QG a) (YT a)) (Xv (QG a) (YT a)) (wV a) (vJ a) (xW a a) (RS (Yg a) (Ny a) (SC a)) (KV (QG a)) (X5 a) (W8 a))) (BD (FA (Bf (cE (cS a a a))) (And (EA (Xe (cS a a a))) (ABN (CM (Xe (cS a a a))) (EA (Xe (cS a a a))) (LV (Xe (cS a a a))) HO))) (Ss (EP (Bf (cE (cS a a a))) aN) (Zf (QG a) (YT a)) (Xv (QG a) (YT a)) (HQ (QG a) (YT a)) (EK (QG a) (YT a)) (KV (QG a))) (Ss (Xm (Bf (cE (cS a a a)))) (wV a) (vJ a) (M1 (UU a) (Cm (Eo a))) (P3 (UU a) (Cm (Eo a))) (X5 a)) (Ss (EP (Xm (Bf (cE (cS a a a)))) aN) (xW a a) (RS (Yg a) (Ny a) (SC a)) (Sk (Ny a) (Eo a)) (AG (λi=>AQM i (Yg a) (Ny a) (AEQ a i))) (W8 a))) (Mn aN (Xm (Xm (Bf (cE (cS a a a))))) aN)))))))):=by kernel_rfl
theorem p_Ln(a:LnA):V_Ln a:=by
 rw[DAL]<;> dsimp only[go_sem];simp only[CC,CU]
 intro hb
 have hl:a.l.length<=27/\a.r.b.length<=27/\a.r.l.length<=27:=by
  by_cases h1:(a.l.length:Int)>27
  ·rw[decide_eq_true h1] at hb;cases hb
  ·rw[decide_eq_false h1] at hb
   by_cases h2:(a.r.b.length:Int)>27
   ·rw[decide_eq_true h2] at hb;cases hb
   ·rw[decide_eq_false h2] at hb
    have:=of_decide_eq_false hb
    omega
 obtain⟨l1,l2,l3⟩:=hl
 have hp:(sX (GR.mk a.l (Rtg.mk a.r.b a.r.l))).length<1073741824:=by
  unfold sX
  cases Kz (GR.mk a.l (Rtg.mk a.r.b a.r.l))==0 with
  |false=>show 0<_;omega
  |true=>
   have:=ADE (GR.mk a.l (Rtg.mk a.r.b a.r.l)) a.l.length
   show (vS _ a.l.length).length<_
   omega
 have k1:a.l.length<1073741824:=by omega
 have k2:a.r.b.length<1073741824:=by omega
 have k3:a.r.l.length<1073741824:=by omega
 have k4:a.l.length<4611686018427387904:=by omega
 have k5:a.r.b.length<4611686018427387904:=by omega
 have k6:a.r.l.length<4611686018427387904:=by omega
 simp[hp,k1,k2,k3,k4,k5,k6]
theorem DAB(a:LnA):FnT ZP 5 (xLn a) (AB []) (.bool true) []:=WP (A:=A_Ln) (ren:=[]) (fz:=[]) Tryz.func5 (by kernel_rfl) (AA ACZ (AA BKG (AA ALF (AA CUO (AA Jx (AA AUW (AA Vt (AA D7 (AA BTL (AA AKY (AA CJX (AA AQK (AA CIX (AA CZY (AA CVO (AA BUE (AA BSS (AA BBC (AA BHL (AA CSY AD)))))))))))))))))))) (p_Ln a)
end Go.Bal
