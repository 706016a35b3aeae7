/- Package chart: spans joined; times parted. -/
import Derived.Test.YtdbjalgfomknhaaGreatChG3
set_option linter.unusedVariables false
set_option linter.unusedSimpArgs false
namespace Go.Bal
open Go Go.Sym Go.Proofs
structure Hul where
 s : Span
 m : Bool
 deriving Inhabited
def hlB (h : Hul) : AObj := .box [.int h.s.lo, .int h.s.hi, .bool h.m]
def WT (h : Hul) (s : Span) : Hul := ⟨⟨bif h.m then KS s.lo h.s.lo else s.lo, bif h.m then DP s.hi h.s.hi else s.hi⟩, true⟩
structure HuS where
 h : Hul
 s : Span
def BIS (H : Heap) (id : Nat) : Option Hul := match H id with
 | .live (.box [.d a, .d b, .d c]) => some ⟨⟨HM a, HM b⟩, BPG c⟩
 | _ => none
def dHuS : List AVal -> Heap -> Option (HuS × List (Nat × Nat) × List Nat)
 | [.bptr id _, .d s], H => match BIS H id with
  | some h => some (⟨h, Ku s⟩, [(100, id)], [])
  | none => none
 | _, _ => none
def C_hadd : Ctr := { α := HuS, xs := λ a => [.bptr 100 0, .d (FX a.s)], L := λ a => [(100, hlB a.h)], val := λ _ => .d (.tup []), keep := λ a => [(100, .live (hlB (WT a.h a.s)))] }
def BBS : Ann := { ann 32 [] with E := [100] }
def AWF (a : HuS) : Prop := CL Try.prog BBS AOL (AH AOL) (C_hadd.xs a) (AB (C_hadd.L a)) (C_hadd.val a) (C_hadd.keep a) [] []
abbrev UZ:=Hul.m
abbrev tA:=HuS.h
abbrev Bg:=Hul.s
abbrev oX:=HuS.s
abbrev Hp a b:=BD (Bg a) b
abbrev Oo a:=BA (Bg a)
abbrev Fl a b:=AQ (Oo a) b
attribute [go_sem] UZ tA Bg oX Hp Oo Fl
theorem BFI (a : HuS) : (AWF a) = (JM (UZ (tA a)) (Fl (WT (tA a) (oX a)) (Nm (BA (oX a)) (Oo (tA a)))) (BF (Bg (WT (tA a) (oX a))) (WK (BI (oX a)) (BI (Bg (tA a))))) HF (AE (Fl (WT (tA a) (oX a)) (BA (oX a))) (Hp (WT (tA a) (oX a)) (oX a)) HF)) := by kernel_rfl
theorem ADH : AK Try.prog C5 (C_hadd.spec dHuS) := XM C_hadd (λ _ => BBS) [] [] BGL (λ _ => by kernel_rfl) (λ _ => AD) (λ (a : HuS) _ => by
 show AWF a; rw [BFI]<;> delta KY BA BI AQ DX WK Nm IX UZ tA Bg oX AE BF BD EZ Oo Fl Hp HF JM; simp only [CC, eq_self, implies_true, forall_const]
 refine ⟨λ h => ?_, λ h => ?_⟩ <;> · unfold WT; rw [h]; exact ⟨rfl, rfl⟩) (λ _ => YR rfl rfl) _
def Gb (h : Hul) : Span × Int := bif h.m then (h.s, 0) else (⟨0, 0⟩, 5)
def dHu1 : List AVal -> Heap -> Option (Hul × List (Nat × Nat) × List Nat)
 | [.bptr id _], H => match BIS H id with
  | some h => some (h, [(100, id)], [])
  | none => none
 | _, _ => none
def C_who : Ctr := { ro := [100], α := Hul, xs := λ _ => [.bptr 100 0], L := λ h => [(100, hlB h)], val := λ h => .tup [.d (FX (Gb h).1), .int (Gb h).2], keep := λ h => [(100, .live (hlB h))] }
def BIR : Ann := { ann 14 [] with E := [100] }
def BID (h : Hul) : Prop := CL Try.prog BIR AID (AH AID) (C_who.xs h) (AB (C_who.L h)) (C_who.val h) (C_who.keep h) [] []
abbrev Tb:=@Prod.fst Span Int
abbrev Rd:=@Prod.snd Span Int
abbrev Lw a:=EZ (UZ a)
abbrev ZV a:=CG (Bg a)
abbrev UI a:=CY (Bg a)
abbrev Vx a:=Rd (Gb a)
abbrev Ki a:=Tb (Gb a)
abbrev Ad a b:=AQ (Rd a) b
abbrev Ae a:=JF (BA a)
attribute [go_sem] Tb Rd Lw ZV UI Vx Ki Ad Ae
theorem BNK (h : Hul) : (BID h) = (DV (not (UZ h)) (Ae (Ki h)) (AG (PJ (Ki h)) (Ad (Gb h) 5) (UI h) (ZV h) (Lw h)) (CW (KP (Ki h) (Oo h)) (BD (Ki h) (Bg h)) (JF (Vx h)) (UI h) (ZV h) (Lw h))) := by kernel_rfl
theorem ANH : AK Try.prog tB (C_who.spec dHu1) := XM C_who (λ _ => BIR) [] [] AZI (λ _ => by kernel_rfl) (λ _ => AD) (λ (h : Hul) _ => by
 show BID h; rw [BNK]<;> delta KY BA BI AQ DX UZ Bg Tb Rd AE AG BF BD AF CG EZ CY JF DV Oo CW KP PJ Ki UI Ae Ad ZV Lw Vx; simp only [CC, eq_self, implies_true, forall_const]
 refine ⟨λ q => ?_, λ q => ?_⟩ <;> · unfold Gb; rw [q]; exact ⟨rfl, rfl, rfl⟩) (λ _ => YR rfl rfl) _
structure DkQ where
 w : Dk
 l : List Span
 k : Int
 a : Int
 b : Int
def parM (l : List Span) (k a b : Int) (i : Nat) : Span := ⟨bif decide (i = k.toNat) && decide (k < l.length) then DP (gD l i).lo b else (gD l i).lo, bif decide (k > 0) && decide (i = (k - 1).toNat) then KS (gD l i).hi a else (gD l i).hi⟩
def kW (l : List Span) (k a b : Int) : List Span := QR l.length (parM l k a b)
def dDkQ : List AVal -> Heap -> Option (DkQ × List (Nat × Nat) × List Nat)
 | [.bptr id _, y, .d k, .d a, .d b], H => match oV H id, Vb y H with
  | some (w, q), some (l, f) => some (⟨w, l, HM k, HM a, HM b⟩, [(100, id), (101, q)], f)
  | _, _ => none
 | _, _ => none
def C_part : Ctr := { ro := [100, 101], α := DkQ, xs := λ a => [.bptr 100 0, .d (DA a.l), .int a.k, .int a.a, .int a.b], L := λ a => dkL a.w, val := λ a => .d (DA (kW a.l a.k a.a a.b)), keep := λ a => dkK a.w, pre := λ a => [(1 <= a.l.length /\ a.l.length <= 40) /\ 0 <= a.k /\ a.k <= a.l.length] }
def AWK : Ann := { ann 45 [(uA, C_clo.spec dSs1)] with E := [100, 101] }
def AXI (a : DkQ) : Prop := CL Try.prog AWK O3 (AH O3) (C_part.xs a) (AB (C_part.L a)) (C_part.val a) (C_part.keep a) [] [2016]
abbrev Rl:=DkQ.k
abbrev XP a:=AV (DkQ.w a)
abbrev xX a:=PM (DkQ.l a)
abbrev Ax a b c d:=kW (DkQ.l a) (Rl b) (DkQ.a c) (DkQ.b d)
abbrev RQ a:=MQ (DkQ.l a)
abbrev Xv a b:=MX (xX a) b
abbrev Xi a:=MH (Rl a)
abbrev Xk a b:=EM (xX a) b
abbrev iN a b c:=AN a b a c
abbrev Vr a:=OZ (Rl a)
abbrev fD a:=MH (Vr a)
attribute [go_sem] Rl XP xX Ax RQ Xv Xi Xk iN Vr fD
theorem BFM (a : DkQ) : (AXI a) = (ND (CE (RQ a) (CU (DkQ.l a))) (NU (RQ a) (xX a) (DkQ.l a)) (MB (RQ a)) (OB (RQ a)) (DV (As (Rl a) 0) (iN (DQ (Vr a) (RQ a)) (CM (fD a) (RQ a)) (PE (Vr a) (RQ a))) (DV (IP (Rl a) (BU (RQ a))) (iN (DQ (Rl a) (RQ a)) (CM (Xi a) (RQ a)) (PE (Rl a) (RQ a))) (IY (LO (Ax a a a a) (RQ a)) (NP (RQ a)) (λ i=>KH i (CU (Ax a a a a)) (EM (Ax a a a a) i) (KN (BB i) (Rl a) (WK (KN (Xi a) (Vr a) (Xk a (fD a)) (Xk a (Xi a))) (DkQ.b a)) (KN (BB i) (Vr a) (Xk a (fD a)) (Xk a (BB i)))) (LU (Ax a a a a) i) (KN (BB i) (Rl a) (KN (Xi a) (Vr a) (Nm (Xv a (fD a)) (DkQ.a a)) (Xv a (Xi a))) (KN (BB i) (Vr a) (Nm (Xv a (fD a)) (DkQ.a a)) (Xv a (BB i))))) (AM (XP a)) (AL (XP a)) (AP (XP a)) (AS (XP a)) (AT (XP a)) (TY (XP a) (DkQ.w a))) (IY (LO (Ax a a a a) (RQ a)) (NP (RQ a)) (λ i=>KH i (CU (Ax a a a a)) (EM (Ax a a a a) i) (KN (BB i) (Vr a) (Xk a (fD a)) (Xk a (BB i))) (LU (Ax a a a a) i) (KN (BB i) (Vr a) (Nm (Xv a (fD a)) (DkQ.a a)) (Xv a (BB i)))) (AM (XP a)) (AL (XP a)) (AP (XP a)) (AS (XP a)) (AT (XP a)) (TY (XP a) (DkQ.w a)))) (DV (IP (Rl a) (BU (RQ a))) (iN (DQ (Rl a) (RQ a)) (CM (Xi a) (RQ a)) (PE (Rl a) (RQ a))) (IY (LO (Ax a a a a) (RQ a)) (NP (RQ a)) (λ i=>KH i (CU (Ax a a a a)) (EM (Ax a a a a) i) (KN (BB i) (Rl a) (WK (Xk a (Xi a)) (DkQ.b a)) (Xk a (BB i))) (LU (Ax a a a a) i) (KN (BB i) (Rl a) (Xv a (Xi a)) (Xv a (BB i)))) (AM (XP a)) (AL (XP a)) (AP (XP a)) (AS (XP a)) (AT (XP a)) (TY (XP a) (DkQ.w a))) (IY (LO (Ax a a a a) (RQ a)) (NP (RQ a)) (λ i=>RP i (CU (Ax a a a a)) (Ax a a a a) (xX a) (BB i) (BB i)) (AM (XP a)) (AL (XP a)) (AP (XP a)) (AS (XP a)) (AT (XP a)) (TY (XP a) (DkQ.w a)))))) := by kernel_rfl
theorem bG (l : List Span) (k a b : Int) : (kW l k a b).length = l.length := rng_length _ _
theorem APY : AK Try.prog tO (C_part.spec dDkQ) := XM C_part (λ _ => AWK) [] [2016] ATU (λ _ => by kernel_rfl) (λ _ => AA AXL AD) (λ (a : DkQ) h => by
 obtain ⟨⟨h1, h2⟩, h3, h4⟩ : (1 <= a.l.length /\ a.l.length <= 40) /\ 0 <= a.k /\ a.k <= a.l.length := h
 have e : IntKind.i64.wrap (a.k - 1) = a.k - 1 := Dh (by omega) (by omega)
 have gj : ∀ {j : Nat}, j < a.l.length -> gD (kW a.l a.k a.a a.b) j = parM a.l a.k a.a a.b j := λ hj => IK _ _ _ hj
 have t : (a.k - 1).toNat = a.k.toNat - 1 := by omega
 show AXI a; rw [BFM]<;> delta KY BA BI FW OH PR Cs EX FI CE CU AC BX CM AQ LU BU DH DX IP HD LS WK Nm ER GP GA HQ HT HC HR DS GB ED Ak As HV QT SX BT PO LL YY AV LW Uc Rl AE BG AW AG BF BE CK QU AR CN BD AF CG BC EZ AO CQ BS CV CY BO HK CR DD AL CF AM AT DM DR DZ GG BB DW AS DJ AP EY SW Uf DC DB HW GR JD KU RY QW EM FE DE GQ AN BY KD MH BL XQ OZ WZ Tx JE HY JH XJ ZA JQ DV JZ PM DQ MQ iN QZ EB MC IB MG WB LO KE KC XP QP ME CH IY OC SI TI MB RQ MM RP MJ MX XY KN YI NP SG PE xX NB KH OB Vr YJ NU TY ND Ax Xi Xv fD Xk; simp only [CC, eq_self, implies_true, forall_const, e, bG, t]
 refine ⟨⟨by omega, by omega⟩, λ hk => ⟨⟨⟨by omega, by omega⟩, by omega, ⟨by omega, by omega⟩, by omega⟩, λ hl => ⟨⟨⟨by omega, by omega⟩, by omega, ⟨by omega, by omega⟩, by omega⟩, Nat.le_refl _, λ j hj => ?_⟩, λ hl => ⟨Nat.le_refl _, λ j hj => ?_⟩⟩, λ hk => ⟨λ hl => ⟨⟨⟨by omega, by omega⟩, by omega, ⟨by omega, by omega⟩, by omega⟩, Nat.le_refl _, λ j hj => ?_⟩, λ hl => by omega⟩⟩
 ·rw [gj hj]; unfold parM; rw [t]
  have q0 : ¬ a.k.toNat = a.k.toNat - 1 := by omega
  by_cases q1 : j = a.k.toNat
  ·subst q1
   simp [hk, hl, q0]
  ·by_cases q2 : j = a.k.toNat - 1
   ·simp only [decide_eq_false q1, decide_eq_true q2, decide_eq_true hk, Bool.false_and, Bool.and_self, cond_true, cond_false]
    rw [q2]; exact ⟨rfl, rfl⟩
   ·simp [hk, q1, q2]
 ·rw [gj hj]; unfold parM; rw [t]
  by_cases q2 : j = a.k.toNat - 1
  ·simp only [decide_eq_true q2, decide_eq_true hk, decide_eq_false hl, Bool.and_false, Bool.and_self, cond_true, cond_false]
   rw [q2]; exact ⟨rfl, rfl⟩
  ·simp [hl, q2]
 ·rw [gj hj]; unfold parM; rw [t]
  by_cases q1 : j = a.k.toNat
  ·subst q1
   simp [hk, hl]
  ·simp [hk, q1]) (λ _ => YR rfl rfl) _
structure DkW where
 w : Dk
 l : List Span
 a : Int
 b : Int
 x : Int
 y : Int
def Z1 (l : List Span) (a b x y : Int) : List Span := kW (kW l a (wr (x - 1)) x) (wr (b + 1)) y (wr (y + 1))
def dDkW : List AVal -> Heap -> Option (DkW × List (Nat × Nat) × List Nat)
 | [.bptr id _, y, .d k, .d a, .d b, .d c], H => match oV H id, Vb y H with
  | some (w, q), some (l, f) => some (⟨w, l, HM k, HM a, HM b, HM c⟩, [(100, id), (101, q)], f)
  | _, _ => none
 | _, _ => none
def C_win : Ctr := { ro := [100, 101], α := DkW, xs := λ a => [.bptr 100 0, .d (DA a.l), .int a.a, .int a.b, .int a.x, .int a.y], L := λ a => dkL a.w, val := λ a => .d (DA (Z1 a.l a.a a.b a.x a.y)), keep := λ a => dkK a.w, pre := λ a => [(1 <= a.l.length /\ a.l.length <= 40) /\ (0 <= a.a /\ a.a < a.l.length) /\ 0 <= a.b /\ a.b < a.l.length] }
def BIP : Ann := { ann 29 [(tO, C_part.spec dDkQ)] with E := [100, 101] }
def BJV (a : DkW) : Prop := CL Try.prog BIP W6 (AH W6) (C_win.xs a) (AB (C_win.L a)) (C_win.val a) (C_win.keep a) [] []
abbrev Of:=DkW.l
abbrev Vk:=DkW.a
abbrev Ws:=DkW.x
abbrev Rh:=DkW.w
abbrev pL:=DkW.b
abbrev jM:=DkW.y
abbrev bR:=Z1
abbrev OI a:=AV (Rh a)
abbrev yB a b c d:=kW (PM a) b c d
abbrev ZU a b c d:=yB a b (OZ c) d
abbrev dP a b c:=ZU a b c c
attribute [go_sem] Of Vk Ws Rh pL jM bR OI yB ZU dP
theorem BNQ (a : DkW) : (BJV a) = (ND (NA (Of a) (CU (Of a))) (VX (Of a)) (AF (Vk a)) (AR (AF (OZ (Ws a))) (AF (Ws a)) (AM (OI a)) (AL (OI a)) (AP (OI a)) (AS (OI a)) (AT (OI a)) (BM (OI a)) (DO (λ i=>AZ i (OI a)) (BK (OI a)) (λ i=>BJ i (OI a)) (IB (Rh a)) BL (PH (OI a)) (HB (Rh a)) (BT (λ i=>HZ (OI a) i (SW (Rh a) i))) (YL (OI a) (BY (UM (OI a)) (λ i=>QZ i (Rh a)) BL (IE (OI a)) (HB (Rh a)) (BT (λ i=>JU (SW (Rh a) i) (OI a) i)) (KJ (MQ (Of a)) 40) (DC (Vk a)) (ZM (Vk a) (MQ (Of a))))))) (IY (AN (NA (dP (Of a) (Vk a) (Ws a)) (CU (dP (Of a) (Vk a) (Ws a)))) (VX (dP (Of a) (Vk a) (Ws a))) (AF (FZ (pL a))) (AR (AF (jM a)) (AF (FZ (jM a))) (AM (OI a)) (AL (OI a)) (AP (OI a)) (AS (OI a)) (AT (OI a)) (BM (OI a)) (DO (λ i=>AZ i (OI a)) (BK (OI a)) (λ i=>BJ i (OI a)) (IB (Rh a)) BL (PH (OI a)) (HB (Rh a)) (BT (λ i=>HZ (OI a) i (SW (Rh a) i))) (YL (OI a) (BY (UM (OI a)) (λ i=>QZ i (Rh a)) BL (IE (OI a)) (HB (Rh a)) (BT (λ i=>JU (SW (Rh a) i) (OI a) i)) (KJ (MQ (dP (Of a) (Vk a) (Ws a))) 40) (DC (FZ (pL a))) (ZM (FZ (pL a)) (MQ (dP (Of a) (Vk a) (Ws a))))))))) (HO (bR (Of a) (Vk a) (pL a) (Ws a) (jM a)) (yB (dP (Of a) (Vk a) (Ws a)) (FZ (pL a)) (jM a) (FZ (jM a)))) (λ i=>MJ i (CU (bR (Of a) (Vk a) (pL a) (Ws a) (jM a))) (bR (Of a) (Vk a) (pL a) (Ws a) (jM a)) (yB (dP (Of a) (Vk a) (Ws a)) (FZ (pL a)) (jM a) (FZ (jM a)))) (AM (OI a)) (AL (OI a)) (AP (OI a)) (AS (OI a)) (AT (OI a)) (TY (OI a) (Rh a)))) := by kernel_rfl
theorem BKT : AK Try.prog AAD (C_win.spec dDkW) := XM C_win (λ _ => BIP) [] [] ATO (λ _ => by kernel_rfl) (λ _ => AA APY AD) (λ (a : DkW) h => by
 obtain ⟨⟨h1, h2⟩, ⟨h3, h4⟩, h5, h6⟩ : (1 <= a.l.length /\ a.l.length <= 40) /\ (0 <= a.a /\ a.a < a.l.length) /\ 0 <= a.b /\ a.b < a.l.length := h
 have e : IntKind.i64.wrap (a.b + 1) = a.b + 1 := Dh (by omega) (by omega)
 show BJV a; rw [BNQ]<;> delta KY BA BI FW OH PR Cs EX FI CE CU AC BX CM AQ LU BU DH HD PG ER GP GA HQ HT HC HR DS GB ED Ak SX BT PO AV LW Of Vk Ws Rh pL jM bR AE BG AW EO GJ GI AG GM BF BE CK QU AR CN BD AF JJ CG BC EZ AO CQ GT BS CV CY BO HK CR DD AL KA CF AM AT DM DR DZ GF GG AS DJ EG FC Ic AP EY FG FS EN SW Uf DC DB CS HW FV FZ JD DF KU HA RY QW KB LQ FU EM FE ET DE AN OI BY LP FY FJ EV KD BL XQ JS OZ Tx JE HY JH LR OK XJ JI ZA JQ OM KV JZ PM MQ BK QZ IT EB MC KF LM OJ MR IB MG OX WB LO HB KE KR MO KC OV Dj QS QY QP BM BZ CA EP FQ UH AZ CH IY JC OC YM JN SI TI MM FF RP LA MJ GO KL DO Jd ZH ZJ HO Bv YI HZ Gh EE NW ZI BJ SG KJ IE JU CP NB yB YJ NU ZM NA PH TY ZU ND dP UM Ie VX YL; simp only [CC, eq_self, implies_true, forall_const]; simp only [bG]
 refine ⟨⟨⟨by omega, h2⟩, h3, by omega⟩, ⟨⟨by omega, h2⟩, by omega, by omega⟩, ?_⟩
 have : Z1 a.l a.a a.b a.x a.y = kW (kW a.l a.a (IntKind.i64.wrap (a.x - 1)) a.x) (IntKind.i64.wrap (a.b + 1)) a.y (IntKind.i64.wrap (a.y + 1)) := rfl
 rw [this]; simp only [bG]
 simp) (λ _ => YR rfl rfl) _
def AIV (s : Span) : Prop := CL Try.prog (ann 5 []) N6 (AH N6) (xS1 s) (AB []) (.int s.lo) [] [] []
theorem ATI (s : Span) : (AIV s) = (CY s) := by kernel_rfl
def ALE := pD dS1 λ s => .int s.lo
def ARA (s : Span) : Prop := CL Try.prog (ann 5 []) AFM (AH AFM) (xS1 s) (AB []) (.int s.hi) [] [] []
theorem AVB (s : Span) : (ARA s) = (CG s) := by kernel_rfl
def ARO := pD dS1 λ s => .int s.hi
def C_least : Ctr := { α := One, xs := λ _ => [], val := λ _ => .agg [.fn (.func Ve) [] []], keep := λ _ => [] }
def dN0c : List AVal -> Heap -> Option (One × List (Nat × Nat) × List Nat)
 | [], _ => some (default, [], [])
 | _, _ => none
def C_most : Ctr := { α := One, xs := λ _ => [], val := λ _ => .agg [.fn (.func fW) [] []], keep := λ _ => [] }
def AQM (x : One) : Prop := CL Try.prog (ann 2 []) AFD (AH AFD) [] (AB []) (C_least.val x) [] [] []
theorem BBG (x : One) : (AQM x) = (LG) := by kernel_rfl
def AUP (x : One) : Prop := CL Try.prog (ann 2 []) AMZ (AH AMZ) [] (AB []) (C_most.val x) [] [] []
theorem BFC (x : One) : (AUP x) = (LG) := by kernel_rfl
theorem ATH : AK Try.prog Ve ALE := Ik xS1 hS1 λ x _ => Rc (A := ann 5 []) (ren := []) (fz := []) AST (by kernel_rfl) AD (by
 show AIV x; rw [ATI]<;> delta BA AQ AF CY; try simp)
theorem AUR : AK Try.prog fW ARO := Ik xS1 hS1 λ x _ => Rc (A := ann 5 []) (ren := []) (fz := []) AZC (by kernel_rfl) AD (by
 show ARA x; rw [AVB]<;> delta BI AQ BF BD CG; try simp)
theorem AYG : AK Try.prog AFX (C_least.spec dN0c) := XM C_least (λ _ => ann 2 []) [] [] AYC (λ _ => by kernel_rfl) (λ _ => AD) (λ (x : One) _ => by
 show AQM x; rw [BBG]<;> delta LG; try simp) (λ _ => YR rfl rfl) _
theorem BGA : AK Try.prog AMN (C_most.spec dN0c) := XM C_most (λ _ => ann 2 []) [] [] BDP (λ _ => by kernel_rfl) (λ _ => AD) (λ (x : One) _ => by
 show AUP x; rw [BFC]<;> delta LG; try simp) (λ _ => YR rfl rfl) _
def gLo (l : List Span) : Int := (l.map (·.lo)).foldl DP (gD l 0).lo
def gHi (l : List Span) : Int := (l.map (·.hi)).foldl DP (gD l 0).hi
def C_grL : Ctr := { α := List Span, xs := λ l => [.agg [.fn (.func Ve) [] []], .d (DA l)], val := λ l => .int (gLo l), keep := λ _ => [], pre := λ l => [0 < l.length /\ l.length < 1073741824] }
def C_grH : Ctr := { α := List Span, xs := λ l => [.agg [.fn (.func fW) [] []], .d (DA l)], val := λ l => .int (gHi l), keep := λ _ => [], pre := λ l => [0 < l.length /\ l.length < 1073741824] }
def BGW : List AVal -> Heap -> Option (List Span × List (Nat × Nat) × List Nat)
 | [.agg [.fn (.func f) _ _], y], H => if f = Ve then match Vb y H with
  | some (l, f) => some (l, [], f)
  | none => none else none
 | _, _ => none
def BKL : List AVal -> Heap -> Option (List Span × List (Nat × Nat) × List Nat)
 | [.agg [.fn (.func f) _ _], y], H => if f = fW then match Vb y H with
  | some (l, f) => some (l, [], f)
  | none => none else none
 | _, _ => none
def gr3 (l : List Span) (v : AVal) (f : List Int) : Shape := { α := NI, dflt := default, T := λ s => ⟨[(2, .bptr 201 0), (5, .int s.m), (14, .d (DA l)), (15, .int l.length), (16, .int s.k)], [(201, .live (.box [v]))]⟩, inv := λ s => s.k <= l.length /\ s.m = (f.take s.k).foldl DP (gD f 0), meas := λ s => l.length - s.k, first := [(201, 1000)] }
def BIA (l : List Span) : Ann := { ann 28 [(Ve, ALE)] with loops := λ id => if id = 3 then some [gr3 l (.fn (.func Ve) [] []) (l.map (·.lo))] else none }
def BJE (l : List Span) : Prop := CL Try.prog (BIA l) Vt (AH Vt) (C_grL.xs l) (AB []) (C_grL.val l) [] [] []
abbrev tI:=@List.foldl Int Int
abbrev Uz:=@List.map Span Int
abbrev jZ:=@List.take Int
attribute [go_sem] tI Uz jZ
theorem BNU (l : List Span) : (BJE l) = (AE (Jh (CU l)) (hd96 (λ i=>ML (AG (En i (EM l PW)) (NO l) (IZ l) (Mg l) (BR (TM i))) (TM i) (CU l) (En i (tI WK (BQ (Uz BA l) 0) (jZ (TM i) (Uz BA l)))))) (AAM (λ i=>CO (JI (TM i) (CU l) (En i (tI WK (BQ (Uz BA l) 0) (jZ (TM i) (Uz BA l))))) (TM i) (CU l) (ZW (TM i) l) (hd96 (λ j=>LH (AG (En j (WK (yX i) (EM l (TM i)))) (NO l) (IZ l) (Mg l) (BH (TM j) (TM i))) (TM j) (CU l) (En j (tI WK (BQ (Uz BA l) 0) (jZ (TM j) (Uz BA l)))) (TM i))) (AQ (gLo l) (yX i))))) := by kernel_rfl
def BJX (l : List Span) : Ann := { ann 28 [(fW, ARO)] with loops := λ id => if id = 3 then some [gr3 l (.fn (.func fW) [] []) (l.map (·.hi))] else none }
def BHL (l : List Span) : Prop := CL Try.prog (BJX l) Vt (AH Vt) (C_grH.xs l) (AB []) (C_grH.val l) [] [] []
theorem BMD (l : List Span) : (BHL l) = (AE (Jh (CU l)) (hd96 (λ i=>ML (AG (En i (MX l PW)) (NO l) (IZ l) (Mg l) (BR (TM i))) (TM i) (CU l) (En i (tI WK (BQ (Uz BI l) 0) (jZ (TM i) (Uz BI l)))))) (AAM (λ i=>CO (JI (TM i) (CU l) (En i (tI WK (BQ (Uz BI l) 0) (jZ (TM i) (Uz BI l))))) (TM i) (CU l) (ZW (TM i) l) (hd96 (λ j=>LH (AG (En j (WK (yX i) (MX l (TM i)))) (NO l) (IZ l) (Mg l) (BH (TM j) (TM i))) (TM j) (CU l) (En j (tI WK (BQ (Uz BI l) 0) (jZ (TM j) (Uz BI l)))) (TM i))) (AQ (gHi l) (yX i))))) := by kernel_rfl
theorem AOX {f : Span -> Int} {l : List Span} (h : 0 < l.length) : gD (l.map f) 0 = f (gD l 0) := ANW f h
theorem BOG : AK Try.prog fJ (C_grL.spec BGW) := XM C_grL BIA [] [] H3 (λ _ => by kernel_rfl) (λ _ => AA ATH AD) (λ (l : List Span) h => by
 obtain ⟨h1, h2⟩ : 0 < l.length /\ l.length < 1073741824 := h
 show BJE l; rw [BNU]<;> delta BA BI OH PR CE CU AC BX CM AQ LU BU DH DX IP HD LS PG WK JV hd96 yX TM AAM HV BQ tI Uz jZ AE AG BF BE BD AF CG BC BS CY HK GF DW DC GR FZ EM CJ GQ FL LV JG BH JI ZC JP ZD NO DV DG LX IS HG HX DU TW BR BW PW IZ CO La ZX LH ML Jh En ZW Mg; simp only [CC, eq_self, implies_true, forall_const, Int.toNat_zero]
 refine ⟨⟨by omega, by omega⟩, ⟨⟨0, (gD l 0).lo⟩, ⟨rfl, rfl⟩, Nat.zero_le _, by rw [AOX h1]; rfl⟩, λ s ⟨s1, s2⟩ => ⟨λ hlt => ⟨by omega, ⟨s.k + 1, DP s.m (gD l s.k).lo⟩, ⟨rfl, (FH (by omega)).symm⟩, ⟨by show s.k + 1 <= _; omega, ?_⟩, by show l.length - (s.k + 1) < _; omega⟩, λ hge => ?_⟩⟩
 ·show DP s.m (gD l s.k).lo = _
  rw [bU (by simp; omega), List.foldl_append, <- s2, ANW _ (by omega)]; rfl
 ·rw [s2, List.take_of_length_le (by simp; omega), AOX h1]; rfl) (λ _ => YR rfl rfl) _
theorem BLF : AK Try.prog fJ (C_grH.spec BKL) := XM C_grH BJX [] [] H3 (λ _ => by kernel_rfl) (λ _ => AA AUR AD) (λ (l : List Span) h => by
 obtain ⟨h1, h2⟩ : 0 < l.length /\ l.length < 1073741824 := h
 show BHL l; rw [BMD]<;> delta BA BI OH PR CE CU AC BX CM AQ LU BU DH DX IP HD LS PG WK JV hd96 yX TM AAM HV BQ tI Uz jZ AE AG BF BE BD AF CG BC BS CY HK GF DW DC GR FZ CJ GQ FL LV JG BH JI ZC JP ZD NO DV DG LX IS HG HX DU TW BR BW PW IZ CO MX La ZX LH ML Jh En ZW Mg; simp only [CC, eq_self, implies_true, forall_const, Int.toNat_zero]
 refine ⟨⟨by omega, by omega⟩, ⟨⟨0, (gD l 0).hi⟩, ⟨rfl, rfl⟩, Nat.zero_le _, by rw [AOX h1]; rfl⟩, λ s ⟨s1, s2⟩ => ⟨λ hlt => ⟨by omega, ⟨s.k + 1, DP s.m (gD l s.k).hi⟩, ⟨rfl, (FH (by omega)).symm⟩, ⟨by show s.k + 1 <= _; omega, ?_⟩, by show l.length - (s.k + 1) < _; omega⟩, λ hge => ?_⟩⟩
 ·show DP s.m (gD l s.k).hi = _
  rw [bU (by simp; omega), List.foldl_append, <- s2, ANW _ (by omega)]; rfl
 ·rw [s2, List.take_of_length_le (by simp; omega), AOX h1]; rfl) (λ _ => YR rfl rfl) _
end Go.Bal
