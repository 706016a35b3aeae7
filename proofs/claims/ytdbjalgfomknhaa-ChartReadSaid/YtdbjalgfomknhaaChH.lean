/- Package chart: spans joined; times parted. -/
import Derived.Test.YtdbjalgfomknhaaChG3
set_option linter.unusedVariables false
set_option linter.unusedSimpArgs false
namespace Go.Bal
open Go Go.Sym Go.Proofs
structure Hul where
 s : Span
 m : Bool
 deriving Inhabited
def hlB (h : Hul) : AObj := .box [.int h.s.lo, .int h.s.hi, .bool h.m]
def Cz (h : Hul) (s : Span) : Hul := ⟨⟨bif h.m then PV s.lo h.s.lo else s.lo, bif h.m then GV s.hi h.s.hi else s.hi⟩, true⟩
structure HuS where
 h : Hul
 s : Span
def BPX (H : Heap) (id : Nat) : Option Hul := match H id with
 | .live (.box [.d a, .d b, .d c]) => some ⟨⟨FQ a, FQ b⟩, BVO c⟩
 | _ => none
def dHuS : List AVal -> Heap -> Option (HuS × List (Nat × Nat) × List Nat)
 | [.bptr id _, .d s], H => match BPX H id with
  | some h => some (⟨h, Hi s⟩, [(100, id)], [])
  | none => none
 | _, _ => none
def C_hadd : Ctr := { α := HuS, xs := λ a => [.bptr 100 0, .d (IY a.s)], L := λ a => [(100, hlB a.h)], val := λ _ => .d (.tup []), keep := λ a => [(100, .live (hlB (Cz a.h a.s)))] }
def BFD : Ann := { ann 32 [] with E := [100] }
def BEZ (a : HuS) : Prop := CR Try.prog BFD ATZ (AL ATZ) (C_hadd.xs a) (AE (C_hadd.L a)) (C_hadd.val a) (C_hadd.keep a) [] []
abbrev Dx:=Hul.m
abbrev M1:=HuS.h
abbrev Du:=Hul.s
abbrev wT:=HuS.s
abbrev Xy a b:=Du (Cz a b)
attribute [go_sem] Dx M1 Du wT Xy
theorem BJG (a : HuS) : (BEZ a) = (FG (Dx (M1 a)) (AH (CB (Xy (M1 a) (wT a)) (wC (CI (wT a)) (CI (Du (M1 a))))) (BN (Xy (M1 a) (wT a)) (Ob (CH (wT a)) (CH (Du (M1 a))))) IZ) (AH (BT (Xy (M1 a) (wT a)) (wT a)) (BJ (Xy (M1 a) (wT a)) (wT a)) IZ)) := by kernel_rfl
theorem ANA : AR Try.prog N3 (C_hadd.spec dHuS) := Bl C_hadd (λ _ => BFD) [] [] BKE (λ _ => by kernel_rfl) (λ _ => AI) (λ (a : HuS) _ => by
 show BEZ a; rw [BJG]<;> delta LV CI CH AS FG Ob wC LX Dx M1 Du wT AH BN FT BJ CB BT IZ Xy; simp only [CC, eq_self, implies_true, forall_const]
 refine ⟨λ h => ?_, λ h => ?_⟩ <;> · unfold Cz; rw [h]; exact ⟨rfl, rfl⟩) (λ _ => Ec rfl rfl) _
def Kt (h : Hul) : Span × Int := bif h.m then (h.s, 0) else (⟨0, 0⟩, 5)
def dHu1 : List AVal -> Heap -> Option (Hul × List (Nat × Nat) × List Nat)
 | [.bptr id _], H => match BPX H id with
  | some h => some (h, [(100, id)], [])
  | none => none
 | _, _ => none
def C_who : Ctr := { ro := [100], α := Hul, xs := λ _ => [.bptr 100 0], L := λ h => [(100, hlB h)], val := λ h => .tup [.d (IY (Kt h).1), .int (Kt h).2], keep := λ h => [(100, .live (hlB h))] }
def BOA : Ann := { ann 14 [] with E := [100] }
def BOG (h : Hul) : Prop := CR Try.prog BOA ANF (AL ANF) (C_who.xs h) (AE (C_who.L h)) (C_who.val h) (C_who.keep h) [] []
abbrev Rd:=@Prod.fst Span Int
abbrev Zn:=@Prod.snd Span Int
abbrev Aa a:=FT (Dx a)
abbrev QP a:=CD (Du a)
abbrev Fe a:=Zn (Kt a)
abbrev Ev a:=Rd (Kt a)
attribute [go_sem] Rd Zn Aa QP Fe Ev
theorem BSJ (h : Hul) : (BOG h) = (DH (not (Dx h)) (Ga (Ev h)) (AK (Ay (Ev h)) (AS (Fe h) 5) (QP h) (BO (Du h)) (Aa h)) (DA (BT (Ev h) (Du h)) (BJ (Ev h) (Du h)) (EV (Fe h)) (QP h) (BO (Du h)) (Aa h))) := by kernel_rfl
theorem AUS : AR Try.prog K9 (C_who.spec dHu1) := Bl C_who (λ _ => BOA) [] [] BGS (λ _ => by kernel_rfl) (λ _ => AI) (λ (h : Hul) _ => by
 show BOG h; rw [BSJ]<;> delta LV CI CH AS FG Dx Du Rd Zn AH AK BN AJ FT BJ CD CB BO BT DH EV DA Ev QP Aa Fe Ay Ga; simp only [CC, eq_self, implies_true, forall_const]
 refine ⟨λ q => ?_, λ q => ?_⟩ <;> · unfold Kt; rw [q]; exact ⟨rfl, rfl, rfl⟩) (λ _ => Ec rfl rfl) _
structure DkQ where
 w : Dk
 l : List Span
 k : Int
 a : Int
 b : Int
def parM (l : List Span) (k a b : Int) (i : Nat) : Span := ⟨bif decide (i = k.toNat) && decide (k < l.length) then GV (gD l i).lo b else (gD l i).lo, bif decide (k > 0) && decide (i = (k - 1).toNat) then PV (gD l i).hi a else (gD l i).hi⟩
def vY (l : List Span) (k a b : Int) : List Span := OF l.length (parM l k a b)
def dDkQ : List AVal -> Heap -> Option (DkQ × List (Nat × Nat) × List Nat)
 | [.bptr id _, y, .d k, .d a, .d b], H => match wL H id, Wx y H with
  | some (w, q), some (l, f) => some (⟨w, l, FQ k, FQ a, FQ b⟩, [(100, id), (101, q)], f)
  | _, _ => none
 | _, _ => none
def C_part : Ctr := { ro := [100, 101], α := DkQ, xs := λ a => [.bptr 100 0, .d (CK a.l), .int a.k, .int a.a, .int a.b], L := λ a => dkL a.w, val := λ a => .d (CK (vY a.l a.k a.a a.b)), keep := λ a => dkK a.w, pre := λ a => [(1 <= a.l.length /\ a.l.length <= 40) /\ 0 <= a.k /\ a.k <= a.l.length] }
def BHQ : Ann := { ann 45 [(K2, C_clo.spec dSs1)] with E := [100, 101] }
def BGM (a : DkQ) : Prop := CR Try.prog BHQ AFH (AL AFH) (C_part.xs a) (AE (C_part.L a)) (C_part.val a) (C_part.keep a) [] [2016]
abbrev oO:=DkQ.k
abbrev qF:=DkQ.w
abbrev AIQ a:=AG (qF a)
abbrev AAT a b:=YH (DkQ.l a) b
abbrev Aj a b c d:=vY (DkQ.l a) (oO b) (DkQ.a c) (DkQ.b d)
abbrev OP a:=JH (DkQ.l a)
abbrev Xz a b:=CH (AAT a b)
abbrev Aq a:=PY (oO a)
abbrev Yl a b:=CI (AAT a b)
abbrev APA a b c:=BH a b a c
abbrev Vt a:=PY (JJ a)
abbrev Ao a:=Vt (oO a)
attribute [go_sem] oO qF AIQ AAT Aj OP Xz Aq Yl APA Vt Ao
theorem BJA (a : DkQ) : (BGM a) = (NM (CL (OP a) (GY (DkQ.l a))) (AF (λ i=>Ks i (DkQ.l a) (AAT a i))) (Gm (OP a)) (RK (OP a)) (DH (JV (oO a) 0) (APA (CS (JJ (oO a)) (OP a)) (DC (Ao a) (OP a)) (OU (Ao a) (OP a))) (DH (PD (oO a) (CG (OP a))) (APA (CS (oO a) (OP a)) (DC (Aq a) (OP a)) (OU (Aq a) (OP a))) (DP (NA (Aj a a a a) (OP a)) (Fw (OP a)) (AF (λ i=>NT i (Aj a a a a) (CB (IA (Aj a a a a) i) (MY (DN i) (Aq a) (Ob (MY (Aq a) (Ao a) (Yl a (Ao a)) (Yl a (Aq a))) (DkQ.b a)) (MY (DN i) (Ao a) (Yl a (Ao a)) (Yl a (DN i))))) (BN (IA (Aj a a a a) i) (MY (DN i) (Aq a) (MY (Aq a) (Ao a) (wC (Xz a (Ao a)) (DkQ.a a)) (Xz a (Aq a))) (MY (DN i) (Ao a) (wC (Xz a (Ao a)) (DkQ.a a)) (Xz a (DN i))))))) (AIQ a) (λ i=>FU i (qF a)) (qF a)) (DP (NA (Aj a a a a) (OP a)) (Fw (OP a)) (AF (λ i=>NT i (Aj a a a a) (CB (IA (Aj a a a a) i) (MY (DN i) (Ao a) (Yl a (Ao a)) (Yl a (DN i)))) (BN (IA (Aj a a a a) i) (MY (DN i) (Ao a) (wC (Xz a (Ao a)) (DkQ.a a)) (Xz a (DN i)))))) (AIQ a) (λ i=>FU i (qF a)) (qF a))) (DH (PD (oO a) (CG (OP a))) (APA (CS (oO a) (OP a)) (DC (Aq a) (OP a)) (OU (Aq a) (OP a))) (DP (NA (Aj a a a a) (OP a)) (Fw (OP a)) (AF (λ i=>NT i (Aj a a a a) (CB (IA (Aj a a a a) i) (MY (DN i) (Aq a) (Ob (Yl a (Aq a)) (DkQ.b a)) (Yl a (DN i)))) (BN (IA (Aj a a a a) i) (MY (DN i) (Aq a) (Xz a (Aq a)) (Xz a (DN i)))))) (AIQ a) (λ i=>FU i (qF a)) (qF a)) (DP (NA (Aj a a a a) (OP a)) (Fw (OP a)) (AF (λ i=>PK i (Aj a a a a) i (AAT a (DN i)))) (AIQ a) (λ i=>FU i (qF a)) (qF a))))) := by kernel_rfl
theorem aR (l : List Span) (k a b : Int) : (vY l k a b).length = l.length := rng_length _ _
theorem AWS : AR Try.prog G2 (C_part.spec dDkQ) := Bl C_part (λ _ => BHQ) [] [2016] AYT (λ _ => by kernel_rfl) (λ _ => AC BHF AI) (λ (a : DkQ) h => by
 obtain ⟨⟨h1, h2⟩, h3, h4⟩ : (1 <= a.l.length /\ a.l.length <= 40) /\ 0 <= a.k /\ a.k <= a.l.length := h
 have e : IntKind.i64.wrap (a.k - 1) = a.k - 1 := NU (by omega) (by omega)
 have gj : ∀ {j : Nat}, j < a.l.length -> gD (vY a.l a.k a.a a.b) j = parM a.l a.k a.a a.b j := λ hj => HM _ _ _ hj
 have t : (a.k - 1).toNat = a.k.toNat - 1 := by omega
 show BGM a; rw [BJA]<;> delta LV CI CH FE PS SI Pt EE FH CL GY AF CV DC AS IA CG CW FG PD HU KV Ob wC JT HP GG IQ IV IX JU GZ GM HK Eb JV HX UN OE DF MA MN Fl AG ID mY oO qF AH DD EL AK BN BQ CF AJ BU FT BJ KB AN AM BV CD BR BL AO DZ JI EI NO DV DI CB AT BB EP HD BO DY AP BT BA AW FZ Ua CX AV DB KP DN CM NC JF KU PN EU TY NT BH BI TW PY JJ GA UJ CS APA UE JH DH MY XD JY KO AIQ FU FP LI YH NA OU Vt JN DE QN OP ME VH TD JO JM AAT Gm DP Ao Aq RK Aj NM PK Ks Xz bZ Yl Fw; simp only [CC, eq_self, implies_true, forall_const, e, aR, t]
 refine ⟨⟨by omega, by omega⟩, λ hk => ⟨⟨⟨by omega, by omega⟩, by omega, ⟨by omega, by omega⟩, by omega⟩, λ hl => ⟨⟨⟨by omega, by omega⟩, by omega, ⟨by omega, by omega⟩, by omega⟩, Nat.le_refl _, λ j hj => ?_⟩, λ hl => ⟨Nat.le_refl _, λ j hj => ?_⟩⟩, λ hk => ⟨λ hl => ⟨⟨⟨by omega, by omega⟩, by omega, ⟨by omega, by omega⟩, by omega⟩, Nat.le_refl _, λ j hj => ?_⟩, λ hl => by omega⟩⟩
 ·rw [gj hj]; unfold parM; rw [t]
  have q0 : ¬ a.k.toNat = a.k.toNat - 1 := by omega
  by_cases q1 : j = a.k.toNat
  ·subst q1
   simp [hk, hl, q0]
  ·by_cases q2 : j = a.k.toNat - 1
   ·simp only [decide_eq_false q1, decide_eq_true q2, decide_eq_true hk, Bool.false_and, Bool.and_self, cond_true, cond_false]
    rw [q2]; exact ⟨rfl, rfl⟩
   ·simp [hk, q1, q2]
 ·rw [gj hj]; unfold parM; rw [t]
  by_cases q2 : j = a.k.toNat - 1
  ·simp only [decide_eq_true q2, decide_eq_true hk, decide_eq_false hl, Bool.and_false, Bool.and_self, cond_true, cond_false]
   rw [q2]; exact ⟨rfl, rfl⟩
  ·simp [hl, q2]
 ·rw [gj hj]; unfold parM; rw [t]
  by_cases q1 : j = a.k.toNat
  ·subst q1
   simp [hk, hl]
  ·simp [hk, q1]) (λ _ => Ec rfl rfl) _
structure DkW where
 w : Dk
 l : List Span
 a : Int
 b : Int
 x : Int
 y : Int
def vZ (l : List Span) (a b x y : Int) : List Span := vY (vY l a (wr (x - 1)) x) (wr (b + 1)) y (wr (y + 1))
def dDkW : List AVal -> Heap -> Option (DkW × List (Nat × Nat) × List Nat)
 | [.bptr id _, y, .d k, .d a, .d b, .d c], H => match wL H id, Wx y H with
  | some (w, q), some (l, f) => some (⟨w, l, FQ k, FQ a, FQ b, FQ c⟩, [(100, id), (101, q)], f)
  | _, _ => none
 | _, _ => none
def C_win : Ctr := { ro := [100, 101], α := DkW, xs := λ a => [.bptr 100 0, .d (CK a.l), .int a.a, .int a.b, .int a.x, .int a.y], L := λ a => dkL a.w, val := λ a => .d (CK (vZ a.l a.a a.b a.x a.y)), keep := λ a => dkK a.w, pre := λ a => [(1 <= a.l.length /\ a.l.length <= 40) /\ (0 <= a.a /\ a.a < a.l.length) /\ 0 <= a.b /\ a.b < a.l.length] }
def BNZ : Ann := { ann 29 [(G2, C_part.spec dDkQ)] with E := [100, 101] }
def BNJ (a : DkW) : Prop := CR Try.prog BNZ AIB (AL AIB) (C_win.xs a) (AE (C_win.L a)) (C_win.val a) (C_win.keep a) [] []
abbrev Pe:=DkW.l
abbrev Ud:=DkW.a
abbrev ABL:=DkW.x
abbrev Zu:=DkW.w
abbrev K4:=DkW.b
abbrev wJ:=DkW.y
abbrev KE a:=AG (Zu a)
abbrev Y3 a b c d:=vY (UJ a) b c d
abbrev Ow a b c d:=Y3 a b (JJ c) d
abbrev dT a b c:=Ow a b (ABL c) (ABL c)
attribute [go_sem] Pe Ud ABL Zu K4 wJ KE Y3 Ow dT
theorem BRT (a : DkW) : (BNJ a) = (NM (Aw (Pe a)) (AF (λ i=>OH i (Pe a) i)) (AJ (Ud a)) (QK (AJ (JJ (ABL a))) (AJ (ABL a)) (AT (KE a)) (KE a) (AV (KE a)) (BF (KE a)) (NY (KE a) (λ i=>BC i (KE a) (BG (KE a) i) (BD (KE a) i) (AP (KE a) i) (AZ (KE a) i) (AO (KE a) i) (BE (KE a) i) (AM (KE a) i)) (KJ (Zu a)) BI (EN (KE a)) (HB (Zu a)) (EM (KE a)) (RV (KE a) (AN (EJ (KE a)) (KJ (Zu a)) BI (EY (KE a)) (HB (Zu a)) (GC (KE a)) (And (JX (JH (Pe a))) (UQ (JH (Pe a)))) (CX (Ud a)) (Yj (Ud a) (JH (Pe a))))))) (DP (BH (Aw (dT (Pe a) (Ud a) a)) (AF (λ i=>OH i (dT (Pe a) (Ud a) a) i)) (AJ (EF (K4 a))) (QK (AJ (wJ a)) (AJ (EF (wJ a))) (AT (KE a)) (KE a) (AV (KE a)) (BF (KE a)) (NY (KE a) (λ i=>BC i (KE a) (BG (KE a) i) (BD (KE a) i) (AP (KE a) i) (AZ (KE a) i) (AO (KE a) i) (BE (KE a) i) (AM (KE a) i)) (KJ (Zu a)) BI (EN (KE a)) (HB (Zu a)) (EM (KE a)) (RV (KE a) (AN (EJ (KE a)) (KJ (Zu a)) BI (EY (KE a)) (HB (Zu a)) (GC (KE a)) (And (JX (JH (dT (Pe a) (Ud a) a))) (UQ (JH (dT (Pe a) (Ud a) a)))) (CX (EF (K4 a))) (Yj (EF (K4 a)) (JH (dT (Pe a) (Ud a) a)))))))) (HT (vZ (Pe a) (Ud a) (K4 a) (ABL a) (wJ a)) (Y3 (dT (Pe a) (Ud a) a) (EF (K4 a)) (wJ a) (EF (wJ a)))) (AF (λ i=>TE i (vZ (Pe a) (Ud a) (K4 a) (ABL a) (wJ a)) i (Y3 (dT (Pe a) (Ud a) a) (EF (K4 a)) (wJ a) (EF (wJ a))))) (KE a) (λ i=>FU i (Zu a)) (Zu a))) := by kernel_rfl
theorem BTS : AR Try.prog AGI (C_win.spec dDkW) := Bl C_win (λ _ => BNZ) [] [] BAC (λ _ => by kernel_rfl) (λ _ => AC AWS AI) (λ (a : DkW) h => by
 obtain ⟨⟨h1, h2⟩, ⟨h3, h4⟩, h5, h6⟩ : (1 <= a.l.length /\ a.l.length <= 40) /\ (0 <= a.a /\ a.a < a.l.length) /\ 0 <= a.b /\ a.b < a.l.length := h
 have e : IntKind.i64.wrap (a.b + 1) = a.b + 1 := NU (by omega) (by omega)
 show BNJ a; rw [BRT]<;> delta LV CI CH FE PS SI Pt EE FH CL GY AF CV DC AS IA CG CW HU UC JT HP GG IQ IV IX JU GZ GM HK LC Eb OE DF MA AG ID Pe Ud ABL Zu K4 wJ AH DD EL EW GS AK BN BQ CF AJ HR GI BU FT BJ KB AN AM BV AZ CD BR BL AO DZ JI EI NO DV DI CB GN AT BB GO EP HD BO DY AP BT BA ED AW BE XT Ua CX AV FN GF FA DB KP KE CM EF NC GR KU PN EU GQ BD TY NT BH BI Et TW FX IT JJ GA UJ GD UE GJ EC JH WX Be EA FY MW XD JY BC KO MB LY Bc BF CA DK FU BG FP HB RA KT KX LJ GT KR LI YH JX NA Dq DQ Jd JN DE QN CE BM DT VM WP ME KI UP WQ HT VH TD JO DX TU EJ JM UU WS QK EN EY UW Y3 UQ Ow DP WK KJ EM TZ GC Bv Yj NM Ks dT OH Aw RV TE NY; simp only [CC, eq_self, implies_true, forall_const]; simp only [aR]
 refine ⟨⟨⟨by omega, h2⟩, h3, by omega⟩, ⟨⟨by omega, h2⟩, by omega, by omega⟩, ?_⟩
 have : vZ a.l a.a a.b a.x a.y = vY (vY a.l a.a (IntKind.i64.wrap (a.x - 1)) a.x) (IntKind.i64.wrap (a.b + 1)) a.y (IntKind.i64.wrap (a.y + 1)) := rfl
 rw [this]; simp only [aR]
 simp) (λ _ => Ec rfl rfl) _
def AQH (s : Span) : Prop := CR Try.prog (ann 5 []) AGR (AL AGR) (xS1 s) (AE []) (.int s.lo) [] [] []
theorem AZF (s : Span) : (AQH s) = (CD s) := by kernel_rfl
def APF := pD dS1 λ s => .int s.lo
def AVD (s : Span) : Prop := CR Try.prog (ann 5 []) ALM (AL ALM) (xS1 s) (AE []) (.int s.hi) [] [] []
theorem BEH (s : Span) : (AVD s) = (BO s) := by kernel_rfl
def AXP := pD dS1 λ s => .int s.hi
def C_least : Ctr := { α := One, xs := λ _ => [], val := λ _ => .agg [.fn (.func Ri) [] []], keep := λ _ => [] }
def dN0c : List AVal -> Heap -> Option (One × List (Nat × Nat) × List Nat)
 | [], _ => some (default, [], [])
 | _, _ => none
def C_most : Ctr := { α := One, xs := λ _ => [], val := λ _ => .agg [.fn (.func fR) [] []], keep := λ _ => [] }
def AWL (x : One) : Prop := CR Try.prog (ann 2 []) AMY (AL AMY) [] (AE []) (C_least.val x) [] [] []
theorem BHP (x : One) : (AWL x) = (II) := by kernel_rfl
def BFY (x : One) : Prop := CR Try.prog (ann 2 []) ATI (AL ATI) [] (AE []) (C_most.val x) [] [] []
theorem BKK (x : One) : (BFY x) = (II) := by kernel_rfl
theorem AZN : AR Try.prog Ri APF := Lu xS1 hS1 λ x _ => Ky (A := ann 5 []) (ren := []) (fz := []) AZM (by kernel_rfl) AI (by
 show AQH x; rw [AZF]<;> delta CI AS AJ CD; try simp)
theorem BBE : AR Try.prog fR AXP := Lu xS1 hS1 λ x _ => Ky (A := ann 5 []) (ren := []) (fz := []) BGR (by kernel_rfl) AI (by
 show AVD x; rw [BEH]<;> delta CH AS BN BJ BO; try simp)
theorem BEJ : AR Try.prog AKW (C_least.spec dN0c) := Bl C_least (λ _ => ann 2 []) [] [] BCJ (λ _ => by kernel_rfl) (λ _ => AI) (λ (x : One) _ => by
 show AWL x; rw [BHP]<;> delta II; try simp) (λ _ => Ec rfl rfl) _
theorem BJU : AR Try.prog ATL (C_most.spec dN0c) := Bl C_most (λ _ => ann 2 []) [] [] BLB (λ _ => by kernel_rfl) (λ _ => AI) (λ (x : One) _ => by
 show BFY x; rw [BKK]<;> delta II; try simp) (λ _ => Ec rfl rfl) _
def gLo (l : List Span) : Int := (l.map (·.lo)).foldl GV (gD l 0).lo
def gHi (l : List Span) : Int := (l.map (·.hi)).foldl GV (gD l 0).hi
def C_grL : Ctr := { α := List Span, xs := λ l => [.agg [.fn (.func Ri) [] []], .d (CK l)], val := λ l => .int (gLo l), keep := λ _ => [], pre := λ l => [0 < l.length /\ l.length < 1073741824] }
def C_grH : Ctr := { α := List Span, xs := λ l => [.agg [.fn (.func fR) [] []], .d (CK l)], val := λ l => .int (gHi l), keep := λ _ => [], pre := λ l => [0 < l.length /\ l.length < 1073741824] }
def BNG : List AVal -> Heap -> Option (List Span × List (Nat × Nat) × List Nat)
 | [.agg [.fn (.func f) _ _], y], H => if f = Ri then match Wx y H with
  | some (l, f) => some (l, [], f)
  | none => none else none
 | _, _ => none
def BOP : List AVal -> Heap -> Option (List Span × List (Nat × Nat) × List Nat)
 | [.agg [.fn (.func f) _ _], y], H => if f = fR then match Wx y H with
  | some (l, f) => some (l, [], f)
  | none => none else none
 | _, _ => none
def gr3 (l : List Span) (v : AVal) (f : List Int) : Shape := { α := NI, dflt := default, T := λ s => ⟨[(2, .bptr 201 0), (5, .int s.m), (14, .d (CK l)), (15, .int l.length), (16, .int s.k)], [(201, .live (.box [v]))]⟩, inv := λ s => s.k <= l.length /\ s.m = (f.take s.k).foldl GV (gD f 0), meas := λ s => l.length - s.k, first := [(201, 1000)] }
def BOD (l : List Span) : Ann := { ann 28 [(Ri, APF)] with loops := λ id => if id = 3 then some [gr3 l (.fn (.func Ri) [] []) (l.map (·.lo))] else none }
def BMQ (l : List Span) : Prop := CR Try.prog (BOD l) Te (AL Te) (C_grL.xs l) (AE []) (C_grL.val l) [] [] []
abbrev J9:=@List.foldl Int Int
abbrev Rl:=@List.map Span Int
abbrev pF:=@List.take Int
attribute [go_sem] J9 Rl pF
theorem BSC (l : List Span) : (BMQ l) = (AH (Rb (GY l)) (wP (λ i=>AH (AK (Ax i (PO l SY)) (IC l) (LL l) (Kv l) (CY (HN i))) (MF (HN i) l) (Ax i (J9 Ob (ET (Rl CI l) 0) (pF (HN i) (Rl CI l)))))) (AEV (λ i=>MH (MF (HN i) l) (Ax i (J9 Ob (ET (Rl CI l) 0) (pF (HN i) (Rl CI l)))) (HN i) (LB l) (JA (HN i) l) (wP (λ j=>FW (AK (Ax j (Ob (aZ i) (PO l (HN i)))) (IC l) (LL l) (Kv l) (CJ (HN j) (HN i))) (MF (HN j) l) (Ax j (J9 Ob (ET (Rl CI l) 0) (pF (HN j) (Rl CI l)))) (GY l) (HN j) (HN i))) (AS (gLo l) (aZ i))))) := by kernel_rfl
def BMZ (l : List Span) : Ann := { ann 28 [(fR, AXP)] with loops := λ id => if id = 3 then some [gr3 l (.fn (.func fR) [] []) (l.map (·.hi))] else none }
def BPI (l : List Span) : Prop := CR Try.prog (BMZ l) Te (AL Te) (C_grH.xs l) (AE []) (C_grH.val l) [] [] []
theorem BSE (l : List Span) : (BPI l) = (AH (Rb (GY l)) (wP (λ i=>AH (AK (Ax i (LU l SY)) (IC l) (LL l) (Kv l) (CY (HN i))) (MF (HN i) l) (Ax i (J9 Ob (ET (Rl CH l) 0) (pF (HN i) (Rl CH l)))))) (AEV (λ i=>MH (MF (HN i) l) (Ax i (J9 Ob (ET (Rl CH l) 0) (pF (HN i) (Rl CH l)))) (HN i) (LB l) (JA (HN i) l) (wP (λ j=>FW (AK (Ax j (Ob (aZ i) (LU l (HN i)))) (IC l) (LL l) (Kv l) (CJ (HN j) (HN i))) (MF (HN j) l) (Ax j (J9 Ob (ET (Rl CH l) 0) (pF (HN j) (Rl CH l)))) (GY l) (HN j) (HN i))) (AS (gHi l) (aZ i))))) := by kernel_rfl
theorem AVF {f : Span -> Int} {l : List Span} (h : 0 < l.length) : gD (l.map f) 0 = f (gD l 0) := ATJ f h
theorem BQO : AR Try.prog gI (C_grL.spec BNG) := Bl C_grL BOD [] [] ACK (λ _ => by kernel_rfl) (λ _ => AC AZN AI) (λ (l : List Span) h => by
 obtain ⟨h1, h2⟩ : 0 < l.length /\ l.length < 1073741824 := h
 show BMQ l; rw [BSC]<;> delta CI CH PS SI CL GY AF CV DC AS IA CG CW FG PD HU KV UC Ob MT ET wP aZ HN AEV HX J9 Rl pF AH AK BN BQ AJ BU BJ CD BR JI GO BO FZ CX EF JF HZ NT CS EH TS Fx DH IW JE IC ZR GX CJ OY LL PM IM SQ SY CY KZ PO IR FW JA LB MF Oc Ax Rb Kv MH; simp only [CC, eq_self, implies_true, forall_const, Int.toNat_zero]
 refine ⟨⟨by omega, by omega⟩, ⟨⟨0, (gD l 0).lo⟩, ⟨rfl, rfl⟩, Nat.zero_le _, by rw [AVF h1]; rfl⟩, λ s ⟨s1, s2⟩ => ⟨λ hlt => ⟨by omega, ⟨s.k + 1, GV s.m (gD l s.k).lo⟩, ⟨rfl, (MO (by omega)).symm⟩, ⟨by show s.k + 1 <= _; omega, ?_⟩, by show l.length - (s.k + 1) < _; omega⟩, λ hge => ?_⟩⟩
 ·show GV s.m (gD l s.k).lo = _
  rw [bF (by simp; omega), List.foldl_append, <- s2, ATJ _ (by omega)]; rfl
 ·rw [s2, List.take_of_length_le (by simp; omega), AVF h1]; rfl) (λ _ => Ec rfl rfl) _
theorem BSN : AR Try.prog gI (C_grH.spec BOP) := Bl C_grH BMZ [] [] ACK (λ _ => by kernel_rfl) (λ _ => AC BBE AI) (λ (l : List Span) h => by
 obtain ⟨h1, h2⟩ : 0 < l.length /\ l.length < 1073741824 := h
 show BPI l; rw [BSE]<;> delta CI CH PS SI CL GY AF CV DC AS IA CG CW FG PD HU KV UC Ob MT ET wP aZ HN AEV HX J9 Rl pF AH AK BN BQ AJ BU BJ CD BR JI GO BO FZ CX EF JF HZ NT CS EH TS Fx DH IW JE IC ZR GX CJ OY LL PM IM SQ SY CY KZ IR FW JA LB MF LU Oc Ax Rb Kv MH; simp only [CC, eq_self, implies_true, forall_const, Int.toNat_zero]
 refine ⟨⟨by omega, by omega⟩, ⟨⟨0, (gD l 0).hi⟩, ⟨rfl, rfl⟩, Nat.zero_le _, by rw [AVF h1]; rfl⟩, λ s ⟨s1, s2⟩ => ⟨λ hlt => ⟨by omega, ⟨s.k + 1, GV s.m (gD l s.k).hi⟩, ⟨rfl, (MO (by omega)).symm⟩, ⟨by show s.k + 1 <= _; omega, ?_⟩, by show l.length - (s.k + 1) < _; omega⟩, λ hge => ?_⟩⟩
 ·show GV s.m (gD l s.k).hi = _
  rw [bF (by simp; omega), List.foldl_append, <- s2, ATJ _ (by omega)]; rfl
 ·rw [s2, List.take_of_length_le (by simp; omega), AVF h1]; rfl) (λ _ => Ec rfl rfl) _
end Go.Bal
