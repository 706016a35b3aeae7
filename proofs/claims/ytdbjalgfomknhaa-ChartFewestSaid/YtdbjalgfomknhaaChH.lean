/- Package chart: spans joined; times parted. -/
import Derived.Test.YtdbjalgfomknhaaChG3
set_option linter.unusedVariables false
set_option linter.unusedSimpArgs false
namespace Go.Bal
open Go Go.Sym Go.Proofs
structure Hul where
 s : Span
 m : Bool
 deriving Inhabited
def hlB (h : Hul) : AObj := .box [.int h.s.lo, .int h.s.hi, .bool h.m]
def Wu (h : Hul) (s : Span) : Hul := ⟨⟨bif h.m then Gd s.lo h.s.lo else s.lo, bif h.m then TM s.hi h.s.hi else s.hi⟩, true⟩
structure HuS where
 h : Hul
 s : Span
def CFU (H : Heap) (id : Nat) : Option Hul := match H id with
 | .live (.box [.d a, .d b, .d c]) => some ⟨⟨JQ a, JQ b⟩, CLU c⟩
 | _ => none
def dHuS : List AVal -> Heap -> Option (HuS × List (Nat × Nat) × List Nat)
 | [.bptr id _, .d s], H => match CFU H id with
  | some h => some (⟨h, Ms s⟩, [(100, id)], [])
  | none => none
 | _, _ => none
def C_hadd : Ctr := { α := HuS, xs := λ a => [.bptr 100 0, .d (JS a.s)], L := λ a => [(100, hlB a.h)], val := λ _ => .d (.tup []), keep := λ a => [(100, .live (hlB (Wu a.h a.s)))] }
def BWV : Ann := { ann 32 [] with E := [100] }
def CAA (a : HuS) : Prop := DN Try.prog BWV BML (AP BML) (C_hadd.xs a) (AH (C_hadd.L a)) (C_hadd.val a) (C_hadd.keep a) [] []
abbrev Im:=Hul.m
abbrev ANL:=HuS.h
abbrev Ip:=Hul.s
abbrev AGX:=HuS.s
abbrev jP a b:=Ip (Wu a b)
attribute [go_sem] Im ANL Ip AGX jP
theorem CCV (a : HuS) : (CAA a) = (ZT (Im (ANL a)) (SY (jP (ANL a) (AGX a)) (Gd (BU (AGX a)) (BU (Ip (ANL a))))) (BO (jP (ANL a) (AGX a)) (nM (CO (AGX a)) (CO (Ip (ANL a))))) GP (AI (GV (jP (ANL a) (AGX a)) (AGX a)) (BJ (jP (ANL a) (AGX a)) (AGX a)) GP)) := by kernel_rfl
theorem BHY : AR Try.prog ATZ (C_hadd.spec dHuS) := Jp C_hadd (λ _ => BWV) [] [] CDM (λ _ => by kernel_rfl) (λ _ => AL) (λ (a : HuS) _ => by
 show CAA a; rw [CCV]<;> delta MF BU CO AU FX nM PB Im ANL Ip AGX AI BO BJ ED SY GV GP jP ZT; simp only [CC, eq_self, implies_true, forall_const]
 refine ⟨λ h => ?_, λ h => ?_⟩ <;> · unfold Wu; rw [h]; exact ⟨rfl, rfl⟩) (λ _ => Mi rfl rfl) _
def whoM (h : Hul) : Span × Int := bif h.m then (h.s, 0) else (⟨0, 0⟩, 5)
def dHu1 : List AVal -> Heap -> Option (Hul × List (Nat × Nat) × List Nat)
 | [.bptr id _], H => match CFU H id with
  | some h => some (h, [(100, id)], [])
  | none => none
 | _, _ => none
def C_who : Ctr := { ro := [100], α := Hul, xs := λ _ => [.bptr 100 0], L := λ h => [(100, hlB h)], val := λ h => .tup [.d (JS (whoM h).1), .int (whoM h).2], keep := λ h => [(100, .live (hlB h))] }
def CGC : Ann := { ann 14 [] with E := [100] }
def CHT (h : Hul) : Prop := DN Try.prog CGC BIH (AP BIH) (C_who.xs h) (AH (C_who.L h)) (C_who.val h) (C_who.keep h) [] []
abbrev AGU:=@Prod.fst Span Int
abbrev AVW:=@Prod.snd Span Int
abbrev Ev a:=ED (Im a)
abbrev UM a:=CJ (Ip a)
abbrev Lx a:=AVW (whoM a)
abbrev Jt a:=AGU (whoM a)
attribute [go_sem] AGU AVW Ev UM Lx Jt
theorem CJC (h : Hul) : (CHT h) = (FX (not (Im h)) (CE (DK (BU (Jt h))) (Ex (Jt h)) (AU (Lx h) 5) (UM h) (BL (Ip h)) (Ev h)) (CE (GV (Jt h) (Ip h)) (BJ (Jt h) (Ip h)) (DK (Lx h)) (UM h) (BL (Ip h)) (Ev h))) := by kernel_rfl
theorem BMO : AR Try.prog ANK (C_who.spec dHu1) := Jp C_who (λ _ => CGC) [] [] CAI (λ _ => by kernel_rfl) (λ _ => AL) (λ (h : Hul) _ => by
 show CHT h; rw [CJC]<;> delta MF BU CO AU FX Im Ip AGU AVW AI AN BO BJ AM BL ED CJ DK CE SY GV Jt UM Ev Lx Ex; simp only [CC, eq_self, implies_true, forall_const]
 refine ⟨λ q => ?_, λ q => ?_⟩ <;> · unfold whoM; rw [q]; exact ⟨rfl, rfl, rfl⟩) (λ _ => Mi rfl rfl) _
structure DkQ where
 w : Dk
 l : List Span
 k : Int
 a : Int
 b : Int
def parM (l : List Span) (k a b : Int) (i : Nat) : Span := ⟨bif decide (i = k.toNat) && decide (k < l.length) then TM (gD l i).lo b else (gD l i).lo, bif decide (k > 0) && decide (i = (k - 1).toNat) then Gd (gD l i).hi a else (gD l i).hi⟩
def parL (l : List Span) (k a b : Int) : List Span := HX l.length (parM l k a b)
def dDkQ : List AVal -> Heap -> Option (DkQ × List (Nat × Nat) × List Nat)
 | [.bptr id _, y, .d k, .d a, .d b], H => match AGR H id, jU y H with
  | some (w, q), some (l, f) => some (⟨w, l, JQ k, JQ a, JQ b⟩, [(100, id), (101, q)], f)
  | _, _ => none
 | _, _ => none
def C_part : Ctr := { ro := [100, 101], α := DkQ, xs := λ a => [.bptr 100 0, .d (DW a.l), .int a.k, .int a.a, .int a.b], L := λ a => dkL a.w, val := λ a => .d (DW (parL a.l a.k a.a a.b)), keep := λ a => dkK a.w, pre := λ a => [(1 <= a.l.length /\ a.l.length <= 40) /\ 0 <= a.k /\ a.k <= a.l.length] }
def BVS : Ann := { ann 45 [(ANV, C_clo.spec dSs1)] with E := [100, 101] }
def BTI (a : DkQ) : Prop := DN Try.prog BVS BBZ (AP BBZ) (C_part.xs a) (AH (C_part.L a)) (C_part.val a) (C_part.keep a) [] [2016]
abbrev gH:=DkQ.k
abbrev AGY a:=AQ (DkQ.w a)
abbrev AIP a:=PX (DkQ.l a)
abbrev Ca a b c d:=parL (DkQ.l a) (gH b) (DkQ.a c) (DkQ.b d)
abbrev NZ a:=LF (DkQ.l a)
abbrev lT a b:=US (AIP a) b
abbrev Em a:=dJ (gH a)
abbrev lI a b:=GK (AIP a) b
abbrev El a:=AKH (gH a)
attribute [go_sem] gH AGY AIP Ca NZ lT Em lI El
theorem CEQ (a : DkQ) : (BTI a) = (BZ (CL (NZ a) (DR (DkQ.l a))) (IE (ZH (NZ a) (AIP a) (DkQ.l a)) (LJ (NZ a)) (NZ a) 1073741824) (TI (Sb (gH a) 0) (EW (TT (gH a)) (NZ a) (AI (DD (El a) (NZ a)) (HB (TT (gH a)) (NZ a)) (NT (El a) (NZ a)))) (LV (gH a) (BW (NZ a)) (And (EW (gH a) (NZ a) (AI (DD (Em a) (NZ a)) (HB (gH a) (NZ a)) (NT (Em a) (NZ a)))) (LI (JN (Ca a a a a) (NZ a)) (MT (NZ a)) (AK (λ i=>YP i (DR (Ca a a a a)) (GK (Ca a a a a) i) (VD (BH i) (Em a) (nM (VD (Em a) (El a) (lI a (El a)) (lI a (Em a))) (DkQ.b a)) (VD (BH i) (El a) (lI a (El a)) (lI a (BH i)))) (ML (Ca a a a a) i) (VD (BH i) (Em a) (VD (Em a) (El a) (Gd (lT a (El a)) (DkQ.a a)) (lT a (Em a))) (VD (BH i) (El a) (Gd (lT a (El a)) (DkQ.a a)) (lT a (BH i)))))) (AGY a) (UK (AGY a) (DkQ.w a)))) (LI (JN (Ca a a a a) (NZ a)) (MT (NZ a)) (AK (λ i=>YP i (DR (Ca a a a a)) (GK (Ca a a a a) i) (VD (BH i) (El a) (lI a (El a)) (lI a (BH i))) (ML (Ca a a a a) i) (VD (BH i) (El a) (Gd (lT a (El a)) (DkQ.a a)) (lT a (BH i))))) (AGY a) (UK (AGY a) (DkQ.w a)))) (LV (gH a) (BW (NZ a)) (And (EW (gH a) (NZ a) (AI (DD (Em a) (NZ a)) (HB (gH a) (NZ a)) (NT (Em a) (NZ a)))) (LI (JN (Ca a a a a) (NZ a)) (MT (NZ a)) (AK (λ i=>YP i (DR (Ca a a a a)) (GK (Ca a a a a) i) (VD (BH i) (Em a) (nM (lI a (Em a)) (DkQ.b a)) (lI a (BH i))) (ML (Ca a a a a) i) (VD (BH i) (Em a) (lT a (Em a)) (lT a (BH i))))) (AGY a) (UK (AGY a) (DkQ.w a)))) (LI (JN (Ca a a a a) (NZ a)) (MT (NZ a)) (AK (λ i=>UI i (DR (Ca a a a a)) (Ca a a a a) (AIP a) (BH i) (ML (AIP a) (BH i)))) (AGY a) (UK (AGY a) (DkQ.w a)))))) := by kernel_rfl
theorem mY (l : List Span) (k a b : Int) : (parL l k a b).length = l.length := rng_length _ _
theorem BQW : AR Try.prog APJ (C_part.spec dDkQ) := Jp C_part (λ _ => BVS) [] [2016] BTD (λ _ => by kernel_rfl) (λ _ => AC BYW AL) (λ (a : DkQ) h => by
 obtain ⟨⟨h1, h2⟩, h3, h4⟩ : (1 <= a.l.length /\ a.l.length <= 40) /\ 0 <= a.k /\ a.k <= a.l.length := h
 have e : IntKind.i64.wrap (a.k - 1) = a.k - 1 := PE (by omega) (by omega)
 have gj : ∀ {j : Nat}, j < a.l.length -> gD (parL a.l a.k a.a a.b) j = parM a.l a.k a.a a.b j := λ hj => EK _ _ _ hj
 have t : (a.k - 1).toNat = a.k.toNat - 1 := by omega
 show BTI a; rw [CEQ]<;> delta MF BU CO FM TP WF Ua FQ FP CL DR AK CA DD AU ML BW GM FX WN KZ KB nM IV HC HA HZ ID IA JD GN FW FY Wy Sb JW ZA PY BI NH MG YE AQ OE KO Vy gH AI BG DV AN BO BK CG BJ BB BY AO AM BL BV ED NK CS CD CJ CX DM AZ IY CR DP DH BA AW HD DQ gU HY DG BD FS FU IK BE OZ FR OO BH DI BZ IE MN KP EO BC KY XD LB GK PX KU GO LF TL Bf LD TT LG VO dJ VD LV MK AGY OG HB LP EL MX NF QA VK KD BS QQ OH LJ JN NA EW PI NZ MQ UR VX AKH UI IF Az US YN AIP MT QJ NT Ud El Hi UK Em ZH LI Ca TI YP lT lI; simp only [CC, eq_self, implies_true, forall_const, e, mY, t]
 refine ⟨⟨by omega, by omega⟩, λ hk => ⟨⟨⟨by omega, by omega⟩, by omega, ⟨by omega, by omega⟩, by omega⟩, λ hl => ⟨⟨⟨by omega, by omega⟩, by omega, ⟨by omega, by omega⟩, by omega⟩, Nat.le_refl _, λ j hj => ?_⟩, λ hl => ⟨Nat.le_refl _, λ j hj => ?_⟩⟩, λ hk => ⟨λ hl => ⟨⟨⟨by omega, by omega⟩, by omega, ⟨by omega, by omega⟩, by omega⟩, Nat.le_refl _, λ j hj => ?_⟩, λ hl => by omega⟩⟩
 ·rw [gj hj]; unfold parM; rw [t]
  have q0 : ¬ a.k.toNat = a.k.toNat - 1 := by omega
  by_cases q1 : j = a.k.toNat
  ·subst q1
   simp [hk, hl, q0]
  ·by_cases q2 : j = a.k.toNat - 1
   ·simp only [decide_eq_false q1, decide_eq_true q2, decide_eq_true hk, Bool.false_and, Bool.and_self, cond_true, cond_false]
    rw [q2]; exact ⟨rfl, rfl⟩
   ·simp [hk, q1, q2]
 ·rw [gj hj]; unfold parM; rw [t]
  by_cases q2 : j = a.k.toNat - 1
  ·simp only [decide_eq_true q2, decide_eq_true hk, decide_eq_false hl, Bool.and_false, Bool.and_self, cond_true, cond_false]
   rw [q2]; exact ⟨rfl, rfl⟩
  ·simp [hl, q2]
 ·rw [gj hj]; unfold parM; rw [t]
  by_cases q1 : j = a.k.toNat
  ·subst q1
   simp [hk, hl]
  ·simp [hk, q1]) (λ _ => Mi rfl rfl) _
structure DkW where
 w : Dk
 l : List Span
 a : Int
 b : Int
 x : Int
 y : Int
def winL (l : List Span) (a b x y : Int) : List Span := parL (parL l a (wr (x - 1)) x) (wr (b + 1)) y (wr (y + 1))
def dDkW : List AVal -> Heap -> Option (DkW × List (Nat × Nat) × List Nat)
 | [.bptr id _, y, .d k, .d a, .d b, .d c], H => match AGR H id, jU y H with
  | some (w, q), some (l, f) => some (⟨w, l, JQ k, JQ a, JQ b, JQ c⟩, [(100, id), (101, q)], f)
  | _, _ => none
 | _, _ => none
def C_win : Ctr := { ro := [100, 101], α := DkW, xs := λ a => [.bptr 100 0, .d (DW a.l), .int a.a, .int a.b, .int a.x, .int a.y], L := λ a => dkL a.w, val := λ a => .d (DW (winL a.l a.a a.b a.x a.y)), keep := λ a => dkK a.w, pre := λ a => [(1 <= a.l.length /\ a.l.length <= 40) /\ (0 <= a.a /\ a.a < a.l.length) /\ 0 <= a.b /\ a.b < a.l.length] }
def CGA : Ann := { ann 29 [(APJ, C_part.spec dDkQ)] with E := [100, 101] }
def CHE (a : DkW) : Prop := DN Try.prog CGA AZU (AP AZU) (C_win.xs a) (AH (C_win.L a)) (C_win.val a) (C_win.keep a) [] []
abbrev bZ:=DkW.l
abbrev AOX:=DkW.a
abbrev ANE:=DkW.x
abbrev Wh:=DkW.w
abbrev AHB:=DkW.b
abbrev B5:=DkW.y
abbrev uX:=winL
abbrev QB a:=AQ (Wh a)
abbrev ASS a b c d:=parL (PX a) b c d
abbrev Ei a b c d:=ASS a b (TT c) d
abbrev P1 a b c:=Ei a (AOX b) (ANE c) (ANE c)
abbrev YA a b c d e f g h p:=AO a b (BA c) (AZ d) (BE e) (BD f) (AW g) h p
attribute [go_sem] bZ AOX ANE Wh AHB B5 uX QB ASS Ei P1 YA
theorem CIH (a : DkW) : (CHE a) = (MC (Kc (bZ a)) (Er (bZ a)) (AM (AOX a)) (YA (AM (TT (ANE a))) (AM (ANE a)) (QB a) (QB a) (QB a) (QB a) (QB a) (BR (QB a)) (QU (λ i=>CH i (QB a)) (QB a) (λ i=>BP i (QB a)) (EP (Wh a)) BC (EV (QB a)) (EC (Wh a)) (λ i=>FG (QB a) i (IK (Wh a) i)) (MJ (QB a) (QR (λ i=>CQ i (QB a)) (EP (Wh a)) BC (EQ (QB a)) (EC (Wh a)) (λ i=>FF (IK (Wh a) i) (QB a) i) (QO (LF (bZ a)) 40) (DI (AOX a)) (Cg (AOX a) (LF (bZ a))))))) (LI (BQ (Kc (P1 (bZ a) a a)) (Er (P1 (bZ a) a a)) (AM (EY (AHB a))) (YA (AM (B5 a)) (AM (EY (B5 a))) (QB a) (QB a) (QB a) (QB a) (QB a) (BR (QB a)) (QU (λ i=>CH i (QB a)) (QB a) (λ i=>BP i (QB a)) (EP (Wh a)) BC (EV (QB a)) (EC (Wh a)) (λ i=>FG (QB a) i (IK (Wh a) i)) (MJ (QB a) (QR (λ i=>CQ i (QB a)) (EP (Wh a)) BC (EQ (QB a)) (EC (Wh a)) (λ i=>FF (IK (Wh a) i) (QB a) i) (QO (LF (P1 (bZ a) a a)) 40) (DI (EY (AHB a))) (Cg (EY (AHB a)) (LF (P1 (bZ a) a a)))))))) (LO (uX (bZ a) (AOX a) (AHB a) (ANE a) (B5 a)) (ASS (P1 (bZ a) a a) (EY (AHB a)) (B5 a) (EY (B5 a)))) (ZH (DR (uX (bZ a) (AOX a) (AHB a) (ANE a) (B5 a))) (uX (bZ a) (AOX a) (AHB a) (ANE a) (B5 a)) (ASS (P1 (bZ a) a a) (EY (AHB a)) (B5 a) (EY (B5 a)))) (QB a) (UK (QB a) (Wh a)))) := by kernel_rfl
theorem CIG : AR Try.prog BBY (C_win.spec dDkW) := Jp C_win (λ _ => CGA) [] [] BSI (λ _ => by kernel_rfl) (λ _ => AC BQW AL) (λ (a : DkW) h => by
 obtain ⟨⟨h1, h2⟩, ⟨h3, h4⟩, h5, h6⟩ : (1 <= a.l.length /\ a.l.length <= 40) /\ (0 <= a.a /\ a.a < a.l.length) /\ 0 <= a.b /\ a.b < a.l.length := h
 have e : IntKind.i64.wrap (a.b + 1) = a.b + 1 := PE (by omega) (by omega)
 show CHE a; rw [CIH]<;> delta MF BU CO FM TP WF Ua FQ FP CL DR AK CA DD AU ML BW GM KZ XF IV HC HA HZ ID IA JD GN FW FY Wy PY BI NH AQ OE KO bZ AOX ANE Wh AHB B5 uX AI BG DV EN GF AN BO BK CG BJ BB BY AO AM HS FZ BL BV ED NK CS GS CD CJ CX DM AZ IY CR CY DP EU DH BA AW HD Fs DQ GJ GG EA EI gU HY DG BD FS EJ FU IK BE EH ER OZ EY OO DI BZ HM MN GC HI KP EF EO GI QB BC KY XD FH HQ GK GR JG HR PX KU GO FI LC Ab FT JU LF TL Bf LD JX IR KM TT Ac LG GD NL JH VO BQ WV SJ MK LR OG BR DF LP IL IP IS IM JZ EL CH MX OC NF RC RB QA VK WQ DB DA MM BS QQ OH NO EC JN NA PI JK QK BP MB WG FV MQ HN UR VX EP YC EV XS FF UI IF Az CQ FG ASS LO EQ QJ QO Ud YL Hi UK Cg MC Ei ZH LI MJ Up P1 Er YA QU QR Kc; simp only [CC, eq_self, implies_true, forall_const]; simp only [mY]
 refine ⟨⟨⟨by omega, h2⟩, h3, by omega⟩, ⟨⟨by omega, h2⟩, by omega, by omega⟩, ?_⟩
 have : winL a.l a.a a.b a.x a.y = parL (parL a.l a.a (IntKind.i64.wrap (a.x - 1)) a.x) (IntKind.i64.wrap (a.b + 1)) a.y (IntKind.i64.wrap (a.y + 1)) := rfl
 rw [this]; simp only [mY]
 simp) (λ _ => Mi rfl rfl) _
def BIU (s : Span) : Prop := DN Try.prog (ann 5 []) BAR (AP BAR) (xS1 s) (AH []) (.int s.lo) [] [] []
theorem BSJ (s : Span) : (BIU s) = (CJ s) := by kernel_rfl
def BKW := pD dS1 λ s => .int s.lo
def BRG (s : Span) : Prop := DN Try.prog (ann 5 []) BFX (AP BFX) (xS1 s) (AH []) (.int s.hi) [] [] []
theorem BTV (s : Span) : (BRG s) = (BL s) := by kernel_rfl
def BRO := pD dS1 λ s => .int s.hi
def C_least : Ctr := { α := One, xs := λ _ => [], val := λ _ => .agg [.fn (.func Xw) [] []], keep := λ _ => [] }
def dN0c : List AVal -> Heap -> Option (One × List (Nat × Nat) × List Nat)
 | [], _ => some (default, [], [])
 | _, _ => none
def C_most : Ctr := { α := One, xs := λ _ => [], val := λ _ => .agg [.fn (.func rY) [] []], keep := λ _ => [] }
def BPX (x : One) : Prop := DN Try.prog (ann 2 []) BIF (AP BIF) [] (AH []) (C_least.val x) [] [] []
theorem BWH (x : One) : (BPX x) = (FO) := by kernel_rfl
def BYZ (x : One) : Prop := DN Try.prog (ann 2 []) BMC (AP BMC) [] (AH []) (C_most.val x) [] [] []
theorem CCT (x : One) : (BYZ x) = (FO) := by kernel_rfl
theorem BSQ : AR Try.prog Xw BKW := dS xS1 hS1 λ x _ => Su (A := ann 5 []) (ren := []) (fz := []) BRT (by kernel_rfl) AL (by
 show BIU x; rw [BSJ]<;> delta BU AU AM CJ; try simp)
theorem BXD : AR Try.prog rY BRO := dS xS1 hS1 λ x _ => Su (A := ann 5 []) (ren := []) (fz := []) BYG (by kernel_rfl) AL (by
 show BRG x; rw [BTV]<;> delta CO AU BO BJ BL; try simp)
theorem CAH : AR Try.prog BGM (C_least.spec dN0c) := Jp C_least (λ _ => ann 2 []) [] [] CAQ (λ _ => by kernel_rfl) (λ _ => AL) (λ (x : One) _ => by
 show BPX x; rw [BWH]<;> delta FO; try simp) (λ _ => Mi rfl rfl) _
theorem CCM : AR Try.prog BLM (C_most.spec dN0c) := Jp C_most (λ _ => ann 2 []) [] [] CBR (λ _ => by kernel_rfl) (λ _ => AL) (λ (x : One) _ => by
 show BYZ x; rw [CCT]<;> delta FO; try simp) (λ _ => Mi rfl rfl) _
def gLo (l : List Span) : Int := (l.map (·.lo)).foldl TM (gD l 0).lo
def gHi (l : List Span) : Int := (l.map (·.hi)).foldl TM (gD l 0).hi
def C_grL : Ctr := { α := List Span, xs := λ l => [.agg [.fn (.func Xw) [] []], .d (DW l)], val := λ l => .int (gLo l), keep := λ _ => [], pre := λ l => [0 < l.length /\ l.length < 1073741824] }
def C_grH : Ctr := { α := List Span, xs := λ l => [.agg [.fn (.func rY) [] []], .d (DW l)], val := λ l => .int (gHi l), keep := λ _ => [], pre := λ l => [0 < l.length /\ l.length < 1073741824] }
def CGL : List AVal -> Heap -> Option (List Span × List (Nat × Nat) × List Nat)
 | [.agg [.fn (.func f) _ _], y], H => if f = Xw then match jU y H with
  | some (l, f) => some (l, [], f)
  | none => none else none
 | _, _ => none
def CFY : List AVal -> Heap -> Option (List Span × List (Nat × Nat) × List Nat)
 | [.agg [.fn (.func f) _ _], y], H => if f = rY then match jU y H with
  | some (l, f) => some (l, [], f)
  | none => none else none
 | _, _ => none
def gr3 (l : List Span) (v : AVal) (f : List Int) : Shape := { α := NI, dflt := default, T := λ s => ⟨[(2, .bptr 201 0), (5, .int s.m), (14, .d (DW l)), (15, .int l.length), (16, .int s.k)], [(201, .live (.box [v]))]⟩, inv := λ s => s.k <= l.length /\ s.m = (f.take s.k).foldl TM (gD f 0), meas := λ s => l.length - s.k, first := [(201, 1000)] }
def CHH (l : List Span) : Ann := { ann 28 [(Xw, BKW)] with loops := λ id => if id = 3 then some [gr3 l (.fn (.func Xw) [] []) (l.map (·.lo))] else none }
def CGZ (l : List Span) : Prop := DN Try.prog (CHH l) Zl (AP Zl) (C_grL.xs l) (AH []) (C_grL.val l) [] [] []
abbrev ANA:=@List.foldl Int Int
abbrev bW:=@List.map Span Int
abbrev vA:=@List.take Int
attribute [go_sem] ANA bW vA
theorem CIN (l : List Span) : (CGZ l) = (AI (And VU (FR 0 (DR l))) (hd96 (λ i=>DY (AN (Eu i (GK l Mt)) (MO l) (KX l) (Ow l) (CF (RN i))) (RN i) (DR l) (Eu i (ANA nM (DE (bW BU l) 0) (vA (RN i) (bW BU l)))))) (AZQ (λ i=>CU (Od (RN i) l (Eu i (ANA nM (DE (bW BU l) 0) (vA (RN i) (bW BU l))))) (RN i) (Au l) (IH (RN i) (DR l) (hd96 (λ j=>DC (AN (Eu j (nM (hd97 i) (GK l (RN i)))) (MO l) (KX l) (Ow l) (BT (RN j) (RN i))) (Od (RN j) l (Eu j (ANA nM (DE (bW BU l) 0) (vA (RN j) (bW BU l))))) (DR l) (RN j) (RN i)))) (AU (gLo l) (hd97 i))))) := by kernel_rfl
def CFM (l : List Span) : Ann := { ann 28 [(rY, BRO)] with loops := λ id => if id = 3 then some [gr3 l (.fn (.func rY) [] []) (l.map (·.hi))] else none }
def CHY (l : List Span) : Prop := DN Try.prog (CFM l) Zl (AP Zl) (C_grH.xs l) (AH []) (C_grH.val l) [] [] []
theorem CKJ (l : List Span) : (CHY l) = (AI (And VU (FR 0 (DR l))) (hd96 (λ i=>DY (AN (Eu i (US l Mt)) (MO l) (KX l) (Ow l) (CF (RN i))) (RN i) (DR l) (Eu i (ANA nM (DE (bW CO l) 0) (vA (RN i) (bW CO l)))))) (AZQ (λ i=>CU (Od (RN i) l (Eu i (ANA nM (DE (bW CO l) 0) (vA (RN i) (bW CO l))))) (RN i) (Au l) (IH (RN i) (DR l) (hd96 (λ j=>DC (AN (Eu j (nM (hd97 i) (US l (RN i)))) (MO l) (KX l) (Ow l) (BT (RN j) (RN i))) (Od (RN j) l (Eu j (ANA nM (DE (bW CO l) 0) (vA (RN j) (bW CO l))))) (DR l) (RN j) (RN i)))) (AU (gHi l) (hd97 i))))) := by kernel_rfl
theorem BPR {f : Span -> Int} {l : List Span} (h : 0 < l.length) : gD (l.map f) 0 = f (gD l 0) := BMU f h
theorem CKR : AR Try.prog sO (C_grL.spec CGL) := Jp C_grL CHH [] [] AWV (λ _ => by kernel_rfl) (λ _ => AC BSQ AL) (λ (l : List Span) h => by
 obtain ⟨h1, h2⟩ : 0 < l.length /\ l.length < 1073741824 := h
 show CGZ l; rw [CIN]<;> delta BU CO TP WF CL DR AK CA DD AU ML BW GM FX WN KZ KB XF nM NR hd96 hd97 RN AZQ JW DE ANA bW vA AI AN BO BK BJ AM BL BV Z7 CD CJ IY GG KR EY FR DI BZ IE DU GK Mt OT BT LV DC MO OF KD By QT CU EW DY GA KX CF LZ IH VU Eu Au Ow Od; simp only [CC, eq_self, implies_true, forall_const, Int.toNat_zero]
 refine ⟨⟨by omega, by omega⟩, ⟨⟨0, (gD l 0).lo⟩, ⟨rfl, rfl⟩, Nat.zero_le _, by rw [BPR h1]; rfl⟩, λ s ⟨s1, s2⟩ => ⟨λ hlt => ⟨by omega, ⟨s.k + 1, TM s.m (gD l s.k).lo⟩, ⟨rfl, (HH (by omega)).symm⟩, ⟨by show s.k + 1 <= _; omega, ?_⟩, by show l.length - (s.k + 1) < _; omega⟩, λ hge => ?_⟩⟩
 ·show TM s.m (gD l s.k).lo = _
  rw [mZ (by simp; omega), List.foldl_append, <- s2, BMU _ (by omega)]; rfl
 ·rw [s2, List.take_of_length_le (by simp; omega), BPR h1]; rfl) (λ _ => Mi rfl rfl) _
theorem CJU : AR Try.prog sO (C_grH.spec CFY) := Jp C_grH CFM [] [] AWV (λ _ => by kernel_rfl) (λ _ => AC BXD AL) (λ (l : List Span) h => by
 obtain ⟨h1, h2⟩ : 0 < l.length /\ l.length < 1073741824 := h
 show CHY l; rw [CKJ]<;> delta BU CO TP WF CL DR AK CA DD AU ML BW GM FX WN KZ KB XF nM NR hd96 hd97 RN AZQ JW DE ANA bW vA AI AN BO BK BJ AM BL BV Z7 CD CJ IY GG KR EY FR DI BZ IE DU Mt OT BT LV DC MO OF KD By QT CU EW DY GA KX CF LZ US IH VU Eu Au Ow Od; simp only [CC, eq_self, implies_true, forall_const, Int.toNat_zero]
 refine ⟨⟨by omega, by omega⟩, ⟨⟨0, (gD l 0).hi⟩, ⟨rfl, rfl⟩, Nat.zero_le _, by rw [BPR h1]; rfl⟩, λ s ⟨s1, s2⟩ => ⟨λ hlt => ⟨by omega, ⟨s.k + 1, TM s.m (gD l s.k).hi⟩, ⟨rfl, (HH (by omega)).symm⟩, ⟨by show s.k + 1 <= _; omega, ?_⟩, by show l.length - (s.k + 1) < _; omega⟩, λ hge => ?_⟩⟩
 ·show TM s.m (gD l s.k).hi = _
  rw [mZ (by simp; omega), List.foldl_append, <- s2, BMU _ (by omega)]; rfl
 ·rw [s2, List.take_of_length_le (by simp; omega), BPR h1]; rfl) (λ _ => Mi rfl rfl) _
end Go.Bal
