/- Package chart: spans joined; times parted. -/
import Derived.Test.YtdbjalgfomknhaaGreatChG3
set_option linter.unusedVariables false
set_option linter.unusedSimpArgs false
namespace Go.Bal
open Go Go.Sym Go.Proofs
structure Hul where
 s : Span
 m : Bool
 deriving Inhabited
def hlB (h : Hul) : AObj := .box [.int h.s.lo, .int h.s.hi, .bool h.m]
def Sy (h : Hul) (s : Span) : Hul := ⟨⟨bif h.m then XC s.lo h.s.lo else s.lo, bif h.m then MY s.hi h.s.hi else s.hi⟩, true⟩
structure HuS where
 h : Hul
 s : Span
def BUD (H : Heap) (id : Nat) : Option Hul := match H id with
 | .live (.box [.d a, .d b, .d c]) => some ⟨⟨HJ a, HJ b⟩, CAW c⟩
 | _ => none
def dHuS : List AVal -> Heap -> Option (HuS × List (Nat × Nat) × List Nat)
 | [.bptr id _, .d s], H => match BUD H id with
  | some h => some (⟨h, La s⟩, [(100, id)], [])
  | none => none
 | _, _ => none
def C_hadd : Ctr := { α := HuS, xs := λ a => [.bptr 100 0, .d (IK a.s)], L := λ a => [(100, hlB a.h)], val := λ _ => .d (.tup []), keep := λ a => [(100, .live (hlB (Sy a.h a.s)))] }
def BLM : Ann := { ann 32 [] with E := [100] }
def BJK (a : HuS) : Prop := CF Try.prog BLM AXE (AH AXE) (C_hadd.xs a) (AB (C_hadd.L a)) (C_hadd.val a) (C_hadd.keep a) [] []
abbrev Hs:=Hul.m
abbrev xY:=HuS.h
abbrev Hx:=Hul.s
abbrev rK:=HuS.s
abbrev Yx a b:=Hx (Sy a b)
attribute [go_sem] Hs xY Hx rK Yx
theorem BML (a : HuS) : (BJK a) = (EC (Hs (xY a)) (AD (BO (Yx (xY a) (rK a)) (jN (BI (rK a)) (BI (Hx (xY a))))) (AZ (Yx (xY a) (rK a)) (Ox (BF (rK a)) (BF (Hx (xY a))))) KS) (AD (BJ (Yx (xY a) (rK a)) (rK a)) (AW (Yx (xY a) (rK a)) (rK a)) KS)) := by kernel_rfl
theorem ALW : AK Try.prog N7 (C_hadd.spec dHuS) := VV C_hadd (λ _ => BLM) [] [] BOH (λ _ => by kernel_rfl) (λ _ => AC) (λ (a : HuS) _ => by
 show BJK a; rw [BML]<;> delta JH BI BF AS EC Ox jN LC Hs xY Hx rK AD AZ GQ AW BO BJ KS Yx; simp only [CC, eq_self, implies_true, forall_const]
 refine ⟨λ h => ?_, λ h => ?_⟩ <;> · unfold Sy; rw [h]; exact ⟨rfl, rfl⟩) (λ _ => WY rfl rfl) _
def wL (h : Hul) : Span × Int := bif h.m then (h.s, 0) else (⟨0, 0⟩, 5)
def dHu1 : List AVal -> Heap -> Option (Hul × List (Nat × Nat) × List Nat)
 | [.bptr id _], H => match BUD H id with
  | some h => some (h, [(100, id)], [])
  | none => none
 | _, _ => none
def C_who : Ctr := { ro := [100], α := Hul, xs := λ _ => [.bptr 100 0], L := λ h => [(100, hlB h)], val := λ h => .tup [.d (IK (wL h).1), .int (wL h).2], keep := λ h => [(100, .live (hlB h))] }
def BRJ : Ann := { ann 14 [] with E := [100] }
def BSE (h : Hul) : Prop := CF Try.prog BRJ AOJ (AH AOJ) (C_who.xs h) (AB (C_who.L h)) (C_who.val h) (C_who.keep h) [] []
abbrev rE:=@Prod.fst Span Int
abbrev W7:=@Prod.snd Span Int
abbrev Dx a:=GQ (Hs a)
abbrev TS a:=BL (Hx a)
abbrev Jq a:=W7 (wL a)
abbrev Il a:=rE (wL a)
attribute [go_sem] rE W7 Dx TS Jq Il
theorem BYL (h : Hul) : (BSE h) = (ED (not (Hs h)) (Di (Il h)) (AG (En (Il h)) (AS (Jq h) 5) (TS h) (AV (Hx h)) (Dx h)) (And (BJ (Il h) (Hx h)) (AG (AW (Il h) (Hx h)) (IM (Jq h)) (TS h) (AV (Hx h)) (Dx h)))) := by kernel_rfl
theorem AUN : AK Try.prog xX (C_who.spec dHu1) := VV C_who (λ _ => BRJ) [] [] BDM (λ _ => by kernel_rfl) (λ _ => AC) (λ (h : Hul) _ => by
 show BSE h; rw [BYL]<;> delta JH BI BF AS EC Hs Hx rE W7 AD AG AZ AE GQ AW BL BO BJ AV ED IM TS Il Dx Jq Di En; simp only [CC, eq_self, implies_true, forall_const]
 refine ⟨λ q => ?_, λ q => ?_⟩ <;> · unfold wL; rw [q]; exact ⟨rfl, rfl, rfl⟩) (λ _ => WY rfl rfl) _
structure DkQ where
 w : Dk
 l : List Span
 k : Int
 a : Int
 b : Int
def parM (l : List Span) (k a b : Int) (i : Nat) : Span := ⟨bif decide (i = k.toNat) && decide (k < l.length) then MY (gD l i).lo b else (gD l i).lo, bif decide (k > 0) && decide (i = (k - 1).toNat) then XC (gD l i).hi a else (gD l i).hi⟩
def parL (l : List Span) (k a b : Int) : List Span := ME l.length (parM l k a b)
def dDkQ : List AVal -> Heap -> Option (DkQ × List (Nat × Nat) × List Nat)
 | [.bptr id _, y, .d k, .d a, .d b], H => match rH H id, Xo y H with
  | some (w, q), some (l, f) => some (⟨w, l, HJ k, HJ a, HJ b⟩, [(100, id), (101, q)], f)
  | _, _ => none
 | _, _ => none
def C_part : Ctr := { ro := [100, 101], α := DkQ, xs := λ a => [.bptr 100 0, .d (DC a.l), .int a.k, .int a.a, .int a.b], L := λ a => dkL a.w, val := λ a => .d (DC (parL a.l a.k a.a a.b)), keep := λ a => dkK a.w, pre := λ a => [(1 <= a.l.length /\ a.l.length <= 40) /\ 0 <= a.k /\ a.k <= a.l.length] }
def BKA : Ann := { ann 45 [(yO, C_clo.spec dSs1)] with E := [100, 101] }
def BFL (a : DkQ) : Prop := CF Try.prog BKA AEP (AH AEP) (C_part.xs a) (AB (C_part.L a)) (C_part.val a) (C_part.keep a) [] [2016]
abbrev Hu:=DkQ.k
abbrev XF a:=AP (DkQ.w a)
abbrev N6 a b:=Jv (DkQ.l a) b
abbrev Dz a b c d:=parL (DkQ.l a) (Hu b) (DkQ.a c) (DkQ.b d)
abbrev OT a:=KZ (DkQ.l a)
abbrev aL a b:=BF (N6 a b)
abbrev Zx a:=LA (Hu a)
abbrev aJ a b:=BI (N6 a b)
abbrev KM a b c d:=AD (CO a b) c d
abbrev Jh a b c d:=SY (CM a) b c d
abbrev Dl a:=LA (LZ a)
abbrev Em a:=Dl (Hu a)
abbrev kD a:=XS a 0
attribute [go_sem] Hu XF N6 Dz OT aL Zx aJ KM Jh Dl Em kD
theorem BLT (a : DkQ) : (BFL a) = (GP (BY (OT a) (EL (DkQ.l a))) (AF (λ i=>Io i (DkQ.l a) (N6 a i))) (OQ (OT a)) (MJ (OT a)) (ED (kD (Hu a)) (KQ (LZ (Hu a)) (OT a) (KM (Em a) (OT a) (HF (LZ (Hu a)) (OT a)) (JX (Em a) (OT a)))) (QV (Hu a) (BE (OT a)) (KQ (Hu a) (OT a) (KM (Zx a) (OT a) (HF (Hu a) (OT a)) (QI (Hu a) (OT a)))) (GU (OW (Dz a a a a) (OT a)) (OF (OT a)) (λ i=>OJ i (Dz a a a a) (BO (KA (Dz a a a a) i) (RS (CM i) (Hu a) (Ox (SY (Zx a) (Em a) (aJ a (Em a)) (aJ a (Zx a))) (DkQ.b a)) (Jh i (Em a) (aJ a (Em a)) (aJ a (CM i))))) (AZ (KA (Dz a a a a) i) (RS (CM i) (Hu a) (SY (Zx a) (Em a) (jN (aL a (Em a)) (DkQ.a a)) (aL a (Zx a))) (Jh i (Em a) (jN (aL a (Em a)) (DkQ.a a)) (aL a (CM i)))))) (AJ (XF a)) (AL (XF a)) (AM (XF a)) (AN (XF a)) (AQ (XF a)) (LR (XF a) (DkQ.w a))) (GU (OW (Dz a a a a) (OT a)) (OF (OT a)) (λ i=>OJ i (Dz a a a a) (BO (KA (Dz a a a a) i) (Jh i (Em a) (aJ a (Em a)) (aJ a (CM i)))) (AZ (KA (Dz a a a a) i) (Jh i (Em a) (jN (aL a (Em a)) (DkQ.a a)) (aL a (CM i))))) (AJ (XF a)) (AL (XF a)) (AM (XF a)) (AN (XF a)) (AQ (XF a)) (LR (XF a) (DkQ.w a)))) (QV (Hu a) (BE (OT a)) (KQ (Hu a) (OT a) (KM (Zx a) (OT a) (HF (Hu a) (OT a)) (QI (Hu a) (OT a)))) (GU (OW (Dz a a a a) (OT a)) (OF (OT a)) (λ i=>OJ i (Dz a a a a) (BO (KA (Dz a a a a) i) (RS (CM i) (Hu a) (Ox (aJ a (Zx a)) (DkQ.b a)) (aJ a (CM i)))) (AZ (KA (Dz a a a a) i) (RS (CM i) (Hu a) (aL a (Zx a)) (aL a (CM i))))) (AJ (XF a)) (AL (XF a)) (AM (XF a)) (AN (XF a)) (AQ (XF a)) (LR (XF a) (DkQ.w a))) (GU (OW (Dz a a a a) (OT a)) (OF (OT a)) (λ i=>NQ i (Dz a a a a) i (N6 a (CM i))) (AJ (XF a)) (AL (XF a)) (AM (XF a)) (AN (XF a)) (AQ (XF a)) (LR (XF a) (DkQ.w a)))))) := by kernel_rfl
theorem cO (l : List Span) (k a b : Int) : (parL l k a b).length = l.length := rng_length _ _
theorem AXX : AK Try.prog zL (C_part.spec dDkQ) := VV C_part (λ _ => BKA) [] [2016] BBE (λ _ => by kernel_rfl) (λ _ => AA BDN AC) (λ (a : DkQ) h => by
 obtain ⟨⟨h1, h2⟩, h3, h4⟩ : (1 <= a.l.length /\ a.l.length <= 40) /\ 0 <= a.k /\ a.k <= a.l.length := h
 have e : IntKind.i64.wrap (a.k - 1) = a.k - 1 := TC (by omega) (by omega)
 have gj : ∀ {j : Nat}, j < a.l.length -> gD (parL a.l a.k a.a a.b) j = parM a.l a.k a.a a.b j := λ hj => KL _ _ _ hj
 have t : (a.k - 1).toNat = a.k.toNat - 1 := by omega
 show BFL a; rw [BLT]<;> delta JH BI BF EN MM ON Ep EB EA BY EL AF CN CO AS KA BE EU EC JL FY MN Ox jN ET GW FK HV IB HK GV FU HC DV FW EY Oo XS EP RX QU EK OK GZ Ai AP LI cQ Hu AD CI AU AG AZ AX AE BM GQ AW BL BD AO AR DD BA BK NC BO BJ CX HI BW BV AJ AQ NU AV FC CK AN AL LH HG FX FQ AM HE Xx DK ID DR GO CM BX OX BC PI HS DX CW BQ LA OJ XE WP LZ PX Af HQ ED Fa GT NB EO VM KZ PF IY SX MP XF Jv PO RV SY OW GU QV HF MX EI OE PR Dl JX OT OQ MJ WH KM PL TA GP TP N6 QI KQ LR OF Em RS NQ Io kD Dz Jh Zx aL aJ; simp only [CC, eq_self, implies_true, forall_const, e, cO, t]
 refine ⟨⟨by omega, by omega⟩, λ hk => ⟨⟨⟨by omega, by omega⟩, by omega, ⟨by omega, by omega⟩, by omega⟩, λ hl => ⟨⟨⟨by omega, by omega⟩, by omega, ⟨by omega, by omega⟩, by omega⟩, Nat.le_refl _, λ j hj => ?_⟩, λ hl => ⟨Nat.le_refl _, λ j hj => ?_⟩⟩, λ hk => ⟨λ hl => ⟨⟨⟨by omega, by omega⟩, by omega, ⟨by omega, by omega⟩, by omega⟩, Nat.le_refl _, λ j hj => ?_⟩, λ hl => by omega⟩⟩
 ·rw [gj hj]; unfold parM; rw [t]
  have q0 : ¬ a.k.toNat = a.k.toNat - 1 := by omega
  by_cases q1 : j = a.k.toNat
  ·subst q1
   simp [hk, hl, q0]
  ·by_cases q2 : j = a.k.toNat - 1
   ·simp only [decide_eq_false q1, decide_eq_true q2, decide_eq_true hk, Bool.false_and, Bool.and_self, cond_true, cond_false]
    rw [q2]; exact ⟨rfl, rfl⟩
   ·simp [hk, q1, q2]
 ·rw [gj hj]; unfold parM; rw [t]
  by_cases q2 : j = a.k.toNat - 1
  ·simp only [decide_eq_true q2, decide_eq_true hk, decide_eq_false hl, Bool.and_false, Bool.and_self, cond_true, cond_false]
   rw [q2]; exact ⟨rfl, rfl⟩
  ·simp [hl, q2]
 ·rw [gj hj]; unfold parM; rw [t]
  by_cases q1 : j = a.k.toNat
  ·subst q1
   simp [hk, hl]
  ·simp [hk, q1]) (λ _ => WY rfl rfl) _
structure DkW where
 w : Dk
 l : List Span
 a : Int
 b : Int
 x : Int
 y : Int
def M5 (l : List Span) (a b x y : Int) : List Span := parL (parL l a (wr (x - 1)) x) (wr (b + 1)) y (wr (y + 1))
def dDkW : List AVal -> Heap -> Option (DkW × List (Nat × Nat) × List Nat)
 | [.bptr id _, y, .d k, .d a, .d b, .d c], H => match rH H id, Xo y H with
  | some (w, q), some (l, f) => some (⟨w, l, HJ k, HJ a, HJ b, HJ c⟩, [(100, id), (101, q)], f)
  | _, _ => none
 | _, _ => none
def C_win : Ctr := { ro := [100, 101], α := DkW, xs := λ a => [.bptr 100 0, .d (DC a.l), .int a.a, .int a.b, .int a.x, .int a.y], L := λ a => dkL a.w, val := λ a => .d (DC (M5 a.l a.a a.b a.x a.y)), keep := λ a => dkK a.w, pre := λ a => [(1 <= a.l.length /\ a.l.length <= 40) /\ (0 <= a.a /\ a.a < a.l.length) /\ 0 <= a.b /\ a.b < a.l.length] }
def BRD : Ann := { ann 29 [(zL, C_part.spec dDkQ)] with E := [100, 101] }
def BUA (a : DkW) : Prop := CF Try.prog BRD AGG (AH AGG) (C_win.xs a) (AB (C_win.L a)) (C_win.val a) (C_win.keep a) [] []
abbrev Un:=DkW.l
abbrev Yg:=DkW.a
abbrev bG:=DkW.x
abbrev iX:=DkW.w
abbrev qQ:=DkW.b
abbrev kM:=DkW.y
abbrev NZ a:=AP (iX a)
abbrev R6 a b c d:=parL (Af a) b c d
abbrev Rb a b c d:=R6 a b (LZ c) d
abbrev kG a b c:=Rb a b c c
attribute [go_sem] Un Yg bG iX qQ kM NZ R6 Rb kG
theorem BXH (a : DkW) : (BUA a) = (GP (Ek (Un a)) (AF (λ i=>PG i (Un a) i)) (AE (Yg a)) (AR (AE (LZ (bG a))) (AE (bG a)) (AJ (NZ a)) (AL (NZ a)) (AM (NZ a)) (AN (NZ a)) (AQ (NZ a)) (BP (NZ a)) (PN (NZ a) (BN (NZ a)) (λ i=>BG i (NZ a)) (IY (iX a)) BQ (NJ (NZ a)) (GT (iX a)) (FM (NZ a)) (LX (NZ a) (CW (JS (NZ a)) (λ i=>NB i (iX a)) BQ (HP (NZ a)) (GT (iX a)) (SC (NZ a)) (KR (KZ (Un a)) 40) (BX (Yg a)) (Cd (Yg a) (KZ (Un a))))))) (GU (And (Ek (kG (Un a) (Yg a) (bG a))) (AD (AF (λ i=>PG i (kG (Un a) (Yg a) (bG a)) i)) (AE (DO (qQ a))) (AR (AE (kM a)) (AE (DO (kM a))) (AJ (NZ a)) (AL (NZ a)) (AM (NZ a)) (AN (NZ a)) (AQ (NZ a)) (BP (NZ a)) (PN (NZ a) (BN (NZ a)) (λ i=>BG i (NZ a)) (IY (iX a)) BQ (NJ (NZ a)) (GT (iX a)) (FM (NZ a)) (LX (NZ a) (CW (JS (NZ a)) (λ i=>NB i (iX a)) BQ (HP (NZ a)) (GT (iX a)) (SC (NZ a)) (KR (KZ (kG (Un a) (Yg a) (bG a))) 40) (BX (DO (qQ a))) (Cd (DO (qQ a)) (KZ (kG (Un a) (Yg a) (bG a)))))))))) (KU (M5 (Un a) (Yg a) (qQ a) (bG a) (kM a)) (R6 (kG (Un a) (Yg a) (bG a)) (DO (qQ a)) (kM a) (DO (kM a)))) (λ i=>PL i (M5 (Un a) (Yg a) (qQ a) (bG a) (kM a)) (KA (M5 (Un a) (Yg a) (qQ a) (bG a) (kM a)) i) (R6 (kG (Un a) (Yg a) (bG a)) (DO (qQ a)) (kM a) (DO (kM a)))) (AJ (NZ a)) (AL (NZ a)) (AM (NZ a)) (AN (NZ a)) (AQ (NZ a)) (LR (NZ a) (iX a)))) := by kernel_rfl
theorem BUL : AK Try.prog AID (C_win.spec dDkW) := VV C_win (λ _ => BRD) [] [] BCR (λ _ => by kernel_rfl) (λ _ => AA AXX AC) (λ (a : DkW) h => by
 obtain ⟨⟨h1, h2⟩, ⟨h3, h4⟩, h5, h6⟩ : (1 <= a.l.length /\ a.l.length <= 40) /\ (0 <= a.a /\ a.a < a.l.length) /\ 0 <= a.b /\ a.b < a.l.length := h
 have e : IntKind.i64.wrap (a.b + 1) = a.b + 1 := TC (by omega) (by omega)
 show BUA a; rw [BXH]<;> delta JH BI BF EN MM ON Ep EB EA BY EL AF CN CO AS KA BE EU FY NT ET GW FK HV IB HK GV FU HC DV FW EY LD Oo QU EK OK AP LI Un Yg bG iX qQ kM AD CI AU FT GN AG GK AZ AX AE FA BM GQ AW JP BL BD AO AR DD BA BK II NC BO BJ CX HI BW BV AJ AQ NU JD AV EH FC CK AN AL LH GH JE JO HG FX FQ FO AM IV FD Db HE Xx ID DR GO ES BX CG DO NZ OX BC PI IW HS DX JA CW EZ BQ Kq OJ XE EV WP LZ PX FH Af HQ EW DU Fa GT FZ GI BN NB GA GC EO HD VM KZ IY IH PQ MP Ff Bw MU IS ND MC NM Hp Jv PO OW GU BP FJ FI MX EI UJ OE BH BG IP PR VZ YM YJ LU HY ZQ Lu ZY XZ CQ GD NE WH KU HP YB KR HM PL TA XT GP R6 LR ZW FM Cd NJ LN JS Rb Bz Io kG SC PG LX Ek PN; simp only [CC, eq_self, implies_true, forall_const]; simp only [cO]
 refine ⟨⟨⟨by omega, h2⟩, h3, by omega⟩, ⟨⟨by omega, h2⟩, by omega, by omega⟩, ?_⟩
 have : M5 a.l a.a a.b a.x a.y = parL (parL a.l a.a (IntKind.i64.wrap (a.x - 1)) a.x) (IntKind.i64.wrap (a.b + 1)) a.y (IntKind.i64.wrap (a.y + 1)) := rfl
 rw [this]; simp only [cO]
 simp) (λ _ => WY rfl rfl) _
def AQN (s : Span) : Prop := CF Try.prog (ann 5 []) AEV (AH AEV) (xS1 s) (AB []) (.int s.lo) [] [] []
theorem BBF (s : Span) : (AQN s) = (BL s) := by kernel_rfl
def ARS := pD dS1 λ s => .int s.lo
def BAF (s : Span) : Prop := CF Try.prog (ann 5 []) APX (AH APX) (xS1 s) (AB []) (.int s.hi) [] [] []
theorem BLN (s : Span) : (BAF s) = (AV s) := by kernel_rfl
def AYH := pD dS1 λ s => .int s.hi
def C_least : Ctr := { α := One, xs := λ _ => [], val := λ _ => .agg [.fn (.func Vo) [] []], keep := λ _ => [] }
def dN0c : List AVal -> Heap -> Option (One × List (Nat × Nat) × List Nat)
 | [], _ => some (default, [], [])
 | _, _ => none
def C_most : Ctr := { α := One, xs := λ _ => [], val := λ _ => .agg [.fn (.func dI) [] []], keep := λ _ => [] }
def AYV (x : One) : Prop := CF Try.prog (ann 2 []) AMX (AH AMX) [] (AB []) (C_least.val x) [] [] []
theorem BCX (x : One) : (AYV x) = (FL) := by kernel_rfl
def BJH (x : One) : Prop := CF Try.prog (ann 2 []) AXD (AH AXD) [] (AB []) (C_most.val x) [] [] []
theorem BNR (x : One) : (BJH x) = (FL) := by kernel_rfl
theorem BCL : AK Try.prog Vo ARS := Ki xS1 hS1 λ x _ => Pn (A := ann 5 []) (ren := []) (fz := []) BBG (by kernel_rfl) AC (by
 show AQN x; rw [BBF]<;> delta BI AS AE BL; try simp)
theorem BFB : AK Try.prog dI AYH := Ki xS1 hS1 λ x _ => Pn (A := ann 5 []) (ren := []) (fz := []) BIG (by kernel_rfl) AC (by
 show BAF x; rw [BLN]<;> delta BF AS AZ AW AV; try simp)
theorem BDQ : AK Try.prog AOL (C_least.spec dN0c) := VV C_least (λ _ => ann 2 []) [] [] BKL (λ _ => by kernel_rfl) (λ _ => AC) (λ (x : One) _ => by
 show AYV x; rw [BCX]<;> delta FL; try simp) (λ _ => WY rfl rfl) _
theorem BLQ : AK Try.prog AVK (C_most.spec dN0c) := VV C_most (λ _ => ann 2 []) [] [] BNM (λ _ => by kernel_rfl) (λ _ => AC) (λ (x : One) _ => by
 show BJH x; rw [BNR]<;> delta FL; try simp) (λ _ => WY rfl rfl) _
def gLo (l : List Span) : Int := (l.map (·.lo)).foldl MY (gD l 0).lo
def gHi (l : List Span) : Int := (l.map (·.hi)).foldl MY (gD l 0).hi
def C_grL : Ctr := { α := List Span, xs := λ l => [.agg [.fn (.func Vo) [] []], .d (DC l)], val := λ l => .int (gLo l), keep := λ _ => [], pre := λ l => [0 < l.length /\ l.length < 1073741824] }
def C_grH : Ctr := { α := List Span, xs := λ l => [.agg [.fn (.func dI) [] []], .d (DC l)], val := λ l => .int (gHi l), keep := λ _ => [], pre := λ l => [0 < l.length /\ l.length < 1073741824] }
def BTW : List AVal -> Heap -> Option (List Span × List (Nat × Nat) × List Nat)
 | [.agg [.fn (.func f) _ _], y], H => if f = Vo then match Xo y H with
  | some (l, f) => some (l, [], f)
  | none => none else none
 | _, _ => none
def BQS : List AVal -> Heap -> Option (List Span × List (Nat × Nat) × List Nat)
 | [.agg [.fn (.func f) _ _], y], H => if f = dI then match Xo y H with
  | some (l, f) => some (l, [], f)
  | none => none else none
 | _, _ => none
def gr3 (l : List Span) (v : AVal) (f : List Int) : Shape := { α := NI, dflt := default, T := λ s => ⟨[(2, .bptr 201 0), (5, .int s.m), (14, .d (DC l)), (15, .int l.length), (16, .int s.k)], [(201, .live (.box [v]))]⟩, inv := λ s => s.k <= l.length /\ s.m = (f.take s.k).foldl MY (gD f 0), meas := λ s => l.length - s.k, first := [(201, 1000)] }
def BQH (l : List Span) : Ann := { ann 28 [(Vo, ARS)] with loops := λ id => if id = 3 then some [gr3 l (.fn (.func Vo) [] []) (l.map (·.lo))] else none }
def BRB (l : List Span) : Prop := CF Try.prog (BQH l) Xn (AH Xn) (C_grL.xs l) (AB []) (C_grL.val l) [] [] []
abbrev xD:=@List.foldl Int Int
abbrev Ut:=@List.map Span Int
abbrev jG:=@List.take Int
attribute [go_sem] xD Ut jG
theorem BWO (l : List Span) : (BRB l) = (SP 0 (EL l) (hd96 (λ i=>SH (AG (Kj i (ZC l TQ)) (NO l) (LW l) (Nx l) (BZ (RN i))) (EU (RN i) (EL l)) (vI i) (xD Ox (DN (Ut BI l) 0) (jG (RN i) (Ut BI l))))) (AIK (λ i=>NR (IH (RN i) (EL l) (Kj i (xD Ox (DN (Ut BI l) 0) (jG (RN i) (Ut BI l))))) (RN i) (ZS l) (FF (RN i) (EL l) (hd96 (λ j=>DW (AG (Kj j (Ox (vI i) (ZC l (RN i)))) (NO l) (LW l) (Nx l) (BR (RN j) (RN i))) (IH (RN j) (EL l) (Kj j (xD Ox (DN (Ut BI l) 0) (jG (RN j) (Ut BI l))))) (EL l) (RN j) (RN i)))) (AS (gLo l) (vI i))))) := by kernel_rfl
def BRO (l : List Span) : Ann := { ann 28 [(dI, AYH)] with loops := λ id => if id = 3 then some [gr3 l (.fn (.func dI) [] []) (l.map (·.hi))] else none }
def BUH (l : List Span) : Prop := CF Try.prog (BRO l) Xn (AH Xn) (C_grH.xs l) (AB []) (C_grH.val l) [] [] []
theorem BUP (l : List Span) : (BUH l) = (SP 0 (EL l) (hd96 (λ i=>SH (AG (Kj i (Ac l TQ)) (NO l) (LW l) (Nx l) (BZ (RN i))) (EU (RN i) (EL l)) (vI i) (xD Ox (DN (Ut BF l) 0) (jG (RN i) (Ut BF l))))) (AIK (λ i=>NR (IH (RN i) (EL l) (Kj i (xD Ox (DN (Ut BF l) 0) (jG (RN i) (Ut BF l))))) (RN i) (ZS l) (FF (RN i) (EL l) (hd96 (λ j=>DW (AG (Kj j (Ox (vI i) (Ac l (RN i)))) (NO l) (LW l) (Nx l) (BR (RN j) (RN i))) (IH (RN j) (EL l) (Kj j (xD Ox (DN (Ut BF l) 0) (jG (RN j) (Ut BF l))))) (EL l) (RN j) (RN i)))) (AS (gHi l) (vI i))))) := by kernel_rfl
theorem AZT {f : Span -> Int} {l : List Span} (h : 0 < l.length) : gD (l.map f) 0 = f (gD l 0) := ATW f h
theorem BXL : AK Try.prog hZ (C_grL.spec BTW) := VV C_grL BQH [] [] W0 (λ _ => by kernel_rfl) (λ _ => AA BCL AC) (λ (l : List Span) h => by
 obtain ⟨h1, h2⟩ : 0 < l.length /\ l.length < 1073741824 := h
 show BRB l; rw [BWO]<;> delta BI BF MM ON BY EL AF CN CO AS KA BE EU EC JL FY MN NT Ox LS hd96 vI RN AIK EP DN xD Ut jG AD AG AZ AX AE BM AW BL BA HI AV GH DK BX DO BC HH CE OJ DZ JB BR LG FS IH NO JM RV YT On VQ MQ BZ DW XY TQ TK LW TL FF SP ZD NR SH ZC ZS Kj Nx; simp only [CC, eq_self, implies_true, forall_const, Int.toNat_zero]
 refine ⟨⟨by omega, by omega⟩, ⟨⟨0, (gD l 0).lo⟩, ⟨rfl, rfl⟩, Nat.zero_le _, by rw [AZT h1]; rfl⟩, λ s ⟨s1, s2⟩ => ⟨λ hlt => ⟨by omega, ⟨s.k + 1, MY s.m (gD l s.k).lo⟩, ⟨rfl, (HL (by omega)).symm⟩, ⟨by show s.k + 1 <= _; omega, ?_⟩, by show l.length - (s.k + 1) < _; omega⟩, λ hge => ?_⟩⟩
 ·show MY s.m (gD l s.k).lo = _
  rw [cC (by simp; omega), List.foldl_append, <- s2, ATW _ (by omega)]; rfl
 ·rw [s2, List.take_of_length_le (by simp; omega), AZT h1]; rfl) (λ _ => WY rfl rfl) _
theorem BXR : AK Try.prog hZ (C_grH.spec BQS) := VV C_grH BRO [] [] W0 (λ _ => by kernel_rfl) (λ _ => AA BFB AC) (λ (l : List Span) h => by
 obtain ⟨h1, h2⟩ : 0 < l.length /\ l.length < 1073741824 := h
 show BUH l; rw [BUP]<;> delta BI BF MM ON BY EL AF CN CO AS KA BE EU EC JL FY MN NT Ox LS hd96 vI RN AIK EP DN xD Ut jG AD AG AZ AX AE BM AW BL BA HI AV GH DK BX DO BC HH CE OJ DZ JB BR LG FS IH NO JM RV YT On VQ MQ BZ DW XY TQ TK LW TL FF SP ZD NR SH Ac ZS Kj Nx; simp only [CC, eq_self, implies_true, forall_const, Int.toNat_zero]
 refine ⟨⟨by omega, by omega⟩, ⟨⟨0, (gD l 0).hi⟩, ⟨rfl, rfl⟩, Nat.zero_le _, by rw [AZT h1]; rfl⟩, λ s ⟨s1, s2⟩ => ⟨λ hlt => ⟨by omega, ⟨s.k + 1, MY s.m (gD l s.k).hi⟩, ⟨rfl, (HL (by omega)).symm⟩, ⟨by show s.k + 1 <= _; omega, ?_⟩, by show l.length - (s.k + 1) < _; omega⟩, λ hge => ?_⟩⟩
 ·show MY s.m (gD l s.k).hi = _
  rw [cC (by simp; omega), List.foldl_append, <- s2, ATW _ (by omega)]; rfl
 ·rw [s2, List.take_of_length_le (by simp; omega), AZT h1]; rfl) (λ _ => WY rfl rfl) _
end Go.Bal
