/- Package chart, with the reference: Truths with all its errors; what it returns can be. -/
import Derived.Test.YtdbjalgfomknhaaGreatChZe
set_option linter.unusedVariables false
set_option linter.unusedSimpArgs false
namespace Go.Bal
open Go Go.Sym Go.Proofs
def Z8 (x : TrI) : Int := bif MO x.a != 0 then MO x.a else bif !KT x.m 0 (wr ((x.a.c.ms.length : Int) - 1)) then 2 else 6
def RR (x : TrI) : Tru × Int := bif MO x.a != 0 then (vK, MO x.a) else bif !KT x.m 0 (wr ((x.a.c.ms.length : Int) - 1)) then (vK, 2) else bif !(GD (CV x.a)).2 then (vK, 6) else bif (cZ x).all Du then (dU x, 0) else (vK, 5)
def C_Tru : Ctr := { α := TrI, xs := xTrI, val := λ x => .tup [.d (eTru (RR x).1), .int (RR x).2], keep := λ _ => [], pre := λ x => [x.a.c.ms.length < 4611686018427387904 /\ x.a.c.ns.length < 4611686018427387904 /\ x.a.z.length < 4611686018427387904] }
def BGA : Ann := { ann 113 [(Jy, C_beg.spec pZ), (sA, vS), (Up, C_times.spec Ze)] with cut := λ id => if id = 9 then some [] else none }
def BAE (x : TrI) : Prop := CH Try.prog BGA Ky (AH Ky) (xTrI x) (AB []) (.tup [.d (eTru vK), .int (Z8 x)]) [] [] []
abbrev xZ (x : TrI) : List Mk := IK x.a.c.ms.length λ (i : Nat) => gD x.a.c.ms i
abbrev wT (x : TrI) : Nat := (xZ x).length
abbrev ACE (x : TrI) (i : Nat) : Mk := gD (xZ x) i
abbrev xO (x : TrI) : List Nt := IK x.a.c.ns.length λ (i : Nat) => gD x.a.c.ns i
abbrev yU (x : TrI) : Nat := (xO x).length
abbrev xG (x : TrI) (i : Nat) : Nt := gD (xO x) i
abbrev ADS (x : TrI) (i : Nat) : Span := (xG x i).t
abbrev ABP (x : TrI) (i : Nat) : Span := (xG x i).s
abbrev xS (x : TrI) : List Int := IK x.a.z.length λ (i : Nat) => gD x.a.z i
abbrev wZ (x : TrI) : Nat := (xS x).length
abbrev D3 (x : TrI) : Cht := Cht.mk x.a.c.p x.a.c.base x.a.c.scale x.a.c.off (xZ x) (xO x)
abbrev I0 (x : TrI) : CZ := CZ.mk (D3 x) (xS x)
abbrev zR (x : TrI) : Int := MO (I0 x)
abbrev KR : Prop := 0 = 0
abbrev Uv (x : TrI) : Dk := CV (I0 x)
abbrev Ow (x : TrI) : Cht := (Uv x).c
abbrev pL (x : TrI) : Span := (Ow x).p
abbrev M1 (x : TrI) : Int := (pL x).lo
abbrev U5 (x : TrI) : Prop := M1 x = M1 x
abbrev R4 (x : TrI) : Int := (pL x).hi
abbrev zW (x : TrI) : Prop := R4 x = R4 x
abbrev oI (x : TrI) : Int := (Ow x).base
abbrev N8 (x : TrI) : Prop := oI x = oI x
abbrev pP (x : TrI) : Int := (Ow x).scale
abbrev D4 (x : TrI) : Prop := pP x = pP x
abbrev rH (x : TrI) : Int := (Ow x).off
abbrev G7 (x : TrI) : Prop := rH x = rH x
abbrev E2 (x : TrI) : List Mk := (Ow x).ms
abbrev eX (x : TrI) : Nat := (E2 x).length
abbrev pQ (x : TrI) (i : Nat) : Mk := gD (E2 x) i
abbrev qC (x : TrI) : List Mk := IK (eX x) λ (i : Nat) => pQ x i
abbrev Qd (x : TrI) : Nat := (qC x).length
abbrev H6 (x : TrI) (i : Nat) : Mk := gD (qC x) i
abbrev M5 (x : TrI) (i : Nat) : Int := (H6 x i).pl
abbrev zT (x : TrI) (i : Nat) : Int := (pQ x i).pl
abbrev S0 (x : TrI) (i : Nat) : Int := (H6 x i).ht
abbrev M7 (x : TrI) (i : Nat) : Int := (pQ x i).ht
abbrev eF (x : TrI) : List Nt := (Ow x).ns
abbrev eY (x : TrI) : Nat := (eF x).length
abbrev eJ (x : TrI) (i : Nat) : Nt := gD (eF x) i
abbrev Uw (x : TrI) : List Nt := IK (eY x) λ (i : Nat) => eJ x i
abbrev oU (x : TrI) : Nat := (Uw x).length
abbrev qX (x : TrI) (i : Nat) : Nt := gD (Uw x) i
abbrev N5 (x : TrI) (i : Nat) : Int := (qX x i).mi
abbrev P0 (x : TrI) (i : Nat) : Int := (eJ x i).mi
abbrev U9 (x : TrI) (i : Nat) : Span := (qX x i).t
abbrev I9 (x : TrI) (i : Nat) : Int := (U9 x i).lo
abbrev A4 (x : TrI) (i : Nat) : Span := (eJ x i).t
abbrev E8 (x : TrI) (i : Nat) : Int := (A4 x i).lo
abbrev G0 (x : TrI) (i : Nat) : Int := (U9 x i).hi
abbrev E7 (x : TrI) (i : Nat) : Int := (A4 x i).hi
abbrev R7 (x : TrI) (i : Nat) : Span := (qX x i).s
abbrev A7 (x : TrI) (i : Nat) : Int := (R7 x i).lo
abbrev O5 (x : TrI) (i : Nat) : Span := (eJ x i).s
abbrev D7 (x : TrI) (i : Nat) : Int := (O5 x i).lo
abbrev G8 (x : TrI) (i : Nat) : Int := (R7 x i).hi
abbrev T4 (x : TrI) (i : Nat) : Int := (O5 x i).hi
abbrev P6 (x : TrI) (i : Nat) : Bool := (Uv x).sp i
abbrev T9 (x : TrI) : Prop := ∀ (i : Nat), i < 40 -> P6 x i = P6 x i
abbrev rU (x : TrI) (n : Int) : Bool := hasN (Uw x) n
abbrev F4 (x : TrI) (n : Int) : Bool := hasN (eF x) n
abbrev R3 (x : TrI) (n : Int) : Int := (Uv x).st n
abbrev zS (x : TrI) : Prop := ∀ (n : Int), R3 x n = R3 x n
abbrev rJ (x : TrI) (n : Int) : Nt := ntOf (Uw x) n
abbrev P2 (x : TrI) (n : Int) : Int := (rJ x n).mi
abbrev pB (x : TrI) (n : Int) : Nt := ntOf (eF x) n
abbrev K4 (x : TrI) (n : Int) : Int := (pB x n).mi
abbrev A2 (x : TrI) (n : Int) : Span := (rJ x n).t
abbrev B8 (x : TrI) (n : Int) : Int := (A2 x n).lo
abbrev F1 (x : TrI) (n : Int) : Span := (pB x n).t
abbrev M2 (x : TrI) (n : Int) : Int := (F1 x n).lo
abbrev M3 (x : TrI) (n : Int) : Int := (A2 x n).hi
abbrev U3 (x : TrI) (n : Int) : Int := (F1 x n).hi
abbrev U1 (x : TrI) (n : Int) : Span := (rJ x n).s
abbrev E6 (x : TrI) (n : Int) : Int := (U1 x n).lo
abbrev C1 (x : TrI) (n : Int) : Span := (pB x n).s
abbrev A8 (x : TrI) (n : Int) : Int := (C1 x n).lo
abbrev zU (x : TrI) (n : Int) : Int := (U1 x n).hi
abbrev S7 (x : TrI) (n : Int) : Int := (C1 x n).hi
theorem BNC (x : TrI) : (BAE x) = ((x.a.c.p.lo = x.a.c.p.lo /\ x.a.c.p.hi = x.a.c.p.hi /\ x.a.c.base = x.a.c.base /\ x.a.c.scale = x.a.c.scale /\ x.a.c.off = x.a.c.off /\ wT x = x.a.c.ms.length /\ (∀ (i : Nat), i
 < wT x -> (ACE x i).pl = (gD x.a.c.ms i).pl /\ (ACE x i).ht = (gD x.a.c.ms i).ht) /\ yU x = x.a.c.ns.length /\ (∀ (i : Nat), i < yU x -> (xG x i).mi = (gD x.a.c.ns i).mi /\ (ADS x i).lo =
 (gD x.a.c.ns i).t.lo /\ (ADS x i).hi = (gD x.a.c.ns i).t.hi /\ (ABP x i).lo = (gD x.a.c.ns i).s.lo /\ (ABP x i).hi = (gD x.a.c.ns i).s.hi) /\ wZ x = x.a.z.length /\ (∀ (i : Nat), i < wZ x -> gD
 (xS x) i = gD x.a.z i) /\ (wT x < 4611686018427387904 /\ yU x < 4611686018427387904 /\ wZ x < 4611686018427387904) /\ AM (D3 x) = 0) /\ bif zR x != 0 then KR /\ KR /\
 KR /\ KR /\ KR /\ KR /\ Z8 x = zR x else bif !KT x.m 0 (IntKind.i64.wrap ((↑x.a.c.ms.length : Int) - 1)) then KR /\ KR /\ KR /\ KR /\ KR /\ KR /\ Z8
 x = 2 else (U5 x /\ zW x /\ N8 x /\ D4 x /\ G7 x /\ Qd x = eX x /\ (∀ (i : Nat), i < Qd x -> M5 x i = zT x i /\ S0 x i = M7 x i) /\ oU x =
 eY x /\ (∀ (i : Nat), i < oU x -> N5 x i = P0 x i /\ I9 x i = E8 x i /\ G0 x i = E7 x i /\ A7 x i = D7 x i /\ G8 x i = T4 x i) /\ T9 x /\
 gH = gH /\ (∀ (n : Int), rU x n = F4 x n) /\ zS x /\ (∀ (n : Int), P2 x n = K4 x n /\ B8 x n = M2 x n /\ M3 x n = U3 x n /\ E6 x n = A8 x n /\
 zU x n = S7 x n) /\ U5 x /\ zW x /\ N8 x /\ D4 x /\ G7 x /\ eX x = Qd x /\ (∀ (i : Nat), i < eX x -> zT x i = M5 x i /\ M7 x i = S0
 x i) /\ eY x = oU x /\ (∀ (i : Nat), i < eY x -> P0 x i = N5 x i /\ E8 x i = I9 x i /\ E7 x i = G0 x i /\ D7 x i = A7 x i /\ T4 x i = G8
 x i) /\ T9 x /\ gH = gH /\ (∀ (n : Int), F4 x n = rU x n) /\ zS x /\ (∀ (n : Int), K4 x n = P2 x n /\ M2 x n = B8 x n /\ U3 x n = M3 x n /\ A8 x n =
 E6 x n /\ S7 x n = zU x n) /\ 1 <= Qd x /\ Qd x <= 40 /\ ∀ (j : Int), rU x j = true -> 0 <= j /\ j < (↑(Qd x) : Int)) /\ (bif !(GD (Dk.mk (Cht.mk (pL x) (oI x)
 (pP x) (rH x) (qC x) (Uw x)) (Uv x).st (Uv x).sp)).snd then KR /\ KR /\ KR /\ KR /\ KR /\ KR /\ Z8 x = 6 else False) /\ True) := by
 kernel_rfl
def BIL : Ann := { ann 113 [(Jy, C_begX.spec pZ)] with cut := λ id => if id = 6 then some [] else none }
def BGN (x : TrI) : Prop := CH Try.prog BIL Ky (AH Ky) (xTrI x) (AB []) (.tup [.d (eTru vK), .int (MO x.a)]) [] [] []
theorem BKA (x : TrI) : (BGN x) = (AE (QS (QE x) (VG (QE x) (BO (QE x)) (BL (QE x)) (BE (QE x)) (NK x) (WF (DQ (QE x)) (QE x) (NK x)) (RO (PW (Zn x))))) (EK (JZ (RX (XB (Zn x) (NK x)))) (Sf (Zz AI (AR (RX (NK x)) (RX (XB (Zn x) (NK x)))))) JV) IH) := by kernel_rfl
theorem AUX : ∀ (l : List Mk) (a : Int), fP a l = 0 ∨ fP a l = 30 ∨ fP a l = 9
 | [], _ => .inl rfl
 | m :: r, a => by
  unfold fP
  cases (bif !KT m.pl 0 10000 then true else !KT m.ht 0 1000) with
  | true => exact .inr (.inl rfl)
  | false =>
   cases decide (m.pl <= a) with
   | true => exact .inr (.inr rfl)
   | false => exact AUX r m.pl
theorem AZI (c : Cht) : AM c ≠ 6 := by
 have hd : TA c = 0 ∨ TA c = 3 ∨ TA c = 30 := by
  unfold TA
  cases (bif !KT c.ms.length 1 40 then true else decide ((c.ns.length : Int) > 20)) with
  | true => exact .inr (.inl rfl)
  | false =>
   cases (bif (bif (bif !UQ c.p 1 600 then true else !KT c.base (-1000000) 1000000) then true else !KT c.scale 0 1000) then true else !KT c.off 0 1000) with
   | true => exact .inr (.inr rfl)
   | false => exact .inl rfl
 have hm := AUX c.ms (-1)
 unfold AM
 rcases hd with e | e | e <;> rcases hm with m | m | m <;> rw [e] <;> try rw [m]
 all_goals first
  | (intro h; cases h; done)
  | skip
 cases (!c.ns.all λ n => RF n c.ms.length) with
 | true => intro h; cases h
 | false => cases Rq (hY c.ns) c.ns.length <;> (intro h; cases h)
theorem ACF (a : CZ) : MO a ≠ 0 /\ CF a = MO a /\ CF a ≠ 6 ∨ MO a = 0 /\ AM a.c = 0 /\ (GD (CV a)).2 = false /\ CF a = 6 ∨ MO a = 0 /\ AM a.c = 0 /\ (GD (CV a)).2 = true /\ CF a = 0 := by
 by_cases h0 : AM a.c = 0
 ·cases hz : rX a with
  | false =>
   left
   have e1 : MO a = 2 := by unfold MO; rw [h0, hz]; rfl
   have e2 : CF a = 2 := by unfold CF; rw [h0, hz]; rfl
   rw [e1, e2]; decide
  | true =>
   right
   have e1 : MO a = 0 := by unfold MO; rw [h0, hz]; rfl
   cases ht : (GD (CV a)).2 with
   | false =>
    left
    have e2 : CF a = 6 := by unfold CF; rw [h0, hz, ht]; rfl
    exact ⟨e1, h0, rfl, e2⟩
   | true =>
    right
    have e2 : CF a = 0 := by unfold CF; rw [h0, hz, ht]; rfl
    exact ⟨e1, h0, rfl, e2⟩
 ·left
  have h' : (AM a.c == 0) = false := by simpa using h0
  have e1 : MO a = AM a.c := by unfold MO; rw [h']; rfl
  have e2 : CF a = AM a.c := by unfold CF; rw [h']; rfl
  exact ⟨by rw [e1]; exact h0, by rw [e1, e2], by rw [e2]; exact AZI _⟩
theorem BTR (x : TrI) (h : x.a.c.ms.length < 4611686018427387904 /\ x.a.c.ns.length < 4611686018427387904 /\ x.a.z.length < 4611686018427387904) (h0 : AM x.a.c = 0) (hf : MO x.a ≠ 0 ∨ KT x.m 0 (wr ((x.a.c.ms.length : Int) - 1)) = false ∨ (GD (CV x.a)).2 = false) : BAE x := by
 obtain ⟨_, hm, _⟩ := IX h0
 rw [BNC]; delta xZ wT ACE xO yU xG ADS ABP xS wZ D3 I0 zR KR Uv Ow pL M1 U5 R4 zW oI N8 pP D4 rH G7 E2 eX pQ qC Qd H6 M5 zT S0 M7 eF eY eJ Uw oU qX N5 P0 U9 I9 A4 E8 G0 E7 R7 A7 O5 D7 G8 T4 P6 T9 rU F4 R3 zS rJ P2 pB K4 A2 B8 F1 M2 M3 U3 U1 E6 C1 A8 zU S7; simp only [CC, eq_self, implies_true, forall_const, CU, WD, Ev, Mb]
 refine ⟨⟨h, h0⟩, λ h1 => ?_, λ h1 => ⟨λ h2 => ?_, λ h2 => ⟨⟨hm.1, hm.2, (Qu h0).1⟩, λ h3 => ?_, λ h3 => ?_⟩⟩⟩
 ·unfold Z8; rw [h1]; rfl
 ·unfold Z8 wr; rw [h1, h2]; rfl
 ·unfold Z8 wr; rw [h1, h2]; rfl
 ·rcases hf with q | q | q
  ·have : MO x.a = 0 := by simpa using h1
   exact q this
  ·unfold wr at q; rw [h2] at q; cases q
  ·rw [h3] at q; cases q
theorem BUI : AJ Try.prog lH (C_Tru.spec dTrI) := okT C_Tru (λ (x : TrI) h => by
 have h : x.a.c.ms.length < 4611686018427387904 /\ x.a.c.ns.length < 4611686018427387904 /\ x.a.z.length < 4611686018427387904 := h
 show FnT Try.prog lH (xTrI x) (AB []) (.tup [.d (eTru (RR x).1), .int (RR x).2]) []
 have err : ∀ e, AM x.a.c = 0 -> (MO x.a ≠ 0 ∨ KT x.m 0 (wr ((x.a.c.ms.length : Int) - 1)) = false ∨ (GD (CV x.a)).2 = false) -> Z8 x = e -> FnT Try.prog lH (xTrI x) (AB []) (.tup [.d (eTru vK), .int e]) [] := λ e h0 hf he => by
  rw [<- he]
  exact Hp (A := BGA) (L := []) (keep := []) (ren := []) (fz := []) qO (by kernel_rfl) (AA J1 (AA nD (AA nT AC))) (BTR x h h0 hf)
 rcases ACF x.a with ⟨b1, b2, _⟩ | ⟨b1, b2, b3, b4⟩ | ⟨b1, b2, b3, b4⟩
 ·have hb : (MO x.a != 0) = true := by simpa using b1
  have e : RR x = (vK, MO x.a) := by unfold RR; rw [hb]; rfl
  rw [e]
  by_cases h0 : AM x.a.c = 0
  ·exact err _ h0 (.inl b1) (by unfold Z8; rw [hb]; rfl)
  ·refine Hp (A := BIL) (L := []) (keep := []) (ren := []) (fz := []) qO (by kernel_rfl) (AA ANF AC) ?_
   show BGN x; rw [BKA]<;> delta BG BJ EC ES ET BW AD BU CL AR EK EJ GW EX HP HN HJ GT GB HC DU GG FE JW IH FP FK VV PW NJ JV DO LY RX Jf SW NK AE CR FA BB QE GA AF PX AY AU SX AG EM EZ BC XG QF lT Zz AX FC BM CJ AK AN DD BH HX BY BP CX Bj HZ BN CY BS CE FU AV DA AQ AZ PF LX DQ CP FT AS AP ID AT EG CM AHL IY EN HV AI DT EL FV Zn EP HW DB FN CB FM XB EA MB FQ BE FO FZ LL GH IC BO OB CS EE FI BI BL HM MY KO MV JZ RS SP OY PC VB WF Ao RJ QS RO VG Sf; simp only [CC, eq_self, implies_true, forall_const, CU, WD]
   refine ⟨⟨h, h0⟩, λ q => ?_⟩
   rw [hb] at q; cases q
 ·have hb : (MO x.a != 0) = false := by simpa using b1
  cases hi : KT x.m 0 (wr ((x.a.c.ms.length : Int) - 1)) with
  | false =>
   have e : RR x = (vK, 2) := by unfold RR; rw [hb, hi]; rfl
   rw [e]; exact err _ b2 (.inr (.inl hi)) (by unfold Z8; rw [hb, hi]; rfl)
  | true =>
   have e : RR x = (vK, 6) := by unfold RR; rw [hb, hi, b3]; rfl
   rw [e]; exact err _ b2 (.inr (.inr b3)) (by unfold Z8; rw [hb, hi]; rfl)
 ·have hb : (MO x.a != 0) = false := by simpa using b1
  obtain ⟨_, hm, _⟩ := IX b2
  cases hi : KT x.m 0 (wr ((x.a.c.ms.length : Int) - 1)) with
  | false =>
   have e : RR x = (vK, 2) := by unfold RR; rw [hb, hi]; rfl
   rw [e]; exact err _ b2 (.inr (.inl hi)) (by unfold Z8; rw [hb, hi]; rfl)
  | true =>
   have hmm := GX.1 hi
   rw [show wr ((x.a.c.ms.length : Int) - 1) = (x.a.c.ms.length : Int) - 1 from Bc (by omega) (by omega)] at hmm
   have pr : AOY x := ⟨h, b4, by omega, by omega⟩
   cases hk : (cZ x).all Du with
   | true =>
    have e : RR x = (dU x, 0) := by unfold RR; rw [hb, hi, b3, hk]; rfl
    rw [e]
    exact Hp (A := BQH x) (L := []) (keep := []) (ren := []) (fz := [301, 302]) qO (by kernel_rfl) (AA J1 (AA nD (AA AVD (AA ANG (AA AEP (AA ASH (AA BTQ (AA zH AC)))))))) (BSN x pr hk) (AOJ Kn (itTr x) rfl rfl AC lP (by kernel_rfl) (by kernel_rfl))
   | false =>
    have e : RR x = (vK, 5) := by unfold RR; rw [hb, hi, b3, hk]; rfl
    rw [e]
    exact Hp (A := AZX x) (L := []) (keep := []) (ren := []) (fz := []) qO (by kernel_rfl) (AA J1 (AA nD (AA AVD (AA ANG (AA AEP AC))))) (BUT x pr hk)) _
theorem BBZ {w : Dk} {l : List Span} {i : Nat} (hi : i < l.length) : (gD l i).lo <= (gD (OH w l) i).lo /\ (gD (OH w l) i).hi <= (gD l i).hi := by
 have f1 : ∀ i, (gD l i).lo <= (fwM l (HR w) i).lo /\ (fwM l (HR w) i).hi <= (gD l i).hi := λ i => by
  cases i with
  | zero => exact ⟨Int.le_refl _, Int.le_refl _⟩
  | succ i => exact ⟨AFD _ _, ACO _ _⟩
 have b1 : ∀ j, (fwM l (HR w) (l.length - 1 - j)).lo <= (bkM (fwM l (HR w)) (HR w) (l.length - 1) j).lo /\ (bkM (fwM l (HR w)) (HR w) (l.length - 1) j).hi <= (fwM l (HR w) (l.length - 1 - j)).hi := λ j => by
  cases j with
  | zero => exact ⟨Int.le_refl _, Int.le_refl _⟩
  | succ j => exact ⟨AFD _ _, ACO _ _⟩
 unfold OH
 rw [FF _ _ _ hi]
 have h1 := b1 (l.length - 1 - i)
 rw [show l.length - 1 - (l.length - 1 - i) = i by omega] at h1
 have h2 := f1 i
 omega
theorem BGQ {x : TrI} (hr : CF x.a = 0) (hm : 0 <= x.m /\ x.m < x.a.c.ms.length) : (cZ x).all Du = KT x.t (gD (Uy x.a) x.m.toNat).lo (gD (Uy x.a) x.m.toNat).hi := by
 have h := QR.1 (Qs hr).1
 have b := BHS h hr (i := x.m.toNat) (by omega)
 rw [Bool.eq_iff_iff, GX]
 constructor
 ·intro hk
  have l1 := dD x
  have h1 := BBZ (w := CV x.a) (l := aS x) (i := x.m.toNat) (by omega)
  have h2 := Zu.1 hk x.m.toNat (by rw [AAS]; omega)
  have h3 : (gD (aS x) x.m.toNat).has (gD (aS x) x.m.toNat).lo := by
   unfold Span.has; unfold cZ at h2; omega
  have h4 := (ADU hr (by omega) hm.1 _).1 h3
  have h5 := h4.2 rfl
  rw [h5] at h4
  exact h4.1
 ·intro hi
  unfold kL at b
  obtain ⟨u, u1, u2⟩ := (AHP h hr (i := x.m.toNat) (by omega)).1 hi
  exact (BLJ h hr hm (by omega)).2 ⟨u, u1, u2⟩
theorem AXM (x : TrI) : (RR x).2 = Ui x := by
 rcases ACF x.a with ⟨b1, b2, b3⟩ | ⟨b1, b2, b3, b4⟩ | ⟨b1, b2, b3, b4⟩
 ·have hb : (MO x.a != 0) = true := by simpa using b1
  have h1 : (CF x.a != 0) = true := by rw [b2]; exact hb
  have h2 : (CF x.a != 6) = true := by simpa using b3
  unfold RR Ui; rw [hb, h1, h2, b2]; rfl
 ·unfold RR Ui; rw [b1, b4, b3]
  cases KT x.m 0 (wr ((x.a.c.ms.length : Int) - 1)) <;> rfl
 ·obtain ⟨_, hm, _⟩ := IX b2
  unfold RR Ui; rw [b1, b4, b3]
  cases hi : KT x.m 0 (wr ((x.a.c.ms.length : Int) - 1)) with
  | false => rfl
  | true =>
   have hmm := GX.1 hi
   rw [show wr ((x.a.c.ms.length : Int) - 1) = (x.a.c.ms.length : Int) - 1 from Bc (by omega) (by omega)] at hmm
   rw [BGQ b4 (by omega)]
   cases KT x.t (gD (Uy x.a) x.m.toNat).lo (gD (Uy x.a) x.m.toNat).hi <;> rfl
theorem TrC.ext {c : Cht} {sp : Nat -> Bool} {u v : Nat -> Int} (hc : 1 <= c.ms.length) (h : TrC c sp u) (e : ∀ i, i < c.ms.length -> u i = v i) : TrC c sp v :=
 ⟨λ i hi => by rw [<- e i (by omega)]; exact h.at_ i hi, λ g hg => by rw [<- e g (by omega), <- e (g + 1) (by omega)]; exact h.gap g hg⟩
theorem BRF {x : TrI} (h0 : (RR x).2 = 0) : AM x.a.c = 0 /\ (0 <= x.m /\ x.m < x.a.c.ms.length) /\ (RR x).1.t.length = x.a.c.ms.length /\ gD (RR x).1.t x.m.toNat = x.t /\ (RR x).1.s.length = x.a.c.ms.length /\ (RR x).1.z = x.a.z /\ Bm ⟨x.a.c, (RR x).1⟩ = (true, 0) := by
 rcases ACF x.a with ⟨b1, b2, b3⟩ | ⟨b1, b2, b3, b4⟩ | ⟨b1, b2, b3, b4⟩
 ·have hb : (MO x.a != 0) = true := by simpa using b1
  have e : RR x = (vK, MO x.a) := by unfold RR; rw [hb]; rfl
  rw [e] at h0; exact absurd h0 b1
 ·exfalso
  unfold RR at h0; rw [b1, b3] at h0
  cases hi : KT x.m 0 (wr ((x.a.c.ms.length : Int) - 1)) <;> rw [hi] at h0 <;> cases h0
 ·obtain ⟨_, hm, _⟩ := IX b2
  have hc := QR.1 b2
  cases hi : KT x.m 0 (wr ((x.a.c.ms.length : Int) - 1)) with
  | false => exfalso; unfold RR at h0; rw [b1, hi] at h0; cases h0
  | true =>
   have hmm := GX.1 hi
   rw [show wr ((x.a.c.ms.length : Int) - 1) = (x.a.c.ms.length : Int) - 1 from Bc (by omega) (by omega)] at hmm
   have hmm : 0 <= x.m /\ x.m < x.a.c.ms.length := by omega
   cases hk : (cZ x).all Du with
   | false => exfalso; unfold RR at h0; rw [b1, hi, b3, hk] at h0; cases h0
   | true =>
    have e : RR x = (dU x, 0) := by unfold RR; rw [b1, hi, b3, hk]; rfl
    rw [e]
    have ht : -1000000000 <= x.t /\ x.t <= 1000000000 := by
     have := BGQ b4 hmm
     rw [hk] at this
     have := GX.1 this.symm
     have b := BHS hc b4 (i := x.m.toNat) (by omega)
     unfold kL at b; omega
    obtain ⟨t1, t2⟩ := BVO hc b4 hmm ht hk
    have lt : (dU x).t.length = x.a.c.ms.length := rng_length _ _
    have ls : (dU x).s.length = x.a.c.ms.length := rng_length _ _
    have gt : ∀ i, i < x.a.c.ms.length -> gD (dU x).t i = trT x i := λ i hi => FF _ _ _ hi
    have gs : ∀ i, i < x.a.c.ms.length -> gD (dU x).s i = trS x i := λ i hi => FF _ _ _ hi
    obtain ⟨_, zo, so, _, _⟩ := Ra b4
    have hold := BEW (x := ⟨x.a.c, dU x⟩) hc zo lt ls (λ i hi => by
     show _ <= gD (dU x).t i /\ gD (dU x).t i <= _
     rw [gt i hi]; exact t1.bd hc hi)
    refine ⟨b2, hmm, lt, by show gD (dU x).t _ = _; rw [gt _ (by omega)]; exact t2, ls, rfl, ?_⟩
    show Bm ⟨x.a.c, dU x⟩ = (true, 0)
    have h1 : (Bm ⟨x.a.c, dU x⟩).1 = true := hold.2.2 ⟨t1.ext hc.m.1 λ i hi => (gt i hi).symm, λ i hi => by
     have hi : i < x.a.c.ms.length := hi
     show (Dv x.a.c i).has (gD (dU x).s i)
     rw [gs i hi]
     have := Zu.1 so i (by rw [mV]; exact hi)
     rw [AAV hi] at this
     exact ⟨Int.le_refl _, this⟩⟩
    exact Prod.ext h1 hold.1
end Go.Bal
