/- Package chart, with the reference: what the law itself calls (copies, same, big, a chart of the reference). -/
import Derived.Test.YtdbjalgfomknhaaGreatChZf
import Derived.Test.YtdbjalgfomknhaaGreatChP
set_option linter.unusedVariables false
set_option linter.unusedSimpArgs false
namespace Go.Bal
open Go Go.Sym Go.Proofs
def ANV : List AVal -> Heap -> Option (List Mk × List (Nat × Nat) × List Nat)
 | y :: _, H => match dMks y H with
  | some (l, f) => some (l, [], f)
  | none => none
 | _, _ => none
def APM : List AVal -> Heap -> Option (List Nt × List (Nat × Nat) × List Nat)
 | y :: _, H => match dNts y H with
  | some (l, f) => some (l, [], f)
  | none => none
 | _, _ => none
def ALZ : List AVal -> Heap -> Option (List Int × List (Nat × Nat) × List Nat)
 | y :: _, H => match fM y H with
  | some (l, f) => some (l, [], f)
  | none => none
 | _, _ => none
def AWK : List AVal -> Heap -> Option (Cht × List (Nat × Nat) × List Nat)
 | y :: _, H => match nM y H with
  | some (l, f) => some (l, [], f)
  | none => none
 | _, _ => none
def C_cpM : Ctr := { α := List Mk, xs := λ l => [.d (wX l)], L := λ _ => [], val := λ l => .d (wX l), keep := λ _ => [], pre := λ l => [l.length < 1073741824] }
def BON (l : List Mk) : Prop := CH Try.prog (ann 7 []) AJS (AH AJS) (C_cpM.xs l) (AB []) (C_cpM.val l) [] [] []
theorem BTG (l : List Mk) : (BON l) = (IG (RE YW (Es IH (EJ l)) (Hz (EJ l)) (QK (EJ l) 9223372036854775807) (En (BV (EJ l)) 16)) (BW (EJ l) (BV (EJ l))) (λ i=>DB i (EJ l) (GT (GB l i)) (GT (GB l (ZE i))) (HC (GB l i)) (HC (GB l (ZE i))))) := by kernel_rfl
def C_cpN : Ctr := { α := List Nt, xs := λ l => [.d (oA l)], L := λ _ => [], val := λ l => .d (oA l), keep := λ _ => [], pre := λ l => [l.length < 1073741824] }
def BOD (l : List Nt) : Prop := CH Try.prog (ann 7 []) AMS (AH AMS) (C_cpN.xs l) (AB []) (C_cpN.val l) [] [] []
theorem BUU (l : List Nt) : (BOD l) = (IG (RE (Qb 5) (YU IH (DU l) 5) (Hz (DU l)) (QK (DU l) 9223372036854775807) (En (BV (DU l)) 40)) (BW (DU l) (BV (DU l))) (λ i=>AU i (DU l) (SY (FE l i) (FE l (ZE i)) (Cd l i) (Cd l (ZE i)) (Ci l i) (Ci l (ZE i))))) := by kernel_rfl
def C_cpI : Ctr := { α := List Int, xs := λ l => [.d (DV l)], L := λ _ => [], val := λ l => .d (DV l), keep := λ _ => [], pre := λ l => [l.length < 1073741824] }
def BPJ (l : List Int) : Prop := CH Try.prog (ann 7 []) AKY (AH AKY) (C_cpI.xs l) (AB []) (C_cpI.val l) [] [] []
theorem BVE (l : List Int) : (BPJ l) = (IG (RE (Av (JD 0)) (And IH (IY 0 l Am)) (Hz (FP l)) (QK (FP l) 9223372036854775807) (En (BV (FP l)) 8)) (EN l (BV (FP l))) (λ i=>SM i l l (ZE i))) := by kernel_rfl
def C_cpC : Ctr := { α := Cht, xs := λ c => [.d (Dj c)], L := λ _ => [], val := λ c => .d (Dj c), keep := λ _ => [], pre := λ c => [c.ms.length < 1073741824 /\ c.ns.length < 1073741824] }
def BOQ : Ann := ann 12 [(AMF, C_cpM.spec ANV), (AJM, C_cpN.spec APM)]
def BPE (c : Cht) : Prop := CH Try.prog BOQ ARL (AH ARL) (C_cpC.xs c) (AB []) (C_cpC.val c) [] [] []
theorem BRS (c : Cht) : (BPE c) = (And (EW (BO c) (BL c) (LW (DQ c)) (BE c) (BI c) (PI (DA c) 1073741824)) (LV c c (CQ c) (λ i=>DG i c) (DH c) (λ i=>DI i c))) := by kernel_rfl
def smM4 (l : List Mk) : Shape := { α := Nat, dflt := 0, T := λ k => ⟨[(0, .d (wX l)), (1, .d (wX l)), (5, .int k)], []⟩, inv := λ k => k <= l.length, meas := λ k => l.length - k }
def C_smM : Ctr := { α := List Mk, xs := λ l => [.d (wX l), .d (wX l)], L := λ _ => [], val := λ _ => .bool true, keep := λ _ => [], pre := λ l => [l.length < 1073741824] }
def BPX (l : List Mk) : Prop := CH Try.prog { ann 26 [] with loops := λ id => if id = 4 then some [smM4 l] else none } ANC (AH ANC) (C_smM.xs l) (AB []) (.bool true) [] [] []
abbrev Cw a b:=Sr a JL b
abbrev aO a b:=and (Dx a a) b
attribute [go_sem] Cw aO
theorem BUY (l : List Mk) : (BPX l) = (Cw (Zp (BZ (EJ l))) (DP (λ i=>And (Gb (BC (EJ l)) (AD (λ j=>Le j (EJ l) (GT (GB l j)) (AG (HC (GB l j))))) (BR i)) (KI i (EJ l))) (λ i=>GQ (KI i (EJ l)) i (EJ l) (PR (FR i (EJ l)) (BZ i) (EJ l)) (Cw (not (aO (GT (GB l i)) (aO (HC (GB l i)) JL))) (GN (λ j=>EB (Gb (BC (EJ l)) (AD (λ k=>Le k (EJ l) (GT (GB l k)) (AG (HC (GB l k))))) (BD j i)) (KI j (EJ l)) (EJ l) j i))) GF))) := by kernel_rfl
def smN4 (l : List Nt) : Shape := { α := Nat, dflt := 0, T := λ k => ⟨[(0, .d (oA l)), (1, .d (oA l)), (5, .int k)], []⟩, inv := λ k => k <= l.length, meas := λ k => l.length - k }
def C_smN : Ctr := { α := List Nt, xs := λ l => [.d (oA l), .d (oA l)], L := λ _ => [], val := λ _ => .bool true, keep := λ _ => [], pre := λ l => [l.length < 1073741824] }
def BOI (l : List Nt) : Prop := CH Try.prog { ann 26 [] with loops := λ id => if id = 4 then some [smN4 l] else none } ALN (AH ALN) (C_smN.xs l) (AB []) (.bool true) [] [] []
theorem BTF (l : List Nt) : (BOI l) = (Cw (Zp (BZ (DU l))) (DP (λ i=>And (Gb (BC (DU l)) (AD (λ j=>AU j (DU l) (NF (EC (FE l j)) (Cd l j) (Ci l j)))) (BR i)) (KI i (DU l))) (λ i=>GQ (KI i (DU l)) i (DU l) (PR (FR i (DU l)) (BZ i) (DU l)) (Cw (not (aO (EC (FE l i)) (and (aO (BG (Cd l i)) (aO (BJ (Cd l i)) JL)) (and (aO (BG (Ci l i)) (aO (BJ (Ci l i)) JL)) JL)))) (GN (λ j=>EB (Gb (BC (DU l)) (AD (λ k=>AU k (DU l) (NF (EC (FE l k)) (Cd l k) (Ci l k)))) (BD j i)) (KI j (DU l)) (DU l) j i))) GF))) := by kernel_rfl
def smI4 (l : List Int) : Shape := { α := Nat, dflt := 0, T := λ k => ⟨[(0, .d (DV l)), (1, .d (DV l)), (5, .int k)], []⟩, inv := λ k => k <= l.length, meas := λ k => l.length - k }
def C_smI : Ctr := { α := List Int, xs := λ l => [.d (DV l), .d (DV l)], L := λ _ => [], val := λ _ => .bool true, keep := λ _ => [], pre := λ l => [l.length < 1073741824] }
def BPD (l : List Int) : Prop := CH Try.prog { ann 26 [] with loops := λ id => if id = 4 then some [smI4 l] else none } AIX (AH AIX) (C_smI.xs l) (AB []) (.bool true) [] [] []
theorem BVM (l : List Int) : (BPD l) = (Cw (Zp (LP l)) (DP (λ i=>And (Gb (PG l) (MK l) (BR i)) (KI i (FP l))) (λ i=>GC (KI i (FP l)) i (LP l) (PR (MW i l) (BZ i) (FP l)) (Cw (Zp (FK l i)) (GN (λ j=>EB (Gb (PG l) (MK l) (BD j i)) (KI j (FP l)) (FP l) j i))) GF))) := by kernel_rfl
def C_smC : Ctr := { α := Cht, xs := λ c => [.d (Dj c), .d (Dj c)], L := λ _ => [], val := λ _ => .bool true, keep := λ _ => [], pre := λ c => [c.ms.length < 1073741824 /\ c.ns.length < 1073741824] }
def BPT (c : Cht) : Prop := CH Try.prog (ann 45 [(AAN, C_smM.spec ANV), (AAB, C_smN.spec APM)]) D8 (AH D8) (C_smC.xs c) (AB []) (.bool true) [] [] []
theorem BRK (c : Cht) : (BPT c) = ((((bif bif bif c.p.lo == c.p.lo && (c.p.hi == c.p.hi && true) then c.base == c.base else false then c.scale == c.scale else false then c.off == c.off else false) = true -> (IK
 c.ms.length λ (i : Nat) => gD c.ms i).length = c.ms.length /\ (∀ (i : Nat), i < (IK c.ms.length λ (i : Nat) => gD c.ms i).length -> (gD (IK c.ms.length λ (i : Nat) => gD c.ms i) i).pl = (gD c.ms i).pl /\ (gD (IK
 c.ms.length λ (i : Nat) => gD c.ms i) i).ht = (gD c.ms i).ht) /\ (IK c.ms.length λ (i : Nat) => gD c.ms i).length = c.ms.length /\ (∀ (i : Nat), i < (IK c.ms.length λ (i : Nat) => gD c.ms i).length -> (gD (IK
 c.ms.length λ (i : Nat) => gD c.ms i) i).pl = (gD c.ms i).pl /\ (gD (IK c.ms.length λ (i : Nat) => gD c.ms i) i).ht = (gD c.ms i).ht) /\ (IK c.ms.length λ (i : Nat) => gD c.ms i).length.succ.le 1073741824) /\ ((bif
 bif bif bif c.p.lo == c.p.lo && (c.p.hi == c.p.hi && true) then c.base == c.base else false then c.scale == c.scale else false then c.off == c.off else false then true else false) = true -> (IK c.ns.length λ (i : Nat)
 => gD c.ns i).length = c.ns.length /\ (∀ (i : Nat), i < (IK c.ns.length λ (i : Nat) => gD c.ns i).length -> (gD (IK c.ns.length λ (i : Nat) => gD c.ns i) i).mi = (gD c.ns i).mi /\ (gD (IK c.ns.length λ (i : Nat) =>
 gD c.ns i) i).t.lo = (gD c.ns i).t.lo /\ (gD (IK c.ns.length λ (i : Nat) => gD c.ns i) i).t.hi = (gD c.ns i).t.hi /\ (gD (IK c.ns.length λ (i : Nat) => gD c.ns i) i).s.lo = (gD c.ns i).s.lo /\ (gD (IK c.ns.length fun
 (i : Nat) => gD c.ns i) i).s.hi = (gD c.ns i).s.hi) /\ (IK c.ns.length λ (i : Nat) => gD c.ns i).length = c.ns.length /\ (∀ (i : Nat), i < (IK c.ns.length λ (i : Nat) => gD c.ns i).length -> (gD (IK c.ns.length fun
 (i : Nat) => gD c.ns i) i).mi = (gD c.ns i).mi /\ (gD (IK c.ns.length λ (i : Nat) => gD c.ns i) i).t.lo = (gD c.ns i).t.lo /\ (gD (IK c.ns.length λ (i : Nat) => gD c.ns i) i).t.hi = (gD c.ns i).t.hi /\ (gD (IK
 c.ns.length λ (i : Nat) => gD c.ns i) i).s.lo = (gD c.ns i).s.lo /\ (gD (IK c.ns.length λ (i : Nat) => gD c.ns i) i).s.hi = (gD c.ns i).s.hi) /\ (IK c.ns.length λ (i : Nat) => gD c.ns i).length.succ.le 1073741824))
 /\ true = bif bif bif bif bif c.p.lo == c.p.lo && (c.p.hi == c.p.hi && true) then c.base == c.base else false then c.scale == c.scale else false then c.off == c.off else false then true else false then true else false) :=
 by kernel_rfl
def bigV (c : Cht) : Bool := (decide ((10 : Int) < c.ms.length) && decide ((c.ms.length : Int) < 40)) || decide ((42 : Int) < c.ms.length) || (decide ((8 : Int) < c.ns.length) && decide ((c.ns.length : Int) < 20)) || decide ((22 : Int) < c.ns.length)
def C_big : Ctr := { α := Cht, xs := λ c => [.d (Dj c)], L := λ _ => [], val := λ c => .bool (bigV c), keep := λ _ => [] }
def BQO (c : Cht) : Prop := CH Try.prog (ann 37 []) AGC (AH AGC) (C_big.xs c) (AB []) (.bool (bigV c)) [] [] []
theorem BSA (c : Cht) : (BQO c) = (KH (bigV c) (IF (An (ER (JM (IV c) 10) (JH (IV c) 40)) (JM (IV c) 42) (ER (XX (AN c) 8) (HB (AN c) 20))) (XX (AN c) 22))) := by kernel_rfl
def lcB (c : Cht) (x y : AVal) : List (Nat × HCell) := [(201, .live (sJ c)), (202, .live (.box [.int 0, .int 0, .int 0, .int 0, .int 0, .d Jn, .d Jn])), (203, .live (.box [.int c.p.lo, .int c.p.hi, .int c.base, .int c.scale, .int c.off, x, y]))]
def lcS : List (Nat × AVal) := [(1, .bptr 201 0), (2, .bptr 202 0), (3, .bptr 203 0)]
def lc3n (c : Cht) : Shape := { α := One, dflt := default, T := λ _ => ⟨lcS ++ [(4, .int 0)], lcB c (.d Jn) (.d Jn)⟩, inv := λ _ => True, meas := λ _ => 60, first := [(201, 1000), (202, 1016), (203, 2144)] }
def lc3o (c : Cht) : Shape := { α := Nat, dflt := 0, T := λ k => ⟨lcS ++ [(4, .int k)], lcB c (.own 204 2 0 k) (.d Jn) ++ [(204, .live (.row 2 k λ i => eMk (gD c.ms i)))]⟩, inv := λ k => 1 <= k /\ k <= c.ms.length, meas := λ k => 50 - k, again := [(204, 6128)] }
def lc6 (c : Cht) : Shape := { α := One, dflt := default, T := λ _ => ⟨lcS, lcB c (.d (wX c.ms)) (.d Jn)⟩, inv := λ _ => True, meas := λ _ => 0, ffz := [204] }
def lc7n (c : Cht) : Shape := { α := One, dflt := default, T := λ _ => ⟨lcS ++ [(5, .int 0)], lcB c (.d (wX c.ms)) (.d Jn)⟩, inv := λ _ => True, meas := λ _ => 60 }
def lc7o (c : Cht) : Shape := { α := Nat, dflt := 0, T := λ k => ⟨lcS ++ [(5, .int k)], lcB c (.d (wX c.ms)) (.own 205 5 0 k) ++ [(205, .live (.row 5 k λ i => eNt (gD c.ns i)))]⟩, inv := λ k => 1 <= k /\ k <= c.ns.length, meas := λ k => 50 - k, again := [(205, 10128)] }
def C_law : Ctr := { α := Cht, xs := λ c => [.d (Dj c)], L := λ _ => [], val := λ c => .d (Dj c), keep := λ _ => [], pre := λ c => [c.ms.length <= 42 /\ c.ns.length <= 42] }
def BPR (c : Cht) : Ann := { ann 50 [] with mt := λ id => id == 5 || id == 9, loops := λ id => if id = 3 then some [lc3n c, lc3o c] else if id = 7 then some [lc7n c, lc7o c] else none, cut := λ id => if id = 6 then some [lc6 c] else none }
def BOM (c : Cht) : Prop := CH Try.prog (BPR c) uE (AH uE) (C_law.xs c) (AB []) (.d (Dj c)) [] [] [205]
abbrev AIR a b c:=Rr a b b c
attribute [go_sem] AIR
theorem BUF (c : Cht) : (BOM c) = (PO (IG (HI (AO BQ (AQ c) (AT c) (Fi c (BX c) c c (λ i=>BK i c) BQ (Zz BQ (Gb AI FW (QS c (Io (AV c) FW FW))))))) (Fx (λ i=>GM IH (JH 0 (IV c)) (EW (Dg (BB c)) YW Gk XL YE (PM 16)) (GN (λ j=>IW (And (EO j Kg) (Lq c c (λ k=>DX k c) c (AIR (HE c) BQ (XA BQ AI FW (DC AI (λ k=>Lp k 0) (AQ c) (AT c) (AP c) (AS c) (AV c) AI (sQ (JD j) AI FW (AD (λ k=>FQ k j (CE c k) (CE c RI) (CP c k) c RI)))))))) (NA j (BB c)) 50 j 60)) (HI (ZP c c (Fi c (BX c) c c (λ j=>BK j c) BQ (Zz BQ (Gb AI FW (QS c (Rr (AV c) (BW (BB c) 0) AI FW))))))))) (λ i=>GC (NA i (BB c)) i (IV c) (EW (FR i (BB c)) (Cb i i) Gk TI (TX i) (PM (Bq i))) (GN (λ j=>WI (And (BD j i) (Lq c c (λ k=>DX k c) c (AIR (HE c) BQ (XA BQ AI FW (DC AI (λ k=>Lp k 0) (AQ c) (AT c) (AP c) (AS c) (AV c) AI (sQ (PL j i) AI FW (AD (λ k=>DB k j (CE c k) (JP k i (CE c k) (CE c i)) (CP c k) (JP k i (CP c k) (CP c i)))))))))) (NA j (BB c)) j i)) (HI (FX (AQ c) (AT c) (AP c) (AS c) (AV c) (BX c) (JS c) (Fk (CG c) (HE c) (lT BQ AI (Cc (AQ c) (KM (AT c) (AP c) (AS c) (AV c) (BW (BB c) i) (LC i) (λ j=>Lv j c c (BV j) c (BV j)) AI (λ j=>Lp j 0))))))))) (IG (HI (AO BQ (AQ c) (AT c) (Fi c (BX c) c c (λ i=>BK i c) BQ (Zz BQ (Gb AI FW (RM c AI (λ i=>Lp i 0))))))) (Fx (λ i=>GM IH (JH 0 (BZ (AN c))) (EW (Dg (AN c)) (Qb 5) (YU MG 1 5) XL YE (PM 40)) (GN (λ j=>IW (And (EO j Kg) (Lq c c (λ k=>DX k c) c (AIR (HE c) BQ (XA BQ AI FW (DC AI (λ k=>Lp k 0) (AQ c) (AT c) (AP c) (AS c) (AV c) (BX c) (Wu (JS c) (JD j) (λ k=>AU k j (Hq c k c RI k c RI k)))))))) (NA j (AN c)) 50 j 60)) (QS c (Zq (AV c) (BX c) (JS c) (BW (AN c) 0))))) (λ i=>GQ (NA i (AN c)) i (AN c) (EW (YZ i c) (YU (BC i) i 5) (YU MG 1 5) TI (TX i) (PM (Hd i 40))) (GN (λ j=>WI (And (BD j i) (Lq c c (λ k=>DX k c) c (AIR (HE c) BQ (XA BQ AI FW (DC AI (λ k=>Lp k 0) (AQ c) (AT c) (AP c) (AS c) (AV c) (BX c) (Wu (JS c) (PL j i) (λ k=>AU k j (AF (KL c k (JP k i (BS c k) (BS c i))) (BP (CJ c k) (JP k i (Aw c k) (Aw c i))) (AY (CJ c k) (JP k i (Dp c k) (Dp c i))) (BP (BY c k) (JP k i (BG (BY c k)) (BG (BY c i)))) (AY (BY c k) (JP k i (BJ (BY c k)) (BJ (BY c i)))))))))))) (NA j (AN c)) j i)) (And (AQ c) (MX c (AP c) (AS c) (BX c) (JS c) (BW (AN c) i) (LC i) (AD (λ j=>DW j c (Hq c j c (BV j) j c (BV j) j)))))))) := by kernel_rfl
theorem BSL : AJ Try.prog AMF (C_cpM.spec ANV) := XP C_cpM (λ _ => ann 7 []) [] [] BCY (λ _ => by kernel_rfl) (λ _ => AC) (λ (l : List Mk) h => by
 show BON l; rw [BTG]<;> delta KH ZR BW AD BU CL AR DJ LO EJ GT GB HC IH JL QC En AE AF AU BC BH BV CK DB HF NB YU PM QK Es SN IG RE ZM Av Qb YW ZE Hz; simp only [CC, eq_self, implies_true, forall_const]
 have h : l.length < 1073741824 := h
 exact ⟨⟨λ h => absurd h (Nat.lt_irrefl 0), (λ h => by cases h), by omega, by omega⟩, λ i hi => by rw [Nat.sub_zero]; exact ⟨rfl, rfl⟩⟩) (λ _ => YS rfl rfl) _
theorem BRD : AJ Try.prog AJM (C_cpN.spec APM) := XP C_cpN (λ _ => ann 7 []) [] [] AZR (λ _ => by kernel_rfl) (λ _ => AC) (λ (l : List Nt) h => by
 show BOD l; rw [BUU]<;> delta KH ZR BG BJ EC ES ET BW AD BU CL AR DJ LO DU FE IH JL QC En AE AF AY AU BC AX BP CX BN CY BV EG CK EP UV HF SY NB YU PM QK SN IG RE ZM Av Qb Ci Cd ZE Hz; simp only [CC, eq_self, implies_true, forall_const]
 have h : l.length < 1073741824 := h
 exact ⟨⟨λ h => absurd h (Nat.lt_irrefl 0), (λ h => by cases h), by omega, by omega⟩, λ i hi => by rw [Nat.sub_zero]; exact ⟨rfl, rfl, rfl, rfl, rfl⟩⟩) (λ _ => YS rfl rfl) _
theorem BUQ : AJ Try.prog AMT (C_cpI.spec ALZ) := XP C_cpI (λ _ => ann 7 []) [] [] BGC (λ _ => by kernel_rfl) (λ _ => AC) (λ (l : List Int) h => by
 show BPJ l; rw [BVE]<;> delta KH ZR BW AD BU CL AR DJ LO IH FP FK JL QC En AE AF AU BC BV IY EN CK HF MB LL TZ SM NB PM QK SN JD IG RE ZM Av Am ZE Hz; simp only [CC, eq_self, implies_true, forall_const]
 have h : l.length < 1073741824 := h
 exact ⟨⟨λ h => absurd h (Nat.lt_irrefl 0), (λ h => by cases h), by omega, by omega⟩, λ i hi => by rw [Nat.sub_zero]⟩) (λ _ => YS rfl rfl) _
theorem BSY : AJ Try.prog AQX (C_cpC.spec kM) := XP C_cpC (λ _ => BOQ) [] [] BMW (λ _ => by kernel_rfl) (λ _ => AA BSL (AA BRD AC)) (λ (c : Cht) h => by
 show BPE c; rw [BRS]<;> delta BG BJ EC ES ET BW AD BU CL AR EJ GW EX HP HN HJ GT GB HC DU GG FE JW KI AE CR FA BB GA AF AY AU AG EM EZ AX FC BM CJ AK AN DD BH BY BP CX BN CY BS CE FU AV DA AQ EV DW AZ DQ CP FT AS AP ID AT EG CM HV EL FV EP HW DB FN FM KM EA FQ NH BE FO FZ KL NC GH IC LM VT PI EW BO DH CQ GY CS EE LV BI BL DG DI LW; simp only [CC, eq_self, implies_true, forall_const]
 have h : c.ms.length < 1073741824 /\ c.ns.length < 1073741824 := h
 exact ⟨h.1, h.2⟩) (λ _ => YS rfl rfl) _
theorem BUZ : AJ Try.prog AAN (C_smM.spec ANV) := XP C_smM (λ (l : List Mk) => { ann 26 [] with loops := λ id => if id = 4 then some [smM4 l] else none }) [] [] BEH (λ _ => by kernel_rfl) (λ _ => AC) (λ (l : List Mk) h => by
 have h : l.length < 1073741824 := h
 show BPX l; rw [BUY]<;> delta KH ZR MM NO BW AD BU CL AR BZ EK JH HO KB NL LO EJ GT GB HC GN Dx JL NJ KI AE AF AU AG BC FD Zp XG Gb BH HQ FS DM CN GP GU DS FH CD EO JB DZ BD FR IW LB HS HB EB EF GM GF BR GC DP UZ PR GQ Sr Cw Le aO; simp only [CC, eq_self, implies_true, forall_const]
 refine ⟨λ h => by simp at h, λ _ => ⟨⟨0, rfl, Nat.zero_le _⟩, λ k hk hlt => ⟨by omega, λ h => by simp at h, λ _ => ⟨k + 1, (HY (by omega)).symm, by omega, by omega⟩⟩⟩⟩) (λ _ => YS rfl rfl) _
theorem BRC : AJ Try.prog AAB (C_smN.spec APM) := XP C_smN (λ (l : List Nt) => { ann 26 [] with loops := λ id => if id = 4 then some [smN4 l] else none }) [] [] BAO (λ _ => by kernel_rfl) (λ _ => AC) (λ (l : List Nt) h => by
 have h : l.length < 1073741824 := h
 show BOI l; rw [BTF]<;> delta KH ZR BG BJ EC MM NO ES ET BW AD BU CL AR BZ EK JH HO KB NL LO DU FE GN Dx JL NJ KI AE AF AY AU AG BC FD Zp XG Gb AX BM CX CY HQ FS DM CN HD GP GU DS FH CD NF EO JB DZ BD FR IW LB HS HB EB EF GM GF BR GC DP UZ PR GQ Sr Ci Cd Cw aO; simp only [CC, eq_self, implies_true, forall_const]
 refine ⟨λ h => by simp at h, λ _ => ⟨⟨0, rfl, Nat.zero_le _⟩, λ k hk hlt => ⟨by omega, λ h => by simp at h, λ _ => ⟨k + 1, (HY (by omega)).symm, by omega, by omega⟩⟩⟩⟩) (λ _ => YS rfl rfl) _
theorem BSU : AJ Try.prog AMR (C_smI.spec ALZ) := XP C_smI (λ (l : List Int) => { ann 26 [] with loops := λ id => if id = 4 then some [smI4 l] else none }) [] [] BBB (λ _ => by kernel_rfl) (λ _ => AC) (λ (l : List Int) h => by
 have h : l.length < 1073741824 := h
 show BPD l; rw [BVM]<;> delta KH ZR MM NO BW AD BU CL AR BZ EK JH HO KB NL LO GN FP FK JL NJ KI AE AF AU AG BC FD Zp XG Gb HQ FS DM CN IY GP GU DS FH CD EO JB DZ BD PG FR IW LP Ki LB HS HB EB WU EF GM GF BR MK GC DP UZ PR MW Sr Cw; simp only [CC, eq_self, implies_true, forall_const]
 refine ⟨λ h => by simp at h, λ _ => ⟨⟨0, rfl, Nat.zero_le _⟩, λ k hk hlt => ⟨by omega, λ h => by simp at h, λ _ => ⟨k + 1, (HY (by omega)).symm, by omega, by omega⟩⟩⟩⟩) (λ _ => YS rfl rfl) _
theorem BRL : AJ Try.prog C2 (C_smC.spec AWK) := XP C_smC (λ _ => ann 45 [(AAN, C_smM.spec ANV), (AAB, C_smN.spec APM)]) [] [] ASX (λ _ => by kernel_rfl) (λ _ => AA BUZ (AA BRC AC)) (λ (c : Cht) h => by
 have h : c.ms.length < 1073741824 /\ c.ns.length < 1073741824 := h
 show BPT c; rw [BRK]; simp only [CC, eq_self, implies_true, forall_const]
 simp only [beq_self_eq_true, Bool.and_self, cond_true]
 exact ⟨⟨λ _ => h.1, λ _ => h.2⟩, trivial⟩) (λ _ => YS rfl rfl) _
theorem BUH : AJ Try.prog AEO (C_big.spec AWK) := XP C_big (λ _ => ann 37 []) [] [] AZC (λ _ => by kernel_rfl) (λ _ => AC) (λ (c : Cht) _ => by
 show BQO c; rw [BSA]<;> delta KH wN ZR BZ JH EJ GW DU GG JL JM BB AN IV HB IF ER XX An; unfold bigV
 have e1 : decide ((c.ms.length : Int) > 10) = decide ((10 : Int) < c.ms.length) := rfl
 have e2 : decide ((c.ms.length : Int) > 42) = decide ((42 : Int) < c.ms.length) := rfl
 have e3 : decide ((c.ns.length : Int) > 8) = decide ((8 : Int) < c.ns.length) := rfl
 have e4 : decide ((c.ns.length : Int) > 22) = decide ((22 : Int) < c.ns.length) := rfl
 rw [e1, e2, e3, e4]
 cases decide ((10 : Int) < c.ms.length) <;> cases decide ((c.ms.length : Int) < 40) <;> cases decide ((42 : Int) < c.ms.length) <;> cases decide ((8 : Int) < c.ns.length) <;> cases decide ((c.ns.length : Int) < 20) <;> cases decide ((22 : Int) < c.ns.length) <;> rfl) (λ _ => YS rfl rfl) _
theorem BXF (c : Cht) (h : c.ms.length <= 42 /\ c.ns.length <= 42) : BOM c := by
 obtain ⟨m, n⟩ := h
 rw [BUF]<;> delta KH ZR BG BJ EC MM NO ES ET BW AD BU CL AR BZ SC DJ EK JH HO KB NL LO EJ GW EX HP HN HJ GT GB HC DU GG FE GN IH JL FY QC YM Rm Fx En jV AE CR BB AF AY AU AG BC FD Nc XG XA Gb sQ jW lT Rr Zz Zq AIR yT AX BM CJ AK AN DD BH BY BP CX BN CY BS CE HQ AV AQ EV DW AZ CP AS FS DM AP AT BV CN BX NE CM HD CG GP GU DS DF FH AO AI DC CK CD EP EO IV DB FN KM HF JB DZ ML BD PH FQ FR IW Mx DX KL JS BQ VT LB EW HB EB BK GY LV GM GF HE RM FW FX GC NB YU QQ MG RI PM HI QK JP Es Lw KO LC Jp SN WT NA MD SU JD IG GQ Lx PL ZI ZM Gk Sv PO Ao Gl Bz Av Hd Dg TI TX MX QS Yz XL YE Fc Aw Wu Qb lX ZD YW YZ Dp Cc WI Lv Cb Fk Bq Lp ZP Kg Hq Fi Lq Io; simp only [CC, eq_self, implies_true, forall_const]
 refine ⟨⟨⟨default, trivial⟩, ⟨λ h => ⟨⟨by omega, by omega, by omega, by omega, by omega, by omega⟩, 1, ⟨rfl, rfl, rfl, λ i hi => ?_⟩, ⟨by omega, by omega⟩, by omega⟩, λ h => ⟨default, by omega⟩⟩, λ k ⟨k1, k2⟩ => ⟨λ hlt => ⟨⟨by omega, by omega, by omega, by omega, by omega⟩, k + 1, ⟨(HY (by omega)).symm, rfl, rfl, λ i hi => ?_⟩, ⟨by omega, by omega⟩, by omega⟩, λ hge => ⟨default, by omega, by omega⟩⟩⟩, ⟨default, trivial⟩, ⟨λ h => ⟨⟨by omega, by omega, by omega, by omega, by omega, by omega⟩, 1, ⟨rfl, rfl, rfl, λ i hi => ?_⟩, ⟨by omega, by omega⟩, by omega⟩, λ h => by omega⟩, λ k ⟨k1, k2⟩ => ⟨λ hlt => ⟨⟨by omega, by omega, by omega, by omega, by omega⟩, k + 1, ⟨(HY (by omega)).symm, rfl, rfl, λ i hi => ?_⟩, ⟨by omega, by omega⟩, by omega⟩, λ hge => ⟨by omega, by omega⟩⟩⟩
 ·obtain rfl : i = 0 := by omega
  exact ⟨rfl, rfl⟩
 ·by_cases h : i < k
  ·simp [h]
  ·obtain rfl : i = k := by omega
   simp
 ·obtain rfl : i = 0 := by omega
  exact ⟨rfl, rfl, rfl, rfl, rfl⟩
 ·by_cases h : i < k
  ·simp [h]
  ·obtain rfl : i = k := by omega
   simp
theorem BUA : AJ Try.prog vQ (C_law.spec kM) := XP C_law BPR [] [205] AOD (λ _ => by kernel_rfl) (λ _ => AC) (λ (c : Cht) h => BXF c h) (λ _ => YS rfl rfl) _
end Go.Bal
