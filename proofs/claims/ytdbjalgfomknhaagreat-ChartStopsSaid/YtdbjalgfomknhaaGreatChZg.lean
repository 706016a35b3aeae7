/- Package chart, with the reference: what the law itself calls (copies, same, big, a chart of the reference). -/
import Derived.Test.YtdbjalgfomknhaaGreatChO
import Derived.Test.YtdbjalgfomknhaaGreatChP
set_option linter.unusedVariables false
set_option linter.unusedSimpArgs false
namespace Go.Bal
open Go Go.Sym Go.Proofs
def ATE : List AVal -> Heap -> Option (List Mk × List (Nat × Nat) × List Nat)
 | y :: _, H => match dMks y H with
  | some (l, f) => some (l, [], f)
  | none => none
 | _, _ => none
def AQU : List AVal -> Heap -> Option (List Nt × List (Nat × Nat) × List Nat)
 | y :: _, H => match dNts y H with
  | some (l, f) => some (l, [], f)
  | none => none
 | _, _ => none
def BAM : List AVal -> Heap -> Option (Cht × List (Nat × Nat) × List Nat)
 | y :: _, H => match kV y H with
  | some (l, f) => some (l, [], f)
  | none => none
 | _, _ => none
def C_cpM : Ctr := { α := List Mk, xs := λ l => [.d (zK l)], L := λ _ => [], val := λ l => .d (zK l), keep := λ _ => [], pre := λ l => [l.length < 1073741824] }
def BQJ (l : List Mk) : Prop := CF Try.prog (ann 7 []) ANU (AH ANU) (C_cpM.xs l) (AB []) (C_cpM.val l) [] [] []
theorem BXW (l : List Mk) : (BQJ l) = (GG (RI WM (VY FL (ET l)) (WT (OQ (ET l))) (TP (ET l) 9223372036854775807) (Ho (CM (ET l)) 16)) (BY (ET l) (CM (ET l))) (λ i=>EW i (ET l) (GV (FU l i)) (GV (FU l (ZP i))) (HC (FU l i)) (HC (FU l (ZP i))))) := by kernel_rfl
def C_cpN : Ctr := { α := List Nt, xs := λ l => [.d (kK l)], L := λ _ => [], val := λ l => .d (kK l), keep := λ _ => [], pre := λ l => [l.length < 1073741824] }
def BRI (l : List Nt) : Prop := CF Try.prog (ann 7 []) APT (AH APT) (C_cpN.xs l) (AB []) (C_cpN.val l) [] [] []
theorem BYE (l : List Nt) : (BRI l) = (GG (RI (Jb 5) (WR FL (DV l) 5) (WT (OQ (DV l))) (TP (DV l) 9223372036854775807) (Ho (CM (DV l)) 40)) (BY (DV l) (CM (DV l))) (λ i=>DU i (DV l) (Xb (EY l i) (EY l (ZP i))) (Ca l i) (Ca l (ZP i)) (By l i) (By l (ZP i)))) := by kernel_rfl
def C_cpC : Ctr := { α := Cht, xs := λ c => [.d (Ak c)], L := λ _ => [], val := λ c => .d (Ak c), keep := λ _ => [], pre := λ c => [c.ms.length < 1073741824 /\ c.ns.length < 1073741824] }
def BRW : Ann := ann 12 [(APD, C_cpM.spec ATE), (ALZ, C_cpN.spec AQU)]
def BTM (c : Cht) : Prop := CF Try.prog BRW AVP (AH AVP) (C_cpC.xs c) (AB []) (C_cpC.val c) [] [] []
theorem BWX (c : Cht) : (BTM c) = (BC (BP c) (AG (HM c) (MJ (EH c)) (BN c) (FN c) (JX (FD c) 1073741824)) (LX c (JS c))) := by kernel_rfl
def smM4 (l : List Mk) : Shape := { α := Nat, dflt := 0, T := λ k => ⟨[(0, .d (zK l)), (1, .d (zK l)), (5, .int k)], []⟩, inv := λ k => k <= l.length, meas := λ k => l.length - k }
def C_smM : Ctr := { α := List Mk, xs := λ l => [.d (zK l), .d (zK l)], L := λ _ => [], val := λ _ => .bool true, keep := λ _ => [], pre := λ l => [l.length < 1073741824] }
def BSB (l : List Mk) : Prop := CF Try.prog { ann 26 [] with loops := λ id => if id = 4 then some [smM4 l] else none } ANZ (AH ANZ) (C_smM.xs l) (AB []) (.bool true) [] [] []
abbrev Qg:=GR LC
abbrev aI a b:=and (Ey a a) b
attribute [go_sem] Qg aI
theorem BVV (l : List Mk) : (BSB l) = (EC (zT (BE (ET l))) Qg (FV (λ i=>And (Si (BM (ET l)) (AF (λ j=>Zs j (ET l) (GV (FU l j)) (AE (HC (FU l j))))) (BZ i)) (GZ i (ET l))) (λ i=>OS (GZ i (ET l)) i (ET l) (AFQ (JM i) (DK (BE i) (ET l)) (JM i)) (NG (not (aI (GV (FU l i)) (aI (HC (FU l i)) LC))) Qg (λ j=>DW (Si (BM (ET l)) (AF (λ k=>Zs k (ET l) (GV (FU l k)) (AE (HC (FU l k))))) (BR j i)) (GZ j (ET l)) (ET l) j i)) KS))) := by kernel_rfl
def smN4 (l : List Nt) : Shape := { α := Nat, dflt := 0, T := λ k => ⟨[(0, .d (kK l)), (1, .d (kK l)), (5, .int k)], []⟩, inv := λ k => k <= l.length, meas := λ k => l.length - k }
def C_smN : Ctr := { α := List Nt, xs := λ l => [.d (kK l), .d (kK l)], L := λ _ => [], val := λ _ => .bool true, keep := λ _ => [], pre := λ l => [l.length < 1073741824] }
def BQT (l : List Nt) : Prop := CF Try.prog { ann 26 [] with loops := λ id => if id = 4 then some [smN4 l] else none } ANY (AH ANY) (C_smN.xs l) (AB []) (.bool true) [] [] []
theorem BVT (l : List Nt) : (BQT l) = (EC (zT (BE (DV l))) Qg (FV (λ i=>And (Si (BM (DV l)) (AF (λ j=>AX j (DV l) (PX (VJ (EY l j)) (Ca l j) (By l j)))) (BZ i)) (GZ i (DV l))) (λ i=>OS (GZ i (DV l)) i (DV l) (AFQ (JM i) (DK (BE i) (DV l)) (JM i)) (NG (not (aI (EN (EY l i)) (and (aI (BI (Ca l i)) (aI (BF (Ca l i)) LC)) (and (aI (BI (By l i)) (aI (BF (By l i)) LC)) LC)))) Qg (λ j=>DW (Si (BM (DV l)) (AF (λ k=>AX k (DV l) (PX (VJ (EY l k)) (Ca l k) (By l k)))) (BR j i)) (GZ j (DV l)) (DV l) j i)) KS))) := by kernel_rfl
def C_smC : Ctr := { α := Cht, xs := λ c => [.d (Ak c), .d (Ak c)], L := λ _ => [], val := λ _ => .bool true, keep := λ _ => [], pre := λ c => [c.ms.length < 1073741824 /\ c.ns.length < 1073741824] }
def BTG (c : Cht) : Prop := CF Try.prog (ann 45 [(Z6, C_smM.spec ATE), (Z0, C_smN.spec AQU)]) E5 (AH E5) (C_smC.xs c) (AB []) (.bool true) [] [] []
theorem BYQ (c : Cht) : (BTG c) = ((((bif bif bif c.p.lo == c.p.lo && (c.p.hi == c.p.hi && true) then c.base == c.base else false then c.scale == c.scale else false then c.off == c.off else false) = true -> (ME
 c.ms.length λ (i : Nat) => gD c.ms i).length = c.ms.length /\ (∀ (i : Nat), i < (ME c.ms.length λ (i : Nat) => gD c.ms i).length -> (gD (ME c.ms.length λ (i : Nat) => gD c.ms i) i).pl = (gD c.ms i).pl /\ (gD (ME
 c.ms.length λ (i : Nat) => gD c.ms i) i).ht = (gD c.ms i).ht) /\ (ME c.ms.length λ (i : Nat) => gD c.ms i).length = c.ms.length /\ (∀ (i : Nat), i < (ME c.ms.length λ (i : Nat) => gD c.ms i).length -> (gD (ME
 c.ms.length λ (i : Nat) => gD c.ms i) i).pl = (gD c.ms i).pl /\ (gD (ME c.ms.length λ (i : Nat) => gD c.ms i) i).ht = (gD c.ms i).ht) /\ (ME c.ms.length λ (i : Nat) => gD c.ms i).length.succ.le 1073741824) /\ ((bif
 bif bif bif c.p.lo == c.p.lo && (c.p.hi == c.p.hi && true) then c.base == c.base else false then c.scale == c.scale else false then c.off == c.off else false then true else false) = true -> (ME c.ns.length λ (i : Nat)
 => gD c.ns i).length = c.ns.length /\ (∀ (i : Nat), i < (ME c.ns.length λ (i : Nat) => gD c.ns i).length -> (gD (ME c.ns.length λ (i : Nat) => gD c.ns i) i).mi = (gD c.ns i).mi /\ (gD (ME c.ns.length λ (i : Nat) =>
 gD c.ns i) i).t.lo = (gD c.ns i).t.lo /\ (gD (ME c.ns.length λ (i : Nat) => gD c.ns i) i).t.hi = (gD c.ns i).t.hi /\ (gD (ME c.ns.length λ (i : Nat) => gD c.ns i) i).s.lo = (gD c.ns i).s.lo /\ (gD (ME c.ns.length fun
 (i : Nat) => gD c.ns i) i).s.hi = (gD c.ns i).s.hi) /\ (ME c.ns.length λ (i : Nat) => gD c.ns i).length = c.ns.length /\ (∀ (i : Nat), i < (ME c.ns.length λ (i : Nat) => gD c.ns i).length -> (gD (ME c.ns.length fun
 (i : Nat) => gD c.ns i) i).mi = (gD c.ns i).mi /\ (gD (ME c.ns.length λ (i : Nat) => gD c.ns i) i).t.lo = (gD c.ns i).t.lo /\ (gD (ME c.ns.length λ (i : Nat) => gD c.ns i) i).t.hi = (gD c.ns i).t.hi /\ (gD (ME
 c.ns.length λ (i : Nat) => gD c.ns i) i).s.lo = (gD c.ns i).s.lo /\ (gD (ME c.ns.length λ (i : Nat) => gD c.ns i) i).s.hi = (gD c.ns i).s.hi) /\ (ME c.ns.length λ (i : Nat) => gD c.ns i).length.succ.le 1073741824))
 /\ true = bif bif bif bif bif c.p.lo == c.p.lo && (c.p.hi == c.p.hi && true) then c.base == c.base else false then c.scale == c.scale else false then c.off == c.off else false then true else false then true else false) :=
 by kernel_rfl
def bigV (c : Cht) : Bool := (decide ((10 : Int) < c.ms.length) && decide ((c.ms.length : Int) < 40)) || decide ((42 : Int) < c.ms.length) || (decide ((8 : Int) < c.ns.length) && decide ((c.ns.length : Int) < 20)) || decide ((22 : Int) < c.ns.length)
def C_big : Ctr := { α := Cht, xs := λ c => [.d (Ak c)], L := λ _ => [], val := λ c => .bool (bigV c), keep := λ _ => [] }
def BTF (c : Cht) : Prop := CF Try.prog (ann 37 []) AGF (AH AGF) (C_big.xs c) (AB []) (.bool (bigV c)) [] [] []
theorem BUN (c : Cht) : (BTF c) = (JH (bigV c) (XP (PP (XP (LJ (XS (KF c) 10) (JL (KF c) 40)) (KF c) 42) (LJ (XS (KV c) 8) (JL (KV c) 20))) (KV c) 22)) := by kernel_rfl
def lcB (c : Cht) (x y : AVal) : List (Nat × HCell) := [(201, .live (gI c)), (202, .live (.box [.int 0, .int 0, .int 0, .int 0, .int 0, .d Ou, .d Ou])), (203, .live (.box [.int c.p.lo, .int c.p.hi, .int c.base, .int c.scale, .int c.off, x, y]))]
def lcS : List (Nat × AVal) := [(1, .bptr 201 0), (2, .bptr 202 0), (3, .bptr 203 0)]
def lc3n (c : Cht) : Shape := { α := One, dflt := default, T := λ _ => ⟨lcS ++ [(4, .int 0)], lcB c (.d Ou) (.d Ou)⟩, inv := λ _ => True, meas := λ _ => 60, first := [(201, 1000), (202, 1016), (203, 2144)] }
def lc3o (c : Cht) : Shape := { α := Nat, dflt := 0, T := λ k => ⟨lcS ++ [(4, .int k)], lcB c (.own 204 2 0 k) (.d Ou) ++ [(204, .live (.row 2 k λ i => eMk (gD c.ms i)))]⟩, inv := λ k => 1 <= k /\ k <= c.ms.length, meas := λ k => 50 - k, again := [(204, 6128)] }
def lc6 (c : Cht) : Shape := { α := One, dflt := default, T := λ _ => ⟨lcS, lcB c (.d (zK c.ms)) (.d Ou)⟩, inv := λ _ => True, meas := λ _ => 0, ffz := [204] }
def lc7n (c : Cht) : Shape := { α := One, dflt := default, T := λ _ => ⟨lcS ++ [(5, .int 0)], lcB c (.d (zK c.ms)) (.d Ou)⟩, inv := λ _ => True, meas := λ _ => 60 }
def lc7o (c : Cht) : Shape := { α := Nat, dflt := 0, T := λ k => ⟨lcS ++ [(5, .int k)], lcB c (.d (zK c.ms)) (.own 205 5 0 k) ++ [(205, .live (.row 5 k λ i => eNt (gD c.ns i)))]⟩, inv := λ k => 1 <= k /\ k <= c.ns.length, meas := λ k => 50 - k, again := [(205, 10128)] }
def C_law : Ctr := { α := Cht, xs := λ c => [.d (Ak c)], L := λ _ => [], val := λ c => .d (Ak c), keep := λ _ => [], pre := λ c => [c.ms.length <= 42 /\ c.ns.length <= 42] }
def BQR (c : Cht) : Ann := { ann 50 [] with mt := λ id => id == 5 || id == 9, loops := λ id => if id = 3 then some [lc3n c, lc3o c] else if id = 7 then some [lc7n c, lc7o c] else none, cut := λ id => if id = 6 then some [lc6 c] else none }
def BRX (c : Cht) : Prop := CF Try.prog (BQR c) uT (AH uT) (C_law.xs c) (AB []) (.d (Ak c)) [] [] [205]
abbrev AKD a b c:=Yd a b b c
attribute [go_sem] AKD
theorem BXU (c : Cht) : (BRX c) = (And (ZB (GP DJ (AJ c) (AL c) (ZO c DJ (ACV DJ (Si AT FG (AG (AJ c) (AL c) (AM c) (AN c) (Yd (AQ c) AT FG FG))))) FL) (IR FL 0 (KF c) (KQ 0 (AU c) (ZK WM VL VB 16)) (HA (λ i=>CE (Kh i) (IQ c (AKD (DI c) DJ (Sa DJ AT FG (CW AT YF (AJ c) (AL c) (AM c) (AN c) (AQ c) AT (Wr (MI i) AT FG (AF (λ j=>GI j i (BV c j) c TQ (CK c j) TQ))))))) (KR i (AU c)) (JB 50 i 60))) (TE (λ i=>Ft c (ZO c DJ (ACV DJ (Si AT FG (AG (AJ c) (AL c) (AM c) (AN c) (Sg (AQ c) (BY (AU c) 0) AT FG))))) FL))) (λ i=>JF (KR i (AU c)) i (KF c) (FF i (AU c) (ZK (Dj i i) UP (VA i) (Dh i))) (HA (λ j=>GM (BR j i) (IQ c (AKD (DI c) DJ (Sa DJ AT FG (CW AT YF (AJ c) (AL c) (AM c) (AN c) (AQ c) AT (Wr (SJ j i) AT FG (AF (λ k=>EW k j (BV c k) (KX k i (BV c k) (BV c i)) (CK c k) (KX k i (CK c k) (CK c i))))))))) (KR j (AU c)) 50 j i)) (TE (λ j=>BC (AJ c) (DT (AL c) (AM c) (AN c) (AQ c) (DX c) (QJ c) (ZI (DR c) (DI c) (ADG DJ AT (Ow FG AT (AJ c) (CG (AL c) (AM c) (AN c) (AQ c) (BY (AU c) i) (OF i) (λ k=>XX k c (BV c (CM k)) c (CM k)) AT FG))))) FL)))) (XL (ZB (GP DJ (AJ c) (AL c) (ZO c DJ (ACV DJ (Si AT FG (UJ c (DX c) (λ i=>EO i c) AT FG)))) FL) (IR FL 0 (KV c) (KQ 0 (AO c) (RI (Jb 5) (WR RD 1 5) VL VB 40)) (HA (λ i=>CE (Kh i) (IQ c (AKD (DI c) DJ (Sa DJ AT FG (CW AT YF (AJ c) (AL c) (AM c) (AN c) (AQ c) (DX c) (Mv (QJ c) (MI i) (λ j=>FZ j i (WC c j c TQ) (BD c j) c TQ (BK c j) TQ)))))) (KR i (AO c)) (JB 50 i 60))) (AG (AJ c) (AL c) (AM c) (AN c) (qS (AQ c) (DX c) (QJ c) (BY (AO c) 0)))) (λ i=>JF (KR i (AO c)) i (KV c) (FF i (AO c) (RI (WR (BM i) i 5) (WR RD 1 5) UP (VA i) (Ip i 40))) (HA (λ j=>GM (BR j i) (IQ c (AKD (DI c) DJ (Sa DJ AT FG (CW AT YF (AJ c) (AL c) (AM c) (AN c) (AQ c) (DX c) (Mv (QJ c) (SJ j i) (λ k=>AX k j (AG (MC c k (KX k i (BW c k) (BW c i))) (BO (BD c k) (KX k i (BI (BD c k)) (BI (BD c i)))) (AZ (BD c k) (KX k i (BF (BD c k)) (BF (BD c i)))) (BO (BK c k) (KX k i (BI (BK c k)) (BI (BK c i)))) (AZ (BK c k) (KX k i (BF (BK c k)) (BF (BK c i))))))))))) (KR j (AO c)) 50 j i)) (And (AJ c) (EX (AL c) (AM c) (AN c) (AQ c) (DX c) (λ j=>EO j c) (BY (AO c) i) (OF i) (AF (λ j=>YG j c (WC c j c (CM j)) j (BD c (CM j)) (BK c (CM j)))))))))) := by kernel_rfl
theorem BVG : AK Try.prog APD (C_cpM.spec ATE) := VV C_cpM (λ _ => ann 7 []) [] [] BIB (λ _ => by kernel_rfl) (λ _ => AC) (λ (l : List Mk) h => by
 show BQJ l; rw [BXW]<;> delta JH Hi BY AF CN CO AS EU LS ET GV FU HC FL LC RX Ho AD AG AX BM BA CM CS EW HO Sf WR OQ GG VY UO RI TP WT Ec Jb WM ZP; simp only [CC, eq_self, implies_true, forall_const]
 have h : l.length < 1073741824 := h
 exact ⟨⟨λ h => absurd h (Nat.lt_irrefl 0), (λ h => by cases h), by omega, by omega⟩, λ i hi => by rw [Nat.sub_zero]; exact ⟨rfl, rfl⟩⟩) (λ _ => WY rfl rfl) _
theorem BWN : AK Try.prog ALZ (C_cpN.spec AQU) := VV C_cpN (λ _ => ann 7 []) [] [] BHP (λ _ => by kernel_rfl) (λ _ => AC) (λ (l : List Nt) h => by
 show BRI l; rw [BYE]<;> delta JH Hi BI BF EN EB EA BY AF CN CO AS EU LS DV EY FL LC RX Ho AD AG AZ AX BM AW BO BJ CX FO CM ES CS FH DU HO Sf WR OQ GG UO RI TP Xb WT Ec Jb By Ca ZP; simp only [CC, eq_self, implies_true, forall_const]
 have h : l.length < 1073741824 := h
 exact ⟨⟨λ h => absurd h (Nat.lt_irrefl 0), (λ h => by cases h), by omega, by omega⟩, λ i hi => by rw [Nat.sub_zero]; exact ⟨rfl, rfl, rfl, rfl, rfl⟩⟩) (λ _ => WY rfl rfl) _
theorem BWJ : AK Try.prog ATV (C_cpC.spec aM) := VV C_cpC (λ _ => BRW) [] [] BPK (λ _ => by kernel_rfl) (λ _ => AA BVG (AA BWN AC)) (λ (c : Cht) h => by
 show BTM c; rw [BWX]<;> delta BI BF EN EB EA BY AF CN CO AS ET GW FK HV IB HK GV FU HC DV FW EY LD GZ AD CI AU FT GN AG GK AZ AX AE FA AW JP BL BD AO AR DD BA BK II BO BJ CX BW BV AJ AQ JD AV EH CK AN AL JE JO FX FQ FO AM IV FD ES CG BC IW JA EZ EV FH EW DU FZ GI BN GA GC HD PQ MU IS ND MC NM BP FJ FI UJ BH BG IP JX HY MJ CQ GD HM FN JS LX; simp only [CC, eq_self, implies_true, forall_const]
 have h : c.ms.length < 1073741824 /\ c.ns.length < 1073741824 := h
 exact ⟨h.1, h.2⟩) (λ _ => WY rfl rfl) _
theorem BUU : AK Try.prog Z6 (C_smM.spec ATE) := VV C_smM (λ (l : List Mk) => { ann 26 [] with loops := λ id => if id = 4 then some [smM4 l] else none }) [] [] BHN (λ _ => by kernel_rfl) (λ _ => AC) (λ (l : List Mk) h => by
 have h : l.length < 1073741824 := h
 show BSB l; rw [BVV]<;> delta JH Hi MM ON BY AF CN CO AS BE EC JL FY MN NT LS ET GV FU HC HA Ey LC SI GZ AD AG AX AE BM GQ zT Yd Si BA HI GH DK BX DO HH CE AFQ DZ JB ED BR LG JM GR QV MQ HZ IR BZ DW FV KS JF NG Zs OS Qg aI; simp only [CC, eq_self, implies_true, forall_const]
 refine ⟨λ h => by simp at h, λ _ => ⟨⟨0, rfl, Nat.zero_le _⟩, λ k hk hlt => ⟨by omega, λ h => by simp at h, λ _ => ⟨k + 1, (HL (by omega)).symm, by omega, by omega⟩⟩⟩⟩) (λ _ => WY rfl rfl) _
theorem BVN : AK Try.prog Z0 (C_smN.spec AQU) := VV C_smN (λ (l : List Nt) => { ann 26 [] with loops := λ id => if id = 4 then some [smN4 l] else none }) [] [] BES (λ _ => by kernel_rfl) (λ _ => AC) (λ (l : List Nt) h => by
 have h : l.length < 1073741824 := h
 show BQT l; rw [BVT]<;> delta JH Hi BI BF EN MM ON EB EA BY AF CN CO AS BE EC JL FY MN NT LS DV EY HA Ey LC SI GZ AD AG AZ AX AE BM GQ zT Yd Si AW BL CX HI AV FC GH HG HE DK BX DO HH CE AFQ PX DZ JB ED BR LG JM GR QV MQ HZ IR BZ DW FV VJ KS JF NG By Ca OS Qg aI; simp only [CC, eq_self, implies_true, forall_const]
 refine ⟨λ h => by simp at h, λ _ => ⟨⟨0, rfl, Nat.zero_le _⟩, λ k hk hlt => ⟨by omega, λ h => by simp at h, λ _ => ⟨k + 1, (HL (by omega)).symm, by omega, by omega⟩⟩⟩⟩) (λ _ => WY rfl rfl) _
theorem BYF : AK Try.prog P4 (C_smC.spec BAM) := VV C_smC (λ _ => ann 45 [(Z6, C_smM.spec ATE), (Z0, C_smN.spec AQU)]) [] [] ATN (λ _ => by kernel_rfl) (λ _ => AA BUU (AA BVN AC)) (λ (c : Cht) h => by
 have h : c.ms.length < 1073741824 /\ c.ns.length < 1073741824 := h
 show BTG c; rw [BYQ]; simp only [CC, eq_self, implies_true, forall_const]
 simp only [beq_self_eq_true, Bool.and_self, cond_true]
 exact ⟨⟨λ _ => h.1, λ _ => h.2⟩, trivial⟩) (λ _ => WY rfl rfl) _
theorem BVQ : AK Try.prog AAV (C_big.spec BAM) := VV C_big (λ _ => ann 37 []) [] [] BCI (λ _ => by kernel_rfl) (λ _ => AC) (λ (c : Cht) _ => by
 show BTF c; rw [BUN]<;> delta JH zU Hi BE JL ET GW DV FW LC XS AU AO KF LJ PP KV XP; unfold bigV
 have e1 : decide ((c.ms.length : Int) > 10) = decide ((10 : Int) < c.ms.length) := rfl
 have e2 : decide ((c.ms.length : Int) > 42) = decide ((42 : Int) < c.ms.length) := rfl
 have e3 : decide ((c.ns.length : Int) > 8) = decide ((8 : Int) < c.ns.length) := rfl
 have e4 : decide ((c.ns.length : Int) > 22) = decide ((22 : Int) < c.ns.length) := rfl
 rw [e1, e2, e3, e4]
 cases decide ((10 : Int) < c.ms.length) <;> cases decide ((c.ms.length : Int) < 40) <;> cases decide ((42 : Int) < c.ms.length) <;> cases decide ((8 : Int) < c.ns.length) <;> cases decide ((c.ns.length : Int) < 20) <;> cases decide ((22 : Int) < c.ns.length) <;> rfl) (λ _ => WY rfl rfl) _
theorem CBF (c : Cht) (h : c.ms.length <= 42 /\ c.ns.length <= 42) : BRX c := by
 obtain ⟨m, n⟩ := h
 rw [BXU]<;> delta JH Hi BI BF EN MM ON EB EA BY AF CN CO AS BE XB EU EC JL FY MN NT LS ET GW FK HV IB HK GV FU HC DV FW EY HA FL LC EP RX Ai TE Yb Ho AD CI AU AG AZ AX AE BM GQ Wq Sb Wr Yd Ow Si AJC qS ADG ACV AKD Sg Sa AW BL BD AO AR DD BA BK BO BJ CX HI BW BV AJ AQ AV FC CK AN AL GH HG FX FQ FO AM HE DK ID DR CM BX CG DO OX BC HS DX JR HH CE CW CS FH HQ DZ KF EW AT DU JB ED HR HO BR FZ GI EO LG IH MU MC UD JM EX RV DT DJ Sf QV MQ EI UJ LV LM IP WR DI IR KT OQ YG IQ HY GG YF GM TQ TK Lu VY FG KV Ch IN UO RD KX KS KR RI FF JF GP TP MI SJ KQ OF ZO QJ WT Np Ec Pw Cc Lo UP Ip VB VA VL Jb WM WC XL Ft ZI Dj ZK ZB Dh XX kU Mv Kh; simp only [CC, eq_self, implies_true, forall_const]
 refine ⟨⟨⟨default, trivial⟩, ⟨λ h => ⟨⟨by omega, by omega, by omega, by omega, by omega, by omega⟩, 1, ⟨rfl, rfl, rfl, λ i hi => ?_⟩, ⟨by omega, by omega⟩, by omega⟩, λ h => ⟨default, by omega⟩⟩, λ k ⟨k1, k2⟩ => ⟨λ hlt => ⟨⟨by omega, by omega, by omega, by omega, by omega⟩, k + 1, ⟨(HL (by omega)).symm, rfl, rfl, λ i hi => ?_⟩, ⟨by omega, by omega⟩, by omega⟩, λ hge => ⟨default, by omega, by omega⟩⟩⟩, ⟨default, trivial⟩, ⟨λ h => ⟨⟨by omega, by omega, by omega, by omega, by omega, by omega⟩, 1, ⟨rfl, rfl, rfl, λ i hi => ?_⟩, ⟨by omega, by omega⟩, by omega⟩, λ h => by omega⟩, λ k ⟨k1, k2⟩ => ⟨λ hlt => ⟨⟨by omega, by omega, by omega, by omega, by omega⟩, k + 1, ⟨(HL (by omega)).symm, rfl, rfl, λ i hi => ?_⟩, ⟨by omega, by omega⟩, by omega⟩, λ hge => ⟨by omega, by omega⟩⟩⟩
 ·obtain rfl : i = 0 := by omega
  exact ⟨rfl, rfl⟩
 ·by_cases h : i < k
  ·simp [h]
  ·obtain rfl : i = k := by omega
   simp
 ·obtain rfl : i = 0 := by omega
  exact ⟨rfl, rfl, rfl, rfl, rfl⟩
 ·by_cases h : i < k
  ·simp [h]
  ·obtain rfl : i = k := by omega
   simp
theorem BXM : AK Try.prog tA (C_law.spec aM) := VV C_law BQR [] [205] AQS (λ _ => by kernel_rfl) (λ _ => AC) (λ (c : Cht) h => CBF c h) (λ _ => WY rfl rfl) _
end Go.Bal
