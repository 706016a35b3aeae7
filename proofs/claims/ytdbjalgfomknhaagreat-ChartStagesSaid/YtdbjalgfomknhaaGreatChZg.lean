/- Package chart, with the reference: what the law itself calls (copies, same, big, a chart of the reference). -/
import Derived.Test.YtdbjalgfomknhaaGreatChO
import Derived.Test.YtdbjalgfomknhaaGreatChP
set_option linter.unusedVariables false
set_option linter.unusedSimpArgs false
namespace Go.Bal
open Go Go.Sym Go.Proofs
def AJW : List AVal -> Heap -> Option (List Mk × List (Nat × Nat) × List Nat)
 | y :: _, H => match dMks y H with
  | some (l, f) => some (l, [], f)
  | none => none
 | _, _ => none
def ALJ : List AVal -> Heap -> Option (List Nt × List (Nat × Nat) × List Nat)
 | y :: _, H => match dNts y H with
  | some (l, f) => some (l, [], f)
  | none => none
 | _, _ => none
def AEP : List AVal -> Heap -> Option (List Int × List (Nat × Nat) × List Nat)
 | y :: _, H => match G1 y H with
  | some (l, f) => some (l, [], f)
  | none => none
 | _, _ => none
def AQT : List AVal -> Heap -> Option (Cht × List (Nat × Nat) × List Nat)
 | y :: _, H => match vO y H with
  | some (l, f) => some (l, [], f)
  | none => none
 | _, _ => none
def C_cpM : Ctr := { α := List Mk, xs := λ l => [.d (tT l)], L := λ _ => [], val := λ l => .d (tT l), keep := λ _ => [], pre := λ l => [l.length < 1073741824] }
def BJZ (l : List Mk) : Prop := CL Try.prog (ann 7 []) AEX (AH AEX) (C_cpM.xs l) (AB []) (C_cpM.val l) [] [] []
theorem BLZ (l : List Mk) : (BJZ l) = (IF (PA Do (TE LG (ER l)) (MB (ER l)) (Fk (ER l)) (Ab (BB (ER l)))) (Jx (ER l) (ER l)) (λ i=>CS i (ER l) (CN l i) (CN l (RV i)) (CV l i) (CV l (RV i)))) := by kernel_rfl
def C_cpN : Ctr := { α := List Nt, xs := λ l => [.d (lK l)], L := λ _ => [], val := λ l => .d (lK l), keep := λ _ => [], pre := λ l => [l.length < 1073741824] }
def BKE (l : List Nt) : Prop := CL Try.prog (ann 7 []) AHK (AH AHK) (C_cpN.xs l) (AB []) (C_cpN.val l) [] [] []
theorem BMX (l : List Nt) : (BKE l) = (IF (PA (Pc 5) (Pt (DS l) (BC 5)) (MB (DS l)) (Fk (DS l)) (WY (BB (DS l)) 40)) (Jx (DS l) (DS l)) (λ i=>Al i (DS l) l i (ED l (RV i)))) := by kernel_rfl
def C_cpI : Ctr := { α := List Int, xs := λ l => [.d (JO l)], L := λ _ => [], val := λ l => .d (JO l), keep := λ _ => [], pre := λ l => [l.length < 1073741824] }
def BJY (l : List Int) : Prop := CL Try.prog (ann 7 []) AEV (AH AEV) (C_cpI.xs l) (AB []) (C_cpI.val l) [] [] []
theorem BNX (l : List Int) : (BJY l) = (IF (PA (Is (NN 0)) (And LG (NY 0 l Ac)) (MB (BV l)) (Fk (BV l)) (WY (BB (BV l)) 8)) (HH l (BB (BV l))) (λ i=>Ly i l l (RV i))) := by kernel_rfl
def C_cpC : Ctr := { α := Cht, xs := λ c => [.d (Ef c)], L := λ _ => [], val := λ c => .d (Ef c), keep := λ _ => [], pre := λ c => [c.ms.length < 1073741824 /\ c.ns.length < 1073741824] }
def BIT : Ann := ann 12 [(AIC, C_cpM.spec AJW), (AIH, C_cpN.spec ALJ)]
def BJB (c : Cht) : Prop := CL Try.prog BIT AMB (AH AMB) (C_cpC.xs c) (AB []) (C_cpC.val c) [] [] []
theorem BOJ (c : Cht) : (BJB c) = (And (CW (BM c) (SE c) (OB (EN c)) (BK c) (JB c) (ME (FS c) 1073741824)) (QI c c c (CA c) (λ i=>EE i c) (BZ c) (λ i=>CP i c))) := by kernel_rfl
def smM4 (l : List Mk) : Shape := { α := Nat, dflt := 0, T := λ k => ⟨[(0, .d (tT l)), (1, .d (tT l)), (5, .int k)], []⟩, inv := λ k => k <= l.length, meas := λ k => l.length - k }
def C_smM : Ctr := { α := List Mk, xs := λ l => [.d (tT l), .d (tT l)], L := λ _ => [], val := λ _ => .bool true, keep := λ _ => [], pre := λ l => [l.length < 1073741824] }
def BIB (l : List Mk) : Prop := CL Try.prog { ann 26 [] with loops := λ id => if id = 4 then some [smM4 l] else none } AIL (AH AIL) (C_smM.xs l) (AB []) (.bool true) [] [] []
abbrev Mv:=EU IX
abbrev Zx a b:=and (WI a a) b
attribute [go_sem] Mv Zx
theorem BLD (l : List Mk) : (BIB l) = (DX (pG (BU (ER l))) Mv (DY (λ i=>TD (Od (BC (ER l)) (AC (λ j=>FE j (ER l) (CN l j) (CV l j))) (BR i)) i (ER l)) (λ i=>CO (LL i (ER l)) i (ER l) (RG (DG i (ER l)) (BU i) (ER l)) (PB (not (Zx (CN l i) (Zx (CV l i) IX))) Mv (λ j=>VC (Od (BC (ER l)) (AC (λ k=>FE k (ER l) (CN l k) (CV l k))) (BH j i)) j (ER l) j i)) HF))) := by kernel_rfl
def smN4 (l : List Nt) : Shape := { α := Nat, dflt := 0, T := λ k => ⟨[(0, .d (lK l)), (1, .d (lK l)), (5, .int k)], []⟩, inv := λ k => k <= l.length, meas := λ k => l.length - k }
def C_smN : Ctr := { α := List Nt, xs := λ l => [.d (lK l), .d (lK l)], L := λ _ => [], val := λ _ => .bool true, keep := λ _ => [], pre := λ l => [l.length < 1073741824] }
def BIY (l : List Nt) : Prop := CL Try.prog { ann 26 [] with loops := λ id => if id = 4 then some [smN4 l] else none } AFH (AH AFH) (C_smN.xs l) (AB []) (.bool true) [] [] []
theorem BOM (l : List Nt) : (BIY l) = (DX (pG (BU (DS l))) Mv (DY (λ i=>TD (Od (BC (DS l)) (AC (λ j=>CR j (DS l) (MG (ED l j)) (KC (ED l j)) (KD (ED l j)) (KE (ED l j)) (DZ (ED l j)))) (BR i)) i (DS l)) (λ i=>CO (LL i (DS l)) i (DS l) (RG (DG i (DS l)) (BU i) (DS l)) (PB (not (Zx (FW (ED l i)) (and (Zx (CK (ED l i)) (Zx (BI (EX (ED l i))) IX)) (and (Zx (CQ (ED l i)) (Zx (Hs (ED l i)) IX)) IX)))) Mv (λ j=>VC (Od (BC (DS l)) (AC (λ k=>CR k (DS l) (MG (ED l k)) (KC (ED l k)) (KD (ED l k)) (KE (ED l k)) (DZ (ED l k)))) (BH j i)) j (DS l) j i)) HF))) := by kernel_rfl
def smI4 (l : List Int) : Shape := { α := Nat, dflt := 0, T := λ k => ⟨[(0, .d (JO l)), (1, .d (JO l)), (5, .int k)], []⟩, inv := λ k => k <= l.length, meas := λ k => l.length - k }
def C_smI : Ctr := { α := List Int, xs := λ l => [.d (JO l), .d (JO l)], L := λ _ => [], val := λ _ => .bool true, keep := λ _ => [], pre := λ l => [l.length < 1073741824] }
def BHY (l : List Int) : Prop := CL Try.prog { ann 26 [] with loops := λ id => if id = 4 then some [smI4 l] else none } AGG (AH AGG) (C_smI.xs l) (AB []) (.bool true) [] [] []
theorem BLC (l : List Int) : (BHY l) = (DX (pG (BU (BV l))) Mv (DY (λ i=>TD (Od (Bf l) (AC (λ j=>VG j l (BQ l j))) (BR i)) i (BV l)) (λ i=>CO (LL i (BV l)) i (BV l) (RG (XS i l) (BU i) (BV l)) (PB (pG (BQ l i)) Mv (λ j=>VC (Od (Bf l) (AC (λ k=>VG k l (BQ l k))) (BH j i)) j (BV l) j i)) HF))) := by kernel_rfl
def C_smC : Ctr := { α := Cht, xs := λ c => [.d (Ef c), .d (Ef c)], L := λ _ => [], val := λ _ => .bool true, keep := λ _ => [], pre := λ c => [c.ms.length < 1073741824 /\ c.ns.length < 1073741824] }
def BIF (c : Cht) : Prop := CL Try.prog (ann 45 [(N4, C_smM.spec AJW), (L4, C_smN.spec ALJ)]) F5 (AH F5) (C_smC.xs c) (AB []) (.bool true) [] [] []
theorem BKP (c : Cht) : (BIF c) = ((((bif bif bif c.p.lo == c.p.lo && (c.p.hi == c.p.hi && true) then c.base == c.base else false then c.scale == c.scale else false then c.off == c.off else false) = true -> (QR
 c.ms.length λ (i : Nat) => gD c.ms i).length = c.ms.length /\ (∀ (i : Nat), i < (QR c.ms.length λ (i : Nat) => gD c.ms i).length -> (gD (QR c.ms.length λ (i : Nat) => gD c.ms i) i).pl = (gD c.ms i).pl /\ (gD (QR
 c.ms.length λ (i : Nat) => gD c.ms i) i).ht = (gD c.ms i).ht) /\ (QR c.ms.length λ (i : Nat) => gD c.ms i).length = c.ms.length /\ (∀ (i : Nat), i < (QR c.ms.length λ (i : Nat) => gD c.ms i).length -> (gD (QR
 c.ms.length λ (i : Nat) => gD c.ms i) i).pl = (gD c.ms i).pl /\ (gD (QR c.ms.length λ (i : Nat) => gD c.ms i) i).ht = (gD c.ms i).ht) /\ (QR c.ms.length λ (i : Nat) => gD c.ms i).length.succ.le 1073741824) /\ ((bif
 bif bif bif c.p.lo == c.p.lo && (c.p.hi == c.p.hi && true) then c.base == c.base else false then c.scale == c.scale else false then c.off == c.off else false then true else false) = true -> (QR c.ns.length λ (i : Nat)
 => gD c.ns i).length = c.ns.length /\ (∀ (i : Nat), i < (QR c.ns.length λ (i : Nat) => gD c.ns i).length -> (gD (QR c.ns.length λ (i : Nat) => gD c.ns i) i).mi = (gD c.ns i).mi /\ (gD (QR c.ns.length λ (i : Nat) =>
 gD c.ns i) i).t.lo = (gD c.ns i).t.lo /\ (gD (QR c.ns.length λ (i : Nat) => gD c.ns i) i).t.hi = (gD c.ns i).t.hi /\ (gD (QR c.ns.length λ (i : Nat) => gD c.ns i) i).s.lo = (gD c.ns i).s.lo /\ (gD (QR c.ns.length fun
 (i : Nat) => gD c.ns i) i).s.hi = (gD c.ns i).s.hi) /\ (QR c.ns.length λ (i : Nat) => gD c.ns i).length = c.ns.length /\ (∀ (i : Nat), i < (QR c.ns.length λ (i : Nat) => gD c.ns i).length -> (gD (QR c.ns.length fun
 (i : Nat) => gD c.ns i) i).mi = (gD c.ns i).mi /\ (gD (QR c.ns.length λ (i : Nat) => gD c.ns i) i).t.lo = (gD c.ns i).t.lo /\ (gD (QR c.ns.length λ (i : Nat) => gD c.ns i) i).t.hi = (gD c.ns i).t.hi /\ (gD (QR
 c.ns.length λ (i : Nat) => gD c.ns i) i).s.lo = (gD c.ns i).s.lo /\ (gD (QR c.ns.length λ (i : Nat) => gD c.ns i) i).s.hi = (gD c.ns i).s.hi) /\ (QR c.ns.length λ (i : Nat) => gD c.ns i).length.succ.le 1073741824))
 /\ true = bif bif bif bif bif c.p.lo == c.p.lo && (c.p.hi == c.p.hi && true) then c.base == c.base else false then c.scale == c.scale else false then c.off == c.off else false then true else false then true else false) :=
 by kernel_rfl
def bigV (c : Cht) : Bool := (decide ((10 : Int) < c.ms.length) && decide ((c.ms.length : Int) < 40)) || decide ((42 : Int) < c.ms.length) || (decide ((8 : Int) < c.ns.length) && decide ((c.ns.length : Int) < 20)) || decide ((22 : Int) < c.ns.length)
def C_big : Ctr := { α := Cht, xs := λ c => [.d (Ef c)], L := λ _ => [], val := λ c => .bool (bigV c), keep := λ _ => [] }
def BJD (c : Cht) : Prop := CL Try.prog (ann 37 []) U5 (AH U5) (C_big.xs c) (AB []) (.bool (bigV c)) [] [] []
theorem BMW (c : Cht) : (BJD c) = (KY (bigV c) (NC (NC (NC (GH (As (NF c) 10) (IP (NF c) 40)) (As (NF c) 42)) (GH (OT (AO c) 8) (IS (AO c) 20))) (OT (AO c) 22))) := by kernel_rfl
def lcB (c : Cht) (x y : AVal) : List (Nat × HCell) := [(201, .live (oI c)), (202, .live (.box [.int 0, .int 0, .int 0, .int 0, .int 0, .d Rv, .d Rv])), (203, .live (.box [.int c.p.lo, .int c.p.hi, .int c.base, .int c.scale, .int c.off, x, y]))]
def lcS : List (Nat × AVal) := [(1, .bptr 201 0), (2, .bptr 202 0), (3, .bptr 203 0)]
def lc3n (c : Cht) : Shape := { α := One, dflt := default, T := λ _ => ⟨lcS ++ [(4, .int 0)], lcB c (.d Rv) (.d Rv)⟩, inv := λ _ => True, meas := λ _ => 60, first := [(201, 1000), (202, 1016), (203, 2144)] }
def lc3o (c : Cht) : Shape := { α := Nat, dflt := 0, T := λ k => ⟨lcS ++ [(4, .int k)], lcB c (.own 204 2 0 k) (.d Rv) ++ [(204, .live (.row 2 k λ i => eMk (gD c.ms i)))]⟩, inv := λ k => 1 <= k /\ k <= c.ms.length, meas := λ k => 50 - k, again := [(204, 6128)] }
def lc6 (c : Cht) : Shape := { α := One, dflt := default, T := λ _ => ⟨lcS, lcB c (.d (tT c.ms)) (.d Rv)⟩, inv := λ _ => True, meas := λ _ => 0, ffz := [204] }
def lc7n (c : Cht) : Shape := { α := One, dflt := default, T := λ _ => ⟨lcS ++ [(5, .int 0)], lcB c (.d (tT c.ms)) (.d Rv)⟩, inv := λ _ => True, meas := λ _ => 60 }
def lc7o (c : Cht) : Shape := { α := Nat, dflt := 0, T := λ k => ⟨lcS ++ [(5, .int k)], lcB c (.d (tT c.ms)) (.own 205 5 0 k) ++ [(205, .live (.row 5 k λ i => eNt (gD c.ns i)))]⟩, inv := λ k => 1 <= k /\ k <= c.ns.length, meas := λ k => 50 - k, again := [(205, 10128)] }
def C_law : Ctr := { α := Cht, xs := λ c => [.d (Ef c)], L := λ _ => [], val := λ c => .d (Ef c), keep := λ _ => [], pre := λ c => [c.ms.length <= 42 /\ c.ns.length <= 42] }
def BIN (c : Cht) : Ann := { ann 50 [] with mt := λ id => id == 5 || id == 9, loops := λ id => if id = 3 then some [lc3n c, lc3o c] else if id = 7 then some [lc7n c, lc7o c] else none, cut := λ id => if id = 6 then some [lc6 c] else none }
def BJP (c : Cht) : Prop := CL Try.prog (BIN c) rN (AH rN) (C_law.xs c) (AB []) (.d (Ef c)) [] [] [205]
abbrev Z2 a b c d e f g:=ACE a a b c d e f g
abbrev AJC a b c d e f g:=cL a b c d e f e g
attribute [go_sem] Z2 AJC
theorem BKQ (c : Cht) : (BJP c) = (Ah (IF (LZ (AN AJ (AM c) (AL c) (RF c AJ (AJC AJ AJ AJ AI GV AI (QI c c c AI Ee AI Ee))))) (Kr (λ i=>HX LG (IP 0 (NF c)) (CW (Jh (AW c)) Do VZ Cd Ay Ja) (GW (λ j=>JP (CW (FL j Jj) (AM c) (AL c) (AP c) (AS c) (Jq (AT c) (DE c) (RM c) c (NZ c) AJ (Z2 AJ AI GV AI (AM c) (AL c) (ACT (AP c) (AS c) (AT c) AI (NN j) AI GV (AC (λ k=>FJ k j (BO c k) (BO c PW) (CF c k) c PW)))))) (KJ j (AW c)) 50 j 60)) (LZ (ZZ c (RF c AJ (AJC AJ AJ AJ AI GV AI (J1 (AM c) (AL c) (AP c) (AS c) (AT c) (KR c 0) AI GV))))))) (λ i=>HX (KJ i (AW c)) (IS i (NF c)) (CW (DG i (AW c)) (Jo i i) VZ (SC ZF) (Cr i) (Jt i)) (GW (λ j=>DU (CW (BH j i) (AM c) (AL c) (AP c) (AS c) (Jq (AT c) (DE c) (RM c) c (NZ c) AJ (Z2 AJ AI GV AI (AM c) (AL c) (ACT (AP c) (AS c) (AT c) AI (VH j i) AI GV (AC (λ k=>JC k j c k (OU k i (BO c k) (BO c i)) c (OU k i (CF c k) (CF c i)))))))) (KJ j (AW c)) 50 j i)) (LZ (AN (AM c) (AL c) (AP c) (cR (AS c) (AT c) (DE c) (RM c) (DB c) (NZ c) AJ (Z2 AJ AJ AI GV GV (AM c) (DF (AL c) (AP c) (AS c) (AT c) (KR c i) (NP i) (λ j=>FJ j (AW c) (BO c j) (BO c (BB j)) (CF c j) c (BB j)) AI GV))))))) (IF (LZ (AN AJ (AM c) (AL c) (RF c AJ (AJC AJ AJ AJ AI GV AI (QI c c c (DE c) (λ i=>EB i c) AI Ee))))) (Kr (λ i=>HX LG (IP 0 (BU (AO c))) (CW (Jh (AO c)) (Pc 5) (SS SH 1 (BC 5)) Cd Ay (XV 40)) (GW (λ j=>JP (CW (FL j Jj) (AM c) (AL c) (AP c) (AS c) (Jq (AT c) (DE c) (RM c) c (NZ c) AJ (Z2 AJ AI GV AI (AM c) (AL c) (cR (AP c) (AS c) (AT c) (DE c) (RM c) AI (NN j) (AC (λ k=>FU k j (XA c k c PW) (MO c k (DJ c PW)) (XK c k c PW) (WH c k c PW) (BG c k) (BG c PW))))))) (KJ j (AO c)) 50 j 60)) (UH c (DE c) (λ j=>EB j c) (MR c 0) (MR c 0)))) (λ i=>CO (KJ i (AO c)) i (AO c) (CW (Af i c) (SS (BC i) i (BC 5)) (SS SH 1 (BC 5)) (SC ZF) (Cr i) (WY (FK i) 40)) (GW (λ j=>DU (CW (BH j i) (AM c) (AL c) (AP c) (AS c) (Jq (AT c) (DE c) (RM c) c (NZ c) AJ (Z2 AJ AI GV AI (AM c) (AL c) (cR (AP c) (AS c) (AT c) (DE c) (RM c) AI (VH j i) (AC (λ k=>CR k j (OV c k (OU k i (DD c k) (DD c i))) (MO c k (OU k i (DJ c k) (DJ c i))) (BF (DM c k) (OU k i (BI (DM c k)) (BI (DM c i)))) (EG (BG c k) (OU k i (EY c k) (EY c i))) (BF (FI (BG c k)) (OU k i (Hs (BG c k)) (Hs (BG c i)))))))))) (KJ j (AO c)) 50 j i)) (And (AM c) (FP (AL c) (AP c) (AS c) (AT c) (DE c) (λ j=>EB j c) (MR c i) (NP i) (AC (λ j=>FF j c (XA c j c (BB j)) (DJ c (BB j)) (XK c j c (BB j)) (WH c j c (BB j)) (BG c (BB j))))))))) := by kernel_rfl
theorem BOR : AK Try.prog AIC (C_cpM.spec AJW) := XM C_cpM (λ _ => ann 7 []) [] [] BBK (λ _ => by kernel_rfl) (λ _ => AD) (λ (l : List Mk) h => by
 show BJZ l; rw [BLZ]<;> delta KY Aq CE AC BX CM AQ DH JV ER HR LG IX QT AE AG BE CN BC BS CV DR BB CS DI HL SS PC MB TE XY XV SC WY IF RV Pt PA Is Ab Pc Do Jx Fk; simp only [CC, eq_self, implies_true, forall_const]
 have h : l.length < 1073741824 := h
 exact ⟨⟨λ h => absurd h (Nat.lt_irrefl 0), (λ h => by cases h), by omega, by omega⟩, λ i hi => by rw [Nat.sub_zero]; exact ⟨rfl, rfl⟩⟩) (λ _ => YR rfl rfl) _
theorem BNR : AK Try.prog AIH (C_cpN.spec ALJ) := XM C_cpN (λ _ => ann 7 []) [] [] AVQ (λ _ => by kernel_rfl) (λ _ => AD) (λ (l : List Nt) h => by
 show BKE l; rw [BMX]<;> delta KY Aq BA BI FW EX FI CE AC BX CM AQ DH JV DS ED LG IX QT AE AG BF BE CK BD BC CQ CR BB EG FC FG FV HA FU ET FY DI LR OK HL OM MT SS MB NL XY XV SC WY IF RV Pt PA Is Al Pc Jx Fk; simp only [CC, eq_self, implies_true, forall_const]
 have h : l.length < 1073741824 := h
 exact ⟨⟨λ h => absurd h (Nat.lt_irrefl 0), (λ h => by cases h), by omega, by omega⟩, λ i hi => by rw [Nat.sub_zero]; exact ⟨rfl, rfl, rfl, rfl, rfl⟩⟩) (λ _ => YR rfl rfl) _
theorem BMG : AK Try.prog AEW (C_cpI.spec AEP) := XM C_cpI (λ _ => ann 7 []) [] [] AWP (λ _ => by kernel_rfl) (λ _ => AD) (λ (l : List Int) h => by
 show BJY l; rw [BNX]<;> delta KY Aq CE AC BX CM AQ DH JV LG IX QT BV BQ AE AG BE BC BB NY DI HH HL QV MD GZ SS MB Ly XY XV SC NN WY IF RV Ac Pt PA Is Fk; simp only [CC, eq_self, implies_true, forall_const]
 have h : l.length < 1073741824 := h
 exact ⟨⟨λ h => absurd h (Nat.lt_irrefl 0), (λ h => by cases h), by omega, by omega⟩, λ i hi => by rw [Nat.sub_zero]⟩) (λ _ => YR rfl rfl) _
theorem BMS : AK Try.prog AOJ (C_cpC.spec oQ) := XM C_cpC (λ _ => BIT) [] [] BDR (λ _ => by kernel_rfl) (λ _ => AA BOR (AA BNR AD)) (λ (c : Cht) h => by
 show BJB c; rw [BOJ]<;> delta BA BI FW EX FI CE AC BX CM AQ ER GP GA HQ HT HC HR DS GB ED LL AE BG AW EO GJ GI AG GM BF BE CK AR CN BD AF JJ CG AO CQ GT BS CV CY BO CR DD AL KA CF AM AT DM DR GG AS DJ EG FC AP EY FG FS EN CS FV DF HA KB LQ FU ET LP FY FJ EV JS KV BK IT KF LM OJ MR CW OX QI KR MO OV QS QY ME BM BZ CA EP FQ AZ JC JN FF GO KL EE BJ CP OB JB SE; simp only [CC, eq_self, implies_true, forall_const]
 have h : c.ms.length < 1073741824 /\ c.ns.length < 1073741824 := h
 exact ⟨h.1, h.2⟩) (λ _ => YR rfl rfl) _
theorem BNY : AK Try.prog N4 (C_smM.spec AJW) := XM C_smM (λ (l : List Mk) => { ann 26 [] with loops := λ id => if id = 4 then some [smM4 l] else none }) [] [] AYB (λ _ => by kernel_rfl) (λ _ => AD) (λ (l : List Mk) h => by
 have h : l.length < 1073741824 := h
 show BIB l; rw [BLD]<;> delta KY Aq OH PR CE AC BX CM AQ BU DX IP HD LS PG JV ER HR GW WI IX TU LL AE AG BE CN AF BC EZ pG Od BS CV HK GF DW DC GR FZ FE CJ GQ FL LV JG BH JP DV DG LX IS MU HG EU HX DU BR CO HF DY RD RG PB Aa VC TD Mv Zx; simp only [CC, eq_self, implies_true, forall_const]
 refine ⟨λ h => by simp at h, λ _ => ⟨⟨0, rfl, Nat.zero_le _⟩, λ k hk hlt => ⟨by omega, λ h => by simp at h, λ _ => ⟨k + 1, (FH (by omega)).symm, by omega, by omega⟩⟩⟩⟩) (λ _ => YR rfl rfl) _
theorem BMB : AK Try.prog L4 (C_smN.spec ALJ) := XM C_smN (λ (l : List Nt) => { ann 26 [] with loops := λ id => if id = 4 then some [smN4 l] else none }) [] [] BBE (λ _ => by kernel_rfl) (λ _ => AD) (λ (l : List Nt) h => by
 have h : l.length < 1073741824 := h
 show BIY l; rw [BOM]<;> delta KY Aq BA BI FW OH PR EX FI CE AC BX CM AQ BU DX IP HD LS PG JV DS ED GW WI IX TU LL AE AG BF BE CK BD AF CG BC EZ pG Od CQ HK CR DZ GF DW DC GR FZ CJ GQ KD FL LV JG BH JP DV DG LX MG KE IS KC MU HG EU HX DU BR CO HF DY RD RG PB Aa VC TD Hs Mv Zx; simp only [CC, eq_self, implies_true, forall_const]
 refine ⟨λ h => by simp at h, λ _ => ⟨⟨0, rfl, Nat.zero_le _⟩, λ k hk hlt => ⟨by omega, λ h => by simp at h, λ _ => ⟨k + 1, (FH (by omega)).symm, by omega, by omega⟩⟩⟩⟩) (λ _ => YR rfl rfl) _
theorem BMZ : AK Try.prog AGN (C_smI.spec AEP) := XM C_smI (λ (l : List Int) => { ann 26 [] with loops := λ id => if id = 4 then some [smI4 l] else none }) [] [] BBF (λ _ => by kernel_rfl) (λ _ => AD) (λ (l : List Int) h => by
 have h : l.length < 1073741824 := h
 show BHY l; rw [BLC]<;> delta KY Aq OH PR CE AC BX CM AQ BU DX IP HD LS PG JV GW IX TU LL BV BQ AE AG BE AF BC EZ pG Od HK GF DW DC GR FZ CJ GQ NY FL LV JG BH JP DV DG LX Bf IS MU HG EU HX DU BR VG CO HF DY RD RG PB XS Aa VC TD Mv; simp only [CC, eq_self, implies_true, forall_const]
 refine ⟨λ h => by simp at h, λ _ => ⟨⟨0, rfl, Nat.zero_le _⟩, λ k hk hlt => ⟨by omega, λ h => by simp at h, λ _ => ⟨k + 1, (FH (by omega)).symm, by omega, by omega⟩⟩⟩⟩) (λ _ => YR rfl rfl) _
theorem BNE : AK Try.prog C1 (C_smC.spec AQT) := XM C_smC (λ _ => ann 45 [(N4, C_smM.spec AJW), (L4, C_smN.spec ALJ)]) [] [] AMU (λ _ => by kernel_rfl) (λ _ => AA BNY (AA BMB AD)) (λ (c : Cht) h => by
 have h : c.ms.length < 1073741824 /\ c.ns.length < 1073741824 := h
 show BIF c; rw [BKP]; simp only [CC, eq_self, implies_true, forall_const]
 simp only [beq_self_eq_true, Bool.and_self, cond_true]
 exact ⟨⟨λ _ => h.1, λ _ => h.2⟩, trivial⟩) (λ _ => YR rfl rfl) _
theorem BMA : AK Try.prog T8 (C_big.spec AQT) := XM C_big (λ _ => ann 37 []) [] [] ASR (λ _ => by kernel_rfl) (λ _ => AD) (λ (c : Cht) _ => by
 show BJD c; rw [BMW]<;> delta KY Aq BU IP ER GP DS GB IX As AW AO NF IS GH NC OT; unfold bigV
 have e1 : decide ((c.ms.length : Int) > 10) = decide ((10 : Int) < c.ms.length) := rfl
 have e2 : decide ((c.ms.length : Int) > 42) = decide ((42 : Int) < c.ms.length) := rfl
 have e3 : decide ((c.ns.length : Int) > 8) = decide ((8 : Int) < c.ns.length) := rfl
 have e4 : decide ((c.ns.length : Int) > 22) = decide ((22 : Int) < c.ns.length) := rfl
 rw [e1, e2, e3, e4]
 cases decide ((10 : Int) < c.ms.length) <;> cases decide ((c.ms.length : Int) < 40) <;> cases decide ((42 : Int) < c.ms.length) <;> cases decide ((8 : Int) < c.ns.length) <;> cases decide ((c.ns.length : Int) < 20) <;> cases decide ((22 : Int) < c.ns.length) <;> rfl) (λ _ => YR rfl rfl) _
theorem BRK (c : Cht) (h : c.ms.length <= 42 /\ c.ns.length <= 42) : BJP c := by
 obtain ⟨m, n⟩ := h
 rw [BKQ]<;> delta KY Aq BA BI FW OH PR EX FI CE AC BX CM AQ BU WF DH DX IP HD LS PG JV ER GP GA HQ HT HC HR DS GB ED GW LG IX HV QT YY Wz Kr AE BG AW AG BF BE CK AR CN BD AF CG BC EZ Tz cL J1 ACT AJC cR ACE Z2 AO CQ BS CV CY BO HK CR DD AL CF AM AT DM DR DZ GF GG BB DW AS DJ EG FC AP EY FG DC DB CS HW GR FZ JD DF FK RY FU FE DE CJ GQ AN FJ DI MF JS FL JE HY JH AI LV JG BH HL JI JQ JP DV HJ DG EB KF NF LX OJ MR CW OX QI KR MO IS OV HG TR HX DU UH CH AJ JC SS PC PW FP CO HF MB HE FF Jd TV TE Ee XY LZ SH Gh NP Ga NZ XV KJ GV OU SC ZF La NN WY RM IF Uv VH Hx ZZ RF Jh VZ Jq Ju Pt Is Ab Cd Ay Af XK XA WH Cr Pc Ah Hs Do Jt Ja Jj Jo; simp only [CC, eq_self, implies_true, forall_const]
 refine ⟨⟨⟨default, trivial⟩, ⟨λ h => ⟨⟨by omega, by omega, by omega, by omega, by omega, by omega⟩, 1, ⟨rfl, rfl, rfl, λ i hi => ?_⟩, ⟨by omega, by omega⟩, by omega⟩, λ h => ⟨default, by omega⟩⟩, λ k ⟨k1, k2⟩ => ⟨λ hlt => ⟨⟨by omega, by omega, by omega, by omega, by omega⟩, k + 1, ⟨(FH (by omega)).symm, rfl, rfl, λ i hi => ?_⟩, ⟨by omega, by omega⟩, by omega⟩, λ hge => ⟨default, by omega, by omega⟩⟩⟩, ⟨default, trivial⟩, ⟨λ h => ⟨⟨by omega, by omega, by omega, by omega, by omega, by omega⟩, 1, ⟨rfl, rfl, rfl, λ i hi => ?_⟩, ⟨by omega, by omega⟩, by omega⟩, λ h => by omega⟩, λ k ⟨k1, k2⟩ => ⟨λ hlt => ⟨⟨by omega, by omega, by omega, by omega, by omega⟩, k + 1, ⟨(FH (by omega)).symm, rfl, rfl, λ i hi => ?_⟩, ⟨by omega, by omega⟩, by omega⟩, λ hge => ⟨by omega, by omega⟩⟩⟩
 ·obtain rfl : i = 0 := by omega
  exact ⟨rfl, rfl⟩
 ·by_cases h : i < k
  ·simp [h]
  ·obtain rfl : i = k := by omega
   simp
 ·obtain rfl : i = 0 := by omega
  exact ⟨rfl, rfl, rfl, rfl, rfl⟩
 ·by_cases h : i < k
  ·simp [h]
  ·obtain rfl : i = k := by omega
   simp
theorem BMH : AK Try.prog qS (C_law.spec oQ) := XM C_law BIN [] [205] ALB (λ _ => by kernel_rfl) (λ _ => AD) (λ (c : Cht) h => BRK c h) (λ _ => YR rfl rfl) _
end Go.Bal
