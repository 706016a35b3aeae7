/- Package chart: the order of notes, fewer than 13. Turned from RatR. -/
import Derived.Test.YtdbjalgfomknhaaGreatChD3
set_option linter.unusedVariables false
set_option linter.unusedSimpArgs false
namespace Go.Bal
open Go Go.Sym Go.Proofs
def ATZ (x : Int) : Prop := CL Try.prog (ann 6 []) AMO (AH AMO) (xI1 x) (AB []) (.bool false) [] [] []
abbrev pG a:=TU a a
attribute [go_sem] pG
theorem BCI (x : Int) : (ATZ x) = (KY Aq (pG x)) := by kernel_rfl
def AMD := pD dI1 λ _ => .bool false
theorem BFX : AK Try.prog AHZ AMD := Ik xI1 hI1 λ g _ => Rc (A := ann 6 []) (ren := []) (fz := []) BDN (by kernel_rfl) AD (by
 show ATZ g; rw [BCI]<;> delta KY Aq TU pG; simp)
def iE (a b : Int) : Int := bif decide (a < b) then -1 else bif decide (a > b) then 1 else 0
def AXN (x : I2) : Prop := CL Try.prog (ann 20 [(AHZ, AMD)]) AMA (AH AMA) (xI2 x) (AB []) (.int (iE x.a x.b)) [] [] []
abbrev Ot:=iE
attribute [go_sem] Ot
theorem BFO (x : I2) : (AXN x) = (DX (IP (Ka x) (De x)) (AQ (Ot (Ka x) (De x)) (-1)) (DX (As (Ka x) (De x)) (Nk (Ot (Ka x) (De x))) (JF (Ot (Ka x) (De x))))) := by kernel_rfl
def BCG := pD dI2 λ x => .int (iE x.a x.b)
theorem BFD : AK Try.prog ALQ BCG := Ik xI2 hI2 λ g _ => Rc (A := ann 20 [(AHZ, AMD)]) (ren := []) (fz := []) BGH (by kernel_rfl) (AA BFX AD) (by
 show AXN g; rw [BFO]<;> delta AQ DX IP As Ka De Ot JF Nk; unfold iE; by_cases h : g.a < g.b <;> by_cases h2 : g.b < g.a <;> simp [h, h2])
structure GAB where
 g : Cht
 a : Int
 b : Int
def KT (c : Cht) (x : Int) : Int := (gD c.ns x.toNat).mi
def bxG (c : Cht) : AObj := oI c
def dGAB : List AVal -> Heap -> Option (GAB × List (Nat × Nat) × List Nat)
 | [.d x, .d y, .bptr id _], H => match Em H id with
  | some q => some (⟨q, HM x, HM y⟩, [(100, id)], [])
  | none => none
 | _, _ => none
def C_fw1 : Ctr := { ro := [100], α := GAB, xs := λ a => [.int a.a, .int a.b, .bptr 100 0], L := λ a => [(100, bxG a.g)], val := λ a => .int (iE (KT a.g a.a) (KT a.g a.b)), keep := λ a => [(100, .live (bxG a.g))], pre := λ a => [(0 <= a.a /\ a.a < a.g.ns.length) /\ 0 <= a.b /\ a.b < a.g.ns.length] }
def BKD : Ann := { ann 19 [(ALQ, BCG)] with E := [100] }
def BHV (a : GAB) : Prop := CL Try.prog BKD ANP (AH ANP) (C_fw1.xs a) (AB (C_fw1.L a)) (C_fw1.val a) (C_fw1.keep a) [] []
abbrev J3:=GAB.g
abbrev XE:=KT
abbrev VQ a b:=DD a (HV b)
attribute [go_sem] J3 XE VQ
theorem BNL (a : GAB) : (BHV a) = (AE (UB (GAB.a a) (AO (J3 a)) (GAB.b a)) (AQ (Ot (XE (J3 a) (GAB.a a)) (XE (J3 a) (GAB.b a))) (Ot (VQ (J3 a) (GAB.a a)) (VQ (J3 a) (GAB.b a)))) (FO (J3 a))) := by kernel_rfl
def rowI (l : List Int) : AObj := .row 1 l.length λ i => US (gD l i)
def ACJ (n : Nat) (l : List Int) : AObj := .row 1 n λ i => US (gD l i)
def swL (l : List Int) (j : Nat) : List Int := (l.set j (gD l (j + 1))).set (j + 1) (gD l j)
def uT (key : Int -> Int) : Nat -> List Int -> List Int
 | 0, l => l
 | j + 1, l => bif decide (iE (key (gD l (j + 1))) (key (gD l j)) < 0) then uT key j (swL l j) else l
def stR (key : Int -> Int) : Nat -> Nat -> List Int -> List Int
 | 0, _, l => l
 | n + 1, i, l => stR key n (i + 1) (uT key i l)
def jI (key : Int -> Int) (l : List Int) : List Int := stR key (l.length - 1) 1 l
structure GL where
 g : Cht
 l : List Int
 a : Int
 b : Int
structure IL2 where
 i : Nat
 l : List Int
 deriving Inhabited
structure IJL where
 i : Nat
 j : Nat
 l : List Int
 deriving Inhabited
def iL : AVal := .fn (.func VS) [] [.bptr 101 0]
def glK (a : GL) (l : List Int) : List (Nat × HCell) := [(100, .live (ACJ a.l.length l)), (101, .live (bxG a.g))]
def glOk (a : GL) : Prop := a.l.length < 1073741824 /\ ∀ i, i < a.l.length -> 0 <= gD a.l i /\ gD a.l i < a.g.ns.length
def APX : List AVal -> Option Int
 | [.d (.v (.int .u64 a))] => some a
 | _ => none
def oO (a : Int) : List AVal := [.d (.v (.int .u64 a))]
def ARM (x : Int) : Prop := CL Try.prog (ann 25 []) Uq (AH Uq) (oO x) (AB []) .any [] [] []
abbrev fS a b:=DQ (OH IntKind.u8 (Xq a b)) 256
attribute [go_sem] fS
theorem AZR (x : Int) : (ARM x) = (DV (lI x 4294967296) (Qu 32 32) (DV (lI (Fc x) 65536) (Qu 16 16) (JM (lI (zF (Fc x) 16) 256) (Qu 8 8) (fS (Xq (Xq x 32) 16) 8) LG (TV (fS (Xq x 32) 16))) (JM (lI (Fc x) 256) (Qu 8 8) (fS (Xq x 32) 8) LG (TV (fS x 32)))) (DV (lI x 65536) (Qu 16 16) (JM (lI (zF x 16) 256) (Qu 8 8) (fS (Xq x 16) 8) LG (TV (fS x 16))) (JM (lI x 256) (Qu 8 8) (fS x 8) LG (TV (DQ (OH IntKind.u8 x) 256))))) := by kernel_rfl
def ACM := pD APX (λ _ => .any) (λ x => [0 <= x /\ x <= 20])
def BIH (x : Int) : Prop := CL Try.prog (ann 8 [(Ut, ACM)]) X5 (AH X5) (oO x) (AB []) .any [] [] []
theorem BNI (x : Int) : (BIH x) = (TV (Qb x (HD x 20))) := by kernel_rfl
def dGLt : List AVal -> Heap -> Option (GL × List (Nat × Nat) × List Nat)
 | [.own id _ _ n, .fn (.func f) [] [.bptr c _]], H => if f = VS then match H id, Em H c with
  | .live (.row _ m r), some q => some (⟨q, QR n λ i => HM (r i), 0, 0⟩, [(100, id), (101, c)], [])
  | _, _ => none else none
 | _, _ => none
def C_sort : Ctr := { ro := [101], α := GL, xs := λ a => [.own 100 1 0 a.l.length, iL], L := λ a => [(100, rowI a.l), (101, bxG a.g)], val := λ _ => .d (.tup []), keep := λ a => glK a (jI (KT a.g) a.l), pre := λ a => [a.l.length <= 12 /\ glOk a] }
theorem S2 : AK Try.prog VS (C_fw1.spec dGAB) := XM C_fw1 (λ _ => BKD) [] [] BDT (λ _ => by kernel_rfl) (λ _ => AA BFD AD) (λ (a : GAB) h => by
 show BHV a; rw [BNL]<;> delta BA BI FW EX FI CE AC BX CM AQ BU HD LS ER GP GA HQ HT HC HR DS GB ED HV Ot J3 XE AE BG AW AG BF BE CK AR CN BD AF CG BC AO CQ BS CV CY BO CR DD AL CF AM AT DM DZ GG DW AS DJ AP EY DC DB HW GR JD DF FE DE GQ JE HY JH JQ DQ EB OX QI QN CH FO RD RG VQ UB; simp only [CC, eq_self, implies_true, forall_const]
 exact ⟨h, rfl⟩) (λ _ => YR rfl rfl) _
theorem N1 {l : List Int} {j i : Nat} {x : Int} (hj : j < l.length) : gD (l.set j x) i = bif decide (i = j) then x else gD l i := by
 unfold gD
 rw [List.getD_eq_getElem?_getD, List.getD_eq_getElem?_getD, List.getElem?_set]
 by_cases h : i = j
 ·subst h; simp [hj]
 ·simp [h, Ne.symm h]
theorem AAZ {l : List Int} {j i : Nat} (hj : j + 1 < l.length) : gD (swL l j) i = bif decide (i = j) then gD l (j + 1) else bif decide (i = j + 1) then gD l j else gD l i := by
 unfold swL
 rw [N1 (by simpa using hj), N1 (by omega)]
 by_cases h : i = j
 ·subst h; simp
 ·simp [h]
theorem kI (l : List Int) (j : Nat) : (swL l j).length = l.length := by simp [swL]
theorem ARG (xs : List AVal) (a : Int) (h : APX xs = some a) : xs = oO a := by
 unfold APX at h; split at h <;> cases h; rfl
theorem AWG (n : Int) : 0 <= IntKind.u8.wrap n /\ IntKind.u8.wrap n < ((256 : Nat) : Int) := by
 have e : IntKind.u8.wrap n = n % 256 := by
  simp only [IntKind.wrap, IntKind.bits, IntKind.signed]
  simp
 rw [e]; exact ⟨Int.emod_nonneg _ (by omega), Int.emod_lt_of_pos _ (by omega)⟩
theorem AWW : AK Try.prog Ut ACM := Ik oO ARG λ x h => Rc (A := ann 25 []) (ren := []) (fz := []) wJ (by kernel_rfl) AD (by
 have h : 0 <= x /\ x <= 20 := h
 show ARM x; rw [AZR]<;> delta lI OH BU DX HD LS LG HV ADE AE DW DC GR GQ DV DQ TV Xq JM ZM zF Qb Fc Qu fS; simp only [CC, eq_self, implies_true, forall_const]
 exact ⟨λ h => by omega, λ _ => ⟨λ h => by omega, λ _ => ⟨λ h => by omega, λ _ => AWG _⟩⟩⟩)
theorem BBL : AK Try.prog D0 ACM := Ik oO ARG λ x h => Rc (A := ann 8 [(Ut, ACM)]) (ren := []) (fz := []) AQF (by kernel_rfl) (AA AWW AD) (by
 show BIH x; rw [BNI]<;> delta HD LG DC TV Qb; exact ⟨h, trivial⟩)
end Go.Bal

namespace Go.Bal
open Go Go.Sym Go.Proofs
def nA (c : Cht) (p : Pr) : Nt := gD c.ns p.a.toNat
def nB (c : Cht) (p : Pr) : Nt := gD c.ns p.b.toNat
def G8 (n : Int) (p : Pr) : Bool := TP p.a 0 (wr (n - 1)) && TP p.b 0 (wr (n - 1))
def We (c : Cht) (p : Pr) : Bool := bif G8 c.ns.length p then bif (!(p.a == p.b && p.b == p.a)) then decide ((nA c p).mi < (nB c p).mi) else false else false
def Tk (c : Cht) (p : Pr) : Bool := decide (wr ((nB c p).t.lo - (nA c p).t.hi) > wr (c.p.hi * wr ((gD c.ms (nB c p).mi.toNat).pl - (gD c.ms (nA c p).mi.toNat).pl)))
structure DkP where
 w : Dk
 p : Pr
def dDkP : List AVal -> Heap -> Option (DkP × List (Nat × Nat) × List Nat)
 | [.bptr id _, .d p], H => match oV H id with
  | some (w, q) => some (⟨w, dPr p⟩, [(100, id), (101, q)], [])
  | none => none
 | _, _ => none
def C_pair : Ctr := { ro := [100, 101], α := DkP, xs := λ a => [.bptr 100 0, .d (ePr a.p)], L := λ a => dkL a.w, val := λ a => .bool (We a.w.c a.p), keep := λ a => dkK a.w, pre := λ a => [a.w.c.ns.length < 1073741824 /\ True] }
def AVR : Ann := { ann 59 [(n_in, s_in)] with E := [100, 101] }
def AUD (a : DkP) : Prop := CL Try.prog AVR AOG (AH AOG) (C_pair.xs a) (AB (C_pair.L a)) (C_pair.val a) (C_pair.keep a) [] []
abbrev cV:=We
abbrev QO a:=AV (DkP.w a)
abbrev ZR a:=Pr.b (DkP.p a)
abbrev ZK a:=Pr.a (DkP.p a)
abbrev lL a b c:=and (WI a b) c
abbrev aH a b c d:=lL a b (lL c d IX)
abbrev Ck a b c d:=not (aH a b c d)
abbrev sE a:=AO (QO a)
abbrev lC a:=VW (sE a)
attribute [go_sem] cV QO ZR ZK lL aH Ck sE lC
theorem BEL (a : DkP) : (AUD a) = (HP (And (UJ (Jw (TP (ZK a) 0 (lC a)) (TP (ZR a) 0 (lC a)) (Ck (ZK a) (ZR a) (ZR a) (ZK a))) (ZK a) (sE a)) (UJ (Jw (TP (ZK a) 0 (lC a)) (TP (ZR a) 0 (lC a)) (Ck (ZK a) (ZR a) (ZR a) (ZK a))) (ZR a) (sE a))) (KY (cV (QO a) (DkP.p a)) (GH (Jw (TP (ZK a) 0 (lC a)) (TP (ZR a) 0 (lC a)) (Ck (ZK a) (ZR a) (ZR a) (ZK a))) (IP (VQ (QO a) (ZK a)) (VQ (QO a) (ZR a))))) (AM (QO a)) (AL (QO a)) (AP (QO a)) (AS (QO a)) (AT (QO a)) (TY (QO a) (DkP.w a))) := by kernel_rfl
theorem BGD : AK Try.prog AIB (C_pair.spec dDkP) := XM C_pair (λ _ => AVR) [] [] BCL (λ _ => by kernel_rfl) (λ _ => AA ACD AD) (λ (a : DkP) h => by
 have hn : a.w.c.ns.length < 1073741824 := (show a.w.c.ns.length < 1073741824 /\ True from h).1
 have w1 : IntKind.i64.wrap ((a.w.c.ns.length : Int) - 1) = (a.w.c.ns.length : Int) - 1 := Dh (by omega) (by omega)
 show AUD a; rw [BEL]<;> delta KY Aq BA BI FW OH PR Cs EX FI CE AC BX CM AQ BU IP HD LS ER GP GA HQ HT HC HR DS GB ED WI IX HV SX BT PO AV LW cV AE BG AW AG BF BE CK QU AR CN BD AF CG BC EZ AO CQ BS CV CY BO HK CR DD AL CF AM AT DM DZ GG DW AS DJ AP EY SW DC DB HW GR JD KU RY QW FE DE GQ AN BY KD DI BL XQ OZ JE HY JH XJ HL ZA JQ DQ QZ EB MC IB MG WB KE KC QP CH QO SI GH VW HP lL MM YI SG NB VQ ZR YJ ZK TY Jw aH UJ Ck sE lC; simp only [CC, eq_self, implies_true, forall_const]
 have e : (bif TP a.p.a 0 (IntKind.i64.wrap ((a.w.c.ns.length : Int) - 1)) then TP a.p.b 0 (IntKind.i64.wrap ((a.w.c.ns.length : Int) - 1)) else false) = G8 a.w.c.ns.length a.p := by
  unfold G8 wr; cases TP a.p.a 0 (IntKind.i64.wrap ((a.w.c.ns.length : Int) - 1)) <;> rfl
 rw [e]
 have hb : G8 a.w.c.ns.length a.p = true -> (0 <= a.p.a /\ a.p.a < a.w.c.ns.length) /\ 0 <= a.p.b /\ a.p.b < a.w.c.ns.length := λ h => by
  unfold G8 wr TP at h; rw [w1] at h
  simp only [Bool.and_eq_true, decide_eq_true_eq] at h; omega
 cases hq : G8 a.w.c.ns.length a.p with
 | false =>
  refine ⟨⟨(λ h => by cases h), (λ h => by cases h)⟩, ?_⟩
  unfold We; rw [hq]; rfl
 | true =>
  refine ⟨⟨λ _ => (hb hq).1, λ _ => (hb hq).2⟩, ?_⟩
  unfold We; rw [hq]
  simp only [cond_true, Bool.and_true]
  rfl) (λ _ => YR rfl rfl) _
def C_late : Ctr := { ro := [100, 101], α := DkP, xs := λ a => [.bptr 100 0, .d (ePr a.p)], L := λ a => dkL a.w, val := λ a => .bool (Tk a.w.c a.p), keep := λ a => dkK a.w, pre := λ a => [((0 <= a.p.a /\ a.p.a < a.w.c.ns.length) /\ 0 <= a.p.b /\ a.p.b < a.w.c.ns.length) /\ (a.w.c.ms.length <= 40 /\ a.w.c.ns.length <= 20) /\ ∀ i, i < a.w.c.ns.length -> 0 <= (gD a.w.c.ns i).mi /\ (gD a.w.c.ns i).mi < a.w.c.ms.length] }
def AVN : Ann := { ann 61 [] with E := [100, 101] }
def AXT (a : DkP) : Prop := CL Try.prog AVN AOU (AH AOU) (C_late.xs a) (AB (C_late.L a)) (C_late.val a) (C_late.keep a) [] []
abbrev Qm a b:=BO a (HV b)
attribute [go_sem] Qm
theorem BEY (a : DkP) : (AXT a) = (FR (UB (ZK a) (sE a) (ZR a)) (UB (VQ (QO a) (ZR a)) (AW (QO a)) (VQ (QO a) (ZK a))) (KY (Tk (QO a) (DkP.p a)) (As (KU (DJ (QO a) (HV (ZR a))) (BI (DM (QO a) (HV (ZK a))))) (Hz (BI (GA (QO a))) (Qm (QO a) (VQ (QO a) (ZR a))) (Qm (QO a) (VQ (QO a) (ZK a)))))) (QO a) (TY (QO a) (DkP.w a))) := by kernel_rfl
theorem ARW : AK Try.prog AIP (C_late.spec dDkP) := XM C_late (λ _ => AVN) [] [] BES (λ _ => by kernel_rfl) (λ _ => AD) (λ (a : DkP) h => by
 obtain ⟨⟨h1, h2⟩, _, h3⟩ : ((0 <= a.p.a /\ a.p.a < a.w.c.ns.length) /\ 0 <= a.p.b /\ a.p.b < a.w.c.ns.length) /\ (a.w.c.ms.length <= 40 /\ a.w.c.ns.length <= 20) /\ ∀ i, i < a.w.c.ns.length -> 0 <= (gD a.w.c.ns i).mi /\ (gD a.w.c.ns i).mi < a.w.c.ms.length := h
 show AXT a; rw [BEY]<;> delta KY BA BI FW OH PR Cs EX FI CE AC BX CM AQ BU HD LS ER GP GA HQ HT HC HR DS GB ED As HV SX BT PO AV LW Re AE BG AW AG BF BE CK QU AR CN BD AF CG BC EZ AO CQ BS CV CY BO HK CR DD AL CF AM AT DM DZ GG DW AS DJ AP EY SW DC DB HW GR JD KU RY QW FE DE GQ BY KD BL XQ JE HY JH XJ ZA JQ DQ QZ EB MC IB MG WB KE KC QP pO CH QO SI MM RD YI SG RG NB VQ ZR YJ FR ZK TY UB sE Hz Qm; simp only [CC, eq_self, implies_true, forall_const]
 exact ⟨⟨h1, h2⟩, ⟨h3 _ (by omega), h3 _ (by omega)⟩, rfl⟩) (λ _ => YR rfl rfl) _
end Go.Bal
