/- Package chart: the order of notes, fewer than 13. Turned from RatR. -/
import Derived.Test.YtdbjalgfomknhaaGreatChD3
set_option linter.unusedVariables false
set_option linter.unusedSimpArgs false
namespace Go.Bal
open Go Go.Sym Go.Proofs
def BEZ (x : Int) : Prop := CH Try.prog (ann 6 []) ATC (AH ATC) (xI1 x) (AB []) (.bool false) [] [] []
abbrev Zp a:=NJ a a
attribute [go_sem] Zp
theorem BML (x : Int) : (BEZ x) = (KH ZR (Zp x)) := by kernel_rfl
def ARY := pD dI1 λ _ => .bool false
theorem BJV : AJ Try.prog AKT ARY := Kr xI1 hI1 λ g _ => Hp (A := ann 6 []) (ren := []) (fz := []) BIT (by kernel_rfl) AC (by
 show BEZ g; rw [BML]<;> delta KH ZR NJ Zp; simp)
def kJ (a b : Int) : Int := bif decide (a < b) then -1 else bif decide (a > b) then 1 else 0
def BGV (x : I2) : Prop := CH Try.prog (ann 20 [(AKT, ARY)]) AST (AH AST) (xI2 x) (AB []) (.int (kJ x.a x.b)) [] [] []
abbrev Qx:=kJ
attribute [go_sem] Qx
theorem BLN (x : I2) : (BGV x) = (EK (JH (Kb x) (Ej x)) (AR (Qx (Kb x) (Ej x)) (-1)) (EK (JM (Kb x) (Ej x)) (Pn (Qx (Kb x) (Ej x))) (IQ (Qx (Kb x) (Ej x))))) := by kernel_rfl
def BGB := pD dI2 λ x => .int (kJ x.a x.b)
theorem BMM : AJ Try.prog ARV BGB := Kr xI2 hI2 λ g _ => Hp (A := ann 20 [(AKT, ARY)]) (ren := []) (fz := []) BNA (by kernel_rfl) (AA BJV AC) (by
 show BGV g; rw [BLN]<;> delta AR EK JH JM Kb Ej Qx IQ Pn; unfold kJ; by_cases h : g.a < g.b <;> by_cases h2 : g.b < g.a <;> simp [h, h2])
structure GAB where
 g : Cht
 a : Int
 b : Int
def KY (c : Cht) (x : Int) : Int := (gD c.ns x.toNat).mi
def bxG (c : Cht) : AObj := sJ c
def dGAB : List AVal -> Heap -> Option (GAB × List (Nat × Nat) × List Nat)
 | [.d x, .d y, .bptr id _], H => match Fh H id with
  | some q => some (⟨q, HK x, HK y⟩, [(100, id)], [])
  | none => none
 | _, _ => none
def C_fw1 : Ctr := { ro := [100], α := GAB, xs := λ a => [.int a.a, .int a.b, .bptr 100 0], L := λ a => [(100, bxG a.g)], val := λ a => .int (kJ (KY a.g a.a) (KY a.g a.b)), keep := λ a => [(100, .live (bxG a.g))], pre := λ a => [(0 <= a.a /\ a.a < a.g.ns.length) /\ 0 <= a.b /\ a.b < a.g.ns.length] }
def BQV : Ann := { ann 19 [(ARV, BGB)] with E := [100] }
def BQG (a : GAB) : Prop := CH Try.prog BQV ASK (AH ASK) (C_fw1.xs a) (AB (C_fw1.L a)) (C_fw1.val a) (C_fw1.keep a) [] []
abbrev xI:=GAB.g
abbrev XH:=KY
abbrev WK a b:=BS a (FY b)
attribute [go_sem] xI XH WK
theorem BRH (a : GAB) : (BQG a) = (HU (CD (GAB.a a) (AN (xI a))) (CN (GAB.b a)) (DM (GAB.b a) (AN (xI a))) (AR (Qx (XH (xI a) (GAB.a a)) (XH (xI a) (GAB.b a))) (Qx (WK (xI a) (GAB.a a)) (WK (xI a) (GAB.b a)))) (GR (xI a))) := by kernel_rfl
def rowI (l : List Int) : AObj := .row 1 l.length λ i => TT (gD l i)
def AHW (n : Nat) (l : List Int) : AObj := .row 1 n λ i => TT (gD l i)
def swL (l : List Int) (j : Nat) : List Int := (l.set j (gD l (j + 1))).set (j + 1) (gD l j)
def xJ (key : Int -> Int) : Nat -> List Int -> List Int
 | 0, l => l
 | j + 1, l => bif decide (kJ (key (gD l (j + 1))) (key (gD l j)) < 0) then xJ key j (swL l j) else l
def stR (key : Int -> Int) : Nat -> Nat -> List Int -> List Int
 | 0, _, l => l
 | n + 1, i, l => stR key n (i + 1) (xJ key i l)
def kN (key : Int -> Int) (l : List Int) : List Int := stR key (l.length - 1) 1 l
structure GL where
 g : Cht
 l : List Int
 a : Int
 b : Int
structure IL2 where
 i : Nat
 l : List Int
 deriving Inhabited
structure IJL where
 i : Nat
 j : Nat
 l : List Int
 deriving Inhabited
def mC : AVal := .fn (.func WG) [] [.bptr 101 0]
def glK (a : GL) (l : List Int) : List (Nat × HCell) := [(100, .live (AHW a.l.length l)), (101, .live (bxG a.g))]
def glOk (a : GL) : Prop := a.l.length < 1073741824 /\ ∀ i, i < a.l.length -> 0 <= gD a.l i /\ gD a.l i < a.g.ns.length
def AVA : List AVal -> Option Int
 | [.d (.v (.int .u64 a))] => some a
 | _ => none
def sT (a : Int) : List AVal := [.d (.v (.int .u64 a))]
def AVS (x : Int) : Prop := CH Try.prog (ann 25 []) Xm (AH Xm) (sT x) (AB []) .any [] [] []
abbrev gV a b:=CD (MM IntKind.u8 (bJ a b)) 256
attribute [go_sem] gV
theorem BEQ (x : Int) : (AVS x) = (DZ (rW x 4294967296) (Tc 32 32) (DZ (rW (Ic x) 65536) (Tc 16 16) (KS (rW (U6 (Ic x) 16) 256) (Tc 8 8) (gV (bJ (bJ x 32) 16) 8) IH (QQ (gV (bJ x 32) 16))) (KS (rW (Ic x) 256) (Tc 8 8) (gV (bJ x 32) 8) IH (QQ (gV x 32)))) (DZ (rW x 65536) (Tc 16 16) (KS (rW (U6 x 16) 256) (Tc 8 8) (gV (bJ x 16) 8) IH (QQ (gV x 16))) (KS (rW x 256) (Tc 8 8) (gV x 8) IH (QQ (CD (MM IntKind.u8 x) 256))))) := by kernel_rfl
def AGZ := pD AVA (λ _ => .any) (λ x => [0 <= x /\ x <= 20])
def BQM (x : Int) : Prop := CH Try.prog (ann 8 [(Zb, AGZ)]) AEJ (AH AEJ) (sT x) (AB []) .any [] [] []
theorem BUS (x : Int) : (BQM x) = (QQ (Se x (HO x 20))) := by kernel_rfl
def dGLt : List AVal -> Heap -> Option (GL × List (Nat × Nat) × List Nat)
 | [.own id _ _ n, .fn (.func f) [] [.bptr c _]], H => if f = WG then match H id, Fh H c with
  | .live (.row _ m r), some q => some (⟨q, IK n λ i => HK (r i), 0, 0⟩, [(100, id), (101, c)], [])
  | _, _ => none else none
 | _, _ => none
def C_sort : Ctr := { ro := [101], α := GL, xs := λ a => [.own 100 1 0 a.l.length, mC], L := λ a => [(100, rowI a.l), (101, bxG a.g)], val := λ _ => .d (.tup []), keep := λ a => glK a (kN (KY a.g) a.l), pre := λ a => [a.l.length <= 12 /\ glOk a] }
theorem ABZ : AJ Try.prog WG (C_fw1.spec dGAB) := XP C_fw1 (λ _ => BQV) [] [] BJR (λ _ => by kernel_rfl) (λ _ => AA BMM AC) (λ (a : GAB) h => by
 show BQG a; rw [BRH]<;> delta BG BJ EC ES ET BW AD BU CL AR BZ HO KB EJ GW EX HP HN HJ GT GB HC DU GG FE FY Qx xI XH AE CR BB AF AY AU AG BC AX BM CJ AK AN DD BH BY CX CY BS CE AV AQ EV DW AZ CP AS DM AP AT CN BX CM HD CG GP FH CD KM DX VT BK LV RM HU GR WK; simp only [CC, eq_self, implies_true, forall_const]
 exact ⟨h, rfl⟩) (λ _ => YS rfl rfl) _
theorem AAK {l : List Int} {j i : Nat} {x : Int} (hj : j < l.length) : gD (l.set j x) i = bif decide (i = j) then x else gD l i := by
 unfold gD
 rw [List.getD_eq_getElem?_getD, List.getD_eq_getElem?_getD, List.getElem?_set]
 by_cases h : i = j
 ·subst h; simp [hj]
 ·simp [h, Ne.symm h]
theorem ACH {l : List Int} {j i : Nat} (hj : j + 1 < l.length) : gD (swL l j) i = bif decide (i = j) then gD l (j + 1) else bif decide (i = j + 1) then gD l j else gD l i := by
 unfold swL
 rw [AAK (by simpa using hj), AAK (by omega)]
 by_cases h : i = j
 ·subst h; simp
 ·simp [h]
theorem mQ (l : List Int) (j : Nat) : (swL l j).length = l.length := by simp [swL]
theorem AXQ (xs : List AVal) (a : Int) (h : AVA xs = some a) : xs = sT a := by
 unfold AVA at h; split at h <;> cases h; rfl
theorem BFW (n : Int) : 0 <= IntKind.u8.wrap n /\ IntKind.u8.wrap n < ((256 : Nat) : Int) := by
 have e : IntKind.u8.wrap n = n % 256 := by
  simp only [IntKind.wrap, IntKind.bits, IntKind.signed]
  simp
 rw [e]; exact ⟨Int.emod_nonneg _ (by omega), Int.emod_lt_of_pos _ (by omega)⟩
theorem BBX : AJ Try.prog Zb AGZ := Kr sT AXQ λ x h => Hp (A := ann 25 []) (ren := []) (fz := []) B9 (by kernel_rfl) AC (by
 have h : 0 <= x /\ x <= 20 := h
 show AVS x; rw [BEQ]<;> delta rW MM BZ EK HO KB IH FY AID AE DM CN GP FH CD DZ QQ KS bJ Lz U6 Se Ic Tc gV; simp only [CC, eq_self, implies_true, forall_const]
 exact ⟨λ h => by omega, λ _ => ⟨λ h => by omega, λ _ => ⟨λ h => by omega, λ _ => BFW _⟩⟩⟩)
theorem BDD : AJ Try.prog C7 AGZ := Kr sT AXQ λ x h => Hp (A := ann 8 [(Zb, AGZ)]) (ren := []) (fz := []) AUM (by kernel_rfl) (AA BBX AC) (by
 show BQM x; rw [BUS]<;> delta HO IH CN QQ Se; exact ⟨h, trivial⟩)
end Go.Bal

namespace Go.Bal
open Go Go.Sym Go.Proofs
def nA (c : Cht) (p : Pr) : Nt := gD c.ns p.a.toNat
def nB (c : Cht) (p : Pr) : Nt := gD c.ns p.b.toNat
def V8 (n : Int) (p : Pr) : Bool := KT p.a 0 (wr (n - 1)) && KT p.b 0 (wr (n - 1))
def Xo (c : Cht) (p : Pr) : Bool := bif V8 c.ns.length p then bif (!(p.a == p.b && p.b == p.a)) then decide ((nA c p).mi < (nB c p).mi) else false else false
def Xp (c : Cht) (p : Pr) : Bool := decide (wr ((nB c p).t.lo - (nA c p).t.hi) > wr (c.p.hi * wr ((gD c.ms (nB c p).mi.toNat).pl - (gD c.ms (nA c p).mi.toNat).pl)))
structure DkP where
 w : Dk
 p : Pr
def dDkP : List AVal -> Heap -> Option (DkP × List (Nat × Nat) × List Nat)
 | [.bptr id _, .d p], H => match tE H id with
  | some (w, q) => some (⟨w, dPr p⟩, [(100, id), (101, q)], [])
  | none => none
 | _, _ => none
def C_pair : Ctr := { ro := [100, 101], α := DkP, xs := λ a => [.bptr 100 0, .d (ePr a.p)], L := λ a => dkL a.w, val := λ a => .bool (Xo a.w.c a.p), keep := λ a => dkK a.w, pre := λ a => [a.w.c.ns.length < 1073741824 /\ True] }
def BCG : Ann := { ann 59 [(sA, vS)] with E := [100, 101] }
def BCK (a : DkP) : Prop := CH Try.prog BCG ASD (AH ASD) (C_pair.xs a) (AB (C_pair.L a)) (C_pair.val a) (C_pair.keep a) [] []
abbrev fH:=Xo
abbrev SB a:=AL (DkP.w a)
abbrev Al a:=Pr.b (DkP.p a)
abbrev Bd a:=Pr.a (DkP.p a)
abbrev uW a b c:=and (Dx a b) c
abbrev Ly a b c d:=not (uW a b (uW c d JL))
abbrev tQ a:=AN (SB a)
abbrev oE a:=ME (tQ a)
attribute [go_sem] fH SB Al Bd uW Ly tQ oE
theorem BKX (a : DkP) : (BCK a) = (FX (And (NU (ER (ER (KT (Bd a) 0 (oE a)) (KT (Al a) 0 (oE a))) (Ly (Bd a) (Al a) (Al a) (Bd a))) (Bd a) (tQ a)) (NU (ER (ER (KT (Bd a) 0 (oE a)) (KT (Al a) 0 (oE a))) (Ly (Bd a) (Al a) (Al a) (Bd a))) (Al a) (tQ a))) (KH (fH (SB a) (DkP.p a)) (ER (ER (ER (KT (Bd a) 0 (oE a)) (KT (Al a) 0 (oE a))) (Ly (Bd a) (Al a) (Al a) (Bd a))) (JH (WK (SB a) (Bd a)) (WK (SB a) (Al a))))) (AQ (SB a)) (AT (SB a)) (AP (SB a)) (AS (SB a)) (AV (SB a)) (SG (SB a) (DkP.w a))) := by kernel_rfl
theorem BMR : AJ Try.prog AJJ (C_pair.spec dDkP) := XP C_pair (λ _ => BCG) [] [] BKY (λ _ => by kernel_rfl) (λ _ => AA nD AC) (λ (a : DkP) h => by
 have hn : a.w.c.ns.length < 1073741824 := (show a.w.c.ns.length < 1073741824 /\ True from h).1
 have w1 : IntKind.i64.wrap ((a.w.c.ns.length : Int) - 1) = (a.w.c.ns.length : Int) - 1 := Bc (by omega) (by omega)
 show BCK a; rw [BKX]<;> delta KH wN ZR BG BJ EC MM NO Hc ES ET BW AD BU CL AR BZ JH HO KB EJ GW EX HP HN HJ GT GB HC DU GG FE Dx JL FY NY EU MP AL JO fH AE CR BB AF AY AU RA AG BC FD AX BM CJ AK AN DD BH BY CX CY BS CE HQ QX AV AQ EV DW AZ CP AS OT DM AP AT CN BX NE GI HD CG GP OK FH AO DC CK BT UR CD NF KZ HF VU PV PZ GJ LQ DX SV OI BK JF ME SB KQ MC FX ER TG XM uW SG NU WK Al Bd tQ Ly oE; simp only [CC, eq_self, implies_true, forall_const]
 have e : (bif KT a.p.a 0 (IntKind.i64.wrap ((a.w.c.ns.length : Int) - 1)) then KT a.p.b 0 (IntKind.i64.wrap ((a.w.c.ns.length : Int) - 1)) else false) = V8 a.w.c.ns.length a.p := by
  unfold V8 wr; cases KT a.p.a 0 (IntKind.i64.wrap ((a.w.c.ns.length : Int) - 1)) <;> rfl
 rw [e]
 have hb : V8 a.w.c.ns.length a.p = true -> (0 <= a.p.a /\ a.p.a < a.w.c.ns.length) /\ 0 <= a.p.b /\ a.p.b < a.w.c.ns.length := λ h => by
  unfold V8 wr KT at h; rw [w1] at h
  simp only [Bool.and_eq_true, decide_eq_true_eq] at h; omega
 cases hq : V8 a.w.c.ns.length a.p with
 | false =>
  refine ⟨⟨(λ h => by cases h), (λ h => by cases h)⟩, ?_⟩
  unfold Xo; rw [hq]; rfl
 | true =>
  refine ⟨⟨λ _ => (hb hq).1, λ _ => (hb hq).2⟩, ?_⟩
  unfold Xo; rw [hq]
  simp only [cond_true, Bool.and_true]
  rfl) (λ _ => YS rfl rfl) _
def C_late : Ctr := { ro := [100, 101], α := DkP, xs := λ a => [.bptr 100 0, .d (ePr a.p)], L := λ a => dkL a.w, val := λ a => .bool (Xp a.w.c a.p), keep := λ a => dkK a.w, pre := λ a => [((0 <= a.p.a /\ a.p.a < a.w.c.ns.length) /\ 0 <= a.p.b /\ a.p.b < a.w.c.ns.length) /\ (a.w.c.ms.length <= 40 /\ a.w.c.ns.length <= 20) /\ ∀ i, i < a.w.c.ns.length -> 0 <= (gD a.w.c.ns i).mi /\ (gD a.w.c.ns i).mi < a.w.c.ms.length] }
def BCZ : Ann := { ann 61 [] with E := [100, 101] }
def BEF (a : DkP) : Prop := CH Try.prog BCZ ARF (AH ARF) (C_late.xs a) (AB (C_late.L a)) (C_late.val a) (C_late.keep a) [] []
theorem BNB (a : DkP) : (BEF a) = (KD (XI (Bd a) (tQ a) (Al a)) (YT (WK (SB a) (Al a)) (SB a) (WK (SB a) (Bd a))) (KH (Xp (SB a) (DkP.p a)) (JM (GI (Aw (SB a) (FY (Al a))) (Dp (SB a) (FY (Bd a)))) (Yo (BJ (EX (SB a))) (SB a) (FY (WK (SB a) (Al a))) (FY (WK (SB a) (Bd a)))))) (SB a) (DkP.w a)) := by kernel_rfl
theorem AVX : AJ Try.prog AJQ (C_late.spec dDkP) := XP C_late (λ _ => BCZ) [] [] BMT (λ _ => by kernel_rfl) (λ _ => AC) (λ (a : DkP) h => by
 obtain ⟨⟨h1, h2⟩, _, h3⟩ : ((0 <= a.p.a /\ a.p.a < a.w.c.ns.length) /\ 0 <= a.p.b /\ a.p.b < a.w.c.ns.length) /\ (a.w.c.ms.length <= 40 /\ a.w.c.ns.length <= 20) /\ ∀ i, i < a.w.c.ns.length -> 0 <= (gD a.w.c.ns i).mi /\ (gD a.w.c.ns i).mi < a.w.c.ms.length := h
 show BEF a; rw [BNB]<;> delta KH BG BJ EC MM NO Hc ES ET BW AD BU CL AR BZ HO KB EJ GW EX HP HN HJ GT GB HC DU GG FE JM FY NY EU MP AL JO Ri AE CR BB AF AY AU RA AG BC FD AX BM CJ AK AN DD BH BY CX CY BS CE HQ QX AV AQ EV DW AZ CP AS OT DM AP AT CN BX NE GI HD CG GP OK FH DC BT UR CD NF KZ VU PZ GJ LQ DX SV OI dL BK JF SB KQ MC TD UZ PR HT TG XM KD aI WK Al Bd XI Yo Aw Dp YT tQ; simp only [CC, eq_self, implies_true, forall_const]
 exact ⟨⟨h1, h2⟩, ⟨h3 _ (by omega), h3 _ (by omega)⟩, rfl⟩) (λ _ => YS rfl rfl) _
end Go.Bal
