/- Package balance: Proves. -/
import Derived.Test.YtonddbmhljelgaaBalO
set_option linter.unusedVariables false
set_option linter.unusedSimpArgs false
namespace Go.Bal
open Go Go.Sym Go.Proofs
structure LR where
 lv : List Int
 r : Reach
def Ll (lv : List Int) (r : Reach) : Int := wr (gD lv r.to.toNat - gD lv r.fr.toNat)
def Qv (lv : List Int) (r : Reach) : Bool := inM (Ll lv r) (-1) 1
def capN (lv : List Int) : List (Nat × AObj) := [(110, .box [.fn (.func 61) [] []]), (111, .box [.d (BC lv)])]
def fn63 : AVal := .fn (.func 63) [] [.bptr 110 0, .bptr 111 0]
def inR (n : Nat) (r : Reach) : Prop := (0 <= r.to /\ r.to < n) /\ 0 <= r.fr /\ r.fr < n
def A63 := { ann 18 [(61, s61)] with E := [110, 111] }
def C63 : Ctr := { ro := [110, 111], α := LR, xs := λ a => [.d (Ms a.r), .bptr 110 0, .bptr 111 0], L := λ a => capN a.lv, val := λ a => .bool (Qv a.lv a.r), keep := λ a => Uw (capN a.lv), pre := λ a => [inR a.lv.length a.r] }
def d63 : List AVal -> Heap -> Option (LR × List (Nat × Nat) × List Nat)
 | [.d r, .bptr p _, .bptr q _], H => match H q with
  | .live (.box [.d (.list _ n g _)]) => some (⟨NO n λ i => OO (g i), RN r⟩, [(110, p), (111, q)], [])
  | _ => none
 | _, _ => none
def V63 (a : LR) : Prop := BN Try.prog A63 Try.f63 (AF Try.f63) (C63.xs a) (AD (C63.L a)) (C63.val a) (C63.keep a) [] []
abbrev mX:=LR.r
abbrev Cq:=LR.lv
abbrev Zh:=Qv
abbrev Fu a b c:=ME a (Lh b c)
abbrev vA a:=qX (mX a)
abbrev Nt a b:=KX a (EA b)
attribute [go_sem] mX Cq Zh Fu vA Nt
theorem vc63 (a : LR) : (V63 a) = (AP (AJ (Nt (Yw (mX a)) (Cq a)) (IV (vA a)) (NX (vA a) (EA (Cq a)))) (Gq (Zh (Cq a) (mX a)) (inM (Fu (Lh (Cq a) (Yw (mX a))) (Cq a) (vA a)) (-1) 1)) (Cz (Cq a)) (Ql (Cq a))) := by kernel_rfl
theorem p63 (a : LR) (h : inR a.lv.length a.r) : V63 a := by
 rw [vc63]<;> simp only [go_sem]; simp only [CC, eq_self, implies_true, forall_const]
 exact ⟨h, rfl⟩
theorem ok63 : AH Try.prog 63 (C63.spec d63) := UY C63 (λ _ => A63) [] [] Try.func63 (λ _ => by kernel_rfl) (λ _ => AA ok61 AE) (λ a h => p63 a h) (λ _ => WR rfl rfl) _
def B92 : List (Nat × AObj) := [(100, .box [fn63])]
def A92 := { ann 8 [(63, C63.spec d63)] with E := [100, 110, 111] }
def C92 : Ctr := { ro := [100, 110, 111], α := LR, xs := λ a => [.d (Ms a.r), .bptr 100 0], L := λ a => B92 ++ capN a.lv, val := λ a => .bool (!Qv a.lv a.r), keep := λ a => Uw (B92 ++ capN a.lv), pre := λ a => [inR a.lv.length a.r] }
def d92 : List AVal -> Heap -> Option (LR × List (Nat × Nat) × List Nat)
 | [.d r, .bptr o _], H => match H o with
  | .live (.box [.fn _ _ [.bptr p _, .bptr q _]]) => match H q with
   | .live (.box [.d (.list _ n g _)]) => some (⟨NO n λ i => OO (g i), RN r⟩, [(100, o), (110, p), (111, q)], [])
   | _ => none
  | _ => none
 | _, _ => none
def V92 (a : LR) : Prop := BN Try.prog A92 Try.f92 (AF Try.f92) (C92.xs a) (AD (C92.L a)) (C92.val a) (C92.keep a) [] []
abbrev KH a b:=AG (λ i=>FW i a b)
abbrev DN a:=KH (HQ a) a
attribute [go_sem] KH DN
theorem vc92 (a : LR) : (V92 a) = (AP (AJ (AR (vA a)) (AR (Yw (mX a))) (IW (Uk (mV (mX a))) (Uu (mV (mX a))) (DB (Cq a)) (DN (Cq a)) (FH (Cq a) (HQ (Cq a))) (KH (Cq a) (HQ (Cq a))) (KX (Yw (mX a)) (QX (Cq a))) (IV (vA a)) (NX (vA a) (QX (Cq a))))) (Gq (not (Zh (Cq a) (mX a))) (not (Zh (HQ (Cq a)) (mX a)))) (Cz (Cq a)) (Ql (Cq a))) := by kernel_rfl
theorem p92 (a : LR) (h : inR a.lv.length a.r) : V92 a := by
 rw [vc92]<;> simp only [go_sem]; simp only [CC, eq_self, implies_true, forall_const]
 exact h
theorem ok92 : AH Try.prog 92 (C92.spec d92) := UY C92 (λ _ => A92) [] [] Try.func92 (λ _ => by kernel_rfl) (λ _ => AA ok63 AE) (λ a h => p92 a h) (λ _ => WR rfl rfl) _
structure LL where
 lv : List Int
 l : List Reach
def A107 (a : LL) : Ann := { ann 19 [(92, C92.spec d92)] with E := [100, 110, 111], loops := λ id => if id = 2 then some [{ α := Nat, dflt := 0, T := λ k => ⟨[(0, .d (HE a.l)), (1, .fn (.func 92) [] [.bptr 100 0]), (7, .int a.l.length), (8, .int k)], Uw (B92 ++ capN a.lv)⟩, inv := λ k => k <= a.l.length /\ gO (λ i => !Qv a.lv (gD a.l i)) a.l.length 0 = gO (λ i => !Qv a.lv (gD a.l i)) (a.l.length - k) k, meas := λ k => a.l.length - k }] else none }
def C107 : Ctr := { ro := [100, 110, 111], α := LL, xs := λ a => [.d (HE a.l), .fn (.func 92) [] [.bptr 100 0]], L := λ a => B92 ++ capN a.lv, val := λ a => .int (gO (λ i => !Qv a.lv (gD a.l i)) a.l.length 0), keep := λ a => Uw (B92 ++ capN a.lv), pre := λ a => [a.l.length < 4611686018427387904, ∀ i, i < a.l.length -> inR a.lv.length (gD a.l i)] }
def d107 : List AVal -> Heap -> Option (LL × List (Nat × Nat) × List Nat)
 | [.d (.list _ m h _), .fn _ _ [.bptr o _]], H => match H o with
  | .live (.box [.fn _ _ [.bptr p _, .bptr q _]]) => match H q with
   | .live (.box [.d (.list _ n g _)]) => some (⟨NO n λ i => OO (g i), NO m λ i => RN (h i)⟩, [(100, o), (110, p), (111, q)], [])
   | _ => none
  | _ => none
 | _, _ => none
def V107 (a : LL) : Prop := BN Try.prog (A107 a) Try.f107 (AF Try.f107) (C107.xs a) (AD (C107.L a)) (C107.val a) (C107.keep a) [] []
abbrev Dt:=LL.l
abbrev WU:=LL.lv
abbrev tJ a:=Cz (WU a)
abbrev OI a:=PM (Dt a)
abbrev AWG a b:=Fg (Dt a) b
abbrev ATU a b c:=Zh a (AWG b c)
abbrev Ra a b c:=ATU (WU a) b c
abbrev IU a b:=mV (Fg a b)
abbrev FY a b:=Yw (Fg a b)
abbrev AUI a b:=AR (FY a b)
abbrev IN a b:=qX (Fg a b)
abbrev UX a b c d e f:=AKP a b (IN c d) (AUI c e) (IU c f)
abbrev Vt a:=HQ (WU a)
abbrev uG a:=QX (WU a)
attribute [go_sem] Dt WU tJ OI AWG ATU Ra IU FY AUI IN UX Vt uG
theorem BPC (a : LL) : (V107 a) = (PV (λ i=>YL (And (DU (OI a)) (BG (AG (λ j=>UX j (OI a) (Dt a) j j j)) (GT (OI a)) (AZ i) (tJ a) (Ql (WU a)))) i (OI a) (Kp (λ j=>Ra a a j) (OI a)) (Hl (λ j=>Ra a a j) (OI a) i i)) (λ i=>GM (WD i (OI a) (Kp (λ j=>Ra a a j) (OI a)) (Hl (λ j=>Ra a a j) (OI a) i i)) i (OI a) (AP (GF i (OI a)) (AR (IN (Dt a) i)) (AUI (Dt a) i) (IW (Uk (IU (Dt a) i)) (Uu (IU (Dt a) i)) (DB (WU a)) (DN (WU a)) (FH (WU a) (Vt a)) (KH (WU a) (Vt a)) (KX (FY (Dt a) i) (uG a)) (IV (IN (Dt a) i)) (NX (IN (Dt a) i) (uG a)))) (not (ATU (Vt a) a i)) (PY (AS (Kp (λ j=>Ra a a j) (OI a)) (BT i)) (tJ a) (λ j=>NV j (WU a))) (IJ (λ j=>Ar (And (DU (OI a)) (Kg (AG (λ k=>UX k (OI a) (Dt a) k k k)) (GT (OI a)) j i (tJ a) (Ql (WU a)))) j (OI a) (Kp (λ k=>Ra a a k) (OI a)) (Hl (λ k=>Ra a a k) (OI a) j j) i)) (PY (Fs (Kp (λ j=>Ra a a j) (OI a))) (tJ a) (λ j=>NV j (WU a))))) := by kernel_rfl
theorem p107 (a : LL) (h : a.l.length < 4611686018427387904) (hr : ∀ i, i < a.l.length -> inR a.lv.length (gD a.l i)) : V107 a := by
 rw [BPC]<;> simp only [go_sem]
 simp only [CC, eq_self, implies_true, forall_const, DL.d2]
 refine ⟨⟨0, rfl, Nat.zero_le _, rfl⟩, λ k ⟨h1, h2⟩ => ⟨λ hlt => ?_, λ hge => ?_⟩⟩
 ·have hlt : k < a.l.length := by omega
  refine ⟨⟨⟨by omega, by omega⟩, hr k hlt⟩, λ hp => ?_, λ hp => ⟨k + 1, (AL (by omega)).symm, ⟨by omega, ?_⟩, by omega⟩⟩
  ·rw [h2]; exact lH hlt (by simpa using hp)
  ·rw [h2]; exact ADE hlt (by simpa using hp)
 ·rw [h2]; exact zU (by omega)
theorem BRC : AH Try.prog 107 (C107.spec d107) := UY C107 A107 [] [] Try.func107 (λ _ => by kernel_rfl) (λ _ => AA ok92 AE) (λ a h => p107 a h.1 h.2) (λ _ => WR rfl rfl) _
def C91 : Ctr := { C107 with val := λ (a : LL) => .bool (decide (gO (λ i => !Qv a.lv (gD a.l i)) a.l.length 0 >= 0)) }
def d91 : List AVal -> Heap -> Option (C91.α × List (Nat × Nat) × List Nat) := d107
def A91 := { ann 9 [(107, C107.spec d107)] with E := [100, 110, 111] }
def V91 (a : LL) : Prop := BN Try.prog A91 Try.f91 (AF Try.f91) (C91.xs a) (AD (C91.L a)) (C91.val a) (C91.keep a) [] []
abbrev Fj a:=M7 (Dt a) (λ i=>AWG a i)
abbrev sA a:=PM (Fj a)
abbrev YX a:=ON a 4611686018427387904
abbrev jI a b c d e f g:=AER a b c d e f g f g
abbrev AUH a b c d e f:=jI a b c (FY d a) e (IU d a) f
abbrev Oj a b c:=AS (IN a b) c
abbrev Mm a b c d e:=AUH a (PM b) (Oj b a c) b d e
abbrev MN a b:=ED (PM a) b
attribute [go_sem] Fj sA YX jI AUH Oj Mm MN
theorem vc91 (a : LL) : (V91 a) = (AP (DW (MN (Fj a) (OI a)) (λ i=>Mm i (Fj a) (IN (Dt a) i) (FY (Dt a) i) (IU (Dt a) i)) (DB (WU a)) (Be (DN (WU a)) (FH (WU a) (Vt a)) (λ i=>FW i (WU a) (Vt a)) (YX (sA a)) (λ i=>HJ i (sA a) (AJ (KX (FY (Fj a) i) (uG a)) (IV (IN (Fj a) i)) (NX (IN (Fj a) i) (uG a)))))) (Gq (Xu (λ i=>Ra a a i) (OI a)) (Xu (λ i=>Zh (Vt a) (Fg (Fj a) i)) (sA a))) (tJ a) (Ql (WU a))) := by kernel_rfl
theorem p91 (a : LL) (h : a.l.length < 4611686018427387904) (hr : ∀ i, i < a.l.length -> inR a.lv.length (gD a.l i)) : V91 a := by
 rw [vc91]<;> simp only [go_sem]; simp only [CC, eq_self, implies_true, forall_const, DL.d2]
 exact ⟨h, hr⟩
theorem ok91 : AH Try.prog 91 (C91.spec d91) := Ctr.spec_ok (C := C91) (λ (a : LL) h => Pb (A := A91) (ren := []) (fz := []) Try.func91 (by kernel_rfl) (AA BRC AE) (p91 a h.1 h.2)) _
theorem AWU {lv : List Int} {l : List Reach} : (!decide (0 <= gO (λ i => !Qv lv (gD l i)) l.length 0)) = XT (λ i => Qv lv (gD l i)) l.length := AGP
def C65 : Ctr := { ro := [110, 111], α := LL, xs := λ a => [.d (HE a.l), fn63], L := λ a => capN a.lv, val := λ a => .bool (XT (λ i => Qv a.lv (gD a.l i)) a.l.length), keep := λ a => Uw (capN a.lv), pre := λ a => [a.l.length < 4611686018427387904, ∀ i, i < a.l.length -> inR a.lv.length (gD a.l i)] }
def d65 : List AVal -> Heap -> Option (LL × List (Nat × Nat) × List Nat)
 | [.d (.list _ m h _), .fn _ _ [.bptr p _, .bptr q _]], H => match H q with
  | .live (.box [.d (.list _ n g _)]) => some (⟨NO n λ i => OO (g i), NO m λ i => RN (h i)⟩, [(110, p), (111, q)], [])
  | _ => none
 | _, _ => none
def A65 := { ann 9 [(91, C91.spec d91)] with E := [110, 111] }
def V65 (a : LL) : Prop := BN Try.prog A65 Try.f65 (AF Try.f65) (C65.xs a) (AD (C65.L a)) (C65.val a) (C65.keep a) [] []
theorem vc65 (a : LL) : (V65 a) = (AP (DW (MN (Fj a) (OI a)) (λ i=>Mm i (Fj a) (IN (Dt a) i) (FY (Dt a) i) (IU (Dt a) i)) (DB (WU a)) (Be (DN (WU a)) (FH (WU a) (Vt a)) (λ i=>FW i (WU a) (Vt a)) (YX (sA a)) (λ i=>HJ i (sA a) (AJ (KX (FY (Fj a) i) (uG a)) (IV (IN (Fj a) i)) (NX (IN (Fj a) i) (uG a)))))) (Gq (Q7 (λ i=>Ra a a i) (OI a)) (not (Xu (λ i=>Zh (Vt a) (Fg (Fj a) i)) (sA a)))) (tJ a) (Ql (WU a))) := by kernel_rfl
theorem p65 (a : LL) (h : a.l.length < 4611686018427387904) (hr : ∀ i, i < a.l.length -> inR a.lv.length (gD a.l i)) : V65 a := by
 rw [vc65]<;> simp only [go_sem]; simp only [CC, eq_self, implies_true, forall_const, ge_iff_le, DL.d2, AWU]
 exact ⟨h, hr⟩
theorem ok65 : AH Try.prog 65 (C65.spec d65) := Ctr.spec_ok (C := C65) (λ (a : LL) h => Pb (A := A65) (ren := []) (fz := []) Try.func65 (by kernel_rfl) (AA ok91 AE) (p65 a h.1 h.2)) _
structure CN where
 rise : Int
 s : Span
 p : Int
def sV (rise : Int) (s : Span) (p : Int) : Int := if rise = 1 then wr (p + s.lo) else if rise = -1 then wr (p - s.hi) else p
def C66 : Ctr := { α := CN, xs := λ a => [.int a.rise, .d (OW a.s), .bptr 100 0], L := λ a => [(100, .box [.int a.p])], val := λ _ => uV, keep := λ a => [(100, .live (.box [.int (sV a.rise a.s a.p)]))] }
def d66 : List AVal -> Heap -> Option (CN × List (Nat × Nat) × List Nat)
 | [.d (.v (.int _ r)), .d s, .bptr o _], H => match H o with
  | .live (.box [.d (.v (.int _ p))]) => some (⟨r, ZX s, p⟩, [(100, o)], [])
  | _ => none
 | _, _ => none
def A66 := { ann 18 [] with E := [100] }
def V66 (a : CN) : Prop := BN Try.prog A66 Try.f66 (AF Try.f66) (C66.xs a) (AD (C66.L a)) (C66.val a) (C66.keep a) [] []
abbrev AKN:=CN.rise
abbrev AGX:=sV
attribute [go_sem] AKN AGX
theorem vc66 (a : CN) : (V66 a) = (IK (Bz (AKN a) 1) (RI (AGX (AKN a) (CN.s a) (CN.p a)) (CN.p a) (Ou (CN.s a))) (IK (Bz (AKN a) (-1)) (AS (AGX (AKN a) (CN.s a) (CN.p a)) (ME (CN.p a) (Ok (CN.s a)))) (AS (AGX (AKN a) (CN.s a) (CN.p a)) (CN.p a)))) := by kernel_rfl
theorem p66 (a : CN) : V66 a := by
 rw [vc66]<;> simp only [go_sem]; simp only [CC, eq_self, implies_true, forall_const]
 unfold sV
 by_cases h1 : a.rise = 1 <;> by_cases h2 : a.rise = -1 <;> simp [h1, h2]
theorem ok66 : AH Try.prog 66 (C66.spec d66) := UY C66 (λ _ => A66) [] [] Try.func66 (λ _ => by kernel_rfl) (λ _ => AE) (λ a _ => p66 a) (λ _ => WR rfl rfl) _
structure NPL where
 N : NetL
 price : Int
 lv : List Int
structure PK where
 p : Int
 k : Nat
 deriving Inhabited
def prR (lv : List Int) : Int -> List Reach -> Int
 | p, [] => p
 | p, r :: l => prR lv (sV (Ll lv r) r.sp p) l
def prG : Int -> List Int -> List Span -> Int
 | p, x :: lv, s :: l => prG (sV x s p) lv l
 | p, _, _ => p
def Fr (N : NetL) (lv : List Int) : Int := prG (prR lv 0 N.r) lv N.g
def XM (N : NetL) (lv : List Int) : Bool := decide (lv.length = N.g.length) && XT (λ i => inM (gD lv i) (-1) 1) lv.length && XT (λ i => Qv lv (gD N.r i)) N.r.length
def prH (a : NPL) (p : Int) : List (Nat × HCell) := [(205, .live (.box [.d (BC a.lv)])), (211, .live (.box [.int p]))]
def fn66 : AVal := .fn (.func 66) [] [.bptr 211 0]
def A24 (a : NPL) : Ann := { ann 85 [(44, s44), (64, C64c61.spec AZJ), (65, C65.spec d65), (66, C66.spec d66)] with loops := λ id => if id = 11 then some [{ α := PK, dflt := default, T := λ s => ⟨[(1, .int a.price), (3, .bptr 203 0), (5, .bptr 205 0), (11, .bptr 211 0), (12, fn66), (44, .d (HE a.N.r)), (45, .int a.N.r.length), (46, .int s.k)], [(203, LF a.N)] ++ prH a s.p⟩, inv := λ s => s.k <= a.N.r.length /\ prR a.lv s.p (a.N.r.drop s.k) = prR a.lv 0 a.N.r, meas := λ s => a.N.r.length - s.k, first := [(203, 1000), (205, 1016), (211, 9000)] }] else if id = 16 then some [{ α := PK, dflt := default, T := λ s => ⟨[(1, .int a.price), (5, .bptr 205 0), (11, .bptr 211 0), (12, fn66), (67, .d (PJ a.N.g)), (68, .int a.N.g.length), (69, .int s.k)], prH a s.p⟩, inv := λ s => s.k <= a.N.g.length /\ prG s.p (a.lv.drop s.k) (a.N.g.drop s.k) = Fr a.N a.lv, meas := λ s => a.N.g.length - s.k }] else none }
def xs24 (a : NPL) : List AVal := [.d (LW a.N), .int a.price, .d (BC a.lv)]
def TE (a : NPL) : Int := if AB a.N = 0 then if XM a.N a.lv then 0 else 2 else AB a.N
def C24 : Ctr := { α := NPL, xs := xs24, L := λ _ => [], val := λ a => .tup [.bool (decide (TE a = 0) && decide (a.price <= Fr a.N a.lv)), .int (TE a)], keep := λ _ => [], pre := λ a => [a.lv.length < 4611686018427387904] }
def V24 (a : NPL) : Prop := BN Try.prog (A24 a) Try.f24 (AF Try.f24) (C24.xs a) (AD (C24.L a)) (C24.val a) (C24.keep a) [] []
abbrev AN:=NPL.N
abbrev Mc:=TE
abbrev Dk:=NPL.price
abbrev qF:=Fr
abbrev BW:=NPL.lv
abbrev AJX:=@Exists PK
abbrev HR:=PK.k
abbrev Gu:=PK.p
abbrev AYU:=λ (f : PK -> Prop) => ∀ (x : PK), f x
abbrev AQC:=@List.drop Span
abbrev ADH a b c:=and (sI (Mc a)) (hd4 b c)
abbrev Br a b c:=ADH a (Dk b) c
abbrev HU a:=AY (AN a)
abbrev Tx a:=Cz (BW a)
abbrev Te a:=EA (BW a)
abbrev G1 a b:=(@List.drop Reach) a (iC b)
abbrev Ek a:=AM (AN a)
abbrev Fv a b:=CY (AN a) b
abbrev aS a:=Ql (BW a)
abbrev Tw a b c:=Xd (PG a) b c
abbrev P0 a b:=lE (AN a) b
abbrev DD a:=HQ (BW a)
abbrev Wn a b c:=SD (SO a b) c
abbrev fU a:=EA (DD a)
abbrev Wh a:=JC (AN a)
abbrev PS a:=BT (EA a)
abbrev Ec a b:=qX (P0 a b)
abbrev It a b:=Yw (P0 a b)
abbrev Qt a b:=FH (DD a) (BW b)
abbrev Rs a b c d e f g:=vK a b c d b e f g
abbrev Mp a b:=mV (P0 a b)
abbrev Tz a b c:=QJ a (AN b) c
abbrev cK a:=DE (AN a)
abbrev Rf a b (c:Nat->Prop) d:=VB a (MH b c d)
attribute [go_sem] AN Mc Dk qF BW AJX HR Gu AYU AQC ADH Br HU Tx Te G1 Ek Fv aS Tw P0 DD Wn fU Wh PS Ec It Qt Rs Mp Tz cK Rf
theorem vc24 (a : NPL) : (V24 a) = (JY (AGD (HU a) (Ek a)) (rR (HU a) (AN a)) (Tw (Br a a (qF (AN a) (BW a))) (Mc a) (rR (HU a) (AN a))) (EG (And (Rf (not (SO (PS (BW a)) (Wh a))) (Qt a a) (λ i=>FW i (DD a) (BW a)) (Sm (fU a))) (VB (not (Wn (PS (BW a)) (Wh a) (Q7 (λ i=>TP (DD a) i) (fU a)))) (DW (cK a) (λ i=>Rs i (AN a) (Tz (Ec a i) a i) (It a i) i (Mp a i) (Fv a i)) (Qt a a) (Be (KH (DD a) (BW a)) (FH (BW a) (DD a)) (λ i=>FW i (BW a) (DD a)) (YX (HA (AN a))) (λ i=>HJ i (HA (AN a)) (AJ (Nt (It a i) (DD a)) (IV (Ec a i)) (NX (Ec a i) (fU a)))))))) (SD (Wn (PS (BW a)) (Wh a) (Q7 (λ i=>TP (DD a) i) (fU a))) (Q7 (λ i=>Zh (DD a) (P0 a i)) (HA (AN a)))) (Tw (Br a a (qF (AN a) (BW a))) (Mc a) 2) (And (AJX (λ i=>YL (PD (Dk a) (CA (AN a)) (DX (AN a)) (IW (PB (AN a)) (AZ (HR i)) (BA (AN a)) (CE (AN a)) (CA (AN a)) (DX (AN a)) (Tx a) (aS a) (GP (Gu i)))) (HR i) (Ek a) (prR (BW a) (Gu i) (G1 (HR i) (AN a))) (prR (BW a) 0 (iC (AN a))))) (AYU (λ i=>OV (WD (HR i) (Ek a) (prR (BW a) (Gu i) (G1 (HR i) (AN a))) (prR (BW a) 0 (iC (AN a)))) (HR i) (Ek a) (And (Nt (EC (AN a) (HR i)) (BW a)) (BG (Nt (EJ (AN a) (HR i)) (BW a)) (AR (Fu (Lh (BW a) (EC (AN a) (HR i))) (BW a) (EJ (AN a) (HR i)))) (Uk (Fv a (HR i))) (Uu (Fv a (HR i))) (AR (Gu i)))) (AJX (λ j=>Ar (PD (Dk a) (CA (AN a)) (DX (AN a)) (IW (PB (AN a)) (AU (HR j) (HR i)) (BA (AN a)) (CE (AN a)) (CA (AN a)) (DX (AN a)) (Tx a) (aS a) (AS (Gu j) (AGX (Fu (Lh (BW a) (EC (AN a) (HR i))) (BW a) (EJ (AN a) (HR i))) (Fv a (HR i)) (Gu i))))) (HR j) (Ek a) (prR (BW a) (Gu j) (G1 (HR j) (AN a))) (prR (BW a) 0 (iC (AN a))) (HR i))) (And (AJX (λ j=>YL (PD (Dk a) (BA (AN a)) (CE (AN a)) (LQ (GT (HU a)) (AZ (HR j)) (Tx a) (λ k=>NV k (BW a)) (AS (Gu j) (Gu i)))) (HR j) (HU a) (prG (Gu j) (Zk (HR j) (BW a)) (AQC (HR j) (lK (AN a)))) (qF (AN a) (BW a)))) (AYU (λ j=>OV (WD (HR j) (HU a) (prG (Gu j) (Zk (HR j) (BW a)) (AQC (HR j) (lK (AN a)))) (qF (AN a) (BW a))) (HR j) (HU a) (BG (GF (HR j) (Te a)) (AR (Ca (BW a) (HR j))) (Uk (CU (AN a) (HR j))) (Uu (CU (AN a) (HR j))) (AR (Gu j))) (AJX (λ k=>Ar (PD (Dk a) (BA (AN a)) (CE (AN a)) (LQ (GT (HU a)) (AU (HR k) (HR j)) (Tx a) (λ l=>NV l (BW a)) (AS (Gu k) (AGX (Ca (BW a) (HR j)) (CU (AN a) (HR j)) (Gu j))))) (HR k) (HU a) (prG (Gu k) (Zk (HR k) (BW a)) (AQC (HR k) (lK (AN a)))) (qF (AN a) (BW a)) (HR j))) (And (Gq (Br a a (qF (AN a) (BW a))) (hd3 (Gu j) (Dk a))) (GP (Mc a))))))))))) := by kernel_rfl
theorem p24 (a : NPL) (h : a.lv.length < 4611686018427387904) : V24 a := by
 rw [vc24]<;> delta Gq hd2 hd3 hd4 hd5 Ou Ok ED AG VK ON AS BT EP WC IK Tt bX tW hd28 hd29 hd30 Hi Q7 hd35 TR Ca EA SM SO Zk PM iC qX Fg Yw mV LC lK ES UM xG Zh AGX AN Mc Dk qF BW AJX HR Gu AYU AQC AY AJ Fa M7 BG HJ AR mT DU lE AM Es gR CU CY Dd ME IW MF Uk EJ O7 P0 HQ MB Fo WA EC GT AP HA NJ IV RY Uu pZ FI iD Q2 ABZ FH O1 FR LY AGG Cz GP qY kE Lc jS KX AJF Lh AKP GF AJQ AER AU CA oJ MH xB AGN I7 Fb VB EG QJ CG BA DD CB DE NV FW MZ vK AZ Rn KH Vg WS Rs IM DX DW JC G1 Dq UD CE PG PD PB HU Hn NX iV Ec LQ WD SD It Mp JY AMY tX PS YX ACF Ql Nt rR TP sI OV Xd Ek ADH H9 YL Br Fv Fu Be AGD Tx Te Sm Qt Wh fU Rf Tw Wn Tz Ar cK aS; simp only [CC, eq_self, implies_true, forall_const, DL.d2, DL.d6, DL.d7, DL.d8, XW]
 have e1 : ((a.lv.length : Int) != (a.N.g.length : Int)) = !decide (a.lv.length = a.N.g.length) := by
  by_cases h : a.lv.length = a.N.g.length
  ·simp [h]
  ·have : (a.lv.length : Int) ≠ a.N.g.length := by omega
   simp [h, this]
 have e2 : (bif bif ((a.lv.length : Int) != (a.N.g.length : Int)) then true else !XT (λ i => inM (gD a.lv i) (-1) 1) a.lv.length then true else !XT (λ i => Qv a.lv (gD a.N.r i)) a.N.r.length) = !XM a.N a.lv := by
  rw [e1]; unfold XM
  cases decide (a.lv.length = a.N.g.length) <;> cases XT (λ i => inM (gD a.lv i) (-1) 1) a.lv.length <;> cases XT (λ i => Qv a.lv (gD a.N.r i)) a.N.r.length <;> rfl
 by_cases hc : AB a.N = 0
 ·have hg := BB hc
  have hr14 := hg.r14
  have hg8 := hg.g8
  have hin : a.lv.length = a.N.g.length -> ∀ i, i < a.N.r.length -> (0 <= (gD a.N.r i).to /\ (gD a.N.r i).to < a.lv.length) /\ 0 <= (gD a.N.r i).fr /\ (gD a.N.r i).fr < a.lv.length := λ he i hi => by
   obtain ⟨_, h2, h3, _⟩ := hg.r i hi
   rw [he]; exact ⟨h3, h2⟩
  refine ⟨λ hb => by simp [hc] at hb, λ _ => ⟨⟨λ _ => h, λ hb => ⟨by omega, ?_⟩⟩, λ hb => ?_, λ hb => ?_⟩⟩
  ·rw [e1] at hb
   refine hin ?_
   cases hd : decide (a.lv.length = a.N.g.length) with
   | true => exact of_decide_eq_true hd
   | false => rw [hd] at hb; cases hb
  ·rw [e2] at hb
   have hl : XM a.N a.lv = false := by simpa using hb
   have : TE a = 2 := by simp [TE, hc, hl]
   rw [this]; exact ⟨rfl, rfl⟩
  ·rw [e2] at hb
   have hl : XM a.N a.lv = true := by simpa using hb
   have he : a.lv.length = a.N.g.length := by
    unfold XM at hl
    simp only [Bool.and_eq_true, decide_eq_true_eq] at hl; exact hl.1.1
   have hp : TE a = 0 := by simp [TE, hc, hl]
   refine ⟨⟨⟨0, 0⟩, ⟨rfl, rfl⟩, Nat.zero_le _, rfl⟩, λ s ⟨h1, h2⟩ => ⟨λ hlt => ⟨⟨by omega, hlt⟩, hin he _ (by omega), ⟨⟨_, s.k + 1⟩, ⟨(AL (by omega)).symm, rfl⟩, ⟨by show s.k + 1 <= _; omega, ?_⟩, by show _ - (s.k + 1) < _; omega⟩⟩, λ hge => ⟨⟨⟨s.p, 0⟩, ⟨rfl, rfl⟩, Nat.zero_le _, ?_⟩, λ q ⟨h3, h4⟩ => ⟨λ hlt => ⟨⟨by omega, hlt⟩, ⟨by omega, by omega⟩, ⟨⟨_, q.k + 1⟩, ⟨(AL (by omega)).symm, rfl⟩, ⟨by show q.k + 1 <= _; omega, ?_⟩, by show _ - (q.k + 1) < _; omega⟩⟩, λ hge => ?_⟩⟩⟩⟩
   ·rw [JP (by omega)] at h2; exact h2
   ·rw [List.drop_eq_nil_of_le (by omega)] at h2
    have h2 : s.p = prR a.lv 0 a.N.r := h2
    show prG s.p a.lv a.N.g = _
    rw [h2]; rfl
   ·rw [JP (l := a.lv) (by omega), JP (l := a.N.g) (by omega)] at h4; exact h4
   ·rw [List.drop_eq_nil_of_le (show a.lv.length <= q.k by omega)] at h4
    have h4 : q.p = Fr a.N a.lv := h4
    rw [hp, h4]; simp
 ·refine ⟨λ hb => ?_, λ hb => by simp [hc] at hb⟩
  have : TE a = AB a.N := by simp [TE, hc]
  rw [this]; simp [hc]
def d24 : List AVal -> Heap -> Option (NPL × List (Nat × Nat) × List Nat)
 | [.d x, .d (.v (.int _ p)), .d (.list _ n g _)], _ => match Tf x with
  | some N => some (⟨N, p, NO n λ i => OO (g i)⟩, [], [])
  | none => none
 | [.d x, .d (.v (.int _ p)), .own id _ _ n], H => match Tf x, H id with
  | some N, .live (.row _ _ g) => some (⟨N, p, NO n λ i => OO (g i)⟩, [], [id])
  | _, _ => none
 | _, _ => none
theorem ok24 : AH Try.prog 24 (C24.spec d24) := UY C24 A24 [] [] Try.func24 (λ _ => by kernel_rfl) (λ _ => AA R7 (AA AYH (AA ok65 (AA ok66 AE)))) (λ a h => p24 a h) (λ _ => WR rfl rfl) _
end Go.Bal
