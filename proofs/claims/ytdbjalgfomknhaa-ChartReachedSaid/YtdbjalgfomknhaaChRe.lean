/- Law ChartReached: its walk. -/
import Derived.Test.YtdbjalgfomknhaaChW
import Derived.Test.YtdbjalgfomknhaaChQ
set_option linter.unusedVariables false
set_option linter.unusedSimpArgs false
namespace Go.Bal
open Go Go.Sym Go.Proofs
def atS (n : Nat) (s t : Sym.Spec) : Sym.Spec := λ xs H r => bif Nat.beq r n then s xs H r else t xs H r
theorem DRS {g : FuncId} {n : Nat} {s t : Sym.Spec} (h1 : AN Try.prog g s) (h2 : AN Try.prog g t) : AN Try.prog g (atS n s t) := λ xs H r x hx hp => by
 unfold atS at hx
 cases hn : Nat.beq r n with
 | true => rw [hn] at hx; exact h1 xs H r x hx hp
 | false => rw [hn] at hx; exact h2 xs H r x hx hp
def CDZ (l : List Int) : AObj := .row 1 l.length λ i => EU (gD l i)
def C_holdO : Ctr := { ro := [100, 101], α := CT, xs := λ x => [.d (XK x.c), .agg [.own 100 1 0 x.t.t.length, .own 101 1 0 x.t.s.length, .d (BB x.t.z)]], L := λ x => [(100, CDZ x.t.t), (101, CDZ x.t.s)], val := C_hold.val, keep := λ x => [(100, .live (CDZ x.t.t)), (101, .live (CDZ x.t.s))], pre := C_hold.pre }
def CWS : List AVal -> Heap -> Option (CT × List (Nat × Nat) × List Nat)
 | [x, .agg [.own i _ _ _, .own j _ _ _, z]], H => match CAS x H, H i, H j, BZN z H with
  | some (c, g), .live (.row _ n f), .live (.row _ m k), some (l, e) => some (⟨c, ⟨AF n λ i => BV (f i), AF m λ i => BV (k i), l⟩⟩, [(100, i), (101, j)], g ++ e)
  | _, _, _, _ => none
 | _, _ => none
theorem DIF : AN Try.prog ABY (C_holdO.spec CWS) := okT C_holdO (λ (x : CT) h => by
 have hf : FnT Try.prog ABY (xCT x) (AG []) (C_hold.val x) [] := DDX x h
 refine FnT.lend (fz := [100, 101]) (xs := [.d (XK x.c), .agg [.own 100 1 0 x.t.t.length, .own 101 1 0 x.t.s.length, .d (BB x.t.z)]]) (L := [(100, CDZ x.t.t), (101, CDZ x.t.s)]) hf rfl ?_ rfl ?_ _ ?_
 ·show [_, AVal.d (.agg [.list 1 x.t.t.length (λ j => EU (gD x.t.t (0 + j))) false, .list 1 x.t.s.length (λ j => EU (gD x.t.s (0 + j))) false, BB x.t.z])] = _
  simp only [Nat.zero_add]; rfl
 ·show (0 + x.t.t.length <= x.t.t.length) /\ (0 + x.t.s.length <= x.t.s.length); omega
 ·exact ⟨rfl, rfl, trivial⟩) _
structure ReI where
 bs : List Int
 m : Int
 t : Int
def reM (x : ReI) : MkI := ⟨⟨x.bs, 0, 0⟩, 12, true⟩
def BN (x : ReI) : Cht := ID (reM x)
def ZD (x : ReI) : Tru := mdT (reM x)
def reZ (x : ReI) : CZ := ⟨BN x, (ZD x).z⟩
def reL (x : ReI) : List Span := GV (reZ x)
def reS (x : ReI) : List Span := BE (BN x)
def KA (x : ReI) : Int := QC x.m (BN x).ms.length
def Y5 (x : ReI) : Span := gD (reL x) (KA x).toNat
def reB (x : ReI) : Span := gD (reS x) (KA x).toNat
def reX (x : ReI) : Int := wr ((Y5 x).lo + QC x.t (wr (wr ((Y5 x).hi - (Y5 x).lo) + 1)))
def reV (x : ReI) : List Int := [(Y5 x).lo, (Y5 x).hi, reX x]
def reW (x : ReI) : List Int := [(reB x).lo, (reB x).hi]
def Zz (x : ReI) (k : Nat) : TrI := ⟨reZ x, KA x, gD (reV x) k⟩
def reH (x : ReI) : List (Nat × HCell) := [(2096, .live (chB (BN x))), (2112, .live (.box [.d (BB (ZD x).t), .d (BB (ZD x).s), .d (BB (ZD x).z)]))]
def reSl (x : ReI) : List (Nat × AVal) := [(7, .bptr 2096 0), (8, .bptr 2112 0), (9, .d (AT (reL x))), (11, .d (AT (reS x))), (13, .int (KA x))]
def re7 (x : ReI) : Shape := { α := One, dflt := default, T := λ _ => ⟨[(2, .int x.t), (7, .bptr 2096 0), (8, .bptr 2112 0), (9, .d (AT (reL x))), (11, .d (AT (reS x))), (13, .int (KA x))], reH x⟩, inv := λ _ => True, meas := λ _ => 0 }
def re8T (x : ReI) (k : Nat) : List (Nat × AVal) := reSl x ++ [(97, .d (BB (reV x))), (98, .int 3), (99, .int k)]
def re8 (x : ReI) : Shape := { α := Nat, dflt := 0, T := λ k => ⟨re8T x k, reH x⟩, inv := λ k => k <= 3, meas := λ k => 3 - k, ffz := [8480] }
def reR (x : ReI) (j i : Nat) : Int := bif decide (j = 0) then (FN (BN x) i).lo else bif decide (i = (KA x).toNat) then gD (reW x) (j - 1) else (FN (BN x) i).lo
def reO (x : ReI) (k j : Nat) : List (Nat × HCell) := [(11144, .live (.box [.own 11080 1 0 (BN x).ms.length, .own 11081 1 0 (BN x).ms.length, .d (BB (ZD x).z)])), (11080, .live (.row 1 (BN x).ms.length λ i => EU (To (Zz x k) i))), (11081, .live (.row 1 (BN x).ms.length λ i => EU (reR x j i)))]
def re14 (x : ReI) (m : Nat) : Shape := { α := IJ, dflt := default, T := λ s => ⟨re8T x s.i ++ [(16, .bptr 11144 0), (149, .d (BB (reW x))), (150, .int 2), (151, .int s.j)], reH x ++ reO x s.i s.j⟩, inv := λ s => (s.i < 3 /\ 3 - s.i = m) /\ s.j <= 2, meas := λ s => 2 - s.j, ffz := [14160] }
def re26 (x : ReI) : Shape := { α := One, dflt := default, T := λ _ => ⟨[(7, .bptr 2096 0), (8, .bptr 2112 0), (9, .d (AT (reL x))), (13, .int (KA x))], reH x⟩, inv := λ _ => True, meas := λ _ => 0 }
def xRe (x : ReI) : List AVal := [.d (eBys x.bs), .int x.m, .int x.t]
def A_Re (x : ReI) : Ann := { ann 232 [(DEI, C_New.spec DOD), (CTY, (uM true).spec (dMkI true)), (BKT, C_Times.spec dCZ), (AGL, C_Stages.spec dC1), (CTP, DHH), (AFM, atS 11080 (C_TruO.spec dTrI) (C_TruX.spec dTrI)), (ABY, C_holdO.spec CWS), (CIX, CYB)] with loops := λ id => if id = 8 then some [re8 x] else none, inner := λ gs id => if id = 14 then some [re14 x (gs.getD 0 0)] else none, cut := λ id => if id = 7 then some [re7 x] else if id = 26 then some [re26 x] else none }
def V_Re (x : ReI) : Prop := BA Try.prog (A_Re x) vW (AL vW) (xRe x) (AG []) (.bool true) [] [] []
abbrev CTM (x : ReI) : List Int := AF x.bs.length λ (i : Nat) => gD x.bs i
abbrev BVC (x : ReI) : Nat := (CTM x).length
abbrev CJP (x : ReI) (i : Nat) : Int := gD (CTM x) i
abbrev CNS (x : ReI) : List Int := AF (BVC x) λ (i : Nat) => CJP x i
abbrev CSY (x : ReI) : Nat := (CNS x).length
abbrev CTW : Prop := (0 : Int) = (0 : Int)
abbrev CUM (x : ReI) : Stm := Stm.mk (CNS x) (0 : Int) (0 : Int)
abbrev CTX (x : ReI) : MkI := MkI.mk (CUM x) (12 : Int) true
abbrev P7 (x : ReI) : Cht := ID (CTX x)
abbrev CGR (x : ReI) : Span := (P7 x).p
abbrev BKO (x : ReI) : Int := (CGR x).lo
abbrev CEV (x : ReI) : Prop := BKO x = BKO x
abbrev BJJ (x : ReI) : Int := (CGR x).hi
abbrev CMC (x : ReI) : Prop := BJJ x = BJJ x
abbrev Y8 (x : ReI) : Int := (P7 x).base
abbrev CLE (x : ReI) : Prop := Y8 x = Y8 x
abbrev AJT (x : ReI) : Int := (P7 x).scale
abbrev CEW (x : ReI) : Prop := AJT x = AJT x
abbrev ABS (x : ReI) : Int := (P7 x).off
abbrev CMK (x : ReI) : Prop := ABS x = ABS x
abbrev CKB (x : ReI) : List Mk := (P7 x).ms
abbrev ADF (x : ReI) : Nat := (CKB x).length
abbrev BIN (x : ReI) (i : Nat) : Mk := gD (CKB x) i
abbrev BIL (x : ReI) : List Mk := AF (ADF x) λ (i : Nat) => BIN x i
abbrev BLE (x : ReI) : Nat := (BIL x).length
abbrev CFX (x : ReI) : Prop := BLE x = ADF x
abbrev CMV (x : ReI) (i : Nat) : Mk := gD (BIL x) i
abbrev CNE (x : ReI) (i : Nat) : Int := (BIN x i).pl
abbrev COO (x : ReI) (i : Nat) : Int := (BIN x i).ht
abbrev CKL (x : ReI) : Prop := ∀ (i : Nat), i < BLE x -> (CMV x i).pl = CNE x i /\ (CMV x i).ht = COO x i
abbrev CPB (x : ReI) : List Nt := (P7 x).ns
abbrev BJK (x : ReI) : Nat := (CPB x).length
abbrev ABQ (x : ReI) (i : Nat) : Nt := gD (CPB x) i
abbrev BIF (x : ReI) : List Nt := AF (BJK x) λ (i : Nat) => ABQ x i
abbrev BIR (x : ReI) : Nat := (BIF x).length
abbrev CHQ (x : ReI) : Prop := BIR x = BJK x
abbrev BMC (x : ReI) (i : Nat) : Nt := gD (BIF x) i
abbrev CKD (x : ReI) (i : Nat) : Int := (ABQ x i).mi
abbrev CJM (x : ReI) (i : Nat) : Span := (BMC x i).t
abbrev CLW (x : ReI) (i : Nat) : Span := (ABQ x i).t
abbrev CID (x : ReI) (i : Nat) : Int := (CLW x i).lo
abbrev CPJ (x : ReI) (i : Nat) : Int := (CLW x i).hi
abbrev CGP (x : ReI) (i : Nat) : Span := (BMC x i).s
abbrev CLZ (x : ReI) (i : Nat) : Span := (ABQ x i).s
abbrev COG (x : ReI) (i : Nat) : Int := (CLZ x i).lo
abbrev CEZ (x : ReI) (i : Nat) : Int := (CLZ x i).hi
abbrev COZ (x : ReI) : Prop := ∀ (i : Nat), i < BIR x -> (BMC x i).mi = CKD x i /\ (CJM x i).lo = CID x i /\ (CJM x i).hi = CPJ x i /\ (CGP x i).lo = COG x i /\ (CGP x i).hi =
 CEZ x i
abbrev BIJ (x : ReI) : Tru := mdT (CTX x)
abbrev CHM (x : ReI) : List Int := (BIJ x).z
abbrev BLC (x : ReI) : Nat := (CHM x).length
abbrev BKG (x : ReI) (i : Nat) : Int := gD (CHM x) i
abbrev BLI (x : ReI) : List Int := AF (BLC x) λ (i : Nat) => BKG x i
abbrev BKM (x : ReI) : Nat := (BLI x).length
abbrev CPC (x : ReI) : Prop := BLE x < (4611686018427387904 : Nat)
abbrev CFR (x : ReI) : Prop := BIR x < (4611686018427387904 : Nat)
abbrev CKM (x : ReI) : Cht := Cht.mk (CGR x) (Y8 x) (AJT x) (ABS x) (BIL x) (BIF x)
abbrev CLK (x : ReI) : List Span × Int := timR (CZ.mk (CKM x) (BLI x))
abbrev CLX (x : ReI) : List Span × Int := JR (CKM x)
abbrev CLS (x : ReI) : List Span := (CLK x).fst
abbrev AGW (x : ReI) : Nat := (CLS x).length
abbrev CJJ (x : ReI) : List Span := (CLX x).fst
abbrev CNB (x : ReI) : Nat := (CJJ x).length
abbrev CNH (x : ReI) (i : Nat) : Span := gD (CLS x) i
abbrev CKX (x : ReI) (i : Nat) : Span := gD (CJJ x) i
abbrev CKR (x : ReI) : List Int := (BIJ x).t
abbrev CJL (x : ReI) : List Int := (BIJ x).s
abbrev AFD (x : ReI) : Prop := (0 : Int) <= KA x
abbrev Am (x : ReI) : Prop := AFD x /\ KA x < (↑(reL x).length : Int)
abbrev jD (x : ReI) : Prop := (reL x).length = (reL x).length
abbrev lB (x : ReI) : Prop := ∀ (i : Nat), i < (reL x).length -> (gD (reL x) i).lo = (gD (reL x) i).lo /\ (gD (reL x) i).hi = (gD (reL x) i).hi
abbrev AFC (x : ReI) : Prop := (reS x).length = (reS x).length
abbrev AAY (x : ReI) : Prop := ∀ (i : Nat), i < (reS x).length -> (gD (reS x) i).lo = (gD (reS x) i).lo /\ (gD (reS x) i).hi = (gD (reS x) i).hi
abbrev CMR (j : Nat) : Nat := (0 : Nat) + j
abbrev CIL (j : Nat) : Bool := decide (CMR j = (0 : Nat))
abbrev AJQ : Prop := Int.ofNat (3 : Nat) = Int.ofNat (3 : Nat)
abbrev RW (x : ReI) : Prop := (BN x).p.lo = (BN x).p.lo
abbrev RX (x : ReI) : Prop := (BN x).p.hi = (BN x).p.hi
abbrev Aj (x : ReI) : Prop := (BN x).ms.length = (BN x).ms.length
abbrev BLZ (x : ReI) : Prop := ∀ (i : Nat), i < (BN x).ms.length -> (gD (BN x).ms i).pl = (gD (BN x).ms i).pl /\ (gD (BN x).ms i).ht = (gD (BN x).ms i).ht
abbrev BKC (x : ReI) : Prop := (BN x).ns.length = (BN x).ns.length
abbrev BJL (x : ReI) : Prop := ∀ (i : Nat), i < (BN x).ns.length -> (gD (BN x).ns i).mi = (gD (BN x).ns i).mi /\ (gD (BN x).ns i).t.lo = (gD (BN x).ns i).t.lo /\ (gD (BN x).ns i).t.hi = (gD (BN x).ns i).t.hi /\
 (gD (BN x).ns i).s.lo = (gD (BN x).ns i).s.lo /\ (gD (BN x).ns i).s.hi = (gD (BN x).ns i).s.hi
abbrev BKB (x : ReI) : Prop := (ZD x).t.length = (ZD x).t.length
abbrev BLN (x : ReI) : Prop := ∀ (i : Nat), i < (ZD x).t.length -> gD (ZD x).t i = gD (ZD x).t i
abbrev BLX (x : ReI) : Prop := (ZD x).s.length = (ZD x).s.length
abbrev BIH (x : ReI) : Prop := ∀ (i : Nat), i < (ZD x).s.length -> gD (ZD x).s i = gD (ZD x).s i
abbrev AEG (x : ReI) : Prop := (ZD x).z.length = (ZD x).z.length
abbrev AEC (x : ReI) : Prop := ∀ (i : Nat), i < (ZD x).z.length -> gD (ZD x).z i = gD (ZD x).z i
abbrev BKX (x : ReI) : Prop := RW x /\ RX x /\ (BN x).base = (BN x).base /\ (BN x).scale = (BN x).scale /\ (BN x).off = (BN x).off /\ Aj x /\ BLZ x /\ BKC x /\ BJL x /\ BKB x /\ BLN x /\
 BLX x /\ BIH x /\ AEG x /\ AEC x
abbrev BJQ (x : ReI) : List Mk := AF (BN x).ms.length λ (i : Nat) => gD (BN x).ms i
abbrev Cf (x : ReI) : Nat := (BJQ x).length
abbrev fT (x : ReI) : Prop := Cf x = (BN x).ms.length
abbrev CJC (x : ReI) (i : Nat) : Mk := gD (BJQ x) i
abbrev nM (x : ReI) : Prop := ∀ (i : Nat), i < Cf x -> (CJC x i).pl = (gD (BN x).ms i).pl /\ (CJC x i).ht = (gD (BN x).ms i).ht
abbrev BLW (x : ReI) : List Nt := AF (BN x).ns.length λ (i : Nat) => gD (BN x).ns i
abbrev BKL (x : ReI) : Nat := (BLW x).length
abbrev nZ (x : ReI) : Prop := BKL x = (BN x).ns.length
abbrev BKA (x : ReI) (i : Nat) : Nt := gD (BLW x) i
abbrev COW (x : ReI) (i : Nat) : Span := (BKA x i).t
abbrev CLG (x : ReI) (i : Nat) : Span := (BKA x i).s
abbrev oQ (x : ReI) : Prop := ∀ (i : Nat), i < BKL x -> (BKA x i).mi = (gD (BN x).ns i).mi /\ (COW x i).lo = (gD (BN x).ns i).t.lo /\ (COW x i).hi = (gD (BN x).ns i).t.hi /\ (CLG x i).lo = (gD
 (BN x).ns i).s.lo /\ (CLG x i).hi = (gD (BN x).ns i).s.hi
abbrev Fe (x : ReI) : List Int := AF (ZD x).z.length λ (i : Nat) => gD (ZD x).z i
abbrev bK (x : ReI) : Nat := (Fe x).length
abbrev Ge (x : ReI) : Prop := bK x = (ZD x).z.length
abbrev BXF (x : ReI) (i : Nat) : Int := gD (Fe x) i
abbrev Ft (x : ReI) : Prop := ∀ (i : Nat), i < bK x -> BXF x i = gD (ZD x).z i
abbrev BRH (x : ReI) (a : Nat) : Prop := gD (reV x) a = gD (reV x) a
abbrev ADL (x : ReI) : Prop := Cf x < (4611686018427387904 : Nat) /\ BKL x < (4611686018427387904 : Nat) /\ bK x < (4611686018427387904 : Nat)
abbrev AET (x : ReI) : Cht := Cht.mk (BN x).p (BN x).base (BN x).scale (BN x).off (BJQ x) (BLW x)
abbrev Zx (x : ReI) : CZ := CZ.mk (AET x) (Fe x)
abbrev CBU (x : ReI) : Prop := AFD x /\ KA x < (↑(Cf x) : Int)
abbrev ADP (x : ReI) : Prop := ADL x /\ AS (Zx x) = (0 : Int) /\ CBU x
abbrev Yr (x : ReI) (a : Nat) : TrI := TrI.mk (Zx x) (KA x) (gD (reV x) a)
abbrev CBI (x : ReI) : Bool := (↑(Cf x) : Int) != (↑(reL x).length : Int)
abbrev CCE (x : ReI) : Bool := bif bif (0 : Int) != (0 : Int) then true else CBI x then true else CBI x
abbrev BPH (x : ReI) : Prop := (!CCE x) = true
abbrev ADV (x : ReI) : Nat := (0 : Nat) + (KA x).toNat
abbrev BXC (x : ReI) : Nat := (ADV x).succ
abbrev ACN (x : ReI) : Prop := AFD x /\ KA x < (↑(reS x).length : Int)
abbrev Z5 (x : ReI) : Prop := (reV x).length = (reV x).length
abbrev ABE (x : ReI) : Prop := ∀ (i : Nat), i < (reV x).length -> BRH x i
abbrev BTE : Prop := Int.ofNat (2 : Nat) = Int.ofNat (2 : Nat)
abbrev MF : Prop := (0 : Nat) = (0 : Nat)
abbrev cM (x : ReI) : Prop := (BN x).ms.length = Cf x
abbrev AFN (a : Nat) : Nat := (3 : Nat) - a
abbrev AEQ (a : IJ) (a1 : Nat) : Prop := (a.i < (3 : Nat) /\ (3 : Nat) - a.i = AFN a1) /\ a.j <= (2 : Nat)
abbrev CCW (x : ReI) : Prop := (AFD x /\ KA x < (↑(BN x).ms.length : Int)) /\ (BXC x).le (BN x).ms.length
abbrev bS (x : ReI) (a : IJ) : List Int := AF (BN x).ms.length λ (i : Nat) => To (Zz x a.i) i
abbrev Ux (x : ReI) (a : IJ) : Nat := (bS x a).length
abbrev Xs (x : ReI) (a : IJ) : Prop := Ux x a = (BN x).ms.length
abbrev BYV (i : Nat) (x : ReI) : Prop := i = ADV x
abbrev CAO (i : Nat) (x : ReI) : Bool := decide (BYV i x)
abbrev Xb (i : Nat) (x : ReI) (a : IJ) : Int := bif CAO i x then gD (reW x) a.j else reR x a.j i
abbrev ACT (x : ReI) (a : IJ) : List Int := AF (BN x).ms.length λ (i : Nat) => Xb i x a
abbrev BQT (x : ReI) (a : IJ) : Nat := (ACT x a).length
abbrev BWO (x : ReI) (a : IJ) : Prop := BQT x a = (BN x).ms.length
abbrev BPD (x : ReI) (a : IJ) (i : Nat) : Int := gD (bS x a) i
abbrev BXD (x : ReI) (a : IJ) : Prop := ∀ (i : Nat), i < Ux x a -> BPD x a i = To (Zz x a.i) i
abbrev BTM (i : Nat) (x : ReI) : Bool := decide (BYV i x)
abbrev BYT (x : ReI) (a : IJ) : Nat := (AF (BN x).ms.length λ (i : Nat) => bif BTM i x then gD (reW x) a.j else reR x a.j i).length
abbrev BNR (x : ReI) (a : IJ) (i : Nat) : Int := gD (ACT x a) i
abbrev BSJ (x : ReI) (a : IJ) : Prop := (BN x).ms.length = Ux x a
abbrev BWJ (x : ReI) (a : IJ) : Prop := ∀ (i : Nat), i < (BN x).ms.length -> To (Zz x a.i) i = BPD x a i
abbrev BPA (x : ReI) (a : IJ) : Prop := Ux x a < (4611686018427387904 : Nat)
abbrev CAW (x : ReI) (a : IJ) : Bool × Int := IK (CT.mk (AET x) (Tru.mk (bS x a) (ACT x a) (Fe x)))
abbrev BVL (a : IJ) : Nat := (2 : Nat) - a.j
abbrev BVK (x : ReI) : Int := IntKind.i64.wrap ((gD (reS x) (KA x).toNat).hi + (1 : Int))
abbrev ADH (i : Nat) (x : ReI) (a : IJ) : Int := bif CAO i x then BVK x else reR x a.j i
abbrev AGG (x : ReI) (a : IJ) : List Int := AF (BN x).ms.length λ (i : Nat) => ADH i x a
abbrev BYH (x : ReI) (a : IJ) : Nat := (AGG x a).length
abbrev BSA (x : ReI) (a : IJ) : Prop := BYH x a = (BN x).ms.length
abbrev BOA (x : ReI) (a : IJ) : Nat := (AF (BN x).ms.length λ (i : Nat) => bif BTM i x then BVK x else reR x a.j i).length
abbrev BXU (x : ReI) (a : IJ) (i : Nat) : Int := gD (AGG x a) i
abbrev CCX (x : ReI) (a : IJ) : Bool × Int := IK (CT.mk (AET x) (Tru.mk (bS x a) (AGG x a) (Fe x)))
abbrev AFK (x : ReI) : Int := IntKind.i64.wrap ((gD (reL x) (KA x).toNat).lo - (1 : Int))
abbrev ACU (x : ReI) : Int := IntKind.i64.wrap ((gD (reL x) (KA x).toNat).hi + (1 : Int))
theorem DTP (x : ReI) : (V_Re x) = ((BVC x = x.bs.length /\ (∀ (i : Nat), i < BVC x -> CJP x i = gD x.bs i) /\ (12 : Int) = Int.ofNat (12 : Nat) /\ true = true /\ CSY x = BVC x /\ (∀ (i : Nat), i < CSY x ->
 gD (CNS x) i = CJP x i) /\ CTW /\ CTW /\ (StmB (0 : Int) (CUM x) /\ (1 : Int) <= (12 : Int) /\ (12 : Int) <= (14 : Int)) /\ true = true) /\ (CEV x /\ CMC x /\ CLE x /\ CEW x /\ CMK x /\ CFX x /\
 CKL x /\ CHQ x /\ COZ x /\ BKM x = BLC x /\ (∀ (i : Nat), i < BKM x -> gD (BLI x) i = BKG x i) /\ CPC x /\ CFR x /\ BKM x < (4611686018427387904 : Nat)) /\ (CEV x /\ CMC x /\
 CLE x /\ CEW x /\ CMK x /\ CFX x /\ CKL x /\ CHQ x /\ COZ x /\ CPC x /\ CFR x) /\ bif bif bif bif (CLK x).snd != (0 : Int) then true else (CLX x).snd != (0 : Int) then true else
 (↑(AGW x) : Int) != (↑(ADF x) : Int) then true else (↑(CNB x) : Int) != (↑(AGW x) : Int) then true = false else (∃ (a : One), (x.t = x.t /\ (reL x).length = AGW x /\ (∀ (i : Nat), i < (reL x).length ->
 (gD (reL x) i).lo = (CNH x i).lo /\ (gD (reL x) i).hi = (CNH x i).hi) /\ (reS x).length = CNB x /\ (∀ (i : Nat), i < (reS x).length -> (gD (reS x) i).lo = (CKX x i).lo /\ (gD (reS x) i).hi = (CKX x i).hi)
 /\ KA x = QC x.m (↑(AGW x) : Int) /\ (BN x).p.lo = BKO x /\ (BN x).p.hi = BJJ x /\ (BN x).base = Y8 x /\ (BN x).scale = AJT x /\ (BN x).off = ABS x /\ (BN x).ms.length = ADF x /\ (∀ (i :
 Nat), i < (BN x).ms.length -> (gD (BN x).ms i).pl = CNE x i /\ (gD (BN x).ms i).ht = COO x i) /\ (BN x).ns.length = BJK x /\ (∀ (i : Nat), i < (BN x).ns.length -> (gD (BN x).ns i).mi = CKD x i /\ (gD (BN
 x).ns i).t.lo = CID x i /\ (gD (BN x).ns i).t.hi = CPJ x i /\ (gD (BN x).ns i).s.lo = COG x i /\ (gD (BN x).ns i).s.hi = CEZ x i) /\ (ZD x).t.length = (CKR x).length /\ (∀ (i : Nat), i < (ZD
 x).t.length -> gD (ZD x).t i = gD (CKR x) i) /\ (ZD x).s.length = (CJL x).length /\ (∀ (i : Nat), i < (ZD x).s.length -> gD (ZD x).s i = gD (CJL x) i) /\ (ZD x).z.length = BLC x /\ ∀ (i : Nat), i < (ZD
 x).z.length -> gD (ZD x).z i = BKG x i) /\ True) /\ ∀ (a : One), True -> ((Am x /\ Am x /\ Am x /\ Am x /\ Am x) /\ (∃ (a : Nat), (jD x /\ lB x /\ AFC x /\ AAY x /\ KA x = KA x /\ (reV
 x).length = (3 : Nat) /\ (3 : Nat) <= (3 : Nat) /\ (∀ (j : Nat), j < (reV x).length -> gD (reV x) j = bif CIL j then (gD (reL x) (KA x).toNat).lo else bif decide (CMR j - (1 : Nat) = (0 : Nat)) then (gD (reL x) (KA
 x).toNat).hi else IntKind.i64.wrap ((gD (reL x) (KA x).toNat).lo + QC x.t (IntKind.i64.wrap (IntKind.i64.wrap ((gD (reL x) (KA x).toNat).hi - (gD (reL x) (KA x).toNat).lo) + (1 : Int))))) /\ AJQ /\ (↑a : Int) =
 (0 : Int) /\ BKX x) /\ a.le (3 : Nat)) /\ ∀ (a : Nat), a.le (3 : Nat) -> bif decide ((↑a : Int) < (3 : Int)) then ((0 : Int) <= (↑a : Int) /\ (↑a : Int) < (↑(reV x).length : Int)) /\ (RW x /\ RX x /\ (BN x).base =
 (BN x).base /\ (BN x).scale = (BN x).scale /\ (BN x).off = (BN x).off /\ fT x /\ nM x /\ nZ x /\ oQ x /\ Ge x /\ Ft x /\ KA x = KA x /\ BRH x a /\ ADP x /\ (PG (Yr x a)).all
 DZ = true) /\ ((BPH x -> CBU x) /\ (BPH x -> (BXC x).le (Cf x))) /\ bif bif CCE x then true else To (Yr x a) (ADV x) != gD (reV x) a then true = false else (ACN x /\ ACN x)
 /\ (∃ (a_2 : IJ), (jD x /\ lB x /\ AFC x /\ AAY x /\ KA x = KA x /\ Z5 x /\ ABE x /\ AJQ /\ (↑a_2.i : Int) = (↑a : Int) /\ (reW x).length = (2 : Nat) /\ (2 : Nat) <= (2 : Nat) /\ (∀ (j : Nat), j <
 (reW x).length -> gD (reW x) j = bif CIL j then (gD (reS x) (KA x).toNat).lo else (gD (reS x) (KA x).toNat).hi) /\ BTE /\ (↑a_2.j : Int) = (0 : Int) /\ RW x /\ RX x /\ (BN x).base = (BN x).base /\ (BN
 x).scale = (BN x).scale /\ (BN x).off = (BN x).off /\ Aj x /\ BLZ x /\ BKC x /\ BJL x /\ BKB x /\ BLN x /\ BLX x /\ BIH x /\ AEG x /\ AEC x /\ MF /\ cM x /\ MF /\ cM x
 /\ (ZD x).z.length = bK x /\ (∀ (i : Nat), i < (ZD x).z.length -> gD (ZD x).z i = BXF x i) /\ cM x /\ (∀ (i : Nat), i < (BN x).ms.length -> To (Zz x a_2.i) i = To (Yr x a) i) /\ cM x /\ ∀ (i
 : Nat), i < (BN x).ms.length -> reR x a_2.j i = trS (Yr x a) i) /\ AEQ a_2 a) /\ ∀ (a_2 : IJ), AEQ a_2 a -> bif decide ((↑a_2.j : Int) < (2 : Int)) then ((0 : Int) <= (↑a_2.j : Int) /\ (↑a_2.j : Int) < (↑(reW
 x).length : Int)) /\ CCW x /\ (RW x /\ RX x /\ (BN x).base = (BN x).base /\ (BN x).scale = (BN x).scale /\ (BN x).off = (BN x).off /\ fT x /\ nM x /\ nZ x /\ oQ x /\ MF /\ Xs x
 a_2 /\ MF /\ BWO x a_2 /\ Ge x /\ Ft x /\ Xs x a_2 /\ BXD x a_2 /\ BWO x a_2 /\ (∀ (i : Nat), i < BYT x a_2 -> BNR x a_2 i = Xb i x a_2) /\ BSJ x a_2 /\ BWJ x a_2 /\
 (BN x).ms.length = BQT x a_2 /\ (∀ (i : Nat), i < (BN x).ms.length -> Xb i x a_2 = BNR x a_2 i) /\ ADL x /\ BPA x a_2 /\ BYT x a_2 < (4611686018427387904 : Nat)) /\ bif bif (CAW x a_2).snd
 != (0 : Int) then true else !(CAW x a_2).fst then true = false else ∃ (a_4 : IJ), (jD x /\ lB x /\ AFC x /\ AAY x /\ KA x = KA x /\ Z5 x /\ ABE x /\ AJQ /\ (↑a_4.i : Int) = (↑a_2.i : Int)
 /\ (reW x).length = (reW x).length /\ (∀ (i : Nat), i < (reW x).length -> gD (reW x) i = gD (reW x) i) /\ BTE /\ (↑a_4.j : Int) = IntKind.i64.wrap ((↑a_2.j : Int) + (1 : Int)) /\ RW x /\ RX x /\ (BN x).base =
 (BN x).base /\ (BN x).scale = (BN x).scale /\ (BN x).off = (BN x).off /\ Aj x /\ BLZ x /\ BKC x /\ BJL x /\ BKB x /\ BLN x /\ BLX x /\ BIH x /\ AEG x /\ AEC x /\ MF /\ Aj x /\
 MF /\ Aj x /\ AEG x /\ AEC x /\ Aj x /\ (∀ (i : Nat), i < (BN x).ms.length -> To (Zz x a_4.i) i = To (Zz x a_2.i) i) /\ Aj x /\ ∀ (i : Nat), i < (BN x).ms.length -> reR x a_4.j i = Xb i
 x a_2) /\ AEQ a_4 a /\ BVL a_4 < BVL a_2 else (ACN x /\ CCW x) /\ (RW x /\ RX x /\ (BN x).base = (BN x).base /\ (BN x).scale = (BN x).scale /\ (BN x).off = (BN x).off /\ fT x /\
 nM x /\ nZ x /\ oQ x /\ MF /\ Xs x a_2 /\ MF /\ BSA x a_2 /\ Ge x /\ Ft x /\ Xs x a_2 /\ BXD x a_2 /\ BSA x a_2 /\ (∀ (i : Nat), i < BOA x a_2 -> BXU x a_2 i
 = ADH i x a_2) /\ BSJ x a_2 /\ BWJ x a_2 /\ (BN x).ms.length = BYH x a_2 /\ (∀ (i : Nat), i < (BN x).ms.length -> ADH i x a_2 = BXU x a_2 i) /\ ADL x /\ BPA x a_2 /\ BOA x a_2 <
 (4611686018427387904 : Nat)) /\ bif bif (CCX x a_2).snd != (0 : Int) then true else (CCX x a_2).fst then true = false else ∃ (a_4 : Nat), (jD x /\ lB x /\ AFC x /\ AAY x /\ KA x = KA x /\ Z5
 x /\ ABE x /\ AJQ /\ (↑a_4 : Int) = IntKind.i64.wrap ((↑a_2.i : Int) + (1 : Int)) /\ BKX x) /\ a_4.le (3 : Nat) /\ AFN a_4 < AFN a else ∃ (a : One), (jD x /\ lB x /\ KA x = KA x /\ BKX x) /\
 True) /\ ∀ (a : One), True -> (Am x /\ RW x /\ RX x /\ (BN x).base = (BN x).base /\ (BN x).scale = (BN x).scale /\ (BN x).off = (BN x).off /\ fT x /\ nM x /\ nZ x /\ oQ x /\ Ge x /\
 Ft x /\ KA x = KA x /\ AFK x = AFK x /\ ADP x /\ (PG (TrI.mk (Zx x) (KA x) (AFK x))).all DZ = false) /\ (Am x /\ RW x /\ RX x /\ (BN x).base = (BN x).base /\ (BN x).scale =
 (BN x).scale /\ (BN x).off = (BN x).off /\ fT x /\ nM x /\ nZ x /\ oQ x /\ Ge x /\ Ft x /\ KA x = KA x /\ ACU x = ACU x /\ ADP x /\ (PG (TrI.mk (Zx x) (KA x) (ACU
 x))).all DZ = false) /\ true = true) := by kernel_rfl
end Go.Bal
