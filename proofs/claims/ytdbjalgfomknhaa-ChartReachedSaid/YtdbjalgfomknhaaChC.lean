/- Package chart: stages. -/
import Derived.Test.YtdbjalgfomknhaaChB
import Derived.Test.YtdbjalgfomknhaaSym11
set_option linter.unusedVariables false
set_option linter.unusedSimpArgs false
namespace Go.Bal
open Go Go.Sym Go.Proofs
def atM (c : Cht) (k : Int) : Int := wr (c.base + wr (c.scale * (gD c.ms k.toNat).ht))
def st0 (c : Cht) (k : Int) : Span := ⟨wr (atM c k - c.off), wr (atM c k + c.off)⟩
def FN (c : Cht) (k : Int) : Span := bif hasN c.ns k then Ql (st0 c k) (ntOf c.ns k).s else st0 c k
structure DkI where
 w : Dk
 k : Int
def dDkI : List AVal -> Heap -> Option (DkI × List (Nat × Nat) × List Nat)
 | [.bptr id _, .d k], H => match rX H id with
  | some (w, q) => some (⟨w, BV k⟩, [(100, id), (101, q)], [])
  | none => none
 | _, _ => none
def C_stg : Ctr := { ro := [100, 101], α := DkI, xs := λ a => [.bptr 100 0, .int a.k], L := λ a => dkL a.w, val := λ a => .d (CH (FN a.w.c a.k)), keep := λ a => dkK a.w, pre := λ a => [0 <= a.k /\ a.k < a.w.c.ms.length] }
def DOU : Ann := { ann 61 [(Gx, C_com.spec CRK)] with E := [100, 101] }
def DPH (a : DkI) : Prop := BA Try.prog DOU BZX (AL BZX) (C_stg.xs a) (AG (C_stg.L a)) (C_stg.val a) (C_stg.keep a) [] []
abbrev CFO (a : DkI) : Int := IntKind.i64.wrap (a.w.c.base + IntKind.i64.wrap (a.w.c.scale * (gD a.w.c.ms a.k.toNat).ht))
abbrev AJI (a : DkI) : Int := IntKind.i64.wrap (CFO a - a.w.c.off)
abbrev Z0 (a : DkI) : Int := IntKind.i64.wrap (CFO a + a.w.c.off)
abbrev BLH (a : DkI) : List Span := AF 1 λ (i : Nat) => (ntOf a.w.c.ns a.k).s
abbrev CKZ (a : DkI) : Nat := (BLH a).length
abbrev CLA (a : DkI) (j : Nat) : Span := gD (BLH a) j
abbrev COK (a : DkI) : Span := comM (SL.mk (Span.mk (AJI a) (Z0 a)) (BLH a))
abbrev CMS (a : DkI) (i : Nat) : Int := (gD a.w.c.ns i).t.lo
abbrev CFL (a : DkI) (i : Nat) : Int := (gD a.w.c.ns i).t.hi
abbrev CHC (a : DkI) (i : Nat) : Int := (gD a.w.c.ns i).s.lo
abbrev BMN (a : DkI) (i : Nat) : Int := (gD a.w.c.ns i).s.hi
abbrev CAD (a : DkI) : Prop := a.w.c.p.lo = a.w.c.p.lo /\ a.w.c.p.hi = a.w.c.p.hi /\ a.w.c.base = a.w.c.base /\ a.w.c.scale = a.w.c.scale /\ a.w.c.off = a.w.c.off /\ a.w.c.ms.length = a.w.c.ms.length /\ (∀ (i : Nat), i <
 a.w.c.ms.length -> (gD a.w.c.ms i).pl = (gD a.w.c.ms i).pl /\ (gD a.w.c.ms i).ht = (gD a.w.c.ms i).ht) /\ a.w.c.ns.length = a.w.c.ns.length /\ (∀ (i : Nat), i < a.w.c.ns.length -> (gD a.w.c.ns i).mi = (gD a.w.c.ns i).mi /\
 CMS a i = CMS a i /\ CFL a i = CFL a i /\ CHC a i = CHC a i /\ BMN a i = BMN a i) /\ (∀ (i : Nat), i < 40 -> a.w.sp i = a.w.sp i) /\ AO = AO /\ (∀ (n : Int), hasN a.w.c.ns n = hasN a.w.c.ns
 n) /\ (∀ (n : Int), a.w.st n = a.w.st n) /\ ∀ (n : Int), (ntOf a.w.c.ns n).mi = (ntOf a.w.c.ns n).mi /\ (ntOf a.w.c.ns n).t.lo = (ntOf a.w.c.ns n).t.lo /\ (ntOf a.w.c.ns n).t.hi = (ntOf a.w.c.ns n).t.hi /\ (ntOf a.w.c.ns
 n).s.lo = (ntOf a.w.c.ns n).s.lo /\ (ntOf a.w.c.ns n).s.hi = (ntOf a.w.c.ns n).s.hi
theorem DRX (a : DkI) : (DPH a) = ((0 <= a.k /\ a.k < (↑a.w.c.ms.length : Int)) /\ Value.agg #[Value.int IntKind.i64 0, Value.int IntKind.i64 0, Value.int IntKind.i64 0, Value.int IntKind.i64 0, Value.int IntKind.i64
 0] = AO /\ bif hasN a.w.c.ns a.k then (AJI a = AJI a /\ Z0 a = Z0 a /\ CKZ a = 1 /\ 1 <= 1 /\ (∀ (j : Nat), j < CKZ a -> (CLA a j).lo = (ntOf a.w.c.ns a.k).s.lo /\ (CLA a j).hi = (ntOf a.w.c.ns
 a.k).s.hi) /\ true = true) /\ (FN a.w.c a.k).lo = (COK a).lo /\ (FN a.w.c a.k).hi = (COK a).hi /\ CAD a else (FN a.w.c a.k).lo = AJI a /\ (FN a.w.c a.k).hi = Z0 a /\ CAD a) := by kernel_rfl
theorem DTD (a : DkI) (h : 0 <= a.k /\ a.k < a.w.c.ms.length) : DPH a := by
 rw [DRX]; delta CFO AJI Z0 BLH CKZ CLA COK CMS CFL CHC BMN CAD; simp only [AU, eq_self, implies_true, and_self, true_and, and_true, true_implies, forall_const, decide_eq_true_eq, decide_eq_false_iff_not, Int.toNat_natCast, dSpan_eSpan, dInt_eInt, AY, AW, AX, Nat.zero_add, Int.zero_sub, Nat.le_eq, Nat.succ_eq_add_one, Nat.add_one_le_iff, Bool.not_eq_true', Bool.not_eq_false', rng_length, AK, AJ]
 cases hq : hasN a.w.c.ns a.k with
 | true =>
  have e : FN a.w.c a.k = Ql (st0 a.w.c a.k) (ntOf a.w.c.ns a.k).s := by unfold FN; rw [hq]; rfl
  refine ⟨h, rfl, λ _ => ⟨⟨by omega, λ j hj => ?_⟩, ?_, ?_⟩, λ h => by cases h⟩
  ·rw [BD _ _ _ hj]; exact ⟨rfl, rfl⟩
  ·rw [e]; rfl
  ·rw [e]; rfl
 | false =>
  have e : FN a.w.c a.k = st0 a.w.c a.k := by unfold FN; rw [hq]; rfl
  refine ⟨h, rfl, (λ h => by cases h), λ _ => ⟨?_, ?_⟩⟩
  ·rw [e]; rfl
  ·rw [e]; rfl
theorem CSR : AN Try.prog Sw (C_stg.spec dDkI) := MB C_stg (λ _ => DOU) [] [] DAK (λ _ => by kernel_rfl) (λ _ => AD CGC AI) (λ a h => DTD a h) (λ _ => OS rfl rfl) _
def rowS (l : List Span) : AObj := .row 2 l.length λ i => CH (gD l i)
def C4SaO : Ctr := { ro := [100], α := MSa, xs := λ a => [.own 100 2 0 a.l.length, fvSa a.q], L := λ a => [(100, rowS a.l)], val := λ a => .bool (a.l.all DZ), keep := λ a => [(100, .live (rowS a.l))], pre := PSa }
def DOY : List AVal -> Heap -> Option (MSa × List (Nat × Nat) × List Nat)
 | [.own id _ _ _, .fn _ _ _], H => match H id with
  | .live (.row _ n g) => some (⟨default, AF n λ i => RS (g i)⟩, [(100, id)], [])
  | _ => none
 | _, _ => none
def C4SnO : Ctr := { ro := [100], α := MSn, xs := λ a => [.own 100 2 0 a.l.length, fvSn a.q], L := λ a => [(100, rowS a.l)], val := λ a => .bool (a.l.all DZ), keep := λ a => [(100, .live (rowS a.l))], pre := PSn }
def DMM : List AVal -> Heap -> Option (MSn × List (Nat × Nat) × List Nat)
 | [.own id _ _ _, .fn _ _ _], H => match H id with
  | .live (.row _ n g) => some (⟨default, AF n λ i => RS (g i)⟩, [(100, id)], [])
  | _ => none
 | _, _ => none
theorem DQQ : AN Try.prog n_eS (C4SaO.spec DOY) := okT C4SaO (λ (a : MSa) h => by
 have hf := DMF a h
 refine FnT.lend (fz := [100]) (xs := [.own 100 2 0 a.l.length, fvSa a.q]) (L := [(100, rowS a.l)]) hf rfl ?_ rfl ?_ _ ?_
 ·show [AVal.d (.list 2 a.l.length (λ j => CH (gD a.l (0 + j))) false), _] = _
  simp only [Nat.zero_add]; rfl
 ·show 0 + a.l.length <= a.l.length; omega
 ·exact ⟨rfl, trivial⟩) _
theorem DID : AN Try.prog n_eS (C4SnO.spec DMM) := okT C4SnO (λ (a : MSn) h => by
 have hf := DSP a h
 refine FnT.lend (fz := [100]) (xs := [.own 100 2 0 a.l.length, fvSn a.q]) (L := [(100, rowS a.l)]) hf rfl ?_ rfl ?_ _ ?_
 ·show [AVal.d (.list 2 a.l.length (λ j => CH (gD a.l (0 + j))) false), _] = _
  simp only [Nat.zero_add]; rfl
 ·show 0 + a.l.length <= a.l.length; omega
 ·exact ⟨rfl, trivial⟩) _
def BE (c : Cht) : List Span := AF c.ms.length λ i => FN c (i : Int)
def FG (c : Cht) : Bool := (BE c).all DZ
def Dh : List AVal -> Heap -> Option (Dk × List (Nat × Nat) × List Nat)
 | [.bptr id _], H => match rX H id with
  | some (w, q) => some (w, [(100, id), (101, q)], [])
  | none => none
 | _, _ => none
def C_all : Ctr := { ro := [100, 101], α := Dk, xs := λ _ => [.bptr 100 0], L := λ w => dkL w, val := λ w => .tup [.d (AT (BE w.c)), .bool (FG w.c)], keep := λ w => dkK w, pre := λ w => [1 <= w.c.ms.length /\ w.c.ms.length <= 40] }
def al3n (w : Dk) : Shape := { α := One, dflt := default, T := λ _ => ⟨[(0, .bptr 100 0), (4, .d FL), (11, .int w.c.ms.length), (12, .int 0)], dkK w⟩, inv := λ _ => True, meas := λ _ => 50 }
def al3o (w : Dk) : Shape := { α := Nat, dflt := 0, T := λ k => ⟨[(0, .bptr 100 0), (4, .own 202 2 0 k), (11, .int w.c.ms.length), (12, .int k)], dkK w ++ [(202, .live (.row 2 k λ i => CH (FN w.c (i : Int))))]⟩, inv := λ k => 1 <= k /\ k <= w.c.ms.length, meas := λ k => 40 - k, again := [(202, 6080)] }
def DOG (w : Dk) : Ann := { ann 25 [(Sw, C_stg.spec dDkI), (n_eS, orS (C4SaO.spec DOY) (C4Sa.spec d4Sa))] with E := [100, 101], mt := λ id => id == 5, loops := λ id => if id = 3 then some [al3n w, al3o w] else none }
def DPB (w : Dk) : Prop := BA Try.prog (DOG w) DEH (AL DEH) (C_all.xs w) (AG (C_all.L w)) (C_all.val w) (C_all.keep w) [] [202]
abbrev Pq : Prop := (0 : Nat) = (0 : Nat)
abbrev BKY (w : Dk) : Prop := (↑w.c.ms.length : Int) = (↑w.c.ms.length : Int)
abbrev Ci (w : Dk) : Prop := w.c.p.lo = w.c.p.lo
abbrev Al (w : Dk) : Prop := w.c.p.hi = w.c.p.hi
abbrev BMA (w : Dk) : Prop := w.c.ms.length = w.c.ms.length
abbrev BIZ (w : Dk) : Prop := ∀ (i : Nat), i < w.c.ms.length -> (gD w.c.ms i).pl = (gD w.c.ms i).pl /\ (gD w.c.ms i).ht = (gD w.c.ms i).ht
abbrev BIM (w : Dk) : Prop := w.c.ns.length = w.c.ns.length
abbrev BJE (w : Dk) : Prop := ∀ (i : Nat), i < w.c.ns.length -> (gD w.c.ns i).mi = (gD w.c.ns i).mi /\ (gD w.c.ns i).t.lo = (gD w.c.ns i).t.lo /\ (gD w.c.ns i).t.hi = (gD w.c.ns i).t.hi /\ (gD w.c.ns i).s.lo = (gD w.c.ns
 i).s.lo /\ (gD w.c.ns i).s.hi = (gD w.c.ns i).s.hi
abbrev ZY (w : Dk) : Prop := ∀ (i : Nat), i < (40 : Nat) -> w.sp i = w.sp i
abbrev BKW (w : Dk) : Prop := ∀ (n : Int), hasN w.c.ns n = hasN w.c.ns n
abbrev QP (w : Dk) : Prop := ∀ (n : Int), w.st n = w.st n
abbrev AIS (w : Dk) : Prop := ∀ (n : Int), (ntOf w.c.ns n).mi = (ntOf w.c.ns n).mi /\ (ntOf w.c.ns n).t.lo = (ntOf w.c.ns n).t.lo /\ (ntOf w.c.ns n).t.hi = (ntOf w.c.ns n).t.hi /\ (ntOf w.c.ns n).s.lo = (ntOf w.c.ns
 n).s.lo /\ (ntOf w.c.ns n).s.hi = (ntOf w.c.ns n).s.hi
abbrev AAX (w : Dk) : Prop := Ci w /\ Al w /\ w.c.base = w.c.base /\ w.c.scale = w.c.scale /\ w.c.off = w.c.off /\ BMA w /\ BIZ w /\ BIM w /\ BJE w /\ ZY w /\ AO = AO /\ BKW w /\ QP w
 /\ AIS w
abbrev AGY (w : Dk) : List Mk := AF w.c.ms.length λ (i : Nat) => gD w.c.ms i
abbrev Dq (w : Dk) : Nat := (AGY w).length
abbrev BOY (w : Dk) : Prop := Dq w = w.c.ms.length
abbrev BPO (w : Dk) (i : Nat) : Mk := gD (AGY w) i
abbrev BSY (w : Dk) (i : Nat) : Int := (BPO w i).pl
abbrev BSG (w : Dk) (i : Nat) : Int := (BPO w i).ht
abbrev BXX (w : Dk) : Prop := ∀ (i : Nat), i < Dq w -> BSY w i = (gD w.c.ms i).pl /\ BSG w i = (gD w.c.ms i).ht
abbrev Ie (w : Dk) : List Nt := AF w.c.ns.length λ (i : Nat) => gD w.c.ns i
abbrev AIN (w : Dk) : Nat := (Ie w).length
abbrev BXJ (w : Dk) : Prop := AIN w = w.c.ns.length
abbrev AEN (w : Dk) (i : Nat) : Nt := gD (Ie w) i
abbrev BZS (w : Dk) (i : Nat) : Int := (AEN w i).mi
abbrev BSE (w : Dk) (i : Nat) : Span := (AEN w i).t
abbrev BNI (w : Dk) (i : Nat) : Int := (BSE w i).lo
abbrev BQA (w : Dk) (i : Nat) : Int := (BSE w i).hi
abbrev BZH (w : Dk) (i : Nat) : Span := (AEN w i).s
abbrev BPN (w : Dk) (i : Nat) : Int := (BZH w i).lo
abbrev BQO (w : Dk) (i : Nat) : Int := (BZH w i).hi
abbrev BMI (w : Dk) : Prop := ∀ (i : Nat), i < AIN w -> BZS w i = (gD w.c.ns i).mi /\ BNI w i = (gD w.c.ns i).t.lo /\ BQA w i = (gD w.c.ns i).t.hi /\ BPN w i = (gD w.c.ns i).s.lo /\ BQO w i
 = (gD w.c.ns i).s.hi
abbrev BQU (w : Dk) (n : Int) : Bool := hasN (Ie w) n
abbrev BUW (w : Dk) : Prop := ∀ (n : Int), BQU w n = hasN w.c.ns n
abbrev ABV (w : Dk) (n : Int) : Nt := ntOf (Ie w) n
abbrev BTJ (w : Dk) (n : Int) : Int := (ABV w n).mi
abbrev BPC (w : Dk) (n : Int) : Span := (ABV w n).t
abbrev BMV (w : Dk) (n : Int) : Int := (BPC w n).lo
abbrev CAU (w : Dk) (n : Int) : Int := (BPC w n).hi
abbrev BWL (w : Dk) (n : Int) : Span := (ABV w n).s
abbrev BTO (w : Dk) (n : Int) : Int := (BWL w n).lo
abbrev BNX (w : Dk) (n : Int) : Int := (BWL w n).hi
abbrev BTA (w : Dk) : Prop := ∀ (n : Int), BTJ w n = (ntOf w.c.ns n).mi /\ BMV w n = (ntOf w.c.ns n).t.lo /\ CAU w n = (ntOf w.c.ns n).t.hi /\ BTO w n = (ntOf w.c.ns n).s.lo /\ BNX w n = (ntOf
 w.c.ns n).s.hi
abbrev BWP (w : Dk) : Prop := w.c.ms.length = Dq w
abbrev CBB (w : Dk) : Prop := ∀ (i : Nat), i < w.c.ms.length -> (gD w.c.ms i).pl = BSY w i /\ (gD w.c.ms i).ht = BSG w i
abbrev BRP (w : Dk) : Prop := w.c.ns.length = AIN w
abbrev BSX (w : Dk) : Prop := ∀ (i : Nat), i < w.c.ns.length -> (gD w.c.ns i).mi = BZS w i /\ (gD w.c.ns i).t.lo = BNI w i /\ (gD w.c.ns i).t.hi = BQA w i /\ (gD w.c.ns i).s.lo = BPN w i /\ (gD w.c.ns
 i).s.hi = BQO w i
abbrev BQH (w : Dk) : Prop := ∀ (n : Int), hasN w.c.ns n = BQU w n
abbrev BXH (w : Dk) : Prop := ∀ (n : Int), (ntOf w.c.ns n).mi = BTJ w n /\ (ntOf w.c.ns n).t.lo = BMV w n /\ (ntOf w.c.ns n).t.hi = CAU w n /\ (ntOf w.c.ns n).s.lo = BTO w n /\ (ntOf w.c.ns n).s.hi =
 BNX w n
abbrev AEK : Prop := (0 : Nat) < (1 : Nat)
abbrev BTP : Prop := (2 : Nat) = (2 : Nat)
abbrev CBS : Prop := (1 : Nat) <= (1 : Nat) /\ (AEK -> BTP)
abbrev BYS (w : Dk) : Cht := Cht.mk w.c.p w.c.base w.c.scale w.c.off (AGY w) (Ie w)
abbrev BYZ (w : Dk) : Span := FN (BYS w) (0 : Int)
abbrev ADY (a : Nat) (w : Dk) : Prop := (1 : Nat) <= a /\ a <= w.c.ms.length
abbrev AER (a : Nat) : Nat := (40 : Nat) - a
abbrev BQL (w : Dk) : Prop := (BE w.c).length = (0 : Nat)
abbrev ACA (a : Nat) : Nat := a + (1 : Nat)
abbrev BYP (a : Nat) (a1 : Nat) : Prop := a = ACA a1
abbrev BTV (w : Dk) (a : Nat) : Span := FN (BYS w) (↑a : Int)
abbrev AAO (a : Nat) (w : Dk) : List Span := AF a λ (i : Nat) => FN w.c (↑i : Int)
abbrev Wu (a : Nat) (w : Dk) : Nat := (AAO a w).length
abbrev BQD (a : Nat) (w : Dk) : Prop := Wu a w = a
abbrev BUN (a : Nat) (w : Dk) (i : Nat) : Span := gD (AAO a w) i
abbrev BRX (a : Nat) (w : Dk) (i : Nat) : Int := (BUN a w i).lo
abbrev BUB (a : Nat) (w : Dk) (i : Nat) : Int := (BUN a w i).hi
abbrev CBP (a : Nat) : Nat := (0 : Nat) + a
abbrev BOU (w : Dk) (j : Nat) : Span := FN w.c (↑(CBP j) : Int)
theorem DQD (w : Dk) : (DPB w) = ((∃ (a : One), (Pq /\ (∀ (i : Nat), i < (0 : Nat) -> false = false) /\ BKY w /\ Int.ofNat (0 : Nat) = Int.ofNat (0 : Nat) /\ AAX w) /\ True) /\ (∀ (a : One), True -> bif decide
 ((0 : Int) < (↑w.c.ms.length : Int)) then ((0 : Int) = Int.ofNat (0 : Nat) /\ Ci w /\ Al w /\ w.c.base = w.c.base /\ w.c.scale = w.c.scale /\ w.c.off = w.c.off /\ BOY w /\ BXX w /\ BXJ w /\ BMI w /\
 ZY w /\ AO = AO /\ BUW w /\ QP w /\ BTA w /\ Ci w /\ Al w /\ w.c.base = w.c.base /\ w.c.scale = w.c.scale /\ w.c.off = w.c.off /\ BWP w /\ CBB w /\ BRP w /\ BSX w /\ ZY w /\ AO
 = AO /\ BQH w /\ QP w /\ BXH w /\ ((0 : Int) <= (0 : Int) /\ (0 : Int) < (↑(Dq w) : Int)) /\ (True /\ ((0 : Nat) < (0 : Nat) -> (0 : Nat) = (2 : Nat))) /\ CBS /\ (true = true -> AEK) /\ (1 : Nat) <=
 (9223372036854775807 : Nat) /\ (16 : Nat) <= (140737488355328 : Nat)) /\ ∃ (a : Nat), (Pq /\ a = (1 : Nat) /\ BKY w /\ (↑a : Int) = IntKind.i64.wrap ((0 : Int) + (1 : Int)) /\ Ci w /\ Al w /\ w.c.base =
 w.c.base /\ w.c.scale = w.c.scale /\ w.c.off = w.c.off /\ BMA w /\ BIZ w /\ BIM w /\ BJE w /\ ZY w /\ AO = AO /\ BKW w /\ QP w /\ AIS w /\ a = (1 : Nat) /\ ∀ (i : Nat), i < a -> (FN w.c (↑i :
 Int)).lo = (BYZ w).lo /\ (FN w.c (↑i : Int)).hi = (BYZ w).hi) /\ ADY a w /\ AER a < (50 : Nat) else (Pq /\ Pq /\ (0 : Nat) < (4611686018427387904 : Nat) /\ True) /\ BQL w /\ BQL w /\
 FG w.c = true /\ AAX w) /\ ∀ (a : Nat), ADY a w -> bif decide ((↑a : Int) < (↑w.c.ms.length : Int)) then ((↑a : Int) = (↑a : Int) /\ Ci w /\ Al w /\ w.c.base = w.c.base /\ w.c.scale = w.c.scale /\ w.c.off
 = w.c.off /\ BOY w /\ BXX w /\ BXJ w /\ BMI w /\ ZY w /\ AO = AO /\ BUW w /\ QP w /\ BTA w /\ Ci w /\ Al w /\ w.c.base = w.c.base /\ w.c.scale = w.c.scale /\ w.c.off = w.c.off /\
 BWP w /\ CBB w /\ BRP w /\ BSX w /\ ZY w /\ AO = AO /\ BQH w /\ QP w /\ BXH w /\ ((0 : Int) <= (↑a : Int) /\ (↑a : Int) < (↑(Dq w) : Int)) /\ (a = a /\ ((0 : Nat) < a -> BTP)) /\
 CBS /\ (false = true -> AEK) /\ ACA a <= (9223372036854775807 : Nat) /\ ACA a * (16 : Nat) <= (140737488355328 : Nat)) /\ ∃ (a_2 : Nat), (Pq /\ BYP a_2 a /\ BKY w /\ (↑a_2 : Int) =
 IntKind.i64.wrap ((↑a : Int) + (1 : Int)) /\ Ci w /\ Al w /\ w.c.base = w.c.base /\ w.c.scale = w.c.scale /\ w.c.off = w.c.off /\ BMA w /\ BIZ w /\ BIM w /\ BJE w /\ ZY w /\ AO = AO /\ BKW w /\
 QP w /\ AIS w /\ BYP a_2 a /\ ∀ (i : Nat), i < a_2 -> ((FN w.c (↑i : Int)).lo = bif decide (i < a) then (FN w.c (↑i : Int)).lo else (BTV w a).lo) /\ (FN w.c (↑i : Int)).hi = bif decide (i < a) then
 (FN w.c (↑i : Int)).hi else (BTV w a).hi) /\ ADY a_2 w /\ AER a_2 < AER a else (Pq /\ BQD a w /\ BQD a w /\ (∀ (i : Nat), i < Wu a w -> BRX a w i = (FN w.c (↑i : Int)).lo /\
 BUB a w i = (FN w.c (↑i : Int)).hi) /\ a = Wu a w /\ (∀ (i : Nat), i < a -> (FN w.c (↑i : Int)).lo = BRX a w i /\ (FN w.c (↑i : Int)).hi = BUB a w i) /\ Wu a w < (4611686018427387904 : Nat) /\
 True) /\ (BE w.c).length = a /\ CBP a <= a /\ (∀ (j : Nat), j < (BE w.c).length -> (gD (BE w.c) j).lo = (BOU w j).lo /\ (gD (BE w.c) j).hi = (BOU w j).hi) /\ FG w.c = (AAO a w).all DZ /\ AAX
 w) := by kernel_rfl
theorem DUU (w : Dk) (h : 1 <= w.c.ms.length /\ w.c.ms.length <= 40) : DPB w := by
 obtain ⟨h1, h2⟩ := h
 rw [DQD]; delta Pq BKY Ci Al BMA BIZ BIM BJE ZY BKW QP AIS AAX AGY Dq BOY BPO BSY BSG BXX Ie AIN BXJ AEN BZS BSE BNI BQA BZH BPN BQO BMI BQU BUW ABV BTJ BPC BMV CAU BWL BTO BNX BTA BWP CBB BRP BSX BQH BXH AEK BTP CBS BYS BYZ ADY AER BQL ACA BYP BTV AAO Wu BQD BUN BRX BUB CBP BOU; simp only [AU, eq_self, implies_true, and_self, true_and, and_true, true_implies, forall_const, decide_eq_true_eq, decide_eq_false_iff_not, Int.toNat_natCast, dSpan_eSpan, dInt_eInt, AY, AW, AX, Nat.zero_add, Int.zero_sub, Nat.le_eq, Nat.succ_eq_add_one, Nat.add_one_le_iff, Bool.not_eq_true', Bool.not_eq_false', rng_length, AK, AJ, BI]
 refine ⟨⟨default, trivial⟩, ⟨λ h0 => ⟨⟨rfl, by omega, by omega, by omega, by omega, by omega, by omega⟩, 1, ⟨rfl, rfl, rfl, λ i hi => ?_⟩, by omega, by omega⟩, λ h0 => absurd h0 (by omega)⟩, λ k hk => ⟨λ hlt => ⟨⟨by omega, by omega, (λ h => by cases h), by omega, by omega⟩, k + 1, ⟨rfl, (FM (by omega)).symm, rfl, λ i hi => ?_⟩, by omega, by omega⟩, λ hge => ?_⟩⟩
 ·obtain rfl : i = 0 := by omega
  exact ⟨rfl, rfl⟩
 ·by_cases h : i < k
  ·simp [h]
  ·obtain rfl : i = k := by omega
   simp
 ·obtain rfl : k = w.c.ms.length := by omega
  refine ⟨⟨λ i hi => ?_, λ i hi => ?_, by omega⟩, rng_length _ _, by omega, λ j hj => ?_, rfl⟩
  ·rw [BD _ _ _ hi]; exact ⟨rfl, rfl⟩
  ·rw [BD _ _ _ hi]; exact ⟨rfl, rfl⟩
  ·have hj : j < w.c.ms.length := by simpa [BE] using hj
   unfold BE; rw [BD _ _ _ hj]; exact ⟨rfl, rfl⟩
theorem BRU : AN Try.prog CEG (C_all.spec Dh) := MB C_all DOG [] [202] DRI (λ _ => by kernel_rfl) (λ _ => AD CSR (AD (DEZ DQQ DUS) AI)) (λ w h => DUU w h) (λ _ => OS rfl rfl) _
def nilS : List Span := []
def JR (c : Cht) : List Span × Int := bif AM c == 0 then bif FG c then (BE c, 0) else ([], 6) else ([], AM c)
def C_Stages : Ctr := { α := Cht, xs := λ c => [.d (XK c)], val := λ c => .tup [.d (AT (JR c).1), .int (JR c).2], keep := λ _ => [], pre := λ c => [c.ms.length < 4611686018427387904 /\ c.ns.length < 4611686018427387904] }
def CRP : Ann := ann 24 [(HW, C_open.spec dC1), (CEG, C_all.spec Dh)]
def CDT : Ann := ann 24 [(HW, C_openX.spec dC1)]
def CPV (c : Cht) : Prop := BA Try.prog CRP Tv (AL Tv) (C_Stages.xs c) (AG []) (.tup [.d (AT (bif FG c then BE c else [])), .int (bif FG c then 0 else 6)]) [] [] []
abbrev Nf (c : Cht) : List Mk := AF c.ms.length λ (i : Nat) => gD c.ms i
abbrev Ki (c : Cht) : Nat := (Nf c).length
abbrev zX (c : Cht) (i : Nat) : Mk := gD (Nf c) i
abbrev Ox (c : Cht) : List Nt := AF c.ns.length λ (i : Nat) => gD c.ns i
abbrev Ny (c : Cht) : Nat := (Ox c).length
abbrev Ns (c : Cht) (i : Nat) : Nt := gD (Ox c) i
abbrev Y0 (c : Cht) (i : Nat) : Span := (Ns c i).t
abbrev Q5 (c : Cht) (i : Nat) : Span := (Ns c i).s
abbrev D7 (c : Cht) : Cht := Cht.mk c.p c.base c.scale c.off (Nf c) (Ox c)
abbrev zN (c : Cht) : Dk := AH (D7 c)
abbrev IN (c : Cht) : Cht := (zN c).c
abbrev Bh (c : Cht) : Span := (IN c).p
abbrev aB (c : Cht) : Int := (Bh c).lo
abbrev cD (c : Cht) : Prop := aB c = aB c
abbrev eL (c : Cht) : Int := (Bh c).hi
abbrev Um (c : Cht) : Prop := eL c = eL c
abbrev Bf (c : Cht) : Int := (IN c).base
abbrev Yp (c : Cht) : Prop := Bf c = Bf c
abbrev ZE (c : Cht) : Int := (IN c).scale
abbrev cP (c : Cht) : Prop := ZE c = ZE c
abbrev Ag (c : Cht) : Int := (IN c).off
abbrev cC (c : Cht) : Prop := Ag c = Ag c
abbrev Xq (c : Cht) : List Mk := (IN c).ms
abbrev QF (c : Cht) : Nat := (Xq c).length
abbrev Bu (c : Cht) (i : Nat) : Mk := gD (Xq c) i
abbrev Ad (c : Cht) : List Mk := AF (QF c) λ (i : Nat) => Bu c i
abbrev LE (c : Cht) : Nat := (Ad c).length
abbrev Uf (c : Cht) (i : Nat) : Mk := gD (Ad c) i
abbrev Va (c : Cht) (i : Nat) : Int := (Uf c i).pl
abbrev Zm (c : Cht) (i : Nat) : Int := (Bu c i).pl
abbrev Rz (c : Cht) (i : Nat) : Int := (Uf c i).ht
abbrev Yw (c : Cht) (i : Nat) : Int := (Bu c i).ht
abbrev QU (c : Cht) : List Nt := (IN c).ns
abbrev QI (c : Cht) : Nat := (QU c).length
abbrev PX (c : Cht) (i : Nat) : Nt := gD (QU c) i
abbrev LP (c : Cht) : List Nt := AF (QI c) λ (i : Nat) => PX c i
abbrev Ax (c : Cht) : Nat := (LP c).length
abbrev Bz (c : Cht) (i : Nat) : Nt := gD (LP c) i
abbrev Yo (c : Cht) (i : Nat) : Int := (Bz c i).mi
abbrev St (c : Cht) (i : Nat) : Int := (PX c i).mi
abbrev Zn (c : Cht) (i : Nat) : Span := (Bz c i).t
abbrev Yh (c : Cht) (i : Nat) : Int := (Zn c i).lo
abbrev bZ (c : Cht) (i : Nat) : Span := (PX c i).t
abbrev aE (c : Cht) (i : Nat) : Int := (bZ c i).lo
abbrev aO (c : Cht) (i : Nat) : Int := (Zn c i).hi
abbrev Xz (c : Cht) (i : Nat) : Int := (bZ c i).hi
abbrev Wo (c : Cht) (i : Nat) : Span := (Bz c i).s
abbrev Vb (c : Cht) (i : Nat) : Int := (Wo c i).lo
abbrev Zc (c : Cht) (i : Nat) : Span := (PX c i).s
abbrev Sf (c : Cht) (i : Nat) : Int := (Zc c i).lo
abbrev Wl (c : Cht) (i : Nat) : Int := (Wo c i).hi
abbrev Vi (c : Cht) (i : Nat) : Int := (Zc c i).hi
abbrev Ut : Prop := ∀ (i : Nat), i < 40 -> false = false
abbrev Ve (c : Cht) (n : Int) : Bool := hasN (LP c) n
abbrev Rn (c : Cht) (n : Int) : Bool := hasN (QU c) n
abbrev Zi (c : Cht) (n : Int) : Int := (zN c).st n
abbrev Yi (c : Cht) : Prop := ∀ (n : Int), Zi c n = Zi c n
abbrev ZT (c : Cht) (n : Int) : Nt := ntOf (LP c) n
abbrev dN (c : Cht) (n : Int) : Int := (ZT c n).mi
abbrev Bw (c : Cht) (n : Int) : Nt := ntOf (QU c) n
abbrev Sq (c : Cht) (n : Int) : Int := (Bw c n).mi
abbrev Zu (c : Cht) (n : Int) : Span := (ZT c n).t
abbrev Sc (c : Cht) (n : Int) : Int := (Zu c n).lo
abbrev aV (c : Cht) (n : Int) : Span := (Bw c n).t
abbrev Zg (c : Cht) (n : Int) : Int := (aV c n).lo
abbrev Vm (c : Cht) (n : Int) : Int := (Zu c n).hi
abbrev Zk (c : Cht) (n : Int) : Int := (aV c n).hi
abbrev Sp (c : Cht) (n : Int) : Span := (ZT c n).s
abbrev Sx (c : Cht) (n : Int) : Int := (Sp c n).lo
abbrev dS (c : Cht) (n : Int) : Span := (Bw c n).s
abbrev Zo (c : Cht) (n : Int) : Int := (dS c n).lo
abbrev cJ (c : Cht) (n : Int) : Int := (Sp c n).hi
abbrev Ur (c : Cht) (n : Int) : Int := (dS c n).hi
abbrev Yu (c : Cht) : Cht := Cht.mk (Bh c) (Bf c) (ZE c) (Ag c) (Ad c) (LP c)
abbrev ZJ (c : Cht) : Nat := (bif FG c then BE c else []).length
abbrev Qw (c : Cht) : Prop := ZJ c = 0
abbrev cF (c : Cht) : Int := bif FG c then 0 else 6
abbrev Wc (c : Cht) : List Span := BE (Yu c)
abbrev Sb (c : Cht) (i : Nat) : Span := gD (bif FG c then BE c else []) i
abbrev So (c : Cht) (i : Nat) : Span := gD (Wc c) i
theorem DAN (c : Cht) : (CPV c) = ((c.p.lo = c.p.lo /\ c.p.hi = c.p.hi /\ c.base = c.base /\ c.scale = c.scale /\ c.off = c.off /\ Ki c = c.ms.length /\ (∀ (i : Nat), i < Ki c -> (zX c i).pl =
 (gD c.ms i).pl /\ (zX c i).ht = (gD c.ms i).ht) /\ Ny c = c.ns.length /\ (∀ (i : Nat), i < Ny c -> (Ns c i).mi = (gD c.ns i).mi /\ (Y0 c i).lo = (gD c.ns i).t.lo /\ (Y0 c i).hi =
 (gD c.ns i).t.hi /\ (Q5 c i).lo = (gD c.ns i).s.lo /\ (Q5 c i).hi = (gD c.ns i).s.hi) /\ (Ki c < 4611686018427387904 /\ Ny c < 4611686018427387904) /\ AM (D7 c) = 0) /\ (cD
 c /\ Um c /\ Yp c /\ cP c /\ cC c /\ LE c = QF c /\ (∀ (i : Nat), i < LE c -> Va c i = Zm c i /\ Rz c i = Yw c i) /\ Ax c
 = QI c /\ (∀ (i : Nat), i < Ax c -> Yo c i = St c i /\ Yh c i = aE c i /\ aO c i = Xz c i /\ Vb c i = Sf c i /\ Wl c i =
 Vi c i) /\ Ut /\ AO = AO /\ (∀ (n : Int), Ve c n = Rn c n) /\ Yi c /\ (∀ (n : Int), dN c n = Sq c n /\ Sc c n = Zg c n /\ Vm c n =
 Zk c n /\ Sx c n = Zo c n /\ cJ c n = Ur c n) /\ cD c /\ Um c /\ Yp c /\ cP c /\ cC c /\ QF c = LE c /\ (∀ (i : Nat), i <
 QF c -> Zm c i = Va c i /\ Yw c i = Rz c i) /\ QI c = Ax c /\ (∀ (i : Nat), i < QI c -> St c i = Yo c i /\ aE c i = Yh
 c i /\ Xz c i = aO c i /\ Sf c i = Vb c i /\ Vi c i = Wl c i) /\ Ut /\ AO = AO /\ (∀ (n : Int), Rn c n = Ve c n) /\ Yi c /\ (∀ (n :
 Int), Sq c n = dN c n /\ Zg c n = Sc c n /\ Zk c n = Vm c n /\ Zo c n = Sx c n /\ Ur c n = cJ c n) /\ 1 <= LE c /\ LE c
 <= 40) /\ bif !FG (Yu c) then Qw c /\ Qw c /\ cF c = 6 else ZJ c = (Wc c).length /\ (∀ (i : Nat), i < ZJ c -> (Sb c i).lo = (So c i).lo /\
 (Sb c i).hi = (So c i).hi) /\ cF c = 0) := by kernel_rfl
def CDL (c : Cht) : Prop := BA Try.prog CDT Tv (AL Tv) (C_Stages.xs c) (AG []) (.tup [.d (AT nilS), .int (AM c)]) [] [] []
theorem CTR (c : Cht) : (CDL c) = ((c.p.lo = c.p.lo /\ c.p.hi = c.p.hi /\ c.base = c.base /\ c.scale = c.scale /\ c.off = c.off /\ (AF c.ms.length λ (i : Nat) => gD c.ms i).length = c.ms.length /\ (∀ (i : Nat),
 i < (AF c.ms.length λ (i : Nat) => gD c.ms i).length -> (gD (AF c.ms.length λ (i : Nat) => gD c.ms i) i).pl = (gD c.ms i).pl /\ (gD (AF c.ms.length λ (i : Nat) => gD c.ms i) i).ht = (gD c.ms i).ht) /\ (AF
 c.ns.length λ (i : Nat) => gD c.ns i).length = c.ns.length /\ (∀ (i : Nat), i < (AF c.ns.length λ (i : Nat) => gD c.ns i).length -> (gD (AF c.ns.length λ (i : Nat) => gD c.ns i) i).mi = (gD c.ns i).mi /\ (gD (AF
 c.ns.length λ (i : Nat) => gD c.ns i) i).t.lo = (gD c.ns i).t.lo /\ (gD (AF c.ns.length λ (i : Nat) => gD c.ns i) i).t.hi = (gD c.ns i).t.hi /\ (gD (AF c.ns.length λ (i : Nat) => gD c.ns i) i).s.lo = (gD c.ns
 i).s.lo /\ (gD (AF c.ns.length λ (i : Nat) => gD c.ns i) i).s.hi = (gD c.ns i).s.hi) /\ ((AF c.ms.length λ (i : Nat) => gD c.ms i).length < 4611686018427387904 /\ (AF c.ns.length λ (i : Nat) => gD c.ns i).length <
 4611686018427387904) /\ AM (Cht.mk c.p c.base c.scale c.off (AF c.ms.length λ (i : Nat) => gD c.ms i) (AF c.ns.length λ (i : Nat) => gD c.ns i)) ≠ 0) /\ bif AM (Cht.mk c.p c.base c.scale c.off (AF
 c.ms.length λ (i : Nat) => gD c.ms i) (AF c.ns.length λ (i : Nat) => gD c.ns i)) != 0 then 0 = 0 /\ 0 = 0 /\ AM c = AM (Cht.mk c.p c.base c.scale c.off (AF c.ms.length λ (i : Nat) => gD c.ms i) (AF
 c.ns.length λ (i : Nat) => gD c.ns i)) else False) := by kernel_rfl
theorem CRS : AN Try.prog AGL (C_Stages.spec dC1) := okT C_Stages (λ (c : Cht) h => by
 obtain ⟨hm, hn⟩ : c.ms.length < 4611686018427387904 /\ c.ns.length < 4611686018427387904 := h
 by_cases h0 : AM c = 0
 ·have e : C_Stages.val c = .tup [.d (AT (bif FG c then BE c else [])), .int (bif FG c then 0 else 6)] := by
   show AVal.tup [.d (AT (JR c).1), .int (JR c).2] = _
   unfold JR; rw [h0]; cases FG c <;> rfl
  have hl := DG h0
  rw [e]
  refine PJ (A := CRP) (L := []) (keep := []) (ren := []) (fz := []) CEI (by kernel_rfl) (AD AHN (AD BRU AI)) ?_
  show CPV c; rw [DAN]; delta Nf Ki zX Ox Ny Ns Y0 Q5 D7 zN IN Bh aB cD eL Um Bf Yp ZE cP Ag cC Xq QF Bu Ad LE Uf Va Zm Rz Yw QU QI PX LP Ax Bz Yo St Zn Yh bZ aE aO Xz Wo Vb Zc Sf Wl Vi Ut Ve Rn Zi Yi ZT dN Bw Sq Zu Sc aV Zg Vm Zk Sp Sx dS Zo cJ Ur Yu ZJ Qw cF Wc Sb So; simp only [AU, eq_self, implies_true, and_self, true_and, and_true, true_implies, forall_const, decide_eq_true_eq, decide_eq_false_iff_not, Int.toNat_natCast, dSpan_eSpan, dInt_eInt, AY, AW, AX, Nat.zero_add, Int.zero_sub, Nat.le_eq, Nat.succ_eq_add_one, Nat.add_one_le_iff, Bool.not_eq_true', Bool.not_eq_false', rng_length, AK, AJ, BI, BBK]
  refine ⟨⟨⟨hm, hn⟩, h0⟩, by omega, λ h => ?_, λ h => ?_⟩
  ·rw [h]; exact ⟨rfl, rfl, rfl⟩
  ·rw [h]; exact ⟨rfl, λ _ _ => ⟨rfl, rfl⟩, rfl⟩
 ·have h0' : (AM c == 0) = false := by simpa using h0
  have e : C_Stages.val c = .tup [.d (AT []), .int (AM c)] := by
   show AVal.tup [.d (AT (JR c).1), .int (JR c).2] = _
   unfold JR; rw [h0']; rfl
  rw [e]
  refine PJ (A := CDT) (L := []) (keep := []) (ren := []) (fz := []) CEI (by kernel_rfl) (AD AEM AI) ?_
  show CDL c; rw [CTR]; simp only [AU, eq_self, implies_true, and_self, true_and, and_true, true_implies, forall_const, decide_eq_true_eq, decide_eq_false_iff_not, Int.toNat_natCast, dSpan_eSpan, dInt_eInt, AY, AW, AX, Nat.zero_add, Int.zero_sub, Nat.le_eq, Nat.succ_eq_add_one, Nat.add_one_le_iff, Bool.not_eq_true', Bool.not_eq_false', rng_length, AK, AJ, BI]
  simp [hm, hn, h0, nilS]) _
end Go.Bal
