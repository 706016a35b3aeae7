/- Package chart: stages. -/
import Derived.Test.YtdbjalgfomknhaaChB
import Derived.Test.YtdbjalgfomknhaaSym11
set_option linter.unusedVariables false
set_option linter.unusedSimpArgs false
namespace Go.Bal
open Go Go.Sym Go.Proofs
def atM (c : Cht) (k : Int) : Int := wr (c.base + wr (c.scale * (gD c.ms k.toNat).ht))
def st0 (c : Cht) (k : Int) : Span := ⟨wr (atM c k - c.off), wr (atM c k + c.off)⟩
def HD (c : Cht) (k : Int) : Span := bif hasN c.ns k then oI (st0 c k) (ntOf c.ns k).s else st0 c k
structure DkI where
 w : Dk
 k : Int
def dDkI : List AVal -> Heap -> Option (DkI × List (Nat × Nat) × List Nat)
 | [.bptr id _, .d k], H => match rT H id with
  | some (w, q) => some (⟨w, CD k⟩, [(100, id), (101, q)], [])
  | none => none
 | _, _ => none
def C_stg : Ctr := { ro := [100, 101], α := DkI, xs := λ a => [.bptr 100 0, .int a.k], L := λ a => dkL a.w, val := λ a => .d (CE (HD a.w.c a.k)), keep := λ a => dkK a.w, pre := λ a => [0 <= a.k /\ a.k < a.w.c.ms.length] }
def DMV : Ann := { ann 61 [(ABN, C_com.spec DFI)] with E := [100, 101] }
def DMA (a : DkI) : Prop := AZ Try.prog DMV BUI (AN BUI) (C_stg.xs a) (AF (C_stg.L a)) (C_stg.val a) (C_stg.keep a) [] []
abbrev CKW (a : DkI) : Int := IntKind.i64.wrap (a.w.c.base + IntKind.i64.wrap (a.w.c.scale * (gD a.w.c.ms a.k.toNat).ht))
abbrev AEB (a : DkI) : Int := IntKind.i64.wrap (CKW a - a.w.c.off)
abbrev S9 (a : DkI) : Int := IntKind.i64.wrap (CKW a + a.w.c.off)
abbrev BIE (a : DkI) : List Span := AE 1 λ (i : Nat) => (ntOf a.w.c.ns a.k).s
abbrev CLL (a : DkI) : Nat := (BIE a).length
abbrev CKJ (a : DkI) (j : Nat) : Span := gD (BIE a) j
abbrev CFB (a : DkI) : Span := comM (SL.mk (Span.mk (AEB a) (S9 a)) (BIE a))
abbrev CFH (a : DkI) (i : Nat) : Int := (gD a.w.c.ns i).t.lo
abbrev CDH (a : DkI) (i : Nat) : Int := (gD a.w.c.ns i).t.hi
abbrev CIH (a : DkI) (i : Nat) : Int := (gD a.w.c.ns i).s.lo
abbrev BYY (a : DkI) (i : Nat) : Int := (gD a.w.c.ns i).s.hi
abbrev BWU (a : DkI) : Prop := a.w.c.p.lo = a.w.c.p.lo /\ a.w.c.p.hi = a.w.c.p.hi /\ a.w.c.base = a.w.c.base /\ a.w.c.scale = a.w.c.scale /\ a.w.c.off = a.w.c.off /\ a.w.c.ms.length = a.w.c.ms.length /\ (∀ (i : Nat), i <
 a.w.c.ms.length -> (gD a.w.c.ms i).pl = (gD a.w.c.ms i).pl /\ (gD a.w.c.ms i).ht = (gD a.w.c.ms i).ht) /\ a.w.c.ns.length = a.w.c.ns.length /\ (∀ (i : Nat), i < a.w.c.ns.length -> (gD a.w.c.ns i).mi = (gD a.w.c.ns i).mi /\
 CFH a i = CFH a i /\ CDH a i = CDH a i /\ CIH a i = CIH a i /\ BYY a i = BYY a i) /\ (∀ (i : Nat), i < 40 -> a.w.sp i = a.w.sp i) /\ AU = AU /\ (∀ (n : Int), hasN a.w.c.ns n = hasN a.w.c.ns
 n) /\ (∀ (n : Int), a.w.st n = a.w.st n) /\ ∀ (n : Int), (ntOf a.w.c.ns n).mi = (ntOf a.w.c.ns n).mi /\ (ntOf a.w.c.ns n).t.lo = (ntOf a.w.c.ns n).t.lo /\ (ntOf a.w.c.ns n).t.hi = (ntOf a.w.c.ns n).t.hi /\ (ntOf a.w.c.ns
 n).s.lo = (ntOf a.w.c.ns n).s.lo /\ (ntOf a.w.c.ns n).s.hi = (ntOf a.w.c.ns n).s.hi
theorem DPS (a : DkI) : (DMA a) = ((0 <= a.k /\ a.k < (↑a.w.c.ms.length : Int)) /\ Value.agg #[Value.int IntKind.i64 0, Value.int IntKind.i64 0, Value.int IntKind.i64 0, Value.int IntKind.i64 0, Value.int IntKind.i64
 0] = AU /\ bif hasN a.w.c.ns a.k then (AEB a = AEB a /\ S9 a = S9 a /\ CLL a = 1 /\ 1 <= 1 /\ (∀ (j : Nat), j < CLL a -> (CKJ a j).lo = (ntOf a.w.c.ns a.k).s.lo /\ (CKJ a j).hi = (ntOf a.w.c.ns
 a.k).s.hi) /\ true = true) /\ (HD a.w.c a.k).lo = (CFB a).lo /\ (HD a.w.c a.k).hi = (CFB a).hi /\ BWU a else (HD a.w.c a.k).lo = AEB a /\ (HD a.w.c a.k).hi = S9 a /\ BWU a) := by kernel_rfl
theorem DQS (a : DkI) (h : 0 <= a.k /\ a.k < a.w.c.ms.length) : DMA a := by
 rw [DPS]; delta CKW AEB S9 BIE CLL CKJ CFB CFH CDH CIH BYY BWU; simp only [CC, eq_self, implies_true, forall_const]
 cases hq : hasN a.w.c.ns a.k with
 | true =>
  have e : HD a.w.c a.k = oI (st0 a.w.c a.k) (ntOf a.w.c.ns a.k).s := by unfold HD; rw [hq]; rfl
  refine ⟨h, rfl, λ _ => ⟨⟨by omega, λ j hj => ?_⟩, ?_, ?_⟩, λ h => by cases h⟩
  ·rw [CB _ _ _ hj]; exact ⟨rfl, rfl⟩
  ·rw [e]; rfl
  ·rw [e]; rfl
 | false =>
  have e : HD a.w.c a.k = st0 a.w.c a.k := by unfold HD; rw [hq]; rfl
  refine ⟨h, rfl, (λ h => by cases h), λ _ => ⟨?_, ?_⟩⟩
  ·rw [e]; rfl
  ·rw [e]; rfl
theorem DOI : AP Try.prog BOH (C_stg.spec dDkI) := MC C_stg (λ _ => DMV) [] [] CXP (λ _ => by kernel_rfl) (λ _ => AD DCY AK) (λ a h => DQS a h) (λ _ => MO rfl rfl) _
def rowS (l : List Span) : AObj := .row 2 l.length λ i => CE (gD l i)
def C4SaO : Ctr := { ro := [100], α := MSa, xs := λ a => [.own 100 2 0 a.l.length, fvSa a.q], L := λ a => [(100, rowS a.l)], val := λ a => .bool (a.l.all KC), keep := λ a => [(100, .live (rowS a.l))], pre := PSa }
def DLY : List AVal -> Heap -> Option (MSa × List (Nat × Nat) × List Nat)
 | [.own id _ _ _, .fn _ _ _], H => match H id with
  | .live (.row _ n g) => some (⟨default, AE n λ i => MR (g i)⟩, [(100, id)], [])
  | _ => none
 | _, _ => none
def C4SnO : Ctr := { ro := [100], α := MSn, xs := λ a => [.own 100 2 0 a.l.length, fvSn a.q], L := λ a => [(100, rowS a.l)], val := λ a => .bool (a.l.all KC), keep := λ a => [(100, .live (rowS a.l))], pre := PSn }
def DLP : List AVal -> Heap -> Option (MSn × List (Nat × Nat) × List Nat)
 | [.own id _ _ _, .fn _ _ _], H => match H id with
  | .live (.row _ n g) => some (⟨default, AE n λ i => MR (g i)⟩, [(100, id)], [])
  | _ => none
 | _, _ => none
theorem DNW : AP Try.prog n_eS (C4SaO.spec DLY) := okT C4SaO (λ (a : MSa) h => by
 have hf := DLO a h
 refine FnT.lend (fz := [100]) (xs := [.own 100 2 0 a.l.length, fvSa a.q]) (L := [(100, rowS a.l)]) hf rfl ?_ rfl ?_ _ ?_
 ·show [AVal.d (.list 2 a.l.length (λ j => CE (gD a.l (0 + j))) false), _] = _
  simp only [Nat.zero_add]; rfl
 ·show 0 + a.l.length <= a.l.length; omega
 ·exact ⟨rfl, trivial⟩) _
theorem DPV : AP Try.prog n_eS (C4SnO.spec DLP) := okT C4SnO (λ (a : MSn) h => by
 have hf := DSI a h
 refine FnT.lend (fz := [100]) (xs := [.own 100 2 0 a.l.length, fvSn a.q]) (L := [(100, rowS a.l)]) hf rfl ?_ rfl ?_ _ ?_
 ·show [AVal.d (.list 2 a.l.length (λ j => CE (gD a.l (0 + j))) false), _] = _
  simp only [Nat.zero_add]; rfl
 ·show 0 + a.l.length <= a.l.length; omega
 ·exact ⟨rfl, trivial⟩) _
def BA (c : Cht) : List Span := AE c.ms.length λ i => HD c (i : Int)
def HP (c : Cht) : Bool := (BA c).all KC
def dDk1 : List AVal -> Heap -> Option (Dk × List (Nat × Nat) × List Nat)
 | [.bptr id _], H => match rT H id with
  | some (w, q) => some (w, [(100, id), (101, q)], [])
  | none => none
 | _, _ => none
def C_all : Ctr := { ro := [100, 101], α := Dk, xs := λ _ => [.bptr 100 0], L := λ w => dkL w, val := λ w => .tup [.d (AV (BA w.c)), .bool (HP w.c)], keep := λ w => dkK w, pre := λ w => [1 <= w.c.ms.length /\ w.c.ms.length <= 40] }
def al3n (w : Dk) : Shape := { α := One, dflt := default, T := λ _ => ⟨[(0, .bptr 100 0), (4, .d GE), (11, .int w.c.ms.length), (12, .int 0)], dkK w⟩, inv := λ _ => True, meas := λ _ => 50 }
def al3o (w : Dk) : Shape := { α := Nat, dflt := 0, T := λ k => ⟨[(0, .bptr 100 0), (4, .own 202 2 0 k), (11, .int w.c.ms.length), (12, .int k)], dkK w ++ [(202, .live (.row 2 k λ i => CE (HD w.c (i : Int))))]⟩, inv := λ k => 1 <= k /\ k <= w.c.ms.length, meas := λ k => 40 - k, again := [(202, 6080)] }
def DLE (w : Dk) : Ann := { ann 25 [(BOH, C_stg.spec dDkI), (n_eS, orS (C4SaO.spec DLY) (C4Sa.spec d4Sa))] with E := [100, 101], mt := λ id => id == 5, loops := λ id => if id = 3 then some [al3n w, al3o w] else none }
def DLL (w : Dk) : Prop := AZ Try.prog (DLE w) DAD (AN DAD) (C_all.xs w) (AF (C_all.L w)) (C_all.val w) (C_all.keep w) [] [202]
abbrev Mf : Prop := (0 : Nat) = (0 : Nat)
abbrev BGQ (w : Dk) : Prop := (↑w.c.ms.length : Int) = (↑w.c.ms.length : Int)
abbrev XM (w : Dk) : Prop := w.c.p.lo = w.c.p.lo
abbrev YO (w : Dk) : Prop := w.c.p.hi = w.c.p.hi
abbrev BHT (w : Dk) : Prop := w.c.ms.length = w.c.ms.length
abbrev BIF (w : Dk) : Prop := ∀ (i : Nat), i < w.c.ms.length -> (gD w.c.ms i).pl = (gD w.c.ms i).pl /\ (gD w.c.ms i).ht = (gD w.c.ms i).ht
abbrev BHZ (w : Dk) : Prop := w.c.ns.length = w.c.ns.length
abbrev BGR (w : Dk) : Prop := ∀ (i : Nat), i < w.c.ns.length -> (gD w.c.ns i).mi = (gD w.c.ns i).mi /\ (gD w.c.ns i).t.lo = (gD w.c.ns i).t.lo /\ (gD w.c.ns i).t.hi = (gD w.c.ns i).t.hi /\ (gD w.c.ns i).s.lo = (gD w.c.ns
 i).s.lo /\ (gD w.c.ns i).s.hi = (gD w.c.ns i).s.hi
abbrev YW (w : Dk) : Prop := ∀ (i : Nat), i < (40 : Nat) -> w.sp i = w.sp i
abbrev BGP (w : Dk) : Prop := ∀ (n : Int), hasN w.c.ns n = hasN w.c.ns n
abbrev PZ (w : Dk) : Prop := ∀ (n : Int), w.st n = w.st n
abbrev ACG (w : Dk) : Prop := ∀ (n : Int), (ntOf w.c.ns n).mi = (ntOf w.c.ns n).mi /\ (ntOf w.c.ns n).t.lo = (ntOf w.c.ns n).t.lo /\ (ntOf w.c.ns n).t.hi = (ntOf w.c.ns n).t.hi /\ (ntOf w.c.ns n).s.lo = (ntOf w.c.ns
 n).s.lo /\ (ntOf w.c.ns n).s.hi = (ntOf w.c.ns n).s.hi
abbrev Y3 (w : Dk) : Prop := XM w /\ YO w /\ w.c.base = w.c.base /\ w.c.scale = w.c.scale /\ w.c.off = w.c.off /\ BHT w /\ BIF w /\ BHZ w /\ BGR w /\ YW w /\ AU = AU /\ BGP w /\ PZ w
 /\ ACG w
abbrev L5 (w : Dk) : List Mk := AE w.c.ms.length λ (i : Nat) => gD w.c.ms i
abbrev Ez (w : Dk) : Nat := (L5 w).length
abbrev BKS (w : Dk) : Prop := Ez w = w.c.ms.length
abbrev BUF (w : Dk) (i : Nat) : Mk := gD (L5 w) i
abbrev BMA (w : Dk) (i : Nat) : Int := (BUF w i).pl
abbrev BLK (w : Dk) (i : Nat) : Int := (BUF w i).ht
abbrev BTV (w : Dk) : Prop := ∀ (i : Nat), i < Ez w -> BMA w i = (gD w.c.ms i).pl /\ BLK w i = (gD w.c.ms i).ht
abbrev Gc (w : Dk) : List Nt := AE w.c.ns.length λ (i : Nat) => gD w.c.ns i
abbrev M6 (w : Dk) : Nat := (Gc w).length
abbrev BOB (w : Dk) : Prop := M6 w = w.c.ns.length
abbrev ABK (w : Dk) (i : Nat) : Nt := gD (Gc w) i
abbrev BRS (w : Dk) (i : Nat) : Int := (ABK w i).mi
abbrev BOA (w : Dk) (i : Nat) : Span := (ABK w i).t
abbrev BZW (w : Dk) (i : Nat) : Int := (BOA w i).lo
abbrev BZG (w : Dk) (i : Nat) : Int := (BOA w i).hi
abbrev BOS (w : Dk) (i : Nat) : Span := (ABK w i).s
abbrev BVR (w : Dk) (i : Nat) : Int := (BOS w i).lo
abbrev CAT (w : Dk) (i : Nat) : Int := (BOS w i).hi
abbrev BME (w : Dk) : Prop := ∀ (i : Nat), i < M6 w -> BRS w i = (gD w.c.ns i).mi /\ BZW w i = (gD w.c.ns i).t.lo /\ BZG w i = (gD w.c.ns i).t.hi /\ BVR w i = (gD w.c.ns i).s.lo /\ CAT w i
 = (gD w.c.ns i).s.hi
abbrev BYX (w : Dk) (n : Int) : Bool := hasN (Gc w) n
abbrev BVL (w : Dk) : Prop := ∀ (n : Int), BYX w n = hasN w.c.ns n
abbrev AAB (w : Dk) (n : Int) : Nt := ntOf (Gc w) n
abbrev BTW (w : Dk) (n : Int) : Int := (AAB w n).mi
abbrev CAY (w : Dk) (n : Int) : Span := (AAB w n).t
abbrev BUG (w : Dk) (n : Int) : Int := (CAY w n).lo
abbrev BJV (w : Dk) (n : Int) : Int := (CAY w n).hi
abbrev BRX (w : Dk) (n : Int) : Span := (AAB w n).s
abbrev CAW (w : Dk) (n : Int) : Int := (BRX w n).lo
abbrev BRL (w : Dk) (n : Int) : Int := (BRX w n).hi
abbrev BZL (w : Dk) : Prop := ∀ (n : Int), BTW w n = (ntOf w.c.ns n).mi /\ BUG w n = (ntOf w.c.ns n).t.lo /\ BJV w n = (ntOf w.c.ns n).t.hi /\ CAW w n = (ntOf w.c.ns n).s.lo /\ BRL w n = (ntOf
 w.c.ns n).s.hi
abbrev BZY (w : Dk) : Prop := w.c.ms.length = Ez w
abbrev BPT (w : Dk) : Prop := ∀ (i : Nat), i < w.c.ms.length -> (gD w.c.ms i).pl = BMA w i /\ (gD w.c.ms i).ht = BLK w i
abbrev BZS (w : Dk) : Prop := w.c.ns.length = M6 w
abbrev BVN (w : Dk) : Prop := ∀ (i : Nat), i < w.c.ns.length -> (gD w.c.ns i).mi = BRS w i /\ (gD w.c.ns i).t.lo = BZW w i /\ (gD w.c.ns i).t.hi = BZG w i /\ (gD w.c.ns i).s.lo = BVR w i /\ (gD w.c.ns
 i).s.hi = CAT w i
abbrev BQW (w : Dk) : Prop := ∀ (n : Int), hasN w.c.ns n = BYX w n
abbrev BLU (w : Dk) : Prop := ∀ (n : Int), (ntOf w.c.ns n).mi = BTW w n /\ (ntOf w.c.ns n).t.lo = BUG w n /\ (ntOf w.c.ns n).t.hi = BJV w n /\ (ntOf w.c.ns n).s.lo = CAW w n /\ (ntOf w.c.ns n).s.hi =
 BRL w n
abbrev T4 : Prop := (0 : Nat) < (1 : Nat)
abbrev BSR : Prop := (2 : Nat) = (2 : Nat)
abbrev BOV : Prop := (1 : Nat) <= (1 : Nat) /\ (T4 -> BSR)
abbrev CAU (w : Dk) : Cht := Cht.mk w.c.p w.c.base w.c.scale w.c.off (L5 w) (Gc w)
abbrev BZE (w : Dk) : Span := HD (CAU w) (0 : Int)
abbrev AEF (a : Nat) (w : Dk) : Prop := (1 : Nat) <= a /\ a <= w.c.ms.length
abbrev O5 (a : Nat) : Nat := (40 : Nat) - a
abbrev BWL (w : Dk) : Prop := (BA w.c).length = (0 : Nat)
abbrev ADE (a : Nat) : Nat := a + (1 : Nat)
abbrev BTN (a : Nat) (a1 : Nat) : Prop := a = ADE a1
abbrev BOF (w : Dk) (a : Nat) : Span := HD (CAU w) (↑a : Int)
abbrev S8 (a : Nat) (w : Dk) : List Span := AE a λ (i : Nat) => HD w.c (↑i : Int)
abbrev Sv (a : Nat) (w : Dk) : Nat := (S8 a w).length
abbrev BYR (a : Nat) (w : Dk) : Prop := Sv a w = a
abbrev BWS (a : Nat) (w : Dk) (i : Nat) : Span := gD (S8 a w) i
abbrev CBA (a : Nat) (w : Dk) (i : Nat) : Int := (BWS a w i).lo
abbrev BLN (a : Nat) (w : Dk) (i : Nat) : Int := (BWS a w i).hi
abbrev BOG (a : Nat) : Nat := (0 : Nat) + a
abbrev BRT (w : Dk) (j : Nat) : Span := HD w.c (↑(BOG j) : Int)
theorem DNM (w : Dk) : (DLL w) = ((∃ (a : One), (Mf /\ (∀ (i : Nat), i < (0 : Nat) -> false = false) /\ BGQ w /\ Int.ofNat (0 : Nat) = Int.ofNat (0 : Nat) /\ Y3 w) /\ True) /\ (∀ (a : One), True -> bif decide
 ((0 : Int) < (↑w.c.ms.length : Int)) then ((0 : Int) = Int.ofNat (0 : Nat) /\ XM w /\ YO w /\ w.c.base = w.c.base /\ w.c.scale = w.c.scale /\ w.c.off = w.c.off /\ BKS w /\ BTV w /\ BOB w /\ BME w /\
 YW w /\ AU = AU /\ BVL w /\ PZ w /\ BZL w /\ XM w /\ YO w /\ w.c.base = w.c.base /\ w.c.scale = w.c.scale /\ w.c.off = w.c.off /\ BZY w /\ BPT w /\ BZS w /\ BVN w /\ YW w /\ AU
 = AU /\ BQW w /\ PZ w /\ BLU w /\ ((0 : Int) <= (0 : Int) /\ (0 : Int) < (↑(Ez w) : Int)) /\ (True /\ ((0 : Nat) < (0 : Nat) -> (0 : Nat) = (2 : Nat))) /\ BOV /\ (true = true -> T4) /\ (1 : Nat) <=
 (9223372036854775807 : Nat) /\ (16 : Nat) <= (140737488355328 : Nat)) /\ ∃ (a : Nat), (Mf /\ a = (1 : Nat) /\ BGQ w /\ (↑a : Int) = IntKind.i64.wrap ((0 : Int) + (1 : Int)) /\ XM w /\ YO w /\ w.c.base =
 w.c.base /\ w.c.scale = w.c.scale /\ w.c.off = w.c.off /\ BHT w /\ BIF w /\ BHZ w /\ BGR w /\ YW w /\ AU = AU /\ BGP w /\ PZ w /\ ACG w /\ a = (1 : Nat) /\ ∀ (i : Nat), i < a -> (HD w.c (↑i :
 Int)).lo = (BZE w).lo /\ (HD w.c (↑i : Int)).hi = (BZE w).hi) /\ AEF a w /\ O5 a < (50 : Nat) else (Mf /\ Mf /\ (0 : Nat) < (4611686018427387904 : Nat) /\ True) /\ BWL w /\ BWL w /\
 HP w.c = true /\ Y3 w) /\ ∀ (a : Nat), AEF a w -> bif decide ((↑a : Int) < (↑w.c.ms.length : Int)) then ((↑a : Int) = (↑a : Int) /\ XM w /\ YO w /\ w.c.base = w.c.base /\ w.c.scale = w.c.scale /\ w.c.off
 = w.c.off /\ BKS w /\ BTV w /\ BOB w /\ BME w /\ YW w /\ AU = AU /\ BVL w /\ PZ w /\ BZL w /\ XM w /\ YO w /\ w.c.base = w.c.base /\ w.c.scale = w.c.scale /\ w.c.off = w.c.off /\
 BZY w /\ BPT w /\ BZS w /\ BVN w /\ YW w /\ AU = AU /\ BQW w /\ PZ w /\ BLU w /\ ((0 : Int) <= (↑a : Int) /\ (↑a : Int) < (↑(Ez w) : Int)) /\ (a = a /\ ((0 : Nat) < a -> BSR)) /\
 BOV /\ (false = true -> T4) /\ ADE a <= (9223372036854775807 : Nat) /\ ADE a * (16 : Nat) <= (140737488355328 : Nat)) /\ ∃ (a_2 : Nat), (Mf /\ BTN a_2 a /\ BGQ w /\ (↑a_2 : Int) =
 IntKind.i64.wrap ((↑a : Int) + (1 : Int)) /\ XM w /\ YO w /\ w.c.base = w.c.base /\ w.c.scale = w.c.scale /\ w.c.off = w.c.off /\ BHT w /\ BIF w /\ BHZ w /\ BGR w /\ YW w /\ AU = AU /\ BGP w /\
 PZ w /\ ACG w /\ BTN a_2 a /\ ∀ (i : Nat), i < a_2 -> ((HD w.c (↑i : Int)).lo = bif decide (i < a) then (HD w.c (↑i : Int)).lo else (BOF w a).lo) /\ (HD w.c (↑i : Int)).hi = bif decide (i < a) then
 (HD w.c (↑i : Int)).hi else (BOF w a).hi) /\ AEF a_2 w /\ O5 a_2 < O5 a else (Mf /\ BYR a w /\ BYR a w /\ (∀ (i : Nat), i < Sv a w -> CBA a w i = (HD w.c (↑i : Int)).lo /\
 BLN a w i = (HD w.c (↑i : Int)).hi) /\ a = Sv a w /\ (∀ (i : Nat), i < a -> (HD w.c (↑i : Int)).lo = CBA a w i /\ (HD w.c (↑i : Int)).hi = BLN a w i) /\ Sv a w < (4611686018427387904 : Nat) /\
 True) /\ (BA w.c).length = a /\ BOG a <= a /\ (∀ (j : Nat), j < (BA w.c).length -> (gD (BA w.c) j).lo = (BRT w j).lo /\ (gD (BA w.c) j).hi = (BRT w j).hi) /\ HP w.c = (S8 a w).all KC /\ Y3
 w) := by kernel_rfl
theorem DQL (w : Dk) (h : 1 <= w.c.ms.length /\ w.c.ms.length <= 40) : DLL w := by
 obtain ⟨h1, h2⟩ := h
 rw [DNM]; delta Mf BGQ XM YO BHT BIF BHZ BGR YW BGP PZ ACG Y3 L5 Ez BKS BUF BMA BLK BTV Gc M6 BOB ABK BRS BOA BZW BZG BOS BVR CAT BME BYX BVL AAB BTW CAY BUG BJV BRX CAW BRL BZL BZY BPT BZS BVN BQW BLU T4 BSR BOV CAU BZE AEF O5 BWL ADE BTN BOF S8 Sv BYR BWS CBA BLN BOG BRT; simp only [CC, eq_self, implies_true, forall_const, BO]
 refine ⟨⟨default, trivial⟩, ⟨λ h0 => ⟨⟨rfl, by omega, by omega, by omega, by omega, by omega, by omega⟩, 1, ⟨rfl, rfl, rfl, λ i hi => ?_⟩, by omega, by omega⟩, λ h0 => absurd h0 (by omega)⟩, λ k hk => ⟨λ hlt => ⟨⟨by omega, by omega, (λ h => by cases h), by omega, by omega⟩, k + 1, ⟨rfl, (GC (by omega)).symm, rfl, λ i hi => ?_⟩, by omega, by omega⟩, λ hge => ?_⟩⟩
 ·obtain rfl : i = 0 := by omega
  exact ⟨rfl, rfl⟩
 ·by_cases h : i < k
  ·simp [h]
  ·obtain rfl : i = k := by omega
   simp
 ·obtain rfl : k = w.c.ms.length := by omega
  refine ⟨⟨λ i hi => ?_, λ i hi => ?_, by omega⟩, rng_length _ _, by omega, λ j hj => ?_, rfl⟩
  ·rw [CB _ _ _ hi]; exact ⟨rfl, rfl⟩
  ·rw [CB _ _ _ hi]; exact ⟨rfl, rfl⟩
  ·have hj : j < w.c.ms.length := by simpa [BA] using hj
   unfold BA; rw [CB _ _ _ hj]; exact ⟨rfl, rfl⟩
theorem CEF : AP Try.prog CPK (C_all.spec dDk1) := MC C_all DLE [] [202] DPO (λ _ => by kernel_rfl) (λ _ => AD DOI (AD (DBA DNW DSJ) AK)) (λ w h => DQL w h) (λ _ => MO rfl rfl) _
def nilS : List Span := []
def RP (c : Cht) : List Span × Int := bif AO c == 0 then bif HP c then (BA c, 0) else ([], 6) else ([], AO c)
def C_Stages : Ctr := { α := Cht, xs := λ c => [.d (VZ c)], val := λ c => .tup [.d (AV (RP c).1), .int (RP c).2], keep := λ _ => [], pre := λ c => [c.ms.length < 4611686018427387904 /\ c.ns.length < 4611686018427387904] }
def CPS : Ann := ann 24 [(HG, C_open.spec dC1), (CPK, C_all.spec dDk1)]
def CCA : Ann := ann 24 [(HG, C_openX.spec dC1)]
def COU (c : Cht) : Prop := AZ Try.prog CPS Rr (AN Rr) (C_Stages.xs c) (AF []) (.tup [.d (AV (bif HP c then BA c else [])), .int (bif HP c then 0 else 6)]) [] [] []
abbrev Il (c : Cht) : List Mk := AE c.ms.length λ (i : Nat) => gD c.ms i
abbrev Ks (c : Cht) : Nat := (Il c).length
abbrev zG (c : Cht) (i : Nat) : Mk := gD (Il c) i
abbrev Mt (c : Cht) : List Nt := AE c.ns.length λ (i : Nat) => gD c.ns i
abbrev Jj (c : Cht) : Nat := (Mt c).length
abbrev Lw (c : Cht) (i : Nat) : Nt := gD (Mt c) i
abbrev zN (c : Cht) (i : Nat) : Span := (Lw c i).t
abbrev uD (c : Cht) (i : Nat) : Span := (Lw c i).s
abbrev F3 (c : Cht) : Cht := Cht.mk c.p c.base c.scale c.off (Il c) (Mt c)
abbrev yV (c : Cht) : Dk := AG (F3 c)
abbrev IZ (c : Cht) : Cht := (yV c).c
abbrev ZY (c : Cht) : Span := (IZ c).p
abbrev Ot (c : Cht) : Int := (ZY c).lo
abbrev bS (c : Cht) : Prop := Ot c = Ot c
abbrev Sj (c : Cht) : Int := (ZY c).hi
abbrev Sr (c : Cht) : Prop := Sj c = Sj c
abbrev Aa (c : Cht) : Int := (IZ c).base
abbrev Qp (c : Cht) : Prop := Aa c = Aa c
abbrev Ai (c : Cht) : Int := (IZ c).scale
abbrev Wm (c : Cht) : Prop := Ai c = Ai c
abbrev Ad (c : Cht) : Int := (IZ c).off
abbrev Qz (c : Cht) : Prop := Ad c = Ad c
abbrev Ws (c : Cht) : List Mk := (IZ c).ms
abbrev QF (c : Cht) : Nat := (Ws c).length
abbrev YI (c : Cht) (i : Nat) : Mk := gD (Ws c) i
abbrev ZS (c : Cht) : List Mk := AE (QF c) λ (i : Nat) => YI c i
abbrev LR (c : Cht) : Nat := (ZS c).length
abbrev Pc (c : Cht) (i : Nat) : Mk := gD (ZS c) i
abbrev Uu (c : Cht) (i : Nat) : Int := (Pc c i).pl
abbrev Rs (c : Cht) (i : Nat) : Int := (YI c i).pl
abbrev Mx (c : Cht) (i : Nat) : Int := (Pc c i).ht
abbrev Rv (c : Cht) (i : Nat) : Int := (YI c i).ht
abbrev QV (c : Cht) : List Nt := (IZ c).ns
abbrev PP (c : Cht) : Nat := (QV c).length
abbrev QX (c : Cht) (i : Nat) : Nt := gD (QV c) i
abbrev LX (c : Cht) : List Nt := AE (PP c) λ (i : Nat) => QX c i
abbrev ZX (c : Cht) : Nat := (LX c).length
abbrev YU (c : Cht) (i : Nat) : Nt := gD (LX c) i
abbrev Nh (c : Cht) (i : Nat) : Int := (YU c i).mi
abbrev Rg (c : Cht) (i : Nat) : Int := (QX c i).mi
abbrev Ya (c : Cht) (i : Nat) : Span := (YU c i).t
abbrev Sp (c : Cht) (i : Nat) : Int := (Ya c i).lo
abbrev Yq (c : Cht) (i : Nat) : Span := (QX c i).t
abbrev Oq (c : Cht) (i : Nat) : Int := (Yq c i).lo
abbrev bY (c : Cht) (i : Nat) : Int := (Ya c i).hi
abbrev Rm (c : Cht) (i : Nat) : Int := (Yq c i).hi
abbrev Ra (c : Cht) (i : Nat) : Span := (YU c i).s
abbrev Zz (c : Cht) (i : Nat) : Int := (Ra c i).lo
abbrev Ul (c : Cht) (i : Nat) : Span := (QX c i).s
abbrev Of (c : Cht) (i : Nat) : Int := (Ul c i).lo
abbrev bB (c : Cht) (i : Nat) : Int := (Ra c i).hi
abbrev Tx (c : Cht) (i : Nat) : Int := (Ul c i).hi
abbrev Px : Prop := ∀ (i : Nat), i < 40 -> false = false
abbrev Vx (c : Cht) (n : Int) : Bool := hasN (LX c) n
abbrev Wn (c : Cht) (n : Int) : Bool := hasN (QV c) n
abbrev Qs (c : Cht) (n : Int) : Int := (yV c).st n
abbrev Ww (c : Cht) : Prop := ∀ (n : Int), Qs c n = Qs c n
abbrev Av (c : Cht) (n : Int) : Nt := ntOf (LX c) n
abbrev Qf (c : Cht) (n : Int) : Int := (Av c n).mi
abbrev ZZ (c : Cht) (n : Int) : Nt := ntOf (QV c) n
abbrev aU (c : Cht) (n : Int) : Int := (ZZ c n).mi
abbrev Ty (c : Cht) (n : Int) : Span := (Av c n).t
abbrev Oj (c : Cht) (n : Int) : Int := (Ty c n).lo
abbrev Zt (c : Cht) (n : Int) : Span := (ZZ c n).t
abbrev Vc (c : Cht) (n : Int) : Int := (Zt c n).lo
abbrev Sa (c : Cht) (n : Int) : Int := (Ty c n).hi
abbrev Zp (c : Cht) (n : Int) : Int := (Zt c n).hi
abbrev Qm (c : Cht) (n : Int) : Span := (Av c n).s
abbrev Ov (c : Cht) (n : Int) : Int := (Qm c n).lo
abbrev Py (c : Cht) (n : Int) : Span := (ZZ c n).s
abbrev bM (c : Cht) (n : Int) : Int := (Py c n).lo
abbrev Ry (c : Cht) (n : Int) : Int := (Qm c n).hi
abbrev Nk (c : Cht) (n : Int) : Int := (Py c n).hi
abbrev Qb (c : Cht) : Cht := Cht.mk (ZY c) (Aa c) (Ai c) (Ad c) (ZS c) (LX c)
abbrev ZN (c : Cht) : Nat := (bif HP c then BA c else []).length
abbrev Nq (c : Cht) : Prop := ZN c = 0
abbrev Vh (c : Cht) : Int := bif HP c then 0 else 6
abbrev Pb (c : Cht) : List Span := BA (Qb c)
abbrev aI (c : Cht) (i : Nat) : Span := gD (bif HP c then BA c else []) i
abbrev Pu (c : Cht) (i : Nat) : Span := gD (Pb c) i
theorem CXU (c : Cht) : (COU c) = ((c.p.lo = c.p.lo /\ c.p.hi = c.p.hi /\ c.base = c.base /\ c.scale = c.scale /\ c.off = c.off /\ Ks c = c.ms.length /\ (∀ (i : Nat), i < Ks c -> (zG c i).pl =
 (gD c.ms i).pl /\ (zG c i).ht = (gD c.ms i).ht) /\ Jj c = c.ns.length /\ (∀ (i : Nat), i < Jj c -> (Lw c i).mi = (gD c.ns i).mi /\ (zN c i).lo = (gD c.ns i).t.lo /\ (zN c i).hi =
 (gD c.ns i).t.hi /\ (uD c i).lo = (gD c.ns i).s.lo /\ (uD c i).hi = (gD c.ns i).s.hi) /\ (Ks c < 4611686018427387904 /\ Jj c < 4611686018427387904) /\ AO (F3 c) = 0) /\ (bS
 c /\ Sr c /\ Qp c /\ Wm c /\ Qz c /\ LR c = QF c /\ (∀ (i : Nat), i < LR c -> Uu c i = Rs c i /\ Mx c i = Rv c i) /\ ZX c
 = PP c /\ (∀ (i : Nat), i < ZX c -> Nh c i = Rg c i /\ Sp c i = Oq c i /\ bY c i = Rm c i /\ Zz c i = Of c i /\ bB c i =
 Tx c i) /\ Px /\ AU = AU /\ (∀ (n : Int), Vx c n = Wn c n) /\ Ww c /\ (∀ (n : Int), Qf c n = aU c n /\ Oj c n = Vc c n /\ Sa c n =
 Zp c n /\ Ov c n = bM c n /\ Ry c n = Nk c n) /\ bS c /\ Sr c /\ Qp c /\ Wm c /\ Qz c /\ QF c = LR c /\ (∀ (i : Nat), i <
 QF c -> Rs c i = Uu c i /\ Rv c i = Mx c i) /\ PP c = ZX c /\ (∀ (i : Nat), i < PP c -> Rg c i = Nh c i /\ Oq c i = Sp
 c i /\ Rm c i = bY c i /\ Of c i = Zz c i /\ Tx c i = bB c i) /\ Px /\ AU = AU /\ (∀ (n : Int), Wn c n = Vx c n) /\ Ww c /\ (∀ (n :
 Int), aU c n = Qf c n /\ Vc c n = Oj c n /\ Zp c n = Sa c n /\ bM c n = Ov c n /\ Nk c n = Ry c n) /\ 1 <= LR c /\ LR c
 <= 40) /\ bif !HP (Qb c) then Nq c /\ Nq c /\ Vh c = 6 else ZN c = (Pb c).length /\ (∀ (i : Nat), i < ZN c -> (aI c i).lo = (Pu c i).lo /\
 (aI c i).hi = (Pu c i).hi) /\ Vh c = 0) := by kernel_rfl
def CBP (c : Cht) : Prop := AZ Try.prog CCA Rr (AN Rr) (C_Stages.xs c) (AF []) (.tup [.d (AV nilS), .int (AO c)]) [] [] []
theorem CTI (c : Cht) : (CBP c) = ((c.p.lo = c.p.lo /\ c.p.hi = c.p.hi /\ c.base = c.base /\ c.scale = c.scale /\ c.off = c.off /\ (AE c.ms.length λ (i : Nat) => gD c.ms i).length = c.ms.length /\ (∀ (i : Nat),
 i < (AE c.ms.length λ (i : Nat) => gD c.ms i).length -> (gD (AE c.ms.length λ (i : Nat) => gD c.ms i) i).pl = (gD c.ms i).pl /\ (gD (AE c.ms.length λ (i : Nat) => gD c.ms i) i).ht = (gD c.ms i).ht) /\ (AE
 c.ns.length λ (i : Nat) => gD c.ns i).length = c.ns.length /\ (∀ (i : Nat), i < (AE c.ns.length λ (i : Nat) => gD c.ns i).length -> (gD (AE c.ns.length λ (i : Nat) => gD c.ns i) i).mi = (gD c.ns i).mi /\ (gD (AE
 c.ns.length λ (i : Nat) => gD c.ns i) i).t.lo = (gD c.ns i).t.lo /\ (gD (AE c.ns.length λ (i : Nat) => gD c.ns i) i).t.hi = (gD c.ns i).t.hi /\ (gD (AE c.ns.length λ (i : Nat) => gD c.ns i) i).s.lo = (gD c.ns
 i).s.lo /\ (gD (AE c.ns.length λ (i : Nat) => gD c.ns i) i).s.hi = (gD c.ns i).s.hi) /\ ((AE c.ms.length λ (i : Nat) => gD c.ms i).length < 4611686018427387904 /\ (AE c.ns.length λ (i : Nat) => gD c.ns i).length <
 4611686018427387904) /\ AO (Cht.mk c.p c.base c.scale c.off (AE c.ms.length λ (i : Nat) => gD c.ms i) (AE c.ns.length λ (i : Nat) => gD c.ns i)) ≠ 0) /\ bif AO (Cht.mk c.p c.base c.scale c.off (AE
 c.ms.length λ (i : Nat) => gD c.ms i) (AE c.ns.length λ (i : Nat) => gD c.ns i)) != 0 then 0 = 0 /\ 0 = 0 /\ AO c = AO (Cht.mk c.p c.base c.scale c.off (AE c.ms.length λ (i : Nat) => gD c.ms i) (AE
 c.ns.length λ (i : Nat) => gD c.ns i)) else False) := by kernel_rfl
theorem DEJ : AP Try.prog BSC (C_Stages.spec dC1) := okT C_Stages (λ (c : Cht) h => by
 obtain ⟨hm, hn⟩ : c.ms.length < 4611686018427387904 /\ c.ns.length < 4611686018427387904 := h
 by_cases h0 : AO c = 0
 ·have e : C_Stages.val c = .tup [.d (AV (bif HP c then BA c else [])), .int (bif HP c then 0 else 6)] := by
   show AVal.tup [.d (AV (RP c).1), .int (RP c).2] = _
   unfold RP; rw [h0]; cases HP c <;> rfl
  have hl := EW h0
  rw [e]
  refine TV (A := CPS) (L := []) (keep := []) (ren := []) (fz := []) CCI (by kernel_rfl) (AD P7 (AD CEF AK)) ?_
  show COU c; rw [CXU]; delta Il Ks zG Mt Jj Lw zN uD F3 yV IZ ZY Ot bS Sj Sr Aa Qp Ai Wm Ad Qz Ws QF YI ZS LR Pc Uu Rs Mx Rv QV PP QX LX ZX YU Nh Rg Ya Sp Yq Oq bY Rm Ra Zz Ul Of bB Tx Px Vx Wn Qs Ww Av Qf ZZ aU Ty Oj Zt Vc Sa Zp Qm Ov Py bM Ry Nk Qb ZN Nq Vh Pb aI Pu; simp only [CC, eq_self, implies_true, forall_const, BO, APC]
  refine ⟨⟨⟨hm, hn⟩, h0⟩, by omega, λ h => ?_, λ h => ?_⟩
  ·rw [h]; exact ⟨rfl, rfl, rfl⟩
  ·rw [h]; exact ⟨rfl, λ _ _ => ⟨rfl, rfl⟩, rfl⟩
 ·have h0' : (AO c == 0) = false := by simpa using h0
  have e : C_Stages.val c = .tup [.d (AV []), .int (AO c)] := by
   show AVal.tup [.d (AV (RP c).1), .int (RP c).2] = _
   unfold RP; rw [h0']; rfl
  rw [e]
  refine TV (A := CCA) (L := []) (keep := []) (ren := []) (fz := []) CCI (by kernel_rfl) (AD O1 AK) ?_
  show CBP c; rw [CTI]; simp only [CC, eq_self, implies_true, forall_const, BO]
  simp [hm, hn, h0, nilS]) _
end Go.Bal
