/- Package chart: stages. -/
import Derived.Test.YtdbjalgfomknhaaChB
import Derived.Test.YtdbjalgfomknhaaSym11
set_option linter.unusedVariables false
set_option linter.unusedSimpArgs false
namespace Go.Bal
open Go Go.Sym Go.Proofs
def atM (c : Cht) (k : Int) : Int := wr (c.base + wr (c.scale * (gD c.ms k.toNat).ht))
def st0 (c : Cht) (k : Int) : Span := ⟨wr (atM c k - c.off), wr (atM c k + c.off)⟩
def FU (c : Cht) (k : Int) : Span := bif hasN c.ns k then Ka (st0 c k) (ntOf c.ns k).s else st0 c k
structure DkI where
 w : Dk
 k : Int
def dDkI : List AVal -> Heap -> Option (DkI × List (Nat × Nat) × List Nat)
 | [.bptr id _, .d k], H => match hC H id with
  | some (w, q) => some (⟨w, BU k⟩, [(100, id), (101, q)], [])
  | none => none
 | _, _ => none
def C_stg : Ctr := { ro := [100, 101], α := DkI, xs := λ a => [.bptr 100 0, .int a.k], L := λ a => dkL a.w, val := λ a => .d (BT (FU a.w.c a.k)), keep := λ a => dkK a.w, pre := λ a => [0 <= a.k /\ a.k < a.w.c.ms.length] }
def CPY : Ann := { ann 61 [(D0, C_com.spec CFY)] with E := [100, 101] }
def CTC (a : DkI) : Prop := AW Try.prog CPY BHN (AK BHN) (C_stg.xs a) (AF (C_stg.L a)) (C_stg.val a) (C_stg.keep a) [] []
abbrev BRH (a : DkI) : Int := IntKind.i64.wrap (a.w.c.base + IntKind.i64.wrap (a.w.c.scale * (gD a.w.c.ms a.k.toNat).ht))
abbrev wD (a : DkI) : Int := IntKind.i64.wrap (BRH a - a.w.c.off)
abbrev I6 (a : DkI) : Int := IntKind.i64.wrap (BRH a + a.w.c.off)
abbrev APK (a : DkI) : List Span := AE 1 λ (i : Nat) => (ntOf a.w.c.ns a.k).s
abbrev BLF (a : DkI) : Nat := (APK a).length
abbrev BTH (a : DkI) (j : Nat) : Span := gD (APK a) j
abbrev BKD (a : DkI) : Span := comM (SL.mk (Span.mk (wD a) (I6 a)) (APK a))
abbrev BRC (a : DkI) (i : Nat) : Int := (gD a.w.c.ns i).t.lo
abbrev BMN (a : DkI) (i : Nat) : Int := (gD a.w.c.ns i).t.hi
abbrev BTA (a : DkI) (i : Nat) : Int := (gD a.w.c.ns i).s.lo
abbrev AVR (a : DkI) (i : Nat) : Int := (gD a.w.c.ns i).s.hi
abbrev BBB (a : DkI) : Prop := a.w.c.p.lo = a.w.c.p.lo /\ a.w.c.p.hi = a.w.c.p.hi /\ a.w.c.base = a.w.c.base /\ a.w.c.scale = a.w.c.scale /\ a.w.c.off = a.w.c.off /\ a.w.c.ms.length = a.w.c.ms.length /\ (∀ (i : Nat), i <
 a.w.c.ms.length -> (gD a.w.c.ms i).pl = (gD a.w.c.ms i).pl /\ (gD a.w.c.ms i).ht = (gD a.w.c.ms i).ht) /\ a.w.c.ns.length = a.w.c.ns.length /\ (∀ (i : Nat), i < a.w.c.ns.length -> (gD a.w.c.ns i).mi = (gD a.w.c.ns i).mi /\
 BRC a i = BRC a i /\ BMN a i = BMN a i /\ BTA a i = BTA a i /\ AVR a i = AVR a i) /\ (∀ (i : Nat), i < 40 -> a.w.sp i = a.w.sp i) /\ AT = AT /\ (∀ (n : Int), hasN a.w.c.ns n = hasN a.w.c.ns
 n) /\ (∀ (n : Int), a.w.st n = a.w.st n) /\ ∀ (n : Int), (ntOf a.w.c.ns n).mi = (ntOf a.w.c.ns n).mi /\ (ntOf a.w.c.ns n).t.lo = (ntOf a.w.c.ns n).t.lo /\ (ntOf a.w.c.ns n).t.hi = (ntOf a.w.c.ns n).t.hi /\ (ntOf a.w.c.ns
 n).s.lo = (ntOf a.w.c.ns n).s.lo /\ (ntOf a.w.c.ns n).s.hi = (ntOf a.w.c.ns n).s.hi
theorem CUM (a : DkI) : (CTC a) = ((0 <= a.k /\ a.k < (↑a.w.c.ms.length : Int)) /\ Value.agg #[Value.int IntKind.i64 0, Value.int IntKind.i64 0, Value.int IntKind.i64 0, Value.int IntKind.i64 0, Value.int IntKind.i64
 0] = AT /\ bif hasN a.w.c.ns a.k then (wD a = wD a /\ I6 a = I6 a /\ BLF a = 1 /\ 1 <= 1 /\ (∀ (j : Nat), j < BLF a -> (BTH a j).lo = (ntOf a.w.c.ns a.k).s.lo /\ (BTH a j).hi = (ntOf a.w.c.ns
 a.k).s.hi) /\ true = true) /\ (FU a.w.c a.k).lo = (BKD a).lo /\ (FU a.w.c a.k).hi = (BKD a).hi /\ BBB a else (FU a.w.c a.k).lo = wD a /\ (FU a.w.c a.k).hi = I6 a /\ BBB a) := by kernel_rfl
theorem CWO (a : DkI) (h : 0 <= a.k /\ a.k < a.w.c.ms.length) : CTC a := by
 rw [CUM]; delta BRH wD I6 APK BLF BTH BKD BRC BMN BTA AVR BBB; simp only [CC, eq_self, implies_true, forall_const]
 cases hq : hasN a.w.c.ns a.k with
 | true =>
  have e : FU a.w.c a.k = Ka (st0 a.w.c a.k) (ntOf a.w.c.ns a.k).s := by unfold FU; rw [hq]; rfl
  refine ⟨h, rfl, λ _ => ⟨⟨by omega, λ j hj => ?_⟩, ?_, ?_⟩, λ h => by cases h⟩
  ·rw [BK _ _ _ hj]; exact ⟨rfl, rfl⟩
  ·rw [e]; rfl
  ·rw [e]; rfl
 | false =>
  have e : FU a.w.c a.k = st0 a.w.c a.k := by unfold FU; rw [hq]; rfl
  refine ⟨h, rfl, (λ h => by cases h), λ _ => ⟨?_, ?_⟩⟩
  ·rw [e]; rfl
  ·rw [e]; rfl
theorem CTI : AL Try.prog AVT (C_stg.spec dDkI) := KV C_stg (λ _ => CPY) [] [] CEE (λ _ => by kernel_rfl) (λ _ => AD CLJ AI) (λ a h => CWO a h) (λ _ => MD rfl rfl) _
def rowS (l : List Span) : AObj := .row 2 l.length λ i => BT (gD l i)
def C4SaO : Ctr := { ro := [100], α := MSa, xs := λ a => [.own 100 2 0 a.l.length, fvSa a.q], L := λ a => [(100, rowS a.l)], val := λ a => .bool (a.l.all IL), keep := λ a => [(100, .live (rowS a.l))], pre := PSa }
def CQY : List AVal -> Heap -> Option (MSa × List (Nat × Nat) × List Nat)
 | [.own id _ _ _, .fn _ _ _], H => match H id with
  | .live (.row _ n g) => some (⟨default, AE n λ i => KY (g i)⟩, [(100, id)], [])
  | _ => none
 | _, _ => none
def C4SnO : Ctr := { ro := [100], α := MSn, xs := λ a => [.own 100 2 0 a.l.length, fvSn a.q], L := λ a => [(100, rowS a.l)], val := λ a => .bool (a.l.all IL), keep := λ a => [(100, .live (rowS a.l))], pre := PSn }
def CQH : List AVal -> Heap -> Option (MSn × List (Nat × Nat) × List Nat)
 | [.own id _ _ _, .fn _ _ _], H => match H id with
  | .live (.row _ n g) => some (⟨default, AE n λ i => KY (g i)⟩, [(100, id)], [])
  | _ => none
 | _, _ => none
theorem CUH : AL Try.prog n_eS (C4SaO.spec CQY) := okT C4SaO (λ (a : MSa) h => by
 have hf := CRR a h
 refine FnT.lend (fz := [100]) (xs := [.own 100 2 0 a.l.length, fvSa a.q]) (L := [(100, rowS a.l)]) hf rfl ?_ rfl ?_ _ ?_
 ·show [AVal.d (.list 2 a.l.length (λ j => BT (gD a.l (0 + j))) false), _] = _
  simp only [Nat.zero_add]; rfl
 ·show 0 + a.l.length <= a.l.length; omega
 ·exact ⟨rfl, trivial⟩) _
theorem CUI : AL Try.prog n_eS (C4SnO.spec CQH) := okT C4SnO (λ (a : MSn) h => by
 have hf := CZA a h
 refine FnT.lend (fz := [100]) (xs := [.own 100 2 0 a.l.length, fvSn a.q]) (L := [(100, rowS a.l)]) hf rfl ?_ rfl ?_ _ ?_
 ·show [AVal.d (.list 2 a.l.length (λ j => BT (gD a.l (0 + j))) false), _] = _
  simp only [Nat.zero_add]; rfl
 ·show 0 + a.l.length <= a.l.length; omega
 ·exact ⟨rfl, trivial⟩) _
def stgL (c : Cht) : List Span := AE c.ms.length λ i => FU c (i : Int)
def stgOk (c : Cht) : Bool := (stgL c).all IL
def dDk1 : List AVal -> Heap -> Option (Dk × List (Nat × Nat) × List Nat)
 | [.bptr id _], H => match hC H id with
  | some (w, q) => some (w, [(100, id), (101, q)], [])
  | none => none
 | _, _ => none
def C_all : Ctr := { ro := [100, 101], α := Dk, xs := λ _ => [.bptr 100 0], L := λ w => dkL w, val := λ w => .tup [.d (AV (stgL w.c)), .bool (stgOk w.c)], keep := λ w => dkK w, pre := λ w => [1 <= w.c.ms.length /\ w.c.ms.length <= 40] }
def al3n (w : Dk) : Shape := { α := One, dflt := default, T := λ _ => ⟨[(0, .bptr 100 0), (4, .d FG), (11, .int w.c.ms.length), (12, .int 0)], dkK w⟩, inv := λ _ => True, meas := λ _ => 50 }
def al3o (w : Dk) : Shape := { α := Nat, dflt := 0, T := λ k => ⟨[(0, .bptr 100 0), (4, .own 202 2 0 k), (11, .int w.c.ms.length), (12, .int k)], dkK w ++ [(202, .live (.row 2 k λ i => BT (FU w.c (i : Int))))]⟩, inv := λ k => 1 <= k /\ k <= w.c.ms.length, meas := λ k => 40 - k, again := [(202, 6080)] }
def CQX (w : Dk) : Ann := { ann 25 [(AVT, C_stg.spec dDkI), (n_eS, orS (C4SaO.spec CQY) (C4Sa.spec d4Sa))] with E := [100, 101], mt := λ id => id == 5, loops := λ id => if id = 3 then some [al3n w, al3o w] else none }
def CSY (w : Dk) : Prop := AW Try.prog (CQX w) CFT (AK CFT) (C_all.xs w) (AF (C_all.L w)) (C_all.val w) (C_all.keep w) [] [202]
abbrev Eh : Prop := (0 : Nat) = (0 : Nat)
abbrev APP (w : Dk) : Prop := (↑w.c.ms.length : Int) = (↑w.c.ms.length : Int)
abbrev YL (w : Dk) : Prop := w.c.p.lo = w.c.p.lo
abbrev WT (w : Dk) : Prop := w.c.p.hi = w.c.p.hi
abbrev APJ (w : Dk) : Prop := w.c.ms.length = w.c.ms.length
abbrev APN (w : Dk) : Prop := ∀ (i : Nat), i < w.c.ms.length -> (gD w.c.ms i).pl = (gD w.c.ms i).pl /\ (gD w.c.ms i).ht = (gD w.c.ms i).ht
abbrev ANT (w : Dk) : Prop := w.c.ns.length = w.c.ns.length
abbrev APZ (w : Dk) : Prop := ∀ (i : Nat), i < w.c.ns.length -> (gD w.c.ns i).mi = (gD w.c.ns i).mi /\ (gD w.c.ns i).t.lo = (gD w.c.ns i).t.lo /\ (gD w.c.ns i).t.hi = (gD w.c.ns i).t.hi /\ (gD w.c.ns i).s.lo = (gD w.c.ns
 i).s.lo /\ (gD w.c.ns i).s.hi = (gD w.c.ns i).s.hi
abbrev VF (w : Dk) : Prop := ∀ (i : Nat), i < (40 : Nat) -> w.sp i = w.sp i
abbrev AQB (w : Dk) : Prop := ∀ (n : Int), hasN w.c.ns n = hasN w.c.ns n
abbrev OU (w : Dk) : Prop := ∀ (n : Int), w.st n = w.st n
abbrev E5 (w : Dk) : Prop := ∀ (n : Int), (ntOf w.c.ns n).mi = (ntOf w.c.ns n).mi /\ (ntOf w.c.ns n).t.lo = (ntOf w.c.ns n).t.lo /\ (ntOf w.c.ns n).t.hi = (ntOf w.c.ns n).t.hi /\ (ntOf w.c.ns n).s.lo = (ntOf w.c.ns
 n).s.lo /\ (ntOf w.c.ns n).s.hi = (ntOf w.c.ns n).s.hi
abbrev wV (w : Dk) : Prop := YL w /\ WT w /\ w.c.base = w.c.base /\ w.c.scale = w.c.scale /\ w.c.off = w.c.off /\ APJ w /\ APN w /\ ANT w /\ APZ w /\ VF w /\ AT = AT /\ AQB w /\ OU w
 /\ E5 w
abbrev xK (w : Dk) : List Mk := AE w.c.ms.length λ (i : Nat) => gD w.c.ms i
abbrev Ao (w : Dk) : Nat := (xK w).length
abbrev AXL (w : Dk) : Prop := Ao w = w.c.ms.length
abbrev AQI (w : Dk) (i : Nat) : Mk := gD (xK w) i
abbrev AYD (w : Dk) (i : Nat) : Int := (AQI w i).pl
abbrev AWP (w : Dk) (i : Nat) : Int := (AQI w i).ht
abbrev AWV (w : Dk) : Prop := ∀ (i : Nat), i < Ao w -> AYD w i = (gD w.c.ms i).pl /\ AWP w i = (gD w.c.ms i).ht
abbrev ZJ (w : Dk) : List Nt := AE w.c.ns.length λ (i : Nat) => gD w.c.ns i
abbrev K3 (w : Dk) : Nat := (ZJ w).length
abbrev AVG (w : Dk) : Prop := K3 w = w.c.ns.length
abbrev E8 (w : Dk) (i : Nat) : Nt := gD (ZJ w) i
abbrev AXU (w : Dk) (i : Nat) : Int := (E8 w i).mi
abbrev AQK (w : Dk) (i : Nat) : Span := (E8 w i).t
abbrev AUL (w : Dk) (i : Nat) : Int := (AQK w i).lo
abbrev BCX (w : Dk) (i : Nat) : Int := (AQK w i).hi
abbrev BGB (w : Dk) (i : Nat) : Span := (E8 w i).s
abbrev AYC (w : Dk) (i : Nat) : Int := (BGB w i).lo
abbrev BHY (w : Dk) (i : Nat) : Int := (BGB w i).hi
abbrev AZD (w : Dk) : Prop := ∀ (i : Nat), i < K3 w -> AXU w i = (gD w.c.ns i).mi /\ AUL w i = (gD w.c.ns i).t.lo /\ BCX w i = (gD w.c.ns i).t.hi /\ AYC w i = (gD w.c.ns i).s.lo /\ BHY w i
 = (gD w.c.ns i).s.hi
abbrev BEG (w : Dk) (n : Int) : Bool := hasN (ZJ w) n
abbrev BAG (w : Dk) : Prop := ∀ (n : Int), BEG w n = hasN w.c.ns n
abbrev vC (w : Dk) (n : Int) : Nt := ntOf (ZJ w) n
abbrev AZZ (w : Dk) (n : Int) : Int := (vC w n).mi
abbrev BBH (w : Dk) (n : Int) : Span := (vC w n).t
abbrev BDE (w : Dk) (n : Int) : Int := (BBH w n).lo
abbrev BFD (w : Dk) (n : Int) : Int := (BBH w n).hi
abbrev BAB (w : Dk) (n : Int) : Span := (vC w n).s
abbrev AVI (w : Dk) (n : Int) : Int := (BAB w n).lo
abbrev AWI (w : Dk) (n : Int) : Int := (BAB w n).hi
abbrev BHV (w : Dk) : Prop := ∀ (n : Int), AZZ w n = (ntOf w.c.ns n).mi /\ BDE w n = (ntOf w.c.ns n).t.lo /\ BFD w n = (ntOf w.c.ns n).t.hi /\ AVI w n = (ntOf w.c.ns n).s.lo /\ AWI w n = (ntOf
 w.c.ns n).s.hi
abbrev AVM (w : Dk) : Prop := w.c.ms.length = Ao w
abbrev ARV (w : Dk) : Prop := ∀ (i : Nat), i < w.c.ms.length -> (gD w.c.ms i).pl = AYD w i /\ (gD w.c.ms i).ht = AWP w i
abbrev AZG (w : Dk) : Prop := w.c.ns.length = K3 w
abbrev BBC (w : Dk) : Prop := ∀ (i : Nat), i < w.c.ns.length -> (gD w.c.ns i).mi = AXU w i /\ (gD w.c.ns i).t.lo = AUL w i /\ (gD w.c.ns i).t.hi = BCX w i /\ (gD w.c.ns i).s.lo = AYC w i /\ (gD w.c.ns
 i).s.hi = BHY w i
abbrev AVA (w : Dk) : Prop := ∀ (n : Int), hasN w.c.ns n = BEG w n
abbrev BEK (w : Dk) : Prop := ∀ (n : Int), (ntOf w.c.ns n).mi = AZZ w n /\ (ntOf w.c.ns n).t.lo = BDE w n /\ (ntOf w.c.ns n).t.hi = BFD w n /\ (ntOf w.c.ns n).s.lo = AVI w n /\ (ntOf w.c.ns n).s.hi =
 AWI w n
abbrev G6 : Prop := (0 : Nat) < (1 : Nat)
abbrev AXC : Prop := (2 : Nat) = (2 : Nat)
abbrev BCI : Prop := (1 : Nat) <= (1 : Nat) /\ (G6 -> AXC)
abbrev AXP (w : Dk) : Cht := Cht.mk w.c.p w.c.base w.c.scale w.c.off (xK w) (ZJ w)
abbrev AUR (w : Dk) : Span := FU (AXP w) (0 : Int)
abbrev xH (a : Nat) (w : Dk) : Prop := (1 : Nat) <= a /\ a <= w.c.ms.length
abbrev uQ (a : Nat) : Nat := (40 : Nat) - a
abbrev BEX (w : Dk) : Prop := (stgL w.c).length = (0 : Nat)
abbrev uP (a : Nat) : Nat := a + (1 : Nat)
abbrev BEV (a : Nat) (a1 : Nat) : Prop := a = uP a1
abbrev AYU (w : Dk) (a : Nat) : Span := FU (AXP w) (↑a : Int)
abbrev vQ (a : Nat) (w : Dk) : List Span := AE a λ (i : Nat) => FU w.c (↑i : Int)
abbrev Ks (a : Nat) (w : Dk) : Nat := (vQ a w).length
abbrev BEM (a : Nat) (w : Dk) : Prop := Ks a w = a
abbrev AWE (a : Nat) (w : Dk) (i : Nat) : Span := gD (vQ a w) i
abbrev BGQ (a : Nat) (w : Dk) (i : Nat) : Int := (AWE a w i).lo
abbrev BCY (a : Nat) (w : Dk) (i : Nat) : Int := (AWE a w i).hi
abbrev BED (a : Nat) : Nat := (0 : Nat) + a
abbrev ARQ (w : Dk) (j : Nat) : Span := FU w.c (↑(BED j) : Int)
theorem CWD (w : Dk) : (CSY w) = ((∃ (a : One), (Eh /\ (∀ (i : Nat), i < (0 : Nat) -> false = false) /\ APP w /\ Int.ofNat (0 : Nat) = Int.ofNat (0 : Nat) /\ wV w) /\ True) /\ (∀ (a : One), True -> bif decide
 ((0 : Int) < (↑w.c.ms.length : Int)) then ((0 : Int) = Int.ofNat (0 : Nat) /\ YL w /\ WT w /\ w.c.base = w.c.base /\ w.c.scale = w.c.scale /\ w.c.off = w.c.off /\ AXL w /\ AWV w /\ AVG w /\ AZD w /\
 VF w /\ AT = AT /\ BAG w /\ OU w /\ BHV w /\ YL w /\ WT w /\ w.c.base = w.c.base /\ w.c.scale = w.c.scale /\ w.c.off = w.c.off /\ AVM w /\ ARV w /\ AZG w /\ BBC w /\ VF w /\ AT
 = AT /\ AVA w /\ OU w /\ BEK w /\ ((0 : Int) <= (0 : Int) /\ (0 : Int) < (↑(Ao w) : Int)) /\ (True /\ ((0 : Nat) < (0 : Nat) -> (0 : Nat) = (2 : Nat))) /\ BCI /\ (true = true -> G6) /\ (1 : Nat) <=
 (9223372036854775807 : Nat) /\ (16 : Nat) <= (140737488355328 : Nat)) /\ ∃ (a : Nat), (Eh /\ a = (1 : Nat) /\ APP w /\ (↑a : Int) = IntKind.i64.wrap ((0 : Int) + (1 : Int)) /\ YL w /\ WT w /\ w.c.base =
 w.c.base /\ w.c.scale = w.c.scale /\ w.c.off = w.c.off /\ APJ w /\ APN w /\ ANT w /\ APZ w /\ VF w /\ AT = AT /\ AQB w /\ OU w /\ E5 w /\ a = (1 : Nat) /\ ∀ (i : Nat), i < a -> (FU w.c (↑i :
 Int)).lo = (AUR w).lo /\ (FU w.c (↑i : Int)).hi = (AUR w).hi) /\ xH a w /\ uQ a < (50 : Nat) else (Eh /\ Eh /\ (0 : Nat) < (4611686018427387904 : Nat) /\ True) /\ BEX w /\ BEX w /\
 stgOk w.c = true /\ wV w) /\ ∀ (a : Nat), xH a w -> bif decide ((↑a : Int) < (↑w.c.ms.length : Int)) then ((↑a : Int) = (↑a : Int) /\ YL w /\ WT w /\ w.c.base = w.c.base /\ w.c.scale = w.c.scale /\ w.c.off
 = w.c.off /\ AXL w /\ AWV w /\ AVG w /\ AZD w /\ VF w /\ AT = AT /\ BAG w /\ OU w /\ BHV w /\ YL w /\ WT w /\ w.c.base = w.c.base /\ w.c.scale = w.c.scale /\ w.c.off = w.c.off /\
 AVM w /\ ARV w /\ AZG w /\ BBC w /\ VF w /\ AT = AT /\ AVA w /\ OU w /\ BEK w /\ ((0 : Int) <= (↑a : Int) /\ (↑a : Int) < (↑(Ao w) : Int)) /\ (a = a /\ ((0 : Nat) < a -> AXC)) /\
 BCI /\ (false = true -> G6) /\ uP a <= (9223372036854775807 : Nat) /\ uP a * (16 : Nat) <= (140737488355328 : Nat)) /\ ∃ (a_2 : Nat), (Eh /\ BEV a_2 a /\ APP w /\ (↑a_2 : Int) =
 IntKind.i64.wrap ((↑a : Int) + (1 : Int)) /\ YL w /\ WT w /\ w.c.base = w.c.base /\ w.c.scale = w.c.scale /\ w.c.off = w.c.off /\ APJ w /\ APN w /\ ANT w /\ APZ w /\ VF w /\ AT = AT /\ AQB w /\
 OU w /\ E5 w /\ BEV a_2 a /\ ∀ (i : Nat), i < a_2 -> ((FU w.c (↑i : Int)).lo = bif decide (i < a) then (FU w.c (↑i : Int)).lo else (AYU w a).lo) /\ (FU w.c (↑i : Int)).hi = bif decide (i < a) then
 (FU w.c (↑i : Int)).hi else (AYU w a).hi) /\ xH a_2 w /\ uQ a_2 < uQ a else (Eh /\ BEM a w /\ BEM a w /\ (∀ (i : Nat), i < Ks a w -> BGQ a w i = (FU w.c (↑i : Int)).lo /\
 BCY a w i = (FU w.c (↑i : Int)).hi) /\ a = Ks a w /\ (∀ (i : Nat), i < a -> (FU w.c (↑i : Int)).lo = BGQ a w i /\ (FU w.c (↑i : Int)).hi = BCY a w i) /\ Ks a w < (4611686018427387904 : Nat) /\
 True) /\ (stgL w.c).length = a /\ BED a <= a /\ (∀ (j : Nat), j < (stgL w.c).length -> (gD (stgL w.c) j).lo = (ARQ w j).lo /\ (gD (stgL w.c) j).hi = (ARQ w j).hi) /\ stgOk w.c = (vQ a w).all IL /\ wV
 w) := by kernel_rfl
theorem CWJ (w : Dk) (h : 1 <= w.c.ms.length /\ w.c.ms.length <= 40) : CSY w := by
 obtain ⟨h1, h2⟩ := h
 rw [CWD]; delta Eh APP YL WT APJ APN ANT APZ VF AQB OU E5 wV xK Ao AXL AQI AYD AWP AWV ZJ K3 AVG E8 AXU AQK AUL BCX BGB AYC BHY AZD BEG BAG vC AZZ BBH BDE BFD BAB AVI AWI BHV AVM ARV AZG BBC AVA BEK G6 AXC BCI AXP AUR xH uQ BEX uP BEV AYU vQ Ks BEM AWE BGQ BCY BED ARQ; simp only [CC, eq_self, implies_true, forall_const, BH]
 refine ⟨⟨default, trivial⟩, ⟨λ h0 => ⟨⟨rfl, by omega, by omega, by omega, by omega, by omega, by omega⟩, 1, ⟨rfl, rfl, rfl, λ i hi => ?_⟩, by omega, by omega⟩, λ h0 => absurd h0 (by omega)⟩, λ k hk => ⟨λ hlt => ⟨⟨by omega, by omega, (λ h => by cases h), by omega, by omega⟩, k + 1, ⟨rfl, (FE (by omega)).symm, rfl, λ i hi => ?_⟩, by omega, by omega⟩, λ hge => ?_⟩⟩
 ·obtain rfl : i = 0 := by omega
  exact ⟨rfl, rfl⟩
 ·by_cases h : i < k
  ·simp [h]
  ·obtain rfl : i = k := by omega
   simp
 ·obtain rfl : k = w.c.ms.length := by omega
  refine ⟨⟨λ i hi => ?_, λ i hi => ?_, by omega⟩, rng_length _ _, by omega, λ j hj => ?_, rfl⟩
  ·rw [BK _ _ _ hi]; exact ⟨rfl, rfl⟩
  ·rw [BK _ _ _ hi]; exact ⟨rfl, rfl⟩
  ·have hj : j < w.c.ms.length := by simpa [stgL] using hj
   unfold stgL; rw [BK _ _ _ hj]; exact ⟨rfl, rfl⟩
theorem BRY : AL Try.prog BUH (C_all.spec dDk1) := KV C_all CQX [] [202] CUE (λ _ => by kernel_rfl) (λ _ => AD CTI (AD (CLP CUH CWZ) AI)) (λ w h => CWJ w h) (λ _ => MD rfl rfl) _
def nilS : List Span := []
def PK (c : Cht) : List Span × Int := bif AJ c == 0 then bif stgOk c then (stgL c, 0) else ([], 6) else ([], AJ c)
def C_Stages : Ctr := { α := Cht, xs := λ c => [.d (YV c)], val := λ c => .tup [.d (AV (PK c).1), .int (PK c).2], keep := λ _ => [], pre := λ c => [c.ms.length < 4611686018427387904 /\ c.ns.length < 4611686018427387904] }
def BWI : Ann := ann 24 [(GH, C_open.spec dC1), (BUH, C_all.spec dDk1)]
def BIS : Ann := ann 24 [(GH, C_openX.spec dC1)]
def BVX (c : Cht) : Prop := AW Try.prog BWI Ot (AK Ot) (C_Stages.xs c) (AF []) (.tup [.d (AV (bif stgOk c then stgL c else [])), .int (bif stgOk c then 0 else 6)]) [] [] []
abbrev Ek (c : Cht) : List Mk := AE c.ms.length λ (i : Nat) => gD c.ms i
abbrev Hp (c : Cht) : Nat := (Ek c).length
abbrev tN (c : Cht) (i : Nat) : Mk := gD (Ek c) i
abbrev Iz (c : Cht) : List Nt := AE c.ns.length λ (i : Nat) => gD c.ns i
abbrev Jm (c : Cht) : Nat := (Iz c).length
abbrev It (c : Cht) (i : Nat) : Nt := gD (Iz c) i
abbrev iT (c : Cht) (i : Nat) : Span := (It c i).t
abbrev lK (c : Cht) (i : Nat) : Span := (It c i).s
abbrev tV (c : Cht) : Cht := Cht.mk c.p c.base c.scale c.off (Ek c) (Iz c)
abbrev jG (c : Cht) : Dk := AG (tV c)
abbrev HB (c : Cht) : Cht := (jG c).c
abbrev WO (c : Cht) : Span := (HB c).p
abbrev Vm (c : Cht) : Int := (WO c).lo
abbrev Xg (c : Cht) : Prop := Vm c = Vm c
abbrev Vh (c : Cht) : Int := (WO c).hi
abbrev Pc (c : Cht) : Prop := Vh c = Vh c
abbrev VI (c : Cht) : Int := (HB c).base
abbrev Ro (c : Cht) : Prop := VI c = VI c
abbrev VG (c : Cht) : Int := (HB c).scale
abbrev Qj (c : Cht) : Prop := VG c = VG c
abbrev XV (c : Cht) : Int := (HB c).off
abbrev Sv (c : Cht) : Prop := XV c = XV c
abbrev Rp (c : Cht) : List Mk := (HB c).ms
abbrev OE (c : Cht) : Nat := (Rp c).length
abbrev XS (c : Cht) (i : Nat) : Mk := gD (Rp c) i
abbrev VA (c : Cht) : List Mk := AE (OE c) λ (i : Nat) => XS c i
abbrev KA (c : Cht) : Nat := (VA c).length
abbrev Yb (c : Cht) (i : Nat) : Mk := gD (VA c) i
abbrev Oj (c : Cht) (i : Nat) : Int := (Yb c i).pl
abbrev Wp (c : Cht) (i : Nat) : Int := (XS c i).pl
abbrev Lp (c : Cht) (i : Nat) : Int := (Yb c i).ht
abbrev Py (c : Cht) (i : Nat) : Int := (XS c i).ht
abbrev NQ (c : Cht) : List Nt := (HB c).ns
abbrev NO (c : Cht) : Nat := (NQ c).length
abbrev OL (c : Cht) (i : Nat) : Nt := gD (NQ c) i
abbrev JZ (c : Cht) : List Nt := AE (NO c) λ (i : Nat) => OL c i
abbrev WZ (c : Cht) : Nat := (JZ c).length
abbrev VW (c : Cht) (i : Nat) : Nt := gD (JZ c) i
abbrev Kr (c : Cht) (i : Nat) : Int := (VW c i).mi
abbrev Ra (c : Cht) (i : Nat) : Int := (OL c i).mi
abbrev Km (c : Cht) (i : Nat) : Span := (VW c i).t
abbrev Oa (c : Cht) (i : Nat) : Int := (Km c i).lo
abbrev Mw (c : Cht) (i : Nat) : Span := (OL c i).t
abbrev Ny (c : Cht) (i : Nat) : Int := (Mw c i).lo
abbrev Qh (c : Cht) (i : Nat) : Int := (Km c i).hi
abbrev Uk (c : Cht) (i : Nat) : Int := (Mw c i).hi
abbrev Of (c : Cht) (i : Nat) : Span := (VW c i).s
abbrev Lu (c : Cht) (i : Nat) : Int := (Of c i).lo
abbrev Nc (c : Cht) (i : Nat) : Span := (OL c i).s
abbrev Wc (c : Cht) (i : Nat) : Int := (Nc c i).lo
abbrev Vu (c : Cht) (i : Nat) : Int := (Of c i).hi
abbrev Mh (c : Cht) (i : Nat) : Int := (Nc c i).hi
abbrev Wf : Prop := ∀ (i : Nat), i < 40 -> false = false
abbrev Vt (c : Cht) (n : Int) : Bool := hasN (JZ c) n
abbrev Lf (c : Cht) (n : Int) : Bool := hasN (NQ c) n
abbrev Ud (c : Cht) (n : Int) : Int := (jG c).st n
abbrev Wm (c : Cht) : Prop := ∀ (n : Int), Ud c n = Ud c n
abbrev VC (c : Cht) (n : Int) : Nt := ntOf (JZ c) n
abbrev Rd (c : Cht) (n : Int) : Int := (VC c n).mi
abbrev XT (c : Cht) (n : Int) : Nt := ntOf (NQ c) n
abbrev Rm (c : Cht) (n : Int) : Int := (XT c n).mi
abbrev Tk (c : Cht) (n : Int) : Span := (VC c n).t
abbrev Mq (c : Cht) (n : Int) : Int := (Tk c n).lo
abbrev Kz (c : Cht) (n : Int) : Span := (XT c n).t
abbrev Mt (c : Cht) (n : Int) : Int := (Kz c n).lo
abbrev Kd (c : Cht) (n : Int) : Int := (Tk c n).hi
abbrev Qt (c : Cht) (n : Int) : Int := (Kz c n).hi
abbrev Xt (c : Cht) (n : Int) : Span := (VC c n).s
abbrev Tp (c : Cht) (n : Int) : Int := (Xt c n).lo
abbrev Lq (c : Cht) (n : Int) : Span := (XT c n).s
abbrev Vk (c : Cht) (n : Int) : Int := (Lq c n).lo
abbrev Vr (c : Cht) (n : Int) : Int := (Xt c n).hi
abbrev Qu (c : Cht) (n : Int) : Int := (Lq c n).hi
abbrev Vz (c : Cht) : Cht := Cht.mk (WO c) (VI c) (VG c) (XV c) (VA c) (JZ c)
abbrev VH (c : Cht) : Nat := (bif stgOk c then stgL c else []).length
abbrev Xm (c : Cht) : Prop := VH c = 0
abbrev Xw (c : Cht) : Int := bif stgOk c then 0 else 6
abbrev Lv (c : Cht) : List Span := stgL (Vz c)
abbrev Lg (c : Cht) (i : Nat) : Span := gD (bif stgOk c then stgL c else []) i
abbrev Kl (c : Cht) (i : Nat) : Span := gD (Lv c) i
theorem CFA (c : Cht) : (BVX c) = ((c.p.lo = c.p.lo /\ c.p.hi = c.p.hi /\ c.base = c.base /\ c.scale = c.scale /\ c.off = c.off /\ Hp c = c.ms.length /\ (∀ (i : Nat), i < Hp c -> (tN c i).pl =
 (gD c.ms i).pl /\ (tN c i).ht = (gD c.ms i).ht) /\ Jm c = c.ns.length /\ (∀ (i : Nat), i < Jm c -> (It c i).mi = (gD c.ns i).mi /\ (iT c i).lo = (gD c.ns i).t.lo /\ (iT c i).hi =
 (gD c.ns i).t.hi /\ (lK c i).lo = (gD c.ns i).s.lo /\ (lK c i).hi = (gD c.ns i).s.hi) /\ (Hp c < 4611686018427387904 /\ Jm c < 4611686018427387904) /\ AJ (tV c) = 0) /\ (Xg
 c /\ Pc c /\ Ro c /\ Qj c /\ Sv c /\ KA c = OE c /\ (∀ (i : Nat), i < KA c -> Oj c i = Wp c i /\ Lp c i = Py c i) /\ WZ c
 = NO c /\ (∀ (i : Nat), i < WZ c -> Kr c i = Ra c i /\ Oa c i = Ny c i /\ Qh c i = Uk c i /\ Lu c i = Wc c i /\ Vu c i =
 Mh c i) /\ Wf /\ AT = AT /\ (∀ (n : Int), Vt c n = Lf c n) /\ Wm c /\ (∀ (n : Int), Rd c n = Rm c n /\ Mq c n = Mt c n /\ Kd c n =
 Qt c n /\ Tp c n = Vk c n /\ Vr c n = Qu c n) /\ Xg c /\ Pc c /\ Ro c /\ Qj c /\ Sv c /\ OE c = KA c /\ (∀ (i : Nat), i <
 OE c -> Wp c i = Oj c i /\ Py c i = Lp c i) /\ NO c = WZ c /\ (∀ (i : Nat), i < NO c -> Ra c i = Kr c i /\ Ny c i = Oa
 c i /\ Uk c i = Qh c i /\ Wc c i = Lu c i /\ Mh c i = Vu c i) /\ Wf /\ AT = AT /\ (∀ (n : Int), Lf c n = Vt c n) /\ Wm c /\ (∀ (n :
 Int), Rm c n = Rd c n /\ Mt c n = Mq c n /\ Qt c n = Kd c n /\ Vk c n = Tp c n /\ Qu c n = Vr c n) /\ 1 <= KA c /\ KA c
 <= 40) /\ bif !stgOk (Vz c) then Xm c /\ Xm c /\ Xw c = 6 else VH c = (Lv c).length /\ (∀ (i : Nat), i < VH c -> (Lg c i).lo = (Kl c i).lo /\
 (Lg c i).hi = (Kl c i).hi) /\ Xw c = 0) := by kernel_rfl
def BJM (c : Cht) : Prop := AW Try.prog BIS Ot (AK Ot) (C_Stages.xs c) (AF []) (.tup [.d (AV nilS), .int (AJ c)]) [] [] []
theorem CAG (c : Cht) : (BJM c) = ((c.p.lo = c.p.lo /\ c.p.hi = c.p.hi /\ c.base = c.base /\ c.scale = c.scale /\ c.off = c.off /\ (AE c.ms.length λ (i : Nat) => gD c.ms i).length = c.ms.length /\ (∀ (i : Nat),
 i < (AE c.ms.length λ (i : Nat) => gD c.ms i).length -> (gD (AE c.ms.length λ (i : Nat) => gD c.ms i) i).pl = (gD c.ms i).pl /\ (gD (AE c.ms.length λ (i : Nat) => gD c.ms i) i).ht = (gD c.ms i).ht) /\ (AE
 c.ns.length λ (i : Nat) => gD c.ns i).length = c.ns.length /\ (∀ (i : Nat), i < (AE c.ns.length λ (i : Nat) => gD c.ns i).length -> (gD (AE c.ns.length λ (i : Nat) => gD c.ns i) i).mi = (gD c.ns i).mi /\ (gD (AE
 c.ns.length λ (i : Nat) => gD c.ns i) i).t.lo = (gD c.ns i).t.lo /\ (gD (AE c.ns.length λ (i : Nat) => gD c.ns i) i).t.hi = (gD c.ns i).t.hi /\ (gD (AE c.ns.length λ (i : Nat) => gD c.ns i) i).s.lo = (gD c.ns
 i).s.lo /\ (gD (AE c.ns.length λ (i : Nat) => gD c.ns i) i).s.hi = (gD c.ns i).s.hi) /\ ((AE c.ms.length λ (i : Nat) => gD c.ms i).length < 4611686018427387904 /\ (AE c.ns.length λ (i : Nat) => gD c.ns i).length <
 4611686018427387904) /\ AJ (Cht.mk c.p c.base c.scale c.off (AE c.ms.length λ (i : Nat) => gD c.ms i) (AE c.ns.length λ (i : Nat) => gD c.ns i)) ≠ 0) /\ bif AJ (Cht.mk c.p c.base c.scale c.off (AE
 c.ms.length λ (i : Nat) => gD c.ms i) (AE c.ns.length λ (i : Nat) => gD c.ns i)) != 0 then 0 = 0 /\ 0 = 0 /\ AJ c = AJ (Cht.mk c.p c.base c.scale c.off (AE c.ms.length λ (i : Nat) => gD c.ms i) (AE
 c.ns.length λ (i : Nat) => gD c.ns i)) else False) := by kernel_rfl
theorem CLA : AL Try.prog AUT (C_Stages.spec dC1) := okT C_Stages (λ (c : Cht) h => by
 obtain ⟨hm, hn⟩ : c.ms.length < 4611686018427387904 /\ c.ns.length < 4611686018427387904 := h
 by_cases h0 : AJ c = 0
 ·have e : C_Stages.val c = .tup [.d (AV (bif stgOk c then stgL c else [])), .int (bif stgOk c then 0 else 6)] := by
   show AVal.tup [.d (AV (PK c).1), .int (PK c).2] = _
   unfold PK; rw [h0]; cases stgOk c <;> rfl
  have hl := EB h0
  rw [e]
  refine QX (A := BWI) (L := []) (keep := []) (ren := []) (fz := []) BJB (by kernel_rfl) (AD H9 (AD BRY AI)) ?_
  show BVX c; rw [CFA]; delta Ek Hp tN Iz Jm It iT lK tV jG HB WO Vm Xg Vh Pc VI Ro VG Qj XV Sv Rp OE XS VA KA Yb Oj Wp Lp Py NQ NO OL JZ WZ VW Kr Ra Km Oa Mw Ny Qh Uk Of Lu Nc Wc Vu Mh Wf Vt Lf Ud Wm VC Rd XT Rm Tk Mq Kz Mt Kd Qt Xt Tp Lq Vk Vr Qu Vz VH Xm Xw Lv Lg Kl; simp only [CC, eq_self, implies_true, forall_const, BH, W2]
  refine ⟨⟨⟨hm, hn⟩, h0⟩, by omega, λ h => ?_, λ h => ?_⟩
  ·rw [h]; exact ⟨rfl, rfl, rfl⟩
  ·rw [h]; exact ⟨rfl, λ _ _ => ⟨rfl, rfl⟩, rfl⟩
 ·have h0' : (AJ c == 0) = false := by simpa using h0
  have e : C_Stages.val c = .tup [.d (AV []), .int (AJ c)] := by
   show AVal.tup [.d (AV (PK c).1), .int (PK c).2] = _
   unfold PK; rw [h0']; rfl
  rw [e]
  refine QX (A := BIS) (L := []) (keep := []) (ren := []) (fz := []) BJB (by kernel_rfl) (AD yV AI) ?_
  show BJM c; rw [CAG]; simp only [CC, eq_self, implies_true, forall_const, BH]
  simp [hm, hn, h0, nilS]) _
end Go.Bal
