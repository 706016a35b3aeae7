/- Package chart: stages. -/
import Derived.Test.YtdbjalgfomknhaaChB
import Derived.Test.YtdbjalgfomknhaaSym12
set_option linter.unusedVariables false
set_option linter.unusedSimpArgs false
namespace Go.Bal
open Go Go.Sym Go.Proofs
def atM (c : Cht) (k : Int) : Int := wr (c.base + wr (c.scale * (gD c.ms k.toNat).ht))
def st0 (c : Cht) (k : Int) : Span := ⟨wr (atM c k - c.off), wr (atM c k + c.off)⟩
def DZ (c : Cht) (k : Int) : Span := bif hasN c.ns k then fG (st0 c k) (ntOf c.ns k).s else st0 c k
structure DkI where
 w : Dk
 k : Int
def dDkI : List AVal -> Heap -> Option (DkI × List (Nat × Nat) × List Nat)
 | [.bptr id _, .d k], H => match fJ H id with
  | some (w, q) => some (⟨w, CL k⟩, [(100, id), (101, q)], [])
  | none => none
 | _, _ => none
def C_stg : Ctr := { ro := [100, 101], α := DkI, xs := λ a => [.bptr 100 0, .int a.k], L := λ a => dkL a.w, val := λ a => .d (CN (DZ a.w.c a.k)), keep := λ a => dkK a.w, pre := λ a => [0 <= a.k /\ a.k < a.w.c.ms.length] }
def CUR : Ann := { ann 61 [(K6, C_com.spec CNV)] with E := [100, 101] }
def CTQ (a : DkI) : Prop := BB Try.prog CUR AQP (AL AQP) (C_stg.xs a) (AG (C_stg.L a)) (C_stg.val a) (C_stg.keep a) [] []
abbrev BRT (a : DkI) : Int := IntKind.i64.wrap (a.w.c.base + IntKind.i64.wrap (a.w.c.scale * (gD a.w.c.ms a.k.toNat).ht))
abbrev B8 (a : DkI) : Int := IntKind.i64.wrap (BRT a - a.w.c.off)
abbrev G3 (a : DkI) : Int := IntKind.i64.wrap (BRT a + a.w.c.off)
abbrev AON (a : DkI) : List Span := AE 1 λ (i : Nat) => (ntOf a.w.c.ns a.k).s
abbrev BTP (a : DkI) : Nat := (AON a).length
abbrev BMS (a : DkI) (j : Nat) : Span := gD (AON a) j
abbrev BUS (a : DkI) : Span := comM (SL.mk (Span.mk (B8 a) (G3 a)) (AON a))
abbrev BUC (a : DkI) (i : Nat) : Int := (gD a.w.c.ns i).t.lo
abbrev BVS (a : DkI) (i : Nat) : Int := (gD a.w.c.ns i).t.hi
abbrev BPW (a : DkI) (i : Nat) : Int := (gD a.w.c.ns i).s.lo
abbrev BGR (a : DkI) (i : Nat) : Int := (gD a.w.c.ns i).s.hi
abbrev BHN (a : DkI) : Prop := a.w.c.p.lo = a.w.c.p.lo /\ a.w.c.p.hi = a.w.c.p.hi /\ a.w.c.base = a.w.c.base /\ a.w.c.scale = a.w.c.scale /\ a.w.c.off = a.w.c.off /\ a.w.c.ms.length = a.w.c.ms.length /\ (∀ (i : Nat), i <
 a.w.c.ms.length -> (gD a.w.c.ms i).pl = (gD a.w.c.ms i).pl /\ (gD a.w.c.ms i).ht = (gD a.w.c.ms i).ht) /\ a.w.c.ns.length = a.w.c.ns.length /\ (∀ (i : Nat), i < a.w.c.ns.length -> (gD a.w.c.ns i).mi = (gD a.w.c.ns i).mi /\
 BUC a i = BUC a i /\ BVS a i = BVS a i /\ BPW a i = BPW a i /\ BGR a i = BGR a i) /\ (∀ (i : Nat), i < 40 -> a.w.sp i = a.w.sp i) /\ AT = AT /\ (∀ (n : Int), hasN a.w.c.ns n = hasN a.w.c.ns
 n) /\ (∀ (n : Int), a.w.st n = a.w.st n) /\ ∀ (n : Int), (ntOf a.w.c.ns n).mi = (ntOf a.w.c.ns n).mi /\ (ntOf a.w.c.ns n).t.lo = (ntOf a.w.c.ns n).t.lo /\ (ntOf a.w.c.ns n).t.hi = (ntOf a.w.c.ns n).t.hi /\ (ntOf a.w.c.ns
 n).s.lo = (ntOf a.w.c.ns n).s.lo /\ (ntOf a.w.c.ns n).s.hi = (ntOf a.w.c.ns n).s.hi
theorem CVS (a : DkI) : (CTQ a) = ((0 <= a.k /\ a.k < (↑a.w.c.ms.length : Int)) /\ Value.agg #[Value.int IntKind.i64 0, Value.int IntKind.i64 0, Value.int IntKind.i64 0, Value.int IntKind.i64 0, Value.int IntKind.i64
 0] = AT /\ bif hasN a.w.c.ns a.k then (B8 a = B8 a /\ G3 a = G3 a /\ BTP a = 1 /\ 1 <= 1 /\ (∀ (j : Nat), j < BTP a -> (BMS a j).lo = (ntOf a.w.c.ns a.k).s.lo /\ (BMS a j).hi = (ntOf a.w.c.ns
 a.k).s.hi) /\ true = true) /\ (DZ a.w.c a.k).lo = (BUS a).lo /\ (DZ a.w.c a.k).hi = (BUS a).hi /\ BHN a else (DZ a.w.c a.k).lo = B8 a /\ (DZ a.w.c a.k).hi = G3 a /\ BHN a) := by kernel_rfl
theorem CYH (a : DkI) (h : 0 <= a.k /\ a.k < a.w.c.ms.length) : CTQ a := by
 rw [CVS]; delta BRT B8 G3 AON BTP BMS BUS BUC BVS BPW BGR BHN; simp only [CC, eq_self, implies_true, forall_const]
 cases hq : hasN a.w.c.ns a.k with
 | true =>
  have e : DZ a.w.c a.k = fG (st0 a.w.c a.k) (ntOf a.w.c.ns a.k).s := by unfold DZ; rw [hq]; rfl
  refine ⟨h, rfl, λ _ => ⟨⟨by omega, λ j hj => ?_⟩, ?_, ?_⟩, λ h => by cases h⟩
  ·rw [BH _ _ _ hj]; exact ⟨rfl, rfl⟩
  ·rw [e]; rfl
  ·rw [e]; rfl
 | false =>
  have e : DZ a.w.c a.k = st0 a.w.c a.k := by unfold DZ; rw [hq]; rfl
  refine ⟨h, rfl, (λ h => by cases h), λ _ => ⟨?_, ?_⟩⟩
  ·rw [e]; rfl
  ·rw [e]; rfl
theorem CXM : AM Try.prog BBW (C_stg.spec dDkI) := LM C_stg (λ _ => CUR) [] [] CGN (λ _ => by kernel_rfl) (λ _ => AC COM AJ) (λ a h => CYH a h) (λ _ => OA rfl rfl) _
def rowS (l : List Span) : AObj := .row 2 l.length λ i => CN (gD l i)
def C4SaO : Ctr := { ro := [100], α := MSa, xs := λ a => [.own 100 2 0 a.l.length, fvSa a.q], L := λ a => [(100, rowS a.l)], val := λ a => .bool (a.l.all JB), keep := λ a => [(100, .live (rowS a.l))], pre := PSa }
def CUW : List AVal -> Heap -> Option (MSa × List (Nat × Nat) × List Nat)
 | [.own id _ _ _, .fn _ _ _], H => match H id with
  | .live (.row _ n g) => some (⟨default, AE n λ i => LP (g i)⟩, [(100, id)], [])
  | _ => none
 | _, _ => none
def C4SnO : Ctr := { ro := [100], α := MSn, xs := λ a => [.own 100 2 0 a.l.length, fvSn a.q], L := λ a => [(100, rowS a.l)], val := λ a => .bool (a.l.all JB), keep := λ a => [(100, .live (rowS a.l))], pre := PSn }
def CUT : List AVal -> Heap -> Option (MSn × List (Nat × Nat) × List Nat)
 | [.own id _ _ _, .fn _ _ _], H => match H id with
  | .live (.row _ n g) => some (⟨default, AE n λ i => LP (g i)⟩, [(100, id)], [])
  | _ => none
 | _, _ => none
theorem CVU : AM Try.prog n_eS (C4SaO.spec CUW) := okT C4SaO (λ (a : MSa) h => by
 have hf := CTJ a h
 refine FnT.lend (fz := [100]) (xs := [.own 100 2 0 a.l.length, fvSa a.q]) (L := [(100, rowS a.l)]) hf rfl ?_ rfl ?_ _ ?_
 ·show [AVal.d (.list 2 a.l.length (λ j => CN (gD a.l (0 + j))) false), _] = _
  simp only [Nat.zero_add]; rfl
 ·show 0 + a.l.length <= a.l.length; omega
 ·exact ⟨rfl, trivial⟩) _
theorem CXT : AM Try.prog n_eS (C4SnO.spec CUT) := okT C4SnO (λ (a : MSn) h => by
 have hf := CYS a h
 refine FnT.lend (fz := [100]) (xs := [.own 100 2 0 a.l.length, fvSn a.q]) (L := [(100, rowS a.l)]) hf rfl ?_ rfl ?_ _ ?_
 ·show [AVal.d (.list 2 a.l.length (λ j => CN (gD a.l (0 + j))) false), _] = _
  simp only [Nat.zero_add]; rfl
 ·show 0 + a.l.length <= a.l.length; omega
 ·exact ⟨rfl, trivial⟩) _
def stgL (c : Cht) : List Span := AE c.ms.length λ i => DZ c (i : Int)
def stgOk (c : Cht) : Bool := (stgL c).all JB
def dDk1 : List AVal -> Heap -> Option (Dk × List (Nat × Nat) × List Nat)
 | [.bptr id _], H => match fJ H id with
  | some (w, q) => some (w, [(100, id), (101, q)], [])
  | none => none
 | _, _ => none
def C_all : Ctr := { ro := [100, 101], α := Dk, xs := λ _ => [.bptr 100 0], L := λ w => dkL w, val := λ w => .tup [.d (AX (stgL w.c)), .bool (stgOk w.c)], keep := λ w => dkK w, pre := λ w => [1 <= w.c.ms.length /\ w.c.ms.length <= 40] }
def al3n (w : Dk) : Shape := { α := One, dflt := default, T := λ _ => ⟨[(0, .bptr 100 0), (4, .d GC), (11, .int w.c.ms.length), (12, .int 0)], dkK w⟩, inv := λ _ => True, meas := λ _ => 50 }
def al3o (w : Dk) : Shape := { α := Nat, dflt := 0, T := λ k => ⟨[(0, .bptr 100 0), (4, .own 202 2 0 k), (11, .int w.c.ms.length), (12, .int k)], dkK w ++ [(202, .live (.row 2 k λ i => CN (DZ w.c (i : Int))))]⟩, inv := λ k => 1 <= k /\ k <= w.c.ms.length, meas := λ k => 40 - k, again := [(202, 6080)] }
def CTI (w : Dk) : Ann := { ann 25 [(BBW, C_stg.spec dDkI), (n_eS, orS (C4SaO.spec CUW) (C4Sa.spec d4Sa))] with E := [100, 101], mt := λ id => id == 5, loops := λ id => if id = 3 then some [al3n w, al3o w] else none }
def CUK (w : Dk) : Prop := BB Try.prog (CTI w) CKX (AL CKX) (C_all.xs w) (AG (C_all.L w)) (C_all.val w) (C_all.keep w) [] [202]
abbrev Ej : Prop := (0 : Nat) = (0 : Nat)
abbrev ANP (w : Dk) : Prop := (↑w.c.ms.length : Int) = (↑w.c.ms.length : Int)
abbrev VV (w : Dk) : Prop := w.c.p.lo = w.c.p.lo
abbrev WP (w : Dk) : Prop := w.c.p.hi = w.c.p.hi
abbrev AOF (w : Dk) : Prop := w.c.ms.length = w.c.ms.length
abbrev APJ (w : Dk) : Prop := ∀ (i : Nat), i < w.c.ms.length -> (gD w.c.ms i).pl = (gD w.c.ms i).pl /\ (gD w.c.ms i).ht = (gD w.c.ms i).ht
abbrev AND (w : Dk) : Prop := w.c.ns.length = w.c.ns.length
abbrev AMS (w : Dk) : Prop := ∀ (i : Nat), i < w.c.ns.length -> (gD w.c.ns i).mi = (gD w.c.ns i).mi /\ (gD w.c.ns i).t.lo = (gD w.c.ns i).t.lo /\ (gD w.c.ns i).t.hi = (gD w.c.ns i).t.hi /\ (gD w.c.ns i).s.lo = (gD w.c.ns
 i).s.lo /\ (gD w.c.ns i).s.hi = (gD w.c.ns i).s.hi
abbrev XU (w : Dk) : Prop := ∀ (i : Nat), i < (40 : Nat) -> w.sp i = w.sp i
abbrev APA (w : Dk) : Prop := ∀ (n : Int), hasN w.c.ns n = hasN w.c.ns n
abbrev OV (w : Dk) : Prop := ∀ (n : Int), w.st n = w.st n
abbrev zO (w : Dk) : Prop := ∀ (n : Int), (ntOf w.c.ns n).mi = (ntOf w.c.ns n).mi /\ (ntOf w.c.ns n).t.lo = (ntOf w.c.ns n).t.lo /\ (ntOf w.c.ns n).t.hi = (ntOf w.c.ns n).t.hi /\ (ntOf w.c.ns n).s.lo = (ntOf w.c.ns
 n).s.lo /\ (ntOf w.c.ns n).s.hi = (ntOf w.c.ns n).s.hi
abbrev zW (w : Dk) : Prop := VV w /\ WP w /\ w.c.base = w.c.base /\ w.c.scale = w.c.scale /\ w.c.off = w.c.off /\ AOF w /\ APJ w /\ AND w /\ AMS w /\ XU w /\ AT = AT /\ APA w /\ OV w
 /\ zO w
abbrev yN (w : Dk) : List Mk := AE w.c.ms.length λ (i : Nat) => gD w.c.ms i
abbrev Bq (w : Dk) : Nat := (yN w).length
abbrev ATO (w : Dk) : Prop := Bq w = w.c.ms.length
abbrev BDB (w : Dk) (i : Nat) : Mk := gD (yN w) i
abbrev AYW (w : Dk) (i : Nat) : Int := (BDB w i).pl
abbrev BIN (w : Dk) (i : Nat) : Int := (BDB w i).ht
abbrev BAM (w : Dk) : Prop := ∀ (i : Nat), i < Bq w -> AYW w i = (gD w.c.ms i).pl /\ BIN w i = (gD w.c.ms i).ht
abbrev Ah (w : Dk) : List Nt := AE w.c.ns.length λ (i : Nat) => gD w.c.ns i
abbrev wK (w : Dk) : Nat := (Ah w).length
abbrev ASC (w : Dk) : Prop := wK w = w.c.ns.length
abbrev N5 (w : Dk) (i : Nat) : Nt := gD (Ah w) i
abbrev AYJ (w : Dk) (i : Nat) : Int := (N5 w i).mi
abbrev BEL (w : Dk) (i : Nat) : Span := (N5 w i).t
abbrev BHF (w : Dk) (i : Nat) : Int := (BEL w i).lo
abbrev BAD (w : Dk) (i : Nat) : Int := (BEL w i).hi
abbrev BDJ (w : Dk) (i : Nat) : Span := (N5 w i).s
abbrev AZU (w : Dk) (i : Nat) : Int := (BDJ w i).lo
abbrev BBJ (w : Dk) (i : Nat) : Int := (BDJ w i).hi
abbrev AVR (w : Dk) : Prop := ∀ (i : Nat), i < wK w -> AYJ w i = (gD w.c.ns i).mi /\ BHF w i = (gD w.c.ns i).t.lo /\ BAD w i = (gD w.c.ns i).t.hi /\ AZU w i = (gD w.c.ns i).s.lo /\ BBJ w i
 = (gD w.c.ns i).s.hi
abbrev AXV (w : Dk) (n : Int) : Bool := hasN (Ah w) n
abbrev AVI (w : Dk) : Prop := ∀ (n : Int), AXV w n = hasN w.c.ns n
abbrev yE (w : Dk) (n : Int) : Nt := ntOf (Ah w) n
abbrev BES (w : Dk) (n : Int) : Int := (yE w n).mi
abbrev BCW (w : Dk) (n : Int) : Span := (yE w n).t
abbrev BBT (w : Dk) (n : Int) : Int := (BCW w n).lo
abbrev BAJ (w : Dk) (n : Int) : Int := (BCW w n).hi
abbrev BAR (w : Dk) (n : Int) : Span := (yE w n).s
abbrev BBC (w : Dk) (n : Int) : Int := (BAR w n).lo
abbrev BFU (w : Dk) (n : Int) : Int := (BAR w n).hi
abbrev ARG (w : Dk) : Prop := ∀ (n : Int), BES w n = (ntOf w.c.ns n).mi /\ BBT w n = (ntOf w.c.ns n).t.lo /\ BAJ w n = (ntOf w.c.ns n).t.hi /\ BBC w n = (ntOf w.c.ns n).s.lo /\ BFU w n = (ntOf
 w.c.ns n).s.hi
abbrev BCH (w : Dk) : Prop := w.c.ms.length = Bq w
abbrev APZ (w : Dk) : Prop := ∀ (i : Nat), i < w.c.ms.length -> (gD w.c.ms i).pl = AYW w i /\ (gD w.c.ms i).ht = BIN w i
abbrev AZT (w : Dk) : Prop := w.c.ns.length = wK w
abbrev BAB (w : Dk) : Prop := ∀ (i : Nat), i < w.c.ns.length -> (gD w.c.ns i).mi = AYJ w i /\ (gD w.c.ns i).t.lo = BHF w i /\ (gD w.c.ns i).t.hi = BAD w i /\ (gD w.c.ns i).s.lo = AZU w i /\ (gD w.c.ns
 i).s.hi = BBJ w i
abbrev BEU (w : Dk) : Prop := ∀ (n : Int), hasN w.c.ns n = AXV w n
abbrev AQF (w : Dk) : Prop := ∀ (n : Int), (ntOf w.c.ns n).mi = BES w n /\ (ntOf w.c.ns n).t.lo = BBT w n /\ (ntOf w.c.ns n).t.hi = BAJ w n /\ (ntOf w.c.ns n).s.lo = BBC w n /\ (ntOf w.c.ns n).s.hi =
 BFU w n
abbrev M9 : Prop := (0 : Nat) < (1 : Nat)
abbrev ASS : Prop := (2 : Nat) = (2 : Nat)
abbrev AYL : Prop := (1 : Nat) <= (1 : Nat) /\ (M9 -> ASS)
abbrev BDA (w : Dk) : Cht := Cht.mk w.c.p w.c.base w.c.scale w.c.off (yN w) (Ah w)
abbrev BBK (w : Dk) : Span := DZ (BDA w) (0 : Int)
abbrev L4 (a : Nat) (w : Dk) : Prop := (1 : Nat) <= a /\ a <= w.c.ms.length
abbrev E0 (a : Nat) : Nat := (40 : Nat) - a
abbrev BHY (w : Dk) : Prop := (stgL w.c).length = (0 : Nat)
abbrev zT (a : Nat) : Nat := a + (1 : Nat)
abbrev BJH (a : Nat) (a1 : Nat) : Prop := a = zT a1
abbrev BFP (w : Dk) (a : Nat) : Span := DZ (BDA w) (↑a : Int)
abbrev yF (a : Nat) (w : Dk) : List Span := AE a λ (i : Nat) => DZ w.c (↑i : Int)
abbrev Vj (a : Nat) (w : Dk) : Nat := (yF a w).length
abbrev BAP (a : Nat) (w : Dk) : Prop := Vj a w = a
abbrev BEI (a : Nat) (w : Dk) (i : Nat) : Span := gD (yF a w) i
abbrev AUO (a : Nat) (w : Dk) (i : Nat) : Int := (BEI a w i).lo
abbrev BGO (a : Nat) (w : Dk) (i : Nat) : Int := (BEI a w i).hi
abbrev BCB (a : Nat) : Nat := (0 : Nat) + a
abbrev BAE (w : Dk) (j : Nat) : Span := DZ w.c (↑(BCB j) : Int)
theorem CXQ (w : Dk) : (CUK w) = ((∃ (a : One), (Ej /\ (∀ (i : Nat), i < (0 : Nat) -> false = false) /\ ANP w /\ Int.ofNat (0 : Nat) = Int.ofNat (0 : Nat) /\ zW w) /\ True) /\ (∀ (a : One), True -> bif decide
 ((0 : Int) < (↑w.c.ms.length : Int)) then ((0 : Int) = Int.ofNat (0 : Nat) /\ VV w /\ WP w /\ w.c.base = w.c.base /\ w.c.scale = w.c.scale /\ w.c.off = w.c.off /\ ATO w /\ BAM w /\ ASC w /\ AVR w /\
 XU w /\ AT = AT /\ AVI w /\ OV w /\ ARG w /\ VV w /\ WP w /\ w.c.base = w.c.base /\ w.c.scale = w.c.scale /\ w.c.off = w.c.off /\ BCH w /\ APZ w /\ AZT w /\ BAB w /\ XU w /\ AT
 = AT /\ BEU w /\ OV w /\ AQF w /\ ((0 : Int) <= (0 : Int) /\ (0 : Int) < (↑(Bq w) : Int)) /\ (True /\ ((0 : Nat) < (0 : Nat) -> (0 : Nat) = (2 : Nat))) /\ AYL /\ (true = true -> M9) /\ (1 : Nat) <=
 (9223372036854775807 : Nat) /\ (16 : Nat) <= (140737488355328 : Nat)) /\ ∃ (a : Nat), (Ej /\ a = (1 : Nat) /\ ANP w /\ (↑a : Int) = IntKind.i64.wrap ((0 : Int) + (1 : Int)) /\ VV w /\ WP w /\ w.c.base =
 w.c.base /\ w.c.scale = w.c.scale /\ w.c.off = w.c.off /\ AOF w /\ APJ w /\ AND w /\ AMS w /\ XU w /\ AT = AT /\ APA w /\ OV w /\ zO w /\ a = (1 : Nat) /\ ∀ (i : Nat), i < a -> (DZ w.c (↑i :
 Int)).lo = (BBK w).lo /\ (DZ w.c (↑i : Int)).hi = (BBK w).hi) /\ L4 a w /\ E0 a < (50 : Nat) else (Ej /\ Ej /\ (0 : Nat) < (4611686018427387904 : Nat) /\ True) /\ BHY w /\ BHY w /\
 stgOk w.c = true /\ zW w) /\ ∀ (a : Nat), L4 a w -> bif decide ((↑a : Int) < (↑w.c.ms.length : Int)) then ((↑a : Int) = (↑a : Int) /\ VV w /\ WP w /\ w.c.base = w.c.base /\ w.c.scale = w.c.scale /\ w.c.off
 = w.c.off /\ ATO w /\ BAM w /\ ASC w /\ AVR w /\ XU w /\ AT = AT /\ AVI w /\ OV w /\ ARG w /\ VV w /\ WP w /\ w.c.base = w.c.base /\ w.c.scale = w.c.scale /\ w.c.off = w.c.off /\
 BCH w /\ APZ w /\ AZT w /\ BAB w /\ XU w /\ AT = AT /\ BEU w /\ OV w /\ AQF w /\ ((0 : Int) <= (↑a : Int) /\ (↑a : Int) < (↑(Bq w) : Int)) /\ (a = a /\ ((0 : Nat) < a -> ASS)) /\
 AYL /\ (false = true -> M9) /\ zT a <= (9223372036854775807 : Nat) /\ zT a * (16 : Nat) <= (140737488355328 : Nat)) /\ ∃ (a_2 : Nat), (Ej /\ BJH a_2 a /\ ANP w /\ (↑a_2 : Int) =
 IntKind.i64.wrap ((↑a : Int) + (1 : Int)) /\ VV w /\ WP w /\ w.c.base = w.c.base /\ w.c.scale = w.c.scale /\ w.c.off = w.c.off /\ AOF w /\ APJ w /\ AND w /\ AMS w /\ XU w /\ AT = AT /\ APA w /\
 OV w /\ zO w /\ BJH a_2 a /\ ∀ (i : Nat), i < a_2 -> ((DZ w.c (↑i : Int)).lo = bif decide (i < a) then (DZ w.c (↑i : Int)).lo else (BFP w a).lo) /\ (DZ w.c (↑i : Int)).hi = bif decide (i < a) then
 (DZ w.c (↑i : Int)).hi else (BFP w a).hi) /\ L4 a_2 w /\ E0 a_2 < E0 a else (Ej /\ BAP a w /\ BAP a w /\ (∀ (i : Nat), i < Vj a w -> AUO a w i = (DZ w.c (↑i : Int)).lo /\
 BGO a w i = (DZ w.c (↑i : Int)).hi) /\ a = Vj a w /\ (∀ (i : Nat), i < a -> (DZ w.c (↑i : Int)).lo = AUO a w i /\ (DZ w.c (↑i : Int)).hi = BGO a w i) /\ Vj a w < (4611686018427387904 : Nat) /\
 True) /\ (stgL w.c).length = a /\ BCB a <= a /\ (∀ (j : Nat), j < (stgL w.c).length -> (gD (stgL w.c) j).lo = (BAE w j).lo /\ (gD (stgL w.c) j).hi = (BAE w j).hi) /\ stgOk w.c = (yF a w).all JB /\ zW
 w) := by kernel_rfl
theorem CZG (w : Dk) (h : 1 <= w.c.ms.length /\ w.c.ms.length <= 40) : CUK w := by
 obtain ⟨h1, h2⟩ := h
 rw [CXQ]; delta Ej ANP VV WP AOF APJ AND AMS XU APA OV zO zW yN Bq ATO BDB AYW BIN BAM Ah wK ASC N5 AYJ BEL BHF BAD BDJ AZU BBJ AVR AXV AVI yE BES BCW BBT BAJ BAR BBC BFU ARG BCH APZ AZT BAB BEU AQF M9 ASS AYL BDA BBK L4 E0 BHY zT BJH BFP yF Vj BAP BEI AUO BGO BCB BAE; simp only [CC, eq_self, implies_true, forall_const, CB]
 refine ⟨⟨default, trivial⟩, ⟨λ h0 => ⟨⟨rfl, by omega, by omega, by omega, by omega, by omega, by omega⟩, 1, ⟨rfl, rfl, rfl, λ i hi => ?_⟩, by omega, by omega⟩, λ h0 => absurd h0 (by omega)⟩, λ k hk => ⟨λ hlt => ⟨⟨by omega, by omega, (λ h => by cases h), by omega, by omega⟩, k + 1, ⟨rfl, (GK (by omega)).symm, rfl, λ i hi => ?_⟩, by omega, by omega⟩, λ hge => ?_⟩⟩
 ·obtain rfl : i = 0 := by omega
  exact ⟨rfl, rfl⟩
 ·by_cases h : i < k
  ·simp [h]
  ·obtain rfl : i = k := by omega
   simp
 ·obtain rfl : k = w.c.ms.length := by omega
  refine ⟨⟨λ i hi => ?_, λ i hi => ?_, by omega⟩, rng_length _ _, by omega, λ j hj => ?_, rfl⟩
  ·rw [BH _ _ _ hi]; exact ⟨rfl, rfl⟩
  ·rw [BH _ _ _ hi]; exact ⟨rfl, rfl⟩
  ·have hj : j < w.c.ms.length := by simpa [stgL] using hj
   unfold stgL; rw [BH _ _ _ hj]; exact ⟨rfl, rfl⟩
theorem BQR : AM Try.prog BWS (C_all.spec dDk1) := LM C_all CTI [] [202] CXD (λ _ => by kernel_rfl) (λ _ => AC CXM (AC (CIU CVU DAY) AJ)) (λ w h => CZG w h) (λ _ => OA rfl rfl) _
def nilS : List Span := []
def PV (c : Cht) : List Span × Int := bif AK c == 0 then bif stgOk c then (stgL c, 0) else ([], 6) else ([], AK c)
def C_Stages : Ctr := { α := Cht, xs := λ c => [.d (YE c)], val := λ c => .tup [.d (AX (PV c).1), .int (PV c).2], keep := λ _ => [], pre := λ c => [c.ms.length < 4611686018427387904 /\ c.ns.length < 4611686018427387904] }
def BWJ : Ann := ann 24 [(GX, C_open.spec dC1), (BWS, C_all.spec dDk1)]
def BKR : Ann := ann 24 [(GX, C_openX.spec dC1)]
def BWQ (c : Cht) : Prop := BB Try.prog BWJ Nz (AL Nz) (C_Stages.xs c) (AG []) (.tup [.d (AX (bif stgOk c then stgL c else [])), .int (bif stgOk c then 0 else 6)]) [] [] []
abbrev Hs (c : Cht) : List Mk := AE c.ms.length λ (i : Nat) => gD c.ms i
abbrev Fy (c : Cht) : Nat := (Hs c).length
abbrev lJ (c : Cht) (i : Nat) : Mk := gD (Hs c) i
abbrev Ew (c : Cht) : List Nt := AE c.ns.length λ (i : Nat) => gD c.ns i
abbrev Ib (c : Cht) : Nat := (Ew c).length
abbrev Ge (c : Cht) (i : Nat) : Nt := gD (Ew c) i
abbrev kY (c : Cht) (i : Nat) : Span := (Ge c i).t
abbrev gL (c : Cht) (i : Nat) : Span := (Ge c i).s
abbrev nJ (c : Cht) : Cht := Cht.mk c.p c.base c.scale c.off (Hs c) (Ew c)
abbrev iO (c : Cht) : Dk := AH (nJ c)
abbrev HX (c : Cht) : Cht := (iO c).c
abbrev WG (c : Cht) : Span := (HX c).p
abbrev Ob (c : Cht) : Int := (WG c).lo
abbrev Ki (c : Cht) : Prop := Ob c = Ob c
abbrev Jx (c : Cht) : Int := (WG c).hi
abbrev Sd (c : Cht) : Prop := Jx c = Jx c
abbrev WQ (c : Cht) : Int := (HX c).base
abbrev Va (c : Cht) : Prop := WQ c = WQ c
abbrev WK (c : Cht) : Int := (HX c).scale
abbrev Jy (c : Cht) : Prop := WK c = WK c
abbrev XL (c : Cht) : Int := (HX c).off
abbrev Wn (c : Cht) : Prop := XL c = XL c
abbrev Oh (c : Cht) : List Mk := (HX c).ms
abbrev OD (c : Cht) : Nat := (Oh c).length
abbrev VE (c : Cht) (i : Nat) : Mk := gD (Oh c) i
abbrev XN (c : Cht) : List Mk := AE (OD c) λ (i : Nat) => VE c i
abbrev JS (c : Cht) : Nat := (XN c).length
abbrev Ta (c : Cht) (i : Nat) : Mk := gD (XN c) i
abbrev Tg (c : Cht) (i : Nat) : Int := (Ta c i).pl
abbrev Nu (c : Cht) (i : Nat) : Int := (VE c i).pl
abbrev Qn (c : Cht) (i : Nat) : Int := (Ta c i).ht
abbrev Ro (c : Cht) (i : Nat) : Int := (VE c i).ht
abbrev OL (c : Cht) : List Nt := (HX c).ns
abbrev OM (c : Cht) : Nat := (OL c).length
abbrev OJ (c : Cht) (i : Nat) : Nt := gD (OL c) i
abbrev KL (c : Cht) : List Nt := AE (OM c) λ (i : Nat) => OJ c i
abbrev VH (c : Cht) : Nat := (KL c).length
abbrev XV (c : Cht) (i : Nat) : Nt := gD (KL c) i
abbrev Pn (c : Cht) (i : Nat) : Int := (XV c i).mi
abbrev Qs (c : Cht) (i : Nat) : Int := (OJ c i).mi
abbrev Rm (c : Cht) (i : Nat) : Span := (XV c i).t
abbrev Ww (c : Cht) (i : Nat) : Int := (Rm c i).lo
abbrev Um (c : Cht) (i : Nat) : Span := (OJ c i).t
abbrev Ke (c : Cht) (i : Nat) : Int := (Um c i).lo
abbrev Pi (c : Cht) (i : Nat) : Int := (Rm c i).hi
abbrev Rq (c : Cht) (i : Nat) : Int := (Um c i).hi
abbrev Jo (c : Cht) (i : Nat) : Span := (XV c i).s
abbrev Kg (c : Cht) (i : Nat) : Int := (Jo c i).lo
abbrev Lt (c : Cht) (i : Nat) : Span := (OJ c i).s
abbrev Ps (c : Cht) (i : Nat) : Int := (Lt c i).lo
abbrev Qo (c : Cht) (i : Nat) : Int := (Jo c i).hi
abbrev Ms (c : Cht) (i : Nat) : Int := (Lt c i).hi
abbrev Wu : Prop := ∀ (i : Nat), i < 40 -> false = false
abbrev Sx (c : Cht) (n : Int) : Bool := hasN (KL c) n
abbrev Xb (c : Cht) (n : Int) : Bool := hasN (OL c) n
abbrev Sw (c : Cht) (n : Int) : Int := (iO c).st n
abbrev Og (c : Cht) : Prop := ∀ (n : Int), Sw c n = Sw c n
abbrev XW (c : Cht) (n : Int) : Nt := ntOf (KL c) n
abbrev Vk (c : Cht) (n : Int) : Int := (XW c n).mi
abbrev WA (c : Cht) (n : Int) : Nt := ntOf (OL c) n
abbrev Uh (c : Cht) (n : Int) : Int := (WA c n).mi
abbrev Rh (c : Cht) (n : Int) : Span := (XW c n).t
abbrev Pk (c : Cht) (n : Int) : Int := (Rh c n).lo
abbrev Qg (c : Cht) (n : Int) : Span := (WA c n).t
abbrev Rl (c : Cht) (n : Int) : Int := (Qg c n).lo
abbrev Ty (c : Cht) (n : Int) : Int := (Rh c n).hi
abbrev Lx (c : Cht) (n : Int) : Int := (Qg c n).hi
abbrev Wv (c : Cht) (n : Int) : Span := (XW c n).s
abbrev Rr (c : Cht) (n : Int) : Int := (Wv c n).lo
abbrev Km (c : Cht) (n : Int) : Span := (WA c n).s
abbrev Sp (c : Cht) (n : Int) : Int := (Km c n).lo
abbrev Nv (c : Cht) (n : Int) : Int := (Wv c n).hi
abbrev Ql (c : Cht) (n : Int) : Int := (Km c n).hi
abbrev Qy (c : Cht) : Cht := Cht.mk (WG c) (WQ c) (WK c) (XL c) (XN c) (KL c)
abbrev WZ (c : Cht) : Nat := (bif stgOk c then stgL c else []).length
abbrev Kc (c : Cht) : Prop := WZ c = 0
abbrev Tl (c : Cht) : Int := bif stgOk c then 0 else 6
abbrev Ko (c : Cht) : List Span := stgL (Qy c)
abbrev Kk (c : Cht) (i : Nat) : Span := gD (bif stgOk c then stgL c else []) i
abbrev Qr (c : Cht) (i : Nat) : Span := gD (Ko c) i
theorem CGZ (c : Cht) : (BWQ c) = ((c.p.lo = c.p.lo /\ c.p.hi = c.p.hi /\ c.base = c.base /\ c.scale = c.scale /\ c.off = c.off /\ Fy c = c.ms.length /\ (∀ (i : Nat), i < Fy c -> (lJ c i).pl =
 (gD c.ms i).pl /\ (lJ c i).ht = (gD c.ms i).ht) /\ Ib c = c.ns.length /\ (∀ (i : Nat), i < Ib c -> (Ge c i).mi = (gD c.ns i).mi /\ (kY c i).lo = (gD c.ns i).t.lo /\ (kY c i).hi =
 (gD c.ns i).t.hi /\ (gL c i).lo = (gD c.ns i).s.lo /\ (gL c i).hi = (gD c.ns i).s.hi) /\ (Fy c < 4611686018427387904 /\ Ib c < 4611686018427387904) /\ AK (nJ c) = 0) /\ (Ki
 c /\ Sd c /\ Va c /\ Jy c /\ Wn c /\ JS c = OD c /\ (∀ (i : Nat), i < JS c -> Tg c i = Nu c i /\ Qn c i = Ro c i) /\ VH c
 = OM c /\ (∀ (i : Nat), i < VH c -> Pn c i = Qs c i /\ Ww c i = Ke c i /\ Pi c i = Rq c i /\ Kg c i = Ps c i /\ Qo c i =
 Ms c i) /\ Wu /\ AT = AT /\ (∀ (n : Int), Sx c n = Xb c n) /\ Og c /\ (∀ (n : Int), Vk c n = Uh c n /\ Pk c n = Rl c n /\ Ty c n =
 Lx c n /\ Rr c n = Sp c n /\ Nv c n = Ql c n) /\ Ki c /\ Sd c /\ Va c /\ Jy c /\ Wn c /\ OD c = JS c /\ (∀ (i : Nat), i <
 OD c -> Nu c i = Tg c i /\ Ro c i = Qn c i) /\ OM c = VH c /\ (∀ (i : Nat), i < OM c -> Qs c i = Pn c i /\ Ke c i = Ww
 c i /\ Rq c i = Pi c i /\ Ps c i = Kg c i /\ Ms c i = Qo c i) /\ Wu /\ AT = AT /\ (∀ (n : Int), Xb c n = Sx c n) /\ Og c /\ (∀ (n :
 Int), Uh c n = Vk c n /\ Rl c n = Pk c n /\ Lx c n = Ty c n /\ Sp c n = Rr c n /\ Ql c n = Nv c n) /\ 1 <= JS c /\ JS c
 <= 40) /\ bif !stgOk (Qy c) then Kc c /\ Kc c /\ Tl c = 6 else WZ c = (Ko c).length /\ (∀ (i : Nat), i < WZ c -> (Kk c i).lo = (Qr c i).lo /\
 (Kk c i).hi = (Qr c i).hi) /\ Tl c = 0) := by kernel_rfl
def BKT (c : Cht) : Prop := BB Try.prog BKR Nz (AL Nz) (C_Stages.xs c) (AG []) (.tup [.d (AX nilS), .int (AK c)]) [] [] []
theorem CCE (c : Cht) : (BKT c) = ((c.p.lo = c.p.lo /\ c.p.hi = c.p.hi /\ c.base = c.base /\ c.scale = c.scale /\ c.off = c.off /\ (AE c.ms.length λ (i : Nat) => gD c.ms i).length = c.ms.length /\ (∀ (i : Nat),
 i < (AE c.ms.length λ (i : Nat) => gD c.ms i).length -> (gD (AE c.ms.length λ (i : Nat) => gD c.ms i) i).pl = (gD c.ms i).pl /\ (gD (AE c.ms.length λ (i : Nat) => gD c.ms i) i).ht = (gD c.ms i).ht) /\ (AE
 c.ns.length λ (i : Nat) => gD c.ns i).length = c.ns.length /\ (∀ (i : Nat), i < (AE c.ns.length λ (i : Nat) => gD c.ns i).length -> (gD (AE c.ns.length λ (i : Nat) => gD c.ns i) i).mi = (gD c.ns i).mi /\ (gD (AE
 c.ns.length λ (i : Nat) => gD c.ns i) i).t.lo = (gD c.ns i).t.lo /\ (gD (AE c.ns.length λ (i : Nat) => gD c.ns i) i).t.hi = (gD c.ns i).t.hi /\ (gD (AE c.ns.length λ (i : Nat) => gD c.ns i) i).s.lo = (gD c.ns
 i).s.lo /\ (gD (AE c.ns.length λ (i : Nat) => gD c.ns i) i).s.hi = (gD c.ns i).s.hi) /\ ((AE c.ms.length λ (i : Nat) => gD c.ms i).length < 4611686018427387904 /\ (AE c.ns.length λ (i : Nat) => gD c.ns i).length <
 4611686018427387904) /\ AK (Cht.mk c.p c.base c.scale c.off (AE c.ms.length λ (i : Nat) => gD c.ms i) (AE c.ns.length λ (i : Nat) => gD c.ns i)) ≠ 0) /\ bif AK (Cht.mk c.p c.base c.scale c.off (AE
 c.ms.length λ (i : Nat) => gD c.ms i) (AE c.ns.length λ (i : Nat) => gD c.ns i)) != 0 then 0 = 0 /\ 0 = 0 /\ AK c = AK (Cht.mk c.p c.base c.scale c.off (AE c.ms.length λ (i : Nat) => gD c.ms i) (AE
 c.ns.length λ (i : Nat) => gD c.ns i)) else False) := by kernel_rfl
theorem CNS : AM Try.prog BEW (C_Stages.spec dC1) := okT C_Stages (λ (c : Cht) h => by
 obtain ⟨hm, hn⟩ : c.ms.length < 4611686018427387904 /\ c.ns.length < 4611686018427387904 := h
 by_cases h0 : AK c = 0
 ·have e : C_Stages.val c = .tup [.d (AX (bif stgOk c then stgL c else [])), .int (bif stgOk c then 0 else 6)] := by
   show AVal.tup [.d (AX (PV c).1), .int (PV c).2] = _
   unfold PV; rw [h0]; cases stgOk c <;> rfl
  have hl := ET h0
  rw [e]
  refine UV (A := BWJ) (L := []) (keep := []) (ren := []) (fz := []) BJR (by kernel_rfl) (AC xA (AC BQR AJ)) ?_
  show BWQ c; rw [CGZ]; delta Hs Fy lJ Ew Ib Ge kY gL nJ iO HX WG Ob Ki Jx Sd WQ Va WK Jy XL Wn Oh OD VE XN JS Ta Tg Nu Qn Ro OL OM OJ KL VH XV Pn Qs Rm Ww Um Ke Pi Rq Jo Kg Lt Ps Qo Ms Wu Sx Xb Sw Og XW Vk WA Uh Rh Pk Qg Rl Ty Lx Wv Rr Km Sp Nv Ql Qy WZ Kc Tl Ko Kk Qr; simp only [CC, eq_self, implies_true, forall_const, CB, AKH]
  refine ⟨⟨⟨hm, hn⟩, h0⟩, by omega, λ h => ?_, λ h => ?_⟩
  ·rw [h]; exact ⟨rfl, rfl, rfl⟩
  ·rw [h]; exact ⟨rfl, λ _ _ => ⟨rfl, rfl⟩, rfl⟩
 ·have h0' : (AK c == 0) = false := by simpa using h0
  have e : C_Stages.val c = .tup [.d (AX []), .int (AK c)] := by
   show AVal.tup [.d (AX (PV c).1), .int (PV c).2] = _
   unfold PV; rw [h0']; rfl
  rw [e]
  refine UV (A := BKR) (L := []) (keep := []) (ren := []) (fz := []) BJR (by kernel_rfl) (AC yD AJ) ?_
  show BKT c; rw [CCE]; simp only [CC, eq_self, implies_true, forall_const, CB]
  simp [hm, hn, h0, nilS]) _
end Go.Bal
