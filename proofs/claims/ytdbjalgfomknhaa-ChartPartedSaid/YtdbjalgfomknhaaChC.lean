/- Package chart: stages. -/
import Derived.Test.YtdbjalgfomknhaaChB
import Derived.Test.YtdbjalgfomknhaaSym11
set_option linter.unusedVariables false
set_option linter.unusedSimpArgs false
namespace Go.Bal
open Go Go.Sym Go.Proofs
def atM (c : Cht) (k : Int) : Int := wr (c.base + wr (c.scale * (gD c.ms k.toNat).ht))
def st0 (c : Cht) (k : Int) : Span := ⟨wr (atM c k - c.off), wr (atM c k + c.off)⟩
def DY (c : Cht) (k : Int) : Span := bif hasN c.ns k then eS (st0 c k) (ntOf c.ns k).s else st0 c k
structure DkI where
 w : Dk
 k : Int
def dDkI : List AVal -> Heap -> Option (DkI × List (Nat × Nat) × List Nat)
 | [.bptr id _, .d k], H => match eY H id with
  | some (w, q) => some (⟨w, CK k⟩, [(100, id), (101, q)], [])
  | none => none
 | _, _ => none
def C_stg : Ctr := { ro := [100, 101], α := DkI, xs := λ a => [.bptr 100 0, .int a.k], L := λ a => dkL a.w, val := λ a => .d (CL (DY a.w.c a.k)), keep := λ a => dkK a.w, pre := λ a => [0 <= a.k /\ a.k < a.w.c.ms.length] }
def CSG : Ann := { ann 61 [(tT, C_com.spec CML)] with E := [100, 101] }
def CTS (a : DkI) : Prop := AZ Try.prog CSG ATG (AL ATG) (C_stg.xs a) (AG (C_stg.L a)) (C_stg.val a) (C_stg.keep a) [] []
abbrev BQD (a : DkI) : Int := IntKind.i64.wrap (a.w.c.base + IntKind.i64.wrap (a.w.c.scale * (gD a.w.c.ms a.k.toNat).ht))
abbrev uP (a : DkI) : Int := IntKind.i64.wrap (BQD a - a.w.c.off)
abbrev K7 (a : DkI) : Int := IntKind.i64.wrap (BQD a + a.w.c.off)
abbrev ANP (a : DkI) : List Span := AE 1 λ (i : Nat) => (ntOf a.w.c.ns a.k).s
abbrev BRJ (a : DkI) : Nat := (ANP a).length
abbrev BLC (a : DkI) (j : Nat) : Span := gD (ANP a) j
abbrev BOO (a : DkI) : Span := comM (SL.mk (Span.mk (uP a) (K7 a)) (ANP a))
abbrev BVS (a : DkI) (i : Nat) : Int := (gD a.w.c.ns i).t.lo
abbrev BSI (a : DkI) (i : Nat) : Int := (gD a.w.c.ns i).t.hi
abbrev BLL (a : DkI) (i : Nat) : Int := (gD a.w.c.ns i).s.lo
abbrev AXI (a : DkI) (i : Nat) : Int := (gD a.w.c.ns i).s.hi
abbrev BBB (a : DkI) : Prop := a.w.c.p.lo = a.w.c.p.lo /\ a.w.c.p.hi = a.w.c.p.hi /\ a.w.c.base = a.w.c.base /\ a.w.c.scale = a.w.c.scale /\ a.w.c.off = a.w.c.off /\ a.w.c.ms.length = a.w.c.ms.length /\ (∀ (i : Nat), i <
 a.w.c.ms.length -> (gD a.w.c.ms i).pl = (gD a.w.c.ms i).pl /\ (gD a.w.c.ms i).ht = (gD a.w.c.ms i).ht) /\ a.w.c.ns.length = a.w.c.ns.length /\ (∀ (i : Nat), i < a.w.c.ns.length -> (gD a.w.c.ns i).mi = (gD a.w.c.ns i).mi /\
 BVS a i = BVS a i /\ BSI a i = BSI a i /\ BLL a i = BLL a i /\ AXI a i = AXI a i) /\ (∀ (i : Nat), i < 40 -> a.w.sp i = a.w.sp i) /\ AT = AT /\ (∀ (n : Int), hasN a.w.c.ns n = hasN a.w.c.ns
 n) /\ (∀ (n : Int), a.w.st n = a.w.st n) /\ ∀ (n : Int), (ntOf a.w.c.ns n).mi = (ntOf a.w.c.ns n).mi /\ (ntOf a.w.c.ns n).t.lo = (ntOf a.w.c.ns n).t.lo /\ (ntOf a.w.c.ns n).t.hi = (ntOf a.w.c.ns n).t.hi /\ (ntOf a.w.c.ns
 n).s.lo = (ntOf a.w.c.ns n).s.lo /\ (ntOf a.w.c.ns n).s.hi = (ntOf a.w.c.ns n).s.hi
theorem CVW (a : DkI) : (CTS a) = ((0 <= a.k /\ a.k < (↑a.w.c.ms.length : Int)) /\ Value.agg #[Value.int IntKind.i64 0, Value.int IntKind.i64 0, Value.int IntKind.i64 0, Value.int IntKind.i64 0, Value.int IntKind.i64
 0] = AT /\ bif hasN a.w.c.ns a.k then (uP a = uP a /\ K7 a = K7 a /\ BRJ a = 1 /\ 1 <= 1 /\ (∀ (j : Nat), j < BRJ a -> (BLC a j).lo = (ntOf a.w.c.ns a.k).s.lo /\ (BLC a j).hi = (ntOf a.w.c.ns
 a.k).s.hi) /\ true = true) /\ (DY a.w.c a.k).lo = (BOO a).lo /\ (DY a.w.c a.k).hi = (BOO a).hi /\ BBB a else (DY a.w.c a.k).lo = uP a /\ (DY a.w.c a.k).hi = K7 a /\ BBB a) := by kernel_rfl
theorem CYP (a : DkI) (h : 0 <= a.k /\ a.k < a.w.c.ms.length) : CTS a := by
 rw [CVW]; delta BQD uP K7 ANP BRJ BLC BOO BVS BSI BLL AXI BBB; simp only [CC, eq_self, implies_true, forall_const]
 cases hq : hasN a.w.c.ns a.k with
 | true =>
  have e : DY a.w.c a.k = eS (st0 a.w.c a.k) (ntOf a.w.c.ns a.k).s := by unfold DY; rw [hq]; rfl
  refine ⟨h, rfl, λ _ => ⟨⟨by omega, λ j hj => ?_⟩, ?_, ?_⟩, λ h => by cases h⟩
  ·rw [BN _ _ _ hj]; exact ⟨rfl, rfl⟩
  ·rw [e]; rfl
  ·rw [e]; rfl
 | false =>
  have e : DY a.w.c a.k = st0 a.w.c a.k := by unfold DY; rw [hq]; rfl
  refine ⟨h, rfl, (λ h => by cases h), λ _ => ⟨?_, ?_⟩⟩
  ·rw [e]; rfl
  ·rw [e]; rfl
theorem CWH : AM Try.prog AXA (C_stg.spec dDkI) := LF C_stg (λ _ => CSG) [] [] CGT (λ _ => by kernel_rfl) (λ _ => AC CKW AJ) (λ a h => CYP a h) (λ _ => NP rfl rfl) _
def rowS (l : List Span) : AObj := .row 2 l.length λ i => CL (gD l i)
def C4SaO : Ctr := { ro := [100], α := MSa, xs := λ a => [.own 100 2 0 a.l.length, fvSa a.q], L := λ a => [(100, rowS a.l)], val := λ a => .bool (a.l.all IW), keep := λ a => [(100, .live (rowS a.l))], pre := PSa }
def CTI : List AVal -> Heap -> Option (MSa × List (Nat × Nat) × List Nat)
 | [.own id _ _ _, .fn _ _ _], H => match H id with
  | .live (.row _ n g) => some (⟨default, AE n λ i => LI (g i)⟩, [(100, id)], [])
  | _ => none
 | _, _ => none
def C4SnO : Ctr := { ro := [100], α := MSn, xs := λ a => [.own 100 2 0 a.l.length, fvSn a.q], L := λ a => [(100, rowS a.l)], val := λ a => .bool (a.l.all IW), keep := λ a => [(100, .live (rowS a.l))], pre := PSn }
def CSX : List AVal -> Heap -> Option (MSn × List (Nat × Nat) × List Nat)
 | [.own id _ _ _, .fn _ _ _], H => match H id with
  | .live (.row _ n g) => some (⟨default, AE n λ i => LI (g i)⟩, [(100, id)], [])
  | _ => none
 | _, _ => none
theorem CXN : AM Try.prog n_eS (C4SaO.spec CTI) := okT C4SaO (λ (a : MSa) h => by
 have hf := CTF a h
 refine FnT.lend (fz := [100]) (xs := [.own 100 2 0 a.l.length, fvSa a.q]) (L := [(100, rowS a.l)]) hf rfl ?_ rfl ?_ _ ?_
 ·show [AVal.d (.list 2 a.l.length (λ j => CL (gD a.l (0 + j))) false), _] = _
  simp only [Nat.zero_add]; rfl
 ·show 0 + a.l.length <= a.l.length; omega
 ·exact ⟨rfl, trivial⟩) _
theorem CXR : AM Try.prog n_eS (C4SnO.spec CSX) := okT C4SnO (λ (a : MSn) h => by
 have hf := CYO a h
 refine FnT.lend (fz := [100]) (xs := [.own 100 2 0 a.l.length, fvSn a.q]) (L := [(100, rowS a.l)]) hf rfl ?_ rfl ?_ _ ?_
 ·show [AVal.d (.list 2 a.l.length (λ j => CL (gD a.l (0 + j))) false), _] = _
  simp only [Nat.zero_add]; rfl
 ·show 0 + a.l.length <= a.l.length; omega
 ·exact ⟨rfl, trivial⟩) _
def stgL (c : Cht) : List Span := AE c.ms.length λ i => DY c (i : Int)
def stgOk (c : Cht) : Bool := (stgL c).all IW
def Z1 : List AVal -> Heap -> Option (Dk × List (Nat × Nat) × List Nat)
 | [.bptr id _], H => match eY H id with
  | some (w, q) => some (w, [(100, id), (101, q)], [])
  | none => none
 | _, _ => none
def C_all : Ctr := { ro := [100, 101], α := Dk, xs := λ _ => [.bptr 100 0], L := λ w => dkL w, val := λ w => .tup [.d (AX (stgL w.c)), .bool (stgOk w.c)], keep := λ w => dkK w, pre := λ w => [1 <= w.c.ms.length /\ w.c.ms.length <= 40] }
def al3n (w : Dk) : Shape := { α := One, dflt := default, T := λ _ => ⟨[(0, .bptr 100 0), (4, .d GA), (11, .int w.c.ms.length), (12, .int 0)], dkK w⟩, inv := λ _ => True, meas := λ _ => 50 }
def al3o (w : Dk) : Shape := { α := Nat, dflt := 0, T := λ k => ⟨[(0, .bptr 100 0), (4, .own 202 2 0 k), (11, .int w.c.ms.length), (12, .int k)], dkK w ++ [(202, .live (.row 2 k λ i => CL (DY w.c (i : Int))))]⟩, inv := λ k => 1 <= k /\ k <= w.c.ms.length, meas := λ k => 40 - k, again := [(202, 6080)] }
def CRV (w : Dk) : Ann := { ann 25 [(AXA, C_stg.spec dDkI), (n_eS, orS (C4SaO.spec CTI) (C4Sa.spec d4Sa))] with E := [100, 101], mt := λ id => id == 5, loops := λ id => if id = 3 then some [al3n w, al3o w] else none }
def CTQ (w : Dk) : Prop := AZ Try.prog (CRV w) CMY (AL CMY) (C_all.xs w) (AG (C_all.L w)) (C_all.val w) (C_all.keep w) [] [202]
abbrev Dh : Prop := (0 : Nat) = (0 : Nat)
abbrev AOH (w : Dk) : Prop := (↑w.c.ms.length : Int) = (↑w.c.ms.length : Int)
abbrev VC (w : Dk) : Prop := w.c.p.lo = w.c.p.lo
abbrev VG (w : Dk) : Prop := w.c.p.hi = w.c.p.hi
abbrev AOQ (w : Dk) : Prop := w.c.ms.length = w.c.ms.length
abbrev APL (w : Dk) : Prop := ∀ (i : Nat), i < w.c.ms.length -> (gD w.c.ms i).pl = (gD w.c.ms i).pl /\ (gD w.c.ms i).ht = (gD w.c.ms i).ht
abbrev AOK (w : Dk) : Prop := w.c.ns.length = w.c.ns.length
abbrev ANL (w : Dk) : Prop := ∀ (i : Nat), i < w.c.ns.length -> (gD w.c.ns i).mi = (gD w.c.ns i).mi /\ (gD w.c.ns i).t.lo = (gD w.c.ns i).t.lo /\ (gD w.c.ns i).t.hi = (gD w.c.ns i).t.hi /\ (gD w.c.ns i).s.lo = (gD w.c.ns
 i).s.lo /\ (gD w.c.ns i).s.hi = (gD w.c.ns i).s.hi
abbrev WF (w : Dk) : Prop := ∀ (i : Nat), i < (40 : Nat) -> w.sp i = w.sp i
abbrev AMO (w : Dk) : Prop := ∀ (n : Int), hasN w.c.ns n = hasN w.c.ns n
abbrev PB (w : Dk) : Prop := ∀ (n : Int), w.st n = w.st n
abbrev F9 (w : Dk) : Prop := ∀ (n : Int), (ntOf w.c.ns n).mi = (ntOf w.c.ns n).mi /\ (ntOf w.c.ns n).t.lo = (ntOf w.c.ns n).t.lo /\ (ntOf w.c.ns n).t.hi = (ntOf w.c.ns n).t.hi /\ (ntOf w.c.ns n).s.lo = (ntOf w.c.ns
 n).s.lo /\ (ntOf w.c.ns n).s.hi = (ntOf w.c.ns n).s.hi
abbrev wR (w : Dk) : Prop := VC w /\ VG w /\ w.c.base = w.c.base /\ w.c.scale = w.c.scale /\ w.c.off = w.c.off /\ AOQ w /\ APL w /\ AOK w /\ ANL w /\ WF w /\ AT = AT /\ AMO w /\ PB w
 /\ F9 w
abbrev C8 (w : Dk) : List Mk := AE w.c.ms.length λ (i : Nat) => gD w.c.ms i
abbrev ZL (w : Dk) : Nat := (C8 w).length
abbrev BFB (w : Dk) : Prop := ZL w = w.c.ms.length
abbrev BDK (w : Dk) (i : Nat) : Mk := gD (C8 w) i
abbrev APW (w : Dk) (i : Nat) : Int := (BDK w i).pl
abbrev AVN (w : Dk) (i : Nat) : Int := (BDK w i).ht
abbrev AUE (w : Dk) : Prop := ∀ (i : Nat), i < ZL w -> APW w i = (gD w.c.ms i).pl /\ AVN w i = (gD w.c.ms i).ht
abbrev ZV (w : Dk) : List Nt := AE w.c.ns.length λ (i : Nat) => gD w.c.ns i
abbrev xC (w : Dk) : Nat := (ZV w).length
abbrev BGZ (w : Dk) : Prop := xC w = w.c.ns.length
abbrev A6 (w : Dk) (i : Nat) : Nt := gD (ZV w) i
abbrev AWU (w : Dk) (i : Nat) : Int := (A6 w i).mi
abbrev BFG (w : Dk) (i : Nat) : Span := (A6 w i).t
abbrev AYX (w : Dk) (i : Nat) : Int := (BFG w i).lo
abbrev AZI (w : Dk) (i : Nat) : Int := (BFG w i).hi
abbrev AQY (w : Dk) (i : Nat) : Span := (A6 w i).s
abbrev AZT (w : Dk) (i : Nat) : Int := (AQY w i).lo
abbrev ATJ (w : Dk) (i : Nat) : Int := (AQY w i).hi
abbrev AQH (w : Dk) : Prop := ∀ (i : Nat), i < xC w -> AWU w i = (gD w.c.ns i).mi /\ AYX w i = (gD w.c.ns i).t.lo /\ AZI w i = (gD w.c.ns i).t.hi /\ AZT w i = (gD w.c.ns i).s.lo /\ ATJ w i
 = (gD w.c.ns i).s.hi
abbrev BAO (w : Dk) (n : Int) : Bool := hasN (ZV w) n
abbrev AZW (w : Dk) : Prop := ∀ (n : Int), BAO w n = hasN w.c.ns n
abbrev xJ (w : Dk) (n : Int) : Nt := ntOf (ZV w) n
abbrev BBT (w : Dk) (n : Int) : Int := (xJ w n).mi
abbrev BFD (w : Dk) (n : Int) : Span := (xJ w n).t
abbrev BIP (w : Dk) (n : Int) : Int := (BFD w n).lo
abbrev BIJ (w : Dk) (n : Int) : Int := (BFD w n).hi
abbrev AUZ (w : Dk) (n : Int) : Span := (xJ w n).s
abbrev AYF (w : Dk) (n : Int) : Int := (AUZ w n).lo
abbrev AQG (w : Dk) (n : Int) : Int := (AUZ w n).hi
abbrev AUS (w : Dk) : Prop := ∀ (n : Int), BBT w n = (ntOf w.c.ns n).mi /\ BIP w n = (ntOf w.c.ns n).t.lo /\ BIJ w n = (ntOf w.c.ns n).t.hi /\ AYF w n = (ntOf w.c.ns n).s.lo /\ AQG w n = (ntOf
 w.c.ns n).s.hi
abbrev APS (w : Dk) : Prop := w.c.ms.length = ZL w
abbrev BFX (w : Dk) : Prop := ∀ (i : Nat), i < w.c.ms.length -> (gD w.c.ms i).pl = APW w i /\ (gD w.c.ms i).ht = AVN w i
abbrev AWM (w : Dk) : Prop := w.c.ns.length = xC w
abbrev BIK (w : Dk) : Prop := ∀ (i : Nat), i < w.c.ns.length -> (gD w.c.ns i).mi = AWU w i /\ (gD w.c.ns i).t.lo = AYX w i /\ (gD w.c.ns i).t.hi = AZI w i /\ (gD w.c.ns i).s.lo = AZT w i /\ (gD w.c.ns
 i).s.hi = ATJ w i
abbrev BII (w : Dk) : Prop := ∀ (n : Int), hasN w.c.ns n = BAO w n
abbrev AZA (w : Dk) : Prop := ∀ (n : Int), (ntOf w.c.ns n).mi = BBT w n /\ (ntOf w.c.ns n).t.lo = BIP w n /\ (ntOf w.c.ns n).t.hi = BIJ w n /\ (ntOf w.c.ns n).s.lo = AYF w n /\ (ntOf w.c.ns n).s.hi =
 AQG w n
abbrev K6 : Prop := (0 : Nat) < (1 : Nat)
abbrev AYE : Prop := (2 : Nat) = (2 : Nat)
abbrev ATF : Prop := (1 : Nat) <= (1 : Nat) /\ (K6 -> AYE)
abbrev AXE (w : Dk) : Cht := Cht.mk w.c.p w.c.base w.c.scale w.c.off (C8 w) (ZV w)
abbrev BCY (w : Dk) : Span := DY (AXE w) (0 : Int)
abbrev wA (a : Nat) (w : Dk) : Prop := (1 : Nat) <= a /\ a <= w.c.ms.length
abbrev uT (a : Nat) : Nat := (40 : Nat) - a
abbrev AQL (w : Dk) : Prop := (stgL w.c).length = (0 : Nat)
abbrev wC (a : Nat) : Nat := a + (1 : Nat)
abbrev BDX (a : Nat) (a1 : Nat) : Prop := a = wC a1
abbrev BGI (w : Dk) (a : Nat) : Span := DY (AXE w) (↑a : Int)
abbrev vV (a : Nat) (w : Dk) : List Span := AE a λ (i : Nat) => DY w.c (↑i : Int)
abbrev Oe (a : Nat) (w : Dk) : Nat := (vV a w).length
abbrev AWS (a : Nat) (w : Dk) : Prop := Oe a w = a
abbrev BHR (a : Nat) (w : Dk) (i : Nat) : Span := gD (vV a w) i
abbrev AYG (a : Nat) (w : Dk) (i : Nat) : Int := (BHR a w i).lo
abbrev BHQ (a : Nat) (w : Dk) (i : Nat) : Int := (BHR a w i).hi
abbrev AUC (a : Nat) : Nat := (0 : Nat) + a
abbrev AWH (w : Dk) (j : Nat) : Span := DY w.c (↑(AUC j) : Int)
theorem CWX (w : Dk) : (CTQ w) = ((∃ (a : One), (Dh /\ (∀ (i : Nat), i < (0 : Nat) -> false = false) /\ AOH w /\ Int.ofNat (0 : Nat) = Int.ofNat (0 : Nat) /\ wR w) /\ True) /\ (∀ (a : One), True -> bif decide
 ((0 : Int) < (↑w.c.ms.length : Int)) then ((0 : Int) = Int.ofNat (0 : Nat) /\ VC w /\ VG w /\ w.c.base = w.c.base /\ w.c.scale = w.c.scale /\ w.c.off = w.c.off /\ BFB w /\ AUE w /\ BGZ w /\ AQH w /\
 WF w /\ AT = AT /\ AZW w /\ PB w /\ AUS w /\ VC w /\ VG w /\ w.c.base = w.c.base /\ w.c.scale = w.c.scale /\ w.c.off = w.c.off /\ APS w /\ BFX w /\ AWM w /\ BIK w /\ WF w /\ AT
 = AT /\ BII w /\ PB w /\ AZA w /\ ((0 : Int) <= (0 : Int) /\ (0 : Int) < (↑(ZL w) : Int)) /\ (True /\ ((0 : Nat) < (0 : Nat) -> (0 : Nat) = (2 : Nat))) /\ ATF /\ (true = true -> K6) /\ (1 : Nat) <=
 (9223372036854775807 : Nat) /\ (16 : Nat) <= (140737488355328 : Nat)) /\ ∃ (a : Nat), (Dh /\ a = (1 : Nat) /\ AOH w /\ (↑a : Int) = IntKind.i64.wrap ((0 : Int) + (1 : Int)) /\ VC w /\ VG w /\ w.c.base =
 w.c.base /\ w.c.scale = w.c.scale /\ w.c.off = w.c.off /\ AOQ w /\ APL w /\ AOK w /\ ANL w /\ WF w /\ AT = AT /\ AMO w /\ PB w /\ F9 w /\ a = (1 : Nat) /\ ∀ (i : Nat), i < a -> (DY w.c (↑i :
 Int)).lo = (BCY w).lo /\ (DY w.c (↑i : Int)).hi = (BCY w).hi) /\ wA a w /\ uT a < (50 : Nat) else (Dh /\ Dh /\ (0 : Nat) < (4611686018427387904 : Nat) /\ True) /\ AQL w /\ AQL w /\
 stgOk w.c = true /\ wR w) /\ ∀ (a : Nat), wA a w -> bif decide ((↑a : Int) < (↑w.c.ms.length : Int)) then ((↑a : Int) = (↑a : Int) /\ VC w /\ VG w /\ w.c.base = w.c.base /\ w.c.scale = w.c.scale /\ w.c.off
 = w.c.off /\ BFB w /\ AUE w /\ BGZ w /\ AQH w /\ WF w /\ AT = AT /\ AZW w /\ PB w /\ AUS w /\ VC w /\ VG w /\ w.c.base = w.c.base /\ w.c.scale = w.c.scale /\ w.c.off = w.c.off /\
 APS w /\ BFX w /\ AWM w /\ BIK w /\ WF w /\ AT = AT /\ BII w /\ PB w /\ AZA w /\ ((0 : Int) <= (↑a : Int) /\ (↑a : Int) < (↑(ZL w) : Int)) /\ (a = a /\ ((0 : Nat) < a -> AYE)) /\
 ATF /\ (false = true -> K6) /\ wC a <= (9223372036854775807 : Nat) /\ wC a * (16 : Nat) <= (140737488355328 : Nat)) /\ ∃ (a_2 : Nat), (Dh /\ BDX a_2 a /\ AOH w /\ (↑a_2 : Int) =
 IntKind.i64.wrap ((↑a : Int) + (1 : Int)) /\ VC w /\ VG w /\ w.c.base = w.c.base /\ w.c.scale = w.c.scale /\ w.c.off = w.c.off /\ AOQ w /\ APL w /\ AOK w /\ ANL w /\ WF w /\ AT = AT /\ AMO w /\
 PB w /\ F9 w /\ BDX a_2 a /\ ∀ (i : Nat), i < a_2 -> ((DY w.c (↑i : Int)).lo = bif decide (i < a) then (DY w.c (↑i : Int)).lo else (BGI w a).lo) /\ (DY w.c (↑i : Int)).hi = bif decide (i < a) then
 (DY w.c (↑i : Int)).hi else (BGI w a).hi) /\ wA a_2 w /\ uT a_2 < uT a else (Dh /\ AWS a w /\ AWS a w /\ (∀ (i : Nat), i < Oe a w -> AYG a w i = (DY w.c (↑i : Int)).lo /\
 BHQ a w i = (DY w.c (↑i : Int)).hi) /\ a = Oe a w /\ (∀ (i : Nat), i < a -> (DY w.c (↑i : Int)).lo = AYG a w i /\ (DY w.c (↑i : Int)).hi = BHQ a w i) /\ Oe a w < (4611686018427387904 : Nat) /\
 True) /\ (stgL w.c).length = a /\ AUC a <= a /\ (∀ (j : Nat), j < (stgL w.c).length -> (gD (stgL w.c) j).lo = (AWH w j).lo /\ (gD (stgL w.c) j).hi = (AWH w j).hi) /\ stgOk w.c = (vV a w).all IW /\ wR
 w) := by kernel_rfl
theorem DAA (w : Dk) (h : 1 <= w.c.ms.length /\ w.c.ms.length <= 40) : CTQ w := by
 obtain ⟨h1, h2⟩ := h
 rw [CWX]; delta Dh AOH VC VG AOQ APL AOK ANL WF AMO PB F9 wR C8 ZL BFB BDK APW AVN AUE ZV xC BGZ A6 AWU BFG AYX AZI AQY AZT ATJ AQH BAO AZW xJ BBT BFD BIP BIJ AUZ AYF AQG AUS APS BFX AWM BIK BII AZA K6 AYE ATF AXE BCY wA uT AQL wC BDX BGI vV Oe AWS BHR AYG BHQ AUC AWH; simp only [CC, eq_self, implies_true, forall_const, BZ]
 refine ⟨⟨default, trivial⟩, ⟨λ h0 => ⟨⟨rfl, by omega, by omega, by omega, by omega, by omega, by omega⟩, 1, ⟨rfl, rfl, rfl, λ i hi => ?_⟩, by omega, by omega⟩, λ h0 => absurd h0 (by omega)⟩, λ k hk => ⟨λ hlt => ⟨⟨by omega, by omega, (λ h => by cases h), by omega, by omega⟩, k + 1, ⟨rfl, (GE (by omega)).symm, rfl, λ i hi => ?_⟩, by omega, by omega⟩, λ hge => ?_⟩⟩
 ·obtain rfl : i = 0 := by omega
  exact ⟨rfl, rfl⟩
 ·by_cases h : i < k
  ·simp [h]
  ·obtain rfl : i = k := by omega
   simp
 ·obtain rfl : k = w.c.ms.length := by omega
  refine ⟨⟨λ i hi => ?_, λ i hi => ?_, by omega⟩, rng_length _ _, by omega, λ j hj => ?_, rfl⟩
  ·rw [BN _ _ _ hi]; exact ⟨rfl, rfl⟩
  ·rw [BN _ _ _ hi]; exact ⟨rfl, rfl⟩
  ·have hj : j < w.c.ms.length := by simpa [stgL] using hj
   unfold stgL; rw [BN _ _ _ hj]; exact ⟨rfl, rfl⟩
theorem BVC : AM Try.prog BXD (C_all.spec Z1) := LF C_all CRV [] [202] CVT (λ _ => by kernel_rfl) (λ _ => AC CWH (AC (CLQ CXN CYD) AJ)) (λ w h => DAA w h) (λ _ => NP rfl rfl) _
def nilS : List Span := []
def PU (c : Cht) : List Span × Int := bif AK c == 0 then bif stgOk c then (stgL c, 0) else ([], 6) else ([], AK c)
def C_Stages : Ctr := { α := Cht, xs := λ c => [.d (XX c)], val := λ c => .tup [.d (AX (PU c).1), .int (PU c).2], keep := λ _ => [], pre := λ c => [c.ms.length < 4611686018427387904 /\ c.ns.length < 4611686018427387904] }
def BXV : Ann := ann 24 [(GR, C_open.spec dC1), (BXD, C_all.spec Z1)]
def BKG : Ann := ann 24 [(GR, C_openX.spec dC1)]
def BWP (c : Cht) : Prop := AZ Try.prog BXV Oi (AL Oi) (C_Stages.xs c) (AG []) (.tup [.d (AX (bif stgOk c then stgL c else [])), .int (bif stgOk c then 0 else 6)]) [] [] []
abbrev Hn (c : Cht) : List Mk := AE c.ms.length λ (i : Nat) => gD c.ms i
abbrev Dl (c : Cht) : Nat := (Hn c).length
abbrev gT (c : Cht) (i : Nat) : Mk := gD (Hn c) i
abbrev Dt (c : Cht) : List Nt := AE c.ns.length λ (i : Nat) => gD c.ns i
abbrev Io (c : Cht) : Nat := (Dt c).length
abbrev Gb (c : Cht) (i : Nat) : Nt := gD (Dt c) i
abbrev kR (c : Cht) (i : Nat) : Span := (Gb c i).t
abbrev jH (c : Cht) (i : Nat) : Span := (Gb c i).s
abbrev kU (c : Cht) : Cht := Cht.mk c.p c.base c.scale c.off (Hn c) (Dt c)
abbrev hZ (c : Cht) : Dk := AH (kU c)
abbrev HS (c : Cht) : Cht := (hZ c).c
abbrev WD (c : Cht) : Span := (HS c).p
abbrev Np (c : Cht) : Int := (WD c).lo
abbrev Sy (c : Cht) : Prop := Np c = Np c
abbrev Na (c : Cht) : Int := (WD c).hi
abbrev Ow (c : Cht) : Prop := Na c = Na c
abbrev WY (c : Cht) : Int := (HS c).base
abbrev Ko (c : Cht) : Prop := WY c = WY c
abbrev WU (c : Cht) : Int := (HS c).scale
abbrev Rz (c : Cht) : Prop := WU c = WU c
abbrev UX (c : Cht) : Int := (HS c).off
abbrev Wk (c : Cht) : Prop := UX c = UX c
abbrev Nd (c : Cht) : List Mk := (HS c).ms
abbrev OM (c : Cht) : Nat := (Nd c).length
abbrev XF (c : Cht) (i : Nat) : Mk := gD (Nd c) i
abbrev WW (c : Cht) : List Mk := AE (OM c) λ (i : Nat) => XF c i
abbrev JY (c : Cht) : Nat := (WW c).length
abbrev Tn (c : Cht) (i : Nat) : Mk := gD (WW c) i
abbrev Mi (c : Cht) (i : Nat) : Int := (Tn c i).pl
abbrev Vd (c : Cht) (i : Nat) : Int := (XF c i).pl
abbrev Nc (c : Cht) (i : Nat) : Int := (Tn c i).ht
abbrev Qk (c : Cht) (i : Nat) : Int := (XF c i).ht
abbrev NZ (c : Cht) : List Nt := (HS c).ns
abbrev OE (c : Cht) : Nat := (NZ c).length
abbrev ON (c : Cht) (i : Nat) : Nt := gD (NZ c) i
abbrev JW (c : Cht) : List Nt := AE (OE c) λ (i : Nat) => ON c i
abbrev WA (c : Cht) : Nat := (JW c).length
abbrev XB (c : Cht) (i : Nat) : Nt := gD (JW c) i
abbrev Pb (c : Cht) (i : Nat) : Int := (XB c i).mi
abbrev Sh (c : Cht) (i : Nat) : Int := (ON c i).mi
abbrev Ph (c : Cht) (i : Nat) : Span := (XB c i).t
abbrev Jv (c : Cht) (i : Nat) : Int := (Ph c i).lo
abbrev Uy (c : Cht) (i : Nat) : Span := (ON c i).t
abbrev Jz (c : Cht) (i : Nat) : Int := (Uy c i).lo
abbrev Vm (c : Cht) (i : Nat) : Int := (Ph c i).hi
abbrev Nh (c : Cht) (i : Nat) : Int := (Uy c i).hi
abbrev Ts (c : Cht) (i : Nat) : Span := (XB c i).s
abbrev Uv (c : Cht) (i : Nat) : Int := (Ts c i).lo
abbrev Pg (c : Cht) (i : Nat) : Span := (ON c i).s
abbrev Mg (c : Cht) (i : Nat) : Int := (Pg c i).lo
abbrev Vr (c : Cht) (i : Nat) : Int := (Ts c i).hi
abbrev Nm (c : Cht) (i : Nat) : Int := (Pg c i).hi
abbrev Wn : Prop := ∀ (i : Nat), i < 40 -> false = false
abbrev Qo (c : Cht) (n : Int) : Bool := hasN (JW c) n
abbrev Wp (c : Cht) (n : Int) : Bool := hasN (NZ c) n
abbrev Pq (c : Cht) (n : Int) : Int := (hZ c).st n
abbrev My (c : Cht) : Prop := ∀ (n : Int), Pq c n = Pq c n
abbrev XQ (c : Cht) (n : Int) : Nt := ntOf (JW c) n
abbrev Up (c : Cht) (n : Int) : Int := (XQ c n).mi
abbrev VN (c : Cht) (n : Int) : Nt := ntOf (NZ c) n
abbrev Pm (c : Cht) (n : Int) : Int := (VN c n).mi
abbrev Jo (c : Cht) (n : Int) : Span := (XQ c n).t
abbrev Wo (c : Cht) (n : Int) : Int := (Jo c n).lo
abbrev Pt (c : Cht) (n : Int) : Span := (VN c n).t
abbrev Vx (c : Cht) (n : Int) : Int := (Pt c n).lo
abbrev Sr (c : Cht) (n : Int) : Int := (Jo c n).hi
abbrev Uz (c : Cht) (n : Int) : Int := (Pt c n).hi
abbrev Tq (c : Cht) (n : Int) : Span := (XQ c n).s
abbrev Nn (c : Cht) (n : Int) : Int := (Tq c n).lo
abbrev Sz (c : Cht) (n : Int) : Span := (VN c n).s
abbrev Vf (c : Cht) (n : Int) : Int := (Sz c n).lo
abbrev Si (c : Cht) (n : Int) : Int := (Tq c n).hi
abbrev Rb (c : Cht) (n : Int) : Int := (Sz c n).hi
abbrev Ug (c : Cht) : Cht := Cht.mk (WD c) (WY c) (WU c) (UX c) (WW c) (JW c)
abbrev WN (c : Cht) : Nat := (bif stgOk c then stgL c else []).length
abbrev Sb (c : Cht) : Prop := WN c = 0
abbrev Qi (c : Cht) : Int := bif stgOk c then 0 else 6
abbrev Rd (c : Cht) : List Span := stgL (Ug c)
abbrev Tv (c : Cht) (i : Nat) : Span := gD (bif stgOk c then stgL c else []) i
abbrev No (c : Cht) (i : Nat) : Span := gD (Rd c) i
theorem CGN (c : Cht) : (BWP c) = ((c.p.lo = c.p.lo /\ c.p.hi = c.p.hi /\ c.base = c.base /\ c.scale = c.scale /\ c.off = c.off /\ Dl c = c.ms.length /\ (∀ (i : Nat), i < Dl c -> (gT c i).pl =
 (gD c.ms i).pl /\ (gT c i).ht = (gD c.ms i).ht) /\ Io c = c.ns.length /\ (∀ (i : Nat), i < Io c -> (Gb c i).mi = (gD c.ns i).mi /\ (kR c i).lo = (gD c.ns i).t.lo /\ (kR c i).hi =
 (gD c.ns i).t.hi /\ (jH c i).lo = (gD c.ns i).s.lo /\ (jH c i).hi = (gD c.ns i).s.hi) /\ (Dl c < 4611686018427387904 /\ Io c < 4611686018427387904) /\ AK (kU c) = 0) /\ (Sy
 c /\ Ow c /\ Ko c /\ Rz c /\ Wk c /\ JY c = OM c /\ (∀ (i : Nat), i < JY c -> Mi c i = Vd c i /\ Nc c i = Qk c i) /\ WA c
 = OE c /\ (∀ (i : Nat), i < WA c -> Pb c i = Sh c i /\ Jv c i = Jz c i /\ Vm c i = Nh c i /\ Uv c i = Mg c i /\ Vr c i =
 Nm c i) /\ Wn /\ AT = AT /\ (∀ (n : Int), Qo c n = Wp c n) /\ My c /\ (∀ (n : Int), Up c n = Pm c n /\ Wo c n = Vx c n /\ Sr c n =
 Uz c n /\ Nn c n = Vf c n /\ Si c n = Rb c n) /\ Sy c /\ Ow c /\ Ko c /\ Rz c /\ Wk c /\ OM c = JY c /\ (∀ (i : Nat), i <
 OM c -> Vd c i = Mi c i /\ Qk c i = Nc c i) /\ OE c = WA c /\ (∀ (i : Nat), i < OE c -> Sh c i = Pb c i /\ Jz c i = Jv
 c i /\ Nh c i = Vm c i /\ Mg c i = Uv c i /\ Nm c i = Vr c i) /\ Wn /\ AT = AT /\ (∀ (n : Int), Wp c n = Qo c n) /\ My c /\ (∀ (n :
 Int), Pm c n = Up c n /\ Vx c n = Wo c n /\ Uz c n = Sr c n /\ Vf c n = Nn c n /\ Rb c n = Si c n) /\ 1 <= JY c /\ JY c
 <= 40) /\ bif !stgOk (Ug c) then Sb c /\ Sb c /\ Qi c = 6 else WN c = (Rd c).length /\ (∀ (i : Nat), i < WN c -> (Tv c i).lo = (No c i).lo /\
 (Tv c i).hi = (No c i).hi) /\ Qi c = 0) := by kernel_rfl
def BJL (c : Cht) : Prop := AZ Try.prog BKG Oi (AL Oi) (C_Stages.xs c) (AG []) (.tup [.d (AX nilS), .int (AK c)]) [] [] []
theorem BZJ (c : Cht) : (BJL c) = ((c.p.lo = c.p.lo /\ c.p.hi = c.p.hi /\ c.base = c.base /\ c.scale = c.scale /\ c.off = c.off /\ (AE c.ms.length λ (i : Nat) => gD c.ms i).length = c.ms.length /\ (∀ (i : Nat),
 i < (AE c.ms.length λ (i : Nat) => gD c.ms i).length -> (gD (AE c.ms.length λ (i : Nat) => gD c.ms i) i).pl = (gD c.ms i).pl /\ (gD (AE c.ms.length λ (i : Nat) => gD c.ms i) i).ht = (gD c.ms i).ht) /\ (AE
 c.ns.length λ (i : Nat) => gD c.ns i).length = c.ns.length /\ (∀ (i : Nat), i < (AE c.ns.length λ (i : Nat) => gD c.ns i).length -> (gD (AE c.ns.length λ (i : Nat) => gD c.ns i) i).mi = (gD c.ns i).mi /\ (gD (AE
 c.ns.length λ (i : Nat) => gD c.ns i) i).t.lo = (gD c.ns i).t.lo /\ (gD (AE c.ns.length λ (i : Nat) => gD c.ns i) i).t.hi = (gD c.ns i).t.hi /\ (gD (AE c.ns.length λ (i : Nat) => gD c.ns i) i).s.lo = (gD c.ns
 i).s.lo /\ (gD (AE c.ns.length λ (i : Nat) => gD c.ns i) i).s.hi = (gD c.ns i).s.hi) /\ ((AE c.ms.length λ (i : Nat) => gD c.ms i).length < 4611686018427387904 /\ (AE c.ns.length λ (i : Nat) => gD c.ns i).length <
 4611686018427387904) /\ AK (Cht.mk c.p c.base c.scale c.off (AE c.ms.length λ (i : Nat) => gD c.ms i) (AE c.ns.length λ (i : Nat) => gD c.ns i)) ≠ 0) /\ bif AK (Cht.mk c.p c.base c.scale c.off (AE
 c.ms.length λ (i : Nat) => gD c.ms i) (AE c.ns.length λ (i : Nat) => gD c.ns i)) != 0 then 0 = 0 /\ 0 = 0 /\ AK c = AK (Cht.mk c.p c.base c.scale c.off (AE c.ms.length λ (i : Nat) => gD c.ms i) (AE
 c.ns.length λ (i : Nat) => gD c.ns i)) else False) := by kernel_rfl
theorem CLW : AM Try.prog AZQ (C_Stages.spec dC1) := okT C_Stages (λ (c : Cht) h => by
 obtain ⟨hm, hn⟩ : c.ms.length < 4611686018427387904 /\ c.ns.length < 4611686018427387904 := h
 by_cases h0 : AK c = 0
 ·have e : C_Stages.val c = .tup [.d (AX (bif stgOk c then stgL c else [])), .int (bif stgOk c then 0 else 6)] := by
   show AVal.tup [.d (AX (PU c).1), .int (PU c).2] = _
   unfold PU; rw [h0]; cases stgOk c <;> rfl
  have hl := ES h0
  rw [e]
  refine UO (A := BXV) (L := []) (keep := []) (ren := []) (fz := []) BKA (by kernel_rfl) (AC K8 (AC BVC AJ)) ?_
  show BWP c; rw [CGN]; delta Hn Dl gT Dt Io Gb kR jH kU hZ HS WD Np Sy Na Ow WY Ko WU Rz UX Wk Nd OM XF WW JY Tn Mi Vd Nc Qk NZ OE ON JW WA XB Pb Sh Ph Jv Uy Jz Vm Nh Ts Uv Pg Mg Vr Nm Wn Qo Wp Pq My XQ Up VN Pm Jo Wo Pt Vx Sr Uz Tq Nn Sz Vf Si Rb Ug WN Sb Qi Rd Tv No; simp only [CC, eq_self, implies_true, forall_const, BZ, AAT]
  refine ⟨⟨⟨hm, hn⟩, h0⟩, by omega, λ h => ?_, λ h => ?_⟩
  ·rw [h]; exact ⟨rfl, rfl, rfl⟩
  ·rw [h]; exact ⟨rfl, λ _ _ => ⟨rfl, rfl⟩, rfl⟩
 ·have h0' : (AK c == 0) = false := by simpa using h0
  have e : C_Stages.val c = .tup [.d (AX []), .int (AK c)] := by
   show AVal.tup [.d (AX (PU c).1), .int (PU c).2] = _
   unfold PU; rw [h0']; rfl
  rw [e]
  refine UO (A := BKG) (L := []) (keep := []) (ren := []) (fz := []) BKA (by kernel_rfl) (AC yX AJ) ?_
  show BJL c; rw [BZJ]; simp only [CC, eq_self, implies_true, forall_const, BZ]
  simp [hm, hn, h0, nilS]) _
end Go.Bal
