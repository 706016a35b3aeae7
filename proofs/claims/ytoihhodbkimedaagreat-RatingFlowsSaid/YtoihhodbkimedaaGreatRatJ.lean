/- Package rating: Flow, Reach. -/
import Derived.Test.YtoihhodbkimedaaGreatRatI
set_option linter.unusedVariables false
set_option linter.unusedSimpArgs false
namespace Go.Bal
open Go Go.Sym Go.Proofs
structure GBt where
 g : List Gau
 b : List Int
 t : Int
def Yi : List AVal -> Heap -> Option (GBt × List (Nat × Nat) × List Nat)
 | [x, y, .d t], H => match Bc x H, XT y H with
  | some (l, f), some (m, e) => some (⟨l, m, DH t⟩, [], f ++ e)
  | _, _ => none
 | _, _ => none
def xGBt (a : GBt) : List AVal := [.d (AS a.g), .d (BC a.b), .int a.t]
def GA (a : GBt) : GB := ⟨a.g, a.b⟩
def inT (a : GBt) : Bool := BY a.t 0 2000
def preT (a : GBt) : Prop := a.g.length < 4611686018427387904 /\ a.b.length < 4611686018427387904
def C_stg : Ctr := { α := GBt, xs := xGBt, L := λ _ => [], val := λ _ => .tup [.bptr 0 0, .int 0], keep := λ a => [(0, .live (bkB (AP (GA a)) 1)), (1, .live (bkM (AP (GA a))))], pre := λ a => [preT a /\ AH (GA a) = 0 /\ inT a = true] }
def C_stgA : Ctr := { α := GBt, xs := xGBt, L := λ _ => [], val := λ _ => .tup [.bptr 0 0, .int 4], keep := λ a => [(0, .live (bkB (AP (GA a)) 1)), (1, .live (bkM (AP (GA a))))], pre := λ a => [preT a /\ AH (GA a) = 0 /\ inT a = false] }
def C_stgX : Ctr := { α := GBt, xs := xGBt, L := λ _ => [], val := λ a => .tup [.d (.v (.pointer none)), .int (AH (GA a))], keep := λ _ => [], pre := λ a => [preT a /\ AH (GA a) ≠ 0] }
def BVO : Ann := ann 25 [(QA, C_open.spec dGB), (sE, Q7)]
def CIM : Ann := ann 25 [(QA, C_openX.spec dGB), (sE, Q7)]
def COZ (a : GBt) : Prop := AN Try.prog BVO TQ (AF TQ) (xGBt a) (AC []) (C_stg.val a) (C_stg.keep a) [(0, 2032), (1, 2033)] []
abbrev AIO (a : GBt) : List Gau := AE a.g.length λ (i : Nat) => gD a.g i
abbrev AIJ (a : GBt) : Nat := (AIO a).length
abbrev AIF (a : GBt) (i : Nat) : Gau := gD (AIO a) i
abbrev AJQ (a : GBt) : List Int := AE a.b.length λ (i : Nat) => gD a.b i
abbrev AGY (a : GBt) : Nat := (AJQ a).length
abbrev BJS (a : GBt) : GB := GB.mk (AIO a) (AJQ a)
abbrev tS (a : GBt) : Bk := AP (BJS a)
abbrev BDB (a : GBt) : List Gau := (tS a).g
abbrev AJB (a : GBt) (i : Nat) : Gau := gD (BDB a) i
abbrev BKH (a : GBt) : List Int := (tS a).b
abbrev ALA : Value := Value.slice none (0 : Nat) (0 : Nat)
abbrev ALG (a : GBt) (n : Int) : List Ln := AK (tS a) n
abbrev Mk (a : GBt) (n : Int) (i : Nat) : Ln := gD (ALG a n) i
abbrev ARL (a : GBt) : Prop := (AP (GA a)).g.length = (BDB a).length /\ (∀ (i : Nat), i < (AP (GA a)).g.length -> (gD (AP (GA a)).g i).st = (AJB a i).st /\ (gD (AP (GA a)).g i).lo = (AJB a i).lo
 /\ (gD (AP (GA a)).g i).hi = (AJB a i).hi) /\ (AP (GA a)).b.length = (BKH a).length /\ (∀ (i : Nat), i < (AP (GA a)).b.length -> gD (AP (GA a)).b i = gD (BKH a) i) /\ ALA = ALA /\ (∀ (n :
 Int), false = false) /\ (∀ (n : Int), (AP (GA a)).st n = (tS a).st n) /\ ∀ (n : Int), (AK (AP (GA a)) n).length = (ALG a n).length /\ ∀ (i : Nat), i < (AK (AP (GA a)) n).length -> (gD (AK (AP (GA a))
 n) i).a0 = (Mk a n i).a0 /\ (gD (AK (AP (GA a)) n) i).a1 = (Mk a n i).a1 /\ (gD (AK (AP (GA a)) n) i).b0 = (Mk a n i).b0 /\ (gD (AK (AP (GA a)) n) i).b1 = (Mk a n i).b1
theorem CRE (a : GBt) : (COZ a) = ((AIJ a = a.g.length /\ (∀ (i : Nat), i < AIJ a -> (AIF a i).st = (gD a.g i).st /\ (AIF a i).lo = (gD a.g i).lo /\ (AIF a i).hi = (gD a.g i).hi) /\ AGY a =
 a.b.length /\ (∀ (i : Nat), i < AGY a -> gD (AJQ a) i = gD a.b i) /\ AIJ a < (4611686018427387904 : Nat) /\ AGY a < (4611686018427387904 : Nat) /\ AH (BJS a) = (0 : Int)) /\ bif bif (0 : Int) == (0 :
 Int) then !BY a.t (0 : Int) (2000 : Int) else false then Int.ofNat (0 : Nat) = Int.ofNat (4 : Nat) /\ ARL a else Int.ofNat (0 : Nat) = Int.ofNat (0 : Nat) /\ ARL a) := by kernel_rfl
def CIO (a : GBt) : Prop := AN Try.prog BVO TQ (AF TQ) (xGBt a) (AC []) (C_stgA.val a) (C_stgA.keep a) [(0, 2032), (1, 2033)] []
abbrev pC (a : GBt) : List Gau := AE a.g.length λ (i : Nat) => gD a.g i
abbrev wE (a : GBt) : Nat := (pC a).length
abbrev uY (a : GBt) (i : Nat) : Gau := gD (pC a) i
abbrev uW (a : GBt) : List Int := AE a.b.length λ (i : Nat) => gD a.b i
abbrev oH (a : GBt) : Nat := (uW a).length
abbrev AON (a : GBt) : GB := GB.mk (pC a) (uW a)
abbrev Qc (a : GBt) : Bk := AP (AON a)
abbrev ANY (a : GBt) : List Gau := (Qc a).g
abbrev qD (a : GBt) (i : Nat) : Gau := gD (ANY a) i
abbrev ASF (a : GBt) : List Int := (Qc a).b
abbrev ACZ : Value := Value.slice none (0 : Nat) (0 : Nat)
abbrev V6 (a : GBt) (n : Int) : List Ln := AK (Qc a) n
abbrev ZF (a : GBt) (n : Int) (i : Nat) : Ln := gD (V6 a n) i
abbrev yU (a : GBt) : Prop := (AP (GA a)).g.length = (ANY a).length /\ (∀ (i : Nat), i < (AP (GA a)).g.length -> (gD (AP (GA a)).g i).st = (qD a i).st /\ (gD (AP (GA a)).g i).lo = (qD a
 i).lo /\ (gD (AP (GA a)).g i).hi = (qD a i).hi) /\ (AP (GA a)).b.length = (ASF a).length /\ (∀ (i : Nat), i < (AP (GA a)).b.length -> gD (AP (GA a)).b i = gD (ASF a) i) /\ ACZ = ACZ /\
 (∀ (n : Int), false = false) /\ (∀ (n : Int), (AP (GA a)).st n = (Qc a).st n) /\ ∀ (n : Int), (AK (AP (GA a)) n).length = (V6 a n).length /\ ∀ (i : Nat), i < (AK (AP (GA a)) n).length -> (gD (AK
 (AP (GA a)) n) i).a0 = (ZF a n i).a0 /\ (gD (AK (AP (GA a)) n) i).a1 = (ZF a n i).a1 /\ (gD (AK (AP (GA a)) n) i).b0 = (ZF a n i).b0 /\ (gD (AK (AP (GA a)) n) i).b1 = (ZF a n i).b1
theorem CKH (a : GBt) : (CIO a) = ((wE a = a.g.length /\ (∀ (i : Nat), i < wE a -> (uY a i).st = (gD a.g i).st /\ (uY a i).lo = (gD a.g i).lo /\ (uY a i).hi = (gD a.g i).hi) /\ oH a
 = a.b.length /\ (∀ (i : Nat), i < oH a -> gD (uW a) i = gD a.b i) /\ wE a < (4611686018427387904 : Nat) /\ oH a < (4611686018427387904 : Nat) /\ AH (AON a) = (0 : Int)) /\ bif bif (0 : Int) ==
 (0 : Int) then !BY a.t (0 : Int) (2000 : Int) else false then Int.ofNat (4 : Nat) = Int.ofNat (4 : Nat) /\ yU a else Int.ofNat (4 : Nat) = Int.ofNat (0 : Nat) /\ yU a) := by kernel_rfl
def CBQ (a : GBt) : Prop := AN Try.prog CIM TQ (AF TQ) (xGBt a) (AC []) (C_stgX.val a) [] [] []
theorem CLV (a : GBt) : (CBQ a) = (((AE a.g.length λ (i : Nat) => gD a.g i).length = a.g.length /\ (∀ (i : Nat), i < (AE a.g.length λ (i : Nat) => gD a.g i).length -> (gD (AE a.g.length λ (i : Nat) => gD
 a.g i) i).st = (gD a.g i).st /\ (gD (AE a.g.length λ (i : Nat) => gD a.g i) i).lo = (gD a.g i).lo /\ (gD (AE a.g.length λ (i : Nat) => gD a.g i) i).hi = (gD a.g i).hi) /\ (AE a.b.length λ (i : Nat) => gD a.b
 i).length = a.b.length /\ (∀ (i : Nat), i < (AE a.b.length λ (i : Nat) => gD a.b i).length -> gD (AE a.b.length λ (i : Nat) => gD a.b i) i = gD a.b i) /\ (AE a.g.length λ (i : Nat) => gD a.g i).length <
 4611686018427387904 /\ (AE a.b.length λ (i : Nat) => gD a.b i).length < 4611686018427387904 /\ AH (GB.mk (AE a.g.length λ (i : Nat) => gD a.g i) (AE a.b.length λ (i : Nat) => gD a.b i)) ≠ 0) /\ bif bif AH
 (GB.mk (AE a.g.length λ (i : Nat) => gD a.g i) (AE a.b.length λ (i : Nat) => gD a.b i)) == 0 then !BY a.t 0 2000 else false then Value.pointer none = Value.pointer none /\ AH (GA a) = 4 else Value.pointer none
 = Value.pointer none /\ AH (GA a) = AH (GB.mk (AE a.g.length λ (i : Nat) => gD a.g i) (AE a.b.length λ (i : Nat) => gD a.b i))) := by kernel_rfl
theorem CFB : AG Try.prog QD (C_stg.spec Yi) := HR C_stg (λ _ => BVO) [(0, 2032), (1, 2033)] [] ADV (λ _ => by kernel_rfl) (λ _ => AB xA (AB Bv AD)) (λ (a : GBt) h => by
 show COZ a; rw [CRE]; delta AIO AIJ AIF AJQ AGY BJS tS BDB AJB BKH ALA ALG Mk ARL; simp only [CC, eq_self, implies_true, forall_const, show GB.mk a.g a.b = GA a from rfl]
 obtain ⟨⟨h1, h2⟩, h3, h4⟩ : preT a /\ AH (GA a) = 0 /\ inT a = true := h
 unfold inT at h4
 refine ⟨⟨h1, h2, h3⟩, λ h => ?_⟩
 rw [show (!BY a.t 0 2000) = false by rw [h4]; rfl] at h; cases h) (λ _ => IN rfl rfl) _
theorem BUE : AG Try.prog QD (C_stgA.spec Yi) := HR C_stgA (λ _ => BVO) [(0, 2032), (1, 2033)] [] ADV (λ _ => by kernel_rfl) (λ _ => AB xA (AB Bv AD)) (λ (a : GBt) h => by
 show CIO a; rw [CKH]; delta pC wE uY uW oH AON Qc ANY qD ASF ACZ V6 ZF yU; simp only [CC, eq_self, implies_true, forall_const, show GB.mk a.g a.b = GA a from rfl]
 obtain ⟨⟨h1, h2⟩, h3, h4⟩ : preT a /\ AH (GA a) = 0 /\ inT a = false := h
 unfold inT at h4
 refine ⟨⟨h1, h2, h3⟩, λ h => ?_⟩
 rw [show (!BY a.t 0 2000) = true by rw [h4]; rfl] at h; cases h) (λ _ => IN rfl rfl) _
theorem BWK : AG Try.prog QD (C_stgX.spec Yi) := HR C_stgX (λ _ => CIM) [] [] ADV (λ _ => by kernel_rfl) (λ _ => AB oN (AB Bv AD)) (λ (a : GBt) h => by
 show CBQ a; rw [CLV]; simp only [CC, eq_self, implies_true, forall_const]
 obtain ⟨⟨h1, h2⟩, h3⟩ : preT a /\ AH (GA a) ≠ 0 := h
 refine ⟨⟨h1, h2, h3⟩, λ h => ?_, λ _ => rfl⟩
 have h3 : AH (GB.mk a.g a.b) ≠ 0 := h3
 rw [show (AH (GB.mk a.g a.b) == 0) = false by simpa using h3] at h; cases h) (λ _ => IN rfl rfl) _
def bkT (a : GBt) : BkT := ⟨AP (GA a), a.t⟩
def BD (a : GBt) : Int := bif AH (GA a) == 0 then (bif inT a then (bif decide ((lB (bkT a)).length = 0) then 6 else 0) else 4) else AH (GA a)
def AU (a : GBt) : Bnd := bif BD a == 0 then SI (lB (bkT a)) a.t else default
def C_Flow : Ctr := { α := GBt, xs := xGBt, L := λ _ => [], val := λ a => .tup [.d (eBnd (AU a)), .int (BD a)], keep := λ _ => [], pre := λ a => [preT a /\ True] }
def BVJ : Ann := ann 33 [(QD, C_stg.spec Yi), (PL, C_bnd.spec dBkt)]
def BVA : Ann := ann 33 [(QD, C_stgA.spec Yi), (PL, C_bnd.spec dBkt)]
def BSY : Ann := { ann 33 [(QD, C_stgX.spec Yi), (PL, C_bnd.spec dBkt)] with cut := λ id => if id = 4 then some [] else none }
def BVP (a : GBt) : Prop := AN Try.prog BVJ gF (AF gF) (xGBt a) (AC []) (C_Flow.val a) [] [] []
abbrev Qq (a : GBt) : List Gau := AE a.g.length λ (i : Nat) => gD a.g i
abbrev Uc (a : GBt) : Nat := (Qq a).length
abbrev Tj (a : GBt) (i : Nat) : Gau := gD (Qq a) i
abbrev Rd (a : GBt) : List Int := AE a.b.length λ (i : Nat) => gD a.b i
abbrev Vf (a : GBt) : Nat := (Rd a).length
abbrev O2 (a : GBt) : GBt := GBt.mk (Qq a) (Rd a) a.t
abbrev D0 (a : GBt) : GB := GA (O2 a)
abbrev NQ (a : GBt) : Bk := AP (D0 a)
abbrev ABQ (a : GBt) : List Gau := (NQ a).g
abbrev YW (a : GBt) : Nat := (ABQ a).length
abbrev SN (a : GBt) (i : Nat) : Gau := gD (ABQ a) i
abbrev UN (a : GBt) : List Gau := AE (YW a) λ (i : Nat) => SN a i
abbrev Ie (a : GBt) : Nat := (UN a).length
abbrev Fw (a : GBt) (i : Nat) : Gau := gD (UN a) i
abbrev iD (a : GBt) (i : Nat) : Int := (SN a i).st
abbrev dB (a : GBt) (i : Nat) : Int := (SN a i).lo
abbrev nJ (a : GBt) (i : Nat) : Int := (SN a i).hi
abbrev dV (a : GBt) : List Int := (NQ a).b
abbrev UI (a : GBt) : Nat := (dV a).length
abbrev Gm (a : GBt) (i : Nat) : Int := gD (dV a) i
abbrev MZ (a : GBt) : List Int := AE (UI a) λ (i : Nat) => Gm a i
abbrev Dt (a : GBt) : Nat := (MZ a).length
abbrev eF : Value := Value.slice none 0 0
abbrev aL (a : GBt) (n : Int) : Int := (NQ a).st n
abbrev Hj (a : GBt) : Bk := Bk.mk (UN a) (MZ a) (NQ a).has (NQ a).st
abbrev kO (a : GBt) (n : Int) : List Ln := AK (Hj a) n
abbrev nD (a : GBt) (n : Int) : Nat := (kO a n).length
abbrev iV (a : GBt) (n : Int) : List Ln := AK (NQ a) n
abbrev SO (a : GBt) (n : Int) (i : Nat) : Ln := gD (kO a n) i
abbrev SA (a : GBt) (n : Int) (i : Nat) : Ln := gD (iV a n) i
abbrev eQ (a : GBt) : BkT := BkT.mk (Hj a) a.t
abbrev bL (a : GBt) : Bk := CF (Hj a) (kB (eQ a))
abbrev lR (a : GBt) : List Gau := (bL a).g
abbrev Ib (a : GBt) (i : Nat) : Gau := gD (lR a) i
abbrev Zk (a : GBt) : List Int := (bL a).b
abbrev fA (a : GBt) : List Ln := lB (eQ a)
abbrev aP (a : GBt) : Bnd := SI (fA a) a.t
abbrev dW (a : GBt) : Rt := (aP a).lo
abbrev gQ (a : GBt) : Rt := (aP a).hi
theorem BZR (a : GBt) : (BVP a) = ((Uc a = a.g.length /\ (∀ (i : Nat), i < Uc a -> (Tj a i).st = (gD a.g i).st /\ (Tj a i).lo = (gD a.g i).lo /\ (Tj a i).hi = (gD a.g i).hi) /\
 Vf a = a.b.length /\ (∀ (i : Nat), i < Vf a -> gD (Rd a) i = gD a.b i) /\ a.t = a.t /\ (Uc a < 4611686018427387904 /\ Vf a < 4611686018427387904) /\ AH (D0 a) = 0 /\ inT (O2
 a) = true) /\ (a.t = a.t /\ Ie a = YW a /\ (∀ (i : Nat), i < Ie a -> (Fw a i).st = iD a i /\ (Fw a i).lo = dB a i /\ (Fw a i).hi = nJ a i) /\ Dt a =
 UI a /\ (∀ (i : Nat), i < Dt a -> gD (MZ a) i = Gm a i) /\ eF = eF /\ (∀ (n : Int), false = false) /\ (∀ (n : Int), aL a n = aL a n) /\ (∀ (n : Int), nD a
 n = (iV a n).length /\ ∀ (i : Nat), i < nD a n -> (SO a n i).a0 = (SA a n i).a0 /\ (SO a n i).a1 = (SA a n i).a1 /\ (SO a n i).b0 = (SA a n i).b0 /\ (SO
 a n i).b1 = (SA a n i).b1) /\ YW a = (lR a).length /\ (∀ (i : Nat), i < YW a -> iD a i = (Ib a i).st /\ dB a i = (Ib a i).lo /\ nJ a i = (Ib a
 i).hi) /\ UI a = (Zk a).length /\ (∀ (i : Nat), i < UI a -> Gm a i = gD (Zk a) i) /\ (Ie a <= 24 /\ (∀ (x : Gau), List.Mem x (UN a) -> 0 <= x.st /\ x.st <= 2000 /\ 0 <= x.lo /\
 x.lo <= x.hi /\ x.hi <= 200000) /\ Dt a <= 24 /\ List.Pairwise (λ (x1 x2 : Int) => x1 < x2) (MZ a) /\ ∀ (x : Int), List.Mem x (MZ a) -> 1 <= x /\ x <= 2000) /\ 0 <= a.t /\ a.t <= 2000) /\ bif !decide
 ((fA a).length ≠ 0) then (AU a).lo.n = 0 /\ (AU a).lo.d = 0 /\ (AU a).hi.n = 0 /\ (AU a).hi.d = 0 /\ BD a = 6 else (AU a).lo.n = (dW a).n /\ (AU a).lo.d = (dW a).d /\ (AU a).hi.n
 = (gQ a).n /\ (AU a).hi.d = (gQ a).d /\ BD a = 0) := by kernel_rfl
def BUZ (a : GBt) : Prop := AN Try.prog BVA gF (AF gF) (xGBt a) (AC []) (C_Flow.val a) [] [] []
theorem CIP (a : GBt) : (BUZ a) = (((AE a.g.length λ (i : Nat) => gD a.g i).length = a.g.length /\ (∀ (i : Nat), i < (AE a.g.length λ (i : Nat) => gD a.g i).length -> (gD (AE a.g.length λ (i : Nat) => gD
 a.g i) i).st = (gD a.g i).st /\ (gD (AE a.g.length λ (i : Nat) => gD a.g i) i).lo = (gD a.g i).lo /\ (gD (AE a.g.length λ (i : Nat) => gD a.g i) i).hi = (gD a.g i).hi) /\ (AE a.b.length λ (i : Nat) => gD a.b
 i).length = a.b.length /\ (∀ (i : Nat), i < (AE a.b.length λ (i : Nat) => gD a.b i).length -> gD (AE a.b.length λ (i : Nat) => gD a.b i) i = gD a.b i) /\ a.t = a.t /\ ((AE a.g.length λ (i : Nat) => gD a.g i).length
 < 4611686018427387904 /\ (AE a.b.length λ (i : Nat) => gD a.b i).length < 4611686018427387904) /\ AH (GA (GBt.mk (AE a.g.length λ (i : Nat) => gD a.g i) (AE a.b.length λ (i : Nat) => gD a.b i) a.t)) = 0 /\ inT
 (GBt.mk (AE a.g.length λ (i : Nat) => gD a.g i) (AE a.b.length λ (i : Nat) => gD a.b i) a.t) = false) /\ (AU a).lo.n = 0 /\ (AU a).lo.d = 0 /\ (AU a).hi.n = 0 /\ (AU a).hi.d = 0 /\ BD a = 4) := by
 kernel_rfl
def BVZ (a : GBt) : Prop := AN Try.prog BSY gF (AF gF) (xGBt a) (AC []) (C_Flow.val a) [] [] []
theorem CGG (a : GBt) : (BVZ a) = (((AE a.g.length λ (i : Nat) => gD a.g i).length = a.g.length /\ (∀ (i : Nat), i < (AE a.g.length λ (i : Nat) => gD a.g i).length -> (gD (AE a.g.length λ (i : Nat) => gD
 a.g i) i).st = (gD a.g i).st /\ (gD (AE a.g.length λ (i : Nat) => gD a.g i) i).lo = (gD a.g i).lo /\ (gD (AE a.g.length λ (i : Nat) => gD a.g i) i).hi = (gD a.g i).hi) /\ (AE a.b.length λ (i : Nat) => gD a.b
 i).length = a.b.length /\ (∀ (i : Nat), i < (AE a.b.length λ (i : Nat) => gD a.b i).length -> gD (AE a.b.length λ (i : Nat) => gD a.b i) i = gD a.b i) /\ a.t = a.t /\ ((AE a.g.length λ (i : Nat) => gD a.g i).length
 < 4611686018427387904 /\ (AE a.b.length λ (i : Nat) => gD a.b i).length < 4611686018427387904) /\ AH (GA (GBt.mk (AE a.g.length λ (i : Nat) => gD a.g i) (AE a.b.length λ (i : Nat) => gD a.b i) a.t)) ≠ 0) /\
 (bif AH (GA (GBt.mk (AE a.g.length λ (i : Nat) => gD a.g i) (AE a.b.length λ (i : Nat) => gD a.b i) a.t)) != 0 then (AU a).lo.n = 0 /\ (AU a).lo.d = 0 /\ (AU a).hi.n = 0 /\ (AU a).hi.d = 0 /\ BD a =
 AH (GA (GBt.mk (AE a.g.length λ (i : Nat) => gD a.g i) (AE a.b.length λ (i : Nat) => gD a.b i) a.t)) else False) /\ True) := by kernel_rfl
theorem CCN : ∀ (l : List Int) (x : Int), 0 <= x /\ x <= 2000 -> brk x l = 0 -> l.Pairwise (· < ·) /\ ∀ y ∈ l, x < y /\ y <= 2000
 | [], _, _, _ => ⟨.nil, by simp⟩
 | z :: l, x, hx, h => by
  unfold brk at h
  cases hi : BY z (wr (x + 1)) 2000 with
  | false => rw [hi] at h; cases h
  | true =>
   rw [hi] at h
   unfold wr BY at hi
   rw [EV (n := x + 1) (by omega) (by omega)] at hi
   simp only [Bool.and_eq_true, decide_eq_true_eq] at hi
   obtain ⟨h1, h2⟩ := CCN l z (by omega) h
   refine ⟨List.pairwise_cons.2 ⟨λ y hy => (h2 y hy).1, h1⟩, λ y hy => ?_⟩
   rcases List.mem_cons.1 hy with rfl | hy
   ·exact ⟨by omega, by omega⟩
   ·have := h2 y hy; exact ⟨by omega, this.2⟩
theorem HP {a : GB} (h : AH a = 0) : GZ a.g a.b := by
 unfold AH at h
 cases h1 : AQ a.g == 0 with
 | false => rw [h1] at h; rw [show AQ a.g = 0 from h] at h1; cases h1
 | true =>
  rw [h1] at h
  have h : DQ a.b = 0 := h
  have h1 : AQ a.g = 0 := by simpa using h1
  unfold AQ at h1
  cases h2 : BY a.g.length 1 24 with
  | false => rw [h2] at h1; cases h1
  | true =>
   rw [h2] at h1
   cases h3 : a.g.all Ck with
   | false => rw [h3] at h1; cases h1
   | true =>
    unfold BY at h2
    simp only [Bool.and_eq_true, decide_eq_true_eq] at h2
    unfold DQ at h
    split at h
    ·cases h
    ·obtain ⟨h5, h6⟩ := CCN _ 0 (by omega) h
     refine ⟨by omega, λ x hx => ?_, by omega, h5, λ y hy => ⟨by have := h6 y hy; omega, (h6 y hy).2⟩⟩
     have := List.all_eq_true.1 h3 x hx
     unfold Ck BY at this
     simp only [Bool.and_eq_true, decide_eq_true_eq] at this
     unfold DJ; omega
theorem BUP : AG Try.prog BHX (C_Flow.spec Yi) := Ctr.spec_ok (C := C_Flow) (λ (a : GBt) h => by
 have h : preT a := (show preT a /\ True from h).1
 by_cases hE : AH (GA a) = 0
 ·cases hT : inT a with
  | true =>
   refine KZ (A := BVJ) (L := []) (keep := []) (ren := []) (fz := []) BKD (by kernel_rfl) (AB CFB (AB Cs AD)) ?_
   show BVP a; rw [BZR]; delta Qq Uc Tj Rd Vf O2 D0 NQ ABQ YW SN UN Ie Fw iD dB nJ dV UI Gm MZ Dt eF aL Hj kO nD iV SO SA eQ bL lR Ib Zk fA aP dW gQ; simp only [CC, eq_self, implies_true, forall_const, JG, JP, Iz, Iy, JT, show GBt.mk a.g a.b a.t = a from rfl, show BkT.mk (AP (GA a)) a.t = bkT a from rfl]
   have hi : 0 <= a.t /\ a.t <= 2000 := by
    unfold inT BY at hT; simpa using hT
   have hb : GZ (GA a).g (GA a).b := HP hE
   refine ⟨⟨h, hE, hT⟩, ⟨hb, hi⟩, λ hc => ?_, λ hc => ?_⟩
   ·have e : BD a = 6 := by unfold BD; rw [hE, hT, decide_eq_true (show (lB (bkT a)).length = 0 by omega)]; rfl
    have e2 : AU a = default := by unfold AU; rw [e]; rfl
    rw [e2]; exact ⟨rfl, rfl, rfl, rfl, e⟩
   ·have e : BD a = 0 := by unfold BD; rw [hE, hT, decide_eq_false hc]; rfl
    have e2 : AU a = SI (lB (bkT a)) a.t := by unfold AU; rw [e]; rfl
    rw [e2]; exact ⟨rfl, rfl, rfl, rfl, e⟩
  | false =>
   refine KZ (A := BVA) (L := []) (keep := []) (ren := []) (fz := []) BKD (by kernel_rfl) (AB BUE (AB Cs AD)) ?_
   show BUZ a; rw [CIP]; simp only [CC, eq_self, implies_true, forall_const, show GBt.mk a.g a.b a.t = a from rfl]
   have e : BD a = 4 := by unfold BD; rw [hE, hT]; rfl
   have e2 : AU a = default := by unfold AU; rw [e]; rfl
   rw [e2]; exact ⟨⟨h, hE, hT⟩, rfl, rfl, rfl, rfl, e⟩
 ·refine KZ (A := BSY) (L := []) (keep := []) (ren := []) (fz := []) BKD (by kernel_rfl) (AB BWK (AB Cs AD)) ?_
  show BVZ a; rw [CGG]; simp only [CC, eq_self, implies_true, forall_const, show GBt.mk a.g a.b a.t = a from rfl]
  have e : BD a = AH (GA a) := by unfold BD; rw [show (AH (GA a) == 0) = false by simpa using hE]; rfl
  have e2 : AU a = default := by unfold AU; rw [e, show (AH (GA a) == 0) = false by simpa using hE]; rfl
  rw [e2]; exact ⟨⟨h, hE⟩, λ _ => ⟨rfl, rfl, rfl, rfl, e⟩, λ hc => hE (by simpa using hc)⟩) _
end Go.Bal
