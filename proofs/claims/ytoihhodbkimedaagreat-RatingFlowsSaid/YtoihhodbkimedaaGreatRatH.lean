/- Package rating: the least and the greatest flow at a stage. -/
import Derived.Test.YtoihhodbkimedaaGreatRatG
set_option linter.unusedVariables false
set_option linter.unusedSimpArgs false
namespace Go.Bal
open Go Go.Sym Go.Proofs
def YB (p q : Rt) : Int := HU (wr (p.n * q.d)) (wr (q.n * p.d))
def BHN := pD dR2 λ x => .bool (decide (YB x.lo x.hi < 0))
def AJK := pD dR2 λ x => .bool (decide (YB x.lo x.hi > 0))
def A_lm : Ann := ann 9 [(Qs, P3)]
def BVC (a : Bnd) : Prop := AN Try.prog A_lm BFM (AF BFM) (xR2 a) (AC []) (.bool (decide (YB a.lo a.hi < 0))) [] [] []
theorem CDF (a : Bnd) : (BVC a) = (decide (YB a.lo a.hi < 0) = decide (HU (wr (a.lo.n * a.hi.d)) (wr (a.hi.n * a.lo.d)) < 0)) := by kernel_rfl
def BVL (a : Bnd) : Prop := AN Try.prog A_lm BLE (AF BLE) (xR2 a) (AC []) (.bool (decide (YB a.lo a.hi > 0))) [] [] []
theorem CAQ (a : Bnd) : (BVL a) = (decide (YB a.lo a.hi > 0) = decide (HU (wr (a.lo.n * a.hi.d)) (wr (a.hi.n * a.lo.d)) > 0)) := by kernel_rfl
theorem CFR : AG Try.prog FW BHN := EL xR2 hR2 λ g _ => KZ (A := A_lm) (ren := []) (fz := []) CDO (by kernel_rfl) (AB Gs AD) (by
 show BVC g; rw [CDF]; rfl)
theorem ASC : AG Try.prog FG AJK := EL xR2 hR2 λ g _ => KZ (A := A_lm) (ren := []) (fz := []) BZW (by kernel_rfl) (AB Gs AD) (by
 show BVL g; rw [CAQ]; rfl)
def CPK : AVal := .agg [.fn (.func FW) [] []]
def CPQ : AVal := .agg [.fn (.func FG) [] []]
def d0 : List AVal -> Heap -> Option (One × List (Nat × Nat) × List Nat)
 | [], _ => some (default, [], [])
 | _, _ => none
def C_less : Ctr := { α := One, xs := λ _ => [], L := λ _ => [], val := λ _ => CPK, keep := λ _ => [] }
def C_more : Ctr := { α := One, xs := λ _ => [], L := λ _ => [], val := λ _ => CPQ, keep := λ _ => [] }
def CHZ (_x : One) : Prop := AN Try.prog (ann 2 []) BRA (AF BRA) [] (AC []) CPK [] [] []
theorem CLX (_x : One) : (CHZ _x) = (True) := by kernel_rfl
def CDX (_x : One) : Prop := AN Try.prog (ann 2 []) BRG (AF BRG) [] (AC []) CPQ [] [] []
theorem CMB (_x : One) : (CDX _x) = (True) := by kernel_rfl
def dAL : List AVal -> Option LnI
 | [.d (.iface 72 (.agg [.v (.int .i64 a), .v (.int .i64 b), .v (.int .i64 c), .v (.int .i64 d)])), .d (.v (.int .i64 s))] => some ⟨⟨a, b, c, d⟩, s⟩
 | _ => none
def xAL (a : LnI) : List AVal := [.d (.iface 72 (eLn a.x)), .int a.s]
def BPD := pD dAL (λ a => .d (xQ (BT a.x a.s))) (λ a => [DR a.x, 0 <= a.s /\ a.s <= 2000])
def CDC (a : LnI) : Prop := AN Try.prog (ann 8 [(AHV, BKN)]) BJO (AF BJO) (xAL a) (AC []) (.d (xQ (BT a.x a.s))) [] [] []
theorem CLS (a : LnI) : (CDC a) = (((0 <= a.x.a0 /\ a.x.a0 < a.x.b0 /\ a.x.b0 <= 2000 /\ 0 <= a.x.a1 /\ a.x.a1 <= a.x.b1 /\ a.x.b1 <= 200000) /\ 0 <= a.s /\ a.s <= 2000) /\ (BT a.x a.s).n = (BT a.x a.s).n /\ (BT a.x
 a.s).d = (BT a.x a.s).d) := by kernel_rfl
theorem AHT : AG Try.prog BGU (C_less.spec d0) := HR C_less (λ _ => ann 2 []) [] [] CLN (λ _ => by kernel_rfl) (λ _ => AD) (λ (x : One) _ => by
 show CHZ x; rw [CLX]; trivial) (λ _ => IN rfl rfl) _
theorem Vb : AG Try.prog ATR (C_more.spec d0) := HR C_more (λ _ => ann 2 []) [] [] CLM (λ _ => by kernel_rfl) (λ _ => AD) (λ (x : One) _ => by
 show CDX x; rw [CMB]; trivial) (λ _ => IN rfl rfl) _
theorem hAL (xs : List AVal) (a : LnI) (h : dAL xs = some a) : xs = xAL a := by
 unfold dAL at h; split at h <;> cases h; rfl
theorem BDM : AG Try.prog AGO BPD := EL xAL hAL λ a h => KZ (A := ann 8 [(AHV, BKN)]) (ren := []) (fz := []) CFH (by kernel_rfl) (AB CDP AD) (by
 show CDC a; rw [CLS]; exact ⟨⟨h.1, h.2⟩, rfl, rfl⟩)
def JN (lt : Rt -> Rt -> Bool) (t : Int) (b x : Ln) : Ln := bif lt (BT x t) (BT b t) then x else b
def BA (lt : Rt -> Rt -> Bool) (t : Int) (l : List Ln) (i : Nat) : Ln := (l.take i).foldl (JN lt t) (gD l 0)
def GI (lt : Rt -> Rt -> Bool) (t : Int) (l : List Ln) : Ln := l.foldl (JN lt t) (gD l 0)
def LS (p q : Rt) : Bool := decide (YB p q < 0)
def LR (p q : Rt) : Bool := decide (YB p q > 0)
structure BkT where
 w : Bk
 st : Int
def kB (a : BkT) : Int := ET a.w.b a.st
def lB (a : BkT) : List Ln := CR (KY a.w (kB a)) a.st
def dBkT (n : FuncId) : List AVal -> Heap -> Option (BkT × List (Nat × Nat) × List Nat)
 | [.bptr id _, .d t, .agg [.fn (.func g) [] []]], H => if g = n then match BBF H id with
  | some (w, q) => some (⟨w, DH t⟩, [(100, id), (101, q)], [])
  | none => none else none
 | _, _ => none
def bvL (x : Ln) (b : Bool) : AVal := .tup [.d (eLn x), .bool b]
def be6 (lt : Rt -> Rt -> Bool) (n : FuncId) (a : BkT) : Shape := { α := Nat, dflt := 0, T := λ i => ⟨[(1, .int a.st), (5, .bptr 1000 0), (6, .bptr 1016 0), (9, .bptr 5048 0), (29, .d (eLns (lB a))), (30, .int (lB a).length), (31, .int i)], bkK (CF a.w (kB a)) ++ [(1000, .live (.box [.fn (.func n) [] []])), (1016, zLn), (5048, .live (.box [.int (BA lt a.st (lB a) i).a0, .int (BA lt a.st (lB a) i).a1, .int (BA lt a.st (lB a) i).b0, .int (BA lt a.st (lB a) i).b1]))]⟩, inv := λ i => i <= (lB a).length, meas := λ i => (lB a).length - i }
def JF (lt : Rt -> Rt -> Bool) (n : FuncId) : Ctr := { ro := [100], α := BkT, xs := λ a => [.bptr 100 0, .int a.st, .agg [.fn (.func n) [] []]], L := λ a => bkL a.w, val := λ a => bvL (bif decide ((lB a).length = 0) then default else GI lt a.st (lB a)) (decide ((lB a).length ≠ 0)), keep := λ a => bkK (CF a.w (kB a)), pre := λ a => [GZ a.w.g a.w.b /\ 0 <= a.st /\ a.st <= 2000] }
def BJV (lt : Rt -> Rt -> Bool) (n : FuncId) (f : Sym.Spec) (a : BkT) : Ann := { ann 49 [(BLD, C_part.spec dIX), (tN, C_lns.spec dBkS), (AGO, BPD), (n, f)] with E := [100, 101], loops := λ id => if id = 6 then some [be6 lt n a] else none }
def BUA (a : BkT) : Prop := AN Try.prog (BJV LS FW BHN a) AKY (AF AKY) ((JF LS FW).xs a) (AC ((JF LS FW).L a)) ((JF LS FW).val a) ((JF LS FW).keep a) [] []
abbrev LX (a : BkT) : List Int := AE a.w.b.length λ (i : Nat) => gD a.w.b i
abbrev Cc (a : BkT) : Nat := (LX a).length
abbrev yC (a : BkT) : Prop := Cc a = a.w.b.length
abbrev Z7 (a : BkT) : Prop := ∀ (i : Nat), i < Cc a -> gD (LX a) i = gD a.w.b i
abbrev AEE (a : BkT) : Prop := List.Pairwise (λ (x1 x2 : Int) => x1 < x2) (LX a)
abbrev WM (a : BkT) : Nat := ET (LX a) a.st
abbrev YX (a : BkT) : List Gau := AE a.w.g.length λ (i : Nat) => gD a.w.g i
abbrev Re (a : BkT) : Nat := (YX a).length
abbrev Wn (a : BkT) (i : Nat) : Gau := gD (YX a) i
abbrev ABS : Value := Value.slice none (0 : Nat) (0 : Nat)
abbrev KF : Prop := ABS = ABS
abbrev Ee (a : BkT) : Bk := Bk.mk (YX a) (LX a) a.w.has a.w.st
abbrev iM (a : BkT) (n : Int) : List Ln := AK (Ee a) n
abbrev mK (a : BkT) (n : Int) : Nat := (iM a n).length
abbrev TC (a : BkT) (n : Int) (i : Nat) : Ln := gD (iM a n) i
abbrev OF (a : BkT) : Bk := CF (Ee a) (↑(WM a) : Int)
abbrev eV (a : BkT) : List Gau := (OF a).g
abbrev Fa (a : BkT) (i : Nat) : Gau := gD (eV a) i
abbrev fY (a : BkT) : List Int := (OF a).b
abbrev Gk (a : BkT) : Prop := (0 : Int) <= a.st /\ a.st <= (2000 : Int)
abbrev Df (a : BkT) : List Ln := CR (sB (BkS.mk (Ee a) (↑(WM a) : Int) a.st)) a.st
abbrev TN (a : BkT) : Nat := (Df a).length
abbrev UQ (a : BkT) : Ln := bif decide ((lB a).length = (0 : Nat)) then default else GI LS a.st (lB a)
abbrev Zl (a : BkT) : Int := (UQ a).a0
abbrev cX (a : BkT) : Int := (UQ a).a1
abbrev Zh (a : BkT) : Int := (UQ a).b0
abbrev fF (a : BkT) : Int := (UQ a).b1
abbrev mP (a : BkT) : Bool := decide ((lB a).length ≠ (0 : Nat))
abbrev fK (a : BkT) : Prop := (CF a.w (kB a)).g.length = a.w.g.length
abbrev lC (i : Nat) (a : BkT) : Prop := i < (CF a.w (kB a)).g.length
abbrev Cu (a : BkT) (i : Nat) : Gau := gD (CF a.w (kB a)).g i
abbrev Dz (a : BkT) (i : Nat) : Int := (Cu a i).st
abbrev Cl (a : BkT) (i : Nat) : Int := (Cu a i).lo
abbrev Dn (a : BkT) (i : Nat) : Int := (Cu a i).hi
abbrev kT (a : BkT) : Prop := ∀ (i : Nat), lC i a -> Dz a i = (gD a.w.g i).st /\ Cl a i = (gD a.w.g i).lo /\ Dn a i = (gD a.w.g i).hi
abbrev lT (a : BkT) : Prop := (CF a.w (kB a)).b.length = a.w.b.length
abbrev eE (i : Nat) (a : BkT) : Prop := i < (CF a.w (kB a)).b.length
abbrev Eu (a : BkT) (i : Nat) : Int := gD (CF a.w (kB a)).b i
abbrev kG (a : BkT) : Prop := ∀ (i : Nat), eE i a -> Eu a i = gD a.w.b i
abbrev mX (a : BkT) : Prop := ∀ (n : Int), (CF a.w (kB a)).has n = (OF a).has n
abbrev aR (a : BkT) : Prop := ∀ (n : Int), (CF a.w (kB a)).st n = (OF a).st n
abbrev iN (a : BkT) (n : Int) : List Ln := AK (OF a) n
abbrev gP (i : Nat) (a : BkT) (n : Int) : Prop := i < (AK (CF a.w (kB a)) n).length
abbrev RX (a : BkT) (n : Int) (i : Nat) : Ln := gD (AK (CF a.w (kB a)) n) i
abbrev Di (a : BkT) (n : Int) (i : Nat) : Int := (RX a n i).a0
abbrev SX (a : BkT) (n : Int) (i : Nat) : Ln := gD (iN a n) i
abbrev Dw (a : BkT) (n : Int) (i : Nat) : Int := (RX a n i).a1
abbrev Gq (a : BkT) (n : Int) (i : Nat) : Int := (RX a n i).b0
abbrev Fr (a : BkT) (n : Int) (i : Nat) : Int := (RX a n i).b1
abbrev jX (a : BkT) : Prop := ∀ (n : Int), (AK (CF a.w (kB a)) n).length = (iN a n).length /\ ∀ (i : Nat), gP i a n -> Di a n i = (SX a n i).a0 /\ Dw a n i = (SX a n
 i).a1 /\ Gq a n i = (SX a n i).b0 /\ Fr a n i = (SX a n i).b1
abbrev TZ (a : BkT) (i : Nat) : Ln := gD (Df a) i
abbrev DN : Prop := Int.ofNat (0 : Nat) = Int.ofNat (0 : Nat)
abbrev TR (a : BkT) : Ln := gD (Df a) (Int.toNat (0 : Int))
abbrev bX (a : Nat) (a1 : BkT) : Prop := (↑a : Int) < (↑(lB a1).length : Int)
abbrev lZ (a : BkT) : Prop := (lB a).length = (lB a).length
abbrev mO (a : BkT) : Prop := ∀ (i : Nat), i < (lB a).length -> (gD (lB a) i).a0 = (gD (lB a) i).a0 /\ (gD (lB a) i).a1 = (gD (lB a) i).a1 /\ (gD (lB a) i).b0 = (gD (lB a) i).b0 /\ (gD (lB a) i).b1 = (gD (lB a) i).b1
abbrev fM (a : BkT) : Prop := (↑(lB a).length : Int) = (↑(lB a).length : Int)
abbrev jP (a : Nat) (a1 : Nat) : Prop := (↑a : Int) = IntKind.i64.wrap ((↑a1 : Int) + (1 : Int))
abbrev Ew (a : BkT) : Prop := (CF a.w (kB a)).g.length = (CF a.w (kB a)).g.length
abbrev Eb (a : BkT) : Prop := ∀ (i : Nat), lC i a -> Dz a i = Dz a i /\ Cl a i = Cl a i /\ Dn a i = Dn a i
abbrev Er (a : BkT) : Prop := (CF a.w (kB a)).b.length = (CF a.w (kB a)).b.length
abbrev Ev (a : BkT) : Prop := ∀ (i : Nat), eE i a -> Eu a i = Eu a i
abbrev Fe (a : BkT) : Prop := ∀ (n : Int), (CF a.w (kB a)).has n = (CF a.w (kB a)).has n
abbrev Ik (a : BkT) : Prop := ∀ (n : Int), (CF a.w (kB a)).st n = (CF a.w (kB a)).st n
abbrev Hx (a : BkT) : Prop := ∀ (n : Int), (AK (CF a.w (kB a)) n).length = (AK (CF a.w (kB a)) n).length /\ ∀ (i : Nat), gP i a n -> Di a n i = Di a n i /\ Dw a n i = Dw a
 n i /\ Gq a n i = Gq a n i /\ Fr a n i = Fr a n i
abbrev mE (a : BkT) (a1 : Nat) : Nat := (lB a).length - a1
abbrev aY (a : Nat) (a1 : BkT) (a2 : Nat) : Prop := a.le (lB a1).length /\ mE a1 a < mE a1 a2
theorem CBT (a : BkT) : (BUA a) = ((yC a /\ Z7 a /\ a.st = a.st /\ (Cc a < (4611686018427387904 : Nat) /\ AEE a) /\ (↑(WM a) : Int) = (↑(WM a) : Int) /\ a.st = a.st /\ Re
 a = a.w.g.length /\ (∀ (i : Nat), i < Re a -> (Wn a i).st = (gD a.w.g i).st /\ (Wn a i).lo = (gD a.w.g i).lo /\ (Wn a i).hi = (gD a.w.g i).hi) /\ yC a /\ Z7 a /\ KF /\ (∀ (n :
 Int), a.w.has n = a.w.has n) /\ (∀ (n : Int), a.w.st n = a.w.st n) /\ (∀ (n : Int), mK a n = (AK a.w n).length /\ ∀ (i : Nat), i < mK a n -> (TC a n i).a0 = (gD (AK a.w n) i).a0 /\ (TC a n
 i).a1 = (gD (AK a.w n) i).a1 /\ (TC a n i).b0 = (gD (AK a.w n) i).b0 /\ (TC a n i).b1 = (gD (AK a.w n) i).b1) /\ a.w.g.length = (eV a).length /\ (∀ (i : Nat), i < a.w.g.length -> (gD a.w.g i).st =
 (Fa a i).st /\ (gD a.w.g i).lo = (Fa a i).lo /\ (gD a.w.g i).hi = (Fa a i).hi) /\ a.w.b.length = (fY a).length /\ (∀ (i : Nat), i < a.w.b.length -> gD a.w.b i = gD (fY a) i) /\
 (Re a <= (24 : Nat) /\ (∀ (x : Gau), List.Mem x (YX a) -> (0 : Int) <= x.st /\ x.st <= (2000 : Int) /\ (0 : Int) <= x.lo /\ x.lo <= x.hi /\ x.hi <= (200000 : Int)) /\ Cc a <= (24 : Nat) /\ AEE a /\ ∀ (x :
 Int), List.Mem x (LX a) -> (1 : Int) <= x /\ x <= (2000 : Int)) /\ Gk a) /\ bif (↑(TN a) : Int) == (0 : Int) then Zl a = (0 : Int) /\ cX a = (0 : Int) /\ Zh a = (0 : Int) /\
 fF a = (0 : Int) /\ mP a = false /\ fK a /\ kT a /\ lT a /\ kG a /\ KF /\ mX a /\ aR a /\ jX a else ((0 : Int) <= (0 : Int) /\ (0 : Int) <
 (↑(TN a) : Int)) /\ (∃ (a_1 : Nat), (a.st = a.st /\ (lB a).length = TN a /\ (∀ (i : Nat), i < (lB a).length -> (gD (lB a) i).a0 = (TZ a i).a0 /\ (gD (lB a) i).a1 = (TZ a i).a1 /\ (gD (lB a)
 i).b0 = (TZ a i).b0 /\ (gD (lB a) i).b1 = (TZ a i).b1) /\ (↑(lB a).length : Int) = (↑(TN a) : Int) /\ (↑a_1 : Int) = (0 : Int) /\ fK a /\ kT a /\ lT a /\ kG a /\ KF
 /\ mX a /\ aR a /\ jX a /\ DN /\ DN /\ DN /\ DN /\ (BA LS a.st (lB a) a_1).a0 = (TR a).a0 /\ (BA LS a.st (lB a) a_1).a1 = (TR a).a1 /\ (BA LS a.st
 (lB a) a_1).b0 = (TR a).b0 /\ (BA LS a.st (lB a) a_1).b1 = (TR a).b1) /\ a_1.le (lB a).length) /\ ∀ (a_1 : Nat), a_1.le (lB a).length -> bif decide (bX a_1 a) then ((0 : Int) <= (↑a_1 : Int) /\
 bX a_1 a) /\ (((0 : Int) <= (gD (lB a) a_1).a0 /\ (gD (lB a) a_1).a0 < (gD (lB a) a_1).b0 /\ (gD (lB a) a_1).b0 <= (2000 : Int) /\ (0 : Int) <= (gD (lB a) a_1).a1 /\ (gD (lB a) a_1).a1 <= (gD (lB a) a_1).b1 /\ (gD (lB a)
 a_1).b1 <= (200000 : Int)) /\ Gk a /\ ((0 : Int) <= (BA LS a.st (lB a) a_1).a0 /\ (BA LS a.st (lB a) a_1).a0 < (BA LS a.st (lB a) a_1).b0 /\ (BA LS a.st (lB a) a_1).b0 <= (2000 : Int) /\ (0 : Int) <=
 (BA LS a.st (lB a) a_1).a1 /\ (BA LS a.st (lB a) a_1).a1 <= (BA LS a.st (lB a) a_1).b1 /\ (BA LS a.st (lB a) a_1).b1 <= (200000 : Int)) /\ Gk a) /\ bif decide (YB (BT (gD (lB a) a_1) a.st) (BT
 (BA LS a.st (lB a) a_1) a.st) < (0 : Int)) then ∃ (a_3 : Nat), (a.st = a.st /\ lZ a /\ mO a /\ fM a /\ jP a_3 a_1 /\ Ew a /\ Eb a /\ Er a /\ Ev a /\ KF /\
 Fe a /\ Ik a /\ Hx a /\ DN /\ DN /\ DN /\ DN /\ (BA LS a.st (lB a) a_3).a0 = (gD (lB a) a_1).a0 /\ (BA LS a.st (lB a) a_3).a1 = (gD (lB a) a_1).a1 /\ (BA LS a.st
 (lB a) a_3).b0 = (gD (lB a) a_1).b0 /\ (BA LS a.st (lB a) a_3).b1 = (gD (lB a) a_1).b1) /\ aY a_3 a a_1 else ∃ (a_3 : Nat), (a.st = a.st /\ lZ a /\ mO a /\ fM a /\ jP a_3 a_1 /\
 Ew a /\ Eb a /\ Er a /\ Ev a /\ KF /\ Fe a /\ Ik a /\ Hx a /\ DN /\ DN /\ DN /\ DN /\ (BA LS a.st (lB a) a_3).a0 = (BA LS a.st
 (lB a) a_1).a0 /\ (BA LS a.st (lB a) a_3).a1 = (BA LS a.st (lB a) a_1).a1 /\ (BA LS a.st (lB a) a_3).b0 = (BA LS a.st (lB a) a_1).b0 /\ (BA LS a.st (lB a) a_3).b1 = (BA LS a.st (lB a) a_1).b1) /\
 aY a_3 a a_1 else Zl a = (BA LS a.st (lB a) a_1).a0 /\ cX a = (BA LS a.st (lB a) a_1).a1 /\ Zh a = (BA LS a.st (lB a) a_1).b0 /\ fF a = (BA LS a.st (lB a) a_1).b1 /\
 mP a = true /\ Ew a /\ Eb a /\ Er a /\ Ev a /\ KF /\ Fe a /\ Ik a /\ Hx a) := by kernel_rfl
def BUC (a : BkT) : Prop := AN Try.prog (BJV LR FG AJK a) AKY (AF AKY) ((JF LR FG).xs a) (AC ((JF LR FG).L a)) ((JF LR FG).val a) ((JF LR FG).keep a) [] []
abbrev OS (a : BkT) : List Int := AE a.w.b.length λ (i : Nat) => gD a.w.b i
abbrev An (a : BkT) : Nat := (OS a).length
abbrev ADK (a : BkT) : Prop := An a = a.w.b.length
abbrev R5 (a : BkT) : Prop := ∀ (i : Nat), i < An a -> gD (OS a) i = gD a.w.b i
abbrev ABX (a : BkT) : Prop := List.Pairwise (λ (x1 x2 : Int) => x1 < x2) (OS a)
abbrev Ag (a : BkT) : Nat := ET (OS a) a.st
abbrev XZ (a : BkT) : List Gau := AE a.w.g.length λ (i : Nat) => gD a.w.g i
abbrev Rx (a : BkT) : Nat := (XZ a).length
abbrev Rn (a : BkT) (i : Nat) : Gau := gD (XZ a) i
abbrev D9 : Value := Value.slice none (0 : Nat) (0 : Nat)
abbrev KK : Prop := D9 = D9
abbrev Gy (a : BkT) : Bk := Bk.mk (XZ a) (OS a) a.w.has a.w.st
abbrev mI (a : BkT) (n : Int) : List Ln := AK (Gy a) n
abbrev nN (a : BkT) (n : Int) : Nat := (mI a n).length
abbrev SC (a : BkT) (n : Int) (i : Nat) : Ln := gD (mI a n) i
abbrev NV (a : BkT) : Bk := CF (Gy a) (↑(Ag a) : Int)
abbrev nV (a : BkT) : List Gau := (NV a).g
abbrev Ff (a : BkT) (i : Nat) : Gau := gD (nV a) i
abbrev Zt (a : BkT) : List Int := (NV a).b
abbrev Em (a : BkT) : Prop := (0 : Int) <= a.st /\ a.st <= (2000 : Int)
abbrev Dx (a : BkT) : List Ln := CR (sB (BkS.mk (Gy a) (↑(Ag a) : Int) a.st)) a.st
abbrev TM (a : BkT) : Nat := (Dx a).length
abbrev TW (a : BkT) : Ln := bif decide ((lB a).length = (0 : Nat)) then default else GI LR a.st (lB a)
abbrev kJ (a : BkT) : Int := (TW a).a0
abbrev jV (a : BkT) : Int := (TW a).a1
abbrev gC (a : BkT) : Int := (TW a).b0
abbrev cE (a : BkT) : Int := (TW a).b1
abbrev kN (a : BkT) : Bool := decide ((lB a).length ≠ (0 : Nat))
abbrev Zm (a : BkT) : Prop := (CF a.w (kB a)).g.length = a.w.g.length
abbrev fL (i : Nat) (a : BkT) : Prop := i < (CF a.w (kB a)).g.length
abbrev Gt (a : BkT) (i : Nat) : Gau := gD (CF a.w (kB a)).g i
abbrev Ed (a : BkT) (i : Nat) : Int := (Gt a i).st
abbrev Hh (a : BkT) (i : Nat) : Int := (Gt a i).lo
abbrev Hv (a : BkT) (i : Nat) : Int := (Gt a i).hi
abbrev fJ (a : BkT) : Prop := ∀ (i : Nat), fL i a -> Ed a i = (gD a.w.g i).st /\ Hh a i = (gD a.w.g i).lo /\ Hv a i = (gD a.w.g i).hi
abbrev Zn (a : BkT) : Prop := (CF a.w (kB a)).b.length = a.w.b.length
abbrev gS (i : Nat) (a : BkT) : Prop := i < (CF a.w (kB a)).b.length
abbrev Fo (a : BkT) (i : Nat) : Int := gD (CF a.w (kB a)).b i
abbrev bS (a : BkT) : Prop := ∀ (i : Nat), gS i a -> Fo a i = gD a.w.b i
abbrev fN (a : BkT) : Prop := ∀ (n : Int), (CF a.w (kB a)).has n = (NV a).has n
abbrev cW (a : BkT) : Prop := ∀ (n : Int), (CF a.w (kB a)).st n = (NV a).st n
abbrev bW (a : BkT) (n : Int) : List Ln := AK (NV a) n
abbrev fG (i : Nat) (a : BkT) (n : Int) : Prop := i < (AK (CF a.w (kB a)) n).length
abbrev UM (a : BkT) (n : Int) (i : Nat) : Ln := gD (AK (CF a.w (kB a)) n) i
abbrev Gx (a : BkT) (n : Int) (i : Nat) : Int := (UM a n i).a0
abbrev TY (a : BkT) (n : Int) (i : Nat) : Ln := gD (bW a n) i
abbrev Do (a : BkT) (n : Int) (i : Nat) : Int := (UM a n i).a1
abbrev Cx (a : BkT) (n : Int) (i : Nat) : Int := (UM a n i).b0
abbrev Ei (a : BkT) (n : Int) (i : Nat) : Int := (UM a n i).b1
abbrev fE (a : BkT) : Prop := ∀ (n : Int), (AK (CF a.w (kB a)) n).length = (bW a n).length /\ ∀ (i : Nat), fG i a n -> Gx a n i = (TY a n i).a0 /\ Do a n i = (TY a n
 i).a1 /\ Cx a n i = (TY a n i).b0 /\ Ei a n i = (TY a n i).b1
abbrev SH (a : BkT) (i : Nat) : Ln := gD (Dx a) i
abbrev DM : Prop := Int.ofNat (0 : Nat) = Int.ofNat (0 : Nat)
abbrev SE (a : BkT) : Ln := gD (Dx a) (Int.toNat (0 : Int))
abbrev eH (a : Nat) (a1 : BkT) : Prop := (↑a : Int) < (↑(lB a1).length : Int)
abbrev aH (a : BkT) : Prop := (lB a).length = (lB a).length
abbrev jZ (a : BkT) : Prop := ∀ (i : Nat), i < (lB a).length -> (gD (lB a) i).a0 = (gD (lB a) i).a0 /\ (gD (lB a) i).a1 = (gD (lB a) i).a1 /\ (gD (lB a) i).b0 = (gD (lB a) i).b0 /\ (gD (lB a) i).b1 = (gD (lB a) i).b1
abbrev mZ (a : BkT) : Prop := (↑(lB a).length : Int) = (↑(lB a).length : Int)
abbrev aX (a : Nat) (a1 : Nat) : Prop := (↑a : Int) = IntKind.i64.wrap ((↑a1 : Int) + (1 : Int))
abbrev Gi (a : BkT) : Prop := (CF a.w (kB a)).g.length = (CF a.w (kB a)).g.length
abbrev Gc (a : BkT) : Prop := ∀ (i : Nat), fL i a -> Ed a i = Ed a i /\ Hh a i = Hh a i /\ Hv a i = Hv a i
abbrev Gg (a : BkT) : Prop := (CF a.w (kB a)).b.length = (CF a.w (kB a)).b.length
abbrev Fd (a : BkT) : Prop := ∀ (i : Nat), gS i a -> Fo a i = Fo a i
abbrev Fk (a : BkT) : Prop := ∀ (n : Int), (CF a.w (kB a)).has n = (CF a.w (kB a)).has n
abbrev Dc (a : BkT) : Prop := ∀ (n : Int), (CF a.w (kB a)).st n = (CF a.w (kB a)).st n
abbrev Hg (a : BkT) : Prop := ∀ (n : Int), (AK (CF a.w (kB a)) n).length = (AK (CF a.w (kB a)) n).length /\ ∀ (i : Nat), fG i a n -> Gx a n i = Gx a n i /\ Do a n i = Do a
 n i /\ Cx a n i = Cx a n i /\ Ei a n i = Ei a n i
abbrev lA (a : BkT) (a1 : Nat) : Nat := (lB a).length - a1
abbrev gO (a : Nat) (a1 : BkT) (a2 : Nat) : Prop := a.le (lB a1).length /\ lA a1 a < lA a1 a2
theorem CDH (a : BkT) : (BUC a) = ((ADK a /\ R5 a /\ a.st = a.st /\ (An a < (4611686018427387904 : Nat) /\ ABX a) /\ (↑(Ag a) : Int) = (↑(Ag a) : Int) /\ a.st = a.st /\ Rx
 a = a.w.g.length /\ (∀ (i : Nat), i < Rx a -> (Rn a i).st = (gD a.w.g i).st /\ (Rn a i).lo = (gD a.w.g i).lo /\ (Rn a i).hi = (gD a.w.g i).hi) /\ ADK a /\ R5 a /\ KK /\ (∀ (n :
 Int), a.w.has n = a.w.has n) /\ (∀ (n : Int), a.w.st n = a.w.st n) /\ (∀ (n : Int), nN a n = (AK a.w n).length /\ ∀ (i : Nat), i < nN a n -> (SC a n i).a0 = (gD (AK a.w n) i).a0 /\ (SC a n
 i).a1 = (gD (AK a.w n) i).a1 /\ (SC a n i).b0 = (gD (AK a.w n) i).b0 /\ (SC a n i).b1 = (gD (AK a.w n) i).b1) /\ a.w.g.length = (nV a).length /\ (∀ (i : Nat), i < a.w.g.length -> (gD a.w.g i).st =
 (Ff a i).st /\ (gD a.w.g i).lo = (Ff a i).lo /\ (gD a.w.g i).hi = (Ff a i).hi) /\ a.w.b.length = (Zt a).length /\ (∀ (i : Nat), i < a.w.b.length -> gD a.w.b i = gD (Zt a) i) /\
 (Rx a <= (24 : Nat) /\ (∀ (x : Gau), List.Mem x (XZ a) -> (0 : Int) <= x.st /\ x.st <= (2000 : Int) /\ (0 : Int) <= x.lo /\ x.lo <= x.hi /\ x.hi <= (200000 : Int)) /\ An a <= (24 : Nat) /\ ABX a /\ ∀ (x :
 Int), List.Mem x (OS a) -> (1 : Int) <= x /\ x <= (2000 : Int)) /\ Em a) /\ bif (↑(TM a) : Int) == (0 : Int) then kJ a = (0 : Int) /\ jV a = (0 : Int) /\ gC a = (0 : Int) /\
 cE a = (0 : Int) /\ kN a = false /\ Zm a /\ fJ a /\ Zn a /\ bS a /\ KK /\ fN a /\ cW a /\ fE a else ((0 : Int) <= (0 : Int) /\ (0 : Int) <
 (↑(TM a) : Int)) /\ (∃ (a_1 : Nat), (a.st = a.st /\ (lB a).length = TM a /\ (∀ (i : Nat), i < (lB a).length -> (gD (lB a) i).a0 = (SH a i).a0 /\ (gD (lB a) i).a1 = (SH a i).a1 /\ (gD (lB a)
 i).b0 = (SH a i).b0 /\ (gD (lB a) i).b1 = (SH a i).b1) /\ (↑(lB a).length : Int) = (↑(TM a) : Int) /\ (↑a_1 : Int) = (0 : Int) /\ Zm a /\ fJ a /\ Zn a /\ bS a /\ KK
 /\ fN a /\ cW a /\ fE a /\ DM /\ DM /\ DM /\ DM /\ (BA LR a.st (lB a) a_1).a0 = (SE a).a0 /\ (BA LR a.st (lB a) a_1).a1 = (SE a).a1 /\ (BA LR a.st
 (lB a) a_1).b0 = (SE a).b0 /\ (BA LR a.st (lB a) a_1).b1 = (SE a).b1) /\ a_1.le (lB a).length) /\ ∀ (a_1 : Nat), a_1.le (lB a).length -> bif decide (eH a_1 a) then ((0 : Int) <= (↑a_1 : Int) /\
 eH a_1 a) /\ (((0 : Int) <= (gD (lB a) a_1).a0 /\ (gD (lB a) a_1).a0 < (gD (lB a) a_1).b0 /\ (gD (lB a) a_1).b0 <= (2000 : Int) /\ (0 : Int) <= (gD (lB a) a_1).a1 /\ (gD (lB a) a_1).a1 <= (gD (lB a) a_1).b1 /\ (gD (lB a)
 a_1).b1 <= (200000 : Int)) /\ Em a /\ ((0 : Int) <= (BA LR a.st (lB a) a_1).a0 /\ (BA LR a.st (lB a) a_1).a0 < (BA LR a.st (lB a) a_1).b0 /\ (BA LR a.st (lB a) a_1).b0 <= (2000 : Int) /\ (0 : Int) <=
 (BA LR a.st (lB a) a_1).a1 /\ (BA LR a.st (lB a) a_1).a1 <= (BA LR a.st (lB a) a_1).b1 /\ (BA LR a.st (lB a) a_1).b1 <= (200000 : Int)) /\ Em a) /\ bif decide (YB (BT (gD (lB a) a_1) a.st) (BT
 (BA LR a.st (lB a) a_1) a.st) > (0 : Int)) then ∃ (a_3 : Nat), (a.st = a.st /\ aH a /\ jZ a /\ mZ a /\ aX a_3 a_1 /\ Gi a /\ Gc a /\ Gg a /\ Fd a /\ KK /\
 Fk a /\ Dc a /\ Hg a /\ DM /\ DM /\ DM /\ DM /\ (BA LR a.st (lB a) a_3).a0 = (gD (lB a) a_1).a0 /\ (BA LR a.st (lB a) a_3).a1 = (gD (lB a) a_1).a1 /\ (BA LR a.st
 (lB a) a_3).b0 = (gD (lB a) a_1).b0 /\ (BA LR a.st (lB a) a_3).b1 = (gD (lB a) a_1).b1) /\ gO a_3 a a_1 else ∃ (a_3 : Nat), (a.st = a.st /\ aH a /\ jZ a /\ mZ a /\ aX a_3 a_1 /\
 Gi a /\ Gc a /\ Gg a /\ Fd a /\ KK /\ Fk a /\ Dc a /\ Hg a /\ DM /\ DM /\ DM /\ DM /\ (BA LR a.st (lB a) a_3).a0 = (BA LR a.st
 (lB a) a_1).a0 /\ (BA LR a.st (lB a) a_3).a1 = (BA LR a.st (lB a) a_1).a1 /\ (BA LR a.st (lB a) a_3).b0 = (BA LR a.st (lB a) a_1).b0 /\ (BA LR a.st (lB a) a_3).b1 = (BA LR a.st (lB a) a_1).b1) /\
 gO a_3 a a_1 else kJ a = (BA LR a.st (lB a) a_1).a0 /\ jV a = (BA LR a.st (lB a) a_1).a1 /\ gC a = (BA LR a.st (lB a) a_1).b0 /\ cE a = (BA LR a.st (lB a) a_1).b1 /\
 kN a = true /\ Gi a /\ Gc a /\ Gg a /\ Fd a /\ KK /\ Fk a /\ Dc a /\ Hg a) := by kernel_rfl
theorem Ej {lt : Rt -> Rt -> Bool} {t : Int} {l : List Ln} {i : Nat} (h : i < l.length) : BA lt t l (i + 1) = JN lt t (BA lt t l i) (gD l i) := by
 unfold BA; rw [DF h, List.foldl_append]; rfl
theorem xZ {lt : Rt -> Rt -> Bool} {t : Int} {l : List Ln} : BA lt t l l.length = GI lt t l := by unfold BA GI; rw [List.take_length]
theorem BVU {lt : Rt -> Rt -> Bool} {t : Int} : ∀ (l : List Ln) (b : Ln), (∀ x ∈ l, DR x) -> DR b -> DR (l.foldl (JN lt t) b)
 | [], _, _, hb => hb
 | x :: l, b, h, hb => by
  rw [List.foldl_cons]
  refine BVU l _ (λ y hy => h y (by simp [hy])) ?_
  unfold JN; cases lt (BT x t) (BT b t)
  ·exact hb
  ·exact h x (by simp)
theorem ARF {lt : Rt -> Rt -> Bool} {t : Int} {l : List Ln} {i : Nat} (h : ∀ x ∈ l, DR x) (h0 : 0 < l.length) : DR (BA lt t l i) :=
 BVU _ _ (λ x hx => h x (List.mem_of_mem_take hx)) (h _ (BM h0))
theorem BVM {s : List Gau} (h : ∀ g ∈ s, DJ g) : ∀ x ∈ LQ s, DR x := λ x hx => by
 unfold LQ at hx
 obtain ⟨p, hp, hx⟩ := List.mem_flatMap.1 hx
 unfold blk at hx
 rcases List.mem_cons.1 hx with rfl | hx
 ·exact Da (VZ h hp)
 ·exact Fu.1 (List.mem_filter.1 hx).2
theorem CFJ {s : List Gau} {t : Int} (h : ∀ g ∈ s, DJ g) : ∀ x ∈ CR s t, DR x := λ x hx => by
 rw [aJ] at hx
 revert hx
 cases (bif decide ((s.length : Int) > 0) then ((EP s).length : Int) == 0 else false) with
 | true => intro hx; cases hx
 | false =>
  intro hx
  rcases List.mem_append.1 hx with hx | hx
  ·exact BVM h x (List.mem_filter.1 hx).1
  ·have := (List.mem_filter.1 hx).2
   unfold Yw at this
   cases hr : SK x with
   | true => exact Fu.1 hr
   | false => rw [hr] at this; cases this
theorem CDI {a : BkT} (h : GZ a.w.g a.w.b) : (lB a).length <= 10098 /\ ∀ x ∈ lB a, DR x := by
 obtain ⟨hs, hN, hg⟩ := CHO (a := ⟨a.w, kB a, a.st⟩) h
 refine ⟨?_, CFJ hg⟩
 show (CR (sB ⟨a.w, kB a, a.st⟩) a.st).length <= _
 have h1 := BUF hN
 have h2 := List.length_filter_le (Yw (sB ⟨a.w, kB a, a.st⟩)) (DC (sB ⟨a.w, kB a, a.st⟩) a.st)
 have h3 := wC (s := sB ⟨a.w, kB a, a.st⟩) (t := a.st)
 rw [aJ]
 cases (bif decide (((sB ⟨a.w, kB a, a.st⟩).length : Int) > 0) then ((EP (sB ⟨a.w, kB a, a.st⟩)).length : Int) == 0 else false) with
 | true => exact Nat.zero_le _
 | false => rw [cond_false, List.length_append]; omega
theorem CNC (a : BkT) (h : GZ a.w.g a.w.b) (h2 : 0 <= a.st /\ a.st <= 2000) : BUA a := by
 rw [CBT]; delta LX Cc yC Z7 AEE WM YX Re Wn ABS KF Ee iM mK TC OF eV Fa fY Gk Df TN UQ Zl cX Zh fF mP fK lC Cu Dz Cl Dn kT lT eE Eu kG mX aR iN gP RX Di SX Dw Gq Fr jX TZ DN TR bX lZ mO fM jP Ew Eb Er Ev Fe Ik Hx mE aY; simp only [CC, eq_self, implies_true, forall_const, JG, show ET a.w.b a.st = kB a from rfl, show (BkS.mk a.w (kB a) a.st).w = a.w from rfl, show CR (sB (BkS.mk a.w (kB a) a.st)) a.st = lB a from rfl, if_true]
 obtain ⟨hl, hok⟩ := CDI h
 refine ⟨⟨⟨by have := h.2.2.1; omega, h.2.2.2.1⟩, rfl, λ _ _ => ⟨rfl, rfl, rfl⟩, rfl, λ _ _ => rfl, h, h2⟩, λ hc => ?_, λ hc => ?_⟩
 ·have hc : (lB a).length = 0 := by simpa using hc
  rw [decide_eq_true hc]
  exact ⟨rfl, rfl, rfl, rfl, by omega, rfl, λ _ _ => ⟨rfl, rfl, rfl⟩, rfl, λ _ _ => rfl⟩
 ·have hc : (lB a).length ≠ 0 := by simpa using hc
  have hb : ∀ i, DR (BA LS a.st (lB a) i) := λ i => ARF hok (by omega)
  refine ⟨⟨by omega, by omega⟩, ⟨0, ⟨rfl, rfl, λ _ _ => ⟨rfl, rfl, rfl⟩, rfl, λ _ _ => rfl, rfl, rfl, rfl, rfl⟩, Nat.zero_le _⟩, λ i hi => ⟨λ hlt => ?_, λ hge => ?_⟩⟩
  ·have hlt' : i < (lB a).length := Int.ofNat_lt.1 hlt
   refine ⟨⟨by omega, hlt⟩, ⟨hok _ (BM hlt'), h2, hb i, h2⟩, λ hp => ⟨i + 1, ⟨(BF (by omega)).symm, ?_⟩, hlt', by omega⟩, λ hp => ⟨i + 1, ⟨(BF (by omega)).symm, ?_⟩, hlt', by omega⟩⟩
   ·rw [Ej hlt', JN, show LS _ _ = true from decide_eq_true hp]; exact ⟨rfl, rfl, rfl, rfl⟩
   ·rw [Ej hlt', JN, show LS _ _ = false from decide_eq_false hp]; exact ⟨rfl, rfl, rfl, rfl⟩
  ·rw [decide_eq_false hc, show i = (lB a).length by omega, xZ]
   exact ⟨rfl, rfl, rfl, rfl, hc⟩
theorem rX : AG Try.prog ASM ((JF LS FW).spec (dBkT FW)) := HR (JF LS FW) (BJV LS FW BHN) [] [] BXA (λ _ => by kernel_rfl) (λ _ => AB BGN (AB Q8 (AB BDM (AB CFR AD)))) (λ (a : BkT) h => by
 have h : GZ a.w.g a.w.b /\ 0 <= a.st /\ a.st <= 2000 := h
 exact CNC a h.1 h.2) (λ _ => IN rfl rfl) _
theorem CMJ (a : BkT) (h : GZ a.w.g a.w.b) (h2 : 0 <= a.st /\ a.st <= 2000) : BUC a := by
 rw [CDH]; delta OS An ADK R5 ABX Ag XZ Rx Rn D9 KK Gy mI nN SC NV nV Ff Zt Em Dx TM TW kJ jV gC cE kN Zm fL Gt Ed Hh Hv fJ Zn gS Fo bS fN cW bW fG UM Gx TY Do Cx Ei fE SH DM SE eH aH jZ mZ aX Gi Gc Gg Fd Fk Dc Hg lA gO; simp only [CC, eq_self, implies_true, forall_const, JG, show ET a.w.b a.st = kB a from rfl, show (BkS.mk a.w (kB a) a.st).w = a.w from rfl, show CR (sB (BkS.mk a.w (kB a) a.st)) a.st = lB a from rfl, if_true]
 obtain ⟨hl, hok⟩ := CDI h
 refine ⟨⟨⟨by have := h.2.2.1; omega, h.2.2.2.1⟩, rfl, λ _ _ => ⟨rfl, rfl, rfl⟩, rfl, λ _ _ => rfl, h, h2⟩, λ hc => ?_, λ hc => ?_⟩
 ·have hc : (lB a).length = 0 := by simpa using hc
  rw [decide_eq_true hc]
  exact ⟨rfl, rfl, rfl, rfl, by omega, rfl, λ _ _ => ⟨rfl, rfl, rfl⟩, rfl, λ _ _ => rfl⟩
 ·have hc : (lB a).length ≠ 0 := by simpa using hc
  have hb : ∀ i, DR (BA LR a.st (lB a) i) := λ i => ARF hok (by omega)
  refine ⟨⟨by omega, by omega⟩, ⟨0, ⟨rfl, rfl, λ _ _ => ⟨rfl, rfl, rfl⟩, rfl, λ _ _ => rfl, rfl, rfl, rfl, rfl⟩, Nat.zero_le _⟩, λ i hi => ⟨λ hlt => ?_, λ hge => ?_⟩⟩
  ·have hlt' : i < (lB a).length := Int.ofNat_lt.1 hlt
   refine ⟨⟨by omega, hlt⟩, ⟨hok _ (BM hlt'), h2, hb i, h2⟩, λ hp => ⟨i + 1, ⟨(BF (by omega)).symm, ?_⟩, hlt', by omega⟩, λ hp => ⟨i + 1, ⟨(BF (by omega)).symm, ?_⟩, hlt', by omega⟩⟩
   ·rw [Ej hlt', JN, show LR _ _ = true from decide_eq_true hp]; exact ⟨rfl, rfl, rfl, rfl⟩
   ·rw [Ej hlt', JN, show LR _ _ = false from decide_eq_false hp]; exact ⟨rfl, rfl, rfl, rfl⟩
  ·rw [decide_eq_false hc, show i = (lB a).length by omega, xZ]
   exact ⟨rfl, rfl, rfl, rfl, hc⟩
theorem oB : AG Try.prog ASM ((JF LR FG).spec (dBkT FG)) := HR (JF LR FG) (BJV LR FG AJK) [] [] BXA (λ _ => by kernel_rfl) (λ _ => AB BGN (AB Q8 (AB BDM (AB ASC AD)))) (λ (a : BkT) h => by
 have h : GZ a.w.g a.w.b /\ 0 <= a.st /\ a.st <= 2000 := h
 exact CMJ a h.1 h.2) (λ _ => IN rfl rfl) _
end Go.Bal
