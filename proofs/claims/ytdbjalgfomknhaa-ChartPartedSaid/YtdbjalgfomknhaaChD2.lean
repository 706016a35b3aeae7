/- Package chart: times are narrowed. -/
import Derived.Test.YtdbjalgfomknhaaChD1
set_option linter.unusedVariables false
set_option linter.unusedSimpArgs false
namespace Go.Bal
open Go Go.Sym Go.Proofs
def C_gaps : Ctr := { ro := [100, 101], α := Dk, xs := λ _ => [.bptr 100 0], L := λ w => dkL w, val := λ _ => .fn (.func aE) [] [.bptr 0 0], keep := λ w => dkK w ++ [(0, .live (.box [.bptr 100 0]))] }
def CJR : Ann := { ann 4 [] with E := [100, 101] }
def CKA (w : Dk) : Prop := BB Try.prog CJR CCO (AL CCO) (C_gaps.xs w) (AG (C_gaps.L w)) (C_gaps.val w) (C_gaps.keep w) [(0, 1000)] []
theorem CQB (w : Dk) : (CKA w) = (w.c.p.lo = w.c.p.lo /\ w.c.p.hi = w.c.p.hi /\ w.c.base = w.c.base /\ w.c.scale = w.c.scale /\ w.c.off = w.c.off /\ w.c.ms.length = w.c.ms.length /\ (∀ (i : Nat), i < w.c.ms.length -> (gD
 w.c.ms i).pl = (gD w.c.ms i).pl /\ (gD w.c.ms i).ht = (gD w.c.ms i).ht) /\ w.c.ns.length = w.c.ns.length /\ (∀ (i : Nat), i < w.c.ns.length -> (gD w.c.ns i).mi = (gD w.c.ns i).mi /\ (gD w.c.ns i).t.lo = (gD w.c.ns i).t.lo /\
 (gD w.c.ns i).t.hi = (gD w.c.ns i).t.hi /\ (gD w.c.ns i).s.lo = (gD w.c.ns i).s.lo /\ (gD w.c.ns i).s.hi = (gD w.c.ns i).s.hi) /\ (∀ (i : Nat), i < 40 -> w.sp i = w.sp i) /\ AT = AT /\ (∀ (n : Int), hasN w.c.ns n = hasN
 w.c.ns n) /\ (∀ (n : Int), w.st n = w.st n) /\ ∀ (n : Int), (ntOf w.c.ns n).mi = (ntOf w.c.ns n).mi /\ (ntOf w.c.ns n).t.lo = (ntOf w.c.ns n).t.lo /\ (ntOf w.c.ns n).t.hi = (ntOf w.c.ns n).t.hi /\ (ntOf w.c.ns n).s.lo = (ntOf
 w.c.ns n).s.lo /\ (ntOf w.c.ns n).s.hi = (ntOf w.c.ns n).s.hi) := by kernel_rfl
theorem CEH : AM Try.prog BNW (C_gaps.spec dDk1) := LM C_gaps (λ _ => CJR) [(0, 1000)] [] CPX (λ _ => by kernel_rfl) (λ _ => AJ) (λ (w : Dk) _ => by
 show CKA w; rw [CQB]; simp) (λ _ => OA rfl rfl) _
def farM (c : Cht) (g : Nat) : Int := wr ((gD c.ms (g + 1)).pl - (gD c.ms g).pl)
def FU (w : Dk) (g : Nat) : Span := ⟨wr (w.c.p.lo * farM w.c g), bif w.sp g then 200000000 else wr (w.c.p.hi * farM w.c g)⟩
def LL (w : Dk) : List Span := AE (w.c.ms.length - 1) λ g => FU w g
structure LIS where
 l : List Span
 k : Int
 s : Span
def upd1 (l : List Span) (k : Int) (s : Span) (i : Nat) : Span := bif decide (i = k.toNat) then fG (gD l k.toNat) s else gD l i
def lkR (n : Nat) (f : Nat -> Span) : List (Nat × HCell) := [(100, .live (.box [.own 101 2 0 n])), (101, .live (.row 2 n λ i => CN (f i)))]
def C_nar1 : Ctr := { ro := [100], α := LIS, xs := λ a => [.int a.k, .d (CN a.s), .bptr 100 0], L := λ a => [(100, .box [.own 101 2 0 a.l.length]), (101, rowS a.l)], val := λ _ => .d (.tup []), keep := λ a => lkR a.l.length (upd1 a.l a.k a.s), pre := λ a => [0 <= a.k /\ a.k < a.l.length] }
def CMO : List AVal -> Heap -> Option (LIS × List (Nat × Nat) × List Nat)
 | [.d k, .d s, .bptr id _], H => match H id with
  | .live (.box [.own j _ _ _]) => match H j with
   | .live (.row _ n g) => some (⟨AE n λ i => LP (g i), CL k, LP s⟩, [(100, id), (101, j)], [])
   | _ => none
  | _ => none
 | _, _ => none
def CIC : Ann := { ann 15 [(K6, C_com.spec CNV)] with E := [100, 101] }
def CNC (a : LIS) : Prop := BB Try.prog CIC CAJ (AL CAJ) (C_nar1.xs a) (AG (C_nar1.L a)) (C_nar1.val a) (C_nar1.keep a) [] []
theorem CPK (a : LIS) : (CNC a) = (((0 <= a.k /\ a.k < (↑a.l.length : Int)) /\ 0 + a.k.toNat < a.l.length /\ (gD a.l (0 + a.k.toNat)).lo = (gD a.l (0 + a.k.toNat)).lo /\ (gD a.l (0 + a.k.toNat)).hi = (gD a.l (0 +
 a.k.toNat)).hi /\ (AE 1 λ (i : Nat) => a.s).length = 1 /\ 1 <= 1 /\ (∀ (j : Nat), j < (AE 1 λ (i : Nat) => a.s).length -> (gD (AE 1 λ (i : Nat) => a.s) j).lo = a.s.lo /\ (gD (AE 1 λ (i : Nat) => a.s) j).hi =
 a.s.hi) /\ true = true /\ (0 <= a.k /\ a.k < (↑a.l.length : Int)) /\ (0 + a.k.toNat).succ.le a.l.length) /\ 0 = 0 /\ a.l.length = a.l.length /\ a.l.length = a.l.length /\ ∀ (i : Nat), i < a.l.length -> ((upd1 a.l a.k a.s i).lo =
 bif decide (i = 0 + a.k.toNat) then (comM (SL.mk (gD a.l (0 + a.k.toNat)) (AE 1 λ (i : Nat) => a.s))).lo else (gD a.l i).lo) /\ (upd1 a.l a.k a.s i).hi = bif decide (i = 0 + a.k.toNat) then (comM (SL.mk (gD a.l (0 +
 a.k.toNat)) (AE 1 λ (i : Nat) => a.s))).hi else (gD a.l i).hi) := by kernel_rfl
theorem CQG : AM Try.prog ADI (C_nar1.spec CMO) := LM C_nar1 (λ _ => CIC) [] [] CRM (λ _ => by kernel_rfl) (λ _ => AC COM AJ) (λ (a : LIS) h => by
 show CNC a; rw [CPK]; simp only [CC, eq_self, implies_true, forall_const]
 have h : 0 <= a.k /\ a.k < a.l.length := h
 have e : comM ⟨gD a.l a.k.toNat, AE 1 λ _ => a.s⟩ = fG (gD a.l a.k.toNat) a.s := rfl
 refine ⟨⟨h, by omega, by omega, λ j hj => by rw [BH _ _ _ hj]; exact ⟨rfl, rfl⟩, h, by omega⟩, λ i hi => ?_⟩
 rw [e]; unfold upd1
 cases decide (i = a.k.toNat) <;> exact ⟨rfl, rfl⟩) (λ _ => OA rfl rfl) _
def addS (a s : Span) : Span := ⟨wr (a.lo + s.lo), wr (a.hi + s.hi)⟩
def subS (a s : Span) : Span := ⟨wr (a.lo - s.hi), wr (a.hi - s.lo)⟩
def fwM (l : List Span) (s : Nat -> Span) : Nat -> Span
 | 0 => gD l 0
 | g + 1 => fG (gD l (g + 1)) (addS (fwM l s g) (s g))
def bkM (f s : Nat -> Span) (n : Nat) : Nat -> Span
 | 0 => f n
 | j + 1 => fG (f (n - (j + 1))) (subS (bkM f s n j) (s (n - (j + 1))))
def KV (w : Dk) (l : List Span) : List Span := AE l.length λ i => bkM (fwM l (FU w)) (FU w) (l.length - 1) (l.length - 1 - i)
structure DkS where
 w : Dk
 l : List Span
def dDkS : List AVal -> Heap -> Option (DkS × List (Nat × Nat) × List Nat)
 | [.bptr id _, y], H => match fJ H id, YC y H with
  | some (w, q), some (l, f) => some (⟨w, l⟩, [(100, id), (101, q)], f)
  | _, _ => none
 | _, _ => none
def C_nar : Ctr := { ro := [100, 101], α := DkS, xs := λ a => [.bptr 100 0, .d (AX a.l)], L := λ a => dkL a.w, val := λ a => .tup [.d (AX (KV a.w a.l)), .bool ((KV a.w a.l).all JB)], keep := λ a => dkK a.w, pre := λ a => [a.l.length = a.w.c.ms.length /\ 1 <= a.w.c.ms.length /\ a.w.c.ms.length <= 40] }
def nrH (a : DkS) (f : Nat -> Span) (p : AVal) : List (Nat × HCell) := dkK a.w ++ [(2016, .live (.row 2 a.l.length λ i => CN (f i))), (2032, .live (.box [.own 2016 2 0 a.l.length])), (3000, .live (.box [p]))]
def gpS (a : DkS) (l k : Nat) : List (Nat × AVal) := [(0, .fn (.yield l) [] []), (1, .bptr 4016 0), (12, .int (wr ((a.w.c.ms.length : Int) - 1))), (13, .int k)]
def gpB : Nat × HCell := (4016, .live (.box [.bptr 100 0]))
def gp1n (a : DkS) (l : Nat) : Shape := { α := One, dflt := default, T := λ _ => ⟨gpS a l 0, nrH a (gD a.l) (.d GC) ++ [gpB]⟩, inv := λ _ => True, meas := λ _ => 60 }
def gp1o (a : DkS) (l : Nat) : Shape := { α := Nat, dflt := 0, T := λ k => ⟨gpS a l k, nrH a (gD a.l) (.own 302 2 0 k) ++ [gpB, (302, .live (.row 2 k λ i => CN (FU a.w i)))]⟩, inv := λ k => 1 <= k /\ k <= a.w.c.ms.length - 1, meas := λ k => 50 - k, again := [(302, 6048)] }
noncomputable def CTZ (a : DkS) : IterAnn := { fn := F6, code := AL F6, live := [6, 7], ann := { base := λ id => 100000 + 1000 * (id + 1), Γ := Sym.look [], E := [100, 101, 2016, 2032, 3000, 4016], n := 66, inner := λ gs id => if id = 1 then some [gp1n a (gs.getD 0 0), gp1o a (gs.getD 0 0)] else none } }
def nr6T (a : DkS) : One -> ST := λ _ => ⟨[(6, .bptr 2032 0), (7, .bptr 3000 0)], nrH a (gD a.l) (.d (AX (LL a.w)))⟩
def nr6 (a : DkS) (z : List Nat) : Shape := { α := One, dflt := default, T := nr6T a, inv := λ _ => True, meas := λ _ => 0, ffz := z }
def nr7 (a : DkS) : Shape := { α := One, dflt := default, T := λ _ => ⟨[(6, .bptr 2032 0), (7, .bptr 3000 0), (10, .fn (.func ADI) [] [.bptr 2032 0])], nrH a (gD a.l) (.d (AX (LL a.w)))⟩, inv := λ _ => True, meas := λ _ => 0 }
def nrF (a : DkS) (k i : Nat) : Span := bif decide (i <= k) then fwM a.l (FU a.w) i else gD a.l i
def nrB (a : DkS) (j i : Nat) : Span := bif decide (a.w.c.ms.length - 1 - j <= i) then bkM (fwM a.l (FU a.w)) (FU a.w) (a.w.c.ms.length - 1) (a.w.c.ms.length - 1 - i) else fwM a.l (FU a.w) i
def nr8 (a : DkS) : Shape := { α := Nat, dflt := 0, T := λ k => ⟨[(6, .bptr 2032 0), (7, .bptr 3000 0), (10, .fn (.func ADI) [] [.bptr 2032 0]), (25, .d (AX (LL a.w))), (26, .int (LL a.w).length), (27, .int k)], nrH a (nrF a k) (.d (AX (LL a.w)))⟩, inv := λ k => k <= a.w.c.ms.length - 1, meas := λ k => 50 - k }
def nr13 (a : DkS) : Shape := { α := Nat, dflt := 0, T := λ j => ⟨[(6, .bptr 2032 0), (7, .bptr 3000 0), (10, .fn (.func ADI) [] [.bptr 2032 0]), (13, .int ((a.w.c.ms.length : Int) - 2 - j))], nrH a (nrB a j) (.d (AX (LL a.w)))⟩, inv := λ j => j <= a.w.c.ms.length - 1, meas := λ j => 50 - j }
noncomputable def CRY (a : DkS) : Ann := { ann 92 [(xM, C_clo.spec dSs1), (BNW, C_gaps.spec dDk1), (ADI, C_nar1.spec CMO), (n_eS, C4SnO.spec CUT)] with E := [100, 101], mt := λ id => id == 5, iter := λ g => if g = aE then some (CTZ a) else none, loops := λ id => if id = 8 then some [nr8 a] else if id = 13 then some [nr13 a] else none, cut := λ id => if id = 6 then some [nr6 a [], nr6 a [302]] else if id = 7 then some [nr7 a] else none }
def CRX (a : DkS) : Prop := BB Try.prog (CRY a) qO (AL qO) (C_nar.xs a) (AG (C_nar.L a)) (C_nar.val a) (C_nar.keep a) [] [2016]
abbrev BPV (a : DkS) : List Span := AE a.l.length λ (i : Nat) => gD a.l i
abbrev bI (a : DkS) : Nat := (BPV a).length
abbrev BMR (a : DkS) (i : Nat) : Span := gD (BPV a) i
abbrev BTK (a : DkS) (i : Nat) : Int := (BMR a i).lo
abbrev BNF (a : DkS) (i : Nat) : Int := (BMR a i).hi
abbrev GA (a : DkS) : Prop := a.w.c.p.lo = a.w.c.p.lo
abbrev FY (a : DkS) : Prop := a.w.c.p.hi = a.w.c.p.hi
abbrev FZ (a : DkS) : Prop := a.w.c.base = a.w.c.base
abbrev FW (a : DkS) : Prop := a.w.c.scale = a.w.c.scale
abbrev FX (a : DkS) : Prop := a.w.c.off = a.w.c.off
abbrev BIK (a : DkS) : List Mk := AE a.w.c.ms.length λ (i : Nat) => gD a.w.c.ms i
abbrev F3 (a : DkS) : Nat := (BIK a).length
abbrev BET (a : DkS) (i : Nat) : Mk := gD (BIK a) i
abbrev BHS (a : DkS) (i : Nat) : Int := (BET a i).pl
abbrev ATR (a : DkS) (i : Nat) : Int := (BET a i).ht
abbrev Ve (a : DkS) : List Nt := AE a.w.c.ns.length λ (i : Nat) => gD a.w.c.ns i
abbrev xH (a : DkS) : Nat := (Ve a).length
abbrev uH (a : DkS) (i : Nat) : Nt := gD (Ve a) i
abbrev AXC (a : DkS) (i : Nat) : Int := (uH a i).mi
abbrev BGK (a : DkS) (i : Nat) : Span := (uH a i).t
abbrev AXX (a : DkS) (i : Nat) : Int := (BGK a i).lo
abbrev Mx (a : DkS) (i : Nat) : Int := (gD a.w.c.ns i).t.lo
abbrev BAC (a : DkS) (i : Nat) : Int := (BGK a i).hi
abbrev Sf (a : DkS) (i : Nat) : Int := (gD a.w.c.ns i).t.hi
abbrev AUB (a : DkS) (i : Nat) : Span := (uH a i).s
abbrev AXR (a : DkS) (i : Nat) : Int := (AUB a i).lo
abbrev Po (a : DkS) (i : Nat) : Int := (gD a.w.c.ns i).s.lo
abbrev AQI (a : DkS) (i : Nat) : Int := (AUB a i).hi
abbrev Vy (a : DkS) (i : Nat) : Int := (gD a.w.c.ns i).s.hi
abbrev EB (a : DkS) : Prop := ∀ (i : Nat), i < (40 : Nat) -> a.w.sp i = a.w.sp i
abbrev BJC (a : DkS) (n : Int) : Bool := hasN (Ve a) n
abbrev EC (a : DkS) : Prop := ∀ (n : Int), a.w.st n = a.w.st n
abbrev uF (a : DkS) (n : Int) : Nt := ntOf (Ve a) n
abbrev ARW (a : DkS) (n : Int) : Int := (uF a n).mi
abbrev BID (a : DkS) (n : Int) : Span := (uF a n).t
abbrev AUM (a : DkS) (n : Int) : Int := (BID a n).lo
abbrev ATV (a : DkS) (n : Int) : Int := (BID a n).hi
abbrev AVM (a : DkS) (n : Int) : Span := (uF a n).s
abbrev AZX (a : DkS) (n : Int) : Int := (AVM a n).lo
abbrev AQO (a : DkS) (n : Int) : Int := (AVM a n).hi
abbrev AWQ (i : Nat) (a : DkS) : Prop := i < a.w.c.ms.length
abbrev BGD (i : Nat) (a : DkS) : Prop := i < a.w.c.ns.length
abbrev AUJ (a : DkS) : Int := (↑a.w.c.ms.length : Int) - (1 : Int)
abbrev Bu (a : DkS) : Int := wr (AUJ a)
abbrev EX (a : DkS) : Prop := a.w.c.ms.length = a.w.c.ms.length
abbrev FH (a : DkS) : Prop := ∀ (i : Nat), AWQ i a -> (gD a.w.c.ms i).pl = (gD a.w.c.ms i).pl /\ (gD a.w.c.ms i).ht = (gD a.w.c.ms i).ht
abbrev FI (a : DkS) : Prop := a.w.c.ns.length = a.w.c.ns.length
abbrev FF (a : DkS) : Prop := ∀ (i : Nat), BGD i a -> (gD a.w.c.ns i).mi = (gD a.w.c.ns i).mi /\ Mx a i = Mx a i /\ Sf a i = Sf a i /\ Po a i = Po a i /\ Vy a i = Vy
 a i
abbrev FD (a : DkS) : Prop := ∀ (n : Int), hasN a.w.c.ns n = hasN a.w.c.ns n
abbrev FK (a : DkS) : Prop := ∀ (n : Int), (ntOf a.w.c.ns n).mi = (ntOf a.w.c.ns n).mi /\ (ntOf a.w.c.ns n).t.lo = (ntOf a.w.c.ns n).t.lo /\ (ntOf a.w.c.ns n).t.hi = (ntOf a.w.c.ns n).t.hi /\ (ntOf a.w.c.ns n).s.lo =
 (ntOf a.w.c.ns n).s.lo /\ (ntOf a.w.c.ns n).s.hi = (ntOf a.w.c.ns n).s.hi
abbrev AYD (a : DkS) : Prop := a.l.length = bI a
abbrev DC : Prop := (0 : Nat) = (0 : Nat)
abbrev z_nar_52 : Int := IntKind.i64.wrap ((↑(0 : Nat) : Int) + (1 : Int))
abbrev BDH : Prop := (0 : Int) <= (↑(0 : Nat) : Int)
abbrev xF : Prop := (0 : Nat) < (1 : Nat)
abbrev AUC : Prop := (2 : Nat) = (2 : Nat)
abbrev AUS : Prop := (1 : Nat) <= (1 : Nat) /\ (xF -> AUC)
abbrev BCL : Prop := (True /\ ((0 : Nat) < (0 : Nat) -> (0 : Nat) = (2 : Nat))) /\ AUS /\ (true = true -> xF) /\ (1 : Nat) <= (9223372036854775807 : Nat) /\ (16 : Nat) <= (140737488355328 : Nat)
abbrev Rx (a : DkS) : Prop := Bu a = Bu a
abbrev BDX (a : Nat) : Prop := (↑a : Int) = z_nar_52
abbrev DT (a : DkS) : Prop := a.l.length = a.l.length
abbrev OY (a : DkS) : Prop := ∀ (i : Nat), i < a.l.length -> (gD a.l i).lo = (gD a.l i).lo /\ (gD a.l i).hi = (gD a.l i).hi
abbrev BER (a : DkS) : Int := IntKind.i64.wrap ((gD a.w.c.ms z_nar_52.toNat).pl - (gD a.w.c.ms (0 : Nat)).pl)
abbrev ATA (a : DkS) (i : Nat) : Prop := (FU a.w i).lo = IntKind.i64.wrap (a.w.c.p.lo * BER a)
abbrev ATG (a : DkS) : Nat := a.w.c.ms.length - (1 : Nat)
abbrev K3 (a : Nat) (a1 : DkS) : Prop := (1 : Nat) <= a /\ a <= ATG a1
abbrev L5 (a : Nat) : Nat := (50 : Nat) - a
abbrev BDC (a : Nat) (a1 : DkS) : Prop := K3 a a1 /\ L5 a < (60 : Nat)
abbrev BFJ (a : DkS) : Prop := (LL a.w).length = (0 : Nat)
abbrev KT (a : Nat) : Int := IntKind.i64.wrap ((↑a : Int) + (1 : Int))
abbrev AWR (a : Nat) : Prop := (0 : Int) <= KT a
abbrev Ln (a : Nat) : Prop := (0 : Int) <= (↑a : Int)
abbrev yB (a : Nat) : Nat := a + (1 : Nat)
abbrev AVD (a : Nat) : Prop := (a = a /\ ((0 : Nat) < a -> AUC)) /\ AUS /\ (false = true -> xF) /\ yB a <= (9223372036854775807 : Nat) /\ yB a * (16 : Nat) <= (140737488355328 : Nat)
abbrev D2 (a : Nat) (a1 : Nat) : Prop := (↑a : Int) = KT a1
abbrev Jl (a : Nat) (a1 : Nat) : Prop := a = yB a1
abbrev AWC (a : DkS) (a1 : Nat) : Int := IntKind.i64.wrap ((gD a.w.c.ms (KT a1).toNat).pl - (gD a.w.c.ms a1).pl)
abbrev AVQ (a : DkS) (i : Nat) (a1 : Nat) : Prop := (FU a.w i).lo = bif decide (i < a1) then (FU a.w i).lo else IntKind.i64.wrap (a.w.c.p.lo * AWC a a1)
abbrev AYK (a : Nat) (a1 : Nat) : Prop := L5 a < L5 a1
abbrev ATQ (a : Nat) (a1 : DkS) (a2 : Nat) : Prop := K3 a a1 /\ AYK a a2
abbrev ZE (a : Nat) : Nat := (0 : Nat) + a
abbrev BFQ (a : DkS) (j : Nat) : Span := FU a.w (ZE j)
abbrev uA (a : DkS) : Prop := (LL a.w).length = (LL a.w).length
abbrev C0 (a : DkS) : Prop := ∀ (i : Nat), i < (LL a.w).length -> (gD (LL a.w) i).lo = (gD (LL a.w) i).lo /\ (gD (LL a.w) i).hi = (gD (LL a.w) i).hi
abbrev Cy (a : DkS) : Prop := DC /\ DT a /\ uA a /\ C0 a
abbrev BFM (a : DkS) : Prop := (↑(LL a.w).length : Int) = (↑(LL a.w).length : Int)
abbrev Cf (a : Nat) (a1 : DkS) : Prop := a.le (ATG a1)
abbrev BCZ (a : Nat) (a1 : DkS) : Prop := (↑a : Int) < (↑(LL a1.w).length : Int)
abbrev BCV (a : Nat) (a1 : DkS) : Prop := Ln a /\ (↑a : Int) < (↑a1.l.length : Int)
abbrev BBP (a : Nat) (a1 : DkS) : Prop := ZE a < a1.l.length
abbrev BIA (a : DkS) (a1 : Nat) : Span := nrF a a1 (ZE a1)
abbrev G4 (a : DkS) (a1 : Nat) : Int := IntKind.i64.wrap ((BIA a a1).lo + (gD (LL a.w) a1).lo)
abbrev wR (a : DkS) (a1 : Nat) : Int := IntKind.i64.wrap ((BIA a a1).hi + (gD (LL a.w) a1).hi)
abbrev I8 (a : DkS) (a1 : Nat) : List Span := AE a.l.length λ (i : Nat) => nrF a a1 i
abbrev Lg (a : DkS) (a1 : Nat) : Nat := (I8 a a1).length
abbrev BDG (a : DkS) (a1 : Nat) : Prop := Lg a a1 = a.l.length
abbrev ATY (a : DkS) (a1 : Nat) (i : Nat) : Span := gD (I8 a a1) i
abbrev BDQ (a : DkS) (a1 : Nat) : Prop := a.l.length = Lg a a1
abbrev AQQ (a : DkS) (a1 : Nat) (i : Nat) : Span := upd1 (I8 a a1) (KT a1) (Span.mk (G4 a a1) (wR a a1)) i
abbrev BBL (a : Nat) (a1 : DkS) (a2 : Nat) : Prop := Cf a a1 /\ AYK a a2
abbrev EP (a : DkS) (a1 : Nat) : Int := (↑a.w.c.ms.length : Int) - (2 : Int) - (↑a1 : Int)
abbrev cG (a : DkS) (a1 : Nat) : Int := IntKind.i64.wrap (EP a a1 + (1 : Int))
abbrev X9 (a : DkS) (a1 : Nat) : Prop := (0 : Int) <= cG a a1 /\ cG a a1 < (↑a.l.length : Int)
abbrev AER (a : DkS) (a1 : Nat) : Nat := (0 : Nat) + (cG a a1).toNat
abbrev X2 (a : DkS) (a1 : Nat) : Prop := AER a a1 < a.l.length
abbrev O8 (a : DkS) (a1 : Nat) : Prop := (0 : Int) <= EP a a1
abbrev ABF (a : DkS) (a1 : Nat) : Prop := O8 a a1 /\ EP a a1 < (↑(LL a.w).length : Int)
abbrev X6 (a : DkS) (a1 : Nat) : Span := nrB a a1 (AER a a1)
abbrev X8 (a : DkS) (a1 : Nat) : Span := gD (LL a.w) (EP a a1).toNat
abbrev Yp (a : DkS) (a1 : Nat) : Int := IntKind.i64.wrap ((X6 a a1).lo - (X8 a a1).hi)
abbrev Zb (a : DkS) (a1 : Nat) : Int := IntKind.i64.wrap ((X6 a a1).hi - (X8 a a1).lo)
abbrev Bi (a : DkS) (a1 : Nat) : List Span := AE a.l.length λ (i : Nat) => nrB a a1 i
abbrev QL (a : DkS) (a1 : Nat) : Nat := (Bi a a1).length
abbrev Dh (a : DkS) (a1 : Nat) : Prop := QL a a1 = a.l.length
abbrev AGK (a : DkS) (a1 : Nat) (i : Nat) : Span := gD (Bi a a1) i
abbrev ADT (a : DkS) (a1 : Nat) (i : Nat) : Int := (AGK a a1 i).lo
abbrev ACN (a : DkS) (a1 : Nat) (i : Nat) : Int := (AGK a a1 i).hi
abbrev ACW (a : DkS) (a1 : Nat) : Prop := ∀ (i : Nat), i < QL a a1 -> ADT a a1 i = (nrB a a1 i).lo /\ ACN a a1 i = (nrB a a1 i).hi
abbrev Yx (a : DkS) (a1 : Nat) : Prop := a.l.length = QL a a1
abbrev AAH (a : DkS) (a1 : Nat) (i : Nat) : Span := upd1 (Bi a a1) (EP a a1) (Span.mk (Yp a a1) (Zb a a1)) i
abbrev AEG (a : DkS) (a1 : Nat) (j : Nat) : Span := nrB a a1 (ZE j)
abbrev P7 (a : DkS) : Prop := ∀ (a_1 : One), True -> (∃ (a_3 : One), (GA a /\ FY a /\ FZ a /\ FW a /\ FX a /\ EX a /\ FH a /\ FI a /\ FF a /\ EB a /\ AT = AT /\
 FD a /\ EC a /\ FK a /\ DT a /\ OY a /\ Cy a) /\ True) /\ ∀ (a_3 : One), True -> (∃ (a_5 : Nat), (uA a /\ C0 a /\ BFM a /\ (↑a_5 : Int) = (0 : Int) /\ GA a /\ FY a /\
 FZ a /\ FW a /\ FX a /\ EX a /\ FH a /\ FI a /\ FF a /\ EB a /\ AT = AT /\ FD a /\ EC a /\ FK a /\ DT a /\ (∀ (i : Nat), i < a.l.length -> (nrF a a_5 i).lo = (gD
 a.l i).lo /\ (nrF a a_5 i).hi = (gD a.l i).hi) /\ Cy a) /\ Cf a_5 a) /\ ∀ (a_5 : Nat), Cf a_5 a -> bif decide (BCZ a_5 a) then (Ln a_5 /\ BCZ a_5 a) /\ (BCV a_5 a /\ BBP a_5 a /\
 BCV a_5 a /\ BBP a_5 a /\ KT a_5 = KT a_5 /\ G4 a a_5 = G4 a a_5 /\ wR a a_5 = wR a a_5 /\ DC /\ BDG a a_5 /\ BDG a a_5 /\ (∀ (i : Nat), i < Lg a a_5 ->
 (ATY a a_5 i).lo = (nrF a a_5 i).lo /\ (ATY a a_5 i).hi = (nrF a a_5 i).hi) /\ DC /\ BDQ a a_5 /\ AWR a_5 /\ KT a_5 < (↑(Lg a a_5) : Int)) /\ ∃ (a_7 : Nat), (uA a /\ C0 a /\
 BFM a /\ D2 a_7 a_5 /\ GA a /\ FY a /\ FZ a /\ FW a /\ FX a /\ EX a /\ FH a /\ FI a /\ FF a /\ EB a /\ AT = AT /\ FD a /\ EC a /\ FK a /\ BDQ a
 a_5 /\ (∀ (i : Nat), i < a.l.length -> (nrF a a_7 i).lo = (AQQ a a_5 i).lo /\ (nrF a a_7 i).hi = (AQQ a a_5 i).hi) /\ Cy a) /\ BBL a_7 a a_5 else (∃ (a_7 : Nat), (EP a a_7 = IntKind.i64.wrap
 ((↑(LL a.w).length : Int) - (1 : Int)) /\ GA a /\ FY a /\ FZ a /\ FW a /\ FX a /\ EX a /\ FH a /\ FI a /\ FF a /\ EB a /\ AT = AT /\ FD a /\ EC a /\ FK a /\
 DT a /\ (∀ (i : Nat), i < a.l.length -> (nrB a a_7 i).lo = (nrF a a_5 i).lo /\ (nrB a a_7 i).hi = (nrF a a_5 i).hi) /\ Cy a) /\ Cf a_7 a) /\ ∀ (a_7 : Nat), Cf a_7 a -> bif decide (EP a a_7 >= (0 :
 Int)) then (X9 a a_7 /\ X2 a a_7 /\ ABF a a_7 /\ X9 a a_7 /\ X2 a a_7 /\ ABF a a_7 /\ EP a a_7 = EP a a_7 /\ Yp a a_7 = Yp a a_7 /\ Zb a a_7 = Zb
 a a_7 /\ DC /\ Dh a a_7 /\ Dh a a_7 /\ ACW a a_7 /\ DC /\ Yx a a_7 /\ O8 a a_7 /\ EP a a_7 < (↑(QL a a_7) : Int)) /\ ∃ (a_9 : Nat), (EP a a_9 = IntKind.i64.wrap
 (EP a a_7 - (1 : Int)) /\ GA a /\ FY a /\ FZ a /\ FW a /\ FX a /\ EX a /\ FH a /\ FI a /\ FF a /\ EB a /\ AT = AT /\ FD a /\ EC a /\ FK a /\ Yx a
 a_7 /\ (∀ (i : Nat), i < a.l.length -> (nrB a a_9 i).lo = (AAH a a_7 i).lo /\ (nrB a a_9 i).hi = (AAH a a_7 i).hi) /\ Cy a) /\ BBL a_9 a a_7 else (DC /\ Dh a a_7 /\ Dh a a_7 /\
 ACW a a_7 /\ Yx a a_7 /\ (∀ (i : Nat), i < a.l.length -> (nrB a a_7 i).lo = ADT a a_7 i /\ (nrB a a_7 i).hi = ACN a a_7 i) /\ QL a a_7 < (4611686018427387904 : Nat) /\ True) /\ (KV a.w
 a.l).length = a.l.length /\ (0 : Nat) + a.l.length <= a.l.length /\ (∀ (j : Nat), j < (KV a.w a.l).length -> (gD (KV a.w a.l) j).lo = (AEG a a_7 j).lo /\ (gD (KV a.w a.l) j).hi = (AEG a a_7 j).hi) /\ (KV
 a.w a.l).all JB = (Bi a a_7).all JB /\ GA a /\ FY a /\ FZ a /\ FW a /\ FX a /\ EX a /\ FH a /\ FI a /\ FF a /\ EB a /\ AT = AT /\ FD a /\ EC a /\ FK a
theorem CVR (a : DkS) : (CRX a) = ((bI a = a.l.length /\ (∀ (i : Nat), i < bI a -> BTK a i = (gD a.l i).lo /\ BNF a i = (gD a.l i).hi) /\ (0 : Nat) < bI a /\ bI a < (1073741824 : Nat)) /\
 ((GA a /\ FY a /\ FZ a /\ FW a /\ FX a /\ F3 a = a.w.c.ms.length /\ (∀ (i : Nat), i < F3 a -> BHS a i = (gD a.w.c.ms i).pl /\ ATR a i = (gD a.w.c.ms i).ht) /\ xH a =
 a.w.c.ns.length /\ (∀ (i : Nat), i < xH a -> AXC a i = (gD a.w.c.ns i).mi /\ AXX a i = Mx a i /\ BAC a i = Sf a i /\ AXR a i = Po a i /\ AQI a i = Vy a i) /\ EB a /\
 AT = AT /\ (∀ (n : Int), BJC a n = hasN a.w.c.ns n) /\ EC a /\ (∀ (n : Int), ARW a n = (ntOf a.w.c.ns n).mi /\ AUM a n = (ntOf a.w.c.ns n).t.lo /\ ATV a n = (ntOf a.w.c.ns n).t.hi /\ AZX a n =
 (ntOf a.w.c.ns n).s.lo /\ AQO a n = (ntOf a.w.c.ns n).s.hi) /\ GA a /\ FY a /\ FZ a /\ FW a /\ FX a /\ a.w.c.ms.length = F3 a /\ (∀ (i : Nat), AWQ i a -> (gD a.w.c.ms i).pl = BHS a i
 /\ (gD a.w.c.ms i).ht = ATR a i) /\ a.w.c.ns.length = xH a /\ (∀ (i : Nat), BGD i a -> (gD a.w.c.ns i).mi = AXC a i /\ Mx a i = AXX a i /\ Sf a i = BAC a i /\ Po a i = AXR a
 i /\ Vy a i = AQI a i) /\ EB a /\ AT = AT /\ (∀ (n : Int), hasN a.w.c.ns n = BJC a n) /\ EC a /\ ∀ (n : Int), (ntOf a.w.c.ns n).mi = ARW a n /\ (ntOf a.w.c.ns n).t.lo = AUM a n /\ (ntOf
 a.w.c.ns n).t.hi = ATV a n /\ (ntOf a.w.c.ns n).s.lo = AZX a n /\ (ntOf a.w.c.ns n).s.hi = AQO a n) /\ ∀ (l : Nat), (∃ (a_1 : One), (Fn.yield l = Fn.yield l /\ Bu a = IntKind.i64.wrap (AUJ a) /\
 Int.ofNat (0 : Nat) = Int.ofNat (0 : Nat) /\ GA a /\ FY a /\ FZ a /\ FW a /\ FX a /\ EX a /\ FH a /\ FI a /\ FF a /\ EB a /\ AT = AT /\ FD a /\ EC a /\ FK a /\
 AYD a /\ (∀ (i : Nat), i < a.l.length -> (gD a.l i).lo = BTK a i /\ (gD a.l i).hi = BNF a i) /\ DC /\ AYD a /\ DC /\ ∀ (i : Nat), i < (0 : Nat) -> false = false) /\ True) /\ (∀ (a_1 : One), True -> bif
 decide ((↑(0 : Nat) : Int) < Bu a) then (((0 : Int) <= z_nar_52 /\ z_nar_52 < (↑a.w.c.ms.length : Int)) /\ BDH /\ (↑(0 : Nat) : Int) < (↑a.w.c.ms.length : Int)) /\ (BDH /\ (↑(0 : Nat) : Int) < (↑(40 : Nat) :
 Int)) /\ (Nat.succ (0 : Nat)).le (40 : Nat) /\ bif a.w.sp (0 : Nat) then l = l /\ BCL /\ ∃ (a_3 : Nat), (Fn.yield l = Fn.yield l /\ Rx a /\ BDX a_3 /\ GA a /\ FY a /\ FZ a /\ FW a /\ FX a /\
 EX a /\ FH a /\ FI a /\ FF a /\ EB a /\ AT = AT /\ FD a /\ EC a /\ FK a /\ DT a /\ OY a /\ DC /\ DT a /\ DC /\ a_3 = (1 : Nat) /\ a_3 = (1 : Nat) /\ ∀ (i :
 Nat), i < a_3 -> ATA a i /\ (FU a.w i).hi = (200000000 : Int)) /\ BDC a_3 a else l = l /\ BCL /\ ∃ (a_3 : Nat), (Fn.yield l = Fn.yield l /\ Rx a /\ BDX a_3 /\ GA a /\ FY a /\ FZ a /\
 FW a /\ FX a /\ EX a /\ FH a /\ FI a /\ FF a /\ EB a /\ AT = AT /\ FD a /\ EC a /\ FK a /\ DT a /\ OY a /\ DC /\ DT a /\ DC /\ a_3 = (1 : Nat) /\
 a_3 = (1 : Nat) /\ ∀ (i : Nat), i < a_3 -> ATA a i /\ (FU a.w i).hi = IntKind.i64.wrap (a.w.c.p.hi * BER a)) /\ BDC a_3 a else ∃ (a_3 : One), (GA a /\ FY a /\ FZ a /\ FW a /\ FX a /\
 EX a /\ FH a /\ FI a /\ FF a /\ EB a /\ AT = AT /\ FD a /\ EC a /\ FK a /\ DT a /\ OY a /\ DC /\ DT a /\ BFJ a /\ BFJ a) /\ True) /\ ∀ (a_1 : Nat),
 K3 a_1 a -> bif decide ((↑a_1 : Int) < Bu a) then ((AWR a_1 /\ KT a_1 < (↑a.w.c.ms.length : Int)) /\ Ln a_1 /\ (↑a_1 : Int) < (↑a.w.c.ms.length : Int)) /\ (Ln a_1 /\ (↑a_1 : Int) < (↑(40 :
 Nat) : Int)) /\ a_1.succ.le (40 : Nat) /\ bif a.w.sp a_1 then l = l /\ AVD a_1 /\ ∃ (a_3 : Nat), (Fn.yield l = Fn.yield l /\ Rx a /\ D2 a_3 a_1 /\ GA a /\ FY a /\ FZ a /\ FW a /\ FX a /\
 EX a /\ FH a /\ FI a /\ FF a /\ EB a /\ AT = AT /\ FD a /\ EC a /\ FK a /\ DT a /\ OY a /\ DC /\ DT a /\ DC /\ Jl a_3 a_1 /\ Jl a_3 a_1 /\ ∀ (i
 : Nat), i < a_3 -> AVQ a i a_1 /\ (FU a.w i).hi = bif decide (i < a_1) then (FU a.w i).hi else (200000000 : Int)) /\ ATQ a_3 a a_1 else l = l /\ AVD a_1 /\ ∃ (a_3 : Nat), (Fn.yield l = Fn.yield l /\ Rx
 a /\ D2 a_3 a_1 /\ GA a /\ FY a /\ FZ a /\ FW a /\ FX a /\ EX a /\ FH a /\ FI a /\ FF a /\ EB a /\ AT = AT /\ FD a /\ EC a /\ FK a /\ DT a /\ OY
 a /\ DC /\ DT a /\ DC /\ Jl a_3 a_1 /\ Jl a_3 a_1 /\ ∀ (i : Nat), i < a_3 -> AVQ a i a_1 /\ (FU a.w i).hi = bif decide (i < a_1) then (FU a.w i).hi else IntKind.i64.wrap (a.w.c.p.hi *
 AWC a a_1)) /\ ATQ a_3 a a_1 else ∃ (a_3 : One), (GA a /\ FY a /\ FZ a /\ FW a /\ FX a /\ EX a /\ FH a /\ FI a /\ FF a /\ EB a /\ AT = AT /\ FD a /\ EC a
 /\ FK a /\ DT a /\ OY a /\ DC /\ DT a /\ (LL a.w).length = a_1 /\ ZE a_1 <= a_1 /\ ∀ (j : Nat), j < (LL a.w).length -> (gD (LL a.w) j).lo = (BFQ a j).lo /\ (gD (LL a.w) j).hi =
 (BFQ a j).hi) /\ True) /\ P7 a /\ P7 a) := by kernel_rfl
theorem CFR {L : Nat} {f : Nat -> Span} {k : Int} {s : Span} {i : Nat} (hi : i < L) (hk : k.toNat < L) : upd1 (AE L f) k s i = bif decide (i = k.toNat) then fG (f k.toNat) s else f i := by
 unfold upd1; rw [BH _ _ _ hi, BH _ _ _ hk]
theorem CLU (a : DkS) {k i : Nat} (hk : k + 1 < a.l.length) (hi : i < a.l.length) : nrF a (k + 1) i = upd1 (AE a.l.length λ i => nrF a k i) ((k + 1 : Nat) : Int) (addS (nrF a k k) (FU a.w k)) i := by
 rw [CFR hi (by show k + 1 < _; exact hk)]
 show _ = bif decide (i = k + 1) then fG (nrF a k (k + 1)) _ else _
 by_cases h : i = k + 1
 ·subst h
  simp only [nrF, Nat.le_refl, decide_true, cond_true, show ¬ k + 1 <= k by omega, decide_false, cond_false]
  rfl
 ·have e : decide (i <= k + 1) = decide (i <= k) := by rw [decide_eq_decide]; omega
  simp only [nrF, h, e, decide_false, cond_false]
theorem CMI (a : DkS) {j i : Nat} (hl : a.l.length = a.w.c.ms.length) (hj : j + 2 <= a.l.length) (hi : i < a.l.length) : nrB a (j + 1) i = upd1 (AE a.l.length λ i => nrB a j i) ((a.w.c.ms.length - 2 - j : Nat) : Int) (subS (nrB a j (a.w.c.ms.length - 2 - j + 1)) (FU a.w (a.w.c.ms.length - 2 - j))) i := by
 rw [CFR hi (by show a.w.c.ms.length - 2 - j < _; omega)]
 show _ = bif decide (i = a.w.c.ms.length - 2 - j) then fG (nrB a j (a.w.c.ms.length - 2 - j)) _ else _
 by_cases h : i = a.w.c.ms.length - 2 - j
 ·have e1 : decide (a.w.c.ms.length - 1 - (j + 1) <= i) = true := by rw [decide_eq_true_eq]; omega
  have e2 : decide (a.w.c.ms.length - 1 - j <= a.w.c.ms.length - 2 - j) = false := by rw [decide_eq_false_iff_not]; omega
  have e3 : decide (a.w.c.ms.length - 1 - j <= a.w.c.ms.length - 2 - j + 1) = true := by rw [decide_eq_true_eq]; omega
  have e4 : a.w.c.ms.length - 1 - i = j + 1 := by omega
  have e5 : a.w.c.ms.length - 1 - (a.w.c.ms.length - 2 - j + 1) = j := by omega
  have e6 : a.w.c.ms.length - 1 - (j + 1) = a.w.c.ms.length - 2 - j := by omega
  have e7 : decide (i = a.w.c.ms.length - 2 - j) = true := by rw [decide_eq_true_eq]; exact h
  have e8 : decide (a.w.c.ms.length - 2 - j <= i) = true := by rw [decide_eq_true_eq]; omega
  rw [e7]
  simp only [nrB, e2, e3, e4, e5, cond_true, cond_false, bkM, e6, e8]
 ·have e1 : decide (a.w.c.ms.length - 1 - (j + 1) <= i) = decide (a.w.c.ms.length - 1 - j <= i) := by rw [decide_eq_decide]; omega
  simp only [nrB, h, e1, decide_false, cond_false]
theorem CYO (a : DkS) (h : a.l.length = a.w.c.ms.length /\ 1 <= a.w.c.ms.length /\ a.w.c.ms.length <= 40) : CRX a := by
 obtain ⟨hl, h1, h2⟩ := h
 have e1 : wr ((a.w.c.ms.length : Int) - 1) = ((a.w.c.ms.length - 1 : Nat) : Int) := by unfold wr; rw [FC (by omega) (by omega)]; omega
 have e2 : IntKind.i64.wrap ((a.w.c.ms.length : Int) - 1) = ((a.w.c.ms.length - 1 : Nat) : Int) := e1
 have gl : (LL a.w).length = a.w.c.ms.length - 1 := rng_length _ _
 have gg : ∀ {j : Nat}, j < a.w.c.ms.length - 1 -> gD (LL a.w) j = FU a.w j := λ hj => BH _ _ _ hj
 have lo : ∀ k, (FU a.w k).lo = IntKind.i64.wrap (a.w.c.p.lo * IntKind.i64.wrap ((gD a.w.c.ms (k + 1)).pl - (gD a.w.c.ms k).pl)) := λ _ => rfl
 have hi1 : ∀ k, a.w.sp k = true -> (FU a.w k).hi = 200000000 := λ k h => by unfold FU; rw [h]; rfl
 have hi0 : ∀ k, a.w.sp k = false -> (FU a.w k).hi = IntKind.i64.wrap (a.w.c.p.hi * IntKind.i64.wrap ((gD a.w.c.ms (k + 1)).pl - (gD a.w.c.ms k).pl)) := λ k h => by unfold FU; rw [h]; rfl
 have ws : ∀ {k : Nat}, k < 40 -> IntKind.i64.wrap ((k : Int) + 1) = ((k + 1 : Nat) : Int) := λ h => GK (by omega)
 rw [CVR]; delta BPV bI BMR BTK BNF GA FY FZ FW FX BIK F3 BET BHS ATR Ve xH uH AXC BGK AXX Mx BAC Sf AUB AXR Po AQI Vy EB BJC EC uF ARW BID AUM ATV AVM AZX AQO AWQ BGD AUJ Bu EX FH FI FF FD FK AYD DC z_nar_52 BDH xF AUC AUS BCL Rx BDX DT OY BER ATA ATG K3 L5 BDC BFJ KT AWR Ln yB AVD D2 Jl AWC AVQ AYK ATQ ZE BFQ uA C0 Cy BFM Cf BCZ BCV BBP BIA G4 wR I8 Lg BDG ATY BDQ AQQ BBL EP cG X9 AER X2 O8 ABF X6 X8 Yp Zb Bi QL Dh AGK ADT ACN ACW Yx AAH AEG P7; simp only [CC, eq_self, implies_true, forall_const]; simp only [e1, e2, gl, hl]
 refine ⟨by omega, ⟨⟨default, trivial⟩, ⟨λ h0 => ?_, λ h0 => ⟨default, by omega⟩⟩, λ k hk => ⟨λ hlt => ?_, λ hge => ⟨default, by omega, Nat.le_refl _, λ j hj => by rw [gg hj]; exact ⟨rfl, rfl⟩⟩⟩⟩, ⟨default, trivial⟩, ⟨0, ⟨rfl, λ i hi => ?_⟩, Nat.zero_le _⟩, λ k hk => ⟨λ hlt => ?_, λ hge => ⟨⟨0, ⟨?_, λ i hi => ?_⟩, Nat.zero_le _⟩, λ j hj => ⟨λ hlt => ?_, λ hlt => ?_⟩⟩⟩⟩
 ·simp only [ws (show (0 : Nat) < 40 by omega), Int.toNat_natCast]
  refine ⟨by omega, by omega, by omega, λ h => ⟨by simp, 1, ⟨rfl, rfl, rfl, λ i hi => ?_⟩, by omega, by omega⟩, λ h => ⟨by simp, 1, ⟨rfl, rfl, rfl, λ i hi => ?_⟩, by omega, by omega⟩⟩
  ·obtain rfl : i = 0 := by omega
   exact ⟨lo 0, hi1 0 h⟩
  ·obtain rfl : i = 0 := by omega
   exact ⟨lo 0, hi0 0 h⟩
 ·simp only [ws (show k < 40 by omega), Int.toNat_natCast]
  refine ⟨by omega, by omega, by omega, λ h => ⟨⟨by omega, (λ h => by cases h), by omega, by omega⟩, k + 1, ⟨rfl, rfl, rfl, λ i hi => ?_⟩, by omega, by omega⟩, λ h => ⟨⟨by omega, (λ h => by cases h), by omega, by omega⟩, k + 1, ⟨rfl, rfl, rfl, λ i hi => ?_⟩, by omega, by omega⟩⟩
  ·by_cases q : i < k
   ·simp only [q, decide_true, cond_true, and_self]
   ·obtain rfl : i = k := by omega
    simp only [q, decide_false, cond_false]
    exact ⟨lo i, hi1 i h⟩
  ·by_cases q : i < k
   ·simp only [q, decide_true, cond_true, and_self]
   ·obtain rfl : i = k := by omega
    simp only [q, decide_false, cond_false]
    exact ⟨lo i, hi0 i h⟩
 ·by_cases q : i = 0
  ·subst q; exact ⟨rfl, rfl⟩
  ·have : ¬ i <= 0 := by omega
   simp only [nrF, this, decide_false, cond_false, and_self]
 ·simp only [ws (show k < 40 by omega)]
  refine ⟨by omega, ⟨by omega, by omega, by omega, by omega, λ i hi => by rw [BH _ _ _ hi]; exact ⟨rfl, rfl⟩, by omega, by omega⟩, k + 1, ⟨rfl, λ i hi => ?_⟩, by omega, by omega⟩
  have e := CLU a (k := k) (i := i) (by omega) (by omega)
  rw [gg (by omega), e, hl]; exact ⟨rfl, rfl⟩
 ·rw [FC (by omega) (by omega)]; omega
 ·obtain rfl : k = a.w.c.ms.length - 1 := by omega
  have q1 : decide (i <= a.w.c.ms.length - 1) = true := by rw [decide_eq_true_eq]; omega
  unfold nrB nrF; rw [q1]
  by_cases q : a.w.c.ms.length - 1 - 0 <= i
  ·have q2 : a.w.c.ms.length - 1 - i = 0 := by omega
   have q3 : i = a.w.c.ms.length - 1 := by omega
   simp only [q, decide_true, cond_true, q2, bkM]; rw [<- q3]; exact ⟨rfl, rfl⟩
  ·simp only [q, decide_false, cond_false, cond_true, and_self]
 ·have g0 : (a.w.c.ms.length : Int) - 2 - j = ((a.w.c.ms.length - 2 - j : Nat) : Int) := by omega
  have g1 : IntKind.i64.wrap (((a.w.c.ms.length - 2 - j : Nat) : Int) + 1) = ((a.w.c.ms.length - 2 - j + 1 : Nat) : Int) := ws (by omega)
  simp only [g0, g1, Int.toNat_natCast]
  refine ⟨⟨by omega, by omega, by omega, by omega, by omega, by omega, λ i hi => by rw [BH _ _ _ hi]; exact ⟨rfl, rfl⟩, by omega, by omega⟩, j + 1, ⟨?_, λ i hi => ?_⟩, by omega, by omega⟩
  ·rw [FC (by omega) (by omega)]; omega
  ·have e := CMI a (j := j) (i := i) hl (by omega) (by omega)
   rw [gg (by omega), e, hl]; exact ⟨rfl, rfl⟩
 ·have q : j = a.w.c.ms.length - 1 := by omega
  have eq1 : ∀ i, i < a.w.c.ms.length -> gD (KV a.w a.l) i = nrB a j i := λ i hi => by
   unfold KV; rw [BH _ _ _ (by omega), hl]
   have q2 : decide (a.w.c.ms.length - 1 - j <= i) = true := by rw [decide_eq_true_eq]; omega
   unfold nrB; rw [q2]; rfl
  have nl : (KV a.w a.l).length = a.w.c.ms.length := by unfold KV; rw [rng_length, hl]
  refine ⟨⟨λ i hi => by rw [BH _ _ _ hi]; exact ⟨rfl, rfl⟩, λ i hi => by rw [BH _ _ _ hi]; exact ⟨rfl, rfl⟩, by omega⟩, nl, Nat.le_refl _, λ i hi => by rw [eq1 i (by omega)]; exact ⟨rfl, rfl⟩, ?_⟩
  congr 1
  exact BRP (by rw [nl, rng_length]) λ i hi => by rw [eq1 i (by omega), BH _ _ _ (by omega)]
theorem CAK : AM Try.prog UT (C_nar.spec dDkS) := LM C_nar CRY [] [2016] BYT (λ _ => by kernel_rfl) (λ _ => AC COL (AC CEH (AC CQG (AC CXT AJ)))) (λ a h => CYO a h) (λ a => CSJ aE (CTZ a) rfl rfl AJ BYN (by kernel_rfl) (by kernel_rfl)) _
end Go.Bal
