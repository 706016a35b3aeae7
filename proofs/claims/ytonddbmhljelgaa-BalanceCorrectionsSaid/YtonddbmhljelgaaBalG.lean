/- Package balance: settle. -/
import Derived.Test.YtonddbmhljelgaaBalF
set_option linter.unusedVariables false
set_option linter.unusedSimpArgs false
namespace Go.Bal
open Go Go.Sym Go.Proofs
def V96 (x : Int) : Prop := fnVC Try.prog (ann 5 []) Try.f96 (bodyOf Try.f96) [.int x] (heapOf []) (.bool (decide (0 < x))) [] [] []
theorem vc96 (x : Int) : (V96 x) = (decide (0 < x) = decide (x > 0)) := by kernel_rfl
def f96 : List AVal → Option (AVal × List Prop)
  | [.d (.v (.int .i64 x))] => some (.bool (decide (0 < x)), [])
  | _ => none
def s96 := pureSpec f96
theorem ok96 : SpecOk Try.prog 96 s96 := pureSpec_ok fun xs v p h _ => by
  unfold f96 at h; split at h
  · cases h; exact fnt (A := ann 5 []) (ren := []) (fz := []) Try.func96 (by kernel_rfl) gok_nil (by show V96 _; rw [vc96])
  · cases h
structure NI where
  n : Nat
  g : Nat → Int
def rowI (n : Nat) (g : Nat → Int) : AObj := .row 1 n fun i => eInt (g i)
def A95 (a : NI) : Ann := { ann 19 [(96, s96)] with E := [100], loops := fun id => if id = 2 then some [{ α := Nat, dflt := 0, T := fun k => ⟨[(0, .own 100 1 0 a.n), (1, .fn (.func 96) [] []), (7, .int a.n), (8, .int k)], [(100, .live (rowI a.n a.g))]⟩, inv := fun k => k ≤ a.n ∧ idx (fun i => decide (0 < a.g i)) a.n 0 = idx (fun i => decide (0 < a.g i)) (a.n - k) k, meas := fun k => a.n - k }] else none }
def C95 : Ctr := { ro := [100], α := NI, xs := fun a => [.own 100 1 0 a.n, .fn (.func 96) [] []], L := fun a => [(100, rowI a.n a.g)], val := fun a => .int (idx (fun i => decide (0 < a.g i)) a.n 0), keep := fun a => [(100, .live (rowI a.n a.g))], pre := fun a => [decide (a.n < 4611686018427387904) = true] }
def d95 : List AVal → Heap → Option (NI × List (Nat × Nat) × List Nat)
  | [.own id _ _ n, .fn _ _ []], H => match H id with
    | .live (.row _ _ get) => some (⟨n, fun i => dInt (get i)⟩, [(100, id)], [])
    | _ => none
  | _, _ => none
def V95 (a : NI) : Prop := fnVC Try.prog (A95 a) Try.f95 (bodyOf Try.f95) (C95.xs a) (heapOf (C95.L a)) (C95.val a) (C95.keep a) [] []
theorem vc95 (a : NI) : (V95 a) = ((∃ (a_1 : Nat), (0 = 0 ∧ a.n = a.n ∧ (↑a.n : Int) = (↑a.n : Int) ∧ (↑a_1 : Int) = 0 ∧ a.n = a.n ∧ ∀ (i : Nat), i < a.n → a.g i = a.g i) ∧ a_1 ≤ a.n ∧ idx (fun (i : Nat) => decide (0 <
 a.g i)) a.n 0 = idx (fun (i : Nat) => decide (0 < a.g i)) (a.n - a_1) a_1) ∧ ∀ (a_1 : Nat), a_1 ≤ a.n ∧ idx (fun (i : Nat) => decide (0 < a.g i)) a.n 0 = idx (fun (i : Nat) => decide (0 < a.g i)) (a.n - a_1) a_1 → bif
 decide ((↑a_1 : Int) < (↑a.n : Int)) then ((0 ≤ (↑a_1 : Int) ∧ (↑a_1 : Int) < (↑a.n : Int)) ∧ (0 + a_1).succ.le a.n) ∧ bif decide (0 < a.g (0 + a_1)) then idx (fun (i : Nat) => decide (0 < a.g i)) a.n 0 = (↑a_1 : Int) ∧
 a.n = a.n ∧ ∀ (i : Nat), i < a.n → a.g i = a.g i else ∃ (a_3 : Nat), (0 = 0 ∧ a.n = a.n ∧ (↑a.n : Int) = (↑a.n : Int) ∧ (↑a_3 : Int) = IntKind.i64.wrap ((↑a_1 : Int) + 1) ∧ a.n = a.n ∧ ∀ (i : Nat), i < a.n → a.g i = a.g
 i) ∧ (a_3 ≤ a.n ∧ idx (fun (i : Nat) => decide (0 < a.g i)) a.n 0 = idx (fun (i : Nat) => decide (0 < a.g i)) (a.n - a_3) a_3) ∧ a.n - a_3 < a.n - a_1 else idx (fun (i : Nat) => decide (0 < a.g i)) a.n 0 = -1 ∧ a.n = a.n
 ∧ ∀ (i : Nat), i < a.n → a.g i = a.g i) := by kernel_rfl
theorem p95 (a : NI) (h : a.n < 4611686018427387904) : V95 a := by
  rw [vc95]
  simp only [condP, eq_self, implies_true, and_self, true_and, and_true, true_implies, forall_const, decide_eq_true_eq, decide_eq_false_iff_not, Int.toNat_natCast, dSpan_eSpan, dReach_eReach, dWay_eWay, dStep_eStep, dFar_eFar, dInt_eInt, Nat.zero_add, Int.zero_sub, Nat.le_eq, Nat.succ_eq_add_one, Nat.add_one_le_iff, Bool.not_eq_true', Bool.not_eq_false', rng_length, dSpan_mk, dReach_mk, dWay_mk, dStep_mk, dFar_mk, rng_getD]
  refine ⟨⟨0, rfl, Nat.zero_le _, rfl⟩, fun k ⟨h1, h2⟩ => ⟨fun hlt => ?_, fun hge => ?_⟩⟩
  · have hlt : k < a.n := by omega
    refine ⟨⟨by omega, by omega⟩, fun hp => ?_, fun hp => ⟨k + 1, (wsucc (by omega)).symm, ⟨by omega, ?_⟩, by omega⟩⟩
    · rw [h2]; exact idx_stop hlt (by simpa using hp)
    · rw [h2]; exact idx_go hlt (by simpa using hp)
  · rw [h2]; exact idx_end (by omega)
theorem ok95 : SpecOk Try.prog 95 (C95.spec d95) := okC C95 A95 [] [] Try.func95 (fun _ => by kernel_rfl) (fun _ => gok_cons ok96 gok_nil) (fun a h => p95 a (of_decide_eq_true h)) (fun _ => noI rfl rfl) _
structure KD where
  k : Nat
  all : List Way
  deriving Inhabited
structure NQ where
  all : List Way
  p : Nat
  to : Int
  best : Far
  deriving Inhabited
def dec97a : List AVal → Heap → Option (DM × List (Nat × Nat) × List Nat)
  | [.bptr id _, .d (.v (.int _ fr)), .d (.v (.int _ to)), .mref m, .d (.v (.int _ most))], H => match decDesk H id with
    | some (d, r) => some (⟨d, fr, to, (rOf d any fr).m, (rOf d any fr).st, most⟩, [(100, id), (101, r), (104, m)], [])
    | none => none
  | _, _ => none
def settleHd (a : Desk) (all : List Way) : List (Nat × HCell) := deskK (Desk.mk all a.out a.nR) ++ [(300, .live (.box [.fn (.func 93) [] []])), (301, .live (.row 1 10 fun i => eInt (gD (overM (Desk.mk all a.out a.nR)) i)))]
def stepFr (a : Desk) (all : List Way) : Int := firstPos (overM (Desk.mk all a.out a.nR))
def stepM (a : Desk) (all : List Way) : RT := rOf (Desk.mk all a.out a.nR) any (stepFr a all)
def zF : Far := ⟨0, 0, ⟨0, false⟩⟩
def settleIn (a : Desk) (df : Desk) (gs : List Nat) : Shape := { α := NQ, dflt := default, T := fun s => ⟨[(0, .bptr 100 0), (2, .bptr 300 0), (3, .rptr 301 1 0 0), (4, .int (stepFr a s.all)), (5, .mref 302), (6, .int s.to), (7, .bptr 303 0), (28, .d (eInts10 (overM (Desk.mk s.all a.out a.nR)))), (29, .int s.p)], settleHd a s.all ++ [(302, .live (mapO (stepM a s.all).m (stepM a s.all).st)), (303, .live (farO s.best))]⟩, inv := fun s => s.all.length = a.all.length ∧ (Desk.mk s.all a.out a.nR).ok ∧ overM (Desk.mk s.all a.out a.nR) ≠ List.replicate 10 0 ∧ settleM (gs.headD 0) (Desk.mk s.all a.out a.nR) = some df ∧ s.p ≤ 10 ∧ nearest (stepM a s.all).m (stepFr a s.all) ((overM (Desk.mk s.all a.out a.nR)).drop s.p) s.p (s.to, s.best) = nearest (stepM a s.all).m (stepFr a s.all) (overM (Desk.mk s.all a.out a.nR)) 0 (stepFr a s.all, zF), meas := fun s => 10 - s.p, first := [(302, 6048), (303, 7032)] }
def settleOut (a : Desk) (df : Desk) : Shape := { α := KD, dflt := default, T := fun s => ⟨[(0, .bptr 100 0), (2, .bptr 300 0), (3, .rptr 301 1 0 0)], settleHd a s.all⟩, inv := fun s => s.all.length = a.all.length ∧ (Desk.mk s.all a.out a.nR).ok ∧ settleM s.k (Desk.mk s.all a.out a.nR) = some df, meas := fun s => s.k, first := [(300, 1016), (301, 2032)], again := [(301, 18000)] }
def A68 (a : Desk) (df : Desk) : Ann := { ann 86 [(94, C94.spec dDesk), (95, C95.spec d95), (57, s57a), (97, C97.spec dec97a)] with E := [100, 101], inner := fun gs id => if id = 2 then some [settleOut a df] else if id = 8 then some [settleIn a df gs] else none }
def C68 : Ctr := { α := Desk, xs := fun _ => [.bptr 100 0], L := deskL, val := fun _ => uV, keep := fun d => deskK ((settleV d).getD default), pre := fun d => [d.ok, (settleV d).isSome = true] }
def V68 (a : Desk) : Prop := fnVC Try.prog (A68 a ((settleV a).getD default)) Try.f68 (bodyOf Try.f68) (C68.xs a) (heapOf (C68.L a)) (C68.val a) (C68.keep a) [] []
abbrev z68_0 : Prop := 0 = 0
abbrev z68_1 (a : Desk) : List Way := rng a.all.length fun (i : Nat) => gD a.all i
abbrev z68_2 (a : Desk) : Nat := (z68_1 a).length
abbrev z68_3 (a : Desk) : Prop := z68_2 a = a.all.length
abbrev z68_4 (a : Desk) : Prop := (↑a.out : Int) = (↑a.out : Int)
abbrev z68_5 (a : Desk) : Prop := (↑a.nR : Int) = (↑a.nR : Int)
abbrev z68_6 (a : Desk) (i : Nat) : Way := gD (z68_1 a) i
abbrev z68_7 (a : Desk) (i : Nat) : Int := (z68_6 a i).fr
abbrev z68_8 (a : Desk) (i : Nat) : Int := (z68_6 a i).to
abbrev z68_9 (a : Desk) (i : Nat) : Span := (z68_6 a i).sp
abbrev z68_10 (a : Desk) (i : Nat) : Int := (z68_9 a i).lo
abbrev z68_11 (a : Desk) (i : Nat) : Int := (z68_9 a i).hi
abbrev z68_12 (a : Desk) (i : Nat) : Int := (z68_6 a i).now
abbrev z68_13 (a : Desk) : Prop := a.all.length = z68_2 a
abbrev z68_14 (a : Desk) : Desk := Desk.mk (z68_1 a) a.out a.nR
abbrev z68_15 : Prop := (Value.agg #[Value.int IntKind.i64 0, Value.int IntKind.i64 0, Value.int IntKind.i64 0, Value.int IntKind.i64 0, Value.int IntKind.i64 0, Value.int IntKind.i64 0, Value.int IntKind.i64 0,
 Value.int IntKind.i64 0, Value.int IntKind.i64 0, Value.int IntKind.i64 0]).cells.toList = (List.replicate 10 (Value.int IntKind.i64 0).cells.toList).flatten
abbrev z68_16 (a : KD) (a1 : Desk) : Prop := a.all.length = a1.all.length
abbrev z68_17 : Prop := 10 = 10
abbrev z68_18 (a : KD) (a1 : Desk) (i : Nat) : Int := gD (overM (Desk.mk a.all a1.out a1.nR)) i
abbrev z68_19 (a : KD) (a1 : Desk) : Prop := z68_16 a a1 ∧ (Desk.mk a.all a1.out a1.nR).ok ∧ settleM a.k (Desk.mk a.all a1.out a1.nR) = some ((settleV a1).getD default)
abbrev z68_20 (a : KD) (a1 : Desk) : Prop := ∀ (i : Nat), i < 10 → z68_18 a a1 i = z68_18 a a1 i
abbrev z68_21 (a : KD) (a1 : Desk) : Int := idx (fun (i : Nat) => decide (0 < z68_18 a a1 i)) 10 0
abbrev z68_22 (a : KD) : List Way := rng a.all.length fun (i : Nat) => gD a.all i
abbrev z68_23 (a : KD) : Nat := (z68_22 a).length
abbrev z68_24 (a : KD) : Prop := z68_23 a = a.all.length
abbrev z68_25 (a : KD) (i : Nat) : Way := gD (z68_22 a) i
abbrev z68_26 (a : KD) (i : Nat) : Int := (z68_25 a i).fr
abbrev z68_27 (a : KD) (i : Nat) : Int := (z68_25 a i).to
abbrev z68_28 (a : KD) (i : Nat) : Span := (z68_25 a i).sp
abbrev z68_29 (a : KD) (i : Nat) : Int := (z68_28 a i).lo
abbrev z68_30 (a : KD) (i : Nat) : Int := (z68_28 a i).hi
abbrev z68_31 (a : KD) (i : Nat) : Int := (z68_25 a i).now
abbrev z68_32 (a : KD) : Prop := a.all.length = z68_23 a
abbrev z68_33 (a : KD) (a1 : Desk) : Desk := Desk.mk (z68_22 a) a1.out a1.nR
abbrev z68_34 (a : NQ) (a1 : Desk) (i : Nat) : Int := gD (overM (Desk.mk a.all a1.out a1.nR)) i
abbrev z68_35 (a : NQ) (a1 : Desk) (a2 : KD) : Prop := ∀ (i : Nat), i < 10 → z68_34 a a1 i = z68_18 a2 a1 i
abbrev z68_36 (a : NQ) (a1 : KD) : Prop := a.all.length = a1.all.length
abbrev z68_37 (a : KD) (a1 : Desk) : RT := rOf (z68_33 a a1) RA.counts (z68_21 a a1)
abbrev z68_38 (a : KD) (a1 : Desk) : Map := (z68_37 a a1).m
abbrev z68_39 (a : KD) (a1 : Desk) (n : Int) : Far := (z68_38 a a1).far n
abbrev z68_40 (a : KD) (a1 : Desk) (n : Int) : Step := (z68_39 a a1 n).by'
abbrev z68_41 (a : Desk) (a1 : KD) : Nat := (settleOut a ((settleV a).getD default)).meas a1
abbrev z68_42 (a : Desk) (a1 : KD) : List Nat := [z68_41 a a1]
abbrev z68_43 (a : NQ) (a1 : Desk) (a2 : KD) : Prop := a.all.length = a1.all.length ∧ (Desk.mk a.all a1.out a1.nR).ok ∧ overM (Desk.mk a.all a1.out a1.nR) ≠ List.replicate 10 0 ∧ settleM ((z68_42 a1 a2).headD 0) (Desk.mk
 a.all a1.out a1.nR) = some ((settleV a1).getD default) ∧ a.p ≤ 10 ∧ nearest (stepM a1 a.all).m (stepFr a1 a.all) (List.drop a.p (overM (Desk.mk a.all a1.out a1.nR))) a.p (a.to, a.best) = nearest (stepM a1 a.all).m
 (stepFr a1 a.all) (overM (Desk.mk a.all a1.out a1.nR)) 0 (stepFr a1 a.all, zF)
abbrev z68_44 (a : Desk) (a1 : NQ) (a2 : NQ) : Prop := stepFr a a1.all = stepFr a a2.all
abbrev z68_45 (a : NQ) (a1 : Desk) (a2 : NQ) : Prop := ∀ (i : Nat), i < 10 → z68_34 a a1 i = z68_34 a2 a1 i
abbrev z68_46 (a : NQ) (a1 : NQ) : Prop := (↑a.p : Int) = IntKind.i64.wrap ((↑a1.p : Int) + 1)
abbrev z68_47 (a : NQ) (a1 : NQ) : Prop := a.all.length = a1.all.length
abbrev z68_48 (a : NQ) (a1 : NQ) : Prop := ∀ (i : Nat), i < a.all.length → (gD a.all i).fr = (gD a1.all i).fr ∧ (gD a.all i).to = (gD a1.all i).to ∧ (gD a.all i).sp.lo = (gD a1.all i).sp.lo ∧ (gD a.all i).sp.hi = (gD
 a1.all i).sp.hi ∧ (gD a.all i).now = (gD a1.all i).now
abbrev z68_49 (a : Desk) (a1 : NQ) (a2 : NQ) : Prop := ∀ (n : Int), ((stepM a a1.all).m.at n).isSome = ((stepM a a2.all).m.at n).isSome
abbrev z68_50 (a : Desk) (a1 : NQ) (a2 : NQ) : Prop := ∀ (n : Int), (stepM a a1.all).st n = (stepM a a2.all).st n
abbrev z68_51 (a : Desk) (a1 : NQ) (a2 : NQ) : Prop := ∀ (n : Int), ((stepM a a1.all).m.far n).cost = ((stepM a a2.all).m.far n).cost ∧ ((stepM a a1.all).m.far n).many = ((stepM a a2.all).m.far n).many ∧ ((stepM a
 a1.all).m.far n).by'.way = ((stepM a a2.all).m.far n).by'.way ∧ ((stepM a a1.all).m.far n).by'.back = ((stepM a a2.all).m.far n).by'.back
abbrev z68_52 (a : Desk) (a1 : KD) (a2 : NQ) : Nat := (settleIn a ((settleV a).getD default) (z68_42 a a1)).meas a2
abbrev z68_53 (a : NQ) (a1 : Desk) (a2 : KD) (a3 : NQ) : Prop := z68_43 a a1 a2 ∧ z68_52 a1 a2 a < z68_52 a1 a2 a3
abbrev z68_54 (a : Desk) (a1 : NQ) (a2 : KD) : Prop := ∃ (a_1 : NQ), (z68_0 ∧ z68_44 a a_1 a1 ∧ a_1.to = a1.to ∧ z68_17 ∧ z68_45 a_1 a a1 ∧ z68_46 a_1 a1 ∧ z68_0 ∧ z68_47 a_1 a1 ∧ z68_4 a ∧ z68_5 a ∧ z68_47 a_1 a1 ∧
 z68_48 a_1 a1 ∧ z68_17 ∧ z68_45 a_1 a a1 ∧ zFar = zFar ∧ z68_49 a a_1 a1 ∧ z68_50 a a_1 a1 ∧ z68_51 a a_1 a1 ∧ a_1.best.cost = a1.best.cost ∧ a_1.best.many = a1.best.many ∧ a_1.best.by'.way = a1.best.by'.way ∧
 a_1.best.by'.back = a1.best.by'.back) ∧ z68_53 a_1 a a2 a1
abbrev z68_55 (a : Desk) (a1 : NQ) : Far := (stepM a a1.all).m.far (↑a1.p : Int)
abbrev z68_56 (a : Desk) (a1 : NQ) : Int := (z68_55 a a1).cost
abbrev z68_57 (a : Desk) (a1 : NQ) : Int := (z68_55 a a1).many
abbrev z68_58 (a : Desk) (a1 : NQ) : Step := (z68_55 a a1).by'
abbrev z68_59 (a : NQ) (a1 : Desk) : Int := minI (gD (overM (Desk.mk a.all a1.out a1.nR)) (stepFr a1 a.all).toNat) (IntKind.i64.wrap (0 - gD (overM (Desk.mk a.all a1.out a1.nR)) a.to.toNat))
abbrev z68_60 (a : NQ) : List Way := rng a.all.length fun (i : Nat) => gD a.all i
abbrev z68_61 (a : NQ) : Nat := (z68_60 a).length
abbrev z68_62 (a : NQ) : Prop := z68_61 a = a.all.length
abbrev z68_63 (a : NQ) (i : Nat) : Way := gD (z68_60 a) i
abbrev z68_64 (a : NQ) (i : Nat) : Span := (z68_63 a i).sp
abbrev z68_65 (a : NQ) (a1 : Desk) : Desk := Desk.mk (z68_60 a) a1.out a1.nR
abbrev z68_66 (a : NQ) (a1 : Desk) : RT := rOf (z68_65 a a1) any (stepFr a1 a.all)
abbrev z68_67 (a : NQ) (a1 : Desk) : Map := (z68_66 a a1).m
abbrev z68_68 (a : NQ) (a1 : Desk) (n : Int) : Bool := ((z68_67 a a1).at n).isSome
abbrev z68_69 (a : NQ) (a1 : Desk) (n : Int) : Int := (z68_66 a a1).st n
abbrev z68_70 (a : NQ) (a1 : Desk) (n : Int) : Far := (z68_67 a a1).far n
abbrev z68_71 (a : NQ) (a1 : Desk) (n : Int) : Int := (z68_70 a a1 n).cost
abbrev z68_72 (a : NQ) (a1 : Desk) (n : Int) : Int := (z68_70 a a1 n).many
abbrev z68_73 (a : NQ) (a1 : Desk) (n : Int) : Step := (z68_70 a a1 n).by'
abbrev z68_74 (a : NQ) (a1 : Desk) (n : Int) : Int := (z68_73 a a1 n).way
abbrev z68_75 (a : NQ) (a1 : Desk) (n : Int) : Bool := (z68_73 a a1 n).back
abbrev z68_76 (a : NQ) (a1 : Desk) : DM := DM.mk (z68_65 a a1) (stepFr a1 a.all) a.to (z68_67 a a1) (z68_66 a a1).st (z68_59 a a1)
abbrev z68_77 (a : NQ) (a1 : Desk) : List Step := (z68_76 a a1).tr
abbrev z68_78 (a : NQ) (a1 : Desk) : List Way := pushAll (z68_76 a a1).q (z68_60 a) (z68_77 a a1)
abbrev z68_79 (a : NQ) (a1 : Desk) : Nat := (z68_78 a a1).length
abbrev z68_80 (a : NQ) (a1 : Desk) (i : Nat) : Way := gD (z68_78 a a1) i
abbrev z68_81 (a : NQ) (a1 : Desk) : List Way := rng a.all.length fun (i : Nat) => z68_80 a a1 i
abbrev z68_82 (a : NQ) (a1 : Desk) : Nat := (z68_81 a a1).length
abbrev z68_83 (a : NQ) (a1 : Desk) (i : Nat) : Way := gD (z68_81 a a1) i
abbrev z68_84 (a : NQ) (a1 : Desk) (i : Nat) : Int := (z68_83 a a1 i).fr
abbrev z68_85 (a : NQ) (a1 : Desk) (i : Nat) : Int := (z68_80 a a1 i).fr
abbrev z68_86 (a : NQ) (a1 : Desk) (i : Nat) : Int := (z68_83 a a1 i).to
abbrev z68_87 (a : NQ) (a1 : Desk) (i : Nat) : Int := (z68_80 a a1 i).to
abbrev z68_88 (a : NQ) (a1 : Desk) (i : Nat) : Span := (z68_83 a a1 i).sp
abbrev z68_89 (a : NQ) (a1 : Desk) (i : Nat) : Int := (z68_88 a a1 i).lo
abbrev z68_90 (a : NQ) (a1 : Desk) (i : Nat) : Span := (z68_80 a a1 i).sp
abbrev z68_91 (a : NQ) (a1 : Desk) (i : Nat) : Int := (z68_90 a a1 i).lo
abbrev z68_92 (a : NQ) (a1 : Desk) (i : Nat) : Int := (z68_88 a a1 i).hi
abbrev z68_93 (a : NQ) (a1 : Desk) (i : Nat) : Int := (z68_90 a a1 i).hi
abbrev z68_94 (a : NQ) (a1 : Desk) (i : Nat) : Int := (z68_83 a a1 i).now
abbrev z68_95 (a : NQ) (a1 : Desk) (i : Nat) : Int := (z68_80 a a1 i).now
abbrev z68_96 (a : NQ) (a1 : Desk) : Desk := Desk.mk (z68_81 a a1) a1.out a1.nR
abbrev z68_97 (a : Desk) : Nat := ((settleV a).getD default).all.length
abbrev z68_98 (a : Desk) (a1 : KD) : Prop := z68_97 a = a1.all.length
abbrev z68_99 (a : Desk) (i : Nat) : Way := gD ((settleV a).getD default).all i
abbrev z68_100 (a : Desk) (i : Nat) : Span := (z68_99 a i).sp
theorem vc68 (a : Desk) : (V68 a) = ((z68_0 ∧ z68_3 a ∧ z68_4 a ∧ z68_5 a ∧ z68_3 a ∧ (∀ (i : Nat), i < z68_2 a → z68_7 a i = (gD a.all i).fr ∧ z68_8 a i = (gD a.all i).to ∧ z68_10 a i = (gD a.all i).sp.lo ∧ z68_11 a i =
 (gD a.all i).sp.hi ∧ z68_12 a i = (gD a.all i).now) ∧ z68_0 ∧ z68_13 a ∧ z68_4 a ∧ z68_5 a ∧ z68_13 a ∧ (∀ (i : Nat), i < a.all.length → (gD a.all i).fr = z68_7 a i ∧ (gD a.all i).to = z68_8 a i ∧ (gD a.all i).sp.lo =
 z68_10 a i ∧ (gD a.all i).sp.hi = z68_11 a i ∧ (gD a.all i).now = z68_12 a i) ∧ (z68_14 a).ok ∧ z68_15) ∧ (∃ (a_1 : KD), (z68_0 ∧ z68_0 ∧ z68_16 a_1 a ∧ z68_4 a ∧ z68_5 a ∧ z68_16 a_1 a ∧ (∀ (i : Nat), i < a_1.all.length
 → (gD a_1.all i).fr = (gD a.all i).fr ∧ (gD a_1.all i).to = (gD a.all i).to ∧ (gD a_1.all i).sp.lo = (gD a.all i).sp.lo ∧ (gD a_1.all i).sp.hi = (gD a.all i).sp.hi ∧ (gD a_1.all i).now = (gD a.all i).now) ∧ z68_17 ∧ ∀ (i
 : Nat), i < 10 → z68_18 a_1 a i = gD (overM (z68_14 a)) i) ∧ z68_19 a_1 a) ∧ ∀ (a_1 : KD), z68_19 a_1 a → z68_15 ∧ bif !(gD (overM (Desk.mk a_1.all a.out a.nR)) 0 == 0 && (gD (overM (Desk.mk a_1.all a.out a.nR)) 1 == 0
 && (gD (overM (Desk.mk a_1.all a.out a.nR)) 2 == 0 && (gD (overM (Desk.mk a_1.all a.out a.nR)) 3 == 0 && (gD (overM (Desk.mk a_1.all a.out a.nR)) 4 == 0 && (gD (overM (Desk.mk a_1.all a.out a.nR)) 5 == 0 && (gD (overM
 (Desk.mk a_1.all a.out a.nR)) 6 == 0 && (gD (overM (Desk.mk a_1.all a.out a.nR)) 7 == 0 && (gD (overM (Desk.mk a_1.all a.out a.nR)) 8 == 0 && (gD (overM (Desk.mk a_1.all a.out a.nR)) 9 == 0 && true)))))))))) then (z68_0
 ∧ z68_17 ∧ z68_17 ∧ z68_20 a_1 a ∧ z68_17 ∧ z68_20 a_1 a ∧ true = true) ∧ (z68_21 a_1 a = z68_21 a_1 a ∧ z68_0 ∧ z68_24 a_1 ∧ z68_4 a ∧ z68_5 a ∧ z68_24 a_1 ∧ (∀ (i : Nat), i < z68_23 a_1 → z68_26 a_1 i = (gD a_1.all
 i).fr ∧ z68_27 a_1 i = (gD a_1.all i).to ∧ z68_29 a_1 i = (gD a_1.all i).sp.lo ∧ z68_30 a_1 i = (gD a_1.all i).sp.hi ∧ z68_31 a_1 i = (gD a_1.all i).now) ∧ z68_0 ∧ z68_32 a_1 ∧ z68_4 a ∧ z68_5 a ∧ z68_32 a_1 ∧ (∀ (i :
 Nat), i < a_1.all.length → (gD a_1.all i).fr = z68_26 a_1 i ∧ (gD a_1.all i).to = z68_27 a_1 i ∧ (gD a_1.all i).sp.lo = z68_29 a_1 i ∧ (gD a_1.all i).sp.hi = z68_30 a_1 i ∧ (gD a_1.all i).now = z68_31 a_1 i) ∧ (z68_33
 a_1 a).ok ∧ (0 ≤ z68_21 a_1 a ∧ z68_21 a_1 a < (↑a.out : Int) + 2) ∧ (reachV (z68_33 a_1 a) RA.counts (z68_21 a_1 a)).isSome = true) ∧ (∃ (a_3 : NQ), (z68_0 ∧ stepFr a a_3.all = z68_21 a_1 a ∧ a_3.to = z68_21 a_1 a ∧
 z68_17 ∧ z68_35 a_3 a a_1 ∧ (↑a_3.p : Int) = 0 ∧ z68_0 ∧ z68_36 a_3 a_1 ∧ z68_4 a ∧ z68_5 a ∧ z68_36 a_3 a_1 ∧ (∀ (i : Nat), i < a_3.all.length → (gD a_3.all i).fr = (gD a_1.all i).fr ∧ (gD a_3.all i).to = (gD a_1.all
 i).to ∧ (gD a_3.all i).sp.lo = (gD a_1.all i).sp.lo ∧ (gD a_3.all i).sp.hi = (gD a_1.all i).sp.hi ∧ (gD a_3.all i).now = (gD a_1.all i).now) ∧ z68_17 ∧ z68_35 a_3 a a_1 ∧ zFar = zFar ∧ (∀ (n : Int), ((stepM a
 a_3.all).m.at n).isSome = ((z68_38 a_1 a).at n).isSome) ∧ (∀ (n : Int), (stepM a a_3.all).st n = (z68_37 a_1 a).st n) ∧ (∀ (n : Int), ((stepM a a_3.all).m.far n).cost = (z68_39 a_1 a n).cost ∧ ((stepM a a_3.all).m.far
 n).many = (z68_39 a_1 a n).many ∧ ((stepM a a_3.all).m.far n).by'.way = (z68_40 a_1 a n).way ∧ ((stepM a a_3.all).m.far n).by'.back = (z68_40 a_1 a n).back) ∧ a_3.best.cost = 0 ∧ a_3.best.many = 0 ∧ a_3.best.by'.way = 0
 ∧ a_3.best.by'.back = false) ∧ z68_43 a_3 a a_1) ∧ ∀ (a_3 : NQ), z68_43 a_3 a a_1 → bif decide ((↑a_3.p : Int) < 10) then (0 ≤ (↑a_3.p : Int) ∧ (↑a_3.p : Int) < (↑10 : Int)) ∧ Value.agg #[Value.int IntKind.i64 0,
 Value.int IntKind.i64 0, Value.int IntKind.i64 0, Value.bool false] = zFar ∧ bif bif decide (gD (overM (Desk.mk a_3.all a.out a.nR)) a_3.p ≥ 0) then true else !((stepM a a_3.all).m.at (↑a_3.p : Int)).isSome then z68_54 a
 a_3 a_1 else bif bif bif a_3.to == stepFr a a_3.all then true else decide (z68_56 a a_3 < a_3.best.cost) then true else bif z68_56 a a_3 == a_3.best.cost then decide (z68_57 a a_3 < a_3.best.many) else false then ∃ (a_5
 : NQ), (z68_0 ∧ z68_44 a a_5 a_3 ∧ a_5.to = (↑a_3.p : Int) ∧ z68_17 ∧ z68_45 a_5 a a_3 ∧ z68_46 a_5 a_3 ∧ z68_0 ∧ z68_47 a_5 a_3 ∧ z68_4 a ∧ z68_5 a ∧ z68_47 a_5 a_3 ∧ z68_48 a_5 a_3 ∧ z68_17 ∧ z68_45 a_5 a a_3 ∧ zFar =
 zFar ∧ z68_49 a a_5 a_3 ∧ z68_50 a a_5 a_3 ∧ z68_51 a a_5 a_3 ∧ a_5.best.cost = z68_56 a a_3 ∧ a_5.best.many = z68_57 a a_3 ∧ a_5.best.by'.way = (z68_58 a a_3).way ∧ a_5.best.by'.back = (z68_58 a a_3).back) ∧ z68_53 a_5
 a a_1 a_3 else z68_54 a a_3 a_1 else ((0 ≤ stepFr a a_3.all ∧ stepFr a a_3.all < (↑10 : Int)) ∧ (stepFr a a_3.all).toNat < 10 ∧ (0 ≤ a_3.to ∧ a_3.to < (↑10 : Int)) ∧ a_3.to.toNat < 10 ∧ stepFr a a_3.all = stepFr a
 a_3.all ∧ a_3.to = a_3.to ∧ z68_59 a_3 a = z68_59 a_3 a ∧ z68_0 ∧ z68_62 a_3 ∧ z68_4 a ∧ z68_5 a ∧ z68_62 a_3 ∧ (∀ (i : Nat), i < z68_61 a_3 → (z68_63 a_3 i).fr = (gD a_3.all i).fr ∧ (z68_63 a_3 i).to = (gD a_3.all i).to
 ∧ (z68_64 a_3 i).lo = (gD a_3.all i).sp.lo ∧ (z68_64 a_3 i).hi = (gD a_3.all i).sp.hi ∧ (z68_63 a_3 i).now = (gD a_3.all i).now) ∧ zFar = zFar ∧ (∀ (n : Int), z68_68 a_3 a n = ((stepM a a_3.all).m.at n).isSome) ∧ (∀ (n :
 Int), z68_69 a_3 a n = (stepM a a_3.all).st n) ∧ (∀ (n : Int), z68_71 a_3 a n = ((stepM a a_3.all).m.far n).cost ∧ z68_72 a_3 a n = ((stepM a a_3.all).m.far n).many ∧ z68_74 a_3 a n = ((stepM a a_3.all).m.far n).by'.way
 ∧ z68_75 a_3 a n = ((stepM a a_3.all).m.far n).by'.back) ∧ z68_0 ∧ a_3.all.length = z68_79 a_3 a ∧ z68_4 a ∧ z68_5 a ∧ zFar = zFar ∧ (∀ (n : Int), ((stepM a a_3.all).m.at n).isSome = z68_68 a_3 a n) ∧ (∀ (n : Int),
 (stepM a a_3.all).st n = z68_69 a_3 a n) ∧ (∀ (n : Int), ((stepM a a_3.all).m.far n).cost = z68_71 a_3 a n ∧ ((stepM a a_3.all).m.far n).many = z68_72 a_3 a n ∧ ((stepM a a_3.all).m.far n).by'.way = z68_74 a_3 a n ∧
 ((stepM a a_3.all).m.far n).by'.back = z68_75 a_3 a n) ∧ (z68_65 a_3 a).ok ∧ (trailM (z68_65 a_3 a) (z68_67 a_3 a) (stepFr a a_3.all) fuel a_3.to).isSome = true ∧ (∀ (s : Step), List.Mem s (z68_77 a_3 a) → 0 ≤ s.way ∧
 s.way < (↑(z68_61 a_3) : Int)) ∧ (z68_77 a_3 a).length.le 1000) ∧ z68_15 ∧ (z68_0 ∧ z68_82 a_3 a = a_3.all.length ∧ z68_4 a ∧ z68_5 a ∧ z68_82 a_3 a = z68_79 a_3 a ∧ (∀ (i : Nat), i < z68_82 a_3 a → z68_84 a_3 a i =
 z68_85 a_3 a i ∧ z68_86 a_3 a i = z68_87 a_3 a i ∧ z68_89 a_3 a i = z68_91 a_3 a i ∧ z68_92 a_3 a i = z68_93 a_3 a i ∧ z68_94 a_3 a i = z68_95 a_3 a i) ∧ z68_0 ∧ a_3.all.length = z68_82 a_3 a ∧ z68_4 a ∧ z68_5 a ∧ z68_79
 a_3 a = z68_82 a_3 a ∧ (∀ (i : Nat), i < z68_79 a_3 a → z68_85 a_3 a i = z68_84 a_3 a i ∧ z68_87 a_3 a i = z68_86 a_3 a i ∧ z68_91 a_3 a i = z68_89 a_3 a i ∧ z68_93 a_3 a i = z68_92 a_3 a i ∧ z68_95 a_3 a i = z68_94 a_3
 a i) ∧ (z68_96 a_3 a).ok) ∧ ∃ (a_5 : KD), (z68_0 ∧ z68_0 ∧ a_5.all.length = a_3.all.length ∧ z68_4 a ∧ z68_5 a ∧ a_5.all.length = z68_79 a_3 a ∧ (∀ (i : Nat), i < a_5.all.length → (gD a_5.all i).fr = z68_85 a_3 a i ∧ (gD
 a_5.all i).to = z68_87 a_3 a i ∧ (gD a_5.all i).sp.lo = z68_91 a_3 a i ∧ (gD a_5.all i).sp.hi = z68_93 a_3 a i ∧ (gD a_5.all i).now = z68_95 a_3 a i) ∧ z68_17 ∧ ∀ (i : Nat), i < 10 → z68_18 a_5 a i = gD (overM (z68_96
 a_3 a)) i) ∧ z68_19 a_5 a ∧ z68_41 a a_5 < z68_41 a a_1 else z68_0 ∧ z68_98 a a_1 ∧ (↑((settleV a).getD default).out : Int) = (↑a.out : Int) ∧ (↑((settleV a).getD default).nR : Int) = (↑a.nR : Int) ∧ z68_98 a a_1 ∧ ∀ (i
 : Nat), i < z68_97 a → (z68_99 a i).fr = (gD a_1.all i).fr ∧ (z68_99 a i).to = (gD a_1.all i).to ∧ (z68_100 a i).lo = (gD a_1.all i).sp.lo ∧ (z68_100 a i).hi = (gD a_1.all i).sp.hi ∧ (z68_99 a i).now = (gD a_1.all
 i).now) := by kernel_rfl
theorem fr_fold (d : Desk) : idx (fun (i : Nat) => decide (0 < gD (overM d) i)) 10 0 = firstPos (overM d) := rfl
theorem overW_length : ∀ (r : List Way) (l : List Int), (overW l r).length = l.length
  | [], _ => rfl
  | w :: r, l => by simp only [overW]; rw [overW_length r]; simp
theorem overM_length (d : Desk) : (overM d).length = 10 := by unfold overM; rw [overW_length]; simp
theorem over_zero {l : List Int} (h : l.length = 10) : (gD l 0 == 0 && (gD l 1 == 0 && (gD l 2 == 0 && (gD l 3 == 0 && (gD l 4 == 0 && (gD l 5 == 0 && (gD l 6 == 0 && (gD l 7 == 0 && (gD l 8 == 0 && (gD l 9 == 0 && true)))))))))) = true ↔ l = List.replicate 10 0 := by
  match l, h with
  | [a, b, c, d, e, f, g, h, i, j], _ => simp [gD, List.replicate]
theorem rng_push (q : Int) (l : List Step) (all : List Way) : rng all.length (fun i => gD (pushAll q all l) i) = pushAll q all l := by
  conv => lhs; rw [← pushAll_len q l all]
  exact rng_getD _
theorem pushW_ends (q : Int) (all : List Way) (s : Step) (i : Nat) : (gD (pushW q all s) i).fr = (gD all i).fr ∧ (gD (pushW q all s) i).to = (gD all i).to ∧ (gD (pushW q all s) i).sp = (gD all i).sp := by
  unfold pushW
  by_cases h : s.way.toNat < all.length
  · rw [gD_modify h]; split
    · rename_i he; subst he; exact ⟨rfl, rfl, rfl⟩
    · exact ⟨rfl, rfl, rfl⟩
  · have : all.modify s.way.toNat (fun w => { w with now := if s.back then wr (w.now - q) else wr (w.now + q) }) = all := by
      apply List.ext_getElem?; intro j; rw [List.getElem?_modify]
      by_cases hj : s.way.toNat = j
      · subst hj; rw [List.getElem?_eq_none (by omega)]; rfl
      · simp [hj]
    rw [this]; exact ⟨rfl, rfl, rfl⟩
theorem pushAll_ends (q : Int) : ∀ (l : List Step) (all : List Way) (i : Nat), (gD (pushAll q all l) i).fr = (gD all i).fr ∧ (gD (pushAll q all l) i).to = (gD all i).to ∧ (gD (pushAll q all l) i).sp = (gD all i).sp
  | [], _, _ => ⟨rfl, rfl, rfl⟩
  | s :: l, all, i => by
    obtain ⟨h1, h2, h3⟩ := pushAll_ends q l (pushW q all s) i
    obtain ⟨h4, h5, h6⟩ := pushW_ends q all s i
    simp only [pushAll]
    exact ⟨h1.trans h4, h2.trans h5, h3.trans h6⟩
theorem ok_push {d : Desk} (h : d.ok) (q : Int) (l : List Step) : (Desk.mk (pushAll q d.all l) d.out d.nR).ok := by
  refine ⟨h.out, ?_, ?_, fun i hi => ?_⟩
  · show (pushAll q d.all l).length ≤ 23; rw [pushAll_len]; exact h.len
  · show _ ≤ (pushAll q d.all l).length; rw [pushAll_len]; exact h.cut
  · have hi : i < (pushAll q d.all l).length := hi
    rw [pushAll_len] at hi
    obtain ⟨h1, h2, _⟩ := pushAll_ends q l d.all i
    show (0 ≤ (gD (pushAll q d.all l) i).fr ∧ _) ∧ _
    rw [h1, h2]
    exact h.ends i hi
theorem nearest_in (m : Map) (fr : Int) (hf : 0 ≤ fr ∧ fr < 10) : ∀ (l : List Int) (p : Nat) (st : Int × Far), p + l.length ≤ 10 → (0 ≤ st.1 ∧ st.1 < 10) → 0 ≤ (nearest m fr l p st).1 ∧ (nearest m fr l p st).1 < 10
  | [], _, _, _, h => h
  | x :: l, p, st, hp, h => by
    simp only [List.length_cons] at hp
    simp only [nearest]
    refine nearest_in m fr hf l (p + 1) _ (by omega) ?_
    cases m.at p with
    | none => exact h
    | some f =>
      simp only
      split
      · exact h
      · split
        · exact ⟨by simp, by simp; omega⟩
        · exact h
def stepX (d : Desk) (to : Int) : DM := DM.mk d (firstPos (overM d)) to (rOf d any (firstPos (overM d))).m (rOf d any (firstPos (overM d))).st (min (gD (overM d) (firstPos (overM d)).toNat) (wr (-gD (overM d) to.toNat)))
theorem settle_next {d df : Desk} {k : Nat} (hne : overM d ≠ List.replicate 10 0) (h : settleM k d = some df) : ∃ k', k = k' + 1 ∧ (0 ≤ firstPos (overM d) ∧ firstPos (overM d) < d.out + 2) ∧ (reachV d any (firstPos (overM d))).isSome = true ∧
    ∀ to, to = (nearest (rOf d any (firstPos (overM d))).m (firstPos (overM d)) (overM d) 0 (firstPos (overM d), zF)).1 → (trailM d (stepX d to).m (firstPos (overM d)) fuel to).isSome = true ∧ (∀ s ∈ (stepX d to).tr, 0 ≤ s.way ∧ s.way < d.all.length) ∧ (stepX d to).tr.length ≤ 1000 ∧ settleM k' (Desk.mk (pushAll (stepX d to).q d.all (stepX d to).tr) d.out d.nR) = some df := by
  cases k with
  | zero => cases h
  | succ k =>
    simp only [settleM, if_neg hne] at h
    split at h
    · cases h
    rename_i d1 hd1
    unfold settleStep at hd1
    simp only at hd1
    split at hd1
    · cases hd1
    rename_i hfr
    split at hd1
    · cases hd1
    rename_i r hr
    have hrf : rOf d any (firstPos (overM d)) = r := by simp [rOf, hr]
    refine ⟨k, rfl, by omega, by rw [hr]; rfl, fun to hto => ?_⟩
    rw [hrf] at hto
    have hz : zF = ⟨0, 0, ⟨0, false⟩⟩ := rfl
    rw [hz] at hto
    rw [← hto] at hd1
    unfold movedM at hd1
    split at hd1
    · cases hd1
    rename_i d2 q2 h2
    split at h2
    · cases h2
    rename_i l hl
    split at h2
    · rename_i hg
      have hX : (stepX d to).m = r.m := by simp only [stepX, hrf]
      have htr : (stepX d to).tr = l := by
        unfold DM.tr
        rw [hX]
        show (trailM d r.m (firstPos (overM d)) fuel to).getD [] = l
        rw [hl]; rfl
      have hqq : (stepX d to).q = leastRoom d (min (gD (overM d) (firstPos (overM d)).toNat) (wr (-gD (overM d) to.toNat))) l := by
        unfold DM.q; rw [htr]; rfl
      simp only [Bool.and_eq_true, List.all_eq_true, decide_eq_true_eq] at hg
      rw [hX, htr, hqq, hl]
      cases h2; cases hd1
      exact ⟨rfl, hg.1, hg.2, h⟩
    · cases h2
theorem near_bool (to fr : Int) (f best : Far) : (bif bif to == fr then true else decide (f.cost < best.cost) then true else bif f.cost == best.cost then decide (f.many < best.many) else false) = (decide (to = fr) || better f best) := by
  unfold better
  by_cases h1 : to = fr <;> by_cases h2 : f.cost < best.cost <;> by_cases h3 : f.cost = best.cost <;> simp [h1, h2, h3]
theorem near_step {l : List Int} (h : l.length = 10) (m : Map) (fr : Int) {p : Nat} (hp : p < 10) (to : Int) (best : Far) : nearest m fr (l.drop p) p (to, best) = nearest m fr (l.drop (p + 1)) (p + 1) (if (bif decide (gD l p ≥ 0) then true else !(m.at p).isSome) then (to, best) else if decide (to = fr) || better (m.far p) best then ((p : Int), m.far p) else (to, best)) := by
  rw [drop_gD (by omega)]
  simp only [nearest]
  congr 1
  cases hq : m.at p with
  | none => by_cases h0 : 0 ≤ gD l p <;> simp [h0]
  | some f =>
    have hf : m.far p = f := by simp [Map.far, hq]
    by_cases h0 : 0 ≤ gD l p <;> simp [h0, hf]
theorem settleOut_meas (a df : Desk) (s : KD) : (settleOut a df).meas s = s.k := rfl
theorem settleIn_meas (a df : Desk) (gs : List Nat) (s : NQ) : (settleIn a df gs).meas s = 10 - s.p := rfl
theorem p68 (a : Desk) (hd : a.ok) (hr : (settleV a).isSome = true) : V68 a := by
  have hrf : settleM fuel a = some ((settleV a).getD default) := by
    obtain ⟨r, h⟩ := Option.isSome_iff_exists.1 hr
    rw [h]; exact h
  have hRA : RA.counts = any := rfl
  rw [vc68]; delta z68_0 z68_1 z68_2 z68_3 z68_4 z68_5 z68_6 z68_7 z68_8 z68_9 z68_10 z68_11 z68_12 z68_13 z68_14 z68_15 z68_16 z68_17 z68_18 z68_19 z68_20 z68_21 z68_22 z68_23 z68_24 z68_25 z68_26 z68_27 z68_28 z68_29 z68_30 z68_31 z68_32 z68_33 z68_34 z68_35 z68_36 z68_37 z68_38 z68_39 z68_40 z68_41 z68_42 z68_43 z68_44 z68_45 z68_46 z68_47 z68_48 z68_49 z68_50 z68_51 z68_52 z68_53 z68_54 z68_55 z68_56 z68_57 z68_58 z68_59 z68_60 z68_61 z68_62 z68_63 z68_64 z68_65 z68_66 z68_67 z68_68 z68_69 z68_70 z68_71 z68_72 z68_73 z68_74 z68_75 z68_76 z68_77 z68_78 z68_79 z68_80 z68_81 z68_82 z68_83 z68_84 z68_85 z68_86 z68_87 z68_88 z68_89 z68_90 z68_91 z68_92 z68_93 z68_94 z68_95 z68_96 z68_97 z68_98 z68_99 z68_100
  simp only [condP, eq_self, implies_true, and_self, true_and, and_true, true_implies, forall_const, decide_eq_true_eq, decide_eq_false_iff_not, Int.toNat_natCast, dSpan_eSpan, dReach_eReach, dWay_eWay, dStep_eStep, dFar_eFar, dInt_eInt, Nat.zero_add, Int.zero_sub, Nat.le_eq, Nat.succ_eq_add_one, Nat.add_one_le_iff, Bool.not_eq_true', Bool.not_eq_false', rng_length, dSpan_mk, dReach_mk, dWay_mk, dStep_mk, dFar_mk, rng_getD, settleOut_meas, settleIn_meas, List.headD_cons, fr_fold, stepFr, stepM, hRA, minI_eq, pushAll_len, rng_push]
  generalize (settleV a).getD default = df at *
  have hz : (Value.agg #[Value.int IntKind.i64 0, Value.int IntKind.i64 0, Value.int IntKind.i64 0, Value.int IntKind.i64 0, Value.int IntKind.i64 0, Value.int IntKind.i64 0, Value.int IntKind.i64 0, Value.int IntKind.i64 0, Value.int IntKind.i64 0, Value.int IntKind.i64 0]).cells.toList = (List.replicate 10 (Value.int IntKind.i64 0).cells.toList).flatten := rfl
  refine ⟨⟨hd, hz⟩, ⟨⟨fuel, a.all⟩, ⟨rfl, rfl, fun _ _ => ⟨rfl, rfl, rfl, rfl, rfl⟩, fun _ _ => rfl⟩, rfl, hd, hrf⟩, fun a1 ⟨h1, h2, h3⟩ => ⟨hz, fun hne => ?_, fun heq => ?_⟩⟩
  · have hne : overM (Desk.mk a1.all a.out a.nR) ≠ List.replicate 10 0 := fun he => by
      rw [(over_zero (overM_length _)).2 he] at hne; cases hne
    obtain ⟨k', hk, hfr, hrv, hnx⟩ := settle_next hne h3
    refine ⟨⟨h2, hfr, hrv⟩, ⟨⟨a1.all, 0, _, zF⟩, ⟨rfl, rfl, fun _ _ => rfl, rfl, rfl, rfl, fun _ _ => ⟨rfl, rfl, rfl, rfl, rfl⟩, fun _ _ => rfl, fun _ => rfl, fun _ => rfl, fun _ => ⟨rfl, rfl, rfl, rfl⟩, rfl, rfl, rfl, rfl⟩, h1, h2, hne, h3, by simp, rfl⟩, fun a4 ⟨g1, g2, g3, g4, g5, g6⟩ => ⟨fun hlt => ⟨⟨by omega, hlt⟩, rfl, fun hc => ?_, fun hc => ⟨fun hb => ?_, fun hb => ?_⟩⟩, fun hge => ?_⟩⟩
    · have hlt : a4.p < 10 := by omega
      rw [near_step (overM_length _) _ _ hlt, hc] at g6
      exact ⟨⟨a4.all, a4.p + 1, a4.to, a4.best⟩, ⟨rfl, rfl, fun _ _ => rfl, (wsucc (by omega)).symm, rfl, rfl, fun _ _ => ⟨rfl, rfl, rfl, rfl, rfl⟩, fun _ _ => rfl, fun _ => rfl, fun _ => rfl, fun _ => ⟨rfl, rfl, rfl, rfl⟩, rfl, rfl, rfl, rfl⟩, ⟨g1, g2, g3, g4, hlt, g6⟩, by show _ - (a4.p + 1) < _; omega⟩
    · have hlt : a4.p < 10 := by omega
      have hb := (near_bool _ _ _ _).symm.trans hb
      rw [near_step (overM_length _) _ _ hlt, hc, hb] at g6
      exact ⟨⟨a4.all, a4.p + 1, a4.p, _⟩, ⟨rfl, rfl, fun _ _ => rfl, (wsucc (by omega)).symm, rfl, rfl, fun _ _ => ⟨rfl, rfl, rfl, rfl, rfl⟩, fun _ _ => rfl, fun _ => rfl, fun _ => rfl, fun _ => ⟨rfl, rfl, rfl, rfl⟩, rfl, rfl, rfl, rfl⟩, ⟨g1, g2, g3, g4, hlt, g6⟩, by show _ - (a4.p + 1) < _; omega⟩
    · have hlt : a4.p < 10 := by omega
      have hb := (near_bool _ _ _ _).symm.trans hb
      rw [near_step (overM_length _) _ _ hlt, hc, hb] at g6
      exact ⟨⟨a4.all, a4.p + 1, a4.to, a4.best⟩, ⟨rfl, rfl, fun _ _ => rfl, (wsucc (by omega)).symm, rfl, rfl, fun _ _ => ⟨rfl, rfl, rfl, rfl, rfl⟩, fun _ _ => rfl, fun _ => rfl, fun _ => rfl, fun _ => ⟨rfl, rfl, rfl, rfl⟩, rfl, rfl, rfl, rfl⟩, ⟨g1, g2, g3, g4, hlt, g6⟩, by show _ - (a4.p + 1) < _; omega⟩
    · have hp : a4.p = 10 := by omega
      rw [hp, List.drop_eq_nil_of_le (by rw [overM_length]; omega)] at g6
      have g6 : (a4.to, a4.best) = _ := g6
      obtain ⟨k2, hk2, hfr2, _, hnx2⟩ := settle_next g3 g4
      have ho := h2.out
      have hfr3 : 0 ≤ firstPos (overM (Desk.mk a4.all a.out a.nR)) ∧ firstPos (overM (Desk.mk a4.all a.out a.nR)) < 10 := ⟨hfr2.1, by have := hfr2.2; simp only at this ho; omega⟩
      have hto : a4.to = _ := congrArg Prod.fst g6
      have hto2 : 0 ≤ a4.to ∧ a4.to < 10 := by rw [hto]; exact nearest_in _ _ hfr3 _ _ _ (by rw [overM_length]; omega) hfr3
      obtain ⟨t1, t2, t3, t4⟩ := hnx2 _ hto
      have hokp := ok_push g2 (stepX (Desk.mk a4.all a.out a.nR) a4.to).q (stepX (Desk.mk a4.all a.out a.nR) a4.to).tr
      exact ⟨⟨hfr3, by omega, hto2, by omega, g2, t1, t2, t3⟩, hz, hokp, ⟨k2, pushAll (stepX (Desk.mk a4.all a.out a.nR) a4.to).q a4.all (stepX (Desk.mk a4.all a.out a.nR) a4.to).tr⟩, ⟨pushAll_len _ _ _, pushAll_len _ _ _, fun _ _ => ⟨rfl, rfl, rfl, rfl, rfl⟩, fun _ _ => rfl⟩, ⟨(pushAll_len _ _ _).trans g1, hokp, t4⟩, by show k2 < a1.k; omega⟩
  · have he : overM (Desk.mk a1.all a.out a.nR) = List.replicate 10 0 := (over_zero (overM_length _)).1 heq
    cases hk : a1.k with
    | zero => rw [hk] at h3; cases h3
    | succ k =>
      rw [hk] at h3
      simp only [settleM, if_pos he] at h3
      cases h3
      exact ⟨rfl, rfl, rfl, rfl, fun _ _ => ⟨rfl, rfl, rfl, rfl, rfl⟩⟩
theorem ok68 : SpecOk Try.prog 68 (C68.spec dDesk) := okC C68 (fun a => A68 a ((settleV a).getD default)) [] [] Try.func68 (fun _ => by kernel_rfl) (fun _ => gok_cons ok94 (gok_cons ok95 (gok_cons ok57a (gok_cons (ok97 _) gok_nil)))) (fun a h => p68 a h.1 h.2) (fun _ => noI rfl rfl) _
end Go.Bal
