/- Package balance: small functions of a net at work. -/
import Derived.Test.YtonddbmhljelgaaBalA
import Derived.Test.YtonddbmhljelgaaBal0
set_option linter.unusedVariables false
set_option linter.unusedSimpArgs false
namespace Go.Bal
open Go Go.Sym Go.Proofs
def VQ (d : Desk) (r : Nat) : AObj := .box [.own r 5 0 d.all.length, .int d.out, .int d.nR]
def VT (d : Desk) : AObj := .row 5 d.all.length λ i => KE (gD d.all i)
def KR (d : Desk) : List (Nat × AObj) := [(100, VQ d 101), (101, VT d)]
def LF (d : Desk) : List (Nat × HCell) := [(100, .live (VQ d 101)), (101, .live (VT d))]
def JF (H : Heap) (id : Nat) : Option (Desk × Nat) := match H id with
 | .live (.box [.own r _ _ n, .d (.v (.int _ o)), .d (.v (.int _ q))]) => match H r with
  | .live (.row _ _ get) => some (⟨AD n λ i => IT (get i), o.toNat, q.toNat⟩, r)
  | _ => none
 | _ => none
theorem HQ (C : Ctr) (A : C.α -> Ann) (ren : List (Nat × Nat)) (fz : List Nat) {g : FuncId} {fn : Func} (hf : Try.prog.funcs[g]? = some fn) (hok : ∀ a, okFn (A a) fn (C.xs a) (C.L a) (C.keep a) = true) (hΓ : ∀ a, Hq Try.prog (A a).Γ)
  (h : ∀ a, BR (C.pre a) -> BC Try.prog (A a) fn (AH fn) (C.xs a) (AE (C.L a)) (C.val a) (C.keep a) ren fz) (hI : ∀ a, YI Try.prog (A a)) (dec : List AVal -> Heap -> Option (C.α × List (Nat × Nat) × List Nat)) : AI Try.prog g (C.spec dec) :=
 Ctr.spec_ok (λ a ha => NE hf (hok a) (hΓ a) (h a ha) (hI a)) dec
def V98 (x : Int) (s : Span) : Prop := BC Try.prog (ann 14 []) Try.f98 (AH Try.f98) [.int x, .d (EU s)] (AE []) (.int (QZ x s)) [] [] []
theorem vc98 (x : Int) (s : Span) : (V98 x s) = (QZ x s = Bc (Bc 0 (IntKind.i64.wrap (s.lo - x))) (IntKind.i64.wrap (x - s.hi))) := by kernel_rfl
def f98 : List AVal -> Option (AVal × List Prop)
 | [.d (.v (.int .i64 x)), .d (.agg [.v (.int .i64 a), .v (.int .i64 b)])] => some (.int (QZ x ⟨a, b⟩), [])
 | _ => none
def s98 := DX f98
theorem VP (a b : Int) : Bc a b = max a b := by unfold Bc; split <;> omega
theorem WH (a b : Int) : Fl a b = min a b := by unfold Fl; split <;> omega
theorem p98 (x : Int) (s : Span) : V98 x s := by
 rw [vc98]; simp only [VP]; rfl
theorem ok98 : AI Try.prog 98 s98 := CE λ xs v p h _ => by
 unfold f98 at h; split at h
 ·cases h; exact NE (A := ann 14 []) (ren := []) (fz := []) Try.func98 (by kernel_rfl) AF (p98 _ ⟨_, _⟩)
 ·cases h
structure DS where
 d : Desk
 s : Step
def Yn : List AVal -> Heap -> Option (DS × List (Nat × Nat) × List Nat)
 | [.bptr id _, .d s], H => match JF H id with
  | some (d, r) => some (⟨d, TU s⟩, [(100, id), (101, r)], [])
  | none => none
 | _, _ => none
def A85 : Ann := { ann 49 [] with E := [100, 101] }
def C85 : Ctr := { ro := [100, 101], α := DS, xs := λ a => [.bptr 100 0, .d (QM a.s)], L := λ a => KR a.d, val := λ a => .tup [.int (AT (BX a.d.all a.s.way) a.s.back).1, .int (AT (BX a.d.all a.s.way) a.s.back).2], keep := λ a => LF a.d, pre := λ a => [0 <= a.s.way /\ a.s.way < a.d.all.length] }
def V85 (a : DS) : Prop := BC Try.prog A85 Try.f85 (AH Try.f85) (C85.xs a) (AE (C85.L a)) (C85.val a) (C85.keep a) [] []
theorem vc85 (a : DS) : (V85 a) = (let q := a
 let y0 := 0 + q.s.way.toNat
 let y1 : Way := gD q.d.all y0
 let y2 := y1.now
 let y3 := IntKind.i64.wrap (0 - y2)
 let y4 : Span := y1.sp
 let y5 := y4.hi
 let y6 := IntKind.i64.wrap (0 - y5)
 let y7 : Int × Int := AT (BX q.d.all q.s.way) q.s.back
 let y8 := y7.fst
 let y9 := y8 = -1
 let y10 := y7.snd
 let y11 := q.d.all.length = q.d.all.length
 let y12 := 0 = 0 /\ y11 /\ (↑q.d.out : Int) = (↑q.d.out : Int) /\ (↑q.d.nR : Int) = (↑q.d.nR : Int) /\ y11 /\ ∀ (i : Nat), i < q.d.all.length -> (gD q.d.all i).fr = (gD q.d.all i).fr /\ (gD q.d.all i).to = (gD q.d.all i).to /\ (gD q.d.all i).sp.lo = (gD q.d.all i).sp.lo /\ (gD q.d.all i).sp.hi = (gD q.d.all i).sp.hi /\ (gD q.d.all i).now = (gD q.d.all i).now
 let y13 := y4.lo
 let y14 := IntKind.i64.wrap (0 - y13)
 let y15 := y8 = 0
 let y16 := y8 = 1 /\ y10 = 10000000000 /\ y12
 (((0 <= a.s.way /\ a.s.way < (↑a.d.all.length : Int)) /\ y0.succ.le a.d.all.length) /\ bif a.s.back then bif decide (y3 < y6) then y9 /\ y10 = IntKind.i64.wrap
 (y6 - y3) /\ y12 else bif decide (y3 < y14) then y15 /\ y10 = IntKind.i64.wrap (y14 - y3) /\ y12 else y16 else bif decide (y2 < y13) then y9 /\ y10 =
 IntKind.i64.wrap (y13 - y2) /\ y12 else bif decide (y2 < y5) then y15 /\ y10 = IntKind.i64.wrap (y5 - y2) /\ y12 else y16)) := by kernel_rfl
theorem p85 (a : DS) (h : 0 <= a.s.way /\ a.s.way < a.d.all.length) : V85 a := by
 rw [vc85]; (conv => zeta); simp only [CC, eq_self, implies_true, forall_const]
 refine ⟨⟨h, by omega⟩, λ hb => ⟨λ h1 => ?_, λ h1 => ⟨λ h2 => ?_, λ h2 => ?_⟩⟩, λ hb => ⟨λ h1 => ?_, λ h1 => ⟨λ h2 => ?_, λ h2 => ?_⟩⟩⟩ <;> simp [AT, BX, *]
theorem Sh : AI Try.prog 85 (C85.spec Yn) := HQ C85 (λ _ => A85) [] [] Try.func85 (λ _ => by kernel_rfl) (λ _ => AF) p85 (λ _ => IL rfl rfl) _
def A87 : Ann := { ann 27 [] with E := [100, 101] }
def C87 : Ctr := { ro := [100, 101], α := DS, xs := λ a => [.bptr 100 0, .d (QM a.s)], L := λ a => KR a.d, val := λ a => .int (DU a.d a.s), keep := λ a => LF a.d, pre := λ a => [0 <= a.s.way /\ a.s.way < a.d.all.length] }
def V87 (a : DS) : Prop := BC Try.prog A87 Try.f87 (AH Try.f87) (C87.xs a) (AE (C87.L a)) (C87.val a) (C87.keep a) [] []
theorem vc87 (a : DS) : (V87 a) = (bif a.s.back then ((0 <= a.s.way /\ a.s.way < (↑a.d.all.length : Int)) /\ (0 + a.s.way.toNat).succ.le a.d.all.length) /\ DU a.d a.s = (gD a.d.all (0 + a.s.way.toNat)).fr /\ 0 = 0 /\
 a.d.all.length = a.d.all.length /\ (↑a.d.out : Int) = (↑a.d.out : Int) /\ (↑a.d.nR : Int) = (↑a.d.nR : Int) /\ a.d.all.length = a.d.all.length /\ ∀ (i : Nat), i < a.d.all.length -> (gD a.d.all i).fr = (gD a.d.all i).fr /\ (gD
 a.d.all i).to = (gD a.d.all i).to /\ (gD a.d.all i).sp.lo = (gD a.d.all i).sp.lo /\ (gD a.d.all i).sp.hi = (gD a.d.all i).sp.hi /\ (gD a.d.all i).now = (gD a.d.all i).now else ((0 <= a.s.way /\ a.s.way < (↑a.d.all.length :
 Int)) /\ (0 + a.s.way.toNat).succ.le a.d.all.length) /\ DU a.d a.s = (gD a.d.all (0 + a.s.way.toNat)).to /\ 0 = 0 /\ a.d.all.length = a.d.all.length /\ (↑a.d.out : Int) = (↑a.d.out : Int) /\ (↑a.d.nR : Int) = (↑a.d.nR : Int)
 /\ a.d.all.length = a.d.all.length /\ ∀ (i : Nat), i < a.d.all.length -> (gD a.d.all i).fr = (gD a.d.all i).fr /\ (gD a.d.all i).to = (gD a.d.all i).to /\ (gD a.d.all i).sp.lo = (gD a.d.all i).sp.lo /\ (gD a.d.all i).sp.hi =
 (gD a.d.all i).sp.hi /\ (gD a.d.all i).now = (gD a.d.all i).now) := by kernel_rfl
theorem p87 (a : DS) (h : 0 <= a.s.way /\ a.s.way < a.d.all.length) : V87 a := by
 rw [vc87]; simp only [CC, eq_self, implies_true, forall_const]
 refine ⟨λ hb => ⟨⟨h, by omega⟩, ?_⟩, λ hb => ⟨⟨h, by omega⟩, ?_⟩⟩ <;> simp [DU, BX, hb]
theorem Uz : AI Try.prog 87 (C87.spec Yn) := HQ C87 (λ _ => A87) [] [] Try.func87 (λ _ => by kernel_rfl) (λ _ => AF) p87 (λ _ => IL rfl rfl) _
end Go.Bal

namespace Go.Bal
open Go Go.Sym Go.Proofs
def uV : AVal := .d (.tup [])
structure DSM where
 d : Desk
 s : Step
 m : Int
def A108 : Ann := { ann 34 [] with E := [100, 101, 102, 103] }
def C108 : Ctr := { ro := [100, 102, 103], α := DSM, xs := λ a => [.d (QM a.s), .bptr 102 0, .bptr 103 0], L := λ a => KR a.d ++ [(102, .box [.bptr 100 0]), (103, .box [.int a.m])], val := λ _ => uV, keep := λ a => LF (Desk.mk (DZ a.m a.d.all a.s) a.d.out a.d.nR) ++ [(102, .live (.box [.bptr 100 0])), (103, .live (.box [.int a.m]))], pre := λ a => [0 <= a.s.way /\ a.s.way < a.d.all.length] }
def d108 : List AVal -> Heap -> Option (DSM × List (Nat × Nat) × List Nat)
 | [.d s, .bptr p _, .bptr q _], H => match H p, H q with
  | .live (.box [.bptr id _]), .live (.box [.d (.v (.int _ m))]) => match JF H id with
   | some (d, r) => some (⟨d, TU s, m⟩, [(100, id), (101, r), (102, p), (103, q)], [])
   | none => none
  | _, _ => none
 | _, _ => none
def V108 (a : DSM) : Prop := BC Try.prog A108 Try.f108 (AH Try.f108) (C108.xs a) (AE (C108.L a)) (C108.val a) (C108.keep a) [] []
theorem ABT (a : DSM) : (V108 a) = (bif a.s.back then ((0 <= a.s.way /\ a.s.way < (↑a.d.all.length : Int)) /\ 0 + a.s.way.toNat < a.d.all.length /\ (0 <= a.s.way /\ a.s.way < (↑a.d.all.length : Int)) /\ (0 +
 a.s.way.toNat).succ.le a.d.all.length) /\ 0 = 0 /\ (DZ a.m a.d.all a.s).length = a.d.all.length /\ (↑a.d.out : Int) = (↑a.d.out : Int) /\ (↑a.d.nR : Int) = (↑a.d.nR : Int) /\ (DZ a.m a.d.all a.s).length = a.d.all.length
 /\ (∀ (i : Nat), i < (DZ a.m a.d.all a.s).length -> ((gD (DZ a.m a.d.all a.s) i).fr = bif decide (i = 0 + a.s.way.toNat) then (gD a.d.all (0 + a.s.way.toNat)).fr else (gD a.d.all i).fr) /\ ((gD (DZ a.m a.d.all a.s)
 i).to = bif decide (i = 0 + a.s.way.toNat) then (gD a.d.all (0 + a.s.way.toNat)).to else (gD a.d.all i).to) /\ ((gD (DZ a.m a.d.all a.s) i).sp.lo = bif decide (i = 0 + a.s.way.toNat) then (gD a.d.all (0 +
 a.s.way.toNat)).sp.lo else (gD a.d.all i).sp.lo) /\ ((gD (DZ a.m a.d.all a.s) i).sp.hi = bif decide (i = 0 + a.s.way.toNat) then (gD a.d.all (0 + a.s.way.toNat)).sp.hi else (gD a.d.all i).sp.hi) /\ (gD (DZ a.m
 a.d.all a.s) i).now = bif decide (i = 0 + a.s.way.toNat) then IntKind.i64.wrap ((gD a.d.all (0 + a.s.way.toNat)).now - a.m) else (gD a.d.all i).now) /\ a.m = a.m else ((0 <= a.s.way /\ a.s.way < (↑a.d.all.length : Int)) /\ 0
 + a.s.way.toNat < a.d.all.length /\ (0 <= a.s.way /\ a.s.way < (↑a.d.all.length : Int)) /\ (0 + a.s.way.toNat).succ.le a.d.all.length) /\ 0 = 0 /\ (DZ a.m a.d.all a.s).length = a.d.all.length /\ (↑a.d.out : Int) = (↑a.d.out
 : Int) /\ (↑a.d.nR : Int) = (↑a.d.nR : Int) /\ (DZ a.m a.d.all a.s).length = a.d.all.length /\ (∀ (i : Nat), i < (DZ a.m a.d.all a.s).length -> ((gD (DZ a.m a.d.all a.s) i).fr = bif decide (i = 0 + a.s.way.toNat)
 then (gD a.d.all (0 + a.s.way.toNat)).fr else (gD a.d.all i).fr) /\ ((gD (DZ a.m a.d.all a.s) i).to = bif decide (i = 0 + a.s.way.toNat) then (gD a.d.all (0 + a.s.way.toNat)).to else (gD a.d.all i).to) /\ ((gD (DZ
 a.m a.d.all a.s) i).sp.lo = bif decide (i = 0 + a.s.way.toNat) then (gD a.d.all (0 + a.s.way.toNat)).sp.lo else (gD a.d.all i).sp.lo) /\ ((gD (DZ a.m a.d.all a.s) i).sp.hi = bif decide (i = 0 + a.s.way.toNat) then (gD
 a.d.all (0 + a.s.way.toNat)).sp.hi else (gD a.d.all i).sp.hi) /\ (gD (DZ a.m a.d.all a.s) i).now = bif decide (i = 0 + a.s.way.toNat) then IntKind.i64.wrap ((gD a.d.all (0 + a.s.way.toNat)).now + a.m) else (gD a.d.all
 i).now) /\ a.m = a.m) := by kernel_rfl
theorem JC (m : Int) (l : List Way) (s : Step) : (DZ m l s).length = l.length := by simp [DZ]
theorem p108 (a : DSM) (h : 0 <= a.s.way /\ a.s.way < a.d.all.length) : V108 a := by
 have hk : a.s.way.toNat < a.d.all.length := by omega
 rw [ABT]; simp only [CC, eq_self, implies_true, forall_const, JC]
 refine ⟨λ hb => ⟨⟨h, hk, h, hk⟩, λ i hi => ?_⟩, λ hb => ⟨⟨h, hk, h, hk⟩, λ i hi => ?_⟩⟩ <;> rw [DZ, BB hk] <;> by_cases he : i = a.s.way.toNat <;> simp [he, hb]
theorem ACA : AI Try.prog 108 (C108.spec d108) := HQ C108 (λ _ => A108) [] [] Try.func108 (λ _ => by kernel_rfl) (λ _ => AF) p108 (λ _ => IL rfl rfl) _
def Rr (l : List Int) : DVal := .arr 1 10 λ i => CI (gD l i)
structure KL where
 k : Nat
 l : List Int
 deriving Inhabited
def A94 (d : Desk) : Ann := { ann 34 [] with E := [100, 101], loops := λ id => if id = 3 then some [{ α := KL, dflt := default, T := λ s => ⟨[(2, .rptr 200 1 0 0), (3, .rptr 201 1 0 0), (10, .own 101 5 0 d.all.length), (11, .int d.all.length), (12, .int s.k)], LF d ++ [(200, .live (.row 1 10 λ _ => CI 0)), (201, .live (.row 1 10 λ i => CI (gD s.l i)))]⟩, inv := λ s => s.k <= d.all.length /\ s.l.length = 10 /\ BA d = SD s.l (d.all.drop s.k), meas := λ s => d.all.length - s.k, first := [(200, 1000), (201, 2000)] }] else none }
def C94 : Ctr := { ro := [100, 101], α := Desk, xs := λ _ => [.bptr 100 0], L := KR, val := λ d => .d (Rr (BA d)), keep := LF, pre := λ d => [d.ok] }
def OM : List AVal -> Heap -> Option (Desk × List (Nat × Nat) × List Nat)
 | [.bptr id _], H => match JF H id with
  | some (d, r) => some (d, [(100, id), (101, r)], [])
  | none => none
 | _, _ => none
def V94 (d : Desk) : Prop := BC Try.prog (A94 d) Try.f94 (AH Try.f94) (C94.xs d) (AE (C94.L d)) (C94.val d) (C94.keep d) [] []
theorem vc94 (d : Desk) : (V94 d) = (let q := d
 let y0 := (Value.agg #[Value.int IntKind.i64 (0 : Int), Value.int IntKind.i64 (0 : Int), Value.int IntKind.i64 (0 : Int), Value.int IntKind.i64 (0 : Int), Value.int IntKind.i64 (0 : Int), Value.int IntKind.i64 (0 : Int), Value.int IntKind.i64 (0 : Int), Value.int IntKind.i64 (0 : Int), Value.int IntKind.i64 (0 : Int), Value.int IntKind.i64 (0 : Int)]).cells.toList = (List.replicate (10 : Nat) (Value.int IntKind.i64 (0 : Int)).cells.toList).flatten
 let y1 := (0 : Nat) = (0 : Nat)
 let y2 := q.all.length = q.all.length
 let y3 := (↑q.all.length : Int) = (↑q.all.length : Int)
 let y4 := (↑q.out : Int) = (↑q.out : Int)
 let y5 := (↑q.nR : Int) = (↑q.nR : Int)
 let y6 := ∀ (i : Nat), i < q.all.length -> (gD q.all i).fr = (gD q.all i).fr /\ (gD q.all i).to = (gD q.all i).to /\ (gD q.all i).sp.lo = (gD q.all i).sp.lo /\ (gD q.all i).sp.hi = (gD q.all i).sp.hi /\ (gD q.all i).now = (gD q.all i).now
 let y7 := (10 : Nat) = (10 : Nat)
 let y8 := ∀ (i : Nat), i < (10 : Nat) -> Int.ofNat (0 : Nat) = Int.ofNat (0 : Nat)
 let y9 (a : KL) := a.k <= q.all.length /\ a.l.length = (10 : Nat) /\ BA q = SD a.l (List.drop a.k q.all)
 let y10 (a : KL) := (↑a.k : Int) < (↑q.all.length : Int)
 let y11 (a : KL) := (0 : Nat) + a.k
 let y12 (a : KL) : Way := gD q.all (y11 a)
 let y13 (a : KL) := (y12 a).fr
 let y14 (a : KL) := (0 : Int) <= y13 a /\ y13 a < (↑(10 : Nat) : Int)
 let y15 (a : KL) := (y13 a).toNat
 let y16 (a : KL) := (y12 a).to
 let y17 (a : KL) := (0 : Int) <= y16 a /\ y16 a < (↑(10 : Nat) : Int)
 let y18 (a : KL) := (y16 a).toNat
 let y19 (a : KL) := (y12 a).now
 let y20 (a : KL) := IntKind.i64.wrap (gD a.l (y15 a) - y19 a)
 let y21 (a : KL) := q.all.length - a.k
 (y0 /\ y0 /\ (∃ (a : KL), (y1 /\ y1 /\ y1 /\ y2 /\ y3 /\ (↑a.k : Int) = (0 : Int) /\ y1 /\ y2 /\ y4 /\ y5 /\ y2 /\ y6 /\ y7 /\ y8 /\ y7 /\
 ∀ (i : Nat), i < (10 : Nat) -> gD a.l i = (0 : Int)) /\ y9 a) /\ ∀ (a : KL), y9 a -> bif decide (y10 a) then (((0 : Int) <= (↑a.k : Int) /\ y10 a) /\ (y11 a).succ.le d.all.length) /\ (y14 a /\ y15 a < (10 : Nat) /\ y14 a /\ (y15 a).succ.le (10 : Nat)) /\ (y17 a /\ y18 a < (10 : Nat) /\ y17 a /\ (y18 a).succ.le (10 : Nat)) /\ ∃ (a_2 : KL), (y1 /\ y1 /\ y1 /\ y2 /\ y3 /\ (↑a_2.k
 : Int) = IntKind.i64.wrap ((↑a.k : Int) + (1 : Int)) /\ y1 /\ y2 /\ y4 /\ y5 /\ y2 /\ y6 /\ y7 /\ y8 /\ y7 /\ ∀ (i : Nat), i < (10 : Nat) -> gD a_2.l i = bif decide (i = y18 a) then
 IntKind.i64.wrap ((bif decide (y18 a = y15 a) then y20 a else gD a.l (y18 a)) + y19 a) else bif decide (i = y15 a) then y20 a else gD a.l i) /\ y9 a_2 /\ y21 a_2 < y21 a
 else y7 /\ (∀ (i : Nat), i < (10 : Nat) -> gD (BA d) i = gD a.l i) /\ y1 /\ y2 /\ y4 /\ y5 /\ y2 /\ y6)) := by kernel_rfl
theorem p94 (d : Desk) (h : d.ok) : V94 d := by
 have hL := h.len
 rw [vc94]; (conv => zeta); simp only [CC, eq_self, implies_true, forall_const]
 refine ⟨rfl, rfl, ⟨⟨0, List.replicate 10 0⟩, ⟨rfl, ?_⟩, Nat.zero_le _, rfl, by simp [BA]⟩, λ a ⟨h1, h2, h3⟩ => ⟨λ hlt => ?_, λ hge => ?_⟩⟩
 ·intro i hi; rw [CM, if_pos hi]
 ·have hk : a.k < d.all.length := by omega
  obtain ⟨⟨e1, e2⟩, e3, e4⟩ := h.ends a.k hk
  have ho := h.out
  refine ⟨⟨⟨by omega, by omega⟩, hk⟩, ⟨⟨e1, by omega⟩, by omega, ⟨e1, by omega⟩, by omega⟩, ⟨⟨e3, by omega⟩, by omega, ⟨e3, by omega⟩, by omega⟩,
   ⟨a.k + 1, (a.l.modify (gD d.all a.k).fr.toNat λ x => wr (x - (gD d.all a.k).now)).modify (gD d.all a.k).to.toNat λ x => wr (x + (gD d.all a.k).now)⟩, ⟨(AN (by omega)).symm, λ i hi => ?_⟩, ⟨by show a.k + 1 <= _; omega, by simp [h2], ?_⟩, by show _ - (a.k + 1) < _; omega⟩
  ·rw [BB (by simp [h2]; omega), BB (by omega), BB (by omega)]
   by_cases x1 : i = (gD d.all a.k).to.toNat <;> by_cases x2 : (gD d.all a.k).to.toNat = (gD d.all a.k).fr.toNat <;> by_cases x3 : i = (gD d.all a.k).fr.toNat <;> simp [x1, x2, x3] <;> (try omega) <;> (try simp_all)
  ·rw [h3, ED hk]; rfl
 ·intro i hi
  rw [h3, List.drop_eq_nil_of_le (by omega)]; rfl
theorem ok94 : AI Try.prog 94 (C94.spec OM) := HQ C94 A94 [] [] Try.func94 (λ _ => by kernel_rfl) (λ _ => AF) p94 (λ _ => IL rfl rfl) _
end Go.Bal
