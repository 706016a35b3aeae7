/- Package balance: push, over, who has too much. -/
import Derived.Test.YtonddbmhljelgaaBalB
set_option linter.unusedVariables false
set_option linter.unusedSimpArgs false
namespace Go.Bal
open Go Go.Sym Go.Proofs
def uV : AVal := .d (.tup [])
structure DSM where
 d : Desk
 s : Step
 m : Int
def Uu : Ann := { ann 34 [] with E := [100, 101, 102, 103] }
def C108 : Ctr := { ro := [100, 102, 103], α := DSM, xs := λ a => [.d (OR a.s), .bptr 102 0, .bptr 103 0], L := λ a => JH a.d ++ [(102, .box [.bptr 100 0]), (103, .box [.int a.m])], val := λ _ => uV, keep := λ a => JM (Desk.mk (DH a.m a.d.all a.s) a.d.out a.d.nR) ++ [(102, .live (.box [.bptr 100 0])), (103, .live (.box [.int a.m]))], pre := λ a => [0 <= a.s.way /\ a.s.way < a.d.all.length] }
def Xq : List AVal -> Heap -> Option (DSM × List (Nat × Nat) × List Nat)
 | [.d s, .bptr p _, .bptr q _], H => match H p, H q with
  | .live (.box [.bptr id _]), .live (.box [.d (.v (.int _ m))]) => match IG H id with
   | some (d, r) => some (⟨d, VG s, m⟩, [(100, id), (101, r), (102, p), (103, q)], [])
   | none => none
  | _, _ => none
 | _, _ => none
def Wc (a : DSM) : Prop := BM Try.prog Uu Try.f108 (AJ Try.f108) (C108.xs a) (AE (C108.L a)) (C108.val a) (C108.keep a) [] []
theorem Wx (a : DSM) : (Wc a) = (bif a.s.back then ((0 <= a.s.way /\ a.s.way < (↑a.d.all.length : Int)) /\ 0 + a.s.way.toNat < a.d.all.length /\ (0 <= a.s.way /\ a.s.way < (↑a.d.all.length : Int)) /\ (0 +
 a.s.way.toNat).succ.le a.d.all.length) /\ 0 = 0 /\ (DH a.m a.d.all a.s).length = a.d.all.length /\ (↑a.d.out : Int) = (↑a.d.out : Int) /\ (↑a.d.nR : Int) = (↑a.d.nR : Int) /\ (DH a.m a.d.all a.s).length = a.d.all.length
 /\ (∀ (i : Nat), i < (DH a.m a.d.all a.s).length -> ((gD (DH a.m a.d.all a.s) i).fr = bif decide (i = 0 + a.s.way.toNat) then (gD a.d.all (0 + a.s.way.toNat)).fr else (gD a.d.all i).fr) /\ ((gD (DH a.m a.d.all a.s)
 i).to = bif decide (i = 0 + a.s.way.toNat) then (gD a.d.all (0 + a.s.way.toNat)).to else (gD a.d.all i).to) /\ ((gD (DH a.m a.d.all a.s) i).sp.lo = bif decide (i = 0 + a.s.way.toNat) then (gD a.d.all (0 +
 a.s.way.toNat)).sp.lo else (gD a.d.all i).sp.lo) /\ ((gD (DH a.m a.d.all a.s) i).sp.hi = bif decide (i = 0 + a.s.way.toNat) then (gD a.d.all (0 + a.s.way.toNat)).sp.hi else (gD a.d.all i).sp.hi) /\ (gD (DH a.m
 a.d.all a.s) i).now = bif decide (i = 0 + a.s.way.toNat) then IntKind.i64.wrap ((gD a.d.all (0 + a.s.way.toNat)).now - a.m) else (gD a.d.all i).now) /\ a.m = a.m else ((0 <= a.s.way /\ a.s.way < (↑a.d.all.length : Int)) /\ 0
 + a.s.way.toNat < a.d.all.length /\ (0 <= a.s.way /\ a.s.way < (↑a.d.all.length : Int)) /\ (0 + a.s.way.toNat).succ.le a.d.all.length) /\ 0 = 0 /\ (DH a.m a.d.all a.s).length = a.d.all.length /\ (↑a.d.out : Int) = (↑a.d.out
 : Int) /\ (↑a.d.nR : Int) = (↑a.d.nR : Int) /\ (DH a.m a.d.all a.s).length = a.d.all.length /\ (∀ (i : Nat), i < (DH a.m a.d.all a.s).length -> ((gD (DH a.m a.d.all a.s) i).fr = bif decide (i = 0 + a.s.way.toNat)
 then (gD a.d.all (0 + a.s.way.toNat)).fr else (gD a.d.all i).fr) /\ ((gD (DH a.m a.d.all a.s) i).to = bif decide (i = 0 + a.s.way.toNat) then (gD a.d.all (0 + a.s.way.toNat)).to else (gD a.d.all i).to) /\ ((gD (DH
 a.m a.d.all a.s) i).sp.lo = bif decide (i = 0 + a.s.way.toNat) then (gD a.d.all (0 + a.s.way.toNat)).sp.lo else (gD a.d.all i).sp.lo) /\ ((gD (DH a.m a.d.all a.s) i).sp.hi = bif decide (i = 0 + a.s.way.toNat) then (gD
 a.d.all (0 + a.s.way.toNat)).sp.hi else (gD a.d.all i).sp.hi) /\ (gD (DH a.m a.d.all a.s) i).now = bif decide (i = 0 + a.s.way.toNat) then IntKind.i64.wrap ((gD a.d.all (0 + a.s.way.toNat)).now + a.m) else (gD a.d.all
 i).now) /\ a.m = a.m) := by kernel_rfl
theorem ID (m : Int) (l : List Way) (s : Step) : (DH m l s).length = l.length := by simp [DH]
theorem Zp (a : DSM) (h : 0 <= a.s.way /\ a.s.way < a.d.all.length) : Wc a := by
 have hk : a.s.way.toNat < a.d.all.length := by omega
 rw [Wx]; simp only [CC, eq_self, implies_true, forall_const, ID]
 refine ⟨λ hb => ⟨⟨h, hk, h, hk⟩, λ i hi => ?_⟩, λ hb => ⟨⟨h, hk, h, hk⟩, λ i hi => ?_⟩⟩ <;> rw [DH, BR hk] <;> by_cases he : i = a.s.way.toNat <;> simp [he, hb]
theorem Vx : AL Try.prog 108 (C108.spec Xq) := JC C108 (λ _ => Uu) [] [] Try.func108 (λ _ => by kernel_rfl) (λ _ => AH) Zp (λ _ => KF rfl rfl) _
def Ju (l : List Int) : DVal := .arr 1 10 λ i => CE (gD l i)
structure KL where
 k : Nat
 l : List Int
 deriving Inhabited
def A94 (d : Desk) : Ann := { ann 34 [] with E := [100, 101], loops := λ id => if id = 3 then some [{ α := KL, dflt := default, T := λ s => ⟨[(2, .rptr 200 1 0 0), (3, .rptr 201 1 0 0), (10, .own 101 5 0 d.all.length), (11, .int d.all.length), (12, .int s.k)], JM d ++ [(200, .live (.row 1 10 λ _ => CE 0)), (201, .live (.row 1 10 λ i => CE (gD s.l i)))]⟩, inv := λ s => s.k <= d.all.length /\ s.l.length = 10 /\ AY d = PX s.l (d.all.drop s.k), meas := λ s => d.all.length - s.k, first := [(200, 1000), (201, 2000)] }] else none }
def C94 : Ctr := { ro := [100, 101], α := Desk, xs := λ _ => [.bptr 100 0], L := JH, val := λ d => .d (Ju (AY d)), keep := JM, pre := λ d => [d.ok] }
def OP : List AVal -> Heap -> Option (Desk × List (Nat × Nat) × List Nat)
 | [.bptr id _], H => match IG H id with
  | some (d, r) => some (d, [(100, id), (101, r)], [])
  | none => none
 | _, _ => none
def V94 (d : Desk) : Prop := BM Try.prog (A94 d) Try.f94 (AJ Try.f94) (C94.xs d) (AE (C94.L d)) (C94.val d) (C94.keep d) [] []
theorem vc94 (d : Desk) : (V94 d) = (let q := d
 let y0 := (Value.agg #[Value.int IntKind.i64 (0 : Int), Value.int IntKind.i64 (0 : Int), Value.int IntKind.i64 (0 : Int), Value.int IntKind.i64 (0 : Int), Value.int IntKind.i64 (0 : Int), Value.int IntKind.i64 (0 : Int), Value.int IntKind.i64 (0 : Int), Value.int IntKind.i64 (0 : Int), Value.int IntKind.i64 (0 : Int), Value.int IntKind.i64 (0 : Int)]).cells.toList = (List.replicate (10 : Nat) (Value.int IntKind.i64 (0 : Int)).cells.toList).flatten
 let y1 := (0 : Nat) = (0 : Nat)
 let y2 := q.all.length = q.all.length
 let y3 := (↑q.all.length : Int) = (↑q.all.length : Int)
 let y4 := (↑q.out : Int) = (↑q.out : Int)
 let y5 := (↑q.nR : Int) = (↑q.nR : Int)
 let y6 := ∀ (i : Nat), i < q.all.length -> (gD q.all i).fr = (gD q.all i).fr /\ (gD q.all i).to = (gD q.all i).to /\ (gD q.all i).sp.lo = (gD q.all i).sp.lo /\ (gD q.all i).sp.hi = (gD q.all i).sp.hi /\ (gD q.all i).now = (gD q.all i).now
 let y7 := (10 : Nat) = (10 : Nat)
 let y8 := ∀ (i : Nat), i < (10 : Nat) -> Int.ofNat (0 : Nat) = Int.ofNat (0 : Nat)
 let y9 (a : KL) := a.k <= q.all.length /\ a.l.length = (10 : Nat) /\ AY q = PX a.l (List.drop a.k q.all)
 let y10 (a : KL) := (↑a.k : Int) < (↑q.all.length : Int)
 let y11 (a : KL) := (0 : Nat) + a.k
 let y12 (a : KL) : Way := gD q.all (y11 a)
 let y13 (a : KL) := (y12 a).fr
 let y14 (a : KL) := (0 : Int) <= y13 a /\ y13 a < (↑(10 : Nat) : Int)
 let y15 (a : KL) := (y13 a).toNat
 let y16 (a : KL) := (y12 a).to
 let y17 (a : KL) := (0 : Int) <= y16 a /\ y16 a < (↑(10 : Nat) : Int)
 let y18 (a : KL) := (y16 a).toNat
 let y19 (a : KL) := (y12 a).now
 let y20 (a : KL) := IntKind.i64.wrap (gD a.l (y15 a) - y19 a)
 let y21 (a : KL) := q.all.length - a.k
 (y0 /\ y0 /\ (∃ (a : KL), (y1 /\ y1 /\ y1 /\ y2 /\ y3 /\ (↑a.k : Int) = (0 : Int) /\ y1 /\ y2 /\ y4 /\ y5 /\ y2 /\ y6 /\ y7 /\ y8 /\ y7 /\
 ∀ (i : Nat), i < (10 : Nat) -> gD a.l i = (0 : Int)) /\ y9 a) /\ ∀ (a : KL), y9 a -> bif decide (y10 a) then (((0 : Int) <= (↑a.k : Int) /\ y10 a) /\ (y11 a).succ.le d.all.length) /\ (y14 a /\ y15 a < (10 : Nat) /\ y14 a /\ (y15 a).succ.le (10 : Nat)) /\ (y17 a /\ y18 a < (10 : Nat) /\ y17 a /\ (y18 a).succ.le (10 : Nat)) /\ ∃ (a_2 : KL), (y1 /\ y1 /\ y1 /\ y2 /\ y3 /\ (↑a_2.k
 : Int) = IntKind.i64.wrap ((↑a.k : Int) + (1 : Int)) /\ y1 /\ y2 /\ y4 /\ y5 /\ y2 /\ y6 /\ y7 /\ y8 /\ y7 /\ ∀ (i : Nat), i < (10 : Nat) -> gD a_2.l i = bif decide (i = y18 a) then
 IntKind.i64.wrap ((bif decide (y18 a = y15 a) then y20 a else gD a.l (y18 a)) + y19 a) else bif decide (i = y15 a) then y20 a else gD a.l i) /\ y9 a_2 /\ y21 a_2 < y21 a
 else y7 /\ (∀ (i : Nat), i < (10 : Nat) -> gD (AY d) i = gD a.l i) /\ y1 /\ y2 /\ y4 /\ y5 /\ y2 /\ y6)) := by kernel_rfl
theorem p94 (d : Desk) (h : d.ok) : V94 d := by
 have hL := h.len
 rw [vc94]; (conv => zeta); simp only [CC, eq_self, implies_true, forall_const]
 refine ⟨rfl, rfl, ⟨⟨0, List.replicate 10 0⟩, ⟨rfl, ?_⟩, Nat.zero_le _, rfl, by simp [AY]⟩, λ a ⟨h1, h2, h3⟩ => ⟨λ hlt => ?_, λ hge => ?_⟩⟩
 ·intro i hi; rw [FK, if_pos hi]
 ·have hk : a.k < d.all.length := by omega
  obtain ⟨⟨e1, e2⟩, e3, e4⟩ := h.ends a.k hk
  have ho := h.out
  refine ⟨⟨⟨by omega, by omega⟩, hk⟩, ⟨⟨e1, by omega⟩, by omega, ⟨e1, by omega⟩, by omega⟩, ⟨⟨e3, by omega⟩, by omega, ⟨e3, by omega⟩, by omega⟩,
   ⟨a.k + 1, (a.l.modify (gD d.all a.k).fr.toNat λ x => wr (x - (gD d.all a.k).now)).modify (gD d.all a.k).to.toNat λ x => wr (x + (gD d.all a.k).now)⟩, ⟨(BB (by omega)).symm, λ i hi => ?_⟩, ⟨by show a.k + 1 <= _; omega, by simp [h2], ?_⟩, by show _ - (a.k + 1) < _; omega⟩
  ·rw [BR (by simp [h2]; omega), BR (by omega), BR (by omega)]
   by_cases x1 : i = (gD d.all a.k).to.toNat <;> by_cases x2 : (gD d.all a.k).to.toNat = (gD d.all a.k).fr.toNat <;> by_cases x3 : i = (gD d.all a.k).fr.toNat <;> simp [x1, x2, x3] <;> (try omega) <;> (try simp_all)
  ·rw [h3, DX hk]; rfl
 ·intro i hi
  rw [h3, List.drop_eq_nil_of_le (by omega)]; rfl
theorem ok94 : AL Try.prog 94 (C94.spec OP) := JC C94 A94 [] [] Try.func94 (λ _ => by kernel_rfl) (λ _ => AH) p94 (λ _ => KF rfl rfl) _
end Go.Bal
