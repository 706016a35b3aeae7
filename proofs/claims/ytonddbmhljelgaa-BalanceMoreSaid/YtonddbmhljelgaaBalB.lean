/- Package balance: small functions of a net at work. -/
import Derived.Test.YtonddbmhljelgaaBalA
import Derived.Test.YtonddbmhljelgaaBalM
set_option linter.unusedVariables false
set_option linter.unusedSimpArgs false
namespace Go.Bal
open Go Go.Sym Go.Proofs
def TY (d : Desk) (r : Nat) : AObj := .box [.own r 5 0 d.all.length, .int d.out, .int d.nR]
def UE (d : Desk) : AObj := .row 5 d.all.length λ i => IX (gD d.all i)
def JH (d : Desk) : List (Nat × AObj) := [(100, TY d 101), (101, UE d)]
def JM (d : Desk) : List (Nat × HCell) := [(100, .live (TY d 101)), (101, .live (UE d))]
def IG (H : Heap) (id : Nat) : Option (Desk × Nat) := match H id with
 | .live (.box [.own r _ _ n, .d (.v (.int _ o)), .d (.v (.int _ q))]) => match H r with
  | .live (.row _ _ get) => some (⟨AC n λ i => IF (get i), o.toNat, q.toNat⟩, r)
  | _ => none
 | _ => none
theorem JC (C : Ctr) (A : C.α -> Ann) (ren : List (Nat × Nat)) (fz : List Nat) {g : FuncId} {fn : Func} (hf : Try.prog.funcs[g]? = some fn) (hok : ∀ a, Ta (A a) fn (C.xs a) (C.L a) (C.keep a) = true) (hΓ : ∀ a, Er Try.prog (A a).Γ)
  (h : ∀ a, BK (C.pre a) -> BM Try.prog (A a) fn (AJ fn) (C.xs a) (AE (C.L a)) (C.val a) (C.keep a) ren fz) (hI : ∀ a, VM Try.prog (A a)) (dec : List AVal -> Heap -> Option (C.α × List (Nat × Nat) × List Nat)) : AL Try.prog g (C.spec dec) :=
 Ctr.spec_ok (λ a ha => RX hf (hok a) (hΓ a) (h a ha) (hI a)) dec
def V98 (x : Int) (s : Span) : Prop := BM Try.prog (ann 14 []) Try.f98 (AJ Try.f98) [.int x, .d (JU s)] (AE []) (.int (SC x s)) [] [] []
theorem vc98 (x : Int) (s : Span) : (V98 x s) = (SC x s = As (As 0 (IntKind.i64.wrap (s.lo - x))) (IntKind.i64.wrap (x - s.hi))) := by kernel_rfl
def f98 : List AVal -> Option (AVal × List Prop)
 | [.d (.v (.int .i64 x)), .d (.agg [.v (.int .i64 a), .v (.int .i64 b)])] => some (.int (SC x ⟨a, b⟩), [])
 | _ => none
def s98 := FF f98
theorem QW (a b : Int) : As a b = max a b := by unfold As; split <;> omega
theorem YH (a b : Int) : Ho a b = min a b := by unfold Ho; split <;> omega
theorem p98 (x : Int) (s : Span) : V98 x s := by
 rw [vc98]; simp only [QW]; rfl
theorem ok98 : AL Try.prog 98 s98 := DO λ xs v p h _ => by
 unfold f98 at h; split at h
 ·cases h; exact RX (A := ann 14 []) (ren := []) (fz := []) Try.func98 (by kernel_rfl) AH (p98 _ ⟨_, _⟩)
 ·cases h
structure DS where
 d : Desk
 s : Step
def Qr : List AVal -> Heap -> Option (DS × List (Nat × Nat) × List Nat)
 | [.bptr id _, .d s], H => match IG H id with
  | some (d, r) => some (⟨d, VG s⟩, [(100, id), (101, r)], [])
  | none => none
 | _, _ => none
def A85 : Ann := { ann 49 [] with E := [100, 101] }
def C85 : Ctr := { ro := [100, 101], α := DS, xs := λ a => [.bptr 100 0, .d (OR a.s)], L := λ a => JH a.d, val := λ a => .tup [.int (AV (BW a.d.all a.s.way) a.s.back).1, .int (AV (BW a.d.all a.s.way) a.s.back).2], keep := λ a => JM a.d, pre := λ a => [0 <= a.s.way /\ a.s.way < a.d.all.length] }
def V85 (a : DS) : Prop := BM Try.prog A85 Try.f85 (AJ Try.f85) (C85.xs a) (AE (C85.L a)) (C85.val a) (C85.keep a) [] []
theorem vc85 (a : DS) : (V85 a) = (let q := a
 let y0 := 0 + q.s.way.toNat
 let y1 : Way := gD q.d.all y0
 let y2 := y1.now
 let y3 := IntKind.i64.wrap (0 - y2)
 let y4 : Span := y1.sp
 let y5 := y4.hi
 let y6 := IntKind.i64.wrap (0 - y5)
 let y7 : Int × Int := AV (BW q.d.all q.s.way) q.s.back
 let y8 := y7.fst
 let y9 := y8 = -1
 let y10 := y7.snd
 let y11 := q.d.all.length = q.d.all.length
 let y12 := 0 = 0 /\ y11 /\ (↑q.d.out : Int) = (↑q.d.out : Int) /\ (↑q.d.nR : Int) = (↑q.d.nR : Int) /\ y11 /\ ∀ (i : Nat), i < q.d.all.length -> (gD q.d.all i).fr = (gD q.d.all i).fr /\ (gD q.d.all i).to = (gD q.d.all i).to /\ (gD q.d.all i).sp.lo = (gD q.d.all i).sp.lo /\ (gD q.d.all i).sp.hi = (gD q.d.all i).sp.hi /\ (gD q.d.all i).now = (gD q.d.all i).now
 let y13 := y4.lo
 let y14 := IntKind.i64.wrap (0 - y13)
 let y15 := y8 = 0
 let y16 := y8 = 1 /\ y10 = 10000000000 /\ y12
 (((0 <= a.s.way /\ a.s.way < (↑a.d.all.length : Int)) /\ y0.succ.le a.d.all.length) /\ bif a.s.back then bif decide (y3 < y6) then y9 /\ y10 = IntKind.i64.wrap
 (y6 - y3) /\ y12 else bif decide (y3 < y14) then y15 /\ y10 = IntKind.i64.wrap (y14 - y3) /\ y12 else y16 else bif decide (y2 < y13) then y9 /\ y10 =
 IntKind.i64.wrap (y13 - y2) /\ y12 else bif decide (y2 < y5) then y15 /\ y10 = IntKind.i64.wrap (y5 - y2) /\ y12 else y16)) := by kernel_rfl
theorem p85 (a : DS) (h : 0 <= a.s.way /\ a.s.way < a.d.all.length) : V85 a := by
 rw [vc85]; (conv => zeta); simp only [CC, eq_self, implies_true, forall_const]
 refine ⟨⟨h, by omega⟩, λ hb => ⟨λ h1 => ?_, λ h1 => ⟨λ h2 => ?_, λ h2 => ?_⟩⟩, λ hb => ⟨λ h1 => ?_, λ h1 => ⟨λ h2 => ?_, λ h2 => ?_⟩⟩⟩ <;> simp [AV, BW, *]
theorem Lc : AL Try.prog 85 (C85.spec Qr) := JC C85 (λ _ => A85) [] [] Try.func85 (λ _ => by kernel_rfl) (λ _ => AH) p85 (λ _ => KF rfl rfl) _
def A87 : Ann := { ann 27 [] with E := [100, 101] }
def C87 : Ctr := { ro := [100, 101], α := DS, xs := λ a => [.bptr 100 0, .d (OR a.s)], L := λ a => JH a.d, val := λ a => .int (DB a.d a.s), keep := λ a => JM a.d, pre := λ a => [0 <= a.s.way /\ a.s.way < a.d.all.length] }
def V87 (a : DS) : Prop := BM Try.prog A87 Try.f87 (AJ Try.f87) (C87.xs a) (AE (C87.L a)) (C87.val a) (C87.keep a) [] []
theorem vc87 (a : DS) : (V87 a) = (bif a.s.back then ((0 <= a.s.way /\ a.s.way < (↑a.d.all.length : Int)) /\ (0 + a.s.way.toNat).succ.le a.d.all.length) /\ DB a.d a.s = (gD a.d.all (0 + a.s.way.toNat)).fr /\ 0 = 0 /\
 a.d.all.length = a.d.all.length /\ (↑a.d.out : Int) = (↑a.d.out : Int) /\ (↑a.d.nR : Int) = (↑a.d.nR : Int) /\ a.d.all.length = a.d.all.length /\ ∀ (i : Nat), i < a.d.all.length -> (gD a.d.all i).fr = (gD a.d.all i).fr /\ (gD
 a.d.all i).to = (gD a.d.all i).to /\ (gD a.d.all i).sp.lo = (gD a.d.all i).sp.lo /\ (gD a.d.all i).sp.hi = (gD a.d.all i).sp.hi /\ (gD a.d.all i).now = (gD a.d.all i).now else ((0 <= a.s.way /\ a.s.way < (↑a.d.all.length :
 Int)) /\ (0 + a.s.way.toNat).succ.le a.d.all.length) /\ DB a.d a.s = (gD a.d.all (0 + a.s.way.toNat)).to /\ 0 = 0 /\ a.d.all.length = a.d.all.length /\ (↑a.d.out : Int) = (↑a.d.out : Int) /\ (↑a.d.nR : Int) = (↑a.d.nR : Int)
 /\ a.d.all.length = a.d.all.length /\ ∀ (i : Nat), i < a.d.all.length -> (gD a.d.all i).fr = (gD a.d.all i).fr /\ (gD a.d.all i).to = (gD a.d.all i).to /\ (gD a.d.all i).sp.lo = (gD a.d.all i).sp.lo /\ (gD a.d.all i).sp.hi =
 (gD a.d.all i).sp.hi /\ (gD a.d.all i).now = (gD a.d.all i).now) := by kernel_rfl
theorem p87 (a : DS) (h : 0 <= a.s.way /\ a.s.way < a.d.all.length) : V87 a := by
 rw [vc87]; simp only [CC, eq_self, implies_true, forall_const]
 refine ⟨λ hb => ⟨⟨h, by omega⟩, ?_⟩, λ hb => ⟨⟨h, by omega⟩, ?_⟩⟩ <;> simp [DB, BW, hb]
theorem Nu : AL Try.prog 87 (C87.spec Qr) := JC C87 (λ _ => A87) [] [] Try.func87 (λ _ => by kernel_rfl) (λ _ => AH) p87 (λ _ => KF rfl rfl) _
end Go.Bal
