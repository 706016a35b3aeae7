/- Package balance: copied, span, settled, fitting. -/
import Derived.Test.YtonddbmhljelgaaBalI
set_option linter.unusedVariables false
set_option linter.unusedSimpArgs false
namespace Go.Bal
open Go Go.Sym Go.Proofs
structure NW where
 n : Nat
 g : Nat -> Way
def Tp (n : Nat) (g : Nat -> Way) : AObj := .row 5 n λ i => IX (g i)
def Vm : Ann := { ann 8 [] with E := [100], mt := λ id => id == 3 }
def C100 : Ctr := { ro := [100], α := NW, xs := λ a => [.own 100 5 0 a.n], L := λ a => [(100, Tp a.n a.g)], val := λ a => .own 0 5 0 a.n, keep := λ a => [(100, .live (Tp a.n a.g)), (0, .live (Tp a.n a.g))], pre := λ a => [0 < a.n /\ a.n <= 1000] }
def Yg : List AVal -> Heap -> Option (NW × List (Nat × Nat) × List Nat)
 | [.own id _ _ n], H => match H id with
  | .live (.row _ _ get) => some (⟨n, λ i => IF (get i)⟩, [(100, id)], [])
  | _ => none
 | _, _ => none
def Xc (a : NW) : Prop := BM Try.prog Vm Try.f100 (AJ Try.f100) (C100.xs a) (AE (C100.L a)) (C100.val a) (C100.keep a) [(0, 4032)] []
theorem Ve (a : NW) : (Xc a) = (((0 = 0 /\ (0 < 0 -> 5 = 5)) /\ (0 + a.n <= a.n /\ (0 < a.n -> 5 = 5)) /\ (false = true -> 0 < a.n) /\ 0 + a.n <= 9223372036854775807 /\ (0 + a.n) * 40 <= 140737488355328) /\ 0 = 0 /\ a.n = 0 + a.n
 /\ a.n = a.n /\ (∀ (i : Nat), i < a.n -> (a.g i).fr = (a.g i).fr /\ (a.g i).to = (a.g i).to /\ (a.g i).sp.lo = (a.g i).sp.lo /\ (a.g i).sp.hi = (a.g i).sp.hi /\ (a.g i).now = (a.g i).now) /\ a.n = 0 + a.n /\ ∀ (i : Nat), i < a.n
 -> (a.g i).fr = (a.g (0 + (i - 0))).fr /\ (a.g i).to = (a.g (0 + (i - 0))).to /\ (a.g i).sp.lo = (a.g (0 + (i - 0))).sp.lo /\ (a.g i).sp.hi = (a.g (0 + (i - 0))).sp.hi /\ (a.g i).now = (a.g (0 + (i - 0))).now) := by
 kernel_rfl
theorem Zk (a : NW) (h : 0 < a.n /\ a.n <= 1000) : Xc a := by
 rw [Ve]; simp only [CC, eq_self, implies_true, forall_const]
 exact ⟨⟨Nat.le_refl _, λ _ => h.1, by omega, by omega⟩, λ _ _ => ⟨rfl, rfl, rfl, rfl, rfl⟩⟩
theorem Xk : AL Try.prog 100 (C100.spec Yg) := JC C100 (λ _ => Vm) [(0, 4032)] [] Try.func100 (λ _ => by kernel_rfl) (λ _ => AH) Zk (λ _ => KF rfl rfl) _
def A75 : Ann := { ann 21 [(100, C100.spec Yg)] with E := [100, 101] }
def C75 : Ctr := { ro := [100, 101], α := Desk, xs := λ _ => [.bptr 100 0], L := JH, val := λ _ => .bptr 0 0, keep := λ d => JM d ++ [(0, .live (TY d 1)), (1, .live (UE d))], pre := λ d => [0 < d.all.length /\ d.all.length <= 1000] }
def V75 (d : Desk) : Prop := BM Try.prog A75 Try.f75 (AJ Try.f75) (C75.xs d) (AE (C75.L d)) (C75.val d) (C75.keep d) [(0, 2272), (1, 2080)] []
theorem vc75 (d : Desk) : (V75 d) = ((0 = 0 /\ d.all.length = d.all.length /\ d.all.length = d.all.length /\ (∀ (i : Nat), i < d.all.length -> (gD d.all i).fr = (gD d.all i).fr /\ (gD d.all i).to = (gD d.all i).to /\ (gD d.all
 i).sp.lo = (gD d.all i).sp.lo /\ (gD d.all i).sp.hi = (gD d.all i).sp.hi /\ (gD d.all i).now = (gD d.all i).now) /\ d.all.length = d.all.length /\ (∀ (i : Nat), i < d.all.length -> (gD d.all i).fr = (gD d.all i).fr /\ (gD
 d.all i).to = (gD d.all i).to /\ (gD d.all i).sp.lo = (gD d.all i).sp.lo /\ (gD d.all i).sp.hi = (gD d.all i).sp.hi /\ (gD d.all i).now = (gD d.all i).now) /\ 0 < d.all.length /\ d.all.length <= 1000) /\ 0 = 0 /\ d.all.length =
 d.all.length /\ (↑d.out : Int) = (↑d.out : Int) /\ (↑d.nR : Int) = (↑d.nR : Int) /\ d.all.length = d.all.length /\ (∀ (i : Nat), i < d.all.length -> (gD d.all i).fr = (gD d.all i).fr /\ (gD d.all i).to = (gD d.all i).to /\ (gD
 d.all i).sp.lo = (gD d.all i).sp.lo /\ (gD d.all i).sp.hi = (gD d.all i).sp.hi /\ (gD d.all i).now = (gD d.all i).now) /\ 0 = 0 /\ d.all.length = d.all.length /\ (↑d.out : Int) = (↑d.out : Int) /\ (↑d.nR : Int) = (↑d.nR : Int)
 /\ d.all.length = d.all.length /\ ∀ (i : Nat), i < d.all.length -> (gD d.all i).fr = (gD d.all i).fr /\ (gD d.all i).to = (gD d.all i).to /\ (gD d.all i).sp.lo = (gD d.all i).sp.lo /\ (gD d.all i).sp.hi = (gD d.all i).sp.hi /\
 (gD d.all i).now = (gD d.all i).now) := by kernel_rfl
theorem p75 (d : Desk) (h : 0 < d.all.length /\ d.all.length <= 1000) : V75 d := by
 rw [vc75]; simp only [CC, eq_self, implies_true, forall_const]
 exact h
theorem Wb : AL Try.prog 75 (C75.spec OP) := JC C75 (λ _ => A75) [(0, 2272), (1, 2080)] [] Try.func75 (λ _ => by kernel_rfl) (λ _ => AB Xk AH) p75 (λ _ => KF rfl rfl) _
structure DI where
 d : Desk
 at' : Int
def dDI : List AVal -> Heap -> Option (DI × List (Nat × Nat) × List Nat)
 | [.bptr id _, .d (.v (.int _ q))], H => match IG H id with
  | some (d, r) => some (⟨d, q⟩, [(100, id), (101, r)], [])
  | none => none
 | _, _ => none
def A74 : Ann := { ann 36 [(75, C75.spec OP), (77, C77.spec d77)] with E := [100, 101] }
def C74 : Ctr := { ro := [100, 101], α := DI, xs := λ a => [.bptr 100 0, .int a.at'], L := λ a => JH a.d, val := λ a => .d (JU ((EI a.d a.at').getD default)), keep := λ a => JM a.d, pre := λ a => [a.d.ok, 0 <= a.at' /\ a.at' < a.d.all.length, (EI a.d a.at').isSome = true] }
def V74 (a : DI) : Prop := BM Try.prog A74 Try.f74 (AJ Try.f74) (C74.xs a) (AE (C74.L a)) (C74.val a) (C74.keep a) [] []
theorem vc74 (a : DI) : (V74 a) = (let q := a
 let y0 := (0 : Nat) = (0 : Nat)
 let y1 : List Way := AC q.d.all.length λ (i : Nat) => gD q.d.all i
 let y2 := y1.length
 let y3 := y2 = q.d.all.length
 let y4 := (↑q.d.out : Int) = (↑q.d.out : Int)
 let y5 := (↑q.d.nR : Int) = (↑q.d.nR : Int)
 let y6 (i : Nat) : Way := gD y1 i
 let y7 (i : Nat) := (y6 i).fr
 let y8 (i : Nat) := (y6 i).to
 let y9 (i : Nat) : Span := (y6 i).sp
 let y10 (i : Nat) := (y9 i).lo
 let y11 (i : Nat) := (y9 i).hi
 let y12 (i : Nat) := (y6 i).now
 let y13 := ∀ (i : Nat), i < y2 -> y7 i = (gD q.d.all i).fr /\ y8 i = (gD q.d.all i).to /\ y10 i = (gD q.d.all i).sp.lo /\ y11 i = (gD q.d.all i).sp.hi /\ y12 i = (gD q.d.all i).now
 let y14 := q.d.all.length = y2
 let y15 := ∀ (i : Nat), i < q.d.all.length -> (gD q.d.all i).fr = y7 i /\ (gD q.d.all i).to = y8 i /\ (gD q.d.all i).sp.lo = y10 i /\ (gD q.d.all i).sp.hi = y11 i /\ (gD q.d.all i).now = y12 i
 let y16 := (0 : Nat) < y2 /\ y2 <= (1000 : Nat)
 let y17 := (100000000 : Int) = Int.ofNat (100000000 : Nat)
 let y18 : List Way := AC y2 λ (i : Nat) => y6 i
 let y19 := y18.length
 let y20 := y19 = y2
 let y21 (i : Nat) : Way := gD y18 i
 let y22 (i : Nat) : Span := (y21 i).sp
 let y23 := ∀ (i : Nat), i < y19 -> (y21 i).fr = y7 i /\ (y21 i).to = y8 i /\ (y22 i).lo = y10 i /\ (y22 i).hi = y11 i /\ (y21 i).now = y12 i
 let y24 : Desk := Desk.mk y18 q.d.out q.d.nR
 let y25 := y24.ok
 let y26 := (0 : Int) <= q.at'
 let y27 := y26 /\ q.at' < (↑y19 : Int)
 let y28 : List Way := (SA.mk y24 q.at' false (100000000 : Int)).res.fst.all
 let y29 := y28.length
 let y30 := (0 : Nat) + q.at'.toNat
 let y31 : List Way := (SA.mk y24 q.at' true (100000000 : Int)).res.fst.all
 let y32 := y31.length
 let y33 : Span := (EI q.d q.at').getD default
 let y34 := q.d.all.length = q.d.all.length
 ((y0 /\ y3 /\ y4 /\ y5 /\ y3 /\ y13 /\ y0 /\ y14 /\ y4 /\ y5 /\ y14 /\ y15 /\ y16 /\ y0 /\ y3 /\ y4 /\ y5 /\ y3 /\
 y13 /\ y0 /\ y14 /\ y4 /\ y5 /\ y14 /\ y15 /\ y16) /\ (a.at' = a.at' /\ false = false /\ y17 /\ y0 /\ y20 /\ y4 /\ y5 /\ y20 /\ y23 /\ y25 /\ y27 /\ (LC
 y24 a.at' false (100000000 : Int)).isSome = true) /\ (a.at' = a.at' /\ true = true /\ y17 /\ y0 /\ y20 /\ y4 /\ y5 /\ y20 /\ y23 /\ y25 /\ y27 /\ (LC y24 a.at' true
 (100000000 : Int)).isSome = true) /\ ((y26 /\ a.at' < (↑y29 : Int)) /\ y30 < y29 /\ (y26 /\ a.at' < (↑y32 : Int)) /\ y30.succ.le y32) /\ y33.lo = (gD y28 y30).now /\ y33.hi = (gD y31 y30).now /\ y0 /\ y34 /\ y4 /\ y5 /\ y34 /\ ∀ (i : Nat), i < a.d.all.length -> (gD a.d.all i).fr = (gD a.d.all i).fr /\ (gD a.d.all i).to = (gD a.d.all i).to
 /\ (gD a.d.all i).sp.lo = (gD a.d.all i).sp.lo /\ (gD a.d.all i).sp.hi = (gD a.d.all i).sp.hi /\ (gD a.d.all i).now = (gD a.d.all i).now)) := by kernel_rfl
theorem Bh {d d' : Desk} {fr to most q : Int} {m : Map} (h : JT d fr to m most = some (d', q)) : d'.all.length = d.all.length /\ d'.out = d.out /\ d'.nR = d.nR := by
 unfold JT at h
 split at h
 ·cases h
 ·split at h
  ·cases h; exact ⟨BJ _ _ _, rfl, rfl⟩
  ·cases h
theorem TD {at' : Int} {up : Bool} {most : Int} : ∀ {k : Nat} {d d' : Desk} {t t' : Int}, IT at' up most k d t = some (d', t') -> d'.all.length = d.all.length /\ d'.out = d.out /\ d'.nR = d.nR
 | 0, _, _, _, _, h => by cases h
 | k + 1, d, d', t, t', h => by
  simp only [IT] at h
  split at h
  ·split at h
   ·cases h
   ·split at h
    ·cases h; exact ⟨rfl, rfl, rfl⟩
    ·split at h
     ·cases h
     ·rename_i hm
      have h1 := Bh hm
      have h2 := TD h
      rw [KZ] at h2
      exact ⟨h2.1.trans h1.1, h2.2.1.trans h1.2.1, h2.2.2.trans h1.2.2⟩
  ·cases h; exact ⟨rfl, rfl, rfl⟩
theorem p74 (a : DI) (hd : a.d.ok) (hat : 0 <= a.at' /\ a.at' < a.d.all.length) (hr : (EI a.d a.at').isSome = true) : V74 a := by
 rw [vc74]; (conv => zeta); simp only [CC, eq_self, implies_true, forall_const]
 have hlen := hd.len
 unfold EI at hr ⊢
 split at hr
 ·rename_i l tl h hh e1 e2
  have r1 : (SA.mk a.d a.at' false 100000000).res = (l, tl) := by unfold SA.res; simp only; rw [e1]; rfl
  have r2 : (SA.mk a.d a.at' true 100000000).res = (h, hh) := by unfold SA.res; simp only; rw [e2]; rfl
  have l1 := (TD e1).1
  have l2 := (TD e2).1
  have r1' : (SA.mk ⟨a.d.all, a.d.out, a.d.nR⟩ a.at' false 100000000).res = (l, tl) := r1
  have r2' : (SA.mk ⟨a.d.all, a.d.out, a.d.nR⟩ a.at' true 100000000).res = (h, hh) := r2
  have e1' : LC ⟨a.d.all, a.d.out, a.d.nR⟩ a.at' false 100000000 = some (l, tl) := e1
  have e2' : LC ⟨a.d.all, a.d.out, a.d.nR⟩ a.at' true 100000000 = some (h, hh) := e2
  rw [r1', r2', e1, e2]
  simp only
  rw [l1, l2]
  exact ⟨⟨by omega, by omega⟩, ⟨rfl, hd, hat, rfl⟩, ⟨rfl, hd, hat, rfl⟩, ⟨hat, by omega, hat, by omega⟩, rfl, rfl⟩
 ·cases hr
theorem Sp : AL Try.prog 74 (C74.spec dDI) := JC C74 (λ _ => A74) [] [] Try.func74 (λ _ => by kernel_rfl) (λ _ => AB Wb (AB ok77 AH)) (λ a h => p74 a h.1 h.2.1 h.2.2) (λ _ => KF rfl rfl) _
end Go.Bal
