/- awake: the examples of the chapter. -/
import Derived.Test.YtonddbmhljelgaaBalW
set_option linter.unusedVariables false
set_option linter.unusedSimpArgs false
namespace Go.Bal
open Go Go.Sym Go.Proofs
def A14 := ann 108 [(49, C49.spec d49), (34, C34.spec XP), (20, C20.spec XP), (24, C24.spec d24), (21, C21.spec XP), (25, C25.spec XP), (35, C35.spec d35), (50, s50), (37, C37.spec d37), (27, C27.spec d27)]
def V14 (n : Nat) : Prop := BM Try.prog A14 Try.f14 (AJ Try.f14) [] (AE []) (.bool true) [] [] []
theorem vc14 (n : Nat) : (V14 n) = (let y0 := Int.ofNat (105 : Nat) = Int.ofNat (105 : Nat)
 let y1 := Int.ofNat (130 : Nat) = Int.ofNat (130 : Nat)
 let y2 := (3 : Nat) = (3 : Nat)
 let y3 : NetL := IS (105 : Int) (130 : Int)
 let y4 : List Span := y3.g
 let y5 (i : Nat) : Span := gD y4 i
 let y6 : List Span := AC y4.length λ (i : Nat) => y5 i
 let y7 (i : Nat) : Span := gD y6 i
 let y8 := ∀ (i : Nat), i < (3 : Nat) -> (y7 i).lo = (y5 i).lo /\ (y7 i).hi = (y5 i).hi
 let y9 := (2 : Nat) = (2 : Nat)
 let y10 : List Reach := y3.r
 let y11 (i : Nat) : Reach := gD y10 i
 let y12 : List Reach := AC y10.length λ (i : Nat) => y11 i
 let y13 (i : Nat) : Reach := gD y12 i
 let y14 (i : Nat) : Span := (y13 i).sp
 let y15 (i : Nat) : Span := (y11 i).sp
 let y16 := ∀ (i : Nat), i < (2 : Nat) -> (y13 i).fr = (y11 i).fr /\ (y13 i).to = (y11 i).to /\ (y14 i).lo = (y15 i).lo /\ (y14 i).hi = (y15 i).hi
 let y17 := Int.ofNat (0 : Nat) = Int.ofNat (0 : Nat)
 let y18 := ¬(0 : Int) < CJ (NetL.mk (AC (3 : Nat) λ (i : Nat) => y5 i) (AC (2 : Nat) λ (i : Nat) => y11 i))
 let y19 : NetL := NetL.mk y6 y12
 let y20 := Int.ofNat (140 : Nat) = Int.ofNat (140 : Nat)
 let y21 := Int.ofNat (150 : Nat) = Int.ofNat (150 : Nat)
 let y22 : NetL := IS (140 : Int) (150 : Int)
 let y23 : List Span := y22.g
 let y24 (i : Nat) : Span := gD y23 i
 let y25 : List Span := AC y23.length λ (i : Nat) => y24 i
 let y26 (i : Nat) : Span := gD y25 i
 let y27 := ∀ (i : Nat), i < (3 : Nat) -> (y26 i).lo = (y24 i).lo /\ (y26 i).hi = (y24 i).hi
 let y28 : List Reach := y22.r
 let y29 (i : Nat) : Reach := gD y28 i
 let y30 : List Reach := AC y28.length λ (i : Nat) => y29 i
 let y31 (i : Nat) : Reach := gD y30 i
 let y32 (i : Nat) : Span := (y31 i).sp
 let y33 (i : Nat) : Span := (y29 i).sp
 let y34 := ∀ (i : Nat), i < (2 : Nat) -> (y31 i).fr = (y29 i).fr /\ (y31 i).to = (y29 i).to /\ (y32 i).lo = (y33 i).lo /\ (y32 i).hi = (y33 i).hi
 let y35 (i : Nat) := decide (i = (0 : Nat))
 let y36 (i : Nat) := decide (i - (1 : Nat) = (0 : Nat))
 let y37 : List Int := AC (3 : Nat) λ (i : Nat) => bif y35 i then (0 : Int) else bif y36 i then (-1 : Int) else (0 : Int)
 let y38 (j : Nat) := (0 : Nat) + j
 let y39 (j : Nat) := decide (y38 j = (0 : Nat))
 let y40 : NetL := NetL.mk y25 y30
 let y41 : List Span := KT y19
 let y42 (i : Nat) : Span := gD y41 i
 let y43 (i : Nat) : Span := gD (AC y41.length λ (i : Nat) => y42 i) i
 let y44 (i : Nat) := bif y35 i then (100 : Int) else (105 : Int)
 let y45 (i : Nat) := bif y35 i then (115 : Int) else (125 : Int)
 let y46 : List Span := AC (2 : Nat) λ (i : Nat) => Span.mk (y44 i) (y45 i)
 let y47 (i : Nat) : Span := gD y46 i
 let y48 : List Span := KV y19
 let y49 (i : Nat) : Span := gD y48 i
 let y50 (i : Nat) : Span := gD (AC y48.length λ (i : Nat) => y49 i) i
 let y51 (i : Nat) := bif y35 i then (100 : Int) else bif y36 i then (0 : Int) else (-125 : Int)
 let y52 (i : Nat) := bif y35 i then (115 : Int) else bif y36 i then (10 : Int) else (-105 : Int)
 let y53 : List Span := AC (3 : Nat) λ (i : Nat) => Span.mk (y51 i) (y52 i)
 let y54 (i : Nat) : Span := gD y53 i
 let y55 := (1 : Nat) = (1 : Nat)
 let y56 : List Int := BD y40 y30.length
 let y57 (i : Nat) := gD y56 i
 let y58 : List Int := AC (1 : Nat) λ (i : Nat) => (1 : Int)
 ((y0 /\ y1 /\ y2 /\ y8 /\ y9 /\ y16 /\ y17 /\ true = true /\ y18 /\ ∀ (i : Nat), i < (5 : Nat) -> (EI (AA y19) (↑i : Int)).isSome = true) /\ (y20 /\ y21 /\
 y2 /\ y27 /\ y9 /\ y34 /\ y17 /\ true = true) /\ (y20 /\ y21 /\ y2 /\ y27 /\ y9 /\ y34 /\ Int.ofNat (15 : Nat) = Int.ofNat (15 : Nat) /\ y2 /\ (3 : Nat) <= (3 : Nat) /\ (∀ (j : Nat), j < (3 : Nat) ->
 gD y37 j = bif y39 j then (0 : Int) else bif decide (y38 j - (1 : Nat) = (0 : Nat)) then (-1 : Int) else (0 : Int)) /\ y37.length.succ.le (4611686018427387904 : Nat)) /\ (y20 /\ y21 /\ y2 /\ y27 /\
 y9 /\ y34 /\ y17 /\ true = true /\ true = true) /\ (y20 /\ y21 /\ y2 /\ y27 /\ y9 /\ y34 /\ y17 /\ true = true /\ CJ (NetL.mk (AC (3 : Nat) λ (i : Nat) => y24 i) (AC (2 : Nat) λ (i : Nat) =>
 y29 i)) ≠ (0 : Int) /\ ∀ (i : Nat), i < (2 : Nat) -> (BY (CS y40 i)).isSome = true) /\ (y0 /\ y1 /\ y2 /\ y8 /\ y9 /\ y16 /\ y9 /\ (2 : Nat) <= (2 : Nat) /\ (∀ (j : Nat), j < (2 : Nat) -> gD (AC (2
 : Nat) λ (i : Nat) => bif y35 i then (0 : Int) else (1 : Int)) j = bif y39 j then (0 : Int) else (1 : Int)) /\ y17 /\ true = true /\ y18 /\ false = false /\ ((0 : Nat) < (2 : Nat) /\ (2 : Nat) <= (1000000 : Nat))
 /\ true = true) /\ ((true = true -> y9 /\ (∀ (i : Nat), i < (2 : Nat) -> (y43 i).lo = (y42 i).lo /\ (y43 i).hi = (y42 i).hi) /\ y9 /\ (∀ (i : Nat), i < (2 : Nat) -> (y47 i).lo = y44 i /\ (y47 i).hi =
 y45 i) /\ (2 : Nat) < (4611686018427387904 : Nat) /\ y46.length.succ.le (4611686018427387904 : Nat)) /\ (true = true -> y2 /\ (∀ (i : Nat), i < (3 : Nat) -> (y50 i).lo = (y49 i).lo /\ (y50 i).hi = (y49 i).hi) /\ y2 /\ (∀ (i : Nat), i < (3 : Nat) -> (y54 i).lo = y51 i /\ (y54 i).hi = y52 i) /\ (3 : Nat) < (4611686018427387904 : Nat) /\ y53.length.succ.le (4611686018427387904 : Nat)) /\ (true = true -> y55 /\
 (∀ (i : Nat), i < (1 : Nat) -> gD (AC y56.length λ (i : Nat) => y57 i) i = y57 i) /\ y55 /\ (∀ (i : Nat), i < (1 : Nat) -> gD y58 i = (1 : Int)) /\ (1 : Nat) < (4611686018427387904 : Nat) /\
 y58.length.succ.le (4611686018427387904 : Nat))) /\ true = true)) := by kernel_rfl
def f14 : List AVal -> Option (AVal × List Prop)
 | [] => some (.bool true, [])
 | _ => none
def s14 : Sym.Spec := FF f14
theorem p14 : V14 0 := by
 rw [vc14]; (conv => zeta); simp only [CC, eq_self, implies_true, forall_const]
 decide +kernel
theorem Vy : AL Try.prog 14 s14 := DO λ xs v p h _ => by
 unfold f14 at h; split at h
 ·cases h; exact RX (A := A14) (ren := []) (fz := []) Try.func14 (by kernel_rfl) (AB ok49 (AB ok34 (AB ok20 (AB ok24 (AB ok21 (AB ok25 (AB ok35 (AB Yd (AB Zi (AB ok27 AH)))))))))) p14
 ·cases h
end Go.Bal
