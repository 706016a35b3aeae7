/- Nets that are made of numbers: they are right, and what they were made of can be. -/
import Derived.Test.YtonddbmhljelgaaBalT14
import Derived.Test.YtonddbmhljelgaaBalTot
import Derived.Test.YtonddbmhljelgaaBalU
import Derived.Test.YtonddbmhljelgaaBalH
import Derived.Test.YtonddbmhljelgaaRows
import Derived.WalkKit
import Derived.ProofKit
import Derived.OpenShut
import Derived.ShutString
import Derived.ChangeOld
import Derived.Below
import Derived.ChangeArms
import Derived.Test.YtonddbmhljelgaaBalZ
set_option linter.unusedVariables false
set_option linter.unusedSimpArgs false
namespace Go.Bal
open Go Go.Sym
theorem ART {s : Span} (h1 : -1000000 <= s.lo) (h2 : s.lo <= s.hi) (h3 : s.hi <= 1000000) : RX s = true := E4.2 ⟨⟨h1, h2⟩, h3⟩
theorem AHL {e : Nat -> Int} : ∀ (n k : Nat), (∀ i, k <= i -> i < k + n -> e i = 0) -> QY e n k = 0
 | 0, _, _ => rfl
 | n + 1, k, h => by
  simp only [QY]
  rw [if_pos (h k (by omega) (by omega))]
  exact AHL n (k + 1) λ i h1 h2 => h i (by omega) (by omega)
theorem ATP {N : NetL} (h : Good N) : AB N = 0 := by
 rw [lD ⟨h.g1, h.g8, h.r14⟩, if_pos (PE.2 λ i hi => by have := h.g i hi; exact ART (by omega) (by omega) (by omega))]
 refine AHL _ _ λ i _ hi => ?_
 obtain ⟨a, b, c, d⟩ := h.r i (by omega)
 have hn : ((Wy N).nG : Int) = N.g.length := rfl
 unfold Pj
 rw [hn, if_neg, if_pos (ART (by omega) (by omega) (by omega))]
 simp only [Bool.or_eq_true, Bool.not_eq_true', decide_eq_true_eq, not_or, Bool.not_eq_false]
 exact ⟨⟨CV.2 (by omega), CV.2 (by omega)⟩, d⟩
structure MI (st : Int) (a : MS) : Prop where
 len : a.r.length = a.f.length
 m : a.m.length = st.toNat
 r : ∀ i, i < a.r.length -> ((0 <= (gD a.r i).fr /\ (gD a.r i).fr < st) /\ (0 <= (gD a.r i).to /\ (gD a.r i).to < st) /\ (gD a.r i).fr ≠ (gD a.r i).to) /\ (-20 <= gD a.f i /\ gD a.f i <= 120) /\ gD a.f i - 8 <= (gD a.r i).sp.lo /\ (gD a.r i).sp.lo <= gD a.f i /\ gD a.f i <= (gD a.r i).sp.hi /\ (gD a.r i).sp.hi <= gD a.f i + 8
 bal : ∀ j : Nat, (j : Int) < st -> gD a.m j = DG a.r.length λ i => bS j (gD a.r i) (gD a.f i)
theorem BPV {s : Int} {r : Reach} {f : Int} (h : -20 <= f /\ f <= 120) : -120 <= bS s r f /\ bS s r f <= 120 := by
 unfold bS; split <;> (try split) <;> omega
theorem T8 {f : Nat -> Int} {K : Int} : ∀ {n : Nat}, (∀ i, i < n -> -K <= f i /\ f i <= K) -> -(K * n) <= DG n f /\ DG n f <= K * n
 | 0, _ => by simp [DG]
 | n + 1, h => by
  have h1 := T8 (n := n) λ i hi => h i (by omega)
  have h2 := h n (by omega)
  have h3 : (K * ((n + 1 : Nat) : Int)) = K * n + K := by rw [Int.natCast_add, Int.mul_add]; omega
  rw [h3]; simp only [DG]; omega
theorem MI.bd {st : Int} {a : MS} (h : MI st a) (hr : a.r.length <= 14) {j : Nat} (hj : (j : Int) < st) : -1680 <= gD a.m j /\ gD a.m j <= 1680 := by
 rw [h.bal j hj]
 have := T8 (K := 120) (n := a.r.length) (f := λ i => bS j (gD a.r i) (gD a.f i)) λ i hi => BPV (h.r i hi).2.1
 omega
theorem MI.step {st K : Int} (hst : 2 <= st /\ st <= 8) {a : MS} (hs : StmB K a.s) (hK : K <= 100000000000000) (hr : a.r.length <= 13) (h : MI st a) : MI st (TI st a) := by
 have M := APW hst hs hK
 obtain ⟨n1, n2, n3⟩ := BGS st a
 have hfr := M.fr
 have hto := M.to
 have hne := M.ne
 have hv := M.v
 have hlo := M.lo
 have hhi := M.hi
 have hl := h.len
 have hm := h.m
 have elo : wr (UO st a - KY (Ga st a) 9) = UO st a - KY (Ga st a) 9 := Gp (by omega) (by omega)
 have ehi : wr (UO st a + KY (PO (Ga st a) 9) 9) = UO st a + KY (PO (Ga st a) 9) 9 := Gp (by omega) (by omega)
 have lo : ∀ i, i < a.r.length -> gD (TI st a).r i = gD a.r i /\ gD (TI st a).f i = gD a.f i := λ i hi => by
  obtain ⟨x1, x2, x3, x4⟩ := mr_r st a (i := i) (by omega)
  have x5 := mr_f st a (i := i) (by omega)
  rw [decide_eq_true hi] at x1 x2 x3 x4
  rw [decide_eq_true (show i < a.f.length by omega)] at x5
  refine ⟨?_, x5⟩
  cases hq : gD (TI st a).r i with | mk y1 y2 y3 =>
  cases hp : gD a.r i with | mk z1 z2 z3 =>
  cases y3; cases z3
  rw [hq, hp] at x1 x2 x3 x4
  simp only [cond_true] at x1 x2 x3 x4
  rw [x1, x2, x3, x4]
 obtain ⟨y1, y2, y3, y4⟩ := mr_r st a (i := a.r.length) (by omega)
 have y5 := mr_f st a (i := a.r.length) (by omega)
 rw [decide_eq_false (Nat.lt_irrefl _)] at y1 y2 y3 y4
 rw [decide_eq_false (show ¬ a.r.length < a.f.length by omega)] at y5
 simp only [cond_false] at y1 y2 y3 y4 y5
 rw [elo] at y3
 rw [ehi] at y4
 refine ⟨by omega, by omega, λ i hi => ?_, λ j hj => ?_⟩
 ·by_cases hi2 : i < a.r.length
  ·obtain ⟨e1, e2⟩ := lo i hi2
   rw [e1, e2]; exact h.r i hi2
  ·rw [show i = a.r.length by omega, y1, y2, y3, y4, y5]
   exact ⟨⟨hfr, hto, hne⟩, hv, by omega, by omega, by omega, by omega⟩
 ·rw [n1]
  simp only [DG]
  have e : DG a.r.length (λ i => bS j (gD (TI st a).r i) (gD (TI st a).f i)) = gD a.m j := by
   rw [h.bal j hj]
   exact BQ λ i hi => by rw [(lo i hi).1, (lo i hi).2]
  rw [e, y5, mr_m (by omega) (by omega) (by omega)]
  have b1 := h.bd (by omega) (j := j) hj
  have b2 := h.bd (by omega) (j := (Ag st a).toNat) (by omega)
  have b3 := h.bd (by omega) (j := (Cx st a).toNat) (by omega)
  have w1 : wr (gD a.m (Ag st a).toNat + UO st a) = gD a.m (Ag st a).toNat + UO st a := Gp (by omega) (by omega)
  have w2 : wr (gD a.m (Cx st a).toNat - UO st a) = gD a.m (Cx st a).toNat - UO st a := Gp (by omega) (by omega)
  rw [w1, w2]
  unfold bS
  rw [y1, y2]
  by_cases c1 : j = (Ag st a).toNat
  ·rw [decide_eq_true c1, if_neg (by omega), if_pos (by omega), <- c1]; rfl
  ·rw [decide_eq_false c1]
   by_cases c2 : j = (Cx st a).toNat
   ·rw [decide_eq_true c2, if_pos (by omega), <- c2]; simp only [cond_false, cond_true]; omega
   ·rw [decide_eq_false c2, if_neg (by omega), if_neg (by omega)]; simp only [cond_false]; omega
theorem MI.run {st : Int} (hst : 2 <= st /\ st <= 8) : ∀ (k : Nat) (a : MS) (K : Int), StmB K a.s -> K + 10 * k <= 100000000000 -> a.r.length + k <= 14 -> MI st a -> MI st (AAL k st a) /\ StmB (K + 10 * k) (AAL k st a).s /\ (AAL k st a).r.length = a.r.length + k
 | 0, a, K, hs, hK, hr, h => ⟨h, hs.mono (by omega), rfl⟩
 | k + 1, a, K, hs, hK, hr, h => by
  obtain ⟨n1, n2, n3⟩ := BGS st a
  obtain ⟨a1, a2, a3⟩ := MI.run hst k (TI st a) (K + 5) (APW hst hs (by omega)).s (by omega) (by omega) (h.step hst hs (by omega) (by omega))
  simp only [AAL]
  exact ⟨a1, a2.mono (by omega), by omega⟩
structure GI (m : List Int) (k : Nat) (a : GS) : Prop where
 g : a.g.length = k
 t : a.t.length = k
 v : ∀ j, j < k -> gD a.t j = -gD m j /\ gD a.t j - 8 <= (gD a.g j).lo /\ (gD a.g j).lo <= gD a.t j /\ gD a.t j <= (gD a.g j).hi /\ (gD a.g j).hi <= gD a.t j + 8
theorem GI.run {m : List Int} (hm : ∀ j, j < m.length -> -1680 <= gD m j /\ gD m j <= 1680) : ∀ (n k : Nat) (a : GS) (K : Int), n + k = m.length -> StmB K a.s -> K + 10 * n <= 100000000000 -> GI m k a -> GI m m.length (ANL (m.drop k) a) /\ StmB (K + 10 * n) (ANL (m.drop k) a).s
 | 0, k, a, K, hn, hs, hK, h => by
  rw [List.drop_eq_nil_of_le (by omega)]
  refine ⟨?_, hs.mono (by omega)⟩
  rw [show m.length = k by omega]; exact h
 | n + 1, k, a, K, hn, hs, hK, h => by
  have hk : k < m.length := by omega
  have hb := hm k hk
  rw [JP hk]
  simp only [ANL]
  have ex : wr (-gD m k) = -gD m k := Gp (by omega) (by omega)
  rw [ex]
  have t1 := hs.next (by omega) 9
  have t2 := t1.next (by omega) 9
  have v1 := Zl hs (by omega) 9
  have v2 := Zl t1 (by omega) 9
  have v1' := v1.2 (by omega)
  have v2' := v2.2 (by omega)
  have elo : wr (-gD m k - KY a.s 9) = -gD m k - KY a.s 9 := Gp (by omega) (by omega)
  have ehi : wr (-gD m k + KY (PO a.s 9) 9) = -gD m k + KY (PO a.s 9) 9 := Gp (by omega) (by omega)
  obtain ⟨n1, n2⟩ := BOX (-gD m k) a
  have hg := h.g
  have ht := h.t
  obtain ⟨a1, a2⟩ := GI.run hm n (k + 1) (Vd (-gD m k) a) (K + 2) (by omega) (by rw [mg_s]; exact t2.mono (by omega)) (by omega) ⟨by omega, by omega, λ j hj => by
   have x1 := mg_g (-gD m k) a (i := j) (by omega)
   have x2 := mg_t (-gD m k) a (i := j) (by omega)
   rw [elo, ehi] at x1
   by_cases hjk : j < k
   ·rw [decide_eq_true (show j < a.g.length by omega)] at x1
    rw [decide_eq_true (show j < a.t.length by omega)] at x2
    simp only [cond_true] at x1 x2
    rw [x1.1, x1.2, x2]; exact h.v j hjk
   ·rw [decide_eq_false (show ¬ j < a.g.length by omega)] at x1
    rw [decide_eq_false (show ¬ j < a.t.length by omega)] at x2
    simp only [cond_false] at x1 x2
    rw [x1.1, x1.2, x2, show j = k by omega]; omega⟩
  exact ⟨a1, a2.mono (by omega)⟩
structure Made (N : NetL) (T : TruthL) (most : Int) : Prop where
 g1 : 1 <= N.g.length
 gm : (N.g.length : Int) <= most
 r11 : N.r.length <= 11
 fl : T.f.length = N.r.length
 tl : T.t.length = N.g.length
 one : N.g.length = 1 -> N.r.length = 0
 r : ∀ i, i < N.r.length -> ((0 <= (gD N.r i).fr /\ (gD N.r i).fr < N.g.length) /\ (0 <= (gD N.r i).to /\ (gD N.r i).to < N.g.length) /\ (gD N.r i).fr ≠ (gD N.r i).to) /\ (-20 <= gD T.f i /\ gD T.f i <= 120) /\ gD T.f i - 8 <= (gD N.r i).sp.lo /\ (gD N.r i).sp.lo <= gD T.f i /\ gD T.f i <= (gD N.r i).sp.hi /\ (gD N.r i).sp.hi <= gD T.f i + 8
 t : ∀ j, j < N.g.length -> (-1680 <= gD T.t j /\ gD T.t j <= 1680) /\ gD T.t j - 8 <= (gD N.g j).lo /\ (gD N.g j).lo <= gD T.t j /\ gD T.t j <= (gD N.g j).hi /\ (gD N.g j).hi <= gD T.t j + 8
 bal : ∀ s, s < N.g.length -> balN N T s = 0
variable {N : NetL} {T : TruthL} {most : Int}
theorem Made.good (h : Made N T most) (hm : most <= 8) : Good N := by
 have := h.gm
 have := h.r11
 refine ⟨h.g1, by omega, by omega, λ j hj => ?_, λ i hi => ?_⟩
 ·have := h.t j hj; omega
 ·obtain ⟨⟨a, b, c⟩, d⟩ := h.r i hi
  exact ⟨by omega, a, b, c⟩
theorem Made.check (h : Made N T most) (hm : most <= 8) : AB N = 0 := ATP (h.good hm)
theorem Made.can (h : Made N T most) (hm : most <= 8) : Can N T := by
 rw [bR (h.check hm)]
 exact ⟨⟨h.fl, h.tl⟩, λ i hi => by have := h.r i hi; omega, λ j hj => by have := h.t j hj; omega, h.bal⟩
theorem Made.set (h : Made N T most) (hm : most <= 8) : EV N = 0 := BGV (h.can hm)
end Go.Bal

namespace Go.Bal
open Go Go.Sym Go.Proofs
def A14 := ann 108 [(49, C49.spec d49), (34, C34.spec fT), (20, C20.spec fT), (24, C24.spec d24), (21, C21.spec fT), (25, C25.spec fT), (35, C35.spec d35), (50, s50), (37, C37.spec d37), (27, C27.spec d27)]
def V14 (n : Nat) : Prop := BN Try.prog A14 Try.f14 (AF Try.f14) [] (AD []) (.bool true) [] [] []
abbrev CF:=dG 140 150
abbrev DC:=DU 3
abbrev DJ:=dG 105 130
abbrev RJ a:=ADO (LC a) a
abbrev JN:=DU 2
abbrev Ud a b c d e f:=J0 a b c d e d f
abbrev sX:=XQ 150
abbrev rP:=XQ 140
abbrev dZ (a:Nat->Int):=UM 3 a
attribute [go_sem] CF DC DJ RJ JN Ud sX rP dZ
theorem vc14 (n : Nat) : (V14 n) = (AP (And (XQ 105) (SH (XQ 130) DC (AG (λ i=>Ud i 3 (Bk DJ i) DJ i i)) JN (λ i=>OR i 2 (Ed DJ i) (Hc DJ i) DJ i (He DJ i) i) BX VS (Not (tW 0 (gP (wH (O9 3 DJ) (xG 2 (λ i=>Fa DJ i)))))) (AG (λ i=>UB i 5 (N9 (tB (ER DJ) i)))))) (AP rP sX DC (EO (λ i=>Ud i 3 (Bk CF i) CF i i) JN (λ i=>OR i 2 (Ed CF i) (Hc CF i) CF i (He CF i) i) BX VS)) (AJ rP sX (XI DC (λ i=>Ud i 3 (Bk CF i) CF i i) JN (λ i=>OR i 2 (Ed CF i) (Hc CF i) CF i (He CF i) i) (XQ 15) DC Jr (AG (λ i=>JV i 3 (dZ (λ j=>JI j 0 (-1) 0)) (JI (AT i) 0 (-1) 0))) (Jz (dZ (λ i=>JI i 0 (-1) 0))))) (BG (LQ rP sX DC (λ i=>Ud i 3 (Bk CF i) CF i i) (Zd JN (AG (λ i=>OR i 2 (Ed CF i) (Hc CF i) CF i (He CF i) i)) BX VS)) (And rP (SH sX DC (AG (λ i=>Ud i 3 (Bk CF i) CF i i)) JN (λ i=>OR i 2 (Ed CF i) (Hc CF i) CF i (He CF i) i) BX VS (MY (gP (wH (O9 3 CF) (xG 2 (λ i=>Fa CF i))))) (AG (λ i=>UB i 2 (BIN (MJ (DT (IF CF) i))))))) (AJ (XQ 105) (XQ 130) (PC DC (λ i=>Ud i 3 (Bk DJ i) DJ i i) JN (λ i=>OR i 2 (Ed DJ i) (Hc DJ i) DJ i (He DJ i) i) (IW JN Ej (AG (λ i=>JV i 2 (UM 2 (λ j=>TG j 0 1)) (PZ i 0 1))) BX VS (Not (tW 0 (gP (wH (O9 3 DJ) (xG 2 (λ i=>Fa DJ i)))))) (QS hd5) (And (KO 2) (Cd 2)) VS))) (AJ (PF (Ck JN (λ i=>Gf i 2 (RJ (Zj (IF DJ))) (Zj (IF DJ)) i) JN (λ i=>QA i 2 (ES (vV 2 (λ j=>AKI (TG j 100 105) (TG j 115 125))) i) (TG i 100 105) (TG i 115 125)) (YX 2) (Oh (LC (vV 2 (λ i=>AKI (TG i 100 105) (TG i 115 125))))))) (PF (Ck DC (λ i=>Gf i 3 (RJ (qL (IF DJ))) (qL (IF DJ)) i) DC (λ i=>QA i 3 (ES (vV 3 (λ j=>AKI (JI j 100 0 (-125)) (JI j 115 10 (-105)))) i) (JI i 100 0 (-125)) (JI i 115 10 (-105))) (YX 3) (Oh (LC (vV 3 (λ i=>AKI (JI i 100 0 (-125)) (JI i 115 10 (-105)))))))) (PF (Ck SK (λ i=>Du i 1 (HQ (KG (IF CF) (HA CF))) (KG (IF CF) (HA CF))) SK (λ i=>JV i 1 (UM 1 (λ j=>1)) 1) (YX 1) (Jz (UM 1 (λ i=>1)))))) VS)) := by kernel_rfl
def f14 : List AVal -> Option (AVal × List Prop)
 | [] => some (.bool true, [])
 | _ => none
def s14 : Sym.Spec := IY f14
theorem p14 : V14 0 := by
 rw [vc14]<;> simp only [go_sem]; simp only [CC, eq_self, implies_true, forall_const]
 decide +kernel
theorem ok14 : AH Try.prog 14 s14 := EH λ xs v p h _ => by
 unfold f14 at h; split at h
 ·cases h; exact Pb (A := A14) (ren := []) (fz := []) Try.func14 (by kernel_rfl) (AA ok49 (AA ok34 (AA ok20 (AA ok24 (AA ok21 (AA ok25 (AA ok35 (AA ok50 (AA ok37 (AA ok27 AE)))))))))) p14
 ·cases h
end Go.Bal

set_option maxRecDepth 100000
namespace Go.Bal
open Go Go.Sym Go.Proofs Go.ChangeShapes Go.WideShapes Go.RowKit
def BBV (w : World) : De := λ b => match w.heap[b]? with
 | some (.cells c _ _) => some c
 | _ => none
theorem BGO (w : World) (ι : Nat -> Pl) : HRel (BBV w) ι (AD []) w := by
 refine ⟨λ i o h => by simp [AD, JG] at h, λ i j o o' h => by simp [AD, JG] at h, λ i o h => by simp [AD, JG] at h, λ b c h => ?_⟩
 unfold BBV at h
 split at h
 ·rename_i c' e fr hc
  cases h
  exact ⟨e, fr, hc⟩
 ·cases h
section
variable {X : Type} {enc : TypeId × Value -> X} {P : Program} {w : World} {base : Nat} {spare : Nat -> Bool} {held : Bool}
end
section
variable {X : Type} {enc : TypeId × Value -> X} {w : World} {base : Nat} {spare : Nat -> Bool} {held : Bool}
end
theorem BDQ {g : FuncId} {xs : List AVal} (hg : FnT Try.prog g xs (AD []) (.bool true) []) {w : World} {vs : Array Value} (hl : vs.size = xs.length)
  (hx : ∀ (j : Nat) (a : AVal) (y : Value), xs[j]? = some a -> vs[j]? = some y -> ∃ d, a = .d d /\ DRel (BBV w) d y) :
  Calls Try.prog g vs w λ e w' => e = .returned (.bool true) /\ Below w.heap.size w w' := by
 refine (hg.2 (BBV w) (λ _ => ⟨0, 0⟩) w vs ⟨hl, λ j a y ha hy => ?_⟩ (BGO w _)).mono λ e w' ⟨v, H', he, _, B', ι', hm, hv⟩ => ?_
 ·obtain ⟨d, rfl, hd⟩ := hx j a y ha hy
  exact .d hd
 ·subst he
  cases hv with
  | d hd =>
   cases hd
   exact ⟨rfl, hm.calm.os, hm.calm.tape, hm.calm.output, hm.size, λ k hk => hm.frame k hk λ i o h => by simp [AD, JG] at h⟩
end Go.Bal

set_option maxRecDepth 100000
namespace Go.Bal
open Go Go.Sym Go.Proofs Go.ChangeShapes Go.WideShapes Go.RowKit
section
variable {X : Type} {enc : TypeId × Value -> X} {w : World} {base : Nat} {spare : Nat -> Bool} {held : Bool}
abbrev Byt := { n : Int // 0 <= n /\ n <= 255 }
instance : Inhabited Byt := ⟨⟨0, by decide, by decide⟩⟩
end
end Go.Bal

namespace Go.Bal
open Go Go.Sym Go.Proofs
def dP (a : List AVal) (H : Heap) : Option (NPL × List (Nat × Nat) × List Nat) := match a with
 | [x, .d (.v (.int _ p)), y] => match dNet x H, AKA y H with
  | some (N, f), some (l, g) => some (⟨N, p, l⟩, [], f ++ g)
  | _, _ => none
 | _ => none
theorem BPT : AH Try.prog 24 (C24.spec dP) := UY C24 A24 [] [] Try.func24 (λ _ => by kernel_rfl) (λ _ => AA R7 (AA AYH (AA ok65 (AA ok66 AE)))) (λ a h => p24 a h) (λ _ => WR rfl rfl) _
variable {N : NetL} {T : TruthL}
theorem BEG (h : Can N T) : II N T = 0 /\ Zm N T = [] /\ P2 N T = true /\ Dc N T = 0 /\ gM N T = 0 := by
 have h1 := h.ask
 have h2 := h.unb
 have h3 := h.cost
 have e : Dc N T = 0 := by unfold Dc; rw [if_pos h1, h2]; rfl
 refine ⟨h1, ?_, ?_, e, ?_⟩
 ·unfold Zm; rw [if_pos h1, h2]
 ·unfold P2; rw [h1, h2, h3]; rfl
 ·unfold gM; rw [if_pos e, h3]
end Go.Bal

namespace Go.Bal
open Go Go.Sym Go.Proofs
def O5 (r : Int) (s : Span) : Int := if r = 1 then s.lo else if r = -1 then wr (-s.hi) else 0
def V84 (x : Int) (s : Span) : Prop := BN Try.prog (ann 14 []) Try.f84 (AF Try.f84) [.int x, .d (OW s)] (AD []) (.int (O5 x s)) [] [] []
abbrev AEG:=O5
attribute [go_sem] AEG
theorem vc84 (x : Int) (s : Span) : (V84 x s) = (IK (Bz x 1) (AS (AEG x s) (Ou s)) (IK (Bz x (-1)) (AS (AEG x s) (ZU (Ok s))) (GP (AEG x s)))) := by kernel_rfl
def f84 : List AVal -> Option (AVal × List Prop)
 | [.d (.v (.int .i64 x)), .d (.agg [.v (.int .i64 a), .v (.int .i64 b)])] => some (.int (O5 x ⟨a, b⟩), [])
 | _ => none
def s84 := IY f84
theorem p84 (x : Int) (s : Span) : V84 x s := by
 rw [vc84]<;> simp only [go_sem]; unfold O5
 by_cases h1 : x = 1 <;> by_cases h2 : x = -1 <;> simp [h1, h2] <;> omega
theorem ok84 : AH Try.prog 84 s84 := EH λ xs v p h _ => by
 unfold f84 at h; split at h
 ·cases h; exact Pb (A := ann 14 []) (ren := []) (fz := []) Try.func84 (by kernel_rfl) AE (p84 _ ⟨_, _⟩)
 ·cases h
def limM (s : Span) (r x : Int) : Span := ⟨if r = -1 then max s.lo x else s.lo, if r = 1 then min s.hi (wr (-x)) else s.hi⟩
def V71 (s : Span) (r x : Int) : Prop := BN Try.prog (ann 23 []) Try.f71 (AF Try.f71) [.d (OW s), .int r, .int x] (AD []) (.d (OW (limM s r x))) [] [] []
abbrev Zb:=limM
attribute [go_sem] Zb
theorem vc71 (s : Span) (r : Int) (x : Int) : (V71 s r x) = (IK (Bz r 1) (IK (Bz r (-1)) (And (MB (Zb s r x) (hd34 (Ou s) x)) (MF (Zb s r x) (Zp (Ok s) (ZU x)))) (And (RY (Zb s r x) s) (MF (Zb s r x) (Zp (Ok s) (ZU x))))) (IK (Bz r (-1)) (And (MB (Zb s r x) (hd34 (Ou s) x)) (WA (Zb s r x) s)) (And (RY (Zb s r x) s) (WA (Zb s r x) s)))) := by kernel_rfl
theorem p71 (s : Span) (r x : Int) : V71 s r x := by
 rw [vc71]<;> simp only [go_sem]; simp only [CC, eq_self, implies_true, forall_const, yS, zE, beq_iff_eq, beq_eq_false_iff_ne]; unfold limM
 by_cases h1 : r = 1 <;> by_cases h2 : r = -1 <;> simp [h1, h2] <;> omega
def f71 : List AVal -> Option (AVal × List Prop)
 | [.d (.agg [.v (.int .i64 a), .v (.int .i64 b)]), .d (.v (.int .i64 r)), .d (.v (.int .i64 x))] => some (.d (OW (limM ⟨a, b⟩ r x)), [])
 | _ => none
def s71 := IY f71
theorem ok71 : AH Try.prog 71 s71 := EH λ xs v p h _ => by
 unfold f71 at h; split at h
 ·cases h; exact Pb (A := ann 23 []) (ren := []) (fz := []) Try.func71 (by kernel_rfl) AE (p71 ⟨_, _⟩ _ _)
 ·cases h
end Go.Bal
