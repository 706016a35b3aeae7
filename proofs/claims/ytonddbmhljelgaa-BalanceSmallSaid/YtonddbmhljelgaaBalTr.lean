/- BalanceTruths. -/
import Derived.Test.YtonddbmhljelgaaBalT20
import Derived.Test.YtonddbmhljelgaaBalZ2
import Derived.Test.YtonddbmhljelgaaBalLvV
import Derived.Test.YtonddbmhljelgaaBalTot
import Derived.Test.YtonddbmhljelgaaSym10
set_option linter.unusedVariables false
set_option linter.unusedSimpArgs false
namespace Go.Bal
open Go Go.Sym Go.Proofs
def A9 := ann 140 [(14, s14), (15, C15.spec fT), (16, C16.spec d16), (17, C17.spec d17), (44, s44), (45, C45.spec fT), (46, C47.spec d78), (47, C47.spec d78), (27, C27.spec d27), (48, C48.spec d48), (40, C48.spec d48), (42, C42.spec d42), (22, C42.spec d42), (28, C28.spec d28)]
def V9 (a : NT) : Prop := BN Try.prog A9 Try.f9 (AF Try.f9) (xsNT a) (AD []) (.bool true) [] [] []
abbrev Zz a:=BHP (AX a) (AX a)
abbrev ZP a:=BHD (AX a) (Zz a)
abbrev fN a b:=wU (ZP a) b
abbrev XG a:=mO (NM a) (OM a)
abbrev aL a b:=zQ (ZP a) b
abbrev AEV a:=BAW (AX a)
abbrev lN a b:=Yg (AEV a) (Zz b)
abbrev dV a b:=oC (Zz a) (AX b)
abbrev eG a b c:=AMM a (AEV b) (AX c)
abbrev bU a b:=Pw (AEV a) (AX b)
abbrev Wq a b:=Zm (ZP a) b
attribute [go_sem] Zz ZP fN XG aL AEV lN dV eG bU Wq
theorem vc9 (a : NT) : (V9 a) = (IK (Jm (Jm (Jm (Ys (BT (BV a)) 10) (BT (HD a)) 17) (BT (QV a)) 20) (PS (UL a)) 20) VS (AP (Ko (Xx a) (AX a) (VE a) (SH (AG (λ i=>VT i a i i a i)) (Ty a) (Vv a) (SE a) (λ i=>FW i (NM a) (Ab a)) (Tu a) (RP a) (XL a) (Ke (kH a)))) (L3 (Xx a) (AX a) (VE a) (λ i=>VT i a i i a i) (Ty a) (Ke (Ub a))) (DW (H9 (OK (AX a))) (λ i=>tX i (Ub a)) (bU a a) (EO (λ i=>eG i a a) (dV a a) (λ i=>Xt i (Zz a) (AX a) i i i) (Cd (AEV a)) (AEU (Zz a)))) (Od (SO (AMY (OK (AX a)) (λ i=>M9 (AX a) i) (Ub a) (λ i=>lE (AX a) i)) (YC (ZP a))) (AP (MH (bU a a) (λ i=>eG i a a) (FN (dV a a) (λ i=>Xt i (Zz a) (AX a) i i i) (DB (NM a)) (DN (NM a)) (DB (OM a)) (DN (OM a)) (lN a a) (Ry (NM a)) (Ry (OM a)))) (MH (bU a a) (λ i=>eG i a a) (FN (dV a a) (λ i=>Xt i (Zz a) (AX a) i i i) (SE a) (UZ a) (RP a) (XL a) (lN a a) (Tu a) (Wu a))) (Vp (not (SO (II (ZP a) (XG a)) (ACB (ZP a) a))) (Wq a (XG a)) (FR (DN (Wq a (XG a))) (DB (Wq a (KA a))) (λ i=>FW i (HQ (Wq a (KA a))) (Wq a (KA a))) (Tc (Wq a (XG a))) (Oh (QX (Wq a (KA a)))))) (Od (Wn (II (ZP a) (XG a)) (ACB (ZP a) a) (bC (Wq a (XG a)) (HQ (Wq a (KA a))))) (AJ (MH (bU a a) (λ i=>eG i a a) (FN (dV a a) (λ i=>Xt i (Zz a) (AX a) i i i) (DB (NM a)) (DN (NM a)) (DB (OM a)) (DN (OM a)) (lN a a) (Ry (NM a)) (Ry (OM a)))) (MH (bU a a) (λ i=>eG i a a) (FN (dV a a) (λ i=>Xt i (Zz a) (AX a) i i i) (SE a) (UZ a) (RP a) (XL a) (lN a a) (Tu a) (Wu a))) (Od (Wn (II (ZP a) (XG a)) (ACB (ZP a) a) (E6 (zV (ZP a) (XG a)) (zV (ZP a) (KA a)))) (AP (MH (bU a a) (λ i=>eG i a a) (FN (dV a a) (λ i=>Xt i (Zz a) (AX a) i i i) (DB (NM a)) (DN (NM a)) (DB (OM a)) (DN (OM a)) (lN a a) (Ry (NM a)) (Ry (OM a)))) (MH (bU a a) (λ i=>eG i a a) (FN (dV a a) (λ i=>Xt i (Zz a) (AX a) i i i) (SE a) (UZ a) (RP a) (XL a) (lN a a) (Tu a) (Wu a))) (AJ (Rf (KT (Bz (aL a (XG a)) (aL a (KA a))) (Bz (fN a (XG a)) (fN a (KA a)))) (bU a a) (λ i=>eG i a a) (XI (dV a a) (λ i=>Xt i (Zz a) (AX a) i i i) (Xx a) (λ i=>OD i (AX a)) (VE a) (AG (λ i=>VT i a i i a i)) (lN a a) (Ty a) (Vv a))) (Vp (Og (aL a (XG a)) (aL a (KA a)) (Bz (fN a (XG a)) (fN a (KA a))) (ZP a) (UK a)) (NM a) (FR (DN (NM a)) (SE a) (λ i=>FW i (NM a) (Ab a)) (Tc (NM a)) (Jz (NM a)))) (Vp (KT (Og (aL a (XG a)) (aL a (KA a)) (Bz (fN a (XG a)) (fN a (KA a))) (ZP a) (UK a)) (H3 (NM a))) (OM a) (FR (DN (OM a)) (RP a) (λ i=>FW i (OM a) (UL a)) (Tc (OM a)) (Jz (OM a))))) (Qy Hi (Mo (Og (aL a (XG a)) (aL a (KA a)) (Bz (fN a (XG a)) (fN a (KA a))) (ZP a) (UK a)) (H3 (NM a)) (H3 (OM a))) Hi))))))))) := by kernel_rfl
theorem p9 (a : NT) : V9 a := by
 rw [vc9]<;> simp only [go_sem]; simp only [CC, eq_self, implies_true, forall_const, DL.d1, DL.d2, DL.d7, DL.d8, XW]
 intro hb
 have hs : a.N.g.length <= 10 /\ a.N.r.length <= 17 /\ a.T.f.length <= 20 /\ a.T.t.length <= 20 := by
  by_cases x : (a.N.g.length : Int) > 10
  ·simp [x] at hb
  ·by_cases y : (a.N.r.length : Int) > 17
   ·simp [x, y] at hb
   ·by_cases z : (a.T.f.length : Int) > 20
    ·simp [x, y, z] at hb
    ·by_cases w : (a.T.t.length : Int) > 20
     ·simp [x, y, z, w] at hb
     ·omega
 clear hb
 obtain ⟨s1, s2, s3, s4⟩ := hs
 have b1 : a.N.g.length <= 1000000 := by omega
 have b2 : a.N.r.length <= 1000000 := by omega
 have b3 : a.T.f.length <= 1000000 := by omega
 have b4 : a.T.t.length <= 1000000 := by omega
 have b5 : (Zm a.N a.T).length < 4611686018427387904 := by
  have := wE a.N a.T a.N.g.length
  unfold Zm Li
  split
  ·omega
  ·simp
 have b6 : a.T.f.length < 4611686018427387904 := by omega
 have b7 : a.T.t.length < 4611686018427387904 := by omega
 simp [b1, b2, b3, b4, b5, b6, b7]
theorem c9 (a : NT) : FnT Try.prog 9 (xsNT a) (AD []) (.bool true) [] :=
 Pb (A := A9) (ren := []) (fz := []) Try.func9 (by kernel_rfl) (AA ok14 (AA ok15 (AA ok16 (AA ok17 (AA R7 (AA ok45 (AA ok46 (AA ok47 (AA ok27 (AA ok48 (AA ok40 (AA ok42 (AA ok22 (AA ok28 AE)))))))))))))) (p9 a)
end Go.Bal

namespace Go.Bal
open Go Go.Sym Go.Proofs
def C9b : Ctr := { α := NT, xs := xsNT, val := λ _ => .bool true }
def C3b : Ctr := { α := NPL, xs := xs24, val := λ _ => .bool true }
def C7b : Ctr := { α := NRG, xs := xs7, val := λ _ => .bool true }
def d7b : List AVal -> Heap -> Option (NRG × List (Nat × Nat) × List Nat)
 | [x, .d (.v (.int _ r)), .d (.v (.int _ q)), y], H => match dNet x H, AKA y H with
  | some (N, f), some (l, g) => some (⟨N, r, q, l⟩, [], f ++ g)
  | _, _ => none
 | _, _ => none
def C49o : Ctr := { α := Span, xs := λ s => [.int s.lo, .int s.hi], L := λ _ => [], val := λ s => .agg [.own 0 2 0 3, .own 1 4 0 2], keep := λ s => [(0, AAJ 3 (dG s.lo s.hi).g), (1, rowR (dG s.lo s.hi).r)] }
def V49o (s : Span) : Prop := BN Try.prog A49 Try.f49 (AF Try.f49) (C49o.xs s) (AD []) (C49o.val s) (C49o.keep s) [(0, 2048), (1, 2160)] []
theorem BPE (s : Span) : (V49o s) = (Fl AC DC (Be JN DC (λ i=>QA i 3 (CU (Aw s) i) (JI i 100 0 (-200)) (JI i 120 10 (-100))) (cB (AM (Aw s))) (λ i=>OX i (AM (Aw s)) (AS (EJ (Aw s) i) (TG i 0 1)) (EC (Aw s) i) (TG i 1 2) (CY (Aw s) i) (TG i 90 (Ou s)) (TG i 115 (Ok s))))) := by kernel_rfl
theorem ok9b : AH Try.prog 9 (C9b.spec dNT) := okT C9b (λ (a : NT) _ => c9 a) dNT
theorem ok3b : AH Try.prog 3 (C3b.spec dP) := okT C3b (λ (a : NPL) _ => c3 a) dP
theorem ok7b : AH Try.prog 7 (C7b.spec d7b) := okT C7b (λ (a : NRG) _ => c7 a) d7b
theorem p49o (s : Span) : V49o s := by
 rw [BPE]<;> simp only [go_sem]; simp only [CC, eq_self, implies_true, forall_const]
 refine ⟨λ j hj => ?_, rfl, λ j hj => ?_⟩
 ·match j, hj with
  | 0, _ => exact ⟨rfl, rfl⟩
  | 1, _ => exact ⟨rfl, rfl⟩
  | 2, _ => exact ⟨rfl, rfl⟩
 ·have hj : j < 2 := hj
  match j, hj with
  | 0, _ => exact ⟨rfl, rfl, rfl, rfl⟩
  | 1, _ => exact ⟨rfl, rfl, rfl, rfl⟩
theorem BQE : AH Try.prog 49 (C49o.spec d49) := UY C49o (λ _ => A49) [(0, 2048), (1, 2160)] [] Try.func49 (λ _ => by kernel_rfl) (λ _ => AA ok50 AE) (λ s _ => p49o s) (λ _ => WR rfl rfl) _
end Go.Bal

namespace Go.Bal
open Go Go.Sym Go.Proofs
def Ug : List Int := [-100000001, -100000000, -1000001, -1000000, -201, -126, -125, -105, -2, -1, 0, 1, 2, 3, 10, 15, 16, 99, 100, 105, 115, 116, 125, 126, 140, 1000000, 1000001, 100000000, 100000001, 9223372036854775807, -9223372036854775808]
def smG (i : Nat) : List Span := (List.range i).map λ (j : Nat) => ⟨wr (-10 * (j : Int)), 1000000⟩
def smK (i : Nat) : Nat := min (i - 1) 8
def smRs (k : Nat) : List Reach := (List.range k).map λ (j : Nat) => ⟨(j : Int) + 1, j, ⟨-((j : Int) + 1), 1000000⟩⟩
def smT : List Span := (dG 105 130).g
def smW (i : Nat) : List Reach := (List.range i).map λ (j : Nat) => if j = 0 then ⟨0, 1, ⟨90, 115⟩⟩ else if j = 1 then ⟨1, 2, ⟨105, 130⟩⟩ else ⟨(j : Int).tmod 3, (wr ((j : Int) + 1)).tmod 3, ⟨wr (-(j : Int)), j⟩⟩
def oM (n : Nat) : NetL := ⟨smG (min n 10), smRs (smK (min n 10))⟩
def AWQ (n : Nat) : NetL := ⟨smT, smW (max n 2)⟩
def s49 : Sym.Spec := λ xs H r => bif Nat.beq r 8000 || (Nat.beq r 10000 || Nat.beq r 37016) then C49o.spec d49 xs H r else C49.spec d49 xs H r
theorem BDN : ∀ n, n < 18 -> (AB (oM n) == 0) = (decide (0 < n) && decide (n < 9)) := by decide +kernel
theorem BDM : ∀ n, n < 18 -> (AB (AWQ n) == 0) = decide (n < 15) := by decide +kernel
theorem ACQ {i : Nat} (h : 1 <= i) (h2 : i < 9) : smK (i + 1) = smK i + 1 := by unfold smK; omega
theorem W5 {i : Nat} (h : 9 <= i) : smK (i + 1) = smK i := by unfold smK; omega
theorem AYE {n j : Nat} (h : j < n) : gD (smG n) j = ⟨wr (-10 * (j : Int)), 1000000⟩ := DY (λ (j : Nat) => (⟨wr (-10 * (j : Int)), 1000000⟩ : Span)) h
theorem Ee (k : Nat) : (smRs k).length = k := by simp [smRs]
theorem APJ {n j : Nat} (h : j < n) : gD (smRs n) j = ⟨(j : Int) + 1, j, ⟨-((j : Int) + 1), 1000000⟩⟩ := DY (λ (j : Nat) => (⟨(j : Int) + 1, j, ⟨-((j : Int) + 1), 1000000⟩⟩ : Reach)) h
theorem S6 (k : Nat) : (smW k).length = k := by simp [smW]
theorem BBK {n j : Nat} (h : j < n) : gD (smW n) j = if j = 0 then ⟨0, 1, ⟨90, 115⟩⟩ else if j = 1 then ⟨1, 2, ⟨105, 130⟩⟩ else ⟨(j : Int).tmod 3, (wr ((j : Int) + 1)).tmod 3, ⟨wr (-(j : Int)), j⟩⟩ := DY (λ (j : Nat) => if j = 0 then (⟨0, 1, ⟨90, 115⟩⟩ : Reach) else if j = 1 then ⟨1, 2, ⟨105, 130⟩⟩ else ⟨(j : Int).tmod 3, (wr ((j : Int) + 1)).tmod 3, ⟨wr (-(j : Int)), j⟩⟩) h
theorem BPU : AH Try.prog 49 s49 := λ xs H r x hx hp => by
 unfold s49 at hx
 cases hb : Nat.beq r 8000 || (Nat.beq r 10000 || Nat.beq r 37016) with
 | true => rw [hb] at hx; exact BQE xs H r x hx hp
 | false => rw [hb] at hx; exact ok49 xs H r x hx hp
end Go.Bal

namespace Go.Bal
open Go Go.Sym Go.Proofs
def AIH : HCell := .live (.row 1 31 λ i => FT (gD Ug i))
structure SmR where
 N : NetL
 T : TruthL
 c : Int
 lv : List Int
 r : Int
 f : Int
 st : List Int
 i : Nat
 n : Nat
 deriving Inhabited
structure SmX where
 n : Nat
 g : List Span
 r : List Reach
 deriving Inhabited
structure SmY where
 n : Nat
 N : NetL
 fl : List Int
 deriving Inhabited
structure SmZ where
 n : Nat
 i : Nat
 deriving Inhabited
def smB (x : Int) : HCell := .live (.box [.int x])
structure SmI where
 i : Nat
 n : Nat
 deriving Inhabited
structure SmM where
 i : Nat
 n : Nat
 N : NetL
 deriving Inhabited
def smI3 (i n : Nat) : List (Nat × AVal) := [(2, .int (gD Ug i)), (3, .int n), (25, .own 300 1 0 31), (26, .int 31), (27, .int i)]
def AVS (k m : Nat) (g : Nat -> DVal) : HCell := .live (.row k m g)
def BCC (m : Nat) (l : List Int) : HCell := AVS 1 m λ j => FT (gD l j)
def BMW (N : NetL) : List (Nat × HCell) := [(401, .live (.box [.own 407 2 0 3, .own 408 4 0 2])), (407, AVS 2 3 λ j => OW (gD N.g j)), (408, AVS 4 2 λ j => Ms (gD N.r j))]
def sm2 : Shape := { α := Nat, dflt := 0, T := λ i => ⟨[(25, .own 300 1 0 31), (26, .int 31), (27, .int i)], [(300, AIH)]⟩, inv := λ i => i <= 31, meas := λ i => 31 - i, first := [(300, 2000)] }
def sm5 (m : Nat) : Shape := { α := SmI, dflt := default, T := λ s => ⟨smI3 s.i s.n, [(300, AIH)]⟩, inv := λ s => s.i < 31 /\ 31 - s.i = m /\ s.n <= 24, meas := λ s => 24 - s.n }
def sm20 (m : Nat) : Shape := { α := Nat, dflt := 0, T := λ i => ⟨[(25, .own 300 1 0 31), (26, .int 31), (27, .int i)], [(300, AIH)]⟩, inv := λ i => i < 31 /\ 31 - i = m, meas := λ _ => 0 }
def sm10 (q m : Nat) (f : List (Nat × Nat)) : Shape := { α := SmM, dflt := default, T := λ s => ⟨(4, .bptr 401 0) :: smI3 s.i s.n, (300, AIH) :: BMW s.N⟩, inv := λ s => s.i < 31 /\ 31 - s.i = m /\ s.n < 24 /\ 24 - s.n = q, meas := λ _ => 0, first := f }
def smPt : List AVal := [.rptr 407 2 0 0, .rptr 407 2 0 1, .rptr 407 2 1 0, .rptr 407 2 2 1, .rptr 408 4 0 0, .rptr 408 4 0 1, .rptr 408 4 1 0, .rptr 408 4 1 1, .rptr 408 4 0 2, .rptr 408 4 0 3, .rptr 408 4 1 2, .rptr 408 4 1 3, .rptr 412 1 0 0, .rptr 412 1 1 0, .rptr 413 1 1 0, .rptr 413 1 2 0, .bptr 403 0, .rptr 409 1 0 0, .rptr 409 1 1 0, .rptr 409 1 2 0, .bptr 404 0, .bptr 405 0, .rptr 410 1 0 0, .rptr 410 1 1 0]
def BLV (s : SmM) : ST := ⟨[(4, .bptr 401 0), (5, .bptr 402 0), (6, .bptr 403 0), (7, .own 409 1 0 3), (8, .bptr 404 0), (9, .bptr 405 0), (10, .own 410 1 0 2), (11, .own 411 1 0 24)] ++ smI3 s.i s.n, (300, AIH) :: BMW s.N ++ [(402, .live (.box [.own 412 1 0 2, .own 413 1 0 3])), (403, smB 15), (404, smB 1), (405, smB 110), (409, BCC 3 [0, -1, 0]), (410, BCC 2 [0, 1]), (411, .live (.box smPt)), (412, BCC 2 [110, 118]), (413, BCC 3 [110, 8, -118])]⟩
def sm12 (q m : Nat) : Shape := { α := SmM, dflt := default, T := BLV, inv := λ s => s.i < 31 /\ 31 - s.i = m /\ s.n < 24 /\ 24 - s.n = q, meas := λ _ => 0, first := [(402, 11080), (403, 11096), (404, 11112), (405, 11128), (409, 11048), (410, 11064), (411, 13184), (412, 11000), (413, 11016)] }
def sm13 (q m : Nat) : Shape := { α := SmR, dflt := default, T := λ s => ⟨[(4, .bptr 401 0), (5, .bptr 402 0), (6, .bptr 403 0), (7, .d (BC s.lv)), (8, .bptr 404 0), (9, .bptr 405 0), (10, .d (BC s.st))] ++ smI3 s.i s.n, [(300, AIH), (401, LF s.N), (402, truO s.T), (403, smB s.c), (404, smB s.r), (405, smB s.f)]⟩, inv := λ s => s.i < 31 /\ 31 - s.i = m /\ s.n < 24 /\ 24 - s.n = q, meas := λ _ => 0, ffz := [407, 408, 409, 410, 412, 413] }
def sm22 : Shape := { α := Nat, dflt := 0, T := λ n => ⟨[(13, .int n)], []⟩, inv := λ n => n <= 3000, meas := λ n => 3000 - n }
def BRP (m : Nat) : Shape := { α := SmX, dflt := default, T := λ x => ⟨[(13, .int x.n), (14, .bptr 411 0), (15, .int 0)], [(411, .live (.box [.d (PJ x.g), .d Gg]))]⟩, inv := λ x => x.n < 3000 /\ 3000 - x.n = m /\ x.g.length = 3, meas := λ x => 4, first := [(411, 25576)], ffz := [25544], tag := [0] }
def BPO (m : Nat) : Shape := { α := SmX, dflt := default, T := λ x => ⟨[(13, .int x.n), (14, .bptr 411 0), (15, .int x.r.length)], [(411, .live (.box [.d (PJ x.g), .own 413 4 0 x.r.length])), (413, rowR x.r)]⟩, inv := λ x => x.n < 3000 /\ 3000 - x.n = m /\ x.g.length = 3 /\ x.r.length <= 3, meas := λ x => 3 - x.r.length, again := [(413, 30416)], tag := [1] }
def sm31 (m : Nat) (z : List Nat) : Shape := { α := SmY, dflt := default, T := λ x => ⟨[(13, .int x.n), (14, .bptr 411 0), (17, .d (BC x.fl))], [(411, LF x.N)]⟩, inv := λ x => x.n < 3000 /\ 3000 - x.n = m, meas := λ _ => 0, ffz := z }
def sm34 : Shape := { α := Nat, dflt := 0, T := λ n => ⟨[(18, .int n)], []⟩, inv := λ n => n <= 18, meas := λ n => 18 - n }
def smSl (n i : Nat) : List (Nat × AVal) := [(18, .int n), (19, .bptr 421 0), (20, .bptr 422 0), (21, .int i)]
def smWd (i : Nat) : List (Nat × HCell) := [(422, .live (.box [.d (PJ smT), .own 426 4 0 (smW i).length])), (426, rowR (smW i))]
def BQD (m : Nat) : Shape := { α := Nat, dflt := 0, T := λ n => ⟨smSl n 0, [(421, .live (.box [.d Gg, .d Gg]))] ++ smWd 2⟩, inv := λ n => n < 18 /\ 18 - n = m, meas := λ _ => 20, first := [(421, 37032), (422, 37048), (426, 37017)], ffz := [37016], tag := [0] }
def BQJ (m : Nat) : Shape := { α := Nat, dflt := 0, T := λ n => ⟨smSl n 1, [(421, .live (.box [.own 423 2 0 1, .d Gg])), (423, AAJ 1 (smG 1))] ++ smWd 2⟩, inv := λ n => n < 18 /\ 18 - n = m /\ 1 <= n, meas := λ _ => 19, again := [(423, 41096)], tag := [1] }
def BML (x : SmZ) (j k : Nat) : ST := ⟨smSl x.n x.i, [(421, .live (.box [.own 423 2 0 j, .own 424 4 0 (smRs k).length])), (423, AAJ j (smG j)), (424, rowR (smRs k))] ++ smWd 2⟩
def BPB (m : Nat) : Shape := { α := SmZ, dflt := default, T := λ x => BML x x.i (smK x.i), inv := λ x => x.n < 18 /\ 18 - x.n = m /\ 2 <= x.i /\ x.i <= min x.n 10, meas := λ x => 18 - x.i, tag := [2] }
def sm39 (q m : Nat) (f : List (Nat × Nat)) : Shape := { α := SmZ, dflt := default, T := λ x => BML x (x.i + 1) (smK (x.i + 1)), inv := λ x => x.n < 18 /\ 18 - x.n = m /\ 1 <= x.i /\ x.i < min x.n 10 /\ 18 - x.i <= q, meas := λ _ => 0, first := f }
def sm43 (m : Nat) (z : List Nat) : Shape := { α := Nat, dflt := 0, T := λ n => ⟨[(18, .int n), (19, .bptr 421 0), (20, .bptr 422 0)], [(421, LF (oM n))] ++ smWd 2⟩, inv := λ n => n < 18 /\ 18 - n = m, meas := λ _ => 0, ffz := z }
def BQZ (m : Nat) : Shape := { α := Nat, dflt := 0, T := λ n => ⟨[(18, .int n), (19, .bptr 421 0), (20, .bptr 422 0), (22, .int 2)], [(421, LF (oM n))] ++ smWd 2⟩, inv := λ n => n < 18 /\ 18 - n = m, meas := λ _ => 0 }
def sm44 (m : Nat) : Shape := { α := SmZ, dflt := default, T := λ x => ⟨[(18, .int x.n), (19, .bptr 421 0), (20, .bptr 422 0), (22, .int x.i)], [(421, LF (oM x.n))] ++ smWd x.i⟩, inv := λ x => x.n < 18 /\ 18 - x.n = m /\ 2 <= x.i /\ x.i <= max x.n 2, meas := λ x => 18 - x.i, again := [(426, 47208)] }
def sm48 (m : Nat) : Shape := { α := SmY, dflt := default, T := λ x => ⟨[(18, .int x.n), (19, .bptr 421 0), (20, .bptr 422 0), (23, .d (BC x.fl))], [(421, LF (oM x.n)), (422, LF (AWQ x.n))]⟩, inv := λ x => x.n < 18 /\ 18 - x.n = m, meas := λ _ => 0, ffz := [426, 48032] }
def sm53 : Shape := { α := NetL, dflt := default, T := λ N => ⟨[(24, .bptr 431 0)], [(431, LF N)]⟩, inv := λ _ => True, meas := λ _ => 0, first := [(431, 53112)], ffz := [53032, 53080] }
def smE : Shape := { α := One, dflt := default, T := λ _ => ⟨[], []⟩, inv := λ _ => True, meas := λ _ => 0 }
def A12 : Ann := { ann 500 [(49, s49), (50, s50), (9, C9b.spec dNT), (3, C3b.spec dP), (7, C7b.spec d7b), (44, s44), (14, s14)] with mt := λ id => id == 29 || (id == 40 || (id == 42 || id == 46)), loops := λ id => if id = 2 then some [sm2] else if id = 22 then some [sm22] else if id = 34 then some [sm34] else none, inner := λ gs id => if id = 5 then some [sm5 (gs.getD 0 0)] else if id = 26 then some [BRP (gs.getD 0 0), BPO (gs.getD 0 0)] else if id = 38 then some [BQD (gs.getD 0 0), BQJ (gs.getD 0 0), BPB (gs.getD 0 0)] else if id = 44 then some [sm44 (gs.getD 0 0)] else none, cutIn := λ gs id => if id = 10 then some [sm10 (gs.getD 0 0) (gs.getD 1 0) [(401, 8016), (407, 8000), (408, 8001)], sm10 (gs.getD 0 0) (gs.getD 1 0) [(401, 8016), (407, 10000), (408, 10001)]] else if id = 12 then some [sm12 (gs.getD 0 0) (gs.getD 1 0)] else if id = 13 then some [sm13 (gs.getD 0 0) (gs.getD 1 0)] else if id = 31 then some [sm31 (gs.getD 0 0) [413, 31128], sm31 (gs.getD 0 0) [31128]] else if id = 39 then if gs.getD 1 0 = 1 ∨ gs.getD 1 0 = 2 then some [sm39 (gs.getD 0 0) (gs.getD 2 0) [(423, 41096), (424, 43160)], sm39 (gs.getD 0 0) (gs.getD 2 0) [(423, 41096)]] else none else if id = 43 then some [sm43 (gs.getD 0 0) [423, 424], sm43 (gs.getD 0 0) [423], sm43 (gs.getD 0 0) []] else if id = 44 then some [BQZ (gs.getD 0 0)] else if id = 48 then some [sm48 (gs.getD 0 0)] else if id = 53 then some [sm53] else if id = 20 then some [sm20 (gs.getD 0 0)] else if id = 21 ∨ (id = 33 ∨ id = 52) then some [smE] else none }
def pS : Nat -> Bool := λ k => Nat.beq k 12 || (Nat.beq k 13 || (Nat.beq k 21 || (Nat.beq k 31 || (Nat.beq k 33 || (Nat.beq k 39 || (Nat.beq k 43 || Nat.beq k 52))))))
abbrev Q3 : Exit -> AState -> Prop := endQ Try.prog A12 Try.f12 (.bool true) [] [] []
def L12 (k : Nat) : Prop := FA Try.prog A12 pS k (stdF Try.prog A12 pS) (AF Try.f12) [] Q3
def M4 (n : Nat) : Leaf := λ _ y gs Q => ∀ (i : Nat) (N : NetL), i < 31 -> 31 - i = gs.getD 1 0 -> n < 24 -> 24 - n = gs.getD 0 0 -> vcS Try.prog A12 pS y gs Q (BLV ⟨i, n, N⟩).st
def V12 (w : One) : Prop := AXZ Try.prog A12 pS Try.f12 (AF Try.f12) [] (AD []) (.bool true) [] [] []
end Go.Bal
