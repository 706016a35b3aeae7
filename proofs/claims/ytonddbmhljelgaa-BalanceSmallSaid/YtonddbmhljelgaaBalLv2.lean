/- The reference: what levels prove; Proves. -/
import Derived.Test.YtonddbmhljelgaaBalLv
set_option linter.unusedVariables false
set_option linter.unusedSimpArgs false
namespace Go.Bal
open Go Go.Sym Go.Proofs
structure PvA where
 N : NetL
 lv : List Int
 grp : List Bool
 gate : Int
 skip : Int
def pvRi (a : PvA) (i : Nat) : Int := wr (gD a.lv (gD a.N.r i).to.toNat - gD a.lv (gD a.N.r i).fr.toNat)
def pvGi (a : PvA) (i : Nat) : Int := wr (gD a.lv i - (bif gD a.grp i then a.gate else 0))
def pvR (a : PvA) : Nat -> Int
 | 0 => 0
 | i + 1 => bif (i : Int) != a.skip then wr (pvR a i + O5 (pvRi a i) (gD a.N.r i).sp) else pvR a i
def Pr (a : PvA) : Nat -> Int
 | 0 => pvR a a.N.r.length
 | i + 1 => bif (i : Int) != wr (a.skip - 100) then wr (Pr a i + O5 (pvGi a i) (gD a.N.g i)) else Pr a i
def pvSl (a : PvA) : List (Nat × AVal) := [(1, .d (BC a.lv)), (2, .d (XU a.grp)), (3, .int a.gate), (4, .int a.skip), (5, .bptr 203 0)]
def A54 (a : PvA) : Ann := { ann 84 [(84, s84)] with loops := λ id => if id = 3 then some [{ α := Nat, dflt := 0, T := λ i => ⟨pvSl a ++ [(11, .int (pvR a i)), (12, .int i)], [(203, LF a.N)]⟩, inv := λ i => i <= a.N.r.length, meas := λ i => a.N.r.length - i, first := [(203, 1000)] }] else if id = 8 then some [{ α := Nat, dflt := 0, T := λ i => ⟨pvSl a ++ [(11, .int (Pr a i)), (13, .int i)], [(203, LF a.N)]⟩, inv := λ i => i <= a.N.g.length, meas := λ i => a.N.g.length - i }] else none }
def C54 : Ctr := { α := PvA, xs := λ a => [.d (LW a.N), .d (BC a.lv), .d (XU a.grp), .int a.gate, .int a.skip], L := λ _ => [], val := λ a => .int (Pr a a.N.g.length), keep := λ _ => [], pre := λ a => [AB a.N = 0, a.lv.length = a.N.g.length, a.grp.length = a.N.g.length] }
def V54 (a : PvA) : Prop := BN Try.prog (A54 a) Try.f54 (AF Try.f54) (C54.xs a) (AD []) (C54.val a) (C54.keep a) [] []
abbrev qZ:=PvA.lv
abbrev AQJ:=PvA.skip
abbrev Da:=PvA.N
abbrev tS a:=AY (Da a)
abbrev AMN a:=Ls (PvA.grp a)
abbrev fI a b c:=G3 (qZ a) (DU (AMN b)) c
abbrev cL a:=DX (Da a)
abbrev bW a:=CA (Da a)
abbrev cM a:=CE (Da a)
abbrev eL a:=BA (Da a)
abbrev cX a:=AR (AQJ a)
abbrev dC a:=AR (PvA.gate a)
abbrev cI a b c:=kX a (AMN b) (PvA.grp c)
abbrev tO a:=AM (Da a)
attribute [go_sem] qZ AQJ Da tS AMN fI cL bW cM eL cX dC cI tO
theorem vc54 (a : PvA) : (V54 a) = (PV (λ i=>And (fI a a (MW (λ j=>cI j a a) (dC a) (cX a) (GP (pvR a i)) (AZ i) (eL a) (cM a) (bW a) (cL a))) (TB i (tO a))) (λ i=>CG (TB i (tO a)) i (tO a) (YT (SO (BT i) (AQJ a)) (Ax i (tO a) (BG (Nt (EC (Da a) i) (qZ a)) (GF i (tO a)) (Nt (EJ (Da a) i) (qZ a)) (Ft i) (Tg i (tO a)))) (λ j=>Nf (fI a a (MW (λ k=>cI k a a) (dC a) (cX a) (RI (pvR a j) (pvR a i) (AEG (Fu (Lh (qZ a) (EC (Da a) i)) (qZ a) (EJ (Da a) i)) (CY (Da a) i))) (AU j i) (eL a) (cM a) (bW a) (cL a))) j (Da a) i) (λ j=>Nf (fI a a (MW (λ k=>cI k a a) (dC a) (cX a) (AS (pvR a j) (pvR a i)) (AU j i) (eL a) (cM a) (bW a) (cL a))) j (Da a) i)) (PV (λ j=>And (fI a a (MW (λ k=>cI k a a) (dC a) (cX a) (AS (Pr a j) (pvR a i)) (AZ j) (eL a) (cM a) (bW a) (cL a))) (Vj j (Da a))) (λ j=>GM (Vj j (Da a)) j (tS a) (GF j (AMN a)) (Ti (PvA.grp a) j) (YT (SO (BT j) (ME (AQJ a) 100)) (Sj j (EA (qZ a)) (tW (BT j) (JC (Da a)))) (λ k=>UW (fI a a (MW (λ l=>cI l a a) (dC a) (cX a) (RI (Pr a k) (Pr a j) (AEG (ME (Ca (qZ a) j) (PvA.gate a)) (CU (Da a) j))) (AU k j) (eL a) (cM a) (bW a) (cL a))) k (tS a) j) (λ k=>UW (fI a a (MW (λ l=>cI l a a) (dC a) (cX a) (AS (Pr a k) (Pr a j)) (AU k j) (eL a) (cM a) (bW a) (cL a))) k (tS a) j)) (YT (SO (BT j) (ME (AQJ a) 100)) (Sj j (EA (qZ a)) (tW (BT j) (JC (Da a)))) (λ k=>UW (fI a a (MW (λ l=>cI l a a) (dC a) (cX a) (RI (Pr a k) (Pr a j) (AEG (ME (Ca (qZ a) j) 0) (CU (Da a) j))) (AU k j) (eL a) (cM a) (bW a) (cL a))) k (tS a) j) (λ k=>UW (fI a a (MW (λ l=>cI l a a) (dC a) (cX a) (AS (Pr a k) (Pr a j)) (AU k j) (eL a) (cM a) (bW a) (cL a))) k (tS a) j)) (AS (Pr a (tS a)) (Pr a j)))))) := by kernel_rfl
def d54 : List AVal -> Heap -> Option (PvA × List (Nat × Nat) × List Nat)
 | [x, l, g, .d (.v (.int _ q)), .d (.v (.int _ s))], H => match dNet x H, AKA l H, BIA g H with
  | some (N, f1), some (lv, f2), some (grp, f3) => some (⟨N, lv, grp, q, s⟩, [], f1 ++ (f2 ++ f3))
  | _, _, _ => none
 | _, _ => none
theorem p54 (a : PvA) (h1 : AB a.N = 0) (h2 : a.lv.length = a.N.g.length) (h3 : a.grp.length = a.N.g.length) : V54 a := by
 have hg := BB h1
 have hg8 := hg.g8
 have hr14 := hg.r14
 rw [vc54]<;> simp only [go_sem]; simp only [CC, eq_self, implies_true, forall_const]
 refine ⟨⟨0, ⟨rfl, rfl⟩, Nat.zero_le _⟩, λ i hi => ⟨λ hlt => ?_, λ hge => ⟨⟨0, ⟨?_, rfl⟩, Nat.zero_le _⟩, λ j hj => ⟨λ hlt => ⟨⟨by omega, by omega⟩, λ hb => ⟨λ hs => ⟨⟨⟨by omega, by omega⟩, by omega, by omega⟩, ⟨j + 1, ⟨?_, (AL (by omega)).symm⟩, by omega, by omega⟩⟩, λ hs => ⟨j + 1, ⟨?_, (AL (by omega)).symm⟩, by omega, by omega⟩⟩, λ hb => ⟨λ hs => ⟨⟨⟨by omega, by omega⟩, by omega, by omega⟩, ⟨j + 1, ⟨?_, (AL (by omega)).symm⟩, by omega, by omega⟩⟩, λ hs => ⟨j + 1, ⟨?_, (AL (by omega)).symm⟩, by omega, by omega⟩⟩⟩, λ hge => ?_⟩⟩⟩⟩
 ·obtain ⟨_, b1, b2, _⟩ := hg.r i (by omega)
  refine ⟨λ hs => ⟨⟨⟨by omega, by omega⟩, ⟨by omega, by omega⟩, ⟨by omega, by omega⟩, ⟨by omega, by omega⟩, by omega, by omega⟩, ⟨i + 1, ⟨?_, (AL (by omega)).symm⟩, by omega, by omega⟩⟩, λ hs => ⟨i + 1, ⟨?_, (AL (by omega)).symm⟩, by omega, by omega⟩⟩
  ·simp only [pvR, hs, cond_true]; rfl
  ·simp only [pvR, hs, cond_false]
 ·have : i = a.N.r.length := by omega
  rw [this]; rfl
 ·simp only [Pr, hs, cond_true, pvGi, hb]
 ·simp only [Pr, hs, cond_false]
 ·simp only [Pr, hs, cond_true, pvGi, hb, cond_false]
 ·simp only [Pr, hs, cond_false]
 ·have : j = a.N.g.length := by omega
  rw [this]
theorem ok54 : AH Try.prog 54 (C54.spec d54) := UY C54 A54 [] [] Try.func54 (λ _ => by kernel_rfl) (λ _ => AA ok84 AE) (λ a h => p54 a h.1 h.2.1 h.2.2) (λ _ => WR rfl rfl) _
def A23 (a : NPL) : Ann := { ann 69 [(45, C45.spec fT), (60, s60), (54, C54.spec d54)] with loops := λ id => if id = 7 then some [{ α := Nat, dflt := 0, T := λ i => ⟨[(1, .int a.price), (2, .d (BC a.lv)), (3, .bptr 203 0), (9, .int i)], [(203, LF a.N)]⟩, inv := λ i => i <= a.lv.length /\ AB a.N = 0 /\ a.lv.length = a.N.g.length /\ ∀ j, j < i -> inM (gD a.lv j) (-1) 1 = true, meas := λ i => a.lv.length - i, first := [(203, 1000)] }] else if id = 12 then some [{ α := Nat, dflt := 0, T := λ i => ⟨[(1, .int a.price), (2, .d (BC a.lv)), (3, .bptr 203 0), (10, .int i)], [(203, LF a.N)]⟩, inv := λ i => i <= a.N.r.length /\ AB a.N = 0 /\ a.lv.length = a.N.g.length /\ (∀ j, j < a.lv.length -> inM (gD a.lv j) (-1) 1 = true) /\ ∀ j, j < i -> Qv a.lv (gD a.N.r j) = true, meas := λ i => a.N.r.length - i }] else none }
def EL (N : NetL) : List Bool := List.replicate N.g.length false
def C23 : Ctr := { α := NPL, xs := xs24, L := λ _ => [], val := λ a => .tup [.bool (decide (TE a = 0) && decide (a.price <= Pr ⟨a.N, a.lv, EL a.N, 0, -1⟩ a.N.g.length)), .int (TE a)], keep := λ _ => [], pre := λ a => [a.lv.length < 4611686018427387904, a.N.g.length <= 1000000 /\ a.N.r.length <= 1000000] }
def V23 (a : NPL) : Prop := BN Try.prog (A23 a) Try.f23 (AF Try.f23) (C23.xs a) (AD []) (C23.val a) (C23.keep a) [] []
abbrev gN:=EL
abbrev qM:=@NO Bool
abbrev I6 a b c d e f:=Pr (PvA.mk a b c d e) f
abbrev Rj a b c d e:=I6 a b c 0 d e
abbrev ANR a b c d e:=Rj (IF a) b c d (OK e)
abbrev AOW a b:=Pw a (AN b)
abbrev VL:=Bi 0 0
abbrev eS a:=OB (AN a)
abbrev fV:=BT 1
abbrev aD a b:=TP (BW a) b
abbrev nW a:=LD (AN a)
attribute [go_sem] gN qM I6 Rj ANR AOW VL eS fV aD nW
theorem vc23 (a : NPL) : (V23 a) = (JY (J8 (eS a) (AN a) (λ i=>Rs i (AN a) (Tz (Ec a i) a i) (It a i) i (Mp a i) (Fv a i)) (RV (AN a)) (VM (AN a))) (QU (AN a)) (Tw (Br a a (Rj (AN a) (BW a) (gN (AN a)) (-1) (HU a))) (Mc a) (QU (AN a))) (IK (SO (PS (BW a)) (Wh a)) (Tw (Br a a (Rj (AN a) (BW a) (gN (AN a)) (-1) (HU a))) (Mc a) 2) (PV (λ i=>BG (PD (Dk a) (Tx a) (aS a) (Fh (AZ i) (AN a))) (EP i (Te a)) (nW a) (FI (BW a) (HU a)) (AG (λ j=>UB j i (aD a j)))) (λ i=>GM (Sk (EP i (Te a)) (nW a) (FI (BW a) (HU a)) (λ j=>UB j i (aD a j))) i (Te a) (GF i (Te a)) (not (aD a i)) (Tw (Br a a (Rj (AN a) (BW a) (gN (AN a)) (-1) (HU a))) (Mc a) 2) (IJ (λ j=>CB (PD (Dk a) (Tx a) (aS a) (Fh (AU j i) (AN a))) (Sk (EP j (Te a)) (nW a) (FI (BW a) (HU a)) (λ k=>UB k j (aD a k))) (Te a) j i)) (PV (λ j=>And (PD (Dk a) (Tx a) (aS a) (Fh (AZ j) (AN a))) (LQ (EP j (Ek a)) (nW a) (FI (BW a) (HU a)) (λ k=>Fo k (BW a) (LY (aD a k))) (AG (λ k=>UB k j (Zh (BW a) (Fa (AN a) k)))))) (λ j=>GM (LQ (EP j (Ek a)) (nW a) (FI (BW a) (HU a)) (λ k=>Fo k (BW a) (LY (aD a k))) (AG (λ k=>UB k j (Zh (BW a) (Fa (AN a) k))))) j (Ek a) (mU (GF j (Ek a)) (Nt (EC (AN a) j) (BW a)) (IV (EJ (AN a) j)) (NX (EJ (AN a) j) (Te a))) (Ws (Fu (Lh (BW a) (EC (AN a) j)) (BW a) (EJ (AN a) j))) (Tw (Br a a (Rj (AN a) (BW a) (gN (AN a)) (-1) (HU a))) (Mc a) 2) (IJ (λ k=>CB (PD (Dk a) (Tx a) (aS a) (Fh (AU k j) (AN a))) (LQ (EP k (Ek a)) (nW a) (FI (BW a) (HU a)) (λ l=>Fo l (BW a) (LY (aD a l))) (AG (λ l=>UB l k (Zh (BW a) (Fa (AN a) l))))) (Ek a) k j)) (AJ (AJ (AP (IV (Wh a)) (GT (HU a)) (Ci (Wh a)) (Bw (Ur fV (Wh a)))) (eS a) (EO (λ k=>OD k (AN a)) (cK a) (λ k=>Rs k (AN a) (Tz (Ec a k) a k) (It a k) k (Mp a k) (Fv a k)) (Qt a a) (IP (KH (DD a) (BW a)) (ED (Ls (qM (HU a) (λ k=>hd5))) (HU a)) (BM (HU a)) (λ k=>HJ k (Ls (qM (HU a) (λ l=>hd5))) (PG (Ti (qM (HU a) (λ l=>hd5)) k))) VL (AS (-1) (Int.negSucc 0)) (EU (AN a)) (Rg (DD a) (AN a)) (AOW (Ls (qM (HU a) (λ k=>hd5))) a)))) (Gq (Br a a (Rj (AN a) (BW a) (gN (AN a)) (-1) (HU a))) (hd3 (ANR (AN a) (DD a) (qM (HU a) (λ k=>hd5)) (-1) (AN a)) (Dk a))) (GP (Mc a))))))))) := by kernel_rfl
theorem BDP (n : Nat) : NO n (λ _ => false) = List.replicate n false := by
 apply Jc
 ·simp
 ·intro i hi
  simp only [rng_length] at hi
  rw [CO _ _ _ hi, GN, if_pos hi]
theorem p23 (a : NPL) (h1 : a.lv.length < 4611686018427387904) (h2 : a.N.g.length <= 1000000 /\ a.N.r.length <= 1000000) : V23 a := by
 have et : NetL.mk a.N.g a.N.r = a.N := rfl
 have en : NO a.N.g.length (λ _ => false) = EL a.N := BDP _
 have e2 : AB a.N = 0 -> XM a.N a.lv = false -> TE a = 2 := λ h h' => by unfold TE; rw [if_pos h, h']; rfl
 have f2 : ∀ x y : Bool, (TE a = 2) -> ((decide (TE a = 0) && decide (a.price <= Pr ⟨a.N, a.lv, EL a.N, 0, -1⟩ a.N.g.length)) = false /\ TE a = 2) := λ _ _ h => ⟨by rw [h]; rfl, h⟩
 rw [vc23]<;> delta Gq hd3 hd4 hd5 Ou Ok IJ ED AG VK ON AS BT EP WC IK Tt bX tW hd28 hd29 Hi hd35 Oi TR hd76 Ca EA SO PM iC qX Fg Yw mV LC lK ES Ur UM vV xG wH YC Zh AN Mc Dk BW Ls Ti gN qM AY AJ Fa M7 ADO O9 BG HJ AR mT gY DU mU zZ lE ADZ AM AT Es OK gR CU CY Dd ME IW MF Uk EJ O7 P0 HQ IF MB Fo WA EC GT AP HA M9 NJ IV RY Uu pZ FI iD Q2 ABZ FH O1 FR gQ LY AGG Cz GP AKE qY kE Lc jS KX AJF Lh AKP GF AJQ AER AU CA AIY LD oJ xB AGN I7 Cd J0 Fb My EG QJ CG BA DD CB DE NV FW Bk MZ vK AZ Rn I1 KH BM OB Rs IM OD DX Pw EO JC Bi UD EU PG PD Ck HU NX I6 RV iV GM Ec LQ It VM Mp JY Rj L3 IP ANR PV PS QU Ew J8 Ql UB AOW Nt TP Rg sI VL Xd Ek ADH Br Fv Fu Bw ANB Ci Tx Te Fh Qt Wh eS Tw Tz Sk aD cK aS nW Ws fV; simp only [CC, eq_self, implies_true, forall_const, et, en]
 refine ⟨h2, λ hc => ?_, λ hc => ?_⟩
 ·have hc : AB a.N ≠ 0 := by simpa using hc
  have : TE a = AB a.N := by unfold TE; rw [if_neg hc]
  rw [this, decide_eq_false hc]; exact ⟨rfl, rfl⟩
 ·have hc : AB a.N = 0 := by simpa using hc
  have hg := BB hc
  refine ⟨λ hl => ?_, λ hl => ?_⟩
  ·have hl : ¬ a.lv.length = a.N.g.length := by
    intro h; rw [h] at hl; simp at hl
   refine f2 true true (e2 hc ?_)
   cases h : XM a.N a.lv with
   | false => rfl
   | true => exact absurd (SQ.1 h).1 hl
  ·have hl : a.lv.length = a.N.g.length := by
    have : ((a.lv.length : Int)) = a.N.g.length := by simpa using hl
    omega
   refine ⟨⟨0, rfl, Nat.zero_le _, hc, hl, λ j hj => absurd hj (Nat.not_lt_zero _)⟩, λ i ⟨q1, _, _, q2⟩ => ⟨λ hlt => ⟨⟨by omega, by omega⟩, λ hb => ?_, λ hb => ⟨i + 1, (AL (by omega)).symm, ⟨by omega, hc, hl, λ j hj => ?_⟩, by omega⟩⟩, λ hge => ⟨⟨0, rfl, Nat.zero_le _, hc, hl, λ j hj => q2 j (by omega), λ j hj => absurd hj (Nat.not_lt_zero _)⟩, λ k ⟨w1, _, _, w2, w3⟩ => ⟨λ hlt => ?_, λ hge => ?_⟩⟩⟩⟩
   ·refine f2 true true (e2 hc ?_)
    cases h : XM a.N a.lv with
    | false => rfl
    | true =>
     have := (SQ.1 h).2.1 i (by omega)
     rw [CV.2 this] at hb; cases hb
   ·by_cases h : j = i
    ·subst h; exact hb
    ·exact q2 j (by omega)
   ·obtain ⟨_, b1, b2, _⟩ := hg.r k (by omega)
    refine ⟨⟨⟨by omega, by omega⟩, ⟨by omega, by omega⟩, ⟨by omega, by omega⟩, by omega, by omega⟩, λ hb => ?_, λ hb => ⟨k + 1, (AL (by omega)).symm, ⟨by omega, hc, hl, w2, λ j hj => ?_⟩, by omega⟩⟩
    ·refine f2 true true (e2 hc ?_)
     cases h : XM a.N a.lv with
     | false => rfl
     | true =>
      have := (SQ.1 h).2.2 k (by omega)
      have hb : inM (Ll a.lv (gD a.N.r k)) (-1) 1 = false := hb
      rw [CV.2 this] at hb; cases hb
    ·by_cases h : j = k
     ·subst h; exact hb
     ·exact w3 j (by omega)
   ·have hv : XM a.N a.lv = true := SQ.2 ⟨hl, λ j hj => CV.1 (w2 j hj), λ j hj => CV.1 (w3 j (by omega))⟩
    have hp : TE a = 0 := by unfold TE; rw [if_pos hc, hv]; rfl
    have hg8 := hg.g8
    have nl : (EL a.N).length = a.N.g.length := by simp [EL]
    refine ⟨⟨⟨by omega, by omega, by omega⟩, nl, Nat.le_refl _, λ j hj => ?_, rfl, rfl, hc, hl, nl⟩, ?_, hp⟩
    ·rw [nl] at hj; simp [EL, GN, hj]
    ·rw [hp]; rfl
theorem ok23 : AH Try.prog 23 (C23.spec dP) := UY C23 A23 [] [] Try.func23 (λ _ => by kernel_rfl) (λ _ => AA ok45 (AA ok60 (AA ok54 AE))) (λ a h => p23 a h.1 h.2) (λ _ => WR rfl rfl) _
end Go.Bal

namespace Go.Bal
open Go Go.Sym Go.Proofs
def lvA0 (N : NetL) : LvA := ⟨N, EL N, 0⟩
def BS (N : NetL) : List (List Int) := BZ (lvA0 N) N.g.length
def fY (N : NetL) (k : Nat) (skip : Int) : Int := Pr ⟨N, gD (BS N) k, EL N, 0, skip⟩ N.g.length
def bsM (N : NetL) : Nat -> Int
 | 0 => 0
 | k + 1 => bif decide (fY N k (-1) > bsM N k) then fY N k (-1) else bsM N k
def NZ (N : NetL) : Int := if AB N = 0 then bsM N (BS N).length else 0
def A18 (N : NetL) : Ann := { ann 40 [(45, C45.spec fT), (53, C53.spec d53), (54, C54.spec d54)] with cutIn := λ gs id => if id = 5 then some [{ α := One, dflt := default, T := λ _ => ⟨[(1, .bptr 203 0), (5, .d (XU (EL N)))], [(203, LF N)]⟩, inv := λ _ => AB N = 0, meas := λ _ => 0, first := [(203, 1000)], ffz := [5048] }] else none, loops := λ id => if id = 8 then some [{ α := Nat, dflt := 0, T := λ k => ⟨[(1, .bptr 203 0), (5, .d (XU (EL N))), (6, .d (eLL (BS N))), (7, .int (bsM N k)), (8, .int k)], [(203, LF N)]⟩, inv := λ k => AB N = 0 /\ k <= (BS N).length, meas := λ k => (BS N).length - k }] else none }
def C18 : Ctr := { α := NetL, xs := xsN, val := λ N => .tup [.int (NZ N), .int (AB N)], pre := λ N => [N.g.length <= 1000000 /\ N.r.length <= 1000000] }
def V18 (N : NetL) : Prop := BN Try.prog (A18 N) Try.f18 (AF Try.f18) (C18.xs N) (AD []) (C18.val N) (C18.keep N) [] []
abbrev BBN (N : NetL) : List Span := NO N.g.length λ (i : Nat) => gD N.g i
abbrev N3 (N : NetL) : Nat := (BBN N).length
abbrev AYG (N : NetL) : Prop := N3 N = N.g.length
abbrev BEB (N : NetL) (i : Nat) : Span := gD (BBN N) i
abbrev AXK (N : NetL) : Prop := ∀ (i : Nat), i < N3 N -> (BEB N i).lo = (gD N.g i).lo /\ (BEB N i).hi = (gD N.g i).hi
abbrev BBZ (N : NetL) : List Reach := NO N.r.length λ (i : Nat) => gD N.r i
abbrev AYO (N : NetL) : Nat := (BBZ N).length
abbrev AYQ (N : NetL) : Prop := AYO N = N.r.length
abbrev BCA (N : NetL) (i : Nat) : Reach := gD (BBZ N) i
abbrev BEJ (N : NetL) (i : Nat) : Span := (BCA N i).sp
abbrev ALE (N : NetL) : Prop := ∀ (i : Nat), i < AYO N -> (BCA N i).fr = (gD N.r i).fr /\ (BCA N i).to = (gD N.r i).to /\ (BEJ N i).lo = (gD N.r i).sp.lo /\ (BEJ N i).hi = (gD N.r i).sp.hi
abbrev ALW (N : NetL) : NetL := NetL.mk (BBN N) (BBZ N)
abbrev AOB (N : NetL) : Int := AB (ALW N)
abbrev AKW (N : NetL) : Prop := N.g.length = N.g.length /\ (∀ (i : Nat), i < N.g.length -> (gD N.g i).lo = (gD N.g i).lo /\ (gD N.g i).hi = (gD N.g i).hi) /\ N.r.length = N.r.length /\ ∀ (i : Nat), i < N.r.length -> (gD N.r
 i).fr = (gD N.r i).fr /\ (gD N.r i).to = (gD N.r i).to /\ (gD N.r i).sp.lo = (gD N.r i).sp.lo /\ (gD N.r i).sp.hi = (gD N.r i).sp.hi
abbrev AFV (N : NetL) : List Bool := NO (EL N).length λ (i : Nat) => gD (EL N) i
abbrev AKV (N : NetL) : Nat := (AFV N).length
abbrev AXI (N : NetL) : Prop := AKV N = (EL N).length
abbrev AUF (N : NetL) : Prop := ∀ (i : Nat), i < AKV N -> gD (AFV N) i = gD (EL N) i
abbrev AUZ : Prop := (0 : Int) = Int.ofNat (0 : Nat)
abbrev ASR (N : NetL) : Prop := AOB N = (0 : Int)
abbrev AWD (N : NetL) : Prop := AKV N = N3 N
abbrev AOO (N : NetL) : Prop := (EL N).length = (EL N).length
abbrev ALK (N : NetL) : Prop := ∀ (i : Nat), i < (EL N).length -> gD (EL N) i = gD (EL N) i
abbrev AVV (N : NetL) : List (List Int) := BZ (LvA.mk (ALW N) (AFV N) (0 : Int)) (N3 N)
abbrev uQ (N : NetL) (i : Nat) : Nat := (gD (BS N) i).length
abbrev AWV (N : NetL) (i : Nat) : List Int := gD (AVV N) i
abbrev AUL (i : Nat) (N : NetL) (i1 : Nat) : Prop := i < uQ N i1
abbrev J4 (N : NetL) (i : Nat) (i1 : Nat) : Int := gD (gD (BS N) i) i1
abbrev ANY (N : NetL) (a : Nat) : Prop := AB N = (0 : Int) /\ a <= (BS N).length
abbrev AWF (a : Nat) (N : NetL) : Prop := (↑a : Int) < (↑(BS N).length : Int)
abbrev AOT (N : NetL) (a : Nat) : List Int := NO (uQ N a) λ (i : Nat) => J4 N a i
abbrev APB (N : NetL) (a : Nat) : Nat := (AOT N a).length
abbrev AWN (N : NetL) (a : Nat) : Int := Pr (PvA.mk (ALW N) (AOT N a) (AFV N) (0 : Int) (-1 : Int)) (N3 N)
abbrev AXG (N : NetL) : Prop := (BS N).length = (BS N).length
abbrev ATH (N : NetL) : Prop := ∀ (i : Nat), i < (BS N).length -> uQ N i = uQ N i /\ ∀ (i_1 : Nat), AUL i_1 N i -> J4 N i i_1 = J4 N i i_1
abbrev ATC (a : Nat) (a1 : Nat) (N : NetL) : Prop := (↑a : Int) = IntKind.i64.wrap ((↑a1 : Int) + (1 : Int)) /\ AKW N
abbrev AVG (N : NetL) (a : Nat) : Nat := (BS N).length - a
abbrev ATE (N : NetL) (a : Nat) (a1 : Nat) : Prop := ANY N a /\ AVG N a < AVG N a1
theorem vc18 (N : NetL) : (V18 N) = ((AYG N /\ AXK N /\ AYQ N /\ ALE N /\ N3 N <= (1000000 : Nat) /\ AYO N <= (1000000 : Nat)) /\ bif AOB N != (0 : Int) then NZ N = (0 : Int) /\ AB N = AOB N else (((0
 : Int) <= (↑N.g.length : Int) /\ (↑N.g.length : Int) = (↑N.g.length : Int) /\ (↑N.g.length : Int) <= (9223372036854775807 : Int) /\ (↑(1 : Nat) : Int) * (↑N.g.length : Int) <= (281474976710656 : Int)) /\ ∃ (a : One), ((EL
 N).length = N.g.length /\ (0 : Nat) + N.g.length <= N.g.length /\ (∀ (j : Nat), j < (EL N).length -> gD (EL N) j = false) /\ AKW N) /\ AB N = (0 : Int)) /\ ∀ (a : One), AB N = (0 : Int) -> (AYG N /\ AXK N /\
 AYQ N /\ ALE N /\ AXI N /\ AUF N /\ AUZ /\ ASR N /\ AWD N /\ (-1 : Int) <= (0 : Int) /\ (0 : Int) <= (1 : Int)) /\ (∃ (a : Nat), (AOO N /\ ALK N /\ (BS N).length = (AVV N).length /\ (∀ (i : Nat), i <
 (BS N).length -> uQ N i = (AWV N i).length /\ ∀ (i_1 : Nat), AUL i_1 N i -> J4 N i i_1 = gD (AWV N i) i_1) /\ bsM N a = (0 : Int) /\ (↑a : Int) = (0 : Int) /\ AKW N) /\ ANY N a) /\ ∀ (a : Nat), ANY N
 a -> bif decide (AWF a N) then (((0 : Int) <= (↑a : Int) /\ AWF a N) /\ AYG N /\ AXK N /\ AYQ N /\ ALE N /\ APB N a = uQ N a /\ (∀ (i : Nat), i < APB N a -> gD (AOT N a) i = J4 N a i) /\ AXI N /\
 AUF N /\ AUZ /\ (-1 : Int) = Int.negSucc (0 : Nat) /\ ASR N /\ APB N a = N3 N /\ AWD N) /\ bif decide (AWN N a > bsM N a) then ∃ (a_2 : Nat), (AOO N /\ ALK N /\ AXG N /\ ATH N /\ bsM N a_2 = AWN
 N a /\ ATC a_2 a N) /\ ATE N a_2 a else ∃ (a_2 : Nat), (AOO N /\ ALK N /\ AXG N /\ ATH N /\ bsM N a_2 = bsM N a /\ ATC a_2 a N) /\ ATE N a_2 a else NZ N = bsM N a /\ AB N = (0 : Int)) := by
 kernel_rfl
theorem p18 (N : NetL) (h1 : N.g.length <= 1000000 /\ N.r.length <= 1000000) : V18 N := by
 rw [vc18]; delta BBN N3 AYG BEB AXK BBZ AYO AYQ BCA BEJ ALE ALW AOB AKW AFV AKV AXI AUF AUZ ASR AWD AOO ALK AVV uQ AWV AUL J4 ANY AWF AOT APB AWN AXG ATH ATC AVG ATE; simp only [CC, eq_self, implies_true, forall_const]
 have et : NetL.mk N.g N.r = N := rfl
 have nl : (EL N).length = N.g.length := by simp [EL]
 have ea : BZ (LvA.mk N (EL N) 0) N.g.length = BS N := rfl
 simp only [et, ea]
 refine ⟨h1, λ hc => ?_, λ hc => ?_⟩
 ·have hc : AB N ≠ 0 := by simpa using hc
  exact if_neg hc
 ·have hc : AB N = 0 := by simpa using hc
  have hg8 := (BB hc).g8
  refine ⟨⟨⟨by omega, by omega, by omega⟩, ⟨0⟩, ⟨nl, Nat.le_refl _, λ j hj => ?_⟩, hc⟩, λ _ => ⟨⟨rfl, hc, nl, by decide, by decide⟩, ⟨0, ⟨trivial, λ _ _ => ⟨trivial, λ _ _ => trivial⟩, rfl, rfl⟩, hc, Nat.zero_le _⟩, λ k ⟨_, hk⟩ => ?_⟩⟩
  ·rw [nl] at hj; simp [EL, GN, hj]
  ·have hb : (BS N).length <= 6561 := nF (lvA0 N) hg8
   refine ⟨λ hlt => ⟨⟨⟨by omega, hlt⟩, rfl, rfl, hc, Wl (lvA0 N) (s := N.g.length) (k := k) (by show k < (BS N).length; omega), nl⟩, λ hgt => ⟨k + 1, ⟨?_, (AL (by omega)).symm⟩, ⟨hc, by omega⟩, by omega⟩, λ hgt => ⟨k + 1, ⟨?_, (AL (by omega)).symm⟩, ⟨hc, by omega⟩, by omega⟩⟩, λ hge => ⟨?_, hc⟩⟩
   ·have hgt : fY N k (-1) > bsM N k := hgt
    simp only [bsM, decide_eq_true hgt, cond_true]; rfl
   ·have hgt : ¬ fY N k (-1) > bsM N k := hgt
    simp only [bsM, decide_eq_false hgt, cond_false]
   ·have : k = (BS N).length := by omega
    rw [this]; exact if_pos hc
theorem ok18 : AH Try.prog 18 (C18.spec dN) := UY C18 A18 [] [] Try.func18 (λ _ => by kernel_rfl) (λ _ => AA ok45 (AA ok53 (AA ok54 AE))) (λ a h => p18 a h) (λ _ => WR rfl rfl) _
end Go.Bal
