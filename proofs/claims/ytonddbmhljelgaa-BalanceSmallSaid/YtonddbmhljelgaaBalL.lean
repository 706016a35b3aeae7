/- Package balance: fitting, Agrees, Correct, Levels. -/
import Derived.Test.YtonddbmhljelgaaBalJ
import Derived.Test.YtonddbmhljelgaaBalT8
set_option linter.unusedVariables false
set_option linter.unusedSimpArgs false
namespace Go.Bal
open Go Go.Sym Go.Proofs
def A19 : Ann := ann 20 [(55, s55)]
def A19b : Ann := ann 20 [(55, s55b)]
def C19 : Ctr := { α := NetL, xs := λ N => [.d (LW N)], L := λ _ => [], val := λ N => .tup [.bool (decide (EV N = 0)), .int 0], keep := λ _ => [], pre := λ N => [AB N = 0, (BH N).isSome = true] }
def V19 (N : NetL) : Prop := BN Try.prog A19 Try.f19 (AF Try.f19) (C19.xs N) (AD (C19.L N)) (C19.val N) (C19.keep N) [] []
abbrev WO a b:=KT (KS a) b
abbrev eA a:=gP (IF a)
abbrev sI a:=(λ (x0 x1 : Int) => decide (x0 = x1)) a 0
abbrev oP a:=sN (BH a)
abbrev Sg a:=oP (IF a)
abbrev LD a:=GP (YC a)
abbrev EU a:=LD (IF a)
attribute [go_sem] WO eA sI oP Sg LD EU
theorem vc19 (N : NetL) : (V19 N) = (AJ (SC N (EU N) (Sg N)) (Gq (sI (gP N)) (WO 0 (KS (eA N)))) BX) := by kernel_rfl
def C19b : Ctr := { α := NetL, xs := λ N => [.d (LW N)], L := λ _ => [], val := λ N => .tup [.bool false, .int (AB N)], keep := λ _ => [], pre := λ N => [AB N ≠ 0] }
def V19b (N : NetL) : Prop := BN Try.prog A19b Try.f19 (AF Try.f19) (C19b.xs N) (AD (C19b.L N)) (C19b.val N) (C19b.keep N) [] []
abbrev BHL:=@BEq.beq Nat (@instBEqOfDecidableEq Nat instDecidableEqNat)
abbrev QU a:=YC (IF a)
abbrev EF a (b:Nat->Prop) c d e:=BG a (AG b) c d e
abbrev PC a (b:Nat->Prop) c (d:Nat->Prop) e:=EF a b c (AG d) e
abbrev ALP a b c d e:=PC a (λ i=>OD i b) (DE c) (λ i=>HW i d) e
abbrev ZQ a b c d e:=ALP (OB a) b c d e
abbrev Qb a:=VK a Gz
attribute [go_sem] BHL QU EF PC ALP ZQ Qb
theorem BPG (N : NetL) : (V19b N) = (AJ (ZQ N N N N (Qb (EU N))) (Gq hd5 (WO (QU N) (BHL 0 0))) (bP N (QU N))) := by kernel_rfl
theorem p19 (N : NetL) (h1 : AB N = 0) (h2 : (BH N).isSome = true) : V19 N := by
 rw [vc19]<;> simp only [go_sem]; simp only [CC, eq_self, implies_true, forall_const, DL.d6, DL.d7, DL.d8]
 exact ⟨⟨h1, h2⟩, by by_cases h : EV N = 0 <;> simp [h]⟩
theorem p19b (N : NetL) (h1 : AB N ≠ 0) : V19b N := by
 rw [BPG]<;> simp only [go_sem]; simp only [CC, eq_self, implies_true, forall_const, DL.d6, DL.d7, DL.d8]
 exact ⟨h1, by simp [h1]⟩
def zT : TruthL := ⟨[], []⟩
def A20 : Ann := ann 21 [(55, s55), (56, C56.spec Zi)]
def A20b : Ann := ann 21 [(55, s55b)]
def C20 : Ctr := { α := NetL, xs := λ N => [.d (LW N)], L := λ _ => [], val := λ N => .tup [.d (OG (AW (AI N))), .int (EV N), .int 0], keep := λ _ => [], pre := λ N => [AB N = 0, (BH N).isSome = true] }
def V20 (N : NetL) : Prop := BN Try.prog A20 Try.f20 (AF Try.f20) (C20.xs N) (AD (C20.L N)) (C20.val N) (C20.keep N) [] [5016, 5017]
abbrev BBJ a b:=CI (ADZ a b)
abbrev ER a:=BBJ a a
abbrev bV a:=Sx (ER a)
abbrev jG a:=MP (ER a)
abbrev kJ a b:=TB a (RG b)
abbrev aY a b:=EY (ER a) b
abbrev dL a b:=FJ (ER a) b
abbrev dF a b:=FG (ER a) b
attribute [go_sem] BBJ ER bV jG kJ aY dL dF
theorem vc20 (N : NetL) : (V20 N) = (And (SC N (EU N) (Sg N)) (IW (BF (YW (ER N) (λ i=>GZ i (ER N) (GU (ER N) i) (EN (ER N) i) (dF N i) (JU (ER N) i) (dL N i) (IT (ER N) i) (aY N i)) (λ i=>KV i (ER N) (MO (ER N) i) (dF N i) (EN (ER N) i) (dL N i) (JU (ER N) i) (aY N i) (IT (ER N) i)) (Wt (bV N) (ER N)) (kJ (Oi (jG N) (bV N)) (ER N)))) (FI (Zo (qH (CI N))) (jG N)) (BM (jG N)) (Dz (Zo (qH (CI N))) (Zo (oH (ER N)))) (FI (Zq (qH (CI N))) (bV N)) (BM (bV N)) (Dz (Zq (qH (CI N))) (Zq (oH (ER N)))) (AS (gP N) (eA N)) BX)) := by kernel_rfl
def C20b : Ctr := { α := NetL, xs := λ N => [.d (LW N)], L := λ _ => [], val := λ N => .tup [.d (OG zT), .int 0, .int (AB N)], keep := λ _ => [], pre := λ N => [AB N ≠ 0] }
def V20b (N : NetL) : Prop := BN Try.prog A20b Try.f20 (AF Try.f20) (C20b.xs N) (AD (C20b.L N)) (C20b.val N) (C20b.keep N) [] []
abbrev AIX a b c:=mU a a b c
attribute [go_sem] AIX
theorem BRA (N : NetL) : (V20b N) = (JY (ZQ N N N N (Qb (EU N))) (QU N) (BF (AIX AC BX (bP N (QU N)))) Gz) := by kernel_rfl
theorem p20 (N : NetL) (h1 : AB N = 0) (h2 : (BH N).isSome = true) : V20 N := by
 rw [vc20]<;> simp only [go_sem]; simp only [CC, eq_self, implies_true, forall_const, DL.d6, DL.d7, DL.d8]
 obtain ⟨l1, l2, l3⟩ := VX h2
 have hg := BB h1
 have := hg.g1
 have := hg.g8
 have := hg.r14
 refine ⟨⟨h1, h2⟩, ⟨⟨by omega, by omega⟩, by omega⟩, ?_⟩
 simp [Gh, Et]
theorem p20b (N : NetL) (h1 : AB N ≠ 0) : V20b N := by
 rw [BRA]<;> simp only [go_sem]; simp only [CC, eq_self, implies_true, forall_const, DL.d6, DL.d7, DL.d8]
 exact ⟨h1, by simp [h1]⟩
def WM (N : NetL) : Int := if AB N = 0 then if 0 < EV N then 6 else 0 else AB N
def A73 : Ann := ann 21 [(55, s55)]
def A73b : Ann := ann 21 [(55, s55b)]
def C73 : Ctr := { α := NetL, xs := λ N => [.d (LW N)], L := λ _ => [], val := λ N => .tup [.bptr 0 0, .int 0], keep := λ N => [(0, .live (B5 (AI N) 1)), (1, .live (zK (AI N)))], pre := λ N => [AB N = 0, (BH N).isSome = true, ¬ 0 < EV N] }
def V73 (N : NetL) : Prop := BN Try.prog A73 Try.f73 (AF Try.f73) (C73.xs N) (AD (C73.L N)) (C73.val N) (C73.keep N) [(0, 2016), (1, 2017)] []
abbrev AWH a b:=Bi (hd76 a) b
abbrev nJ a:=AWH 0 a
attribute [go_sem] AWH nJ
theorem vc73 (N : NetL) : (V73 N) = (EG (SC N (EU N) (Sg N)) (WO 0 (RU (eA N))) (AJ (nJ 6) AC (Bl (Wr N (FQ (ER N))) (CI N) (bV N) (GC N) (jG N) (λ i=>TQ i (FP N) (ZJ (CI N) i (Lf (ER N) i)) (Gc N i) (dF N i) (Gi N i) (dL N i) (Fc N i) (aY N i)))) (AJ BX AC (Bl (Wr N (FQ (ER N))) (CI N) (bV N) (GC N) (jG N) (λ i=>TQ i (FP N) (ZJ (CI N) i (Lf (ER N) i)) (Gc N i) (dF N i) (Gi N i) (dL N i) (Fc N i) (aY N i))))) := by kernel_rfl
def C73b : Ctr := { α := NetL, xs := λ N => [.d (LW N)], L := λ _ => [], val := λ N => .tup [.any, .int (WM N)], keep := λ _ => [], pre := λ N => [WM N ≠ 0, AB N = 0 -> (BH N).isSome = true] }
def V73e (N : NetL) : Prop := BN Try.prog A73 Try.f73 (AF Try.f73) (C73b.xs N) (AD (C73b.L N)) (C73b.val N) (C73b.keep N) [] []
abbrev Ov:=WM
attribute [go_sem] Ov
theorem BRL (N : NetL) : (V73e N) = (EG (SC N (EU N) (Sg N)) (KT (BHL 0 0) (RU (eA N))) (AS (Ov N) 6) (GP (Ov N))) := by kernel_rfl
def V73b (N : NetL) : Prop := BN Try.prog A73b Try.f73 (AF Try.f73) (C73b.xs N) (AD (C73b.L N)) (C73b.val N) (C73b.keep N) [] []
theorem BPH (N : NetL) : (V73b N) = (((NO N.g.length λ (i : Nat) => gD N.g i).length = N.g.length /\ (∀ (i : Nat), i < (NO N.g.length λ (i : Nat) => gD N.g i).length -> (gD (NO N.g.length λ (i : Nat) => gD N.g
 i) i).lo = (gD N.g i).lo /\ (gD (NO N.g.length λ (i : Nat) => gD N.g i) i).hi = (gD N.g i).hi) /\ (NO N.r.length λ (i : Nat) => gD N.r i).length = N.r.length /\ (∀ (i : Nat), i < (NO N.r.length λ (i : Nat) => gD
 N.r i).length -> (gD (NO N.r.length λ (i : Nat) => gD N.r i) i).fr = (gD N.r i).fr /\ (gD (NO N.r.length λ (i : Nat) => gD N.r i) i).to = (gD N.r i).to /\ (gD (NO N.r.length λ (i : Nat) => gD N.r i) i).sp.lo = (gD
 N.r i).sp.lo /\ (gD (NO N.r.length λ (i : Nat) => gD N.r i) i).sp.hi = (gD N.r i).sp.hi) /\ (AB (NetL.mk (NO N.g.length λ (i : Nat) => gD N.g i) (NO N.r.length λ (i : Nat) => gD N.r i)) = (0 : Int) -> False)) /\
 bif bif AB (NetL.mk (NO N.g.length λ (i : Nat) => gD N.g i) (NO N.r.length λ (i : Nat) => gD N.r i)) == (0 : Int) then decide ((0 : Int) > (0 : Int)) else false then WM N = (6 : Int) else WM N = AB
 (NetL.mk (NO N.g.length λ (i : Nat) => gD N.g i) (NO N.r.length λ (i : Nat) => gD N.r i))) := by kernel_rfl
theorem p73 (N : NetL) (h1 : AB N = 0) (h2 : (BH N).isSome = true) (h3 : ¬ 0 < EV N) : V73 N := by
 rw [vc73]<;> simp only [go_sem]; simp only [CC, eq_self, implies_true, forall_const, DL.d6, DL.d7, DL.d8]
 exact ⟨⟨h1, h2⟩, by simp; omega⟩
theorem p73e (N : NetL) (h1 : AB N = 0) (h2 : (BH N).isSome = true) (h3 : 0 < EV N) : V73e N := by
 rw [BRL]<;> simp only [go_sem]; simp only [CC, eq_self, implies_true, forall_const, DL.d6, DL.d7, DL.d8]
 exact ⟨⟨h1, h2⟩, by simp [WM, h1, h3]⟩
theorem p73b (N : NetL) (h1 : AB N ≠ 0) : V73b N := by
 rw [BPH]; simp only [CC, eq_self, implies_true, forall_const, DL.d6, DL.d7, DL.d8]
 exact ⟨h1, by simp [WM, h1]⟩
def Gn (N : NetL) : List Int := (List.range N.g.length).map λ (i : Nat) => wr (-((Aj (AI N) any N.g.length).m.far i).cost)
def levH (N : NetL) : List (Nat × HCell) := [(201, .live (mapO (Aj (AI N) any N.g.length).m (Aj (AI N) any N.g.length).st))]
def A21 (N : NetL) : Ann := { ann 43 [(55, s55), (57, s57l)] with mt := λ id => id == 9, loops := λ id => if id = 7 then some [{ α := Nat, dflt := 0, T := λ k => ⟨[(7, .mref 201), (8, .d Gg), (29, .int N.g.length), (30, .int k)], levH N⟩, inv := λ k => k = 0, meas := λ _ => N.g.length, first := [(201, 5112)] }, { α := Nat, dflt := 0, T := λ k => ⟨[(7, .mref 201), (8, .own 202 1 0 k), (29, .int N.g.length), (30, .int k)], levH N ++ [(202, pP k (Gn N))]⟩, inv := λ k => k <= N.g.length, meas := λ k => N.g.length - k, again := [(202, 10112)] }] else none }
def C21 : Ctr := { α := NetL, xs := λ N => [.d (LW N)], L := λ _ => [], val := λ N => .tup [.d (BC (Gn N)), .int 0], keep := λ _ => [], pre := λ N => [AB N = 0, (BH N).isSome = true, (NP (AI N) any N.g.length).isSome = true] }
def V21 (N : NetL) : Prop := BN Try.prog (A21 N) Try.f21 (AF Try.f21) (C21.xs N) (AD (C21.L N)) (C21.val N) (C21.keep N) [] [202]
abbrev ARK a b c:=AGG a b a c
abbrev VA a (b:Nat->Prop):=And a (IJ b)
abbrev AZD a b c d e f g h:=IW a b c d e f g a h
abbrev ZD a b c d e f g (h:Nat->Prop):=AZD a b c d e f g (AG h)
abbrev VN a:=ARO (CI a) any (JC a)
abbrev RM a:=FI a 0
abbrev Sn a:=Me (ER a)
abbrev gH a:=Lq (ER a)
attribute [go_sem] ARK VA AZD ZD VN RM Sn gH
theorem vc21 (N : NetL) : (V21 N) = (LQ (SC N (EU N) (Sg N)) (AP (OT (ER N)) AC (UG (ER N)) (Jq (OT (ER N)) (ER N) (UG (ER N)) (λ i=>GZ i (ER N) (GU (ER N) i) (EN (ER N) i) (dF N i) (JU (ER N) i) (dL N i) (IT (ER N) i) (aY N i)) (ZN (J9 (ER N)) (OT (ER N)) (ER N) (λ i=>KV i (ER N) (MO (ER N) i) (dF N i) (EN (ER N) i) (dL N i) (JU (ER N) i) (aY N i) (IT (ER N) i)) (VZ (gH N)) (iD (IV (Sn N)) (Sn N) (hd29 (Sn N) 2)) (LY (AYZ (NP (gH N) (ADD RL) (Sn N))))))) (IJ (λ i=>YU (DW AC PU (Cn N) (BG (AZ i) MM (GQ (λ j=>Gq (Jh (VN N) j) (Jh (Tv (gH N) RL (Sn N)) j))) (GQ (λ j=>AS (Om (CI N) any (JC N) j) (Om (gH N) (ADD RL) (Sn N) j))) (GQ (λ j=>Mk (YJ (VN N) j) (YJ (Tv (gH N) RL (Sn N)) j) (Nj (VN N) j) (Nj (Tv (gH N) RL (Sn N)) j) (AS (Dn (VN N) j) (Dn (Tv (gH N) RL (Sn N)) j)) (Vr (VN N) j (Tv (gH N) RL (Sn N)) j))))) i)) (λ i=>CG (FB i) i (AY N) (VA (And (hd99 (rB (hd69 uW R2)) GJ) In) (λ j=>qG (BF (ZD (IL j) (Cn N) (AU j i) MM (ALF (VN N)) (ANC (λ k=>Om (CI N) any (JC N) k)) (GQ (λ k=>AMT (YJ (VN N) k) (ALB (VN N) k) (Dn (VN N) k) (E3 (VN N) k))) (λ k=>JV k j (Gn N) (ZU (YJ (VN N) (BT i)))))) (Vj j N) (AY N) j)) (Gx (RM (Gn N)) BX)) (AG (λ i=>CG (Vj i N) i (AY N) (VA (And (hd99 (rB (hd69 uW R2)) GJ) (dQ i)) (λ j=>UW (BF (ZD (MK j i) (Cn N) (AU j i) MM (ALF (VN N)) (ANC (λ k=>Om (CI N) any (JC N) k)) (GQ (λ k=>AMT (YJ (VN N) k) (ALB (VN N) k) (Dn (VN N) k) (E3 (VN N) k))) (λ k=>JV k j (Gn N) (RR k i (Gn N) k (ZU (YJ (VN N) (BT i))))))) j (AY N) i)) (AP (FI (Gn N) i) (BM i) (AG (λ j=>Fo j (Gn N) (ARK (Gn N) j (AT j)))) BX)))) := by kernel_rfl
def A21b : Ann := ann 43 [(55, s55b)]
def C21b : Ctr := { α := NetL, xs := λ N => [.d (LW N)], L := λ _ => [], val := λ N => .tup [.d (BC []), .int (AB N)], keep := λ _ => [], pre := λ N => [AB N ≠ 0] }
def V21b (N : NetL) : Prop := BN Try.prog A21b Try.f21 (AF Try.f21) (C21b.xs N) (AD (C21b.L N)) (C21b.val N) (C21b.keep N) [] []
abbrev Rc a b c:=Gx a (AS b c)
attribute [go_sem] Rc
theorem BQW (N : NetL) : (V21b N) = (JY (ZQ N N N N (Qb (EU N))) (QU N) (Rc AC (YC N) (QU N)) Gz) := by kernel_rfl
theorem p21 (N : NetL) (h1 : AB N = 0) (h2 : (BH N).isSome = true) (h3 : (NP (AI N) any N.g.length).isSome = true) : V21 N := by
 rw [vc21]<;> simp only [go_sem]; simp only [CC, eq_self, implies_true, forall_const, DL.d6, DL.d7, DL.d8]
 obtain ⟨l1, l2, l3⟩ := VX h2
 have hg := BB h1
 have g8 := hg.g8
 have hRL : RL.counts = any := rfl
 have hln : (Gn N).length = N.g.length := by simp [Gn]
 have hgd : ∀ i, i < N.g.length -> gD (Gn N) i = wr (-((Aj (AI N) any N.g.length).m.far i).cost) := λ i hi => DY (λ (i : Nat) => wr (-((Aj (AI N) any N.g.length).m.far i).cost)) hi
 rw [hRL, l2]
 refine ⟨⟨h1, h2⟩, ⟨wT h1 h2, ⟨by omega, by omega⟩, h3⟩, ⟨0, ⟨rfl, λ _ => rfl, λ _ => rfl, λ _ => ⟨rfl, rfl, rfl, rfl⟩⟩, rfl⟩, λ k hk => ⟨λ hlt => ?_, λ hge => by omega⟩, λ k hk => ⟨λ hlt => ?_, λ hge => ⟨by omega, Nat.le_refl _⟩⟩⟩
 ·subst hk
  refine ⟨⟨rfl, by decide, by decide, by decide, by decide, by decide⟩, 1, ⟨rfl, rfl, rfl, λ i hi => ?_⟩, by omega, by omega⟩
  have : i = 0 := by omega
  subst this; exact hgd 0 (by omega)
 ·refine ⟨⟨rfl, by decide, by decide, by omega, by omega⟩, k + 1, ⟨rfl, (AL (by omega)).symm, rfl, λ i hi => ?_⟩, by omega, by omega⟩
  by_cases hi2 : i < k
  ·simp [hi2]
  ·have : i = k := by omega
   subst this
   simp only [hi2, decide_false, cond_false]
   exact hgd i (by omega)
theorem p21b (N : NetL) (h1 : AB N ≠ 0) : V21b N := by
 rw [BQW]<;> simp only [go_sem]; simp only [CC, eq_self, implies_true, forall_const, DL.d6, DL.d7, DL.d8]
 exact ⟨h1, by simp [h1]⟩
theorem ok19 : AH Try.prog 19 (C19.spec fT) := UY C19 (λ _ => A19) [] [] Try.func19 (λ _ => by kernel_rfl) (λ _ => AA ok55 AE) (λ N h => p19 N h.1 h.2) (λ _ => WR rfl rfl) _
theorem BRN : AH Try.prog 19 (C19b.spec fT) := UY C19b (λ _ => A19b) [] [] Try.func19 (λ _ => by kernel_rfl) (λ _ => AA APX AE) (λ N h => p19b N h) (λ _ => WR rfl rfl) _
theorem ok20 : AH Try.prog 20 (C20.spec fT) := UY C20 (λ _ => A20) [] [5016, 5017] Try.func20 (λ _ => by kernel_rfl) (λ _ => AA ok55 (AA ok56 AE)) (λ N h => p20 N h.1 h.2) (λ _ => WR rfl rfl) _
theorem ok73 : AH Try.prog 73 (C73.spec fT) := UY C73 (λ _ => A73) [(0, 2016), (1, 2017)] [] Try.func73 (λ _ => by kernel_rfl) (λ _ => AA ok55 AE) (λ N h => p73 N h.1 h.2.1 h.2.2) (λ _ => WR rfl rfl) _
theorem AVI {N : NetL} (h : WM N ≠ 0) : AB N ≠ 0 ∨ AB N = 0 /\ 0 < EV N := by
 unfold WM at h
 by_cases h1 : AB N = 0
 ·rw [if_pos h1] at h
  by_cases h2 : 0 < EV N
  ·exact .inr ⟨h1, h2⟩
  ·rw [if_neg h2] at h; exact absurd rfl h
 ·exact .inl h1
theorem BFF : AH Try.prog 73 (C73b.spec fT) := Ctr.spec_ok (C := C73b) (λ (N : NetL) ha => by
 obtain ⟨h1, h2⟩ : WM N ≠ 0 /\ (AB N = 0 -> (BH N).isSome = true) := ha
 rcases AVI h1 with h | ⟨h, h3⟩
 ·exact Pb (A := A73b) (ren := []) (fz := []) Try.func73 (by kernel_rfl) (AA APX AE) (p73b N h)
 ·exact Pb (A := A73) (ren := []) (fz := []) Try.func73 (by kernel_rfl) (AA ok55 AE) (p73e N h (h2 h) h3)) _
theorem ok21 : AH Try.prog 21 (C21.spec fT) := UY C21 A21 [] [202] Try.func21 (λ _ => by kernel_rfl) (λ _ => AA ok55 (AA BMQ AE)) (λ N h => p21 N h.1 h.2.1 h.2.2) (λ _ => WR rfl rfl) _
end Go.Bal

namespace Go.Bal
open Go Go.Sym Go.Proofs
def Uv (d : Desk) : List Span := (List.range d.all.length).map λ (i : Nat) => (JM d i).getD default
def rowS (n : Nat) (l : List Span) : HCell := .live (.row 2 n λ i => OW (gD l i))
def spH (N : NetL) : List (Nat × HCell) := [(301, .live (B5 (AI N) 302)), (302, .live (zK (AI N)))]
def spS (N : NetL) (a b : AVal) (k : Nat) : List (Nat × AVal) := [(2, a), (3, b), (5, .bptr 301 0), (21, .int (AI N).all.length), (22, .int k)]
def Zj (N : NetL) : List Span := (Uv (AI N)).take (AI N).nR
def qL (N : NetL) : List Span := (Uv (AI N)).drop (AI N).nR
def A34 (N : NetL) : Ann := { ann 45 [(73, C73.spec fT), (74, C74.spec dDI)] with mt := λ id => id == 9 || id == 10, loops := λ id => if id = 5 then some [{ α := Nat, dflt := 0, T := λ k => ⟨spS N (.d Gg) (.d Gg) k, spH N⟩, inv := λ k => k = 0, meas := λ k => (AI N).all.length - k, first := [(301, 2016), (302, 2017)] }, { α := Nat, dflt := 0, T := λ k => ⟨spS N (.own 210 2 0 k) (.d Gg) k, spH N ++ [(210, rowS k (Zj N))]⟩, inv := λ k => 0 < k /\ k <= (AI N).nR, meas := λ k => (AI N).all.length - k, again := [(210, 10048)] }, { α := Nat, dflt := 0, T := λ k => ⟨spS N (.own 210 2 0 (AI N).nR) (.own 211 2 0 (k - (AI N).nR)) k, spH N ++ [(210, rowS (AI N).nR (Zj N)), (211, rowS (k - (AI N).nR) (qL N))]⟩, inv := λ k => (AI N).nR < k /\ k <= (AI N).all.length, meas := λ k => (AI N).all.length - k, again := [(211, 11048)] }, { α := Nat, dflt := 0, T := λ k => ⟨spS N (.d Gg) (.own 211 2 0 k) k, spH N ++ [(211, rowS k (qL N))]⟩, inv := λ k => (AI N).nR = 0 /\ 0 < k /\ k <= (AI N).all.length, meas := λ k => (AI N).all.length - k, again := [(211, 11048)] }] else none }
def iK (l : List Span) : AVal := .d (PJ l)
def C34 : Ctr := { α := NetL, xs := λ N => [.d (LW N)], L := λ _ => [], val := λ N => .tup [iK (Zj N), iK (qL N), .int 0], keep := λ _ => [], pre := λ N => [AB N = 0, (BH N).isSome = true, ¬ 0 < EV N, ∀ i : Nat, i < (AI N).all.length -> (JM (AI N) i).isSome = true] }
def V34 (N : NetL) : Prop := BN Try.prog (A34 N) Try.f34 (AF Try.f34) (C34.xs N) (AD (C34.L N)) (C34.val N) (C34.keep N) [] [210, 211]
abbrev N9:=@Option.isSome Span
abbrev Be a b (c:Nat->Prop) d (e:Nat->Prop):=FR a b c d (AG e)
abbrev Vz a b c d:=AKE a b (RY c d) c d
abbrev dW a b c d:=Vz a b (ES c a) d
abbrev Gf a b c d e:=dW a b c (ES d e)
abbrev TT a b c d:=Gf a (LC b) b c d
abbrev RH a b:=ED (LC a) b
abbrev Rt a:=FB (LC a)
abbrev VR a b c d:=AJ a b (EP c d)
abbrev QA a b c d e:=Es a b (MB c d) (MF c e)
abbrev tB a b:=JM a (BT b)
abbrev sE a:=Lq (CI a)
abbrev tY a b:=tB (sE a) b
abbrev Uf a b:=uN (tY a b)
abbrev iQ a:=DU (FP a)
abbrev oG a:=GT (FP a)
abbrev Vi a:=RG (CI a)
abbrev Wx a b:=IT (CI a) b
abbrev Vh a b:=JU (CI a) b
abbrev Vk a b:=EN (CI a) b
abbrev Xn a:=OT (CI a)
abbrev Vo a:=UG (CI a)
abbrev bD a b:=WC a (GC b)
abbrev Tp a b c:=ED (WC a b) c
abbrev ADS a b:=UQ (WC a b)
abbrev Wv a b c:=jS a b (ES c a)
abbrev fO (a:Nat->Prop):=VA AGY a
abbrev qO a b c:=hZ a a b c
abbrev sJ a b c:=MH a (λ i=>OD i b) c
abbrev SJ a b:=sJ (OB a) a b
attribute [go_sem] N9 Be Vz dW Gf TT RH Rt VR QA tB sE tY Uf iQ oG Vi Wx Vh Vk Xn Vo bD Tp ADS Wv fO qO sJ SJ
theorem vc34 (N : NetL) : (V34 N) = (And (SJ N (EF (DE N) (λ i=>HW i N) (EU N) (Sg N) (Qb (tW 0 (eA N))))) (Be (IJ (λ i=>YU (Fl AC BU (Bo BU (EQ (FP N) (FQ (ER N))) (AZ i) (Bl (Wr N (FQ (ER N))) (CI N) (bV N) (GC N) (jG N) (λ j=>TQ j (FP N) (ZJ (CI N) j (Lf (ER N) j)) (Gc N j) (dF N j) (Gi N j) (dL N j) (Fc N j) (aY N j))))) i)) (AG (λ i=>CG (FB i) i (FP N) (JH (GT i) AC (Vo N) (Jq (Xn N) (CI N) (Vo N) (λ j=>GZ j (CI N) (GU (CI N) j) (Vk N j) (Gc N j) (Vh N j) (Gi N j) (Wx N j) (Fc N j)) (ZN (Wr N (Vi N)) (Xn N) (CI N) (λ j=>TQ j (FP N) (MO (CI N) j) (Gc N j) (Vk N j) (Gi N j) (Vh N j) (Fc N j) (Wx N j)) (VZ (sE N)) (GF i (Vi N)) (LY (N9 (tY N i))))) (Lc (BT i) (BT (GC N)) (fO (λ j=>CB (BF (FR (IL j) AC PU (oG N) (Ao (AU j i) (iQ N) (CI N) (λ k=>dE k (FP N) (CI N)) (IL j) (AG (λ k=>dW k j (Zj N) (Uf N i)))))) (And (KO j) (EP j (GC N))) (FP N) j i)) (fO (λ j=>CB (BF (BG BU AC (IL j) (oG N) (Ao (AU j i) (iQ N) (CI N) (λ k=>dE k (FP N) (CI N)) (IL j) (AG (λ k=>dW k j (qL N) (Uf N i)))))) (VR (FB (GC N)) (KO j) j (FP N)) (FP N) j i)))) (qO (Rt (Zj N)) (Rt (qL N)) BX))) (λ i=>CG (And (KO i) (EP i (GC N))) i (FP N) (JH (GT i) AC (Vo N) (Jq (Xn N) (CI N) (Vo N) (λ j=>GZ j (CI N) (GU (CI N) j) (Vk N j) (Gc N j) (Vh N j) (Gi N j) (Wx N j) (Fc N j)) (ZN (Wr N (Vi N)) (Xn N) (CI N) (λ j=>TQ j (FP N) (MO (CI N) j) (Gc N j) (Vk N j) (Gi N j) (Vh N j) (Fc N j) (Wx N j)) (VZ (sE N)) (GF i (Vi N)) (LY (N9 (tY N i))))) (Lc (BT i) (BT (GC N)) (VA (VI i 2 Ir 16) (λ j=>CB (BF (FR (MK j i) AC PU (oG N) (Ao (AU j i) (iQ N) (CI N) (λ k=>dE k (FP N) (CI N)) (MK j i) (AG (λ k=>QA k j (ES (Zj N) k) (No k i (ES (Zj N) k) (Uf N i)) (Oc k i (ES (Zj N) k) (Uf N i))))))) (And (KO j) (EP j (GC N))) (FP N) j i)) (fO (λ j=>CB (Fl AC (ED (GC N) i) (Kg (Tp j (GC N) 1) (oG N) j i AC (VO (iQ N) (CI N) (EO (λ k=>dE k (FP N) (CI N)) (ED (GC N) i) (λ k=>Wv k (GC N) (Zj N)) (Tp j (GC N) 1) (AG (λ k=>dW k (bD j N) (qL N) (Uf N i))))))) (And (ON (GC N) j) (EP j (FP N))) (FP N) j i)))) (And (RH (Zj N) i) (hZ (BM i) (AG (λ j=>TT j (Zj N) (Zj N) (AT j))) (Rt (qL N)) BX))) (AG (λ i=>CG (And (ON (GC N) i) (EP i (FP N))) i (FP N) (JH (GT i) AC (Vo N) (Jq (Xn N) (CI N) (Vo N) (λ j=>GZ j (CI N) (GU (CI N) j) (Vk N j) (Gc N j) (Vh N j) (Gi N j) (Wx N j) (Fc N j)) (ZN (Wr N (Vi N)) (Xn N) (CI N) (λ j=>TQ j (FP N) (MO (CI N) j) (Gc N j) (Vk N j) (Gi N j) (Vh N j) (Fc N j) (Wx N j)) (VZ (sE N)) (GF i (Vi N)) (LY (N9 (tY N i))))) (Lc (BT i) (BT (GC N)) (And (VI (GC N) 2 Ir 16) Gz) (VA (VI (bD i N) 2 Ir 16) (λ j=>CB (Fl AC (DU (GC N)) (Kg (Tp j (GC N) (ADS i (GC N))) (oG N) j i AC (VO (iQ N) (CI N) (EO (λ k=>dE k (FP N) (CI N)) (DU (GC N)) (λ k=>Wv k (GC N) (Zj N)) (Tp j (GC N) (ADS i (GC N))) (AG (λ k=>QA k (bD j N) (ES (qL N) k) (No k (bD i N) (ES (qL N) k) (Uf N i)) (Oc k (bD i N) (ES (qL N) k) (Uf N i)))))))) (And (ON (GC N) j) (EP j (FP N))) (FP N) j i)))) (AJ (RH (Zj N) (GC N)) (BM (GC N)) (LQ (AG (λ j=>TT j (Zj N) (Zj N) (AT j))) (RH (qL N) (bD i N)) (BM (bD i N)) (λ j=>TT j (qL N) (qL N) (AT j)) BX)))) (λ i=>CG (VR (FB (GC N)) (KO i) i (FP N)) i (FP N) (JH (GT i) AC (Vo N) (Jq (Xn N) (CI N) (Vo N) (λ j=>GZ j (CI N) (GU (CI N) j) (Vk N j) (Gc N j) (Vh N j) (Gi N j) (Wx N j) (Fc N j)) (ZN (Wr N (Vi N)) (Xn N) (CI N) (λ j=>TQ j (FP N) (MO (CI N) j) (Gc N j) (Vk N j) (Gi N j) (Vh N j) (Fc N j) (Wx N j)) (VZ (sE N)) (GF i (Vi N)) (LY (N9 (tY N i))))) (Lc (BT i) (BT (GC N)) (And AGY Gz) (VA (VI i 2 Ir 16) (λ j=>CB (BF (BG BU AC (MK j i) (oG N) (Ao (AU j i) (iQ N) (CI N) (λ k=>dE k (FP N) (CI N)) (MK j i) (AG (λ k=>QA k j (ES (qL N) k) (No k i (ES (qL N) k) (Uf N i)) (Oc k i (ES (qL N) k) (Uf N i))))))) (VR (FB (GC N)) (KO j) j (FP N)) (FP N) j i)))) (And (Rt (Zj N)) (LQ (Rt (Zj N)) (RH (qL N) i) (BM i) (λ j=>TT j (qL N) (qL N) (AT j)) BX))))) := by kernel_rfl
def A34b : Ann := ann 45 [(73, C73b.spec fT)]
def C34b : Ctr := { α := NetL, xs := λ N => [.d (LW N)], L := λ _ => [], val := λ N => .tup [iK [], iK [], .int (WM N)], keep := λ _ => [], pre := λ N => [WM N ≠ 0, AB N = 0 -> (BH N).isSome = true] }
def V34b (N : NetL) : Prop := BN Try.prog A34b Try.f34 (AF Try.f34) (C34b.xs N) (AD (C34b.L N)) (C34b.val N) (C34b.keep N) [] []
abbrev AVQ a b:=BAA AC (AS a b)
abbrev MY a:=(@Ne Int) a 0
attribute [go_sem] AVQ MY
theorem BQK (N : NetL) : (V34b N) = (JY (SC N (MY (Ov (IF N))) (VK (EU N) (Sg N))) (Ov (IF N)) (AVQ (Ov N) (Ov (IF N))) Gz) := by kernel_rfl
theorem p34 (N : NetL) (h1 : AB N = 0) (h2 : (BH N).isSome = true) (h3 : ¬ 0 < EV N) (h4 : ∀ i : Nat, i < (AI N).all.length -> (JM (AI N) i).isSome = true) : V34 N := by
 rw [vc34]<;> delta Gq hd5 Ou Ok IJ ED AG VK ON AS BT EP WC IK Tt bX tW hd28 hd29 hd30 Hi ZT xM Oi Xb QN Sx MP hd55 pQ hd62 hd76 SM BAG VZ PM iC qX Fg Yw mV LC lK ES Gz vV xG wH gP CI YC N9 AY AJ Fa M7 ADO O9 EY BAV BG HJ AR mT gY DU WN QS AKJ hZ qO zZ BCE lE ADZ AM AT Es OK gR CU CY AXQ BBJ IW MF Uk EJ FQ O7 AC IS qI AQX IF ER ARZ Lq MB WA EC GT Tp AP HA M9 NJ IV RY Uu pZ He iD ABZ FJ Hc UQ IT O1 AJP FR Uh gQ OT LY EQ GP AKE Q0 AIT SX qY kE JU FG Lc jS KX Fl GF AER AU mB AIY LD Lf oJ MH XQ xB ASK AGN RG ANW J0 Fb My VB HV LH QJ CG Sr KO AAB CB DE Vz Bk AME vK PU AZ EN VS tN I1 FP TQ EF vM tQ AHD FB GC BM UG OB Ed OD ABC BF VR PF BX EO HW ALO tG AEB BU ZJ VA EU IL Nl VO Nu mK cB Kg ANV AEY lW AAD sJ dW Wv GU LQ RH Gf GZ AOY Qk MK JH Y8 MO dE Ao Vy Qb sN VI sE Ir Mj QA tB Nv oP uD YU TT SJ AMG tY Gc ADS uN Gi Fc Sg Rt Bl Be Uf Vo Vi Bo Jq No Oc Xn Vk Wr eA bV Vh Wx AGY dL bD dF oG fO aY iQ jG ZN; simp only [CC, eq_self, implies_true, forall_const, DL.d6, DL.d7, DL.d8]
 obtain ⟨l1, l2, l3⟩ := VX h2
 have hg := BB h1
 have g1 := hg.g1
 have g8 := hg.g8
 have r14 := hg.r14
 have hok := wT h1 h2
 have hF : ∀ i, i < (AI N).nR -> gD (Zj N) i = (JM (AI N) (i : Nat)).getD default := λ i hi => by
  unfold Zj
  have : gD ((Uv (AI N)).take (AI N).nR) i = gD (Uv (AI N)) i := by
   simp only [gD, List.getD_eq_getElem?_getD]; rw [List.getElem?_take_of_lt hi]
  rw [this]; exact DY (λ (i : Nat) => (JM (AI N) i).getD default) (by omega)
 have hG : ∀ j, (AI N).nR + j < (AI N).all.length -> gD (qL N) j = (JM (AI N) (((AI N).nR + j : Nat) : Int)).getD default := λ j hj => by
  unfold qL
  have : gD ((Uv (AI N)).drop (AI N).nR) j = gD (Uv (AI N)) ((AI N).nR + j) := by
   simp only [gD, List.getD_eq_getElem?_getD, List.getElem?_drop]
  rw [this]; exact DY (λ (i : Nat) => (JM (AI N) i).getD default) hj
 have hFl : (Zj N).length = (AI N).nR := by simp [Zj, Uv]; omega
 have hGl : (qL N).length = (AI N).all.length - (AI N).nR := by simp [qL, Uv]
 rw [hFl, hGl]
 generalize (AI N).all.length = n at *
 generalize (AI N).nR = q at *
 refine ⟨⟨h1, h2, h3⟩, ⟨0, rfl, rfl⟩, λ k hk => ⟨λ hlt => ⟨⟨hok, ⟨by omega, hlt⟩, h4 k (by omega)⟩, λ hq => ?_, λ hq => ?_⟩, λ hge => by omega⟩, λ k hk => ⟨λ hlt => ⟨⟨hok, ⟨by omega, hlt⟩, h4 k (by omega)⟩, λ hq => ?_, λ hq => ?_⟩, λ hge => by omega⟩, λ k hk => ⟨λ hlt => ⟨⟨hok, ⟨by omega, hlt⟩, h4 k (by omega)⟩, λ hq => by omega, λ hq => ?_⟩, λ hge => by omega⟩, λ k hk => ⟨λ hlt => ⟨⟨hok, ⟨by omega, hlt⟩, h4 k (by omega)⟩, λ hq => by omega, λ hq => ?_⟩, λ hge => by omega⟩⟩
 ·subst hk
  refine ⟨⟨by decide, by decide, by decide, by decide, by decide⟩, 1, ⟨rfl, rfl, rfl, λ i hi => ?_⟩, by omega, by omega⟩
  have : i = 0 := by omega
  subst this; rw [hF 0 (by omega)]; exact ⟨rfl, rfl⟩
 ·subst hk
  have hq0 : q = 0 := by omega
  refine ⟨⟨by decide, by decide, by decide, by decide, by decide⟩, 1, ⟨rfl, rfl, rfl, λ i hi => ?_⟩, by omega, by omega⟩
  have : i = 0 := by omega
  subst this; rw [hG 0 (by omega), hq0]; exact ⟨rfl, rfl⟩
 ·refine ⟨⟨by decide, by decide, by omega, by omega⟩, k + 1, ⟨rfl, (AL (by omega)).symm, rfl, λ i hi => ?_⟩, by omega, by omega⟩
  by_cases hi2 : i < k
  ·simp [hi2]
  ·have : i = k := by omega
   subst this
   simp only [hi2, decide_false, cond_false]
   rw [hF i (by omega)]; exact ⟨rfl, rfl⟩
 ·have hk2 : k = q := by omega
  subst hk2
  refine ⟨⟨by decide, by decide, by decide, by decide, by decide⟩, k + 1, ⟨rfl, by omega, (AL (by omega)).symm, rfl, by omega, λ i hi => ?_⟩, by omega, by omega⟩
  have : i = 0 := by omega
  subst this; rw [hG 0 (by omega)]; exact ⟨rfl, rfl⟩
 ·refine ⟨⟨by decide, by decide, by omega, by omega⟩, k + 1, ⟨by omega, (AL (by omega)).symm, by omega, λ i hi => ?_⟩, by omega, by omega⟩
  by_cases hi2 : i < k - q
  ·simp [hi2]
  ·have : i = k - q := by omega
   subst this
   simp only [hi2, decide_false, cond_false]
   rw [hG (k - q) (by omega), show q + (k - q) = k by omega]; exact ⟨rfl, rfl⟩
 ·refine ⟨⟨by decide, by decide, by omega, by omega⟩, k + 1, ⟨rfl, (AL (by omega)).symm, rfl, λ i hi => ?_⟩, by omega, by omega⟩
  by_cases hi2 : i < k
  ·simp [hi2]
  ·have : i = k := by omega
   subst this
   simp only [hi2, decide_false, cond_false]
   rw [hG i (by omega), show q + i = i by omega]; exact ⟨rfl, rfl⟩
theorem p34b (N : NetL) (h1 : WM N ≠ 0) (h2 : AB N = 0 -> (BH N).isSome = true) : V34b N := by
 rw [BQK]<;> simp only [go_sem]; simp only [CC, eq_self, implies_true, forall_const, DL.d6, DL.d7, DL.d8]
 exact ⟨⟨h1, h2⟩, by simp [h1]⟩
theorem ok34 : AH Try.prog 34 (C34.spec fT) := UY C34 A34 [] [210, 211] Try.func34 (λ _ => by kernel_rfl) (λ _ => AA ok73 (AA ok74 AE)) (λ N h => p34 N h.1 h.2.1 h.2.2.1 h.2.2.2) (λ _ => WR rfl rfl) _
end Go.Bal
