/- Package balance: copied, span, settled, fitting. -/
import Derived.Test.YtonddbmhljelgaaBalI
set_option linter.unusedVariables false
set_option linter.unusedSimpArgs false
namespace Go.Bal
open Go Go.Sym Go.Proofs
structure NW where
 n : Nat
 g : Nat -> Way
def rowW (n : Nat) (g : Nat -> Way) : AObj := .row 5 n λ i => eWay (g i)
def A100 : Ann := { ann 8 [] with E := [100], mt := λ id => id == 3 }
def C100 : Ctr := { ro := [100], α := NW, xs := λ a => [.own 100 5 0 a.n], L := λ a => [(100, rowW a.n a.g)], val := λ a => .own 0 5 0 a.n, keep := λ a => [(100, .live (rowW a.n a.g)), (0, .live (rowW a.n a.g))], pre := λ a => [0 < a.n /\ a.n <= 1000] }
def d100 : List AVal -> Heap -> Option (NW × List (Nat × Nat) × List Nat)
 | [.own id _ _ n], H => match H id with
  | .live (.row _ _ get) => some (⟨n, λ i => dWay (get i)⟩, [(100, id)], [])
  | _ => none
 | _, _ => none
def V100 (a : NW) : Prop := BN Try.prog A100 Try.f100 (AF Try.f100) (C100.xs a) (AD (C100.L a)) (C100.val a) (C100.keep a) [(0, 4032)] []
theorem BRD (a : NW) : (V100 a) = (((0 = 0 /\ (0 < 0 -> 5 = 5)) /\ (0 + a.n <= a.n /\ (0 < a.n -> 5 = 5)) /\ (false = true -> 0 < a.n) /\ 0 + a.n <= 9223372036854775807 /\ (0 + a.n) * 40 <= 140737488355328) /\ 0 = 0 /\ a.n = 0 + a.n
 /\ a.n = a.n /\ (∀ (i : Nat), i < a.n -> (a.g i).fr = (a.g i).fr /\ (a.g i).to = (a.g i).to /\ (a.g i).sp.lo = (a.g i).sp.lo /\ (a.g i).sp.hi = (a.g i).sp.hi /\ (a.g i).now = (a.g i).now) /\ a.n = 0 + a.n /\ ∀ (i : Nat), i < a.n
 -> (a.g i).fr = (a.g (0 + (i - 0))).fr /\ (a.g i).to = (a.g (0 + (i - 0))).to /\ (a.g i).sp.lo = (a.g (0 + (i - 0))).sp.lo /\ (a.g i).sp.hi = (a.g (0 + (i - 0))).sp.hi /\ (a.g i).now = (a.g (0 + (i - 0))).now) := by
 kernel_rfl
theorem p100 (a : NW) (h : 0 < a.n /\ a.n <= 1000) : V100 a := by
 rw [BRD]; simp only [CC, eq_self, implies_true, forall_const]
 exact ⟨⟨Nat.le_refl _, λ _ => h.1, by omega, by omega⟩, λ _ _ => ⟨rfl, rfl, rfl, rfl, rfl⟩⟩
theorem BPM : AH Try.prog 100 (C100.spec d100) := UY C100 (λ _ => A100) [(0, 4032)] [] Try.func100 (λ _ => by kernel_rfl) (λ _ => AE) p100 (λ _ => WR rfl rfl) _
def A75 : Ann := { ann 21 [(100, C100.spec d100)] with E := [100, 101] }
def C75 : Ctr := { ro := [100, 101], α := Desk, xs := λ _ => [.bptr 100 0], L := Kv, val := λ _ => .bptr 0 0, keep := λ d => Le d ++ [(0, .live (B5 d 1)), (1, .live (zK d))], pre := λ d => [0 < d.all.length /\ d.all.length <= 1000] }
def V75 (d : Desk) : Prop := BN Try.prog A75 Try.f75 (AF Try.f75) (C75.xs d) (AD (C75.L d)) (C75.val d) (C75.keep d) [(0, 2272), (1, 2080)] []
abbrev Gj a:=EP a 1000
attribute [go_sem] Gj
theorem vc75 (d : Desk) : (V75 d) = (Ao (BF (Gx (WL d) (mU (rN d) (WL d) (KO (FQ d)) (Gj (FQ d))))) (WL d) d (λ i=>jT i d) AC (AAV d)) := by kernel_rfl
theorem p75 (d : Desk) (h : 0 < d.all.length /\ d.all.length <= 1000) : V75 d := by
 rw [vc75]<;> simp only [go_sem]; simp only [CC, eq_self, implies_true, forall_const]
 exact h
theorem ok75 : AH Try.prog 75 (C75.spec Zi) := UY C75 (λ _ => A75) [(0, 2272), (1, 2080)] [] Try.func75 (λ _ => by kernel_rfl) (λ _ => AA BPM AE) p75 (λ _ => WR rfl rfl) _
structure DI where
 d : Desk
 at' : Int
def dDI : List AVal -> Heap -> Option (DI × List (Nat × Nat) × List Nat)
 | [.bptr id _, .d (.v (.int _ q))], H => match Do H id with
  | some (d, r) => some (⟨d, q⟩, [(100, id), (101, r)], [])
  | none => none
 | _, _ => none
def A74 : Ann := { ann 36 [(75, C75.spec Zi), (77, C77.spec d77)] with E := [100, 101] }
def C74 : Ctr := { ro := [100, 101], α := DI, xs := λ a => [.bptr 100 0, .int a.at'], L := λ a => Kv a.d, val := λ a => .d (OW ((JM a.d a.at').getD default)), keep := λ a => Le a.d, pre := λ a => [a.d.ok, 0 <= a.at' /\ a.at' < a.d.all.length, (JM a.d a.at').isSome = true] }
def V74 (a : DI) : Prop := BN Try.prog A74 Try.f74 (AF Try.f74) (C74.xs a) (AD (C74.L a)) (C74.val a) (C74.keep a) [] []
abbrev CT:=DI.d
abbrev Aa:=DI.at'
abbrev nU a b c d:=Gt (SA.mk a b c d)
abbrev VF a:=APP (qI (CT a))
abbrev dI a b:=Gy (VF a) (CT b)
abbrev uN a:=(@Option.getD Span) a (@default Span instInhabitedSpan)
abbrev sN a:=LY ((@Option.isSome (Prod Desk Int)) a)
abbrev tC a:=RG (CT a)
abbrev Bi a b:=AS a (hd76 b)
attribute [go_sem] CT Aa nU VF dI uN sN tC Bi
theorem vc74 (a : DI) : (V74 a) = (AP (vD (UG (CT a)) (Jq (OT (CT a)) (CT a) (UG (CT a)) (λ i=>GZ i (CT a) (GU (CT a) i) (EN (CT a) i) (FG (CT a) i) (JU (CT a) i) (FJ (CT a) i) (IT (CT a) i) (EY (CT a) i)) (ZN (J9 (CT a)) (OT (CT a)) (CT a) (λ i=>KV i (CT a) (MO (CT a) i) (FG (CT a) i) (EN (CT a) i) (FJ (CT a) i) (JU (CT a) i) (EY (CT a) i) (IT (CT a) i)) (And (KO (tC a)) (Gj (tC a))) AC (YW (CT a) (λ i=>GZ i (CT a) (GU (CT a) i) (EN (CT a) i) (FG (CT a) i) (JU (CT a) i) (FJ (CT a) i) (IT (CT a) i) (EY (CT a) i)) (λ i=>KV i (CT a) (MO (CT a) i) (FG (CT a) i) (EN (CT a) i) (FJ (CT a) i) (JU (CT a) i) (EY (CT a) i) (IT (CT a) i)) (KO (tC a)) (Gj (tC a)))))) (PD (Aa a) (QS hd5) (Bi 100000000 100000000) (ZN (Uh (VF a) (tC a)) (OT (CT a)) (CT a) (λ i=>JL i (VF a) (NS (VF a) i (vM (CT a) i)) (HT (VF a) i) (EN (CT a) i) (IS (VF a) i) (JU (CT a) i) (QN (VF a) i) (IT (CT a) i)) (Em (VF a) (CT a)) (cO (Aa a) (VF a)) (sN (YG (dI a a) (Aa a) hd5 100000000)))) (PD (Aa a) VS (Bi 100000000 100000000) (ZN (Uh (VF a) (tC a)) (OT (CT a)) (CT a) (λ i=>JL i (VF a) (NS (VF a) i (vM (CT a) i)) (HT (VF a) i) (EN (CT a) i) (IS (VF a) i) (JU (CT a) i) (QN (VF a) i) (IT (CT a) i)) (Em (VF a) (CT a)) (cO (Aa a) (VF a)) (sN (YG (dI a a) (Aa a) Hi 100000000)))) (Bo (AP (Xs (Aa a) (nU (dI a a) (Aa a) hd5 100000000)) (ON (PA (Aa a)) (FQ (nU (dI a a) (Aa a) hd5 100000000))) (Xs (Aa a) (nU (dI a a) (Aa a) Hi 100000000)) (YN (PA (Aa a)) (FQ (nU (dI a a) (Aa a) Hi 100000000)))) (MB (uN (JM (CT a) (Aa a))) (Us (nU (dI a a) (Aa a) hd5 100000000) (TR (Aa a)))) (MF (uN (JM (CT a) (Aa a))) (Us (nU (dI a a) (Aa a) Hi 100000000) (TR (Aa a)))) (AAV (CT a)))) := by kernel_rfl
theorem W0 {d d' : Desk} {fr to most q : Int} {m : Map} (h : Nn d fr to m most = some (d', q)) : d'.all.length = d.all.length /\ d'.out = d.out /\ d'.nR = d.nR := by
 unfold Nn at h
 split at h
 ·cases h
 ·split at h
  ·cases h; exact ⟨DR _ _ _, rfl, rfl⟩
  ·cases h
theorem bB {at' : Int} {up : Bool} {most : Int} : ∀ {k : Nat} {d d' : Desk} {t t' : Int}, YP at' up most k d t = some (d', t') -> d'.all.length = d.all.length /\ d'.out = d.out /\ d'.nR = d.nR
 | 0, _, _, _, _, h => by cases h
 | k + 1, d, d', t, t', h => by
  simp only [YP] at h
  split at h
  ·split at h
   ·cases h
   ·split at h
    ·cases h; exact ⟨rfl, rfl, rfl⟩
    ·split at h
     ·cases h
     ·rename_i hm
      have h1 := W0 hm
      have h2 := bB h
      rw [Sb] at h2
      exact ⟨h2.1.trans h1.1, h2.2.1.trans h1.2.1, h2.2.2.trans h1.2.2⟩
  ·cases h; exact ⟨rfl, rfl, rfl⟩
theorem p74 (a : DI) (hd : a.d.ok) (hat : 0 <= a.at' /\ a.at' < a.d.all.length) (hr : (JM a.d a.at').isSome = true) : V74 a := by
 rw [vc74]<;> simp only [go_sem]; simp only [CC, eq_self, implies_true, forall_const]
 have hlen := hd.len
 unfold JM at hr ⊢
 split at hr
 ·rename_i l tl h hh e1 e2
  have r1 : (SA.mk a.d a.at' false 100000000).res = (l, tl) := by unfold SA.res; simp only; rw [e1]; rfl
  have r2 : (SA.mk a.d a.at' true 100000000).res = (h, hh) := by unfold SA.res; simp only; rw [e2]; rfl
  have l1 := (bB e1).1
  have l2 := (bB e2).1
  have r1' : (SA.mk ⟨a.d.all, a.d.out, a.d.nR⟩ a.at' false 100000000).res = (l, tl) := r1
  have r2' : (SA.mk ⟨a.d.all, a.d.out, a.d.nR⟩ a.at' true 100000000).res = (h, hh) := r2
  have e1' : YG ⟨a.d.all, a.d.out, a.d.nR⟩ a.at' false 100000000 = some (l, tl) := e1
  have e2' : YG ⟨a.d.all, a.d.out, a.d.nR⟩ a.at' true 100000000 = some (h, hh) := e2
  rw [r1', r2', e1, e2]
  simp only
  rw [l1, l2]
  exact ⟨⟨by omega, by omega⟩, ⟨rfl, hd, hat, rfl⟩, ⟨rfl, hd, hat, rfl⟩, ⟨hat, by omega, hat, by omega⟩, rfl, rfl⟩
 ·cases hr
theorem ok74 : AH Try.prog 74 (C74.spec dDI) := UY C74 (λ _ => A74) [] [] Try.func74 (λ _ => by kernel_rfl) (λ _ => AA ok75 (AA ok77 AE)) (λ a h => p74 a h.1 h.2.1 h.2.2) (λ _ => WR rfl rfl) _
end Go.Bal

namespace Go.Bal
open Go Go.Sym Go.Proofs
def Wy (N : NetL) : Net := ⟨N.g.length, λ i => gD N.g i, N.r.length, λ i => gD N.r i⟩
def AB (N : NetL) : Int := QB (Wy N)
def AI (N : NetL) : Desk := ((BH N).getD default).1
def EV (N : NetL) : Int := ((BH N).getD default).2
def nilP : AVal := .d (.v (.pointer none))
theorem CV {a b c : Int} : inM a b c = true ↔ b <= a /\ a <= c := by simp [inM]
theorem E4 {s : Span} : RX s = true ↔ (-1000000 <= s.lo /\ s.lo <= s.hi) /\ s.hi <= 1000000 := by
 unfold RX; simp only [Bool.and_eq_true, CV]; omega
theorem N2 {e : Nat -> Int} : ∀ {n k : Nat}, QY e n k = 0 -> ∀ i, k <= i -> i < k + n -> e i = 0
 | 0, k, _, i, h1, h2 => by omega
 | n + 1, k, h, i, h1, h2 => by
  simp only [QY] at h
  by_cases he : e k = 0
  ·rw [if_pos he] at h
   by_cases hi : i = k
   ·subst hi; exact he
   ·exact N2 h i (by omega) (by omega)
  ·rw [if_neg he] at h; exact absurd h he
structure Good (N : NetL) : Prop where
 g1 : 1 <= N.g.length
 g8 : N.g.length <= 8
 r14 : N.r.length <= 14
 g : ∀ i, i < N.g.length -> (-1000000 <= (gD N.g i).lo /\ (gD N.g i).lo <= (gD N.g i).hi) /\ (gD N.g i).hi <= 1000000
 r : ∀ i, i < N.r.length -> ((-1000000 <= (gD N.r i).sp.lo /\ (gD N.r i).sp.lo <= (gD N.r i).sp.hi) /\ (gD N.r i).sp.hi <= 1000000) /\ (0 <= (gD N.r i).fr /\ (gD N.r i).fr < N.g.length) /\ (0 <= (gD N.r i).to /\ (gD N.r i).to < N.g.length) /\ (gD N.r i).fr ≠ (gD N.r i).to
theorem BB {N : NetL} (h : AB N = 0) : Good N := by
 unfold AB QB at h
 split at h
 ·cases h
 rename_i h1
 split at h
 case isFalse => cases h
 rename_i h2
 have h1 : inM (Wy N).nG 1 8 = true /\ ¬ 14 < (Wy N).nR := by
  simp only [Bool.or_eq_true, Bool.not_eq_true', decide_eq_true_eq, not_or, Bool.not_eq_false] at h1; exact h1
 have h3 := CV.1 h1.1
 have hg : (Wy N).nG = N.g.length := rfl
 have hr : (Wy N).nR = N.r.length := rfl
 rw [hg] at h3
 have h14 := h1.2
 rw [hr] at h14
 refine ⟨by omega, by omega, by omega, λ i hi => E4.1 (PE.1 h2 i hi), λ i hi => ?_⟩
 have := N2 h i (Nat.zero_le _) (by rw [hr]; omega)
 unfold Pj at this
 split at this
 ·cases this
 rename_i h4
 split at this
 ·rename_i h5
  have h4 : (inM (gD N.r i).fr 0 ((Wy N).nG - 1) = true /\ inM (gD N.r i).to 0 ((Wy N).nG - 1) = true) /\ ¬ (gD N.r i).fr = (gD N.r i).to := by
   simp only [Bool.or_eq_true, Bool.not_eq_true', decide_eq_true_eq, not_or, Bool.not_eq_false] at h4; exact h4
  have h6 := CV.1 h4.1.1
  have h7 := CV.1 h4.1.2
  rw [hg] at h6 h7
  exact ⟨E4.1 h5, by omega, by omega, h4.2⟩
 ·cases this
theorem A2 {N : NetL} (h : Good N) : (AO N).ok := by
 have h1 := h.g1
 have h8 := h.g8
 have h14 := h.r14
 refine ⟨h.g8, by rw [CW]; omega, ?_, λ i hi => ?_⟩
 ·rw [CW]; exact Nat.le_refl _
 ·rw [CW] at hi
  rw [IZ, Ex _ (by rw [NY]; exact hi)]
  show (0 <= (gD (CD N) i).fr /\ (gD (CD N) i).fr < ((N.g.length : Nat) : Int) + 2) /\ 0 <= (gD (CD N) i).to /\ (gD (CD N) i).to < ((N.g.length : Nat) : Int) + 2
  by_cases hr : i < N.r.length
  ·rw [Xh hr]
   obtain ⟨_, h2, h3, _⟩ := h.r i hr
   exact ⟨⟨h2.1, by show (gD N.r i).fr < _; omega⟩, h3.1, by show (gD N.r i).to < _; omega⟩
  ·obtain ⟨j, rfl⟩ : ∃ j, i = N.r.length + j := ⟨i - N.r.length, by omega⟩
   rw [Vw (by omega)]
   exact ⟨⟨by simp, by show ((N.g.length : Nat) : Int) < _; omega⟩, by simp, by show ((j : Nat) : Int) < _; omega⟩
def BPN (d d' : Desk) : Prop := d'.all.length = d.all.length /\ d'.out = d.out /\ d'.nR = d.nR
theorem jY : ∀ {k : Nat} {d d' : Desk}, PI k d = some d' -> BPN d d'
 | 0, _, _, h => by cases h
 | k + 1, d, d', h => by
  simp only [PI] at h
  split at h
  ·cases h; exact ⟨rfl, rfl, rfl⟩
  ·split at h
   ·cases h
   ·rename_i d1 hd1
    have h2 := jY h
    unfold XO at hd1
    simp only at hd1
    split at hd1
    ·cases hd1
    split at hd1
    ·cases hd1
    split at hd1
    ·cases hd1
    rename_i hm
    cases hd1
    have h1 := W0 hm
    exact ⟨h2.1.trans h1.1, h2.2.1.trans h1.2.1, h2.2.2.trans h1.2.2⟩
theorem K4 {N : NetL} (h : (BH N).isSome = true) : MJ (AO N) = some (AI N) /\ EV N = VV N (AW (AI N)) := by
 unfold AI EV
 unfold BH at h ⊢
 split at h
 ·cases h
 ·rename_i d hd
  rw [hd]; exact ⟨rfl, rfl⟩
theorem VX {N : NetL} (h : (BH N).isSome = true) : (AI N).all.length = N.r.length + N.g.length /\ (AI N).out = N.g.length /\ (AI N).nR = N.r.length := by
 have h1 := jY (K4 h).1
 exact ⟨h1.1.trans (CW N), h1.2.1, h1.2.2⟩
def A55 : Ann := ann 21 [(44, s44), (67, C67.spec fT), (68, C68.spec Zi), (56, C56.spec Zi), (70, C70.spec d70)]
def C55 : Ctr := { α := NetL, xs := λ N => [.d (LW N)], L := λ _ => [], val := λ N => .tup [.bptr 0 0, .int (EV N), .int 0], keep := λ N => [(0, .live (B5 (AI N) 1)), (1, .live (zK (AI N)))], pre := λ N => [AB N = 0, (BH N).isSome = true] }
def V55 (N : NetL) : Prop := BN Try.prog A55 Try.f55 (AF Try.f55) (C55.xs N) (AD (C55.L N)) (C55.val N) (C55.keep N) [(0, 5016), (1, 5017)] []
abbrev vV:=@NO Span
abbrev xG:=@NO Reach
abbrev wH:=NetL.mk
abbrev BIN:=@Option.isSome Desk
abbrev gP:=EV
abbrev O3:=TruthL.mk
abbrev CI:=AI
abbrev UD a:=SO a 0
abbrev JY a b c d:=EG a (UD b) c d
abbrev ADO a b:=vV a (λ i=>ES b i)
abbrev O9 a b:=ADO a (lK b)
abbrev gY a:=O9 (AY a) a
abbrev zZ a b:=wH (gY a) b
abbrev M7 a (b:Nat->Reach):=xG (PM a) b
abbrev mT a:=M7 (iC a) (λ i=>Fa a i)
abbrev ADZ a b:=zZ a (mT b)
abbrev EE a:=LZ (ADZ a a)
abbrev DH a:=Pa (Lq (EE a))
abbrev Fc a b:=EY (CI a) b
abbrev Gi a b:=FJ (CI a) b
abbrev Gc a b:=FG (CI a) b
abbrev FP a:=FQ (CI a)
abbrev Kh a:=MP (DH a)
abbrev GC a:=MP (CI a)
abbrev Bb a:=Sx (DH a)
abbrev Wr a b:=ED (FP a) b
abbrev oH a:=qH (Lq a)
abbrev Wi a:=Zq (oH (DH a))
abbrev mW a:=Zo (oH (DH a))
abbrev IF a:=ADZ a a
abbrev bY a b c:=Xa a (OT b) c
abbrev OK a:=LC (gY a)
abbrev HA a:=PM (mT a)
abbrev uI a:=Gj (HA a)
abbrev ATO a b c:=Vg a b (Gj c)
abbrev Hh a:=ATO 1 (OK a) (OK a)
abbrev AER a b c d e f g h p:=O7 a b c (AS d e) (RY f g) (WA h p)
abbrev vK a b c d e f g h:=AER a (HA b) c d (EC e f) g h g h
abbrev lE a b:=Fg (mT a) b
abbrev He a b:=mV (lE a b)
abbrev Hc a b:=Yw (lE a b)
abbrev Q0 a b:=qX (lE a b)
abbrev Ed a b:=QJ (Q0 a b) a b
abbrev ABC a b c d e f g:=vK a b (Ed c d) (Hc e f) b a (He b a) g
abbrev HW a b:=ABC a b b a b a (CY b a)
abbrev AGN a b:=ED (HA a) b
abbrev DE a:=AGN a (AM a)
abbrev AKE a b c d e:=Es a b c (WA d e)
abbrev AIY a b c d e f:=AKE a b c d (CU e f)
abbrev M9 a b:=ES (gY a) b
abbrev J0 a b c d e f g:=AIY a b c (M9 d e) f g
abbrev Bk a b:=gQ (M9 a b) a b
abbrev OD a b:=J0 a (OK b) (Bk b a) b a b a
abbrev My a b:=ED (OK a) b
abbrev OB a:=My a (AY a)
abbrev Wt a b:=ATO 1 a (RG b)
abbrev uC a:=LY (BIN (MJ a))
abbrev Ck a (b:Nat->Prop) c (d:Nat->Prop) e f:=And a (EO b c d e f)
abbrev L3 a b c (d:Nat->Prop) e f:=Ck a (λ i=>OD i b) c d e f
abbrev J8 a b (c:Nat->Prop) d e:=L3 a b (DE b) c d e
abbrev L5 a b c d e:=J8 a b (λ i=>HW i c) d e
abbrev SC a b c:=L5 (OB a) a a b c
abbrev AMY a (b:Nat->Span) c (d:Nat->Reach):=QB (Net.mk a b c d)
abbrev ACF a b c d:=AMY a (λ i=>CU b i) c (λ i=>Fa d i)
abbrev rR a b:=ACF a b (AM b) b
abbrev Qs a:=rR (AY a) a
abbrev tX a b:=HJ a b SM
abbrev H9 a:=AG (λ i=>tX i a)
abbrev AGD a b:=iV (H9 a) (λ i=>tX i b)
abbrev Xj a b:=AGD a (AM b)
attribute [go_sem] vV xG wH BIN gP O3 CI UD JY ADO O9 gY zZ M7 mT ADZ EE DH Fc Gi Gc FP Kh GC Bb Wr oH Wi mW IF bY OK HA uI ATO Hh AER vK lE He Hc Q0 Ed ABC HW AGN DE AKE AIY M9 J0 Bk OD My OB Wt uC Ck L3 J8 L5 SC AMY ACF rR Qs tX H9 AGD Xj
theorem vc55 (N : NetL) : (V55 N) = (JY (Xj (AY N) N) (Qs N) Gz (AJ (SC N (Hh N) (TB (HA N) 1000)) (bY (UG (EE N)) (EE N) (FR (SX (EE N)) (UG (EE N)) (λ i=>GZ i (EE N) (GU (EE N) i) (EN (EE N) i) (FG (EE N) i) (JU (EE N) i) (FJ (EE N) i) (IT (EE N) i) (EY (EE N) i)) (VZ (Lq (EE N))) (uC (Lq (EE N))))) (Bo (bY (UG (DH N)) (DH N) (FR (SX (DH N)) (UG (DH N)) (λ i=>GZ i (DH N) (GU (DH N) i) (EN (DH N) i) (FG (DH N) i) (JU (DH N) i) (FJ (DH N) i) (IT (DH N) i) (EY (DH N) i)) AC (VO (J9 (DH N)) (DH N) (NF (AG (λ i=>KV i (DH N) (MO (DH N) i) (FG (DH N) i) (EN (DH N) i) (FJ (DH N) i) (JU (DH N) i) (EY (DH N) i) (IT (DH N) i))) (Wt (Bb N) (DH N)) (EP (Oi (Kh N) (Bb N)) (RG (DH N))) (OB N) (λ i=>OD i N) (DE N) (λ i=>HW i N) (Bv (Kh N) (mW N)) (SH (BM (Kh N)) (fA (Kh N) (mW N)) (Bv (Bb N) (Wi N)) (BM (Bb N)) (λ i=>aK i (Dd (Bb N) (Wi N)) (Wi N)) (Hh N) (uI N) (Fx (Kh N) (mW N) (HA N)) (Fx (Bb N) (Wi N) (OK N))))))) (AS (gP N) (jC (IF N) (O3 (Dd (Kh N) (mW N)) (Dd (Bb N) (Wi N))))) BX (Bl (Wr N (FQ (DH N))) (CI N) (Bb N) (GC N) (Kh N) (λ i=>TQ i (FP N) (ZJ (CI N) i (Lf (DH N) i)) (Gc N i) (FG (DH N) i) (Gi N i) (FJ (DH N) i) (Fc N i) (EY (DH N) i)))))) := by kernel_rfl
def C55b : Ctr := { α := NetL, xs := λ N => [.d (LW N)], L := λ _ => [], val := λ N => .tup [nilP, .int 0, .int (AB N)], keep := λ N => [], pre := λ N => [AB N ≠ 0] }
def V55b (N : NetL) : Prop := BN Try.prog A55 Try.f55 (AF Try.f55) (C55b.xs N) (AD (C55b.L N)) (C55b.val N) (C55b.keep N) [] []
abbrev YC:=AB
abbrev bP a b:=AS (YC a) b
attribute [go_sem] YC bP
theorem BQF (N : NetL) : (V55b N) = (JY (Xj (AY N) N) (Qs N) (AJ (hd99 (Value.pointer (@none Addr)) (Value.pointer (@none Addr))) BX (bP N (Qs N))) (AP (SC N (Hh N) (TB (HA N) 1000)) (bY (UG (EE N)) (EE N) (FR (SX (EE N)) (UG (EE N)) (λ i=>GZ i (EE N) (GU (EE N) i) (EN (EE N) i) (FG (EE N) i) (JU (EE N) i) (FJ (EE N) i) (IT (EE N) i) (EY (EE N) i)) (VZ (Lq (EE N))) (uC (Lq (EE N))))) (bY (UG (DH N)) (DH N) (FR (SX (DH N)) (UG (DH N)) (λ i=>GZ i (DH N) (GU (DH N) i) (EN (DH N) i) (FG (DH N) i) (JU (DH N) i) (FJ (DH N) i) (IT (DH N) i) (EY (DH N) i)) AC (VO (J9 (DH N)) (DH N) (NF (AG (λ i=>KV i (DH N) (MO (DH N) i) (FG (DH N) i) (EN (DH N) i) (FJ (DH N) i) (JU (DH N) i) (EY (DH N) i) (IT (DH N) i))) (Wt (Bb N) (DH N)) (EP (Oi (Kh N) (Bb N)) (RG (DH N))) (OB N) (λ i=>OD i N) (DE N) (λ i=>HW i N) (Bv (Kh N) (mW N)) (SH (BM (Kh N)) (fA (Kh N) (mW N)) (Bv (Bb N) (Wi N)) (BM (Bb N)) (λ i=>aK i (Dd (Bb N) (Wi N)) (Wi N)) (Hh N) (uI N) (Fx (Kh N) (mW N) (HA N)) (Fx (Bb N) (Wi N) (OK N))))))) Gz)) := by kernel_rfl
theorem XW (N : NetL) : QB (Net.mk N.g.length (λ (i : Nat) => gD N.g i) N.r.length (λ (i : Nat) => gD N.r i)) = AB N := rfl
theorem BAC (d : Desk) : NO d.nR (λ i => gD (AW d).f i) = (AW d).f := by
 have : d.nR = (AW d).f.length := by simp [AW]
 conv => lhs; rw [this]
 exact Sq _
theorem AYT (d : Desk) : NO d.out (λ i => gD (AW d).t i) = (AW d).t := by
 have : d.out = (AW d).t.length := by simp [AW]
 conv => lhs; rw [this]
 exact Sq _
theorem Gh (d : Desk) : (AW d).f.length = d.nR := by simp [AW]
theorem Et (d : Desk) : (AW d).t.length = d.out := by simp [AW]
theorem p55 (N : NetL) (h1 : AB N = 0) (h2 : (BH N).isSome = true) : V55 N := by
 obtain ⟨e1, e2⟩ := K4 h2
 obtain ⟨l1, l2, l3⟩ := VX h2
 have hg := BB h1
 have hb := A2 hg
 have := hg.g1
 have := hg.g8
 have := hg.r14
 rw [vc55]<;> simp only [go_sem]; simp only [CC, eq_self, implies_true, forall_const, DL.d6, DL.d7, DL.d8, XW, h1, BAC, AYT, Gh, Et, e1, Option.getD_some, bne_self_eq_false, Bool.false_eq_true, false_implies]
 rw [l1, l2, l3, e2]
 exact ⟨⟨⟨by omega, by omega⟩, by omega⟩, ⟨hb, rfl⟩, ⟨⟨by omega, by omega⟩, Nat.le_refl _, Nat.le_refl _, Nat.le_refl _, ⟨by omega, by omega⟩, by omega, rfl, rfl⟩, rfl⟩
theorem p55b (N : NetL) (h1 : AB N ≠ 0) : V55b N := by
 have hn : (AB N != 0) = true := by simpa using h1
 rw [BQF]<;> simp only [go_sem]; simp only [CC, eq_self, implies_true, forall_const, DL.d6, DL.d7, DL.d8, XW, hn, Bool.true_eq_false, false_implies]
def s55 : Sym.Spec := C55.spec fT
def s55b : Sym.Spec := C55b.spec fT
theorem BMP : GOk Try.prog A55.Γ := AA R7 (AA ok67 (AA ok68 (AA ok56 (AA ok70 AE))))
theorem ok55 : AH Try.prog 55 s55 := UY C55 (λ _ => A55) [(0, 5016), (1, 5017)] [] Try.func55 (λ _ => by kernel_rfl) (λ _ => BMP) (λ N h => p55 N h.1 h.2) (λ _ => WR rfl rfl) _
theorem APX : AH Try.prog 55 s55b := UY C55b (λ _ => A55) [] [] Try.func55 (λ _ => by kernel_rfl) (λ _ => BMP) (λ N h => p55b N h) (λ _ => WR rfl rfl) _
theorem AAW : ∀ {k : Nat} {d d' : Desk}, d.ok -> PI k d = some d' -> d'.ok
 | 0, _, _, _, h => by cases h
 | k + 1, d, d', hd, h => by
  simp only [PI] at h
  split at h
  ·cases h; exact hd
  ·split at h
   ·cases h
   ·rename_i d1 hd1
    refine AAW ?_ h
    unfold XO at hd1
    simp only at hd1
    split at hd1
    ·cases hd1
    split at hd1
    ·cases hd1
    split at hd1
    ·cases hd1
    rename_i hm
    cases hd1
    unfold Nn at hm
    split at hm
    ·cases hm
    ·split at hm
     ·cases hm; exact AML hd _ _
     ·cases hm
theorem wT {N : NetL} (h1 : AB N = 0) (h2 : (BH N).isSome = true) : (AI N).ok := AAW (A2 (BB h1)) (K4 h2).1
end Go.Bal
