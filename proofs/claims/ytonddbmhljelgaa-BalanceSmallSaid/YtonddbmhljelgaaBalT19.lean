/- Package balance: which reaches alone can be wrong. -/
import Derived.Test.YtonddbmhljelgaaBalT14
import Derived.Test.YtonddbmhljelgaaBalS
import Derived.Test.YtonddbmhljelgaaBalO
import Derived.Test.YtonddbmhljelgaaBalR
set_option linter.unusedVariables false
set_option linter.unusedSimpArgs false
namespace Go.Bal
open Go
variable {N : NetL} {T : TruthL}
theorem ABP (hg : Good N) {k : Nat} (hk : k < N.r.length) : GoodW (EZ N k) := by
 have e : ∀ i, gD (EZ N k).r i = if i = k then { (gD N.r k) with sp := wide } else gD N.r i := λ i => BD hk i
 refine ⟨hg.g1, hg.g8, by show (N.r.modify k _).length <= 14; rw [List.length_modify]; exact hg.r14, hg.w.g, λ i hi => ?_⟩
 have hi : i < N.r.length := by simpa [EZ] using hi
 rw [e]
 split
 ·obtain ⟨_, b⟩ := hg.r k hk
  exact ⟨by simp only [wide]; omega, b⟩
 ·exact hg.w.r i hi
theorem GO (N : NetL) (k : Nat) : (EZ N k).r.length = N.r.length := by simp [EZ]
theorem BDJ (hg : Good N) {k : Nat} (hk : k < N.r.length) : Alike (AO (EZ N k)) (TF N k) := by
 have e : ∀ i, gD (EZ N k).r i = if i = k then { (gD N.r k) with sp := wide } else gD N.r i := λ i => BD hk i
 refine ⟨rfl, by show N.r.length = (EZ N k).r.length; rw [GO], by rw [XY, CW, GO]; rfl, λ i hi => ?_⟩
 rw [CW, GO] at hi
 have hi : i < N.r.length + N.g.length := hi
 rw [lQ (by omega), IZ (EZ N k), Ex _ (by rw [NY, GO]; exact hi)]
 revert i
 refine QQ (λ i hi _ => ?_) (λ j hj _ => ?_)
 ·rw [Xh (N := EZ N k) (by rw [GO]; exact hi), e]
  by_cases he : i = k
  ·subst he
   rw [if_pos rfl, if_pos rfl, IZ N, Ex _ (by rw [NY]; omega), Xh hi]; exact ⟨rfl, rfl, rfl⟩
  ·rw [if_neg he, if_neg he, IZ N, Ex _ (by rw [NY]; omega), Xh hi]; exact ⟨rfl, rfl, rfl⟩
 ·rw [if_neg (by omega), IZ N, Ex _ (by rw [NY]; omega), Vw hj]
  have := Vw (N := EZ N k) (i := j) hj
  rw [GO] at this
  rw [this]; exact ⟨rfl, rfl, rfl⟩
structure CanX (N : NetL) (k : Nat) (T : TruthL) : Prop where
 f : T.f.length = N.r.length
 t : T.t.length = N.g.length
 r : ∀ i, i < N.r.length -> i ≠ k -> (gD N.r i).sp.lo <= gD T.f i /\ gD T.f i <= (gD N.r i).sp.hi
 k : -100000000 <= gD T.f k /\ gD T.f k <= 100000000
 g : ∀ j, j < N.g.length -> (gD N.g j).lo <= gD T.t j /\ gD T.t j <= (gD N.g j).hi
 bal : ∀ s, s < N.g.length -> balN N T s = 0
theorem ARI {k : Nat} (hk : k < N.r.length) (s : Nat) : balN (EZ N k) T s = balN N T s := by
 unfold balN
 rw [GO]
 congr 1
 refine BQ λ i hi => ?_
 rw [show gD (EZ N k).r i = if i = k then { (gD N.r k) with sp := wide } else gD N.r i from BD hk i]
 by_cases he : i = k
 ·subst he; rw [if_pos rfl]; rfl
 ·rw [if_neg he]
theorem AKL {d d' : Desk} {π : Int -> Int} {M : Int} (h : Fit d π M) (hz : ∀ v : Nat, v < 10 -> LM v d.all = 0) (hl : Alike d d') (hz' : ∀ v : Nat, v < 10 -> LM v d'.all = 0) : Fe d.all = YO π d.all /\ Fe d.all <= Fe d'.all := by
 have hlay := h.lay
 have hlay' := hlay.alike hl
 have hout := hlay.ok.out
 have m1 : ∀ w ∈ d.all, (0 <= w.fr /\ w.fr < 10) /\ 0 <= w.to /\ w.to < 10 := λ w hw => by have := hlay.mem hw; omega
 have m2 : ∀ w ∈ d'.all, (0 <= w.fr /\ w.fr < 10) /\ 0 <= w.to /\ w.to < 10 := λ w hw => by have := hlay'.mem hw; have := hlay'.ok.out; omega
 have e1 : YO π d.all = Fe d.all := ANI m1 hz (λ w hw => by
  obtain ⟨i, hi, rfl⟩ := Au hw
  have := h.sp i hi; omega) λ w hw => by
  obtain ⟨i, hi, rfl⟩ := Au hw
  exact h.opt i hi
 have e2 : YO π d'.all = YO π d.all := rK hl.len.symm λ i hi => hl.way i hi
 have e3 : YO π d'.all <= Fe d'.all := AMI m2 hz' λ w hw => by
  obtain ⟨i, hi, rfl⟩ := Au hw
  have hi' : i < d.all.length := by rw [<- hl.len]; exact hi
  obtain ⟨a, b, _⟩ := hl.way i hi'
  rw [a, b]
  have := h.opt i hi'
  unfold OptW at this; omega
 exact ⟨e1.symm, by omega⟩
theorem ABE (h : AB N = 0) {k : Nat} (hk : k < N.r.length) : (MJ (TF N k)).isSome = true /\ ∃ π, Fit (EX N k) π 2900000000 /\ (∀ v : Nat, v < 10 -> LM v (EX N k).all = 0) /\ Alike (AO (EZ N k)) (EX N k) /\ VV (EZ N k) (AW (EX N k)) = Fe (EX N k).all := by
 have hg := BB h
 have hw := ABP hg hk
 have hlike := BDJ hg hk
 have hlen := CW N
 have hLb := Pt hg
 have hLs : Lay (TF N k) := (Ze (T := AW (TF N k)) hw).alike (Cl JF hlike)
 have hsp : ∀ i, i < (TF N k).all.length -> (gD (TF N k).all i).now = (gD (AO N).all i).now /\ ((gD (TF N k).all i).sp = wide ∨ (gD (TF N k).all i).sp = (gD (AO N).all i).sp) := λ i hi => by
  rw [lQ (by omega)]
  by_cases he : i = k
  ·subst he; rw [if_pos rfl]; exact ⟨rfl, .inl rfl⟩
  ·rw [if_neg he]; exact ⟨rfl, .inr rfl⟩
 obtain ⟨d', π, h1, h2, h3, h4⟩ := P7 hLs (λ i hi => by
  have h5 := SI hg (i := i) (by rw [XY] at hi; omega)
  rcases (hsp i hi).2 with e | e
  ·rw [e]; simp only [wide]; omega
  ·rw [e]; omega) (λ i hi => by
  have h5 := SI hg (i := i) (by rw [XY] at hi; omega)
  rw [(hsp i hi).1]
  rcases (hsp i hi).2 with e | e
  ·rw [e]; simp only [wide]; omega
  ·rw [e]; omega) (λ i hi => by
  have h5 := SI hg (i := i) (by rw [XY] at hi; omega)
  rw [(hsp i hi).1]; omega)
 have hF : EX N k = d' := by unfold EX; rw [h1]; rfl
 rw [hF]
 have hl := hlike.trans h4
 exact ⟨by rw [h1]; rfl, π, h2, h3, hl, K9 hw hl λ i hi => by have := (h2.small (by omega) hi).now; omega⟩
theorem BGE {k : Nat} (hg : Good N) (hk : k < N.r.length) {d : Desk} (hl : Alike (AO (EZ N k)) d) (hz : ∀ v : Nat, v < 10 -> LM v d.all = 0) (hin : ∀ i, i < d.all.length -> (gD d.all i).sp.lo <= (gD d.all i).now /\ (gD d.all i).now <= (gD d.all i).sp.hi) : CanX N k (AW d) := by
 have hw := ABP hg hk
 have e : ∀ i, gD (EZ N k).r i = if i = k then { (gD N.r k) with sp := wide } else gD N.r i := λ i => BD hk i
 obtain ⟨e1, e2, e3⟩ := OC hl
 rw [GO] at e1 e2 e3
 have hnR : d.nR = N.r.length := by rw [hl.nR]; show (EZ N k).r.length = _; rw [GO]
 have hout : d.out = N.g.length := hl.out
 have e1 : d.all.length = N.r.length + N.g.length := e1
 have fR : ∀ i, i < N.r.length -> (gD (EZ N k).r i).sp.lo <= gD (AW d).f i /\ gD (AW d).f i <= (gD (EZ N k).r i).sp.hi := λ i hi => by
  rw [jX (by omega), <- (e2 i hi).1]; exact hin i (by omega)
 have fG : ∀ j, j < N.g.length -> (gD N.g j).lo <= gD (AW d).t j /\ gD (AW d).t j <= (gD N.g j).hi := λ j hj => by
  have := (e3 j hj).1
  rw [yE (by omega), hnR, show gD N.g j = gD (EZ N k).g j from rfl, <- this]; exact hin _ (by omega)
 have l1 : (AW d).f.length = N.r.length := by rw [Gh, hnR]
 have l2 : (AW d).t.length = N.g.length := by rw [Et, hout]
 have hT : Tk (AW d) := ⟨λ i hi => by have := fR i (by omega); have := (hw.r i (by rw [GO]; omega)).1; omega, λ j hj => by have := fG j (by omega); have := hg.g j (by omega); omega⟩
 refine ⟨l1, l2, λ i hi hne => ?_, hT.1 k (by omega), fG, λ s hs => ?_⟩
 ·have := fR i hi; rw [e, if_neg hne] at this; exact this
 ·rw [<- ARI hk]
  refine (yT hw (by rw [GO]; exact l1) l2 hT).1 ((oQ hw (by rw [GO]; exact l1) l2 hT).2 ?_) s hs
  rw [WP hl]; exact hz
theorem BAQ {k : Nat} (hg : Good N) (hk : k < N.r.length) (hT : CanX N k T) : (∀ v : Nat, v < 10 -> LM v (AV (EZ N k) T).all = 0) /\ Fe (AV (EZ N k) T).all = 0 := by
 have hw := ABP hg hk
 have e : ∀ i, gD (EZ N k).r i = if i = k then { (gD N.r k) with sp := wide } else gD N.r i := λ i => BD hk i
 have fR : ∀ i, i < N.r.length -> (gD (EZ N k).r i).sp.lo <= gD T.f i /\ gD T.f i <= (gD (EZ N k).r i).sp.hi := λ i hi => by
  rw [e]
  by_cases he : i = k
  ·subst he; rw [if_pos rfl]; exact hT.k
  ·rw [if_neg he]; exact hT.r i hi he
 have l1 : T.f.length = (EZ N k).r.length := by rw [GO]; exact hT.f
 have hs : Tk T := ⟨λ i hi => by have := fR i (by have := hT.f; omega); have := (hw.r i (by omega)).1; omega, λ j hj => by have := hT.g j (by have := hT.t; omega); have := hg.g j (by have := hT.t; omega); omega⟩
 refine ⟨(oQ hw l1 hT.t hs).1 ((yT hw l1 hT.t hs).2 λ s hs => by rw [ARI hk]; exact hT.bal s hs), AUP λ i hi => ?_⟩
 rw [EB, GO] at hi
 have hi : i < N.r.length + N.g.length := hi
 revert i
 refine QQ (λ i hi _ => ?_) (λ j hj _ => ?_)
 ·rw [NK (by rw [GO]; exact hi)]; exact fR i hi
 ·have := OU (N := EZ N k) (T := T) (j := j) hj
  rw [GO] at this
  rw [this]; exact hT.g j hj
theorem APS (h : AB N = 0) {k : Nat} (hk : k < N.r.length) : qS N k = true ↔ ∃ T, CanX N k T := by
 have hg := BB h
 obtain ⟨_, π, h1, h2, h3, h4⟩ := ABE h hk
 unfold qS
 rw [h4, decide_eq_true_eq]
 constructor
 ·intro h0
  exact ⟨_, BGE hg hk h3 h2 λ i hi => Y2 h0 hi⟩
 ·rintro ⟨T, hT⟩
  obtain ⟨a, b⟩ := BAQ hg hk hT
  have := (AKL h1 h2 (Cl h3 (JF (T := T))) a).2
  have : 0 <= Fe (EX N k).all := XP λ w _ => by unfold Ph; omega
  omega
end Go.Bal

namespace Go.Bal
open Go Go.Sym Go.Proofs
def Vb (n : Nat) : Int -> Int -> List Int -> Int
 | e, _, [] => e
 | e, last, s :: l => Vb n (if e = 0 then if inM s (wr (last + 1)) (wr ((n : Int) - 1)) then 0 else 2 else e) s l
def hY (a : NGr) : Int := Vb a.N.g.length (AB a.N) (-1) a.st
def yV (a : NGr) : Int := if hY a = 0 then if a.st.length = 0 then 2 else 0 else hY a
def Mt (a : NGr) : Int := if yV a = 0 then WM a.N else yV a
structure SLE where
 e : Int
 last : Int
 k : Nat
 deriving Inhabited
def A35b (a : NGr) : Ann := { ann 129 [(44, s44), (62, s62), (73, C73b.spec fT)] with loops := λ id => if id = 4 then some [{ α := SLE, dflt := default, T := λ s => ⟨[(1, .d (BC a.st)), (2, .bptr 200 0), (4, .bptr 201 0), (6, .int s.e), (7, .int s.last), (19, .d (BC a.st)), (20, .int a.st.length), (21, .int s.k)], [(200, LF a.N), (201, .live (.box [.int 0, .int 0]))]⟩, inv := λ s => s.k <= a.st.length /\ Vb a.N.g.length s.e s.last (a.st.drop s.k) = hY a, meas := λ s => a.st.length - s.k, first := [(200, 1000), (201, 1016)] }] else none }
def C35b : Ctr := { α := NGr, xs := xs35, L := λ _ => [], val := λ a => .tup [.d (OW ⟨0, 0⟩), .int (Mt a)], keep := λ _ => [], pre := λ a => [Mt a ≠ 0, AB a.N = 0 -> (BH a.N).isSome = true, a.st.length < 4611686018427387904] }
def V35b (a : NGr) : Prop := BN Try.prog (A35b a) Try.f35 (AF Try.f35) (C35b.xs a) (AD (C35b.L a)) (C35b.val a) (C35b.keep a) [] []
abbrev AXO:=@Exists SLE
abbrev Zg:=SLE.e
abbrev zA:=SLE.last
abbrev Ac:=SLE.k
attribute [go_sem] AXO Zg zA Ac
theorem BQB (a : NGr) : (V35b a) = (AJ (Xj (IE a) (DZ a)) (AXO (λ i=>YL (And (UF a) (ACA (vQ a) (AS (Zg i) (rR (IE a) (DZ a))) (Fs (zA i)) (UF a) (dA a) (AZ (Ac i)) (TO a) (Zd (Im a a) (Co a) (Aq a) BX))) (Ac i) (HS a) (Vb (IE a) (Zg i) (zA i) (Nk (Ac i) a)) (hY a))) ((λ (f : SLE -> Prop) => ∀ (x : SLE), f x) (λ i=>GM (WD (Ac i) (HS a) (Vb (IE a) (Zg i) (zA i) (Nk (Ac i) a)) (hY a)) (Ac i) (HS a) (GF (Ac i) (HS a)) (WO (Zg i) (not (Rn (TH a) (Ac i) (NJ (zA i) 1) (Ap (IE a))))) (AXO (λ j=>Ar (And (UF a) (ACA (vQ a) (AS (Zg j) 2) (AS (zA j) (Sp a (Ac i))) (UF a) (dA a) (AU (Ac j) (Ac i)) (TO a) (Zd (Im a a) (Co a) (Aq a) BX))) (Ac j) (HS a) (Vb (IE a) (Zg j) (zA j) (Nk (Ac j) a)) (hY a) (Ac i))) (AXO (λ j=>Ar (And (UF a) (ACA (vQ a) (AS (Zg j) (Zg i)) (AS (zA j) (Sp a (Ac i))) (UF a) (dA a) (AU (Ac j) (Ac i)) (TO a) (Zd (Im a a) (Co a) (Aq a) BX))) (Ac j) (HS a) (Vb (IE a) (Zg j) (zA j) (Nk (Ac j) a)) (hY a) (Ac i))) (IK (WO (Zg i) (KS (BT (HS a)))) (Rc BX (Mt a) 2) (IK (UD (Zg i)) (Rc BX (Mt a) (Zg i)) (JY (L5 (My (DZ a) (IE a)) (DZ a) (DZ a) (MY (Ov (Dg a))) (VK (EU (DZ a)) (oP (Dg a)))) (Ov (Dg a)) (Rc BX (Mt a) (Ov (Dg a))) Gz)))))) := by kernel_rfl
theorem p35b (a : NGr) (h1 : Mt a ≠ 0) (h2 : AB a.N = 0 -> (BH a.N).isSome = true) (h3 : a.st.length < 4611686018427387904) : V35b a := by
 rw [BQB]<;> simp only [go_sem]; simp only [CC, eq_self, implies_true, forall_const, DL.d6, DL.d7, DL.d8, XW]
 refine ⟨⟨⟨AB a.N, -1, 0⟩, ⟨rfl, rfl, rfl⟩, Nat.zero_le _, rfl⟩, λ s ⟨q1, q2⟩ => ⟨λ hlt => ⟨⟨by omega, hlt⟩, λ hc => ?_, λ hc => ?_⟩, λ hge => ?_⟩⟩
 ·have hk : s.k < a.st.length := by omega
  rw [JP hk] at q2
  have he : s.e = 0 := Classical.byContradiction λ hne => by
   have : (s.e == 0) = false := by simpa using hne
   rw [this] at hc; cases hc
  rw [he] at hc
  have hb : inM (gD a.st s.k) (wr (s.last + 1)) (wr ((a.N.g.length : Int) - 1)) = false := by simpa using hc
  simp only [Vb, if_pos he, hb] at q2
  exact ⟨⟨2, gD a.st s.k, s.k + 1⟩, ⟨rfl, rfl, (AL (by omega)).symm⟩, ⟨by show s.k + 1 <= _; omega, q2⟩, by show _ - (s.k + 1) < _; omega⟩
 ·have hk : s.k < a.st.length := by omega
  rw [JP hk] at q2
  refine ⟨⟨s.e, gD a.st s.k, s.k + 1⟩, ⟨rfl, rfl, (AL (by omega)).symm⟩, ⟨by show s.k + 1 <= _; omega, ?_⟩, by show _ - (s.k + 1) < _; omega⟩
  simp only [Vb] at q2
  rw [<- q2]
  by_cases he : s.e = 0
  ·rw [he] at hc
   have hb : inM (gD a.st s.k) (wr (s.last + 1)) (wr ((a.N.g.length : Int) - 1)) = true := by simpa using hc
   rw [if_pos he, hb, he]; rfl
  ·rw [if_neg he]
 ·have hk : s.k = a.st.length := by omega
  rw [hk, List.drop_eq_nil_of_le (Nat.le_refl _)] at q2
  have q2 : s.e = hY a := q2
  rw [q2]
  by_cases h0 : hY a = 0
  ·rw [h0]
   by_cases hl : a.st.length = 0
   ·have e1 : yV a = 2 := by unfold yV; rw [if_pos h0, if_pos hl]
    have e2 : Mt a = 2 := by unfold Mt; rw [e1]; rfl
    simp [hl, e2]
   ·have e1 : yV a = 0 := by unfold yV; rw [if_pos h0, if_neg hl]
    have e2 : Mt a = WM a.N := by unfold Mt; rw [if_pos e1]
    have hl2 : ¬ (a.st.length : Int) = 0 := by omega
    rw [e2] at h1
    simp [hl, e2, h1]
    exact h2
  ·have e1 : yV a = hY a := by unfold yV; rw [if_neg h0]
   have e2 : Mt a = hY a := by unfold Mt; rw [e1, if_neg h0]
   simp [h0, e2]
end Go.Bal

namespace Go.Bal
open Go Go.Sym Go.Proofs
def YB (N : NetL) : Int := if AB N = 0 then if EV N = 0 then 8 else 0 else AB N
def A25e : Ann := ann 72 [(19, C19.spec fT)]
def A25b : Ann := ann 72 [(19, C19b.spec fT)]
def C25b : Ctr := { α := NetL, xs := λ N => [.d (LW N)], L := λ _ => [], val := λ N => .tup [.d (BC []), .int (YB N)], keep := λ _ => [], pre := λ N => [YB N ≠ 0, AB N = 0 -> (BH N).isSome = true] }
def V25e (N : NetL) : Prop := BN Try.prog A25e Try.f25 (AF Try.f25) (C25b.xs N) (AD []) (C25b.val N) (C25b.keep N) [] []
theorem BPP (N : NetL) : (V25e N) = (EG (SC N (EU N) (Sg N)) (sI (eA N)) (Rc AC (YB N) 8) Gz) := by kernel_rfl
def V25b (N : NetL) : Prop := BN Try.prog A25b Try.f25 (AF Try.f25) (C25b.xs N) (AD []) (C25b.val N) (C25b.keep N) [] []
theorem BPZ (N : NetL) : (V25b N) = (JY (ZQ N N N N (Qb (EU N))) (QU N) (Rc AC (YB N) (QU N)) Gz) := by kernel_rfl
theorem p25e (N : NetL) (h1 : AB N = 0) (h2 : (BH N).isSome = true) (h3 : EV N = 0) : V25e N := by
 rw [BPP]<;> simp only [go_sem]; simp only [CC, eq_self, implies_true, forall_const, DL.d6, DL.d7, DL.d8]
 exact ⟨⟨h1, h2⟩, λ _ => by unfold YB; rw [if_pos h1, if_pos h3], λ h => h h3⟩
theorem p25b (N : NetL) (h1 : AB N ≠ 0) : V25b N := by
 rw [BPZ]<;> simp only [go_sem]; simp only [CC, eq_self, implies_true, forall_const, DL.d6, DL.d7, DL.d8]
 exact ⟨h1, λ _ => by unfold YB; rw [if_neg h1], λ h => h1 (by simpa using h)⟩
end Go.Bal
