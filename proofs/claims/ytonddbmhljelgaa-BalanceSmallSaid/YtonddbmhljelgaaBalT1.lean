/- Package balance: walks over a net at work, and what reach finds. -/
import Derived.Test.YtonddbmhljelgaaBal0
set_option linter.unusedVariables false
set_option linter.unusedSimpArgs false
namespace Go.Bal
open Go
theorem FK {n : Int} (h0 : -9223372036854775808 <= n) (h1 : n <= 9223372036854775807) : wr n = n := Gp h0 h1
def TV (d : Desk) (s : Step) : Int := KF d ⟨s.way, !s.back⟩
def GY (d : Desk) (s : Step) : Int := (BO (EW d.all s.way) s.back).1
theorem AQG (w : Way) (b : Bool) : -1 <= (BO w b).1 /\ (BO w b).1 <= 1 := by
 unfold BO; simp only
 generalize (if b = true then wr (-w.now) else w.now) = x
 generalize (if b = true then wr (-w.sp.hi) else w.sp.lo) = y
 generalize (if b = true then wr (-w.sp.lo) else w.sp.hi) = z
 split
 ·exact ⟨by simp, by simp⟩
 ·split
  ·exact ⟨by simp, by simp⟩
  ·exact ⟨by simp, by simp⟩
def Cnt (d : Desk) (c : Step -> Bool) (s : Step) : Prop := (0 <= s.way /\ s.way < d.all.length) /\ c s = true
inductive Walk (d : Desk) (c : Step -> Bool) (fr : Int) : Int -> Int -> Nat -> Prop
 | nil : Walk d c fr fr 0 0
 | step {a : Int} {m : Nat} (s : Step) : Walk d c fr (TV d s) a m -> Cnt d c s -> Walk d c fr (KF d s) (a + GY d s) (m + 1)
def Pot (d : Desk) (c : Step -> Bool) (π : Int -> Int) : Prop := ∀ s, Cnt d c s -> π (KF d s) <= π (TV d s) + GY d s
variable {d : Desk} {c : Step -> Bool} {fr : Int} {π : Int -> Int}
theorem Walk.pot (h : Pot d c π) {v a : Int} {m : Nat} (w : Walk d c fr v a m) : π v - π fr <= a := by
 induction w with
 | nil => omega
 | step s _ hc ih => have := h s hc; omega
theorem Walk.pred {v a : Int} {m : Nat} (w : Walk d c fr v a (m + 1)) : ∃ s b, Walk d c fr (TV d s) b m /\ Cnt d c s /\ KF d s = v /\ a = b + GY d s := by
 cases w with
 | step s w hc => exact ⟨s, _, w, hc, rfl, rfl⟩
theorem Walk.zero {v a : Int} (w : Walk d c fr v a 0) : v = fr /\ a = 0 := by
 cases w; exact ⟨rfl, rfl⟩
def Least (d : Desk) (c : Step -> Bool) (fr v a : Int) (m : Nat) : Prop := Walk d c fr v a m /\ ∀ b k, Walk d c fr v b k -> a < b ∨ a = b /\ m <= k
theorem AXU {p : Nat -> Prop} (n : Nat) (h : p n) : ∃ n, p n /\ ∀ k, p k -> n <= k := by
 induction n using Nat.strongRecOn with
 | ind n ih =>
  by_cases hq : ∃ k, k < n /\ p k
  ·obtain ⟨k, h1, h2⟩ := hq; exact ih k h1 h2
  ·exact ⟨n, h, λ k hk => Nat.le_of_not_lt λ hlt => hq ⟨k, hlt, hk⟩⟩
theorem ALL (h : Pot d c π) {v a : Int} {m : Nat} (w : Walk d c fr v a m) : ∃ b k, Least d c fr v b k := by
 obtain ⟨n, ⟨b, k, hw, hn⟩, h2⟩ := AXU (p := λ n => ∃ b k, Walk d c fr v b k /\ n = (b - (π v - π fr)).toNat) _ ⟨a, m, w, rfl⟩
 obtain ⟨k, hw, h3⟩ := AXU (p := λ k => Walk d c fr v b k) _ hw
 refine ⟨b, k, hw, λ b' k' hw' => ?_⟩
 have e1 := h2 _ ⟨b', k', hw', rfl⟩
 have e2 := hw'.pot h
 have e3 := hw.pot h
 by_cases he : b = b'
 ·subst he; exact .inr ⟨rfl, h3 _ hw'⟩
 ·left; omega
theorem Least.uniq {v a b : Int} {m k : Nat} (h1 : Least d c fr v a m) (h2 : Least d c fr v b k) : a = b /\ m = k := by
 have := h1.2 _ _ h2.1
 have := h2.2 _ _ h1.1
 omega
theorem Least.pred {v a : Int} {m : Nat} (h : Least d c fr v a (m + 1)) : ∃ s b, Least d c fr (TV d s) b m /\ Cnt d c s /\ KF d s = v /\ a = b + GY d s := by
 obtain ⟨s, b, hw, hc, ht, ha⟩ := h.1.pred
 refine ⟨s, b, ⟨hw, λ b' k hk => ?_⟩, hc, ht, ha⟩
 have := h.2 (b' + GY d s) (k + 1) (ht ▸ Walk.step s hk hc)
 omega
theorem W8 : ∀ (N : Nat) (l : List Int), l.Nodup -> (∀ x ∈ l, 0 <= x /\ x < N) -> l.length <= N
 | 0, l, _, h => by
  cases l with
  | nil => simp
  | cons a l => have := h a (by simp); omega
 | N + 1, l, hn, h => by
  have h1 := W8 N (l.erase (N : Int)) (hn.erase _) (λ x hx => by
   have h2 := (hn.mem_erase_iff).1 hx
   have := h x h2.2
   have := h2.1
   omega)
  by_cases hm : (N : Int) ∈ l
  ·rw [List.length_erase_of_mem hm] at h1; omega
  ·rw [List.erase_of_not_mem hm] at h1; omega
theorem vP (hd : d.ok) {s : Step} (hs : 0 <= s.way /\ s.way < d.all.length) : 0 <= KF d s /\ KF d s < d.out + 2 := by
 obtain ⟨h1, h2⟩ := hd.ends s.way.toNat (by omega)
 unfold KF EW
 cases s.back
 ·exact h2
 ·exact h1
theorem Least.short (hd : d.ok) (hfr : 0 <= fr /\ fr < d.out + 2) : ∀ {m : Nat} {v a : Int}, Least d c fr v a m -> ∃ l : List Int, l.length = m + 1 /\ l.Nodup /\ ∀ x ∈ l, (0 <= x /\ x < d.out + 2) /\ ∃ b k, k <= m /\ Least d c fr x b k
 | 0, v, a, h => by
  obtain ⟨h1, _⟩ := h.1.zero
  subst h1
  exact ⟨[v], rfl, by simp, λ x hx => by simp at hx; subst hx; exact ⟨hfr, a, 0, Nat.le_refl _, h⟩⟩
 | m + 1, v, a, h => by
  obtain ⟨s, b, h1, hc, ht, _⟩ := h.pred
  obtain ⟨l, e1, e2, e3⟩ := Least.short hd hfr h1
  refine ⟨v :: l, by simp [e1], List.nodup_cons.2 ⟨λ hm => ?_, e2⟩, λ x hx => ?_⟩
  ·obtain ⟨_, b', k, hk, hl⟩ := e3 v hm
   have := hl.uniq h
   omega
  ·rcases List.mem_cons.1 hx with rfl | hx
   ·exact ⟨ht ▸ vP hd hc.1, a, m + 1, Nat.le_refl _, h⟩
   ·obtain ⟨q1, b', k, hk, hl⟩ := e3 x hx
    exact ⟨q1, b', k, by omega, hl⟩
theorem Least.many_lt (hd : d.ok) (hfr : 0 <= fr /\ fr < d.out + 2) {m : Nat} {v a : Int} (h : Least d c fr v a m) : m < d.out + 2 := by
 obtain ⟨l, e1, e2, e3⟩ := h.short hd hfr
 have := W8 (d.out + 2) l e2 (λ x hx => by have := (e3 x hx).1; omega)
 omega
def Lab (d : Desk) (c : Step -> Bool) (fr v : Int) (f : Far) : Prop :=
 (v = fr /\ f = ⟨0, 0, ⟨0, false⟩⟩) ∨ ∃ (a : Int) (m : Nat), Walk d c fr (TV d f.by') a m /\ Cnt d c f.by' /\ KF d f.by' = v /\ f.cost = a + GY d f.by' /\ f.many = m + 1
theorem Lab.walk {v : Int} {f : Far} (h : Lab d c fr v f) : ∃ m : Nat, f.many = m /\ Walk d c fr v f.cost m := by
 rcases h with ⟨rfl, rfl⟩ | ⟨a, m, h1, h2, h3, h4, h5⟩
 ·exact ⟨0, rfl, .nil⟩
 ·exact ⟨m + 1, by rw [h5]; rfl, by rw [<- h3, h4]; exact .step _ h1 h2⟩
def fle (f : Far) (a : Int) (m : Int) : Prop := f.cost < a ∨ f.cost = a /\ f.many <= m
theorem B8 {f g : Far} (h : better f g = false) : fle g f.cost f.many := by
 unfold better at h
 simp only [Bool.or_eq_false_iff, decide_eq_false_iff_not, Bool.and_eq_false_iff, beq_eq_false_iff_ne] at h
 unfold fle; omega
theorem AWW {f g : Far} (h : better f g = true) : f.cost < g.cost ∨ f.cost = g.cost /\ f.many < g.many := by
 unfold better at h
 simpa [Bool.or_eq_true, Bool.and_eq_true] using h
structure Inv (d : Desk) (c : Step -> Bool) (fr : Int) (M : Nat) (m : Map) : Prop where
 len : m.length = d.out + 2
 lab : ∀ v f, m.at v = some f -> Lab d c fr v f /\ (-(M : Int) <= f.cost /\ f.cost <= M) /\ f.many <= M
def Imp (m m' : Map) : Prop := ∀ v f, m.at v = some f -> ∃ g, m'.at v = some g /\ fle g f.cost f.many
theorem Imp.refl (m : Map) : Imp m m := λ v f h => ⟨f, h, .inr ⟨rfl, Int.le_refl _⟩⟩
theorem Imp.trans {m m' m'' : Map} (h1 : Imp m m') (h2 : Imp m' m'') : Imp m m'' := λ v f h => by
 obtain ⟨g, e1, e2⟩ := h1 v f h
 obtain ⟨k, e3, e4⟩ := h2 v g e1
 refine ⟨k, e3, ?_⟩
 unfold fle at *; omega
theorem Inv.mono {M N : Nat} {m : Map} (h : Inv d c fr M m) (hMN : M <= N) : Inv d c fr N m :=
 ⟨h.len, λ _ f hf => by obtain ⟨h1, h2, h3⟩ := h.lab _ f hf; exact ⟨h1, by omega, by omega⟩⟩
theorem T6 {m : Map} {t : Int} {x : Far} (h0 : 0 <= t) (h : t.toNat < m.length) (z : Int) : Map.at (m.set t.toNat (some x)) z = if z = t then some x else m.at z := by
 unfold Map.at
 by_cases hz : 0 <= z
 ·rw [if_pos hz, if_pos hz, List.getElem?_set]
  by_cases he : z = t
  ·subst he; simp [h]
  ·rw [if_neg (by omega), if_neg he]
 ·rw [if_neg hz, if_neg hz, if_neg (by omega)]
def Met (m : Map) (v : Int) (a : Int) (k : Int) : Prop := ∃ f, m.at v = some f /\ fle f a k
theorem Met.imp {m m' : Map} {v a k : Int} (h : Met m v a k) (hi : Imp m m') : Met m' v a k := by
 obtain ⟨f, h1, h2⟩ := h
 obtain ⟨g, h3, h4⟩ := hi v f h1
 refine ⟨g, h3, ?_⟩
 unfold fle at *; omega
theorem AJB (hd : d.ok) {M : Nat} {r : RT} {here : Far} {s : Step} (hi : Inv d c fr M r.m) (hM : M < 1000000) (hs : 0 <= s.way /\ s.way < d.all.length) (hh : Lab d c fr (TV d s) here) (hb : (-(M : Int) <= here.cost /\ here.cost <= M) /\ here.many <= M) :
  Inv d c fr (M + 1) (LS d c here r s).m /\ Imp r.m (LS d c here r s).m /\ (c s = true -> Met (LS d c here r s).m (KF d s) (here.cost + GY d s) (here.many + 1)) /\ ((LS d c here r s).ag = true ∨ LS d c here r s = r) := by
 unfold LS
 by_cases hc : c s = true
 ·rw [if_pos hc]
  simp only
  have hp := AQG (EW d.all s.way) s.back
  obtain ⟨k, hk, hw⟩ := hh.walk
  have e1 : wr (here.cost + (BO (EW d.all s.way) s.back).1) = here.cost + GY d s := FK (by omega) (by omega)
  have e2 : wr (here.many + 1) = here.many + 1 := FK (by omega) (by omega)
  rw [e1, e2]
  have hq : -1 <= GY d s /\ GY d s <= 1 := hp
  have ht := vP hd hs
  have hlab : Lab d c fr (KF d s) ⟨here.cost + GY d s, here.many + 1, s⟩ := .inr ⟨_, k, hw, ⟨hs, hc⟩, rfl, rfl, by simp [hk]⟩
  have hset : ∀ z, Map.at (r.m.set (KF d s).toNat (some ⟨here.cost + GY d s, here.many + 1, s⟩)) z = if z = KF d s then some ⟨here.cost + GY d s, here.many + 1, s⟩ else r.m.at z := T6 ht.1 (by rw [hi.len]; omega)
  have hinv : Inv d c fr (M + 1) (r.m.set (KF d s).toNat (some ⟨here.cost + GY d s, here.many + 1, s⟩)) := by
   refine ⟨by simp [hi.len], λ v f hf => ?_⟩
   rw [hset] at hf
   split at hf
   ·rename_i he; subst he
    cases hf
    exact ⟨hlab, by simp only; omega, by simp only; omega⟩
   ·obtain ⟨h1, h2, h3⟩ := hi.lab v f hf
    exact ⟨h1, by omega, by omega⟩
  cases hq : r.m.at (KF d s) with
  | none =>
   refine ⟨hinv, λ v f hf => ?_, λ _ => ⟨_, by rw [hset, if_pos rfl], .inr ⟨rfl, Int.le_refl _⟩⟩, .inl rfl⟩
   have hne : v ≠ KF d s := λ he => by rw [he, hq] at hf; cases hf
   exact ⟨f, by rw [hset, if_neg hne]; exact hf, .inr ⟨rfl, Int.le_refl _⟩⟩
  | some was =>
   simp only
   by_cases hbt : better ⟨here.cost + GY d s, here.many + 1, s⟩ was = true
   ·rw [if_pos hbt]
    refine ⟨hinv, λ v f hf => ?_, λ _ => ⟨_, by rw [hset, if_pos rfl], .inr ⟨rfl, Int.le_refl _⟩⟩, .inl rfl⟩
    by_cases he : v = KF d s
    ·subst he
     rw [hq] at hf; cases hf
     refine ⟨_, by rw [hset, if_pos rfl], ?_⟩
     have := AWW hbt
     unfold fle; simp only at *; omega
    ·exact ⟨f, by rw [hset, if_neg he]; exact hf, .inr ⟨rfl, Int.le_refl _⟩⟩
   ·rw [if_neg hbt]
    have := B8 (by simpa using hbt)
    exact ⟨hi.mono (by omega), Imp.refl _, λ _ => ⟨was, hq, this⟩, .inr rfl⟩
 ·rw [if_neg hc]
  exact ⟨hi.mono (by omega), Imp.refl _, λ h => absurd h hc, .inr rfl⟩
theorem yQ (hd : d.ok) {here : Far} {p : Int} (hh : Lab d c fr p here) {M0 : Nat} (hb : (-(M0 : Int) <= here.cost /\ here.cost <= M0) /\ here.many <= M0) : ∀ (n i : Nat), n + i = d.all.length -> ∀ (M : Nat) (r : RT), Inv d c fr M r.m -> M0 <= M -> M + 2 * n < 1000000 ->
  Inv d c fr (M + 2 * n) (HK d c here p (d.all.drop i) i r).m /\ Imp r.m (HK d c here p (d.all.drop i) i r).m /\ (∀ s, Cnt d c s -> TV d s = p -> i <= s.way -> Met (HK d c here p (d.all.drop i) i r).m (KF d s) (here.cost + GY d s) (here.many + 1)) /\ ((HK d c here p (d.all.drop i) i r).ag = true ∨ HK d c here p (d.all.drop i) i r = r)
 | 0, i, hn, M, r, hi, hM, hlt => by
  rw [List.drop_eq_nil_of_le (by omega)]
  exact ⟨hi, Imp.refl _, λ s hs _ h => by have := hs.1; omega, .inr rfl⟩
 | n + 1, i, hn, M, r, hi, hM, hlt => by
  have hlen : i < d.all.length := by omega
  rw [JP hlen]
  simp only [HK]
  have gW : EW d.all (i : Int) = gD d.all i := by simp [EW]
  -- there
  have h1 : ∃ r1, r1 = (if (gD d.all i).fr = p then LS d c here r ⟨i, false⟩ else r) /\ Inv d c fr (M + 1) r1.m /\ Imp r.m r1.m /\ ((gD d.all i).fr = p -> c ⟨i, false⟩ = true -> Met r1.m (KF d ⟨i, false⟩) (here.cost + GY d ⟨i, false⟩) (here.many + 1)) /\ (r1.ag = true ∨ r1 = r) := by
   by_cases he : (gD d.all i).fr = p
   ·rw [if_pos he]
    have hsrc : TV d ⟨i, false⟩ = p := by simp [TV, KF, gW, he]
    obtain ⟨q1, q2, q3, q4⟩ := AJB (c := c) (fr := fr) (s := ⟨i, false⟩) hd hi (by omega) ⟨by simp, by simp; omega⟩ (by rw [hsrc]; exact hh) ⟨⟨by omega, by omega⟩, by omega⟩
    exact ⟨_, rfl, q1, q2, λ _ => q3, q4⟩
   ·rw [if_neg he]
    exact ⟨_, rfl, hi.mono (by omega), Imp.refl _, λ h => absurd h he, .inr rfl⟩
  obtain ⟨r1, hr1, a1, a2, a3, a4⟩ := h1
  rw [<- hr1]
  have h2 : ∃ r2, r2 = (if (gD d.all i).to = p then LS d c here r1 ⟨i, true⟩ else r1) /\ Inv d c fr (M + 2) r2.m /\ Imp r1.m r2.m /\ ((gD d.all i).to = p -> c ⟨i, true⟩ = true -> Met r2.m (KF d ⟨i, true⟩) (here.cost + GY d ⟨i, true⟩) (here.many + 1)) /\ (r2.ag = true ∨ r2 = r1) := by
   by_cases he : (gD d.all i).to = p
   ·rw [if_pos he]
    have hsrc : TV d ⟨i, true⟩ = p := by simp [TV, KF, gW, he]
    obtain ⟨q1, q2, q3, q4⟩ := AJB (c := c) (fr := fr) (s := ⟨i, true⟩) hd a1 (by omega) ⟨by simp, by simp; omega⟩ (by rw [hsrc]; exact hh) ⟨⟨by omega, by omega⟩, by omega⟩
    exact ⟨_, rfl, q1, q2, λ _ => q3, q4⟩
   ·rw [if_neg he]
    exact ⟨_, rfl, a1.mono (by omega), Imp.refl _, λ h => absurd h he, .inr rfl⟩
  obtain ⟨r2, hr2, b1, b2, b3, b4⟩ := h2
  rw [<- hr2]
  obtain ⟨c1, c2, c3, c4⟩ := yQ hd hh hb n (i + 1) (by omega) (M + 2) r2 b1 (by omega) (by omega)
  refine ⟨c1.mono (by omega), a2.trans (b2.trans c2), λ s hs hp hle => ?_, ?_⟩
  ·by_cases hw : s.way = i
   ·obtain ⟨w, b⟩ := s
    simp only at hw; subst hw
    cases b with
    | false =>
     have : (gD d.all i).fr = p := by rw [<- hp]; simp [TV, KF, gW]
     exact ((a3 this hs.2).imp b2).imp c2
    | true =>
     have : (gD d.all i).to = p := by rw [<- hp]; simp [TV, KF, gW]
     exact (b3 this hs.2).imp c2
   ·exact c3 s hs hp (by omega)
  ·rcases c4 with h | h
   ·exact .inl h
   ·rw [h]
    rcases b4 with h | h
    ·exact .inl h
    ·rw [h]; exact a4
theorem Rm (hd : d.ok) : ∀ (n p : Nat) (M : Nat) (r : RT), Inv d c fr M r.m -> M + 46 * n < 1000000 ->
  Inv d c fr (M + 46 * n) (BK d c n p r).m /\ Imp r.m (BK d c n p r).m /\ (∀ s, Cnt d c s -> (p : Int) <= TV d s -> TV d s < p + n -> ∀ f, r.m.at (TV d s) = some f -> Met (BK d c n p r).m (KF d s) (f.cost + GY d s) (f.many + 1)) /\ ((BK d c n p r).ag = true ∨ BK d c n p r = r)
 | 0, p, M, r, hi, hlt => ⟨hi, Imp.refl _, λ s _ h1 h2 => by omega, .inr rfl⟩
 | n + 1, p, M, r, hi, hlt => by
  simp only [BK]
  have hlen := hd.len
  cases hq : r.m.at p with
  | none =>
   simp only
   obtain ⟨c1, c2, c3, c4⟩ := Rm hd n (p + 1) M r hi (by omega)
   refine ⟨c1.mono (by omega), c2, λ s hs h1 h2 f hf => ?_, c4⟩
   by_cases he : TV d s = p
   ·rw [he, hq] at hf; cases hf
   ·exact c3 s hs (by omega) (by omega) f hf
  | some here =>
   simp only
   obtain ⟨hl, hb⟩ := hi.lab _ _ hq
   obtain ⟨a1, a2, a3, a4⟩ := yQ (c := c) (fr := fr) hd hl hb d.all.length 0 (by omega) M r hi (Nat.le_refl _) (by omega)
   rw [List.drop_zero] at a1 a2 a3 a4
   obtain ⟨c1, c2, c3, c4⟩ := Rm hd n (p + 1) (M + 46) _ (a1.mono (by omega)) (by omega)
   refine ⟨c1.mono (by omega), a2.trans c2, λ s hs h1 h2 f hf => ?_, ?_⟩
   ·by_cases he : TV d s = p
    ·rw [he, hq] at hf; cases hf
     exact (a3 s hs he (by have := hs.1; simp; omega)).imp c2
    ·obtain ⟨g, h3, h4⟩ := a2 _ _ hf
     obtain ⟨k, h5, h6⟩ := c3 s hs (by omega) (by omega) g h3
     refine ⟨k, h5, ?_⟩
     unfold fle at *; omega
   ·rcases c4 with h | h
    ·exact .inl h
    ·rw [h]; exact a4
def Ef (d : Desk) (c : Step -> Bool) (fr : Int) (m : Map) : Prop := (∀ v f, m.at v = some f -> Lab d c fr v f /\ ∃ k : Nat, f.many = k /\ Least d c fr v f.cost k) /\ ∀ v a k, Walk d c fr v a k -> (m.at v).isSome = true
theorem ARD {M : Nat} (hM : M < 1000000) {r : RT} (ha : Ef d c fr r.m) {here : Far} {s : Step} (hs : 0 <= s.way /\ s.way < d.all.length) (hh : Lab d c fr (TV d s) here) (hb : (-(M : Int) <= here.cost /\ here.cost <= M) /\ here.many <= M) : LS d c here r s = r := by
 unfold LS
 by_cases hc : c s = true
 ·rw [if_pos hc]
  simp only
  have hp := AQG (EW d.all s.way) s.back
  obtain ⟨k, hk, hw⟩ := hh.walk
  have e1 : wr (here.cost + (BO (EW d.all s.way) s.back).1) = here.cost + GY d s := FK (by omega) (by omega)
  have e2 : wr (here.many + 1) = here.many + 1 := FK (by omega) (by omega)
  rw [e1, e2]
  have hw2 := Walk.step s hw ⟨hs, hc⟩
  have := ha.2 _ _ _ hw2
  obtain ⟨was, hq⟩ := Option.isSome_iff_exists.1 this
  rw [hq]
  simp only
  obtain ⟨_, k2, hk2, hl⟩ := ha.1 _ _ hq
  have := hl.2 _ _ hw2
  have hnb : better ⟨here.cost + GY d s, here.many + 1, s⟩ was = false := by
   unfold better
   simp only [Bool.or_eq_false_iff, decide_eq_false_iff_not, Bool.and_eq_false_iff, beq_eq_false_iff_ne]
   omega
  rw [hnb]; rfl
 ·rw [if_neg hc]
theorem P1 {M : Nat} (hM : M < 1000000) {here : Far} {p : Int} (hh : Lab d c fr p here) (hb : (-(M : Int) <= here.cost /\ here.cost <= M) /\ here.many <= M) {r : RT} (ha : Ef d c fr r.m) : ∀ (n i : Nat), n + i = d.all.length -> HK d c here p (d.all.drop i) i r = r
 | 0, i, hn => by rw [List.drop_eq_nil_of_le (by omega)]; rfl
 | n + 1, i, hn => by
  have hlen : i < d.all.length := by omega
  rw [JP hlen]
  simp only [HK]
  have gW : EW d.all (i : Int) = gD d.all i := by simp [EW]
  have e1 : (if (gD d.all i).fr = p then LS d c here r ⟨i, false⟩ else r) = r := by
   by_cases he : (gD d.all i).fr = p
   ·rw [if_pos he]
    have hsrc : TV d ⟨i, false⟩ = p := by simp [TV, KF, gW, he]
    exact ARD hM ha ⟨by simp, by simp; omega⟩ (by rw [hsrc]; exact hh) hb
   ·rw [if_neg he]
  rw [e1]
  have e2 : (if (gD d.all i).to = p then LS d c here r ⟨i, true⟩ else r) = r := by
   by_cases he : (gD d.all i).to = p
   ·rw [if_pos he]
    have hsrc : TV d ⟨i, true⟩ = p := by simp [TV, KF, gW, he]
    exact ARD hM ha ⟨by simp, by simp; omega⟩ (by rw [hsrc]; exact hh) hb
   ·rw [if_neg he]
  rw [e2]
  exact P1 hM hh hb ha n (i + 1) (by omega)
theorem Wm {M : Nat} (hM : M < 1000000) {r : RT} (hi : Inv d c fr M r.m) (ha : Ef d c fr r.m) : ∀ (n p : Nat), BK d c n p r = r
 | 0, p => rfl
 | n + 1, p => by
  simp only [BK]
  cases hq : r.m.at p with
  | none => exact Wm hM hi ha n (p + 1)
  | some here =>
   simp only
   obtain ⟨hl, hb⟩ := hi.lab _ _ hq
   have := P1 hM hl hb ha d.all.length 0 (by omega)
   rw [List.drop_zero] at this
   rw [this]
   exact Wm hM hi ha n (p + 1)
def Conv (d : Desk) (c : Step -> Bool) (fr : Int) (j : Nat) (m : Map) : Prop := ∀ v a k, Least d c fr v a k -> k < j -> ∃ f, m.at v = some f /\ f.cost = a /\ f.many = k
theorem BAI (hd : d.ok) {s : Step} (hs : 0 <= s.way /\ s.way < d.all.length) : 0 <= TV d s /\ TV d s < d.out + 2 := vP (s := ⟨s.way, !s.back⟩) hd hs
theorem BEY {M : Nat} (hd : d.ok) (hfr : 0 <= fr /\ fr < d.out + 2) (hp : Pot d c π) {m : Map} (hi : Inv d c fr M m) {j : Nat} (hj : d.out + 2 <= j) (h : Conv d c fr j m) : Ef d c fr m := by
 have key : ∀ v a k, Walk d c fr v a k -> ∃ f b q, m.at v = some f /\ f.cost = b /\ f.many = (q : Nat) /\ Least d c fr v b q := λ v a k hw => by
  obtain ⟨b, q, hl⟩ := ALL hp hw
  obtain ⟨f, h1, h2, h3⟩ := h v b q hl (by have := hl.many_lt hd hfr; omega)
  exact ⟨f, b, q, h1, h2, h3, hl⟩
 refine ⟨λ v f hf => ?_, λ v a k hw => ?_⟩
 ·have hl := (hi.lab v f hf).1
  obtain ⟨k, _, hw⟩ := hl.walk
  obtain ⟨g, b, q, h1, h2, h3, h4⟩ := key _ _ _ hw
  rw [hf] at h1; cases h1
  exact ⟨hl, q, h3, by rw [h2]; exact h4⟩
 ·obtain ⟨f, b, q, h1, _⟩ := key _ _ _ hw
  rw [h1]; rfl
theorem ALT {M : Nat} {m : Map} (hi : Inv d c fr M m) (hst : Met m fr 0 0) (hcl : ∀ s, Cnt d c s -> ∀ f, m.at (TV d s) = some f -> Met m (KF d s) (f.cost + GY d s) (f.many + 1)) : Ef d c fr m := by
 have key : ∀ v a k, Walk d c fr v a k -> Met m v a k := λ v a k hw => by
  induction hw with
  | nil => exact hst
  | step s _ hc ih =>
   obtain ⟨f, h1, h2⟩ := ih
   obtain ⟨g, h3, h4⟩ := hcl s hc f h1
   refine ⟨g, h3, ?_⟩
   unfold fle at *
   omega
 refine ⟨λ v f hf => ?_, λ v a k hw => ?_⟩
 ·have hl := (hi.lab v f hf).1
  obtain ⟨k, hk, hw⟩ := hl.walk
  refine ⟨hl, k, hk, hw, λ b q hw2 => ?_⟩
  obtain ⟨g, h1, h2⟩ := key _ _ _ hw2
  rw [hf] at h1; cases h1
  unfold fle at h2; omega
 ·obtain ⟨f, h1, _⟩ := key _ _ _ hw
  rw [h1]; rfl
theorem AKB (hd : d.ok) (hfr : 0 <= fr /\ fr < d.out + 2) (hp : Pot d c π) : ∀ (g k j : Nat) (r : RT), d.out + 2 - j = g -> g < k -> Inv d c fr (460 * j) r.m -> j <= d.out + 2 -> Conv d c fr j r.m -> Met r.m fr 0 0 ->
  ∃ rf, V2 d c k r = some rf /\ rf.m.length = d.out + 2 /\ Ef d c fr rf.m
 | g, 0, j, r, _, hgk, _, _, _, _ => by omega
 | g, k + 1, j, r, hg, hgk, hi, hj, hcv, hst => by
  have ho := hd.out
  obtain ⟨c1, c2, c3, c4⟩ := Rm (c := c) (fr := fr) hd (d.out + 2) 0 (460 * j) { r with ag := false } hi (by omega)
  simp only [V2]
  generalize hr' : BK d c (d.out + 2) 0 { r with ag := false } = r' at c1 c2 c3 c4
  have hcl : ∀ s, Cnt d c s -> ∀ f, r.m.at (TV d s) = some f -> Met r'.m (KF d s) (f.cost + GY d s) (f.many + 1) := λ s hs f hf => by
   have := BAI hd hs.1
   exact c3 s hs (by omega) (by omega) f hf
  by_cases hag : r'.ag = true
  ·rw [if_pos hag]
   cases g with
   | zero =>
    have hj' : j = d.out + 2 := by omega
    have hall := BEY hd hfr hp hi (by omega) hcv
    have := Wm (r := { r with ag := false }) (by omega) hi hall (d.out + 2) 0
    rw [hr'] at this
    rw [this] at hag; cases hag
   | succ g =>
    refine AKB hd hfr hp g k (j + 1) r' (by omega) (by omega) (c1.mono (by omega)) (by omega) ?_ (hst.imp c2)
    intro v a q hl hq
    have back : ∀ f, r'.m.at v = some f -> fle f a q -> f.cost = a /\ f.many = q := λ f hf hle => by
     obtain ⟨z, hz, hw⟩ := (c1.lab v f hf).1.walk
     have := hl.2 _ _ hw
     unfold fle at hle; omega
    by_cases hqj : q < j
    ·obtain ⟨f, h1, h2, h3⟩ := hcv v a q hl hqj
     obtain ⟨g, h4, h5⟩ := c2 v f h1
     rw [h2, h3] at h5
     exact ⟨g, h4, back g h4 h5⟩
    ·cases q with
     | zero =>
      obtain ⟨rfl, rfl⟩ := hl.1.zero
      obtain ⟨f, h1, h2⟩ := hst.imp c2
      exact ⟨f, h1, back f h1 h2⟩
     | succ q =>
      obtain ⟨s, b, h1, h2, h3, h4⟩ := hl.pred
      obtain ⟨f, h5, h6, h7⟩ := hcv _ _ _ h1 (by omega)
      obtain ⟨g, h8, h9⟩ := hcl s h2 f h5
      rw [h3] at h8
      refine ⟨g, h8, back g h8 ?_⟩
      rw [h6, h7] at h9
      rw [h4]
      exact h9
  ·rw [if_neg hag]
   have hag' : r' = { r with ag := false } := by
    rcases c4 with h | h
    ·exact absurd h hag
    ·exact h
   refine ⟨r', rfl, c1.len, ?_⟩
   have hm : r'.m = r.m := by rw [hag']
   rw [hm]
   exact ALT hi hst λ s hs f hf => by
    have := hcl s hs f hf
    rw [hm] at this; exact this
theorem Lr (d : Desk) {fr : Int} (h : 0 <= fr /\ fr < d.out + 2) (n : Int) : Map.at (TA d fr).m n = if n = fr then some ⟨0, 0, ⟨0, false⟩⟩ else none := by
 unfold TA; simp only
 rw [T6 h.1 (by simp; omega)]
 split
 ·rfl
 ·unfold Map.at; split
  ·rw [List.getElem?_replicate]; split <;> rfl
  ·rfl
theorem AEE : 1000000 < fuel := by unfold fuel; decide
theorem pF (hd : d.ok) (hfr : 0 <= fr /\ fr < d.out + 2) (hp : Pot d c π) : ∃ rf, NP d c fr = some rf /\ rf.m.length = d.out + 2 /\ Ef d c fr rf.m := by
 have ho := hd.out
 have hf := AEE
 unfold NP
 generalize fuel = k at hf
 refine AKB hd hfr hp (d.out + 2) k 0 _ rfl (by omega) ⟨by simp [TA], λ v f hv => ?_⟩ (by omega) (λ v a q _ h => by omega) ?_
 ·rw [Lr d hfr] at hv
  split at hv
  ·rename_i he; cases hv; exact ⟨.inl ⟨he, rfl⟩, ⟨by simp, by simp⟩, by simp⟩
  ·cases hv
 ·exact ⟨_, by rw [Lr d hfr, if_pos rfl], .inr ⟨rfl, Int.le_refl _⟩⟩
end Go.Bal

namespace Go.Bal
open Go
def Tr (d : Desk) (c : Step -> Bool) (fr : Int) : Int -> List Step -> Prop
 | v, [] => v = fr
 | v, s :: l => Cnt d c s /\ KF d s = v /\ Tr d c fr (TV d s) l
variable {d : Desk} {c : Step -> Bool} {fr : Int}
def BQP (d : Desk) (c : Step -> Bool) (fr : Int) (s : Step) : Prop := Cnt d c s /\ ∃ a m, Least d c fr (TV d s) a m /\ Least d c fr (KF d s) (a + GY d s) (m + 1)
theorem BHZ (d : Desk) (s : Step) : TV d ⟨s.way, !s.back⟩ = KF d s := by simp [TV]
theorem ABX {m : Map} (ha : Ef d c fr m) : ∀ (k : Nat) (v : Int) (a : Int) (q : Nat), Least d c fr v a q -> q < k -> ∃ l, SZ d m fr k v = some l /\ Tr d c fr v l /\ (∀ s ∈ l, BQP d c fr s /\ ∃ b j, j <= q /\ Least d c fr (KF d s) b j) /\ (l.map λ s => s.way).Nodup
 | 0, v, a, q, _, h => by omega
 | k + 1, v, a, q, hl, hq => by
  simp only [SZ]
  by_cases hv : v = fr
  ·rw [if_pos hv]
   exact ⟨[], rfl, hv, λ s hs => (by cases hs), List.nodup_nil⟩
  ·rw [if_neg hv]
   have hsome := ha.2 _ _ _ hl.1
   obtain ⟨f, hf⟩ := Option.isSome_iff_exists.1 hsome
   have hfar : m.far v = f := by simp [Map.far, hf]
   rw [hfar]
   obtain ⟨hlab, k2, hk2, hl2⟩ := ha.1 v f hf
   obtain ⟨ea, eq⟩ := hl.uniq hl2
   subst eq
   rcases hlab with ⟨h, _⟩ | ⟨b, j, hw, hc, ht, hcost, hmany⟩
   ·exact absurd h hv
   have hqj : q = j + 1 := by omega
   subst hqj
   have hls : Least d c fr (TV d f.by') b j := ⟨hw, λ b' i hi => by
    have := hl.2 _ _ (ht ▸ Walk.step f.by' hi hc)
    omega⟩
   have hlt : Least d c fr (KF d f.by') (b + GY d f.by') (j + 1) := by rw [ht, <- hcost, <- ea]; exact hl
   obtain ⟨l, e1, e2, e3, e4⟩ := ABX ha k (TV d f.by') b j hls (by omega)
   have e1' : SZ d m fr k (KF d ⟨f.by'.way, !f.by'.back⟩) = some l := e1
   rw [e1']
   refine ⟨f.by' :: l, rfl, ⟨hc, ht, e2⟩, λ s hs => ?_, ?_⟩
   ·rcases List.mem_cons.1 hs with rfl | hs
    ·exact ⟨⟨hc, b, j, hls, hlt⟩, _, _, Nat.le_refl _, hlt⟩
    ·obtain ⟨h1, b', i, h2, h3⟩ := e3 s hs
     exact ⟨h1, b', i, by omega, h3⟩
   ·rw [List.map_cons, List.nodup_cons]
    refine ⟨λ hm => ?_, e4⟩
    obtain ⟨s, hs, he⟩ := List.mem_map.1 hm
    obtain ⟨⟨_, b2, j2, t1, t2⟩, b', i, h2, h3⟩ := e3 s hs
    have hu := t2.uniq h3
    by_cases hb : s.back = f.by'.back
    ·have hse : s = f.by' := by cases s; cases hh : f.by'; simp_all
     rw [hse] at h3
     have := h3.uniq hlt
     omega
    ·have hse : s = ⟨f.by'.way, !f.by'.back⟩ := by
      cases s; cases hh : f.by'; rename_i x y z w; simp only [hh] at he hb ⊢
      subst he; cases y <;> cases w <;> simp_all
     have h4 : TV d s = KF d f.by' := by rw [hse]; exact BHZ d _
     rw [h4] at t1
     have := t1.uniq hlt
     omega
structure Small (B : Int) (w : Way) : Prop where
 now : -B <= w.now /\ w.now <= B
 sp : -100000000 <= w.sp.lo /\ w.sp.lo <= w.sp.hi /\ w.sp.hi <= 100000000
theorem mD {B : Int} {w : Way} (h : Small B w) (hB : B <= 3000000000) : BO w false = if w.now < w.sp.lo then (-1, w.sp.lo - w.now) else if w.now < w.sp.hi then (0, w.sp.hi - w.now) else (1, 10000000000) := by
 have h1 := h.now
 have h2 := h.sp
 unfold BO
 simp only [Bool.false_eq_true, if_false]
 rw [FK (n := w.sp.lo - w.now) (by omega) (by omega), FK (n := w.sp.hi - w.now) (by omega) (by omega)]
theorem Yv {B : Int} {w : Way} (h : Small B w) (hB : B <= 3000000000) : BO w true = if w.sp.hi < w.now then (-1, w.now - w.sp.hi) else if w.sp.lo < w.now then (0, w.now - w.sp.lo) else (1, 10000000000) := by
 have h1 := h.now
 have h2 := h.sp
 unfold BO
 simp only [if_true]
 rw [FK (n := -w.now) (by omega) (by omega), FK (n := -w.sp.hi) (by omega) (by omega), FK (n := -w.sp.lo) (by omega) (by omega)]
 rw [FK (n := -w.sp.hi - -w.now) (by omega) (by omega), FK (n := -w.sp.lo - -w.now) (by omega) (by omega)]
 by_cases a : w.sp.hi < w.now
 ·rw [if_pos a, if_pos (by omega)]; congr 1; omega
 ·rw [if_neg a, if_neg (by omega)]
  by_cases b : w.sp.lo < w.now
  ·rw [if_pos b, if_pos (by omega)]; congr 1; omega
  ·rw [if_neg b, if_neg (by omega)]
def OptW (w : Way) (r : Int) : Prop := r = 0 /\ w.sp.lo <= w.now /\ w.now <= w.sp.hi ∨ r = 1 /\ w.sp.hi <= w.now ∨ r = -1 /\ w.now <= w.sp.lo
theorem ABM {B : Int} {w : Way} (h : Small B w) (hB : B <= 3000000000) (r : Int) : OptW w r ↔ r <= (BO w false).1 /\ -r <= (BO w true).1 := by
 have h1 := h.now
 have h2 := h.sp
 rw [mD h hB, Yv h hB]
 unfold OptW
 by_cases a : w.now < w.sp.lo <;> by_cases b : w.now < w.sp.hi <;> by_cases e : w.sp.hi < w.now <;> by_cases f : w.sp.lo < w.now <;> simp only [a, b, e, f, if_true, if_false] <;> omega
theorem AFM {B : Int} {w : Way} (h : Small B w) (hB : B <= 3000000000) (b : Bool) : 1 <= (BO w b).2 := by
 cases b
 ·rw [mD h hB]
  by_cases a : w.now < w.sp.lo <;> by_cases b : w.now < w.sp.hi <;> simp only [a, b, if_true, if_false] <;> omega
 ·rw [Yv h hB]
  by_cases a : w.sp.hi < w.now <;> by_cases b : w.sp.lo < w.now <;> simp only [a, b, if_true, if_false] <;> omega
def UN (q : Int) (b : Bool) (w : Way) : Way := { w with now := if b then w.now - q else w.now + q }
theorem BDF {B : Int} {w : Way} (h : Small B w) (hB : B <= 3000000000) {q : Int} {b : Bool} (h0 : 0 <= q) (hq : q <= (BO w b).2) : OptW (UN q b w) (if b then -(BO w b).1 else (BO w b).1) := by
 have h1 := h.now
 have h2 := h.sp
 cases b
 ·have e := mD h hB
  rw [if_neg (by decide)]
  by_cases a : w.now < w.sp.lo
  ·rw [if_pos a] at e; rw [e] at hq ⊢; simp only at hq
   right; right; exact ⟨rfl, by simp only [UN, Bool.false_eq_true, if_false]; omega⟩
  ·rw [if_neg a] at e
   by_cases b : w.now < w.sp.hi
   ·rw [if_pos b] at e; rw [e] at hq ⊢; simp only at hq
    left; refine ⟨rfl, ?_, ?_⟩ <;> simp only [UN, Bool.false_eq_true, if_false] <;> omega
   ·rw [if_neg b] at e; rw [e]
    right; left; exact ⟨rfl, by simp only [UN, Bool.false_eq_true, if_false]; omega⟩
 ·have e := Yv h hB
  rw [if_pos rfl]
  by_cases a : w.sp.hi < w.now
  ·rw [if_pos a] at e; rw [e] at hq ⊢; simp only at hq
   right; left; exact ⟨rfl, by simp only [UN, if_true]; omega⟩
  ·rw [if_neg a] at e
   by_cases b : w.sp.lo < w.now
   ·rw [if_pos b] at e; rw [e] at hq ⊢; simp only at hq
    left; refine ⟨rfl, ?_, ?_⟩ <;> simp only [UN, if_true] <;> omega
   ·rw [if_neg b] at e; rw [e]
    right; right; exact ⟨rfl, by simp only [UN, if_true]; omega⟩
theorem AJK {B : Int} {w : Way} (h : Small B w) (hB : B <= 3000000000) {q : Int} {b : Bool} (h0 : 0 <= q) (hq : q <= (BO w b).2) (hf : (BO w b).1 <= 0) (hin : w.sp.lo <= w.now /\ w.now <= w.sp.hi) : (UN q b w).sp.lo <= (UN q b w).now /\ (UN q b w).now <= (UN q b w).sp.hi := by
 cases b
 ·rw [mD h hB] at *
  unfold UN
  by_cases a : w.now < w.sp.lo <;> by_cases b : w.now < w.sp.hi <;> simp only [a, b, if_true, if_false, Bool.false_eq_true] at hq hf ⊢ <;> omega
 ·rw [Yv h hB] at *
  unfold UN
  by_cases a : w.sp.hi < w.now <;> by_cases b : w.sp.lo < w.now <;> simp only [a, b, if_true, if_false] at hq hf ⊢ <;> omega
theorem eW : ∀ (l : List Step) (a : Int), JS d a l <= a /\ ∀ s ∈ l, JS d a l <= (BO (EW d.all s.way) s.back).2
 | [], a => ⟨Int.le_refl _, λ s hs => (by cases hs)⟩
 | s :: l, a => by
  simp only [JS]
  obtain ⟨h1, h2⟩ := eW l (min a (BO (EW d.all s.way) s.back).2)
  refine ⟨by omega, λ t ht => ?_⟩
  rcases List.mem_cons.1 ht with rfl | ht
  ·omega
  ·exact h2 t ht
theorem Wg : ∀ (l : List Step) (a : Int), 1 <= a -> (∀ s ∈ l, 1 <= (BO (EW d.all s.way) s.back).2) -> 1 <= JS d a l
 | [], a, h, _ => h
 | s :: l, a, h, hl => by
  simp only [JS]
  have := hl s (by simp)
  exact Wg l _ (by omega) λ t ht => hl t (by simp [ht])
theorem Po (q : Int) (l : List Way) (s : Step) : (Ae q l s).length = l.length := by simp [Ae]
theorem DR (q : Int) : ∀ (l : List Step) (all : List Way), (AQ q all l).length = all.length
 | [], _ => rfl
 | s :: l, all => by simp only [AQ]; rw [DR q l, Po]
theorem ASF {q : Int} {all : List Way} {s : Step} (h : 0 <= s.way /\ s.way < all.length) {B : Int} (hB : B <= 1000000000000) (hq : 0 <= q /\ q <= B) (hs : ∀ i, i < all.length -> -B <= (gD all i).now /\ (gD all i).now <= B) (i : Nat) : gD (Ae q all s) i = if i = s.way.toNat then UN q s.back (gD all i) else gD all i := by
 have hk : s.way.toNat < all.length := by omega
 unfold Ae
 rw [BD hk]
 by_cases he : i = s.way.toNat
 ·subst he
  have := hs _ hk
  rw [if_pos rfl, if_pos rfl]
  unfold UN
  rw [FK (n := (gD all s.way.toNat).now - q) (by omega) (by omega), FK (n := (gD all s.way.toNat).now + q) (by omega) (by omega)]
 ·rw [if_neg he, if_neg he]
theorem eP {q B : Int} (hB : B <= 3000000000) (hq : 0 <= q /\ q <= B) : ∀ (l : List Step) (all : List Way), (l.map λ s => s.way).Nodup -> (∀ s ∈ l, 0 <= s.way /\ s.way < all.length) -> (∀ i, i < all.length -> -(2 * B) <= (gD all i).now /\ (gD all i).now <= 2 * B) ->
  (∀ i : Nat, (∃ s ∈ l, s.way = i) -> -B <= (gD all i).now /\ (gD all i).now <= B) ->
  ∀ i, i < all.length -> (∃ s ∈ l, s.way = i /\ gD (AQ q all l) i = UN q s.back (gD all i)) ∨ ((∀ s ∈ l, s.way ≠ i) /\ gD (AQ q all l) i = gD all i)
 | [], all, _, _, _, _, i, hi => .inr ⟨λ s hs => (by cases hs), rfl⟩
 | s :: l, all, hn, hw, hs, hs2, i, hi => by
  rw [List.map_cons, List.nodup_cons] at hn
  have hws := hw s (by simp)
  have e := λ i => ASF (q := q) hws (B := 2 * B) (by omega) (by omega) hs i
  simp only [AQ]
  have hh := hs2 s.way.toNat ⟨s, by simp, by omega⟩
  have := eP hB hq l (Ae q all s) hn.2 (λ t ht => by rw [Po]; exact hw t (by simp [ht])) (λ i hi => by
   rw [Po] at hi
   rw [e]
   split
   ·rename_i he; subst he
    unfold UN; cases s.back <;> simp <;> omega
   ·exact hs i hi) (λ i hi => by
   obtain ⟨t, ht, hte⟩ := hi
   rw [e, if_neg]
   ·exact hs2 i ⟨t, by simp [ht], hte⟩
   ·intro he
    refine hn.1 (List.mem_map.2 ⟨t, ht, ?_⟩)
    show t.way = s.way
    omega) i (by rw [Po]; exact hi)
  rcases this with ⟨t, h1, h2, h3⟩ | ⟨h1, h2⟩
  ·refine .inl ⟨t, by simp [h1], h2, ?_⟩
   rw [h3, e, if_neg]
   intro he
   refine hn.1 (List.mem_map.2 ⟨t, h1, ?_⟩)
   show t.way = s.way
   omega
  ·by_cases he : i = s.way.toNat
   ·refine .inl ⟨s, by simp, by omega, ?_⟩
    rw [h2, e, if_pos he]
   ·refine .inr ⟨λ t ht => ?_, by rw [h2, e, if_neg he]⟩
    rcases List.mem_cons.1 ht with rfl | ht
    ·omega
    ·exact h1 t ht
def Pi (v : Int) (w : Way) : Int := (if w.to = v then w.now else 0) - (if w.fr = v then w.now else 0)
def LM (v : Int) : List Way -> Int
 | [] => 0
 | w :: l => Pi v w + LM v l
theorem Lv (v : Int) (f : Way -> Way) (k : Int) : ∀ (l : List Way) (i : Nat), i < l.length -> Pi v (f (gD l i)) = Pi v (gD l i) + k -> LM v (l.modify i f) = LM v l + k
 | [], i, h, _ => by simp at h
 | w :: l, 0, _, hf => by
  have : gD (w :: l) 0 = w := rfl
  rw [this] at hf
  simp [LM, hf]; omega
 | w :: l, i + 1, h, hf => by
  have : gD (w :: l) (i + 1) = gD l i := rfl
  rw [this] at hf
  simp only [List.modify_succ_cons, LM, Lv v f k l i (by simpa using h) hf]; omega
def ind (v u : Int) (q : Int) : Int := if u = v then q else 0
theorem BCZ {q : Int} {all : List Way} {s : Step} (h : 0 <= s.way /\ s.way < all.length) {B : Int} (hB : B <= 1000000000000) (hq : 0 <= q /\ q <= B) (hs : -B <= (gD all s.way.toNat).now /\ (gD all s.way.toNat).now <= B) (v : Int) :
  LM v (Ae q all s) = LM v all + ind v (if s.back then (gD all s.way.toNat).fr else (gD all s.way.toNat).to) q - ind v (if s.back then (gD all s.way.toNat).to else (gD all s.way.toNat).fr) q := by
 unfold Ae
 rw [Lv v _ (ind v (if s.back then (gD all s.way.toNat).fr else (gD all s.way.toNat).to) q - ind v (if s.back then (gD all s.way.toNat).to else (gD all s.way.toNat).fr) q) all s.way.toNat (by omega)]
 ·omega
 ·rw [FK (n := (gD all s.way.toNat).now - q) (by omega) (by omega), FK (n := (gD all s.way.toNat).now + q) (by omega) (by omega)]
  unfold Pi ind
  cases s.back
  ·by_cases h1 : (gD all s.way.toNat).fr = v <;> by_cases h2 : (gD all s.way.toNat).to = v <;> simp [h1, h2] <;> omega
  ·by_cases h1 : (gD all s.way.toNat).fr = v <;> by_cases h2 : (gD all s.way.toNat).to = v <;> simp [h1, h2] <;> omega
end Go.Bal
