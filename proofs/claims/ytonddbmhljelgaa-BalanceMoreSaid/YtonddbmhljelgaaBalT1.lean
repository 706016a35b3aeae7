/- Package balance: walks over a net at work, and what reach finds. -/
import Derived.Test.YtonddbmhljelgaaBalM
set_option linter.unusedVariables false
set_option linter.unusedSimpArgs false
namespace Go.Bal
open Go
theorem DR {n : Int} (h0 : -9223372036854775808 <= n) (h1 : n <= 9223372036854775807) : wr n = n := OT h0 h1
def FM (d : Desk) (s : Step) : Int := DB d ⟨s.way, !s.back⟩
def CL (d : Desk) (s : Step) : Int := (AV (BW d.all s.way) s.back).1
theorem Fi (w : Way) (b : Bool) : -1 <= (AV w b).1 /\ (AV w b).1 <= 1 := by
 unfold AV; simp only
 generalize (if b = true then wr (-w.now) else w.now) = x
 generalize (if b = true then wr (-w.sp.hi) else w.sp.lo) = y
 generalize (if b = true then wr (-w.sp.lo) else w.sp.hi) = z
 split
 ·exact ⟨by simp, by simp⟩
 ·split
  ·exact ⟨by simp, by simp⟩
  ·exact ⟨by simp, by simp⟩
def Mg (d : Desk) (c : Step -> Bool) (s : Step) : Prop := (0 <= s.way /\ s.way < d.all.length) /\ c s = true
inductive Walk (d : Desk) (c : Step -> Bool) (fr : Int) : Int -> Int -> Nat -> Prop
 | nil : Walk d c fr fr 0 0
 | step {a : Int} {m : Nat} (s : Step) : Walk d c fr (FM d s) a m -> Mg d c s -> Walk d c fr (DB d s) (a + CL d s) (m + 1)
def Tj (d : Desk) (c : Step -> Bool) (π : Int -> Int) : Prop := ∀ s, Mg d c s -> π (DB d s) <= π (FM d s) + CL d s
variable {d : Desk} {c : Step -> Bool} {fr : Int} {π : Int -> Int}
theorem Walk.pot (h : Tj d c π) {v a : Int} {m : Nat} (w : Walk d c fr v a m) : π v - π fr <= a := by
 induction w with
 | nil => omega
 | step s _ hc ih => have := h s hc; omega
theorem Walk.pred {v a : Int} {m : Nat} (w : Walk d c fr v a (m + 1)) : ∃ s b, Walk d c fr (FM d s) b m /\ Mg d c s /\ DB d s = v /\ a = b + CL d s := by
 cases w with
 | step s w hc => exact ⟨s, _, w, hc, rfl, rfl⟩
theorem Walk.zero {v a : Int} (w : Walk d c fr v a 0) : v = fr /\ a = 0 := by
 cases w; exact ⟨rfl, rfl⟩
def Least (d : Desk) (c : Step -> Bool) (fr v a : Int) (m : Nat) : Prop := Walk d c fr v a m /\ ∀ b k, Walk d c fr v b k -> a < b ∨ a = b /\ m <= k
theorem Lb {p : Nat -> Prop} (n : Nat) (h : p n) : ∃ n, p n /\ ∀ k, p k -> n <= k := by
 induction n using Nat.strongRecOn with
 | ind n ih =>
  by_cases hq : ∃ k, k < n /\ p k
  ·obtain ⟨k, h1, h2⟩ := hq; exact ih k h1 h2
  ·exact ⟨n, h, λ k hk => Nat.le_of_not_lt λ hlt => hq ⟨k, hlt, hk⟩⟩
theorem Eb (h : Tj d c π) {v a : Int} {m : Nat} (w : Walk d c fr v a m) : ∃ b k, Least d c fr v b k := by
 obtain ⟨n, ⟨b, k, hw, hn⟩, h2⟩ := Lb (p := λ n => ∃ b k, Walk d c fr v b k /\ n = (b - (π v - π fr)).toNat) _ ⟨a, m, w, rfl⟩
 obtain ⟨k, hw, h3⟩ := Lb (p := λ k => Walk d c fr v b k) _ hw
 refine ⟨b, k, hw, λ b' k' hw' => ?_⟩
 have e1 := h2 _ ⟨b', k', hw', rfl⟩
 have e2 := hw'.pot h
 have e3 := hw.pot h
 by_cases he : b = b'
 ·subst he; exact .inr ⟨rfl, h3 _ hw'⟩
 ·left; omega
theorem Least.uniq {v a b : Int} {m k : Nat} (h1 : Least d c fr v a m) (h2 : Least d c fr v b k) : a = b /\ m = k := by
 have := h1.2 _ _ h2.1
 have := h2.2 _ _ h1.1
 omega
theorem Least.pred {v a : Int} {m : Nat} (h : Least d c fr v a (m + 1)) : ∃ s b, Least d c fr (FM d s) b m /\ Mg d c s /\ DB d s = v /\ a = b + CL d s := by
 obtain ⟨s, b, hw, hc, ht, ha⟩ := h.1.pred
 refine ⟨s, b, ⟨hw, λ b' k hk => ?_⟩, hc, ht, ha⟩
 have := h.2 (b' + CL d s) (k + 1) (ht ▸ Walk.step s hk hc)
 omega
theorem Dx : ∀ (N : Nat) (l : List Int), l.Nodup -> (∀ x ∈ l, 0 <= x /\ x < N) -> l.length <= N
 | 0, l, _, h => by
  cases l with
  | nil => simp
  | cons a l => have := h a (by simp); omega
 | N + 1, l, hn, h => by
  have h1 := Dx N (l.erase (N : Int)) (hn.erase _) (λ x hx => by
   have h2 := (hn.mem_erase_iff).1 hx
   have := h x h2.2
   have := h2.1
   omega)
  by_cases hm : (N : Int) ∈ l
  ·rw [List.length_erase_of_mem hm] at h1; omega
  ·rw [List.erase_of_not_mem hm] at h1; omega
theorem RY (hd : d.ok) {s : Step} (hs : 0 <= s.way /\ s.way < d.all.length) : 0 <= DB d s /\ DB d s < d.out + 2 := by
 obtain ⟨h1, h2⟩ := hd.ends s.way.toNat (by omega)
 unfold DB BW
 cases s.back
 ·exact h2
 ·exact h1
theorem Least.short (hd : d.ok) (hfr : 0 <= fr /\ fr < d.out + 2) : ∀ {m : Nat} {v a : Int}, Least d c fr v a m -> ∃ l : List Int, l.length = m + 1 /\ l.Nodup /\ ∀ x ∈ l, (0 <= x /\ x < d.out + 2) /\ ∃ b k, k <= m /\ Least d c fr x b k
 | 0, v, a, h => by
  obtain ⟨h1, _⟩ := h.1.zero
  subst h1
  exact ⟨[v], rfl, by simp, λ x hx => by simp at hx; subst hx; exact ⟨hfr, a, 0, Nat.le_refl _, h⟩⟩
 | m + 1, v, a, h => by
  obtain ⟨s, b, h1, hc, ht, _⟩ := h.pred
  obtain ⟨l, e1, e2, e3⟩ := Least.short hd hfr h1
  refine ⟨v :: l, by simp [e1], List.nodup_cons.2 ⟨λ hm => ?_, e2⟩, λ x hx => ?_⟩
  ·obtain ⟨_, b', k, hk, hl⟩ := e3 v hm
   have := hl.uniq h
   omega
  ·rcases List.mem_cons.1 hx with rfl | hx
   ·exact ⟨ht ▸ RY hd hc.1, a, m + 1, Nat.le_refl _, h⟩
   ·obtain ⟨q1, b', k, hk, hl⟩ := e3 x hx
    exact ⟨q1, b', k, by omega, hl⟩
theorem Least.many_lt (hd : d.ok) (hfr : 0 <= fr /\ fr < d.out + 2) {m : Nat} {v a : Int} (h : Least d c fr v a m) : m < d.out + 2 := by
 obtain ⟨l, e1, e2, e3⟩ := h.short hd hfr
 have := Dx (d.out + 2) l e2 (λ x hx => by have := (e3 x hx).1; omega)
 omega
def Lab (d : Desk) (c : Step -> Bool) (fr v : Int) (f : Far) : Prop :=
 (v = fr /\ f = ⟨0, 0, ⟨0, false⟩⟩) ∨ ∃ (a : Int) (m : Nat), Walk d c fr (FM d f.by') a m /\ Mg d c f.by' /\ DB d f.by' = v /\ f.cost = a + CL d f.by' /\ f.many = m + 1
theorem Lab.walk {v : Int} {f : Far} (h : Lab d c fr v f) : ∃ m : Nat, f.many = m /\ Walk d c fr v f.cost m := by
 rcases h with ⟨rfl, rfl⟩ | ⟨a, m, h1, h2, h3, h4, h5⟩
 ·exact ⟨0, rfl, .nil⟩
 ·exact ⟨m + 1, by rw [h5]; rfl, by rw [<- h3, h4]; exact .step _ h1 h2⟩
def Mp (f : Far) (a : Int) (m : Int) : Prop := f.cost < a ∨ f.cost = a /\ f.many <= m
theorem TT {f g : Far} (h : better f g = false) : Mp g f.cost f.many := by
 unfold better at h
 simp only [Bool.or_eq_false_iff, decide_eq_false_iff_not, Bool.and_eq_false_iff, beq_eq_false_iff_ne] at h
 unfold Mp; omega
theorem Iy {f g : Far} (h : better f g = true) : f.cost < g.cost ∨ f.cost = g.cost /\ f.many < g.many := by
 unfold better at h
 simpa [Bool.or_eq_true, Bool.and_eq_true] using h
structure Inv (d : Desk) (c : Step -> Bool) (fr : Int) (M : Nat) (m : Map) : Prop where
 len : m.length = d.out + 2
 lab : ∀ v f, m.at v = some f -> Lab d c fr v f /\ (-(M : Int) <= f.cost /\ f.cost <= M) /\ f.many <= M
def Imp (m m' : Map) : Prop := ∀ v f, m.at v = some f -> ∃ g, m'.at v = some g /\ Mp g f.cost f.many
theorem Imp.refl (m : Map) : Imp m m := λ v f h => ⟨f, h, .inr ⟨rfl, Int.le_refl _⟩⟩
theorem Imp.trans {m m' m'' : Map} (h1 : Imp m m') (h2 : Imp m' m'') : Imp m m'' := λ v f h => by
 obtain ⟨g, e1, e2⟩ := h1 v f h
 obtain ⟨k, e3, e4⟩ := h2 v g e1
 refine ⟨k, e3, ?_⟩
 unfold Mp at *; omega
theorem Inv.mono {M N : Nat} {m : Map} (h : Inv d c fr M m) (hMN : M <= N) : Inv d c fr N m :=
 ⟨h.len, λ _ f hf => by obtain ⟨h1, h2, h3⟩ := h.lab _ f hf; exact ⟨h1, by omega, by omega⟩⟩
theorem XX {m : Map} {t : Int} {x : Far} (h0 : 0 <= t) (h : t.toNat < m.length) (z : Int) : Map.at (m.set t.toNat (some x)) z = if z = t then some x else m.at z := by
 unfold Map.at
 by_cases hz : 0 <= z
 ·rw [if_pos hz, if_pos hz, List.getElem?_set]
  by_cases he : z = t
  ·subst he; simp [h]
  ·rw [if_neg (by omega), if_neg he]
 ·rw [if_neg hz, if_neg hz, if_neg (by omega)]
def Met (m : Map) (v : Int) (a : Int) (k : Int) : Prop := ∃ f, m.at v = some f /\ Mp f a k
theorem Met.imp {m m' : Map} {v a k : Int} (h : Met m v a k) (hi : Imp m m') : Met m' v a k := by
 obtain ⟨f, h1, h2⟩ := h
 obtain ⟨g, h3, h4⟩ := hi v f h1
 refine ⟨g, h3, ?_⟩
 unfold Mp at *; omega
theorem Cc (hd : d.ok) {M : Nat} {r : RT} {here : Far} {s : Step} (hi : Inv d c fr M r.m) (hM : M < 1000000) (hs : 0 <= s.way /\ s.way < d.all.length) (hh : Lab d c fr (FM d s) here) (hb : (-(M : Int) <= here.cost /\ here.cost <= M) /\ here.many <= M) :
  Inv d c fr (M + 1) (DN d c here r s).m /\ Imp r.m (DN d c here r s).m /\ (c s = true -> Met (DN d c here r s).m (DB d s) (here.cost + CL d s) (here.many + 1)) /\ ((DN d c here r s).ag = true ∨ DN d c here r s = r) := by
 unfold DN
 by_cases hc : c s = true
 ·rw [if_pos hc]
  simp only
  have hp := Fi (BW d.all s.way) s.back
  obtain ⟨k, hk, hw⟩ := hh.walk
  have e1 : wr (here.cost + (AV (BW d.all s.way) s.back).1) = here.cost + CL d s := DR (by omega) (by omega)
  have e2 : wr (here.many + 1) = here.many + 1 := DR (by omega) (by omega)
  rw [e1, e2]
  have hq : -1 <= CL d s /\ CL d s <= 1 := hp
  have ht := RY hd hs
  have hlab : Lab d c fr (DB d s) ⟨here.cost + CL d s, here.many + 1, s⟩ := .inr ⟨_, k, hw, ⟨hs, hc⟩, rfl, rfl, by simp [hk]⟩
  have hset : ∀ z, Map.at (r.m.set (DB d s).toNat (some ⟨here.cost + CL d s, here.many + 1, s⟩)) z = if z = DB d s then some ⟨here.cost + CL d s, here.many + 1, s⟩ else r.m.at z := XX ht.1 (by rw [hi.len]; omega)
  have hinv : Inv d c fr (M + 1) (r.m.set (DB d s).toNat (some ⟨here.cost + CL d s, here.many + 1, s⟩)) := by
   refine ⟨by simp [hi.len], λ v f hf => ?_⟩
   rw [hset] at hf
   split at hf
   ·rename_i he; subst he
    cases hf
    exact ⟨hlab, by simp only; omega, by simp only; omega⟩
   ·obtain ⟨h1, h2, h3⟩ := hi.lab v f hf
    exact ⟨h1, by omega, by omega⟩
  cases hq : r.m.at (DB d s) with
  | none =>
   refine ⟨hinv, λ v f hf => ?_, λ _ => ⟨_, by rw [hset, if_pos rfl], .inr ⟨rfl, Int.le_refl _⟩⟩, .inl rfl⟩
   have hne : v ≠ DB d s := λ he => by rw [he, hq] at hf; cases hf
   exact ⟨f, by rw [hset, if_neg hne]; exact hf, .inr ⟨rfl, Int.le_refl _⟩⟩
  | some was =>
   simp only
   by_cases hbt : better ⟨here.cost + CL d s, here.many + 1, s⟩ was = true
   ·rw [if_pos hbt]
    refine ⟨hinv, λ v f hf => ?_, λ _ => ⟨_, by rw [hset, if_pos rfl], .inr ⟨rfl, Int.le_refl _⟩⟩, .inl rfl⟩
    by_cases he : v = DB d s
    ·subst he
     rw [hq] at hf; cases hf
     refine ⟨_, by rw [hset, if_pos rfl], ?_⟩
     have := Iy hbt
     unfold Mp; simp only at *; omega
    ·exact ⟨f, by rw [hset, if_neg he]; exact hf, .inr ⟨rfl, Int.le_refl _⟩⟩
   ·rw [if_neg hbt]
    have := TT (by simpa using hbt)
    exact ⟨hi.mono (by omega), Imp.refl _, λ _ => ⟨was, hq, this⟩, .inr rfl⟩
 ·rw [if_neg hc]
  exact ⟨hi.mono (by omega), Imp.refl _, λ h => absurd h hc, .inr rfl⟩
theorem UD (hd : d.ok) {here : Far} {p : Int} (hh : Lab d c fr p here) {M0 : Nat} (hb : (-(M0 : Int) <= here.cost /\ here.cost <= M0) /\ here.many <= M0) : ∀ (n i : Nat), n + i = d.all.length -> ∀ (M : Nat) (r : RT), Inv d c fr M r.m -> M0 <= M -> M + 2 * n < 1000000 ->
  Inv d c fr (M + 2 * n) (CG d c here p (d.all.drop i) i r).m /\ Imp r.m (CG d c here p (d.all.drop i) i r).m /\ (∀ s, Mg d c s -> FM d s = p -> i <= s.way -> Met (CG d c here p (d.all.drop i) i r).m (DB d s) (here.cost + CL d s) (here.many + 1)) /\ ((CG d c here p (d.all.drop i) i r).ag = true ∨ CG d c here p (d.all.drop i) i r = r)
 | 0, i, hn, M, r, hi, hM, hlt => by
  rw [List.drop_eq_nil_of_le (by omega)]
  exact ⟨hi, Imp.refl _, λ s hs _ h => by have := hs.1; omega, .inr rfl⟩
 | n + 1, i, hn, M, r, hi, hM, hlt => by
  have hlen : i < d.all.length := by omega
  rw [DX hlen]
  simp only [CG]
  have gW : BW d.all (i : Int) = gD d.all i := by simp [BW]
  -- there
  have h1 : ∃ r1, r1 = (if (gD d.all i).fr = p then DN d c here r ⟨i, false⟩ else r) /\ Inv d c fr (M + 1) r1.m /\ Imp r.m r1.m /\ ((gD d.all i).fr = p -> c ⟨i, false⟩ = true -> Met r1.m (DB d ⟨i, false⟩) (here.cost + CL d ⟨i, false⟩) (here.many + 1)) /\ (r1.ag = true ∨ r1 = r) := by
   by_cases he : (gD d.all i).fr = p
   ·rw [if_pos he]
    have hsrc : FM d ⟨i, false⟩ = p := by simp [FM, DB, gW, he]
    obtain ⟨q1, q2, q3, q4⟩ := Cc (c := c) (fr := fr) (s := ⟨i, false⟩) hd hi (by omega) ⟨by simp, by simp; omega⟩ (by rw [hsrc]; exact hh) ⟨⟨by omega, by omega⟩, by omega⟩
    exact ⟨_, rfl, q1, q2, λ _ => q3, q4⟩
   ·rw [if_neg he]
    exact ⟨_, rfl, hi.mono (by omega), Imp.refl _, λ h => absurd h he, .inr rfl⟩
  obtain ⟨r1, hr1, a1, a2, a3, a4⟩ := h1
  rw [<- hr1]
  have h2 : ∃ r2, r2 = (if (gD d.all i).to = p then DN d c here r1 ⟨i, true⟩ else r1) /\ Inv d c fr (M + 2) r2.m /\ Imp r1.m r2.m /\ ((gD d.all i).to = p -> c ⟨i, true⟩ = true -> Met r2.m (DB d ⟨i, true⟩) (here.cost + CL d ⟨i, true⟩) (here.many + 1)) /\ (r2.ag = true ∨ r2 = r1) := by
   by_cases he : (gD d.all i).to = p
   ·rw [if_pos he]
    have hsrc : FM d ⟨i, true⟩ = p := by simp [FM, DB, gW, he]
    obtain ⟨q1, q2, q3, q4⟩ := Cc (c := c) (fr := fr) (s := ⟨i, true⟩) hd a1 (by omega) ⟨by simp, by simp; omega⟩ (by rw [hsrc]; exact hh) ⟨⟨by omega, by omega⟩, by omega⟩
    exact ⟨_, rfl, q1, q2, λ _ => q3, q4⟩
   ·rw [if_neg he]
    exact ⟨_, rfl, a1.mono (by omega), Imp.refl _, λ h => absurd h he, .inr rfl⟩
  obtain ⟨r2, hr2, b1, b2, b3, b4⟩ := h2
  rw [<- hr2]
  obtain ⟨c1, c2, c3, c4⟩ := UD hd hh hb n (i + 1) (by omega) (M + 2) r2 b1 (by omega) (by omega)
  refine ⟨c1.mono (by omega), a2.trans (b2.trans c2), λ s hs hp hle => ?_, ?_⟩
  ·by_cases hw : s.way = i
   ·obtain ⟨w, b⟩ := s
    simp only at hw; subst hw
    cases b with
    | false =>
     have : (gD d.all i).fr = p := by rw [<- hp]; simp [FM, DB, gW]
     exact ((a3 this hs.2).imp b2).imp c2
    | true =>
     have : (gD d.all i).to = p := by rw [<- hp]; simp [FM, DB, gW]
     exact (b3 this hs.2).imp c2
   ·exact c3 s hs hp (by omega)
  ·rcases c4 with h | h
   ·exact .inl h
   ·rw [h]
    rcases b4 with h | h
    ·exact .inl h
    ·rw [h]; exact a4
theorem KX (hd : d.ok) : ∀ (n p : Nat) (M : Nat) (r : RT), Inv d c fr M r.m -> M + 46 * n < 1000000 ->
  Inv d c fr (M + 46 * n) (AU d c n p r).m /\ Imp r.m (AU d c n p r).m /\ (∀ s, Mg d c s -> (p : Int) <= FM d s -> FM d s < p + n -> ∀ f, r.m.at (FM d s) = some f -> Met (AU d c n p r).m (DB d s) (f.cost + CL d s) (f.many + 1)) /\ ((AU d c n p r).ag = true ∨ AU d c n p r = r)
 | 0, p, M, r, hi, hlt => ⟨hi, Imp.refl _, λ s _ h1 h2 => by omega, .inr rfl⟩
 | n + 1, p, M, r, hi, hlt => by
  simp only [AU]
  have hlen := hd.len
  cases hq : r.m.at p with
  | none =>
   simp only
   obtain ⟨c1, c2, c3, c4⟩ := KX hd n (p + 1) M r hi (by omega)
   refine ⟨c1.mono (by omega), c2, λ s hs h1 h2 f hf => ?_, c4⟩
   by_cases he : FM d s = p
   ·rw [he, hq] at hf; cases hf
   ·exact c3 s hs (by omega) (by omega) f hf
  | some here =>
   simp only
   obtain ⟨hl, hb⟩ := hi.lab _ _ hq
   obtain ⟨a1, a2, a3, a4⟩ := UD (c := c) (fr := fr) hd hl hb d.all.length 0 (by omega) M r hi (Nat.le_refl _) (by omega)
   rw [List.drop_zero] at a1 a2 a3 a4
   obtain ⟨c1, c2, c3, c4⟩ := KX hd n (p + 1) (M + 46) _ (a1.mono (by omega)) (by omega)
   refine ⟨c1.mono (by omega), a2.trans c2, λ s hs h1 h2 f hf => ?_, ?_⟩
   ·by_cases he : FM d s = p
    ·rw [he, hq] at hf; cases hf
     exact (a3 s hs he (by have := hs.1; simp; omega)).imp c2
    ·obtain ⟨g, h3, h4⟩ := a2 _ _ hf
     obtain ⟨k, h5, h6⟩ := c3 s hs (by omega) (by omega) g h3
     refine ⟨k, h5, ?_⟩
     unfold Mp at *; omega
   ·rcases c4 with h | h
    ·exact .inl h
    ·rw [h]; exact a4
def IC (d : Desk) (c : Step -> Bool) (fr : Int) (m : Map) : Prop := (∀ v f, m.at v = some f -> Lab d c fr v f /\ ∃ k : Nat, f.many = k /\ Least d c fr v f.cost k) /\ ∀ v a k, Walk d c fr v a k -> (m.at v).isSome = true
theorem Fo {M : Nat} (hM : M < 1000000) {r : RT} (ha : IC d c fr r.m) {here : Far} {s : Step} (hs : 0 <= s.way /\ s.way < d.all.length) (hh : Lab d c fr (FM d s) here) (hb : (-(M : Int) <= here.cost /\ here.cost <= M) /\ here.many <= M) : DN d c here r s = r := by
 unfold DN
 by_cases hc : c s = true
 ·rw [if_pos hc]
  simp only
  have hp := Fi (BW d.all s.way) s.back
  obtain ⟨k, hk, hw⟩ := hh.walk
  have e1 : wr (here.cost + (AV (BW d.all s.way) s.back).1) = here.cost + CL d s := DR (by omega) (by omega)
  have e2 : wr (here.many + 1) = here.many + 1 := DR (by omega) (by omega)
  rw [e1, e2]
  have hw2 := Walk.step s hw ⟨hs, hc⟩
  have := ha.2 _ _ _ hw2
  obtain ⟨was, hq⟩ := Option.isSome_iff_exists.1 this
  rw [hq]
  simp only
  obtain ⟨_, k2, hk2, hl⟩ := ha.1 _ _ hq
  have := hl.2 _ _ hw2
  have hnb : better ⟨here.cost + CL d s, here.many + 1, s⟩ was = false := by
   unfold better
   simp only [Bool.or_eq_false_iff, decide_eq_false_iff_not, Bool.and_eq_false_iff, beq_eq_false_iff_ne]
   omega
  rw [hnb]; rfl
 ·rw [if_neg hc]
theorem XA {M : Nat} (hM : M < 1000000) {here : Far} {p : Int} (hh : Lab d c fr p here) (hb : (-(M : Int) <= here.cost /\ here.cost <= M) /\ here.many <= M) {r : RT} (ha : IC d c fr r.m) : ∀ (n i : Nat), n + i = d.all.length -> CG d c here p (d.all.drop i) i r = r
 | 0, i, hn => by rw [List.drop_eq_nil_of_le (by omega)]; rfl
 | n + 1, i, hn => by
  have hlen : i < d.all.length := by omega
  rw [DX hlen]
  simp only [CG]
  have gW : BW d.all (i : Int) = gD d.all i := by simp [BW]
  have e1 : (if (gD d.all i).fr = p then DN d c here r ⟨i, false⟩ else r) = r := by
   by_cases he : (gD d.all i).fr = p
   ·rw [if_pos he]
    have hsrc : FM d ⟨i, false⟩ = p := by simp [FM, DB, gW, he]
    exact Fo hM ha ⟨by simp, by simp; omega⟩ (by rw [hsrc]; exact hh) hb
   ·rw [if_neg he]
  rw [e1]
  have e2 : (if (gD d.all i).to = p then DN d c here r ⟨i, true⟩ else r) = r := by
   by_cases he : (gD d.all i).to = p
   ·rw [if_pos he]
    have hsrc : FM d ⟨i, true⟩ = p := by simp [FM, DB, gW, he]
    exact Fo hM ha ⟨by simp, by simp; omega⟩ (by rw [hsrc]; exact hh) hb
   ·rw [if_neg he]
  rw [e2]
  exact XA hM hh hb ha n (i + 1) (by omega)
theorem ME {M : Nat} (hM : M < 1000000) {r : RT} (hi : Inv d c fr M r.m) (ha : IC d c fr r.m) : ∀ (n p : Nat), AU d c n p r = r
 | 0, p => rfl
 | n + 1, p => by
  simp only [AU]
  cases hq : r.m.at p with
  | none => exact ME hM hi ha n (p + 1)
  | some here =>
   simp only
   obtain ⟨hl, hb⟩ := hi.lab _ _ hq
   have := XA hM hl hb ha d.all.length 0 (by omega)
   rw [List.drop_zero] at this
   rw [this]
   exact ME hM hi ha n (p + 1)
def Conv (d : Desk) (c : Step -> Bool) (fr : Int) (j : Nat) (m : Map) : Prop := ∀ v a k, Least d c fr v a k -> k < j -> ∃ f, m.at v = some f /\ f.cost = a /\ f.many = k
theorem Ki (hd : d.ok) {s : Step} (hs : 0 <= s.way /\ s.way < d.all.length) : 0 <= FM d s /\ FM d s < d.out + 2 := RY (s := ⟨s.way, !s.back⟩) hd hs
theorem Nf {M : Nat} (hd : d.ok) (hfr : 0 <= fr /\ fr < d.out + 2) (hp : Tj d c π) {m : Map} (hi : Inv d c fr M m) {j : Nat} (hj : d.out + 2 <= j) (h : Conv d c fr j m) : IC d c fr m := by
 have key : ∀ v a k, Walk d c fr v a k -> ∃ f b q, m.at v = some f /\ f.cost = b /\ f.many = (q : Nat) /\ Least d c fr v b q := λ v a k hw => by
  obtain ⟨b, q, hl⟩ := Eb hp hw
  obtain ⟨f, h1, h2, h3⟩ := h v b q hl (by have := hl.many_lt hd hfr; omega)
  exact ⟨f, b, q, h1, h2, h3, hl⟩
 refine ⟨λ v f hf => ?_, λ v a k hw => ?_⟩
 ·have hl := (hi.lab v f hf).1
  obtain ⟨k, _, hw⟩ := hl.walk
  obtain ⟨g, b, q, h1, h2, h3, h4⟩ := key _ _ _ hw
  rw [hf] at h1; cases h1
  exact ⟨hl, q, h3, by rw [h2]; exact h4⟩
 ·obtain ⟨f, b, q, h1, _⟩ := key _ _ _ hw
  rw [h1]; rfl
theorem El {M : Nat} {m : Map} (hi : Inv d c fr M m) (hst : Met m fr 0 0) (hcl : ∀ s, Mg d c s -> ∀ f, m.at (FM d s) = some f -> Met m (DB d s) (f.cost + CL d s) (f.many + 1)) : IC d c fr m := by
 have key : ∀ v a k, Walk d c fr v a k -> Met m v a k := λ v a k hw => by
  induction hw with
  | nil => exact hst
  | step s _ hc ih =>
   obtain ⟨f, h1, h2⟩ := ih
   obtain ⟨g, h3, h4⟩ := hcl s hc f h1
   refine ⟨g, h3, ?_⟩
   unfold Mp at *
   omega
 refine ⟨λ v f hf => ?_, λ v a k hw => ?_⟩
 ·have hl := (hi.lab v f hf).1
  obtain ⟨k, hk, hw⟩ := hl.walk
  refine ⟨hl, k, hk, hw, λ b q hw2 => ?_⟩
  obtain ⟨g, h1, h2⟩ := key _ _ _ hw2
  rw [hf] at h1; cases h1
  unfold Mp at h2; omega
 ·obtain ⟨f, h1, _⟩ := key _ _ _ hw
  rw [h1]; rfl
theorem Cf (hd : d.ok) (hfr : 0 <= fr /\ fr < d.out + 2) (hp : Tj d c π) : ∀ (g k j : Nat) (r : RT), d.out + 2 - j = g -> g < k -> Inv d c fr (460 * j) r.m -> j <= d.out + 2 -> Conv d c fr j r.m -> Met r.m fr 0 0 ->
  ∃ rf, YW d c k r = some rf /\ rf.m.length = d.out + 2 /\ IC d c fr rf.m
 | g, 0, j, r, _, hgk, _, _, _, _ => by omega
 | g, k + 1, j, r, hg, hgk, hi, hj, hcv, hst => by
  have ho := hd.out
  obtain ⟨c1, c2, c3, c4⟩ := KX (c := c) (fr := fr) hd (d.out + 2) 0 (460 * j) { r with ag := false } hi (by omega)
  simp only [YW]
  generalize hr' : AU d c (d.out + 2) 0 { r with ag := false } = r' at c1 c2 c3 c4
  have hcl : ∀ s, Mg d c s -> ∀ f, r.m.at (FM d s) = some f -> Met r'.m (DB d s) (f.cost + CL d s) (f.many + 1) := λ s hs f hf => by
   have := Ki hd hs.1
   exact c3 s hs (by omega) (by omega) f hf
  by_cases hag : r'.ag = true
  ·rw [if_pos hag]
   cases g with
   | zero =>
    have hj' : j = d.out + 2 := by omega
    have hall := Nf hd hfr hp hi (by omega) hcv
    have := ME (r := { r with ag := false }) (by omega) hi hall (d.out + 2) 0
    rw [hr'] at this
    rw [this] at hag; cases hag
   | succ g =>
    refine Cf hd hfr hp g k (j + 1) r' (by omega) (by omega) (c1.mono (by omega)) (by omega) ?_ (hst.imp c2)
    intro v a q hl hq
    have back : ∀ f, r'.m.at v = some f -> Mp f a q -> f.cost = a /\ f.many = q := λ f hf hle => by
     obtain ⟨z, hz, hw⟩ := (c1.lab v f hf).1.walk
     have := hl.2 _ _ hw
     unfold Mp at hle; omega
    by_cases hqj : q < j
    ·obtain ⟨f, h1, h2, h3⟩ := hcv v a q hl hqj
     obtain ⟨g, h4, h5⟩ := c2 v f h1
     rw [h2, h3] at h5
     exact ⟨g, h4, back g h4 h5⟩
    ·cases q with
     | zero =>
      obtain ⟨rfl, rfl⟩ := hl.1.zero
      obtain ⟨f, h1, h2⟩ := hst.imp c2
      exact ⟨f, h1, back f h1 h2⟩
     | succ q =>
      obtain ⟨s, b, h1, h2, h3, h4⟩ := hl.pred
      obtain ⟨f, h5, h6, h7⟩ := hcv _ _ _ h1 (by omega)
      obtain ⟨g, h8, h9⟩ := hcl s h2 f h5
      rw [h3] at h8
      refine ⟨g, h8, back g h8 ?_⟩
      rw [h6, h7] at h9
      rw [h4]
      exact h9
  ·rw [if_neg hag]
   have hag' : r' = { r with ag := false } := by
    rcases c4 with h | h
    ·exact absurd h hag
    ·exact h
   refine ⟨r', rfl, c1.len, ?_⟩
   have hm : r'.m = r.m := by rw [hag']
   rw [hm]
   exact El hi hst λ s hs f hf => by
    have := hcl s hs f hf
    rw [hm] at this; exact this
theorem JJ (d : Desk) {fr : Int} (h : 0 <= fr /\ fr < d.out + 2) (n : Int) : Map.at (FG d fr).m n = if n = fr then some ⟨0, 0, ⟨0, false⟩⟩ else none := by
 unfold FG; simp only
 rw [XX h.1 (by simp; omega)]
 split
 ·rfl
 ·unfold Map.at; split
  ·rw [List.getElem?_replicate]; split <;> rfl
  ·rfl
theorem ZF : 1000000 < fuel := by unfold fuel; decide
theorem Cy (hd : d.ok) (hfr : 0 <= fr /\ fr < d.out + 2) (hp : Tj d c π) : ∃ rf, EJ d c fr = some rf /\ rf.m.length = d.out + 2 /\ IC d c fr rf.m := by
 have ho := hd.out
 have hf := ZF
 unfold EJ
 generalize fuel = k at hf
 refine Cf hd hfr hp (d.out + 2) k 0 _ rfl (by omega) ⟨by simp [FG], λ v f hv => ?_⟩ (by omega) (λ v a q _ h => by omega) ?_
 ·rw [JJ d hfr] at hv
  split at hv
  ·rename_i he; cases hv; exact ⟨.inl ⟨he, rfl⟩, ⟨by simp, by simp⟩, by simp⟩
  ·cases hv
 ·exact ⟨_, by rw [JJ d hfr, if_pos rfl], .inr ⟨rfl, Int.le_refl _⟩⟩
end Go.Bal
