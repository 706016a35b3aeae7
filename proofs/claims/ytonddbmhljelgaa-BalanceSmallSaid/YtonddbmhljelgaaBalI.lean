/- Package balance: shift, copied, span. -/
import Derived.Test.YtonddbmhljelgaaBalH
set_option linter.unusedVariables false
set_option linter.unusedSimpArgs false
namespace Go.Bal
open Go Go.Sym Go.Proofs
structure SA where
 d : Desk
 at' : Int
 up : Bool
 most : Int
structure SS where
 all : List Way
 total : Int
 k : Nat
 deriving Inhabited
def BNI (at' : Int) : List AVal -> Heap -> Option (DM × List (Nat × Nat) × List Nat)
 | [.bptr id _, .d (.v (.int _ fr)), .d (.v (.int _ to)), .mref m, .d (.v (.int _ most))], H => match Do H id with
  | some (d, r) => some (⟨d, fr, to, (Aj d (EM d at') fr).m, (Aj d (EM d at') fr).st, most⟩, [(100, id), (101, r), (104, m)], [])
  | none => none
 | _, _ => none
def SA.res (a : SA) : Desk × Int := (YG a.d a.at' a.up a.most).getD default
def BNX (a : SA) : List (Nat × HCell) := [(300, .live (.box [.bptr 100 0])), (303, .live (.box [.int a.at'])), (301, .live (.box [.fn (.func 101) [] [.bptr 300 0, .bptr 303 0]])), (302, .live (.box [.int a.at', .bool (!a.up)]))]
def ABS (a : SA) (res : Desk × Int) : Shape := { α := SS, dflt := default, T := λ s => ⟨[(2, .bool a.up), (3, .int a.most), (4, .bptr 300 0), (5, .bptr 303 0), (9, .bptr 301 0), (10, .bptr 302 0), (11, .int s.total)], Le (Desk.mk s.all a.d.out a.d.nR) ++ BNX a⟩, inv := λ s => s.all.length = a.d.all.length /\ (Desk.mk s.all a.d.out a.d.nR).ok /\ YP a.at' a.up a.most s.k (Desk.mk s.all a.d.out a.d.nR) s.total = some res, meas := λ s => s.k, first := [(300, 1000), (303, 1016), (301, 2032), (302, 3064)] }
def A77 (a : SA) (res : Desk × Int) : Ann := { ann 100 [(85, C85.spec dDS), (87, C87.spec dDS), (57, s57f), (97, C97.spec (BNI a.at'))] with E := [100, 101], loops := λ id => if id = 4 then some [ABS a res] else none }
def C77 : Ctr := { α := SA, xs := λ a => [.bptr 100 0, .int a.at', .bool a.up, .int a.most], L := λ a => Kv a.d, val := λ a => .int a.res.2, keep := λ a => Le a.res.1, pre := λ a => [a.d.ok, 0 <= a.at' /\ a.at' < a.d.all.length, (YG a.d a.at' a.up a.most).isSome = true] }
def V77 (a : SA) : Prop := BN Try.prog (A77 a a.res) Try.f77 (AF Try.f77) (C77.xs a) (AD (C77.L a)) (C77.val a) (C77.keep a) [] []
abbrev BBG:=@Exists SS
abbrev gU:=SA.up
abbrev qA:=SA.most
abbrev Ut:=SS.total
abbrev GG:=SS.all
abbrev OQ:=SA.d
abbrev Af:=SA.at'
abbrev ARV:=@Eq (Option (Prod Desk Int))
abbrev ASH:=@some (Prod Desk Int)
abbrev gJ:=SA.res
abbrev AQB:=@Prod.snd Desk Int
abbrev AYB:=@Prod.fst Desk Int
abbrev Cm a b:=QN (GG a) b
abbrev Gt a:=AYB (gJ a)
abbrev XA a b:=IS (GG a) b
abbrev Bn a b:=HT (GG a) b
abbrev BEE a b:=Gy a (OQ b)
abbrev dJ a b:=BEE (GG a) b
abbrev hZ a b c d:=BG a b c c d
abbrev yH a:=not (gU a)
abbrev jN a:=AR (Af a)
abbrev BGN a b:=BAP (GG a) (GG b)
abbrev LP a:=BGN a a
abbrev ASQ a b:=ME (qA a) (Ut b)
abbrev AUN a b:=Xq (LP a) (Af b) (yH b)
abbrev AYS a b c:=BEE (BGN a b) c
abbrev BJJ a b c d e:=BBA (AYS a b c) (Af d) e
abbrev Uq a b:=BJJ a a b b (yH b)
abbrev AQF a b:=EM (AYS a a b) (Af b)
abbrev Za a b:=AYS a a b
abbrev AXJ a b c:=ARO (Za a b) c (Uq a b)
abbrev Jo a b:=AXJ a b (AQF a b)
abbrev ABI a b:=BJJ a a b b (gU b)
abbrev lG a b:=BFT (Za a b) (Uq a b) (ABI a b) (Jo a b) (Za a b) (AQF a b) (Uq a b) (AUN a b) (ASQ b a)
abbrev RQ a b:=ANO (lG a b) (LP a)
abbrev PA a:=AT (TR a)
abbrev Ce a:=PA (Af a)
abbrev So a:=TR (Af a)
abbrev aX a b c:=IS (RQ a b) c
abbrev Rk a b:=KU (GG a) b
abbrev kR a:=OT (OQ a)
abbrev W2 a b c:=ADD (RF (Za a b) (Af c))
abbrev Mg a b c d e:=AXJ a b (W2 c d e)
abbrev Ye a b:=QN (LP a) b
abbrev Wd a b:=IS (LP a) b
abbrev Xw a b:=HT (LP a) b
attribute [go_sem] BBG gU qA Ut GG OQ Af ARV ASH gJ AQB AYB Cm Gt XA Bn BEE dJ hZ yH jN BGN LP ASQ AUN AYS BJJ Uq AQF Za AXJ Jo ABI lG RQ PA Ce So aX Rk kR W2 Mg Ye Wd Xw
theorem vc77 (a : SA) : (V77 a) = (And (BBG (λ i=>AP (AP (QS (gU a)) (AR (qA a)) (GP (Ut i)) (BG AC (LH (GG i) (OQ a)) (kR a) (SX (OQ a)) (hZ (LH (GG i) (OQ a)) (AG (λ j=>JL j (GG i) (NS (GG i) j (Lf (OQ a) j)) (Bn i j) (FG (OQ a) j) (XA i j) (FJ (OQ a) j) (Cm i j) (EY (OQ a) j))) (jN a) (QS (yH a))))) (LH (GG i) (OQ a)) (VZ (dJ i a)) (ARV (YP (Af a) (gU a) (qA a) (SS.k i) (dJ i a) (Ut i)) (ASH (gJ a))))) ((λ (f : SS -> Prop) => ∀ (x : SS), f x) (λ i=>VK (AJ (LH (GG i) (OQ a)) (VZ (dJ i a)) (ARV (YP (Af a) (gU a) (qA a) (SS.k i) (dJ i a) (Ut i)) (ASH (gJ a)))) (IK (Ys (qA a) (Ut i)) (BG (PD (Af a) (QS (yH a)) AC (VO (KU (LP i) (GG i)) (OQ a) (AMJ (λ j=>JL j (LP i) (JX (LP i) j (GG i)) (Xw i j) (Bn i j) (Wd i j) (XA i j) (Ye i j) (Cm i j)) (Rk i (LP i)) (OQ a) (λ j=>JL j (GG i) (JX (GG i) j (LP i)) (Bn i j) (Xw i j) (XA i j) (Wd i j) (Cm i j) (Ye i j)) (IV (Af a)) (NX (Af a) (ZT (LP i)))))) (AJ (jN a) (QS (yH a)) (ZN (KU (LP i) (GG i)) (kR a) (OQ a) (λ j=>JL j (LP i) (JX (LP i) j (GG i)) (Xw i j) (Bn i j) (Wd i j) (XA i j) (Ye i j) (Cm i j)) AC (Rk i (LP i)) (IP (kR a) (SX (OQ a)) (Rk i (LP i)) (λ j=>JL j (GG i) (JX (GG i) j (LP i)) (Bn i j) (Xw i j) (XA i j) (Wd i j) (Cm i j) (Ye i j)) (cO (Af a) (LP i)) (jN a) (QS (gU a)) AC (VO (KU (LP i) (GG i)) (OQ a) (AMJ (λ j=>JL j (LP i) (JX (LP i) j (GG i)) (Xw i j) (Bn i j) (Wd i j) (XA i j) (Ye i j) (Cm i j)) (Rk i (LP i)) (OQ a) (λ j=>JL j (GG i) (JX (GG i) j (LP i)) (Bn i j) (Xw i j) (XA i j) (Wd i j) (Cm i j) (Ye i j)) (IV (Af a)) (NX (Af a) (ZT (LP i)))))))) (And (AR (Uq i a)) (ZN (KU (LP i) (GG i)) (kR a) (OQ a) (λ j=>JL j (LP i) (JX (LP i) j (GG i)) (Xw i j) (Bn i j) (Wd i j) (XA i j) (Ye i j) (Cm i j)) (jN a) AC (VO (Rk i (LP i)) (OQ a) (BG (AG (λ j=>JL j (GG i) (JX (GG i) j (LP i)) (Bn i j) (Xw i j) (XA i j) (Wd i j) (Cm i j) (Ye i j))) (jN a) (VZ (Za i a)) (iD (IV (Uq i a)) (Uq i a) (hd29 (Me (OQ a)) 2)) (LY (AYZ (NP (Za i a) (W2 i a a) (Uq i a)))))))) (hd99 (rB (hd69 uW R2)) GJ) (IK (WS (not (Jh (Mg i a i a a) (ABI i a))) (RU (eN (LP i) (Af a) (yH a)))) (AJ (AS (AQB (gJ a)) (Ut i)) AC (Bl (Py (Gt a) (ZT (GG i))) (Gt a) (Sx (OQ a)) (MP (Gt a)) (MP (OQ a)) (λ j=>KV j (Gt a) (ZJ (Gt a) j (SY (GG i) j)) (FG (Gt a) j) (Bn i j) (FJ (Gt a) j) (XA i j) (EY (Gt a) j) (Cm i j)))) (EG (Bo (AR (Uq i a)) (AR (ABI i a)) (AR (Zp (AUN i a) (ASQ a i))) (VO (KU (LP i) (GG i)) (OQ a) (MW (λ j=>JL j (LP i) (JX (LP i) j (GG i)) (Xw i j) (Bn i j) (Wd i j) (XA i j) (Ye i j) (Cm i j)) MM (GQ (λ j=>Gq (Jh (Jo i a) j) (Jh (Mg i a i a a) j))) (GQ (λ j=>AS (Om (Za i a) (AQF i a) (Uq i a) j) (Om (Za i a) (W2 i a a) (Uq i a) j))) (GQ (λ j=>Mk (YJ (Jo i a) j) (YJ (Mg i a i a a) j) (Nj (Jo i a) j) (Nj (Mg i a i a a) j) (AS (Dn (Jo i a) j) (Dn (Mg i a i a a) j)) (Vr (Jo i a) j (Mg i a i a a) j))) AC (Rk i (RQ i a)) (kR a) (IW (SX (OQ a)) MM (GQ (λ j=>Gq (Jh (Mg i a i a a) j) (Jh (Jo i a) j))) (GQ (λ j=>AS (Om (Za i a) (W2 i a a) (Uq i a) j) (Om (Za i a) (AQF i a) (Uq i a) j))) (GQ (λ j=>Mk (YJ (Mg i a i a a) j) (YJ (Jo i a) j) (Nj (Mg i a i a a) j) (Nj (Jo i a) j) (AS (Dn (Mg i a i a a) j) (Dn (Jo i a) j)) (Vr (Mg i a i a a) j (Jo i a) j))) (VZ (Za i a)) (LY (BHV (AIL (Za i a) (Jo i a) (Uq i a) fuel (ABI i a)))) (BHS (λ j=>VK (BJI j (qB (lG i a))) (cO (pO j) (LP i)))) (TB (CX (lG i a)) 1000))))) (gU a) (And (Fl (cO (Af a) (GG i)) (ON (Ce a) (ZT (RQ i a))) (YN (Ce a) (ZT (RQ i a)))) (BBG (λ j=>HL (AP (QS (gU a)) (AR (qA a)) (RI (Ut j) (Ut i) (Oz (lG i a))) (BG AC (Rk j (GG i)) (kR a) (SX (OQ a)) (hZ (Rk j (RQ i a)) (AG (λ k=>ZC k (ZT (GG j)) (NS (GG j) k (PQ k (So a) (SY (RQ i a) (Ce a)) (SY (RQ i a) k))) (Bn j k) (PQ k (So a) (HT (RQ i a) (Ce a)) (HT (RQ i a) k)) (MB (XA j k) (Qw k (So a) (aX i a (Ce a)) (aX i a k))) (MF (XA j k) (Tb k (So a) (aX i a (Ce a)) (aX i a k))) (Cm j k) (PQ k (So a) (NJ (Xb (QN (RQ i a) (Ce a))) (Oz (lG i a))) (Xb (QN (RQ i a) k))))) (jN a) (QS (yH a))))) (AJ (LH (GG j) (OQ a)) (VZ (dJ j a)) (ARV (YP (Af a) (gU a) (qA a) (SS.k j) (dJ j a) (Ut j)) (ASH (gJ a)))) (ABS a (gJ a)) j i))) (And (Fl (cO (Af a) (GG i)) (ON (Ce a) (ZT (RQ i a))) (YN (Ce a) (ZT (RQ i a)))) (BBG (λ j=>HL (AP (QS (gU a)) (AR (qA a)) (RI (Ut j) (Ut i) (Oz (lG i a))) (BG AC (Rk j (GG i)) (kR a) (SX (OQ a)) (hZ (Rk j (RQ i a)) (AG (λ k=>ZC k (ZT (GG j)) (NS (GG j) k (PQ k (So a) (SY (RQ i a) (Ce a)) (SY (RQ i a) k))) (Bn j k) (PQ k (So a) (HT (RQ i a) (Ce a)) (HT (RQ i a) k)) (MB (XA j k) (Qw k (So a) (aX i a (Ce a)) (aX i a k))) (MF (XA j k) (Tb k (So a) (aX i a (Ce a)) (aX i a k))) (Cm j k) (PQ k (So a) (ME (Xb (QN (RQ i a) (Ce a))) (Oz (lG i a))) (Xb (QN (RQ i a) k))))) (jN a) (QS (yH a))))) (AJ (LH (GG j) (OQ a)) (VZ (dJ j a)) (ARV (YP (Af a) (gU a) (qA a) (SS.k j) (dJ j a) (Ut j)) (ASH (gJ a)))) (ABS a (gJ a)) j i)))))) (AJ (AS (AQB (gJ a)) (Ut i)) AC (Bl (Py (Gt a) (ZT (GG i))) (Gt a) (Sx (OQ a)) (MP (Gt a)) (MP (OQ a)) (λ j=>KV j (Gt a) (ZJ (Gt a) j (SY (GG i) j)) (FG (Gt a) j) (Bn i j) (FJ (Gt a) j) (XA i j) (EY (Gt a) j) (Cm i j)))))))) := by kernel_rfl
theorem BCQ (d : Desk) (q : Int) : (RF d q).counts = EM d q := rfl
def Ix (d : Desk) (at' : Int) (up : Bool) (most total : Int) : DM := DM.mk d (KF d (Step.mk at' (!up))) (KF d (Step.mk at' up)) (Aj d (EM d at') (KF d (Step.mk at' (!up)))).m (Aj d (EM d at') (KF d (Step.mk at' (!up)))).st (min (BO (EW d.all at') (!up)).2 (wr (most - total)))
theorem AVZ {d : Desk} {at' : Int} {up : Bool} {most total : Int} {k : Nat} {res : Desk × Int} (hlt : total < most) (h : YP at' up most k d total = some res) : ∃ k', k = k' + 1 /\ (NP d (EM d at') (KF d (Step.mk at' (!up)))).isSome = true /\
  ((bif !((Aj d (EM d at') (KF d (Step.mk at' (!up)))).m.at (KF d (Step.mk at' up))).isSome then true else decide (0 < (BO (EW d.all at') (!up)).1)) = true -> res = (d, total)) /\
  ((bif !((Aj d (EM d at') (KF d (Step.mk at' (!up)))).m.at (KF d (Step.mk at' up))).isSome then true else decide (0 < (BO (EW d.all at') (!up)).1)) = false ->
   (SZ d (Ix d at' up most total).m (KF d (Step.mk at' (!up))) fuel (KF d (Step.mk at' up))).isSome = true /\ (∀ s ∈ (Ix d at' up most total).tr, 0 <= s.way /\ s.way < d.all.length) /\ (Ix d at' up most total).tr.length <= 1000 /\
   YP at' up most k' (Desk.mk (CM (AQ (Ix d at' up most total).q d.all (Ix d at' up most total).tr) at' up (Ix d at' up most total).q) d.out d.nR) (wr (total + (Ix d at' up most total).q)) = some res) := by
 cases k with
 | zero => cases h
 | succ k =>
  simp only [YP, if_pos hlt] at h
  split at h
  ·cases h
  rename_i r hr
  have hrf : Aj d (EM d at') (KF d (Step.mk at' (!up))) = r := by simp [Aj, hr]
  refine ⟨k, rfl, by rw [hr]; rfl, λ hc => ?_, λ hc => ?_⟩
  ·rw [hrf] at hc
   rw [if_pos] at h
   ·exact (Option.some.inj h).symm
   ·cases hq : r.m.at (KF d (Step.mk at' up)) with
    | none => simp
    | some f => rw [hq] at hc; simpa using hc
  ·rw [hrf] at hc
   have hn : ¬ ((r.m.at (KF d (Step.mk at' up))).isNone || decide (0 < (BO (EW d.all at') (!up)).1)) = true := by
    cases hq : r.m.at (KF d (Step.mk at' up)) with
    | none => rw [hq] at hc; simp at hc
    | some f => rw [hq] at hc; simpa using hc
   rw [if_neg hn] at h
   split at h
   ·cases h
   rename_i d2 q2 h2
   unfold Nn at h2
   split at h2
   ·cases h2
   rename_i l hl
   split at h2
   ·rename_i hg
    have hX : (Ix d at' up most total).m = r.m := by simp only [Ix, hrf]
    have htr : (Ix d at' up most total).tr = l := by
     unfold DM.tr
     rw [hX]
     show (SZ d r.m (KF d (Step.mk at' (!up))) fuel (KF d (Step.mk at' up))).getD [] = l
     rw [hl]; rfl
    have hqq : (Ix d at' up most total).q = JS d (min (BO (EW d.all at') (!up)).2 (wr (most - total))) l := by
     unfold DM.q; rw [htr]; rfl
    simp only [Bool.and_eq_true, List.all_eq_true, decide_eq_true_eq] at hg
    rw [hX, htr, hqq, hl]
    cases h2
    exact ⟨rfl, hg.1, hg.2, h⟩
   ·cases h2
theorem Sb (all : List Way) (q : Int) (up : Bool) (n : Int) : (CM all q up n).length = all.length := by simp [CM]
theorem AQU (all : List Way) (q : Int) (up : Bool) (n : Int) (i : Nat) : (gD (CM all q up n) i).fr = (gD all i).fr /\ (gD (CM all q up n) i).to = (gD all i).to /\ (gD (CM all q up n) i).sp = (gD all i).sp := by
 unfold CM
 by_cases h : q.toNat < all.length
 ·rw [BD h]; split
  ·rename_i he; subst he; exact ⟨rfl, rfl, rfl⟩
  ·exact ⟨rfl, rfl, rfl⟩
 ·have : all.modify q.toNat (λ w => { w with now := if up then wr (w.now + n) else wr (w.now - n) }) = all := by
   apply List.ext_getElem?; intro j; rw [List.getElem?_modify]
   by_cases hj : q.toNat = j
   ·subst hj; rw [List.getElem?_eq_none (by omega)]; rfl
   ·simp [hj]
  rw [this]; exact ⟨rfl, rfl, rfl⟩
theorem BCJ {d : Desk} (h : d.ok) (q : Int) (up : Bool) (n : Int) : (Desk.mk (CM d.all q up n) d.out d.nR).ok := by
 refine ⟨h.out, ?_, ?_, λ i hi => ?_⟩
 ·show (CM d.all q up n).length <= 23; rw [Sb]; exact h.len
 ·show _ <= (CM d.all q up n).length; rw [Sb]; exact h.cut
 ·have hi : i < (CM d.all q up n).length := hi
  rw [Sb] at hi
  obtain ⟨h1, h2, _⟩ := AQU d.all q up n i
  show (0 <= (gD (CM d.all q up n) i).fr /\ _) /\ _
  rw [h1, h2]
  exact h.ends i hi
theorem p77 (a : SA) (hd : a.d.ok) (hat : 0 <= a.at' /\ a.at' < a.d.all.length) (hr : (YG a.d a.at' a.up a.most).isSome = true) : V77 a := by
 have hrf : YP a.at' a.up a.most fuel a.d 0 = some a.res := by
  obtain ⟨r, h⟩ := Option.isSome_iff_exists.1 hr
  unfold SA.res; rw [h]; exact h
 rw [vc77]<;> simp only [go_sem]
 simp only [CC, eq_self, implies_true, forall_const, BCQ, yS, DR, ARC]
 generalize a.res = res at *
 refine ⟨⟨⟨a.d.all, 0, fuel⟩, ⟨rfl, rfl, rfl, λ _ _ => ⟨rfl, rfl, rfl, rfl, rfl⟩⟩, rfl, hd, hrf⟩, λ s ⟨h1, h2, h3⟩ => ⟨λ hlt => ?_, λ hge => ?_⟩⟩
 ·obtain ⟨k', hk, hrv, hA, hB⟩ := AVZ hlt h3
  have hat' : 0 <= a.at' /\ a.at' < s.all.length := by rw [h1]; exact hat
  have hto := vP h2 (s := ⟨a.at', !a.up⟩) hat'
  refine ⟨hat', hat', ⟨h2, hto, hrv⟩, rfl, λ hc => ?_, λ hc => ?_⟩
  ·have := hA hc
   rw [this]; exact ⟨rfl, rfl, rfl, rfl, rfl, λ _ _ => ⟨rfl, rfl, rfl, rfl, rfl⟩⟩
  ·obtain ⟨t1, t2, t3, t4⟩ := hB hc
   have hok2 := BCJ (AML h2 (Ix (Desk.mk s.all a.d.out a.d.nR) a.at' a.up a.most s.total).q (Ix (Desk.mk s.all a.d.out a.d.nR) a.at' a.up a.most s.total).tr) a.at' a.up (Ix (Desk.mk s.all a.d.out a.d.nR) a.at' a.up a.most s.total).q
   have hln : (CM (AQ (Ix (Desk.mk s.all a.d.out a.d.nR) a.at' a.up a.most s.total).q s.all (Ix (Desk.mk s.all a.d.out a.d.nR) a.at' a.up a.most s.total).tr) a.at' a.up (Ix (Desk.mk s.all a.d.out a.d.nR) a.at' a.up a.most s.total).q).length = s.all.length := by rw [Sb, DR]
   have hpt : ∀ (n : Int) (al : List Way) (i : Nat), al.length = s.all.length -> gD (CM al a.at' a.up n) i = if i = a.at'.toNat then { (gD al a.at'.toNat) with now := if a.up then wr ((gD al a.at'.toNat).now + n) else wr ((gD al a.at'.toNat).now - n) } else gD al i := λ n al i hl => by
    unfold CM; rw [BD (by omega)]
   refine ⟨⟨h2, t1, t2, t3⟩, λ hup => ?_, λ hup => ?_⟩
   ·refine ⟨⟨hat', by omega, hat', by omega⟩, ⟨CM (AQ (Ix (Desk.mk s.all a.d.out a.d.nR) a.at' a.up a.most s.total).q s.all (Ix (Desk.mk s.all a.d.out a.d.nR) a.at' a.up a.most s.total).tr) a.at' a.up (Ix (Desk.mk s.all a.d.out a.d.nR) a.at' a.up a.most s.total).q, wr (s.total + (Ix (Desk.mk s.all a.d.out a.d.nR) a.at' a.up a.most s.total).q), k'⟩, ⟨rfl, hln, hln, λ i _ => ?_⟩, ⟨hln.trans h1, hok2, t4⟩, by show k' < s.k; omega⟩
    show (gD (CM (AQ (Ix (Desk.mk s.all a.d.out a.d.nR) a.at' a.up a.most s.total).q s.all (Ix (Desk.mk s.all a.d.out a.d.nR) a.at' a.up a.most s.total).tr) a.at' a.up (Ix (Desk.mk s.all a.d.out a.d.nR) a.at' a.up a.most s.total).q) i).fr = _ /\ (gD (CM (AQ (Ix (Desk.mk s.all a.d.out a.d.nR) a.at' a.up a.most s.total).q s.all (Ix (Desk.mk s.all a.d.out a.d.nR) a.at' a.up a.most s.total).tr) a.at' a.up (Ix (Desk.mk s.all a.d.out a.d.nR) a.at' a.up a.most s.total).q) i).to = _ /\ (gD (CM (AQ (Ix (Desk.mk s.all a.d.out a.d.nR) a.at' a.up a.most s.total).q s.all (Ix (Desk.mk s.all a.d.out a.d.nR) a.at' a.up a.most s.total).tr) a.at' a.up (Ix (Desk.mk s.all a.d.out a.d.nR) a.at' a.up a.most s.total).q) i).sp.lo = _ /\ (gD (CM (AQ (Ix (Desk.mk s.all a.d.out a.d.nR) a.at' a.up a.most s.total).q s.all (Ix (Desk.mk s.all a.d.out a.d.nR) a.at' a.up a.most s.total).tr) a.at' a.up (Ix (Desk.mk s.all a.d.out a.d.nR) a.at' a.up a.most s.total).q) i).sp.hi = _ /\ (gD (CM (AQ (Ix (Desk.mk s.all a.d.out a.d.nR) a.at' a.up a.most s.total).q s.all (Ix (Desk.mk s.all a.d.out a.d.nR) a.at' a.up a.most s.total).tr) a.at' a.up (Ix (Desk.mk s.all a.d.out a.d.nR) a.at' a.up a.most s.total).q) i).now = _
    rw [hpt _ _ i (DR _ _ _)]
    by_cases he : i = a.at'.toNat
    ·subst he; simp only [decide_true, cond_true, if_true, hup]; exact ⟨rfl, rfl, rfl, rfl, rfl⟩
    ·simp only [he, decide_false, cond_false, if_false]; exact ⟨rfl, rfl, rfl, rfl, rfl⟩
   ·refine ⟨⟨hat', by omega, hat', by omega⟩, ⟨CM (AQ (Ix (Desk.mk s.all a.d.out a.d.nR) a.at' a.up a.most s.total).q s.all (Ix (Desk.mk s.all a.d.out a.d.nR) a.at' a.up a.most s.total).tr) a.at' a.up (Ix (Desk.mk s.all a.d.out a.d.nR) a.at' a.up a.most s.total).q, wr (s.total + (Ix (Desk.mk s.all a.d.out a.d.nR) a.at' a.up a.most s.total).q), k'⟩, ⟨rfl, hln, hln, λ i _ => ?_⟩, ⟨hln.trans h1, hok2, t4⟩, by show k' < s.k; omega⟩
    show (gD (CM (AQ (Ix (Desk.mk s.all a.d.out a.d.nR) a.at' a.up a.most s.total).q s.all (Ix (Desk.mk s.all a.d.out a.d.nR) a.at' a.up a.most s.total).tr) a.at' a.up (Ix (Desk.mk s.all a.d.out a.d.nR) a.at' a.up a.most s.total).q) i).fr = _ /\ (gD (CM (AQ (Ix (Desk.mk s.all a.d.out a.d.nR) a.at' a.up a.most s.total).q s.all (Ix (Desk.mk s.all a.d.out a.d.nR) a.at' a.up a.most s.total).tr) a.at' a.up (Ix (Desk.mk s.all a.d.out a.d.nR) a.at' a.up a.most s.total).q) i).to = _ /\ (gD (CM (AQ (Ix (Desk.mk s.all a.d.out a.d.nR) a.at' a.up a.most s.total).q s.all (Ix (Desk.mk s.all a.d.out a.d.nR) a.at' a.up a.most s.total).tr) a.at' a.up (Ix (Desk.mk s.all a.d.out a.d.nR) a.at' a.up a.most s.total).q) i).sp.lo = _ /\ (gD (CM (AQ (Ix (Desk.mk s.all a.d.out a.d.nR) a.at' a.up a.most s.total).q s.all (Ix (Desk.mk s.all a.d.out a.d.nR) a.at' a.up a.most s.total).tr) a.at' a.up (Ix (Desk.mk s.all a.d.out a.d.nR) a.at' a.up a.most s.total).q) i).sp.hi = _ /\ (gD (CM (AQ (Ix (Desk.mk s.all a.d.out a.d.nR) a.at' a.up a.most s.total).q s.all (Ix (Desk.mk s.all a.d.out a.d.nR) a.at' a.up a.most s.total).tr) a.at' a.up (Ix (Desk.mk s.all a.d.out a.d.nR) a.at' a.up a.most s.total).q) i).now = _
    rw [hpt _ _ i (DR _ _ _)]
    by_cases he : i = a.at'.toNat
    ·subst he; simp only [decide_true, cond_true, if_true, hup, Bool.false_eq_true, if_false]; exact ⟨rfl, rfl, rfl, rfl, rfl⟩
    ·simp only [he, decide_false, cond_false, if_false]; exact ⟨rfl, rfl, rfl, rfl, rfl⟩
 ·cases hk : s.k with
  | zero => rw [hk] at h3; cases h3
  | succ k =>
   rw [hk] at h3
   simp only [YP, if_neg hge] at h3
   cases h3
   exact ⟨rfl, rfl, rfl, rfl, rfl, λ _ _ => ⟨rfl, rfl, rfl, rfl, rfl⟩⟩
def d77 : List AVal -> Heap -> Option (SA × List (Nat × Nat) × List Nat)
 | [.bptr id _, .d (.v (.int _ q)), .d (.v (.bool up)), .d (.v (.int _ most))], H => match Do H id with
  | some (d, r) => some (⟨d, q, up, most⟩, [(100, id), (101, r)], [])
  | none => none
 | _, _ => none
theorem ok77 : AH Try.prog 77 (C77.spec d77) := UY C77 (λ a => A77 a a.res) [] [] Try.func77 (λ _ => by kernel_rfl) (λ _ => AA ok85 (AA ok87 (AA BQT (AA (ok97 _) AE)))) (λ a h => p77 a h.1 h.2.1 h.2.2) (λ _ => WR rfl rfl) _
end Go.Bal
