/- Package balance: shift, copied, span. -/
import Derived.Test.YtonddbmhljelgaaBalH
set_option linter.unusedVariables false
set_option linter.unusedSimpArgs false
namespace Go.Bal
open Go Go.Sym Go.Proofs
structure SA where
 d : Desk
 at' : Int
 up : Bool
 most : Int
structure SS where
 all : List Way
 total : Int
 k : Nat
 deriving Inhabited
def Up (at' : Int) : List AVal -> Heap -> Option (DM × List (Nat × Nat) × List Nat)
 | [.bptr id _, .d (.v (.int _ fr)), .d (.v (.int _ to)), .mref m, .d (.v (.int _ most))], H => match IG H id with
  | some (d, r) => some (⟨d, fr, to, (HK d (BP d at') fr).m, (HK d (BP d at') fr).st, most⟩, [(100, id), (101, r), (104, m)], [])
  | none => none
 | _, _ => none
def SA.res (a : SA) : Desk × Int := (LC a.d a.at' a.up a.most).getD default
def Sq (a : SA) : List (Nat × HCell) := [(300, .live (.box [.bptr 100 0])), (303, .live (.box [.int a.at'])), (301, .live (.box [.fn (.func 101) [] [.bptr 300 0, .bptr 303 0]])), (302, .live (.box [.int a.at', .bool (!a.up)]))]
def ZE (a : SA) (res : Desk × Int) : Shape := { α := SS, dflt := default, T := λ s => ⟨[(2, .bool a.up), (3, .int a.most), (4, .bptr 300 0), (5, .bptr 303 0), (9, .bptr 301 0), (10, .bptr 302 0), (11, .int s.total)], JM (Desk.mk s.all a.d.out a.d.nR) ++ Sq a⟩, inv := λ s => s.all.length = a.d.all.length /\ (Desk.mk s.all a.d.out a.d.nR).ok /\ IT a.at' a.up a.most s.k (Desk.mk s.all a.d.out a.d.nR) s.total = some res, meas := λ s => s.k, first := [(300, 1000), (303, 1016), (301, 2032), (302, 3064)] }
def A77 (a : SA) (res : Desk × Int) : Ann := { ann 100 [(85, C85.spec Qr), (87, C87.spec Qr), (57, Wm), (97, C97.spec (Up a.at'))] with E := [100, 101], loops := λ id => if id = 4 then some [ZE a res] else none }
def C77 : Ctr := { α := SA, xs := λ a => [.bptr 100 0, .int a.at', .bool a.up, .int a.most], L := λ a => JH a.d, val := λ a => .int a.res.2, keep := λ a => JM a.res.1, pre := λ a => [a.d.ok, 0 <= a.at' /\ a.at' < a.d.all.length, (LC a.d a.at' a.up a.most).isSome = true] }
def V77 (a : SA) : Prop := BM Try.prog (A77 a a.res) Try.f77 (AJ Try.f77) (C77.xs a) (AE (C77.L a)) (C77.val a) (C77.keep a) [] []
theorem vc77 (a : SA) : (V77 a) = (let qq := a
 let y0 := 0 = 0
 let y1 (a : SS) := a.all.length = qq.d.all.length
 let y2 := (↑qq.d.out : Int) = (↑qq.d.out : Int)
 let y3 := (↑qq.d.nR : Int) = (↑qq.d.nR : Int)
 let y4 := qq.at' = qq.at' /\ qq.at' = qq.at' /\ (!qq.up) = !qq.up
 let y5 (a : SS) := y1 a /\ (Desk.mk a.all qq.d.out qq.d.nR).ok /\ IT qq.at' qq.up qq.most a.k (Desk.mk a.all qq.d.out qq.d.nR) a.total = some qq.res
 let y6 (a : SS) : List Way := AC a.all.length λ (i : Nat) => gD a.all i
 let y7 (a : SS) := (y6 a).length
 let y8 (a : SS) := y7 a = a.all.length
 let y9 (a : SS) (i : Nat) : Way := gD (y6 a) i
 let y10 (a : SS) (i : Nat) := (y9 a i).fr
 let y11 (a : SS) (i : Nat) := (y9 a i).to
 let y12 (a : SS) (i : Nat) : Span := (y9 a i).sp
 let y13 (a : SS) (i : Nat) := (y12 a i).lo
 let y14 (a : SS) (i : Nat) := (y12 a i).hi
 let y15 (a : SS) (i : Nat) := (y9 a i).now
 let y16 (a : SS) := ∀ (i : Nat), i < y7 a -> y10 a i = (gD a.all i).fr /\ y11 a i = (gD a.all i).to /\ y13 a i = (gD a.all i).sp.lo /\ y14 a i = (gD a.all i).sp.hi /\ y15 a i = (gD a.all i).now
 let y17 (a : SS) := a.all.length = y7 a
 let y18 (a : SS) := ∀ (i : Nat), i < a.all.length -> (gD a.all i).fr = y10 a i /\ (gD a.all i).to = y11 a i /\ (gD a.all i).sp.lo = y13 a i /\ (gD a.all i).sp.hi = y14 a i /\ (gD a.all i).now = y15 a i
 let y19 := 0 <= qq.at'
 let y20 (a1 : SS) := y19 /\ qq.at' < (↑(y7 a1) : Int)
 let y21 (a : SS) := y0 /\ y8 a /\ y2 /\ y3 /\ y8 a /\ y16 a /\ y0 /\ y17 a /\ y2 /\ y3 /\ y17 a /\ y18 a /\ y20 a
 let y22 (a : SS) : Desk := Desk.mk (y6 a) qq.d.out qq.d.nR
 let y23 (a : SS) := DB (y22 a) (Step.mk qq.at' !qq.up)
 let y24 (a : SS) := y23 a = y23 a
 let y25 (a : SS) := (y22 a).ok
 let y26 (a : SS) : Rule := RF (y22 a) qq.at'
 let y27 (a : SS) : RT := HK (y22 a) (y26 a).counts (y23 a)
 let y28 (a : SS) : Map := (y27 a).m
 let y29 (a : SS) := DB (y22 a) (Step.mk qq.at' qq.up)
 let y30 (a : SS) : Int × Int := AV (BW (y6 a) qq.at') !qq.up
 let y31 (a1 : SS) := qq.res.fst.all.length = a1.all.length
 let y32 (i : Nat) : Way := gD qq.res.fst.all i
 let y33 (i : Nat) : Span := (y32 i).sp
 let y34 (a1 : SS) := qq.res.snd = a1.total /\ y0 /\ y31 a1 /\ (↑qq.res.fst.out : Int) = (↑qq.d.out : Int) /\ (↑qq.res.fst.nR : Int) = (↑qq.d.nR : Int) /\ y31 a1 /\ ∀ (i : Nat), i < qq.res.fst.all.length -> (y32 i).fr = (gD a1.all i).fr /\ (y32 i).to = (gD a1.all i).to /\ (y33 i).lo = (gD a1.all i).sp.lo /\ (y33 i).hi = (gD a1.all i).sp.hi /\ (y32 i).now = (gD a1.all i).now
 let y35 (a : SS) := Ho (y30 a).snd (IntKind.i64.wrap (qq.most - a.total))
 let y36 (a : SS) : RT := HK (y22 a) (BP (y22 a) qq.at') (y23 a)
 let y37 (a : SS) : Map := (y36 a).m
 let y38 (a : SS) (n : Int) := ((y37 a).at n).isSome
 let y39 (a : SS) (n : Int) := ((y28 a).at n).isSome
 let y40 (a : SS) (n : Int) := (y36 a).st n
 let y41 (a : SS) (n : Int) := (y27 a).st n
 let y42 (a : SS) (n : Int) : Far := (y37 a).far n
 let y43 (a : SS) (n : Int) := (y42 a n).cost
 let y44 (a : SS) (n : Int) : Far := (y28 a).far n
 let y45 (a : SS) (n : Int) := (y44 a n).cost
 let y46 (a : SS) (n : Int) := (y42 a n).many
 let y47 (a : SS) (n : Int) := (y44 a n).many
 let y48 (a : SS) (n : Int) : Step := (y42 a n).by'
 let y49 (a : SS) (n : Int) := (y48 a n).way
 let y50 (a : SS) (n : Int) : Step := (y44 a n).by'
 let y51 (a : SS) (n : Int) := (y50 a n).way
 let y52 (a : SS) (n : Int) := (y48 a n).back
 let y53 (a : SS) (n : Int) := (y50 a n).back
 let y54 (a : SS) : DM := DM.mk (y22 a) (y23 a) (y29 a) (y37 a) (y36 a).st (y35 a)
 let y55 (a : SS) := (y54 a).q
 let y56 (a : SS) : List Step := (y54 a).tr
 let y57 (a : SS) : List Way := AI (y55 a) (y6 a) (y56 a)
 let y58 (a : SS) := (y57 a).length
 let y59 (a1 : SS) := y19 /\ qq.at' < (↑a1.all.length : Int)
 let y60 := 0 + qq.at'.toNat
 let y61 (a1 : SS) := y59 a1 /\ y60 < y58 a1 /\ y59 a1 /\ y60.succ.le (y58 a1)
 let y62 (a : SS) (a1 : SS) := a.total = IntKind.i64.wrap (a1.total + y55 a1)
 let y63 (a : SS) (a1 : SS) := a.all.length = a1.all.length
 let y64 (a : SS) (a1 : SS) := a.all.length = y58 a1
 let y65 (i : Nat) := decide (i = y60)
 let y66 (a : SS) : Way := gD (y57 a) y60
 let y67 (a : SS) (i : Nat) : Way := gD (y57 a) i
 let y68 (a : SS) (i : Nat) (a2 : SS) := (gD a.all i).fr = bif y65 i then (y66 a2).fr else (y67 a2 i).fr
 let y69 (a : SS) (i : Nat) (a2 : SS) := (gD a.all i).to = bif y65 i then (y66 a2).to else (y67 a2 i).to
 let y70 (a : SS) : Span := (y66 a).sp
 let y71 (a : SS) (i : Nat) : Span := (y67 a i).sp
 let y72 (a : SS) (i : Nat) (a2 : SS) := (gD a.all i).sp.lo = bif y65 i then (y70 a2).lo else (y71 a2 i).lo
 let y73 (a : SS) (i : Nat) (a2 : SS) := (gD a.all i).sp.hi = bif y65 i then (y70 a2).hi else (y71 a2 i).hi
 let y74 (a : SS) := (y66 a).now
 let y75 (a : SS) (i : Nat) := (y67 a i).now
 let y76 (a : SS) (a2 : SS) := y5 a /\ (ZE qq qq.res).meas a < (ZE qq qq.res).meas a2
 ((∃ (a_1 : SS), (a.up = a.up /\ a.most = a.most /\ a_1.total = 0 /\ y0 /\ y1 a_1 /\ y2 /\ y3 /\ y1 a_1 /\ (∀ (i : Nat), i < a_1.all.length -> (gD a_1.all i).fr = (gD
 a.d.all i).fr /\ (gD a_1.all i).to = (gD a.d.all i).to /\ (gD a_1.all i).sp.lo = (gD a.d.all i).sp.lo /\ (gD a_1.all i).sp.hi = (gD a.d.all i).sp.hi /\ (gD a_1.all i).now = (gD a.d.all i).now) /\ y4) /\ y5 a_1) /\ ∀
 (a_1 : SS), y5 a_1 -> bif decide (a.most > a_1.total) then (a.at' = a.at' /\ (!a.up) = !a.up /\ y21 a_1) /\ (a.at' = a.at' /\ (!a.up) = !a.up /\ y0 /\ y8 a_1 /\ y2 /\ y3 /\ y8 a_1 /\ y16 a_1 /\ y0
 /\ y17 a_1 /\ y2 /\ y3 /\ y17 a_1 /\ y18 a_1 /\ y20 a_1 /\ a.at' = a.at' /\ a.up = a.up /\ y21 a_1) /\ (y24 a_1 /\ y0 /\ y8 a_1 /\ y2 /\ y3 /\ y8 a_1 /\ y16 a_1 /\ a.at' = a.at' /\
 y0 /\ y17 a_1 /\ y2 /\ y3 /\ y17 a_1 /\ y18 a_1 /\ a.at' = a.at' /\ y25 a_1 /\ (0 <= y23 a_1 /\ y23 a_1 < (↑a.d.out : Int) + 2) /\ (EJ (y22 a_1) (y26 a_1).counts (y23 a_1)).isSome = true) /\ Value.agg #[Value.int IntKind.i64 0, Value.int IntKind.i64 0, Value.int IntKind.i64 0, Value.bool false] = BA /\ bif bif !((y28 a_1).at (y29 a_1)).isSome then true else decide ((y30 a_1).fst > 0) then y34 a_1 else (y24 a_1 /\ y29 a_1 = y29 a_1 /\ y35 a_1 = y35 a_1 /\ y0 /\ y8 a_1 /\ y2 /\ y3 /\ y8 a_1 /\ y16 a_1 /\ BA = BA /\ (∀ (n : Int), y38 a_1 n =
 y39 a_1 n) /\ (∀ (n : Int), y40 a_1 n = y41 a_1 n) /\ (∀ (n : Int), y43 a_1 n = y45 a_1 n /\ y46 a_1 n = y47 a_1 n /\ y49 a_1 n = y51 a_1 n /\ y52 a_1 n = y53 a_1 n) /\
 y0 /\ a_1.all.length = y58 a_1 /\ y2 /\ y3 /\ BA = BA /\ (∀ (n : Int), y39 a_1 n = y38 a_1 n) /\ (∀ (n : Int), y41 a_1 n = y40 a_1 n) /\ (∀ (n : Int), y45 a_1 n = y43 a_1 n /\
 y47 a_1 n = y46 a_1 n /\ y51 a_1 n = y49 a_1 n /\ y53 a_1 n = y52 a_1 n) /\ y25 a_1 /\ (EK (y22 a_1) (y37 a_1) (y23 a_1) fuel (y29 a_1)).isSome = true /\ (∀ (s :
 Step), List.Mem s (y56 a_1) -> 0 <= s.way /\ s.way < (↑(y7 a_1) : Int)) /\ (y56 a_1).length.le 1000) /\ bif a.up then y61 a_1 /\ ∃ (a_3 : SS), (a.up = a.up /\ a.most = a.most /\ y62 a_3 a_1 /\ y0 /\
 y63 a_3 a_1 /\ y2 /\ y3 /\ y64 a_3 a_1 /\ (∀ (i : Nat), i < a_3.all.length -> y68 a_3 i a_1 /\ y69 a_3 i a_1 /\ y72 a_3 i a_1 /\ y73 a_3 i a_1 /\ (gD a_3.all i).now = bif y65 i then
 IntKind.i64.wrap (y74 a_1 + y55 a_1) else y75 a_1 i) /\ y4) /\ y76 a_3 a_1 else y61 a_1 /\ ∃ (a_3 : SS), (a.up = a.up /\ a.most = a.most /\ y62 a_3 a_1 /\ y0 /\ y63 a_3 a_1 /\ y2 /\
 y3 /\ y64 a_3 a_1 /\ (∀ (i : Nat), i < a_3.all.length -> y68 a_3 i a_1 /\ y69 a_3 i a_1 /\ y72 a_3 i a_1 /\ y73 a_3 i a_1 /\ (gD a_3.all i).now = bif y65 i then IntKind.i64.wrap (y74 a_1
 - y55 a_1) else y75 a_1 i) /\ y4) /\ y76 a_3 a_1 else y34 a_1)) := by kernel_rfl
theorem Md (d : Desk) (q : Int) : (RF d q).counts = BP d q := rfl
def IP (d : Desk) (at' : Int) (up : Bool) (most total : Int) : DM := DM.mk d (DB d (Step.mk at' (!up))) (DB d (Step.mk at' up)) (HK d (BP d at') (DB d (Step.mk at' (!up)))).m (HK d (BP d at') (DB d (Step.mk at' (!up)))).st (min (AV (BW d.all at') (!up)).2 (wr (most - total)))
theorem It {d : Desk} {at' : Int} {up : Bool} {most total : Int} {k : Nat} {res : Desk × Int} (hlt : total < most) (h : IT at' up most k d total = some res) : ∃ k', k = k' + 1 /\ (EJ d (BP d at') (DB d (Step.mk at' (!up)))).isSome = true /\
  ((bif !((HK d (BP d at') (DB d (Step.mk at' (!up)))).m.at (DB d (Step.mk at' up))).isSome then true else decide (0 < (AV (BW d.all at') (!up)).1)) = true -> res = (d, total)) /\
  ((bif !((HK d (BP d at') (DB d (Step.mk at' (!up)))).m.at (DB d (Step.mk at' up))).isSome then true else decide (0 < (AV (BW d.all at') (!up)).1)) = false ->
   (EK d (IP d at' up most total).m (DB d (Step.mk at' (!up))) fuel (DB d (Step.mk at' up))).isSome = true /\ (∀ s ∈ (IP d at' up most total).tr, 0 <= s.way /\ s.way < d.all.length) /\ (IP d at' up most total).tr.length <= 1000 /\
   IT at' up most k' (Desk.mk (BC (AI (IP d at' up most total).q d.all (IP d at' up most total).tr) at' up (IP d at' up most total).q) d.out d.nR) (wr (total + (IP d at' up most total).q)) = some res) := by
 cases k with
 | zero => cases h
 | succ k =>
  simp only [IT, if_pos hlt] at h
  split at h
  ·cases h
  rename_i r hr
  have hrf : HK d (BP d at') (DB d (Step.mk at' (!up))) = r := by simp [HK, hr]
  refine ⟨k, rfl, by rw [hr]; rfl, λ hc => ?_, λ hc => ?_⟩
  ·rw [hrf] at hc
   rw [if_pos] at h
   ·exact (Option.some.inj h).symm
   ·cases hq : r.m.at (DB d (Step.mk at' up)) with
    | none => simp
    | some f => rw [hq] at hc; simpa using hc
  ·rw [hrf] at hc
   have hn : ¬ ((r.m.at (DB d (Step.mk at' up))).isNone || decide (0 < (AV (BW d.all at') (!up)).1)) = true := by
    cases hq : r.m.at (DB d (Step.mk at' up)) with
    | none => rw [hq] at hc; simp at hc
    | some f => rw [hq] at hc; simpa using hc
   rw [if_neg hn] at h
   split at h
   ·cases h
   rename_i d2 q2 h2
   unfold JT at h2
   split at h2
   ·cases h2
   rename_i l hl
   split at h2
   ·rename_i hg
    have hX : (IP d at' up most total).m = r.m := by simp only [IP, hrf]
    have htr : (IP d at' up most total).tr = l := by
     unfold DM.tr
     rw [hX]
     show (EK d r.m (DB d (Step.mk at' (!up))) fuel (DB d (Step.mk at' up))).getD [] = l
     rw [hl]; rfl
    have hqq : (IP d at' up most total).q = CY d (min (AV (BW d.all at') (!up)).2 (wr (most - total))) l := by
     unfold DM.q; rw [htr]; rfl
    simp only [Bool.and_eq_true, List.all_eq_true, decide_eq_true_eq] at hg
    rw [hX, htr, hqq, hl]
    cases h2
    exact ⟨rfl, hg.1, hg.2, h⟩
   ·cases h2
theorem KZ (all : List Way) (q : Int) (up : Bool) (n : Int) : (BC all q up n).length = all.length := by simp [BC]
theorem Fr (all : List Way) (q : Int) (up : Bool) (n : Int) (i : Nat) : (gD (BC all q up n) i).fr = (gD all i).fr /\ (gD (BC all q up n) i).to = (gD all i).to /\ (gD (BC all q up n) i).sp = (gD all i).sp := by
 unfold BC
 by_cases h : q.toNat < all.length
 ·rw [BR h]; split
  ·rename_i he; subst he; exact ⟨rfl, rfl, rfl⟩
  ·exact ⟨rfl, rfl, rfl⟩
 ·have : all.modify q.toNat (λ w => { w with now := if up then wr (w.now + n) else wr (w.now - n) }) = all := by
   apply List.ext_getElem?; intro j; rw [List.getElem?_modify]
   by_cases hj : q.toNat = j
   ·subst hj; rw [List.getElem?_eq_none (by omega)]; rfl
   ·simp [hj]
  rw [this]; exact ⟨rfl, rfl, rfl⟩
theorem Lk {d : Desk} (h : d.ok) (q : Int) (up : Bool) (n : Int) : (Desk.mk (BC d.all q up n) d.out d.nR).ok := by
 refine ⟨h.out, ?_, ?_, λ i hi => ?_⟩
 ·show (BC d.all q up n).length <= 23; rw [KZ]; exact h.len
 ·show _ <= (BC d.all q up n).length; rw [KZ]; exact h.cut
 ·have hi : i < (BC d.all q up n).length := hi
  rw [KZ] at hi
  obtain ⟨h1, h2, _⟩ := Fr d.all q up n i
  show (0 <= (gD (BC d.all q up n) i).fr /\ _) /\ _
  rw [h1, h2]
  exact h.ends i hi
theorem p77 (a : SA) (hd : a.d.ok) (hat : 0 <= a.at' /\ a.at' < a.d.all.length) (hr : (LC a.d a.at' a.up a.most).isSome = true) : V77 a := by
 have hrf : IT a.at' a.up a.most fuel a.d 0 = some a.res := by
  obtain ⟨r, h⟩ := Option.isSome_iff_exists.1 hr
  unfold SA.res; rw [h]; exact h
 rw [vc77]; (conv => zeta)
 simp only [CC, eq_self, implies_true, forall_const, Md, YH, BJ, Gi]
 generalize a.res = res at *
 refine ⟨⟨⟨a.d.all, 0, fuel⟩, ⟨rfl, rfl, rfl, λ _ _ => ⟨rfl, rfl, rfl, rfl, rfl⟩⟩, rfl, hd, hrf⟩, λ s ⟨h1, h2, h3⟩ => ⟨λ hlt => ?_, λ hge => ?_⟩⟩
 ·obtain ⟨k', hk, hrv, hA, hB⟩ := It hlt h3
  have hat' : 0 <= a.at' /\ a.at' < s.all.length := by rw [h1]; exact hat
  have hto := RY h2 (s := ⟨a.at', !a.up⟩) hat'
  refine ⟨hat', hat', ⟨h2, hto, hrv⟩, rfl, λ hc => ?_, λ hc => ?_⟩
  ·have := hA hc
   rw [this]; exact ⟨rfl, rfl, rfl, rfl, rfl, λ _ _ => ⟨rfl, rfl, rfl, rfl, rfl⟩⟩
  ·obtain ⟨t1, t2, t3, t4⟩ := hB hc
   have hok2 := Lk (Dn h2 (IP (Desk.mk s.all a.d.out a.d.nR) a.at' a.up a.most s.total).q (IP (Desk.mk s.all a.d.out a.d.nR) a.at' a.up a.most s.total).tr) a.at' a.up (IP (Desk.mk s.all a.d.out a.d.nR) a.at' a.up a.most s.total).q
   have hln : (BC (AI (IP (Desk.mk s.all a.d.out a.d.nR) a.at' a.up a.most s.total).q s.all (IP (Desk.mk s.all a.d.out a.d.nR) a.at' a.up a.most s.total).tr) a.at' a.up (IP (Desk.mk s.all a.d.out a.d.nR) a.at' a.up a.most s.total).q).length = s.all.length := by rw [KZ, BJ]
   have hpt : ∀ (n : Int) (al : List Way) (i : Nat), al.length = s.all.length -> gD (BC al a.at' a.up n) i = if i = a.at'.toNat then { (gD al a.at'.toNat) with now := if a.up then wr ((gD al a.at'.toNat).now + n) else wr ((gD al a.at'.toNat).now - n) } else gD al i := λ n al i hl => by
    unfold BC; rw [BR (by omega)]
   refine ⟨⟨h2, t1, t2, t3⟩, λ hup => ?_, λ hup => ?_⟩
   ·refine ⟨⟨hat', by omega, hat', by omega⟩, ⟨BC (AI (IP (Desk.mk s.all a.d.out a.d.nR) a.at' a.up a.most s.total).q s.all (IP (Desk.mk s.all a.d.out a.d.nR) a.at' a.up a.most s.total).tr) a.at' a.up (IP (Desk.mk s.all a.d.out a.d.nR) a.at' a.up a.most s.total).q, wr (s.total + (IP (Desk.mk s.all a.d.out a.d.nR) a.at' a.up a.most s.total).q), k'⟩, ⟨rfl, hln, hln, λ i _ => ?_⟩, ⟨hln.trans h1, hok2, t4⟩, by show k' < s.k; omega⟩
    show (gD (BC (AI (IP (Desk.mk s.all a.d.out a.d.nR) a.at' a.up a.most s.total).q s.all (IP (Desk.mk s.all a.d.out a.d.nR) a.at' a.up a.most s.total).tr) a.at' a.up (IP (Desk.mk s.all a.d.out a.d.nR) a.at' a.up a.most s.total).q) i).fr = _ /\ (gD (BC (AI (IP (Desk.mk s.all a.d.out a.d.nR) a.at' a.up a.most s.total).q s.all (IP (Desk.mk s.all a.d.out a.d.nR) a.at' a.up a.most s.total).tr) a.at' a.up (IP (Desk.mk s.all a.d.out a.d.nR) a.at' a.up a.most s.total).q) i).to = _ /\ (gD (BC (AI (IP (Desk.mk s.all a.d.out a.d.nR) a.at' a.up a.most s.total).q s.all (IP (Desk.mk s.all a.d.out a.d.nR) a.at' a.up a.most s.total).tr) a.at' a.up (IP (Desk.mk s.all a.d.out a.d.nR) a.at' a.up a.most s.total).q) i).sp.lo = _ /\ (gD (BC (AI (IP (Desk.mk s.all a.d.out a.d.nR) a.at' a.up a.most s.total).q s.all (IP (Desk.mk s.all a.d.out a.d.nR) a.at' a.up a.most s.total).tr) a.at' a.up (IP (Desk.mk s.all a.d.out a.d.nR) a.at' a.up a.most s.total).q) i).sp.hi = _ /\ (gD (BC (AI (IP (Desk.mk s.all a.d.out a.d.nR) a.at' a.up a.most s.total).q s.all (IP (Desk.mk s.all a.d.out a.d.nR) a.at' a.up a.most s.total).tr) a.at' a.up (IP (Desk.mk s.all a.d.out a.d.nR) a.at' a.up a.most s.total).q) i).now = _
    rw [hpt _ _ i (BJ _ _ _)]
    by_cases he : i = a.at'.toNat
    ·subst he; simp only [decide_true, cond_true, if_true, hup]; exact ⟨rfl, rfl, rfl, rfl, rfl⟩
    ·simp only [he, decide_false, cond_false, if_false]; exact ⟨rfl, rfl, rfl, rfl, rfl⟩
   ·refine ⟨⟨hat', by omega, hat', by omega⟩, ⟨BC (AI (IP (Desk.mk s.all a.d.out a.d.nR) a.at' a.up a.most s.total).q s.all (IP (Desk.mk s.all a.d.out a.d.nR) a.at' a.up a.most s.total).tr) a.at' a.up (IP (Desk.mk s.all a.d.out a.d.nR) a.at' a.up a.most s.total).q, wr (s.total + (IP (Desk.mk s.all a.d.out a.d.nR) a.at' a.up a.most s.total).q), k'⟩, ⟨rfl, hln, hln, λ i _ => ?_⟩, ⟨hln.trans h1, hok2, t4⟩, by show k' < s.k; omega⟩
    show (gD (BC (AI (IP (Desk.mk s.all a.d.out a.d.nR) a.at' a.up a.most s.total).q s.all (IP (Desk.mk s.all a.d.out a.d.nR) a.at' a.up a.most s.total).tr) a.at' a.up (IP (Desk.mk s.all a.d.out a.d.nR) a.at' a.up a.most s.total).q) i).fr = _ /\ (gD (BC (AI (IP (Desk.mk s.all a.d.out a.d.nR) a.at' a.up a.most s.total).q s.all (IP (Desk.mk s.all a.d.out a.d.nR) a.at' a.up a.most s.total).tr) a.at' a.up (IP (Desk.mk s.all a.d.out a.d.nR) a.at' a.up a.most s.total).q) i).to = _ /\ (gD (BC (AI (IP (Desk.mk s.all a.d.out a.d.nR) a.at' a.up a.most s.total).q s.all (IP (Desk.mk s.all a.d.out a.d.nR) a.at' a.up a.most s.total).tr) a.at' a.up (IP (Desk.mk s.all a.d.out a.d.nR) a.at' a.up a.most s.total).q) i).sp.lo = _ /\ (gD (BC (AI (IP (Desk.mk s.all a.d.out a.d.nR) a.at' a.up a.most s.total).q s.all (IP (Desk.mk s.all a.d.out a.d.nR) a.at' a.up a.most s.total).tr) a.at' a.up (IP (Desk.mk s.all a.d.out a.d.nR) a.at' a.up a.most s.total).q) i).sp.hi = _ /\ (gD (BC (AI (IP (Desk.mk s.all a.d.out a.d.nR) a.at' a.up a.most s.total).q s.all (IP (Desk.mk s.all a.d.out a.d.nR) a.at' a.up a.most s.total).tr) a.at' a.up (IP (Desk.mk s.all a.d.out a.d.nR) a.at' a.up a.most s.total).q) i).now = _
    rw [hpt _ _ i (BJ _ _ _)]
    by_cases he : i = a.at'.toNat
    ·subst he; simp only [decide_true, cond_true, if_true, hup, Bool.false_eq_true, if_false]; exact ⟨rfl, rfl, rfl, rfl, rfl⟩
    ·simp only [he, decide_false, cond_false, if_false]; exact ⟨rfl, rfl, rfl, rfl, rfl⟩
 ·cases hk : s.k with
  | zero => rw [hk] at h3; cases h3
  | succ k =>
   rw [hk] at h3
   simp only [IT, if_neg hge] at h3
   cases h3
   exact ⟨rfl, rfl, rfl, rfl, rfl, λ _ _ => ⟨rfl, rfl, rfl, rfl, rfl⟩⟩
def d77 : List AVal -> Heap -> Option (SA × List (Nat × Nat) × List Nat)
 | [.bptr id _, .d (.v (.int _ q)), .d (.v (.bool up)), .d (.v (.int _ most))], H => match IG H id with
  | some (d, r) => some (⟨d, q, up, most⟩, [(100, id), (101, r)], [])
  | none => none
 | _, _ => none
theorem ok77 : AL Try.prog 77 (C77.spec d77) := JC C77 (λ a => A77 a a.res) [] [] Try.func77 (λ _ => by kernel_rfl) (λ _ => AB Lc (AB Nu (AB Uz (AB (Ya _) AH)))) (λ a h => p77 a h.1 h.2.1 h.2.2) (λ _ => KF rfl rfl) _
end Go.Bal
