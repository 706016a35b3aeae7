/- Package balance: how far places are. -/
import Derived.Test.YtonddbmhljelgaaBalC
import Derived.Test.YtonddbmhljelgaaBalT1
set_option linter.unusedVariables false
set_option linter.unusedSimpArgs false
namespace Go.Bal
open Go Go.Sym Go.Proofs
def V93 (s : Step) : Prop := BM Try.prog (ann 3 []) Try.f93 (AJ Try.f93) [.d (OR s)] (AE []) (.bool true) [] [] []
theorem vc93 (s : Step) : (V93 s) = (true = true) := by kernel_rfl
def f93 : List AVal -> Option (AVal × List Prop)
 | [.d (.agg [.v (.int .i64 a), .v (.bool b)])] => some (.bool true, [])
 | _ => none
def s93 := FF f93
theorem ok93 : AL Try.prog 93 s93 := DO λ xs v p h _ => by
 unfold f93 at h; split at h
 ·cases h; exact RX (A := ann 3 []) (ren := []) (fz := []) Try.func93 (by kernel_rfl) AH (by show V93 ⟨_, _⟩; rw [vc93])
 ·cases h
def V58 (s : Step) : Prop := BM Try.prog (ann 3 []) Try.f58 (AJ Try.f58) [.d (OR s)] (AE []) (.bool true) [] [] []
theorem vc58 (s : Step) : (V58 s) = (true = true) := by kernel_rfl
def f58 : List AVal -> Option (AVal × List Prop)
 | [.d (.agg [.v (.int .i64 a), .v (.bool b)])] => some (.bool true, [])
 | _ => none
def s58 := FF f58
theorem Zy : AL Try.prog 58 s58 := DO λ xs v p h _ => by
 unfold f58 at h; split at h
 ·cases h; exact RX (A := ann 3 []) (ren := []) (fz := []) Try.func58 (by kernel_rfl) AH (by show V58 ⟨_, _⟩; rw [vc58])
 ·cases h
structure DAS where
 d : Desk
 at' : Int
 s : Step
def Vw : Ann := { ann 27 [(85, C85.spec Qr)] with E := [100, 101, 102, 103] }
def C101 : Ctr := { ro := [100, 101, 102, 103], α := DAS, xs := λ a => [.d (OR a.s), .bptr 102 0, .bptr 103 0], L := λ a => JH a.d ++ [(102, .box [.bptr 100 0]), (103, .box [.int a.at'])], val := λ a => .bool (BP a.d a.at' a.s), keep := λ a => JM a.d ++ [(102, .live (.box [.bptr 100 0])), (103, .live (.box [.int a.at']))], pre := λ a => [0 <= a.s.way /\ a.s.way < a.d.all.length] }
def Ty : List AVal -> Heap -> Option (DAS × List (Nat × Nat) × List Nat)
 | [.d s, .bptr p _, .bptr q _], H => match H p, H q with
  | .live (.box [.bptr id _]), .live (.box [.d (.v (.int _ m))]) => match IG H id with
   | some (d, r) => some (⟨d, m, VG s⟩, [(100, id), (101, r), (102, p), (103, q)], [])
   | none => none
  | _, _ => none
 | _, _ => none
def Yf (a : DAS) : Prop := BM Try.prog Vw Try.f101 (AJ Try.f101) (C101.xs a) (AE (C101.L a)) (C101.val a) (C101.keep a) [] []
theorem Vn (a : DAS) : (Yf a) = ((a.s.way = a.s.way /\ a.s.back = a.s.back /\ 0 = 0 /\ (AC a.d.all.length λ (i : Nat) => gD a.d.all i).length = a.d.all.length /\ (↑a.d.out : Int) = (↑a.d.out : Int) /\ (↑a.d.nR : Int)
 = (↑a.d.nR : Int) /\ (AC a.d.all.length λ (i : Nat) => gD a.d.all i).length = a.d.all.length /\ (∀ (i : Nat), i < (AC a.d.all.length λ (i : Nat) => gD a.d.all i).length -> (gD (AC a.d.all.length λ (i : Nat) => gD
 a.d.all i) i).fr = (gD a.d.all i).fr /\ (gD (AC a.d.all.length λ (i : Nat) => gD a.d.all i) i).to = (gD a.d.all i).to /\ (gD (AC a.d.all.length λ (i : Nat) => gD a.d.all i) i).sp.lo = (gD a.d.all i).sp.lo /\ (gD (AC
 a.d.all.length λ (i : Nat) => gD a.d.all i) i).sp.hi = (gD a.d.all i).sp.hi /\ (gD (AC a.d.all.length λ (i : Nat) => gD a.d.all i) i).now = (gD a.d.all i).now) /\ 0 = 0 /\ a.d.all.length = (AC a.d.all.length λ (i :
 Nat) => gD a.d.all i).length /\ (↑a.d.out : Int) = (↑a.d.out : Int) /\ (↑a.d.nR : Int) = (↑a.d.nR : Int) /\ a.d.all.length = (AC a.d.all.length λ (i : Nat) => gD a.d.all i).length /\ (∀ (i : Nat), i < a.d.all.length -> (gD
 a.d.all i).fr = (gD (AC a.d.all.length λ (i : Nat) => gD a.d.all i) i).fr /\ (gD a.d.all i).to = (gD (AC a.d.all.length λ (i : Nat) => gD a.d.all i) i).to /\ (gD a.d.all i).sp.lo = (gD (AC a.d.all.length λ (i :
 Nat) => gD a.d.all i) i).sp.lo /\ (gD a.d.all i).sp.hi = (gD (AC a.d.all.length λ (i : Nat) => gD a.d.all i) i).sp.hi /\ (gD a.d.all i).now = (gD (AC a.d.all.length λ (i : Nat) => gD a.d.all i) i).now) /\ 0 <= a.s.way
 /\ a.s.way < (↑(AC a.d.all.length λ (i : Nat) => gD a.d.all i).length : Int)) /\ (BP a.d a.at' a.s = bif bif (AV (BW (AC a.d.all.length λ (i : Nat) => gD a.d.all i) a.s.way) a.s.back).fst == 0 then !(a.s.way
 == a.at' && (a.s.back == true && true)) else false then !(a.s.way == a.at' && (a.s.back == false && true)) else false) /\ 0 = 0 /\ a.d.all.length = a.d.all.length /\ (↑a.d.out : Int) = (↑a.d.out : Int) /\ (↑a.d.nR : Int) =
 (↑a.d.nR : Int) /\ a.d.all.length = a.d.all.length /\ (∀ (i : Nat), i < a.d.all.length -> (gD a.d.all i).fr = (gD a.d.all i).fr /\ (gD a.d.all i).to = (gD a.d.all i).to /\ (gD a.d.all i).sp.lo = (gD a.d.all i).sp.lo /\ (gD
 a.d.all i).sp.hi = (gD a.d.all i).sp.hi /\ (gD a.d.all i).now = (gD a.d.all i).now) /\ a.at' = a.at') := by kernel_rfl
theorem p101 (a : DAS) (h : 0 <= a.s.way /\ a.s.way < a.d.all.length) : Yf a := by
 rw [Vn]; simp only [CC, eq_self, implies_true, forall_const]
 refine ⟨h, ?_⟩
 obtain ⟨d, q, w, b⟩ := a
 unfold BP
 cases b <;> by_cases h1 : w = q <;> by_cases h2 : (AV (BW d.all w) true).1 = 0 <;> by_cases h3 : (AV (BW d.all w) false).1 = 0 <;> simp [h1, h2, h3] <;> simp_all
theorem Vp : AL Try.prog 101 (C101.spec Ty) := JC C101 (λ _ => Vw) [] [] Try.func101 (λ _ => by kernel_rfl) (λ _ => AB Lc AH) p101 (λ _ => KF rfl rfl) _
structure DP where
 d : Desk
 p : Int
def A86 : Ann := { ann 6 [] with E := [100, 101] }
def C86 : Ctr := { ro := [100, 101], α := DP, xs := λ a => [.bptr 100 0, .int a.p], L := λ a => JH a.d, val := λ a => .fn (.func 106) [] [.bptr 0 0, .bptr 1 0], keep := λ a => JM a.d ++ [(0, .live (.box [.bptr 100 0])), (1, .live (.box [.int a.p]))] }
def d86 : List AVal -> Heap -> Option (DP × List (Nat × Nat) × List Nat)
 | [.bptr id _, .d (.v (.int _ p))], H => match IG H id with
  | some (d, r) => some (⟨d, p⟩, [(100, id), (101, r)], [])
  | none => none
 | _, _ => none
def V86 (a : DP) : Prop := BM Try.prog A86 Try.f86 (AJ Try.f86) (C86.xs a) (AE (C86.L a)) (C86.val a) (C86.keep a) [(0, 1000), (1, 1016)] []
theorem Zj (a : DP) : (V86 a) = (0 = 0 /\ a.d.all.length = a.d.all.length /\ (↑a.d.out : Int) = (↑a.d.out : Int) /\ (↑a.d.nR : Int) = (↑a.d.nR : Int) /\ a.d.all.length = a.d.all.length /\ (∀ (i : Nat), i < a.d.all.length ->
 (gD a.d.all i).fr = (gD a.d.all i).fr /\ (gD a.d.all i).to = (gD a.d.all i).to /\ (gD a.d.all i).sp.lo = (gD a.d.all i).sp.lo /\ (gD a.d.all i).sp.hi = (gD a.d.all i).sp.hi /\ (gD a.d.all i).now = (gD a.d.all i).now) /\ a.p =
 a.p) := by kernel_rfl
theorem p86 (a : DP) : V86 a := by rw [Zj]; simp only [CC, eq_self, implies_true, forall_const]
theorem Te : AL Try.prog 86 (C86.spec d86) := JC C86 (λ _ => A86) [(0, 1000), (1, 1016)] [] Try.func86 (λ _ => by kernel_rfl) (λ _ => AH) (λ a _ => p86 a) (λ _ => KF rfl rfl) _
def BA : Value := .agg #[.int .i64 0, .int .i64 0, .int .i64 0, .bool false]
def Hf (m : Map) (st : Int -> Int) : AObj := .imap .i64 BA (λ z => (m.at z).isSome) (λ z => Tn (m.far z)) st none
structure Rule where
 v : AVal
 X : List (Nat × AObj)
 counts : Step -> Bool
structure RS where
 r : RT
 k : Nat
 p : Nat
 h : Far
 s : Step
 deriving Inhabited
def Bg (d : Desk) (R : Rule) (s : RS) : List (Nat × AObj) :=
 JH d ++ R.X ++ [(300, .box [.bptr 100 0]), (301, .box [R.v]), (302, .box [.mref 305]), (303, .box [.fn (.func 85) [.bptr 100 0] []]), (304, .box [.bool s.r.ag]), (305, Hf s.r.m s.r.st)]
def Mw : List (Nat × AVal) := [(3, .bptr 300 0), (5, .bptr 301 0), (7, .bptr 302 0), (8, .bptr 303 0), (9, .bptr 304 0)]
def LS (l : List (Nat × AObj)) : List (Nat × HCell) := l.map λ x => (x.1, .live x.2)
def Qd (h : Far) : AObj := .box [.int h.cost, .int h.many, .int h.by'.way, .bool h.by'.back]
def CK (d : Desk) (counts : Step -> Bool) (k : Nat) (r : RT) : Option RT := if r.ag then YW d counts k r else some r
def PM (d : Desk) (R : Rule) (rf : RT) : Shape := { α := RS, dflt := default, T := λ s => ⟨Mw, LS (Bg d R s)⟩, inv := λ s => s.r.m.length = d.out + 2 /\ CK d R.counts s.k s.r = some rf, meas := λ s => s.k, first := [(300, 1000), (301, 1016), (302, 2080), (303, 3032), (304, 4000), (305, 2000)], again := [(304, 22000)] }
def UY (d : Desk) (R : Rule) (rf : RT) (gs : List Nat) : Shape := { α := RS, dflt := default, T := λ s => ⟨Mw ++ [(31, .int (d.out + 2)), (32, .int s.p)], LS (Bg d R s)⟩, inv := λ s => s.r.m.length = d.out + 2 /\ s.p <= d.out + 2 /\ s.k + 1 = gs.headD 0 /\ CK d R.counts s.k (AU d R.counts (d.out + 2 - s.p) s.p s.r) = some rf, meas := λ s => d.out + 2 - s.p }
def UF (d : Desk) (R : Rule) (rf : RT) (gs : List Nat) : Shape := { α := RS, dflt := default, T := λ s => ⟨[(0, .fn (.yield (gs.headD 0)) [] []), (2, .bptr 307 0), (10, .own 101 5 0 d.all.length), (11, .int d.all.length), (12, .int s.p)], LS (Bg d R s ++ [(307, .box [.int ((d.out + 2 - (gs.getD 1 0) : Nat) : Int)]), (10096, Qd s.h)])⟩, inv := λ s => s.r.m.length = d.out + 2 /\ s.p <= d.all.length /\ s.k + 1 = gs.getD 2 0 /\ CK d R.counts s.k (AU d R.counts (gs.getD 1 0 - 1) (d.out + 2 - gs.getD 1 0 + 1) (CG d R.counts s.h ((d.out + 2 - (gs.getD 1 0) : Nat) : Int) (d.all.drop s.p) s.p s.r)) = some rf, meas := λ s => d.all.length - s.p, first := [(307, 12033)] }
def BE (d : Desk) (R : Rule) (a : RS) : RS := { a with r := DN d R.counts a.h a.r a.s }
def Um (d : Desk) (R : Rule) : Ctr := { α := RS, xs := λ a => [.d (OR a.s)], L := λ a => Bg d R a ++ [(10096, Qd a.h)], val := λ _ => .bool true, keep := λ a => LS (Bg d R (BE d R a) ++ [(10096, Qd a.h)]), pre := λ a => [(0 <= a.s.way /\ a.s.way < d.all.length) /\ a.r.m.length = d.out + 2] }
def Ro (fn : Func) (d : Desk) (R : Rule) (rf : RT) : IterAnn := { fn := fn, code := AJ fn, live := [3, 5, 7, 8, 9, 11, 31, 32], round := some ⟨Um d R⟩, ann := { base := λ id => 100000 + 1000 * id, Γ := Sym.look [], E := [100, 101, 300, 301, 302, 303, 304, 305, 10096] ++ R.X.map (·.1), n := 42, inner := λ gs id => if id = 1 then some [UF d R rf gs] else none } }
def Tk (fn : Func) (d : Desk) (R : Rule) (rf : RT) (g : FuncId) (s : Sym.Spec) : Ann := { ann 108 [(85, C85.spec Qr), (86, C86.spec d86), (87, C87.spec Qr), (g, s)] with E := [100, 101] ++ R.X.map (·.1), inner := λ gs id => if id = 4 then some [PM d R rf] else if id = 7 then some [UY d R rf gs] else none, iter := λ g => if g = 106 then some (Ro fn d R rf) else none }
structure DF where
 d : Desk
 fr : Int
 at' : Int
def RA : Rule := ⟨.fn (.func 93) [] [], [], any⟩
def RL : Rule := ⟨.fn (.func 58) [] [], [], any⟩
def RF (d : Desk) (at' : Int) : Rule := ⟨.fn (.func 101) [] [.bptr 102 0, .bptr 103 0], [(102, .box [.bptr 100 0]), (103, .box [.int at'])], BP d at'⟩
def HK (d : Desk) (counts : Step -> Bool) (fr : Int) : RT := (EJ d counts fr).getD default
def Fe (R : DF -> Rule) : Ctr := { ro := [100, 101] ++ (R ⟨default, 0, 0⟩).X.map (·.1), α := DF, xs := λ a => [.bptr 100 0, .int a.fr, .agg [(R a).v]], L := λ a => JH a.d ++ (R a).X, val := λ _ => .mref 0, keep := λ a => LS (JH a.d ++ (R a).X) ++ [(0, .live (Hf (HK a.d (R a).counts a.fr).m (HK a.d (R a).counts a.fr).st))], pre := λ a => [a.d.ok, 0 <= a.fr /\ a.fr < a.d.out + 2, (EJ a.d (R a).counts a.fr).isSome = true] }
def V57 (a : DF) : Prop := BM Try.prog (Tk Try.f106 a.d RA (HK a.d any a.fr) 93 s93) Try.f57 (AJ Try.f57) ((Fe λ _ => RA).xs a) (AE ((Fe λ _ => RA).L a)) ((Fe λ _ => RA).val a) ((Fe λ _ => RA).keep a) [(0, 305)] []
theorem vc57 (a : DF) : (V57 a) = (let q := a
 let y0 := 0 = 0
 let y1 := q.d.all.length = q.d.all.length
 let y2 := (↑q.d.out : Int) = (↑q.d.out : Int)
 let y3 := (↑q.d.nR : Int) = (↑q.d.nR : Int)
 let y4 := ∀ (i : Nat), i < q.d.all.length -> (gD q.d.all i).fr = (gD q.d.all i).fr /\ (gD q.d.all i).to = (gD q.d.all i).to /\ (gD q.d.all i).sp.lo = (gD q.d.all i).sp.lo /\ (gD q.d.all i).sp.hi = (gD q.d.all i).sp.hi /\ (gD q.d.all i).now = (gD q.d.all i).now
 let y5 : Value := Value.agg #[Value.int IntKind.i64 0, Value.int IntKind.i64 0, Value.int IntKind.i64 0, Value.bool false]
 let y6 (n : Int) := decide (n = q.fr)
 let y7 (n : Int) := bif y6 n then 0 else 0
 let y8 := q.d.out + 2
 let y9 (a : RS) := List.length a.r.m = y8
 let y10 (a : RS) := y9 a /\ CK q.d RA.counts a.k a.r = some (HK q.d any q.fr)
 let y11 := (↑q.d.out : Int) + 2
 let y12 (a : RS) := (↑a.p : Int) = 0
 let y13 (a : RS) (a1 : RS) := ∀ (n : Int), (a.r.m.at n).isSome = (a1.r.m.at n).isSome
 let y14 (a : RS) (a1 : RS) := ∀ (n : Int), a.r.st n = a1.r.st n
 let y15 (a : RS) (a1 : RS) := ∀ (n : Int), (a.r.m.far n).cost = (a1.r.m.far n).cost /\ (a.r.m.far n).many = (a1.r.m.far n).many /\ (a.r.m.far n).by'.way = (a1.r.m.far n).by'.way /\ (a.r.m.far n).by'.back = (a1.r.m.far n).by'.back
 let y16 (a : RS) (a1 : RS) := BA = BA /\ y13 a a1 /\ y14 a a1 /\ y15 a a1
 let y17 (a : RS) := a.k + 1
 let y18 (a1 : RS) := (PM q.d RA (HK q.d any q.fr)).meas a1
 let y19 (a1 : RS) : List Nat := [y18 a1]
 let y20 (a : RS) (a2 : RS) := y9 a /\ a.p <= y8 /\ y17 a = (y19 a2).headD 0 /\ CK q.d RA.counts a.k (AU q.d RA.counts (y8 - a.p) a.p a.r) = some (HK q.d any q.fr)
 let y21 := y5 = BA
 let y22 := y11 = y11
 let y23 (a : RS) (a1 : RS) := (↑a.p : Int) = IntKind.i64.wrap ((↑a1.p : Int) + 1)
 let y24 (a1 : RS) (a2 : RS) := y0 /\ y1 /\ y2 /\ y3 /\ y1 /\ y4 /\ a1.r.ag = a2.r.ag /\ y16 a1 a2
 let y25 (a1 : RS) (a2 : RS) := (UY q.d RA (HK q.d any q.fr) (y19 a1)).meas a2
 let y26 (a : RS) (a2 : RS) (a3 : RS) := y20 a a2 /\ y25 a2 a < y25 a2 a3
 let y27 : List Way := AC q.d.all.length λ (i : Nat) => gD q.d.all i
 let y28 := y27.length
 let y29 := y28 = q.d.all.length
 let y30 (i : Nat) : Way := gD y27 i
 let y31 (i : Nat) := (y30 i).fr
 let y32 (i : Nat) := (y30 i).to
 let y33 (i : Nat) : Span := (y30 i).sp
 let y34 (i : Nat) := (y33 i).lo
 let y35 (i : Nat) := (y33 i).hi
 let y36 (i : Nat) := (y30 i).now
 let y37 := ∀ (i : Nat), i < y28 -> y31 i = (gD q.d.all i).fr /\ y32 i = (gD q.d.all i).to /\ y34 i = (gD q.d.all i).sp.lo /\ y35 i = (gD q.d.all i).sp.hi /\ y36 i = (gD q.d.all i).now
 let y38 := q.d.all.length = y28
 let y39 := ∀ (i : Nat), i < q.d.all.length -> (gD q.d.all i).fr = y31 i /\ (gD q.d.all i).to = y32 i /\ (gD q.d.all i).sp.lo = y34 i /\ (gD q.d.all i).sp.hi = y35 i /\ (gD q.d.all i).now = y36 i
 let y40 (a : RS) := 0 <= a.s.way
 let y41 (a : RS) := (y40 a /\ a.s.way < (↑q.d.all.length : Int)) /\ y9 a
 let y42 (a : RS) := y40 a /\ a.s.way < (↑y28 : Int)
 let y43 (a1 : RS) := DB (Desk.mk y27 q.d.out q.d.nR) a1.s
 let y44 (a : RS) := IntKind.i64.wrap (a.h.cost + (AV (BW y27 a.s.way) a.s.back).fst)
 let y45 (a : RS) : Far := a.r.m.far (y43 a)
 let y46 (a : RS) := (y45 a).cost
 let y47 (a : RS) := IntKind.i64.wrap (a.h.many + 1)
 let y48 (a : RS) := (y45 a).many
 let y49 (a1 : RS) (n : Int) := ((BE q.d RA a1).r.m.at n).isSome
 let y50 (a1 : RS) (n : Int) := ((BE q.d RA a1).r.m.far n).cost
 let y51 (n : Int) (a1 : RS) := decide (n = y43 a1)
 let y52 (a1 : RS) (n : Int) := ((BE q.d RA a1).r.m.far n).many
 let y53 (a1 : RS) (n : Int) : Step := ((BE q.d RA a1).r.m.far n).by'
 let y54 (a1 : RS) (n : Int) := (y53 a1 n).way
 let y55 (a : RS) : Step := (y45 a).by'
 let y56 (a1 : RS) (n : Int) := (y53 a1 n).back
 let y57 (a : RS) := a.h.cost = a.h.cost /\ a.h.many = a.h.many /\ a.h.by'.way = a.h.by'.way /\ a.h.by'.back = a.h.by'.back
 let y58 (l : Nat) (a1 : RS) (a2 : RS) : List Nat := l :: y25 a1 a2 :: y19 a1
 let y59 (l : Nat) (a1 : RS) (a2 : RS) := (y58 l a1 a2).headD 0
 let y60 (l : Nat) (a1 : RS) (a2 : RS) : Fn := Fn.yield (y59 l a1 a2)
 let y61 := (↑q.d.all.length : Int) = (↑q.d.all.length : Int)
 let y62 (l : Nat) (a1 : RS) (a2 : RS) := (y58 l a1 a2).getD 1 0
 let y63 (l : Nat) (a1 : RS) (a2 : RS) := y8 - y62 l a1 a2
 let y64 (a : RS) : Step := (a.r.m.far (↑a.p : Int)).by'
 let y65 (a : RS) (l : Nat) (a2 : RS) (a3 : RS) := y9 a /\ a.p <= q.d.all.length /\ y17 a = (y58 l a2 a3).getD 2 0 /\ CK q.d RA.counts a.k (AU q.d RA.counts (y62 l a2 a3 - 1) (y63 l a2 a3 + 1) (CG q.d RA.counts a.h (↑(y63 l a2 a3) : Int) (List.drop a.p q.d.all) a.p a.r)) = some (HK q.d any q.fr)
 let y66 (a : RS) := (↑a.p : Int) < (↑q.d.all.length : Int)
 let y67 (a : RS) := 0 + a.p
 let y68 (a1 : RS) : Way := gD q.d.all (y67 a1)
 let y69 (a1 : RS) (l : Nat) (a2 : RS) (a3 : RS) := (y68 a1).fr == (↑(y63 l a2 a3) : Int)
 let y70 (l : Nat) (a1 : RS) (a2 : RS) := y59 l a1 a2 = l
 let y71 (a : RS) (a1 : RS) := a.s.way = (↑a1.p : Int)
 let y72 (a : RS) (a1 : RS) := a.h.by'.way = a1.h.by'.way
 let y73 (a : RS) (a1 : RS) := a.h.by'.back = a1.h.by'.back
 let y74 (a : RS) (a1 : RS) := a.h.cost = a1.h.cost /\ a.h.many = a1.h.many /\ y72 a a1 /\ y73 a a1 /\ y41 a
 let y75 (a1 : RS) (a2 : RS) := y0 /\ y1 /\ y2 /\ y3 /\ y1 /\ y4 /\ a1.r.ag = a2.r.ag /\ BA = BA /\ y13 a1 a2 /\ y14 a1 a2 /\ y15 a1 a2 /\ y74 a1 a2
 let y76 (a1 : RS) (l : Nat) (a2 : RS) (a3 : RS) := (y68 a1).to == (↑(y63 l a2 a3) : Int)
 let y77 (a1 : RS) (l : Nat) (a2 : RS) (a3 : RS) := if true = true then y76 a1 l a2 a3 else !y76 a1 l a2 a3
 let y78 (a : RS) (a2 : RS) := a.r.ag = (BE q.d RA a2).r.ag
 let y79 (a : RS) (a2 : RS) := ∀ (n : Int), (a.r.m.at n).isSome = y49 a2 n
 let y80 (a : RS) (a2 : RS) := ∀ (n : Int), a.r.st n = (BE q.d RA a2).r.st n
 let y81 (a : RS) (a2 : RS) := ∀ (n : Int), (a.r.m.far n).cost = y50 a2 n /\ (a.r.m.far n).many = y52 a2 n /\ (a.r.m.far n).by'.way = y54 a2 n /\ (a.r.m.far n).by'.back = y56 a2 n
 let y82 (l : Nat) (a1 : RS) (a2 : RS) := y60 l a1 a2 = y60 l a1 a2
 let y83 (l : Nat) (a1 : RS) (a2 : RS) (a3 : RS) (a4 : RS) := (↑(y63 l a1 a2) : Int) = (↑(y63 l a1 a2) : Int) /\ a3.h.cost = a4.h.cost /\ a3.h.many = a4.h.many /\ y72 a3 a4 /\ y73 a3 a4
 let y84 (l : Nat) (a1 : RS) (a2 : RS) (a3 : RS) := (UF q.d RA (HK q.d any q.fr) (y58 l a1 a2)).meas a3
 let y85 (a : RS) (l : Nat) (a2 : RS) (a3 : RS) (a4 : RS) := y65 a l a2 a3 /\ y84 l a2 a3 a < y84 l a2 a3 a4
 let y86 (l : Nat) (a1 : RS) (a2 : RS) (a3 : RS) (a4 : RS) := ∃ (a_1 : RS), (y82 l a1 a2 /\ y0 /\ y1 /\ y61 /\ y23 a_1 a3 /\ y0 /\ y1 /\ y2 /\ y3 /\ y1 /\ y4 /\ y78 a_1 a4 /\ BA = BA /\ y79 a_1 a4 /\ y80 a_1 a4 /\ y81 a_1 a4 /\ y83 l a1 a2 a_1 a4) /\ y85 a_1 l a1 a2 a3
 let y87 (n : Int) : Far := (HK q.d RA.counts q.fr).m.far n
 let y88 (n : Int) : Step := (y87 n).by'
 ((∃ (a_1 : RS), (y0 /\ y1 /\ y2 /\ y3 /\ y1 /\ y4 /\ a_1.r.ag = true /\ BA = y5 /\ (∀ (n : Int), (a_1.r.m.at n).isSome = EE (λ (x : Int) => false) a.fr n) /\
 (∀ (n : Int), a_1.r.st n = stUp (λ (x : Int) => false) (λ (x : Int) => 0) a.fr n) /\ ∀ (n : Int), (a_1.r.m.far n).cost = y7 n /\ (a_1.r.m.far n).many = y7 n /\ (a_1.r.m.far n).by'.way = y7 n /\
 (a_1.r.m.far n).by'.back = bif y6 n then false else false) /\ y10 a_1) /\ ∀ (a_1 : RS), y10 a_1 -> bif a_1.r.ag then (∃ (a_3 : RS), (y11 = IntKind.i64.wrap y11 /\ y12 a_3 /\ y0 /\ y1 /\
 y2 /\ y3 /\ y1 /\ y4 /\ a_3.r.ag = false /\ y16 a_3 a_1) /\ y20 a_3 a_1) /\ ∀ (a_3 : RS), y20 a_3 a_1 -> bif decide ((↑a_3.p : Int) < y11) then y21 /\ bif !(a_3.r.m.at (↑a_3.p :
 Int)).isSome then ∃ (a_5 : RS), (y22 /\ y23 a_5 a_3 /\ y24 a_5 a_3) /\ y26 a_5 a_1 a_3 else ((↑a_3.p : Int) = (↑a_3.p : Int) /\ y0 /\ y29 /\ y2 /\ y3 /\ y29 /\ y37 /\ y0 /\ y38
 /\ y2 /\ y3 /\ y38 /\ y39) /\ (∀ (a_5 : RS), y41 a_5 -> true = true /\ (a_5.s.way = a_5.s.way /\ a_5.s.back = a_5.s.back /\ y0 /\ y29 /\ y2 /\ y3 /\ y29 /\ y37 /\ y0 /\ y38 /\
 y2 /\ y3 /\ y38 /\ y39 /\ y42 a_5) /\ (a_5.s.way = a_5.s.way /\ a_5.s.back = a_5.s.back /\ y0 /\ y29 /\ y2 /\ y3 /\ y29 /\ y37 /\ y0 /\ y38 /\ y2 /\ y3 /\ y38 /\
 y39 /\ y42 a_5 /\ y21) /\ bif bif bif !(a_5.r.m.at (y43 a_5)).isSome then true else decide (y44 a_5 < y46 a_5) then true else bif y44 a_5 == y46 a_5 then decide (y47 a_5 < y48 a_5) else false then (a_5.s.way = a_5.s.way /\ a_5.s.back = a_5.s.back /\ y0 /\ y29 /\ y2 /\ y3 /\ y29 /\ y37 /\ y0 /\ y38 /\ y2 /\ y3 /\ y38 /\ y39 /\ y42 a_5 /\ y21 /\
 EE (λ (z : Int) => (a_5.r.m.at z).isSome) (y43 a_5) (y43 a_5) = true /\ a_5.r.st (y43 a_5) = stUp (λ (z : Int) => (a_5.r.m.at z).isSome) a_5.r.st (y43 a_5) (y43 a_5)) /\ y0 /\ y1 /\
 y2 /\ y3 /\ y1 /\ y4 /\ (BE a.d RA a_5).r.ag = true /\ BA = BA /\ (∀ (n : Int), y49 a_5 n = EE (λ (z : Int) => (a_5.r.m.at z).isSome) (y43 a_5) n) /\ (∀ (n : Int), (BE a.d RA
 a_5).r.st n = stUp (λ (z : Int) => (a_5.r.m.at z).isSome) a_5.r.st (y43 a_5) n) /\ (∀ (n : Int), (y50 a_5 n = bif y51 n a_5 then y44 a_5 else bif y51 n a_5 then y46 a_5 else (a_5.r.m.far
 n).cost) /\ (y52 a_5 n = bif y51 n a_5 then y47 a_5 else bif y51 n a_5 then y48 a_5 else (a_5.r.m.far n).many) /\ (y54 a_5 n = bif y51 n a_5 then a_5.s.way else bif y51 n a_5 then
 (y55 a_5).way else (a_5.r.m.far n).by'.way) /\ y56 a_5 n = bif y51 n a_5 then a_5.s.back else bif y51 n a_5 then (y55 a_5).back else (a_5.r.m.far n).by'.back) /\ y57 a_5 else y0 /\ y1 /\
 y2 /\ y3 /\ y1 /\ y4 /\ (BE a.d RA a_5).r.ag = a_5.r.ag /\ BA = BA /\ (∀ (n : Int), y49 a_5 n = (a_5.r.m.at n).isSome) /\ (∀ (n : Int), (BE a.d RA a_5).r.st n = a_5.r.st n) /\ (∀ (n : Int),
 y50 a_5 n = (a_5.r.m.far n).cost /\ y52 a_5 n = (a_5.r.m.far n).many /\ y54 a_5 n = (a_5.r.m.far n).by'.way /\ y56 a_5 n = (a_5.r.m.far n).by'.back) /\ y57 a_5) /\ ∀ (l : Nat), (∃ (a_5 : RS), (y60 l a_1 a_3 = Fn.yield l /\ y0 /\ y1 /\ y61 /\ y12 a_5 /\ y0 /\ y1 /\ y2 /\ y3 /\ y1 /\ y4 /\ a_5.r.ag = a_3.r.ag /\ BA = BA /\ y13 a_5 a_3 /\ y14 a_5 a_3 /\ y15 a_5 a_3 /\
 (↑(y63 l a_1 a_3) : Int) = (↑a_3.p : Int) /\ a_5.h.cost = (a_3.r.m.far (↑a_3.p : Int)).cost /\ a_5.h.many = (a_3.r.m.far (↑a_3.p : Int)).many /\ a_5.h.by'.way = (y64 a_3).way /\ a_5.h.by'.back = (y64 a_3).back) /\
 y65 a_5 l a_1 a_3) /\ ∀ (a_5 : RS), y65 a_5 l a_1 a_3 -> bif decide (y66 a_5) then (0 <= (↑a_5.p : Int) /\ y66 a_5) /\ (y67 a_5).succ.le a.d.all.length /\ bif if true = true then y69 a_5 l a_1 a_3
 else !y69 a_5 l a_1 a_3 then y70 l a_1 a_3 /\ ∃ (a_7 : RS), (y71 a_7 a_5 /\ a_7.s.back = false /\ y75 a_7 a_5) /\ bif y77 a_5 l a_1 a_3 then y70 l a_1 a_3 /\ ∃ (a_8 : RS), (y71 a_8 a_5 /\
 a_8.s.back = true /\ y0 /\ y1 /\ y2 /\ y3 /\ y1 /\ y4 /\ y78 a_8 a_7 /\ BA = BA /\ y79 a_8 a_7 /\ y80 a_8 a_7 /\ y81 a_8 a_7 /\ y74 a_8 a_7) /\ y86 l a_1 a_3 a_5 a_8 else
 y86 l a_1 a_3 a_5 a_7 else bif y77 a_5 l a_1 a_3 then y70 l a_1 a_3 /\ ∃ (a_7 : RS), (y71 a_7 a_5 /\ a_7.s.back = true /\ y75 a_7 a_5) /\ y86 l a_1 a_3 a_5 a_7 else ∃ (a_7 : RS), (y82 l a_1 a_3 /\ y0 /\ y1 /\ y61 /\ y23 a_7 a_5 /\ y0 /\ y1 /\ y2 /\ y3 /\ y1 /\ y4 /\ a_7.r.ag = a_5.r.ag /\ BA = BA /\ y13 a_7 a_5 /\ y14 a_7 a_5 /\ y15 a_7 a_5 /\ y83 l a_1 a_3 a_7 a_5) /\ y85 a_7 l a_1 a_3 a_5 else ∃ (a_7 : RS), (y22 /\ y23 a_7 a_3 /\ y24 a_7 a_5) /\ y26 a_7 a_1 a_3 else ∃ (a_5 : RS), y24 a_5 a_3 /\ y10 a_5 /\ y18 a_5 < y18 a_1 else y0 /\
 y1 /\ y2 /\ y3 /\ y1 /\ y4 /\ BA = BA /\ (∀ (n : Int), ((HK a.d RA.counts a.fr).m.at n).isSome = (a_1.r.m.at n).isSome) /\ (∀ (n : Int), (HK a.d RA.counts a.fr).st n = a_1.r.st n) /\ ∀ (n : Int),
 (y87 n).cost = (a_1.r.m.far n).cost /\ (y87 n).many = (a_1.r.m.far n).many /\ (y88 n).way = (a_1.r.m.far n).by'.way /\ (y88 n).back = (a_1.r.m.far n).by'.back)) := by kernel_rfl
def W57 (a : DF) : Prop := BM Try.prog (Tk Try.f106 a.d RL (HK a.d any a.fr) 58 s58) Try.f57 (AJ Try.f57) ((Fe λ _ => RL).xs a) (AE ((Fe λ _ => RL).L a)) ((Fe λ _ => RL).val a) ((Fe λ _ => RL).keep a) [(0, 305)] []
abbrev zwc57_0 : Prop := 0 = 0
abbrev zwc57_1 (a : DF) : Prop := a.d.all.length = a.d.all.length
abbrev zwc57_2 (a : DF) : Prop := (↑a.d.out : Int) = (↑a.d.out : Int)
abbrev zwc57_3 (a : DF) : Prop := (↑a.d.nR : Int) = (↑a.d.nR : Int)
abbrev zwc57_4 (a : DF) : Prop := ∀ (i : Nat), i < a.d.all.length -> (gD a.d.all i).fr = (gD a.d.all i).fr /\ (gD a.d.all i).to = (gD a.d.all i).to /\ (gD a.d.all i).sp.lo = (gD a.d.all i).sp.lo /\ (gD a.d.all i).sp.hi = (gD
 a.d.all i).sp.hi /\ (gD a.d.all i).now = (gD a.d.all i).now
abbrev zwc57_5 : Value := Value.agg #[Value.int IntKind.i64 0, Value.int IntKind.i64 0, Value.int IntKind.i64 0, Value.bool false]
abbrev zwc57_6 (n : Int) (a : DF) : Bool := decide (n = a.fr)
abbrev zwc57_7 (n : Int) (a : DF) : Int := bif zwc57_6 n a then 0 else 0
abbrev zwc57_8 (a : DF) : Nat := a.d.out + 2
abbrev zwc57_9 (a : RS) (a1 : DF) : Prop := List.length a.r.m = zwc57_8 a1
abbrev zwc57_10 (a : RS) (a1 : DF) : Prop := zwc57_9 a a1 /\ CK a1.d RL.counts a.k a.r = some (HK a1.d any a1.fr)
abbrev zwc57_11 (a : DF) : Int := (↑a.d.out : Int) + 2
abbrev zwc57_12 (a : RS) : Prop := (↑a.p : Int) = 0
abbrev zwc57_13 (a : RS) (a1 : RS) : Prop := ∀ (n : Int), (a.r.m.at n).isSome = (a1.r.m.at n).isSome
abbrev zwc57_14 (a : RS) (a1 : RS) : Prop := ∀ (n : Int), a.r.st n = a1.r.st n
abbrev zwc57_15 (a : RS) (a1 : RS) : Prop := ∀ (n : Int), (a.r.m.far n).cost = (a1.r.m.far n).cost /\ (a.r.m.far n).many = (a1.r.m.far n).many /\ (a.r.m.far n).by'.way = (a1.r.m.far n).by'.way /\ (a.r.m.far n).by'.back =
 (a1.r.m.far n).by'.back
abbrev zwc57_16 (a : RS) (a1 : RS) : Prop := BA = BA /\ zwc57_13 a a1 /\ zwc57_14 a a1 /\ zwc57_15 a a1
abbrev zwc57_17 (a : RS) : Nat := a.k + 1
abbrev zwc57_18 (a : DF) (a1 : RS) : Nat := (PM a.d RL (HK a.d any a.fr)).meas a1
abbrev zwc57_19 (a : DF) (a1 : RS) : List Nat := [zwc57_18 a a1]
abbrev zwc57_20 (a : RS) (a1 : DF) (a2 : RS) : Prop := zwc57_9 a a1 /\ a.p <= zwc57_8 a1 /\ zwc57_17 a = (zwc57_19 a1 a2).headD 0 /\ CK a1.d RL.counts a.k (AU a1.d RL.counts (zwc57_8 a1 - a.p) a.p a.r) = some
 (HK a1.d any a1.fr)
abbrev zwc57_21 : Prop := zwc57_5 = BA
abbrev zwc57_22 (a : DF) : Prop := zwc57_11 a = zwc57_11 a
abbrev zwc57_23 (a : RS) (a1 : RS) : Prop := (↑a.p : Int) = IntKind.i64.wrap ((↑a1.p : Int) + 1)
abbrev zwc57_24 (a : DF) (a1 : RS) (a2 : RS) : Prop := zwc57_0 /\ zwc57_1 a /\ zwc57_2 a /\ zwc57_3 a /\ zwc57_1 a /\ zwc57_4 a /\ a1.r.ag = a2.r.ag /\ zwc57_16 a1 a2
abbrev zwc57_25 (a : DF) (a1 : RS) (a2 : RS) : Nat := (UY a.d RL (HK a.d any a.fr) (zwc57_19 a a1)).meas a2
abbrev zwc57_26 (a : RS) (a1 : DF) (a2 : RS) (a3 : RS) : Prop := zwc57_20 a a1 a2 /\ zwc57_25 a1 a2 a < zwc57_25 a1 a2 a3
abbrev zwc57_27 (a : DF) : List Way := AC a.d.all.length λ (i : Nat) => gD a.d.all i
abbrev zwc57_28 (a : DF) : Nat := (zwc57_27 a).length
abbrev zwc57_29 (a : DF) : Prop := zwc57_28 a = a.d.all.length
abbrev zwc57_30 (a : DF) (i : Nat) : Way := gD (zwc57_27 a) i
abbrev zwc57_31 (a : DF) (i : Nat) : Int := (zwc57_30 a i).fr
abbrev zwc57_32 (a : DF) (i : Nat) : Int := (zwc57_30 a i).to
abbrev zwc57_33 (a : DF) (i : Nat) : Span := (zwc57_30 a i).sp
abbrev zwc57_34 (a : DF) (i : Nat) : Int := (zwc57_33 a i).lo
abbrev zwc57_35 (a : DF) (i : Nat) : Int := (zwc57_33 a i).hi
abbrev zwc57_36 (a : DF) (i : Nat) : Int := (zwc57_30 a i).now
abbrev zwc57_37 (a : DF) : Prop := ∀ (i : Nat), i < zwc57_28 a -> zwc57_31 a i = (gD a.d.all i).fr /\ zwc57_32 a i = (gD a.d.all i).to /\ zwc57_34 a i = (gD a.d.all i).sp.lo /\ zwc57_35 a i = (gD a.d.all i).sp.hi /\ zwc57_36
 a i = (gD a.d.all i).now
abbrev zwc57_38 (a : DF) : Prop := a.d.all.length = zwc57_28 a
abbrev zwc57_39 (a : DF) : Prop := ∀ (i : Nat), i < a.d.all.length -> (gD a.d.all i).fr = zwc57_31 a i /\ (gD a.d.all i).to = zwc57_32 a i /\ (gD a.d.all i).sp.lo = zwc57_34 a i /\ (gD a.d.all i).sp.hi = zwc57_35 a i /\ (gD
 a.d.all i).now = zwc57_36 a i
abbrev zwc57_40 (a : RS) : Prop := 0 <= a.s.way
abbrev zwc57_41 (a : RS) (a1 : DF) : Prop := (zwc57_40 a /\ a.s.way < (↑a1.d.all.length : Int)) /\ zwc57_9 a a1
abbrev zwc57_42 (a : RS) (a1 : DF) : Prop := zwc57_40 a /\ a.s.way < (↑(zwc57_28 a1) : Int)
abbrev zwc57_43 (a : DF) (a1 : RS) : Int := DB (Desk.mk (zwc57_27 a) a.d.out a.d.nR) a1.s
abbrev zwc57_44 (a : RS) (a1 : DF) : Int := IntKind.i64.wrap (a.h.cost + (AV (BW (zwc57_27 a1) a.s.way) a.s.back).fst)
abbrev zwc57_45 (a : RS) (a1 : DF) : Far := a.r.m.far (zwc57_43 a1 a)
abbrev zwc57_46 (a : RS) (a1 : DF) : Int := (zwc57_45 a a1).cost
abbrev zwc57_47 (a : RS) : Int := IntKind.i64.wrap (a.h.many + 1)
abbrev zwc57_48 (a : RS) (a1 : DF) : Int := (zwc57_45 a a1).many
abbrev zwc57_49 (a : DF) (a1 : RS) (n : Int) : Bool := ((BE a.d RL a1).r.m.at n).isSome
abbrev zwc57_50 (a : DF) (a1 : RS) (n : Int) : Int := ((BE a.d RL a1).r.m.far n).cost
abbrev zwc57_51 (n : Int) (a : DF) (a1 : RS) : Bool := decide (n = zwc57_43 a a1)
abbrev zwc57_52 (a : DF) (a1 : RS) (n : Int) : Int := ((BE a.d RL a1).r.m.far n).many
abbrev zwc57_53 (a : DF) (a1 : RS) (n : Int) : Step := ((BE a.d RL a1).r.m.far n).by'
abbrev zwc57_54 (a : DF) (a1 : RS) (n : Int) : Int := (zwc57_53 a a1 n).way
abbrev zwc57_55 (a : RS) (a1 : DF) : Step := (zwc57_45 a a1).by'
abbrev zwc57_56 (a : DF) (a1 : RS) (n : Int) : Bool := (zwc57_53 a a1 n).back
abbrev zwc57_57 (a : RS) : Prop := a.h.cost = a.h.cost /\ a.h.many = a.h.many /\ a.h.by'.way = a.h.by'.way /\ a.h.by'.back = a.h.by'.back
abbrev zwc57_58 (l : Nat) (a : DF) (a1 : RS) (a2 : RS) : List Nat := l :: zwc57_25 a a1 a2 :: zwc57_19 a a1
abbrev zwc57_59 (l : Nat) (a : DF) (a1 : RS) (a2 : RS) : Nat := (zwc57_58 l a a1 a2).headD 0
abbrev zwc57_60 (l : Nat) (a : DF) (a1 : RS) (a2 : RS) : Fn := Fn.yield (zwc57_59 l a a1 a2)
abbrev zwc57_61 (a : DF) : Prop := (↑a.d.all.length : Int) = (↑a.d.all.length : Int)
abbrev zwc57_62 (l : Nat) (a : DF) (a1 : RS) (a2 : RS) : Nat := (zwc57_58 l a a1 a2).getD 1 0
abbrev zwc57_63 (a : DF) (l : Nat) (a1 : RS) (a2 : RS) : Nat := zwc57_8 a - zwc57_62 l a a1 a2
abbrev zwc57_64 (a : RS) : Step := (a.r.m.far (↑a.p : Int)).by'
abbrev zwc57_65 (a : RS) (a1 : DF) (l : Nat) (a2 : RS) (a3 : RS) : Prop := zwc57_9 a a1 /\ a.p <= a1.d.all.length /\ zwc57_17 a = (zwc57_58 l a1 a2 a3).getD 2 0 /\ CK a1.d RL.counts a.k (AU a1.d RL.counts
 (zwc57_62 l a1 a2 a3 - 1) (zwc57_63 a1 l a2 a3 + 1) (CG a1.d RL.counts a.h (↑(zwc57_63 a1 l a2 a3) : Int) (List.drop a.p a1.d.all) a.p a.r)) = some (HK a1.d any a1.fr)
abbrev zwc57_66 (a : RS) (a1 : DF) : Prop := (↑a.p : Int) < (↑a1.d.all.length : Int)
abbrev zwc57_67 (a : RS) : Nat := 0 + a.p
abbrev zwc57_68 (a : DF) (a1 : RS) : Way := gD a.d.all (zwc57_67 a1)
abbrev zwc57_69 (a : DF) (a1 : RS) (l : Nat) (a2 : RS) (a3 : RS) : Bool := (zwc57_68 a a1).fr == (↑(zwc57_63 a l a2 a3) : Int)
abbrev zwc57_70 (l : Nat) (a : DF) (a1 : RS) (a2 : RS) : Prop := zwc57_59 l a a1 a2 = l
abbrev zwc57_71 (a : RS) (a1 : RS) : Prop := a.s.way = (↑a1.p : Int)
abbrev zwc57_72 (a : RS) (a1 : RS) : Prop := a.h.by'.way = a1.h.by'.way
abbrev zwc57_73 (a : RS) (a1 : RS) : Prop := a.h.by'.back = a1.h.by'.back
abbrev zwc57_74 (a : RS) (a1 : RS) (a2 : DF) : Prop := a.h.cost = a1.h.cost /\ a.h.many = a1.h.many /\ zwc57_72 a a1 /\ zwc57_73 a a1 /\ zwc57_41 a a2
abbrev zwc57_75 (a : DF) (a1 : RS) (a2 : RS) : Prop := zwc57_0 /\ zwc57_1 a /\ zwc57_2 a /\ zwc57_3 a /\ zwc57_1 a /\ zwc57_4 a /\ a1.r.ag = a2.r.ag /\ BA = BA /\ zwc57_13 a1 a2 /\ zwc57_14 a1 a2 /\ zwc57_15 a1 a2 /\ zwc57_74
 a1 a2 a
abbrev zwc57_76 (a : DF) (a1 : RS) (l : Nat) (a2 : RS) (a3 : RS) : Bool := (zwc57_68 a a1).to == (↑(zwc57_63 a l a2 a3) : Int)
abbrev zwc57_77 (a : DF) (a1 : RS) (l : Nat) (a2 : RS) (a3 : RS) : Bool := if true = true then zwc57_76 a a1 l a2 a3 else !zwc57_76 a a1 l a2 a3
abbrev zwc57_78 (a : RS) (a1 : DF) (a2 : RS) : Prop := a.r.ag = (BE a1.d RL a2).r.ag
abbrev zwc57_79 (a : RS) (a1 : DF) (a2 : RS) : Prop := ∀ (n : Int), (a.r.m.at n).isSome = zwc57_49 a1 a2 n
abbrev zwc57_80 (a : RS) (a1 : DF) (a2 : RS) : Prop := ∀ (n : Int), a.r.st n = (BE a1.d RL a2).r.st n
abbrev zwc57_81 (a : RS) (a1 : DF) (a2 : RS) : Prop := ∀ (n : Int), (a.r.m.far n).cost = zwc57_50 a1 a2 n /\ (a.r.m.far n).many = zwc57_52 a1 a2 n /\ (a.r.m.far n).by'.way = zwc57_54 a1 a2 n /\ (a.r.m.far n).by'.back =
 zwc57_56 a1 a2 n
abbrev zwc57_82 (l : Nat) (a : DF) (a1 : RS) (a2 : RS) : Prop := zwc57_60 l a a1 a2 = zwc57_60 l a a1 a2
abbrev zwc57_83 (a : DF) (l : Nat) (a1 : RS) (a2 : RS) (a3 : RS) (a4 : RS) : Prop := (↑(zwc57_63 a l a1 a2) : Int) = (↑(zwc57_63 a l a1 a2) : Int) /\ a3.h.cost = a4.h.cost /\ a3.h.many = a4.h.many /\ zwc57_72 a3 a4 /\
 zwc57_73 a3 a4
abbrev zwc57_84 (a : DF) (l : Nat) (a1 : RS) (a2 : RS) (a3 : RS) : Nat := (UF a.d RL (HK a.d any a.fr) (zwc57_58 l a a1 a2)).meas a3
abbrev zwc57_85 (a : RS) (a1 : DF) (l : Nat) (a2 : RS) (a3 : RS) (a4 : RS) : Prop := zwc57_65 a a1 l a2 a3 /\ zwc57_84 a1 l a2 a3 a < zwc57_84 a1 l a2 a3 a4
abbrev zwc57_86 (l : Nat) (a : DF) (a1 : RS) (a2 : RS) (a3 : RS) (a4 : RS) : Prop := ∃ (a_1 : RS), (zwc57_82 l a a1 a2 /\ zwc57_0 /\ zwc57_1 a /\ zwc57_61 a /\ zwc57_23 a_1 a3 /\ zwc57_0 /\ zwc57_1 a /\ zwc57_2 a /\ zwc57_3 a /\
 zwc57_1 a /\ zwc57_4 a /\ zwc57_78 a_1 a a4 /\ BA = BA /\ zwc57_79 a_1 a a4 /\ zwc57_80 a_1 a a4 /\ zwc57_81 a_1 a a4 /\ zwc57_83 a l a1 a2 a_1 a4) /\ zwc57_85 a_1 a l a1 a2 a3
abbrev zwc57_87 (a : DF) (n : Int) : Far := (HK a.d RL.counts a.fr).m.far n
abbrev zwc57_88 (a : DF) (n : Int) : Step := (zwc57_87 a n).by'
theorem Zl (a : DF) : (W57 a) = ((∃ (a_1 : RS), (zwc57_0 /\ zwc57_1 a /\ zwc57_2 a /\ zwc57_3 a /\ zwc57_1 a /\ zwc57_4 a /\ a_1.r.ag = true /\ BA = zwc57_5 /\ (∀ (n : Int), (a_1.r.m.at n).isSome = EE (λ (x : Int) =>
 false) a.fr n) /\ (∀ (n : Int), a_1.r.st n = stUp (λ (x : Int) => false) (λ (x : Int) => 0) a.fr n) /\ ∀ (n : Int), (a_1.r.m.far n).cost = zwc57_7 n a /\ (a_1.r.m.far n).many = zwc57_7 n a /\ (a_1.r.m.far n).by'.way =
 zwc57_7 n a /\ (a_1.r.m.far n).by'.back = bif zwc57_6 n a then false else false) /\ zwc57_10 a_1 a) /\ ∀ (a_1 : RS), zwc57_10 a_1 a -> bif a_1.r.ag then (∃ (a_3 : RS), (zwc57_11 a = IntKind.i64.wrap (zwc57_11 a) /\ zwc57_12
 a_3 /\ zwc57_0 /\ zwc57_1 a /\ zwc57_2 a /\ zwc57_3 a /\ zwc57_1 a /\ zwc57_4 a /\ a_3.r.ag = false /\ zwc57_16 a_3 a_1) /\ zwc57_20 a_3 a a_1) /\ ∀ (a_3 : RS), zwc57_20 a_3 a a_1 -> bif decide ((↑a_3.p : Int) < zwc57_11 a) then
 zwc57_21 /\ bif !(a_3.r.m.at (↑a_3.p : Int)).isSome then ∃ (a_5 : RS), (zwc57_22 a /\ zwc57_23 a_5 a_3 /\ zwc57_24 a a_5 a_3) /\ zwc57_26 a_5 a a_1 a_3 else ((↑a_3.p : Int) = (↑a_3.p : Int) /\ zwc57_0 /\ zwc57_29 a /\ zwc57_2 a
 /\ zwc57_3 a /\ zwc57_29 a /\ zwc57_37 a /\ zwc57_0 /\ zwc57_38 a /\ zwc57_2 a /\ zwc57_3 a /\ zwc57_38 a /\ zwc57_39 a) /\ (∀ (a_5 : RS), zwc57_41 a_5 a -> true = true /\ (a_5.s.way = a_5.s.way /\ a_5.s.back = a_5.s.back /\ zwc57_0 /\
 zwc57_29 a /\ zwc57_2 a /\ zwc57_3 a /\ zwc57_29 a /\ zwc57_37 a /\ zwc57_0 /\ zwc57_38 a /\ zwc57_2 a /\ zwc57_3 a /\ zwc57_38 a /\ zwc57_39 a /\ zwc57_42 a_5 a) /\ (a_5.s.way = a_5.s.way /\ a_5.s.back = a_5.s.back /\ zwc57_0 /\
 zwc57_29 a /\ zwc57_2 a /\ zwc57_3 a /\ zwc57_29 a /\ zwc57_37 a /\ zwc57_0 /\ zwc57_38 a /\ zwc57_2 a /\ zwc57_3 a /\ zwc57_38 a /\ zwc57_39 a /\ zwc57_42 a_5 a /\ zwc57_21) /\ bif bif bif !(a_5.r.m.at (zwc57_43 a a_5)).isSome then
 true else decide (zwc57_44 a_5 a < zwc57_46 a_5 a) then true else bif zwc57_44 a_5 a == zwc57_46 a_5 a then decide (zwc57_47 a_5 < zwc57_48 a_5 a) else false then (a_5.s.way = a_5.s.way /\ a_5.s.back = a_5.s.back /\
 zwc57_0 /\ zwc57_29 a /\ zwc57_2 a /\ zwc57_3 a /\ zwc57_29 a /\ zwc57_37 a /\ zwc57_0 /\ zwc57_38 a /\ zwc57_2 a /\ zwc57_3 a /\ zwc57_38 a /\ zwc57_39 a /\ zwc57_42 a_5 a /\ zwc57_21 /\ EE (λ (z : Int) => (a_5.r.m.at z).isSome)
 (zwc57_43 a a_5) (zwc57_43 a a_5) = true /\ a_5.r.st (zwc57_43 a a_5) = stUp (λ (z : Int) => (a_5.r.m.at z).isSome) a_5.r.st (zwc57_43 a a_5) (zwc57_43 a a_5)) /\ zwc57_0 /\ zwc57_1 a /\ zwc57_2 a /\ zwc57_3 a /\ zwc57_1 a /\
 zwc57_4 a /\ (BE a.d RL a_5).r.ag = true /\ BA = BA /\ (∀ (n : Int), zwc57_49 a a_5 n = EE (λ (z : Int) => (a_5.r.m.at z).isSome) (zwc57_43 a a_5) n) /\ (∀ (n : Int), (BE a.d RL a_5).r.st n = stUp (λ (z :
 Int) => (a_5.r.m.at z).isSome) a_5.r.st (zwc57_43 a a_5) n) /\ (∀ (n : Int), (zwc57_50 a a_5 n = bif zwc57_51 n a a_5 then zwc57_44 a_5 a else bif zwc57_51 n a a_5 then zwc57_46 a_5 a else (a_5.r.m.far n).cost) /\
 (zwc57_52 a a_5 n = bif zwc57_51 n a a_5 then zwc57_47 a_5 else bif zwc57_51 n a a_5 then zwc57_48 a_5 a else (a_5.r.m.far n).many) /\ (zwc57_54 a a_5 n = bif zwc57_51 n a a_5 then a_5.s.way else bif zwc57_51 n a a_5 then
 (zwc57_55 a_5 a).way else (a_5.r.m.far n).by'.way) /\ zwc57_56 a a_5 n = bif zwc57_51 n a a_5 then a_5.s.back else bif zwc57_51 n a a_5 then (zwc57_55 a_5 a).back else (a_5.r.m.far n).by'.back) /\ zwc57_57 a_5 else zwc57_0
 /\ zwc57_1 a /\ zwc57_2 a /\ zwc57_3 a /\ zwc57_1 a /\ zwc57_4 a /\ (BE a.d RL a_5).r.ag = a_5.r.ag /\ BA = BA /\ (∀ (n : Int), zwc57_49 a a_5 n = (a_5.r.m.at n).isSome) /\ (∀ (n : Int), (BE a.d RL a_5).r.st n =
 a_5.r.st n) /\ (∀ (n : Int), zwc57_50 a a_5 n = (a_5.r.m.far n).cost /\ zwc57_52 a a_5 n = (a_5.r.m.far n).many /\ zwc57_54 a a_5 n = (a_5.r.m.far n).by'.way /\ zwc57_56 a a_5 n = (a_5.r.m.far n).by'.back) /\ zwc57_57 a_5) /\
 ∀ (l : Nat), (∃ (a_5 : RS), (zwc57_60 l a a_1 a_3 = Fn.yield l /\ zwc57_0 /\ zwc57_1 a /\ zwc57_61 a /\ zwc57_12 a_5 /\ zwc57_0 /\ zwc57_1 a /\ zwc57_2 a /\ zwc57_3 a /\ zwc57_1 a /\ zwc57_4 a /\ a_5.r.ag = a_3.r.ag /\ BA = BA /\
 zwc57_13 a_5 a_3 /\ zwc57_14 a_5 a_3 /\ zwc57_15 a_5 a_3 /\ (↑(zwc57_63 a l a_1 a_3) : Int) = (↑a_3.p : Int) /\ a_5.h.cost = (a_3.r.m.far (↑a_3.p : Int)).cost /\ a_5.h.many = (a_3.r.m.far (↑a_3.p : Int)).many /\ a_5.h.by'.way
 = (zwc57_64 a_3).way /\ a_5.h.by'.back = (zwc57_64 a_3).back) /\ zwc57_65 a_5 a l a_1 a_3) /\ ∀ (a_5 : RS), zwc57_65 a_5 a l a_1 a_3 -> bif decide (zwc57_66 a_5 a) then (0 <= (↑a_5.p : Int) /\ zwc57_66 a_5 a) /\ (zwc57_67
 a_5).succ.le a.d.all.length /\ bif if true = true then zwc57_69 a a_5 l a_1 a_3 else !zwc57_69 a a_5 l a_1 a_3 then zwc57_70 l a a_1 a_3 /\ ∃ (a_7 : RS), (zwc57_71 a_7 a_5 /\ a_7.s.back = false /\ zwc57_75 a a_7 a_5) /\ bif
 zwc57_77 a a_5 l a_1 a_3 then zwc57_70 l a a_1 a_3 /\ ∃ (a_8 : RS), (zwc57_71 a_8 a_5 /\ a_8.s.back = true /\ zwc57_0 /\ zwc57_1 a /\ zwc57_2 a /\ zwc57_3 a /\ zwc57_1 a /\ zwc57_4 a /\ zwc57_78 a_8 a a_7 /\ BA = BA /\ zwc57_79
 a_8 a a_7 /\ zwc57_80 a_8 a a_7 /\ zwc57_81 a_8 a a_7 /\ zwc57_74 a_8 a_7 a) /\ zwc57_86 l a a_1 a_3 a_5 a_8 else zwc57_86 l a a_1 a_3 a_5 a_7 else bif zwc57_77 a a_5 l a_1 a_3 then zwc57_70 l a a_1 a_3 /\ ∃ (a_7 : RS),
 (zwc57_71 a_7 a_5 /\ a_7.s.back = true /\ zwc57_75 a a_7 a_5) /\ zwc57_86 l a a_1 a_3 a_5 a_7 else ∃ (a_7 : RS), (zwc57_82 l a a_1 a_3 /\ zwc57_0 /\ zwc57_1 a /\ zwc57_61 a /\ zwc57_23 a_7 a_5 /\ zwc57_0 /\ zwc57_1 a /\ zwc57_2 a
 /\ zwc57_3 a /\ zwc57_1 a /\ zwc57_4 a /\ a_7.r.ag = a_5.r.ag /\ BA = BA /\ zwc57_13 a_7 a_5 /\ zwc57_14 a_7 a_5 /\ zwc57_15 a_7 a_5 /\ zwc57_83 a l a_1 a_3 a_7 a_5) /\ zwc57_85 a_7 a l a_1 a_3 a_5 else ∃ (a_7 : RS), (zwc57_22
 a /\ zwc57_23 a_7 a_3 /\ zwc57_24 a a_7 a_5) /\ zwc57_26 a_7 a a_1 a_3 else ∃ (a_5 : RS), zwc57_24 a a_5 a_3 /\ zwc57_10 a_5 a /\ zwc57_18 a a_5 < zwc57_18 a a_1 else zwc57_0 /\ zwc57_1 a /\ zwc57_2 a /\ zwc57_3 a /\ zwc57_1 a /\
 zwc57_4 a /\ BA = BA /\ (∀ (n : Int), ((HK a.d RL.counts a.fr).m.at n).isSome = (a_1.r.m.at n).isSome) /\ (∀ (n : Int), (HK a.d RL.counts a.fr).st n = a_1.r.st n) /\ ∀ (n : Int), (zwc57_87 a n).cost = (a_1.r.m.far
 n).cost /\ (zwc57_87 a n).many = (a_1.r.m.far n).many /\ (zwc57_88 a n).way = (a_1.r.m.far n).by'.way /\ (zwc57_88 a n).back = (a_1.r.m.far n).by'.back) := by kernel_rfl
def U57 (a : DF) : Prop := BM Try.prog (Tk Try.f106 a.d (RF a.d a.at') (HK a.d (BP a.d a.at') a.fr) 101 (C101.spec Ty)) Try.f57 (AJ Try.f57) ((Fe λ a => RF a.d a.at').xs a) (AE ((Fe λ a => RF a.d a.at').L a)) ((Fe λ a => RF a.d a.at').val a) ((Fe λ a => RF a.d a.at').keep a) [(0, 305)] []
abbrev zuc57_0 : Prop := 0 = 0
abbrev zuc57_1 (a : DF) : Prop := a.d.all.length = a.d.all.length
abbrev zuc57_2 (a : DF) : Prop := (↑a.d.out : Int) = (↑a.d.out : Int)
abbrev zuc57_3 (a : DF) : Prop := (↑a.d.nR : Int) = (↑a.d.nR : Int)
abbrev zuc57_4 (a : DF) : Prop := ∀ (i : Nat), i < a.d.all.length -> (gD a.d.all i).fr = (gD a.d.all i).fr /\ (gD a.d.all i).to = (gD a.d.all i).to /\ (gD a.d.all i).sp.lo = (gD a.d.all i).sp.lo /\ (gD a.d.all i).sp.hi = (gD
 a.d.all i).sp.hi /\ (gD a.d.all i).now = (gD a.d.all i).now
abbrev zuc57_5 : Value := Value.agg #[Value.int IntKind.i64 0, Value.int IntKind.i64 0, Value.int IntKind.i64 0, Value.bool false]
abbrev zuc57_6 (n : Int) (a : DF) : Bool := decide (n = a.fr)
abbrev zuc57_7 (n : Int) (a : DF) : Int := bif zuc57_6 n a then 0 else 0
abbrev zuc57_8 (a : DF) : Nat := a.d.out + 2
abbrev zuc57_9 (a : RS) (a1 : DF) : Prop := List.length a.r.m = zuc57_8 a1
abbrev zuc57_10 (a : DF) : RT := HK a.d (BP a.d a.at') a.fr
abbrev zuc57_11 (a : DF) : Option RT := some (zuc57_10 a)
abbrev zuc57_12 (a : RS) (a1 : DF) : Prop := zuc57_9 a a1 /\ CK a1.d (RF a1.d a1.at').counts a.k a.r = zuc57_11 a1
abbrev zuc57_13 (a : DF) : Int := (↑a.d.out : Int) + 2
abbrev zuc57_14 (a : RS) : Prop := (↑a.p : Int) = 0
abbrev zuc57_15 (a : RS) (a1 : RS) : Prop := ∀ (n : Int), (a.r.m.at n).isSome = (a1.r.m.at n).isSome
abbrev zuc57_16 (a : RS) (a1 : RS) : Prop := ∀ (n : Int), a.r.st n = a1.r.st n
abbrev zuc57_17 (a : RS) (a1 : RS) : Prop := ∀ (n : Int), (a.r.m.far n).cost = (a1.r.m.far n).cost /\ (a.r.m.far n).many = (a1.r.m.far n).many /\ (a.r.m.far n).by'.way = (a1.r.m.far n).by'.way /\ (a.r.m.far n).by'.back =
 (a1.r.m.far n).by'.back
abbrev zuc57_18 (a : RS) (a1 : RS) : Prop := BA = BA /\ zuc57_15 a a1 /\ zuc57_16 a a1 /\ zuc57_17 a a1
abbrev zuc57_19 (a : RS) : Nat := a.k + 1
abbrev zuc57_20 (a : DF) (a1 : RS) : Nat := (PM a.d (RF a.d a.at') (zuc57_10 a)).meas a1
abbrev zuc57_21 (a : DF) (a1 : RS) : List Nat := [zuc57_20 a a1]
abbrev zuc57_22 (a : RS) (a1 : DF) (a2 : RS) : Prop := zuc57_9 a a1 /\ a.p <= zuc57_8 a1 /\ zuc57_19 a = (zuc57_21 a1 a2).headD 0 /\ CK a1.d (RF a1.d a1.at').counts a.k (AU a1.d (RF a1.d a1.at').counts (zuc57_8
 a1 - a.p) a.p a.r) = zuc57_11 a1
abbrev zuc57_23 : Prop := zuc57_5 = BA
abbrev zuc57_24 (a : DF) : Prop := zuc57_13 a = zuc57_13 a
abbrev zuc57_25 (a : RS) (a1 : RS) : Prop := (↑a.p : Int) = IntKind.i64.wrap ((↑a1.p : Int) + 1)
abbrev zuc57_26 (a : DF) (a1 : RS) (a2 : RS) : Prop := zuc57_0 /\ zuc57_1 a /\ zuc57_2 a /\ zuc57_3 a /\ zuc57_1 a /\ zuc57_4 a /\ a.at' = a.at' /\ a1.r.ag = a2.r.ag /\ zuc57_18 a1 a2
abbrev zuc57_27 (a : DF) (a1 : RS) (a2 : RS) : Nat := (UY a.d (RF a.d a.at') (zuc57_10 a) (zuc57_21 a a1)).meas a2
abbrev zuc57_28 (a : RS) (a1 : DF) (a2 : RS) (a3 : RS) : Prop := zuc57_22 a a1 a2 /\ zuc57_27 a1 a2 a < zuc57_27 a1 a2 a3
abbrev zuc57_29 (a : DF) : List Way := AC a.d.all.length λ (i : Nat) => gD a.d.all i
abbrev zuc57_30 (a : DF) : Nat := (zuc57_29 a).length
abbrev zuc57_31 (a : DF) : Prop := zuc57_30 a = a.d.all.length
abbrev zuc57_32 (a : DF) (i : Nat) : Way := gD (zuc57_29 a) i
abbrev zuc57_33 (a : DF) (i : Nat) : Int := (zuc57_32 a i).fr
abbrev zuc57_34 (a : DF) (i : Nat) : Int := (zuc57_32 a i).to
abbrev zuc57_35 (a : DF) (i : Nat) : Span := (zuc57_32 a i).sp
abbrev zuc57_36 (a : DF) (i : Nat) : Int := (zuc57_35 a i).lo
abbrev zuc57_37 (a : DF) (i : Nat) : Int := (zuc57_35 a i).hi
abbrev zuc57_38 (a : DF) (i : Nat) : Int := (zuc57_32 a i).now
abbrev zuc57_39 (a : DF) : Prop := ∀ (i : Nat), i < zuc57_30 a -> zuc57_33 a i = (gD a.d.all i).fr /\ zuc57_34 a i = (gD a.d.all i).to /\ zuc57_36 a i = (gD a.d.all i).sp.lo /\ zuc57_37 a i = (gD a.d.all i).sp.hi /\ zuc57_38
 a i = (gD a.d.all i).now
abbrev zuc57_40 (a : DF) : Prop := a.d.all.length = zuc57_30 a
abbrev zuc57_41 (a : DF) : Prop := ∀ (i : Nat), i < a.d.all.length -> (gD a.d.all i).fr = zuc57_33 a i /\ (gD a.d.all i).to = zuc57_34 a i /\ (gD a.d.all i).sp.lo = zuc57_36 a i /\ (gD a.d.all i).sp.hi = zuc57_37 a i /\ (gD
 a.d.all i).now = zuc57_38 a i
abbrev zuc57_42 (a : RS) : Prop := 0 <= a.s.way
abbrev zuc57_43 (a : RS) (a1 : DF) : Prop := (zuc57_42 a /\ a.s.way < (↑a1.d.all.length : Int)) /\ zuc57_9 a a1
abbrev zuc57_44 (a : RS) (a1 : DF) : Prop := zuc57_42 a /\ a.s.way < (↑(zuc57_30 a1) : Int)
abbrev zuc57_45 (a : DF) : Desk := Desk.mk (zuc57_29 a) a.d.out a.d.nR
abbrev zuc57_46 (a : DF) (a1 : RS) : RT := (BE a.d (RF a.d a.at') a1).r
abbrev zuc57_47 (a : DF) (a1 : RS) : Bool := (zuc57_46 a a1).ag
abbrev zuc57_48 (a : DF) (a1 : RS) : Map := (zuc57_46 a a1).m
abbrev zuc57_49 (a : DF) (a1 : RS) (n : Int) : Bool := ((zuc57_48 a a1).at n).isSome
abbrev zuc57_50 (a : DF) (a1 : RS) (n : Int) : Int := (zuc57_46 a a1).st n
abbrev zuc57_51 (a : DF) (a1 : RS) (n : Int) : Far := (zuc57_48 a a1).far n
abbrev zuc57_52 (a : DF) (a1 : RS) (n : Int) : Int := (zuc57_51 a a1 n).cost
abbrev zuc57_53 (a : DF) (a1 : RS) (n : Int) : Int := (zuc57_51 a a1 n).many
abbrev zuc57_54 (a : DF) (a1 : RS) (n : Int) : Step := (zuc57_51 a a1 n).by'
abbrev zuc57_55 (a : DF) (a1 : RS) (n : Int) : Int := (zuc57_54 a a1 n).way
abbrev zuc57_56 (a : DF) (a1 : RS) (n : Int) : Bool := (zuc57_54 a a1 n).back
abbrev zuc57_57 (a : RS) : Prop := a.h.cost = a.h.cost /\ a.h.many = a.h.many /\ a.h.by'.way = a.h.by'.way /\ a.h.by'.back = a.h.by'.back
abbrev zuc57_58 (a : DF) (a1 : RS) : Prop := zuc57_0 /\ zuc57_1 a /\ zuc57_2 a /\ zuc57_3 a /\ zuc57_1 a /\ zuc57_4 a /\ a.at' = a.at' /\ zuc57_47 a a1 = a1.r.ag /\ BA = BA /\ (∀ (n : Int), zuc57_49 a a1 n = (a1.r.m.at
 n).isSome) /\ (∀ (n : Int), zuc57_50 a a1 n = a1.r.st n) /\ (∀ (n : Int), zuc57_52 a a1 n = (a1.r.m.far n).cost /\ zuc57_53 a a1 n = (a1.r.m.far n).many /\ zuc57_55 a a1 n = (a1.r.m.far n).by'.way /\ zuc57_56 a a1 n =
 (a1.r.m.far n).by'.back) /\ zuc57_57 a1
abbrev zuc57_59 (a : DF) (a1 : RS) : Int := DB (zuc57_45 a) a1.s
abbrev zuc57_60 (a : RS) (a1 : DF) : Int := IntKind.i64.wrap (a.h.cost + (AV (BW (zuc57_29 a1) a.s.way) a.s.back).fst)
abbrev zuc57_61 (a : RS) (a1 : DF) : Far := a.r.m.far (zuc57_59 a1 a)
abbrev zuc57_62 (a : RS) (a1 : DF) : Int := (zuc57_61 a a1).cost
abbrev zuc57_63 (a : RS) : Int := IntKind.i64.wrap (a.h.many + 1)
abbrev zuc57_64 (a : RS) (a1 : DF) : Int := (zuc57_61 a a1).many
abbrev zuc57_65 (n : Int) (a : DF) (a1 : RS) : Bool := decide (n = zuc57_59 a a1)
abbrev zuc57_66 (a : RS) (a1 : DF) : Step := (zuc57_61 a a1).by'
abbrev zuc57_67 (l : Nat) (a : DF) (a1 : RS) (a2 : RS) : List Nat := l :: zuc57_27 a a1 a2 :: zuc57_21 a a1
abbrev zuc57_68 (l : Nat) (a : DF) (a1 : RS) (a2 : RS) : Nat := (zuc57_67 l a a1 a2).headD 0
abbrev zuc57_69 (l : Nat) (a : DF) (a1 : RS) (a2 : RS) : Fn := Fn.yield (zuc57_68 l a a1 a2)
abbrev zuc57_70 (a : DF) : Prop := (↑a.d.all.length : Int) = (↑a.d.all.length : Int)
abbrev zuc57_71 (l : Nat) (a : DF) (a1 : RS) (a2 : RS) : Nat := (zuc57_67 l a a1 a2).getD 1 0
abbrev zuc57_72 (a : DF) (l : Nat) (a1 : RS) (a2 : RS) : Nat := zuc57_8 a - zuc57_71 l a a1 a2
abbrev zuc57_73 (a : RS) : Step := (a.r.m.far (↑a.p : Int)).by'
abbrev zuc57_74 (a : RS) (a1 : DF) (l : Nat) (a2 : RS) (a3 : RS) : Prop := zuc57_9 a a1 /\ a.p <= a1.d.all.length /\ zuc57_19 a = (zuc57_67 l a1 a2 a3).getD 2 0 /\ CK a1.d (RF a1.d a1.at').counts a.k (AU a1.d
 (RF a1.d a1.at').counts (zuc57_71 l a1 a2 a3 - 1) (zuc57_72 a1 l a2 a3 + 1) (CG a1.d (RF a1.d a1.at').counts a.h (↑(zuc57_72 a1 l a2 a3) : Int) (List.drop a.p a1.d.all) a.p a.r)) = zuc57_11 a1
abbrev zuc57_75 (a : RS) (a1 : DF) : Prop := (↑a.p : Int) < (↑a1.d.all.length : Int)
abbrev zuc57_76 (a : RS) : Nat := 0 + a.p
abbrev zuc57_77 (a : DF) (a1 : RS) : Way := gD a.d.all (zuc57_76 a1)
abbrev zuc57_78 (a : DF) (a1 : RS) (l : Nat) (a2 : RS) (a3 : RS) : Bool := (zuc57_77 a a1).fr == (↑(zuc57_72 a l a2 a3) : Int)
abbrev zuc57_79 (l : Nat) (a : DF) (a1 : RS) (a2 : RS) : Prop := zuc57_68 l a a1 a2 = l
abbrev zuc57_80 (a : RS) (a1 : RS) : Prop := a.s.way = (↑a1.p : Int)
abbrev zuc57_81 (a : RS) (a1 : RS) : Prop := a.h.by'.way = a1.h.by'.way
abbrev zuc57_82 (a : RS) (a1 : RS) : Prop := a.h.by'.back = a1.h.by'.back
abbrev zuc57_83 (a : RS) (a1 : RS) (a2 : DF) : Prop := a.h.cost = a1.h.cost /\ a.h.many = a1.h.many /\ zuc57_81 a a1 /\ zuc57_82 a a1 /\ zuc57_43 a a2
abbrev zuc57_84 (a : DF) (a1 : RS) (a2 : RS) : Prop := zuc57_0 /\ zuc57_1 a /\ zuc57_2 a /\ zuc57_3 a /\ zuc57_1 a /\ zuc57_4 a /\ a.at' = a.at' /\ a1.r.ag = a2.r.ag /\ BA = BA /\ zuc57_15 a1 a2 /\ zuc57_16 a1 a2 /\ zuc57_17 a1
 a2 /\ zuc57_83 a1 a2 a
abbrev zuc57_85 (a : DF) (a1 : RS) (l : Nat) (a2 : RS) (a3 : RS) : Bool := (zuc57_77 a a1).to == (↑(zuc57_72 a l a2 a3) : Int)
abbrev zuc57_86 (a : DF) (a1 : RS) (l : Nat) (a2 : RS) (a3 : RS) : Bool := if true = true then zuc57_85 a a1 l a2 a3 else !zuc57_85 a a1 l a2 a3
abbrev zuc57_87 (a : RS) (a1 : DF) (a2 : RS) : Prop := a.r.ag = zuc57_47 a1 a2
abbrev zuc57_88 (a : RS) (a1 : DF) (a2 : RS) : Prop := ∀ (n : Int), (a.r.m.at n).isSome = zuc57_49 a1 a2 n
abbrev zuc57_89 (a : RS) (a1 : DF) (a2 : RS) : Prop := ∀ (n : Int), a.r.st n = zuc57_50 a1 a2 n
abbrev zuc57_90 (a : RS) (a1 : DF) (a2 : RS) : Prop := ∀ (n : Int), (a.r.m.far n).cost = zuc57_52 a1 a2 n /\ (a.r.m.far n).many = zuc57_53 a1 a2 n /\ (a.r.m.far n).by'.way = zuc57_55 a1 a2 n /\ (a.r.m.far n).by'.back =
 zuc57_56 a1 a2 n
abbrev zuc57_91 (l : Nat) (a : DF) (a1 : RS) (a2 : RS) : Prop := zuc57_69 l a a1 a2 = zuc57_69 l a a1 a2
abbrev zuc57_92 (a : DF) (l : Nat) (a1 : RS) (a2 : RS) (a3 : RS) (a4 : RS) : Prop := (↑(zuc57_72 a l a1 a2) : Int) = (↑(zuc57_72 a l a1 a2) : Int) /\ a3.h.cost = a4.h.cost /\ a3.h.many = a4.h.many /\ zuc57_81 a3 a4 /\
 zuc57_82 a3 a4
abbrev zuc57_93 (a : DF) (l : Nat) (a1 : RS) (a2 : RS) (a3 : RS) : Nat := (UF a.d (RF a.d a.at') (zuc57_10 a) (zuc57_67 l a a1 a2)).meas a3
abbrev zuc57_94 (a : RS) (a1 : DF) (l : Nat) (a2 : RS) (a3 : RS) (a4 : RS) : Prop := zuc57_74 a a1 l a2 a3 /\ zuc57_93 a1 l a2 a3 a < zuc57_93 a1 l a2 a3 a4
abbrev zuc57_95 (l : Nat) (a : DF) (a1 : RS) (a2 : RS) (a3 : RS) (a4 : RS) : Prop := ∃ (a_1 : RS), (zuc57_91 l a a1 a2 /\ zuc57_0 /\ zuc57_1 a /\ zuc57_70 a /\ zuc57_25 a_1 a3 /\ zuc57_0 /\ zuc57_1 a /\ zuc57_2 a /\ zuc57_3 a /\
 zuc57_1 a /\ zuc57_4 a /\ a.at' = a.at' /\ zuc57_87 a_1 a a4 /\ BA = BA /\ zuc57_88 a_1 a a4 /\ zuc57_89 a_1 a a4 /\ zuc57_90 a_1 a a4 /\ zuc57_92 a l a1 a2 a_1 a4) /\ zuc57_94 a_1 a l a1 a2 a3
abbrev zuc57_96 (a : DF) : RT := HK a.d (RF a.d a.at').counts a.fr
abbrev zuc57_97 (a : DF) : Map := (zuc57_96 a).m
abbrev zuc57_98 (a : DF) (n : Int) : Far := (zuc57_97 a).far n
abbrev zuc57_99 (a : DF) (n : Int) : Step := (zuc57_98 a n).by'
theorem uc57 (a : DF) : (U57 a) = ((∃ (a_1 : RS), (zuc57_0 /\ zuc57_1 a /\ zuc57_2 a /\ zuc57_3 a /\ zuc57_1 a /\ zuc57_4 a /\ a.at' = a.at' /\ a_1.r.ag = true /\ BA = zuc57_5 /\ (∀ (n : Int), (a_1.r.m.at n).isSome = EE (fun
 (x : Int) => false) a.fr n) /\ (∀ (n : Int), a_1.r.st n = stUp (λ (x : Int) => false) (λ (x : Int) => 0) a.fr n) /\ ∀ (n : Int), (a_1.r.m.far n).cost = zuc57_7 n a /\ (a_1.r.m.far n).many = zuc57_7 n a /\ (a_1.r.m.far
 n).by'.way = zuc57_7 n a /\ (a_1.r.m.far n).by'.back = bif zuc57_6 n a then false else false) /\ zuc57_12 a_1 a) /\ ∀ (a_1 : RS), zuc57_12 a_1 a -> bif a_1.r.ag then (∃ (a_3 : RS), (zuc57_13 a = IntKind.i64.wrap (zuc57_13 a)
 /\ zuc57_14 a_3 /\ zuc57_0 /\ zuc57_1 a /\ zuc57_2 a /\ zuc57_3 a /\ zuc57_1 a /\ zuc57_4 a /\ a.at' = a.at' /\ a_3.r.ag = false /\ zuc57_18 a_3 a_1) /\ zuc57_22 a_3 a a_1) /\ ∀ (a_3 : RS), zuc57_22 a_3 a a_1 -> bif decide ((↑a_3.p :
 Int) < zuc57_13 a) then zuc57_23 /\ bif !(a_3.r.m.at (↑a_3.p : Int)).isSome then ∃ (a_5 : RS), (zuc57_24 a /\ zuc57_25 a_5 a_3 /\ zuc57_26 a a_5 a_3) /\ zuc57_28 a_5 a a_1 a_3 else ((↑a_3.p : Int) = (↑a_3.p : Int) /\ zuc57_0
 /\ zuc57_31 a /\ zuc57_2 a /\ zuc57_3 a /\ zuc57_31 a /\ zuc57_39 a /\ zuc57_0 /\ zuc57_40 a /\ zuc57_2 a /\ zuc57_3 a /\ zuc57_40 a /\ zuc57_41 a) /\ (∀ (a_5 : RS), zuc57_43 a_5 a -> true = true /\ (a_5.s.way = a_5.s.way /\ a_5.s.back
 = a_5.s.back /\ zuc57_0 /\ zuc57_31 a /\ zuc57_2 a /\ zuc57_3 a /\ zuc57_31 a /\ zuc57_39 a /\ a.at' = a.at' /\ zuc57_0 /\ zuc57_40 a /\ zuc57_2 a /\ zuc57_3 a /\ zuc57_40 a /\ zuc57_41 a /\ a.at' = a.at' /\ zuc57_44 a_5 a) /\ bif
 !BP (zuc57_45 a) a.at' a_5.s then zuc57_58 a a_5 else (a_5.s.way = a_5.s.way /\ a_5.s.back = a_5.s.back /\ zuc57_0 /\ zuc57_31 a /\ zuc57_2 a /\ zuc57_3 a /\ zuc57_31 a /\ zuc57_39 a /\ zuc57_0 /\ zuc57_40 a /\ zuc57_2 a /\
 zuc57_3 a /\ zuc57_40 a /\ zuc57_41 a /\ zuc57_44 a_5 a) /\ (a_5.s.way = a_5.s.way /\ a_5.s.back = a_5.s.back /\ zuc57_0 /\ zuc57_31 a /\ zuc57_2 a /\ zuc57_3 a /\ zuc57_31 a /\ zuc57_39 a /\ zuc57_0 /\ zuc57_40 a /\ zuc57_2 a /\
 zuc57_3 a /\ zuc57_40 a /\ zuc57_41 a /\ zuc57_44 a_5 a /\ zuc57_23) /\ bif bif bif !(a_5.r.m.at (zuc57_59 a a_5)).isSome then true else decide (zuc57_60 a_5 a < zuc57_62 a_5 a) then true else bif zuc57_60 a_5 a == zuc57_62
 a_5 a then decide (zuc57_63 a_5 < zuc57_64 a_5 a) else false then (a_5.s.way = a_5.s.way /\ a_5.s.back = a_5.s.back /\ zuc57_0 /\ zuc57_31 a /\ zuc57_2 a /\ zuc57_3 a /\ zuc57_31 a /\ zuc57_39 a /\ zuc57_0 /\ zuc57_40 a /\ zuc57_2
 a /\ zuc57_3 a /\ zuc57_40 a /\ zuc57_41 a /\ zuc57_44 a_5 a /\ zuc57_23 /\ EE (λ (z : Int) => (a_5.r.m.at z).isSome) (zuc57_59 a a_5) (zuc57_59 a a_5) = true /\ a_5.r.st (zuc57_59 a a_5) = stUp (λ (z : Int) =>
 (a_5.r.m.at z).isSome) a_5.r.st (zuc57_59 a a_5) (zuc57_59 a a_5)) /\ zuc57_0 /\ zuc57_1 a /\ zuc57_2 a /\ zuc57_3 a /\ zuc57_1 a /\ zuc57_4 a /\ a.at' = a.at' /\ zuc57_47 a a_5 = true /\ BA = BA /\ (∀ (n : Int), zuc57_49 a
 a_5 n = EE (λ (z : Int) => (a_5.r.m.at z).isSome) (zuc57_59 a a_5) n) /\ (∀ (n : Int), zuc57_50 a a_5 n = stUp (λ (z : Int) => (a_5.r.m.at z).isSome) a_5.r.st (zuc57_59 a a_5) n) /\ (∀ (n : Int), (zuc57_52 a a_5 n =
 bif zuc57_65 n a a_5 then zuc57_60 a_5 a else bif zuc57_65 n a a_5 then zuc57_62 a_5 a else (a_5.r.m.far n).cost) /\ (zuc57_53 a a_5 n = bif zuc57_65 n a a_5 then zuc57_63 a_5 else bif zuc57_65 n a a_5 then zuc57_64 a_5 a
 else (a_5.r.m.far n).many) /\ (zuc57_55 a a_5 n = bif zuc57_65 n a a_5 then a_5.s.way else bif zuc57_65 n a a_5 then (zuc57_66 a_5 a).way else (a_5.r.m.far n).by'.way) /\ zuc57_56 a a_5 n = bif zuc57_65 n a a_5 then
 a_5.s.back else bif zuc57_65 n a a_5 then (zuc57_66 a_5 a).back else (a_5.r.m.far n).by'.back) /\ zuc57_57 a_5 else zuc57_58 a a_5) /\ ∀ (l : Nat), (∃ (a_5 : RS), (zuc57_69 l a a_1 a_3 = Fn.yield l /\ zuc57_0 /\ zuc57_1 a /\
 zuc57_70 a /\ zuc57_14 a_5 /\ zuc57_0 /\ zuc57_1 a /\ zuc57_2 a /\ zuc57_3 a /\ zuc57_1 a /\ zuc57_4 a /\ a.at' = a.at' /\ a_5.r.ag = a_3.r.ag /\ BA = BA /\ zuc57_15 a_5 a_3 /\ zuc57_16 a_5 a_3 /\ zuc57_17 a_5 a_3 /\ (↑(zuc57_72 a
 l a_1 a_3) : Int) = (↑a_3.p : Int) /\ a_5.h.cost = (a_3.r.m.far (↑a_3.p : Int)).cost /\ a_5.h.many = (a_3.r.m.far (↑a_3.p : Int)).many /\ a_5.h.by'.way = (zuc57_73 a_3).way /\ a_5.h.by'.back = (zuc57_73 a_3).back) /\ zuc57_74
 a_5 a l a_1 a_3) /\ ∀ (a_5 : RS), zuc57_74 a_5 a l a_1 a_3 -> bif decide (zuc57_75 a_5 a) then (0 <= (↑a_5.p : Int) /\ zuc57_75 a_5 a) /\ (zuc57_76 a_5).succ.le a.d.all.length /\ bif if true = true then zuc57_78 a a_5 l a_1
 a_3 else !zuc57_78 a a_5 l a_1 a_3 then zuc57_79 l a a_1 a_3 /\ ∃ (a_7 : RS), (zuc57_80 a_7 a_5 /\ a_7.s.back = false /\ zuc57_84 a a_7 a_5) /\ bif zuc57_86 a a_5 l a_1 a_3 then zuc57_79 l a a_1 a_3 /\ ∃ (a_8 : RS), (zuc57_80
 a_8 a_5 /\ a_8.s.back = true /\ zuc57_0 /\ zuc57_1 a /\ zuc57_2 a /\ zuc57_3 a /\ zuc57_1 a /\ zuc57_4 a /\ a.at' = a.at' /\ zuc57_87 a_8 a a_7 /\ BA = BA /\ zuc57_88 a_8 a a_7 /\ zuc57_89 a_8 a a_7 /\ zuc57_90 a_8 a a_7 /\
 zuc57_83 a_8 a_7 a) /\ zuc57_95 l a a_1 a_3 a_5 a_8 else zuc57_95 l a a_1 a_3 a_5 a_7 else bif zuc57_86 a a_5 l a_1 a_3 then zuc57_79 l a a_1 a_3 /\ ∃ (a_7 : RS), (zuc57_80 a_7 a_5 /\ a_7.s.back = true /\ zuc57_84 a a_7 a_5)
 /\ zuc57_95 l a a_1 a_3 a_5 a_7 else ∃ (a_7 : RS), (zuc57_91 l a a_1 a_3 /\ zuc57_0 /\ zuc57_1 a /\ zuc57_70 a /\ zuc57_25 a_7 a_5 /\ zuc57_0 /\ zuc57_1 a /\ zuc57_2 a /\ zuc57_3 a /\ zuc57_1 a /\ zuc57_4 a /\ a.at' = a.at' /\
 a_7.r.ag = a_5.r.ag /\ BA = BA /\ zuc57_15 a_7 a_5 /\ zuc57_16 a_7 a_5 /\ zuc57_17 a_7 a_5 /\ zuc57_92 a l a_1 a_3 a_7 a_5) /\ zuc57_94 a_7 a l a_1 a_3 a_5 else ∃ (a_7 : RS), (zuc57_24 a /\ zuc57_25 a_7 a_3 /\ zuc57_26 a a_7
 a_5) /\ zuc57_28 a_7 a a_1 a_3 else ∃ (a_5 : RS), zuc57_26 a a_5 a_3 /\ zuc57_12 a_5 a /\ zuc57_20 a a_5 < zuc57_20 a a_1 else zuc57_0 /\ zuc57_1 a /\ zuc57_2 a /\ zuc57_3 a /\ zuc57_1 a /\ zuc57_4 a /\ a.at' = a.at' /\ BA =
 BA /\ (∀ (n : Int), ((zuc57_97 a).at n).isSome = (a_1.r.m.at n).isSome) /\ (∀ (n : Int), (zuc57_96 a).st n = a_1.r.st n) /\ ∀ (n : Int), (zuc57_98 a n).cost = (a_1.r.m.far n).cost /\ (zuc57_98 a n).many = (a_1.r.m.far
 n).many /\ (zuc57_99 a n).way = (a_1.r.m.far n).by'.way /\ (zuc57_99 a n).back = (a_1.r.m.far n).by'.back) := by kernel_rfl
theorem LT (d : Desk) (R : Rule) (rf : RT) (s : RS) : (PM d R rf).meas s = s.k := rfl
theorem NV (d : Desk) (R : Rule) (rf : RT) (gs : List Nat) (s : RS) : (UY d R rf gs).meas s = d.out + 2 - s.p := rfl
theorem NK (d : Desk) (R : Rule) (rf : RT) (gs : List Nat) (s : RS) : (UF d R rf gs).meas s = d.all.length - s.p := rfl
theorem GU (d : Desk) (c : Step -> Bool) (h : Far) (r : RT) (s : Step) : (DN d c h r s).m.length = r.m.length := by
 unfold DN; split
 ·simp only; split
  ·simp
  ·split <;> simp
 ·rfl
theorem YB {m : Map} {z : Int} {f : Far} (h : m.at z = some f) : m.far z = f := by simp [Map.far, h]
def JI (m : Map) (t nc nm : Int) : Bool := bif bif !(m.at t).isSome then true else decide (nc < (m.far t).cost) then true else bif nc == (m.far t).cost then decide (nm < (m.far t).many) else false
theorem MJ {d : Desk} {c : Step -> Bool} {h : Far} {r : RT} {s : Step} (hc : c s = true) : DN d c h r s =
  if JI r.m (DB d s) (wr (h.cost + (AV (BW d.all s.way) s.back).1)) (wr (h.many + 1)) then ⟨r.m.set (DB d s).toNat (some ⟨wr (h.cost + (AV (BW d.all s.way) s.back).1), wr (h.many + 1), s⟩), true, Sym.stUp (λ z => (r.m.at z).isSome) r.st (DB d s)⟩ else r := by
 unfold DN JI
 rw [if_pos hc]
 simp only
 cases hq : r.m.at (DB d s) with
 | none => simp
 | some was =>
  simp only [YB hq, Option.isSome_some, Bool.not_true, cond_false, better]
  generalize wr (h.cost + (AV (BW d.all s.way) s.back).1) = x
  generalize wr (h.many + 1) = y
  by_cases h1 : x < was.cost
  ·simp [h1]
  ·by_cases h2 : x = was.cost
   ·subst h2; simp
   ·simp [h1, h2]
theorem In {d : Desk} (h : d.ok) {s : Step} (hs : 0 <= s.way /\ s.way < d.all.length) : 0 <= DB d s /\ DB d s < d.out + 2 := by
 obtain ⟨h1, h2⟩ := h.ends s.way.toNat (by omega)
 unfold DB BW
 cases s.back
 ·exact h2
 ·exact h1
theorem OF (d : Desk) (c : Step -> Bool) (h : Far) (p : Int) {i : Nat} (hi : d.all.length <= i) (r : RT) : CG d c h p (d.all.drop i) i r = r := by
 rw [List.drop_eq_nil_of_le hi]; rfl
theorem DC (d : Desk) (c : Step -> Bool) (h : Far) (p : Int) {i : Nat} (hi : i < d.all.length) (r : RT) : CG d c h p (d.all.drop i) i r =
  CG d c h p (d.all.drop (i + 1)) (i + 1) (let r := if (gD d.all i).fr = p then DN d c h r ⟨i, false⟩ else r; if (gD d.all i).to = p then DN d c h r ⟨i, true⟩ else r) := by
 rw [DX hi]; rfl
theorem Hu {a : Nat} (h : a < 9223372036854775806) : IntKind.i64.wrap ((a : Int) + 2) = ((a + 2 : Nat) : Int) := by
 rw [OT (by omega) (by omega)]; rfl
theorem SH {d : Desk} {c : Step -> Bool} {k : Nat} {r rf : RT} (hr : r.ag = true) (h : CK d c k r = some rf) : ∃ k', k = k' + 1 /\ CK d c k' (AU d c (d.out + 2) 0 { r with ag := false }) = some rf := by
 unfold CK at h
 rw [if_pos hr] at h
 cases k with
 | zero => cases h
 | succ k => exact ⟨k, rfl, h⟩
theorem JS {d : Desk} {c : Step -> Bool} {n p : Nat} {r : RT} (h : r.m.at p = none) : AU d c (n + 1) p r = AU d c n (p + 1) r := by simp [AU, h]
theorem JR {d : Desk} {c : Step -> Bool} {n p : Nat} {r : RT} {f : Far} (h : r.m.at p = some f) : AU d c (n + 1) p r = AU d c n (p + 1) (CG d c f p d.all 0 r) := by simp [AU, h]
end Go.Bal
