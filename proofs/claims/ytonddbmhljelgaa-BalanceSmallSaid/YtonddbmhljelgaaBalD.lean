/- Package balance: how far places are. -/
import Derived.Test.YtonddbmhljelgaaBalB
import Derived.Test.YtonddbmhljelgaaBalT1
set_option linter.unusedVariables false
set_option linter.unusedSimpArgs false
namespace Go.Bal
open Go Go.Sym Go.Proofs
def V93 (s : Step) : Prop := BN Try.prog (ann 3 []) Try.f93 (AF Try.f93) [.d (hJ s)] (AD []) (.bool true) [] [] []
abbrev VS:=QS Hi
attribute [go_sem] VS
theorem vc93 (s : Step) : (V93 s) = (VS) := by kernel_rfl
def f93 : List AVal -> Option (AVal × List Prop)
 | [.d (.agg [.v (.int .i64 a), .v (.bool b)])] => some (.bool true, [])
 | _ => none
def s93 := IY f93
theorem ok93 : AH Try.prog 93 s93 := EH λ xs v p h _ => by
 unfold f93 at h; split at h
 ·cases h; exact Pb (A := ann 3 []) (ren := []) (fz := []) Try.func93 (by kernel_rfl) AE (by show V93 ⟨_, _⟩; rw [vc93]<;> simp only [go_sem])
 ·cases h
def V58 (s : Step) : Prop := BN Try.prog (ann 3 []) Try.f58 (AF Try.f58) [.d (hJ s)] (AD []) (.bool true) [] [] []
theorem vc58 (s : Step) : (V58 s) = (VS) := by kernel_rfl
def f58 : List AVal -> Option (AVal × List Prop)
 | [.d (.agg [.v (.int .i64 a), .v (.bool b)])] => some (.bool true, [])
 | _ => none
def s58 := IY f58
theorem ok58 : AH Try.prog 58 s58 := EH λ xs v p h _ => by
 unfold f58 at h; split at h
 ·cases h; exact Pb (A := ann 3 []) (ren := []) (fz := []) Try.func58 (by kernel_rfl) AE (by show V58 ⟨_, _⟩; rw [vc58]<;> simp only [go_sem])
 ·cases h
structure DAS where
 d : Desk
 at' : Int
 s : Step
def A101 : Ann := { ann 27 [(85, C85.spec dDS)] with E := [100, 101, 102, 103] }
def C101 : Ctr := { ro := [100, 101, 102, 103], α := DAS, xs := λ a => [.d (hJ a.s), .bptr 102 0, .bptr 103 0], L := λ a => Kv a.d ++ [(102, .box [.bptr 100 0]), (103, .box [.int a.at'])], val := λ a => .bool (EM a.d a.at' a.s), keep := λ a => Le a.d ++ [(102, .live (.box [.bptr 100 0])), (103, .live (.box [.int a.at']))], pre := λ a => [0 <= a.s.way /\ a.s.way < a.d.all.length] }
def d101 : List AVal -> Heap -> Option (DAS × List (Nat × Nat) × List Nat)
 | [.d s, .bptr p _, .bptr q _], H => match H p, H q with
  | .live (.box [.bptr id _]), .live (.box [.d (.v (.int _ m))]) => match Do H id with
   | some (d, r) => some (⟨d, m, qV s⟩, [(100, id), (101, r), (102, p), (103, q)], [])
   | none => none
  | _, _ => none
 | _, _ => none
def V101 (a : DAS) : Prop := BN Try.prog A101 Try.f101 (AF Try.f101) (C101.xs a) (AD (C101.L a)) (C101.val a) (C101.keep a) [] []
abbrev hd85:=DAS.s
abbrev Ln:=DAS.d
abbrev hd89:=DAS.at'
abbrev Bz:=@BEq.beq Int (@instBEqOfDecidableEq Int Int.instDecidableEq)
abbrev E6:=@BEq.beq Bool (@instBEqOfDecidableEq Bool instDecidableEqBool)
abbrev IW a b c d e f g h p:=BG a b c d (BG e f g h p)
abbrev Mo a b c:=KT (KT a b) c
abbrev F6 a b c:=and a (and b c)
abbrev ATB a b:=F6 a b Hi
abbrev W3 a b c:=ATB (Bz a b) c
abbrev rX a:=pO (hd85 a)
abbrev KS a:=Bz a 0
abbrev BAV a (b:Nat->Way):=(@NO Way) (ZT a) b
abbrev AXQ a b:=BAV (xM a) (λ i=>EY b i)
abbrev qI a:=AXQ a a
abbrev PD a b c d:=AP (AR a) b c d
abbrev AQX a b c d e f g h:=IW a b c d e c f g h
abbrev AOY a b c d e (f:Nat->Prop) g h:=AQX a b c d e (AG f) g h
abbrev Ao a b c (d:Nat->Prop) e f:=AOY a AC b (OT c) (SX c) d e f
abbrev AMJ (a:Nat->Prop) b c (d:Nat->Prop) e f:=Ao (AG a) b c d e f
abbrev Py a b:=ED (FQ a) b
abbrev RG a:=ZT (qI a)
abbrev J9 a:=Py a (RG a)
abbrev UG a:=LH (qI a) a
abbrev YW a (b:Nat->Prop) (c:Nat->Prop) d e:=VO (UG a) a (AMJ b (J9 a) a c d e)
abbrev NX a b:=tW a (BT b)
abbrev WA a b:=MF a (Ok b)
abbrev ASK a b c d e f g h:=AIT a b c d e (WA f g) h
abbrev RY a b:=MB a (Ou b)
abbrev AME a b c d e f g h:=ASK a b c (AS d e) (RY f g) f g h
abbrev TQ a b c d e f g h p:=AME a b c d e f g (ANW h (Xb p))
abbrev KV a b c d e f g h p:=TQ a (FQ b) c d e f g h p
abbrev IT a b:=QN (qI a) b
abbrev JU a b:=IS (qI a) b
abbrev EN a b:=pQ (IT a b)
abbrev ZJ a b c:=AS (Lf a b) c
abbrev vM a b:=hd55 (IT a b)
abbrev MO a b:=ZJ a b (vM a b)
abbrev GZ a b c d e f g h p:=TQ a (RG b) c d e f g h p
abbrev GU a b:=AS (vM a b) (Lf a b)
abbrev ABV a:=QS (pR a)
attribute [go_sem] hd85 Ln hd89 Bz E6 IW Mo F6 ATB W3 rX KS BAV AXQ qI PD AQX AOY Ao AMJ Py RG J9 UG YW NX WA ASK RY AME TQ KV IT JU EN ZJ vM MO GZ GU ABV
theorem BPJ (a : DAS) : (V101 a) = (IW (PD (rX a) (ABV (hd85 a)) AC (YW (Ln a) (λ i=>GZ i (Ln a) (GU (Ln a) i) (EN (Ln a) i) (FG (Ln a) i) (JU (Ln a) i) (FJ (Ln a) i) (IT (Ln a) i) (EY (Ln a) i)) (λ i=>KV i (Ln a) (MO (Ln a) i) (FG (Ln a) i) (EN (Ln a) i) (FJ (Ln a) i) (JU (Ln a) i) (EY (Ln a) i) (IT (Ln a) i)) (IV (rX a)) (NX (rX a) (RG (Ln a))))) (Gq (EM (Ln a) (hd89 a) (hd85 a)) (Mo (KS (eN (qI (Ln a)) (rX a) (pR (hd85 a)))) (not (W3 (rX a) (hd89 a) (E6 (pR (hd85 a)) Hi))) (not (W3 (rX a) (hd89 a) (E6 (pR (hd85 a)) hd5))))) AC (WL (Ln a)) (OT (Ln a)) (SX (Ln a)) (WL (Ln a)) (rN (Ln a)) (AR (hd89 a))) := by kernel_rfl
theorem p101 (a : DAS) (h : 0 <= a.s.way /\ a.s.way < a.d.all.length) : V101 a := by
 rw [BPJ]<;> simp only [go_sem]; simp only [CC, eq_self, implies_true, forall_const]
 refine ⟨h, ?_⟩
 obtain ⟨d, q, w, b⟩ := a
 unfold EM
 cases b <;> by_cases h1 : w = q <;> by_cases h2 : (BO (EW d.all w) true).1 = 0 <;> by_cases h3 : (BO (EW d.all w) false).1 = 0 <;> simp [h1, h2, h3] <;> simp_all
theorem BPI : AH Try.prog 101 (C101.spec d101) := UY C101 (λ _ => A101) [] [] Try.func101 (λ _ => by kernel_rfl) (λ _ => AA ok85 AE) p101 (λ _ => WR rfl rfl) _
structure DP where
 d : Desk
 p : Int
def A86 : Ann := { ann 6 [] with E := [100, 101] }
def C86 : Ctr := { ro := [100, 101], α := DP, xs := λ a => [.bptr 100 0, .int a.p], L := λ a => Kv a.d, val := λ a => .fn (.func 106) [] [.bptr 0 0, .bptr 1 0], keep := λ a => Le a.d ++ [(0, .live (.box [.bptr 100 0])), (1, .live (.box [.int a.p]))] }
def d86 : List AVal -> Heap -> Option (DP × List (Nat × Nat) × List Nat)
 | [.bptr id _, .d (.v (.int _ p))], H => match Do H id with
  | some (d, r) => some (⟨d, p⟩, [(100, id), (101, r)], [])
  | none => none
 | _, _ => none
def V86 (a : DP) : Prop := BN Try.prog A86 Try.f86 (AF Try.f86) (C86.xs a) (AD (C86.L a)) (C86.val a) (C86.keep a) [(0, 1000), (1, 1016)] []
abbrev vD a b:=AJ AC a b
attribute [go_sem] vD
theorem vc86 (a : DP) : (V86 a) = (vD (WL (DP.d a)) (Jq (OT (DP.d a)) (DP.d a) (WL (DP.d a)) (λ i=>jT i (DP.d a)) (AR (DP.p a)))) := by kernel_rfl
theorem p86 (a : DP) : V86 a := by rw [vc86]<;> simp only [go_sem]; simp only [CC, eq_self, implies_true, forall_const]
theorem ok86 : AH Try.prog 86 (C86.spec d86) := UY C86 (λ _ => A86) [(0, 1000), (1, 1016)] [] Try.func86 (λ _ => by kernel_rfl) (λ _ => AE) (λ a _ => p86 a) (λ _ => WR rfl rfl) _
def GJ : Value := .agg #[.int .i64 0, .int .i64 0, .int .i64 0, .bool false]
def mapO (m : Map) (st : Int -> Int) : AObj := .imap .i64 GJ (λ z => (m.at z).isSome) (λ z => eFar (m.far z)) st none
structure Rule where
 v : AVal
 X : List (Nat × AObj)
 counts : Step -> Bool
structure RS where
 r : RT
 k : Nat
 p : Nat
 h : Far
 s : Step
 deriving Inhabited
def AGK (d : Desk) (R : Rule) (s : RS) : List (Nat × AObj) :=
 Kv d ++ R.X ++ [(300, .box [.bptr 100 0]), (301, .box [R.v]), (302, .box [.mref 305]), (303, .box [.fn (.func 85) [.bptr 100 0] []]), (304, .box [.bool s.r.ag]), (305, mapO s.r.m s.r.st)]
def BGT : List (Nat × AVal) := [(3, .bptr 300 0), (5, .bptr 301 0), (7, .bptr 302 0), (8, .bptr 303 0), (9, .bptr 304 0)]
def Uw (l : List (Nat × AObj)) : List (Nat × HCell) := l.map λ x => (x.1, .live x.2)
def farO (h : Far) : AObj := .box [.int h.cost, .int h.many, .int h.by'.way, .bool h.by'.back]
def HN (d : Desk) (counts : Step -> Bool) (k : Nat) (r : RT) : Option RT := if r.ag then V2 d counts k r else some r
def kB (d : Desk) (R : Rule) (rf : RT) : Shape := { α := RS, dflt := default, T := λ s => ⟨BGT, Uw (AGK d R s)⟩, inv := λ s => s.r.m.length = d.out + 2 /\ HN d R.counts s.k s.r = some rf, meas := λ s => s.k, first := [(300, 1000), (301, 1016), (302, 2080), (303, 3032), (304, 4000), (305, 2000)], again := [(304, 22000)] }
def A6 (d : Desk) (R : Rule) (rf : RT) (gs : List Nat) : Shape := { α := RS, dflt := default, T := λ s => ⟨BGT ++ [(31, .int (d.out + 2)), (32, .int s.p)], Uw (AGK d R s)⟩, inv := λ s => s.r.m.length = d.out + 2 /\ s.p <= d.out + 2 /\ s.k + 1 = gs.headD 0 /\ HN d R.counts s.k (BK d R.counts (d.out + 2 - s.p) s.p s.r) = some rf, meas := λ s => d.out + 2 - s.p }
def wF (d : Desk) (R : Rule) (rf : RT) (gs : List Nat) : Shape := { α := RS, dflt := default, T := λ s => ⟨[(0, .fn (.yield (gs.headD 0)) [] []), (2, .bptr 307 0), (10, .own 101 5 0 d.all.length), (11, .int d.all.length), (12, .int s.p)], Uw (AGK d R s ++ [(307, .box [.int ((d.out + 2 - (gs.getD 1 0) : Nat) : Int)]), (10096, farO s.h)])⟩, inv := λ s => s.r.m.length = d.out + 2 /\ s.p <= d.all.length /\ s.k + 1 = gs.getD 2 0 /\ HN d R.counts s.k (BK d R.counts (gs.getD 1 0 - 1) (d.out + 2 - gs.getD 1 0 + 1) (HK d R.counts s.h ((d.out + 2 - (gs.getD 1 0) : Nat) : Int) (d.all.drop s.p) s.p s.r)) = some rf, meas := λ s => d.all.length - s.p, first := [(307, 12033)] }
def DA (d : Desk) (R : Rule) (a : RS) : RS := { a with r := LS d R.counts a.h a.r a.s }
def BOQ (d : Desk) (R : Rule) : Ctr := { α := RS, xs := λ a => [.d (hJ a.s)], L := λ a => AGK d R a ++ [(10096, farO a.h)], val := λ _ => .bool true, keep := λ a => Uw (AGK d R (DA d R a) ++ [(10096, farO a.h)]), pre := λ a => [(0 <= a.s.way /\ a.s.way < d.all.length) /\ a.r.m.length = d.out + 2] }
def BMI (fn : Func) (d : Desk) (R : Rule) (rf : RT) : IterAnn := { fn := fn, code := AF fn, live := [3, 5, 7, 8, 9, 11, 31, 32], round := some ⟨BOQ d R⟩, ann := { base := λ id => 100000 + 1000 * id, Γ := Sym.look [], E := [100, 101, 300, 301, 302, 303, 304, 305, 10096] ++ R.X.map (·.1), n := 42, inner := λ gs id => if id = 1 then some [wF d R rf gs] else none } }
def A57 (fn : Func) (d : Desk) (R : Rule) (rf : RT) (g : FuncId) (s : Sym.Spec) : Ann := { ann 108 [(85, C85.spec dDS), (86, C86.spec d86), (87, C87.spec dDS), (g, s)] with E := [100, 101] ++ R.X.map (·.1), inner := λ gs id => if id = 4 then some [kB d R rf] else if id = 7 then some [A6 d R rf gs] else none, iter := λ g => if g = 106 then some (BMI fn d R rf) else none }
structure DF where
 d : Desk
 fr : Int
 at' : Int
def RA : Rule := ⟨.fn (.func 93) [] [], [], any⟩
def RL : Rule := ⟨.fn (.func 58) [] [], [], any⟩
def RF (d : Desk) (at' : Int) : Rule := ⟨.fn (.func 101) [] [.bptr 102 0, .bptr 103 0], [(102, .box [.bptr 100 0]), (103, .box [.int at'])], EM d at'⟩
def Aj (d : Desk) (counts : Step -> Bool) (fr : Int) : RT := (NP d counts fr).getD default
def C57 (R : DF -> Rule) : Ctr := { ro := [100, 101] ++ (R ⟨default, 0, 0⟩).X.map (·.1), α := DF, xs := λ a => [.bptr 100 0, .int a.fr, .agg [(R a).v]], L := λ a => Kv a.d ++ (R a).X, val := λ _ => .mref 0, keep := λ a => Uw (Kv a.d ++ (R a).X) ++ [(0, .live (mapO (Aj a.d (R a).counts a.fr).m (Aj a.d (R a).counts a.fr).st))], pre := λ a => [a.d.ok, 0 <= a.fr /\ a.fr < a.d.out + 2, (NP a.d (R a).counts a.fr).isSome = true] }
def V57 (a : DF) : Prop := BN Try.prog (A57 Try.f106 a.d RA (Aj a.d any a.fr) 93 s93) Try.f57 (AF Try.f57) ((C57 λ _ => RA).xs a) (AD ((C57 λ _ => RA).L a)) ((C57 λ _ => RA).val a) ((C57 λ _ => RA).keep a) [(0, 305)] []
theorem vc57 (a : DF) : (V57 a) = (let q := a
 let y0 := 0 = 0
 let y1 := q.d.all.length = q.d.all.length
 let y2 := (↑q.d.out : Int) = (↑q.d.out : Int)
 let y3 := (↑q.d.nR : Int) = (↑q.d.nR : Int)
 let y4 := ∀ (i : Nat), i < q.d.all.length -> (gD q.d.all i).fr = (gD q.d.all i).fr /\ (gD q.d.all i).to = (gD q.d.all i).to /\ (gD q.d.all i).sp.lo = (gD q.d.all i).sp.lo /\ (gD q.d.all i).sp.hi = (gD q.d.all i).sp.hi /\ (gD q.d.all i).now = (gD q.d.all i).now
 let y5 : Value := Value.agg #[Value.int IntKind.i64 0, Value.int IntKind.i64 0, Value.int IntKind.i64 0, Value.bool false]
 let y6 (n : Int) := decide (n = q.fr)
 let y7 (n : Int) := bif y6 n then 0 else 0
 let y8 := q.d.out + 2
 let y9 (a : RS) := List.length a.r.m = y8
 let y10 (a : RS) := y9 a /\ HN q.d RA.counts a.k a.r = some (Aj q.d any q.fr)
 let y11 := (↑q.d.out : Int) + 2
 let y12 (a : RS) := (↑a.p : Int) = 0
 let y13 (a : RS) (a1 : RS) := ∀ (n : Int), (a.r.m.at n).isSome = (a1.r.m.at n).isSome
 let y14 (a : RS) (a1 : RS) := ∀ (n : Int), a.r.st n = a1.r.st n
 let y15 (a : RS) (a1 : RS) := ∀ (n : Int), (a.r.m.far n).cost = (a1.r.m.far n).cost /\ (a.r.m.far n).many = (a1.r.m.far n).many /\ (a.r.m.far n).by'.way = (a1.r.m.far n).by'.way /\ (a.r.m.far n).by'.back = (a1.r.m.far n).by'.back
 let y16 (a : RS) (a1 : RS) := GJ = GJ /\ y13 a a1 /\ y14 a a1 /\ y15 a a1
 let y17 (a : RS) := a.k + 1
 let y18 (a1 : RS) := (kB q.d RA (Aj q.d any q.fr)).meas a1
 let y19 (a1 : RS) : List Nat := [y18 a1]
 let y20 (a : RS) (a2 : RS) := y9 a /\ a.p <= y8 /\ y17 a = (y19 a2).headD 0 /\ HN q.d RA.counts a.k (BK q.d RA.counts (y8 - a.p) a.p a.r) = some (Aj q.d any q.fr)
 let y21 := y5 = GJ
 let y22 := y11 = y11
 let y23 (a : RS) (a1 : RS) := (↑a.p : Int) = IntKind.i64.wrap ((↑a1.p : Int) + 1)
 let y24 (a1 : RS) (a2 : RS) := y0 /\ y1 /\ y2 /\ y3 /\ y1 /\ y4 /\ a1.r.ag = a2.r.ag /\ y16 a1 a2
 let y25 (a1 : RS) (a2 : RS) := (A6 q.d RA (Aj q.d any q.fr) (y19 a1)).meas a2
 let y26 (a : RS) (a2 : RS) (a3 : RS) := y20 a a2 /\ y25 a2 a < y25 a2 a3
 let y27 : List Way := NO q.d.all.length λ (i : Nat) => gD q.d.all i
 let y28 := y27.length
 let y29 := y28 = q.d.all.length
 let y30 (i : Nat) : Way := gD y27 i
 let y31 (i : Nat) := (y30 i).fr
 let y32 (i : Nat) := (y30 i).to
 let y33 (i : Nat) : Span := (y30 i).sp
 let y34 (i : Nat) := (y33 i).lo
 let y35 (i : Nat) := (y33 i).hi
 let y36 (i : Nat) := (y30 i).now
 let y37 := ∀ (i : Nat), i < y28 -> y31 i = (gD q.d.all i).fr /\ y32 i = (gD q.d.all i).to /\ y34 i = (gD q.d.all i).sp.lo /\ y35 i = (gD q.d.all i).sp.hi /\ y36 i = (gD q.d.all i).now
 let y38 := q.d.all.length = y28
 let y39 := ∀ (i : Nat), i < q.d.all.length -> (gD q.d.all i).fr = y31 i /\ (gD q.d.all i).to = y32 i /\ (gD q.d.all i).sp.lo = y34 i /\ (gD q.d.all i).sp.hi = y35 i /\ (gD q.d.all i).now = y36 i
 let y40 (a : RS) := 0 <= a.s.way
 let y41 (a : RS) := (y40 a /\ a.s.way < (↑q.d.all.length : Int)) /\ y9 a
 let y42 (a : RS) := y40 a /\ a.s.way < (↑y28 : Int)
 let y43 (a1 : RS) := KF (Desk.mk y27 q.d.out q.d.nR) a1.s
 let y44 (a : RS) := IntKind.i64.wrap (a.h.cost + (BO (EW y27 a.s.way) a.s.back).fst)
 let y45 (a : RS) : Far := a.r.m.far (y43 a)
 let y46 (a : RS) := (y45 a).cost
 let y47 (a : RS) := IntKind.i64.wrap (a.h.many + 1)
 let y48 (a : RS) := (y45 a).many
 let y49 (a1 : RS) (n : Int) := ((DA q.d RA a1).r.m.at n).isSome
 let y50 (a1 : RS) (n : Int) := ((DA q.d RA a1).r.m.far n).cost
 let y51 (n : Int) (a1 : RS) := decide (n = y43 a1)
 let y52 (a1 : RS) (n : Int) := ((DA q.d RA a1).r.m.far n).many
 let y53 (a1 : RS) (n : Int) : Step := ((DA q.d RA a1).r.m.far n).by'
 let y54 (a1 : RS) (n : Int) := (y53 a1 n).way
 let y55 (a : RS) : Step := (y45 a).by'
 let y56 (a1 : RS) (n : Int) := (y53 a1 n).back
 let y57 (a : RS) := a.h.cost = a.h.cost /\ a.h.many = a.h.many /\ a.h.by'.way = a.h.by'.way /\ a.h.by'.back = a.h.by'.back
 let y58 (l : Nat) (a1 : RS) (a2 : RS) : List Nat := l :: y25 a1 a2 :: y19 a1
 let y59 (l : Nat) (a1 : RS) (a2 : RS) := (y58 l a1 a2).headD 0
 let y60 (l : Nat) (a1 : RS) (a2 : RS) : Fn := Fn.yield (y59 l a1 a2)
 let y61 := (↑q.d.all.length : Int) = (↑q.d.all.length : Int)
 let y62 (l : Nat) (a1 : RS) (a2 : RS) := (y58 l a1 a2).getD 1 0
 let y63 (l : Nat) (a1 : RS) (a2 : RS) := y8 - y62 l a1 a2
 let y64 (a : RS) : Step := (a.r.m.far (↑a.p : Int)).by'
 let y65 (a : RS) (l : Nat) (a2 : RS) (a3 : RS) := y9 a /\ a.p <= q.d.all.length /\ y17 a = (y58 l a2 a3).getD 2 0 /\ HN q.d RA.counts a.k (BK q.d RA.counts (y62 l a2 a3 - 1) (y63 l a2 a3 + 1) (HK q.d RA.counts a.h (↑(y63 l a2 a3) : Int) (List.drop a.p q.d.all) a.p a.r)) = some (Aj q.d any q.fr)
 let y66 (a : RS) := (↑a.p : Int) < (↑q.d.all.length : Int)
 let y67 (a : RS) := 0 + a.p
 let y68 (a1 : RS) : Way := gD q.d.all (y67 a1)
 let y69 (a1 : RS) (l : Nat) (a2 : RS) (a3 : RS) := (y68 a1).fr == (↑(y63 l a2 a3) : Int)
 let y70 (l : Nat) (a1 : RS) (a2 : RS) := y59 l a1 a2 = l
 let y71 (a : RS) (a1 : RS) := a.s.way = (↑a1.p : Int)
 let y72 (a : RS) (a1 : RS) := a.h.by'.way = a1.h.by'.way
 let y73 (a : RS) (a1 : RS) := a.h.by'.back = a1.h.by'.back
 let y74 (a : RS) (a1 : RS) := a.h.cost = a1.h.cost /\ a.h.many = a1.h.many /\ y72 a a1 /\ y73 a a1 /\ y41 a
 let y75 (a1 : RS) (a2 : RS) := y0 /\ y1 /\ y2 /\ y3 /\ y1 /\ y4 /\ a1.r.ag = a2.r.ag /\ GJ = GJ /\ y13 a1 a2 /\ y14 a1 a2 /\ y15 a1 a2 /\ y74 a1 a2
 let y76 (a1 : RS) (l : Nat) (a2 : RS) (a3 : RS) := (y68 a1).to == (↑(y63 l a2 a3) : Int)
 let y77 (a1 : RS) (l : Nat) (a2 : RS) (a3 : RS) := if true = true then y76 a1 l a2 a3 else !y76 a1 l a2 a3
 let y78 (a : RS) (a2 : RS) := a.r.ag = (DA q.d RA a2).r.ag
 let y79 (a : RS) (a2 : RS) := ∀ (n : Int), (a.r.m.at n).isSome = y49 a2 n
 let y80 (a : RS) (a2 : RS) := ∀ (n : Int), a.r.st n = (DA q.d RA a2).r.st n
 let y81 (a : RS) (a2 : RS) := ∀ (n : Int), (a.r.m.far n).cost = y50 a2 n /\ (a.r.m.far n).many = y52 a2 n /\ (a.r.m.far n).by'.way = y54 a2 n /\ (a.r.m.far n).by'.back = y56 a2 n
 let y82 (l : Nat) (a1 : RS) (a2 : RS) := y60 l a1 a2 = y60 l a1 a2
 let y83 (l : Nat) (a1 : RS) (a2 : RS) (a3 : RS) (a4 : RS) := (↑(y63 l a1 a2) : Int) = (↑(y63 l a1 a2) : Int) /\ a3.h.cost = a4.h.cost /\ a3.h.many = a4.h.many /\ y72 a3 a4 /\ y73 a3 a4
 let y84 (l : Nat) (a1 : RS) (a2 : RS) (a3 : RS) := (wF q.d RA (Aj q.d any q.fr) (y58 l a1 a2)).meas a3
 let y85 (a : RS) (l : Nat) (a2 : RS) (a3 : RS) (a4 : RS) := y65 a l a2 a3 /\ y84 l a2 a3 a < y84 l a2 a3 a4
 let y86 (l : Nat) (a1 : RS) (a2 : RS) (a3 : RS) (a4 : RS) := ∃ (a_1 : RS), (y82 l a1 a2 /\ y0 /\ y1 /\ y61 /\ y23 a_1 a3 /\ y0 /\ y1 /\ y2 /\ y3 /\ y1 /\ y4 /\ y78 a_1 a4 /\ GJ = GJ /\ y79 a_1 a4 /\ y80 a_1 a4 /\ y81 a_1 a4 /\ y83 l a1 a2 a_1 a4) /\ y85 a_1 l a1 a2 a3
 let y87 (n : Int) : Far := (Aj q.d RA.counts q.fr).m.far n
 let y88 (n : Int) : Step := (y87 n).by'
 ((∃ (a_1 : RS), (y0 /\ y1 /\ y2 /\ y3 /\ y1 /\ y4 /\ a_1.r.ag = true /\ GJ = y5 /\ (∀ (n : Int), (a_1.r.m.at n).isSome = PR (λ (x : Int) => false) a.fr n) /\
 (∀ (n : Int), a_1.r.st n = stUp (λ (x : Int) => false) (λ (x : Int) => 0) a.fr n) /\ ∀ (n : Int), (a_1.r.m.far n).cost = y7 n /\ (a_1.r.m.far n).many = y7 n /\ (a_1.r.m.far n).by'.way = y7 n /\
 (a_1.r.m.far n).by'.back = bif y6 n then false else false) /\ y10 a_1) /\ ∀ (a_1 : RS), y10 a_1 -> bif a_1.r.ag then (∃ (a_3 : RS), (y11 = IntKind.i64.wrap y11 /\ y12 a_3 /\ y0 /\ y1 /\
 y2 /\ y3 /\ y1 /\ y4 /\ a_3.r.ag = false /\ y16 a_3 a_1) /\ y20 a_3 a_1) /\ ∀ (a_3 : RS), y20 a_3 a_1 -> bif decide ((↑a_3.p : Int) < y11) then y21 /\ bif !(a_3.r.m.at (↑a_3.p :
 Int)).isSome then ∃ (a_5 : RS), (y22 /\ y23 a_5 a_3 /\ y24 a_5 a_3) /\ y26 a_5 a_1 a_3 else ((↑a_3.p : Int) = (↑a_3.p : Int) /\ y0 /\ y29 /\ y2 /\ y3 /\ y29 /\ y37 /\ y0 /\ y38
 /\ y2 /\ y3 /\ y38 /\ y39) /\ (∀ (a_5 : RS), y41 a_5 -> true = true /\ (a_5.s.way = a_5.s.way /\ a_5.s.back = a_5.s.back /\ y0 /\ y29 /\ y2 /\ y3 /\ y29 /\ y37 /\ y0 /\ y38 /\
 y2 /\ y3 /\ y38 /\ y39 /\ y42 a_5) /\ (a_5.s.way = a_5.s.way /\ a_5.s.back = a_5.s.back /\ y0 /\ y29 /\ y2 /\ y3 /\ y29 /\ y37 /\ y0 /\ y38 /\ y2 /\ y3 /\ y38 /\
 y39 /\ y42 a_5 /\ y21) /\ bif bif bif !(a_5.r.m.at (y43 a_5)).isSome then true else decide (y44 a_5 < y46 a_5) then true else bif y44 a_5 == y46 a_5 then decide (y47 a_5 < y48 a_5) else false then (a_5.s.way = a_5.s.way /\ a_5.s.back = a_5.s.back /\ y0 /\ y29 /\ y2 /\ y3 /\ y29 /\ y37 /\ y0 /\ y38 /\ y2 /\ y3 /\ y38 /\ y39 /\ y42 a_5 /\ y21 /\
 PR (λ (z : Int) => (a_5.r.m.at z).isSome) (y43 a_5) (y43 a_5) = true /\ a_5.r.st (y43 a_5) = stUp (λ (z : Int) => (a_5.r.m.at z).isSome) a_5.r.st (y43 a_5) (y43 a_5)) /\ y0 /\ y1 /\
 y2 /\ y3 /\ y1 /\ y4 /\ (DA a.d RA a_5).r.ag = true /\ GJ = GJ /\ (∀ (n : Int), y49 a_5 n = PR (λ (z : Int) => (a_5.r.m.at z).isSome) (y43 a_5) n) /\ (∀ (n : Int), (DA a.d RA
 a_5).r.st n = stUp (λ (z : Int) => (a_5.r.m.at z).isSome) a_5.r.st (y43 a_5) n) /\ (∀ (n : Int), (y50 a_5 n = bif y51 n a_5 then y44 a_5 else bif y51 n a_5 then y46 a_5 else (a_5.r.m.far
 n).cost) /\ (y52 a_5 n = bif y51 n a_5 then y47 a_5 else bif y51 n a_5 then y48 a_5 else (a_5.r.m.far n).many) /\ (y54 a_5 n = bif y51 n a_5 then a_5.s.way else bif y51 n a_5 then
 (y55 a_5).way else (a_5.r.m.far n).by'.way) /\ y56 a_5 n = bif y51 n a_5 then a_5.s.back else bif y51 n a_5 then (y55 a_5).back else (a_5.r.m.far n).by'.back) /\ y57 a_5 else y0 /\ y1 /\
 y2 /\ y3 /\ y1 /\ y4 /\ (DA a.d RA a_5).r.ag = a_5.r.ag /\ GJ = GJ /\ (∀ (n : Int), y49 a_5 n = (a_5.r.m.at n).isSome) /\ (∀ (n : Int), (DA a.d RA a_5).r.st n = a_5.r.st n) /\ (∀ (n : Int),
 y50 a_5 n = (a_5.r.m.far n).cost /\ y52 a_5 n = (a_5.r.m.far n).many /\ y54 a_5 n = (a_5.r.m.far n).by'.way /\ y56 a_5 n = (a_5.r.m.far n).by'.back) /\ y57 a_5) /\ ∀ (l : Nat), (∃ (a_5 : RS), (y60 l a_1 a_3 = Fn.yield l /\ y0 /\ y1 /\ y61 /\ y12 a_5 /\ y0 /\ y1 /\ y2 /\ y3 /\ y1 /\ y4 /\ a_5.r.ag = a_3.r.ag /\ GJ = GJ /\ y13 a_5 a_3 /\ y14 a_5 a_3 /\ y15 a_5 a_3 /\
 (↑(y63 l a_1 a_3) : Int) = (↑a_3.p : Int) /\ a_5.h.cost = (a_3.r.m.far (↑a_3.p : Int)).cost /\ a_5.h.many = (a_3.r.m.far (↑a_3.p : Int)).many /\ a_5.h.by'.way = (y64 a_3).way /\ a_5.h.by'.back = (y64 a_3).back) /\
 y65 a_5 l a_1 a_3) /\ ∀ (a_5 : RS), y65 a_5 l a_1 a_3 -> bif decide (y66 a_5) then (0 <= (↑a_5.p : Int) /\ y66 a_5) /\ (y67 a_5).succ.le a.d.all.length /\ bif if true = true then y69 a_5 l a_1 a_3
 else !y69 a_5 l a_1 a_3 then y70 l a_1 a_3 /\ ∃ (a_7 : RS), (y71 a_7 a_5 /\ a_7.s.back = false /\ y75 a_7 a_5) /\ bif y77 a_5 l a_1 a_3 then y70 l a_1 a_3 /\ ∃ (a_8 : RS), (y71 a_8 a_5 /\
 a_8.s.back = true /\ y0 /\ y1 /\ y2 /\ y3 /\ y1 /\ y4 /\ y78 a_8 a_7 /\ GJ = GJ /\ y79 a_8 a_7 /\ y80 a_8 a_7 /\ y81 a_8 a_7 /\ y74 a_8 a_7) /\ y86 l a_1 a_3 a_5 a_8 else
 y86 l a_1 a_3 a_5 a_7 else bif y77 a_5 l a_1 a_3 then y70 l a_1 a_3 /\ ∃ (a_7 : RS), (y71 a_7 a_5 /\ a_7.s.back = true /\ y75 a_7 a_5) /\ y86 l a_1 a_3 a_5 a_7 else ∃ (a_7 : RS), (y82 l a_1 a_3 /\ y0 /\ y1 /\ y61 /\ y23 a_7 a_5 /\ y0 /\ y1 /\ y2 /\ y3 /\ y1 /\ y4 /\ a_7.r.ag = a_5.r.ag /\ GJ = GJ /\ y13 a_7 a_5 /\ y14 a_7 a_5 /\ y15 a_7 a_5 /\ y83 l a_1 a_3 a_7 a_5) /\ y85 a_7 l a_1 a_3 a_5 else ∃ (a_7 : RS), (y22 /\ y23 a_7 a_3 /\ y24 a_7 a_5) /\ y26 a_7 a_1 a_3 else ∃ (a_5 : RS), y24 a_5 a_3 /\ y10 a_5 /\ y18 a_5 < y18 a_1 else y0 /\
 y1 /\ y2 /\ y3 /\ y1 /\ y4 /\ GJ = GJ /\ (∀ (n : Int), ((Aj a.d RA.counts a.fr).m.at n).isSome = (a_1.r.m.at n).isSome) /\ (∀ (n : Int), (Aj a.d RA.counts a.fr).st n = a_1.r.st n) /\ ∀ (n : Int),
 (y87 n).cost = (a_1.r.m.far n).cost /\ (y87 n).many = (a_1.r.m.far n).many /\ (y88 n).way = (a_1.r.m.far n).by'.way /\ (y88 n).back = (a_1.r.m.far n).by'.back)) := by kernel_rfl
def W57 (a : DF) : Prop := BN Try.prog (A57 Try.f106 a.d RL (Aj a.d any a.fr) 58 s58) Try.f57 (AF Try.f57) ((C57 λ _ => RL).xs a) (AD ((C57 λ _ => RL).L a)) ((C57 λ _ => RL).val a) ((C57 λ _ => RL).keep a) [(0, 305)] []
abbrev JE : Prop := 0 = 0
abbrev HC (a : DF) : Prop := a.d.all.length = a.d.all.length
abbrev MA (a : DF) : Prop := (↑a.d.out : Int) = (↑a.d.out : Int)
abbrev LX (a : DF) : Prop := (↑a.d.nR : Int) = (↑a.d.nR : Int)
abbrev Am (a : DF) : Prop := ∀ (i : Nat), i < a.d.all.length -> (gD a.d.all i).fr = (gD a.d.all i).fr /\ (gD a.d.all i).to = (gD a.d.all i).to /\ (gD a.d.all i).sp.lo = (gD a.d.all i).sp.lo /\ (gD a.d.all i).sp.hi = (gD
 a.d.all i).sp.hi /\ (gD a.d.all i).now = (gD a.d.all i).now
abbrev AKY : Value := Value.agg #[Value.int IntKind.i64 0, Value.int IntKind.i64 0, Value.int IntKind.i64 0, Value.bool false]
abbrev APE (n : Int) (a : DF) : Bool := decide (n = a.fr)
abbrev T9 (n : Int) (a : DF) : Int := bif APE n a then 0 else 0
abbrev wI (a : DF) : Nat := a.d.out + 2
abbrev zO (a : RS) (a1 : DF) : Prop := List.length a.r.m = wI a1
abbrev B6 (a : RS) (a1 : DF) : Prop := zO a a1 /\ HN a1.d RL.counts a.k a.r = some (Aj a1.d any a1.fr)
abbrev aA (a : DF) : Int := (↑a.d.out : Int) + 2
abbrev AHN (a : RS) : Prop := (↑a.p : Int) = 0
abbrev oA (a : RS) (a1 : RS) : Prop := ∀ (n : Int), (a.r.m.at n).isSome = (a1.r.m.at n).isSome
abbrev oK (a : RS) (a1 : RS) : Prop := ∀ (n : Int), a.r.st n = a1.r.st n
abbrev nA (a : RS) (a1 : RS) : Prop := ∀ (n : Int), (a.r.m.far n).cost = (a1.r.m.far n).cost /\ (a.r.m.far n).many = (a1.r.m.far n).many /\ (a.r.m.far n).by'.way = (a1.r.m.far n).by'.way /\ (a.r.m.far n).by'.back =
 (a1.r.m.far n).by'.back
abbrev ACR (a : RS) (a1 : RS) : Prop := GJ = GJ /\ oA a a1 /\ oK a a1 /\ nA a a1
abbrev Y5 (a : RS) : Nat := a.k + 1
abbrev wM (a : DF) (a1 : RS) : Nat := (kB a.d RL (Aj a.d any a.fr)).meas a1
abbrev zN (a : DF) (a1 : RS) : List Nat := [wM a a1]
abbrev wC (a : RS) (a1 : DF) (a2 : RS) : Prop := zO a a1 /\ a.p <= wI a1 /\ Y5 a = (zN a1 a2).headD 0 /\ HN a1.d RL.counts a.k (BK a1.d RL.counts (wI a1 - a.p) a.p a.r) = some
 (Aj a1.d any a1.fr)
abbrev yZ : Prop := AKY = GJ
abbrev AEL (a : DF) : Prop := aA a = aA a
abbrev lP (a : RS) (a1 : RS) : Prop := (↑a.p : Int) = IntKind.i64.wrap ((↑a1.p : Int) + 1)
abbrev xW (a : DF) (a1 : RS) (a2 : RS) : Prop := JE /\ HC a /\ MA a /\ LX a /\ HC a /\ Am a /\ a1.r.ag = a2.r.ag /\ ACR a1 a2
abbrev yN (a : DF) (a1 : RS) (a2 : RS) : Nat := (A6 a.d RL (Aj a.d any a.fr) (zN a a1)).meas a2
abbrev AGE (a : RS) (a1 : DF) (a2 : RS) (a3 : RS) : Prop := wC a a1 a2 /\ yN a1 a2 a < yN a1 a2 a3
abbrev nX (a : DF) : List Way := NO a.d.all.length λ (i : Nat) => gD a.d.all i
abbrev nE (a : DF) : Nat := (nX a).length
abbrev Ev (a : DF) : Prop := nE a = a.d.all.length
abbrev kY (a : DF) (i : Nat) : Way := gD (nX a) i
abbrev ADJ (a : DF) (i : Nat) : Int := (kY a i).fr
abbrev AGQ (a : DF) (i : Nat) : Int := (kY a i).to
abbrev ADV (a : DF) (i : Nat) : Span := (kY a i).sp
abbrev AAN (a : DF) (i : Nat) : Int := (ADV a i).lo
abbrev ADG (a : DF) (i : Nat) : Int := (ADV a i).hi
abbrev ACE (a : DF) (i : Nat) : Int := (kY a i).now
abbrev jP (a : DF) : Prop := ∀ (i : Nat), i < nE a -> ADJ a i = (gD a.d.all i).fr /\ AGQ a i = (gD a.d.all i).to /\ AAN a i = (gD a.d.all i).sp.lo /\ ADG a i = (gD a.d.all i).sp.hi /\ ACE
 a i = (gD a.d.all i).now
abbrev Dx (a : DF) : Prop := a.d.all.length = nE a
abbrev kD (a : DF) : Prop := ∀ (i : Nat), i < a.d.all.length -> (gD a.d.all i).fr = ADJ a i /\ (gD a.d.all i).to = AGQ a i /\ (gD a.d.all i).sp.lo = AAN a i /\ (gD a.d.all i).sp.hi = ADG a i /\ (gD
 a.d.all i).now = ACE a i
abbrev Z8 (a : RS) : Prop := 0 <= a.s.way
abbrev ACJ (a : RS) (a1 : DF) : Prop := (Z8 a /\ a.s.way < (↑a1.d.all.length : Int)) /\ zO a a1
abbrev xR (a : RS) (a1 : DF) : Prop := Z8 a /\ a.s.way < (↑(nE a1) : Int)
abbrev WV (a : DF) (a1 : RS) : Int := KF (Desk.mk (nX a) a.d.out a.d.nR) a1.s
abbrev B7 (a : RS) (a1 : DF) : Int := IntKind.i64.wrap (a.h.cost + (BO (EW (nX a1) a.s.way) a.s.back).fst)
abbrev zR (a : RS) (a1 : DF) : Far := a.r.m.far (WV a1 a)
abbrev zM (a : RS) (a1 : DF) : Int := (zR a a1).cost
abbrev ABH (a : RS) : Int := IntKind.i64.wrap (a.h.many + 1)
abbrev ADL (a : RS) (a1 : DF) : Int := (zR a a1).many
abbrev zS (a : DF) (a1 : RS) (n : Int) : Bool := ((DA a.d RL a1).r.m.at n).isSome
abbrev A5 (a : DF) (a1 : RS) (n : Int) : Int := ((DA a.d RL a1).r.m.far n).cost
abbrev Ep (n : Int) (a : DF) (a1 : RS) : Bool := decide (n = WV a a1)
abbrev C1 (a : DF) (a1 : RS) (n : Int) : Int := ((DA a.d RL a1).r.m.far n).many
abbrev V1 (a : DF) (a1 : RS) (n : Int) : Step := ((DA a.d RL a1).r.m.far n).by'
abbrev wG (a : DF) (a1 : RS) (n : Int) : Int := (V1 a a1 n).way
abbrev ADP (a : RS) (a1 : DF) : Step := (zR a a1).by'
abbrev wZ (a : DF) (a1 : RS) (n : Int) : Bool := (V1 a a1 n).back
abbrev AFU (a : RS) : Prop := a.h.cost = a.h.cost /\ a.h.many = a.h.many /\ a.h.by'.way = a.h.by'.way /\ a.h.by'.back = a.h.by'.back
abbrev iT (l : Nat) (a : DF) (a1 : RS) (a2 : RS) : List Nat := l :: yN a a1 a2 :: zN a a1
abbrev Z6 (l : Nat) (a : DF) (a1 : RS) (a2 : RS) : Nat := (iT l a a1 a2).headD 0
abbrev yX (l : Nat) (a : DF) (a1 : RS) (a2 : RS) : Fn := Fn.yield (Z6 l a a1 a2)
abbrev zB (a : DF) : Prop := (↑a.d.all.length : Int) = (↑a.d.all.length : Int)
abbrev AAA (l : Nat) (a : DF) (a1 : RS) (a2 : RS) : Nat := (iT l a a1 a2).getD 1 0
abbrev La (a : DF) (l : Nat) (a1 : RS) (a2 : RS) : Nat := wI a - AAA l a a1 a2
abbrev W9 (a : RS) : Step := (a.r.m.far (↑a.p : Int)).by'
abbrev xH (a : RS) (a1 : DF) (l : Nat) (a2 : RS) (a3 : RS) : Prop := zO a a1 /\ a.p <= a1.d.all.length /\ Y5 a = (iT l a1 a2 a3).getD 2 0 /\ HN a1.d RL.counts a.k (BK a1.d RL.counts
 (AAA l a1 a2 a3 - 1) (La a1 l a2 a3 + 1) (HK a1.d RL.counts a.h (↑(La a1 l a2 a3) : Int) (List.drop a.p a1.d.all) a.p a.r)) = some (Aj a1.d any a1.fr)
abbrev AAZ (a : RS) (a1 : DF) : Prop := (↑a.p : Int) < (↑a1.d.all.length : Int)
abbrev ABF (a : RS) : Nat := 0 + a.p
abbrev AGO (a : DF) (a1 : RS) : Way := gD a.d.all (ABF a1)
abbrev V8 (a : DF) (a1 : RS) (l : Nat) (a2 : RS) (a3 : RS) : Bool := (AGO a a1).fr == (↑(La a l a2 a3) : Int)
abbrev yW (l : Nat) (a : DF) (a1 : RS) (a2 : RS) : Prop := Z6 l a a1 a2 = l
abbrev zP (a : RS) (a1 : RS) : Prop := a.s.way = (↑a1.p : Int)
abbrev ACN (a : RS) (a1 : RS) : Prop := a.h.by'.way = a1.h.by'.way
abbrev AGB (a : RS) (a1 : RS) : Prop := a.h.by'.back = a1.h.by'.back
abbrev ABB (a : RS) (a1 : RS) (a2 : DF) : Prop := a.h.cost = a1.h.cost /\ a.h.many = a1.h.many /\ ACN a a1 /\ AGB a a1 /\ ACJ a a2
abbrev U8 (a : DF) (a1 : RS) (a2 : RS) : Prop := JE /\ HC a /\ MA a /\ LX a /\ HC a /\ Am a /\ a1.r.ag = a2.r.ag /\ GJ = GJ /\ oA a1 a2 /\ oK a1 a2 /\ nA a1 a2 /\ ABB
 a1 a2 a
abbrev AFK (a : DF) (a1 : RS) (l : Nat) (a2 : RS) (a3 : RS) : Bool := (AGO a a1).to == (↑(La a l a2 a3) : Int)
abbrev Y9 (a : DF) (a1 : RS) (l : Nat) (a2 : RS) (a3 : RS) : Bool := if true = true then AFK a a1 l a2 a3 else !AFK a a1 l a2 a3
abbrev AHR (a : RS) (a1 : DF) (a2 : RS) : Prop := a.r.ag = (DA a1.d RL a2).r.ag
abbrev AAF (a : RS) (a1 : DF) (a2 : RS) : Prop := ∀ (n : Int), (a.r.m.at n).isSome = zS a1 a2 n
abbrev Z9 (a : RS) (a1 : DF) (a2 : RS) : Prop := ∀ (n : Int), a.r.st n = (DA a1.d RL a2).r.st n
abbrev ACL (a : RS) (a1 : DF) (a2 : RS) : Prop := ∀ (n : Int), (a.r.m.far n).cost = A5 a1 a2 n /\ (a.r.m.far n).many = C1 a1 a2 n /\ (a.r.m.far n).by'.way = wG a1 a2 n /\ (a.r.m.far n).by'.back =
 wZ a1 a2 n
abbrev AEX (l : Nat) (a : DF) (a1 : RS) (a2 : RS) : Prop := yX l a a1 a2 = yX l a a1 a2
abbrev ACS (a : DF) (l : Nat) (a1 : RS) (a2 : RS) (a3 : RS) (a4 : RS) : Prop := (↑(La a l a1 a2) : Int) = (↑(La a l a1 a2) : Int) /\ a3.h.cost = a4.h.cost /\ a3.h.many = a4.h.many /\ ACN a3 a4 /\
 AGB a3 a4
abbrev AFI (a : DF) (l : Nat) (a1 : RS) (a2 : RS) (a3 : RS) : Nat := (wF a.d RL (Aj a.d any a.fr) (iT l a a1 a2)).meas a3
abbrev ACG (a : RS) (a1 : DF) (l : Nat) (a2 : RS) (a3 : RS) (a4 : RS) : Prop := xH a a1 l a2 a3 /\ AFI a1 l a2 a3 a < AFI a1 l a2 a3 a4
abbrev A4 (l : Nat) (a : DF) (a1 : RS) (a2 : RS) (a3 : RS) (a4 : RS) : Prop := ∃ (a_1 : RS), (AEX l a a1 a2 /\ JE /\ HC a /\ zB a /\ lP a_1 a3 /\ JE /\ HC a /\ MA a /\ LX a /\
 HC a /\ Am a /\ AHR a_1 a a4 /\ GJ = GJ /\ AAF a_1 a a4 /\ Z9 a_1 a a4 /\ ACL a_1 a a4 /\ ACS a l a1 a2 a_1 a4) /\ ACG a_1 a l a1 a2 a3
abbrev xQ (a : DF) (n : Int) : Far := (Aj a.d RL.counts a.fr).m.far n
abbrev ACT (a : DF) (n : Int) : Step := (xQ a n).by'
theorem wc57 (a : DF) : (W57 a) = ((∃ (a_1 : RS), (JE /\ HC a /\ MA a /\ LX a /\ HC a /\ Am a /\ a_1.r.ag = true /\ GJ = AKY /\ (∀ (n : Int), (a_1.r.m.at n).isSome = PR (λ (x : Int) =>
 false) a.fr n) /\ (∀ (n : Int), a_1.r.st n = stUp (λ (x : Int) => false) (λ (x : Int) => 0) a.fr n) /\ ∀ (n : Int), (a_1.r.m.far n).cost = T9 n a /\ (a_1.r.m.far n).many = T9 n a /\ (a_1.r.m.far n).by'.way =
 T9 n a /\ (a_1.r.m.far n).by'.back = bif APE n a then false else false) /\ B6 a_1 a) /\ ∀ (a_1 : RS), B6 a_1 a -> bif a_1.r.ag then (∃ (a_3 : RS), (aA a = IntKind.i64.wrap (aA a) /\ AHN
 a_3 /\ JE /\ HC a /\ MA a /\ LX a /\ HC a /\ Am a /\ a_3.r.ag = false /\ ACR a_3 a_1) /\ wC a_3 a a_1) /\ ∀ (a_3 : RS), wC a_3 a a_1 -> bif decide ((↑a_3.p : Int) < aA a) then
 yZ /\ bif !(a_3.r.m.at (↑a_3.p : Int)).isSome then ∃ (a_5 : RS), (AEL a /\ lP a_5 a_3 /\ xW a a_5 a_3) /\ AGE a_5 a a_1 a_3 else ((↑a_3.p : Int) = (↑a_3.p : Int) /\ JE /\ Ev a /\ MA a
 /\ LX a /\ Ev a /\ jP a /\ JE /\ Dx a /\ MA a /\ LX a /\ Dx a /\ kD a) /\ (∀ (a_5 : RS), ACJ a_5 a -> true = true /\ (a_5.s.way = a_5.s.way /\ a_5.s.back = a_5.s.back /\ JE /\
 Ev a /\ MA a /\ LX a /\ Ev a /\ jP a /\ JE /\ Dx a /\ MA a /\ LX a /\ Dx a /\ kD a /\ xR a_5 a) /\ (a_5.s.way = a_5.s.way /\ a_5.s.back = a_5.s.back /\ JE /\
 Ev a /\ MA a /\ LX a /\ Ev a /\ jP a /\ JE /\ Dx a /\ MA a /\ LX a /\ Dx a /\ kD a /\ xR a_5 a /\ yZ) /\ bif bif bif !(a_5.r.m.at (WV a a_5)).isSome then
 true else decide (B7 a_5 a < zM a_5 a) then true else bif B7 a_5 a == zM a_5 a then decide (ABH a_5 < ADL a_5 a) else false then (a_5.s.way = a_5.s.way /\ a_5.s.back = a_5.s.back /\
 JE /\ Ev a /\ MA a /\ LX a /\ Ev a /\ jP a /\ JE /\ Dx a /\ MA a /\ LX a /\ Dx a /\ kD a /\ xR a_5 a /\ yZ /\ PR (λ (z : Int) => (a_5.r.m.at z).isSome)
 (WV a a_5) (WV a a_5) = true /\ a_5.r.st (WV a a_5) = stUp (λ (z : Int) => (a_5.r.m.at z).isSome) a_5.r.st (WV a a_5) (WV a a_5)) /\ JE /\ HC a /\ MA a /\ LX a /\ HC a /\
 Am a /\ (DA a.d RL a_5).r.ag = true /\ GJ = GJ /\ (∀ (n : Int), zS a a_5 n = PR (λ (z : Int) => (a_5.r.m.at z).isSome) (WV a a_5) n) /\ (∀ (n : Int), (DA a.d RL a_5).r.st n = stUp (λ (z :
 Int) => (a_5.r.m.at z).isSome) a_5.r.st (WV a a_5) n) /\ (∀ (n : Int), (A5 a a_5 n = bif Ep n a a_5 then B7 a_5 a else bif Ep n a a_5 then zM a_5 a else (a_5.r.m.far n).cost) /\
 (C1 a a_5 n = bif Ep n a a_5 then ABH a_5 else bif Ep n a a_5 then ADL a_5 a else (a_5.r.m.far n).many) /\ (wG a a_5 n = bif Ep n a a_5 then a_5.s.way else bif Ep n a a_5 then
 (ADP a_5 a).way else (a_5.r.m.far n).by'.way) /\ wZ a a_5 n = bif Ep n a a_5 then a_5.s.back else bif Ep n a a_5 then (ADP a_5 a).back else (a_5.r.m.far n).by'.back) /\ AFU a_5 else JE
 /\ HC a /\ MA a /\ LX a /\ HC a /\ Am a /\ (DA a.d RL a_5).r.ag = a_5.r.ag /\ GJ = GJ /\ (∀ (n : Int), zS a a_5 n = (a_5.r.m.at n).isSome) /\ (∀ (n : Int), (DA a.d RL a_5).r.st n =
 a_5.r.st n) /\ (∀ (n : Int), A5 a a_5 n = (a_5.r.m.far n).cost /\ C1 a a_5 n = (a_5.r.m.far n).many /\ wG a a_5 n = (a_5.r.m.far n).by'.way /\ wZ a a_5 n = (a_5.r.m.far n).by'.back) /\ AFU a_5) /\
 ∀ (l : Nat), (∃ (a_5 : RS), (yX l a a_1 a_3 = Fn.yield l /\ JE /\ HC a /\ zB a /\ AHN a_5 /\ JE /\ HC a /\ MA a /\ LX a /\ HC a /\ Am a /\ a_5.r.ag = a_3.r.ag /\ GJ = GJ /\
 oA a_5 a_3 /\ oK a_5 a_3 /\ nA a_5 a_3 /\ (↑(La a l a_1 a_3) : Int) = (↑a_3.p : Int) /\ a_5.h.cost = (a_3.r.m.far (↑a_3.p : Int)).cost /\ a_5.h.many = (a_3.r.m.far (↑a_3.p : Int)).many /\ a_5.h.by'.way
 = (W9 a_3).way /\ a_5.h.by'.back = (W9 a_3).back) /\ xH a_5 a l a_1 a_3) /\ ∀ (a_5 : RS), xH a_5 a l a_1 a_3 -> bif decide (AAZ a_5 a) then (0 <= (↑a_5.p : Int) /\ AAZ a_5 a) /\ (ABF
 a_5).succ.le a.d.all.length /\ bif if true = true then V8 a a_5 l a_1 a_3 else !V8 a a_5 l a_1 a_3 then yW l a a_1 a_3 /\ ∃ (a_7 : RS), (zP a_7 a_5 /\ a_7.s.back = false /\ U8 a a_7 a_5) /\ bif
 Y9 a a_5 l a_1 a_3 then yW l a a_1 a_3 /\ ∃ (a_8 : RS), (zP a_8 a_5 /\ a_8.s.back = true /\ JE /\ HC a /\ MA a /\ LX a /\ HC a /\ Am a /\ AHR a_8 a a_7 /\ GJ = GJ /\ AAF
 a_8 a a_7 /\ Z9 a_8 a a_7 /\ ACL a_8 a a_7 /\ ABB a_8 a_7 a) /\ A4 l a a_1 a_3 a_5 a_8 else A4 l a a_1 a_3 a_5 a_7 else bif Y9 a a_5 l a_1 a_3 then yW l a a_1 a_3 /\ ∃ (a_7 : RS),
 (zP a_7 a_5 /\ a_7.s.back = true /\ U8 a a_7 a_5) /\ A4 l a a_1 a_3 a_5 a_7 else ∃ (a_7 : RS), (AEX l a a_1 a_3 /\ JE /\ HC a /\ zB a /\ lP a_7 a_5 /\ JE /\ HC a /\ MA a
 /\ LX a /\ HC a /\ Am a /\ a_7.r.ag = a_5.r.ag /\ GJ = GJ /\ oA a_7 a_5 /\ oK a_7 a_5 /\ nA a_7 a_5 /\ ACS a l a_1 a_3 a_7 a_5) /\ ACG a_7 a l a_1 a_3 a_5 else ∃ (a_7 : RS), (AEL
 a /\ lP a_7 a_3 /\ xW a a_7 a_5) /\ AGE a_7 a a_1 a_3 else ∃ (a_5 : RS), xW a a_5 a_3 /\ B6 a_5 a /\ wM a a_5 < wM a a_1 else JE /\ HC a /\ MA a /\ LX a /\ HC a /\
 Am a /\ GJ = GJ /\ (∀ (n : Int), ((Aj a.d RL.counts a.fr).m.at n).isSome = (a_1.r.m.at n).isSome) /\ (∀ (n : Int), (Aj a.d RL.counts a.fr).st n = a_1.r.st n) /\ ∀ (n : Int), (xQ a n).cost = (a_1.r.m.far
 n).cost /\ (xQ a n).many = (a_1.r.m.far n).many /\ (ACT a n).way = (a_1.r.m.far n).by'.way /\ (ACT a n).back = (a_1.r.m.far n).by'.back) := by kernel_rfl
def U57 (a : DF) : Prop := BN Try.prog (A57 Try.f106 a.d (RF a.d a.at') (Aj a.d (EM a.d a.at') a.fr) 101 (C101.spec d101)) Try.f57 (AF Try.f57) ((C57 λ a => RF a.d a.at').xs a) (AD ((C57 λ a => RF a.d a.at').L a)) ((C57 λ a => RF a.d a.at').val a) ((C57 λ a => RF a.d a.at').keep a) [(0, 305)] []
abbrev HO : Prop := 0 = 0
abbrev HB (a : DF) : Prop := a.d.all.length = a.d.all.length
abbrev KE (a : DF) : Prop := (↑a.d.out : Int) = (↑a.d.out : Int)
abbrev KC (a : DF) : Prop := (↑a.d.nR : Int) = (↑a.d.nR : Int)
abbrev Ai (a : DF) : Prop := ∀ (i : Nat), i < a.d.all.length -> (gD a.d.all i).fr = (gD a.d.all i).fr /\ (gD a.d.all i).to = (gD a.d.all i).to /\ (gD a.d.all i).sp.lo = (gD a.d.all i).sp.lo /\ (gD a.d.all i).sp.hi = (gD
 a.d.all i).sp.hi /\ (gD a.d.all i).now = (gD a.d.all i).now
abbrev AKQ : Value := Value.agg #[Value.int IntKind.i64 0, Value.int IntKind.i64 0, Value.int IntKind.i64 0, Value.bool false]
abbrev AMR (n : Int) (a : DF) : Bool := decide (n = a.fr)
abbrev U0 (n : Int) (a : DF) : Int := bif AMR n a then 0 else 0
abbrev yD (a : DF) : Nat := a.d.out + 2
abbrev yJ (a : RS) (a1 : DF) : Prop := List.length a.r.m = yD a1
abbrev kM (a : DF) : RT := Aj a.d (EM a.d a.at') a.fr
abbrev wV (a : DF) : Option RT := some (kM a)
abbrev yM (a : RS) (a1 : DF) : Prop := yJ a a1 /\ HN a1.d (RF a1.d a1.at').counts a.k a.r = wV a1
abbrev Zy (a : DF) : Int := (↑a.d.out : Int) + 2
abbrev AAO (a : RS) : Prop := (↑a.p : Int) = 0
abbrev kP (a : RS) (a1 : RS) : Prop := ∀ (n : Int), (a.r.m.at n).isSome = (a1.r.m.at n).isSome
abbrev mQ (a : RS) (a1 : RS) : Prop := ∀ (n : Int), a.r.st n = a1.r.st n
abbrev jR (a : RS) (a1 : RS) : Prop := ∀ (n : Int), (a.r.m.far n).cost = (a1.r.m.far n).cost /\ (a.r.m.far n).many = (a1.r.m.far n).many /\ (a.r.m.far n).by'.way = (a1.r.m.far n).by'.way /\ (a.r.m.far n).by'.back =
 (a1.r.m.far n).by'.back
abbrev V4 (a : RS) (a1 : RS) : Prop := GJ = GJ /\ kP a a1 /\ mQ a a1 /\ jR a a1
abbrev ABO (a : RS) : Nat := a.k + 1
abbrev wW (a : DF) (a1 : RS) : Nat := (kB a.d (RF a.d a.at') (kM a)).meas a1
abbrev xY (a : DF) (a1 : RS) : List Nat := [wW a a1]
abbrev wJ (a : RS) (a1 : DF) (a2 : RS) : Prop := yJ a a1 /\ a.p <= yD a1 /\ ABO a = (xY a1 a2).headD 0 /\ HN a1.d (RF a1.d a1.at').counts a.k (BK a1.d (RF a1.d a1.at').counts (yD
 a1 - a.p) a.p a.r) = wV a1
abbrev wP : Prop := AKQ = GJ
abbrev AED (a : DF) : Prop := Zy a = Zy a
abbrev kI (a : RS) (a1 : RS) : Prop := (↑a.p : Int) = IntKind.i64.wrap ((↑a1.p : Int) + 1)
abbrev xC (a : DF) (a1 : RS) (a2 : RS) : Prop := HO /\ HB a /\ KE a /\ KC a /\ HB a /\ Ai a /\ a.at' = a.at' /\ a1.r.ag = a2.r.ag /\ V4 a1 a2
abbrev zI (a : DF) (a1 : RS) (a2 : RS) : Nat := (A6 a.d (RF a.d a.at') (kM a) (xY a a1)).meas a2
abbrev ACX (a : RS) (a1 : DF) (a2 : RS) (a3 : RS) : Prop := wJ a a1 a2 /\ zI a1 a2 a < zI a1 a2 a3
abbrev iY (a : DF) : List Way := NO a.d.all.length λ (i : Nat) => gD a.d.all i
abbrev jA (a : DF) : Nat := (iY a).length
abbrev WJ (a : DF) : Prop := jA a = a.d.all.length
abbrev mH (a : DF) (i : Nat) : Way := gD (iY a) i
abbrev AHP (a : DF) (i : Nat) : Int := (mH a i).fr
abbrev Z4 (a : DF) (i : Nat) : Int := (mH a i).to
abbrev AET (a : DF) (i : Nat) : Span := (mH a i).sp
abbrev ACK (a : DF) (i : Nat) : Int := (AET a i).lo
abbrev V5 (a : DF) (i : Nat) : Int := (AET a i).hi
abbrev AGC (a : DF) (i : Nat) : Int := (mH a i).now
abbrev Yq (a : DF) : Prop := ∀ (i : Nat), i < jA a -> AHP a i = (gD a.d.all i).fr /\ Z4 a i = (gD a.d.all i).to /\ ACK a i = (gD a.d.all i).sp.lo /\ V5 a i = (gD a.d.all i).sp.hi /\ AGC
 a i = (gD a.d.all i).now
abbrev WE (a : DF) : Prop := a.d.all.length = jA a
abbrev Yo (a : DF) : Prop := ∀ (i : Nat), i < a.d.all.length -> (gD a.d.all i).fr = AHP a i /\ (gD a.d.all i).to = Z4 a i /\ (gD a.d.all i).sp.lo = ACK a i /\ (gD a.d.all i).sp.hi = V5 a i /\ (gD
 a.d.all i).now = AGC a i
abbrev AEW (a : RS) : Prop := 0 <= a.s.way
abbrev AAY (a : RS) (a1 : DF) : Prop := (AEW a /\ a.s.way < (↑a1.d.all.length : Int)) /\ yJ a a1
abbrev oF (a : RS) (a1 : DF) : Prop := AEW a /\ a.s.way < (↑(jA a1) : Int)
abbrev ADK (a : DF) : Desk := Desk.mk (iY a) a.d.out a.d.nR
abbrev wA (a : DF) (a1 : RS) : RT := (DA a.d (RF a.d a.at') a1).r
abbrev C0 (a : DF) (a1 : RS) : Bool := (wA a a1).ag
abbrev ACY (a : DF) (a1 : RS) : Map := (wA a a1).m
abbrev zL (a : DF) (a1 : RS) (n : Int) : Bool := ((ACY a a1).at n).isSome
abbrev wY (a : DF) (a1 : RS) (n : Int) : Int := (wA a a1).st n
abbrev yK (a : DF) (a1 : RS) (n : Int) : Far := (ACY a a1).far n
abbrev wK (a : DF) (a1 : RS) (n : Int) : Int := (yK a a1 n).cost
abbrev xE (a : DF) (a1 : RS) (n : Int) : Int := (yK a a1 n).many
abbrev AGF (a : DF) (a1 : RS) (n : Int) : Step := (yK a a1 n).by'
abbrev xO (a : DF) (a1 : RS) (n : Int) : Int := (AGF a a1 n).way
abbrev zX (a : DF) (a1 : RS) (n : Int) : Bool := (AGF a a1 n).back
abbrev AGA (a : RS) : Prop := a.h.cost = a.h.cost /\ a.h.many = a.h.many /\ a.h.by'.way = a.h.by'.way /\ a.h.by'.back = a.h.by'.back
abbrev ABT (a : DF) (a1 : RS) : Prop := HO /\ HB a /\ KE a /\ KC a /\ HB a /\ Ai a /\ a.at' = a.at' /\ C0 a a1 = a1.r.ag /\ GJ = GJ /\ (∀ (n : Int), zL a a1 n = (a1.r.m.at
 n).isSome) /\ (∀ (n : Int), wY a a1 n = a1.r.st n) /\ (∀ (n : Int), wK a a1 n = (a1.r.m.far n).cost /\ xE a a1 n = (a1.r.m.far n).many /\ xO a a1 n = (a1.r.m.far n).by'.way /\ zX a a1 n =
 (a1.r.m.far n).by'.back) /\ AGA a1
abbrev WT (a : DF) (a1 : RS) : Int := KF (ADK a) a1.s
abbrev wL (a : RS) (a1 : DF) : Int := IntKind.i64.wrap (a.h.cost + (BO (EW (iY a1) a.s.way) a.s.back).fst)
abbrev xJ (a : RS) (a1 : DF) : Far := a.r.m.far (WT a1 a)
abbrev xZ (a : RS) (a1 : DF) : Int := (xJ a a1).cost
abbrev ADR (a : RS) : Int := IntKind.i64.wrap (a.h.many + 1)
abbrev ACD (a : RS) (a1 : DF) : Int := (xJ a a1).many
abbrev Dw (n : Int) (a : DF) (a1 : RS) : Bool := decide (n = WT a a1)
abbrev AFQ (a : RS) (a1 : DF) : Step := (xJ a a1).by'
abbrev oE (l : Nat) (a : DF) (a1 : RS) (a2 : RS) : List Nat := l :: zI a a1 a2 :: xY a a1
abbrev AEZ (l : Nat) (a : DF) (a1 : RS) (a2 : RS) : Nat := (oE l a a1 a2).headD 0
abbrev xK (l : Nat) (a : DF) (a1 : RS) (a2 : RS) : Fn := Fn.yield (AEZ l a a1 a2)
abbrev wX (a : DF) : Prop := (↑a.d.all.length : Int) = (↑a.d.all.length : Int)
abbrev AEJ (l : Nat) (a : DF) (a1 : RS) (a2 : RS) : Nat := (oE l a a1 a2).getD 1 0
abbrev Lx (a : DF) (l : Nat) (a1 : RS) (a2 : RS) : Nat := yD a - AEJ l a a1 a2
abbrev ADQ (a : RS) : Step := (a.r.m.far (↑a.p : Int)).by'
abbrev xL (a : RS) (a1 : DF) (l : Nat) (a2 : RS) (a3 : RS) : Prop := yJ a a1 /\ a.p <= a1.d.all.length /\ ABO a = (oE l a1 a2 a3).getD 2 0 /\ HN a1.d (RF a1.d a1.at').counts a.k (BK a1.d
 (RF a1.d a1.at').counts (AEJ l a1 a2 a3 - 1) (Lx a1 l a2 a3 + 1) (HK a1.d (RF a1.d a1.at').counts a.h (↑(Lx a1 l a2 a3) : Int) (List.drop a.p a1.d.all) a.p a.r)) = wV a1
abbrev ADW (a : RS) (a1 : DF) : Prop := (↑a.p : Int) < (↑a1.d.all.length : Int)
abbrev ABU (a : RS) : Nat := 0 + a.p
abbrev X7 (a : DF) (a1 : RS) : Way := gD a.d.all (ABU a1)
abbrev AFY (a : DF) (a1 : RS) (l : Nat) (a2 : RS) (a3 : RS) : Bool := (X7 a a1).fr == (↑(Lx a l a2 a3) : Int)
abbrev yR (l : Nat) (a : DF) (a1 : RS) (a2 : RS) : Prop := AEZ l a a1 a2 = l
abbrev xN (a : RS) (a1 : RS) : Prop := a.s.way = (↑a1.p : Int)
abbrev ABN (a : RS) (a1 : RS) : Prop := a.h.by'.way = a1.h.by'.way
abbrev AAQ (a : RS) (a1 : RS) : Prop := a.h.by'.back = a1.h.by'.back
abbrev Y6 (a : RS) (a1 : RS) (a2 : DF) : Prop := a.h.cost = a1.h.cost /\ a.h.many = a1.h.many /\ ABN a a1 /\ AAQ a a1 /\ AAY a a2
abbrev AHO (a : DF) (a1 : RS) (a2 : RS) : Prop := HO /\ HB a /\ KE a /\ KC a /\ HB a /\ Ai a /\ a.at' = a.at' /\ a1.r.ag = a2.r.ag /\ GJ = GJ /\ kP a1 a2 /\ mQ a1 a2 /\ jR a1
 a2 /\ Y6 a1 a2 a
abbrev AAP (a : DF) (a1 : RS) (l : Nat) (a2 : RS) (a3 : RS) : Bool := (X7 a a1).to == (↑(Lx a l a2 a3) : Int)
abbrev ACH (a : DF) (a1 : RS) (l : Nat) (a2 : RS) (a3 : RS) : Bool := if true = true then AAP a a1 l a2 a3 else !AAP a a1 l a2 a3
abbrev AHF (a : RS) (a1 : DF) (a2 : RS) : Prop := a.r.ag = C0 a1 a2
abbrev AES (a : RS) (a1 : DF) (a2 : RS) : Prop := ∀ (n : Int), (a.r.m.at n).isSome = zL a1 a2 n
abbrev V6 (a : RS) (a1 : DF) (a2 : RS) : Prop := ∀ (n : Int), a.r.st n = wY a1 a2 n
abbrev ACI (a : RS) (a1 : DF) (a2 : RS) : Prop := ∀ (n : Int), (a.r.m.far n).cost = wK a1 a2 n /\ (a.r.m.far n).many = xE a1 a2 n /\ (a.r.m.far n).by'.way = xO a1 a2 n /\ (a.r.m.far n).by'.back =
 zX a1 a2 n
abbrev AEQ (l : Nat) (a : DF) (a1 : RS) (a2 : RS) : Prop := xK l a a1 a2 = xK l a a1 a2
abbrev ABG (a : DF) (l : Nat) (a1 : RS) (a2 : RS) (a3 : RS) (a4 : RS) : Prop := (↑(Lx a l a1 a2) : Int) = (↑(Lx a l a1 a2) : Int) /\ a3.h.cost = a4.h.cost /\ a3.h.many = a4.h.many /\ ABN a3 a4 /\
 AAQ a3 a4
abbrev AHG (a : DF) (l : Nat) (a1 : RS) (a2 : RS) (a3 : RS) : Nat := (wF a.d (RF a.d a.at') (kM a) (oE l a a1 a2)).meas a3
abbrev AHA (a : RS) (a1 : DF) (l : Nat) (a2 : RS) (a3 : RS) (a4 : RS) : Prop := xL a a1 l a2 a3 /\ AHG a1 l a2 a3 a < AHG a1 l a2 a3 a4
abbrev vY (l : Nat) (a : DF) (a1 : RS) (a2 : RS) (a3 : RS) (a4 : RS) : Prop := ∃ (a_1 : RS), (AEQ l a a1 a2 /\ HO /\ HB a /\ wX a /\ kI a_1 a3 /\ HO /\ HB a /\ KE a /\ KC a /\
 HB a /\ Ai a /\ a.at' = a.at' /\ AHF a_1 a a4 /\ GJ = GJ /\ AES a_1 a a4 /\ V6 a_1 a a4 /\ ACI a_1 a a4 /\ ABG a l a1 a2 a_1 a4) /\ AHA a_1 a l a1 a2 a3
abbrev AEO (a : DF) : RT := Aj a.d (RF a.d a.at').counts a.fr
abbrev X3 (a : DF) : Map := (AEO a).m
abbrev wN (a : DF) (n : Int) : Far := (X3 a).far n
abbrev AFX (a : DF) (n : Int) : Step := (wN a n).by'
theorem uc57 (a : DF) : (U57 a) = ((∃ (a_1 : RS), (HO /\ HB a /\ KE a /\ KC a /\ HB a /\ Ai a /\ a.at' = a.at' /\ a_1.r.ag = true /\ GJ = AKQ /\ (∀ (n : Int), (a_1.r.m.at n).isSome = PR (fun
 (x : Int) => false) a.fr n) /\ (∀ (n : Int), a_1.r.st n = stUp (λ (x : Int) => false) (λ (x : Int) => 0) a.fr n) /\ ∀ (n : Int), (a_1.r.m.far n).cost = U0 n a /\ (a_1.r.m.far n).many = U0 n a /\ (a_1.r.m.far
 n).by'.way = U0 n a /\ (a_1.r.m.far n).by'.back = bif AMR n a then false else false) /\ yM a_1 a) /\ ∀ (a_1 : RS), yM a_1 a -> bif a_1.r.ag then (∃ (a_3 : RS), (Zy a = IntKind.i64.wrap (Zy a)
 /\ AAO a_3 /\ HO /\ HB a /\ KE a /\ KC a /\ HB a /\ Ai a /\ a.at' = a.at' /\ a_3.r.ag = false /\ V4 a_3 a_1) /\ wJ a_3 a a_1) /\ ∀ (a_3 : RS), wJ a_3 a a_1 -> bif decide ((↑a_3.p :
 Int) < Zy a) then wP /\ bif !(a_3.r.m.at (↑a_3.p : Int)).isSome then ∃ (a_5 : RS), (AED a /\ kI a_5 a_3 /\ xC a a_5 a_3) /\ ACX a_5 a a_1 a_3 else ((↑a_3.p : Int) = (↑a_3.p : Int) /\ HO
 /\ WJ a /\ KE a /\ KC a /\ WJ a /\ Yq a /\ HO /\ WE a /\ KE a /\ KC a /\ WE a /\ Yo a) /\ (∀ (a_5 : RS), AAY a_5 a -> true = true /\ (a_5.s.way = a_5.s.way /\ a_5.s.back
 = a_5.s.back /\ HO /\ WJ a /\ KE a /\ KC a /\ WJ a /\ Yq a /\ a.at' = a.at' /\ HO /\ WE a /\ KE a /\ KC a /\ WE a /\ Yo a /\ a.at' = a.at' /\ oF a_5 a) /\ bif
 !EM (ADK a) a.at' a_5.s then ABT a a_5 else (a_5.s.way = a_5.s.way /\ a_5.s.back = a_5.s.back /\ HO /\ WJ a /\ KE a /\ KC a /\ WJ a /\ Yq a /\ HO /\ WE a /\ KE a /\
 KC a /\ WE a /\ Yo a /\ oF a_5 a) /\ (a_5.s.way = a_5.s.way /\ a_5.s.back = a_5.s.back /\ HO /\ WJ a /\ KE a /\ KC a /\ WJ a /\ Yq a /\ HO /\ WE a /\ KE a /\
 KC a /\ WE a /\ Yo a /\ oF a_5 a /\ wP) /\ bif bif bif !(a_5.r.m.at (WT a a_5)).isSome then true else decide (wL a_5 a < xZ a_5 a) then true else bif wL a_5 a == xZ
 a_5 a then decide (ADR a_5 < ACD a_5 a) else false then (a_5.s.way = a_5.s.way /\ a_5.s.back = a_5.s.back /\ HO /\ WJ a /\ KE a /\ KC a /\ WJ a /\ Yq a /\ HO /\ WE a /\ KE
 a /\ KC a /\ WE a /\ Yo a /\ oF a_5 a /\ wP /\ PR (λ (z : Int) => (a_5.r.m.at z).isSome) (WT a a_5) (WT a a_5) = true /\ a_5.r.st (WT a a_5) = stUp (λ (z : Int) =>
 (a_5.r.m.at z).isSome) a_5.r.st (WT a a_5) (WT a a_5)) /\ HO /\ HB a /\ KE a /\ KC a /\ HB a /\ Ai a /\ a.at' = a.at' /\ C0 a a_5 = true /\ GJ = GJ /\ (∀ (n : Int), zL a
 a_5 n = PR (λ (z : Int) => (a_5.r.m.at z).isSome) (WT a a_5) n) /\ (∀ (n : Int), wY a a_5 n = stUp (λ (z : Int) => (a_5.r.m.at z).isSome) a_5.r.st (WT a a_5) n) /\ (∀ (n : Int), (wK a a_5 n =
 bif Dw n a a_5 then wL a_5 a else bif Dw n a a_5 then xZ a_5 a else (a_5.r.m.far n).cost) /\ (xE a a_5 n = bif Dw n a a_5 then ADR a_5 else bif Dw n a a_5 then ACD a_5 a
 else (a_5.r.m.far n).many) /\ (xO a a_5 n = bif Dw n a a_5 then a_5.s.way else bif Dw n a a_5 then (AFQ a_5 a).way else (a_5.r.m.far n).by'.way) /\ zX a a_5 n = bif Dw n a a_5 then
 a_5.s.back else bif Dw n a a_5 then (AFQ a_5 a).back else (a_5.r.m.far n).by'.back) /\ AGA a_5 else ABT a a_5) /\ ∀ (l : Nat), (∃ (a_5 : RS), (xK l a a_1 a_3 = Fn.yield l /\ HO /\ HB a /\
 wX a /\ AAO a_5 /\ HO /\ HB a /\ KE a /\ KC a /\ HB a /\ Ai a /\ a.at' = a.at' /\ a_5.r.ag = a_3.r.ag /\ GJ = GJ /\ kP a_5 a_3 /\ mQ a_5 a_3 /\ jR a_5 a_3 /\ (↑(Lx a
 l a_1 a_3) : Int) = (↑a_3.p : Int) /\ a_5.h.cost = (a_3.r.m.far (↑a_3.p : Int)).cost /\ a_5.h.many = (a_3.r.m.far (↑a_3.p : Int)).many /\ a_5.h.by'.way = (ADQ a_3).way /\ a_5.h.by'.back = (ADQ a_3).back) /\ xL
 a_5 a l a_1 a_3) /\ ∀ (a_5 : RS), xL a_5 a l a_1 a_3 -> bif decide (ADW a_5 a) then (0 <= (↑a_5.p : Int) /\ ADW a_5 a) /\ (ABU a_5).succ.le a.d.all.length /\ bif if true = true then AFY a a_5 l a_1
 a_3 else !AFY a a_5 l a_1 a_3 then yR l a a_1 a_3 /\ ∃ (a_7 : RS), (xN a_7 a_5 /\ a_7.s.back = false /\ AHO a a_7 a_5) /\ bif ACH a a_5 l a_1 a_3 then yR l a a_1 a_3 /\ ∃ (a_8 : RS), (xN
 a_8 a_5 /\ a_8.s.back = true /\ HO /\ HB a /\ KE a /\ KC a /\ HB a /\ Ai a /\ a.at' = a.at' /\ AHF a_8 a a_7 /\ GJ = GJ /\ AES a_8 a a_7 /\ V6 a_8 a a_7 /\ ACI a_8 a a_7 /\
 Y6 a_8 a_7 a) /\ vY l a a_1 a_3 a_5 a_8 else vY l a a_1 a_3 a_5 a_7 else bif ACH a a_5 l a_1 a_3 then yR l a a_1 a_3 /\ ∃ (a_7 : RS), (xN a_7 a_5 /\ a_7.s.back = true /\ AHO a a_7 a_5)
 /\ vY l a a_1 a_3 a_5 a_7 else ∃ (a_7 : RS), (AEQ l a a_1 a_3 /\ HO /\ HB a /\ wX a /\ kI a_7 a_5 /\ HO /\ HB a /\ KE a /\ KC a /\ HB a /\ Ai a /\ a.at' = a.at' /\
 a_7.r.ag = a_5.r.ag /\ GJ = GJ /\ kP a_7 a_5 /\ mQ a_7 a_5 /\ jR a_7 a_5 /\ ABG a l a_1 a_3 a_7 a_5) /\ AHA a_7 a l a_1 a_3 a_5 else ∃ (a_7 : RS), (AED a /\ kI a_7 a_3 /\ xC a a_7
 a_5) /\ ACX a_7 a a_1 a_3 else ∃ (a_5 : RS), xC a a_5 a_3 /\ yM a_5 a /\ wW a a_5 < wW a a_1 else HO /\ HB a /\ KE a /\ KC a /\ HB a /\ Ai a /\ a.at' = a.at' /\ GJ =
 GJ /\ (∀ (n : Int), ((X3 a).at n).isSome = (a_1.r.m.at n).isSome) /\ (∀ (n : Int), (AEO a).st n = a_1.r.st n) /\ ∀ (n : Int), (wN a n).cost = (a_1.r.m.far n).cost /\ (wN a n).many = (a_1.r.m.far
 n).many /\ (AFX a n).way = (a_1.r.m.far n).by'.way /\ (AFX a n).back = (a_1.r.m.far n).by'.back) := by kernel_rfl
theorem Yb (d : Desk) (R : Rule) (rf : RT) (s : RS) : (kB d R rf).meas s = s.k := rfl
theorem bH (d : Desk) (R : Rule) (rf : RT) (gs : List Nat) (s : RS) : (A6 d R rf gs).meas s = d.out + 2 - s.p := rfl
theorem eC (d : Desk) (R : Rule) (rf : RT) (gs : List Nat) (s : RS) : (wF d R rf gs).meas s = d.all.length - s.p := rfl
theorem XV (d : Desk) (c : Step -> Bool) (h : Far) (r : RT) (s : Step) : (LS d c h r s).m.length = r.m.length := by
 unfold LS; split
 ·simp only; split
  ·simp
  ·split <;> simp
 ·rfl
theorem S3 {m : Map} {z : Int} {f : Far} (h : m.at z = some f) : m.far z = f := by simp [Map.far, h]
def Lg (m : Map) (t nc nm : Int) : Bool := bif bif !(m.at t).isSome then true else decide (nc < (m.far t).cost) then true else bif nc == (m.far t).cost then decide (nm < (m.far t).many) else false
theorem Ym {d : Desk} {c : Step -> Bool} {h : Far} {r : RT} {s : Step} (hc : c s = true) : LS d c h r s =
  if Lg r.m (KF d s) (wr (h.cost + (BO (EW d.all s.way) s.back).1)) (wr (h.many + 1)) then ⟨r.m.set (KF d s).toNat (some ⟨wr (h.cost + (BO (EW d.all s.way) s.back).1), wr (h.many + 1), s⟩), true, Sym.stUp (λ z => (r.m.at z).isSome) r.st (KF d s)⟩ else r := by
 unfold LS Lg
 rw [if_pos hc]
 simp only
 cases hq : r.m.at (KF d s) with
 | none => simp
 | some was =>
  simp only [S3 hq, Option.isSome_some, Bool.not_true, cond_false, better]
  generalize wr (h.cost + (BO (EW d.all s.way) s.back).1) = x
  generalize wr (h.many + 1) = y
  by_cases h1 : x < was.cost
  ·simp [h1]
  ·by_cases h2 : x = was.cost
   ·subst h2; simp
   ·simp [h1, h2]
theorem AXE {d : Desk} (h : d.ok) {s : Step} (hs : 0 <= s.way /\ s.way < d.all.length) : 0 <= KF d s /\ KF d s < d.out + 2 := by
 obtain ⟨h1, h2⟩ := h.ends s.way.toNat (by omega)
 unfold KF EW
 cases s.back
 ·exact h2
 ·exact h1
theorem fZ (d : Desk) (c : Step -> Bool) (h : Far) (p : Int) {i : Nat} (hi : d.all.length <= i) (r : RT) : HK d c h p (d.all.drop i) i r = r := by
 rw [List.drop_eq_nil_of_le hi]; rfl
theorem JT (d : Desk) (c : Step -> Bool) (h : Far) (p : Int) {i : Nat} (hi : i < d.all.length) (r : RT) : HK d c h p (d.all.drop i) i r =
  HK d c h p (d.all.drop (i + 1)) (i + 1) (let r := if (gD d.all i).fr = p then LS d c h r ⟨i, false⟩ else r; if (gD d.all i).to = p then LS d c h r ⟨i, true⟩ else r) := by
 rw [JP hi]; rfl
theorem ATS {a : Nat} (h : a < 9223372036854775806) : IntKind.i64.wrap ((a : Int) + 2) = ((a + 2 : Nat) : Int) := by
 rw [Gp (by omega) (by omega)]; rfl
theorem vF {d : Desk} {c : Step -> Bool} {k : Nat} {r rf : RT} (hr : r.ag = true) (h : HN d c k r = some rf) : ∃ k', k = k' + 1 /\ HN d c k' (BK d c (d.out + 2) 0 { r with ag := false }) = some rf := by
 unfold HN at h
 rw [if_pos hr] at h
 cases k with
 | zero => cases h
 | succ k => exact ⟨k, rfl, h⟩
theorem Nc {d : Desk} {c : Step -> Bool} {n p : Nat} {r : RT} (h : r.m.at p = none) : BK d c (n + 1) p r = BK d c n (p + 1) r := by simp [BK, h]
theorem Na {d : Desk} {c : Step -> Bool} {n p : Nat} {r : RT} {f : Far} (h : r.m.at p = some f) : BK d c (n + 1) p r = BK d c n (p + 1) (HK d c f p d.all 0 r) := by simp [BK, h]
end Go.Bal
