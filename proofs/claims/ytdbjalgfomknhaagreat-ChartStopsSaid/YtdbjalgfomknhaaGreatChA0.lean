/- Package chart: data, and how they read. -/
import Derived.Test.YtdbjalgfomknhaaGreatCom0
import Derived.Test.YtdbjalgfomknhaaGreatChZn
set_option linter.unusedVariables false
set_option linter.unusedSimpArgs false
namespace Go.Bal
open Go Go.Sym Go.Proofs
structure Mk where
 pl : Int
 ht : Int
 deriving Inhabited, DecidableEq
structure Nt where
 mi : Int
 t : Span
 s : Span
 deriving Inhabited, DecidableEq
structure Pr where
 a : Int
 b : Int
 deriving Inhabited, DecidableEq
structure Cht where
 p : Span
 base : Int
 scale : Int
 off : Int
 ms : List Mk
 ns : List Nt
 deriving Inhabited, DecidableEq
structure Tru where
 t : List Int
 s : List Int
 z : List Int
 deriving Inhabited, DecidableEq
def eMk (m : Mk) : DVal := .agg [UH m.pl, UH m.ht]
def eNt (n : Nt) : DVal := .agg [UH n.mi, UH n.t.lo, UH n.t.hi, UH n.s.lo, UH n.s.hi]
def ePr (p : Pr) : DVal := .agg [UH p.a, UH p.b]
def zK (l : List Mk) : DVal := lst 2 l.length λ i => eMk (gD l i)
def kK (l : List Nt) : DVal := lst 5 l.length λ i => eNt (gD l i)
def Kw (l : List Pr) : DVal := lst 2 l.length λ i => ePr (gD l i)
def DC (l : List Span) : DVal := lst 2 l.length λ i => IK (gD l i)
def Ak (c : Cht) : DVal := .agg [UH c.p.lo, UH c.p.hi, UH c.base, UH c.scale, UH c.off, zK c.ms, kK c.ns]
def dMk : DVal -> Mk
 | .agg [a, b] => ⟨HJ a, HJ b⟩
 | _ => default
def dNt : DVal -> Nt
 | .agg [a, b, c, d, e] => ⟨HJ a, ⟨HJ b, HJ c⟩, ⟨HJ d, HJ e⟩⟩
 | _ => default
def dPr : DVal -> Pr
 | .agg [a, b] => ⟨HJ a, HJ b⟩
 | _ => default
theorem BZI (g : Mk) : dMk (eMk g) = g := rfl
theorem CAK (g : Nt) : dNt (eNt g) = g := rfl
theorem BZR (g : Pr) : dPr (ePr g) = g := rfl
def dMks (a : AVal) (H : Heap) : Option (List Mk × List Nat) := match xU a H with
 | some (n, g, f) => some (ME n λ i => dMk (g i), f)
 | none => none
def dNts (a : AVal) (H : Heap) : Option (List Nt × List Nat) := match xU a H with
 | some (n, g, f) => some (ME n λ i => dNt (g i), f)
 | none => none
def dPrs (a : AVal) (H : Heap) : Option (List Pr × List Nat) := match xU a H with
 | some (n, g, f) => some (ME n λ i => dPr (g i), f)
 | none => none
def Xo (a : AVal) (H : Heap) : Option (List Span × List Nat) := match xU a H with
 | some (n, g, f) => some (ME n λ i => La (g i), f)
 | none => none
def kV : AVal -> Heap -> Option (Cht × List Nat)
 | .d (.agg [a, b, c, d, e, .list _ n f _, .list _ m g _]), _ => some (⟨⟨HJ a, HJ b⟩, HJ c, HJ d, HJ e, ME n λ i => dMk (f i), ME m λ i => dNt (g i)⟩, [])
 | .agg [.d a, .d b, .d c, .d d, .d e, x, y], H => match dMks x H, dNts y H with
  | some (l, f1), some (m, f2) => some (⟨⟨HJ a, HJ b⟩, HJ c, HJ d, HJ e, l, m⟩, f1 ++ f2)
  | _, _ => none
 | _, _ => none
def pD {α : Type} (dec : List AVal -> Option α) (val : α -> AVal) (pre : α -> List Prop := λ _ => []) : Sym.Spec := xA λ xs => match dec xs with
 | some a => some (val a, pre a)
 | none => none
theorem Ki {α : Type} {g : FuncId} {dec : List AVal -> Option α} {val : α -> AVal} {pre : α -> List Prop} (enc : α -> List AVal) (hde : ∀ xs a, dec xs = some a -> xs = enc a) (h : ∀ a, EM (pre a) -> FnT Try.prog g (enc a) (AB []) (val a) []) : AK Try.prog g (pD dec val pre) := U2 λ xs v p hf hp => by
 split at hf
 ·rename_i a ha
  cases hf
  rw [hde xs a ha]; exact h a hp
 ·cases hf
def dI1 : List AVal -> Option Int
 | [.d (.v (.int .i64 a))] => some a
 | _ => none
def xI1 (a : Int) : List AVal := [.int a]
theorem hI1 (xs : List AVal) (a : Int) (h : dI1 xs = some a) : xs = xI1 a := by
 unfold dI1 at h; split at h <;> cases h; rfl
structure I2 where
 a : Int
 b : Int
structure I3 where
 a : Int
 b : Int
 c : Int
def dI2 : List AVal -> Option I2
 | [.d (.v (.int .i64 a)), .d (.v (.int .i64 b))] => some ⟨a, b⟩
 | _ => none
def xI2 (x : I2) : List AVal := [.int x.a, .int x.b]
theorem hI2 (xs : List AVal) (a : I2) (h : dI2 xs = some a) : xs = xI2 a := by
 unfold dI2 at h; split at h <;> cases h; rfl
def dI3 : List AVal -> Option I3
 | [.d (.v (.int .i64 a)), .d (.v (.int .i64 b)), .d (.v (.int .i64 c))] => some ⟨a, b, c⟩
 | _ => none
def xI3 (x : I3) : List AVal := [.int x.a, .int x.b, .int x.c]
theorem hI3 (xs : List AVal) (a : I3) (h : dI3 xs = some a) : xs = xI3 a := by
 unfold dI3 at h; split at h <;> cases h; rfl
def dS1 : List AVal -> Option Span
 | [.d (.agg [.v (.int .i64 a), .v (.int .i64 b)])] => some ⟨a, b⟩
 | _ => none
def xS1 (g : Span) : List AVal := [.d (IK g)]
theorem hS1 (xs : List AVal) (a : Span) (h : dS1 xs = some a) : xs = xS1 a := by
 unfold dS1 at h; split at h <;> cases h; rfl
structure SII where
 s : Span
 a : Int
 b : Int
def dSII : List AVal -> Option SII
 | [.d (.agg [.v (.int .i64 p), .v (.int .i64 q)]), .d (.v (.int .i64 a)), .d (.v (.int .i64 b))] => some ⟨⟨p, q⟩, a, b⟩
 | _ => none
def xSII (x : SII) : List AVal := [.d (IK x.s), .int x.a, .int x.b]
theorem hSII (xs : List AVal) (a : SII) (h : dSII xs = some a) : xs = xSII a := by
 unfold dSII at h; split at h <;> cases h; rfl
structure NtI where
 n : Nt
 a : Int
def dNtI : List AVal -> Option NtI
 | [.d (.agg [.v (.int .i64 a), .v (.int .i64 b), .v (.int .i64 c), .v (.int .i64 d), .v (.int .i64 e)]), .d (.v (.int .i64 s))] => some ⟨⟨a, ⟨b, c⟩, ⟨d, e⟩⟩, s⟩
 | _ => none
def xNtI (x : NtI) : List AVal := [.d (eNt x.n), .int x.a]
theorem hNtI (xs : List AVal) (a : NtI) (h : dNtI xs = some a) : xs = xNtI a := by
 unfold dNtI at h; split at h <;> cases h; rfl
def orS (s t : Sym.Spec) : Sym.Spec := λ xs H r => match s xs H r with
 | some x => some x
 | none => t xs H r
theorem BFT {g : FuncId} {s t : Sym.Spec} (h1 : AK Try.prog g s) (h2 : AK Try.prog g t) : AK Try.prog g (orS s t) := λ xs H r x hx hp => by
 unfold orS at hx
 split at hx
 ·rename_i y hy; cases hx; exact h1 xs H r _ hy hp
 ·exact h2 xs H r x hx hp
theorem cC {α : Type} [Inhabited α] {l : List α} {k : Nat} (h : k < l.length) : l.take (k + 1) = l.take k ++ [gD l k] := by
 rw [List.take_add_one, List.getElem?_eq_getElem h]; simp [gD, List.getD_eq_getElem?_getD, h]
theorem mulb {a b A B : Int} (h1 : 0 <= a) (h2 : a <= A) (h3 : 0 <= b) (h4 : b <= B) : 0 <= a * b /\ a * b <= A * B :=
 ⟨Int.mul_nonneg h1 h3, Int.mul_le_mul h2 h4 h3 (by omega)⟩
structure NI where
 k : Nat
 m : Int
 deriving Inhabited
theorem CC : ((∀ {b : Bool} {p q : Prop}, (bif b then p else q) = ((b = true -> p) /\ (b = false -> q))) /\ (∀ (p : Prop), (p /\ p) = p) /\ (∀ (p : Prop), (True /\ p) = p) /\ (∀ (p : Prop), (p /\ True) = p) /\ (∀ (p : Prop), (True -> p) = p) /\ (∀ {p : Prop} [inst : Decidable p], (decide p = true) = p) /\ (∀ {p : Prop} {x : Decidable p}, decide p = false ↔ ¬p)) /\ (∀ (n : Nat), (n : Int).toNat = n) /\ (∀ (s : Span), La (IK s) = s) /\ (∀ (n : Int), HJ (UH n) = n) /\ (∀ (g : Mk), dMk (eMk g) = g) /\ (∀ (g : Nt), dNt (eNt g) = g) /\ (∀ (g : Pr), dPr (ePr g) = g) /\ (∀ (n : Nat), 0 + n = n) /\ (∀ (a : Int), 0 - a = -a) /\ (∀ {x y : Nat}, x.le y = (x <= y)) /\ (∀ (n : Nat), n.succ = n + 1) /\ (∀ {n m : Nat}, n + 1 <= m ↔ n < m) /\ (∀ (b : Bool), ((!b) = true) = (b = false)) /\ (∀ (b : Bool), ((!b) = false) = (b = true)) /\ (∀ {α : Type} (n : Nat) (f : Nat -> α), (ME n f).length = n) /\ (∀ (a b : Int), La (.agg [UH a, UH b]) = ⟨a, b⟩) /\ (∀ {α : Type} [Inhabited α] (l : List α), (ME l.length λ i => gD l i) = l) := ⟨⟨BIF, and_self, true_and, and_true, true_implies, decide_eq_true_eq, decide_eq_false_iff_not⟩, Int.toNat_natCast, dSpan_eSpan, dInt_eInt, BZI, CAK, BZR, Nat.zero_add, Int.zero_sub, Nat.le_eq, Nat.succ_eq_add_one, Nat.add_one_le_iff, Bool.not_eq_true', Bool.not_eq_false', rng_length, BIA, WA⟩
end Go.Bal
namespace Go.Bal.DL
open Go.Sym Go
theorem g1 (s : Mk) : dMk (eMk s) = s := rfl
theorem g2 (s : Nt) : dNt (eNt s) = s := rfl
theorem g3 (s : Pr) : dPr (ePr s) = s := rfl
theorem h1 (a b : Int) : dMk (.agg [UH a, UH b]) = Mk.mk a b := rfl
theorem h2 (a b c d e : Int) : dNt (.agg [UH a, UH b, UH c, UH d, UH e]) = Nt.mk a (Span.mk b c) (Span.mk d e) := rfl
theorem h3 (a b : Int) : dPr (.agg [UH a, UH b]) = Pr.mk a b := rfl
theorem k1 (s : Mk) : Mk.mk s.pl s.ht = s := rfl
theorem k2 (s : Nt) : Nt.mk s.mi (Span.mk s.t.lo s.t.hi) (Span.mk s.s.lo s.s.hi) = s := rfl
theorem k3 (s : Pr) : Pr.mk s.a s.b = s := rfl
end Go.Bal.DL

namespace Go.Bal
open Go Go.Sym Go.Proofs
def wr (n : Int) : Int := IntKind.i64.wrap n
def TD (a b c : Int) : Bool := decide (b <= a) && decide (a <= c)
def UG (s : Span) (a b : Int) : Bool := TD s.lo a b && TD s.hi s.lo b
def RG (n : Nt) (m : Int) : Bool := TD n.mi 0 (wr (m - 1)) && UG n.t 0 10000000 && UG n.s (-3000000) 3000000
def V_in (x : I3) : Prop := CF Try.prog (ann 15 []) F_in (AH F_in) (xI3 x) (AB []) (.bool (TD x.a x.b x.c)) [] [] []
abbrev JH:=@Eq Bool
abbrev zU:=@cond Bool
abbrev jA:=λ (x0 x1 : Int) => decide (x0 >= x1)
abbrev hd7:=λ (x0 x1 : Int) => decide (x0 <= x1)
abbrev Hi:=false
abbrev LJ a b:=zU a b Hi
attribute [go_sem] JH zU jA hd7 Hi LJ
theorem BZU (x : I3) : (V_in x) = (JH (TD (I3.a x) (I3.b x) (I3.c x)) (LJ (jA (I3.a x) (I3.b x)) (hd7 (I3.a x) (I3.c x)))) := by kernel_rfl
def s_in := pD dI3 λ x => .bool (TD x.a x.b x.c)
theorem AJM : AK Try.prog n_in s_in := Ki xI3 hI3 λ x _ => Pn (A := ann 15 []) (ren := []) (fz := []) CCE (by kernel_rfl) AC (by
 show V_in x; rw [BZU]<;> delta JH zU jA hd7 Hi LJ; unfold TD; by_cases h : x.b <= x.a <;> simp [h])
def BQX (x : SII) : Prop := CF Try.prog (ann 20 [(n_in, s_in)]) A5 (AH A5) (xSII x) (AB []) (.bool (UG x.s x.a x.b)) [] [] []
abbrev hd9:=UG
abbrev Y7:=SII.s
abbrev BI:=Span.lo
abbrev BF:=Span.hi
attribute [go_sem] hd9 Y7 BI BF
theorem BVJ (x : SII) : (BQX x) = (JH (hd9 (Y7 x) (SII.a x) (SII.b x)) (LJ (TD (BI (Y7 x)) (SII.a x) (SII.b x)) (TD (BF (Y7 x)) (BI (Y7 x)) (SII.b x)))) := by kernel_rfl
def AXQ := pD dSII λ x => .bool (UG x.s x.a x.b)
theorem BFM : AK Try.prog bL AXQ := Ki xSII hSII λ x _ => Pn (A := ann 20 [(n_in, s_in)]) (ren := []) (fz := []) AWK (by kernel_rfl) (AA AJM AC) (by
 show BQX x; rw [BVJ]<;> delta JH zU Hi hd9 Y7 BI BF LJ; unfold UG; cases TD x.s.lo x.a x.b <;> simp)
def AYX (x : NtI) : Prop := CF Try.prog (ann 20 [(n_in, s_in), (bL, AXQ)]) AOR (AH AOR) (xNtI x) (AB []) (.bool (RG x.n x.a)) [] [] []
abbrev tC:=RG
abbrev EN:=Nt.mi
abbrev MM:=IntKind.wrap
abbrev ON:=IntKind.i64
abbrev Ep:=@HSub.hSub Int Int Int (@instHSub Int Int.instSub)
abbrev EB:=Nt.t
abbrev EA:=Nt.s
abbrev YI a b c:=LJ (LJ a b) c
abbrev HI a:=MM ON a
abbrev GO a b:=HI (Ep a b)
abbrev LZ a:=GO a 1
attribute [go_sem] tC EN MM ON Ep EB EA YI HI GO LZ
theorem BHK (x : NtI) : (AYX x) = (JH (tC (NtI.n x) (NtI.a x)) (YI (TD (EN (NtI.n x)) 0 (LZ (NtI.a x))) (hd9 (EB (NtI.n x)) 0 10000000) (hd9 (EA (NtI.n x)) (-3000000) 3000000))) := by kernel_rfl
def AYA := pD dNtI λ x => .bool (RG x.n x.a)
theorem BGW : AK Try.prog AKS AYA := Ki xNtI hNtI λ x _ => Pn (A := ann 20 [(n_in, s_in), (bL, AXQ)]) (ren := []) (fz := []) BJA (by kernel_rfl) (AA AJM (AA BFM AC)) (by
 show AYX x; rw [BHK]<;> delta JH zU Hi hd9 tC EN MM ON Ep EB EA HI GO LZ LJ YI; unfold RG wr; cases TD x.n.mi 0 (IntKind.i64.wrap (x.a - 1)) <;> cases UG x.n.t 0 10000000 <;> simp)
structure SL where
 a : Span
 l : List Span
structure NS where
 k : Nat
 m : Span
 deriving Inhabited
def comM (x : SL) : Span := x.l.foldl iV x.a
def C_com : Ctr := { α := SL, xs := λ x => [.d (IK x.a), .d (DC x.l)], L := λ _ => [], val := λ x => .d (IK (comM x)), keep := λ _ => [], pre := λ x => [decide (x.l.length < 4611686018427387904) = true] }
def BJF : List AVal -> Heap -> Option (SL × List (Nat × Nat) × List Nat)
 | [.d a, y], H => match Xo y H with
  | some (l, f) => some (⟨La a, l⟩, [], f)
  | none => none
 | _, _ => none
def BTI (x : SL) : Ann := { ann 26 [] with loops := λ id => if id = 2 then some [{ α := NS, dflt := default, T := λ s => ⟨[(2, .bptr 201 0), (4, .bptr 202 0), (7, .d (DC x.l)), (8, .int x.l.length), (9, .int s.k)], [(201, .live (.box [.int s.m.lo, .int s.m.hi])), (202, .live (.box [.int 0, .int 0]))]⟩, inv := λ s => s.k <= x.l.length /\ s.m = (x.l.take s.k).foldl iV x.a, meas := λ s => x.l.length - s.k, first := [(201, 1000), (202, 1016)] }] else none }
def BTP (x : SL) : Prop := CF Try.prog (BTI x) ACZ (AH ACZ) (C_com.xs x) (AB []) (C_com.val x) [] [] []
abbrev hd25:=@Exists NS
abbrev BY:=@Eq Nat
abbrev EL:=@List.length Span
abbrev fQ:=SL.l
abbrev AF:=λ (f : Nat -> Prop) => ∀ (x : Nat), f x
abbrev CN:=λ (p q : Prop) => p -> q
abbrev CO:=@LT.lt Nat instLTNat
abbrev AS:=@Eq Int
abbrev KA:=@gD Span instInhabitedSpan
abbrev BE:=@Nat.cast Int instNatCastInt
abbrev WK:=NS.k
abbrev Sw:=NS.m
abbrev XB:=Int.ofNat
abbrev EU:=@LE.le Nat instLENat
abbrev hd40:=@Eq Span
abbrev hd41:=@List.foldl Span Span
abbrev hd43:=@List.take Span
abbrev hd44:=λ (f : NS -> Prop) => ∀ (x : NS), f x
abbrev EC:=@cond Prop
abbrev JL:=λ (x0 x1 : Int) => decide (x0 < x1)
abbrev FY:=@LE.le Int Int.instLEInt
abbrev MN:=@LT.lt Int Int.instLTInt
abbrev NT:=@HAdd.hAdd Int Int Int (@instHAdd Int Int.instAdd)
abbrev Ox:=MY
abbrev jN:=XC
abbrev LS:=@HSub.hSub Nat Nat Nat (@instHSub Nat instSubNat)
abbrev TL a b c d:=CN a (EC b c d)
abbrev ZD a b c d e:=TL a (JL b c) d e
abbrev NR a b c d e:=ZD a (BE b) c d e
abbrev AZ a b:=AS (BF a) b
abbrev AW a b:=AZ a (BF b)
abbrev BO a b:=AS (BI a) b
abbrev BJ a b:=BO a (BI b)
abbrev BC a b c:=And (And a b) c
abbrev DK a b:=MN a (BE b)
abbrev RV a b c d:=BC a (DK b c) d
abbrev BX a:=FY 0 a
abbrev JM a:=BX (BE a)
abbrev TK a b c d:=RV (JM a) b c d
abbrev FF a b c:=TK a (BE a) b c
abbrev AD a b c:=And a (And b c)
abbrev CE a b c d:=AD (And a b) c d
abbrev JB a b c:=CO (LS a b) c
abbrev LG a b c d:=JB a b (LS c d)
abbrev MQ a b c:=LG a b a c
abbrev GM a b c d e f:=CE a b c (MQ d e f)
abbrev IH a b c:=And (EU a b) c
abbrev aH a b:=hd40 (Sw a) b
abbrev AG a b c d e:=AD a b (AD c d e)
abbrev qS a b c d:=AG a b c d d
abbrev AE a:=AS a a
abbrev UD a:=AE (XB a)
abbrev DJ:=UD 0
abbrev Ac a b:=BF (KA a b)
abbrev ZC a b:=BI (KA a b)
abbrev HH a b:=AS (BE a) b
abbrev GH a b:=HI (NT a b)
abbrev DO a:=GH a 1
abbrev DZ a:=DO (BE a)
abbrev BR a b:=HH a (DZ b)
abbrev FS a:=AE (BE a)
abbrev Nx a:=FS (EL a)
abbrev AX a b c:=CN (CO a b) c
abbrev BA a b c d:=AX a b (And c d)
abbrev OJ a b c d:=BA a (EL b) c d
abbrev AV a:=AW a a
abbrev YT a b c d:=OJ a b c (AV d)
abbrev BL a:=AE (BI a)
abbrev On a b:=BL (KA a b)
abbrev XY a b:=YT a b (On b a) (KA b a)
abbrev LW a:=AF (λ i=>XY i a)
abbrev BM a:=BY a a
abbrev NO a:=BM (EL a)
abbrev ZS a:=BE (EL a)
abbrev BZ a:=HH a 0
attribute [go_sem] hd25 BY EL fQ AF CN CO AS KA BE WK Sw XB EU hd40 hd41 hd43 hd44 EC JL FY MN NT Ox jN LS TL ZD NR AZ AW BO BJ BC DK RV BX JM TK FF AD CE JB LG MQ GM IH aH AG qS AE UD DJ Ac ZC HH GH DO DZ BR FS Nx AX BA OJ AV YT BL On XY LW BM NO ZS BZ
theorem BVO (x : SL) : (BTP x) = (And (hd25 (λ i=>CE (NO (fQ x)) (AD (LW (fQ x)) (Nx (fQ x)) (qS (BZ (WK i)) (BJ (Sw i) (SL.a x)) (AW (Sw i) (SL.a x)) DJ)) (EU (WK i) (EL (fQ x))) (aH i (hd41 iV (SL.a x) (hd43 (WK i) (fQ x)))))) (hd44 (λ i=>NR (IH (WK i) (EL (fQ x)) (aH i (hd41 iV (SL.a x) (hd43 (WK i) (fQ x))))) (WK i) (ZS (fQ x)) (FF (WK i) (EL (fQ x)) (hd25 (λ j=>GM (NO (fQ x)) (AD (LW (fQ x)) (Nx (fQ x)) (qS (BR (WK j) (WK i)) (BO (Sw j) (Ox (BI (Sw i)) (ZC (fQ x) (WK i)))) (AZ (Sw j) (jN (BF (Sw i)) (Ac (fQ x) (WK i)))) DJ)) (IH (WK j) (EL (fQ x)) (aH j (hd41 iV (SL.a x) (hd43 (WK j) (fQ x))))) (EL (fQ x)) (WK j) (WK i)))) (And (BJ (comM x) (Sw i)) (AW (comM x) (Sw i)))))) := by kernel_rfl
theorem BYV (x : SL) (h : x.l.length < 4611686018427387904) : BTP x := by
 rw [BVO]<;> delta BI BF MM ON hd25 BY EL fQ AF CN CO AS KA BE WK Sw XB EU hd40 hd41 hd43 hd44 EC JL FY MN NT Ox jN LS AD AG AZ AX AE BM qS AW BL BA BO BJ HI AV GH DK BX DO BC HH CE OJ DZ JB BR LG FS IH NO UD JM RV DJ YT On MQ BZ XY GM TK LW TL FF ZD NR Ac ZC ZS Nx aH; try simp only [CC, eq_self, implies_true, forall_const]
 refine ⟨⟨⟨0, x.a⟩, ⟨rfl, rfl, rfl⟩, Nat.zero_le _, rfl⟩, λ s ⟨h1, h2⟩ => ⟨λ hlt => ?_, λ hge => ?_⟩⟩
 ·have hlt : s.k < x.l.length := by omega
  refine ⟨by omega, ⟨s.k + 1, iV s.m (gD x.l s.k)⟩, ⟨(HL (by omega)).symm, rfl, rfl⟩, ⟨by show s.k + 1 <= _; omega, ?_⟩, by show x.l.length - (s.k + 1) < _; omega⟩
  show iV s.m (gD x.l s.k) = _
  rw [cC hlt, List.foldl_append, <- h2]; rfl
 ·rw [h2, List.take_of_length_le (by omega)]; exact ⟨rfl, rfl⟩
theorem BIO : AK Try.prog yS (C_com.spec BJF) := VV C_com BTI [] [] BBD (λ _ => by kernel_rfl) (λ _ => AC) (λ x h => BYV x (of_decide_eq_true h)) (λ _ => WY rfl rfl) _
end Go.Bal
