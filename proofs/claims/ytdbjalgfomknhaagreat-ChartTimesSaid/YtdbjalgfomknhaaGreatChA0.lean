/- Package chart: data, and how they read. -/
import Derived.Test.YtdbjalgfomknhaaGreatCom0
import Derived.Test.YtdbjalgfomknhaaGreatChZn
set_option linter.unusedVariables false
set_option linter.unusedSimpArgs false
namespace Go.Bal
open Go Go.Sym Go.Proofs
structure Mk where
 pl : Int
 ht : Int
 deriving Inhabited, DecidableEq
structure Nt where
 mi : Int
 t : Span
 s : Span
 deriving Inhabited, DecidableEq
structure Pr where
 a : Int
 b : Int
 deriving Inhabited, DecidableEq
structure Cht where
 p : Span
 base : Int
 scale : Int
 off : Int
 ms : List Mk
 ns : List Nt
 deriving Inhabited, DecidableEq
structure Tru where
 t : List Int
 s : List Int
 z : List Int
 deriving Inhabited, DecidableEq
def eMk (m : Mk) : DVal := .agg [TT m.pl, TT m.ht]
def eNt (n : Nt) : DVal := .agg [TT n.mi, TT n.t.lo, TT n.t.hi, TT n.s.lo, TT n.s.hi]
def ePr (p : Pr) : DVal := .agg [TT p.a, TT p.b]
def wX (l : List Mk) : DVal := lst 2 l.length λ i => eMk (gD l i)
def oA (l : List Nt) : DVal := lst 5 l.length λ i => eNt (gD l i)
def eO (l : List Pr) : DVal := lst 2 l.length λ i => ePr (gD l i)
def DE (l : List Span) : DVal := lst 2 l.length λ i => IL (gD l i)
def Dj (c : Cht) : DVal := .agg [TT c.p.lo, TT c.p.hi, TT c.base, TT c.scale, TT c.off, wX c.ms, oA c.ns]
def eTru (t : Tru) : DVal := .agg [DV t.t, DV t.s, DV t.z]
def dMk : DVal -> Mk
 | .agg [a, b] => ⟨HK a, HK b⟩
 | _ => default
def dNt : DVal -> Nt
 | .agg [a, b, c, d, e] => ⟨HK a, ⟨HK b, HK c⟩, ⟨HK d, HK e⟩⟩
 | _ => default
def dPr : DVal -> Pr
 | .agg [a, b] => ⟨HK a, HK b⟩
 | _ => default
theorem BVZ (g : Mk) : dMk (eMk g) = g := rfl
theorem BWI (g : Nt) : dNt (eNt g) = g := rfl
theorem BYQ (g : Pr) : dPr (ePr g) = g := rfl
def dMks (a : AVal) (H : Heap) : Option (List Mk × List Nat) := match sB a H with
 | some (n, g, f) => some (IK n λ i => dMk (g i), f)
 | none => none
def dNts (a : AVal) (H : Heap) : Option (List Nt × List Nat) := match sB a H with
 | some (n, g, f) => some (IK n λ i => dNt (g i), f)
 | none => none
def dPrs (a : AVal) (H : Heap) : Option (List Pr × List Nat) := match sB a H with
 | some (n, g, f) => some (IK n λ i => dPr (g i), f)
 | none => none
def Wv (a : AVal) (H : Heap) : Option (List Span × List Nat) := match sB a H with
 | some (n, g, f) => some (IK n λ i => Ni (g i), f)
 | none => none
def nM : AVal -> Heap -> Option (Cht × List Nat)
 | .d (.agg [a, b, c, d, e, .list _ n f _, .list _ m g _]), _ => some (⟨⟨HK a, HK b⟩, HK c, HK d, HK e, IK n λ i => dMk (f i), IK m λ i => dNt (g i)⟩, [])
 | .agg [.d a, .d b, .d c, .d d, .d e, x, y], H => match dMks x H, dNts y H with
  | some (l, f1), some (m, f2) => some (⟨⟨HK a, HK b⟩, HK c, HK d, HK e, l, m⟩, f1 ++ f2)
  | _, _ => none
 | _, _ => none
def pD {α : Type} (dec : List AVal -> Option α) (val : α -> AVal) (pre : α -> List Prop := λ _ => []) : Sym.Spec := xC λ xs => match dec xs with
 | some a => some (val a, pre a)
 | none => none
theorem Kr {α : Type} {g : FuncId} {dec : List AVal -> Option α} {val : α -> AVal} {pre : α -> List Prop} (enc : α -> List AVal) (hde : ∀ xs a, dec xs = some a -> xs = enc a) (h : ∀ a, EI (pre a) -> FnT Try.prog g (enc a) (AB []) (val a) []) : AJ Try.prog g (pD dec val pre) := X8 λ xs v p hf hp => by
 split at hf
 ·rename_i a ha
  cases hf
  rw [hde xs a ha]; exact h a hp
 ·cases hf
def dI1 : List AVal -> Option Int
 | [.d (.v (.int .i64 a))] => some a
 | _ => none
def xI1 (a : Int) : List AVal := [.int a]
theorem hI1 (xs : List AVal) (a : Int) (h : dI1 xs = some a) : xs = xI1 a := by
 unfold dI1 at h; split at h <;> cases h; rfl
structure I2 where
 a : Int
 b : Int
structure I3 where
 a : Int
 b : Int
 c : Int
def dI2 : List AVal -> Option I2
 | [.d (.v (.int .i64 a)), .d (.v (.int .i64 b))] => some ⟨a, b⟩
 | _ => none
def xI2 (x : I2) : List AVal := [.int x.a, .int x.b]
theorem hI2 (xs : List AVal) (a : I2) (h : dI2 xs = some a) : xs = xI2 a := by
 unfold dI2 at h; split at h <;> cases h; rfl
def dI3 : List AVal -> Option I3
 | [.d (.v (.int .i64 a)), .d (.v (.int .i64 b)), .d (.v (.int .i64 c))] => some ⟨a, b, c⟩
 | _ => none
def xI3 (x : I3) : List AVal := [.int x.a, .int x.b, .int x.c]
theorem hI3 (xs : List AVal) (a : I3) (h : dI3 xs = some a) : xs = xI3 a := by
 unfold dI3 at h; split at h <;> cases h; rfl
def dS1 : List AVal -> Option Span
 | [.d (.agg [.v (.int .i64 a), .v (.int .i64 b)])] => some ⟨a, b⟩
 | _ => none
def xS1 (g : Span) : List AVal := [.d (IL g)]
theorem hS1 (xs : List AVal) (a : Span) (h : dS1 xs = some a) : xs = xS1 a := by
 unfold dS1 at h; split at h <;> cases h; rfl
structure SII where
 s : Span
 a : Int
 b : Int
def dSII : List AVal -> Option SII
 | [.d (.agg [.v (.int .i64 p), .v (.int .i64 q)]), .d (.v (.int .i64 a)), .d (.v (.int .i64 b))] => some ⟨⟨p, q⟩, a, b⟩
 | _ => none
def xSII (x : SII) : List AVal := [.d (IL x.s), .int x.a, .int x.b]
theorem hSII (xs : List AVal) (a : SII) (h : dSII xs = some a) : xs = xSII a := by
 unfold dSII at h; split at h <;> cases h; rfl
structure NtI where
 n : Nt
 a : Int
def dNtI : List AVal -> Option NtI
 | [.d (.agg [.v (.int .i64 a), .v (.int .i64 b), .v (.int .i64 c), .v (.int .i64 d), .v (.int .i64 e)]), .d (.v (.int .i64 s))] => some ⟨⟨a, ⟨b, c⟩, ⟨d, e⟩⟩, s⟩
 | _ => none
def xNtI (x : NtI) : List AVal := [.d (eNt x.n), .int x.a]
theorem hNtI (xs : List AVal) (a : NtI) (h : dNtI xs = some a) : xs = xNtI a := by
 unfold dNtI at h; split at h <;> cases h; rfl
def orS (s t : Sym.Spec) : Sym.Spec := λ xs H r => match s xs H r with
 | some x => some x
 | none => t xs H r
theorem BII {g : FuncId} {s t : Sym.Spec} (h1 : AJ Try.prog g s) (h2 : AJ Try.prog g t) : AJ Try.prog g (orS s t) := λ xs H r x hx hp => by
 unfold orS at hx
 split at hx
 ·rename_i y hy; cases hx; exact h1 xs H r _ hy hp
 ·exact h2 xs H r x hx hp
theorem dV {α : Type} [Inhabited α] {l : List α} {k : Nat} (h : k < l.length) : l.take (k + 1) = l.take k ++ [gD l k] := by
 rw [List.take_add_one, List.getElem?_eq_getElem h]; simp [gD, List.getD_eq_getElem?_getD, h]
theorem mulb {a b A B : Int} (h1 : 0 <= a) (h2 : a <= A) (h3 : 0 <= b) (h4 : b <= B) : 0 <= a * b /\ a * b <= A * B :=
 ⟨Int.mul_nonneg h1 h3, Int.mul_le_mul h2 h4 h3 (by omega)⟩
structure NI where
 k : Nat
 m : Int
 deriving Inhabited
theorem CC : ((∀ {b : Bool} {p q : Prop}, (bif b then p else q) = ((b = true -> p) /\ (b = false -> q))) /\ (∀ (p : Prop), (p /\ p) = p) /\ (∀ (p : Prop), (True /\ p) = p) /\ (∀ (p : Prop), (p /\ True) = p) /\ (∀ (p : Prop), (True -> p) = p) /\ (∀ {p : Prop} [inst : Decidable p], (decide p = true) = p) /\ (∀ {p : Prop} {x : Decidable p}, decide p = false ↔ ¬p)) /\ (∀ (n : Nat), (n : Int).toNat = n) /\ (∀ (s : Span), Ni (IL s) = s) /\ (∀ (n : Int), HK (TT n) = n) /\ (∀ (g : Mk), dMk (eMk g) = g) /\ (∀ (g : Nt), dNt (eNt g) = g) /\ (∀ (g : Pr), dPr (ePr g) = g) /\ (∀ (n : Nat), 0 + n = n) /\ (∀ (a : Int), 0 - a = -a) /\ (∀ {x y : Nat}, x.le y = (x <= y)) /\ (∀ (n : Nat), n.succ = n + 1) /\ (∀ {n m : Nat}, n + 1 <= m ↔ n < m) /\ (∀ (b : Bool), ((!b) = true) = (b = false)) /\ (∀ (b : Bool), ((!b) = false) = (b = true)) /\ (∀ {α : Type} (n : Nat) (f : Nat -> α), (IK n f).length = n) /\ (∀ (a b : Int), Ni (.agg [TT a, TT b]) = ⟨a, b⟩) /\ (∀ {α : Type} [Inhabited α] (l : List α), (IK l.length λ i => gD l i) = l) := ⟨⟨BDZ, and_self, true_and, and_true, true_implies, decide_eq_true_eq, decide_eq_false_iff_not⟩, Int.toNat_natCast, dSpan_eSpan, dInt_eInt, BVZ, BWI, BYQ, Nat.zero_add, Int.zero_sub, Nat.le_eq, Nat.succ_eq_add_one, Nat.add_one_le_iff, Bool.not_eq_true', Bool.not_eq_false', rng_length, BFB, TS⟩
end Go.Bal
namespace Go.Bal.DL
open Go.Sym Go
theorem g1 (s : Mk) : dMk (eMk s) = s := rfl
theorem g2 (s : Nt) : dNt (eNt s) = s := rfl
theorem g3 (s : Pr) : dPr (ePr s) = s := rfl
theorem h1 (a b : Int) : dMk (.agg [TT a, TT b]) = Mk.mk a b := rfl
theorem h2 (a b c d e : Int) : dNt (.agg [TT a, TT b, TT c, TT d, TT e]) = Nt.mk a (Span.mk b c) (Span.mk d e) := rfl
theorem h3 (a b : Int) : dPr (.agg [TT a, TT b]) = Pr.mk a b := rfl
theorem k1 (s : Mk) : Mk.mk s.pl s.ht = s := rfl
theorem k2 (s : Nt) : Nt.mk s.mi (Span.mk s.t.lo s.t.hi) (Span.mk s.s.lo s.s.hi) = s := rfl
theorem k3 (s : Pr) : Pr.mk s.a s.b = s := rfl
end Go.Bal.DL

namespace Go.Bal
open Go Go.Sym Go.Proofs
def wr (n : Int) : Int := IntKind.i64.wrap n
def KT (a b c : Int) : Bool := decide (b <= a) && decide (a <= c)
def UQ (s : Span) (a b : Int) : Bool := KT s.lo a b && KT s.hi s.lo b
def RF (n : Nt) (m : Int) : Bool := KT n.mi 0 (wr (m - 1)) && UQ n.t 0 10000000 && UQ n.s (-3000000) 3000000
def V_in (x : I3) : Prop := CH Try.prog (ann 15 []) F_in (AH F_in) (xI3 x) (AB []) (.bool (KT x.a x.b x.c)) [] [] []
abbrev KH:=@Eq Bool
abbrev wN:=@cond Bool
abbrev rW:=λ (x0 x1 : Int) => decide (x0 >= x1)
abbrev hd7:=λ (x0 x1 : Int) => decide (x0 <= x1)
abbrev ZR:=false
abbrev ER a b:=wN a b ZR
attribute [go_sem] KH wN rW hd7 ZR ER
theorem BVX (x : I3) : (V_in x) = (KH (KT (I3.a x) (I3.b x) (I3.c x)) (ER (rW (I3.a x) (I3.b x)) (hd7 (I3.a x) (I3.c x)))) := by kernel_rfl
def vS := pD dI3 λ x => .bool (KT x.a x.b x.c)
theorem nD : AJ Try.prog sA vS := Kr xI3 hI3 λ x _ => Hp (A := ann 15 []) (ren := []) (fz := []) BYH (by kernel_rfl) AC (by
 show V_in x; rw [BVX]<;> delta KH wN rW hd7 ZR ER; unfold KT; by_cases h : x.b <= x.a <;> simp [h])
def BPZ (x : SII) : Prop := CH Try.prog (ann 20 [(sA, vS)]) L2 (AH L2) (xSII x) (AB []) (.bool (UQ x.s x.a x.b)) [] [] []
abbrev hd9:=UQ
abbrev Z6:=SII.s
abbrev BG:=Span.lo
abbrev BJ:=Span.hi
attribute [go_sem] hd9 Z6 BG BJ
theorem BUJ (x : SII) : (BPZ x) = (KH (hd9 (Z6 x) (SII.a x) (SII.b x)) (ER (KT (BG (Z6 x)) (SII.a x) (SII.b x)) (KT (BJ (Z6 x)) (BG (Z6 x)) (SII.b x)))) := by kernel_rfl
def AUW := pD dSII λ x => .bool (UQ x.s x.a x.b)
theorem BDH : AJ Try.prog dR AUW := Kr xSII hSII λ x _ => Hp (A := ann 20 [(sA, vS)]) (ren := []) (fz := []) ARI (by kernel_rfl) (AA nD AC) (by
 show BPZ x; rw [BUJ]<;> delta KH wN ZR hd9 Z6 BG BJ ER; unfold UQ; cases KT x.s.lo x.a x.b <;> simp)
def AUO (x : NtI) : Prop := CH Try.prog (ann 20 [(sA, vS), (dR, AUW)]) ALD (AH ALD) (xNtI x) (AB []) (.bool (RF x.n x.a)) [] [] []
abbrev wJ:=RF
abbrev EC:=Nt.mi
abbrev MM:=IntKind.wrap
abbrev NO:=IntKind.i64
abbrev Hc:=@HSub.hSub Int Int Int (@instHSub Int Int.instSub)
abbrev ES:=Nt.t
abbrev ET:=Nt.s
abbrev HQ a:=MM NO a
abbrev GI a b:=HQ (Hc a b)
abbrev PV a:=GI a 1
attribute [go_sem] wJ EC MM NO Hc ES ET HQ GI PV
theorem BIH (x : NtI) : (AUO x) = (KH (wJ (NtI.n x) (NtI.a x)) (ER (ER (KT (EC (NtI.n x)) 0 (PV (NtI.a x))) (hd9 (ES (NtI.n x)) 0 10000000)) (hd9 (ET (NtI.n x)) (-3000000) 3000000))) := by kernel_rfl
def AXR := pD dNtI λ x => .bool (RF x.n x.a)
theorem BBC : AJ Try.prog ALH AXR := Kr xNtI hNtI λ x _ => Hp (A := ann 20 [(sA, vS), (dR, AUW)]) (ren := []) (fz := []) BCH (by kernel_rfl) (AA nD (AA BDH AC)) (by
 show AUO x; rw [BIH]<;> delta KH wN ZR hd9 wJ EC MM NO Hc ES ET HQ GI PV ER; unfold RF wr; cases KT x.n.mi 0 (IntKind.i64.wrap (x.a - 1)) <;> cases UQ x.n.t 0 10000000 <;> simp)
structure SL where
 a : Span
 l : List Span
structure NS where
 k : Nat
 m : Span
 deriving Inhabited
def comM (x : SL) : Span := x.l.foldl bK x.a
def C_com : Ctr := { α := SL, xs := λ x => [.d (IL x.a), .d (DE x.l)], L := λ _ => [], val := λ x => .d (IL (comM x)), keep := λ _ => [], pre := λ x => [decide (x.l.length < 4611686018427387904) = true] }
def AOC : List AVal -> Heap -> Option (SL × List (Nat × Nat) × List Nat)
 | [.d a, y], H => match Wv y H with
  | some (l, f) => some (⟨Ni a, l⟩, [], f)
  | none => none
 | _, _ => none
def BNV (x : SL) : Ann := { ann 26 [] with loops := λ id => if id = 2 then some [{ α := NS, dflt := default, T := λ s => ⟨[(2, .bptr 201 0), (4, .bptr 202 0), (7, .d (DE x.l)), (8, .int x.l.length), (9, .int s.k)], [(201, .live (.box [.int s.m.lo, .int s.m.hi])), (202, .live (.box [.int 0, .int 0]))]⟩, inv := λ s => s.k <= x.l.length /\ s.m = (x.l.take s.k).foldl bK x.a, meas := λ s => x.l.length - s.k, first := [(201, 1000), (202, 1016)] }] else none }
def BOS (x : SL) : Prop := CH Try.prog (BNV x) AEW (AH AEW) (C_com.xs x) (AB []) (C_com.val x) [] [] []
abbrev hd25:=@Exists NS
abbrev BW:=@Eq Nat
abbrev ED:=@List.length Span
abbrev kK:=SL.l
abbrev AD:=λ (f : Nat -> Prop) => ∀ (x : Nat), f x
abbrev BU:=λ (p q : Prop) => p -> q
abbrev CL:=@LT.lt Nat instLTNat
abbrev AR:=@Eq Int
abbrev GK:=@gD Span instInhabitedSpan
abbrev BZ:=@Nat.cast Int instNatCastInt
abbrev ZY:=NS.k
abbrev Ul:=NS.m
abbrev SC:=Int.ofNat
abbrev DJ:=@LE.le Nat instLENat
abbrev hd40:=@Eq Span
abbrev hd41:=@List.foldl Span Span
abbrev hd43:=@List.take Span
abbrev hd44:=λ (f : NS -> Prop) => ∀ (x : NS), f x
abbrev EK:=@cond Prop
abbrev JH:=λ (x0 x1 : Int) => decide (x0 < x1)
abbrev HO:=@LE.le Int Int.instLEInt
abbrev KB:=@LT.lt Int Int.instLTInt
abbrev NL:=@HAdd.hAdd Int Int Int (@instHAdd Int Int.instAdd)
abbrev Mv:=PD
abbrev mH:=Bn
abbrev LO:=@HSub.hSub Nat Nat Nat (@instHSub Nat instSubNat)
abbrev DZ a b c d:=EK a (And b c) d
abbrev GM a b c d e:=BU a (DZ b c d e)
abbrev HB a b:=JH (BZ a) b
abbrev GC a b c d e f:=GM a (HB b c) d e f
abbrev GQ a b c d e f:=GC a b (BZ c) d e f
abbrev AY a b:=AR (BJ a) b
abbrev AX a b:=AY a (BJ b)
abbrev BP a b:=AR (BG a) b
abbrev BN a b:=BP a (BG b)
abbrev AE a b c:=And a (And b c)
abbrev JB a b c d:=AE a b (CL c d)
abbrev IW a b c d e:=JB a b (LO c d) e
abbrev LB a b c d e f:=IW a b c d (LO e f)
abbrev EB a b c d e:=LB a b c d c e
abbrev GZ a b c:=And (DJ a b) c
abbrev ZN a b c d e f g:=EB a (GZ b c d) e f g
abbrev Ah a b c d e f:=ZN a b c d c e f
abbrev MA a b c d e:=Ah a b c d b e
abbrev aU a b:=hd40 (Ul a) b
abbrev AO a b c d:=And a (AE b c d)
abbrev AF a b c d e:=AE a b (AE c d e)
abbrev Zq a b c d:=AF a b c d d
abbrev AG a:=AR a a
abbrev ML:=SC 0
abbrev BQ:=AG ML
abbrev RN a b:=BJ (GK a b)
abbrev PT a b:=BG (GK a b)
abbrev EO a b:=AR (BZ a) b
abbrev FS a b:=HQ (NL a b)
abbrev GU a:=FS a 1
abbrev DS a:=GU (BZ a)
abbrev BD a b:=EO a (DS b)
abbrev IM a:=AG (BZ a)
abbrev Fs a:=IM (ED a)
abbrev AU a b c:=BU (CL a b) c
abbrev BH a b c d:=AU a b (And c d)
abbrev JY a b c d:=BH a (ED b) c d
abbrev AZ a:=AX a a
abbrev YN a b c d:=JY a b c (AZ d)
abbrev BM a:=AG (BG a)
abbrev Ct a b:=BM (GK a b)
abbrev Ba a b:=YN a b (Ct b a) (GK b a)
abbrev KA a:=AD (λ i=>Ba i a)
abbrev BC a:=BW a a
abbrev KC a:=BC (ED a)
abbrev DM a b:=KB a (BZ b)
abbrev GP a b c:=And a (DM b c)
abbrev CN a:=HO 0 a
abbrev FH a b c:=GP (CN a) b c
abbrev CD a b:=FH a a b
abbrev FR a b:=CD (BZ a) b
abbrev MI a b:=FR a (ED b)
abbrev SD a b c d:=AE a (DJ b c) d
abbrev BR a:=EO a 0
attribute [go_sem] hd25 BW ED kK AD BU CL AR GK BZ ZY Ul SC DJ hd40 hd41 hd43 hd44 EK JH HO KB NL Mv mH LO DZ GM HB GC GQ AY AX BP BN AE JB IW LB EB GZ ZN Ah MA aU AO AF Zq AG ML BQ RN PT EO FS GU DS BD IM Fs AU BH JY AZ YN BM Ct Ba KA BC KC DM GP CN FH CD FR MI SD BR
theorem BVP (x : SL) : (BOS x) = (And (hd25 (λ i=>SD (AO (KC (kK x)) (KA (kK x)) (Fs (kK x)) (Zq (BR (ZY i)) (BN (Ul i) (SL.a x)) (AX (Ul i) (SL.a x)) BQ)) (ZY i) (ED (kK x)) (aU i (hd41 bK (SL.a x) (hd43 (ZY i) (kK x)))))) (hd44 (λ i=>GQ (GZ (ZY i) (ED (kK x)) (aU i (hd41 bK (SL.a x) (hd43 (ZY i) (kK x))))) (ZY i) (ED (kK x)) (MI (ZY i) (kK x)) (hd25 (λ j=>MA (AO (KC (kK x)) (KA (kK x)) (Fs (kK x)) (Zq (BD (ZY j) (ZY i)) (BP (Ul j) (Mv (BG (Ul i)) (PT (kK x) (ZY i)))) (AY (Ul j) (mH (BJ (Ul i)) (RN (kK x) (ZY i)))) BQ)) (ZY j) (ED (kK x)) (aU j (hd41 bK (SL.a x) (hd43 (ZY j) (kK x)))) (ZY i))) (And (BN (comM x) (Ul i)) (AX (comM x) (Ul i)))))) := by kernel_rfl
theorem BYT (x : SL) (h : x.l.length < 4611686018427387904) : BOS x := by
 rw [BVP]<;> delta BG BJ MM NO hd25 BW ED kK AD BU CL AR GK BZ ZY Ul SC DJ hd40 hd41 hd43 hd44 EK JH HO KB NL Mv mH LO AE AF AY AU AG BC Zq AX BM BH BP BN HQ AZ FS DM CN GP GU DS FH AO CD EO JY KC JB DZ ML BD FR IW BQ LB IM YN Ct HB EB GM GZ BR Ba GC KA PT RN GQ MI ZN Ah MA Fs SD aU; try simp only [CC, eq_self, implies_true, forall_const]
 refine ⟨⟨⟨0, x.a⟩, ⟨rfl, rfl, rfl⟩, Nat.zero_le _, rfl⟩, λ s ⟨h1, h2⟩ => ⟨λ hlt => ?_, λ hge => ?_⟩⟩
 ·have hlt : s.k < x.l.length := by omega
  refine ⟨by omega, ⟨s.k + 1, bK s.m (gD x.l s.k)⟩, ⟨(HY (by omega)).symm, rfl, rfl⟩, ⟨by show s.k + 1 <= _; omega, ?_⟩, by show x.l.length - (s.k + 1) < _; omega⟩
  show bK s.m (gD x.l s.k) = _
  rw [dV hlt, List.foldl_append, <- h2]; rfl
 ·rw [h2, List.take_of_length_le (by omega)]; exact ⟨rfl, rfl⟩
theorem ANG : AJ Try.prog fK (C_com.spec AOC) := XP C_com BNV [] [] AYY (λ _ => by kernel_rfl) (λ _ => AC) (λ x h => BYT x (of_decide_eq_true h)) (λ _ => YS rfl rfl) _
end Go.Bal
