/- Package balance: in, flowing, every over spans. -/
import Derived.Test.YtonddbmhljelgaaBal0
import Derived.Test.YtonddbmhljelgaaBalT3
set_option linter.unusedVariables false
set_option linter.unusedSimpArgs false
namespace Go.Bal
open Go Go.Sym Go.Proofs
def inM (a b c : Int) : Bool := decide (b <= a) && decide (a <= c)
def RX (s : Span) : Bool := inM s.lo (-1000000) s.hi && inM s.hi (-1000000) 1000000
def XT (p : Nat -> Bool) : Nat -> Bool
 | 0 => true
 | n + 1 => XT p n && p n
theorem PE {p : Nat -> Bool} : ∀ {n : Nat}, XT p n = true ↔ ∀ i, i < n -> p i = true
 | 0 => by simp [XT]
 | n + 1 => by
  simp only [XT, Bool.and_eq_true, PE (n := n)]
  constructor
  ·intro h i hi
   by_cases he : i = n
   ·subst he; exact h.2
   ·exact h.1 i (by omega)
  ·exact λ h => ⟨λ i hi => h i (by omega), h n (by omega)⟩
theorem BHK {p : Nat -> Bool} : ∀ {n k : Nat}, (0 <= gO p n k) ↔ ∃ i, k <= i /\ i < k + n /\ p i = true
 | 0, k => by simp [gO]; omega
 | n + 1, k => by
  simp only [gO]
  by_cases h : p k = true
  ·rw [if_pos h]
   constructor
   ·intro _; exact ⟨k, Nat.le_refl _, by omega, h⟩
   ·intro _; omega
  ·rw [if_neg h, BHK (n := n) (k := k + 1)]
   constructor
   ·rintro ⟨i, h1, h2, h3⟩; exact ⟨i, by omega, by omega, h3⟩
   ·rintro ⟨i, h1, h2, h3⟩
    refine ⟨i, ?_, by omega, h3⟩
    by_cases he : i = k
    ·subst he; exact absurd h3 h
    ·omega
theorem AGP {p : Nat -> Bool} {n : Nat} : (!decide (0 <= gO (λ i => !p i) n 0)) = XT p n := by
 rw [Bool.eq_iff_iff, PE]
 simp only [Bool.not_eq_true', decide_eq_false_iff_not, BHK, Nat.zero_le, Nat.zero_add, true_and]
 constructor
 ·intro h i hi
  cases hp : p i with
  | true => rfl
  | false => exact (h ⟨i, hi, by simp [hp]⟩).elim
 ·rintro h ⟨i, hi, hp⟩
  rw [h i hi] at hp; cases hp
def V62 (a b d : Int) : Prop := BN Try.prog (ann 15 []) Try.f62 (AF Try.f62) [.int a, .int b, .int d] (AD []) (.bool (inM a b d)) [] [] []
abbrev Gq:=@Eq Bool
abbrev hd2:=@cond Bool
abbrev hd3:=λ (x0 x1 : Int) => decide (x0 >= x1)
abbrev hd4:=λ (x0 x1 : Int) => decide (x0 <= x1)
abbrev hd5:=false
abbrev KT a b:=hd2 a b hd5
abbrev Qy a b c:=Gq a (KT b c)
attribute [go_sem] Gq hd2 hd3 hd4 hd5 KT Qy
theorem vc62 (a : Int) (b : Int) (d : Int) : (V62 a b d) = (Qy (inM a b d) (hd3 a b) (hd4 a d)) := by kernel_rfl
def f62 : List AVal -> Option (AVal × List Prop)
 | [.d (.v (.int .i64 a)), .d (.v (.int .i64 b)), .d (.v (.int .i64 c))] => some (.bool (inM a b c), [])
 | _ => none
def s62 := IY f62
theorem c62 (a b d : Int) : FnT Try.prog 62 [.int a, .int b, .int d] (AD []) (.bool (inM a b d)) [] := by
 refine Pb (A := ann 15 []) (ren := []) (fz := []) Try.func62 (by kernel_rfl) (AE) ?_
 show V62 a b d
 rw [vc62]<;> simp only [go_sem]
 unfold inM
 by_cases h : b <= a <;> simp [h]
theorem ok62 : AH Try.prog 62 s62 := EH λ xs v p h _ => by
 unfold f62 at h; split at h
 ·cases h; exact c62 _ _ _
 ·cases h
def A81 := ann 13 [(62, s62)]
def V81 (s : Span) : Prop := BN Try.prog A81 Try.f81 (AF Try.f81) [.d (OW s)] (AD []) (.bool (RX s)) [] [] []
abbrev hd6:=RX
abbrev Ou:=Span.lo
abbrev Ok:=Span.hi
attribute [go_sem] hd6 Ou Ok
theorem vc81 (s : Span) : (V81 s) = (Qy (hd6 s) (inM (Ou s) (-1000000) (Ok s)) (inM (Ok s) (-1000000) 1000000)) := by kernel_rfl
def f81 : List AVal -> Option (AVal × List Prop)
 | [.d (.agg [.v (.int .i64 a), .v (.int .i64 b)])] => some (.bool (RX ⟨a, b⟩), [])
 | _ => none
def s81 := IY f81
theorem c81 (s : Span) : FnT Try.prog 81 [.d (OW s)] (AD []) (.bool (RX s)) [] := by
 refine Pb (A := A81) (ren := []) (fz := []) Try.func81 (by kernel_rfl) (AA ok62 AE) ?_
 show V81 s
 rw [vc81]<;> simp only [go_sem]
 unfold RX
 cases inM s.lo (-1000000) s.hi <;> simp
theorem ok81 : AH Try.prog 81 s81 := EH λ xs v p h _ => by
 unfold f81 at h; split at h
 ·cases h; exact c81 ⟨_, _⟩
 ·cases h
def B81 : AObj := .box [.fn (.func 81) [] []]
def C105 : Ctr := { ro := [100], α := Span, xs := λ s => [.d (OW s), .bptr 100 0], L := λ _ => [(100, B81)], val := λ s => .bool (!RX s), keep := λ _ => [(100, .live B81)] }
def d105 : List AVal -> Heap -> Option (Span × List (Nat × Nat) × List Nat)
 | [.d d, .bptr id _], _ => some (ZX d, [(100, id)], [])
 | _, _ => none
def A105 := { ann 8 [(81, s81)] with E := [100] }
def V105 (s : Span) : Prop := BN Try.prog A105 Try.f105 (AF Try.f105) (C105.xs s) (AD (C105.L s)) (C105.val s) (C105.keep s) [] []
abbrev QS a:=Gq a a
attribute [go_sem] QS
theorem BRE (s : Span) : (V105 s) = (QS (not (hd6 s))) := by kernel_rfl
theorem p105 (s : Span) : V105 s := by rw [BRE]<;> simp only [go_sem]
theorem BPX : AH Try.prog 105 (C105.spec d105) := Ctr.spec_ok (λ (s : Span) _ => Pb (A := A105) (ren := []) (fz := []) Try.func105 (by kernel_rfl) (AA ok81 AE) (p105 s)) _
def A109 (n : Nat) (g : Nat -> Span) : Ann := { ann 19 [(105, C105.spec d105)] with E := [100], loops := λ id => if id = 2 then some [{ α := Nat, dflt := 0, T := λ k => ⟨[(0, .d (ADT n g)), (1, .fn (.func 105) [] [.bptr 100 0]), (7, .int n), (8, .int k)], [(100, .live B81)]⟩, inv := λ k => k <= n /\ gO (λ i => !RX (g i)) n 0 = gO (λ i => !RX (g i)) (n - k) k, meas := λ k => n - k }] else none }
structure NSpan where
 n : Nat
 g : Nat -> Span
def C109 : Ctr := { ro := [100], α := NSpan, xs := λ s => [.d (ADT s.n s.g), .fn (.func 105) [] [.bptr 100 0]], L := λ _ => [(100, B81)], val := λ s => .int (gO (λ i => !RX (s.g i)) s.n 0), keep := λ _ => [(100, .live B81)], pre := λ s => [decide (s.n < 4611686018427387904) = true] }
def d109 : List AVal -> Heap -> Option (NSpan × List (Nat × Nat) × List Nat)
 | [.d (.list _ n g _), .fn _ _ [.bptr id _]], _ => some (⟨n, λ i => ZX (g i)⟩, [(100, id)], [])
 | _, _ => none
def V109 (s : NSpan) : Prop := BN Try.prog (A109 s.n s.g) Try.f109 (AF Try.f109) (C109.xs s) (AD (C109.L s)) (C109.val s) (C109.keep s) [] []
abbrev IJ:=@Exists Nat
abbrev ED:=@Eq Nat
abbrev Eh:=NSpan.n
abbrev AG:=λ (f : Nat -> Prop) => ∀ (x : Nat), f x
abbrev VK:=λ (p q : Prop) => p -> q
abbrev ON:=@LT.lt Nat instLTNat
abbrev AS:=@Eq Int
abbrev hd18:=NSpan.g
abbrev BT:=@Nat.cast Int instNatCastInt
abbrev EP:=@LE.le Nat instLENat
abbrev WC:=@HSub.hSub Nat Nat Nat (@instHSub Nat instSubNat)
abbrev IK:=@cond Prop
abbrev Tt:=λ (x0 x1 : Int) => decide (x0 < x1)
abbrev bX:=@LE.le Int Int.instLEInt
abbrev tW:=@LT.lt Int Int.instLTInt
abbrev hd28:=IntKind.i64
abbrev hd29:=@HAdd.hAdd Int Int Int (@instHAdd Int Int.instAdd)
abbrev iV a (b:Nat->Prop):=And a (AG b)
abbrev PV (a:Nat->Prop) (b:Nat->Prop):=iV (IJ a) b
abbrev Lc a b c d:=IK (Tt a b) c d
abbrev xB a b c d e:=VK a (Lc b c d e)
abbrev Fb a b c d e:=xB a (BT b) c d e
abbrev CG a b c d e:=Fb a b (BT c) d e
abbrev EG a b c d:=And a (IK b c d)
abbrev GM a b c d e f g h:=CG a b c (EG d e f g) h
abbrev Fs a:=AS a (-1)
abbrev AWJ (a:Nat->Bool) b c:=gO (λ i=>not (a i)) b c
abbrev Kp (a:Nat->Bool) b:=AWJ a b 0
abbrev Ia a b:=hd6 (hd18 a b)
abbrev AJ a b c:=And a (And b c)
abbrev O1 a b c d:=AJ a b (ON c d)
abbrev kE a b c d e:=O1 a b (WC c d) e
abbrev oJ a b c d e f:=kE a b c d (WC e f)
abbrev CB a b c d e:=oJ a b c d c e
abbrev Vg a b c:=And (EP a b) c
abbrev WD a b c d:=Vg a b (AS c d)
abbrev Ar a b c d e f:=CB a (WD b c d e) c b f
abbrev Hl (a:Nat->Bool) b c d:=AWJ a (WC b c) d
abbrev AP a b c d:=And a (AJ b c d)
abbrev DW a (b:Nat->Prop) c d:=AP a (AG b) c d
abbrev pZ a b:=AS (BT a) b
abbrev gR a:=IntKind.wrap hd28 a
abbrev NJ a b:=gR (hd29 a b)
abbrev qY a b:=pZ a (NJ b 1)
abbrev AU a b:=qY a (BT b)
abbrev AR a:=AS a a
abbrev GT a:=AR (BT a)
abbrev HJ a b c:=VK (ON a b) c
abbrev Es a b c d:=HJ a b (And c d)
abbrev Uu a:=AR (Ok a)
abbrev Uk a:=AR (Ou a)
abbrev jS a b c:=Es a b (Uk c) (Uu c)
abbrev DU a:=ED a a
abbrev iD a b c:=And a (tW b c)
abbrev ABZ a b c:=iD a b (BT c)
abbrev IV a:=bX 0 a
abbrev KX a b:=ABZ (IV a) a b
abbrev GF a b:=KX (BT a) b
abbrev Dq a b c d:=AJ (GF a b) c d
abbrev Hn a b c d:=AJ a (EP b c) d
abbrev YL a b c d e:=Hn a b c (AS d e)
abbrev AZ a:=pZ a 0
attribute [go_sem] IJ ED Eh AG VK ON AS hd18 BT EP WC IK Tt bX tW hd28 hd29 iV PV Lc xB Fb CG EG GM Fs AWJ Kp Ia AJ O1 kE oJ CB Vg WD Ar Hl AP DW pZ gR NJ qY AU AR GT HJ Es Uu Uk jS DU iD ABZ IV KX GF Dq Hn YL AZ
theorem BQX (s : NSpan) : (V109 s) = (PV (λ i=>YL (DW (DU (Eh s)) (λ j=>jS j (Eh s) (hd18 s j)) (GT (Eh s)) (AZ i)) i (Eh s) (Kp (λ j=>Ia s j) (Eh s)) (Hl (λ j=>Ia s j) (Eh s) i i)) (λ i=>GM (WD i (Eh s) (Kp (λ j=>Ia s j) (Eh s)) (Hl (λ j=>Ia s j) (Eh s) i i)) i (Eh s) (Dq i (Eh s) (Uk (hd18 s i)) (Uu (hd18 s i))) (not (Ia s i)) (AS (Kp (λ j=>Ia s j) (Eh s)) (BT i)) (IJ (λ j=>Ar (DW (DU (Eh s)) (λ k=>jS k (Eh s) (hd18 s k)) (GT (Eh s)) (AU j i)) j (Eh s) (Kp (λ k=>Ia s k) (Eh s)) (Hl (λ k=>Ia s k) (Eh s) j j) i)) (Fs (Kp (λ j=>Ia s j) (Eh s))))) := by kernel_rfl
theorem p109 (s : NSpan) (h : s.n < 4611686018427387904) : V109 s := by
 rw [BQX]<;> simp only [go_sem]
 simp only [CC, eq_self, implies_true, forall_const]
 refine ⟨⟨0, rfl, Nat.zero_le _, rfl⟩, λ a ⟨h1, h2⟩ => ⟨λ hlt => ?_, λ hge => ?_⟩⟩
 ·have hlt : a < s.n := by omega
  refine ⟨⟨by omega, by omega⟩, λ hp => ?_, λ hp => ⟨a + 1, (AL (by omega)).symm, ⟨by omega, ?_⟩, by omega⟩⟩
  ·rw [h2]; exact lH hlt (by simp [hp])
  ·rw [h2]; exact ADE hlt (by simp [hp])
 ·rw [h2]; exact zU (by omega)
theorem BPD : AH Try.prog 109 (C109.spec d109) := Ctr.spec_ok (λ (s : NSpan) h => Pb (A := A109 s.n s.g) (ren := []) (fz := []) Try.func109 (by kernel_rfl) (AA BPX AE) (p109 s (of_decide_eq_true h))) _
def C104 : Ctr := { C109 with val := λ s => .bool (decide (gO (λ i => !RX (s.g i)) s.n 0 >= 0)) }
def A104 := { ann 9 [(109, C109.spec d109)] with E := [100] }
def V104 (s : NSpan) : Prop := BN Try.prog A104 Try.f104 (AF Try.f104) (C104.xs s) (AD (C104.L s)) (C104.val s) (C104.keep s) [] []
abbrev hd30:=λ (x0 x1 : Nat) => decide (x0 < x1)
abbrev Hi:=true
abbrev AFH a:=hd3 a 0
abbrev Xu (a:Nat->Bool) b:=AFH (Kp a b)
abbrev MH a (b:Nat->Prop) c:=AJ a (AG b) c
abbrev Xo a (b:Nat->Prop) c:=MH (DU a) b c
abbrev LY a:=Gq a Hi
abbrev Sm a:=LY (hd30 a 4611686018427387904)
attribute [go_sem] hd30 Hi AFH Xu MH Xo LY Sm
theorem BRI (s : NSpan) : (V104 s) = (And (Xo (Eh s) (λ i=>jS i (Eh s) (hd18 s i)) (Sm (Eh s))) (QS (Xu (λ i=>Ia s i) (Eh s)))) := by kernel_rfl
def d104 : List AVal -> Heap -> Option (C104.α × List (Nat × Nat) × List Nat) := d109
theorem p104 (s : NSpan) (h : s.n < 4611686018427387904) : V104 s := by
 rw [BRI]<;> simp only [go_sem]; simp [h]
theorem BQV : AH Try.prog 104 (C104.spec d104) := Ctr.spec_ok (λ (s : NSpan) h => Pb (A := A104) (ren := []) (fz := []) Try.func104 (by kernel_rfl) (AA BPD AE) (p104 s (of_decide_eq_true h))) _
def A80 := ann 9 [(104, C104.spec d104)]
def V80 (s : NSpan) : Prop := BN Try.prog A80 Try.f80 (AF Try.f80) [.d (ADT s.n s.g), .fn (.func 81) [] []] (AD []) (.bool (XT (λ i => RX (s.g i)) s.n)) [] [] []
abbrev Q7:=XT
attribute [go_sem] Q7
theorem vc80 (s : NSpan) : (V80 s) = (And (Xo (Eh s) (λ i=>jS i (Eh s) (hd18 s i)) (Sm (Eh s))) (Gq (Q7 (λ i=>Ia s i) (Eh s)) (not (Xu (λ i=>Ia s i) (Eh s))))) := by kernel_rfl
def f80 : List AVal -> Option (AVal × List Prop)
 | [.d (.list 2 n g _), .fn (.func 81) [] []] => some (.bool (XT (λ i => RX (ZX (g i))) n), [decide (n < 4611686018427387904) = true, ∀ i, i < n -> AFF (g i)])
 | _ => none
def s80 := IY f80
theorem p80 (s : NSpan) (h : s.n < 4611686018427387904) : V80 s := by
 rw [vc80]<;> simp only [go_sem]; simp only [CC, eq_self, implies_true, forall_const, ge_iff_le, AGP]; exact h
theorem ok80 : AH Try.prog 80 s80 := EH λ xs v p h hp => by
 unfold f80 at h; split at h
 ·rename_i n g e
  cases h
  obtain ⟨h1, h2⟩ := hp
  have := Pb (A := A80) (L := []) (keep := []) (ren := []) (fz := []) Try.func80 (by kernel_rfl) (AA BQV AE) (p80 ⟨n, λ i => ZX (g i)⟩ (of_decide_eq_true h1))
  exact this.weak ⟨AOX λ i hi => AIM (h2 i hi), ⟨rfl, trivial, trivial⟩, trivial⟩
 ·cases h
def Pj (N : Net) (r : Reach) : Int := if (!inM r.fr 0 (N.nG - 1) || !inM r.to 0 (N.nG - 1)) || decide (r.fr = r.to) then 2 else if RX r.sp then 0 else 90
def QY (e : Nat -> Int) : Nat -> Nat -> Int
 | 0, _ => 0
 | n + 1, k => if e k = 0 then QY e n (k + 1) else e k
def QB (N : Net) : Int := if !inM N.nG 1 8 || decide (14 < N.nR) then 3 else if XT (λ i => RX (N.g i)) N.nG then QY (λ i => Pj N (N.r i)) N.nR 0 else 90
theorem Um {e : Nat -> Int} {n k : Nat} (hk : k < n) (h : e k ≠ 0) : QY e (n - k) k = e k := by
 obtain ⟨m, rfl⟩ : ∃ m, n = k + 1 + m := ⟨n - k - 1, by omega⟩
 rw [show k + 1 + m - k = m + 1 by omega]; simp [QY, h]
theorem AJU {e : Nat -> Int} {n k : Nat} (hk : k < n) (h : e k = 0) : QY e (n - k) k = QY e (n - (k + 1)) (k + 1) := by
 obtain ⟨m, rfl⟩ : ∃ m, n = k + 1 + m := ⟨n - k - 1, by omega⟩
 rw [show k + 1 + m - k = m + 1 by omega, show k + 1 + m - (k + 1) = m by omega]; simp [QY, h]
theorem AFJ {e : Nat -> Int} {n k : Nat} (hk : n <= k) : QY e (n - k) k = 0 := by
 rw [show n - k = 0 by omega]; rfl
def bNet (N : Net) : AObj := .box [.d (ADT N.nG N.g), .d (AHH N.nR N.r)]
def A44 (N : Net) : Ann := { ann 61 [(62, s62), (80, s80), (81, s81)] with loops := λ id => if id = 6 then some [{ α := Nat, dflt := 0, T := λ k => ⟨[(1, .bptr 1000 0), (23, .d (AHH N.nR N.r)), (24, .int N.nR), (25, .int k)], [(1000, .live (bNet N))]⟩, inv := λ k => k <= N.nR /\ N.nG <= 8 /\ N.nR <= 14 /\ QB N = QY (λ i => Pj N (N.r i)) (N.nR - k) k, meas := λ k => N.nR - k }] else none }
def V44 (N : Net) : Prop := BN Try.prog (A44 N) Try.f44 (AF Try.f44) [.d (eNet N)] (AD []) (.int (QB N)) [] [] []
theorem vc44 (N : Net) : (V44 N) = (bif bif !inM (↑N.nG : Int) 1 8 then true else decide ((↑N.nR : Int) > 14) then QB N = 3 else (decide (N.nG < 4611686018427387904) = true /\ ∀ (i : Nat), i < N.nG -> True) /\ bif !XT
 (λ (i : Nat) => RX (N.g i)) N.nG then QB N = 90 else (∃ (a : Nat), (N.nR = N.nR /\ (∀ (i : Nat), i < N.nR -> (N.r i).fr = (N.r i).fr /\ (N.r i).to = (N.r i).to /\ (N.r i).sp.lo = (N.r i).sp.lo /\ (N.r i).sp.hi = (N.r
 i).sp.hi) /\ (↑N.nR : Int) = (↑N.nR : Int) /\ (↑a : Int) = 0 /\ N.nG = N.nG /\ (∀ (i : Nat), i < N.nG -> (N.g i).lo = (N.g i).lo /\ (N.g i).hi = (N.g i).hi) /\ N.nR = N.nR /\ ∀ (i : Nat), i < N.nR -> (N.r i).fr = (N.r i).fr /\
 (N.r i).to = (N.r i).to /\ (N.r i).sp.lo = (N.r i).sp.lo /\ (N.r i).sp.hi = (N.r i).sp.hi) /\ a <= N.nR /\ N.nG <= 8 /\ N.nR <= 14 /\ QB N = QY (λ (i : Nat) => Pj N (N.r i)) (N.nR - a) a) /\ ∀ (a : Nat), a <= N.nR /\
 N.nG <= 8 /\ N.nR <= 14 /\ QB N = QY (λ (i : Nat) => Pj N (N.r i)) (N.nR - a) a -> bif decide ((↑a : Int) < (↑N.nR : Int)) then (0 <= (↑a : Int) /\ (↑a : Int) < (↑N.nR : Int)) /\ bif bif bif !inM (N.r a).fr 0
 (IntKind.i64.wrap ((↑N.nG : Int) - 1)) then true else !inM (N.r a).to 0 (IntKind.i64.wrap ((↑N.nG : Int) - 1)) then true else (N.r a).fr == (N.r a).to then QB N = 2 else bif !RX (N.r a).sp then QB N = 90 else
 ∃ (a_2 : Nat), (N.nR = N.nR /\ (∀ (i : Nat), i < N.nR -> (N.r i).fr = (N.r i).fr /\ (N.r i).to = (N.r i).to /\ (N.r i).sp.lo = (N.r i).sp.lo /\ (N.r i).sp.hi = (N.r i).sp.hi) /\ (↑N.nR : Int) = (↑N.nR : Int) /\ (↑a_2 : Int) =
 IntKind.i64.wrap ((↑a : Int) + 1) /\ N.nG = N.nG /\ (∀ (i : Nat), i < N.nG -> (N.g i).lo = (N.g i).lo /\ (N.g i).hi = (N.g i).hi) /\ N.nR = N.nR /\ ∀ (i : Nat), i < N.nR -> (N.r i).fr = (N.r i).fr /\ (N.r i).to = (N.r i).to /\
 (N.r i).sp.lo = (N.r i).sp.lo /\ (N.r i).sp.hi = (N.r i).sp.hi) /\ (a_2 <= N.nR /\ N.nG <= 8 /\ N.nR <= 14 /\ QB N = QY (λ (i : Nat) => Pj N (N.r i)) (N.nR - a_2) a_2) /\ N.nR - a_2 < N.nR - a else QB N = 0) := by
 kernel_rfl
def f44 : List AVal -> Option (AVal × List Prop)
 | [.d (.agg [.list 2 nG g _, .list 4 nR r _])] => some (.int (QB ⟨nG, λ i => ZX (g i), nR, λ i => RN (r i)⟩), [∀ i, i < nG -> AFF (g i), ∀ i, i < nR -> S4 (r i)])
 | _ => none
def s44 := IY f44
theorem p44 (N : Net) : V44 N := by
 simp only [vc44, CC, eq_self, implies_true, forall_const]
 refine ⟨λ h => ?_, λ h => ?_⟩
 ·have h : (!inM N.nG 1 8 || decide (14 < N.nR)) = true := by
   rw [<- h]; cases inM N.nG 1 8 <;> simp <;> omega
  simp only [QB, h, if_true]
 have h' : (!inM N.nG 1 8 || decide (14 < N.nR)) = false := by
  rw [<- h]; cases inM N.nG 1 8 <;> simp <;> omega
 have hb : N.nG <= 8 /\ 1 <= N.nG /\ N.nR <= 14 := by
  simp only [Bool.or_eq_false_iff, Bool.not_eq_false', decide_eq_false_iff_not, inM, Bool.and_eq_true, decide_eq_true_eq] at h'
  omega
 refine ⟨by omega, λ h2 => ?_, λ h2 => ?_⟩
 ·have h2 : XT (λ i => RX (N.g i)) N.nG = false := by simpa using h2
  simp [QB, h', h2]
 have h2 : XT (λ i => RX (N.g i)) N.nG = true := by simpa using h2
 refine ⟨⟨0, rfl, Nat.zero_le _, hb.1, hb.2.2, ?_⟩, λ a ⟨h3, _, _, h4⟩ => ⟨λ hlt => ?_, λ hge => ?_⟩⟩
 ·simp [QB, h', h2]
 ·have hw : IntKind.i64.wrap ((N.nG : Int) - 1) = (N.nG : Int) - 1 := Gp (by omega) (by omega)
  have hlt : a < N.nR := by omega
  simp only [hw]
  refine ⟨⟨by omega, by omega⟩, λ h5 => ?_, λ h5 => ⟨λ h6 => ?_, λ h6 => ⟨a + 1, (AL (by omega)).symm, ⟨by omega, hb.1, hb.2.2, ?_⟩, by omega⟩⟩⟩
  ·have e : Pj N (N.r a) = 2 := by
    unfold Pj; rw [if_pos]; rw [<- h5]
    cases inM (N.r a).fr 0 (N.nG - 1) <;> cases inM (N.r a).to 0 (N.nG - 1) <;> simp [Bool.beq_eq_decide_eq]
   rw [h4, Um hlt (by rw [e]; decide), e]
  all_goals
   have e0 : ((!inM (N.r a).fr 0 (N.nG - 1) || !inM (N.r a).to 0 (N.nG - 1)) || decide ((N.r a).fr = (N.r a).to)) = false := by
    rw [<- h5]
    cases inM (N.r a).fr 0 (N.nG - 1) <;> cases inM (N.r a).to 0 (N.nG - 1) <;> simp [Bool.beq_eq_decide_eq]
  ·have h6 : RX (N.r a).sp = false := by simpa using h6
   have e : Pj N (N.r a) = 90 := by unfold Pj; rw [e0, h6]; rfl
   rw [h4, Um hlt (by rw [e]; decide), e]
  ·have h6 : RX (N.r a).sp = true := by simpa using h6
   have e : Pj N (N.r a) = 0 := by unfold Pj; rw [e0, h6]; rfl
   rw [h4]; exact AJU hlt e
 ·rw [h4]; exact AFJ (by omega)
theorem BHN {nG nR : Nat} {g r : Nat -> DVal} {a b : Bool} (hg : ∀ i, i < nG -> AFF (g i)) (hr : ∀ i, i < nR -> S4 (r i)) : IH (eNet ⟨nG, λ i => ZX (g i), nR, λ i => RN (r i)⟩) (.agg [.list 2 nG g a, .list 4 nR r b]) := by
 simp only [eNet, IH, ZZ]
 exact ⟨AOX λ i hi => AIM (hg i hi), AOX λ i hi => AWT (hr i hi), trivial⟩
theorem R7 : AH Try.prog 44 s44 := EH λ xs v p h hp => by
 unfold f44 at h; split at h
 ·rename_i nG g e1 nR r e2
  cases h
  obtain ⟨h1, h2⟩ := hp
  have := Pb (L := []) (keep := []) (ren := []) (fz := []) Try.func44 (by kernel_rfl) (AA ok62 (AA ok80 (AA ok81 AE))) (p44 ⟨nG, λ i => ZX (g i), nR, λ i => RN (r i)⟩)
  exact this.weak (BMY (BHN h1 h2))
 ·cases h
end Go.Bal
