/- Package chart: the order of 13 and 14 notes. -/
import Derived.Test.YtdbjalgfomknhaaGreatChPd0
set_option linter.unusedVariables false
set_option linter.unusedSimpArgs false
namespace Go.Bal
open Go Go.Sym Go.Proofs
structure Gn where
 g : Cht
 l : List Int
 a : Nat
 b : Nat
def gnK (a : Gn) (l : List Int) : List (Nat × HCell) := [(100, .live (AHW a.l.length l)), (101, .live (bxG a.g))]
def gnL (a : Gn) : List (Nat × AObj) := [(100, rowI a.l), (101, bxG a.g)]
def nY (g : Cht) (l : List Int) : Prop := ∀ i, i < l.length -> 0 <= gD l i /\ gD l i < g.ns.length
def gnOk (a : Gn) : Prop := a.l.length < 1073741824 /\ ∀ i, i < a.l.length -> 0 <= gD a.l i /\ gD a.l i < a.g.ns.length
def whG (a : Gn) (m : List Int) : List Int := wh (a.l.take a.a) m (a.l.drop a.b)
def dGn : List AVal -> Heap -> Option (Gn × List (Nat × Nat) × List Nat)
 | [.own id _ _ n, .d x, .d y, .fn (.func f) [] [.bptr c _]], H => if f = WG then match H id, Fh H c with
  | .live (.row _ m r), some q => some (⟨q, IK n λ i => HK (r i), (HK x).toNat, (HK y).toNat⟩, [(100, id), (101, c)], [])
  | _, _ => none else none
 | _, _ => none
def C_insS : Ctr := { ro := [101], α := Gn, xs := λ a => [.own 100 1 0 a.l.length, .int a.a, .int a.b, mC], L := gnL, val := λ _ => .d (.tup []), keep := λ a => gnK a (Z9 (KY a.g) a.a a.b a.l), pre := λ a => [(a.a <= a.b /\ a.b <= a.l.length) /\ gnOk a] }
def insI (a : Gn) (m : List Int) : Prop := m.length = a.b - a.a /\ ∀ i, i < a.b - a.a -> 0 <= gD m i /\ gD m i < a.g.ns.length
def BXD (a : Gn) : Shape := { α := IL2, dflt := default, T := λ x => ⟨[(0, .own 100 1 0 a.l.length), (1, .int a.a), (2, .int a.b), (3, mC), (8, .int ((a.a + x.i : Nat) : Int))], gnK a (whG a x.l)⟩, inv := λ x => 1 <= x.i /\ (x.i <= a.b - a.a ∨ x.i = 1) /\ insI a x.l /\ kN (KY a.g) (mdl a.a a.b a.l) = stR (KY a.g) (a.b - a.a - x.i) x.i x.l, meas := λ x => a.b - a.a - x.i }
def BWK (a : Gn) (m : Nat) : Shape := { α := IJL, dflt := default, T := λ x => ⟨[(0, .own 100 1 0 a.l.length), (1, .int a.a), (2, .int a.b), (3, mC), (8, .int ((a.a + x.i : Nat) : Int)), (9, .int ((a.a + x.j : Nat) : Int))], gnK a (whG a x.l)⟩, inv := λ x => a.b - a.a - x.i = m /\ 1 <= x.i /\ x.i < a.b - a.a /\ x.j <= x.i /\ insI a x.l /\ kN (KY a.g) (mdl a.a a.b a.l) = stR (KY a.g) (a.b - a.a - (x.i + 1)) (x.i + 1) (xJ (KY a.g) x.j x.l), meas := λ x => x.j }
def BGZ (a : Gn) : Ann := { ann 53 [(WG, C_fw1.spec dGAB)] with E := [100, 101], loops := λ id => if id = 1 then some [BXD a] else none, inner := λ gs id => if id = 4 then some [BWK a (gs.getD 0 0)] else none }
def BGE (a : Gn) : Prop := CH Try.prog (BGZ a) AEB (AH AEB) (C_insS.xs a) (AB (C_insS.L a)) (C_insS.val a) (C_insS.keep a) [] []
abbrev VR:=Gn.l
abbrev Nd:=Gn.a
abbrev Nh:=Gn.b
abbrev YI:=IL2.i
abbrev Yh:=IL2.l
abbrev MR:=Gn.g
abbrev Zy:=@Eq (List Int)
abbrev Lf:=IJL.i
abbrev nU:=IJL.j
abbrev kD:=IJL.l
abbrev aG a:=GR (MR a)
abbrev YG a:=XH (MR a)
abbrev cB a:=PG (VR a)
abbrev RU a:=LO (Nh a) (Nd a)
abbrev Yc a b:=LO (RU a) b
abbrev ZK a b c d:=BH a b (CN c) (DM c d)
abbrev lJ a:=AN (MR a)
abbrev Gu a b c d e (f:Nat->Prop) g:=FX a b c d e b (AD f) g
abbrev Gr a b:=whG a (kD b)
abbrev Sg a b:=QC (Nd a) b
abbrev jT a:=IM (Nh a)
abbrev gK a:=IM (Nd a)
abbrev kP a:=DF (Lf a)
abbrev Oe a b:=FK a (UU b)
abbrev Iu a b:=Sg a (nU b)
abbrev Hr a b:=ME (Iu a b)
abbrev jN a b:=BV (Iu a b)
abbrev aL a:=FP (VR a)
abbrev bH a:=BZ (Nd a)
abbrev QS a b:=Ao (AQ a) a b
abbrev VA a b c d e f g h p:=AK (AV a) b c d e f g h p
abbrev UX a b c d e f g:=QJ a b c d (RC a) e f g
attribute [go_sem] VR Nd Nh YI Yh MR Zy Lf nU kD aG YG cB RU Yc ZK lJ Gu Gr Sg jT gK kP Oe Iu Hr jN aL bH QS VA UX
theorem BJB (a : Gn) : (BGE a) = (And ((@Exists IL2) (λ i=>AF (Gu AI (cB a) (gK a) (jT a) (BD (Sg a (YI i)) (Nd a)) (λ j=>TZ j (VR a) (whG a (Yh i)) j (VR a) j) (aG a)) (PH (YI i)) (Or (DJ (YI i) (RU a)) (JD (YI i))) (HS (EN (Yh i) (RU a)) (λ j=>ZK j (RU a) (FK (Yh i) j) (lJ a))) (Zy (kN (YG a) (mdl (Nd a) (Nh a) (VR a))) (stR (YG a) (Yc a (YI i)) (YI i) (Yh i))))) ((λ (f : IL2 -> Prop) => ∀ (x : IL2), f x) (λ i=>GQ (AO (PH (YI i)) (Or (DJ (YI i) (RU a)) (JD (YI i))) (HS (EN (Yh i) (RU a)) (λ j=>ZK j (RU a) (FK (Yh i) j) (lJ a))) (Zy (kN (YG a) (mdl (Nd a) (Nh a) (VR a))) (stR (YG a) (Yc a (YI i)) (YI i) (Yh i)))) (Sg a (YI i)) (Nh a) ((@Exists IJL) (λ j=>IR (Rd AI (cB a) (gK a) (jT a) (NP (Sg a (Lf j)) (Sg a (YI i))) (NP (Iu a j) (Sg a (YI i))) (AD (λ k=>TZ k (VR a) (Gr a j) k (whG a (Yh i)) k)) (aG a)) (Af (Yc a (Lf j)) (RU a) (YI i)) (PH (Lf j)) (CL (Lf j) (RU a)) (DJ (nU j) (Lf j)) (HS (EN (kD j) (RU a)) (λ k=>ZK k (RU a) (FK (kD j) k) (lJ a))) (Zy (kN (YG a) (mdl (Nd a) (Nh a) (VR a))) (stR (YG a) (Yc a (kP j)) (kP j) (xJ (YG a) (nU j) (kD j)))))) ((λ (f : IJL -> Prop) => ∀ (x : IJL), f x) (λ j=>BU (EW (Af (Yc a (Lf j)) (RU a) (YI i)) (PH (Lf j)) (CL (Lf j) (RU a)) (DJ (nU j) (Lf j)) (HS (EN (kD j) (RU a)) (λ k=>ZK k (RU a) (FK (kD j) k) (lJ a))) (Zy (kN (YG a) (mdl (Nd a) (Nh a) (VR a))) (stR (YG a) (Yc a (kP j)) (kP j) (xJ (YG a) (nU j) (kD j))))) (And (AF (HF (XX (Iu a j) (bH a)) (MW (Iu a j) (VR a))) (HF (XX (Iu a j) (bH a)) (PI (jN a j) (aL a))) (NU (XX (Iu a j) (bH a)) (Hr a j) (aL a)) (HF (XX (Iu a j) (bH a)) (NW (Hr a j) (aL a))) (HF (XX (Iu a j) (bH a)) (Cj (AG (FK (Gr a j) (jN a j))) (Oe (Gr a j) (Hr a j)) (QS (MR a) (VA (MR a) (BO (MR a)) (BL (MR a)) (BE (MR a)) (BI (MR a)) (AQ (MR a)) (AT (MR a)) (AP (MR a)) (UX (MR a) (CQ (MR a)) (DN (MR a)) (DH (MR a)) (CD (FK (Gr a j) (jN a j)) (DA (MR a))) (CN (Oe (Gr a j) (Hr a j))) (DM (Oe (Gr a j) (Hr a j)) (DA (MR a))))))))) (DZ (ER (XX (Iu a j) (bH a)) (JH (Qx (XH (DK (MR a)) (FK (Gr a j) (jN a j))) (XH (DK (MR a)) (Oe (Gr a j) (Hr a j)))) 0)) (AO (CD (Hr a j) (aL a)) (CL (UU (Hr a j)) (aL a)) (MW (Iu a j) (VR a)) (XG (CL (jN a j) (aL a)) (MW (Iu a j) (VR a)) (CD (Hr a j) (aL a)) (NW (Hr a j) (aL a)))) ((@Exists IJL) (λ k=>JB (Rd AI (cB a) (gK a) (jT a) (NP (Sg a (Lf k)) (Sg a (Lf j))) (EO (Iu a k) (Hr a j)) (AD (λ l=>LL l (VR a) (Gr a k) l (JJ l (Hr a j) (FK (Gr a j) (jN a j)) (Ca l (jN a j) (Oe (Gr a j) (Hr a j)) (FK (Gr a j) l))))) (aG a)) (EW (Af (Yc a (Lf k)) (RU a) (YI i)) (PH (Lf k)) (CL (Lf k) (RU a)) (DJ (nU k) (Lf k)) (HS (EN (kD k) (RU a)) (λ l=>ZK l (RU a) (FK (kD k) l) (lJ a))) (Zy (kN (YG a) (mdl (Nd a) (Nh a) (VR a))) (stR (YG a) (Yc a (kP k)) (kP k) (xJ (YG a) (nU k) (kD k))))) (nU k) (nU j))) ((@Exists IL2) (λ k=>EB (Gu AI (cB a) (gK a) (jT a) (BD (Sg a (YI k)) (Sg a (Lf j))) (λ l=>TZ l (VR a) (whG a (Yh k)) l (Gr a j) l) (aG a)) (AO (PH (YI k)) (Or (DJ (YI k) (RU a)) (JD (YI k))) (HS (EN (Yh k) (RU a)) (λ l=>ZK l (RU a) (FK (Yh k) l) (lJ a))) (Zy (kN (YG a) (mdl (Nd a) (Nh a) (VR a))) (stR (YG a) (Yc a (YI k)) (YI k) (Yh k)))) (RU a) (YI k) (YI i))))))) (AE (cB a) (AD (λ j=>TZ j (VR a) (Z9 (YG a) (Nd a) (Nh a) (VR a)) j (whG a (Yh i)) j)) (aG a))))) := by kernel_rfl
def dGnp : List AVal -> Heap -> Option (Gn × List (Nat × Nat) × List Nat)
 | [.own id _ _ n, .d x, .d y, _, .fn (.func f) [] [.bptr c _]], H => if f = WG then match H id, Fh H c with
  | .live (.row _ m r), some q => some (⟨q, IK n λ i => HK (r i), (HK x).toNat, (HK y).toNat⟩, [(100, id), (101, c)], [])
  | _, _ => none else none
 | _, _ => none
def C_pdqS : Ctr := { ro := [101], α := Gn, xs := λ a => [.own 100 1 0 a.l.length, .int a.a, .int a.b, .any, mC], L := gnL, val := λ _ => .d (.tup []), keep := λ a => gnK a (Z9 (KY a.g) a.a a.b a.l), pre := λ a => [(a.a <= a.b /\ a.b <= a.l.length /\ a.b <= a.a + 12) /\ gnOk a] }
def pq2S (a : Gn) : Shape := { α := One, dflt := default, T := λ _ => ⟨[(0, .own 100 1 0 a.l.length), (1, .int a.a), (2, .int a.b), (3, .any), (4, mC), (10, .bool true), (11, .bool true)], gnK a a.l⟩, inv := λ _ => True, meas := λ _ => 0 }
def BHU (a : Gn) : Ann := { ann 148 [(V0, C_insS.spec dGn)] with E := [100, 101], loops := λ id => if id = 2 then some [pq2S a] else none, cutIn := λ gs id => if id = 5 then some [] else none }
def BBV (a : Gn) : Prop := CH Try.prog (BHU a) ADI (AH ADI) (C_pdqS.xs a) (AB (C_pdqS.L a)) (C_pdqS.val a) (C_pdqS.keep a) [] []
abbrev mF a:=QY (VR a)
abbrev Ub a:=XH (DK a)
abbrev Hj a b:=AE AI a b
abbrev Wt a b c d:=ZK a (FP b) c d
abbrev UO a b c d:=Wt a b (FK b c) (DA d)
abbrev Fq a:=LW (FP a)
attribute [go_sem] mF Ub Hj Wt UO Fq
theorem BKD (a : Gn) : (BBV a) = (PO (HI (AF AI (cB a) (gK a) (jT a) (XA GF (cB a) (MK (VR a)) (aG a)))) (QQ (TJ (hd7 (GI (BZ (Nh a)) (bH a)) 12) (Hj (WS (VR a)) (AK (gK a) (jT a) (WS (VR a)) (CW (mF a) (VR a)) (AQ (MR a)) (AT (MR a)) (AP (MR a)) (AS (MR a)) (VA (MR a) (BO (MR a)) (BL (MR a)) (BE (MR a)) (BI (MR a)) (AQ (MR a)) (AT (MR a)) (AP (MR a)) (UX (MR a) (CQ (MR a)) (DN (MR a)) (DH (MR a)) (GZ (Nd a) (Nh a) (RL (Nh a) (mF a))) (Fq (mF a)) (AD (λ i=>UO i (mF a) i (MR a))))))) (CB (VR a) (mF a)) (AD (λ i=>TZ i (VR a) (Z9 (YG a) (Nd a) (Nh a) (VR a)) i (Z9 (Ub (MR a)) (Nd a) (Nh a) (mF a)) i)) (aG a) JV))) := by kernel_rfl
structure O2 where
 g : Cht
 l : List Int
 a : Int
 b : Int
 s : Int
def o2K (g : Cht) (l : List Int) (s : Int) : List (Nat × HCell) := [(100, .live (rowI l)), (101, .live (bxG g)), (102, .live (.box [.int s]))]
def o2Lh (g : Cht) (l : List Int) (s : Int) : List (Nat × AObj) := [(100, rowI l), (101, bxG g), (102, .box [.int s])]
def dO2 : List AVal -> Heap -> Option (O2 × List (Nat × Nat) × List Nat)
 | [.own id _ _ n, .d x, .d y, .bptr s _, .fn (.func f) [] [.bptr c _]], H => if f = WG then match H id, H s, Fh H c with
  | .live (.row _ m r), .live (.box [.d (.v (.int _ v))]), some q => some (⟨q, IK n λ i => HK (r i), HK x, HK y, v⟩, [(100, id), (101, c), (102, s)], [])
  | _, _, _ => none else none
 | _, _ => none
def C_o2 : Ctr := { ro := [100, 101], α := O2, xs := λ a => [.own 100 1 0 a.l.length, .int a.a, .int a.b, .bptr 102 0, mC], L := λ a => o2Lh a.g a.l a.s, val := λ a => .tup [.int (o2A (KY a.g) a.l a.a a.b), .int (o2B (KY a.g) a.l a.a a.b)], keep := λ a => o2K a.g a.l (o2S (KY a.g) a.l a.a a.b a.s), pre := λ a => [((0 <= a.a /\ a.a < a.l.length) /\ 0 <= a.b /\ a.b < a.l.length) /\ nY a.g a.l] }
def A_o2 : Ann := { ann 32 [(WG, C_fw1.spec dGAB)] with E := [100, 101, 102] }
def V_o2 (a : O2) : Prop := CH Try.prog A_o2 AEM (AH AEM) (C_o2.xs a) (AB (C_o2.L a)) (C_o2.val a) (C_o2.keep a) [] []
abbrev ASZ (a : O2) : Nat := 0 + a.b.toNat
abbrev ATU (a : O2) : Nat := 0 + a.a.toNat
abbrev J3 (a : O2) : Int := gD a.l (ASZ a)
abbrev F6 (a : O2) : Int := gD a.l (ATU a)
abbrev ABN (a : O2) : Prop := a.g.p.lo = a.g.p.lo
abbrev AEC (a : O2) : Prop := a.g.p.hi = a.g.p.hi
abbrev AMQ (a : O2) : List Mk := IK a.g.ms.length λ (i : Nat) => gD a.g.ms i
abbrev ALY (a : O2) : Nat := (AMQ a).length
abbrev ATV (a : O2) (i : Nat) : Mk := gD (AMQ a) i
abbrev ARG (a : O2) (i : Nat) : Int := (ATV a i).pl
abbrev AJH (a : O2) (i : Nat) : Int := (ATV a i).ht
abbrev AAU (a : O2) : List Nt := IK a.g.ns.length λ (i : Nat) => gD a.g.ns i
abbrev qF (a : O2) : Nat := (AAU a).length
abbrev AAO (a : O2) (i : Nat) : Nt := gD (AAU a) i
abbrev AMB (a : O2) (i : Nat) : Int := (AAO a i).mi
abbrev ALC (a : O2) (i : Nat) : Span := (AAO a i).t
abbrev AJN (a : O2) (i : Nat) : Int := (ALC a i).lo
abbrev ALL (a : O2) (i : Nat) : Int := (ALC a i).hi
abbrev ALP (a : O2) (i : Nat) : Span := (AAO a i).s
abbrev AMM (a : O2) (i : Nat) : Int := (ALP a i).lo
abbrev AMY (a : O2) (i : Nat) : Int := (ALP a i).hi
abbrev AMJ (a : O2) : Cht := Cht.mk a.g.p a.g.base a.g.scale a.g.off (AMQ a) (AAU a)
abbrev AKZ (a : O2) : Int := o2A (KY a.g) a.l a.a a.b
abbrev ALG (a : O2) : Int := o2B (KY a.g) a.l a.a a.b
abbrev AMZ (a : O2) : Prop := a.l.length = a.l.length
abbrev AJZ (a : O2) : Prop := ∀ (i : Nat), i < a.l.length -> gD a.l i = gD a.l i
abbrev AKP (a : O2) : Prop := a.g.ms.length = a.g.ms.length
abbrev ALU (a : O2) : Prop := ∀ (i : Nat), i < a.g.ms.length -> (gD a.g.ms i).pl = (gD a.g.ms i).pl /\ (gD a.g.ms i).ht = (gD a.g.ms i).ht
abbrev AKQ (a : O2) : Prop := a.g.ns.length = a.g.ns.length
abbrev AKI (a : O2) : Prop := ∀ (i : Nat), i < a.g.ns.length -> (gD a.g.ns i).mi = (gD a.g.ns i).mi /\ (gD a.g.ns i).t.lo = (gD a.g.ns i).t.lo /\ (gD a.g.ns i).t.hi = (gD a.g.ns i).t.hi /\ (gD a.g.ns i).s.lo = (gD a.g.ns
 i).s.lo /\ (gD a.g.ns i).s.hi = (gD a.g.ns i).s.hi
abbrev ALB (a : O2) : Int := o2S (KY a.g) a.l a.a a.b a.s
theorem BYL (a : O2) : (V_o2 a) = (((0 <= a.b /\ a.b < (↑a.l.length : Int)) /\ ASZ a < a.l.length /\ (0 <= a.a /\ a.a < (↑a.l.length : Int)) /\ ATU a < a.l.length /\ J3 a = J3 a /\ F6 a = F6 a /\ ABN a /\
 AEC a /\ a.g.base = a.g.base /\ a.g.scale = a.g.scale /\ a.g.off = a.g.off /\ ALY a = a.g.ms.length /\ (∀ (i : Nat), i < ALY a -> ARG a i = (gD a.g.ms i).pl /\ AJH a i = (gD a.g.ms i).ht) /\ qF a =
 a.g.ns.length /\ (∀ (i : Nat), i < qF a -> AMB a i = (gD a.g.ns i).mi /\ AJN a i = (gD a.g.ns i).t.lo /\ ALL a i = (gD a.g.ns i).t.hi /\ AMM a i = (gD a.g.ns i).s.lo /\ AMY a i = (gD a.g.ns i).s.hi) /\
 ABN a /\ AEC a /\ a.g.base = a.g.base /\ a.g.scale = a.g.scale /\ a.g.off = a.g.off /\ a.g.ms.length = ALY a /\ (∀ (i : Nat), i < a.g.ms.length -> (gD a.g.ms i).pl = ARG a i /\ (gD a.g.ms i).ht = AJH a i) /\
 a.g.ns.length = qF a /\ (∀ (i : Nat), i < a.g.ns.length -> (gD a.g.ns i).mi = AMB a i /\ (gD a.g.ns i).t.lo = AJN a i /\ (gD a.g.ns i).t.hi = ALL a i /\ (gD a.g.ns i).s.lo = AMM a i /\ (gD a.g.ns i).s.hi =
 AMY a i) /\ (0 <= J3 a /\ J3 a < (↑(qF a) : Int)) /\ 0 <= F6 a /\ F6 a < (↑(qF a) : Int)) /\ bif decide (kJ (KY (AMJ a) (J3 a)) (KY (AMJ a) (F6 a)) < 0) then AKZ a = a.b /\
 ALG a = a.a /\ AMZ a /\ AJZ a /\ ABN a /\ AEC a /\ a.g.base = a.g.base /\ a.g.scale = a.g.scale /\ a.g.off = a.g.off /\ AKP a /\ ALU a /\ AKQ a /\ AKI a /\ ALB a = IntKind.i64.wrap (a.s + 1)
 else AKZ a = a.a /\ ALG a = a.b /\ AMZ a /\ AJZ a /\ ABN a /\ AEC a /\ a.g.base = a.g.base /\ a.g.scale = a.g.scale /\ a.g.off = a.g.off /\ AKP a /\ ALU a /\ AKQ a /\ AKI a /\ ALB a = a.s) :=
 by kernel_rfl
structure Md where
 g : Cht
 l : List Int
 a : Int
 b : Int
 c : Int
 s : Int
def dMd : List AVal -> Heap -> Option (Md × List (Nat × Nat) × List Nat)
 | [.own id _ _ n, .d x, .d y, .d z, .bptr s _, .fn (.func f) [] [.bptr c _]], H => if f = WG then match H id, H s, Fh H c with
  | .live (.row _ m r), .live (.box [.d (.v (.int _ v))]), some q => some (⟨q, IK n λ i => HK (r i), HK x, HK y, HK z, v⟩, [(100, id), (101, c), (102, s)], [])
  | _, _, _ => none else none
 | _, _ => none
def C_md : Ctr := { ro := [100, 101], α := Md, xs := λ a => [.own 100 1 0 a.l.length, .int a.a, .int a.b, .int a.c, .bptr 102 0, mC], L := λ a => o2Lh a.g a.l a.s, val := λ a => .int (mnM (KY a.g) a.l a.a a.b a.c), keep := λ a => o2K a.g a.l (mnS (KY a.g) a.l a.a a.b a.c a.s), pre := λ a => [((0 <= a.a /\ a.a < a.l.length) /\ (0 <= a.b /\ a.b < a.l.length) /\ 0 <= a.c /\ a.c < a.l.length) /\ nY a.g a.l] }
def A_md : Ann := { ann 41 [(ACN, C_o2.spec dO2)] with E := [100, 101, 102] }
def V_md (a : Md) : Prop := CH Try.prog A_md ACV (AH ACV) (C_md.xs a) (AB (C_md.L a)) (C_md.val a) (C_md.keep a) [] []
abbrev Ei:=Md.l
abbrev Fw:=Md.a
abbrev Ga:=Md.b
abbrev LN:=Md.g
abbrev jY:=Md.c
abbrev IT a:=QY (Ei a)
abbrev Cy a:=Ub (LN a)
abbrev Wq a b c d:=o2B (Cy a) (IT b) c d
abbrev gO a:=AP (LN a)
abbrev jU a:=AQ (LN a)
abbrev Ir a b c d e (f:Nat->Prop) g (h:Nat->Prop):=KM a (AS b) (AV b) c d e f g h
abbrev mJ a:=AT (LN a)
attribute [go_sem] Ei Fw Ga LN jY IT Cy Wq gO jU Ir mJ
theorem BWQ (a : Md) : (V_md a) = (FX (AF AI (CB (IT a) (Ei a)) (AG (Fw a)) (AG (Ga a)) (DC (CB (IT a) (Ei a)) (λ i=>LS i (IT a) (Ei a)) (jU a) (mJ a) (gO a) (AS (LN a)) (AV (LN a)) (BO (LN a)) (UW (LN a) (AG (Md.s a)) (CB (Ei a) (IT a)) (CW (Ei a) (IT a)) (jU a) (mJ a) (Ir (gO a) (LN a) (CQ (LN a)) (DN (LN a)) (DH (LN a)) (λ i=>DI i (LN a)) (XI (Fw a) (FP (IT a)) (Ga a)) (λ i=>UO i (IT a) i (LN a)))))) (AF AI (CB (IT a) (Ei a)) (AG (Wq a a (Fw a) (Ga a))) (AG (jY a)) (DC (CB (IT a) (Ei a)) (λ i=>LS i (IT a) (Ei a)) (jU a) (mJ a) (gO a) (AS (LN a)) (AV (LN a)) (BO (LN a)) (UW (LN a) (AG (o2S (Cy a) (IT a) (Fw a) (Ga a) (Md.s a))) (CB (Ei a) (IT a)) (CW (Ei a) (IT a)) (jU a) (mJ a) (Ir (gO a) (LN a) (CQ (LN a)) (DN (LN a)) (DH (LN a)) (λ i=>DI i (LN a)) (XI (Wq a a (Fw a) (Ga a)) (FP (IT a)) (jY a)) (λ i=>UO i (IT a) i (LN a)))))) (AF AI (CB (IT a) (Ei a)) (AG (o2A (Cy a) (IT a) (Fw a) (Ga a))) (AG (o2A (Cy a) (IT a) (Wq a a (Fw a) (Ga a)) (jY a))) (DC (CB (IT a) (Ei a)) (λ i=>LS i (IT a) (Ei a)) (jU a) (mJ a) (gO a) (AS (LN a)) (AV (LN a)) (BO (LN a)) (UW (LN a) (AG (o2S (Cy a) (IT a) (Wq a a (Fw a) (Ga a)) (jY a) (o2S (Cy a) (IT a) (Fw a) (Ga a) (Md.s a)))) (CB (Ei a) (IT a)) (CW (Ei a) (IT a)) (jU a) (mJ a) (Ir (gO a) (LN a) (CQ (LN a)) (DN (LN a)) (DH (LN a)) (λ i=>DI i (LN a)) (XI (o2A (Cy a) (IT a) (Fw a) (Ga a)) (FP (IT a)) (o2A (Cy a) (IT a) (Wq a a (Fw a) (Ga a)) (jY a))) (λ i=>UO i (IT a) i (LN a)))))) (AR (mnM (XH (LN a)) (Ei a) (Fw a) (Ga a) (jY a)) (Wq a a (o2A (Cy a) (IT a) (Fw a) (Ga a)) (o2A (Cy a) (IT a) (Wq a a (Fw a) (Ga a)) (jY a)))) (PG (Ei a)) (MK (Ei a)) (jU a) (MX (LN a) (gO a) (AS (LN a)) (BX (LN a)) (JS (LN a)) (CG (LN a)) (HE (LN a)) (AR (mnS (XH (LN a)) (Ei a) (Fw a) (Ga a) (jY a) (Md.s a)) (o2S (Cy a) (IT a) (o2A (Cy a) (IT a) (Fw a) (Ga a)) (o2A (Cy a) (IT a) (Wq a a (Fw a) (Ga a)) (jY a)) (o2S (Cy a) (IT a) (Wq a a (Fw a) (Ga a)) (jY a) (o2S (Cy a) (IT a) (Fw a) (Ga a) (Md.s a))))))) := by kernel_rfl
structure Gw where
 g : Cht
 l : List Int
def dGw : List AVal -> Heap -> Option (Gw × List (Nat × Nat) × List Nat)
 | [.own id _ _ n, _, _, .fn (.func f) [] [.bptr c _]], H => if f = WG then match H id, Fh H c with
  | .live (.row _ m r), some q => some (⟨q, IK n λ i => HK (r i)⟩, [(100, id), (101, c)], [])
  | _, _ => none else none
 | _, _ => none
def gwOk (a : Gw) : Prop := (a.l.length = 13 ∨ a.l.length = 14) /\ nY a.g a.l
def gwL (a : Gw) : List (Nat × AObj) := [(100, rowI a.l), (101, bxG a.g)]
def gwK (a : Gw) : List (Nat × HCell) := [(100, .live (rowI a.l)), (101, .live (bxG a.g))]
def chP (a : Gw) : Int := mnM (KY a.g) a.l 3 6 9
def chH (a : Gw) : Int := bif mnS (KY a.g) a.l 3 6 9 0 == 0 then 1 else 0
def C_cho : Ctr := { ro := [100, 101], α := Gw, xs := λ a => [.own 100 1 0 a.l.length, .int 0, .int a.l.length, mC], L := gwL, val := λ a => .tup [.int (chP a), .int (chH a)], keep := gwK, pre := λ a => [gwOk a] }
def BQC : Ann := { ann 63 [(AEG, C_md.spec dMd)] with E := [100, 101] }
def BOB (a : Gw) : Prop := CH Try.prog BQC ADL (AH ADL) (C_cho.xs a) (AB (C_cho.L a)) (C_cho.val a) (C_cho.keep a) [] []
abbrev KU:=Gw.l
abbrev FG:=Gw.g
abbrev VD a:=GR (FG a)
abbrev Dm a:=MK (KU a)
abbrev SS a:=PG (KU a)
abbrev Rl a:=LP (KU a)
abbrev C9 a b:=GI (Rl a) b
abbrev bX a:=C9 a 0
abbrev ACI a b:=nI 0 (HQ (Int.tdiv (bX a) 4)) b
abbrev bS a:=ACI a 2
abbrev cA a:=ACI a 3
abbrev gA a:=ACI a 1
abbrev KX a:=QY (KU a)
abbrev Mi a:=Ub (FG a)
abbrev YV a b c d e:=EW AI a b c d e
abbrev Ys a:=FP (KX a)
abbrev Kt a:=DH (FG a)
abbrev Mg a:=DN (FG a)
abbrev Jq a:=CQ (FG a)
abbrev XS a:=AP (FG a)
abbrev VJ a:=AT (FG a)
abbrev VH a:=AQ (FG a)
abbrev bT a b:=CB (KU a) b
abbrev Ld a:=BO (FG a)
abbrev lZ a b:=CB a (KU b)
abbrev Oj a b:=lZ (KX a) b
attribute [go_sem] KU FG VD Dm SS Rl C9 bX ACI bS cA gA KX Mi YV Ys Kt Mg Jq XS VJ VH bT Ld lZ Oj
theorem BUL (a : Gw) : (BOB a) = (And (BU (Np (SC 4)) JV) (QF (BU (Np (SC 4)) JV) (EK (rW (bX a) 8) (EK (rW (bX a) 50) JV (HG (YV (Oj a a) (AG (gA a)) (AG (bS a)) (AG (cA a)) (DC (Oj a a) (λ i=>LS i (KX a) (KU a)) (VH a) (VJ a) (XS a) (AS (FG a)) (AV (FG a)) (Ld a) (UW (FG a) (Np 0) (bT a (KX a)) (CW (KU a) (KX a)) (VH a) (VJ a) (Ir (XS a) (FG a) (Jq a) (Mg a) (Kt a) (λ i=>DI i (FG a)) (AO (CD (gA a) (Ys a)) (CD (bS a) (Ys a)) (CN (cA a)) (DM (cA a) (Ys a))) (λ i=>UO i (KX a) i (FG a)))))) (Ig (mnS (Mi a) (KX a) (gA a) (bS a) (cA a) 0)) (AF (AR (chP a) (mnM (Mi a) (KX a) (gA a) (bS a) (cA a))) (Pn (chH a)) (SS a) (Dm a) (VD a)) (EK (Dx (mnS (Mi a) (KX a) (gA a) (bS a) (cA a) 0) 12) (AF (AR (chP a) (mnM (Mi a) (KX a) (gA a) (bS a) (cA a))) (AR (chH a) 2) (SS a) (Dm a) (VD a)) (AF (AR (chP a) (mnM (Mi a) (KX a) (gA a) (bS a) (cA a))) (IQ (chH a)) (SS a) (Dm a) (VD a))))) (AF (AR (chP a) (bS a)) (Pn (chH a)) (SS a) (Dm a) (VD a))))) := by kernel_rfl
def C_pin : Ctr := { ro := [100, 101], α := Gw, xs := λ a => [.own 100 1 0 a.l.length, .int 0, .int a.l.length, mC], L := gwL, val := λ a => .bool (kI (KY a.g) a.l (a.l.length - 1)), keep := gwK, pre := λ a => [gwOk a] }
def pin3 (a : Gw) : Shape := { α := Int, dflt := 0, T := λ k => ⟨[(0, .own 100 1 0 a.l.length), (1, .int 0), (2, .int a.l.length), (3, mC), (9, .int k), (10, .int 0)], gwK a⟩, inv := λ k => k = 1, meas := λ _ => 1 }
def pin5 (a : Gw) : Shape := { α := Nat, dflt := 0, T := λ i => ⟨[(0, .own 100 1 0 a.l.length), (1, .int 0), (2, .int a.l.length), (3, mC), (9, .int ((i + 1 : Nat) : Int)), (10, .int 0)], gwK a⟩, inv := λ i => i + 1 <= a.l.length /\ kI (KY a.g) a.l i = true, meas := λ i => a.l.length - i }
def BQF (a : Gw) : Ann := { ann 141 [(WG, C_fw1.spec dGAB)] with E := [100, 101], loops := λ id => if id = 3 then some [pin3 a] else none, inner := λ gs id => if id = 5 then some [pin5 a] else none, cutIn := λ gs id => if id = 11 then some [] else none }
def BPW (a : Gw) : Prop := CH Try.prog (BQF a) A6 (AH A6) (C_pin.xs a) (AB (C_pin.L a)) (C_pin.val a) (C_pin.keep a) [] []
abbrev PS a:=FP (KU a)
abbrev Dc a:=XH (FG a)
abbrev Kc a:=AG (Rl a)
abbrev Yn a b:=not (JH a b)
abbrev Wz a b:=Oe (KU a) b
abbrev oC a:=ME (DF a)
abbrev aV a:=DK (FG a)
abbrev Rx a:=BI (FG a)
abbrev To a:=BE (FG a)
abbrev aZ a:=BL (FG a)
attribute [go_sem] PS Dc Kc Yn Wz oC aV Rx To aZ
theorem BSW (a : Gw) : (BPW a) = (And ((@Exists Int) (λ i=>And (Rd AI (SS a) BQ (Kc a) (AR i Kg) BQ (Dm a) (VD a)) (Pn i))) (EU (λ i=>BU (Pn i) (DP (λ j=>AE (Rd AI (SS a) BQ (Kc a) (EO (DF j) i) BQ (Dm a) (VD a)) (Sv j (PS a)) (CK (kI (Dc a) (KU a) j))) (λ j=>BU (GZ (DF j) (PS a) (CK (kI (Dc a) (KU a) j))) (HG (AF (HF (HB (DF j) (Rl a)) (FR (DF j) (PS a))) (HF (HB (DF j) (Rl a)) (PI (BV (DF j)) (PS a))) (NU (HB (DF j) (Rl a)) (oC j) (PS a)) (HF (HB (DF j) (Rl a)) (NW (oC j) (PS a))) (HF (HB (DF j) (Rl a)) (Cj (AG (FK (KU a) (BV (DF j)))) (Wz a (oC j)) (KO (VH a) (VJ a) (FG a) (VA (FG a) (Ld a) (aZ a) (To a) (Rx a) (VH a) (VJ a) (XS a) (UX (FG a) (Jq a) (Mg a) (Kt a) (CD (FK (KU a) (BV (DF j))) (DA (FG a))) (CN (Wz a (oC j))) (DM (Wz a (oC j)) (DA (FG a))))))))) (ER (HB (DF j) (Rl a)) (Yn (Qx (XH (aV a) (FK (KU a) (BV (DF j)))) (XH (aV a) (Wz a (oC j)))) 0)) (GN (λ k=>Ah (Rd AI (SS a) BQ (Kc a) (BD (DF k) (DF j)) BQ (Dm a) (VD a)) (DF k) (PS a) (CK (kI (Dc a) (KU a) k)) k j)) (TJ (Dx (BZ (DF j)) (Rl a)) (CK (kI (Dc a) (KU a) (OF (PS a)))) (SS a) (Dm a) (VD a) (QQ (TJ (JH (bX a) 50) (EF (kI (Dc a) (KU a) (OF (PS a)))) (SS a) (Dm a) (VD a) JV))))))))) := by kernel_rfl
structure Gp where
 g : Cht
 l : List Int
 p : Int
def dGp : List AVal -> Heap -> Option (Gp × List (Nat × Nat) × List Nat)
 | [.own id _ _ n, _, _, .d x, .fn (.func f) [] [.bptr c _]], H => if f = WG then match H id, Fh H c with
  | .live (.row _ m r), some q => some (⟨q, IK n λ i => HK (r i), HK x⟩, [(100, id), (101, c)], [])
  | _, _ => none else none
 | _, _ => none
def gpR (a : Gp) : PtR := ptM (KY a.g) a.l a.p.toNat
def C_ptn : Ctr := { ro := [101], α := Gp, xs := λ a => [.own 100 1 0 a.l.length, .int 0, .int a.l.length, .int a.p, mC], L := λ a => [(100, rowI a.l), (101, bxG a.g)], val := λ a => .tup [.int (gpR a).j, .any], keep := λ a => [(100, .live (AHW a.l.length (ptL (KY a.g) a.l a.p.toNat))), (101, .live (bxG a.g))], pre := λ a => [((a.l.length = 13 ∨ a.l.length = 14) /\ 0 <= a.p /\ a.p < a.l.length) /\ nY a.g a.l] }
structure PtS where
 i : Nat
 j : Nat
 l : List Int
 deriving Inhabited
def ptI (a : Gp) (dn : Bool) (x : PtS) : Prop := (1 <= x.i /\ x.j < a.l.length /\ x.i <= x.j + 1) /\ (x.l.length = a.l.length /\ nY a.g x.l) /\ gpR a = Ab (KY a.g) dn x.i x.j x.l
def ptT (a : Gp) (x : PtS) : ST := ⟨[(0, .own 100 1 0 a.l.length), (1, .int 0), (4, mC), (12, .int x.i), (13, .int x.j)], [(100, .live (AHW a.l.length x.l)), (101, .live (bxG a.g))]⟩
def pt3 (a : Gp) : Shape := { α := PtS, dflt := default, T := ptT a, inv := ptI a false, meas := λ x => x.j + 1 - x.i }
def ptU (a : Gp) (x : PtS) : Prop := x.i <= x.j -> ¬ KY a.g (gD x.l x.i) < KY a.g (gD x.l 0)
def pt5 (a : Gp) : Shape := { α := PtS, dflt := default, T := ptT a, inv := λ x => ptI a true x /\ ptU a x, meas := λ x => x.j }
def pt13 (a : Gp) (m : Nat) : Shape := { α := PtS, dflt := default, T := ptT a, inv := λ x => ptI a false x /\ x.j + 1 - x.i <= m, meas := λ x => x.j + 1 - x.i }
def pt15 (a : Gp) (m : Nat) : Shape := { α := PtS, dflt := default, T := ptT a, inv := λ x => ptI a true x /\ ptU a x /\ x.j + 1 - x.i <= m, meas := λ x => x.j }
def BNQ (a : Gp) : Ann := { ann 178 [(WG, C_fw1.spec dGAB)] with E := [100, 101], loops := λ id => if id = 3 then some [pt3 a] else if id = 5 then some [pt5 a] else if id = 13 then some [pt3 a] else none, inner := λ gs id => if id = 13 then (if gs.length = 0 then some [pt3 a] else some [pt13 a (gs.getD 0 0)]) else if id = 15 then some [pt15 a (gs.getD 0 0)] else none }
def BPY (a : Gp) : Prop := CH Try.prog (BNQ a) AMX (AH AMX) (C_ptn.xs a) (AB (C_ptn.L a)) (C_ptn.val a) (C_ptn.keep a) [] []
abbrev Zt:=Gp.l
abbrev kG:=@Exists PtS
abbrev KV:=PtS.i
abbrev RY:=PtS.j
abbrev HA:=Gp.g
abbrev ADQ:=λ (f : PtS -> Prop) => ∀ (x : PtS), f x
abbrev bA a:=DF (RY a)
abbrev iS a b:=DJ (KV a) b
abbrev ADJ a b:=iS a (bA b)
abbrev Qy a:=FP (Zt a)
abbrev aB a b:=CL a (Qy b)
abbrev ABD a b:=aB (RY a) b
abbrev AFU a:=PH (KV a)
abbrev Gq a b c d e f g:=HU (AFU a) (ABD b c) (ADJ d e) f g
abbrev ACS a:=XH (HA a)
abbrev Cz a b c d e f:=(@Eq PtR) (gpR a) (Ab (ACS b) c (KV d) (RY e) (PtS.l f))
abbrev vP a b (c:Nat->Prop):=HS (CB a b) c
abbrev Di a b (c:Nat->Prop):=vP (PtS.l a) (Zt b) c
abbrev vE a b c d:=Wt a b c (AN d)
abbrev UT a b:=FK (PtS.l a) b
abbrev Dn a b c d e:=vE a (PtS.l b) (UT c d) (HA e)
abbrev Kp a:=GR (HA a)
abbrev Ua a b c d e:=MB a (Zt b) (UT c d) e
abbrev Df a:=BV (RY a)
abbrev cH a b:=UT a (Df b)
abbrev Ex a:=BV (KV a)
abbrev Ju a:=PG (Zt a)
abbrev jL a b:=FR a (Qy b)
abbrev Tx a b:=jL (RY a) b
abbrev St:=UU 0
abbrev T6 a b c:=ptL a b (FY c)
abbrev iP a b:=NP a (RY b)
abbrev N0 a:=PtR.j (gpR a)
abbrev jG a b:=NW a (Qy b)
abbrev Sd a:=Dg (Qy a)
abbrev ACU a:=BZ (RY a)
abbrev AGA a:=BZ (KV a)
abbrev Kk a b:=LO (bA a) (KV b)
abbrev AJT a b c:=XH a (UT b c)
abbrev Mq a b c:=AJT (HA a) b c
abbrev cF a b c:=AJT (DK (HA a)) b c
abbrev uX a b:=hd7 (AGA a) (ACU b)
abbrev VE a b:=HF (uX a a) b
abbrev bG a:=DA (HA a)
abbrev cJ a:=UT a 0
attribute [go_sem] Zt kG KV RY HA ADQ bA iS ADJ Qy aB ABD AFU Gq ACS Cz vP Di vE UT Dn Kp Ua Df cH Ex Ju jL Tx St T6 iP N0 jG Sd ACU AGA Kk AJT Mq cF uX VE bG cJ
theorem BUC (a : Gp) : (BPY a) = (AE (AO (CD (Gp.p a) (Qy a)) (aB (UU (Gp.p a)) a) (Sd a) (XG (NB (Qy a)) (Sd a) (CD (Gp.p a) (Qy a)) (jG (Gp.p a) a))) (kG (λ i=>AO (Gu AI (Ju a) BQ (EO (KV i) Kg) (EO (RY i) (PV (LP (Zt a)))) (λ j=>Ua j a i j (JJ j (Gp.p a) (Oe (Zt a) 0) (JJ j 0 (Oe (Zt a) (Gp.p a)) (FK (Zt a) j)))) (Kp a)) (AE (AFU i) (ABD i a) (ADJ i i)) (Di i a (λ j=>Dn j i i j a)) (Cz a a ZR i i i))) (ADQ (λ i=>BU (Gq i i a i i (Di i a (λ j=>Dn j i i j a)) (Cz a a ZR i i i)) (HG (AF (VE i (jL (KV i) a)) (VE i (PI (Ex i) (Qy a))) (VE i (Sd a)) (VE i (jG 0 a)) (VE i (Cj (AG (UT i (Ex i))) (UT i St) (QS (HA a) (VA (HA a) (BO (HA a)) (BL (HA a)) (BE (HA a)) (BI (HA a)) (AQ (HA a)) (AT (HA a)) (AP (HA a)) (UX (HA a) (CQ (HA a)) (DN (HA a)) (DH (HA a)) (CD (UT i (Ex i)) (bG a)) (CN (cJ i)) (DM (cJ i) (bG a)))))))) (ER (uX i i) (JH (Qx (cF a i (Ex i)) (cF a i St)) 0)) (kG (λ j=>LB (Gu AI (Ju a) BQ (BD (KV j) (KV i)) (iP (RY j) i) (λ k=>Ua k a j k (UT i k)) (Kp a)) (Gq j j a j j (Di j a (λ k=>Dn k j j k a)) (Cz a a ZR j j j)) (bA j) (KV j) (bA i) (KV i))) (And (kG (λ j=>AE (Gu AI (Ju a) BQ (NP (KV j) (KV i)) (iP (RY j) i) (λ k=>Ua k a j k (UT i k)) (Kp a)) (Gq j j a j j (Di j a (λ k=>Dn k j j k a)) (Cz a a JL j j j)) (BU (iS j (RY j)) (Not (KB (Mq a j (KV j)) (Mq a j 0)))))) (ADQ (λ j=>BU (And (Gq j j a j j (Di j a (λ k=>Dn k j j k a)) (Cz a a JL j j j)) (BU (iS j (RY j)) (Not (KB (Mq a j (KV j)) (Mq a j 0))))) (HG (AF (VE j (Tx j a)) (VE j (PI (Df j) (Qy a))) (VE j (Sd a)) (VE j (jG 0 a)) (VE j (Cj (AG (cH j j)) (UT j St) (QS (HA a) (VA (HA a) (BO (HA a)) (BL (HA a)) (BE (HA a)) (BI (HA a)) (AQ (HA a)) (AT (HA a)) (AP (HA a)) (UX (HA a) (CQ (HA a)) (DN (HA a)) (DH (HA a)) (CD (cH j j) (bG a)) (CN (cJ j)) (DM (cJ j) (bG a)))))))) (ER (uX j j) (Yn (Qx (cF a j (Df j)) (cF a j St)) 0)) (kG (λ k=>JB (Gu AI (Ju a) BQ (NP (KV k) (KV j)) (EO (RY k) (ME (RY j))) (λ l=>Ua l a k l (UT j l)) (Kp a)) (And (Gq k k a k k (Di k a (λ l=>Dn l k k l a)) (Cz a a JL k k k)) (BU (iS k (RY k)) (Not (KB (Mq a k (KV k)) (Mq a k 0))))) (RY k) (RY j))) (EK (JM (AGA j) (ACU j)) (XE (AO (Sd a) (NB (Qy a)) (Tx j a) (XG (aB (Df j) a) (Tx j a) (Sd a) (jG 0 a))) (iP (N0 a) j) (Ju a) (λ k=>LL k (Zt a) (T6 (ACS a) (Zt a) (Gp.p a)) k (JJ k 0 (cH j j) (Ca k (Df j) (UT j St) (UT j k)))) (Kp a)) (AE (AO (Tx j a) (aB (Df j) a) (jL (KV j) a) (XG (aB (Ex j) a) (jL (KV j) a) (Tx j a) (PI (Df j) (Qy a)))) (kG (λ k=>AO (Gu AI (Ju a) BQ (BD (KV k) (KV j)) (EO (RY k) (ME (RY j))) (λ l=>Ua l a k l (Ca l (Df j) (UT j (Ex j)) (Ca l (Ex j) (cH j j) (UT j l)))) (Kp a)) (AE (AFU k) (ABD k a) (ADJ k k)) (Di k a (λ l=>Dn l k k l a)) (Cz a a ZR k k k))) (ADQ (λ k=>BU (Gq k k a k k (Di k a (λ l=>Dn l k k l a)) (Cz a a ZR k k k)) (And (kG (λ l=>AE (Gu AI (Ju a) BQ (NP (KV l) (KV k)) (iP (RY l) k) (λ m=>Ua m a l m (UT k m)) (Kp a)) (Gq l l a l l (Di l a (λ m=>Dn m l l m a)) (Cz a a ZR l l l)) (DJ (Kk l l) (Kk k k)))) (ADQ (λ l=>BU (Lw (Gq l l a l l (Di l a (λ m=>Dn m l l m a)) (Cz a a ZR l l l)) (Kk l l) (Kk k k)) (HG (AF (VE l (jL (KV l) a)) (VE l (PI (Ex l) (Qy a))) (VE l (Sd a)) (VE l (jG 0 a)) (VE l (Cj (AG (UT l (Ex l))) (UT l St) (QS (HA a) (VA (HA a) (BO (HA a)) (BL (HA a)) (BE (HA a)) (BI (HA a)) (AQ (HA a)) (AT (HA a)) (AP (HA a)) (UX (HA a) (CQ (HA a)) (DN (HA a)) (DH (HA a)) (CD (UT l (Ex l)) (bG a)) (CN (cJ l)) (DM (cJ l) (bG a)))))))) (ER (uX l l) (JH (Qx (cF a l (Ex l)) (cF a l St)) 0)) (kG (λ m=>LB (Gu AI (Ju a) BQ (BD (KV m) (KV l)) (iP (RY m) l) (λ n=>Ua n a m n (UT l n)) (Kp a)) (Lw (Gq m m a m m (Di m a (λ n=>Dn n m m n a)) (Cz a a ZR m m m)) (Kk m m) (Kk k k)) (bA m) (KV m) (bA l) (KV l))) (And (kG (λ m=>AO (Gu AI (Ju a) BQ (NP (KV m) (KV l)) (iP (RY m) l) (λ n=>Ua n a m n (UT l n)) (Kp a)) (Gq m m a m m (Di m a (λ n=>Dn n m m n a)) (Cz a a JL m m m)) (BU (iS m (RY m)) (Not (KB (Mq a m (KV m)) (Mq a m 0)))) (DJ (Kk m m) (Kk k k)))) (ADQ (λ m=>BU (AE (Gq m m a m m (Di m a (λ n=>Dn n m m n a)) (Cz a a JL m m m)) (BU (iS m (RY m)) (Not (KB (Mq a m (KV m)) (Mq a m 0)))) (DJ (Kk m m) (Kk k k))) (HG (AF (VE m (Tx m a)) (VE m (PI (Df m) (Qy a))) (VE m (Sd a)) (VE m (jG 0 a)) (VE m (Cj (AG (cH m m)) (UT m St) (QS (HA a) (VA (HA a) (BO (HA a)) (BL (HA a)) (BE (HA a)) (BI (HA a)) (AQ (HA a)) (AT (HA a)) (AP (HA a)) (UX (HA a) (CQ (HA a)) (DN (HA a)) (DH (HA a)) (CD (cH m m) (bG a)) (CN (cJ m)) (DM (cJ m) (bG a)))))))) (ER (uX m m) (Yn (Qx (cF a m (Df m)) (cF a m St)) 0)) (kG (λ n=>JB (Gu AI (Ju a) BQ (NP (KV n) (KV m)) (EO (RY n) (ME (RY m))) (λ u=>Ua u a n u (UT m u)) (Kp a)) (AE (Gq n n a n n (Di n a (λ u=>Dn u n n u a)) (Cz a a JL n n n)) (BU (iS n (RY n)) (Not (KB (Mq a n (KV n)) (Mq a n 0)))) (DJ (Kk n n) (Kk k k))) (RY n) (RY m))) (EK (JM (AGA m) (ACU m)) (XE (AO (Sd a) (NB (Qy a)) (Tx m a) (XG (aB (Df m) a) (Tx m a) (Sd a) (jG 0 a))) (iP (N0 a) m) (Ju a) (λ n=>LL n (Zt a) (T6 (ACS a) (Zt a) (Gp.p a)) n (JJ n 0 (cH m m) (Ca n (Df m) (UT m St) (UT m n)))) (Kp a)) (JR (Tx m a) (aB (Df m) a) (jL (KV m) a) (XG (aB (Ex m) a) (jL (KV m) a) (Tx m a) (PI (Df m) (Qy a))) (kG (λ n=>LB (Gu AI (Ju a) BQ (BD (KV n) (KV m)) (EO (RY n) (ME (RY m))) (λ u=>Ua u a n u (Ca u (Df m) (UT m (Ex m)) (Ca u (Ex m) (cH m m) (UT m u)))) (Kp a)) (Gq n n a n n (Di n a (λ u=>Dn u n n u a)) (Cz a a ZR n n n)) (bA n) (KV n) (bA k) (KV k))))))))))))))))))))))))) := by kernel_rfl
def BQK (_x : One) : Prop := CH Try.prog (ann 25 []) Xm (AH Xm) (sT 13) (AB []) (.int 4) [] [] []
abbrev z_l13_0 : List UInt8 := [(8 : UInt8), (8 : UInt8), (8 : UInt8), (8 : UInt8), (8 : UInt8), (8 : UInt8), (8 : UInt8), (8 : UInt8), (8 : UInt8), (8 : UInt8), (8 : UInt8), (8 : UInt8), (8 : UInt8), (8 : UInt8), (8 :
 UInt8), (8 : UInt8), (8 : UInt8), (8 : UInt8), (8 : UInt8), (8 : UInt8), (8 : UInt8), (8 : UInt8), (8 : UInt8), (8 : UInt8), (8 : UInt8), (8 : UInt8), (8 : UInt8), (8 : UInt8), (8 : UInt8), (8 : UInt8), (8 : UInt8), (8 :
 UInt8), (8 : UInt8), (8 : UInt8), (8 : UInt8), (8 : UInt8), (8 : UInt8), (8 : UInt8), (8 : UInt8), (8 : UInt8), (8 : UInt8), (8 : UInt8), (8 : UInt8), (8 : UInt8), (8 : UInt8), (8 : UInt8), (8 : UInt8), (8 : UInt8), (8 :
 UInt8), (8 : UInt8), (8 : UInt8), (8 : UInt8), (8 : UInt8), (8 : UInt8), (8 : UInt8), (8 : UInt8), (8 : UInt8), (8 : UInt8), (8 : UInt8), (8 : UInt8), (8 : UInt8), (8 : UInt8), (8 : UInt8), (8 : UInt8)]
abbrev AKM : Nat := ((2 : Int) ^ IntKind.i64.bits).natAbs
theorem BTZ (_x : One) : (BQK _x) = (((0 : Int) <= IntKind.u8.wrap (13 : Int) /\ IntKind.u8.wrap (13 : Int) < (↑(256 : Nat) : Int)) /\ Int.ofNat (4 : Nat) = Int.ofNat (((0 : Nat) + ((([(0 : UInt8), (1 : UInt8), (2 :
 UInt8), (2 : UInt8), (3 : UInt8), (3 : UInt8), (3 : UInt8), (3 : UInt8), (4 : UInt8), (4 : UInt8), (4 : UInt8), (4 : UInt8), (4 : UInt8), (4 : UInt8), (4 : UInt8), (4 : UInt8), (5 : UInt8), (5 : UInt8), (5 : UInt8), (5 :
 UInt8), (5 : UInt8), (5 : UInt8), (5 : UInt8), (5 : UInt8), (5 : UInt8), (5 : UInt8), (5 : UInt8), (5 : UInt8), (5 : UInt8), (5 : UInt8), (5 : UInt8), (5 : UInt8), (6 : UInt8), (6 : UInt8), (6 : UInt8), (6 : UInt8), (6 :
 UInt8), (6 : UInt8), (6 : UInt8), (6 : UInt8), (6 : UInt8), (6 : UInt8), (6 : UInt8), (6 : UInt8), (6 : UInt8), (6 : UInt8), (6 : UInt8), (6 : UInt8), (6 : UInt8), (6 : UInt8), (6 : UInt8), (6 : UInt8), (6 : UInt8), (6 :
 UInt8), (6 : UInt8), (6 : UInt8), (6 : UInt8), (6 : UInt8), (6 : UInt8), (6 : UInt8), (6 : UInt8), (6 : UInt8), (6 : UInt8), (6 : UInt8)].append [(7 : UInt8), (7 : UInt8), (7 : UInt8), (7 : UInt8), (7 : UInt8), (7 :
 UInt8), (7 : UInt8), (7 : UInt8), (7 : UInt8), (7 : UInt8), (7 : UInt8), (7 : UInt8), (7 : UInt8), (7 : UInt8), (7 : UInt8), (7 : UInt8), (7 : UInt8), (7 : UInt8), (7 : UInt8), (7 : UInt8), (7 : UInt8), (7 : UInt8), (7 :
 UInt8), (7 : UInt8), (7 : UInt8), (7 : UInt8), (7 : UInt8), (7 : UInt8), (7 : UInt8), (7 : UInt8), (7 : UInt8), (7 : UInt8), (7 : UInt8), (7 : UInt8), (7 : UInt8), (7 : UInt8), (7 : UInt8), (7 : UInt8), (7 : UInt8), (7 :
 UInt8), (7 : UInt8), (7 : UInt8), (7 : UInt8), (7 : UInt8), (7 : UInt8), (7 : UInt8), (7 : UInt8), (7 : UInt8), (7 : UInt8), (7 : UInt8), (7 : UInt8), (7 : UInt8), (7 : UInt8), (7 : UInt8), (7 : UInt8), (7 : UInt8), (7 :
 UInt8), (7 : UInt8), (7 : UInt8), (7 : UInt8), (7 : UInt8), (7 : UInt8), (7 : UInt8), (7 : UInt8)]).append (z_l13_0.append z_l13_0)).getD (IntKind.u8.wrap (13 : Int)).toNat (0 : UInt8)).toNat % AKM) % AKM)) := by
 kernel_rfl
def BOO (_x : One) : Prop := CH Try.prog (ann 25 []) Xm (AH Xm) (sT 14) (AB []) (.int 4) [] [] []
abbrev z_l14_0 : List UInt8 := [(8 : UInt8), (8 : UInt8), (8 : UInt8), (8 : UInt8), (8 : UInt8), (8 : UInt8), (8 : UInt8), (8 : UInt8), (8 : UInt8), (8 : UInt8), (8 : UInt8), (8 : UInt8), (8 : UInt8), (8 : UInt8), (8 :
 UInt8), (8 : UInt8), (8 : UInt8), (8 : UInt8), (8 : UInt8), (8 : UInt8), (8 : UInt8), (8 : UInt8), (8 : UInt8), (8 : UInt8), (8 : UInt8), (8 : UInt8), (8 : UInt8), (8 : UInt8), (8 : UInt8), (8 : UInt8), (8 : UInt8), (8 :
 UInt8), (8 : UInt8), (8 : UInt8), (8 : UInt8), (8 : UInt8), (8 : UInt8), (8 : UInt8), (8 : UInt8), (8 : UInt8), (8 : UInt8), (8 : UInt8), (8 : UInt8), (8 : UInt8), (8 : UInt8), (8 : UInt8), (8 : UInt8), (8 : UInt8), (8 :
 UInt8), (8 : UInt8), (8 : UInt8), (8 : UInt8), (8 : UInt8), (8 : UInt8), (8 : UInt8), (8 : UInt8), (8 : UInt8), (8 : UInt8), (8 : UInt8), (8 : UInt8), (8 : UInt8), (8 : UInt8), (8 : UInt8), (8 : UInt8)]
abbrev AKC : Nat := ((2 : Int) ^ IntKind.i64.bits).natAbs
theorem BTV (_x : One) : (BOO _x) = (((0 : Int) <= IntKind.u8.wrap (14 : Int) /\ IntKind.u8.wrap (14 : Int) < (↑(256 : Nat) : Int)) /\ Int.ofNat (4 : Nat) = Int.ofNat (((0 : Nat) + ((([(0 : UInt8), (1 : UInt8), (2 :
 UInt8), (2 : UInt8), (3 : UInt8), (3 : UInt8), (3 : UInt8), (3 : UInt8), (4 : UInt8), (4 : UInt8), (4 : UInt8), (4 : UInt8), (4 : UInt8), (4 : UInt8), (4 : UInt8), (4 : UInt8), (5 : UInt8), (5 : UInt8), (5 : UInt8), (5 :
 UInt8), (5 : UInt8), (5 : UInt8), (5 : UInt8), (5 : UInt8), (5 : UInt8), (5 : UInt8), (5 : UInt8), (5 : UInt8), (5 : UInt8), (5 : UInt8), (5 : UInt8), (5 : UInt8), (6 : UInt8), (6 : UInt8), (6 : UInt8), (6 : UInt8), (6 :
 UInt8), (6 : UInt8), (6 : UInt8), (6 : UInt8), (6 : UInt8), (6 : UInt8), (6 : UInt8), (6 : UInt8), (6 : UInt8), (6 : UInt8), (6 : UInt8), (6 : UInt8), (6 : UInt8), (6 : UInt8), (6 : UInt8), (6 : UInt8), (6 : UInt8), (6 :
 UInt8), (6 : UInt8), (6 : UInt8), (6 : UInt8), (6 : UInt8), (6 : UInt8), (6 : UInt8), (6 : UInt8), (6 : UInt8), (6 : UInt8), (6 : UInt8)].append [(7 : UInt8), (7 : UInt8), (7 : UInt8), (7 : UInt8), (7 : UInt8), (7 :
 UInt8), (7 : UInt8), (7 : UInt8), (7 : UInt8), (7 : UInt8), (7 : UInt8), (7 : UInt8), (7 : UInt8), (7 : UInt8), (7 : UInt8), (7 : UInt8), (7 : UInt8), (7 : UInt8), (7 : UInt8), (7 : UInt8), (7 : UInt8), (7 : UInt8), (7 :
 UInt8), (7 : UInt8), (7 : UInt8), (7 : UInt8), (7 : UInt8), (7 : UInt8), (7 : UInt8), (7 : UInt8), (7 : UInt8), (7 : UInt8), (7 : UInt8), (7 : UInt8), (7 : UInt8), (7 : UInt8), (7 : UInt8), (7 : UInt8), (7 : UInt8), (7 :
 UInt8), (7 : UInt8), (7 : UInt8), (7 : UInt8), (7 : UInt8), (7 : UInt8), (7 : UInt8), (7 : UInt8), (7 : UInt8), (7 : UInt8), (7 : UInt8), (7 : UInt8), (7 : UInt8), (7 : UInt8), (7 : UInt8), (7 : UInt8), (7 : UInt8), (7 :
 UInt8), (7 : UInt8), (7 : UInt8), (7 : UInt8), (7 : UInt8), (7 : UInt8), (7 : UInt8), (7 : UInt8)]).append (z_l14_0.append z_l14_0)).getD (IntKind.u8.wrap (14 : Int)).toNat (0 : UInt8)).toNat % AKC) % AKC)) := by
 kernel_rfl
def ACK := pD AVA (λ _ => .int 4) (λ x => [x = 13 ∨ x = 14])
def BGO (x : Int) : Prop := CH Try.prog (ann 8 [(Zb, ACK)]) AEJ (AH AEJ) (sT x) (AB []) (.int 4) [] [] []
abbrev Ge a:=AG (SC a)
abbrev Sl:=Ge 4
attribute [go_sem] Ge Sl
theorem BKO (x : Int) : (BGO x) = (And (Or (AR x 13) (AR x 14)) Sl) := by kernel_rfl
def dGwp : List AVal -> Heap -> Option (Gw × List (Nat × Nat) × List Nat)
 | [.own id _ _ n, _, _, _, .fn (.func f) [] [.bptr c _]], H => if f = WG then match H id, Fh H c with
  | .live (.row _ m r), some q => some (⟨q, IK n λ i => HK (r i)⟩, [(100, id), (101, c)], [])
  | _, _ => none else none
 | _, _ => none
def gwS (a : Gw) : List (Nat × HCell) := [(100, .live (AHW a.l.length (kN (KY a.g) a.l))), (101, .live (bxG a.g))]
def C_pdqL : Ctr := { ro := [101], α := Gw, xs := λ a => [.own 100 1 0 a.l.length, .int 0, .int a.l.length, .int 4, mC], L := gwL, val := λ _ => .d (.tup []), keep := gwS, pre := λ a => [gwOk a /\ ndk (KY a.g) a.l] }
structure QB where
 a : Nat
 b : Nat
 l : List Int
 m : Int
 deriving Inhabited
def pqZ (a : Gw) (t : List (Nat × AVal)) : List (Nat × AVal) := [(0, .own 100 1 0 a.l.length), (1, .int 0), (2, .int a.l.length), (3, .int 4), (4, mC)] ++ t
def pqA (a : Gw) : Shape := { α := One, dflt := default, T := λ _ => ⟨pqZ a [(10, .bool true), (11, .bool true)], gwK a⟩, inv := λ _ => True, meas := λ _ => 1 }
def pqC (a : Gw) : Shape := { α := One, dflt := default, T := λ _ => ⟨pqZ a [(10, .bool true), (11, .bool true), (12, .int a.l.length)], gwK a⟩, inv := λ _ => True, meas := λ _ => 0 }
def pqD (a : Gw) : Shape := { α := One, dflt := default, T := λ _ => ⟨pqZ a [(12, .int a.l.length), (13, .int (chP a))], gwK a⟩, inv := λ _ => True, meas := λ _ => 0 }
def pqB (a : Gw) : Shape := { α := QB, dflt := default, T := λ x => ⟨[(0, .own 100 1 0 a.l.length), (1, .int x.a), (2, .int x.b), (3, .int 4), (4, mC), (10, .any), (11, .any), (105, .tup [.int x.m, .any])], [(100, .live (AHW a.l.length x.l)), (101, .live (bxG a.g))]⟩, inv := λ x => (x.a <= x.b /\ x.b <= a.l.length /\ x.b <= x.a + 12) /\ (x.l.length = a.l.length /\ nY a.g x.l) /\ Z9 (KY a.g) x.a x.b x.l = kN (KY a.g) a.l, meas := λ _ => 0 }
def BGM (a : Gw) : Ann := { ann 148 [(WG, C_fw1.spec dGAB), (V0, C_insS.spec dGn), (Y0, C_pdqS.spec dGnp), (ABV, C_cho.spec dGw), (E4, C_pin.spec dGw), (AJX, C_ptn.spec dGp)] with E := [100, 101], loops := λ id => if id = 2 then some [pqB a, pqA a] else none, cutIn := λ gs id => if id = 5 then (if gs.getD 0 0 = 0 then some [] else some [pqC a]) else if id = 17 then some [pqD a] else none }
def BHV (a : Gw) : Prop := CH Try.prog (BGM a) ADI (AH ADI) (C_pdqL.xs a) (AB (C_pdqL.L a)) (C_pdqL.val a) (C_pdqL.keep a) [] []
abbrev Rc:=QB.a
abbrev Fy:=QB.b
abbrev My:=QB.l
abbrev ALX a b:=Uf (KU a) b
abbrev AFO a b:=T6 (Mi a) (KX b) (chP b)
abbrev Bf a:=ALX a (AFO a a)
abbrev Ax a b c:=N0 (Gp.mk (aV a) (KX b) (chP c))
abbrev aW a b:=ALX a (My b)
attribute [go_sem] Rc Fy My ALX AFO Bf Ax aW
theorem BJS (a : Gw) : (BHV a) = (AE (HI (YV (SS a) BQ (Kc a) Sl (XA GF (SS a) (Dm a) (VD a)))) ((λ (f : QB -> Prop) => ∀ (x : QB), f x) (λ i=>BU (HU (DJ (Rc i) (Fy i)) (DJ (Fy i) (PS a)) (DJ (Fy i) (QC (Rc i) 12)) (vP (My i) (KU a) (λ j=>vE j (My i) (FK (My i) j) (FG a))) (Zy (Z9 (Dc a) (Rc i) (Fy i) (My i)) (kN (Dc a) (KU a)))) (QQ (TJ (hd7 (GI (BZ (Fy i)) (BZ (Rc i))) 12) (Hj (lZ (aW a i) a) (AK (IM (Rc i)) (IM (Fy i)) (lZ (aW a i) a) (CW (aW a i) (My i)) (VH a) (VJ a) (XS a) (AS (FG a)) (VA (FG a) (Ld a) (aZ a) (To a) (Rx a) (VH a) (VJ a) (XS a) (UX (FG a) (Jq a) (Mg a) (Kt a) (GZ (Rc i) (Fy i) (RL (Fy i) (aW a i))) (Fq (aW a i)) (AD (λ j=>UO j (aW a i) j (FG a))))))) (bT a (aW a i)) (AD (λ j=>TZ j (KU a) (kN (Dc a) (KU a)) j (Z9 (Mi a) (Rc i) (Fy i) (aW a i)) j)) (VD a) JV)))) (ZI (PO (TJ (hd7 (bX a) 12) (Hj (Oj a a) (AK (EO RI ML) (Kc a) (Oj a a) (CW (KX a) (KU a)) (VH a) (VJ a) (XS a) (AS (FG a)) (VA (FG a) (Ld a) (aZ a) (To a) (Rx a) (VH a) (VJ a) (XS a) (UX (FG a) (Jq a) (Mg a) (Kt a) (GZ 0 (PS a) (RL (PS a) (KX a))) (Fq (KX a)) (AD (λ i=>UO i (KX a) i (FG a))))))) (bT a (KX a)) (AD (λ i=>TZ i (KU a) (kN (Dc a) (KU a)) i (Z9 (Mi a) RI (PS a) (KX a)) i)) (VD a) (HI (Hj (SS a) (AK BQ (Kc a) Sl GF GF (EO (PS a) (bX a)) (SS a) (Dm a) (VD a))))) (HG (AO AI (Oj a a) BQ (HT (EO (Ys a) (Rl a)) (Oj a a) (CW (KX a) (KU a)) (FG a) (DC (Ld a) (λ i=>EE i (FG a)) (To a) (Rx a) (bT a (KX a)) (CW (KU a) (KX a)) (VH a) (VJ a) (Ir (XS a) (FG a) (Jq a) (Mg a) (Kt a) (λ i=>DI i (FG a)) (Or (EN (KX a) 13) (EN (KX a) 14)) (λ i=>UO i (KX a) i (FG a)))))) (Dx (chH (Gw.mk (aV a) (KX a))) 2) JV (PO (DZ (ER (IF JL ZR) (Dx (chH (Gw.mk (aV a) (KX a))) 1)) (AO AI (Oj a a) BQ (HT (EO (Ys a) (Rl a)) (Oj a a) (CW (KX a) (KU a)) (FG a) (DC (Ld a) (λ i=>EE i (FG a)) (To a) (Rx a) (bT a (KX a)) (CW (KU a) (KX a)) (VH a) (VJ a) (Ir (XS a) (FG a) (Jq a) (Mg a) (Kt a) (λ i=>DI i (FG a)) (Or (EN (KX a) 13) (EN (KX a) 14)) (λ i=>UO i (KX a) i (FG a)))))) (KS (kI (Mi a) (KX a) (OF (Ys a))) (SS a) (AD (λ i=>TZ i (KU a) (kN (Dc a) (KU a)) i (KU a) i)) (VD a) (HI (VW (AK (SS a) BQ (Kc a) Sl (Kc a) (AR (chP a) (chP (Gw.mk (aV a) (KX a)))) (SS a) (Dm a) (VD a))))) (HI (VW (AK (SS a) BQ (Kc a) Sl (Kc a) (AR (chP a) (chP (Gw.mk (aV a) (KX a)))) (SS a) (Dm a) (VD a))))) (AO (AF (SN (CD (PV 0) (PS a))) (SN (NW (PV 0) (PS a))) (SN (CD (chP a) (PS a))) (SN (NW (chP a) (PS a))) (SN (Cj (AG (Wz a (PV 0))) (Wz a (chP a)) (KO (VH a) (VJ a) (FG a) (VA (FG a) (Ld a) (aZ a) (To a) (Rx a) (VH a) (VJ a) (XS a) (UX (FG a) (Jq a) (Mg a) (Kt a) (CD (Vp (KU a)) (DA (FG a))) (CN (Wz a (chP a))) (DM (Wz a (chP a)) (DA (FG a))))))))) (Hj (Oj a a) (AK BQ (EO (Ys a) (Rl a)) (AG (chP a)) (Oj a a) (CW (KX a) (KU a)) (VH a) (VJ a) (XS a) (QJ (FG a) (Ld a) (aZ a) (To a) (Rx a) (VH a) (VJ a) (Ir (XS a) (FG a) (Jq a) (Mg a) (Kt a) (λ i=>DI i (FG a)) (PR (Or (EN (KX a) 13) (EN (KX a) 14)) (chP a) (Ys a)) (λ i=>UO i (KX a) i (FG a)))))) (BU (Np (SC 8)) JV) (DZ (JH (GI (BZ (Ax a a a)) 0) (C9 a (BZ (Ax a a a)))) (Hj (lZ (Bf a) a) (AK (EO RI ML) (IM (Ax a a a)) (CB (Bf a) (KX a)) (CW (Bf a) (AFO a a)) (VH a) (VJ a) (XS a) (AS (FG a)) (VA (FG a) (Ld a) (aZ a) (To a) (Rx a) (VH a) (VJ a) (XS a) (UX (FG a) (Jq a) (Mg a) (Kt a) (AE (DJ 0 (Ax a a a)) (RL (Ax a a a) (Bf a)) (DJ (Ax a a a) 12)) (Fq (Bf a)) (AD (λ i=>UO i (Bf a) i (FG a))))))) ((@Exists QB) (λ i=>JB (AK AI (SS a) (BD (Rc i) (Ax a a a)) (EO (Fy i) (Rl a)) Sl (AR (QB.m i) (BZ (Ax a a a))) (bT a (Bf a)) (AD (λ j=>TZ j (KU a) (My i) j (Z9 (Mi a) RI (Ax a a a) (Bf a)) j)) (VD a)) (HU (DJ (Rc i) (Fy i)) (DJ (Fy i) (PS a)) (DJ (Fy i) (QC (Rc i) 12)) (vP (My i) (KU a) (λ j=>vE j (My i) (FK (My i) j) (FG a))) (Zy (Z9 (Dc a) (Rc i) (Fy i) (My i)) (kN (Dc a) (KU a)))) 0 1)) (And (Hj (lZ (Bf a) a) (AK (BD (El (Ax a a a)) (Ax a a a)) (Kc a) (CB (Bf a) (KX a)) (CW (Bf a) (AFO a a)) (VH a) (VJ a) (XS a) (AS (FG a)) (VA (FG a) (Ld a) (aZ a) (To a) (Rx a) (VH a) (VJ a) (XS a) (UX (FG a) (Jq a) (Mg a) (Kt a) (AE (DJ (El (Ax a a a)) (PS a)) (RL (PS a) (Bf a)) (DJ (PS a) (QC (El (Ax a a a)) 12))) (Fq (Bf a)) (AD (λ i=>UO i (Bf a) i (FG a))))))) ((@Exists QB) (λ i=>JB (AK AI (SS a) (BR (Rc i)) (NP (Fy i) (Ax a a a)) Sl (AR (QB.m i) (BZ (Ax a a a))) (bT a (Bf a)) (AD (λ j=>TZ j (KU a) (My i) j (Z9 (Mi a) (El (Ax a a a)) (PS a) (Bf a)) j)) (VD a)) (HU (DJ (Rc i) (Fy i)) (DJ (Fy i) (PS a)) (DJ (Fy i) (QC (Rc i) 12)) (vP (My i) (KU a) (λ j=>vE j (My i) (FK (My i) j) (FG a))) (Zy (Z9 (Dc a) (Rc i) (Fy i) (My i)) (kN (Dc a) (KU a)))) 0 1)))))))))) := by kernel_rfl
def C_srt : Ctr := { C_sort with pre := λ (a : GL) => [(a.l.length <= 12 ∨ (a.l.length = 13 ∨ a.l.length = 14) /\ ndk (KY a.g) a.l) /\ glOk a] }
def BHG : Ann := { ann 14 [(C7, AGZ), (Y0, C_pdqS.spec dGnp)] with E := [100, 101] }
def BCR (a : GL) : Prop := CH Try.prog BHG iJ (AH iJ) (C_sort.xs a) (AB (C_sort.L a)) (C_sort.val a) (C_sort.keep a) [] []
abbrev Gf:=GL.l
abbrev LU:=GL.g
abbrev WE a:=QY (Gf a)
abbrev iY a:=LP (Gf a)
attribute [go_sem] Gf LU WE iY
theorem BLP (a : GL) : (BCR a) = (AO (AO (Se (Bv (iY a)) (HO (Bv (iY a)) 20)) AI (CB (WE a) (Gf a)) (AK (EO RI ML) (AG (iY a)) (CB (WE a) (Gf a)) (CW (WE a) (Gf a)) (AQ (LU a)) (AT (LU a)) (AP (LU a)) (AS (LU a)) (VA (LU a) (BO (LU a)) (BL (LU a)) (BE (LU a)) (BI (LU a)) (AQ (LU a)) (AT (LU a)) (AP (LU a)) (UX (LU a) (CQ (LU a)) (DN (LU a)) (DH (LU a)) (AE (RL 0 (Gf a)) (RL (FP (Gf a)) (WE a)) (DJ (FP (Gf a)) 12)) (Fq (WE a)) (AD (λ i=>UO i (WE a) i (LU a))))))) (CB (Gf a) (WE a)) (AD (λ i=>TZ i (Gf a) (kN (XH (LU a)) (Gf a)) i (Z9 (Ub (LU a)) RI (FP (Gf a)) (WE a)) i)) (GR (LU a))) := by kernel_rfl
def BDJ : Ann := { ann 14 [(C7, ACK), (Y0, C_pdqL.spec dGwp)] with E := [100, 101] }
def AZQ (a : GL) : Prop := CH Try.prog BDJ iJ (AH iJ) (C_sort.xs a) (AB (C_sort.L a)) (C_sort.val a) (C_sort.keep a) [] []
theorem BKT (a : GL) : (AZQ a) = (AO (AO (Or (AR (Bv (iY a)) 13) (AR (Bv (iY a)) 14)) AI (CB (WE a) (Gf a)) (AK BQ (EO (FP (WE a)) (iY a)) Sl (CB (WE a) (Gf a)) (CW (WE a) (Gf a)) (AQ (LU a)) (AT (LU a)) (AP (LU a)) (QJ (LU a) (BO (LU a)) (BL (LU a)) (BE (LU a)) (BI (LU a)) (AQ (LU a)) (AT (LU a)) (MD (LU a) (CQ (LU a)) (DN (LU a)) (DH (LU a)) (λ i=>DI i (LU a)) (HS (Or (EN (WE a) 13) (EN (WE a) 14)) (λ i=>UO i (WE a) i (LU a))) ((@List.Pairwise Int) Jf ((@List.map Int Int) (Ub (LU a)) (WE a))))))) (CB (Gf a) (WE a)) (AD (λ i=>TZ i (Gf a) (kN (XH (LU a)) (Gf a)) i (kN (Ub (LU a)) (WE a)) i)) (GR (LU a))) := by kernel_rfl
theorem BLS {a : Gn} (h : a.a <= a.l.length) {m : List Int} {i : Nat} (hi : i < m.length) : gD (whG a m) (a.a + i) = gD m i := by
 have := U0 (P := a.l.take a.a) (m := m) (S := a.l.drop a.b) (i := i) hi
 rw [show (a.l.take a.a).length = a.a by rw [List.length_take]; omega] at this; exact this
theorem BLH {a : Gn} (h : a.a <= a.b /\ a.b <= a.l.length) {m : List Int} (hm : m.length = a.b - a.a) : (whG a m).length = a.l.length := by
 unfold whG; rw [BRZ, hm, List.length_take, List.length_drop]; omega
theorem BVI {a : Gn} (h : a.a <= a.b /\ a.b <= a.l.length) {m : List Int} (hm : m.length = a.b - a.a) {j x : Nat} (hj : j + 1 < m.length) (hx : x < a.l.length) : gD (whG a (swL m j)) x = bif decide (x = a.a + j) then gD (whG a m) (a.a + (j + 1)) else bif decide (x = a.a + (j + 1)) then gD (whG a m) (a.a + j) else gD (whG a m) x := by
 have := BWB (P := a.l.take a.a) (m := m) (S := a.l.drop a.b) (j := j) (x := x) hj (by have := BLH h hm; unfold whG at this; rw [this]; exact hx)
 rw [show (a.l.take a.a).length = a.a by rw [List.length_take]; omega] at this; exact this
theorem BUO (a : Gn) (hab : a.a <= a.b /\ a.b <= a.l.length) (h : gnOk a) : BGE a := by
 obtain ⟨hlen, hin⟩ := h
 have e0 : whG a (mdl a.a a.b a.l) = a.l := BCW hab.1 hab.2
 have ml := AAX hab.1 hab.2
 have wm : ∀ {m : List Int} {i : Nat}, i < m.length -> gD (whG a m) (a.a + i) = gD m i := λ hi => BLS (by omega) hi
 rw [BJB]<;> delta KH wN ZR BG BJ EC MM NO Hc ES ET BW AD BU CL AR BZ DJ EK JH HO KB NL LO EJ GW EX HP HN HJ GT GB HC DU GG FE JW FP FK JL JM FY QC KI YM Wj Qx XH VR Nd Nh YI Yh MR Zy Lf nU kD AE CR FA BB GA AF AY AU AG EM EZ BC XG AX FC BM CJ AK AN DD BH HX BY BP CX HZ BN CY BS CE HQ FU AV DA AQ EV DW AZ Rd LX DQ CP FT AS FS DM AP ID AT BV EG CN BX GI CM HD CG IY GP GU EN DS DF FH HV AO AI CK EL UU FV DK CD EP HW EO DB FN FM KM HF PV JB DZ BD PH EA PG MB FQ FR IW NH BE DX FO FZ LL KL NC GH TZ IC LM VT LB Ca IM PI EW HS HB BO EB DH CQ BK GY CS EE LV ME GM Sg BI BL DG RM FX GC Iu NP ZK GR DI DN ER Af RC KO RU JJ XX NW JD MW GQ IR NU YG Oe QJ Ao Hr Gr QS Cj Yc aL UX aG cB bH VA Gu jN jT kP gK lJ; simp only [CC, eq_self, implies_true, forall_const, CU]
 refine ⟨⟨⟨1, mdl a.a a.b a.l⟩, ⟨(HY (by omega)).symm, λ i hi => by rw [e0]⟩, Nat.one_pos, .inr rfl, ⟨ml, λ i hi => by rw [BGR hab.2 (by omega)]; exact hin _ (by omega)⟩, by unfold kN; rw [ml]⟩, λ x ⟨x1, x2, ⟨x3, x4⟩, x5⟩ => ⟨λ hlt => ⟨⟨⟨x.i, x.i, x.l⟩, ⟨rfl, rfl, λ _ _ => rfl⟩, rfl, x1, by show x.i < a.b - a.a; omega, Nat.le_refl _, ⟨x3, x4⟩, ?_⟩, λ y ⟨y1, y2, y3, y4, ⟨y5, y6⟩, y7⟩ => ?_⟩, λ hge => ?_⟩⟩
 ·rw [x5, show a.b - a.a - x.i = (a.b - a.a - (x.i + 1)) + 1 by omega]; rfl
 ·have e : 0 < y.j -> IntKind.i64.wrap (((a.a + y.j : Nat) : Int) - 1) = ((a.a + (y.j - 1) : Nat) : Int) := λ h => (Bc (by omega) (by omega)).trans (by omega)
  refine ⟨⟨λ hg => ⟨by omega, by omega⟩, λ hg => by omega, λ hg => ?_, λ hg => ?_, λ hg => ⟨?_, ?_⟩⟩, λ hc => ?_, λ hc => ?_⟩
  ·rw [e (by omega)]; omega
  ·rw [e (by omega), Int.toNat_natCast]; omega
  ·rw [wm (by omega)]; exact y6 _ (by omega)
  ·rw [e (by omega), Int.toNat_natCast, wm (by omega)]; exact y6 _ (by omega)
  ·have hj : 0 < y.j := by
    cases hd : decide (((a.a + y.j : Nat) : Int) > (a.a : Int)) with
    | false => rw [hd] at hc; cases hc
    | true => have := of_decide_eq_true hd; omega
   obtain ⟨j, hj2⟩ : ∃ j, y.j = j + 1 := ⟨y.j - 1, by omega⟩
   rw [decide_eq_true (show ((a.a + y.j : Nat) : Int) > (a.a : Int) by omega)] at hc
   have hc : decide (kJ (KY a.g (gD (whG a y.l) (a.a + y.j))) (KY a.g (gD (whG a y.l) (IntKind.i64.wrap (((a.a + y.j : Nat) : Int) - 1)).toNat)) < 0) = true := hc
   have hc := of_decide_eq_true hc
   rw [e hj] at hc ⊢
   simp only [Int.toNat_natCast] at hc ⊢
   rw [wm (by omega), wm (by omega)] at hc
   rw [show y.j - 1 = j by omega] at hc ⊢
   refine ⟨⟨⟨by omega, by omega⟩, by omega, ⟨by omega, by omega⟩, by omega, ⟨by omega, by omega⟩, by omega, ⟨by omega, by omega⟩, by omega⟩, ⟨y.i, j, swL y.l j⟩, ⟨rfl, rfl, λ i hi => ?_⟩, ⟨y1, y2, y3, by show j <= y.i; omega, ⟨by rw [mQ]; exact y5, λ i hi => ?_⟩, ?_⟩, by show j < _; omega⟩
   ·rw [BVI hab y5 (by omega) hi, hj2]
   ·show 0 <= gD (swL y.l j) i /\ gD (swL y.l j) i < _
    rw [ACH (by omega)]
    cases decide (i = j)
    ·cases decide (i = j + 1)
     ·exact y6 i hi
     ·exact y6 j (by omega)
    ·exact y6 (j + 1) (by omega)
   ·rw [hj2] at hc y7
    unfold xJ at y7
    rw [decide_eq_true hc] at y7; exact y7
  ·have hq : xJ (KY a.g) y.j y.l = y.l := by
    rcases Nat.eq_zero_or_pos y.j with hj | hj
    ·rw [hj]; rfl
    ·obtain ⟨j, hj2⟩ : ∃ j, y.j = j + 1 := ⟨y.j - 1, by omega⟩
     rw [decide_eq_true (show ((a.a + y.j : Nat) : Int) > (a.a : Int) by omega)] at hc
     have hc : decide (kJ (KY a.g (gD (whG a y.l) (a.a + y.j))) (KY a.g (gD (whG a y.l) (IntKind.i64.wrap (((a.a + y.j : Nat) : Int) - 1)).toNat)) < 0) = false := hc
     have hc := of_decide_eq_false hc
     rw [e hj, Int.toNat_natCast, wm (by omega), wm (by omega), show y.j - 1 = j by omega, hj2] at hc
     rw [hj2]; unfold xJ; rw [decide_eq_false hc]; rfl
   rw [hq] at y7
   refine ⟨⟨y.i + 1, y.l⟩, ⟨(HY (a := a.a + y.i) (by omega)).symm, λ _ _ => rfl⟩, ⟨by show 0 < y.i + 1; omega, .inl (by show y.i + 1 <= _; omega), ⟨y5, y6⟩, y7⟩, by show a.b - a.a - (y.i + 1) < _; omega⟩
 ·intro i hi
  unfold Z9
  rw [x5, show a.b - a.a - x.i = 0 by omega]; rfl
theorem AXH : AJ Try.prog V0 (C_insS.spec dGn) := XP C_insS BGZ [] [] AUB (λ _ => by kernel_rfl) (λ _ => AA ABZ AC) (λ (a : Gn) h => by
 obtain ⟨h1, h2⟩ : (a.a <= a.b /\ a.b <= a.l.length) /\ gnOk a := h
 exact BUO a h1 h2) (λ _ => YS rfl rfl) _
theorem AUE : AJ Try.prog Y0 (C_pdqS.spec dGnp) := XP C_pdqS BHU [] [] ARC (λ _ => by kernel_rfl) (λ _ => AA AXH AC) (λ (a : Gn) h => by
 obtain ⟨h1, h2⟩ : (a.a <= a.b /\ a.b <= a.l.length /\ a.b <= a.a + 12) /\ gnOk a := h
 show BBV a
 have h3 := h2.1
 rw [BKD]<;> delta KH hd7 BG BJ EC MM NO Hc ES ET BW AD BU CL AR BZ DJ EK HO KB EJ GW EX HP HN HJ GT GB HC DU GG FE JW IH FP FK VV JL JV Rm Fx XH VR Nd Nh MR AE CR FA BB GA AF PX AY AU AG EM EZ BC FD XA AX FC BM CJ AK AN DD BH HX BY BP CX Uf HZ BN CY BS CE HQ FU AV DA AQ EV DW QY AZ LX DQ CP FT AS DM AP ID AT EG CN BX GI CM HD CG IY EN HV AO AI EL FV DK EP HW DB FN CB FM KM EA PG MB FQ NH BE DX FO FZ LL KL Ki NC GH TZ IC LM VT IM Ub BO DH CQ BK SM WU LS GY CS EE LV GZ GF BI BL DG RM MK CW ZK GR DI QQ Wt DN HI RC Jp LW ZI RL YG PO QJ WS UO Fq TJ UX Hj aG cB bH VA jT mF gK; simp only [CC, eq_self, implies_true, forall_const, CU]
 exact ⟨⟨default, trivial⟩, λ _ => ⟨⟨h1.1, h1.2.1⟩, h2⟩, λ hc => hc (by rw [Bc (by omega) (by omega)]; omega)⟩) (λ _ => YS rfl rfl) _
theorem lI {n : Nat} {x : Int} (h : 0 <= x /\ x < (n : Int)) : x.toNat < n := by omega
theorem BYO : AJ Try.prog ACN (C_o2.spec dO2) := XP C_o2 (λ _ => A_o2) [] [] AZJ (λ _ => by kernel_rfl) (λ _ => AA ABZ AC) (λ (a : O2) h => by
 obtain ⟨⟨h1, h2⟩, h3⟩ : ((0 <= a.a /\ a.a < a.l.length) /\ 0 <= a.b /\ a.b < a.l.length) /\ nY a.g a.l := h
 show V_o2 a
 rw [BYL]; delta ASZ ATU J3 F6 ABN AEC AMQ ALY ATV ARG AJH AAU qF AAO AMB ALC AJN ALL ALP AMM AMY AMJ AKZ ALG AMZ AJZ AKP ALU AKQ AKI ALB; simp only [CC, eq_self, implies_true, forall_const, CU]
 refine ⟨⟨h2, lI h2, h1, lI h1, h3 _ (lI h2), h3 _ (lI h1)⟩, λ hc => ?_, λ hc => ?_⟩
 ·have e : o2L (KY a.g) a.l a.a a.b = true := decide_eq_true hc
  unfold o2A o2B o2S; rw [e]; exact ⟨rfl, rfl, rfl⟩
 ·have e : o2L (KY a.g) a.l a.a a.b = false := decide_eq_false hc
  unfold o2A o2B o2S; rw [e]; exact ⟨rfl, rfl, rfl⟩) (λ _ => YS rfl rfl) _
theorem BOA {key : Int -> Int} {l : List Int} {n a b : Int} (ha : 0 <= a /\ a < n) (hb : 0 <= b /\ b < n) : (0 <= o2A key l a b /\ o2A key l a b < n) /\ 0 <= o2B key l a b /\ o2B key l a b < n := by
 unfold o2A o2B
 cases o2L key l a b
 ·exact ⟨ha, hb⟩
 ·exact ⟨hb, ha⟩
theorem BYF : AJ Try.prog AEG (C_md.spec dMd) := XP C_md (λ _ => A_md) [] [] AYX (λ _ => by kernel_rfl) (λ _ => AA BYO AC) (λ (a : Md) h => by
 obtain ⟨⟨h1, h2, h3⟩, h4⟩ : ((0 <= a.a /\ a.a < a.l.length) /\ (0 <= a.b /\ a.b < a.l.length) /\ 0 <= a.c /\ a.c < a.l.length) /\ nY a.g a.l := h
 show V_md a
 have q1 := BOA (key := KY a.g) (l := a.l) h1 h2
 have q2 := BOA (key := KY a.g) (l := a.l) q1.2 h3
 rw [BWQ]<;> delta BG BJ EC ES ET BW AD BU CL AR BZ HO KB EJ GW EX HP HN HJ GT GB HC DU GG FE JW FP FK VV XH Ei Fw Ga LN jY AE CR FA BB GA AF PX AY AU AG EM EZ BC AX FC BM CJ AK AN DD BH HX BY BP CX Uf HZ BN CY BS CE FU AV DA AQ EV DW QY AZ LX DQ CP FT AS DM AP ID AT EG CN BX CM HD CG IY GP EN FH HV AO AI DC EL FV DK CD EP HW DB FN CB FM KM EA PG MB FQ NH BE DX FO FZ LL KL Ki NC JS GH TZ IC LM Ub BO DH CQ BK SM WU LS GY CS EE IT BI BL HE DG MK FX CW ZK DI Wt UZ DN Cy PR WT XI UO MX Ir Au UW gO jU Wq mJ; simp only [CC, eq_self, implies_true, forall_const, CU]
 exact ⟨⟨⟨h1, h2⟩, h4⟩, ⟨⟨q1.2, h3⟩, h4⟩, ⟨⟨q1.1, q2.1⟩, h4⟩, rfl, rfl⟩) (λ _ => YS rfl rfl) _
theorem BAK {n : Nat} (h : n = 13 ∨ n = 14) : IntKind.i64.wrap ((n : Int) - 0) = (n : Int) /\ IntKind.i64.wrap ((n : Int).tdiv 4) = 3 := by
 rcases h with h | h <;> subst h <;> decide
theorem BVD : AJ Try.prog ABV (C_cho.spec dGw) := XP C_cho (λ _ => BQC) [] [] AZA (λ _ => by kernel_rfl) (λ _ => AA BYF AC) (λ (a : Gw) h => by
 obtain ⟨h1, h2⟩ : (a.l.length = 13 ∨ a.l.length = 14) /\ nY a.g a.l := h
 show BOB a
 obtain ⟨w1, w2⟩ := BAK h1
 have w3 : IntKind.i64.wrap (0 + IntKind.i64.wrap (3 * 1)) = 3 := by decide
 have w4 : IntKind.i64.wrap (0 + IntKind.i64.wrap (3 * 2)) = 6 := by decide
 have w5 : IntKind.i64.wrap (0 + IntKind.i64.wrap (3 * 3)) = 9 := by decide
 rw [BUL]<;> delta rW BG BJ EC MM NO Hc ES ET BW AD BU CL AR BZ SC EK HO KB NL EJ GW EX HP HN HJ GT GB HC DU GG FE JW FP FK VV Dx JV Ri XH KU FG AE CR FA BB GA AF PX AY AU AG EM EZ BC QF AX FC BM CJ AK AN DD BH HX BY BP CX Uf HZ BN CY BS CE HQ FU AV DA AQ EV DW QY AZ LX DQ CP FT AS FS DM AP ID AT EG CN BX GI CM HD CG IY GP EN FH HV AO AI DC EL FV DK CD EP HW DB FN CB FM KX KM ML EA PG MB FQ NH BE DX FO FZ LL LP KL Ki NC GH TZ IC LM VT Ub dL Rl EW IQ BO DH CQ BK SM WU LS GY CS EE LV BI BL DG RM MK nI Mi CW ZK GR DI Wt C9 DN HG bX SS VD VJ VH ACI XS lZ Dm UO Ir Au Mg Jq UW Kt Oj Ld Ys Ig YV bS cA bT gA Np Pn; simp only [CC, eq_self, implies_true, forall_const, CU]
 rw [w1, w2, w3, w4, w5]
 have hs := BSP (KY a.g) a.l 3 6 9
 refine ⟨λ h => (by cases h), λ h => (by cases h), λ h => (by cases h), λ _ => ⟨λ h => by omega, λ _ => ⟨⟨rfl, ⟨⟨by omega, by omega⟩, ⟨by omega, by omega⟩, by omega, by omega⟩, h2⟩, λ hc => ⟨rfl, ?_⟩, λ hc => ⟨λ hd => ?_, λ hd => ⟨rfl, ?_⟩⟩⟩⟩, λ h => by omega⟩
 ·unfold chH; rw [hc]; rfl
 ·have hd : mnS (KY a.g) a.l 3 6 9 0 = 12 := by simpa using hd
  omega
 ·unfold chH; rw [hc]; rfl) (λ _ => YS rfl rfl) _
theorem AUC {key : Int -> Int} {l : List Int} {i : Nat} : ∀ {n : Nat}, i <= n -> kI key l n = true -> kI key l i = true
 | 0, h, q => by
  obtain rfl : i = 0 := by omega
  exact q
 | n + 1, h, q => by
  rcases Nat.lt_or_ge i (n + 1) with r | r
  ·unfold kI at q
   rw [Bool.and_eq_true] at q
   exact AUC (by omega) q.1
  ·obtain rfl : i = n + 1 := by omega
   exact q
theorem BTN : AJ Try.prog E4 (C_pin.spec dGw) := XP C_pin BQF [] [] ARO (λ _ => by kernel_rfl) (λ _ => AA ABZ AC) (λ (a : Gw) h => by
 obtain ⟨h1, h2⟩ : (a.l.length = 13 ∨ a.l.length = 14) /\ nY a.g a.l := h
 show BPW a
 obtain ⟨w1, _⟩ := BAK h1
 rw [BSW]<;> delta KH wN ZR BG BJ EC MM NO Hc ES ET BW AD BU CL AR BZ SC DJ EK JH HO KB NL LO EJ GW EX HP HN HJ GT GB HC DU GG FE JW GN IH FP FK Dx JL FY QC JV EU KI Qx XH KU FG AE CR FA BB GA AF AY AU AG EM EZ BC AX FC BM CJ AK AN DD BH HX BY BP CX HZ BN CY BS CE HQ FU AV DA AQ EV DW AZ Rd LX DQ CP FT AS FS DM AP ID AT BV EG CN BX GI CM HD CG IY GP GU DS DF FH HV AO AI CK EL UU FV DK CD EP HW EO DB FN FM KM HF PV JB ML BD EA PG FQ FR IW NH BE DX FO FZ LP KL Ki NC GH BQ IC LM VT LB PI Rl HS HB BO EB DH CQ BK WU GY CS EE LV ME EF GZ BI BL OF DG RM MK DP GR DI QQ C9 DN HG ER PS RC KO bX aV SS NW VD VJ VH NU ZN Oe Sv XS Ah QJ Dc Dm Kc Mg Jq Kt Ld TJ Rx Cj To UX Wz aZ Kg VA Yn oC Pn; simp only [CC, eq_self, implies_true, forall_const, CU]
 rw [w1]
 refine ⟨⟨1, by decide, rfl⟩, λ a1 e1 => ?_⟩
 subst e1
 refine ⟨⟨0, rfl, by omega, rfl⟩, λ i ⟨i1, i2⟩ => ?_⟩
 have e : IntKind.i64.wrap (((i + 1 : Nat) : Int) - 1) = (i : Int) := (Bc (by omega) (by omega)).trans (by omega)
 rw [e]
 simp only [Int.toNat_natCast]
 refine ⟨⟨λ h => ⟨by omega, by omega⟩, λ h => by omega, λ h => ⟨by omega, by omega⟩, λ h => by omega, λ h => ⟨h2 _ (by omega), h2 _ (by omega)⟩⟩, λ hc => ?_, λ hc => ⟨λ hd => ?_, λ hd => ⟨λ _ => ?_, λ h => by omega⟩⟩⟩
 ·have hi : i + 1 < a.l.length := by
   rcases Nat.lt_or_ge (i + 1) a.l.length with q | q
   ·exact q
   ·rw [decide_eq_false (by omega)] at hc; cases hc
  rw [decide_eq_true (show ((i + 1 : Nat) : Int) < (a.l.length : Int) by omega)] at hc
  refine ⟨i + 1, (HY (by omega)).symm, ⟨hi, ?_⟩, by omega⟩
  unfold kI; rw [i2]; exact hc
 ·have hd : ((i + 1 : Nat) : Int) = (a.l.length : Int) := by simpa using hd
  rw [show a.l.length - 1 = i by omega]; exact i2
 ·have hd : ¬((i + 1 : Nat) : Int) = (a.l.length : Int) := by simpa using hd
  rw [decide_eq_true (show ((i + 1 : Nat) : Int) < (a.l.length : Int) by omega)] at hc
  have hs : kI (KY a.g) a.l (i + 1) = false := by unfold kI; rw [i2]; exact hc
  cases q : kI (KY a.g) a.l (a.l.length - 1) with
  | false => rfl
  | true => rw [AUC (show i + 1 <= a.l.length - 1 by omega) q] at hs; cases hs) (λ _ => YS rfl rfl) _
theorem BNP {key : Int -> Int} {i j : Nat} {l : List Int} (h1 : i <= j) (h2 : key (gD l i) < key (gD l 0)) : Ab key false i j l = Ab key false (i + 1) j l := by
 conv => lhs; unfold Ab
 rw [if_pos rfl, if_pos ⟨h1, h2⟩]
theorem AVI {key : Int -> Int} {i j : Nat} {l : List Int} (h : ¬(i <= j /\ key (gD l i) < key (gD l 0))) : Ab key false i j l = Ab key true i j l := by
 conv => lhs; unfold Ab
 rw [if_pos rfl, if_neg h]
theorem BNH {key : Int -> Int} {i j : Nat} {l : List Int} (h0 : 1 <= j) (h1 : i <= j) (h2 : ¬key (gD l j) < key (gD l 0)) : Ab key true i j l = Ab key true i (j - 1) l := by
 conv => lhs; unfold Ab
 rw [if_neg (by decide), if_pos ⟨h0, h1, h2⟩]
theorem BAS {key : Int -> Int} {i j : Nat} {l : List Int} (h : i > j) : Ab key true i j l = ⟨j, l⟩ := by
 conv => lhs; unfold Ab
 rw [if_neg (by decide), if_neg (by omega), if_pos h]
theorem BPF {key : Int -> Int} {i j : Nat} {l : List Int} (h : ¬i > j) (h2 : ¬(i <= j /\ ¬key (gD l j) < key (gD l 0))) : Ab key true i j l = Ab key false (i + 1) (j - 1) (sw2 l i j) := by
 conv => lhs; unfold Ab
 rw [if_neg (by decide), if_neg (λ q => h2 q.2), if_neg h]
theorem cU {i j : Nat} {u v : Int} : (bif decide ((i : Int) <= (j : Int)) then decide (kJ u v < 0) else false) = true ↔ i <= j /\ u < v := by
 by_cases h : (i : Int) <= (j : Int)
 ·rw [decide_eq_true h]
  show decide (kJ u v < 0) = true ↔ _
  rw [decide_eq_true_eq, G5]
  exact ⟨λ q => ⟨by omega, q⟩, λ q => q.2⟩
 ·rw [decide_eq_false h]
  exact ⟨λ q => (by cases q), λ q => absurd q.1 (by omega)⟩
theorem cD {i j : Nat} {u v : Int} : (bif decide ((i : Int) <= (j : Int)) then !decide (kJ u v < 0) else false) = true ↔ i <= j /\ ¬u < v := by
 by_cases h : (i : Int) <= (j : Int)
 ·rw [decide_eq_true h]
  show (!decide (kJ u v < 0)) = true ↔ _
  rw [Bool.not_eq_true', decide_eq_false_iff_not, G5]
  exact ⟨λ q => ⟨by omega, q⟩, λ q => q.2⟩
 ·rw [decide_eq_false h]
  exact ⟨λ q => (by cases q), λ q => absurd q.1 (by omega)⟩
theorem no_t {b : Bool} (h : b = false) : ¬b = true := by rw [h]; decide
theorem qJ {g : Cht} {l m : List Int} (hp : m.Perm l) (h : nY g l) : nY g m := λ i hi => by
 obtain ⟨j, hj, e⟩ := YH (hp.mem_iff.1 (TY hi))
 rw [<- e]; exact h j hj
theorem BGX {a : Gp} {j : Nat} {l : List Int} (h : gpR a = ⟨j, l⟩) (hl : l.length = a.l.length) (hj : j < a.l.length) : ((gpR a).j : Int) = (j : Int) /\ ∀ i, i < a.l.length -> gD (ptL (KY a.g) a.l a.p.toNat) i = bif decide (i = 0) then gD l j else bif decide (i = j) then gD l 0 else gD l i := by
 refine ⟨by rw [h], λ i hi => ?_⟩
 have e : ptM (KY a.g) a.l a.p.toNat = ⟨j, l⟩ := h
 unfold ptL
 rw [e]
 exact vH (by show j < l.length; omega) (by show 0 < l.length; omega)
theorem BNT {key : Int -> Int} {i j : Nat} {l : List Int} (h1 : ¬i > j) (h2 : i <= j -> ¬key (gD l i) < key (gD l 0)) (h3 : ¬(i <= j /\ ¬key (gD l j) < key (gD l 0))) : i < j := by
 rcases Nat.lt_or_ge i j with q | q
 ·exact q
 ·obtain rfl : i = j := by omega
  exact absurd ⟨Nat.le_refl _, h2 (Nat.le_refl _)⟩ h3
theorem BVT (a : Gp) (h1 : a.l.length = 13 ∨ a.l.length = 14) (hp : 0 <= a.p /\ a.p < a.l.length) (h2 : nY a.g a.l) : BPY a := by
 have hn : 0 < a.l.length := by omega
 have z2 : (0 : Int) <= 0 /\ (0 : Int) < (a.l.length : Int) := ⟨Int.le_refl _, by omega⟩
 have sp := dT hn (lI hp)
 rw [BUC]<;> delta KH wN hd7 ZR BG BJ EC MM NO Hc ES ET BW AD BU CL AR BZ SC DJ EK JH HO KB NL LO EJ GW EX HP HN HJ GT GB HC DU GG FE JW FP FK JL JM FY QC KI YM Wj Qx XH Zt kG KV RY HA ADQ AE CR FA BB GA AF AY AU AG EM EZ BC XG AX FC BM CJ AK AN DD BH HX BY BP CX HZ BN CY BS CE HQ FU AV DA AQ EV DW AZ LX DQ CP FT AS FS DM AP ID AT BV EG CN BX GI CM HD CG IY GP GU EN DS DF FH HV AO AI CK EL UU FV DK CD EP HW EO DB FN CB FM KM UT HF PV JB ML BD PH EA PG MB FQ FR IW NH BE DX FO FZ LL LP KL NC GH BQ IC LM VT LB Ca Qy PI HS BO DH CQ BK GY CS EE LV ME BI BL DG RM HU FX bA NB NP ZK GR DI Wt DN HG ACU ER RC Lw KO AGA JJ Df aB T6 uX NW iS AJT N0 Lx ACS JR vP VE vE jL AFU ADJ ABD Oe Ex QJ Ao Dg Di Kp Ju QS Dn Kk XE Mq Sd Cz Tx St Cj bG Gq UX cH Kg cJ VA Gu Ua cF jG iP Yn; simp only [CC, eq_self, implies_true, forall_const, CU]
 have wj : ∀ {j : Nat}, 1 <= j -> j < a.l.length -> ((j - 1 : Nat) : Int) = IntKind.i64.wrap ((j : Int) - 1) := λ h1 h2 => ((Bc (by omega) (by omega)).trans (by omega)).symm
 have w0 : ((1 : Nat) : Int) = IntKind.i64.wrap (0 + 1) := by decide
 have wn : ((a.l.length - 1 : Nat) : Int) = IntKind.i64.wrap ((a.l.length : Int) - 1) := ((Bc (by omega) (by omega)).trans (by omega)).symm
 have gd : ∀ {i j k : Nat} {l : List Int}, (i <= j -> k < a.l.length) -> l.length = a.l.length -> nY a.g l -> ((i : Int) <= (j : Int) -> (0 : Int) <= k /\ (k : Int) < a.l.length) /\ ((i : Int) <= (j : Int) -> k < a.l.length) /\ ((i : Int) <= (j : Int) -> (0 : Int) <= 0 /\ (0 : Int) < a.l.length) /\ ((i : Int) <= (j : Int) -> Int.toNat 0 < a.l.length) /\ ((i : Int) <= (j : Int) -> (0 <= gD l k /\ gD l k < a.g.ns.length) /\ 0 <= gD l 0 /\ gD l 0 < a.g.ns.length) := λ h2 h4 h5 => ⟨λ h => by have := h2 (by omega); omega, λ h => h2 (by omega), λ _ => z2, λ _ => hn, λ h => ⟨h5 _ (by have := h2 (by omega); omega), h5 _ (by omega)⟩⟩
 have rg : ∀ {i j : Nat}, i < a.l.length -> j < a.l.length -> ((0 : Int) <= (i : Int) /\ (i : Int) < a.l.length) /\ i < a.l.length /\ ((0 : Int) <= (j : Int) /\ (j : Int) < a.l.length) /\ j < a.l.length /\ ((0 : Int) <= (j : Int) /\ (j : Int) < a.l.length) /\ j < a.l.length /\ ((0 : Int) <= (i : Int) /\ (i : Int) < a.l.length) /\ i < a.l.length := λ h1 h2 => ⟨⟨by omega, by omega⟩, h1, ⟨by omega, by omega⟩, h2, ⟨by omega, by omega⟩, h2, ⟨by omega, by omega⟩, h1⟩
 refine ⟨⟨hp, lI hp, z2, hn, z2, hn, hp, lI hp⟩, ⟨⟨1, a.l.length - 1, ptS a.l a.p.toNat⟩, ⟨w0, wn, λ i hi => vH hn (lI hp)⟩, ⟨Nat.one_pos, by show a.l.length - 1 < _; omega, by show 1 <= a.l.length - 1 + 1; omega⟩, ⟨rE _ _ _, qJ sp h2⟩, rfl⟩, λ x ⟨⟨x1, x2, x3⟩, ⟨x4, x5⟩, x6⟩ => ⟨gd (λ h => by omega) x4 x5, λ hc => ?_, λ hc => ⟨?_, λ y ⟨⟨⟨y1, y2, y3⟩, ⟨y4, y5⟩, y6⟩, y7⟩ => ⟨gd (λ h => by omega) y4 y5, λ hd => ?_, λ hd => ⟨λ hij => ?_, λ hij => ?_⟩⟩⟩⟩⟩
 ·have q := cU.1 hc
  exact ⟨⟨x.i + 1, x.j, x.l⟩, ⟨(HY (by omega)).symm, rfl, λ _ _ => rfl⟩, ⟨⟨Nat.succ_pos _, x2, by show x.i + 1 <= x.j + 1; omega⟩, ⟨x4, x5⟩, x6.trans (BNP q.1 q.2)⟩, by show x.j + 1 - (x.i + 1) < _; omega⟩
 ·have q := λ h => no_t hc (cU.2 h)
  exact ⟨⟨x.i, x.j, x.l⟩, ⟨rfl, rfl, λ _ _ => rfl⟩, ⟨⟨x1, x2, x3⟩, ⟨x4, x5⟩, x6.trans (AVI q)⟩, λ h1 h2 => q ⟨h1, h2⟩⟩
 ·have q := cD.1 hd
  exact ⟨⟨y.i, y.j - 1, y.l⟩, ⟨rfl, wj (by omega) y2, λ _ _ => rfl⟩, ⟨⟨⟨y1, by show y.j - 1 < _; omega, by show y.i <= y.j - 1 + 1; omega⟩, ⟨y4, y5⟩, y6.trans (BNH (by omega) q.1 q.2)⟩, λ h => y7 q.1⟩, by show y.j - 1 < _; omega⟩
 ·have e := y6.trans (BAS (show y.i > y.j by omega))
  exact ⟨⟨z2, hn, ⟨by omega, by omega⟩, y2, ⟨by omega, by omega⟩, y2, z2, hn⟩, BGX e y4 y2⟩
 ·have hij : ¬y.i > y.j := by omega
  have q := λ h => no_t hd (cD.2 h)
  have l1 := BNT hij y7 q
  have lp := dT (l := y.l) (i := y.i) (j := y.j) (by omega) (by omega)
  refine ⟨rg y2 (by omega), ⟨⟨y.i + 1, y.j - 1, sw2 y.l y.i y.j⟩, ⟨(HY (by omega)).symm, wj (by omega) y2, λ i hi => vH (by omega) (by omega)⟩, ⟨Nat.succ_pos _, by show y.j - 1 < _; omega, by show y.i + 1 <= y.j - 1 + 1; omega⟩, ⟨(rE _ _ _).trans y4, qJ lp y5⟩, y6.trans (BPF hij q)⟩, λ z ⟨⟨z1, z2', z3⟩, ⟨z4, z5⟩, z6⟩ => ⟨⟨⟨z.i, z.j, z.l⟩, ⟨rfl, rfl, λ _ _ => rfl⟩, ⟨⟨z1, z2', z3⟩, ⟨z4, z5⟩, z6⟩, Nat.le_refl _⟩, λ w ⟨⟨⟨w1, w2, w3⟩, ⟨w4, w5⟩, w6⟩, w7⟩ => ⟨gd (λ h => by omega) w4 w5, λ hc => ?_, λ hc => ⟨?_, λ v ⟨⟨⟨v1, v2, v3⟩, ⟨v4, v5⟩, v6⟩, v7, v8⟩ => ⟨gd (λ h => by omega) v4 v5, λ hd => ?_, λ hd => ⟨λ hij => ?_, λ hij => ?_⟩⟩⟩⟩⟩⟩
  ·have q := cU.1 hc
   exact ⟨⟨w.i + 1, w.j, w.l⟩, ⟨(HY (by omega)).symm, rfl, λ _ _ => rfl⟩, ⟨⟨⟨Nat.succ_pos _, w2, by show w.i + 1 <= w.j + 1; omega⟩, ⟨w4, w5⟩, w6.trans (BNP q.1 q.2)⟩, by show w.j + 1 - (w.i + 1) <= _; omega⟩, by show w.j + 1 - (w.i + 1) < _; omega⟩
  ·have q := λ h => no_t hc (cU.2 h)
   exact ⟨⟨w.i, w.j, w.l⟩, ⟨rfl, rfl, λ _ _ => rfl⟩, ⟨⟨w1, w2, w3⟩, ⟨w4, w5⟩, w6.trans (AVI q)⟩, λ h1 h2 => q ⟨h1, h2⟩, w7⟩
  ·have q := cD.1 hd
   exact ⟨⟨v.i, v.j - 1, v.l⟩, ⟨rfl, wj (by omega) v2, λ _ _ => rfl⟩, ⟨⟨⟨v1, by show v.j - 1 < _; omega, by show v.i <= v.j - 1 + 1; omega⟩, ⟨v4, v5⟩, v6.trans (BNH (by omega) q.1 q.2)⟩, λ h => v7 q.1, by show v.j - 1 + 1 - v.i <= _; omega⟩, by show v.j - 1 < _; omega⟩
  ·have e := v6.trans (BAS (show v.i > v.j by omega))
   exact ⟨⟨z2, hn, ⟨by omega, by omega⟩, v2, ⟨by omega, by omega⟩, v2, z2, hn⟩, BGX e v4 v2⟩
  ·have hij : ¬v.i > v.j := by omega
   have q := λ h => no_t hd (cD.2 h)
   have l1 := BNT hij v7 q
   have lp := dT (l := v.l) (i := v.i) (j := v.j) (by omega) (by omega)
   exact ⟨rg v2 (by omega), ⟨v.i + 1, v.j - 1, sw2 v.l v.i v.j⟩, ⟨(HY (by omega)).symm, wj (by omega) v2, λ i hi => vH (by omega) (by omega)⟩, ⟨⟨Nat.succ_pos _, by show v.j - 1 < _; omega, by show v.i + 1 <= v.j - 1 + 1; omega⟩, ⟨(rE _ _ _).trans v4, qJ lp v5⟩, v6.trans (BPF hij q)⟩, by show v.j - 1 + 1 - (v.i + 1) < _; omega⟩
theorem BRQ : AJ Try.prog AJX (C_ptn.spec dGp) := XP C_ptn BNQ [] [] BAB (λ _ => by kernel_rfl) (λ _ => AA ABZ AC) (λ (a : Gp) h => by
 obtain ⟨⟨h1, hp⟩, h2⟩ : ((a.l.length = 13 ∨ a.l.length = 14) /\ 0 <= a.p /\ a.p < a.l.length) /\ nY a.g a.l := h
 exact BVT a h1 hp h2) (λ _ => YS rfl rfl) _
theorem BVV (g : Cht) (l : List Int) (p : Nat) : gpR ⟨g, l, (p : Int)⟩ = ptM (KY g) l p := by unfold gpR; rfl
theorem BSO (a : Gw) : (chH a == 2) = true -> False := λ h => by
 unfold chH at h
 cases q : mnS (KY a.g) a.l 3 6 9 0 == 0 with
 | false => rw [q] at h; cases h
 | true => rw [q] at h; cases h
theorem BAQ {key : Int -> Int} {P : Int} {k : Nat} {l m r s : List Int} (hd : ndk key l) (h : PtK key P k l m) (hh : (RsM key 0 k m r /\ RsM key (k + 1) l.length r s) ∨ RsM key (k + 1) l.length m r /\ RsM key 0 k r s) : s = kN key l := by
 obtain ⟨q1, q2⟩ := BSE h hh
 exact AUJ hd q1 (by rw [q1.length_eq]; exact q2)
set_option maxHeartbeats 1000000 in
theorem BRW (a : Gw) (h1 : a.l.length = 13 ∨ a.l.length = 14) (h2 : nY a.g a.l) (hd : ndk (KY a.g) a.l) : BHV a := by
 obtain ⟨w1, _⟩ := BAK h1
 obtain ⟨p, p1, p2, hx, hy⟩ := BVH hd (a := 3) (b := 6) (c := 9) (by omega) (by omega) (by omega)
 have p2 : chP a = (p : Int) := p2
 have K := BRR (key := KY a.g) p1
 have sd := BDQ K hx hy
 have hl := K.perm.length_eq
 have hin := qJ K.perm h2
 rw [BJS]<;> delta KH wN hd7 ZR BG BJ EC MM NO Hc ES ET BW AD BU CL AR BZ SC DJ EK JH HO KB NL LO EJ GW EX HP HN HJ GT GB HC DU GG FE JW IH FP FK VV Dx JL FY QC JV KI Rm Fx XH Zy KU FG Rc Fy My AE CR FA BB GA AF PX AY AU AG EM EZ BC FD XA AX FC BM CJ AK AN DD BH HX BY BP CX Uf HZ BN CY BS CE HQ FU AV DA AQ EV DW QY AZ LX DQ CP FT AS FS DM AP ID AT BV EG CN BX GI CM HD CG IY GP GU EN DS FH HV AO AI DC CK EL UU FV DK CD EP HW EO DB FN CB FM KX KM HF PV JB DZ ML BD EA PG MB FQ Ge NH BE DX FO FZ LL LP KL Ki NC GH TZ BQ IC LM VT IM Ub PI Rl EW El HS BO DH CQ BK SM WU LS GY CS EE LV GZ IF GF BR BI BL OF DG RM MK HU Mi CW NP ZK GR DI TD QQ Wt C9 UZ RI ALX DN HI HG ER PS RC PR KO HT KS bX aV Jp SN T6 SS NW LW VD VJ N0 ZI vP RL AFO VH vE Oe PO XS QJ Bf Dc lZ Dm Ax UO Ir Kc Mg Jq VW Fq Kt Oj Ld TJ Rx Cj Ys To Sl UX Hj Wz aW aZ YV VA bT Vp Np; simp only [CC, eq_self, implies_true, forall_const, CU]
 simp only [p2, BVV, Int.toNat_natCast, Int.toNat_zero]
 rw [w1]
 generalize ptL (KY a.g) a.l p = m at *
 generalize (ptM (KY a.g) a.l p).j = k at *
 have rm : (IK a.l.length λ i => gD m i) = m := by rw [<- hl]; exact TS m
 have k1 : IntKind.i64.wrap ((k : Int) - 0) = (k : Int) := (Bc (by omega) (by omega)).trans (by omega)
 have k2 : IntKind.i64.wrap ((a.l.length : Int) - (k : Int)) = ((a.l.length - k : Nat) : Int) := (Bc (by omega) (by omega)).trans (by omega)
 have k3 : IntKind.i64.wrap ((k : Int) + 1) = ((k + 1 : Nat) : Int) := HY (by omega)
 rw [rm, k1, k2, k3]
 simp only [Int.toNat_natCast]
 have hin' : ∀ i, i < a.l.length -> 0 <= gD m i /\ gD m i < a.g.ns.length := λ i hi => hin i (by omega)
 refine ⟨⟨default, trivial⟩, λ x ⟨⟨x1, x2, x3⟩, ⟨x4, x5⟩, x6⟩ => ⟨λ _ => ?_, λ h => h (by rw [Bc (by omega) (by omega)]; omega)⟩, ⟨λ h => absurd h (by omega), λ _ => ⟨default, trivial⟩⟩, ⟨h1, h2⟩, BSO _, λ _ => ⟨⟨λ _ => ⟨⟨h1, h2⟩, λ hs i hi => ?_, λ _ => ⟨default, trivial⟩⟩, λ _ => ⟨default, trivial⟩⟩, ⟨λ h => (by cases h), λ h => (by cases h), λ h => (by cases h), λ h => (by cases h), λ h => (by cases h)⟩, ⟨⟨h1, by omega, by omega⟩, h2⟩, λ h => (by cases h), λ hlt => ?_, λ hge => ?_⟩⟩
 ·have rx : (IK a.l.length λ i => gD x.l i) = x.l := by rw [<- x4]; exact TS x.l
  rw [rx, x6]
  exact ⟨⟨λ _ _ => rfl, ⟨x1, x2⟩, by omega, λ i hi => x5 i (by omega)⟩, λ _ _ => rfl⟩
 ·rw [<- AUJ hd (List.Perm.refl _) (AVC _ hs)]
 ·have R1 := ALV (KY a.g) (A := 0) (B := k) (l := m) (Nat.zero_le _) (by omega)
  have rl := R1.perm.length_eq
  have R2 := ALV (KY a.g) (A := k + 1) (B := a.l.length) (l := Z9 (KY a.g) 0 k m) (by omega) (by omega)
  refine ⟨⟨rfl, λ _ _ => trivial, ⟨by omega, by omega, by omega⟩, by omega, hin'⟩, ⟨k + 1, a.l.length, Z9 (KY a.g) 0 k m, k⟩, ⟨rfl, rfl, rfl, λ _ _ => rfl⟩, ⟨⟨by show k + 1 <= a.l.length; omega, Nat.le_refl _, by show a.l.length <= k + 1 + 12; omega⟩, ⟨rl.trans hl, qJ R1.perm hin⟩, BAQ hd K (.inl ⟨R1, R2⟩)⟩, Nat.one_pos⟩
 ·have R1 := ALV (KY a.g) (A := k + 1) (B := a.l.length) (l := m) (by omega) (by omega)
  have rl := R1.perm.length_eq
  have R2 := ALV (KY a.g) (A := 0) (B := k) (l := Z9 (KY a.g) (k + 1) a.l.length m) (Nat.zero_le _) (by omega)
  refine ⟨⟨trivial, λ _ _ => trivial, ⟨by omega, by omega, by omega⟩, by omega, hin'⟩, ⟨0, k, Z9 (KY a.g) (k + 1) a.l.length m, k⟩, ⟨rfl, rfl, rfl, λ _ _ => rfl⟩, ⟨⟨Nat.zero_le _, by show k <= a.l.length; omega, by show k <= 0 + 12; omega⟩, ⟨rl.trans hl, qJ R1.perm hin⟩, BAQ hd K (.inr ⟨R1, R2⟩)⟩, Nat.one_pos⟩
theorem BKU : AJ Try.prog Y0 (C_pdqL.spec dGwp) := XP C_pdqL BGM [] [] ARC (λ _ => by kernel_rfl) (λ _ => AA ABZ (AA AXH (AA AUE (AA BVD (AA BTN (AA BRQ AC)))))) (λ (a : Gw) h => by
 obtain ⟨⟨h1, h2⟩, h3⟩ : ((a.l.length = 13 ∨ a.l.length = 14) /\ nY a.g a.l) /\ ndk (KY a.g) a.l := h
 exact BRW a h1 h2 h3) (λ _ => YS rfl rfl) _
theorem BYG : AJ Try.prog Zb ACK := Kr sT AXQ λ x h => by
 have h : x = 13 ∨ x = 14 := h
 rcases h with h | h
 ·subst h
  exact Hp (A := ann 25 []) (ren := []) (fz := []) B9 (by kernel_rfl) AC (by
   show BQK default; rw [BTZ]; delta z_l13_0 AKM; exact ⟨BFW _, by kernel_rfl⟩)
 ·subst h
  exact Hp (A := ann 25 []) (ren := []) (fz := []) B9 (by kernel_rfl) AC (by
   show BOO default; rw [BTV]; delta z_l14_0 AKC; exact ⟨BFW _, by kernel_rfl⟩)
theorem BMQ : AJ Try.prog C7 ACK := Kr sT AXQ λ x h => Hp (A := ann 8 [(Zb, ACK)]) (ren := []) (fz := []) AUM (by kernel_rfl) (AA BYG AC) (by
 show BGO x; rw [BKO]<;> delta AR SC AG Ge Sl; exact ⟨h, rfl⟩)
theorem BMO (key : Int -> Int) (l : List Int) : Z9 key 0 l.length l = kN key l := by
 unfold Z9 mdl wh; simp
theorem BRG : AJ Try.prog yW (C_srt.spec dGLt) := okT C_srt (λ (a : GL) h => by
 obtain ⟨h1, h2, h3⟩ : (a.l.length <= 12 ∨ (a.l.length = 13 ∨ a.l.length = 14) /\ ndk (KY a.g) a.l) /\ glOk a := h
 rcases h1 with h1 | ⟨h1, hd⟩
 ·exact Hp (A := BHG) (L := C_sort.L a) (keep := C_sort.keep a) (ren := []) (fz := []) ACG (by kernel_rfl) (AA BDD (AA AUE AC)) (by
   show BCR a; rw [BLP]<;> delta BG BJ EC MM ES ET BW AD BU CL AR BZ SC DJ HO KB EJ GW EX HP HN HJ GT GB HC DU GG FE JW FP FK VV FY XH Gf LU AE CR FA BB GA AF PX AY AU AG EM EZ BC AX FC BM CJ AK AN DD BH HX BY BP CX Uf HZ BN CY BS CE FU AV DA AQ EV DW QY AZ LX DQ CP FT AS DM AP ID AT EG CN BX CM HD CG IY EN HV AO AI EL FV DK EP HW EO DB FN CB FM KM ML EA MB FQ NH BE DX FO FZ LL LP KL NC GH TZ IC LM VT Ub BO DH CQ BK SM LS GY CS EE LV BI BL DG RM CW ZK GR DI Wt RI DN RC WE LW RL Bv QJ Se UO Fq UX VA iY; simp only [CC, eq_self, implies_true, forall_const, CU]
   rw [show IntKind.u64.wrap (a.l.length : Int) = a.l.length from u64w (by omega) (by omega)]
   simp only [Int.toNat_zero]
   exact ⟨⟨⟨by omega, by omega⟩, rfl, ⟨Nat.zero_le _, Nat.le_refl _, h1⟩, h2, h3⟩, λ i hi => by rw [BMO]⟩)
 ·exact Hp (A := BDJ) (L := C_sort.L a) (keep := C_sort.keep a) (ren := []) (fz := []) ACG (by kernel_rfl) (AA BMQ (AA BKU AC)) (by
   show AZQ a; rw [BKT]<;> delta BG BJ EC MM ES ET BW AD BU CL AR BZ SC HO KB EJ GW EX HP HN HJ GT GB HC DU GG FE JW FP FK VV Jf XH Gf LU AE CR FA BB GA AF PX AY AU AG EM EZ BC AX FC BM CJ AK AN DD BH HX BY BP CX Uf HZ BN CY BS CE FU AV DA AQ EV DW QY AZ LX DQ CP FT AS DM AP ID AT EG CN BX CM HD CG IY EN HV AO AI EL FV DK EP HW EO DB FN CB FM KM ML EA MB FQ Ge NH BE DX FO FZ LL LP KL NC GH TZ BQ IC LM VT Ub HS BO DH CQ BK SM LS GY CS EE LV BI BL DG RM CW ZK GR DI Wt DN WE MD Bv QJ UO Sl iY; simp only [CC, eq_self, implies_true, forall_const, CU]
   rw [show IntKind.u64.wrap (a.l.length : Int) = a.l.length from u64w (by omega) (by omega)]
   exact ⟨by omega, ⟨h1, h3⟩, hd⟩)) _
end Go.Bal
