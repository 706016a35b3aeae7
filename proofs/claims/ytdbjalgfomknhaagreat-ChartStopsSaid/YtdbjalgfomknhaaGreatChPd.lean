/- Package chart: the order of 13 to 20 notes. -/
import Derived.Test.YtdbjalgfomknhaaGreatChPd1
set_option linter.unusedVariables false
set_option linter.unusedSimpArgs false
namespace Go.Bal
open Go Go.Sym Go.Proofs
structure Gn where
 g : Cht
 l : List Int
 a : Nat
 b : Nat
def gnK (a : Gn) (l : List Int) : List (Nat × HCell) := [(100, .live (BHZ a.l.length l)), (101, .live (bxG a.g))]
def gnL (a : Gn) : List (Nat × AObj) := [(100, rowI a.l), (101, bxG a.g)]
def Y3 (g : Cht) (l : List Int) : Prop := ∀ i, i < l.length -> 0 <= gD l i /\ gD l i < g.ns.length
def gnOk (a : Gn) : Prop := a.l.length < 1073741824 /\ ∀ i, i < a.l.length -> 0 <= gD a.l i /\ gD a.l i < a.g.ns.length
def YN (a : Gn) (m : List Int) : List Int := wh (a.l.take a.a) m (a.l.drop a.b)
def dGn : List AVal -> Heap -> Option (Gn × List (Nat × Nat) × List Nat)
 | [.own id _ _ n, .d x, .d y, .fn (.func f) [] [.bptr c _]], H => if f = WS then match H id, Hd H c with
  | .live (.row _ m r), some q => some (⟨q, ME n λ i => HJ (r i), (HJ x).toNat, (HJ y).toNat⟩, [(100, id), (101, c)], [])
  | _, _ => none else none
 | _, _ => none
def C_insS : Ctr := { ro := [101], α := Gn, xs := λ a => [.own 100 1 0 a.l.length, .int a.a, .int a.b, mE], L := gnL, val := λ _ => .d (.tup []), keep := λ a => gnK a (Xp (CV a.g) a.a a.b a.l), pre := λ a => [(a.a <= a.b /\ a.b <= a.l.length) /\ gnOk a] }
def insI (a : Gn) (m : List Int) : Prop := m.length = a.b - a.a /\ ∀ i, i < a.b - a.a -> 0 <= gD m i /\ gD m i < a.g.ns.length
def BZT (a : Gn) : Shape := { α := IL2, dflt := default, T := λ x => ⟨[(0, .own 100 1 0 a.l.length), (1, .int a.a), (2, .int a.b), (3, mE), (8, .int ((a.a + x.i : Nat) : Int))], gnK a (YN a x.l)⟩, inv := λ x => 1 <= x.i /\ (x.i <= a.b - a.a ∨ x.i = 1) /\ insI a x.l /\ Xq (CV a.g) (nT a.a a.b a.l) = stR (CV a.g) (a.b - a.a - x.i) x.i x.l, meas := λ x => a.b - a.a - x.i }
def BZF (a : Gn) (m : Nat) : Shape := { α := IJL, dflt := default, T := λ x => ⟨[(0, .own 100 1 0 a.l.length), (1, .int a.a), (2, .int a.b), (3, mE), (8, .int ((a.a + x.i : Nat) : Int)), (9, .int ((a.a + x.j : Nat) : Int))], gnK a (YN a x.l)⟩, inv := λ x => a.b - a.a - x.i = m /\ 1 <= x.i /\ x.i < a.b - a.a /\ x.j <= x.i /\ insI a x.l /\ Xq (CV a.g) (nT a.a a.b a.l) = stR (CV a.g) (a.b - a.a - (x.i + 1)) (x.i + 1) (yU (CV a.g) x.j x.l), meas := λ x => x.j }
def BGP (a : Gn) : Ann := { ann 53 [(WS, C_fw1.spec dGAB)] with E := [100, 101], loops := λ id => if id = 1 then some [BZT a] else none, inner := λ gs id => if id = 4 then some [BZF a (gs.getD 0 0)] else none }
def BHR (a : Gn) : Prop := CF Try.prog (BGP a) AHZ (AH AHZ) (C_insS.xs a) (AB (C_insS.L a)) (C_insS.val a) (C_insS.keep a) [] []
abbrev IZ:=Gn.l
abbrev Bp:=Gn.a
abbrev Hk:=Gn.b
abbrev WU:=IL2.i
abbrev Wm:=IL2.l
abbrev EF:=Gn.g
abbrev iP:=@Eq (List Int)
abbrev Kl:=IJL.i
abbrev Xs:=IJL.j
abbrev Se:=IJL.l
abbrev RE a:=DG (EF a)
abbrev PK a:=VS (EF a)
abbrev LP a:=YQ (IZ a)
abbrev KO a:=LS (Hk a) (Bp a)
abbrev Iq a b c d e:=BA a b c (DK d e)
abbrev Dy a b c d e f:=Iq a b (YX c d) (DN c e) f
abbrev kO a:=AO (EF a)
abbrev Fe a b:=RX (Bp a) b
abbrev Me a:=FS (Hk a)
abbrev Wz a:=BE (Bp a)
abbrev Al a:=AE (Wz a)
abbrev mF a:=JR (Kl a)
abbrev Pu a b c d:=Lw (LS a b) c d
abbrev Df a b c:=Pu a b a c
abbrev Zg a b c:=DN (YN a b) c
abbrev Uz a b c:=Zg a (Se b) c
abbrev Wi a b:=BE (Fe a b)
abbrev Er a b:=Wi a (Xs b)
abbrev Ui a b:=Dl (Er a b)
abbrev Hg a b:=CM (Fe a b)
abbrev eX a b:=Hg a (Xs b)
abbrev QM a:=CJ (IZ a)
abbrev Qu a b:=HF a (QM b)
abbrev Eg a:=AN (EF a)
abbrev Ej a:=AM (EF a)
abbrev Cf a:=AL (EF a)
abbrev Bv a:=AJ (EF a)
abbrev Mu a:=AQ (EF a)
abbrev Hf a:=BE (Hk a)
attribute [go_sem] IZ Bp Hk WU Wm EF iP Kl Xs Se RE PK LP KO Iq Dy kO Fe Me Wz Al mF Pu Df Zg Uz Wi Er Ui Hg eX QM Qu Eg Ej Cf Bv Mu Hf
theorem BNS (a : Gn) : (BHR a) = (And ((@Exists IL2) (λ i=>AG (And AT (DT (LP a) (Al a) (Me a) (BR (Fe a (WU i)) (Bp a)) (LP a) (AF (λ j=>MW j (IZ a) (YN a (Wm i)) j (IZ a) j)) (RE a))) (KT (WU i)) (Or (EU (WU i) (KO a)) (MI (WU i))) (HZ (LL (Wm i) (KO a)) (λ j=>Dy j (KO a) (Wm i) j j (kO a))) (iP (Xq (PK a) (nT (Bp a) (Hk a) (IZ a))) (stR (PK a) (LS (KO a) (WU i)) (WU i) (Wm i))))) ((λ (f : IL2 -> Prop) => ∀ (x : IL2), f x) (λ i=>IR (IH 1 (WU i) (AD (Or (EU (WU i) (KO a)) (MI (WU i))) (HZ (LL (Wm i) (KO a)) (λ j=>Dy j (KO a) (Wm i) j j (kO a))) (iP (Xq (PK a) (nT (Bp a) (Hk a) (IZ a))) (stR (PK a) (LS (KO a) (WU i)) (WU i) (Wm i))))) (Wi a (WU i)) (Hf a) ((@Exists IJL) (λ j=>DT (Oy AT (LP a) (Al a) (Me a) (HH (Fe a (Kl j)) (Wi a (WU i))) (HH (Fe a (Xs j)) (Wi a (WU i))) (AF (λ k=>MW k (IZ a) (YN a (Se j)) k (YN a (Wm i)) k)) (RE a)) (Df (KO a) (Kl j) (WU i)) (KT (Kl j)) (CO (Kl j) (KO a)) (EU (Xs j) (Kl j)) (HZ (LL (Se j) (KO a)) (λ k=>Dy k (KO a) (Se j) k k (kO a))) (iP (Xq (PK a) (nT (Bp a) (Hk a) (IZ a))) (stR (PK a) (LS (KO a) (mF j)) (mF j) (yU (PK a) (Xs j) (Se j)))))) ((λ (f : IJL -> Prop) => ∀ (x : IJL), f x) (λ j=>CN (And (Df (KO a) (Kl j) (WU i)) (AG (KT (Kl j)) (CO (Kl j) (KO a)) (EU (Xs j) (Kl j)) (HZ (LL (Se j) (KO a)) (λ k=>Dy k (KO a) (Se j) k k (kO a))) (iP (Xq (PK a) (nT (Bp a) (Hk a) (IZ a))) (stR (PK a) (LS (KO a) (mF j)) (mF j) (yU (PK a) (Xs j) (Se j)))))) (EG (HX (XS (Er a j) (Wz a)) (Er a j) (QM a)) (HO (XS (Er a j) (Wz a)) (JX (eX a j) (QM a))) (HX (XS (Er a j) (Wz a)) (LZ (Er a j)) (QM a)) (HO (XS (Er a j) (Wz a)) (JX (Ui a j) (QM a))) (HO (XS (Er a j) (Wz a)) (DT (AE (Uz a j (eX a j))) (AE (Uz a j (Ui a j))) (Bv a) (Cf a) (Ej a) (Eg a) (GU (Mu a) (BP (EF a)) (λ k=>BH k (EF a)) (BN (EF a)) (FN (EF a)) (Bv a) (Cf a) (Ej a) (JJ (Eg a) (EF a) (FI (EF a)) (IA (EF a)) (FJ (EF a)) (λ k=>CQ k (EF a)) (HF (Uz a j (eX a j)) (FD (EF a))) (YX (YN a (Se j)) (Ui a j)) (DK (Uz a j (Ui a j)) (FD (EF a))))))) (ED (LJ (XS (Er a j) (Wz a)) (JL (Hz (VS (CU (EF a)) (Uz a j (eX a j))) (VS (CU (EF a)) (Uz a j (Ui a j)))) 0)) (KQ (LZ (Er a j)) (QM a) (KM (Ui a j) (QM a) (Qu (Er a j) a) (Ow (CO (eX a j) (QM a)) (Qu (Er a j) a) (Qu (LZ (Er a j)) a) (JX (Ui a j) (QM a))))) ((@Exists IJL) (λ k=>AD (Oy AT (LP a) (Al a) (Me a) (HH (Fe a (Kl k)) (Wi a (Kl j))) (HH (Fe a (Xs k)) (LZ (Er a j))) (AF (λ l=>QP l (IZ a) (YN a (Se k)) l (SY l (Ui a j) (Uz a j (eX a j)) (SY l (eX a j) (Uz a j (Ui a j)) (Uz a j l))))) (RE a)) (And (Df (KO a) (Kl k) (WU i)) (AG (KT (Kl k)) (CO (Kl k) (KO a)) (EU (Xs k) (Kl k)) (HZ (LL (Se k) (KO a)) (λ l=>Dy l (KO a) (Se k) l l (kO a))) (iP (Xq (PK a) (nT (Bp a) (Hk a) (IZ a))) (stR (PK a) (LS (KO a) (mF k)) (mF k) (yU (PK a) (Xs k) (Se k)))))) (CO (Xs k) (Xs j)))) ((@Exists IL2) (λ k=>WL (DT (LP a) (Al a) (Me a) (BR (Fe a (WU k)) (Fe a (Kl j))) (LP a) (AF (λ l=>MW l (IZ a) (YN a (Wm k)) l (YN a (Se j)) l)) (RE a)) (IH 1 (WU k) (AD (Or (EU (WU k) (KO a)) (MI (WU k))) (HZ (LL (Wm k) (KO a)) (λ l=>Dy l (KO a) (Wm k) l l (kO a))) (iP (Xq (PK a) (nT (Bp a) (Hk a) (IZ a))) (stR (PK a) (LS (KO a) (WU k)) (WU k) (Wm k))))) (KO a) (WU k) (WU i))))))) (HU (LP a) (λ j=>MW j (IZ a) (Xp (PK a) (Bp a) (Hk a) (IZ a)) j (YN a (Wm i)) j) (RE a))))) := by kernel_rfl
def dGnp : List AVal -> Heap -> Option (Gn × List (Nat × Nat) × List Nat)
 | [.own id _ _ n, .d x, .d y, _, .fn (.func f) [] [.bptr c _]], H => if f = WS then match H id, Hd H c with
  | .live (.row _ m r), some q => some (⟨q, ME n λ i => HJ (r i), (HJ x).toNat, (HJ y).toNat⟩, [(100, id), (101, c)], [])
  | _, _ => none else none
 | _, _ => none
def C_pdqS : Ctr := { ro := [101], α := Gn, xs := λ a => [.own 100 1 0 a.l.length, .int a.a, .int a.b, .any, mE], L := gnL, val := λ _ => .d (.tup []), keep := λ a => gnK a (Xp (CV a.g) a.a a.b a.l), pre := λ a => [(a.a <= a.b /\ a.b <= a.l.length /\ a.b <= a.a + 12) /\ gnOk a] }
def pq2S (a : Gn) : Shape := { α := One, dflt := default, T := λ _ => ⟨[(0, .own 100 1 0 a.l.length), (1, .int a.a), (2, .int a.b), (3, .any), (4, mE), (10, .bool true), (11, .bool true)], gnK a a.l⟩, inv := λ _ => True, meas := λ _ => 0 }
def BGQ (a : Gn) : Ann := { ann 148 [(L6, C_insS.spec dGn)] with E := [100, 101], loops := λ id => if id = 2 then some [pq2S a] else none, cutIn := λ gs id => if id = 5 then some [] else none }
def BFQ (a : Gn) : Prop := CF Try.prog (BGQ a) AFC (AH AFC) (C_pdqS.xs a) (AB (C_pdqS.L a)) (C_pdqS.val a) (C_pdqS.keep a) [] []
abbrev Ag a:=VR a a
abbrev RL a:=Ag (IZ a)
abbrev Yn a:=VS (CU a)
abbrev hJ a:=Yn (EF a)
abbrev SU a b c d e:=Dy a (CJ b) b c d (FD e)
abbrev Gq a:=MJ (CJ a)
abbrev VI a b:=AF (λ i=>GF i a b)
abbrev Ew a:=GO (Hf a) (Wz a)
abbrev Qq a:=VW (IZ a)
attribute [go_sem] Ag RL Yn hJ SU Gq VI Ew Qq
theorem BNV (a : Gn) : (BFQ a) = (And (TE (λ i=>EG AT (LP a) (Al a) (Me a) (Sa KS (LP a) (Qq a) (RE a)) FL)) (XL (And (ED (hd7 (Ew a) 12) (AD AT (DY (RL a) (IZ a)) (AR (Al a) (Me a) (DY (RL a) (IZ a)) (VI (RL a) (IZ a)) (Bv a) (Cf a) (Ej a) (Eg a) (GU (Mu a) (BP (EF a)) (λ i=>BH i (EF a)) (BN (EF a)) (FN (EF a)) (Bv a) (Cf a) (Ej a) (JJ (Eg a) (EF a) (FI (EF a)) (IA (EF a)) (FJ (EF a)) (λ i=>CQ i (EF a)) (IH (Bp a) (Hk a) (XJ (Hk a) (RL a))) (Gq (RL a)) (AF (λ i=>SU i (RL a) i i (EF a))))))) (HU (DY (IZ a) (RL a)) (λ i=>MW i (IZ a) (Xp (PK a) (Bp a) (Hk a) (IZ a)) i (Xp (hJ a) (Bp a) (Hk a) (RL a)) i) (RE a)) KG) FL))) := by kernel_rfl
structure O2 where
 g : Cht
 l : List Int
 a : Int
 b : Int
 s : Int
def o2K (g : Cht) (l : List Int) (s : Int) : List (Nat × HCell) := [(100, .live (rowI l)), (101, .live (bxG g)), (102, .live (.box [.int s]))]
def o2Lh (g : Cht) (l : List Int) (s : Int) : List (Nat × AObj) := [(100, rowI l), (101, bxG g), (102, .box [.int s])]
def dO2 : List AVal -> Heap -> Option (O2 × List (Nat × Nat) × List Nat)
 | [.own id _ _ n, .d x, .d y, .bptr s _, .fn (.func f) [] [.bptr c _]], H => if f = WS then match H id, H s, Hd H c with
  | .live (.row _ m r), .live (.box [.d (.v (.int _ v))]), some q => some (⟨q, ME n λ i => HJ (r i), HJ x, HJ y, v⟩, [(100, id), (101, c), (102, s)], [])
  | _, _, _ => none else none
 | _, _ => none
def C_o2 : Ctr := { ro := [100, 101], α := O2, xs := λ a => [.own 100 1 0 a.l.length, .int a.a, .int a.b, .bptr 102 0, mE], L := λ a => o2Lh a.g a.l a.s, val := λ a => .tup [.int (o2A (CV a.g) a.l a.a a.b), .int (o2B (CV a.g) a.l a.a a.b)], keep := λ a => o2K a.g a.l (o2S (CV a.g) a.l a.a a.b a.s), pre := λ a => [((0 <= a.a /\ a.a < a.l.length) /\ 0 <= a.b /\ a.b < a.l.length) /\ Y3 a.g a.l] }
def A_o2 : Ann := { ann 32 [(WS, C_fw1.spec dGAB)] with E := [100, 101, 102] }
def V_o2 (a : O2) : Prop := CF Try.prog A_o2 AFL (AH AFL) (C_o2.xs a) (AB (C_o2.L a)) (C_o2.val a) (C_o2.keep a) [] []
abbrev AUC (a : O2) : Nat := 0 + a.b.toNat
abbrev AUU (a : O2) : Nat := 0 + a.a.toNat
abbrev R5 (a : O2) : Int := gD a.l (AUC a)
abbrev K1 (a : O2) : Int := gD a.l (AUU a)
abbrev ADL (a : O2) : Prop := a.g.p.lo = a.g.p.lo
abbrev ABA (a : O2) : Prop := a.g.p.hi = a.g.p.hi
abbrev APV (a : O2) : List Mk := ME a.g.ms.length λ (i : Nat) => gD a.g.ms i
abbrev ALI (a : O2) : Nat := (APV a).length
abbrev AUX (a : O2) (i : Nat) : Mk := gD (APV a) i
abbrev AVF (a : O2) (i : Nat) : Int := (AUX a i).pl
abbrev AMD (a : O2) (i : Nat) : Int := (AUX a i).ht
abbrev AAJ (a : O2) : List Nt := ME a.g.ns.length λ (i : Nat) => gD a.g.ns i
abbrev pX (a : O2) : Nat := (AAJ a).length
abbrev AAK (a : O2) (i : Nat) : Nt := gD (AAJ a) i
abbrev AMB (a : O2) (i : Nat) : Int := (AAK a i).mi
abbrev APF (a : O2) (i : Nat) : Span := (AAK a i).t
abbrev ALH (a : O2) (i : Nat) : Int := (APF a i).lo
abbrev ALX (a : O2) (i : Nat) : Int := (APF a i).hi
abbrev AOZ (a : O2) (i : Nat) : Span := (AAK a i).s
abbrev ALL (a : O2) (i : Nat) : Int := (AOZ a i).lo
abbrev AMR (a : O2) (i : Nat) : Int := (AOZ a i).hi
abbrev APO (a : O2) : Cht := Cht.mk a.g.p a.g.base a.g.scale a.g.off (APV a) (AAJ a)
abbrev ANR (a : O2) : Int := o2A (CV a.g) a.l a.a a.b
abbrev AKR (a : O2) : Int := o2B (CV a.g) a.l a.a a.b
abbrev ANL (a : O2) : Prop := a.l.length = a.l.length
abbrev APY (a : O2) : Prop := ∀ (i : Nat), i < a.l.length -> gD a.l i = gD a.l i
abbrev ALD (a : O2) : Prop := a.g.ms.length = a.g.ms.length
abbrev AMT (a : O2) : Prop := ∀ (i : Nat), i < a.g.ms.length -> (gD a.g.ms i).pl = (gD a.g.ms i).pl /\ (gD a.g.ms i).ht = (gD a.g.ms i).ht
abbrev AKW (a : O2) : Prop := a.g.ns.length = a.g.ns.length
abbrev ALG (a : O2) : Prop := ∀ (i : Nat), i < a.g.ns.length -> (gD a.g.ns i).mi = (gD a.g.ns i).mi /\ (gD a.g.ns i).t.lo = (gD a.g.ns i).t.lo /\ (gD a.g.ns i).t.hi = (gD a.g.ns i).t.hi /\ (gD a.g.ns i).s.lo = (gD a.g.ns
 i).s.lo /\ (gD a.g.ns i).s.hi = (gD a.g.ns i).s.hi
abbrev AMV (a : O2) : Int := o2S (CV a.g) a.l a.a a.b a.s
theorem BZD (a : O2) : (V_o2 a) = (((0 <= a.b /\ a.b < (↑a.l.length : Int)) /\ AUC a < a.l.length /\ (0 <= a.a /\ a.a < (↑a.l.length : Int)) /\ AUU a < a.l.length /\ R5 a = R5 a /\ K1 a = K1 a /\ ADL a /\
 ABA a /\ a.g.base = a.g.base /\ a.g.scale = a.g.scale /\ a.g.off = a.g.off /\ ALI a = a.g.ms.length /\ (∀ (i : Nat), i < ALI a -> AVF a i = (gD a.g.ms i).pl /\ AMD a i = (gD a.g.ms i).ht) /\ pX a =
 a.g.ns.length /\ (∀ (i : Nat), i < pX a -> AMB a i = (gD a.g.ns i).mi /\ ALH a i = (gD a.g.ns i).t.lo /\ ALX a i = (gD a.g.ns i).t.hi /\ ALL a i = (gD a.g.ns i).s.lo /\ AMR a i = (gD a.g.ns i).s.hi) /\
 ADL a /\ ABA a /\ a.g.base = a.g.base /\ a.g.scale = a.g.scale /\ a.g.off = a.g.off /\ a.g.ms.length = ALI a /\ (∀ (i : Nat), i < a.g.ms.length -> (gD a.g.ms i).pl = AVF a i /\ (gD a.g.ms i).ht = AMD a i) /\
 a.g.ns.length = pX a /\ (∀ (i : Nat), i < a.g.ns.length -> (gD a.g.ns i).mi = AMB a i /\ (gD a.g.ns i).t.lo = ALH a i /\ (gD a.g.ns i).t.hi = ALX a i /\ (gD a.g.ns i).s.lo = ALL a i /\ (gD a.g.ns i).s.hi =
 AMR a i) /\ (0 <= R5 a /\ R5 a < (↑(pX a) : Int)) /\ 0 <= K1 a /\ K1 a < (↑(pX a) : Int)) /\ bif decide (Hz (CV (APO a) (R5 a)) (CV (APO a) (K1 a)) < 0) then ANR a = a.b /\
 AKR a = a.a /\ ANL a /\ APY a /\ ADL a /\ ABA a /\ a.g.base = a.g.base /\ a.g.scale = a.g.scale /\ a.g.off = a.g.off /\ ALD a /\ AMT a /\ AKW a /\ ALG a /\ AMV a = IntKind.i64.wrap (a.s + 1)
 else ANR a = a.a /\ AKR a = a.b /\ ANL a /\ APY a /\ ADL a /\ ABA a /\ a.g.base = a.g.base /\ a.g.scale = a.g.scale /\ a.g.off = a.g.off /\ ALD a /\ AMT a /\ AKW a /\ ALG a /\ AMV a = a.s) :=
 by kernel_rfl
structure Md where
 g : Cht
 l : List Int
 a : Int
 b : Int
 c : Int
 s : Int
def dMd : List AVal -> Heap -> Option (Md × List (Nat × Nat) × List Nat)
 | [.own id _ _ n, .d x, .d y, .d z, .bptr s _, .fn (.func f) [] [.bptr c _]], H => if f = WS then match H id, H s, Hd H c with
  | .live (.row _ m r), .live (.box [.d (.v (.int _ v))]), some q => some (⟨q, ME n λ i => HJ (r i), HJ x, HJ y, HJ z, v⟩, [(100, id), (101, c), (102, s)], [])
  | _, _, _ => none else none
 | _, _ => none
def C_md : Ctr := { ro := [100, 101], α := Md, xs := λ a => [.own 100 1 0 a.l.length, .int a.a, .int a.b, .int a.c, .bptr 102 0, mE], L := λ a => o2Lh a.g a.l a.s, val := λ a => .int (mnM (CV a.g) a.l a.a a.b a.c), keep := λ a => o2K a.g a.l (mnS (CV a.g) a.l a.a a.b a.c a.s), pre := λ a => [((0 <= a.a /\ a.a < a.l.length) /\ (0 <= a.b /\ a.b < a.l.length) /\ 0 <= a.c /\ a.c < a.l.length) /\ Y3 a.g a.l] }
def A_md : Ann := { ann 41 [(AES, C_o2.spec dO2)] with E := [100, 101, 102] }
def V_md (a : Md) : Prop := CF Try.prog A_md ACR (AH ACR) (C_md.xs a) (AB (C_md.L a)) (C_md.val a) (C_md.keep a) [] []
abbrev Cy:=Md.l
abbrev Fb:=Md.a
abbrev Fc:=Md.b
abbrev IF:=Md.g
abbrev iW:=Md.c
abbrev OB a:=Ag (Cy a)
abbrev Bh a:=Yn (IF a)
abbrev Vt a b c d:=o2B (Bh a) (OB b) c d
abbrev eE a:=AL (IF a)
abbrev eN a:=AJ (IF a)
attribute [go_sem] Cy Fb Fc IF iW OB Bh Vt eE eN
theorem BZJ (a : Md) : (V_md a) = (EG AT (DY (OB a) (Cy a)) (AE (Fb a)) (AE (Fc a)) (CW (DY (OB a) (Cy a)) (λ i=>GF i (OB a) (Cy a)) (eN a) (eE a) (AM (IF a)) (AN (IF a)) (AQ (IF a)) (BP (IF a)) (EX (HM (IF a)) (BN (IF a)) (FN (IF a)) (AE (Md.s a)) (DY (Cy a) (OB a)) (λ i=>GF i (Cy a) (OB a)) (eN a) (eE a) (HB (IF a) (FI (IF a)) (λ i=>GD i (IF a)) (FJ (IF a)) (λ i=>CQ i (IF a)) (SB (Fb a) (CJ (OB a)) (Fc a)) (AF (λ i=>SU i (OB a) i i (IF a)))))) (DT (AG AT (DY (OB a) (Cy a)) (AE (Vt a a (Fb a) (Fc a))) (AE (iW a)) (CW (DY (OB a) (Cy a)) (λ i=>GF i (OB a) (Cy a)) (eN a) (eE a) (AM (IF a)) (AN (IF a)) (AQ (IF a)) (BP (IF a)) (EX (HM (IF a)) (BN (IF a)) (FN (IF a)) (AE (o2S (Bh a) (OB a) (Fb a) (Fc a) (Md.s a))) (DY (Cy a) (OB a)) (λ i=>GF i (Cy a) (OB a)) (eN a) (eE a) (HB (IF a) (FI (IF a)) (λ i=>GD i (IF a)) (FJ (IF a)) (λ i=>CQ i (IF a)) (SB (Vt a a (Fb a) (Fc a)) (CJ (OB a)) (iW a)) (AF (λ i=>SU i (OB a) i i (IF a))))))) (AG AT (DY (OB a) (Cy a)) (AE (o2A (Bh a) (OB a) (Fb a) (Fc a))) (AE (o2A (Bh a) (OB a) (Vt a a (Fb a) (Fc a)) (iW a))) (CW (DY (OB a) (Cy a)) (λ i=>GF i (OB a) (Cy a)) (eN a) (eE a) (AM (IF a)) (AN (IF a)) (AQ (IF a)) (BP (IF a)) (EX (HM (IF a)) (BN (IF a)) (FN (IF a)) (AE (o2S (Bh a) (OB a) (Vt a a (Fb a) (Fc a)) (iW a) (o2S (Bh a) (OB a) (Fb a) (Fc a) (Md.s a)))) (DY (Cy a) (OB a)) (λ i=>GF i (Cy a) (OB a)) (eN a) (eE a) (HB (IF a) (FI (IF a)) (λ i=>GD i (IF a)) (FJ (IF a)) (λ i=>CQ i (IF a)) (SB (o2A (Bh a) (OB a) (Fb a) (Fc a)) (CJ (OB a)) (o2A (Bh a) (OB a) (Vt a a (Fb a) (Fc a)) (iW a))) (AF (λ i=>SU i (OB a) i i (IF a))))))) (AS (mnM (VS (IF a)) (Cy a) (Fb a) (Fc a) (iW a)) (Vt a a (o2A (Bh a) (OB a) (Fb a) (Fc a)) (o2A (Bh a) (OB a) (Vt a a (Fb a) (Fc a)) (iW a)))) (YQ (Cy a)) (VW (Cy a)) (eN a) (EX (eE a) (AM (IF a)) (AN (IF a)) (AQ (IF a)) (DX (IF a)) (λ i=>EO i (IF a)) (DR (IF a)) (DI (IF a)) (AS (mnS (VS (IF a)) (Cy a) (Fb a) (Fc a) (iW a) (Md.s a)) (o2S (Bh a) (OB a) (o2A (Bh a) (OB a) (Fb a) (Fc a)) (o2A (Bh a) (OB a) (Vt a a (Fb a) (Fc a)) (iW a)) (o2S (Bh a) (OB a) (Vt a a (Fb a) (Fc a)) (iW a) (o2S (Bh a) (OB a) (Fb a) (Fc a) (Md.s a)))))))) := by kernel_rfl
def gnP (a : Gn) : Prop := (a.a + 13 <= a.b /\ a.b <= a.a + 20 /\ a.b <= a.l.length) /\ gnOk a
def gnS (a : Gn) : List (Nat × HCell) := [(100, .live (rowI a.l)), (101, .live (bxG a.g))]
def cq (a : Gn) : Nat := (a.b - a.a) / 4
def chP (a : Gn) : Int := mnM (CV a.g) a.l ((a.a + cq a : Nat) : Int) ((a.a + cq a * 2 : Nat) : Int) ((a.a + cq a * 3 : Nat) : Int)
def chS (a : Gn) : Int := mnS (CV a.g) a.l ((a.a + cq a : Nat) : Int) ((a.a + cq a * 2 : Nat) : Int) ((a.a + cq a * 3 : Nat) : Int) 0
def chH (a : Gn) : Int := bif chS a == 0 then 1 else 0
def C_cho : Ctr := { ro := [100, 101], α := Gn, xs := λ a => [.own 100 1 0 a.l.length, .int a.a, .int a.b, mE], L := gnL, val := λ a => .tup [.int (chP a), .int (chH a)], keep := gnS, pre := λ a => [gnP a] }
def BTE : Ann := { ann 63 [(AAS, C_md.spec dMd)] with E := [100, 101] }
def BUE (a : Gn) : Prop := CF Try.prog BTE ADB (AH ADB) (C_cho.xs a) (AB (C_cho.L a)) (C_cho.val a) (C_cho.keep a) [] []
abbrev Sl a b:=GH (Wz a) b
abbrev ADV a b c:=Sl a (iJ b c)
abbrev kP a b:=HI (Int.tdiv a b)
abbrev R8 a b:=ADV a (kP (Ew a) 4) b
abbrev Re a:=R8 a 2
abbrev dQ a:=R8 a 3
abbrev dU a:=R8 a 1
attribute [go_sem] Sl ADV kP R8 Re dQ dU
theorem BUZ (a : Gn) : (BUE a) = (And (CN (Jf (XB 4)) KG) (YO (CN (Jf (XB 4)) KG) (Kk (Ew a) 8 (Kk (Ew a) 50 KG (VE (AG (DY (RL a) (IZ a)) (AE (dU a)) (AE (Re a)) (AE (dQ a)) (CW (DY (RL a) (IZ a)) (λ i=>GF i (RL a) (IZ a)) (Bv a) (Cf a) (Ej a) (Eg a) (Mu a) (BP (EF a)) (EX (HM (EF a)) (BN (EF a)) (FN (EF a)) (Jf 0) (DY (IZ a) (RL a)) (λ i=>GF i (IZ a) (RL a)) (Bv a) (Cf a) (HB (EF a) (FI (EF a)) (λ i=>GD i (EF a)) (FJ (EF a)) (λ i=>CQ i (EF a)) (KQ (dU a) (CJ (RL a)) (SB (Re a) (CJ (RL a)) (dQ a))) (AF (λ i=>SU i (RL a) i i (EF a))))))) (EC (Jn (mnS (hJ a) (RL a) (dU a) (Re a) (dQ a) 0)) (AG (AS (chP a) (mnM (hJ a) (RL a) (dU a) (Re a) (dQ a))) (AS (chH a) 1) (LP a) (Qq a) (RE a)) (EC (Ey (mnS (hJ a) (RL a) (dU a) (Re a) (dQ a) 0) 12) (AG (AS (chP a) (mnM (hJ a) (RL a) (dU a) (Re a) (dQ a))) (AS (chH a) 2) (LP a) (Qq a) (RE a)) (AG (AS (chP a) (mnM (hJ a) (RL a) (dU a) (Re a) (dQ a))) (IM (chH a)) (LP a) (Qq a) (RE a)))))) (AG (AS (chP a) (Re a)) (AS (chH a) 1) (LP a) (Qq a) (RE a))))) := by kernel_rfl
def NF (a : Gn) : List Int := nT a.a a.b a.l
def C_pin : Ctr := { ro := [100, 101], α := Gn, xs := λ a => [.own 100 1 0 a.l.length, .int a.a, .int a.b, mE], L := gnL, val := λ a => .bool (fE (CV a.g) (NF a) (a.b - a.a - 1)), keep := gnS, pre := λ a => [gnP a] }
def pin3 (a : Gn) : Shape := { α := Int, dflt := 0, T := λ k => ⟨[(0, .own 100 1 0 a.l.length), (1, .int a.a), (2, .int a.b), (3, mE), (9, .int k), (10, .int 0)], gnS a⟩, inv := λ k => k = ((a.a + 1 : Nat) : Int), meas := λ _ => 1 }
def pin5 (a : Gn) : Shape := { α := Nat, dflt := 0, T := λ i => ⟨[(0, .own 100 1 0 a.l.length), (1, .int a.a), (2, .int a.b), (3, mE), (9, .int ((a.a + (i + 1) : Nat) : Int)), (10, .int 0)], gnS a⟩, inv := λ i => i + 1 <= a.b - a.a /\ fE (CV a.g) (NF a) i = true, meas := λ i => a.b - a.a - i }
def BTD (a : Gn) : Ann := { ann 141 [(WS, C_fw1.spec dGAB)] with E := [100, 101], loops := λ id => if id = 3 then some [pin3 a] else none, inner := λ gs id => if id = 5 then some [pin5 a] else none, cutIn := λ gs id => if id = 11 then some [] else none }
def BQZ (a : Gn) : Prop := CF Try.prog (BTD a) F3 (AH F3) (C_pin.xs a) (AB (C_pin.L a)) (C_pin.val a) (C_pin.keep a) [] []
abbrev Dm a b:=Wi a (JR b)
abbrev Lp a b c:=IH a b (CS c)
attribute [go_sem] Dm Lp
theorem BYH (a : Gn) : (BQZ a) = (And ((@Exists Int) (λ i=>And (Oy AT (LP a) (Al a) (Me a) (AS i (DZ (Bp a))) DJ (Qq a) (RE a)) (AS i (BE (JR (Bp a)))))) (EK (λ i=>CN (AS i (BE (JR (Bp a)))) (FV (λ j=>AD (Oy AT (LP a) (Al a) (Me a) (HH (Fe a (JR j)) i) DJ (Qq a) (RE a)) (Pw j (KO a)) (CS (fE (PK a) (NF a) j))) (λ j=>CN (Lp (JR j) (KO a) (fE (PK a) (NF a) j)) (EG (HX (JL (Dm a j) (Hf a)) (Dm a j) (QM a)) (HO (JL (Dm a j) (Hf a)) (JX (Hg a (JR j)) (QM a))) (HX (JL (Dm a j) (Hf a)) (LZ (Dm a j)) (QM a)) (HO (JL (Dm a j) (Hf a)) (JX (Dl (Dm a j)) (QM a))) (HO (JL (Dm a j) (Hf a)) (DT (AE (DN (IZ a) (Hg a (JR j)))) (AE (DN (IZ a) (Dl (Dm a j)))) (Bv a) (Cf a) (Ej a) (Eg a) (GU (Mu a) (BP (EF a)) (λ k=>BH k (EF a)) (BN (EF a)) (FN (EF a)) (Bv a) (Cf a) (Ej a) (JJ (Eg a) (EF a) (FI (EF a)) (IA (EF a)) (FJ (EF a)) (λ k=>CQ k (EF a)) (HF (DN (IZ a) (Hg a (JR j))) (FD (EF a))) (YX (IZ a) (Dl (Dm a j))) (DK (DN (IZ a) (Dl (Dm a j))) (FD (EF a))))))) (EC (LJ (JL (Dm a j) (Hf a)) (not (JL (Hz (VS (CU (EF a)) (DN (IZ a) (Hg a (JR j)))) (VS (CU (EF a)) (DN (IZ a) (Dl (Dm a j))))) 0))) (HA (λ k=>DW (Oy AT (LP a) (Al a) (Me a) (BR (Fe a (JR k)) (Fe a (JR j))) DJ (Qq a) (RE a)) (Lp (JR k) (KO a) (fE (PK a) (NF a) k)) (KO a) k j)) (ED (Ey (Dm a j) (Hf a)) (CS (fE (PK a) (NF a) (Fi (KO a)))) (HU (LP a) (λ k=>Aw k (IZ a)) (RE a)) (And (QV (Ew a) 50 (GR (fE (PK a) (NF a) (Fi (KO a)))) (HU (LP a) (λ k=>Aw k (IZ a)) (RE a)) KG) FL))))))))) := by kernel_rfl
structure Gp where
 v : Gn
 p : Int
def dGp : List AVal -> Heap -> Option (Gp × List (Nat × Nat) × List Nat)
 | [.own id _ _ n, .d y, .d z, .d x, .fn (.func f) [] [.bptr c _]], H => if f = WS then match H id, Hd H c with
  | .live (.row _ m r), some q => some (⟨⟨q, ME n λ i => HJ (r i), (HJ y).toNat, (HJ z).toNat⟩, HJ x⟩, [(100, id), (101, c)], [])
  | _, _ => none else none
 | _, _ => none
def gpK (a : Gp) : Nat := (a.p - a.v.a).toNat
def gpR (a : Gp) : PtR := ptM (CV a.v.g) (NF a.v) (gpK a)
def gpF (a : Gp) : Bool := Ka (CV a.v.g) false 1 (a.v.b - a.v.a - 1) (ptS (NF a.v) (gpK a))
def C_ptn : Ctr := { ro := [101], α := Gp, xs := λ a => [.own 100 1 0 a.v.l.length, .int a.v.a, .int a.v.b, .int a.p, mE], L := λ a => gnL a.v, val := λ a => .tup [.int ((a.v.a + (gpR a).j : Nat) : Int), .bool (gpF a)], keep := λ a => gnK a.v (YN a.v (ptL (CV a.v.g) (NF a.v) (gpK a))), pre := λ a => [(a.v.a <= a.p /\ a.p < a.v.b) /\ gnP a.v] }
structure PtS where
 i : Nat
 j : Nat
 l : List Int
 deriving Inhabited
def ptI (a : Gp) (dn : Bool) (x : PtS) : Prop := (1 <= x.i /\ x.j < a.v.b - a.v.a /\ x.i <= x.j + 1) /\ (x.l.length = a.v.b - a.v.a /\ Y3 a.v.g x.l) /\ gpR a = XG (CV a.v.g) dn x.i x.j x.l
def ptT (a : Gp) (x : PtS) : ST := ⟨[(0, .own 100 1 0 a.v.l.length), (1, .int a.v.a), (4, mE), (12, .int ((a.v.a + x.i : Nat) : Int)), (13, .int ((a.v.a + x.j : Nat) : Int))], gnK a.v (YN a.v x.l)⟩
def pt1 (a : Gp) : Shape := { α := PtS, dflt := default, T := ptT a, inv := λ x => ptI a false x /\ gpF a = Ka (CV a.v.g) false x.i x.j x.l, meas := λ x => x.j + 1 - x.i }
def ptU (a : Gp) (x : PtS) : Prop := x.i <= x.j -> ¬ CV a.v.g (gD x.l x.i) < CV a.v.g (gD x.l 0)
def pt5 (a : Gp) : Shape := { α := PtS, dflt := default, T := ptT a, inv := λ x => (ptI a true x /\ ptU a x) /\ gpF a = Ka (CV a.v.g) true x.i x.j x.l, meas := λ x => x.j }
def pt3 (a : Gp) : Shape := { α := PtS, dflt := default, T := ptT a, inv := λ x => ptI a false x /\ gpF a = false, meas := λ x => x.j + 1 - x.i }
def pt13 (a : Gp) (m : Nat) : Shape := { α := PtS, dflt := default, T := ptT a, inv := λ x => (ptI a false x /\ gpF a = false) /\ x.j + 1 - x.i <= m, meas := λ x => x.j + 1 - x.i }
def pt15 (a : Gp) (m : Nat) : Shape := { α := PtS, dflt := default, T := ptT a, inv := λ x => (ptI a true x /\ gpF a = false) /\ ptU a x /\ x.j + 1 - x.i <= m, meas := λ x => x.j }
def BSS (a : Gp) : Ann := { ann 178 [(WS, C_fw1.spec dGAB)] with E := [100, 101], loops := λ id => if id = 3 then some [pt1 a] else if id = 5 then some [pt5 a] else if id = 13 then some [pt3 a] else none, inner := λ gs id => if id = 13 then (if gs.length = 0 then some [pt3 a] else some [pt13 a (gs.getD 0 0)]) else if id = 15 then some [pt15 a (gs.getD 0 0)] else none }
def BRC (a : Gp) : Prop := CF Try.prog (BSS a) ANQ (AH ANQ) (C_ptn.xs a) (AB (C_ptn.L a)) (C_ptn.val a) (C_ptn.keep a) [] []
abbrev APR (a : Gp) : Prop := 0 <= a.p /\ a.p < (↑a.v.l.length : Int)
abbrev yF (a : Gp) : Nat := 0 + a.p.toNat
abbrev oZ (a : Gp) : Prop := 0 <= (↑a.v.a : Int) /\ (↑a.v.a : Int) < (↑a.v.l.length : Int)
abbrev nZ (a : Gp) : Nat := 0 + a.v.a
abbrev AAE (a : Gp) : Prop := nZ a < a.v.l.length
abbrev pE : Prop := 0 = 0
abbrev Oh (a : Gp) : Prop := a.v.l.length = a.v.l.length
abbrev oX (a : Gp) : Prop := (↑a.v.a : Int) = (↑a.v.a : Int)
abbrev Ik (a : Gp) (a1 : PtS) : Nat := a.v.a + a1.i
abbrev Fq (a : Gp) (a1 : PtS) : Nat := a.v.a + a1.j
abbrev AGH (i : Nat) (a : Gp) : Bool := decide (i = nZ a)
abbrev bM (a : Gp) : Prop := a.v.g.p.lo = a.v.g.p.lo
abbrev bN (a : Gp) : Prop := a.v.g.p.hi = a.v.g.p.hi
abbrev bA (a : Gp) : Prop := a.v.g.base = a.v.g.base
abbrev aR (a : Gp) : Prop := a.v.g.scale = a.v.g.scale
abbrev aW (a : Gp) : Prop := a.v.g.off = a.v.g.off
abbrev ACA (i : Nat) (a : Gp) : Prop := i < a.v.g.ms.length
abbrev ADM (i : Nat) (a : Gp) : Prop := i < a.v.g.ns.length
abbrev mQ (a : Gp) (i : Nat) : Int := (gD a.v.g.ns i).t.lo
abbrev jC (a : Gp) (i : Nat) : Int := (gD a.v.g.ns i).t.hi
abbrev jE (a : Gp) (i : Nat) : Int := (gD a.v.g.ns i).s.lo
abbrev mH (a : Gp) (i : Nat) : Int := (gD a.v.g.ns i).s.hi
abbrev mT (a : Gp) : Prop := bM a /\ bN a /\ bA a /\ aR a /\ aW a /\ a.v.g.ms.length = a.v.g.ms.length /\ (∀ (i : Nat), ACA i a -> (gD a.v.g.ms i).pl = (gD a.v.g.ms i).pl /\ (gD a.v.g.ms
 i).ht = (gD a.v.g.ms i).ht) /\ a.v.g.ns.length = a.v.g.ns.length /\ ∀ (i : Nat), ADM i a -> (gD a.v.g.ns i).mi = (gD a.v.g.ns i).mi /\ mQ a i = mQ a i /\ jC a i = jC a i /\ jE a i = jE
 a i /\ mH a i = mH a i
abbrev AFN (a : Gp) : Nat := a.v.b - a.v.a
abbrev AGN (a : PtS) : Nat := a.j + 1
abbrev ABQ (a : PtS) (a1 : Gp) : Prop := 1 <= a.i /\ a.j < AFN a1 /\ a.i <= AGN a
abbrev ABG (a : PtS) (a1 : Gp) : Prop := a.l.length = AFN a1 /\ ∀ (i : Nat), i < a.l.length -> 0 <= gD a.l i /\ gD a.l i < (↑a1.v.g.ns.length : Int)
abbrev AAX (a : PtS) (a1 : Gp) : Prop := ABQ a a1 /\ ABG a a1 /\ gpR a1 = XG (CV a1.v.g) false a.i a.j a.l
abbrev zM (a : PtS) (a1 : Gp) : Prop := AAX a a1 /\ gpF a1 = Ka (CV a1.v.g) false a.i a.j a.l
abbrev yG (a : Gp) (a1 : PtS) : Bool := decide ((↑(Ik a a1) : Int) <= (↑(Fq a a1) : Int))
abbrev Jt (a : Gp) (a1 : PtS) : Prop := yG a a1 = true
abbrev yK (a : Gp) (a1 : PtS) : Prop := 0 <= (↑(Ik a a1) : Int) /\ (↑(Ik a a1) : Int) < (↑a.v.l.length : Int)
abbrev kL (a : Gp) (a1 : PtS) : Nat := 0 + Ik a a1
abbrev ACJ (a : Gp) (a1 : PtS) : Prop := Jt a a1 -> oZ a
abbrev AFM (a : Gp) : Prop := (nZ a).succ.le a.v.l.length
abbrev AIB (a : Gp) (a1 : PtS) : Prop := Jt a a1 -> AFM a
abbrev Vf (a : Gp) (a1 : PtS) : Int := gD (YN a.v a1.l) (kL a a1)
abbrev Wp (a : Gp) (a1 : PtS) : Int := gD (YN a.v a1.l) (nZ a)
abbrev AHL (a : Gp) (a1 : PtS) : Prop := Wp a a1 = Wp a a1
abbrev xM (a : Gp) : List Mk := ME a.v.g.ms.length λ (i : Nat) => gD a.v.g.ms i
abbrev wI (a : Gp) : Nat := (xM a).length
abbrev AFS (a : Gp) : Prop := wI a = a.v.g.ms.length
abbrev AEI (a : Gp) (i : Nat) : Mk := gD (xM a) i
abbrev AEE (a : Gp) (i : Nat) : Int := (AEI a i).pl
abbrev AHX (a : Gp) (i : Nat) : Int := (AEI a i).ht
abbrev AAR (a : Gp) : Prop := ∀ (i : Nat), i < wI a -> AEE a i = (gD a.v.g.ms i).pl /\ AHX a i = (gD a.v.g.ms i).ht
abbrev zR (a : Gp) : List Nt := ME a.v.g.ns.length λ (i : Nat) => gD a.v.g.ns i
abbrev Wx (a : Gp) : Nat := (zR a).length
abbrev ABN (a : Gp) : Prop := Wx a = a.v.g.ns.length
abbrev yX (a : Gp) (i : Nat) : Nt := gD (zR a) i
abbrev ACT (a : Gp) (i : Nat) : Int := (yX a i).mi
abbrev AHA (a : Gp) (i : Nat) : Span := (yX a i).t
abbrev AAY (a : Gp) (i : Nat) : Int := (AHA a i).lo
abbrev AET (a : Gp) (i : Nat) : Int := (AHA a i).hi
abbrev AEL (a : Gp) (i : Nat) : Span := (yX a i).s
abbrev ADW (a : Gp) (i : Nat) : Int := (AEL a i).lo
abbrev ABC (a : Gp) (i : Nat) : Int := (AEL a i).hi
abbrev AEF (a : Gp) : Prop := ∀ (i : Nat), i < Wx a -> ACT a i = (gD a.v.g.ns i).mi /\ AAY a i = mQ a i /\ AET a i = jC a i /\ ADW a i = jE a i /\ ABC a i = mH a i
abbrev AEZ (a : Gp) : Prop := a.v.g.ms.length = wI a
abbrev ABK (a : Gp) : Prop := ∀ (i : Nat), ACA i a -> (gD a.v.g.ms i).pl = AEE a i /\ (gD a.v.g.ms i).ht = AHX a i
abbrev ADU (a : Gp) : Prop := a.v.g.ns.length = Wx a
abbrev AEK (a : Gp) : Prop := ∀ (i : Nat), ADM i a -> (gD a.v.g.ns i).mi = ACT a i /\ mQ a i = AAY a i /\ jC a i = AET a i /\ jE a i = ADW a i /\ mH a i = ABC a i
abbrev AEX (a : Gp) (a1 : PtS) : Prop := 0 <= Wp a a1 /\ Wp a a1 < (↑(Wx a) : Int)
abbrev ABL (a : Gp) (a1 : PtS) : Prop := (Jt a a1 -> yK a a1) /\ (Jt a a1 -> (kL a a1).succ.le a.v.l.length) /\ ACJ a a1 /\ AIB a a1 /\ (Jt a a1 -> Vf a a1 = Vf a a1 /\
 AHL a a1 /\ bM a /\ bN a /\ bA a /\ aR a /\ aW a /\ AFS a /\ AAR a /\ ABN a /\ AEF a /\ bM a /\ bN a /\ bA a /\ aR a /\ aW a /\ AEZ a /\ ABK
 a /\ ADU a /\ AEK a /\ (0 <= Vf a a1 /\ Vf a a1 < (↑(Wx a) : Int)) /\ AEX a a1)
abbrev wT (a : Gp) : Cht := Cht.mk a.v.g.p a.v.g.base a.v.g.scale a.v.g.off (xM a) (zR a)
abbrev AHK (a : Gp) (a1 : PtS) : Int := CV (wT a) (Wp a a1)
abbrev AIE (a : Gp) (a1 : PtS) : Bool := bif yG a a1 then decide (Hz (CV (wT a) (Vf a a1)) (AHK a a1) < 0) else false
abbrev ADX (a : Gp) (a1 : PtS) (a2 : PtS) : Prop := (↑(Ik a a1) : Int) = IntKind.i64.wrap ((↑(Ik a a2) : Int) + 1)
abbrev AGU (a : Gp) (a1 : PtS) (a2 : PtS) : Prop := Oh a /\ (∀ (i : Nat), i < a.v.l.length -> gD (YN a.v a1.l) i = gD (YN a.v a2.l) i) /\ mT a
abbrev AER (a : Gp) (a1 : PtS) (a2 : PtS) : Prop := (↑(Fq a a1) : Int) = (↑(Fq a a2) : Int) /\ AGU a a1 a2
abbrev ADN (a : Gp) (a1 : PtS) (a2 : PtS) : Prop := pE /\ Oh a /\ oX a /\ ADX a a1 a2 /\ AER a a1 a2
abbrev jO (a : PtS) : Nat := AGN a - a.i
abbrev xE (a : PtS) (a1 : PtS) : Prop := jO a < jO a1
abbrev ABU (a : Gp) (a1 : PtS) (a2 : PtS) : Prop := (↑(Ik a a1) : Int) = (↑(Ik a a2) : Int)
abbrev wJ (a : Gp) (a1 : PtS) (a2 : PtS) : Prop := pE /\ Oh a /\ oX a /\ ABU a a1 a2 /\ AER a a1 a2
abbrev ABY (a : PtS) (a1 : Gp) : Prop := ABQ a a1 /\ ABG a a1 /\ gpR a1 = XG (CV a1.v.g) true a.i a.j a.l
abbrev AIG (a : PtS) (a1 : Gp) : Prop := a.i <= a.j -> ¬CV a1.v.g (gD a.l a.i) < CV a1.v.g (gD a.l 0)
abbrev zJ (a : PtS) (a1 : Gp) : Prop := (ABY a a1 /\ AIG a a1) /\ gpF a1 = Ka (CV a1.v.g) true a.i a.j a.l
abbrev bK (a : Gp) (a1 : PtS) : Prop := 0 <= (↑(Fq a a1) : Int) /\ (↑(Fq a a1) : Int) < (↑a.v.l.length : Int)
abbrev jF (a : Gp) (a1 : PtS) : Nat := 0 + Fq a a1
abbrev AHC (a : Gp) (a1 : PtS) : Prop := (jF a a1).succ.le a.v.l.length
abbrev Oq (a : Gp) (a1 : PtS) : Int := gD (YN a.v a1.l) (jF a a1)
abbrev AGL (a : Gp) (a1 : PtS) : Prop := (Jt a a1 -> bK a a1) /\ (Jt a a1 -> AHC a a1) /\ ACJ a a1 /\ AIB a a1 /\ (Jt a a1 -> Oq a a1 = Oq a a1 /\ AHL a a1 /\ bM
 a /\ bN a /\ bA a /\ aR a /\ aW a /\ AFS a /\ AAR a /\ ABN a /\ AEF a /\ bM a /\ bN a /\ bA a /\ aR a /\ aW a /\ AEZ a /\ ABK a /\ ADU a /\ AEK
 a /\ (0 <= Oq a a1 /\ Oq a a1 < (↑(Wx a) : Int)) /\ AEX a a1)
abbrev ACD (a : Gp) (a1 : PtS) : Bool := bif yG a a1 then !decide (Hz (CV (wT a) (Oq a a1)) (AHK a a1) < 0) else false
abbrev ABX (a : Gp) (a1 : PtS) (a2 : PtS) : Prop := (↑(Fq a a1) : Int) = IntKind.i64.wrap ((↑(Fq a a2) : Int) - 1)
abbrev AIF (a : Gp) (a1 : PtS) (a2 : PtS) : Prop := pE /\ Oh a /\ oX a /\ ABU a a1 a2 /\ ABX a a1 a2 /\ AGU a a1 a2
abbrev AGT (a : Gp) (a1 : PtS) : Bool := decide ((↑(Ik a a1) : Int) > (↑(Fq a a1) : Int))
abbrev yV (a : Gp) (a1 : PtS) : Prop := jF a a1 < a.v.l.length
abbrev AGD (a : Gp) (a1 : PtS) : Prop := oZ a /\ AAE a /\ bK a a1 /\ yV a a1 /\ bK a a1 /\ yV a a1 /\ oZ a /\ AFM a
abbrev AFT (a : Gp) (a1 : PtS) : Prop := (↑(a.v.a + (gpR a).j) : Int) = (↑(Fq a a1) : Int)
abbrev AGM (i : Nat) (a : Gp) (a1 : PtS) : Bool := decide (i = jF a a1)
abbrev AEC (a : Gp) (a1 : PtS) : Prop := Oh a /\ (∀ (i : Nat), i < a.v.l.length -> gD (YN a.v (ptL (CV a.v.g) (NF a.v) (gpK a))) i = bif AGH i a then Oq a a1 else bif AGM i a a1 then Wp
 a a1 else gD (YN a.v a1.l) i) /\ mT a
abbrev AGC (a : Gp) (a1 : PtS) : Prop := kL a a1 < a.v.l.length
abbrev AHB (a : Gp) (a1 : PtS) : Prop := bK a a1 /\ yV a a1 /\ yK a a1 /\ AGC a a1 /\ yK a a1 /\ AGC a a1 /\ bK a a1 /\ AHC a a1
abbrev ACG (a : Gp) (a1 : PtS) (a2 : PtS) : Prop := pE /\ Oh a /\ oX a /\ ADX a a1 a2 /\ ABX a a1 a2 /\ Oh a /\ (∀ (i : Nat), i < a.v.l.length -> gD (YN a.v a1.l) i = bif AGM i a a2 then
 Vf a a2 else bif decide (i = kL a a2) then Oq a a2 else gD (YN a.v a2.l) i) /\ mT a
abbrev kH (a : PtS) (a1 : Gp) : Prop := AAX a a1 /\ gpF a1 = false
abbrev AAQ (a : PtS) (a1 : PtS) : Prop := jO a <= jO a1
abbrev yA (a : PtS) (a1 : Gp) (a2 : PtS) : Prop := kH a a1 /\ AAQ a a2
abbrev wO (a : PtS) (a1 : Gp) (a2 : PtS) : Prop := (ABY a a1 /\ gpF a1 = false) /\ AIG a a1 /\ AAQ a a2
theorem BVL (a : Gp) : (BRC a) = ((APR a /\ yF a < a.v.l.length /\ oZ a /\ AAE a /\ oZ a /\ AAE a /\ APR a /\ (yF a).succ.le a.v.l.length) /\ (∃ (a_1 : PtS), (pE /\ Oh a /\
 oX a /\ (↑(Ik a a_1) : Int) = IntKind.i64.wrap ((↑a.v.a : Int) + 1) /\ (↑(Fq a a_1) : Int) = IntKind.i64.wrap ((↑a.v.b : Int) - 1) /\ Oh a /\ (∀ (i : Nat), i < a.v.l.length -> gD (YN a.v a_1.l) i = bif
 decide (i = yF a) then gD a.v.l (nZ a) else bif AGH i a then gD a.v.l (yF a) else gD a.v.l i) /\ mT a) /\ zM a_1 a) /\ ∀ (a_1 : PtS), zM a_1 a -> ABL a a_1 /\ bif AIE a a_1 then
 ∃ (a_3 : PtS), ADN a a_3 a_1 /\ zM a_3 a /\ xE a_3 a_1 else (∃ (a_3 : PtS), wJ a a_3 a_1 /\ zJ a_3 a) /\ ∀ (a_3 : PtS), zJ a_3 a -> AGL a a_3 /\ bif ACD a a_3 then ∃ (a_5 : PtS),
 AIF a a_5 a_3 /\ zJ a_5 a /\ a_5.j < a_3.j else bif AGT a a_3 then AGD a a_3 /\ AFT a a_3 /\ gpF a = true /\ AEC a a_3 else AHB a a_3 /\ (∃ (a_5 : PtS), ACG a a_5 a_3 /\ kH a_5 a)
 /\ ∀ (a_5 : PtS), kH a_5 a -> (∃ (a_7 : PtS), wJ a a_7 a_5 /\ yA a_7 a a_5) /\ ∀ (a_7 : PtS), yA a_7 a a_5 -> ABL a a_7 /\ bif AIE a a_7 then ∃ (a_9 : PtS), ADN a a_9 a_7 /\ yA a_9 a
 a_5 /\ xE a_9 a_7 else (∃ (a_9 : PtS), wJ a a_9 a_7 /\ wO a_9 a a_5) /\ ∀ (a_9 : PtS), wO a_9 a a_5 -> AGL a a_9 /\ bif ACD a a_9 then ∃ (a_11 : PtS), AIF a a_11 a_9 /\ wO a_11 a
 a_5 /\ a_11.j < a_9.j else bif AGT a a_9 then AGD a a_9 /\ AFT a a_9 /\ gpF a = false /\ AEC a a_9 else AHB a a_9 /\ ∃ (a_11 : PtS), ACG a a_11 a_9 /\ kH a_11 a /\ xE a_11 a_5) := by
 kernel_rfl
def uJ := pD AXL (λ x => .int (yE x)) (λ x => [13 <= x /\ x <= 20])
def V_lB (x : Int) : Prop := CF Try.prog (ann 25 []) mG (AH mG) (wG x) (AB []) (.int (yE x)) [] [] []
abbrev Q0 (x : Int) : Int := x / (2 : Int) ^ Int.toNat (32 : Int)
abbrev AVM : Prop := (0 : Int) <= (16 : Int) /\ (16 : Int) <= (↑(64 : Nat) : Int)
abbrev AXC : Int := (2 : Int) ^ Int.toNat (16 : Int)
abbrev AOS (x : Int) : Int := Q0 x / AXC
abbrev AHG : Prop := (0 : Int) <= (8 : Int) /\ (8 : Int) <= (↑(64 : Nat) : Int)
abbrev APJ (x : Int) : Int := x / (2 : Int) ^ (32 : Nat)
abbrev AVB : Int := (2 : Int) ^ (16 : Nat)
abbrev AVY (x : Int) : Int := APJ x / AVB
abbrev AFZ : Int := (2 : Int) ^ (8 : Nat)
abbrev AUG (x : Int) : Int := IntKind.u8.wrap (AVY x / AFZ)
abbrev AMU : Int := IntKind.i64.wrap ((32 : Int) + (16 : Int))
abbrev z_lB_11 : List UInt8 := [(8 : UInt8), (8 : UInt8), (8 : UInt8), (8 : UInt8), (8 : UInt8), (8 : UInt8), (8 : UInt8), (8 : UInt8), (8 : UInt8), (8 : UInt8), (8 : UInt8), (8 : UInt8), (8 : UInt8), (8 : UInt8), (8 :
 UInt8), (8 : UInt8), (8 : UInt8), (8 : UInt8), (8 : UInt8), (8 : UInt8), (8 : UInt8), (8 : UInt8), (8 : UInt8), (8 : UInt8), (8 : UInt8), (8 : UInt8), (8 : UInt8), (8 : UInt8), (8 : UInt8), (8 : UInt8), (8 : UInt8), (8 :
 UInt8), (8 : UInt8), (8 : UInt8), (8 : UInt8), (8 : UInt8), (8 : UInt8), (8 : UInt8), (8 : UInt8), (8 : UInt8), (8 : UInt8), (8 : UInt8), (8 : UInt8), (8 : UInt8), (8 : UInt8), (8 : UInt8), (8 : UInt8), (8 : UInt8), (8 :
 UInt8), (8 : UInt8), (8 : UInt8), (8 : UInt8), (8 : UInt8), (8 : UInt8), (8 : UInt8), (8 : UInt8), (8 : UInt8), (8 : UInt8), (8 : UInt8), (8 : UInt8), (8 : UInt8), (8 : UInt8), (8 : UInt8), (8 : UInt8)]
abbrev z_lB_12 : List UInt8 := ([(0 : UInt8), (1 : UInt8), (2 : UInt8), (2 : UInt8), (3 : UInt8), (3 : UInt8), (3 : UInt8), (3 : UInt8), (4 : UInt8), (4 : UInt8), (4 : UInt8), (4 : UInt8), (4 : UInt8), (4 : UInt8), (4 :
 UInt8), (4 : UInt8), (5 : UInt8), (5 : UInt8), (5 : UInt8), (5 : UInt8), (5 : UInt8), (5 : UInt8), (5 : UInt8), (5 : UInt8), (5 : UInt8), (5 : UInt8), (5 : UInt8), (5 : UInt8), (5 : UInt8), (5 : UInt8), (5 : UInt8), (5 :
 UInt8), (6 : UInt8), (6 : UInt8), (6 : UInt8), (6 : UInt8), (6 : UInt8), (6 : UInt8), (6 : UInt8), (6 : UInt8), (6 : UInt8), (6 : UInt8), (6 : UInt8), (6 : UInt8), (6 : UInt8), (6 : UInt8), (6 : UInt8), (6 : UInt8), (6 :
 UInt8), (6 : UInt8), (6 : UInt8), (6 : UInt8), (6 : UInt8), (6 : UInt8), (6 : UInt8), (6 : UInt8), (6 : UInt8), (6 : UInt8), (6 : UInt8), (6 : UInt8), (6 : UInt8), (6 : UInt8), (6 : UInt8), (6 : UInt8)].append [(7 :
 UInt8), (7 : UInt8), (7 : UInt8), (7 : UInt8), (7 : UInt8), (7 : UInt8), (7 : UInt8), (7 : UInt8), (7 : UInt8), (7 : UInt8), (7 : UInt8), (7 : UInt8), (7 : UInt8), (7 : UInt8), (7 : UInt8), (7 : UInt8), (7 : UInt8), (7 :
 UInt8), (7 : UInt8), (7 : UInt8), (7 : UInt8), (7 : UInt8), (7 : UInt8), (7 : UInt8), (7 : UInt8), (7 : UInt8), (7 : UInt8), (7 : UInt8), (7 : UInt8), (7 : UInt8), (7 : UInt8), (7 : UInt8), (7 : UInt8), (7 : UInt8), (7 :
 UInt8), (7 : UInt8), (7 : UInt8), (7 : UInt8), (7 : UInt8), (7 : UInt8), (7 : UInt8), (7 : UInt8), (7 : UInt8), (7 : UInt8), (7 : UInt8), (7 : UInt8), (7 : UInt8), (7 : UInt8), (7 : UInt8), (7 : UInt8), (7 : UInt8), (7 :
 UInt8), (7 : UInt8), (7 : UInt8), (7 : UInt8), (7 : UInt8), (7 : UInt8), (7 : UInt8), (7 : UInt8), (7 : UInt8), (7 : UInt8), (7 : UInt8), (7 : UInt8), (7 : UInt8)]).append (z_lB_11.append z_lB_11)
abbrev wY : Int := (2 : Int) ^ Int.toNat (8 : Int)
abbrev AOT (x : Int) : Int := IntKind.u8.wrap (AVY x)
abbrev AMS (x : Int) : Int := IntKind.u8.wrap (APJ x / AFZ)
abbrev AMY (x : Int) : Int := IntKind.u8.wrap (APJ x)
abbrev Y8 (x : Int) : Int := x / AXC
abbrev APN (x : Int) : Int := x / AVB
abbrev AQB (x : Int) : Int := IntKind.u8.wrap (APN x / AFZ)
abbrev AMP : Int := IntKind.i64.wrap ((0 : Int) + (16 : Int))
abbrev ANO (x : Int) : Int := IntKind.u8.wrap (APN x)
abbrev AQA (x : Int) : Int := IntKind.u8.wrap (x / AFZ)
theorem BZL (x : Int) : (V_lB x) = (bif decide (x >= (4294967296 : Int)) then ((0 : Int) <= (32 : Int) /\ (32 : Int) <= (↑(64 : Nat) : Int)) /\ bif decide (Q0 x >= (65536 : Int)) then AVM /\ bif decide (AOS x >= (256
 : Int)) then AHG /\ ((0 : Int) <= AUG x /\ AUG x < (↑(256 : Nat) : Int)) /\ yE x = IntKind.i64.wrap (IntKind.i64.wrap (AMU + (8 : Int)) + IntKind.i64.wrap (↑(z_lB_12.getD (IntKind.u8.wrap (AOS x /
 wY)).toNat (0 : UInt8)).toNat : Int)) else ((0 : Int) <= AOT x /\ AOT x < (↑(256 : Nat) : Int)) /\ yE x = IntKind.i64.wrap (AMU + IntKind.i64.wrap (↑(z_lB_12.getD (IntKind.u8.wrap (AOS x)).toNat (0 :
 UInt8)).toNat : Int)) else bif decide (Q0 x >= (256 : Int)) then AHG /\ ((0 : Int) <= AMS x /\ AMS x < (↑(256 : Nat) : Int)) /\ yE x = IntKind.i64.wrap (IntKind.i64.wrap ((32 : Int) + (8 : Int)) +
 IntKind.i64.wrap (↑(z_lB_12.getD (IntKind.u8.wrap (Q0 x / wY)).toNat (0 : UInt8)).toNat : Int)) else ((0 : Int) <= AMY x /\ AMY x < (↑(256 : Nat) : Int)) /\ yE x = IntKind.i64.wrap ((32 : Int) +
 IntKind.i64.wrap (↑(z_lB_12.getD (IntKind.u8.wrap (Q0 x)).toNat (0 : UInt8)).toNat : Int)) else bif decide (x >= (65536 : Int)) then AVM /\ bif decide (Y8 x >= (256 : Int)) then AHG /\ ((0 : Int) <= AQB x /\
 AQB x < (↑(256 : Nat) : Int)) /\ yE x = IntKind.i64.wrap (IntKind.i64.wrap (AMP + (8 : Int)) + IntKind.i64.wrap (↑(z_lB_12.getD (IntKind.u8.wrap (Y8 x / wY)).toNat (0 : UInt8)).toNat : Int)) else ((0 :
 Int) <= ANO x /\ ANO x < (↑(256 : Nat) : Int)) /\ yE x = IntKind.i64.wrap (AMP + IntKind.i64.wrap (↑(z_lB_12.getD (IntKind.u8.wrap (Y8 x)).toNat (0 : UInt8)).toNat : Int)) else bif decide (x >= (256 : Int))
 then AHG /\ ((0 : Int) <= AQA x /\ AQA x < (↑(256 : Nat) : Int)) /\ yE x = IntKind.i64.wrap (IntKind.i64.wrap ((0 : Int) + (8 : Int)) + IntKind.i64.wrap (↑(z_lB_12.getD (IntKind.u8.wrap (x / wY)).toNat (0 :
 UInt8)).toNat : Int)) else ((0 : Int) <= IntKind.u8.wrap x /\ IntKind.u8.wrap x < (↑(256 : Nat) : Int)) /\ yE x = IntKind.i64.wrap ((0 : Int) + IntKind.i64.wrap (↑(z_lB_12.getD (IntKind.u8.wrap x).toNat (0 : UInt8)).toNat
 : Int))) := by kernel_rfl
def BKH (x : Int) : Prop := CF Try.prog (ann 8 [(Vd, uJ)]) ACX (AH ACX) (wG x) (AB []) (.int (yE x)) [] [] []
theorem BPQ (x : Int) : (BKH x) = (BC (FY 13 x) (Gi x) (AE (yE x))) := by kernel_rfl
def u64A (n : Int) : AVal := .d (.v (.int .u64 n))
def C_xor : Ctr := { α := Int, xs := λ _ => [.bptr 100 0], L := λ r => [(100, .box [u64A r])], val := λ r => u64A (xsN r), keep := λ r => [(100, .live (.box [u64A (xsN r)]))] }
def BQP : List AVal -> Heap -> Option (Int × List (Nat × Nat) × List Nat)
 | [.bptr s _], H => match H s with
  | .live (.box [.d (.v (.int _ v))]) => some (v, [(100, s)], [])
  | _ => none
 | _, _ => none
def BSL : Ann := { ann 33 [] with E := [100] }
def BSY (r : Int) : Prop := CF Try.prog BSL AUK (AH AUK) (C_xor.xs r) (AB (C_xor.L r)) (C_xor.val r) (C_xor.keep r) [] []
abbrev eK a:=xW 2 (EP a)
attribute [go_sem] eK
theorem BXT (r : Int) : (BSY r) = (qS (PF 13 (Dp 13)) (PF 7 (Dp 7)) (PF 17 (Dp 17)) (AS (xsN r) (vB Om (vB Om (vB Om r (Bb r (eK 13))) (gB (vB Om r (Bb r (eK 13))) 7)) (Bb (vB Om (vB Om r (Bb r (eK 13))) (gB (vB Om r (Bb r (eK 13))) 7)) (eK 17))))) := by kernel_rfl
def mdI (x : Int) : Int := uwr (1 * 2 ^ (yE x).toNat)
def BTT := pD dI1 (λ x => u64A (mdI x)) (λ x => [13 <= x /\ x <= 20])
def BSH (x : Int) : Prop := CF Try.prog (ann 7 [(lK, uJ)]) Q5 (AH Q5) (xI1 x) (AB []) (u64A (mdI x)) [] [] []
theorem BWL (x : Int) : (BSH x) = (And (CE (FY 13 (VO x)) (Gi (VO x)) (BX (yE (VO x))) (FY (yE (VO x)) 64)) (AS (mdI x) (Bb 1 (eK (yE (VO x)))))) := by kernel_rfl
def C_brk : Ctr := { ro := [101], α := Gn, xs := λ a => [.own 100 1 0 a.l.length, .int a.a, .int a.b, mE], L := gnL, val := λ _ => .d (.tup []), keep := λ a => gnK a (YN a (bkK (a.b - a.a) (NF a) 3)), pre := λ a => [gnP a] }
def bk5 (a : Gn) : Shape := { α := Nat, dflt := 0, T := λ k => ⟨[(0, .own 100 1 0 a.l.length), (1, .int a.a), (8, .int ((a.b - a.a : Nat) : Int)), (9, .bptr 102 0), (10, u64A (mdI ((a.b - a.a : Nat) : Int))), (11, .int ((a.a + bkI (a.b - a.a) k : Nat) : Int))], gnK a (YN a (bkK (a.b - a.a) (NF a) k)) ++ [(102, .live (.box [u64A (xsK (a.b - a.a) k)]))]⟩, inv := λ k => k <= 3, meas := λ k => 3 - k, first := [(102, 3032)] }
def BUB (a : Gn) : Ann := { ann 67 [(F5, BTT), (AWG, C_xor.spec BQP)] with E := [100, 101], loops := λ id => if id = 5 then some [bk5 a] else none }
def BQN (a : Gn) : Prop := CF Try.prog (BUB a) AGE (AH AGE) (C_brk.xs a) (AB (C_brk.L a)) (C_brk.val a) (C_brk.keep a) [] []
abbrev Ku a b c:=bkK (KO a) (NF b) c
abbrev vL a b:=xsK (KO a) b
abbrev AII a b:=xsN (vL a b)
abbrev Vp a:=BE (KO a)
abbrev G0 a:=mdI (Vp a)
abbrev Gj a b c:=HI (ADP (AII a b) (VO (Zu (G0 c))))
abbrev YZ a b:=bkI (KO a) b
attribute [go_sem] Ku vL AII Vp G0 Gj YZ
theorem BWQ (a : Gn) : (BQN a) = (Kk (Ew a) 8 (BC (FY 13 (Ew a)) (Gi (Ew a)) (GG (CN (Jf (XB 4)) KG) (HA (λ i=>VE (CG (LP a) (Al a) (HH (KO a) (Ew a)) (AS (G0 a) (mdI (Ew a))) (HH (Fe a (YZ a i)) (LZ (Re a))) (LP a) (λ j=>MW j (IZ a) (YN a (Ku a a i)) j (IZ a) j) (Bv a) (EX (Cf a) (Ej a) (Eg a) (Mu a) (DX (EF a)) (λ j=>EO j (EF a)) (DR (EF a)) (DI (EF a)) (AS (vL a i) (VO (Ew a))))) (GZ i 3))) (λ i=>CN (GZ i 3) (And (CN (Jf (XB 4)) KG) (ED (hd7 (Wi a (YZ a i)) (DO (ADV a (kP (Vp a) 4) 2))) (AE (vL a i)) (ED (jA (Gj a i a) (Vp a)) (KQ (Sl a (GO (Gj a i a) (Vp a))) (QM a) (KM (LA (Sl a (GO (Gj a i a) (Vp a)))) (QM a) (Qu (Wi a (YZ a i)) a) (Ow (CO (Hg a (YZ a i)) (QM a)) (Qu (Wi a (YZ a i)) a) (Qu (Sl a (GO (Gj a i a) (Vp a))) a) (QI (Sl a (GO (Gj a i a) (Vp a))) (QM a))))) (HA (λ j=>WL (CG (LP a) (Al a) (FS (KO a)) (AE (G0 a)) (BR (Fe a (YZ a j)) (Fe a (YZ a i))) (LP a) (λ k=>QP k (IZ a) (YN a (Ku a a j)) k (RS k (Sl a (GO (Gj a i a) (Vp a))) (Zg a (Ku a a i) (Hg a (YZ a i))) (SY k (Hg a (YZ a i)) (Zg a (Ku a a i) (LA (Sl a (GO (Gj a i a) (Vp a))))) (Zg a (Ku a a i) k)))) (Bv a) (EX (Cf a) (Ej a) (Eg a) (Mu a) (DX (EF a)) (λ k=>EO k (EF a)) (DR (EF a)) (DI (EF a)) (AS (vL a j) (AII a i)))) (GZ j 3) 3 j i)) (And (KQ (Sl a (Gj a i a)) (QM a) (KM (LA (Sl a (Gj a i a))) (QM a) (Qu (Wi a (YZ a i)) a) (Ow (CO (Hg a (YZ a i)) (QM a)) (Qu (Wi a (YZ a i)) a) (Qu (Sl a (Gj a i a)) a) (QI (Sl a (Gj a i a)) (QM a))))) (HA (λ j=>WL (CG (LP a) (Al a) (FS (KO a)) (AE (G0 a)) (BR (Fe a (YZ a j)) (Fe a (YZ a i))) (LP a) (λ k=>QP k (IZ a) (YN a (Ku a a j)) k (RS k (Sl a (Gj a i a)) (Zg a (Ku a a i) (Hg a (YZ a i))) (SY k (Hg a (YZ a i)) (Zg a (Ku a a i) (LA (Sl a (Gj a i a)))) (Zg a (Ku a a i) k)))) (Bv a) (EX (Cf a) (Ej a) (Eg a) (Mu a) (DX (EF a)) (λ k=>EO k (EF a)) (DR (EF a)) (DI (EF a)) (AS (vL a j) (AII a i)))) (GZ j 3) 3 j i)))) (HU (LP a) (λ j=>MW j (IZ a) (YN a (Ku a a 3)) j (YN a (Ku a a i)) j) (RE a))))))) (HU (LP a) (λ i=>MW i (IZ a) (YN a (Ku a a 3)) i (IZ a) i) (RE a))) := by kernel_rfl
theorem Fp {a : Gn} (h : a.a <= a.l.length) {m : List Int} {i : Nat} (hi : i < m.length) : gD (YN a m) (a.a + i) = gD m i := by
 have := sG (P := a.l.take a.a) (m := m) (S := a.l.drop a.b) (i := i) hi
 rw [show (a.l.take a.a).length = a.a by rw [List.length_take]; omega] at this; exact this
theorem BOP {a : Gn} (h : a.a <= a.b /\ a.b <= a.l.length) {m : List Int} (hm : m.length = a.b - a.a) : (YN a m).length = a.l.length := by
 unfold YN; rw [BWU, hm, List.length_take, List.length_drop]; omega
theorem BXZ {a : Gn} (h : a.a <= a.b /\ a.b <= a.l.length) {m : List Int} (hm : m.length = a.b - a.a) {j x : Nat} (hj : j + 1 < m.length) (hx : x < a.l.length) : gD (YN a (swL m j)) x = bif decide (x = a.a + j) then gD (YN a m) (a.a + (j + 1)) else bif decide (x = a.a + (j + 1)) then gD (YN a m) (a.a + j) else gD (YN a m) x := by
 have := CBA (P := a.l.take a.a) (m := m) (S := a.l.drop a.b) (j := j) (x := x) hj (by have := BOP h hm; unfold YN at this; rw [this]; exact hx)
 rw [show (a.l.take a.a).length = a.a by rw [List.length_take]; omega] at this; exact this
theorem BWC (a : Gn) (hab : a.a <= a.b /\ a.b <= a.l.length) (h : gnOk a) : BHR a := by
 obtain ⟨hlen, hin⟩ := h
 have e0 : YN a (nT a.a a.b a.l) = a.l := vU hab.1 hab.2
 have ml := Kg hab.1 hab.2
 have wm : ∀ {m : List Int} {i : Nat}, i < m.length -> gD (YN a m) (a.a + i) = gD m i := λ hi => Fp (by omega) hi
 rw [BNS]<;> delta JH zU Hi BI BF EN MM ON Ep EB EA BY AF CN CO AS BE EU EC JL FY MN NT LS ET GW FK HV IB HK GV FU HC DV FW EY LD LC XS EP RX GZ Ai CJ DN cQ VS IZ Bp Hk WU Wm EF iP Kl Xs Se AD CI AU FT GN AG GK AZ AX AE FA BM Ow AW JP BL BD AO AR DD BA BK II JQ BO BJ CX HI BW BV AJ AQ JD AV EH FC Oy NH CK AN AL GH JE JO HG FX FQ FO MR AM IV FD HE DK ID DR GO CM ES BX CG DO BC IW HS DX JR HH JA CE PM EZ LA CS EV LZ KO CU FH HQ DZ EW AT DU LL Fe JB ED HO BR Wz FZ GI BN GA GC EO HD QR YQ PF LG FS QP IH SX PQ MU IS MW ND MC NM EX RV SY DT Wi GU QV LJ HF BP MQ FJ FI EI LV BH BG IP Hf Lw DI HZ IR Dl JX QM KT IQ HY GM YX LP EG HX DG CQ GD Er KM PK Iq MI RE FN Pu IA KQ Df HU Hg JJ Dy Zg Al Bv Cf Ej Eg Me Ui Qu Uz Mu eX mF kO WL; simp only [CC, eq_self, implies_true, forall_const, CL]
 refine ⟨⟨⟨1, nT a.a a.b a.l⟩, ⟨(HL (by omega)).symm, λ i hi => by rw [e0]⟩, Nat.one_pos, .inr rfl, ⟨ml, λ i hi => by rw [K2 hab.2 (by omega)]; exact hin _ (by omega)⟩, by unfold Xq; rw [ml]⟩, λ x ⟨x1, x2, ⟨x3, x4⟩, x5⟩ => ⟨λ hlt => ⟨⟨⟨x.i, x.i, x.l⟩, ⟨rfl, rfl, λ _ _ => rfl⟩, rfl, x1, by show x.i < a.b - a.a; omega, Nat.le_refl _, ⟨x3, x4⟩, ?_⟩, λ y ⟨y1, y2, y3, y4, ⟨y5, y6⟩, y7⟩ => ?_⟩, λ hge => ?_⟩⟩
 ·rw [x5, show a.b - a.a - x.i = (a.b - a.a - (x.i + 1)) + 1 by omega]; rfl
 ·have e : 0 < y.j -> IntKind.i64.wrap (((a.a + y.j : Nat) : Int) - 1) = ((a.a + (y.j - 1) : Nat) : Int) := λ h => (TC (by omega) (by omega)).trans (by omega)
  refine ⟨⟨λ hg => ⟨by omega, by omega⟩, λ hg => by omega, λ hg => ?_, λ hg => ?_, λ hg => ⟨?_, ?_⟩⟩, λ hc => ?_, λ hc => ?_⟩
  ·rw [e (by omega)]; omega
  ·rw [e (by omega), Int.toNat_natCast]; omega
  ·rw [wm (by omega)]; exact y6 _ (by omega)
  ·rw [e (by omega), Int.toNat_natCast, wm (by omega)]; exact y6 _ (by omega)
  ·have hj : 0 < y.j := by
    cases hd : decide (((a.a + y.j : Nat) : Int) > (a.a : Int)) with
    | false => rw [hd] at hc; cases hc
    | true => have := of_decide_eq_true hd; omega
   obtain ⟨j, hj2⟩ : ∃ j, y.j = j + 1 := ⟨y.j - 1, by omega⟩
   rw [decide_eq_true (show ((a.a + y.j : Nat) : Int) > (a.a : Int) by omega)] at hc
   have hc : decide (Hz (CV a.g (gD (YN a y.l) (a.a + y.j))) (CV a.g (gD (YN a y.l) (IntKind.i64.wrap (((a.a + y.j : Nat) : Int) - 1)).toNat)) < 0) = true := hc
   have hc := of_decide_eq_true hc
   rw [e hj] at hc ⊢
   simp only [Int.toNat_natCast] at hc ⊢
   rw [wm (by omega), wm (by omega)] at hc
   rw [show y.j - 1 = j by omega] at hc ⊢
   refine ⟨⟨⟨by omega, by omega⟩, by omega, ⟨by omega, by omega⟩, by omega, ⟨by omega, by omega⟩, by omega, ⟨by omega, by omega⟩, by omega⟩, ⟨y.i, j, swL y.l j⟩, ⟨rfl, rfl, λ i hi => ?_⟩, ⟨y1, y2, y3, by show j <= y.i; omega, ⟨by rw [lD]; exact y5, λ i hi => ?_⟩, ?_⟩, by show j < _; omega⟩
   ·rw [BXZ hab y5 (by omega) hi, hj2]
   ·show 0 <= gD (swL y.l j) i /\ gD (swL y.l j) i < _
    rw [AGJ (by omega)]
    cases decide (i = j)
    ·cases decide (i = j + 1)
     ·exact y6 i hi
     ·exact y6 j (by omega)
    ·exact y6 (j + 1) (by omega)
   ·rw [hj2] at hc y7
    unfold yU at y7
    rw [decide_eq_true hc] at y7; exact y7
  ·have hq : yU (CV a.g) y.j y.l = y.l := by
    rcases Nat.eq_zero_or_pos y.j with hj | hj
    ·rw [hj]; rfl
    ·obtain ⟨j, hj2⟩ : ∃ j, y.j = j + 1 := ⟨y.j - 1, by omega⟩
     rw [decide_eq_true (show ((a.a + y.j : Nat) : Int) > (a.a : Int) by omega)] at hc
     have hc : decide (Hz (CV a.g (gD (YN a y.l) (a.a + y.j))) (CV a.g (gD (YN a y.l) (IntKind.i64.wrap (((a.a + y.j : Nat) : Int) - 1)).toNat)) < 0) = false := hc
     have hc := of_decide_eq_false hc
     rw [e hj, Int.toNat_natCast, wm (by omega), wm (by omega), show y.j - 1 = j by omega, hj2] at hc
     rw [hj2]; unfold yU; rw [decide_eq_false hc]; rfl
   rw [hq] at y7
   refine ⟨⟨y.i + 1, y.l⟩, ⟨(HL (a := a.a + y.i) (by omega)).symm, λ _ _ => rfl⟩, ⟨by show 0 < y.i + 1; omega, .inl (by show y.i + 1 <= _; omega), ⟨y5, y6⟩, y7⟩, by show a.b - a.a - (y.i + 1) < _; omega⟩
 ·intro i hi
  unfold Xp
  rw [x5, show a.b - a.a - x.i = 0 by omega]; rfl
theorem AZC : AK Try.prog L6 (C_insS.spec dGn) := VV C_insS BGP [] [] AZF (λ _ => by kernel_rfl) (λ _ => AA AFA AC) (λ (a : Gn) h => by
 obtain ⟨h1, h2⟩ : (a.a <= a.b /\ a.b <= a.l.length) /\ gnOk a := h
 exact BWC a h1 h2) (λ _ => WY rfl rfl) _
theorem AZH : AK Try.prog X7 (C_pdqS.spec dGnp) := VV C_pdqS BGQ [] [] ATR (λ _ => by kernel_rfl) (λ _ => AA AZC AC) (λ (a : Gn) h => by
 obtain ⟨h1, h2⟩ : (a.a <= a.b /\ a.b <= a.l.length /\ a.b <= a.a + 12) /\ gnOk a := h
 show BFQ a
 have h3 := h2.1
 rw [BNV]<;> delta JH hd7 BI BF EN MM ON Ep EB EA BY AF CN CO AS BE EU EC FY MN ET GW FK HV IB HK GV FU HC DV FW EY LD FL LC KG CJ DN RU TE Yb VS IZ Bp Hk EF AD CI AU FT GN AG GK AZ AX AE FA BM GQ Sa AW JP BL BD AO AR DD BA VR BK II JQ BO BJ CX HI BW BV AJ AQ JD AV EH FC Ag NH CK AN AL JE JO HG FX FQ FO MR AM IV FD HE DK ID DR GO ES BX CG IW HS DX JA PM EZ EV CU FH HQ EW AT DU LL ED Wz FZ GI BN GA GC EO HD QR YQ FS QP DY IH PQ MU IS MW ND MC NM EX XJ GU Yn iQ BP FJ FI EI SK GF LV BH BG IP Hf DI Ew IQ HY YX LP MJ EG DG CQ GD RL PK KS Iq Aw RE FN IA HU JJ Dy VW Al Lo VI Bv SU Cf Gq Ej Eg Me XL Qq Mu hJ; simp only [CC, eq_self, implies_true, forall_const, CL]
 exact ⟨⟨default, trivial⟩, λ _ => ⟨⟨h1.1, h1.2.1⟩, h2⟩, λ hc => hc (by rw [TC (by omega) (by omega)]; omega)⟩) (λ _ => WY rfl rfl) _
theorem AMF {n : Nat} {x : Int} (h : 0 <= x /\ x < (n : Int)) : x.toNat < n := by omega
theorem BZA : AK Try.prog AES (C_o2.spec dO2) := VV C_o2 (λ _ => A_o2) [] [] BCA (λ _ => by kernel_rfl) (λ _ => AA AFA AC) (λ (a : O2) h => by
 obtain ⟨⟨h1, h2⟩, h3⟩ : ((0 <= a.a /\ a.a < a.l.length) /\ 0 <= a.b /\ a.b < a.l.length) /\ Y3 a.g a.l := h
 show V_o2 a
 rw [BZD]; delta AUC AUU R5 K1 ADL ABA APV ALI AUX AVF AMD AAJ pX AAK AMB APF ALH ALX AOZ ALL AMR APO ANR AKR ANL APY ALD AMT AKW ALG AMV; simp only [CC, eq_self, implies_true, forall_const, CL]
 refine ⟨⟨h2, AMF h2, h1, AMF h1, h3 _ (AMF h2), h3 _ (AMF h1)⟩, λ hc => ?_, λ hc => ?_⟩
 ·have e : o2L (CV a.g) a.l a.a a.b = true := decide_eq_true hc
  unfold o2A o2B o2S; rw [e]; exact ⟨rfl, rfl, rfl⟩
 ·have e : o2L (CV a.g) a.l a.a a.b = false := decide_eq_false hc
  unfold o2A o2B o2S; rw [e]; exact ⟨rfl, rfl, rfl⟩) (λ _ => WY rfl rfl) _
theorem BTR {key : Int -> Int} {l : List Int} {n a b : Int} (ha : 0 <= a /\ a < n) (hb : 0 <= b /\ b < n) : (0 <= o2A key l a b /\ o2A key l a b < n) /\ 0 <= o2B key l a b /\ o2B key l a b < n := by
 unfold o2A o2B
 cases o2L key l a b
 ·exact ⟨ha, hb⟩
 ·exact ⟨hb, ha⟩
theorem CBC : AK Try.prog AAS (C_md.spec dMd) := VV C_md (λ _ => A_md) [] [] BBZ (λ _ => by kernel_rfl) (λ _ => AA BZA AC) (λ (a : Md) h => by
 obtain ⟨⟨h1, h2, h3⟩, h4⟩ : ((0 <= a.a /\ a.a < a.l.length) /\ (0 <= a.b /\ a.b < a.l.length) /\ 0 <= a.c /\ a.c < a.l.length) /\ Y3 a.g a.l := h
 show V_md a
 have q1 := BTR (key := CV a.g) (l := a.l) h1 h2
 have q2 := BTR (key := CV a.g) (l := a.l) q1.2 h3
 rw [BZJ]<;> delta BI BF EN EB EA BY AF CN CO AS BE FY MN ET GW FK HV IB HK GV FU HC DV FW EY LD CJ DN RU VS Cy Fb Fc IF iW AD CI AU FT GN AG GK AZ AX AE FA BM AW JP BL BD AO AR DD BA VR BK II JQ BO BJ CX BW BV AJ AQ JD AV EH FC Ag NH CK AN AL JE JO HG FX FQ FO MR AM IV FD HE DK ID DR ES BX CG IW HS DX JA CE CW PM EZ EV CU FH HQ EW AT DU LL HR FZ GI BN GA GC EO HD QR YQ QP DY PQ OB IS MW ND MC NM EX DT Yn VQ iQ BP FJ FI EI SK GF BH BG LM IP DI Bh HB HY YX EG CQ GD Iq HM Aw FN SP Dy VW Ei SB SU eN eE Vt; simp only [CC, eq_self, implies_true, forall_const, CL]
 exact ⟨⟨⟨h1, h2⟩, h4⟩, ⟨⟨q1.2, h3⟩, h4⟩, ⟨⟨q1.1, q2.1⟩, h4⟩, rfl, rfl⟩) (λ _ => WY rfl rfl) _
theorem nJ {a : Gn} (h : a.a <= a.b /\ a.b <= a.l.length) {m : List Int} (hm : m.length = a.b - a.a) {i j x : Nat} (hi : i < m.length) (hj : j < m.length) (hx : x < a.l.length) : gD (YN a (sw2 m i j)) x = bif decide (x = a.a + j) then gD (YN a m) (a.a + i) else bif decide (x = a.a + i) then gD (YN a m) (a.a + j) else gD (YN a m) x := by
 have tl : (a.l.take a.a).length = a.a := by rw [List.length_take]; omega
 rw [Fp (by omega) hi, Fp (by omega) hj]
 rcases Nat.lt_or_ge x a.a with q | q
 ·unfold YN
  rw [AQG (by omega), AQG (by omega), decide_eq_false (by omega), decide_eq_false (by omega)]; rfl
 ·obtain ⟨y, rfl⟩ : ∃ y, x = a.a + y := ⟨x - a.a, by omega⟩
  rcases Nat.lt_or_ge y m.length with r | r
  ·rw [Fp (by omega) (by rw [Sp]; exact r), Fp (by omega) r, AMA hi hj]
   simp only [Nat.add_left_cancel_iff]
  ·unfold YN
   rw [ART (by rw [Sp]; omega), ART (by omega), Sp, decide_eq_false (by omega), decide_eq_false (by omega)]; rfl
theorem AWE {a : Gn} (h : gnP a) : IntKind.i64.wrap ((a.b : Int) - a.a) = ((a.b - a.a : Nat) : Int) := by
 obtain ⟨h1, h2⟩ := h
 have h3 := h2.1
 exact (TC (by omega) (by omega)).trans (by omega)
theorem BHB {n : Nat} (h : n <= 100) : IntKind.i64.wrap ((n : Int).tdiv 4) = ((n / 4 : Nat) : Int) := by
 have e : (n : Int).tdiv 4 = ((n / 4 : Nat) : Int) := rfl
 rw [e]; exact TC (by omega) (by omega)
theorem BFH {a : Gn} (h : gnP a) {k : Nat} (hk : k <= 3) : IntKind.i64.wrap ((a.a : Int) + IntKind.i64.wrap (((cq a : Nat) : Int) * (k : Int))) = ((a.a + cq a * k : Nat) : Int) := by
 obtain ⟨h1, h2⟩ := h
 have h3 := h2.1
 have q : cq a <= 5 := by unfold cq; omega
 have e : cq a * k <= 5 * 3 := Nat.mul_le_mul q hk
 have e2 : ((cq a : Nat) : Int) * (k : Int) = ((cq a * k : Nat) : Int) := by rw [Int.natCast_mul]
 rw [e2, show IntKind.i64.wrap ((cq a * k : Nat) : Int) = ((cq a * k : Nat) : Int) from TC (by omega) (by omega)]
 exact (TC (by omega) (by omega)).trans (by omega)
theorem BXX : AK Try.prog AEW (C_cho.spec dGn) := VV C_cho (λ _ => BTE) [] [] BBR (λ _ => by kernel_rfl) (λ _ => AA CBC AC) (λ (a : Gn) h => by
 have h : gnP a := h
 show BUE a
 have w1 := AWE h
 have q4 : a.a + cq a * 3 < a.b /\ 3 <= cq a := by
  have := h.1
  unfold cq; omega
 have w2 : IntKind.i64.wrap (((a.b - a.a : Nat) : Int).tdiv 4) = ((cq a : Nat) : Int) := BHB (by have := h.1; omega)
 have w3 : IntKind.i64.wrap ((a.a : Int) + IntKind.i64.wrap (((cq a : Nat) : Int) * 1)) = ((a.a + cq a : Nat) : Int) := by have := BFH h (k := 1) (by omega); rw [Nat.mul_one] at this; exact this
 have w4 : IntKind.i64.wrap ((a.a : Int) + IntKind.i64.wrap (((cq a : Nat) : Int) * 2)) = ((a.a + cq a * 2 : Nat) : Int) := BFH h (k := 2) (by omega)
 have w5 : IntKind.i64.wrap ((a.a : Int) + IntKind.i64.wrap (((cq a : Nat) : Int) * 3)) = ((a.a + cq a * 3 : Nat) : Int) := BFH h (k := 3) (by omega)
 rw [BUZ]<;> delta jA BI BF EN MM ON Ep EB EA BY AF CN CO AS BE XB EC FY MN NT ET GW FK HV IB HK GV FU HC DV FW EY LD Ey KG CJ DN RU Bu VS IZ Bp Hk EF AD CI AU FT GN AG GK AZ AX AE FA BM YO AW JP BL BD AO AR DD BA VR BK II JQ BO BJ CX HI BW BV AJ AQ JD AV EH FC Ag NH CK AN AL GH JE JO HG FX FQ FO MR AM IV FD HE DK ID DR GO ES BX CG BC IW HS DX JA CE CW PM EZ EV CU FH HQ EW AT DU LL HR Wz FZ GI BN GA GC EO HD QR YQ IM QP DY PQ MU IS MW ND MC NM EX RV iJ Sl Yn VQ iQ BP FJ FI EI SK GF LV BH BG LM IP Hf DI kP HB Ew IQ HY YX LP ADV DG CQ GD RL Iq HM Aw R8 RE FN SP KQ Dy VW Ei Bv SB SU Cf Ej Eg VE Qq Re Kk Mu Jn Jf hJ dQ dU; simp only [CC, eq_self, implies_true, forall_const, CL]
 rw [w1, w2, w3, w4, w5]
 obtain ⟨h1, h2, h3⟩ := h
 have hs : 0 <= chS a /\ chS a <= 3 := BYD (CV a.g) a.l _ _ _
 refine ⟨λ h => (by cases h), λ h => (by cases h), λ h => (by cases h), λ _ => ⟨λ h => by omega, λ _ => ⟨⟨rfl, ⟨⟨by omega, by omega⟩, ⟨by omega, by omega⟩, by omega, by omega⟩, h3⟩, λ hc => ⟨rfl, ?_⟩, λ hc => ⟨λ hd => ?_, λ hd => ⟨rfl, ?_⟩⟩⟩⟩, λ h => by omega⟩
 ·have hc : (chS a == 0) = true := hc
  unfold chH; rw [hc]; rfl
 ·have hd : (chS a == 12) = true := hd
  have hd := eq_of_beq hd
  omega
 ·have hc : (chS a == 0) = false := hc
  unfold chH; rw [hc]; rfl) (λ _ => WY rfl rfl) _
theorem AXW {key : Int -> Int} {l : List Int} {i : Nat} : ∀ {n : Nat}, i <= n -> fE key l n = true -> fE key l i = true
 | 0, h, q => by
  obtain rfl : i = 0 := by omega
  exact q
 | n + 1, h, q => by
  rcases Nat.lt_or_ge i (n + 1) with r | r
  ·unfold fE at q
   rw [Bool.and_eq_true] at q
   exact AXW (by omega) q.1
  ·obtain rfl : i = n + 1 := by omega
   exact q
theorem BVK : AK Try.prog N3 (C_pin.spec dGn) := VV C_pin BTD [] [] ATU (λ _ => by kernel_rfl) (λ _ => AA AFA AC) (λ (a : Gn) h => by
 have h : gnP a := h
 show BQZ a
 have w1 := AWE h
 obtain ⟨h1, h0, h2⟩ := h
 have ma : ∀ i, i < a.b - a.a -> gD (NF a) i = gD a.l (a.a + i) := λ i hi => K2 h1.2.2 (by omega)
 rw [BYH]<;> delta JH zU Hi BI BF EN MM ON Ep EB EA BY AF CN CO AS BE XB EU EC JL FY MN NT LS ET GW FK HV IB HK GV FU HC DV FW EY LD HA FL Ey LC EP RX KG EK GZ CJ DN VS IZ Bp Hk EF AD CI AU FT GN AG GK AZ AX AE FA BM AW JP BL BD AO AR DD BA BK II JQ BO BJ CX HI BW BV AJ AQ JD AV EH FC Oy NH CK AN AL GH JE JO HG FX FQ FO MR AM IV FD HE DK ID DR GO CM ES BX CG DO IW HS DX JR HH JA PM EZ LA CS EV LZ KO CU FH HQ DZ EW AT DU Fe JB ED HO BR Wz FZ GI BN GA GC EO HD YQ PF LG FS IH SX PQ MU IS ND MC UD NM EX DT Wi DJ GU GR QV Fi LJ iQ HF BP MQ FJ FI EI LV BH BG IP Hf DI HZ Dl JX QM DW Ew IQ HY YX LP EG HX FV DG CQ GD PK Aw RE FN IA HU Hg JJ Dm VW Al Pw Bv Cf Ej Eg Me Qq Mu Lp; simp only [CC, eq_self, implies_true, forall_const, CL]
 rw [w1]
 refine ⟨⟨_, rfl, (HL (by omega))⟩, λ a1 e1 => ?_⟩
 subst e1
 refine ⟨⟨0, rfl, by omega, rfl⟩, λ i ⟨i1, i2⟩ => ?_⟩
 have e : IntKind.i64.wrap (((a.a + (i + 1) : Nat) : Int) - 1) = ((a.a + i : Nat) : Int) := (TC (by omega) (by omega)).trans (by omega)
 rw [e]
 simp only [Int.toNat_natCast]
 refine ⟨⟨λ h => ⟨by omega, by omega⟩, λ h => by omega, λ h => ⟨by omega, by omega⟩, λ h => by omega, λ h => ⟨h2 _ (by omega), h2 _ (by omega)⟩⟩, λ hc => ?_, λ hc => ⟨λ hd => ?_, λ hd => ⟨λ _ => ?_, λ h => by omega⟩⟩⟩
 ·have hi : a.a + (i + 1) < a.b := by
   rcases Nat.lt_or_ge (a.a + (i + 1)) a.b with q | q
   ·exact q
   ·rw [decide_eq_false (by omega)] at hc; cases hc
  rw [decide_eq_true (show ((a.a + (i + 1) : Nat) : Int) < (a.b : Int) by omega)] at hc
  refine ⟨i + 1, (HL (a := a.a + (i + 1)) (by omega)).symm, ⟨by omega, ?_⟩, by omega⟩
  unfold fE; rw [i2, ma _ (by omega), ma _ (by omega)]; exact hc
 ·have hd : ((a.a + (i + 1) : Nat) : Int) = (a.b : Int) := by simpa using hd
  rw [show a.b - a.a - 1 = i by omega]; exact i2
 ·have hd : ¬((a.a + (i + 1) : Nat) : Int) = (a.b : Int) := by simpa using hd
  rw [decide_eq_true (show ((a.a + (i + 1) : Nat) : Int) < (a.b : Int) by omega)] at hc
  have hs : fE (CV a.g) (NF a) (i + 1) = false := by unfold fE; rw [i2, ma _ (by omega), ma _ (by omega)]; exact hc
  cases q : fE (CV a.g) (NF a) (a.b - a.a - 1) with
  | false => rfl
  | true => rw [AXW (show i + 1 <= a.b - a.a - 1 by omega) q] at hs; cases hs) (λ _ => WY rfl rfl) _
theorem BSQ {key : Int -> Int} {i j : Nat} {l : List Int} (h1 : i <= j) (h2 : key (gD l i) < key (gD l 0)) : XG key false i j l = XG key false (i + 1) j l := by
 conv => lhs; unfold XG
 rw [if_pos rfl, if_pos ⟨h1, h2⟩]
theorem AZY {key : Int -> Int} {i j : Nat} {l : List Int} (h : ¬(i <= j /\ key (gD l i) < key (gD l 0))) : XG key false i j l = XG key true i j l := by
 conv => lhs; unfold XG
 rw [if_pos rfl, if_neg h]
theorem BST {key : Int -> Int} {i j : Nat} {l : List Int} (h0 : 1 <= j) (h1 : i <= j) (h2 : ¬key (gD l j) < key (gD l 0)) : XG key true i j l = XG key true i (j - 1) l := by
 conv => lhs; unfold XG
 rw [if_neg (by decide), if_pos ⟨h0, h1, h2⟩]
theorem BEI {key : Int -> Int} {i j : Nat} {l : List Int} (h : i > j) : XG key true i j l = ⟨j, l⟩ := by
 conv => lhs; unfold XG
 rw [if_neg (by decide), if_neg (by omega), if_pos h]
theorem BSG {key : Int -> Int} {i j : Nat} {l : List Int} (h : ¬i > j) (h2 : ¬(i <= j /\ ¬key (gD l j) < key (gD l 0))) : XG key true i j l = XG key false (i + 1) (j - 1) (sw2 l i j) := by
 conv => lhs; unfold XG
 rw [if_neg (by decide), if_neg (λ q => h2 q.2), if_neg h]
theorem cU {i j : Nat} {u v : Int} : (bif decide ((i : Int) <= (j : Int)) then decide (Hz u v < 0) else false) = true ↔ i <= j /\ u < v := by
 by_cases h : (i : Int) <= (j : Int)
 ·rw [decide_eq_true h]
  show decide (Hz u v < 0) = true ↔ _
  rw [decide_eq_true_eq, sX]
  exact ⟨λ q => ⟨by omega, q⟩, λ q => q.2⟩
 ·rw [decide_eq_false h]
  exact ⟨λ q => (by cases q), λ q => absurd q.1 (by omega)⟩
theorem cD {i j : Nat} {u v : Int} : (bif decide ((i : Int) <= (j : Int)) then !decide (Hz u v < 0) else false) = true ↔ i <= j /\ ¬u < v := by
 by_cases h : (i : Int) <= (j : Int)
 ·rw [decide_eq_true h]
  show (!decide (Hz u v < 0)) = true ↔ _
  rw [Bool.not_eq_true', decide_eq_false_iff_not, sX]
  exact ⟨λ q => ⟨by omega, q⟩, λ q => q.2⟩
 ·rw [decide_eq_false h]
  exact ⟨λ q => (by cases q), λ q => absurd q.1 (by omega)⟩
theorem no_t {b : Bool} (h : b = false) : ¬b = true := by rw [h]; decide
theorem xB {g : Cht} {l m : List Int} (hp : m.Perm l) (h : Y3 g l) : Y3 g m := λ i hi => by
 obtain ⟨j, hj, e⟩ := OV (hp.mem_iff.1 (HW hi))
 rw [<- e]; exact h j hj
theorem BSN {key : Int -> Int} {i j : Nat} {l : List Int} (h1 : ¬i > j) (h2 : i <= j -> ¬key (gD l i) < key (gD l 0)) (h3 : ¬(i <= j /\ ¬key (gD l j) < key (gD l 0))) : i < j := by
 rcases Nat.lt_or_ge i j with q | q
 ·exact q
 ·obtain rfl : i = j := by omega
  exact absurd ⟨Nat.le_refl _, h2 (Nat.le_refl _)⟩ h3
theorem cUw {a : Gn} (h : a.a <= a.b /\ a.b <= a.l.length) {key : Int -> Int} {l : List Int} {i j : Nat} (hj : j < l.length) : (bif decide (((a.a + i : Nat) : Int) <= ((a.a + j : Nat) : Int)) then decide (Hz (key (gD (YN a l) (a.a + i))) (key (gD (YN a l) a.a)) < 0) else false) = true ↔ i <= j /\ key (gD l i) < key (gD l 0) := by
 have e0 : gD (YN a l) a.a = gD l 0 := Fp (i := 0) (by omega) (by omega)
 rw [cU, e0]
 constructor
 ·rintro ⟨q1, q2⟩
  rw [Fp (by omega) (by omega)] at q2
  exact ⟨by omega, q2⟩
 ·rintro ⟨q1, q2⟩
  refine ⟨by omega, ?_⟩
  rw [Fp (by omega) (by omega)]; exact q2
theorem cDw {a : Gn} (h : a.a <= a.b /\ a.b <= a.l.length) {key : Int -> Int} {l : List Int} {i j : Nat} (hj : j < l.length) : (bif decide (((a.a + i : Nat) : Int) <= ((a.a + j : Nat) : Int)) then !decide (Hz (key (gD (YN a l) (a.a + j))) (key (gD (YN a l) a.a)) < 0) else false) = true ↔ i <= j /\ ¬key (gD l j) < key (gD l 0) := by
 have e0 : gD (YN a l) a.a = gD l 0 := Fp (i := 0) (by omega) (by omega)
 rw [cD, e0, Fp (by omega) hj]
 exact ⟨λ q => ⟨by omega, q.2⟩, λ q => ⟨by omega, q.2⟩⟩
theorem BKV {a : Gp} (h : a.v.a <= a.v.b /\ a.v.b <= a.v.l.length) {j : Nat} {l : List Int} (hr : gpR a = ⟨j, l⟩) (hl : l.length = a.v.b - a.v.a) (hj : j < a.v.b - a.v.a) : ((a.v.a + (gpR a).j : Nat) : Int) = ((a.v.a + j : Nat) : Int) /\ ∀ i, i < a.v.l.length -> gD (YN a.v (ptL (CV a.v.g) (NF a.v) (gpK a))) i = bif decide (i = a.v.a) then gD (YN a.v l) (a.v.a + j) else bif decide (i = a.v.a + j) then gD (YN a.v l) a.v.a else gD (YN a.v l) i := by
 refine ⟨by rw [hr], λ i hi => ?_⟩
 have e : ptM (CV a.v.g) (NF a.v) (gpK a) = ⟨j, l⟩ := hr
 unfold ptL
 rw [e]
 have := nJ (a := a.v) h hl (i := j) (j := 0) (x := i) (by omega) (by omega) hi
 exact this
theorem BZQ (a : Gp) (hp : (a.v.a : Int) <= a.p /\ a.p < a.v.b) (hg : gnP a.v) : BRC a := by
 obtain ⟨h1, h0, h2⟩ := hg
 have hab : a.v.a <= a.v.b /\ a.v.b <= a.v.l.length := by omega
 have ml : (NF a.v).length = a.v.b - a.v.a := Kg hab.1 hab.2
 have hk : gpK a < a.v.b - a.v.a := by unfold gpK; omega
 have ep : a.p = ((a.v.a + gpK a : Nat) : Int) := by unfold gpK; omega
 have ma : ∀ i, i < a.v.b - a.v.a -> gD (NF a.v) i = gD a.v.l (a.v.a + i) := λ i hi => K2 h1.2.2 (by omega)
 have hm : Y3 a.v.g (NF a.v) := λ i hi => by rw [ma _ (by omega)]; exact h2 _ (by omega)
 have z2 : (0 : Int) <= (a.v.a : Int) /\ (a.v.a : Int) < (a.v.l.length : Int) := ⟨by omega, by omega⟩
 have zn : a.v.a < a.v.l.length := by omega
 have sp := Wo (l := NF a.v) (i := 0) (j := gpK a) (by omega) (by omega)
 have e00 : YN a.v (NF a.v) = a.v.l := vU hab.1 hab.2
 rw [BVL]; delta APR yF oZ nZ AAE pE Oh oX Ik Fq AGH bM bN bA aR aW ACA ADM mQ jC jE mH mT AFN AGN ABQ ABG AAX zM yG Jt yK kL ACJ AFM AIB Vf Wp AHL xM wI AFS AEI AEE AHX AAR zR Wx ABN yX ACT AHA AAY AET AEL ADW ABC AEF AEZ ABK ADU AEK AEX ABL wT AHK AIE ADX AGU AER ADN jO xE ABU wJ ABY AIG zJ bK jF AHC Oq AGL ACD ABX AIF AGT yV AGD AFT AGM AEC AGC AHB ACG kH AAQ yA wO; simp only [CC, eq_self, implies_true, forall_const, CL]
 rw [ep, Int.toNat_natCast]
 have wj : ∀ {j : Nat}, 1 <= j -> j < a.v.b - a.v.a -> ((a.v.a + (j - 1) : Nat) : Int) = IntKind.i64.wrap (((a.v.a + j : Nat) : Int) - 1) := λ h1 h2 => ((TC (by omega) (by omega)).trans (by omega)).symm
 have wi : ∀ {i : Nat}, i <= a.v.b - a.v.a -> ((a.v.a + (i + 1) : Nat) : Int) = IntKind.i64.wrap (((a.v.a + i : Nat) : Int) + 1) := λ h1 => (HL (a := a.v.a + _) (by omega)).symm
 have w0 : ((a.v.a + 1 : Nat) : Int) = IntKind.i64.wrap ((a.v.a : Int) + 1) := (HL (by omega)).symm
 have wn : ((a.v.a + (a.v.b - a.v.a - 1) : Nat) : Int) = IntKind.i64.wrap ((a.v.b : Int) - 1) := ((TC (by omega) (by omega)).trans (by omega)).symm
 have wm : ∀ {m : List Int} {i : Nat}, i < m.length -> gD (YN a.v m) (a.v.a + i) = gD m i := λ hi => Fp (by omega) hi
 have w00 : ∀ {m : List Int}, 0 < m.length -> gD (YN a.v m) a.v.a = gD m 0 := λ hi => Fp (i := 0) (by omega) hi
 have gd : ∀ {i j k : Nat} {l : List Int}, (i <= j -> k < a.v.b - a.v.a) -> l.length = a.v.b - a.v.a -> Y3 a.v.g l -> (((a.v.a + i : Nat) : Int) <= ((a.v.a + j : Nat) : Int) -> (0 : Int) <= ((a.v.a + k : Nat) : Int) /\ ((a.v.a + k : Nat) : Int) < a.v.l.length) /\ (((a.v.a + i : Nat) : Int) <= ((a.v.a + j : Nat) : Int) -> a.v.a + k < a.v.l.length) /\ (((a.v.a + i : Nat) : Int) <= ((a.v.a + j : Nat) : Int) -> (0 : Int) <= (a.v.a : Int) /\ (a.v.a : Int) < a.v.l.length) /\ (((a.v.a + i : Nat) : Int) <= ((a.v.a + j : Nat) : Int) -> a.v.a < a.v.l.length) /\ (((a.v.a + i : Nat) : Int) <= ((a.v.a + j : Nat) : Int) -> (0 <= gD (YN a.v l) (a.v.a + k) /\ gD (YN a.v l) (a.v.a + k) < a.v.g.ns.length) /\ 0 <= gD (YN a.v l) a.v.a /\ gD (YN a.v l) a.v.a < a.v.g.ns.length) := λ h2 h4 h5 => ⟨λ h => by have := h2 (by omega); omega, λ h => by have := h2 (by omega); omega, λ _ => z2, λ _ => zn, λ h => by
  have := h2 (by omega)
  rw [wm (by omega), w00 (by omega)]
  exact ⟨h5 _ (by omega), h5 _ (by omega)⟩⟩
 have rg : ∀ {i j : Nat}, i < a.v.b - a.v.a -> j < a.v.b - a.v.a -> ((0 : Int) <= ((a.v.a + i : Nat) : Int) /\ ((a.v.a + i : Nat) : Int) < a.v.l.length) /\ a.v.a + i < a.v.l.length /\ ((0 : Int) <= ((a.v.a + j : Nat) : Int) /\ ((a.v.a + j : Nat) : Int) < a.v.l.length) /\ a.v.a + j < a.v.l.length /\ ((0 : Int) <= ((a.v.a + j : Nat) : Int) /\ ((a.v.a + j : Nat) : Int) < a.v.l.length) /\ a.v.a + j < a.v.l.length /\ ((0 : Int) <= ((a.v.a + i : Nat) : Int) /\ ((a.v.a + i : Nat) : Int) < a.v.l.length) /\ a.v.a + i < a.v.l.length := λ h1 h2 => ⟨⟨by omega, by omega⟩, by omega, ⟨by omega, by omega⟩, by omega, ⟨by omega, by omega⟩, by omega, ⟨by omega, by omega⟩, by omega⟩
 have rz : ∀ {j : Nat}, j < a.v.b - a.v.a -> ((0 : Int) <= (a.v.a : Int) /\ (a.v.a : Int) < a.v.l.length) /\ a.v.a < a.v.l.length /\ ((0 : Int) <= ((a.v.a + j : Nat) : Int) /\ ((a.v.a + j : Nat) : Int) < a.v.l.length) /\ a.v.a + j < a.v.l.length /\ ((0 : Int) <= ((a.v.a + j : Nat) : Int) /\ ((a.v.a + j : Nat) : Int) < a.v.l.length) /\ a.v.a + j < a.v.l.length /\ ((0 : Int) <= (a.v.a : Int) /\ (a.v.a : Int) < a.v.l.length) /\ a.v.a < a.v.l.length := λ h2 => ⟨z2, zn, ⟨by omega, by omega⟩, by omega, ⟨by omega, by omega⟩, by omega, z2, zn⟩
 have rk : ∀ {j : Nat}, j < a.v.b - a.v.a -> ((0 : Int) <= ((a.v.a + j : Nat) : Int) /\ ((a.v.a + j : Nat) : Int) < a.v.l.length) /\ a.v.a + j < a.v.l.length /\ ((0 : Int) <= (a.v.a : Int) /\ (a.v.a : Int) < a.v.l.length) /\ a.v.a < a.v.l.length /\ ((0 : Int) <= (a.v.a : Int) /\ (a.v.a : Int) < a.v.l.length) /\ a.v.a < a.v.l.length /\ ((0 : Int) <= ((a.v.a + j : Nat) : Int) /\ ((a.v.a + j : Nat) : Int) < a.v.l.length) /\ a.v.a + j < a.v.l.length := λ h2 => ⟨⟨by omega, by omega⟩, by omega, z2, zn, z2, zn, ⟨by omega, by omega⟩, by omega⟩
 refine ⟨rk hk, ⟨⟨1, a.v.b - a.v.a - 1, ptS (NF a.v) (gpK a)⟩, ⟨w0, wn, λ i hi => ?_⟩, ⟨⟨Nat.one_pos, by show a.v.b - a.v.a - 1 < _; omega, by show 1 <= a.v.b - a.v.a - 1 + 1; omega⟩, ⟨(Sp _ _ _).trans ml, xB sp hm⟩, by unfold gpR ptM; rw [ml]⟩, rfl⟩, λ x ⟨⟨⟨x1, x2, x3⟩, ⟨x4, x5⟩, x6⟩, x7⟩ => ⟨gd (λ h => by omega) x4 x5, λ hc => ?_, λ hc => ⟨?_, λ y ⟨⟨⟨⟨y1, y2, y3⟩, ⟨y4, y5⟩, y6⟩, y7⟩, y8⟩ => ⟨gd (λ h => by omega) y4 y5, λ hd => ?_, λ hd => ⟨λ hij => ?_, λ hij => ?_⟩⟩⟩⟩⟩
 ·have := nJ (a := a.v) hab ml (i := 0) (j := gpK a) (x := i) (by omega) (by omega) hi
  rw [e00] at this
  exact this
 ·have q := (cUw (a := a.v) hab (by omega)).1 hc
  exact ⟨⟨x.i + 1, x.j, x.l⟩, ⟨wi (by omega), rfl, λ _ _ => rfl⟩, ⟨⟨⟨Nat.succ_pos _, x2, by show x.i + 1 <= x.j + 1; omega⟩, ⟨x4, x5⟩, x6.trans (BSQ q.1 q.2)⟩, x7.trans (CBD q.1 q.2)⟩, by show x.j + 1 - (x.i + 1) < _; omega⟩
 ·have q := λ h => no_t hc ((cUw (a := a.v) hab (by omega)).2 h)
  exact ⟨⟨x.i, x.j, x.l⟩, ⟨rfl, rfl, λ _ _ => rfl⟩, ⟨⟨⟨x1, x2, x3⟩, ⟨x4, x5⟩, x6.trans (AZY q)⟩, λ h1 h2 => q ⟨h1, h2⟩⟩, x7.trans (BOT q)⟩
 ·have q := (cDw (a := a.v) hab (by omega)).1 hd
  exact ⟨⟨y.i, y.j - 1, y.l⟩, ⟨rfl, wj (by omega) y2, λ _ _ => rfl⟩, ⟨⟨⟨⟨y1, by show y.j - 1 < _; omega, by show y.i <= y.j - 1 + 1; omega⟩, ⟨y4, y5⟩, y6.trans (BST (by omega) q.1 q.2)⟩, λ h => y7 q.1⟩, y8.trans (CBY (by omega) q.1 q.2)⟩, by show y.j - 1 < _; omega⟩
 ·have q := λ h => no_t hd ((cDw (a := a.v) hab (by omega)).2 h)
  have e := y6.trans (BEI (show y.i > y.j by omega))
  have ef := y8.trans (BGT q)
  obtain ⟨f1, f2⟩ := BKV hab e y4 y2
  exact ⟨rz y2, f1, ef.trans (decide_eq_true (by omega)), f2⟩
 ·have hij : ¬y.i > y.j := by omega
  have q := λ h => no_t hd ((cDw (a := a.v) hab (by omega)).2 h)
  have l1 := BSN hij y7 q
  have lp := Wo (l := y.l) (i := y.i) (j := y.j) (by omega) (by omega)
  have ef : gpF a = false := (y8.trans (BGT q)).trans (decide_eq_false (by omega))
  refine ⟨rg y2 (by omega), ⟨⟨y.i + 1, y.j - 1, sw2 y.l y.i y.j⟩, ⟨wi (by omega), wj (by omega) y2, λ i hi => nJ hab y4 (by omega) (by omega) hi⟩, ⟨⟨Nat.succ_pos _, by show y.j - 1 < _; omega, by show y.i + 1 <= y.j - 1 + 1; omega⟩, ⟨(Sp _ _ _).trans y4, xB lp y5⟩, y6.trans (BSG hij q)⟩, ef⟩, λ z ⟨⟨⟨z1, z2', z3⟩, ⟨z4, z5⟩, z6⟩, _⟩ => ⟨⟨⟨z.i, z.j, z.l⟩, ⟨rfl, rfl, λ _ _ => rfl⟩, ⟨⟨⟨z1, z2', z3⟩, ⟨z4, z5⟩, z6⟩, ef⟩, Nat.le_refl _⟩, λ w ⟨⟨⟨⟨w1, w2, w3⟩, ⟨w4, w5⟩, w6⟩, _⟩, w7⟩ => ⟨gd (λ h => by omega) w4 w5, λ hc => ?_, λ hc => ⟨?_, λ v ⟨⟨⟨⟨v1, v2, v3⟩, ⟨v4, v5⟩, v6⟩, _⟩, v7, v8⟩ => ⟨gd (λ h => by omega) v4 v5, λ hd => ?_, λ hd => ⟨λ hij => ?_, λ hij => ?_⟩⟩⟩⟩⟩⟩
  ·have q := (cUw (a := a.v) hab (by omega)).1 hc
   exact ⟨⟨w.i + 1, w.j, w.l⟩, ⟨wi (by omega), rfl, λ _ _ => rfl⟩, ⟨⟨⟨⟨Nat.succ_pos _, w2, by show w.i + 1 <= w.j + 1; omega⟩, ⟨w4, w5⟩, w6.trans (BSQ q.1 q.2)⟩, ef⟩, by show w.j + 1 - (w.i + 1) <= _; omega⟩, by show w.j + 1 - (w.i + 1) < _; omega⟩
  ·have q := λ h => no_t hc ((cUw (a := a.v) hab (by omega)).2 h)
   exact ⟨⟨w.i, w.j, w.l⟩, ⟨rfl, rfl, λ _ _ => rfl⟩, ⟨⟨⟨w1, w2, w3⟩, ⟨w4, w5⟩, w6.trans (AZY q)⟩, ef⟩, λ h1 h2 => q ⟨h1, h2⟩, w7⟩
  ·have q := (cDw (a := a.v) hab (by omega)).1 hd
   exact ⟨⟨v.i, v.j - 1, v.l⟩, ⟨rfl, wj (by omega) v2, λ _ _ => rfl⟩, ⟨⟨⟨⟨v1, by show v.j - 1 < _; omega, by show v.i <= v.j - 1 + 1; omega⟩, ⟨v4, v5⟩, v6.trans (BST (by omega) q.1 q.2)⟩, ef⟩, λ h => v7 q.1, by show v.j - 1 + 1 - v.i <= _; omega⟩, by show v.j - 1 < _; omega⟩
  ·have e := v6.trans (BEI (show v.i > v.j by omega))
   obtain ⟨f1, f2⟩ := BKV hab e v4 v2
   exact ⟨rz v2, f1, ef, f2⟩
  ·have hij : ¬v.i > v.j := by omega
   have q := λ h => no_t hd ((cDw (a := a.v) hab (by omega)).2 h)
   have l1 := BSN hij v7 q
   have lp := Wo (l := v.l) (i := v.i) (j := v.j) (by omega) (by omega)
   exact ⟨rg v2 (by omega), ⟨v.i + 1, v.j - 1, sw2 v.l v.i v.j⟩, ⟨wi (by omega), wj (by omega) v2, λ i hi => nJ hab v4 (by omega) (by omega) hi⟩, ⟨⟨⟨Nat.succ_pos _, by show v.j - 1 < _; omega, by show v.i + 1 <= v.j - 1 + 1; omega⟩, ⟨(Sp _ _ _).trans v4, xB lp v5⟩, v6.trans (BSG hij q)⟩, ef⟩, by show v.j - 1 + 1 - (v.i + 1) < _; omega⟩
theorem BWS : AK Try.prog APB (C_ptn.spec dGp) := VV C_ptn BSS [] [] BKD (λ _ => by kernel_rfl) (λ _ => AA AFA AC) (λ (a : Gp) h => by
 obtain ⟨hp, h2⟩ : ((a.v.a : Int) <= a.p /\ a.p < a.v.b) /\ gnP a.v := h
 exact BZQ a hp h2) (λ _ => WY rfl rfl) _
theorem BYZ : AK Try.prog Vd uJ := Ki wG AXY λ x h => Pn (A := ann 25 []) (ren := []) (fz := []) AIU (by kernel_rfl) AC (by
 have h : 13 <= x /\ x <= 20 := h
 show V_lB x; rw [BZL]; delta Q0 AVM AXC AOS AHG APJ AVB AVY AFZ AUG AMU z_lB_11 z_lB_12 wY AOT AMS AMY Y8 APN AQB AMP ANO AQA; simp only [CC, eq_self, implies_true, forall_const]
 refine ⟨λ h => by omega, λ _ => ⟨λ h => by omega, λ _ => ⟨λ h => by omega, λ _ => ⟨BTZ _, ?_⟩⟩⟩⟩
 obtain ⟨n, rfl⟩ : ∃ n : Nat, x = (n : Int) := ⟨x.toNat, by omega⟩
 have : n = 13 ∨ n = 14 ∨ n = 15 ∨ n = 16 ∨ n = 17 ∨ n = 18 ∨ n = 19 ∨ n = 20 := by omega
 rcases this with e | e | e | e | e | e | e | e <;> subst e <;> decide +kernel)
theorem AYW : AK Try.prog lK uJ := Ki wG AXY λ x h => Pn (A := ann 8 [(Vd, uJ)]) (ren := []) (fz := []) BAP (by kernel_rfl) (AA BYZ AC) (by
 show BKH x; rw [BPQ]<;> delta AS FY AE BC Gi; exact ⟨h, rfl⟩)
theorem BYI : AK Try.prog AWG (C_xor.spec BQP) := VV C_xor (λ _ => BSL) [] [] BLP (λ _ => by kernel_rfl) (λ _ => AC) (λ (r : Int) _ => by
 show BSY r; rw [BXT]<;> delta MM AS BE FY EP Bu Om xW AD AG qS BX PF VO Wh gB Cd Bb Dp eK
 exact ⟨by decide, by decide, by decide, rfl, rfl⟩) (λ _ => WY rfl rfl) _
theorem BXD (x : Int) : 0 <= yE x /\ yE x <= 64 := by
 unfold yE; cases decide (x < 16) <;> decide
theorem BXV : AK Try.prog F5 BTT := Ki xI1 hI1 λ x h => Pn (A := ann 7 [(lK, uJ)]) (ren := []) (fz := []) AVA (by kernel_rfl) (AA AYW AC) (by
 have h : 13 <= x /\ x <= 20 := h
 show BSH x; rw [BWL]<;> delta MM AS FY EP Bu Om xW AD BX CE VO Bb Gi eK
 rw [show IntKind.u64.wrap x = x from u64w (by omega) (by omega)]
 exact ⟨⟨h, BXD x⟩, rfl⟩)
theorem CAH {n k : Nat} (h1 : 13 <= n) (h2 : n <= 20) (hk : k < 3) {A : Nat} (hA : A < 1073741824) : (otR n k >= (n : Int) -> IntKind.i64.wrap ((A : Int) + IntKind.i64.wrap (otR n k - (n : Int))) = ((A + (otK n k).toNat : Nat) : Int)) /\ (¬otR n k >= (n : Int) -> IntKind.i64.wrap ((A : Int) + otR n k) = ((A + (otK n k).toNat : Nat) : Int)) := by
 obtain ⟨a1, a2⟩ := AUF h1 h2 hk
 constructor
 ·intro h
  have e : otK n k = IntKind.i64.wrap (otR n k - (n : Int)) := by unfold otK; rw [decide_eq_true h]; rfl
  rw [<- e]
  exact (TC (by omega) (by omega)).trans (by omega)
 ·intro h
  have e : otK n k = otR n k := by unfold otK; rw [decide_eq_false h]; rfl
  rw [<- e]
  exact (TC (by omega) (by omega)).trans (by omega)
theorem CBK (a : Gn) (h : gnP a) : BQN a := by
 have w1 := AWE h
 obtain ⟨h1, h0, h2⟩ := h
 have hab : a.a <= a.b /\ a.b <= a.l.length := by omega
 have ml : (NF a).length = a.b - a.a := Kg hab.1 hab.2
 have e00 : YN a (NF a) = a.l := vU hab.1 hab.2
 have w2 : IntKind.i64.wrap (((a.b - a.a : Nat) : Int).tdiv 4) = (((a.b - a.a) / 4 : Nat) : Int) := BHB (by omega)
 have w3 : IntKind.i64.wrap ((a.a : Int) + IntKind.i64.wrap ((((a.b - a.a) / 4 : Nat) : Int) * 2)) = ((a.a + (a.b - a.a) / 4 * 2 : Nat) : Int) := by
  have e2 : (((a.b - a.a) / 4 : Nat) : Int) * 2 = (((a.b - a.a) / 4 * 2 : Nat) : Int) := by omega
  rw [e2, show IntKind.i64.wrap (((a.b - a.a) / 4 * 2 : Nat) : Int) = (((a.b - a.a) / 4 * 2 : Nat) : Int) from TC (by omega) (by omega)]
  exact (TC (by omega) (by omega)).trans (by omega)
 have w4 : IntKind.i64.wrap (((a.a + (a.b - a.a) / 4 * 2 : Nat) : Int) + 1) = ((a.a + (a.b - a.a) / 4 * 2 + 1 : Nat) : Int) := HL (by omega)
 have w5 : IntKind.i64.wrap (((a.a + (a.b - a.a) / 4 * 2 : Nat) : Int) - 1) = ((a.a + bkI (a.b - a.a) 0 : Nat) : Int) := (TC (by omega) (by omega)).trans (by unfold bkI; omega)
 have u1 : IntKind.u64.wrap ((a.b - a.a : Nat) : Int) = ((a.b - a.a : Nat) : Int) := u64w (by omega) (by omega)
 rw [BWQ]<;> delta jA hd7 BI BF EN MM ON Ep EB EA BY AF CN CO AS BE XB EC FY MN NT LS ET GW FK HV IB HK GV FU HC DV FW EY HA EP RX KG GZ Ai CJ DN cQ Bu Om IZ Bp Hk EF AD CI AU AG AZ AX AE BM Ow AW BL BD AO AR DD BA BK CX HI BW BV AJ AQ AV FC CK AN AL GH HG FX FQ AM HE DK ID DR GO CM BX CG DO BC HS DX HH CE PM LA LZ KO HQ DZ AT Fe JB ED BR Wz EO QR YQ PF LG FS QP SX MU MW EX RV iJ SY Sl Wi VO HF MQ EI LV Hf DI JX QM kP Ew IQ GG GM LP ADV DG Vp KM vL R8 RE G0 ADP AII Zu QI KQ HU Hg YZ RS Zg Al Gj Bv Cf Ku Ej Eg VE Qu Re Kk Mu Jf WL Gi; simp only [CC, eq_self, implies_true, forall_const, CL]
 rw [w1, w2, w3, w4, w5]
 have bk : ∀ k, k <= 3 -> (bkK (a.b - a.a) (NF a) k).length = a.b - a.a := λ k hk => (ADH ml (by omega) (by omega) k hk).length_eq.trans ml
 have rg : ∀ {i j : Nat}, i < a.b - a.a -> j < a.b - a.a -> ((0 : Int) <= ((a.a + j : Nat) : Int) /\ ((a.a + j : Nat) : Int) < a.l.length) /\ a.a + j < a.l.length /\ ((0 : Int) <= ((a.a + i : Nat) : Int) /\ ((a.a + i : Nat) : Int) < a.l.length) /\ a.a + i < a.l.length /\ ((0 : Int) <= ((a.a + i : Nat) : Int) /\ ((a.a + i : Nat) : Int) < a.l.length) /\ a.a + i < a.l.length /\ ((0 : Int) <= ((a.a + j : Nat) : Int) /\ ((a.a + j : Nat) : Int) < a.l.length) /\ a.a + j < a.l.length := λ h1 h2 => ⟨⟨by omega, by omega⟩, by omega, ⟨by omega, by omega⟩, by omega, ⟨by omega, by omega⟩, by omega, ⟨by omega, by omega⟩, by omega⟩
 refine ⟨λ _ => ?_, λ h => absurd (show ((a.b - a.a : Nat) : Int) >= 8 by omega) h⟩
 refine ⟨⟨by omega, by omega⟩, λ h => (by cases h), ⟨0, ⟨rfl, rfl, rfl, λ i hi => by show gD (YN a (NF a)) i = _; rw [e00], rfl⟩, Nat.zero_le _⟩, λ k hk => ⟨λ h => (by cases h), λ hlt => ?_, λ hge => ?_⟩⟩
 ·have hk3 : k < 3 := by unfold bkI at hlt; omega
  have ot : IntKind.i64.wrap (andI IntKind.u64 (xsN (xsK (a.b - a.a) k)) (IntKind.u64.wrap (mdI ((a.b - a.a : Nat) : Int) - 1))) = otR (a.b - a.a) k := rfl
  rw [ot]
  obtain ⟨v1, v2⟩ := CAH (n := a.b - a.a) (k := k) (by omega) (by omega) hk3 (A := a.a) (by omega)
  have oi := (AUF (n := a.b - a.a) (k := k) (by omega) (by omega) hk3).2
  have bi : bkI (a.b - a.a) k < a.b - a.a := by unfold bkI; omega
  have ln := bk k hk
  have bs : ((a.a + bkI (a.b - a.a) (k + 1) : Nat) : Int) = IntKind.i64.wrap (((a.a + bkI (a.b - a.a) k : Nat) : Int) + 1) := (HL (a := a.a + bkI (a.b - a.a) k) (by omega)).symm
  refine ⟨λ hc => ?_, λ hc => ?_⟩
  ·rw [v1 hc]
   simp only [Int.toNat_natCast]
   exact ⟨rg bi (by omega), k + 1, ⟨bs, λ i hi => nJ hab ln (by omega) (by omega) hi, rfl⟩, by omega, by omega⟩
  ·rw [v2 hc]
   simp only [Int.toNat_natCast]
   exact ⟨rg bi (by omega), k + 1, ⟨bs, λ i hi => nJ hab ln (by omega) (by omega) hi, rfl⟩, by omega, by omega⟩
 ·obtain rfl : k = 3 := by unfold bkI at hge; omega
  exact λ _ _ => rfl
theorem BVH : AK Try.prog AEO (C_brk.spec dGn) := VV C_brk BUB [] [] BBU (λ _ => by kernel_rfl) (λ _ => AA BXV (AA BYI AC)) (λ (a : Gn) h => CBK a h) (λ _ => WY rfl rfl) _
end Go.Bal
