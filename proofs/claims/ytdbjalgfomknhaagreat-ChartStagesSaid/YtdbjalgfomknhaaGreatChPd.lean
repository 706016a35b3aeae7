/- Package chart: the order of 13 and 14 notes. -/
import Derived.Test.YtdbjalgfomknhaaGreatChPd0
set_option linter.unusedVariables false
set_option linter.unusedSimpArgs false
namespace Go.Bal
open Go Go.Sym Go.Proofs
structure Gn where
 g : Cht
 l : List Int
 a : Nat
 b : Nat
def gnK (a : Gn) (l : List Int) : List (Nat × HCell) := [(100, .live (ACJ a.l.length l)), (101, .live (bxG a.g))]
def gnL (a : Gn) : List (Nat × AObj) := [(100, rowI a.l), (101, bxG a.g)]
def kL (g : Cht) (l : List Int) : Prop := ∀ i, i < l.length -> 0 <= gD l i /\ gD l i < g.ns.length
def gnOk (a : Gn) : Prop := a.l.length < 1073741824 /\ ∀ i, i < a.l.length -> 0 <= gD a.l i /\ gD a.l i < a.g.ns.length
def whG (a : Gn) (m : List Int) : List Int := wh (a.l.take a.a) m (a.l.drop a.b)
def dGn : List AVal -> Heap -> Option (Gn × List (Nat × Nat) × List Nat)
 | [.own id _ _ n, .d x, .d y, .fn (.func f) [] [.bptr c _]], H => if f = VS then match H id, Em H c with
  | .live (.row _ m r), some q => some (⟨q, QR n λ i => HM (r i), (HM x).toNat, (HM y).toNat⟩, [(100, id), (101, c)], [])
  | _, _ => none else none
 | _, _ => none
def C_insS : Ctr := { ro := [101], α := Gn, xs := λ a => [.own 100 1 0 a.l.length, .int a.a, .int a.b, iL], L := gnL, val := λ _ => .d (.tup []), keep := λ a => gnK a (K9 (KT a.g) a.a a.b a.l), pre := λ a => [(a.a <= a.b /\ a.b <= a.l.length) /\ gnOk a] }
def insI (a : Gn) (m : List Int) : Prop := m.length = a.b - a.a /\ ∀ i, i < a.b - a.a -> 0 <= gD m i /\ gD m i < a.g.ns.length
def BQY (a : Gn) : Shape := { α := IL2, dflt := default, T := λ x => ⟨[(0, .own 100 1 0 a.l.length), (1, .int a.a), (2, .int a.b), (3, iL), (8, .int ((a.a + x.i : Nat) : Int))], gnK a (whG a x.l)⟩, inv := λ x => 1 <= x.i /\ (x.i <= a.b - a.a ∨ x.i = 1) /\ insI a x.l /\ jI (KT a.g) (M4 a.a a.b a.l) = stR (KT a.g) (a.b - a.a - x.i) x.i x.l, meas := λ x => a.b - a.a - x.i }
def BRC (a : Gn) (m : Nat) : Shape := { α := IJL, dflt := default, T := λ x => ⟨[(0, .own 100 1 0 a.l.length), (1, .int a.a), (2, .int a.b), (3, iL), (8, .int ((a.a + x.i : Nat) : Int)), (9, .int ((a.a + x.j : Nat) : Int))], gnK a (whG a x.l)⟩, inv := λ x => a.b - a.a - x.i = m /\ 1 <= x.i /\ x.i < a.b - a.a /\ x.j <= x.i /\ insI a x.l /\ jI (KT a.g) (M4 a.a a.b a.l) = stR (KT a.g) (a.b - a.a - (x.i + 1)) (x.i + 1) (uT (KT a.g) x.j x.l), meas := λ x => x.j }
def AUW (a : Gn) : Ann := { ann 53 [(VS, C_fw1.spec dGAB)] with E := [100, 101], loops := λ id => if id = 1 then some [BQY a] else none, inner := λ gs id => if id = 4 then some [BRC a (gs.getD 0 0)] else none }
def BAC (a : Gn) : Prop := CL Try.prog (AUW a) W3 (AH W3) (C_insS.xs a) (AB (C_insS.L a)) (C_insS.val a) (C_insS.keep a) [] []
abbrev TQ:=Gn.l
abbrev Ks:=Gn.a
abbrev Ob:=Gn.b
abbrev WX:=IL2.i
abbrev Vf:=IL2.l
abbrev LN:=Gn.g
abbrev Ww:=@Eq (List Int)
abbrev Im:=IJL.i
abbrev iY:=IJL.j
abbrev gY:=IJL.l
abbrev Zi a:=FO (LN a)
abbrev XD a:=XE (LN a)
abbrev Yh a:=Bf (TQ a)
abbrev RO a:=JV (Ob a) (Ks a)
abbrev Vu a b:=JV (RO a) b
abbrev Jm a b (c:Nat->Prop):=MU (HH a b) c
abbrev Qq a b c d e:=BS a b (DC c) (DW d e)
abbrev Wh a b c d:=Qq a b c c d
abbrev iX a:=AO (LN a)
abbrev Gj a b c d e (f:Nat->Prop) g:=HP a b c d e b (AC f) g
abbrev X7 a b:=whG a (gY b)
abbrev Mq a b c:=BQ (X7 a b) c
abbrev hU a b:=QT (Ks a) b
abbrev fA a:=BW (Ob a)
abbrev fQ a:=BW (Ks a)
abbrev kV a:=FK (Im a)
abbrev Fu a b:=hU a (iY b)
abbrev Fd a b:=VW (Fu a b)
abbrev eQ a b:=BB (Fu a b)
abbrev Zb a:=BV (TQ a)
abbrev Zu a:=BU (Ks a)
abbrev UK a b c (d:Nat->Prop) e f g:=JA a b (KI a) c d e f g
attribute [go_sem] TQ Ks Ob WX Vf LN Ww Im iY gY Zi XD Yh RO Vu Jm Qq Wh iX Gj X7 Mq hU fA fQ kV Fu Fd eQ Zb Zu UK
theorem BDI (a : Gn) : (BAC a) = (And ((@Exists IL2) (λ i=>AG (Gj AI (Yh a) (fQ a) (fA a) (BH (hU a (WX i)) (Ks a)) (λ j=>MD j (TQ a) (whG a (Vf i)) j (BQ (TQ a) j)) (Zi a)) (TR (WX i)) (Or (DH (WX i) (RO a)) (NN (WX i))) (Jm (Vf i) (RO a) (λ j=>Wh j (RO a) (BQ (Vf i) j) (iX a))) (Ww (jI (XD a) (M4 (Ks a) (Ob a) (TQ a))) (stR (XD a) (Vu a (WX i)) (WX i) (Vf i))))) ((λ (f : IL2 -> Prop) => ∀ (x : IL2), f x) (λ i=>CO (AN (TR (WX i)) (Or (DH (WX i) (RO a)) (NN (WX i))) (Jm (Vf i) (RO a) (λ j=>Wh j (RO a) (BQ (Vf i) j) (iX a))) (Ww (jI (XD a) (M4 (Ks a) (Ob a) (TQ a))) (stR (XD a) (Vu a (WX i)) (WX i) (Vf i)))) (hU a (WX i)) (Ob a) ((@Exists IJL) (λ j=>CI (Tu AI (Yh a) (fQ a) (fA a) (IN (hU a (Im j)) (hU a (WX i))) (IN (Fu a j) (hU a (WX i))) (AC (λ k=>MD k (TQ a) (X7 a j) k (BQ (whG a (Vf i)) k))) (Zi a)) (Iq (Vu a (Im j)) (RO a) (WX i)) (TR (Im j)) (CM (Im j) (RO a)) (DH (iY j) (Im j)) (Jm (gY j) (RO a) (λ k=>Wh k (RO a) (BQ (gY j) k) (iX a))) (Ww (jI (XD a) (M4 (Ks a) (Ob a) (TQ a))) (stR (XD a) (Vu a (kV j)) (kV j) (uT (XD a) (iY j) (gY j)))))) ((λ (f : IJL -> Prop) => ∀ (x : IJL), f x) (λ j=>BX (CW (Iq (Vu a (Im j)) (RO a) (WX i)) (TR (Im j)) (CM (Im j) (RO a)) (DH (iY j) (Im j)) (Jm (gY j) (RO a) (λ k=>Wh k (RO a) (BQ (gY j) k) (iX a))) (Ww (jI (XD a) (M4 (Ks a) (Ob a) (TQ a))) (stR (XD a) (Vu a (kV j)) (kV j) (uT (XD a) (iY j) (gY j))))) (And (AG (HL (OT (Fu a j) (Zu a)) (XS (Fu a j) (TQ a))) (HL (OT (Fu a j) (Zu a)) (ME (eQ a j) (Zb a))) (UJ (OT (Fu a j) (Zu a)) (Fd a j) (Zb a)) (HL (OT (Fu a j) (Zu a)) (PE (Fd a j) (Zb a))) (HL (OT (Fu a j) (Zu a)) (CI (AF (Mq a j (eQ a j))) (AF (Mq a j (MH (Fd a j)))) (AM (LN a)) (AL (LN a)) (AP (LN a)) (AS (LN a)) (PZ (LN a) (BM (LN a)) (λ k=>AZ k (LN a)) (BK (LN a)) (JB (LN a)) (AM (LN a)) (AL (LN a)) (AP (LN a)) (UK (LN a) (CA (LN a)) (BZ (LN a)) (λ k=>CP k (LN a)) (DQ (Mq a j (eQ a j)) (FS (LN a))) (DC (Mq a j (MH (Fd a j)))) (DW (Mq a j (MH (Fd a j))) (FS (LN a)))))))) (DV (GH (OT (Fu a j) (Zu a)) (IP (Ot (XE (EH (LN a)) (Mq a j (eQ a j))) (XE (EH (LN a)) (Mq a j (MH (Fd a j))))) 0)) (AN (DQ (Fd a j) (Zb a)) (CM (MH (Fd a j)) (Zb a)) (XS (Fu a j) (TQ a)) (bE (CM (eQ a j) (Zb a)) (XS (Fu a j) (TQ a)) (DQ (Fd a j) (Zb a)) (PE (Fd a j) (Zb a)))) ((@Exists IJL) (λ k=>JG (Tu AI (Yh a) (fQ a) (fA a) (IN (hU a (Im k)) (hU a (Im j))) (FL (Fu a k) (Fd a j)) (AC (λ l=>MD l (TQ a) (X7 a k) l (KN l (Fd a j) (Mq a j (eQ a j)) (WZ l (eQ a j) (Mq a j (MH (Fd a j))) (Mq a j l))))) (Zi a)) (CW (Iq (Vu a (Im k)) (RO a) (WX i)) (TR (Im k)) (CM (Im k) (RO a)) (DH (iY k) (Im k)) (Jm (gY k) (RO a) (λ l=>Wh l (RO a) (BQ (gY k) l) (iX a))) (Ww (jI (XD a) (M4 (Ks a) (Ob a) (TQ a))) (stR (XD a) (Vu a (kV k)) (kV k) (uT (XD a) (iY k) (gY k))))) (iY k) (iY j))) ((@Exists IL2) (λ k=>DU (Gj AI (Yh a) (fQ a) (fA a) (BH (hU a (WX k)) (hU a (Im j))) (λ l=>MD l (TQ a) (whG a (Vf k)) l (Mq a j l)) (Zi a)) (AN (TR (WX k)) (Or (DH (WX k) (RO a)) (NN (WX k))) (Jm (Vf k) (RO a) (λ l=>Wh l (RO a) (BQ (Vf k) l) (iX a))) (Ww (jI (XD a) (M4 (Ks a) (Ob a) (TQ a))) (stR (XD a) (Vu a (WX k)) (WX k) (Vf k)))) (RO a) (WX k) (WX i))))))) (AE (Yh a) (AC (λ j=>MD j (TQ a) (K9 (XD a) (Ks a) (Ob a) (TQ a)) j (BQ (whG a (Vf i)) j))) (Zi a))))) := by kernel_rfl
def dGnp : List AVal -> Heap -> Option (Gn × List (Nat × Nat) × List Nat)
 | [.own id _ _ n, .d x, .d y, _, .fn (.func f) [] [.bptr c _]], H => if f = VS then match H id, Em H c with
  | .live (.row _ m r), some q => some (⟨q, QR n λ i => HM (r i), (HM x).toNat, (HM y).toNat⟩, [(100, id), (101, c)], [])
  | _, _ => none else none
 | _, _ => none
def C_pdqS : Ctr := { ro := [101], α := Gn, xs := λ a => [.own 100 1 0 a.l.length, .int a.a, .int a.b, .any, iL], L := gnL, val := λ _ => .d (.tup []), keep := λ a => gnK a (K9 (KT a.g) a.a a.b a.l), pre := λ a => [(a.a <= a.b /\ a.b <= a.l.length /\ a.b <= a.a + 12) /\ gnOk a] }
def pq2S (a : Gn) : Shape := { α := One, dflt := default, T := λ _ => ⟨[(0, .own 100 1 0 a.l.length), (1, .int a.a), (2, .int a.b), (3, .any), (4, iL), (10, .bool true), (11, .bool true)], gnK a a.l⟩, inv := λ _ => True, meas := λ _ => 0 }
def AXR (a : Gn) : Ann := { ann 148 [(vZ, C_insS.spec dGn)] with E := [100, 101], loops := λ id => if id = 2 then some [pq2S a] else none, cutIn := λ gs id => if id = 5 then some [] else none }
def AVT (a : Gn) : Prop := CL Try.prog (AXR a) O0 (AH O0) (C_pdqS.xs a) (AB (C_pdqS.L a)) (C_pdqS.val a) (C_pdqS.keep a) [] []
abbrev VL a b (c:Nat->Prop) d:=AN a b (AC c) d
abbrev kK a b:=UR a (λ i=>BQ b i)
abbrev Sq a:=kK a a
abbrev Zk a:=Sq (TQ a)
abbrev Rj a:=XE (EH a)
abbrev Ff a b:=AE AI a b
abbrev Ub a b c d:=Qq a (BV b) c c d
abbrev TN a b c d:=Ub a b (BQ b c) (FS d)
abbrev Sx a:=OB (BV a)
abbrev Ly a b c d:=GZ a b (BQ c d)
abbrev ZT a b c:=Ly a b c a
abbrev PI a b:=AC (λ i=>ZT i a b)
abbrev Mb a b:=KU (BU a) b
attribute [go_sem] VL kK Sq Zk Rj Ff Ub TN Sx Ly ZT PI Mb
theorem BGG (a : Gn) : (AVT a) = (Ah (LZ (aR AI (Yh a) (fQ a) (fA a) HF (Yh a) (AC (λ i=>VG i (TQ a) (BQ (TQ a) i))) (Zi a))) (TV (DX (hd7 (Mb (Ob a) (Zu a)) 12) (VL (Ff (EK (Zk a) (TQ a)) (AR (fQ a) (fA a) (EK (Zk a) (TQ a)) (PI (Zk a) (TQ a)) (AM (LN a)) (AL (LN a)) (AP (LN a)) (AS (LN a)) (PZ (LN a) (BM (LN a)) (λ i=>AZ i (LN a)) (BK (LN a)) (JB (LN a)) (AM (LN a)) (AL (LN a)) (AP (LN a)) (UK (LN a) (CA (LN a)) (BZ (LN a)) (λ i=>CP i (LN a)) (Gh (Ks a) (Ob a) (BV (Zk a))) (Sx (Zk a)) (AC (λ i=>TN i (Zk a) i (LN a))))))) (EK (TQ a) (Zk a)) (λ i=>MD i (TQ a) (K9 (XD a) (Ks a) (Ob a) (TQ a)) i (BQ (K9 (Rj (LN a)) (Ks a) (Ob a) (Zk a)) i)) (Zi a)) NG))) := by kernel_rfl
structure O2 where
 g : Cht
 l : List Int
 a : Int
 b : Int
 s : Int
def o2K (g : Cht) (l : List Int) (s : Int) : List (Nat × HCell) := [(100, .live (rowI l)), (101, .live (bxG g)), (102, .live (.box [.int s]))]
def o2Lh (g : Cht) (l : List Int) (s : Int) : List (Nat × AObj) := [(100, rowI l), (101, bxG g), (102, .box [.int s])]
def dO2 : List AVal -> Heap -> Option (O2 × List (Nat × Nat) × List Nat)
 | [.own id _ _ n, .d x, .d y, .bptr s _, .fn (.func f) [] [.bptr c _]], H => if f = VS then match H id, H s, Em H c with
  | .live (.row _ m r), .live (.box [.d (.v (.int _ v))]), some q => some (⟨q, QR n λ i => HM (r i), HM x, HM y, v⟩, [(100, id), (101, c), (102, s)], [])
  | _, _, _ => none else none
 | _, _ => none
def C_o2 : Ctr := { ro := [100, 101], α := O2, xs := λ a => [.own 100 1 0 a.l.length, .int a.a, .int a.b, .bptr 102 0, iL], L := λ a => o2Lh a.g a.l a.s, val := λ a => .tup [.int (o2A (KT a.g) a.l a.a a.b), .int (o2B (KT a.g) a.l a.a a.b)], keep := λ a => o2K a.g a.l (o2S (KT a.g) a.l a.a a.b a.s), pre := λ a => [((0 <= a.a /\ a.a < a.l.length) /\ 0 <= a.b /\ a.b < a.l.length) /\ kL a.g a.l] }
def A_o2 : Ann := { ann 32 [(VS, C_fw1.spec dGAB)] with E := [100, 101, 102] }
def V_o2 (a : O2) : Prop := CL Try.prog A_o2 Q3 (AH Q3) (C_o2.xs a) (AB (C_o2.L a)) (C_o2.val a) (C_o2.keep a) [] []
abbrev AMJ (a : O2) : Nat := 0 + a.b.toNat
abbrev ALO (a : O2) : Nat := 0 + a.a.toNat
abbrev zZ (a : O2) : Int := gD a.l (AMJ a)
abbrev wW (a : O2) : Int := gD a.l (ALO a)
abbrev S3 (a : O2) : Prop := a.g.p.lo = a.g.p.lo
abbrev U4 (a : O2) : Prop := a.g.p.hi = a.g.p.hi
abbrev AHA (a : O2) : List Mk := QR a.g.ms.length λ (i : Nat) => gD a.g.ms i
abbrev ADZ (a : O2) : Nat := (AHA a).length
abbrev AOT (a : O2) (i : Nat) : Mk := gD (AHA a) i
abbrev AOP (a : O2) (i : Nat) : Int := (AOT a i).pl
abbrev AEC (a : O2) (i : Nat) : Int := (AOT a i).ht
abbrev L9 (a : O2) : List Nt := QR a.g.ns.length λ (i : Nat) => gD a.g.ns i
abbrev nU (a : O2) : Nat := (L9 a).length
abbrev L7 (a : O2) (i : Nat) : Nt := gD (L9 a) i
abbrev AHH (a : O2) (i : Nat) : Int := (L7 a i).mi
abbrev AHE (a : O2) (i : Nat) : Span := (L7 a i).t
abbrev AEA (a : O2) (i : Nat) : Int := (AHE a i).lo
abbrev AGR (a : O2) (i : Nat) : Int := (AHE a i).hi
abbrev AHD (a : O2) (i : Nat) : Span := (L7 a i).s
abbrev AIK (a : O2) (i : Nat) : Int := (AHD a i).lo
abbrev AGV (a : O2) (i : Nat) : Int := (AHD a i).hi
abbrev AHR (a : O2) : Cht := Cht.mk a.g.p a.g.base a.g.scale a.g.off (AHA a) (L9 a)
abbrev AHF (a : O2) : Int := o2A (KT a.g) a.l a.a a.b
abbrev AED (a : O2) : Int := o2B (KT a.g) a.l a.a a.b
abbrev AIO (a : O2) : Prop := a.l.length = a.l.length
abbrev AFK (a : O2) : Prop := ∀ (i : Nat), i < a.l.length -> gD a.l i = gD a.l i
abbrev AET (a : O2) : Prop := a.g.ms.length = a.g.ms.length
abbrev AII (a : O2) : Prop := ∀ (i : Nat), i < a.g.ms.length -> (gD a.g.ms i).pl = (gD a.g.ms i).pl /\ (gD a.g.ms i).ht = (gD a.g.ms i).ht
abbrev AEO (a : O2) : Prop := a.g.ns.length = a.g.ns.length
abbrev ADX (a : O2) : Prop := ∀ (i : Nat), i < a.g.ns.length -> (gD a.g.ns i).mi = (gD a.g.ns i).mi /\ (gD a.g.ns i).t.lo = (gD a.g.ns i).t.lo /\ (gD a.g.ns i).t.hi = (gD a.g.ns i).t.hi /\ (gD a.g.ns i).s.lo = (gD a.g.ns
 i).s.lo /\ (gD a.g.ns i).s.hi = (gD a.g.ns i).s.hi
abbrev AGU (a : O2) : Int := o2S (KT a.g) a.l a.a a.b a.s
theorem BRP (a : O2) : (V_o2 a) = (((0 <= a.b /\ a.b < (↑a.l.length : Int)) /\ AMJ a < a.l.length /\ (0 <= a.a /\ a.a < (↑a.l.length : Int)) /\ ALO a < a.l.length /\ zZ a = zZ a /\ wW a = wW a /\ S3 a /\
 U4 a /\ a.g.base = a.g.base /\ a.g.scale = a.g.scale /\ a.g.off = a.g.off /\ ADZ a = a.g.ms.length /\ (∀ (i : Nat), i < ADZ a -> AOP a i = (gD a.g.ms i).pl /\ AEC a i = (gD a.g.ms i).ht) /\ nU a =
 a.g.ns.length /\ (∀ (i : Nat), i < nU a -> AHH a i = (gD a.g.ns i).mi /\ AEA a i = (gD a.g.ns i).t.lo /\ AGR a i = (gD a.g.ns i).t.hi /\ AIK a i = (gD a.g.ns i).s.lo /\ AGV a i = (gD a.g.ns i).s.hi) /\
 S3 a /\ U4 a /\ a.g.base = a.g.base /\ a.g.scale = a.g.scale /\ a.g.off = a.g.off /\ a.g.ms.length = ADZ a /\ (∀ (i : Nat), i < a.g.ms.length -> (gD a.g.ms i).pl = AOP a i /\ (gD a.g.ms i).ht = AEC a i) /\
 a.g.ns.length = nU a /\ (∀ (i : Nat), i < a.g.ns.length -> (gD a.g.ns i).mi = AHH a i /\ (gD a.g.ns i).t.lo = AEA a i /\ (gD a.g.ns i).t.hi = AGR a i /\ (gD a.g.ns i).s.lo = AIK a i /\ (gD a.g.ns i).s.hi =
 AGV a i) /\ (0 <= zZ a /\ zZ a < (↑(nU a) : Int)) /\ 0 <= wW a /\ wW a < (↑(nU a) : Int)) /\ bif decide (iE (KT (AHR a) (zZ a)) (KT (AHR a) (wW a)) < 0) then AHF a = a.b /\
 AED a = a.a /\ AIO a /\ AFK a /\ S3 a /\ U4 a /\ a.g.base = a.g.base /\ a.g.scale = a.g.scale /\ a.g.off = a.g.off /\ AET a /\ AII a /\ AEO a /\ ADX a /\ AGU a = IntKind.i64.wrap (a.s + 1)
 else AHF a = a.a /\ AED a = a.b /\ AIO a /\ AFK a /\ S3 a /\ U4 a /\ a.g.base = a.g.base /\ a.g.scale = a.g.scale /\ a.g.off = a.g.off /\ AET a /\ AII a /\ AEO a /\ ADX a /\ AGU a = a.s) :=
 by kernel_rfl
structure Md where
 g : Cht
 l : List Int
 a : Int
 b : Int
 c : Int
 s : Int
def dMd : List AVal -> Heap -> Option (Md × List (Nat × Nat) × List Nat)
 | [.own id _ _ n, .d x, .d y, .d z, .bptr s _, .fn (.func f) [] [.bptr c _]], H => if f = VS then match H id, H s, Em H c with
  | .live (.row _ m r), .live (.box [.d (.v (.int _ v))]), some q => some (⟨q, QR n λ i => HM (r i), HM x, HM y, HM z, v⟩, [(100, id), (101, c), (102, s)], [])
  | _, _, _ => none else none
 | _, _ => none
def C_md : Ctr := { ro := [100, 101], α := Md, xs := λ a => [.own 100 1 0 a.l.length, .int a.a, .int a.b, .int a.c, .bptr 102 0, iL], L := λ a => o2Lh a.g a.l a.s, val := λ a => .int (mnM (KT a.g) a.l a.a a.b a.c), keep := λ a => o2K a.g a.l (mnS (KT a.g) a.l a.a a.b a.c a.s), pre := λ a => [((0 <= a.a /\ a.a < a.l.length) /\ (0 <= a.b /\ a.b < a.l.length) /\ 0 <= a.c /\ a.c < a.l.length) /\ kL a.g a.l] }
def A_md : Ann := { ann 41 [(Y8, C_o2.spec dO2)] with E := [100, 101, 102] }
def V_md (a : Md) : Prop := CL Try.prog A_md Q4 (AH Q4) (C_md.xs a) (AB (C_md.L a)) (C_md.val a) (C_md.keep a) [] []
abbrev Bx:=Md.l
abbrev Eu:=Md.a
abbrev Et:=Md.b
abbrev HI:=Md.g
abbrev hX:=Md.c
abbrev OL a:=Sq (Bx a)
abbrev Ch a:=Rj (HI a)
abbrev Ts a b c d:=o2B (Ch a) (OL b) c d
abbrev gQ a:=AL (HI a)
abbrev eK a:=AM (HI a)
attribute [go_sem] Bx Eu Et HI hX OL Ch Ts gQ eK
theorem BQX (a : Md) : (V_md a) = (HP (AG AI (EK (OL a) (Bx a)) (AF (Eu a)) (AF (Et a)) (BY (EK (OL a) (Bx a)) (λ i=>ZT i (OL a) (Bx a)) (eK a) (gQ a) (AP (HI a)) (AS (HI a)) (AT (HI a)) (BM (HI a)) (DO (λ i=>AZ i (HI a)) (BK (HI a)) (λ i=>BJ i (HI a)) (AF (Md.s a)) (EK (Bx a) (OL a)) (PI (Bx a) (OL a)) (eK a) (gQ a) (HE (HI a) (CA (HI a)) (λ i=>EE i (HI a)) (BZ (HI a)) (λ i=>CP i (HI a)) (UB (Eu a) (BV (OL a)) (Et a)) (AC (λ i=>TN i (OL a) i (HI a))))))) (AG AI (EK (OL a) (Bx a)) (AF (Ts a a (Eu a) (Et a))) (AF (hX a)) (BY (EK (OL a) (Bx a)) (λ i=>ZT i (OL a) (Bx a)) (eK a) (gQ a) (AP (HI a)) (AS (HI a)) (AT (HI a)) (BM (HI a)) (DO (λ i=>AZ i (HI a)) (BK (HI a)) (λ i=>BJ i (HI a)) (AF (o2S (Ch a) (OL a) (Eu a) (Et a) (Md.s a))) (EK (Bx a) (OL a)) (PI (Bx a) (OL a)) (eK a) (gQ a) (HE (HI a) (CA (HI a)) (λ i=>EE i (HI a)) (BZ (HI a)) (λ i=>CP i (HI a)) (UB (Ts a a (Eu a) (Et a)) (BV (OL a)) (hX a)) (AC (λ i=>TN i (OL a) i (HI a))))))) (AG AI (EK (OL a) (Bx a)) (AF (o2A (Ch a) (OL a) (Eu a) (Et a))) (AF (o2A (Ch a) (OL a) (Ts a a (Eu a) (Et a)) (hX a))) (BY (EK (OL a) (Bx a)) (λ i=>ZT i (OL a) (Bx a)) (eK a) (gQ a) (AP (HI a)) (AS (HI a)) (AT (HI a)) (BM (HI a)) (DO (λ i=>AZ i (HI a)) (BK (HI a)) (λ i=>BJ i (HI a)) (AF (o2S (Ch a) (OL a) (Ts a a (Eu a) (Et a)) (hX a) (o2S (Ch a) (OL a) (Eu a) (Et a) (Md.s a)))) (EK (Bx a) (OL a)) (PI (Bx a) (OL a)) (eK a) (gQ a) (HE (HI a) (CA (HI a)) (λ i=>EE i (HI a)) (BZ (HI a)) (λ i=>CP i (HI a)) (UB (o2A (Ch a) (OL a) (Eu a) (Et a)) (BV (OL a)) (o2A (Ch a) (OL a) (Ts a a (Eu a) (Et a)) (hX a))) (AC (λ i=>TN i (OL a) i (HI a))))))) (AQ (mnM (XE (HI a)) (Bx a) (Eu a) (Et a) (hX a)) (Ts a a (o2A (Ch a) (OL a) (Eu a) (Et a)) (o2A (Ch a) (OL a) (Ts a a (Eu a) (Et a)) (hX a)))) (Bf (Bx a)) (AC (λ i=>VG i (Bx a) (BQ (Bx a) i))) (eK a) (FP (gQ a) (AP (HI a)) (AS (HI a)) (AT (HI a)) (DE (HI a)) (λ i=>EB i (HI a)) (DB (HI a)) (NZ (HI a)) (AQ (mnS (XE (HI a)) (Bx a) (Eu a) (Et a) (hX a) (Md.s a)) (o2S (Ch a) (OL a) (o2A (Ch a) (OL a) (Eu a) (Et a)) (o2A (Ch a) (OL a) (Ts a a (Eu a) (Et a)) (hX a)) (o2S (Ch a) (OL a) (Ts a a (Eu a) (Et a)) (hX a) (o2S (Ch a) (OL a) (Eu a) (Et a) (Md.s a))))))) := by kernel_rfl
structure Gw where
 g : Cht
 l : List Int
def dGw : List AVal -> Heap -> Option (Gw × List (Nat × Nat) × List Nat)
 | [.own id _ _ n, _, _, .fn (.func f) [] [.bptr c _]], H => if f = VS then match H id, Em H c with
  | .live (.row _ m r), some q => some (⟨q, QR n λ i => HM (r i)⟩, [(100, id), (101, c)], [])
  | _, _ => none else none
 | _, _ => none
def gwOk (a : Gw) : Prop := (a.l.length = 13 ∨ a.l.length = 14) /\ kL a.g a.l
def gwL (a : Gw) : List (Nat × AObj) := [(100, rowI a.l), (101, bxG a.g)]
def gwK (a : Gw) : List (Nat × HCell) := [(100, .live (rowI a.l)), (101, .live (bxG a.g))]
def chP (a : Gw) : Int := mnM (KT a.g) a.l 3 6 9
def chH (a : Gw) : Int := bif mnS (KT a.g) a.l 3 6 9 0 == 0 then 1 else 0
def C_cho : Ctr := { ro := [100, 101], α := Gw, xs := λ a => [.own 100 1 0 a.l.length, .int 0, .int a.l.length, iL], L := gwL, val := λ a => .tup [.int (chP a), .int (chH a)], keep := gwK, pre := λ a => [gwOk a] }
def BJW : Ann := { ann 63 [(Q9, C_md.spec dMd)] with E := [100, 101] }
def BHS (a : Gw) : Prop := CL Try.prog BJW T4 (AH T4) (C_cho.xs a) (AB (C_cho.L a)) (C_cho.val a) (C_cho.keep a) [] []
abbrev Kf:=Gw.l
abbrev DT:=Gw.g
abbrev Ej a b c (d:Nat->Prop) e:=AG a b c (AC d) e
abbrev UC a:=FO (DT a)
abbrev IH a:=BV (Kf a)
abbrev Np a b c:=BE a (IH b) c
abbrev UL a b:=BQ (Kf a) b
abbrev eZ a b:=AF (UL a b)
abbrev Bw a b c d:=Np a b (eZ c d)
abbrev SQ a:=BC (IH a)
abbrev wI a b:=Mb (IH a) b
abbrev Zw a:=wI a 0
abbrev U6 a b:=wU 0 (HK (Int.tdiv (Zw a) 4)) b
abbrev aC a:=U6 a 2
abbrev Ym a:=U6 a 3
abbrev eR a:=U6 a 1
abbrev RZ a:=Sq (Kf a)
abbrev Jv a:=Rj (DT a)
abbrev WA a b c d e:=CW AI a b c d e
abbrev Az a:=BV (RZ a)
abbrev Ia a b c d e f g:=KL a b b c d e f g
abbrev WE a b:=GT (DT a) b
abbrev Jz a b c d:=QY (DT a) b (WE c d)
abbrev Hu a b c d:=QS (DT a) b (WE c d)
abbrev Hk a b:=CK (WE a b)
abbrev Iv a:=BZ (DT a)
abbrev Ij a:=CA (DT a)
abbrev SN a:=AL (DT a)
abbrev SO a:=AM (DT a)
abbrev Yj a b:=CE (IH a) b
abbrev Jf a b c d e:=GO a (DT b) (DT b) c d e
abbrev Ht a b c d:=KV (WE a b) (DT c) d
abbrev Ho a:=BK (DT a)
abbrev Mj a b:=AZ a (DT b)
abbrev Kb a:=BM (DT a)
abbrev Na a:=AS (DT a)
abbrev XF a:=AP (DT a)
abbrev Xo a b:=HH (RZ a) b
abbrev Li a b:=Xo a (IH b)
attribute [go_sem] Kf DT Ej UC IH Np UL eZ Bw SQ wI Zw U6 aC Ym eR RZ Jv WA Az Ia WE Jz Hu Hk Iv Ij SN SO Yj Jf Ht Ho Mj Kb Na XF Xo Li
theorem BON (a : Gw) : (BHS a) = (And (BX (AQ (WF 4) MF) NG) (YT (BX (AQ (WF 4) MF) NG) (DX (lI (Zw a) 8) (DX (lI (Zw a) 50) NG (GN (WA (Li a a) (AF (eR a)) (AF (aC a)) (AF (Ym a)) (BY (Li a a) (λ i=>GZ i (RZ a) (UL a i)) (SO a) (SN a) (XF a) (Na a) (AT (DT a)) (Kb a) (DO (λ i=>Mj i a) (Ho a) (λ i=>Jf i a i (Ht a i a i) (WE a i)) (AQ 0 MF) (Yj a (Az a)) (AC (λ i=>Np i a (AQ (UL a i) (BQ (RZ a) i)))) (SO a) (SN a) (HE (DT a) (Ij a) (λ i=>EE i (DT a)) (Iv a) (λ i=>Ia i (DT a) i (Hk a i) (Hu a i a i) (Jz a i a i) (WE a i)) (AN (DQ (eR a) (Az a)) (DQ (aC a) (Az a)) (DC (Ym a)) (DW (Ym a) (Az a))) (AC (λ i=>TN i (RZ a) i (DT a))))))) (WI (mnS (Jv a) (RZ a) (eR a) (aC a) (Ym a) 0) 0) (Ej (AQ (chP a) (mnM (Jv a) (RZ a) (eR a) (aC a) (Ym a))) (Nk (chH a)) (SQ a) (λ i=>Bw i a a i) (UC a)) (DX (WI (mnS (Jv a) (RZ a) (eR a) (aC a) (Ym a) 0) 12) (Ej (AQ (chP a) (mnM (Jv a) (RZ a) (eR a) (aC a) (Ym a))) (AQ (chH a) 2) (SQ a) (λ i=>Bw i a a i) (UC a)) (Ej (AQ (chP a) (mnM (Jv a) (RZ a) (eR a) (aC a) (Ym a))) (JF (chH a)) (SQ a) (λ i=>Bw i a a i) (UC a))))) (Ej (AQ (chP a) (aC a)) (Nk (chH a)) (SQ a) (λ i=>Bw i a a i) (UC a))))) := by kernel_rfl
def C_pin : Ctr := { ro := [100, 101], α := Gw, xs := λ a => [.own 100 1 0 a.l.length, .int 0, .int a.l.length, iL], L := gwL, val := λ a => .bool (iC (KT a.g) a.l (a.l.length - 1)), keep := gwK, pre := λ a => [gwOk a] }
def pin3 (a : Gw) : Shape := { α := Int, dflt := 0, T := λ k => ⟨[(0, .own 100 1 0 a.l.length), (1, .int 0), (2, .int a.l.length), (3, iL), (9, .int k), (10, .int 0)], gwK a⟩, inv := λ k => k = 1, meas := λ _ => 1 }
def pin5 (a : Gw) : Shape := { α := Nat, dflt := 0, T := λ i => ⟨[(0, .own 100 1 0 a.l.length), (1, .int 0), (2, .int a.l.length), (3, iL), (9, .int ((i + 1 : Nat) : Int)), (10, .int 0)], gwK a⟩, inv := λ i => i + 1 <= a.l.length /\ iC (KT a.g) a.l i = true, meas := λ i => a.l.length - i }
def BJQ (a : Gw) : Ann := { ann 141 [(VS, C_fw1.spec dGAB)] with E := [100, 101], loops := λ id => if id = 3 then some [pin3 a] else none, inner := λ gs id => if id = 5 then some [pin5 a] else none, cutIn := λ gs id => if id = 11 then some [] else none }
def BJL (a : Gw) : Prop := CL Try.prog (BJQ a) D3 (AH D3) (C_pin.xs a) (AB (C_pin.L a)) (C_pin.val a) (C_pin.keep a) [] []
abbrev Ci a:=XE (DT a)
abbrev Hw a:=BW (IH a)
abbrev kO a:=VW (FK a)
abbrev Yr a:=EH (DT a)
attribute [go_sem] Ci Hw kO Yr
theorem BLE (a : Gw) : (BJL a) = (And ((@Exists Int) (λ i=>And (Tu AI (SQ a) AJ (Hw a) (AQ i Jj) AJ (AC (λ j=>Bw j a a j)) (UC a)) (Nk i))) (BT (λ i=>BX (Nk i) (DY (λ j=>ML (Tu AI (SQ a) AJ (Hw a) (FL (FK j) i) AJ (AC (λ k=>Bw k a a k)) (UC a)) (FK j) (IH a) (DI (iC (Ci a) (Kf a) j))) (λ j=>BX (JI (FK j) (IH a) (DI (iC (Ci a) (Kf a) j))) (GN (AG (HL (HG (FK j) (IH a)) (DG (FK j) (IH a))) (HL (HG (FK j) (IH a)) (ME (BB (FK j)) (IH a))) (UJ (HG (FK j) (IH a)) (kO j) (IH a)) (HL (HG (FK j) (IH a)) (PE (kO j) (IH a))) (HL (HG (FK j) (IH a)) (CI (eZ a (BB (FK j))) (eZ a (MH (kO j))) (SO a) (SN a) (XF a) (Na a) (PZ (DT a) (Kb a) (λ k=>Mj k a) (Ho a) (AC (λ k=>Jf k a k (Ht a k a k) (WE a k))) (SO a) (SN a) (XF a) (UK (DT a) (Ij a) (Iv a) (λ k=>Ia k (DT a) k (Hk a k) (Hu a k a k) (Jz a k a k) (WE a k)) (DQ (UL a (BB (FK j))) (FS (DT a))) (DC (UL a (MH (kO j)))) (DW (UL a (MH (kO j))) (FS (DT a)))))))) (GH (HG (FK j) (IH a)) (not (IP (Ot (XE (Yr a) (UL a (BB (FK j)))) (XE (Yr a) (UL a (MH (kO j))))) 0))) (GW (λ k=>ZX (Tu AI (SQ a) AJ (Hw a) (BH (FK k) (FK j)) AJ (AC (λ l=>Bw l a a l)) (UC a)) (FK k) (IH a) (DI (iC (Ci a) (Kf a) k)) k j)) (DX (WI (BU (FK j)) (BU (IH a))) (VL (DI (iC (Ci a) (Kf a) (Dx (IH a)))) (SQ a) (λ k=>Bw k a a k) (UC a)) (TV (DX (IP (Zw a) 50) (VL (EU (iC (Ci a) (Kf a) (Dx (IH a)))) (SQ a) (λ k=>Bw k a a k) (UC a)) NG))))))))) := by kernel_rfl
structure Gp where
 g : Cht
 l : List Int
 p : Int
def dGp : List AVal -> Heap -> Option (Gp × List (Nat × Nat) × List Nat)
 | [.own id _ _ n, _, _, .d x, .fn (.func f) [] [.bptr c _]], H => if f = VS then match H id, Em H c with
  | .live (.row _ m r), some q => some (⟨q, QR n λ i => HM (r i), HM x⟩, [(100, id), (101, c)], [])
  | _, _ => none else none
 | _, _ => none
def gpR (a : Gp) : PtR := ptM (KT a.g) a.l a.p.toNat
def C_ptn : Ctr := { ro := [101], α := Gp, xs := λ a => [.own 100 1 0 a.l.length, .int 0, .int a.l.length, .int a.p, iL], L := λ a => [(100, rowI a.l), (101, bxG a.g)], val := λ a => .tup [.int (gpR a).j, .any], keep := λ a => [(100, .live (ACJ a.l.length (ptL (KT a.g) a.l a.p.toNat))), (101, .live (bxG a.g))], pre := λ a => [((a.l.length = 13 ∨ a.l.length = 14) /\ 0 <= a.p /\ a.p < a.l.length) /\ kL a.g a.l] }
structure PtS where
 i : Nat
 j : Nat
 l : List Int
 deriving Inhabited
def ptI (a : Gp) (dn : Bool) (x : PtS) : Prop := (1 <= x.i /\ x.j < a.l.length /\ x.i <= x.j + 1) /\ (x.l.length = a.l.length /\ kL a.g x.l) /\ gpR a = YV (KT a.g) dn x.i x.j x.l
def ptT (a : Gp) (x : PtS) : ST := ⟨[(0, .own 100 1 0 a.l.length), (1, .int 0), (4, iL), (12, .int x.i), (13, .int x.j)], [(100, .live (ACJ a.l.length x.l)), (101, .live (bxG a.g))]⟩
def pt3 (a : Gp) : Shape := { α := PtS, dflt := default, T := ptT a, inv := ptI a false, meas := λ x => x.j + 1 - x.i }
def ptU (a : Gp) (x : PtS) : Prop := x.i <= x.j -> ¬ KT a.g (gD x.l x.i) < KT a.g (gD x.l 0)
def pt5 (a : Gp) : Shape := { α := PtS, dflt := default, T := ptT a, inv := λ x => ptI a true x /\ ptU a x, meas := λ x => x.j }
def pt13 (a : Gp) (m : Nat) : Shape := { α := PtS, dflt := default, T := ptT a, inv := λ x => ptI a false x /\ x.j + 1 - x.i <= m, meas := λ x => x.j + 1 - x.i }
def pt15 (a : Gp) (m : Nat) : Shape := { α := PtS, dflt := default, T := ptT a, inv := λ x => ptI a true x /\ ptU a x /\ x.j + 1 - x.i <= m, meas := λ x => x.j }
def BHJ (a : Gp) : Ann := { ann 178 [(VS, C_fw1.spec dGAB)] with E := [100, 101], loops := λ id => if id = 3 then some [pt3 a] else if id = 5 then some [pt5 a] else if id = 13 then some [pt3 a] else none, inner := λ gs id => if id = 13 then (if gs.length = 0 then some [pt3 a] else some [pt13 a (gs.getD 0 0)]) else if id = 15 then some [pt15 a (gs.getD 0 0)] else none }
def BHG (a : Gp) : Prop := CL Try.prog (BHJ a) ADP (AH ADP) (C_ptn.xs a) (AB (C_ptn.L a)) (C_ptn.val a) (C_ptn.keep a) [] []
abbrev jV:=Gp.l
abbrev hY:=@Exists PtS
abbrev IG:=PtS.i
abbrev RX:=PtS.j
abbrev IC:=Gp.g
abbrev V9:=λ (f : PtS -> Prop) => ∀ (x : PtS), f x
abbrev Yz a:=FK (RX a)
abbrev AAF a b:=(@Eq PtR) (gpR a) b
abbrev Hi a:=BV (jV a)
abbrev X2 a b (c:Nat->Prop):=Jm (PtS.l a) (Hi b) c
abbrev Gi a b c (d:Nat->Prop) e f:=AE a (X2 b c d) (AAF e f)
abbrev S1 a:=XE (IC a)
abbrev Bp a b c d e:=YV (S1 a) b (IG c) (RX d) (PtS.l e)
abbrev qJ a b c d:=Ub a b c (AO d)
abbrev TS a b:=BQ (PtS.l a) b
abbrev At a b c d e:=qJ a (PtS.l b) (TS c d) (IC e)
abbrev UA a b c d:=AE a b (DH c d)
abbrev Zy a b:=CM a (Hi b)
abbrev Cc a b c d e:=UA (TR (IG a)) (Zy (RX b) c) (IG d) (Yz e)
abbrev Hm a:=FO (IC a)
abbrev Qr a b c d e:=QV a (jV b) (TS c d) e
abbrev Cf a:=BB (RX a)
abbrev Xe a b:=TS a (Cf b)
abbrev Dr a:=BB (IG a)
abbrev Jg a:=BC (Hi a)
abbrev dE a b:=DG a (Hi b)
abbrev Qs a b:=dE (RX a) b
abbrev Ld:=MH 0
abbrev xM a b c:=ptL a b (HV c)
abbrev dF a b:=IN a (RX b)
abbrev xB a:=PtR.j (gpR a)
abbrev dN a b:=PE a (Hi b)
abbrev Pm a:=Jh (Hi a)
abbrev R8 a:=BU (RX a)
abbrev Y7 a:=BU (IG a)
abbrev It a b:=JV (Yz a) (IG b)
abbrev AEG a b c:=XE a (TS b c)
abbrev Jk a b c:=AEG (IC a) b c
abbrev Za a b c:=AEG (EH (IC a)) b c
abbrev rL a:=hd7 (Y7 a) (R8 a)
abbrev UO a b:=HL (rL a) b
abbrev Zm a:=FS (IC a)
abbrev Yx a:=TS a 0
abbrev Zr a:=AP (IC a)
abbrev Zd a:=AL (IC a)
abbrev aE a:=AM (IC a)
attribute [go_sem] jV hY IG RX IC V9 Yz AAF Hi X2 Gi S1 Bp qJ TS At UA Zy Cc Hm Qr Cf Xe Dr Jg dE Qs Ld xM dF xB dN Pm R8 Y7 It AEG Jk Za rL UO Zm Yx Zr Zd aE
theorem BOA (a : Gp) : (BHG a) = (AE (AN (DQ (Gp.p a) (Hi a)) (Zy (MH (Gp.p a)) a) (Pm a) (bE (MB (Hi a)) (Pm a) (DQ (Gp.p a) (Hi a)) (dN (Gp.p a) a))) (hY (λ i=>AN (Gj AI (Jg a) AJ (FL (IG i) Jj) (FL (RX i) (VW (Hi a))) (λ j=>Qr j a i j (KN j (Gp.p a) (BQ (jV a) Ld) (KN j 0 (BQ (jV a) (MH (Gp.p a))) (BQ (jV a) j)))) (Hm a)) (Cc i i a i i) (X2 i a (λ j=>At j i i j a)) (AAF a (Bp a Aq i i i)))) (V9 (λ i=>BX (Gi (Cc i i a i i) i a (λ j=>At j i i j a) a (Bp a Aq i i i)) (GN (AG (UO i (dE (IG i) a)) (UO i (ME (Dr i) (Hi a))) (UO i (Pm a)) (UO i (dN 0 a)) (UO i (CI (AF (TS i (Dr i))) (AF (TS i Ld)) (aE a) (Zd a) (Zr a) (AS (IC a)) (PZ (IC a) (BM (IC a)) (λ j=>AZ j (IC a)) (BK (IC a)) (JB (IC a)) (aE a) (Zd a) (Zr a) (UK (IC a) (CA (IC a)) (BZ (IC a)) (λ j=>CP j (IC a)) (DQ (TS i (Dr i)) (Zm a)) (DC (Yx i)) (DW (Yx i) (Zm a))))))) (GH (rL i) (IP (Ot (Za a i (Dr i)) (Za a i Ld)) 0)) (hY (λ j=>LX (Gj AI (Jg a) AJ (BH (IG j) (IG i)) (dF (RX j) i) (λ k=>Qr k a j k (TS i k)) (Hm a)) (Gi (Cc j j a j j) j a (λ k=>At k j j k a) a (Bp a Aq j j j)) (Yz j) (IG j) (Yz i) (IG i))) (And (hY (λ j=>AE (Gj AI (Jg a) AJ (IN (IG j) (IG i)) (dF (RX j) i) (λ k=>Qr k a j k (TS i k)) (Hm a)) (Gi (Cc j j a j j) j a (λ k=>At k j j k a) a (Bp a IX j j j)) (BX (DH (IG j) (RX j)) (Not (LS (Jk a j (IG j)) (Jk a j 0)))))) (V9 (λ j=>BX (And (Gi (Cc j j a j j) j a (λ k=>At k j j k a) a (Bp a IX j j j)) (BX (DH (IG j) (RX j)) (Not (LS (Jk a j (IG j)) (Jk a j 0))))) (GN (AG (UO j (Qs j a)) (UO j (ME (Cf j) (Hi a))) (UO j (Pm a)) (UO j (dN 0 a)) (UO j (CI (AF (Xe j j)) (AF (TS j Ld)) (aE a) (Zd a) (Zr a) (AS (IC a)) (PZ (IC a) (BM (IC a)) (λ k=>AZ k (IC a)) (BK (IC a)) (JB (IC a)) (aE a) (Zd a) (Zr a) (UK (IC a) (CA (IC a)) (BZ (IC a)) (λ k=>CP k (IC a)) (DQ (Xe j j) (Zm a)) (DC (Yx j)) (DW (Yx j) (Zm a))))))) (GH (rL j) (not (IP (Ot (Za a j (Cf j)) (Za a j Ld)) 0))) (hY (λ k=>JG (Gj AI (Jg a) AJ (IN (IG k) (IG j)) (FL (RX k) (VW (RX j))) (λ l=>Qr l a k l (TS j l)) (Hm a)) (And (Gi (Cc k k a k k) k a (λ l=>At l k k l a) a (Bp a IX k k k)) (BX (DH (IG k) (RX k)) (Not (LS (Jk a k (IG k)) (Jk a k 0))))) (RX k) (RX j))) (DX (As (Y7 j) (R8 j)) (Ej (AN (Pm a) (MB (Hi a)) (Qs j a) (bE (Zy (Cf j) a) (Qs j a) (Pm a) (dN 0 a))) (dF (xB a) j) (Jg a) (λ k=>MD k (jV a) (xM (S1 a) (jV a) (Gp.p a)) k (KN k 0 (Xe j j) (WZ k (Cf j) (TS j Ld) (TS j k)))) (Hm a)) (AE (AN (Qs j a) (Zy (Cf j) a) (dE (IG j) a) (bE (Zy (Dr j) a) (dE (IG j) a) (Qs j a) (ME (Cf j) (Hi a)))) (hY (λ k=>AN (Gj AI (Jg a) AJ (BH (IG k) (IG j)) (FL (RX k) (VW (RX j))) (λ l=>Qr l a k l (WZ l (Cf j) (TS j (Dr j)) (WZ l (Dr j) (Xe j j) (TS j l)))) (Hm a)) (Cc k k a k k) (X2 k a (λ l=>At l k k l a)) (AAF a (Bp a Aq k k k)))) (V9 (λ k=>BX (Gi (Cc k k a k k) k a (λ l=>At l k k l a) a (Bp a Aq k k k)) (And (hY (λ l=>UA (Gj AI (Jg a) AJ (IN (IG l) (IG k)) (dF (RX l) k) (λ m=>Qr m a l m (TS k m)) (Hm a)) (Gi (Cc l l a l l) l a (λ m=>At m l l m a) a (Bp a Aq l l l)) (It l l) (It k k))) (V9 (λ l=>BX (And (Gi (Cc l l a l l) l a (λ m=>At m l l m a) a (Bp a Aq l l l)) (DH (It l l) (It k k))) (GN (AG (UO l (dE (IG l) a)) (UO l (ME (Dr l) (Hi a))) (UO l (Pm a)) (UO l (dN 0 a)) (UO l (CI (AF (TS l (Dr l))) (AF (TS l Ld)) (aE a) (Zd a) (Zr a) (AS (IC a)) (PZ (IC a) (BM (IC a)) (λ m=>AZ m (IC a)) (BK (IC a)) (JB (IC a)) (aE a) (Zd a) (Zr a) (UK (IC a) (CA (IC a)) (BZ (IC a)) (λ m=>CP m (IC a)) (DQ (TS l (Dr l)) (Zm a)) (DC (Yx l)) (DW (Yx l) (Zm a))))))) (GH (rL l) (IP (Ot (Za a l (Dr l)) (Za a l Ld)) 0)) (hY (λ m=>LX (Gj AI (Jg a) AJ (BH (IG m) (IG l)) (dF (RX m) l) (λ n=>Qr n a m n (TS l n)) (Hm a)) (And (Gi (Cc m m a m m) m a (λ n=>At n m m n a) a (Bp a Aq m m m)) (DH (It m m) (It k k))) (Yz m) (IG m) (Yz l) (IG l))) (And (hY (λ m=>AN (Gj AI (Jg a) AJ (IN (IG m) (IG l)) (dF (RX m) l) (λ n=>Qr n a m n (TS l n)) (Hm a)) (Gi (Cc m m a m m) m a (λ n=>At n m m n a) a (Bp a IX m m m)) (BX (DH (IG m) (RX m)) (Not (LS (Jk a m (IG m)) (Jk a m 0)))) (DH (It m m) (It k k)))) (V9 (λ m=>BX (UA (Gi (Cc m m a m m) m a (λ n=>At n m m n a) a (Bp a IX m m m)) (BX (DH (IG m) (RX m)) (Not (LS (Jk a m (IG m)) (Jk a m 0)))) (It m m) (It k k)) (GN (AG (UO m (Qs m a)) (UO m (ME (Cf m) (Hi a))) (UO m (Pm a)) (UO m (dN 0 a)) (UO m (CI (AF (Xe m m)) (AF (TS m Ld)) (aE a) (Zd a) (Zr a) (AS (IC a)) (PZ (IC a) (BM (IC a)) (λ n=>AZ n (IC a)) (BK (IC a)) (JB (IC a)) (aE a) (Zd a) (Zr a) (UK (IC a) (CA (IC a)) (BZ (IC a)) (λ n=>CP n (IC a)) (DQ (Xe m m) (Zm a)) (DC (Yx m)) (DW (Yx m) (Zm a))))))) (GH (rL m) (not (IP (Ot (Za a m (Cf m)) (Za a m Ld)) 0))) (hY (λ n=>JG (Gj AI (Jg a) AJ (IN (IG n) (IG m)) (FL (RX n) (VW (RX m))) (λ u=>Qr u a n u (TS m u)) (Hm a)) (UA (Gi (Cc n n a n n) n a (λ u=>At u n n u a) a (Bp a IX n n n)) (BX (DH (IG n) (RX n)) (Not (LS (Jk a n (IG n)) (Jk a n 0)))) (It n n) (It k k)) (RX n) (RX m))) (DX (As (Y7 m) (R8 m)) (Ej (AN (Pm a) (MB (Hi a)) (Qs m a) (bE (Zy (Cf m) a) (Qs m a) (Pm a) (dN 0 a))) (dF (xB a) m) (Jg a) (λ n=>MD n (jV a) (xM (S1 a) (jV a) (Gp.p a)) n (KN n 0 (Xe m m) (WZ n (Cf m) (TS m Ld) (TS m n)))) (Hm a)) (ND (Qs m a) (Zy (Cf m) a) (dE (IG m) a) (bE (Zy (Dr m) a) (dE (IG m) a) (Qs m a) (ME (Cf m) (Hi a))) (hY (λ n=>LX (Gj AI (Jg a) AJ (BH (IG n) (IG m)) (FL (RX n) (VW (RX m))) (λ u=>Qr u a n u (WZ u (Cf m) (TS m (Dr m)) (WZ u (Dr m) (Xe m m) (TS m u)))) (Hm a)) (Gi (Cc n n a n n) n a (λ u=>At u n n u a) a (Bp a Aq n n n)) (Yz n) (IG n) (Yz k) (IG k))))))))))))))))))))))))) := by kernel_rfl
def BJU (_x : One) : Prop := CL Try.prog (ann 25 []) Uq (AH Uq) (oO 13) (AB []) (.int 4) [] [] []
abbrev z_l13_0 : List UInt8 := [(8 : UInt8), (8 : UInt8), (8 : UInt8), (8 : UInt8), (8 : UInt8), (8 : UInt8), (8 : UInt8), (8 : UInt8), (8 : UInt8), (8 : UInt8), (8 : UInt8), (8 : UInt8), (8 : UInt8), (8 : UInt8), (8 :
 UInt8), (8 : UInt8), (8 : UInt8), (8 : UInt8), (8 : UInt8), (8 : UInt8), (8 : UInt8), (8 : UInt8), (8 : UInt8), (8 : UInt8), (8 : UInt8), (8 : UInt8), (8 : UInt8), (8 : UInt8), (8 : UInt8), (8 : UInt8), (8 : UInt8), (8 :
 UInt8), (8 : UInt8), (8 : UInt8), (8 : UInt8), (8 : UInt8), (8 : UInt8), (8 : UInt8), (8 : UInt8), (8 : UInt8), (8 : UInt8), (8 : UInt8), (8 : UInt8), (8 : UInt8), (8 : UInt8), (8 : UInt8), (8 : UInt8), (8 : UInt8), (8 :
 UInt8), (8 : UInt8), (8 : UInt8), (8 : UInt8), (8 : UInt8), (8 : UInt8), (8 : UInt8), (8 : UInt8), (8 : UInt8), (8 : UInt8), (8 : UInt8), (8 : UInt8), (8 : UInt8), (8 : UInt8), (8 : UInt8), (8 : UInt8)]
abbrev AHY : Nat := ((2 : Int) ^ IntKind.i64.bits).natAbs
theorem BMN (_x : One) : (BJU _x) = (((0 : Int) <= IntKind.u8.wrap (13 : Int) /\ IntKind.u8.wrap (13 : Int) < (↑(256 : Nat) : Int)) /\ Int.ofNat (4 : Nat) = Int.ofNat (((0 : Nat) + ((([(0 : UInt8), (1 : UInt8), (2 :
 UInt8), (2 : UInt8), (3 : UInt8), (3 : UInt8), (3 : UInt8), (3 : UInt8), (4 : UInt8), (4 : UInt8), (4 : UInt8), (4 : UInt8), (4 : UInt8), (4 : UInt8), (4 : UInt8), (4 : UInt8), (5 : UInt8), (5 : UInt8), (5 : UInt8), (5 :
 UInt8), (5 : UInt8), (5 : UInt8), (5 : UInt8), (5 : UInt8), (5 : UInt8), (5 : UInt8), (5 : UInt8), (5 : UInt8), (5 : UInt8), (5 : UInt8), (5 : UInt8), (5 : UInt8), (6 : UInt8), (6 : UInt8), (6 : UInt8), (6 : UInt8), (6 :
 UInt8), (6 : UInt8), (6 : UInt8), (6 : UInt8), (6 : UInt8), (6 : UInt8), (6 : UInt8), (6 : UInt8), (6 : UInt8), (6 : UInt8), (6 : UInt8), (6 : UInt8), (6 : UInt8), (6 : UInt8), (6 : UInt8), (6 : UInt8), (6 : UInt8), (6 :
 UInt8), (6 : UInt8), (6 : UInt8), (6 : UInt8), (6 : UInt8), (6 : UInt8), (6 : UInt8), (6 : UInt8), (6 : UInt8), (6 : UInt8), (6 : UInt8)].append [(7 : UInt8), (7 : UInt8), (7 : UInt8), (7 : UInt8), (7 : UInt8), (7 :
 UInt8), (7 : UInt8), (7 : UInt8), (7 : UInt8), (7 : UInt8), (7 : UInt8), (7 : UInt8), (7 : UInt8), (7 : UInt8), (7 : UInt8), (7 : UInt8), (7 : UInt8), (7 : UInt8), (7 : UInt8), (7 : UInt8), (7 : UInt8), (7 : UInt8), (7 :
 UInt8), (7 : UInt8), (7 : UInt8), (7 : UInt8), (7 : UInt8), (7 : UInt8), (7 : UInt8), (7 : UInt8), (7 : UInt8), (7 : UInt8), (7 : UInt8), (7 : UInt8), (7 : UInt8), (7 : UInt8), (7 : UInt8), (7 : UInt8), (7 : UInt8), (7 :
 UInt8), (7 : UInt8), (7 : UInt8), (7 : UInt8), (7 : UInt8), (7 : UInt8), (7 : UInt8), (7 : UInt8), (7 : UInt8), (7 : UInt8), (7 : UInt8), (7 : UInt8), (7 : UInt8), (7 : UInt8), (7 : UInt8), (7 : UInt8), (7 : UInt8), (7 :
 UInt8), (7 : UInt8), (7 : UInt8), (7 : UInt8), (7 : UInt8), (7 : UInt8), (7 : UInt8), (7 : UInt8)]).append (z_l13_0.append z_l13_0)).getD (IntKind.u8.wrap (13 : Int)).toNat (0 : UInt8)).toNat % AHY) % AHY)) := by
 kernel_rfl
def BHF (_x : One) : Prop := CL Try.prog (ann 25 []) Uq (AH Uq) (oO 14) (AB []) (.int 4) [] [] []
abbrev z_l14_0 : List UInt8 := [(8 : UInt8), (8 : UInt8), (8 : UInt8), (8 : UInt8), (8 : UInt8), (8 : UInt8), (8 : UInt8), (8 : UInt8), (8 : UInt8), (8 : UInt8), (8 : UInt8), (8 : UInt8), (8 : UInt8), (8 : UInt8), (8 :
 UInt8), (8 : UInt8), (8 : UInt8), (8 : UInt8), (8 : UInt8), (8 : UInt8), (8 : UInt8), (8 : UInt8), (8 : UInt8), (8 : UInt8), (8 : UInt8), (8 : UInt8), (8 : UInt8), (8 : UInt8), (8 : UInt8), (8 : UInt8), (8 : UInt8), (8 :
 UInt8), (8 : UInt8), (8 : UInt8), (8 : UInt8), (8 : UInt8), (8 : UInt8), (8 : UInt8), (8 : UInt8), (8 : UInt8), (8 : UInt8), (8 : UInt8), (8 : UInt8), (8 : UInt8), (8 : UInt8), (8 : UInt8), (8 : UInt8), (8 : UInt8), (8 :
 UInt8), (8 : UInt8), (8 : UInt8), (8 : UInt8), (8 : UInt8), (8 : UInt8), (8 : UInt8), (8 : UInt8), (8 : UInt8), (8 : UInt8), (8 : UInt8), (8 : UInt8), (8 : UInt8), (8 : UInt8), (8 : UInt8), (8 : UInt8)]
abbrev AHI : Nat := ((2 : Int) ^ IntKind.i64.bits).natAbs
theorem BOT (_x : One) : (BHF _x) = (((0 : Int) <= IntKind.u8.wrap (14 : Int) /\ IntKind.u8.wrap (14 : Int) < (↑(256 : Nat) : Int)) /\ Int.ofNat (4 : Nat) = Int.ofNat (((0 : Nat) + ((([(0 : UInt8), (1 : UInt8), (2 :
 UInt8), (2 : UInt8), (3 : UInt8), (3 : UInt8), (3 : UInt8), (3 : UInt8), (4 : UInt8), (4 : UInt8), (4 : UInt8), (4 : UInt8), (4 : UInt8), (4 : UInt8), (4 : UInt8), (4 : UInt8), (5 : UInt8), (5 : UInt8), (5 : UInt8), (5 :
 UInt8), (5 : UInt8), (5 : UInt8), (5 : UInt8), (5 : UInt8), (5 : UInt8), (5 : UInt8), (5 : UInt8), (5 : UInt8), (5 : UInt8), (5 : UInt8), (5 : UInt8), (5 : UInt8), (6 : UInt8), (6 : UInt8), (6 : UInt8), (6 : UInt8), (6 :
 UInt8), (6 : UInt8), (6 : UInt8), (6 : UInt8), (6 : UInt8), (6 : UInt8), (6 : UInt8), (6 : UInt8), (6 : UInt8), (6 : UInt8), (6 : UInt8), (6 : UInt8), (6 : UInt8), (6 : UInt8), (6 : UInt8), (6 : UInt8), (6 : UInt8), (6 :
 UInt8), (6 : UInt8), (6 : UInt8), (6 : UInt8), (6 : UInt8), (6 : UInt8), (6 : UInt8), (6 : UInt8), (6 : UInt8), (6 : UInt8), (6 : UInt8)].append [(7 : UInt8), (7 : UInt8), (7 : UInt8), (7 : UInt8), (7 : UInt8), (7 :
 UInt8), (7 : UInt8), (7 : UInt8), (7 : UInt8), (7 : UInt8), (7 : UInt8), (7 : UInt8), (7 : UInt8), (7 : UInt8), (7 : UInt8), (7 : UInt8), (7 : UInt8), (7 : UInt8), (7 : UInt8), (7 : UInt8), (7 : UInt8), (7 : UInt8), (7 :
 UInt8), (7 : UInt8), (7 : UInt8), (7 : UInt8), (7 : UInt8), (7 : UInt8), (7 : UInt8), (7 : UInt8), (7 : UInt8), (7 : UInt8), (7 : UInt8), (7 : UInt8), (7 : UInt8), (7 : UInt8), (7 : UInt8), (7 : UInt8), (7 : UInt8), (7 :
 UInt8), (7 : UInt8), (7 : UInt8), (7 : UInt8), (7 : UInt8), (7 : UInt8), (7 : UInt8), (7 : UInt8), (7 : UInt8), (7 : UInt8), (7 : UInt8), (7 : UInt8), (7 : UInt8), (7 : UInt8), (7 : UInt8), (7 : UInt8), (7 : UInt8), (7 :
 UInt8), (7 : UInt8), (7 : UInt8), (7 : UInt8), (7 : UInt8), (7 : UInt8), (7 : UInt8), (7 : UInt8)]).append (z_l14_0.append z_l14_0)).getD (IntKind.u8.wrap (14 : Int)).toNat (0 : UInt8)).toNat % AHI) % AHI)) := by
 kernel_rfl
def AAG := pD APX (λ _ => .int 4) (λ x => [x = 13 ∨ x = 14])
def BBB (x : Int) : Prop := CL Try.prog (ann 8 [(Ut, AAG)]) X5 (AH X5) (oO x) (AB []) (.int 4) [] [] []
abbrev Ca a:=AF (WF a)
abbrev Qk:=Ca 4
attribute [go_sem] Ca Qk
theorem BFT (x : Int) : (BBB x) = (And (Or (AQ x 13) (AQ x 14)) Qk) := by kernel_rfl
def dGwp : List AVal -> Heap -> Option (Gw × List (Nat × Nat) × List Nat)
 | [.own id _ _ n, _, _, _, .fn (.func f) [] [.bptr c _]], H => if f = VS then match H id, Em H c with
  | .live (.row _ m r), some q => some (⟨q, QR n λ i => HM (r i)⟩, [(100, id), (101, c)], [])
  | _, _ => none else none
 | _, _ => none
def gwS (a : Gw) : List (Nat × HCell) := [(100, .live (ACJ a.l.length (jI (KT a.g) a.l))), (101, .live (bxG a.g))]
def C_pdqL : Ctr := { ro := [101], α := Gw, xs := λ a => [.own 100 1 0 a.l.length, .int 0, .int a.l.length, .int 4, iL], L := gwL, val := λ _ => .d (.tup []), keep := gwS, pre := λ a => [gwOk a /\ ndk (KT a.g) a.l] }
structure QB where
 a : Nat
 b : Nat
 l : List Int
 m : Int
 deriving Inhabited
def pqZ (a : Gw) (t : List (Nat × AVal)) : List (Nat × AVal) := [(0, .own 100 1 0 a.l.length), (1, .int 0), (2, .int a.l.length), (3, .int 4), (4, iL)] ++ t
def pqA (a : Gw) : Shape := { α := One, dflt := default, T := λ _ => ⟨pqZ a [(10, .bool true), (11, .bool true)], gwK a⟩, inv := λ _ => True, meas := λ _ => 1 }
def pqC (a : Gw) : Shape := { α := One, dflt := default, T := λ _ => ⟨pqZ a [(10, .bool true), (11, .bool true), (12, .int a.l.length)], gwK a⟩, inv := λ _ => True, meas := λ _ => 0 }
def pqD (a : Gw) : Shape := { α := One, dflt := default, T := λ _ => ⟨pqZ a [(12, .int a.l.length), (13, .int (chP a))], gwK a⟩, inv := λ _ => True, meas := λ _ => 0 }
def pqB (a : Gw) : Shape := { α := QB, dflt := default, T := λ x => ⟨[(0, .own 100 1 0 a.l.length), (1, .int x.a), (2, .int x.b), (3, .int 4), (4, iL), (10, .any), (11, .any), (105, .tup [.int x.m, .any])], [(100, .live (ACJ a.l.length x.l)), (101, .live (bxG a.g))]⟩, inv := λ x => (x.a <= x.b /\ x.b <= a.l.length /\ x.b <= x.a + 12) /\ (x.l.length = a.l.length /\ kL a.g x.l) /\ K9 (KT a.g) x.a x.b x.l = jI (KT a.g) a.l, meas := λ _ => 0 }
def BBI (a : Gw) : Ann := { ann 148 [(VS, C_fw1.spec dGAB), (vZ, C_insS.spec dGn), (H4, C_pdqS.spec dGnp), (Y1, C_cho.spec dGw), (yV, C_pin.spec dGw), (AIQ, C_ptn.spec dGp)] with E := [100, 101], loops := λ id => if id = 2 then some [pqB a, pqA a] else none, cutIn := λ gs id => if id = 5 then (if gs.getD 0 0 = 0 then some [] else some [pqC a]) else if id = 17 then some [pqD a] else none }
def AWO (a : Gw) : Prop := CL Try.prog (BBI a) O0 (AH O0) (C_pdqL.xs a) (AB (C_pdqL.L a)) (C_pdqL.val a) (C_pdqL.keep a) [] []
abbrev Oq:=QB.a
abbrev Hc:=QB.b
abbrev Kp:=QB.l
abbrev ADM a b:=kK (Kf a) b
abbrev T6 a:=xM (Jv a) (RZ a) (chP a)
abbrev ZQ a:=ADM a (T6 a)
abbrev ZP a b c:=xB (Gp.mk (Yr a) (RZ b) (chP c))
abbrev Xl a b:=ADM a (Kp b)
attribute [go_sem] Oq Hc Kp ADM T6 ZQ ZP Xl
theorem BFH (a : Gw) : (AWO a) = (AE (LZ (Kh (aR (SQ a) AJ (Hw a) Qk HF (SQ a) (AC (λ i=>Bw i a a i)) (UC a)))) ((λ (f : QB -> Prop) => ∀ (x : QB), f x) (λ i=>BX (AE (UA (DH (Oq i) (Hc i)) (DH (Hc i) (IH a)) (Hc i) (QT (Oq i) 12)) (Jm (Kp i) (IH a) (λ j=>qJ j (Kp i) (BQ (Kp i) j) (DT a))) (Ww (K9 (Ci a) (Oq i) (Hc i) (Kp i)) (jI (Ci a) (Kf a)))) (TV (DX (hd7 (Mb (Hc i) (BU (Oq i))) 12) (VL (Ff (HH (Xl a i) (IH a)) (AR (BW (Oq i)) (BW (Hc i)) (HH (Xl a i) (IH a)) (PI (Xl a i) (Kp i)) (SO a) (SN a) (XF a) (Na a) (PZ (DT a) (Kb a) (λ j=>Mj j a) (Ho a) (AC (λ j=>Jf j a j (Ht a j a j) (WE a j))) (SO a) (SN a) (XF a) (UK (DT a) (Ij a) (Iv a) (λ j=>Ia j (DT a) j (Hk a j) (Hu a j a j) (Jz a j a j) (WE a j)) (Gh (Oq i) (Hc i) (BV (Xl a i))) (Sx (Xl a i)) (AC (λ j=>TN j (Xl a i) j (DT a))))))) (Yj a (BV (Xl a i))) (λ j=>Np j a (AQ (BQ (jI (Ci a) (Kf a)) j) (BQ (K9 (Jv a) (Oq i) (Hc i) (Xl a i)) j))) (UC a)) NG)))) (Ju (Ah (DX (hd7 (Zw a) 12) (VL (Ff (Li a a) (AR (FL PW MF) (Hw a) (Li a a) (AC (λ i=>GZ i (RZ a) (UL a i))) (SO a) (SN a) (XF a) (Na a) (PZ (DT a) (Kb a) (λ i=>Mj i a) (Ho a) (AC (λ i=>Jf i a i (Ht a i a i) (WE a i))) (SO a) (SN a) (XF a) (UK (DT a) (Ij a) (Iv a) (λ i=>Ia i (DT a) i (Hk a i) (Hu a i a i) (Jz a i a i) (WE a i)) (Gh 0 (IH a) (Az a)) (OB (Az a)) (AC (λ i=>TN i (RZ a) i (DT a))))))) (Yj a (Az a)) (λ i=>Np i a (AQ (BQ (jI (Ci a) (Kf a)) i) (BQ (K9 (Jv a) PW (IH a) (RZ a)) i))) (UC a)) (LZ (Ff (SQ a) (AR AJ (Hw a) Qk HF HF (FL (IH a) (Zw a)) (SQ a) (AC (λ i=>Bw i a a i)) (UC a))))) (GN (AN AI (Li a a) AJ (IY (IN (Az a) (IH a)) (Li a a) (λ i=>GZ i (RZ a) (UL a i)) (SO a) (SN a) (XF a) (Na a) (AT (DT a)) (BY (Kb a) (λ i=>Mj i a) (Ho a) (AC (λ i=>Jf i a i (Ht a i a i) (WE a i))) (Yj a (Az a)) (AC (λ i=>Np i a (AQ (UL a i) (BQ (RZ a) i)))) (SO a) (SN a) (HE (DT a) (Ij a) (λ i=>EE i (DT a)) (Iv a) (λ i=>Ia i (DT a) i (Hk a i) (Hu a i a i) (Jz a i a i) (WE a i)) (Or (Xo a 13) (Xo a 14)) (AC (λ i=>TN i (RZ a) i (DT a))))))) (WI (chH (Gw.mk (Yr a) (RZ a))) 2) NG (Ah (DV (Jw IX IX (WI (chH (Gw.mk (Yr a) (RZ a))) 1)) (AN AI (Li a a) AJ (IY (IN (Az a) (IH a)) (Li a a) (λ i=>GZ i (RZ a) (UL a i)) (SO a) (SN a) (XF a) (Na a) (AT (DT a)) (BY (Kb a) (λ i=>Mj i a) (Ho a) (AC (λ i=>Jf i a i (Ht a i a i) (WE a i))) (Yj a (Az a)) (AC (λ i=>Np i a (AQ (UL a i) (BQ (RZ a) i)))) (SO a) (SN a) (HE (DT a) (Ij a) (λ i=>EE i (DT a)) (Iv a) (λ i=>Ia i (DT a) i (Hk a i) (Hu a i a i) (Jz a i a i) (WE a i)) (Or (Xo a 13) (Xo a 14)) (AC (λ i=>TN i (RZ a) i (DT a))))))) (JM (iC (Jv a) (RZ a) (Dx (Az a))) (SQ a) (AC (λ i=>Np i a (AQ (BQ (jI (Ci a) (Kf a)) i) (UL a i)))) (UC a) (LZ (Kh (AR (SQ a) AJ (Hw a) Qk (Hw a) (AQ (chP a) (chP (Gw.mk (Yr a) (RZ a)))) (SQ a) (AC (λ i=>Bw i a a i)) (UC a))))) (LZ (Kh (AR (SQ a) AJ (Hw a) Qk (Hw a) (AQ (chP a) (chP (Gw.mk (Yr a) (RZ a)))) (SQ a) (AC (λ i=>Bw i a a i)) (UC a))))) (AN (PA (SC (DQ (OZ 0) (IH a))) (SC (PE (OZ 0) (IH a))) (DQ (chP a) (IH a)) (SC (PE (chP a) (IH a))) (SC (CI (eZ a (MH (OZ 0))) (eZ a (MH (chP a))) (SO a) (SN a) (XF a) (Na a) (PZ (DT a) (Kb a) (λ i=>Mj i a) (Ho a) (AC (λ i=>Jf i a i (Ht a i a i) (WE a i))) (SO a) (SN a) (XF a) (UK (DT a) (Ij a) (Iv a) (λ i=>Ia i (DT a) i (Hk a i) (Hu a i a i) (Jz a i a i) (WE a i)) (DQ (UL a 0) (FS (DT a))) (DC (UL a (MH (chP a)))) (DW (UL a (MH (chP a))) (FS (DT a)))))))) (Ff (Li a a) (AR AJ (IN (Az a) (IH a)) (AF (chP a)) (Li a a) (AC (λ i=>GZ i (RZ a) (UL a i))) (SO a) (SN a) (XF a) (JA (DT a) (Kb a) (SE (DT a)) (Ho a) (λ i=>Jf i a i (Ht a i a i) (WE a i)) (SO a) (SN a) (HE (DT a) (Ij a) (λ i=>EE i (DT a)) (Iv a) (λ i=>Ia i (DT a) i (Hk a i) (Hu a i a i) (Jz a i a i) (WE a i)) (RG (Or (Xo a 13) (Xo a 14)) (chP a) (Az a)) (AC (λ i=>TN i (RZ a) i (DT a))))))) (BX (AQ (WF 8) MF) NG) (DV (IP (Mb (ZP a a a) 0) (wI a (BU (ZP a a a)))) (Ff (HH (ZQ a) (IH a)) (AR (FL PW MF) (BW (ZP a a a)) (EK (ZQ a) (RZ a)) (PI (ZQ a) (T6 a)) (SO a) (SN a) (XF a) (Na a) (PZ (DT a) (Kb a) (λ i=>Mj i a) (Ho a) (AC (λ i=>Jf i a i (Ht a i a i) (WE a i))) (SO a) (SN a) (XF a) (UK (DT a) (Ij a) (Iv a) (λ i=>Ia i (DT a) i (Hk a i) (Hu a i a i) (Jz a i a i) (WE a i)) (UA (DH 0 (ZP a a a)) (Ba (ZP a a a) (ZQ a)) (ZP a a a) 12) (Sx (ZQ a)) (AC (λ i=>TN i (ZQ a) i (DT a))))))) ((@Exists QB) (λ i=>JG (AR AI (SQ a) (BH (Oq i) (ZP a a a)) (IN (Hc i) (IH a)) Qk (AQ (QB.m i) (BU (ZP a a a))) (Yj a (BV (ZQ a))) (AC (λ j=>Np j a (AQ (BQ (Kp i) j) (BQ (K9 (Jv a) PW (ZP a a a) (ZQ a)) j)))) (UC a)) (AE (UA (DH (Oq i) (Hc i)) (DH (Hc i) (IH a)) (Hc i) (QT (Oq i) 12)) (Jm (Kp i) (IH a) (λ j=>qJ j (Kp i) (BQ (Kp i) j) (DT a))) (Ww (K9 (Ci a) (Oq i) (Hc i) (Kp i)) (jI (Ci a) (Kf a)))) 0 1)) (And (Ff (HH (ZQ a) (IH a)) (AR (BH (PT (ZP a a a)) (ZP a a a)) (Hw a) (EK (ZQ a) (RZ a)) (PI (ZQ a) (T6 a)) (SO a) (SN a) (XF a) (Na a) (PZ (DT a) (Kb a) (λ i=>Mj i a) (Ho a) (AC (λ i=>Jf i a i (Ht a i a i) (WE a i))) (SO a) (SN a) (XF a) (UK (DT a) (Ij a) (Iv a) (λ i=>Ia i (DT a) i (Hk a i) (Hu a i a i) (Jz a i a i) (WE a i)) (UA (DH (PT (ZP a a a)) (IH a)) (Ba (IH a) (ZQ a)) (IH a) (QT (PT (ZP a a a)) 12)) (Sx (ZQ a)) (AC (λ i=>TN i (ZQ a) i (DT a))))))) ((@Exists QB) (λ i=>JG (AR AI (SQ a) (BR (Oq i)) (IN (Hc i) (ZP a a a)) Qk (AQ (QB.m i) (BU (ZP a a a))) (Yj a (BV (ZQ a))) (AC (λ j=>Np j a (AQ (BQ (Kp i) j) (BQ (K9 (Jv a) (PT (ZP a a a)) (IH a) (ZQ a)) j)))) (UC a)) (AE (UA (DH (Oq i) (Hc i)) (DH (Hc i) (IH a)) (Hc i) (QT (Oq i) 12)) (Jm (Kp i) (IH a) (λ j=>qJ j (Kp i) (BQ (Kp i) j) (DT a))) (Ww (K9 (Ci a) (Oq i) (Hc i) (Kp i)) (jI (Ci a) (Kf a)))) 0 1)))))))))) := by kernel_rfl
def C_srt : Ctr := { C_sort with pre := λ (a : GL) => [(a.l.length <= 12 ∨ (a.l.length = 13 ∨ a.l.length = 14) /\ ndk (KT a.g) a.l) /\ glOk a] }
def AYX : Ann := { ann 14 [(D0, ACM), (H4, C_pdqS.spec dGnp)] with E := [100, 101] }
def AUL (a : GL) : Prop := CL Try.prog AYX dM (AH dM) (C_sort.xs a) (AB (C_sort.L a)) (C_sort.val a) (C_sort.keep a) [] []
abbrev Kn:=GL.l
abbrev MA:=GL.g
abbrev VM a:=Sq (Kn a)
abbrev Qp a:=BV (Kn a)
abbrev Yi a:=Pg (BU a)
attribute [go_sem] Kn MA VM Qp Yi
theorem BFV (a : GL) : (AUL a) = (VL (AN (Qb (Yi (Qp a)) (HD (Yi (Qp a)) 20)) AI (EK (VM a) (Kn a)) (AR (FL PW MF) (BW (Qp a)) (EK (VM a) (Kn a)) (PI (VM a) (Kn a)) (AM (MA a)) (AL (MA a)) (AP (MA a)) (AS (MA a)) (PZ (MA a) (BM (MA a)) (λ i=>AZ i (MA a)) (BK (MA a)) (JB (MA a)) (AM (MA a)) (AL (MA a)) (AP (MA a)) (UK (MA a) (CA (MA a)) (BZ (MA a)) (λ i=>CP i (MA a)) (UA (Ba 0 (Kn a)) (Ba (Qp a) (VM a)) (Qp a) 12) (Sx (VM a)) (AC (λ i=>TN i (VM a) i (MA a))))))) (EK (Kn a) (VM a)) (λ i=>MD i (Kn a) (jI (XE (MA a)) (Kn a)) i (BQ (K9 (Rj (MA a)) PW (Qp a) (VM a)) i)) (FO (MA a))) := by kernel_rfl
def AYE : Ann := { ann 14 [(D0, AAG), (H4, C_pdqL.spec dGwp)] with E := [100, 101] }
def AYK (a : GL) : Prop := CL Try.prog AYE dM (AH dM) (C_sort.xs a) (AB (C_sort.L a)) (C_sort.val a) (C_sort.keep a) [] []
theorem BEK (a : GL) : (AYK a) = (VL (AN (Or (AQ (Yi (Qp a)) 13) (AQ (Yi (Qp a)) 14)) AI (EK (VM a) (Kn a)) (AR AJ (IN (BV (VM a)) (Qp a)) Qk (EK (VM a) (Kn a)) (PI (VM a) (Kn a)) (AM (MA a)) (AL (MA a)) (AP (MA a)) (JA (MA a) (BM (MA a)) (SE (MA a)) (BK (MA a)) (λ i=>BJ i (MA a)) (AM (MA a)) (AL (MA a)) (HE (MA a) (CA (MA a)) (λ i=>EE i (MA a)) (BZ (MA a)) (λ i=>CP i (MA a)) (MU (Or (HH (VM a) 13) (HH (VM a) 14)) (λ i=>TN i (VM a) i (MA a))) ((@List.Pairwise Int) Ow ((@List.map Int Int) (Rj (MA a)) (VM a))))))) (EK (Kn a) (VM a)) (λ i=>MD i (Kn a) (jI (XE (MA a)) (Kn a)) i (BQ (jI (Rj (MA a)) (VM a)) i)) (FO (MA a))) := by kernel_rfl
theorem BDG {a : Gn} (h : a.a <= a.l.length) {m : List Int} {i : Nat} (hi : i < m.length) : gD (whG a m) (a.a + i) = gD m i := by
 have := xW (P := a.l.take a.a) (m := m) (S := a.l.drop a.b) (i := i) hi
 rw [show (a.l.take a.a).length = a.a by rw [List.length_take]; omega] at this; exact this
theorem BFQ {a : Gn} (h : a.a <= a.b /\ a.b <= a.l.length) {m : List Int} (hm : m.length = a.b - a.a) : (whG a m).length = a.l.length := by
 unfold whG; rw [BND, hm, List.length_take, List.length_drop]; omega
theorem BKX {a : Gn} (h : a.a <= a.b /\ a.b <= a.l.length) {m : List Int} (hm : m.length = a.b - a.a) {j x : Nat} (hj : j + 1 < m.length) (hx : x < a.l.length) : gD (whG a (swL m j)) x = bif decide (x = a.a + j) then gD (whG a m) (a.a + (j + 1)) else bif decide (x = a.a + (j + 1)) then gD (whG a m) (a.a + j) else gD (whG a m) x := by
 have := BPR (P := a.l.take a.a) (m := m) (S := a.l.drop a.b) (j := j) (x := x) hj (by have := BFQ h hm; unfold whG at this; rw [this]; exact hx)
 rw [show (a.l.take a.a).length = a.a by rw [List.length_take]; omega] at this; exact this
theorem BOK (a : Gn) (hab : a.a <= a.b /\ a.b <= a.l.length) (h : gnOk a) : BAC a := by
 obtain ⟨hlen, hin⟩ := h
 have e0 : whG a (M4 a.a a.b a.l) = a.l := AXO hab.1 hab.2
 have ml := M1 hab.1 hab.2
 have wm : ∀ {m : List Int} {i : Nat}, i < m.length -> gD (whG a m) (a.a + i) = gD m i := λ hi => BDG (by omega) hi
 rw [BDI]<;> delta KY Aq BA BI FW OH PR Cs EX FI CE AC BX CM AQ BU DH DX IP HD LS PG JV ER GP GA HQ HT HC HR DS GB ED IX As HV QT LL YY BV BQ Uc Ot XE TQ Ks Ob WX Vf LN Ww Im iY gY AE BG AW EO GJ GI AG GM BF BE CK AR CN BD AF JJ CG BC bE Tu AO CQ GT BS CV JL CY BO HK CR DD AL KA CF AM AT DM DR DZ GF GG BB DW RB AS DJ EG FC AP EY FG FS EN DC DB CS HW FV GR FZ JD DF KU FK HA KB LQ FU EH FE ET DE CJ GQ AN LP NY FY FJ EV DI MH JS OZ WZ FL JE HY JH AI HH LV JG BH HL JQ KV JP DV DQ DG BK IT EB KF LM LX OJ MR CW OX QV Bf IN QI MD KR MO IS MU OV QS QY HG TR HX ME Iq hU DU BM BZ CA EP FQ QN AZ CH IY JC CI BW JN Qq GH FP VW Fu CO HP Wh FF FO GO KL KN Jm JA RO EE BJ PE CP OT XD NN KI JB Fd X7 XS UJ Mq PZ Vu Zb UK Zi Yh Zu Gj eQ fA kV fQ iX; simp only [CC, eq_self, implies_true, forall_const, DN]
 refine ⟨⟨⟨1, M4 a.a a.b a.l⟩, ⟨(FH (by omega)).symm, λ i hi => by rw [e0]⟩, Nat.one_pos, .inr rfl, ⟨ml, λ i hi => by rw [AUO hab.2 (by omega)]; exact hin _ (by omega)⟩, by unfold jI; rw [ml]⟩, λ x ⟨x1, x2, ⟨x3, x4⟩, x5⟩ => ⟨λ hlt => ⟨⟨⟨x.i, x.i, x.l⟩, ⟨rfl, rfl, λ _ _ => rfl⟩, rfl, x1, by show x.i < a.b - a.a; omega, Nat.le_refl _, ⟨x3, x4⟩, ?_⟩, λ y ⟨y1, y2, y3, y4, ⟨y5, y6⟩, y7⟩ => ?_⟩, λ hge => ?_⟩⟩
 ·rw [x5, show a.b - a.a - x.i = (a.b - a.a - (x.i + 1)) + 1 by omega]; rfl
 ·have e : 0 < y.j -> IntKind.i64.wrap (((a.a + y.j : Nat) : Int) - 1) = ((a.a + (y.j - 1) : Nat) : Int) := λ h => (Dh (by omega) (by omega)).trans (by omega)
  refine ⟨⟨λ hg => ⟨by omega, by omega⟩, λ hg => by omega, λ hg => ?_, λ hg => ?_, λ hg => ⟨?_, ?_⟩⟩, λ hc => ?_, λ hc => ?_⟩
  ·rw [e (by omega)]; omega
  ·rw [e (by omega), Int.toNat_natCast]; omega
  ·rw [wm (by omega)]; exact y6 _ (by omega)
  ·rw [e (by omega), Int.toNat_natCast, wm (by omega)]; exact y6 _ (by omega)
  ·have hj : 0 < y.j := by
    cases hd : decide (((a.a + y.j : Nat) : Int) > (a.a : Int)) with
    | false => rw [hd] at hc; cases hc
    | true => have := of_decide_eq_true hd; omega
   obtain ⟨j, hj2⟩ : ∃ j, y.j = j + 1 := ⟨y.j - 1, by omega⟩
   rw [decide_eq_true (show ((a.a + y.j : Nat) : Int) > (a.a : Int) by omega)] at hc
   have hc : decide (iE (KT a.g (gD (whG a y.l) (a.a + y.j))) (KT a.g (gD (whG a y.l) (IntKind.i64.wrap (((a.a + y.j : Nat) : Int) - 1)).toNat)) < 0) = true := hc
   have hc := of_decide_eq_true hc
   rw [e hj] at hc ⊢
   simp only [Int.toNat_natCast] at hc ⊢
   rw [wm (by omega), wm (by omega)] at hc
   rw [show y.j - 1 = j by omega] at hc ⊢
   refine ⟨⟨⟨by omega, by omega⟩, by omega, ⟨by omega, by omega⟩, by omega, ⟨by omega, by omega⟩, by omega, ⟨by omega, by omega⟩, by omega⟩, ⟨y.i, j, swL y.l j⟩, ⟨rfl, rfl, λ i hi => ?_⟩, ⟨y1, y2, y3, by show j <= y.i; omega, ⟨by rw [kI]; exact y5, λ i hi => ?_⟩, ?_⟩, by show j < _; omega⟩
   ·rw [BKX hab y5 (by omega) hi, hj2]
   ·show 0 <= gD (swL y.l j) i /\ gD (swL y.l j) i < _
    rw [AAZ (by omega)]
    cases decide (i = j)
    ·cases decide (i = j + 1)
     ·exact y6 i hi
     ·exact y6 j (by omega)
    ·exact y6 (j + 1) (by omega)
   ·rw [hj2] at hc y7
    unfold uT at y7
    rw [decide_eq_true hc] at y7; exact y7
  ·have hq : uT (KT a.g) y.j y.l = y.l := by
    rcases Nat.eq_zero_or_pos y.j with hj | hj
    ·rw [hj]; rfl
    ·obtain ⟨j, hj2⟩ : ∃ j, y.j = j + 1 := ⟨y.j - 1, by omega⟩
     rw [decide_eq_true (show ((a.a + y.j : Nat) : Int) > (a.a : Int) by omega)] at hc
     have hc : decide (iE (KT a.g (gD (whG a y.l) (a.a + y.j))) (KT a.g (gD (whG a y.l) (IntKind.i64.wrap (((a.a + y.j : Nat) : Int) - 1)).toNat)) < 0) = false := hc
     have hc := of_decide_eq_false hc
     rw [e hj, Int.toNat_natCast, wm (by omega), wm (by omega), show y.j - 1 = j by omega, hj2] at hc
     rw [hj2]; unfold uT; rw [decide_eq_false hc]; rfl
   rw [hq] at y7
   refine ⟨⟨y.i + 1, y.l⟩, ⟨(FH (a := a.a + y.i) (by omega)).symm, λ _ _ => rfl⟩, ⟨by show 0 < y.i + 1; omega, .inl (by show y.i + 1 <= _; omega), ⟨y5, y6⟩, y7⟩, by show a.b - a.a - (y.i + 1) < _; omega⟩
 ·intro i hi
  unfold K9
  rw [x5, show a.b - a.a - x.i = 0 by omega]; rfl
theorem ASC : AK Try.prog vZ (C_insS.spec dGn) := XM C_insS AUW [] [] ASB (λ _ => by kernel_rfl) (λ _ => AA S2 AD) (λ (a : Gn) h => by
 obtain ⟨h1, h2⟩ : (a.a <= a.b /\ a.b <= a.l.length) /\ gnOk a := h
 exact BOK a h1 h2) (λ _ => YR rfl rfl) _
theorem ARE : AK Try.prog H4 (C_pdqS.spec dGnp) := XM C_pdqS AXR [] [] ALP (λ _ => by kernel_rfl) (λ _ => AA ASC AD) (λ (a : Gn) h => by
 obtain ⟨h1, h2⟩ : (a.a <= a.b /\ a.b <= a.l.length /\ a.b <= a.a + 12) /\ gnOk a := h
 show AVT a
 have h3 := h2.1
 rw [BGG]<;> delta KY hd7 BA BI FW OH PR Cs EX FI CE AC BX CM AQ BU DH DX HD LS ER GP GA HQ HT HC HR DS GB ED LG IX NG BV BQ SA Wz Kr XE TQ Ks Ob LN AE BG AW EO GJ GI AG GM BF BE UR CK AR CN BD AF JJ CG BC EZ aR AO CQ GT BS CV JL CY BO HK CR DD AL kK KA Sq CF AM AT DM DR DZ GG DW RB AS DJ EG FC AP EY FG FS EN DC DB CS HW FV JD DF KU HA KB LQ FU EH FE ET DE AN LP NY FY FJ EV JS JE HY JH AI HH JI Rj JQ KV BK IT EB KF LM EK OJ MR OX QV Bf QI MD KR MO OV QS QY BM BZ CA EP FQ GZ QN AZ CH IY JC BW JN Qq VG FP HF Ub FF FO GO KL Mb Jd Ly TV LZ JA Gh ZT EE BJ CP XD OB KI Uv JB PI TN Ju PZ VL Ah Zk Ff UK Zi Yh Zu Sx fA fQ; simp only [CC, eq_self, implies_true, forall_const, DN]
 exact ⟨⟨default, trivial⟩, λ _ => ⟨⟨h1.1, h1.2.1⟩, h2⟩, λ hc => hc (by rw [Dh (by omega) (by omega)]; omega)⟩) (λ _ => YR rfl rfl) _
theorem jG {n : Nat} {x : Int} (h : 0 <= x /\ x < (n : Int)) : x.toNat < n := by omega
theorem BRA : AK Try.prog Y8 (C_o2.spec dO2) := XM C_o2 (λ _ => A_o2) [] [] ASY (λ _ => by kernel_rfl) (λ _ => AA S2 AD) (λ (a : O2) h => by
 obtain ⟨⟨h1, h2⟩, h3⟩ : ((0 <= a.a /\ a.a < a.l.length) /\ 0 <= a.b /\ a.b < a.l.length) /\ kL a.g a.l := h
 show V_o2 a
 rw [BRP]; delta AMJ ALO zZ wW S3 U4 AHA ADZ AOT AOP AEC L9 nU L7 AHH AHE AEA AGR AHD AIK AGV AHR AHF AED AIO AFK AET AII AEO ADX AGU; simp only [CC, eq_self, implies_true, forall_const, DN]
 refine ⟨⟨h2, jG h2, h1, jG h1, h3 _ (jG h2), h3 _ (jG h1)⟩, λ hc => ?_, λ hc => ?_⟩
 ·have e : o2L (KT a.g) a.l a.a a.b = true := decide_eq_true hc
  unfold o2A o2B o2S; rw [e]; exact ⟨rfl, rfl, rfl⟩
 ·have e : o2L (KT a.g) a.l a.a a.b = false := decide_eq_false hc
  unfold o2A o2B o2S; rw [e]; exact ⟨rfl, rfl, rfl⟩) (λ _ => YR rfl rfl) _
theorem BIL {key : Int -> Int} {l : List Int} {n a b : Int} (ha : 0 <= a /\ a < n) (hb : 0 <= b /\ b < n) : (0 <= o2A key l a b /\ o2A key l a b < n) /\ 0 <= o2B key l a b /\ o2B key l a b < n := by
 unfold o2A o2B
 cases o2L key l a b
 ·exact ⟨ha, hb⟩
 ·exact ⟨hb, ha⟩
theorem BRU : AK Try.prog Q9 (C_md.spec dMd) := XM C_md (λ _ => A_md) [] [] ASV (λ _ => by kernel_rfl) (λ _ => AA BRA AD) (λ (a : Md) h => by
 obtain ⟨⟨h1, h2, h3⟩, h4⟩ : ((0 <= a.a /\ a.a < a.l.length) /\ (0 <= a.b /\ a.b < a.l.length) /\ 0 <= a.c /\ a.c < a.l.length) /\ kL a.g a.l := h
 show V_md a
 have q1 := BIL (key := KT a.g) (l := a.l) h1 h2
 have q2 := BIL (key := KT a.g) (l := a.l) q1.2 h3
 rw [BQX]<;> delta BA BI FW EX FI CE AC BX CM AQ BU HD LS ER GP GA HQ HT HC HR DS GB ED BV BQ SA XE Bx Eu Et HI hX AE BG AW EO GJ GI AG GM BF BE UR CK AR CN BD AF JJ CG BC AO CQ GT BS CV JL CY BO CR DD AL kK KA Sq CF AM AT DM DR DZ GG DW RB AS DJ EG FC AP EY FG FS EN DC DB CS HW FV GR JD DF HA KB LQ FU EH FE ET DE GQ AN BY LP NY FY FJ EV JS JE HY JH AI HH Rj JQ KV OL HJ DQ BK IT EB KF LM EK OJ MR QV Bf MD KR MO OV QS QY BM BZ CA EP FQ GZ AZ CH IY JC JN Qq VG FP HP Ub HE FF GO KL DO Ly Ch RD ZT EE BJ NZ RG CP PI TN UB gQ eK Ts; simp only [CC, eq_self, implies_true, forall_const, DN]
 exact ⟨⟨⟨h1, h2⟩, h4⟩, ⟨⟨q1.2, h3⟩, h4⟩, ⟨⟨q1.1, q2.1⟩, h4⟩, rfl, rfl⟩) (λ _ => YR rfl rfl) _
theorem BBX {n : Nat} (h : n = 13 ∨ n = 14) : IntKind.i64.wrap ((n : Int) - 0) = (n : Int) /\ IntKind.i64.wrap ((n : Int).tdiv 4) = 3 := by
 rcases h with h | h <;> subst h <;> decide
theorem BMQ : AK Try.prog Y1 (C_cho.spec dGw) := XM C_cho (λ _ => BJW) [] [] ASS (λ _ => by kernel_rfl) (λ _ => AA BRU AD) (λ (a : Gw) h => by
 obtain ⟨h1, h2⟩ : (a.l.length = 13 ∨ a.l.length = 14) /\ kL a.g a.l := h
 show BHS a
 obtain ⟨w1, w2⟩ := BBX h1
 have w3 : IntKind.i64.wrap (0 + IntKind.i64.wrap (3 * 1)) = 3 := by decide
 have w4 : IntKind.i64.wrap (0 + IntKind.i64.wrap (3 * 2)) = 6 := by decide
 have w5 : IntKind.i64.wrap (0 + IntKind.i64.wrap (3 * 3)) = 9 := by decide
 rw [BON]<;> delta lI BA BI FW OH PR Cs EX FI CE AC BX CM AQ BU WF DX HD LS PG ER GP GA HQ HT HC HR DS GB ED WI NG BV BQ SA Re XE Kf DT AE BG AW EO GJ GI AG GM BF BE UR CK AR CN BD AF JJ CG BC YT AO CQ GT BS CV JL CY BO HK CR DD AL kK KA Sq CF AM AT DM DR DZ GF GG DW RB AS DJ EG FC AP EY FG FS EN DC DB CS HW FV GR JD DF KU HA IH KB LQ FU EH FE ET DE GQ AN BY LP NY FY FJ EV RZ MF JS JE HY JH AI HH Rj JQ JF KV WE HJ DQ BK IT EB KF LM OJ MR CW OX QV QI MD KR MO OV QS QY pO BM BZ CA EP GZ QN AZ CH IY JC UL JN Qq Jv wU GN Ub HE FF FO GO KL Mb DO wI Ia EE Zw SN SQ SO Np UC eZ U6 XF Xo Az TN Bw Ij Li Iv Hk Kb Ho WA Na Mj Hu aC Ht Ym Jz Ej Jf Yj eR Nk; simp only [CC, eq_self, implies_true, forall_const, DN]
 rw [w1, w2, w3, w4, w5]
 have hs := BNF (KT a.g) a.l 3 6 9
 refine ⟨λ h => (by cases h), λ h => (by cases h), λ h => (by cases h), λ _ => ⟨λ h => by omega, λ _ => ⟨⟨rfl, ⟨⟨by omega, by omega⟩, ⟨by omega, by omega⟩, by omega, by omega⟩, h2⟩, λ hc => ⟨rfl, ?_⟩, λ hc => ⟨λ hd => ?_, λ hd => ⟨rfl, ?_⟩⟩⟩⟩, λ h => by omega⟩
 ·unfold chH; rw [hc]; rfl
 ·have hd : mnS (KT a.g) a.l 3 6 9 0 = 12 := by simpa using hd
  omega
 ·unfold chH; rw [hc]; rfl) (λ _ => YR rfl rfl) _
theorem APD {key : Int -> Int} {l : List Int} {i : Nat} : ∀ {n : Nat}, i <= n -> iC key l n = true -> iC key l i = true
 | 0, h, q => by
  obtain rfl : i = 0 := by omega
  exact q
 | n + 1, h, q => by
  rcases Nat.lt_or_ge i (n + 1) with r | r
  ·unfold iC at q
   rw [Bool.and_eq_true] at q
   exact APD (by omega) q.1
  ·obtain rfl : i = n + 1 := by omega
   exact q
theorem BMF : AK Try.prog yV (C_pin.spec dGw) := XM C_pin BJQ [] [] ANM (λ _ => by kernel_rfl) (λ _ => AA S2 AD) (λ (a : Gw) h => by
 obtain ⟨h1, h2⟩ : (a.l.length = 13 ∨ a.l.length = 14) /\ kL a.g a.l := h
 show BJL a
 obtain ⟨w1, _⟩ := BBX h1
 rw [BLE]<;> delta KY Aq BA BI FW OH PR Cs EX FI CE AC BX CM AQ BU WF DH DX IP HD LS PG JV ER GP GA HQ HT HC HR DS GB ED GW LG WI IX HV QT NG BT LL BV BQ Ot XE Kf DT AE BG AW EO GJ GI AG GM BF BE CK AR CN BD AF JJ CG BC Tu AO CQ GT BS CV JL CY BO HK CR DD AL KA CF AM AT DM DR DZ GF GG BB DW RB AS DJ EG FC AP EY FG FS EN DC DB CS HW FV GR FZ JD DF KU FK HA IH KB LQ FU EH FE ET DE CJ GQ AN LP FY FJ EV DI MH MF JS OZ FL JE HY JH AI LV JG BH HL JI JQ KV JP WE DQ DG BK IT EB KF LM LX OJ MR OX QI KR MO IS MU OV QS QY HG EU ME DU BM BZ CA EP QN AZ CH AJ IY JC CI UL BW JN Dx GH FP VW GN DY FF FO GO KL Mb TV wI Yr JA Ia EE Zw PE SN SQ SO Np UC eZ KI XF ZX Ci ML Hw Bw Ij UJ Iv Hk PZ Kb VL Ho Na UK Mj Hu Jj Ht Jz Jf kO Nk; simp only [CC, eq_self, implies_true, forall_const, DN]
 rw [w1]
 refine ⟨⟨1, by decide, rfl⟩, λ a1 e1 => ?_⟩
 subst e1
 refine ⟨⟨0, rfl, by omega, rfl⟩, λ i ⟨i1, i2⟩ => ?_⟩
 have e : IntKind.i64.wrap (((i + 1 : Nat) : Int) - 1) = (i : Int) := (Dh (by omega) (by omega)).trans (by omega)
 rw [e]
 simp only [Int.toNat_natCast]
 refine ⟨⟨λ h => ⟨by omega, by omega⟩, λ h => by omega, λ h => ⟨by omega, by omega⟩, λ h => by omega, λ h => ⟨h2 _ (by omega), h2 _ (by omega)⟩⟩, λ hc => ?_, λ hc => ⟨λ hd => ?_, λ hd => ⟨λ _ => ?_, λ h => by omega⟩⟩⟩
 ·have hi : i + 1 < a.l.length := by
   rcases Nat.lt_or_ge (i + 1) a.l.length with q | q
   ·exact q
   ·rw [decide_eq_false (by omega)] at hc; cases hc
  rw [decide_eq_true (show ((i + 1 : Nat) : Int) < (a.l.length : Int) by omega)] at hc
  refine ⟨i + 1, (FH (by omega)).symm, ⟨hi, ?_⟩, by omega⟩
  unfold iC; rw [i2]; exact hc
 ·have hd : ((i + 1 : Nat) : Int) = (a.l.length : Int) := by simpa using hd
  rw [show a.l.length - 1 = i by omega]; exact i2
 ·have hd : ¬((i + 1 : Nat) : Int) = (a.l.length : Int) := by simpa using hd
  rw [decide_eq_true (show ((i + 1 : Nat) : Int) < (a.l.length : Int) by omega)] at hc
  have hs : iC (KT a.g) a.l (i + 1) = false := by unfold iC; rw [i2]; exact hc
  cases q : iC (KT a.g) a.l (a.l.length - 1) with
  | false => rfl
  | true => rw [APD (show i + 1 <= a.l.length - 1 by omega) q] at hs; cases hs) (λ _ => YR rfl rfl) _
theorem BIX {key : Int -> Int} {i j : Nat} {l : List Int} (h1 : i <= j) (h2 : key (gD l i) < key (gD l 0)) : YV key false i j l = YV key false (i + 1) j l := by
 conv => lhs; unfold YV
 rw [if_pos rfl, if_pos ⟨h1, h2⟩]
theorem APZ {key : Int -> Int} {i j : Nat} {l : List Int} (h : ¬(i <= j /\ key (gD l i) < key (gD l 0))) : YV key false i j l = YV key true i j l := by
 conv => lhs; unfold YV
 rw [if_pos rfl, if_neg h]
theorem BJJ {key : Int -> Int} {i j : Nat} {l : List Int} (h0 : 1 <= j) (h1 : i <= j) (h2 : ¬key (gD l j) < key (gD l 0)) : YV key true i j l = YV key true i (j - 1) l := by
 conv => lhs; unfold YV
 rw [if_neg (by decide), if_pos ⟨h0, h1, h2⟩]
theorem BAP {key : Int -> Int} {i j : Nat} {l : List Int} (h : i > j) : YV key true i j l = ⟨j, l⟩ := by
 conv => lhs; unfold YV
 rw [if_neg (by decide), if_neg (by omega), if_pos h]
theorem BJH {key : Int -> Int} {i j : Nat} {l : List Int} (h : ¬i > j) (h2 : ¬(i <= j /\ ¬key (gD l j) < key (gD l 0))) : YV key true i j l = YV key false (i + 1) (j - 1) (sw2 l i j) := by
 conv => lhs; unfold YV
 rw [if_neg (by decide), if_neg (λ q => h2 q.2), if_neg h]
theorem cU {i j : Nat} {u v : Int} : (bif decide ((i : Int) <= (j : Int)) then decide (iE u v < 0) else false) = true ↔ i <= j /\ u < v := by
 by_cases h : (i : Int) <= (j : Int)
 ·rw [decide_eq_true h]
  show decide (iE u v < 0) = true ↔ _
  rw [decide_eq_true_eq, E5]
  exact ⟨λ q => ⟨by omega, q⟩, λ q => q.2⟩
 ·rw [decide_eq_false h]
  exact ⟨λ q => (by cases q), λ q => absurd q.1 (by omega)⟩
theorem cD {i j : Nat} {u v : Int} : (bif decide ((i : Int) <= (j : Int)) then !decide (iE u v < 0) else false) = true ↔ i <= j /\ ¬u < v := by
 by_cases h : (i : Int) <= (j : Int)
 ·rw [decide_eq_true h]
  show (!decide (iE u v < 0)) = true ↔ _
  rw [Bool.not_eq_true', decide_eq_false_iff_not, E5]
  exact ⟨λ q => ⟨by omega, q⟩, λ q => q.2⟩
 ·rw [decide_eq_false h]
  exact ⟨λ q => (by cases q), λ q => absurd q.1 (by omega)⟩
theorem no_t {b : Bool} (h : b = false) : ¬b = true := by rw [h]; decide
theorem nJ {g : Cht} {l m : List Int} (hp : m.Perm l) (h : kL g l) : kL g m := λ i hi => by
 obtain ⟨j, hj, e⟩ := YH (hp.mem_iff.1 (WR hi))
 rw [<- e]; exact h j hj
theorem AVU {a : Gp} {j : Nat} {l : List Int} (h : gpR a = ⟨j, l⟩) (hl : l.length = a.l.length) (hj : j < a.l.length) : ((gpR a).j : Int) = (j : Int) /\ ∀ i, i < a.l.length -> gD (ptL (KT a.g) a.l a.p.toNat) i = bif decide (i = 0) then gD l j else bif decide (i = j) then gD l 0 else gD l i := by
 refine ⟨by rw [h], λ i hi => ?_⟩
 have e : ptM (KT a.g) a.l a.p.toNat = ⟨j, l⟩ := h
 unfold ptL
 rw [e]
 exact rZ (by show j < l.length; omega) (by show 0 < l.length; omega)
theorem BHX {key : Int -> Int} {i j : Nat} {l : List Int} (h1 : ¬i > j) (h2 : i <= j -> ¬key (gD l i) < key (gD l 0)) (h3 : ¬(i <= j /\ ¬key (gD l j) < key (gD l 0))) : i < j := by
 rcases Nat.lt_or_ge i j with q | q
 ·exact q
 ·obtain rfl : i = j := by omega
  exact absurd ⟨Nat.le_refl _, h2 (Nat.le_refl _)⟩ h3
theorem BPM (a : Gp) (h1 : a.l.length = 13 ∨ a.l.length = 14) (hp : 0 <= a.p /\ a.p < a.l.length) (h2 : kL a.g a.l) : BHG a := by
 have hn : 0 < a.l.length := by omega
 have z2 : (0 : Int) <= 0 /\ (0 : Int) < (a.l.length : Int) := ⟨Int.le_refl _, by omega⟩
 have sp := bB hn (jG hp)
 rw [BOA]<;> delta KY hd7 Aq BA BI FW OH PR Cs EX FI CE AC BX CM AQ BU WF DH DX IP HD LS PG JV ER GP GA HQ HT HC HR DS GB ED IX As HV QT LL YY BV BQ Uc Ot XE jV hY IG RX IC V9 AE BG AW EO GJ GI AG GM BF BE CK AR CN BD AF JJ CG BC bE AO CQ GT BS CV JL CY BO HK CR DD AL KA CF AM AT DM DR DZ GF GG BB DW RB AS DJ EG FC AP EY FG FS EN DC DB CS HW FV GR FZ JD DF KU FK HA KB LQ FU EH FE ET DE CJ GQ AN LP NY FY FJ EV DI MH TS MF JS OZ WZ FL JE HY JH AI HH LV JG BH HL JQ Hi KV JP DQ DG BK IT EB KF LM LX OJ MR OX QV IN QI MD KR MO MU OV QS QY TR ME BM BZ CA EP FQ QN AZ CH AJ IY JC CI JN Qq Yz GH FP VW GN MB UA HP Ub FF FO GO KL R8 KN Jm Zy xM JA EE BJ Y7 Cf PE AEG xB S1 rL CP UO La qJ dE KI AAF Dr ND JB X2 Hm Jg Jh Cc At It Jk Pm Bp Ld Qs PZ Gi Zm UK Zr Xe aE Jj Yx Zd Gj Qr Za dN dF Ej; simp only [CC, eq_self, implies_true, forall_const, DN]
 have wj : ∀ {j : Nat}, 1 <= j -> j < a.l.length -> ((j - 1 : Nat) : Int) = IntKind.i64.wrap ((j : Int) - 1) := λ h1 h2 => ((Dh (by omega) (by omega)).trans (by omega)).symm
 have w0 : ((1 : Nat) : Int) = IntKind.i64.wrap (0 + 1) := by decide
 have wn : ((a.l.length - 1 : Nat) : Int) = IntKind.i64.wrap ((a.l.length : Int) - 1) := ((Dh (by omega) (by omega)).trans (by omega)).symm
 have gd : ∀ {i j k : Nat} {l : List Int}, (i <= j -> k < a.l.length) -> l.length = a.l.length -> kL a.g l -> ((i : Int) <= (j : Int) -> (0 : Int) <= k /\ (k : Int) < a.l.length) /\ ((i : Int) <= (j : Int) -> k < a.l.length) /\ ((i : Int) <= (j : Int) -> (0 : Int) <= 0 /\ (0 : Int) < a.l.length) /\ ((i : Int) <= (j : Int) -> Int.toNat 0 < a.l.length) /\ ((i : Int) <= (j : Int) -> (0 <= gD l k /\ gD l k < a.g.ns.length) /\ 0 <= gD l 0 /\ gD l 0 < a.g.ns.length) := λ h2 h4 h5 => ⟨λ h => by have := h2 (by omega); omega, λ h => h2 (by omega), λ _ => z2, λ _ => hn, λ h => ⟨h5 _ (by have := h2 (by omega); omega), h5 _ (by omega)⟩⟩
 have rg : ∀ {i j : Nat}, i < a.l.length -> j < a.l.length -> ((0 : Int) <= (i : Int) /\ (i : Int) < a.l.length) /\ i < a.l.length /\ ((0 : Int) <= (j : Int) /\ (j : Int) < a.l.length) /\ j < a.l.length /\ ((0 : Int) <= (j : Int) /\ (j : Int) < a.l.length) /\ j < a.l.length /\ ((0 : Int) <= (i : Int) /\ (i : Int) < a.l.length) /\ i < a.l.length := λ h1 h2 => ⟨⟨by omega, by omega⟩, h1, ⟨by omega, by omega⟩, h2, ⟨by omega, by omega⟩, h2, ⟨by omega, by omega⟩, h1⟩
 refine ⟨⟨hp, jG hp, z2, hn, z2, hn, hp, jG hp⟩, ⟨⟨1, a.l.length - 1, ptS a.l a.p.toNat⟩, ⟨w0, wn, λ i hi => rZ hn (jG hp)⟩, ⟨Nat.one_pos, by show a.l.length - 1 < _; omega, by show 1 <= a.l.length - 1 + 1; omega⟩, ⟨nQ _ _ _, nJ sp h2⟩, rfl⟩, λ x ⟨⟨x1, x2, x3⟩, ⟨x4, x5⟩, x6⟩ => ⟨gd (λ h => by omega) x4 x5, λ hc => ?_, λ hc => ⟨?_, λ y ⟨⟨⟨y1, y2, y3⟩, ⟨y4, y5⟩, y6⟩, y7⟩ => ⟨gd (λ h => by omega) y4 y5, λ hd => ?_, λ hd => ⟨λ hij => ?_, λ hij => ?_⟩⟩⟩⟩⟩
 ·have q := cU.1 hc
  exact ⟨⟨x.i + 1, x.j, x.l⟩, ⟨(FH (by omega)).symm, rfl, λ _ _ => rfl⟩, ⟨⟨Nat.succ_pos _, x2, by show x.i + 1 <= x.j + 1; omega⟩, ⟨x4, x5⟩, x6.trans (BIX q.1 q.2)⟩, by show x.j + 1 - (x.i + 1) < _; omega⟩
 ·have q := λ h => no_t hc (cU.2 h)
  exact ⟨⟨x.i, x.j, x.l⟩, ⟨rfl, rfl, λ _ _ => rfl⟩, ⟨⟨x1, x2, x3⟩, ⟨x4, x5⟩, x6.trans (APZ q)⟩, λ h1 h2 => q ⟨h1, h2⟩⟩
 ·have q := cD.1 hd
  exact ⟨⟨y.i, y.j - 1, y.l⟩, ⟨rfl, wj (by omega) y2, λ _ _ => rfl⟩, ⟨⟨⟨y1, by show y.j - 1 < _; omega, by show y.i <= y.j - 1 + 1; omega⟩, ⟨y4, y5⟩, y6.trans (BJJ (by omega) q.1 q.2)⟩, λ h => y7 q.1⟩, by show y.j - 1 < _; omega⟩
 ·have e := y6.trans (BAP (show y.i > y.j by omega))
  exact ⟨⟨z2, hn, ⟨by omega, by omega⟩, y2, ⟨by omega, by omega⟩, y2, z2, hn⟩, AVU e y4 y2⟩
 ·have hij : ¬y.i > y.j := by omega
  have q := λ h => no_t hd (cD.2 h)
  have l1 := BHX hij y7 q
  have lp := bB (l := y.l) (i := y.i) (j := y.j) (by omega) (by omega)
  refine ⟨rg y2 (by omega), ⟨⟨y.i + 1, y.j - 1, sw2 y.l y.i y.j⟩, ⟨(FH (by omega)).symm, wj (by omega) y2, λ i hi => rZ (by omega) (by omega)⟩, ⟨Nat.succ_pos _, by show y.j - 1 < _; omega, by show y.i + 1 <= y.j - 1 + 1; omega⟩, ⟨(nQ _ _ _).trans y4, nJ lp y5⟩, y6.trans (BJH hij q)⟩, λ z ⟨⟨z1, z2', z3⟩, ⟨z4, z5⟩, z6⟩ => ⟨⟨⟨z.i, z.j, z.l⟩, ⟨rfl, rfl, λ _ _ => rfl⟩, ⟨⟨z1, z2', z3⟩, ⟨z4, z5⟩, z6⟩, Nat.le_refl _⟩, λ w ⟨⟨⟨w1, w2, w3⟩, ⟨w4, w5⟩, w6⟩, w7⟩ => ⟨gd (λ h => by omega) w4 w5, λ hc => ?_, λ hc => ⟨?_, λ v ⟨⟨⟨v1, v2, v3⟩, ⟨v4, v5⟩, v6⟩, v7, v8⟩ => ⟨gd (λ h => by omega) v4 v5, λ hd => ?_, λ hd => ⟨λ hij => ?_, λ hij => ?_⟩⟩⟩⟩⟩⟩
  ·have q := cU.1 hc
   exact ⟨⟨w.i + 1, w.j, w.l⟩, ⟨(FH (by omega)).symm, rfl, λ _ _ => rfl⟩, ⟨⟨⟨Nat.succ_pos _, w2, by show w.i + 1 <= w.j + 1; omega⟩, ⟨w4, w5⟩, w6.trans (BIX q.1 q.2)⟩, by show w.j + 1 - (w.i + 1) <= _; omega⟩, by show w.j + 1 - (w.i + 1) < _; omega⟩
  ·have q := λ h => no_t hc (cU.2 h)
   exact ⟨⟨w.i, w.j, w.l⟩, ⟨rfl, rfl, λ _ _ => rfl⟩, ⟨⟨w1, w2, w3⟩, ⟨w4, w5⟩, w6.trans (APZ q)⟩, λ h1 h2 => q ⟨h1, h2⟩, w7⟩
  ·have q := cD.1 hd
   exact ⟨⟨v.i, v.j - 1, v.l⟩, ⟨rfl, wj (by omega) v2, λ _ _ => rfl⟩, ⟨⟨⟨v1, by show v.j - 1 < _; omega, by show v.i <= v.j - 1 + 1; omega⟩, ⟨v4, v5⟩, v6.trans (BJJ (by omega) q.1 q.2)⟩, λ h => v7 q.1, by show v.j - 1 + 1 - v.i <= _; omega⟩, by show v.j - 1 < _; omega⟩
  ·have e := v6.trans (BAP (show v.i > v.j by omega))
   exact ⟨⟨z2, hn, ⟨by omega, by omega⟩, v2, ⟨by omega, by omega⟩, v2, z2, hn⟩, AVU e v4 v2⟩
  ·have hij : ¬v.i > v.j := by omega
   have q := λ h => no_t hd (cD.2 h)
   have l1 := BHX hij v7 q
   have lp := bB (l := v.l) (i := v.i) (j := v.j) (by omega) (by omega)
   exact ⟨rg v2 (by omega), ⟨v.i + 1, v.j - 1, sw2 v.l v.i v.j⟩, ⟨(FH (by omega)).symm, wj (by omega) v2, λ i hi => rZ (by omega) (by omega)⟩, ⟨⟨Nat.succ_pos _, by show v.j - 1 < _; omega, by show v.i + 1 <= v.j - 1 + 1; omega⟩, ⟨(nQ _ _ _).trans v4, nJ lp v5⟩, v6.trans (BJH hij q)⟩, by show v.j - 1 + 1 - (v.i + 1) < _; omega⟩
theorem BMC : AK Try.prog AIQ (C_ptn.spec dGp) := XM C_ptn BHJ [] [] BAO (λ _ => by kernel_rfl) (λ _ => AA S2 AD) (λ (a : Gp) h => by
 obtain ⟨⟨h1, hp⟩, h2⟩ : ((a.l.length = 13 ∨ a.l.length = 14) /\ 0 <= a.p /\ a.p < a.l.length) /\ kL a.g a.l := h
 exact BPM a h1 hp h2) (λ _ => YR rfl rfl) _
theorem BRO (g : Cht) (l : List Int) (p : Nat) : gpR ⟨g, l, (p : Int)⟩ = ptM (KT g) l p := by unfold gpR; rfl
theorem BLK (a : Gw) : (chH a == 2) = true -> False := λ h => by
 unfold chH at h
 cases q : mnS (KT a.g) a.l 3 6 9 0 == 0 with
 | false => rw [q] at h; cases h
 | true => rw [q] at h; cases h
theorem AZM {key : Int -> Int} {P : Int} {k : Nat} {l m r s : List Int} (hd : ndk key l) (h : PtK key P k l m) (hh : (RsM key 0 k m r /\ RsM key (k + 1) l.length r s) ∨ RsM key (k + 1) l.length m r /\ RsM key 0 k r s) : s = jI key l := by
 obtain ⟨q1, q2⟩ := BOP h hh
 exact AQK hd q1 (by rw [q1.length_eq]; exact q2)
set_option maxHeartbeats 1000000 in
theorem BOQ (a : Gw) (h1 : a.l.length = 13 ∨ a.l.length = 14) (h2 : kL a.g a.l) (hd : ndk (KT a.g) a.l) : AWO a := by
 obtain ⟨w1, _⟩ := BBX h1
 obtain ⟨p, p1, p2, hx, hy⟩ := BOF hd (a := 3) (b := 6) (c := 9) (by omega) (by omega) (by omega)
 have p2 : chP a = (p : Int) := p2
 have K := BLH (key := KT a.g) p1
 have sd := AVD K hx hy
 have hl := K.perm.length_eq
 have hin := nJ K.perm h2
 rw [BFH]<;> delta KY hd7 Aq BA BI FW OH PR Cs EX FI CE AC BX CM AQ BU WF DH DX IP HD LS PG JV ER GP GA HQ HT HC HR DS GB ED LG WI IX HV QT NG LL BV BQ SA Wz Kr XE Ww Kf DT Oq Hc Kp AE BG AW EO GJ GI AG GM BF BE UR CK AR CN BD AF JJ CG BC EZ aR AO CQ GT BS CV JL CY BO HK CR DD AL kK KA Sq CF AM AT DM DR DZ GF GG BB DW RB AS DJ EG FC AP EY FG FS EN DC DB CS HW FV GR FZ JD DF KU HA IH KB LQ FU EH FE ET DE CJ GQ AN BY LP NY FY FJ EV DI MH RZ MF JS OZ FL JE HY JH AI HH JG BH HL JI Rj JQ KV DV WE HJ DQ BK IT EB KF LM EK OJ MR OX QV IN QI MD KR MO MU OV QS QY ME BM BZ CA EP GZ QN AZ CH AJ IY JC CI PT BR UL BW JN Qq Dx PW Jv GH Ca FP GN ADM HF UA Ub HE FF FO GO KL Mb Jd Ly TV RD wI Jm Yr LZ xM JA Gh Ia ZT EE Zw PE SN SQ JM SO Np xB SC RG UC OB eZ qJ KI XF Xo T6 Ci Az Uv Jw PI TN ZQ ZP Hw Ju PA Bw Ba Ij Li SE Iv Hk PZ Kb VL Ah Ho Qk Kh Na Ff UK Xl Mj Hu Ht Jz Sx Jf Yj; simp only [CC, eq_self, implies_true, forall_const, DN]
 simp only [p2, BRO, Int.toNat_natCast, Int.toNat_zero]
 rw [w1]
 generalize ptL (KT a.g) a.l p = m at *
 generalize (ptM (KT a.g) a.l p).j = k at *
 have rm : (QR a.l.length λ i => gD m i) = m := by rw [<- hl]; exact WU m
 have k1 : IntKind.i64.wrap ((k : Int) - 0) = (k : Int) := (Dh (by omega) (by omega)).trans (by omega)
 have k2 : IntKind.i64.wrap ((a.l.length : Int) - (k : Int)) = ((a.l.length - k : Nat) : Int) := (Dh (by omega) (by omega)).trans (by omega)
 have k3 : IntKind.i64.wrap ((k : Int) + 1) = ((k + 1 : Nat) : Int) := FH (by omega)
 rw [rm, k1, k2, k3]
 simp only [Int.toNat_natCast]
 have hin' : ∀ i, i < a.l.length -> 0 <= gD m i /\ gD m i < a.g.ns.length := λ i hi => hin i (by omega)
 refine ⟨⟨default, trivial⟩, λ x ⟨⟨x1, x2, x3⟩, ⟨x4, x5⟩, x6⟩ => ⟨λ _ => ?_, λ h => h (by rw [Dh (by omega) (by omega)]; omega)⟩, ⟨λ h => absurd h (by omega), λ _ => ⟨default, trivial⟩⟩, ⟨h1, h2⟩, BLK _, λ _ => ⟨⟨λ _ => ⟨⟨h1, h2⟩, λ hs i hi => ?_, λ _ => ⟨default, trivial⟩⟩, λ _ => ⟨default, trivial⟩⟩, ⟨λ h => (by cases h), λ h => (by cases h), λ h => (by cases h), λ h => (by cases h), λ h => (by cases h)⟩, ⟨⟨h1, by omega, by omega⟩, h2⟩, λ h => (by cases h), λ hlt => ?_, λ hge => ?_⟩⟩
 ·have rx : (QR a.l.length λ i => gD x.l i) = x.l := by rw [<- x4]; exact WU x.l
  rw [rx, x6]
  exact ⟨⟨λ _ _ => rfl, ⟨x1, x2⟩, by omega, λ i hi => x5 i (by omega)⟩, λ _ _ => rfl⟩
 ·rw [<- AQK hd (List.Perm.refl _) (ARB _ hs)]
 ·have R1 := AFE (KT a.g) (A := 0) (B := k) (l := m) (Nat.zero_le _) (by omega)
  have rl := R1.perm.length_eq
  have R2 := AFE (KT a.g) (A := k + 1) (B := a.l.length) (l := K9 (KT a.g) 0 k m) (by omega) (by omega)
  refine ⟨⟨rfl, λ _ _ => trivial, ⟨by omega, by omega, by omega⟩, by omega, hin'⟩, ⟨k + 1, a.l.length, K9 (KT a.g) 0 k m, k⟩, ⟨rfl, rfl, rfl, λ _ _ => rfl⟩, ⟨⟨by show k + 1 <= a.l.length; omega, Nat.le_refl _, by show a.l.length <= k + 1 + 12; omega⟩, ⟨rl.trans hl, nJ R1.perm hin⟩, AZM hd K (.inl ⟨R1, R2⟩)⟩, Nat.one_pos⟩
 ·have R1 := AFE (KT a.g) (A := k + 1) (B := a.l.length) (l := m) (by omega) (by omega)
  have rl := R1.perm.length_eq
  have R2 := AFE (KT a.g) (A := 0) (B := k) (l := K9 (KT a.g) (k + 1) a.l.length m) (Nat.zero_le _) (by omega)
  refine ⟨⟨trivial, λ _ _ => trivial, ⟨by omega, by omega, by omega⟩, by omega, hin'⟩, ⟨0, k, K9 (KT a.g) (k + 1) a.l.length m, k⟩, ⟨rfl, rfl, rfl, λ _ _ => rfl⟩, ⟨⟨Nat.zero_le _, by show k <= a.l.length; omega, by show k <= 0 + 12; omega⟩, ⟨rl.trans hl, nJ R1.perm hin⟩, AZM hd K (.inr ⟨R1, R2⟩)⟩, Nat.one_pos⟩
theorem BDX : AK Try.prog H4 (C_pdqL.spec dGwp) := XM C_pdqL BBI [] [] ALP (λ _ => by kernel_rfl) (λ _ => AA S2 (AA ASC (AA ARE (AA BMQ (AA BMF (AA BMC AD)))))) (λ (a : Gw) h => by
 obtain ⟨⟨h1, h2⟩, h3⟩ : ((a.l.length = 13 ∨ a.l.length = 14) /\ kL a.g a.l) /\ ndk (KT a.g) a.l := h
 exact BOQ a h1 h2 h3) (λ _ => YR rfl rfl) _
theorem BPH : AK Try.prog Ut AAG := Ik oO ARG λ x h => by
 have h : x = 13 ∨ x = 14 := h
 rcases h with h | h
 ·subst h
  exact Rc (A := ann 25 []) (ren := []) (fz := []) wJ (by kernel_rfl) AD (by
   show BJU default; rw [BMN]; delta z_l13_0 AHY; exact ⟨AWG _, by kernel_rfl⟩)
 ·subst h
  exact Rc (A := ann 25 []) (ren := []) (fz := []) wJ (by kernel_rfl) AD (by
   show BHF default; rw [BOT]; delta z_l14_0 AHI; exact ⟨AWG _, by kernel_rfl⟩)
theorem BED : AK Try.prog D0 AAG := Ik oO ARG λ x h => Rc (A := ann 8 [(Ut, AAG)]) (ren := []) (fz := []) AQF (by kernel_rfl) (AA BPH AD) (by
 show BBB x; rw [BFT]<;> delta AQ WF AF Ca Qk; exact ⟨h, rfl⟩)
theorem BCP (key : Int -> Int) (l : List Int) : K9 key 0 l.length l = jI key l := by
 unfold K9 M4 wh; simp
theorem BNB : AK Try.prog vA (C_srt.spec dGLt) := okT C_srt (λ (a : GL) h => by
 obtain ⟨h1, h2, h3⟩ : (a.l.length <= 12 ∨ (a.l.length = 13 ∨ a.l.length = 14) /\ ndk (KT a.g) a.l) /\ glOk a := h
 rcases h1 with h1 | ⟨h1, hd⟩
 ·exact Rc (A := AYX) (L := C_sort.L a) (keep := C_sort.keep a) (ren := []) (fz := []) V3 (by kernel_rfl) (AA BBL (AA ARE AD)) (by
   show AUL a; rw [BFV]<;> delta BA BI FW OH EX FI CE AC BX CM AQ BU WF DH HD LS ER GP GA HQ HT HC HR DS GB ED HV BV BQ SA XE Kn MA AE BG AW EO GJ GI AG GM BF BE UR CK AR CN BD AF JJ CG BC AO CQ GT BS CV JL CY BO CR DD AL kK KA Sq CF AM AT DM DR DZ GG DW RB AS DJ EG FC AP EY FG FS EN DC DB CS HW FV JD DF HA KB LQ FU EH FE ET DE AN LP NY FY FJ EV MF JS FL JE HY JH AI HH Rj JQ KV BK IT EB KF LM EK OJ MR OX QV QI MD KR MO OV QS QY BM BZ CA EP FQ GZ QN AZ CH IY JC BW JN Qq PW FP UA Ub FF FO GO KL Ly JA ZT EE BJ VM CP OB KI Pg JB Qb PI TN Ba Qp PZ VL UK Yi Sx; simp only [CC, eq_self, implies_true, forall_const, DN]
   rw [show IntKind.u64.wrap (a.l.length : Int) = a.l.length from u64w (by omega) (by omega)]
   simp only [Int.toNat_zero]
   exact ⟨⟨⟨by omega, by omega⟩, rfl, ⟨Nat.zero_le _, Nat.le_refl _, h1⟩, h2, h3⟩, λ i hi => by rw [BCP]⟩)
 ·exact Rc (A := AYE) (L := C_sort.L a) (keep := C_sort.keep a) (ren := []) (fz := []) V3 (by kernel_rfl) (AA BED (AA BDX AD)) (by
   show AYK a; rw [BEK]<;> delta BA BI FW OH EX FI CE AC BX CM AQ BU WF HD LS ER GP GA HQ HT HC HR DS GB ED BV BQ SA Ow XE Kn MA AE BG AW EO GJ GI AG GM BF BE UR CK AR CN BD AF JJ CG BC AO CQ GT BS CV JL CY BO CR DD AL kK KA Sq CF AM AT DM DR DZ GG DW RB AS DJ EG FC AP EY FG FS EN DC DB CS HW FV JD DF HA KB LQ FU EH FE ET DE AN LP NY FY FJ EV MF JS FL JE HY JH AI HH Rj JQ KV HJ BK IT EB KF LM EK OJ MR OX QV IN QI MD KR MO MU OV QS QY BM BZ CA EP FQ GZ QN AZ CH AJ JC JN Qq Ca FP Ub HE FF FO GO KL Ly JA ZT EE BJ VM CP Pg PI TN SE Qp VL Qk Yi; simp only [CC, eq_self, implies_true, forall_const, DN]
   rw [show IntKind.u64.wrap (a.l.length : Int) = a.l.length from u64w (by omega) (by omega)]
   exact ⟨by omega, ⟨h1, h3⟩, hd⟩)) _
end Go.Bal
