/- Package chart: the order of 13 and 14 notes. -/
import Derived.Test.YtdbjalgfomknhaaChPd0
set_option linter.unusedVariables false
set_option linter.unusedSimpArgs false
namespace Go.Bal
open Go Go.Sym Go.Proofs
structure Gn where
 g : Cht
 l : List Int
 a : Nat
 b : Nat
def gnK (a : Gn) (l : List Int) : List (Nat × HCell) := [(100, .live (AIM a.l.length l)), (101, .live (bxG a.g))]
def gnL (a : Gn) : List (Nat × AObj) := [(100, rowI a.l), (101, bxG a.g)]
def mR (g : Cht) (l : List Int) : Prop := ∀ i, i < l.length -> 0 <= gD l i /\ gD l i < g.ns.length
def gnOk (a : Gn) : Prop := a.l.length < 1073741824 /\ ∀ i, i < a.l.length -> 0 <= gD a.l i /\ gD a.l i < a.g.ns.length
def whG (a : Gn) (m : List Int) : List Int := wh (a.l.take a.a) m (a.l.drop a.b)
def dGn : List AVal -> Heap -> Option (Gn × List (Nat × Nat) × List Nat)
 | [.own id _ _ n, .d x, .d y, .fn (.func f) [] [.bptr c _]], H => if f = RP then match H id, Ap H c with
  | .live (.row _ m r), some q => some (⟨q, OF n λ i => FQ (r i), (FQ x).toNat, (FQ y).toNat⟩, [(100, id), (101, c)], [])
  | _, _ => none else none
 | _, _ => none
def C_insS : Ctr := { ro := [101], α := Gn, xs := λ a => [.own 100 1 0 a.l.length, .int a.a, .int a.b, iW], L := gnL, val := λ _ => .d (.tup []), keep := λ a => gnK a (rsM (HW a.g) a.a a.b a.l), pre := λ a => [(a.a <= a.b /\ a.b <= a.l.length) /\ gnOk a] }
def insI (a : Gn) (m : List Int) : Prop := m.length = a.b - a.a /\ ∀ i, i < a.b - a.a -> 0 <= gD m i /\ gD m i < a.g.ns.length
def BUP (a : Gn) : Shape := { α := IL2, dflt := default, T := λ x => ⟨[(0, .own 100 1 0 a.l.length), (1, .int a.a), (2, .int a.b), (3, iW), (8, .int ((a.a + x.i : Nat) : Int))], gnK a (whG a x.l)⟩, inv := λ x => 1 <= x.i /\ (x.i <= a.b - a.a ∨ x.i = 1) /\ insI a x.l /\ oP (HW a.g) (mdl a.a a.b a.l) = stR (HW a.g) (a.b - a.a - x.i) x.i x.l, meas := λ x => a.b - a.a - x.i }
def BUD (a : Gn) (m : Nat) : Shape := { α := IJL, dflt := default, T := λ x => ⟨[(0, .own 100 1 0 a.l.length), (1, .int a.a), (2, .int a.b), (3, iW), (8, .int ((a.a + x.i : Nat) : Int)), (9, .int ((a.a + x.j : Nat) : Int))], gnK a (whG a x.l)⟩, inv := λ x => a.b - a.a - x.i = m /\ 1 <= x.i /\ x.i < a.b - a.a /\ x.j <= x.i /\ insI a x.l /\ oP (HW a.g) (mdl a.a a.b a.l) = stR (HW a.g) (a.b - a.a - (x.i + 1)) (x.i + 1) (L0 (HW a.g) x.j x.l), meas := λ x => x.j }
def BBW (a : Gn) : Ann := { ann 53 [(RP, C_fw1.spec dGAB)] with E := [100, 101], loops := λ id => if id = 1 then some [BUP a] else none, inner := λ gs id => if id = 4 then some [BUD a (gs.getD 0 0)] else none }
def BFK (a : Gn) : Prop := CR Try.prog (BBW a) AHG (AL AHG) (C_insS.xs a) (AE (C_insS.L a)) (C_insS.val a) (C_insS.keep a) [] []
abbrev KM:=Gn.l
abbrev Hk:=Gn.a
abbrev Hp:=Gn.b
abbrev TQ:=IL2.i
abbrev Sh:=IL2.l
abbrev ER:=Gn.g
abbrev Ul:=@Eq (List Int)
abbrev Er:=IJL.i
abbrev kG:=IJL.j
abbrev hG:=IJL.l
abbrev Ys a:=HJ (ER a)
abbrev TC a:=TO (ER a)
abbrev Xw a:=JQ (KM a)
abbrev KH a:=MT (Hp a) (Hk a)
abbrev Gq a b c d:=BR a b (CX c) (FZ c d)
abbrev pZ a:=BL (ER a)
abbrev Bn a b c d e (f:Nat->Prop) g:=HF a b c d e b (AF f) g
abbrev AHX a b:=whG a (hG b)
abbrev Ic a b c:=ET (AHX a b) c
abbrev hY a b:=UN (Hk a) b
abbrev eM a:=GX (Hp a)
abbrev cI a:=GX (Hk a)
abbrev lL a:=FB (Er a)
abbrev Bx a b c:=gH (MT a b) a c
abbrev H9 a b:=hY a (kG b)
abbrev Jh a b:=CG (H9 a b)
abbrev Qu a b:=Vt (Jh a b)
abbrev gF a b:=DN (H9 a b)
abbrev TV a b:=CS a (FV b)
abbrev Ip a:=PD a 0
abbrev Ye a:=CG (Hk a)
abbrev QQ a b c d e f g h p:=AN a b c d e (EJ f) g h p
abbrev Np a b:=FZ a (FN b)
abbrev Cu a b:=CS a (FN b)
attribute [go_sem] KM Hk Hp TQ Sh ER Ul Er kG hG Ys TC Xw KH Gq pZ Bn AHX Ic hY eM cI lL Bx H9 Jh Qu gF TV Ip Ye QQ Np Cu
theorem BJE (a : Gn) : (BFK a) = (And ((@Exists IL2) (λ i=>AK (Bn AU (Xw a) (cI a) (eM a) (CJ (hY a (TQ i)) (Hk a)) (λ j=>IL j (KM a) (whG a (Sh i)) j (ET (KM a) j)) (Ys a)) (JX (TQ i)) (Or (CW (TQ i) (KH a)) (WN (TQ i))) (MI (FL (Sh i) (KH a)) (λ j=>Gq j (KH a) (ET (Sh i) j) (pZ a))) (Ul (oP (TC a) (mdl (Hk a) (Hp a) (KM a))) (stR (TC a) (MT (KH a) (TQ i)) (TQ i) (Sh i))))) ((λ (f : IL2 -> Prop) => ∀ (x : IL2), f x) (λ i=>IR (BH (JX (TQ i)) (Or (CW (TQ i) (KH a)) (WN (TQ i))) (MI (FL (Sh i) (KH a)) (λ j=>Gq j (KH a) (ET (Sh i) j) (pZ a))) (Ul (oP (TC a) (mdl (Hk a) (Hp a) (KM a))) (stR (TC a) (MT (KH a) (TQ i)) (TQ i) (Sh i)))) (hY a (TQ i)) (CG (Hp a)) ((@Exists IJL) (λ j=>GH (Mp AU (Xw a) (cI a) (eM a) (JS (hY a (Er j)) (hY a (TQ i))) (JS (H9 a j) (hY a (TQ i))) (AF (λ k=>IL k (KM a) (AHX a j) k (ET (whG a (Sh i)) k))) (Ys a)) (Bx (KH a) (Er j) (TQ i)) (JX (Er j)) (DC (Er j) (KH a)) (CW (kG j) (Er j)) (MI (FL (hG j) (KH a)) (λ k=>Gq k (KH a) (ET (hG j) k) (pZ a))) (Ul (oP (TC a) (mdl (Hk a) (Hp a) (KM a))) (stR (TC a) (MT (KH a) (lL j)) (lL j) (L0 (TC a) (kG j) (hG j)))))) ((λ (f : IJL -> Prop) => ∀ (x : IJL), f x) (λ j=>CV (DA (Bx (KH a) (Er j) (TQ i)) (JX (Er j)) (DC (Er j) (KH a)) (CW (kG j) (Er j)) (MI (FL (hG j) (KH a)) (λ k=>Gq k (KH a) (ET (hG j) k) (pZ a))) (Ul (oP (TC a) (mdl (Hk a) (Hp a) (KM a))) (stR (TC a) (MT (KH a) (lL j)) (lL j) (L0 (TC a) (kG j) (hG j))))) (JR (HQ (JV (Jh a j) (Ye a)) (KG (H9 a j) (KM a))) (HQ (JV (Jh a j) (Ye a)) (OU (gF a j) (FV (KM a)))) (HQ (JV (Jh a j) (Ye a)) (TV (JJ (Jh a j)) (KM a))) (HQ (JV (Jh a j) (Ye a)) (OU (Qu a j) (FV (KM a)))) (HQ (JV (Jh a j) (Ye a)) (GH (AJ (Ic a j (gF a j))) (AJ (Ic a j (Qu a j))) (AT (ER a)) (AW (ER a)) (AV (ER a)) (BA (ER a)) (CM (BB (ER a)) (BF (ER a)) (BM (ER a)) (CA (ER a)) (λ k=>BC k (ER a) (BG (ER a) k) (BD (ER a) k) (AP (ER a) k) (AZ (ER a) k) (AO (ER a) k) (BE (ER a) k) (AM (ER a) k)) (AT (ER a)) (AW (ER a)) (AV (ER a)) (QQ (BA (ER a)) (BB (ER a)) (DQ (ER a)) (FI (ER a)) (DK (ER a)) (ER a) (Cu (Ic a j (gF a j)) (ER a)) (CX (Ic a j (Qu a j))) (Np (Ic a j (Qu a j)) (ER a)))))) (DH (GB (JV (Jh a j) (Ye a)) (Ip (Lg (TO (DG (ER a)) (Ic a j (gF a j))) (TO (DG (ER a)) (Ic a j (Qu a j)))))) (BH (TV (JJ (Jh a j)) (KM a)) (DC (Qu a j) (FV (KM a))) (KG (H9 a j) (KM a)) (Ho (DC (gF a j) (FV (KM a))) (KG (H9 a j) (KM a)) (TV (JJ (Jh a j)) (KM a)) (OU (Qu a j) (FV (KM a))))) ((@Exists IJL) (λ k=>JE (Mp AU (Xw a) (cI a) (eM a) (JS (hY a (Er k)) (hY a (Er j))) (HZ (H9 a k) (JJ (Jh a j))) (AF (λ l=>IL l (KM a) (AHX a k) l (MY l (Qu a j) (Ic a j (gF a j)) (MY l (gF a j) (Ic a j (Qu a j)) (Ic a j l))))) (Ys a)) (Bx (KH a) (Er k) (TQ i)) (AK (JX (Er k)) (DC (Er k) (KH a)) (CW (kG k) (Er k)) (MI (FL (hG k) (KH a)) (λ l=>Gq l (KH a) (ET (hG k) l) (pZ a))) (Ul (oP (TC a) (mdl (Hk a) (Hp a) (KM a))) (stR (TC a) (MT (KH a) (lL k)) (lL k) (L0 (TC a) (kG k) (hG k))))) (DC (kG k) (kG j)))) ((@Exists IL2) (λ k=>WT (Bn AU (Xw a) (cI a) (eM a) (CJ (hY a (TQ k)) (hY a (Er j))) (λ l=>IL l (KM a) (whG a (Sh k)) l (Ic a j l)) (Ys a)) (BH (JX (TQ k)) (Or (CW (TQ k) (KH a)) (WN (TQ k))) (MI (FL (Sh k) (KH a)) (λ l=>Gq l (KH a) (ET (Sh k) l) (pZ a))) (Ul (oP (TC a) (mdl (Hk a) (Hp a) (KM a))) (stR (TC a) (MT (KH a) (TQ k)) (TQ k) (Sh k)))) (KH a) (TQ k) (TQ i))))))) (AH (Xw a) (AF (λ j=>IL j (KM a) (rsM (TC a) (Hk a) (Hp a) (KM a)) j (ET (whG a (Sh i)) j))) (Ys a))))) := by kernel_rfl
def dGnp : List AVal -> Heap -> Option (Gn × List (Nat × Nat) × List Nat)
 | [.own id _ _ n, .d x, .d y, _, .fn (.func f) [] [.bptr c _]], H => if f = RP then match H id, Ap H c with
  | .live (.row _ m r), some q => some (⟨q, OF n λ i => FQ (r i), (FQ x).toNat, (FQ y).toNat⟩, [(100, id), (101, c)], [])
  | _, _ => none else none
 | _, _ => none
def C_pdqS : Ctr := { ro := [101], α := Gn, xs := λ a => [.own 100 1 0 a.l.length, .int a.a, .int a.b, .any, iW], L := gnL, val := λ _ => .d (.tup []), keep := λ a => gnK a (rsM (HW a.g) a.a a.b a.l), pre := λ a => [(a.a <= a.b /\ a.b <= a.l.length /\ a.b <= a.a + 12) /\ gnOk a] }
def pq2S (a : Gn) : Shape := { α := One, dflt := default, T := λ _ => ⟨[(0, .own 100 1 0 a.l.length), (1, .int a.a), (2, .int a.b), (3, .any), (4, iW), (10, .bool true), (11, .bool true)], gnK a a.l⟩, inv := λ _ => True, meas := λ _ => 0 }
def BAN (a : Gn) : Ann := { ann 148 [(AAS, C_insS.spec dGn)] with E := [100, 101], loops := λ id => if id = 2 then some [pq2S a] else none, cutIn := λ gs id => if id = 5 then some [] else none }
def BAQ (a : Gn) : Prop := CR Try.prog (BAN a) AIA (AL AIA) (C_pdqS.xs a) (AE (C_pdqS.L a)) (C_pdqS.val a) (C_pdqS.keep a) [] []
abbrev Pf a:=TO (DG a)
abbrev Cj a b:=AH AU a b
abbrev Tf a b c d:=Gq a (FV b) c d
abbrev PU a b c d:=Tf a b (ET b c) (FN d)
abbrev Of a:=RK (FV a)
attribute [go_sem] Pf Cj Tf PU Of
theorem BIU (a : Gn) : (BAQ a) = (Ab (KY (AK AU (Xw a) (cI a) (eM a) (WY IZ (Xw a) (NV (KM a)) (Ys a)))) (And (YB (hd7 (KP (CG (Hp a)) (Ye a)) 12) (WO (Cj (NX (KM a)) (AN (cI a) (eM a) (NX (KM a)) (VE (KM a)) (AT (ER a)) (AW (ER a)) (AV (ER a)) (BA (ER a)) (CM (BB (ER a)) (BF (ER a)) (BM (ER a)) (CA (ER a)) (λ i=>BC i (ER a) (BG (ER a) i) (BD (ER a) i) (AP (ER a) i) (AZ (ER a) i) (AO (ER a) i) (BE (ER a) i) (AM (ER a) i)) (AT (ER a)) (AW (ER a)) (AV (ER a)) (QQ (BA (ER a)) (BB (ER a)) (DQ (ER a)) (FI (ER a)) (DK (ER a)) (ER a) (And (CW (Hk a) (Hp a)) (WI (Hp a) (EQ (KM a)))) (Of (EQ (KM a))) (AF (λ i=>PU i (EQ (KM a)) i (ER a))))))) (CQ (KM a) (EQ (KM a))) (λ i=>IL i (KM a) (rsM (TC a) (Hk a) (Hp a) (KM a)) i (ET (rsM (Pf (ER a)) (Hk a) (Hp a) (EQ (KM a))) i)) (Ys a))) II)) := by kernel_rfl
structure O2 where
 g : Cht
 l : List Int
 a : Int
 b : Int
 s : Int
def o2K (g : Cht) (l : List Int) (s : Int) : List (Nat × HCell) := [(100, .live (rowI l)), (101, .live (bxG g)), (102, .live (.box [.int s]))]
def o2Lh (g : Cht) (l : List Int) (s : Int) : List (Nat × AObj) := [(100, rowI l), (101, bxG g), (102, .box [.int s])]
def dO2 : List AVal -> Heap -> Option (O2 × List (Nat × Nat) × List Nat)
 | [.own id _ _ n, .d x, .d y, .bptr s _, .fn (.func f) [] [.bptr c _]], H => if f = RP then match H id, H s, Ap H c with
  | .live (.row _ m r), .live (.box [.d (.v (.int _ v))]), some q => some (⟨q, OF n λ i => FQ (r i), FQ x, FQ y, v⟩, [(100, id), (101, c), (102, s)], [])
  | _, _, _ => none else none
 | _, _ => none
def C_o2 : Ctr := { ro := [100, 101], α := O2, xs := λ a => [.own 100 1 0 a.l.length, .int a.a, .int a.b, .bptr 102 0, iW], L := λ a => o2Lh a.g a.l a.s, val := λ a => .tup [.int (o2A (HW a.g) a.l a.a a.b), .int (o2B (HW a.g) a.l a.a a.b)], keep := λ a => o2K a.g a.l (o2S (HW a.g) a.l a.a a.b a.s), pre := λ a => [((0 <= a.a /\ a.a < a.l.length) /\ 0 <= a.b /\ a.b < a.l.length) /\ mR a.g a.l] }
def A_o2 : Ann := { ann 32 [(RP, C_fw1.spec dGAB)] with E := [100, 101, 102] }
def V_o2 (a : O2) : Prop := CR Try.prog A_o2 AFQ (AL AFQ) (C_o2.xs a) (AE (C_o2.L a)) (C_o2.val a) (C_o2.keep a) [] []
abbrev ASV (a : O2) : Nat := 0 + a.b.toNat
abbrev ATR (a : O2) : Nat := 0 + a.a.toNat
abbrev Q4 (a : O2) : Int := gD a.l (ASV a)
abbrev S7 (a : O2) : Int := gD a.l (ATR a)
abbrev AFW (a : O2) : Prop := a.g.p.lo = a.g.p.lo
abbrev AFF (a : O2) : Prop := a.g.p.hi = a.g.p.hi
abbrev AKM (a : O2) : List Mk := OF a.g.ms.length λ (i : Nat) => gD a.g.ms i
abbrev AOF (a : O2) : Nat := (AKM a).length
abbrev ASM (a : O2) (i : Nat) : Mk := gD (AKM a) i
abbrev ASD (a : O2) (i : Nat) : Int := (ASM a i).pl
abbrev ALB (a : O2) (i : Nat) : Int := (ASM a i).ht
abbrev ADI (a : O2) : List Nt := OF a.g.ns.length λ (i : Nat) => gD a.g.ns i
abbrev vM (a : O2) : Nat := (ADI a).length
abbrev ADN (a : O2) (i : Nat) : Nt := gD (ADI a) i
abbrev ALU (a : O2) (i : Nat) : Int := (ADN a i).mi
abbrev ANH (a : O2) (i : Nat) : Span := (ADN a i).t
abbrev AKK (a : O2) (i : Nat) : Int := (ANH a i).lo
abbrev AME (a : O2) (i : Nat) : Int := (ANH a i).hi
abbrev AMF (a : O2) (i : Nat) : Span := (ADN a i).s
abbrev AMQ (a : O2) (i : Nat) : Int := (AMF a i).lo
abbrev AKL (a : O2) (i : Nat) : Int := (AMF a i).hi
abbrev AOA (a : O2) : Cht := Cht.mk a.g.p a.g.base a.g.scale a.g.off (AKM a) (ADI a)
abbrev AMX (a : O2) : Int := o2A (HW a.g) a.l a.a a.b
abbrev AKS (a : O2) : Int := o2B (HW a.g) a.l a.a a.b
abbrev AMS (a : O2) : Prop := a.l.length = a.l.length
abbrev ALC (a : O2) : Prop := ∀ (i : Nat), i < a.l.length -> gD a.l i = gD a.l i
abbrev ALF (a : O2) : Prop := a.g.ms.length = a.g.ms.length
abbrev AOM (a : O2) : Prop := ∀ (i : Nat), i < a.g.ms.length -> (gD a.g.ms i).pl = (gD a.g.ms i).pl /\ (gD a.g.ms i).ht = (gD a.g.ms i).ht
abbrev ALY (a : O2) : Prop := a.g.ns.length = a.g.ns.length
abbrev ANE (a : O2) : Prop := ∀ (i : Nat), i < a.g.ns.length -> (gD a.g.ns i).mi = (gD a.g.ns i).mi /\ (gD a.g.ns i).t.lo = (gD a.g.ns i).t.lo /\ (gD a.g.ns i).t.hi = (gD a.g.ns i).t.hi /\ (gD a.g.ns i).s.lo = (gD a.g.ns
 i).s.lo /\ (gD a.g.ns i).s.hi = (gD a.g.ns i).s.hi
abbrev ALN (a : O2) : Int := o2S (HW a.g) a.l a.a a.b a.s
theorem BWV (a : O2) : (V_o2 a) = (((0 <= a.b /\ a.b < (↑a.l.length : Int)) /\ ASV a < a.l.length /\ (0 <= a.a /\ a.a < (↑a.l.length : Int)) /\ ATR a < a.l.length /\ Q4 a = Q4 a /\ S7 a = S7 a /\ AFW a /\
 AFF a /\ a.g.base = a.g.base /\ a.g.scale = a.g.scale /\ a.g.off = a.g.off /\ AOF a = a.g.ms.length /\ (∀ (i : Nat), i < AOF a -> ASD a i = (gD a.g.ms i).pl /\ ALB a i = (gD a.g.ms i).ht) /\ vM a =
 a.g.ns.length /\ (∀ (i : Nat), i < vM a -> ALU a i = (gD a.g.ns i).mi /\ AKK a i = (gD a.g.ns i).t.lo /\ AME a i = (gD a.g.ns i).t.hi /\ AMQ a i = (gD a.g.ns i).s.lo /\ AKL a i = (gD a.g.ns i).s.hi) /\
 AFW a /\ AFF a /\ a.g.base = a.g.base /\ a.g.scale = a.g.scale /\ a.g.off = a.g.off /\ a.g.ms.length = AOF a /\ (∀ (i : Nat), i < a.g.ms.length -> (gD a.g.ms i).pl = ASD a i /\ (gD a.g.ms i).ht = ALB a i) /\
 a.g.ns.length = vM a /\ (∀ (i : Nat), i < a.g.ns.length -> (gD a.g.ns i).mi = ALU a i /\ (gD a.g.ns i).t.lo = AKK a i /\ (gD a.g.ns i).t.hi = AME a i /\ (gD a.g.ns i).s.lo = AMQ a i /\ (gD a.g.ns i).s.hi =
 AKL a i) /\ (0 <= Q4 a /\ Q4 a < (↑(vM a) : Int)) /\ 0 <= S7 a /\ S7 a < (↑(vM a) : Int)) /\ bif decide (iC (HW (AOA a) (Q4 a)) (HW (AOA a) (S7 a)) < 0) then AMX a = a.b /\
 AKS a = a.a /\ AMS a /\ ALC a /\ AFW a /\ AFF a /\ a.g.base = a.g.base /\ a.g.scale = a.g.scale /\ a.g.off = a.g.off /\ ALF a /\ AOM a /\ ALY a /\ ANE a /\ ALN a = IntKind.i64.wrap (a.s + 1)
 else AMX a = a.a /\ AKS a = a.b /\ AMS a /\ ALC a /\ AFW a /\ AFF a /\ a.g.base = a.g.base /\ a.g.scale = a.g.scale /\ a.g.off = a.g.off /\ ALF a /\ AOM a /\ ALY a /\ ANE a /\ ALN a = a.s) :=
 by kernel_rfl
structure Md where
 g : Cht
 l : List Int
 a : Int
 b : Int
 c : Int
 s : Int
def dMd : List AVal -> Heap -> Option (Md × List (Nat × Nat) × List Nat)
 | [.own id _ _ n, .d x, .d y, .d z, .bptr s _, .fn (.func f) [] [.bptr c _]], H => if f = RP then match H id, H s, Ap H c with
  | .live (.row _ m r), .live (.box [.d (.v (.int _ v))]), some q => some (⟨q, OF n λ i => FQ (r i), FQ x, FQ y, FQ z, v⟩, [(100, id), (101, c), (102, s)], [])
  | _, _, _ => none else none
 | _, _ => none
def C_md : Ctr := { ro := [100, 101], α := Md, xs := λ a => [.own 100 1 0 a.l.length, .int a.a, .int a.b, .int a.c, .bptr 102 0, iW], L := λ a => o2Lh a.g a.l a.s, val := λ a => .int (mnM (HW a.g) a.l a.a a.b a.c), keep := λ a => o2K a.g a.l (mnS (HW a.g) a.l a.a a.b a.c a.s), pre := λ a => [((0 <= a.a /\ a.a < a.l.length) /\ (0 <= a.b /\ a.b < a.l.length) /\ 0 <= a.c /\ a.c < a.l.length) /\ mR a.g a.l] }
def A_md : Ann := { ann 41 [(AEC, C_o2.spec dO2)] with E := [100, 101, 102] }
def V_md (a : Md) : Prop := CR Try.prog A_md AHJ (AL AHJ) (C_md.xs a) (AE (C_md.L a)) (C_md.val a) (C_md.keep a) [] []
abbrev ZP:=Md.l
abbrev Ba:=Md.a
abbrev Bd:=Md.b
abbrev DR:=Md.g
abbrev gZ:=Md.c
abbrev KA a:=EQ (ZP a)
abbrev XW a:=Pf (DR a)
abbrev Re a b c d:=o2B (XW a) (KA b) c d
abbrev eQ a:=AT (DR a)
abbrev Al a b c:=MR a b (FV c)
attribute [go_sem] ZP Ba Bd DR gZ KA XW Re eQ Al
theorem BUY (a : Md) : (V_md a) = (HF (AK AU (CQ (KA a) (ZP a)) (AJ (Ba a)) (AJ (Bd a)) (QK (CQ (KA a) (ZP a)) (EO (KA a) (ZP a)) (eQ a) (DR a) (AV (DR a)) (BF (DR a)) (NY (DR a) (λ i=>BC i (DR a) (BG (DR a) i) (BD (DR a) i) (AP (DR a) i) (AZ (DR a) i) (AO (DR a) i) (BE (DR a) i) (AM (DR a) i)) (AJ (Md.s a)) (CQ (ZP a) (KA a)) (EO (ZP a) (KA a)) (eQ a) (AW (DR a)) (FR (DR a) (DQ (DR a)) (λ i=>DT i (DR a)) (DK (DR a)) (λ i=>DX i (DR a)) (Al (TV (Ba a) (KA a)) (Bd a) (KA a)) (AF (λ i=>PU i (KA a) i (DR a))))))) (AK AU (CQ (KA a) (ZP a)) (AJ (Re a a (Ba a) (Bd a))) (AJ (gZ a)) (QK (CQ (KA a) (ZP a)) (EO (KA a) (ZP a)) (eQ a) (DR a) (AV (DR a)) (BF (DR a)) (NY (DR a) (λ i=>BC i (DR a) (BG (DR a) i) (BD (DR a) i) (AP (DR a) i) (AZ (DR a) i) (AO (DR a) i) (BE (DR a) i) (AM (DR a) i)) (AJ (o2S (XW a) (KA a) (Ba a) (Bd a) (Md.s a))) (CQ (ZP a) (KA a)) (EO (ZP a) (KA a)) (eQ a) (AW (DR a)) (FR (DR a) (DQ (DR a)) (λ i=>DT i (DR a)) (DK (DR a)) (λ i=>DX i (DR a)) (Al (TV (Re a a (Ba a) (Bd a)) (KA a)) (gZ a) (KA a)) (AF (λ i=>PU i (KA a) i (DR a))))))) (AK AU (CQ (KA a) (ZP a)) (AJ (o2A (XW a) (KA a) (Ba a) (Bd a))) (AJ (o2A (XW a) (KA a) (Re a a (Ba a) (Bd a)) (gZ a))) (QK (CQ (KA a) (ZP a)) (EO (KA a) (ZP a)) (eQ a) (DR a) (AV (DR a)) (BF (DR a)) (NY (DR a) (λ i=>BC i (DR a) (BG (DR a) i) (BD (DR a) i) (AP (DR a) i) (AZ (DR a) i) (AO (DR a) i) (BE (DR a) i) (AM (DR a) i)) (AJ (o2S (XW a) (KA a) (Re a a (Ba a) (Bd a)) (gZ a) (o2S (XW a) (KA a) (Ba a) (Bd a) (Md.s a)))) (CQ (ZP a) (KA a)) (EO (ZP a) (KA a)) (eQ a) (AW (DR a)) (FR (DR a) (DQ (DR a)) (λ i=>DT i (DR a)) (DK (DR a)) (λ i=>DX i (DR a)) (Al (TV (o2A (XW a) (KA a) (Ba a) (Bd a)) (KA a)) (o2A (XW a) (KA a) (Re a a (Ba a) (Bd a)) (gZ a)) (KA a)) (AF (λ i=>PU i (KA a) i (DR a))))))) (AS (mnM (TO (DR a)) (ZP a) (Ba a) (Bd a) (gZ a)) (Re a a (o2A (XW a) (KA a) (Ba a) (Bd a)) (o2A (XW a) (KA a) (Re a a (Ba a) (Bd a)) (gZ a)))) (JQ (ZP a)) (NV (ZP a)) (eQ a) (MZ (DR a) (AV (DR a)) (BA (DR a)) (BB (DR a)) (EU (DR a)) (QI (DR a)) (DB (DR a)) (JZ (DR a)) (AS (mnS (TO (DR a)) (ZP a) (Ba a) (Bd a) (gZ a) (Md.s a)) (o2S (XW a) (KA a) (o2A (XW a) (KA a) (Ba a) (Bd a)) (o2A (XW a) (KA a) (Re a a (Ba a) (Bd a)) (gZ a)) (o2S (XW a) (KA a) (Re a a (Ba a) (Bd a)) (gZ a) (o2S (XW a) (KA a) (Ba a) (Bd a) (Md.s a))))))) := by kernel_rfl
structure Gw where
 g : Cht
 l : List Int
def dGw : List AVal -> Heap -> Option (Gw × List (Nat × Nat) × List Nat)
 | [.own id _ _ n, _, _, .fn (.func f) [] [.bptr c _]], H => if f = RP then match H id, Ap H c with
  | .live (.row _ m r), some q => some (⟨q, OF n λ i => FQ (r i)⟩, [(100, id), (101, c)], [])
  | _, _ => none else none
 | _, _ => none
def gwOk (a : Gw) : Prop := (a.l.length = 13 ∨ a.l.length = 14) /\ mR a.g a.l
def gwL (a : Gw) : List (Nat × AObj) := [(100, rowI a.l), (101, bxG a.g)]
def gwK (a : Gw) : List (Nat × HCell) := [(100, .live (rowI a.l)), (101, .live (bxG a.g))]
def chP (a : Gw) : Int := mnM (HW a.g) a.l 3 6 9
def chH (a : Gw) : Int := bif mnS (HW a.g) a.l 3 6 9 0 == 0 then 1 else 0
def C_cho : Ctr := { ro := [100, 101], α := Gw, xs := λ a => [.own 100 1 0 a.l.length, .int 0, .int a.l.length, iW], L := gwL, val := λ a => .tup [.int (chP a), .int (chH a)], keep := gwK, pre := λ a => [gwOk a] }
def BOR : Ann := { ann 63 [(AHI, C_md.spec dMd)] with E := [100, 101] }
def BON (a : Gw) : Prop := CR Try.prog BOR AGX (AL AGX) (C_cho.xs a) (AE (C_cho.L a)) (C_cho.val a) (C_cho.keep a) [] []
abbrev MM:=Gw.l
abbrev DJ:=Gw.g
abbrev QH a:=HJ (DJ a)
abbrev YJ a:=NV (MM a)
abbrev OL a:=JQ (MM a)
abbrev dK a b:=JI (Int.tdiv a b)
abbrev NJ a:=FV (MM a)
abbrev Kc a:=CG (NJ a)
abbrev Xb a:=KP (Kc a) 0
abbrev AHE a b:=AHS 0 (dK (Xb a) 4) b
abbrev Yt a:=AHE a 2
abbrev Yw a:=AHE a 3
abbrev fI a:=AHE a 1
abbrev GW a:=EQ (MM a)
abbrev Wh a:=Pf (DJ a)
abbrev Fi a:=DK (DJ a)
abbrev Hd a:=DQ (DJ a)
abbrev SJ a:=AW (DJ a)
abbrev QJ a:=AT (DJ a)
abbrev Zf a b:=CQ (MM a) b
abbrev Fh a b:=AM (DJ a) b
abbrev Fb a b:=BE (DJ a) b
abbrev Gy a b:=AO (DJ a) b
abbrev Ed a b:=AZ (DJ a) b
abbrev Eo a b:=AP (DJ a) b
abbrev Gi a b:=BD (DJ a) b
abbrev Ek a b:=BG (DJ a) b
abbrev Ej a:=CA (DJ a)
abbrev Ft a:=BM (DJ a)
abbrev Ew a:=BF (DJ a)
abbrev WR a:=AV (DJ a)
abbrev Rx a b:=CQ a (MM b)
abbrev Iu a b:=Rx (GW a) b
abbrev Gt a:=CV a OW
attribute [go_sem] MM DJ QH YJ OL dK NJ Kc Xb AHE Yt Yw fI GW Wh Fi Hd SJ QJ Zf Fh Fb Gy Ed Eo Gi Ek Ej Ft Ew WR Rx Iu Gt
theorem BRP (a : Gw) : (BON a) = (And (Gt (Gb (UB 4))) (ZT (Gt (Gb (UB 4))) (FG (bO (Xb a) 8) (EZ (bO (Xb a) 50) OW (DA AU (Iu a a) (AJ (fI a)) (AJ (Yt a)) (AJ (Yw a)) (QK (Iu a a) (EO (GW a) (MM a)) (QJ a) (DJ a) (WR a) (Ew a) (KI (Ft a) (Ej a) (λ i=>BC i (DJ a) (Ek a i) (Gi a i) (Eo a i) (Ed a i) (Gy a i) (Fb a i) (Fh a i)) (Gb 0) (Zf a (GW a)) (EO (MM a) (GW a)) (QJ a) (SJ a) (FR (DJ a) (Hd a) (λ i=>DT i (DJ a)) (Fi a) (λ i=>DX i (DJ a)) (BH (TV (fI a) (GW a)) (TV (Yt a) (GW a)) (CX (Yw a)) (FZ (Yw a) (FV (GW a)))) (AF (λ i=>PU i (GW a) i (DJ a))))))) (FG (XR (mnS (Wh a) (GW a) (fI a) (Yt a) (Yw a) 0)) (AK (AS (chP a) (mnM (Wh a) (GW a) (fI a) (Yt a) (Yw a))) (Jb (chH a)) (OL a) (YJ a) (QH a)) (FG (Lv (mnS (Wh a) (GW a) (fI a) (Yt a) (Yw a) 0) 12) (AK (AS (chP a) (mnM (Wh a) (GW a) (fI a) (Yt a) (Yw a))) (AS (chH a) 2) (OL a) (YJ a) (QH a)) (AK (AS (chP a) (mnM (Wh a) (GW a) (fI a) (Yt a) (Yw a))) (EV (chH a)) (OL a) (YJ a) (QH a))))) (AK (AS (chP a) (Yt a)) (Jb (chH a)) (OL a) (YJ a) (QH a))))) := by kernel_rfl
def C_pin : Ctr := { ro := [100, 101], α := Gw, xs := λ a => [.own 100 1 0 a.l.length, .int 0, .int a.l.length, iW], L := gwL, val := λ a => .bool (iB (HW a.g) a.l (a.l.length - 1)), keep := gwK, pre := λ a => [gwOk a] }
def pin3 (a : Gw) : Shape := { α := Int, dflt := 0, T := λ k => ⟨[(0, .own 100 1 0 a.l.length), (1, .int 0), (2, .int a.l.length), (3, iW), (9, .int k), (10, .int 0)], gwK a⟩, inv := λ k => k = 1, meas := λ _ => 1 }
def pin5 (a : Gw) : Shape := { α := Nat, dflt := 0, T := λ i => ⟨[(0, .own 100 1 0 a.l.length), (1, .int 0), (2, .int a.l.length), (3, iW), (9, .int ((i + 1 : Nat) : Int)), (10, .int 0)], gwK a⟩, inv := λ i => i + 1 <= a.l.length /\ iB (HW a.g) a.l i = true, meas := λ i => a.l.length - i }
def BNU (a : Gw) : Ann := { ann 141 [(RP, C_fw1.spec dGAB)] with E := [100, 101], loops := λ id => if id = 3 then some [pin3 a] else none, inner := λ gs id => if id = 5 then some [pin5 a] else none, cutIn := λ gs id => if id = 11 then some [] else none }
def BPQ (a : Gw) : Prop := CR Try.prog (BNU a) T3 (AL T3) (C_pin.xs a) (AE (C_pin.L a)) (C_pin.val a) (C_pin.keep a) [] []
abbrev XN a:=TO (DJ a)
abbrev eC a:=CG (FB a)
abbrev Fm a:=GX (NJ a)
abbrev Av a b:=ET (MM a) b
abbrev Xe a:=DG (DJ a)
abbrev gL a:=FI (DJ a)
abbrev Ai a:=BB (DJ a)
abbrev Ac a:=BA (DJ a)
attribute [go_sem] XN eC Fm Av Xe gL Ai Ac
theorem BSZ (a : Gw) : (BPQ a) = (And ((@Exists Int) (λ i=>And (Mp AU (OL a) CU (Fm a) (AS i (EF 0)) CU (YJ a) (QH a)) (Jb i))) (DF (λ i=>CV (Jb i) (NL (λ j=>AH (Mp AU (OL a) CU (Fm a) (HZ (FB j) i) CU (YJ a) (QH a)) (En j (NJ a)) (EK (iB (XN a) (MM a) j))) (λ j=>SE (En j (NJ a)) (EK (iB (XN a) (MM a) j)) (JR (HQ (IM (FB j) (Kc a)) (IW (FB j) (NJ a))) (HQ (IM (FB j) (Kc a)) (OU (DN (FB j)) (NJ a))) (HQ (IM (FB j) (Kc a)) (CS (JJ (eC j)) (NJ a))) (HQ (IM (FB j) (Kc a)) (OU (Vt (eC j)) (NJ a))) (HQ (IM (FB j) (Kc a)) (GH (AJ (Av a (DN (FB j)))) (AJ (Av a (Vt (eC j)))) (QJ a) (SJ a) (WR a) (Ac a) (CM (Ai a) (Ew a) (Ft a) (Ej a) (λ k=>BC k (DJ a) (Ek a k) (Gi a k) (Eo a k) (Ed a k) (Gy a k) (Fb a k) (Fh a k)) (QJ a) (SJ a) (WR a) (QQ (Ac a) (Ai a) (Hd a) (gL a) (Fi a) (DJ a) (Cu (Av a (DN (FB j))) (DJ a)) (CX (Av a (Vt (eC j)))) (Np (Av a (Vt (eC j))) (DJ a)))))) (FG (Ae (IM (FB j) (Kc a)) (Ip (Lg (TO (Xe a) (Av a (DN (FB j)))) (TO (Xe a) (Av a (Vt (eC j))))))) (IF (λ k=>FW (Mp AU (OL a) CU (Fm a) (CJ (FB k) (FB j)) CU (YJ a) (QH a)) (En k (NJ a)) (EK (iB (XN a) (MM a) k)) (NJ a) k j)) (EZ (Lv (eC j) (Kc a)) (BH (EK (iB (XN a) (MM a) (Jy (NJ a)))) (OL a) (YJ a) (QH a)) (YB (PD (Xb a) 50) (BH (EX (iB (XN a) (MM a) (Jy (NJ a)))) (OL a) (YJ a) (QH a))) II)))))))) := by kernel_rfl
structure Gp where
 g : Cht
 l : List Int
 p : Int
def dGp : List AVal -> Heap -> Option (Gp × List (Nat × Nat) × List Nat)
 | [.own id _ _ n, _, _, .d x, .fn (.func f) [] [.bptr c _]], H => if f = RP then match H id, Ap H c with
  | .live (.row _ m r), some q => some (⟨q, OF n λ i => FQ (r i), FQ x⟩, [(100, id), (101, c)], [])
  | _, _ => none else none
 | _, _ => none
def gpR (a : Gp) : PtR := ptM (HW a.g) a.l a.p.toNat
def C_ptn : Ctr := { ro := [101], α := Gp, xs := λ a => [.own 100 1 0 a.l.length, .int 0, .int a.l.length, .int a.p, iW], L := λ a => [(100, rowI a.l), (101, bxG a.g)], val := λ a => .tup [.int (gpR a).j, .any], keep := λ a => [(100, .live (AIM a.l.length (ptL (HW a.g) a.l a.p.toNat))), (101, .live (bxG a.g))], pre := λ a => [((a.l.length = 13 ∨ a.l.length = 14) /\ 0 <= a.p /\ a.p < a.l.length) /\ mR a.g a.l] }
structure PtS where
 i : Nat
 j : Nat
 l : List Int
 deriving Inhabited
def ptI (a : Gp) (dn : Bool) (x : PtS) : Prop := (1 <= x.i /\ x.j < a.l.length /\ x.i <= x.j + 1) /\ (x.l.length = a.l.length /\ mR a.g x.l) /\ gpR a = VX (HW a.g) dn x.i x.j x.l
def ptT (a : Gp) (x : PtS) : ST := ⟨[(0, .own 100 1 0 a.l.length), (1, .int 0), (4, iW), (12, .int x.i), (13, .int x.j)], [(100, .live (AIM a.l.length x.l)), (101, .live (bxG a.g))]⟩
def pt3 (a : Gp) : Shape := { α := PtS, dflt := default, T := ptT a, inv := ptI a false, meas := λ x => x.j + 1 - x.i }
def ptU (a : Gp) (x : PtS) : Prop := x.i <= x.j -> ¬ HW a.g (gD x.l x.i) < HW a.g (gD x.l 0)
def pt5 (a : Gp) : Shape := { α := PtS, dflt := default, T := ptT a, inv := λ x => ptI a true x /\ ptU a x, meas := λ x => x.j }
def pt13 (a : Gp) (m : Nat) : Shape := { α := PtS, dflt := default, T := ptT a, inv := λ x => ptI a false x /\ x.j + 1 - x.i <= m, meas := λ x => x.j + 1 - x.i }
def pt15 (a : Gp) (m : Nat) : Shape := { α := PtS, dflt := default, T := ptT a, inv := λ x => ptI a true x /\ ptU a x /\ x.j + 1 - x.i <= m, meas := λ x => x.j }
def BPB (a : Gp) : Ann := { ann 178 [(RP, C_fw1.spec dGAB)] with E := [100, 101], loops := λ id => if id = 3 then some [pt3 a] else if id = 5 then some [pt5 a] else if id = 13 then some [pt3 a] else none, inner := λ gs id => if id = 13 then (if gs.length = 0 then some [pt3 a] else some [pt13 a (gs.getD 0 0)]) else if id = 15 then some [pt15 a (gs.getD 0 0)] else none }
def BPN (a : Gp) : Prop := CR Try.prog (BPB a) AMT (AL AMT) (C_ptn.xs a) (AE (C_ptn.L a)) (C_ptn.val a) (C_ptn.keep a) [] []
abbrev Zp:=Gp.l
abbrev hZ:=@Exists PtS
abbrev HA:=PtS.i
abbrev QW:=PtS.j
abbrev CN:=Gp.g
abbrev AGU:=λ (f : PtS -> Prop) => ∀ (x : PtS), f x
abbrev xF a:=FB (QW a)
abbrev bW a b (c:Nat->Prop) d:=JE a b (AF c) d
abbrev AEG a b:=(@Eq PtR) (gpR a) b
abbrev ADY a b:=CQ (PtS.l a) (Zp b)
abbrev Ck a b c (d:Nat->Prop) e f:=bW a (ADY b c) d (AEG e f)
abbrev AFK a:=TO (CN a)
abbrev XI a b c d e:=VX (AFK a) b (HA c) (QW d) (PtS.l e)
abbrev D9 a b c d:=Tf a b c (BL d)
abbrev PW a b:=ET (PtS.l a) b
abbrev YO a b c d e:=D9 a (PtS.l b) (PW c d) (CN e)
abbrev Ex a b c d:=AH a b (CW c d)
abbrev F5 a:=FV (Zp a)
abbrev Jp a b:=DC a (F5 b)
abbrev YP a b c d e:=Ex (JX (HA a)) (Jp (QW b) c) (HA d) (xF e)
abbrev Ha a:=HJ (CN a)
abbrev Nf a b c d e:=OC a (Zp b) (PW c d) e
abbrev YV a:=DN (QW a)
abbrev Yz a b:=PW a (YV b)
abbrev As a:=DN (HA a)
abbrev cL a:=CG (QW a)
abbrev Ey a:=JQ (Zp a)
abbrev pG a b:=OU a (F5 b)
abbrev gJ a b:=IW a (F5 b)
abbrev Nz a b:=gJ (QW a) b
abbrev QM:=PY 0
abbrev U6 a b c:=ptL a b (HX c)
abbrev dY a b:=JS a (QW b)
abbrev W9 a:=PtR.j (gpR a)
abbrev Ng a:=Rb (F5 a)
abbrev AEY a:=CG (HA a)
abbrev El a b:=MT (xF a) (HA b)
abbrev ANO a b c:=TO a (PW b c)
abbrev Fs a b c:=ANO (CN a) b c
abbrev Yp a b c:=ANO (DG (CN a)) b c
abbrev zP a b:=hd7 (AEY a) (cL b)
abbrev By a b:=HQ (zP a a) b
abbrev Xj a:=PW a 0
abbrev Wy a:=BB (CN a)
abbrev Xg a:=BA (CN a)
abbrev Xp a:=AV (CN a)
abbrev Yf a:=AW (CN a)
abbrev Yr a:=AT (CN a)
abbrev Xu a b c:=By a (pG b c)
attribute [go_sem] Zp hZ HA QW CN AGU xF bW AEG ADY Ck AFK XI D9 PW YO Ex F5 Jp YP Ha Nf YV Yz As cL Ey pG gJ Nz QM U6 dY W9 Ng AEY El ANO Fs Yp zP By Xj Wy Xg Xp Yf Yr Xu
theorem BSF (a : Gp) : (BPN a) = (AH (BH (CS (Gp.p a) (F5 a)) (Jp (PY (Gp.p a)) a) (Ng a) (Ho (Jp 0 a) (Ng a) (CS (Gp.p a) (F5 a)) (pG (PY (Gp.p a)) a))) (hZ (λ i=>BH (Bn AU (Ey a) CU (HZ (HA i) (EF 0)) (HZ (QW i) (JJ (CG (F5 a)))) (λ j=>Nf j a i j (MY j (PY (Gp.p a)) (ET (Zp a) QM) (MY j QM (ET (Zp a) (PY (Gp.p a))) (ET (Zp a) j)))) (Ha a)) (YP i i a i i) (MI (ADY i a) (λ j=>YO j i i j a)) (AEG a (XI a He i i i)))) (AGU (λ i=>CV (Ck (YP i i a i i) i a (λ j=>YO j i i j a) a (XI a He i i i)) (JR (By i (gJ (HA i) a)) (Xu i (As i) a) (By i (Ng a)) (Xu i QM a) (By i (GH (AJ (PW i (As i))) (AJ (PW i QM)) (Yr a) (Yf a) (Xp a) (Xg a) (CM (Wy a) (BF (CN a)) (BM (CN a)) (CA (CN a)) (λ j=>BC j (CN a) (BG (CN a) j) (BD (CN a) j) (AP (CN a) j) (AZ (CN a) j) (AO (CN a) j) (BE (CN a) j) (AM (CN a) j)) (Yr a) (Yf a) (Xp a) (QQ (Xg a) (Wy a) (DQ (CN a)) (FI (CN a)) (DK (CN a)) (CN a) (Cu (PW i (As i)) (CN a)) (CX (Xj i)) (Np (Xj i) (CN a)))))) (EZ (GB (zP i i) (Ip (Lg (Yp a i (As i)) (Yp a i QM)))) (hZ (λ j=>AH (Bn AU (Ey a) CU (CJ (HA j) (HA i)) (dY (QW j) i) (λ k=>Nf k a j k (PW i k)) (Ha a)) (Ck (YP j j a j j) j a (λ k=>YO k j j k a) a (XI a He j j j)) (PM (xF j) (HA j) (xF i) (HA i)))) (hZ (λ j=>AH (Bn AU (Ey a) CU (JS (HA j) (HA i)) (dY (QW j) i) (λ k=>Nf k a j k (PW i k)) (Ha a)) (Ck (YP j j a j j) j a (λ k=>YO k j j k a) a (XI a LX j j j)) (CV (CW (HA j) (QW j)) (Not (KV (Fs a j (HA j)) (Fs a j 0)))))) (AGU (λ j=>SE (Ck (YP j j a j j) j a (λ k=>YO k j j k a) a (XI a LX j j j)) (CV (CW (HA j) (QW j)) (Not (KV (Fs a j (HA j)) (Fs a j 0)))) (JR (By j (Nz j a)) (Xu j (YV j) a) (By j (Ng a)) (Xu j QM a) (By j (GH (AJ (Yz j j)) (AJ (PW j QM)) (Yr a) (Yf a) (Xp a) (Xg a) (CM (Wy a) (BF (CN a)) (BM (CN a)) (CA (CN a)) (λ k=>BC k (CN a) (BG (CN a) k) (BD (CN a) k) (AP (CN a) k) (AZ (CN a) k) (AO (CN a) k) (BE (CN a) k) (AM (CN a) k)) (Yr a) (Yf a) (Xp a) (QQ (Xg a) (Wy a) (DQ (CN a)) (FI (CN a)) (DK (CN a)) (CN a) (Cu (Yz j j) (CN a)) (CX (Xj j)) (Np (Xj j) (CN a)))))) (FG (Ae (zP j j) (Ip (Lg (Yp a j (YV j)) (Yp a j QM)))) (hZ (λ k=>JE (Bn AU (Ey a) CU (JS (HA k) (HA j)) (HZ (QW k) (JJ (cL j))) (λ l=>Nf l a k l (PW j l)) (Ha a)) (Ck (YP k k a k k) k a (λ l=>YO l k k l a) a (XI a LX k k k)) (CV (CW (HA k) (QW k)) (Not (KV (Fs a k (HA k)) (Fs a k 0)))) (DC (QW k) (QW j)))) (FG (JV (AEY j) (cL j)) (WF (BH (Ng a) (Jp 0 a) (Nz j a) (Ho (Jp (YV j) a) (Nz j a) (Ng a) (pG QM a))) (dY (W9 a) j) (Ey a) (λ k=>IL k (Zp a) (U6 (AFK a) (Zp a) (Gp.p a)) k (MY k QM (Yz j j) (MY k (YV j) (PW j QM) (PW j k)))) (Ha a)) (AH (BH (Nz j a) (Jp (YV j) a) (gJ (HA j) a) (Ho (Jp (As j) a) (gJ (HA j) a) (Nz j a) (pG (YV j) a))) (hZ (λ k=>BH (Bn AU (Ey a) CU (CJ (HA k) (HA j)) (HZ (QW k) (JJ (cL j))) (λ l=>Nf l a k l (MY l (YV j) (PW j (As j)) (MY l (As j) (Yz j j) (PW j l)))) (Ha a)) (YP k k a k k) (MI (ADY k a) (λ l=>YO l k k l a)) (AEG a (XI a He k k k)))) (AGU (λ k=>CV (Ck (YP k k a k k) k a (λ l=>YO l k k l a) a (XI a He k k k)) (And (hZ (λ l=>Ex (Bn AU (Ey a) CU (JS (HA l) (HA k)) (dY (QW l) k) (λ m=>Nf m a l m (PW k m)) (Ha a)) (Ck (YP l l a l l) l a (λ m=>YO m l l m a) a (XI a He l l l)) (El l l) (El k k))) (AGU (λ l=>SE (Ck (YP l l a l l) l a (λ m=>YO m l l m a) a (XI a He l l l)) (CW (El l l) (El k k)) (JR (By l (gJ (HA l) a)) (Xu l (As l) a) (By l (Ng a)) (Xu l QM a) (By l (GH (AJ (PW l (As l))) (AJ (PW l QM)) (Yr a) (Yf a) (Xp a) (Xg a) (CM (Wy a) (BF (CN a)) (BM (CN a)) (CA (CN a)) (λ m=>BC m (CN a) (BG (CN a) m) (BD (CN a) m) (AP (CN a) m) (AZ (CN a) m) (AO (CN a) m) (BE (CN a) m) (AM (CN a) m)) (Yr a) (Yf a) (Xp a) (QQ (Xg a) (Wy a) (DQ (CN a)) (FI (CN a)) (DK (CN a)) (CN a) (Cu (PW l (As l)) (CN a)) (CX (Xj l)) (Np (Xj l) (CN a)))))) (EZ (GB (zP l l) (Ip (Lg (Yp a l (As l)) (Yp a l QM)))) (hZ (λ m=>JE (Bn AU (Ey a) CU (CJ (HA m) (HA l)) (dY (QW m) l) (λ n=>Nf n a m n (PW l n)) (Ha a)) (Ck (YP m m a m m) m a (λ n=>YO n m m n a) a (XI a He m m m)) (CW (El m m) (El k k)) (PM (xF m) (HA m) (xF l) (HA l)))) (hZ (λ m=>BH (Bn AU (Ey a) CU (JS (HA m) (HA l)) (dY (QW m) l) (λ n=>Nf n a m n (PW l n)) (Ha a)) (Ck (YP m m a m m) m a (λ n=>YO n m m n a) a (XI a LX m m m)) (CV (CW (HA m) (QW m)) (Not (KV (Fs a m (HA m)) (Fs a m 0)))) (CW (El m m) (El k k)))) (AGU (λ m=>CV (Ex (Ck (YP m m a m m) m a (λ n=>YO n m m n a) a (XI a LX m m m)) (CV (CW (HA m) (QW m)) (Not (KV (Fs a m (HA m)) (Fs a m 0)))) (El m m) (El k k)) (JR (By m (Nz m a)) (Xu m (YV m) a) (By m (Ng a)) (Xu m QM a) (By m (GH (AJ (Yz m m)) (AJ (PW m QM)) (Yr a) (Yf a) (Xp a) (Xg a) (CM (Wy a) (BF (CN a)) (BM (CN a)) (CA (CN a)) (λ n=>BC n (CN a) (BG (CN a) n) (BD (CN a) n) (AP (CN a) n) (AZ (CN a) n) (AO (CN a) n) (BE (CN a) n) (AM (CN a) n)) (Yr a) (Yf a) (Xp a) (QQ (Xg a) (Wy a) (DQ (CN a)) (FI (CN a)) (DK (CN a)) (CN a) (Cu (Yz m m) (CN a)) (CX (Xj m)) (Np (Xj m) (CN a)))))) (FG (Ae (zP m m) (Ip (Lg (Yp a m (YV m)) (Yp a m QM)))) (hZ (λ n=>AH (Bn AU (Ey a) CU (JS (HA n) (HA m)) (HZ (QW n) (JJ (cL m))) (λ u=>Nf u a n u (PW m u)) (Ha a)) (Ex (Ck (YP n n a n n) n a (λ u=>YO u n n u a) a (XI a LX n n n)) (CV (CW (HA n) (QW n)) (Not (KV (Fs a n (HA n)) (Fs a n 0)))) (El n n) (El k k)) (DC (QW n) (QW m)))) (EZ (JV (AEY m) (cL m)) (WF (BH (Ng a) (Jp 0 a) (Nz m a) (Ho (Jp (YV m) a) (Nz m a) (Ng a) (pG QM a))) (dY (W9 a) m) (Ey a) (λ n=>IL n (Zp a) (U6 (AFK a) (Zp a) (Gp.p a)) n (MY n QM (Yz m m) (MY n (YV m) (PW m QM) (PW m n)))) (Ha a)) (BH (Nz m a) (Jp (YV m) a) (gJ (HA m) a) (Ho (Jp (As m) a) (gJ (HA m) a) (Nz m a) (pG (YV m) a))) (hZ (λ n=>AH (Bn AU (Ey a) CU (CJ (HA n) (HA m)) (HZ (QW n) (JJ (cL m))) (λ u=>Nf u a n u (MY u (YV m) (PW m (As m)) (MY u (As m) (Yz m m) (PW m u)))) (Ha a)) (Ck (YP n n a n n) n a (λ u=>YO u n n u a) a (XI a He n n n)) (PM (xF n) (HA n) (xF k) (HA k))))))))))))))))))))))))))) := by kernel_rfl
def BPT (_x : One) : Prop := CR Try.prog (ann 25 []) Qt (AL Qt) (wI 13) (AE []) (.int 4) [] [] []
abbrev z_l13_0 : List UInt8 := [(8 : UInt8), (8 : UInt8), (8 : UInt8), (8 : UInt8), (8 : UInt8), (8 : UInt8), (8 : UInt8), (8 : UInt8), (8 : UInt8), (8 : UInt8), (8 : UInt8), (8 : UInt8), (8 : UInt8), (8 : UInt8), (8 :
 UInt8), (8 : UInt8), (8 : UInt8), (8 : UInt8), (8 : UInt8), (8 : UInt8), (8 : UInt8), (8 : UInt8), (8 : UInt8), (8 : UInt8), (8 : UInt8), (8 : UInt8), (8 : UInt8), (8 : UInt8), (8 : UInt8), (8 : UInt8), (8 : UInt8), (8 :
 UInt8), (8 : UInt8), (8 : UInt8), (8 : UInt8), (8 : UInt8), (8 : UInt8), (8 : UInt8), (8 : UInt8), (8 : UInt8), (8 : UInt8), (8 : UInt8), (8 : UInt8), (8 : UInt8), (8 : UInt8), (8 : UInt8), (8 : UInt8), (8 : UInt8), (8 :
 UInt8), (8 : UInt8), (8 : UInt8), (8 : UInt8), (8 : UInt8), (8 : UInt8), (8 : UInt8), (8 : UInt8), (8 : UInt8), (8 : UInt8), (8 : UInt8), (8 : UInt8), (8 : UInt8), (8 : UInt8), (8 : UInt8), (8 : UInt8)]
abbrev ANM : Nat := ((2 : Int) ^ IntKind.i64.bits).natAbs
theorem BRB (_x : One) : (BPT _x) = (((0 : Int) <= IntKind.u8.wrap (13 : Int) /\ IntKind.u8.wrap (13 : Int) < (↑(256 : Nat) : Int)) /\ Int.ofNat (4 : Nat) = Int.ofNat (((0 : Nat) + ((([(0 : UInt8), (1 : UInt8), (2 :
 UInt8), (2 : UInt8), (3 : UInt8), (3 : UInt8), (3 : UInt8), (3 : UInt8), (4 : UInt8), (4 : UInt8), (4 : UInt8), (4 : UInt8), (4 : UInt8), (4 : UInt8), (4 : UInt8), (4 : UInt8), (5 : UInt8), (5 : UInt8), (5 : UInt8), (5 :
 UInt8), (5 : UInt8), (5 : UInt8), (5 : UInt8), (5 : UInt8), (5 : UInt8), (5 : UInt8), (5 : UInt8), (5 : UInt8), (5 : UInt8), (5 : UInt8), (5 : UInt8), (5 : UInt8), (6 : UInt8), (6 : UInt8), (6 : UInt8), (6 : UInt8), (6 :
 UInt8), (6 : UInt8), (6 : UInt8), (6 : UInt8), (6 : UInt8), (6 : UInt8), (6 : UInt8), (6 : UInt8), (6 : UInt8), (6 : UInt8), (6 : UInt8), (6 : UInt8), (6 : UInt8), (6 : UInt8), (6 : UInt8), (6 : UInt8), (6 : UInt8), (6 :
 UInt8), (6 : UInt8), (6 : UInt8), (6 : UInt8), (6 : UInt8), (6 : UInt8), (6 : UInt8), (6 : UInt8), (6 : UInt8), (6 : UInt8), (6 : UInt8)].append [(7 : UInt8), (7 : UInt8), (7 : UInt8), (7 : UInt8), (7 : UInt8), (7 :
 UInt8), (7 : UInt8), (7 : UInt8), (7 : UInt8), (7 : UInt8), (7 : UInt8), (7 : UInt8), (7 : UInt8), (7 : UInt8), (7 : UInt8), (7 : UInt8), (7 : UInt8), (7 : UInt8), (7 : UInt8), (7 : UInt8), (7 : UInt8), (7 : UInt8), (7 :
 UInt8), (7 : UInt8), (7 : UInt8), (7 : UInt8), (7 : UInt8), (7 : UInt8), (7 : UInt8), (7 : UInt8), (7 : UInt8), (7 : UInt8), (7 : UInt8), (7 : UInt8), (7 : UInt8), (7 : UInt8), (7 : UInt8), (7 : UInt8), (7 : UInt8), (7 :
 UInt8), (7 : UInt8), (7 : UInt8), (7 : UInt8), (7 : UInt8), (7 : UInt8), (7 : UInt8), (7 : UInt8), (7 : UInt8), (7 : UInt8), (7 : UInt8), (7 : UInt8), (7 : UInt8), (7 : UInt8), (7 : UInt8), (7 : UInt8), (7 : UInt8), (7 :
 UInt8), (7 : UInt8), (7 : UInt8), (7 : UInt8), (7 : UInt8), (7 : UInt8), (7 : UInt8), (7 : UInt8)]).append (z_l13_0.append z_l13_0)).getD (IntKind.u8.wrap (13 : Int)).toNat (0 : UInt8)).toNat % ANM) % ANM)) := by
 kernel_rfl
def BOQ (_x : One) : Prop := CR Try.prog (ann 25 []) Qt (AL Qt) (wI 14) (AE []) (.int 4) [] [] []
abbrev z_l14_0 : List UInt8 := [(8 : UInt8), (8 : UInt8), (8 : UInt8), (8 : UInt8), (8 : UInt8), (8 : UInt8), (8 : UInt8), (8 : UInt8), (8 : UInt8), (8 : UInt8), (8 : UInt8), (8 : UInt8), (8 : UInt8), (8 : UInt8), (8 :
 UInt8), (8 : UInt8), (8 : UInt8), (8 : UInt8), (8 : UInt8), (8 : UInt8), (8 : UInt8), (8 : UInt8), (8 : UInt8), (8 : UInt8), (8 : UInt8), (8 : UInt8), (8 : UInt8), (8 : UInt8), (8 : UInt8), (8 : UInt8), (8 : UInt8), (8 :
 UInt8), (8 : UInt8), (8 : UInt8), (8 : UInt8), (8 : UInt8), (8 : UInt8), (8 : UInt8), (8 : UInt8), (8 : UInt8), (8 : UInt8), (8 : UInt8), (8 : UInt8), (8 : UInt8), (8 : UInt8), (8 : UInt8), (8 : UInt8), (8 : UInt8), (8 :
 UInt8), (8 : UInt8), (8 : UInt8), (8 : UInt8), (8 : UInt8), (8 : UInt8), (8 : UInt8), (8 : UInt8), (8 : UInt8), (8 : UInt8), (8 : UInt8), (8 : UInt8), (8 : UInt8), (8 : UInt8), (8 : UInt8), (8 : UInt8)]
abbrev AKU : Nat := ((2 : Int) ^ IntKind.i64.bits).natAbs
theorem BQS (_x : One) : (BOQ _x) = (((0 : Int) <= IntKind.u8.wrap (14 : Int) /\ IntKind.u8.wrap (14 : Int) < (↑(256 : Nat) : Int)) /\ Int.ofNat (4 : Nat) = Int.ofNat (((0 : Nat) + ((([(0 : UInt8), (1 : UInt8), (2 :
 UInt8), (2 : UInt8), (3 : UInt8), (3 : UInt8), (3 : UInt8), (3 : UInt8), (4 : UInt8), (4 : UInt8), (4 : UInt8), (4 : UInt8), (4 : UInt8), (4 : UInt8), (4 : UInt8), (4 : UInt8), (5 : UInt8), (5 : UInt8), (5 : UInt8), (5 :
 UInt8), (5 : UInt8), (5 : UInt8), (5 : UInt8), (5 : UInt8), (5 : UInt8), (5 : UInt8), (5 : UInt8), (5 : UInt8), (5 : UInt8), (5 : UInt8), (5 : UInt8), (5 : UInt8), (6 : UInt8), (6 : UInt8), (6 : UInt8), (6 : UInt8), (6 :
 UInt8), (6 : UInt8), (6 : UInt8), (6 : UInt8), (6 : UInt8), (6 : UInt8), (6 : UInt8), (6 : UInt8), (6 : UInt8), (6 : UInt8), (6 : UInt8), (6 : UInt8), (6 : UInt8), (6 : UInt8), (6 : UInt8), (6 : UInt8), (6 : UInt8), (6 :
 UInt8), (6 : UInt8), (6 : UInt8), (6 : UInt8), (6 : UInt8), (6 : UInt8), (6 : UInt8), (6 : UInt8), (6 : UInt8), (6 : UInt8), (6 : UInt8)].append [(7 : UInt8), (7 : UInt8), (7 : UInt8), (7 : UInt8), (7 : UInt8), (7 :
 UInt8), (7 : UInt8), (7 : UInt8), (7 : UInt8), (7 : UInt8), (7 : UInt8), (7 : UInt8), (7 : UInt8), (7 : UInt8), (7 : UInt8), (7 : UInt8), (7 : UInt8), (7 : UInt8), (7 : UInt8), (7 : UInt8), (7 : UInt8), (7 : UInt8), (7 :
 UInt8), (7 : UInt8), (7 : UInt8), (7 : UInt8), (7 : UInt8), (7 : UInt8), (7 : UInt8), (7 : UInt8), (7 : UInt8), (7 : UInt8), (7 : UInt8), (7 : UInt8), (7 : UInt8), (7 : UInt8), (7 : UInt8), (7 : UInt8), (7 : UInt8), (7 :
 UInt8), (7 : UInt8), (7 : UInt8), (7 : UInt8), (7 : UInt8), (7 : UInt8), (7 : UInt8), (7 : UInt8), (7 : UInt8), (7 : UInt8), (7 : UInt8), (7 : UInt8), (7 : UInt8), (7 : UInt8), (7 : UInt8), (7 : UInt8), (7 : UInt8), (7 :
 UInt8), (7 : UInt8), (7 : UInt8), (7 : UInt8), (7 : UInt8), (7 : UInt8), (7 : UInt8), (7 : UInt8)]).append (z_l14_0.append z_l14_0)).getD (IntKind.u8.wrap (14 : Int)).toNat (0 : UInt8)).toNat % AKU) % AKU)) := by
 kernel_rfl
def AFT := pD AWH (λ _ => .int 4) (λ x => [x = 13 ∨ x = 14])
def BGY (x : Int) : Prop := CR Try.prog (ann 8 [(Sz, AFT)]) AGN (AL AGN) (wI x) (AE []) (.int 4) [] [] []
abbrev My a:=AJ (UB a)
abbrev Oi:=My 4
attribute [go_sem] My Oi
theorem BKP (x : Int) : (BGY x) = (And (Or (AS x 13) (AS x 14)) Oi) := by kernel_rfl
def dGwp : List AVal -> Heap -> Option (Gw × List (Nat × Nat) × List Nat)
 | [.own id _ _ n, _, _, _, .fn (.func f) [] [.bptr c _]], H => if f = RP then match H id, Ap H c with
  | .live (.row _ m r), some q => some (⟨q, OF n λ i => FQ (r i)⟩, [(100, id), (101, c)], [])
  | _, _ => none else none
 | _, _ => none
def gwS (a : Gw) : List (Nat × HCell) := [(100, .live (AIM a.l.length (oP (HW a.g) a.l))), (101, .live (bxG a.g))]
def C_pdqL : Ctr := { ro := [101], α := Gw, xs := λ a => [.own 100 1 0 a.l.length, .int 0, .int a.l.length, .int 4, iW], L := gwL, val := λ _ => .d (.tup []), keep := gwS, pre := λ a => [gwOk a /\ ndk (HW a.g) a.l] }
structure QB where
 a : Nat
 b : Nat
 l : List Int
 m : Int
 deriving Inhabited
def pqZ (a : Gw) (t : List (Nat × AVal)) : List (Nat × AVal) := [(0, .own 100 1 0 a.l.length), (1, .int 0), (2, .int a.l.length), (3, .int 4), (4, iW)] ++ t
def pqA (a : Gw) : Shape := { α := One, dflt := default, T := λ _ => ⟨pqZ a [(10, .bool true), (11, .bool true)], gwK a⟩, inv := λ _ => True, meas := λ _ => 1 }
def pqC (a : Gw) : Shape := { α := One, dflt := default, T := λ _ => ⟨pqZ a [(10, .bool true), (11, .bool true), (12, .int a.l.length)], gwK a⟩, inv := λ _ => True, meas := λ _ => 0 }
def pqD (a : Gw) : Shape := { α := One, dflt := default, T := λ _ => ⟨pqZ a [(12, .int a.l.length), (13, .int (chP a))], gwK a⟩, inv := λ _ => True, meas := λ _ => 0 }
def pqB (a : Gw) : Shape := { α := QB, dflt := default, T := λ x => ⟨[(0, .own 100 1 0 a.l.length), (1, .int x.a), (2, .int x.b), (3, .int 4), (4, iW), (10, .any), (11, .any), (105, .tup [.int x.m, .any])], [(100, .live (AIM a.l.length x.l)), (101, .live (bxG a.g))]⟩, inv := λ x => (x.a <= x.b /\ x.b <= a.l.length /\ x.b <= x.a + 12) /\ (x.l.length = a.l.length /\ mR a.g x.l) /\ rsM (HW a.g) x.a x.b x.l = oP (HW a.g) a.l, meas := λ _ => 0 }
def BIA (a : Gw) : Ann := { ann 148 [(RP, C_fw1.spec dGAB), (AAS, C_insS.spec dGn), (ACC, C_pdqS.spec dGnp), (ADZ, C_cho.spec dGw), (P1, C_pin.spec dGw), (AMU, C_ptn.spec dGp)] with E := [100, 101], loops := λ id => if id = 2 then some [pqB a, pqA a] else none, cutIn := λ gs id => if id = 5 then (if gs.getD 0 0 = 0 then some [] else some [pqC a]) else if id = 17 then some [pqD a] else none }
def BHZ (a : Gw) : Prop := CR Try.prog (BIA a) AIA (AL AIA) (C_pdqL.xs a) (AE (C_pdqL.L a)) (C_pdqL.val a) (C_pdqL.keep a) [] []
abbrev Lk:=QB.a
abbrev Bb:=QB.b
abbrev Hl:=QB.l
abbrev AMV a b:=SO (MM a) b
abbrev AER a:=U6 (Wh a) (GW a) (chP a)
abbrev WG a:=AMV a (AER a)
abbrev WB a b c:=W9 (Gp.mk (Xe a) (GW b) (chP c))
abbrev Xa a b:=AMV a (Hl b)
attribute [go_sem] Lk Bb Hl AMV AER WG WB Xa
theorem BKC (a : Gw) : (BHZ a) = (AH (KY (DA AU (OL a) CU (Fm a) Oi (WY IZ (OL a) (YJ a) (QH a)))) ((λ (f : QB -> Prop) => ∀ (x : QB), f x) (λ i=>CV (bW (Ex (CW (Lk i) (Bb i)) (CW (Bb i) (NJ a)) (Bb i) (UN (Lk i) 12)) (Rx (Hl i) a) (λ j=>D9 j (Hl i) (ET (Hl i) j) (DJ a)) (Ul (rsM (XN a) (Lk i) (Bb i) (Hl i)) (oP (XN a) (MM a)))) (And (YB (hd7 (KP (CG (Bb i)) (CG (Lk i))) 12) (WO (Cj (Rx (Xa a i) a) (AN (GX (Lk i)) (GX (Bb i)) (Rx (Xa a i) a) (EO (Xa a i) (Hl i)) (QJ a) (SJ a) (WR a) (Ac a) (CM (Ai a) (Ew a) (Ft a) (Ej a) (λ j=>BC j (DJ a) (Ek a j) (Gi a j) (Eo a j) (Ed a j) (Gy a j) (Fb a j) (Fh a j)) (QJ a) (SJ a) (WR a) (QQ (Ac a) (Ai a) (Hd a) (gL a) (Fi a) (DJ a) (And (CW (Lk i) (Bb i)) (WI (Bb i) (Xa a i))) (Of (Xa a i)) (AF (λ j=>PU j (Xa a i) j (DJ a))))))) (Zf a (Xa a i)) (λ j=>IL j (MM a) (oP (XN a) (MM a)) j (ET (rsM (Wh a) (Lk i) (Bb i) (Xa a i)) j)) (QH a))) II))) (At (Ab (FG (hd7 (Xb a) 12) (WO (Cj (Iu a a) (AN (HZ SY OD) (Fm a) (Iu a a) (EO (GW a) (MM a)) (QJ a) (SJ a) (WR a) (Ac a) (CM (Ai a) (Ew a) (Ft a) (Ej a) (λ i=>BC i (DJ a) (Ek a i) (Gi a i) (Eo a i) (Ed a i) (Gy a i) (Fb a i) (Fh a i)) (QJ a) (SJ a) (WR a) (QQ (Ac a) (Ai a) (Hd a) (gL a) (Fi a) (DJ a) (And (CW 0 (NJ a)) (WI (NJ a) (GW a))) (Of (GW a)) (AF (λ i=>PU i (GW a) i (DJ a))))))) (Zf a (GW a)) (λ i=>IL i (MM a) (oP (XN a) (MM a)) i (ET (rsM (Wh a) SY (NJ a) (GW a)) i)) (QH a)) (KY (Cj (OL a) (AN CU (Fm a) Oi IZ IZ (HZ (NJ a) (Xb a)) (OL a) (YJ a) (QH a))))) (NM AU (Iu a a) CU (JO (JS (FV (GW a)) (NJ a)) (Iu a a) (EO (GW a) (MM a)) (DJ a) (AN (Ew a) (Ft a) (Ej a) (AF (λ i=>BC i (DJ a) (Ek a i) (Gi a i) (Eo a i) (Ed a i) (Gy a i) (Fb a i) (Fh a i))) (Zf a (GW a)) (EO (MM a) (GW a)) (QJ a) (SJ a) (FR (DJ a) (Hd a) (λ i=>DT i (DJ a)) (Fi a) (λ i=>DX i (DJ a)) (Or (FL (GW a) 13) (FL (GW a) 14)) (AF (λ i=>PU i (GW a) i (DJ a)))))) (EZ (Lv (chH (Gw.mk (Xe a) (GW a))) 2) OW (DH (GB (SZ LX He) (Lv (chH (Gw.mk (Xe a) (GW a))) 1)) (BH AU (Iu a a) CU (JO (JS (FV (GW a)) (NJ a)) (Iu a a) (EO (GW a) (MM a)) (DJ a) (AN (Ew a) (Ft a) (Ej a) (AF (λ i=>BC i (DJ a) (Ek a i) (Gi a i) (Eo a i) (Ed a i) (Gy a i) (Fb a i) (Fh a i))) (Zf a (GW a)) (EO (MM a) (GW a)) (QJ a) (SJ a) (FR (DJ a) (Hd a) (λ i=>DT i (DJ a)) (Fi a) (λ i=>DX i (DJ a)) (Or (FL (GW a) 13) (FL (GW a) 14)) (AF (λ i=>PU i (GW a) i (DJ a))))))) (FG (iB (Wh a) (GW a) (Jy (FV (GW a)))) (AH (OL a) (AF (λ i=>IL i (MM a) (oP (XN a) (MM a)) i (Av a i))) (QH a)) (KY (Kx (AN (OL a) CU (Fm a) Oi (Fm a) (AS (chP a) (chP (Gw.mk (Xe a) (GW a)))) (OL a) (YJ a) (QH a))))) (KY (Kx (AN (OL a) CU (Fm a) Oi (Fm a) (AS (chP a) (chP (Gw.mk (Xe a) (GW a)))) (OL a) (YJ a) (QH a))))) (At (BH (AK (Kd (CS (JJ 0) (NJ a))) (Kd (OU (Vt 0) (NJ a))) (Kd (CS (chP a) (NJ a))) (Kd (OU (PY (chP a)) (NJ a))) (Kd (GH (AJ (Av a (Vt 0))) (AJ (Av a (PY (chP a)))) (QJ a) (SJ a) (WR a) (Ac a) (CM (Ai a) (Ew a) (Ft a) (Ej a) (λ i=>BC i (DJ a) (Ek a i) (Gi a i) (Eo a i) (Ed a i) (Gy a i) (Fb a i) (Fh a i)) (QJ a) (SJ a) (WR a) (QQ (Ac a) (Ai a) (Hd a) (gL a) (Fi a) (DJ a) (Cu (Av a 0) (DJ a)) (CX (Av a (PY (chP a)))) (Np (Av a (PY (chP a))) (DJ a))))))) (Cj (Iu a a) (CM CU (JS (FV (GW a)) (NJ a)) (AJ (chP a)) (Iu a a) (λ i=>JL i (GW a) (MM a)) (QJ a) (SJ a) (WR a) (AN (Ac a) (Ai a) (Ew a) (Ft a) (Ej a) (AF (λ i=>BC i (DJ a) (Ek a i) (Gi a i) (Eo a i) (Ed a i) (Gy a i) (Fb a i) (Fh a i))) (QJ a) (SJ a) (FR (DJ a) (Hd a) (λ i=>DT i (DJ a)) (Fi a) (λ i=>DX i (DJ a)) (Al (Or (FL (GW a) 13) (FL (GW a) 14)) (chP a) (GW a)) (AF (λ i=>PU i (GW a) i (DJ a))))))) (Gt (Gb (UB 8))) (DH (PD (KP (CG (WB a a a)) 0) (KP (Kc a) (CG (WB a a a)))) (Cj (Rx (WG a) a) (AN (HZ SY OD) (GX (WB a a a)) (CQ (WG a) (GW a)) (EO (WG a) (AER a)) (QJ a) (SJ a) (WR a) (Ac a) (CM (Ai a) (Ew a) (Ft a) (Ej a) (λ i=>BC i (DJ a) (Ek a i) (Gi a i) (Eo a i) (Ed a i) (Gy a i) (Fb a i) (Fh a i)) (QJ a) (SJ a) (WR a) (QQ (Ac a) (Ai a) (Hd a) (gL a) (Fi a) (DJ a) (Ex (CW 0 (WB a a a)) (WI (WB a a a) (WG a)) (WB a a a) 12) (Of (WG a)) (AF (λ i=>PU i (WG a) i (DJ a))))))) ((@Exists QB) (λ i=>AH (AN AU (OL a) (CJ (Lk i) (WB a a a)) (JS (Bb i) (NJ a)) Oi (AS (QB.m i) (CG (WB a a a))) (Zf a (WG a)) (AF (λ j=>IL j (MM a) (Hl i) j (ET (rsM (Wh a) SY (WB a a a) (WG a)) j))) (QH a)) (bW (Ex (CW (Lk i) (Bb i)) (CW (Bb i) (NJ a)) (Bb i) (UN (Lk i) 12)) (Rx (Hl i) a) (λ j=>D9 j (Hl i) (ET (Hl i) j) (DJ a)) (Ul (rsM (XN a) (Lk i) (Bb i) (Hl i)) (oP (XN a) (MM a)))) bV)) (And (Cj (Rx (WG a) a) (AN (CJ (UK (WB a a a)) (WB a a a)) (Fm a) (CQ (WG a) (GW a)) (EO (WG a) (AER a)) (QJ a) (SJ a) (WR a) (Ac a) (CM (Ai a) (Ew a) (Ft a) (Ej a) (λ i=>BC i (DJ a) (Ek a i) (Gi a i) (Eo a i) (Ed a i) (Gy a i) (Fb a i) (Fh a i)) (QJ a) (SJ a) (WR a) (QQ (Ac a) (Ai a) (Hd a) (gL a) (Fi a) (DJ a) (Ex (CW (UK (WB a a a)) (NJ a)) (WI (NJ a) (WG a)) (NJ a) (UN (UK (WB a a a)) 12)) (Of (WG a)) (AF (λ i=>PU i (WG a) i (DJ a))))))) ((@Exists QB) (λ i=>AH (AN AU (OL a) (CY (Lk i)) (JS (Bb i) (WB a a a)) Oi (AS (QB.m i) (CG (WB a a a))) (Zf a (WG a)) (AF (λ j=>IL j (MM a) (Hl i) j (ET (rsM (Wh a) (UK (WB a a a)) (NJ a) (WG a)) j))) (QH a)) (bW (Ex (CW (Lk i) (Bb i)) (CW (Bb i) (NJ a)) (Bb i) (UN (Lk i) 12)) (Rx (Hl i) a) (λ j=>D9 j (Hl i) (ET (Hl i) j) (DJ a)) (Ul (rsM (XN a) (Lk i) (Bb i) (Hl i)) (oP (XN a) (MM a)))) bV))))))))))) := by kernel_rfl
def C_srt : Ctr := { C_sort with pre := λ (a : GL) => [(a.l.length <= 12 ∨ (a.l.length = 13 ∨ a.l.length = 14) /\ ndk (HW a.g) a.l) /\ glOk a] }
def BHR : Ann := { ann 14 [(R6, AJA), (ACC, C_pdqS.spec dGnp)] with E := [100, 101] }
def BCY (a : GL) : Prop := CR Try.prog BHR eI (AL eI) (C_sort.xs a) (AE (C_sort.L a)) (C_sort.val a) (C_sort.keep a) [] []
abbrev UF:=GL.l
abbrev FC:=GL.g
abbrev RM a:=EQ (UF a)
attribute [go_sem] UF FC RM
theorem BLC (a : GL) : (BCY a) = (WO (BH (Eg (YF (MJ (UF a))) (HU (YF (MJ (UF a))) 20)) AU (CQ (RM a) (UF a)) (AN (HZ SY OD) (GX (FV (UF a))) (CQ (RM a) (UF a)) (EO (RM a) (UF a)) (AT (FC a)) (AW (FC a)) (AV (FC a)) (BA (FC a)) (CM (BB (FC a)) (BF (FC a)) (BM (FC a)) (CA (FC a)) (λ i=>BC i (FC a) (BG (FC a) i) (BD (FC a) i) (AP (FC a) i) (AZ (FC a) i) (AO (FC a) i) (BE (FC a) i) (AM (FC a) i)) (AT (FC a)) (AW (FC a)) (AV (FC a)) (QQ (BA (FC a)) (BB (FC a)) (DQ (FC a)) (FI (FC a)) (DK (FC a)) (FC a) (Ex (WI 0 (UF a)) (WI (FV (UF a)) (RM a)) (FV (UF a)) 12) (Of (RM a)) (AF (λ i=>PU i (RM a) i (FC a))))))) (CQ (UF a) (RM a)) (λ i=>IL i (UF a) (oP (TO (FC a)) (UF a)) i (ET (rsM (Pf (FC a)) SY (FV (UF a)) (RM a)) i)) (HJ (FC a))) := by kernel_rfl
def BBH : Ann := { ann 14 [(R6, AFT), (ACC, C_pdqL.spec dGwp)] with E := [100, 101] }
def BDB (a : GL) : Prop := CR Try.prog BBH eI (AL eI) (C_sort.xs a) (AE (C_sort.L a)) (C_sort.val a) (C_sort.keep a) [] []
theorem BJL (a : GL) : (BDB a) = (WO (BH (Or (AS (YF (MJ (UF a))) 13) (AS (YF (MJ (UF a))) 14)) AU (CQ (RM a) (UF a)) (CM CU (JS (FV (RM a)) (FV (UF a))) Oi (CQ (RM a) (UF a)) (λ i=>JL i (RM a) (UF a)) (AT (FC a)) (AW (FC a)) (AV (FC a)) (AN (BA (FC a)) (BB (FC a)) (BF (FC a)) (BM (FC a)) (CA (FC a)) (AF (λ i=>BC i (FC a) (BG (FC a) i) (BD (FC a) i) (AP (FC a) i) (AZ (FC a) i) (AO (FC a) i) (BE (FC a) i) (AM (FC a) i))) (AT (FC a)) (AW (FC a)) (FR (FC a) (DQ (FC a)) (λ i=>DT i (FC a)) (DK (FC a)) (λ i=>DX i (FC a)) (MI (Or (FL (RM a) 13) (FL (RM a) 14)) (λ i=>PU i (RM a) i (FC a))) ((@List.Pairwise Int) (λ j i=>(@Ne Int) j i) ((@List.map Int Int) (Pf (FC a)) (RM a))))))) (CQ (UF a) (RM a)) (λ i=>IL i (UF a) (oP (TO (FC a)) (UF a)) i (ET (oP (Pf (FC a)) (RM a)) i)) (HJ (FC a))) := by kernel_rfl
theorem BJZ {a : Gn} (h : a.a <= a.l.length) {m : List Int} {i : Nat} (hi : i < m.length) : gD (whG a m) (a.a + i) = gD m i := by
 have := U0 (P := a.l.take a.a) (m := m) (S := a.l.drop a.b) (i := i) hi
 rw [show (a.l.take a.a).length = a.a by rw [List.length_take]; omega] at this; exact this
theorem BIY {a : Gn} (h : a.a <= a.b /\ a.b <= a.l.length) {m : List Int} (hm : m.length = a.b - a.a) : (whG a m).length = a.l.length := by
 unfold whG; rw [BQI, hm, List.length_take, List.length_drop]; omega
theorem BSW {a : Gn} (h : a.a <= a.b /\ a.b <= a.l.length) {m : List Int} (hm : m.length = a.b - a.a) {j x : Nat} (hj : j + 1 < m.length) (hx : x < a.l.length) : gD (whG a (swL m j)) x = bif decide (x = a.a + j) then gD (whG a m) (a.a + (j + 1)) else bif decide (x = a.a + (j + 1)) then gD (whG a m) (a.a + j) else gD (whG a m) x := by
 have := BWC (P := a.l.take a.a) (m := m) (S := a.l.drop a.b) (j := j) (x := x) hj (by have := BIY h hm; unfold whG at this; rw [this]; exact hx)
 rw [show (a.l.take a.a).length = a.a by rw [List.length_take]; omega] at this; exact this
theorem BSD (a : Gn) (hab : a.a <= a.b /\ a.b <= a.l.length) (h : gnOk a) : BFK a := by
 obtain ⟨hlen, hin⟩ := h
 have e0 : whG a (mdl a.a a.b a.l) = a.l := BIL hab.1 hab.2
 have ml := ADA hab.1 hab.2
 have wm : ∀ {m : List Int} {i : Nat}, i < m.length -> gD (whG a m) (a.a + i) = gD m i := λ hi => BJZ (by omega) hi
 rw [BJE]<;> delta LV He CI CH FE PS SI Pt EE FH CL AF CV DC AS CG CW FG PD HU KV UC MT JT HP GG IQ IV IX JU GZ GM HK LC FV ET LX JV HX UN MN Fl mY Lg TO KM Hk Hp TQ Sh ER Ul Er kG hG AH DD EL EW GS AK BN BQ CF AJ HR GI BU Ho BJ AN AM BV AZ CD BR JD BL AO DZ JI EI DV DI CB GN AT BB GO EP HD BO Mp DG DY AP BT BA ED AW BE FZ LZ CX AV FN GF FA DB KP DN CM EF GR JF EU GQ HZ BD FL FB BH FX PY IT EK JJ GA CS GD JQ EH GJ EC HQ DH MY EA AU FY IW MW JE OC BC MB IL LY BF CA DK BG FP RA KT KX LJ GT GX KR XC JX CJ hY JS OY GH H9 OU Vt PM IM Gq DQ SQ DE CE BM HJ DT gH DA GB KZ HF DX EJ IR KH FI KG MI WT TC Bx Jh TV JR AHX WN Ic Qu Cu Ys Xw Ye Ip QQ Bn gF Np eM lL pZ cI; simp only [CC, eq_self, implies_true, forall_const, DW]
 refine ⟨⟨⟨1, mdl a.a a.b a.l⟩, ⟨(MO (by omega)).symm, λ i hi => by rw [e0]⟩, Nat.one_pos, .inr rfl, ⟨ml, λ i hi => by rw [BIK hab.2 (by omega)]; exact hin _ (by omega)⟩, by unfold oP; rw [ml]⟩, λ x ⟨x1, x2, ⟨x3, x4⟩, x5⟩ => ⟨λ hlt => ⟨⟨⟨x.i, x.i, x.l⟩, ⟨rfl, rfl, λ _ _ => rfl⟩, rfl, x1, by show x.i < a.b - a.a; omega, Nat.le_refl _, ⟨x3, x4⟩, ?_⟩, λ y ⟨y1, y2, y3, y4, ⟨y5, y6⟩, y7⟩ => ?_⟩, λ hge => ?_⟩⟩
 ·rw [x5, show a.b - a.a - x.i = (a.b - a.a - (x.i + 1)) + 1 by omega]; rfl
 ·have e : 0 < y.j -> IntKind.i64.wrap (((a.a + y.j : Nat) : Int) - 1) = ((a.a + (y.j - 1) : Nat) : Int) := λ h => (NU (by omega) (by omega)).trans (by omega)
  refine ⟨⟨λ hg => ⟨by omega, by omega⟩, λ hg => by omega, λ hg => ?_, λ hg => ?_, λ hg => ⟨?_, ?_⟩⟩, λ hc => ?_, λ hc => ?_⟩
  ·rw [e (by omega)]; omega
  ·rw [e (by omega), Int.toNat_natCast]; omega
  ·rw [wm (by omega)]; exact y6 _ (by omega)
  ·rw [e (by omega), Int.toNat_natCast, wm (by omega)]; exact y6 _ (by omega)
  ·have hj : 0 < y.j := by
    cases hd : decide (((a.a + y.j : Nat) : Int) > (a.a : Int)) with
    | false => rw [hd] at hc; cases hc
    | true => have := of_decide_eq_true hd; omega
   obtain ⟨j, hj2⟩ : ∃ j, y.j = j + 1 := ⟨y.j - 1, by omega⟩
   rw [decide_eq_true (show ((a.a + y.j : Nat) : Int) > (a.a : Int) by omega)] at hc
   have hc : decide (iC (HW a.g (gD (whG a y.l) (a.a + y.j))) (HW a.g (gD (whG a y.l) (IntKind.i64.wrap (((a.a + y.j : Nat) : Int) - 1)).toNat)) < 0) = true := hc
   have hc := of_decide_eq_true hc
   rw [e hj] at hc ⊢
   simp only [Int.toNat_natCast] at hc ⊢
   rw [wm (by omega), wm (by omega)] at hc
   rw [show y.j - 1 = j by omega] at hc ⊢
   refine ⟨⟨⟨by omega, by omega⟩, by omega, ⟨by omega, by omega⟩, by omega, ⟨by omega, by omega⟩, by omega, ⟨by omega, by omega⟩, by omega⟩, ⟨y.i, j, swL y.l j⟩, ⟨rfl, rfl, λ i hi => ?_⟩, ⟨y1, y2, y3, by show j <= y.i; omega, ⟨by rw [mD]; exact y5, λ i hi => ?_⟩, ?_⟩, by show j < _; omega⟩
   ·rw [BSW hab y5 (by omega) hi, hj2]
   ·show 0 <= gD (swL y.l j) i /\ gD (swL y.l j) i < _
    rw [AHQ (by omega)]
    cases decide (i = j)
    ·cases decide (i = j + 1)
     ·exact y6 i hi
     ·exact y6 j (by omega)
    ·exact y6 (j + 1) (by omega)
   ·rw [hj2] at hc y7
    unfold L0 at y7
    rw [decide_eq_true hc] at y7; exact y7
  ·have hq : L0 (HW a.g) y.j y.l = y.l := by
    rcases Nat.eq_zero_or_pos y.j with hj | hj
    ·rw [hj]; rfl
    ·obtain ⟨j, hj2⟩ : ∃ j, y.j = j + 1 := ⟨y.j - 1, by omega⟩
     rw [decide_eq_true (show ((a.a + y.j : Nat) : Int) > (a.a : Int) by omega)] at hc
     have hc : decide (iC (HW a.g (gD (whG a y.l) (a.a + y.j))) (HW a.g (gD (whG a y.l) (IntKind.i64.wrap (((a.a + y.j : Nat) : Int) - 1)).toNat)) < 0) = false := hc
     have hc := of_decide_eq_false hc
     rw [e hj, Int.toNat_natCast, wm (by omega), wm (by omega), show y.j - 1 = j by omega, hj2] at hc
     rw [hj2]; unfold L0; rw [decide_eq_false hc]; rfl
   rw [hq] at y7
   refine ⟨⟨y.i + 1, y.l⟩, ⟨(MO (a := a.a + y.i) (by omega)).symm, λ _ _ => rfl⟩, ⟨by show 0 < y.i + 1; omega, .inl (by show y.i + 1 <= _; omega), ⟨y5, y6⟩, y7⟩, by show a.b - a.a - (y.i + 1) < _; omega⟩
 ·intro i hi
  unfold rsM
  rw [x5, show a.b - a.a - x.i = 0 by omega]; rfl
theorem AYE : AR Try.prog AAS (C_insS.spec dGn) := Bl C_insS BBW [] [] AWQ (λ _ => by kernel_rfl) (λ _ => AC AFR AI) (λ (a : Gn) h => by
 obtain ⟨h1, h2⟩ : (a.a <= a.b /\ a.b <= a.l.length) /\ gnOk a := h
 exact BSD a h1 h2) (λ _ => Ec rfl rfl) _
theorem AWJ : AR Try.prog ACC (C_pdqS.spec dGnp) := Bl C_pdqS BAN [] [] AUP (λ _ => by kernel_rfl) (λ _ => AC AYE AI) (λ (a : Gn) h => by
 obtain ⟨h1, h2⟩ : (a.a <= a.b /\ a.b <= a.l.length /\ a.b <= a.a + 12) /\ gnOk a := h
 show BAQ a
 have h3 := h2.1
 rw [BIU]<;> delta LV hd7 CI CH FE PS SI Pt EE FH CL AF CV DC AS CG CW FG HU KV JT HP GG IQ IV IX JU GZ GM HK LC II FV ET XS LX OW gT TO KM Hk Hp ER AH DD EL EW GS AK BN BQ CF SO AJ HR GI EQ BU FT WY BJ AN AM BV AZ CD BR JD BL AO DZ JI EI DV DI CB GN AT BB EP HD BO DG DY AP BT BA ED AW BE FZ LZ CX AV FN GF FA DB KP CM GR EU GQ BD FL BH FX IT GA GD JQ GJ EC EA CQ AU FY MW OC BC Pf MB Vy IL LY BF CA DK BG NQ FP RA KT KX LJ GT GX KR QD XC Gq DQ JL DE OO CE BM HJ DT IZ NV EO Tf DX EJ FI Rv TC Wt NX KY At RK WI PU VE Cj Ab Of Ys Xw Ye QQ WO eM YB cI; simp only [CC, eq_self, implies_true, forall_const, DW]
 exact ⟨⟨default, trivial⟩, λ _ => ⟨⟨h1.1, h1.2.1⟩, h2⟩, λ hc => hc (by rw [NU (by omega) (by omega)]; omega)⟩) (λ _ => Ec rfl rfl) _
theorem sQ {n : Nat} {x : Int} (h : 0 <= x /\ x < (n : Int)) : x.toNat < n := by omega
theorem BWJ : AR Try.prog AEC (C_o2.spec dO2) := Bl C_o2 (λ _ => A_o2) [] [] AZP (λ _ => by kernel_rfl) (λ _ => AC AFR AI) (λ (a : O2) h => by
 obtain ⟨⟨h1, h2⟩, h3⟩ : ((0 <= a.a /\ a.a < a.l.length) /\ 0 <= a.b /\ a.b < a.l.length) /\ mR a.g a.l := h
 show V_o2 a
 rw [BWV]; delta ASV ATR Q4 S7 AFW AFF AKM AOF ASM ASD ALB ADI vM ADN ALU ANH AKK AME AMF AMQ AKL AOA AMX AKS AMS ALC ALF AOM ALY ANE ALN; simp only [CC, eq_self, implies_true, forall_const, DW]
 refine ⟨⟨h2, sQ h2, h1, sQ h1, h3 _ (sQ h2), h3 _ (sQ h1)⟩, λ hc => ?_, λ hc => ?_⟩
 ·have e : o2L (HW a.g) a.l a.a a.b = true := decide_eq_true hc
  unfold o2A o2B o2S; rw [e]; exact ⟨rfl, rfl, rfl⟩
 ·have e : o2L (HW a.g) a.l a.a a.b = false := decide_eq_false hc
  unfold o2A o2B o2S; rw [e]; exact ⟨rfl, rfl, rfl⟩) (λ _ => Ec rfl rfl) _
theorem BMS {key : Int -> Int} {l : List Int} {n a b : Int} (ha : 0 <= a /\ a < n) (hb : 0 <= b /\ b < n) : (0 <= o2A key l a b /\ o2A key l a b < n) /\ 0 <= o2B key l a b /\ o2B key l a b < n := by
 unfold o2A o2B
 cases o2L key l a b
 ·exact ⟨ha, hb⟩
 ·exact ⟨hb, ha⟩
theorem BUK : AR Try.prog AHI (C_md.spec dMd) := Bl C_md (λ _ => A_md) [] [] AZY (λ _ => by kernel_rfl) (λ _ => AC BWJ AI) (λ (a : Md) h => by
 obtain ⟨⟨h1, h2, h3⟩, h4⟩ : ((0 <= a.a /\ a.a < a.l.length) /\ (0 <= a.b /\ a.b < a.l.length) /\ 0 <= a.c /\ a.c < a.l.length) /\ mR a.g a.l := h
 show V_md a
 have q1 := BMS (key := HW a.g) (l := a.l) h1 h2
 have q2 := BMS (key := HW a.g) (l := a.l) q1.2 h3
 rw [BUY]<;> delta CI CH FE EE FH CL AF CV DC AS CG HU KV JT HP GG IQ IV IX JU GZ GM HK LC FV ET XS TO ZP Ba Bd DR gZ AH DD EL EW GS AK BN BQ CF SO AJ HR GI EQ BU BJ AN AM BV AZ CD BR JD BL AO DZ EI DV DI CB GN AT BB EP HD BO DG DY AP BT BA ED AW BE FZ LZ CX AV FN GF FA DB CM GR JF EU GQ BD FL BH IT GA CS GD JQ GJ EC EA CQ AU FY FM MW KA OC BC Pf MB Vy IL LY BF CA DK BG NQ FP KT KX LJ GT KR QD Gq DQ JL DE OO CE QI BM JZ DT QR XW NV EO KI Tf HF DX MR QK FR TV MZ PU Al eQ Re NY; simp only [CC, eq_self, implies_true, forall_const, DW]
 exact ⟨⟨⟨h1, h2⟩, h4⟩, ⟨⟨q1.2, h3⟩, h4⟩, ⟨⟨q1.1, q2.1⟩, h4⟩, rfl, rfl⟩) (λ _ => Ec rfl rfl) _
theorem BHS {n : Nat} (h : n = 13 ∨ n = 14) : IntKind.i64.wrap ((n : Int) - 0) = (n : Int) /\ IntKind.i64.wrap ((n : Int).tdiv 4) = 3 := by
 rcases h with h | h <;> subst h <;> decide
theorem BSL : AR Try.prog ADZ (C_cho.spec dGw) := Bl C_cho (λ _ => BOR) [] [] BAD (λ _ => by kernel_rfl) (λ _ => AC BUK AI) (λ (a : Gw) h => by
 obtain ⟨h1, h2⟩ : (a.l.length = 13 ∨ a.l.length = 14) /\ mR a.g a.l := h
 show BON a
 obtain ⟨w1, w2⟩ := BHS h1
 have w3 : IntKind.i64.wrap (0 + IntKind.i64.wrap (3 * 1)) = 3 := by decide
 have w4 : IntKind.i64.wrap (0 + IntKind.i64.wrap (3 * 2)) = 6 := by decide
 have w5 : IntKind.i64.wrap (0 + IntKind.i64.wrap (3 * 3)) = 9 := by decide
 rw [BRP]<;> delta bO CI CH FE PS SI Pt EE FH CL AF CV DC AS CG UB FG HU KV UC JT HP GG IQ IV IX JU GZ GM HK LC FV ET XS Lv OW xI TO MM DJ AH DD EL EW GS AK BN BQ CF SO AJ HR GI EQ BU ZT BJ AN AM BV AZ CD BR JD BL AO DZ JI EI DV DI CB GN AT BB GO EP HD BO DG DY AP BT BA ED AW BE FZ LZ CX AV FN GF FA DB KP CM GR JF EU GQ BD FL BH FX IT GA CS GD JQ GW GJ EC OD EA CQ AU FY FM MW OC NJ BC Pf MB Vy IL LY BF CA DK BG NQ FP RA KT KX LJ GT KR QD XC wY EV Wh Gq DQ JL DE OO CE BM HJ DT DA AHS dK NV EO Kc KI Tf Xb EZ DX OL QH QK FR QJ Rx AHE SJ TV YJ WR Ft Hd Iu PU Fi XR Ej Gt Ew Ek Gi Fb Yt Eo Yw Gb Gy Ed Fh Zf fI Jb; simp only [CC, eq_self, implies_true, forall_const, DW]
 rw [w1, w2, w3, w4, w5]
 have hs := BRC (HW a.g) a.l 3 6 9
 refine ⟨λ h => (by cases h), λ h => (by cases h), λ h => (by cases h), λ _ => ⟨λ h => by omega, λ _ => ⟨⟨rfl, ⟨⟨by omega, by omega⟩, ⟨by omega, by omega⟩, by omega, by omega⟩, h2⟩, λ hc => ⟨rfl, ?_⟩, λ hc => ⟨λ hd => ?_, λ hd => ⟨rfl, ?_⟩⟩⟩⟩, λ h => by omega⟩
 ·unfold chH; rw [hc]; rfl
 ·have hd : mnS (HW a.g) a.l 3 6 9 0 = 12 := by simpa using hd
  omega
 ·unfold chH; rw [hc]; rfl) (λ _ => Ec rfl rfl) _
theorem AYP {key : Int -> Int} {l : List Int} {i : Nat} : ∀ {n : Nat}, i <= n -> iB key l n = true -> iB key l i = true
 | 0, h, q => by
  obtain rfl : i = 0 := by omega
  exact q
 | n + 1, h, q => by
  rcases Nat.lt_or_ge i (n + 1) with r | r
  ·unfold iB at q
   rw [Bool.and_eq_true] at q
   exact AYP (by omega) q.1
  ·obtain rfl : i = n + 1 := by omega
   exact q
theorem BQL : AR Try.prog P1 (C_pin.spec dGw) := Bl C_pin BNU [] [] AUD (λ _ => by kernel_rfl) (λ _ => AC AFR AI) (λ (a : Gw) h => by
 obtain ⟨h1, h2⟩ : (a.l.length = 13 ∨ a.l.length = 14) /\ mR a.g a.l := h
 show BPQ a
 obtain ⟨w1, _⟩ := BHS h1
 rw [BSZ]<;> delta LV He CI CH FE PS SI Pt EE FH CL AF CV DC AS CG UB CW FG PD HU KV UC MT JT HP GG IQ IV IX JU GZ GM HK LC IF II FV ET Lv LX HX UN OW DF MN Lg TO MM DJ AH DD EL EW GS AK BN BQ CF AJ HR GI BU BJ AN AM BV AZ CD BR JD BL AO DZ JI EI DV DI CB GN AT BB GO EP HD BO Mp DG DY AP BT BA ED AW BE FZ LZ CX AV FN GF FA DB KP DN CM EF GR JF EU GQ HZ BD FB BH FX PY IT EK JJ GA CS GD JQ EH GJ EC HQ OD EA AU FY IW MW JE NJ BC MB Vy LY BF CA DK BG FP RA KT KX LJ GT GX KR XC CJ CU OY GH OU Vt PM IM DQ SQ DE OO CE BM HJ DT EX GB NV Kc Xb EZ Xe DX EJ Jy OL FW QH FI MI QJ SJ XN YJ WR JR NL Ac Av SE Fm Ai Ft Hd Fi Ae Cu Ej Ew En Ek Gi eC Fb Ip Eo Gy Ed Fh QQ Np gL Jb YB; simp only [CC, eq_self, implies_true, forall_const, DW]
 rw [w1]
 refine ⟨⟨1, by decide, rfl⟩, λ a1 e1 => ?_⟩
 subst e1
 refine ⟨⟨0, rfl, by omega, rfl⟩, λ i ⟨i1, i2⟩ => ?_⟩
 have e : IntKind.i64.wrap (((i + 1 : Nat) : Int) - 1) = (i : Int) := (NU (by omega) (by omega)).trans (by omega)
 rw [e]
 simp only [Int.toNat_natCast]
 refine ⟨⟨λ h => ⟨by omega, by omega⟩, λ h => by omega, λ h => ⟨by omega, by omega⟩, λ h => by omega, λ h => ⟨h2 _ (by omega), h2 _ (by omega)⟩⟩, λ hc => ?_, λ hc => ⟨λ hd => ?_, λ hd => ⟨λ _ => ?_, λ h => by omega⟩⟩⟩
 ·have hi : i + 1 < a.l.length := by
   rcases Nat.lt_or_ge (i + 1) a.l.length with q | q
   ·exact q
   ·rw [decide_eq_false (by omega)] at hc; cases hc
  rw [decide_eq_true (show ((i + 1 : Nat) : Int) < (a.l.length : Int) by omega)] at hc
  refine ⟨i + 1, (MO (by omega)).symm, ⟨hi, ?_⟩, by omega⟩
  unfold iB; rw [i2]; exact hc
 ·have hd : ((i + 1 : Nat) : Int) = (a.l.length : Int) := by simpa using hd
  rw [show a.l.length - 1 = i by omega]; exact i2
 ·have hd : ¬((i + 1 : Nat) : Int) = (a.l.length : Int) := by simpa using hd
  rw [decide_eq_true (show ((i + 1 : Nat) : Int) < (a.l.length : Int) by omega)] at hc
  have hs : iB (HW a.g) a.l (i + 1) = false := by unfold iB; rw [i2]; exact hc
  cases q : iB (HW a.g) a.l (a.l.length - 1) with
  | false => rfl
  | true => rw [AYP (show i + 1 <= a.l.length - 1 by omega) q] at hs; cases hs) (λ _ => Ec rfl rfl) _
theorem BMY {key : Int -> Int} {i j : Nat} {l : List Int} (h1 : i <= j) (h2 : key (gD l i) < key (gD l 0)) : VX key false i j l = VX key false (i + 1) j l := by
 conv => lhs; unfold VX
 rw [if_pos rfl, if_pos ⟨h1, h2⟩]
theorem AVN {key : Int -> Int} {i j : Nat} {l : List Int} (h : ¬(i <= j /\ key (gD l i) < key (gD l 0))) : VX key false i j l = VX key true i j l := by
 conv => lhs; unfold VX
 rw [if_pos rfl, if_neg h]
theorem BOZ {key : Int -> Int} {i j : Nat} {l : List Int} (h0 : 1 <= j) (h1 : i <= j) (h2 : ¬key (gD l j) < key (gD l 0)) : VX key true i j l = VX key true i (j - 1) l := by
 conv => lhs; unfold VX
 rw [if_neg (by decide), if_pos ⟨h0, h1, h2⟩]
theorem BAS {key : Int -> Int} {i j : Nat} {l : List Int} (h : i > j) : VX key true i j l = ⟨j, l⟩ := by
 conv => lhs; unfold VX
 rw [if_neg (by decide), if_neg (by omega), if_pos h]
theorem BPH {key : Int -> Int} {i j : Nat} {l : List Int} (h : ¬i > j) (h2 : ¬(i <= j /\ ¬key (gD l j) < key (gD l 0))) : VX key true i j l = VX key false (i + 1) (j - 1) (sw2 l i j) := by
 conv => lhs; unfold VX
 rw [if_neg (by decide), if_neg (λ q => h2 q.2), if_neg h]
theorem cU {i j : Nat} {u v : Int} : (bif decide ((i : Int) <= (j : Int)) then decide (iC u v < 0) else false) = true ↔ i <= j /\ u < v := by
 by_cases h : (i : Int) <= (j : Int)
 ·rw [decide_eq_true h]
  show decide (iC u v < 0) = true ↔ _
  rw [decide_eq_true_eq, U1]
  exact ⟨λ q => ⟨by omega, q⟩, λ q => q.2⟩
 ·rw [decide_eq_false h]
  exact ⟨λ q => (by cases q), λ q => absurd q.1 (by omega)⟩
theorem cD {i j : Nat} {u v : Int} : (bif decide ((i : Int) <= (j : Int)) then !decide (iC u v < 0) else false) = true ↔ i <= j /\ ¬u < v := by
 by_cases h : (i : Int) <= (j : Int)
 ·rw [decide_eq_true h]
  show (!decide (iC u v < 0)) = true ↔ _
  rw [Bool.not_eq_true', decide_eq_false_iff_not, U1]
  exact ⟨λ q => ⟨by omega, q⟩, λ q => q.2⟩
 ·rw [decide_eq_false h]
  exact ⟨λ q => (by cases q), λ q => absurd q.1 (by omega)⟩
theorem no_t {b : Bool} (h : b = false) : ¬b = true := by rw [h]; decide
theorem vT {g : Cht} {l m : List Int} (hp : m.Perm l) (h : mR g l) : mR g m := λ i hi => by
 obtain ⟨j, hj, e⟩ := QG (hp.mem_iff.1 (LS hi))
 rw [<- e]; exact h j hj
theorem BIF {a : Gp} {j : Nat} {l : List Int} (h : gpR a = ⟨j, l⟩) (hl : l.length = a.l.length) (hj : j < a.l.length) : ((gpR a).j : Int) = (j : Int) /\ ∀ i, i < a.l.length -> gD (ptL (HW a.g) a.l a.p.toNat) i = bif decide (i = 0) then gD l j else bif decide (i = j) then gD l 0 else gD l i := by
 refine ⟨by rw [h], λ i hi => ?_⟩
 have e : ptM (HW a.g) a.l a.p.toNat = ⟨j, l⟩ := h
 unfold ptL
 rw [e]
 exact xS (by show j < l.length; omega) (by show 0 < l.length; omega)
theorem BOT {key : Int -> Int} {i j : Nat} {l : List Int} (h1 : ¬i > j) (h2 : i <= j -> ¬key (gD l i) < key (gD l 0)) (h3 : ¬(i <= j /\ ¬key (gD l j) < key (gD l 0))) : i < j := by
 rcases Nat.lt_or_ge i j with q | q
 ·exact q
 ·obtain rfl : i = j := by omega
  exact absurd ⟨Nat.le_refl _, h2 (Nat.le_refl _)⟩ h3
theorem BUO (a : Gp) (h1 : a.l.length = 13 ∨ a.l.length = 14) (hp : 0 <= a.p /\ a.p < a.l.length) (h2 : mR a.g a.l) : BPN a := by
 have hn : 0 < a.l.length := by omega
 have z2 : (0 : Int) <= 0 /\ (0 : Int) < (a.l.length : Int) := ⟨Int.le_refl _, by omega⟩
 have sp := Zh hn (sQ hp)
 rw [BSF]<;> delta LV hd7 He CI CH FE PS SI Pt EE FH CL AF CV DC AS CG UB CW FG PD HU KV UC MT JT HP GG IQ IV IX JU GZ GM HK LC FV ET LX JV HX UN MN Fl mY Lg TO Zp hZ HA QW CN AGU AH DD EL EW GS AK BN BQ CF AJ HR GI BU Ho BJ AN AM BV AZ CD BR JD BL AO DZ JI EI DV DI CB GN AT BB GO EP HD BO DG DY AP BT BA ED AW BE FZ LZ CX AV FN GF FA DB KP DN CM EF GR JF EU GQ HZ BD FL FB BH PW FX PY IT EK JJ GA CS GD JQ EH GJ EC HQ OD MY EA CQ AU FY IW MW JE OC BC MB IL F5 LY BF CA DK BG FP RA KT KX LJ GT KR XC JX CJ JS CU OY xF GH OU PM Gq DQ DE CE BM HJ DT GB Jp Tf cL HF EZ Ey Ex U6 DX EJ AEY YV ANO W9 FI zP MI QM AFK D9 gJ Oc By bW AEG As ADY JR pG Ha SE YO El Fs Rb YP XI Ng Nz Ck Ae Cu Xp Yf Yz Xg WF Wy Xj Ip Yr QQ Bn Nf Xu Yp dY Np; simp only [CC, eq_self, implies_true, forall_const, DW]
 have wj : ∀ {j : Nat}, 1 <= j -> j < a.l.length -> ((j - 1 : Nat) : Int) = IntKind.i64.wrap ((j : Int) - 1) := λ h1 h2 => ((NU (by omega) (by omega)).trans (by omega)).symm
 have w0 : ((1 : Nat) : Int) = IntKind.i64.wrap (0 + 1) := by decide
 have wn : ((a.l.length - 1 : Nat) : Int) = IntKind.i64.wrap ((a.l.length : Int) - 1) := ((NU (by omega) (by omega)).trans (by omega)).symm
 have gd : ∀ {i j k : Nat} {l : List Int}, (i <= j -> k < a.l.length) -> l.length = a.l.length -> mR a.g l -> ((i : Int) <= (j : Int) -> (0 : Int) <= k /\ (k : Int) < a.l.length) /\ ((i : Int) <= (j : Int) -> k < a.l.length) /\ ((i : Int) <= (j : Int) -> (0 : Int) <= 0 /\ (0 : Int) < a.l.length) /\ ((i : Int) <= (j : Int) -> Int.toNat 0 < a.l.length) /\ ((i : Int) <= (j : Int) -> (0 <= gD l k /\ gD l k < a.g.ns.length) /\ 0 <= gD l 0 /\ gD l 0 < a.g.ns.length) := λ h2 h4 h5 => ⟨λ h => by have := h2 (by omega); omega, λ h => h2 (by omega), λ _ => z2, λ _ => hn, λ h => ⟨h5 _ (by have := h2 (by omega); omega), h5 _ (by omega)⟩⟩
 have rg : ∀ {i j : Nat}, i < a.l.length -> j < a.l.length -> ((0 : Int) <= (i : Int) /\ (i : Int) < a.l.length) /\ i < a.l.length /\ ((0 : Int) <= (j : Int) /\ (j : Int) < a.l.length) /\ j < a.l.length /\ ((0 : Int) <= (j : Int) /\ (j : Int) < a.l.length) /\ j < a.l.length /\ ((0 : Int) <= (i : Int) /\ (i : Int) < a.l.length) /\ i < a.l.length := λ h1 h2 => ⟨⟨by omega, by omega⟩, h1, ⟨by omega, by omega⟩, h2, ⟨by omega, by omega⟩, h2, ⟨by omega, by omega⟩, h1⟩
 refine ⟨⟨hp, sQ hp, z2, hn, z2, hn, hp, sQ hp⟩, ⟨⟨1, a.l.length - 1, ptS a.l a.p.toNat⟩, ⟨w0, wn, λ i hi => xS hn (sQ hp)⟩, ⟨Nat.one_pos, by show a.l.length - 1 < _; omega, by show 1 <= a.l.length - 1 + 1; omega⟩, ⟨uG _ _ _, vT sp h2⟩, rfl⟩, λ x ⟨⟨x1, x2, x3⟩, ⟨x4, x5⟩, x6⟩ => ⟨gd (λ h => by omega) x4 x5, λ hc => ?_, λ hc => ⟨?_, λ y ⟨⟨⟨y1, y2, y3⟩, ⟨y4, y5⟩, y6⟩, y7⟩ => ⟨gd (λ h => by omega) y4 y5, λ hd => ?_, λ hd => ⟨λ hij => ?_, λ hij => ?_⟩⟩⟩⟩⟩
 ·have q := cU.1 hc
  exact ⟨⟨x.i + 1, x.j, x.l⟩, ⟨(MO (by omega)).symm, rfl, λ _ _ => rfl⟩, ⟨⟨Nat.succ_pos _, x2, by show x.i + 1 <= x.j + 1; omega⟩, ⟨x4, x5⟩, x6.trans (BMY q.1 q.2)⟩, by show x.j + 1 - (x.i + 1) < _; omega⟩
 ·have q := λ h => no_t hc (cU.2 h)
  exact ⟨⟨x.i, x.j, x.l⟩, ⟨rfl, rfl, λ _ _ => rfl⟩, ⟨⟨x1, x2, x3⟩, ⟨x4, x5⟩, x6.trans (AVN q)⟩, λ h1 h2 => q ⟨h1, h2⟩⟩
 ·have q := cD.1 hd
  exact ⟨⟨y.i, y.j - 1, y.l⟩, ⟨rfl, wj (by omega) y2, λ _ _ => rfl⟩, ⟨⟨⟨y1, by show y.j - 1 < _; omega, by show y.i <= y.j - 1 + 1; omega⟩, ⟨y4, y5⟩, y6.trans (BOZ (by omega) q.1 q.2)⟩, λ h => y7 q.1⟩, by show y.j - 1 < _; omega⟩
 ·have e := y6.trans (BAS (show y.i > y.j by omega))
  exact ⟨⟨z2, hn, ⟨by omega, by omega⟩, y2, ⟨by omega, by omega⟩, y2, z2, hn⟩, BIF e y4 y2⟩
 ·have hij : ¬y.i > y.j := by omega
  have q := λ h => no_t hd (cD.2 h)
  have l1 := BOT hij y7 q
  have lp := Zh (l := y.l) (i := y.i) (j := y.j) (by omega) (by omega)
  refine ⟨rg y2 (by omega), ⟨⟨y.i + 1, y.j - 1, sw2 y.l y.i y.j⟩, ⟨(MO (by omega)).symm, wj (by omega) y2, λ i hi => xS (by omega) (by omega)⟩, ⟨Nat.succ_pos _, by show y.j - 1 < _; omega, by show y.i + 1 <= y.j - 1 + 1; omega⟩, ⟨(uG _ _ _).trans y4, vT lp y5⟩, y6.trans (BPH hij q)⟩, λ z ⟨⟨z1, z2', z3⟩, ⟨z4, z5⟩, z6⟩ => ⟨⟨⟨z.i, z.j, z.l⟩, ⟨rfl, rfl, λ _ _ => rfl⟩, ⟨⟨z1, z2', z3⟩, ⟨z4, z5⟩, z6⟩, Nat.le_refl _⟩, λ w ⟨⟨⟨w1, w2, w3⟩, ⟨w4, w5⟩, w6⟩, w7⟩ => ⟨gd (λ h => by omega) w4 w5, λ hc => ?_, λ hc => ⟨?_, λ v ⟨⟨⟨v1, v2, v3⟩, ⟨v4, v5⟩, v6⟩, v7, v8⟩ => ⟨gd (λ h => by omega) v4 v5, λ hd => ?_, λ hd => ⟨λ hij => ?_, λ hij => ?_⟩⟩⟩⟩⟩⟩
  ·have q := cU.1 hc
   exact ⟨⟨w.i + 1, w.j, w.l⟩, ⟨(MO (by omega)).symm, rfl, λ _ _ => rfl⟩, ⟨⟨⟨Nat.succ_pos _, w2, by show w.i + 1 <= w.j + 1; omega⟩, ⟨w4, w5⟩, w6.trans (BMY q.1 q.2)⟩, by show w.j + 1 - (w.i + 1) <= _; omega⟩, by show w.j + 1 - (w.i + 1) < _; omega⟩
  ·have q := λ h => no_t hc (cU.2 h)
   exact ⟨⟨w.i, w.j, w.l⟩, ⟨rfl, rfl, λ _ _ => rfl⟩, ⟨⟨w1, w2, w3⟩, ⟨w4, w5⟩, w6.trans (AVN q)⟩, λ h1 h2 => q ⟨h1, h2⟩, w7⟩
  ·have q := cD.1 hd
   exact ⟨⟨v.i, v.j - 1, v.l⟩, ⟨rfl, wj (by omega) v2, λ _ _ => rfl⟩, ⟨⟨⟨v1, by show v.j - 1 < _; omega, by show v.i <= v.j - 1 + 1; omega⟩, ⟨v4, v5⟩, v6.trans (BOZ (by omega) q.1 q.2)⟩, λ h => v7 q.1, by show v.j - 1 + 1 - v.i <= _; omega⟩, by show v.j - 1 < _; omega⟩
  ·have e := v6.trans (BAS (show v.i > v.j by omega))
   exact ⟨⟨z2, hn, ⟨by omega, by omega⟩, v2, ⟨by omega, by omega⟩, v2, z2, hn⟩, BIF e v4 v2⟩
  ·have hij : ¬v.i > v.j := by omega
   have q := λ h => no_t hd (cD.2 h)
   have l1 := BOT hij v7 q
   have lp := Zh (l := v.l) (i := v.i) (j := v.j) (by omega) (by omega)
   exact ⟨rg v2 (by omega), ⟨v.i + 1, v.j - 1, sw2 v.l v.i v.j⟩, ⟨(MO (by omega)).symm, wj (by omega) v2, λ i hi => xS (by omega) (by omega)⟩, ⟨⟨Nat.succ_pos _, by show v.j - 1 < _; omega, by show v.i + 1 <= v.j - 1 + 1; omega⟩, ⟨(uG _ _ _).trans v4, vT lp v5⟩, v6.trans (BPH hij q)⟩, by show v.j - 1 + 1 - (v.i + 1) < _; omega⟩
theorem BQU : AR Try.prog AMU (C_ptn.spec dGp) := Bl C_ptn BPB [] [] BBS (λ _ => by kernel_rfl) (λ _ => AC AFR AI) (λ (a : Gp) h => by
 obtain ⟨⟨h1, hp⟩, h2⟩ : ((a.l.length = 13 ∨ a.l.length = 14) /\ 0 <= a.p /\ a.p < a.l.length) /\ mR a.g a.l := h
 exact BUO a h1 hp h2) (λ _ => Ec rfl rfl) _
theorem BVR (g : Cht) (l : List Int) (p : Nat) : gpR ⟨g, l, (p : Int)⟩ = ptM (HW g) l p := by unfold gpR; rfl
theorem BSS (a : Gw) : (chH a == 2) = true -> False := λ h => by
 unfold chH at h
 cases q : mnS (HW a.g) a.l 3 6 9 0 == 0 with
 | false => rw [q] at h; cases h
 | true => rw [q] at h; cases h
theorem BFP {key : Int -> Int} {P : Int} {k : Nat} {l m r s : List Int} (hd : ndk key l) (h : PtK key P k l m) (hh : (RsM key 0 k m r /\ RsM key (k + 1) l.length r s) ∨ RsM key (k + 1) l.length m r /\ RsM key 0 k r s) : s = oP key l := by
 obtain ⟨q1, q2⟩ := BSR h hh
 exact AWF hd q1 (by rw [q1.length_eq]; exact q2)
set_option maxHeartbeats 1000000 in
theorem BST (a : Gw) (h1 : a.l.length = 13 ∨ a.l.length = 14) (h2 : mR a.g a.l) (hd : ndk (HW a.g) a.l) : BHZ a := by
 obtain ⟨w1, _⟩ := BHS h1
 obtain ⟨p, p1, p2, hx, hy⟩ := BRE hd (a := 3) (b := 6) (c := 9) (by omega) (by omega) (by omega)
 have p2 : chP a = (p : Int) := p2
 have K := BQV (key := HW a.g) p1
 have sd := BGE K hx hy
 have hl := K.perm.length_eq
 have hin := vT K.perm h2
 rw [BKC]<;> delta LV hd7 He CI CH FE PS SI Pt EE FH CL AF CV DC AS CG UB CW FG PD HU KV UC MT JT HP GG IQ IV IX JU GZ GM HK LC II FV ET XS Lv LX HX UN OW MN gT TO Ul MM DJ Lk Bb Hl AH DD EL EW GS AK BN BQ CF SO AJ HR GI EQ BU FT WY BJ AN AM BV AZ CD BR JD BL AO DZ JI EI DV DI CB GN AT BB GO EP HD BO DG DY AP BT BA ED AW BE FZ LZ CX AV FN GF FA DB KP DN CM EF GR JF EU GQ HZ BD FL BH FX PY IT EK JJ GA CS GD JQ EH GW GJ EC HQ DH OD EA CQ AU FY FM MW JE OC NJ BC Pf MB Vy IL LY BF CA DK BG NQ FP My RA KT KX LJ GT GX KR QD XC CJ JS CU UK Wh SZ GH OU Vt Gq DQ JL DE OO CE BM HJ DT DA SY GB AMV QR CY IZ NV EO Kc Tf Xb EZ Xe Ex U6 JO DX EJ Jy OL QH W9 MR FR FI QJ Rx Gm D9 Rv SJ Wt AER KY bW XN YJ WR bV At RK WG WB Ac Av Fm Ai WI Ft Kd NM Hd Iu PU Fi Al Cu Ej Gt Oi Ew Cj Xa Ek Ab Of Gi Fb Eo Gb Gy Ed Fh QQ Zf Np gL WO Kx YB; simp only [CC, eq_self, implies_true, forall_const, DW]
 simp only [p2, BVR, Int.toNat_natCast, Int.toNat_zero]
 rw [w1]
 generalize ptL (HW a.g) a.l p = m at *
 generalize (ptM (HW a.g) a.l p).j = k at *
 have rm : (OF a.l.length λ i => gD m i) = m := by rw [<- hl]; exact PL m
 have k1 : IntKind.i64.wrap ((k : Int) - 0) = (k : Int) := (NU (by omega) (by omega)).trans (by omega)
 have k2 : IntKind.i64.wrap ((a.l.length : Int) - (k : Int)) = ((a.l.length - k : Nat) : Int) := (NU (by omega) (by omega)).trans (by omega)
 have k3 : IntKind.i64.wrap ((k : Int) + 1) = ((k + 1 : Nat) : Int) := MO (by omega)
 rw [rm, k1, k2, k3]
 simp only [Int.toNat_natCast]
 have hin' : ∀ i, i < a.l.length -> 0 <= gD m i /\ gD m i < a.g.ns.length := λ i hi => hin i (by omega)
 refine ⟨⟨default, trivial⟩, λ x ⟨⟨x1, x2, x3⟩, ⟨x4, x5⟩, x6⟩ => ⟨λ _ => ?_, λ h => h (by rw [NU (by omega) (by omega)]; omega)⟩, ⟨λ h => absurd h (by omega), λ _ => ⟨default, trivial⟩⟩, ⟨h1, h2⟩, BSS _, λ _ => ⟨⟨λ _ => ⟨⟨h1, h2⟩, λ hs i hi => ?_, λ _ => ⟨default, trivial⟩⟩, λ _ => ⟨default, trivial⟩⟩, ⟨λ h => (by cases h), λ h => (by cases h), λ h => (by cases h), λ h => (by cases h), λ h => (by cases h)⟩, ⟨⟨h1, by omega, by omega⟩, h2⟩, λ h => (by cases h), λ hlt => ?_, λ hge => ?_⟩⟩
 ·have rx : (OF a.l.length λ i => gD x.l i) = x.l := by rw [<- x4]; exact PL x.l
  rw [rx, x6]
  exact ⟨⟨λ _ _ => rfl, ⟨x1, x2⟩, by omega, λ i hi => x5 i (by omega)⟩, λ _ _ => rfl⟩
 ·rw [<- AWF hd (List.Perm.refl _) (AXC _ hs)]
 ·have R1 := AOP (HW a.g) (A := 0) (B := k) (l := m) (Nat.zero_le _) (by omega)
  have rl := R1.perm.length_eq
  have R2 := AOP (HW a.g) (A := k + 1) (B := a.l.length) (l := rsM (HW a.g) 0 k m) (by omega) (by omega)
  refine ⟨⟨rfl, λ _ _ => trivial, ⟨by omega, by omega, by omega⟩, by omega, hin'⟩, ⟨k + 1, a.l.length, rsM (HW a.g) 0 k m, k⟩, ⟨rfl, rfl, rfl, λ _ _ => rfl⟩, ⟨⟨by show k + 1 <= a.l.length; omega, Nat.le_refl _, by show a.l.length <= k + 1 + 12; omega⟩, ⟨rl.trans hl, vT R1.perm hin⟩, BFP hd K (.inl ⟨R1, R2⟩)⟩, Nat.one_pos⟩
 ·have R1 := AOP (HW a.g) (A := k + 1) (B := a.l.length) (l := m) (by omega) (by omega)
  have rl := R1.perm.length_eq
  have R2 := AOP (HW a.g) (A := 0) (B := k) (l := rsM (HW a.g) (k + 1) a.l.length m) (Nat.zero_le _) (by omega)
  refine ⟨⟨trivial, λ _ _ => trivial, ⟨by omega, by omega, by omega⟩, by omega, hin'⟩, ⟨0, k, rsM (HW a.g) (k + 1) a.l.length m, k⟩, ⟨rfl, rfl, rfl, λ _ _ => rfl⟩, ⟨⟨Nat.zero_le _, by show k <= a.l.length; omega, by show k <= 0 + 12; omega⟩, ⟨rl.trans hl, vT R1.perm hin⟩, BFP hd K (.inr ⟨R1, R2⟩)⟩, Nat.one_pos⟩
theorem BLW : AR Try.prog ACC (C_pdqL.spec dGwp) := Bl C_pdqL BIA [] [] AUP (λ _ => by kernel_rfl) (λ _ => AC AFR (AC AYE (AC AWJ (AC BSL (AC BQL (AC BQU AI)))))) (λ (a : Gw) h => by
 obtain ⟨⟨h1, h2⟩, h3⟩ : ((a.l.length = 13 ∨ a.l.length = 14) /\ mR a.g a.l) /\ ndk (HW a.g) a.l := h
 exact BST a h1 h2 h3) (λ _ => Ec rfl rfl) _
theorem BUV : AR Try.prog Sz AFT := Lu wI AXY λ x h => by
 have h : x = 13 ∨ x = 14 := h
 rcases h with h | h
 ·subst h
  exact Ky (A := ann 25 []) (ren := []) (fz := []) S4 (by kernel_rfl) AI (by
   show BPT default; rw [BRB]; delta z_l13_0 ANM; exact ⟨BEU _, by kernel_rfl⟩)
 ·subst h
  exact Ky (A := ann 25 []) (ren := []) (fz := []) S4 (by kernel_rfl) AI (by
   show BOQ default; rw [BQS]; delta z_l14_0 AKU; exact ⟨BEU _, by kernel_rfl⟩)
theorem BLX : AR Try.prog R6 AFT := Lu wI AXY λ x h => Ky (A := ann 8 [(Sz, AFT)]) (ren := []) (fz := []) AXT (by kernel_rfl) (AC BUV AI) (by
 show BGY x; rw [BKP]<;> delta AS UB AJ My Oi; exact ⟨h, rfl⟩)
theorem BJS (key : Int -> Int) (l : List Int) : rsM key 0 l.length l = oP key l := by
 unfold rsM mdl wh; simp
theorem BQN : AR Try.prog I1 (C_srt.spec dGLt) := okT C_srt (λ (a : GL) h => by
 obtain ⟨h1, h2, h3⟩ : (a.l.length <= 12 ∨ (a.l.length = 13 ∨ a.l.length = 14) /\ ndk (HW a.g) a.l) /\ glOk a := h
 rcases h1 with h1 | ⟨h1, hd⟩
 ·exact Ky (A := BHR) (L := C_sort.L a) (keep := C_sort.keep a) (ren := []) (fz := []) AGJ (by kernel_rfl) (AC BBN (AC AWJ AI)) (by
   show BCY a; rw [BLC]<;> delta CI CH FE PS EE FH CL AF CV DC AS CG UB CW HU KV JT HP GG IQ IV IX JU GZ GM HK LC FV ET XS HX TO UF FC AH DD EL EW GS AK BN BQ CF SO AJ HR GI EQ BU BJ AN AM BV AZ CD BR JD BL AO DZ EI DV DI CB GN AT BB EP HD BO DG DY AP BT BA ED AW BE FZ LZ CX AV FN GF FA DB CM GR EU GQ HZ BD FL BH FX IT GA GD GJ EC OD EA CQ AU FY MW OC BC Pf MB IL LY BF CA DK BG NQ FP RA KT KX LJ GT GX KR QD XC Gq DQ JL DE CE BM HJ DT MJ SY EO Tf Ex RM DX EJ FI YF RK WI PU Of Eg QQ WO; simp only [CC, eq_self, implies_true, forall_const, DW]
   rw [show IntKind.u64.wrap (a.l.length : Int) = a.l.length from u64w (by omega) (by omega)]
   simp only [Int.toNat_zero]
   exact ⟨⟨⟨by omega, by omega⟩, rfl, ⟨Nat.zero_le _, Nat.le_refl _, h1⟩, h2, h3⟩, λ i hi => by rw [BJS]⟩)
 ·exact Ky (A := BBH) (L := C_sort.L a) (keep := C_sort.keep a) (ren := []) (fz := []) AGJ (by kernel_rfl) (AC BLX (AC BLW AI)) (by
   show BDB a; rw [BJL]<;> delta CI CH FE PS EE FH CL AF CV DC AS CG UB HU KV JT HP GG IQ IV IX JU GZ GM HK LC FV ET XS TO UF FC AH DD EL EW GS AK BN BQ CF SO AJ HR GI EQ BU BJ AN AM BV AZ CD BR JD BL AO DZ EI DV DI CB GN AT BB EP HD BO DG DY AP BT BA ED AW BE FZ LZ CX AV FN GF FA DB CM GR EU GQ HZ BD FL BH FX IT GA GD GJ EC OD EA CQ AU FY FM MW OC BC Pf MB IL LY BF CA DK BG NQ FP My RA KT KX LJ GT KR QD XC JS CU Gq DQ JL DE CE BM HJ DT MJ Tf RM DX FR MI YF PU Oi WO; simp only [CC, eq_self, implies_true, forall_const, DW]
   rw [show IntKind.u64.wrap (a.l.length : Int) = a.l.length from u64w (by omega) (by omega)]
   exact ⟨by omega, ⟨h1, h3⟩, hd⟩)) _
end Go.Bal
