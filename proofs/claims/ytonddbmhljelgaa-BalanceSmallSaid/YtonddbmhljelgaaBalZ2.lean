/- Balanced of the reference; Balanced, Holds, Cost of both. -/
import Derived.Test.YtonddbmhljelgaaBalZ
import Derived.Test.YtonddbmhljelgaaBalT19
set_option linter.unusedVariables false
set_option linter.unusedSimpArgs false
namespace Go.Bal
open Go Go.Sym Go.Proofs
def Zm (N : NetL) (T : TruthL) : List Int := if II N T = 0 then Li N T else []
structure SIX where
 s : Nat
 i : Nat
 x : Int
 deriving Inhabited
def rbO (a : NT) : List (Nat × HCell) := [(200, LF a.N), (201, truO a.T)]
def rbS (v : AVal) (s : Nat) : List (Nat × AVal) := [(2, .bptr 200 0), (3, .bptr 201 0), (7, v), (8, .int s)]
def rbR (a : NT) (s : Nat) : List (Nat × HCell) := [(203, pP (KR a.N a.T s).length (KR a.N a.T s))]
def rbOk (a : NT) : Prop := II a.N a.T = 0
def rbB (a : NT) (ag : List (Nat × Nat)) : Shape := { α := Nat, dflt := 0, T := λ s => ⟨rbS (.own 203 1 0 (KR a.N a.T s).length) s, rbO a ++ rbR a s⟩, inv := λ s => rbOk a /\ s <= a.N.g.length, meas := λ s => a.N.g.length - s, again := ag }
def BMU (a : NT) (gs : List Nat) (s : SIX) : Prop := rbOk a /\ s.s < a.N.g.length /\ a.N.g.length - s.s = gs.headD 0 /\ s.i <= a.N.r.length /\ sQ s.s s.x (a.N.r.drop s.i) (a.T.f.drop s.i) = qT a.N a.T s.s
def A47 (a : NT) : Ann := { ann 73 [(83, C78.spec d78)] with mt := λ id => id == 17, inner := λ gs id => if id = 6 then some [{ α := Nat, dflt := 0, T := λ s => ⟨rbS (.d Gg) s, rbO a⟩, inv := λ s => rbOk a /\ s <= a.N.g.length /\ KR a.N a.T s = [], meas := λ s => a.N.g.length - s, first := [(200, 1000), (201, 1016)] }, rbB a [(203, 18048)], rbB a []] else if id = 10 then some [{ α := SIX, dflt := default, T := λ s => ⟨rbS (.d Gg) s.s ++ [(9, .int s.x), (10, .int s.i)], rbO a⟩, inv := λ s => BMU a gs s /\ KR a.N a.T s.s = [], meas := λ s => a.N.r.length - s.i }, { α := SIX, dflt := default, T := λ s => ⟨rbS (.own 203 1 0 (KR a.N a.T s.s).length) s.s ++ [(9, .int s.x), (10, .int s.i)], rbO a ++ rbR a s.s⟩, inv := λ s => BMU a gs s, meas := λ s => a.N.r.length - s.i }] else none }
def xsNT (a : NT) : List AVal := [.d (LW a.N), .d (OG a.T)]
def C47 : Ctr := { α := NT, xs := xsNT, L := λ _ => [], val := λ a => .tup [.d (BC (Zm a.N a.T)), .int (II a.N a.T)], keep := λ _ => [], pre := λ a => [Ot a.N, qE a.T] }
def V47 (a : NT) : Prop := BN Try.prog (A47 a) Try.f47 (AF Try.f47) (C47.xs a) (AD []) (C47.val a) [] [] [203]
abbrev Md:=@Exists SIX
abbrev Ct:=SIX.s
abbrev Ma:=SIX.x
abbrev LV:=SIX.i
abbrev Z0:=λ (f : SIX -> Prop) => ∀ (x : SIX), f x
abbrev Xf a b:=Zm (AX a) (PL b)
abbrev Nm a b c:=And (ZG a) (AON b c)
abbrev VQ a b c d (e:Nat->Prop) f (g:Nat->Prop) h p:=NF (XE a) (ZK b) (Ge c) (eD d) e (cC f) g h p
abbrev Cv a b:=BFD a a (Ct b)
abbrev ACV a b c:=KH a (Cv b c)
abbrev iI a b c:=FH a (Cv b c)
abbrev AKR:=E9 18048
abbrev nM a:=rbB a AKR
abbrev aT a:=BT (Ct a)
abbrev Iq a b:=EA (Cv a b)
abbrev tV a:=UD (Ma a)
abbrev Fq a b c d e:=AFN a b c (LV d) (LV e)
abbrev C5 a b c d e f:=BG a (ON b c) d e f
abbrev AXF a b c:=C5 (ZG a) (Ct b) (BV a) (jM (BV a) (Ct b) c) (L0 (LV b) a) (AAM (AAH (aT b) (Ma b) (ABW (LV b) a) (LV b) a) a (Ct b))
abbrev APG a b c:=AKO (rbB a b) c
abbrev AUA a b c d:=AXF a b (APG a c d)
abbrev Nd a b c:=AUA a b iA c
abbrev Fp a b c:=iI (Cv a b) a c
abbrev Hg a b c d:=vD (Fp a b c) d
abbrev ADB a b:=EQ (Ct a) b
abbrev AUB a b:=ADB a (Ct b)
abbrev Ii a b c d e f g:=Hp (AUB a b) c (LV d) (LV e) f g
abbrev Jb a b c d:=ACV (Cv a b) c d
abbrev XB a b:=AS (Ma a) b
abbrev Jp a b (c:SIX->Prop):=AOM (LV a) b (Md c)
abbrev ASZ a b:=jV a (LV b)
abbrev Hx a b c d:=XB a (ME b (ASZ c d))
abbrev mR a b:=Bz a (aT b)
abbrev Jf a b c:=mR (AVB a (LV b)) c
abbrev UJ a b:=AUS (LV a) b
abbrev Hw a b c:=NJ (Ma a) (ASZ b c)
abbrev U7 a b c:=ABY a (Cv b c)
abbrev Jn a b c d e f g:=Fq a (U7 b c d) e f g
abbrev AUU a b c:=EF AC PU a b c
abbrev Hm a b c d:=AUU (AUB a b) c d
abbrev Je a b:=AU (LV a) (LV b)
abbrev Mf a b c:=AUA a b AKR c
abbrev Mv a b c d:=AXF a b (F0 c d)
abbrev KA a:=O3 (NM a) (OM a)
abbrev ACB a b:=II a (KA b)
abbrev Bg a b:=ACB (UK a) b
abbrev Wo a b c:=sJ (Xx a) (AX b) c
abbrev Wu a:=Cd (EA (OM a))
abbrev Tu a:=Cd (EA (NM a))
attribute [go_sem] Md Ct Ma LV Z0 Xf Nm VQ Cv ACV iI AKR nM aT Iq tV Fq C5 AXF APG AUA Nd Fp Hg ADB AUB Ii Jb XB Jp ASZ Hx mR Jf UJ Hw U7 Jn AUU Hm Je Mf Mv KA ACB Bg Wo Wu Tu
theorem vc47 (a : NT) : (V47 a) = (JY (Wo a a (FN (VE a) (λ i=>VT i a i i a i) (SE a) (UZ a) (RP a) (XL a) (And (Ty a) (Vv a)) (Tu a) (Wu a))) (Bg a a) (Rc (RM (Xf a a)) (Jd a a) (Bg a a)) (DW (IJ (λ i=>AP (MH AC PU (OZ (AZ i) a a a (λ j=>ND j a) a (λ j=>BJ j a) a (λ j=>BI j a))) (ZG a) (AON i a) (VP (GE a i)))) (λ i=>CG (Hn (ZG a) i (BV a) (VP (GE a i))) i (BV a) (AP (GF i (YE a)) (Md (λ j=>AJ (AUU (ADB j i) (XB j (eX a i)) (OZ (AZ (LV j)) a a a (λ k=>ND k a) a (λ k=>BJ k a) a (λ k=>BI k a))) (Mv a j a i) (VP (Cv a j)))) (Z0 (λ j=>GM (U7 (Mv a j a i) a j) (LV j) (HD a) (UJ j a) (mR (Hz a (LV j)) j) (Dq (LV j) (QV a) (UJ j a) (IK (Jf a j j) (Jp j a (λ k=>Jn (Hm k j (Hx k (Hw j a j) a j) (OZ (Je k j) a a a (λ l=>ND l a) a (λ l=>BJ l a) a (λ l=>BI l a))) (Mv a k a i) a k a k j)) (Md (λ k=>Jn (Hm k j (XB k (Hw j a j)) (OZ (Je k j) a a a (λ l=>ND l a) a (λ l=>BJ l a) a (λ l=>BI l a))) (Mv a k a i) a k a k j)))) (EG (UJ j a) (Jf a j j) (Jp j a (λ k=>Jn (Hm k j (Hx k (Ma j) a j) (OZ (Je k j) a a a (λ l=>ND l a) a (λ l=>BJ l a) a (λ l=>BI l a))) (Mv a k a i) a k a k j)) (Md (λ k=>Jn (Hm k j (XB k (Ma j)) (OZ (Je k j) a a a (λ l=>ND l a) a (λ l=>BJ l a) a (λ l=>BI l a))) (Mv a k a i) a k a k j))) (YT (tV j) In (λ k=>I4 (Hp AC (Uc (GE a k)) k (Ct j) a (ZI (XE a) (ZK a) (Ge a) a (λ l=>BJ l a) a (λ l=>BI l a) (Uc (GE a k)) (λ l=>FL l (GE a k) (aT j)))) (Nm a k a) (nM a) k (F0 a i)) (λ k=>CB (MH AC PU (OZ (AU k (Ct j)) a a a (λ l=>ND l a) a (λ l=>BJ l a) a (λ l=>BI l a))) (Hn (ZG a) k (BV a) (VP (GE a k))) (BV a) k i)))) (Z0 (λ j=>GM (Mv a j a i) (LV j) (HD a) (UJ j a) (mR (Hz a (LV j)) j) (Dq (LV j) (QV a) (UJ j a) (IK (Jf a j j) (Jp j a (λ k=>Fq (Hg a k j (Ii k j (Hx k (Hw j a j) a j) k j a (VQ a a a a (λ l=>BJ l a) a (λ l=>BI l a) (Fp a k j) (Jb a k a j)))) (Mv a k a i) a k j)) (Md (λ k=>Fq (Hg a k j (Ii k j (XB k (Hw j a j)) k j a (VQ a a a a (λ l=>BJ l a) a (λ l=>BI l a) (Fp a k j) (Jb a k a j)))) (Mv a k a i) a k j)))) (EG (UJ j a) (Jf a j j) (Jp j a (λ k=>Fq (Hg a k j (Ii k j (Hx k (Ma j) a j) k j a (VQ a a a a (λ l=>BJ l a) a (λ l=>BI l a) (Fp a k j) (Jb a k a j)))) (Mv a k a i) a k j)) (Md (λ k=>Fq (Hg a k j (Ii k j (XB k (Ma j)) k j a (VQ a a a a (λ l=>BJ l a) a (λ l=>BI l a) (Fp a k j) (Jb a k a j)))) (Mv a k a i) a k j))) (YT (tV j) (Qk (cF (Cv a j)) Nx (Iq a j) 8) (λ k=>I4 (Hp AC (Ju (GE a k) (Iq a j)) k (Ct j) a (ZI (XE a) (ZK a) (Ge a) a (λ l=>BJ l a) a (λ l=>BI l a) (Ju (GE a k) (Iq a j)) (λ l=>FL l (GE a k) (RR l (Iq a j) (Cv a j) l (aT j))))) (Nm a k a) (nM a) k (F0 a i)) (λ k=>I4 (Hp AC (iI (GE a k) a j) k (Ct j) a (VQ a a a a (λ l=>BJ l a) a (λ l=>BI l a) (iI (GE a k) a j) (ACV (GE a k) a j))) (Nm a k a) (rbB a iA) k (F0 a i)))))) (Gx (RM (Xf a a)) (ZG a))) (AG (λ i=>CG (Nm a i a) i (BV a) (AP (GF i (YE a)) (Md (λ j=>And (vD (FH (Cv a j) (GE a i)) (BG (ADB j i) (XB j (eX a i)) (AZ (LV j)) (SN a) (VQ a a a a (λ k=>BJ k a) a (λ k=>BI k a) (FH (Cv a j) (GE a i)) (KH (Cv a j) (GE a i))))) (Mf a j i))) (Z0 (λ j=>GM (U7 (Mf a j i) a j) (LV j) (HD a) (UJ j a) (mR (Hz a (LV j)) j) (Dq (LV j) (QV a) (UJ j a) (IK (Jf a j j) (Jp j a (λ k=>Jn (Hm k j (Hx k (Hw j a j) a j) (OZ (Je k j) a a a (λ l=>ND l a) a (λ l=>BJ l a) a (λ l=>BI l a))) (Mf a k i) a k a k j)) (Md (λ k=>Jn (Hm k j (XB k (Hw j a j)) (OZ (Je k j) a a a (λ l=>ND l a) a (λ l=>BJ l a) a (λ l=>BI l a))) (Mf a k i) a k a k j)))) (EG (UJ j a) (Jf a j j) (Jp j a (λ k=>Jn (Hm k j (Hx k (Ma j) a j) (OZ (Je k j) a a a (λ l=>ND l a) a (λ l=>BJ l a) a (λ l=>BI l a))) (Mf a k i) a k a k j)) (Md (λ k=>Jn (Hm k j (XB k (Ma j)) (OZ (Je k j) a a a (λ l=>ND l a) a (λ l=>BJ l a) a (λ l=>BI l a))) (Mf a k i) a k a k j))) (YT (tV j) In (λ k=>HL (Hp AC (Uc (GE a k)) k (Ct j) a (ZI (XE a) (ZK a) (Ge a) a (λ l=>BJ l a) a (λ l=>BI l a) (Uc (GE a k)) (λ l=>FL l (GE a k) (aT j)))) (Nm a k a) (nM a) k i) (λ k=>kE (MH AC PU (OZ (AU k (Ct j)) a a a (λ l=>ND l a) a (λ l=>BJ l a) a (λ l=>BI l a))) (Hn (ZG a) k (BV a) (VP (GE a k))) (BV a) k (APG a AKR i))))) (Z0 (λ j=>GM (Mf a j i) (LV j) (HD a) (UJ j a) (mR (Hz a (LV j)) j) (Dq (LV j) (QV a) (UJ j a) (IK (Jf a j j) (Jp j a (λ k=>Fq (Hg a k j (Ii k j (Hx k (Hw j a j) a j) k j a (VQ a a a a (λ l=>BJ l a) a (λ l=>BI l a) (Fp a k j) (Jb a k a j)))) (Mf a k i) a k j)) (Md (λ k=>Fq (Hg a k j (Ii k j (XB k (Hw j a j)) k j a (VQ a a a a (λ l=>BJ l a) a (λ l=>BI l a) (Fp a k j) (Jb a k a j)))) (Mf a k i) a k j)))) (EG (UJ j a) (Jf a j j) (Jp j a (λ k=>Fq (Hg a k j (Ii k j (Hx k (Ma j) a j) k j a (VQ a a a a (λ l=>BJ l a) a (λ l=>BI l a) (Fp a k j) (Jb a k a j)))) (Mf a k i) a k j)) (Md (λ k=>Fq (Hg a k j (Ii k j (XB k (Ma j)) k j a (VQ a a a a (λ l=>BJ l a) a (λ l=>BI l a) (Fp a k j) (Jb a k a j)))) (Mf a k i) a k j))) (YT (tV j) (Qk (cF (Cv a j)) Nx (Iq a j) 8) (λ k=>HL (Hp AC (Ju (GE a k) (Iq a j)) k (Ct j) a (ZI (XE a) (ZK a) (Ge a) a (λ l=>BJ l a) a (λ l=>BI l a) (Ju (GE a k) (Iq a j)) (λ l=>FL l (GE a k) (RR l (Iq a j) (Cv a j) l (aT j))))) (Nm a k a) (nM a) k i) (λ k=>Nb (Hp AC (iI (GE a k) a j) k (Ct j) a (VQ a a a a (λ l=>BJ l a) a (λ l=>BI l a) (iI (GE a k) a j) (ACV (GE a k) a j))) (Nm a k a) (rbB a iA) k (nM a) i))))) (AP (FH (Xf a a) (GE a i)) (BM (EA (GE a i))) (Dz (Xf a a) (GE a i)) (ZG a)))) (AG (λ i=>CG (Nm a i a) i (BV a) (AP (GF i (YE a)) (Md (λ j=>And (vD (FH (Cv a j) (GE a i)) (BG (ADB j i) (XB j (eX a i)) (AZ (LV j)) (SN a) (VQ a a a a (λ k=>BJ k a) a (λ k=>BI k a) (FH (Cv a j) (GE a i)) (KH (Cv a j) (GE a i))))) (Nd a j i))) (Z0 (λ j=>GM (U7 (Nd a j i) a j) (LV j) (HD a) (UJ j a) (mR (Hz a (LV j)) j) (Dq (LV j) (QV a) (UJ j a) (IK (Jf a j j) (Jp j a (λ k=>Jn (Hm k j (Hx k (Hw j a j) a j) (OZ (Je k j) a a a (λ l=>ND l a) a (λ l=>BJ l a) a (λ l=>BI l a))) (Nd a k i) a k a k j)) (Md (λ k=>Jn (Hm k j (XB k (Hw j a j)) (OZ (Je k j) a a a (λ l=>ND l a) a (λ l=>BJ l a) a (λ l=>BI l a))) (Nd a k i) a k a k j)))) (EG (UJ j a) (Jf a j j) (Jp j a (λ k=>Jn (Hm k j (Hx k (Ma j) a j) (OZ (Je k j) a a a (λ l=>ND l a) a (λ l=>BJ l a) a (λ l=>BI l a))) (Nd a k i) a k a k j)) (Md (λ k=>Jn (Hm k j (XB k (Ma j)) (OZ (Je k j) a a a (λ l=>ND l a) a (λ l=>BJ l a) a (λ l=>BI l a))) (Nd a k i) a k a k j))) (YT (tV j) In (λ k=>Nb (Hp AC (Uc (GE a k)) k (Ct j) a (ZI (XE a) (ZK a) (Ge a) a (λ l=>BJ l a) a (λ l=>BI l a) (Uc (GE a k)) (λ l=>FL l (GE a k) (aT j)))) (Nm a k a) (nM a) k (rbB a iA) i) (λ k=>kE (MH AC PU (OZ (AU k (Ct j)) a a a (λ l=>ND l a) a (λ l=>BJ l a) a (λ l=>BI l a))) (Hn (ZG a) k (BV a) (VP (GE a k))) (BV a) k (APG a iA i))))) (Z0 (λ j=>GM (Nd a j i) (LV j) (HD a) (UJ j a) (mR (Hz a (LV j)) j) (Dq (LV j) (QV a) (UJ j a) (IK (Jf a j j) (Jp j a (λ k=>Fq (Hg a k j (Ii k j (Hx k (Hw j a j) a j) k j a (VQ a a a a (λ l=>BJ l a) a (λ l=>BI l a) (Fp a k j) (Jb a k a j)))) (Nd a k i) a k j)) (Md (λ k=>Fq (Hg a k j (Ii k j (XB k (Hw j a j)) k j a (VQ a a a a (λ l=>BJ l a) a (λ l=>BI l a) (Fp a k j) (Jb a k a j)))) (Nd a k i) a k j)))) (EG (UJ j a) (Jf a j j) (Jp j a (λ k=>Fq (Hg a k j (Ii k j (Hx k (Ma j) a j) k j a (VQ a a a a (λ l=>BJ l a) a (λ l=>BI l a) (Fp a k j) (Jb a k a j)))) (Nd a k i) a k j)) (Md (λ k=>Fq (Hg a k j (Ii k j (XB k (Ma j)) k j a (VQ a a a a (λ l=>BJ l a) a (λ l=>BI l a) (Fp a k j) (Jb a k a j)))) (Nd a k i) a k j))) (YT (tV j) (Qk (cF (Cv a j)) Nx (Iq a j) 8) (λ k=>Nb (Hp AC (Ju (GE a k) (Iq a j)) k (Ct j) a (ZI (XE a) (ZK a) (Ge a) a (λ l=>BJ l a) a (λ l=>BI l a) (Ju (GE a k) (Iq a j)) (λ l=>FL l (GE a k) (RR l (Iq a j) (Cv a j) l (aT j))))) (Nm a k a) (nM a) k (rbB a iA) i) (λ k=>HL (Hp AC (iI (GE a k) a j) k (Ct j) a (VQ a a a a (λ l=>BJ l a) a (λ l=>BI l a) (iI (GE a k) a j) (ACV (GE a k) a j))) (Nm a k a) (rbB a iA) k i))))) (AP (FH (Xf a a) (GE a i)) (BM (EA (GE a i))) (Dz (Xf a a) (GE a i)) (ZG a)))))) := by kernel_rfl
theorem BDZ (a : NT) (ag : List (Nat × Nat)) (s : Nat) : (rbB a ag).meas s = a.N.g.length - s := rfl
theorem wQ {s x : Int} {l : List Reach} {m : List Int} {k : Nat} (h1 : k < l.length) (h2 : k < m.length) : sQ s x (l.drop k) (m.drop k) = sQ s (iF s x (gD l k) (gD m k)) (l.drop (k + 1)) (m.drop (k + 1)) := by
 rw [JP h1, JP h2]; rfl
theorem U3 {s x : Int} {l : List Reach} {m : List Int} {k : Nat} (h1 : l.length <= k) : sQ s x (l.drop k) (m.drop k) = x := by
 rw [List.drop_eq_nil_of_le h1]; unfold sQ; rfl
theorem p47 (a : NT) (h1 : Ot a.N) (h2 : qE a.T) : V47 a := by
 rw [vc47]<;> simp only [go_sem]; simp only [CC, eq_self, implies_true, forall_const, BDZ, List.headD_cons, DL.d1, DL.d2, DL.d7, DL.d8]
 refine ⟨⟨h1, h2⟩, λ he => ?_, λ he => ?_⟩
 ·have : II a.N a.T ≠ 0 := by simpa using he
  unfold Zm; rw [if_neg this]; rfl
 have ha : II a.N a.T = 0 := by simpa using he
 obtain ⟨hc, ⟨e1, e2⟩, _, _⟩ := Pp ha
 have hg := BB hc
 have g8 := hg.g8
 have r14 := hg.r14
 have hbl : Zm a.N a.T = Li a.N a.T := by unfold Zm; rw [if_pos ha]
 refine ⟨⟨0, rfl, ha, Nat.zero_le _, rfl⟩, ?LA, ?LB⟩
 case LA =>
  intro k ⟨_, hk, hkn⟩
  refine ⟨λ hlt => ⟨⟨by omega, by omega⟩, ⟨⟨k, 0, gD a.T.t k⟩, ⟨rfl, rfl, rfl⟩, ⟨ha, by show k < _; omega, rfl, Nat.zero_le _, rfl⟩, hkn⟩, ?IA, ?IB⟩, λ hge => ?_⟩
  case IA =>
   intro s ⟨⟨_, hs, hm, hi, hb⟩, hn⟩
   refine ⟨λ hlt => ?_, λ hge => ?_⟩
   ·have hk : s.i < a.N.r.length := by omega
    have hk2 : s.i < a.T.f.length := by omega
    obtain ⟨_, _, _, hne⟩ := hg.r s.i hk
    rw [wQ hk hk2] at hb
    refine ⟨⟨by omega, hlt⟩, λ ht => ⟨⟨by omega, by omega⟩, ⟨by omega, by omega⟩, λ hf => ?_, λ hf => ⟨⟨s.s, s.i + 1, wr (s.x + gD a.T.f s.i)⟩, ⟨rfl, rfl, (AL (by omega)).symm⟩, ⟨⟨ha, hs, hm, by show s.i + 1 <= _; omega, ?_⟩, hn⟩, by show _ - (s.i + 1) < _; omega⟩⟩, λ ht => ⟨⟨by omega, by omega⟩, λ hf => ⟨⟨by omega, by omega⟩, ⟨s.s, s.i + 1, wr (s.x - gD a.T.f s.i)⟩, ⟨rfl, rfl, (AL (by omega)).symm⟩, ⟨⟨ha, hs, hm, by show s.i + 1 <= _; omega, ?_⟩, hn⟩, by show _ - (s.i + 1) < _; omega⟩, λ hf => ⟨⟨s.s, s.i + 1, s.x⟩, ⟨rfl, rfl, (AL (by omega)).symm⟩, ⟨⟨ha, hs, hm, by show s.i + 1 <= _; omega, ?_⟩, hn⟩, by show _ - (s.i + 1) < _; omega⟩⟩⟩
    ·have e1 : (gD a.N.r s.i).to = s.s := by simpa using ht
     have e2 : (gD a.N.r s.i).fr = s.s := by simpa using hf
     omega
    ·have e1 : (gD a.N.r s.i).to = s.s := by simpa using ht
     have e2 : ¬ (gD a.N.r s.i).fr = s.s := by simpa using hf
     rw [<- hb]; unfold iF; rw [if_neg e2, if_pos e1]
    ·have e1 : ¬ (gD a.N.r s.i).to = s.s := by simpa using ht
     have e2 : (gD a.N.r s.i).fr = s.s := by simpa using hf
     rw [<- hb]; unfold iF; rw [if_pos e2]
    ·have e1 : ¬ (gD a.N.r s.i).to = s.s := by simpa using ht
     have e2 : ¬ (gD a.N.r s.i).fr = s.s := by simpa using hf
     rw [<- hb]; unfold iF; rw [if_neg e2, if_neg e1]
   ·rw [U3 (by omega)] at hb
    refine ⟨λ hx => ?_, λ hx => ?_⟩
    ·have hu : Er a.N a.T s.s = true := by rw [hb] at hx; unfold Er; simpa using hx
     have e : KR a.N a.T (s.s + 1) = [(s.s : Int)] := by rw [QK, if_pos hu, hn]; rfl
     refine ⟨⟨by decide, by decide, by decide, by decide, by decide⟩, s.s + 1, ⟨by rw [e]; rfl, (AL (by omega)).symm, by rw [e]; rfl, λ i hi => ?_⟩, ⟨ha, by omega⟩, by omega⟩
     rw [e] at hi ⊢
     have : i = 0 := by simpa using hi
     subst this; rfl
    ·have hu : Er a.N a.T s.s = false := by rw [hb] at hx; unfold Er; simpa using hx
     have e : KR a.N a.T (s.s + 1) = [] := by rw [QK, hu, hn]; rfl
     exact ⟨s.s + 1, (AL (by omega)).symm, ⟨ha, by omega, e⟩, by omega⟩
  case IB =>
   intro s ⟨_, hs, hm, hi, hb⟩
   have hle := wE a.N a.T s.s
   refine ⟨λ hlt => ?_, λ hge => ?_⟩
   ·have hk : s.i < a.N.r.length := by omega
    have hk2 : s.i < a.T.f.length := by omega
    obtain ⟨_, _, _, hne⟩ := hg.r s.i hk
    rw [wQ hk hk2] at hb
    refine ⟨⟨by omega, hlt⟩, λ ht => ⟨⟨by omega, by omega⟩, ⟨by omega, by omega⟩, λ hf => ?_, λ hf => ⟨⟨s.s, s.i + 1, wr (s.x + gD a.T.f s.i)⟩, ⟨rfl, rfl, rfl, (AL (by omega)).symm, rfl, λ _ _ => rfl⟩, ⟨ha, hs, hm, by show s.i + 1 <= _; omega, ?_⟩, by show _ - (s.i + 1) < _; omega⟩⟩, λ ht => ⟨⟨by omega, by omega⟩, λ hf => ⟨⟨by omega, by omega⟩, ⟨s.s, s.i + 1, wr (s.x - gD a.T.f s.i)⟩, ⟨rfl, rfl, rfl, (AL (by omega)).symm, rfl, λ _ _ => rfl⟩, ⟨ha, hs, hm, by show s.i + 1 <= _; omega, ?_⟩, by show _ - (s.i + 1) < _; omega⟩, λ hf => ⟨⟨s.s, s.i + 1, s.x⟩, ⟨rfl, rfl, rfl, (AL (by omega)).symm, rfl, λ _ _ => rfl⟩, ⟨ha, hs, hm, by show s.i + 1 <= _; omega, ?_⟩, by show _ - (s.i + 1) < _; omega⟩⟩⟩
    ·have e1 : (gD a.N.r s.i).to = s.s := by simpa using ht
     have e2 : (gD a.N.r s.i).fr = s.s := by simpa using hf
     omega
    ·have e1 : (gD a.N.r s.i).to = s.s := by simpa using ht
     have e2 : ¬ (gD a.N.r s.i).fr = s.s := by simpa using hf
     rw [<- hb]; unfold iF; rw [if_neg e2, if_pos e1]
    ·have e1 : ¬ (gD a.N.r s.i).to = s.s := by simpa using ht
     have e2 : (gD a.N.r s.i).fr = s.s := by simpa using hf
     rw [<- hb]; unfold iF; rw [if_pos e2]
    ·have e1 : ¬ (gD a.N.r s.i).to = s.s := by simpa using ht
     have e2 : ¬ (gD a.N.r s.i).fr = s.s := by simpa using hf
     rw [<- hb]; unfold iF; rw [if_neg e2, if_neg e1]
   ·rw [U3 (by omega)] at hb
    refine ⟨λ hx => ?_, λ hx => ?_⟩
    ·have hu : Er a.N a.T s.s = true := by rw [hb] at hx; unfold Er; simpa using hx
     have e : KR a.N a.T (s.s + 1) = KR a.N a.T s.s ++ [(s.s : Int)] := by rw [QK, if_pos hu]
     refine ⟨⟨by decide, by decide, by omega, by omega⟩, s.s + 1, ⟨by rw [e]; simp, (AL (by omega)).symm, by rw [e]; simp, λ i hi => ?_⟩, ⟨ha, by omega⟩, by omega⟩
     rw [e] at hi ⊢
     rw [CP]
     by_cases hi2 : i < (KR a.N a.T s.s).length
     ·simp [hi2]
     ·have : i - (KR a.N a.T s.s).length = 0 := by simp at hi; omega
      simp only [hi2, if_false, decide_false, cond_false, this]; rfl
    ·have hu : Er a.N a.T s.s = false := by rw [hb] at hx; unfold Er; simpa using hx
     have e : KR a.N a.T (s.s + 1) = KR a.N a.T s.s := by rw [QK, hu]; rfl
     exact ⟨s.s + 1, ⟨by rw [e], (AL (by omega)).symm, by rw [e], λ i _ => by rw [e]⟩, ⟨ha, by omega⟩, by omega⟩
  ·have : k = a.N.g.length := by omega
   rw [hbl]; unfold Li; rw [<- this, hkn]; exact ⟨rfl, rfl, ha⟩
 case LB =>
  intro k ⟨_, hk⟩
  refine ⟨λ hlt => ⟨⟨by omega, by omega⟩, ⟨⟨k, 0, gD a.T.t k⟩, ⟨rfl, rfl, rfl, rfl, rfl, λ _ _ => rfl⟩, ha, by show k < _; omega, rfl, Nat.zero_le _, rfl⟩, ?IA, ?IB⟩, λ hge => ?_⟩
  case IA =>
   intro s ⟨⟨_, hs, hm, hi, hb⟩, hn⟩
   refine ⟨λ hlt => ?_, λ hge => ?_⟩
   ·have hk : s.i < a.N.r.length := by omega
    have hk2 : s.i < a.T.f.length := by omega
    obtain ⟨_, _, _, hne⟩ := hg.r s.i hk
    rw [wQ hk hk2] at hb
    refine ⟨⟨by omega, hlt⟩, λ ht => ⟨⟨by omega, by omega⟩, ⟨by omega, by omega⟩, λ hf => ?_, λ hf => ⟨⟨s.s, s.i + 1, wr (s.x + gD a.T.f s.i)⟩, ⟨rfl, rfl, (AL (by omega)).symm⟩, ⟨⟨ha, hs, hm, by show s.i + 1 <= _; omega, ?_⟩, hn⟩, by show _ - (s.i + 1) < _; omega⟩⟩, λ ht => ⟨⟨by omega, by omega⟩, λ hf => ⟨⟨by omega, by omega⟩, ⟨s.s, s.i + 1, wr (s.x - gD a.T.f s.i)⟩, ⟨rfl, rfl, (AL (by omega)).symm⟩, ⟨⟨ha, hs, hm, by show s.i + 1 <= _; omega, ?_⟩, hn⟩, by show _ - (s.i + 1) < _; omega⟩, λ hf => ⟨⟨s.s, s.i + 1, s.x⟩, ⟨rfl, rfl, (AL (by omega)).symm⟩, ⟨⟨ha, hs, hm, by show s.i + 1 <= _; omega, ?_⟩, hn⟩, by show _ - (s.i + 1) < _; omega⟩⟩⟩
    ·have e1 : (gD a.N.r s.i).to = s.s := by simpa using ht
     have e2 : (gD a.N.r s.i).fr = s.s := by simpa using hf
     omega
    ·have e1 : (gD a.N.r s.i).to = s.s := by simpa using ht
     have e2 : ¬ (gD a.N.r s.i).fr = s.s := by simpa using hf
     rw [<- hb]; unfold iF; rw [if_neg e2, if_pos e1]
    ·have e1 : ¬ (gD a.N.r s.i).to = s.s := by simpa using ht
     have e2 : (gD a.N.r s.i).fr = s.s := by simpa using hf
     rw [<- hb]; unfold iF; rw [if_pos e2]
    ·have e1 : ¬ (gD a.N.r s.i).to = s.s := by simpa using ht
     have e2 : ¬ (gD a.N.r s.i).fr = s.s := by simpa using hf
     rw [<- hb]; unfold iF; rw [if_neg e2, if_neg e1]
   ·rw [U3 (by omega)] at hb
    refine ⟨λ hx => ?_, λ hx => ?_⟩
    ·have hu : Er a.N a.T s.s = true := by rw [hb] at hx; unfold Er; simpa using hx
     have e : KR a.N a.T (s.s + 1) = [(s.s : Int)] := by rw [QK, if_pos hu, hn]; rfl
     refine ⟨⟨by decide, by decide, by decide, by decide, by decide⟩, s.s + 1, ⟨by rw [e]; rfl, (AL (by omega)).symm, by rw [e]; rfl, λ i hi => ?_⟩, ⟨ha, by omega⟩, by omega⟩
     rw [e] at hi ⊢
     have : i = 0 := by simpa using hi
     subst this; rfl
    ·have hu : Er a.N a.T s.s = false := by rw [hb] at hx; unfold Er; simpa using hx
     have e : KR a.N a.T (s.s + 1) = [] := by rw [QK, hu, hn]; rfl
     exact ⟨s.s + 1, (AL (by omega)).symm, ⟨ha, by omega, e⟩, by omega⟩
  case IB =>
   intro s ⟨_, hs, hm, hi, hb⟩
   have hle := wE a.N a.T s.s
   refine ⟨λ hlt => ?_, λ hge => ?_⟩
   ·have hk : s.i < a.N.r.length := by omega
    have hk2 : s.i < a.T.f.length := by omega
    obtain ⟨_, _, _, hne⟩ := hg.r s.i hk
    rw [wQ hk hk2] at hb
    refine ⟨⟨by omega, hlt⟩, λ ht => ⟨⟨by omega, by omega⟩, ⟨by omega, by omega⟩, λ hf => ?_, λ hf => ⟨⟨s.s, s.i + 1, wr (s.x + gD a.T.f s.i)⟩, ⟨rfl, rfl, rfl, (AL (by omega)).symm, rfl, λ _ _ => rfl⟩, ⟨ha, hs, hm, by show s.i + 1 <= _; omega, ?_⟩, by show _ - (s.i + 1) < _; omega⟩⟩, λ ht => ⟨⟨by omega, by omega⟩, λ hf => ⟨⟨by omega, by omega⟩, ⟨s.s, s.i + 1, wr (s.x - gD a.T.f s.i)⟩, ⟨rfl, rfl, rfl, (AL (by omega)).symm, rfl, λ _ _ => rfl⟩, ⟨ha, hs, hm, by show s.i + 1 <= _; omega, ?_⟩, by show _ - (s.i + 1) < _; omega⟩, λ hf => ⟨⟨s.s, s.i + 1, s.x⟩, ⟨rfl, rfl, rfl, (AL (by omega)).symm, rfl, λ _ _ => rfl⟩, ⟨ha, hs, hm, by show s.i + 1 <= _; omega, ?_⟩, by show _ - (s.i + 1) < _; omega⟩⟩⟩
    ·have e1 : (gD a.N.r s.i).to = s.s := by simpa using ht
     have e2 : (gD a.N.r s.i).fr = s.s := by simpa using hf
     omega
    ·have e1 : (gD a.N.r s.i).to = s.s := by simpa using ht
     have e2 : ¬ (gD a.N.r s.i).fr = s.s := by simpa using hf
     rw [<- hb]; unfold iF; rw [if_neg e2, if_pos e1]
    ·have e1 : ¬ (gD a.N.r s.i).to = s.s := by simpa using ht
     have e2 : (gD a.N.r s.i).fr = s.s := by simpa using hf
     rw [<- hb]; unfold iF; rw [if_pos e2]
    ·have e1 : ¬ (gD a.N.r s.i).to = s.s := by simpa using ht
     have e2 : ¬ (gD a.N.r s.i).fr = s.s := by simpa using hf
     rw [<- hb]; unfold iF; rw [if_neg e2, if_neg e1]
   ·rw [U3 (by omega)] at hb
    refine ⟨λ hx => ?_, λ hx => ?_⟩
    ·have hu : Er a.N a.T s.s = true := by rw [hb] at hx; unfold Er; simpa using hx
     have e : KR a.N a.T (s.s + 1) = KR a.N a.T s.s ++ [(s.s : Int)] := by rw [QK, if_pos hu]
     refine ⟨⟨by decide, by decide, by omega, by omega⟩, s.s + 1, ⟨by rw [e]; simp, (AL (by omega)).symm, by rw [e]; simp, λ i hi => ?_⟩, ⟨ha, by omega⟩, by omega⟩
     rw [e] at hi ⊢
     rw [CP]
     by_cases hi2 : i < (KR a.N a.T s.s).length
     ·simp [hi2]
     ·have : i - (KR a.N a.T s.s).length = 0 := by simp at hi; omega
      simp only [hi2, if_false, decide_false, cond_false, this]; rfl
    ·have hu : Er a.N a.T s.s = false := by rw [hb] at hx; unfold Er; simpa using hx
     have e : KR a.N a.T (s.s + 1) = KR a.N a.T s.s := by rw [QK, hu]; rfl
     exact ⟨s.s + 1, ⟨by rw [e], (AL (by omega)).symm, by rw [e], λ i _ => by rw [e]⟩, ⟨ha, by omega⟩, by omega⟩
  ·have : k = a.N.g.length := by omega
   rw [hbl]; unfold Li; rw [<- this]
   exact ⟨rfl, Nat.le_refl _, λ _ _ => rfl, ha⟩
theorem ok47 : AH Try.prog 47 (C47.spec d78) := UY C47 A47 [] [203] Try.func47 (λ _ => by kernel_rfl) (λ _ => AA ok83 AE) (λ a h => p47 a h.1 h.2) (λ _ => WR rfl rfl) _
def A46 := ann 16 [(78, C78.spec d78), (79, C79.spec d78)]
def V46 (a : NT) : Prop := BN Try.prog A46 Try.f46 (AF Try.f46) (C47.xs a) (AD []) (C47.val a) [] [] []
abbrev Rg a b:=FI a (OK b)
abbrev Ub a:=HA (AX a)
attribute [go_sem] Rg Ub
theorem vc46 (a : NT) : (V46 a) = (JY (Wo a a (FN (VE a) (λ i=>VT i a i i a i) (SE a) (UZ a) (RP a) (XL a) (And (Ty a) (Vv a)) (Tu a) (Wu a))) (Bg a a) (Rc (RM (Xf a a)) (Jd a a) (Bg a a)) (AP (Wo a a (FN (VE a) (λ i=>VT i a i i a i) (SE a) (UZ a) (RP a) (XL a) (EU (AX a)) (FI (NM a) (Ub a)) (Rg (OM a) (AX a)))) (FH (Xf a a) (iZ (UK a) (KA a))) (KH (Xf a a) (iZ (UK a) (KA a))) (ZG a))) := by kernel_rfl
def P2 (N : NetL) (T : TruthL) : Bool := decide (II N T = 0) && (decide ((Li N T).length = 0) && decide (VV N T = 0))
def Dc (N : NetL) (T : TruthL) : Int := if II N T = 0 then if (Li N T).length = 0 then 0 else 7 else II N T
def gM (N : NetL) (T : TruthL) : Int := if Dc N T = 0 then VV N T else 0
def C48 : Ctr := { C47 with val := λ (a : NT) => .tup [.bool (P2 a.N a.T), .int (II a.N a.T)] }
def d48 : List AVal -> Heap -> Option (C48.α × List (Nat × Nat) × List Nat) := d78
def C42 : Ctr := { C47 with val := λ (a : NT) => .tup [.int (gM a.N a.T), .int (Dc a.N a.T)] }
def d42 : List AVal -> Heap -> Option (C42.α × List (Nat × Nat) × List Nat) := d78
def A48 := ann 24 [(78, C78.spec d78), (79, C79.spec d78), (70, C70.spec d70)]
def V48 (a : NT) : Prop := BN Try.prog A48 Try.f48 (AF Try.f48) (C48.xs a) (AD []) (C48.val a) [] [] []
abbrev zV:=P2
abbrev Ko a b c d:=DW a (λ i=>OD i b) c d
attribute [go_sem] zV Ko
theorem vc48 (a : NT) : (V48 a) = (JY (Wo a a (FN (VE a) (λ i=>VT i a i i a i) (SE a) (UZ a) (RP a) (XL a) (And (Ty a) (Vv a)) (Tu a) (Wu a))) (Bg a a) (Tw (zV (AX a) (PL a)) (Jd a a) (Bg a a)) (AJ (Wo a a (FN (VE a) (λ i=>VT i a i i a i) (SE a) (UZ a) (RP a) (XL a) (EU (AX a)) (And (FI (NM a) (Ub a)) (Rg (OM a) (AX a))) (VB (KS (PS (iZ (UK a) (KA a)))) (Ko (Xx a) (AX a) (VE a) (SH (AG (λ i=>VT i a i i a i)) (SE a) (UZ a) (RP a) (λ i=>FW i (OM a) (UL a)) (Hh (AX a)) (Gj (Ub a)) (FI (NM a) (Ub a)) (Rg (OM a) (AX a))))))) (Gq (zV (AX a) (PL a)) (WO (PS (iZ (UK a) (KA a))) (KS (jC (UK a) (KA a))))) (ZG a))) := by kernel_rfl
def A42 := ann 21 [(78, C78.spec d78), (79, C79.spec d78), (70, C70.spec d70)]
def V42 (a : NT) : Prop := BN Try.prog A42 Try.f42 (AF Try.f42) (C42.xs a) (AD []) (C42.val a) [] [] []
abbrev wU:=gM
abbrev zQ:=Dc
abbrev Ja a (b:Nat->Prop) c d e f:=AJ (DW a b c d) e f
attribute [go_sem] wU zQ Ja
theorem vc42 (a : NT) : (V42 a) = (JY (Wo a a (FN (VE a) (λ i=>VT i a i i a i) (SE a) (UZ a) (RP a) (XL a) (And (Ty a) (Vv a)) (Tu a) (Wu a))) (Bg a a) (Xd (GP (wU (AX a) (PL a))) (zQ (AX a) (PL a)) (Bg a a)) (EG (Wo a a (FN (VE a) (λ i=>VT i a i i a i) (SE a) (UZ a) (RP a) (XL a) (EU (AX a)) (FI (NM a) (Ub a)) (Rg (OM a) (AX a)))) (RU (PS (iZ (UK a) (KA a)))) (Xd (GP (wU (AX a) (PL a))) (zQ (AX a) (PL a)) 7) (Ja (Xx a) (λ i=>OD i (AX a)) (VE a) (SH (AG (λ i=>VT i a i i a i)) (SE a) (UZ a) (RP a) (λ i=>FW i (OM a) (UL a)) (Hh (AX a)) (Gj (Ub a)) (FI (NM a) (Ub a)) (Rg (OM a) (AX a))) (AS (wU (AX a) (PL a)) (jC (UK a) (KA a))) (GP (zQ (AX a) (PL a)))))) := by kernel_rfl
def A40 := ann 26 [(47, C47.spec d78), (59, C59.spec d78)]
def V40 (a : NT) : Prop := BN Try.prog A40 Try.f40 (AF Try.f40) (C48.xs a) (AD []) (C48.val a) [] [] []
abbrev XI a (b:Nat->Prop) c (d:Nat->Prop) e f g h p:=FN a b c (AG d) e f g h p
attribute [go_sem] XI
theorem vc40 (a : NT) : (V40 a) = (JY (Wo a a (FN (VE a) (λ i=>VT i a i i a i) (SE a) (UZ a) (RP a) (XL a) (And (Ty a) (Vv a)) (Tu a) (Wu a))) (Bg a a) (Tw (zV (AX a) (PL a)) (Jd a a) (Bg a a)) (AJ (VB (KS (PS (Zm (UK a) (KA a)))) (XI (Xx a) (λ i=>OD i (AX a)) (VE a) (λ i=>VT i a i i a i) (SE a) (UZ a) (RP a) (XL a) (GP (Bg a a)))) (Gq (zV (AX a) (PL a)) (WO (PS (Zm (UK a) (KA a))) (KS (jC (UK a) (KA a))))) (ZG a))) := by kernel_rfl
def A22 := ann 23 [(47, C47.spec d78), (59, C59.spec d78)]
def V22 (a : NT) : Prop := BN Try.prog A22 Try.f22 (AF Try.f22) (C42.xs a) (AD []) (C42.val a) [] [] []
theorem vc22 (a : NT) : (V22 a) = (JY (Wo a a (FN (VE a) (λ i=>VT i a i i a i) (SE a) (UZ a) (RP a) (XL a) (And (Ty a) (Vv a)) (Tu a) (Wu a))) (Bg a a) (Xd (GP (wU (AX a) (PL a))) (zQ (AX a) (PL a)) (Bg a a)) (IK (RU (PS (Zm (UK a) (KA a)))) (Xd (GP (wU (AX a) (PL a))) (zQ (AX a) (PL a)) 7) (AJ (XI (Xx a) (λ i=>OD i (AX a)) (VE a) (λ i=>VT i a i i a i) (SE a) (UZ a) (RP a) (XL a) (GP (Bg a a))) (AS (wU (AX a) (PL a)) (jC (UK a) (KA a))) (GP (zQ (AX a) (PL a)))))) := by kernel_rfl
theorem p46 (a : NT) (h1 : Ot a.N) (h2 : qE a.T) : V46 a := by
 rw [vc46]<;> simp only [go_sem]; simp only [CC, eq_self, implies_true, forall_const, DL.d1, DL.d2, DL.d7, DL.d8]
 have hz : (II a.N a.T != 0) = false -> II a.N a.T = 0 := λ h => by simpa using h
 have hnz : (II a.N a.T != 0) = true -> II a.N a.T ≠ 0 := λ h => by simpa using h
 refine ⟨⟨h1, h2⟩, λ he => ?_, λ he => ?_⟩
 ·unfold Zm; rw [if_neg (hnz he)]; rfl
 ·have ha := hz he
  obtain ⟨hc, hl, _, _⟩ := Pp ha
  have hbl : Zm a.N a.T = Li a.N a.T := by unfold Zm; rw [if_pos ha]
  rw [hbl]
  exact ⟨⟨hc, hl⟩, rfl, λ _ _ => rfl, ha⟩
theorem p48 (a : NT) (h1 : Ot a.N) (h2 : qE a.T) : V48 a := by
 rw [vc48]<;> simp only [go_sem]; simp only [CC, eq_self, implies_true, forall_const, DL.d1, DL.d2, DL.d7, DL.d8]
 have hz : (II a.N a.T != 0) = false -> II a.N a.T = 0 := λ h => by simpa using h
 have hnz : (II a.N a.T != 0) = true -> II a.N a.T ≠ 0 := λ h => by simpa using h
 refine ⟨⟨h1, h2⟩, λ he => ?_, λ he => ?_⟩
 ·unfold P2; rw [decide_eq_false (hnz he)]; rfl
 ·have ha := hz he
  obtain ⟨hc, hl, _, _⟩ := Pp ha
  have hg := BB hc
  refine ⟨⟨hc, hl, λ _ => ⟨⟨hg.g1, by have := hg.g8; omega⟩, by have := hg.r14; omega, hl⟩⟩, ?_, ha⟩
  unfold P2; rw [decide_eq_true ha]
  by_cases x : (Li a.N a.T).length = 0 <;> by_cases y : VV a.N a.T = 0 <;> simp [x, y] <;> simp_all
theorem p42 (a : NT) (h1 : Ot a.N) (h2 : qE a.T) : V42 a := by
 rw [vc42]<;> simp only [go_sem]; simp only [CC, eq_self, implies_true, forall_const, DL.d1, DL.d2, DL.d7, DL.d8]
 have hz : (II a.N a.T != 0) = false -> II a.N a.T = 0 := λ h => by simpa using h
 have hnz : (II a.N a.T != 0) = true -> II a.N a.T ≠ 0 := λ h => by simpa using h
 refine ⟨⟨h1, h2⟩, λ he => ?_, λ he => ?_⟩
 ·have : Dc a.N a.T = II a.N a.T := by unfold Dc; rw [if_neg (hnz he)]
  exact ⟨by unfold gM; rw [this, if_neg (hnz he)], this⟩
 ·have ha := hz he
  obtain ⟨hc, hl, _, _⟩ := Pp ha
  have hg := BB hc
  refine ⟨⟨hc, hl⟩, λ hu => ?_, λ hu => ⟨⟨⟨hg.g1, by have := hg.g8; omega⟩, by have := hg.r14; omega, hl⟩, ?_⟩⟩
  ·have : Dc a.N a.T = 7 := by unfold Dc; rw [if_pos ha, if_neg (by omega)]
   exact ⟨by unfold gM; rw [this]; rfl, this⟩
  ·have : Dc a.N a.T = 0 := by unfold Dc; rw [if_pos ha, if_pos (by omega)]
   exact ⟨by unfold gM; rw [if_pos this], this⟩
theorem p40 (a : NT) (h1 : Ot a.N) (h2 : qE a.T) : V40 a := by
 rw [vc40]<;> simp only [go_sem]; simp only [CC, eq_self, implies_true, forall_const, DL.d1, DL.d2, DL.d7, DL.d8]
 have hz : (II a.N a.T != 0) = false -> II a.N a.T = 0 := λ h => by simpa using h
 have hnz : (II a.N a.T != 0) = true -> II a.N a.T ≠ 0 := λ h => by simpa using h
 refine ⟨⟨h1, h2⟩, λ he => ?_, λ he => ?_⟩
 ·unfold P2; rw [decide_eq_false (hnz he)]; rfl
 ·have ha := hz he
  have hbl : Zm a.N a.T = Li a.N a.T := by unfold Zm; rw [if_pos ha]
  refine ⟨λ _ => ha, ?_, ha⟩
  rw [hbl]
  unfold P2; rw [decide_eq_true ha]
  by_cases x : (Li a.N a.T).length = 0 <;> by_cases y : VV a.N a.T = 0 <;> simp [x, y] <;> simp_all
theorem p22 (a : NT) (h1 : Ot a.N) (h2 : qE a.T) : V22 a := by
 rw [vc22]<;> simp only [go_sem]; simp only [CC, eq_self, implies_true, forall_const, DL.d1, DL.d2, DL.d7, DL.d8]
 have hz : (II a.N a.T != 0) = false -> II a.N a.T = 0 := λ h => by simpa using h
 have hnz : (II a.N a.T != 0) = true -> II a.N a.T ≠ 0 := λ h => by simpa using h
 refine ⟨⟨h1, h2⟩, λ he => ?_, λ he => ?_⟩
 ·have : Dc a.N a.T = II a.N a.T := by unfold Dc; rw [if_neg (hnz he)]
  exact ⟨by unfold gM; rw [this, if_neg (hnz he)], this⟩
 ·have ha := hz he
  have hbl : Zm a.N a.T = Li a.N a.T := by unfold Zm; rw [if_pos ha]
  rw [hbl]
  refine ⟨λ hu => ?_, λ hu => ⟨ha, ?_⟩⟩
  ·have : Dc a.N a.T = 7 := by unfold Dc; rw [if_pos ha, if_neg (by omega)]
   exact ⟨by unfold gM; rw [this]; rfl, this⟩
  ·have : Dc a.N a.T = 0 := by unfold Dc; rw [if_pos ha, if_pos (by omega)]
   exact ⟨by unfold gM; rw [if_pos this], this⟩
theorem ok46 : AH Try.prog 46 (C47.spec d78) := UY C47 (λ _ => A46) [] [] Try.func46 (λ _ => by kernel_rfl) (λ _ => AA ok78 (AA ok79 AE)) (λ a h => p46 a h.1 h.2) (λ _ => WR rfl rfl) _
theorem ok48 : AH Try.prog 48 (C48.spec d48) := UY C48 (λ _ => A48) [] [] Try.func48 (λ _ => by kernel_rfl) (λ _ => AA ok78 (AA ok79 (AA ok70 AE))) (λ a h => p48 a h.1 h.2) (λ _ => WR rfl rfl) _
theorem ok42 : AH Try.prog 42 (C42.spec d42) := UY C42 (λ _ => A42) [] [] Try.func42 (λ _ => by kernel_rfl) (λ _ => AA ok78 (AA ok79 (AA ok70 AE))) (λ a h => p42 a h.1 h.2) (λ _ => WR rfl rfl) _
theorem ok40 : AH Try.prog 40 (C48.spec d48) := UY C48 (λ _ => A40) [] [] Try.func40 (λ _ => by kernel_rfl) (λ _ => AA ok47 (AA ok59 AE)) (λ a h => p40 a h.1 h.2) (λ _ => WR rfl rfl) _
theorem ok22 : AH Try.prog 22 (C42.spec d42) := UY C42 (λ _ => A22) [] [] Try.func22 (λ _ => by kernel_rfl) (λ _ => AA ok47 (AA ok59 AE)) (λ a h => p22 a h.1 h.2) (λ _ => WR rfl rfl) _
end Go.Bal
