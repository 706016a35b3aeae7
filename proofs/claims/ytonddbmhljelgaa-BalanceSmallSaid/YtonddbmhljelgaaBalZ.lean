/- Balanced, Holds, Cost: the program's and the reference's. -/
import Derived.Test.YtonddbmhljelgaaBalY
set_option linter.unusedVariables false
set_option linter.unusedSimpArgs false
namespace Go.Bal
open Go Go.Sym Go.Proofs
def iF (s : Int) (x : Int) (r : Reach) (f : Int) : Int := if r.fr = s then wr (x - f) else if r.to = s then wr (x + f) else x
def sQ (s : Int) : Int -> List Reach -> List Int -> Int
 | x, r :: l, f :: m => sQ s (iF s x r f) l m
 | x, _, _ => x
def qT (N : NetL) (T : TruthL) (s : Nat) : Int := sQ s (gD T.t s) N.r T.f
def Er (N : NetL) (T : TruthL) (s : Nat) : Bool := !decide (qT N T s = 0)
def KR (N : NetL) (T : TruthL) (k : Nat) : List Int := ((List.range k).filter λ s => Er N T s).map λ (s : Nat) => (s : Int)
def Li (N : NetL) (T : TruthL) : List Int := KR N T N.g.length
def BET (a : NT) : Prop := a.T.f.length = a.N.r.length /\ a.T.t.length = a.N.g.length
def C103 : Ctr := { α := List Int, xs := λ l => [.d (BC l)], L := λ _ => [], val := λ l => .own 0 1 0 l.length, keep := λ l => [(0, pP l.length l)], pre := λ l => [0 < l.length /\ l.length <= 1000] }
def d103 : List AVal -> Heap -> Option (List Int × List (Nat × Nat) × List Nat)
 | [.d (.list _ n g _)], _ => some (NO n λ i => OO (g i), [], [])
 | _, _ => none
def V103 (l : List Int) : Prop := BN Try.prog A69 Try.f103 (AF Try.f103) (C103.xs l) (AD []) (C103.val l) (C103.keep l) [(0, 4032)] []
theorem BRF (l : List Int) : (V103 l) = (And (YN 0 (EA l)) (C7 (Nl (BF (mK SK)) (rY SM l) (KO (EA l)) (AT (EA l)) 8) (FI l (AT (EA l))) (λ i=>Fo i l (ARK l i (Bh i))))) := by kernel_rfl
theorem p103 (l : List Int) (h : 0 < l.length /\ l.length <= 1000) : V103 l := by
 rw [BRF]<;> simp only [go_sem]; simp only [CC, eq_self, implies_true, forall_const]
 exact ⟨h.1, ⟨λ _ => h.1, by omega, by omega⟩, λ _ _ => rfl⟩
theorem BQG : AH Try.prog 103 (C103.spec d103) := UY C103 (λ _ => A69) [(0, 4032)] [] Try.func103 (λ _ => by kernel_rfl) (λ _ => AE) (λ a h => p103 a h) (λ _ => WR rfl rfl) _
def unS (a : NT) (v : AVal) (k : Nat) : List (Nat × AVal) := [(8, v), (47, .own 202 1 0 a.N.g.length), (48, .int a.N.g.length), (49, .int k)]
def unI (a : NT) (s : KL) : Prop := s.l.length = a.N.g.length /\ (∀ i, i < a.N.g.length -> gD s.l i = qT a.N a.T i) /\ s.k <= a.N.g.length
def unB (a : NT) (ag : List (Nat × Nat)) : Shape := { α := KL, dflt := default, T := λ s => ⟨unS a (.own 203 1 0 (KR a.N a.T s.k).length) s.k, [(202, pP a.N.g.length s.l), (203, pP (KR a.N a.T s.k).length (KR a.N a.T s.k))]⟩, inv := λ s => unI a s, meas := λ s => a.N.g.length - s.k, again := ag }
def A79 (a : NT) : Ann := { ann 62 [(103, C103.spec d103)] with mt := λ id => id == 13, loops := λ id => if id = 3 then some [{ α := KL, dflt := default, T := λ s => ⟨[(3, .bptr 201 0), (5, .own 202 1 0 a.N.g.length), (15, .d (HE a.N.r)), (16, .int a.N.r.length), (17, .int s.k)], [(201, truO a.T), (202, pP a.N.g.length s.l)]⟩, inv := λ s => s.l.length = a.N.g.length /\ s.k <= a.N.r.length /\ ∀ i, i < a.N.g.length -> sQ i (gD s.l i) (a.N.r.drop s.k) (a.T.f.drop s.k) = qT a.N a.T i, meas := λ s => a.N.r.length - s.k, first := [(201, 1016), (202, 2032)] }] else if id = 10 then some [{ α := KL, dflt := default, T := λ s => ⟨unS a (.d Gg) s.k, [(202, pP a.N.g.length s.l)]⟩, inv := λ s => unI a s /\ KR a.N a.T s.k = [], meas := λ s => a.N.g.length - s.k }, unB a [(203, 14048)], unB a []] else none }
def C79 : Ctr := { α := NT, xs := λ a => [.d (LW a.N), .d (OG a.T)], L := λ _ => [], val := λ a => .d (BC (Li a.N a.T)), keep := λ _ => [], pre := λ a => [AB a.N = 0, BET a] }
def V79 (a : NT) : Prop := BN Try.prog (A79 a) Try.f79 (AF Try.f79) (C79.xs a) (AD []) (C79.val a) [] [] [203]
abbrev iA:=@List.nil (Prod Nat Nat)
abbrev iZ:=Li
abbrev BFD a b c:=KR (AX a) (PL b) c
abbrev GE a b:=BFD a a b
abbrev KQ a b:=GE a (HP b)
abbrev bG a b:=EA (KQ a b)
abbrev AON a b:=EP a (BV b)
abbrev AFB a b:=kU (ZY a) b
abbrev Si a b (c:Nat->Prop) d e:=MH (AFB a b) c (AON (HP d) e)
abbrev ATD a b c d:=AOR a (BV b) c d
abbrev AVN a b:=qT (AX a) (PL a) b
abbrev Se a b c d e:=ATD a b c (AVN d e)
abbrev AKH a b c d e f g:=AQX a b c d e f a g
abbrev jD a b:=AU (HP a) (HP b)
abbrev E9 a:=(@List.cons (Prod Nat Nat)) ((@Prod.mk Nat Nat) 203 a) iA
abbrev Iu a b:=Ca a (AT b)
abbrev ARW a:=And a a
abbrev ABY a b:=And a (VP b)
abbrev F0 a b:=WC (BV a) b
abbrev AAM a b c:=AS a (AVN b c)
abbrev AAH a b c d e:=sQ a b c (Zk d (Ab e))
abbrev ABW a b:=G1 a (AX b)
abbrev L0 a b:=EP a (HD b)
abbrev AVB a b:=EJ (AX a) b
abbrev iJ a b:=AVB a (HP b)
abbrev Hz a b:=EC (AX a) b
abbrev AUS a b:=GF a (HD b)
abbrev XL a:=KH (OM a) (UL a)
attribute [go_sem] iA iZ BFD GE KQ bG AON AFB Si ATD AVN Se AKH jD E9 Iu ARW ABY F0 AAM AAH ABW L0 AVB iJ Hz AUS XL
theorem vc79 (a : NT) : (V79 a) = (AJ (AP (RP a) (XL a) (KO (kH a)) (Gj (kH a))) (R3 (λ i=>Sk (Xa (ED (BV a) (kH a)) (ZK a) (ZI (Ge a) (GT (HD a)) (AZ (HP i)) a (λ j=>BJ j a) a (λ j=>BI j a) (ED (BV a) (kH a)) (λ j=>Du j (BV a) (ZY i) (OM a)))) (AFB i a) (L0 (HP i) a) (λ j=>HJ j (BV a) (AAM (AAH (BT j) (cW i j) (ABW (HP i) a) (HP i) a) a j)))) (hd84 (λ i=>CG (PY (AFB i a) (L0 (HP i) a) (λ j=>HJ j (BV a) (AAM (AAH (BT j) (cW i j) (ABW (HP i) a) (HP i) a) a j))) (HP i) (HD a) (AP (AUS (HP i) a) (WN (KX (iJ a i) (BV a)) (ON (PA (iJ a i)) (BV a)) (GF (HP i) (QV a)) (YN (PA (iJ a i)) (BV a))) (WN (KX (Hz a (HP i)) (BV a)) (ON (PA (Hz a (HP i))) (BV a)) (GF (HP i) (QV a)) (YN (PA (Hz a (HP i))) (BV a))) (R3 (λ j=>AFN (Xa (SN a) (ZK a) (ZI (Ge a) (GT (HD a)) (jD j i) a (λ k=>BJ k a) a (λ k=>BI k a) (SN a) (λ k=>ATD k a j (PQ k (TR (Hz a (HP i))) (NJ (PQ (PA (Hz a (HP i))) (TR (iJ a i)) (ME (cW i (PA (iJ a i))) (jV a (HP i))) (cW i (PA (Hz a (HP i))))) (jV a (HP i))) (PQ k (TR (iJ a i)) (ME (cW i (PA (iJ a i))) (jV a (HP i))) (cW i k)))))) (PY (AFB j a) (L0 (HP j) a) (λ k=>HJ k (BV a) (AAM (AAH (BT k) (cW j k) (ABW (HP j) a) (HP j) a) a k))) a (HP j) (HP i)))) (AP (R3 (λ j=>AJ (Fl AC BU (Nu (SN a) (Gb a) (AZ (HP j)) (λ k=>Du k (BV a) (ZY j) (ZY i)))) (Si j a (λ k=>Se k a j a k) j a) (VP (KQ a j)))) (hd84 (λ j=>GM (ABY (Si j a (λ k=>Se k a j a k) j a) (KQ a j)) (HP j) (BV a) (Ro (HP j) (BV a)) (UD (Iu (ZY j) (HP j))) (And In (R3 (λ k=>I4 (BF (AKH (Uc (KQ a k)) AC (SN a) (Gb a) (jD k j) (AG (λ l=>Du l (BV a) (ZY k) (ZY j))) (AG (λ l=>FL l (KQ a k) (BT (HP j)))))) (Si k a (λ l=>Se l a k a l) k a) (unB a (E9 14048)) k (F0 a (HP j))))) (R3 (λ k=>CB (Fl AC BU (Nu (SN a) (Gb a) (jD k j) (λ l=>Du l (BV a) (ZY k) (ZY j)))) (ABY (Si k a (λ l=>Se l a k a l) k a) (KQ a k)) (BV a) (HP k) (HP j))) (ARW (RM (iZ (AX a) (PL a)))))) (hd84 (λ j=>GM (Si j a (λ k=>Se k a j a k) j a) (HP j) (BV a) (Ro (HP j) (BV a)) (UD (Iu (ZY j) (HP j))) (And (Qk (cF (KQ a j)) Nx (bG a j) 8) (R3 (λ k=>HL (BF (AKH (Ju (KQ a k) (bG a j)) AC (SN a) (Gb a) (jD k j) (AG (λ l=>Du l (BV a) (ZY k) (ZY j))) (AG (λ l=>FL l (KQ a k) (RR l (bG a j) (KQ a j) l (BT (HP j))))))) (Si k a (λ l=>Se l a k a l) k a) (unB a (E9 14048)) k j))) (R3 (λ k=>Nb (BF (AKH (FH (KQ a k) (KQ a j)) AC (SN a) (Gb a) (jD k j) (AG (λ l=>Du l (BV a) (ZY k) (ZY j))) (KH (KQ a k) (KQ a j)))) (Si k a (λ l=>Se l a k a l) k a) (unB a iA) k (unB a (E9 14048)) j)) (AJ (FH (iZ (AX a) (PL a)) (KQ a j)) (BM (bG a j)) (Dz (iZ (AX a) (PL a)) (KQ a j))))) (hd84 (λ j=>GM (Si j a (λ k=>Se k a j a k) j a) (HP j) (BV a) (Ro (HP j) (BV a)) (UD (Iu (ZY j) (HP j))) (And (Qk (cF (KQ a j)) Nx (bG a j) 8) (R3 (λ k=>Nb (BF (AKH (Ju (KQ a k) (bG a j)) AC (SN a) (Gb a) (jD k j) (AG (λ l=>Du l (BV a) (ZY k) (ZY j))) (AG (λ l=>FL l (KQ a k) (RR l (bG a j) (KQ a j) l (BT (HP j))))))) (Si k a (λ l=>Se l a k a l) k a) (unB a (E9 14048)) k (unB a iA) j))) (R3 (λ k=>HL (BF (AKH (FH (KQ a k) (KQ a j)) AC (SN a) (Gb a) (jD k j) (AG (λ l=>Du l (BV a) (ZY k) (ZY j))) (KH (KQ a k) (KQ a j)))) (Si k a (λ l=>Se l a k a l) k a) (unB a iA) k j)) (AJ (FH (iZ (AX a) (PL a)) (KQ a j)) (BM (bG a j)) (Dz (iZ (AX a) (PL a)) (KQ a j))))))))) := by kernel_rfl
theorem QK (N : NetL) (T : TruthL) (k : Nat) : KR N T (k + 1) = if Er N T k then KR N T k ++ [(k : Int)] else KR N T k := by
 unfold KR
 rw [List.range_succ, List.filter_append, List.map_append]
 by_cases h : Er N T k = true
 ·simp [h]
 ·simp [h]
theorem wE (N : NetL) (T : TruthL) (k : Nat) : (KR N T k).length <= k := by
 unfold KR; rw [List.length_map]; exact Nat.le_trans (List.length_filter_le _ _) (by simp)
theorem BGA (a : NT) (ag : List (Nat × Nat)) (s : KL) : (unB a ag).meas s = a.N.g.length - s.k := rfl
theorem p79 (a : NT) (h1 : AB a.N = 0) (h2 : BET a) : V79 a := by
 rw [vc79]<;> simp only [go_sem]; simp only [CC, eq_self, implies_true, forall_const, BGA, DL.d1, DL.d2, DL.d7, DL.d8]
 have hg := BB h1
 have g1 := hg.g1
 have g8 := hg.g8
 have r14 := hg.r14
 obtain ⟨e1, e2⟩ := h2
 refine ⟨⟨by omega, by omega⟩, ⟨⟨0, a.T.t⟩, ⟨by omega, rfl, by omega, λ _ _ => rfl⟩, e2, Nat.zero_le _, λ i _ => rfl⟩, λ s ⟨q1, q2, q3⟩ => ⟨λ hlt => ?_, λ hge => ⟨⟨⟨0, s.l⟩, ⟨rfl, λ _ _ => rfl⟩, ⟨q1, λ i hi => ?_, Nat.zero_le _⟩, rfl⟩, ?ca, ?cb⟩⟩⟩
 ·have hk : s.k < a.N.r.length := by omega
  obtain ⟨_, hf, ht, hne⟩ := hg.r s.k hk
  have f1 : (gD a.N.r s.k).fr.toNat < a.N.g.length := by omega
  have f2 : (gD a.N.r s.k).to.toNat < a.N.g.length := by omega
  have f3 : (gD a.N.r s.k).to.toNat ≠ (gD a.N.r s.k).fr.toNat := by omega
  refine ⟨⟨by omega, hlt⟩, ⟨hf, f1, ⟨by omega, by omega⟩, hf, f1⟩, ⟨ht, f2, ⟨by omega, by omega⟩, ht, f2⟩, ⟨s.k + 1, (s.l.modify (gD a.N.r s.k).fr.toNat λ x => wr (x - gD a.T.f s.k)).modify (gD a.N.r s.k).to.toNat λ x => wr (x + gD a.T.f s.k)⟩, ⟨(AL (by omega)).symm, λ i hi => ?_⟩, ⟨by simp [q1], by show s.k + 1 <= _; omega, λ i hi => ?_⟩, by show _ - (s.k + 1) < _; omega⟩
  ·show gD ((s.l.modify _ _).modify _ _) i = _
   rw [BD (by simp [q1]; omega), BD (by omega), BD (by omega)]
   simp only [f3, decide_false, cond_false, if_false]
   by_cases x1 : i = (gD a.N.r s.k).to.toNat
   ·subst x1; simp
   ·by_cases x2 : i = (gD a.N.r s.k).fr.toNat
    ·subst x2; simp [x1]
    ·simp [x1, x2]
  ·have := q3 i hi
   rw [JP (l := a.N.r) (by omega), JP (l := a.T.f) (by omega)] at this
   rw [<- this]
   show sQ i (gD ((s.l.modify _ _).modify _ _) i) _ _ = sQ i (iF i (gD s.l i) _ _) _ _
   congr 1
   rw [BD (by simp [q1]; omega), BD (by omega), BD (by omega)]
   unfold iF
   by_cases x1 : i = (gD a.N.r s.k).to.toNat
   ·have y1 : (gD a.N.r s.k).to = i := by omega
    have y2 : ¬ (gD a.N.r s.k).fr = i := by omega
    rw [if_pos x1, if_neg f3, if_neg y2, if_pos y1, x1]
   ·have y1 : ¬ (gD a.N.r s.k).to = i := by omega
    rw [if_neg x1]
    by_cases x2 : i = (gD a.N.r s.k).fr.toNat
    ·have y2 : (gD a.N.r s.k).fr = i := by omega
     rw [if_pos x2, if_pos y2, x2]
    ·have y2 : ¬ (gD a.N.r s.k).fr = i := by omega
     rw [if_neg x2, if_neg y2, if_neg y1]
 ·have := q3 i hi
  rw [List.drop_eq_nil_of_le (by omega)] at this
  rw [<- this]; unfold sQ; rfl
 case ca =>
  intro s ⟨⟨w1, w2, w3⟩, hn⟩
  refine ⟨λ hlt => ⟨⟨⟨by omega, hlt⟩, by omega⟩, λ hb => ?_, λ hb => ?_⟩, λ hge => ?_⟩
  ·have hu : Er a.N a.T s.k = true := by rw [w2 _ (by omega)] at hb; unfold Er; simpa using hb
   have e : KR a.N a.T (s.k + 1) = [(s.k : Int)] := by rw [QK, if_pos hu, hn]; rfl
   refine ⟨⟨by decide, by decide, by decide, by decide, by decide⟩, ⟨s.k + 1, s.l⟩, ⟨by show (KR a.N a.T (s.k + 1)).length = 1; rw [e]; rfl, (AL (by omega)).symm, λ _ _ => rfl, by show (KR a.N a.T (s.k + 1)).length = 1; rw [e]; rfl, λ i hi => ?_⟩, ⟨w1, w2, by show s.k + 1 <= _; omega⟩, by show _ - (s.k + 1) < _; omega⟩
   have hi : i < (KR a.N a.T (s.k + 1)).length := hi
   show gD (KR a.N a.T (s.k + 1)) i = _
   rw [e] at hi ⊢
   have : i = 0 := by simpa using hi
   subst this; rfl
  ·have hu : Er a.N a.T s.k = false := by rw [w2 _ (by omega)] at hb; unfold Er; simpa using hb
   have e : KR a.N a.T (s.k + 1) = [] := by rw [QK, hu, hn]; rfl
   exact ⟨⟨s.k + 1, s.l⟩, ⟨(AL (by omega)).symm, λ _ _ => rfl⟩, ⟨⟨w1, w2, by show s.k + 1 <= _; omega⟩, e⟩, by show _ - (s.k + 1) < _; omega⟩
  ·have : s.k = a.N.g.length := by omega
   unfold Li; rw [<- this, hn]; rfl
 case cb =>
  intro s ⟨w1, w2, w3⟩
  have hle := wE a.N a.T s.k
  refine ⟨λ hlt => ⟨⟨⟨by omega, hlt⟩, by omega⟩, λ hb => ?_, λ hb => ?_⟩, λ hge => ?_⟩
  ·have hu : Er a.N a.T s.k = true := by rw [w2 _ (by omega)] at hb; unfold Er; simpa using hb
   have e : KR a.N a.T (s.k + 1) = KR a.N a.T s.k ++ [(s.k : Int)] := by rw [QK, if_pos hu]
   refine ⟨⟨by decide, by decide, by omega, by omega⟩, ⟨s.k + 1, s.l⟩, ⟨by show (KR a.N a.T (s.k + 1)).length = _; rw [e]; simp, (AL (by omega)).symm, λ _ _ => rfl, by show (KR a.N a.T (s.k + 1)).length = _; rw [e]; simp, λ i hi => ?_⟩, ⟨w1, w2, by show s.k + 1 <= _; omega⟩, by show _ - (s.k + 1) < _; omega⟩
   have hi : i < (KR a.N a.T (s.k + 1)).length := hi
   show gD (KR a.N a.T (s.k + 1)) i = _
   rw [e] at hi ⊢
   rw [CP]
   by_cases hi2 : i < (KR a.N a.T s.k).length
   ·simp [hi2]
   ·have : i - (KR a.N a.T s.k).length = 0 := by simp at hi; omega
    simp only [hi2, if_false, decide_false, cond_false, this]; rfl
  ·have hu : Er a.N a.T s.k = false := by rw [w2 _ (by omega)] at hb; unfold Er; simpa using hb
   have e : KR a.N a.T (s.k + 1) = KR a.N a.T s.k := by rw [QK, hu]; rfl
   exact ⟨⟨s.k + 1, s.l⟩, ⟨by show (KR a.N a.T (s.k + 1)).length = _; rw [e], (AL (by omega)).symm, λ _ _ => rfl, by show (KR a.N a.T (s.k + 1)).length = _; rw [e], λ i _ => by show gD (KR a.N a.T (s.k + 1)) i = _; rw [e]⟩, ⟨w1, w2, by show s.k + 1 <= _; omega⟩, by show _ - (s.k + 1) < _; omega⟩
  ·have : s.k = a.N.g.length := by omega
   unfold Li; rw [<- this]
   exact ⟨rfl, Nat.le_refl _, λ _ _ => rfl⟩
theorem ok79 : AH Try.prog 79 (C79.spec d78) := UY C79 A79 [] [203] Try.func79 (λ _ => by kernel_rfl) (λ _ => AA BQG AE) (λ a h => p79 a h.1 h.2) (λ _ => WR rfl rfl) _
def besM (x : Int) (s : Span) : Int := if x < s.lo then wr (s.lo - x) else if s.hi < x then wr (x - s.hi) else 0
def V88 (x : Int) (s : Span) : Prop := BN Try.prog (ann 21 []) Try.f88 (AF Try.f88) [.int x, .d (OW s)] (AD []) (.int (besM x s)) [] [] []
theorem vc88 (x : Int) (s : Span) : (V88 x s) = (bif decide (x < s.lo) then besM x s = IntKind.i64.wrap (s.lo - x) else bif decide (x > s.hi) then besM x s = IntKind.i64.wrap (x - s.hi) else besM x s = 0) := by
 kernel_rfl
def f88 : List AVal -> Option (AVal × List Prop)
 | [.d (.v (.int .i64 x)), .d (.agg [.v (.int .i64 a), .v (.int .i64 b)])] => some (.int (besM x ⟨a, b⟩), [])
 | _ => none
def s88 := IY f88
theorem p88 (x : Int) (s : Span) : V88 x s := by
 rw [vc88]; unfold besM
 by_cases h1 : x < s.lo <;> by_cases h2 : s.hi < x <;> simp [h1, h2]
theorem ok88 : AH Try.prog 88 s88 := EH λ xs v p h _ => by
 unfold f88 at h; split at h
 ·cases h; exact Pb (A := ann 21 []) (ren := []) (fz := []) Try.func88 (by kernel_rfl) AE (p88 _ ⟨_, _⟩)
 ·cases h
def A59 (a : NT) : Ann := { ann 50 [(88, s88)] with loops := λ id => if id = 3 then some [{ α := AK, dflt := default, T := λ s => ⟨[(2, .bptr 200 0), (3, .bptr 201 0), (5, .int s.acc), (6, .int s.k)], [(200, LF a.N), (201, truO a.T)]⟩, inv := λ s => s.k <= a.N.r.length /\ Ak s.acc ((Ha a.N a.T).drop s.k) = VV a.N a.T, meas := λ s => a.N.r.length - s.k, first := [(200, 1000), (201, 1016)] }] else if id = 7 then some [{ α := AK, dflt := default, T := λ s => ⟨[(2, .bptr 200 0), (3, .bptr 201 0), (5, .int s.acc), (7, .int s.k)], [(200, LF a.N), (201, truO a.T)]⟩, inv := λ s => s.k <= a.N.g.length /\ Ak s.acc ((Ha a.N a.T).drop (a.N.r.length + s.k)) = VV a.N a.T, meas := λ s => a.N.g.length - s.k }] else none }
def C59 : Ctr := { α := NT, xs := λ a => [.d (LW a.N), .d (OG a.T)], L := λ _ => [], val := λ a => .int (VV a.N a.T), keep := λ _ => [], pre := λ a => [II a.N a.T = 0] }
def V59 (a : NT) : Prop := BN Try.prog (A59 a) Try.f59 (AF Try.f59) (C59.xs a) (AD []) (C59.val a) [] [] []
abbrev Tj a b c d:=AJ (And a b) c d
attribute [go_sem] Tj
theorem vc59 (a : NT) : (V59 a) = (And (X5 (λ i=>Tj (GP (Uj i)) (OZ (AZ (GR i)) a a a (λ j=>ND j a) a (λ j=>BJ j a) a (λ j=>BI j a)) (L0 (GR i) a) (AS (Xe i (GR i) (MX a)) (Oe a a)))) (AZM (λ i=>CG (WD (GR i) (HD a) (Xe i (GR i) (MX a)) (Oe a a)) (GR i) (QV a) (And (Sj (GR i) (QV a) (Tg (GR i) (HD a))) (X5 (λ j=>AFN (And (RI (Uj j) (Uj i) (besM (jV a (GR i)) (AKC a (GR i)))) (OZ (AU (GR j) (GR i)) a a a (λ k=>ND k a) a (λ k=>BJ k a) a (λ k=>BI k a))) (WD (GR j) (HD a) (Xe j (GR j) (MX a)) (Oe a a)) a (GR j) (GR i)))) (And (X5 (λ j=>YL (And (AS (Uj j) (Uj i)) (OZ (AZ (GR j)) a a a (λ k=>ND k a) a (λ k=>BJ k a) a (λ k=>BI k a))) (GR j) (BV a) (Xe j (FE a (GR j)) (MX a)) (Oe a a))) (AZM (λ j=>CG (WD (GR j) (BV a) (Xe j (FE a (GR j)) (MX a)) (Oe a a)) (GR j) (YE a) (And (Sj (GR j) (YE a) (Tg (GR j) (BV a))) (X5 (λ k=>Ar (And (RI (Uj k) (Uj j) (besM (eX a (GR j)) (CU (AX a) (GR j)))) (OZ (AU (GR k) (GR j)) a a a (λ l=>ND l a) a (λ l=>BJ l a) a (λ l=>BI l a))) (GR k) (BV a) (Xe k (FE a (GR k)) (MX a)) (Oe a a) (GR j)))) (AS (Oe a a) (Uj j)))))))) := by kernel_rfl
theorem Pp {N : NetL} {T : TruthL} (h : II N T = 0) : AB N = 0 /\ (T.f.length = N.r.length /\ T.t.length = N.g.length) /\ (∀ i, i < T.f.length -> -100000000 <= gD T.f i /\ gD T.f i <= 100000000) /\ ∀ i, i < T.t.length -> -100000000 <= gD T.t i /\ gD T.t i <= 100000000 := by
 unfold II at h
 by_cases hc : AB N = 0
 ·rw [if_pos hc] at h
  split at h
  ·rename_i hl
   split at h
   ·rename_i hb
    simp only [Bool.and_eq_true] at hb
    exact ⟨hc, hl, λ i hi => CV.1 (PE.1 hb.1 i hi), λ i hi => CV.1 (PE.1 hb.2 i hi)⟩
   ·cases h
  ·cases h
 ·rw [if_neg hc] at h; exact absurd h hc
theorem AXX {x : Int} {s : Span} (hx : -100000000 <= x /\ x <= 100000000) (hs : (-1000000 <= s.lo /\ s.lo <= s.hi) /\ s.hi <= 1000000) : besM x s = Yd x s := by
 unfold besM Yd
 rw [FK (n := s.lo - x) (by omega) (by omega), FK (n := x - s.hi) (by omega) (by omega)]
 by_cases h1 : x < s.lo
 ·rw [if_pos h1]; omega
 ·rw [if_neg h1]
  by_cases h2 : s.hi < x
  ·rw [if_pos h2]; omega
  ·rw [if_neg h2]; omega
theorem p59 (a : NT) (h1 : II a.N a.T = 0) : V59 a := by
 rw [vc59]<;> simp only [go_sem]; simp only [CC, eq_self, implies_true, forall_const, DL.d1, DL.d2, DL.d7, DL.d8]
 obtain ⟨hc, ⟨e1, e2⟩, r1, r2⟩ := Pp h1
 have hg := BB hc
 have g8 := hg.g8
 have r14 := hg.r14
 have hcl := AJA a.N a.T
 refine ⟨⟨⟨0, 0⟩, ⟨rfl, rfl⟩, Nat.zero_le _, rfl⟩, λ s ⟨q1, q2⟩ => ⟨λ hlt => ⟨⟨⟨by omega, hlt⟩, by omega, by omega⟩, ⟨⟨_, s.k + 1⟩, ⟨rfl, (AL (by omega)).symm⟩, ⟨by show s.k + 1 <= _; omega, ?_⟩, by show _ - (s.k + 1) < _; omega⟩⟩, λ hge => ⟨⟨⟨s.acc, 0⟩, ⟨rfl, rfl⟩, Nat.zero_le _, ?_⟩, λ q ⟨q3, q4⟩ => ⟨λ hlt => ⟨⟨⟨by omega, hlt⟩, by omega, by omega⟩, ⟨⟨_, q.k + 1⟩, ⟨rfl, (AL (by omega)).symm⟩, ⟨by show q.k + 1 <= _; omega, ?_⟩, by show _ - (q.k + 1) < _; omega⟩⟩, λ hge => ?_⟩⟩⟩⟩
 ·have hk : s.k < a.N.r.length := by omega
  rw [JP (by omega), AGR hk] at q2
  rw [AXX (r1 _ (by omega)) (hg.r _ hk).1]; exact q2
 ·rw [show s.k = a.N.r.length by omega] at q2; exact q2
 ·have hk : q.k < a.N.g.length := by omega
  rw [JP (by omega), Y4 hk] at q4
  rw [AXX (r2 _ (by omega)) (hg.g _ hk)]; exact q4
 ·rw [List.drop_eq_nil_of_le (by omega)] at q4; exact q4.symm
theorem ok59 : AH Try.prog 59 (C59.spec d78) := UY C59 A59 [] [] Try.func59 (λ _ => by kernel_rfl) (λ _ => AA ok88 AE) (λ a h => p59 a h) (λ _ => WR rfl rfl) _
end Go.Bal
