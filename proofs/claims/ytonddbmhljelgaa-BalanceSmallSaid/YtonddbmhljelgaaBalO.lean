/- Package balance: Group. -/
import Derived.Test.YtonddbmhljelgaaBalL
set_option linter.unusedVariables false
set_option linter.unusedSimpArgs false
namespace Go.Bal
open Go Go.Sym Go.Proofs
structure NGr where
 N : NetL
 st : List Int
structure SL where
 last : Int
 k : Nat
 deriving Inhabited
structure GK where
 all : List Way
 k : Nat
 total : Int
 deriving Inhabited
def grpBad (n : Nat) : Int -> List Int -> Bool
 | _, [] => false
 | last, s :: l => !inM s (wr (last + 1)) (wr ((n : Int) - 1)) || grpBad n s l
def MT (out nR : Nat) : List Int -> List Way -> Int -> List Way × Int
 | [], all, t => (all, t)
 | s :: l, all, t => MT out nR l (all.modify (wr (nR + s)).toNat λ w => { w with fr := wr (out + 1) }) (wr (t + (gD all (wr (nR + s)).toNat).now))
def GH (d : Desk) (st : List Int) : Desk := ⟨(MT d.out d.nR st d.all 0).1 ++ [⟨d.out, wr (d.out + 1), ⟨-100000000, 100000000⟩, (MT d.out d.nR st d.all 0).2⟩], d.out, d.nR⟩
def To (a : NGr) : Span := (JM (GH (AI a.N) a.st) (AI a.N).all.length).getD default
def A35 (a : NGr) : Ann := { ann 129 [(44, s44), (62, s62), (73, C73.spec fT), (75, C75.spec Zi), (74, C74.spec dDI)] with mt := λ id => id == 27, loops := λ id => if id = 4 then some [{ α := SL, dflt := default, T := λ s => ⟨[(1, .d (BC a.st)), (2, .bptr 200 0), (4, .bptr 201 0), (6, .int 0), (7, .int s.last), (19, .d (BC a.st)), (20, .int a.st.length), (21, .int s.k)], [(200, LF a.N), (201, .live (.box [.int 0, .int 0]))]⟩, inv := λ s => s.k <= a.st.length /\ grpBad a.N.g.length s.last (a.st.drop s.k) = false, meas := λ s => a.st.length - s.k, first := [(200, 1000), (201, 1016)] }] else if id = 21 then some [{ α := GK, dflt := default, T := λ s => ⟨[(4, .bptr 201 0), (10, .bptr 301 0), (11, .int (wr ((AI a.N).out + 1))), (12, .int (AI a.N).all.length), (13, .int s.total), (74, .d (BC a.st)), (75, .int a.st.length), (76, .int s.k)], [(201, .live (.box [.int 0, .int 0])), (301, .live (B5 (Desk.mk s.all (AI a.N).out (AI a.N).nR) 302)), (302, .live (zK (Desk.mk s.all (AI a.N).out (AI a.N).nR)))]⟩, inv := λ s => s.k <= a.st.length /\ s.all.length = (AI a.N).all.length /\ MT (AI a.N).out (AI a.N).nR (a.st.drop s.k) s.all s.total = MT (AI a.N).out (AI a.N).nR a.st (AI a.N).all 0, meas := λ s => a.st.length - s.k, first := [(301, 18016), (302, 18017)] }] else none }
def xs35 (a : NGr) : List AVal := [.d (LW a.N), .d (BC a.st)]
def C35 : Ctr := { α := NGr, xs := xs35, L := λ _ => [], val := λ a => .tup [.d (OW (To a)), .int 0], keep := λ _ => [], pre := λ a => [AB a.N = 0, (BH a.N).isSome = true, ¬ 0 < EV a.N, grpBad a.N.g.length (-1) a.st = false, 0 < a.st.length /\ a.st.length <= 1000000, (JM (GH (AI a.N) a.st) (AI a.N).all.length).isSome = true] }
def V35 (a : NGr) : Prop := BN Try.prog (A35 a) Try.f35 (AF Try.f35) (C35.xs a) (AD (C35.L a)) (C35.val a) (C35.keep a) [] []
abbrev DZ:=NGr.N
abbrev AXT:=@Exists SL
abbrev TH:=NGr.st
abbrev wD:=SL.last
abbrev WZ:=SL.k
abbrev qR:=GK.total
abbrev Px:=GK.k
abbrev QR:=GK.all
abbrev BCH:=@Eq (Prod (List Way) Int)
abbrev ADI:=MT
abbrev AQS:=@List.cons DVal
abbrev BFM:=@List.nil DVal
abbrev Ad a:=CI (DZ a)
abbrev Mi a:=FQ (Ad a)
abbrev AOH a (b:Nat->DVal):=(@NO Way) a (λ i=>dWay (b i))
abbrev ALZ a (b:Nat->Way) (c:Nat->DVal) d:=wR a (λ i=>eWay (b i)) c d
abbrev AWA a b c:=AQS a (AQS b c)
abbrev AOA a:=DVal.v (jW a)
abbrev AGJ a:=Me (Ad a)
abbrev vC a:=wr (hd29 (AGJ a) 1)
abbrev AOS a b c d:=lC (AQS (Sym.elemOf (AQS (AOA (AGJ a)) (AWA (AOA (vC b)) (ofV (jW (-100000000))) (AWA (ofV (jW 100000000)) (AOA (qR c)) BFM)))) BFM) (AT d)
abbrev fC a b:=QN (QR a) b
abbrev Ij a:=Oi ZH a
abbrev ALD a b:=fC a (Ij b)
abbrev AXH a b:=WC (Mi a) b
abbrev Ie a:=AXH a ZH
abbrev AEM a:=UQ (Ie a)
abbrev VC a b c d e f:=AOH (AEM a) (λ i=>ALZ (Ie b) (λ j=>ALD c j) (λ j=>AOS d e f j) i)
abbrev fS a:=AXH a 0
abbrev Ob a b:=IS (QR a) b
abbrev HS a:=EA (TH a)
abbrev fP a:=MP (Ad a)
abbrev rT a:=Sx (Ad a)
abbrev Nk a b:=Zk a (TH b)
abbrev On a b c d:=BG a b b c d
abbrev Io a b:=NJ (BT a) b
abbrev Sp a b:=Ca (TH a) b
abbrev Bd a b c:=Io (fP a) (Sp b (Px c))
abbrev dA a:=GT (HS a)
abbrev UF a:=Cz (TH a)
abbrev qK a b:=hd62 a b b
abbrev JK a:=ER (DZ a)
abbrev Dg a:=IF (DZ a)
abbrev IE a:=AY (DZ a)
abbrev ACA a b c d e f g h:=IW a b c d a e f g h
abbrev Zd a b c d:=BG a b c d d
abbrev Aq a:=DX (DZ a)
abbrev Co a:=CA (DZ a)
abbrev Im a b:=ABD (IE a) (DZ b)
abbrev TO a:=DU (IE a)
abbrev Ql a:=AG (λ i=>NV i a)
abbrev vQ a:=Ql (TH a)
abbrev Rn a b c d:=inM (Ca a b) c d
abbrev WY a:=ME a 1
abbrev Ap a:=WY (BT a)
attribute [go_sem] DZ AXT TH wD WZ qR Px QR BCH ADI AQS BFM Ad Mi AOH ALZ AWA AOA AGJ vC AOS fC Ij ALD AXH Ie AEM VC fS Ob HS fP rT Nk On Io Sp Bd dA UF qK JK Dg IE ACA Zd Aq Co Im TO Ql vQ Rn WY Ap
theorem vc35 (a : NGr) : (V35 a) = (AJ (Xj (IE a) (DZ a)) (AXT (λ i=>Hn (And (UF a) (ACA (vQ a) (AS 0 (rR (IE a) (DZ a))) (Fs (wD i)) (UF a) (dA a) (AZ (WZ i)) (TO a) (Zd (Im a a) (Co a) (Aq a) BX))) (WZ i) (HS a) (PG (grpBad (IE a) (wD i) (Nk (WZ i) a))))) ((λ (f : SL -> Prop) => ∀ (x : SL), f x) (λ i=>GM (Vg (WZ i) (HS a) (PG (grpBad (IE a) (wD i) (Nk (WZ i) a)))) (WZ i) (HS a) (GF (WZ i) (HS a)) (WO 0 (not (Rn (TH a) (WZ i) (NJ (wD i) 1) (Ap (IE a))))) (AXT (λ j=>CB (And (UF a) (ACA (vQ a) (nJ 2) (AS (wD j) (Sp a (WZ i))) (UF a) (dA a) (AU (WZ j) (WZ i)) (TO a) (Zd (Im a a) (Co a) (Aq a) BX))) (Vg (WZ j) (HS a) (PG (grpBad (IE a) (wD j) (Nk (WZ j) a)))) (HS a) (WZ j) (WZ i))) (AXT (λ j=>CB (And (UF a) (ACA (vQ a) BX (AS (wD j) (Sp a (WZ i))) (UF a) (dA a) (AU (WZ j) (WZ i)) (TO a) (Zd (Im a a) (Co a) (Aq a) BX))) (Vg (WZ j) (HS a) (PG (grpBad (IE a) (wD j) (Nk (WZ j) a)))) (HS a) (WZ j) (WZ i))) (IK (WO 0 (KS (BT (HS a)))) (AJ (MB (To a) 0) (MF (To a) 0) (nJ 2)) (AP (sJ (My (DZ a) (IE a)) (DZ a) (EF (DE (DZ a)) (λ j=>HW j (DZ a)) (EU (DZ a)) (oP (Dg a)) (Qb (tW 0 (gP (Dg a)))))) (BF (YW (JK a) (λ j=>GZ j (JK a) (GU (JK a) j) (EN (JK a) j) (FG (JK a) j) (JU (JK a) j) (FJ (JK a) j) (IT (JK a) j) (EY (JK a) j)) (λ j=>KV j (JK a) (MO (JK a) j) (FG (JK a) j) (EN (JK a) j) (FJ (JK a) j) (JU (JK a) j) (EY (JK a) j) (IT (JK a) j)) (KO (RG (JK a))) (Gj (RG (JK a))))) ((@Exists GK) (λ j=>AP (AJ (RI (vC a) (Me (JK a)) 1) (EQ (Mi a) (RG (JK a))) (FR (GP (qR j)) (UF a) (λ k=>NV k (TH a)) (dA a) (On (AZ (Px j)) BX AC (Bl (Uh (QR j) (RG (JK a))) (Ad a) (Sx (JK a)) (fP a) (MP (JK a)) (λ k=>JL k (QR j) (NS (QR j) k (vM (JK a) k)) (HT (QR j) k) (EN (JK a) k) (Ob j k) (JU (JK a) k) (fC j k) (IT (JK a) k)))))) (EP (Px j) (HS a)) (LH (QR j) (Ad a)) (BCH (ADI (rT a) (fP a) (Nk (Px j) a) (QR j) (qR j)) (ADI (rT a) (fP a) (TH a) (xM (Ad a)) 0)))) ((λ (f : GK -> Prop) => ∀ (x : GK), f x) (λ j=>CG (AJ (EP (Px j) (HS a)) (LH (QR j) (Ad a)) (BCH (ADI (rT a) (fP a) (Nk (Px j) a) (QR j) (qR j)) (ADI (rT a) (fP a) (TH a) (xM (Ad a)) 0))) (Px j) (HS a) (hZ (GF (Px j) (HS a)) (cO (Bd a a j) (QR j)) (YN (PA (Bd a a j)) (ZT (QR j))) ((@Exists GK) (λ k=>CB (AJ (AR (vC a)) (GT (Mi a)) (FR (RI (qR k) (qR j) (qK (K7 (PA (Bd a a j)) (PA (Bd a a j))) (Xb (fC j (PA (Bd a a j)))))) (UF a) (λ l=>NV l (TH a)) (dA a) (On (AU (Px k) (Px j)) BX AC (VO (KU (QR k) (QR j)) (Ad a) (AG (λ l=>ZC l (ZT (QR k)) (NS (QR k) l (PQ l (TR (Bd a a j)) (vC a) (SY (QR j) l))) (HT (QR k) l) (PQ l (TR (Bd a a j)) (HT (QR j) (PA (Bd a a j))) (HT (QR j) l)) (MB (Ob k l) (Qw l (TR (Bd a a j)) (Ob j (PA (Bd a a j))) (Ob j l))) (MF (Ob k l) (Tb l (TR (Bd a a j)) (Ob j (PA (Bd a a j))) (Ob j l))) (fC k l) (PQ l (TR (Bd a a j)) (Xb (fC j (PA (Bd a a j)))) (Xb (fC j l))))))))) (AJ (EP (Px k) (HS a)) (LH (QR k) (Ad a)) (BCH (ADI (rT a) (fP a) (Nk (Px k) a) (QR k) (qR k)) (ADI (rT a) (fP a) (TH a) (xM (Ad a)) 0))) (HS a) (Px k) (Px j)))) (BG (And (BG E5 (Ft (Mi a)) (GT (Mi a)) (bX (BT (Mi a)) (BT (ZT (QR j)))) (AKJ (ZT (QR j)))) (ALO (Sr SM (fS a) 5) iW AAD (UQ (fS a)) (UQ (fS a)) 40)) (AP (GT (Mi a)) AC (Uh (VC a a j a a j) (AEM a)) (Jq (OT (Ad a)) (Ad a) (Uh (VC a a j a a j) (AEM a)) (λ k=>ZC k (ZT (AOH (UQ (fS a)) (λ l=>ALZ (fS a) (λ m=>fC j (AT m)) (λ m=>AOS a a j m) l))) (NS (VC a a j a a j) k (HV k (Ie a) (SY (QR j) (Ij k)) (AGJ a))) (HT (VC a a j a a j) k) (HV k (Ie a) (HT (QR j) (Ij k)) (vC a)) (MB (IS (VC a a j a a j) k) (Nv k (Ie a) (Ob j (Ij k)) (-100000000))) (MF (IS (VC a a j a a j) k) (Mj k (Ie a) (Ob j (Ij k)) 100000000)) (QN (VC a a j a a j) k) (HV k (Ie a) (Xb (ALD j k)) (qR j))) (ZN (ED (AEM a) (ZT (VC a a j a a j))) (OT (Ad a)) (Ad a) (λ k=>ATR k (UQ (fS a)) (AS (HV k (Ie a) (SY (QR j) (Ij k)) (AGJ a)) (SY (VC a a j a a j) k)) (HV k (Ie a) (HT (QR j) (Ij k)) (vC a)) (HT (VC a a j a a j) k) (AS (Nv k (Ie a) (Ob j (Ij k)) (-100000000)) (Ou (IS (VC a a j a a j) k))) (AS (Mj k (Ie a) (Ob j (Ij k)) 100000000) (Ok (IS (VC a a j a a j) k))) (AS (HV k (Ie a) (Xb (ALD j k)) (qR j)) (Xb (QN (VC a a j a a j) k)))) (Em (VC a a j a a j) (Ad a)) (GF (Mi a) (ZT (AOH (UQ (fS a)) (λ k=>ALZ (fS a) (λ l=>fC j (AT l)) (λ l=>AOS a a j l) k)))) (LY (N9 (tB (Gy (VC a a j a a j) (Ad a)) (Mi a))))))) (RY (To a) (uN (tB (Gy (VC a a j a a j) (Ad a)) (Mi a)))) (WA (To a) (uN (tB (Gy (VC a a j a a j) (Ad a)) (Mi a)))) BX)))))))) := by kernel_rfl
theorem BJK (all : List Way) (n : Nat) (hn : all.length = n) (o g lo hi t : Int) : NO (n - Int.toNat 0 + 1) (λ i => dWay (wR (n - Int.toNat 0) (λ i => eWay (gD all (Int.toNat 0 + i))) (λ i => lC [Sym.elemOf [DVal.v (Value.int IntKind.i64 o), DVal.v (Value.int IntKind.i64 g), ofV (Value.int IntKind.i64 lo), ofV (Value.int IntKind.i64 hi), DVal.v (Value.int IntKind.i64 t)]] i) i)) = all ++ [(⟨o, g, ⟨lo, hi⟩, t⟩ : Way)] := by
 subst hn
 apply Jc
 ·simp
 ·intro i hi
  simp only [rng_length] at hi
  rw [CO _ _ _ hi, CP]
  simp only [wR, TC, Int.toNat_zero, Nat.zero_add, Nat.sub_zero]
  by_cases h : i < all.length
  ·rw [if_pos h]; simp [h]
  ·have : i = all.length := by simp at hi; omega
   subst this
   rw [if_neg h]; simp only [h, decide_false, cond_false, Nat.sub_self]; rfl
theorem sO (out nR : Nat) : ∀ (l : List Int) (all : List Way) (t : Int), (MT out nR l all t).1.length = all.length
 | [], _, _ => rfl
 | s :: l, all, t => by simp only [MT]; rw [sO]; simp
theorem O6 (out nR : Nat) (ho : out <= 8) : ∀ (l : List Int) (all : List Way) (t : Int), (∀ i, i < all.length -> (0 <= (gD all i).fr /\ (gD all i).fr < out + 2) /\ 0 <= (gD all i).to /\ (gD all i).to < out + 2) ->
  ∀ i, i < all.length -> (0 <= (gD (MT out nR l all t).1 i).fr /\ (gD (MT out nR l all t).1 i).fr < out + 2) /\ 0 <= (gD (MT out nR l all t).1 i).to /\ (gD (MT out nR l all t).1 i).to < out + 2
 | [], _, _, h, i, hi => h i hi
 | s :: l, all, t, h, i, hi => by
  simp only [MT]
  refine O6 out nR ho l _ _ (λ j hj => ?_) i (by simpa using hi)
  have hj : j < all.length := by simpa using hj
  by_cases hb : (wr (nR + s)).toNat < all.length
  ·rw [BD hb]
   split
   ·have e : wr ((out : Int) + 1) = out + 1 := FK (by omega) (by omega)
    obtain ⟨_, h2⟩ := h _ hb
    exact ⟨⟨by show 0 <= wr _; rw [e]; omega, by show wr _ < _; rw [e]; omega⟩, h2⟩
   ·exact h j hj
  ·have : all.modify (wr (nR + s)).toNat (λ w => { w with fr := wr (out + 1) }) = all := by
    apply List.ext_getElem?; intro q; rw [List.getElem?_modify]
    by_cases hq : (wr (nR + s)).toNat = q
    ·subst hq; rw [List.getElem?_eq_none (by omega)]; rfl
    ·simp [hq]
   rw [this]; exact h j hj
theorem AIN {d : Desk} (h : d.ok) (hl : d.all.length <= 22) (st : List Int) : (GH d st).ok := by
 have ho := h.out
 have hX : (GH d st).all = (MT d.out d.nR st d.all 0).1 ++ [(⟨d.out, wr (d.out + 1), ⟨-100000000, 100000000⟩, (MT d.out d.nR st d.all 0).2⟩ : Way)] := rfl
 have hO : (GH d st).out = d.out := rfl
 have hR : (GH d st).nR = d.nR := rfl
 have hL : (GH d st).all.length = d.all.length + 1 := by rw [hX, List.length_append, sO]; rfl
 refine ⟨by rw [hO]; exact h.out, by rw [hL]; omega, by rw [hL, hO, hR]; have := h.cut; omega, λ i hi => ?_⟩
 rw [hL] at hi
 rw [hX, hO, CP, sO]
 split
 ·rename_i hlt; exact O6 d.out d.nR ho st d.all 0 h.ends i hlt
 ·have : i = d.all.length := by omega
  subst this
  have e : wr ((d.out : Int) + 1) = d.out + 1 := FK (by omega) (by omega)
  rw [Nat.sub_self, e]
  show (0 <= (d.out : Int) /\ (d.out : Int) < d.out + 2) /\ 0 <= (d.out : Int) + 1 /\ (d.out : Int) + 1 < d.out + 2
  omega
theorem AJG {n : Nat} (hn : 1 <= n /\ n <= 8) : ∀ {l : List Int} {last : Int}, -1 <= last -> last <= 100 -> grpBad n last l = false -> ∀ i, i < l.length -> 0 <= gD l i /\ gD l i < n
 | [], _, _, _, _, i, hi => by simp at hi
 | s :: l, last, h0, h1, h, i, hi => by
  simp only [grpBad, Bool.or_eq_false_iff, Bool.not_eq_false'] at h
  obtain ⟨h2, h3⟩ := h
  have h2 := CV.1 h2
  rw [FK (n := last + 1) (by omega) (by omega), FK (n := (n : Int) - 1) (by omega) (by omega)] at h2
  cases i with
  | zero => show 0 <= s /\ s < n; omega
  | succ i => exact AJG hn (by omega) (by omega) h3 i (by simpa using hi)
theorem p35 (a : NGr) (h1 : AB a.N = 0) (h2 : (BH a.N).isSome = true) (h3 : ¬ 0 < EV a.N) (h4 : grpBad a.N.g.length (-1) a.st = false) (h5 : 0 < a.st.length /\ a.st.length <= 1000000) (h6 : (JM (GH (AI a.N) a.st) (AI a.N).all.length).isSome = true) : V35 a := by
 obtain ⟨l1, l2, l3⟩ := VX h2
 have hg := BB h1
 have g1 := hg.g1
 have g8 := hg.g8
 have r14 := hg.r14
 have hok := wT h1 h2
 have hgok := AIN hok (by omega) a.st
 have hin := AJG ⟨g1, g8⟩ (by omega) (by omega) h4
 rw [vc35]<;> simp only [go_sem]; simp only [CC, eq_self, implies_true, forall_const, DL.d6, DL.d7, DL.d8, XW, h1]
 refine ⟨⟨⟨-1, 0⟩, ⟨rfl, rfl⟩, Nat.zero_le _, h4⟩, λ s ⟨q1, q2⟩ => ⟨λ hlt => ⟨⟨by omega, hlt⟩, λ hc => ?_, λ hc => ?_⟩, λ hge => ⟨λ hc => ?_, λ hc => ⟨⟨h2, h3⟩, ⟨by omega, by omega⟩, ⟨⟨(AI a.N).all, 0, 0⟩, ⟨rfl, rfl, rfl, rfl, λ _ _ => ⟨rfl, rfl, rfl, rfl, rfl⟩⟩, Nat.zero_le _, rfl, rfl⟩, λ s ⟨q3, q4, q5⟩ => ⟨λ hlt => ?_, λ hge => ?_⟩⟩⟩⟩⟩
 ·rw [JP (by omega)] at q2
  simp only [grpBad, Bool.or_eq_false_iff, Bool.not_eq_false'] at q2
  have hc : (!inM (gD a.st s.k) (wr (s.last + 1)) (wr ((a.N.g.length : Int) - 1))) = true := hc
  rw [q2.1] at hc; cases hc
 ·rw [JP (by omega)] at q2
  simp only [grpBad, Bool.or_eq_false_iff, Bool.not_eq_false'] at q2
  exact ⟨⟨gD a.st s.k, s.k + 1⟩, ⟨rfl, (AL (by omega)).symm⟩, ⟨by show s.k + 1 <= _; omega, q2.2⟩, by show _ - (s.k + 1) < _; omega⟩
 ·have hc : ((a.st.length : Int) == 0) = true := hc
  have : (a.st.length : Int) = 0 := by simpa using hc
  omega
 ·have hk : s.k < a.st.length := by omega
  obtain ⟨i1, i2⟩ := hin s.k hk
  have e : wr (((AI a.N).nR : Int) + gD a.st s.k) = (AI a.N).nR + gD a.st s.k := FK (by omega) (by omega)
  have e' : IntKind.i64.wrap (((AI a.N).nR : Int) + gD a.st s.k) = (AI a.N).nR + gD a.st s.k := e
  rw [JP hk] at q5
  simp only [MT, e] at q5
  simp only [e']
  have hb : ((AI a.N).nR + gD a.st s.k).toNat < s.all.length := by omega
  refine ⟨⟨by omega, hlt⟩, ⟨by omega, by omega⟩, hb, hb, ⟨s.all.modify ((AI a.N).nR + gD a.st s.k).toNat (λ w => { w with fr := wr ((AI a.N).out + 1) }), s.k + 1, wr (s.total + (gD s.all ((AI a.N).nR + gD a.st s.k).toNat).now)⟩, ⟨?_, (AL (by omega)).symm, ?_, ?_, λ i hi => ?_⟩, ⟨by show s.k + 1 <= _; omega, ?_, q5⟩, by show _ - (s.k + 1) < _; omega⟩
  ·simp
  ·simp
  ·simp
  ·simp only
   rw [BD hb]
   by_cases he : i = ((AI a.N).nR + gD a.st s.k).toNat
   ·simp [he]
   ·simp [he]
  ·simpa using q4
 ·have hk : s.k = a.st.length := by omega
  rw [hk, List.drop_eq_nil_of_le (Nat.le_refl _)] at q5
  have q5 : (s.all, s.total) = MT (AI a.N).out (AI a.N).nR a.st (AI a.N).all 0 := q5
  have hgd : Desk.mk (s.all ++ [(⟨(AI a.N).out, wr ((AI a.N).out + 1), ⟨-100000000, 100000000⟩, s.total⟩ : Way)]) (AI a.N).out (AI a.N).nR = GH (AI a.N) a.st := by
   unfold GH; rw [<- q5]
  have hgi : ∀ i, i < (AI a.N).all.length - 0 + 1 -> gD (s.all ++ [(⟨(AI a.N).out, wr ((AI a.N).out + 1), ⟨-100000000, 100000000⟩, s.total⟩ : Way)]) i = if i < (AI a.N).all.length then gD s.all i else ⟨(AI a.N).out, wr ((AI a.N).out + 1), ⟨-100000000, 100000000⟩, s.total⟩ := λ i hi => by
   rw [CP, q4]
   split
   ·rfl
   ·have : i = (AI a.N).all.length := by omega
    subst this; rw [Nat.sub_self]; rfl
  rw [BJK s.all _ q4]
  have hgi' := hgi
  simp only [hgd] at hgi' ⊢
  refine ⟨⟨⟨by omega, by omega, by omega, Nat.le_refl _⟩, by omega, by omega, by omega, by omega⟩, ⟨λ i hi => ?_, λ i hi => ?_, hgok, ⟨by omega, by omega⟩, h6⟩, ?_⟩
  ·rw [hgi i hi]
   by_cases h : i < (AI a.N).all.length
   ·simp [h]
   ·simp [h]
  ·rw [hgi i hi]
   by_cases h : i < (AI a.N).all.length
   ·simp [h]
   ·simp [h]
  ·exact ⟨rfl, rfl⟩
def d35 : List AVal -> Heap -> Option (NGr × List (Nat × Nat) × List Nat)
 | [.d x, .d (.list _ n g _)], _ => match Tf x with
  | some N => some (⟨N, NO n λ i => OO (g i)⟩, [], [])
  | none => none
 | [.d x, .own id _ _ n], H => match Tf x, H id with
  | some N, .live (.row _ _ g) => some (⟨N, NO n λ i => OO (g i)⟩, [], [id])
  | _, _ => none
 | _, _ => none
theorem ok35 : AH Try.prog 35 (C35.spec d35) := UY C35 A35 [] [] Try.func35 (λ _ => by kernel_rfl) (λ _ => AA R7 (AA ok62 (AA ok73 (AA ok75 (AA ok74 AE))))) (λ a h => p35 a h.1 h.2.1 h.2.2.1 h.2.2.2.1 h.2.2.2.2.1 h.2.2.2.2.2) (λ _ => WR rfl rfl) _
end Go.Bal

namespace Go.Bal
open Go Go.Sym Go.Proofs
def AZJ : List AVal -> Heap -> Option (List Int × List (Nat × Nat) × List Nat)
 | [.d (.list _ n g _), .fn _ _ []], _ => some (NO n λ i => OO (g i), [], [])
 | _, _ => none
def AJS : List AVal -> Heap -> Option (List Int × List (Nat × Nat) × List Nat)
 | [.d (.list _ n g _), .fn _ _ [.bptr id _]], _ => some (NO n λ i => OO (g i), [(100, id)], [])
 | _, _ => none
def BCD : List AVal -> Heap -> Option (Int × List (Nat × Nat) × List Nat)
 | [.d d, .bptr id _], _ => some (OO d, [(100, id)], [])
 | _, _ => none
theorem AJZ {l : List Int} {a b : Int} : (!decide (0 <= gO (λ i => !inM (gD l i) a b) l.length 0)) = XT (λ i => inM (gD l i) a b) l.length := AGP
def V61 (x : Int) : Prop := BN Try.prog (ann 5 [(62, s62)]) Try.f61 (AF Try.f61) [.int x] (AD []) (.bool (inM x (-1) 1)) [] [] []
theorem vc61 (x : Int) : (V61 x) = (QS (inM x (-1) 1)) := by kernel_rfl
def f61 : List AVal -> Option (AVal × List Prop)
 | [.d (.v (.int .i64 x))] => some (.bool (inM x (-1) 1), [])
 | _ => none
def s61 := IY f61
theorem ok61 : AH Try.prog 61 s61 := EH λ xs v p h _ => by
 unfold f61 at h; split at h
 ·cases h; exact Pb (A := ann 5 [(62, s62)]) (ren := []) (fz := []) Try.func61 (by kernel_rfl) (AA ok62 AE) (by show V61 _; rw [vc61]<;> simp only [go_sem])
 ·cases h
def Bc61 : AObj := .box [.fn (.func 61) [] []]
def C90c61 : Ctr := { ro := [100], α := Int, xs := λ x => [.int x, .bptr 100 0], L := λ _ => [(100, Bc61)], val := λ x => .bool (!inM x (-1) 1), keep := λ _ => [(100, .live Bc61)] }
def BFK := { ann 8 [(61, s61)] with E := [100] }
def BIE (x : Int) : Prop := BN Try.prog BFK Try.f90 (AF Try.f90) (C90c61.xs x) (AD (C90c61.L x)) (C90c61.val x) (C90c61.keep x) [] []
abbrev Ew a b c:=not (inM a b c)
abbrev Ws a:=Ew a (-1) 1
attribute [go_sem] Ew Ws
theorem BJY (x : Int) : (BIE x) = (QS (Ws x)) := by kernel_rfl
theorem BOJ (x : Int) : BIE x := by rw [BJY]<;> simp only [go_sem]
theorem BKA : AH Try.prog 90 (C90c61.spec BCD) := Ctr.spec_ok (C := C90c61) (λ (x : Int) _ => Pb (A := BFK) (ren := []) (fz := []) Try.func90 (by kernel_rfl) (AA ok61 AE) (BOJ x)) _
def BFO (l : List Int) : Ann := { ann 19 [(90, C90c61.spec BCD)] with E := [100], loops := λ id => if id = 2 then some [{ α := Nat, dflt := 0, T := λ k => ⟨[(0, .d (BC l)), (1, .fn (.func 90) [] [.bptr 100 0]), (7, .int l.length), (8, .int k)], [(100, .live Bc61)]⟩, inv := λ k => k <= l.length /\ gO (λ i => !inM (gD l i) (-1) 1) l.length 0 = gO (λ i => !inM (gD l i) (-1) 1) (l.length - k) k, meas := λ k => l.length - k }] else none }
def C95c61 : Ctr := { ro := [100], α := List Int, xs := λ l => [.d (BC l), .fn (.func 90) [] [.bptr 100 0]], L := λ _ => [(100, Bc61)], val := λ l => .int (gO (λ i => !inM (gD l i) (-1) 1) l.length 0), keep := λ _ => [(100, .live Bc61)], pre := λ l => [decide (l.length < 4611686018427387904) = true] }
def BJC (l : List Int) : Prop := BN Try.prog (BFO l) Try.f95 (AF Try.f95) (C95c61.xs l) (AD (C95c61.L l)) (C95c61.val l) (C95c61.keep l) [] []
abbrev Hv (a:Nat->Bool) b:=Kp a (EA b)
abbrev TP a b:=Rn a b (-1) 1
abbrev G3 a b c:=DW (Cz a) (λ i=>NV i a) b c
attribute [go_sem] Hv TP G3
theorem BKQ (l : List Int) : (BJC l) = (PV (λ i=>YL (G3 l (uF l) (AZ i)) i (EA l) (Hv (λ j=>TP l j) l) (Hl (λ j=>TP l j) (EA l) i i)) (λ i=>GM (WD i (EA l) (Hv (λ j=>TP l j) l) (Hl (λ j=>TP l j) (EA l) i i)) i (EA l) (Ax i (EA l) (AR (Ca l i))) (not (TP l i)) (AS (Hv (λ j=>TP l j) l) (BT i)) (IJ (λ j=>Ar (G3 l (uF l) (AU j i)) j (EA l) (Hv (λ k=>TP l k) l) (Hl (λ k=>TP l k) (EA l) j j) i)) (Fs (Hv (λ j=>TP l j) l)))) := by kernel_rfl
theorem BOG (l : List Int) (h : l.length < 4611686018427387904) : BJC l := by
 rw [BKQ]<;> simp only [go_sem]
 simp only [CC, eq_self, implies_true, forall_const]
 refine ⟨⟨0, rfl, Nat.zero_le _, rfl⟩, λ k ⟨h1, h2⟩ => ⟨λ hlt => ?_, λ hge => ?_⟩⟩
 ·have hlt : k < l.length := by omega
  refine ⟨⟨by omega, by omega⟩, λ hp => ?_, λ hp => ⟨k + 1, (AL (by omega)).symm, ⟨by omega, ?_⟩, by omega⟩⟩
  ·rw [h2]; exact lH hlt (by simpa using hp)
  ·rw [h2]; exact ADE hlt (by simpa using hp)
 ·rw [h2]; exact zU (by omega)
theorem BJW : AH Try.prog 95 (C95c61.spec AJS) := UY C95c61 BFO [] [] Try.func95 (λ _ => by kernel_rfl) (λ _ => AA BKA AE) (λ a h => BOG a (of_decide_eq_true h)) (λ _ => WR rfl rfl) _
def C89c61 : Ctr := { C95c61 with val := λ (l : List Int) => .bool (decide (gO (λ i => !inM (gD l i) (-1) 1) l.length 0 >= 0)) }
def ASN : List AVal -> Heap -> Option (C89c61.α × List (Nat × Nat) × List Nat) := AJS
def BJF := { ann 9 [(95, C95c61.spec AJS)] with E := [100] }
def BEH (l : List Int) : Prop := BN Try.prog BJF Try.f89 (AF Try.f89) (C89c61.xs l) (AD (C89c61.L l)) (C89c61.val l) (C89c61.keep l) [] []
abbrev HQ a:=Dd (EA a) a
abbrev QX a:=EA (HQ a)
abbrev FW a b c:=Fo a b (AJF b a c)
abbrev FH a b:=FI a (EA b)
abbrev DB a:=FH (HQ a) a
attribute [go_sem] HQ QX FW FH DB
theorem BKL (l : List Int) : (BEH l) = (And (MH (DB l) (λ i=>FW i (HQ l) l) (Sm (QX l))) (Gq (AFH (Hv (λ i=>TP l i) l)) (Xu (λ i=>TP (HQ l) i) (QX l)))) := by kernel_rfl
theorem BOM (l : List Int) (h : l.length < 4611686018427387904) : BEH l := by
 rw [BKL]<;> simp only [go_sem]; simp [h, Sq]
theorem BLP : AH Try.prog 89 (C89c61.spec ASN) := Ctr.spec_ok (C := C89c61) (λ (l : List Int) h => Pb (A := BJF) (ren := []) (fz := []) Try.func89 (by kernel_rfl) (AA BJW AE) (BOM l (of_decide_eq_true h))) _
def BGF := ann 9 [(89, C89c61.spec ASN)]
def C64c61 : Ctr := { α := List Int, xs := λ l => [.d (BC l), .fn (.func 61) [] []], L := λ _ => [], val := λ l => .bool (XT (λ i => inM (gD l i) (-1) 1) l.length), keep := λ _ => [], pre := λ l => [decide (l.length < 4611686018427387904) = true] }
def BJP (l : List Int) : Prop := BN Try.prog BGF Try.f64 (AF Try.f64) (C64c61.xs l) (AD []) (C64c61.val l) [] [] []
theorem BLN (l : List Int) : (BJP l) = (And (MH (DB l) (λ i=>FW i (HQ l) l) (Sm (QX l))) (Gq (Q7 (λ i=>TP l i) (EA l)) (not (Xu (λ i=>TP (HQ l) i) (QX l))))) := by kernel_rfl
theorem BNH (l : List Int) (h : l.length < 4611686018427387904) : BJP l := by
 rw [BLN]<;> simp only [go_sem]; simp only [CC, eq_self, implies_true, forall_const, ge_iff_le, AJZ, h]
theorem AYH : AH Try.prog 64 (C64c61.spec AZJ) := Ctr.spec_ok (C := C64c61) (λ (l : List Int) h => Pb (A := BGF) (L := []) (keep := []) (ren := []) (fz := []) Try.func64 (by kernel_rfl) (AA BLP AE) (BNH l (of_decide_eq_true h))) _
def V102 (x : Int) : Prop := BN Try.prog (ann 5 [(62, s62)]) Try.f102 (AF Try.f102) [.int x] (AD []) (.bool (inM x (-100000000) 100000000)) [] [] []
theorem BQO (x : Int) : (V102 x) = (QS (inM x (-100000000) 100000000)) := by kernel_rfl
def f102 : List AVal -> Option (AVal × List Prop)
 | [.d (.v (.int .i64 x))] => some (.bool (inM x (-100000000) 100000000), [])
 | _ => none
def s102 := IY f102
theorem BPW : AH Try.prog 102 s102 := EH λ xs v p h _ => by
 unfold f102 at h; split at h
 ·cases h; exact Pb (A := ann 5 [(62, s62)]) (ren := []) (fz := []) Try.func102 (by kernel_rfl) (AA ok62 AE) (by show V102 _; rw [BQO]<;> simp only [go_sem])
 ·cases h
def ARG : AObj := .box [.fn (.func 102) [] []]
def C90c102 : Ctr := { ro := [100], α := Int, xs := λ x => [.int x, .bptr 100 0], L := λ _ => [(100, ARG)], val := λ x => .bool (!inM x (-100000000) 100000000), keep := λ _ => [(100, .live ARG)] }
def AYW := { ann 8 [(102, s102)] with E := [100] }
def AYA (x : Int) : Prop := BN Try.prog AYW Try.f90 (AF Try.f90) (C90c102.xs x) (AD (C90c102.L x)) (C90c102.val x) (C90c102.keep x) [] []
theorem BFZ (x : Int) : (AYA x) = (QS (Ew x (-100000000) 100000000)) := by kernel_rfl
theorem BKY (x : Int) : AYA x := by rw [BFZ]<;> simp only [go_sem]
theorem BIU : AH Try.prog 90 (C90c102.spec BCD) := Ctr.spec_ok (C := C90c102) (λ (x : Int) _ => Pb (A := AYW) (ren := []) (fz := []) Try.func90 (by kernel_rfl) (AA BPW AE) (BKY x)) _
def AYN (l : List Int) : Ann := { ann 19 [(90, C90c102.spec BCD)] with E := [100], loops := λ id => if id = 2 then some [{ α := Nat, dflt := 0, T := λ k => ⟨[(0, .d (BC l)), (1, .fn (.func 90) [] [.bptr 100 0]), (7, .int l.length), (8, .int k)], [(100, .live ARG)]⟩, inv := λ k => k <= l.length /\ gO (λ i => !inM (gD l i) (-100000000) 100000000) l.length 0 = gO (λ i => !inM (gD l i) (-100000000) 100000000) (l.length - k) k, meas := λ k => l.length - k }] else none }
def C95c102 : Ctr := { ro := [100], α := List Int, xs := λ l => [.d (BC l), .fn (.func 90) [] [.bptr 100 0]], L := λ _ => [(100, ARG)], val := λ l => .int (gO (λ i => !inM (gD l i) (-100000000) 100000000) l.length 0), keep := λ _ => [(100, .live ARG)], pre := λ l => [decide (l.length < 4611686018427387904) = true] }
def AYX (l : List Int) : Prop := BN Try.prog (AYN l) Try.f95 (AF Try.f95) (C95c102.xs l) (AD (C95c102.L l)) (C95c102.val l) (C95c102.keep l) [] []
abbrev QF a b:=Rn a b (-100000000) 100000000
attribute [go_sem] QF
theorem BGL (l : List Int) : (AYX l) = (PV (λ i=>YL (G3 l (uF l) (AZ i)) i (EA l) (Hv (λ j=>QF l j) l) (Hl (λ j=>QF l j) (EA l) i i)) (λ i=>GM (WD i (EA l) (Hv (λ j=>QF l j) l) (Hl (λ j=>QF l j) (EA l) i i)) i (EA l) (Ax i (EA l) (AR (Ca l i))) (not (QF l i)) (AS (Hv (λ j=>QF l j) l) (BT i)) (IJ (λ j=>Ar (G3 l (uF l) (AU j i)) j (EA l) (Hv (λ k=>QF l k) l) (Hl (λ k=>QF l k) (EA l) j j) i)) (Fs (Hv (λ j=>QF l j) l)))) := by kernel_rfl
theorem BLK (l : List Int) (h : l.length < 4611686018427387904) : AYX l := by
 rw [BGL]<;> simp only [go_sem]
 simp only [CC, eq_self, implies_true, forall_const]
 refine ⟨⟨0, rfl, Nat.zero_le _, rfl⟩, λ k ⟨h1, h2⟩ => ⟨λ hlt => ?_, λ hge => ?_⟩⟩
 ·have hlt : k < l.length := by omega
  refine ⟨⟨by omega, by omega⟩, λ hp => ?_, λ hp => ⟨k + 1, (AL (by omega)).symm, ⟨by omega, ?_⟩, by omega⟩⟩
  ·rw [h2]; exact lH hlt (by simpa using hp)
  ·rw [h2]; exact ADE hlt (by simpa using hp)
 ·rw [h2]; exact zU (by omega)
theorem BEX : AH Try.prog 95 (C95c102.spec AJS) := UY C95c102 AYN [] [] Try.func95 (λ _ => by kernel_rfl) (λ _ => AA BIU AE) (λ a h => BLK a (of_decide_eq_true h)) (λ _ => WR rfl rfl) _
def C89c102 : Ctr := { C95c102 with val := λ (l : List Int) => .bool (decide (gO (λ i => !inM (gD l i) (-100000000) 100000000) l.length 0 >= 0)) }
def AJJ : List AVal -> Heap -> Option (C89c102.α × List (Nat × Nat) × List Nat) := AJS
def AXW := { ann 9 [(95, C95c102.spec AJS)] with E := [100] }
def AZC (l : List Int) : Prop := BN Try.prog AXW Try.f89 (AF Try.f89) (C89c102.xs l) (AD (C89c102.L l)) (C89c102.val l) (C89c102.keep l) [] []
theorem BEO (l : List Int) : (AZC l) = (And (MH (DB l) (λ i=>FW i (HQ l) l) (Sm (QX l))) (Gq (AFH (Hv (λ i=>QF l i) l)) (Xu (λ i=>QF (HQ l) i) (QX l)))) := by kernel_rfl
theorem BJV (l : List Int) (h : l.length < 4611686018427387904) : AZC l := by
 rw [BEO]<;> simp only [go_sem]; simp [h, Sq]
theorem BFQ : AH Try.prog 89 (C89c102.spec AJJ) := Ctr.spec_ok (C := C89c102) (λ (l : List Int) h => Pb (A := AXW) (ren := []) (fz := []) Try.func89 (by kernel_rfl) (AA BEX AE) (BJV l (of_decide_eq_true h))) _
def BAJ := ann 9 [(89, C89c102.spec AJJ)]
def C64c102 : Ctr := { α := List Int, xs := λ l => [.d (BC l), .fn (.func 102) [] []], L := λ _ => [], val := λ l => .bool (XT (λ i => inM (gD l i) (-100000000) 100000000) l.length), keep := λ _ => [], pre := λ l => [decide (l.length < 4611686018427387904) = true] }
def AZQ (l : List Int) : Prop := BN Try.prog BAJ Try.f64 (AF Try.f64) (C64c102.xs l) (AD []) (C64c102.val l) [] [] []
theorem BEL (l : List Int) : (AZQ l) = (And (MH (DB l) (λ i=>FW i (HQ l) l) (Sm (QX l))) (Gq (Q7 (λ i=>QF l i) (EA l)) (not (Xu (λ i=>QF (HQ l) i) (QX l))))) := by kernel_rfl
theorem BLG (l : List Int) (h : l.length < 4611686018427387904) : AZQ l := by
 rw [BEL]<;> simp only [go_sem]; simp only [CC, eq_self, implies_true, forall_const, ge_iff_le, AJZ, h]
theorem BJT : AH Try.prog 64 (C64c102.spec AZJ) := Ctr.spec_ok (C := C64c102) (λ (l : List Int) h => Pb (A := BAJ) (L := []) (keep := []) (ren := []) (fz := []) Try.func64 (by kernel_rfl) (AA BFQ AE) (BLG l (of_decide_eq_true h))) _
end Go.Bal
