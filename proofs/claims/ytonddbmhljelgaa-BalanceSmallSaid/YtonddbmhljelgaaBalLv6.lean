/- The reference: Reach2, Group. -/
import Derived.Test.YtonddbmhljelgaaBalLv5
set_option linter.unusedVariables false
set_option linter.unusedSimpArgs false
namespace Go.Bal
open Go Go.Sym Go.Proofs
def J5 (a : NRF) : Int := if AB a.N = 0 then if inM a.r 0 (a.N.r.length - 1) then if nV a.N = 0 then if inM a.f (gD (rspF a.N) a.r.toNat).lo (gD (rspF a.N) a.r.toNat).hi then 0 else 5 else nV a.N else 2 else AB a.N
def C39 : Ctr := { α := NRF, xs := xs38, val := λ a => .int (J5 a), pre := λ a => [a.N.g.length <= 1000000 /\ a.N.r.length <= 1000000] }
def V39 (a : NRF) : Prop := BN Try.prog (ann 43 [(45, C45.spec fT), (60, s60), (36, C36.spec dN)]) Try.f39 (AF Try.f39) (C39.xs a) (AD []) (C39.val a) (C39.keep a) [] []
theorem vc39 (a : NRF) : (V39 a) = (JY (SC (NL a) (RV (NL a)) (VM (NL a))) (QU (NL a)) (AS (J5 a) (QU (NL a))) (IK (Ew (Cs a) 0 (Ap (AM (NL a)))) (AS (J5 a) 2) (JY (SC (NL a) (RV (NL a)) (VM (NL a))) (Hd (Cf a)) (AS (J5 a) (Hd (Cf a))) (EG (AJ (KX (Cs a) (LC (Qp (Cf a)))) (IV (Cs a)) (NX (Cs a) (LC (Qp (Cf a))))) (Ew (NRF.f a) (Ou (ES (Qp (Cf a)) (AJO a))) (Ok (ES (Qp (Cf a)) (AJO a)))) (AS (J5 a) 5) (GP (J5 a)))))) := by kernel_rfl
def Mw (n : Nat) (st : List Int) (k : Nat) : List Bool := (List.range n).map λ (j : Nat) => decide ((j : Int) ∈ st.take k)
def Ng (g : Nat) : Int := 2 * (g : Int) - 1
def gsA (a : NGr) (q : Int) : LvA := ⟨a.N, Mw a.N.g.length a.st a.st.length, q⟩
def Yj (a : NGr) (q : Int) : List (List Int) := BZ (gsA a q) a.N.g.length
def gsP (a : NGr) (q : Int) (k : Nat) : Int := Pr ⟨a.N, gD (Yj a q) k, Mw a.N.g.length a.st a.st.length, q, -1⟩ a.N.g.length
def gsM (a : NGr) : Nat -> Span
  | 0 => ⟨-100000000, 100000000⟩
  | g + 1 => ZM (gsM a g) (λ _ => Ng g) (gsP a (Ng g)) (Yj a (Ng g)).length
structure GrI where
  g : Nat
  k : Nat
  deriving Inhabited
def gsK (a : NGr) (x : GrI) : Span := ZM (gsM a x.g) (λ _ => Ng x.g) (gsP a (Ng x.g)) x.k
def BRO (n : Nat) (b : List Bool) : HCell := .live (.row 1 n λ i => xP (gD b i))
def grH (a : NGr) : List (Nat × HCell) := [(203, LF a.N), (207, spO ⟨0, 0⟩)]
def gr18 (a : NGr) (g : Nat) : List (Nat × AVal) := [(2, .bptr 203 0), (4, .bptr 207 0), (7, .d (XU (Mw a.N.g.length a.st a.st.length))), (10, .bptr 206 0), (11, .int (Ng g))]
def grI0 (a : NGr) : Prop := AB a.N = 0 /\ Grp a.N.g.length a.st /\ a.st.length ≠ 0 /\ NZ a.N = 0
def A41 (a : NGr) : Ann := { ann 99 [(45, C45.spec fT), (60, s60), (76, C76.spec dN), (53, C53.spec d53), (54, C54.spec d54), (71, s71)] with cutIn := λ gs id => if id = 11 then some [{ α := One, dflt := default, T := λ _ => ⟨[(1, .d (BC a.st)), (2, .bptr 203 0), (4, .bptr 207 0), (7, .d (XU (Mw a.N.g.length a.st a.st.length)))], grH a⟩, inv := λ _ => AB a.N = 0 /\ Grp a.N.g.length a.st, meas := λ _ => 0, ffz := [204] }] else none, loops := λ id => if id = 6 then some [{ α := Nat, dflt := 0, T := λ i => ⟨[(1, .d (BC a.st)), (2, .bptr 203 0), (4, .bptr 207 0), (7, .own 204 1 0 a.N.g.length), (8, .int i)], grH a ++ [(204, BRO a.N.g.length (Mw a.N.g.length a.st i))]⟩, inv := λ i => AB a.N = 0 /\ i <= a.st.length /\ Grp a.N.g.length (a.st.take i), meas := λ i => a.st.length - i, first := [(203, 1000), (204, 5048), (207, 1016)] }] else if id = 18 then some [{ α := Nat, dflt := 0, T := λ g => ⟨gr18 a g, grH a ++ [(206, spO (gsM a g))]⟩, inv := λ g => grI0 a /\ g <= 2, meas := λ g => 2 - g, first := [(206, 17016)] }] else none, inner := λ gs id => if id = 22 then some [{ α := GrI, dflt := default, T := λ x => ⟨gr18 a x.g ++ [(12, .d (eLL (Yj a (Ng x.g)))), (13, .int x.k)], grH a ++ [(206, spO (gsK a x))]⟩, inv := λ x => grI0 a /\ x.g < 2 /\ 2 - x.g = gs.getD 0 0 /\ x.k <= (Yj a (Ng x.g)).length, meas := λ x => (Yj a (Ng x.g)).length - x.k }] else none }
def grR (a : NGr) : Int := if AB a.N = 0 then if grpBad a.N.g.length (-1) a.st = true ∨ a.st.length = 0 then 2 else nV a.N else AB a.N
def grV (a : NGr) : Span := if grR a = 0 then gsM a 2 else ⟨0, 0⟩
def C41 : Ctr := { α := NGr, xs := xs35, val := λ a => .tup [.d (OW (grV a)), .int (grR a)], pre := λ a => [a.N.g.length <= 1000000 /\ a.N.r.length <= 1000000, a.st.length <= 1000000] }
def V41 (a : NGr) : Prop := BN Try.prog (A41 a) Try.f41 (AF Try.f41) (C41.xs a) (AD []) (C41.val a) (C41.keep a) [] []
abbrev AQO:=@List.take Int
abbrev gX:=Ng
abbrev Q4:=@Ne Nat
abbrev P5:=GrI.g
abbrev Ly:=GrI.k
abbrev iH a:=XJ (DZ a)
abbrev G2 a b:=Grp (IE a) b
abbrev Vs a b:=G2 a (TH b)
abbrev Kc a:=LD (DZ a)
abbrev Ml a:=gX (P5 a)
abbrev vS a b c:=Mw (IE a) (TH b) c
abbrev lI a:=vS a a (HS a)
abbrev Ay a:=Ls (lI a)
abbrev ANE a b:=Yj a (Ml b)
abbrev En a b:=ABQ (ANE a b)
abbrev I8 a b:=Ti (lI a) b
abbrev Dy a b:=qM (Ay a) (λ i=>I8 b i)
abbrev Wz a b c:=AGV (ANE a b) c
attribute [go_sem] AQO gX Q4 P5 Ly iH G2 Vs Kc Ml vS lI Ay ANE En I8 Dy Wz
theorem vc41 (a : NGr) : (V41 a) = (JY (L5 (My (DZ a) (IE a)) (DZ a) (DZ a) (RV (DZ a)) (VM (DZ a))) (QU (DZ a)) (AJ (MB (grV a) 0) (MF (grV a) 0) (AS (grR a) (QU (DZ a)))) (AJ (AP (Ft (IE a)) (GT (IE a)) (Ci (BT (IE a))) (Bw (iN fV (IE a)))) (PV (λ i=>OE (FN (UF a) (λ j=>NV j (TH a)) AC (TO a) (AZ i) (TO a) (Im a a) (Co a) (On (Aq a) BX (TO a) (AG (λ j=>HJ j (IE a) (PG (Ti (vS a a i) j)))))) (Kc a) i (HS a) (G2 a (AQO i (TH a)))) (λ i=>GM (Hn (Kc a) i (HS a) (G2 a (AQO i (TH a)))) i (HS a) (Dq i (HS a) (aV (not (not (Rn (TH a) i 0 (Ap (IE a))))) (RU (BT i)) (GF i (HS a))) (aV (not (not (Rn (TH a) i 0 (Ap (IE a))))) (RU (BT i)) (KX (Ap i) (HS a)))) (Cj (not (Rn (TH a) i 0 (Ap (IE a)))) (RU (BT i)) (hd4 (Sp a i) (Lh (TH a) (Ap i)))) (AJ (MB (grV a) 0) (MF (grV a) 0) (AS (grR a) 2)) (VA (Dq i (HS a) (KX (Sp a i) (IE a)) (YN (PA (Sp a i)) (IE a))) (λ j=>CB (FN (UF a) (λ k=>NV k (TH a)) AC (TO a) (AU j i) (TO a) (Im a a) (Co a) (On (Aq a) BX (TO a) (AG (λ k=>D3 k (IE a) (vS a a j) k (WS (K7 k (PA (Sp a i))) (Ti (vS a a i) k)))))) (Hn (Kc a) j (HS a) (G2 a (AQO j (TH a)))) (HS a) j i)) (Zc (λ j=>AJ (MH (UF a) (λ k=>NV k (TH a)) (FR (ED (Ay a) (IE a)) (BM (IE a)) (λ k=>AND k (Ay a) (I8 a k) (Ti (vS a a i) (AT k))) (TO a) (Zd (Im a a) (Co a) (Aq a) BX))) (Kc a) (Vs a a))))) (Va (λ i=>Bj (Kc a) (Vs a a) (IK (KS (BT (HS a))) (AJ (MB (grV a) 0) (MF (grV a) 0) (AS (grR a) 2)) (JY (L5 (My (DZ a) (IE a)) (DZ a) (DZ a) (RV (DZ a)) (VM (DZ a))) (Hd (Dg a)) (AJ (MB (grV a) 0) (MF (grV a) 0) (AS (grR a) (Hd (Dg a)))) (PV (λ j=>VR (Xo (Ay a) (λ k=>kX k (Ay a) (lI a)) (FR (Fs (gX j)) (TO a) (λ k=>D4 k (IE a) (DZ a)) (Co a) (On (Aq a) BX (MB (gsM a j) (-100000000)) (MF (gsM a j) 100000000)))) (AP (Kc a) (Vs a a) (Q4 (HS a) 0) (iH a)) j 2) (λ j=>VK (JH (Kc a) (Vs a a) (Q4 (HS a) 0) (iH a) (EP j 2)) (IK (hd4 (gX j) 1) (AJ (sJ (My (DZ a) (IE a)) (DZ a) (XI (DE (DZ a)) (λ k=>HW k (DZ a)) (ED (Ls (Dy a a)) (Ay a)) (λ k=>D3 k (Ls (Dy a a)) (Dy a a) k (I8 a k)) (AR (gX j)) (EU (DZ a)) (Pw (Ls (Dy a a)) (DZ a)) (bX (-1) (gX j)) (bX (gX j) 1))) ((@Exists GrI) (λ k=>L4 (And (DU (Ay a)) (IP (AG (λ l=>kX l (Ay a) (lI a))) (AS (Ml k) (gX j)) (ED (En a k) (Fz (N0 (Dg a) (Dy a a) (gX j)) (OK (DZ a)))) (λ l=>fB l (En a k) (Wz a k l) (Mr (N0 (Dg a) (Dy a a) (gX j)) (OK (DZ a)) l)) (AZ (Ly k)) (TO a) (Im a a) (Co a) (On (Aq a) BX (RY (gsK a k) (gsM a j)) (WA (gsK a k) (gsM a j))))) (AP (Kc a) (Vs a a) (Q4 (HS a) 0) (iH a)) (P5 k) 2 (C3 2 j Gv) (Ly k) (En a k))) ((λ (f : GrI -> Prop) => ∀ (x : GrI), f x) (λ k=>CG (Nq (AP (Kc a) (Vs a a) (Q4 (HS a) 0) (iH a)) (ON (P5 k) 2) (Tp 2 (P5 k) (C3 2 j Gv)) (Ly k) (En a k)) (Ly k) (En a k) (And (Ax (Ly k) (En a k) (ALP (My (DZ a) (IE a)) (DZ a) (DZ a) (DZ a) (IP (DB (Wz a k (Ly k))) (DN (Wz a k (Ly k))) (ED (Ls (Dy a a)) (Ay a)) (λ l=>D3 l (Ls (Dy a a)) (Dy a a) l (I8 a l)) (AR (Ml k)) (AS (-1) (Int.negSucc 0)) (EU (DZ a)) (Rg (HQ (Wz a k (Ly k))) (DZ a)) (Pw (Ls (Dy a a)) (DZ a))))) ((@Exists GrI) (λ l=>oJ (And (DU (Ay a)) (IP (AG (λ m=>kX m (Ay a) (lI a))) (AS (Ml l) (Ml k)) (ED (En a l) (En a k)) (λ m=>fB m (En a l) (Wz a l m) (Wz a k m)) (AU (Ly l) (Ly k)) (TO a) (Im a a) (Co a) (On (Aq a) BX (RY (gsK a l) (Zb (gsK a k) (Ml k) (I6 (Dg a) (HQ (Wz a k (Ly k))) (Dy a a) (Ml k) (-1) (OK (DZ a))))) (WA (gsK a l) (Zb (gsK a k) (Ml k) (I6 (Dg a) (HQ (Wz a k (Ly k))) (Dy a a) (Ml k) (-1) (OK (DZ a)))))))) (Nq (AP (Kc a) (Vs a a) (Q4 (HS a) 0) (iH a)) (ON (P5 l) 2) (Tp 2 (P5 l) (C3 2 j Gv)) (Ly l) (En a l)) (En a l) (Ly l) (En a k) (Ly k)))) (IJ (λ l=>CB (Xo (Ay a) (λ m=>kX m (Ay a) (lI a)) (FR (RI (gX l) (Ml k) 2) (TO a) (λ m=>D4 m (IE a) (DZ a)) (Co a) (On (Aq a) BX (RY (gsM a l) (gsK a k)) (WA (gsM a l) (gsK a k))))) (JH (Kc a) (Vs a a) (Q4 (HS a) 0) (iH a) (EP l 2)) 2 l j))))) (AJ (RY (grV a) (gsM a j)) (WA (grV a) (gsM a j)) (GP (grR a)))))))))))) := by kernel_rfl
theorem p39 (a : NRF) (h1 : a.N.g.length <= 1000000 /\ a.N.r.length <= 1000000) : V39 a := by
  have et : NetL.mk a.N.g a.N.r = a.N := rfl
  have ew : IntKind.i64.wrap ((a.N.r.length : Int) - 1) = (a.N.r.length : Int) - 1 := Gp (by omega) (by omega)
  rw [vc39]<;> simp only [go_sem]; simp only [CC, eq_self, implies_true, forall_const, et, ew]
  refine ⟨h1, λ hc => ?_, λ hc => ⟨λ hr => ?_, λ hr => ⟨h1, λ hf => ?_, λ hf => ⟨?_, λ hi => ?_, λ hi => ?_⟩⟩⟩⟩
  · have hc : AB a.N ≠ 0 := by simpa using hc
    exact if_neg hc
  all_goals have hc : AB a.N = 0 := by simpa using hc
  · unfold J5; rw [if_pos hc, hr]; rfl
  · have hf : nV a.N ≠ 0 := by simpa using hf
    unfold J5; rw [if_pos hc, if_pos hr, if_neg hf]
  all_goals have hf : nV a.N = 0 := by simpa using hf
  · have := CV.1 hr
    rw [show rspF a.N = rfL a.N a.N.r.length from if_pos hf, S2]; omega
  · unfold J5; rw [if_pos hc, if_pos hr, if_pos hf, hi]; rfl
  · unfold J5; rw [if_pos hc, if_pos hr, if_pos hf, hi]; rfl
theorem ok39 : AH Try.prog 39 (C39.spec d38) := UY C39 (λ _ => ann 43 [(45, C45.spec fT), (60, s60), (36, C36.spec dN)]) [] [] Try.func39 (λ _ => by kernel_rfl) (λ _ => AA ok45 (AA ok60 (AA ok36 AE))) (λ a h => p39 a h) (λ _ => WR rfl rfl) _
theorem Zw {l : List Int} {i : Nat} (h : i < l.length) : l.take (i + 1) = l.take i ++ [gD l i] := by
  rw [List.take_add_one, List.getElem?_eq_getElem h]; simp [gD, List.getElem?_eq_getElem h]
theorem BHG {n : Nat} {st : List Int} (h : Grp n st) (k : Nat) : Grp n (st.take k) := ⟨λ x hx => h.mem x (List.mem_of_mem_take hx), h.inc.sublist (List.take_sublist k st)⟩
theorem BGM {n : Nat} {l : List Int} {x : Int} (h : Grp n l) (hx : 0 <= x /\ x < n) (hl : ∀ y ∈ l, y < x) : Grp n (l ++ [x]) := by
  refine ⟨λ y hy => ?_, ?_⟩
  · rcases List.mem_append.1 hy with hy | hy
    · exact h.mem y hy
    · have : y = x := by simpa using hy
      subst this; exact hx
  · rw [List.pairwise_append]
    refine ⟨h.inc, by simp, λ y hy z hz => ?_⟩
    have : z = x := by simpa using hz
    subst this; exact hl y hy
theorem BIS {n : Nat} {st : List Int} {i : Nat} (h : Grp n (st.take (i + 1))) (hi : i < st.length) : ∀ y ∈ st.take (i + 1), y <= gD st i := by
  rw [Zw hi] at h ⊢
  intro y hy
  rcases List.mem_append.1 hy with hy | hy
  · have := (List.pairwise_append.1 h.inc).2.2 y hy (gD st i) (by simp); omega
  · have : y = gD st i := by simpa using hy
    omega
theorem BDK {n : Nat} {st : List Int} {i j : Nat} (hi : i < st.length) (hj : j < n) (h0 : 0 <= gD st i) : gD (Mw n st (i + 1)) j = bif decide (j = (gD st i).toNat) then true else gD (Mw n st i) j := by
  unfold Mw
  rw [DY (λ (j : Nat) => decide ((j : Int) ∈ st.take (i + 1))) hj, DY (λ (j : Nat) => decide ((j : Int) ∈ st.take i)) hj, Zw hi]
  by_cases he : j = (gD st i).toNat
  · rw [decide_eq_true he]
    simp only [cond_true]
    exact decide_eq_true (List.mem_append.2 (.inr (by simp; omega)))
  · rw [decide_eq_false he]
    simp only [cond_false]
    rw [decide_eq_decide, List.mem_append]
    constructor
    · rintro (h | h)
      · exact h
      · have : (j : Int) = gD st i := by simpa using h
        omega
    · exact .inl
theorem BIH (n : Nat) (st : List Int) (k : Nat) : (Mw n st k).length = n := by simp [Mw]
theorem BJU {a : NGr} (hg : Good a.N) (q : Int) : (Yj a q).length <= 6561 := nF (gsA a q) hg.g8
theorem p41 (a : NGr) (h1 : a.N.g.length <= 1000000 /\ a.N.r.length <= 1000000) (h2 : a.st.length <= 1000000) : V41 a := by
  have et : NetL.mk a.N.g a.N.r = a.N := rfl
  have ew : IntKind.i64.wrap ((a.N.g.length : Int) - 1) = (a.N.g.length : Int) - 1 := Gp (by omega) (by omega)
  have bl := BIH a.N.g.length a.st
  have z0 : ∀ e, grR a = e -> e ≠ 0 -> (grV a).lo = 0 /\ (grV a).hi = 0 /\ grR a = e := λ e he hne => by
    have : grV a = ⟨0, 0⟩ := if_neg (by rw [he]; exact hne)
    rw [this]; exact ⟨rfl, rfl, he⟩
  rw [vc41]<;> delta Gq hd2 hd4 hd5 Ou Ok IJ ED AG VK ON AS BT EP WC IK Tt bX tW hd28 hd29 Hi hd35 TB Oi TR K7 hd76 Ca EA Bz AXL Gv Zc Va SO Ys PM iC qX Fg Yw mV LC lK ES Ur UM vV xG wH YC DZ TH Zb Ls Ti ABQ AGV APN qM AFA Hd N0 AQO gX Q4 P5 Ly AY AJ Fa BAX M7 APL ADO AZG O9 Yz BG HJ AR mT gY DU QS On Zd zZ lE ADZ AM AT Es OK gR CU CY Dd ME IW MF Uk EJ O7 AC HQ IF MB Fo WA EC GT Tp AP HA M9 NJ IV RY Uu pZ FI He iD Q2 ABZ FH Hc O1 AJP FR gQ LY AGG Cz GP AKE Q0 qY IE kE Lc jS KX AJF Lh AKP GF AJQ AER AU mB CA AIY LD oJ MH XQ xB HS AGN I7 Cd J0 Fb My lF VB EG KT YN QJ CG CB DE D4 NV FW Bk vK Ax AZ Rn I1 KH ABD EF WS DB BM DN kX L4 IM Ed OD DX ABC Pw VR vS XJ BX AFO EO fB lI HW Dq KS UD FN VA EU PA PG Ck Ml PC Hn I6 RV iV GM sJ Ay VM JY WY JH L3 Sp Ft ANE IP PV QU J8 RI UF TO OE L5 aV Rg I8 RU Ap Aq C3 Co Dg AND Cj En Fz Kc iN ALP Dy Bj Im G2 Fs D3 Mr Bw Ci Vs XI Nq Wz Xo iH fV; simp only [CC, eq_self, implies_true, forall_const, et, ew, grI0, List.nil_append, List.append_nil, List.getD_cons_zero]
  refine ⟨h1, λ hc => ?err, λ hc => ?ok⟩
  case err =>
    have hc : AB a.N ≠ 0 := by simpa using hc
    exact z0 _ (if_neg hc) hc
  case ok =>
    have hc : AB a.N = 0 := by simpa using hc
    have hg := BB hc
    have hg8 := hg.g8
    have hg1 := hg.g1
    have gof : grpBad a.N.g.length (-1) a.st = false ↔ Grp a.N.g.length a.st := AEN ⟨hg1, hg8⟩
    refine ⟨⟨by omega, by omega, by omega⟩, ⟨⟨0, ⟨rfl, λ i hi => ?n0⟩, hc, Nat.zero_le _, ⟨λ x hx => by simp at hx, by simp⟩⟩, λ i ⟨_, hi, hgi⟩ => ⟨λ hlt => ⟨⟨⟨by omega, by omega⟩, λ hb => ⟨by omega, by omega⟩, λ hb => ?b0⟩, λ hb => ?bad, λ hb => ?fine⟩, λ hge => ?ex⟩⟩, λ ⟨_, hgr⟩ => ⟨λ hl => ?e0, λ hl => ⟨h1, λ hf => ?e1, λ hf => ?go⟩⟩⟩
    case n0 =>
      unfold Mw
      rw [DY (λ (j : Nat) => decide ((j : Int) ∈ a.st.take 0)) hi]; simp
    case b0 =>
      have hp : (i : Int) > 0 := by
        rw [Bool.and_eq_true, decide_eq_true_eq] at hb; exact hb.2
      have e : IntKind.i64.wrap ((i : Int) - 1) = (i : Int) - 1 := Gp (by omega) (by omega)
      rw [e]; omega
    case bad =>
      have hbt : grpBad a.N.g.length (-1) a.st = true := (Bool.not_eq_false _).mp λ hbad => by
        have hG := gof.1 hbad
        have hm := hG.mem (gD a.st i) (Fi (by omega))
        have hin : inM (gD a.st i) 0 ((a.N.g.length : Int) - 1) = true := CV.2 (by omega)
        rw [hin] at hb
        simp only [Bool.not_true, cond_false] at hb
        by_cases hp : (i : Int) > 0
        · rw [decide_eq_true hp] at hb
          have e : IntKind.i64.wrap ((i : Int) - 1) = (i : Int) - 1 := Gp (by omega) (by omega)
          rw [e] at hb
          simp only [cond_true, decide_eq_true_eq] at hb
          have hx := BHG hG (i + 1)
          rw [Zw (by omega)] at hx
          have := (List.pairwise_append.1 hx.inc).2.2 (gD a.st ((i : Int) - 1).toNat) (by
            have e2 : ((i : Int) - 1).toNat = i - 1 := by omega
            rw [e2, show a.st.take i = a.st.take (i - 1 + 1) by rw [show i - 1 + 1 = i by omega], Zw (by omega)]
            simp) (gD a.st i) (by simp)
          omega
        · rw [decide_eq_false hp] at hb; cases hb
      exact z0 2 (by unfold grR; rw [if_pos hc, if_pos (.inl hbt)]) (by decide)
    case fine =>
      have hin : inM (gD a.st i) 0 ((a.N.g.length : Int) - 1) = true := by
        cases h : inM (gD a.st i) 0 ((a.N.g.length : Int) - 1) with
        | true => rfl
        | false => rw [h] at hb; simp at hb
      rw [hin] at hb
      simp only [Bool.not_true, cond_false] at hb
      have hm := CV.1 hin
      refine ⟨⟨⟨by omega, by omega⟩, by omega, by omega⟩, i + 1, ⟨(AL (by omega)).symm, λ j hj => BDK (by omega) hj (by omega)⟩, ⟨hc, by omega, ?_⟩, by omega⟩
      rw [Zw (by omega)]
      refine BGM hgi (by omega) λ y hy => ?_
      by_cases hp : (i : Int) > 0
      · rw [decide_eq_true hp] at hb
        have e : IntKind.i64.wrap ((i : Int) - 1) = (i : Int) - 1 := Gp (by omega) (by omega)
        rw [e] at hb
        simp only [cond_true, decide_eq_false_iff_not] at hb
        have e2 : ((i : Int) - 1).toNat = i - 1 := by omega
        rw [e2] at hb
        have hi1 : i = i - 1 + 1 := by omega
        rw [hi1] at hgi hy
        have := BIS hgi (by omega) y hy
        omega
      · have : i = 0 := by omega
        subst this; simp at hy
    case ex =>
      have hx : i = a.st.length := by omega
      subst hx
      rw [List.take_length] at hgi
      exact ⟨⟨0⟩, ⟨bl _, Nat.le_refl _, λ _ _ => rfl⟩, hc, hgi⟩
    case e0 =>
      have hl : a.st.length = 0 := by simpa using hl
      exact z0 2 (by unfold grR; rw [if_pos hc, if_pos (.inr hl)]) (by decide)
    case e1 =>
      have hl : a.st.length ≠ 0 := by simpa using hl
      have hf : nV a.N ≠ 0 := by simpa using hf
      exact z0 _ (by unfold grR; rw [if_pos hc, if_neg]; rintro (h | h)
                     · rw [gof.2 hgr] at h; cases h
                     · exact hl h) hf
    case go =>
      have hl : a.st.length ≠ 0 := by simpa using hl
      have hf : nV a.N = 0 := by simpa using hf
      obtain ⟨_, hz⟩ := AJI hf
      have hR : grR a = 0 := by
        unfold grR; rw [if_pos hc, if_neg, hf]
        rintro (h | h)
        · rw [gof.2 hgr] at h; cases h
        · exact hl h
      have hV : grV a = gsM a 2 := if_pos hR
      have lb := BJU (a := a) hg
      refine ⟨⟨0, ⟨by decide, rfl, rfl⟩, ⟨hc, hgr, hl, hz⟩, by decide⟩, λ g ⟨_, hg2⟩ => ⟨λ hle => ?_, λ hgt => ?_⟩⟩
      · have hq : g < 2 := by unfold Ng at hle; omega
        have hq1 : -1 <= Ng g := by unfold Ng; omega
        refine ⟨⟨hc, bl _, hq1, hle⟩, ⟨⟨g, 0⟩, ⟨rfl, rfl, λ _ _ => ⟨rfl, λ _ _ => rfl⟩, rfl, rfl, rfl⟩, ⟨hc, hgr, hl, hz⟩, hq, rfl, Nat.zero_le _⟩, λ x ⟨_, x1, x2, x3⟩ => ⟨λ hk => ?_, λ hk => ?_⟩⟩
        · have := lb (Ng x.g)
          exact ⟨⟨⟨by omega, hk⟩, rfl, hc, Wl (gsA a (Ng x.g)) (s := a.N.g.length) (k := x.k) (by show x.k < (Yj a (Ng x.g)).length; omega), bl _⟩, ⟨x.g, x.k + 1⟩, ⟨rfl, rfl, λ _ _ => ⟨rfl, λ _ _ => rfl⟩, (AL (by omega)).symm, rfl, rfl⟩, ⟨⟨hc, hgr, hl, hz⟩, x1, x2, by simp only; omega⟩, by simp only; omega⟩
        · obtain ⟨xg, xk⟩ := x
          simp only at x1 x2 x3 hk ⊢
          have hx : xk = (Yj a (Ng xg)).length := by omega
          subst hx
          have e : IntKind.i64.wrap (Ng xg + 2) = Ng xg + 2 := Gp (by unfold Ng; omega) (by unfold Ng; omega)
          refine ⟨xg + 1, ⟨?_, rfl, rfl⟩, ⟨⟨hc, hgr, hl, hz⟩, by omega⟩, by omega⟩
          rw [e]; unfold Ng; omega
      · have hq : g = 2 := by unfold Ng at hgt; omega
        subst hq
        rw [hV]; exact ⟨rfl, rfl, hR⟩
theorem ok41 : AH Try.prog 41 (C41.spec dGr) := UY C41 A41 [] [] Try.func41 (λ _ => by kernel_rfl) (λ _ => AA ok45 (AA ok60 (AA ok76 (AA ok53 (AA ok54 (AA ok71 AE)))))) (λ a h => p41 a h.1 h.2) (λ _ => WR rfl rfl) _
end Go.Bal
