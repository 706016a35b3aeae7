/- The reference: fits, Suspects. -/
import Derived.Test.YtonddbmhljelgaaBalLv2
import Derived.Test.YtonddbmhljelgaaBalTot
import Derived.Test.YtonddbmhljelgaaBalT20
import Derived.Test.YtonddbmhljelgaaBalR
set_option linter.unusedVariables false
set_option linter.unusedSimpArgs false
namespace Go.Bal
open Go Go.Sym Go.Proofs
def nV (N : NetL) : Int := if AB N = 0 /\ NZ N > 0 then 6 else AB N
def C76 : Ctr := { α := NetL, xs := xsN, val := λ N => .int (nV N), pre := λ N => [N.g.length <= 1000000 /\ N.r.length <= 1000000] }
def V76 (N : NetL) : Prop := BN Try.prog (ann 17 [(18, C18.spec dN)]) Try.f76 (AF Try.f76) (C76.xs N) (AD []) (C76.val N) (C76.keep N) [] []
abbrev AFA:=NZ
abbrev Hd:=nV
attribute [go_sem] AFA Hd
theorem vc76 (N : NetL) : (V76 N) = (EG (SC N (RV N) (VM N)) (WO (QU N) (RU (AFA (IF N)))) (AS (Hd N) 6) (AS (Hd N) (QU N))) := by kernel_rfl
theorem p76 (N : NetL) (h1 : N.g.length <= 1000000 /\ N.r.length <= 1000000) : V76 N := by
 have et : NetL.mk N.g N.r = N := rfl
 rw [vc76]<;> simp only [go_sem]; simp only [CC, eq_self, implies_true, forall_const, et]
 refine ⟨h1, λ h => ?_, λ h => ?_⟩
 ·by_cases hc : AB N = 0
  ·rw [hc] at h
   exact if_pos ⟨hc, of_decide_eq_true h⟩
  ·have : (AB N == 0) = false := by simpa using hc
   rw [this] at h; cases h
 ·by_cases hc : AB N = 0
  ·rw [hc] at h
   exact if_neg λ h' => of_decide_eq_false h h'.2
  ·exact if_neg λ h' => hc h'.1
theorem ok76 : AH Try.prog 76 (C76.spec dN) := UY C76 (λ _ => ann 17 [(18, C18.spec dN)]) [] [] Try.func76 (λ _ => by kernel_rfl) (λ _ => AA ok18 AE) (λ a h => p76 a h) (λ _ => WR rfl rfl) _
structure SuI where
 i : Nat
 k : Nat
 deriving Inhabited
def rsR (N : NetL) (x : SuI) : Int := Ll (gD (BS N) x.k) (gD N.r x.i)
def rsS (N : NetL) (i : Nat) : Nat -> Span
 | 0 => ⟨-100000000, 100000000⟩
 | k + 1 => limM (rsS N i k) (rsR N ⟨i, k⟩) (fY N k i)
def rsF (N : NetL) (i : Nat) : Nat -> Bool
 | 0 => true
 | k + 1 => bif (bif rsR N ⟨i, k⟩ == 0 then decide (fY N k i > 0) else false) then false else rsF N i k
def rsB (N : NetL) (i : Nat) : Bool := rsF N i (BS N).length && decide ((rsS N i (BS N).length).lo <= (rsS N i (BS N).length).hi)
def iB (N : NetL) (n : Nat) : List Int := ((List.range n).filter λ i => rsB N i).map λ (i : Nat) => (i : Int)
def rsSl (N : NetL) (v : AVal) (i : Nat) : List (Nat × AVal) := [(1, .bptr 203 0), (6, .d (XU (EL N))), (7, .d (eLL (BS N))), (8, v), (9, .int i)]
def BHQ (N : NetL) (v : AVal) (x : SuI) : List (Nat × AVal) := rsSl N v x.i ++ [(10, .bptr 205 0), (11, .bool (rsF N x.i x.k)), (12, .int x.k)]
def rsO (N : NetL) (x : SuI) : HCell := .live (.box [.int (rsS N x.i x.k).lo, .int (rsS N x.i x.k).hi])
def AQH (N : NetL) (i : Nat) : AVal := .own 204 1 0 (iB N i).length
def ASB (N : NetL) (i : Nat) : HCell := pP (iB N i).length (iB N i)
def BIK (N : NetL) (m : Nat) (x : SuI) : Prop := AB N = 0 /\ x.i < N.r.length /\ N.r.length - x.i = m /\ x.k <= (BS N).length
def AQV (N : NetL) (m : Nat) (i : Nat) : Prop := AB N = 0 /\ i < N.r.length /\ N.r.length - i = m
def A26 (N : NetL) : Ann := { ann 102 [(18, C18.spec dN), (53, C53.spec d53), (54, C54.spec d54), (71, s71)] with mt := λ id => id == 22, cutIn := λ gs id => if id = 7 then some [{ α := One, dflt := default, T := λ _ => ⟨[(1, .bptr 203 0), (6, .d (XU (EL N)))], [(203, LF N)]⟩, inv := λ _ => AB N = 0 /\ NZ N ≠ 0, meas := λ _ => 0, first := [(203, 1000)], ffz := [7048] }] else if id = 11 then if gs.getD 1 0 = 1 then some [{ α := Nat, dflt := 0, T := λ i => ⟨rsSl N (AQH N (i + 1)) i, [(203, LF N), (204, ASB N (i + 1))]⟩, inv := AQV N (gs.getD 0 0), meas := λ _ => 0, first := [(204, 23048)] }, { α := Nat, dflt := 0, T := λ i => ⟨rsSl N (AQH N (i + 1)) i, [(203, LF N), (204, ASB N (i + 1))]⟩, inv := AQV N (gs.getD 0 0), meas := λ _ => 0 }] else some [{ α := Nat, dflt := 0, T := λ i => ⟨rsSl N (AQH N (i + 1)) i, [(203, LF N), (204, ASB N (i + 1))]⟩, inv := AQV N (gs.getD 0 0), meas := λ _ => 0, first := [(204, 23048)] }, { α := Nat, dflt := 0, T := λ i => ⟨rsSl N Lu i, [(203, LF N)]⟩, inv := λ i => AQV N (gs.getD 0 0) i /\ iB N (i + 1) = [], meas := λ _ => 0 }] else none, loops := λ id => if id = 10 then some [{ α := Nat, dflt := 0, T := λ i => ⟨rsSl N Lu i, [(203, LF N)]⟩, inv := λ i => AB N = 0 /\ NZ N ≠ 0 /\ i <= N.r.length /\ iB N i = [], meas := λ i => N.r.length - i, tag := [0] }, { α := Nat, dflt := 0, T := λ i => ⟨rsSl N (AQH N i) i, [(203, LF N), (204, ASB N i)]⟩, inv := λ i => AB N = 0 /\ NZ N ≠ 0 /\ i <= N.r.length, meas := λ i => N.r.length - i, tag := [1] }] else none, inner := λ gs id => if id = 15 then if gs.getD 1 0 = 1 then some [{ α := SuI, dflt := default, T := λ x => ⟨BHQ N (AQH N x.i) x, [(203, LF N), (204, ASB N x.i), (205, rsO N x)]⟩, inv := BIK N (gs.getD 0 0), meas := λ x => (BS N).length - x.k, first := [(205, 13016)] }] else some [{ α := SuI, dflt := default, T := λ x => ⟨BHQ N Lu x, [(203, LF N), (205, rsO N x)]⟩, inv := λ x => BIK N (gs.getD 0 0) x /\ iB N x.i = [], meas := λ x => (BS N).length - x.k, first := [(205, 13016)] }] else none }
def rsE (N : NetL) : Int := if AB N = 0 then if NZ N = 0 then 8 else 0 else AB N
def rsT (N : NetL) : List Int := if rsE N = 0 then iB N N.r.length else []
def C26 : Ctr := { α := NetL, xs := xsN, val := λ N => .tup [.d (BC (rsT N)), .int (rsE N)], pre := λ N => [N.g.length <= 1000000 /\ N.r.length <= 1000000] }
def V26 (N : NetL) : Prop := BN Try.prog (A26 N) Try.f26 (AF Try.f26) (C26.xs N) (AD []) (C26.val N) (C26.keep N) [] [204]
abbrev N0:=LvA.mk
abbrev Fw:=@Exists SuI
abbrev BL:=SuI.i
abbrev MG:=SuI.k
abbrev yC:=λ (f : SuI -> Prop) => ∀ (x : SuI), f x
abbrev AHK a b c d:=VR (LD a) b c d
abbrev bO a:=MY (AFA a)
abbrev Kl a b:=iB a (UQ b)
abbrev AJC a b:=AGV (BS a) b
abbrev RZ a:=ABQ (BS a)
abbrev MV a b:=lF a (RZ b) (Cz (AJC b a)) (λ i=>NV i (AJC b a))
abbrev FM a:=DU (RZ a)
abbrev Ua a b:=Ti (gN a) b
abbrev zG a:=Ls (gN a)
abbrev KN a b:=AJP a (zG b) (Ua b a)
abbrev KM a:=DU (zG a)
abbrev AFO:=APN Gv Gv
abbrev C3 a b c:=Yz (AZG a b c AFO)
abbrev ATN a b c:=C3 (AM a) b (rU c)
abbrev Bt a b c d e:=Tp (AM a) b (ATN c d e)
abbrev KJ a b:=iB a (BL b)
abbrev C4 a:=BT (BL a)
abbrev NE a b:=rsS a (BL b) (MG b)
abbrev Qf a b c:=rsF a (BL b) (MG c)
abbrev Nq a b c d e:=AP a b c (EP d e)
abbrev nD a b:=Bc (BL a) b
abbrev jH a:=qM (zG a) (λ i=>Ua a i)
abbrev nB a b:=AJC a (MG b)
abbrev AUT a b:=HQ (nB a b)
abbrev AMO a b c d:=ANR a (AUT b c) (jH a) d a
abbrev Wk a b c d e f:=Zb a b (AMO c d e f)
abbrev Js a b c d e f:=Wk a b c d e (C4 f)
abbrev ASW a b c:=Lh (nB a b) c
abbrev E1 a b:=EJ a (BL b)
abbrev E0 a b:=EC a (BL b)
abbrev By a b c d e f g h:=ME (ASW a b (E0 c d)) (ASW e f (E1 g h))
abbrev St a b:=AU (MG a) (MG b)
abbrev Wp a b:=EQ (BL a) b
abbrev Ue a b:=Wp a (BL b)
abbrev Ka a:=AG (λ i=>MV i a)
abbrev APA a:=Ls (jH a)
abbrev Qj a b:=Pw (APA a) b
abbrev eM a b c:=Rg (AUT a b) c
abbrev AND a b c d:=HJ a b (Gq c d)
abbrev D3 a b c d e:=AND a b (Ti c d) e
abbrev Qo a b c d e:=D3 a (APA b) (jH c) d e
abbrev Ts a b:=ED (APA a) (zG b)
abbrev eB a b:=DN (nB a b)
abbrev bE a b:=DB (nB a b)
abbrev eU a b c:=Nt a (nB b c)
abbrev J1 a b:=GF (BL a) b
abbrev dK a b:=J1 a (AM b)
abbrev Hk a b:=GF (MG a) (RZ b)
abbrev AWX a b c d e f g:=L4 a b (BL c) d e (MG f) (RZ g)
abbrev eO a:=AZ (MG a)
abbrev Kf a b c:=MH (KM a) (λ i=>KN i b) c
attribute [go_sem] N0 Fw BL MG yC AHK bO Kl AJC RZ MV FM Ua zG KN KM AFO C3 ATN Bt KJ C4 NE Qf Nq nD jH nB AUT AMO Wk Js ASW E1 E0 By St Wp Ue Ka APA Qj eM AND D3 Qo Ts eB bE eU J1 dK Hk AWX eO Kf
theorem vc26 (N : NetL) : (V26 N) = (JY (SC N (RV N) (VM N)) (QU N) (Rc (RM (rsT N)) (rsE N) (QU N)) (IK (KS (AFA (IF N))) (Rc (RM (rsT N)) (rsE N) 8) (And (JH (IV (JC N)) (Cn N) (Ci (JC N)) (Bw (Ur fV (JC N))) (Zc (λ i=>AJ (AJ (ED (zG N) (AY N)) (BM (AY N)) (EO (λ j=>HJ j (zG N) (PG (Ua N j))) (BA N) (λ j=>MZ j N) (CA N) (DX N))) (LD N) (bO N)))) (Va (λ i=>Bj (LD N) (bO N) (Sk (SJ N (XI (DE N) (λ j=>HW j N) (Ts N N) (λ j=>Qo j N N j (Ua N j)) VL (EU N) (Qj N N) (bX (-1) 0) (IV 1))) (IJ (λ j=>BG (Kf N N (FN (ED (RZ N) (Fz (N0 (IF N) (jH N) 0) (OK N))) (λ k=>fB k (RZ N) (AJC N k) (Mr (N0 (IF N) (jH N) 0) (OK N) k)) AC BU (AZ j) (BA N) (CE N) (CA N) (DX N))) (LD N) (bO N) (EP j (AM N)) (VP (iB N j)))) (AG (λ j=>CG (OE (LD N) (bO N) j (AM N) (VP (iB N j))) j (AM N) (bT (And (Fw (λ k=>AJ (Kf N N (EF (FM N) (λ l=>MV l N) AC BU (NF (Wp k j) (LY (Qf N k k)) (eO k) (BA N) (λ l=>MZ l N) (CA N) (λ l=>IM l N) (MB (NE N k) (-100000000)) (MF (NE N k) 100000000)))) (Nq (LD N) (nD k N) (Bt N (BL k) N j 0) (MG k) (RZ N)) (VP (KJ N k)))) (yC (λ k=>GM (JH (LD N) (nD k N) (Bt N (BL k) N j 0) (EP (MG k) (RZ N)) (VP (KJ N k))) (MG k) (RZ N) (AP (Hk k N) (dK k N) (eU (E0 N k) N k) (WN (Hk k N) (dK k N) (eU (E1 N k) N k) (ZQ N N N N (IP (bE N k) (eB N k) (Ts N N) (λ l=>Qo l N N l (Ua N l)) VL (GT (BL k)) (EU N) (eM N k N) (Qj N N))))) (WO (By N k N k N k N k) (RU (AMO N N k (C4 k)))) (Fw (λ l=>CB (Kf N N (EF (FM N) (λ m=>MV m N) AC BU (NF (Ue l k) (PG (Qf N l l)) (St l k) (BA N) (λ m=>MZ m N) (CA N) (λ m=>IM m N) (RY (NE N l) (Js (NE N k) (By N k N k N k N k) N N k k)) (WA (NE N l) (Js (NE N k) (By N k N k N k N k) N N k k))))) (JH (LD N) (nD l N) (Bt N (BL l) N j 0) (EP (MG l) (RZ N)) (VP (KJ N l))) (RZ N) (MG l) (MG k))) (Fw (λ l=>CB (Kf N N (EF (FM N) (λ m=>MV m N) AC BU (NF (Ue l k) (Gq (Qf N l l) (Qf N k k)) (St l k) (BA N) (λ m=>MZ m N) (CA N) (λ m=>IM m N) (RY (NE N l) (Js (NE N k) (By N k N k N k N k) N N k k)) (WA (NE N l) (Js (NE N k) (By N k N k N k N k) N N k k))))) (JH (LD N) (nD l N) (Bt N (BL l) N j 0) (EP (MG l) (RZ N)) (VP (KJ N l))) (RZ N) (MG l) (MG k))) (YT (KT (Qf N k k) (hd4 (Ou (NE N k)) (Ok (NE N k)))) In (λ l=>AP (PC (KM N) (λ m=>KN m N) (FM N) (λ m=>MV m N) (hU AC (Uc (Kl N l)) (EQ l (BL k)) (BA N) (CE N) (CA N) (DX N) (AG (λ m=>FL m (Kl N l) (C4 k))))) (LD N) (Bc l N) (Bt N l N j 0)) (λ l=>AJ (Kf N N (FN (FM N) (λ m=>MV m N) AC BU (EQ l (BL k)) (BA N) (CE N) (CA N) (DX N))) (Ff N (Bc l N) (Bt N l N j 0)) (VP (Kl N l))))))) (λ k=>VK (Ff N (Bc k N) (Bt N k N j 0)) (IJ (λ l=>CB (PC (KM N) (λ m=>KN m N) (FM N) (λ m=>MV m N) (hU AC (FH (iB N l) (Kl N k)) (AU l k) (BA N) (CE N) (CA N) (DX N) (KH (iB N l) (Kl N k)))) (AHK N (bO N) l (AM N)) (AM N) l j))) (λ k=>VK (ABY (Ff N (Bc k N) (Bt N k N j 0)) (Kl N k)) (IJ (λ l=>CB (Kf N N (FN (FM N) (λ m=>MV m N) AC BU (AU l k) (BA N) (CE N) (CA N) (DX N))) (OE (LD N) (bO N) l (AM N) (VP (iB N l))) (AM N) l j)))) (Gx (RM (rsT N)) (GP (rsE N))))) (λ j=>CG (AHK N (bO N) j (AM N)) j (AM N) (W6 (And (Fw (λ k=>AWX (FN (KM N) (λ l=>KN l N) (FM N) (Ka N) AC (FH (KJ N k) (iB N j)) (Wp k j) (LY (Qf N k k)) (NF (eO k) (BA N) (CE N) (CA N) (λ l=>IM l N) (FH (KJ N k) (iB N j)) (λ l=>FW l (KJ N k) (iB N j)) (MB (NE N k) (-100000000)) (MF (NE N k) 100000000))) (LD N) k (AM N) (ATN N j 1) k N)) (yC (λ k=>GM (Nq (LD N) (nD k N) (Bt N (BL k) N j 1) (MG k) (RZ N)) (MG k) (RZ N) (AP (Hk k N) (dK k N) (eU (E0 N k) N k) (WN (Hk k N) (dK k N) (eU (E1 N k) N k) (ZQ N N N N (IP (bE N k) (eB N k) (Ts N N) (λ l=>Qo l N N l (Ua N l)) VL (GT (BL k)) (EU N) (eM N k N) (Qj N N))))) (WO (By N k N k N k N k) (RU (AMO N N k (C4 k)))) (Fw (λ l=>CB (FN (KM N) (λ m=>KN m N) (FM N) (Ka N) AC (FH (KJ N l) (KJ N k)) (Ue l k) (PG (Qf N l l)) (NF (St l k) (BA N) (CE N) (CA N) (λ m=>IM m N) (FH (KJ N l) (KJ N k)) (λ m=>FW m (KJ N l) (KJ N k)) (RY (NE N l) (Js (NE N k) (By N k N k N k N k) N N k k)) (WA (NE N l) (Js (NE N k) (By N k N k N k N k) N N k k)))) (Nq (LD N) (nD l N) (Bt N (BL l) N j 1) (MG l) (RZ N)) (RZ N) (MG l) (MG k))) (Fw (λ l=>CB (FN (KM N) (λ m=>KN m N) (FM N) (Ka N) AC (FH (KJ N l) (KJ N k)) (Ue l k) (Gq (Qf N l l) (Qf N k k)) (NF (St l k) (BA N) (CE N) (CA N) (λ m=>IM m N) (FH (KJ N l) (KJ N k)) (λ m=>FW m (KJ N l) (KJ N k)) (RY (NE N l) (Js (NE N k) (By N k N k N k N k) N N k k)) (WA (NE N l) (Js (NE N k) (By N k N k N k N k) N N k k)))) (Nq (LD N) (nD l N) (Bt N (BL l) N j 1) (MG l) (RZ N)) (RZ N) (MG l) (MG k))) (YT (KT (Qf N k k) (hd4 (Ou (NE N k)) (Ok (NE N k)))) (Qk (cF (KJ N k)) Nx (EA (KJ N k)) 8) (λ l=>AP (PC (KM N) (λ m=>KN m N) (FM N) (λ m=>MV m N) (hU AC (Ju (Kl N l) (EA (KJ N k))) (EQ l (BL k)) (BA N) (CE N) (CA N) (DX N) (AG (λ m=>FL m (Kl N l) (RR m (EA (KJ N k)) (KJ N k) m (C4 k)))))) (LD N) (Bc l N) (Bt N l N j 1)) (λ l=>AP (PC (KM N) (λ m=>KN m N) (FM N) (λ m=>MV m N) (hU AC (FH (Kl N l) (KJ N k)) (EQ l (BL k)) (BA N) (CE N) (CA N) (DX N) (KH (Kl N l) (KJ N k)))) (LD N) (Bc l N) (Bt N l N j 1)))))) (AG (λ k=>VK (Ff N (Bc k N) (Bt N k N j 1)) (IJ (λ l=>CB (PC (KM N) (λ m=>KN m N) (FM N) (λ m=>MV m N) (hU AC (FH (iB N l) (Kl N k)) (AU l k) (BA N) (CE N) (CA N) (DX N) (KH (iB N l) (Kl N k)))) (AHK N (bO N) l (AM N)) (AM N) l j))))) (AP (FH (rsT N) (iB N j)) (BM (EA (iB N j))) (Dz (rsT N) (iB N j)) (GP (rsE N)))))))))) := by kernel_rfl
theorem BAM {N : NetL} {i : Nat} (h : rsB N i = true) : iB N (i + 1) = iB N i ++ [(i : Int)] := by
 simp [iB, List.range_succ, List.filter_append, h]
theorem BHA {N : NetL} {i : Nat} (h : rsB N i = false) : iB N (i + 1) = iB N i := by
 simp [iB, List.range_succ, List.filter_append, h]
theorem BLH (N : NetL) (n : Nat) : (iB N n).length <= n := by
 unfold iB
 rw [List.length_map]
 have := List.length_filter_le (λ i => rsB N i) (List.range n)
 rw [List.length_range] at this; exact this
theorem AKS (N : NetL) (i : Nat) : rsB N i = bif rsF N i (BS N).length then decide ((rsS N i (BS N).length).lo <= (rsS N i (BS N).length).hi) else false := by
 unfold rsB; cases rsF N i (BS N).length <;> rfl
theorem p26 (N : NetL) (h1 : N.g.length <= 1000000 /\ N.r.length <= 1000000) : V26 N := by
 have et : NetL.mk N.g N.r = N := rfl
 have nl : (EL N).length = N.g.length := by simp [EL]
 have ea : BZ (LvA.mk N (EL N) 0) N.g.length = BS N := rfl
 rw [vc26]<;> simp only [go_sem]; simp only [CC, eq_self, implies_true, forall_const, et, ea, BIK, AQV, List.cons_append, List.nil_append, List.append_nil, List.getD_cons_zero, List.getD_cons_succ]
 refine ⟨h1, λ hc => ?a, λ hc => ⟨λ hl => ?b, λ hl => ?c⟩⟩
 case c =>
  have hc : AB N = 0 := by simpa using hc
  have hl : NZ N ≠ 0 := by simpa using hl
  have hg := BB hc
  have hg8 := hg.g8
  have hr14 := hg.r14
  have hb : (BS N).length <= 6561 := nF (lvA0 N) hg8
  have lk : ∀ k, k < (BS N).length -> (gD (BS N) k).length = N.g.length := λ k hk => Wl (lvA0 N) (s := N.g.length) (k := k) hk
  have hrE : rsE N = 0 := by unfold rsE; rw [if_pos hc, if_neg hl]
  have hrT : rsT N = iB N N.r.length := if_pos hrE
  refine ⟨⟨⟨by omega, by omega, by omega⟩, ⟨0⟩, ⟨nl, Nat.le_refl _, λ j hj => ?n0⟩, hc, hl⟩, λ _ => ⟨⟨rfl, hc, nl, by decide, by decide⟩, ⟨0, rfl, hc, hl, Nat.zero_le _, rfl⟩, λ i hi => ?nil, λ i hi => ?own⟩⟩
  case n0 => rw [nl] at hj; simp [EL, GN, hj]
  case nil =>
   obtain ⟨_, _, q1, q2⟩ := hi
   refine ⟨λ hlt => ⟨⟨⟨⟨i, 0⟩, ⟨rfl, rfl, rfl, rfl, rfl⟩, ⟨hc, by simp only; omega, rfl, Nat.zero_le _⟩, q2⟩, λ x ⟨⟨_, x1, x2, x3⟩, x4⟩ => ⟨λ hk => ?st, λ hk => ?ex⟩⟩, ?cw, ?cn⟩, λ hge => ?fin⟩
   case st =>
    obtain ⟨_, b1, b2, _⟩ := hg.r x.i x1
    exact ⟨⟨⟨by omega, hk⟩, ⟨by omega, by omega⟩, ⟨by omega, by rw [lk x.k (by omega)]; omega⟩, ⟨by omega, hk⟩, ⟨by omega, by omega⟩, ⟨by omega, by rw [lk x.k (by omega)]; omega⟩, ⟨by omega, hk⟩, rfl, hc, lk x.k (by omega), nl⟩, λ h => ⟨⟨x.i, x.k + 1⟩, ⟨rfl, by show rsF N x.i (x.k + 1) = _; simp only [rsF]; rw [show (bif rsR N ⟨x.i, x.k⟩ == 0 then decide (fY N x.k x.i > 0) else false) = true from h]; rfl, (AL (by omega)).symm, rfl, rfl⟩, ⟨⟨hc, x1, x2, by simp only; omega⟩, x4⟩, by simp only; omega⟩, λ h => ⟨⟨x.i, x.k + 1⟩, ⟨rfl, by show rsF N x.i (x.k + 1) = _; simp only [rsF]; rw [show (bif rsR N ⟨x.i, x.k⟩ == 0 then decide (fY N x.k x.i > 0) else false) = false from h]; rfl, (AL (by omega)).symm, rfl, rfl⟩, ⟨⟨hc, x1, x2, by simp only; omega⟩, x4⟩, by simp only; omega⟩⟩
   case ex =>
    obtain ⟨xi, xk⟩ := x
    simp only at x1 x2 x3 x4 hk ⊢
    have hx : xk = (BS N).length := by omega
    subst hx
    refine ⟨λ h => ?_, λ h => ⟨xi, rfl, ⟨hc, x1, x2⟩, by rw [BHA (by rw [AKS]; exact h)]; exact x4⟩⟩
    have e : iB N (xi + 1) = [(xi : Int)] := by rw [BAM (by rw [AKS]; exact h), x4]; rfl
    refine ⟨⟨λ h => absurd h (by decide), by decide, by decide, by decide, by decide⟩, ⟨xi, ⟨by rw [e]; rfl, rfl, by rw [e]; rfl, λ j hj => ?_⟩, hc, x1, x2⟩⟩
    rw [e] at hj ⊢
    have : j = 0 := by simpa using hj
    subst this; rfl
   case cw =>
    intro j ⟨_, j1, j2⟩
    exact ⟨j + 1, ⟨rfl, (AL (by omega)).symm, rfl, λ _ _ => rfl⟩, ⟨hc, hl, by omega⟩, by omega⟩
   case cn =>
    intro j ⟨⟨_, j1, j2⟩, j3⟩
    exact ⟨j + 1, (AL (by omega)).symm, ⟨hc, hl, by omega, j3⟩, by omega⟩
   case fin =>
    have hx : i = N.r.length := by omega
    rw [hrT, hrE, <- hx, q2]; exact ⟨rfl, rfl, rfl⟩
  case own =>
   obtain ⟨_, _, q1⟩ := hi
   refine ⟨λ hlt => ⟨⟨⟨⟨i, 0⟩, ⟨rfl, rfl, rfl, rfl, rfl, λ _ _ => rfl, rfl, rfl⟩, hc, by simp only; omega, rfl, Nat.zero_le _⟩, λ x ⟨_, x1, x2, x3⟩ => ⟨λ hk => ?st, λ hk => ?ex⟩⟩, ?cw⟩, λ hge => ?fin⟩
   case st =>
    obtain ⟨_, b1, b2, _⟩ := hg.r x.i x1
    exact ⟨⟨⟨by omega, hk⟩, ⟨by omega, by omega⟩, ⟨by omega, by rw [lk x.k (by omega)]; omega⟩, ⟨by omega, hk⟩, ⟨by omega, by omega⟩, ⟨by omega, by rw [lk x.k (by omega)]; omega⟩, ⟨by omega, hk⟩, rfl, hc, lk x.k (by omega), nl⟩, λ h => ⟨⟨x.i, x.k + 1⟩, ⟨rfl, rfl, by show rsF N x.i (x.k + 1) = _; simp only [rsF]; rw [show (bif rsR N ⟨x.i, x.k⟩ == 0 then decide (fY N x.k x.i > 0) else false) = true from h]; rfl, (AL (by omega)).symm, rfl, λ _ _ => rfl, rfl, rfl⟩, ⟨hc, x1, x2, by simp only; omega⟩, by simp only; omega⟩, λ h => ⟨⟨x.i, x.k + 1⟩, ⟨rfl, rfl, by show rsF N x.i (x.k + 1) = _; simp only [rsF]; rw [show (bif rsR N ⟨x.i, x.k⟩ == 0 then decide (fY N x.k x.i > 0) else false) = false from h]; rfl, (AL (by omega)).symm, rfl, λ _ _ => rfl, rfl, rfl⟩, ⟨hc, x1, x2, by simp only; omega⟩, by simp only; omega⟩⟩
   case ex =>
    obtain ⟨xi, xk⟩ := x
    simp only at x1 x2 x3 hk ⊢
    have hx : xk = (BS N).length := by omega
    subst hx
    have hlen := BLH N xi
    refine ⟨λ h => ?_, λ h => ?_⟩
    ·have e := BAM (N := N) (i := xi) (by rw [AKS]; exact h)
     have el : (iB N (xi + 1)).length = (iB N xi).length + 1 := by rw [e]; simp
     refine ⟨⟨by omega, λ h => absurd h (by decide), by omega, by omega⟩, ⟨xi, ⟨el, rfl, el, λ j hj => ?_⟩, hc, x1, x2⟩⟩
     rw [el] at hj
     rw [e, CP]
     by_cases h0 : j < (iB N xi).length
     ·rw [if_pos h0, decide_eq_true h0]; rfl
     ·have : j - (iB N xi).length = 0 := by omega
      rw [if_neg h0, decide_eq_false h0, this]; rfl
    ·have e := BHA (N := N) (i := xi) (by rw [AKS]; exact h)
     exact ⟨xi, ⟨by rw [e], rfl, by rw [e], λ j _ => by rw [e]⟩, hc, x1, x2⟩
   case cw =>
    intro j ⟨_, j1, j2⟩
    exact ⟨j + 1, ⟨rfl, (AL (by omega)).symm, rfl, λ _ _ => rfl⟩, ⟨hc, hl, by omega⟩, by omega⟩
   case fin =>
    have hx : i = N.r.length := by omega
    rw [hrT, hrE, <- hx]; exact ⟨rfl, Nat.le_refl _, λ _ _ => rfl, rfl⟩
 case a =>
  have hc : AB N ≠ 0 := by simpa using hc
  have e : rsE N = AB N := if_neg hc
  have e2 : rsT N = [] := if_neg (by rw [e]; exact hc)
  rw [e2, e]; exact ⟨rfl, rfl, rfl⟩
 case b =>
  have hc : AB N = 0 := by simpa using hc
  have hl : NZ N = 0 := by simpa using hl
  have e : rsE N = 8 := by unfold rsE; rw [if_pos hc, if_pos hl]
  have e2 : rsT N = [] := if_neg (by rw [e]; decide)
  rw [e2, e]; exact ⟨rfl, rfl, rfl⟩
theorem ok26 : AH Try.prog 26 (C26.spec dN) := UY C26 A26 [] [204] Try.func26 (λ _ => by kernel_rfl) (λ _ => AA ok18 (AA ok53 (AA ok54 (AA ok71 AE)))) (λ a h => p26 a h) (λ _ => WR rfl rfl) _
end Go.Bal

namespace Go.Bal
open Go
variable {N : NetL} {T : TruthL}
theorem BDO (h : AB N = 0) (hc : EV N = 0) {r : Nat} (hr : r < N.r.length) {f : Int} (hf : -100000000 <= f /\ f <= 100000000) : FC ⟨N, r, f⟩ = if (gD (Zj N) r).lo <= f /\ f <= (gD (Zj N) r).hi then 0 else 5 := by
 obtain ⟨_, h2, _⟩ := tE h hc hr hf
 have e1 : inM (r : Int) 0 (N.r.length - 1) = true := CV.2 (by omega)
 have e2 : inM f (-100000000) 100000000 = true := CV.2 hf
 unfold FC
 simp only
 rw [if_pos h, if_pos e1, if_neg (by omega), if_pos e2]
 by_cases hi : (gD (Zj N) r).lo <= f /\ f <= (gD (Zj N) r).hi
 ·rw [if_pos hi, if_pos (h2.2 hi)]
 ·rw [if_neg hi, if_neg λ he => hi (h2.1 he)]
end Go.Bal

namespace Go.Bal
open Go
variable {N : NetL} {T : TruthL}
theorem Y7 {f : Nat -> Int} {n k : Nat} (hk : k < n) : DG n f = DG n (λ i => if i = k then 0 else f i) + f k := by
 have : DG n f = DG n (λ i => (if i = k then 0 else f i) + if i = k then f k else 0) := BQ λ i _ => by
  by_cases h : i = k
  ·subst h; simp
  ·simp [h]
 rw [this, QM, SG, if_pos hk]
end Go.Bal

namespace Go.Bal
open Go
variable {d : Desk}
def CJ (π : Int -> Int) (w : Way) : Int := π w.to - π w.fr
def El (π : Int -> Int) (l : List Way) (k : Nat) : Int := DG l.length λ i => if i = k then 0 else Yi (CJ π (gD l i)) (gD l i).sp
theorem AOD (h : InS d) {π : Int -> Int} {k : Nat} (hk : k < d.all.length) (hr : ∀ i, i < d.all.length -> i ≠ k -> -1 <= CJ π (gD d.all i) /\ CJ π (gD d.all i) <= 1) : El π d.all k <= CJ π (gD d.all k) * (gD d.all k).now := by
 have h1 : DG d.all.length (λ i => CJ π (gD d.all i) * (gD d.all i).now) = 0 := h.circ π
 rw [Y7 hk] at h1
 have h2 : DG d.all.length (λ i => (if i = k then 0 else CJ π (gD d.all i) * (gD d.all i).now) + if i = k then 0 else Yi (CJ π (gD d.all i)) (gD d.all i).sp) <= DG d.all.length λ _ => 0 := bI λ i hi => by
  by_cases he : i = k
  ·simp [he]
  ·simp only [if_neg he]
   have h3 := BGK (x := (gD d.all i).now) (s := (gD d.all i).sp) (hr i hi he)
   have h4 := h.now i hi
   unfold Ph at h3
   omega
 rw [QM (λ i => if i = k then 0 else CJ π (gD d.all i) * (gD d.all i).now), YA] at h2
 unfold El
 omega
theorem BCN (h : InS d) {k : Nat} (hk : k < d.all.length) {up : Bool} (hs : AYY d (k : Int) up) :
  (gD d.all k).now = (if up then (gD d.all k).sp.hi else (gD d.all k).sp.lo) ∨ ∃ π : Int -> Int, (∀ v, π v = 0 ∨ π v = -1) /\ CJ π (gD d.all k) = (if up then -1 else 1) /\ El π d.all k = if up then -(gD d.all k).now else (gD d.all k).now := by
 have ek : ((k : Nat) : Int).toNat = k := by omega
 rcases hs with hs | ⟨S, hS1, hS2, hS3⟩
 ·left
  unfold EW at hs
  rw [ek] at hs
  cases up
  ·exact Ea (h.small hk) (h.now _ hk) (by simp only [Bool.not_false] at hs; omega)
  ·exact Ks (h.small hk) (h.now _ hk) (by simp only [Bool.not_true] at hs; omega)
 ·right
  classical
  obtain ⟨π, hπ⟩ : ∃ π : Int -> Int, π = λ v => if S v then -1 else 0 := ⟨_, rfl⟩
  have p1 : ∀ v, S v -> π v = -1 := λ v hv => by rw [hπ]; simp only; rw [if_pos hv]
  have p0 : ∀ v, ¬ S v -> π v = 0 := λ v hv => by rw [hπ]; simp only; rw [if_neg hv]
  have c1 : DG d.all.length (λ i => CJ π (gD d.all i) * (gD d.all i).now) = 0 := h.circ π
  rw [Y7 hk] at c1
  have e : El π d.all k + DG d.all.length (λ i => if i = k then 0 else CJ π (gD d.all i) * (gD d.all i).now) = 0 := by
   unfold El
   rw [<- QM (λ i => if i = k then 0 else Yi (CJ π (gD d.all i)) (gD d.all i).sp), BQ (g := λ _ => 0), YA]
   intro i hi
   by_cases he : i = k
   ·simp [he]
   ·simp only [if_neg he]
    have hcnt : ∀ b : Bool, (BO (gD d.all i) b).1 = 0 -> Cnt d (EM d (k : Int)) ⟨(i : Int), b⟩ := λ b hb => by
     refine ⟨⟨by simp only; omega, by simp only; omega⟩, ?_⟩
     unfold EM EW
     have e : (i : Int).toNat = i := by omega
     simp only [e, hb, Bool.and_eq_true, decide_eq_true_eq]
     refine ⟨⟨trivial, λ hh => ?_⟩, λ hh => ?_⟩
     ·have : (i : Int) = k := congrArg Step.way hh
      omega
     ·have : (i : Int) = k := congrArg Step.way hh
      omega
    unfold CJ Yi
    by_cases s1 : S (gD d.all i).to <;> by_cases s2 : S (gD d.all i).fr
    ·rw [p1 _ s1, p1 _ s2]; simp
    ·rw [p1 _ s1, p0 _ s2]
     have := Ea (h.small hi) (h.now i hi) λ hb => s2 (hS3 _ (hcnt true hb) s1)
     rw [if_neg (by omega), if_pos (by omega)]; omega
    ·rw [p0 _ s1, p1 _ s2]
     have := Ks (h.small hi) (h.now i hi) λ hb => s1 (hS3 _ (hcnt false hb) s2)
     rw [if_pos (by omega)]; omega
    ·rw [p0 _ s1, p0 _ s2]; simp
  have hr : CJ π (gD d.all k) = if up then -1 else 1 := by
   rw [qP] at hS1 hS2
   unfold CJ
   cases up
   ·simp only [Bool.not_false, if_true, Bool.false_eq_true, if_false, ek] at hS1 hS2 ⊢
    rw [p1 _ hS1, p0 _ hS2]; omega
   ·simp only [Bool.not_true, if_true, Bool.false_eq_true, if_false, ek] at hS1 hS2 ⊢
    rw [p1 _ hS1, p0 _ hS2]; omega
  refine ⟨π, λ v => ?_, hr, ?_⟩
  ·by_cases hv : S v
   ·exact .inr (p1 _ hv)
   ·exact .inl (p0 _ hv)
  ·rw [hr] at c1
   cases up
   ·simp only [Bool.false_eq_true, if_false] at c1 ⊢; omega
   ·simp only [if_true] at c1 ⊢; omega
def Cut (d : Desk) (k : Nat) (up : Bool) (x : Int) : Prop := x = (if up then (gD d.all k).sp.hi else (gD d.all k).sp.lo) ∨ ∃ π : Int -> Int, (∀ v, π v = 0 ∨ π v = -1) /\ CJ π (gD d.all k) = (if up then -1 else 1) /\ El π d.all k = if up then -x else x
theorem K1 {d d' : Desk} (hl : Alike d d') (π : Int -> Int) (k : Nat) : El π d'.all k = El π d.all k := by
 unfold El CJ
 rw [hl.len]
 exact BQ λ i hi => by
  obtain ⟨a, b, c⟩ := hl.way i hi
  rw [a, b, c]
theorem BIZ {d d' : Desk} (h' : InS d') (hl : Alike d d') {k : Nat} (hk : k < d.all.length) {up : Bool} (hs : AYY d' (k : Int) up) : Cut d k up (gD d'.all k).now := by
 obtain ⟨a, b, c⟩ := hl.way k hk
 rcases BCN h' (by rw [hl.len]; exact hk) hs with h | ⟨π, h1, h2, h3⟩
 ·rw [c] at h; exact .inl h
 ·unfold CJ at h2
  rw [a, b] at h2
  rw [K1 hl] at h3
  exact .inr ⟨π, h1, h2, h3⟩
theorem AKF {d : Desk} (h : InS d) {at' : Nat} (ha : at' < d.all.length) (hw : ∀ d', InS d' -> Alike d d' -> (gD d'.all at').now - (gD d.all at').now < 100000000 /\ (gD d.all at').now - (gD d'.all at').now < 100000000) :
  Cut d at' false ((JM d at').getD default).lo /\ Cut d at' true ((JM d at').getD default).hi := by
 have hfu : (3000000000 : Int) < fuel := by unfold fuel; decide
 have e : ((at' : Nat) : Int).toNat = at' := by omega
 have hr : 0 <= (at' : Int) /\ (at' : Int) < d.all.length := by omega
 obtain ⟨dl, tl, l1, l2, l3, l4, l5, l6, l7⟩ := Pk (at' := (at' : Int)) (up := false) (most := 100000000) (by omega) fuel d 0 h hr (by omega) (by omega)
 obtain ⟨dh, th, h1, h2, h3, h4, h5, h6, h7⟩ := Pk (at' := (at' : Int)) (up := true) (most := 100000000) (by omega) fuel d 0 h hr (by omega) (by omega)
 rw [e] at l6 h6
 simp only [Bool.false_eq_true, if_false, if_true] at l6 h6
 have wl := hw dl l2 l3
 have wh := hw dh h2 h3
 have sl := l7.resolve_left (by omega)
 have sh := h7.resolve_left (by omega)
 have es : JM d at' = some ⟨(gD dl.all at').now, (gD dh.all at').now⟩ := by
  unfold JM YG
  rw [l1, h1]
  simp only [EW, e]
 rw [es]
 exact ⟨BIZ l2 l3 ha sl, BIZ h2 h3 ha sh⟩
variable {N : NetL} {T : TruthL}
theorem BKV (h : AB N = 0) (hc : EV N = 0) {i : Nat} (hi : i < N.r.length + N.g.length) : Cut (AO N) i false ((JM (AI N) i).getD default).lo /\ Cut (AO N) i true ((JM (AI N) i).getD default).hi := by
 obtain ⟨h1, π, hs⟩ := BY h
 obtain ⟨l1, l2, l3⟩ := VX h1
 have hi' : i < (AI N).all.length := by omega
 have hS := ATA h (by omega)
 have hL := hs.like
 have key := AKF hS hi' λ d' h' hl => by
  have h2 := hS.now i hi'
  have h3 := h'.now i (by rw [hl.len]; exact hi')
  rw [(hl.way i hi').2.2] at h3
  have := gC (BB h) hL i hi'
  omega
 have conv : ∀ up x, Cut (AI N) i up x -> Cut (AO N) i up x := λ up x hx => by
  obtain ⟨a, b, c⟩ := hL.way i (by rw [<- hL.len]; exact hi')
  unfold Cut CJ at hx ⊢
  rw [a, b, c] at hx
  rcases hx with hx | ⟨π, q1, q2, q3⟩
  ·exact .inl hx
  ·rw [K1 hL] at q3
   exact .inr ⟨π, q1, q2, q3⟩
 exact ⟨conv _ _ key.1, conv _ _ key.2⟩
theorem BDR (h : AB N = 0) (hc : EV N = 0) {st : List Int} (hb : grpBad N.g.length (-1) st = false) :
  Cut (GH (AI N) st) (AI N).all.length false (To ⟨N, st⟩).lo /\ Cut (GH (AI N) st) (AI N).all.length true (To ⟨N, st⟩).hi := by
 have hg := BB h
 have h8 := hg.g8
 have hs : Grp N.g.length st := (AEN ⟨hg.g1, h8⟩).1 hb
 obtain ⟨π, hf, hz, hL, hsome⟩ := cN h
 have hset := BBX h hc
 have hdt : AV N (S1 N) = AI N := WP hL
 have hsm : ∀ i, i < (AI N).all.length -> -1000000000 <= (gD (AI N).all i).now /\ (gD (AI N).all i).now <= 1000000000 := λ i hi => by have := Pv h hi; omega
 have hin := vT hset hs
 rw [hdt] at hin
 obtain ⟨g1, _⟩ := RC hg hs (by have := Eg hs; omega) hL hsm
 have bd : ∀ T, Can N T -> -8000000 <= Qq st T /\ Qq st T <= 8000000 := λ T hT => S5 hs h8 λ j hj => by
  have h1 := ((bR h).1 hT).2.2.1 j hj
  have := hg.g j hj
  omega
 exact AKF hin (at' := (AI N).all.length) (by omega) λ d' i a => by
  obtain ⟨T1, c1, v1⟩ := tT h hc hs i a
  obtain ⟨T2, c2, v2⟩ := tT h hc hs hin (Alike.refl _)
  have := bd T1 c1
  have := bd T2 c2
  omega
end Go.Bal
