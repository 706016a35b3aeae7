/- Package rating: ends of spans. -/
import Derived.Test.YtoihhodbkimedaaRatB
set_option linter.unusedVariables false
set_option linter.unusedSimpArgs false
namespace Go.Bal
open Go Go.Sym Go.Proofs
structure PP where
 l : List Pt
 p : Pt
def eqP (p q : Pt) : Bool := p.st == q.st && p.fl == q.fl
def dPP : List AVal -> Heap -> Option (PP × List (Nat × Nat) × List Nat)
 | [y, .d p], H => match dPts y H with
  | some (l, f) => some (⟨l, dPt p⟩, [], f)
  | none => none
 | _, _ => none
def xPP (a : PP) : List AVal := [.d (ePts a.l), .d (ePt a.p)]
def C_idxP : Ctr := { α := PP, xs := xPP, L := λ _ => [], val := λ a => .int (fY (λ i => eqP a.p (gD a.l i)) a.l.length 0), keep := λ _ => [], pre := λ a => [a.l.length < 4611686018427387904 /\ True] }
def BPW (a : PP) : Ann := { ann 19 [] with loops := λ id => if id = 2 then some [{ α := Nat, dflt := 0, T := λ k => ⟨[(0, .d (ePts a.l)), (3, .bptr 201 0), (7, .int a.l.length), (8, .int k)], [(201, .live (.box [.int a.p.st, .int a.p.fl]))]⟩, inv := λ k => k <= a.l.length /\ fY (λ i => eqP a.p (gD a.l i)) a.l.length 0 = fY (λ i => eqP a.p (gD a.l i)) (a.l.length - k) k, meas := λ k => a.l.length - k, first := [(201, 1000)] }] else none }
def BOG (a : PP) : Prop := CH Try.prog (BPW a) ALY (AI ALY) (xPP a) (AD []) (C_idxP.val a) [] [] []
abbrev cF:=@List.length Pt
abbrev pO:=@gD Pt instInhabitedPt
abbrev qP a (b:Nat->Pt) c d:=fY (λ i=>eqP (PP.p a) (b i)) c d
abbrev cD a b:=pO (PP.l a) b
abbrev fV a b c d:=qP a (λ i=>cD b i) c d
abbrev JL a:=cF (PP.l a)
abbrev Ow a b c:=fV a b (JL c) 0
abbrev Ns a b c d e:=CJ a b (FM c d) e
abbrev Td a b c d e f:=Ns a b c d (FM e f)
abbrev QU a b c d e:=Td a b c d c e
abbrev aU a:=AK (Uz (PP.p a))
abbrev tH a:=pX (PP.p a)
abbrev aG a:=AK (tH a)
abbrev FI a:=AK (BK a)
abbrev Zr a b:=AK (Uz (cD a b))
abbrev Bp a b:=pX (cD a b)
abbrev Pe a:=BO (JL a)
abbrev RX a b:=GA a (BK b)
attribute [go_sem] cF pO qP cD fV JL Ow Ns Td QU aU tH aG FI Zr Bp Pe RX
theorem BYB (a : PP) : (BOG a) = (YS (λ i=>JB (AY (Pe a) (AG (λ j=>AP j (JL a) (MT (Bp a j) (Zr a j)))) (FI (JL a)) (CN i) (aG a) (aU a)) (DB i (JL a)) (Ow a a a) (fV a a (FM (JL a) i) i)) (λ i=>DH (EB (DB i (JL a)) (Ow a a a) (fV a a (FM (JL a) i) i)) i (BK (JL a)) (BC (RX i (JL a)) (and (TU (tH a) (Bp a i)) (and (TU (Uz (PP.p a)) (Uz (cD a i))) PN)) (AO (Ow a a a) (BK i)) (SA (λ j=>QU (AY (Pe a) (AG (λ k=>AP k (JL a) (MT (Bp a k) (Zr a k)))) (FI (JL a)) (BJ j i) (aG a) (aU a)) (EB (DB j (JL a)) (Ow a a a) (fV a a (FM (JL a) j) j)) (JL a) j i))) (AO (Ow a a a) (-1)))) := by kernel_rfl
def rowP (l : List Pt) : AObj := .row 2 l.length λ i => ePt (gD l i)
def xPo (a : PP) : List AVal := [.own 100 2 0 a.l.length, .d (ePt a.p)]
def dPo : List AVal -> Heap -> Option (PP × List (Nat × Nat) × List Nat)
 | [.own id _ _ n, .d p], H => match H id with
  | .live (.row _ _ g) => some (⟨OC n λ i => dPt (g i), dPt p⟩, [(100, id)], [])
  | _ => none
 | _, _ => none
def C_idxO : Ctr := { ro := [100], α := PP, xs := xPo, L := λ a => [(100, rowP a.l)], val := λ a => .int (fY (λ i => eqP a.p (gD a.l i)) a.l.length 0), keep := λ a => [(100, .live (rowP a.l))], pre := λ a => [a.l.length < 4611686018427387904 /\ True] }
def BPN (a : PP) : Ann := { ann 19 [] with E := [100], loops := λ id => if id = 2 then some [{ α := Nat, dflt := 0, T := λ k => ⟨[(0, .own 100 2 0 a.l.length), (3, .bptr 201 0), (7, .int a.l.length), (8, .int k)], [(100, .live (rowP a.l)), (201, .live (.box [.int a.p.st, .int a.p.fl]))]⟩, inv := λ k => k <= a.l.length /\ fY (λ i => eqP a.p (gD a.l i)) a.l.length 0 = fY (λ i => eqP a.p (gD a.l i)) (a.l.length - k) k, meas := λ k => a.l.length - k, first := [(201, 1000)] }] else none }
def BRR (a : PP) : Prop := CH Try.prog (BPN a) ALY (AI ALY) (xPo a) (AD (C_idxO.L a)) (C_idxO.val a) (C_idxO.keep a) [] []
abbrev Il:=Nat.le
abbrev KT:=@HAdd.hAdd Nat Nat Nat (@instHAdd Nat instAddNat)
abbrev UH a b (c:Nat->Prop):=AE a b (AG c)
abbrev AC:=BO 0
abbrev CF a:=KT 0 a
abbrev JU a b:=Il (Nat.succ a) b
attribute [go_sem] Il KT UH AC CF JU
theorem BWC (a : PP) : (BRR a) = (YS (λ i=>JB (BI AC (Pe a) (FI (JL a)) (CN i) (Pe a) (AG (λ j=>AP j (JL a) (MT (Bp a j) (Zr a j)))) (aG a) (aU a)) (DB i (JL a)) (Ow a a a) (fV a a (FM (JL a) i) i)) (λ i=>DH (EB (DB i (JL a)) (Ow a a a) (fV a a (FM (JL a) i) i)) i (BK (JL a)) (BC (And (RX i (JL a)) (JU (CF i) (JL a))) (and (TU (tH a) (Bp a (CF i))) (and (TU (Uz (PP.p a)) (Uz (cD a (CF i)))) PN)) (UH (AO (Ow a a a) (BK i)) (Pe a) (λ j=>AP j (JL a) (MT (Bp a j) (Zr a j)))) (SA (λ j=>QU (BI AC (Pe a) (FI (JL a)) (BJ j i) (Pe a) (AG (λ k=>AP k (JL a) (MT (Bp a k) (Zr a k)))) (aG a) (aU a)) (EB (DB j (JL a)) (Ow a a a) (fV a a (FM (JL a) j) j)) (JL a) j i))) (UH (AO (Ow a a a) (-1)) (Pe a) (λ j=>AP j (JL a) (MT (Bp a j) (Zr a j)))))) := by kernel_rfl
theorem CBK (p q : Pt) : (p.st == q.st && (p.fl == q.fl && true)) = eqP p q := by unfold eqP; rw [Bool.and_true]
theorem BMN {p : Nat -> Bool} {n : Nat} (h : n < 4611686018427387904) : (∃ a : Nat, (a : Int) = 0 /\ a <= n /\ fY p n 0 = fY p (n - a) a) /\ ∀ a : Nat, a <= n /\ fY p n 0 = fY p (n - a) a -> ((a : Int) < n -> (0 <= (a : Int) /\ (a : Int) < n) /\ (p a = true -> fY p n 0 = a) /\ (p a = false -> ∃ b : Nat, (b : Int) = IntKind.i64.wrap ((a : Int) + 1) /\ (b <= n /\ fY p n 0 = fY p (n - b) b) /\ n - b < n - a)) /\ (¬(a : Int) < n -> fY p n 0 = -1) := by
 refine ⟨⟨0, rfl, Nat.zero_le _, rfl⟩, λ a ⟨h1, h2⟩ => ⟨λ hlt => ?_, λ hge => ?_⟩⟩
 ·have hlt : a < n := by omega
  refine ⟨⟨by omega, by omega⟩, λ hp => ?_, λ hp => ⟨a + 1, (EQ (by omega)).symm, ⟨by omega, ?_⟩, by omega⟩⟩
  ·rw [h2]; exact ABP hlt hp
  ·rw [h2]; exact AWZ hlt hp
 ·rw [h2]; exact AKH (by omega)
theorem BUP : AL Try.prog AQJ (C_idxP.spec dPP) := Ih C_idxP BPW [] [] BHS (λ _ => by kernel_rfl) (λ _ => AF) (λ (a : PP) h => by
 show BOG a; rw [BYB]<;> delta pX Uz KN PN FA AO AT AG CG CM BK DB DW DT QP PD RO FM TU SA cF pO AE AJ AP DR AK BO DK CA DP ED IG EP AY CJ JM JL JE IF cD BC EZ BJ EB DH FI CN GA MT qP JB Ns RX fV Bp Td QU Pe YS tH Ow Zr aU aG; simp only [CC, eq_self, implies_true, forall_const, CBK]
 have h : a.l.length < 4611686018427387904 /\ True := h
 exact BMN h.1) (λ _ => Jf rfl rfl) _
theorem BVV : AL Try.prog AQJ (C_idxO.spec dPo) := Ih C_idxO BPN [] [] BHS (λ _ => by kernel_rfl) (λ _ => AF) (λ (a : PP) h => by
 show BRR a; rw [BWC]<;> delta pX Uz KN PN FA AO AT AG CG CM BK DB DW DT QP PD RO FM TU SA cF pO Il KT AE AJ AP DR AK BO DK AH CA DP AC ED IG EP CF CJ JM JL JE IF cD BC BI EZ BJ EB DH FI CN GA MT JU qP JB Ns RX fV Bp Td UH QU Pe YS tH Ow Zr aU aG; simp only [CC, eq_self, implies_true, forall_const, CBK]
 have h : a.l.length < 4611686018427387904 /\ True := h
 obtain ⟨e1, e2⟩ := BMN (p := λ i => eqP a.p (gD a.l i)) h.1
 exact ⟨e1, λ k hk => ⟨λ hl => ⟨⟨((e2 k hk).1 hl).1, by omega⟩, ((e2 k hk).1 hl).2⟩, (e2 k hk).2⟩⟩) (λ _ => Jf rfl rfl) _
theorem BIG {a : PP} : decide (a.p ∈ a.l) = decide (fY (λ i => eqP a.p (gD a.l i)) a.l.length 0 >= 0) := by
 rw [Bool.eq_iff_iff]
 simp only [decide_eq_true_eq, ge_iff_le, BCY, Nat.zero_le, Nat.zero_add, true_and]
 have e : ∀ q : Pt, eqP a.p q = true ↔ a.p = q := λ q => by
  obtain ⟨⟨⟩, ⟨x, y⟩⟩ := a
  all_goals obtain ⟨z, w⟩ := q; simp [eqP]
 constructor
 ·intro h
  obtain ⟨i, hi, hx⟩ := YL h
  exact ⟨i, hi, (e _).2 hx.symm⟩
 ·rintro ⟨i, hi, hx⟩
  rw [(e _).1 hx]; exact DU hi
def C_conO : Ctr := { C_idxO with val := λ (a : PP) => .bool (decide (a.p ∈ a.l)) }
def BRB : Ann := { ann 9 [(AQJ, C_idxO.spec dPo)] with E := [100] }
def BTC (a : PP) : Prop := CH Try.prog BRB ANE (AI ANE) (xPo a) (AD (C_conO.L a)) (C_conO.val a) (C_conO.keep a) [] []
abbrev AJI:=λ (x0 : List Pt) (x1 : Pt) => decide (x1 ∈ x0)
abbrev Ty a:=(@OC Pt) (JL a) (λ i=>cD a i)
abbrev Tj a:=cF (Ty a)
abbrev SO a:=And AC a
abbrev Sr a b c d:=AJ a b c a d
abbrev HX a b (c:Nat->Prop) d e:=AJ a b (AG c) d e
abbrev Ko a b c d e f:=AP a b (uB c d e f)
abbrev Do a b:=Uz (pO a b)
abbrev Dv a b:=pX (pO a b)
attribute [go_sem] AJI Ty Tj SO Sr HX Ko Do Dv
theorem BWQ (a : PP) : (BTC a) = (AH (SO (Sr (AT (Tj a) (JL a)) (aG a) (aU a) (HX (AG (λ i=>Ko i (Tj a) (Dv (Ty a) i) (Bp a i) (Do (Ty a) i) (Uz (cD a i)))) (AT (JL a) (Tj a)) (λ i=>Ko i (JL a) (Bp a i) (Dv (Ty a) i) (Uz (cD a i)) (Do (Ty a) i)) (CM (Tj a) 4611686018427387904) EF))) (KY (AJI (PP.l a) (PP.p a)) (YI (qP a (λ i=>pO (Ty a) i) (Tj a) 0))) (Pe a) (AG (λ i=>AP i (JL a) (MT (Bp a i) (Zr a i))))) := by kernel_rfl
def C_conP : Ctr := { C_idxP with val := λ (a : PP) => .bool (decide (a.p ∈ a.l)) }
def BQA : Ann := ann 9 [(AQJ, C_idxP.spec dPP)]
def BOU (a : PP) : Prop := CH Try.prog BQA ANE (AI ANE) (xPP a) (AD []) (C_conP.val a) [] [] []
theorem BXY (a : PP) : (BOU a) = (And (AY (AT (Tj a) (JL a)) (AG (λ i=>Ko i (Tj a) (Dv (Ty a) i) (Bp a i) (Do (Ty a) i) (Uz (cD a i)))) (aG a) (aU a) (CM (Tj a) 4611686018427387904) EF) (KY (AJI (PP.l a) (PP.p a)) (YI (qP a (λ i=>pO (Ty a) i) (Tj a) 0)))) := by kernel_rfl
theorem BUO : AL Try.prog AXA (C_conO.spec dPo) := Ctr.spec_ok (C := C_conO) (λ (a : PP) h => Lg (A := BRB) (ren := []) (fz := []) BGS (by kernel_rfl) (AB BVV AF) (by
 show BTC a; rw [BWQ]<;> delta KY hd6 pX Uz AO AT AG CG CM EF cF pO AJI AE AJ AP AK BO Sr AH AC JL cD EB MT HX uB Ko qP Ty Do Bp Dv SO Tj Pe YI tH Zr aU aG; simp only [CC, eq_self, implies_true, forall_const]
 have h : a.l.length < 4611686018427387904 /\ True := h
 exact ⟨h.1, BIG⟩)) _
theorem BXB : AL Try.prog AXA (C_conP.spec dPP) := Ctr.spec_ok (C := C_conP) (λ (a : PP) h => Lg (A := BQA) (L := []) (keep := []) (ren := []) (fz := []) BGS (by kernel_rfl) (AB BUP AF) (by
 show BOU a; rw [BXY]<;> delta KY hd6 pX Uz AO AT AG CG CM EF cF pO AJI AE AJ AP AK AY JL cD EB uB Ko qP Ty Do Bp Dv Tj YI tH aU aG; simp only [CC, eq_self, implies_true, forall_const]
 have h : a.l.length < 4611686018427387904 /\ True := h
 exact ⟨h.1, BIG⟩)) _
def addP (l : List Pt) (p : Pt) : List Pt := if p ∈ l then l else l ++ [p]
def addG (l : List Pt) (g : Gau) : List Pt := addP (addP l ⟨g.st, g.lo⟩) ⟨g.st, g.hi⟩
def AA (s : List Gau) : List Pt := s.foldl addG []
def Im (s : List Gau) (k : Nat) : List Pt := (s.take k).foldl addG []
def sE (s : List Gau) (k j : Nat) : List Pt := if j = 0 then Im s k else if j = 1 then addP (Im s k) ⟨(gD s k).st, (gD s k).lo⟩ else Im s (k + 1)
structure PtK where
 k : Nat
 l : List Pt
 deriving Inhabited
structure PtJ where
 k : Nat
 j : Nat
 l : List Pt
 deriving Inhabited
def enS (s : List Gau) (k : Nat) : List (Nat × AVal) := [(9, .d (DX s)), (10, .int s.length), (11, .int k)]
def enI (s : List Gau) (k j : Nat) : List (Nat × AVal) := [(5, .bptr 302 0), (21, .own 303 1 0 2), (22, .int 2), (23, .int j)] ++ enS s k
def enH (g : Gau) : List (Nat × HCell) := [(302, .live (.box [.int g.st, .int g.lo, .int g.hi])), (303, .live (.row 1 2 λ i => PT (gD [g.lo, g.hi] i)))]
def enN (s : List Gau) : Shape := { α := One, dflt := default, T := λ _ => ⟨(3, .d VG) :: enS s 0, []⟩, inv := λ _ => True, meas := λ _ => s.length + 1, tag := [0] }
def enO (s : List Gau) : Shape := { α := PtK, dflt := default, T := λ x => ⟨(3, .own 301 2 0 x.l.length) :: enS s x.k, [(301, .live (rowP x.l))]⟩, inv := λ x => x.k <= s.length /\ 1 <= x.k /\ x.l = Im s x.k, meas := λ x => s.length - x.k, tag := [1] }
def enA (s : List Gau) : Shape := { α := One, dflt := default, T := λ _ => ⟨(3, .d VG) :: enI s 0 0, enH (gD s 0)⟩, inv := λ _ => 0 < s.length, meas := λ _ => 3, first := [(302, 5032), (303, 6096)] }
def enB (s : List Gau) (q : Nat) : Shape := { α := PtJ, dflt := default, T := λ x => ⟨(3, .own 301 2 0 x.l.length) :: enI s x.k x.j, (301, .live (rowP x.l)) :: enH (gD s x.k)⟩, inv := λ x => x.k < s.length /\ x.j <= 2 /\ s.length - x.k <= q /\ x.l = sE s x.k x.j, meas := λ x => 2 - x.j, first := [(302, 5032), (303, 6096)] }
def enC (s : List Gau) (m q : Nat) (f : List (Nat × Nat)) : Shape := { α := PtJ, dflt := default, T := λ x => ⟨(3, .own 301 2 0 x.l.length) :: enI s x.k x.j, (301, .live (rowP x.l)) :: enH (gD s x.k)⟩, inv := λ x => x.k < s.length /\ x.j < 2 /\ 2 - x.j <= m /\ s.length - x.k <= q /\ x.l = sE s x.k (x.j + 1), meas := λ _ => 0, first := f }
def C_ends : Ctr := { α := List Gau, xs := λ l => [.d (DX l)], L := λ _ => [], val := λ l => .d (ePts (AA l)), keep := λ _ => [], pre := λ l => [l.length < 1073741824 /\ True] }
def BRJ (s : List Gau) : Ann := { ann 42 [(AXA, orS (C_conO.spec dPo) (C_conP.spec dPP))] with mt := λ id => id == 10, loops := λ id => if id = 3 then some [enN s, enO s] else none, inner := λ gs id => if id = 6 then (if gs.getD 1 0 = 0 then some [enA s, enB s (gs.getD 0 0)] else some [enB s (gs.getD 0 0)]) else none, cutIn := λ gs id => if id = 11 then some [enC s (gs.getD 0 0) (gs.getD 1 0) [(301, 11048)], enC s (gs.getD 0 0) (gs.getD 1 0) []] else none }
def BNM (s : List Gau) : Prop := CH Try.prog (BRJ s) BGM (AI BGM) (C_ends.xs s) (AD []) (C_ends.val s) [] [] [301]
abbrev WH:=@Exists One
abbrev NR:=λ (f : One -> Prop) => ∀ (x : One), f x
abbrev BJX:=@List.cons Int
abbrev pM:=@List.nil Int
abbrev Ie:=@cond Int
abbrev Is:=λ (x0 x1 : Nat) => decide (x0 = x1)
abbrev tR:=@Exists PtJ
abbrev PM:=PtJ.j
abbrev KE:=PtJ.k
abbrev ASK:=@Eq (List Pt)
abbrev AOO:=λ (f : PtJ -> Prop) => ∀ (x : PtJ), f x
abbrev Ej:=@HMul.hMul Nat Nat Nat (@instHMul Nat instMulNat)
abbrev Ll:=λ (x0 x1 : Nat) => decide (x0 < x1)
abbrev cJ:=PtK.l
abbrev Co:=PtK.k
abbrev Ts a:=DB (CF a) a
abbrev cY a:=cF (cJ a)
abbrev Xy a b:=ON a (Co b)
abbrev QW a:=DB 1 a
abbrev Om a b c:=AE a (QW b) c
abbrev E3 a b c d e f g:=BI a b c d e f b g
abbrev AZS a b:=pO (PtJ.l a) b
abbrev QC a b:=Uz (AZS a b)
abbrev PW a b:=pX (AZS a b)
abbrev VY a:=cF (PtJ.l a)
abbrev yH a b:=AT a (VY b)
abbrev Bu a b:=AE a b b
abbrev TK a:=FM 2 (PM a)
abbrev Dw a b c d:=ASK (PtJ.l a) (sE b (KE c) d)
abbrev U3 a b:=ON a (KE b)
abbrev Tq a b c:=DB (U3 a b) c
abbrev Ld a:=DB a 2
abbrev tU a:=Ld (PM a)
abbrev Ki a b:=CM a (DM b)
abbrev Cy a b:=Ki (KE a) b
abbrev Ia a b c d:=AJ a b a c d
abbrev Dq a b c d e f g:=Ia AC a b (AJ c d e f g)
abbrev KJ a b c d e f g h (p:Nat->Prop):=AQ a b c d e f g h (AG p)
abbrev ZI a b c d e:=AP a b (HI c d e)
abbrev TC a b c d:=ZI a b c a d
abbrev N7 a b c d e:=BJX (BH a b) (BJX (BN c d) e)
abbrev QB a b:=N7 a (KE b) a (KE b) pM
abbrev PS:=BO 2
abbrev Vy a b c d:=EN a (KE b) c d
abbrev Yc a b c d:=DN a (KE b) c d
abbrev aL a b c d:=DY a (KE b) c d
abbrev Qt a b c d e f:=Ko a (VY b) c d e f
abbrev Uf a b:=yH (VY a) b
abbrev APF a b:=EA (KE a) b
abbrev oX a b:=APF a (KE b)
abbrev Jj:=UQ 2
abbrev IE a b c d e f:=AJ a b c (DB d e) f
abbrev KF a:=KT a 1
abbrev eO a:=KF (PM a)
abbrev eF a:=CM (PM a) 2
abbrev HM a b c d e:=AE a b (FA c d e)
abbrev QA a b c d e f g:=AY a b c (DB d e) f g
abbrev JG a b c d:=Ie (Ll a b) c d
abbrev fD a:=CF (PM a)
abbrev IM a b:=AT a (KF b)
abbrev NY a:=DB a 140737488355328
abbrev Gr a b c d e:=IE a b c d 9223372036854775807 (NY e)
abbrev Ti a b c d e:=Gr a b c d (Ej d e)
abbrev UY a:=MY Dc a
abbrev IK a:=CM 0 a
abbrev Dl:=UY (IK 1)
abbrev YY a b c d:=Ti a b Dl c d
abbrev cH a b c d:=And a (AP b c (BO d))
abbrev Bv a b c:=cH a 0 b c
abbrev Yl a b:=Bv (BO a) a b
abbrev VC a b c d:=YY (Yl a b) c (KF a) d
abbrev aD a b:=Bv a 1 b
abbrev Mw a:=aD Df a
abbrev Mp a:=(@OC Pt) (VY a) (λ i=>AZS a i)
abbrev dY a:=cF (Mp a)
abbrev Eb a b c:=Ie (Is a 0) b c
abbrev xX a:=And a a
abbrev NS a:=KF (DM a)
abbrev YO a b:=NR (λ i=>CG a b)
abbrev cO a:=DB a 3
abbrev HC a:=AT a 1
abbrev ZT a b:=And a (AP 0 0 b)
abbrev SE a:=ZT EF a
abbrev Eh a b c d e:=Gr (SE a) b c d e
abbrev Dk:=CG UX (IK 1)
abbrev Zh a b c:=Eh a b Dk 1 c
abbrev Hw a:=AT 0 a
abbrev Gn a b c:=Zh (Hw a) b c
abbrev TN a b:=WH (λ i=>And a b)
abbrev DS a b c d e f g:=AE a b (AJ c d e f g)
abbrev ZJ a b:=AP a 0 b
abbrev BM:=AG (λ i=>ZJ i (JQ Dc))
abbrev LP a:=TN a EF
attribute [go_sem] WH NR BJX pM Ie Is tR PM KE ASK AOO Ej Ll cJ Co Ts cY Xy QW Om E3 AZS QC PW VY yH Bu TK Dw U3 Tq Ld tU Ki Cy Ia Dq KJ ZI TC N7 QB PS Vy Yc aL Qt Uf APF oX Jj IE KF eO eF HM QA JG fD IM NY Gr Ti UY IK Dl YY cH Bv Yl VC aD Mw Mp dY Eb xX NS YO cO HC ZT SE Eh Dk Zh Hw Gn TN DS ZJ BM LP
theorem BVC (s : List Gau) : (BNM s) = (AE (LP (AY AC BM (AS s) (CB s) (JS s) BA)) (NR (λ i=>DH EF 0 (FQ s) (AH (YM 0 s) (TN (DS AC BM AC PS Jj BA (KJ (AS s) (CB s) (JS s) BA (Th s 0) (AK (BH s 0)) (AK (BN s 0)) PS (λ j=>AP j 2 (FT (N7 s 0 s 0 pM) j (Eb j (BH s 0) (BN s 0)))))) (JU 0 (DM s))) (YO (JU 0 (DM s)) (Bu (AH (And (RX 0 2) (JU (CF 0) 2)) (AY AC AC (Th s 0) (MX (N7 s 0 s 0 pM) (CF 0)) (IK 4611686018427387904) EF) (Gn 2 (Mw 2) 16) (tR (λ j=>AY (Dq (HC (VY j)) PS Jj (EA (PM j) 0) (AS s) (CB s) (KJ (JS s) (APF j 0) (HC (VY j)) (AG (λ k=>Qt k j (PW j k) (AX s 0) (QC j k) (EM (N7 s 0 s 0 pM) (CF 0)))) (aL s j s 0) (Yc s j s 0) (Vy s j s 0) PS (λ k=>TC k 2 (QB s j) (N7 s 0 s 0 pM)))) (Cy j s) (eF j) (cO (TK j)) (Tq s j (NS s)) (Dw j s j (eO j))))) (AOO (λ j=>CG (IE (Cy j s) (eF j) (cO (TK j)) (U3 s j) (NS s) (Dw j s j (eO j))) (tR (λ k=>FU (Dq (Uf k j) PS Jj (BJ (PM k) (PM j)) (AS s) (CB s) (KJ (JS s) (oX k j) (Uf k j) (AG (λ l=>Qt l k (PW k l) (PW j l) (QC k l) (QC j l))) (aL s k s (KE j)) (Yc s k s (KE j)) (Vy s k s (KE j)) PS (λ l=>TC l 2 (QB s k) (QB s j)))) (Cy k s) (tU k) (Tq s k (NS s)) (Dw k s k (PM k)) (TK k) 3)))))) (AOO (λ j=>DH (AH (Cy j s) (tU j) (Tq s j (NS s)) (Dw j s j (PM j))) (PM j) 2 (Bu (HM (And (RX (PM j) 2) (JU (fD j) 2)) (SO (Sr (yH (dY j) j) (Th s (KE j)) (MX (QB s j) (fD j)) (HX (AG (λ k=>Ko k (dY j) (Dv (Mp j) k) (PW j k) (Do (Mp j) k) (QC j k))) (AT (VY j) (dY j)) (λ k=>Qt k j (PW j k) (Dv (Mp j) k) (QC j k) (Do (Mp j) k)) (CM (dY j) 4611686018427387904) EF))) (not (AJI (Mp j) (Pt.mk (AX s (KE j)) (EM (QB s j) (fD j))))) (And (VC (VY j) 2 (Mw 2) 16) (tR (λ k=>QA (Dq (IM (VY k) (VY j)) PS Jj (EA (PM k) (PM j)) (AS s) (CB s) (KJ (JS s) (oX k j) (IM (VY k) (VY j)) (AG (λ l=>Qt l k (PW k l) (JG l (VY j) (PW j l) (AX s (KE j))) (QC k l) (JG l (VY j) (QC j l) (EM (QB s j) (fD j))))) (aL s k s (KE j)) (Yc s k s (KE j)) (Vy s k s (KE j)) PS (λ l=>TC l 2 (QB s k) (QB s j)))) (Cy k s) (eF k) (TK k) (TK j) (Tq s k (NS s)) (Dw k s k (eO k))))) (tR (λ k=>QA (Dq (Uf k j) PS Jj (EA (PM k) (PM j)) (AS s) (CB s) (KJ (JS s) (oX k j) (Uf k j) (AG (λ l=>Qt l k (PW k l) (PW j l) (QC k l) (QC j l))) (aL s k s (KE j)) (Yc s k s (KE j)) (Vy s k s (KE j)) PS (λ l=>TC l 2 (QB s k) (QB s j)))) (Cy k s) (eF k) (TK k) (TK j) (Tq s k (NS s)) (Dw k s k (eO k))))) (AOO (λ k=>CG (IE (Cy k s) (eF k) (DB (TK k) (TK j)) (U3 s k) (NS s) (Dw k s k (eO k))) (tR (λ l=>FU (Dq (Uf l k) PS Jj (BJ (PM l) (PM k)) (AS s) (CB s) (KJ (JS s) (oX l k) (Uf l k) (AG (λ m=>Qt m l (PW l m) (PW k m) (QC l m) (QC k m))) (aL s l s (KE k)) (Yc s l s (KE k)) (Vy s l s (KE k)) PS (λ m=>TC m 2 (QB s l) (QB s k)))) (Cy l s) (tU l) (Tq s l (NS s)) (Dw l s l (PM l)) (TK l) (TK j)))))) ((@Exists PtK) (λ k=>CJ (E3 AC (yH (cY k) j) (AS s) (CB s) (JS s) (BJ (Co k) (KE j)) (AG (λ l=>Ko l (cY k) (Dv (cJ k) l) (PW j l) (Do (cJ k) l) (QC j l)))) (Om (IA (Co k) s) (Co k) (ASK (cJ k) (Im s (Co k)))) (Xy s k) (NS s)))))) (xX (AT (cF (AA s)) 0)))) ((λ (f : PtK -> Prop) => ∀ (x : PtK), f x) (λ i=>DH (Om (IA (Co i) s) (Co i) (ASK (cJ i) (Im s (Co i)))) (Co i) (FQ s) (AE (YM (Co i) s) (tR (λ j=>IE (Dq (AT (VY j) (cY i)) PS Jj (CN (PM j)) (AS s) (CB s) (KJ (JS s) (APF j (Co i)) (AT (VY j) (cY i)) (AG (λ k=>Qt k j (PW j k) (Dv (cJ i) k) (QC j k) (Do (cJ i) k))) (aL s j s (Co i)) (Yc s j s (Co i)) (Vy s j s (Co i)) PS (λ k=>AP k 2 (FT (QB s j) k (Eb k (BH s (Co i)) (BN s (Co i))))))) (Cy j s) (tU j) (U3 s j) (Xy s i) (Dw j s j (PM j)))) (AOO (λ j=>DH (AH (Cy j s) (tU j) (Tq s j (Xy s i)) (Dw j s j (PM j))) (PM j) 2 (Bu (HM (And (RX (PM j) 2) (JU (fD j) 2)) (SO (Sr (yH (dY j) j) (Th s (KE j)) (MX (QB s j) (fD j)) (HX (AG (λ k=>Ko k (dY j) (Dv (Mp j) k) (PW j k) (Do (Mp j) k) (QC j k))) (AT (VY j) (dY j)) (λ k=>Qt k j (PW j k) (Dv (Mp j) k) (QC j k) (Do (Mp j) k)) (CM (dY j) 4611686018427387904) EF))) (not (AJI (Mp j) (Pt.mk (AX s (KE j)) (EM (QB s j) (fD j))))) (And (VC (VY j) 2 (Mw 2) 16) (tR (λ k=>QA (Dq (IM (VY k) (VY j)) PS Jj (EA (PM k) (PM j)) (AS s) (CB s) (KJ (JS s) (oX k j) (IM (VY k) (VY j)) (AG (λ l=>Qt l k (PW k l) (JG l (VY j) (PW j l) (AX s (KE j))) (QC k l) (JG l (VY j) (QC j l) (EM (QB s j) (fD j))))) (aL s k s (KE j)) (Yc s k s (KE j)) (Vy s k s (KE j)) PS (λ l=>TC l 2 (QB s k) (QB s j)))) (Cy k s) (eF k) (TK k) (TK j) (Tq s k (Xy s i)) (Dw k s k (eO k))))) (tR (λ k=>QA (Dq (Uf k j) PS Jj (EA (PM k) (PM j)) (AS s) (CB s) (KJ (JS s) (oX k j) (Uf k j) (AG (λ l=>Qt l k (PW k l) (PW j l) (QC k l) (QC j l))) (aL s k s (KE j)) (Yc s k s (KE j)) (Vy s k s (KE j)) PS (λ l=>TC l 2 (QB s k) (QB s j)))) (Cy k s) (eF k) (TK k) (TK j) (Tq s k (Xy s i)) (Dw k s k (eO k))))) (AOO (λ k=>CG (IE (Cy k s) (eF k) (DB (TK k) (TK j)) (U3 s k) (Xy s i) (Dw k s k (eO k))) (tR (λ l=>FU (Dq (Uf l k) PS Jj (BJ (PM l) (PM k)) (AS s) (CB s) (KJ (JS s) (oX l k) (Uf l k) (AG (λ m=>Qt m l (PW l m) (PW k m) (QC l m) (QC k m))) (aL s l s (KE k)) (Yc s l s (KE k)) (Vy s l s (KE k)) PS (λ m=>TC m 2 (QB s l) (QB s k)))) (Cy l s) (tU l) (Tq s l (Xy s i)) (Dw l s l (PM l)) (TK l) (TK j)))))) ((@Exists PtK) (λ k=>CJ (E3 AC (yH (cY k) j) (AS s) (CB s) (JS s) (BJ (Co k) (KE j)) (AG (λ l=>Ko l (cY k) (Dv (cJ k) l) (PW j l) (Do (cJ k) l) (QC j l)))) (Om (IA (Co k) s) (Co k) (ASK (cJ k) (Im s (Co k)))) (Xy s k) (Xy s i)))))) (UH (AT (cF (AA s)) (cY i)) (Ts (cY i)) (λ j=>Ko j (cF (AA s)) (Dv (AA s) j) (Dv (cJ i) (CF j)) (Do (AA s) j) (Do (cJ i) (CF j))))))) := by kernel_rfl
theorem AMV (l : List Pt) (p : Pt) : (addP l p).length <= l.length + 1 := by unfold addP; split <;> simp
theorem AQS {s : List Gau} {k : Nat} (h : k < s.length) : Im s (k + 1) = addG (Im s k) (gD s k) := by
 unfold Im; rw [SQ h, List.foldl_append]; rfl
theorem Vg {s : List Gau} : ∀ k, k <= s.length -> (Im s k).length <= 2 * k
 | 0, _ => by simp [Im]
 | k + 1, h => by
  rw [AQS (by omega)]
  have := Vg (s := s) k (by omega)
  have h1 := AMV (Im s k) ⟨(gD s k).st, (gD s k).lo⟩
  have h2 := AMV (addP (Im s k) ⟨(gD s k).st, (gD s k).lo⟩) ⟨(gD s k).st, (gD s k).hi⟩
  unfold addG; omega
theorem BED {s : List Gau} {k j : Nat} (h : k < s.length) (hj : j < 2) : sE s k (j + 1) = addP (sE s k j) ⟨(gD s k).st, gD [(gD s k).lo, (gD s k).hi] j⟩ := by
 match j, hj with
 | 0, _ => rfl
 | 1, _ => exact AQS h
theorem BLY {s : List Gau} {k j : Nat} (h : k < s.length) (hj : j <= 2) : (sE s k j).length <= 2 * s.length := by
 match j, hj with
 | 0, _ => have := Vg (s := s) k (by omega); show (Im s k).length <= _; omega
 | 1, _ =>
  have := Vg (s := s) k (by omega)
  have h1 := AMV (Im s k) ⟨(gD s k).st, (gD s k).lo⟩
  show (addP _ _).length <= _; omega
 | 2, _ => have := Vg (s := s) (k + 1) (by omega); show (Im s (k + 1)).length <= _; omega
theorem BWL {l : List Pt} {p : Pt} (h : p ∈ l) : addP l p = l := if_pos h
theorem BUG {l : List Pt} {p : Pt} (h : ¬ p ∈ l) : addP l p = l ++ [p] := if_neg h
theorem BZD (l : List Pt) (p : Pt) (i : Nat) (hi : i < (l ++ [p]).length) : ((gD (l ++ [p]) i).st = bif decide (i < l.length) then (gD l i).st else p.st) /\ (gD (l ++ [p]) i).fl = bif decide (i < l.length) then (gD l i).fl else p.fl := by
 rw [bV _ _ (by simpa using hi)]
 cases decide (i < l.length) <;> exact ⟨rfl, rfl⟩
theorem CCQ (s : List Gau) (hn : s.length < 1073741824) : BNM s := by
 rw [BVC]<;> delta KY Dc GH HK FK pX Uz KN PN FA AO AT AG CG CM EM BK DB DW DT QP PD RO FM YC DM GP EF cF pO Il KT AJI WH NR BJX pM Ie Is tR PM KE ASK AOO Ej Ll cJ Co AE FQ AJ AP DR AK Bu BO JQ Ia xX Sr DK AX AQ AH BH CY BN CL CA KF DP FT GI AC ED IG HI DF MX CF DG EN AY ZJ LW CJ DE DN AS EA ZI DS DY ON MY VY JM TC BM MK KJ IA UQ AZS JG JE IF IE cH Cv HD CB IK BA BI E3 EZ NY Df BJ EB Ld Ki IM JS Bv QW DH HC Gr TN NS CN GA UX UY ZT SE N7 QC Dl HX PW HM JU FU uB Dk PS Eh cO aD Ti QB Mw TK Ko LP Mp YY Cy U3 YO yH QA RX Zh Dw Do Jj Dv Eb YM UH Yl SO Hw Uf cY Tq Xy APF fD dY VC eO Dq Om Gn eF Qt aL Yc Th Vy tU Ts oX; simp only [CC, eq_self, implies_true, forall_const]
 have cut : ∀ (q m : Nat) (c : PtJ), c.k < s.length /\ c.j < 2 /\ 2 - c.j <= m /\ s.length - c.k <= q /\ c.l = sE s c.k (c.j + 1) -> ∃ b : PtJ, (b.l.length = c.l.length /\ (b.j : Int) = IntKind.i64.wrap ((c.j : Int) + 1) /\ (b.k : Int) = c.k /\ b.l.length = c.l.length /\ (∀ (i : Nat), i < b.l.length -> (gD b.l i).st = (gD c.l i).st /\ (gD b.l i).fl = (gD c.l i).fl) /\ (gD s b.k).st = (gD s c.k).st /\ (gD s b.k).lo = (gD s c.k).lo /\ (gD s b.k).hi = (gD s c.k).hi /\ ∀ (i : Nat), i < 2 -> gD [(gD s b.k).lo, (gD s b.k).hi] i = gD [(gD s c.k).lo, (gD s c.k).hi] i) /\ (b.k < s.length /\ b.j <= 2 /\ s.length - b.k <= q /\ b.l = sE s b.k b.j) /\ 2 - b.j < m := λ q m c hc =>
  ⟨⟨c.k, c.j + 1, c.l⟩, ⟨rfl, (EQ (by omega)).symm, rfl, rfl, λ _ _ => ⟨rfl, rfl⟩, rfl, rfl, rfl, λ _ _ => rfl⟩, ⟨hc.1, by show c.j + 1 <= 2; omega, hc.2.2.2.1, hc.2.2.2.2⟩, by show 2 - (c.j + 1) < m; omega⟩
 have go : ∀ (q : Nat) (b : PtJ), b.k < s.length /\ b.j <= 2 /\ s.length - b.k <= q /\ b.l = sE s b.k b.j -> (b.j : Int) < 2 -> b.l.length < 4611686018427387904 /\ b.l.length < 9223372036854775807 /\ (b.l.length + 1) * 16 <= 140737488355328 /\ ∀ p : Pt, p = ⟨(gD s b.k).st, gD [(gD s b.k).lo, (gD s b.k).hi] b.j⟩ -> (¬ p ∈ b.l -> b.l ++ [p] = sE s b.k (b.j + 1)) /\ (p ∈ b.l -> b.l = sE s b.k (b.j + 1)) := λ q b hb hj => by
  have hl := BLY hb.1 hb.2.1
  rw [<- hb.2.2.2] at hl
  refine ⟨by omega, by omega, by omega, λ p hp => ?_⟩
  rw [BED hb.1 (by omega), <- hb.2.2.2, <- hp]
  exact ⟨λ h => (BUG h).symm, λ h => (BWL h).symm⟩
 have two : ∀ (g : Gau) (i : Nat), i < 2 -> gD [g.lo, g.hi] i = bif decide (i = 0) then g.lo else g.hi := λ g i hi => by
  match i, hi with
  | 0, _ => rfl
  | 1, _ => rfl
 refine ⟨⟨default, trivial⟩, ⟨λ h0 => ⟨⟨by omega, by omega⟩, ⟨default, two _, by omega⟩, λ h1 => ⟨⟨⟨by omega, by omega⟩, by omega, by simp, ⟨⟨0, 0, [⟨(gD s 0).st, (gD s 0).lo⟩]⟩, ⟨rfl, rfl, rfl, rfl, λ i hi => ?_, rfl, rfl, rfl, λ _ _ => rfl⟩, h1, by simp, by simp, by simp, rfl⟩⟩, cut _ _⟩,
  λ b hb => ⟨λ hj => ⟨⟨⟨by omega, by omega⟩, (go _ b hb hj).1, λ hm => ⟨⟨by simp, by simp, (go _ b hb hj).2.1, (go _ b hb hj).2.2.1⟩, ⟨b.k, b.j, b.l ++ [_]⟩, ⟨by simp, rfl, rfl, by simp, BZD b.l _, rfl, rfl, rfl, λ _ _ => rfl⟩, hb.1, by show b.j < 2; omega, Nat.le_refl _, hb.2.2.1, ((go _ b hb hj).2.2.2 _ rfl).1 hm⟩, λ hm => ⟨⟨b.k, b.j, b.l⟩, ⟨rfl, rfl, rfl, rfl, λ _ _ => ⟨rfl, rfl⟩, rfl, rfl, rfl, λ _ _ => rfl⟩, hb.1, by show b.j < 2; omega, Nat.le_refl _, hb.2.2.1, ((go _ b hb hj).2.2.2 _ rfl).2 hm⟩⟩, cut _ _⟩, λ hj => ?_⟩⟩, λ h0 => ?_⟩,
  λ a ha => ⟨λ hk => ⟨⟨by omega, by omega⟩, ⟨⟨a.k, 0, a.l⟩, ⟨rfl, rfl, rfl, rfl, λ _ _ => ⟨rfl, rfl⟩, rfl, rfl, rfl, two _⟩, by show a.k < _; omega, by simp, Nat.le_refl _, ha.2.2⟩,
  λ b hb => ⟨λ hj => ⟨⟨⟨by omega, by omega⟩, (go _ b hb hj).1, λ hm => ⟨⟨by simp, by simp, (go _ b hb hj).2.1, (go _ b hb hj).2.2.1⟩, ⟨b.k, b.j, b.l ++ [_]⟩, ⟨by simp, rfl, rfl, by simp, BZD b.l _, rfl, rfl, rfl, λ _ _ => rfl⟩, hb.1, by show b.j < 2; omega, Nat.le_refl _, hb.2.2.1, ((go _ b hb hj).2.2.2 _ rfl).1 hm⟩, λ hm => ⟨⟨b.k, b.j, b.l⟩, ⟨rfl, rfl, rfl, rfl, λ _ _ => ⟨rfl, rfl⟩, rfl, rfl, rfl, λ _ _ => rfl⟩, hb.1, by show b.j < 2; omega, Nat.le_refl _, hb.2.2.1, ((go _ b hb hj).2.2.2 _ rfl).2 hm⟩⟩, cut _ _⟩, λ hj => ?_⟩⟩, λ hk => ?_⟩⟩
 ·have : i = 0 := by have hi : i < 1 := hi; omega
  subst this; exact ⟨rfl, rfl⟩
 ·have h2 : b.j = 2 := by omega
  exact ⟨⟨b.k + 1, b.l⟩, ⟨rfl, (EQ (by omega)).symm, rfl, λ _ _ => ⟨rfl, rfl⟩⟩, ⟨by show b.k + 1 <= _; omega, Nat.succ_pos _, by rw [hb.2.2.2, h2]; rfl⟩, by show s.length - (b.k + 1) < _; omega⟩
 ·have : s = [] := List.eq_nil_of_length_eq_zero (by omega)
  subst this; rfl
 ·have h2 : b.j = 2 := by omega
  exact ⟨⟨b.k + 1, b.l⟩, ⟨rfl, (EQ (by omega)).symm, rfl, λ _ _ => ⟨rfl, rfl⟩⟩, ⟨by show b.k + 1 <= _; omega, Nat.succ_pos _, by rw [hb.2.2.2, h2]; rfl⟩, by show s.length - (b.k + 1) < _; omega⟩
 ·have e : a.l = AA s := by rw [ha.2.2]; unfold Im AA; rw [List.take_of_length_le (by omega)]
  rw [<- e]
  exact ⟨rfl, Nat.le_refl _, λ _ _ => ⟨rfl, rfl⟩⟩
theorem AAN : AL Try.prog ANP (C_ends.spec Ch) := Ih C_ends BRJ [] [301] BXK (λ _ => by kernel_rfl) (λ _ => AB (ADT BUO BXB) AF) (λ (s : List Gau) h => CCQ s (show s.length < 1073741824 /\ True from h).1) (λ _ => Jf rfl rfl) _
end Go.Bal
