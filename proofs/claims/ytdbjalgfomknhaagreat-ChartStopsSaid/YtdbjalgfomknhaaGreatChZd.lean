/- Package chart, with the reference: settled. -/
import Derived.Test.YtdbjalgfomknhaaGreatChZc
set_option linter.unusedVariables false
set_option linter.unusedSimpArgs false
namespace Go.Bal
open Go Go.Sym Go.Proofs
def dZL : List AVal -> Heap -> Option (ZL × List (Nat × Nat) × List Nat)
 | [x, y, z], H => match kV x H, ACO y H, Xo z H with
  | some (c, f), some (l, e), some (s, g) => some (⟨⟨c, l⟩, s⟩, [], f ++ e ++ g)
  | _, _, _ => none
 | _, _ => none
structure FB where
 f : Nat -> Span
 b : Bool
 k : Nat
 deriving Inhabited
def seR (x : ZL) (f : Nat -> Span) : HCell := .live (.row 2 x.l.length λ i => IK (f i))
def seH (x : ZL) (f : Nat -> Span) : List (Nat × HCell) := [(201, .live (gI x.a.c)), (202, seR x f)]
def seS (x : ZL) (b : Bool) : List (Nat × AVal) := [(1, .d (PH x.a.z)), (3, .bptr 201 0), (8, .own 202 2 0 x.l.length), (9, .bool b)]
def seM (x : ZL) (s : FB) : Nat := dG s.f x.l.length + (bif s.b then 1 else 0)
def se3 (x : ZL) : Shape := { α := FB, dflt := default, T := λ s => ⟨seS x s.b, seH x s.f⟩, inv := λ s => SetI x s.f /\ (s.b = false -> neF s.f x.l.length /\ fixF x s.f (x.l.length - 1)), meas := λ s => seM x s, first := [(201, 1000), (202, 2032)] }
def se6 (x : ZL) (m : Nat) : Shape := { α := FB, dflt := default, T := λ s => ⟨seS x false ++ [(10, .int s.k)], seH x s.f⟩, inv := λ s => (s.k <= x.l.length /\ dG s.f x.l.length + 1 = m) /\ SetI x s.f /\ neF s.f s.k, meas := λ s => x.l.length - s.k }
def se11 (x : ZL) (m : Nat) : Shape := { α := FB, dflt := default, T := λ s => ⟨seS x s.b ++ [(11, .int s.k)], seH x s.f⟩, inv := λ s => (s.k <= x.l.length - 1 /\ SetI x s.f /\ neF s.f x.l.length) /\ seM x s < m /\ (s.b = false -> fixF x s.f s.k), meas := λ s => x.l.length - s.k }
def se16 (x : ZL) (m q : Nat) : Shape := { α := FB, dflt := default, T := λ s => ⟨seS x s.b ++ [(11, .int s.k), (12, .bptr 203 0), (13, .bptr 204 0)], seH x s.f ++ [(203, .live (.box [.int (Dn x s.k (s.f s.k) (s.f (s.k + 1))).lo, .int (Dn x s.k (s.f s.k) (s.f (s.k + 1))).hi])), (204, .live (.box [.int (cI x s.k (s.f s.k) (s.f (s.k + 1))).lo, .int (cI x s.k (s.f s.k) (s.f (s.k + 1))).hi]))]⟩, inv := λ s => (s.k + 1 < x.l.length /\ x.l.length - s.k = q /\ SetI x s.f /\ neF s.f x.l.length) /\ seM x s < m /\ (s.b = false -> fixF x s.f s.k), meas := λ s => 0, first := [(203, 14144), (204, 14160)] }
def C_zSet : Ctr := { α := ZL, xs := λ x => [.d (Ak x.a.c), .d (PH x.a.z), .d (DC x.l)], val := λ x => .tup [.d (DC (Xr x).1), .bool (Xr x).2], keep := λ _ => [], pre := λ x => [PreS x] }
def BGO (x : ZL) : Ann := { ann 130 [(AHP, C_zLea.spec dCtI), (Z3, C_zMos.spec dCZG)] with mt := λ id => id == 1, loops := λ id => if id = 3 then some [se3 x] else none, inner := λ gs id => if id = 6 then some [se6 x (gs.getD 0 0)] else if id = 11 then some [se11 x (gs.getD 0 0)] else none, cutIn := λ gs id => if id = 16 then some [se16 x (gs.getD 1 0) (gs.getD 0 0)] else none }
def BDD (x : ZL) : Prop := CF Try.prog (BGO x) uY (AH uY) (C_zSet.xs x) (AB []) (.tup [.d (DC (Xr x).1), .bool (Xr x).2]) [] [] [202]
abbrev iO:=ZL.l
abbrev rI:=@Exists FB
abbrev MB:=ZL.a
abbrev aX:=FB.b
abbrev KE:=FB.f
abbrev iN:=Dn
abbrev iM:=cI
abbrev AJP:=λ (f : FB -> Prop) => ∀ (x : FB), f x
abbrev GY:=FB.k
abbrev Zn a:=kQ (Xr a)
abbrev HT a:=EL (iO a)
abbrev Xh a b:=CN (GR (aX a)) b
abbrev Bl a b:=KE a (JR b)
abbrev Wn a b c:=hd40 a (Bl b c)
abbrev Va a b c:=hd40 a (KE b c)
abbrev fN a:=Fi (HT a)
abbrev Ja a b:=BF (KE a b)
abbrev Ju a b:=BI (KE a b)
abbrev Ii a b c d e f:=AX a b (FY (Ju c d) (Ja e f))
abbrev Jl a b:=SetI a (KE b)
abbrev Ed a:=BM (HT a)
abbrev LQ a:=GB (MB a)
abbrev Yz a b:=HS (LQ a) b
abbrev Zd a b:=HQ (LQ a) b
abbrev Gx a:=UB (MB a)
abbrev Zm a:=BM (Gx a)
abbrev No a:=AL (LQ a)
abbrev Oe a:=AJ (LQ a)
abbrev Fx a:=LO (MB a)
abbrev Zz a:=YQ (Fx a)
abbrev fU a b:=EU (GY a) b
abbrev Rr a b c d:=iM a (GY b) (KE c (GY c)) (Bl d (GY d))
abbrev Dq a b c d:=iN a (GY b) (KE c (GY c)) (Bl d (GY d))
abbrev UX a:=CM (GY a)
abbrev Qe a:=DZ (GY a)
abbrev Yt a:=LA (Qe a)
abbrev Rs a:=BE (GY a)
attribute [go_sem] iO rI MB aX KE iN iM AJP GY Zn HT Xh Bl Wn Va fN Ja Ju Ii Jl Ed LQ Yz Zd Gx Zm No Oe Fx Zz fU Rr Dq UX Qe Yt Rs
theorem BPE (x : ZL) : (BDD x) = (AD (RI (VY AT 0) (VY FL (HT x)) (WT (OQ (HT x))) (TP (HT x) 9223372036854775807) (Ho (CM (HT x)) 16)) (rI (λ i=>CE (Zz x) (DT (VW (Fx x)) AT (BY (HT x) (CM (HT x))) (CS (aX i)) (Oe x) (No x) (Ch (LQ x) (Zm x) (λ j=>BA j (Gx x) (Zd x j) (Yz x j)) (BY (HT x) (CM (HT x))) (AF (λ j=>WH j (iO x) (KE i j) (iO x) (ZP j))))) (Jl x i) (Xh i (HZ (AF (λ j=>Ii j (HT x) i j i j)) (λ j=>BA j (fN x) (Va (iN x j (KE i j) (Bl i j)) i j) (Wn (iM x j (KE i j) (Bl i j)) i j)))))) (AJP (λ i=>CN (And (Jl x i) (Xh i (HZ (AF (λ j=>Ii j (HT x) i j i j)) (λ j=>BA j (fN x) (Va (iN x j (KE i j) (Bl i j)) i j) (Wn (iM x j (KE i j) (Bl i j)) i j))))) (ED (aX i) (rI (λ j=>And (CW (Zz x) (λ k=>Aw k (Fx x)) AT (Ed x) We (BZ (GY j)) (Oe x) (No x) (Ch (LQ x) (Zm x) (λ k=>BA k (Gx x) (Zd x k) (Yz x k)) (Ed x) (AF (λ k=>MX k (iO x) (KE j k) (KE i k))))) (CE (fU j (HT x)) (BY (JR (dG (KE j) (HT x))) (seM x i)) (Jl x j) (AF (λ k=>Ii k (GY j) j k j k))))) (AJP (λ j=>OS (CE (fU j (HT x)) (BY (JR (dG (KE j) (HT x))) (seM x i)) (Jl x j) (AF (λ k=>Ii k (GY j) j k j k))) (GY j) (HT x) (FF (GY j) (HT x) (KM (UX j) (HT x) (HF (Rs j) (HT x)) (JX (UX j) (HT x)))) (Eh (XS (Ju j (UX j)) (Ja j (UX j))) (Zn x) (GR (Pd (Xr x))) (rI (λ k=>DW (CW (Zz x) (λ l=>Aw l (Fx x)) AT (Ed x) We (BR (GY k) (GY j)) (Oe x) (No x) (Ch (LQ x) (Zm x) (λ l=>BA l (Gx x) (Zd x l) (Yz x l)) (Ed x) (AF (λ l=>MX l (iO x) (KE k l) (KE j l))))) (CE (fU k (HT x)) (BY (JR (dG (KE k) (HT x))) (seM x i)) (Jl x k) (AF (λ l=>Ii l (GY k) k l k l))) (HT x) (GY k) (GY j)))) (And (rI (λ k=>And (CW (Zz x) (λ l=>Aw l (Fx x)) AT (Ed x) (GR (aX k)) (BZ (GY k)) (Oe x) (No x) (Ch (LQ x) (Zm x) (λ l=>BA l (Gx x) (Zd x l) (Yz x l)) (Ed x) (AF (λ l=>MX l (iO x) (KE k l) (KE j l))))) (AD (GG (fU k (fN x)) (Jl x k) (λ l=>Ii l (HT x) k l k l)) (CO (seM x k) (seM x i)) (Xh k (AF (λ l=>BA l (GY k) (Va (iN x l (KE k l) (Bl k l)) k l) (Wn (iM x l (KE k l) (Bl k l)) k l))))))) (AJP (λ k=>IR (AD (GG (fU k (fN x)) (Jl x k) (λ l=>Ii l (HT x) k l k l)) (CO (seM x k) (seM x i)) (Xh k (AF (λ l=>BA l (GY k) (Va (iN x l (KE k l) (Bl k l)) k l) (Wn (iM x l (KE k l) (Bl k l)) k l))))) (Qe k) (BE (HT x)) (FF (GY k) (HT x) (KM (UX k) (HT x) (HF (Qe k) (HT x)) (QI (Qe k) (HT x)))) (AD (UJ (LQ x) (OP (MB x) (Gx x)) (λ l=>RO l (MB x) (LQ x)) (OM (MB x) (LQ x)) (GU (AF (λ l=>OO l (MB x) l (LQ x) l l)) (XW (MB x) (Fx x)) (λ l=>XO l (MB x) (Fx x)) (FS (GY k)) (WB (GY k) (NT (Rs k) 1) (Br (MB x)) (WX (MB x)) (Gv (MB x))) (Oe x) (No x) (AM (LQ x)) (JJ (AN (LQ x)) (LQ x) (OP (MB x) (Gx x)) (SV (MB x) (LQ x)) (OM (MB x) (LQ x)) (λ l=>OO l (MB x) l (LQ x) l l) (FS (GY k)) (SX (Rs k) (NT (Rs k) 1) (Br (MB x))) (Gv (MB x))))) (BC (Oe x) (EX (No x) (AM (LQ x)) (AN (LQ x)) (AQ (LQ x)) (OP (MB x) (Gx x)) (λ l=>RO l (MB x) (LQ x)) (OM (MB x) (LQ x)) (AF (λ l=>OO l (MB x) l (LQ x) l l)) (AR (FS (GY k)) (TK (GY k) (NT (Rs k) 1) (Br (MB x)) (Gv (MB x))) (Oe x) (No x) (AM (LQ x)) (AN (LQ x)) (AQ (LQ x)) (OP (MB x) (Gx x)) (GU (SV (MB x) (LQ x)) (OM (MB x) (LQ x)) (λ l=>OO l (MB x) l (LQ x) l l) (XW (MB x) (Fx x)) (AF (λ l=>XO l (MB x) (Fx x))) (FS (GY k)) (SX (Rs k) (NT (Rs k) 1) (Br (MB x))) (WX (MB x)) (Gv (MB x))))) (rI (λ l=>EG (Zz x) (VW (Fx x)) AT (Ed x) (AR (JH (aX l) (aX k)) (NP (GY l) (GY k)) (Oe x) (No x) (AM (LQ x)) (AN (LQ x)) (AQ (LQ x)) (Zm x) (GU (AF (λ m=>BA m (Gx x) (Zd x m) (Yz x m))) (DR (LQ x)) (λ m=>EI m (LQ x)) (Ed x) (AF (λ m=>MX m (iO x) (KE l m) (KE k m))) (BO (Dq x l l l) (Ox (Ju k (UX k)) (GO (Ju k (Yt k)) (qT (UC (MB x)) (Rs k))))) (AZ (Dq x l l l) (jN (Ja k (UX k)) (GO (Ja k (Yt k)) (Bu (Ng (LQ x)) (RJ (MV (MB x)) (GY k)))))) (BO (Rr x l l l) (Ox (Ju k (Yt k)) (GH (Ox (Ju k (UX k)) (GO (Ju k (Yt k)) (qT (UC (MB x)) (Rs k)))) (Bu (Ng (LQ x)) (RJ (MV (MB x)) (GY k)))))) (AZ (Rr x l l l) (jN (Ja k (Yt k)) (GH (jN (Ja k (UX k)) (GO (Ja k (Yt k)) (Bu (Ng (LQ x)) (RJ (MV (MB x)) (GY k))))) (qT (UC (MB x)) (Rs k))))))) (CE (CO (JR (GY l)) (HT x)) (GG (Df (HT x) (GY l) (GY k)) (Jl x l) (λ m=>Ii m (HT x) l m l m)) (CO (seM x l) (seM x i)) (Xh l (AF (λ m=>BA m (GY l) (Va (iN x m (KE l m) (Bl l m)) l m) (Wn (iM x m (KE l m) (Bl l m)) l m)))))))) (AJP (λ l=>CN (CE (CO (JR (GY l)) (HT x)) (GG (Df (HT x) (GY l) (GY k)) (Jl x l) (λ m=>Ii m (HT x) l m l m)) (CO (seM x l) (seM x i)) (Xh l (AF (λ m=>BA m (GY l) (Va (iN x m (KE l m) (Bl l m)) l m) (Wn (iM x m (KE l m) (Bl l m)) l m))))) (And (FF (GY l) (HT x) (KM (UX l) (HT x) (HX (not (Kv (BI (Dq x l l l)) (Ju l (UX l)) (BF (Dq x l l l)) (Ja l (UX l)))) (Qe l) (HT x)) (HO (not (Kv (BI (Dq x l l l)) (Ju l (UX l)) (BF (Dq x l l l)) (Ja l (UX l)))) (QI (Qe l) (HT x))))) (ED (PP (Kv (BI (Dq x l l l)) (Ju l (UX l)) (BF (Dq x l l l)) (Ja l (UX l))) (Kv (BI (Rr x l l l)) (Ju l (Yt l)) (BF (Rr x l l l)) (Ja l (Yt l)))) (FF (GY l) (HT x) (KM (UX l) (HT x) (HF (Qe l) (HT x)) (QI (Qe l) (HT x)))) (Eh (XP (XS (BI (Dq x l l l)) (BF (Dq x l l l))) (BI (Rr x l l l)) (BF (Rr x l l l))) (Zn x) (GR (Pd (Xr x))) (rI (λ m=>DW (CW (Zz x) (λ n=>Aw n (Fx x)) AT (Ed x) (CS (aX m)) (BR (GY m) (GY l)) (Oe x) (No x) (Ch (LQ x) (Zm x) (λ n=>BA n (Gx x) (Zd x n) (Yz x n)) (Ed x) (AF (λ n=>OJ n (iO x) (BO (KE m n) (RS n (Qe l) (BI (Rr x l l l)) (SY n (UX l) (BI (Dq x l l l)) (Ju l n)))) (AZ (KE m n) (RS n (Qe l) (BF (Rr x l l l)) (SY n (UX l) (BF (Dq x l l l)) (Ja l n)))))))) (AD (GG (fU m (fN x)) (Jl x m) (λ n=>Ii n (HT x) m n m n)) (CO (seM x m) (seM x i)) (Xh m (AF (λ n=>BA n (GY m) (Va (iN x n (KE m n) (Bl m n)) m n) (Wn (iM x n (KE m n) (Bl m n)) m n))))) (HT x) (GY m) (GY k)))) (Eh (XP (XS (BI (Dq x l l l)) (BF (Dq x l l l))) (BI (Rr x l l l)) (BF (Rr x l l l))) (Zn x) (GR (Pd (Xr x))) (rI (λ m=>DW (CW (Zz x) (λ n=>Aw n (Fx x)) AT (Ed x) (JH (aX m) (aX l)) (BR (GY m) (GY l)) (Oe x) (No x) (Ch (LQ x) (Zm x) (λ n=>BA n (Gx x) (Zd x n) (Yz x n)) (Ed x) (AF (λ n=>MX n (iO x) (KE m n) (KE l n))))) (AD (GG (fU m (fN x)) (Jl x m) (λ n=>Ii n (HT x) m n m n)) (CO (seM x m) (seM x i)) (Xh m (AF (λ n=>BA n (GY m) (Va (iN x n (KE m n) (Bl m n)) m n) (Wn (iM x n (KE m n) (Bl m n)) m n))))) (HT x) (GY m) (GY k))))))))) (rI (λ l=>CE (Zz x) (DT (VW (Fx x)) AT (Ed x) (JH (aX l) (aX k)) (Oe x) (No x) (Ch (LQ x) (Zm x) (λ m=>BA m (Gx x) (Zd x m) (Yz x m)) (Ed x) (AF (λ m=>MX m (iO x) (KE l m) (KE k m))))) (And (Jl x l) (Xh l (HZ (AF (λ m=>Ii m (HT x) l m l m)) (λ m=>BA m (fN x) (Va (iN x m (KE l m) (Bl l m)) l m) (Wn (iM x m (KE l m) (Bl l m)) l m))))) (CO (seM x l) (seM x i))))))))) (And (OW (Zn x) (HT x)) (HU (OF (HT x)) (λ j=>NQ j (Zn x) j (KE i (CM j))) (CS (Pd (Xr x))))))))) := by kernel_rfl
theorem yD {a b : Span} : (a.lo == b.lo && (a.hi == b.hi && true)) = true ↔ a = b := by
 obtain ⟨a1, a2⟩ := a; obtain ⟨b1, b2⟩ := b
 simp
theorem AYT {a b c d : Span} {v : Bool} (h : (bif !(a.lo == b.lo && (a.hi == b.hi && true)) then true else !(c.lo == d.lo && (c.hi == d.hi && true))) = v) : (v = true -> a ≠ b ∨ c ≠ d) /\ (v = false -> a = b /\ c = d) := by
 rw [<- h]
 cases q1 : (a.lo == b.lo && (a.hi == b.hi && true)) with
 | false => exact ⟨λ _ => .inl λ e => (by rw [yD.2 e] at q1; cases q1), λ h => (by cases h)⟩
 | true =>
  cases q2 : (c.lo == d.lo && (c.hi == d.hi && true)) with
  | false => exact ⟨λ _ => .inr λ e => (by rw [yD.2 e] at q2; cases q2), λ h => (by cases h)⟩
  | true => exact ⟨λ h => (by cases h), λ _ => ⟨yD.1 q1, yD.1 q2⟩⟩
theorem AOF {a b : Span} {v : Bool} (h : (bif decide (a.lo > a.hi) then true else decide (b.lo > b.hi)) = v) : (v = true -> a.lo > a.hi ∨ b.lo > b.hi) /\ (v = false -> a.lo <= a.hi /\ b.lo <= b.hi) := by
 rw [<- h]
 by_cases q1 : a.lo > a.hi
 ·rw [decide_eq_true q1]; exact ⟨λ _ => .inl q1, λ h => (by cases h)⟩
 ·rw [decide_eq_false q1]
  by_cases q2 : b.lo > b.hi
  ·rw [decide_eq_true q2]; exact ⟨λ _ => .inr q2, λ h => (by cases h)⟩
  ·rw [decide_eq_false q2]; exact ⟨λ h => (by cases h), λ _ => ⟨by omega, by omega⟩⟩
theorem AZI {x : ZL} (h : PreS x) {f : Nat -> Span} (hf : SetI x f) (hn : neF f x.l.length) {g : Nat} (hg : g + 1 < x.l.length) (he : (Dn x g (f g) (f (g + 1))).lo > (Dn x g (f g) (f (g + 1))).hi ∨ (cI x g (f g) (f (g + 1))).lo > (cI x g (f g) (f (g + 1))).hi) : Xr x = ([], false) :=
 BJB h λ t ht => by
  have := BGE h hf hg (hn g (by omega)) (hn (g + 1) hg) ht
  unfold Span.has at this; omega
theorem BVF (x : ZL) (h : PreS x) : BDD x := by
 have hl := h.len1
 have hz := h.zl
 have h0 := h.c0
 have hlen := h.len
 rw [BPE]<;> delta JH zU Hi BI BF EN MM ON Ep EB EA BY EL AF CN CO AS KA BE EU hd40 EC JL FY MN NT Ox jN LS ET GW FK HV IB HK GV FU HC DV FW EY LD FL Ey LC XS EP RX GZ Ai CJ DN cQ GB RU LO Bu Ho kQ Pd Bq qT iO rI MB aX KE iN iM AJP GY AD CI AU FT GN AG GK AZ AX UB AE FA BM GQ YO AW It BL BD AO AR DD BA VR BK JQ BO BJ CX HI BW BV AJ AQ AV FC Iv YR CK AN AL GH HG FX FO Ig AM HE DK ID DR GO CM ES BX CG DO LQ BC HS JR HH CE CW PM EZ LA OJ Kb CS EV EQ MV FH HQ DZ EW AT DU LL HT JB ED HR HO BR Br FZ GI UC GA GC QR YQ PF LG IM FS QP DY SX Ij MU MW JM EX Bl RV SY Kx DT LB OW Sf GU GR QV Fi VQ iQ HF MQ MX EI SK UJ GF LM WR Lw HZ IR BZ JX DW Fx OQ NP GG PP TK VY EG HX Ch UO WH OM KM Ja OP Gx RI FF Aw JF Ju TP RR UX vT XW Pu QI OF Df HU Qe XO JJ RO WX Ed WT WB RS Gm Mr VW NQ OO SV Jl Dq No Oe Rs XP Gv Ng Eh ZP OS Xh Zz Yt Zm Ii Wn Zd fN Zn Rr Va Yz Kv fU We; simp only [CC, eq_self, implies_true, forall_const, CL, Lv]
 refine ⟨⟨(λ h => by cases h), by omega, by omega⟩, ⟨⟨gD x.l, true, 0⟩, ⟨rfl, λ i _ => ⟨rfl, rfl⟩⟩, ⟨λ i hi => ⟨Int.le_refl _, Int.le_refl _⟩, λ t ht i hi => ht.at_ i (by omega)⟩, (λ h => by cases h)⟩, λ s ⟨s1, s2⟩ => ⟨λ hb => ?_, λ hb => ?_⟩⟩
 ·have hm : seM x s = dG s.f x.l.length + 1 := by unfold seM; rw [hb]; rfl
  refine ⟨⟨⟨s.f, false, 0⟩, ⟨rfl, λ i _ => ⟨rfl, rfl⟩⟩, ⟨Nat.zero_le _, hm.symm⟩, s1, λ i hi => absurd hi (Nat.not_lt_zero _)⟩, λ q ⟨⟨q1, q2⟩, q3, q4⟩ => ⟨λ hlt => ⟨⟨by omega, by omega, by omega, by omega⟩, λ he => ?_, λ he => ⟨⟨q.f, false, q.k + 1⟩, ⟨(HL (by omega)).symm, λ i _ => ⟨rfl, rfl⟩⟩, ⟨⟨by show q.k + 1 <= _; omega, q2⟩, q3, λ i hi => ?_⟩, by show x.l.length - (q.k + 1) < _; omega⟩⟩, λ hge => ?_⟩⟩
  ·rw [BJB h λ t ht => ?_]
   ·exact ⟨rfl, rfl, rfl⟩
   ·have := q3.tr t ht q.k (by omega)
    unfold Span.has at this; omega
  ·by_cases e : i = q.k
   ·subst e; show (q.f q.k).lo <= (q.f q.k).hi; omega
   ·exact q4 i (by have : i < q.k + 1 := hi; omega)
  ·have qn : neF q.f x.l.length := λ i hi => q4 i (by omega)
   refine ⟨⟨⟨q.f, false, 0⟩, ⟨rfl, rfl, λ i _ => ⟨rfl, rfl⟩⟩, ⟨Nat.zero_le _, q3, qn⟩, ?_, λ _ g hg => absurd hg (Nat.not_lt_zero _)⟩, λ r ⟨⟨r1, r2, r3⟩, r4, r5⟩ => ?_⟩
   ·show dG q.f _ + 0 < seM x s; omega
   have ew : IntKind.i64.wrap ((r.k : Int) + 1) = ((r.k + 1 : Nat) : Int) := HL (by omega)
   simp only [ew, Int.toNat_natCast]
   refine ⟨λ hlt => ?_, λ hge => ?_⟩
   ·refine ⟨⟨by omega, by omega, by omega, by omega⟩, ⟨⟨by omega, hz, h0⟩, by omega, h0⟩, ⟨⟨⟨by omega, h0⟩, by omega, hz, h0⟩, ⟨r.f, r.b, r.k⟩, ⟨rfl, rfl, λ i _ => ⟨rfl, rfl⟩, rfl, rfl, rfl, rfl⟩, ⟨by show r.k + 1 < _; omega, rfl, r2, r3⟩, r4, r5⟩, λ v ⟨⟨v1, v2, v3, v4⟩, v5, v6⟩ => ?_⟩
    have ev : IntKind.i64.wrap ((v.k : Int) + 1) = ((v.k + 1 : Nat) : Int) := HL (by omega)
    simp only [ev, Int.toNat_natCast]
    refine ⟨⟨by omega, by omega, λ _ => by omega, λ _ => by omega⟩, λ hd => ⟨⟨by omega, by omega, by omega, by omega⟩, λ he => ?_, λ he => ?_⟩, λ hd => ⟨λ he => ?_, λ he => ?_⟩⟩
    ·rw [AZI h v3 v4 v1 ((AOF he).1 rfl)]; exact ⟨rfl, rfl, rfl⟩
    ·obtain ⟨e1, e2⟩ := (AOF he).2 rfl
     obtain ⟨u1, u2, u3⟩ := BXG h v3 v4 v1 e1 e2 ((AYT hd).1 rfl)
     refine ⟨⟨upF v.f v.k (Dn x v.k (v.f v.k) (v.f (v.k + 1))) (cI x v.k (v.f v.k) (v.f (v.k + 1))), true, v.k + 1⟩, ⟨rfl, rfl, λ i hi => ?_⟩, ⟨⟨by show v.k + 1 <= _; omega, u1, u2⟩, ?_, (λ h => by cases h)⟩, by show x.l.length - (v.k + 1) < _; omega⟩
     ·show (upF _ _ _ _ i).lo = _ /\ (upF _ _ _ _ i).hi = _
      unfold upF
      by_cases c1 : i = v.k + 1
      ·rw [if_pos c1, decide_eq_true c1]; exact ⟨rfl, rfl⟩
      ·rw [if_neg c1, decide_eq_false c1]
       by_cases c2 : i = v.k
       ·rw [if_pos c2, decide_eq_true c2]; exact ⟨rfl, rfl⟩
       ·rw [if_neg c2, decide_eq_false c2]; exact ⟨rfl, rfl⟩
     ·have : dG v.f x.l.length <= seM x v := Nat.le_add_right _ _
      exact Nat.lt_of_le_of_lt (Nat.le_trans u3 this) v5
    ·rw [AZI h v3 v4 v1 ((AOF he).1 rfl)]; exact ⟨rfl, rfl, rfl⟩
    ·obtain ⟨d1, d2⟩ := (AYT hd).2 rfl
     refine ⟨⟨v.f, v.b, v.k + 1⟩, ⟨rfl, rfl, λ i _ => ⟨rfl, rfl⟩⟩, ⟨⟨by show v.k + 1 <= _; omega, v3, v4⟩, v5, λ hb g hg => ?_⟩, by show x.l.length - (v.k + 1) < _; omega⟩
     by_cases e : g = v.k
     ·subst e; exact ⟨d1, d2⟩
     ·exact v6 hb g (by have : g < v.k + 1 := hg; omega)
   ·refine ⟨⟨r.f, r.b, 0⟩, ⟨rfl, λ i _ => ⟨rfl, rfl⟩⟩, ⟨r2, λ hb => ⟨r3, λ g hg => r5 hb g (by omega)⟩⟩, r4⟩
 ·obtain ⟨n1, n2⟩ := s2 hb
  obtain ⟨o1, o2, o3⟩ := BMF h s1 n1 n2
  refine ⟨o2, Nat.le_refl _, λ j hj => ?_, o1⟩
  rw [o3 j (by omega)]; exact ⟨rfl, rfl⟩
theorem BOK : AK Try.prog tR (C_zSet.spec dZL) := VV C_zSet BGO [] [202] ASE (λ _ => by kernel_rfl) (λ _ => AA BPO (AA AZX AC)) (λ x h => BVF x h) (λ _ => WY rfl rfl) _
end Go.Bal
