/- Law ChartFewest: its walk. -/
import Derived.Test.YtdbjalgfomknhaaChFe2
import Derived.Test.YtdbjalgfomknhaaChWO1
set_option linter.unusedVariables false
set_option linter.unusedSimpArgs false
namespace Go.Bal
open Go Go.Sym Go.Proofs
def chF (c : Cht) (v : AVal) : HCell := .live (.box [.int c.p.lo, .int c.p.hi, .int c.base, .int c.scale, .int c.off, .d (eMks c.ms), v])
def rowF (n : Nat) (l : List Nt) : HCell := .live (.row 5 n λ i => eNt (gD l i))
def fe4n (x : FeI) : Shape := { α := Nat, dflt := 0, T := λ k => ⟨[(5, .bptr 2096 0), (7, .bptr 3016 0), (8, .int k)], [(2096, .live (chB (RD x))), (3016, Z2 (feS0 x))]⟩, inv := λ k => k = 0, meas := λ k => 1 }
def fe4o (x : FeI) : Shape := { α := Nat, dflt := 0, T := λ k => ⟨[(5, .bptr 2096 0), (7, .bptr 3016 0), (8, .int k)], [(2096, chF (RD x) (.own 2032 5 0 (RD x).ns.length)), (2032, rowF (RD x).ns.length (feK x k).l), (3016, Z2 (feK x k).s)]⟩, inv := λ k => k <= (RD x).ns.length, meas := λ k => (RD x).ns.length - k }
def fe9 (x : FeI) (n : Bool) : Shape := { α := One, dflt := default, T := λ _ => ⟨[(5, .bptr 2096 0), (7, .bptr 3016 0)], [(2096, .live (chB (OV x))), (3016, Z2 (feY x).s)]⟩, inv := λ _ => True, meas := λ _ => 0, ffz := bif n then [2032] else [] }
def feQ (x : FeI) : List Int := (PS (OV x)).q
def feR (x : FeI) : List Pr := (PS (OV x)).r
def rwJ (l : List Int) : HCell := .live (.row 1 l.length λ i => TZ (gD l i))
def allG (n : Nat) : List Int := HX n λ i => (i : Int)
def feB (x : FeI) : List (Nat × HCell) := [(2096, .live (chB (OV x)))]
def CNA (x : FeI) : Shape := { α := One, dflt := default, T := λ _ => ⟨[(5, .bptr 2096 0), (13, .d UJ), (14, .int 0)], feB x⟩, inv := λ _ => (RT (OV x)).e = 6, meas := λ _ => 60 }
def CLF (x : FeI) : Shape := { α := Nat, dflt := 0, T := λ k => ⟨[(5, .bptr 2096 0), (13, .own 301 1 0 k), (14, .int k)], feB x ++ [(301, .live (.row 1 k λ i => TZ i))]⟩, inv := λ k => (RT (OV x)).e = 6 /\ 1 <= k /\ k + 1 <= (OV x).ms.length, meas := λ k => 50 - k, again := [(301, 19048)] }
def fe19 (x : FeI) : Shape := { α := One, dflt := default, T := λ _ => ⟨[(5, .bptr 2096 0), (13, .d (GQ (allG ((OV x).ms.length - 1))))], feB x⟩, inv := λ _ => (RT (OV x)).e = 6, meas := λ _ => 0, ffz := [301] }
def feSl (x : FeI) (p : Bool) : List (Nat × AVal) := bif p then [(5, .bptr 2096 0), (7, .bptr 3016 0), (9, .d (GQ (feQ x))), (11, .own 11016 2 0 (feR x).length)] else [(5, .bptr 2096 0), (7, .bptr 3016 0), (9, .d (GQ nilI)), (11, .d (Wt nilP))]
def feH (x : FeI) (p : Bool) (s : Stm) : List (Nat × HCell) := bif p then [(2096, .live (chB (OV x))), (3016, Z2 s), (11016, .live (AWD (feR x)))] else [(2096, .live (chB (OV x))), (3016, Z2 s)]
def feE (x : FeI) (p : Bool) : Prop := bif p then True else (RT (OV x)).e = 0
def CET (x : FeI) (p : Bool) : Shape := { α := One, dflt := default, T := λ _ => ⟨feSl x p ++ [(21, .int 0)], feH x p (feY x).s⟩, inv := λ _ => feE x p, meas := λ _ => (feQ x).length + 1 }
structure FJ where
 j : Nat
 q : List Int
 deriving Inhabited
def CLK (x : FeI) (p : Bool) : Shape := { α := FJ, dflt := default, T := λ a => ⟨feSl x p ++ [(21, .int ((a.j + 1 : Nat) : Int)), (22, .d (GQ a.q))], feH x p (feY x).s⟩, inv := λ a => a.j + 1 <= (feQ x).length, meas := λ a => (feQ x).length - (a.j + 1) }
def fe36 (x : FeI) (p : Bool) : Shape := { α := One, dflt := default, T := λ _ => ⟨feSl x p, feH x p (feY x).s⟩, inv := λ _ => feE x p, meas := λ _ => 0 }
structure FN where
 n : Nat
 s : Stm
 deriving Inhabited
structure FNQ where
 n : Nat
 s : Stm
 q : List Int
 k : Nat
 deriving Inhabited
structure FNL where
 n : Nat
 s : Stm
 q : List Pr
 k : Nat
 deriving Inhabited
def fe37 (x : FeI) (p : Bool) : Shape := { α := FN, dflt := default, T := λ a => ⟨feSl x p ++ [(27, .int a.n)], feH x p a.s⟩, inv := λ a => feE x p /\ a.n <= 6 /\ StmB (100 + 100 * a.n) a.s, meas := λ a => 6 - a.n }
def feI0 (x : FeI) (p : Bool) (m n : Nat) : Prop := feE x p /\ 6 - n = m /\ n < 6
def feGp (k : Nat) (q : List Int) : Prop := q.Pairwise (· < ·) /\ ∀ y ∈ q, 0 <= y /\ y < k
def CKZ (x : FeI) (p : Bool) (m : Nat) : Shape := { α := FNQ, dflt := default, T := λ a => ⟨feSl x p ++ [(27, .int a.n), (28, .d UJ), (29, .int a.k)], feH x p a.s⟩, inv := λ a => feI0 x p m a.n /\ a.k + 1 <= (OV x).ms.length /\ StmB (100 + 100 * a.n + a.k) a.s, meas := λ a => (OV x).ms.length - a.k, tag := [0] }
def CNP (x : FeI) (p : Bool) (m : Nat) : Shape := { α := FNQ, dflt := default, T := λ a => ⟨feSl x p ++ [(27, .int a.n), (28, .own 301 1 0 a.q.length), (29, .int a.k)], feH x p a.s ++ [(301, rwJ a.q)]⟩, inv := λ a => feI0 x p m a.n /\ feGp a.k a.q /\ a.k + 1 <= (OV x).ms.length /\ StmB (100 + 100 * a.n + a.k) a.s, meas := λ a => (OV x).ms.length - a.k, tag := [1] }
def CNJ (x : FeI) (p : Bool) (m r : Nat) : Shape := { α := FNQ, dflt := default, T := λ a => ⟨feSl x p ++ [(27, .int a.n), (28, .d UJ), (29, .int a.k)], feH x p a.s⟩, inv := λ a => ((OV x).ms.length - a.k = r /\ a.k + 2 <= (OV x).ms.length) /\ feI0 x p m a.n /\ StmB (101 + 100 * a.n + a.k) a.s, meas := λ _ => 0 }
def BZY (x : FeI) (p : Bool) (m r : Nat) (f : List (Nat × Nat)) : Shape := { α := FNQ, dflt := default, T := λ a => ⟨feSl x p ++ [(27, .int a.n), (28, .own 301 1 0 a.q.length), (29, .int a.k)], feH x p a.s ++ [(301, rwJ a.q)]⟩, inv := λ a => ((OV x).ms.length - a.k = r /\ a.k + 2 <= (OV x).ms.length) /\ feI0 x p m a.n /\ feGp (a.k + 1) a.q /\ StmB (101 + 100 * a.n + a.k) a.s, meas := λ _ => 0, first := f }
def fe45 (x : FeI) (p : Bool) (m : Nat) : Shape := { α := FNQ, dflt := default, T := λ a => ⟨feSl x p ++ [(27, .int a.n), (28, .d (GQ a.q))], feH x p a.s⟩, inv := λ a => feI0 x p m a.n /\ feGp ((OV x).ms.length - 1) a.q /\ StmB (120 + 100 * a.n) a.s, meas := λ _ => 0, ffz := [301] }
def feZ (x : FeI) (q : List Pr) : Prop := ∀ z ∈ q, OS (OV x) z = true
def COL (x : FeI) (p : Bool) (m : Nat) : Shape := { α := FNL, dflt := default, T := λ a => ⟨feSl x p ++ [(27, .int a.n), (32, .d UJ), (33, .int a.k)], feH x p a.s⟩, inv := λ a => feI0 x p m a.n /\ a.k <= (OV x).ns.length /\ StmB (120 + 100 * a.n + 2 * a.k) a.s, meas := λ a => (OV x).ns.length - a.k, tag := [0] }
def CMH (x : FeI) (p : Bool) (m : Nat) : Shape := { α := FNL, dflt := default, T := λ a => ⟨feSl x p ++ [(27, .int a.n), (32, .own 302 2 0 a.q.length), (33, .int a.k)], feH x p a.s ++ [(302, .live (AWD a.q))]⟩, inv := λ a => feI0 x p m a.n /\ (feZ x a.q /\ a.q.length <= a.k) /\ a.k <= (OV x).ns.length /\ StmB (120 + 100 * a.n + 2 * a.k) a.s, meas := λ a => (OV x).ns.length - a.k, tag := [1] }
def CNI (x : FeI) (p : Bool) (m r : Nat) : Shape := { α := FNL, dflt := default, T := λ a => ⟨feSl x p ++ [(27, .int a.n), (32, .d UJ), (33, .int a.k)], feH x p a.s⟩, inv := λ a => ((OV x).ns.length - a.k = r /\ a.k + 1 <= (OV x).ns.length) /\ feI0 x p m a.n /\ StmB (122 + 100 * a.n + 2 * a.k) a.s, meas := λ _ => 0 }
def BZJ (x : FeI) (p : Bool) (m r : Nat) (f : List (Nat × Nat)) : Shape := { α := FNL, dflt := default, T := λ a => ⟨feSl x p ++ [(27, .int a.n), (32, .own 302 2 0 a.q.length), (33, .int a.k)], feH x p a.s ++ [(302, .live (AWD a.q))]⟩, inv := λ a => ((OV x).ns.length - a.k = r /\ a.k + 1 <= (OV x).ns.length) /\ feI0 x p m a.n /\ (feZ x a.q /\ a.q.length <= a.k + 1) /\ StmB (122 + 100 * a.n + 2 * a.k) a.s, meas := λ _ => 0, first := f }
structure FNY where
 n : Nat
 s : Stm
 q : List Pr
 k : Nat
 y : Int
 deriving Inhabited
def feBx (k : Nat) (y : Int) : Nat × HCell := (53112, .live (.box [.int y, .int k]))
def CMR (x : FeI) (p : Bool) (m r : Nat) : Shape := { α := FNY, dflt := default, T := λ a => ⟨feSl x p ++ [(27, .int a.n), (32, .d UJ), (33, .int a.k), (34, .bptr 53112 0)], feH x p a.s ++ [feBx a.k a.y]⟩, inv := λ a => ((OV x).ns.length - a.k = r /\ a.k + 1 <= (OV x).ns.length) /\ (0 <= a.y /\ a.y < (OV x).ns.length) /\ feI0 x p m a.n /\ StmB (121 + 100 * a.n + 2 * a.k) a.s, meas := λ _ => 0 }
def CLH (x : FeI) (p : Bool) (m r : Nat) : Shape := { α := FNY, dflt := default, T := λ a => ⟨feSl x p ++ [(27, .int a.n), (32, .own 302 2 0 a.q.length), (33, .int a.k), (34, .bptr 53112 0)], feH x p a.s ++ [(302, .live (AWD a.q)), feBx a.k a.y]⟩, inv := λ a => ((OV x).ns.length - a.k = r /\ a.k + 1 <= (OV x).ns.length) /\ (0 <= a.y /\ a.y < (OV x).ns.length) /\ feI0 x p m a.n /\ (feZ x a.q /\ a.q.length <= a.k) /\ StmB (121 + 100 * a.n + 2 * a.k) a.s, meas := λ _ => 0 }
def fe55 (x : FeI) (p : Bool) (m : Nat) : Shape := { α := FNL, dflt := default, T := λ a => ⟨feSl x p ++ [(27, .int a.n), (32, .d (Wt a.q))], feH x p a.s⟩, inv := λ a => feI0 x p m a.n /\ (feZ x a.q /\ a.q.length <= 20) /\ StmB (160 + 100 * a.n) a.s, meas := λ _ => 0, ffz := [302] }
def fe61 (x : FeI) : Shape := { α := List Pr, dflt := [], T := λ k => ⟨[(5, .bptr 2096 0), (9, .d (GQ (feQ x))), (11, .own 11016 2 0 k.length)], [(2096, .live (chB (OV x))), (11016, .live (AWD k))]⟩, inv := λ k => k.Perm (feR x), meas := λ _ => 0 }
def xFe (x : FeI) : List AVal := [.d (eBys x.bs), .d (eBys x.cs)]
def lpFe (x : FeI) (p : Bool) (m : Nat) (id : Nat) : Option fH := if id = 41 then some [CKZ x p m, CNP x p m] else if id = 50 then some [COL x p m, CMH x p m] else none
def ciFe (x : FeI) (p : Bool) (g0 g1 g2 id : Nat) : Option fH := if id = 42 then (if g1 = 0 then some [CNJ x p g2 g0, BZY x p g2 g0 [(301, 45048)]] else some [BZY x p g2 g0 [(301, 45048)], BZY x p g2 g0 []]) else if id = 45 then some [fe45 x p g0] else if id = 53 then (if g1 = 0 then some [CMR x p g2 g0] else some [CLH x p g2 g0]) else if id = 51 then (if g1 = 0 then some [CNI x p g2 g0, BZJ x p g2 g0 [(302, 55048)]] else some [BZJ x p g2 g0 [(302, 55048)], BZJ x p g2 g0 []]) else if id = 55 then some [fe55 x p g0] else none
def A_Fe (x : FeI) (n p : Bool) : Ann := { ann 357 [(CAZ, C_New.spec CEU), (BHA, bif n then C_MadeO.spec (dMkI true) else (lE true).spec (dMkI true)), (AYW, C_Next.spec BGB), (AEO, bif p then C_StopsT.spec dC1 else C_StopsN.spec dC1), (AGI, bif p then C_PairsO.spec dC1 else C_PairsN.spec dC1), (mH, C_provL.spec dPvL), (BHW, C_cpX.spec dCI), (AZJ, C_Agr.spec dCZ), (BNW, C_Late.spec dCP), (BGR, BQO)] with mt := λ id => id == 18 || id == 44 || id == 54, md := λ id => if id = 53 then some (λ k => if k = 17 then 10 else 0) else none, loops := λ id => if id = 4 then some (bif n then [fe4o x] else [fe4n x]) else if id = 16 then some [CNA x, CLF x] else if id = 27 then (bif p then some [CLK x p, CET x p] else some [CET x p]) else if id = 37 then some [fe37 x p] else none, inner := λ gs id => lpFe x p (gs.getD 0 0) id, cut := λ id => if id = 9 then some [fe9 x n] else if id = 19 then some [fe19 x] else if id = 36 then some [fe36 x p] else if id = 61 then (bif p then some [fe61 x] else none) else none, cutIn := λ gs id => ciFe x p (gs.getD 0 0) (gs.getD 1 0) (gs.getD 2 0) id }
def S_Fe : Nat -> Bool := λ k => Nat.beq k 9
noncomputable def E_Fe (x : FeI) (n p : Bool) : Exit -> AState -> Prop := endQ Try.prog (A_Fe x n p) YS (.bool true) [] [] []
def BTL (x : FeI) : Prop := BEH Try.prog (A_Fe x false false) S_Fe YS (AP YS) (xFe x) (AH []) (.bool true) [] [] []
abbrev Mn:=StmB
abbrev ANT:=FeI.bs
abbrev ANR:=FeI.cs
abbrev CN:=RD
abbrev Bm:=feS0
abbrev XI a:=FeY.s (feY a)
abbrev Io a b:=BG (OV a) b
abbrev nK a b:=FM (Io a b)
abbrev HT a:=BB (OV a)
abbrev OP a:=BY (OV a)
abbrev Ks a b:=TY (Gu a b)
abbrev Vf a:=Ad (ANR a)
abbrev Ox a:=Ad (ANT a)
abbrev tW a:=Ad (Ox a)
abbrev ALV a:=Stm.mk (tW a) 0 0
abbrev LN a:=RK (MkI.mk (ALV a) 12 PB)
attribute [go_sem] Mn ANT ANR CN Bm XI Io nK HT OP Ks Vf Ox tW ALV LN
theorem CCD (x : FeI) : (BTL x) = (ZR (EM (Ox x) (ANT x)) (DG (GB (Ox x) (ANT x)) (LM 12 12) GP (EM (tW x) (Ox x)) (λ i=>QX i (tW x) (Ox x)) (AM 0) (AM 0) (XQ (Mn 0 (ALV x)) (KZ 1 12) 12 14) GP) (And (EM (Vf x) (ANR x)) (GB (Vf x) (ANR x))) (GY (λ i=>EG (CF i) (PC (CN x) (LN x)) (OX (CN x) (LN x)) (PR (CN x) (LN x)) (PO (CN x) (LN x)) (DO (PH (CN x) (LN x)) (RP (CN x) (LN x)) (AK (λ j=>RO j (CN x) j (LN x) j j)) (RR (CN x) (LN x)) (λ j=>FV j (CN x) (CR (LN x) j) (DQ (LN x) j) (BG (LN x) j) (WR (CN x) j (LN x) j) (WA (CN x) j (LN x) j)) (EM (Fo (Bm x)) (Vf x)) (λ j=>uV j (Bm x) (DE (Vf x) j)) (DK (Ln (Bm x))) (DK (Wg (Bm x)))) (CL i 0))) (AK (λ i=>UN (CL i 0) i (CN x) (EG (LM 4 4) (TV (Bm x)) (TX (Bm x)) (TG (Bm x)) (SX (Bm x)) (XT (Bm x)) (FX (Ks (Bm x) 4) JY (GY (λ j=>IE (CE (BT j i) (BA (CN x)) (AZ (CN x)) (BE (CN x)) (BD (CN x)) (DO (AW (CN x)) (EO (CN x)) (Ah (CN x)) (GO (CN x)) (λ k=>BS k (CN x)) (TU (Bm x) (Bk (Bm x) 4)) (λ k=>WT k (Bm x) (Bk (Bm x) 4)) (YV (Bm x) (Bk (Bm x) 4)) (YX (Bm x) (Bk (Bm x) 4)))) (CL j 0) 1 1)))) (Aq (AN (PC (OV x) (CN x)) (OX (OV x) (CN x)) (PR (OV x) (CN x)) (PO (OV x) (CN x)) (DO (PH (OV x) (CN x)) (CL (OP x) (BY (CN x))) (AK (λ j=>Gv j (OP x) (OV x) j (CN x) j j)) (UU (HT x) (CN x)) (λ j=>PJ j (HT x) (AU (nK x j) (CR (CN x) j)) (IR (Io x j) (CN x) j) (Io x j) (BG (CN x) j) (HR (Io x j) (CN x) j)) (TU (XI x) (Bm x)) (λ j=>WT j (XI x) (Bm x)) (YV (XI x) (Bm x)) (YX (XI x) (Bm x)))))))) := by kernel_rfl
def BLZ (x : FeI) : Prop := BEH Try.prog (A_Fe x true false) S_Fe YS (AP YS) (xFe x) (AH []) (.bool true) [] [] []
abbrev VB a b:=FeY.s (feK a b)
abbrev MU a b c:=FY (FeY.l (feK a b)) c
abbrev Da a b c:=MU a b (BH c)
abbrev jD a:=BB (CN a)
abbrev Fb a b:=AHD (VB a b) (VB a b) (VB a b) (VB a b) 4
abbrev Oe a b:=Bk (Fb a b) 300
abbrev AWG a:=Vy a a
attribute [go_sem] VB MU Da jD Fb Oe AWG
theorem BRQ (x : FeI) : (BLZ x) = (BQ (JO (EM (Ox x) (ANT x)) (λ i=>QX i (Ox x) (ANT x)) (cS (LM 12 12) GP (EM (tW x) (Ox x)) (GB (tW x) (Ox x)) (AM 0) (XQ (Mn 0 (ALV x)) (KZ 1 12) 12 14) GP (LJ (BB (LN x))))) (And (EM (Vf x) (ANR x)) (GB (Vf x) (ANR x))) (GY (λ i=>BZ (CF i) (CM (PC (CN x) (LN x)) (OX (CN x) (LN x)) (PR (CN x) (LN x)) (PO (CN x) (LN x)) (PH (CN x) (LN x)) (RP (CN x) (LN x)) (Bh (AK (λ j=>RO j (CN x) j (LN x) j j)) AJ (RR (CN x) (LN x)) (AK (λ j=>HY j (CN x) (JX (MU x i j) (CR (LN x) j)) (IR (MU x i j) (LN x) j) (EH (MU x i j) (BG (LN x) j)) (HR (MU x i j) (LN x) j) (EI (MU x i j) (BG (LN x) j)))) (EM (Fo (VB x i)) (Vf x)) (AK (λ j=>uV j (VB x i) (DE (Vf x) j))) (DK (Ln (VB x i))) (DK (Wg (VB x i))))) (WM i (CN x)))) (AK (λ i=>UN (WM i (CN x)) i (CN x) (EG (LM 4 4) (TV (VB x i)) (TX (VB x i)) (TG (VB x i)) (SX (VB x i)) (XT (VB x i)) (ZT (Ks (VB x i) 4) (IH i (jD x) (AO (oR (BH i) (CN x)) (LM 300 300) (TV (Fb x i)) (TX (Fb x i)) (TG (Fb x i)) (SX (Fb x i)) (DI (Ln (Fb x i))) (YG i (jD x)) (NT (BH i) (jD x)))) (IH i (jD x) (AO (oR (BH i) (CN x)) (LM 50 50) (TV (Oe x i)) (TX (Oe x i)) (TG (Oe x i)) (SX (Oe x i)) (DI (Ln (Oe x i))) (YG i (jD x)) (NT (BH i) (jD x)))) (GY (λ j=>SU (BQ (BT j i) (BA (CN x)) (AZ (CN x)) (AN (BE (CN x)) (BD (CN x)) (AW (CN x)) (EO (CN x)) (Bh (Ah (CN x)) AJ (GO (CN x)) (AK (λ k=>HY k (CN x) (JX (MU x j k) (Ai k i (AOW (AWG (BH i)) (FM (Da x i i))) (Ai k i (FM (Da x i i)) (FM (MU x i k))))) (EF (MU x j k) (Ai k i (YE (AWG (BH i)) (GG (CG (Da x i i)) (Gu (Fb x i) 300)) (CG (Da x i i))) (Ai k i (GG (CG (Da x i i)) (Gu (Fb x i) 300)) (CG (MU x i k))))) (BO (FQ (MU x j k)) (Ai k i (GG (YE (AWG (BH i)) (GG (CG (Da x i i)) (Gu (Fb x i) 300)) (CG (Da x i i))) (Gu (Oe x i) 50)) (Ai k i (Nf (Da x i i)) (Nf (MU x i k))))) (EA (MU x j k) (Ai k i (AOW (AWG (BH i)) (CS (Da x i i))) (Ai k i (CS (Da x i i)) (CS (MU x i k))))) (BO (FP (MU x j k)) (Ai k i (AOW (AWG (BH i)) (Uq (Da x i i))) (Ai k i (Uq (Da x i i)) (Uq (MU x i k))))))) (TU (VB x j) (Bk (Oe x i) 50)) (Fd (VB x j) (Bk (Oe x i) 50)) (YV (VB x j) (Bk (Oe x i) 50)) (YX (VB x j) (Bk (Oe x i) 50))))) (WM j (CN x)) (CN x) j i)) (GY (λ j=>SU (BQ (BT j i) (BA (CN x)) (AZ (CN x)) (AN (BE (CN x)) (BD (CN x)) (AW (CN x)) (EO (CN x)) (Bh (Ah (CN x)) AJ (GO (CN x)) (AK (λ k=>HY k (CN x) (NL (MU x j k) (MU x i k)) (LC (MU x j k) (MU x i k)) (EH (MU x j k) (MU x i k)) (HM (MU x j k) (MU x i k)) (EI (MU x j k) (MU x i k)))) (TU (VB x j) (Fb x i)) (Fd (VB x j) (Fb x i)) (YV (VB x j) (Fb x i)) (YX (VB x j) (Fb x i))))) (WM j (CN x)) (CN x) j i)))) (WZ (λ j=>EG (PC (OV x) (CN x)) (OX (OV x) (CN x)) (PR (OV x) (CN x)) (PO (OV x) (CN x)) (PH (OV x) (CN x)) (TL (CL (OP x) (BY (CN x))) (λ k=>Gv k (OP x) (OV x) k (CN x) k k) (UU (HT x) (CN x)) (MT (jD x)) (λ k=>TN k (HT x) (AU (nK x k) (FM (Da x i k))) (Io x k) (Da x i k)) (TU (XI x) (VB x i)) (Fd (XI x) (VB x i)) (YV (XI x) (VB x i)) (YX (XI x) (VB x i))) FO))))) := by kernel_rfl
def BWF (x : FeI) : Prop := Eb Try.prog (A_Fe x false false) S_Fe 9 (stdF Try.prog (A_Fe x false false) S_Fe) (AP YS) [] (E_Fe x false false)
abbrev AWC:=@Exists FN
abbrev Bi:=FN.n
abbrev QD:=FN.s
abbrev BEJ:=λ (f : FN -> Prop) => ∀ (x : FN), f x
abbrev Bc:=@Exists FNQ
abbrev yT:=FNQ.n
abbrev GH:=FNQ.k
abbrev JF:=FNQ.s
abbrev Wb:=λ (f : FNQ -> Prop) => ∀ (x : FNQ), f x
abbrev PV:=FNQ.q
abbrev SO:=@Exists FNL
abbrev Ik:=FNL.n
abbrev FC:=FNL.k
abbrev Jk:=FNL.s
abbrev Vx:=λ (f : FNL -> Prop) => ∀ (x : FNL), f x
abbrev AWB:=@Exists FNY
abbrev wH:=FNY.n
abbrev XB:=FNY.k
abbrev IX:=FNY.s
abbrev QZ:=FNY.y
abbrev AWA:=λ (f : FNY -> Prop) => ∀ (x : FNY), f x
abbrev TR:=FNL.q
abbrev Cd:=FNY.q
abbrev ALB:=HF PB
abbrev Om a b c:=bP a b ALB c
abbrev SV a:=CV (OV a)
abbrev YJ a b c:=QY (Prv.mk (SV a) b c)
abbrev He:=Mq Jc
abbrev Va:=SZ Wk
abbrev QF a:=PN (OV a)
abbrev QP a:=ME (OV a)
abbrev ARD a b:=GS (OV a) b
abbrev QL a b c d e f g h p:=JZ a (OV b) c d e (HM (ARD f g) (Io f g)) (Io h p)
abbrev QS a b:=JG (OV a) b (Io a b)
abbrev QV a b:=LC (ARD a b) (Io a b)
abbrev QN a b:=JH (OV a) b (nK a b)
abbrev QH a:=JU (OV a) (HT a)
abbrev Lq a b:=CH a (OV b)
abbrev QW a:=GR (OV a) (OP a)
abbrev IU a:=AW (OV a)
abbrev FB a:=BD (OV a)
abbrev FD a:=BE (OV a)
abbrev FL a:=AZ (OV a)
abbrev FA a:=BA (OV a)
abbrev BAZ a b c:=XF a (uU b c)
abbrev kL a:=BAZ 100 100 (BW (Bi a))
abbrev Fa a:=DK (ZD (OV a))
abbrev uY a:=BV (HT a)
abbrev MV a b:=CD a (OP b) (KU (OV b) a) (KP (OV b) a)
abbrev YT a:=BV (OP a)
abbrev Ax a b c d (e:Nat->Prop) f (g:Nat->Prop) h p:=DO (IU a) (YT b) (AK (λ i=>MV i c)) (uY d) e f g h p
abbrev AUU a b:=Bk (Jk a) b
abbrev Ul a:=AUU a 5
abbrev GW a b:=AAU a (HT b) (AM (nK b a)) (LG (Io b a)) (Io b a) (LD (Io b a)) (FS (Io b a))
abbrev lO a:=BK a 0 (AKM Wk a)
abbrev pJ a b:=Gu (Jk a) b
abbrev Vu a:=pJ a 5
abbrev XY a:=LH (TR a)
abbrev Kb a b:=cD (XY a) (TR b)
abbrev Ao a:=PK (iM a)
abbrev jQ a:=XT (Jk a)
abbrev kN a:=SX (Jk a)
abbrev lF a:=TG (Jk a)
abbrev jW a:=TX (Jk a)
abbrev lC a:=TV (Jk a)
abbrev Xx a b:=Mn a (Jk b)
abbrev BDK a b c:=BAZ a b (BW c)
abbrev uW a b:=BDK a 100 b
abbrev qX a b c d:=Ab ((λ (f : Pr -> Prop) => ∀ (x : Pr), f x) (λ i=>CA ((@List.Mem Pr) i a) (GX (Qi (OV b) i)))) c d
abbrev Cp a b c:=qX (TR a) b (XY a) c
abbrev AYZ a b c:=IE a (WY 6 b (Bi c)) b 6
abbrev ASD a b c:=AYZ a (Ik b) c
abbrev TJ a b c:=ASD (Fa a) b c
abbrev oQ:=aD 0 Jc
abbrev ATN:=AK lO
abbrev Vr a:=dN AJ ATN oQ a
abbrev tC a b:=YX (Jk a) b
abbrev Lu a b:=tC a (Jk b)
abbrev pW a b:=YV (Jk a) b
abbrev Md a b:=pW a (Jk b)
abbrev qJ a b c:=WT a (Jk b) c
abbrev Ld a b c:=qJ a b (Jk c)
abbrev sY a b:=TU (Jk a) b
abbrev Lj a b:=sY a (Jk b)
abbrev jV a b:=CL (XY a) b
abbrev Lk a b:=jV a (XY b)
abbrev ACF a b:=PZ (Ik a) b
abbrev Jz a b:=ACF a (Ik b)
abbrev AUG a b c:=BDK (uW a b) 2 c
abbrev APT a b:=Xx (AUG a (Ik b) (FC b)) b
abbrev Ew a:=APT 120 a
abbrev tX a b:=GM a (HT b)
abbrev Tg a b:=tX (FC a) b
abbrev Ur a (b:Nat->Prop) c d e:=JO a b (mR AJ c d e)
abbrev Bq a b:=Ur AJ lO oQ a b
abbrev UV a b c d e f g h p:=AO a b (FA c) (FL d) (FD e) (FB f) (IU g) (YT h) p
abbrev U6 a:=AK (λ i=>GW i a)
abbrev YI a b (c:Nat->Prop) d e f g:=DG (AK (λ i=>MV i a)) (uY a) (U6 a) b c d e f g
abbrev Uh a b c:=OJ (XY a) (TR b) c
abbrev Hd a:=APT 122 a
abbrev kM a:=MP (FC a)
abbrev qU a b c:=Cp a b (kM c)
abbrev Fe a b c d e f g:=AN a b c (qU d e f) (Hd g)
abbrev ARI a b c d:=Ab (WY a b c) d a
abbrev Yg a b c d:=ARI (HT a) b (FC c) d
abbrev UD a b c d:=Yg a (FC b) c (kM d)
abbrev SG a:=LH (Cd a)
abbrev Ti a b:=jV a (SG b)
abbrev Tz a b:=tC a (IX b)
abbrev Um a b:=pW a (IX b)
abbrev Tb a b c:=qJ a b (IX c)
abbrev Vv a b:=sY a (IX b)
abbrev YQ a b:=PZ (FC a) (XB b)
abbrev YM a b:=ACF a (wH b)
abbrev XU a:=BW (XB a)
abbrev Vq a b:=jV a (MP (SG b))
abbrev Uy a b:=II a (Ks (IX b) 2)
abbrev oH a b:=nK a (XB b)
abbrev rE a b:=nK a (JW (QZ b))
abbrev Fc a b c d:=WN (rE a b) (oH c d)
abbrev ABO a:=Bk (IX a) 2
abbrev Vn a b:=tC a (ABO b)
abbrev Vm a b:=pW a (ABO b)
abbrev Tl a b c:=qJ a b (ABO c)
abbrev Ut a b:=sY a (ABO b)
abbrev Kn a b:=HB a (HT b)
abbrev Vb a b c:=Mn (AUG 121 (wH a) (XB b)) (IX c)
abbrev Tk a b c:=AYZ a (wH b) c
abbrev kB a:=MP (XB a)
abbrev UQ a b c d e f (g:Nat->Prop) h p:=WV (FA a) (OV b) (FD c) (FB d) (IU e) (YT f) g (uY h) p
abbrev Th a b:=PZ (XB a) (FC b)
abbrev Pi a:=BW (HT a)
abbrev YB a b:=AUU a (Pi b)
abbrev Vg a:=jV a 1
abbrev At a b:=lD (CZ.mk (SV a) b)
abbrev Jx a:=Ad (PV a)
abbrev Te a b:=GB a (PV b)
abbrev AHV a b:=EM a (PV b)
abbrev Gb a:=CW (OV a)
abbrev Zt a b:=Mn a (JF b)
abbrev Zv a b:=uW a (yT b)
abbrev Bt (a:Int->Int->Prop) b c:=ALR ((@List.Pairwise Int) a (PV b)) (λ i=>ACS ((@List.Mem Int) i (PV b)) i c)
abbrev bA a:=Av (OP a)
abbrev AUA a b c:=AYZ a (yT b) c
abbrev ZF a b c:=AUA (Fa a) b c
abbrev yE a b:=YX (JF a) b
abbrev Lw a b:=yE a (JF b)
abbrev vT a b:=YV (JF a) b
abbrev Lo a b:=vT a (JF b)
abbrev Q9 a b c:=WT a (JF b) c
abbrev Kp a b c:=Q9 a b (JF c)
abbrev yQ a b:=TU (JF a) b
abbrev Kw a b:=yQ a (JF b)
abbrev Lb a:=DX (PV a)
abbrev Aw a b:=AHV (PV a) b
abbrev AJT a b:=PZ (yT a) b
abbrev UE a b:=AJT a (yT b)
abbrev qA a:=BW (GH a)
abbrev ATS a b:=Zt (XF a (qA b)) b
abbrev Eo a b:=ATS (BAZ 100 100 (BW (yT a))) b
abbrev X5 a b:=Uc a (OP b)
abbrev Sx a b:=X5 (GH a) b
abbrev Al a b:=ATS (Zv 101 a) b
abbrev tD a:=MP (GH a)
abbrev Jv (a:Int->Int->Prop) b c:=Bt a b (tD c)
abbrev qL a:=ZA (GH a) 2
abbrev Lv a b c d:=ARI (OP a) (GH b) (GH c) (qL d)
abbrev vM a:=Bk (JF a) 3
abbrev Vi a b:=yE a (vM b)
abbrev Ub a b:=vT a (vM b)
abbrev Tu a b c:=Q9 a b (vM c)
abbrev Uu a b:=yQ a (vM b)
abbrev Ux a b:=PZ (GH a) (GH b)
abbrev Kk a b:=GU (PV a) b
abbrev jI a:=BW (OP a)
abbrev Zd a:=SX (XI a)
abbrev Ys a:=TG (XI a)
abbrev Xq a b:=gQ (XI a) b
abbrev Tm a:=Fo (XI a)
abbrev bS a:=Ke (Tm a)
abbrev kT a:=DU (DX a)
abbrev aN a:=not (Ft a)
abbrev Oq a:=allG (bA a)
abbrev aU a:=kS (ZD (OV a))
attribute [go_sem] AWC Bi QD BEJ Bc yT GH JF Wb PV SO Ik FC Jk Vx AWB wH XB IX QZ AWA TR Cd ALB Om SV YJ He Va QF QP ARD QL QS QV QN QH Lq QW IU FB FD FL FA BAZ kL Fa uY MV YT Ax AUU Ul GW lO pJ Vu XY Kb Ao jQ kN lF jW lC Xx BDK uW qX Cp AYZ ASD TJ oQ ATN Vr tC Lu pW Md qJ Ld sY Lj jV Lk ACF Jz AUG APT Ew tX Tg Ur Bq UV U6 YI Uh Hd kM qU Fe ARI Yg UD SG Ti Tz Um Tb Vv YQ YM XU Vq Uy oH rE Fc ABO Vn Vm Tl Ut Kn Vb Tk kB UQ Th Pi YB Vg At Jx Te AHV Gb Zt Zv Bt bA AUA ZF yE Lw vT Lo Q9 Kp yQ Kw Lb Aw AJT UE qA ATS Eo X5 Sx Al tD Jv qL Lv vM Vi Ub Tu Uu Ux Kk jI Zd Ys Xq Tm bS kT aN Oq aU
theorem BVL (x : FeI) : (BWF x) = (UO (AI (AI (FA x) (FL x) (DO (FD x) (FB x) (IU x) (QW x) (λ i=>Lq i x) (QH x) (λ i=>QL i x (QN x i) (QV x i) (QS x i) x i x i) (BZ (QP x) (QF x) (Cb (Ea (SV x)) (OV x))) (TW (Sh (Ir (SV x)))))) (AI (FA x) (FL x) (DO (FD x) (FB x) (IU x) (QW x) (λ i=>Lq i x) (QH x) (λ i=>QL i x (QN x i) (QV x i) (QS x i) x i x i) (BZ (QP x) (QF x) (Cb (Ea (SV x)) (OV x))) ((@Eq (List Pr)) (gV (Ir (SV x))) (@List.nil Pr)))) (Om (WW (ZD (SV x)) (ZD (SV x))) (II (PK (ZD (SV x))) (WW (ZD (SV x)) 6)) (TI (Ye (ZD (SV x)) 6) (ZU (WZ (λ i=>MC AJ HJ BM (UQ x x x x x x (λ j=>MV j x) x (U6 x)) (aU x))) (Mz (λ i=>OF (aU x) Kd (jI x) (And (YH Ar 1 8) (GY (λ j=>OT (CE AJ (MW j) (KR j Kd) (FA x) (FL x) (DO (FD x) (FB x) (IU x) (YT x) (λ k=>MV k x) (uY x) (λ k=>GW k x) (MW j) (AK (λ k=>BK k j (CF k))))) (AI (aU x) (SJ j) (X5 j x)) 50 j 60))) (Ho (Cr (GU (Oq x) 0) (UQ x x x x x x (λ j=>MV j x) x (U6 x))) (aU x)))) (λ i=>OF (AI (aU x) (SJ i) (X5 i x)) (DU i) (jI x) (And (YO (Ty i 1) 1 i 8) (GY (λ j=>DC (CE AJ (VT j i) (BT j i) (FA x) (FL x) (DO (FD x) (FB x) (IU x) (YT x) (λ k=>MV k x) (uY x) (λ k=>GW k x) (VT j i) (AK (λ k=>BK k j (KR k (LY k i (BW k) (BW i))))))) (AI (aU x) (SJ j) (X5 j x)) 50 j i))) (WZ (λ j=>BZ (GU (Oq x) i) (JO (MT i) (λ k=>XH k (Oq x) (BW (BH k))) (UQ x x x x x x (λ k=>MV k x) x (U6 x))) (aU x))))) (Fk (aU x) (EG (FA x) (FL x) (FD x) (FB x) (IU x) (AO (QW x) (Gb x) (QH x) (AK (λ i=>QL i x (QN x i) (QV x i) (QS x i) x i x i)) (EM (Ad (Oq x)) (Oq x)) (GB (Ad (Oq x)) (Oq x)) (QP x) (QF x) (Lc (Ad (Oq x)))) (MF PB (Nl (TY (iM (At x (Ad (Oq x))))) (aN (At x (Ad (Oq x)))) PB)))) (EG (FA x) (FL x) (FD x) (FB x) (IU x) (AO (QW x) (Gb x) (QH x) (AK (λ i=>QL i x (QN x i) (QV x i) (QS x i) x i x i)) AJ (AK (λ i=>BK i 0 (AU (DE (Ad Wk) i) (DE Wk i)))) (QP x) (QF x) Gz) (AI (CM (FA x) (FL x) (FD x) (FB x) (IU x) (QW x) (RB (λ i=>Lq i x) (QH x) (λ i=>QL i x (QN x i) (QV x i) (QS x i) x i x i) (AM Va) (PM He 0) (Oi (cD 0 Jc) He Jc) (QP x) (QF x) (Et (cD 0 Jc)))) (CM (FA x) (FL x) (FD x) (FB x) (IU x) (QW x) (RB (λ i=>Lq i x) (QH x) (λ i=>QL i x (QN x i) (QV x i) (QS x i) x i x i) (AM (kT Wk)) (PM He 0) (Oi (cD 0 Jc) He Jc) (QP x) (QF x) (Et (cD 0 Jc)))) (Om (Gm (kR (kR (Ao (At x (Ad Wk))) (Ao (YJ x Va He)) (Ao (YJ x (kT Wk) He))) (aN (At x (Ad Wk))) (aN (YJ x Va He))) (Ft (YJ x (kT Wk) He))) (WW (BW (LH Jc)) Va) (BZ (WZ (λ i=>BZ AJ (RB lO AJ (λ j=>Tn j 0 Jc) BM (FA x) (FL x) (FD x) (FB x) (Ax x x x x (λ j=>GW j x) (bS x) (λ j=>TK j (Tm x) (Xq x j)) (Ys x) (Zd x))) (Fa x))) (Fk (Fa x) (Ho (DJ AJ lO AJ oQ (FA x) (FL x) (FD x) (FB x) (Ax x x x x (λ i=>GW i x) (bS x) (λ i=>TK i (Tm x) (Xq x i)) (Ys x) (Zd x))) (Fa x))) (Fk (Fa x) (And (AWC (λ i=>BZ AJ (RB lO AJ (λ j=>Tn j 0 Jc) (CF (Bi i)) (FA x) (FL x) (FD x) (FB x) (Ax x x x x (λ j=>GW j x) (TU (QD i) (XI x)) (λ j=>WT j (QD i) (XI x)) (YV (QD i) (XI x)) (YX (QD i) (XI x)))) (DY (Fa x) (Bi i) 6 (Mn (kL i) (QD i))))) (BEJ (λ i=>CU (DY (Fa x) (Bi i) 6 (Mn (kL i) (QD i))) (Bi i) 6 (Am (Bc (λ j=>BQ (Vr (AO (AJT j (Bi i)) AJ HJ (CF (GH j)) (FA x) (FL x) (FD x) (FB x) (Ax x x x x (λ k=>GW k x) (yQ j (QD i)) (λ k=>Q9 k j (QD i)) (vT j (QD i)) (yE j (QD i))))) (ZF x j i) (Sx j x) (Eo j j))) (Wb (λ j=>OF (DY (ZF x j i) (tD j) (OP x) (Eo j j)) (DU (GH j)) (jI x) (AI (EG (LM 3 3) (TV (JF j)) (TX (JF j)) (TG (JF j)) (SX (JF j)) (XT (JF j)) (TI (Ks (JF j) 3) (YH Ar 1 8) (Bc (λ k=>AN (Bq (UE k j) (UV (Kk k 1) (Ux k j) x x x x x x (YI x (Uu k j) (λ l=>Tu l k j) (Ub k j) (Vi k j) (Kk k 1) (AK (λ l=>XH l (PV k) (qA j)))))) (Lv x k j k) (ZF x k i) (Jv KB k k) (Al k k))) (Bc (λ k=>BQ (Vr (AO (UE k j) AJ HJ (Ux k j) (FA x) (FL x) (FD x) (FB x) (Ax x x x x (λ l=>GW l x) (Uu k j) (λ l=>Tu l k j) (Ub k j) (Vi k j)))) (Lv x k j k) (ZF x k i) (Al k k))))) (Wb (λ k=>CA (AI (Lv x k j k) (ZF x k i) (Al k k)) (Bc (λ l=>DC (Vr (AO (UE l k) AJ HJ (BT (GH l) (GH k)) (FA x) (FL x) (FD x) (FB x) (Ax x x x x (λ m=>GW m x) (Kw l k) (λ m=>Kp m l k) (Lo l k) (Lw l k)))) (DY (ZF x l i) (tD l) (OP x) (Eo l l)) (OP x) (GH l) (GH j))))) (Wb (λ k=>CA (ZR (WY (OP x) (GH k) (GH j)) (GM (qL k) (OP x)) (ZF x k i) (Jv KB k k) (Al k k)) (Bc (λ l=>DC (Bq (UE l k) (UV (Aw l k) (BT (GH l) (GH k)) x x x x x x (YI x (Kw l k) (λ m=>Kp m l k) (Lo l k) (Lw l k) (Aw l k) (Te (PV l) k)))) (BQ (ZF x l i) (Bt KB l (GH l)) (Sx l x) (Eo l l)) (OP x) (GH l) (GH j)))))) (Bc (λ k=>MC AJ ATN AJ (Bh oQ (UE k j) (Kk k 0) (FA x) (FL x) (FD x) (FB x) (Ax x x x x (λ l=>GW l x) (Kw k j) (λ l=>Kp l k j) (Lo k j) (Lw k j))) (AI (ZF x k i) (Bt KB k (bA x)) (Zt (Zv 120 k) k)))))) (Wb (λ j=>OF (BQ (ZF x j i) (Bt KB j (GH j)) (Sx j x) (Eo j j)) (DU (GH j)) (jI x) (Fp (EG (LM 3 3) (TV (JF j)) (TX (JF j)) (TG (JF j)) (SX (JF j)) (XT (JF j)) (TI (Ks (JF j) 3) (YO (And (Ke (PV j)) (LU 0 (PV j) TB)) 1 (Lb j) 8) (Bc (λ k=>AN (Bq (UE k j) (UV (Kk k (MP (Lb j))) (Ux k j) x x x x x x (YI x (Uu k j) (λ l=>Tu l k j) (Ub k j) (Vi k j) (Kk k (MP (Lb j))) (AK (λ l=>XH l (PV k) (Ak l (Lb j) (PV j) l (qA j))))))) (Lv x k j k) (ZF x k i) (Jv KB k k) (Al k k))) (Bc (λ k=>AN (Bq (UE k j) (UV (Aw k j) (Ux k j) x x x x x x (YI x (Uu k j) (λ l=>Tu l k j) (Ub k j) (Vi k j) (Aw k j) (Te (PV k) j)))) (Lv x k j k) (ZF x k i) (Jv KB k k) (Al k k))))) (Wb (λ k=>CA (ZR (WY (OP x) (GH k) (GH j)) (GM (qL k) (OP x)) (ZF x k i) (Jv KB k k) (Al k k)) (Bc (λ l=>DC (Bq (UE l k) (UV (Aw l k) (BT (GH l) (GH k)) x x x x x x (YI x (Kw l k) (λ m=>Kp m l k) (Lo l k) (Lw l k) (Aw l k) (Te (PV l) k)))) (BQ (ZF x l i) (Bt KB l (GH l)) (Sx l x) (Eo l l)) (OP x) (GH l) (GH j)))))) (Bc (λ k=>BQ (Vr (AO (UE k j) (Aw k j) (MT (Lb j)) (AK (λ l=>PL l (PV k) (PV j) (BH l))) (FA x) (FL x) (FD x) (FB x) (Ax x x x x (λ l=>GW l x) (Kw k j) (λ l=>Kp l k j) (Lo k j) (Lw k j)))) (ZF x k i) (Bt KB k (bA x)) (Zt (Zv 120 k) k))))) (Wb (λ j=>CA (AI (ZF x j i) (Bt KB j (bA x)) (Zt (Zv 120 j) j)) (EG (FA x) (FL x) (FD x) (FB x) (IU x) (AO (QW x) (Gb x) (QH x) (AK (λ k=>QL k x (QN x k) (QV x k) (QS x k) x k x k)) (AHV (Jx j) j) (Te (Jx j) j) (QP x) (QF x) (Lc (Jx j))) (Om (Ao (At x (Jx j))) (II (Ft (At x (Jx j))) (WN (SZ (PV j)) Va)) (Am (SO (λ k=>BQ (Vr (AO (ACF k (yT j)) AJ HJ (CF (FC k)) (FA x) (FL x) (FD x) (FB x) (Ax x x x x (λ l=>GW l x) (sY k (JF j)) (λ l=>qJ l k (JF j)) (pW k (JF j)) (tC k (JF j))))) (TJ x k i) (Tg k x) (Ew k))) (Vx (λ k=>CU (DY (TJ x k i) (FC k) (HT x) (Ew k)) (FC k) (Pi x) (AI (And (EG (GA (HT x)) (lC k) (jW k) (lF k) (kN k) (jQ k) (AWB (λ l=>AN (Bq (PZ (wH l) (Ik k)) (HQ OW (Th l k) (FA x) (FL x) (FD x) (FB x) (IU x) (YT x) (YI x (TU (IX l) (YB k x)) (λ m=>WT m (IX l) (YB k x)) (YV (IX l) (YB k x)) (YX (IX l) (YB k x)) (AU (QZ l) (pJ k (Pi x))) (Th l k)))) (Yg x (XB l) k (kB l)) (Kn (QZ l) x) (Tk (Fa x) l i) (Vb l l l)))) (AWA (λ l=>CA (BZ (WY (HT x) (XB l) (FC k)) (Uc (XB l) (HT x)) (JJ (QZ l) (HT x) (Tk (Fa x) l i) (Vb l l l))) (And (ED (Fc x l x l)) (LV (rE x l) (oH x l) (JL (EW (QZ l) (HT x) (CM (Kn (XU l) x) (LM 2 2) (TV (IX l)) (TX (IX l)) (TG (IX l)) (SX (IX l)) (XT (IX l)))) (Uy (Fc x l x l) l) (YH Bz 2 16) (SO (λ m=>Fe (Bq (YM m l) (UV (Vg m) (YQ m l) x x x x x x (YI x (Ut m l) (λ n=>Tl n m l) (Vm m l) (Vn m l) (Vg m) (AK (λ n=>ON n (XY m) (TR m) (QZ l) (XU l)))))) (UD x m k m) (TJ x m i) m x m m)) (SO (λ m=>BQ (Vr (AO (YM m l) AJ HJ (YQ m l) (FA x) (FL x) (FD x) (FB x) (Ax x x x x (λ n=>GW n x) (Ut m l) (λ n=>Tl n m l) (Vm m l) (Vn m l)))) (UD x m k m) (TJ x m i) (Hd m)))) (JL (Ey (QZ l) (HT x) (XB l) (XU l)) (Uy (Fc x l x l) l) (YH Bz 2 16) (SO (λ m=>Fe (Bq (YM m l) (UV (Vg m) (YQ m l) x x x x x x (YI x (Vv m l) (λ n=>Tb n m l) (Um m l) (Tz m l) (Vg m) (AK (λ n=>ON n (XY m) (TR m) (QZ l) (XU l)))))) (UD x m k m) (TJ x m i) m x m m)) (SO (λ m=>BQ (Vr (AO (YM m l) AJ HJ (YQ m l) (FA x) (FL x) (FD x) (FB x) (Ax x x x x (λ n=>GW n x) (Vv m l) (λ n=>Tb n m l) (Um m l) (Tz m l)))) (UD x m k m) (TJ x m i) (Hd m))))))))) (Vx (λ l=>CA (AI (UD x l k l) (TJ x l i) (Hd l)) (SO (λ m=>DC (Vr (AO (Jz m l) AJ HJ (BT (FC m) (FC l)) (FA x) (FL x) (FD x) (FB x) (Ax x x x x (λ n=>GW n x) (Lj m l) (λ n=>Ld n m l) (Md m l) (Lu m l)))) (DY (TJ x m i) (FC m) (HT x) (Ew m)) (HT x) (FC m) (FC k))))) (Vx (λ l=>CA (ZR (WY (HT x) (FC l) (FC k)) (tX (kM l) x) (TJ x l i) (qU l x l) (Hd l)) (SO (λ m=>DC (Bq (Jz m l) (UV (Lk m l) (BT (FC m) (FC l)) x x x x x x (YI x (Lj m l) (λ n=>Ld n m l) (Md m l) (Lu m l) (Lk m l) (Uh m m (TR l))))) (BQ (TJ x m i) (Cp m x (FC m)) (Tg m x) (Ew m)) (HT x) (FC m) (FC k)))))) (SO (λ l=>MC AJ ATN AJ (Bh oQ (Jz l k) (jV l 0) (FA x) (FL x) (FD x) (FB x) (Ax x x x x (λ m=>GW m x) (Lj l k) (λ m=>Ld m l k) (Md l k) (Lu l k))) (AI (TJ x l i) (Cp l x 20) (Xx (uW 160 (Ik l)) l)))))) (Vx (λ k=>CU (BQ (TJ x k i) (Cp k x (FC k)) (Tg k x) (Ew k)) (FC k) (Pi x) (Fp (And (EG (GA (HT x)) (lC k) (jW k) (lF k) (kN k) (jQ k) (AWB (λ l=>CE (DJ AJ lO AJ oQ (PZ (wH l) (Ik k)) AJ (CL (SG l) (XY k)) (Th l k) (UQ x x x x x x (λ m=>MV m x) x (RB (λ m=>GW m x) (TU (IX l) (YB k x)) (λ m=>WT m (IX l) (YB k x)) (YV (IX l) (YB k x)) (YX (IX l) (YB k x)) (CL (SG l) (XY k)) (OJ (SG l) (Cd l) (TR k)) (AU (QZ l) (pJ k (Pi x))) (Th l k)))) (Yg x (XB l) k (kB l)) (Kn (QZ l) x) (Tk (Fa x) l i) (qX (Cd l) x (SG l) (XB l)) (Vb l l l)))) (AWA (λ l=>CA (AN (Yg x (XB l) k (kB l)) (Kn (QZ l) x) (Tk (Fa x) l i) (qX (Cd l) x (SG l) (XB l)) (Vb l l l)) (And (ED (Fc x l x l)) (LV (rE x l) (oH x l) (JL (EW (QZ l) (HT x) (CM (Kn (XU l) x) (LM 2 2) (TV (IX l)) (TX (IX l)) (TG (IX l)) (SX (IX l)) (XT (IX l)))) (Uy (Fc x l x l) l) (YO (Bn (SG l)) 2 (SG l) 16) (SO (λ m=>Fe (Bq (YM m l) (UV (Vq m l) (YQ m l) x x x x x x (YI x (Ut m l) (λ n=>Tl n m l) (Vm m l) (Vn m l) (Vq m l) (AK (λ n=>ON n (XY m) (TR m) (LY n (SG l) (VJ (Cd l) n) (QZ l)) (LY n (SG l) (XX (Cd l) n) (XU l))))))) (UD x m k m) (TJ x m i) m x m m)) (SO (λ m=>Fe (Bq (YM m l) (UV (Ti m l) (YQ m l) x x x x x x (YI x (Ut m l) (λ n=>Tl n m l) (Vm m l) (Vn m l) (Ti m l) (Uh m m (Cd l))))) (UD x m k m) (TJ x m i) m x m m))) (JL (Ey (QZ l) (HT x) (XB l) (XU l)) (Uy (Fc x l x l) l) (YO (Bn (SG l)) 2 (SG l) 16) (SO (λ m=>Fe (Bq (YM m l) (UV (Vq m l) (YQ m l) x x x x x x (YI x (Vv m l) (λ n=>Tb n m l) (Um m l) (Tz m l) (Vq m l) (AK (λ n=>ON n (XY m) (TR m) (LY n (SG l) (VJ (Cd l) n) (QZ l)) (LY n (SG l) (XX (Cd l) n) (XU l))))))) (UD x m k m) (TJ x m i) m x m m)) (SO (λ m=>Fe (Bq (YM m l) (UV (Ti m l) (YQ m l) x x x x x x (YI x (Vv m l) (λ n=>Tb n m l) (Um m l) (Tz m l) (Ti m l) (Uh m m (Cd l))))) (UD x m k m) (TJ x m i) m x m m)))))))) (Vx (λ l=>CA (ZR (WY (HT x) (FC l) (FC k)) (tX (kM l) x) (TJ x l i) (qU l x l) (Hd l)) (SO (λ m=>DC (Bq (Jz m l) (UV (Lk m l) (BT (FC m) (FC l)) x x x x x x (YI x (Lj m l) (λ n=>Ld n m l) (Md m l) (Lu m l) (Lk m l) (Uh m m (TR l))))) (BQ (TJ x m i) (Cp m x (FC m)) (Tg m x) (Ew m)) (HT x) (FC m) (FC k)))))) (SO (λ l=>BQ (Vr (AO (Jz l k) (Lk l k) (MT (XY k)) (AK (λ m=>Ge m (XY l) (TR l) (VJ (TR k) (BH m)) (TR k) (BH m))) (FA x) (FL x) (FD x) (FB x) (Ax x x x x (λ m=>GW m x) (Lj l k) (λ m=>Ld m l k) (Md l k) (Lu l k)))) (TJ x l i) (Cp l x 20) (Xx (uW 160 (Ik l)) l))))) (Vx (λ k=>CA (AI (TJ x k i) (Cp k x 20) (Xx (uW 160 (Ik k)) k)) (AI (CE (LM 5 5) (lC k) (jW k) (lF k) (kN k) (jQ k)) (CM (FA x) (FL x) (FD x) (FB x) (IU x) (QW x) (RB (λ l=>Lq l x) (QH x) (λ l=>QL l x (QN x l) (QV x l) (QS x l) x l x l) (AM (Vu k)) (PM (Kb k k) (XY k)) (UF (Kb k k) (TR k)) (QP x) (QF x) (Et (Kb k k)))) (Om (Ao (YJ x (Vu k) (Kb k k))) (II (Ft (YJ x (Vu k) (Kb k k))) (Sb (Vu k) Va)) (AWC (λ l=>DC (Mb (RB lO AJ (λ m=>Tn m 0 Jc) (BT (Bi l) (Ik k)) (FA x) (FL x) (FD x) (FB x) (Ax x x x x (λ m=>GW m x) (TU (QD l) (Ul k)) (λ m=>WT m (QD l) (Ul k)) (YV (QD l) (Ul k)) (YX (QD l) (Ul k))))) (DY (Fa x) (Bi l) 6 (Mn (kL l) (QD l))) 6 (Bi l) (Bi i))))))))))))) (And (CM (FA x) (FL x) (FD x) (FB x) (IU x) (QW x) (RB (λ j=>Lq j x) (QH x) (λ j=>QL j x (QN x j) (QV x j) (QS x j) x j x j) (AM Va) (PM He 0) (Oi (cD 0 Jc) He Jc) (QP x) (QF x) (Et (cD 0 Jc)))) (MF PB (Nl (TY (iM (YJ x Va He))) (Ft (YJ x Va He)) PB))))))))))))))) := by kernel_rfl
def CFQ (x : FeI) : Prop := Eb Try.prog (A_Fe x true true) S_Fe 9 (stdF Try.prog (A_Fe x true true) S_Fe) (AP YS) [] (E_Fe x true true)
abbrev BQA:=@Exists (List Pr)
abbrev BIR:=@List.Perm Pr
abbrev Mx a:=DX (feQ a)
abbrev lJ a:=BW (Mx a)
abbrev pI a b:=VJ (feR a) b
abbrev Dg a:=LH (feR a)
abbrev Uo a b:=DE (feQ a) b
abbrev Ob a b:=TK a (feQ b) (Uo b a)
abbrev Oj a:=AK (λ i=>Ob i a)
abbrev TE a:=BV (Mx a)
abbrev ARO a:=BW (Dg a)
abbrev yA a:=AKH (ARO a)
abbrev Q7:=BH Mt
abbrev BBM a b:=uI a (Dg b) (pI b a) (feR b)
abbrev Bg a:=BV (Dg a)
abbrev ZV a b (c:Nat->Prop) d e f g:=YI a b c d e (Bg f) (AK (λ i=>BBM i g))
abbrev UC a b:=ASD FO a b
abbrev Ek a b c d e f g:=BKL (TE a) (Oj b) AJ (Bg c) d e f g
abbrev Fj (a:Nat->Prop) b (c:Nat->Prop) d e f g h p:=RB a b c d e (Bg f) (AK (λ i=>BBM i g)) h p
abbrev Ag a b:=AUA FO a b
abbrev Bj a:=MP (FJ.j a)
abbrev AZK a b c:=ZA a (NR b c)
abbrev jS a b:=AZK a b 0
abbrev Lm:=JW Kd
abbrev jL a b:=NR (Mx a) b
abbrev APM a b (c:Nat->Nat):=XE a (feQ b) c
abbrev xY a:=Av (Mx a)
abbrev ASZ a:=Fu (Bj a)
abbrev kI a b c:=AZK (ASZ a) b c
abbrev BGT a b:=NR (Bj a) b
abbrev S7 a b c (d:Nat->Nat):=APM (BGT a b) c d
abbrev BHV a b c (d:Nat->Nat):=DX (S7 a b c d)
abbrev XL a b:=BHV a Mt b TO
abbrev Yj a b:=S7 a Mt b TO
abbrev Vh a b c:=AZK a (Mx b) (ASZ c)
abbrev Sz a b:=BHV a 0 b BH
abbrev Wl a:=My (SV a)
abbrev Jr a:=Bl (SV a)
abbrev Ej a:=Mq (Wl a)
attribute [go_sem] BQA BIR Mx lJ pI Dg Uo Ob Oj TE ARO yA Q7 BBM Bg ZV UC Ek Fj Ag Bj AZK jS Lm jL APM xY ASZ kI BGT S7 BHV XL Yj Vh Sz Wl Jr Ej
theorem CID (x : FeI) : (CFQ x) = (UO (MC (FA x) (FL x) (FD x) (AO (FB x) (IU x) (QW x) (Gb x) (QH x) (AK (λ i=>QL i x (QN x i) (QV x i) (QS x i) x i x i)) (BZ (QP x) (QF x) (Cb (Ea (SV x)) (OV x))) (aW (Sh (Ir (SV x))) (Jr x)) (DK (ZD (SV x)))) (AN (CE (FA x) (FL x) (FD x) (FB x) (IU x) (AO (QW x) (Gb x) (QH x) (AK (λ i=>QL i x (QN x i) (QV x i) (QS x i) x i x i)) (And (QP x) (QF x)) (DK (Ea (SV x))) (ZQ (EJ (OV x))) (LJ (LH (Wl x))) (GX (Lg (fwW (SV x)))))) (CE (FA x) (FL x) (FD x) (FB x) (IU x) (AO (QW x) (Gb x) (QH x) (AK (λ i=>QL i x (QN x i) (QV x i) (QS x i) x i x i)) (EM (Sr (SV x)) (Jr x)) (GB (Sr (SV x)) (Jr x)) (QP x) (QF x) (Lc (Sr (SV x))))) (AI (FA x) (FL x) (DO (FD x) (FB x) (IU x) (QW x) (λ i=>Lq i x) (QH x) (λ i=>QL i x (QN x i) (QV x i) (QS x i) x i x i) (AM (SZ (Jr x))) (AGT AJ (Vp (Ej x) (Wl x)) (UF (Ej x) (Wl x)) (Vp (Wl x) (Ej x)) (UF (Wl x) (Ej x)) (QP x) (QF x) (Et (Ej x))))) (AI (FA x) (FL x) (DO (FD x) (FB x) (IU x) (QW x) (λ i=>Lq i x) (QH x) (λ i=>QL i x (QN x i) (QV x i) (QS x i) x i x i) (AM (kT (Jr x))) (AGT AJ (Vp (Ej x) (Wl x)) (UF (Ej x) (Wl x)) (Vp (Wl x) (Ej x)) (UF (Wl x) (Ej x)) (QP x) (QF x) (Et (Ej x))))) (Om (Gm (kR (kR (Ao (At x (Sr (SV x)))) (Ao (YJ x (SZ (Jr x)) (Ej x))) (Ao (YJ x (kT (Jr x)) (Ej x)))) (aN (At x (Sr (SV x)))) (aN (YJ x (SZ (Jr x)) (Ej x)))) (Ft (YJ x (kT (Jr x)) (Ej x)))) (WW (BW (LH (Wl x))) (SZ (Jr x))) (Am (WZ (λ i=>MC (EM (feQ x) (Jr x)) (GB (feQ x) (Jr x)) AJ (UV (CL (Dg x) (LH (Wl x))) BM x x x x x x (YI x (bS x) (λ j=>TK j (Tm x) (Xq x j)) (Ys x) (Zd x) (CL (Dg x) (LH (Wl x))) (OJ (Dg x) (feR x) (Wl x)))) FO)) ((λ (f : FJ -> Prop) => ∀ (x : FJ), f x) (λ i=>CU (MG (Bj i) (Mx x)) (Bj i) (lJ x) (AI (Am VU (RF (Bj i)) (Cg (BW (Bj i)) (Mx x)) (DJ (GU (Yj i x) (BGT i Mt)) (λ j=>NG j (S7 i 0 x BH) (Yj i x) j (feQ x) (TO j)) (And (LJ (Sz i x)) (RH (Sz i x))) (AI (DI (DU (Bj i))) (Cg (DU (Bj i)) (Mx x)) (Z7 (lJ x))) (And (Ke (Yj i x)) (LU 0 (S7 i 0 x BH) TB)) (Hu FO (jL x (ASZ i)) 1) (Hc (LJ (jL x (ASZ i)))) (GM (Vh (Sz i x) x i) 9223372036854775807) (YR (Ze (Vh (Sz i x) x i) 8)))) (CE (FA x) (FL x) (FD x) (FB x) (IU x) (AO (QW x) (Gb x) (QH x) (AK (λ j=>QL j x (QN x j) (QV x j) (QS x j) x j x j)) (GU (NJ (Vh (XL i x) x i) (λ j=>Ak j (XL i x) (Yj i x) j (Uo x (kI i j (XL i x))))) (Vh (XL i x) x i)) (AK (λ j=>QC j (NJ (Vh (Sz i x) x i) (λ k=>Ak k (Sz i x) (S7 i 0 x BH) k (Uo x (kI i k (Sz i x))))) (NJ (Vh (XL i x) x i) (λ k=>Ak k (XL i x) (Yj i x) k (Uo x (kI i k (XL i x))))) j (Ak j (XL i x) (Yj i x) j (Uo x (kI i j (XL i x)))))) (QP x) (QF x) (Lc (NJ (Vh (Sz i x) x i) (λ j=>Ak j (Sz i x) (S7 i 0 x BH) j (Uo x (kI i j (Sz i x)))))))) (Om (Ao (At x (NJ (Vh (XL i x) x i) (λ j=>Ak j (XL i x) (Yj i x) j (Uo x (kI i j (XL i x))))))) (Ft (At x (NJ (Vh (XL i x) x i) (λ j=>Ak j (XL i x) (Yj i x) j (Uo x (kI i j (XL i x))))))) (EX (CM (YG (Bj i) (Dg x)) (DD (BH (Bj i)) (Dg x)) (FA x) (FL x) (FD x) (FB x) (DG (IU x) (QW x) (Gb x) (QH x) (λ j=>QL j x (QN x j) (QV x j) (QS x j) x j x j) (AM (pI x (BH (Bj i)))) (bT (feR x) (BH (Bj i))) (QP x) (QF x))) (Gm (Ao (latV (CP.mk (SV x) (Fm (feR x) (BH (Bj i)))))) (aN (latV (CP.mk (SV x) (Fm (feR x) (BH (Bj i))))))) ALB ((@Exists FJ) (λ j=>DC (CE (TE x) (Oj x) AJ (Bg x) (BT (Bj j) (Bj i)) (DJ (GU (FJ.q j) (Vh (XL i x) x i)) (λ k=>XH k (FJ.q j) (Ak k (XL i x) (Yj i x) k (Uo x (kI i k (XL i x))))) (FA x) (FL x) (FD x) (FB x) (IU x) (YT x) (ZV x (bS x) (λ k=>TK k (Tm x) (Xq x k)) (Ys x) (Zd x) x x))) (MG (Bj j) (Mx x)) (Mx x) (Bj j) (Bj i)))))) (Aq (JO (TE x) (λ j=>Ob j x) (UV AJ (Bg x) x x x x x x (ZV x (bS x) (λ j=>TK j (Tm x) (Xq x j)) (Ys x) (Zd x) x x)))))) (Mz (λ i=>OF FO 0 (lJ x) (AI (And (Cr VU (RF (Mx x))) (DJ AJ (λ j=>BK j 0 (AU (DE Wk j) (Uo x (TO j)))) FO (AI (DI Kd) (Cg Kd (Mx x)) (Z7 (lJ x))) Ar (Hu FO (xY x) 1) (Hc (LJ (xY x))) (YN (xY x) 9223372036854775807) (YR (Ze (BH (xY x)) 8)))) (CE (FA x) (FL x) (FD x) (FB x) (IU x) (AO (QW x) (Gb x) (QH x) (AK (λ j=>QL j x (QN x j) (QV x j) (QS x j) x j x j)) (GU (APM (BH (jL x Lm)) x (λ j=>jS Lm j)) (BH (jL x Lm))) (AK (λ j=>NG j (APM (BH (xY x)) x (λ k=>jS 1 k)) (APM (BH (jL x Lm)) x (λ k=>jS Lm k)) j (feQ x) (jS Lm j))) (QP x) (QF x) (Lc (APM (BH (xY x)) x (λ j=>jS 1 j))))) (Om (Ao (At x (APM (BH (jL x Lm)) x (λ j=>jS Lm j)))) (Ft (At x (APM (BH (jL x Lm)) x (λ j=>jS Lm j)))) (EX (CM (And VU (FR 0 (Dg x))) (LJ (Dg x)) (FA x) (FL x) (FD x) (FB x) (DG (IU x) (QW x) (Gb x) (QH x) (λ j=>QL j x (QN x j) (QV x j) (QS x j) x j x j) (AM (pI x Q7)) (bT (feR x) Q7) (QP x) (QF x))) (Gm (Ao (latV (CP.mk (SV x) (Fm (feR x) Q7)))) (aN (latV (CP.mk (SV x) (Fm (feR x) Q7))))) ALB ((@Exists FJ) (λ j=>OT (CE (TE x) (Oj x) AJ (Bg x) (KR (Bj j) Kd) (DJ (GU (FJ.q j) (BH (jL x Lm))) (λ k=>PL k (FJ.q j) (feQ x) (jS Lm k)) (FA x) (FL x) (FD x) (FB x) (IU x) (YT x) (ZV x (bS x) (λ k=>TK k (Tm x) (Xq x k)) (Ys x) (Zd x) x x))) (MG (Bj j) (Mx x)) (Mx x) (Bj j) (MP (Mx x))))))) (Aq (JO (TE x) (λ j=>Ob j x) (UV AJ (Bg x) x x x x x x (ZV x (bS x) (λ j=>TK j (Tm x) (Xq x j)) (Ys x) (Zd x) x x)))))) (UO (And (AWC (λ i=>MC (TE x) (Oj x) AJ (UV (Bg x) (CF (Bi i)) x x x x x x (ZV x (TU (QD i) (XI x)) (λ j=>WT j (QD i) (XI x)) (YV (QD i) (XI x)) (YX (QD i) (XI x)) x x)) (DY FO (Bi i) 6 (Mn (kL i) (QD i))))) (BEJ (λ i=>CU (DY FO (Bi i) 6 (Mn (kL i) (QD i))) (Bi i) 6 (Am (Bc (λ j=>BQ (Ur (TE x) (λ k=>Ob k x) (Bg x) (AJT j (Bi i)) (HQ OW (CF (GH j)) (FA x) (FL x) (FD x) (FB x) (IU x) (YT x) (ZV x (yQ j (QD i)) (λ k=>Q9 k j (QD i)) (vT j (QD i)) (yE j (QD i)) x x))) (Ag j i) (Sx j x) (Eo j j))) (Wb (λ j=>OF (DY (Ag j i) (tD j) (OP x) (Eo j j)) (DU (GH j)) (jI x) (AI (EG (LM 3 3) (TV (JF j)) (TX (JF j)) (TG (JF j)) (SX (JF j)) (XT (JF j)) (TI (Ks (JF j) 3) (YH Ar 1 8) (Bc (λ k=>AN (Ek x x x (UE k j) (Kk k 1) (Ux k j) (UQ x x x x x x (λ l=>MV l x) x (Fj (λ l=>GW l x) (Uu k j) (λ l=>Tu l k j) (Ub k j) (Vi k j) x x (Kk k 1) (AK (λ l=>XH l (PV k) (qA j)))))) (Lv x k j k) (Ag k i) (Jv KB k k) (Al k k))) (Bc (λ k=>BQ (Ur (TE x) (λ l=>Ob l x) (Bg x) (UE k j) (HQ OW (Ux k j) (FA x) (FL x) (FD x) (FB x) (IU x) (YT x) (ZV x (Uu k j) (λ l=>Tu l k j) (Ub k j) (Vi k j) x x))) (Lv x k j k) (Ag k i) (Al k k))))) (Wb (λ k=>CA (AI (Lv x k j k) (Ag k i) (Al k k)) (Bc (λ l=>DC (Ur (TE x) (λ m=>Ob m x) (Bg x) (UE l k) (HQ OW (BT (GH l) (GH k)) (FA x) (FL x) (FD x) (FB x) (IU x) (YT x) (ZV x (Kw l k) (λ m=>Kp m l k) (Lo l k) (Lw l k) x x))) (DY (Ag l i) (tD l) (OP x) (Eo l l)) (OP x) (GH l) (GH j))))) (Wb (λ k=>CA (ZR (WY (OP x) (GH k) (GH j)) (GM (qL k) (OP x)) (Ag k i) (Jv KB k k) (Al k k)) (Bc (λ l=>DC (Ek x x x (UE l k) (Aw l k) (BT (GH l) (GH k)) (UQ x x x x x x (λ m=>MV m x) x (Fj (λ m=>GW m x) (Kw l k) (λ m=>Kp m l k) (Lo l k) (Lw l k) x x (Aw l k) (Te (PV l) k)))) (BQ (Ag l i) (Bt KB l (GH l)) (Sx l x) (Eo l l)) (OP x) (GH l) (GH j)))))) (Bc (λ k=>EG (TE x) (Oj x) AJ (Bg x) (UE k j) (AWU (Kk k 0) (FA x) (FL x) (FD x) (FB x) (IU x) (YT x) (ZV x (Kw k j) (λ l=>Kp l k j) (Lo k j) (Lw k j) x x)) (AI (Ag k i) (Bt KB k (bA x)) (Zt (Zv 120 k) k)))))) (Wb (λ j=>OF (BQ (Ag j i) (Bt KB j (GH j)) (Sx j x) (Eo j j)) (DU (GH j)) (jI x) (Fp (EG (LM 3 3) (TV (JF j)) (TX (JF j)) (TG (JF j)) (SX (JF j)) (XT (JF j)) (TI (Ks (JF j) 3) (YO (And (Ke (PV j)) (LU 0 (PV j) TB)) 1 (Lb j) 8) (Bc (λ k=>AN (Ek x x x (UE k j) (Kk k (MP (Lb j))) (Ux k j) (UQ x x x x x x (λ l=>MV l x) x (Fj (λ l=>GW l x) (Uu k j) (λ l=>Tu l k j) (Ub k j) (Vi k j) x x (Kk k (MP (Lb j))) (AK (λ l=>XH l (PV k) (Ak l (Lb j) (PV j) l (qA j))))))) (Lv x k j k) (Ag k i) (Jv KB k k) (Al k k))) (Bc (λ k=>AN (Ek x x x (UE k j) (Aw k j) (Ux k j) (UQ x x x x x x (λ l=>MV l x) x (Fj (λ l=>GW l x) (Uu k j) (λ l=>Tu l k j) (Ub k j) (Vi k j) x x (Aw k j) (Te (PV k) j)))) (Lv x k j k) (Ag k i) (Jv KB k k) (Al k k))))) (Wb (λ k=>CA (ZR (WY (OP x) (GH k) (GH j)) (GM (qL k) (OP x)) (Ag k i) (Jv KB k k) (Al k k)) (Bc (λ l=>DC (Ek x x x (UE l k) (Aw l k) (BT (GH l) (GH k)) (UQ x x x x x x (λ m=>MV m x) x (Fj (λ m=>GW m x) (Kw l k) (λ m=>Kp m l k) (Lo l k) (Lw l k) x x (Aw l k) (Te (PV l) k)))) (BQ (Ag l i) (Bt KB l (GH l)) (Sx l x) (Eo l l)) (OP x) (GH l) (GH j)))))) (Bc (λ k=>BQ (CM (TE x) (Oj x) AJ (Bg x) (UE k j) (Aw k j) (DJ (MT (Lb j)) (λ l=>PL l (PV k) (PV j) (BH l)) (FA x) (FL x) (FD x) (FB x) (IU x) (YT x) (ZV x (Kw k j) (λ l=>Kp l k j) (Lo k j) (Lw k j) x x))) (Ag k i) (Bt KB k (bA x)) (Zt (Zv 120 k) k))))) (Wb (λ j=>CA (AI (Ag j i) (Bt KB j (bA x)) (Zt (Zv 120 j) j)) (EG (FA x) (FL x) (FD x) (FB x) (IU x) (AO (QW x) (Gb x) (QH x) (AK (λ k=>QL k x (QN x k) (QV x k) (QS x k) x k x k)) (AHV (Jx j) j) (Te (Jx j) j) (QP x) (QF x) (Lc (Jx j))) (Om (Ao (At x (Jx j))) (II (Ft (At x (Jx j))) (WN (SZ (PV j)) (lJ x))) (Am (SO (λ k=>BQ (Ur (TE x) (λ l=>Ob l x) (Bg x) (ACF k (yT j)) (HQ OW (CF (FC k)) (FA x) (FL x) (FD x) (FB x) (IU x) (YT x) (ZV x (sY k (JF j)) (λ l=>qJ l k (JF j)) (pW k (JF j)) (tC k (JF j)) x x))) (UC k i) (Tg k x) (Ew k))) (Vx (λ k=>CU (DY (UC k i) (FC k) (HT x) (Ew k)) (FC k) (Pi x) (AI (And (EG (GA (HT x)) (lC k) (jW k) (lF k) (kN k) (jQ k) (AWB (λ l=>AN (Ek x x x (PZ (wH l) (Ik k)) HJ (Th l k) (UQ x x x x x x (λ m=>MV m x) x (Fj (λ m=>GW m x) (TU (IX l) (YB k x)) (λ m=>WT m (IX l) (YB k x)) (YV (IX l) (YB k x)) (YX (IX l) (YB k x)) x x (AU (QZ l) (pJ k (Pi x))) (Th l k)))) (Yg x (XB l) k (kB l)) (Kn (QZ l) x) (Tk FO l i) (Vb l l l)))) (AWA (λ l=>CA (BZ (WY (HT x) (XB l) (FC k)) (Uc (XB l) (HT x)) (JJ (QZ l) (HT x) (Tk FO l i) (Vb l l l))) (And (ED (Fc x l x l)) (LV (rE x l) (oH x l) (JL (EW (QZ l) (HT x) (CM (Kn (XU l) x) (LM 2 2) (TV (IX l)) (TX (IX l)) (TG (IX l)) (SX (IX l)) (XT (IX l)))) (Uy (Fc x l x l) l) (YH Bz 2 16) (SO (λ m=>Fe (Ek x x x (YM m l) (Vg m) (YQ m l) (UQ x x x x x x (λ n=>MV n x) x (Fj (λ n=>GW n x) (Ut m l) (λ n=>Tl n m l) (Vm m l) (Vn m l) x x (Vg m) (AK (λ n=>ON n (XY m) (TR m) (QZ l) (XU l)))))) (UD x m k m) (UC m i) m x m m)) (SO (λ m=>BQ (Ur (TE x) (λ n=>Ob n x) (Bg x) (YM m l) (HQ OW (YQ m l) (FA x) (FL x) (FD x) (FB x) (IU x) (YT x) (ZV x (Ut m l) (λ n=>Tl n m l) (Vm m l) (Vn m l) x x))) (UD x m k m) (UC m i) (Hd m)))) (JL (Ey (QZ l) (HT x) (XB l) (XU l)) (Uy (Fc x l x l) l) (YH Bz 2 16) (SO (λ m=>Fe (Ek x x x (YM m l) (Vg m) (YQ m l) (UQ x x x x x x (λ n=>MV n x) x (Fj (λ n=>GW n x) (Vv m l) (λ n=>Tb n m l) (Um m l) (Tz m l) x x (Vg m) (AK (λ n=>ON n (XY m) (TR m) (QZ l) (XU l)))))) (UD x m k m) (UC m i) m x m m)) (SO (λ m=>BQ (Ur (TE x) (λ n=>Ob n x) (Bg x) (YM m l) (HQ OW (YQ m l) (FA x) (FL x) (FD x) (FB x) (IU x) (YT x) (ZV x (Vv m l) (λ n=>Tb n m l) (Um m l) (Tz m l) x x))) (UD x m k m) (UC m i) (Hd m))))))))) (Vx (λ l=>CA (AI (UD x l k l) (UC l i) (Hd l)) (SO (λ m=>DC (Ur (TE x) (λ n=>Ob n x) (Bg x) (Jz m l) (HQ OW (BT (FC m) (FC l)) (FA x) (FL x) (FD x) (FB x) (IU x) (YT x) (ZV x (Lj m l) (λ n=>Ld n m l) (Md m l) (Lu m l) x x))) (DY (UC m i) (FC m) (HT x) (Ew m)) (HT x) (FC m) (FC k))))) (Vx (λ l=>CA (ZR (WY (HT x) (FC l) (FC k)) (tX (kM l) x) (UC l i) (qU l x l) (Hd l)) (SO (λ m=>DC (Ek x x x (Jz m l) (Lk m l) (BT (FC m) (FC l)) (UQ x x x x x x (λ n=>MV n x) x (Fj (λ n=>GW n x) (Lj m l) (λ n=>Ld n m l) (Md m l) (Lu m l) x x (Lk m l) (Uh m m (TR l))))) (BQ (UC m i) (Cp m x (FC m)) (Tg m x) (Ew m)) (HT x) (FC m) (FC k)))))) (SO (λ l=>EG (TE x) (Oj x) AJ (Bg x) (Jz l k) (AWU (jV l 0) (FA x) (FL x) (FD x) (FB x) (IU x) (YT x) (ZV x (Lj l k) (λ m=>Ld m l k) (Md l k) (Lu l k) x x)) (AI (UC l i) (Cp l x 20) (Xx (uW 160 (Ik l)) l)))))) (Vx (λ k=>CU (BQ (UC k i) (Cp k x (FC k)) (Tg k x) (Ew k)) (FC k) (Pi x) (Fp (And (EG (GA (HT x)) (lC k) (jW k) (lF k) (kN k) (jQ k) (AWB (λ l=>CE (JO (TE x) (λ m=>Ob m x) (AWQ AJ (Bg x) (PZ (wH l) (Ik k)) (CL (SG l) (XY k)) (Th l k) (FA x) (FL x) (DO (FD x) (FB x) (IU x) (YT x) (λ m=>MV m x) (uY x) (λ m=>GW m x) (TU (IX l) (YB k x)) (DO (Fd (IX l) (YB k x)) (YV (IX l) (YB k x)) (YX (IX l) (YB k x)) (Bg x) (λ m=>BBM m x) (CL (SG l) (XY k)) (λ m=>Ou m (SG l) (Cd l) (TR k)) (AU (QZ l) (pJ k (Pi x))) (Th l k))))) (Yg x (XB l) k (kB l)) (Kn (QZ l) x) (Tk FO l i) (qX (Cd l) x (SG l) (XB l)) (Vb l l l)))) (AWA (λ l=>CA (AN (Yg x (XB l) k (kB l)) (Kn (QZ l) x) (Tk FO l i) (qX (Cd l) x (SG l) (XB l)) (Vb l l l)) (And (ED (Fc x l x l)) (LV (rE x l) (oH x l) (JL (EW (QZ l) (HT x) (CM (Kn (XU l) x) (LM 2 2) (TV (IX l)) (TX (IX l)) (TG (IX l)) (SX (IX l)) (XT (IX l)))) (Uy (Fc x l x l) l) (YO (Bn (SG l)) 2 (SG l) 16) (SO (λ m=>Fe (Ek x x x (YM m l) (Vq m l) (YQ m l) (UQ x x x x x x (λ n=>MV n x) x (Fj (λ n=>GW n x) (Ut m l) (λ n=>Tl n m l) (Vm m l) (Vn m l) x x (Vq m l) (AK (λ n=>ON n (XY m) (TR m) (LY n (SG l) (VJ (Cd l) n) (QZ l)) (LY n (SG l) (XX (Cd l) n) (XU l))))))) (UD x m k m) (UC m i) m x m m)) (SO (λ m=>Fe (Ek x x x (YM m l) (Ti m l) (YQ m l) (UQ x x x x x x (λ n=>MV n x) x (Fj (λ n=>GW n x) (Ut m l) (λ n=>Tl n m l) (Vm m l) (Vn m l) x x (Ti m l) (Uh m m (Cd l))))) (UD x m k m) (UC m i) m x m m))) (JL (Ey (QZ l) (HT x) (XB l) (XU l)) (Uy (Fc x l x l) l) (YO (Bn (SG l)) 2 (SG l) 16) (SO (λ m=>Fe (Ek x x x (YM m l) (Vq m l) (YQ m l) (UQ x x x x x x (λ n=>MV n x) x (Fj (λ n=>GW n x) (Vv m l) (λ n=>Tb n m l) (Um m l) (Tz m l) x x (Vq m l) (AK (λ n=>ON n (XY m) (TR m) (LY n (SG l) (VJ (Cd l) n) (QZ l)) (LY n (SG l) (XX (Cd l) n) (XU l))))))) (UD x m k m) (UC m i) m x m m)) (SO (λ m=>Fe (Ek x x x (YM m l) (Ti m l) (YQ m l) (UQ x x x x x x (λ n=>MV n x) x (Fj (λ n=>GW n x) (Vv m l) (λ n=>Tb n m l) (Um m l) (Tz m l) x x (Ti m l) (Uh m m (Cd l))))) (UD x m k m) (UC m i) m x m m)))))))) (Vx (λ l=>CA (ZR (WY (HT x) (FC l) (FC k)) (tX (kM l) x) (UC l i) (qU l x l) (Hd l)) (SO (λ m=>DC (Ek x x x (Jz m l) (Lk m l) (BT (FC m) (FC l)) (UQ x x x x x x (λ n=>MV n x) x (Fj (λ n=>GW n x) (Lj m l) (λ n=>Ld n m l) (Md m l) (Lu m l) x x (Lk m l) (Uh m m (TR l))))) (BQ (UC m i) (Cp m x (FC m)) (Tg m x) (Ew m)) (HT x) (FC m) (FC k)))))) (SO (λ l=>BQ (CM (TE x) (Oj x) AJ (Bg x) (Jz l k) (Lk l k) (DJ (MT (XY k)) (λ m=>Ge m (XY l) (TR l) (VJ (TR k) (BH m)) (TR k) (BH m)) (FA x) (FL x) (FD x) (FB x) (IU x) (YT x) (ZV x (Lj l k) (λ m=>Ld m l k) (Md l k) (Lu l k) x x))) (UC l i) (Cp l x 20) (Xx (uW 160 (Ik l)) l))))) (Vx (λ k=>CA (AI (UC k i) (Cp k x 20) (Xx (uW 160 (Ik k)) k)) (AI (CE (LM 5 5) (lC k) (jW k) (lF k) (kN k) (jQ k)) (CM (FA x) (FL x) (FD x) (FB x) (IU x) (QW x) (RB (λ l=>Lq l x) (QH x) (λ l=>QL l x (QN x l) (QV x l) (QS x l) x l x l) (AM (Vu k)) (PM (Kb k k) (XY k)) (UF (Kb k k) (TR k)) (QP x) (QF x) (Et (Kb k k)))) (Om (Ao (YJ x (Vu k) (Kb k k))) (II (Ft (YJ x (Vu k) (Kb k k))) (Sb (Vu k) (lJ x))) (AWC (λ l=>DC (BQ (TE x) (Oj x) AJ (UV (Bg x) (BT (Bi l) (Ik k)) x x x x x x (ZV x (TU (QD l) (Ul k)) (λ m=>WT m (QD l) (Ul k)) (YV (QD l) (Ul k)) (YX (QD l) (Ul k)) x x))) (DY FO (Bi l) 6 (Mn (kL l) (QD l))) 6 (Bi l) (Bi i))))))))))))) (And (TI (Sb (ARO x) 1) (EW (TT (ARO x)) (Dg x) (AI (DD (yA x) (Dg x)) (And VU (FR 0 (Dg x))) (dN (LJ (Dg x)) (And VU (FR 0 (Dg x))) (HB (TT (ARO x)) (Dg x)) (NT (yA x) (Dg x))))) (BQA (λ j=>And (CM (TE x) (Oj x) AJ (PM j (Dg x)) (FA x) (FL x) (DO (FD x) (FB x) (IU x) (YT x) (λ k=>MV k x) (uY x) (λ k=>GW k x) (PM j (Dg x)) (AK (λ k=>ON k (LH j) j (VD k (yA x) (pI x Q7) (Ai k Mt (pI x (yA x)) (pI x k))) (VD k (yA x) (XX (feR x) Q7) (Ai k Mt (XX (feR x) (yA x)) (XX (feR x) k))))))) (BIR j (feR x)))) (BQA (λ j=>And (CM (TE x) (Oj x) AJ (PM j (Dg x)) (FA x) (FL x) (DO (FD x) (FB x) (IU x) (YT x) (λ k=>MV k x) (uY x) (λ k=>GW k x) (PM j (Dg x)) (AK (λ k=>Pf k (LH j) j (pI x k) (feR x))))) (BIR j (feR x))))) ((λ (f : List Pr -> Prop) => ∀ (x : List Pr), f x) (λ j=>CA (BIR j (feR x)) (Am (FA x) (FL x) (DO (FD x) (FB x) (IU x) (QW x) (λ k=>Lq k x) (QH x) (λ k=>QL k x (QN x k) (QV x k) (QS x k) x k x k) (GA (Mx x)) (AGT AJ (Vp (Mq j) j) (UF (Mq j) j) (Vp j (Mq j)) (UF j (Mq j)) (QP x) (QF x) (Et (Mq j)))) (MF PB (Nl (TY (iM (YJ x (lJ x) (Mq j)))) (Ft (YJ x (lJ x) (Mq j))) PB))))))))))))))) := by kernel_rfl
end Go.Bal
