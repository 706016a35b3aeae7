/- Law ChartParted: its walk. -/
import Derived.Test.YtdbjalgfomknhaaChW
import Derived.Test.YtdbjalgfomknhaaChCp
set_option linter.unusedVariables false
set_option linter.unusedSimpArgs false
namespace Go.Bal
open Go Go.Sym Go.Proofs
structure PaI where
 bs : List Int
 m : Int
 t : Int
def paM (x : PaI) : MkI := ⟨⟨x.bs, 0, 0⟩, 12, false⟩
def AB (x : PaI) : Cht := HG (paM x)
def HE (x : PaI) : Tru := tK (paM x)
def AZ (x : PaI) : Int := KH x.m (AB x).ms.length
def SD (x : PaI) : Nt := ⟨AZ x, ⟨gD (HE x).t (AZ x).toNat, gD (HE x).t (AZ x).toNat⟩, ⟨gD (HE x).s (AZ x).toNat, gD (HE x).s (AZ x).toNat⟩⟩
def flN (m : Int) (l : List Nt) : Nat -> List Nt
 | 0 => []
 | k + 1 => bif (gD l k).mi != m then flN m l k ++ [gD l k] else flN m l k
def DM (x : PaI) : List Nt := flN (AZ x) (AB x).ns (AB x).ns.length ++ [SD x]
def AO (x : PaI) : Cht := ⟨(AB x).p, (AB x).base, (AB x).scale, (AB x).off, (AB x).ms, DM x⟩
def Dl (m : Int) (l : List Nt) : Nat -> List Nt
 | 0 => []
 | k + 1 => bif decide ((gD l k).mi <= m) then Dl m l k ++ [gD l k] else Dl m l k
def dnN (m : Int) (n : Nt) : Nt := ⟨wr (n.mi - m), n.t, n.s⟩
def YI (m : Int) (l : List Nt) : Nat -> List Nt
 | 0 => []
 | k + 1 => bif decide ((gD l k).mi >= m) then YI m l k ++ [dnN m (gD l k)] else YI m l k
def QA (x : PaI) : List Mk := AE ((AZ x).toNat + 1) λ i => gD (AB x).ms i
def PS (x : PaI) : List Mk := AE ((AB x).ms.length - (AZ x).toNat) λ i => gD (AB x).ms ((AZ x).toNat + i)
def DP (x : PaI) : Cht := ⟨(AB x).p, (AB x).base, (AB x).scale, (AB x).off, QA x, Dl (AZ x) (DM x) (DM x).length⟩
def DV (x : PaI) : Cht := ⟨(AB x).p, (AB x).base, (AB x).scale, (AB x).off, PS x, YI (AZ x) (DM x) (DM x).length⟩
def trB (t : Tru) : HCell := .live (.box [.d (DK t.t), .d (DK t.s), .d (DK t.z)])
def pnB (n : Nt) : HCell := .live (.box [.int n.mi, .int n.t.lo, .int n.t.hi, .int n.s.lo, .int n.s.hi])
def CEV (l : List Nt) : HCell := .live (.row 5 l.length λ i => eNt (gD l i))
def chM (c : Cht) (ms : List Mk) (v : AVal) : HCell := .live (.box [.int c.p.lo, .int c.p.hi, .int c.base, .int c.scale, .int c.off, .d (eMks ms), v])
def paSl (x : PaI) : List (Nat × AVal) := [(2, .int x.t), (7, .bptr 2096 0), (8, .bptr 2112 0), (9, .int (AZ x)), (10, .bptr 4384 0)]
def paH (x : PaI) : List (Nat × HCell) := [(2096, .live (chB (AB x))), (2112, trB (HE x)), (4384, pnB (SD x))]
def RE (x : PaI) (k : Nat) : List Nt := flN (AZ x) (AB x).ns k
def pa6n (x : PaI) : Shape := { α := Nat, dflt := 0, T := λ k => ⟨paSl x ++ [(11, .d GC), (12, .int k)], paH x⟩, inv := λ k => k <= (AB x).ns.length /\ RE x k = [], meas := λ k => (AB x).ns.length - k, tag := [0] }
def pa6o (x : PaI) : Shape := { α := Nat, dflt := 0, T := λ k => ⟨paSl x ++ [(11, .own 305 5 0 (RE x k).length), (12, .int k)], paH x ++ [(305, CEV (RE x k))]⟩, inv := λ k => k <= (AB x).ns.length /\ 1 <= (RE x k).length, meas := λ k => (AB x).ns.length - k, tag := [1] }
def pa7n (x : PaI) (m : Nat) : Shape := { α := Nat, dflt := 0, T := λ k => ⟨paSl x ++ [(11, .d GC), (12, .int k)], paH x⟩, inv := λ k => (k < (AB x).ns.length /\ (AB x).ns.length - k = m) /\ RE x (k + 1) = [], meas := λ _ => 0 }
def pa7o (x : PaI) (m : Nat) (f : List (Nat × Nat)) : Shape := { α := Nat, dflt := 0, T := λ k => ⟨paSl x ++ [(11, .own 305 5 0 (RE x (k + 1)).length), (12, .int k)], paH x ++ [(305, CEV (RE x (k + 1)))]⟩, inv := λ k => (k < (AB x).ns.length /\ (AB x).ns.length - k = m) /\ 1 <= (RE x (k + 1)).length, meas := λ _ => 0, first := f }
def pa7 (x : PaI) (m : Nat) : Nat -> List Shape
 | 0 => [pa7n x m, pa7o x m [(305, 10112)]]
 | _ => [pa7o x m [(305, 10112)], pa7o x m []]
def CTC (x : PaI) : List (Nat × AVal) := [(2, .int x.t), (7, .bptr 2096 0), (8, .bptr 2112 0), (9, .int (AZ x))]
def pa13 (x : PaI) : Shape := { α := One, dflt := default, T := λ _ => ⟨CTC x, [(2096, .live (chB (AO x))), (2112, trB (HE x))]⟩, inv := λ _ => True, meas := λ _ => 0, ffz := [11048] }
def paVA (b : Bool) (x : PaI) (k : Nat) : AVal := bif b then .own 306 5 0 (Dl (AZ x) (DM x) k).length else .d GC
def paVB (b : Bool) (x : PaI) (k : Nat) : AVal := bif b then .own 307 5 0 (YI (AZ x) (DM x) k).length else .d GC
def paRA (b : Bool) (x : PaI) (k : Nat) : List (Nat × HCell) := bif b then [(306, CEV (Dl (AZ x) (DM x) k))] else []
def paRB (b : Bool) (x : PaI) (k : Nat) : List (Nat × HCell) := bif b then [(307, CEV (YI (AZ x) (DM x) k))] else []
def paIA (b : Bool) (x : PaI) (k : Nat) : Prop := bif b then 1 <= (Dl (AZ x) (DM x) k).length else Dl (AZ x) (DM x) k = []
def paIB (b : Bool) (x : PaI) (k : Nat) : Prop := bif b then 1 <= (YI (AZ x) (DM x) k).length else YI (AZ x) (DM x) k = []
def CJD (x : PaI) (k : Nat) : List (Nat × AVal) := CTC x ++ [(13, .bptr 14064 0), (14, .bptr 14080 0), (15, .int k)]
def paG (x : PaI) (va vb : AVal) : List (Nat × HCell) := [(2096, .live (chB (AO x))), (2112, trB (HE x)), (14064, chM (AB x) (QA x) va), (14080, chM (AB x) (PS x) vb)]
def tgN (a b : Bool) : Nat := bif a then (bif b then 3 else 1) else (bif b then 2 else 0)
def pa17 (x : PaI) (a b : Bool) : Shape := { α := Nat, dflt := 0, T := λ k => ⟨CJD x k, paG x (paVA a x k) (paVB b x k) ++ (paRA a x k ++ paRB b x k)⟩, inv := λ k => k <= (DM x).length /\ paIA a x k /\ paIB b x k, meas := λ k => (DM x).length - k, tag := [tgN a b] }
def pa22 (x : PaI) (m : Nat) (a b : Bool) (f : List (Nat × Nat)) : Shape := { α := Nat, dflt := 0, T := λ k => ⟨CJD x k ++ [(16, .bptr 20080 0)], paG x (paVA a x (k + 1)) (paVB b x k) ++ (paRA a x (k + 1) ++ paRB b x k) ++ [(20080, pnB (gD (DM x) k))]⟩, inv := λ k => (k < (DM x).length /\ (DM x).length - k = m) /\ paIA a x (k + 1) /\ paIB b x k, meas := λ _ => 0, tag := [tgN a b], first := f }
def pa18 (x : PaI) (m : Nat) (a b : Bool) (f : List (Nat × Nat)) : Shape := { α := Nat, dflt := 0, T := λ k => ⟨CJD x k, paG x (paVA a x (k + 1)) (paVB b x (k + 1)) ++ (paRA a x (k + 1) ++ paRB b x (k + 1))⟩, inv := λ k => (k < (DM x).length /\ (DM x).length - k = m) /\ paIA a x (k + 1) /\ paIB b x (k + 1), meas := λ _ => 0, first := f }
def CYK (x : PaI) (m : Nat) : Nat -> List Shape
 | 0 => [pa22 x m false false [], pa22 x m true false [(306, 22064)]]
 | 1 => [pa22 x m true false [(306, 22064)], pa22 x m true false []]
 | 2 => [pa22 x m false true [], pa22 x m true true [(306, 22064)]]
 | _ => [pa22 x m true true [(306, 22064)], pa22 x m true true []]
def CYD (x : PaI) (m : Nat) : Nat -> List Shape
 | 0 => [pa18 x m false false [], pa18 x m true false [], pa18 x m false true [(307, 25064)], pa18 x m true true [(307, 25064)]]
 | 1 => [pa18 x m true false [], pa18 x m true true [(307, 25064)]]
 | 2 => [pa18 x m false true [], pa18 x m false true [(307, 25064)], pa18 x m true true [], pa18 x m true true [(307, 25064)]]
 | _ => [pa18 x m true true [], pa18 x m true true [(307, 25064)]]
def CNO : List (Nat × AVal) := [(7, .bptr 2096 0), (8, .bptr 2112 0), (13, .bptr 14064 0), (14, .bptr 14080 0)]
def paG4 (x : PaI) : List (Nat × HCell) := [(2096, .live (chB (AO x))), (2112, trB (HE x)), (14064, .live (chB (DP x))), (14080, .live (chB (DV x)))]
def pa25 (x : PaI) : Shape := { α := One, dflt := default, T := λ _ => ⟨CNO ++ [(2, .int x.t), (9, .int (AZ x))], paG4 x⟩, inv := λ _ => True, meas := λ _ => 0, ffz := [306, 307] }
def pa30 (x : PaI) : Shape := { α := One, dflt := default, T := λ _ => ⟨CNO ++ [(2, .int x.t), (9, .int (AZ x))], paG4 x⟩, inv := λ _ => True, meas := λ _ => 0 }
def Ur (x : PaI) : Int := wr (gD (HE x).t 0 + KH x.t (wr (wr (gD (HE x).t ((AB x).ms.length - 1) - gD (HE x).t 0) + 1)))
def pa31 (x : PaI) : Shape := { α := One, dflt := default, T := λ _ => ⟨CNO ++ [(9, .int (AZ x)), (23, .int (Ur x))], paG4 x⟩, inv := λ _ => True, meas := λ _ => 0 }
def xPa (x : PaI) : List AVal := [.d (eBys x.bs), .int x.m, .int x.t]
def A_Pa (x : PaI) : Ann := { ann 272 [(CMJ, C_New.spec CTF), (BZR, (kN false).spec (dMkI false)), (CBE, CKG), (CAZ, C_cpC.spec dC1), (ANA, C_Times.spec dCZ), (ANR, C_samS.spec dSS2), (APQ, C_Stage.spec dCZI), (BTV, CEI)] with mt := λ id => id == 9 || id == 10 || id == 21 || id == 24, loops := λ id => if id = 6 then some [pa6n x, pa6o x] else if id = 17 then some [pa17 x false false, pa17 x true false, pa17 x false true, pa17 x true true] else none, cutIn := λ gs id => if id = 7 then some (pa7 x (gs.getD 0 0) (gs.getD 1 0)) else if id = 22 then some (CYK x (gs.getD 0 0) (gs.getD 1 0)) else if id = 18 then some (CYD x (gs.getD 0 0) (gs.getD 1 0)) else none, cut := λ id => if id = 13 then some [pa13 x] else if id = 25 then some [pa25 x] else if id = 30 then some [pa30 x] else if id = 31 then some [pa31 x] else none }
def V_Pa (x : PaI) : Prop := BB Try.prog (A_Pa x) ABC (AL ABC) (xPa x) (AG []) (.bool true) [] [] []
abbrev BZS (x : PaI) : List Int := AE x.bs.length λ (i : Nat) => gD x.bs i
abbrev AQN (x : PaI) : Nat := (BZS x).length
abbrev BUP (x : PaI) (i : Nat) : Int := gD (BZS x) i
abbrev BSF (x : PaI) : List Int := AE (AQN x) λ (i : Nat) => BUP x i
abbrev BZN (x : PaI) : Nat := (BSF x).length
abbrev BZJ : Prop := (0 : Int) = (0 : Int)
abbrev CAH (x : PaI) : Stm := Stm.mk (BSF x) (0 : Int) (0 : Int)
abbrev CBZ (x : PaI) : MkI := MkI.mk (CAH x) (12 : Int) false
abbrev gM (x : PaI) : Cht := HG (CBZ x)
abbrev BZZ (x : PaI) : List Mk := (gM x).ms
abbrev BTY (x : PaI) : Nat := (BZZ x).length
abbrev Ie (x : PaI) : Int := KH x.m (↑(BTY x) : Int)
abbrev BLY (x : PaI) : Prop := (0 : Int) <= Ie x
abbrev ANT (x : PaI) : Tru := tK (CBZ x)
abbrev AOY (x : PaI) : List Int := (ANT x).t
abbrev BOY (x : PaI) : Nat := (AOY x).length
abbrev BLE (x : PaI) : Prop := BLY x /\ Ie x < (↑(BOY x) : Int)
abbrev ANN (x : PaI) : List Int := (ANT x).s
abbrev BOM (x : PaI) : Nat := (ANN x).length
abbrev BSQ (x : PaI) : Prop := BLY x /\ Ie x < (↑(BOM x) : Int)
abbrev AQ : Prop := (0 : Nat) = (0 : Nat)
abbrev ED : Prop := ∀ (i : Nat), i < (0 : Nat) -> false = false
abbrev BVI (a : Nat) : Prop := (↑a : Int) = (0 : Int)
abbrev BSV (x : PaI) : Span := (gM x).p
abbrev BRH (x : PaI) (i : Nat) : Mk := gD (BZZ x) i
abbrev BTR (x : PaI) : List Nt := (gM x).ns
abbrev ANB (x : PaI) (i : Nat) : Nt := gD (BTR x) i
abbrev BRG (x : PaI) (i : Nat) : Span := (ANB x i).t
abbrev BQU (x : PaI) (i : Nat) : Span := (ANB x i).s
abbrev BND (x : PaI) : List Int := (ANT x).z
abbrev BQB (x : PaI) : Nat := (Ie x).toNat
abbrev BWC (x : PaI) : Int := gD (AOY x) (BQB x)
abbrev BOK (x : PaI) : Int := gD (ANN x) (BQB x)
abbrev ANV (a : Nat) (x : PaI) : Prop := a <= (AB x).ns.length /\ RE x a = []
abbrev BNS (a : Nat) (x : PaI) : Prop := (↑a : Int) < (↑(AB x).ns.length : Int)
abbrev BNA (a : Nat) (x : PaI) : Bool := decide (BNS a x)
abbrev BOQ (a : Nat) : Prop := (0 : Int) <= (↑a : Int)
abbrev xV (a : Nat) (x : PaI) : Prop := BOQ a /\ BNS a x
abbrev BRD (x : PaI) (a : Nat) : Bool := (gD (AB x).ns a).mi != AZ x
abbrev BLI : Prop := (1 : Nat) <= (1 : Nat)
abbrev APD : Prop := (0 : Nat) < (1 : Nat)
abbrev C6 : Prop := (5 : Nat) = (5 : Nat)
abbrev vJ : Prop := BLI /\ (APD -> C6)
abbrev El : Prop := (True /\ ((0 : Nat) < (0 : Nat) -> (0 : Nat) = (5 : Nat))) /\ vJ /\ (true = true -> APD) /\ (1 : Nat) <= (9223372036854775807 : Nat) /\ (40 : Nat) <= (140737488355328 : Nat)
abbrev AOB (a : Nat) : Nat := a + (1 : Nat)
abbrev AOQ (x : PaI) (a : Nat) : List Nt := RE x (AOB a)
abbrev Ef (x : PaI) (a : Nat) : Nat := (AOQ x a).length
abbrev BUE (x : PaI) (a : Nat) : Prop := Ef x a = (1 : Nat)
abbrev DR (a : Nat) (a1 : Nat) : Prop := (↑a : Int) = (↑a1 : Int)
abbrev AW (x : PaI) : Prop := (AB x).p.lo = (AB x).p.lo
abbrev AV (x : PaI) : Prop := (AB x).p.hi = (AB x).p.hi
abbrev Yt (x : PaI) : Prop := (AB x).ms.length = (AB x).ms.length
abbrev Ym (x : PaI) : Prop := ∀ (i : Nat), i < (AB x).ms.length -> (gD (AB x).ms i).pl = (gD (AB x).ms i).pl /\ (gD (AB x).ms i).ht = (gD (AB x).ms i).ht
abbrev Zy (x : PaI) : Prop := (AB x).ns.length = (AB x).ns.length
abbrev Xq (x : PaI) : Prop := ∀ (i : Nat), i < (AB x).ns.length -> (gD (AB x).ns i).mi = (gD (AB x).ns i).mi /\ (gD (AB x).ns i).t.lo = (gD (AB x).ns i).t.lo /\ (gD (AB x).ns i).t.hi = (gD (AB x).ns
 i).t.hi /\ (gD (AB x).ns i).s.lo = (gD (AB x).ns i).s.lo /\ (gD (AB x).ns i).s.hi = (gD (AB x).ns i).s.hi
abbrev BK (x : PaI) : Prop := (HE x).t.length = (HE x).t.length
abbrev BM (x : PaI) : Prop := ∀ (i : Nat), i < (HE x).t.length -> gD (HE x).t i = gD (HE x).t i
abbrev BL (x : PaI) : Prop := (HE x).s.length = (HE x).s.length
abbrev BI (x : PaI) : Prop := ∀ (i : Nat), i < (HE x).s.length -> gD (HE x).s i = gD (HE x).s i
abbrev BN (x : PaI) : Prop := (HE x).z.length = (HE x).z.length
abbrev BJ (x : PaI) : Prop := ∀ (i : Nat), i < (HE x).z.length -> gD (HE x).z i = gD (HE x).z i
abbrev bP (x : PaI) : Prop := (SD x).t.lo = (SD x).t.lo
abbrev dK (x : PaI) : Prop := (SD x).t.hi = (SD x).t.hi
abbrev cW (x : PaI) : Prop := (SD x).s.lo = (SD x).s.lo
abbrev bT (x : PaI) : Prop := (SD x).s.hi = (SD x).s.hi
abbrev AOE (i : Nat) (x : PaI) (a : Nat) : Prop := i < Ef x a
abbrev ANH (x : PaI) (a : Nat) (i : Nat) : Nt := gD (AOQ x a) i
abbrev zY (x : PaI) (a : Nat) (i : Nat) : Int := (ANH x a i).mi
abbrev BST (x : PaI) (a : Nat) (i : Nat) : Span := (ANH x a i).t
abbrev tZ (x : PaI) (a : Nat) (i : Nat) : Int := (BST x a i).lo
abbrev I4 (x : PaI) (a : Nat) (i : Nat) : Int := (BST x a i).hi
abbrev BVY (x : PaI) (a : Nat) (i : Nat) : Span := (ANH x a i).s
abbrev zP (x : PaI) (a : Nat) (i : Nat) : Int := (BVY x a i).lo
abbrev M8 (x : PaI) (a : Nat) (i : Nat) : Int := (BVY x a i).hi
abbrev tL (x : PaI) (a : Nat) : Nat := (AB x).ns.length - a
abbrev BNG (a : Nat) (x : PaI) (a1 : Nat) : Prop := a < (AB x).ns.length /\ tL x a = tL x a1
abbrev D5 (a : Nat) (x : PaI) (a1 : Nat) : Prop := BNG a x a1 /\ (1 : Nat) <= Ef x a
abbrev BQG (x : PaI) : Prop := AW x /\ AV x /\ (AB x).base = (AB x).base /\ (AB x).scale = (AB x).scale /\ (AB x).off = (AB x).off /\ Yt x /\ Ym x /\ Zy x /\ Xq x /\ BK x /\
 BM x /\ BL x /\ BI x /\ BN x /\ BJ x /\ (SD x).mi = (SD x).mi /\ bP x /\ dK x /\ cW x /\ bT x
abbrev BLG (a : Nat) (x : PaI) (a1 : Nat) : Prop := BNG a x a1 /\ AOQ x a = []
abbrev Ec (a : Nat) (a1 : Nat) : Prop := (↑a : Int) = IntKind.i64.wrap ((↑a1 : Int) + (1 : Int))
abbrev BTB (x : PaI) (a : Nat) (a1 : Nat) : Prop := tL x a < tL x a1
abbrev BVF (x : PaI) (a : Nat) (a1 : Nat) : Prop := (RE x a).length = Ef x a1
abbrev BSY (a : Nat) (x : PaI) : Prop := a <= (AB x).ns.length /\ (1 : Nat) <= (RE x a).length
abbrev AOL (x : PaI) (a : Nat) : Prop := ∀ (a_1 : Nat), D5 a_1 x a -> ∃ (a_3 : Nat), (x.t = x.t /\ AZ x = AZ x /\ AQ /\ BVF x a_3 a_1 /\ Ec a_3 a_1 /\ AW x /\ AV x /\ (AB x).base = (AB
 x).base /\ (AB x).scale = (AB x).scale /\ (AB x).off = (AB x).off /\ Yt x /\ Ym x /\ Zy x /\ Xq x /\ BK x /\ BM x /\ BL x /\ BI x /\ BN x /\ BJ x /\ (SD x).mi = (SD x).mi /\
 bP x /\ dK x /\ cW x /\ bT x /\ BVF x a_3 a_1 /\ ∀ (i : Nat), i < (RE x a_3).length -> (gD (RE x a_3) i).mi = zY x a_1 i /\ (gD (RE x a_3) i).t.lo = tZ x a_1 i /\ (gD (RE x a_3) i).t.hi =
 I4 x a_1 i /\ (gD (RE x a_3) i).s.lo = zP x a_1 i /\ (gD (RE x a_3) i).s.hi = M8 x a_1 i) /\ BSY a_3 x /\ BTB x a_3 a
abbrev BNX (x : PaI) : Prop := (AO x).p.lo = (AB x).p.lo
abbrev BRB (x : PaI) : Prop := (AO x).p.hi = (AB x).p.hi
abbrev BQK (x : PaI) : Prop := (AO x).ms.length = (AB x).ms.length
abbrev BSK (x : PaI) : Prop := ∀ (i : Nat), i < (AO x).ms.length -> (gD (AO x).ms i).pl = (gD (AB x).ms i).pl /\ (gD (AO x).ms i).ht = (gD (AB x).ms i).ht
abbrev BMH (x : PaI) : Prop := BK x /\ BM x /\ BL x /\ BI x /\ BN x /\ BJ x
abbrev BW (x : PaI) : Prop := (AO x).p.lo = (AO x).p.lo
abbrev BV (x : PaI) : Prop := (AO x).p.hi = (AO x).p.hi
abbrev bO (x : PaI) : List Mk := AE (AO x).ms.length λ (i : Nat) => gD (AO x).ms i
abbrev NX (x : PaI) : Nat := (bO x).length
abbrev C2 (x : PaI) : Prop := NX x = (AO x).ms.length
abbrev BQN (x : PaI) (i : Nat) : Mk := gD (bO x) i
abbrev xL (x : PaI) : Prop := ∀ (i : Nat), i < NX x -> (BQN x i).pl = (gD (AO x).ms i).pl /\ (BQN x i).ht = (gD (AO x).ms i).ht
abbrev APT (x : PaI) : List Nt := AE (AO x).ns.length λ (i : Nat) => gD (AO x).ns i
abbrev xG (x : PaI) : Nat := (APT x).length
abbrev uJ (x : PaI) : Prop := xG x = (AO x).ns.length
abbrev ANY (x : PaI) (i : Nat) : Nt := gD (APT x) i
abbrev AVC (x : PaI) (i : Nat) : Span := (ANY x i).t
abbrev AZF (x : PaI) (i : Nat) : Span := (ANY x i).s
abbrev Wm (x : PaI) : Prop := ∀ (i : Nat), i < xG x -> (ANY x i).mi = (gD (AO x).ns i).mi /\ (AVC x i).lo = (gD (AO x).ns i).t.lo /\ (AVC x i).hi = (gD (AO x).ns i).t.hi /\ (AZF x i).lo = (gD
 (AO x).ns i).s.lo /\ (AZF x i).hi = (gD (AO x).ns i).s.hi
abbrev BCQ (x : PaI) : Prop := NX x < (1073741824 : Nat) /\ xG x < (1073741824 : Nat)
abbrev xZ : Prop := (0 : Int) <= (0 : Int)
abbrev YQ (x : PaI) : Int := IntKind.i64.wrap (AZ x + (1 : Int))
abbrev AWW (x : PaI) : Prop := (0 : Int) <= YQ x
abbrev zV (x : PaI) : Prop := (0 : Int) <= AZ x
abbrev BQ (x : PaI) : Prop := (AO x).ms.length = (AO x).ms.length
abbrev BP (x : PaI) : Prop := ∀ (i : Nat), i < (AO x).ms.length -> (gD (AO x).ms i).pl = (gD (AO x).ms i).pl /\ (gD (AO x).ms i).ht = (gD (AO x).ms i).ht
abbrev BR (x : PaI) : Prop := (AO x).ns.length = (AO x).ns.length
abbrev BS (x : PaI) : Prop := ∀ (i : Nat), i < (AO x).ns.length -> (gD (AO x).ns i).mi = (gD (AO x).ns i).mi /\ (gD (AO x).ns i).t.lo = (gD (AO x).ns i).t.lo /\ (gD (AO x).ns i).t.hi = (gD (AO x).ns i).t.hi /\
 (gD (AO x).ns i).s.lo = (gD (AO x).ns i).s.lo /\ (gD (AO x).ns i).s.hi = (gD (AO x).ns i).s.hi
abbrev AXM (x : PaI) : Prop := (AB x).p.lo = (AO x).p.lo
abbrev AUK (x : PaI) : Prop := (AB x).p.hi = (AO x).p.hi
abbrev AVS (x : PaI) : Nat := (YQ x).toNat
abbrev xU (x : PaI) : Nat := AVS x - Int.toNat (0 : Int)
abbrev AQY (i : Nat) : Nat := Int.toNat (0 : Int) + i
abbrev AQW (x : PaI) (i : Nat) : Mk := gD (bO x) (AQY i)
abbrev AZC (x : PaI) (i : Nat) : Nat := (AZ x).toNat + i
abbrev AXD (x : PaI) (i : Nat) : Mk := gD (bO x) (AZC x i)
abbrev ARN : Prop := AQ /\ ED
abbrev AVK (x : PaI) (a : Nat) : Prop := Dl (AZ x) (DM x) a = []
abbrev Ju (x : PaI) (a : Nat) : Prop := YI (AZ x) (DM x) a = []
abbrev wH (a : Nat) (x : PaI) : Prop := a <= (DM x).length /\ AVK x a /\ Ju x a
abbrev ATN (a : Nat) (x : PaI) : Prop := (↑a : Int) < (↑(AO x).ns.length : Int)
abbrev Ma (a : Nat) (x : PaI) : Bool := decide (ATN a x)
abbrev Ws (a : Nat) (x : PaI) : Prop := BOQ a /\ ATN a x
abbrev Lv (x : PaI) (a : Nat) : Bool := decide ((gD (AO x).ns a).mi <= AZ x)
abbrev CT (x : PaI) : Prop := (QA x).length = (QA x).length
abbrev CV (x : PaI) : Prop := ∀ (i : Nat), i < (QA x).length -> (gD (QA x) i).pl = (gD (QA x) i).pl /\ (gD (QA x) i).ht = (gD (QA x) i).ht
abbrev F8 (x : PaI) (a : Nat) : List Nt := Dl (AZ x) (DM x) (AOB a)
abbrev KU (x : PaI) (a : Nat) : Nat := (F8 x a).length
abbrev Qc (x : PaI) (a : Nat) : Prop := KU x a = (1 : Nat)
abbrev CU (x : PaI) : Prop := (PS x).length = (PS x).length
abbrev CW (x : PaI) : Prop := ∀ (i : Nat), i < (PS x).length -> (gD (PS x) i).pl = (gD (PS x) i).pl /\ (gD (PS x) i).ht = (gD (PS x) i).ht
abbrev La (i : Nat) (x : PaI) (a : Nat) : Prop := i < KU x a
abbrev uP (x : PaI) (a : Nat) (i : Nat) : Nt := gD (F8 x a) i
abbrev SS (x : PaI) (a : Nat) (i : Nat) : Int := (uP x a i).mi
abbrev AZN (x : PaI) (a : Nat) (i : Nat) : Span := (uP x a i).t
abbrev UQ (x : PaI) (a : Nat) (i : Nat) : Int := (AZN x a i).lo
abbrev SJ (x : PaI) (a : Nat) (i : Nat) : Int := (AZN x a i).hi
abbrev BIY (x : PaI) (a : Nat) (i : Nat) : Span := (uP x a i).s
abbrev UJ (x : PaI) (a : Nat) (i : Nat) : Int := (BIY x a i).lo
abbrev UC (x : PaI) (a : Nat) (i : Nat) : Int := (BIY x a i).hi
abbrev AXJ (x : PaI) (a : Nat) (a1 : Nat) : Prop := ∀ (i : Nat), La i x a -> SS x a i = (gD (AO x).ns a1).mi /\ UQ x a i = (gD (AO x).ns a1).t.lo /\ SJ x a i = (gD (AO x).ns a1).t.hi /\
 UJ x a i = (gD (AO x).ns a1).s.lo /\ UC x a i = (gD (AO x).ns a1).s.hi
abbrev Bt (x : PaI) (a : Nat) (a1 : Nat) : Prop := (gD (DM x) a).mi = (gD (AO x).ns a1).mi /\ (gD (DM x) a).t.lo = (gD (AO x).ns a1).t.lo /\ (gD (DM x) a).t.hi = (gD (AO x).ns a1).t.hi /\ (gD (DM x) a).s.lo =
 (gD (AO x).ns a1).s.lo /\ (gD (DM x) a).s.hi = (gD (AO x).ns a1).s.hi
abbrev Tw (x : PaI) (a : Nat) : Nat := (DM x).length - a
abbrev LF (a : Nat) (x : PaI) (a1 : Nat) : Prop := a < (DM x).length /\ Tw x a = Tw x a1
abbrev Ol (x : PaI) (a : Nat) : Prop := Nat.le (1 : Nat) (KU x a)
abbrev Uo (a : Nat) (x : PaI) (a1 : Nat) : Prop := LF a x a1 /\ Ol x a /\ Ju x a
abbrev Wd (x : PaI) (a : Nat) : Prop := F8 x a = []
abbrev ATC (a : Nat) (x : PaI) (a1 : Nat) : Prop := LF a x a1 /\ Wd x a /\ Ju x a
abbrev Pz (x : PaI) (a : Nat) : Bool := decide ((gD (DM x) a).mi >= AZ x)
abbrev yR (x : PaI) (a : Nat) : List Nt := YI (AZ x) (DM x) (AOB a)
abbrev TW (x : PaI) (a : Nat) : Nat := (yR x a).length
abbrev F5 (x : PaI) (a : Nat) : Prop := TW x a = (1 : Nat)
abbrev wQ (i : Nat) (x : PaI) (a : Nat) : Prop := i < TW x a
abbrev D4 (x : PaI) (a : Nat) (i : Nat) : Nt := gD (yR x a) i
abbrev Kd (x : PaI) (a : Nat) (i : Nat) : Int := (D4 x a i).mi
abbrev ARR (x : PaI) (a : Nat) : Int := IntKind.i64.wrap ((gD (DM x) a).mi - AZ x)
abbrev AWF (x : PaI) (a : Nat) (i : Nat) : Span := (D4 x a i).t
abbrev Np (x : PaI) (a : Nat) (i : Nat) : Int := (AWF x a i).lo
abbrev Px (x : PaI) (a : Nat) (i : Nat) : Int := (AWF x a i).hi
abbrev BBU (x : PaI) (a : Nat) (i : Nat) : Span := (D4 x a i).s
abbrev Jh (x : PaI) (a : Nat) (i : Nat) : Int := (BBU x a i).lo
abbrev Tu (x : PaI) (a : Nat) (i : Nat) : Int := (BBU x a i).hi
abbrev BBM (x : PaI) (a : Nat) (a1 : Nat) : Prop := F5 x a /\ ∀ (i : Nat), wQ i x a -> Kd x a i = ARR x a1 /\ Np x a i = (gD (DM x) a1).t.lo /\ Px x a i = (gD (DM x) a1).t.hi /\
 Jh x a i = (gD (DM x) a1).s.lo /\ Tu x a i = (gD (DM x) a1).s.hi
abbrev AXI (x : PaI) (a : Nat) : Prop := Nat.le (1 : Nat) (TW x a)
abbrev Wy (a : Nat) (x : PaI) (a1 : Nat) : Prop := LF a x a1 /\ Wd x a /\ AXI x a
abbrev AUV (x : PaI) : Prop := BW x /\ BV x /\ (AO x).base = (AO x).base /\ (AO x).scale = (AO x).scale /\ (AO x).off = (AO x).off /\ BQ x /\ BP x /\ BR x /\ BS x /\ BK x /\
 BM x /\ BL x /\ BI x /\ BN x /\ BJ x /\ AW x /\ AV x /\ (AB x).base = (AB x).base /\ (AB x).scale = (AB x).scale /\ (AB x).off = (AB x).off /\ CT x /\ CV x /\ AQ /\
 ED /\ AW x /\ AV x /\ (AB x).base = (AB x).base /\ (AB x).scale = (AB x).scale /\ (AB x).off = (AB x).off /\ CU x /\ CW x /\ ARN
abbrev BFN (x : PaI) (a : Nat) : Prop := yR x a = []
abbrev BGI (a : Nat) (x : PaI) (a1 : Nat) : Prop := LF a x a1 /\ Wd x a /\ BFN x a
abbrev LH (x : PaI) (a : Nat) (a1 : Nat) : Prop := KU x a = KU x a1
abbrev Tf (x : PaI) (a : Nat) (a1 : Nat) : Prop := ∀ (i : Nat), La i x a -> SS x a i = SS x a1 i /\ UQ x a i = UQ x a1 i /\ SJ x a i = SJ x a1 i /\ UJ x a i = UJ x
 a1 i /\ UC x a i = UC x a1 i
abbrev Ls (a : Nat) (x : PaI) (a1 : Nat) : Prop := LF a x a1 /\ Ol x a /\ AXI x a
abbrev AZO (a : Nat) (x : PaI) (a1 : Nat) : Prop := LF a x a1 /\ Ol x a /\ BFN x a
abbrev xB (x : PaI) (a : Nat) : Prop := ∀ (a_1 : Nat), Uo a_1 x a -> bif Pz x a_1 then El /\ ∃ (a_3 : Nat), (x.t = x.t /\ AZ x = AZ x /\ DR a_3 a_1 /\ BW x /\ BV x /\ (AO x).base = (AO
 x).base /\ (AO x).scale = (AO x).scale /\ (AO x).off = (AO x).off /\ BQ x /\ BP x /\ BR x /\ BS x /\ BK x /\ BM x /\ BL x /\ BI x /\ BN x /\ BJ x /\ AW x /\ AV x /\
 (AB x).base = (AB x).base /\ (AB x).scale = (AB x).scale /\ (AB x).off = (AB x).off /\ CT x /\ CV x /\ AQ /\ LH x a_3 a_1 /\ AW x /\ AV x /\ (AB x).base = (AB x).base /\ (AB
 x).scale = (AB x).scale /\ (AB x).off = (AB x).off /\ CU x /\ CW x /\ AQ /\ F5 x a_3 /\ LH x a_3 a_1 /\ Tf x a_3 a_1 /\ BBM x a_3 a_1) /\ Ls a_3 x a else ∃ (a_3 : Nat), (x.t =
 x.t /\ AZ x = AZ x /\ DR a_3 a_1 /\ BW x /\ BV x /\ (AO x).base = (AO x).base /\ (AO x).scale = (AO x).scale /\ (AO x).off = (AO x).off /\ BQ x /\ BP x /\ BR x /\ BS x /\ BK x /\
 BM x /\ BL x /\ BI x /\ BN x /\ BJ x /\ AW x /\ AV x /\ (AB x).base = (AB x).base /\ (AB x).scale = (AB x).scale /\ (AB x).off = (AB x).off /\ CT x /\ CV x /\ AQ /\
 LH x a_3 a_1 /\ AW x /\ AV x /\ (AB x).base = (AB x).base /\ (AB x).scale = (AB x).scale /\ (AB x).off = (AB x).off /\ CU x /\ CW x /\ AQ /\ ED /\ LH x a_3 a_1 /\ Tf x
 a_3 a_1) /\ AZO a_3 x a
abbrev Ll (x : PaI) (a : Nat) (a1 : Nat) : Prop := Tw x a < Tw x a1
abbrev Lz (x : PaI) (a : Nat) (a1 : Nat) : Prop := (Dl (AZ x) (DM x) a).length = KU x a1
abbrev BBF (i : Nat) (x : PaI) (a : Nat) : Prop := i < (Dl (AZ x) (DM x) a).length
abbrev E1 (x : PaI) (a : Nat) (i : Nat) : Nt := gD (Dl (AZ x) (DM x) a) i
abbrev tU (x : PaI) (a : Nat) (i : Nat) : Int := (E1 x a i).mi
abbrev AXT (x : PaI) (a : Nat) (i : Nat) : Span := (E1 x a i).t
abbrev K9 (x : PaI) (a : Nat) (i : Nat) : Int := (AXT x a i).lo
abbrev C8 (x : PaI) (a : Nat) (i : Nat) : Int := (AXT x a i).hi
abbrev BIL (x : PaI) (a : Nat) (i : Nat) : Span := (E1 x a i).s
abbrev L7 (x : PaI) (a : Nat) (i : Nat) : Int := (BIL x a i).lo
abbrev xD (x : PaI) (a : Nat) (i : Nat) : Int := (BIL x a i).hi
abbrev AYV (x : PaI) (a : Nat) (a1 : Nat) : Prop := ∀ (i : Nat), BBF i x a -> tU x a i = SS x a1 i /\ K9 x a i = UQ x a1 i /\ C8 x a i = SJ x a1 i /\ L7 x a i = UJ x
 a1 i /\ xD x a i = UC x a1 i
abbrev AUZ (x : PaI) (a : Nat) : Prop := Nat.le (1 : Nat) (Dl (AZ x) (DM x) a).length
abbrev AQH (a : Nat) (x : PaI) : Prop := a <= (DM x).length /\ AUZ x a /\ Ju x a
abbrev BBR (x : PaI) (a : Nat) : Prop := ∀ (a_1 : Nat), AZO a_1 x a -> ∃ (a_3 : Nat), (x.t = x.t /\ AZ x = AZ x /\ Ec a_3 a_1 /\ BW x /\ BV x /\ (AO x).base = (AO x).base /\ (AO x).scale = (AO
 x).scale /\ (AO x).off = (AO x).off /\ BQ x /\ BP x /\ BR x /\ BS x /\ BK x /\ BM x /\ BL x /\ BI x /\ BN x /\ BJ x /\ AW x /\ AV x /\ (AB x).base = (AB x).base /\
 (AB x).scale = (AB x).scale /\ (AB x).off = (AB x).off /\ CT x /\ CV x /\ AQ /\ Lz x a_3 a_1 /\ AW x /\ AV x /\ (AB x).base = (AB x).base /\ (AB x).scale = (AB x).scale /\ (AB
 x).off = (AB x).off /\ CU x /\ CW x /\ AQ /\ ED /\ Lz x a_3 a_1 /\ AYV x a_3 a_1) /\ AQH a_3 x /\ Ll x a_3 a
abbrev tW (x : PaI) (a : Nat) (a1 : Nat) : Prop := (YI (AZ x) (DM x) a).length = TW x a1
abbrev E8 (i : Nat) (x : PaI) (a : Nat) : Prop := i < (YI (AZ x) (DM x) a).length
abbrev H5 (x : PaI) (a : Nat) (i : Nat) : Nt := gD (YI (AZ x) (DM x) a) i
abbrev Bz (x : PaI) (a : Nat) (i : Nat) : Int := (H5 x a i).mi
abbrev AQJ (x : PaI) (a : Nat) (i : Nat) : Span := (H5 x a i).t
abbrev An (x : PaI) (a : Nat) (i : Nat) : Int := (AQJ x a i).lo
abbrev YS (x : PaI) (a : Nat) (i : Nat) : Int := (AQJ x a i).hi
abbrev AUR (x : PaI) (a : Nat) (i : Nat) : Span := (H5 x a i).s
abbrev Am (x : PaI) (a : Nat) (i : Nat) : Int := (AUR x a i).lo
abbrev ZT (x : PaI) (a : Nat) (i : Nat) : Int := (AUR x a i).hi
abbrev BHO (x : PaI) (a : Nat) (a1 : Nat) : Prop := tW x a a1 /\ ∀ (i : Nat), E8 i x a -> Bz x a i = Kd x a1 i /\ An x a i = Np x a1 i /\ YS x a i = Px x a1 i /\ Am x
 a i = Jh x a1 i /\ ZT x a i = Tu x a1 i
abbrev Lj (x : PaI) (a : Nat) : Prop := Nat.le (1 : Nat) (YI (AZ x) (DM x) a).length
abbrev BAN (a : Nat) (x : PaI) : Prop := a <= (DM x).length /\ AVK x a /\ Lj x a
abbrev O1 (x : PaI) (a : Nat) : Prop := ∀ (a_1 : Nat), Wy a_1 x a -> ∃ (a_3 : Nat), (x.t = x.t /\ AZ x = AZ x /\ Ec a_3 a_1 /\ BW x /\ BV x /\ (AO x).base = (AO x).base /\ (AO x).scale = (AO
 x).scale /\ (AO x).off = (AO x).off /\ BQ x /\ BP x /\ BR x /\ BS x /\ BK x /\ BM x /\ BL x /\ BI x /\ BN x /\ BJ x /\ AW x /\ AV x /\ (AB x).base = (AB x).base /\
 (AB x).scale = (AB x).scale /\ (AB x).off = (AB x).off /\ CT x /\ CV x /\ AQ /\ ED /\ AW x /\ AV x /\ (AB x).base = (AB x).base /\ (AB x).scale = (AB x).scale /\ (AB x).off = (AB
 x).off /\ CU x /\ CW x /\ AQ /\ tW x a_3 a_1 /\ BHO x a_3 a_1) /\ BAN a_3 x /\ Ll x a_3 a
abbrev ATI (a : Nat) (x : PaI) : Prop := a <= (DM x).length /\ AUZ x a /\ Lj x a
abbrev Wx (x : PaI) (a : Nat) : Prop := ∀ (a_1 : Nat), Ls a_1 x a -> ∃ (a_3 : Nat), (x.t = x.t /\ AZ x = AZ x /\ Ec a_3 a_1 /\ BW x /\ BV x /\ (AO x).base = (AO x).base /\ (AO x).scale = (AO
 x).scale /\ (AO x).off = (AO x).off /\ BQ x /\ BP x /\ BR x /\ BS x /\ BK x /\ BM x /\ BL x /\ BI x /\ BN x /\ BJ x /\ AW x /\ AV x /\ (AB x).base = (AB x).base /\
 (AB x).scale = (AB x).scale /\ (AB x).off = (AB x).off /\ CT x /\ CV x /\ AQ /\ Lz x a_3 a_1 /\ AW x /\ AV x /\ (AB x).base = (AB x).base /\ (AB x).scale = (AB x).scale /\ (AB
 x).off = (AB x).off /\ CU x /\ CW x /\ AQ /\ tW x a_3 a_1 /\ Lz x a_3 a_1 /\ AYV x a_3 a_1 /\ BHO x a_3 a_1) /\ ATI a_3 x /\ Ll x a_3 a
abbrev Rw (x : PaI) : Prop := (DP x).p.lo = (AB x).p.lo
abbrev Ji (x : PaI) : Prop := (DP x).p.hi = (AB x).p.hi
abbrev Vb (x : PaI) : Prop := (DP x).ms.length = (QA x).length
abbrev Tt (x : PaI) : Prop := ∀ (i : Nat), i < (DP x).ms.length -> (gD (DP x).ms i).pl = (gD (QA x) i).pl /\ (gD (DP x).ms i).ht = (gD (QA x) i).ht
abbrev Re (x : PaI) : Prop := (DP x).ns.length = (0 : Nat)
abbrev BDZ (x : PaI) : Prop := (DV x).p.lo = (AB x).p.lo
abbrev ASB (x : PaI) : Prop := (DV x).p.hi = (AB x).p.hi
abbrev BAF (x : PaI) : Prop := (DV x).ms.length = (PS x).length
abbrev BIP (x : PaI) : Prop := ∀ (i : Nat), i < (DV x).ms.length -> (gD (DV x).ms i).pl = (gD (PS x) i).pl /\ (gD (DV x).ms i).ht = (gD (PS x) i).ht
abbrev BCP (x : PaI) : Prop := (DV x).ns.length = (0 : Nat)
abbrev AXF (x : PaI) : Prop := BDZ x /\ ASB x /\ (DV x).base = (AB x).base /\ (DV x).scale = (AB x).scale /\ (DV x).off = (AB x).off /\ BAF x /\ BIP x /\ BCP x /\ BCP x
abbrev yM : Prop := false = true -> APD
abbrev F1 (x : PaI) (a : Nat) : Nat := (Dl (AZ x) (DM x) a).length + (1 : Nat)
abbrev BDL (x : PaI) (a : Nat) : Prop := ((Dl (AZ x) (DM x) a).length = (Dl (AZ x) (DM x) a).length /\ ((0 : Nat) < (Dl (AZ x) (DM x) a).length -> C6)) /\ vJ /\ yM /\ F1 x a <=
 (9223372036854775807 : Nat) /\ F1 x a * (40 : Nat) <= (140737488355328 : Nat)
abbrev Sj (x : PaI) (a : Nat) (a1 : Nat) : Prop := KU x a = F1 x a1
abbrev Bg (i : Nat) (x : PaI) (a : Nat) : Bool := decide (BBF i x a)
abbrev BCF (x : PaI) (a : Nat) (a1 : Nat) : Prop := ∀ (i : Nat), La i x a -> (SS x a i = bif Bg i x a1 then tU x a1 i else (gD (AO x).ns a1).mi) /\ (UQ x a i = bif Bg i x a1 then
 K9 x a1 i else (gD (AO x).ns a1).t.lo) /\ (SJ x a i = bif Bg i x a1 then C8 x a1 i else (gD (AO x).ns a1).t.hi) /\ (UJ x a i = bif Bg i x a1 then L7 x a1 i else (gD (AO x).ns
 a1).s.lo) /\ UC x a i = bif Bg i x a1 then xD x a1 i else (gD (AO x).ns a1).s.hi
abbrev Uk (x : PaI) (a : Nat) (a1 : Nat) : Prop := KU x a = (Dl (AZ x) (DM x) a1).length
abbrev BCE (x : PaI) (a : Nat) (a1 : Nat) : Prop := ∀ (i : Nat), La i x a -> SS x a i = tU x a1 i /\ UQ x a i = K9 x a1 i /\ SJ x a i = C8 x a1 i /\ UJ x a i = L7 x
 a1 i /\ UC x a i = xD x a1 i
abbrev BGP (x : PaI) (a : Nat) : Prop := (DP x).ns.length = (Dl (AZ x) (DM x) a).length
abbrev BDK (x : PaI) (a : Nat) : Prop := (0 : Nat) + (Dl (AZ x) (DM x) a).length <= (Dl (AZ x) (DM x) a).length
abbrev ZB (j : Nat) : Nat := (0 : Nat) + j
abbrev uW (x : PaI) (a : Nat) (j : Nat) : Nt := gD (Dl (AZ x) (DM x) a) (ZB j)
abbrev BDS (x : PaI) (a : Nat) (j : Nat) : Span := (uW x a j).t
abbrev AYU (x : PaI) (a : Nat) (j : Nat) : Span := (uW x a j).s
abbrev BHB (x : PaI) (a : Nat) : Prop := ∀ (j : Nat), j < (DP x).ns.length -> (gD (DP x).ns j).mi = (uW x a j).mi /\ (gD (DP x).ns j).t.lo = (BDS x a j).lo /\ (gD (DP x).ns j).t.hi = (BDS x a j).hi
 /\ (gD (DP x).ns j).s.lo = (AYU x a j).lo /\ (gD (DP x).ns j).s.hi = (AYU x a j).hi
abbrev Co (x : PaI) (a : Nat) (a1 : Nat) : Prop := (YI (AZ x) (DM x) a).length = (YI (AZ x) (DM x) a1).length
abbrev Sc (x : PaI) (a : Nat) (a1 : Nat) : Prop := Co x a a1 /\ (∀ (i : Nat), E8 i x a -> Bz x a i = Bz x a1 i /\ An x a i = An x a1 i /\ YS x a i = YS x a1 i /\ Am
 x a i = Am x a1 i /\ ZT x a i = ZT x a1 i) /\ Bt x a a1
abbrev Ml (a : Nat) (x : PaI) (a1 : Nat) : Prop := LF a x a1 /\ Ol x a /\ Lj x a
abbrev BDM (a : Nat) (x : PaI) (a1 : Nat) : Prop := LF a x a1 /\ Wd x a /\ Lj x a
abbrev uL (x : PaI) (a : Nat) : Nat := (YI (AZ x) (DM x) a).length + (1 : Nat)
abbrev AQM (x : PaI) (a : Nat) : Prop := ((YI (AZ x) (DM x) a).length = (YI (AZ x) (DM x) a).length /\ ((0 : Nat) < (YI (AZ x) (DM x) a).length -> C6)) /\ vJ /\ yM /\ uL x a <=
 (9223372036854775807 : Nat) /\ uL x a * (40 : Nat) <= (140737488355328 : Nat)
abbrev M5 (x : PaI) (a : Nat) (a1 : Nat) : Prop := TW x a = uL x a1
abbrev YR (i : Nat) (x : PaI) (a : Nat) : Bool := decide (E8 i x a)
abbrev BEC (x : PaI) (a : Nat) (a1 : Nat) : Prop := M5 x a a1 /\ ∀ (i : Nat), wQ i x a -> (Kd x a i = bif YR i x a1 then Bz x a1 i else ARR x a1) /\ (Np x a i = bif YR i x
 a1 then An x a1 i else (gD (DM x) a1).t.lo) /\ (Px x a i = bif YR i x a1 then YS x a1 i else (gD (DM x) a1).t.hi) /\ (Jh x a i = bif YR i x a1 then Am x a1 i else (gD (DM x)
 a1).s.lo) /\ Tu x a i = bif YR i x a1 then ZT x a1 i else (gD (DM x) a1).s.hi
abbrev yQ (x : PaI) (a : Nat) (a1 : Nat) : Prop := TW x a = (YI (AZ x) (DM x) a1).length
abbrev AQA (x : PaI) (a : Nat) (a1 : Nat) : Prop := yQ x a a1 /\ ∀ (i : Nat), wQ i x a -> Kd x a i = Bz x a1 i /\ Np x a i = An x a1 i /\ Px x a i = YS x a1 i /\ Jh x
 a i = Am x a1 i /\ Tu x a i = ZT x a1 i
abbrev A9 (x : PaI) (a : Nat) : Prop := ∀ (a_1 : Nat), Ml a_1 x a -> bif Pz x a_1 then AQM x a_1 /\ ∃ (a_3 : Nat), (x.t = x.t /\ AZ x = AZ x /\ DR a_3 a_1 /\ BW x /\ BV x /\ (AO x).base
 = (AO x).base /\ (AO x).scale = (AO x).scale /\ (AO x).off = (AO x).off /\ BQ x /\ BP x /\ BR x /\ BS x /\ BK x /\ BM x /\ BL x /\ BI x /\ BN x /\ BJ x /\ AW x /\ AV
 x /\ (AB x).base = (AB x).base /\ (AB x).scale = (AB x).scale /\ (AB x).off = (AB x).off /\ CT x /\ CV x /\ AQ /\ LH x a_3 a_1 /\ AW x /\ AV x /\ (AB x).base = (AB x).base /\ (AB
 x).scale = (AB x).scale /\ (AB x).off = (AB x).off /\ CU x /\ CW x /\ AQ /\ M5 x a_3 a_1 /\ LH x a_3 a_1 /\ Tf x a_3 a_1 /\ BEC x a_3 a_1) /\ Ls a_3 x a else ∃ (a_3 : Nat), (x.t
 = x.t /\ AZ x = AZ x /\ DR a_3 a_1 /\ BW x /\ BV x /\ (AO x).base = (AO x).base /\ (AO x).scale = (AO x).scale /\ (AO x).off = (AO x).off /\ BQ x /\ BP x /\ BR x /\ BS x /\ BK x /\
 BM x /\ BL x /\ BI x /\ BN x /\ BJ x /\ AW x /\ AV x /\ (AB x).base = (AB x).base /\ (AB x).scale = (AB x).scale /\ (AB x).off = (AB x).off /\ CT x /\ CV x /\ AQ /\
 LH x a_3 a_1 /\ AW x /\ AV x /\ (AB x).base = (AB x).base /\ (AB x).scale = (AB x).scale /\ (AB x).off = (AB x).off /\ CU x /\ CW x /\ AQ /\ yQ x a_3 a_1 /\ LH x a_3 a_1 /\
 Tf x a_3 a_1 /\ AQA x a_3 a_1) /\ Ls a_3 x a
abbrev AVP (x : PaI) (a : Nat) : Prop := Wx x a /\ Wx x a
abbrev zX (x : PaI) (a : Nat) (j : Nat) : Nt := gD (YI (AZ x) (DM x) a) (ZB j)
abbrev BFR (x : PaI) (a : Nat) (j : Nat) : Span := (zX x a j).t
abbrev AUW (x : PaI) (a : Nat) (j : Nat) : Span := (zX x a j).s
abbrev ARZ (x : PaI) (a : Nat) : Prop := BDZ x /\ ASB x /\ (DV x).base = (AB x).base /\ (DV x).scale = (AB x).scale /\ (DV x).off = (AB x).off /\ BAF x /\ BIP x /\ (DV x).ns.length = (YI (AZ
 x) (DM x) a).length /\ (0 : Nat) + (YI (AZ x) (DM x) a).length <= (YI (AZ x) (DM x) a).length /\ ∀ (j : Nat), j < (DV x).ns.length -> (gD (DV x).ns j).mi = (zX x a j).mi /\ (gD (DV x).ns j).t.lo = (BFR x
 a j).lo /\ (gD (DV x).ns j).t.hi = (BFR x a j).hi /\ (gD (DV x).ns j).s.lo = (AUW x a j).lo /\ (gD (DV x).ns j).s.hi = (AUW x a j).hi
abbrev AQC (x : PaI) : Prop := NX x < (4611686018427387904 : Nat)
abbrev ARX (x : PaI) : Prop := xG x < (4611686018427387904 : Nat)
abbrev wJ : Prop := (0 : Nat) < (4611686018427387904 : Nat)
abbrev tX (x : PaI) : Prop := (DP x).p.lo = (DP x).p.lo
abbrev E4 (x : PaI) : Prop := (DP x).p.hi = (DP x).p.hi
abbrev G7 (x : PaI) : List Mk := AE (DP x).ms.length λ (i : Nat) => gD (DP x).ms i
abbrev tO (x : PaI) : Nat := (G7 x).length
abbrev BEA (x : PaI) : Prop := tO x = (DP x).ms.length
abbrev AUP (x : PaI) (i : Nat) : Mk := gD (G7 x) i
abbrev ARI (x : PaI) : Prop := ∀ (i : Nat), i < tO x -> (AUP x i).pl = (gD (DP x).ms i).pl /\ (AUP x i).ht = (gD (DP x).ms i).ht
abbrev F2 (x : PaI) : List Nt := AE (DP x).ns.length λ (i : Nat) => gD (DP x).ns i
abbrev I7 (x : PaI) : Nat := (F2 x).length
abbrev BGM (x : PaI) : Prop := I7 x = (DP x).ns.length
abbrev zM (x : PaI) (i : Nat) : Nt := gD (F2 x) i
abbrev ASK (x : PaI) (i : Nat) : Span := (zM x i).t
abbrev AVL (x : PaI) (i : Nat) : Span := (zM x i).s
abbrev ATK (x : PaI) : Prop := ∀ (i : Nat), i < I7 x -> (zM x i).mi = (gD (DP x).ns i).mi /\ (ASK x i).lo = (gD (DP x).ns i).t.lo /\ (ASK x i).hi = (gD (DP x).ns i).t.hi /\ (AVL x i).lo =
 (gD (DP x).ns i).s.lo /\ (AVL x i).hi = (gD (DP x).ns i).s.hi
abbrev BIB (x : PaI) : Prop := tO x < (4611686018427387904 : Nat)
abbrev BFZ (x : PaI) : Prop := I7 x < (4611686018427387904 : Nat)
abbrev I0 (x : PaI) : Prop := (DV x).p.lo = (DV x).p.lo
abbrev zU (x : PaI) : Prop := (DV x).p.hi = (DV x).p.hi
abbrev E7 (x : PaI) : List Mk := AE (DV x).ms.length λ (i : Nat) => gD (DV x).ms i
abbrev yJ (x : PaI) : Nat := (E7 x).length
abbrev BHA (x : PaI) : Prop := yJ x = (DV x).ms.length
abbrev BBS (x : PaI) (i : Nat) : Mk := gD (E7 x) i
abbrev ARO (x : PaI) : Prop := ∀ (i : Nat), i < yJ x -> (BBS x i).pl = (gD (DV x).ms i).pl /\ (BBS x i).ht = (gD (DV x).ms i).ht
abbrev J9 (x : PaI) : List Nt := AE (DV x).ns.length λ (i : Nat) => gD (DV x).ns i
abbrev xN (x : PaI) : Nat := (J9 x).length
abbrev BBN (x : PaI) : Prop := xN x = (DV x).ns.length
abbrev D1 (x : PaI) (i : Nat) : Nt := gD (J9 x) i
abbrev AWB (x : PaI) (i : Nat) : Span := (D1 x i).t
abbrev ARD (x : PaI) (i : Nat) : Span := (D1 x i).s
abbrev ATW (x : PaI) : Prop := ∀ (i : Nat), i < xN x -> (D1 x i).mi = (gD (DV x).ns i).mi /\ (AWB x i).lo = (gD (DV x).ns i).t.lo /\ (AWB x i).hi = (gD (DV x).ns i).t.hi /\ (ARD x i).lo =
 (gD (DV x).ns i).s.lo /\ (ARD x i).hi = (gD (DV x).ns i).s.hi
abbrev AYC (x : PaI) : Prop := yJ x < (4611686018427387904 : Nat)
abbrev AYM (x : PaI) : Prop := xN x < (4611686018427387904 : Nat)
abbrev z_Pa_286 : List Int := AE (0 : Nat) λ (i : Nat) => default
abbrev ART (x : PaI) : CZ := CZ.mk (Cht.mk (AO x).p (AO x).base (AO x).scale (AO x).off (bO x) (APT x)) z_Pa_286
abbrev ATS (x : PaI) : List Span × Int := YU (ART x)
abbrev AUX (x : PaI) : CZ := CZ.mk (Cht.mk (DP x).p (DP x).base (DP x).scale (DP x).off (G7 x) (F2 x)) z_Pa_286
abbrev BAY (x : PaI) : List Span × Int := YU (AUX x)
abbrev AVN (x : PaI) : CZ := CZ.mk (Cht.mk (DV x).p (DV x).base (DV x).scale (DV x).off (E7 x) (J9 x)) z_Pa_286
abbrev AUY (x : PaI) : List Span × Int := YU (AVN x)
abbrev Rj (x : PaI) : List Span := (ATS x).fst
abbrev UP (x : PaI) : Nat := (Rj x).length
abbrev AXN (x : PaI) : List Span := (BAY x).fst
abbrev yO (x : PaI) : Nat := (AXN x).length
abbrev BHJ (x : PaI) : List Span := (AUY x).fst
abbrev tR (x : PaI) : Nat := (BHJ x).length
abbrev BIM (x : PaI) : Bool := bif bif bif bif bif (ATS x).snd != (0 : Int) then true else (BAY x).snd != (0 : Int) then true else (AUY x).snd != (0 : Int) then true else (↑(UP x) : Int) !=
 (↑(AO x).ms.length : Int) then true else (↑(yO x) : Int) != YQ x then true else (↑(tR x) : Int) != IntKind.i64.wrap ((↑(AO x).ms.length : Int) - AZ x)
abbrev BCR (x : PaI) : Prop := (!BIM x) = true
abbrev tT (x : PaI) (i : Nat) : Span := gD (Rj x) (AQY i)
abbrev F9 (x : PaI) : List Span := AE (xU x) λ (i : Nat) => tT x i
abbrev AXU (x : PaI) : Nat := (AE (AVS x - (0 : Nat)) λ (i : Nat) => gD (Rj x) (ZB i)).length
abbrev AYB (x : PaI) (i : Nat) : Span := gD (F9 x) i
abbrev vM (x : PaI) (i : Nat) : Span := gD (AXN x) i
abbrev E2 (x : PaI) : List Span := AE (yO x) λ (i : Nat) => vM x i
abbrev vT (x : PaI) : Nat := (E2 x).length
abbrev AWJ (x : PaI) (i : Nat) : Span := gD (E2 x) i
abbrev BIR (x : PaI) : Bool := bif BIM x then true else !samS (SS2.mk (F9 x) (E2 x))
abbrev BGZ (x : PaI) : Prop := (!BIR x) = true
abbrev BAZ (x : PaI) : Nat := UP x - (AZ x).toNat
abbrev uZ (x : PaI) (i : Nat) : Span := gD (Rj x) (AZC x i)
abbrev yH (x : PaI) : List Span := AE (BAZ x) λ (i : Nat) => uZ x i
abbrev zD (x : PaI) : Nat := (yH x).length
abbrev ASF (x : PaI) (i : Nat) : Span := gD (yH x) i
abbrev uB (x : PaI) (i : Nat) : Span := gD (BHJ x) i
abbrev A5 (x : PaI) : List Span := AE (tR x) λ (i : Nat) => uB x i
abbrev zG (x : PaI) : Nat := (A5 x).length
abbrev BDT (x : PaI) (i : Nat) : Span := gD (A5 x) i
abbrev BIU (x : PaI) : Prop := BW x /\ BV x /\ (AO x).base = (AO x).base /\ (AO x).scale = (AO x).scale /\ (AO x).off = (AO x).off /\ BQ x /\ BP x /\ BR x /\ BS x /\ BK x /\
 BM x /\ BL x /\ BI x /\ BN x /\ BJ x /\ tX x /\ E4 x /\ (DP x).base = (DP x).base /\ (DP x).scale = (DP x).scale /\ (DP x).off = (DP x).off /\ (DP x).ms.length = (DP x).ms.length /\ (∀
 (i : Nat), i < (DP x).ms.length -> (gD (DP x).ms i).pl = (gD (DP x).ms i).pl /\ (gD (DP x).ms i).ht = (gD (DP x).ms i).ht) /\ (DP x).ns.length = (DP x).ns.length /\ (∀ (i : Nat), i < (DP x).ns.length -> (gD (DP x).ns
 i).mi = (gD (DP x).ns i).mi /\ (gD (DP x).ns i).t.lo = (gD (DP x).ns i).t.lo /\ (gD (DP x).ns i).t.hi = (gD (DP x).ns i).t.hi /\ (gD (DP x).ns i).s.lo = (gD (DP x).ns i).s.lo /\ (gD (DP x).ns i).s.hi = (gD (DP x).ns
 i).s.hi) /\ I0 x /\ zU x /\ (DV x).base = (DV x).base /\ (DV x).scale = (DV x).scale /\ (DV x).off = (DV x).off /\ (DV x).ms.length = (DV x).ms.length /\ (∀ (i : Nat), i < (DV x).ms.length -> (gD (DV x).ms
 i).pl = (gD (DV x).ms i).pl /\ (gD (DV x).ms i).ht = (gD (DV x).ms i).ht) /\ (DV x).ns.length = (DV x).ns.length /\ ∀ (i : Nat), i < (DV x).ns.length -> (gD (DV x).ns i).mi = (gD (DV x).ns i).mi /\ (gD (DV x).ns
 i).t.lo = (gD (DV x).ns i).t.lo /\ (gD (DV x).ns i).t.hi = (gD (DV x).ns i).t.hi /\ (gD (DV x).ns i).s.lo = (gD (DV x).ns i).s.lo /\ (gD (DV x).ns i).s.hi = (gD (DV x).ns i).s.hi
abbrev BHL (x : PaI) : Prop := xZ /\ (0 : Int) < (↑(HE x).t.length : Int)
abbrev yP (x : PaI) : Int := IntKind.i64.wrap ((↑(HE x).t.length : Int) - (1 : Int))
abbrev BFY (x : PaI) : Int := gD (HE x).t (Int.toNat (0 : Int))
abbrev BFV : Nat := z_Pa_286.length
abbrev SY : Prop := BFV = (0 : Nat)
abbrev N4 : Prop := BFV < (4611686018427387904 : Nat)
abbrev AYS (x : PaI) : Span × Int := CR (CZI.mk (ART x) (Ur x))
abbrev AQR (x : PaI) : Bool := (AYS x).snd == (0 : Int)
abbrev BHW (x : PaI) : Span × Int := CR (CZI.mk (AVN x) (Ur x))
abbrev BFK (x : PaI) : Span := (AYS x).fst
abbrev APX (x : PaI) : Int := (BFK x).lo
abbrev BGE (x : PaI) : Span := (BHW x).fst
abbrev AYH (x : PaI) : Int := (BFK x).hi
abbrev BEE (x : PaI) : Span × Int := CR (CZI.mk (AUX x) (Ur x))
abbrev BEP (x : PaI) : Span := (BEE x).fst
abbrev AYN (x : PaI) : Prop := ∀ (a : One), True -> (BW x /\ BV x /\ (AO x).base = (AO x).base /\ (AO x).scale = (AO x).scale /\ (AO x).off = (AO x).off /\ C2 x /\ xL x /\ uJ x /\ Wm x /\
 BCQ x /\ BW x /\ BV x /\ (AO x).base = (AO x).base /\ (AO x).scale = (AO x).scale /\ (AO x).off = (AO x).off /\ C2 x /\ xL x /\ uJ x /\ Wm x /\ BCQ x) /\ ((xZ /\ AWW x /\
 YQ x <= (↑(NX x) : Int)) /\ zV x /\ AZ x <= (↑(NX x) : Int) /\ (↑(NX x) : Int) <= (↑(NX x) : Int)) /\ ((∃ (a : Nat), (x.t = x.t /\ AZ x = AZ x /\ BVI a /\ BW x /\ BV x /\ (AO x).base
 = (AO x).base /\ (AO x).scale = (AO x).scale /\ (AO x).off = (AO x).off /\ BQ x /\ BP x /\ BR x /\ BS x /\ BK x /\ BM x /\ BL x /\ BI x /\ BN x /\ BJ x /\ AXM x /\
 AUK x /\ (AB x).base = (AO x).base /\ (AB x).scale = (AO x).scale /\ (AB x).off = (AO x).off /\ (QA x).length = xU x /\ (∀ (i : Nat), i < (QA x).length -> (gD (QA x) i).pl = (AQW x i).pl /\ (gD
 (QA x) i).ht = (AQW x i).ht) /\ AQ /\ ED /\ AXM x /\ AUK x /\ (AB x).base = (AO x).base /\ (AB x).scale = (AO x).scale /\ (AB x).off = (AO x).off /\ (PS x).length = NX x - (AZ x).toNat
 /\ (∀ (i : Nat), i < (PS x).length -> (gD (PS x) i).pl = (AXD x i).pl /\ (gD (PS x) i).ht = (AXD x i).ht) /\ ARN) /\ wH a x) /\ (∀ (a : Nat), wH a x -> bif Ma a x then (Ws a x /\ (bif
 Lv x a then El /\ ∃ (a_2 : Nat), (x.t = x.t /\ AZ x = AZ x /\ DR a_2 a /\ BW x /\ BV x /\ (AO x).base = (AO x).base /\ (AO x).scale = (AO x).scale /\ (AO x).off = (AO x).off /\ BQ x /\
 BP x /\ BR x /\ BS x /\ BK x /\ BM x /\ BL x /\ BI x /\ BN x /\ BJ x /\ AW x /\ AV x /\ (AB x).base = (AB x).base /\ (AB x).scale = (AB x).scale /\ (AB x).off =
 (AB x).off /\ CT x /\ CV x /\ AQ /\ Qc x a_2 /\ AW x /\ AV x /\ (AB x).base = (AB x).base /\ (AB x).scale = (AB x).scale /\ (AB x).off = (AB x).off /\ CU x /\ CW x /\
 AQ /\ ED /\ Qc x a_2 /\ AXJ x a_2 a /\ Bt x a_2 a) /\ Uo a_2 x a else ∃ (a_2 : Nat), (x.t = x.t /\ AZ x = AZ x /\ DR a_2 a /\ BW x /\ BV x /\ (AO x).base = (AO x).base /\ (AO
 x).scale = (AO x).scale /\ (AO x).off = (AO x).off /\ BQ x /\ BP x /\ BR x /\ BS x /\ BK x /\ BM x /\ BL x /\ BI x /\ BN x /\ BJ x /\ AW x /\ AV x /\ (AB x).base =
 (AB x).base /\ (AB x).scale = (AB x).scale /\ (AB x).off = (AB x).off /\ CT x /\ CV x /\ AQ /\ ED /\ AW x /\ AV x /\ (AB x).base = (AB x).base /\ (AB x).scale = (AB x).scale /\
 (AB x).off = (AB x).off /\ CU x /\ CW x /\ AQ /\ ED /\ Bt x a_2 a) /\ ATC a_2 x a) /\ (∀ (a_2 : Nat), ATC a_2 x a -> bif Pz x a_2 then El /\ ∃ (a_4 : Nat), (x.t = x.t /\ AZ x =
 AZ x /\ DR a_4 a_2 /\ BW x /\ BV x /\ (AO x).base = (AO x).base /\ (AO x).scale = (AO x).scale /\ (AO x).off = (AO x).off /\ BQ x /\ BP x /\ BR x /\ BS x /\ BK x /\ BM x /\
 BL x /\ BI x /\ BN x /\ BJ x /\ AW x /\ AV x /\ (AB x).base = (AB x).base /\ (AB x).scale = (AB x).scale /\ (AB x).off = (AB x).off /\ CT x /\ CV x /\ AQ /\ ED /\
 AW x /\ AV x /\ (AB x).base = (AB x).base /\ (AB x).scale = (AB x).scale /\ (AB x).off = (AB x).off /\ CU x /\ CW x /\ AQ /\ F5 x a_4 /\ BBM x a_4 a_2) /\ Wy a_4 x a else ∃
 (a_4 : Nat), (x.t = x.t /\ AZ x = AZ x /\ DR a_4 a_2 /\ AUV x) /\ BGI a_4 x a) /\ xB x a) /\ (∀ (a_2 : Nat), BGI a_2 x a -> ∃ (a_4 : Nat), (x.t = x.t /\ AZ x = AZ x /\ Ec a_4 a_2 /\ AUV x) /\
 wH a_4 x /\ Ll x a_4 a) /\ BBR x a /\ O1 x a /\ Wx x a else ∃ (a : One), (x.t = x.t /\ AZ x = AZ x /\ BW x /\ BV x /\ (AO x).base = (AO x).base /\ (AO x).scale = (AO x).scale /\ (AO
 x).off = (AO x).off /\ BQ x /\ BP x /\ BR x /\ BS x /\ BK x /\ BM x /\ BL x /\ BI x /\ BN x /\ BJ x /\ Rw x /\ Ji x /\ (DP x).base = (AB x).base /\ (DP x).scale =
 (AB x).scale /\ (DP x).off = (AB x).off /\ Vb x /\ Tt x /\ Re x /\ Re x /\ AXF x) /\ True) /\ (∀ (a : Nat), AQH a x -> bif Ma a x then (Ws a x /\ (bif Lv x a then BDL x
 a /\ ∃ (a_2 : Nat), (x.t = x.t /\ AZ x = AZ x /\ DR a_2 a /\ BW x /\ BV x /\ (AO x).base = (AO x).base /\ (AO x).scale = (AO x).scale /\ (AO x).off = (AO x).off /\ BQ x /\ BP x /\ BR x /\
 BS x /\ BK x /\ BM x /\ BL x /\ BI x /\ BN x /\ BJ x /\ AW x /\ AV x /\ (AB x).base = (AB x).base /\ (AB x).scale = (AB x).scale /\ (AB x).off = (AB x).off /\ CT x /\
 CV x /\ AQ /\ Sj x a_2 a /\ AW x /\ AV x /\ (AB x).base = (AB x).base /\ (AB x).scale = (AB x).scale /\ (AB x).off = (AB x).off /\ CU x /\ CW x /\ AQ /\ ED /\ Sj x
 a_2 a /\ BCF x a_2 a /\ Bt x a_2 a) /\ Uo a_2 x a else ∃ (a_2 : Nat), (x.t = x.t /\ AZ x = AZ x /\ DR a_2 a /\ BW x /\ BV x /\ (AO x).base = (AO x).base /\ (AO x).scale = (AO x).scale /\ (AO
 x).off = (AO x).off /\ BQ x /\ BP x /\ BR x /\ BS x /\ BK x /\ BM x /\ BL x /\ BI x /\ BN x /\ BJ x /\ AW x /\ AV x /\ (AB x).base = (AB x).base /\ (AB x).scale =
 (AB x).scale /\ (AB x).off = (AB x).off /\ CT x /\ CV x /\ AQ /\ Uk x a_2 a /\ AW x /\ AV x /\ (AB x).base = (AB x).base /\ (AB x).scale = (AB x).scale /\ (AB x).off = (AB x).off
 /\ CU x /\ CW x /\ AQ /\ ED /\ Uk x a_2 a /\ BCE x a_2 a /\ Bt x a_2 a) /\ Uo a_2 x a) /\ xB x a /\ xB x a) /\ BBR x a /\ Wx x a else ∃ (a_2 : One), (x.t = x.t /\
 AZ x = AZ x /\ BW x /\ BV x /\ (AO x).base = (AO x).base /\ (AO x).scale = (AO x).scale /\ (AO x).off = (AO x).off /\ BQ x /\ BP x /\ BR x /\ BS x /\ BK x /\ BM x /\ BL x /\
 BI x /\ BN x /\ BJ x /\ Rw x /\ Ji x /\ (DP x).base = (AB x).base /\ (DP x).scale = (AB x).scale /\ (DP x).off = (AB x).off /\ Vb x /\ Tt x /\ BGP x a /\ BDK x a /\ BHB
 x a /\ AXF x) /\ True) /\ (∀ (a : Nat), BAN a x -> bif Ma a x then (Ws a x /\ (bif Lv x a then El /\ ∃ (a_2 : Nat), (x.t = x.t /\ AZ x = AZ x /\ DR a_2 a /\ BW x /\ BV x /\ (AO
 x).base = (AO x).base /\ (AO x).scale = (AO x).scale /\ (AO x).off = (AO x).off /\ BQ x /\ BP x /\ BR x /\ BS x /\ BK x /\ BM x /\ BL x /\ BI x /\ BN x /\ BJ x /\ AW x /\
 AV x /\ (AB x).base = (AB x).base /\ (AB x).scale = (AB x).scale /\ (AB x).off = (AB x).off /\ CT x /\ CV x /\ AQ /\ Qc x a_2 /\ AW x /\ AV x /\ (AB x).base = (AB x).base /\
 (AB x).scale = (AB x).scale /\ (AB x).off = (AB x).off /\ CU x /\ CW x /\ AQ /\ Co x a_2 a /\ Qc x a_2 /\ AXJ x a_2 a /\ Sc x a_2 a) /\ Ml a_2 x a else ∃ (a_2 : Nat), (x.t =
 x.t /\ AZ x = AZ x /\ DR a_2 a /\ BW x /\ BV x /\ (AO x).base = (AO x).base /\ (AO x).scale = (AO x).scale /\ (AO x).off = (AO x).off /\ BQ x /\ BP x /\ BR x /\ BS x /\ BK x /\
 BM x /\ BL x /\ BI x /\ BN x /\ BJ x /\ AW x /\ AV x /\ (AB x).base = (AB x).base /\ (AB x).scale = (AB x).scale /\ (AB x).off = (AB x).off /\ CT x /\ CV x /\ AQ /\
 ED /\ AW x /\ AV x /\ (AB x).base = (AB x).base /\ (AB x).scale = (AB x).scale /\ (AB x).off = (AB x).off /\ CU x /\ CW x /\ AQ /\ Co x a_2 a /\ Sc x a_2 a) /\ BDM a_2 x
 a) /\ (∀ (a_2 : Nat), BDM a_2 x a -> bif Pz x a_2 then AQM x a_2 /\ ∃ (a_4 : Nat), (x.t = x.t /\ AZ x = AZ x /\ DR a_4 a_2 /\ BW x /\ BV x /\ (AO x).base = (AO x).base /\ (AO x).scale = (AO
 x).scale /\ (AO x).off = (AO x).off /\ BQ x /\ BP x /\ BR x /\ BS x /\ BK x /\ BM x /\ BL x /\ BI x /\ BN x /\ BJ x /\ AW x /\ AV x /\ (AB x).base = (AB x).base /\
 (AB x).scale = (AB x).scale /\ (AB x).off = (AB x).off /\ CT x /\ CV x /\ AQ /\ ED /\ AW x /\ AV x /\ (AB x).base = (AB x).base /\ (AB x).scale = (AB x).scale /\ (AB x).off = (AB
 x).off /\ CU x /\ CW x /\ AQ /\ M5 x a_4 a_2 /\ BEC x a_4 a_2) /\ Wy a_4 x a else ∃ (a_4 : Nat), (x.t = x.t /\ AZ x = AZ x /\ DR a_4 a_2 /\ BW x /\ BV x /\ (AO x).base = (AO
 x).base /\ (AO x).scale = (AO x).scale /\ (AO x).off = (AO x).off /\ BQ x /\ BP x /\ BR x /\ BS x /\ BK x /\ BM x /\ BL x /\ BI x /\ BN x /\ BJ x /\ AW x /\ AV x /\
 (AB x).base = (AB x).base /\ (AB x).scale = (AB x).scale /\ (AB x).off = (AB x).off /\ CT x /\ CV x /\ AQ /\ ED /\ AW x /\ AV x /\ (AB x).base = (AB x).base /\ (AB x).scale = (AB
 x).scale /\ (AB x).off = (AB x).off /\ CU x /\ CW x /\ AQ /\ yQ x a_4 a_2 /\ AQA x a_4 a_2) /\ Wy a_4 x a) /\ A9 x a) /\ O1 x a /\ O1 x a /\ AVP x a else ∃ (a_2 : One),
 (x.t = x.t /\ AZ x = AZ x /\ BW x /\ BV x /\ (AO x).base = (AO x).base /\ (AO x).scale = (AO x).scale /\ (AO x).off = (AO x).off /\ BQ x /\ BP x /\ BR x /\ BS x /\ BK x /\ BM x /\
 BL x /\ BI x /\ BN x /\ BJ x /\ Rw x /\ Ji x /\ (DP x).base = (AB x).base /\ (DP x).scale = (AB x).scale /\ (DP x).off = (AB x).off /\ Vb x /\ Tt x /\ Re x /\ Re x /\
 ARZ x a) /\ True) /\ ∀ (a : Nat), ATI a x -> bif Ma a x then (Ws a x /\ (bif Lv x a then BDL x a /\ ∃ (a_2 : Nat), (x.t = x.t /\ AZ x = AZ x /\ DR a_2 a /\ BW x /\ BV x /\ (AO
 x).base = (AO x).base /\ (AO x).scale = (AO x).scale /\ (AO x).off = (AO x).off /\ BQ x /\ BP x /\ BR x /\ BS x /\ BK x /\ BM x /\ BL x /\ BI x /\ BN x /\ BJ x /\ AW x /\
 AV x /\ (AB x).base = (AB x).base /\ (AB x).scale = (AB x).scale /\ (AB x).off = (AB x).off /\ CT x /\ CV x /\ AQ /\ Sj x a_2 a /\ AW x /\ AV x /\ (AB x).base = (AB x).base /\
 (AB x).scale = (AB x).scale /\ (AB x).off = (AB x).off /\ CU x /\ CW x /\ AQ /\ Co x a_2 a /\ Sj x a_2 a /\ BCF x a_2 a /\ Sc x a_2 a) /\ Ml a_2 x a else ∃ (a_2 : Nat), (x.t =
 x.t /\ AZ x = AZ x /\ DR a_2 a /\ BW x /\ BV x /\ (AO x).base = (AO x).base /\ (AO x).scale = (AO x).scale /\ (AO x).off = (AO x).off /\ BQ x /\ BP x /\ BR x /\ BS x /\ BK x /\
 BM x /\ BL x /\ BI x /\ BN x /\ BJ x /\ AW x /\ AV x /\ (AB x).base = (AB x).base /\ (AB x).scale = (AB x).scale /\ (AB x).off = (AB x).off /\ CT x /\ CV x /\ AQ /\
 Uk x a_2 a /\ AW x /\ AV x /\ (AB x).base = (AB x).base /\ (AB x).scale = (AB x).scale /\ (AB x).off = (AB x).off /\ CU x /\ CW x /\ AQ /\ Co x a_2 a /\ Uk x a_2 a /\
 BCE x a_2 a /\ Sc x a_2 a) /\ Ml a_2 x a) /\ A9 x a /\ A9 x a) /\ AVP x a else ∃ (a_2 : One), (x.t = x.t /\ AZ x = AZ x /\ BW x /\ BV x /\ (AO x).base = (AO x).base /\ (AO x).scale
 = (AO x).scale /\ (AO x).off = (AO x).off /\ BQ x /\ BP x /\ BR x /\ BS x /\ BK x /\ BM x /\ BL x /\ BI x /\ BN x /\ BJ x /\ Rw x /\ Ji x /\ (DP x).base = (AB
 x).base /\ (DP x).scale = (AB x).scale /\ (DP x).off = (AB x).off /\ Vb x /\ Tt x /\ BGP x a /\ BDK x a /\ BHB x a /\ ARZ x a) /\ True) /\ ∀ (a : One), True -> (BW x /\ BV x /\ (AO
 x).base = (AO x).base /\ (AO x).scale = (AO x).scale /\ (AO x).off = (AO x).off /\ C2 x /\ xL x /\ uJ x /\ Wm x /\ AQ /\ AQ /\ AQC x /\ ARX x /\ wJ) /\ (tX x /\ E4 x /\
 (DP x).base = (DP x).base /\ (DP x).scale = (DP x).scale /\ (DP x).off = (DP x).off /\ BEA x /\ ARI x /\ BGM x /\ ATK x /\ AQ /\ AQ /\ BIB x /\ BFZ x /\ wJ) /\ (I0 x /\
 zU x /\ (DV x).base = (DV x).base /\ (DV x).scale = (DV x).scale /\ (DV x).off = (DV x).off /\ BHA x /\ ARO x /\ BBN x /\ ATW x /\ AQ /\ AQ /\ AYC x /\ AYM x /\ wJ) /\
 (((BCR x -> xZ /\ AWW x /\ YQ x <= (↑(UP x) : Int)) /\ (BCR x -> (F9 x).length = xU x /\ (∀ (i : Nat), i < AXU x -> (AYB x i).lo = (tT x i).lo /\ (AYB x i).hi =
 (tT x i).hi) /\ vT x = yO x /\ (∀ (i : Nat), i < vT x -> (AWJ x i).lo = (vM x i).lo /\ (AWJ x i).hi = (vM x i).hi) /\ AXU x < (4611686018427387904 : Nat) /\ vT x <
 (4611686018427387904 : Nat)) /\ (BGZ x -> zV x /\ AZ x <= (↑(UP x) : Int) /\ (↑(UP x) : Int) <= (↑(UP x) : Int)) /\ (BGZ x -> zD x = BAZ x /\ (∀ (i : Nat), i < zD x -> (ASF
 x i).lo = (uZ x i).lo /\ (ASF x i).hi = (uZ x i).hi) /\ zG x = tR x /\ (∀ (i : Nat), i < zG x -> (BDT x i).lo = (uB x i).lo /\ (BDT x i).hi = (uB x i).hi) /\ zD x
 < (4611686018427387904 : Nat) /\ zG x < (4611686018427387904 : Nat))) /\ bif bif BIR x then true else !samS (SS2.mk (yH x) (A5 x)) then true = false else ∃ (a : One), (x.t = x.t /\ AZ x = AZ x /\
 BIU x) /\ True) /\ ∀ (a : One), True -> ((BHL x /\ ((0 : Int) <= yP x /\ yP x < (↑(HE x).t.length : Int)) /\ BHL x) /\ ∃ (a : One), (AZ x = AZ x /\ Ur x = IntKind.i64.wrap (BFY x + KH x.t
 (IntKind.i64.wrap (IntKind.i64.wrap (gD (HE x).t (yP x).toNat - BFY x) + (1 : Int)))) /\ BIU x) /\ True) /\ ∀ (a : One), True -> (BW x /\ BV x /\ (AO x).base = (AO x).base /\ (AO x).scale = (AO
 x).scale /\ (AO x).off = (AO x).off /\ C2 x /\ xL x /\ uJ x /\ Wm x /\ SY /\ SY /\ Ur x = Ur x /\ AQC x /\ ARX x /\ N4) /\ (zV x /\ AZ x < (↑(HE x).t.length : Int)) /\ bif
 decide (Ur x > gD (HE x).t (AZ x).toNat) then (I0 x /\ zU x /\ (DV x).base = (DV x).base /\ (DV x).scale = (DV x).scale /\ (DV x).off = (DV x).off /\ BHA x /\ ARO x /\ BBN x /\ ATW x /\
 SY /\ SY /\ Ur x = Ur x /\ AYC x /\ AYM x /\ N4) /\ true = bif bif bif AQR x then (BHW x).snd == (0 : Int) else false then APX x == (BGE x).lo && (AYH x == (BGE x).hi
 && true) else false then true else false else (tX x /\ E4 x /\ (DP x).base = (DP x).base /\ (DP x).scale = (DP x).scale /\ (DP x).off = (DP x).off /\ BEA x /\ ARI x /\ BGM x /\ ATK x /\
 SY /\ SY /\ Ur x = Ur x /\ BIB x /\ BFZ x /\ N4) /\ true = bif bif bif AQR x then (BEE x).snd == (0 : Int) else false then APX x == (BEP x).lo && (AYH x == (BEP x).hi
 && true) else false then true else false
abbrev OF (x : PaI) (a : Nat) : Nat := (RE x a).length + (1 : Nat)
abbrev AXO (x : PaI) (a : Nat) : Prop := ((RE x a).length = (RE x a).length /\ ((0 : Nat) < (RE x a).length -> C6)) /\ vJ /\ yM /\ OF x a <= (9223372036854775807 : Nat) /\ OF x a * (40 : Nat)
 <= (140737488355328 : Nat)
abbrev BBO (x : PaI) (a : Nat) (a1 : Nat) : Prop := Ef x a = OF x a1
abbrev Dc (i : Nat) (x : PaI) (a : Nat) : Bool := decide (i < (RE x a).length)
abbrev BHV (x : PaI) (a : Nat) (a1 : Nat) : Prop := Ef x a = (RE x a1).length
abbrev Bw (j : Nat) (x : PaI) (a : Nat) : Bool := decide (ZB j < (RE x a).length)
abbrev wE (x : PaI) (a : Nat) (j : Nat) : Nt := gD (RE x a) (ZB j)
abbrev BDY (x : PaI) (a : Nat) (j : Nat) : Span := (wE x a j).t
abbrev AYX (x : PaI) (a : Nat) (j : Nat) : Span := (wE x a j).s
theorem CYL (x : PaI) : (V_Pa x) = ((AQN x = x.bs.length /\ (∀ (i : Nat), i < AQN x -> BUP x i = gD x.bs i) /\ (12 : Int) = Int.ofNat (12 : Nat) /\ false = false /\ BZN x = AQN x /\ (∀ (i : Nat), i < BZN x
 -> gD (BSF x) i = BUP x i) /\ BZJ /\ BZJ /\ (StmB (0 : Int) (CAH x) /\ (1 : Int) <= (12 : Int) /\ (12 : Int) <= (14 : Int)) /\ false = false) /\ (BLE x /\ BLE x /\ BSQ x /\ BSQ x) /\ (∃ (a : Nat), (x.t =
 x.t /\ AZ x = Ie x /\ AQ /\ ED /\ BVI a /\ (AB x).p.lo = (BSV x).lo /\ (AB x).p.hi = (BSV x).hi /\ (AB x).base = (gM x).base /\ (AB x).scale = (gM x).scale /\ (AB x).off = (gM
 x).off /\ (AB x).ms.length = BTY x /\ (∀ (i : Nat), i < (AB x).ms.length -> (gD (AB x).ms i).pl = (BRH x i).pl /\ (gD (AB x).ms i).ht = (BRH x i).ht) /\ (AB x).ns.length = (BTR x).length /\ (∀ (i :
 Nat), i < (AB x).ns.length -> (gD (AB x).ns i).mi = (ANB x i).mi /\ (gD (AB x).ns i).t.lo = (BRG x i).lo /\ (gD (AB x).ns i).t.hi = (BRG x i).hi /\ (gD (AB x).ns i).s.lo = (BQU x i).lo /\ (gD (AB
 x).ns i).s.hi = (BQU x i).hi) /\ (HE x).t.length = BOY x /\ (∀ (i : Nat), i < (HE x).t.length -> gD (HE x).t i = gD (AOY x) i) /\ (HE x).s.length = BOM x /\ (∀ (i : Nat), i < (HE x).s.length -> gD (HE
 x).s i = gD (ANN x) i) /\ (HE x).z.length = (BND x).length /\ (∀ (i : Nat), i < (HE x).z.length -> gD (HE x).z i = gD (BND x) i) /\ (SD x).mi = Ie x /\ (SD x).t.lo = BWC x /\ (SD x).t.hi = BWC x
 /\ (SD x).s.lo = BOK x /\ (SD x).s.hi = BOK x) /\ ANV a x) /\ (∀ (a : Nat), ANV a x -> bif BNA a x then (xV a x /\ bif BRD x a then (xV a x /\ El) /\ ∃ (a_2 : Nat), (x.t = x.t /\ AZ x =
 AZ x /\ AQ /\ BUE x a_2 /\ DR a_2 a /\ AW x /\ AV x /\ (AB x).base = (AB x).base /\ (AB x).scale = (AB x).scale /\ (AB x).off = (AB x).off /\ Yt x /\ Ym x /\ Zy x /\ Xq x /\
 BK x /\ BM x /\ BL x /\ BI x /\ BN x /\ BJ x /\ (SD x).mi = (SD x).mi /\ bP x /\ dK x /\ cW x /\ bT x /\ BUE x a_2 /\ ∀ (i : Nat), AOE i x a_2 -> zY x a_2 i = (gD (AB
 x).ns a).mi /\ tZ x a_2 i = (gD (AB x).ns a).t.lo /\ I4 x a_2 i = (gD (AB x).ns a).t.hi /\ zP x a_2 i = (gD (AB x).ns a).s.lo /\ M8 x a_2 i = (gD (AB x).ns a).s.hi) /\ D5 a_2 x a else ∃ (a_2 :
 Nat), (x.t = x.t /\ AZ x = AZ x /\ AQ /\ ED /\ DR a_2 a /\ BQG x) /\ BLG a_2 x a) /\ (∀ (a_2 : Nat), BLG a_2 x a -> ∃ (a_4 : Nat), (x.t = x.t /\ AZ x = AZ x /\ AQ /\ ED /\ Ec a_4 a_2 /\
 BQG x) /\ ANV a_4 x /\ BTB x a_4 a) /\ AOL x a else El /\ (∃ (a : One), (x.t = x.t /\ AZ x = AZ x /\ BNX x /\ BRB x /\ (AO x).base = (AB x).base /\ (AO x).scale = (AB x).scale /\ (AO x).off =
 (AB x).off /\ BQK x /\ BSK x /\ (AO x).ns.length = (1 : Nat) /\ BLI /\ (∀ (j : Nat), j < (AO x).ns.length -> (gD (AO x).ns j).mi = (SD x).mi /\ (gD (AO x).ns j).t.lo = (SD x).t.lo /\ (gD (AO x).ns j).t.hi =
 (SD x).t.hi /\ (gD (AO x).ns j).s.lo = (SD x).s.lo /\ (gD (AO x).ns j).s.hi = (SD x).s.hi) /\ BMH x) /\ True) /\ AYN x) /\ ∀ (a : Nat), BSY a x -> bif BNA a x then (xV a x /\ bif BRD x a then
 (xV a x /\ AXO x a) /\ ∃ (a_2 : Nat), (x.t = x.t /\ AZ x = AZ x /\ AQ /\ BBO x a_2 a /\ DR a_2 a /\ AW x /\ AV x /\ (AB x).base = (AB x).base /\ (AB x).scale = (AB x).scale /\ (AB
 x).off = (AB x).off /\ Yt x /\ Ym x /\ Zy x /\ Xq x /\ BK x /\ BM x /\ BL x /\ BI x /\ BN x /\ BJ x /\ (SD x).mi = (SD x).mi /\ bP x /\ dK x /\ cW x /\ bT x /\
 BBO x a_2 a /\ ∀ (i : Nat), AOE i x a_2 -> (zY x a_2 i = bif Dc i x a then (gD (RE x a) i).mi else (gD (AB x).ns a).mi) /\ (tZ x a_2 i = bif Dc i x a then (gD (RE x a) i).t.lo else (gD
 (AB x).ns a).t.lo) /\ (I4 x a_2 i = bif Dc i x a then (gD (RE x a) i).t.hi else (gD (AB x).ns a).t.hi) /\ (zP x a_2 i = bif Dc i x a then (gD (RE x a) i).s.lo else (gD (AB x).ns a).s.lo) /\
 M8 x a_2 i = bif Dc i x a then (gD (RE x a) i).s.hi else (gD (AB x).ns a).s.hi) /\ D5 a_2 x a else ∃ (a_2 : Nat), (x.t = x.t /\ AZ x = AZ x /\ AQ /\ BHV x a_2 a /\ DR a_2 a /\ AW x /\
 AV x /\ (AB x).base = (AB x).base /\ (AB x).scale = (AB x).scale /\ (AB x).off = (AB x).off /\ Yt x /\ Ym x /\ Zy x /\ Xq x /\ BK x /\ BM x /\ BL x /\ BI x /\ BN x /\
 BJ x /\ (SD x).mi = (SD x).mi /\ bP x /\ dK x /\ cW x /\ bT x /\ BHV x a_2 a /\ ∀ (i : Nat), AOE i x a_2 -> zY x a_2 i = (gD (RE x a) i).mi /\ tZ x a_2 i = (gD (RE x a) i).t.lo /\
 I4 x a_2 i = (gD (RE x a) i).t.hi /\ zP x a_2 i = (gD (RE x a) i).s.lo /\ M8 x a_2 i = (gD (RE x a) i).s.hi) /\ D5 a_2 x a) /\ AOL x a /\ AOL x a else AXO x a /\ (bif decide ((↑(OF x
 a) : Int) > (20 : Int)) then true = true else ∃ (a_2 : One), (x.t = x.t /\ AZ x = AZ x /\ BNX x /\ BRB x /\ (AO x).base = (AB x).base /\ (AO x).scale = (AB x).scale /\ (AO x).off = (AB x).off /\ BQK x /\
 BSK x /\ (AO x).ns.length = OF x a /\ (0 : Nat) + OF x a <= OF x a /\ (∀ (j : Nat), j < (AO x).ns.length -> ((gD (AO x).ns j).mi = bif Bw j x a then (wE x a j).mi else (SD x).mi) /\ ((gD
 (AO x).ns j).t.lo = bif Bw j x a then (BDY x a j).lo else (SD x).t.lo) /\ ((gD (AO x).ns j).t.hi = bif Bw j x a then (BDY x a j).hi else (SD x).t.hi) /\ ((gD (AO x).ns j).s.lo = bif Bw j x
 a then (AYX x a j).lo else (SD x).s.lo) /\ (gD (AO x).ns j).s.hi = bif Bw j x a then (AYX x a j).hi else (SD x).s.hi) /\ BMH x) /\ True) /\ AYN x) := by kernel_rfl
end Go.Bal
