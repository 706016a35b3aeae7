/- Law ChartParted: its walk. -/
import Derived.Test.YtdbjalgfomknhaaChW
import Derived.Test.YtdbjalgfomknhaaChCp
set_option linter.unusedVariables false
set_option linter.unusedSimpArgs false
namespace Go.Bal
open Go Go.Sym Go.Proofs
structure PaI where
 bs : List Int
 m : Int
 t : Int
def paM (x : PaI) : MkI := ⟨⟨x.bs, 0, 0⟩, 12, false⟩
def AB (x : PaI) : Cht := HC (paM x)
def HE (x : PaI) : Tru := sX (paM x)
def AY (x : PaI) : Int := JS x.m (AB x).ms.length
def UI (x : PaI) : Nt := ⟨AY x, ⟨gD (HE x).t (AY x).toNat, gD (HE x).t (AY x).toNat⟩, ⟨gD (HE x).s (AY x).toNat, gD (HE x).s (AY x).toNat⟩⟩
def flN (m : Int) (l : List Nt) : Nat -> List Nt
 | 0 => []
 | k + 1 => bif (gD l k).mi != m then flN m l k ++ [gD l k] else flN m l k
def DK (x : PaI) : List Nt := flN (AY x) (AB x).ns (AB x).ns.length ++ [UI x]
def AN (x : PaI) : Cht := ⟨(AB x).p, (AB x).base, (AB x).scale, (AB x).off, (AB x).ms, DK x⟩
def Db (m : Int) (l : List Nt) : Nat -> List Nt
 | 0 => []
 | k + 1 => bif decide ((gD l k).mi <= m) then Db m l k ++ [gD l k] else Db m l k
def dnN (m : Int) (n : Nt) : Nt := ⟨wr (n.mi - m), n.t, n.s⟩
def YB (m : Int) (l : List Nt) : Nat -> List Nt
 | 0 => []
 | k + 1 => bif decide ((gD l k).mi >= m) then YB m l k ++ [dnN m (gD l k)] else YB m l k
def PO (x : PaI) : List Mk := AE ((AY x).toNat + 1) λ i => gD (AB x).ms i
def PQ (x : PaI) : List Mk := AE ((AB x).ms.length - (AY x).toNat) λ i => gD (AB x).ms ((AY x).toNat + i)
def DP (x : PaI) : Cht := ⟨(AB x).p, (AB x).base, (AB x).scale, (AB x).off, PO x, Db (AY x) (DK x) (DK x).length⟩
def DX (x : PaI) : Cht := ⟨(AB x).p, (AB x).base, (AB x).scale, (AB x).off, PQ x, YB (AY x) (DK x) (DK x).length⟩
def trB (t : Tru) : HCell := .live (.box [.d (DI t.t), .d (DI t.s), .d (DI t.z)])
def pnB (n : Nt) : HCell := .live (.box [.int n.mi, .int n.t.lo, .int n.t.hi, .int n.s.lo, .int n.s.hi])
def CFL (l : List Nt) : HCell := .live (.row 5 l.length λ i => eNt (gD l i))
def chM (c : Cht) (ms : List Mk) (v : AVal) : HCell := .live (.box [.int c.p.lo, .int c.p.hi, .int c.base, .int c.scale, .int c.off, .d (eMks ms), v])
def paSl (x : PaI) : List (Nat × AVal) := [(2, .int x.t), (7, .bptr 2096 0), (8, .bptr 2112 0), (9, .int (AY x)), (10, .bptr 4384 0)]
def paH (x : PaI) : List (Nat × HCell) := [(2096, .live (chB (AB x))), (2112, trB (HE x)), (4384, pnB (UI x))]
def QW (x : PaI) (k : Nat) : List Nt := flN (AY x) (AB x).ns k
def pa6n (x : PaI) : Shape := { α := Nat, dflt := 0, T := λ k => ⟨paSl x ++ [(11, .d GA), (12, .int k)], paH x⟩, inv := λ k => k <= (AB x).ns.length /\ QW x k = [], meas := λ k => (AB x).ns.length - k, tag := [0] }
def pa6o (x : PaI) : Shape := { α := Nat, dflt := 0, T := λ k => ⟨paSl x ++ [(11, .own 305 5 0 (QW x k).length), (12, .int k)], paH x ++ [(305, CFL (QW x k))]⟩, inv := λ k => k <= (AB x).ns.length /\ 1 <= (QW x k).length, meas := λ k => (AB x).ns.length - k, tag := [1] }
def pa7n (x : PaI) (m : Nat) : Shape := { α := Nat, dflt := 0, T := λ k => ⟨paSl x ++ [(11, .d GA), (12, .int k)], paH x⟩, inv := λ k => (k < (AB x).ns.length /\ (AB x).ns.length - k = m) /\ QW x (k + 1) = [], meas := λ _ => 0 }
def pa7o (x : PaI) (m : Nat) (f : List (Nat × Nat)) : Shape := { α := Nat, dflt := 0, T := λ k => ⟨paSl x ++ [(11, .own 305 5 0 (QW x (k + 1)).length), (12, .int k)], paH x ++ [(305, CFL (QW x (k + 1)))]⟩, inv := λ k => (k < (AB x).ns.length /\ (AB x).ns.length - k = m) /\ 1 <= (QW x (k + 1)).length, meas := λ _ => 0, first := f }
def pa7 (x : PaI) (m : Nat) : Nat -> List Shape
 | 0 => [pa7n x m, pa7o x m [(305, 10112)]]
 | _ => [pa7o x m [(305, 10112)], pa7o x m []]
def CTP (x : PaI) : List (Nat × AVal) := [(2, .int x.t), (7, .bptr 2096 0), (8, .bptr 2112 0), (9, .int (AY x))]
def pa13 (x : PaI) : Shape := { α := One, dflt := default, T := λ _ => ⟨CTP x, [(2096, .live (chB (AN x))), (2112, trB (HE x))]⟩, inv := λ _ => True, meas := λ _ => 0, ffz := [11048] }
def paVA (b : Bool) (x : PaI) (k : Nat) : AVal := bif b then .own 306 5 0 (Db (AY x) (DK x) k).length else .d GA
def paVB (b : Bool) (x : PaI) (k : Nat) : AVal := bif b then .own 307 5 0 (YB (AY x) (DK x) k).length else .d GA
def paRA (b : Bool) (x : PaI) (k : Nat) : List (Nat × HCell) := bif b then [(306, CFL (Db (AY x) (DK x) k))] else []
def paRB (b : Bool) (x : PaI) (k : Nat) : List (Nat × HCell) := bif b then [(307, CFL (YB (AY x) (DK x) k))] else []
def paIA (b : Bool) (x : PaI) (k : Nat) : Prop := bif b then 1 <= (Db (AY x) (DK x) k).length else Db (AY x) (DK x) k = []
def paIB (b : Bool) (x : PaI) (k : Nat) : Prop := bif b then 1 <= (YB (AY x) (DK x) k).length else YB (AY x) (DK x) k = []
def CLJ (x : PaI) (k : Nat) : List (Nat × AVal) := CTP x ++ [(13, .bptr 14064 0), (14, .bptr 14080 0), (15, .int k)]
def paG (x : PaI) (va vb : AVal) : List (Nat × HCell) := [(2096, .live (chB (AN x))), (2112, trB (HE x)), (14064, chM (AB x) (PO x) va), (14080, chM (AB x) (PQ x) vb)]
def tgN (a b : Bool) : Nat := bif a then (bif b then 3 else 1) else (bif b then 2 else 0)
def pa17 (x : PaI) (a b : Bool) : Shape := { α := Nat, dflt := 0, T := λ k => ⟨CLJ x k, paG x (paVA a x k) (paVB b x k) ++ (paRA a x k ++ paRB b x k)⟩, inv := λ k => k <= (DK x).length /\ paIA a x k /\ paIB b x k, meas := λ k => (DK x).length - k, tag := [tgN a b] }
def pa22 (x : PaI) (m : Nat) (a b : Bool) (f : List (Nat × Nat)) : Shape := { α := Nat, dflt := 0, T := λ k => ⟨CLJ x k ++ [(16, .bptr 20080 0)], paG x (paVA a x (k + 1)) (paVB b x k) ++ (paRA a x (k + 1) ++ paRB b x k) ++ [(20080, pnB (gD (DK x) k))]⟩, inv := λ k => (k < (DK x).length /\ (DK x).length - k = m) /\ paIA a x (k + 1) /\ paIB b x k, meas := λ _ => 0, tag := [tgN a b], first := f }
def pa18 (x : PaI) (m : Nat) (a b : Bool) (f : List (Nat × Nat)) : Shape := { α := Nat, dflt := 0, T := λ k => ⟨CLJ x k, paG x (paVA a x (k + 1)) (paVB b x (k + 1)) ++ (paRA a x (k + 1) ++ paRB b x (k + 1))⟩, inv := λ k => (k < (DK x).length /\ (DK x).length - k = m) /\ paIA a x (k + 1) /\ paIB b x (k + 1), meas := λ _ => 0, first := f }
def CYU (x : PaI) (m : Nat) : Nat -> List Shape
 | 0 => [pa22 x m false false [], pa22 x m true false [(306, 22064)]]
 | 1 => [pa22 x m true false [(306, 22064)], pa22 x m true false []]
 | 2 => [pa22 x m false true [], pa22 x m true true [(306, 22064)]]
 | _ => [pa22 x m true true [(306, 22064)], pa22 x m true true []]
def CZT (x : PaI) (m : Nat) : Nat -> List Shape
 | 0 => [pa18 x m false false [], pa18 x m true false [], pa18 x m false true [(307, 25064)], pa18 x m true true [(307, 25064)]]
 | 1 => [pa18 x m true false [], pa18 x m true true [(307, 25064)]]
 | 2 => [pa18 x m false true [], pa18 x m false true [(307, 25064)], pa18 x m true true [], pa18 x m true true [(307, 25064)]]
 | _ => [pa18 x m true true [], pa18 x m true true [(307, 25064)]]
def CMA : List (Nat × AVal) := [(7, .bptr 2096 0), (8, .bptr 2112 0), (13, .bptr 14064 0), (14, .bptr 14080 0)]
def paG4 (x : PaI) : List (Nat × HCell) := [(2096, .live (chB (AN x))), (2112, trB (HE x)), (14064, .live (chB (DP x))), (14080, .live (chB (DX x)))]
def pa25 (x : PaI) : Shape := { α := One, dflt := default, T := λ _ => ⟨CMA ++ [(2, .int x.t), (9, .int (AY x))], paG4 x⟩, inv := λ _ => True, meas := λ _ => 0, ffz := [306, 307] }
def pa30 (x : PaI) : Shape := { α := One, dflt := default, T := λ _ => ⟨CMA ++ [(2, .int x.t), (9, .int (AY x))], paG4 x⟩, inv := λ _ => True, meas := λ _ => 0 }
def Ky (x : PaI) : Int := wr (gD (HE x).t 0 + JS x.t (wr (wr (gD (HE x).t ((AB x).ms.length - 1) - gD (HE x).t 0) + 1)))
def pa31 (x : PaI) : Shape := { α := One, dflt := default, T := λ _ => ⟨CMA ++ [(9, .int (AY x)), (23, .int (Ky x))], paG4 x⟩, inv := λ _ => True, meas := λ _ => 0 }
def xPa (x : PaI) : List AVal := [.d (eBys x.bs), .int x.m, .int x.t]
def A_Pa (x : PaI) : Ann := { ann 272 [(CMZ, C_New.spec CTE), (CBL, (kE false).spec (dMkI false)), (CAU, CNI), (CBK, C_cpC.spec dC1), (ANO, C_Times.spec dCZ), (ANV, C_samS.spec dSS2), (AON, C_Stage.spec dCZI), (BMY, CCN)] with mt := λ id => id == 9 || id == 10 || id == 21 || id == 24, loops := λ id => if id = 6 then some [pa6n x, pa6o x] else if id = 17 then some [pa17 x false false, pa17 x true false, pa17 x false true, pa17 x true true] else none, cutIn := λ gs id => if id = 7 then some (pa7 x (gs.getD 0 0) (gs.getD 1 0)) else if id = 22 then some (CYU x (gs.getD 0 0) (gs.getD 1 0)) else if id = 18 then some (CZT x (gs.getD 0 0) (gs.getD 1 0)) else none, cut := λ id => if id = 13 then some [pa13 x] else if id = 25 then some [pa25 x] else if id = 30 then some [pa30 x] else if id = 31 then some [pa31 x] else none }
def V_Pa (x : PaI) : Prop := AZ Try.prog (A_Pa x) AKN (AL AKN) (xPa x) (AG []) (.bool true) [] [] []
abbrev CCH (x : PaI) : List Int := AE x.bs.length λ (i : Nat) => gD x.bs i
abbrev ARC (x : PaI) : Nat := (CCH x).length
abbrev BVQ (x : PaI) (i : Nat) : Int := gD (CCH x) i
abbrev BLE (x : PaI) : List Int := AE (ARC x) λ (i : Nat) => BVQ x i
abbrev CAN (x : PaI) : Nat := (BLE x).length
abbrev CBZ : Prop := (0 : Int) = (0 : Int)
abbrev CAT (x : PaI) : Stm := Stm.mk (BLE x) (0 : Int) (0 : Int)
abbrev CCK (x : PaI) : MkI := MkI.mk (CAT x) (12 : Int) false
abbrev pN (x : PaI) : Cht := HC (CCK x)
abbrev CAE (x : PaI) : List Mk := (pN x).ms
abbrev BOQ (x : PaI) : Nat := (CAE x).length
abbrev Ex (x : PaI) : Int := JS x.m (↑(BOQ x) : Int)
abbrev BQT (x : PaI) : Prop := (0 : Int) <= Ex x
abbrev AMI (x : PaI) : Tru := sX (CCK x)
abbrev AOR (x : PaI) : List Int := (AMI x).t
abbrev BOM (x : PaI) : Nat := (AOR x).length
abbrev BNM (x : PaI) : Prop := BQT x /\ Ex x < (↑(BOM x) : Int)
abbrev ANT (x : PaI) : List Int := (AMI x).s
abbrev BLK (x : PaI) : Nat := (ANT x).length
abbrev BSF (x : PaI) : Prop := BQT x /\ Ex x < (↑(BLK x) : Int)
abbrev AP : Prop := (0 : Nat) = (0 : Nat)
abbrev ED : Prop := ∀ (i : Nat), i < (0 : Nat) -> false = false
abbrev BKX (a : Nat) : Prop := (↑a : Int) = (0 : Int)
abbrev BRD (x : PaI) : Span := (pN x).p
abbrev BPA (x : PaI) (i : Nat) : Mk := gD (CAE x) i
abbrev BME (x : PaI) : List Nt := (pN x).ns
abbrev ANX (x : PaI) (i : Nat) : Nt := gD (BME x) i
abbrev BMO (x : PaI) (i : Nat) : Span := (ANX x i).t
abbrev BNA (x : PaI) (i : Nat) : Span := (ANX x i).s
abbrev BUB (x : PaI) : List Int := (AMI x).z
abbrev BNQ (x : PaI) : Nat := (Ex x).toNat
abbrev BPK (x : PaI) : Int := gD (AOR x) (BNQ x)
abbrev BRN (x : PaI) : Int := gD (ANT x) (BNQ x)
abbrev APD (a : Nat) (x : PaI) : Prop := a <= (AB x).ns.length /\ QW x a = []
abbrev BOU (a : Nat) (x : PaI) : Prop := (↑a : Int) < (↑(AB x).ns.length : Int)
abbrev BTK (a : Nat) (x : PaI) : Bool := decide (BOU a x)
abbrev BVA (a : Nat) : Prop := (0 : Int) <= (↑a : Int)
abbrev M8 (a : Nat) (x : PaI) : Prop := BVA a /\ BOU a x
abbrev BMU (x : PaI) (a : Nat) : Bool := (gD (AB x).ns a).mi != AY x
abbrev BTN : Prop := (1 : Nat) <= (1 : Nat)
abbrev AOL : Prop := (0 : Nat) < (1 : Nat)
abbrev wW : Prop := (5 : Nat) = (5 : Nat)
abbrev G1 : Prop := BTN /\ (AOL -> wW)
abbrev Fj : Prop := (True /\ ((0 : Nat) < (0 : Nat) -> (0 : Nat) = (5 : Nat))) /\ G1 /\ (true = true -> AOL) /\ (1 : Nat) <= (9223372036854775807 : Nat) /\ (40 : Nat) <= (140737488355328 : Nat)
abbrev AMH (a : Nat) : Nat := a + (1 : Nat)
abbrev ANU (x : PaI) (a : Nat) : List Nt := QW x (AMH a)
abbrev Ie (x : PaI) (a : Nat) : Nat := (ANU x a).length
abbrev BVT (x : PaI) (a : Nat) : Prop := Ie x a = (1 : Nat)
abbrev DQ (a : Nat) (a1 : Nat) : Prop := (↑a : Int) = (↑a1 : Int)
abbrev AV (x : PaI) : Prop := (AB x).p.lo = (AB x).p.lo
abbrev AW (x : PaI) : Prop := (AB x).p.hi = (AB x).p.hi
abbrev aZ (x : PaI) : Prop := (AB x).ms.length = (AB x).ms.length
abbrev Ws (x : PaI) : Prop := ∀ (i : Nat), i < (AB x).ms.length -> (gD (AB x).ms i).pl = (gD (AB x).ms i).pl /\ (gD (AB x).ms i).ht = (gD (AB x).ms i).ht
abbrev cG (x : PaI) : Prop := (AB x).ns.length = (AB x).ns.length
abbrev Yr (x : PaI) : Prop := ∀ (i : Nat), i < (AB x).ns.length -> (gD (AB x).ns i).mi = (gD (AB x).ns i).mi /\ (gD (AB x).ns i).t.lo = (gD (AB x).ns i).t.lo /\ (gD (AB x).ns i).t.hi = (gD (AB x).ns
 i).t.hi /\ (gD (AB x).ns i).s.lo = (gD (AB x).ns i).s.lo /\ (gD (AB x).ns i).s.hi = (gD (AB x).ns i).s.hi
abbrev BI (x : PaI) : Prop := (HE x).t.length = (HE x).t.length
abbrev BH (x : PaI) : Prop := ∀ (i : Nat), i < (HE x).t.length -> gD (HE x).t i = gD (HE x).t i
abbrev BK (x : PaI) : Prop := (HE x).s.length = (HE x).s.length
abbrev BL (x : PaI) : Prop := ∀ (i : Nat), i < (HE x).s.length -> gD (HE x).s i = gD (HE x).s i
abbrev BM (x : PaI) : Prop := (HE x).z.length = (HE x).z.length
abbrev BJ (x : PaI) : Prop := ∀ (i : Nat), i < (HE x).z.length -> gD (HE x).z i = gD (HE x).z i
abbrev bR (x : PaI) : Prop := (UI x).t.lo = (UI x).t.lo
abbrev Zc (x : PaI) : Prop := (UI x).t.hi = (UI x).t.hi
abbrev cC (x : PaI) : Prop := (UI x).s.lo = (UI x).s.lo
abbrev cD (x : PaI) : Prop := (UI x).s.hi = (UI x).s.hi
abbrev ANN (i : Nat) (x : PaI) (a : Nat) : Prop := i < Ie x a
abbrev AOT (x : PaI) (a : Nat) (i : Nat) : Nt := gD (ANU x a) i
abbrev N0 (x : PaI) (a : Nat) (i : Nat) : Int := (AOT x a i).mi
abbrev BMA (x : PaI) (a : Nat) (i : Nat) : Span := (AOT x a i).t
abbrev xU (x : PaI) (a : Nat) (i : Nat) : Int := (BMA x a i).lo
abbrev E8 (x : PaI) (a : Nat) (i : Nat) : Int := (BMA x a i).hi
abbrev BSJ (x : PaI) (a : Nat) (i : Nat) : Span := (AOT x a i).s
abbrev yO (x : PaI) (a : Nat) (i : Nat) : Int := (BSJ x a i).lo
abbrev J1 (x : PaI) (a : Nat) (i : Nat) : Int := (BSJ x a i).hi
abbrev vF (x : PaI) (a : Nat) : Nat := (AB x).ns.length - a
abbrev BNH (a : Nat) (x : PaI) (a1 : Nat) : Prop := a < (AB x).ns.length /\ vF x a = vF x a1
abbrev xX (a : Nat) (x : PaI) (a1 : Nat) : Prop := BNH a x a1 /\ (1 : Nat) <= Ie x a
abbrev BUT (x : PaI) : Prop := AV x /\ AW x /\ (AB x).base = (AB x).base /\ (AB x).scale = (AB x).scale /\ (AB x).off = (AB x).off /\ aZ x /\ Ws x /\ cG x /\ Yr x /\ BI x /\
 BH x /\ BK x /\ BL x /\ BM x /\ BJ x /\ (UI x).mi = (UI x).mi /\ bR x /\ Zc x /\ cC x /\ cD x
abbrev BRP (a : Nat) (x : PaI) (a1 : Nat) : Prop := BNH a x a1 /\ ANU x a = []
abbrev Fb (a : Nat) (a1 : Nat) : Prop := (↑a : Int) = IntKind.i64.wrap ((↑a1 : Int) + (1 : Int))
abbrev BSS (x : PaI) (a : Nat) (a1 : Nat) : Prop := vF x a < vF x a1
abbrev BUP (x : PaI) (a : Nat) (a1 : Nat) : Prop := (QW x a).length = Ie x a1
abbrev BSO (a : Nat) (x : PaI) : Prop := a <= (AB x).ns.length /\ (1 : Nat) <= (QW x a).length
abbrev APF (x : PaI) (a : Nat) : Prop := ∀ (a_1 : Nat), xX a_1 x a -> ∃ (a_3 : Nat), (x.t = x.t /\ AY x = AY x /\ AP /\ BUP x a_3 a_1 /\ Fb a_3 a_1 /\ AV x /\ AW x /\ (AB x).base = (AB
 x).base /\ (AB x).scale = (AB x).scale /\ (AB x).off = (AB x).off /\ aZ x /\ Ws x /\ cG x /\ Yr x /\ BI x /\ BH x /\ BK x /\ BL x /\ BM x /\ BJ x /\ (UI x).mi = (UI x).mi /\
 bR x /\ Zc x /\ cC x /\ cD x /\ BUP x a_3 a_1 /\ ∀ (i : Nat), i < (QW x a_3).length -> (gD (QW x a_3) i).mi = N0 x a_1 i /\ (gD (QW x a_3) i).t.lo = xU x a_1 i /\ (gD (QW x a_3) i).t.hi =
 E8 x a_1 i /\ (gD (QW x a_3) i).s.lo = yO x a_1 i /\ (gD (QW x a_3) i).s.hi = J1 x a_1 i) /\ BSO a_3 x /\ BSS x a_3 a
abbrev BNR (x : PaI) : Prop := (AN x).p.lo = (AB x).p.lo
abbrev BQW (x : PaI) : Prop := (AN x).p.hi = (AB x).p.hi
abbrev BOH (x : PaI) : Prop := (AN x).ms.length = (AB x).ms.length
abbrev BSU (x : PaI) : Prop := ∀ (i : Nat), i < (AN x).ms.length -> (gD (AN x).ms i).pl = (gD (AB x).ms i).pl /\ (gD (AN x).ms i).ht = (gD (AB x).ms i).ht
abbrev BVB (x : PaI) : Prop := BI x /\ BH x /\ BK x /\ BL x /\ BM x /\ BJ x
abbrev BV (x : PaI) : Prop := (AN x).p.lo = (AN x).p.lo
abbrev BW (x : PaI) : Prop := (AN x).p.hi = (AN x).p.hi
abbrev Xy (x : PaI) : List Mk := AE (AN x).ms.length λ (i : Nat) => gD (AN x).ms i
abbrev NO (x : PaI) : Nat := (Xy x).length
abbrev L0 (x : PaI) : Prop := NO x = (AN x).ms.length
abbrev BVE (x : PaI) (i : Nat) : Mk := gD (Xy x) i
abbrev xO (x : PaI) : Prop := ∀ (i : Nat), i < NO x -> (BVE x i).pl = (gD (AN x).ms i).pl /\ (BVE x i).ht = (gD (AN x).ms i).ht
abbrev APM (x : PaI) : List Nt := AE (AN x).ns.length λ (i : Nat) => gD (AN x).ns i
abbrev vE (x : PaI) : Nat := (APM x).length
abbrev xS (x : PaI) : Prop := vE x = (AN x).ns.length
abbrev AOF (x : PaI) (i : Nat) : Nt := gD (APM x) i
abbrev BAK (x : PaI) (i : Nat) : Span := (AOF x i).t
abbrev BGH (x : PaI) (i : Nat) : Span := (AOF x i).s
abbrev Rk (x : PaI) : Prop := ∀ (i : Nat), i < vE x -> (AOF x i).mi = (gD (AN x).ns i).mi /\ (BAK x i).lo = (gD (AN x).ns i).t.lo /\ (BAK x i).hi = (gD (AN x).ns i).t.hi /\ (BGH x i).lo = (gD
 (AN x).ns i).s.lo /\ (BGH x i).hi = (gD (AN x).ns i).s.hi
abbrev BDT (x : PaI) : Prop := NO x < (1073741824 : Nat) /\ vE x < (1073741824 : Nat)
abbrev M4 : Prop := (0 : Int) <= (0 : Int)
abbrev ZM (x : PaI) : Int := IntKind.i64.wrap (AY x + (1 : Int))
abbrev AWY (x : PaI) : Prop := (0 : Int) <= ZM x
abbrev xH (x : PaI) : Prop := (0 : Int) <= AY x
abbrev BR (x : PaI) : Prop := (AN x).ms.length = (AN x).ms.length
abbrev BO (x : PaI) : Prop := ∀ (i : Nat), i < (AN x).ms.length -> (gD (AN x).ms i).pl = (gD (AN x).ms i).pl /\ (gD (AN x).ms i).ht = (gD (AN x).ms i).ht
abbrev BQ (x : PaI) : Prop := (AN x).ns.length = (AN x).ns.length
abbrev BP (x : PaI) : Prop := ∀ (i : Nat), i < (AN x).ns.length -> (gD (AN x).ns i).mi = (gD (AN x).ns i).mi /\ (gD (AN x).ns i).t.lo = (gD (AN x).ns i).t.lo /\ (gD (AN x).ns i).t.hi = (gD (AN x).ns i).t.hi /\
 (gD (AN x).ns i).s.lo = (gD (AN x).ns i).s.lo /\ (gD (AN x).ns i).s.hi = (gD (AN x).ns i).s.hi
abbrev AZJ (x : PaI) : Prop := (AB x).p.lo = (AN x).p.lo
abbrev BHT (x : PaI) : Prop := (AB x).p.hi = (AN x).p.hi
abbrev AZG (x : PaI) : Nat := (ZM x).toNat
abbrev yF (x : PaI) : Nat := AZG x - Int.toNat (0 : Int)
abbrev APU (i : Nat) : Nat := Int.toNat (0 : Int) + i
abbrev AWN (x : PaI) (i : Nat) : Mk := gD (Xy x) (APU i)
abbrev AVP (x : PaI) (i : Nat) : Nat := (AY x).toNat + i
abbrev ARU (x : PaI) (i : Nat) : Mk := gD (Xy x) (AVP x i)
abbrev AYA : Prop := AP /\ ED
abbrev AQZ (x : PaI) (a : Nat) : Prop := Db (AY x) (DK x) a = []
abbrev Jq (x : PaI) (a : Nat) : Prop := YB (AY x) (DK x) a = []
abbrev L1 (a : Nat) (x : PaI) : Prop := a <= (DK x).length /\ AQZ x a /\ Jq x a
abbrev BHA (a : Nat) (x : PaI) : Prop := (↑a : Int) < (↑(AN x).ns.length : Int)
abbrev Jd (a : Nat) (x : PaI) : Bool := decide (BHA a x)
abbrev Mm (a : Nat) (x : PaI) : Prop := BVA a /\ BHA a x
abbrev Uj (x : PaI) (a : Nat) : Bool := decide ((gD (AN x).ns a).mi <= AY x)
abbrev CS (x : PaI) : Prop := (PO x).length = (PO x).length
abbrev CV (x : PaI) : Prop := ∀ (i : Nat), i < (PO x).length -> (gD (PO x) i).pl = (gD (PO x) i).pl /\ (gD (PO x) i).ht = (gD (PO x) i).ht
abbrev J2 (x : PaI) (a : Nat) : List Nt := Db (AY x) (DK x) (AMH a)
abbrev KU (x : PaI) (a : Nat) : Nat := (J2 x a).length
abbrev Lm (x : PaI) (a : Nat) : Prop := KU x a = (1 : Nat)
abbrev CW (x : PaI) : Prop := (PQ x).length = (PQ x).length
abbrev CU (x : PaI) : Prop := ∀ (i : Nat), i < (PQ x).length -> (gD (PQ x) i).pl = (gD (PQ x) i).pl /\ (gD (PQ x) i).ht = (gD (PQ x) i).ht
abbrev Re (i : Nat) (x : PaI) (a : Nat) : Prop := i < KU x a
abbrev J5 (x : PaI) (a : Nat) (i : Nat) : Nt := gD (J2 x a) i
abbrev TK (x : PaI) (a : Nat) (i : Nat) : Int := (J5 x a i).mi
abbrev BCF (x : PaI) (a : Nat) (i : Nat) : Span := (J5 x a i).t
abbrev UA (x : PaI) (a : Nat) (i : Nat) : Int := (BCF x a i).lo
abbrev UC (x : PaI) (a : Nat) (i : Nat) : Int := (BCF x a i).hi
abbrev BFL (x : PaI) (a : Nat) (i : Nat) : Span := (J5 x a i).s
abbrev RS (x : PaI) (a : Nat) (i : Nat) : Int := (BFL x a i).lo
abbrev SY (x : PaI) (a : Nat) (i : Nat) : Int := (BFL x a i).hi
abbrev BIN (x : PaI) (a : Nat) (a1 : Nat) : Prop := ∀ (i : Nat), Re i x a -> TK x a i = (gD (AN x).ns a1).mi /\ UA x a i = (gD (AN x).ns a1).t.lo /\ UC x a i = (gD (AN x).ns a1).t.hi /\
 RS x a i = (gD (AN x).ns a1).s.lo /\ SY x a i = (gD (AN x).ns a1).s.hi
abbrev Bj (x : PaI) (a : Nat) (a1 : Nat) : Prop := (gD (DK x) a).mi = (gD (AN x).ns a1).mi /\ (gD (DK x) a).t.lo = (gD (AN x).ns a1).t.lo /\ (gD (DK x) a).t.hi = (gD (AN x).ns a1).t.hi /\ (gD (DK x) a).s.lo =
 (gD (AN x).ns a1).s.lo /\ (gD (DK x) a).s.hi = (gD (AN x).ns a1).s.hi
abbrev Vl (x : PaI) (a : Nat) : Nat := (DK x).length - a
abbrev LA (a : Nat) (x : PaI) (a1 : Nat) : Prop := a < (DK x).length /\ Vl x a = Vl x a1
abbrev Vs (x : PaI) (a : Nat) : Prop := Nat.le (1 : Nat) (KU x a)
abbrev Lo (a : Nat) (x : PaI) (a1 : Nat) : Prop := LA a x a1 /\ Vs x a /\ Jq x a
abbrev Jg (x : PaI) (a : Nat) : Prop := J2 x a = []
abbrev BDH (a : Nat) (x : PaI) (a1 : Nat) : Prop := LA a x a1 /\ Jg x a /\ Jq x a
abbrev Wg (x : PaI) (a : Nat) : Bool := decide ((gD (DK x) a).mi >= AY x)
abbrev I1 (x : PaI) (a : Nat) : List Nt := YB (AY x) (DK x) (AMH a)
abbrev RV (x : PaI) (a : Nat) : Nat := (I1 x a).length
abbrev M9 (x : PaI) (a : Nat) : Prop := RV x a = (1 : Nat)
abbrev K4 (i : Nat) (x : PaI) (a : Nat) : Prop := i < RV x a
abbrev I6 (x : PaI) (a : Nat) (i : Nat) : Nt := gD (I1 x a) i
abbrev Nf (x : PaI) (a : Nat) (i : Nat) : Int := (I6 x a i).mi
abbrev AVL (x : PaI) (a : Nat) : Int := IntKind.i64.wrap ((gD (DK x) a).mi - AY x)
abbrev AUY (x : PaI) (a : Nat) (i : Nat) : Span := (I6 x a i).t
abbrev Vp (x : PaI) (a : Nat) (i : Nat) : Int := (AUY x a i).lo
abbrev Mh (x : PaI) (a : Nat) (i : Nat) : Int := (AUY x a i).hi
abbrev AXD (x : PaI) (a : Nat) (i : Nat) : Span := (I6 x a i).s
abbrev Mj (x : PaI) (a : Nat) (i : Nat) : Int := (AXD x a i).lo
abbrev Mt (x : PaI) (a : Nat) (i : Nat) : Int := (AXD x a i).hi
abbrev ARF (x : PaI) (a : Nat) (a1 : Nat) : Prop := M9 x a /\ ∀ (i : Nat), K4 i x a -> Nf x a i = AVL x a1 /\ Vp x a i = (gD (DK x) a1).t.lo /\ Mh x a i = (gD (DK x) a1).t.hi /\
 Mj x a i = (gD (DK x) a1).s.lo /\ Mt x a i = (gD (DK x) a1).s.hi
abbrev AQO (x : PaI) (a : Nat) : Prop := Nat.le (1 : Nat) (RV x a)
abbrev Rg (a : Nat) (x : PaI) (a1 : Nat) : Prop := LA a x a1 /\ Jg x a /\ AQO x a
abbrev BHB (x : PaI) : Prop := BV x /\ BW x /\ (AN x).base = (AN x).base /\ (AN x).scale = (AN x).scale /\ (AN x).off = (AN x).off /\ BR x /\ BO x /\ BQ x /\ BP x /\ BI x /\
 BH x /\ BK x /\ BL x /\ BM x /\ BJ x /\ AV x /\ AW x /\ (AB x).base = (AB x).base /\ (AB x).scale = (AB x).scale /\ (AB x).off = (AB x).off /\ CS x /\ CV x /\ AP /\
 ED /\ AV x /\ AW x /\ (AB x).base = (AB x).base /\ (AB x).scale = (AB x).scale /\ (AB x).off = (AB x).off /\ CW x /\ CU x /\ AYA
abbrev BIQ (x : PaI) (a : Nat) : Prop := I1 x a = []
abbrev BHX (a : Nat) (x : PaI) (a1 : Nat) : Prop := LA a x a1 /\ Jg x a /\ BIQ x a
abbrev KP (x : PaI) (a : Nat) (a1 : Nat) : Prop := KU x a = KU x a1
abbrev Oa (x : PaI) (a : Nat) (a1 : Nat) : Prop := ∀ (i : Nat), Re i x a -> TK x a i = TK x a1 i /\ UA x a i = UA x a1 i /\ UC x a i = UC x a1 i /\ RS x a i = RS x
 a1 i /\ SY x a i = SY x a1 i
abbrev Mv (a : Nat) (x : PaI) (a1 : Nat) : Prop := LA a x a1 /\ Vs x a /\ AQO x a
abbrev ASS (a : Nat) (x : PaI) (a1 : Nat) : Prop := LA a x a1 /\ Vs x a /\ BIQ x a
abbrev E7 (x : PaI) (a : Nat) : Prop := ∀ (a_1 : Nat), Lo a_1 x a -> bif Wg x a_1 then Fj /\ ∃ (a_3 : Nat), (x.t = x.t /\ AY x = AY x /\ DQ a_3 a_1 /\ BV x /\ BW x /\ (AN x).base = (AN
 x).base /\ (AN x).scale = (AN x).scale /\ (AN x).off = (AN x).off /\ BR x /\ BO x /\ BQ x /\ BP x /\ BI x /\ BH x /\ BK x /\ BL x /\ BM x /\ BJ x /\ AV x /\ AW x /\
 (AB x).base = (AB x).base /\ (AB x).scale = (AB x).scale /\ (AB x).off = (AB x).off /\ CS x /\ CV x /\ AP /\ KP x a_3 a_1 /\ AV x /\ AW x /\ (AB x).base = (AB x).base /\ (AB
 x).scale = (AB x).scale /\ (AB x).off = (AB x).off /\ CW x /\ CU x /\ AP /\ M9 x a_3 /\ KP x a_3 a_1 /\ Oa x a_3 a_1 /\ ARF x a_3 a_1) /\ Mv a_3 x a else ∃ (a_3 : Nat), (x.t =
 x.t /\ AY x = AY x /\ DQ a_3 a_1 /\ BV x /\ BW x /\ (AN x).base = (AN x).base /\ (AN x).scale = (AN x).scale /\ (AN x).off = (AN x).off /\ BR x /\ BO x /\ BQ x /\ BP x /\ BI x /\
 BH x /\ BK x /\ BL x /\ BM x /\ BJ x /\ AV x /\ AW x /\ (AB x).base = (AB x).base /\ (AB x).scale = (AB x).scale /\ (AB x).off = (AB x).off /\ CS x /\ CV x /\ AP /\
 KP x a_3 a_1 /\ AV x /\ AW x /\ (AB x).base = (AB x).base /\ (AB x).scale = (AB x).scale /\ (AB x).off = (AB x).off /\ CW x /\ CU x /\ AP /\ ED /\ KP x a_3 a_1 /\ Oa x
 a_3 a_1) /\ ASS a_3 x a
abbrev Sv (x : PaI) (a : Nat) (a1 : Nat) : Prop := Vl x a < Vl x a1
abbrev Jr (x : PaI) (a : Nat) (a1 : Nat) : Prop := (Db (AY x) (DK x) a).length = KU x a1
abbrev BDY (i : Nat) (x : PaI) (a : Nat) : Prop := i < (Db (AY x) (DK x) a).length
abbrev tS (x : PaI) (a : Nat) (i : Nat) : Nt := gD (Db (AY x) (DK x) a) i
abbrev A8 (x : PaI) (a : Nat) (i : Nat) : Int := (tS x a i).mi
abbrev AZE (x : PaI) (a : Nat) (i : Nat) : Span := (tS x a i).t
abbrev xP (x : PaI) (a : Nat) (i : Nat) : Int := (AZE x a i).lo
abbrev C3 (x : PaI) (a : Nat) (i : Nat) : Int := (AZE x a i).hi
abbrev AVA (x : PaI) (a : Nat) (i : Nat) : Span := (tS x a i).s
abbrev yN (x : PaI) (a : Nat) (i : Nat) : Int := (AVA x a i).lo
abbrev zX (x : PaI) (a : Nat) (i : Nat) : Int := (AVA x a i).hi
abbrev AYH (x : PaI) (a : Nat) (a1 : Nat) : Prop := ∀ (i : Nat), BDY i x a -> A8 x a i = TK x a1 i /\ xP x a i = UA x a1 i /\ C3 x a i = UC x a1 i /\ yN x a i = RS x
 a1 i /\ zX x a i = SY x a1 i
abbrev BID (x : PaI) (a : Nat) : Prop := Nat.le (1 : Nat) (Db (AY x) (DK x) a).length
abbrev BHO (a : Nat) (x : PaI) : Prop := a <= (DK x).length /\ BID x a /\ Jq x a
abbrev BIB (x : PaI) (a : Nat) : Prop := ∀ (a_1 : Nat), ASS a_1 x a -> ∃ (a_3 : Nat), (x.t = x.t /\ AY x = AY x /\ Fb a_3 a_1 /\ BV x /\ BW x /\ (AN x).base = (AN x).base /\ (AN x).scale = (AN
 x).scale /\ (AN x).off = (AN x).off /\ BR x /\ BO x /\ BQ x /\ BP x /\ BI x /\ BH x /\ BK x /\ BL x /\ BM x /\ BJ x /\ AV x /\ AW x /\ (AB x).base = (AB x).base /\
 (AB x).scale = (AB x).scale /\ (AB x).off = (AB x).off /\ CS x /\ CV x /\ AP /\ Jr x a_3 a_1 /\ AV x /\ AW x /\ (AB x).base = (AB x).base /\ (AB x).scale = (AB x).scale /\ (AB
 x).off = (AB x).off /\ CW x /\ CU x /\ AP /\ ED /\ Jr x a_3 a_1 /\ AYH x a_3 a_1) /\ BHO a_3 x /\ Sv x a_3 a
abbrev wQ (x : PaI) (a : Nat) (a1 : Nat) : Prop := (YB (AY x) (DK x) a).length = RV x a1
abbrev zS (i : Nat) (x : PaI) (a : Nat) : Prop := i < (YB (AY x) (DK x) a).length
abbrev tX (x : PaI) (a : Nat) (i : Nat) : Nt := gD (YB (AY x) (DK x) a) i
abbrev Bn (x : PaI) (a : Nat) (i : Nat) : Int := (tX x a i).mi
abbrev BEG (x : PaI) (a : Nat) (i : Nat) : Span := (tX x a i).t
abbrev Ac (x : PaI) (a : Nat) (i : Nat) : Int := (BEG x a i).lo
abbrev Al (x : PaI) (a : Nat) (i : Nat) : Int := (BEG x a i).hi
abbrev BAP (x : PaI) (a : Nat) (i : Nat) : Span := (tX x a i).s
abbrev Cr (x : PaI) (a : Nat) (i : Nat) : Int := (BAP x a i).lo
abbrev ZU (x : PaI) (a : Nat) (i : Nat) : Int := (BAP x a i).hi
abbrev BGQ (x : PaI) (a : Nat) (a1 : Nat) : Prop := wQ x a a1 /\ ∀ (i : Nat), zS i x a -> Bn x a i = Nf x a1 i /\ Ac x a i = Vp x a1 i /\ Al x a i = Mh x a1 i /\ Cr x
 a i = Mj x a1 i /\ ZU x a i = Mt x a1 i
abbrev Jn (x : PaI) (a : Nat) : Prop := Nat.le (1 : Nat) (YB (AY x) (DK x) a).length
abbrev BIA (a : Nat) (x : PaI) : Prop := a <= (DK x).length /\ AQZ x a /\ Jn x a
abbrev F6 (x : PaI) (a : Nat) : Prop := ∀ (a_1 : Nat), Rg a_1 x a -> ∃ (a_3 : Nat), (x.t = x.t /\ AY x = AY x /\ Fb a_3 a_1 /\ BV x /\ BW x /\ (AN x).base = (AN x).base /\ (AN x).scale = (AN
 x).scale /\ (AN x).off = (AN x).off /\ BR x /\ BO x /\ BQ x /\ BP x /\ BI x /\ BH x /\ BK x /\ BL x /\ BM x /\ BJ x /\ AV x /\ AW x /\ (AB x).base = (AB x).base /\
 (AB x).scale = (AB x).scale /\ (AB x).off = (AB x).off /\ CS x /\ CV x /\ AP /\ ED /\ AV x /\ AW x /\ (AB x).base = (AB x).base /\ (AB x).scale = (AB x).scale /\ (AB x).off = (AB
 x).off /\ CW x /\ CU x /\ AP /\ wQ x a_3 a_1 /\ BGQ x a_3 a_1) /\ BIA a_3 x /\ Sv x a_3 a
abbrev AWG (a : Nat) (x : PaI) : Prop := a <= (DK x).length /\ BID x a /\ Jn x a
abbrev Sl (x : PaI) (a : Nat) : Prop := ∀ (a_1 : Nat), Mv a_1 x a -> ∃ (a_3 : Nat), (x.t = x.t /\ AY x = AY x /\ Fb a_3 a_1 /\ BV x /\ BW x /\ (AN x).base = (AN x).base /\ (AN x).scale = (AN
 x).scale /\ (AN x).off = (AN x).off /\ BR x /\ BO x /\ BQ x /\ BP x /\ BI x /\ BH x /\ BK x /\ BL x /\ BM x /\ BJ x /\ AV x /\ AW x /\ (AB x).base = (AB x).base /\
 (AB x).scale = (AB x).scale /\ (AB x).off = (AB x).off /\ CS x /\ CV x /\ AP /\ Jr x a_3 a_1 /\ AV x /\ AW x /\ (AB x).base = (AB x).base /\ (AB x).scale = (AB x).scale /\ (AB
 x).off = (AB x).off /\ CW x /\ CU x /\ AP /\ wQ x a_3 a_1 /\ Jr x a_3 a_1 /\ AYH x a_3 a_1 /\ BGQ x a_3 a_1) /\ AWG a_3 x /\ Sv x a_3 a
abbrev Lp (x : PaI) : Prop := (DP x).p.lo = (AB x).p.lo
abbrev Nz (x : PaI) : Prop := (DP x).p.hi = (AB x).p.hi
abbrev Uu (x : PaI) : Prop := (DP x).ms.length = (PO x).length
abbrev Tx (x : PaI) : Prop := ∀ (i : Nat), i < (DP x).ms.length -> (gD (DP x).ms i).pl = (gD (PO x) i).pl /\ (gD (DP x).ms i).ht = (gD (PO x) i).ht
abbrev Pp (x : PaI) : Prop := (DP x).ns.length = (0 : Nat)
abbrev AZY (x : PaI) : Prop := (DX x).p.lo = (AB x).p.lo
abbrev AXH (x : PaI) : Prop := (DX x).p.hi = (AB x).p.hi
abbrev ARM (x : PaI) : Prop := (DX x).ms.length = (PQ x).length
abbrev AXQ (x : PaI) : Prop := ∀ (i : Nat), i < (DX x).ms.length -> (gD (DX x).ms i).pl = (gD (PQ x) i).pl /\ (gD (DX x).ms i).ht = (gD (PQ x) i).ht
abbrev AUX (x : PaI) : Prop := (DX x).ns.length = (0 : Nat)
abbrev AVF (x : PaI) : Prop := AZY x /\ AXH x /\ (DX x).base = (AB x).base /\ (DX x).scale = (AB x).scale /\ (DX x).off = (AB x).off /\ ARM x /\ AXQ x /\ AUX x /\ AUX x
abbrev K9 : Prop := false = true -> AOL
abbrev zG (x : PaI) (a : Nat) : Nat := (Db (AY x) (DK x) a).length + (1 : Nat)
abbrev ASI (x : PaI) (a : Nat) : Prop := ((Db (AY x) (DK x) a).length = (Db (AY x) (DK x) a).length /\ ((0 : Nat) < (Db (AY x) (DK x) a).length -> wW)) /\ G1 /\ K9 /\ zG x a <=
 (9223372036854775807 : Nat) /\ zG x a * (40 : Nat) <= (140737488355328 : Nat)
abbrev Vc (x : PaI) (a : Nat) (a1 : Nat) : Prop := KU x a = zG x a1
abbrev Av (i : Nat) (x : PaI) (a : Nat) : Bool := decide (BDY i x a)
abbrev BGS (x : PaI) (a : Nat) (a1 : Nat) : Prop := ∀ (i : Nat), Re i x a -> (TK x a i = bif Av i x a1 then A8 x a1 i else (gD (AN x).ns a1).mi) /\ (UA x a i = bif Av i x a1 then
 xP x a1 i else (gD (AN x).ns a1).t.lo) /\ (UC x a i = bif Av i x a1 then C3 x a1 i else (gD (AN x).ns a1).t.hi) /\ (RS x a i = bif Av i x a1 then yN x a1 i else (gD (AN x).ns
 a1).s.lo) /\ SY x a i = bif Av i x a1 then zX x a1 i else (gD (AN x).ns a1).s.hi
abbrev Un (x : PaI) (a : Nat) (a1 : Nat) : Prop := KU x a = (Db (AY x) (DK x) a1).length
abbrev BCZ (x : PaI) (a : Nat) (a1 : Nat) : Prop := ∀ (i : Nat), Re i x a -> TK x a i = A8 x a1 i /\ UA x a i = xP x a1 i /\ UC x a i = C3 x a1 i /\ RS x a i = yN x
 a1 i /\ SY x a i = zX x a1 i
abbrev ART (x : PaI) (a : Nat) : Prop := (DP x).ns.length = (Db (AY x) (DK x) a).length
abbrev ASB (x : PaI) (a : Nat) : Prop := (0 : Nat) + (Db (AY x) (DK x) a).length <= (Db (AY x) (DK x) a).length
abbrev YC (j : Nat) : Nat := (0 : Nat) + j
abbrev wH (x : PaI) (a : Nat) (j : Nat) : Nt := gD (Db (AY x) (DK x) a) (YC j)
abbrev BGU (x : PaI) (a : Nat) (j : Nat) : Span := (wH x a j).t
abbrev BGC (x : PaI) (a : Nat) (j : Nat) : Span := (wH x a j).s
abbrev ASQ (x : PaI) (a : Nat) : Prop := ∀ (j : Nat), j < (DP x).ns.length -> (gD (DP x).ns j).mi = (wH x a j).mi /\ (gD (DP x).ns j).t.lo = (BGU x a j).lo /\ (gD (DP x).ns j).t.hi = (BGU x a j).hi
 /\ (gD (DP x).ns j).s.lo = (BGC x a j).lo /\ (gD (DP x).ns j).s.hi = (BGC x a j).hi
abbrev YV (x : PaI) (a : Nat) (a1 : Nat) : Prop := (YB (AY x) (DK x) a).length = (YB (AY x) (DK x) a1).length
abbrev Sj (x : PaI) (a : Nat) (a1 : Nat) : Prop := YV x a a1 /\ (∀ (i : Nat), zS i x a -> Bn x a i = Bn x a1 i /\ Ac x a i = Ac x a1 i /\ Al x a i = Al x a1 i /\ Cr
 x a i = Cr x a1 i /\ ZU x a i = ZU x a1 i) /\ Bj x a a1
abbrev Ml (a : Nat) (x : PaI) (a1 : Nat) : Prop := LA a x a1 /\ Vs x a /\ Jn x a
abbrev BCE (a : Nat) (x : PaI) (a1 : Nat) : Prop := LA a x a1 /\ Jg x a /\ Jn x a
abbrev uI (x : PaI) (a : Nat) : Nat := (YB (AY x) (DK x) a).length + (1 : Nat)
abbrev BFI (x : PaI) (a : Nat) : Prop := ((YB (AY x) (DK x) a).length = (YB (AY x) (DK x) a).length /\ ((0 : Nat) < (YB (AY x) (DK x) a).length -> wW)) /\ G1 /\ K9 /\ uI x a <=
 (9223372036854775807 : Nat) /\ uI x a * (40 : Nat) <= (140737488355328 : Nat)
abbrev M5 (x : PaI) (a : Nat) (a1 : Nat) : Prop := RV x a = uI x a1
abbrev ZN (i : Nat) (x : PaI) (a : Nat) : Bool := decide (zS i x a)
abbrev AUI (x : PaI) (a : Nat) (a1 : Nat) : Prop := M5 x a a1 /\ ∀ (i : Nat), K4 i x a -> (Nf x a i = bif ZN i x a1 then Bn x a1 i else AVL x a1) /\ (Vp x a i = bif ZN i x
 a1 then Ac x a1 i else (gD (DK x) a1).t.lo) /\ (Mh x a i = bif ZN i x a1 then Al x a1 i else (gD (DK x) a1).t.hi) /\ (Mj x a i = bif ZN i x a1 then Cr x a1 i else (gD (DK x)
 a1).s.lo) /\ Mt x a i = bif ZN i x a1 then ZU x a1 i else (gD (DK x) a1).s.hi
abbrev wF (x : PaI) (a : Nat) (a1 : Nat) : Prop := RV x a = (YB (AY x) (DK x) a1).length
abbrev BCH (x : PaI) (a : Nat) (a1 : Nat) : Prop := wF x a a1 /\ ∀ (i : Nat), K4 i x a -> Nf x a i = Bn x a1 i /\ Vp x a i = Ac x a1 i /\ Mh x a i = Al x a1 i /\ Mj x
 a i = Cr x a1 i /\ Mt x a i = ZU x a1 i
abbrev K0 (x : PaI) (a : Nat) : Prop := ∀ (a_1 : Nat), Ml a_1 x a -> bif Wg x a_1 then BFI x a_1 /\ ∃ (a_3 : Nat), (x.t = x.t /\ AY x = AY x /\ DQ a_3 a_1 /\ BV x /\ BW x /\ (AN x).base
 = (AN x).base /\ (AN x).scale = (AN x).scale /\ (AN x).off = (AN x).off /\ BR x /\ BO x /\ BQ x /\ BP x /\ BI x /\ BH x /\ BK x /\ BL x /\ BM x /\ BJ x /\ AV x /\ AW
 x /\ (AB x).base = (AB x).base /\ (AB x).scale = (AB x).scale /\ (AB x).off = (AB x).off /\ CS x /\ CV x /\ AP /\ KP x a_3 a_1 /\ AV x /\ AW x /\ (AB x).base = (AB x).base /\ (AB
 x).scale = (AB x).scale /\ (AB x).off = (AB x).off /\ CW x /\ CU x /\ AP /\ M5 x a_3 a_1 /\ KP x a_3 a_1 /\ Oa x a_3 a_1 /\ AUI x a_3 a_1) /\ Mv a_3 x a else ∃ (a_3 : Nat), (x.t
 = x.t /\ AY x = AY x /\ DQ a_3 a_1 /\ BV x /\ BW x /\ (AN x).base = (AN x).base /\ (AN x).scale = (AN x).scale /\ (AN x).off = (AN x).off /\ BR x /\ BO x /\ BQ x /\ BP x /\ BI x /\
 BH x /\ BK x /\ BL x /\ BM x /\ BJ x /\ AV x /\ AW x /\ (AB x).base = (AB x).base /\ (AB x).scale = (AB x).scale /\ (AB x).off = (AB x).off /\ CS x /\ CV x /\ AP /\
 KP x a_3 a_1 /\ AV x /\ AW x /\ (AB x).base = (AB x).base /\ (AB x).scale = (AB x).scale /\ (AB x).off = (AB x).off /\ CW x /\ CU x /\ AP /\ wF x a_3 a_1 /\ KP x a_3 a_1 /\
 Oa x a_3 a_1 /\ BCH x a_3 a_1) /\ Mv a_3 x a
abbrev AYU (x : PaI) (a : Nat) : Prop := Sl x a /\ Sl x a
abbrev uZ (x : PaI) (a : Nat) (j : Nat) : Nt := gD (YB (AY x) (DK x) a) (YC j)
abbrev BEZ (x : PaI) (a : Nat) (j : Nat) : Span := (uZ x a j).t
abbrev ATL (x : PaI) (a : Nat) (j : Nat) : Span := (uZ x a j).s
abbrev BHV (x : PaI) (a : Nat) : Prop := AZY x /\ AXH x /\ (DX x).base = (AB x).base /\ (DX x).scale = (AB x).scale /\ (DX x).off = (AB x).off /\ ARM x /\ AXQ x /\ (DX x).ns.length = (YB (AY
 x) (DK x) a).length /\ (0 : Nat) + (YB (AY x) (DK x) a).length <= (YB (AY x) (DK x) a).length /\ ∀ (j : Nat), j < (DX x).ns.length -> (gD (DX x).ns j).mi = (uZ x a j).mi /\ (gD (DX x).ns j).t.lo = (BEZ x
 a j).lo /\ (gD (DX x).ns j).t.hi = (BEZ x a j).hi /\ (gD (DX x).ns j).s.lo = (ATL x a j).lo /\ (gD (DX x).ns j).s.hi = (ATL x a j).hi
abbrev AQD (x : PaI) : Prop := NO x < (4611686018427387904 : Nat)
abbrev AZP (x : PaI) : Prop := vE x < (4611686018427387904 : Nat)
abbrev D9 : Prop := (0 : Nat) < (4611686018427387904 : Nat)
abbrev K1 (x : PaI) : Prop := (DP x).p.lo = (DP x).p.lo
abbrev A9 (x : PaI) : Prop := (DP x).p.hi = (DP x).p.hi
abbrev uO (x : PaI) : List Mk := AE (DP x).ms.length λ (i : Nat) => gD (DP x).ms i
abbrev tK (x : PaI) : Nat := (uO x).length
abbrev BBZ (x : PaI) : Prop := tK x = (DP x).ms.length
abbrev BDB (x : PaI) (i : Nat) : Mk := gD (uO x) i
abbrev AWW (x : PaI) : Prop := ∀ (i : Nat), i < tK x -> (BDB x i).pl = (gD (DP x).ms i).pl /\ (BDB x i).ht = (gD (DP x).ms i).ht
abbrev vI (x : PaI) : List Nt := AE (DP x).ns.length λ (i : Nat) => gD (DP x).ns i
abbrev xE (x : PaI) : Nat := (vI x).length
abbrev ATD (x : PaI) : Prop := xE x = (DP x).ns.length
abbrev B8 (x : PaI) (i : Nat) : Nt := gD (vI x) i
abbrev BHL (x : PaI) (i : Nat) : Span := (B8 x i).t
abbrev BEP (x : PaI) (i : Nat) : Span := (B8 x i).s
abbrev AUN (x : PaI) : Prop := ∀ (i : Nat), i < xE x -> (B8 x i).mi = (gD (DP x).ns i).mi /\ (BHL x i).lo = (gD (DP x).ns i).t.lo /\ (BHL x i).hi = (gD (DP x).ns i).t.hi /\ (BEP x i).lo =
 (gD (DP x).ns i).s.lo /\ (BEP x i).hi = (gD (DP x).ns i).s.hi
abbrev BEA (x : PaI) : Prop := tK x < (4611686018427387904 : Nat)
abbrev BEQ (x : PaI) : Prop := xE x < (4611686018427387904 : Nat)
abbrev C4 (x : PaI) : Prop := (DX x).p.lo = (DX x).p.lo
abbrev wK (x : PaI) : Prop := (DX x).p.hi = (DX x).p.hi
abbrev I4 (x : PaI) : List Mk := AE (DX x).ms.length λ (i : Nat) => gD (DX x).ms i
abbrev yI (x : PaI) : Nat := (I4 x).length
abbrev ARK (x : PaI) : Prop := yI x = (DX x).ms.length
abbrev AWR (x : PaI) (i : Nat) : Mk := gD (I4 x) i
abbrev BBW (x : PaI) : Prop := ∀ (i : Nat), i < yI x -> (AWR x i).pl = (gD (DX x).ms i).pl /\ (AWR x i).ht = (gD (DX x).ms i).ht
abbrev yL (x : PaI) : List Nt := AE (DX x).ns.length λ (i : Nat) => gD (DX x).ns i
abbrev uD (x : PaI) : Nat := (yL x).length
abbrev BHC (x : PaI) : Prop := uD x = (DX x).ns.length
abbrev F3 (x : PaI) (i : Nat) : Nt := gD (yL x) i
abbrev BDF (x : PaI) (i : Nat) : Span := (F3 x i).t
abbrev BEO (x : PaI) (i : Nat) : Span := (F3 x i).s
abbrev AVD (x : PaI) : Prop := ∀ (i : Nat), i < uD x -> (F3 x i).mi = (gD (DX x).ns i).mi /\ (BDF x i).lo = (gD (DX x).ns i).t.lo /\ (BDF x i).hi = (gD (DX x).ns i).t.hi /\ (BEO x i).lo =
 (gD (DX x).ns i).s.lo /\ (BEO x i).hi = (gD (DX x).ns i).s.hi
abbrev BBS (x : PaI) : Prop := yI x < (4611686018427387904 : Nat)
abbrev BCC (x : PaI) : Prop := uD x < (4611686018427387904 : Nat)
abbrev z_Pa_286 : List Int := AE (0 : Nat) λ (i : Nat) => default
abbrev BIS (x : PaI) : CZ := CZ.mk (Cht.mk (AN x).p (AN x).base (AN x).scale (AN x).off (Xy x) (APM x)) z_Pa_286
abbrev BBQ (x : PaI) : List Span × Int := Ci (BIS x)
abbrev ARY (x : PaI) : CZ := CZ.mk (Cht.mk (DP x).p (DP x).base (DP x).scale (DP x).off (uO x) (vI x)) z_Pa_286
abbrev AQR (x : PaI) : List Span × Int := Ci (ARY x)
abbrev AUM (x : PaI) : CZ := CZ.mk (Cht.mk (DX x).p (DX x).base (DX x).scale (DX x).off (I4 x) (yL x)) z_Pa_286
abbrev AYP (x : PaI) : List Span × Int := Ci (AUM x)
abbrev Vv (x : PaI) : List Span := (BBQ x).fst
abbrev SO (x : PaI) : Nat := (Vv x).length
abbrev BAN (x : PaI) : List Span := (AQR x).fst
abbrev tF (x : PaI) : Nat := (BAN x).length
abbrev BAG (x : PaI) : List Span := (AYP x).fst
abbrev tW (x : PaI) : Nat := (BAG x).length
abbrev BEC (x : PaI) : Bool := bif bif bif bif bif (BBQ x).snd != (0 : Int) then true else (AQR x).snd != (0 : Int) then true else (AYP x).snd != (0 : Int) then true else (↑(SO x) : Int) !=
 (↑(AN x).ms.length : Int) then true else (↑(tF x) : Int) != ZM x then true else (↑(tW x) : Int) != IntKind.i64.wrap ((↑(AN x).ms.length : Int) - AY x)
abbrev AZM (x : PaI) : Prop := (!BEC x) = true
abbrev A7 (x : PaI) (i : Nat) : Span := gD (Vv x) (APU i)
abbrev vX (x : PaI) : List Span := AE (yF x) λ (i : Nat) => A7 x i
abbrev BFE (x : PaI) : Nat := (AE (AZG x - (0 : Nat)) λ (i : Nat) => gD (Vv x) (YC i)).length
abbrev BGV (x : PaI) (i : Nat) : Span := gD (vX x) i
abbrev uK (x : PaI) (i : Nat) : Span := gD (BAN x) i
abbrev vT (x : PaI) : List Span := AE (tF x) λ (i : Nat) => uK x i
abbrev I0 (x : PaI) : Nat := (vT x).length
abbrev BJA (x : PaI) (i : Nat) : Span := gD (vT x) i
abbrev ARS (x : PaI) : Bool := bif BEC x then true else !samS (SS2.mk (vX x) (vT x))
abbrev ATA (x : PaI) : Prop := (!ARS x) = true
abbrev BBU (x : PaI) : Nat := SO x - (AY x).toNat
abbrev L3 (x : PaI) (i : Nat) : Span := gD (Vv x) (AVP x i)
abbrev wL (x : PaI) : List Span := AE (BBU x) λ (i : Nat) => L3 x i
abbrev zK (x : PaI) : Nat := (wL x).length
abbrev AWT (x : PaI) (i : Nat) : Span := gD (wL x) i
abbrev yP (x : PaI) (i : Nat) : Span := gD (BAG x) i
abbrev E6 (x : PaI) : List Span := AE (tW x) λ (i : Nat) => yP x i
abbrev vC (x : PaI) : Nat := (E6 x).length
abbrev BHG (x : PaI) (i : Nat) : Span := gD (E6 x) i
abbrev ATN (x : PaI) : Prop := BV x /\ BW x /\ (AN x).base = (AN x).base /\ (AN x).scale = (AN x).scale /\ (AN x).off = (AN x).off /\ BR x /\ BO x /\ BQ x /\ BP x /\ BI x /\
 BH x /\ BK x /\ BL x /\ BM x /\ BJ x /\ K1 x /\ A9 x /\ (DP x).base = (DP x).base /\ (DP x).scale = (DP x).scale /\ (DP x).off = (DP x).off /\ (DP x).ms.length = (DP x).ms.length /\ (∀
 (i : Nat), i < (DP x).ms.length -> (gD (DP x).ms i).pl = (gD (DP x).ms i).pl /\ (gD (DP x).ms i).ht = (gD (DP x).ms i).ht) /\ (DP x).ns.length = (DP x).ns.length /\ (∀ (i : Nat), i < (DP x).ns.length -> (gD (DP x).ns
 i).mi = (gD (DP x).ns i).mi /\ (gD (DP x).ns i).t.lo = (gD (DP x).ns i).t.lo /\ (gD (DP x).ns i).t.hi = (gD (DP x).ns i).t.hi /\ (gD (DP x).ns i).s.lo = (gD (DP x).ns i).s.lo /\ (gD (DP x).ns i).s.hi = (gD (DP x).ns
 i).s.hi) /\ C4 x /\ wK x /\ (DX x).base = (DX x).base /\ (DX x).scale = (DX x).scale /\ (DX x).off = (DX x).off /\ (DX x).ms.length = (DX x).ms.length /\ (∀ (i : Nat), i < (DX x).ms.length -> (gD (DX x).ms
 i).pl = (gD (DX x).ms i).pl /\ (gD (DX x).ms i).ht = (gD (DX x).ms i).ht) /\ (DX x).ns.length = (DX x).ns.length /\ ∀ (i : Nat), i < (DX x).ns.length -> (gD (DX x).ns i).mi = (gD (DX x).ns i).mi /\ (gD (DX x).ns
 i).t.lo = (gD (DX x).ns i).t.lo /\ (gD (DX x).ns i).t.hi = (gD (DX x).ns i).t.hi /\ (gD (DX x).ns i).s.lo = (gD (DX x).ns i).s.lo /\ (gD (DX x).ns i).s.hi = (gD (DX x).ns i).s.hi
abbrev AXW (x : PaI) : Prop := M4 /\ (0 : Int) < (↑(HE x).t.length : Int)
abbrev zE (x : PaI) : Int := IntKind.i64.wrap ((↑(HE x).t.length : Int) - (1 : Int))
abbrev BGT (x : PaI) : Int := gD (HE x).t (Int.toNat (0 : Int))
abbrev BET : Nat := z_Pa_286.length
abbrev TS : Prop := BET = (0 : Nat)
abbrev zZ : Prop := BET < (4611686018427387904 : Nat)
abbrev AXC (x : PaI) : Span × Int := CQ (CZI.mk (BIS x) (Ky x))
abbrev BIM (x : PaI) : Bool := (AXC x).snd == (0 : Int)
abbrev AYQ (x : PaI) : Span × Int := CQ (CZI.mk (AUM x) (Ky x))
abbrev BBM (x : PaI) : Span := (AXC x).fst
abbrev BFH (x : PaI) : Int := (BBM x).lo
abbrev AXV (x : PaI) : Span := (AYQ x).fst
abbrev BGM (x : PaI) : Int := (BBM x).hi
abbrev AWQ (x : PaI) : Span × Int := CQ (CZI.mk (ARY x) (Ky x))
abbrev BEY (x : PaI) : Span := (AWQ x).fst
abbrev BFQ (x : PaI) : Prop := ∀ (a : One), True -> (BV x /\ BW x /\ (AN x).base = (AN x).base /\ (AN x).scale = (AN x).scale /\ (AN x).off = (AN x).off /\ L0 x /\ xO x /\ xS x /\ Rk x /\
 BDT x /\ BV x /\ BW x /\ (AN x).base = (AN x).base /\ (AN x).scale = (AN x).scale /\ (AN x).off = (AN x).off /\ L0 x /\ xO x /\ xS x /\ Rk x /\ BDT x) /\ ((M4 /\ AWY x /\
 ZM x <= (↑(NO x) : Int)) /\ xH x /\ AY x <= (↑(NO x) : Int) /\ (↑(NO x) : Int) <= (↑(NO x) : Int)) /\ ((∃ (a : Nat), (x.t = x.t /\ AY x = AY x /\ BKX a /\ BV x /\ BW x /\ (AN x).base
 = (AN x).base /\ (AN x).scale = (AN x).scale /\ (AN x).off = (AN x).off /\ BR x /\ BO x /\ BQ x /\ BP x /\ BI x /\ BH x /\ BK x /\ BL x /\ BM x /\ BJ x /\ AZJ x /\
 BHT x /\ (AB x).base = (AN x).base /\ (AB x).scale = (AN x).scale /\ (AB x).off = (AN x).off /\ (PO x).length = yF x /\ (∀ (i : Nat), i < (PO x).length -> (gD (PO x) i).pl = (AWN x i).pl /\ (gD
 (PO x) i).ht = (AWN x i).ht) /\ AP /\ ED /\ AZJ x /\ BHT x /\ (AB x).base = (AN x).base /\ (AB x).scale = (AN x).scale /\ (AB x).off = (AN x).off /\ (PQ x).length = NO x - (AY x).toNat
 /\ (∀ (i : Nat), i < (PQ x).length -> (gD (PQ x) i).pl = (ARU x i).pl /\ (gD (PQ x) i).ht = (ARU x i).ht) /\ AYA) /\ L1 a x) /\ (∀ (a : Nat), L1 a x -> bif Jd a x then (Mm a x /\ (bif
 Uj x a then Fj /\ ∃ (a_2 : Nat), (x.t = x.t /\ AY x = AY x /\ DQ a_2 a /\ BV x /\ BW x /\ (AN x).base = (AN x).base /\ (AN x).scale = (AN x).scale /\ (AN x).off = (AN x).off /\ BR x /\
 BO x /\ BQ x /\ BP x /\ BI x /\ BH x /\ BK x /\ BL x /\ BM x /\ BJ x /\ AV x /\ AW x /\ (AB x).base = (AB x).base /\ (AB x).scale = (AB x).scale /\ (AB x).off =
 (AB x).off /\ CS x /\ CV x /\ AP /\ Lm x a_2 /\ AV x /\ AW x /\ (AB x).base = (AB x).base /\ (AB x).scale = (AB x).scale /\ (AB x).off = (AB x).off /\ CW x /\ CU x /\
 AP /\ ED /\ Lm x a_2 /\ BIN x a_2 a /\ Bj x a_2 a) /\ Lo a_2 x a else ∃ (a_2 : Nat), (x.t = x.t /\ AY x = AY x /\ DQ a_2 a /\ BV x /\ BW x /\ (AN x).base = (AN x).base /\ (AN
 x).scale = (AN x).scale /\ (AN x).off = (AN x).off /\ BR x /\ BO x /\ BQ x /\ BP x /\ BI x /\ BH x /\ BK x /\ BL x /\ BM x /\ BJ x /\ AV x /\ AW x /\ (AB x).base =
 (AB x).base /\ (AB x).scale = (AB x).scale /\ (AB x).off = (AB x).off /\ CS x /\ CV x /\ AP /\ ED /\ AV x /\ AW x /\ (AB x).base = (AB x).base /\ (AB x).scale = (AB x).scale /\
 (AB x).off = (AB x).off /\ CW x /\ CU x /\ AP /\ ED /\ Bj x a_2 a) /\ BDH a_2 x a) /\ (∀ (a_2 : Nat), BDH a_2 x a -> bif Wg x a_2 then Fj /\ ∃ (a_4 : Nat), (x.t = x.t /\ AY x =
 AY x /\ DQ a_4 a_2 /\ BV x /\ BW x /\ (AN x).base = (AN x).base /\ (AN x).scale = (AN x).scale /\ (AN x).off = (AN x).off /\ BR x /\ BO x /\ BQ x /\ BP x /\ BI x /\ BH x /\
 BK x /\ BL x /\ BM x /\ BJ x /\ AV x /\ AW x /\ (AB x).base = (AB x).base /\ (AB x).scale = (AB x).scale /\ (AB x).off = (AB x).off /\ CS x /\ CV x /\ AP /\ ED /\
 AV x /\ AW x /\ (AB x).base = (AB x).base /\ (AB x).scale = (AB x).scale /\ (AB x).off = (AB x).off /\ CW x /\ CU x /\ AP /\ M9 x a_4 /\ ARF x a_4 a_2) /\ Rg a_4 x a else ∃
 (a_4 : Nat), (x.t = x.t /\ AY x = AY x /\ DQ a_4 a_2 /\ BHB x) /\ BHX a_4 x a) /\ E7 x a) /\ (∀ (a_2 : Nat), BHX a_2 x a -> ∃ (a_4 : Nat), (x.t = x.t /\ AY x = AY x /\ Fb a_4 a_2 /\ BHB x) /\
 L1 a_4 x /\ Sv x a_4 a) /\ BIB x a /\ F6 x a /\ Sl x a else ∃ (a : One), (x.t = x.t /\ AY x = AY x /\ BV x /\ BW x /\ (AN x).base = (AN x).base /\ (AN x).scale = (AN x).scale /\ (AN
 x).off = (AN x).off /\ BR x /\ BO x /\ BQ x /\ BP x /\ BI x /\ BH x /\ BK x /\ BL x /\ BM x /\ BJ x /\ Lp x /\ Nz x /\ (DP x).base = (AB x).base /\ (DP x).scale =
 (AB x).scale /\ (DP x).off = (AB x).off /\ Uu x /\ Tx x /\ Pp x /\ Pp x /\ AVF x) /\ True) /\ (∀ (a : Nat), BHO a x -> bif Jd a x then (Mm a x /\ (bif Uj x a then ASI x
 a /\ ∃ (a_2 : Nat), (x.t = x.t /\ AY x = AY x /\ DQ a_2 a /\ BV x /\ BW x /\ (AN x).base = (AN x).base /\ (AN x).scale = (AN x).scale /\ (AN x).off = (AN x).off /\ BR x /\ BO x /\ BQ x /\
 BP x /\ BI x /\ BH x /\ BK x /\ BL x /\ BM x /\ BJ x /\ AV x /\ AW x /\ (AB x).base = (AB x).base /\ (AB x).scale = (AB x).scale /\ (AB x).off = (AB x).off /\ CS x /\
 CV x /\ AP /\ Vc x a_2 a /\ AV x /\ AW x /\ (AB x).base = (AB x).base /\ (AB x).scale = (AB x).scale /\ (AB x).off = (AB x).off /\ CW x /\ CU x /\ AP /\ ED /\ Vc x
 a_2 a /\ BGS x a_2 a /\ Bj x a_2 a) /\ Lo a_2 x a else ∃ (a_2 : Nat), (x.t = x.t /\ AY x = AY x /\ DQ a_2 a /\ BV x /\ BW x /\ (AN x).base = (AN x).base /\ (AN x).scale = (AN x).scale /\ (AN
 x).off = (AN x).off /\ BR x /\ BO x /\ BQ x /\ BP x /\ BI x /\ BH x /\ BK x /\ BL x /\ BM x /\ BJ x /\ AV x /\ AW x /\ (AB x).base = (AB x).base /\ (AB x).scale =
 (AB x).scale /\ (AB x).off = (AB x).off /\ CS x /\ CV x /\ AP /\ Un x a_2 a /\ AV x /\ AW x /\ (AB x).base = (AB x).base /\ (AB x).scale = (AB x).scale /\ (AB x).off = (AB x).off
 /\ CW x /\ CU x /\ AP /\ ED /\ Un x a_2 a /\ BCZ x a_2 a /\ Bj x a_2 a) /\ Lo a_2 x a) /\ E7 x a /\ E7 x a) /\ BIB x a /\ Sl x a else ∃ (a_2 : One), (x.t = x.t /\
 AY x = AY x /\ BV x /\ BW x /\ (AN x).base = (AN x).base /\ (AN x).scale = (AN x).scale /\ (AN x).off = (AN x).off /\ BR x /\ BO x /\ BQ x /\ BP x /\ BI x /\ BH x /\ BK x /\
 BL x /\ BM x /\ BJ x /\ Lp x /\ Nz x /\ (DP x).base = (AB x).base /\ (DP x).scale = (AB x).scale /\ (DP x).off = (AB x).off /\ Uu x /\ Tx x /\ ART x a /\ ASB x a /\ ASQ
 x a /\ AVF x) /\ True) /\ (∀ (a : Nat), BIA a x -> bif Jd a x then (Mm a x /\ (bif Uj x a then Fj /\ ∃ (a_2 : Nat), (x.t = x.t /\ AY x = AY x /\ DQ a_2 a /\ BV x /\ BW x /\ (AN
 x).base = (AN x).base /\ (AN x).scale = (AN x).scale /\ (AN x).off = (AN x).off /\ BR x /\ BO x /\ BQ x /\ BP x /\ BI x /\ BH x /\ BK x /\ BL x /\ BM x /\ BJ x /\ AV x /\
 AW x /\ (AB x).base = (AB x).base /\ (AB x).scale = (AB x).scale /\ (AB x).off = (AB x).off /\ CS x /\ CV x /\ AP /\ Lm x a_2 /\ AV x /\ AW x /\ (AB x).base = (AB x).base /\
 (AB x).scale = (AB x).scale /\ (AB x).off = (AB x).off /\ CW x /\ CU x /\ AP /\ YV x a_2 a /\ Lm x a_2 /\ BIN x a_2 a /\ Sj x a_2 a) /\ Ml a_2 x a else ∃ (a_2 : Nat), (x.t =
 x.t /\ AY x = AY x /\ DQ a_2 a /\ BV x /\ BW x /\ (AN x).base = (AN x).base /\ (AN x).scale = (AN x).scale /\ (AN x).off = (AN x).off /\ BR x /\ BO x /\ BQ x /\ BP x /\ BI x /\
 BH x /\ BK x /\ BL x /\ BM x /\ BJ x /\ AV x /\ AW x /\ (AB x).base = (AB x).base /\ (AB x).scale = (AB x).scale /\ (AB x).off = (AB x).off /\ CS x /\ CV x /\ AP /\
 ED /\ AV x /\ AW x /\ (AB x).base = (AB x).base /\ (AB x).scale = (AB x).scale /\ (AB x).off = (AB x).off /\ CW x /\ CU x /\ AP /\ YV x a_2 a /\ Sj x a_2 a) /\ BCE a_2 x
 a) /\ (∀ (a_2 : Nat), BCE a_2 x a -> bif Wg x a_2 then BFI x a_2 /\ ∃ (a_4 : Nat), (x.t = x.t /\ AY x = AY x /\ DQ a_4 a_2 /\ BV x /\ BW x /\ (AN x).base = (AN x).base /\ (AN x).scale = (AN
 x).scale /\ (AN x).off = (AN x).off /\ BR x /\ BO x /\ BQ x /\ BP x /\ BI x /\ BH x /\ BK x /\ BL x /\ BM x /\ BJ x /\ AV x /\ AW x /\ (AB x).base = (AB x).base /\
 (AB x).scale = (AB x).scale /\ (AB x).off = (AB x).off /\ CS x /\ CV x /\ AP /\ ED /\ AV x /\ AW x /\ (AB x).base = (AB x).base /\ (AB x).scale = (AB x).scale /\ (AB x).off = (AB
 x).off /\ CW x /\ CU x /\ AP /\ M5 x a_4 a_2 /\ AUI x a_4 a_2) /\ Rg a_4 x a else ∃ (a_4 : Nat), (x.t = x.t /\ AY x = AY x /\ DQ a_4 a_2 /\ BV x /\ BW x /\ (AN x).base = (AN
 x).base /\ (AN x).scale = (AN x).scale /\ (AN x).off = (AN x).off /\ BR x /\ BO x /\ BQ x /\ BP x /\ BI x /\ BH x /\ BK x /\ BL x /\ BM x /\ BJ x /\ AV x /\ AW x /\
 (AB x).base = (AB x).base /\ (AB x).scale = (AB x).scale /\ (AB x).off = (AB x).off /\ CS x /\ CV x /\ AP /\ ED /\ AV x /\ AW x /\ (AB x).base = (AB x).base /\ (AB x).scale = (AB
 x).scale /\ (AB x).off = (AB x).off /\ CW x /\ CU x /\ AP /\ wF x a_4 a_2 /\ BCH x a_4 a_2) /\ Rg a_4 x a) /\ K0 x a) /\ F6 x a /\ F6 x a /\ AYU x a else ∃ (a_2 : One),
 (x.t = x.t /\ AY x = AY x /\ BV x /\ BW x /\ (AN x).base = (AN x).base /\ (AN x).scale = (AN x).scale /\ (AN x).off = (AN x).off /\ BR x /\ BO x /\ BQ x /\ BP x /\ BI x /\ BH x /\
 BK x /\ BL x /\ BM x /\ BJ x /\ Lp x /\ Nz x /\ (DP x).base = (AB x).base /\ (DP x).scale = (AB x).scale /\ (DP x).off = (AB x).off /\ Uu x /\ Tx x /\ Pp x /\ Pp x /\
 BHV x a) /\ True) /\ ∀ (a : Nat), AWG a x -> bif Jd a x then (Mm a x /\ (bif Uj x a then ASI x a /\ ∃ (a_2 : Nat), (x.t = x.t /\ AY x = AY x /\ DQ a_2 a /\ BV x /\ BW x /\ (AN
 x).base = (AN x).base /\ (AN x).scale = (AN x).scale /\ (AN x).off = (AN x).off /\ BR x /\ BO x /\ BQ x /\ BP x /\ BI x /\ BH x /\ BK x /\ BL x /\ BM x /\ BJ x /\ AV x /\
 AW x /\ (AB x).base = (AB x).base /\ (AB x).scale = (AB x).scale /\ (AB x).off = (AB x).off /\ CS x /\ CV x /\ AP /\ Vc x a_2 a /\ AV x /\ AW x /\ (AB x).base = (AB x).base /\
 (AB x).scale = (AB x).scale /\ (AB x).off = (AB x).off /\ CW x /\ CU x /\ AP /\ YV x a_2 a /\ Vc x a_2 a /\ BGS x a_2 a /\ Sj x a_2 a) /\ Ml a_2 x a else ∃ (a_2 : Nat), (x.t =
 x.t /\ AY x = AY x /\ DQ a_2 a /\ BV x /\ BW x /\ (AN x).base = (AN x).base /\ (AN x).scale = (AN x).scale /\ (AN x).off = (AN x).off /\ BR x /\ BO x /\ BQ x /\ BP x /\ BI x /\
 BH x /\ BK x /\ BL x /\ BM x /\ BJ x /\ AV x /\ AW x /\ (AB x).base = (AB x).base /\ (AB x).scale = (AB x).scale /\ (AB x).off = (AB x).off /\ CS x /\ CV x /\ AP /\
 Un x a_2 a /\ AV x /\ AW x /\ (AB x).base = (AB x).base /\ (AB x).scale = (AB x).scale /\ (AB x).off = (AB x).off /\ CW x /\ CU x /\ AP /\ YV x a_2 a /\ Un x a_2 a /\
 BCZ x a_2 a /\ Sj x a_2 a) /\ Ml a_2 x a) /\ K0 x a /\ K0 x a) /\ AYU x a else ∃ (a_2 : One), (x.t = x.t /\ AY x = AY x /\ BV x /\ BW x /\ (AN x).base = (AN x).base /\ (AN x).scale
 = (AN x).scale /\ (AN x).off = (AN x).off /\ BR x /\ BO x /\ BQ x /\ BP x /\ BI x /\ BH x /\ BK x /\ BL x /\ BM x /\ BJ x /\ Lp x /\ Nz x /\ (DP x).base = (AB
 x).base /\ (DP x).scale = (AB x).scale /\ (DP x).off = (AB x).off /\ Uu x /\ Tx x /\ ART x a /\ ASB x a /\ ASQ x a /\ BHV x a) /\ True) /\ ∀ (a : One), True -> (BV x /\ BW x /\ (AN
 x).base = (AN x).base /\ (AN x).scale = (AN x).scale /\ (AN x).off = (AN x).off /\ L0 x /\ xO x /\ xS x /\ Rk x /\ AP /\ AP /\ AQD x /\ AZP x /\ D9) /\ (K1 x /\ A9 x /\
 (DP x).base = (DP x).base /\ (DP x).scale = (DP x).scale /\ (DP x).off = (DP x).off /\ BBZ x /\ AWW x /\ ATD x /\ AUN x /\ AP /\ AP /\ BEA x /\ BEQ x /\ D9) /\ (C4 x /\
 wK x /\ (DX x).base = (DX x).base /\ (DX x).scale = (DX x).scale /\ (DX x).off = (DX x).off /\ ARK x /\ BBW x /\ BHC x /\ AVD x /\ AP /\ AP /\ BBS x /\ BCC x /\ D9) /\
 (((AZM x -> M4 /\ AWY x /\ ZM x <= (↑(SO x) : Int)) /\ (AZM x -> (vX x).length = yF x /\ (∀ (i : Nat), i < BFE x -> (BGV x i).lo = (A7 x i).lo /\ (BGV x i).hi =
 (A7 x i).hi) /\ I0 x = tF x /\ (∀ (i : Nat), i < I0 x -> (BJA x i).lo = (uK x i).lo /\ (BJA x i).hi = (uK x i).hi) /\ BFE x < (4611686018427387904 : Nat) /\ I0 x <
 (4611686018427387904 : Nat)) /\ (ATA x -> xH x /\ AY x <= (↑(SO x) : Int) /\ (↑(SO x) : Int) <= (↑(SO x) : Int)) /\ (ATA x -> zK x = BBU x /\ (∀ (i : Nat), i < zK x -> (AWT
 x i).lo = (L3 x i).lo /\ (AWT x i).hi = (L3 x i).hi) /\ vC x = tW x /\ (∀ (i : Nat), i < vC x -> (BHG x i).lo = (yP x i).lo /\ (BHG x i).hi = (yP x i).hi) /\ zK x
 < (4611686018427387904 : Nat) /\ vC x < (4611686018427387904 : Nat))) /\ bif bif ARS x then true else !samS (SS2.mk (wL x) (E6 x)) then true = false else ∃ (a : One), (x.t = x.t /\ AY x = AY x /\
 ATN x) /\ True) /\ ∀ (a : One), True -> ((AXW x /\ ((0 : Int) <= zE x /\ zE x < (↑(HE x).t.length : Int)) /\ AXW x) /\ ∃ (a : One), (AY x = AY x /\ Ky x = IntKind.i64.wrap (BGT x + JS x.t
 (IntKind.i64.wrap (IntKind.i64.wrap (gD (HE x).t (zE x).toNat - BGT x) + (1 : Int)))) /\ ATN x) /\ True) /\ ∀ (a : One), True -> (BV x /\ BW x /\ (AN x).base = (AN x).base /\ (AN x).scale = (AN
 x).scale /\ (AN x).off = (AN x).off /\ L0 x /\ xO x /\ xS x /\ Rk x /\ TS /\ TS /\ Ky x = Ky x /\ AQD x /\ AZP x /\ zZ) /\ (xH x /\ AY x < (↑(HE x).t.length : Int)) /\ bif
 decide (Ky x > gD (HE x).t (AY x).toNat) then (C4 x /\ wK x /\ (DX x).base = (DX x).base /\ (DX x).scale = (DX x).scale /\ (DX x).off = (DX x).off /\ ARK x /\ BBW x /\ BHC x /\ AVD x /\
 TS /\ TS /\ Ky x = Ky x /\ BBS x /\ BCC x /\ zZ) /\ true = bif bif bif BIM x then (AYQ x).snd == (0 : Int) else false then BFH x == (AXV x).lo && (BGM x == (AXV x).hi
 && true) else false then true else false else (K1 x /\ A9 x /\ (DP x).base = (DP x).base /\ (DP x).scale = (DP x).scale /\ (DP x).off = (DP x).off /\ BBZ x /\ AWW x /\ ATD x /\ AUN x /\
 TS /\ TS /\ Ky x = Ky x /\ BEA x /\ BEQ x /\ zZ) /\ true = bif bif bif BIM x then (AWQ x).snd == (0 : Int) else false then BFH x == (BEY x).lo && (BGM x == (BEY x).hi
 && true) else false then true else false
abbrev OQ (x : PaI) (a : Nat) : Nat := (QW x a).length + (1 : Nat)
abbrev AXS (x : PaI) (a : Nat) : Prop := ((QW x a).length = (QW x a).length /\ ((0 : Nat) < (QW x a).length -> wW)) /\ G1 /\ K9 /\ OQ x a <= (9223372036854775807 : Nat) /\ OQ x a * (40 : Nat)
 <= (140737488355328 : Nat)
abbrev BCS (x : PaI) (a : Nat) (a1 : Nat) : Prop := Ie x a = OQ x a1
abbrev ZK (i : Nat) (x : PaI) (a : Nat) : Bool := decide (i < (QW x a).length)
abbrev AZZ (x : PaI) (a : Nat) (a1 : Nat) : Prop := Ie x a = (QW x a1).length
abbrev YS (j : Nat) (x : PaI) (a : Nat) : Bool := decide (YC j < (QW x a).length)
abbrev zV (x : PaI) (a : Nat) (j : Nat) : Nt := gD (QW x a) (YC j)
abbrev BAX (x : PaI) (a : Nat) (j : Nat) : Span := (zV x a j).t
abbrev AWI (x : PaI) (a : Nat) (j : Nat) : Span := (zV x a j).s
theorem DAX (x : PaI) : (V_Pa x) = ((ARC x = x.bs.length /\ (∀ (i : Nat), i < ARC x -> BVQ x i = gD x.bs i) /\ (12 : Int) = Int.ofNat (12 : Nat) /\ false = false /\ CAN x = ARC x /\ (∀ (i : Nat), i < CAN x
 -> gD (BLE x) i = BVQ x i) /\ CBZ /\ CBZ /\ (StmB (0 : Int) (CAT x) /\ (1 : Int) <= (12 : Int) /\ (12 : Int) <= (14 : Int)) /\ false = false) /\ (BNM x /\ BNM x /\ BSF x /\ BSF x) /\ (∃ (a : Nat), (x.t =
 x.t /\ AY x = Ex x /\ AP /\ ED /\ BKX a /\ (AB x).p.lo = (BRD x).lo /\ (AB x).p.hi = (BRD x).hi /\ (AB x).base = (pN x).base /\ (AB x).scale = (pN x).scale /\ (AB x).off = (pN
 x).off /\ (AB x).ms.length = BOQ x /\ (∀ (i : Nat), i < (AB x).ms.length -> (gD (AB x).ms i).pl = (BPA x i).pl /\ (gD (AB x).ms i).ht = (BPA x i).ht) /\ (AB x).ns.length = (BME x).length /\ (∀ (i :
 Nat), i < (AB x).ns.length -> (gD (AB x).ns i).mi = (ANX x i).mi /\ (gD (AB x).ns i).t.lo = (BMO x i).lo /\ (gD (AB x).ns i).t.hi = (BMO x i).hi /\ (gD (AB x).ns i).s.lo = (BNA x i).lo /\ (gD (AB
 x).ns i).s.hi = (BNA x i).hi) /\ (HE x).t.length = BOM x /\ (∀ (i : Nat), i < (HE x).t.length -> gD (HE x).t i = gD (AOR x) i) /\ (HE x).s.length = BLK x /\ (∀ (i : Nat), i < (HE x).s.length -> gD (HE
 x).s i = gD (ANT x) i) /\ (HE x).z.length = (BUB x).length /\ (∀ (i : Nat), i < (HE x).z.length -> gD (HE x).z i = gD (BUB x) i) /\ (UI x).mi = Ex x /\ (UI x).t.lo = BPK x /\ (UI x).t.hi = BPK x
 /\ (UI x).s.lo = BRN x /\ (UI x).s.hi = BRN x) /\ APD a x) /\ (∀ (a : Nat), APD a x -> bif BTK a x then (M8 a x /\ bif BMU x a then (M8 a x /\ Fj) /\ ∃ (a_2 : Nat), (x.t = x.t /\ AY x =
 AY x /\ AP /\ BVT x a_2 /\ DQ a_2 a /\ AV x /\ AW x /\ (AB x).base = (AB x).base /\ (AB x).scale = (AB x).scale /\ (AB x).off = (AB x).off /\ aZ x /\ Ws x /\ cG x /\ Yr x /\
 BI x /\ BH x /\ BK x /\ BL x /\ BM x /\ BJ x /\ (UI x).mi = (UI x).mi /\ bR x /\ Zc x /\ cC x /\ cD x /\ BVT x a_2 /\ ∀ (i : Nat), ANN i x a_2 -> N0 x a_2 i = (gD (AB
 x).ns a).mi /\ xU x a_2 i = (gD (AB x).ns a).t.lo /\ E8 x a_2 i = (gD (AB x).ns a).t.hi /\ yO x a_2 i = (gD (AB x).ns a).s.lo /\ J1 x a_2 i = (gD (AB x).ns a).s.hi) /\ xX a_2 x a else ∃ (a_2 :
 Nat), (x.t = x.t /\ AY x = AY x /\ AP /\ ED /\ DQ a_2 a /\ BUT x) /\ BRP a_2 x a) /\ (∀ (a_2 : Nat), BRP a_2 x a -> ∃ (a_4 : Nat), (x.t = x.t /\ AY x = AY x /\ AP /\ ED /\ Fb a_4 a_2 /\
 BUT x) /\ APD a_4 x /\ BSS x a_4 a) /\ APF x a else Fj /\ (∃ (a : One), (x.t = x.t /\ AY x = AY x /\ BNR x /\ BQW x /\ (AN x).base = (AB x).base /\ (AN x).scale = (AB x).scale /\ (AN x).off =
 (AB x).off /\ BOH x /\ BSU x /\ (AN x).ns.length = (1 : Nat) /\ BTN /\ (∀ (j : Nat), j < (AN x).ns.length -> (gD (AN x).ns j).mi = (UI x).mi /\ (gD (AN x).ns j).t.lo = (UI x).t.lo /\ (gD (AN x).ns j).t.hi =
 (UI x).t.hi /\ (gD (AN x).ns j).s.lo = (UI x).s.lo /\ (gD (AN x).ns j).s.hi = (UI x).s.hi) /\ BVB x) /\ True) /\ BFQ x) /\ ∀ (a : Nat), BSO a x -> bif BTK a x then (M8 a x /\ bif BMU x a then
 (M8 a x /\ AXS x a) /\ ∃ (a_2 : Nat), (x.t = x.t /\ AY x = AY x /\ AP /\ BCS x a_2 a /\ DQ a_2 a /\ AV x /\ AW x /\ (AB x).base = (AB x).base /\ (AB x).scale = (AB x).scale /\ (AB
 x).off = (AB x).off /\ aZ x /\ Ws x /\ cG x /\ Yr x /\ BI x /\ BH x /\ BK x /\ BL x /\ BM x /\ BJ x /\ (UI x).mi = (UI x).mi /\ bR x /\ Zc x /\ cC x /\ cD x /\
 BCS x a_2 a /\ ∀ (i : Nat), ANN i x a_2 -> (N0 x a_2 i = bif ZK i x a then (gD (QW x a) i).mi else (gD (AB x).ns a).mi) /\ (xU x a_2 i = bif ZK i x a then (gD (QW x a) i).t.lo else (gD
 (AB x).ns a).t.lo) /\ (E8 x a_2 i = bif ZK i x a then (gD (QW x a) i).t.hi else (gD (AB x).ns a).t.hi) /\ (yO x a_2 i = bif ZK i x a then (gD (QW x a) i).s.lo else (gD (AB x).ns a).s.lo) /\
 J1 x a_2 i = bif ZK i x a then (gD (QW x a) i).s.hi else (gD (AB x).ns a).s.hi) /\ xX a_2 x a else ∃ (a_2 : Nat), (x.t = x.t /\ AY x = AY x /\ AP /\ AZZ x a_2 a /\ DQ a_2 a /\ AV x /\
 AW x /\ (AB x).base = (AB x).base /\ (AB x).scale = (AB x).scale /\ (AB x).off = (AB x).off /\ aZ x /\ Ws x /\ cG x /\ Yr x /\ BI x /\ BH x /\ BK x /\ BL x /\ BM x /\
 BJ x /\ (UI x).mi = (UI x).mi /\ bR x /\ Zc x /\ cC x /\ cD x /\ AZZ x a_2 a /\ ∀ (i : Nat), ANN i x a_2 -> N0 x a_2 i = (gD (QW x a) i).mi /\ xU x a_2 i = (gD (QW x a) i).t.lo /\
 E8 x a_2 i = (gD (QW x a) i).t.hi /\ yO x a_2 i = (gD (QW x a) i).s.lo /\ J1 x a_2 i = (gD (QW x a) i).s.hi) /\ xX a_2 x a) /\ APF x a /\ APF x a else AXS x a /\ (bif decide ((↑(OQ x
 a) : Int) > (20 : Int)) then true = true else ∃ (a_2 : One), (x.t = x.t /\ AY x = AY x /\ BNR x /\ BQW x /\ (AN x).base = (AB x).base /\ (AN x).scale = (AB x).scale /\ (AN x).off = (AB x).off /\ BOH x /\
 BSU x /\ (AN x).ns.length = OQ x a /\ (0 : Nat) + OQ x a <= OQ x a /\ (∀ (j : Nat), j < (AN x).ns.length -> ((gD (AN x).ns j).mi = bif YS j x a then (zV x a j).mi else (UI x).mi) /\ ((gD
 (AN x).ns j).t.lo = bif YS j x a then (BAX x a j).lo else (UI x).t.lo) /\ ((gD (AN x).ns j).t.hi = bif YS j x a then (BAX x a j).hi else (UI x).t.hi) /\ ((gD (AN x).ns j).s.lo = bif YS j x
 a then (AWI x a j).lo else (UI x).s.lo) /\ (gD (AN x).ns j).s.hi = bif YS j x a then (AWI x a j).hi else (UI x).s.hi) /\ BVB x) /\ True) /\ BFQ x) := by kernel_rfl
end Go.Bal
