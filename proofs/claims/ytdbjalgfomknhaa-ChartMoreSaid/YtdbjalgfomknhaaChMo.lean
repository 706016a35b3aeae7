/- Law ChartMore: its walk. -/
import Derived.Test.YtdbjalgfomknhaaChW
import Derived.Test.YtdbjalgfomknhaaChCp
set_option linter.unusedVariables false
set_option linter.unusedSimpArgs false
namespace Go.Bal
open Go Go.Sym Go.Proofs
structure MoI where
 bs : List Int
 cs : List Int
 t : Int
def moM (x : MoI) : MkI := ⟨⟨x.bs, 0, 0⟩, 12, true⟩
def AH (x : MoI) : Cht := HT (moM x)
def BI (x : MoI) : Tru := xZ (moM x)
def moZ (x : MoI) : CZ := ⟨AH x, (BI x).z⟩
def RO (x : MoI) : List Span := CK (moZ x)
def Mw (x : MoI) : List Int := (CJ (AH x)).q
def Gy (c : Cht) : Nat -> Int
 | 0 => -1
 | k + 1 => bif hasN c.ns (k : Int) then Gy c k else (k : Int)
def hsK (l : List Nt) (i : Int) : Nat -> Bool
 | 0 => false
 | k + 1 => bif hsK l i k then true else (gD l k).mi == i
def CS (x : MoI) : Int := Gy (AH x) (AH x).ms.length
def BH (x : MoI) : Stm := ⟨x.cs, 0, 0⟩
def Ja (x : MoI) : Stm := AQ (BH x) 20
def Ml (x : MoI) : Stm := AQ (Ja x) 20
def Lf (x : MoI) : Stm := AQ (Ml x) 5
def moS4 (x : MoI) : Stm := AQ (Lf x) 5
def moN (x : MoI) : Nt := ⟨CS x, ⟨BJ 0 (wr (gD (BI x).t (CS x).toNat - AL (BH x) 20)), wr (gD (BI x).t (CS x).toNat + AL (Ja x) 20)⟩, ⟨wr (gD (BI x).s (CS x).toNat - AL (Ml x) 5), wr (gD (BI x).s (CS x).toNat + AL (Lf x) 5)⟩⟩
def moB (x : MoI) : Bool := bif decide (CS x >= 0) then decide (((AH x).ns.length : Int) < 20) else false
def moNs (x : MoI) : List Nt := bif moB x then (AH x).ns ++ [moN x] else (AH x).ns
def CP (x : MoI) : Stm := bif moB x then moS4 x else BH x
def AJ (x : MoI) : Cht := ⟨(AH x).p, (AH x).base, (AH x).scale, (AH x).off, (AH x).ms, moNs x⟩
def Kv (x : MoI) : Stm := AQ (CP x) 3
def moSg (x : MoI) : Stm := AQ (Kv x) 3
def moP (x : MoI) : Span := ⟨BJ 1 (wr ((AH x).p.lo - AL (CP x) 3)), wr ((AH x).p.hi + AL (Kv x) 3)⟩
def AM (x : MoI) : Cht := ⟨moP x, (AH x).base, (AH x).scale, (AH x).off, (AH x).ms, (AH x).ns⟩
structure SgS where
 s : Stm
 nx : Nat
 q : List Int
 deriving Inhabited
def Ir (z : List Int) (g : Nat) (x : SgS) : Bool := bif decide ((x.nx : Int) < z.length) then gD z x.nx == (g : Int) else false
def OZ (z : List Int) (g : Nat) (x : SgS) : SgS := bif Ir z g x then ⟨x.s, x.nx + 1, x.q ++ [(g : Int)]⟩ else ⟨AQ x.s 4, x.nx, bif AL x.s 4 == 0 then x.q ++ [(g : Int)] else x.q⟩
def sgK (z : List Int) (s : Stm) : Nat -> SgS
 | 0 => ⟨s, 0, []⟩
 | k + 1 => OZ z k (sgK z s k)
def BL (x : MoI) (k : Nat) : SgS := sgK (BI x).z (moSg x) k
def QL (x : MoI) : List Int := (BL x ((AH x).ms.length - 1)).q
def trB (t : Tru) : HCell := .live (.box [.d (CI t.t), .d (CI t.s), .d (CI t.z)])
def DAV (l : List Int) : AObj := .row 1 l.length λ i => FV (gD l i)
def moNv (b : Bool) (x : MoI) : AVal := bif b then .own 305 5 0 (AH x).ns.length else .d GE
def moNr (b : Bool) (x : MoI) : List (Nat × HCell) := bif b then [(305, .live (rowN (AH x).ns))] else []
def chT (c : Cht) (v : AVal) : AObj := .box [.int c.p.lo, .int c.p.hi, .int c.base, .int c.scale, .int c.off, .d (eMks c.ms), v]
def atS (n : Nat) (s t : Sym.Spec) : Sym.Spec := λ xs H r => bif Nat.beq r n then s xs H r else t xs H r
theorem CYW {g : FuncId} {n : Nat} {s t : Sym.Spec} (h1 : AP Try.prog g s) (h2 : AP Try.prog g t) : AP Try.prog g (atS n s t) := λ xs H r x hx hp => by
 unfold atS at hx
 cases hn : Nat.beq r n with
 | true => rw [hn] at hx; exact h1 xs H r x hx hp
 | false => rw [hn] at hx; exact h2 xs H r x hx hp
def moSl (x : MoI) : List (Nat × AVal) := [(2, .int x.t), (7, .bptr 2096 0), (8, .bptr 2112 0), (9, .bptr 3016 0), (10, .d (AV (RO x))), (12, .d (CI (Mw x))), (14, .bptr 8080 0), (15, .bptr 8096 0)]
def moH (x : MoI) (s : Stm) (c : AObj) (w : Cht) : List (Nat × HCell) := [(2096, .live (chB (AH x))), (2112, trB (BI x)), (3016, stmH s), (8080, .live c), (8096, .live (chB w))]
def moH0 (b : Bool) (x : MoI) : List (Nat × HCell) := moH x (BH x) (chT (AH x) (moNv b x)) (AH x) ++ [(300, .live (DAV rM))] ++ moNr b x
def mo10 (b : Bool) (x : MoI) : Shape := { α := Nat, dflt := 0, T := λ k => ⟨moSl x ++ [(16, .own 300 1 0 0), (17, .int (Gy (AH x) k)), (18, .int k)], moH0 b x⟩, inv := λ k => k <= (AH x).ms.length, meas := λ k => (AH x).ms.length - k, first := (300, 8064) :: bif b then [(305, 8016)] else [] }
def mo14 (b : Bool) (x : MoI) (m : Nat) : Shape := { α := IJ, dflt := default, T := λ s => ⟨moSl x ++ [(16, .own 300 1 0 0), (17, .int (Gy (AH x) s.i)), (18, .int s.i), (19, .bool (hsK (AH x).ns (s.i : Int) s.j)), (20, .int s.j)], moH0 b x⟩, inv := λ s => (s.i < (AH x).ms.length /\ (AH x).ms.length - s.i = m) /\ s.j <= (AH x).ns.length, meas := λ s => (AH x).ns.length - s.j }
def mo11 (b : Bool) (x : MoI) (m : Nat) : Shape := { α := Nat, dflt := 0, T := λ k => ⟨moSl x ++ [(16, .own 300 1 0 0), (17, .int (Gy (AH x) (k + 1))), (18, .int k)], moH0 b x⟩, inv := λ k => k < (AH x).ms.length /\ (AH x).ms.length - k = m, meas := λ _ => 0 }
def mo19 (b : Bool) (x : MoI) : Shape := { α := One, dflt := default, T := λ _ => ⟨moSl x ++ [(16, .own 300 1 0 0), (17, .int (CS x))], moH0 b x⟩, inv := λ _ => True, meas := λ _ => 0 }
def mo21 (x : MoI) (z : List Nat) : Shape := { α := One, dflt := default, T := λ _ => ⟨moSl x ++ [(16, .own 300 1 0 0)], moH x (CP x) (chB (AJ x)) (AH x) ++ [(300, .live (DAV rM))]⟩, inv := λ _ => True, meas := λ _ => 0, ffz := z }
def DPX (x : MoI) (k : Nat) : List (Nat × AVal) := moSl x ++ [(16, .own 300 1 0 (BL x k).q.length), (21, .int (BL x k).nx), (22, .int k)]
def moRw (l : List Int) : Nat × HCell := (300, .live (DAV l))
def mo24 (x : MoI) : Shape := { α := Nat, dflt := 0, T := λ k => ⟨DPX x k, moH x (BL x k).s (chB (AJ x)) (AM x) ++ [moRw (BL x k).q]⟩, inv := λ k => k <= (AH x).ms.length - 1, meas := λ k => (AH x).ms.length - k }
def DJW (x : MoI) (b : Bool) (n : Int) (k : Nat) : List (Nat × AVal) := moSl x ++ [(16, .own 300 1 0 (BL x k).q.length), (21, .int n), (22, .int k), (23, .bool b)]
def CYF (x : MoI) (m k : Nat) : Prop := k < (AH x).ms.length - 1 /\ (AH x).ms.length - k = m
def DQD (x : MoI) (m : Nat) : Shape := { α := Nat, dflt := 0, T := λ k => ⟨DJW x true ((BL x k).nx + 1) k ++ [(182, .int ((BL x k).nx + 1))], moH x (BL x k).s (chB (AJ x)) (AM x) ++ [moRw (BL x k).q]⟩, inv := λ k => CYF x m k /\ Ir (BI x).z k (BL x k) = true, meas := λ _ => 0 }
def DSM (x : MoI) (m : Nat) : Shape := { α := Nat, dflt := 0, T := λ k => ⟨DJW x false (BL x k).nx k, moH x (BL x k).s (chB (AJ x)) (AM x) ++ [moRw (BL x k).q]⟩, inv := λ k => CYF x m k /\ Ir (BI x).z k (BL x k) = false, meas := λ _ => 0 }
def mo25 (x : MoI) (m : Nat) (f : List (Nat × Nat)) : Shape := { α := Nat, dflt := 0, T := λ k => ⟨moSl x ++ [(16, .own 300 1 0 (BL x (k + 1)).q.length), (21, .int (BL x (k + 1)).nx), (22, .int k)], moH x (BL x (k + 1)).s (chB (AJ x)) (AM x) ++ [moRw (BL x (k + 1)).q]⟩, inv := λ k => CYF x m k, meas := λ _ => 0, first := f }
def moE (x : MoI) : List (Nat × HCell) := [(2096, .live (chB (AH x))), (2112, trB (BI x)), (8080, .live (chB (AJ x))), (8096, .live (chB (AM x)))]
def moSe (x : MoI) : List (Nat × AVal) := [(2, .int x.t), (7, .bptr 2096 0), (8, .bptr 2112 0), (14, .bptr 8080 0), (16, .d (CI (QL x)))]
def mo31 (x : MoI) : Shape := { α := One, dflt := default, T := λ _ => ⟨moSe x ++ [(10, .d (AV (RO x))), (12, .d (CI (Mw x))), (15, .bptr 8096 0)], moE x⟩, inv := λ _ => True, meas := λ _ => 0, ffz := [300] }
def mo36 (x : MoI) : Shape := { α := One, dflt := default, T := λ _ => ⟨moSe x ++ [(12, .d (CI (Mw x))), (15, .bptr 8096 0)], moE x⟩, inv := λ _ => True, meas := λ _ => 0 }
def mo40 (x : MoI) : Shape := { α := One, dflt := default, T := λ _ => ⟨moSe x, moE x⟩, inv := λ _ => True, meas := λ _ => 0 }
def MP (x : MoI) : Int := wr (gD (BI x).t 0 + MX x.t (wr (wr (gD (BI x).t ((AH x).ms.length - 1) - gD (BI x).t 0) + 1)))
def mo41 (x : MoI) : Shape := { α := One, dflt := default, T := λ _ => ⟨[(7, .bptr 2096 0), (8, .bptr 2112 0), (14, .bptr 8080 0), (16, .d (CI (QL x))), (30, .int (MP x))], moE x⟩, inv := λ _ => True, meas := λ _ => 0 }
def xMo (x : MoI) : List AVal := [.d (eBys x.bs), .d (eBys x.cs), .int x.t]
def A_Mo (b : Bool) (x : MoI) : Ann := { ann 356 [(DCZ, C_New.spec DJX), (CRZ, (C2 true).spec (dMkI true)), (BHF, C_Times.spec dCZ), (BHQ, C_Stops.spec dC1), (BJZ, atS 8016 (bif b then C_cpO.spec dC1 else C_cpE.spec dC1) (C_cpC.spec dC1)), (BXN, C_Next.spec CEX), (sH, C_con.spec dSS2), (CSQ, DDL), (BJC, C_Stage.spec dCZI), (CFQ, CTV)] with md := λ id => if id = 29 then some (λ k => if k = 2 ∨ k = 3 ∨ k = 4 then 10 else 0) else none, mt := λ id => id == 30 || id == 20, loops := λ id => if id = 10 then some [mo10 b x] else if id = 24 then some [mo24 x] else none, inner := λ gs id => if id = 14 then some [mo14 b x (gs.getD 0 0)] else none, cutIn := λ gs id => if id = 11 then some [mo11 b x (gs.getD 0 0)] else if id = 29 then some [DQD x (gs.getD 0 0), DSM x (gs.getD 0 0)] else if id = 25 then some [mo25 x (gs.getD 0 0) [(300, 31048)], mo25 x (gs.getD 0 0) []] else none, cut := λ id => if id = 19 then some [mo19 b x] else if id = 21 then some (bif b then [mo21 x [21640], mo21 x [305]] else [mo21 x [21640], mo21 x []]) else if id = 31 then some [mo31 x] else if id = 36 then some [mo36 x] else if id = 40 then some [mo40 x] else if id = 41 then some [mo41 x] else none }
def DKT (x : MoI) : Prop := AZ Try.prog (A_Mo true x) P8 (AN P8) (xMo x) (AF []) (.bool true) [] [] []
abbrev CJR (x : MoI) : List Int := AE x.bs.length λ (i : Nat) => gD x.bs i
abbrev ACC (x : MoI) : Nat := (CJR x).length
abbrev BIR (x : MoI) (i : Nat) : Int := gD (CJR x) i
abbrev BHR (x : MoI) : List Int := AE (ACC x) λ (i : Nat) => BIR x i
abbrev CKX (x : MoI) : Nat := (BHR x).length
abbrev CJK : Prop := (0 : Int) = (0 : Int)
abbrev CDX (x : MoI) : Stm := Stm.mk (BHR x) (0 : Int) (0 : Int)
abbrev CGP (x : MoI) : List Int := AE x.cs.length λ (i : Nat) => gD x.cs i
abbrev BHP (x : MoI) : Nat := (CGP x).length
abbrev CMI (x : MoI) (i : Nat) : Int := gD (CGP x) i
abbrev BMC (x : MoI) : MkI := MkI.mk (CDX x) (12 : Int) true
abbrev VR (x : MoI) : Cht := HT (BMC x)
abbrev AET (x : MoI) : Span := (VR x).p
abbrev AAW (x : MoI) : Int := (AET x).lo
abbrev Qi (x : MoI) : Prop := AAW x = AAW x
abbrev L7 (x : MoI) : Int := (AET x).hi
abbrev Nu (x : MoI) : Prop := L7 x = L7 x
abbrev Qo (x : MoI) : Int := (VR x).base
abbrev Rh (x : MoI) : Prop := Qo x = Qo x
abbrev Zl (x : MoI) : Int := (VR x).scale
abbrev Ue (x : MoI) : Prop := Zl x = Zl x
abbrev Rq (x : MoI) : Int := (VR x).off
abbrev Vi (x : MoI) : Prop := Rq x = Rq x
abbrev BUY (x : MoI) : List Mk := (VR x).ms
abbrev L4 (x : MoI) : Nat := (BUY x).length
abbrev W8 (x : MoI) (i : Nat) : Mk := gD (BUY x) i
abbrev ACB (x : MoI) : List Mk := AE (L4 x) λ (i : Nat) => W8 x i
abbrev Gp (x : MoI) : Nat := (ACB x).length
abbrev Ss (x : MoI) : Prop := Gp x = L4 x
abbrev CBE (x : MoI) (i : Nat) : Mk := gD (ACB x) i
abbrev BZT (x : MoI) (i : Nat) : Int := (CBE x i).pl
abbrev BKM (x : MoI) (i : Nat) : Int := (W8 x i).pl
abbrev BLX (x : MoI) (i : Nat) : Int := (CBE x i).ht
abbrev BWK (x : MoI) (i : Nat) : Int := (W8 x i).ht
abbrev Wr (x : MoI) : Prop := ∀ (i : Nat), i < Gp x -> BZT x i = BKM x i /\ BLX x i = BWK x i
abbrev BRB (x : MoI) : List Nt := (VR x).ns
abbrev ACZ (x : MoI) : Nat := (BRB x).length
abbrev Zg (x : MoI) (i : Nat) : Nt := gD (BRB x) i
abbrev O2 (x : MoI) : List Nt := AE (ACZ x) λ (i : Nat) => Zg x i
abbrev PV (x : MoI) : Nat := (O2 x).length
abbrev Pd (x : MoI) : Prop := PV x = ACZ x
abbrev AAU (x : MoI) (i : Nat) : Nt := gD (O2 x) i
abbrev BKT (x : MoI) (i : Nat) : Int := (AAU x i).mi
abbrev BXT (x : MoI) (i : Nat) : Int := (Zg x i).mi
abbrev BJL (x : MoI) (i : Nat) : Span := (AAU x i).t
abbrev BNT (x : MoI) (i : Nat) : Int := (BJL x i).lo
abbrev BQT (x : MoI) (i : Nat) : Span := (Zg x i).t
abbrev CAR (x : MoI) (i : Nat) : Int := (BQT x i).lo
abbrev BKJ (x : MoI) (i : Nat) : Int := (BJL x i).hi
abbrev BQH (x : MoI) (i : Nat) : Int := (BQT x i).hi
abbrev BYM (x : MoI) (i : Nat) : Span := (AAU x i).s
abbrev BJY (x : MoI) (i : Nat) : Int := (BYM x i).lo
abbrev BXQ (x : MoI) (i : Nat) : Span := (Zg x i).s
abbrev BRN (x : MoI) (i : Nat) : Int := (BXQ x i).lo
abbrev BTC (x : MoI) (i : Nat) : Int := (BYM x i).hi
abbrev BYW (x : MoI) (i : Nat) : Int := (BXQ x i).hi
abbrev Yg (x : MoI) : Prop := ∀ (i : Nat), i < PV x -> BKT x i = BXT x i /\ BNT x i = CAR x i /\ BKJ x i = BQH x i /\ BJY x i = BRN x i /\ BTC x i = BYW x i
abbrev AEV (x : MoI) : Tru := xZ (BMC x)
abbrev CAL (x : MoI) : List Int := (AEV x).z
abbrev U5 (x : MoI) : Nat := (CAL x).length
abbrev Q0 (x : MoI) (i : Nat) : Int := gD (CAL x) i
abbrev ACA (x : MoI) : List Int := AE (U5 x) λ (i : Nat) => Q0 x i
abbrev M0 (x : MoI) : Nat := (ACA x).length
abbrev BJI (x : MoI) : Prop := Gp x < (4611686018427387904 : Nat)
abbrev BLS (x : MoI) : Prop := PV x < (4611686018427387904 : Nat)
abbrev Q6 (x : MoI) : Cht := Cht.mk (AET x) (Qo x) (Zl x) (Rq x) (ACB x) (O2 x)
abbrev BLC (x : MoI) : List Span × Int := NT (CZ.mk (Q6 x) (ACA x))
abbrev BJN (x : MoI) : FwR := CJ (Q6 x)
abbrev BQN (x : MoI) : Prop := Gp x < (1073741824 : Nat)
abbrev BWG (x : MoI) : Prop := PV x < (1073741824 : Nat)
abbrev BKQ (x : MoI) : List Span := (BLC x).fst
abbrev CBD (x : MoI) (i : Nat) : Span := gD (BKQ x) i
abbrev BOQ (x : MoI) : List Int := (BJN x).q
abbrev BD : Prop := (0 : Nat) = (0 : Nat)
abbrev BNM (a : Nat) : Prop := (↑a : Int) = (0 : Int)
abbrev AER (x : MoI) : Prop := (AH x).p.lo = AAW x
abbrev V2 (x : MoI) : Prop := (AH x).p.hi = L7 x
abbrev P0 (x : MoI) : Prop := (AH x).base = Qo x
abbrev P3 (x : MoI) : Prop := (AH x).scale = Zl x
abbrev AAC (x : MoI) : Prop := (AH x).off = Rq x
abbrev BTQ (x : MoI) : List Int := (AEV x).t
abbrev BTU (x : MoI) : List Int := (AEV x).s
abbrev BXR (x : MoI) : Prop := (AH x).ms.length = Gp x
abbrev BUW (x : MoI) : Prop := ∀ (i : Nat), i < (AH x).ms.length -> (gD (AH x).ms i).pl = BZT x i /\ (gD (AH x).ms i).ht = BLX x i
abbrev T3 (x : MoI) : Prop := (AH x).ns.length = PV x
abbrev BZO (x : MoI) : Prop := ∀ (i : Nat), i < (AH x).ns.length -> (gD (AH x).ns i).mi = BKT x i /\ (gD (AH x).ns i).t.lo = BNT x i /\ (gD (AH x).ns i).t.hi = BKJ x i /\ (gD (AH x).ns i).s.lo =
 BJY x i /\ (gD (AH x).ns i).s.hi = BTC x i
abbrev DQ (x : MoI) : Prop := (RO x).length = (RO x).length
abbrev DP (x : MoI) : Prop := ∀ (i : Nat), i < (RO x).length -> (gD (RO x) i).lo = (gD (RO x) i).lo /\ (gD (RO x) i).hi = (gD (RO x) i).hi
abbrev DG (x : MoI) : Prop := (Mw x).length = (Mw x).length
abbrev DM (x : MoI) : Prop := ∀ (i : Nat), i < (Mw x).length -> gD (Mw x) i = gD (Mw x) i
abbrev Ol (x : MoI) (a : IJ) : Bool := hsK (AH x).ns (↑a.i : Int) a.j
abbrev DO (x : MoI) : Prop := (AH x).p.lo = (AH x).p.lo
abbrev DN (x : MoI) : Prop := (AH x).p.hi = (AH x).p.hi
abbrev FO (x : MoI) : Prop := (AH x).ms.length = (AH x).ms.length
abbrev FI (x : MoI) : Prop := ∀ (i : Nat), i < (AH x).ms.length -> (gD (AH x).ms i).pl = (gD (AH x).ms i).pl /\ (gD (AH x).ms i).ht = (gD (AH x).ms i).ht
abbrev DY (x : MoI) : Prop := (AH x).ns.length = (AH x).ns.length
abbrev FT (x : MoI) : Prop := ∀ (i : Nat), i < (AH x).ns.length -> (gD (AH x).ns i).mi = (gD (AH x).ns i).mi /\ (gD (AH x).ns i).t.lo = (gD (AH x).ns i).t.lo /\ (gD (AH x).ns i).t.hi = (gD (AH x).ns i).t.hi /\
 (gD (AH x).ns i).s.lo = (gD (AH x).ns i).s.lo /\ (gD (AH x).ns i).s.hi = (gD (AH x).ns i).s.hi
abbrev JG (x : MoI) : Prop := (BI x).t.length = (BI x).t.length
abbrev IR (x : MoI) : Prop := ∀ (i : Nat), i < (BI x).t.length -> gD (BI x).t i = gD (BI x).t i
abbrev JP (x : MoI) : Prop := (BI x).s.length = (BI x).s.length
abbrev GS (x : MoI) : Prop := ∀ (i : Nat), i < (BI x).s.length -> gD (BI x).s i = gD (BI x).s i
abbrev GK (x : MoI) : Prop := (BI x).z.length = (BI x).z.length
abbrev GN (x : MoI) : Prop := ∀ (i : Nat), i < (BI x).z.length -> gD (BI x).z i = gD (BI x).z i
abbrev ARD : Prop := ∀ (i : Nat), i < (0 : Nat) -> gD rM i = gD rM i
abbrev TY (x : MoI) : Prop := DO x /\ DN x /\ (AH x).base = (AH x).base /\ (AH x).scale = (AH x).scale /\ (AH x).off = (AH x).off /\ FO x /\ FI x /\ DY x /\ FT x /\ JG x /\
 IR x /\ JP x /\ GS x /\ GK x /\ GN x /\ (BH x).bs.length = (BH x).bs.length /\ (∀ (i : Nat), i < (BH x).bs.length -> gD (BH x).bs i = gD (BH x).bs i) /\ (BH x).used = (BH x).used /\
 (BH x).mix = (BH x).mix /\ DO x /\ DN x /\ (AH x).base = (AH x).base /\ (AH x).scale = (AH x).scale /\ (AH x).off = (AH x).off /\ FO x /\ FI x /\ BD /\ DY x /\ DO x /\ DN x
 /\ (AH x).base = (AH x).base /\ (AH x).scale = (AH x).scale /\ (AH x).off = (AH x).off /\ FO x /\ FI x /\ DY x /\ FT x /\ BD /\ ARD /\ DY x /\ FT x
abbrev TF (x : MoI) (a : Nat) : Nat := (AH x).ms.length - a
abbrev nM (a : IJ) (x : MoI) (a1 : Nat) : Prop := (a.i < (AH x).ms.length /\ (AH x).ms.length - a.i = TF x a1) /\ a.j <= (AH x).ns.length
abbrev APP (a : IJ) (x : MoI) : Prop := (↑a.j : Int) < (↑(AH x).ns.length : Int)
abbrev AIE (x : MoI) (a : IJ) : Bool := !Ol x a
abbrev AIK (x : MoI) (a : IJ) : Nat := (AH x).ns.length - a.j
abbrev AOO (a : Nat) : Nat := a + (1 : Nat)
abbrev gG (x : MoI) (a : Nat) : Int := Gy (AH x) (AOO a)
abbrev BCY (a : Nat) (a1 : IJ) (x : MoI) : Prop := (↑a : Int) = (↑a1.i : Int) /\ TY x
abbrev AVJ (x : MoI) (a : Nat) (a1 : Nat) : Prop := TF x a = TF x a1
abbrev pQ (a : Nat) (x : MoI) (a1 : Nat) : Prop := a < (AH x).ms.length /\ AVJ x a a1
abbrev AGI (a : Nat) : Int := IntKind.i64.wrap ((↑a : Int) + (1 : Int))
abbrev ARQ (a : Nat) (a1 : Nat) : Prop := (↑a : Int) = AGI a1
abbrev AGU (x : MoI) (a : Nat) (a1 : Nat) : Prop := TF x a < TF x a1
abbrev BDU (x : MoI) : Prop := (0 : Int) <= CS x
abbrev AKF (x : MoI) : Prop := BDU x /\ CS x < (↑(BI x).t.length : Int)
abbrev AVL : Prop := (20 : Int) = Int.ofNat (20 : Nat)
abbrev lN (x : MoI) : List Int := AE (BH x).bs.length λ (i : Nat) => gD (BH x).bs i
abbrev AXZ (x : MoI) : Nat := (lN x).length
abbrev AQQ (x : MoI) : Stm := Stm.mk (lN x) (BH x).used (BH x).mix
abbrev cW (x : MoI) : Stm := AQ (AQQ x) (20 : Int)
abbrev AFL (x : MoI) : List Int := (cW x).bs
abbrev ATE (x : MoI) : Nat := (AFL x).length
abbrev AIP (x : MoI) (i : Nat) : Int := gD (AFL x) i
abbrev fB (x : MoI) : List Int := AE (ATE x) λ (i : Nat) => AIP x i
abbrev AZD (x : MoI) : Nat := (fB x).length
abbrev Bz (x : MoI) : Int := (cW x).used
abbrev lI (x : MoI) : Int := (cW x).mix
abbrev AOJ (x : MoI) : Prop := BDU x /\ CS x < (↑(BI x).s.length : Int)
abbrev AUH : Prop := (5 : Int) = Int.ofNat (5 : Nat)
abbrev BBJ (x : MoI) : Stm := Stm.mk (fB x) (Bz x) (lI x)
abbrev kS (x : MoI) : Stm := AQ (BBJ x) (20 : Int)
abbrev AKQ (x : MoI) : List Int := (kS x).bs
abbrev BBP (x : MoI) : Nat := (AKQ x).length
abbrev AIG (x : MoI) (i : Nat) : Int := gD (AKQ x) i
abbrev lX (x : MoI) : List Int := AE (BBP x) λ (i : Nat) => AIG x i
abbrev BDG (x : MoI) : Nat := (lX x).length
abbrev Cs (x : MoI) : Int := (kS x).used
abbrev jH (x : MoI) : Int := (kS x).mix
abbrev BDR (x : MoI) : Stm := Stm.mk (lX x) (Cs x) (jH x)
abbrev fF (x : MoI) : Stm := AQ (BDR x) (5 : Int)
abbrev APK (x : MoI) : List Int := (fF x).bs
abbrev AWV (x : MoI) : Nat := (APK x).length
abbrev ARS (x : MoI) (i : Nat) : Int := gD (APK x) i
abbrev eR (x : MoI) : List Int := AE (AWV x) λ (i : Nat) => ARS x i
abbrev BDE (x : MoI) : Nat := (eR x).length
abbrev Ex (x : MoI) : Int := (fF x).used
abbrev oT (x : MoI) : Int := (fF x).mix
abbrev AYL : Prop := (5 : Nat) = (5 : Nat)
abbrev AXS : Prop := (1 : Nat) <= (1 : Nat)
abbrev gQ : Prop := (0 : Nat) < (1 : Nat)
abbrev AWU : Prop := false = true -> gQ
abbrev SA (x : MoI) : Nat := (AH x).ns.length + (1 : Nat)
abbrev AGW (x : MoI) : Stm := Stm.mk (eR x) (Ex x) (oT x)
abbrev mX (x : MoI) : Stm := AQ (AGW x) (5 : Int)
abbrev AUB (x : MoI) : List Int := (mX x).bs
abbrev ATT (x : MoI) : Prop := (AJ x).p.lo = (AH x).p.lo
abbrev AGV (x : MoI) : Prop := (AJ x).p.hi = (AH x).p.hi
abbrev ARY (x : MoI) : Prop := (AJ x).ms.length = (AH x).ms.length
abbrev BBO (x : MoI) : Prop := ∀ (i : Nat), i < (AJ x).ms.length -> (gD (AJ x).ms i).pl = (gD (AH x).ms i).pl /\ (gD (AJ x).ms i).ht = (gD (AH x).ms i).ht
abbrev kZ (j : Nat) : Nat := (0 : Nat) + j
abbrev RZ (j : Nat) (x : MoI) : Bool := decide (kZ j < (AH x).ns.length)
abbrev iZ (x : MoI) (j : Nat) : Nt := gD (AH x).ns (kZ j)
abbrev BDC (x : MoI) (j : Nat) : Int := (iZ x j).mi
abbrev AHB (x : MoI) (j : Nat) : Span := (iZ x j).t
abbrev AVB (x : MoI) (j : Nat) : Int := (AHB x j).lo
abbrev AVU (x : MoI) (j : Nat) : Int := (AHB x j).hi
abbrev AUN (x : MoI) (j : Nat) : Span := (iZ x j).s
abbrev APQ (x : MoI) (j : Nat) : Int := (AUN x j).lo
abbrev AJK (x : MoI) (j : Nat) : Int := (AUN x j).hi
abbrev BCL (x : MoI) : Prop := DO x /\ DN x /\ (AH x).base = (AH x).base /\ (AH x).scale = (AH x).scale /\ (AH x).off = (AH x).off /\ FO x /\ FI x /\ DY x /\ FT x /\ BD /\
 ARD
abbrev AOU : Prop := (3 : Int) = Int.ofNat (3 : Nat)
abbrev lH (x : MoI) : List Int := AE (CP x).bs.length λ (i : Nat) => gD (CP x).bs i
abbrev AMP (x : MoI) : Nat := (lH x).length
abbrev APB (x : MoI) : Stm := Stm.mk (lH x) (CP x).used (CP x).mix
abbrev oA (x : MoI) : Stm := AQ (APB x) (3 : Int)
abbrev ASV (x : MoI) : List Int := (oA x).bs
abbrev AKV (x : MoI) : Nat := (ASV x).length
abbrev BCN (x : MoI) (i : Nat) : Int := gD (ASV x) i
abbrev iE (x : MoI) : List Int := AE (AKV x) λ (i : Nat) => BCN x i
abbrev ATP (x : MoI) : Nat := (iE x).length
abbrev Cm (x : MoI) : Int := (oA x).used
abbrev qZ (x : MoI) : Int := (oA x).mix
abbrev AGL (x : MoI) (a : Nat) : Prop := (BL x a).q.length = (0 : Nat)
abbrev AMN (x : MoI) : Stm := Stm.mk (iE x) (Cm x) (qZ x)
abbrev mT (x : MoI) : Stm := AQ (AMN x) (3 : Int)
abbrev ARO (x : MoI) : List Int := (mT x).bs
abbrev kX (i : Nat) (x : MoI) (a : Nat) : Prop := i < (BL x a).s.bs.length
abbrev HS (x : MoI) : Prop := (AJ x).p.lo = (AJ x).p.lo
abbrev HX (x : MoI) : Prop := (AJ x).p.hi = (AJ x).p.hi
abbrev OH (x : MoI) : Prop := (AJ x).ms.length = (AJ x).ms.length
abbrev PD (x : MoI) : Prop := ∀ (i : Nat), i < (AJ x).ms.length -> (gD (AJ x).ms i).pl = (gD (AJ x).ms i).pl /\ (gD (AJ x).ms i).ht = (gD (AJ x).ms i).ht
abbrev NJ (x : MoI) : Prop := (AJ x).ns.length = (AJ x).ns.length
abbrev PG (x : MoI) : Prop := ∀ (i : Nat), i < (AJ x).ns.length -> (gD (AJ x).ns i).mi = (gD (AJ x).ns i).mi /\ (gD (AJ x).ns i).t.lo = (gD (AJ x).ns i).t.lo /\ (gD (AJ x).ns i).t.hi = (gD (AJ x).ns
 i).t.hi /\ (gD (AJ x).ns i).s.lo = (gD (AJ x).ns i).s.lo /\ (gD (AJ x).ns i).s.hi = (gD (AJ x).ns i).s.hi
abbrev Gu (i : Nat) (x : MoI) (a : Nat) : Prop := i < (BL x a).q.length
abbrev AZX (x : MoI) : Nat := (AH x).ms.length - (1 : Nat)
abbrev oX (a : Nat) (x : MoI) : Prop := a.le (AZX x)
abbrev AXG (x : MoI) (a : Nat) : Prop := (↑(BL x a).nx : Int) < (↑(BI x).z.length : Int)
abbrev ASK (x : MoI) (a : Nat) : Bool := decide (AXG x a)
abbrev dI (x : MoI) (a : Nat) : Bool := bif ASK x a then gD (BI x).z (BL x a).nx == (↑a : Int) else false
abbrev kA (x : MoI) (a : Nat) (a1 : Nat) : Prop := (BL x a).q.length = (BL x a1).q.length
abbrev cI (x : MoI) (a : Nat) : Int := (↑(BL x a).nx : Int) + (1 : Int)
abbrev ANT (x : MoI) (a : Nat) (a1 : Nat) : Prop := cI x a = IntKind.i64.wrap (cI x a1)
abbrev TS (a : Nat) (a1 : Nat) : Prop := (↑a : Int) = (↑a1 : Int)
abbrev LB (x : MoI) : Prop := (AM x).p.lo = (AM x).p.lo
abbrev LQ (x : MoI) : Prop := (AM x).p.hi = (AM x).p.hi
abbrev TL (x : MoI) : Prop := (AM x).ms.length = (AM x).ms.length
abbrev TB (x : MoI) : Prop := ∀ (i : Nat), i < (AM x).ms.length -> (gD (AM x).ms i).pl = (gD (AM x).ms i).pl /\ (gD (AM x).ms i).ht = (gD (AM x).ms i).ht
abbrev SZ (x : MoI) : Prop := (AM x).ns.length = (AM x).ns.length
abbrev TE (x : MoI) : Prop := ∀ (i : Nat), i < (AM x).ns.length -> (gD (AM x).ns i).mi = (gD (AM x).ns i).mi /\ (gD (AM x).ns i).t.lo = (gD (AM x).ns i).t.lo /\ (gD (AM x).ns i).t.hi = (gD (AM x).ns
 i).t.hi /\ (gD (AM x).ns i).s.lo = (gD (AM x).ns i).s.lo /\ (gD (AM x).ns i).s.hi = (gD (AM x).ns i).s.hi
abbrev APL (x : MoI) (a : Nat) (a1 : Nat) : Prop := DO x /\ DN x /\ (AH x).base = (AH x).base /\ (AH x).scale = (AH x).scale /\ (AH x).off = (AH x).off /\ FO x /\ FI x /\ DY x /\
 FT x /\ JG x /\ IR x /\ JP x /\ GS x /\ GK x /\ GN x /\ (BL x a).s.bs.length = (BL x a1).s.bs.length /\ (∀ (i : Nat), kX i x a -> gD (BL x a).s.bs i = gD (BL x a1).s.bs i) /\
 (BL x a).s.used = (BL x a1).s.used /\ (BL x a).s.mix = (BL x a1).s.mix /\ HS x /\ HX x /\ (AJ x).base = (AJ x).base /\ (AJ x).scale = (AJ x).scale /\ (AJ x).off = (AJ x).off /\ OH x /\
 PD x /\ NJ x /\ PG x /\ LB x /\ LQ x /\ (AM x).base = (AM x).base /\ (AM x).scale = (AM x).scale /\ (AM x).off = (AM x).off /\ TL x /\ TB x /\ SZ x /\ TE x
 /\ kA x a a1 /\ ∀ (i : Nat), Gu i x a -> gD (BL x a).q i = gD (BL x a1).q i
abbrev NO (a : Nat) (x : MoI) (a1 : Nat) : Prop := a < AZX x /\ AVJ x a a1
abbrev AJT (a : Nat) (x : MoI) (a1 : Nat) : Prop := NO a x a1 /\ Ir (BI x).z a (BL x a) = true
abbrev AJY (a : Nat) (x : MoI) (a1 : Nat) : Prop := NO a x a1 /\ Ir (BI x).z a (BL x a) = false
abbrev AMQ : Prop := (1 : Nat) = (1 : Nat)
abbrev nR (x : MoI) (a : Nat) : Nat := (BL x a).q.length + (1 : Nat)
abbrev AFW (x : MoI) (a : Nat) : Prop := ((BL x a).q.length = (BL x a).q.length /\ ((0 : Nat) < (BL x a).q.length -> AMQ)) /\ (AXS /\ (gQ -> AMQ)) /\ AWU /\ nR x a <=
 (9223372036854775807 : Nat) /\ nR x a * (8 : Nat) <= (140737488355328 : Nat)
abbrev jG (x : MoI) (a : Nat) : SgS := BL x (AOO a)
abbrev AUV (x : MoI) (a : Nat) : List Int := (jG x a).q
abbrev De (x : MoI) (a : Nat) : Nat := (AUV x a).length
abbrev lK (x : MoI) (a : Nat) (a1 : Nat) : Prop := De x a = nR x a1
abbrev nE (x : MoI) (a : Nat) : Nat := (jG x a).nx
abbrev nX (x : MoI) (a : Nat) : Stm := (jG x a).s
abbrev AOH (x : MoI) (a : Nat) : List Int := (nX x a).bs
abbrev Gx (x : MoI) (a : Nat) : Nat := (AOH x a).length
abbrev AQX (i : Nat) (x : MoI) (a : Nat) : Prop := i < Gx x a
abbrev cN (x : MoI) (a : Nat) (i : Nat) : Int := gD (AOH x a) i
abbrev iQ (x : MoI) (a : Nat) : Int := (nX x a).used
abbrev kQ (x : MoI) (a : Nat) : Int := (nX x a).mix
abbrev AHT (i : Nat) (x : MoI) (a : Nat) : Prop := i < De x a
abbrev qY (x : MoI) (a : Nat) (i : Nat) : Int := gD (AUV x a) i
abbrev AVV (x : MoI) (a : Nat) (a1 : Nat) : Prop := HS x /\ HX x /\ (AJ x).base = (AJ x).base /\ (AJ x).scale = (AJ x).scale /\ (AJ x).off = (AJ x).off /\ OH x /\ PD x /\ NJ
 x /\ PG x /\ LB x /\ LQ x /\ (AM x).base = (AM x).base /\ (AM x).scale = (AM x).scale /\ (AM x).off = (AM x).off /\ TL x /\ TB x /\ SZ x /\ TE x /\ lK x a a1 /\ ∀
 (i : Nat), AHT i x a -> qY x a i = bif decide (Gu i x a1) then gD (BL x a1).q i else (↑a1 : Int)
abbrev pP (x : MoI) (a : Nat) : List Int := AE (BL x a).s.bs.length λ (i : Nat) => gD (BL x a).s.bs i
abbrev AHM (x : MoI) (a : Nat) : Nat := (pP x a).length
abbrev ALB (x : MoI) (a : Nat) : Stm := Stm.mk (pP x a) (BL x a).s.used (BL x a).s.mix
abbrev AOG (x : MoI) (a : Nat) (a1 : Nat) : Prop := (↑(nE x a) : Int) = (↑(BL x a1).nx : Int)
abbrev mK (x : MoI) (a : Nat) : Stm := AQ (ALB x a) (4 : Int)
abbrev ANE (x : MoI) (a : Nat) : List Int := (mK x a).bs
abbrev AKS (x : MoI) (a : Nat) (a1 : Nat) : Prop := Gx x a = (ANE x a1).length
abbrev AUK (x : MoI) (a : Nat) (a1 : Nat) : Prop := ∀ (i : Nat), AQX i x a -> cN x a i = gD (ANE x a1) i
abbrev AGT (x : MoI) (a : Nat) (a1 : Nat) : Prop := iQ x a = (mK x a1).used
abbrev BBM (x : MoI) (a : Nat) (a1 : Nat) : Prop := kQ x a = (mK x a1).mix
abbrev ANK (x : MoI) (a : Nat) (a1 : Nat) : Prop := De x a = (BL x a1).q.length
abbrev ANW (x : MoI) (a : Nat) (a1 : Nat) : Prop := (BL x a).q.length = De x a1
abbrev BDO (x : MoI) (a : Nat) : Prop := ∀ (a_1 : Nat), NO a_1 x a -> ∃ (a_3 : Nat), (x.t = x.t /\ DQ x /\ DP x /\ DG x /\ DM x /\ BD /\ ANW x a_3 a_1 /\ (↑(BL x a_3).nx : Int) =
 (↑(nE x a_1) : Int) /\ ARQ a_3 a_1 /\ DO x /\ DN x /\ (AH x).base = (AH x).base /\ (AH x).scale = (AH x).scale /\ (AH x).off = (AH x).off /\ FO x /\ FI x /\ DY x /\ FT x /\
 JG x /\ IR x /\ JP x /\ GS x /\ GK x /\ GN x /\ (BL x a_3).s.bs.length = Gx x a_1 /\ (∀ (i : Nat), kX i x a_3 -> gD (BL x a_3).s.bs i = cN x a_1 i) /\ (BL x
 a_3).s.used = iQ x a_1 /\ (BL x a_3).s.mix = kQ x a_1 /\ HS x /\ HX x /\ (AJ x).base = (AJ x).base /\ (AJ x).scale = (AJ x).scale /\ (AJ x).off = (AJ x).off /\ OH x /\ PD x
 /\ NJ x /\ PG x /\ LB x /\ LQ x /\ (AM x).base = (AM x).base /\ (AM x).scale = (AM x).scale /\ (AM x).off = (AM x).off /\ TL x /\ TB x /\ SZ x /\ TE x /\ ANW
 x a_3 a_1 /\ ∀ (i : Nat), Gu i x a_3 -> gD (BL x a_3).q i = qY x a_1 i) /\ oX a_3 x /\ AGU x a_3 a
abbrev gR (x : MoI) : Prop := DO x /\ DN x /\ (AH x).base = (AH x).base /\ (AH x).scale = (AH x).scale /\ (AH x).off = (AH x).off /\ FO x /\ FI x /\ DY x /\ FT x /\ JG x /\
 IR x /\ JP x /\ GS x /\ GK x /\ GN x /\ HS x /\ HX x /\ (AJ x).base = (AJ x).base /\ (AJ x).scale = (AJ x).scale /\ (AJ x).off = (AJ x).off /\ OH x /\ PD x /\
 NJ x /\ PG x /\ LB x /\ LQ x /\ (AM x).base = (AM x).base /\ (AM x).scale = (AM x).scale /\ (AM x).off = (AM x).off /\ TL x /\ TB x /\ SZ x /\ TE x
abbrev AYR (x : MoI) : Prop := DG x /\ DM x /\ gR x
abbrev nH (x : MoI) : List Mk := AE (AJ x).ms.length λ (i : Nat) => gD (AJ x).ms i
abbrev oN (x : MoI) : Nat := (nH x).length
abbrev pM (x : MoI) : Prop := oN x = (AJ x).ms.length
abbrev AKB (x : MoI) (i : Nat) : Mk := gD (nH x) i
abbrev oP (x : MoI) : Prop := ∀ (i : Nat), i < oN x -> (AKB x i).pl = (gD (AJ x).ms i).pl /\ (AKB x i).ht = (gD (AJ x).ms i).ht
abbrev hC (x : MoI) : List Nt := AE (AJ x).ns.length λ (i : Nat) => gD (AJ x).ns i
abbrev Gv (x : MoI) : Nat := (hC x).length
abbrev dK (x : MoI) : Prop := Gv x = (AJ x).ns.length
abbrev eS (x : MoI) (i : Nat) : Nt := gD (hC x) i
abbrev ANS (x : MoI) (i : Nat) : Span := (eS x i).t
abbrev AUR (x : MoI) (i : Nat) : Span := (eS x i).s
abbrev gU (x : MoI) : Prop := ∀ (i : Nat), i < Gv x -> (eS x i).mi = (gD (AJ x).ns i).mi /\ (ANS x i).lo = (gD (AJ x).ns i).t.lo /\ (ANS x i).hi = (gD (AJ x).ns i).t.hi /\ (AUR x
 i).lo = (gD (AJ x).ns i).s.lo /\ (AUR x i).hi = (gD (AJ x).ns i).s.hi
abbrev TW (x : MoI) : List Int := AE (BI x).z.length λ (i : Nat) => gD (BI x).z i
abbrev kC (x : MoI) : Nat := (TW x).length
abbrev Eg (x : MoI) : Prop := kC x = (BI x).z.length
abbrev En (x : MoI) : Prop := ∀ (i : Nat), i < kC x -> gD (TW x) i = gD (BI x).z i
abbrev BAL (x : MoI) : Prop := oN x < (4611686018427387904 : Nat)
abbrev BCT (x : MoI) : Prop := Gv x < (4611686018427387904 : Nat)
abbrev lV (x : MoI) : Prop := kC x < (4611686018427387904 : Nat)
abbrev BBZ (x : MoI) : Prop := BAL x /\ BCT x /\ lV x
abbrev oB (x : MoI) : List Mk := AE (AM x).ms.length λ (i : Nat) => gD (AM x).ms i
abbrev dF (x : MoI) : Nat := (oB x).length
abbrev ALG (x : MoI) : Prop := dF x = (AM x).ms.length
abbrev AYW (x : MoI) (i : Nat) : Mk := gD (oB x) i
abbrev AWK (x : MoI) : Prop := ∀ (i : Nat), i < dF x -> (AYW x i).pl = (gD (AM x).ms i).pl /\ (AYW x i).ht = (gD (AM x).ms i).ht
abbrev eE (x : MoI) : List Nt := AE (AM x).ns.length λ (i : Nat) => gD (AM x).ns i
abbrev Gk (x : MoI) : Nat := (eE x).length
abbrev BAT (x : MoI) : Prop := Gk x = (AM x).ns.length
abbrev nG (x : MoI) (i : Nat) : Nt := gD (eE x) i
abbrev BAI (x : MoI) (i : Nat) : Span := (nG x i).t
abbrev BBI (x : MoI) (i : Nat) : Span := (nG x i).s
abbrev ASJ (x : MoI) : Prop := ∀ (i : Nat), i < Gk x -> (nG x i).mi = (gD (AM x).ns i).mi /\ (BAI x i).lo = (gD (AM x).ns i).t.lo /\ (BAI x i).hi = (gD (AM x).ns i).t.hi /\ (BBI x
 i).lo = (gD (AM x).ns i).s.lo /\ (BBI x i).hi = (gD (AM x).ns i).s.hi
abbrev ALH (x : MoI) : Prop := dF x < (4611686018427387904 : Nat)
abbrev BAF (x : MoI) : Prop := Gk x < (4611686018427387904 : Nat)
abbrev jV (x : MoI) : List Mk := AE (AH x).ms.length λ (i : Nat) => gD (AH x).ms i
abbrev jI (x : MoI) : Nat := (jV x).length
abbrev fN (x : MoI) : Prop := jI x = (AH x).ms.length
abbrev AQB (x : MoI) (i : Nat) : Mk := gD (jV x) i
abbrev qM (x : MoI) : Prop := ∀ (i : Nat), i < jI x -> (AQB x i).pl = (gD (AH x).ms i).pl /\ (AQB x i).ht = (gD (AH x).ms i).ht
abbrev dH (x : MoI) : List Nt := AE (AH x).ns.length λ (i : Nat) => gD (AH x).ns i
abbrev jJ (x : MoI) : Nat := (dH x).length
abbrev dS (x : MoI) : Prop := jJ x = (AH x).ns.length
abbrev mV (x : MoI) (i : Nat) : Nt := gD (dH x) i
abbrev AGZ (x : MoI) (i : Nat) : Span := (mV x i).t
abbrev BEN (x : MoI) (i : Nat) : Span := (mV x i).s
abbrev fY (x : MoI) : Prop := ∀ (i : Nat), i < jJ x -> (mV x i).mi = (gD (AH x).ns i).mi /\ (AGZ x i).lo = (gD (AH x).ns i).t.lo /\ (AGZ x i).hi = (gD (AH x).ns i).t.hi /\ (BEN x
 i).lo = (gD (AH x).ns i).s.lo /\ (BEN x i).hi = (gD (AH x).ns i).s.hi
abbrev qN (x : MoI) : List Int := AE (QL x).length λ (i : Nat) => gD (QL x) i
abbrev fG (x : MoI) : Nat := (qN x).length
abbrev AWQ (x : MoI) : Prop := fG x = (QL x).length
abbrev ATH (x : MoI) : Prop := ∀ (i : Nat), i < fG x -> gD (qN x) i = gD (QL x) i
abbrev BAP (x : MoI) : Prop := jI x < (4611686018427387904 : Nat)
abbrev ANG (x : MoI) : Prop := jJ x < (4611686018427387904 : Nat)
abbrev BBG (x : MoI) : Prop := BAP x /\ ANG x /\ fG x < (4611686018427387904 : Nat)
abbrev lY (x : MoI) : Cht := Cht.mk (AJ x).p (AJ x).base (AJ x).scale (AJ x).off (nH x) (hC x)
abbrev BCG (x : MoI) : CZ := CZ.mk (lY x) (TW x)
abbrev ANF (x : MoI) : List Span × Int := NT (BCG x)
abbrev lD (x : MoI) : Cht := Cht.mk (AM x).p (AM x).base (AM x).scale (AM x).off (oB x) (eE x)
abbrev BAS (x : MoI) : List Span × Int := NT (CZ.mk (lD x) (TW x))
abbrev AUA (x : MoI) : Cht := Cht.mk (AH x).p (AH x).base (AH x).scale (AH x).off (jV x) (dH x)
abbrev BCD (x : MoI) : CZ := CZ.mk (AUA x) (qN x)
abbrev AFM (x : MoI) : List Span × Int := NT (BCD x)
abbrev BEE (x : MoI) : Bool := bif bif (ANF x).snd != (0 : Int) then true else (BAS x).snd != (0 : Int) then true else (AFM x).snd != (0 : Int)
abbrev TP (x : MoI) : List Span := AE (RO x).length λ (i : Nat) => gD (RO x) i
abbrev qT (x : MoI) : Nat := (TP x).length
abbrev kI (x : MoI) : Prop := qT x = (RO x).length
abbrev AQA (x : MoI) (i : Nat) : Span := gD (TP x) i
abbrev mJ (x : MoI) : Prop := ∀ (i : Nat), i < qT x -> (AQA x i).lo = (gD (RO x) i).lo /\ (AQA x i).hi = (gD (RO x) i).hi
abbrev AOK (x : MoI) : List Span := (ANF x).fst
abbrev AGR (x : MoI) : Nat := (AOK x).length
abbrev rI (x : MoI) (i : Nat) : Span := gD (AOK x) i
abbrev dV (x : MoI) : List Span := AE (AGR x) λ (i : Nat) => rI x i
abbrev dQ (x : MoI) : Nat := (dV x).length
abbrev AIQ (x : MoI) (i : Nat) : Span := gD (dV x) i
abbrev pZ (x : MoI) : Prop := qT x < (4611686018427387904 : Nat)
abbrev BAB (x : MoI) : Bool := bif BEE x then true else !XA (SS2.mk (TP x) (dV x))
abbrev AKR (x : MoI) : List Span := (BAS x).fst
abbrev AVH (x : MoI) : Nat := (AKR x).length
abbrev pW (x : MoI) (i : Nat) : Span := gD (AKR x) i
abbrev nO (x : MoI) : List Span := AE (AVH x) λ (i : Nat) => pW x i
abbrev nS (x : MoI) : Nat := (nO x).length
abbrev ATJ (x : MoI) (i : Nat) : Span := gD (nO x) i
abbrev AFS (x : MoI) : Bool := bif BAB x then true else !XA (SS2.mk (nO x) (TP x))
abbrev ATN (x : MoI) : List Span := (AFM x).fst
abbrev APH (x : MoI) : Nat := (ATN x).length
abbrev oK (x : MoI) (i : Nat) : Span := gD (ATN x) i
abbrev oD (x : MoI) : List Span := AE (APH x) λ (i : Nat) => oK x i
abbrev mW (x : MoI) : Nat := (oD x).length
abbrev AVO (x : MoI) (i : Nat) : Span := gD (oD x) i
abbrev dX (x : MoI) : Prop := (QL x).length = (QL x).length
abbrev gJ (x : MoI) : Prop := ∀ (i : Nat), i < (QL x).length -> gD (QL x) i = gD (QL x) i
abbrev ART (x : MoI) : FwR := CJ (lY x)
abbrev AWT (x : MoI) : FwR := CJ (lD x)
abbrev ARK (x : MoI) : Prop := (0 : Int) <= (0 : Int) /\ (0 : Int) < (↑(BI x).t.length : Int)
abbrev lC (x : MoI) : Int := IntKind.i64.wrap ((↑(BI x).t.length : Int) - (1 : Int))
abbrev BCU (x : MoI) : Int := gD (BI x).t (Int.toNat (0 : Int))
abbrev AFR (x : MoI) : Span × Int := AW (CZI.mk (CZ.mk (AUA x) (TW x)) (MP x))
abbrev AKN (x : MoI) : Span × Int := AW (CZI.mk (BCG x) (MP x))
abbrev BER (x : MoI) : Span × Int := AW (CZI.mk (BCD x) (MP x))
abbrev AIX (x : MoI) : Span := (AFR x).fst
abbrev ARG (x : MoI) : Int := (AIX x).lo
abbrev AQO (x : MoI) : Span := (AKN x).fst
abbrev AQP (x : MoI) : Int := (AIX x).hi
abbrev AON (x : MoI) : Span := (BER x).fst
abbrev AWC (x : MoI) : Prop := ∀ (a : One), True -> (AOU /\ AMP x = (CP x).bs.length /\ (∀ (i : Nat), i < AMP x -> gD (lH x) i = gD (CP x).bs i) /\ (CP x).used = (CP x).used /\ (CP
 x).mix = (CP x).mix /\ (0 : Int) <= (CP x).used /\ AOU /\ ATP x = AKV x /\ (∀ (i : Nat), i < ATP x -> gD (iE x) i = BCN x i) /\ Cm x = Cm x /\ qZ x = qZ x /\
 (Cm x - (0 : Int)).NonNeg) /\ ((∃ (a : Nat), (x.t = x.t /\ DQ x /\ DP x /\ DG x /\ DM x /\ BD /\ AGL x a /\ (↑(BL x a).nx : Int) = (0 : Int) /\ BNM a /\ DO x /\ DN x /\
 (AH x).base = (AH x).base /\ (AH x).scale = (AH x).scale /\ (AH x).off = (AH x).off /\ FO x /\ FI x /\ DY x /\ FT x /\ JG x /\ IR x /\ JP x /\ GS x /\ GK x /\ GN x
 /\ (BL x a).s.bs.length = (ARO x).length /\ (∀ (i : Nat), kX i x a -> gD (BL x a).s.bs i = gD (ARO x) i) /\ (BL x a).s.used = (mT x).used /\ (BL x a).s.mix = (mT x).mix /\ HS x /\
 HX x /\ (AJ x).base = (AJ x).base /\ (AJ x).scale = (AJ x).scale /\ (AJ x).off = (AJ x).off /\ OH x /\ PD x /\ NJ x /\ PG x /\ (AM x).p.lo = BJ (1 : Int) (IntKind.i64.wrap ((AH
 x).p.lo - AL (APB x) (3 : Int))) /\ (AM x).p.hi = IntKind.i64.wrap ((AH x).p.hi + AL (AMN x) (3 : Int)) /\ (AM x).base = (AH x).base /\ (AM x).scale = (AH x).scale /\ (AM x).off = (AH x).off /\
 (AM x).ms.length = (AH x).ms.length /\ (∀ (i : Nat), i < (AM x).ms.length -> (gD (AM x).ms i).pl = (gD (AH x).ms i).pl /\ (gD (AM x).ms i).ht = (gD (AH x).ms i).ht) /\ (AM x).ns.length = (AH x).ns.length /\ (∀
 (i : Nat), i < (AM x).ns.length -> (gD (AM x).ns i).mi = (gD (AH x).ns i).mi /\ (gD (AM x).ns i).t.lo = (gD (AH x).ns i).t.lo /\ (gD (AM x).ns i).t.hi = (gD (AH x).ns i).t.hi /\ (gD (AM x).ns i).s.lo = (gD (AH
 x).ns i).s.lo /\ (gD (AM x).ns i).s.hi = (gD (AH x).ns i).s.hi) /\ AGL x a /\ ∀ (i : Nat), Gu i x a -> gD (BL x a).q i = gD rM i) /\ oX a x) /\ ∀ (a : Nat), oX a x -> bif decide (AGI a <
 (↑(AH x).ms.length : Int)) then ((ASK x a = true -> (0 : Int) <= (↑(BL x a).nx : Int) /\ AXG x a) /\ (bif dI x a then ∃ (a_2 : Nat), (x.t = x.t /\ DQ x /\ DP x /\ DG x /\ DM x /\
 BD /\ kA x a_2 a /\ ANT x a_2 a /\ TS a_2 a /\ true = dI x a /\ ANT x a_2 a /\ APL x a_2 a) /\ AJT a_2 x a else ∃ (a_2 : Nat), (x.t = x.t /\ DQ x /\ DP x /\ DG x
 /\ DM x /\ BD /\ kA x a_2 a /\ (↑(BL x a_2).nx : Int) = (↑(BL x a).nx : Int) /\ TS a_2 a /\ false = dI x a /\ APL x a_2 a) /\ AJY a_2 x a) /\ (∀ (a_2 : Nat), AJT a_2 x a ->
 (true = false -> false = true) /\ AFW x a_2 /\ ∃ (a_4 : Nat), (x.t = x.t /\ DQ x /\ DP x /\ DG x /\ DM x /\ BD /\ lK x a_4 a_2 /\ (↑(nE x a_4) : Int) = cI x a_2 /\ TS
 a_4 a_2 /\ DO x /\ DN x /\ (AH x).base = (AH x).base /\ (AH x).scale = (AH x).scale /\ (AH x).off = (AH x).off /\ FO x /\ FI x /\ DY x /\ FT x /\ JG x /\ IR x /\ JP x /\
 GS x /\ GK x /\ GN x /\ Gx x a_4 = (BL x a_2).s.bs.length /\ (∀ (i : Nat), AQX i x a_4 -> cN x a_4 i = gD (BL x a_2).s.bs i) /\ iQ x a_4 = (BL x a_2).s.used /\ kQ x a_4
 = (BL x a_2).s.mix /\ AVV x a_4 a_2) /\ NO a_4 x a) /\ ∀ (a_2 : Nat), AJY a_2 x a -> ((4 : Int) = Int.ofNat (4 : Nat) /\ AHM x a_2 = (BL x a_2).s.bs.length /\ (∀ (i : Nat), i < AHM x a_2 -> gD
 (pP x a_2) i = gD (BL x a_2).s.bs i) /\ (BL x a_2).s.used = (BL x a_2).s.used /\ (BL x a_2).s.mix = (BL x a_2).s.mix /\ ((BL x a_2).s.used - (0 : Int)).NonNeg) /\ bif bif false then true else AL (ALB x
 a_2) (4 : Int) == (0 : Int) then AFW x a_2 /\ ∃ (a_4 : Nat), (x.t = x.t /\ DQ x /\ DP x /\ DG x /\ DM x /\ BD /\ lK x a_4 a_2 /\ AOG x a_4 a_2 /\ TS a_4 a_2 /\ DO x /\
 DN x /\ (AH x).base = (AH x).base /\ (AH x).scale = (AH x).scale /\ (AH x).off = (AH x).off /\ FO x /\ FI x /\ DY x /\ FT x /\ JG x /\ IR x /\ JP x /\ GS x /\ GK x
 /\ GN x /\ AKS x a_4 a_2 /\ AUK x a_4 a_2 /\ AGT x a_4 a_2 /\ BBM x a_4 a_2 /\ AVV x a_4 a_2) /\ NO a_4 x a else ∃ (a_4 : Nat), (x.t = x.t /\ DQ x /\ DP x /\ DG x /\
 DM x /\ BD /\ ANK x a_4 a_2 /\ AOG x a_4 a_2 /\ TS a_4 a_2 /\ DO x /\ DN x /\ (AH x).base = (AH x).base /\ (AH x).scale = (AH x).scale /\ (AH x).off = (AH x).off /\ FO x /\
 FI x /\ DY x /\ FT x /\ JG x /\ IR x /\ JP x /\ GS x /\ GK x /\ GN x /\ AKS x a_4 a_2 /\ AUK x a_4 a_2 /\ AGT x a_4 a_2 /\ BBM x a_4 a_2 /\ HS x
 /\ HX x /\ (AJ x).base = (AJ x).base /\ (AJ x).scale = (AJ x).scale /\ (AJ x).off = (AJ x).off /\ OH x /\ PD x /\ NJ x /\ PG x /\ LB x /\ LQ x /\ (AM x).base = (AM
 x).base /\ (AM x).scale = (AM x).scale /\ (AM x).off = (AM x).off /\ TL x /\ TB x /\ SZ x /\ TE x /\ ANK x a_4 a_2 /\ ∀ (i : Nat), AHT i x a_4 -> qY x a_4 i = gD (BL x
 a_2).q i) /\ NO a_4 x a) /\ BDO x a /\ BDO x a else ∃ (a_2 : One), (x.t = x.t /\ (QL x).length = (BL x a).q.length /\ (0 : Nat) + (BL x a).q.length <= (BL x a).q.length /\ (∀ (j : Nat), j < (QL x).length
 -> gD (QL x) j = gD (BL x a).q (kZ j)) /\ DQ x /\ DP x /\ AYR x) /\ True) /\ ∀ (a : One), True -> (HS x /\ HX x /\ (AJ x).base = (AJ x).base /\ (AJ x).scale = (AJ x).scale /\ (AJ
 x).off = (AJ x).off /\ pM x /\ oP x /\ dK x /\ gU x /\ Eg x /\ En x /\ BBZ x) /\ (LB x /\ LQ x /\ (AM x).base = (AM x).base /\ (AM x).scale = (AM x).scale /\
 (AM x).off = (AM x).off /\ ALG x /\ AWK x /\ BAT x /\ ASJ x /\ Eg x /\ En x /\ ALH x /\ BAF x /\ lV x) /\ (DO x /\ DN x /\ (AH x).base = (AH x).base /\ (AH
 x).scale = (AH x).scale /\ (AH x).off = (AH x).off /\ fN x /\ qM x /\ dS x /\ fY x /\ AWQ x /\ ATH x /\ BBG x) /\ ((((!BEE x) = true -> kI x /\ mJ x /\ dQ x
 = AGR x /\ (∀ (i : Nat), i < dQ x -> (AIQ x i).lo = (rI x i).lo /\ (AIQ x i).hi = (rI x i).hi) /\ pZ x /\ dQ x < (4611686018427387904 : Nat)) /\ ((!BAB x) = true ->
 nS x = AVH x /\ (∀ (i : Nat), i < nS x -> (ATJ x i).lo = (pW x i).lo /\ (ATJ x i).hi = (pW x i).hi) /\ kI x /\ mJ x /\ nS x < (4611686018427387904 : Nat) /\
 pZ x) /\ ((!AFS x) = true -> mW x = APH x /\ (∀ (i : Nat), i < mW x -> (AVO x i).lo = (oK x i).lo /\ (AVO x i).hi = (oK x i).hi) /\ kI x /\ mJ x /\
 mW x < (4611686018427387904 : Nat) /\ pZ x)) /\ bif bif AFS x then true else !XA (SS2.mk (oD x) (TP x)) then true = false else ∃ (a : One), (x.t = x.t /\ dX x /\ gJ x /\
 AYR x) /\ True) /\ ∀ (a : One), True -> (HS x /\ HX x /\ (AJ x).base = (AJ x).base /\ (AJ x).scale = (AJ x).scale /\ (AJ x).off = (AJ x).off /\ pM x /\ oP x /\ dK x /\ gU
 x /\ (BAL x /\ BCT x) /\ (AO (lY x) = (0 : Int) -> Gv x <= (12 : Nat))) /\ (LB x /\ LQ x /\ (AM x).base = (AM x).base /\ (AM x).scale = (AM x).scale /\ (AM x).off = (AM
 x).off /\ ALG x /\ AWK x /\ BAT x /\ ASJ x /\ (ALH x /\ BAF x) /\ (AO (lD x) = (0 : Int) -> Gk x <= (12 : Nat))) /\ (bif bif bif bif (ART x).e != (0 : Int) then true else
 (AWT x).e != (0 : Int) then true else decide ((↑(ART x).q.length : Int) < (↑(Mw x).length : Int)) then true else decide ((↑(AWT x).q.length : Int) > (↑(Mw x).length : Int)) then true = false else ∃ (a
 : One), (x.t = x.t /\ dX x /\ gJ x /\ gR x) /\ True) /\ ∀ (a : One), True -> ((ARK x /\ ((0 : Int) <= lC x /\ lC x < (↑(BI x).t.length : Int)) /\ ARK x) /\ ∃ (a : One), (dX x /\
 gJ x /\ MP x = IntKind.i64.wrap (BCU x + MX x.t (IntKind.i64.wrap (IntKind.i64.wrap (gD (BI x).t (lC x).toNat - BCU x) + (1 : Int)))) /\ gR x) /\ True) /\ ∀ (a : One), True -> (DO x
 /\ DN x /\ (AH x).base = (AH x).base /\ (AH x).scale = (AH x).scale /\ (AH x).off = (AH x).off /\ fN x /\ qM x /\ dS x /\ fY x /\ Eg x /\ En x /\ MP x = MP x /\ BAP x /\
 ANG x /\ lV x) /\ (HS x /\ HX x /\ (AJ x).base = (AJ x).base /\ (AJ x).scale = (AJ x).scale /\ (AJ x).off = (AJ x).off /\ pM x /\ oP x /\ dK x /\ gU x /\ Eg
 x /\ En x /\ MP x = MP x /\ BBZ x) /\ (DO x /\ DN x /\ (AH x).base = (AH x).base /\ (AH x).scale = (AH x).scale /\ (AH x).off = (AH x).off /\ fN x /\ qM x /\ dS x /\ fY x
 /\ AWQ x /\ ATH x /\ MP x = MP x /\ BBG x) /\ true = bif bif bif bif bif bif bif (AFR x).snd == (0 : Int) then (AKN x).snd == (0 : Int) else false then (BER x).snd == (0 : Int) else false
 then decide (ARG x <= (AQO x).lo) else false then decide (AQP x >= (AQO x).hi) else false then decide ((AON x).lo <= ARG x) else false then decide ((AON x).hi >= AQP x) else
 false then true else false
theorem DNF (x : MoI) : (DKT x) = ((ACC x = x.bs.length /\ (∀ (i : Nat), i < ACC x -> BIR x i = gD x.bs i) /\ (12 : Int) = Int.ofNat (12 : Nat) /\ true = true /\ CKX x = ACC x /\ (∀ (i : Nat), i <
 CKX x -> gD (BHR x) i = BIR x i) /\ CJK /\ CJK /\ (StmB (0 : Int) (CDX x) /\ (1 : Int) <= (12 : Int) /\ (12 : Int) <= (14 : Int)) /\ true = true) /\ (BHP x = x.cs.length /\ ∀ (i : Nat), i < BHP x ->
 CMI x i = gD x.cs i) /\ (Qi x /\ Nu x /\ Rh x /\ Ue x /\ Vi x /\ Ss x /\ Wr x /\ Pd x /\ Yg x /\ M0 x = U5 x /\ (∀ (i : Nat), i < M0 x -> gD (ACA x) i
 = Q0 x i) /\ BJI x /\ BLS x /\ M0 x < (4611686018427387904 : Nat)) /\ (Qi x /\ Nu x /\ Rh x /\ Ue x /\ Vi x /\ Ss x /\ Wr x /\ Pd x /\ Yg x /\ (BJI x /\
 BLS x) /\ (AO (Q6 x) = (0 : Int) -> PV x <= (12 : Nat))) /\ bif bif (BLC x).snd != (0 : Int) then true else (BJN x).e != (0 : Int) then true = false else (Qi x /\ Nu x /\ Rh x /\
 Ue x /\ Vi x /\ Ss x /\ Wr x /\ Pd x /\ Yg x /\ (BQN x /\ (0 : Nat) < PV x /\ BWG x) /\ Qi x /\ Nu x /\ Rh x /\ Ue x /\ Vi x /\ Ss x /\ Wr x
 /\ Pd x /\ Yg x /\ BQN x /\ BWG x) /\ ((∃ (a : Nat), (x.t = x.t /\ (RO x).length = (BKQ x).length /\ (∀ (i : Nat), i < (RO x).length -> (gD (RO x) i).lo = (CBD x i).lo /\ (gD (RO x) i).hi =
 (CBD x i).hi) /\ (Mw x).length = (BOQ x).length /\ (∀ (i : Nat), i < (Mw x).length -> gD (Mw x) i = gD (BOQ x) i) /\ BD /\ BD /\ Gy (AH x) a = (-1 : Int) /\ BNM a /\ AER x /\ V2 x /\
 P0 x /\ P3 x /\ AAC x /\ (AH x).ms.length = L4 x /\ (∀ (i : Nat), i < (AH x).ms.length -> (gD (AH x).ms i).pl = BKM x i /\ (gD (AH x).ms i).ht = BWK x i) /\ (AH x).ns.length = ACZ x /\
 (∀ (i : Nat), i < (AH x).ns.length -> (gD (AH x).ns i).mi = BXT x i /\ (gD (AH x).ns i).t.lo = CAR x i /\ (gD (AH x).ns i).t.hi = BQH x i /\ (gD (AH x).ns i).s.lo = BRN x i /\ (gD (AH x).ns i).s.hi =
 BYW x i) /\ (BI x).t.length = (BTQ x).length /\ (∀ (i : Nat), i < (BI x).t.length -> gD (BI x).t i = gD (BTQ x) i) /\ (BI x).s.length = (BTU x).length /\ (∀ (i : Nat), i < (BI x).s.length -> gD (BI
 x).s i = gD (BTU x) i) /\ (BI x).z.length = U5 x /\ (∀ (i : Nat), i < (BI x).z.length -> gD (BI x).z i = Q0 x i) /\ (BH x).bs.length = BHP x /\ (∀ (i : Nat), i < (BH x).bs.length -> gD (BH x).bs i
 = CMI x i) /\ (BH x).used = (0 : Int) /\ (BH x).mix = (0 : Int) /\ AER x /\ V2 x /\ P0 x /\ P3 x /\ AAC x /\ BXR x /\ BUW x /\ BD /\ T3 x /\ AER x /\ V2 x /\
 P0 x /\ P3 x /\ AAC x /\ BXR x /\ BUW x /\ T3 x /\ BZO x /\ BD /\ (∀ (i : Nat), i < (0 : Nat) -> Value.int IntKind.i64 (gD rM i) = default) /\ T3 x /\ BZO x) /\ a.le (AH
 x).ms.length) /\ ∀ (a : Nat), a.le (AH x).ms.length -> bif decide ((↑a : Int) < (↑(AH x).ms.length : Int)) then ((∃ (a_2 : IJ), (x.t = x.t /\ DQ x /\ DP x /\ DG x /\ DM x /\ BD /\ BD /\ Gy
 (AH x) a_2.i = Gy (AH x) a /\ (↑a_2.i : Int) = (↑a : Int) /\ Ol x a_2 = false /\ (↑a_2.j : Int) = (0 : Int) /\ TY x) /\ nM a_2 x a) /\ ∀ (a_2 : IJ), nM a_2 x a -> bif decide (APP a_2 x) then
 (AIE x a_2 = true -> (0 : Int) <= (↑a_2.j : Int) /\ APP a_2 x) /\ ∃ (a_4 : IJ), (x.t = x.t /\ DQ x /\ DP x /\ DG x /\ DM x /\ BD /\ BD /\ Gy (AH x) a_4.i = Gy (AH x) a_2.i /\
 (↑a_4.i : Int) = (↑a_2.i : Int) /\ (Ol x a_4 = bif Ol x a_2 then true else (gD (AH x).ns a_2.j).mi == (↑a_2.i : Int)) /\ (↑a_4.j : Int) = IntKind.i64.wrap ((↑a_2.j : Int) + (1 : Int)) /\ TY x) /\
 nM a_4 x a /\ AIK x a_4 < AIK x a_2 else bif AIE x a_2 then ∃ (a_4 : Nat), (x.t = x.t /\ DQ x /\ DP x /\ DG x /\ DM x /\ BD /\ BD /\ gG x a_4 = (↑a_2.i : Int) /\
 BCY a_4 a_2 x) /\ pQ a_4 x a else ∃ (a_4 : Nat), (x.t = x.t /\ DQ x /\ DP x /\ DG x /\ DM x /\ BD /\ BD /\ gG x a_4 = Gy (AH x) a_2.i /\ BCY a_4 a_2 x) /\ pQ
 a_4 x a) /\ ∀ (a_2 : Nat), pQ a_2 x a -> ∃ (a_4 : Nat), (x.t = x.t /\ DQ x /\ DP x /\ DG x /\ DM x /\ BD /\ BD /\ Gy (AH x) a_4 = gG x a_2 /\ ARQ a_4 a_2 /\ TY x) /\
 a_4.le (AH x).ms.length /\ AGU x a_4 a else ∃ (a_2 : One), (x.t = x.t /\ DQ x /\ DP x /\ DG x /\ DM x /\ BD /\ BD /\ CS x = Gy (AH x) a /\ TY x) /\ True) /\ ∀ (a : One), True ->
 (bif bif decide (CS x >= (0 : Int)) then decide ((↑(AH x).ns.length : Int) < (20 : Int)) else false then (AKF x /\ AVL /\ AXZ x = (BH x).bs.length /\ (∀ (i : Nat), i < AXZ x -> gD (lN x) i
 = gD (BH x).bs i) /\ (BH x).used = (BH x).used /\ (BH x).mix = (BH x).mix /\ (0 : Int) <= (BH x).used /\ AKF x /\ AVL /\ AZD x = ATE x /\ (∀ (i : Nat), i < AZD x -> gD (fB x) i =
 AIP x i) /\ Bz x = Bz x /\ lI x = lI x /\ (0 : Int) <= Bz x /\ AOJ x /\ AUH /\ BDG x = BBP x /\ (∀ (i : Nat), i < BDG x -> gD (lX x) i = AIG x i)
 /\ Cs x = Cs x /\ jH x = jH x /\ (0 : Int) <= Cs x /\ AOJ x /\ AUH /\ BDE x = AWV x /\ (∀ (i : Nat), i < BDE x -> gD (eR x) i = ARS x i) /\ Ex x
 = Ex x /\ oT x = oT x /\ (0 : Int) <= Ex x /\ (DY x /\ ((0 : Nat) < (AH x).ns.length -> AYL)) /\ (AXS /\ (gQ -> AYL)) /\ AWU /\ SA x <= (9223372036854775807 :
 Nat) /\ SA x * (40 : Nat) <= (140737488355328 : Nat)) /\ ∃ (a : One), (x.t = x.t /\ DQ x /\ DP x /\ DG x /\ DM x /\ BD /\ BD /\ DO x /\ DN x /\ (AH x).base = (AH x).base /\
 (AH x).scale = (AH x).scale /\ (AH x).off = (AH x).off /\ FO x /\ FI x /\ DY x /\ FT x /\ JG x /\ IR x /\ JP x /\ GS x /\ GK x /\ GN x /\ (CP x).bs.length =
 (AUB x).length /\ (∀ (i : Nat), i < (CP x).bs.length -> gD (CP x).bs i = gD (AUB x) i) /\ (CP x).used = (mX x).used /\ (CP x).mix = (mX x).mix /\ ATT x /\ AGV x /\ (AJ x).base =
 (AH x).base /\ (AJ x).scale = (AH x).scale /\ (AJ x).off = (AH x).off /\ ARY x /\ BBO x /\ (AJ x).ns.length = SA x /\ (0 : Nat) + SA x <= SA x /\ (∀ (j : Nat), j < (AJ x).ns.length ->
 ((gD (AJ x).ns j).mi = bif RZ j x then BDC x j else CS x) /\ ((gD (AJ x).ns j).t.lo = bif RZ j x then AVB x j else BJ (0 : Int) (IntKind.i64.wrap (gD (BI x).t (CS x).toNat - AL
 (AQQ x) (20 : Int)))) /\ ((gD (AJ x).ns j).t.hi = bif RZ j x then AVU x j else IntKind.i64.wrap (gD (BI x).t (CS x).toNat + AL (BBJ x) (20 : Int))) /\ ((gD (AJ x).ns j).s.lo = bif
 RZ j x then APQ x j else IntKind.i64.wrap (gD (BI x).s (CS x).toNat - AL (BDR x) (5 : Int))) /\ (gD (AJ x).ns j).s.hi = bif RZ j x then AJK x j else IntKind.i64.wrap (gD (BI x).s
 (CS x).toNat + AL (AGW x) (5 : Int))) /\ BCL x) /\ True else ∃ (a : One), (x.t = x.t /\ DQ x /\ DP x /\ DG x /\ DM x /\ BD /\ BD /\ DO x /\ DN x /\ (AH x).base =
 (AH x).base /\ (AH x).scale = (AH x).scale /\ (AH x).off = (AH x).off /\ FO x /\ FI x /\ DY x /\ FT x /\ JG x /\ IR x /\ JP x /\ GS x /\ GK x /\ GN x /\ (CP
 x).bs.length = (BH x).bs.length /\ (∀ (i : Nat), i < (CP x).bs.length -> gD (CP x).bs i = gD (BH x).bs i) /\ (CP x).used = (BH x).used /\ (CP x).mix = (BH x).mix /\ ATT x /\ AGV x /\ (AJ x).base =
 (AH x).base /\ (AJ x).scale = (AH x).scale /\ (AJ x).off = (AH x).off /\ ARY x /\ BBO x /\ (AJ x).ns.length = (AH x).ns.length /\ (0 : Nat) + (AH x).ns.length <= (AH x).ns.length /\ (∀ (j : Nat), j <
 (AJ x).ns.length -> (gD (AJ x).ns j).mi = BDC x j /\ (gD (AJ x).ns j).t.lo = AVB x j /\ (gD (AJ x).ns j).t.hi = AVU x j /\ (gD (AJ x).ns j).s.lo = APQ x j /\ (gD (AJ x).ns j).s.hi =
 AJK x j) /\ BCL x) /\ True) /\ AWC x /\ AWC x) := by kernel_rfl
def DKS (x : MoI) : Prop := AZ Try.prog (A_Mo false x) P8 (AN P8) (xMo x) (AF []) (.bool true) [] [] []
abbrev CIL (x : MoI) : List Int := AE x.bs.length λ (i : Nat) => gD x.bs i
abbrev ABW (x : MoI) : Nat := (CIL x).length
abbrev BJE (x : MoI) (i : Nat) : Int := gD (CIL x) i
abbrev BGD (x : MoI) : List Int := AE (ABW x) λ (i : Nat) => BJE x i
abbrev CMA (x : MoI) : Nat := (BGD x).length
abbrev CML : Prop := (0 : Int) = (0 : Int)
abbrev CJE (x : MoI) : Stm := Stm.mk (BGD x) (0 : Int) (0 : Int)
abbrev CJI (x : MoI) : List Int := AE x.cs.length λ (i : Nat) => gD x.cs i
abbrev BGU (x : MoI) : Nat := (CJI x).length
abbrev CJA (x : MoI) (i : Nat) : Int := gD (CJI x) i
abbrev BQL (x : MoI) : MkI := MkI.mk (CJE x) (12 : Int) true
abbrev VI (x : MoI) : Cht := HT (BQL x)
abbrev ADL (x : MoI) : Span := (VI x).p
abbrev AEU (x : MoI) : Int := (ADL x).lo
abbrev Zn (x : MoI) : Prop := AEU x = AEU x
abbrev O9 (x : MoI) : Int := (ADL x).hi
abbrev Pa (x : MoI) : Prop := O9 x = O9 x
abbrev bD (x : MoI) : Int := (VI x).base
abbrev Pn (x : MoI) : Prop := bD x = bD x
abbrev Wd (x : MoI) : Int := (VI x).scale
abbrev Pk (x : MoI) : Prop := Wd x = Wd x
abbrev Yw (x : MoI) : Int := (VI x).off
abbrev Uf (x : MoI) : Prop := Yw x = Yw x
abbrev BRD (x : MoI) : List Mk := (VI x).ms
abbrev ADF (x : MoI) : Nat := (BRD x).length
abbrev P2 (x : MoI) (i : Nat) : Mk := gD (BRD x) i
abbrev Q3 (x : MoI) : List Mk := AE (ADF x) λ (i : Nat) => P2 x i
abbrev Ch (x : MoI) : Nat := (Q3 x).length
abbrev Uy (x : MoI) : Prop := Ch x = ADF x
abbrev BSX (x : MoI) (i : Nat) : Mk := gD (Q3 x) i
abbrev BSY (x : MoI) (i : Nat) : Int := (BSX x i).pl
abbrev BRR (x : MoI) (i : Nat) : Int := (P2 x i).pl
abbrev BTD (x : MoI) (i : Nat) : Int := (BSX x i).ht
abbrev BVI (x : MoI) (i : Nat) : Int := (P2 x i).ht
abbrev Xa (x : MoI) : Prop := ∀ (i : Nat), i < Ch x -> BSY x i = BRR x i /\ BTD x i = BVI x i
abbrev BRY (x : MoI) : List Nt := (VI x).ns
abbrev L2 (x : MoI) : Nat := (BRY x).length
abbrev Zi (x : MoI) (i : Nat) : Nt := gD (BRY x) i
abbrev W3 (x : MoI) : List Nt := AE (L2 x) λ (i : Nat) => Zi x i
abbrev QI (x : MoI) : Nat := (W3 x).length
abbrev Pv (x : MoI) : Prop := QI x = L2 x
abbrev W5 (x : MoI) (i : Nat) : Nt := gD (W3 x) i
abbrev BLW (x : MoI) (i : Nat) : Int := (W5 x i).mi
abbrev BVU (x : MoI) (i : Nat) : Int := (Zi x i).mi
abbrev BKU (x : MoI) (i : Nat) : Span := (W5 x i).t
abbrev BQI (x : MoI) (i : Nat) : Int := (BKU x i).lo
abbrev BMV (x : MoI) (i : Nat) : Span := (Zi x i).t
abbrev BKK (x : MoI) (i : Nat) : Int := (BMV x i).lo
abbrev BKP (x : MoI) (i : Nat) : Int := (BKU x i).hi
abbrev BML (x : MoI) (i : Nat) : Int := (BMV x i).hi
abbrev BYJ (x : MoI) (i : Nat) : Span := (W5 x i).s
abbrev BPS (x : MoI) (i : Nat) : Int := (BYJ x i).lo
abbrev BKI (x : MoI) (i : Nat) : Span := (Zi x i).s
abbrev BTF (x : MoI) (i : Nat) : Int := (BKI x i).lo
abbrev BSU (x : MoI) (i : Nat) : Int := (BYJ x i).hi
abbrev BQG (x : MoI) (i : Nat) : Int := (BKI x i).hi
abbrev Ou (x : MoI) : Prop := ∀ (i : Nat), i < QI x -> BLW x i = BVU x i /\ BQI x i = BKK x i /\ BKP x i = BML x i /\ BPS x i = BTF x i /\ BSU x i = BQG x i
abbrev ACX (x : MoI) : Tru := xZ (BQL x)
abbrev BQC (x : MoI) : List Int := (ACX x).z
abbrev R0 (x : MoI) : Nat := (BQC x).length
abbrev AEL (x : MoI) (i : Nat) : Int := gD (BQC x) i
abbrev ACD (x : MoI) : List Int := AE (R0 x) λ (i : Nat) => AEL x i
abbrev ADY (x : MoI) : Nat := (ACD x).length
abbrev BXS (x : MoI) : Prop := Ch x < (4611686018427387904 : Nat)
abbrev BQJ (x : MoI) : Prop := QI x < (4611686018427387904 : Nat)
abbrev W9 (x : MoI) : Cht := Cht.mk (ADL x) (bD x) (Wd x) (Yw x) (Q3 x) (W3 x)
abbrev BKC (x : MoI) : List Span × Int := NT (CZ.mk (W9 x) (ACD x))
abbrev BWQ (x : MoI) : FwR := CJ (W9 x)
abbrev BSD (x : MoI) : Prop := Ch x < (1073741824 : Nat)
abbrev BZC (x : MoI) : List Span := (BKC x).fst
abbrev BMS (x : MoI) (i : Nat) : Span := gD (BZC x) i
abbrev BPN (x : MoI) : List Int := (BWQ x).q
abbrev BG : Prop := (0 : Nat) = (0 : Nat)
abbrev BVM (a : Nat) : Prop := (↑a : Int) = (0 : Int)
abbrev T9 (x : MoI) : Prop := (AH x).p.lo = AEU x
abbrev ADZ (x : MoI) : Prop := (AH x).p.hi = O9 x
abbrev Z9 (x : MoI) : Prop := (AH x).base = bD x
abbrev O3 (x : MoI) : Prop := (AH x).scale = Wd x
abbrev ABE (x : MoI) : Prop := (AH x).off = Yw x
abbrev BMQ (x : MoI) : List Int := (ACX x).t
abbrev BSF (x : MoI) : List Int := (ACX x).s
abbrev BWX (x : MoI) : Prop := (AH x).ms.length = Ch x
abbrev BLG (x : MoI) : Prop := ∀ (i : Nat), i < (AH x).ms.length -> (gD (AH x).ms i).pl = BSY x i /\ (gD (AH x).ms i).ht = BTD x i
abbrev BNP : Prop := ∀ (i : Nat), i < (0 : Nat) -> false = false
abbrev DI (x : MoI) : Prop := (RO x).length = (RO x).length
abbrev DK (x : MoI) : Prop := ∀ (i : Nat), i < (RO x).length -> (gD (RO x) i).lo = (gD (RO x) i).lo /\ (gD (RO x) i).hi = (gD (RO x) i).hi
abbrev DR (x : MoI) : Prop := (Mw x).length = (Mw x).length
abbrev DJ (x : MoI) : Prop := ∀ (i : Nat), i < (Mw x).length -> gD (Mw x) i = gD (Mw x) i
abbrev Us (x : MoI) (a : IJ) : Bool := hsK (AH x).ns (↑a.i : Int) a.j
abbrev EC (x : MoI) : Prop := (AH x).p.lo = (AH x).p.lo
abbrev DZ (x : MoI) : Prop := (AH x).p.hi = (AH x).p.hi
abbrev GM (x : MoI) : Prop := (AH x).ms.length = (AH x).ms.length
abbrev GO (x : MoI) : Prop := ∀ (i : Nat), i < (AH x).ms.length -> (gD (AH x).ms i).pl = (gD (AH x).ms i).pl /\ (gD (AH x).ms i).ht = (gD (AH x).ms i).ht
abbrev HL (x : MoI) : Prop := (AH x).ns.length = (AH x).ns.length
abbrev HM (x : MoI) : Prop := ∀ (i : Nat), i < (AH x).ns.length -> (gD (AH x).ns i).mi = (gD (AH x).ns i).mi /\ (gD (AH x).ns i).t.lo = (gD (AH x).ns i).t.lo /\ (gD (AH x).ns i).t.hi = (gD (AH x).ns i).t.hi /\
 (gD (AH x).ns i).s.lo = (gD (AH x).ns i).s.lo /\ (gD (AH x).ns i).s.hi = (gD (AH x).ns i).s.hi
abbrev IS (x : MoI) : Prop := (BI x).t.length = (BI x).t.length
abbrev JA (x : MoI) : Prop := ∀ (i : Nat), i < (BI x).t.length -> gD (BI x).t i = gD (BI x).t i
abbrev JH (x : MoI) : Prop := (BI x).s.length = (BI x).s.length
abbrev JQ (x : MoI) : Prop := ∀ (i : Nat), i < (BI x).s.length -> gD (BI x).s i = gD (BI x).s i
abbrev IX (x : MoI) : Prop := (BI x).z.length = (BI x).z.length
abbrev GR (x : MoI) : Prop := ∀ (i : Nat), i < (BI x).z.length -> gD (BI x).z i = gD (BI x).z i
abbrev dR (x : MoI) : Prop := EC x /\ DZ x /\ (AH x).base = (AH x).base /\ (AH x).scale = (AH x).scale /\ (AH x).off = (AH x).off /\ GM x /\ GO x /\ HL x /\ HM x /\ BG /\ ∀ (i
 : Nat), i < (0 : Nat) -> gD rM i = gD rM i
abbrev SV (x : MoI) : Prop := EC x /\ DZ x /\ (AH x).base = (AH x).base /\ (AH x).scale = (AH x).scale /\ (AH x).off = (AH x).off /\ GM x /\ GO x /\ HL x /\ HM x /\ IS x /\
 JA x /\ JH x /\ JQ x /\ IX x /\ GR x /\ (BH x).bs.length = (BH x).bs.length /\ (∀ (i : Nat), i < (BH x).bs.length -> gD (BH x).bs i = gD (BH x).bs i) /\ (BH x).used = (BH x).used /\
 (BH x).mix = (BH x).mix /\ EC x /\ DZ x /\ (AH x).base = (AH x).base /\ (AH x).scale = (AH x).scale /\ (AH x).off = (AH x).off /\ GM x /\ GO x /\ BG /\ BNP /\ dR x
abbrev SY (x : MoI) (a : Nat) : Nat := (AH x).ms.length - a
abbrev gX (a : IJ) (x : MoI) (a1 : Nat) : Prop := (a.i < (AH x).ms.length /\ (AH x).ms.length - a.i = SY x a1) /\ a.j <= (AH x).ns.length
abbrev AXN (a : IJ) (x : MoI) : Prop := (↑a.j : Int) < (↑(AH x).ns.length : Int)
abbrev BEW (x : MoI) (a : IJ) : Bool := !Us x a
abbrev AWH (x : MoI) (a : IJ) : Nat := (AH x).ns.length - a.j
abbrev AUF (a : Nat) : Nat := a + (1 : Nat)
abbrev mF (x : MoI) (a : Nat) : Int := Gy (AH x) (AUF a)
abbrev AXV (a : Nat) (a1 : IJ) (x : MoI) : Prop := (↑a : Int) = (↑a1.i : Int) /\ SV x
abbrev AUC (x : MoI) (a : Nat) (a1 : Nat) : Prop := SY x a = SY x a1
abbrev pL (a : Nat) (x : MoI) (a1 : Nat) : Prop := a < (AH x).ms.length /\ AUC x a a1
abbrev AWL (a : Nat) : Int := IntKind.i64.wrap ((↑a : Int) + (1 : Int))
abbrev AIS (a : Nat) (a1 : Nat) : Prop := (↑a : Int) = AWL a1
abbrev AZP (x : MoI) (a : Nat) (a1 : Nat) : Prop := SY x a < SY x a1
abbrev AIA (x : MoI) : Prop := (0 : Int) <= CS x
abbrev BCW (x : MoI) : Prop := AIA x /\ CS x < (↑(BI x).t.length : Int)
abbrev BDP : Prop := (20 : Int) = Int.ofNat (20 : Nat)
abbrev pO (x : MoI) : List Int := AE (BH x).bs.length λ (i : Nat) => gD (BH x).bs i
abbrev AMJ (x : MoI) : Nat := (pO x).length
abbrev AJX (x : MoI) : Stm := Stm.mk (pO x) (BH x).used (BH x).mix
abbrev dB (x : MoI) : Stm := AQ (AJX x) (20 : Int)
abbrev AWR (x : MoI) : List Int := (dB x).bs
abbrev AQL (x : MoI) : Nat := (AWR x).length
abbrev AVG (x : MoI) (i : Nat) : Int := gD (AWR x) i
abbrev pN (x : MoI) : List Int := AE (AQL x) λ (i : Nat) => AVG x i
abbrev BCQ (x : MoI) : Nat := (pN x).length
abbrev Dp (x : MoI) : Int := (dB x).used
abbrev rG (x : MoI) : Int := (dB x).mix
abbrev BEU (x : MoI) : Prop := AIA x /\ CS x < (↑(BI x).s.length : Int)
abbrev AWB : Prop := (5 : Int) = Int.ofNat (5 : Nat)
abbrev ALW (x : MoI) : Stm := Stm.mk (pN x) (Dp x) (rG x)
abbrev iC (x : MoI) : Stm := AQ (ALW x) (20 : Int)
abbrev BCF (x : MoI) : List Int := (iC x).bs
abbrev AYN (x : MoI) : Nat := (BCF x).length
abbrev ARR (x : MoI) (i : Nat) : Int := gD (BCF x) i
abbrev dU (x : MoI) : List Int := AE (AYN x) λ (i : Nat) => ARR x i
abbrev AVY (x : MoI) : Nat := (dU x).length
abbrev Cn (x : MoI) : Int := (iC x).used
abbrev fH (x : MoI) : Int := (iC x).mix
abbrev BCH (x : MoI) : Stm := Stm.mk (dU x) (Cn x) (fH x)
abbrev jS (x : MoI) : Stm := AQ (BCH x) (5 : Int)
abbrev ASP (x : MoI) : List Int := (jS x).bs
abbrev BDM (x : MoI) : Nat := (ASP x).length
abbrev AUL (x : MoI) (i : Nat) : Int := gD (ASP x) i
abbrev kT (x : MoI) : List Int := AE (BDM x) λ (i : Nat) => AUL x i
abbrev ANQ (x : MoI) : Nat := (kT x).length
abbrev Fg (x : MoI) : Int := (jS x).used
abbrev oE (x : MoI) : Int := (jS x).mix
abbrev qL : Prop := (1 : Nat) <= (1 : Nat)
abbrev Bu : Prop := (0 : Nat) < (1 : Nat)
abbrev ATS (x : MoI) : Stm := Stm.mk (kT x) (Fg x) (oE x)
abbrev kO (x : MoI) : Stm := AQ (ATS x) (5 : Int)
abbrev ASA (x : MoI) : List Int := (kO x).bs
abbrev BBY (x : MoI) : Prop := (AJ x).p.lo = (AH x).p.lo
abbrev AZH (x : MoI) : Prop := (AJ x).p.hi = (AH x).p.hi
abbrev AVC (x : MoI) : Prop := (AJ x).ms.length = (AH x).ms.length
abbrev BCB (x : MoI) : Prop := ∀ (i : Nat), i < (AJ x).ms.length -> (gD (AJ x).ms i).pl = (gD (AH x).ms i).pl /\ (gD (AJ x).ms i).ht = (gD (AH x).ms i).ht
abbrev ALP (x : MoI) : Prop := (AJ x).ns.length = (0 : Nat)
abbrev AOB : Prop := (3 : Int) = Int.ofNat (3 : Nat)
abbrev oM (x : MoI) : List Int := AE (CP x).bs.length λ (i : Nat) => gD (CP x).bs i
abbrev AJL (x : MoI) : Nat := (oM x).length
abbrev ATB (x : MoI) : Stm := Stm.mk (oM x) (CP x).used (CP x).mix
abbrev qF (x : MoI) : Stm := AQ (ATB x) (3 : Int)
abbrev ATO (x : MoI) : List Int := (qF x).bs
abbrev AJV (x : MoI) : Nat := (ATO x).length
abbrev AOA (x : MoI) (i : Nat) : Int := gD (ATO x) i
abbrev lQ (x : MoI) : List Int := AE (AJV x) λ (i : Nat) => AOA x i
abbrev BEH (x : MoI) : Nat := (lQ x).length
abbrev Cx (x : MoI) : Int := (qF x).used
abbrev gS (x : MoI) : Int := (qF x).mix
abbrev AWW (x : MoI) (a : Nat) : Prop := (BL x a).q.length = (0 : Nat)
abbrev AKJ (x : MoI) : Stm := Stm.mk (lQ x) (Cx x) (gS x)
abbrev rF (x : MoI) : Stm := AQ (AKJ x) (3 : Int)
abbrev AVS (x : MoI) : List Int := (rF x).bs
abbrev fD (i : Nat) (x : MoI) (a : Nat) : Prop := i < (BL x a).s.bs.length
abbrev HR (x : MoI) : Prop := (AJ x).p.lo = (AJ x).p.lo
abbrev HU (x : MoI) : Prop := (AJ x).p.hi = (AJ x).p.hi
abbrev NH (x : MoI) : Prop := (AJ x).ms.length = (AJ x).ms.length
abbrev NK (x : MoI) : Prop := ∀ (i : Nat), i < (AJ x).ms.length -> (gD (AJ x).ms i).pl = (gD (AJ x).ms i).pl /\ (gD (AJ x).ms i).ht = (gD (AJ x).ms i).ht
abbrev OR (x : MoI) : Prop := (AJ x).ns.length = (AJ x).ns.length
abbrev NB (x : MoI) : Prop := ∀ (i : Nat), i < (AJ x).ns.length -> (gD (AJ x).ns i).mi = (gD (AJ x).ns i).mi /\ (gD (AJ x).ns i).t.lo = (gD (AJ x).ns i).t.lo /\ (gD (AJ x).ns i).t.hi = (gD (AJ x).ns
 i).t.hi /\ (gD (AJ x).ns i).s.lo = (gD (AJ x).ns i).s.lo /\ (gD (AJ x).ns i).s.hi = (gD (AJ x).ns i).s.hi
abbrev Es (i : Nat) (x : MoI) (a : Nat) : Prop := i < (BL x a).q.length
abbrev AIL (x : MoI) : Nat := (AH x).ms.length - (1 : Nat)
abbrev gV (a : Nat) (x : MoI) : Prop := a.le (AIL x)
abbrev AJG (x : MoI) (a : Nat) : Prop := (↑(BL x a).nx : Int) < (↑(BI x).z.length : Int)
abbrev AXB (x : MoI) (a : Nat) : Bool := decide (AJG x a)
abbrev jX (x : MoI) (a : Nat) : Bool := bif AXB x a then gD (BI x).z (BL x a).nx == (↑a : Int) else false
abbrev qI (x : MoI) (a : Nat) (a1 : Nat) : Prop := (BL x a).q.length = (BL x a1).q.length
abbrev cV (x : MoI) (a : Nat) : Int := (↑(BL x a).nx : Int) + (1 : Int)
abbrev AOT (x : MoI) (a : Nat) (a1 : Nat) : Prop := cV x a = IntKind.i64.wrap (cV x a1)
abbrev RV (a : Nat) (a1 : Nat) : Prop := (↑a : Int) = (↑a1 : Int)
abbrev LJ (x : MoI) : Prop := (AM x).p.lo = (AM x).p.lo
abbrev LM (x : MoI) : Prop := (AM x).p.hi = (AM x).p.hi
abbrev UB (x : MoI) : Prop := (AM x).ms.length = (AM x).ms.length
abbrev UD (x : MoI) : Prop := ∀ (i : Nat), i < (AM x).ms.length -> (gD (AM x).ms i).pl = (gD (AM x).ms i).pl /\ (gD (AM x).ms i).ht = (gD (AM x).ms i).ht
abbrev SK (x : MoI) : Prop := (AM x).ns.length = (AM x).ns.length
abbrev SD (x : MoI) : Prop := ∀ (i : Nat), i < (AM x).ns.length -> (gD (AM x).ns i).mi = (gD (AM x).ns i).mi /\ (gD (AM x).ns i).t.lo = (gD (AM x).ns i).t.lo /\ (gD (AM x).ns i).t.hi = (gD (AM x).ns
 i).t.hi /\ (gD (AM x).ns i).s.lo = (gD (AM x).ns i).s.lo /\ (gD (AM x).ns i).s.hi = (gD (AM x).ns i).s.hi
abbrev AIH (x : MoI) (a : Nat) (a1 : Nat) : Prop := EC x /\ DZ x /\ (AH x).base = (AH x).base /\ (AH x).scale = (AH x).scale /\ (AH x).off = (AH x).off /\ GM x /\ GO x /\ HL x /\
 HM x /\ IS x /\ JA x /\ JH x /\ JQ x /\ IX x /\ GR x /\ (BL x a).s.bs.length = (BL x a1).s.bs.length /\ (∀ (i : Nat), fD i x a -> gD (BL x a).s.bs i = gD (BL x a1).s.bs i) /\
 (BL x a).s.used = (BL x a1).s.used /\ (BL x a).s.mix = (BL x a1).s.mix /\ HR x /\ HU x /\ (AJ x).base = (AJ x).base /\ (AJ x).scale = (AJ x).scale /\ (AJ x).off = (AJ x).off /\ NH x /\
 NK x /\ OR x /\ NB x /\ LJ x /\ LM x /\ (AM x).base = (AM x).base /\ (AM x).scale = (AM x).scale /\ (AM x).off = (AM x).off /\ UB x /\ UD x /\ SK x /\ SD x
 /\ qI x a a1 /\ ∀ (i : Nat), Es i x a -> gD (BL x a).q i = gD (BL x a1).q i
abbrev MZ (a : Nat) (x : MoI) (a1 : Nat) : Prop := a < AIL x /\ AUC x a a1
abbrev ARI (a : Nat) (x : MoI) (a1 : Nat) : Prop := MZ a x a1 /\ Ir (BI x).z a (BL x a) = true
abbrev AYJ (a : Nat) (x : MoI) (a1 : Nat) : Prop := MZ a x a1 /\ Ir (BI x).z a (BL x a) = false
abbrev AYB : Prop := (1 : Nat) = (1 : Nat)
abbrev kB (x : MoI) (a : Nat) : Nat := (BL x a).q.length + (1 : Nat)
abbrev AMS (x : MoI) (a : Nat) : Prop := ((BL x a).q.length = (BL x a).q.length /\ ((0 : Nat) < (BL x a).q.length -> AYB)) /\ (qL /\ (Bu -> AYB)) /\ (false = true -> Bu) /\ kB x a
 <= (9223372036854775807 : Nat) /\ kB x a * (8 : Nat) <= (140737488355328 : Nat)
abbrev dP (x : MoI) (a : Nat) : SgS := BL x (AUF a)
abbrev AKI (x : MoI) (a : Nat) : List Int := (dP x a).q
abbrev Fm (x : MoI) (a : Nat) : Nat := (AKI x a).length
abbrev dD (x : MoI) (a : Nat) (a1 : Nat) : Prop := Fm x a = kB x a1
abbrev jD (x : MoI) (a : Nat) : Nat := (dP x a).nx
abbrev fJ (x : MoI) (a : Nat) : Stm := (dP x a).s
abbrev AOC (x : MoI) (a : Nat) : List Int := (fJ x a).bs
abbrev Dq (x : MoI) (a : Nat) : Nat := (AOC x a).length
abbrev AHE (i : Nat) (x : MoI) (a : Nat) : Prop := i < Dq x a
abbrev mH (x : MoI) (a : Nat) (i : Nat) : Int := gD (AOC x a) i
abbrev fO (x : MoI) (a : Nat) : Int := (fJ x a).used
abbrev nK (x : MoI) (a : Nat) : Int := (fJ x a).mix
abbrev AKA (i : Nat) (x : MoI) (a : Nat) : Prop := i < Fm x a
abbrev eV (x : MoI) (a : Nat) (i : Nat) : Int := gD (AKI x a) i
abbrev ALJ (x : MoI) (a : Nat) (a1 : Nat) : Prop := HR x /\ HU x /\ (AJ x).base = (AJ x).base /\ (AJ x).scale = (AJ x).scale /\ (AJ x).off = (AJ x).off /\ NH x /\ NK x /\ OR
 x /\ NB x /\ LJ x /\ LM x /\ (AM x).base = (AM x).base /\ (AM x).scale = (AM x).scale /\ (AM x).off = (AM x).off /\ UB x /\ UD x /\ SK x /\ SD x /\ dD x a a1 /\ ∀
 (i : Nat), AKA i x a -> eV x a i = bif decide (Es i x a1) then gD (BL x a1).q i else (↑a1 : Int)
abbrev pS (x : MoI) (a : Nat) : List Int := AE (BL x a).s.bs.length λ (i : Nat) => gD (BL x a).s.bs i
abbrev BAX (x : MoI) (a : Nat) : Nat := (pS x a).length
abbrev ALI (x : MoI) (a : Nat) : Stm := Stm.mk (pS x a) (BL x a).s.used (BL x a).s.mix
abbrev BEA (x : MoI) (a : Nat) (a1 : Nat) : Prop := (↑(jD x a) : Int) = (↑(BL x a1).nx : Int)
abbrev jM (x : MoI) (a : Nat) : Stm := AQ (ALI x a) (4 : Int)
abbrev AXL (x : MoI) (a : Nat) : List Int := (jM x a).bs
abbrev AMZ (x : MoI) (a : Nat) (a1 : Nat) : Prop := Dq x a = (AXL x a1).length
abbrev BDZ (x : MoI) (a : Nat) (a1 : Nat) : Prop := ∀ (i : Nat), AHE i x a -> mH x a i = gD (AXL x a1) i
abbrev AIV (x : MoI) (a : Nat) (a1 : Nat) : Prop := fO x a = (jM x a1).used
abbrev BEC (x : MoI) (a : Nat) (a1 : Nat) : Prop := nK x a = (jM x a1).mix
abbrev ALL (x : MoI) (a : Nat) (a1 : Nat) : Prop := Fm x a = (BL x a1).q.length
abbrev AKX (x : MoI) (a : Nat) (a1 : Nat) : Prop := (BL x a).q.length = Fm x a1
abbrev AKP (x : MoI) (a : Nat) : Prop := ∀ (a_1 : Nat), MZ a_1 x a -> ∃ (a_3 : Nat), (x.t = x.t /\ DI x /\ DK x /\ DR x /\ DJ x /\ BG /\ AKX x a_3 a_1 /\ (↑(BL x a_3).nx : Int) =
 (↑(jD x a_1) : Int) /\ AIS a_3 a_1 /\ EC x /\ DZ x /\ (AH x).base = (AH x).base /\ (AH x).scale = (AH x).scale /\ (AH x).off = (AH x).off /\ GM x /\ GO x /\ HL x /\ HM x /\
 IS x /\ JA x /\ JH x /\ JQ x /\ IX x /\ GR x /\ (BL x a_3).s.bs.length = Dq x a_1 /\ (∀ (i : Nat), fD i x a_3 -> gD (BL x a_3).s.bs i = mH x a_1 i) /\ (BL x a_3).s.used
 = fO x a_1 /\ (BL x a_3).s.mix = nK x a_1 /\ HR x /\ HU x /\ (AJ x).base = (AJ x).base /\ (AJ x).scale = (AJ x).scale /\ (AJ x).off = (AJ x).off /\ NH x /\ NK x /\ OR
 x /\ NB x /\ LJ x /\ LM x /\ (AM x).base = (AM x).base /\ (AM x).scale = (AM x).scale /\ (AM x).off = (AM x).off /\ UB x /\ UD x /\ SK x /\ SD x /\ AKX x a_3 a_1 /\
 ∀ (i : Nat), Es i x a_3 -> gD (BL x a_3).q i = eV x a_1 i) /\ gV a_3 x /\ AZP x a_3 a
abbrev iM (x : MoI) : Prop := EC x /\ DZ x /\ (AH x).base = (AH x).base /\ (AH x).scale = (AH x).scale /\ (AH x).off = (AH x).off /\ GM x /\ GO x /\ HL x /\ HM x /\ IS x /\
 JA x /\ JH x /\ JQ x /\ IX x /\ GR x /\ HR x /\ HU x /\ (AJ x).base = (AJ x).base /\ (AJ x).scale = (AJ x).scale /\ (AJ x).off = (AJ x).off /\ NH x /\ NK x /\
 OR x /\ NB x /\ LJ x /\ LM x /\ (AM x).base = (AM x).base /\ (AM x).scale = (AM x).scale /\ (AM x).off = (AM x).off /\ UB x /\ UD x /\ SK x /\ SD x
abbrev BCZ (x : MoI) : Prop := DR x /\ DJ x /\ iM x
abbrev kH (x : MoI) : List Mk := AE (AJ x).ms.length λ (i : Nat) => gD (AJ x).ms i
abbrev cO (x : MoI) : Nat := (kH x).length
abbrev pK (x : MoI) : Prop := cO x = (AJ x).ms.length
abbrev AIB (x : MoI) (i : Nat) : Mk := gD (kH x) i
abbrev rE (x : MoI) : Prop := ∀ (i : Nat), i < cO x -> (AIB x i).pl = (gD (AJ x).ms i).pl /\ (AIB x i).ht = (gD (AJ x).ms i).ht
abbrev lR (x : MoI) : List Nt := AE (AJ x).ns.length λ (i : Nat) => gD (AJ x).ns i
abbrev Ej (x : MoI) : Nat := (lR x).length
abbrev iR (x : MoI) : Prop := Ej x = (AJ x).ns.length
abbrev lO (x : MoI) (i : Nat) : Nt := gD (lR x) i
abbrev AZZ (x : MoI) (i : Nat) : Span := (lO x i).t
abbrev AME (x : MoI) (i : Nat) : Span := (lO x i).s
abbrev pG (x : MoI) : Prop := ∀ (i : Nat), i < Ej x -> (lO x i).mi = (gD (AJ x).ns i).mi /\ (AZZ x i).lo = (gD (AJ x).ns i).t.lo /\ (AZZ x i).hi = (gD (AJ x).ns i).t.hi /\ (AME x
 i).lo = (gD (AJ x).ns i).s.lo /\ (AME x i).hi = (gD (AJ x).ns i).s.hi
abbrev TM (x : MoI) : List Int := AE (BI x).z.length λ (i : Nat) => gD (BI x).z i
abbrev mQ (x : MoI) : Nat := (TM x).length
abbrev Ce (x : MoI) : Prop := mQ x = (BI x).z.length
abbrev Dh (x : MoI) : Prop := ∀ (i : Nat), i < mQ x -> gD (TM x) i = gD (BI x).z i
abbrev AOD (x : MoI) : Prop := cO x < (4611686018427387904 : Nat)
abbrev ATD (x : MoI) : Prop := Ej x < (4611686018427387904 : Nat)
abbrev hZ (x : MoI) : Prop := mQ x < (4611686018427387904 : Nat)
abbrev ATW (x : MoI) : Prop := AOD x /\ ATD x /\ hZ x
abbrev cS (x : MoI) : List Mk := AE (AM x).ms.length λ (i : Nat) => gD (AM x).ms i
abbrev cZ (x : MoI) : Nat := (cS x).length
abbrev AMG (x : MoI) : Prop := cZ x = (AM x).ms.length
abbrev AGF (x : MoI) (i : Nat) : Mk := gD (cS x) i
abbrev ASU (x : MoI) : Prop := ∀ (i : Nat), i < cZ x -> (AGF x i).pl = (gD (AM x).ms i).pl /\ (AGF x i).ht = (gD (AM x).ms i).ht
abbrev qA (x : MoI) : List Nt := AE (AM x).ns.length λ (i : Nat) => gD (AM x).ns i
abbrev Db (x : MoI) : Nat := (qA x).length
abbrev ASB (x : MoI) : Prop := Db x = (AM x).ns.length
abbrev cK (x : MoI) (i : Nat) : Nt := gD (qA x) i
abbrev AZQ (x : MoI) (i : Nat) : Span := (cK x i).t
abbrev AYG (x : MoI) (i : Nat) : Span := (cK x i).s
abbrev AZI (x : MoI) : Prop := ∀ (i : Nat), i < Db x -> (cK x i).mi = (gD (AM x).ns i).mi /\ (AZQ x i).lo = (gD (AM x).ns i).t.lo /\ (AZQ x i).hi = (gD (AM x).ns i).t.hi /\ (AYG x
 i).lo = (gD (AM x).ns i).s.lo /\ (AYG x i).hi = (gD (AM x).ns i).s.hi
abbrev ASG (x : MoI) : Prop := cZ x < (4611686018427387904 : Nat)
abbrev ANR (x : MoI) : Prop := Db x < (4611686018427387904 : Nat)
abbrev iI (x : MoI) : List Mk := AE (AH x).ms.length λ (i : Nat) => gD (AH x).ms i
abbrev kU (x : MoI) : Nat := (iI x).length
abbrev dZ (x : MoI) : Prop := kU x = (AH x).ms.length
abbrev ANA (x : MoI) (i : Nat) : Mk := gD (iI x) i
abbrev fW (x : MoI) : Prop := ∀ (i : Nat), i < kU x -> (ANA x i).pl = (gD (AH x).ms i).pl /\ (ANA x i).ht = (gD (AH x).ms i).ht
abbrev mY (x : MoI) : List Nt := AE (AH x).ns.length λ (i : Nat) => gD (AH x).ns i
abbrev fX (x : MoI) : Nat := (mY x).length
abbrev qE (x : MoI) : Prop := fX x = (AH x).ns.length
abbrev nY (x : MoI) (i : Nat) : Nt := gD (mY x) i
abbrev BBT (x : MoI) (i : Nat) : Span := (nY x i).t
abbrev AWM (x : MoI) (i : Nat) : Span := (nY x i).s
abbrev kG (x : MoI) : Prop := ∀ (i : Nat), i < fX x -> (nY x i).mi = (gD (AH x).ns i).mi /\ (BBT x i).lo = (gD (AH x).ns i).t.lo /\ (BBT x i).hi = (gD (AH x).ns i).t.hi /\ (AWM x
 i).lo = (gD (AH x).ns i).s.lo /\ (AWM x i).hi = (gD (AH x).ns i).s.hi
abbrev mP (x : MoI) : List Int := AE (QL x).length λ (i : Nat) => gD (QL x) i
abbrev cU (x : MoI) : Nat := (mP x).length
abbrev APJ (x : MoI) : Prop := cU x = (QL x).length
abbrev ALV (x : MoI) : Prop := ∀ (i : Nat), i < cU x -> gD (mP x) i = gD (QL x) i
abbrev AZV (x : MoI) : Prop := kU x < (4611686018427387904 : Nat)
abbrev ARZ (x : MoI) : Prop := fX x < (4611686018427387904 : Nat)
abbrev AUG (x : MoI) : Prop := AZV x /\ ARZ x /\ cU x < (4611686018427387904 : Nat)
abbrev fZ (x : MoI) : Cht := Cht.mk (AJ x).p (AJ x).base (AJ x).scale (AJ x).off (kH x) (lR x)
abbrev AQK (x : MoI) : CZ := CZ.mk (fZ x) (TM x)
abbrev AFB (x : MoI) : List Span × Int := NT (AQK x)
abbrev iW (x : MoI) : Cht := Cht.mk (AM x).p (AM x).base (AM x).scale (AM x).off (cS x) (qA x)
abbrev BCP (x : MoI) : List Span × Int := NT (CZ.mk (iW x) (TM x))
abbrev AWX (x : MoI) : Cht := Cht.mk (AH x).p (AH x).base (AH x).scale (AH x).off (iI x) (mY x)
abbrev BCA (x : MoI) : CZ := CZ.mk (AWX x) (mP x)
abbrev AQY (x : MoI) : List Span × Int := NT (BCA x)
abbrev AQU (x : MoI) : Bool := bif bif (AFB x).snd != (0 : Int) then true else (BCP x).snd != (0 : Int) then true else (AQY x).snd != (0 : Int)
abbrev TA (x : MoI) : List Span := AE (RO x).length λ (i : Nat) => gD (RO x) i
abbrev nQ (x : MoI) : Nat := (TA x).length
abbrev pY (x : MoI) : Prop := nQ x = (RO x).length
abbrev AXW (x : MoI) (i : Nat) : Span := gD (TA x) i
abbrev cP (x : MoI) : Prop := ∀ (i : Nat), i < nQ x -> (AXW x i).lo = (gD (RO x) i).lo /\ (AXW x i).hi = (gD (RO x) i).hi
abbrev ASX (x : MoI) : List Span := (AFB x).fst
abbrev AZU (x : MoI) : Nat := (ASX x).length
abbrev nU (x : MoI) (i : Nat) : Span := gD (ASX x) i
abbrev pA (x : MoI) : List Span := AE (AZU x) λ (i : Nat) => nU x i
abbrev pC (x : MoI) : Nat := (pA x).length
abbrev APN (x : MoI) (i : Nat) : Span := gD (pA x) i
abbrev oG (x : MoI) : Prop := nQ x < (4611686018427387904 : Nat)
abbrev BAZ (x : MoI) : Bool := bif AQU x then true else !XA (SS2.mk (TA x) (pA x))
abbrev BBB (x : MoI) : List Span := (BCP x).fst
abbrev BBL (x : MoI) : Nat := (BBB x).length
abbrev oF (x : MoI) (i : Nat) : Span := gD (BBB x) i
abbrev jA (x : MoI) : List Span := AE (BBL x) λ (i : Nat) => oF x i
abbrev gB (x : MoI) : Nat := (jA x).length
abbrev AJM (x : MoI) (i : Nat) : Span := gD (jA x) i
abbrev AXK (x : MoI) : Bool := bif BAZ x then true else !XA (SS2.mk (jA x) (TA x))
abbrev AXT (x : MoI) : List Span := (AQY x).fst
abbrev AXO (x : MoI) : Nat := (AXT x).length
abbrev dJ (x : MoI) (i : Nat) : Span := gD (AXT x) i
abbrev pF (x : MoI) : List Span := AE (AXO x) λ (i : Nat) => dJ x i
abbrev oU (x : MoI) : Nat := (pF x).length
abbrev AOX (x : MoI) (i : Nat) : Span := gD (pF x) i
abbrev lM (x : MoI) : Prop := (QL x).length = (QL x).length
abbrev iT (x : MoI) : Prop := ∀ (i : Nat), i < (QL x).length -> gD (QL x) i = gD (QL x) i
abbrev BBQ (x : MoI) : FwR := CJ (fZ x)
abbrev ALC (x : MoI) : FwR := CJ (iW x)
abbrev AVN (x : MoI) : Prop := (0 : Int) <= (0 : Int) /\ (0 : Int) < (↑(BI x).t.length : Int)
abbrev dC (x : MoI) : Int := IntKind.i64.wrap ((↑(BI x).t.length : Int) - (1 : Int))
abbrev AHA (x : MoI) : Int := gD (BI x).t (Int.toNat (0 : Int))
abbrev AUZ (x : MoI) : Span × Int := AW (CZI.mk (CZ.mk (AWX x) (TM x)) (MP x))
abbrev AKZ (x : MoI) : Span × Int := AW (CZI.mk (AQK x) (MP x))
abbrev APM (x : MoI) : Span × Int := AW (CZI.mk (BCA x) (MP x))
abbrev AZA (x : MoI) : Span := (AUZ x).fst
abbrev BET (x : MoI) : Int := (AZA x).lo
abbrev AHH (x : MoI) : Span := (AKZ x).fst
abbrev AZS (x : MoI) : Int := (AZA x).hi
abbrev AUM (x : MoI) : Span := (APM x).fst
abbrev AUT (x : MoI) : Prop := ∀ (a : One), True -> (AOB /\ AJL x = (CP x).bs.length /\ (∀ (i : Nat), i < AJL x -> gD (oM x) i = gD (CP x).bs i) /\ (CP x).used = (CP x).used /\ (CP
 x).mix = (CP x).mix /\ (0 : Int) <= (CP x).used /\ AOB /\ BEH x = AJV x /\ (∀ (i : Nat), i < BEH x -> gD (lQ x) i = AOA x i) /\ Cx x = Cx x /\ gS x = gS x /\
 (Cx x - (0 : Int)).NonNeg) /\ ((∃ (a : Nat), (x.t = x.t /\ DI x /\ DK x /\ DR x /\ DJ x /\ BG /\ AWW x a /\ (↑(BL x a).nx : Int) = (0 : Int) /\ BVM a /\ EC x /\ DZ x /\
 (AH x).base = (AH x).base /\ (AH x).scale = (AH x).scale /\ (AH x).off = (AH x).off /\ GM x /\ GO x /\ HL x /\ HM x /\ IS x /\ JA x /\ JH x /\ JQ x /\ IX x /\ GR x /\
 (BL x a).s.bs.length = (AVS x).length /\ (∀ (i : Nat), fD i x a -> gD (BL x a).s.bs i = gD (AVS x) i) /\ (BL x a).s.used = (rF x).used /\ (BL x a).s.mix = (rF x).mix /\ HR x /\
 HU x /\ (AJ x).base = (AJ x).base /\ (AJ x).scale = (AJ x).scale /\ (AJ x).off = (AJ x).off /\ NH x /\ NK x /\ OR x /\ NB x /\ (AM x).p.lo = BJ (1 : Int) (IntKind.i64.wrap ((AH
 x).p.lo - AL (ATB x) (3 : Int))) /\ (AM x).p.hi = IntKind.i64.wrap ((AH x).p.hi + AL (AKJ x) (3 : Int)) /\ (AM x).base = (AH x).base /\ (AM x).scale = (AH x).scale /\ (AM x).off = (AH x).off /\
 (AM x).ms.length = (AH x).ms.length /\ (∀ (i : Nat), i < (AM x).ms.length -> (gD (AM x).ms i).pl = (gD (AH x).ms i).pl /\ (gD (AM x).ms i).ht = (gD (AH x).ms i).ht) /\ (AM x).ns.length = (AH x).ns.length /\ (∀
 (i : Nat), i < (AM x).ns.length -> (gD (AM x).ns i).mi = (gD (AH x).ns i).mi /\ (gD (AM x).ns i).t.lo = (gD (AH x).ns i).t.lo /\ (gD (AM x).ns i).t.hi = (gD (AH x).ns i).t.hi /\ (gD (AM x).ns i).s.lo = (gD (AH
 x).ns i).s.lo /\ (gD (AM x).ns i).s.hi = (gD (AH x).ns i).s.hi) /\ AWW x a /\ ∀ (i : Nat), Es i x a -> gD (BL x a).q i = gD rM i) /\ gV a x) /\ ∀ (a : Nat), gV a x -> bif decide (AWL a <
 (↑(AH x).ms.length : Int)) then ((AXB x a = true -> (0 : Int) <= (↑(BL x a).nx : Int) /\ AJG x a) /\ (bif jX x a then ∃ (a_2 : Nat), (x.t = x.t /\ DI x /\ DK x /\ DR x /\ DJ x /\
 BG /\ qI x a_2 a /\ AOT x a_2 a /\ RV a_2 a /\ true = jX x a /\ AOT x a_2 a /\ AIH x a_2 a) /\ ARI a_2 x a else ∃ (a_2 : Nat), (x.t = x.t /\ DI x /\ DK x /\ DR x
 /\ DJ x /\ BG /\ qI x a_2 a /\ (↑(BL x a_2).nx : Int) = (↑(BL x a).nx : Int) /\ RV a_2 a /\ false = jX x a /\ AIH x a_2 a) /\ AYJ a_2 x a) /\ (∀ (a_2 : Nat), ARI a_2 x a ->
 (true = false -> false = true) /\ AMS x a_2 /\ ∃ (a_4 : Nat), (x.t = x.t /\ DI x /\ DK x /\ DR x /\ DJ x /\ BG /\ dD x a_4 a_2 /\ (↑(jD x a_4) : Int) = cV x a_2 /\ RV
 a_4 a_2 /\ EC x /\ DZ x /\ (AH x).base = (AH x).base /\ (AH x).scale = (AH x).scale /\ (AH x).off = (AH x).off /\ GM x /\ GO x /\ HL x /\ HM x /\ IS x /\ JA x /\ JH x /\
 JQ x /\ IX x /\ GR x /\ Dq x a_4 = (BL x a_2).s.bs.length /\ (∀ (i : Nat), AHE i x a_4 -> mH x a_4 i = gD (BL x a_2).s.bs i) /\ fO x a_4 = (BL x a_2).s.used /\ nK x a_4 =
 (BL x a_2).s.mix /\ ALJ x a_4 a_2) /\ MZ a_4 x a) /\ ∀ (a_2 : Nat), AYJ a_2 x a -> ((4 : Int) = Int.ofNat (4 : Nat) /\ BAX x a_2 = (BL x a_2).s.bs.length /\ (∀ (i : Nat), i < BAX x a_2 -> gD
 (pS x a_2) i = gD (BL x a_2).s.bs i) /\ (BL x a_2).s.used = (BL x a_2).s.used /\ (BL x a_2).s.mix = (BL x a_2).s.mix /\ ((BL x a_2).s.used - (0 : Int)).NonNeg) /\ bif bif false then true else AL (ALI x
 a_2) (4 : Int) == (0 : Int) then AMS x a_2 /\ ∃ (a_4 : Nat), (x.t = x.t /\ DI x /\ DK x /\ DR x /\ DJ x /\ BG /\ dD x a_4 a_2 /\ BEA x a_4 a_2 /\ RV a_4 a_2 /\ EC x /\
 DZ x /\ (AH x).base = (AH x).base /\ (AH x).scale = (AH x).scale /\ (AH x).off = (AH x).off /\ GM x /\ GO x /\ HL x /\ HM x /\ IS x /\ JA x /\ JH x /\ JQ x /\ IX x /\
 GR x /\ AMZ x a_4 a_2 /\ BDZ x a_4 a_2 /\ AIV x a_4 a_2 /\ BEC x a_4 a_2 /\ ALJ x a_4 a_2) /\ MZ a_4 x a else ∃ (a_4 : Nat), (x.t = x.t /\ DI x /\ DK x /\ DR x /\
 DJ x /\ BG /\ ALL x a_4 a_2 /\ BEA x a_4 a_2 /\ RV a_4 a_2 /\ EC x /\ DZ x /\ (AH x).base = (AH x).base /\ (AH x).scale = (AH x).scale /\ (AH x).off = (AH x).off /\ GM x /\
 GO x /\ HL x /\ HM x /\ IS x /\ JA x /\ JH x /\ JQ x /\ IX x /\ GR x /\ AMZ x a_4 a_2 /\ BDZ x a_4 a_2 /\ AIV x a_4 a_2 /\ BEC x a_4 a_2 /\ HR x /\
 HU x /\ (AJ x).base = (AJ x).base /\ (AJ x).scale = (AJ x).scale /\ (AJ x).off = (AJ x).off /\ NH x /\ NK x /\ OR x /\ NB x /\ LJ x /\ LM x /\ (AM x).base = (AM
 x).base /\ (AM x).scale = (AM x).scale /\ (AM x).off = (AM x).off /\ UB x /\ UD x /\ SK x /\ SD x /\ ALL x a_4 a_2 /\ ∀ (i : Nat), AKA i x a_4 -> eV x a_4 i = gD (BL x
 a_2).q i) /\ MZ a_4 x a) /\ AKP x a /\ AKP x a else ∃ (a_2 : One), (x.t = x.t /\ (QL x).length = (BL x a).q.length /\ (0 : Nat) + (BL x a).q.length <= (BL x a).q.length /\ (∀ (j : Nat), j < (QL x).length
 -> gD (QL x) j = gD (BL x a).q ((0 : Nat) + j)) /\ DI x /\ DK x /\ BCZ x) /\ True) /\ ∀ (a : One), True -> (HR x /\ HU x /\ (AJ x).base = (AJ x).base /\ (AJ x).scale = (AJ x).scale /\ (AJ
 x).off = (AJ x).off /\ pK x /\ rE x /\ iR x /\ pG x /\ Ce x /\ Dh x /\ ATW x) /\ (LJ x /\ LM x /\ (AM x).base = (AM x).base /\ (AM x).scale = (AM x).scale /\
 (AM x).off = (AM x).off /\ AMG x /\ ASU x /\ ASB x /\ AZI x /\ Ce x /\ Dh x /\ ASG x /\ ANR x /\ hZ x) /\ (EC x /\ DZ x /\ (AH x).base = (AH x).base /\ (AH
 x).scale = (AH x).scale /\ (AH x).off = (AH x).off /\ dZ x /\ fW x /\ qE x /\ kG x /\ APJ x /\ ALV x /\ AUG x) /\ ((((!AQU x) = true -> pY x /\ cP x /\ pC x
 = AZU x /\ (∀ (i : Nat), i < pC x -> (APN x i).lo = (nU x i).lo /\ (APN x i).hi = (nU x i).hi) /\ oG x /\ pC x < (4611686018427387904 : Nat)) /\ ((!BAZ x) = true ->
 gB x = BBL x /\ (∀ (i : Nat), i < gB x -> (AJM x i).lo = (oF x i).lo /\ (AJM x i).hi = (oF x i).hi) /\ pY x /\ cP x /\ gB x < (4611686018427387904 : Nat) /\
 oG x) /\ ((!AXK x) = true -> oU x = AXO x /\ (∀ (i : Nat), i < oU x -> (AOX x i).lo = (dJ x i).lo /\ (AOX x i).hi = (dJ x i).hi) /\ pY x /\ cP x /\
 oU x < (4611686018427387904 : Nat) /\ oG x)) /\ bif bif AXK x then true else !XA (SS2.mk (pF x) (TA x)) then true = false else ∃ (a : One), (x.t = x.t /\ lM x /\ iT x /\
 BCZ x) /\ True) /\ ∀ (a : One), True -> (HR x /\ HU x /\ (AJ x).base = (AJ x).base /\ (AJ x).scale = (AJ x).scale /\ (AJ x).off = (AJ x).off /\ pK x /\ rE x /\ iR x /\ pG
 x /\ (AOD x /\ ATD x) /\ (AO (fZ x) = (0 : Int) -> Ej x <= (12 : Nat))) /\ (LJ x /\ LM x /\ (AM x).base = (AM x).base /\ (AM x).scale = (AM x).scale /\ (AM x).off = (AM
 x).off /\ AMG x /\ ASU x /\ ASB x /\ AZI x /\ (ASG x /\ ANR x) /\ (AO (iW x) = (0 : Int) -> Db x <= (12 : Nat))) /\ (bif bif bif bif (BBQ x).e != (0 : Int) then true else
 (ALC x).e != (0 : Int) then true else decide ((↑(BBQ x).q.length : Int) < (↑(Mw x).length : Int)) then true else decide ((↑(ALC x).q.length : Int) > (↑(Mw x).length : Int)) then true = false else ∃ (a
 : One), (x.t = x.t /\ lM x /\ iT x /\ iM x) /\ True) /\ ∀ (a : One), True -> ((AVN x /\ ((0 : Int) <= dC x /\ dC x < (↑(BI x).t.length : Int)) /\ AVN x) /\ ∃ (a : One), (lM x /\
 iT x /\ MP x = IntKind.i64.wrap (AHA x + MX x.t (IntKind.i64.wrap (IntKind.i64.wrap (gD (BI x).t (dC x).toNat - AHA x) + (1 : Int)))) /\ iM x) /\ True) /\ ∀ (a : One), True -> (EC x
 /\ DZ x /\ (AH x).base = (AH x).base /\ (AH x).scale = (AH x).scale /\ (AH x).off = (AH x).off /\ dZ x /\ fW x /\ qE x /\ kG x /\ Ce x /\ Dh x /\ MP x = MP x /\ AZV x /\
 ARZ x /\ hZ x) /\ (HR x /\ HU x /\ (AJ x).base = (AJ x).base /\ (AJ x).scale = (AJ x).scale /\ (AJ x).off = (AJ x).off /\ pK x /\ rE x /\ iR x /\ pG x /\ Ce
 x /\ Dh x /\ MP x = MP x /\ ATW x) /\ (EC x /\ DZ x /\ (AH x).base = (AH x).base /\ (AH x).scale = (AH x).scale /\ (AH x).off = (AH x).off /\ dZ x /\ fW x /\ qE x /\ kG x
 /\ APJ x /\ ALV x /\ MP x = MP x /\ AUG x) /\ true = bif bif bif bif bif bif bif (AUZ x).snd == (0 : Int) then (AKZ x).snd == (0 : Int) else false then (APM x).snd == (0 : Int) else false
 then decide (BET x <= (AHH x).lo) else false then decide (AZS x >= (AHH x).hi) else false then decide ((AUM x).lo <= BET x) else false then decide ((AUM x).hi >= AZS x) else
 false then true else false
theorem DPB (x : MoI) : (DKS x) = ((ABW x = x.bs.length /\ (∀ (i : Nat), i < ABW x -> BJE x i = gD x.bs i) /\ (12 : Int) = Int.ofNat (12 : Nat) /\ true = true /\ CMA x = ABW x /\ (∀ (i : Nat), i <
 CMA x -> gD (BGD x) i = BJE x i) /\ CML /\ CML /\ (StmB (0 : Int) (CJE x) /\ (1 : Int) <= (12 : Int) /\ (12 : Int) <= (14 : Int)) /\ true = true) /\ (BGU x = x.cs.length /\ ∀ (i : Nat), i < BGU x ->
 CJA x i = gD x.cs i) /\ (Zn x /\ Pa x /\ Pn x /\ Pk x /\ Uf x /\ Uy x /\ Xa x /\ Pv x /\ Ou x /\ ADY x = R0 x /\ (∀ (i : Nat), i < ADY x -> gD (ACD x) i
 = AEL x i) /\ BXS x /\ BQJ x /\ ADY x < (4611686018427387904 : Nat)) /\ (Zn x /\ Pa x /\ Pn x /\ Pk x /\ Uf x /\ Uy x /\ Xa x /\ Pv x /\ Ou x /\ (BXS x /\
 BQJ x) /\ (AO (W9 x) = (0 : Int) -> QI x <= (12 : Nat))) /\ bif bif (BKC x).snd != (0 : Int) then true else (BWQ x).e != (0 : Int) then true = false else (Zn x /\ Pa x /\ Pn x /\
 Pk x /\ Uf x /\ Uy x /\ Xa x /\ Pv x /\ Ou x /\ (BSD x /\ QI x = (0 : Nat)) /\ Zn x /\ Pa x /\ Pn x /\ Pk x /\ Uf x /\ Uy x /\ Xa x /\ Pv x
 /\ Ou x /\ BSD x /\ QI x < (1073741824 : Nat)) /\ ((∃ (a : Nat), (x.t = x.t /\ (RO x).length = (BZC x).length /\ (∀ (i : Nat), i < (RO x).length -> (gD (RO x) i).lo = (BMS x i).lo /\ (gD (RO x)
 i).hi = (BMS x i).hi) /\ (Mw x).length = (BPN x).length /\ (∀ (i : Nat), i < (Mw x).length -> gD (Mw x) i = gD (BPN x) i) /\ BG /\ BG /\ Gy (AH x) a = (-1 : Int) /\ BVM a /\ T9 x /\
 ADZ x /\ Z9 x /\ O3 x /\ ABE x /\ (AH x).ms.length = ADF x /\ (∀ (i : Nat), i < (AH x).ms.length -> (gD (AH x).ms i).pl = BRR x i /\ (gD (AH x).ms i).ht = BVI x i) /\ (AH x).ns.length =
 L2 x /\ (∀ (i : Nat), i < (AH x).ns.length -> (gD (AH x).ns i).mi = BVU x i /\ (gD (AH x).ns i).t.lo = BKK x i /\ (gD (AH x).ns i).t.hi = BML x i /\ (gD (AH x).ns i).s.lo = BTF x i /\ (gD (AH
 x).ns i).s.hi = BQG x i) /\ (BI x).t.length = (BMQ x).length /\ (∀ (i : Nat), i < (BI x).t.length -> gD (BI x).t i = gD (BMQ x) i) /\ (BI x).s.length = (BSF x).length /\ (∀ (i : Nat), i < (BI
 x).s.length -> gD (BI x).s i = gD (BSF x) i) /\ (BI x).z.length = R0 x /\ (∀ (i : Nat), i < (BI x).z.length -> gD (BI x).z i = AEL x i) /\ (BH x).bs.length = BGU x /\ (∀ (i : Nat), i < (BH
 x).bs.length -> gD (BH x).bs i = CJA x i) /\ (BH x).used = (0 : Int) /\ (BH x).mix = (0 : Int) /\ T9 x /\ ADZ x /\ Z9 x /\ O3 x /\ ABE x /\ BWX x /\ BLG x /\ BG /\ BNP /\
 T9 x /\ ADZ x /\ Z9 x /\ O3 x /\ ABE x /\ BWX x /\ BLG x /\ (AH x).ns.length = QI x /\ (∀ (i : Nat), i < (AH x).ns.length -> (gD (AH x).ns i).mi = BLW x i /\ (gD (AH x).ns
 i).t.lo = BQI x i /\ (gD (AH x).ns i).t.hi = BKP x i /\ (gD (AH x).ns i).s.lo = BPS x i /\ (gD (AH x).ns i).s.hi = BSU x i) /\ BG /\ ∀ (i : Nat), i < (0 : Nat) -> Value.int IntKind.i64 (gD rM i)
 = default) /\ a.le (AH x).ms.length) /\ ∀ (a : Nat), a.le (AH x).ms.length -> bif decide ((↑a : Int) < (↑(AH x).ms.length : Int)) then ((∃ (a_2 : IJ), (x.t = x.t /\ DI x /\ DK x /\ DR x /\ DJ x /\
 BG /\ BG /\ Gy (AH x) a_2.i = Gy (AH x) a /\ (↑a_2.i : Int) = (↑a : Int) /\ Us x a_2 = false /\ (↑a_2.j : Int) = (0 : Int) /\ SV x) /\ gX a_2 x a) /\ ∀ (a_2 : IJ), gX a_2 x a -> bif
 decide (AXN a_2 x) then (BEW x a_2 = true -> (0 : Int) <= (↑a_2.j : Int) /\ AXN a_2 x) /\ ∃ (a_4 : IJ), (x.t = x.t /\ DI x /\ DK x /\ DR x /\ DJ x /\ BG /\ BG /\ Gy (AH x)
 a_4.i = Gy (AH x) a_2.i /\ (↑a_4.i : Int) = (↑a_2.i : Int) /\ (Us x a_4 = bif Us x a_2 then true else (gD (AH x).ns a_2.j).mi == (↑a_2.i : Int)) /\ (↑a_4.j : Int) = IntKind.i64.wrap ((↑a_2.j : Int) + (1 :
 Int)) /\ SV x) /\ gX a_4 x a /\ AWH x a_4 < AWH x a_2 else bif BEW x a_2 then ∃ (a_4 : Nat), (x.t = x.t /\ DI x /\ DK x /\ DR x /\ DJ x /\ BG /\ BG /\ mF x
 a_4 = (↑a_2.i : Int) /\ AXV a_4 a_2 x) /\ pL a_4 x a else ∃ (a_4 : Nat), (x.t = x.t /\ DI x /\ DK x /\ DR x /\ DJ x /\ BG /\ BG /\ mF x a_4 = Gy (AH x) a_2.i /\ AXV
 a_4 a_2 x) /\ pL a_4 x a) /\ ∀ (a_2 : Nat), pL a_2 x a -> ∃ (a_4 : Nat), (x.t = x.t /\ DI x /\ DK x /\ DR x /\ DJ x /\ BG /\ BG /\ Gy (AH x) a_4 = mF x a_2 /\ AIS a_4
 a_2 /\ SV x) /\ a_4.le (AH x).ms.length /\ AZP x a_4 a else ∃ (a_2 : One), (x.t = x.t /\ DI x /\ DK x /\ DR x /\ DJ x /\ BG /\ BG /\ CS x = Gy (AH x) a /\ SV x) /\ True) /\
 ∀ (a : One), True -> (bif bif decide (CS x >= (0 : Int)) then decide ((↑(0 : Nat) : Int) < (20 : Int)) else false then (BCW x /\ BDP /\ AMJ x = (BH x).bs.length /\ (∀ (i : Nat), i < AMJ x -> gD
 (pO x) i = gD (BH x).bs i) /\ (BH x).used = (BH x).used /\ (BH x).mix = (BH x).mix /\ (0 : Int) <= (BH x).used /\ BCW x /\ BDP /\ BCQ x = AQL x /\ (∀ (i : Nat), i < BCQ x -> gD
 (pN x) i = AVG x i) /\ Dp x = Dp x /\ rG x = rG x /\ (0 : Int) <= Dp x /\ BEU x /\ AWB /\ AVY x = AYN x /\ (∀ (i : Nat), i < AVY x -> gD (dU x)
 i = ARR x i) /\ Cn x = Cn x /\ fH x = fH x /\ (0 : Int) <= Cn x /\ BEU x /\ AWB /\ ANQ x = BDM x /\ (∀ (i : Nat), i < ANQ x -> gD (kT x) i = AUL
 x i) /\ Fg x = Fg x /\ oE x = oE x /\ (0 : Int) <= Fg x /\ (True /\ ((0 : Nat) < (0 : Nat) -> (0 : Nat) = (5 : Nat))) /\ (qL /\ (Bu -> (5 : Nat) = (5 : Nat))) /\ (true = true ->
 Bu) /\ (1 : Nat) <= (9223372036854775807 : Nat) /\ (40 : Nat) <= (140737488355328 : Nat)) /\ ∃ (a : One), (x.t = x.t /\ DI x /\ DK x /\ DR x /\ DJ x /\ BG /\ BG /\ EC x /\ DZ x /\
 (AH x).base = (AH x).base /\ (AH x).scale = (AH x).scale /\ (AH x).off = (AH x).off /\ GM x /\ GO x /\ HL x /\ HM x /\ IS x /\ JA x /\ JH x /\ JQ x /\ IX x /\ GR x /\
 (CP x).bs.length = (ASA x).length /\ (∀ (i : Nat), i < (CP x).bs.length -> gD (CP x).bs i = gD (ASA x) i) /\ (CP x).used = (kO x).used /\ (CP x).mix = (kO x).mix /\ BBY x /\ AZH
 x /\ (AJ x).base = (AH x).base /\ (AJ x).scale = (AH x).scale /\ (AJ x).off = (AH x).off /\ AVC x /\ BCB x /\ (AJ x).ns.length = (1 : Nat) /\ qL /\ (∀ (j : Nat), j < (AJ x).ns.length -> (gD (AJ
 x).ns j).mi = CS x /\ (gD (AJ x).ns j).t.lo = BJ (0 : Int) (IntKind.i64.wrap (gD (BI x).t (CS x).toNat - AL (AJX x) (20 : Int))) /\ (gD (AJ x).ns j).t.hi = IntKind.i64.wrap (gD (BI x).t (CS x).toNat
 + AL (ALW x) (20 : Int)) /\ (gD (AJ x).ns j).s.lo = IntKind.i64.wrap (gD (BI x).s (CS x).toNat - AL (BCH x) (5 : Int)) /\ (gD (AJ x).ns j).s.hi = IntKind.i64.wrap (gD (BI x).s (CS x).toNat +
 AL (ATS x) (5 : Int))) /\ dR x) /\ True else ∃ (a : One), (x.t = x.t /\ DI x /\ DK x /\ DR x /\ DJ x /\ BG /\ BG /\ EC x /\ DZ x /\ (AH x).base = (AH x).base /\ (AH
 x).scale = (AH x).scale /\ (AH x).off = (AH x).off /\ GM x /\ GO x /\ HL x /\ HM x /\ IS x /\ JA x /\ JH x /\ JQ x /\ IX x /\ GR x /\ (CP x).bs.length = (BH
 x).bs.length /\ (∀ (i : Nat), i < (CP x).bs.length -> gD (CP x).bs i = gD (BH x).bs i) /\ (CP x).used = (BH x).used /\ (CP x).mix = (BH x).mix /\ BBY x /\ AZH x /\ (AJ x).base = (AH x).base /\ (AJ
 x).scale = (AH x).scale /\ (AJ x).off = (AH x).off /\ AVC x /\ BCB x /\ ALP x /\ ALP x /\ dR x) /\ True) /\ AUT x /\ AUT x) := by kernel_rfl
end Go.Bal
