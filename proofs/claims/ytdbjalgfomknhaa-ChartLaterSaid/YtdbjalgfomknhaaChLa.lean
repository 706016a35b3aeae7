/- Law ChartLater: its walk. -/
import Derived.Test.YtdbjalgfomknhaaChW
import Derived.Test.YtdbjalgfomknhaaChCp
set_option linter.unusedVariables false
set_option linter.unusedSimpArgs false
namespace Go.Bal
open Go Go.Sym Go.Proofs
structure LaI where
 bs : List Int
 r : Int
 d : Int
 t : Int
def laM (x : LaI) : MkI := ⟨⟨x.bs, 0, 0⟩, 12, true⟩
def AO (x : LaI) : Cht := GQ (laM x)
def PD (x : LaI) : Tru := qX (laM x)
def PM (x : LaI) : Int := FQ x.r 1000
def IV (x : LaI) : Int := FQ x.d 100000
def G4 (d u : Int) (n : Nt) : Nt := ⟨n.mi, ⟨wr (n.t.lo + d), wr (n.t.hi + d)⟩, ⟨wr (n.s.lo + u), wr (n.s.hi + u)⟩⟩
def CG (x : LaI) : Cht := ⟨(AO x).p, wr ((AO x).base + PM x), (AO x).scale, (AO x).off, (AO x).ms, (AO x).ns.map (G4 (IV x) (PM x))⟩
def L8 (x : LaI) (k i : Nat) : Nt := bif decide (i < k) then G4 (IV x) (PM x) (gD (AO x).ns i) else gD (AO x).ns i
def laB (x : LaI) (v : AVal) : AObj := .box [.int (AO x).p.lo, .int (AO x).p.hi, .int (wr ((AO x).base + PM x)), .int (AO x).scale, .int (AO x).off, .d (eMks (AO x).ms), v]
def trB (t : Tru) : HCell := .live (.box [.d (CO t.t), .d (CO t.s), .d (CO t.z)])
def laA (x : LaI) : List Span × Int := IT ⟨AO x, nilI⟩
def laQ (x : LaI) : List Span × Int := IT ⟨CG x, nilI⟩
def PH (x : LaI) : Int := wr (gD (PD x).t 0 + FQ x.t 300)
def laV (x : LaI) : Span × Int := BD ⟨⟨AO x, nilI⟩, PH x⟩
def laW (x : LaI) : Span × Int := BD ⟨⟨CG x, nilI⟩, wr (PH x + IV x)⟩
def laSl (x : LaI) : List (Nat × AVal) := [(3, .int x.t), (9, .bptr 2096 0), (10, .bptr 2112 0), (11, .int (PM x)), (12, .int (IV x)), (13, .bptr 4032 0)]
def laH (x : LaI) (o : AObj) : List (Nat × HCell) := [(2096, .live (chB (AO x))), (2112, trB (PD x)), (4032, .live o)]
def la6N (x : LaI) : Shape := { α := Nat, dflt := 0, T := λ k => ⟨laSl x ++ [(14, .int k)], laH x (laB x (.own 305 5 0 (AO x).ns.length)) ++ [(305, .live (.row 5 (AO x).ns.length λ i => eNt (L8 x k i)))]⟩, inv := λ k => k <= (AO x).ns.length, meas := λ k => (AO x).ns.length - k, first := [(305, 4016)] }
def la6E (x : LaI) : Shape := { α := One, dflt := default, T := λ _ => ⟨laSl x ++ [(14, .int 0)], laH x (laB x (.d FG))⟩, inv := λ _ => True, meas := λ _ => 0 }
def CXH (x : LaI) : Shape := { α := One, dflt := default, T := λ _ => ⟨laSl x, laH x (chB (CG x))⟩, inv := λ _ => True, meas := λ _ => 0, ffz := [305] }
def CYW (x : LaI) : Shape := { α := One, dflt := default, T := λ _ => ⟨laSl x, laH x (chB (CG x))⟩, inv := λ _ => True, meas := λ _ => 0 }
def CZO (x : LaI) : Shape := { α := One, dflt := default, T := λ _ => ⟨[(9, .bptr 2096 0)], [(2096, .live (chB (AO x)))]⟩, inv := λ _ => True, meas := λ _ => 0 }
def la19 (x : LaI) : Shape := { α := Nat, dflt := 0, T := λ k => ⟨laSl x ++ [(16, .d (AV (laA x).1)), (18, .d (AV (laQ x).1)), (24, .int k)], laH x (chB (CG x))⟩, inv := λ k => k <= (laA x).1.length, meas := λ k => (laA x).1.length - k }
def la24 (x : LaI) : Shape := { α := One, dflt := default, T := λ _ => ⟨[(9, .bptr 2096 0), (11, .int (PM x)), (12, .int (IV x)), (13, .bptr 4032 0), (25, .int (PH x))], [(2096, .live (chB (AO x))), (4032, .live (chB (CG x)))]⟩, inv := λ _ => True, meas := λ _ => 0 }
def bxS (s : Span) : HCell := .live (.box [.int s.lo, .int s.hi])
def la28 (x : LaI) : Shape := { α := One, dflt := default, T := λ _ => ⟨[(9, .bptr 2096 0), (11, .int (PM x)), (12, .int (IV x)), (13, .bptr 4032 0), (25, .int (PH x)), (26, .bptr 25096 0), (27, .bptr 26128 0)], [(2096, .live (chB (AO x))), (4032, .live (chB (CG x))), (25096, bxS (laV x).1), (26128, bxS (laW x).1)]⟩, inv := λ _ => True, meas := λ _ => 0 }
def xLa (x : LaI) : List AVal := [.d (eBys x.bs), .int x.r, .int x.d, .int x.t]
def A_La (b : Bool) (x : LaI) : Ann := { ann 252 [(CGN, C_New.spec CRL), (CAK, (nS true).spec (dMkI true)), (CAI, CIC), (BLJ, bif b then C_cpO.spec dC1 else C_cpE.spec dC1), (AQH, C_Times.spec dCZ), (APQ, C_Stops.spec dC1), (AOB, C_Stage.spec dCZI), (BKY, C_Peak.spec dCZ2), (BPF, CCB)] with loops := λ id => if id = 6 then some (bif b then [la6N x] else [la6E x]) else if id = 19 then some [la19 x] else none, cut := λ id => if id = 10 then some (bif b then [CXH x] else [CZO x]) else if id = 12 then some (bif b then [CYW x] else []) else if id = 24 then some [la24 x] else if id = 28 then some [la28 x] else none }
def CRM (x : LaI) : Prop := AW Try.prog (A_La true x) Nr (AK Nr) (xLa x) (AF []) (.bool true) [] [] []
abbrev BPE (x : LaI) : List Int := AE x.bs.length λ (i : Nat) => gD x.bs i
abbrev A9 (x : LaI) : Nat := (BPE x).length
abbrev AQD (x : LaI) (i : Nat) : Int := gD (BPE x) i
abbrev APH (x : LaI) : List Int := AE (A9 x) λ (i : Nat) => AQD x i
abbrev BKG (x : LaI) : Nat := (APH x).length
abbrev BSK : Prop := (0 : Int) = (0 : Int)
abbrev BQY (x : LaI) : Stm := Stm.mk (APH x) (0 : Int) (0 : Int)
abbrev BLT (x : LaI) : MkI := MkI.mk (BQY x) (12 : Int) true
abbrev Gp (x : LaI) : Cht := GQ (BLT x)
abbrev BSJ (x : LaI) : Span := (Gp x).p
abbrev xF (x : LaI) : Int := (BSJ x).lo
abbrev vJ (x : LaI) : Int := (BSJ x).hi
abbrev Td (x : LaI) : Int := (Gp x).base
abbrev yO (x : LaI) : Int := (Gp x).scale
abbrev wG (x : LaI) : Int := (Gp x).off
abbrev ASS (x : LaI) : List Mk := (Gp x).ms
abbrev wF (x : LaI) : Nat := (ASS x).length
abbrev vX (x : LaI) (i : Nat) : Mk := gD (ASS x) i
abbrev AUN (x : LaI) : List Mk := AE (wF x) λ (i : Nat) => vX x i
abbrev Vn (x : LaI) : Nat := (AUN x).length
abbrev BDW (x : LaI) (i : Nat) : Mk := gD (AUN x) i
abbrev ASQ (x : LaI) (i : Nat) : Int := (BDW x i).pl
abbrev AQS (x : LaI) (i : Nat) : Int := (vX x i).pl
abbrev AQV (x : LaI) (i : Nat) : Int := (BDW x i).ht
abbrev BAV (x : LaI) (i : Nat) : Int := (vX x i).ht
abbrev BCA (x : LaI) : List Nt := (Gp x).ns
abbrev A7 (x : LaI) : Nat := (BCA x).length
abbrev Mg (x : LaI) (i : Nat) : Nt := gD (BCA x) i
abbrev AXW (x : LaI) : List Nt := AE (A7 x) λ (i : Nat) => Mg x i
abbrev Dn (x : LaI) : Nat := (AXW x).length
abbrev A4 (x : LaI) (i : Nat) : Nt := gD (AXW x) i
abbrev BGR (x : LaI) (i : Nat) : Int := (A4 x i).mi
abbrev AWO (x : LaI) (i : Nat) : Int := (Mg x i).mi
abbrev BCD (x : LaI) (i : Nat) : Span := (A4 x i).t
abbrev BHK (x : LaI) (i : Nat) : Int := (BCD x i).lo
abbrev BBE (x : LaI) (i : Nat) : Span := (Mg x i).t
abbrev BBR (x : LaI) (i : Nat) : Int := (BBE x i).lo
abbrev BFU (x : LaI) (i : Nat) : Int := (BCD x i).hi
abbrev BGH (x : LaI) (i : Nat) : Int := (BBE x i).hi
abbrev ASM (x : LaI) (i : Nat) : Span := (A4 x i).s
abbrev BGG (x : LaI) (i : Nat) : Int := (ASM x i).lo
abbrev BGK (x : LaI) (i : Nat) : Span := (Mg x i).s
abbrev ASN (x : LaI) (i : Nat) : Int := (BGK x i).lo
abbrev BEH (x : LaI) (i : Nat) : Int := (ASM x i).hi
abbrev BBN (x : LaI) (i : Nat) : Int := (BGK x i).hi
abbrev AUO (a : Nat) : Prop := (↑a : Int) = (0 : Int)
abbrev ARW (x : LaI) : Prop := (AO x).p.lo = xF x
abbrev BEB (x : LaI) : Prop := (AO x).p.hi = vJ x
abbrev BGC (x : LaI) : Prop := (AO x).scale = yO x
abbrev AXA (x : LaI) : Prop := (AO x).off = wG x
abbrev xN (x : LaI) : Tru := qX (BLT x)
abbrev ARY (x : LaI) : List Int := (xN x).t
abbrev AWU (x : LaI) : List Int := (xN x).s
abbrev AVL (x : LaI) : List Int := (xN x).z
abbrev Ki (x : LaI) : Int := wr ((AO x).base + PM x)
abbrev SO : Prop := (0 : Nat) = (0 : Nat)
abbrev AYT (x : LaI) : Prop := (AO x).ns.length = Dn x
abbrev BEE (a : Nat) (x : LaI) : Prop := (↑a : Int) < (↑(AO x).ns.length : Int)
abbrev F8 (a : Nat) : Prop := (0 : Int) <= (↑a : Int)
abbrev OG (a : Nat) : Nat := (0 : Nat) + a
abbrev ZW (a : Nat) (x : LaI) : Prop := OG a < (AO x).ns.length
abbrev BBQ (a : Nat) (a1 : Nat) : Prop := (↑a : Int) = IntKind.i64.wrap ((↑a1 : Int) + (1 : Int))
abbrev HE (x : LaI) : Prop := (AO x).p.lo = (AO x).p.lo
abbrev HT (x : LaI) : Prop := (AO x).p.hi = (AO x).p.hi
abbrev TK (x : LaI) : Prop := (AO x).ms.length = (AO x).ms.length
abbrev UA (x : LaI) : Prop := ∀ (i : Nat), i < (AO x).ms.length -> (gD (AO x).ms i).pl = (gD (AO x).ms i).pl /\ (gD (AO x).ms i).ht = (gD (AO x).ms i).ht
abbrev OH (x : LaI) : Prop := (AO x).ns.length = (AO x).ns.length
abbrev Cc (x : LaI) : Prop := ∀ (i : Nat), i < (AO x).ns.length -> (gD (AO x).ns i).mi = (gD (AO x).ns i).mi /\ (gD (AO x).ns i).t.lo = (gD (AO x).ns i).t.lo /\ (gD (AO x).ns i).t.hi = (gD (AO x).ns i).t.hi /\
 (gD (AO x).ns i).s.lo = (gD (AO x).ns i).s.lo /\ (gD (AO x).ns i).s.hi = (gD (AO x).ns i).s.hi
abbrev xU (x : LaI) : Prop := (PD x).t.length = (PD x).t.length
abbrev wC (x : LaI) : Prop := ∀ (i : Nat), i < (PD x).t.length -> gD (PD x).t i = gD (PD x).t i
abbrev wR (x : LaI) : Prop := (PD x).s.length = (PD x).s.length
abbrev zZ (x : LaI) : Prop := ∀ (i : Nat), i < (PD x).s.length -> gD (PD x).s i = gD (PD x).s i
abbrev K6 (x : LaI) : Prop := (PD x).z.length = (PD x).z.length
abbrev xY (x : LaI) : Prop := ∀ (i : Nat), i < (PD x).z.length -> gD (PD x).z i = gD (PD x).z i
abbrev HV (i : Nat) (a : Nat) : Bool := decide (i = OG a)
abbrev xS (a : Nat) : Bool := decide (OG a = OG a)
abbrev C2 (x : LaI) (a : Nat) : Nt := L8 x a (OG a)
abbrev D3 (x : LaI) (a : Nat) : Int := (C2 x a).mi
abbrev ASV (x : LaI) (a : Nat) : Span := (C2 x a).t
abbrev AUH (x : LaI) (a : Nat) : Int := (ASV x a).lo
abbrev AQR (x : LaI) (a : Nat) : Int := IntKind.i64.wrap (AUH x a + IV x)
abbrev BAN (x : LaI) (a : Nat) : Int := (ASV x a).hi
abbrev BFB (x : LaI) (a : Nat) : Int := IntKind.i64.wrap (BAN x a + IV x)
abbrev AXB (x : LaI) (a : Nat) : Span := (C2 x a).s
abbrev BFI (x : LaI) (a : Nat) : Int := (AXB x a).lo
abbrev ATH (x : LaI) (a : Nat) : Int := (AXB x a).hi
abbrev ATY (x : LaI) (a : Nat) : Nat := (AO x).ns.length - a
abbrev J2 (x : LaI) (a : Nat) (j : Nat) : Nt := L8 x a (OG j)
abbrev AWD (x : LaI) (a : Nat) (j : Nat) : Span := (J2 x a j).t
abbrev AUK (x : LaI) (a : Nat) (j : Nat) : Span := (J2 x a j).s
abbrev TX (x : LaI) : Prop := (CG x).p.lo = (CG x).p.lo
abbrev TL (x : LaI) : Prop := (CG x).p.hi = (CG x).p.hi
abbrev AQQ (x : LaI) : Prop := (CG x).ms.length = (CG x).ms.length
abbrev AUB (x : LaI) : Prop := ∀ (i : Nat), i < (CG x).ms.length -> (gD (CG x).ms i).pl = (gD (CG x).ms i).pl /\ (gD (CG x).ms i).ht = (gD (CG x).ms i).ht
abbrev BFM (x : LaI) : Prop := (CG x).ns.length = (CG x).ns.length
abbrev BCU (x : LaI) : Prop := ∀ (i : Nat), i < (CG x).ns.length -> (gD (CG x).ns i).mi = (gD (CG x).ns i).mi /\ (gD (CG x).ns i).t.lo = (gD (CG x).ns i).t.lo /\ (gD (CG x).ns i).t.hi = (gD (CG x).ns i).t.hi /\
 (gD (CG x).ns i).s.lo = (gD (CG x).ns i).s.lo /\ (gD (CG x).ns i).s.hi = (gD (CG x).ns i).s.hi
abbrev AZI (x : LaI) : Prop := TX x /\ TL x /\ (CG x).base = (CG x).base /\ (CG x).scale = (CG x).scale /\ (CG x).off = (CG x).off /\ AQQ x /\ AUB x /\ BFM x /\ BCU x
abbrev G8 (x : LaI) : Prop := HE x /\ HT x /\ (AO x).base = (AO x).base /\ (AO x).scale = (AO x).scale /\ (AO x).off = (AO x).off /\ TK x /\ UA x /\ OH x /\ Cc x /\ xU x /\
 wC x /\ wR x /\ zZ x /\ K6 x /\ xY x /\ AZI x
abbrev zV (x : LaI) : List Mk := AE (AO x).ms.length λ (i : Nat) => gD (AO x).ms i
abbrev yH (x : LaI) : Nat := (zV x).length
abbrev Di (x : LaI) : Prop := yH x = (AO x).ms.length
abbrev AHG (x : LaI) (i : Nat) : Mk := gD (zV x) i
abbrev Av (x : LaI) : Prop := ∀ (i : Nat), i < yH x -> (AHG x i).pl = (gD (AO x).ms i).pl /\ (AHG x i).ht = (gD (AO x).ms i).ht
abbrev Zb (x : LaI) : List Nt := AE (AO x).ns.length λ (i : Nat) => gD (AO x).ns i
abbrev ZL (x : LaI) : Nat := (Zb x).length
abbrev Bx (x : LaI) : Prop := ZL x = (AO x).ns.length
abbrev dZ (x : LaI) (i : Nat) : Nt := gD (Zb x) i
abbrev S5 (x : LaI) (i : Nat) : Span := (dZ x i).t
abbrev AHL (x : LaI) (i : Nat) : Span := (dZ x i).s
abbrev ZM (x : LaI) : Prop := ∀ (i : Nat), i < ZL x -> (dZ x i).mi = (gD (AO x).ns i).mi /\ (S5 x i).lo = (gD (AO x).ns i).t.lo /\ (S5 x i).hi = (gD (AO x).ns i).t.hi /\ (AHL x
 i).lo = (gD (AO x).ns i).s.lo /\ (AHL x i).hi = (gD (AO x).ns i).s.hi
abbrev Yd (x : LaI) : Prop := yH x < (4611686018427387904 : Nat)
abbrev cT (x : LaI) : Prop := ZL x < (4611686018427387904 : Nat)
abbrev Z4 : Prop := (0 : Nat) < (4611686018427387904 : Nat)
abbrev cL (x : LaI) : List Mk := AE (CG x).ms.length λ (i : Nat) => gD (CG x).ms i
abbrev bJ (x : LaI) : Nat := (cL x).length
abbrev Cm (x : LaI) : Prop := bJ x = (CG x).ms.length
abbrev ABS (x : LaI) (i : Nat) : Mk := gD (cL x) i
abbrev Bi (x : LaI) : Prop := ∀ (i : Nat), i < bJ x -> (ABS x i).pl = (gD (CG x).ms i).pl /\ (ABS x i).ht = (gD (CG x).ms i).ht
abbrev fJ (x : LaI) : List Nt := AE (CG x).ns.length λ (i : Nat) => gD (CG x).ns i
abbrev Ae (x : LaI) : Nat := (fJ x).length
abbrev Ag (x : LaI) : Prop := Ae x = (CG x).ns.length
abbrev dU (x : LaI) (i : Nat) : Nt := gD (fJ x) i
abbrev ACK (x : LaI) (i : Nat) : Span := (dU x i).t
abbrev W7 (x : LaI) (i : Nat) : Span := (dU x i).s
abbrev Ai (x : LaI) : Prop := ∀ (i : Nat), i < Ae x -> (dU x i).mi = (gD (CG x).ns i).mi /\ (ACK x i).lo = (gD (CG x).ns i).t.lo /\ (ACK x i).hi = (gD (CG x).ns i).t.hi /\ (W7 x
 i).lo = (gD (CG x).ns i).s.lo /\ (W7 x i).hi = (gD (CG x).ns i).s.hi
abbrev cS (x : LaI) : Prop := bJ x < (4611686018427387904 : Nat)
abbrev cB (x : LaI) : Prop := Ae x < (4611686018427387904 : Nat)
abbrev dM (x : LaI) : Cht := Cht.mk (AO x).p (AO x).base (AO x).scale (AO x).off (zV x) (Zb x)
abbrev bW (x : LaI) : Cht := Cht.mk (CG x).p (CG x).base (CG x).scale (CG x).off (cL x) (fJ x)
abbrev z_LaN_129 : List Int := AE (0 : Nat) λ (i : Nat) => default
abbrev dW (x : LaI) : CZ := CZ.mk (dM x) z_LaN_129
abbrev M6 (x : LaI) : List Span × Int := IT (dW x)
abbrev cF (x : LaI) : CZ := CZ.mk (bW x) z_LaN_129
abbrev ADU (x : LaI) : List Span × Int := IT (cF x)
abbrev N3 (x : LaI) : FwR := DA (dM x)
abbrev AJI (x : LaI) : FwR := DA (bW x)
abbrev AHT (x : LaI) : List Span := (M6 x).fst
abbrev AKU (x : LaI) : Nat := (AHT x).length
abbrev ACU (x : LaI) : List Span := (ADU x).fst
abbrev N7 (x : LaI) : Nat := (ACU x).length
abbrev AKE (i : Nat) (x : LaI) : Prop := i < (laA x).fst.length
abbrev AKN (x : LaI) (i : Nat) : Span := gD (laA x).fst i
abbrev Cl (x : LaI) (i : Nat) : Int := (AKN x i).lo
abbrev Y2 (x : LaI) (i : Nat) : Span := gD (AHT x) i
abbrev Dx (x : LaI) (i : Nat) : Int := (AKN x i).hi
abbrev ALV (i : Nat) (x : LaI) : Prop := i < (laQ x).fst.length
abbrev AGX (x : LaI) (i : Nat) : Span := gD (laQ x).fst i
abbrev Ci (x : LaI) (i : Nat) : Int := (AGX x i).lo
abbrev ACY (x : LaI) (i : Nat) : Span := gD (ACU x) i
abbrev Bc (x : LaI) (i : Nat) : Int := (AGX x i).hi
abbrev aY (a : Nat) (x : LaI) : Prop := a.le (laA x).fst.length
abbrev ADC (a : Nat) (x : LaI) : Prop := (↑a : Int) < (↑(laA x).fst.length : Int)
abbrev T9 (a : Nat) (x : LaI) : Prop := F8 a /\ ADC a x
abbrev S0 (x : LaI) (a : Nat) : Nat := (laA x).fst.length - a
abbrev AFT : Nat := z_LaN_129.length
abbrev IG : Prop := AFT = (0 : Nat)
abbrev N9 : Prop := AFT < (4611686018427387904 : Nat)
abbrev AHV (x : LaI) : Prop := Yd x /\ cT x /\ N9
abbrev QU (x : LaI) : Int := IntKind.i64.wrap (PH x + IV x)
abbrev R2 (x : LaI) : Prop := QU x = QU x
abbrev AJG (x : LaI) : Prop := cS x /\ cB x /\ N9
abbrev ADB (x : LaI) : Span × Int := BD (CZI.mk (dW x) (PH x))
abbrev AKV (x : LaI) : Int := (ADB x).snd
abbrev Z2 (x : LaI) : Span × Int := BD (CZI.mk (cF x) (QU x))
abbrev ALM (x : LaI) : Span := (Z2 x).fst
abbrev AEK (x : LaI) : Int := (ALM x).lo
abbrev AAK (x : LaI) : Span := (ADB x).fst
abbrev AFL (x : LaI) : Int := (AAK x).lo
abbrev AGZ (x : LaI) : Int := (ALM x).hi
abbrev AAW (x : LaI) : Int := (AAK x).hi
abbrev cX (x : LaI) : Int := IntKind.i64.wrap (PH x + (90 : Int))
abbrev cP (x : LaI) : Int := IntKind.i64.wrap (QU x + (90 : Int))
abbrev ABL (x : LaI) : Span × Int := CQ (CZ2.mk (dW x) (PH x) (cX x))
abbrev AAO (x : LaI) : Int := (ABL x).snd
abbrev ADZ (x : LaI) : Span × Int := CQ (CZ2.mk (cF x) (QU x) (cP x))
abbrev V7 (x : LaI) : Span := (ADZ x).fst
abbrev U4 (x : LaI) : Span := (ABL x).fst
theorem CWC (x : LaI) : (CRM x) = ((A9 x = x.bs.length /\ (∀ (i : Nat), i < A9 x -> AQD x i = gD x.bs i) /\ (12 : Int) = Int.ofNat (12 : Nat) /\ true = true /\ BKG x = A9 x /\ (∀ (i : Nat), i <
 BKG x -> gD (APH x) i = AQD x i) /\ BSK /\ BSK /\ (StmB (0 : Int) (BQY x) /\ (1 : Int) <= (12 : Int) /\ (12 : Int) <= (14 : Int)) /\ true = true) /\ (xF x = xF x /\ vJ x = vJ x /\
 Td x = Td x /\ yO x = yO x /\ wG x = wG x /\ Vn x = wF x /\ (∀ (i : Nat), i < Vn x -> ASQ x i = AQS x i /\ AQV x i = BAV x i) /\ Dn x = A7 x
 /\ (∀ (i : Nat), i < Dn x -> BGR x i = AWO x i /\ BHK x i = BBR x i /\ BFU x i = BGH x i /\ BGG x i = ASN x i /\ BEH x i = BBN x i) /\ Vn x < (1073741824 : Nat) /\ (0
 : Nat) < Dn x /\ Dn x < (1073741824 : Nat)) /\ ((∃ (a : Nat), (x.t = x.t /\ PM x = FQ x.r (1000 : Int) /\ IV x = FQ x.d (100000 : Int) /\ AUO a /\ ARW x /\ BEB x /\ (AO x).base = Td x /\
 BGC x /\ AXA x /\ (AO x).ms.length = wF x /\ (∀ (i : Nat), i < (AO x).ms.length -> (gD (AO x).ms i).pl = AQS x i /\ (gD (AO x).ms i).ht = BAV x i) /\ (AO x).ns.length = A7 x /\ (∀ (i : Nat),
 i < (AO x).ns.length -> (gD (AO x).ns i).mi = AWO x i /\ (gD (AO x).ns i).t.lo = BBR x i /\ (gD (AO x).ns i).t.hi = BGH x i /\ (gD (AO x).ns i).s.lo = ASN x i /\ (gD (AO x).ns i).s.hi = BBN x i)
 /\ (PD x).t.length = (ARY x).length /\ (∀ (i : Nat), i < (PD x).t.length -> gD (PD x).t i = gD (ARY x) i) /\ (PD x).s.length = (AWU x).length /\ (∀ (i : Nat), i < (PD x).s.length -> gD (PD x).s i = gD
 (AWU x) i) /\ (PD x).z.length = (AVL x).length /\ (∀ (i : Nat), i < (PD x).z.length -> gD (PD x).z i = gD (AVL x) i) /\ ARW x /\ BEB x /\ Ki x = IntKind.i64.wrap (Td x + FQ x.r (1000
 : Int)) /\ BGC x /\ AXA x /\ (AO x).ms.length = Vn x /\ (∀ (i : Nat), i < (AO x).ms.length -> (gD (AO x).ms i).pl = ASQ x i /\ (gD (AO x).ms i).ht = AQV x i) /\ SO /\ AYT x /\ AYT x /\
 ∀ (i : Nat), i < (AO x).ns.length -> (L8 x a i).mi = BGR x i /\ (L8 x a i).t.lo = BHK x i /\ (L8 x a i).t.hi = BFU x i /\ (L8 x a i).s.lo = BGG x i /\ (L8 x a i).s.hi = BEH x i) /\ a.le (AO
 x).ns.length) /\ ∀ (a : Nat), a.le (AO x).ns.length -> bif decide (BEE a x) then (F8 a /\ BEE a x) /\ (ZW a x /\ ZW a x /\ ZW a x /\ ZW a x /\ ZW a x /\ (OG a).succ.le (AO
 x).ns.length) /\ ∃ (a_2 : Nat), (x.t = x.t /\ PM x = PM x /\ IV x = IV x /\ BBQ a_2 a /\ HE x /\ HT x /\ (AO x).base = (AO x).base /\ (AO x).scale = (AO x).scale /\ (AO x).off = (AO x).off /\ TK x
 /\ UA x /\ OH x /\ Cc x /\ xU x /\ wC x /\ wR x /\ zZ x /\ K6 x /\ xY x /\ HE x /\ HT x /\ Ki x = Ki x /\ (AO x).scale = (AO x).scale /\ (AO x).off =
 (AO x).off /\ TK x /\ UA x /\ SO /\ OH x /\ OH x /\ ∀ (i : Nat), i < (AO x).ns.length -> ((L8 x a_2 i).mi = bif HV i a then bif xS a then D3 x a else D3 x a else bif
 HV i a then D3 x a else (L8 x a i).mi) /\ ((L8 x a_2 i).t.lo = bif HV i a then bif xS a then AQR x a else AUH x a else bif HV i a then AQR x a else (L8 x a i).t.lo) /\ ((L8
 x a_2 i).t.hi = bif HV i a then bif xS a then BFB x a else BAN x a else bif HV i a then BFB x a else (L8 x a i).t.hi) /\ ((L8 x a_2 i).s.lo = bif HV i a then IntKind.i64.wrap
 (BFI x a + PM x) else bif HV i a then BFI x a else (L8 x a i).s.lo) /\ (L8 x a_2 i).s.hi = bif HV i a then IntKind.i64.wrap (ATH x a + PM x) else bif HV i a then ATH x a else (L8
 x a i).s.hi) /\ a_2.le (AO x).ns.length /\ ATY x a_2 < ATY x a else ∃ (a_2 : One), (x.t = x.t /\ PM x = PM x /\ IV x = IV x /\ HE x /\ HT x /\ (AO x).base = (AO x).base /\ (AO x).scale = (AO
 x).scale /\ (AO x).off = (AO x).off /\ TK x /\ UA x /\ OH x /\ Cc x /\ xU x /\ wC x /\ wR x /\ zZ x /\ K6 x /\ xY x /\ (CG x).p.lo = (AO x).p.lo /\ (CG x).p.hi = (AO
 x).p.hi /\ (CG x).base = Ki x /\ (CG x).scale = (AO x).scale /\ (CG x).off = (AO x).off /\ (CG x).ms.length = (AO x).ms.length /\ (∀ (i : Nat), i < (CG x).ms.length -> (gD (CG x).ms i).pl = (gD (AO x).ms i).pl
 /\ (gD (CG x).ms i).ht = (gD (AO x).ms i).ht) /\ (CG x).ns.length = (AO x).ns.length /\ (0 : Nat) + (AO x).ns.length <= (AO x).ns.length /\ ∀ (j : Nat), j < (CG x).ns.length -> (gD (CG x).ns j).mi = (J2 x a j).mi
 /\ (gD (CG x).ns j).t.lo = (AWD x a j).lo /\ (gD (CG x).ns j).t.hi = (AWD x a j).hi /\ (gD (CG x).ns j).s.lo = (AUK x a j).lo /\ (gD (CG x).ns j).s.hi = (AUK x a j).hi) /\ True) /\ ∀ (a : One), True ->
 (bif (↑(AO x).ns.length : Int) == (0 : Int) then true = true else ∃ (a : One), (x.t = x.t /\ PM x = PM x /\ IV x = IV x /\ G8 x) /\ True) /\ ∀ (a : One), True -> (HE x /\ HT x /\ (AO x).base = (AO
 x).base /\ (AO x).scale = (AO x).scale /\ (AO x).off = (AO x).off /\ Di x /\ Av x /\ Bx x /\ ZM x /\ SO /\ SO /\ Yd x /\ cT x /\ Z4) /\ (TX x /\ TL x /\ (CG
 x).base = (CG x).base /\ (CG x).scale = (CG x).scale /\ (CG x).off = (CG x).off /\ Cm x /\ Bi x /\ Ag x /\ Ai x /\ SO /\ SO /\ cS x /\ cB x /\ Z4) /\ (HE x /\
 HT x /\ (AO x).base = (AO x).base /\ (AO x).scale = (AO x).scale /\ (AO x).off = (AO x).off /\ Di x /\ Av x /\ Bx x /\ ZM x /\ (Yd x /\ cT x) /\ (AJ (dM x) = (0 :
 Int) -> ZL x <= (12 : Nat))) /\ (TX x /\ TL x /\ (CG x).base = (CG x).base /\ (CG x).scale = (CG x).scale /\ (CG x).off = (CG x).off /\ Cm x /\ Bi x /\ Ag x /\ Ai x /\ (cS
 x /\ cB x) /\ (AJ (bW x) = (0 : Int) -> Ae x <= (12 : Nat))) /\ bif bif bif bif bif (M6 x).snd != (ADU x).snd then true else (N3 x).e != (0 : Int) then true else (AJI x).e !=
 (0 : Int) then true else (↑(N3 x).q.length : Int) != (↑(AJI x).q.length : Int) then true else (↑(AKU x) : Int) != (↑(N7 x) : Int) then true = false else (∃ (a : Nat), (x.t = x.t /\ PM x = PM x
 /\ IV x = IV x /\ (laA x).fst.length = AKU x /\ (∀ (i : Nat), AKE i x -> Cl x i = (Y2 x i).lo /\ Dx x i = (Y2 x i).hi) /\ (laQ x).fst.length = N7 x /\ (∀ (i : Nat), ALV i x
 -> Ci x i = (ACY x i).lo /\ Bc x i = (ACY x i).hi) /\ AUO a /\ G8 x) /\ aY a x) /\ ∀ (a : Nat), aY a x -> bif decide (ADC a x) then ((F8 a /\ (↑a : Int) < (↑(laQ
 x).fst.length : Int)) /\ T9 a x /\ T9 a x) /\ bif !(Ci x a == IntKind.i64.wrap (Cl x a + IV x) && (Bc x a == IntKind.i64.wrap (Dx x a + IV x) && true)) then true = false else ∃
 (a_2 : Nat), (x.t = x.t /\ PM x = PM x /\ IV x = IV x /\ (laA x).fst.length = (laA x).fst.length /\ (∀ (i : Nat), AKE i x -> Cl x i = Cl x i /\ Dx x i = Dx x i) /\ (laQ x).fst.length = (laQ
 x).fst.length /\ (∀ (i : Nat), ALV i x -> Ci x i = Ci x i /\ Bc x i = Bc x i) /\ BBQ a_2 a /\ G8 x) /\ aY a_2 x /\ S0 x a_2 < S0 x a else (((0 : Int) <= (0 : Int)
 /\ (0 : Int) < (↑(PD x).t.length : Int)) /\ ∃ (a : One), (PM x = PM x /\ IV x = IV x /\ PH x = IntKind.i64.wrap (gD (PD x).t (Int.toNat (0 : Int)) + FQ x.t (300 : Int)) /\ HE x /\ HT x /\ (AO x).base =
 (AO x).base /\ (AO x).scale = (AO x).scale /\ (AO x).off = (AO x).off /\ TK x /\ UA x /\ OH x /\ Cc x /\ AZI x) /\ True) /\ ∀ (a : One), True -> (HE x /\ HT x /\ (AO x).base = (AO
 x).base /\ (AO x).scale = (AO x).scale /\ (AO x).off = (AO x).off /\ Di x /\ Av x /\ Bx x /\ ZM x /\ IG /\ IG /\ PH x = PH x /\ AHV x) /\ (TX x /\ TL x /\ (CG x).base
 = (CG x).base /\ (CG x).scale = (CG x).scale /\ (CG x).off = (CG x).off /\ Cm x /\ Bi x /\ Ag x /\ Ai x /\ IG /\ IG /\ R2 x /\ AJG x) /\ (bif bif AKV x != (Z2
 x).snd then true else bif AKV x == (0 : Int) then !(AEK x == IntKind.i64.wrap (AFL x + PM x) && (AGZ x == IntKind.i64.wrap (AAW x + PM x) && true)) else false then true = false else ∃ (a :
 One), (PM x = PM x /\ IV x = IV x /\ PH x = PH x /\ HE x /\ HT x /\ (AO x).base = (AO x).base /\ (AO x).scale = (AO x).scale /\ (AO x).off = (AO x).off /\ TK x /\ UA x /\ OH x /\ Cc x
 /\ TX x /\ TL x /\ (CG x).base = (CG x).base /\ (CG x).scale = (CG x).scale /\ (CG x).off = (CG x).off /\ AQQ x /\ AUB x /\ BFM x /\ BCU x /\ (laV x).fst.lo = AFL x /\ (laV x).fst.hi =
 AAW x /\ (laW x).fst.lo = AEK x /\ (laW x).fst.hi = AGZ x) /\ True) /\ ∀ (a : One), True -> (HE x /\ HT x /\ (AO x).base = (AO x).base /\ (AO x).scale = (AO x).scale /\ (AO x).off = (AO x).off
 /\ Di x /\ Av x /\ Bx x /\ ZM x /\ IG /\ IG /\ PH x = PH x /\ cX x = cX x /\ AHV x) /\ (TX x /\ TL x /\ (CG x).base = (CG x).base /\ (CG x).scale = (CG
 x).scale /\ (CG x).off = (CG x).off /\ Cm x /\ Bi x /\ Ag x /\ Ai x /\ IG /\ IG /\ R2 x /\ cP x = cP x /\ AJG x) /\ true = bif bif AAO x == (ADZ
 x).snd then bif AAO x != (0 : Int) then true else (V7 x).lo == IntKind.i64.wrap ((U4 x).lo + PM x) && ((V7 x).hi == IntKind.i64.wrap ((U4 x).hi + PM x) && true) else false then true
 else false) := by kernel_rfl
def CQC (x : LaI) : Prop := AW Try.prog (A_La false x) Nr (AK Nr) (xLa x) (AF []) (.bool true) [] [] []
abbrev BLL (x : LaI) : List Int := AE x.bs.length λ (i : Nat) => gD x.bs i
abbrev wE (x : LaI) : Nat := (BLL x).length
abbrev ANI (x : LaI) (i : Nat) : Int := gD (BLL x) i
abbrev AOU (x : LaI) : List Int := AE (wE x) λ (i : Nat) => ANI x i
abbrev BNC (x : LaI) : Nat := (AOU x).length
abbrev BKB : Prop := (0 : Int) = (0 : Int)
abbrev BRR (x : LaI) : Stm := Stm.mk (AOU x) (0 : Int) (0 : Int)
abbrev BTL (x : LaI) : MkI := MkI.mk (BRR x) (12 : Int) true
abbrev Gb (x : LaI) : Cht := GQ (BTL x)
abbrev BRD (x : LaI) : Span := (Gb x).p
abbrev B5 (x : LaI) : Int := (BRD x).lo
abbrev xI (x : LaI) : Int := (BRD x).hi
abbrev Rv (x : LaI) : Int := (Gb x).base
abbrev xT (x : LaI) : Int := (Gb x).scale
abbrev E6 (x : LaI) : Int := (Gb x).off
abbrev AXS (x : LaI) : List Mk := (Gb x).ms
abbrev wL (x : LaI) : Nat := (AXS x).length
abbrev vB (x : LaI) (i : Nat) : Mk := gD (AXS x) i
abbrev BHL (x : LaI) : List Mk := AE (wL x) λ (i : Nat) => vB x i
abbrev Nd (x : LaI) : Nat := (BHL x).length
abbrev BGF (x : LaI) (i : Nat) : Mk := gD (BHL x) i
abbrev BFT (x : LaI) (i : Nat) : Int := (BGF x i).pl
abbrev BCQ (x : LaI) (i : Nat) : Int := (vB x i).pl
abbrev BCC (x : LaI) (i : Nat) : Int := (BGF x i).ht
abbrev BBK (x : LaI) (i : Nat) : Int := (vB x i).ht
abbrev BFV (x : LaI) : List Nt := (Gb x).ns
abbrev E9 (x : LaI) : Nat := (BFV x).length
abbrev Ow (x : LaI) (i : Nat) : Nt := gD (BFV x) i
abbrev ARK (x : LaI) : List Nt := AE (E9 x) λ (i : Nat) => Ow x i
abbrev yJ (x : LaI) : Nat := (ARK x).length
abbrev vL (x : LaI) (i : Nat) : Nt := gD (ARK x) i
abbrev ATL (x : LaI) (i : Nat) : Int := (Ow x i).mi
abbrev BEO (x : LaI) (i : Nat) : Span := (vL x i).t
abbrev AUY (x : LaI) (i : Nat) : Span := (Ow x i).t
abbrev ATX (x : LaI) (i : Nat) : Int := (AUY x i).lo
abbrev BDZ (x : LaI) (i : Nat) : Int := (AUY x i).hi
abbrev AUM (x : LaI) (i : Nat) : Span := (vL x i).s
abbrev ATK (x : LaI) (i : Nat) : Span := (Ow x i).s
abbrev BGE (x : LaI) (i : Nat) : Int := (ATK x i).lo
abbrev BCO (x : LaI) (i : Nat) : Int := (ATK x i).hi
abbrev BEF (x : LaI) : Prop := (AO x).p.lo = B5 x
abbrev AQL (x : LaI) : Prop := (AO x).p.hi = xI x
abbrev AYM (x : LaI) : Prop := (AO x).scale = xT x
abbrev BGN (x : LaI) : Prop := (AO x).off = E6 x
abbrev K1 (x : LaI) : Tru := qX (BTL x)
abbrev BHS (x : LaI) : List Int := (K1 x).t
abbrev BHT (x : LaI) : List Int := (K1 x).s
abbrev ART (x : LaI) : List Int := (K1 x).z
theorem CTG (x : LaI) : (CQC x) = ((wE x = x.bs.length /\ (∀ (i : Nat), i < wE x -> ANI x i = gD x.bs i) /\ (12 : Int) = Int.ofNat (12 : Nat) /\ true = true /\ BNC x = wE x /\ (∀ (i : Nat), i <
 BNC x -> gD (AOU x) i = ANI x i) /\ BKB /\ BKB /\ (StmB (0 : Int) (BRR x) /\ (1 : Int) <= (12 : Int) /\ (12 : Int) <= (14 : Int)) /\ true = true) /\ (B5 x = B5 x /\ xI x = xI x /\
 Rv x = Rv x /\ xT x = xT x /\ E6 x = E6 x /\ Nd x = wL x /\ (∀ (i : Nat), i < Nd x -> BFT x i = BCQ x i /\ BCC x i = BBK x i) /\ yJ x = E9 x
 /\ (∀ (i : Nat), i < yJ x -> (vL x i).mi = ATL x i /\ (BEO x i).lo = ATX x i /\ (BEO x i).hi = BDZ x i /\ (AUM x i).lo = BGE x i /\ (AUM x i).hi = BCO x i) /\ Nd x
 < (1073741824 : Nat) /\ yJ x = (0 : Nat)) /\ ((∃ (a : One), (x.t = x.t /\ PM x = FQ x.r (1000 : Int) /\ IV x = FQ x.d (100000 : Int) /\ Int.ofNat (0 : Nat) = Int.ofNat (0 : Nat) /\ BEF x /\ AQL x /\ (AO
 x).base = Rv x /\ AYM x /\ BGN x /\ (AO x).ms.length = wL x /\ (∀ (i : Nat), i < (AO x).ms.length -> (gD (AO x).ms i).pl = BCQ x i /\ (gD (AO x).ms i).ht = BBK x i) /\ (AO x).ns.length =
 E9 x /\ (∀ (i : Nat), i < (AO x).ns.length -> (gD (AO x).ns i).mi = ATL x i /\ (gD (AO x).ns i).t.lo = ATX x i /\ (gD (AO x).ns i).t.hi = BDZ x i /\ (gD (AO x).ns i).s.lo = BGE x i /\ (gD (AO
 x).ns i).s.hi = BCO x i) /\ (PD x).t.length = (BHS x).length /\ (∀ (i : Nat), i < (PD x).t.length -> gD (PD x).t i = gD (BHS x) i) /\ (PD x).s.length = (BHT x).length /\ (∀ (i : Nat), i < (PD
 x).s.length -> gD (PD x).s i = gD (BHT x) i) /\ (PD x).z.length = (ART x).length /\ (∀ (i : Nat), i < (PD x).z.length -> gD (PD x).z i = gD (ART x) i) /\ BEF x /\ AQL x /\ wr ((AO x).base + PM x)
 = IntKind.i64.wrap (Rv x + FQ x.r (1000 : Int)) /\ AYM x /\ BGN x /\ (AO x).ms.length = Nd x /\ (∀ (i : Nat), i < (AO x).ms.length -> (gD (AO x).ms i).pl = BFT x i /\ (gD (AO x).ms i).ht =
 BCC x i) /\ (0 : Nat) = (0 : Nat) /\ ∀ (i : Nat), i < (0 : Nat) -> false = false) /\ True) /\ ∀ (a : One), True -> ∃ (a : One), ((AO x).p.lo = (AO x).p.lo /\ (AO x).p.hi = (AO x).p.hi /\ (AO x).base = (AO x).base /\
 (AO x).scale = (AO x).scale /\ (AO x).off = (AO x).off /\ (AO x).ms.length = (AO x).ms.length /\ (∀ (i : Nat), i < (AO x).ms.length -> (gD (AO x).ms i).pl = (gD (AO x).ms i).pl /\ (gD (AO x).ms i).ht = (gD (AO
 x).ms i).ht) /\ (AO x).ns.length = (AO x).ns.length /\ ∀ (i : Nat), i < (AO x).ns.length -> (gD (AO x).ns i).mi = (gD (AO x).ns i).mi /\ (gD (AO x).ns i).t.lo = (gD (AO x).ns i).t.lo /\ (gD (AO x).ns i).t.hi = (gD
 (AO x).ns i).t.hi /\ (gD (AO x).ns i).s.lo = (gD (AO x).ns i).s.lo /\ (gD (AO x).ns i).s.hi = (gD (AO x).ns i).s.hi) /\ True) /\ ∀ (a : One), True -> (bif (↑(AO x).ns.length : Int) == (0 : Int) then true = true else
 False) /\ True) := by kernel_rfl
end Go.Bal
