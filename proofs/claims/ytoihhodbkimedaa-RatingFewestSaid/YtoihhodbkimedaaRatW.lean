/- Package rating: below, sound, the examples of the chapter. -/
import Derived.Test.YtoihhodbkimedaaRatU
set_option linter.unusedVariables false
set_option linter.unusedSimpArgs false
namespace Go.Bal
open Go Go.Sym Go.Proofs
def belM (a b : Rt) : Bool := decide (wr (a.n * b.d) < wr (b.n * a.d))
def BWF := pD dR2 λ x => .bool (belM x.lo x.hi)
def xB1 (b : Bnd) : List AVal := [.d (eBnd b)]
def fsM (r : Rt) : Bool := !(decide (r.d < 1) || (decide (r.d > 2000) || (decide (r.n < 0) || decide (r.n > wr (200000 * r.d)))))
def sndM (b : Bnd) : Bool := fsM b.lo && (fsM b.hi && !belM b.hi b.lo)
def rtL (b : Bnd) : List Rt := [b.lo, b.hi]
def so2b (b : Bnd) : Shape := { α := Nat, dflt := 0, T := λ i => ⟨[(1, .bptr 1000 0), (9, .d (lst 2 2 λ i => eRt (gD (rtL b) i))), (10, .int 2), (11, .int i)], [(1000, .live (.box [.int b.lo.n, .int b.lo.d, .int b.hi.n, .int b.hi.d]))]⟩, inv := λ i => i <= 2 /\ (1 <= i -> fsM b.lo = true) /\ (2 <= i -> fsM b.hi = true), meas := λ i => 2 - i }
def BXH (b : Bnd) : Ann := { ann 43 [(BYF, BWF)] with md := λ id => if id = 1 then some (λ k => if k = 4 then 4 else 0) else none, loops := λ id => if id = 2 then some [so2b b] else none }
def BVW (b : Bnd) : Prop := CH Try.prog (BXH b) BHE (AI BHE) (xB1 b) (AD []) (.bool (sndM b)) [] [] []
abbrev L0 a:=LW (fsM a)
abbrev cW a b:=(@gD Rt instInhabitedRt) (rtL a) b
abbrev uC a b c:=RC (RC a b) c
attribute [go_sem] L0 cW uC
theorem AOJ (b : Bnd) : (BVW b) = (YS (λ i=>AH (BI PS (AG (λ j=>Ko j 2 (SL (cW b j)) (Eb j (GW b) (HB b)) (RN (cW b j)) (Eb j (GY b) (GX b)))) Jj (CN i) (AK (GW b)) (AK (GY b)) (AK (HB b)) (AK (GX b))) (Ld i) (Iw 1 i (L0 (bJ b))) (Iw 2 i (L0 (bN b)))) (λ i=>DH (AE (Ld i) (Iw 1 i (L0 (bJ b))) (Iw 2 i (L0 (bN b)))) i 2 (BC (RX i 2) (RC (uC (KN (RN (cW b i)) 1) (ZR (RN (cW b i)) 2000) (KN (SL (cW b i)) 0)) (ZR (SL (cW b i)) (TH 200000 (RN (cW b i))))) (ME (sndM b)) (SA (λ j=>QU (BI PS (AG (λ k=>AP k 2 (MT (SL (cW b k)) (bG (cW b k))))) Jj (BJ j i) (AK (GW b)) (AK (GY b)) (AK (HB b)) (AK (GX b))) (AE (Ld j) (Iw 1 j (L0 (bJ b))) (Iw 2 j (L0 (bN b)))) 2 j i))) (KY (sndM b) (not (belM (bN b) (bJ b)))))) := by kernel_rfl
def kQ (a b : Int) : List Gau := [⟨100, 10, 12⟩, ⟨200, 30, 32⟩, ⟨300, a, b⟩]
def BGX := pD dI2 λ x => .d (DX (kQ x.a x.b))
def BHK : Ann := { ann 14 [] with md := λ id => if id = 1 then some (λ k => if k = 8 then 4 else 0) else none }
def BIJ (x : I2) : Prop := CH Try.prog BHK AWC (AI AWC) (xI2 x) (AD []) (.d (DX (kQ x.a x.b))) [] [] []
theorem BMH (x : I2) : (BIJ x) = ((kQ x.a x.b).length = 3 /\ ∀ (i : Nat), i < (kQ x.a x.b).length -> ((gD (kQ x.a x.b) i).st = bif decide (i = 0) then 100 else bif decide (i - 1 = 0) then 200 else 300)
 /\ ((gD (kQ x.a x.b) i).lo = bif decide (i = 0) then 10 else bif decide (i - 1 = 0) then 30 else x.a) /\ (gD (kQ x.a x.b) i).hi = bif decide (i = 0) then 12 else bif decide (i - 1 = 0) then 32 else x.b) := by
 kernel_rfl
def BRX := pD dI2 λ x => .d (eRt ⟨x.a, x.b⟩)
def BQJ (x : I2) : Prop := CH Try.prog (ann 8 []) G0 (AI G0) (xI2 x) (AD []) (.d (eRt ⟨x.a, x.b⟩)) [] [] []
theorem BXL (x : I2) : (BQJ x) = (MT (Pb x) (AK (bM x))) := by kernel_rfl
theorem BRW : AL Try.prog AVH BGX := Cq xI2 hI2 λ x _ => Lg (A := BHK) (ren := []) (fz := []) BOW (by kernel_rfl) AF (by
 show BIJ x; rw [BMH]
 refine ⟨rfl, λ i hi => ?_⟩
 match i, hi with
 | 0, _ => exact ⟨rfl, rfl, rfl⟩
 | 1, _ => exact ⟨rfl, rfl, rfl⟩
 | 2, _ => exact ⟨rfl, rfl, rfl⟩)
theorem BXF : AL Try.prog zO BRX := Cq xI2 hI2 λ x _ => Lg (A := ann 8 []) (ren := []) (fz := []) AYU (by kernel_rfl) AF (by
 show BQJ x; rw [BXL]<;> delta Pb bM AO AK MT; exact ⟨rfl, rfl⟩)
end Go.Bal

namespace Go.Bal
open Go Go.Sym Go.Proofs
def BHN : Ann := { ann 178 [(AVH, BGX), (APX, C_Rate.spec Ch), (uE, C_Knots.spec Ch), (AYQ, C_Knot.spec dGK), (BFS, C_Flow.spec dGBt), (AOZ, C_Stages.spec dGBf), (BTR, C_Dry.spec dGB), (zO, BRX)] with md := λ id => if id = 4 then some (λ k => if k = 1 then 4 else 0) else if id = 5 then some (λ k => if k = 4 then 4 else if k = 5 then 4 else 0) else none }
def BHO (n : Nat) : Prop := CH Try.prog BHN AVV (AI AVV) [] (AD []) (.bool true) [] [] []
abbrev XZ : Prop := (3 : Nat) = (3 : Nat)
abbrev z_awake_1 : List Gau := kQ (50 : Int) (52 : Int)
abbrev iN (i : Nat) : Gau := gD z_awake_1 i
abbrev vI (i : Nat) : Gau := gD (OC z_awake_1.length λ (i : Nat) => iN i) i
abbrev Nj : Prop := ∀ (i : Nat), i < (3 : Nat) -> (vI i).st = (iN i).st /\ (vI i).lo = (iN i).lo /\ (vI i).hi = (iN i).hi
abbrev AHV : Prop := (3 : Nat) < (20 : Nat) /\ True
abbrev z_awake_6 : List Gau := kQ (60 : Int) (62 : Int)
abbrev gM (i : Nat) : Gau := gD z_awake_6 i
abbrev uF (i : Nat) : Gau := gD (OC z_awake_6.length λ (i : Nat) => gM i) i
abbrev AEZ : Prop := ∀ (i : Nat), i < (3 : Nat) -> (uF i).st = (gM i).st /\ (uF i).lo = (gM i).lo /\ (uF i).hi = (gM i).hi
abbrev E7 : Prop := XZ /\ AEZ /\ AHV
abbrev Ml (i : Nat) : Bool := decide (i = (0 : Nat))
abbrev P0 (i : Nat) : Int := bif Ml i then (0 : Int) else bif decide (i - (1 : Nat) = (0 : Nat)) then (1 : Int) else (2 : Int)
abbrev O3 : Prop := (3 : Nat) < (1073741824 : Nat)
abbrev L3 : Prop := (2 : Nat) = (2 : Nat)
abbrev L7 (i : Nat) : Int := bif Ml i then (100 : Int) else (200 : Int)
abbrev T9 (i : Nat) : Int := bif Ml i then (10 : Int) else (5 : Int)
abbrev A6 (i : Nat) : Int := bif Ml i then (12 : Int) else (8 : Int)
abbrev oQ (i : Nat) : Gau := gD (OC (2 : Nat) λ (i : Nat) => Gau.mk (L7 i) (T9 i) (A6 i)) i
abbrev R6 (i : Nat) : Int := bif Ml i then (0 : Int) else (1 : Int)
abbrev A7 : Prop := (2 : Nat) < (1073741824 : Nat)
abbrev QR : Prop := (0 : Nat) = (0 : Nat)
abbrev Mi : Prop := ((3 : Nat) < (4611686018427387904 : Nat) /\ (0 : Nat) < (4611686018427387904 : Nat)) /\ True
theorem BPZ (n : Nat) : (BHO n) = ((XZ /\ Nj /\ AHV) /\ E7 /\ (XZ /\ AEZ /\ XZ /\ (∀ (i : Nat), i < (3 : Nat) -> gD (OC (3 : Nat) λ (i : Nat) => P0 i) i =
 P0 i) /\ O3 /\ O3) /\ (L3 /\ (∀ (i : Nat), i < (2 : Nat) -> (oQ i).st = L7 i /\ (oQ i).lo = T9 i /\ (oQ i).hi = A6 i) /\ L3 /\ (∀ (i : Nat),
 i < (2 : Nat) -> gD (OC (2 : Nat) λ (i : Nat) => R6 i) i = R6 i) /\ A7 /\ A7) /\ E7 /\ (XZ /\ Nj /\ QR /\ QR /\ Int.ofNat (400 : Nat) = Int.ofNat (400 :
 Nat) /\ Mi) /\ (XZ /\ Nj /\ QR /\ QR /\ Int.ofNat (150 : Nat) = Int.ofNat (150 : Nat) /\ Mi) /\ (XZ /\ Nj /\ QR /\ QR /\ Int.ofNat (50 : Nat) = Int.ofNat
 (50 : Nat) /\ Mi) /\ (XZ /\ Nj /\ QR /\ QR /\ Int.ofNat (40 : Nat) = Int.ofNat (40 : Nat) /\ Mi) /\ (XZ /\ Nj /\ QR /\ QR /\ Mi) /\ true = true) :=
 by kernel_rfl
def BKJ : List AVal -> Option (AVal × List Prop)
 | [] => some (.bool true, [])
 | _ => none
def BGW : Sym.Spec := ABI BKJ
theorem BUJ : BHO 0 := by
 rw [BPZ]; delta XZ z_awake_1 iN vI Nj AHV z_awake_6 gM uF AEZ E7 Ml P0 O3 L3 L7 T9 A6 oQ R6 A7 QR Mi; simp only [CC, eq_self, implies_true, forall_const]
 decide +kernel
theorem BBL : AL Try.prog AUO BGW := AIV λ xs v p h _ => by
 unfold BKJ at h; split at h
 ·cases h; exact Lg (A := BHN) (ren := []) (fz := []) BQF (by kernel_rfl) (AB BRW (AB BKC (AB BPL (AB AVY (AB BVM (AB BLT (AB CCI (AB BXF AF)))))))) BUJ
 ·cases h
end Go.Bal

namespace Go.Bal
open Go Go.Sym Go.Proofs
structure MB where
 s : Stm
 a : Int
 b : List Int
 deriving Inhabited
def stpB (x : MB) : MB := ⟨bK x.s 5 60, wr (x.a + HR x.s 5 60), x.b ++ [wr (x.a + HR x.s 5 60)]⟩
def mkB : Nat -> MB -> MB
 | 0, x => x
 | n + 1, x => mkB n (stpB x)
def mB (s : Stm) : MB := mkB (AV s 3).toNat ⟨BG s 3, 0, []⟩
structure ML where
 s : Stm
 l : List Ln
 deriving Inhabited
def lnS1 (s : Stm) : Stm := BG s 40
def lnS2 (s : Stm) : Stm := BG (lnS1 s) 60
def lnS3 (s : Stm) : Stm := bK (lnS2 s) 1 60
def lnS4 (s : Stm) : Stm := BG (lnS3 s) 200
def mkLn (s : Stm) : Ln := ⟨AV s 40, AV (lnS1 s) 60, wr (AV s 40 + HR (lnS2 s) 1 60), wr (AV (lnS1 s) 60 + AV (lnS3 s) 200)⟩
def stpL (x : ML) : ML := ⟨lnS4 x.s, x.l ++ [mkLn x.s]⟩
def mkL : Nat -> ML -> ML
 | 0, x => x
 | n + 1, x => mkL n (stpL x)
def mL (s : Stm) : ML := mkL ((mB s).b.length + 1) ⟨(mB s).s, []⟩
structure MG where
 s : Stm
 l : List Gau
 deriving Inhabited
def ptK (b : List Int) (t : Int) : Nat -> Nat -> Nat
 | 0, k => k
 | n + 1, k => bif decide (gD b k <= t) then ptK b t n (k + 1) else k
def ptM (b : List Int) (t : Int) : Nat := ptK b t b.length 0
def pR (x : Ln) (t : Int) : Int := wr (wr (x.a1 * wr (x.b0 - x.a0)) + wr (wr (x.b1 - x.a1) * wr (t - x.a0)))
def xD (x : Ln) : Int := wr (x.b0 - x.a0)
def vG (x : Ln) (t : Int) : Int := wr ((pR x t).tdiv (xD x))
def mxG (n : Int) : Int := sK 0 n
def oM (x : Ln) (s : Stm) (t : Int) : Gau := ⟨t, mxG (wr (vG x t - AV s 6)), wr (vG x t + HR (BG s 6) 1 6)⟩
def Mu (x : Ln) (s : Stm) (t : Int) (l : List Gau) : MG := bif (bif decide (pR x t < 0) then true else decide (pR x t > wr (1000 * xD x))) then ⟨s, l⟩ else ⟨bK (BG s 6) 1 6, l ++ [oM x s t]⟩
def mkG (b : List Int) (ls : List Ln) (n : Int) : Nat -> MG -> MG
 | 0, x => x
 | k + 1, x => mkG b ls n k (Mu (gD ls (ptM b (AV x.s n))) (BG x.s n) (AV x.s n) x.l)
structure MkI where
 s : Stm
 m : Int
def hiG (a : MkI) : Int := wr ((mB a.s).a + 80)
def mG0 (a : MkI) : MG := ⟨bK (mL a.s).s 1 a.m, []⟩
def mG (a : MkI) : MG := mkG (mB a.s).b (mL a.s).l (hiG a) (HR (mL a.s).s 1 a.m).toNat (mG0 a)
def iL (a : MkI) : List Gau := bif decide ((mG a).l.length = 0) then [⟨1, 1, 1⟩] else (mG a).l
def mdR (a : MkI) : Rtg := bif decide ((mG a).l.length = 0) then ⟨[], [⟨0, 0, 1, 1⟩]⟩ else ⟨(mB a.s).b, (mL a.s).l⟩
def okMk (x : Ln) : Prop := (0 <= x.a0 /\ x.a0 <= 39) /\ (1 <= x.b0 - x.a0 /\ x.b0 - x.a0 <= 60) /\ (0 <= x.a1 /\ x.a1 <= 59) /\ 0 <= x.b1 - x.a1 /\ x.b1 - x.a1 <= 199
structure KB where
 k : Nat
 x : MB
 deriving Inhabited
structure KL where
 k : Nat
 x : ML
 deriving Inhabited
structure KG where
 k : Nat
 x : MG
 deriving Inhabited
structure KP where
 k : Nat
 x : MG
 t : Int
 p : Nat
 deriving Inhabited
def mdS (a : MkI) : List (Nat × AVal) := [(0, .bptr 100 0), (1, .int a.m), (5, .bptr 1016 0), (6, .bptr 2000 0)]
def rtB (b l : AVal) : HCell := .live (.box [b, l])
def mdH (s : Stm) (b l : AVal) : List (Nat × HCell) := [(100, stmH s), (1016, zRtg), (2000, rtB b l)]
def preM (a : MkI) : Prop := StmB 0 a.s /\ 1 <= a.m /\ a.m <= 100
def pU (a : MkI) (y : KB) : Prop := y.k <= 2 /\ StmB (3 - y.k) y.x.s /\ mkB y.k y.x = mB a.s /\ (y.x.b.length : Int) + y.k <= 2 /\ 0 <= y.x.a /\ y.x.a <= 60 * (2 - y.k)
def md4n (a : MkI) : Shape := { α := KB, dflt := default, T := λ y => ⟨mdS a ++ [(7, .int y.x.a), (8, .int y.k)], mdH y.x.s (.d VG) (.d VG)⟩, inv := λ y => pU a y /\ y.x.b = [], meas := λ y => y.k + 1 }
def md4o (a : MkI) : Shape := { α := KB, dflt := default, T := λ y => ⟨mdS a ++ [(7, .int y.x.a), (8, .int y.k)], mdH y.x.s (.own 301 1 0 y.x.b.length) (.d VG) ++ [(301, .live (rowI y.x.b))]⟩, inv := λ y => pU a y, meas := λ y => y.k, again := [(301, 8064)] }
def md8 (a : MkI) : Shape := { α := One, dflt := default, T := λ _ => ⟨mdS a ++ [(7, .int (mB a.s).a)], mdH (mB a.s).s (.d (DC (mB a.s).b)) (.d VG)⟩, inv := λ _ => pU a ⟨0, mB a.s⟩, meas := λ _ => 0, ffz := [301] }
def inv9 (a : MkI) (y : KL) : Prop := pU a ⟨0, mB a.s⟩ /\ y.k <= (mB a.s).b.length + 1 /\ StmB (3 + 4 * y.k) y.x.s /\ mkL ((mB a.s).b.length + 1 - y.k) y.x = mL a.s /\ y.x.l.length = y.k /\ ∀ z ∈ y.x.l, okMk z
def md9S (a : MkI) (k : Nat) : List (Nat × AVal) := mdS a ++ [(7, .int (mB a.s).a), (9, .int k)]
def md9n (a : MkI) : Shape := { α := KL, dflt := default, T := λ y => ⟨md9S a y.k, mdH y.x.s (.d (DC (mB a.s).b)) (.d VG)⟩, inv := λ y => inv9 a y /\ y.k = 0, meas := λ y => (mB a.s).b.length + 3 }
def md9o (a : MkI) : Shape := { α := KL, dflt := default, T := λ y => ⟨md9S a y.k, mdH y.x.s (.d (DC (mB a.s).b)) (.own 302 4 0 y.x.l.length) ++ [(302, .live (rowL y.x.l))]⟩, inv := λ y => inv9 a y, meas := λ y => (mB a.s).b.length + 1 - y.k, again := [(302, 14064)] }
def mdHG (a : MkI) (s : Stm) : List (Nat × HCell) := mdH s (.d (DC (mB a.s).b)) (.d (wY (mL a.s).l))
def md14 (a : MkI) : Shape := { α := One, dflt := default, T := λ _ => ⟨mdS a ++ [(7, .int (mB a.s).a)], mdHG a (mL a.s).s⟩, inv := λ _ => inv9 a ⟨(mB a.s).b.length + 1, mL a.s⟩, meas := λ _ => 0, ffz := [302] }
def mdSG (a : MkI) (k : Nat) (v : AVal) : List (Nat × AVal) := [(0, .bptr 100 0), (5, .bptr 1016 0), (6, .bptr 2000 0), (7, .int (mB a.s).a), (11, v), (12, .int k)]
def fin9 (a : MkI) : Prop := inv9 a ⟨(mB a.s).b.length + 1, mL a.s⟩
def mkGa (a : MkI) (k : Nat) (x : MG) : MG := mkG (mB a.s).b (mL a.s).l (hiG a) k x
def xO (a : MkI) (k : Nat) (x : MG) : Prop := fin9 a /\ (k : Int) <= a.m /\ StmB (16 + 3 * (a.m - k)) x.s /\ mkGa a k x = mG a /\ (x.l.length : Int) + k <= a.m
def CHP (a : MkI) : Shape := { α := KG, dflt := default, T := λ y => ⟨mdSG a y.k (.d VG), mdHG a y.x.s⟩, inv := λ y => xO a y.k y.x /\ y.x.l = [], meas := λ y => y.k, tag := [0] }
def CGX (a : MkI) : Shape := { α := KG, dflt := default, T := λ y => ⟨mdSG a y.k (.own 303 3 0 y.x.l.length), mdHG a y.x.s ++ [(303, .live (rowG y.x.l))]⟩, inv := λ y => xO a y.k y.x /\ 0 < y.x.l.length, meas := λ y => y.k, tag := [1] }
def jS (a : MkI) (t : Int) : Ln := gD (mL a.s).l (ptM (mB a.s).b t)
def xZ (a : MkI) (m : Nat) (y : KP) : Prop := fin9 a /\ y.k = m /\ 1 <= y.k /\ (y.k : Int) <= a.m /\ StmB (17 + 3 * (a.m - y.k)) y.x.s /\ mkGa a (y.k - 1) (Mu (jS a y.t) y.x.s y.t y.x.l) = mG a /\ (y.x.l.length : Int) + y.k <= a.m /\ (0 <= y.t /\ y.t <= 199) /\ y.p <= (mB a.s).b.length /\ ptM (mB a.s).b y.t = ptK (mB a.s).b y.t ((mB a.s).b.length - y.p) y.p
def gauB (t : Int) : HCell := .live (.box [.int t, .int 0, .int 0])
def CFT (a : MkI) (m : Nat) : Shape := { α := KP, dflt := default, T := λ y => ⟨mdSG a y.k (.d VG) ++ [(13, .bptr 204 0), (14, .int y.p)], mdHG a y.x.s ++ [(204, gauB y.t)]⟩, inv := λ y => xZ a m y /\ y.x.l = [], meas := λ y => (mB a.s).b.length - y.p, first := [(204, 19080)] }
def CGU (a : MkI) (m : Nat) : Shape := { α := KP, dflt := default, T := λ y => ⟨mdSG a y.k (.own 303 3 0 y.x.l.length) ++ [(13, .bptr 204 0), (14, .int y.p)], mdHG a y.x.s ++ [(204, gauB y.t), (303, .live (rowG y.x.l))]⟩, inv := λ y => xZ a m y /\ 0 < y.x.l.length, meas := λ y => (mB a.s).b.length - y.p, first := [(204, 19080)] }
def sT (a : MkI) (m : Nat) (y : KG) : Prop := y.k = m /\ 1 <= y.k /\ xO a (y.k - 1) y.x
def CFH (a : MkI) (m : Nat) : Shape := { α := KG, dflt := default, T := λ y => ⟨mdSG a y.k (.d VG), mdHG a y.x.s⟩, inv := λ y => sT a m y /\ y.x.l = [], meas := λ _ => 0 }
def BYY (a : MkI) (m : Nat) (f : List (Nat × Nat)) : Shape := { α := KG, dflt := default, T := λ y => ⟨mdSG a y.k (.own 303 3 0 y.x.l.length), mdHG a y.x.s ++ [(303, .live (rowG y.x.l))]⟩, inv := λ y => sT a m y /\ 0 < y.x.l.length, meas := λ _ => 0, first := f }
def dMkI : List AVal -> Heap -> Option (MkI × List (Nat × Nat) × List Nat)
 | [.bptr p _, .d (.v (.int _ n))], H => match BDY H p with
  | some s => some (⟨s, n⟩, [(100, p)], [])
  | none => none
 | _, _ => none
def CED : Ctr := { α := MkI, xs := λ a => [.bptr 100 0, .int a.m], L := λ a => [(100, stmO a.s)], val := λ a => .tup [.d (DX (iL a)), .d (eRtg (mdR a))], keep := λ a => [(100, stmH (mG a).s)], pre := λ a => [preM a /\ True] }
theorem BWE (s : Stm) : Stm.mk s.bs s.used s.mix = s := rfl
theorem VO {K : Int} {s : Stm} (h : StmB K s) (hK : K <= 1000000000000000) (lo hi : Int) : StmB (K + 1) (bK s lo hi) := h.next hK _
theorem BFW {a : MkI} {y : KB} (h : pU a y) (hk : 0 < y.k) : pU a ⟨y.k - 1, stpB y.x⟩ := by
 obtain ⟨h1, h2, h3, h4, h5, h6⟩ := h
 have hw := bT h2 (by omega) (lo := 5) (hi := 60) (by omega) (by omega) (by omega)
 have ha : wr (y.x.a + HR y.x.s 5 60) = y.x.a + HR y.x.s 5 60 := LS (by omega) (by omega)
 refine ⟨by show y.k - 1 <= 2; omega, ?_, ?_, ?_, ?_, ?_⟩
 ·have := VO h2 (by omega) 5 60
  exact this.mono (by show _ <= 3 - ((y.k - 1 : Nat) : Int); omega)
 ·obtain ⟨k, hk2⟩ : ∃ k, y.k = k + 1 := ⟨y.k - 1, by omega⟩
  rw [hk2] at h3 ⊢; exact h3
 ·show (((y.x.b ++ [_]).length : Nat) : Int) + ((y.k - 1 : Nat) : Int) <= 2
  rw [List.length_append, List.length_singleton]; omega
 ·show 0 <= wr _; rw [ha]; omega
 ·show wr _ <= 60 * (2 - ((y.k - 1 : Nat) : Int)); rw [ha]; omega
theorem BOL {a : MkI} {y : KB} (h : pU a y) (hk : ¬0 < y.k) : y.x = mB a.s /\ pU a ⟨0, mB a.s⟩ := by
 obtain ⟨k, x⟩ := y
 have hk : k = 0 := by have : ¬0 < k := hk; omega
 subst hk
 have e : x = mB a.s := h.2.2.1
 exact ⟨e, e ▸ h⟩
theorem BWK {K : Int} {s : Stm} (h : StmB K s) (hK : K <= 100000) : okMk (mkLn s) /\ StmB (K + 4) (lnS4 s) := by
 have h1 := h.next (by omega) 40
 have h2 := h1.next (by omega) 60
 have h3 := VO h2 (by omega) 1 60
 have h4 := h3.next (by omega) 200
 have v1 := NF h (by omega) 40
 have v2 := NF h1 (by omega) 60
 have v3 := bT h2 (by omega) (lo := 1) (hi := 60) (by omega) (by omega) (by omega)
 have v4 := NF h3 (by omega) 200
 have a1 := v1.2 (by omega)
 have a2 := v2.2 (by omega)
 have a4 := v4.2 (by omega)
 have e1 : wr (AV s 40 + HR (lnS2 s) 1 60) = AV s 40 + HR (lnS2 s) 1 60 := by unfold lnS2 lnS1; exact LS (by omega) (by omega)
 have e2 : wr (AV (lnS1 s) 60 + AV (lnS3 s) 200) = AV (lnS1 s) 60 + AV (lnS3 s) 200 := by unfold lnS3 lnS2 lnS1; exact LS (by omega) (by omega)
 refine ⟨?_, h4.mono (by omega)⟩
 unfold okMk mkLn
 simp only [e1, e2]
 unfold lnS3 lnS2 lnS1
 omega
theorem BEM {a : MkI} {y : KL} (h : inv9 a y) (hk : y.k <= (mB a.s).b.length) : inv9 a ⟨y.k + 1, stpL y.x⟩ := by
 obtain ⟨h0, h1, h2, h3, h4, h5⟩ := h
 have hb : ((mB a.s).b.length : Int) <= 2 := by have : (((mB a.s).b.length : Nat) : Int) + ((0 : Nat) : Int) <= 2 := h0.2.2.2.1; omega
 obtain ⟨o1, o2⟩ := BWK h2 (by omega)
 refine ⟨h0, by show y.k + 1 <= _; omega, o2.mono (by show _ <= 3 + 4 * ((y.k + 1 : Nat) : Int); omega), ?_, ?_, ?_⟩
 ·obtain ⟨n, hn⟩ : ∃ n, (mB a.s).b.length + 1 - y.k = n + 1 := ⟨(mB a.s).b.length - y.k, by omega⟩
  rw [hn] at h3
  show mkL ((mB a.s).b.length + 1 - (y.k + 1)) (stpL y.x) = _
  rw [show (mB a.s).b.length + 1 - (y.k + 1) = n by omega]; exact h3
 ·show (y.x.l ++ [_]).length = y.k + 1; rw [List.length_append, h4]; rfl
 ·intro z hz
  rcases List.mem_append.1 hz with hz | hz
  ·exact h5 z hz
  ·rw [List.mem_singleton.1 hz]; exact o1
theorem CAV {a : MkI} {y : KL} (h : inv9 a y) (hk : ¬y.k <= (mB a.s).b.length) : y.x = mL a.s /\ fin9 a := by
 obtain ⟨k, x⟩ := y
 have hk1 : k <= (mB a.s).b.length + 1 := h.2.1
 have hk : k = (mB a.s).b.length + 1 := by have : ¬k <= (mB a.s).b.length := hk; omega
 subst hk
 have e : x = mL a.s := by
  have := h.2.2.2.1
  rw [show (mB a.s).b.length + 1 - ((mB a.s).b.length + 1) = 0 by omega] at this; exact this
 exact ⟨e, show inv9 a ⟨_, mL a.s⟩ from e ▸ h⟩
theorem AXI {b : List Int} {t : Int} : ∀ (n k : Nat), k <= ptK b t n k /\ ptK b t n k <= k + n
 | 0, k => ⟨Nat.le_refl _, Nat.le_refl _⟩
 | n + 1, k => by
  unfold ptK
  cases decide (gD b k <= t)
  ·exact ⟨Nat.le_refl _, by show k <= _; omega⟩
  ·have := AXI (b := b) (t := t) n (k + 1); show k <= ptK b t n (k + 1) /\ ptK b t n (k + 1) <= _; omega
theorem BQQ {b : List Int} {t : Int} {p : Nat} (h : (bif decide (p < b.length) then decide (gD b p <= t) else false) = true) : p < b.length /\ ptK b t (b.length - p) p = ptK b t (b.length - (p + 1)) (p + 1) := by
 cases hd : decide (p < b.length) with
 | false => rw [hd] at h; cases h
 | true =>
  rw [hd] at h
  have hp := of_decide_eq_true hd
  refine ⟨hp, ?_⟩
  obtain ⟨n, hn⟩ : ∃ n, b.length - p = n + 1 := ⟨b.length - p - 1, by omega⟩
  rw [hn, show b.length - (p + 1) = n by omega]
  conv => lhs; unfold ptK
  rw [show decide (gD b p <= t) = true from h]; rfl
theorem BVQ {b : List Int} {t : Int} {p : Nat} (h : (bif decide (p < b.length) then decide (gD b p <= t) else false) = false) (hp : p <= b.length) : ptK b t (b.length - p) p = p := by
 cases hd : decide (p < b.length) with
 | false => rw [show b.length - p = 0 by have := of_decide_eq_false hd; omega]; rfl
 | true =>
  rw [hd] at h
  have hp := of_decide_eq_true hd
  obtain ⟨n, hn⟩ : ∃ n, b.length - p = n + 1 := ⟨b.length - p - 1, by omega⟩
  rw [hn]; unfold ptK; rw [show decide (gD b p <= t) = false from h]; rfl
theorem AUI {a : MkI} (h : fin9 a) : ((mB a.s).b.length : Int) <= 2 /\ (0 <= (mB a.s).a /\ (mB a.s).a <= 120) /\ (mL a.s).l.length = (mB a.s).b.length + 1 /\ (∀ z ∈ (mL a.s).l, okMk z) /\ StmB 15 (mL a.s).s := by
 obtain ⟨h0, h1, h2, h3, h4, h5⟩ := h
 have hb : (((mB a.s).b.length : Nat) : Int) + ((0 : Nat) : Int) <= 2 := h0.2.2.2.1
 have h6 : 0 <= (mB a.s).a := h0.2.2.2.2.1
 have h7 : (mB a.s).a <= 60 * (2 - ((0 : Nat) : Int)) := h0.2.2.2.2.2
 exact ⟨by omega, ⟨h6, by omega⟩, h4, h5, h2.mono (by show 3 + 4 * (((mB a.s).b.length + 1 : Nat) : Int) <= 15; omega)⟩
theorem BFG {a : MkI} (h : fin9 a) : hiG a = (mB a.s).a + 80 := by
 obtain ⟨_, h2, _⟩ := AUI h
 exact LS (by omega) (by omega)
theorem G_in {a : MkI} {k : Nat} {x : MG} (h : xO a k x) (hm : a.m <= 100) (hk : 0 < k) : xZ a k ⟨k, ⟨BG x.s (hiG a), x.l⟩, AV x.s (hiG a), 0⟩ := by
 obtain ⟨h0, h1, h2, h3, h4⟩ := h
 have hv := NF h2 (by omega) (hiG a)
 obtain ⟨_, h6, _⟩ := AUI h0
 rw [BFG h0] at hv
 have := hv.2 (by omega)
 refine ⟨h0, rfl, hk, h1, (h2.next (by omega) _).mono (by show _ <= 17 + 3 * (a.m - (k : Int)); omega), ?_, h4, ?_, Nat.zero_le _, rfl⟩
 ·obtain ⟨n, hn⟩ : ∃ n, k = n + 1 := ⟨k - 1, by omega⟩
  subst hn; exact h3
 ·rw [BFG h0]; exact ⟨hv.1, by show AV x.s ((mB a.s).a + 80) <= 199; omega⟩
theorem ANX {x : Ln} {t : Int} (h : okMk x) (ht : 0 <= t /\ t <= 199) : xD x = x.b0 - x.a0 /\ pR x t = x.a1 * (x.b0 - x.a0) + (x.b1 - x.a1) * (t - x.a0) /\ wr (1000 * xD x) = 1000 * xD x /\ -100000 <= pR x t /\ pR x t <= 100000 := by
 obtain ⟨h1, h2, h3, h4⟩ := h
 have m1 : 0 <= x.a1 * (x.b0 - x.a0) := Int.mul_nonneg (by omega) (by omega)
 have m2 : x.a1 * (x.b0 - x.a0) <= 59 * 60 := Int.mul_le_mul (by omega) (by omega) (by omega) (by omega)
 have m3 : (x.b1 - x.a1) * (t - x.a0) <= 199 * 199 := Int.le_trans (Int.mul_le_mul_of_nonneg_left (show t - x.a0 <= 199 by omega) (by omega)) (Int.mul_le_mul_of_nonneg_right (by omega) (by omega))
 have m4 : -(199 * 39) <= (x.b1 - x.a1) * (t - x.a0) := by
  have e1 := Int.mul_le_mul_of_nonneg_left (show -39 <= t - x.a0 by omega) (show 0 <= x.b1 - x.a1 by omega)
  have e2 := Int.mul_le_mul_of_nonneg_right (show x.b1 - x.a1 <= 199 by omega) (show (0 : Int) <= 39 by omega)
  rw [Int.mul_neg] at e1
  omega
 have w1 : wr (x.b0 - x.a0) = x.b0 - x.a0 := LS (by omega) (by omega)
 have w2 : wr (x.a1 * (x.b0 - x.a0)) = x.a1 * (x.b0 - x.a0) := LS (by omega) (by omega)
 have w3 : wr (x.b1 - x.a1) = x.b1 - x.a1 := LS (by omega) (by omega)
 have w4 : wr (t - x.a0) = t - x.a0 := LS (by omega) (by omega)
 have w5 : wr ((x.b1 - x.a1) * (t - x.a0)) = (x.b1 - x.a1) * (t - x.a0) := LS (by omega) (by omega)
 have w6 : wr (x.a1 * (x.b0 - x.a0) + (x.b1 - x.a1) * (t - x.a0)) = x.a1 * (x.b0 - x.a0) + (x.b1 - x.a1) * (t - x.a0) := LS (by omega) (by omega)
 have e1 : xD x = x.b0 - x.a0 := w1
 have e2 : pR x t = x.a1 * (x.b0 - x.a0) + (x.b1 - x.a1) * (t - x.a0) := by unfold pR; rw [w1, w2, w3, w4, w5, w6]
 refine ⟨e1, e2, ?_, by omega, by omega⟩
 rw [e1]; exact LS (by omega) (by omega)
theorem CAG {a : MkI} {m : Nat} {y : KP} (h : xZ a m y) (hm : a.m <= 100) : sT a m ⟨y.k, Mu (jS a y.t) y.x.s y.t y.x.l⟩ := by
 obtain ⟨h0, h1, h2, h3, h4, h5, h6, h7, h8, h9⟩ := h
 have hs := h4.next (by omega) 6
 have hs2 := VO hs (by omega) 1 6
 refine ⟨h1, h2, h0, by show ((y.k - 1 : Nat) : Int) <= _; omega, ?_, h5, ?_⟩
 ·show StmB (16 + 3 * (a.m - ((y.k - 1 : Nat) : Int))) (Mu _ _ _ _).s
  unfold Mu
  cases (bif decide (pR (jS a y.t) y.t < 0) then true else decide (pR (jS a y.t) y.t > wr (1000 * xD (jS a y.t))))
  ·exact hs2.mono (by omega)
  ·exact h4.mono (by omega)
 ·show (((Mu _ _ _ _).l.length : Nat) : Int) + ((y.k - 1 : Nat) : Int) <= a.m
  unfold Mu
  cases (bif decide (pR (jS a y.t) y.t < 0) then true else decide (pR (jS a y.t) y.t > wr (1000 * xD (jS a y.t))))
  ·show (((y.x.l ++ [_]).length : Nat) : Int) + _ <= _
   rw [List.length_append, List.length_singleton]; omega
  ·show ((y.x.l.length : Nat) : Int) + _ <= _; omega
theorem G_up {a : MkI} {m : Nat} {y : KP} (h : xZ a m y) (hp : (bif decide (y.p < (mB a.s).b.length) then decide (gD (mB a.s).b y.p <= y.t) else false) = true) : xZ a m ⟨y.k, y.x, y.t, y.p + 1⟩ := by
 obtain ⟨h0, h1, h2, h3, h4, h5, h6, h7, h8, h9⟩ := h
 obtain ⟨p1, p2⟩ := BQQ hp
 exact ⟨h0, h1, h2, h3, h4, h5, h6, h7, p1, h9.trans p2⟩
theorem G_at {a : MkI} {m : Nat} {y : KP} (h : xZ a m y) (hp : (bif decide (y.p < (mB a.s).b.length) then decide (gD (mB a.s).b y.p <= y.t) else false) = false) : jS a y.t = gD (mL a.s).l y.p /\ y.p < (mL a.s).l.length := by
 obtain ⟨h0, h1, h2, h3, h4, h5, h6, h7, h8, h9⟩ := h
 obtain ⟨_, _, g3, _⟩ := AUI h0
 exact ⟨by unfold jS; rw [h9.trans (BVQ hp h8)], by omega⟩
theorem BTO {a : MkI} {m : Nat} {y : KP} (h : xZ a m y) : okMk (jS a y.t) := by
 obtain ⟨h0, h1, h2, h3, h4, h5, h6, h7, h8, h9⟩ := h
 obtain ⟨_, _, g3, g4, _⟩ := AUI h0
 have := AXI (b := (mB a.s).b) (t := y.t) (mB a.s).b.length 0
 unfold jS
 exact g4 _ (DU (by rw [g3]; unfold ptM; omega))
end Go.Bal
