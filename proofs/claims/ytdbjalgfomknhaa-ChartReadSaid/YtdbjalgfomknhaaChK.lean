/- Package chart: the fewest stops. -/
import Derived.Test.YtdbjalgfomknhaaChJ
import Derived.Test.YtdbjalgfomknhaaChPd
import Derived.Test.YtdbjalgfomknhaaChT2
set_option linter.unusedVariables false
set_option linter.unusedSimpArgs false
namespace Go.Bal
open Go Go.Sym Go.Proofs
def idL (n : Nat) : List Int := OF n λ i => (i : Int)
def GK (c : Cht) : List Int := oP (HW c) (idL c.ns.length)
structure FwS where
 la : Int
 q : List Int
 r : List Pr
 deriving Inhabited
def miA (c : Cht) (a : Int) : Int := (gD c.ns a.toNat).mi
def fwP (c : Cht) (la b a : Int) : Bool := bif decide (miA c a > la) then Lf c ⟨a, b⟩ else false
def fwN (c : Cht) (s : FwS) (b : Int) : Option Int -> FwS
 | none => s
 | some a => ⟨wr (miA c b - 1), s.q ++ [wr (miA c b - 1)], s.r ++ [⟨a, b⟩]⟩
def ZC (c : Cht) : Nat -> FwS
 | 0 => ⟨-1, [], []⟩
 | k + 1 => fwN c (ZC c k) (gD (GK c) k) (((GK c).take k).find? (fwP c (ZC c k).la (gD (GK c) k)))
def fwE (c : Cht) : FwS := ZC c c.ns.length
def fwW (c : Cht) : Dk := stD ⟨AY c, (fwE c).q⟩
structure FwR where
 q : List Int
 r : List Pr
 e : Int
def nilI : List Int := []
def nilP : List Pr := []
def fwO (c : Cht) : FwR := bif (HV (fwW c)).2 then ⟨(fwE c).q, (fwE c).r, 0⟩ else ⟨nilI, nilP, 6⟩
def Hh (c : Cht) : FwR := bif BS c == 0 then fwO c else ⟨nilI, nilP, BS c⟩
def C_few : Ctr := { α := Cht, xs := λ c => [.d (aK c)], val := λ c => .tup [.d (IN (Hh c).q), .d (Zo (Hh c).r), .int (Hh c).e], keep := λ _ => [], pre := λ c => [(c.ms.length < 4611686018427387904 /\ c.ns.length < 4611686018427387904) /\ (BS c = 0 -> c.ns.length <= 14)] }
def fwH (c : Cht) : List (Nat × HCell) := [(201, .live (chB c)), (203, .live (dkB (AY c) 204)), (204, .live (dkM (AY c)))]
def fw6S (c : Cht) (k : Nat) : List (Nat × AVal) := [(1, .bptr 201 0), (5, .bptr 203 0), (29, .int c.ns.length), (30, .int k)]
def fwR : List (Nat × Nat) := [(201, 1000), (203, 2016), (204, 2017)]
def fw6n (c : Cht) : Shape := { α := One, dflt := default, T := λ _ => ⟨(7, .d WH) :: fw6S c 0, fwH c⟩, inv := λ _ => True, meas := λ _ => 60, first := fwR }
def fw6o (c : Cht) : Shape := { α := Nat, dflt := 0, T := λ k => ⟨(7, .own 202 1 0 k) :: fw6S c k, fwH c ++ [(202, .live (.row 1 k λ i => RI i))]⟩, inv := λ k => 1 <= k /\ k <= c.ns.length, meas := λ k => 50 - k, again := [(202, 9048)] }
def fwB (c : Cht) : List (Nat × AVal) := [(1, .bptr 201 0), (5, .bptr 203 0), (7, .d (IN (GK c)))]
def fw11 (c : Cht) (z : List Nat) : Shape := { α := One, dflt := default, T := λ _ => ⟨fwB c, fwH c⟩, inv := λ _ => True, meas := λ _ => 0, ffz := z }
def fwT (c : Cht) (k : Nat) : List (Nat × AVal) := fwB c ++ [(11, .int (ZC c k).la), (41, .d (IN (GK c))), (42, .int c.ns.length), (43, .int k)]
def fwY (c : Cht) (k : Nat) : List (Nat × HCell) := fwH c ++ [(301, .live (.row 1 (ZC c k).q.length λ i => RI (gD (ZC c k).q i))), (302, .live (.row 2 (ZC c k).r.length λ i => ePr (gD (ZC c k).r i)))]
def AYL : List (Nat × AVal) := [(9, .d WH), (10, .d WH)]
def BID (c : Cht) (k : Nat) : List (Nat × AVal) := [(9, .own 301 1 0 (ZC c k).q.length), (10, .own 302 2 0 (ZC c k).r.length)]
def BUS (c : Cht) : Shape := { α := Nat, dflt := 0, T := λ k => ⟨AYL ++ fwT c k, fwH c⟩, inv := λ k => k <= c.ns.length /\ (ZC c k).q = [], meas := λ k => c.ns.length - k, tag := [0] }
def BTY (c : Cht) : Shape := { α := Nat, dflt := 0, T := λ k => ⟨BID c k ++ fwT c k, fwY c k⟩, inv := λ k => k <= c.ns.length /\ 1 <= (ZC c k).q.length, meas := λ k => c.ns.length - k, tag := [1] }
def fwJ (c : Cht) (k j : Nat) : List (Nat × AVal) := [(13, .int (gD (GK c) k)), (50, .d (IN ((GK c).take k))), (51, .int k), (52, .int j)]
def BWI (c : Cht) (m : Nat) : Shape := { α := IJ, dflt := default, T := λ s => ⟨fwJ c s.i s.j ++ (AYL ++ fwT c s.i), fwH c⟩, inv := λ s => (s.i < c.ns.length /\ c.ns.length - s.i = m /\ s.j <= s.i /\ ∀ t, t < s.j -> fwP c (ZC c s.i).la (gD (GK c) s.i) (gD (GK c) t) = false) /\ (ZC c s.i).q = [], meas := λ s => c.ns.length - s.j }
def BVA (c : Cht) (m : Nat) : Shape := { α := IJ, dflt := default, T := λ s => ⟨fwJ c s.i s.j ++ (BID c s.i ++ fwT c s.i), fwY c s.i⟩, inv := λ s => (s.i < c.ns.length /\ c.ns.length - s.i = m /\ s.j <= s.i /\ ∀ t, t < s.j -> fwP c (ZC c s.i).la (gD (GK c) s.i) (gD (GK c) t) = false) /\ 1 <= (ZC c s.i).q.length, meas := λ s => c.ns.length - s.j }
def fwT2 (c : Cht) (k : Nat) : List (Nat × AVal) := fwB c ++ [(11, .int (ZC c (k + 1)).la), (41, .d (IN (GK c))), (42, .int c.ns.length), (43, .int k)]
def BVC (c : Cht) (m : Nat) : Shape := { α := Nat, dflt := 0, T := λ k => ⟨AYL ++ fwT2 c k, fwH c⟩, inv := λ k => k < c.ns.length /\ c.ns.length - k = m /\ (ZC c (k + 1)).q = [], meas := λ _ => 0 }
def BBV (c : Cht) (m : Nat) (f : List (Nat × Nat)) : Shape := { α := Nat, dflt := 0, T := λ k => ⟨BID c (k + 1) ++ fwT2 c k, fwY c (k + 1)⟩, inv := λ k => k < c.ns.length /\ c.ns.length - k = m /\ 1 <= (ZC c (k + 1)).q.length, meas := λ _ => 0, first := f }
def fw26 (c : Cht) (z : List Nat) : Shape := { α := One, dflt := default, T := λ _ => ⟨[(5, .bptr 203 0), (9, .d (IN (fwE c).q)), (10, .d (Zo (fwE c).r))], [(203, .live (dkB (AY c) 204)), (204, .live (dkM (AY c)))]⟩, inv := λ _ => True, meas := λ _ => 0, ffz := z }
def fw10 (c : Cht) : Shape := { α := One, dflt := default, T := λ _ => ⟨[(1, .bptr 201 0), (5, .bptr 203 0), (7, .own 202 1 0 c.ns.length)], fwH c ++ [(202, .live (.row 1 c.ns.length λ i => RI i))]⟩, inv := λ _ => 1 <= c.ns.length, meas := λ _ => 0 }
def BPS (c : Cht) : Ann := { ann 101 [(VS, C_open.spec dC1), (I1, C_srt.spec dGLt), (AOH, C_late.spec dDkP), (AHL, C_stop.spec dDkZ), (J1, C_times.spec D6)] with mt := λ id => id == 8 || id == 23, loops := λ id => if id = 6 then some [fw6n c, fw6o c] else if id = 15 then some [BUS c, BTY c] else none, inner := λ gs id => if id = 18 then (if gs.getD 1 0 = 0 then some [BWI c (gs.getD 0 0)] else some [BVA c (gs.getD 0 0)]) else none, cut := λ id => if id = 10 then some [fw10 c] else if id = 11 then some [fw11 c [202]] else if id = 26 then some [fw26 c [], fw26 c [301, 302]] else none, cutIn := λ gs id => if id = 25 then (if gs.getD 1 0 = 0 then some [BVC c (gs.getD 0 0), BBV c (gs.getD 0 0) [(301, 24048), (302, 24112)]] else some [BBV c (gs.getD 0 0) [(301, 24048), (302, 24112)], BBV c (gs.getD 0 0) []]) else none }
def BOH (c : Cht) : Prop := CR Try.prog (BPS c) Th (AL Th) [.d (aK c)] (AE []) (.tup [.d (IN (fwO c).q), .d (Zo (fwO c).r), .int (fwO c).e]) [] [] []
abbrev aH:=GK
abbrev APD:=@List.cons DVal
abbrev gQ:=FwR.q
abbrev xH:=FwR.r
abbrev gW:=FwR.e
abbrev Yc a:=FwS.r (fwE a)
abbrev kL a:=xH (fwO a)
abbrev Pk a:=FwS.q (fwE a)
abbrev NB a:=APY (ARD a a a) (Pk a)
abbrev Fp a:=BB (AX a)
abbrev Ee a:=BA (AX a)
abbrev Ad a:=AV (AX a)
abbrev Am a:=AT (AX a)
abbrev APJ a b:=FwS.r (ZC a b)
abbrev ZU a b c:=VR (APJ a b) c
abbrev ZY a b c:=VU (APJ a b) c
abbrev Va a b:=SM (APJ a b)
abbrev YD a b:=FwS.q (ZC a b)
abbrev Hx a:=JX (FV a)
abbrev Da a:=JQ (aH a)
abbrev Fg (a:Nat->Prop) b c d e:=aS (AF a) (AS b c) (Da d) e
abbrev Ce a b:=Va a (FB b)
abbrev OG a b:=YD a (FB b)
abbrev Oh a:=Se (AX a)
abbrev Oz a:=XD (AX a)
abbrev Kf:=AF LR
abbrev Oa a:=JZ (AX a)
abbrev Ni a:=DB (AX a)
abbrev Pb a:=QI (AX a)
abbrev Nj a:=EU (AX a)
abbrev wO a b:=FwS.la (ZC a b)
abbrev dU a b:=wO a (FB b)
abbrev Qz a b:=ET (aH a) b
abbrev Fz a b c d:=Vy a (aH b) (Qz c d)
abbrev Ct a b:=DC a (BL b)
abbrev TP a b:=Va a (FS b)
abbrev LO a b:=YD a (FS b)
abbrev TT a b:=wO a (FS b)
abbrev NW a b:=Qz a (FS b)
abbrev Li a b:=pF (FS a) (aH b)
abbrev Ko a b:=ET (Li a b) (JW a)
abbrev qE a:=APD a (@List.nil DVal)
abbrev qB a b:=APD a (qE b)
abbrev Nl a b c d:=dPr (DVal.agg (qB (RI (Ko a b)) (DVal.v (Nq (NW c d)))))
abbrev lK a:=FN (AX a)
abbrev gV a b c d:=AK a b b c d
abbrev Za a:=Ul a (@List.nil Int)
abbrev Rk a b c d e f:=QK a b c d e (EU d) f
abbrev On a:=XS (BL a) CG
attribute [go_sem] aH APD gQ xH gW Yc kL Pk NB Fp Ee Ad Am APJ ZU ZY Va YD Hx Da Fg Ce OG Oh Oz Kf Oa Ni Pb Nj wO dU Qz Fz Ct TP LO TT NW Li Ko qE qB Nl lK gV Za Rk On
theorem BRL (c : Cht) : (BOH c) = (AH (QL c c (λ i=>BC i c (BG c i) (BD c i) (AP c i) (AZ c i) (AO c i) (BE c i) (AM c i)) (XV c c) (EV (LQ c))) (WJ (KY (Cj OI (Rk (OB c) CU (AT c) c (AV c) (AN (QI c) (DB c) (JZ c) (RZ (AX c) (HL c)) (SH (AX c) (HL c)) (SC (AX c) (HL c)) (RG (AX c) (HL c)) (RR (AX c) (HL c)) (LI (RL (AX c) (HL c)) (λ i=>RQ i (AX c) (RF (AX c) i (HL c) i) i (HL c) i) (SB (AX c) (HL c)) (λ i=>EP i (AX c) (SK (SF (AX c) i (HL c) i) (AX c) i (AP (HL c) i) i (AO (HL c) i) (AM (HL c) i))) LR BI (DF (λ i=>UX (AX c) i (HL c) i)) (λ i=>VD (VW c) i (VW (DG c)) i) (λ i=>VF (KB (AX c) i) (HL c) i (KU (AX c) i) (AX c) i)))))) (gT (λ i=>IR II 0 (An c) (Cs (YS II 0 (WN 0)) (YS VC 1 Ah) Xq Xx 8) (IF (λ j=>JE (AK AU (WN j) (OB c) (CJ j 0) (Jd c (EU c) (λ k=>FP k c) (DB c) (AN (JZ c) (Am c) (AW (AX c)) (Ad c) (Ee c) (Fp c) (Nj c) (Pb c) (RE (Ni c) (Oa c) LR (Oz c) (PT c) (Oh c) (WN j) (AF (λ k=>BQ k j (JS k 0))))))) (JX j) (Bq j c) (OY 50 j 60))) OW)) (λ i=>MH (JX i) (Bq i c) i (An c) (Cs (YS (BU i) i Ah) (YS VC 1 Ah) Zb (En i 9223372036854775807) (hC (FB i) 8)) (IF (λ j=>FW (AK AU (Ou j i) (OB c) (CJ j i) (Jd c (EU c) (λ k=>FP k c) (DB c) (AN (JZ c) (Am c) (AW (AX c)) (Ad c) (Ee c) (Fp c) (Nj c) (Pb c) (RE (Ni c) (Oa c) LR (Oz c) (PT c) (Oh c) (Ou j i) (AF (λ k=>BQ k j (HZ k (Fu k i (CG k) (CG i))))))))) (JX j) (Bq j c) 50 j i)) (Rv (Cj (MB c i) (Jd c (EU c) (λ j=>FP j c) (DB c) (AN (JZ c) (Am c) (AW (AX c)) (Ad c) (Ee c) (Fp c) (Nj c) (Pb c) (RE (Ni c) (Oa c) LR (Oz c) (PT c) (Oh c) (MB c i) (AF (λ j=>EP j c (GX j))))))) (MN 1 (BL c))))) (Wt (MN 1 (BL c)) (Ab (And (gV AU (FL (On c) (BL c)) (AF (λ i=>NQ i (On c) (CG i))) (AK (AT c) (AW c) (AV c) (BA c) (CM (BB c) (BF c) (BM c) (CA c) (λ i=>BC i c (BG c i) (BD c i) (AP c i) (AZ c i) (AO c i) (BE c i) (AM c i)) (AT c) (AW c) (AV c) (QQ (BA c) (BB c) (DQ c) (FI c) (DK c) c (Or (CW (FV (On c)) 12) (And (Or (FL (On c) 13) (FL (On c) 14)) (ndk (Pf c) (On c)))) (Of (On c)) (AF (λ i=>PU i (On c) i c)))))) (KY (And (FL (aH c) (BL c)) (Rk (WI (DN (BL c)) (On c)) (AF (λ i=>OC i (aH c) (Qz c i) (ET (oP (Pf c) (On c)) (DN i)))) (AT c) c (AV c) (DP (QI c) (DB c) (JZ c) (AX c) LR (VW c)))))) (wS (WJ (IF (λ i=>NK AU (Ho OI AU (Da c) (Fg (λ j=>Fz j c c j) (wO c i) (-1) c (Rk (JS (BL c) (FV (aH c))) (CY i) (AT c) c (AV c) (DP (QI c) (DB c) (JZ c) (AX c) LR (VW c))))) (Bq i c) (Za (YD c i)))) (AF (λ i=>SE (Bq i c) (Za (YD c i)) (FG (IM i (An c)) (WJ (BH (KG i (aH c)) (QR Oc (CG i) (HU (CG i) (MJ (aH c)))) (wG (λ j=>AH (GH (AS (NW c j) (Qz c i)) (FL (Li j c) (Ss i)) (AF (λ k=>NQ k (Li j c) (Qz c (Jk k)))) (Yo j (Ss i)) (CY (JW j)) AU (Ho OI AU (Da c) (Fg (λ k=>Fz k c c k) (TT c j) (wO c i) c (Rk (OB c) (Yo j i) (AT c) c (AV c) (DP (QI c) (DB c) (JZ c) (AX c) LR (VW c)))))) (BH (Ct (FS j) c) (Hy (BL c) j i) (Kj j (FS j)) (AF (λ k=>Jw k j (EX (fwP c (TT c j) (NW c j) (Qz c k)))))) (Za (LO c j)))) (AIY (λ j=>SE (BH (Ct (FS j) c) (Hy (BL c) j i) (Kj j (FS j)) (AF (λ k=>Jw k j (EX (fwP c (TT c j) (NW c j) (Qz c k)))))) (Za (LO c j)) (MV (IM (JW j) (Ig j)) (JE (KG (JW j) (Li j c)) (Jz (Ko j c) c) (HQ (JV (RT c (Ko j c)) (TT c j)) (QK (AS (Pr.a (Nl j c c j)) (Ko j c)) (AS (Pr.b (Nl j c c j)) (NW c j)) (Am c) (AX c) (Ad c) (BF (AX c)) (NY (AX c) (λ k=>BC k (AX c) (BG (AX c) k) (BD (AX c) k) (AP (AX c) k) (AZ (AX c) k) (AO (AX c) k) (BE (AX c) k) (AM (AX c) k)) Kf BI (EN (AX c)) (PT c) (EM (AX c)) (RV (AX c) (AN (EJ (AX c)) Kf BI (EY (AX c)) (PT c) (GC (AX c)) (MR (Cu (Pr.a (Nl j c c j)) (AX c)) (Pr.b (Nl j c c j)) (lK c)) (And (MD (AX c)) (CW (lK c) 20)) (AF (λ k=>Gq k (lK c) (MW (AX c) k) (ED (AX c))))))))) (FG (GB (JV (RT c (Ko j c)) (TT c j)) (Lf (wZ c) (Nl j c c j))) (JE (Jz (NW c j) c) (Cs (YS II 0 (WN 0)) (YS VC 1 Ah) Xq Xx 8) (Cs (YS II 0 (CL 0 2)) No Xq Xx 16) (IF (λ k=>BH (DA AU (FL (OG c k) 1) AU (WN (Ce c k)) (Da c) (Fg (λ l=>Fz l c c l) (dU c k) (JJ (RT c (NW c j))) c (AK (OB c) (JS k (FS j)) (AT c) (AW c) (FR c (EU c) (λ l=>FP l c) (DB c) (λ l=>DE l c) (Am c) (MZ (AX c) (Ad c) (Ee c) (Fp c) (Nj c) (Pb c) (Ni c) (Oa c) (FX Kf BI (Oz c) (PT c) (Oh c) (FL (OG c k) 1) (λ l=>NQ l (OG c k) (JJ (RT c (NW c j)))) (WN (Ce c k)) (AF (λ l=>EA l (Ce c k) (ZY c (FB k) l) (Ko j c) (ZU c (FB k) l) (NW c j))))))))) (Ct k c) (Bx (BL c) k i) (Hx (OG c k))))) (wG (λ k=>FW (GH (AS (NW c k) (NW c j)) (CQ (Li k c) (Li j c)) (EO (Li k c) (Li j c)) (Sp k j) (CJ (JW k) (JW j)) AU (Ho OI AU (Da c) (Fg (λ l=>Fz l c c l) (TT c k) (TT c j) c (Rk (OB c) (Sp k j) (AT c) c (AV c) (DP (QI c) (DB c) (JZ c) (AX c) LR (VW c)))))) (BH (Ct (FS k) c) (Hy (BL c) k i) (Kj k (FS k)) (AF (λ l=>Jw l k (EX (fwP c (TT c k) (NW c k) (Qz c l)))))) (Za (LO c k)) (BL c) (JW k) (JW j))))) (λ k=>BH (Kx (Ho OI AU (Da c) (Fg (λ l=>Fz l c c l) (dU c k) (TT c j) c (Rk (OB c) (JS k (FS j)) (AT c) c (AV c) (DP (QI c) (DB c) (JZ c) (AX c) LR (VW c)))))) (Ct k c) (Bx (BL c) k i) (Za (OG c k))))))) (AF (λ j=>CV (AH (Ct j c) (Bx (BL c) j i) (Za (OG c j))) (IF (λ k=>FW (Kx (Ho OI AU (Da c) (Fg (λ l=>Fz l c c l) (wO c k) (dU c j) c (Rk (OB c) (CJ k j) (AT c) c (AV c) (DP (QI c) (DB c) (JZ c) (AX c) LR (VW c)))))) (Bq k c) (Za (YD c k)) (BL c) k i)))) (λ j=>CV (AH (Ct j c) (Bx (BL c) j i) (Hx (OG c j))) (IF (λ k=>FW (DA AU (CQ (YD c k) (OG c j)) AU (CL (Va c k) (Ce c j)) (Da c) (Fg (λ l=>Fz l c c l) (wO c k) (dU c j) c (AK (OB c) (CJ k j) (AT c) (AW c) (FR c (EU c) (λ l=>FP l c) (DB c) (λ l=>DE l c) (Am c) (MZ (AX c) (Ad c) (Ee c) (Fp c) (Nj c) (Pb c) (Ni c) (Oa c) (FX Kf BI (Oz c) (PT c) (Oh c) (CQ (YD c k) (OG c j)) (λ l=>JL l (YD c k) (OG c j)) (CL (Va c k) (Ce c j)) (AF (λ l=>EA l (Va c k) (ZY c k l) (ZY c (FB j) l) (ZU c k l) (ZU c (FB j) l))))))))) (Bq k c) (Hx (YD c k)) (BL c) k i)))) (KY (And (FL (Pk c) 0) (gV (FL (Pk c) 0) (CL (SM (Yc c)) 0) (Am c) (AK (AW (AX c)) (Ad c) (Ee c) (Fp c) (JM (AX c) LR (VW c))))))))) (λ i=>SE (Bq i c) (Hx (YD c i)) (FG (IM i (An c)) (wS (BH (KG i (aH c)) (QR Oc (CG i) (HU (CG i) (MJ (aH c)))) (wG (λ j=>AH (AH (AS (NW c j) (Qz c i)) (FL (Li j c) (Ss i)) (AN (AF (λ k=>NQ k (Li j c) (Qz c (Jk k)))) (Yo j (Ss i)) (CY (JW j)) AU (CQ (LO c j) (YD c i)) AU (CL (TP c j) (Va c i)) (Da c) (Fg (λ k=>Fz k c c k) (TT c j) (wO c i) c (AK (OB c) (Yo j i) (AT c) (AW c) (FR c (EU c) (λ k=>FP k c) (DB c) (λ k=>DE k c) (Am c) (MZ (AX c) (Ad c) (Ee c) (Fp c) (Nj c) (Pb c) (Ni c) (Oa c) (FX Kf BI (Oz c) (PT c) (Oh c) (CQ (LO c j) (YD c i)) (λ k=>JL k (LO c j) (YD c i)) (CL (TP c j) (Va c i)) (AF (λ k=>EA k (TP c j) (ZY c (FS j) k) (ZY c i k) (ZU c (FS j) k) (ZU c i k)))))))))) (BH (Ct (FS j) c) (Hy (BL c) j i) (Kj j (FS j)) (AF (λ k=>Jw k j (EX (fwP c (TT c j) (NW c j) (Qz c k)))))) (Hx (LO c j)))) (AIY (λ j=>SE (BH (Ct (FS j) c) (Hy (BL c) j i) (Kj j (FS j)) (AF (λ k=>Jw k j (EX (fwP c (TT c j) (NW c j) (Qz c k)))))) (Hx (LO c j)) (MV (IM (JW j) (Ig j)) (JE (KG (JW j) (Li j c)) (Jz (Ko j c) c) (HQ (JV (RT c (Ko j c)) (TT c j)) (QK (AS (Pr.a (Nl j c c j)) (Ko j c)) (AS (Pr.b (Nl j c c j)) (NW c j)) (Am c) (AX c) (Ad c) (BF (AX c)) (NY (AX c) (λ k=>BC k (AX c) (BG (AX c) k) (BD (AX c) k) (AP (AX c) k) (AZ (AX c) k) (AO (AX c) k) (BE (AX c) k) (AM (AX c) k)) Kf BI (EN (AX c)) (PT c) (EM (AX c)) (RV (AX c) (AN (EJ (AX c)) Kf BI (EY (AX c)) (PT c) (GC (AX c)) (MR (Cu (Pr.a (Nl j c c j)) (AX c)) (Pr.b (Nl j c c j)) (lK c)) (And (MD (AX c)) (CW (lK c) 20)) (AF (λ k=>Gq k (lK c) (MW (AX c) k) (ED (AX c))))))))) (FG (GB (JV (RT c (Ko j c)) (TT c j)) (Lf (wZ c) (Nl j c c j))) (JE (Jz (NW c j) c) (Cs (And (JQ (LO c j)) (LZ 0 (LO c j) Ah)) (YS VC 1 Ah) Zb (En (FV (LO c j)) 9223372036854775807) (hC (FB (FV (LO c j))) 8)) (Cs (Od (BU (TP c j)) (TP c j)) No Zb (En (TP c j) 9223372036854775807) (hC (FB (TP c j)) 16)) (IF (λ k=>BH (DA AU (FL (OG c k) (FB (FV (LO c j)))) AU (Ou (Ce c k) (TP c j)) (Da c) (Fg (λ l=>Fz l c c l) (dU c k) (JJ (RT c (NW c j))) c (AK (OB c) (JS k (FS j)) (AT c) (AW c) (FR c (EU c) (λ l=>FP l c) (DB c) (λ l=>DE l c) (Am c) (MZ (AX c) (Ad c) (Ee c) (Fp c) (Nj c) (Pb c) (Ni c) (Oa c) (FX Kf BI (Oz c) (PT c) (Oh c) (FL (OG c k) (FB (FV (LO c j)))) (λ l=>NQ l (OG c k) (Fu l (FV (LO c j)) (ET (LO c j) l) (JJ (RT c (NW c j))))) (Ou (Ce c k) (TP c j)) (AF (λ l=>EA l (Ce c k) (ZY c (FB k) l) (Fu l (TP c j) (ZY c (FS j) l) (Ko j c)) (ZU c (FB k) l) (Fu l (TP c j) (ZU c (FS j) l) (NW c j)))))))))) (Ct k c) (Bx (BL c) k i) (Hx (OG c k))))) (wG (λ k=>FW (AH (AS (NW c k) (NW c j)) (CQ (Li k c) (Li j c)) (AN (EO (Li k c) (Li j c)) (Sp k j) (CJ (JW k) (JW j)) AU (CQ (LO c k) (LO c j)) AU (CL (TP c k) (TP c j)) (Da c) (Fg (λ l=>Fz l c c l) (TT c k) (TT c j) c (AK (OB c) (Sp k j) (AT c) (AW c) (FR c (EU c) (λ l=>FP l c) (DB c) (λ l=>DE l c) (Am c) (MZ (AX c) (Ad c) (Ee c) (Fp c) (Nj c) (Pb c) (Ni c) (Oa c) (FX Kf BI (Oz c) (PT c) (Oh c) (CQ (LO c k) (LO c j)) (λ l=>JL l (LO c k) (LO c j)) (CL (TP c k) (TP c j)) (AF (λ l=>EA l (TP c k) (ZY c (FS k) l) (ZY c (FS j) l) (ZU c (FS k) l) (ZU c (FS j) l)))))))))) (BH (Ct (FS k) c) (Hy (BL c) k i) (Kj k (FS k)) (AF (λ l=>Jw l k (EX (fwP c (TT c k) (NW c k) (Qz c l)))))) (Hx (LO c k)) (BL c) (JW k) (JW j))))) (λ k=>BH (DA AU (CQ (OG c k) (LO c j)) AU (CL (Ce c k) (TP c j)) (Da c) (Fg (λ l=>Fz l c c l) (dU c k) (TT c j) c (AK (OB c) (JS k (FS j)) (AT c) (AW c) (FR c (EU c) (λ l=>FP l c) (DB c) (λ l=>DE l c) (Am c) (MZ (AX c) (Ad c) (Ee c) (Fp c) (Nj c) (Pb c) (Ni c) (Oa c) (FX Kf BI (Oz c) (PT c) (Oh c) (CQ (OG c k) (LO c j)) (λ l=>JL l (OG c k) (LO c j)) (CL (Ce c k) (TP c j)) (AF (λ l=>EA l (Ce c k) (ZY c (FB k) l) (ZY c (FS j) l) (ZU c (FB k) l) (ZU c (FS j) l))))))))) (Ct k c) (Bx (BL c) k i) (Hx (OG c k))))))) (AF (λ j=>CV (AH (Ct j c) (Bx (BL c) j i) (Hx (OG c j))) (IF (λ k=>FW (DA AU (CQ (YD c k) (OG c j)) AU (CL (Va c k) (Ce c j)) (Da c) (Fg (λ l=>Fz l c c l) (wO c k) (dU c j) c (AK (OB c) (CJ k j) (AT c) (AW c) (FR c (EU c) (λ l=>FP l c) (DB c) (λ l=>DE l c) (Am c) (MZ (AX c) (Ad c) (Ee c) (Fp c) (Nj c) (Pb c) (Ni c) (Oa c) (FX Kf BI (Oz c) (PT c) (Oh c) (CQ (YD c k) (OG c j)) (λ l=>JL l (YD c k) (OG c j)) (CL (Va c k) (Ce c j)) (AF (λ l=>EA l (Va c k) (ZY c k l) (ZY c (FB j) l) (ZU c k l) (ZU c (FB j) l))))))))) (Bq k c) (Hx (YD c k)) (BL c) k i))))) (KY (WO (CQ (Pk c) (YD c i)) (WI (DN (FV (YD c i))) (YD c i)) (λ j=>QD j (Pk c) (YD c i) (DN j)) (DP (CL (SM (Yc c)) (Va c i)) (Fw (Va c i)) (AF (λ j=>EA j (SM (Yc c)) (VU (Yc c) j) (ZY c i (DN j)) (VR (Yc c) j) (ZU c i (DN j)))) (AX c) LR (VW c))))))) (At (NK (NX (Pk c)) (YC (VE (Pk c)) (Am c) (GG (AX c)) (Ad c) (FX (Ee c) (Fp c) (BF (AX c)) (BM (AX c)) (CA (AX c)) (AF (λ i=>BC i (AX c) (BG (AX c) i) (BD (AX c) i) (AP (AX c) i) (AZ (AX c) i) (AO (AX c) i) (BE (AX c) i) (AM (AX c) i))) LR BI (AN (EN (AX c)) (PT c) (EM (AX c)) BI (DF (λ i=>UX (AX c) i (NB c) i)) (DF (λ i=>VD (VW c) i (Yq (ABK c) (Pk c)) i)) (DF (λ i=>VF (KB (AX c) i) (NB c) i (KU (AX c) i) (AX c) i)) (UA (Pk c)) (MD (AX c))))) (GH (AT (NB c)) (AW (NB c)) (AV (NB c)) (BA (NB c)) (BB (NB c)) (BF (NB c)) (NY (NB c) (λ i=>BC i (NB c) (BG (NB c) i) (BD (NB c) i) (AP (NB c) i) (AZ (NB c) i) (AO (NB c) i) (BE (NB c) i) (AM (NB c) i)) (KJ (Yq (ABK c) (Pk c))) BI (DF (λ i=>VM (NB c) i (AX c) i)) (PT c) (DF (λ i=>UU (XT (NB c) i) (AX c) i (Be (NB c) i) (NB c) i)) (RV (NB c) (AN (EJ (NB c)) (KJ (Yq (ABK c) (Pk c))) BI (DF (λ i=>WS (AX c) i (NB c) i)) (PT c) (DF (λ i=>WK (AX c) i (WQ (NB c) i) i (Be (NB c) i) (WP (NB c) i) (NB c) i)) (QO (NB c)) (MD (NB c)) (DF (λ i=>HQ (WX (NB c) i) (CS i (ED (NB c))))))))) (FG (not (wN (Td (APU (DG (NB c)) c (Yq (ABK c) (Pk c)))))) (WY (FL (gQ (fwO c)) 0) (CL (SM (kL c)) 0) (CL (SM (kL c)) 0) (AS (gW (fwO c)) 6)) (WF (CQ (gQ (fwO c)) (Pk c)) (EO (gQ (fwO c)) (Pk c)) (CL (SM (kL c)) (SM (Yc c))) (λ i=>EA i (SM (kL c)) (VU (kL c) i) (VU (Yc c) i) (VR (kL c) i) (VR (Yc c) i)) (EV (gW (fwO c))))))))))) := by kernel_rfl
theorem BNB (a b : Int) : dPr (.agg [RI a, .v (.int .i64 b)]) = ⟨a, b⟩ := rfl
theorem AFD (c : Cht) : Dk.mk c (AY c).st (AY c).sp = AY c := rfl
theorem BQD {c : Cht} (h : nsIn c) : ∀ i, i < c.ns.length -> 0 <= (gD c.ns i).mi /\ (gD c.ns i).mi < c.ms.length := λ i hi => h _ (List.any_eq_true.2 ⟨_, LS hi, by simp⟩)
theorem AVM (n : Nat) : (idL n).length = n := by unfold idL; simp
theorem AIX (c : Cht) : (GK c).Perm (idL c.ns.length) := XG _ _
theorem AEF (c : Cht) : (GK c).length = c.ns.length := by rw [(AIX c).length_eq, AVM]
theorem BMF (c : Cht) {i : Nat} (hi : i < c.ns.length) : 0 <= gD (GK c) i /\ gD (GK c) i < c.ns.length := by
 have hm : gD (GK c) i ∈ idL c.ns.length := (AIX c).mem_iff.1 (LS (by rw [AEF]; exact hi))
 obtain ⟨k, hk, e⟩ := QG hm
 rw [AVM] at hk
 have e2 : gD (idL c.ns.length) k = (k : Int) := HM _ _ _ hk
 rw [<- e, e2]; omega
theorem BNW {c : Cht} {k : Nat} (hk : k <= c.ns.length) (h : ∀ t, t < k -> fwP c (ZC c k).la (gD (GK c) k) (gD (GK c) t) = false) : ZC c (k + 1) = ZC c k := by
 show fwN c (ZC c k) _ (((GK c).take k).find? _) = _
 rw [AKY]
 ·rfl
 ·intro t ht
  have ht : t < k := by rw [List.length_take] at ht; omega
  rw [Kz ht]; exact h t ht
theorem BPA {c : Cht} {k j : Nat} (hk : k <= c.ns.length) (hj : j < k) (h : ∀ t, t < j -> fwP c (ZC c k).la (gD (GK c) k) (gD (GK c) t) = false) (h2 : fwP c (ZC c k).la (gD (GK c) k) (gD (GK c) j) = true) : ZC c (k + 1) = ⟨wr (miA c (gD (GK c) k) - 1), (ZC c k).q ++ [wr (miA c (gD (GK c) k) - 1)], (ZC c k).r ++ [⟨gD (GK c) j, gD (GK c) k⟩]⟩ := by
 have e : (((GK c).take k).find? (fwP c (ZC c k).la (gD (GK c) k))) = some (gD ((GK c).take k) j) := AWC (by rw [List.length_take, AEF]; omega) (λ t ht => by rw [Kz (by omega)]; exact h t ht) (by rw [Kz hj]; exact h2)
 show fwN c (ZC c k) _ (((GK c).take k).find? _) = _
 rw [e, Kz hj]; rfl
theorem BCP (c : Cht) : ∀ k, (ZC c k).q.length <= k /\ (ZC c k).r.length = (ZC c k).q.length
 | 0 => ⟨Nat.le_refl _, rfl⟩
 | k + 1 => by
  obtain ⟨h1, h2⟩ := BCP c k
  show (fwN c (ZC c k) _ (((GK c).take k).find? _)).q.length <= _ /\ (fwN c (ZC c k) _ (((GK c).take k).find? _)).r.length = (fwN c (ZC c k) _ (((GK c).take k).find? _)).q.length
  cases ((GK c).take k).find? (fwP c (ZC c k).la (gD (GK c) k)) with
  | none => exact ⟨by show (ZC c k).q.length <= _; omega, h2⟩
  | some a =>
   refine ⟨?_, ?_⟩
   ·show ((ZC c k).q ++ [_]).length <= _
    rw [List.length_append]; simp; omega
   ·show ((ZC c k).r ++ [_]).length = ((ZC c k).q ++ [_]).length
    rw [List.length_append, List.length_append]; simp; omega
theorem ZD {α : Type} [Inhabited α] (l : List α) (x : α) (i : Nat) (h : i < l.length + 1) : gD (l ++ [x]) i = bif decide (i < l.length) then gD l i else x := by
 rw [Dv]
 by_cases h2 : i < l.length
 ·simp [h2]
 ·have : i - l.length = 0 := by omega
  rw [if_neg h2, this, decide_eq_false h2]; rfl
theorem BQK {key : Int -> Int} {l : List Int} (h : ∀ i j, i < j -> j < l.length -> key (gD l i) ≠ key (gD l j)) : ndk key l := List.pairwise_map.2 (List.pairwise_iff_getElem.2 λ i j hi hj hij => by
 have := h i j hij hj
 simpa [gD, List.getD_eq_getElem?_getD, hi, hj] using this)
theorem BJM {c : Cht} (h0 : BS c = 0) (hn : c.ns.length <= 14) {l : List Int} (hl : l.length = c.ns.length) (hI : ∀ i, i < c.ns.length -> gD l i = (i : Int)) : c.ns.length <= 12 ∨ (c.ns.length = 13 ∨ c.ns.length = 14) /\ ndk (HW c) l := by
 rcases Nat.lt_or_ge 12 c.ns.length with q | q
 ·refine .inr ⟨by omega, BQK λ i j hij hj => ?_⟩
  rw [hI i (by omega), hI j (by omega)]
  exact (iQ.1 h0).one i j hij (by omega)
 ·exact .inl q
theorem BTV (c : Cht) (h1 : c.ms.length < 4611686018427387904 /\ c.ns.length < 4611686018427387904) (h0 : BS c = 0) (hn : 1 <= c.ns.length /\ c.ns.length <= 14) : BOH c := by
 have hl := PE h0
 have hs := cM h0
 have hM := BQD hs.1
 have hO := AEF c
 have hR := λ i (h : i < c.ns.length) => BMF c h
 have hF := BCP c
 rw [BRL]<;> delta LV He CI CH FE PS SI Pt EE FH CL AF CV DC AS CG UB CW FG PD HU KV UC MT JT HP GG IQ IV IX JU GZ GM HK LC IF II FV ET XS LX JV VO HX UN OW OE DF MA MN Fl AG VW ID gT hC Td wN TO SM Sa pF wG FS JW AIY Ul aH APD gQ xH gW AH DD AX EL EW GS AK BN BQ CF SO AJ HR wS GI EQ BU FT aS hJ WY Ho gV BJ KB AN AM BV AZ CD BR JD BL AO DZ JI EI NO DV DI CB GN AT BB GO EP HD BO YC DG DY AP BT BA ED AW BE XT FZ LZ CX AV FN GF FA DB KP DN CM EF NC GR JF KU PN EU GQ MC HZ BD FL FB wV TY BH wZ BI Et AQZ EG TW FX IT Pk EK JJ GA CS GD JQ EH UE APU GJ EC APY YD HQ WX DH OD Be Qz EA CQ AU FY HL IW APJ FM MW JE XD JY ARD OC BC KO Pf MB Vy IL LY Bc BF CA DK FU ABK BG NQ NB FP HB RA KT KX LJ GT GX KR QD LI JX CJ AJI Va Dq VR JS CU OY EV Li VU GH wO PM IM Gq DQ SQ JL Iz Jd SK DE QN CE QI BM JZ DT MJ NW gH IB DA Nq EX VM WP SY GB LR QR CY KZ Da IZ ME Se EO KI Tf UP WQ LO TF OB JO DX TU EJ JM UU WS YS OG IR FW PT MR QK FR Ko EN FI EY UW KG NF TT VC Gm Rv LQ UQ RT Wt Oc qE DP WK Bx NX Rk KJ EM TP KY MD Ad qB UA An Am bV At RK ZY Ce TZ GC Yo NK ZU Ct QO MV OI Ig SE Bq Hx Ah Od RL Kf Ee Fp WI Jq WN RZ SB Kd Jk MZ Fz Ju nQ RR Oh Gs PU VE Kq Rf SC SH RG On Oa Kj Sd UX RF SF WJ Cu Pb VD Jw Yc RE Oz Fg En MH Cs Nl Cj Fu XV Sp Jz Hy Nj bZ WF Ab Ou Of Ni Za Ss Fw RV No ZW QL QQ VF RQ dU Yq WO lK kL Xq Zb Xx Kx NY; simp only [CC, eq_self, implies_true, forall_const, DW, P0, Rm, APL, AFD, BNB]
 have hI : ∀ i, i < c.ns.length -> gD (OF c.ns.length λ i => (i : Int)) i = (i : Int) := λ i hi => HM _ _ _ hi
 have hT : ∀ k j, j < k -> gD ((GK c).take k) j = gD (GK c) j := λ k j h => Kz h
 have hTl : ∀ k, k <= c.ns.length -> ((GK c).take k).length = k := λ k h => by rw [List.length_take, hO]; omega
 have pre : ∀ x ∈ [0], True := λ _ _ => trivial
 refine ⟨⟨h1, h0⟩, ⟨⟨⟨default, trivial⟩, ?_, ?_⟩, λ _ => ⟨⟨⟨hI, BJM h0 hn.2 (rng_length _ _) hI, by omega, ?_⟩, default, hO, Nat.le_refl _, λ _ _ => rfl⟩, ⟨⟨0, ⟨rfl, by rw [hO], rfl⟩, Nat.zero_le _, rfl⟩, ?_, ?_⟩, ?_⟩⟩⟩
 ·refine ⟨λ _ => ⟨by decide, 1, ⟨rfl, by decide, rfl, λ i hi => by omega⟩, by omega, by omega⟩, λ h => h (by omega)⟩
 ·intro a ha
  refine ⟨λ h => ⟨⟨Nat.one_pos, (λ h => by cases h), by omega, by omega⟩, a + 1, ⟨rfl, by rw [NU (by omega) (by omega)]; rfl, rfl, λ i hi => ?_⟩, by omega, by omega⟩, λ h => ⟨default, by omega, by omega⟩⟩
  by_cases h2 : i < a
  ·rw [decide_eq_true h2]; rfl
  ·rw [decide_eq_false h2]; show (i : Int) = a; omega
 ·intro i hi; rw [hI i hi]; omega
 ·rintro k ⟨hk, hq⟩
  refine ⟨λ h => ?_, λ h => ?_⟩
  ·have hk2 : k < c.ns.length := by omega
   refine ⟨⟨⟨by omega, by omega⟩, ⟨by omega, by omega, by omega⟩, ⟨⟨k, 0⟩, ⟨rfl, hTl k hk, λ i hi => ?_, rfl, rfl, rfl, rfl⟩, ⟨hk2, rfl, Nat.zero_le _, λ t ht => absurd ht (Nat.not_lt_zero _)⟩, hq⟩, ?_⟩, ?_, ?_⟩
   ·rw [hT _ _ (by have hi : i < ((GK c).take k).length := hi; rw [hTl k hk] at hi; exact hi), show Int.toNat 0 = 0 from rfl, Nat.zero_add]
   ·rintro y ⟨⟨y1, y2, y3, y4⟩, y5⟩
    have hp : ∀ j, j < y.i -> (bif decide ((gD c.ns (gD ((GK c).take y.i) j).toNat).mi > (ZC c y.i).la) then Lf c { a := gD ((GK c).take y.i) j, b := gD (GK c) y.i } else false) = fwP c (ZC c y.i).la (gD (GK c) y.i) (gD (GK c) j) := λ j hj => by rw [hT _ _ hj]; rfl
    refine ⟨λ hj => ⟨⟨by omega, by rw [hTl _ (by omega)]; exact hj⟩, ⟨by rw [hT _ _ (by omega)]; exact hR _ (by omega), λ _ => ⟨⟨by rw [hT _ _ (by omega)]; exact hR _ (by omega), hR _ y1⟩, ⟨hl.2.1.2, hl.2.2⟩, hM⟩⟩, λ hc => ?_, λ hc => ?_⟩, λ hj => ?_⟩
    ·rw [hp _ (by omega)] at hc
     have e := BPA (by omega) (by omega) y4 hc
     rw [hT _ _ (by omega)]
     have h8 : (ZC c y.i).r = [] := List.length_eq_zero_iff.1 (by rw [(hF y.i).2, y5]; rfl)
     refine ⟨hR _ y1, by decide, y.i, ?_, y1, y2, ?_⟩
     ·rw [e, y5, h8]
      refine ⟨rfl, rfl, rfl, rfl, rfl, λ i hi => ?_, rfl, λ i hi => ?_⟩
      ·have hi : i < 1 := hi
       obtain rfl : i = 0 := by omega
       rfl
      ·have hi : i < 1 := hi
       obtain rfl : i = 0 := by omega
       exact ⟨rfl, rfl⟩
     ·rw [e, y5]; exact Nat.one_pos
    ·rw [hp _ (by omega)] at hc
     have e : IntKind.i64.wrap ((y.j : Int) + 1) = ((y.j + 1 : Nat) : Int) := by rw [NU (by omega) (by omega)]; rfl
     refine ⟨⟨y.i, y.j + 1⟩, ⟨rfl, rfl, λ _ _ => rfl, rfl, e.symm, rfl, rfl⟩, ⟨⟨y1, y2, by show y.j + 1 <= y.i; omega, λ t ht => ?_⟩, y5⟩, by show _ - (y.j + 1) < _; omega⟩
     have ht : t < y.j + 1 := ht
     by_cases h2 : t = y.j
     ·subst h2; exact hc
     ·exact y4 t (by omega)
    ·have e := BNW (by omega) (λ t (ht : t < y.i) => y4 t (by omega))
     refine ⟨y.i, ?_, y1, y2, ?_⟩
     ·rw [e]; exact ⟨rfl, rfl⟩
     ·rw [e]; exact y5
   ·rintro k' ⟨g1, g2, g3⟩
    refine ⟨k' + 1, ⟨rfl, by rw [NU (by omega) (by omega)]; rfl⟩, ⟨by omega, g3⟩, by omega⟩
   ·rintro k' ⟨g1, g2, g3⟩
    refine ⟨k' + 1, ⟨rfl, rfl, rfl, by rw [NU (by omega) (by omega)]; rfl, rfl, λ _ _ => rfl, rfl, λ _ _ => ⟨rfl, rfl⟩⟩, ⟨by omega, g3⟩, by omega⟩
  ·have e : k = c.ns.length := by omega
   have h8 : (ZC c k).r = [] := List.length_eq_zero_iff.1 (by rw [(hF k).2, hq]; rfl)
   subst e
   exact ⟨default, by show (ZC c _).q.length = 0; rw [hq]; rfl, by show (ZC c _).q.length = 0; rw [hq]; rfl, by show (ZC c _).r.length = 0; rw [h8]; rfl⟩
 ·rintro k ⟨hk, hq⟩
  refine ⟨λ h => ?_, λ h => ?_⟩
  ·have hk2 : k < c.ns.length := by omega
   refine ⟨⟨⟨by omega, by omega⟩, ⟨by omega, by omega, by omega⟩, ⟨⟨k, 0⟩, ⟨rfl, hTl k hk, λ i hi => ?_, rfl, rfl, rfl, rfl, rfl, rfl, rfl, λ _ _ => rfl, rfl, λ _ _ => ⟨rfl, rfl⟩⟩, ⟨hk2, rfl, Nat.zero_le _, λ t ht => absurd ht (Nat.not_lt_zero _)⟩, hq⟩, ?_⟩, ?_⟩
   ·rw [hT _ _ (by have hi : i < ((GK c).take k).length := hi; rw [hTl k hk] at hi; exact hi), show Int.toNat 0 = 0 from rfl, Nat.zero_add]
   ·rintro y ⟨⟨y1, y2, y3, y4⟩, y5⟩
    have hp : ∀ j, j < y.i -> (bif decide ((gD c.ns (gD ((GK c).take y.i) j).toNat).mi > (ZC c y.i).la) then Lf c { a := gD ((GK c).take y.i) j, b := gD (GK c) y.i } else false) = fwP c (ZC c y.i).la (gD (GK c) y.i) (gD (GK c) j) := λ j hj => by rw [hT _ _ hj]; rfl
    refine ⟨λ hj => ⟨⟨by omega, by rw [hTl _ (by omega)]; exact hj⟩, ⟨by rw [hT _ _ (by omega)]; exact hR _ (by omega), λ _ => ⟨⟨by rw [hT _ _ (by omega)]; exact hR _ (by omega), hR _ y1⟩, ⟨hl.2.1.2, hl.2.2⟩, hM⟩⟩, λ hc => ?_, λ hc => ?_⟩, λ hj => ?_⟩
    ·rw [hp _ (by omega)] at hc
     have e := BPA (by omega) (by omega) y4 hc
     rw [hT _ _ (by omega)]
     have h9 := hF y.i
     refine ⟨hR _ y1, ⟨⟨Nat.one_pos, (λ h => by cases h), by omega, by omega⟩, Nat.one_pos, (λ h => by cases h), by omega, by omega⟩, y.i, ?_, y1, y2, ?_⟩
     ·rw [e]
      refine ⟨by simp, by simp, rfl, rfl, by simp, λ i hi => ?_, by simp, λ i hi => ?_⟩
      ·exact ZD _ _ _ (by simpa using hi)
      ·have hi2 : i < (ZC c y.i).r.length + 1 := by simpa using hi
       show (gD ((ZC c y.i).r ++ [_]) i).a = _ /\ (gD ((ZC c y.i).r ++ [_]) i).b = _
       rw [ZD _ _ _ hi2]
       cases decide (i < (ZC c y.i).r.length) <;> exact ⟨rfl, rfl⟩
     ·rw [e]; simp
    ·rw [hp _ (by omega)] at hc
     have e : IntKind.i64.wrap ((y.j : Int) + 1) = ((y.j + 1 : Nat) : Int) := by rw [NU (by omega) (by omega)]; rfl
     refine ⟨⟨y.i, y.j + 1⟩, ⟨rfl, rfl, λ _ _ => rfl, rfl, e.symm, rfl, rfl, rfl, rfl, rfl, λ _ _ => rfl, rfl, λ _ _ => ⟨rfl, rfl⟩⟩, ⟨⟨y1, y2, by show y.j + 1 <= y.i; omega, λ t ht => ?_⟩, y5⟩, by show _ - (y.j + 1) < _; omega⟩
     have ht : t < y.j + 1 := ht
     by_cases h2 : t = y.j
     ·subst h2; exact hc
     ·exact y4 t (by omega)
    ·have e := BNW (by omega) (λ t (ht : t < y.i) => y4 t (by omega))
     refine ⟨y.i, ?_, y1, y2, ?_⟩
     ·rw [e]; exact ⟨rfl, rfl, rfl, rfl, rfl, λ _ _ => rfl, rfl, λ _ _ => ⟨rfl, rfl⟩⟩
     ·rw [e]; exact y5
   ·rintro k' ⟨g1, g2, g3⟩
    refine ⟨k' + 1, ⟨rfl, rfl, rfl, by rw [NU (by omega) (by omega)]; rfl, rfl, λ _ _ => rfl, rfl, λ _ _ => ⟨rfl, rfl⟩⟩, ⟨by omega, g3⟩, by omega⟩
  ·have e : k = c.ns.length := by omega
   subst e
   exact ⟨default, rfl, Nat.le_refl _, λ _ _ => rfl, rfl, Nat.le_refl _, λ _ _ => ⟨rfl, rfl⟩⟩
 ·have h9 := hF c.ns.length
  refine ⟨⟨λ _ => rfl, by have : (fwE c).q.length <= c.ns.length := h9.1; omega, hl.2.1.2⟩, ⟨hl.2.1.1, hl.2.1.2, hs.1⟩, λ hc => ?_, λ hc => ?_⟩
  ·have hc : (HV (fwW c)).2 = false := hc
   unfold fwO; rw [hc]; exact ⟨rfl, rfl, rfl, rfl, rfl⟩
  ·have hc : (HV (fwW c)).2 = true := hc
   unfold fwO; rw [hc]; exact ⟨rfl, λ _ _ => rfl, rfl, λ _ _ => ⟨rfl, rfl⟩, rfl⟩
def C_insZ : Ctr := { ro := [100], α := Cht, xs := λ _ => [.d WH, .int 0, .int 0, .fn (.func RP) [] [.bptr 100 0]], L := λ c => [(100, chB c)], val := λ _ => .d (.tup []), keep := λ c => [(100, .live (chB c))] }
def BAR : List AVal -> Heap -> Option (Cht × List (Nat × Nat) × List Nat)
 | [.d _, _, _, .fn _ _ [.bptr id _]], H => match Ap H id with
  | some q => some (q, [(100, id)], [])
  | none => none
 | _, _ => none
def iz1 (c : Cht) : Shape := { α := One, dflt := default, T := λ _ => ⟨[(0, .d WH), (1, .int 0), (2, .int 0), (3, .fn (.func RP) [] [.bptr 100 0]), (8, .int 1)], [(100, .live (chB c))]⟩, inv := λ _ => True, meas := λ _ => 0 }
def BGO (c : Cht) : Ann := { ann 53 [] with E := [100], loops := λ id => if id = 1 then some [iz1 c] else none }
def BHK (c : Cht) : Prop := CR Try.prog (BGO c) AHG (AL AHG) (C_insZ.xs c) (AE (C_insZ.L c)) (C_insZ.val c) (C_insZ.keep c) [] []
theorem BKO (c : Cht) : (BHK c) = (Ab (KY (Kx (gV OI CU (AS (UB 1) (UB ((@HMod.hMod Nat Nat Nat (@instHMod Nat Nat.instMod)) (DN 1) (Int.natAbs (AJZ 2 (IntKind.bits SI)))))) (HJ c)))) (HJ c)) := by kernel_rfl
theorem BJB : AR Try.prog AAS (C_insZ.spec BAR) := Bl C_insZ BGO [] [] AWQ (λ _ => by kernel_rfl) (λ _ => AI) (λ (c : Cht) _ => by
 show BHK c; rw [BKO]<;> delta LV He CI CH FE SI EE FH CL AF CV DC AS UB JT HP GG IQ IV IX JU GZ GM HK II UN gT AJZ AH DD EL AK BN BQ CF AJ BU FT gV BJ AN AM BV CD BR BL AO DZ EI DV DI AT BB EP HD BO DY AP BA AW AV DB DN PN EU FX GA OD AU FP RA XC CU DE HJ Rv Wt KY At OI Ab Kx; exact ⟨⟨default, by simp; rfl, trivial⟩, λ _ _ => by simp⟩) (λ _ => Ec rfl rfl) _
def C_pdqZ : Ctr := { ro := [100], α := Cht, xs := λ _ => [.d WH, .int 0, .int 0, .any, .fn (.func RP) [] [.bptr 100 0]], L := λ c => [(100, chB c)], val := λ _ => .d (.tup []), keep := λ c => [(100, .live (chB c))] }
def BDP : List AVal -> Heap -> Option (Cht × List (Nat × Nat) × List Nat)
 | [.d _, _, _, _, .fn _ _ [.bptr id _]], H => match Ap H id with
  | some q => some (q, [(100, id)], [])
  | none => none
 | _, _ => none
def pz2 (c : Cht) : Shape := { α := One, dflt := default, T := λ _ => ⟨[(0, .d WH), (1, .int 0), (2, .int 0), (3, .any), (4, .fn (.func RP) [] [.bptr 100 0]), (10, .bool true), (11, .bool true)], [(100, .live (chB c))]⟩, inv := λ _ => True, meas := λ _ => 0 }
def BEB (c : Cht) : Ann := { ann 148 [(AAS, C_insZ.spec BAR)] with E := [100], loops := λ id => if id = 2 then some [pz2 c] else none }
def BGF (c : Cht) : Prop := CR Try.prog (BEB c) AIA (AL AIA) (C_pdqZ.xs c) (AE (C_pdqZ.L c)) (C_pdqZ.val c) (C_pdqZ.keep c) [] []
theorem BKN (c : Cht) : (BGF c) = (Ab (KY (Cj OI (WY CU IZ IZ (HJ c)))) (And (Kx (gV OI CU (AT c) (MZ c (AV c) (BA c) (BB c) (BF c) (BM c) (CA c) (AF (λ i=>BC i c (BG c i) (BD c i) (AP c i) (AZ c i) (AO c i) (BE c i) (AM c i))) (XC c c (DQ c) (λ i=>DT i c) (DK c) (λ i=>DX i c))))) (HJ c))) := by kernel_rfl
theorem BJO : AR Try.prog ACC (C_pdqZ.spec BDP) := Bl C_pdqZ BEB [] [] AUP (λ _ => by kernel_rfl) (λ _ => AC BJB AI) (λ (c : Cht) _ => by
 show BGF c; rw [BKN]<;> delta LV He CI CH FE EE FH CL AF CV DC AS UB JT HP GG IQ IV IX JU GZ GM HK LC II LX gT AH DD EL EW GS AK BN BQ CF AJ HR GI BU FT WY gV BJ AN AM BV AZ CD BR BL AO DZ EI DV DI CB GN AT BB EP HD BO DY AP BT BA ED AW BE AV FN GF FA DB GR PN EU GQ BD FX IT GA GD GJ EC OD EA AU FY MW BC MB LY BF CA DK BG FP RA KT KX LJ GT KR XC CU DQ DE CE BM HJ DT IZ DX Rv Wt KY At OI MZ Cj Ab Kx; simp only [CC, eq_self, implies_true, forall_const]; exact ⟨default, trivial⟩) (λ _ => Ec rfl rfl) _
def C_sortZ : Ctr := { ro := [100], α := Cht, xs := λ _ => [.d WH, .fn (.func RP) [] [.bptr 100 0]], L := λ c => [(100, chB c)], val := λ _ => .d (.tup []), keep := λ c => [(100, .live (chB c))] }
def AXK : List AVal -> Heap -> Option (Cht × List (Nat × Nat) × List Nat)
 | [.d _, .fn _ _ [.bptr id _]], H => match Ap H id with
  | some q => some (q, [(100, id)], [])
  | none => none
 | _, _ => none
def AWM : Ann := { ann 14 [(R6, AJA), (ACC, C_pdqZ.spec BDP)] with E := [100] }
def AWK (c : Cht) : Prop := CR Try.prog AWM eI (AL eI) (C_sortZ.xs c) (AE (C_sortZ.L c)) (C_sortZ.val c) (C_sortZ.keep c) [] []
theorem BCQ (c : Cht) : (AWK c) = (And (NK (CX (YF (CG 0))) (HU (YF (CG 0)) 20) AU (gV OI CU (AT c) (MZ c (AV c) (BA c) (BB c) (BF c) (BM c) (CA c) (AF (λ i=>BC i c (BG c i) (BD c i) (AP c i) (AZ c i) (AO c i) (BE c i) (AM c i))) (XC c c (DQ c) (λ i=>DT i c) (DK c) (λ i=>DX i c))))) (HJ c)) := by kernel_rfl
theorem BDE : AR Try.prog I1 (C_sortZ.spec AXK) := Bl C_sortZ (λ _ => AWM) [] [] AGJ (λ _ => by kernel_rfl) (λ _ => AC BBN (AC BJO AI)) (λ (c : Cht) _ => by
 show AWK c; rw [BCQ]<;> delta LV He CI CH FE PS EE FH CL AF CV DC AS CG UB HU JT HP GG IQ IV IX JU GZ GM HK LC AH DD EL EW GS AK BN BQ CF AJ HR GI BU FT gV BJ AN AM BV AZ CD BR BL AO DZ EI DV DI CB GN AT BB EP HD BO DY AP BT BA ED AW BE CX AV FN GF FA DB GR PN EU GQ BD FX IT GA GD GJ EC OD EA AU FY MW BC MB LY BF CA DK BG FP RA KT KX LJ GT KR XC CU DQ DE CE BM HJ DT DX YF NK OI MZ; simp only [CC, eq_self, implies_true, forall_const]; rw [u64w (by omega) (by omega)]; omega) (λ _ => Ec rfl rfl) _
def fz6 (c : Cht) : Shape := { α := One, dflt := default, T := λ _ => ⟨(7, .d WH) :: fw6S c 0, fwH c⟩, inv := λ _ => c.ns.length = 0, meas := λ _ => 60, first := fwR }
def fz15 (c : Cht) : Shape := { α := One, dflt := default, T := λ _ => ⟨AYL ++ [(1, .bptr 201 0), (5, .bptr 203 0), (7, .d WH), (11, .int (-1)), (41, .d WH), (42, .int 0), (43, .int 0)], fwH c⟩, inv := λ _ => c.ns.length = 0, meas := λ _ => 60 }
def BEE (c : Cht) : Ann := { ann 101 [(VS, C_open.spec dC1), (I1, C_sortZ.spec AXK), (AHL, C_stop.spec dDkZ), (J1, C_times.spec D6)] with loops := λ id => if id = 6 then some [fz6 c] else if id = 15 then some [fz15 c] else none }
def BCA (c : Cht) : Prop := CR Try.prog (BEE c) Th (AL Th) [.d (aK c)] (AE []) (.tup [.d (IN (fwO c).q), .d (Zo (fwO c).r), .int (fwO c).e]) [] [] []
abbrev L9 (c : Cht) : List Mk := OF c.ms.length λ (i : Nat) => gD c.ms i
abbrev iH (c : Cht) : Nat := (L9 c).length
abbrev AGV (c : Cht) : Prop := iH c = c.ms.length
abbrev AGE (c : Cht) (i : Nat) : Mk := gD (L9 c) i
abbrev AHW (c : Cht) (i : Nat) : Int := (AGE c i).pl
abbrev AGM (c : Cht) (i : Nat) : Int := (AGE c i).ht
abbrev AHC (c : Cht) : Prop := ∀ (i : Nat), i < iH c -> AHW c i = (gD c.ms i).pl /\ AGM c i = (gD c.ms i).ht
abbrev J5 (c : Cht) : List Nt := OF c.ns.length λ (i : Nat) => gD c.ns i
abbrev qW (c : Cht) : Nat := (J5 c).length
abbrev AEE (c : Cht) : Prop := qW c = c.ns.length
abbrev uJ (c : Cht) (i : Nat) : Nt := gD (J5 c) i
abbrev N4 (c : Cht) (i : Nat) : Int := (uJ c i).mi
abbrev R5 (c : Cht) (i : Nat) : Span := (uJ c i).t
abbrev O1 (c : Cht) (i : Nat) : Int := (R5 c i).lo
abbrev Z4 (c : Cht) (i : Nat) : Int := (R5 c i).hi
abbrev ABA (c : Cht) (i : Nat) : Span := (uJ c i).s
abbrev U9 (c : Cht) (i : Nat) : Int := (ABA c i).lo
abbrev X4 (c : Cht) (i : Nat) : Int := (ABA c i).hi
abbrev N1 (c : Cht) : Prop := ∀ (i : Nat), i < qW c -> N4 c i = (gD c.ns i).mi /\ O1 c i = (gD c.ns i).t.lo /\ Z4 c i = (gD c.ns i).t.hi /\ U9 c i = (gD c.ns i).s.lo /\ X4 c i =
 (gD c.ns i).s.hi
abbrev Q7 (c : Cht) : Cht := Cht.mk c.p c.base c.scale c.off (L9 c) (J5 c)
abbrev ZH : Prop := (0 : Nat) = (0 : Nat)
abbrev Js : Prop := ∀ (i : Nat), i < (0 : Nat) -> false = false
abbrev uC : Prop := Int.ofNat (0 : Nat) = Int.ofNat (0 : Nat)
abbrev T4 (c : Cht) : Prop := c.ms.length = c.ms.length
abbrev P3 (c : Cht) : Prop := ∀ (i : Nat), i < c.ms.length -> (gD c.ms i).pl = (gD c.ms i).pl /\ (gD c.ms i).ht = (gD c.ms i).ht
abbrev AAL (c : Cht) : Prop := c.ns.length = c.ns.length
abbrev W6 (c : Cht) : Prop := ∀ (i : Nat), i < c.ns.length -> (gD c.ns i).mi = (gD c.ns i).mi /\ (gD c.ns i).t.lo = (gD c.ns i).t.lo /\ (gD c.ns i).t.hi = (gD c.ns i).t.hi /\ (gD c.ns i).s.lo = (gD c.ns i).s.lo /\ (gD
 c.ns i).s.hi = (gD c.ns i).s.hi
abbrev AAK (c : Cht) : Dk := AY (Q7 c)
abbrev Hw (c : Cht) : Cht := (AAK c).c
abbrev P2 (c : Cht) : Span := (Hw c).p
abbrev S8 (c : Cht) : List Mk := (Hw c).ms
abbrev R9 (i : Nat) (c : Cht) : Prop := i < (AY c).c.ms.length
abbrev Z7 (c : Cht) (i : Nat) : Mk := gD (S8 c) i
abbrev Zt (c : Cht) : List Nt := (Hw c).ns
abbrev AAX (i : Nat) (c : Cht) : Prop := i < (AY c).c.ns.length
abbrev tZ (c : Cht) (i : Nat) : Nt := gD (Zt c) i
abbrev aI (c : Cht) (i : Nat) : Int := (gD (AY c).c.ns i).t.lo
abbrev U5 (c : Cht) (i : Nat) : Span := (tZ c i).t
abbrev bJ (c : Cht) (i : Nat) : Int := (gD (AY c).c.ns i).t.hi
abbrev Zw (c : Cht) (i : Nat) : Int := (gD (AY c).c.ns i).s.lo
abbrev T7 (c : Cht) (i : Nat) : Span := (tZ c i).s
abbrev bI (c : Cht) (i : Nat) : Int := (gD (AY c).c.ns i).s.hi
abbrev Qc : Prop := ∀ (i : Nat), i < (40 : Nat) -> false = false
abbrev uQ (c : Cht) (n : Int) : Nt := ntOf (Zt c) n
abbrev P9 (c : Cht) (n : Int) : Span := (uQ c n).t
abbrev V7 (c : Cht) (n : Int) : Span := (uQ c n).s
abbrev Zl (c : Cht) : Prop := c.ns.length = (0 : Nat)
abbrev AAB : Prop := (0 : Nat) < (1 : Nat)
abbrev W0 (c : Cht) : Prop := (AY c).c.p.lo = (AY c).c.p.lo
abbrev AAO (c : Cht) : Prop := (AY c).c.p.hi = (AY c).c.p.hi
abbrev V2 (c : Cht) : Prop := (AY c).c.base = (AY c).c.base
abbrev V0 (c : Cht) : Prop := (AY c).c.scale = (AY c).c.scale
abbrev S9 (c : Cht) : Prop := (AY c).c.off = (AY c).c.off
abbrev aY (c : Cht) : Prop := ∀ (n : Int), (AY c).st n = (AY c).st n
abbrev vD (c : Cht) : List Mk := OF (AY c).c.ms.length λ (i : Nat) => gD (AY c).c.ms i
abbrev tV (c : Cht) : Nat := (vD c).length
abbrev AAW (c : Cht) (i : Nat) : Mk := gD (vD c) i
abbrev Qj (c : Cht) : List Nt := OF (AY c).c.ns.length λ (i : Nat) => gD (AY c).c.ns i
abbrev X9 (c : Cht) : Nat := (Qj c).length
abbrev tC (c : Cht) (i : Nat) : Nt := gD (Qj c) i
abbrev T8 (c : Cht) (i : Nat) : Span := (tC c i).t
abbrev O7 (c : Cht) (i : Nat) : Span := (tC c i).s
abbrev vJ (c : Cht) (n : Int) : Nt := ntOf (Qj c) n
abbrev AAY (c : Cht) (n : Int) : Span := (vJ c n).t
abbrev W2 (c : Cht) (n : Int) : Span := (vJ c n).s
abbrev tD (c : Cht) : Dk := stD (DkZ.mk (Dk.mk (Cht.mk (AY c).c.p (AY c).c.base (AY c).c.scale (AY c).c.off (vD c) (Qj c)) (AY c).st (AY c).sp) (OF (0 : Nat) λ (i : Nat) => default))
abbrev Kr (c : Cht) : Cht := (tD c).c
abbrev aV (c : Cht) : List Nt := (Kr c).ns
abbrev vA (c : Cht) (n : Int) : Nt := ntOf (aV c) n
abbrev W3 (c : Cht) (n : Int) : Span := (vA c n).t
abbrev X2 (c : Cht) (n : Int) : Span := (vA c n).s
abbrev uY (c : Cht) : Span := (Kr c).p
abbrev AAI (c : Cht) : Int := (uY c).lo
abbrev ABB (c : Cht) : Prop := AAI c = AAI c
abbrev Q6 (c : Cht) : Int := (uY c).hi
abbrev V4 (c : Cht) : Prop := Q6 c = Q6 c
abbrev vP (c : Cht) : Int := (Kr c).base
abbrev AAE (c : Cht) : Prop := vP c = vP c
abbrev tU (c : Cht) : Int := (Kr c).scale
abbrev AAM (c : Cht) : Prop := tU c = tU c
abbrev tW (c : Cht) : Int := (Kr c).off
abbrev P5 (c : Cht) : Prop := tW c = tW c
abbrev X6 (c : Cht) : List Mk := (Kr c).ms
abbrev aM (c : Cht) : Nat := (X6 c).length
abbrev vB (c : Cht) (i : Nat) : Mk := gD (X6 c) i
abbrev vE (c : Cht) : List Mk := OF (aM c) λ (i : Nat) => vB c i
abbrev Jc (c : Cht) : Nat := (vE c).length
abbrev AAA (c : Cht) (i : Nat) : Mk := gD (vE c) i
abbrev Z5 (c : Cht) (i : Nat) : Int := (AAA c i).pl
abbrev O6 (c : Cht) (i : Nat) : Int := (vB c i).pl
abbrev AAG (c : Cht) (i : Nat) : Int := (AAA c i).ht
abbrev O8 (c : Cht) (i : Nat) : Int := (vB c i).ht
abbrev bL (c : Cht) : Nat := (aV c).length
abbrev Zq (c : Cht) (i : Nat) : Nt := gD (aV c) i
abbrev Qn (c : Cht) : List Nt := OF (bL c) λ (i : Nat) => Zq c i
abbrev tF (c : Cht) : Nat := (Qn c).length
abbrev uS (c : Cht) (i : Nat) : Nt := gD (Qn c) i
abbrev W5 (c : Cht) (i : Nat) : Int := (uS c i).mi
abbrev ABD (c : Cht) (i : Nat) : Int := (Zq c i).mi
abbrev X0 (c : Cht) (i : Nat) : Span := (uS c i).t
abbrev E6 (c : Cht) (i : Nat) : Int := (X0 c i).lo
abbrev yG (c : Cht) (i : Nat) : Span := (Zq c i).t
abbrev xW (c : Cht) (i : Nat) : Int := (yG c i).lo
abbrev zT (c : Cht) (i : Nat) : Int := (X0 c i).hi
abbrev yM (c : Cht) (i : Nat) : Int := (yG c i).hi
abbrev zM (c : Cht) (i : Nat) : Span := (uS c i).s
abbrev E8 (c : Cht) (i : Nat) : Int := (zM c i).lo
abbrev B9 (c : Cht) (i : Nat) : Span := (Zq c i).s
abbrev C5 (c : Cht) (i : Nat) : Int := (B9 c i).lo
abbrev D3 (c : Cht) (i : Nat) : Int := (zM c i).hi
abbrev yK (c : Cht) (i : Nat) : Int := (B9 c i).hi
abbrev fW (c : Cht) (n : Int) : Bool := hasN (Qn c) n
abbrev dQ (c : Cht) (n : Int) : Nt := ntOf (Qn c) n
abbrev yJ (c : Cht) (n : Int) : Int := (dQ c n).mi
abbrev D8 (c : Cht) (n : Int) : Span := (dQ c n).t
abbrev yI (c : Cht) (n : Int) : Int := (D8 c n).lo
abbrev C7 (c : Cht) (n : Int) : Int := (D8 c n).hi
abbrev E0 (c : Cht) (n : Int) : Span := (dQ c n).s
abbrev yR (c : Cht) (n : Int) : Int := (E0 c n).lo
abbrev yL (c : Cht) (n : Int) : Int := (E0 c n).hi
abbrev Si (c : Cht) : Prop := (fwO c).q.length = (0 : Nat)
abbrev Tb (c : Cht) : Prop := (fwO c).r.length = (0 : Nat)
theorem BKB (c : Cht) : (BCA c) = ((c.p.lo = c.p.lo /\ c.p.hi = c.p.hi /\ c.base = c.base /\ c.scale = c.scale /\ c.off = c.off /\ AGV c /\ AHC c /\ AEE c /\ N1 c /\ (iH c < (4611686018427387904
 : Nat) /\ qW c < (4611686018427387904 : Nat)) /\ BS (Q7 c) = (0 : Int)) /\ (∃ (a : One), (ZH /\ Js /\ (↑c.ns.length : Int) = (↑c.ns.length : Int) /\ uC /\ c.p.lo = c.p.lo /\ c.p.hi = c.p.hi
 /\ c.base = c.base /\ c.scale = c.scale /\ c.off = c.off /\ T4 c /\ P3 c /\ AAL c /\ W6 c /\ (AY c).c.p.lo = (P2 c).lo /\ (AY c).c.p.hi = (P2 c).hi /\ (AY c).c.base = (Hw
 c).base /\ (AY c).c.scale = (Hw c).scale /\ (AY c).c.off = (Hw c).off /\ (AY c).c.ms.length = (S8 c).length /\ (∀ (i : Nat), R9 i c -> (gD (AY c).c.ms i).pl = (Z7 c i).pl /\ (gD (AY
 c).c.ms i).ht = (Z7 c i).ht) /\ (AY c).c.ns.length = (Zt c).length /\ (∀ (i : Nat), AAX i c -> (gD (AY c).c.ns i).mi = (tZ c i).mi /\ aI c i = (U5 c i).lo /\ bJ c i =
 (U5 c i).hi /\ Zw c i = (T7 c i).lo /\ bI c i = (T7 c i).hi) /\ Qc /\ sN = sN /\ (∀ (n : Int), hasN (AY c).c.ns n = hasN (Zt c) n) /\ (∀ (n : Int), (AY c).st n =
 (AAK c).st n) /\ ∀ (n : Int), (ntOf (AY c).c.ns n).mi = (uQ c n).mi /\ (ntOf (AY c).c.ns n).t.lo = (P9 c n).lo /\ (ntOf (AY c).c.ns n).t.hi = (P9 c n).hi /\ (ntOf (AY c).c.ns n).s.lo =
 (V7 c n).lo /\ (ntOf (AY c).c.ns n).s.hi = (V7 c n).hi) /\ Zl c) /\ ∀ (a : One), Zl c -> bif decide ((↑(0 : Nat) : Int) < (↑c.ns.length : Int)) then ((True /\ ((0 : Nat) < (0 : Nat) -> (0 : Nat) =
 (1 : Nat))) /\ ((1 : Nat) <= (1 : Nat) /\ (AAB -> (1 : Nat) = (1 : Nat))) /\ (false = true -> AAB) /\ (1 : Nat) <= (9223372036854775807 : Nat) /\ (8 : Nat) <= (140737488355328 : Nat)) /\ False else (ZH /\
 Js /\ c.p.lo = c.p.lo /\ c.p.hi = c.p.hi /\ c.base = c.base /\ c.scale = c.scale /\ c.off = c.off /\ AGV c /\ AHC c /\ AEE c /\ N1 c /\ c.p.lo = c.p.lo /\ c.p.hi = c.p.hi /\ c.base = c.base /\ c.scale =
 c.scale /\ c.off = c.off /\ c.ms.length = iH c /\ (∀ (i : Nat), i < c.ms.length -> (gD c.ms i).pl = AHW c i /\ (gD c.ms i).ht = AGM c i) /\ c.ns.length = qW c /\ ∀ (i : Nat), i < c.ns.length -> (gD c.ns
 i).mi = N4 c i /\ (gD c.ns i).t.lo = O1 c i /\ (gD c.ns i).t.hi = Z4 c i /\ (gD c.ns i).s.lo = U9 c i /\ (gD c.ns i).s.hi = X4 c i) /\ (∃ (a : One), (ZH /\ Js /\ ZH /\
 Js /\ ZH /\ Js /\ Int.negSucc (0 : Nat) = Int.negSucc (0 : Nat) /\ ZH /\ Js /\ uC /\ uC /\ c.p.lo = c.p.lo /\ c.p.hi = c.p.hi /\ c.base = c.base /\ c.scale = c.scale /\ c.off = c.off
 /\ T4 c /\ P3 c /\ AAL c /\ W6 c /\ W0 c /\ AAO c /\ V2 c /\ V0 c /\ S9 c /\ (AY c).c.ms.length = (AY c).c.ms.length /\ (∀ (i : Nat), R9 i c -> (gD (AY
 c).c.ms i).pl = (gD (AY c).c.ms i).pl /\ (gD (AY c).c.ms i).ht = (gD (AY c).c.ms i).ht) /\ (AY c).c.ns.length = (AY c).c.ns.length /\ (∀ (i : Nat), AAX i c -> (gD (AY c).c.ns i).mi = (gD (AY c).c.ns i).mi
 /\ aI c i = aI c i /\ bJ c i = bJ c i /\ Zw c i = Zw c i /\ bI c i = bI c i) /\ Qc /\ sN = sN /\ (∀ (n : Int), hasN (AY c).c.ns n = hasN (AY c).c.ns n) /\
 aY c /\ ∀ (n : Int), (ntOf (AY c).c.ns n).mi = (ntOf (AY c).c.ns n).mi /\ (ntOf (AY c).c.ns n).t.lo = (ntOf (AY c).c.ns n).t.lo /\ (ntOf (AY c).c.ns n).t.hi = (ntOf (AY c).c.ns n).t.hi /\ (ntOf (AY
 c).c.ns n).s.lo = (ntOf (AY c).c.ns n).s.lo /\ (ntOf (AY c).c.ns n).s.hi = (ntOf (AY c).c.ns n).s.hi) /\ Zl c) /\ ∀ (a : One), Zl c -> (ZH /\ ZH /\ W0 c /\ AAO c /\ V2 c /\
 V0 c /\ S9 c /\ tV c = (AY c).c.ms.length /\ (∀ (i : Nat), i < tV c -> (AAW c i).pl = (gD (AY c).c.ms i).pl /\ (AAW c i).ht = (gD (AY c).c.ms i).ht) /\ X9 c = (AY
 c).c.ns.length /\ (∀ (i : Nat), i < X9 c -> (tC c i).mi = (gD (AY c).c.ns i).mi /\ (T8 c i).lo = aI c i /\ (T8 c i).hi = bJ c i /\ (O7 c i).lo = Zw c i /\ (O7 c
 i).hi = bI c i) /\ Qc /\ sN = sN /\ (∀ (n : Int), hasN (Qj c) n = hasN (AY c).c.ns n) /\ aY c /\ (∀ (n : Int), (vJ c n).mi = (ntOf (AY c).c.ns n).mi /\ (AAY c n).lo = (ntOf (AY
 c).c.ns n).t.lo /\ (AAY c n).hi = (ntOf (AY c).c.ns n).t.hi /\ (W2 c n).lo = (ntOf (AY c).c.ns n).s.lo /\ (W2 c n).hi = (ntOf (AY c).c.ns n).s.hi) /\ sN = sN /\ (∀ (n : Int), hasN (AY c).c.ns n =
 hasN (aV c) n) /\ (∀ (n : Int), (AY c).st n = (tD c).st n) /\ (∀ (n : Int), (ntOf (AY c).c.ns n).mi = (vA c n).mi /\ (ntOf (AY c).c.ns n).t.lo = (W3 c n).lo /\ (ntOf (AY c).c.ns n).t.hi =
 (W3 c n).hi /\ (ntOf (AY c).c.ns n).s.lo = (X2 c n).lo /\ (ntOf (AY c).c.ns n).s.hi = (X2 c n).hi) /\ (0 : Nat) < (4611686018427387904 : Nat) /\ tV c <= (40 : Nat)) /\ (ABB c /\ V4 c
 /\ AAE c /\ AAM c /\ P5 c /\ Jc c = aM c /\ (∀ (i : Nat), i < Jc c -> Z5 c i = O6 c i /\ AAG c i = O8 c i) /\ tF c = bL c /\ (∀ (i : Nat), i <
 tF c -> W5 c i = ABD c i /\ E6 c i = xW c i /\ zT c i = yM c i /\ E8 c i = C5 c i /\ D3 c i = yK c i) /\ Qc /\ sN = sN /\ (∀ (n : Int),
 fW c n = hasN (AY c).c.ns n) /\ aY c /\ (∀ (n : Int), yJ c n = (ntOf (AY c).c.ns n).mi /\ yI c n = (ntOf (AY c).c.ns n).t.lo /\ C7 c n = (ntOf (AY c).c.ns n).t.hi /\ yR c
 n = (ntOf (AY c).c.ns n).s.lo /\ yL c n = (ntOf (AY c).c.ns n).s.hi) /\ ABB c /\ V4 c /\ AAE c /\ AAM c /\ P5 c /\ aM c = Jc c /\ (∀ (i : Nat), i < aM c ->
 O6 c i = Z5 c i /\ O8 c i = AAG c i) /\ bL c = tF c /\ (∀ (i : Nat), i < bL c -> ABD c i = W5 c i /\ xW c i = E6 c i /\ yM c i = zT c
 i /\ C5 c i = E8 c i /\ yK c i = D3 c i) /\ Qc /\ sN = sN /\ (∀ (n : Int), hasN (AY c).c.ns n = fW c n) /\ aY c /\ (∀ (n : Int), (ntOf (AY c).c.ns n).mi = yJ c
 n /\ (ntOf (AY c).c.ns n).t.lo = yI c n /\ (ntOf (AY c).c.ns n).t.hi = C7 c n /\ (ntOf (AY c).c.ns n).s.lo = yR c n /\ (ntOf (AY c).c.ns n).s.hi = yL c n) /\ (1 : Nat) <= Jc c /\
 Jc c <= (40 : Nat) /\ ∀ (j : Int), fW c j = true -> (0 : Int) <= j /\ j < (↑(Jc c) : Int)) /\ bif !(HV (Dk.mk (Cht.mk (uY c) (vP c) (tU c) (tW c) (vE c) (Qn
 c)) (AY c).st (tD c).sp)).snd then Si c /\ Si c /\ Tb c /\ Tb c /\ (fwO c).e = (6 : Int) else Si c /\ Si c /\ Tb c /\ Tb c /\ (fwO c).e = (0 : Int)) := by
 kernel_rfl
def BCL : Ann := ann 101 [(VS, C_openX.spec dC1)]
def BFJ (c : Cht) : Prop := CR Try.prog BCL Th (AL Th) [.d (aK c)] (AE []) (.tup [.d (IN nilI), .d (Zo nilP), .int (BS c)]) [] [] []
theorem BLE (c : Cht) : (BFJ c) = (And (QL c c (λ i=>BC i c (BG c i) (BD c i) (AP c i) (AZ c i) (AO c i) (BE c i) (AM c i)) (XV c c) (PJ (LQ c))) (YB (IE (LQ c)) (aS AU AU AU (XO c (LQ c))))) := by kernel_rfl
theorem BQZ (c : Cht) (h1 : c.ms.length < 4611686018427387904 /\ c.ns.length < 4611686018427387904) (h0 : BS c = 0) (hn : c.ns.length = 0) : BCA c := by
 have hl := PE h0
 have hs := cM h0
 rw [BKB]; delta L9 iH AGV AGE AHW AGM AHC J5 qW AEE uJ N4 R5 O1 Z4 ABA U9 X4 N1 Q7 ZH Js uC T4 P3 AAL W6 AAK Hw P2 S8 R9 Z7 Zt AAX tZ aI U5 bJ Zw T7 bI Qc uQ P9 V7 Zl AAB W0 AAO V2 V0 S9 aY vD tV AAW Qj X9 tC T8 O7 vJ AAY W2 tD Kr aV vA W3 X2 uY AAI ABB Q6 V4 vP AAE tU AAM tW P5 X6 aM vB vE Jc AAA Z5 O6 AAG O8 bL Zq Qn tF uS W5 ABD X0 E6 yG xW zT yM zM E8 B9 C5 D3 yK fW dQ yJ D8 yI C7 E0 yR yL Si Tb; simp only [CC, eq_self, implies_true, forall_const, DW, P0, Rm, APL, AFD]
 have hq : (fwE c).q = [] := by unfold fwE; rw [hn]; rfl
 have hr : (fwE c).r = [] := by unfold fwE; rw [hn]; rfl
 refine ⟨⟨h1, h0⟩, ⟨default, hn⟩, λ _ => ⟨λ h => by omega, λ _ => ⟨⟨default, hn⟩, λ _ => ⟨⟨λ n => rfl, by decide, hl.2.1.2⟩, ⟨hl.2.1.1, hl.2.1.2, hs.1⟩, λ hc => ?_, λ hc => ?_⟩⟩⟩⟩
 ·have hc : (HV (stD ⟨AY c, []⟩)).2 = false := hc
  have hc : (HV (fwW c)).2 = false := by unfold fwW; rw [hq]; exact hc
  unfold fwO; rw [hc]; exact ⟨rfl, rfl, rfl, rfl, rfl⟩
 ·have hc : (HV (stD ⟨AY c, []⟩)).2 = true := hc
  have hc : (HV (fwW c)).2 = true := by unfold fwW; rw [hq]; exact hc
  unfold fwO; rw [hc]
  exact ⟨by show (fwE c).q.length = 0; rw [hq]; rfl, by show (fwE c).q.length = 0; rw [hq]; rfl, by show (fwE c).r.length = 0; rw [hr]; rfl, by show (fwE c).r.length = 0; rw [hr]; rfl, rfl⟩
theorem BFQ : AR Try.prog AFS (C_few.spec dC1) := okT C_few (λ (c : Cht) h => by
 obtain ⟨h1, h2⟩ : (c.ms.length < 4611686018427387904 /\ c.ns.length < 4611686018427387904) /\ (BS c = 0 -> c.ns.length <= 14) := h
 by_cases h0 : BS c = 0
 ·have e : C_few.val c = .tup [.d (IN (fwO c).q), .d (Zo (fwO c).r), .int (fwO c).e] := by
   show AVal.tup [.d (IN (Hh c).q), .d (Zo (Hh c).r), .int (Hh c).e] = _
   unfold Hh; rw [h0]; rfl
  rw [e]
  rcases Nat.eq_zero_or_pos c.ns.length with hz | hp
  ·exact Ky (A := BEE c) (L := []) (keep := []) (ren := []) (fz := []) Z9 (by kernel_rfl) (AC F7 (AC BDE (AC AOO (AC H4 AI)))) (BQZ c h1 h0 hz)
  ·exact Ky (A := BPS c) (L := []) (keep := []) (ren := []) (fz := []) Z9 (by kernel_rfl) (AC F7 (AC BQN (AC AYJ (AC AOO (AC H4 AI))))) (BTV c h1 h0 ⟨hp, h2 h0⟩)
 ·have h0' : (BS c == 0) = false := by simpa using h0
  have e : C_few.val c = .tup [.d (IN nilI), .d (Zo nilP), .int (BS c)] := by
   show AVal.tup [.d (IN (Hh c).q), .d (Zo (Hh c).r), .int (Hh c).e] = _
   unfold Hh; rw [h0']; rfl
  rw [e]
  refine Ky (A := BCL) (L := []) (keep := []) (ren := []) (fz := []) Z9 (by kernel_rfl) (AC M3 AI) ?_
  show BFJ c; rw [BLE]<;> delta CI CH FE EE FH CL AF CV DC AS FG JT HP GG IQ IV IX JU GZ GM HK LC VO PX OW AH DD EL EW GS AK BN BQ CF AJ HR GI BU aS BJ AN AM BV AZ CD BR JD BL AO DZ EI DV DI CB GN AT BB BO DG DY AP BT BA ED AW BE AV FN GF FA CM GR GQ BD EG IT GD GJ EC EA AU FY FM BC BF CA BG GT CE IB FR NF IE LQ Gs PJ XO XV ZW QL YB; simp only [CC, eq_self, implies_true, forall_const, DW]
  simp [h1, h0, nilI, nilP]) _
def C_Stops : Ctr := { α := Cht, xs := λ c => [.d (aK c)], val := λ c => .tup [.d (IN (Hh c).q), .int (Hh c).e], keep := λ _ => [], pre := λ c => [(c.ms.length < 4611686018427387904 /\ c.ns.length < 4611686018427387904) /\ (BS c = 0 -> c.ns.length <= 14)] }
def ADC : Ann := ann 15 [(AFS, C_few.spec dC1)]
def AVU (c : Cht) : Prop := CR Try.prog ADC AMH (AL AMH) [.d (aK c)] (AE []) (C_Stops.val c) [] [] []
abbrev Wa:=Hh
abbrev Nx a:=Wa (DG a)
attribute [go_sem] Wa Nx
theorem BEW (c : Cht) : (AVU c) = (BH (QL c c (λ i=>BC i c (BG c i) (BD c i) (AP c i) (AZ c i) (AO c i) (BE c i) (AM c i)) (XV c c) (CV (EV (LQ c)) (CW (FN c) 14))) (CQ (gQ (Wa c)) (gQ (Nx c))) (EO (gQ (Wa c)) (gQ (Nx c))) (AS (gW (Wa c)) (gW (Nx c)))) := by kernel_rfl
theorem AQD : AR Try.prog ACS (C_Stops.spec dC1) := Bl C_Stops (λ _ => ADC) [] [] BIQ (λ _ => by kernel_rfl) (λ _ => AC BFQ AI) (λ (c : Cht) h => by
 show AVU c; rw [BEW]<;> delta CI CH FE EE FH CL AF CV DC AS CW JT HP GG IQ IV IX JU GZ GM HK LC FV ET VO gQ gW Wa AH DD EL EW GS AK BN BQ CF AJ HR GI BJ AN AM BV AZ CD BR JD BL AO DZ EI DV DI CB GN AT BB BO DG DY AP BT BA ED AW BE LZ AV FN GF FA CM GR GQ BD FL BH EG IT GD GJ EC EA CQ FY FM OC BC IL BF CA BG NQ GT QD EV JL CE IB EO FR NF LQ Nx Gs XV ZW QL; simp only [CC, eq_self, implies_true, forall_const, DW]; exact h) (λ _ => Ec rfl rfl) _
def C_Pairs : Ctr := { α := Cht, xs := λ c => [.d (aK c)], val := λ c => .tup [.d (Zo (Hh c).r), .int (Hh c).e], keep := λ _ => [], pre := λ c => [(c.ms.length < 4611686018427387904 /\ c.ns.length < 4611686018427387904) /\ (BS c = 0 -> c.ns.length <= 14)] }
def AXS (c : Cht) : Prop := CR Try.prog ADC ANW (AL ANW) [.d (aK c)] (AE []) (C_Pairs.val c) [] [] []
abbrev C2 a:=xH (Nx a)
attribute [go_sem] C2
theorem BIB (c : Cht) : (AXS c) = (WO (QL c c (λ i=>BC i c (BG c i) (BD c i) (AP c i) (AZ c i) (AO c i) (BE c i) (AM c i)) (XV c c) (CV (EV (LQ c)) (CW (FN c) 14))) (CL (SM (xH (Wa c))) (SM (C2 c))) (λ i=>EA i (SM (xH (Wa c))) (VU (xH (Wa c)) i) (VU (C2 c) i) (VR (xH (Wa c)) i) (VR (C2 c) i)) (AS (gW (Wa c)) (gW (Nx c)))) := by kernel_rfl
theorem BCX : AR Try.prog ALL (C_Pairs.spec dC1) := Bl C_Pairs (λ _ => ADC) [] [] BEK (λ _ => by kernel_rfl) (λ _ => AC BFQ AI) (λ (c : Cht) h => by
 show AXS c; rw [BIB]<;> delta CI CH FE EE FH CL AF CV DC AS CW JT HP GG IQ IV IX JU GZ GM HK LC VO SM Sa xH gW Wa AH DD EL EW GS AK BN BQ CF AJ HR GI BJ AN AM BV AZ CD BR JD BL AO DZ EI DV DI CB GN AT BB BO DG DY AP BT BA ED AW BE AV FN GF FA CM GR GQ BD BH EG IT GD GJ EC EA FY FM BC BF CA BG GT VR EV VU CE IB FR NF LQ Nx Gs C2 XV ZW QL WO; simp only [CC, eq_self, implies_true, forall_const, DW]; exact h) (λ _ => Ec rfl rfl) _
end Go.Bal
