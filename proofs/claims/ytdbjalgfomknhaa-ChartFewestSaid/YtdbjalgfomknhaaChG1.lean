/- Package chart: the order of notes, fewer than 13. Turned from RatR. -/
import Derived.Test.YtdbjalgfomknhaaChD3
set_option linter.unusedVariables false
set_option linter.unusedSimpArgs false
namespace Go.Bal
open Go Go.Sym Go.Proofs
def BXX (x : Int) : Prop := DN Try.prog (ann 6 []) BNO (AP BNO) (xI1 x) (AH []) (.bool false) [] [] []
theorem CCC (x : Int) : (BXX x) = (MF Sw (WW x x)) := by kernel_rfl
def BMF := pD dI1 λ _ => .bool false
theorem CDP : AR Try.prog BIG BMF := dS xI1 hI1 λ g _ => Su (A := ann 6 []) (ren := []) (fz := []) CDX (by kernel_rfl) AL (by
 show BXX g; rw [CCC]<;> delta MF Sw WW; simp)
def cmpM (a b : Int) : Int := bif decide (a < b) then -1 else bif decide (a > b) then 1 else 0
def BZF (x : I2) : Prop := DN Try.prog (ann 20 [(BIG, BMF)]) BLV (AP BLV) (xI2 x) (AH []) (.int (cmpM x.a x.b)) [] [] []
theorem CDR (x : I2) : (BZF x) = (LV (Jw x) (Ef x) (AU (cmpM (Jw x) (Ef x)) (-1)) (FX (Sb (Jw x) (Ef x)) (AU (cmpM (Jw x) (Ef x)) 1) (DK (cmpM (Jw x) (Ef x))))) := by kernel_rfl
def BVU := pD dI2 λ x => .int (cmpM x.a x.b)
theorem CEM : AR Try.prog BNR BVU := dS xI2 hI2 λ g _ => Su (A := ann 20 [(BIG, BMF)]) (ren := []) (fz := []) CBS (by kernel_rfl) (AC CDP AL) (by
 show BZF g; rw [CDR]<;> delta AU FX WN Sb Jw Ef LV DK; unfold cmpM; by_cases h : g.a < g.b <;> by_cases h2 : g.b < g.a <;> simp [h, h2])
structure GAB where
 g : Cht
 a : Int
 b : Int
def cH (c : Cht) (x : Int) : Int := (gD c.ns x.toNat).mi
def bxG (c : Cht) : AObj := chB c
def dGAB : List AVal -> Heap -> Option (GAB × List (Nat × Nat) × List Nat)
 | [.d x, .d y, .bptr id _], H => match bO H id with
  | some q => some (⟨q, JQ x, JQ y⟩, [(100, id)], [])
  | none => none
 | _, _ => none
def C_fw1 : Ctr := { ro := [100], α := GAB, xs := λ a => [.int a.a, .int a.b, .bptr 100 0], L := λ a => [(100, bxG a.g)], val := λ a => .int (cmpM (cH a.g a.a) (cH a.g a.b)), keep := λ a => [(100, .live (bxG a.g))], pre := λ a => [(0 <= a.a /\ a.a < a.g.ns.length) /\ 0 <= a.b /\ a.b < a.g.ns.length] }
def CHU : Ann := { ann 19 [(BNR, BVU)] with E := [100] }
def CFP (a : GAB) : Prop := DN Try.prog CHU BNH (AP BNH) (C_fw1.xs a) (AH (C_fw1.L a)) (C_fw1.val a) (C_fw1.keep a) [] []
abbrev AWS:=GAB.g
abbrev Vz:=cH
abbrev aB a b:=CR a (JW b)
attribute [go_sem] AWS Vz aB
theorem CJN (a : GAB) : (CFP a) = (AI (WE (GAB.a a) (BB (AWS a)) (DI (GAB.b a)) (GAB.b a)) (AU (cmpM (Vz (AWS a) (GAB.a a)) (Vz (AWS a) (GAB.b a))) (cmpM (aB (AWS a) (GAB.a a)) (aB (AWS a) (GAB.b a)))) (NW (AWS a))) := by kernel_rfl
def rowI (l : List Int) : AObj := .row 1 l.length λ i => TZ (gD l i)
def COI (n : Nat) (l : List Int) : AObj := .row 1 n λ i => TZ (gD l i)
def swL (l : List Int) (j : Nat) : List Int := (l.set j (gD l (j + 1))).set (j + 1) (gD l j)
def insJ (key : Int -> Int) : Nat -> List Int -> List Int
 | 0, l => l
 | j + 1, l => bif decide (cmpM (key (gD l (j + 1))) (key (gD l j)) < 0) then insJ key j (swL l j) else l
def stR (key : Int -> Int) : Nat -> Nat -> List Int -> List Int
 | 0, _, l => l
 | n + 1, i, l => stR key n (i + 1) (insJ key i l)
def stM (key : Int -> Int) (l : List Int) : List Int := stR key (l.length - 1) 1 l
structure GL where
 g : Cht
 l : List Int
 a : Int
 b : Int
structure IL2 where
 i : Nat
 l : List Int
 deriving Inhabited
structure IJL where
 i : Nat
 j : Nat
 l : List Int
 deriving Inhabited
def fnW1 : AVal := .fn (.func Td) [] [.bptr 101 0]
def glK (a : GL) (l : List Int) : List (Nat × HCell) := [(100, .live (COI a.l.length l)), (101, .live (bxG a.g))]
def glIn (a : GL) (l : List Int) : Prop := l.length = a.l.length /\ ∀ i, i < a.l.length -> 0 <= gD l i /\ gD l i < a.g.ns.length
def glOk (a : GL) : Prop := a.l.length < 1073741824 /\ ∀ i, i < a.l.length -> 0 <= gD a.l i /\ gD a.l i < a.g.ns.length
def dGL : List AVal -> Heap -> Option (GL × List (Nat × Nat) × List Nat)
 | [.own id _ _ n, .d x, .d y, .fn (.func f) [] [.bptr c _]], H => if f = Td then match H id, bO H c with
  | .live (.row _ m r), some q => some (⟨q, HX n λ i => JQ (r i), JQ x, JQ y⟩, [(100, id), (101, c)], [])
  | _, _ => none else none
 | _, _ => none
def C_ins : Ctr := { ro := [101], α := GL, xs := λ a => [.own 100 1 0 a.l.length, .int a.a, .int a.b, fnW1], L := λ a => [(100, rowI a.l), (101, bxG a.g)], val := λ _ => .d (.tup []), keep := λ a => glK a (stM (cH a.g) a.l), pre := λ a => [(a.a = 0 /\ a.b = a.l.length) /\ glOk a] }
def ins1 (a : GL) : Shape := { α := IL2, dflt := default, T := λ x => ⟨[(0, .own 100 1 0 a.l.length), (1, .int 0), (2, .int a.l.length), (3, fnW1), (8, .int x.i)], glK a x.l⟩, inv := λ x => 1 <= x.i /\ (x.i <= a.l.length ∨ x.i = 1) /\ glIn a x.l /\ stM (cH a.g) a.l = stR (cH a.g) (a.l.length - x.i) x.i x.l, meas := λ x => a.l.length - x.i }
def ins4 (a : GL) (m : Nat) : Shape := { α := IJL, dflt := default, T := λ x => ⟨[(0, .own 100 1 0 a.l.length), (1, .int 0), (2, .int a.l.length), (3, fnW1), (8, .int x.i), (9, .int x.j)], glK a x.l⟩, inv := λ x => a.l.length - x.i = m /\ 1 <= x.i /\ x.i < a.l.length /\ x.j <= x.i /\ glIn a x.l /\ stM (cH a.g) a.l = stR (cH a.g) (a.l.length - (x.i + 1)) (x.i + 1) (insJ (cH a.g) x.j x.l), meas := λ x => x.j }
def CHV (a : GL) : Ann := { ann 53 [(Td, C_fw1.spec dGAB)] with E := [100, 101], loops := λ id => if id = 1 then some [ins1 a] else none, inner := λ gs id => if id = 4 then some [ins4 a (gs.getD 0 0)] else none }
def CFG (a : GL) : Prop := DN Try.prog (CHV a) BAV (AP BAV) [.own 100 1 0 a.l.length, .int 0, .int a.l.length, fnW1] (AH (C_ins.L a)) (C_ins.val a) (C_ins.keep a) [] []
abbrev Ec:=GL.l
abbrev XK:=IL2.i
abbrev Zm:=IL2.l
abbrev KL:=GL.g
abbrev aW:=@Eq (List Int)
abbrev Kx:=IJL.i
abbrev aY:=IJL.j
abbrev dX:=IJL.l
abbrev Tq a:=NW (KL a)
abbrev Ma a:=Vz (KL a)
abbrev Oz a b:=stM (Ma a) (Ec b)
abbrev KA a:=DX (Ec a)
abbrev Un a:=BV (KA a)
abbrev UH a b c d:=CD a b (DI c) (FR c d)
abbrev ADG a:=BB (KL a)
abbrev Ka a b:=EM a (Ec b)
abbrev Zq a:=GA (KA a)
abbrev Y5 a:=MP (Kx a)
abbrev Pd a b:=DE (dX a) b
abbrev WY a b c:=mJ (NR a b) a c
abbrev Ai a b c d:=VD a (BH b) c d
abbrev AKH a:=dJ (TT a)
abbrev bI a:=BW (aY a)
abbrev bR a:=AKH (bI a)
abbrev zA a:=BH (aY a)
abbrev PZ a b:=KR a (BW b)
abbrev X1 a:=Sb (bI a) 0
abbrev lA a:=AW (KL a)
abbrev lQ a:=BD (KL a)
abbrev jM a:=BE (KL a)
abbrev jE a:=AZ (KL a)
abbrev kG a:=BA (KL a)
abbrev AKM a b:=AM (DE a b)
attribute [go_sem] Ec XK Zm KL aW Kx aY dX Tq Ma Oz KA Un UH ADG Ka Zq Y5 Pd WY Ai AKH bI bR zA PZ X1 lA lQ jM jE kG AKM
theorem CIE (a : GL) : (CFG a) = (And ((@Exists IL2) (λ i=>AN (BQ AJ (Un a) BM (AN (Zq a) (KR (XK i) Kd) (Un a) (AK (λ j=>NG j (Ec a) (Zm i) j (Ec a) j)) (Tq a))) (SJ (XK i)) (Or (GM (XK i) (KA a)) (MW (XK i))) (UW (Ka (Zm i) a) (λ j=>UH j (KA a) (DE (Zm i) j) (ADG a))) (aW (Oz a a) (stR (Ma a) (NR (KA a) (XK i)) (XK i) (Zm i))))) ((λ (f : IL2 -> Prop) => ∀ (x : IL2), f x) (λ i=>CU (BQ (SJ (XK i)) (Or (GM (XK i) (KA a)) (MW (XK i))) (UW (Ka (Zm i) a) (λ j=>UH j (KA a) (DE (Zm i) j) (ADG a))) (aW (Oz a a) (stR (Ma a) (NR (KA a) (XK i)) (XK i) (Zm i)))) (XK i) (BW (KA a)) (And ((@Exists IJL) (λ j=>CM (A1 AJ (Un a) BM (Zq a) (PZ (Kx j) (XK i)) (PZ (aY j) (XK i)) (AK (λ k=>NG k (Ec a) (dX j) k (Zm i) k)) (Tq a)) (WY (KA a) (Kx j) (XK i)) (SJ (Kx j)) (DD (Kx j) (KA a)) (GM (aY j) (Kx j)) (UW (Ka (dX j) a) (λ k=>UH k (KA a) (Pd j k) (ADG a))) (aW (Oz a a) (stR (Ma a) (NR (KA a) (Y5 j)) (Y5 j) (insJ (Ma a) (aY j) (dX j)))))) ((λ (f : IJL -> Prop) => ∀ (x : IJL), f x) (λ j=>CA (CE (WY (KA a) (Kx j) (XK i)) (SJ (Kx j)) (DD (Kx j) (KA a)) (GM (aY j) (Kx j)) (UW (Ka (dX j) a) (λ k=>UH k (KA a) (Pd j k) (ADG a))) (aW (Oz a a) (stR (Ma a) (NR (KA a) (Y5 j)) (Y5 j) (insJ (Ma a) (aY j) (dX j))))) (JL (AN (Cw (X1 j) (bI j) (KA a)) (KQ (X1 j) (NT (zA j) (KA a))) (Cw (X1 j) (TT (bI j)) (KA a)) (KQ (X1 j) (NT (bR j) (KA a))) (KQ (X1 j) (CM (AKM (dX j) (zA j)) (AKM (dX j) (bR j)) (kG a) (jE a) (jM a) (lQ a) (DG (lA a) (BR (KL a)) (CW (KL a)) (DF (KL a)) (λ k=>BP k (KL a)) (kG a) (jE a) (jM a) (AO (lQ a) (lA a) (DA (KL a)) (HO (KL a)) (DB (KL a)) (UP (KL a)) (HB (Pd j (zA j)) (EJ (KL a))) (DI (Pd j (bR j))) (FR (Pd j (bR j)) (EJ (KL a)))))))) (II (X1 j) (WN (cmpM (Vz (CV (KL a)) (Pd j (zA j))) (Vz (CV (KL a)) (Pd j (bR j)))) 0)) (EW (TT (bI j)) (KA a) (AI (DD (bR j) (KA a)) (HB (bI j) (KA a)) (dN (DD (zA j) (KA a)) (HB (bI j) (KA a)) (HB (TT (bI j)) (KA a)) (NT (bR j) (KA a))))) ((@Exists IJL) (λ k=>IE (A1 AJ (Un a) BM (Zq a) (PZ (Kx k) (Kx j)) (KR (aY k) (TT (bI j))) (AK (λ l=>QC l (Ec a) (dX k) l (VD l (bR j) (Pd j (zA j)) (Ai l (aY j) (Pd j (bR j)) (Pd j l))))) (Tq a)) (CE (WY (KA a) (Kx k) (XK i)) (SJ (Kx k)) (DD (Kx k) (KA a)) (GM (aY k) (Kx k)) (UW (Ka (dX k) a) (λ l=>UH l (KA a) (Pd k l) (ADG a))) (aW (Oz a a) (stR (Ma a) (NR (KA a) (Y5 k)) (Y5 k) (insJ (Ma a) (aY k) (dX k))))) (aY k) (aY j))) ((@Exists IL2) (λ k=>DC (BQ AJ (Un a) BM (AN (Zq a) (BT (XK k) (Kx j)) (Un a) (AK (λ l=>NG l (Ec a) (Zm k) l (dX j) l)) (Tq a))) (BQ (SJ (XK k)) (Or (GM (XK k) (KA a)) (MW (XK k))) (UW (Ka (Zm k) a) (λ l=>UH l (KA a) (DE (Zm k) l) (ADG a))) (aW (Oz a a) (stR (Ma a) (NR (KA a) (XK k)) (XK k) (Zm k)))) (KA a) (XK k) (XK i))))))) (JO (Un a) (λ j=>NG j (Ec a) (Oz a a) j (Zm i) j) (Tq a))))) := by kernel_rfl
def BXG : List AVal -> Option Int
 | [.d (.v (.int .u64 a))] => some a
 | _ => none
def BKI (a : Int) : List AVal := [.d (.v (.int .u64 a))]
def BOP (x : Int) : Prop := DN Try.prog (ann 25 []) AZG (AP AZG) (BKI x) (AH []) .any [] [] []
abbrev tK a b:=TP IntKind.u8 (jG a b)
attribute [go_sem] tK
theorem BTO (x : Int) : (BOP x) = (FX (hd6 x 4294967296) (KD 32 (Uj 32) (FX (hd6 (Gp x) 65536) (KD 16 (Uj 16) (ZT (hd6 (AUW (Gp x) 16) 256) (LB 8 (Uj 8)) (HB (tK (jG (jG x 32) 16) 8) 256) FO (EW (tK (jG x 32) 16) 256 FO))) (ZT (hd6 (Gp x) 256) (LB 8 (Uj 8)) (HB (tK (jG x 32) 8) 256) FO (EW (tK x 32) 256 FO)))) (FX (hd6 x 65536) (KD 16 (Uj 16) (ZT (hd6 (AUW x 16) 256) (LB 8 (Uj 8)) (HB (tK (jG x 16) 8) 256) FO (EW (tK x 16) 256 FO))) (ZT (hd6 x 256) (LB 8 (Uj 8)) (HB (tK x 8) 256) FO (EW (TP IntKind.u8 x) 256 FO)))) := by kernel_rfl
def BEL := pD BXG (λ _ => .any) (λ x => [0 <= x /\ x <= 20])
def CFK (x : Int) : Prop := DN Try.prog (ann 8 [(ANF, BEL)]) BNT (AP BNT) (BKI x) (AH []) .any [] [] []
theorem CJE (x : Int) : (CFK x) = (KD x (KZ x 20) FO) := by kernel_rfl
def dGLp : List AVal -> Heap -> Option (GL × List (Nat × Nat) × List Nat)
 | [.own id _ _ n, .d x, .d y, _, .fn (.func f) [] [.bptr c _]], H => if f = Td then match H id, bO H c with
  | .live (.row _ m r), some q => some (⟨q, HX n λ i => JQ (r i), JQ x, JQ y⟩, [(100, id), (101, c)], [])
  | _, _ => none else none
 | _, _ => none
def C_pdq : Ctr := { ro := [101], α := GL, xs := λ a => [.own 100 1 0 a.l.length, .int a.a, .int a.b, .any, fnW1], L := λ a => [(100, rowI a.l), (101, bxG a.g)], val := λ _ => .d (.tup []), keep := λ a => glK a (stM (cH a.g) a.l), pre := λ a => [((a.a = 0 /\ a.b = a.l.length) /\ a.l.length <= 12) /\ glOk a] }
def pq2 (a : GL) : Shape := { α := One, dflt := default, T := λ _ => ⟨[(0, .own 100 1 0 a.l.length), (1, .int 0), (2, .int a.l.length), (3, .any), (4, fnW1), (10, .bool true), (11, .bool true)], glK a a.l⟩, inv := λ _ => True, meas := λ _ => 0 }
def CFD (a : GL) : Ann := { ann 148 [(AQB, C_ins.spec dGL)] with E := [100, 101], loops := λ id => if id = 2 then some [pq2 a] else none }
def CHN (a : GL) : Prop := DN Try.prog (CFD a) BKU (AP BKU) [.own 100 1 0 a.l.length, .int 0, .int a.l.length, .any, fnW1] (AH (C_pdq.L a)) (C_pdq.val a) (C_pdq.keep a) [] []
abbrev Ad a:=UZ a a
abbrev Ff a:=Ad (Ec a)
abbrev kY a:=DX (Ff a)
abbrev RH a:=DD a 1073741824
abbrev cS a b c d e f g h:=AO a b c d e e f g h
attribute [go_sem] Ad Ff kY RH cS
theorem CKK (a : GL) : (CHN a) = (And (Aq (cS AJ (Un a) BM (Zq a) GP (Un a) (AK (λ i=>TK i (Ec a) (DE (Ec a) i))) (Tq a))) (UO (FX (hd7 (KY (BW (KA a)) 0) 12) (BQ (AI AJ (Ka (Ff a) a) (AO Xt (Zq a) (Ka (Ff a) a) (GB (Ff a) (Ec a)) (kG a) (jE a) (jM a) (lQ a) (DG (lA a) (BR (KL a)) (CW (KL a)) (DF (KL a)) (λ i=>BP i (KL a)) (kG a) (jE a) (jM a) (AO (lQ a) (lA a) (DA (KL a)) (HO (KL a)) (DB (KL a)) (UP (KL a)) (And Xt (PZ (KA a) (kY a))) (RH (kY a)) (AK (λ i=>UH i (kY a) (DE (Ff a) i) (EJ (KL a)))))))) (EM (Ec a) (Ff a)) (AK (λ i=>NG i (Ec a) (Oz a a) i (stM (Vz (CV (KL a))) (Ff a)) i)) (Tq a)) JY))) := by kernel_rfl
def dGLt : List AVal -> Heap -> Option (GL × List (Nat × Nat) × List Nat)
 | [.own id _ _ n, .fn (.func f) [] [.bptr c _]], H => if f = Td then match H id, bO H c with
  | .live (.row _ m r), some q => some (⟨q, HX n λ i => JQ (r i), 0, 0⟩, [(100, id), (101, c)], [])
  | _, _ => none else none
 | _, _ => none
def C_sort : Ctr := { ro := [101], α := GL, xs := λ a => [.own 100 1 0 a.l.length, fnW1], L := λ a => [(100, rowI a.l), (101, bxG a.g)], val := λ _ => .d (.tup []), keep := λ a => glK a (stM (cH a.g) a.l), pre := λ a => [a.l.length <= 12 /\ glOk a] }
def BUF : Ann := { ann 14 [(BFB, BEL), (BDQ, C_pdq.spec dGLp)] with E := [100, 101] }
def BTK (a : GL) : Prop := DN Try.prog BUF APA (AP APA) (C_sort.xs a) (AH (C_sort.L a)) (C_sort.val a) (C_sort.keep a) [] []
abbrev ZQ a:=GM a 12
attribute [go_sem] ZQ
theorem CEG (a : GL) : (BTK a) = (BQ (KD (Ku (BW (KA a))) (KZ (Ku (BW (KA a))) 20) (AI AJ (Ka (Ff a) a) (AO Xt (Zq a) (Ka (Ff a) a) (GB (Ff a) (Ec a)) (kG a) (jE a) (jM a) (lQ a) (DG (lA a) (BR (KL a)) (CW (KL a)) (DF (KL a)) (λ i=>BP i (KL a)) (kG a) (jE a) (jM a) (AO (lQ a) (lA a) (DA (KL a)) (HO (KL a)) (DB (KL a)) (UP (KL a)) (BZ Xt (PZ (KA a) (kY a)) (ZQ (kY a))) (RH (kY a)) (AK (λ i=>UH i (kY a) (DE (Ff a) i) (EJ (KL a))))))))) (EM (Ec a) (Ff a)) (AK (λ i=>NG i (Ec a) (Oz a a) i (stM (Vz (CV (KL a))) (Ff a)) i)) (Tq a)) := by kernel_rfl
theorem CIV : AR Try.prog Td (C_fw1.spec dGAB) := Jp C_fw1 (λ _ => CHU) [] [] CEI (λ _ => by kernel_rfl) (λ _ => AC CEM AL) (λ (a : GAB) h => by
 show CFP a; rw [CJN]<;> delta BU CO FM FQ FP CL AK CA DD AU BW KZ KB IV HC HA HZ ID IA JD GN FW FY JW AWS Vz AI BG DV AN BO BK CG BJ BB BY AO AM BL BV CS CD CJ CX DM AZ CR DH BA AW HD DQ HY BD FS FU BE FR DI MN KP EO LB KU GO KM WV MK HB EL MX NF BS NO QG QK JJ TH aB NW Br WE; simp only [CC, eq_self, implies_true, forall_const]
 exact ⟨h, rfl⟩) (λ _ => Mi rfl rfl) _
theorem BPB {l : List Int} {j i : Nat} {x : Int} (hj : j < l.length) : gD (l.set j x) i = bif decide (i = j) then x else gD l i := by
 unfold gD
 rw [List.getD_eq_getElem?_getD, List.getD_eq_getElem?_getD, List.getElem?_set]
 by_cases h : i = j
 ·subst h; simp [hj]
 ·simp [h, Ne.symm h]
theorem BBJ {l : List Int} {j i : Nat} (hj : j + 1 < l.length) : gD (swL l j) i = bif decide (i = j) then gD l (j + 1) else bif decide (i = j + 1) then gD l j else gD l i := by
 unfold swL
 rw [BPB (by simpa using hj), BPB (by omega)]
 by_cases h : i = j
 ·subst h; simp
 ·simp [h]
theorem BCD (l : List Int) (j : Nat) : (swL l j).length = l.length := by simp [swL]
theorem CNV (a : GL) (h : glOk a) : CFG a := by
 rw [CIE]<;> delta MF Sw BU CO FM TP WF Ua FQ FP CL AK CA DD AU BW Aj GM FX WN KZ KB XF NR IV HC HA HZ ID IA JD GN FW FY PB Sb JW ZA MG YE DX DE Vy Vz Ec XK Zm KL aW Kx aY dX AI BG DV EN GF AN BO BK CG BJ BB BY AO AM HS FZ BL BV dN A1 CS GS CD IW CJ CX DM AZ IY CR CY DP MP EU CV DH BA AW HD DQ GJ GG EA LU EI HY DG BD FS EJ FU KR GU BE EH ER AJ EY FR BH EM DI BZ IE mJ HM MN GC HI KP EF DU EO GI KY FH LB GR JG HR GX WY KU PP GO PZ FI FT JU QC IR KM TT GD JH BQ OT BT NG dJ WV VD LV SJ KA MK LR HB BR DC DF IL IP IS IM JZ EL CH MX OC NF RC NM CM OF KD BM CE DB DA BS CW NO KQ CU QG JO EW JK QK BP MB EX II GA FV HN AKM AKH TH NW CQ MW bI Ma Kd UW NT HO JL Pd UH Ai UP Ka bR Un Tq Oz Cw Zq zA lQ jM Y5 X1 kG lA ADG jE; simp only [CC, eq_self, implies_true, forall_const]
 obtain ⟨hlen, hin⟩ := h
 refine ⟨⟨⟨1, a.l⟩, ⟨by show (1 : Int) = _; rw [PE (by omega) (by omega)]; rfl, λ _ _ => rfl⟩, Nat.one_pos, .inr rfl, ⟨rfl, hin⟩, rfl⟩, λ x ⟨x1, x2, ⟨x3, x4⟩, x5⟩ => ⟨λ hlt => ⟨⟨⟨x.i, x.i, x.l⟩, ⟨rfl, rfl, λ _ _ => rfl⟩, rfl, x1, Int.ofNat_lt.1 hlt, Nat.le_refl _, ⟨x3, x4⟩, ?_⟩, λ y ⟨y1, y2, y3, y4, ⟨y5, y6⟩, y7⟩ => ?_⟩, λ hge => ?_⟩⟩
 ·rw [x5, show a.l.length - x.i = (a.l.length - (x.i + 1)) + 1 by omega]; rfl
 ·refine ⟨⟨λ _ => ⟨by omega, by omega⟩, λ _ => by omega, λ hj => ?_, λ hj => ?_, λ hj => ⟨y6 _ (by omega), ?_⟩⟩, λ hc => ?_, λ hc => ?_⟩
  ·rw [PE (by omega) (by omega)]; omega
  ·rw [PE (by omega) (by omega)]; omega
  ·rw [PE (by omega) (by omega)]; exact y6 _ (by omega)
  ·have hj : 0 < y.j := by
    cases hd : decide ((y.j : Int) > 0) with
    | false => rw [hd] at hc; cases hc
    | true => have := of_decide_eq_true hd; omega
   obtain ⟨j, hj2⟩ : ∃ j, y.j = j + 1 := ⟨y.j - 1, by omega⟩
   have e : IntKind.i64.wrap ((y.j : Int) - 1) = (j : Nat) := by rw [PE (by omega) (by omega)]; omega
   rw [decide_eq_true (show (y.j : Int) > 0 by omega)] at hc
   have hc : decide (cmpM (cH a.g (gD y.l y.j)) (cH a.g (gD y.l (IntKind.i64.wrap ((y.j : Int) - 1)).toNat)) < 0) = true := hc
   rw [e] at hc ⊢
   simp only [Int.toNat_natCast] at hc ⊢
   refine ⟨⟨⟨by omega, by omega⟩, by omega, ⟨by omega, by omega⟩, by omega, ⟨by omega, by omega⟩, by omega, ⟨by omega, by omega⟩, by omega⟩, ⟨y.i, j, swL y.l j⟩, ⟨rfl, rfl, λ i hi => ?_⟩, ⟨y1, y2, y3, by show j <= y.i; omega, ⟨by rw [BCD]; exact y5, λ i hi => ?_⟩, ?_⟩, by show j < _; omega⟩
   ·show gD (swL y.l j) i = _
    rw [BBJ (by omega), hj2]
   ·show 0 <= gD (swL y.l j) i /\ gD (swL y.l j) i < _
    rw [BBJ (by omega)]
    cases decide (i = j)
    ·cases decide (i = j + 1)
     ·exact y6 i hi
     ·exact y6 j (by omega)
    ·exact y6 (j + 1) (by omega)
   ·rw [hj2] at hc y7
    unfold insJ at y7
    rw [hc] at y7; exact y7
  ·have hq : insJ (cH a.g) y.j y.l = y.l := by
    cases hd : decide ((y.j : Int) > 0) with
    | false =>
     have := of_decide_eq_false hd
     rw [show y.j = 0 by omega]; rfl
    | true =>
     have hj := of_decide_eq_true hd
     obtain ⟨j, hj2⟩ : ∃ j, y.j = j + 1 := ⟨y.j - 1, by omega⟩
     have e : IntKind.i64.wrap ((y.j : Int) - 1) = (j : Nat) := by rw [PE (by omega) (by omega)]; omega
     rw [hd] at hc
     have hc : decide (cmpM (cH a.g (gD y.l y.j)) (cH a.g (gD y.l (IntKind.i64.wrap ((y.j : Int) - 1)).toNat)) < 0) = false := hc
     rw [e, hj2] at hc
     simp only [Int.toNat_natCast] at hc
     rw [hj2]; unfold insJ; rw [hc]; rfl
   rw [hq] at y7
   refine ⟨⟨y.i + 1, y.l⟩, ⟨(HH (by omega)).symm, λ _ _ => rfl⟩, ⟨by show 0 < y.i + 1; omega, .inl (by show y.i + 1 <= _; omega), ⟨y5, y6⟩, y7⟩, by show a.l.length - (y.i + 1) < _; omega⟩
 ·intro i hi
  rw [x5, show a.l.length - x.i = 0 by omega]; rfl
theorem CKP : AR Try.prog AQB (C_ins.spec dGL) := okT C_ins (λ (a : GL) h => by
 obtain ⟨⟨ha, hb⟩, h⟩ : (a.a = 0 /\ a.b = a.l.length) /\ glOk a := h
 show FnT Try.prog AQB [.own 100 1 0 a.l.length, .int a.a, .int a.b, fnW1] _ _ _
 rw [ha, hb]
 exact Su (A := CHV a) (L := C_ins.L a) (keep := C_ins.keep a) (ren := []) (fz := []) BPD (by kernel_rfl) (AC CIV AL) (CNV a h)) _
theorem CFF (xs : List AVal) (a : Int) (h : BXG xs = some a) : xs = BKI a := by
 unfold BXG at h; split at h <;> cases h; rfl
theorem CMU (n : Int) : 0 <= IntKind.u8.wrap n /\ IntKind.u8.wrap n < ((256 : Nat) : Int) := by
 have e : IntKind.u8.wrap n = n % 256 := by
  simp only [IntKind.wrap, IntKind.bits, IntKind.signed]
  simp
 rw [e]; exact ⟨Int.emod_nonneg _ (by omega), Int.emod_lt_of_pos _ (by omega)⟩
theorem BVG : AR Try.prog ANF BEL := dS BKI CFF λ x h => Su (A := ann 25 []) (ren := []) (fz := []) BSU (by kernel_rfl) AL (by
 have h : 0 <= x /\ x <= 20 := h
 show BOP x; rw [BTO]<;> delta hd6 TP BW FX KZ KB FO JW BCZ AI FR DI BZ LB HB KD EW jG Cg AUW Gp Uj ZT tK; simp only [CC, eq_self, implies_true, forall_const]
 exact ⟨λ h => by omega, λ _ => ⟨λ h => by omega, λ _ => ⟨λ h => by omega, λ _ => CMU _⟩⟩⟩)
theorem CAS : AR Try.prog BFB BEL := dS BKI CFF λ x h => Su (A := ann 8 [(ANF, BEL)]) (ren := []) (fz := []) CCP (by kernel_rfl) (AC BVG AL) (by
 show CFK x; rw [CJE]<;> delta KZ FO DI BZ KD; exact ⟨h, trivial⟩)
theorem CJA : AR Try.prog BDQ (C_pdq.spec dGLp) := okT C_pdq (λ (a : GL) h => by
 obtain ⟨⟨⟨ha, hb⟩, hl⟩, h⟩ : ((a.a = 0 /\ a.b = a.l.length) /\ a.l.length <= 12) /\ glOk a := h
 show FnT Try.prog BDQ [.own 100 1 0 a.l.length, .int a.a, .int a.b, .any, fnW1] _ _ _
 rw [ha, hb]
 refine Su (A := CFD a) (L := C_pdq.L a) (keep := C_pdq.keep a) (ren := []) (fz := []) BUD (by kernel_rfl) (AC CKP AL) ?_
 show CHN a
 rw [CKK]<;> delta MF hd7 BU CO FM TP WF Ua FQ FP CL AK CA DD AU BW Aj FX KZ KB IV HC HA HZ ID IA JD GN FW FY FO PB JY DX DE NJ WZ Mz Vz Ec KL AI BG DV EN GF AN BO XE BK CG BJ BB BY AO AM HS FZ BL BV ED cS UZ CS GS CD IW CJ CX DM AZ IY CR CY DP EU Ad CV DH BA AW HD DQ GJ EA LU EI HY DG BD FS EJ FU KR GU BE EH ER AJ FR EM DI HM MN GC HI KP EF EO GI KY FH GR JG HR KU PP GO PZ FI FT JU QC IR KM GD JH BQ NG WV KA MK LR BR DF IL IP IS IM JZ PL QX EL CH MX OC NF RC NM BM DB DA BS CW NO QG TK JK QK BP MB GP GA FV HN GB TH LM NW CQ Ff Ma Fk HO Ho UH UO RH UP Ka Un Aq Tq Oz Zq kY sD lQ Xt jM kG lA jE; simp only [CC, eq_self, implies_true, forall_const]
 have e : IntKind.i64.wrap ((a.l.length : Int) - 0) = a.l.length := by rw [PE (by omega) (by omega)]; omega
 rw [e]
 exact ⟨⟨default, trivial⟩, λ _ => ⟨rfl, rfl, h⟩, λ hc => by omega⟩) _
theorem BQM : AR Try.prog AOI (C_sort.spec dGLt) := Jp C_sort (λ _ => BUF) [] [] BJB (λ _ => by kernel_rfl) (λ _ => AC CAS (AC CJA AL)) (λ (a : GL) h => by
 obtain ⟨hl, h⟩ : a.l.length <= 12 /\ glOk a := h
 show BTK a; rw [CEG]<;> delta BU CO FM TP FQ FP CL AK CA DD AU BW Aj GM KZ KB IV HC HA HZ ID IA JD GN FW FY DX DE NJ Vz Ec KL AI BG DV EN GF AN BO XE BK CG BJ BB BY AO AM HS FZ BL BV UZ CS GS CD IW CJ CX DM AZ CR CY DP EU Ad CV DH BA AW HD DQ GJ EA LU EI HY DG BD FS EJ FU KR GU BE EH ER AJ FR EM DI BZ HM MN GC HI KP EF EO GI FH GR JG HR KU PP GO PZ FI FT JU QC IR KM GD JH BQ NG WV KA MK LR BR DF IL IP IS IM JZ PL QX EL CH MX OC NF RC KD DB DA BS CW NO QG JK QK BP MB GA FV HN GB TH LM NW CQ Ff Ma HO Ku UH ZQ RH UP Ka Tq Oz Zq kY sD lQ Xt jM kG lA jE; simp only [CC, eq_self, implies_true, forall_const]
 have e : IntKind.u64.wrap (a.l.length : Int) = a.l.length := u64w (by omega) (by omega)
 rw [e]
 exact ⟨by omega, rfl, ⟨rfl, hl⟩, h⟩) (λ _ => Mi rfl rfl) _
end Go.Bal
