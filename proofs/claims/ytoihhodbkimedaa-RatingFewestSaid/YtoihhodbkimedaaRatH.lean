/- Package rating: the least and the greatest flow at a stage. -/
import Derived.Test.YtoihhodbkimedaaRatG
set_option linter.unusedVariables false
set_option linter.unusedSimpArgs false
namespace Go.Bal
open Go Go.Sym Go.Proofs
def rE (p q : Rt) : Int := Lh (wr (p.n * q.d)) (wr (q.n * p.d))
def AXL := pD dR2 λ x => .bool (decide (rE x.lo x.hi < 0))
def AVT := pD dR2 λ x => .bool (decide (rE x.lo x.hi > 0))
def A_lm : Ann := ann 9 [(vK, AHC)]
def BHC (a : Bnd) : Prop := CH Try.prog A_lm AYB (AI AYB) (xR2 a) (AD []) (.bool (decide (rE a.lo a.hi < 0))) [] [] []
theorem BUD (a : Bnd) : (BHC a) = (KY (KN (rE (bJ a) (bN a)) 0) (KN (Jd (Ed (GW a) (GX a)) (Ed (HB a) (GY a))) 0)) := by kernel_rfl
def BID (a : Bnd) : Prop := CH Try.prog A_lm AXP (AI AXP) (xR2 a) (AD []) (.bool (decide (rE a.lo a.hi > 0))) [] [] []
theorem BMV (a : Bnd) : (BID a) = (KY (Cz (rE (bJ a) (bN a))) (Cz (Jd (Ed (GW a) (GX a)) (Ed (HB a) (GY a))))) := by kernel_rfl
theorem BPC : AL Try.prog ZH AXL := Cq xR2 hR2 λ g _ => Lg (A := A_lm) (ren := []) (fz := []) BSB (by kernel_rfl) (AB kX AF) (by
 show BHC g; rw [BUD]<;> delta KY KN Jd SL RN Tg bJ bN GX GW GY HB Ed; rfl)
theorem BMO : AL Try.prog ZM AVT := Cq xR2 hR2 λ g _ => Lg (A := A_lm) (ren := []) (fz := []) BUA (by kernel_rfl) (AB kX AF) (by
 show BID g; rw [BMV]<;> delta KY Jd ZR SL RN Tg bJ bN GX GW GY HB Cz Ed; rfl)
def BZX : AVal := .agg [.fn (.func ZH) [] []]
def CBE : AVal := .agg [.fn (.func ZM) [] []]
def d0 : List AVal -> Heap -> Option (One × List (Nat × Nat) × List Nat)
 | [], _ => some (default, [], [])
 | _, _ => none
def C_less : Ctr := { α := One, xs := λ _ => [], L := λ _ => [], val := λ _ => BZX, keep := λ _ => [] }
def C_more : Ctr := { α := One, xs := λ _ => [], L := λ _ => [], val := λ _ => CBE, keep := λ _ => [] }
def BNB (_x : One) : Prop := CH Try.prog (ann 2 []) BCT (AI BCT) [] (AD []) BZX [] [] []
theorem BXZ (_x : One) : (BNB _x) = (EF) := by kernel_rfl
def BSY (_x : One) : Prop := CH Try.prog (ann 2 []) BDQ (AI BDQ) [] (AD []) CBE [] [] []
theorem BWN (_x : One) : (BSY _x) = (EF) := by kernel_rfl
def dAL : List AVal -> Option LnI
 | [.d (.iface 74 (.agg [.v (.int .i64 a), .v (.int .i64 b), .v (.int .i64 c), .v (.int .i64 d)])), .d (.v (.int .i64 s))] => some ⟨⟨a, b, c, d⟩, s⟩
 | _ => none
def xAL (a : LnI) : List AVal := [.d (.iface 74 (eLn a.x)), .int a.s]
def BEQ := pD dAL (λ a => .d (eRt (JP a.x a.s))) (λ a => [NJ a.x, 0 <= a.s /\ a.s <= 2000])
def BTK (a : LnI) : Prop := CH Try.prog (ann 8 [(ALQ, AWA)]) AXY (AI AXY) (xAL a) (AD []) (.d (eRt (JP a.x a.s))) [] [] []
abbrev bG a:=AK (RN a)
abbrev dG a:=AK (SL a)
attribute [go_sem] bG dG
theorem BYE (a : LnI) : (BTK a) = (AE (AE (NP (Xe a)) (CA (bH a)) (JN (bH a))) (dG (JP (Xe a) (bH a))) (bG (JP (Xe a) (bH a)))) := by kernel_rfl
theorem BWP : AL Try.prog BDR (C_less.spec d0) := Ih C_less (λ _ => ann 2 []) [] [] BVJ (λ _ => by kernel_rfl) (λ _ => AF) (λ (x : One) _ => by
 show BNB x; rw [BXZ]<;> delta EF; trivial) (λ _ => Jf rfl rfl) _
theorem BWT : AL Try.prog BFC (C_more.spec d0) := Ih C_more (λ _ => ann 2 []) [] [] BVO (λ _ => by kernel_rfl) (λ _ => AF) (λ (x : One) _ => by
 show BSY x; rw [BWN]<;> delta EF; trivial) (λ _ => Jf rfl rfl) _
theorem hAL (xs : List AVal) (a : LnI) (h : dAL xs = some a) : xs = xAL a := by
 unfold dAL at h; split at h <;> cases h; rfl
theorem AWO : AL Try.prog AKV BEQ := Cq xAL hAL λ a h => Lg (A := ann 8 [(ALQ, AWA)]) (ren := []) (fz := []) BQU (by kernel_rfl) (AB BMG AF) (by
 show BTK a; rw [BYE]<;> delta KZ KR LU MC AO DW DT SL RN Xe bH AE AJ AK CA IG LI JN bG dG NP; exact ⟨⟨h.1, h.2⟩, rfl, rfl⟩)
def Ey (lt : Rt -> Rt -> Bool) (t : Int) (b x : Ln) : Ln := bif lt (JP x t) (JP b t) then x else b
def iQ (lt : Rt -> Rt -> Bool) (t : Int) (l : List Ln) (i : Nat) : Ln := (l.take i).foldl (Ey lt t) (gD l 0)
def Yi (lt : Rt -> Rt -> Bool) (t : Int) (l : List Ln) : Ln := l.foldl (Ey lt t) (gD l 0)
def xH (p q : Rt) : Bool := decide (rE p q < 0)
def xV (p q : Rt) : Bool := decide (rE p q > 0)
structure BkT where
 w : Bk
 st : Int
def kB (a : BkT) : Int := Tl a.w.b a.st
def lB (a : BkT) : List Ln := UD (Jq a.w (kB a)) a.st
def dBkT (n : FuncId) : List AVal -> Heap -> Option (BkT × List (Nat × Nat) × List Nat)
 | [.bptr id _, .d t, .agg [.fn (.func g) [] []]], H => if g = n then match ATV H id with
  | some (w, q) => some (⟨w, JD t⟩, [(100, id), (101, q)], [])
  | none => none else none
 | _, _ => none
def bvL (x : Ln) (b : Bool) : AVal := .tup [.d (eLn x), .bool b]
def be6 (lt : Rt -> Rt -> Bool) (n : FuncId) (a : BkT) : Shape := { α := Nat, dflt := 0, T := λ i => ⟨[(1, .int a.st), (5, .bptr 1000 0), (6, .bptr 1016 0), (9, .bptr 5048 0), (29, .d (wY (lB a))), (30, .int (lB a).length), (31, .int i)], bkK (WB a.w (kB a)) ++ [(1000, .live (.box [.fn (.func n) [] []])), (1016, zLn), (5048, .live (.box [.int (iQ lt a.st (lB a) i).a0, .int (iQ lt a.st (lB a) i).a1, .int (iQ lt a.st (lB a) i).b0, .int (iQ lt a.st (lB a) i).b1]))]⟩, inv := λ i => i <= (lB a).length, meas := λ i => (lB a).length - i }
def Jg (lt : Rt -> Rt -> Bool) (n : FuncId) : Ctr := { ro := [100], α := BkT, xs := λ a => [.bptr 100 0, .int a.st, .agg [.fn (.func n) [] []]], L := λ a => bkL a.w, val := λ a => bvL (bif decide ((lB a).length = 0) then default else Yi lt a.st (lB a)) (decide ((lB a).length ≠ 0)), keep := λ a => bkK (WB a.w (kB a)), pre := λ a => [XS a.w.g a.w.b /\ 0 <= a.st /\ a.st <= 2000] }
def AXC (lt : Rt -> Rt -> Bool) (n : FuncId) (f : Sym.Spec) (a : BkT) : Ann := { ann 49 [(AXD, C_part.spec dIX), (Y0, C_lns.spec dBkS), (AKV, BEQ), (n, f)] with E := [100, 101], loops := λ id => if id = 6 then some [be6 lt n a] else none }
def BKH (a : BkT) : Prop := CH Try.prog (AXC xH ZH AXL a) APK (AI APK) ((Jg xH ZH).xs a) (AD ((Jg xH ZH).L a)) ((Jg xH ZH).val a) ((Jg xH ZH).keep a) [] []
abbrev Lz:=@List.Mem Int
abbrev GQ:=BkT.w
abbrev VR:=BkT.st
abbrev qY a b:=WB a (kB b)
abbrev BZ a:=qY (GQ a) a
abbrev Ei a b c:=BF (BZ a) b c
abbrev kJ a:=HL (BZ a)
abbrev pC a:=UP (BZ a)
abbrev Km a b:=Dg a (RQ b)
abbrev cQ a:=NV (BZ a)
abbrev pF a:=BO (cQ a)
abbrev Lv a:=RR (BZ a)
abbrev mP a:=CB (Lv a)
abbrev mU a:=AS (Lv a)
abbrev rU a:=(λ (x0 x1 : Nat) => decide (x0 ≠ x1)) a 0
abbrev PK a:=GE (lB a)
abbrev dU a:=rU (PK a)
abbrev AML a b c:=iQ a (VR b) (lB b) c
abbrev PX a b:=AML xH a b
abbrev ADY a b c d:=(@cond Ln) (Is a 0) (@default Ln instInhabitedLn) (Yi b (VR c) d)
abbrev XG a b c d:=ADY (PK a) b c (lB d)
abbrev Yb a b:=Il a (PK b)
abbrev Ep a b c d:=AJ a b c b d
abbrev ABX a b c:=Ep a b b c
abbrev qU a b c d:=NT a b c (Vs d) (Fv d) (Zw d)
abbrev Zt a b c:=qU a b (Ur c) c
abbrev UI a b:=MO (lB a) b
abbrev Dh a:=AK (VR a)
abbrev Ui a b:=JP a (VR b)
abbrev Wh a:=JN (VR a)
abbrev U9 a b c d:=UD (sB (BkS.mk a b c)) d
abbrev AGX a b c:=U9 a b c c
abbrev US a:=NV (GQ a)
abbrev XQ a:=Uu (US a) (GQ a)
abbrev AQC a:=BK (Tl (XQ a) (VR a))
abbrev Wy a b c d e:=Bk.mk a (Uu b c) (Ii d) (Bw e)
abbrev WI a:=AU (RR a)
abbrev Lw a:=WI (GQ a)
abbrev WG a:=Wy (Lw a) (US a) (GQ a) (GQ a) (GQ a)
abbrev To a:=AGX (WG a) (AQC a) (VR a)
abbrev ACZ a b:=MO (To a) b
abbrev LJ:=GF 0
abbrev Vz a:=ACZ a LJ
abbrev BS a b c (d:Nat->Prop):=EP (Lj a b (Ek c b)) d
abbrev BT a b c d e f g h:=Ls a b c d e f (AO g h)
abbrev GD a:=WB (WG a) (AQC a)
abbrev BU a b c d:=AO (Kp a b c) (Kp d b c)
abbrev BX a b c d:=AO (Lb a b c) (Lb d b c)
abbrev BV a b c d:=AO (Jo a b c) (Jo d b c)
abbrev HN a b:=AR (λ i=>AO (Bw a i) (Bw b i))
abbrev NL a b c d:=KY (Ii a b) (Ii c d)
abbrev IQ a b:=RB a (RQ b)
abbrev bS a:=RR (GQ a)
abbrev Jw a b:=BE a (bS b)
abbrev Kd a b:=AW a (bS b)
abbrev bR a:=DW a a
abbrev YP:=bR 0
abbrev Oi a:=And YP a
abbrev WW a:=Oi (Jm a)
abbrev Jt a:=BK (GE a)
abbrev MH a b c d e f g h p:=AQ a b c d e f g (CA h) p
abbrev QF a b c:=CG a (And b c)
abbrev XF a:=DW 1 a
abbrev SG a b c:=QF (Lz a b) (XF a) c
abbrev Ef a:=DB a 24
abbrev Fc a b c d e f g:=CG a (LI b c d e f g)
abbrev MD a:=XV (λ i=>Fc (XJ i a) (LA i) (LO i) (MS i) (MU i) (FK i) 200000)
abbrev IP a b (c:Int->Int->Prop):=AJ (Ef (DM a)) (MD a) (Ef (CX b)) (Cr c b) (AR (λ i=>SG i b (JN i)))
abbrev EV a b:=BE a (RR b)
abbrev EY a b:=AW a (RR b)
abbrev MA a b:=CE a (RQ b)
attribute [go_sem] Lz GQ VR qY BZ Ei kJ pC Km cQ pF Lv mP mU rU PK dU AML PX ADY XG Yb Ep ABX qU Zt UI Dh Ui Wh U9 AGX US XQ AQC Wy WI Lw WG To ACZ LJ Vz BS BT GD BU BX BV HN NL IQ bS Jw Kd bR YP Oi WW Jt MH QF XF SG Ef Fc MD IP EV EY MA
theorem BNF (a : BkT) : (BKH a) = (BC (AJ (BB (XQ a) (US a)) (MA (XQ a) (GQ a)) (Dh a) (And (KM (XQ a)) (Cr DT (XQ a))) (AQ (AK (AQC a)) (Dh a) (Kd (Lw a) a) (Jw (Lw a) a) (BB (XQ a) (US a)) (MA (XQ a) (GQ a)) DO (UP (GQ a)) (MH (HL (GQ a)) (AR (λ i=>BS (WG a) i (GQ a) (λ j=>BT j (WG a) i (BV (WG a) i j (GQ a)) (BX (WG a) i j (GQ a)) (BU (WG a) i j (GQ a)) (BF (WG a) i j) (BF (GQ a) i j)))) (EY (bS a) (GD a)) (EV (bS a) (GD a)) (AT (US a) (NV (GD a))) (YT (US a) (GQ a) (RQ (GD a))) (IP (Lw a) (XQ a) DT) (VR a) (Wh a)))) (MJ (Jt (To a))) (AJ (CD (KZ (XG a xH a a))) (CD (KR (XG a xH a a))) (CD (LU (XG a xH a a))) (CD (MC (XG a xH a a))) (MW (ME (dU a)) (Kd (Lv a) a) (Jw (Lv a) a) (UG (BZ a) (US a)) (IQ (BZ a) (GQ a)) (AR (λ i=>NL (BZ a) i (GD a) i)) (HN (BZ a) (GD a)) (λ i=>BS (BZ a) i (GD a) (λ j=>BT j (BZ a) i (BV (BZ a) i j (GD a)) (BX (BZ a) i j (GD a)) (BU (BZ a) i j (GD a)) (Ei a i j) (BF (GD a) i j))))) (UH (WW (Jt (To a))) (SA (λ i=>And (HX (Dh a) (AT (PK a) (GE (To a))) (λ j=>IZ j (PK a) (UI a j) (ACZ a j)) (EA (PK a) (GE (To a))) (OW (CN i) (Kd (Lv a) a) (Jw (Lv a) a) (UG (BZ a) (US a)) (IQ (BZ a) (GQ a)) (AR (λ j=>NL (BZ a) j (GD a) j)) (HN (BZ a) (GD a)) (ABX (AR (λ j=>BS (BZ a) j (GD a) (λ k=>BT k (BZ a) j (BV (BZ a) j k (GD a)) (BX (BZ a) j k (GD a)) (BU (BZ a) j k (GD a)) (Ei a j k) (BF (GD a) j k)))) BA (AJ BA (SK (PX a i) (Vz a)) (SI (PX a i) (Vz a)) (SF (PX a i) (Vz a)) (RU (PX a i) (Vz a)))))) (Yb i a))) (λ i=>DH (Yb i a) i (BK (PK a)) (AE (RX i (PK a)) (LI (NP (UI a i)) (IG (VR a) (Wh a)) (NP (PX a i)) (CA (VR a)) (VR a) 2000) (IF (rE (Ui (UI a i) a) (Ui (PX a i) a)) 0 (SA (λ j=>QU (HX (Dh a) (BO (PK a)) (λ k=>Zt k (PK a) (UI a k)) (FI (PK a)) (OW (BJ j i) (mU a) (mP a) (pF a) (Km (cQ a) (BZ a)) (pC a) (kJ a) (ABX (AR (λ k=>SH (BZ a) k (λ l=>SD l (BZ a) k (SP (BZ a) k l) (Ei a k l)))) BA (AJ BA (SK (PX a j) (UI a i)) (SI (PX a j) (UI a i)) (SF (PX a j) (UI a i)) (RU (PX a j) (UI a i)))))) (Yb j a) (PK a) j i)) (SA (λ j=>QU (HX (Dh a) (BO (PK a)) (λ k=>Zt k (PK a) (UI a k)) (FI (PK a)) (OW (BJ j i) (mU a) (mP a) (pF a) (Km (cQ a) (BZ a)) (pC a) (kJ a) (ABX (AR (λ k=>SH (BZ a) k (λ l=>SD l (BZ a) k (SP (BZ a) k l) (Ei a k l)))) BA (AJ BA (SK (PX a j) (PX a i)) (SI (PX a j) (PX a i)) (SF (PX a j) (PX a i)) (RU (PX a j) (PX a i)))))) (Yb j a) (PK a) j i)))) (AJ (SK (XG a xH a a) (PX a i)) (SI (XG a xH a a) (PX a i)) (SF (XG a xH a a) (PX a i)) (RU (XG a xH a a) (PX a i)) (MW (LW (dU a)) (mU a) (mP a) (pF a) (Km (cQ a) (BZ a)) (pC a) (kJ a) (λ j=>SH (BZ a) j (λ k=>SD k (BZ a) j (SP (BZ a) j k) (Ei a j k)))))))) := by kernel_rfl
def BIX (a : BkT) : Prop := CH Try.prog (AXC xV ZM AVT a) APK (AI APK) ((Jg xV ZM).xs a) (AD ((Jg xV ZM).L a)) ((Jg xV ZM).val a) ((Jg xV ZM).keep a) [] []
abbrev PY a b:=AML xV a b
attribute [go_sem] PY
theorem BNC (a : BkT) : (BIX a) = (BC (AJ (BB (XQ a) (US a)) (MA (XQ a) (GQ a)) (Dh a) (And (KM (XQ a)) (Cr DT (XQ a))) (AQ (AK (AQC a)) (Dh a) (Kd (Lw a) a) (Jw (Lw a) a) (BB (XQ a) (US a)) (MA (XQ a) (GQ a)) DO (UP (GQ a)) (MH (HL (GQ a)) (AR (λ i=>BS (WG a) i (GQ a) (λ j=>BT j (WG a) i (BV (WG a) i j (GQ a)) (BX (WG a) i j (GQ a)) (BU (WG a) i j (GQ a)) (BF (WG a) i j) (BF (GQ a) i j)))) (EY (bS a) (GD a)) (EV (bS a) (GD a)) (AT (US a) (NV (GD a))) (YT (US a) (GQ a) (RQ (GD a))) (IP (Lw a) (XQ a) DT) (VR a) (Wh a)))) (MJ (Jt (To a))) (AJ (CD (KZ (XG a xV a a))) (CD (KR (XG a xV a a))) (CD (LU (XG a xV a a))) (CD (MC (XG a xV a a))) (MW (ME (dU a)) (Kd (Lv a) a) (Jw (Lv a) a) (UG (BZ a) (US a)) (IQ (BZ a) (GQ a)) (AR (λ i=>NL (BZ a) i (GD a) i)) (HN (BZ a) (GD a)) (λ i=>BS (BZ a) i (GD a) (λ j=>BT j (BZ a) i (BV (BZ a) i j (GD a)) (BX (BZ a) i j (GD a)) (BU (BZ a) i j (GD a)) (Ei a i j) (BF (GD a) i j))))) (UH (WW (Jt (To a))) (SA (λ i=>And (HX (Dh a) (AT (PK a) (GE (To a))) (λ j=>IZ j (PK a) (UI a j) (ACZ a j)) (EA (PK a) (GE (To a))) (OW (CN i) (Kd (Lv a) a) (Jw (Lv a) a) (UG (BZ a) (US a)) (IQ (BZ a) (GQ a)) (AR (λ j=>NL (BZ a) j (GD a) j)) (HN (BZ a) (GD a)) (ABX (AR (λ j=>BS (BZ a) j (GD a) (λ k=>BT k (BZ a) j (BV (BZ a) j k (GD a)) (BX (BZ a) j k (GD a)) (BU (BZ a) j k (GD a)) (Ei a j k) (BF (GD a) j k)))) BA (AJ BA (SK (PY a i) (Vz a)) (SI (PY a i) (Vz a)) (SF (PY a i) (Vz a)) (RU (PY a i) (Vz a)))))) (Yb i a))) (λ i=>DH (Yb i a) i (BK (PK a)) (HM (RX i (PK a)) (LI (NP (UI a i)) (IG (VR a) (Wh a)) (NP (PY a i)) (CA (VR a)) (VR a) 2000) (Cz (rE (Ui (UI a i) a) (Ui (PY a i) a))) (SA (λ j=>QU (HX (Dh a) (BO (PK a)) (λ k=>Zt k (PK a) (UI a k)) (FI (PK a)) (OW (BJ j i) (mU a) (mP a) (pF a) (Km (cQ a) (BZ a)) (pC a) (kJ a) (ABX (AR (λ k=>SH (BZ a) k (λ l=>SD l (BZ a) k (SP (BZ a) k l) (Ei a k l)))) BA (AJ BA (SK (PY a j) (UI a i)) (SI (PY a j) (UI a i)) (SF (PY a j) (UI a i)) (RU (PY a j) (UI a i)))))) (Yb j a) (PK a) j i)) (SA (λ j=>QU (HX (Dh a) (BO (PK a)) (λ k=>Zt k (PK a) (UI a k)) (FI (PK a)) (OW (BJ j i) (mU a) (mP a) (pF a) (Km (cQ a) (BZ a)) (pC a) (kJ a) (ABX (AR (λ k=>SH (BZ a) k (λ l=>SD l (BZ a) k (SP (BZ a) k l) (Ei a k l)))) BA (AJ BA (SK (PY a j) (PY a i)) (SI (PY a j) (PY a i)) (SF (PY a j) (PY a i)) (RU (PY a j) (PY a i)))))) (Yb j a) (PK a) j i))) (AJ (SK (XG a xV a a) (PY a i)) (SI (XG a xV a a) (PY a i)) (SF (XG a xV a a) (PY a i)) (RU (XG a xV a a) (PY a i)) (MW (LW (dU a)) (mU a) (mP a) (pF a) (Km (cQ a) (BZ a)) (pC a) (kJ a) (λ j=>SH (BZ a) j (λ k=>SD k (BZ a) j (SP (BZ a) j k) (Ei a j k)))))))) := by kernel_rfl
theorem pG {lt : Rt -> Rt -> Bool} {t : Int} {l : List Ln} {i : Nat} (h : i < l.length) : iQ lt t l (i + 1) = Ey lt t (iQ lt t l i) (gD l i) := by
 unfold iQ; rw [SQ h, List.foldl_append]; rfl
theorem AGZ {lt : Rt -> Rt -> Bool} {t : Int} {l : List Ln} : iQ lt t l l.length = Yi lt t l := by unfold iQ Yi; rw [List.take_length]
theorem BGQ {lt : Rt -> Rt -> Bool} {t : Int} : ∀ (l : List Ln) (b : Ln), (∀ x ∈ l, NJ x) -> NJ b -> NJ (l.foldl (Ey lt t) b)
 | [], _, _, hb => hb
 | x :: l, b, h, hb => by
  rw [List.foldl_cons]
  refine BGQ l _ (λ y hy => h y (by simp [hy])) ?_
  unfold Ey; cases lt (JP x t) (JP b t)
  ·exact hb
  ·exact h x (by simp)
theorem ANR {lt : Rt -> Rt -> Bool} {t : Int} {l : List Ln} {i : Nat} (h : ∀ x ∈ l, NJ x) (h0 : 0 < l.length) : NJ (iQ lt t l i) :=
 BGQ _ _ (λ x hx => h x (List.mem_of_mem_take hx)) (h _ (DU h0))
theorem BJS {s : List Gau} (h : ∀ g ∈ s, XH g) : ∀ x ∈ Lu s, NJ x := λ x hx => by
 unfold Lu at hx
 obtain ⟨p, hp, hx⟩ := List.mem_flatMap.1 hx
 unfold blk at hx
 rcases List.mem_cons.1 hx with rfl | hx
 ·exact dJ (cK h hp)
 ·exact cP.1 (List.mem_filter.1 hx).2
theorem BNR {s : List Gau} {t : Int} (h : ∀ g ∈ s, XH g) : ∀ x ∈ UD s t, NJ x := λ x hx => by
 rw [H7] at hx
 revert hx
 cases (bif decide ((s.length : Int) > 0) then ((QO s).length : Int) == 0 else false) with
 | true => intro hx; cases hx
 | false =>
  intro hx
  rcases List.mem_append.1 hx with hx | hx
  ·exact BJS h x (List.mem_filter.1 hx).1
  ·have := (List.mem_filter.1 hx).2
   unfold xG at this
   cases hr : jT x with
   | true => exact cP.1 hr
   | false => rw [hr] at this; cases this
theorem BNK {a : BkT} (h : XS a.w.g a.w.b) : (lB a).length <= 10098 /\ ∀ x ∈ lB a, NJ x := by
 obtain ⟨hs, hN, hg⟩ := BNZ (a := ⟨a.w, kB a, a.st⟩) h
 refine ⟨?_, BNR hg⟩
 show (UD (sB ⟨a.w, kB a, a.st⟩) a.st).length <= _
 have h1 := BJU hN
 have h2 := List.length_filter_le (xG (sB ⟨a.w, kB a, a.st⟩)) (KS (sB ⟨a.w, kB a, a.st⟩) a.st)
 have h3 := ACB (s := sB ⟨a.w, kB a, a.st⟩) (t := a.st)
 rw [H7]
 cases (bif decide (((sB ⟨a.w, kB a, a.st⟩).length : Int) > 0) then ((QO (sB ⟨a.w, kB a, a.st⟩)).length : Int) == 0 else false) with
 | true => exact Nat.zero_le _
 | false => rw [cond_false, List.length_append]; omega
theorem BWI (a : BkT) (h : XS a.w.g a.w.b) (h2 : 0 <= a.st /\ a.st <= 2000) : BKH a := by
 rw [BNF]<;> delta KY Dc GH HK FK KZ KR LU MC KN PN FA AO AT CX AG CG CM EM BK DB DW DT QP PD RO FM PQ YC TU DM GP SA XV XJ GF Cr Il Is RR RQ ZE AR Ii Bw GE MO Lz GQ VR KK AE KC AJ AP NV DR AU AK BO JQ ZD bR Ep ABX WI DK AX US Ib qY AQ AH Uu BH Lw CY Wy BN CL CZ CA DP FT GI BB ED IG Ek HI CQ EP DF MX FC NT DG EN AW BF LW CJ DE DN AS EO Kp EA ZI DY Lb CD LI Ls LJ JM BZ EU FE XQ TC DV WG HP FG Jo CE MK JN UQ QF PK JE bS IF Vs DO Fc Lv Lj FB HD UP Ur BE CB Zw AQC An XF UI BA BC LO MS AML Fv QY UF BS JC EZ LA Dg TW SI RU SF BJ Ef HL SK MU qU Hd ME DH SH SP BT FI UG EV GD SG BU BX BV YT EY ADY CN OW GA U9 RB AGX PX HX MD MW IQ To SD HN Jt MA YP Zt ACZ KM NL Km MJ Ns XG RX IP IZ cQ Jm Dh Td Oi Ei UH QU WW Jw Kd MH Yb Ui Vz rU NP Wh dU kJ mP pC mU pF; simp only [CC, eq_self, implies_true, forall_const, Ec, show Tl a.w.b a.st = kB a from rfl, show (BkS.mk a.w (kB a) a.st).w = a.w from rfl, show UD (sB (BkS.mk a.w (kB a) a.st)) a.st = lB a from rfl, if_true]
 obtain ⟨hl, hok⟩ := BNK h
 refine ⟨⟨⟨by have := h.2.2.1; omega, h.2.2.2.1⟩, rfl, λ _ _ => ⟨rfl, rfl, rfl⟩, rfl, λ _ _ => rfl, h, h2⟩, λ hc => ?_, λ hc => ?_⟩
 ·have hc : (lB a).length = 0 := by simpa using hc
  rw [decide_eq_true hc]
  exact ⟨rfl, rfl, rfl, rfl, by omega, rfl, λ _ _ => ⟨rfl, rfl, rfl⟩, rfl, λ _ _ => rfl⟩
 ·have hc : (lB a).length ≠ 0 := by simpa using hc
  have hb : ∀ i, NJ (iQ xH a.st (lB a) i) := λ i => ANR hok (by omega)
  refine ⟨⟨by omega, by omega⟩, ⟨0, ⟨rfl, rfl, λ _ _ => ⟨rfl, rfl, rfl⟩, rfl, λ _ _ => rfl, rfl, rfl, rfl, rfl⟩, Nat.zero_le _⟩, λ i hi => ⟨λ hlt => ?_, λ hge => ?_⟩⟩
  ·have hlt' : i < (lB a).length := Int.ofNat_lt.1 hlt
   refine ⟨⟨by omega, hlt⟩, ⟨hok _ (DU hlt'), h2, hb i, h2⟩, λ hp => ⟨i + 1, ⟨(EQ (by omega)).symm, ?_⟩, hlt', by omega⟩, λ hp => ⟨i + 1, ⟨(EQ (by omega)).symm, ?_⟩, hlt', by omega⟩⟩
   ·rw [pG hlt', Ey, show xH _ _ = true from decide_eq_true hp]; exact ⟨rfl, rfl, rfl, rfl⟩
   ·rw [pG hlt', Ey, show xH _ _ = false from decide_eq_false hp]; exact ⟨rfl, rfl, rfl, rfl⟩
  ·rw [decide_eq_false hc, show i = (lB a).length by omega, AGZ]
   exact ⟨rfl, rfl, rfl, rfl, hc⟩
theorem BMY : AL Try.prog AWY ((Jg xH ZH).spec (dBkT ZH)) := Ih (Jg xH ZH) (AXC xH ZH AXL) [] [] BIT (λ _ => by kernel_rfl) (λ _ => AB AXW (AB AEO (AB AWO (AB BPC AF)))) (λ (a : BkT) h => by
 have h : XS a.w.g a.w.b /\ 0 <= a.st /\ a.st <= 2000 := h
 exact BWI a h.1 h.2) (λ _ => Jf rfl rfl) _
theorem BYD (a : BkT) (h : XS a.w.g a.w.b) (h2 : 0 <= a.st /\ a.st <= 2000) : BIX a := by
 rw [BNC]<;> delta KY Dc GH HK FK KZ KR LU MC KN PN FA AO ZR AT CX AG CG CM EM BK DB DW DT QP PD RO FM PQ YC TU DM GP SA XV XJ GF Cr Il Is RR RQ ZE AR Ii Bw GE MO Lz GQ VR KK AE KC AJ AP NV DR AU AK BO JQ ZD bR Ep ABX WI DK AX US Ib qY AQ AH Uu BH Lw CY Wy BN CL CZ CA DP FT GI BB ED IG Ek HI CQ EP DF MX FC NT DG EN AW BF LW CJ DE DN AS EO Kp EA ZI DY Lb CD LI Ls LJ JM BZ EU FE XQ TC DV WG HP FG Jo CE MK JN UQ QF PK JE bS IF Vs DO Fc Lv Lj FB HD UP Ur BE CB Zw AQC An XF UI BA BC LO MS AML Fv QY UF BS JC EZ LA Dg TW SI RU SF BJ Ef HL SK MU qU Hd ME DH SH SP Cz BT FI UG EV GD SG BU BX BV YT EY ADY CN OW GA U9 PY RB AGX HX MD MW HM IQ To SD HN Jt MA YP Zt ACZ KM NL Km MJ Ns XG RX IP IZ cQ Jm Dh Td Oi Ei UH QU WW Jw Kd MH Yb Ui Vz rU NP Wh dU kJ mP pC mU pF; simp only [CC, eq_self, implies_true, forall_const, Ec, show Tl a.w.b a.st = kB a from rfl, show (BkS.mk a.w (kB a) a.st).w = a.w from rfl, show UD (sB (BkS.mk a.w (kB a) a.st)) a.st = lB a from rfl, if_true]
 obtain ⟨hl, hok⟩ := BNK h
 refine ⟨⟨⟨by have := h.2.2.1; omega, h.2.2.2.1⟩, rfl, λ _ _ => ⟨rfl, rfl, rfl⟩, rfl, λ _ _ => rfl, h, h2⟩, λ hc => ?_, λ hc => ?_⟩
 ·have hc : (lB a).length = 0 := by simpa using hc
  rw [decide_eq_true hc]
  exact ⟨rfl, rfl, rfl, rfl, by omega, rfl, λ _ _ => ⟨rfl, rfl, rfl⟩, rfl, λ _ _ => rfl⟩
 ·have hc : (lB a).length ≠ 0 := by simpa using hc
  have hb : ∀ i, NJ (iQ xV a.st (lB a) i) := λ i => ANR hok (by omega)
  refine ⟨⟨by omega, by omega⟩, ⟨0, ⟨rfl, rfl, λ _ _ => ⟨rfl, rfl, rfl⟩, rfl, λ _ _ => rfl, rfl, rfl, rfl, rfl⟩, Nat.zero_le _⟩, λ i hi => ⟨λ hlt => ?_, λ hge => ?_⟩⟩
  ·have hlt' : i < (lB a).length := Int.ofNat_lt.1 hlt
   refine ⟨⟨by omega, hlt⟩, ⟨hok _ (DU hlt'), h2, hb i, h2⟩, λ hp => ⟨i + 1, ⟨(EQ (by omega)).symm, ?_⟩, hlt', by omega⟩, λ hp => ⟨i + 1, ⟨(EQ (by omega)).symm, ?_⟩, hlt', by omega⟩⟩
   ·rw [pG hlt', Ey, show xV _ _ = true from decide_eq_true hp]; exact ⟨rfl, rfl, rfl, rfl⟩
   ·rw [pG hlt', Ey, show xV _ _ = false from decide_eq_false hp]; exact ⟨rfl, rfl, rfl, rfl⟩
  ·rw [decide_eq_false hc, show i = (lB a).length by omega, AGZ]
   exact ⟨rfl, rfl, rfl, rfl, hc⟩
theorem BPX : AL Try.prog AWY ((Jg xV ZM).spec (dBkT ZM)) := Ih (Jg xV ZM) (AXC xV ZM AVT) [] [] BIT (λ _ => by kernel_rfl) (λ _ => AB AXW (AB AEO (AB AWO (AB BMO AF)))) (λ (a : BkT) h => by
 have h : XS a.w.g a.w.b /\ 0 <= a.st /\ a.st <= 2000 := h
 exact BYD a h.1 h.2) (λ _ => Jf rfl rfl) _
end Go.Bal
