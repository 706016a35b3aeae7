/- Package chart, with the reference: Stages, lists of stops, gaps, notes. -/
import Derived.Test.YtdbjalgfomknhaaGreatChZa
import Derived.Test.YtdbjalgfomknhaaGreatChT6
set_option linter.unusedVariables false
set_option linter.unusedSimpArgs false
namespace Go.Bal
open Go Go.Sym Go.Proofs
def zg6n (c : Cht) : Shape := { α := One, dflt := default, T := λ _ => ⟨[(1, .bptr 201 0), (5, .d Rv), (6, .int 0)], [(201, .live (oI c))]⟩, inv := λ _ => AU c = 0, meas := λ _ => 50, first := [(201, 1000)] }
def zg6o (c : Cht) : Shape := { α := Nat, dflt := 0, T := λ k => ⟨[(1, .bptr 201 0), (5, .own 202 2 0 k), (6, .int k)], [(201, .live (oI c)), (202, .live (.row 2 k λ i => FX (QF c (i : Int))))]⟩, inv := λ k => (AU c = 0 /\ 1 <= k /\ k <= c.ms.length) /\ ∀ i : Nat, i < k -> Fa (QF c i) = true, meas := λ k => 40 - k, again := [(202, 12048)] }
def ADD (c : Cht) : Ann := { ann 33 [(tP, C_Check.spec oQ), (Sm, C_zst.spec dCtI)] with mt := λ id => id == 11, loops := λ id => if id = 6 then some [zg6n c, zg6o c] else none }
def ADA (c : Cht) : Prop := CL Try.prog (ADD c) E6 (AH E6) (C_Stages.xs c) (AB []) (.tup [.d (DA (UY c).1), .int (UY c).2]) [] [] [202]
abbrev vE:=@Prod.fst (List Span) Int
abbrev G6:=@Prod.snd (List Span) Int
abbrev fB a:=G6 (UY a)
abbrev Yn a:=vE (UY a)
attribute [go_sem] vE G6 fB Yn
theorem ANZ (c : Cht) : (ADA c) = (QQ (NE c (BM c) (λ i=>AZ i c) (BK c) (λ i=>BJ i c) (Fs c) (Cn c)) (VY c) (Qo (Yn c) (fB c) (VY c)) (IF (Wz (λ i=>ND AI GV AJ (FO c) (RT c))) (Kr (λ i=>HX (RT c) (IP 0 (NF c)) (AN (AM c) (AL c) (AP c) (JA c (BM c) (SE c) (BK c) (λ j=>BJ j c) (AQ 0 MF) (Jh (EN c)) (Po c))) (DX (Su (BA (Bz (EH c) 0)) (Bz (EH c) 0)) (Qo (Yn c) (fB c) 6) (And (AG Do VZ Cd Ay Ja) (GW (λ j=>JP (WA (NN j) (FL j Jj) (AM c) (AL c) (RF c (NN j) (AC (λ k=>JZ k j (Dq c k) (BA (Bz (EH c) 0)) (QE c k) (Bz (EH c) 0))))) (MU (UA (RT c) (TR j) j (AW c)) (λ k=>BE k j (DI (Fa (QE c k))))) 40 j 50)))) (Yc (Yn c) (JF (fB c))))) (λ i=>HX (MU (UA (RT c) (TR i) i (AW c)) (λ j=>BE j i (DI (Fa (QE c j))))) (IS i (NF c)) (AN (AM c) (AL c) (AP c) (JA c (BM c) (SE c) (BK c) (λ j=>BJ j c) (BW i) (DG i (EN c)) (Po c))) (DX (Su (Dq (EH c) i) (QE (EH c) i)) (Qo (Yn c) (fB c) 6) (And (PA (Jo i i) VZ ZF (Cr i) (Jt i)) (GW (λ j=>DU (WA (VH j i) (BH j i) (AM c) (AL c) (RF c (VH j i) (AC (λ k=>KH k j (Dq c k) (OU k i (Dq c k) (Dq (EH c) i)) (QE c k) (OU k i (BI (QE c k)) (BI (QE (EH c) i))))))) (MU (UA (RT c) (TR j) j (AW c)) (λ k=>BE k j (DI (Fa (QE c k))))) 40 j i)))) (VL (LO (Yn c) i) (NP i) (λ j=>UG j (Yn c) j (Dq c (BB j)) (QE c (BB j))) (JF (fB c)))))) := by kernel_rfl
theorem AOI {c : Cht} (h : AU c ≠ 0) : UY c = ([], AU c) := by
 unfold UY; rw [show (AU c == 0) = false by simpa using h]; rfl
theorem gO {c : Cht} (h : AU c = 0) : UY c = bif Hf c then (WG c, 0) else ([], 6) := by
 unfold UY; rw [h]; rfl
theorem AKV {c : Cht} (h : AU c = 0) {i : Nat} (hi : i < c.ms.length) (hl : (QF c i).lo > (QF c i).hi) : UY c = ([], 6) := by
 rw [gO h]
 cases hq : Hf c with
 | false => rfl
 | true =>
  have := tN.1 hq i (by rw [show (WG c).length = c.ms.length from rng_length _ _]; exact hi)
  rw [Ey hi] at this; omega
theorem ASP (c : Cht) (h : c.ms.length < 4611686018427387904 /\ c.ns.length < 4611686018427387904) : ADA c := by
 rw [ANZ]<;> delta KY Aq BA BI FW OH PR EX FI CE CU AC BX CM AQ LU BU WF DH DX IP HD LS PG JV ER GP GA HQ HT HC HR DS GB ED GW LG IX As QT TU YY Bz Wz Kr vE G6 AE BG AW EO GJ GI AG GM BF BE CK AR CN BD AF JJ CG BC EZ Tz YT AO CQ GT BS CV JL CY BO HK CR DD AL KA CF AM AT DM DR DZ GF GG BB DW RB AS DJ EG FC AP EY FG FS EN DC DB CS HW FV GR FZ JD DF FK RY KB LQ FU EM EH FE ET DE CJ GQ AN LP FY FJ EV EJ DI MF JS FL JE HY JH AI LV JG BH HL JQ JF KV JP DV JZ HJ DG BK IT EB KF NF LM LX CW OX LO QI IS MU TR HX DU BM EP FQ QN AZ CH AJ SS QE OC PC BW RT FP GN HF MB UA HE FO GO TE Ee XY SH JA NP Ga BJ XV GV OU SC ZF KH La NN WY IF Fe VY UN VH ND Hx ZZ RF Jh VZ Yc Cn Pt PA QQ Is Fs Ab Cd SE Ay Dq UG NE VL Cr Pc Do WA Jt Yn Ja Jj Qo Jo Su Po fB; simp only [CC, eq_self, implies_true, forall_const, DN]
 refine ⟨h, λ h1 => ?_, λ h1 => ?_⟩
 ·rw [AOI (by simpa using h1)]; exact ⟨rfl, rfl, rfl⟩
 have h0 : AU c = 0 := by simpa using h1
 obtain ⟨_, ⟨n1, n2⟩, n3⟩ := RA h0
 refine ⟨⟨default, h0⟩, λ _ => ⟨λ hlt => ⟨⟨rfl, by omega, h0⟩, λ hg => ?_, λ hg => ⟨⟨by omega, by omega, by omega, by omega, by omega⟩, 1, ⟨rfl, rfl, rfl, λ i hi => ?_⟩, ⟨⟨h0, by omega, by omega⟩, λ i hi => ?_⟩, by omega⟩⟩, λ hge => absurd hge (by omega)⟩, λ k ⟨⟨_, k1, k2⟩, k3⟩ => ⟨λ hlt => ⟨⟨by omega, h0⟩, λ hg => ?_, λ hg => ⟨⟨by omega, by omega, by omega, by omega⟩, k + 1, ⟨rfl, (FH (by omega)).symm, rfl, λ i hi => ?_⟩, ⟨⟨h0, by omega, by omega⟩, λ i hi => ?_⟩, by omega⟩⟩, λ hge => ?_⟩⟩
 ·rw [AKV (i := 0) h0 (by omega) hg]; exact ⟨rfl, rfl, rfl⟩
 ·obtain rfl : i = 0 := by omega
  exact ⟨rfl, rfl⟩
 ·obtain rfl : i = 0 := by omega
  unfold Fa; exact decide_eq_true (by show (QF c 0).lo <= (QF c 0).hi; omega)
 ·rw [AKV h0 (by omega) hg]; exact ⟨rfl, rfl, rfl⟩
 ·by_cases h : i < k
  ·simp [h]
  ·obtain rfl : i = k := by omega
   simp
 ·by_cases h : i < k
  ·exact k3 i h
  ·obtain rfl : i = k := by omega
   unfold Fa; exact decide_eq_true (by omega)
 ·obtain rfl : k = c.ms.length := by omega
  have hq : Hf c = true := tN.2 λ i hi => by
   have hi : i < c.ms.length := by rw [show (WG c).length = c.ms.length from rng_length _ _] at hi; exact hi
   rw [Ey hi]
   have := k3 i hi
   unfold Fa at this; exact of_decide_eq_true this
  rw [gO h0, hq]
  refine ⟨rng_length _ _, by omega, λ j hj => ?_, rfl⟩
  have hj : j < c.ms.length := by simpa [WG] using hj
  show (gD (WG c) j).lo = _ /\ (gD (WG c) j).hi = _
  rw [Ey hj]; exact ⟨rfl, rfl⟩
theorem ANI : AK Try.prog F2 (C_Stages.spec oQ) := XM C_Stages ADD [] [202] AMF (λ _ => by kernel_rfl) (λ _ => AA ACF (AA AHT AD)) ASP (λ _ => YR rfl rfl) _
def rK (z : List Int) : Nat -> Int
 | 0 => -1
 | k + 1 => gD z k
def zu2 (a : CZ) : Shape := { α := Nat, dflt := 0, T := λ k => ⟨[(1, .d (JO a.z)), (2, .bptr 201 0), (5, .int k)], [(201, .live (oI a.c))]⟩, inv := λ k => k <= a.z.length /\ (-1 <= rK a.z k /\ rK a.z k <= 40) /\ Ex a.c.ms.length (rK a.z k) (a.z.drop k) = okZ a, meas := λ k => a.z.length - k, first := [(201, 1000)] }
def C_zUnl : Ctr := { α := CZ, xs := xCZ, val := λ a => .bool (!okZ a), keep := λ _ => [], pre := λ a => [a.z.length < 4611686018427387904 /\ AU a.c = 0] }
def BBU (a : CZ) : Ann := { ann 37 [(S9, AGM)] with loops := λ id => if id = 2 then some [zu2 a] else none }
def BBY (a : CZ) : Prop := CL Try.prog (BBU a) ANY (AH ANY) (xCZ a) (AB []) (C_zUnl.val a) [] [] []
abbrev Vm a b:=rK (NM a) b
abbrev Tg a b c:=HW a b (MG c) (KC c) (KD c) (KE c) c
abbrev Rk a b c:=HY a b c a c a
abbrev Ui a b:=VG a (NM b) (VB b a)
abbrev Oz a:=AC (λ i=>Ui i a)
abbrev Xf a:=Bf (NM a)
attribute [go_sem] Vm Tg Rk Ui Oz Xf
theorem BFK (a : CZ) : (BBY a) = (DY (λ i=>AN (AN (Xf a) (Oz a) (BR i) (QN (FT a) (BC (NV a)) (λ j=>Rk j (NV a) (FT a)) (λ j=>Tg j (FT a) (SV a j)))) (Ba i (NM a)) (And (HD (-1) (Vm a i)) (Vi (Vm a i))) (KY (Ex (BU (NV a)) (Vm a i) (gZ i (NM a))) (okZ a))) (λ i=>CO (AE (Ba i (NM a)) (And (HD (-1) (Vm a i)) (Vi (Vm a i))) (KY (Ex (BU (NV a)) (Vm a i) (gZ i (NM a))) (okZ a))) i (BV (NM a)) (AE (XS i (NM a)) (HL (and (not (Bm (VB a i) (Mb (NV a) 2))) (OT i 0)) (XS i (NM a))) (UJ (and (not (Bm (VB a i) (Mb (NV a) 2))) (OT i 0)) (VW i) (BV (NM a)))) (PB (NC (Bm (VB a i) (Mb (NV a) 2)) (GH (OT i 0) (hd7 (VB a i) (VB a (HV (VW i)))))) (DI (not (okZ a))) (λ j=>DU (AN (Xf a) (Oz a) (BH j i) (QN (FT a) (BC (NV a)) (λ k=>Rk k (NV a) (FT a)) (λ k=>Tg k (FT a) (SV a k)))) (AE (Ba j (NM a)) (And (HD (-1) (Vm a j)) (Vi (Vm a j))) (KY (Ex (BU (NV a)) (Vm a j) (gZ j (NM a))) (okZ a))) (BV (NM a)) j i)) (EU (not (okZ a))))) := by kernel_rfl
theorem V7 {z : List Int} {m : Int} {k : Nat} (hk : k < 4611686018427387904) (hp : -1 <= rK z k /\ rK z k <= 40) {v : Bool} (h : (bif !TP (gD z k) 0 (IntKind.i64.wrap (m - 2)) then true else bif decide ((k : Int) > 0) then decide (gD z k <= gD z (IntKind.i64.wrap ((k : Int) - 1)).toNat) else false) = v) : TP (gD z k) (wr (rK z k + 1)) (wr (m - 2)) = !v := by
 have e1 : wr (rK z k + 1) = rK z k + 1 := Dh (by omega) (by omega)
 have e2 : (bif decide ((k : Int) > 0) then decide (gD z k <= gD z (IntKind.i64.wrap ((k : Int) - 1)).toNat) else false) = (decide ((k : Int) > 0) && decide (gD z k <= rK z k)) := by
  rcases k with _ | k
  ·rfl
  ·rw [show IntKind.i64.wrap (((k + 1 : Nat) : Int) - 1) = (k : Int) from by rw [Dh (by omega) (by omega)]; omega]
   rw [decide_eq_true (show ((k + 1 : Nat) : Int) > 0 by omega)]; rfl
 have e3 : (k : Int) > 0 ∨ rK z k = -1 := by
  rcases k with _ | k
  ·exact .inr rfl
  ·exact .inl (by omega)
 rw [e1, <- h, e2]
 show TP (gD z k) (rK z k + 1) (IntKind.i64.wrap (m - 2)) = _
 generalize IntKind.i64.wrap (m - 2) = w
 unfold TP
 generalize rK z k = p at hp e3
 generalize gD z k = g
 by_cases h1 : p + 1 <= g <;> by_cases h2 : g <= w <;> by_cases h3 : 0 <= g <;> by_cases h4 : (k : Int) > 0 <;> by_cases h5 : g <= p <;> simp [h1, h2, h3, h4, h5] <;> omega
theorem BKO (a : CZ) (h : a.z.length < 4611686018427387904 /\ AU a.c = 0) : BBY a := by
 obtain ⟨hz, h0⟩ := h
 obtain ⟨_, ⟨n1, n2⟩, n3⟩ := RA h0
 rw [BFK]<;> delta KY hd7 Aq BA BI FW OH PR Cs EX FI CE AC BX CM AQ BU DH DX IP HD LS PG JV ER GP GA HQ HT HC HR DS GB ED GW IX As HV BV BQ gZ FT NM AE BG AW AG SV NV BF BE CK AR VB CN BD AF CG BC AO CQ BS CV CY BO HK CR AL CF AM AT DZ GF GG DW AS AP DC DB HW GR FZ DF KU FE CJ GQ AN NY KD DI OZ FL HY LV JG BH HL JP DV DQ DG Rk LX MG OX Bf KE QI IS KC MU HG EU HX DU QN BR GH VG VW CO DY Xf Mb NC Ui Hn Tg OT Oz PB XS Ba Bm UJ Vm Vi; simp only [CC, eq_self, implies_true, forall_const]
 refine ⟨⟨0, rfl, Nat.zero_le _, ⟨by show (-1 : Int) <= -1; omega, by show (-1 : Int) <= 40; omega⟩, rfl⟩, λ k ⟨k1, k2, k3⟩ => ⟨λ hlt => ?_, λ hge => ?_⟩⟩
 ·have hlt : k < a.z.length := by omega
  rw [L8 hlt] at k3
  refine ⟨⟨by omega, λ _ => by omega, λ h => ?_⟩, λ h4 => ?_, λ h4 => ⟨k + 1, (FH (by omega)).symm, ⟨by omega, ?_, ?_⟩, by omega⟩⟩
  ·have := (Bool.and_eq_true .. ▸ h).2
   have := of_decide_eq_true this
   rw [Dh (by omega) (by omega)]; omega
  ·rw [<- k3]; unfold Ex; rw [V7 (by omega) k2 h4]; rfl
  ·have := V7 (by omega) k2 h4
   have := MV.1 this
   have e1 : wr (rK a.z k + 1) = rK a.z k + 1 := Dh (by omega) (by omega)
   have e2 : wr ((a.c.ms.length : Int) - 2) = (a.c.ms.length : Int) - 2 := Dh (by omega) (by omega)
   show -1 <= gD a.z k /\ gD a.z k <= 40
   omega
  ·rw [<- k3]; conv => rhs; unfold Ex
   rw [V7 (by omega) k2 h4]; rfl
 ·rw [<- k3, List.drop_of_length_le (by omega)]; rfl
theorem BEF : AK Try.prog AME (C_zUnl.spec dCZ) := XM C_zUnl BBU [] [] BGJ (λ _ => by kernel_rfl) (λ _ => AA AGL AD) (λ a h => BKO a h) (λ _ => YR rfl rfl) _
structure ZG where
 z : List Int
 g : Int
def dZG : List AVal -> Heap -> Option (ZG × List (Nat × Nat) × List Nat)
 | [y, .d k], H => match G1 y H with
  | some (l, e) => some (⟨l, HM k⟩, [], e)
  | none => none
 | _, _ => none
def xZG (a : ZG) : List AVal := [.d (JO a.z), .int a.g]
def stnd (z : List Int) (g : Int) : Bool := z.any λ x => x == g
def zd2 (a : ZG) : Shape := { α := Nat, dflt := 0, T := λ k => ⟨[(0, .d (JO a.z)), (1, .int a.g), (5, .int k)], []⟩, inv := λ k => k <= a.z.length /\ ∀ i, i < k -> gD a.z i ≠ a.g, meas := λ k => a.z.length - k }
def C_zSta : Ctr := { α := ZG, xs := xZG, val := λ a => .bool (stnd a.z a.g), keep := λ _ => [], pre := λ a => [a.z.length < 4611686018427387904] }
def AUZ (a : ZG) : Ann := { ann 18 [] with loops := λ id => if id = 2 then some [zd2 a] else none }
def BAK (a : ZG) : Prop := CL Try.prog (AUZ a) zX (AH zX) (xZG a) (AB []) (C_zSta.val a) [] [] []
abbrev Js:=ZG.z
attribute [go_sem] Js
theorem BCT (a : ZG) : (BAK a) = (DY (λ i=>IF (AN (Bf (Js a)) (AC (λ j=>VG j (Js a) (BQ (Js a) j))) (AF (ZG.g a)) (BR i)) (Ba i (Js a)) (λ j=>BE j i (Ow (BQ (Js a) j) (ZG.g a)))) (λ i=>CO (JI i (BV (Js a)) (AC (λ j=>BE j i (Ow (BQ (Js a) j) (ZG.g a))))) i (BV (Js a)) (XS i (Js a)) (PB (WI (BQ (Js a) i) (ZG.g a)) (DI (stnd (Js a) (ZG.g a))) (λ j=>LH (AN (Bf (Js a)) (AC (λ k=>VG k (Js a) (BQ (Js a) k))) (AF (ZG.g a)) (BH j i)) j (BV (Js a)) (AC (λ k=>BE k j (Ow (BQ (Js a) k) (ZG.g a)))) i)) (EU (stnd (Js a) (ZG.g a))))) := by kernel_rfl
theorem R6 {z : List Int} {g : Int} : stnd z g = true ↔ g ∈ z := by
 unfold stnd; rw [List.any_eq_true]
 exact ⟨λ ⟨x, hx, e⟩ => (by simpa using e : x = g) ▸ hx, λ h => ⟨g, h, by simp⟩⟩
theorem BNH (a : ZG) (h : a.z.length < 4611686018427387904) : BAK a := by
 rw [BCT]<;> delta KY Aq OH PR CE AC BX CM AQ BU DH DX IP HD LS PG JV GW WI IX BV BQ Ow Js AE BE AF BC HK GF DW DC GR FZ CJ GQ AN NY DI FL LV JG BH JI JP DV DG LX Bf IS MU HG EU HX DU BR VG CO DY IF ZX LH PB XS Ba; simp only [CC, eq_self, implies_true, forall_const]
 refine ⟨⟨0, rfl, Nat.zero_le _, λ i hi => absurd hi (Nat.not_lt_zero _)⟩, λ k ⟨k1, k2⟩ => ⟨λ hlt => ⟨by omega, λ h4 => ?_, λ h4 => ⟨k + 1, (FH (by omega)).symm, ⟨by omega, λ i hi => ?_⟩, by omega⟩⟩, λ hge => ?_⟩⟩
 ·exact R6.2 ((by simpa using h4 : gD a.z k = a.g) ▸ WR (by omega))
 ·by_cases e : i = k
  ·subst e; simpa using h4
  ·exact k2 i (by omega)
 ·cases hq : stnd a.z a.g with
  | false => rfl
  | true =>
   obtain ⟨i, hi, e⟩ := YH (R6.1 hq)
   exact absurd e (k2 i (by omega))
theorem BCH : AK Try.prog mG (C_zSta.spec dZG) := XM C_zSta AUZ [] [] ANR (λ _ => by kernel_rfl) (λ _ => AD) (λ a h => BNH a h) (λ _ => YR rfl rfl) _
def C_zLea : Ctr := { α := CtI, xs := λ a => [.d (Ef a.c), .int a.k], val := λ a => .int (a.c.p.lo * XL a.c a.k.toNat), keep := λ _ => [], pre := λ a => [(0 <= a.k /\ a.k + 1 < a.c.ms.length) /\ AU a.c = 0] }
def AYY (a : CtI) : Prop := CL Try.prog (ann 23 []) P5 (AH P5) (C_zLea.xs a) (AB []) (C_zLea.val a) [] [] []
theorem BEC (a : CtI) : (AYY a) = (And (UB (FZ (Ew a)) (AW (GU a)) (Ew a)) (AQ (Re (Mx (GU a)) (XL (GU a) (HV (Ew a)))) (Hz (Mx (GU a)) (Qm (GU a) (FZ (Ew a))) (Qm (GU a) (Ew a))))) := by kernel_rfl
theorem BAG {c : Cht} (h0 : AU c = 0) {k : Int} (hk : 0 <= k /\ k + 1 < c.ms.length) : IntKind.i64.wrap (k + 1) = k + 1 /\ IntKind.i64.wrap (c.p.lo * IntKind.i64.wrap ((gD c.ms (k + 1).toNat).pl - (gD c.ms k.toNat).pl)) = c.p.lo * XL c k.toNat /\ IntKind.i64.wrap (c.p.hi * IntKind.i64.wrap ((gD c.ms (k + 1).toNat).pl - (gD c.ms k.toNat).pl)) = c.p.hi * XL c k.toNat := by
 have h := PX.1 h0
 obtain ⟨m1, m2⟩ := h.m
 have hf := h.far (g := k.toNat) (by omega)
 have hg := h.gap (λ _ => false) (g := k.toNat) (by omega)
 have e : (k + 1).toNat = k.toNat + 1 := by omega
 rw [e]
 have e2 : IntKind.i64.wrap ((gD c.ms (k.toNat + 1)).pl - (gD c.ms k.toNat).pl) = XL c k.toNat := Dh (by unfold XL at hf; omega) (by unfold XL at hf; omega)
 rw [e2]
 exact ⟨Dh (by omega) (by omega), Dh (by omega) (by omega), Dh (by omega) (by omega)⟩
theorem BFN : AK Try.prog P0 (C_zLea.spec dCtI) := XM C_zLea (λ _ => ann 23 []) [] [] ATA (λ _ => by kernel_rfl) (λ _ => AD) (λ (a : CtI) h => by
 obtain ⟨hk, h0⟩ : (0 <= a.k /\ a.k + 1 < a.c.ms.length) /\ AU a.c = 0 := h
 obtain ⟨e1, e2, _⟩ := BAG h0 hk
 show AYY a; rw [BEC]<;> delta BA OH PR Cs AQ BU HD LS PG ER GP GA HR HV Re Ew GU AE AW CN BO HK GF DW DC GR FZ KU GQ DQ pO RD RG UB Mx Hz Qm; rw [e1, e2]
 exact ⟨⟨⟨by omega, by omega⟩, by omega, by omega⟩, rfl⟩) (λ _ => YR rfl rfl) _
structure CZG where
 a : CZ
 g : Int
def dCZG : List AVal -> Heap -> Option (CZG × List (Nat × Nat) × List Nat)
 | [x, y, .d k], H => match vO x H, G1 y H with
  | some (c, f), some (l, e) => some (⟨⟨c, l⟩, HM k⟩, [], f ++ e)
  | _, _ => none
 | _, _ => none
def Hb (a : CZ) (g : Int) : Int := bif stnd a.z g then 300000000 else a.c.p.hi * XL a.c g.toNat
def C_zMos : Ctr := { α := CZG, xs := λ x => [.d (Ef x.a.c), .d (JO x.a.z), .int x.g], val := λ x => .int (Hb x.a x.g), keep := λ _ => [], pre := λ x => [(0 <= x.g /\ x.g + 1 < x.a.c.ms.length) /\ x.a.z.length < 4611686018427387904 /\ AU x.a.c = 0] }
def BBZ (x : CZG) : Prop := CL Try.prog (ann 28 [(mG, C_zSta.spec dZG)]) AFY (AH AFY) (C_zMos.xs x) (AB []) (C_zMos.val x) [] [] []
abbrev hG:=CZG.a
abbrev pV:=CZG.g
attribute [go_sem] hG pV
theorem BFP (x : CZG) : (BBZ x) = (GN (AN (JR (hG x)) (Bq (hG x)) (AF (pV x)) (ME (BV (QX (hG x))) 4611686018427387904)) (stnd (QX (hG x)) (pV x)) (AQ (Hb (hG x) (pV x)) 300000000) (And (UB (FZ (pV x)) (NV (hG x)) (pV x)) (AQ (Hb (hG x) (pV x)) (Hz (BI (GA (FT (hG x)))) (Qm (FT (hG x)) (FZ (pV x))) (Qm (FT (hG x)) (pV x)))))) := by kernel_rfl
theorem BEU : AK Try.prog AFR (C_zMos.spec dCZG) := XM C_zMos (λ _ => ann 28 [(mG, C_zSta.spec dZG)]) [] [] AXX (λ _ => by kernel_rfl) (λ _ => AA BCH AD) (λ (x : CZG) h => by
 obtain ⟨hk, hz, h0⟩ : (0 <= x.g /\ x.g + 1 < x.a.c.ms.length) /\ x.a.z.length < 4611686018427387904 /\ AU x.a.c = 0 := h
 obtain ⟨e1, _, e2⟩ := BAG h0 hk
 show BBZ x; rw [BFP]<;> delta BI OH PR Cs CE AC BX CM AQ BU DX HD LS PG ER GP GA HR HV LL BV BQ FT SA NM Re hG pV AE AW NV BE UR VB CN AF BO HK QX GF DW DC GR FZ KU GQ AN NY HH DQ EK QV MD ME pO GZ GN QC RD JR QM RG LJ UB Bq Hz Qm; simp only [CC, eq_self, implies_true, forall_const]; rw [e1, e2]
 refine ⟨hz, λ h => ?_, λ h => ⟨⟨⟨by omega, by omega⟩, by omega, by omega⟩, ?_⟩⟩
 ·unfold Hb; rw [h]; rfl
 ·unfold Hb; rw [h]; rfl) (λ _ => YR rfl rfl) _
def ntS (c : Cht) : Nat -> Nat -> Span
 | 0, _ => farS
 | k + 1, i => bif decide (i = (gD c.ns k).mi.toNat) then (gD c.ns k).t else ntS c k i
def zn3n (c : Cht) : Shape := { α := One, dflt := default, T := λ _ => ⟨[(1, .bptr 201 0), (3, .d Rv), (4, .int 0)], [(201, .live (oI c))]⟩, inv := λ _ => True, meas := λ _ => 50, first := [(201, 1000)] }
def zn3o (c : Cht) : Shape := { α := Nat, dflt := 0, T := λ k => ⟨[(1, .bptr 201 0), (3, .own 202 2 0 k), (4, .int k)], [(201, .live (oI c)), (202, .live (.row 2 k λ i => FX farS))]⟩, inv := λ k => 1 <= k /\ k <= c.ms.length, meas := λ k => 40 - k, again := [(202, 6048)] }
def zn6c (c : Cht) : Shape := { α := One, dflt := default, T := λ k => ⟨[(1, .bptr 201 0), (3, .own 202 2 0 c.ms.length)], [(201, .live (oI c)), (202, .live (.row 2 c.ms.length λ i => FX farS))]⟩, inv := λ _ => True, meas := λ _ => 0 }
def zn7 (c : Cht) : Shape := { α := Nat, dflt := 0, T := λ k => ⟨[(1, .bptr 201 0), (3, .own 202 2 0 c.ms.length), (5, .int k)], [(201, .live (oI c)), (202, .live (.row 2 c.ms.length λ i => FX (ntS c k i)))]⟩, inv := λ k => k <= c.ns.length, meas := λ k => c.ns.length - k }
def C_zNot : Ctr := { α := Cht, xs := λ c => [.d (Ef c)], val := λ c => .d (DA (Gt c)), keep := λ _ => [], pre := λ c => [AU c = 0] }
def AXM (c : Cht) : Ann := { ann 39 [] with mt := λ id => id == 5, loops := λ id => if id = 3 then some [zn3n c, zn3o c] else if id = 7 then some [zn7 c] else none, cut := λ id => if id = 6 then some [zn6c c] else none }
def AYN (c : Cht) : Prop := CL Try.prog (AXM c) AAY (AH AAY) (C_zNot.xs c) (AB []) (C_zNot.val c) [] [] [202]
theorem BDA (c : Cht) : (AYN c) = (Ah (IF (LZ (AN AI GV AJ (FO c))) (Kr (λ i=>HX LG (IP 0 (NF c)) (AG Do VZ Cd Ay Ja) (GW (λ j=>JP (WA (NN j) (FL j Jj) (AM c) (AL c) (RF c (NN j) (AC (λ k=>FE k j (Int.negSucc 99999999) (WF 100000000))))) (KJ j (AW c)) 40 j 50)) NG)) (λ i=>HX (KJ i (AW c)) (IS i (NF c)) (PA (Jo i i) VZ ZF (Cr i) (Jt i)) (GW (λ j=>DU (WA (VH j i) (BH j i) (AM c) (AL c) (RF c (VH j i) (AC (λ k=>KH k j (BA farS) (OU k i (BA farS) (-100000000)) farS (OU k i (BI farS) 100000000))))) (KJ j (AW c)) 40 j i)) (LZ (AG AI (KR c i) (AM c) (AL c) (RF c (KR c i) (AC (λ j=>FE j (AW c) (Int.negSucc 99999999) (WF 100000000)))))))) (DY (λ i=>TD (WA (DE c) (BR i) (AM c) (AL c) (RF c (DE c) (AC (λ j=>JZ j (AW c) (BA (ntS c i j)) (BA farS) (ntS c i j) farS)))) i (AO c)) (λ i=>CO (LL i (AO c)) i (AO c) (AN (Af i c) (Af i c) (DQ (DD c i) (AW c)) (PE (DD c i) (AW c))) (GW (λ j=>VC (WA (DE c) (BH j i) (AM c) (AL c) (RF c (DE c) (AC (λ k=>KH k (AW c) (BA (ntS c j k)) (KN k (DD c i) (DJ c i) (BA (ntS c i k))) (ntS c j k) (KN k (DD c i) (BI (DM c i)) (BI (ntS c i k))))))) j (AO c) j i)) (IF (LO (Gt c) (AW c)) (NP (AW c)) (λ j=>UG j (Gt c) j (BA (ntS c i (BB j))) (ntS c i (BB j))))))) := by kernel_rfl
theorem AUX {c : Cht} {m : Nat} : ∀ k, (∀ i, i < k -> (gD c.ns i).mi.toNat ≠ m) -> ntS c k m = farS
 | 0, _ => rfl
 | k + 1, h => by
  show (bif decide (m = (gD c.ns k).mi.toNat) then _ else _) = _
  rw [decide_eq_false λ e => h k (Nat.lt_succ_self _) e.symm]
  exact AUX k λ i hi => h i (by omega)
theorem AUI {c : Cht} (h : ChOk c) {m : Nat} {j : Nat} (hm : (gD c.ns j).mi = m) : ∀ k, j < k -> k <= c.ns.length -> ntS c k m = (gD c.ns j).t
 | 0, h1, _ => absurd h1 (Nat.not_lt_zero _)
 | k + 1, h1, h2 => by
  show (bif decide (m = (gD c.ns k).mi.toNat) then _ else _) = _
  by_cases e : j = k
  ·subst e
   rw [decide_eq_true (by omega)]; rfl
  ·rw [decide_eq_false λ e2 => h.one j k (by omega) (by omega) (by have := (h.nt _ (WR (show k < c.ns.length by omega))).1; omega)]
   exact AUI h hm k (by omega) (by omega)
theorem BEW {c : Cht} (h : ChOk c) (m : Nat) : ntS c c.ns.length m = notM c m := by
 unfold notM
 cases hq : hasN c.ns m with
 | false =>
  refine AUX _ λ i hi e => ?_
  have hn := (h.nt _ (WR hi)).1
  have := W2.2 ⟨gD c.ns i, WR hi, show (gD c.ns i).mi = (m : Int) by omega⟩
  rw [hq] at this; cases this
 | true =>
  obtain ⟨q1, q2⟩ := iR hq
  obtain ⟨j, hj, e⟩ := YH q1
  show _ = (ntOf c.ns m).t
  rw [AUI h (j := j) (by rw [e]; exact q2) _ hj (Nat.le_refl _), e]
theorem BLP (c : Cht) (h0 : AU c = 0) : AYN c := by
 have hc := PX.1 h0
 obtain ⟨m1, m2⟩ := hc.m
 have hn := hc.n
 rw [BDA]<;> delta KY Aq BA BI FW OH PR EX FI CE CU AC BX CM AQ LU BU WF DH DX IP HD LS PG JV ER GP GA HQ HT HC HR DS GB ED GW LG IX HV QT NG LL YY Uc Wz Kr AE BG AW AG BF BE CK AR CN BD AF CG BC EZ Tz AO CQ BS CV CY BO HK CR DD AL CF AM AT DM DR DZ GF GG BB DW AS DJ AP EY DC DB HW GR FZ JD DF FK RY EM FE DE CJ GQ AN DI MH MF WZ FL JE HY JH AI LV JG BH HL JI JQ JP DV JZ HJ DQ DG EB NF LX CW OX LO QI KR IS MU HG TR HX ME DU QN CH AJ SS OC PC BR CO HF MB DY HE FO Jd TV TE Ee XY KN LZ SH Gh NP Ga XV PE KJ GV OU SC ZF KH NN WY IF Uv VH Hx RF VZ Ju Pt Aa PA VC Is TD Ab Cd Ay Af UG Cr Pc Ah Do WA Jt Ja Jj Jo; simp only [CC, eq_self, implies_true, forall_const]
 refine ⟨⟨⟨default, trivial⟩, ⟨λ h => ⟨⟨by omega, by omega, by omega, by omega, by omega⟩, 1, ⟨rfl, rfl, rfl⟩, ⟨by omega, by omega⟩, by omega⟩, λ h => by omega⟩, λ k ⟨k1, k2⟩ => ⟨λ hlt => ⟨⟨by omega, by omega, by omega, by omega⟩, k + 1, ⟨rfl, (FH (by omega)).symm, rfl, λ i hi => ?_⟩, ⟨by omega, by omega⟩, by omega⟩, λ hge => ⟨default, by omega⟩⟩⟩, ⟨0, ⟨rfl, λ i hi => ⟨rfl, rfl⟩⟩, Nat.zero_le _⟩, λ k hk => ⟨λ hlt => ?_, λ hge => ?_⟩⟩
 ·cases decide (i < k) <;> exact ⟨rfl, rfl⟩
 ·have hlt : k < c.ns.length := by omega
  have hi := (hc.nt _ (WR hlt)).1
  refine ⟨⟨by omega, by omega, by omega, by omega⟩, k + 1, ⟨(FH (by omega)).symm, λ i _ => ?_⟩, by omega, by omega⟩
  show (bif decide (i = (gD c.ns k).mi.toNat) then _ else _ : Span).lo = _ /\ (bif decide (i = (gD c.ns k).mi.toNat) then _ else _ : Span).hi = _
  cases decide (i = (gD c.ns k).mi.toNat) <;> exact ⟨rfl, rfl⟩
 ·obtain rfl : k = c.ns.length := by omega
  refine ⟨OY c, by omega, λ j hj => ?_⟩
  rw [vU (by rw [OY] at hj; exact hj), BEW hc]; exact ⟨rfl, rfl⟩
theorem BGP : AK Try.prog P9 (C_zNot.spec oQ) := XM C_zNot AXM [] [202] ATB (λ _ => by kernel_rfl) (λ _ => AD) (λ c h => BLP c h) (λ _ => YR rfl rfl) _
end Go.Bal
