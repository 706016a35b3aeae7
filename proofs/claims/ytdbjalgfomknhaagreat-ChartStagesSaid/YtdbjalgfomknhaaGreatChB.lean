/- Package chart: which charts are right; a chart at work. -/
import Derived.Test.YtdbjalgfomknhaaGreatChE
set_option linter.unusedVariables false
set_option linter.unusedSimpArgs false
namespace Go.Bal
open Go Go.Sym Go.Proofs
def iH : Int -> List Mk -> Int
 | _, [] => 0
 | a, m :: r => bif (bif !TP m.pl 0 10000 then true else !TP m.ht 0 1000) then 30 else bif decide (m.pl <= a) then 9 else iH m.pl r
def iF (l : List Nt) (i : Nat) : Bool := !(l.take i).any λ x => x.mi == (gD l i).mi
def WC (c : Cht) : Int := bif (bif !TP c.ms.length 1 40 then true else decide ((c.ns.length : Int) > 20)) then 3 else bif (bif (bif (bif !UT c.p 1 600 then true else !TP c.base (-1000000) 1000000) then true else !TP c.scale 0 1000) then true else !TP c.off 0 1000) then 30 else 0
def AU (c : Cht) : Int := bif WC c != 0 then WC c else bif iH (-1) c.ms != 0 then iH (-1) c.ms else bif !c.ns.all (λ n => SP n c.ms.length) then 30 else bif Pf (iF c.ns) c.ns.length then 0 else 10
def oQ : List AVal -> Heap -> Option (Cht × List (Nat × Nat) × List Nat)
 | [y], H => match vO y H with
  | some (l, f) => some (l, [], f)
  | none => none
 | _, _ => none
def C_Check : Ctr := { α := Cht, xs := λ c => [.d (Ef c)], L := λ _ => [], val := λ c => .int (AU c), keep := λ _ => [], pre := λ c => [c.ms.length < 4611686018427387904 /\ c.ns.length < 4611686018427387904] }
def ck7 (c : Cht) : Shape := { α := NI, dflt := default, T := λ s => ⟨[(1, .bptr 201 0), (3, .int s.m), (44, .d (tT c.ms)), (45, .int c.ms.length), (46, .int s.k)], [(201, .live (oI c))]⟩, inv := λ s => s.k <= c.ms.length /\ WC c = 0 /\ iH s.m (c.ms.drop s.k) = iH (-1) c.ms, meas := λ s => c.ms.length - s.k, first := [(201, 1000)] }
def ck18 (c : Cht) : Shape := { α := Nat, dflt := 0, T := λ k => ⟨[(1, .bptr 201 0), (75, .d (lK c.ns)), (76, .int c.ns.length), (77, .int k)], [(201, .live (oI c))]⟩, inv := λ k => k <= c.ns.length /\ WC c = 0 /\ iH (-1) c.ms = 0 /\ c.ns.all (λ n => SP n c.ms.length) = true /\ Pf (iF c.ns) k = true, meas := λ k => c.ns.length - k }
def AQH (c : Cht) : Ann := { ann 89 [(n_in, s_in), (bY, ARI), (n_eN, C4Nr.spec d4Nr), (AKF, C3Nc.spec d3Nc)] with loops := λ id => if id = 7 then some [ck7 c] else if id = 18 then some [ck18 c] else none }
def APO (c : Cht) : Prop := CL Try.prog (AQH c) AIF (AH AIF) (C_Check.xs c) (AB []) (C_Check.val c) [] [] []
abbrev IX:=true
abbrev As:=λ (x0 x1 : Int) => decide (x0 > x1)
abbrev hd96:=@Exists NI
abbrev yX:=NI.m
abbrev TM:=NI.k
abbrev vS:=@List.drop Mk
abbrev AAM:=λ (f : NI -> Prop) => ∀ (x : NI), f x
abbrev HV:=Int.toNat
abbrev QT:=@HAdd.hAdd Nat Nat Nat (@instHAdd Nat instAddNat)
abbrev NC a b:=(@cond Bool) a IX b
abbrev Gk a b c d:=DX (NC a b) c d
abbrev GN a b c d:=And a (DX b c d)
abbrev JM a b c d e:=DX a (AE b c d) e
abbrev JF a:=AQ a 0
abbrev RT a:=JF (AU a)
abbrev DI a:=KY a IX
abbrev iP a b:=DI (Pf a b)
abbrev Qw a b:=iP (iF (GB a)) b
abbrev aG a:=iH (-1) (GP a)
abbrev Fz a:=JF (aG a)
abbrev VV a:=JF (WC a)
abbrev Qj a b:=DH a (AO b)
abbrev RJ a:=BW (AO a)
abbrev NZ a:=AC (λ i=>CH i a)
abbrev SD a b:=AQ (AU a) b
abbrev Xj a b (c:Nat->Nat):=(@QR Nt) a (λ i=>BG b (c i))
abbrev PW:=HV 0
abbrev Ek a:=QT PW a
abbrev Mp a:=JV a PW
abbrev BB a:=QT 0 a
abbrev RV a:=JV a 0
abbrev Iq a b c:=CE a (JV b c)
abbrev RD a b c:=AE a (DC b) c
abbrev ZM a b:=HD a (BU b)
abbrev La:=HD 0 0
abbrev Af a b:=DG a (AO b)
abbrev Cn a:=EJ (FS a)
abbrev RM a:=AC (λ i=>EB i a)
abbrev En a b:=AQ (yX a) b
abbrev Hn a b c:=not (TP a b c)
abbrev Bm a b:=Hn a 0 b
abbrev OT a b:=As (BU a) b
attribute [go_sem] IX As hd96 yX TM vS AAM HV QT NC Gk GN JM JF RT DI iP Qw aG Fz VV Qj RJ NZ SD Xj PW Ek Mp BB RV Iq RD ZM La Af Cn RM En Hn Bm OT
theorem AYP (c : Cht) : (APO c) = (Gk (Hn (NF c) 1 40) (OT (AO c) 20) (SD c 3) (Gk (NC (NC (not (hd9 (GA c) 1 600)) (Hn (HQ c) (-1000000) 1000000)) (Bm (HT c) 1000)) (Bm (HC c) 1000) (SD c 30) (And (hd96 (λ i=>AN (CW (En i (-1)) (DE c) (RM c) (AF (NF c)) (BR (TM i)) (FO c)) (DH (TM i) (AW c)) (VV c) (AQ (iH (yX i) (vS (TM i) (GP c))) (aG c)))) (AAM (λ i=>HX (AE (DH (TM i) (AW c)) (VV c) (AQ (iH (yX i) (vS (TM i) (GP c))) (aG c))) (IS (TM i) (NF c)) (DG (TM i) (AW c)) (Gk (Bm (BO c (TM i)) 10000) (Bm (CF c (TM i)) 1000) (SD c 30) (DX (hd7 (BO c (TM i)) (yX i)) (SD c 9) (hd96 (λ j=>DU (CW (En j (BO c (TM i))) (DE c) (RM c) (AF (NF c)) (BH (TM j) (TM i)) (FO c)) (AE (DH (TM j) (AW c)) (VV c) (AQ (iH (yX j) (vS (TM j) (GP c))) (aG c))) (AW c) (TM j) (TM i))))) (GN (CW (BK c) (JB c) (AM c) (AL c) (AP c) (JA c (BM c) (SE c) (BK c) (λ j=>BJ j c) (AM c) (AL c) (HE c (CA c) (λ j=>EE j c) (BZ c) (λ j=>CP j c) (Cn c) LG))) (not (hd80 (JJ c) (λ j=>qL j (Nn c)))) (SD c 30) (DY (λ j=>CW (AG (DB c) (NZ c) (RJ c) (BR j) (FO c)) (Qj j c) (VV c) (Fz c) (DI (hd80 (GB c) (λ k=>Iy k c))) (Qw c j)) (λ j=>BX (AG (Qj j c) (VV c) (Fz c) (DI (hd80 (GB c) (λ k=>Iy k c))) (Qw c j)) (JM (HG j (AO c)) (Af j c) (CI (RD La (BU j) (ZM (BU j) (AO c))) (Iq (DS (Xj (Mp j) c Ek)) j PW) (AC (λ k=>MT k (DS (Xj (RV j) c BB)) (LR (ED (Xj (Mp j) c Ek) k) (DD c (Ek k))) (KV (ED (Xj (Mp j) c Ek) k) c (Ek k)) (ED (Xj (Mp j) c Ek) k) (DM c (Ek k)) (JS (ED (Xj (Mp j) c Ek) k) c (Ek k)) (BG c (Ek k)))) (JH c j) (JE c j) (JD c j) (AAX (JQ c j) (DZ (BG c j)) (JH c j) (JE c j) (JD c j) (EJ (DS (Xj (RV j) c BB))) LG)) (PB ((@List.any Nt) (Xj (Mp j) c Ek) (λ k=>qQ k (DD c j))) (SD c 10) (λ k=>DU (AG (DB c) (NZ c) (RJ c) (BH k j) (FO c)) (AG (Qj k c) (VV c) (Fz c) (DI (hd80 (GB c) (λ l=>Iy l c))) (Qw c k)) (AO c) k j)) (RT c)))))))))) := by kernel_rfl
theorem BAQ {α : Type} [Inhabited α] {l : List α} {k : Nat} (h : k <= l.length) : (QR k λ i => gD l i) = l.take k := by
 refine ANJ (by simp [h]) λ i hi => ?_
 have hi : i < k := by simpa using hi
 rw [IK _ _ _ hi]
 simp [gD, List.getD_eq_getElem?_getD, List.getElem?_take, hi]
theorem oF {p : Nat -> Bool} {n k : Nat} (hk : k < n) (h : p k = false) : Pf p n = false := by
 cases hc : Pf p n with
 | false => rfl
 | true => rw [Oc.1 hc k hk] at h; cases h
theorem BDO (c : Cht) (h : c.ms.length < 4611686018427387904 /\ c.ns.length < 4611686018427387904) : APO c := by
 obtain ⟨hm, hn⟩ := h
 rw [AYP]<;> delta KY hd7 hd9 BA BI qL FW OH PR EX FI CE AC BX CM AQ BU DH DX IP HD LS PG JV ER GP GA HQ HT HC HR DS GB ED GW LG hd80 WI IX As hd96 yX TM vS AAM HV QT AE BG AW EO GJ GI AG GM BF BE CK AR CN BD AF JJ CG BC Tu AAX AO CQ GT BS CV CY BO HK CR DD AL KA CF AM AT DM DR DZ GF GG BB DW AS DJ EG FC AP EY FG FS EN DC DB CS HW FV GR FZ JD DF HA KB LQ FU FE ET DE CJ GQ AN LP FY FJ EV EJ DI JS FL JE HY JH LR LV JG BH JQ JF KV JP DV HJ MT DG BK IT EB KF NF LM LX OJ MR CW OX QI KR MO IS MU OV QS QY HG HX Iq DU BM BZ CA EP FQ QN AZ CH JC CI BR BW JN PW RT FP GN DY HE FF FO GO KL RD NC JA EE BJ NZ iP RJ JM VV Hn CP OT La SD Iy RM ZM aG RV JB qQ Fz PB Cn En Ek Bm SE Af Mp Qw Gk Qj Xj Nn; simp only [CC, eq_self, implies_true, forall_const, Nat.sub_zero, Int.toNat_zero]
 refine ⟨λ h1 => ?_, λ h1 => ⟨λ h2 => ?_, λ h2 => ?_⟩⟩
 ·have e : WC c = 3 := by unfold WC; rw [h1]; rfl
  unfold AU; rw [e]; rfl
 ·have e : WC c = 30 := by unfold WC; rw [h1, h2]; rfl
  unfold AU; rw [e]; rfl
 have e : WC c = 0 := by unfold WC; rw [h1, h2]; rfl
 have k0 : ∀ v : Int, v ≠ 0 -> iH (-1) c.ms = v -> AU c = v := λ v hv hm => by 
  have hv0 := hv
  have hv' : (v != 0) = true := by simpa using hv
  unfold AU; rw [e, hm, hv']; rfl
 refine ⟨⟨⟨0, -1⟩, ⟨rfl, rfl⟩, Nat.zero_le _, e, rfl⟩, λ s ⟨s1, _, s3⟩ => ⟨λ hlt => ?_, λ hge => ?_⟩⟩
 ·have hlt : s.k < c.ms.length := by omega
  have hd := L8 hlt
  rw [hd] at s3
  refine ⟨by omega, λ h3 => ?_, λ h3 => ⟨λ h4 => ?_, λ h4 => ⟨⟨s.k + 1, (gD c.ms s.k).pl⟩, ⟨rfl, (FH (by omega)).symm⟩, ⟨by show s.k + 1 <= _; omega, e, ?_⟩, by show c.ms.length - (s.k + 1) < _; omega⟩⟩⟩
  ·exact k0 30 (by decide) (by rw [<- s3]; unfold iH; rw [h3]; rfl)
  ·exact k0 9 (by decide) (by rw [<- s3]; unfold iH; rw [h3, decide_eq_true h4]; rfl)
  ·rw [<- s3]; conv => rhs; unfold iH
   rw [h3, decide_eq_false h4]; rfl
 ·have hmk : iH (-1) c.ms = 0 := by rw [<- s3, List.drop_of_length_le (by omega)]; rfl
  refine ⟨by omega, λ h3 => ?_, λ h3 => ⟨⟨0, rfl, Nat.zero_le _, e, hmk, h3, rfl⟩, λ k ⟨k1, _, _, _, k5⟩ => ⟨λ hlt => ?_, λ hge => ?_⟩⟩⟩
  ·unfold AU; rw [e, hmk, h3]; rfl
  ·have hlt : k < c.ns.length := by omega
   have et : (QR k λ i => gD c.ns i) = c.ns.take k := BAQ (by omega)
   rw [et]
   refine ⟨by omega, ⟨⟨by omega, by omega, by omega⟩, λ i hi => ?_, by omega⟩, λ h4 => ?_, λ h4 => ⟨k + 1, (FH (by omega)).symm, ⟨by omega, e, hmk, h3, ?_⟩, by omega⟩⟩
   ·rw [<- et, IK _ _ _ hi]; exact ⟨rfl, rfl, rfl, rfl, rfl⟩
   ·have hp : Pf (iF c.ns) c.ns.length = false := oF hlt (by unfold iF; rw [h4]; rfl)
    unfold AU; rw [e, hmk, h3, hp]; rfl
   ·show (Pf (iF c.ns) k && iF c.ns k) = true
    unfold iF at k5 ⊢; rw [k5, h4]; rfl
  ·obtain rfl : k = c.ns.length := by omega
   unfold AU; rw [e, hmk, h3, k5]; rfl
theorem AKL : AK Try.prog ADQ (C_Check.spec oQ) := XM C_Check AQH [] [] BAB (λ _ => by kernel_rfl) (λ _ => AA ACD (AA AZU (AA BQW (AA BRL AD)))) BDO (λ _ => YR rfl rfl) _
def hasN (l : List Nt) (j : Int) : Bool := l.any λ x => x.mi == j
def ntOf : List Nt -> Int -> Nt
 | [], _ => default
 | n :: r, j => bif hasN r j then ntOf r j else bif n.mi == j then n else default
structure Dk where
 c : Cht
 st : Int -> Int
 sp : Nat -> Bool
def jR : Value := .agg #[.int .i64 0, .int .i64 0, .int .i64 0, .int .i64 0, .int .i64 0]
def dkB (w : Dk) (m : Nat) : AObj := .abox [.int w.c.p.lo, .int w.c.p.hi, .int w.c.base, .int w.c.scale, .int w.c.off, .d (tT w.c.ms), .d (lK w.c.ns), .mref m] 40 w.sp
def dkM (w : Dk) : AObj := .imap .i64 jR (hasN w.c.ns) (λ j => eNt (ntOf w.c.ns j)) w.st none
def dkL (w : Dk) : List (Nat × AObj) := [(100, dkB w 101), (101, dkM w)]
def dkK (w : Dk) : List (Nat × HCell) := [(100, .live (dkB w 101)), (101, .live (dkM w))]
def dkN (w : Dk) : List (Nat × HCell) := [(0, .live (dkB w 1)), (1, .live (dkM w))]
def oV (H : Heap) (id : Nat) : Option (Dk × Nat) := match H id with
 | .live (.abox [.d a, .d b, .d c, .d d, .d e, .d (.list _ n f _), .d (.list _ m g _), .mref q] _ sp) => match H q with
  | .live (.imap _ _ _ _ st _) => some (⟨⟨⟨HM a, HM b⟩, HM c, HM d, HM e, QR n λ i => dMk (f i), QR m λ i => dNt (g i)⟩, st, sp⟩, q)
  | _ => none
 | _ => none
def stK (l : List Nt) : Nat -> Int -> Int
 | 0 => λ _ => 0
 | k + 1 => vP (hasN (l.take k)) (stK l k) (gD l k).mi
def AX (c : Cht) : Dk := ⟨c, stK c.ns c.ns.length, λ _ => false⟩
def C_open : Ctr := { α := Cht, xs := λ c => [.d (Ef c)], val := λ _ => .tup [.bptr 0 0, .int 0], keep := λ c => dkN (AX c), pre := λ c => [(c.ms.length < 4611686018427387904 /\ c.ns.length < 4611686018427387904) /\ AU c = 0] }
def C_openX : Ctr := { α := Cht, xs := λ c => [.d (Ef c)], val := λ c => .tup [.d (.v (.pointer none)), .int (AU c)], keep := λ _ => [], pre := λ c => [(c.ms.length < 4611686018427387904 /\ c.ns.length < 4611686018427387904) /\ AU c ≠ 0] }
def op6 (c : Cht) : Shape := { α := Nat, dflt := 0, T := λ k => ⟨[(5, .bptr 201 0), (18, .d (lK c.ns)), (19, .int c.ns.length), (20, .int k)], [(201, .live (.abox [.int c.p.lo, .int c.p.hi, .int c.base, .int c.scale, .int c.off, .d (tT c.ms), .d (lK c.ns), .mref 202] 40 λ _ => false)), (202, .live (.imap .i64 jR (hasN (c.ns.take k)) (λ j => eNt (ntOf (c.ns.take k) j)) (stK c.ns k) none))]⟩, inv := λ k => k <= c.ns.length, meas := λ k => c.ns.length - k, first := [(201, 5048), (202, 5016)] }
def AGW (c : Cht) : Ann := { ann 33 [(ADQ, C_Check.spec oQ)] with loops := λ id => if id = 6 then some [op6 c] else none }
def BBD (c : Cht) : Prop := CL Try.prog (AGW c) lG (AH lG) (C_open.xs c) (AB []) (C_open.val c) (C_open.keep c) [(0, 201), (1, 202)] []
abbrev TU:=@bne Int (@instBEqOfDecidableEq Int Int.instDecidableEq)
abbrev NG:=False
abbrev SX:=@Eq Value
abbrev V1:=@List.toArray Value
abbrev X1:=@List.nil Value
abbrev BT:=λ (f : Int -> Prop) => ∀ (x : Int), f x
abbrev PO:=hasN
abbrev LL:=Nat.le
abbrev YY:=@cond Int
abbrev ABS:=λ (x0 x1 : Int) => decide (x0 = x1)
abbrev AV:=Dk.c
abbrev YX:=AX
abbrev UN a:=TU a 0
abbrev QQ a b c d:=GN a (UN b) c d
abbrev XJ a (b:Nat->Prop) c d e f (g:Int->Prop) h p:=BY a b c d e f (BT g) h p
abbrev WB a (b:Nat->Prop) c (d:Nat->Prop) e f (g:Int->Prop) (h:Int->Prop) p:=XJ a b c (AC d) e f g (BT h) p
abbrev QP a (b:Nat->Prop) c (d:Nat->Prop) e f (g:Int->Prop) (h:Int->Prop) (p:Int->Prop):=WB a b c d e f g h (BT p)
abbrev LA a b:=AG (OM a b) (OK a b) (FV a (EX b)) (HA a b) (FG a b)
abbrev bF a b:=(@List.take Nt) a (GB b)
abbrev KM a b c:=ntOf (bF a b) c
abbrev QU a b:=ntOf (GB a) b
abbrev BN a:=AV (YX a)
abbrev Ap a b:=QU (BN a) b
abbrev Xp a b c:=AQ (Dk.st a b) c
abbrev QW a b:=PO (GB a) b
abbrev ZJ a b c:=KY (QW a b) c
abbrev BL:=SX jR jR
abbrev RY a b c:=BE a b (EZ c)
abbrev XQ a b:=RY a 40 b
abbrev Vw a:=XQ a Aq
abbrev LD:=AC Vw
abbrev WH a b c d:=JS (BG a b) c d
abbrev XK a b c d:=OJ a b (DM c d)
abbrev XA a b c d:=KF (DD a b) c d
abbrev Bu a b:=EV (AO a) b
abbrev LI a b c d e:=FJ a b c (BO d a) e d a
abbrev Bh a b:=KR a (AW b)
abbrev Va a b:=AQ (HC a) b
abbrev Bs a b:=Va a (HC b)
abbrev Tp a b:=AQ (HT a) b
abbrev By a b:=Tp a (HT b)
abbrev Wg a b:=AQ (HQ a) b
abbrev Bb a b:=Wg a (HQ b)
abbrev Cj a b:=BD (GA a) (GA b)
abbrev Aw a b:=NQ (GA a) (GA b)
abbrev Aa a b c d e f:=DU a (LL b c) d e f
abbrev VC a b c d e:=Aa a b c c d e
abbrev FR a b c d e:=AR a b c (AM d) (AL d) (AP d) (AS d) (AT d) e
abbrev SI a (b:Nat->Prop) c (d:Nat->Prop) e f (g:Int->Prop) (h:Int->Prop) (p:Int->Prop):=QP (DE a) b (DB c) d e f g h p
abbrev SG a b (c:Int->Prop) (d:Int->Prop) (e:Int->Prop):=SI a (λ i=>EB i a) a (λ i=>CH i a) b BL c d e
abbrev Lb a b c d e:=YY (ABS a (DD b c)) d e
abbrev Hs a:=BI (FI a)
abbrev TD a b c:=And a (LL b c)
abbrev PJ a:=BF a 0
abbrev EU a:=KY a Aq
abbrev Pd a:=Value.int PR a
abbrev Xg:=Pd 0
abbrev fI a:=(@List.cons Value) Xg a
abbrev Zz a:=fI (fI a)
abbrev JL a b c d e:=Cht.mk (GA a) (HQ b) (HT c) (HC c) d e
abbrev RB a b c:=JL a a a (KA b) (JJ c)
abbrev EH a:=RB a a a
abbrev VY a:=AU (EH a)
abbrev ZZ a b:=AE (AM a) (AL a) b
abbrev NE a b (c:Nat->Prop) d (e:Nat->Prop) f g:=ZZ a (HE a b c d e f g)
abbrev Fs a:=EJ (EN a)
attribute [go_sem] TU NG SX V1 X1 BT PO LL YY ABS AV YX UN QQ XJ WB QP LA bF KM QU BN Ap Xp QW ZJ BL RY XQ Vw LD WH XK XA Bu LI Bh Va Bs Tp By Wg Bb Cj Aw Aa VC FR SI SG Lb Hs TD PJ EU Pd Xg fI Zz JL RB EH VY ZZ NE Fs
theorem BGO (c : Cht) : (BBD c) = (QQ (NE c (BM c) (λ i=>AZ i c) (BK c) (λ i=>BJ i c) (Fs c) (Cn c)) (VY c) NG (DY (λ i=>TD (And (DB c) (FR (NZ c) (RJ c) (BR i) c (SI c (λ j=>EB j c) c (λ j=>CH j c) LD (SX jR (Value.agg (V1 (fI (Zz (Zz X1)))))) (λ j=>EU (PO (bF i c) j)) (λ j=>JF (stK (GB c) i j)) (λ j=>AG (LR (KM i c j) 0) (ET (KM i c j) 0) (PJ (EX (KM i c j))) (EG (KM i c j) 0) (PJ (FI (KM i c j))))))) i (AO c)) (λ i=>CO (LL i (AO c)) i (AO c) (Af i c) (GW (λ j=>VC (And (DB c) (FR (NZ c) (RJ c) (BH j i) c (SG c LD (λ k=>KY (PO (bF j c) k) (Jb (PO (bF i c)) (DD c i) k)) (λ k=>AQ (stK (GB c) j k) (vP (PO (bF i c)) (stK (GB c) i) (DD c i) k)) (λ k=>AG (LR (KM j c k) (Lb k c i (DD c i) (FW (KM i c k)))) (ET (KM j c k) (Lb k c i (DJ c i) (CK (KM i c k)))) (BF (EX (KM j c k)) (Lb k c i (BI (DM c i)) (BI (EX (KM i c k))))) (EG (KM j c k) (Lb k c i (EY c i) (CQ (KM i c k)))) (BF (FI (KM j c k)) (Lb k c i (Hs (BG c i)) (Hs (KM i c k)))))))) j (AO c) j i)) (CI AJ (Aw (BN c) c) (Cj (BN c) c) (Bb (BN c) c) (By (BN c) c) (Bs (BN c) c) (QP (Bh (BN c) c) (λ j=>LI j (AW (BN c)) (BO (BN c) j) c (CF (BN c) j)) (Bu (BN c) c) (λ j=>FF j (BN c) (XA (BN c) j c j) (DJ c j) (XK (BN c) j c j) (WH (BN c) j c j) (BG c j)) LD BL (λ j=>ZJ (BN c) j (PO (bF i c) j)) (λ j=>Xp (YX c) j (stK (GB c) i j)) (λ j=>LA (Ap c j) (KM i c j))))))) := by kernel_rfl
def AOZ (c : Cht) : Prop := CL Try.prog (AGW c) lG (AH lG) (C_open.xs c) (AB []) (C_openX.val c) [] [] []
abbrev Sv:=SX (Value.pointer (@none Addr)) (Value.pointer (@none Addr))
attribute [go_sem] Sv
theorem AYU (c : Cht) : (AOZ c) = (And (NE c (BM c) (λ i=>AZ i c) (BK c) (λ i=>BJ i c) (Fs c) (Cn c)) (DV (UN (VY c)) Sv (SD c (VY c)) (DY (λ i=>TD (And (DB c) (FR (NZ c) (RJ c) (BR i) c (SI c (λ j=>EB j c) c (λ j=>CH j c) LD (SX jR (Value.agg (V1 (fI (Zz (Zz X1)))))) (λ j=>EU (PO (bF i c) j)) (λ j=>JF (stK (GB c) i j)) (λ j=>AG (LR (KM i c j) 0) (ET (KM i c j) 0) (PJ (EX (KM i c j))) (EG (KM i c j) 0) (PJ (FI (KM i c j))))))) i (AO c)) (λ i=>CO (LL i (AO c)) i (AO c) (Af i c) (GW (λ j=>VC (And (DB c) (FR (NZ c) (RJ c) (BH j i) c (SG c LD (λ k=>KY (PO (bF j c) k) (Jb (PO (bF i c)) (DD c i) k)) (λ k=>AQ (stK (GB c) j k) (vP (PO (bF i c)) (stK (GB c) i) (DD c i) k)) (λ k=>AG (LR (KM j c k) (Lb k c i (DD c i) (FW (KM i c k)))) (ET (KM j c k) (Lb k c i (DJ c i) (CK (KM i c k)))) (BF (EX (KM j c k)) (Lb k c i (BI (DM c i)) (BI (EX (KM i c k))))) (EG (KM j c k) (Lb k c i (EY c i) (CQ (KM i c k)))) (BF (FI (KM j c k)) (Lb k c i (Hs (BG c i)) (Hs (KM i c k)))))))) j (AO c) j i)) NG)))) := by kernel_rfl
theorem DN (c : Cht) : Cht.mk c.p c.base c.scale c.off c.ms c.ns = c := rfl
theorem B5 (c : Cht) : (AX c).c = c := rfl
theorem ADB (l : List Nt) (x : Nt) (j : Int) : hasN (l ++ [x]) j = Jb (hasN l) x.mi j := by
 unfold hasN Jb; rw [List.any_append, Bool.or_comm]
 simp only [List.any_cons, List.any_nil, Bool.or_false]
 congr 1
 rw [Bool.eq_iff_iff, beq_iff_eq, decide_eq_true_eq]; exact eq_comm
theorem ASU (l : List Nt) (x : Nt) (j : Int) : ntOf (l ++ [x]) j = bif decide (j = x.mi) then x else ntOf l j := by
 induction l with
 | nil =>
  simp only [List.nil_append, ntOf, hasN, List.any_nil, cond_false]
  have : (x.mi == j) = decide (j = x.mi) := by rw [Bool.eq_iff_iff, beq_iff_eq, decide_eq_true_eq]; exact eq_comm
  rw [this]
 | cons y l ih =>
  simp only [List.cons_append, ntOf, ih, ADB, Jb]
  cases decide (j = x.mi) <;> rfl
theorem BNW (c : Cht) (h : (c.ms.length < 4611686018427387904 /\ c.ns.length < 4611686018427387904) /\ AU c = 0) : BBD c := by
 obtain ⟨⟨hm, hn⟩, h0⟩ := h
 rw [BGO]<;> delta KY Aq BA BI FW OH PR EX FI CE AC BX CM AQ BU WF DX IP HD LS PG JV ER GP GA HQ HT HC HR DS GB ED GW TU NG SX V1 X1 BT PO LL YY ABS AV YX AE BG AW EO BN GJ GI AG GM BF BE CK QU AR CN BD AF JJ CG BC EZ AO CQ GT BS CV JL CY BO HK CR DD AL KA CF AM AT DM DR DZ GF GG DW RB AS DJ EG FC AP EY FG FS EN DC DB CS HW FV GR FZ JD DF HA RY QW KB LQ FU EH FE ET DE CJ Ap GQ BY LP FY FJ EV EJ BL MF XQ JS FL JE HY JH LR OK LV JG XJ BH JQ OM JF KV JP DV HJ DG BK IT EB KF LM LX OJ WB KR MO IS MU QP HG EU HX bF DU BM EP FQ LI AZ CH AJ CI BR BW SI KP KM GN Pd CO DY HE FF LA GO Vw ZJ NQ BJ SG NZ RJ PJ Xg LD FR VY UN fI Zz ZZ Cn Aa QQ VC TD Fs Xp Af Va XK NE Tp XA WH Bs Bh Wg Hs Aw Bb By Bu Cj Lb; simp only [CC, eq_self, implies_true, forall_const, DN, B5, h0]
 refine ⟨⟨hm, hn⟩, (λ h => by simp at h), λ _ => ⟨⟨0, ⟨rfl, rfl, λ _ => rfl, λ _ => rfl, λ _ => ⟨rfl, rfl, rfl, rfl, rfl⟩⟩, Nat.zero_le _⟩, λ k hk => ⟨λ hlt => ?_, λ hge => ?_⟩⟩⟩
 ·have hlt : k < c.ns.length := by omega
  refine ⟨by omega, k + 1, ⟨(FH (by omega)).symm, λ n => ?_, λ n => rfl, λ n => ?_⟩, by omega, by omega⟩
  ·rw [bU hlt, ADB]
  ·rw [bU hlt, ASU]
   cases decide (n = (gD c.ns k).mi) <;> exact ⟨rfl, rfl, rfl, rfl, rfl⟩
 ·obtain rfl : k = c.ns.length := by omega
  simp [AX]
theorem uH : AK Try.prog YZ (C_open.spec oQ) := XM C_open AGW [(0, 201), (1, 202)] [] ABQ (λ _ => by kernel_rfl) (λ _ => AA AKL AD) (λ c h => BNW c h) (λ _ => YR rfl rfl) _
theorem uJ : AK Try.prog YZ (C_openX.spec oQ) := XM C_openX AGW [] [] ABQ (λ _ => by kernel_rfl) (λ _ => AA AKL AD) (λ (c : Cht) h => by
 obtain ⟨⟨hm, hn⟩, h0⟩ : (c.ms.length < 4611686018427387904 /\ c.ns.length < 4611686018427387904) /\ AU c ≠ 0 := h
 have h0' : (AU c != 0) = true := by simpa using h0
 show AOZ c; rw [AYU]<;> delta KY Aq BA BI FW OH PR EX FI CE AC BX CM AQ BU DX IP HD LS PG JV ER GP GA HQ HT HC HR DS GB ED GW TU NG SX V1 X1 BT PO LL YY ABS AE BG AW EO GJ GI AG GM BF BE CK AR CN BD AF JJ CG BC EZ AO CQ GT BS CV JL CY BO HK CR DD AL KA CF AM AT DM DR DZ GF GG DW RB AS DJ EG FC AP EY FG FS EN DC DB CS HW FV GR FZ JD DF RY KB LQ FU EH FE ET DE CJ GQ BY LP FY FJ EV EJ BL XQ JS FL JE HY JH LR LV JG XJ BH JQ JF KV JP DV HJ DG BK IT EB KF LM LX WB IS MU QP HG EU HX bF DU BM EP FQ AZ CH BR BW SI KM Pd CO DY HE GO Vw BJ SG NZ RJ PJ Xg LD SD FR VY UN fI Zz ZZ Cn Aa VC TD Fs Af NE Hs Lb Sv; simp only [CC, eq_self, implies_true, forall_const, DN, h0']
 simp [hm, hn]) (λ _ => YR rfl rfl) _
def Ex (m : Int) : Int -> List Int -> Bool
 | _, [] => true
 | a, g :: r => bif TP g (wr (a + 1)) (wr (m - 2)) then Ex m g r else false
def lH (m : Int) : Int -> List Int -> (Nat -> Bool) -> Nat -> Bool
 | _, [], f, j => f j
 | a, g :: r, f, j => bif TP g (wr (a + 1)) (wr (m - 2)) then lH m g r (λ i => bif decide (i = g.toNat) then true else f i) j else f j
structure DkZ where
 w : Dk
 z : List Int
def stD (a : DkZ) : Dk := ⟨a.w.c, a.w.st, lH a.w.c.ms.length (-1) a.z a.w.sp⟩
def dDkZ : List AVal -> Heap -> Option (DkZ × List (Nat × Nat) × List Nat)
 | [.bptr id _, y], H => match oV H id, G1 y H with
  | some (w, q), some (l, f) => some (⟨w, l⟩, [(100, id), (101, q)], f)
  | _, _ => none
 | _, _ => none
structure StK where
 k : Nat
 m : Int
 f : Nat -> Bool
 deriving Inhabited
def stp3 (a : DkZ) : Shape := { α := StK, dflt := default, T := λ s => ⟨[(0, .bptr 100 0), (5, .int s.m), (8, .d (JO a.z)), (9, .int a.z.length), (10, .int s.k)], dkK ⟨a.w.c, a.w.st, s.f⟩⟩, inv := λ s => (s.k <= a.z.length /\ -1 <= s.m /\ s.m <= 40) /\ Ex a.w.c.ms.length s.m (a.z.drop s.k) = Ex a.w.c.ms.length (-1) a.z /\ ∀ j, lH a.w.c.ms.length s.m (a.z.drop s.k) s.f j = lH a.w.c.ms.length (-1) a.z a.w.sp j, meas := λ s => a.z.length - s.k }
def C_stop : Ctr := { ro := [101], α := DkZ, xs := λ a => [.bptr 100 0, .d (JO a.z)], L := λ a => dkL a.w, val := λ a => .bool (Ex a.w.c.ms.length (-1) a.z), keep := λ a => dkK (stD a), pre := λ a => [a.z.length < 4611686018427387904 /\ a.w.c.ms.length <= 40] }
def AWU (a : DkZ) : Ann := { ann 33 [(n_in, s_in)] with E := [100, 101], loops := λ id => if id = 3 then some [stp3 a] else none }
def AYM (a : DkZ) : Prop := CL Try.prog (AWU a) AOS (AH AOS) (C_stop.xs a) (AB (C_stop.L a)) (C_stop.val a) (C_stop.keep a) [] []
abbrev On:=StK.m
abbrev BV:=@List.length Int
abbrev UW:=DkZ.z
abbrev BQ:=@gD Int Int.instInhabited
abbrev Am:=StK.k
abbrev Vp:=DkZ.w
abbrev pT:=StK.f
abbrev LW:=Dk.sp
abbrev gZ:=@List.drop Int
abbrev Uc:=λ (x0 x1 : Nat) => decide (x0 = x1)
abbrev SW a b:=QU (AV a) b
abbrev Gs a b c:=LA a (SW b c)
abbrev Bl a b c d:=Xp a b (Dk.st c d)
abbrev YM a b c:=KY a (QW b c)
abbrev Br a b c d:=YM (QW a b) c d
abbrev QL a:=AV (Vp a)
abbrev LY a:=AV (stD a)
abbrev Gu a b c:=BE a 40 (KY b c)
abbrev Ye a:=NF (QL a)
abbrev Xz a b c:=Ex (Ye a) b c
abbrev IF a b (c:Nat->Prop):=AE a b (AC c)
abbrev Vi a:=HD a 40
abbrev Ba a b:=DH a (BV b)
abbrev MC a b:=AF (Dk.st a b)
abbrev ZA a b:=EZ (QW a b)
abbrev NB a b c (d:Int->Prop):=SG a b (λ i=>ZA a i) (λ i=>MC c i) d
abbrev YI a b:=MM (SW a b)
abbrev aI a b:=BQ (UW a) b
abbrev NY a b c:=BE a (BV b) c
abbrev VG a b c:=NY a b (AF c)
abbrev Bf a:=BC (BV a)
abbrev ME a b:=LL (Nat.succ a) b
abbrev Qb a b:=And (DC a) b
abbrev XS a b:=DG a (BV b)
attribute [go_sem] On BV UW BQ Am Vp pT LW gZ Uc SW Gs Bl YM Br QL LY Gu Ye Xz IF Vi Ba MC ZA NB YI aI NY VG Bf ME Qb XS
theorem BFU (a : DkZ) : (AYM a) = (And ((@Exists StK) (λ i=>AN (AE (AQ (On i) (-1)) (Bf (UW a)) (FR (AC (λ j=>VG j (UW a) (aI a j))) (BW (BV (UW a))) (BR (Am i)) (QL a) (NB (QL a) (AC (λ j=>Gu j (pT i j) (LW (Vp a) j))) (Vp a) (λ j=>YI (Vp a) j)))) (AE (Ba (Am i) (UW a)) (HD (-1) (On i)) (Vi (On i))) (KY (Xz a (On i) (gZ (Am i) (UW a))) (Xz a (-1) (UW a))) (AC (λ j=>KY (lH (Ye a) (On i) (gZ (Am i) (UW a)) (pT i) j) (lH (Ye a) (-1) (UW a) (LW (Vp a)) j))))) ((λ (f : StK -> Prop) => ∀ (x : StK), f x) (λ i=>CO (IF (AE (Ba (Am i) (UW a)) (HD (-1) (On i)) (Vi (On i))) (KY (Xz a (On i) (gZ (Am i) (UW a))) (Xz a (-1) (UW a))) (λ j=>KY (lH (Ye a) (On i) (gZ (Am i) (UW a)) (pT i) j) (lH (Ye a) (-1) (UW a) (LW (Vp a)) j))) (Am i) (BV (UW a)) (XS (Am i) (UW a)) (DX (Hn (aI a (Am i)) (FZ (On i)) (KU (Ye a) 2)) (CI (EU (Xz a (-1) (UW a))) (Aw (LY a) (QL a)) (Cj (LY a) (QL a)) (Bb (LY a) (QL a)) (By (LY a) (QL a)) (Bs (LY a) (QL a)) (QP (Bh (LY a) (QL a)) (λ j=>LI j (AW (LY a)) (BO (LY a) j) (QL a) (CF (LY a) j)) (Bu (LY a) (QL a)) (λ j=>FF j (LY a) (XA (LY a) j (QL a) j) (DJ (QL a) j) (XK (LY a) j (QL a) j) (WH (LY a) j (QL a) j) (BG (QL a) j)) (AC (λ j=>Gu j (LW (stD a) j) (pT i j))) BL (λ j=>Br (LY a) j (QL a) j) (λ j=>Bl (stD a) j (Vp a) j) (λ j=>Gs (SW (stD a) j) (Vp a) j))) (And (And (Qb (aI a (Am i)) (LS (aI a (Am i)) 40)) (ME (HV (aI a (Am i))) 40)) ((@Exists StK) (λ j=>DU (AE (AQ (On j) (aI a (Am i))) (Bf (UW a)) (FR (AC (λ k=>VG k (UW a) (aI a k))) (BW (BV (UW a))) (BH (Am j) (Am i)) (QL a) (NB (QL a) (AC (λ k=>Gu k (pT j k) (NC (Uc k (HV (aI a (Am i)))) (pT i k)))) (Vp a) (λ k=>YI (Vp a) k)))) (IF (AE (Ba (Am j) (UW a)) (HD (-1) (On j)) (Vi (On j))) (KY (Xz a (On j) (gZ (Am j) (UW a))) (Xz a (-1) (UW a))) (λ k=>KY (lH (Ye a) (On j) (gZ (Am j) (UW a)) (pT j) k) (lH (Ye a) (-1) (UW a) (LW (Vp a)) k))) (BV (UW a)) (Am j) (Am i))))) (CI (DI (Xz a (-1) (UW a))) (Aw (LY a) (QL a)) (Cj (LY a) (QL a)) (Bb (LY a) (QL a)) (By (LY a) (QL a)) (Bs (LY a) (QL a)) (QP (Bh (LY a) (QL a)) (λ j=>LI j (AW (LY a)) (BO (LY a) j) (QL a) (CF (LY a) j)) (Bu (LY a) (QL a)) (λ j=>FF j (LY a) (XA (LY a) j (QL a) j) (DJ (QL a) j) (XK (LY a) j (QL a) j) (WH (LY a) j (QL a) j) (BG (QL a) j)) (AC (λ j=>Gu j (LW (stD a) j) (pT i j))) BL (λ j=>Br (LY a) j (QL a) j) (λ j=>Bl (stD a) j (Vp a) j) (λ j=>Gs (SW (stD a) j) (Vp a) j)))))) := by kernel_rfl
theorem AKR (a : DkZ) : (stD a).c = a.w.c := rfl
theorem BNV (a : DkZ) (h : a.z.length < 4611686018427387904 /\ a.w.c.ms.length <= 40) : AYM a := by
 obtain ⟨hz, hm⟩ := h
 rw [BFU]<;> delta KY Aq BA BI FW OH PR Cs EX FI CE AC BX CM AQ BU DH DX IP HD LS PG JV ER GP GA HQ HT HC HR DS GB ED IX HV SX BT PO LL AV On BV UW BQ Am Vp pT LW gZ Uc AE BG AW AG BF BE CK QU AR CN BD AF CG BC EZ AO CQ BS CV CY BO HK CR DD AL CF AM AT DM DR DZ GF GG DW AS DJ EG FC AP EY FG SW DC DB CS HW FV GR FZ JD KU HA QW FE ET DE CJ GQ AN BY NY FJ EV KD DI BL JS FL JE HY JH LR OK LV JG XJ BH ZA JQ OM JP DV DG EB MC KF NF QL LX OJ MG WB Bf KE KR MO IS KC QP HG EU HX ME DU LI CH CI YM BR BW SI KP LY VG CO MM FF LA YI NC NQ SG Hn NB FR IF Ye Qb XS Ba Xp Va XK Tp XA WH Bs Bh Wg Aw Bb By Bl Br Gs Bu aI Cj Gu Xz Vi; simp only [CC, eq_self, implies_true, forall_const, AKR]
 have e2 : IntKind.i64.wrap ((a.w.c.ms.length : Int) - 2) = (a.w.c.ms.length : Int) - 2 := Dh (by omega) (by omega)
 refine ⟨⟨⟨0, -1, a.w.sp⟩, ⟨rfl, rfl, λ _ _ => rfl⟩, ⟨Nat.zero_le _, by show (-1 : Int) <= -1; omega, by show (-1 : Int) <= 40; omega⟩, rfl, λ _ => rfl⟩, λ s ⟨⟨s1, s2, s3⟩, s4, s5⟩ => ⟨λ hlt => ?_, λ hge => ?_⟩⟩
 ·have hlt : s.k < a.z.length := by omega
  have hd := L8 hlt
  rw [hd] at s4 s5
  have e1 : IntKind.i64.wrap (s.m + 1) = s.m + 1 := Dh (by omega) (by omega)
  refine ⟨by omega, λ h1 => ⟨?_, λ j _ => ?_, λ _ => rfl⟩, λ h1 => ?_⟩
  ·rw [<- s4]; unfold Ex wr; rw [h1]; rfl
  ·show lH _ _ _ _ j = _
   rw [<- s5 j]; unfold lH wr; rw [h1]; rfl
  ·have h2 := h1
   rw [e1, e2] at h2
   simp only [TP, Bool.and_eq_true, decide_eq_true_eq] at h2
   refine ⟨by omega, ⟨s.k + 1, gD a.z s.k, λ i => bif decide (i = (gD a.z s.k).toNat) then true else s.f i⟩, ⟨rfl, (FH (by omega)).symm, λ _ _ => rfl⟩, ⟨⟨by show s.k + 1 <= _; omega, by show -1 <= gD a.z s.k; omega, by show gD a.z s.k <= 40; omega⟩, ?_, λ j => ?_⟩, by show a.z.length - (s.k + 1) < _; omega⟩
   ·rw [<- s4]; conv => rhs; unfold Ex wr
    rw [h1]; rfl
   ·rw [<- s5 j]; conv => rhs; unfold lH wr
    rw [h1]; rfl
 ·rw [List.drop_of_length_le (by omega)] at s4 s5
  exact ⟨s4.symm, λ j _ => (s5 j).symm, λ _ => rfl⟩
theorem AIG : AK Try.prog X4 (C_stop.spec dDkZ) := XM C_stop AWU [] [] BCV (λ _ => by kernel_rfl) (λ _ => AA ACD AD) (λ a h => BNV a h) (λ _ => YR rfl rfl) _
structure CZ where
 c : Cht
 z : List Int
def dCZ : List AVal -> Heap -> Option (CZ × List (Nat × Nat) × List Nat)
 | [x, y], H => match vO x H, G1 y H with
  | some (c, f), some (l, e) => some (⟨c, l⟩, [], f ++ e)
  | _, _ => none
 | _, _ => none
def xCZ (a : CZ) : List AVal := [.d (Ef a.c), .d (JO a.z)]
def GX (a : CZ) : Dk := stD ⟨AX a.c, a.z⟩
def okZ (a : CZ) : Bool := Ex a.c.ms.length (-1) a.z
def C6 (a : CZ) : Int := bif AU a.c == 0 then bif okZ a then 0 else 2 else AU a.c
def C_beg : Ctr := { α := CZ, xs := xCZ, val := λ a => .tup [.bptr 0 0, .int (C6 a)], keep := λ a => dkN (GX a), pre := λ a => [(a.c.ms.length < 4611686018427387904 /\ a.c.ns.length < 4611686018427387904 /\ a.z.length < 4611686018427387904) /\ AU a.c = 0] }
def C_begX : Ctr := { α := CZ, xs := xCZ, val := λ a => .tup [.d (.v (.pointer none)), .int (C6 a)], keep := λ _ => [], pre := λ a => [(a.c.ms.length < 4611686018427387904 /\ a.c.ns.length < 4611686018427387904 /\ a.z.length < 4611686018427387904) /\ AU a.c ≠ 0] }
def BIZ : Ann := { ann 23 [(YZ, C_open.spec oQ), (X4, C_stop.spec dDkZ)] with md := λ id => if id = 2 then some λ k => if k = 3 ∨ k = 4 ∨ k = 5 ∨ k = 6 then 8 else 0 else none }
def AXP : Ann := { ann 23 [(YZ, C_openX.spec oQ)] with md := λ id => if id = 2 then some λ k => if k = 3 ∨ k = 4 ∨ k = 5 ∨ k = 6 then 9 else 0 else none }
def BIM (a : CZ) : Prop := CL Try.prog BIZ tQ (AH tQ) (xCZ a) (AB []) (C_beg.val a) (C_beg.keep a) [(0, 2016), (1, 2017)] []
abbrev FT:=CZ.c
abbrev SA:=@QR Int
abbrev NM:=CZ.z
abbrev Ty:=C6
abbrev Iz:=GX
abbrev N8 a b c d:=AG a b c a d
abbrev Cl a b c d:=JL (FT a) (FT b) (FT b) c d
abbrev SV a b:=BG (FT a) b
abbrev Dc a b:=GI (FT a) (λ i=>SV b i)
abbrev Ao a:=Dc a a
abbrev NV a:=AW (FT a)
abbrev ZB a:=GM (NV a) (FT a)
abbrev Db a b c d:=Cl a b (ZB c) (Ao d)
abbrev KG a:=Db a a a a
abbrev GS a:=AV (Iz a)
abbrev Nd a:=BN (KG a)
abbrev cH a b:=stD (DkZ.mk a b)
abbrev UR a (b:Nat->Int):=SA (BV a) b
abbrev VB a b:=BQ (NM a) b
abbrev QX a:=UR (NM a) (λ i=>VB a i)
abbrev pN a b c:=Dk.mk a (Dk.st b) (LW c)
abbrev ALM a b c:=pN a (YX b) c
abbrev oY a:=RB (BN a) (BN a) (BN a)
abbrev AJB a b:=ALM (oY a) b (YX b)
abbrev dA a:=AJB a a
abbrev rU a:=dA (KG a)
abbrev AJY a b:=AV (cH a b)
abbrev NX a:=AJY (rU a) (QX a)
abbrev UD a:=DH (EN a) 40
abbrev OP a:=EJ (BV a)
abbrev PY a:=OP (QX a)
abbrev Ic a b:=ntOf (JJ a) b
abbrev HZ a b c:=LA (Ic a b) c
abbrev HB a:=BT (λ i=>MC a i)
abbrev TH a:=HB (YX a)
abbrev Dj a b:=PO (JJ a) b
abbrev ZH a b c d:=YM (Dj a b) c d
abbrev NW a b:=ZH a b a b
abbrev PH a:=BT (λ i=>NW a i)
abbrev RR a:=AT (BN a)
abbrev RI a:=AS (BN a)
abbrev RU a:=AP (BN a)
abbrev RC a:=AL (BN a)
abbrev RK a:=AM (BN a)
abbrev QV a b c d:=NY a b (AQ c d)
abbrev MD a b c d e:=QV a b (BQ c d) e
abbrev GZ a b c:=MD a b b a c
abbrev QM a b c:=GZ a b (VB c a)
abbrev LJ a b:=QM a (QX b) b
abbrev Bq a:=AC (λ i=>LJ i a)
abbrev HH a b:=CE (BV a) b
abbrev EK a b:=HH a (BV b)
abbrev QC a b:=EK a (NM b)
abbrev JR a:=QC (QX a) a
abbrev HF:=EZ IX
abbrev OO a:=RT (KG a)
abbrev Df a:=DS (Ao a)
abbrev QJ a:=EJ (Df a)
abbrev TB a:=ER (ZB a)
abbrev PS a:=EJ (TB a)
abbrev VE a b c d:=NL a (Df b) c d
abbrev Bc a b:=ED (Dc a a) b
abbrev YF a b c:=VE a b (Bc b a) c
abbrev VI a b c d:=YF a b (SV c d)
abbrev PU a b:=EV (Df a) b
abbrev VO a b:=PU a (FT b)
abbrev UE a b c d e f:=LI a b c d (CV e f)
abbrev SU a b c d e f:=UE a (TB b) c d e f
abbrev JW a b c:=SU a b (CN (ZB b) a) c (ZB b) a
abbrev PF a b:=CE (TB a) b
abbrev RH a:=PF a (NV a)
attribute [go_sem] FT SA NM Ty Iz N8 Cl SV Dc Ao NV ZB Db KG GS Nd cH UR VB QX pN ALM oY AJB dA rU AJY NX UD OP PY Ic HZ HB TH Dj ZH NW PH RR RI RU RC RK QV MD GZ QM LJ Bq HH EK QC JR HF OO Df QJ TB PS VE Bc YF VI PU VO UE SU JW PF RH
theorem BOU (a : CZ) : (BIM a) = (AE (NE (FT a) (RH a) (λ i=>JW i a (FT a)) (VO a a) (λ i=>VI i a a i) (And (PS a) (QJ a)) (OO a)) HF (N8 HF HF (CW (JR a) (Bq a) (RK (KG a)) (RC (KG a)) (RU (KG a)) (DF (RI (KG a)) (RR (KG a)) (BM (Nd a)) (SE (Nd a)) (BK (Nd a)) (JB (Nd a)) Vw BL (AR (PH (Nd a)) (TH (KG a)) (BT (λ i=>HZ (Nd a) i (Ap (KG a) i))) BL (BT (λ i=>Br (Nd a) i (NX a) i)) (BT (λ i=>Bl (YX (KG a)) i (cH (rU a) (QX a)) i)) (BT (λ i=>Gs (Ap (KG a) i) (cH (rU a) (QX a)) i)) (PY a) (UD (Nd a))))) (DX (GH ((@BEq.beq Nat (@instBEqOfDecidableEq Nat instDecidableEqNat)) 0 0) (not (Ex (Nn (Nd a)) (-1) (QX a)))) (CI (AQ (Ty a) 2) (Aw (GS a) (NX a)) (Cj (GS a) (NX a)) (Bb (GS a) (NX a)) (By (GS a) (NX a)) (Bs (GS a) (NX a)) (QP (Bh (GS a) (NX a)) (λ i=>LI i (AW (GS a)) (BO (GS a) i) (NX a) (CF (GS a) i)) (Bu (GS a) (NX a)) (λ i=>FF i (GS a) (XA (GS a) i (NX a) i) (DJ (NX a) i) (XK (GS a) i (NX a) i) (WH (GS a) i (NX a) i) (BG (NX a) i)) (AC (λ i=>Gu i (LW (Iz a) i) (LW (cH (rU a) (QX a)) i))) BL (λ i=>Br (GS a) i (Nd a) i) (λ i=>Bl (Iz a) i (YX (KG a)) i) (λ i=>LA (QU (GS a) i) (Ap (KG a) i)))) (CI (JF (Ty a)) (Aw (GS a) (NX a)) (Cj (GS a) (NX a)) (Bb (GS a) (NX a)) (By (GS a) (NX a)) (Bs (GS a) (NX a)) (QP (Bh (GS a) (NX a)) (λ i=>LI i (AW (GS a)) (BO (GS a) i) (NX a) (CF (GS a) i)) (Bu (GS a) (NX a)) (λ i=>FF i (GS a) (XA (GS a) i (NX a) i) (DJ (NX a) i) (XK (GS a) i (NX a) i) (WH (GS a) i (NX a) i) (BG (NX a) i)) (AC (λ i=>Gu i (LW (Iz a) i) (LW (cH (rU a) (QX a)) i))) BL (λ i=>Br (GS a) i (Nd a) i) (λ i=>Bl (Iz a) i (YX (KG a)) i) (λ i=>LA (QU (GS a) i) (Ap (KG a) i))))))) := by kernel_rfl
def AUC (a : CZ) : Prop := CL Try.prog AXP tQ (AH tQ) (xCZ a) (AB []) (C_begX.val a) [] [] []
abbrev Ow:=@Ne Int
abbrev bE a b c d:=AG a b a c d
abbrev Y4 a b c:=bE a a b c
abbrev Lh a:=AU (KG a)
abbrev HL a b:=BX (DI a) b
abbrev XU a:=Ow a 0
attribute [go_sem] Ow bE Y4 Lh HL XU
theorem BFR (a : CZ) : (AUC a) = (AE (NE (FT a) (RH a) (λ i=>JW i a (FT a)) (VO a a) (λ i=>VI i a a i) (And (PS a) (QJ a)) (XU (Lh a))) (EU (WI (Lh a) 0)) (Y4 (EU (WI (Lh a) 0)) (HL (WI (Lh a) 0) (DI Aq)) (DV (GH (WI (Lh a) 0) Aq) Sv (AQ (Ty a) 2) (And Sv (AQ (Ty a) (Lh a)))))) := by kernel_rfl
theorem Qx (a : CZ) : (GX a).c = a.c := rfl
theorem aF (w : Dk) : Dk.mk w.c w.st w.sp = w := rfl
theorem RA {c : Cht} (h : AU c = 0) : WC c = 0 /\ (1 <= c.ms.length /\ c.ms.length <= 40) /\ c.ns.length <= 20 := by
 have h1 : WC c = 0 := by
  unfold AU at h
  cases hc : (WC c != 0) with
  | false => simpa using hc
  | true => rw [hc] at h; simpa using h
 refine ⟨h1, ?_⟩
 unfold WC at h1
 cases hc : (bif !TP c.ms.length 1 40 then true else decide ((c.ns.length : Int) > 20)) with
 | true => rw [hc] at h1; cases h1
 | false =>
  cases hb : TP c.ms.length 1 40 with
  | false => rw [hb] at hc; cases hc
  | true =>
   rw [hb] at hc
   have hc : decide ((c.ns.length : Int) > 20) = false := hc
   simp only [TP, Bool.and_eq_true, decide_eq_true_eq, decide_eq_false_iff_not] at hb hc
   omega
theorem BPA (a : CZ) (h : (a.c.ms.length < 4611686018427387904 /\ a.c.ns.length < 4611686018427387904 /\ a.z.length < 4611686018427387904) /\ AU a.c = 0) : BIM a := by
 obtain ⟨⟨hm, hn, hz⟩, h0⟩ := h
 have hl := RA h0
 rw [BOU]<;> delta KY Aq BA BI FW EX FI CE AC BX CM AQ BU DH DX ER GP GA HQ HT HC HR DS GB ED IX SX BT PO AV YX BV BQ LW FT SA NM Ty Iz AE BG AW EO BN GJ GI AG SV GM GS NV BF BE UR CK QU AR VB CN BD AF JJ CG EZ N8 AO CQ GT BS CV Dc JL CY BO CR DD AL KA ZB Ao QX Bc Cl CF AM AT DM DR GG RB AS DJ EG FC Ic Db AP EY FG FS EN SW CS FV TB DF HA RY QW KB LQ FU KG ET Ap BY LP NY FY FJ pN EV EJ cH BL XQ JS HH LR OK ALM AJY Df XJ OM JF KV HJ MT oY BK IT MC AJB KF LM EK OJ CW QV WB HB MD KR MO Dj QP BM dA EP FQ GZ LI AZ PF CI UE PU YM rU SU KP RT GH HF HE FF LA NL GO VE QC Vw OP ZH RK NQ HZ JR NX QM JW NW YF BJ RI OO TH RU PY QJ LJ RR PS RC PH RH JB ZZ Nd VO UD VI Xp SE Va XK NE Tp XA WH Bs Bh Wg Bq Aw Bb By Bl Br Gs Bu Cj Gu Nn; simp only [CC, eq_self, implies_true, forall_const, DN, B5, aF, AKR, Qx]
 have e : C6 a = bif okZ a then 0 else 2 := by unfold C6; rw [h0]; rfl
 have e2 : Ex a.c.ms.length (-1) a.z = okZ a := rfl
 have e3 : stD ⟨AX a.c, a.z⟩ = GX a := rfl
 simp only [e, e2, e3, Qx]
 have e4 : ∀ n, (AX a.c).st n = (GX a).st n := λ _ => rfl
 cases okZ a <;> simp [hm, hn, hz, h0, hl.2.1.2, e4] <;> exact ⟨λ _ => rfl, λ _ _ => rfl⟩
theorem AVL : AK Try.prog sZ (C_beg.spec dCZ) := XM C_beg (λ _ => BIZ) [(0, 2016), (1, 2017)] [] AKO (λ _ => by kernel_rfl) (λ _ => AA uH (AA AIG AD)) (λ a h => BPA a h) (λ _ => YR rfl rfl) _
theorem BCW : AK Try.prog sZ (C_begX.spec dCZ) := XM C_begX (λ _ => AXP) [] [] AKO (λ _ => by kernel_rfl) (λ _ => AA uJ AD) (λ (a : CZ) h => by
 obtain ⟨⟨hm, hn, hz⟩, h0⟩ : (a.c.ms.length < 4611686018427387904 /\ a.c.ns.length < 4611686018427387904 /\ a.z.length < 4611686018427387904) /\ AU a.c ≠ 0 := h
 have h0' : (AU a.c == 0) = false := by simpa using h0
 have e : C6 a = AU a.c := by unfold C6; rw [h0']; rfl
 show AUC a; rw [BFR]<;> delta KY Aq BA BI FW EX FI CE AC BX CM AQ DX ER GP GA HQ HT HC HR DS GB ED WI IX SX FT Ty Ow AE BG AW EO GJ GI AG SV GM NV BF BE CK AR CN BD AF CG bE Y4 AO CQ BS CV Dc JL CY BO CR AL ZB Ao Bc Cl CF AM AT DR AS EG FC Db AP FG CS FV TB DF HA FU KG ET FY FJ EV EJ DI LR OK Df HL OM DV HJ MT EU LI PF UE PU SU GH HE NL VE JW YF QJ PS RH ZZ VO VI Lh NE XU Sv; simp only [CC, eq_self, implies_true, forall_const, DN, h0', e]
 simp [hm, hn, h0]) (λ _ => YR rfl rfl) _
end Go.Bal
