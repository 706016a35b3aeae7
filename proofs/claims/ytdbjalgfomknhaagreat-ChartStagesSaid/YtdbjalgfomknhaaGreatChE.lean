/- Package chart: every. Printed by gench.py. -/
import Derived.Test.YtdbjalgfomknhaaGreatChA
set_option linter.unusedVariables false
set_option linter.unusedSimpArgs false
namespace Go.Bal
open Go Go.Sym Go.Proofs
def Pf (p : Nat -> Bool) : Nat -> Bool
 | 0 => true
 | n + 1 => Pf p n && p n
theorem Oc {p : Nat -> Bool} : ∀ {n : Nat}, Pf p n = true ↔ ∀ i, i < n -> p i = true
 | 0 => by simp [Pf]
 | n + 1 => by
  simp only [Pf, Bool.and_eq_true, Oc (n := n)]
  constructor
  ·intro h i hi
   by_cases he : i = n
   ·subst he; exact h.2
   ·exact h.1 i (by omega)
  ·exact λ h => ⟨λ i hi => h i (by omega), h n (by omega)⟩
theorem AMQ {p : Nat -> Bool} : ∀ {n k : Nat}, (0 <= aJ p n k) ↔ ∃ i, k <= i /\ i < k + n /\ p i = true
 | 0, k => by simp [aJ]; omega
 | n + 1, k => by
  simp only [aJ]
  by_cases h : p k = true
  ·rw [if_pos h]
   constructor
   ·intro _; exact ⟨k, Nat.le_refl _, by omega, h⟩
   ·intro _; omega
  ·rw [if_neg h, AMQ (n := n) (k := k + 1)]
   constructor
   ·rintro ⟨i, h1, h2, h3⟩; exact ⟨i, by omega, by omega, h3⟩
   ·rintro ⟨i, h1, h2, h3⟩
    refine ⟨i, ?_, by omega, h3⟩
    by_cases he : i = k
    ·subst he; exact absurd h3 h
    ·omega
theorem AXG {p : Nat -> Bool} {n : Nat} : (!decide (0 <= aJ (λ i => !p i) n 0)) = Pf p n := by
 rw [Bool.eq_iff_iff, Oc]
 simp only [Bool.not_eq_true', decide_eq_false_iff_not, AMQ, Nat.zero_le, Nat.zero_add, true_and]
 constructor
 ·intro h i hi
  cases hp : p i with
  | true => rfl
  | false => exact (h ⟨i, hi, by simp [hp]⟩).elim
 ·rintro h ⟨i, hi, hp⟩
  rw [h i hi] at hp; cases hp
theorem lT {α : Type} [Inhabited α] {p : α -> Bool} {l : List α} : (!decide (0 <= aJ (λ i => !p (gD l i)) l.length 0)) = l.all p := by
 rw [AXG, Bool.eq_iff_iff, Oc, List.all_eq_true]
 exact ⟨λ h x hx => by obtain ⟨i, hi, rfl⟩ := YH hx; exact h i hi, λ h i hi => h _ (WR hi)⟩
def oI (c : Cht) : AObj := .box [.int c.p.lo, .int c.p.hi, .int c.base, .int c.scale, .int c.off, .d (tT c.ms), .d (lK c.ns)]
def Em (H : Heap) (id : Nat) : Option Cht := match H id with
 | .live (.box [.d a, .d b, .d c, .d d, .d e, .d (.list _ n f _), .d (.list _ m g _)]) => some ⟨⟨HM a, HM b⟩, HM c, HM d, HM e, QR n λ i => dMk (f i), QR m λ i => dNt (g i)⟩
 | _ => none
structure ChN where
 q : Cht
 e : Nt
def C_ck1 : Ctr := { ro := [101], α := ChN, xs := λ a => [.d (eNt a.e), .bptr 101 0], L := λ a => [(101, oI a.q)], val := λ a => .bool (SP a.e a.q.ms.length), keep := λ a => [(101, .live (oI a.q))] }
def BIU : List AVal -> Heap -> Option (ChN × List (Nat × Nat) × List Nat)
 | [.d d, .bptr id _], H => match Em H id with
  | some q => some (⟨q, dNt d⟩, [(101, id)], [])
  | none => none
 | _, _ => none
def BKF : Ann := { ann 9 [(ADF, AQY)] with E := [101] }
def BHN (a : ChN) : Prop := CL Try.prog BKF Q2 (AH Q2) (C_ck1.xs a) (AB (C_ck1.L a)) (C_ck1.val a) (C_ck1.keep a) [] []
abbrev ER:=@List.length Mk
abbrev GP:=Cht.ms
abbrev GA:=Cht.p
abbrev HQ:=Cht.base
abbrev HT:=Cht.scale
abbrev HC:=Cht.off
abbrev HR:=@gD Mk instInhabitedMk
abbrev DS:=@List.length Nt
abbrev GB:=Cht.ns
abbrev ED:=@gD Nt instInhabitedNt
abbrev AR a b c d e f g h p:=AG a b c d (AG e f g h p)
abbrev DF a b c d e f (g:Nat->Prop) h p:=AR a b c d e f (AC g) h p
abbrev AT a:=AF (HC a)
abbrev AS a:=AF (HT a)
abbrev AP a:=AF (HQ a)
abbrev AL a:=CG (GA a)
abbrev AM a:=CY (GA a)
abbrev OX a b c d (e:Nat->Prop) f g:=DF (AM a) (AL b) (AP c) (AS c) (AT c) d e f g
abbrev QI a b c d (e:Nat->Prop) f (g:Nat->Prop):=OX a b c d e f (AC g)
abbrev AO a:=DS (GB a)
abbrev DB a:=BC (AO a)
abbrev QN a b (c:Nat->Prop) (d:Nat->Prop):=QI a a a b c (DB a) d
abbrev CR a b c d e f g:=BE a b (AG c d e f g)
abbrev GG a b c d e f g:=CR a (AO b) c d e f g
abbrev DZ a:=CG (FI a)
abbrev HW a b c d e f g:=GG a b c d e f (DZ g)
abbrev BG a b:=ED (GB a) b
abbrev CQ a:=BA (FI a)
abbrev EY a b:=CQ (BG a b)
abbrev JQ a b:=AF (EY a b)
abbrev DM a b:=EX (BG a b)
abbrev JD a b:=CG (DM a b)
abbrev CK a:=BA (EX a)
abbrev DJ a b:=CK (BG a b)
abbrev JE a b:=AF (DJ a b)
abbrev DD a b:=FW (BG a b)
abbrev JH a b:=AF (DD a b)
abbrev CH a b:=HW a b (JH b a) (JE b a) (JD b a) (JQ b a) (BG b a)
abbrev FE a b c d:=BS a b (AF c) (AF d)
abbrev CV a b:=Mk.ht (HR a b)
abbrev CF a b:=CV (GP a) b
abbrev CN a b:=Mk.pl (HR a b)
abbrev BO a b:=CN (GP a) b
abbrev HY a b c d e f:=FE a b (BO c d) (CF e f)
abbrev AW a:=ER (GP a)
abbrev EB a b:=HY a (AW b) b a b a
abbrev DE a:=BC (AW a)
abbrev FO a:=QN a (DE a) (λ i=>EB i a) (λ i=>CH i a)
abbrev Dw a b:=And a (FO b)
abbrev NF a:=BU (AW a)
abbrev Iy a b:=qL a (NF b)
attribute [go_sem] ER GP GA HQ HT HC HR DS GB ED AR DF AT AS AP AL AM OX QI AO DB QN CR GG DZ HW BG CQ EY JQ DM JD CK DJ JE DD JH CH FE CV CF CN BO HY AW EB DE FO Dw NF Iy
theorem BNT (a : ChN) : (BHN a) = (Dw (KY (Iy (ChN.e a) (ChN.q a)) (Iy (Nt.mk (FW (ChN.e a)) (EX (ChN.e a)) (FI (ChN.e a))) (ChN.q a))) (ChN.q a)) := by kernel_rfl
theorem BLJ : AK Try.prog tL (C_ck1.spec BIU) := XM C_ck1 (λ _ => BKF) [] [] ASX (λ _ => by kernel_rfl) (λ _ => AA AXH AD) (λ (a : ChN) _ => by
 show BHN a; rw [BNT]<;> delta KY BA BI qL FW EX FI CE AC BX CM AQ BU ER GP GA HQ HT HC HR DS GB ED AE BG AW AG BF BE CK AR CN BD AF CG BC AO CQ BS CV CY BO CR DD AL CF AM AT DM DZ GG AS DJ AP EY DB HW JD DF FE DE JE HY JH JQ EB NF OX QI QN CH FO Iy Dw; simp [wr, WU]) (λ _ => YR rfl rfl) _
def Fa (s : Span) : Bool := decide (s.lo <= s.hi)
def BCE (x : Span) : Prop := CL Try.prog (ann 8 []) ANV (AH ANV) (xS1 x) (AB []) (.bool (Fa x)) [] [] []
theorem BDY (x : Span) : (BCE x) = (KY (Fa x) (hd7 (BA x) (BI x))) := by kernel_rfl
def AHU := pD dS1 λ x => .bool (Fa x)
theorem BCX : AK Try.prog AGJ AHU := Ik xS1 hS1 λ x _ => Rc (A := ann 8 []) (ren := []) (fz := []) BCU (by kernel_rfl) AD (by
 show BCE x; rw [BDY]<;> delta KY hd7 BA BI; try simp [Fa])
def AZB (x : Span) : Prop := CL Try.prog (ann 8 []) ALS (AH ALS) (xS1 x) (AB []) (.bool (Fa x)) [] [] []
theorem BDS (x : Span) : (AZB x) = (KY (Fa x) (hd7 (BA x) (BI x))) := by kernel_rfl
theorem BCQ : AK Try.prog ADO AHU := Ik xS1 hS1 λ x _ => Rc (A := ann 8 []) (ren := []) (fz := []) BEO (by kernel_rfl) AD (by
 show AZB x; rw [BDS]<;> delta KY hd7 BA BI; try simp [Fa])
def LXNr (q : Cht) : List (Nat × AObj) := [(101, oI q)]
def KXNr (q : Cht) : List (Nat × HCell) := [(101, .live (oI q))]
def fvNr (q : Cht) : AVal := .fn (.func tL) [] [.bptr 101 0]
def BNr (q : Cht) : AObj := .box [fvNr q]
structure ENr where
 q : Cht
 e : Nt
structure MNr where
 q : Cht
 l : List Nt
def C1Nr : Ctr := { ro := [100, 101], α := ENr, xs := λ a => [.d (eNt a.e), .bptr 100 0], L := λ a => (100, BNr a.q) :: LXNr a.q, val := λ a => .bool (!SP a.e a.q.ms.length), keep := λ a => (100, .live (BNr a.q)) :: KXNr a.q }
def d1Nr : List AVal -> Heap -> Option (ENr × List (Nat × Nat) × List Nat)
 | [.d d, .bptr id _], H => match H id with
  | .live (.box [.fn _ _ [.bptr j _]]) => match Em H j with
   | some q => some (⟨q, dNt d⟩, [(100, id), (101, j)], [])
   | none => none
  | _ => none
 | _, _ => none
def A1Nr : Ann := { ann 8 [(tL, C_ck1.spec BIU)] with E := [100, 101] }
def V1Nr (a : ENr) : Prop := CL Try.prog A1Nr AYV (AH AYV) (C1Nr.xs a) (AB (C1Nr.L a)) (C1Nr.val a) (C1Nr.keep a) [] []
abbrev hd70:=ENr.e
abbrev Yd:=ENr.q
abbrev GJ a b:=(@QR Mk) a (λ i=>HR b i)
abbrev GM a b:=GJ a (GP b)
abbrev KA a:=GM (AW a) a
abbrev EN a:=ER (KA a)
abbrev Nn a:=BU (EN a)
abbrev CI a b c d e f g:=AE a b (AG c d e f g)
abbrev FP a b c d e (f:Nat->Prop) g h p:=AR a b c d e (AC f) g h p
abbrev FC a b:=BD a (FI b)
abbrev FG a b:=FC (FI a) b
abbrev MO a b c:=AQ (DJ a b) c
abbrev FF a b c d e f g:=GG a b c (MO b a d) e f (FG (BG b a) g)
abbrev OV a b c:=AQ (DD a b) c
abbrev EO a (b:Nat->Nt):=(@QR Nt) (DS a) b
abbrev GI a (b:Nat->Nt):=EO (GB a) b
abbrev JJ a:=GI a (λ i=>BG a i)
abbrev GT a b:=ED (JJ a) b
abbrev KB a b:=FW (GT a b)
abbrev KL a b c d e f g h:=FF a b (OV c d (KB c d)) e f g h
abbrev EG a b:=AQ (CQ a) b
abbrev HA a b:=EG a (CQ b)
abbrev QY a b c:=HA (BG a b) c
abbrev OJ a b c:=BD (DM a b) c
abbrev QS a b c:=OJ a b (EX c)
abbrev CP a b:=KL a b b a (CK (GT b a)) (QS b a (GT b a)) (QY b a (GT b a)) (GT b a)
abbrev MR a b:=CE (AO a) b
abbrev FS a:=DS (JJ a)
abbrev BZ a:=MR a (FS a)
abbrev DR a b c d e:=BS a b (AQ c d) e
abbrev CS a b c d e f:=DR a b c d (AQ e f)
abbrev JC a b c d e f g:=CS a b (BO c d) e (CF f a) g
abbrev JN a b c d e f g:=JC a (AW b) c d e f g
abbrev LQ a b:=CV (KA a) b
abbrev LP a b:=CN (KA a) b
abbrev EE a b:=JN a b b a (LP b a) b (LQ b a)
abbrev KR a b:=CE (AW a) b
abbrev CA a:=KR a (EN a)
abbrev FU a b c d e f g h:=CR a b c d e f (FG g h)
abbrev FV a b:=BD (EX a) b
abbrev FY a b c d e f g h p:=FU a b c d (FV e f) g h p
abbrev JS a b c:=EG a (EY b c)
abbrev IT a b:=JS (GT a b) a b
abbrev KF a b c:=AQ a (DD b c)
abbrev EP a b:=KF (KB a b) a b
abbrev GO a b c d e f:=FY a (FS b) (EP c d) e f (DM b a) (IT b a) f (BG b a)
abbrev ET a b:=AQ (CK a) b
abbrev KV a b c:=ET a (DJ b c)
abbrev FQ a b:=KV (GT a b) a b
abbrev BJ a b:=GO a b b a (FQ b a) (GT b a)
abbrev JB a:=AC (λ i=>BJ i a)
abbrev EV a b:=CE a (AO b)
abbrev BK a:=EV (FS a) a
abbrev FJ a b c d e f g:=CS a b c d e (CF f g)
abbrev LM a b c d e:=FJ a b (LP c d) (BO e a) (LQ e a) e a
abbrev AZ a b:=LM a (EN b) b a b
abbrev BM a:=CE (EN a) (AW a)
abbrev KE a:=AF (CQ a)
abbrev KD a:=CG (EX a)
abbrev KC a:=AF (CK a)
abbrev MG a:=AF (FW a)
attribute [go_sem] hd70 Yd GJ GM KA EN Nn CI FP FC FG MO FF OV EO GI JJ GT KB KL EG HA QY OJ QS CP MR FS BZ DR CS JC JN LQ LP EE KR CA FU FV FY JS IT KF EP GO ET KV FQ BJ JB EV BK FJ LM AZ BM KE KD KC MG
theorem BOX (a : ENr) : (V1Nr a) = (AE (CI (MG (hd70 a)) (KC (hd70 a)) (KD (hd70 a)) (KE (hd70 a)) (DZ (hd70 a)) (AM (Yd a)) (FP (AL (Yd a)) (AP (Yd a)) (AS (Yd a)) (AT (Yd a)) (BM (Yd a)) (λ i=>AZ i (Yd a)) (BK (Yd a)) (JB (Yd a)) (QI (Yd a) (Yd a) (Yd a) (CA (Yd a)) (λ i=>EE i (Yd a)) (BZ (Yd a)) (λ i=>CP i (Yd a))))) (KY (not (Iy (hd70 a) (Yd a))) (not (qL (Nt.mk (FW (hd70 a)) (EX (hd70 a)) (FI (hd70 a))) (Nn (Yd a))))) (FO (Yd a))) := by kernel_rfl
theorem BQJ : AK Try.prog AJK (C1Nr.spec d1Nr) := XM C1Nr (λ _ => A1Nr) [] [] BML (λ _ => by kernel_rfl) (λ _ => AA BLJ AD) (λ (a : ENr) h => by
 show V1Nr a; rw [BOX]<;> delta KY BA BI qL FW EX FI CE AC BX CM AQ BU ER GP GA HQ HT HC HR DS GB ED hd70 Yd AE BG AW EO GJ GI AG GM BF BE CK AR CN BD AF JJ CG BC AO CQ GT BS CV CY BO CR DD AL KA CF AM AT DM DR DZ GG AS DJ EG FC AP EY FG FS EN DB CS HW FV JD DF HA KB LQ FU FE ET DE LP FY FJ EV KD JS JE HY JH JQ KV BK IT EB KF NF LM OJ MR MG OX KE QI KR MO KC OV QS QY BM BZ CA EP FQ QN AZ CH JC CI JN FP FF FO GO KL EE BJ CP Iy JB Nn; try simp [wr, WU]) (λ _ => YR rfl rfl) _
def d2Nr : List AVal -> Heap -> Option (MNr × List (Nat × Nat) × List Nat)
 | [y, .fn _ _ [.bptr id _]], H => match vH y H with
  | some (n, g, f) => match H id with
   | .live (.box [.fn _ _ [.bptr j _]]) => match Em H j with
    | some q => some (⟨q, QR n λ i => dNt (g i)⟩, [(100, id), (101, j)], f)
    | none => none
   | _ => none
  | none => none
 | _, _ => none
def A2Nr (a : MNr) : Ann := { ann 19 [(AJK, C1Nr.spec d1Nr)] with E := [100, 101], loops := λ id => if id = 2 then some [{ α := Nat, dflt := 0, T := λ k => ⟨[(0, .d (lK a.l)), (1, .fn (.func AJK) [] [.bptr 100 0]), (7, .int a.l.length), (8, .int k)], (100, .live (BNr a.q)) :: KXNr a.q⟩, inv := λ k => k <= a.l.length /\ aJ (λ i => !SP (gD a.l i) a.q.ms.length) a.l.length 0 = aJ (λ i => !SP (gD a.l i) a.q.ms.length) (a.l.length - k) k, meas := λ k => a.l.length - k }] else none }
def PNr (a : MNr) : List Prop := [a.l.length < 4611686018427387904 /\ True]
def C2Nr : Ctr := { ro := [100, 101], α := MNr, xs := λ a => [.d (lK a.l), .fn (.func AJK) [] [.bptr 100 0]], L := λ a => (100, BNr a.q) :: LXNr a.q, val := λ a => .int (aJ (λ i => !SP (gD a.l i) a.q.ms.length) a.l.length 0), keep := λ a => (100, .live (BNr a.q)) :: KXNr a.q, pre := PNr }
def V2Nr (a : MNr) : Prop := CL Try.prog (A2Nr a) ALD (AH ALD) (C2Nr.xs a) (AB (C2Nr.L a)) (C2Nr.val a) (C2Nr.keep a) [] []
abbrev GW:=@Exists Nat
abbrev NH:=MNr.q
abbrev MU a (b:Nat->Prop):=And a (AC b)
abbrev DY (a:Nat->Prop) (b:Nat->Prop):=MU (GW a) b
abbrev Vv (a:Nat->Bool) b c:=aJ (λ i=>not (a i)) b c
abbrev Fw (a:Nat->Bool) b:=Vv a b 0
abbrev Je (a:Nat->Bool) b c:=AQ (Fw a b) c
abbrev TJ a:=DS (MNr.l a)
abbrev yA a b:=Iy a (NH b)
abbrev XR a b:=ED (MNr.l a) b
abbrev Pq a b c:=yA (XR a b) c
abbrev Cq (a:Nat->Bool) b (c:Nat->Bool) d e:=Je a b (Vv c (JV b d) e)
abbrev HP a b c d e f g h:=AN a b c (AG d e f g h)
attribute [go_sem] GW NH MU DY Vv Fw Je TJ yA XR Pq Cq HP
theorem BPK (a : MNr) : (V2Nr a) = (DY (λ i=>ML (AG (BC (TJ a)) (AC (λ j=>CR j (TJ a) (MG (XR a j)) (KC (XR a j)) (KD (XR a j)) (KE (XR a j)) (DZ (XR a j)))) (BW (TJ a)) (BR i) (FO (NH a))) i (TJ a) (Cq (λ j=>Pq a j a) (TJ a) (λ j=>Pq a j a) i i)) (λ i=>CO (JI i (TJ a) (Cq (λ j=>Pq a j a) (TJ a) (λ j=>Pq a j a) i i)) i (TJ a) (HP (DG i (TJ a)) (MG (XR a i)) (KC (XR a i)) (KD (XR a i)) (KE (XR a i)) (DZ (XR a i)) (AM (NH a)) (FP (AL (NH a)) (AP (NH a)) (AS (NH a)) (AT (NH a)) (BM (NH a)) (λ j=>AZ j (NH a)) (BK (NH a)) (JB (NH a)) (QI (NH a) (NH a) (NH a) (CA (NH a)) (λ j=>EE j (NH a)) (BZ (NH a)) (λ j=>CP j (NH a))))) (DV (not (qL (Nt.mk (FW (XR a i)) (EX (XR a i)) (FI (XR a i))) (Nn (NH a)))) (Je (λ j=>Pq a j a) (TJ a) (BU i)) (FO (NH a)) (GW (λ j=>LH (AG (BC (TJ a)) (AC (λ k=>CR k (TJ a) (MG (XR a k)) (KC (XR a k)) (KD (XR a k)) (KE (XR a k)) (DZ (XR a k)))) (BW (TJ a)) (BH j i) (FO (NH a))) j (TJ a) (Cq (λ k=>Pq a k a) (TJ a) (λ k=>Pq a k a) j j) i))) (Dw (Je (λ j=>Pq a j a) (TJ a) (-1)) (NH a)))) := by kernel_rfl
theorem p2Nr (a : MNr) (h : EF (PNr a)) : V2Nr a := by
 obtain ⟨h, hp⟩ : a.l.length < 4611686018427387904 /\ True := h
 rw [BPK]<;> delta BA BI qL FW OH PR EX FI CE AC BX CM AQ BU DH DX IP HD LS PG JV ER GP GA HQ HT HC HR DS GB ED GW NH AE BG AW EO GJ GI AG GM BF BE CK AR CN BD AF JJ CG BC AO CQ GT BS CV CY BO HK CR DD AL KA CF AM AT DM DR DZ GF GG DW AS DJ EG FC AP EY FG FS EN DC DB CS HW FV GR FZ JD DF HA KB LQ FU FE ET DE CJ GQ AN LP FY FJ EV KD JS FL JE HY JH LV JG BH JI JQ KV JP DV DG BK IT EB KF NF LM LX OJ MR MG OX KE QI KR MO IS KC MU OV XR QS QY HG HX Vv DU BM BZ CA EP FQ QN AZ CH JC BR BW JN FP CO DY HP FF FO GO KL Fw EE BJ TJ Je CP Iy ZX LH JB ML yA Dw Pq Cq Nn
 simp only [CC, eq_self, implies_true, forall_const]
 refine ⟨⟨0, rfl, Nat.zero_le _, rfl⟩, λ k ⟨h1, h2⟩ => ⟨λ hlt => ?_, λ hge => ?_⟩⟩
 ·have hlt : k < a.l.length := by omega
  refine ⟨⟨by omega, by omega⟩, λ hp => ?_, λ hp => ⟨k + 1, (FH (by omega)).symm, ⟨by omega, ?_⟩, by omega⟩⟩
  ·rw [h2]; exact iM hlt (by simpa using hp)
  ·rw [h2]; exact Z4 hlt (by simpa using hp)
 ·rw [h2]; exact uK (by omega)
theorem BRJ : AK Try.prog ALK (C2Nr.spec d2Nr) := XM C2Nr A2Nr [] [] BAW (λ _ => by kernel_rfl) (λ _ => AA BQJ AD) p2Nr (λ _ => YR rfl rfl) _
def C3Nr : Ctr := { C2Nr with val := λ (a : MNr) => .bool (decide (aJ (λ i => !SP (gD a.l i) a.q.ms.length) a.l.length 0 >= 0)) }
def d3Nr : List AVal -> Heap -> Option (C3Nr.α × List (Nat × Nat) × List Nat) := d2Nr
def A3Nr : Ann := { ann 9 [(ALK, C2Nr.spec d2Nr)] with E := [100, 101] }
def V3Nr (a : MNr) : Prop := CL Try.prog A3Nr AKN (AH AKN) (C3Nr.xs a) (AB (C3Nr.L a)) (C3Nr.val a) (C3Nr.keep a) [] []
abbrev LG:=True
abbrev Kc a:=lI a 0
abbrev VD (a:Nat->Bool) b:=Kc (Fw a b)
abbrev iU a b:=EO (MNr.l a) (λ i=>XR b i)
abbrev Uu a b:=DS (iU a b)
abbrev CW a b c d e f:=And a (AG b c d e f)
abbrev JA a b c d (e:Nat->Prop) f g h:=FP (AS a) (AT a) b c d e f g h
abbrev HJ a b c d (e:Nat->Prop) f (g:Nat->Prop) h p:=DF a b c d (AC e) f g h p
abbrev HE a b (c:Nat->Prop) d (e:Nat->Prop) f g:=HJ (AP a) (AS a) (AT a) b c d e f g
abbrev EJ a:=CM a 4611686018427387904
abbrev SE a:=AC (λ i=>AZ i a)
abbrev MT a b c d e f g h:=FY a b c d e f g e h
abbrev OK a b:=ET a (CK b)
abbrev LR a b:=AQ (FW a) b
abbrev OM a b:=LR a (FW b)
abbrev NL a b c d:=MT a b (OM c d) (OK c d) c (EX d) (HA c d) d
abbrev Al a b c d e:=NL a b (ED c d) e
attribute [go_sem] LG Kc VD iU Uu CW JA HJ HE EJ SE MT OK LR OM NL Al
theorem BPP (a : MNr) : (V3Nr a) = (AE (CW (CE (Uu a a) (TJ a)) (AC (λ i=>Al i (Uu a a) (iU a a) i (XR a i))) (AM (NH a)) (AL (NH a)) (AP (NH a)) (JA (NH a) (BM (NH a)) (SE (NH a)) (BK (NH a)) (λ i=>BJ i (NH a)) (AM (NH a)) (AL (NH a)) (HE (NH a) (CA (NH a)) (λ i=>EE i (NH a)) (BZ (NH a)) (λ i=>CP i (NH a)) (EJ (Uu a a)) LG))) (KY (VD (λ i=>Pq a i a) (TJ a)) (VD (λ i=>qL (ED (iU a a) i) (Nn (NH a))) (Uu a a))) (FO (NH a))) := by kernel_rfl
theorem BRG : AK Try.prog AKF (C3Nr.spec d3Nr) := Ctr.spec_ok (C := C3Nr) (λ (a : MNr) h => Rc (A := A3Nr) (ren := []) (fz := []) BBR (by kernel_rfl) (AA BRJ AD) (by
 obtain ⟨h, hp⟩ : a.l.length < 4611686018427387904 /\ True := h
 show V3Nr a; rw [BPP]<;> delta KY lI BA BI qL FW EX FI CE AC BX CM AQ BU ER GP GA HQ HT HC HR DS GB ED NH LG AE BG AW EO GJ GI AG GM BF BE CK AR CN BD AF JJ CG BC AO CQ GT BS CV CY BO CR DD AL KA CF AM AT DM DR DZ GG AS DJ EG FC AP EY FG FS EN DB CS HW FV JD DF HA KB LQ FU FE ET DE LP FY FJ EV EJ JS JE HY JH LR OK JQ OM KV HJ MT BK IT EB KF NF LM OJ MR CW OX QI KR MO OV XR QS QY Vv BM BZ CA EP FQ QN AZ CH JC JN FP HE FF NL FO GO KL Fw JA EE BJ TJ CP Iy Kc VD iU yA SE Al Pq Uu Nn; simp [h, WU])) _
def d4Nr : List AVal -> Heap -> Option (MNr × List (Nat × Nat) × List Nat)
 | [y, .fn _ _ [.bptr j _]], H => match vH y H with
  | some (n, g, f) => match Em H j with
   | some q => some (⟨q, QR n λ i => dNt (g i)⟩, [(101, j)], f)
   | none => none
  | none => none
 | _, _ => none
def A4Nr : Ann := { ann 9 [(AKF, C3Nr.spec d3Nr)] with E := [101] }
def C4Nr : Ctr := { ro := [101], α := MNr, xs := λ a => [.d (lK a.l), fvNr a.q], L := λ a => LXNr a.q, val := λ a => .bool (a.l.all λ x => SP x a.q.ms.length), keep := λ a => KXNr a.q, pre := PNr }
def V4Nr (a : MNr) : Prop := CL Try.prog A4Nr F_eN (AH F_eN) (C4Nr.xs a) (AB (C4Nr.L a)) (C4Nr.val a) (C4Nr.keep a) [] []
abbrev hd80:=@List.all Nt
attribute [go_sem] hd80
theorem BQR (a : MNr) : (V4Nr a) = (AE (CW (CE (Uu a a) (TJ a)) (AC (λ i=>Al i (Uu a a) (iU a a) i (XR a i))) (AM (NH a)) (AL (NH a)) (AP (NH a)) (JA (NH a) (BM (NH a)) (SE (NH a)) (BK (NH a)) (λ i=>BJ i (NH a)) (AM (NH a)) (AL (NH a)) (HE (NH a) (CA (NH a)) (λ i=>EE i (NH a)) (BZ (NH a)) (λ i=>CP i (NH a)) (EJ (Uu a a)) LG))) (KY (hd80 (MNr.l a) (λ i=>yA i a)) (not (VD (λ i=>qL (ED (iU a a) i) (Nn (NH a))) (Uu a a)))) (FO (NH a))) := by kernel_rfl
theorem BRF (a : MNr) (h : EF (PNr a)) : FnT Try.prog n_eN (C4Nr.xs a) (AB (C4Nr.L a)) (C4Nr.val a) (C4Nr.keep a) := Rc (A := A4Nr) (ren := []) (fz := []) BQK (by kernel_rfl) (AA BRG AD) (by
 have h' : a.l.length < 4611686018427387904 /\ True := h
 show V4Nr a; rw [BQR]<;> delta KY lI BA BI qL FW EX FI CE AC BX CM AQ BU ER GP GA HQ HT HC HR DS GB ED NH LG hd80 AE BG AW EO GJ GI AG GM BF BE CK AR CN BD AF JJ CG BC AO CQ GT BS CV CY BO CR DD AL KA CF AM AT DM DR DZ GG AS DJ EG FC AP EY FG FS EN DB CS HW FV JD DF HA KB LQ FU FE ET DE LP FY FJ EV EJ JS JE HY JH LR OK JQ OM KV HJ MT BK IT EB KF NF LM OJ MR CW OX QI KR MO OV XR QS QY Vv BM BZ CA EP FQ QN AZ CH JC JN FP HE FF NL FO GO KL Fw JA EE BJ TJ CP Iy Kc VD iU yA SE Al Uu Nn; simp only [CC, eq_self, implies_true, forall_const, ge_iff_le]
 rw [<- lT]
 exact ⟨h'.1, rfl⟩)
theorem BQW : AK Try.prog n_eN (C4Nr.spec d4Nr) := Ctr.spec_ok (C := C4Nr) BRF _
def fvSa (q : One) : AVal := .fn (.func AGJ) [] []
def BSa (q : One) : AObj := .box [fvSa q]
structure ESa where
 q : One
 e : Span
structure MSa where
 q : One
 l : List Span
def C1Sa : Ctr := { ro := [100], α := ESa, xs := λ a => [.d (FX a.e), .bptr 100 0], L := λ a => (100, BSa a.q) :: [], val := λ a => .bool (!Fa a.e), keep := λ a => (100, .live (BSa a.q)) :: [] }
def d1Sa : List AVal -> Heap -> Option (ESa × List (Nat × Nat) × List Nat)
 | [.d d, .bptr id _], H => some (⟨default, Ku d⟩, [(100, id)], [])
 | _, _ => none
def A1Sa : Ann := { ann 8 [(AGJ, AHU)] with E := [100] }
def V1Sa (a : ESa) : Prop := CL Try.prog A1Sa AKA (AH AKA) (C1Sa.xs a) (AB (C1Sa.L a)) (C1Sa.val a) (C1Sa.keep a) [] []
abbrev EZ a:=KY a a
attribute [go_sem] EZ
theorem BRT (a : ESa) : (V1Sa a) = (EZ (not (Fa (ESa.e a)))) := by kernel_rfl
theorem BQG : AK Try.prog uM (C1Sa.spec d1Sa) := XM C1Sa (λ _ => A1Sa) [] [] AZK (λ _ => by kernel_rfl) (λ _ => AA BCX AD) (λ (a : ESa) h => by
 show V1Sa a; rw [BRT]<;> delta KY EZ; try simp [wr, WU]) (λ _ => YR rfl rfl) _
def d2Sa : List AVal -> Heap -> Option (MSa × List (Nat × Nat) × List Nat)
 | [y, .fn _ _ [.bptr id _]], H => match vH y H with
  | some (n, g, f) => some (⟨default, QR n λ i => Ku (g i)⟩, [(100, id)], f)
  | none => none
 | _, _ => none
def A2Sa (a : MSa) : Ann := { ann 19 [(uM, C1Sa.spec d1Sa)] with E := [100], loops := λ id => if id = 2 then some [{ α := Nat, dflt := 0, T := λ k => ⟨[(0, .d (DA a.l)), (1, .fn (.func uM) [] [.bptr 100 0]), (7, .int a.l.length), (8, .int k)], (100, .live (BSa a.q)) :: []⟩, inv := λ k => k <= a.l.length /\ aJ (λ i => !Fa (gD a.l i)) a.l.length 0 = aJ (λ i => !Fa (gD a.l i)) (a.l.length - k) k, meas := λ k => a.l.length - k }] else none }
def PSa (a : MSa) : List Prop := [a.l.length < 4611686018427387904 /\ True]
def C2Sa : Ctr := { ro := [100], α := MSa, xs := λ a => [.d (DA a.l), .fn (.func uM) [] [.bptr 100 0]], L := λ a => (100, BSa a.q) :: [], val := λ a => .int (aJ (λ i => !Fa (gD a.l i)) a.l.length 0), keep := λ a => (100, .live (BSa a.q)) :: [], pre := PSa }
def V2Sa (a : MSa) : Prop := CL Try.prog (A2Sa a) AKI (AH AKI) (C2Sa.xs a) (AB (C2Sa.L a)) (C2Sa.val a) (C2Sa.keep a) [] []
abbrev Uj:=MSa.l
abbrev YN a:=CU (Uj a)
abbrev Nu a b:=Fa (LU a b)
abbrev Nl a b:=Nu (Uj a) b
abbrev PB a b (c:Nat->Prop):=DX a b (GW c)
attribute [go_sem] Uj YN Nu Nl PB
theorem BQZ (a : MSa) : (V2Sa a) = (DY (λ i=>ML (AN (NO (Uj a)) (IZ (Uj a)) (BW (YN a)) (BR i)) i (YN a) (Cq (λ j=>Nl a j) (YN a) (λ j=>Nl a j) i i)) (λ i=>CO (JI i (YN a) (Cq (λ j=>Nl a j) (YN a) (λ j=>Nl a j) i i)) i (YN a) (AE (DG i (YN a)) (ZC (Uj a) i) (ZD (Uj a) i)) (PB (not (Nl a i)) (Je (λ j=>Nl a j) (YN a) (BU i)) (λ j=>LH (AN (NO (Uj a)) (IZ (Uj a)) (BW (YN a)) (BH j i)) j (YN a) (Cq (λ k=>Nl a k) (YN a) (λ k=>Nl a k) j j) i)) (Je (λ j=>Nl a j) (YN a) (-1)))) := by kernel_rfl
theorem p2Sa (a : MSa) (h : EF (PSa a)) : V2Sa a := by
 obtain ⟨h, hp⟩ : a.l.length < 4611686018427387904 /\ True := h
 rw [BQZ]<;> delta BA BI OH PR CE CU AC BX CM AQ LU BU DH DX IP HD LS PG JV GW Uj AE BF BE BD AF CG BC BS CY HK GF DW DC GR FZ CJ GQ AN FL LV JG BH JI ZC JP ZD NO DV DG LX IS MU HG HX Vv DU TW BR BW IZ CO DY Fw Nu YN Je ZX LH ML PB Nl Cq
 simp only [CC, eq_self, implies_true, forall_const]
 refine ⟨⟨0, rfl, Nat.zero_le _, rfl⟩, λ k ⟨h1, h2⟩ => ⟨λ hlt => ?_, λ hge => ?_⟩⟩
 ·have hlt : k < a.l.length := by omega
  refine ⟨⟨by omega, by omega⟩, λ hp => ?_, λ hp => ⟨k + 1, (FH (by omega)).symm, ⟨by omega, ?_⟩, by omega⟩⟩
  ·rw [h2]; exact iM hlt (by simpa using hp)
  ·rw [h2]; exact Z4 hlt (by simpa using hp)
 ·rw [h2]; exact uK (by omega)
theorem BRR : AK Try.prog AKP (C2Sa.spec d2Sa) := XM C2Sa A2Sa [] [] AYI (λ _ => by kernel_rfl) (λ _ => AA BQG AD) p2Sa (λ _ => YR rfl rfl) _
def C3Sa : Ctr := { C2Sa with val := λ (a : MSa) => .bool (decide (aJ (λ i => !Fa (gD a.l i)) a.l.length 0 >= 0)) }
def d3Sa : List AVal -> Heap -> Option (C3Sa.α × List (Nat × Nat) × List Nat) := d2Sa
def A3Sa : Ann := { ann 9 [(AKP, C2Sa.spec d2Sa)] with E := [100] }
def V3Sa (a : MSa) : Prop := CL Try.prog A3Sa AKZ (AH AKZ) (C3Sa.xs a) (AB (C3Sa.L a)) (C3Sa.val a) (C3Sa.keep a) [] []
abbrev Ak:=@QR Span
abbrev ND a b c d e:=And (AN a b c d) e
abbrev Uf a (b:Nat->Span):=Ak (CU a) b
abbrev Tx a b:=Uf a (λ i=>LU b i)
abbrev MQ a:=CU (Tx a a)
abbrev PM a:=Tx a a
abbrev JZ a b c d e f:=DR a b c d (BD e f)
abbrev OC a b c d e f g:=JZ a b (EM c d) e (LU f a) g
abbrev TI a b c d e f g h p:=OC a b c d (EM e f) g (LU h p)
abbrev RP a b c d e f:=TI a b c a d e c d f
abbrev MJ a b c d:=RP a b c d a a
abbrev NU a b c:=AC (λ i=>MJ i a b c)
abbrev Ie a b:=NU a (PM b) b
abbrev VX a:=Ie (MQ a) a
abbrev NA a b:=CE (MQ a) b
attribute [go_sem] Ak ND Uf Tx MQ PM JZ OC TI RP MJ NU Ie VX NA
theorem BPF (a : MSa) : (V3Sa a) = (ND (NA (Uj a) (YN a)) (VX (Uj a)) (EJ (MQ (Uj a))) LG (KY (VD (λ i=>Nl a i) (YN a)) (VD (λ i=>Nu (PM (Uj a)) i) (MQ (Uj a))))) := by kernel_rfl
theorem BPO : AK Try.prog AJM (C3Sa.spec d3Sa) := Ctr.spec_ok (C := C3Sa) (λ (a : MSa) h => Rc (A := A3Sa) (ren := []) (fz := []) AWM (by kernel_rfl) (AA BRR AD) (by
 obtain ⟨h, hp⟩ : a.l.length < 4611686018427387904 /\ True := h
 show V3Sa a; rw [BPF]<;> delta KY lI BA BI CE CU AC BX CM AQ LU LG Uj Ak AE BF BE BD BS DR Uf EM AN EJ Tx JZ PM MQ Vv OC TI RP MJ Fw Nu YN NU NA ND Kc VD Ie Nl VX; simp [h, WU])) _
def d4Sa : List AVal -> Heap -> Option (MSa × List (Nat × Nat) × List Nat)
 | [y, .fn _ _ _], H => match vH y H with
  | some (n, g, f) => some (⟨default, QR n λ i => Ku (g i)⟩, [], f)
  | none => none
 | _, _ => none
def A4Sa : Ann := { ann 9 [(AJM, C3Sa.spec d3Sa)] with E := [] }
def C4Sa : Ctr := { ro := [], α := MSa, xs := λ a => [.d (DA a.l), fvSa a.q], L := λ a => [], val := λ a => .bool (a.l.all λ x => Fa x), keep := λ a => [], pre := PSa }
def V4Sa (a : MSa) : Prop := CL Try.prog A4Sa F_eS (AH F_eS) (C4Sa.xs a) (AB (C4Sa.L a)) (C4Sa.val a) (C4Sa.keep a) [] []
abbrev kH:=@List.all Span
attribute [go_sem] kH
theorem BPI (a : MSa) : (V4Sa a) = (ND (NA (Uj a) (YN a)) (VX (Uj a)) (EJ (MQ (Uj a))) LG (KY (kH (Uj a) Fa) (not (VD (λ i=>Nu (PM (Uj a)) i) (MQ (Uj a)))))) := by kernel_rfl
theorem BIJ (a : MSa) (h : EF (PSa a)) : FnT Try.prog n_eS (C4Sa.xs a) (AB (C4Sa.L a)) (C4Sa.val a) (C4Sa.keep a) := Rc (A := A4Sa) (ren := []) (fz := []) BJK (by kernel_rfl) (AA BPO AD) (by
 have h' : a.l.length < 4611686018427387904 /\ True := h
 show V4Sa a; rw [BPI]<;> delta KY lI BA BI CE CU AC BX CM AQ LU LG Uj Ak kH AE BF BE BD BS DR Uf EM AN EJ Tx JZ PM MQ Vv OC TI RP MJ Fw Nu YN NU NA ND Kc VD Ie VX; simp only [CC, eq_self, implies_true, forall_const, ge_iff_le]
 rw [<- lT]
 exact ⟨h'.1, rfl⟩)
theorem BPT : AK Try.prog n_eS (C4Sa.spec d4Sa) := Ctr.spec_ok (C := C4Sa) BIJ _
def fvSn (q : One) : AVal := .fn (.func ADO) [] []
def BSn (q : One) : AObj := .box [fvSn q]
structure ESn where
 q : One
 e : Span
structure MSn where
 q : One
 l : List Span
def C1Sn : Ctr := { ro := [100], α := ESn, xs := λ a => [.d (FX a.e), .bptr 100 0], L := λ a => (100, BSn a.q) :: [], val := λ a => .bool (!Fa a.e), keep := λ a => (100, .live (BSn a.q)) :: [] }
def d1Sn : List AVal -> Heap -> Option (ESn × List (Nat × Nat) × List Nat)
 | [.d d, .bptr id _], H => some (⟨default, Ku d⟩, [(100, id)], [])
 | _, _ => none
def A1Sn : Ann := { ann 8 [(ADO, AHU)] with E := [100] }
def V1Sn (a : ESn) : Prop := CL Try.prog A1Sn AKA (AH AKA) (C1Sn.xs a) (AB (C1Sn.L a)) (C1Sn.val a) (C1Sn.keep a) [] []
theorem BQB (a : ESn) : (V1Sn a) = (EZ (not (Fa (ESn.e a)))) := by kernel_rfl
theorem BRN : AK Try.prog uM (C1Sn.spec d1Sn) := XM C1Sn (λ _ => A1Sn) [] [] AZK (λ _ => by kernel_rfl) (λ _ => AA BCQ AD) (λ (a : ESn) h => by
 show V1Sn a; rw [BQB]<;> delta KY EZ; try simp [wr, WU]) (λ _ => YR rfl rfl) _
def d2Sn : List AVal -> Heap -> Option (MSn × List (Nat × Nat) × List Nat)
 | [y, .fn _ _ [.bptr id _]], H => match vH y H with
  | some (n, g, f) => some (⟨default, QR n λ i => Ku (g i)⟩, [(100, id)], f)
  | none => none
 | _, _ => none
def A2Sn (a : MSn) : Ann := { ann 19 [(uM, C1Sn.spec d1Sn)] with E := [100], loops := λ id => if id = 2 then some [{ α := Nat, dflt := 0, T := λ k => ⟨[(0, .d (DA a.l)), (1, .fn (.func uM) [] [.bptr 100 0]), (7, .int a.l.length), (8, .int k)], (100, .live (BSn a.q)) :: []⟩, inv := λ k => k <= a.l.length /\ aJ (λ i => !Fa (gD a.l i)) a.l.length 0 = aJ (λ i => !Fa (gD a.l i)) (a.l.length - k) k, meas := λ k => a.l.length - k }] else none }
def PSn (a : MSn) : List Prop := [a.l.length < 4611686018427387904 /\ True]
def C2Sn : Ctr := { ro := [100], α := MSn, xs := λ a => [.d (DA a.l), .fn (.func uM) [] [.bptr 100 0]], L := λ a => (100, BSn a.q) :: [], val := λ a => .int (aJ (λ i => !Fa (gD a.l i)) a.l.length 0), keep := λ a => (100, .live (BSn a.q)) :: [], pre := PSn }
def V2Sn (a : MSn) : Prop := CL Try.prog (A2Sn a) AKI (AH AKI) (C2Sn.xs a) (AB (C2Sn.L a)) (C2Sn.val a) (C2Sn.keep a) [] []
abbrev Vg:=MSn.l
abbrev XT a:=CU (Vg a)
abbrev Mt a b:=Nu (Vg a) b
attribute [go_sem] Vg XT Mt
theorem BPS (a : MSn) : (V2Sn a) = (DY (λ i=>ML (AN (NO (Vg a)) (IZ (Vg a)) (BW (XT a)) (BR i)) i (XT a) (Cq (λ j=>Mt a j) (XT a) (λ j=>Mt a j) i i)) (λ i=>CO (JI i (XT a) (Cq (λ j=>Mt a j) (XT a) (λ j=>Mt a j) i i)) i (XT a) (AE (DG i (XT a)) (ZC (Vg a) i) (ZD (Vg a) i)) (PB (not (Mt a i)) (Je (λ j=>Mt a j) (XT a) (BU i)) (λ j=>LH (AN (NO (Vg a)) (IZ (Vg a)) (BW (XT a)) (BH j i)) j (XT a) (Cq (λ k=>Mt a k) (XT a) (λ k=>Mt a k) j j) i)) (Je (λ j=>Mt a j) (XT a) (-1)))) := by kernel_rfl
theorem p2Sn (a : MSn) (h : EF (PSn a)) : V2Sn a := by
 obtain ⟨h, hp⟩ : a.l.length < 4611686018427387904 /\ True := h
 rw [BPS]<;> delta BA BI OH PR CE CU AC BX CM AQ LU BU DH DX IP HD LS PG JV GW Vg AE BF BE BD AF CG BC BS CY HK GF DW DC GR FZ CJ GQ AN FL LV JG BH JI ZC JP ZD NO DV DG LX IS MU HG HX Vv DU TW BR BW IZ CO DY Fw Nu XT Je ZX LH ML PB Mt Cq
 simp only [CC, eq_self, implies_true, forall_const]
 refine ⟨⟨0, rfl, Nat.zero_le _, rfl⟩, λ k ⟨h1, h2⟩ => ⟨λ hlt => ?_, λ hge => ?_⟩⟩
 ·have hlt : k < a.l.length := by omega
  refine ⟨⟨by omega, by omega⟩, λ hp => ?_, λ hp => ⟨k + 1, (FH (by omega)).symm, ⟨by omega, ?_⟩, by omega⟩⟩
  ·rw [h2]; exact iM hlt (by simpa using hp)
  ·rw [h2]; exact Z4 hlt (by simpa using hp)
 ·rw [h2]; exact uK (by omega)
theorem BPN : AK Try.prog AKP (C2Sn.spec d2Sn) := XM C2Sn A2Sn [] [] AYI (λ _ => by kernel_rfl) (λ _ => AA BRN AD) p2Sn (λ _ => YR rfl rfl) _
def C3Sn : Ctr := { C2Sn with val := λ (a : MSn) => .bool (decide (aJ (λ i => !Fa (gD a.l i)) a.l.length 0 >= 0)) }
def d3Sn : List AVal -> Heap -> Option (C3Sn.α × List (Nat × Nat) × List Nat) := d2Sn
def A3Sn : Ann := { ann 9 [(AKP, C2Sn.spec d2Sn)] with E := [100] }
def V3Sn (a : MSn) : Prop := CL Try.prog A3Sn AKZ (AH AKZ) (C3Sn.xs a) (AB (C3Sn.L a)) (C3Sn.val a) (C3Sn.keep a) [] []
theorem BPY (a : MSn) : (V3Sn a) = (ND (NA (Vg a) (XT a)) (VX (Vg a)) (EJ (MQ (Vg a))) LG (KY (VD (λ i=>Mt a i) (XT a)) (VD (λ i=>Nu (PM (Vg a)) i) (MQ (Vg a))))) := by kernel_rfl
theorem BOZ : AK Try.prog AJM (C3Sn.spec d3Sn) := Ctr.spec_ok (C := C3Sn) (λ (a : MSn) h => Rc (A := A3Sn) (ren := []) (fz := []) AWM (by kernel_rfl) (AA BPN AD) (by
 obtain ⟨h, hp⟩ : a.l.length < 4611686018427387904 /\ True := h
 show V3Sn a; rw [BPY]<;> delta KY lI BA BI CE CU AC BX CM AQ LU LG Ak Vg AE BF BE BD BS DR Uf EM AN EJ Tx JZ PM MQ Vv OC TI RP MJ Fw Nu XT NU NA ND Kc VD Ie Mt VX; simp [h, WU])) _
def A4Sn : Ann := { ann 9 [(AJM, C3Sn.spec d3Sn)] with E := [] }
def C4Sn : Ctr := { ro := [], α := MSn, xs := λ a => [.d (DA a.l), fvSn a.q], L := λ a => [], val := λ a => .bool (a.l.all λ x => Fa x), keep := λ a => [], pre := PSn }
def V4Sn (a : MSn) : Prop := CL Try.prog A4Sn F_eS (AH F_eS) (C4Sn.xs a) (AB (C4Sn.L a)) (C4Sn.val a) (C4Sn.keep a) [] []
theorem BPX (a : MSn) : (V4Sn a) = (ND (NA (Vg a) (XT a)) (VX (Vg a)) (EJ (MQ (Vg a))) LG (KY (kH (Vg a) Fa) (not (VD (λ i=>Nu (PM (Vg a)) i) (MQ (Vg a)))))) := by kernel_rfl
theorem BRH (a : MSn) (h : EF (PSn a)) : FnT Try.prog n_eS (C4Sn.xs a) (AB (C4Sn.L a)) (C4Sn.val a) (C4Sn.keep a) := Rc (A := A4Sn) (ren := []) (fz := []) BJK (by kernel_rfl) (AA BOZ AD) (by
 have h' : a.l.length < 4611686018427387904 /\ True := h
 show V4Sn a; rw [BPX]<;> delta KY lI BA BI CE CU AC BX CM AQ LU LG Ak kH Vg AE BF BE BD BS DR Uf EM AN EJ Tx JZ PM MQ Vv OC TI RP MJ Fw Nu XT NU NA ND Kc VD Ie VX; simp only [CC, eq_self, implies_true, forall_const, ge_iff_le]
 rw [<- lT]
 exact ⟨h'.1, rfl⟩)
structure N2 where
 q : Nt
 e : Nt
def ntB (q : Nt) : AObj := .box [.int q.mi, .int q.t.lo, .int q.t.hi, .int q.s.lo, .int q.s.hi]
def AYA (H : Heap) (id : Nat) : Option Nt := match H id with
 | .live (.box [.d a, .d b, .d c, .d d, .d e]) => some ⟨HM a, ⟨HM b, HM c⟩, ⟨HM d, HM e⟩⟩
 | _ => none
def C_ck2 : Ctr := { ro := [100], α := N2, xs := λ a => [.d (eNt a.e), .bptr 100 0], L := λ a => [(100, ntB a.q)], val := λ a => .bool (a.e.mi == a.q.mi), keep := λ a => [(100, .live (ntB a.q))] }
def BKC : List AVal -> Heap -> Option (N2 × List (Nat × Nat) × List Nat)
 | [.d d, .bptr id _], H => match AYA H id with
  | some q => some (⟨q, dNt d⟩, [(100, id)], [])
  | none => none
 | _, _ => none
def BJO : Ann := { ann 9 [] with E := [100] }
def BJS (a : N2) : Prop := CL Try.prog BJO S8 (AH S8) (C_ck2.xs a) (AB (C_ck2.L a)) (C_ck2.val a) (C_ck2.keep a) [] []
abbrev WI:=@BEq.beq Int (@instBEqOfDecidableEq Int Int.instDecidableEq)
abbrev MM a:=AG (MG a) (KC a) (KD a) (KE a) (DZ a)
abbrev qQ a b:=WI (FW a) b
abbrev C8 a b:=qQ a (FW b)
attribute [go_sem] WI MM qQ C8
theorem BOD (a : N2) : (BJS a) = (And (EZ (C8 (N2.e a) (N2.q a))) (MM (N2.q a))) := by kernel_rfl
theorem BME : AK Try.prog kY (C_ck2.spec BKC) := XM C_ck2 (λ _ => BJO) [] [] ASJ (λ _ => by kernel_rfl) (λ _ => AD) (λ (a : N2) _ => by
 show BJS a; rw [BOD]<;> delta KY BA BI FW EX FI AQ WI AE AG BF CK BD AF CG EZ CQ DZ KD MG KE KC MM qQ C8; try simp) (λ _ => YR rfl rfl) _
structure MNc where
 q : Nt
 l : List Nt
def d2Nc : List AVal -> Heap -> Option (MNc × List (Nat × Nat) × List Nat)
 | [y, .fn _ _ [.bptr id _]], H => match vH y H with
  | some (n, g, f) => match AYA H id with
   | some q => some (⟨q, QR n λ i => dNt (g i)⟩, [(100, id)], f)
   | none => none
  | none => none
 | _, _ => none
def A2Nc (a : MNc) : Ann := { ann 19 [(kY, C_ck2.spec BKC)] with E := [100], loops := λ id => if id = 2 then some [{ α := Nat, dflt := 0, T := λ k => ⟨[(0, .d (lK a.l)), (1, .fn (.func kY) [] [.bptr 100 0]), (7, .int a.l.length), (8, .int k)], [(100, .live (ntB a.q))]⟩, inv := λ k => k <= a.l.length /\ aJ (λ i => (gD a.l i).mi == a.q.mi) a.l.length 0 = aJ (λ i => (gD a.l i).mi == a.q.mi) (a.l.length - k) k, meas := λ k => a.l.length - k }] else none }
def C2Nc : Ctr := { ro := [100], α := MNc, xs := λ a => [.d (lK a.l), .fn (.func kY) [] [.bptr 100 0]], L := λ a => [(100, ntB a.q)], val := λ a => .int (aJ (λ i => (gD a.l i).mi == a.q.mi) a.l.length 0), keep := λ a => [(100, .live (ntB a.q))], pre := λ a => [a.l.length < 4611686018427387904 /\ True] }
def V2Nc (a : MNc) : Prop := CL Try.prog (A2Nc a) ALD (AH ALD) (C2Nc.xs a) (AB (C2Nc.L a)) (C2Nc.val a) (C2Nc.keep a) [] []
abbrev K8:=MNc.l
abbrev Kl:=MNc.q
abbrev TC a:=DS (K8 a)
abbrev xC a b:=C8 a (Kl b)
abbrev QH a b:=ED (K8 a) b
abbrev Uw a b c:=xC (QH a b) c
abbrev BY a (b:Nat->Prop) c d e f g h p:=AR a (AC b) c d e f g h p
abbrev dT a:=MG (Kl a)
abbrev Tu a b c d e f g h:=AR a b c d e f b g h
abbrev AAX a b c d e f g:=Tu a b c d e a f g
attribute [go_sem] K8 Kl TC xC QH Uw BY dT Tu AAX
theorem BQL (a : MNc) : (V2Nc a) = (DY (λ i=>ML (BY (BC (TC a)) (λ j=>CR j (TC a) (MG (QH a j)) (KC (QH a j)) (KD (QH a j)) (KE (QH a j)) (DZ (QH a j))) (BW (TC a)) (BR i) (dT a) (KC (Kl a)) (KD (Kl a)) (KE (Kl a)) (DZ (Kl a))) i (TC a) (AQ (aJ (λ j=>Uw a j a) (TC a) 0) (aJ (λ j=>Uw a j a) (JV (TC a) i) i))) (λ i=>CO (JI i (TC a) (AQ (aJ (λ j=>Uw a j a) (TC a) 0) (aJ (λ j=>Uw a j a) (JV (TC a) i) i))) i (TC a) (HP (DG i (TC a)) (MG (QH a i)) (KC (QH a i)) (KD (QH a i)) (KE (QH a i)) (DZ (QH a i)) (dT a) (AAX (KC (Kl a)) (KD (Kl a)) (KE (Kl a)) (DZ (Kl a)) (dT a) (KE (Kl a)) (DZ (Kl a)))) (DV (Uw a i a) (AQ (aJ (λ j=>Uw a j a) (TC a) 0) (BU i)) (MM (Kl a)) (GW (λ j=>LH (BY (BC (TC a)) (λ k=>CR k (TC a) (MG (QH a k)) (KC (QH a k)) (KD (QH a k)) (KE (QH a k)) (DZ (QH a k))) (BW (TC a)) (BH j i) (dT a) (KC (Kl a)) (KD (Kl a)) (KE (Kl a)) (DZ (Kl a))) j (TC a) (AQ (aJ (λ k=>Uw a k a) (TC a) 0) (aJ (λ k=>Uw a k a) (JV (TC a) j) j)) i))) (And (AQ (aJ (λ j=>Uw a j a) (TC a) 0) (-1)) (MM (Kl a))))) := by kernel_rfl
theorem p2Nc (a : MNc) (h : EF (C2Nc.pre a)) : V2Nc a := by
 obtain ⟨h, hp⟩ : a.l.length < 4611686018427387904 /\ True := h
 rw [BQL]<;> delta BA BI FW OH PR EX FI CE AC BX CM AQ BU DH DX IP HD LS PG JV DS ED GW WI K8 Kl AE AG BF BE CK AR BD AF CG BC Tu AAX CQ HK CR DZ GF DW DC GR FZ CJ GQ AN BY KD FL LV JG BH JI JP DV DG LX MG KE IS KC MU HG HX DU QH BR BW CO DY HP MM TC ZX LH ML qQ C8 xC Uw dT
 simp only [CC, eq_self, implies_true, forall_const]
 refine ⟨⟨0, rfl, Nat.zero_le _, rfl⟩, λ k ⟨h1, h2⟩ => ⟨λ hlt => ?_, λ hge => ?_⟩⟩
 ·have hlt : k < a.l.length := by omega
  refine ⟨⟨by omega, by omega⟩, λ hp => ?_, λ hp => ⟨k + 1, (FH (by omega)).symm, ⟨by omega, ?_⟩, by omega⟩⟩
  ·rw [h2]; exact iM hlt (by simpa using hp)
  ·rw [h2]; exact Z4 hlt (by simpa using hp)
 ·rw [h2]; exact uK (by omega)
theorem BPU : AK Try.prog ALK (C2Nc.spec d2Nc) := XM C2Nc A2Nc [] [] BAW (λ _ => by kernel_rfl) (λ _ => AA BME AD) p2Nc (λ _ => YR rfl rfl) _
def C3Nc : Ctr := { C2Nc with val := λ (a : MNc) => .bool (a.l.any λ x => x.mi == a.q.mi) }
def d3Nc : List AVal -> Heap -> Option (C3Nc.α × List (Nat × Nat) × List Nat) := d2Nc
def A3Nc : Ann := { ann 9 [(ALK, C2Nc.spec d2Nc)] with E := [100] }
def V3Nc (a : MNc) : Prop := CL Try.prog A3Nc AKN (AH AKN) (C3Nc.xs a) (AB (C3Nc.L a)) (C3Nc.val a) (C3Nc.keep a) [] []
theorem BQE (a : MNc) : (V3Nc a) = (AE (CW (CE (DS (EO (K8 a) (λ i=>QH a i))) (TC a)) (AC (λ i=>Al i (DS (EO (K8 a) (λ j=>QH a j))) (EO (K8 a) (λ j=>QH a j)) i (QH a i))) (dT a) (KC (Kl a)) (KD (Kl a)) (AAX (KE (Kl a)) (DZ (Kl a)) (dT a) (KC (Kl a)) (KD (Kl a)) (EJ (DS (EO (K8 a) (λ i=>QH a i)))) LG)) (KY ((@List.any Nt) (K8 a) (λ i=>xC i a)) (Kc (aJ (λ i=>xC (ED (EO (K8 a) (λ j=>QH a j)) i) a) (DS (EO (K8 a) (λ i=>QH a i))) 0))) (MM (Kl a))) := by kernel_rfl
theorem AZP {α : Type} [Inhabited α] {p : α -> Bool} {l : List α} : decide (0 <= aJ (λ i => p (gD l i)) l.length 0) = l.any p := by
 rw [Bool.eq_iff_iff, decide_eq_true_eq, AMQ, List.any_eq_true]
 exact ⟨λ ⟨i, _, h1, h2⟩ => ⟨gD l i, WR (by omega), h2⟩, λ ⟨x, hx, h2⟩ => by obtain ⟨i, hi, rfl⟩ := YH hx; exact ⟨i, Nat.zero_le _, by omega, h2⟩⟩
theorem BRL : AK Try.prog AKF (C3Nc.spec d3Nc) := Ctr.spec_ok (C := C3Nc) (λ (a : MNc) h => Rc (A := A3Nc) (ren := []) (fz := []) BBR (by kernel_rfl) (AA BPU AD) (by
 obtain ⟨h, hp⟩ : a.l.length < 4611686018427387904 /\ True := h
 show V3Nc a; rw [BQE]<;> delta KY lI BA BI FW EX FI CE AC BX CM AQ DS ED LG WI K8 Kl AE EO AG BF BE CK AR BD AF CG Tu AAX CQ CR DZ EG FC FG FV HA FU ET FY EJ KD LR OK OM MT CW MG KE KC QH MM NL TC qQ Kc C8 xC Al dT; simp only [CC, eq_self, implies_true, forall_const, ge_iff_le]
 rw [<- AZP]
 simp [h, WU])) _
end Go.Bal
