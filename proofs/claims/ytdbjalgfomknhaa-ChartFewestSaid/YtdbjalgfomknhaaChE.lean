/- Package chart: every. Printed by gench.py. -/
import Derived.Test.YtdbjalgfomknhaaChA
set_option linter.unusedVariables false
set_option linter.unusedSimpArgs false
namespace Go.Bal
open Go Go.Sym Go.Proofs
def allB (p : Nat -> Bool) : Nat -> Bool
 | 0 => true
 | n + 1 => allB p n && p n
theorem nW {p : Nat -> Bool} : ∀ {n : Nat}, allB p n = true ↔ ∀ i, i < n -> p i = true
 | 0 => by simp [allB]
 | n + 1 => by
  simp only [allB, Bool.and_eq_true, nW (n := n)]
  constructor
  ·intro h i hi
   by_cases he : i = n
   ·subst he; exact h.2
   ·exact h.1 i (by omega)
  ·exact λ h => ⟨λ i hi => h i (by omega), h n (by omega)⟩
theorem BNY {p : Nat -> Bool} : ∀ {n k : Nat}, (0 <= lU p n k) ↔ ∃ i, k <= i /\ i < k + n /\ p i = true
 | 0, k => by simp [lU]; omega
 | n + 1, k => by
  simp only [lU]
  by_cases h : p k = true
  ·rw [if_pos h]
   constructor
   ·intro _; exact ⟨k, Nat.le_refl _, by omega, h⟩
   ·intro _; omega
  ·rw [if_neg h, BNY (n := n) (k := k + 1)]
   constructor
   ·rintro ⟨i, h1, h2, h3⟩; exact ⟨i, by omega, by omega, h3⟩
   ·rintro ⟨i, h1, h2, h3⟩
    refine ⟨i, ?_, by omega, h3⟩
    by_cases he : i = k
    ·subst he; exact absurd h3 h
    ·omega
theorem BVR {p : Nat -> Bool} {n : Nat} : (!decide (0 <= lU (λ i => !p i) n 0)) = allB p n := by
 rw [Bool.eq_iff_iff, nW]
 simp only [Bool.not_eq_true', decide_eq_false_iff_not, BNY, Nat.zero_le, Nat.zero_add, true_and]
 constructor
 ·intro h i hi
  cases hp : p i with
  | true => rfl
  | false => exact (h ⟨i, hi, by simp [hp]⟩).elim
 ·rintro h ⟨i, hi, hp⟩
  rw [h i hi] at hp; cases hp
theorem AEF {α : Type} [Inhabited α] {p : α -> Bool} {l : List α} : (!decide (0 <= lU (λ i => !p (gD l i)) l.length 0)) = l.all p := by
 rw [BVR, Bool.eq_iff_iff, nW, List.all_eq_true]
 exact ⟨λ h x hx => by obtain ⟨i, hi, rfl⟩ := XR hx; exact h i hi, λ h i hi => h _ (HP hi)⟩
def chB (c : Cht) : AObj := .box [.int c.p.lo, .int c.p.hi, .int c.base, .int c.scale, .int c.off, .d (eMks c.ms), .d (eNts c.ns)]
def bO (H : Heap) (id : Nat) : Option Cht := match H id with
 | .live (.box [.d a, .d b, .d c, .d d, .d e, .d (.list _ n f _), .d (.list _ m g _)]) => some ⟨⟨JQ a, JQ b⟩, JQ c, JQ d, JQ e, HX n λ i => dMk (f i), HX m λ i => dNt (g i)⟩
 | _ => none
structure ChN where
 q : Cht
 e : Nt
def C_ck1 : Ctr := { ro := [101], α := ChN, xs := λ a => [.d (eNt a.e), .bptr 101 0], L := λ a => [(101, chB a.q)], val := λ a => .bool (WJ a.e a.q.ms.length), keep := λ a => [(101, .live (chB a.q))] }
def CGS : List AVal -> Heap -> Option (ChN × List (Nat × Nat) × List Nat)
 | [.d d, .bptr id _], H => match bO H id with
  | some q => some (⟨q, dNt d⟩, [(101, id)], [])
  | none => none
 | _, _ => none
def CGW : Ann := { ann 9 [(BFM, BQN)] with E := [101] }
def CHS (a : ChN) : Prop := DN Try.prog CGW BCF (AP BCF) (C_ck1.xs a) (AH (C_ck1.L a)) (C_ck1.val a) (C_ck1.keep a) [] []
abbrev IV:=@List.length Mk
abbrev HC:=Cht.ms
abbrev HA:=Cht.p
abbrev HZ:=Cht.base
abbrev ID:=Cht.scale
abbrev IA:=Cht.off
abbrev JD:=@gD Mk instInhabitedMk
abbrev GN:=@List.length Nt
abbrev FW:=Cht.ns
abbrev FY:=@gD Nt instInhabitedNt
abbrev AO a b c d e f g h p:=AN a b c d (AN e f g h p)
abbrev KM a b c d e f (g:Nat->Prop) h p:=AO a b c d e f (AK g) h p
abbrev AZ a:=BL (HA a)
abbrev WV a b c d e f (g:Nat->Prop) h p:=KM a (AZ b) c d e f g h p
abbrev AW a:=AM (IA a)
abbrev BA a:=CJ (HA a)
abbrev NO a b c d e (f:Nat->Prop) g h:=WV (BA a) b c d (AW b) e f g h
abbrev BD a:=AM (ID a)
abbrev BE a:=AM (HZ a)
abbrev QK a b (c:Nat->Prop) d e:=NO a a (BE a) (BD a) b c d e
abbrev BB a:=GN (FW a)
abbrev GO a:=BV (BB a)
abbrev DV a b:=JD (HC a) b
abbrev DH a b:=Mk.ht (DV a b)
abbrev KP a b:=AM (DH a b)
abbrev CX a b:=Mk.pl (DV a b)
abbrev KU a b:=AM (CX a b)
abbrev BY a:=IV (HC a)
abbrev EL a b:=CD a (BY b) (KU b a) (KP b a)
abbrev EO a:=BV (BY a)
abbrev TH a b c d:=QK a (EO b) (λ i=>EL i c) (GO a) d
abbrev DM a b c d e f g:=BK a b (AN c d e f g)
abbrev HY a b c d e f g:=DM a (BB b) c d e f g
abbrev FS a:=BL (FP a)
abbrev BG a b:=FY (FW a) b
abbrev CS a:=BU (FP a)
abbrev FU a b:=CS (BG a b)
abbrev NF a b:=AM (FU a b)
abbrev HD a:=BL (FQ a)
abbrev MN a b:=HD (BG a b)
abbrev CG a:=BU (FQ a)
abbrev DQ a b:=CG (BG a b)
abbrev MK a b:=AM (DQ a b)
abbrev CR a b:=FM (BG a b)
abbrev MX a b:=AM (CR a b)
abbrev BS a b:=HY a b (MX b a) (MK b a) (MN b a) (NF b a) (FS (BG b a))
abbrev QG a:=AK (λ i=>BS i a)
abbrev NW a:=TH a a a (QG a)
abbrev ZY a:=BW (BY a)
abbrev Ll a b:=hd15 a (ZY b)
attribute [go_sem] IV HC HA HZ ID IA JD GN FW FY AO KM AZ WV AW BA NO BD BE QK BB GO DV DH KP CX KU BY EL EO TH DM HY FS BG CS FU NF HD MN CG DQ MK CR MX BS QG NW ZY Ll
theorem CIB (a : ChN) : (CHS a) = (And (MF (Ll (ChN.e a) (ChN.q a)) (Ll (Nt.mk (FM (ChN.e a)) (FQ (ChN.e a)) (FP (ChN.e a))) (ChN.q a))) (NW (ChN.q a))) := by kernel_rfl
theorem CIW : AR Try.prog AOE (C_ck1.spec CGS) := Jp C_ck1 (λ _ => CGW) [] [] BSF (λ _ => by kernel_rfl) (λ _ => AC BVW AL) (λ (a : ChN) _ => by
 show CHS a; rw [CIB]<;> delta MF BU CO hd15 FM FQ FP CL AK CA DD AU BW IV HC HA HZ ID IA JD GN FW FY AI BG DV AN BO BK CG BJ BB BY AO AM BL BV CS CD CJ CX DM AZ CR DH BA AW HD DQ HY BD FS FU BE MN KP EO KU GO KM ZY WV MK EL MX NF BS NO QG QK TH NW Ll; simp [wr, Cq]) (λ _ => Mi rfl rfl) _
def jN (s : Span) : Bool := decide (s.lo <= s.hi)
def BUN (x : Span) : Prop := DN Try.prog (ann 8 []) BMV (AP BMV) (xS1 x) (AH []) (.bool (jN x)) [] [] []
theorem CBV (x : Span) : (BUN x) = (MF (jN x) (hd7 (BU x) (CO x))) := by kernel_rfl
def BGZ := pD dS1 λ x => .bool (jN x)
theorem CBF : AR Try.prog BGO BGZ := dS xS1 hS1 λ x _ => Su (A := ann 8 []) (ren := []) (fz := []) CBQ (by kernel_rfl) AL (by
 show BUN x; rw [CBV]<;> delta MF hd7 BU CO; try simp [jN])
def BYH (x : Span) : Prop := DN Try.prog (ann 8 []) BNF (AP BNF) (xS1 x) (AH []) (.bool (jN x)) [] [] []
theorem CDH (x : Span) : (BYH x) = (MF (jN x) (hd7 (BU x) (CO x))) := by kernel_rfl
theorem CDL : AR Try.prog BEV BGZ := dS xS1 hS1 λ x _ => Su (A := ann 8 []) (ren := []) (fz := []) CEE (by kernel_rfl) AL (by
 show BYH x; rw [CDH]<;> delta MF hd7 BU CO; try simp [jN])
def LXNr (q : Cht) : List (Nat × AObj) := [(101, chB q)]
def KXNr (q : Cht) : List (Nat × HCell) := [(101, .live (chB q))]
def fvNr (q : Cht) : AVal := .fn (.func AOE) [] [.bptr 101 0]
def BNr (q : Cht) : AObj := .box [fvNr q]
structure ENr where
 q : Cht
 e : Nt
structure MNr where
 q : Cht
 l : List Nt
def C1Nr : Ctr := { ro := [100, 101], α := ENr, xs := λ a => [.d (eNt a.e), .bptr 100 0], L := λ a => (100, BNr a.q) :: LXNr a.q, val := λ a => .bool (!WJ a.e a.q.ms.length), keep := λ a => (100, .live (BNr a.q)) :: KXNr a.q }
def d1Nr : List AVal -> Heap -> Option (ENr × List (Nat × Nat) × List Nat)
 | [.d d, .bptr id _], H => match H id with
  | .live (.box [.fn _ _ [.bptr j _]]) => match bO H j with
   | some q => some (⟨q, dNt d⟩, [(100, id), (101, j)], [])
   | none => none
  | _ => none
 | _, _ => none
def A1Nr : Ann := { ann 8 [(AOE, C_ck1.spec CGS)] with E := [100, 101] }
def V1Nr (a : ENr) : Prop := DN Try.prog A1Nr BTR (AP BTR) (C1Nr.xs a) (AH (C1Nr.L a)) (C1Nr.val a) (C1Nr.keep a) [] []
abbrev hd70:=ENr.e
abbrev hd71:=ENr.q
abbrev FZ a:=(@HX Mk) (IV (HC a)) (λ i=>DV a i)
abbrev CY a:=IV (FZ a)
abbrev Ph a:=BW (CY a)
abbrev CM a b c d e f g:=AI a b (AN c d e f g)
abbrev LR a b:=CL (BB a) b
abbrev EN a (b:Nat->Nt):=(@HX Nt) (GN a) b
abbrev GF a (b:Nat->Nt):=EN (FW a) b
abbrev HS a:=GF a (λ i=>BG a i)
abbrev EJ a:=GN (HS a)
abbrev DB a:=LR a (EJ a)
abbrev DP a b c d e:=CD a b (AU c d) e
abbrev ER a b c d e f:=DP a b c d (AU e f)
abbrev MB a b c d e f:=ER a (BY b) (CX c d) e (DH b a) f
abbrev GJ a b:=JD (FZ a) b
abbrev GC a b:=Mk.ht (GJ a b)
abbrev GI a b:=Mk.pl (GJ a b)
abbrev HN a b:=MB a b b a (GI b a) (GC b a)
abbrev OC a b:=CL (BY a) b
abbrev DA a:=OC a (CY a)
abbrev MJ a b:=QK a (DA a) (λ i=>HN i a) (DB a) b
abbrev JK a b c d e f g:=HY a b (AU (CR b a) c) (AU (DQ b a) d) e f g
abbrev EH a b:=BJ (FQ a) (FQ b)
abbrev FV a b c d e f g:=JK a b c d (EH (BG b a) e) f g
abbrev EU a b:=BJ a (FP b)
abbrev EI a b:=EU (FP a) b
abbrev RC a b c:=EI (BG a b) c
abbrev GS a b:=FY (HS a) b
abbrev EA a b:=AU (CS a) b
abbrev HM a b:=EA a (CS b)
abbrev HI a b:=FM (GS a b)
abbrev CQ a b:=FV a b (HI b a) (CG (GS b a)) (GS b a) (HM (BG b a) (GS b a)) (RC b a (GS b a))
abbrev UP a:=AK (λ i=>CQ i a)
abbrev FH a b c d e f g h:=DM a b c d e f (EI g h)
abbrev FT a b c d e f g h p:=FH a b c d e f (GS g h) p
abbrev JZ a b c d e f g:=FT a (EJ b) c d e f b a g
abbrev HR a b c:=EA a (FU b c)
abbrev IL a b:=HR (GS a b) a b
abbrev JG a b c:=EH (GS a b) c
abbrev IP a b:=JG a b (BG a b)
abbrev EF a b:=AU (CG a) b
abbrev IR a b c:=EF a (DQ b c)
abbrev IS a b:=IR (GS a b) a b
abbrev JH a b c:=AU (HI a b) c
abbrev IM a b:=JH a b (CR a b)
abbrev BP a b:=JZ a b (IM b a) (IS b a) (IP b a) (IL b a) (BG b a)
abbrev MY a:=AK (λ i=>BP i a)
abbrev JU a b:=CL (EJ a) b
abbrev DF a:=JU a (BB a)
abbrev FI a b c d e f g:=ER a b c (CX d a) e (DH f g)
abbrev GD a b c d e f g h p:=FI a b (GI c d) e (GC f g) h p
abbrev CH a b:=GD a (CY b) b a b b a b a
abbrev CW a:=AK (λ i=>CH i a)
abbrev GR a b:=CL (CY a) b
abbrev BR a:=GR a (BY a)
abbrev LD a:=AM (CS a)
abbrev LG a:=AM (CG a)
abbrev QA a:=AM (FM a)
attribute [go_sem] hd70 hd71 FZ CY Ph CM LR EN GF HS EJ DB DP ER MB GJ GC GI HN OC DA MJ JK EH FV EU EI RC GS EA HM HI CQ UP FH FT JZ HR IL JG IP EF IR IS JH IM BP MY JU DF FI GD CH CW GR BR LD LG QA
theorem CLL (a : ENr) : (V1Nr a) = (AI (CM (QA (hd70 a)) (LG (hd70 a)) (HD (hd70 a)) (LD (hd70 a)) (FS (hd70 a)) (BA (hd71 a)) (AO (AZ (hd71 a)) (BE (hd71 a)) (BD (hd71 a)) (AW (hd71 a)) (BR (hd71 a)) (CW (hd71 a)) (DF (hd71 a)) (MY (hd71 a)) (MJ (hd71 a) (UP (hd71 a))))) (MF (not (Ll (hd70 a) (hd71 a))) (not (hd15 (Nt.mk (FM (hd70 a)) (FQ (hd70 a)) (FP (hd70 a))) (Ph (hd71 a))))) (NW (hd71 a))) := by kernel_rfl
theorem CLR : AR Try.prog BKM (C1Nr.spec d1Nr) := Jp C1Nr (λ _ => A1Nr) [] [] CKG (λ _ => by kernel_rfl) (λ _ => AC CIW AL) (λ (a : ENr) h => by
 show V1Nr a; rw [CLL]<;> delta MF BU CO hd15 FM FQ FP CL AK CA DD AU BW IV HC HA HZ ID IA JD GN FW FY hd70 hd71 AI BG DV EN GF AN BO BK CG BJ BB BY AO AM HS FZ BL BV CS GS CD CJ CX DM AZ CR CY DP EU DH BA AW HD DQ GJ EA EI HY BD FS EJ FU BE EH ER HM MN GC HI KP EF EO GI FH GR JG HR KU GO FI FT JU LD IR KM LG GD JH ZY WV MK LR BR DF IL IP IS IM JZ EL CH MX OC NF RC CM QA DB DA BS CW NO QG JK QK BP MB FV HN TH NW CQ Ll MY UP MJ Ph; try simp [wr, Cq]) (λ _ => Mi rfl rfl) _
def d2Nr : List AVal -> Heap -> Option (MNr × List (Nat × Nat) × List Nat)
 | [y, .fn _ _ [.bptr id _]], H => match dRow y H with
  | some (n, g, f) => match H id with
   | .live (.box [.fn _ _ [.bptr j _]]) => match bO H j with
    | some q => some (⟨q, HX n λ i => dNt (g i)⟩, [(100, id), (101, j)], f)
    | none => none
   | _ => none
  | none => none
 | _, _ => none
def A2Nr (a : MNr) : Ann := { ann 19 [(BKM, C1Nr.spec d1Nr)] with E := [100, 101], loops := λ id => if id = 2 then some [{ α := Nat, dflt := 0, T := λ k => ⟨[(0, .d (eNts a.l)), (1, .fn (.func BKM) [] [.bptr 100 0]), (7, .int a.l.length), (8, .int k)], (100, .live (BNr a.q)) :: KXNr a.q⟩, inv := λ k => k <= a.l.length /\ lU (λ i => !WJ (gD a.l i) a.q.ms.length) a.l.length 0 = lU (λ i => !WJ (gD a.l i) a.q.ms.length) (a.l.length - k) k, meas := λ k => a.l.length - k }] else none }
def PNr (a : MNr) : List Prop := [a.l.length < 4611686018427387904 /\ True]
def C2Nr : Ctr := { ro := [100, 101], α := MNr, xs := λ a => [.d (eNts a.l), .fn (.func BKM) [] [.bptr 100 0]], L := λ a => (100, BNr a.q) :: LXNr a.q, val := λ a => .int (lU (λ i => !WJ (gD a.l i) a.q.ms.length) a.l.length 0), keep := λ a => (100, .live (BNr a.q)) :: KXNr a.q, pre := PNr }
def V2Nr (a : MNr) : Prop := DN Try.prog (A2Nr a) BKO (AP BKO) (C2Nr.xs a) (AH (C2Nr.L a)) (C2Nr.val a) (C2Nr.keep a) [] []
abbrev GY:=@Exists Nat
abbrev PU:=MNr.q
abbrev UW a (b:Nat->Prop):=And a (AK b)
abbrev NQ (a:Nat->Prop) (b:Nat->Prop):=UW (GY a) b
abbrev lH a:=NW (PU a)
abbrev Ht (a:Nat->Bool) b c:=lU (λ i=>not (a i)) b c
abbrev Gy (a:Nat->Bool) b:=Ht a b 0
abbrev Me (a:Nat->Bool) b c:=AU (Gy a b) c
abbrev RQ a:=GN (MNr.l a)
abbrev APR a b:=Ll a (PU b)
abbrev WX a b:=FY (MNr.l a) b
abbrev Uz a b c:=APR (WX a b) c
abbrev EX a b c d:=And a (FX b c d)
abbrev JL a b c d e:=EX a b (And c d) e
abbrev Ct (a:Nat->Bool) b (c:Nat->Bool) d e:=Me a b (Ht c (NR b d) e)
abbrev AAU a b c d e f g:=DM a b c d (HD e) f g
attribute [go_sem] GY PU UW NQ lH Ht Gy Me RQ APR WX Uz EX JL Ct AAU
theorem COG (a : MNr) : (V2Nr a) = (NQ (λ i=>DY (AN (BV (RQ a)) (AK (λ j=>AAU j (RQ a) (QA (WX a j)) (LG (WX a j)) (WX a j) (LD (WX a j)) (FS (WX a j)))) (GA (RQ a)) (CF i) (lH a)) i (RQ a) (Ct (λ j=>Uz a j a) (RQ a) (λ j=>Uz a j a) i i)) (λ i=>CU (LZ i (RQ a) (Ct (λ j=>Uz a j a) (RQ a) (λ j=>Uz a j a) i i)) i (BW (RQ a)) (JL (IH i (RQ a) (CM (QA (WX a i)) (LG (WX a i)) (HD (WX a i)) (LD (WX a i)) (FS (WX a i)) (BA (PU a)) (AO (AZ (PU a)) (BE (PU a)) (BD (PU a)) (AW (PU a)) (BR (PU a)) (CW (PU a)) (DF (PU a)) (MY (PU a)) (MJ (PU a) (UP (PU a)))))) (not (hd15 (Nt.mk (FM (WX a i)) (FQ (WX a i)) (FP (WX a i))) (Ph (PU a)))) (Me (λ j=>Uz a j a) (RQ a) (BW i)) (lH a) (GY (λ j=>DC (AN (BV (RQ a)) (AK (λ k=>AAU k (RQ a) (QA (WX a k)) (LG (WX a k)) (WX a k) (LD (WX a k)) (FS (WX a k)))) (GA (RQ a)) (BT j i) (lH a)) (LZ j (RQ a) (Ct (λ k=>Uz a k a) (RQ a) (λ k=>Uz a k a) j j)) (RQ a) j i))) (And (Me (λ j=>Uz a j a) (RQ a) (-1)) (lH a)))) := by kernel_rfl
theorem p2Nr (a : MNr) (h : DZ (PNr a)) : V2Nr a := by
 obtain ⟨h, hp⟩ : a.l.length < 4611686018427387904 /\ True := h
 rw [COG]<;> delta BU CO hd15 FM TP WF FQ FP CL AK CA DD AU BW GM FX WN KZ KB XF NR IV HC HA HZ ID IA JD GN FW FY GY PU AI BG DV EN GF AN BO BK CG BJ BB BY AO AM HS FZ BL BV CS GS CD CJ CX DM AZ IY CR CY DP EU DH BA AW HD DQ GJ GG EA EI HY BD FS EJ FU KR BE EH ER EY FR DI BZ IE HM MN GC HI KP EF DU EO GI FH GR JG HR KU GO FI FT JU LD IR KM AAU LG GD JH ZY OT BT WV LV WX MK LR BR DC DF IL IP IS IM JZ EL CH MX OC NF RC CM QA OF KD Ht DB DA BS CW NO CU QG EW JK QK BP MB EX DY GA FV HN CF TH Gy RQ NW CQ LZ Me UW IH Ll JL MY NQ UP APR MJ Uz Ct lH Ph
 simp only [CC, eq_self, implies_true, forall_const]
 refine ⟨⟨0, rfl, Nat.zero_le _, rfl⟩, λ k ⟨h1, h2⟩ => ⟨λ hlt => ?_, λ hge => ?_⟩⟩
 ·have hlt : k < a.l.length := by omega
  refine ⟨⟨by omega, by omega⟩, λ hp => ?_, λ hp => ⟨k + 1, (HH (by omega)).symm, ⟨by omega, ?_⟩, by omega⟩⟩
  ·rw [h2]; exact R2 hlt (by simpa using hp)
  ·rw [h2]; exact BBL hlt (by simpa using hp)
 ·rw [h2]; exact ANJ (by omega)
theorem CMZ : AR Try.prog BKR (C2Nr.spec d2Nr) := Jp C2Nr A2Nr [] [] BUI (λ _ => by kernel_rfl) (λ _ => AC CLR AL) p2Nr (λ _ => Mi rfl rfl) _
def C3Nr : Ctr := { C2Nr with val := λ (a : MNr) => .bool (decide (lU (λ i => !WJ (gD a.l i) a.q.ms.length) a.l.length 0 >= 0)) }
def d3Nr : List AVal -> Heap -> Option (C3Nr.α × List (Nat × Nat) × List Nat) := d2Nr
def A3Nr : Ann := { ann 9 [(BKR, C2Nr.spec d2Nr)] with E := [100, 101] }
def V3Nr (a : MNr) : Prop := DN Try.prog A3Nr BKB (AP BKB) (C3Nr.xs a) (AH (C3Nr.L a)) (C3Nr.val a) (C3Nr.keep a) [] []
abbrev FO:=True
abbrev Lt a:=hd6 a 0
abbrev WB (a:Nat->Bool) b:=Lt (Gy a b)
abbrev L6 a:=EN (MNr.l a) (λ i=>WX a i)
abbrev Yi a:=GN (L6 a)
abbrev CE a b c d e f:=And a (AN b c d e f)
abbrev DG a b c d (e:Nat->Prop) f g h p:=AO a b c d (AK e) f g h p
abbrev DO a b c d (e:Nat->Prop) f (g:Nat->Prop) h p:=DG a b c d e f (AK g) h p
abbrev NV a b (c:Nat->Prop) d (e:Nat->Prop) f g:=DO (BE a) (BD a) (AW a) b c d e f g
abbrev DS a:=DD a 4611686018427387904
abbrev PJ a b c d e f g:=FH a b c d (EH e f) g e f
abbrev LC a b:=EF a (CG b)
abbrev TN a b c d e:=PJ a b c (LC d e) d e (HM d e)
abbrev JX a b:=AU (FM a) b
abbrev NL a b:=JX a (FM b)
abbrev VQ a b c d e f:=TN a b (NL c d) e f
abbrev ALN a b c d e:=VQ a b c d c e
attribute [go_sem] FO Lt WB L6 Yi CE DG DO NV DS PJ LC TN JX NL VQ ALN
theorem CNW (a : MNr) : (V3Nr a) = (AI (CE (CL (Yi a) (RQ a)) (AK (λ i=>ALN i (Yi a) (FY (L6 a) i) (WX a i) (WX a i))) (BA (PU a)) (AZ (PU a)) (BE (PU a)) (AO (BD (PU a)) (AW (PU a)) (BR (PU a)) (CW (PU a)) (DF (PU a)) (MY (PU a)) (BA (PU a)) (AZ (PU a)) (NV (PU a) (DA (PU a)) (λ i=>HN i (PU a)) (DB (PU a)) (λ i=>CQ i (PU a)) (DS (Yi a)) FO))) (MF (WB (λ i=>Uz a i a) (RQ a)) (WB (λ i=>hd15 (FY (L6 a) i) (Ph (PU a))) (Yi a))) (lH a)) := by kernel_rfl
theorem COD : AR Try.prog BJN (C3Nr.spec d3Nr) := Ctr.spec_ok (C := C3Nr) (λ (a : MNr) h => Su (A := A3Nr) (ren := []) (fz := []) BWL (by kernel_rfl) (AC CMZ AL) (by
 obtain ⟨h, hp⟩ : a.l.length < 4611686018427387904 /\ True := h
 show V3Nr a; rw [CNW]<;> delta MF hd6 BU CO hd15 FM FQ FP CL AK CA DD AU BW IV HC HA HZ ID IA JD GN FW FY PU FO AI BG DV EN GF AN BO BK CG BJ BB BY AO AM HS FZ BL BV CS GS CD CJ CX DM AZ CR CY DP EU DH BA AW HD DQ GJ EA EI HY DG BD FS EJ FU BE EH ER HM MN GC HI KP EF EO GI DS FH GR JG HR KU GO FI LC FT JU JX IR KM GD NL JH ZY WV WX MK DO LR BR DF IL IP IS IM JZ EL CH MX OC NF RC Ht CE DB DA BS CW NO QG JK QK BP MB FV HN TH Gy RQ NV NW CQ Ll L6 PJ MY Lt TN VQ WB ALN APR Yi Uz lH Ph; simp [h, Cq])) _
def d4Nr : List AVal -> Heap -> Option (MNr × List (Nat × Nat) × List Nat)
 | [y, .fn _ _ [.bptr j _]], H => match dRow y H with
  | some (n, g, f) => match bO H j with
   | some q => some (⟨q, HX n λ i => dNt (g i)⟩, [(101, j)], f)
   | none => none
  | none => none
 | _, _ => none
def A4Nr : Ann := { ann 9 [(BJN, C3Nr.spec d3Nr)] with E := [101] }
def C4Nr : Ctr := { ro := [101], α := MNr, xs := λ a => [.d (eNts a.l), fvNr a.q], L := λ a => LXNr a.q, val := λ a => .bool (a.l.all λ x => WJ x a.q.ms.length), keep := λ a => KXNr a.q, pre := PNr }
def V4Nr (a : MNr) : Prop := DN Try.prog A4Nr F_eN (AP F_eN) (C4Nr.xs a) (AH (C4Nr.L a)) (C4Nr.val a) (C4Nr.keep a) [] []
abbrev hd80:=@List.all Nt
attribute [go_sem] hd80
theorem CMY (a : MNr) : (V4Nr a) = (AI (CE (CL (Yi a) (RQ a)) (AK (λ i=>ALN i (Yi a) (FY (L6 a) i) (WX a i) (WX a i))) (BA (PU a)) (AZ (PU a)) (BE (PU a)) (AO (BD (PU a)) (AW (PU a)) (BR (PU a)) (CW (PU a)) (DF (PU a)) (MY (PU a)) (BA (PU a)) (AZ (PU a)) (NV (PU a) (DA (PU a)) (λ i=>HN i (PU a)) (DB (PU a)) (λ i=>CQ i (PU a)) (DS (Yi a)) FO))) (MF (hd80 (MNr.l a) (λ i=>APR i a)) (not (WB (λ i=>hd15 (FY (L6 a) i) (Ph (PU a))) (Yi a)))) (lH a)) := by kernel_rfl
theorem CNU (a : MNr) (h : DZ (PNr a)) : FnT Try.prog n_eN (C4Nr.xs a) (AH (C4Nr.L a)) (C4Nr.val a) (C4Nr.keep a) := Su (A := A4Nr) (ren := []) (fz := []) CLA (by kernel_rfl) (AC COD AL) (by
 have h' : a.l.length < 4611686018427387904 /\ True := h
 show V4Nr a; rw [CMY]<;> delta MF hd6 BU CO hd15 FM FQ FP CL AK CA DD AU BW IV HC HA HZ ID IA JD GN FW FY PU FO hd80 AI BG DV EN GF AN BO BK CG BJ BB BY AO AM HS FZ BL BV CS GS CD CJ CX DM AZ CR CY DP EU DH BA AW HD DQ GJ EA EI HY DG BD FS EJ FU BE EH ER HM MN GC HI KP EF EO GI DS FH GR JG HR KU GO FI LC FT JU JX IR KM GD NL JH ZY WV WX MK DO LR BR DF IL IP IS IM JZ EL CH MX OC NF RC Ht CE DB DA BS CW NO QG JK QK BP MB FV HN TH Gy RQ NV NW CQ Ll L6 PJ MY Lt TN VQ WB ALN APR Yi lH Ph; simp only [CC, eq_self, implies_true, forall_const, ge_iff_le]
 rw [<- AEF]
 exact ⟨h'.1, rfl⟩)
theorem CNR : AR Try.prog n_eN (C4Nr.spec d4Nr) := Ctr.spec_ok (C := C4Nr) CNU _
def fvSa (q : One) : AVal := .fn (.func BGO) [] []
def BSa (q : One) : AObj := .box [fvSa q]
structure ESa where
 q : One
 e : Span
structure MSa where
 q : One
 l : List Span
def C1Sa : Ctr := { ro := [100], α := ESa, xs := λ a => [.d (JS a.e), .bptr 100 0], L := λ a => (100, BSa a.q) :: [], val := λ a => .bool (!jN a.e), keep := λ a => (100, .live (BSa a.q)) :: [] }
def d1Sa : List AVal -> Heap -> Option (ESa × List (Nat × Nat) × List Nat)
 | [.d d, .bptr id _], H => some (⟨default, Ms d⟩, [(100, id)], [])
 | _, _ => none
def A1Sa : Ann := { ann 8 [(BGO, BGZ)] with E := [100] }
def V1Sa (a : ESa) : Prop := DN Try.prog A1Sa BJV (AP BJV) (C1Sa.xs a) (AH (C1Sa.L a)) (C1Sa.val a) (C1Sa.keep a) [] []
abbrev ED a:=MF a a
attribute [go_sem] ED
theorem CLC (a : ESa) : (V1Sa a) = (ED (not (jN (ESa.e a)))) := by kernel_rfl
theorem CLT : AR Try.prog APB (C1Sa.spec d1Sa) := Jp C1Sa (λ _ => A1Sa) [] [] BUY (λ _ => by kernel_rfl) (λ _ => AC CBF AL) (λ (a : ESa) h => by
 show V1Sa a; rw [CLC]<;> delta MF ED; try simp [wr, Cq]) (λ _ => Mi rfl rfl) _
def d2Sa : List AVal -> Heap -> Option (MSa × List (Nat × Nat) × List Nat)
 | [y, .fn _ _ [.bptr id _]], H => match dRow y H with
  | some (n, g, f) => some (⟨default, HX n λ i => Ms (g i)⟩, [(100, id)], f)
  | none => none
 | _, _ => none
def A2Sa (a : MSa) : Ann := { ann 19 [(APB, C1Sa.spec d1Sa)] with E := [100], loops := λ id => if id = 2 then some [{ α := Nat, dflt := 0, T := λ k => ⟨[(0, .d (DW a.l)), (1, .fn (.func APB) [] [.bptr 100 0]), (7, .int a.l.length), (8, .int k)], (100, .live (BSa a.q)) :: []⟩, inv := λ k => k <= a.l.length /\ lU (λ i => !jN (gD a.l i)) a.l.length 0 = lU (λ i => !jN (gD a.l i)) (a.l.length - k) k, meas := λ k => a.l.length - k }] else none }
def PSa (a : MSa) : List Prop := [a.l.length < 4611686018427387904 /\ True]
def C2Sa : Ctr := { ro := [100], α := MSa, xs := λ a => [.d (DW a.l), .fn (.func APB) [] [.bptr 100 0]], L := λ a => (100, BSa a.q) :: [], val := λ a => .int (lU (λ i => !jN (gD a.l i)) a.l.length 0), keep := λ a => (100, .live (BSa a.q)) :: [], pre := PSa }
def V2Sa (a : MSa) : Prop := DN Try.prog (A2Sa a) BKA (AP BKA) (C2Sa.xs a) (AH (C2Sa.L a)) (C2Sa.val a) (C2Sa.keep a) [] []
abbrev bM:=MSa.l
abbrev YF a:=DR (bM a)
abbrev Nu a b:=jN (ML a b)
abbrev On a b:=Nu (bM a) b
abbrev LB a b:=And (DI a) b
abbrev HB a b:=LB a (FR a b)
abbrev JJ a b c d:=AI (HB a b) c d
attribute [go_sem] bM YF Nu On LB HB JJ
theorem CMT (a : MSa) : (V2Sa a) = (NQ (λ i=>DY (BQ (MO (bM a)) (KX (bM a)) (GA (YF a)) (CF i)) i (YF a) (Ct (λ j=>On a j) (YF a) (λ j=>On a j) i i)) (λ i=>CU (LZ i (YF a) (Ct (λ j=>On a j) (YF a) (λ j=>On a j) i i)) i (BW (YF a)) (EX (JJ (BW i) (YF a) (By (bM a) i) (BL (ML (bM a) i))) (not (On a i)) (Me (λ j=>On a j) (YF a) (BW i)) (GY (λ j=>DC (BQ (MO (bM a)) (KX (bM a)) (GA (YF a)) (BT j i)) (LZ j (YF a) (Ct (λ k=>On a k) (YF a) (λ k=>On a k) j j)) (YF a) j i))) (Me (λ j=>On a j) (YF a) (-1)))) := by kernel_rfl
theorem p2Sa (a : MSa) (h : DZ (PSa a)) : V2Sa a := by
 obtain ⟨h, hp⟩ : a.l.length < 4611686018427387904 /\ True := h
 rw [CMT]<;> delta BU CO TP WF CL DR AK CA DD AU ML BW GM FX WN KZ KB XF NR GY bM AI BO BK BJ AM BL BV CD CJ IY GG KR EY FR DI IE DU LB BQ OT BT LV HB DC MO OF Ht By QT CU EX DY JJ GA KX CF Gy Nu LZ Me YF UW NQ On Ct
 simp only [CC, eq_self, implies_true, forall_const]
 refine ⟨⟨0, rfl, Nat.zero_le _, rfl⟩, λ k ⟨h1, h2⟩ => ⟨λ hlt => ?_, λ hge => ?_⟩⟩
 ·have hlt : k < a.l.length := by omega
  refine ⟨⟨by omega, by omega⟩, λ hp => ?_, λ hp => ⟨k + 1, (HH (by omega)).symm, ⟨by omega, ?_⟩, by omega⟩⟩
  ·rw [h2]; exact R2 hlt (by simpa using hp)
  ·rw [h2]; exact BBL hlt (by simpa using hp)
 ·rw [h2]; exact ANJ (by omega)
theorem COK : AR Try.prog BIQ (C2Sa.spec d2Sa) := Jp C2Sa A2Sa [] [] CAE (λ _ => by kernel_rfl) (λ _ => AC CLT AL) p2Sa (λ _ => Mi rfl rfl) _
def C3Sa : Ctr := { C2Sa with val := λ (a : MSa) => .bool (decide (lU (λ i => !jN (gD a.l i)) a.l.length 0 >= 0)) }
def d3Sa : List AVal -> Heap -> Option (C3Sa.α × List (Nat × Nat) × List Nat) := d2Sa
def A3Sa : Ann := { ann 9 [(BIQ, C2Sa.spec d2Sa)] with E := [100] }
def V3Sa (a : MSa) : Prop := DN Try.prog A3Sa BJK (AP BJK) (C3Sa.xs a) (AH (C3Sa.L a)) (C3Sa.val a) (C3Sa.keep a) [] []
abbrev Wy:=@HX Span
abbrev MC a b c d e:=BZ a (AI b c d) e
abbrev gU a (b:Nat->Span):=Wy (DR a) b
abbrev PX a:=gU a (λ i=>ML a i)
abbrev LF a:=DR (PX a)
abbrev VK a b c d e f:=DP a b c d (BJ e f)
abbrev PI a b c d e f:=VK a b (GK c a) d e f
abbrev MQ a b c d e:=PI a b c d (ML c a) e
abbrev UI a b c d e f:=MQ a b c (GK d e) f
abbrev Az a b c d e:=UI a b c d a e
abbrev QJ a b c d:=Az a b c d (ML d a)
abbrev ZH a b c:=AK (λ i=>QJ i a b c)
abbrev Up a b:=ZH a (PX b) b
abbrev Er a:=Up (LF a) a
abbrev YL a b:=CL (LF a) b
attribute [go_sem] Wy MC gU PX LF VK PI MQ UI Az QJ ZH Up Er YL
theorem CLY (a : MSa) : (V3Sa a) = (MC (YL (bM a) (YF a)) (Er (bM a)) (DS (LF (bM a))) FO (MF (WB (λ i=>On a i) (YF a)) (WB (λ i=>Nu (PX (bM a)) i) (LF (bM a))))) := by kernel_rfl
theorem CLM : AR Try.prog BJI (C3Sa.spec d3Sa) := Ctr.spec_ok (C := C3Sa) (λ (a : MSa) h => Su (A := A3Sa) (ren := []) (fz := []) CBA (by kernel_rfl) (AC COK AL) (by
 obtain ⟨h, hp⟩ : a.l.length < 4611686018427387904 /\ True := h
 show V3Sa a; rw [CLY]<;> delta MF hd6 BU CO CL DR AK CA DD AU ML FO bM Wy AI BO BK BJ CD DP gU BZ DS GK PX LF VK Ht PI MQ Gy UI Nu Az QJ YF YL MC ZH Lt WB On Up Er; simp [h, Cq])) _
def d4Sa : List AVal -> Heap -> Option (MSa × List (Nat × Nat) × List Nat)
 | [y, .fn _ _ _], H => match dRow y H with
  | some (n, g, f) => some (⟨default, HX n λ i => Ms (g i)⟩, [], f)
  | none => none
 | _, _ => none
def A4Sa : Ann := { ann 9 [(BJI, C3Sa.spec d3Sa)] with E := [] }
def C4Sa : Ctr := { ro := [], α := MSa, xs := λ a => [.d (DW a.l), fvSa a.q], L := λ a => [], val := λ a => .bool (a.l.all λ x => jN x), keep := λ a => [], pre := PSa }
def V4Sa (a : MSa) : Prop := DN Try.prog A4Sa F_eS (AP F_eS) (C4Sa.xs a) (AH (C4Sa.L a)) (C4Sa.val a) (C4Sa.keep a) [] []
abbrev yP:=@List.all Span
attribute [go_sem] yP
theorem CLQ (a : MSa) : (V4Sa a) = (MC (YL (bM a) (YF a)) (Er (bM a)) (DS (LF (bM a))) FO (MF (yP (bM a) jN) (not (WB (λ i=>Nu (PX (bM a)) i) (LF (bM a)))))) := by kernel_rfl
theorem CHW (a : MSa) (h : DZ (PSa a)) : FnT Try.prog n_eS (C4Sa.xs a) (AH (C4Sa.L a)) (C4Sa.val a) (C4Sa.keep a) := Su (A := A4Sa) (ren := []) (fz := []) CFO (by kernel_rfl) (AC CLM AL) (by
 have h' : a.l.length < 4611686018427387904 /\ True := h
 show V4Sa a; rw [CLQ]<;> delta MF hd6 BU CO CL DR AK CA DD AU ML FO bM Wy yP AI BO BK BJ CD DP gU BZ DS GK PX LF VK Ht PI MQ Gy UI Nu Az QJ YF YL MC ZH Lt WB Up Er; simp only [CC, eq_self, implies_true, forall_const, ge_iff_le]
 rw [<- AEF]
 exact ⟨h'.1, rfl⟩)
theorem COM : AR Try.prog n_eS (C4Sa.spec d4Sa) := Ctr.spec_ok (C := C4Sa) CHW _
def fvSn (q : One) : AVal := .fn (.func BEV) [] []
def BSn (q : One) : AObj := .box [fvSn q]
structure ESn where
 q : One
 e : Span
structure MSn where
 q : One
 l : List Span
def C1Sn : Ctr := { ro := [100], α := ESn, xs := λ a => [.d (JS a.e), .bptr 100 0], L := λ a => (100, BSn a.q) :: [], val := λ a => .bool (!jN a.e), keep := λ a => (100, .live (BSn a.q)) :: [] }
def d1Sn : List AVal -> Heap -> Option (ESn × List (Nat × Nat) × List Nat)
 | [.d d, .bptr id _], H => some (⟨default, Ms d⟩, [(100, id)], [])
 | _, _ => none
def A1Sn : Ann := { ann 8 [(BEV, BGZ)] with E := [100] }
def V1Sn (a : ESn) : Prop := DN Try.prog A1Sn BJV (AP BJV) (C1Sn.xs a) (AH (C1Sn.L a)) (C1Sn.val a) (C1Sn.keep a) [] []
theorem CMG (a : ESn) : (V1Sn a) = (ED (not (jN (ESn.e a)))) := by kernel_rfl
theorem CND : AR Try.prog APB (C1Sn.spec d1Sn) := Jp C1Sn (λ _ => A1Sn) [] [] BUY (λ _ => by kernel_rfl) (λ _ => AC CDL AL) (λ (a : ESn) h => by
 show V1Sn a; rw [CMG]<;> delta MF ED; try simp [wr, Cq]) (λ _ => Mi rfl rfl) _
def d2Sn : List AVal -> Heap -> Option (MSn × List (Nat × Nat) × List Nat)
 | [y, .fn _ _ [.bptr id _]], H => match dRow y H with
  | some (n, g, f) => some (⟨default, HX n λ i => Ms (g i)⟩, [(100, id)], f)
  | none => none
 | _, _ => none
def A2Sn (a : MSn) : Ann := { ann 19 [(APB, C1Sn.spec d1Sn)] with E := [100], loops := λ id => if id = 2 then some [{ α := Nat, dflt := 0, T := λ k => ⟨[(0, .d (DW a.l)), (1, .fn (.func APB) [] [.bptr 100 0]), (7, .int a.l.length), (8, .int k)], (100, .live (BSn a.q)) :: []⟩, inv := λ k => k <= a.l.length /\ lU (λ i => !jN (gD a.l i)) a.l.length 0 = lU (λ i => !jN (gD a.l i)) (a.l.length - k) k, meas := λ k => a.l.length - k }] else none }
def PSn (a : MSn) : List Prop := [a.l.length < 4611686018427387904 /\ True]
def C2Sn : Ctr := { ro := [100], α := MSn, xs := λ a => [.d (DW a.l), .fn (.func APB) [] [.bptr 100 0]], L := λ a => (100, BSn a.q) :: [], val := λ a => .int (lU (λ i => !jN (gD a.l i)) a.l.length 0), keep := λ a => (100, .live (BSn a.q)) :: [], pre := PSn }
def V2Sn (a : MSn) : Prop := DN Try.prog (A2Sn a) BKA (AP BKA) (C2Sn.xs a) (AH (C2Sn.L a)) (C2Sn.val a) (C2Sn.keep a) [] []
abbrev cC:=MSn.l
abbrev XV a:=DR (cC a)
abbrev Nc a b:=Nu (cC a) b
attribute [go_sem] cC XV Nc
theorem CMQ (a : MSn) : (V2Sn a) = (NQ (λ i=>DY (BQ (MO (cC a)) (KX (cC a)) (GA (XV a)) (CF i)) i (XV a) (Ct (λ j=>Nc a j) (XV a) (λ j=>Nc a j) i i)) (λ i=>CU (LZ i (XV a) (Ct (λ j=>Nc a j) (XV a) (λ j=>Nc a j) i i)) i (BW (XV a)) (EX (JJ (BW i) (XV a) (By (cC a) i) (BL (ML (cC a) i))) (not (Nc a i)) (Me (λ j=>Nc a j) (XV a) (BW i)) (GY (λ j=>DC (BQ (MO (cC a)) (KX (cC a)) (GA (XV a)) (BT j i)) (LZ j (XV a) (Ct (λ k=>Nc a k) (XV a) (λ k=>Nc a k) j j)) (XV a) j i))) (Me (λ j=>Nc a j) (XV a) (-1)))) := by kernel_rfl
theorem p2Sn (a : MSn) (h : DZ (PSn a)) : V2Sn a := by
 obtain ⟨h, hp⟩ : a.l.length < 4611686018427387904 /\ True := h
 rw [CMQ]<;> delta BU CO TP WF CL DR AK CA DD AU ML BW GM FX WN KZ KB XF NR GY cC AI BO BK BJ AM BL BV CD CJ IY GG KR EY FR DI IE DU LB BQ OT BT LV HB DC MO OF Ht By QT CU EX DY JJ GA KX CF Gy Nu LZ XV Me UW NQ Nc Ct
 simp only [CC, eq_self, implies_true, forall_const]
 refine ⟨⟨0, rfl, Nat.zero_le _, rfl⟩, λ k ⟨h1, h2⟩ => ⟨λ hlt => ?_, λ hge => ?_⟩⟩
 ·have hlt : k < a.l.length := by omega
  refine ⟨⟨by omega, by omega⟩, λ hp => ?_, λ hp => ⟨k + 1, (HH (by omega)).symm, ⟨by omega, ?_⟩, by omega⟩⟩
  ·rw [h2]; exact R2 hlt (by simpa using hp)
  ·rw [h2]; exact BBL hlt (by simpa using hp)
 ·rw [h2]; exact ANJ (by omega)
theorem CKY : AR Try.prog BIQ (C2Sn.spec d2Sn) := Jp C2Sn A2Sn [] [] CAE (λ _ => by kernel_rfl) (λ _ => AC CND AL) p2Sn (λ _ => Mi rfl rfl) _
def C3Sn : Ctr := { C2Sn with val := λ (a : MSn) => .bool (decide (lU (λ i => !jN (gD a.l i)) a.l.length 0 >= 0)) }
def d3Sn : List AVal -> Heap -> Option (C3Sn.α × List (Nat × Nat) × List Nat) := d2Sn
def A3Sn : Ann := { ann 9 [(BIQ, C2Sn.spec d2Sn)] with E := [100] }
def V3Sn (a : MSn) : Prop := DN Try.prog A3Sn BJK (AP BJK) (C3Sn.xs a) (AH (C3Sn.L a)) (C3Sn.val a) (C3Sn.keep a) [] []
theorem CNN (a : MSn) : (V3Sn a) = (MC (YL (cC a) (XV a)) (Er (cC a)) (DS (LF (cC a))) FO (MF (WB (λ i=>Nc a i) (XV a)) (WB (λ i=>Nu (PX (cC a)) i) (LF (cC a))))) := by kernel_rfl
theorem CLD : AR Try.prog BJI (C3Sn.spec d3Sn) := Ctr.spec_ok (C := C3Sn) (λ (a : MSn) h => Su (A := A3Sn) (ren := []) (fz := []) CBA (by kernel_rfl) (AC CKY AL) (by
 obtain ⟨h, hp⟩ : a.l.length < 4611686018427387904 /\ True := h
 show V3Sn a; rw [CNN]<;> delta MF hd6 BU CO CL DR AK CA DD AU ML FO Wy cC AI BO BK BJ CD DP gU BZ DS GK PX LF VK Ht PI MQ Gy UI Nu Az XV QJ YL MC ZH Lt WB Nc Up Er; simp [h, Cq])) _
def A4Sn : Ann := { ann 9 [(BJI, C3Sn.spec d3Sn)] with E := [] }
def C4Sn : Ctr := { ro := [], α := MSn, xs := λ a => [.d (DW a.l), fvSn a.q], L := λ a => [], val := λ a => .bool (a.l.all λ x => jN x), keep := λ a => [], pre := PSn }
def V4Sn (a : MSn) : Prop := DN Try.prog A4Sn F_eS (AP F_eS) (C4Sn.xs a) (AH (C4Sn.L a)) (C4Sn.val a) (C4Sn.keep a) [] []
theorem CLP (a : MSn) : (V4Sn a) = (MC (YL (cC a) (XV a)) (Er (cC a)) (DS (LF (cC a))) FO (MF (yP (cC a) jN) (not (WB (λ i=>Nu (PX (cC a)) i) (LF (cC a)))))) := by kernel_rfl
theorem CNL (a : MSn) (h : DZ (PSn a)) : FnT Try.prog n_eS (C4Sn.xs a) (AH (C4Sn.L a)) (C4Sn.val a) (C4Sn.keep a) := Su (A := A4Sn) (ren := []) (fz := []) CFO (by kernel_rfl) (AC CLD AL) (by
 have h' : a.l.length < 4611686018427387904 /\ True := h
 show V4Sn a; rw [CLP]<;> delta MF hd6 BU CO CL DR AK CA DD AU ML FO Wy yP cC AI BO BK BJ CD DP gU BZ DS GK PX LF VK Ht PI MQ Gy UI Nu Az XV QJ YL MC ZH Lt WB Up Er; simp only [CC, eq_self, implies_true, forall_const, ge_iff_le]
 rw [<- AEF]
 exact ⟨h'.1, rfl⟩)
structure N2 where
 q : Nt
 e : Nt
def ntB (q : Nt) : AObj := .box [.int q.mi, .int q.t.lo, .int q.t.hi, .int q.s.lo, .int q.s.hi]
def BTZ (H : Heap) (id : Nat) : Option Nt := match H id with
 | .live (.box [.d a, .d b, .d c, .d d, .d e]) => some ⟨JQ a, ⟨JQ b, JQ c⟩, ⟨JQ d, JQ e⟩⟩
 | _ => none
def C_ck2 : Ctr := { ro := [100], α := N2, xs := λ a => [.d (eNt a.e), .bptr 100 0], L := λ a => [(100, ntB a.q)], val := λ a => .bool (a.e.mi == a.q.mi), keep := λ a => [(100, .live (ntB a.q))] }
def CHK : List AVal -> Heap -> Option (N2 × List (Nat × Nat) × List Nat)
 | [.d d, .bptr id _], H => match BTZ H id with
  | some q => some (⟨q, dNt d⟩, [(100, id)], [])
  | none => none
 | _, _ => none
def CGB : Ann := { ann 9 [] with E := [100] }
def CHJ (a : N2) : Prop := DN Try.prog CGB BAM (AP BAM) (C_ck2.xs a) (AH (C_ck2.L a)) (C_ck2.val a) (C_ck2.keep a) [] []
abbrev Ye:=@BEq.beq Int (@instBEqOfDecidableEq Int Int.instDecidableEq)
abbrev NA a:=AN (QA a) (LG a) (HD a) (LD a) (FS a)
abbrev AJZ a b:=Ye (FM a) b
abbrev ARM a b:=AJZ a (FM b)
attribute [go_sem] Ye NA AJZ ARM
theorem CJF (a : N2) : (CHJ a) = (And (ED (ARM (N2.e a) (N2.q a))) (NA (N2.q a))) := by kernel_rfl
theorem CJL : AR Try.prog L7 (C_ck2.spec CHK) := Jp C_ck2 (λ _ => CGB) [] [] BTF (λ _ => by kernel_rfl) (λ _ => AL) (λ (a : N2) _ => by
 show CHJ a; rw [CJF]<;> delta MF BU CO FM FQ FP AU Ye AI AN BO CG BJ AM BL ED CS HD FS LD LG QA NA AJZ ARM; try simp) (λ _ => Mi rfl rfl) _
structure MNc where
 q : Nt
 l : List Nt
def d2Nc : List AVal -> Heap -> Option (MNc × List (Nat × Nat) × List Nat)
 | [y, .fn _ _ [.bptr id _]], H => match dRow y H with
  | some (n, g, f) => match BTZ H id with
   | some q => some (⟨q, HX n λ i => dNt (g i)⟩, [(100, id)], f)
   | none => none
  | none => none
 | _, _ => none
def A2Nc (a : MNc) : Ann := { ann 19 [(L7, C_ck2.spec CHK)] with E := [100], loops := λ id => if id = 2 then some [{ α := Nat, dflt := 0, T := λ k => ⟨[(0, .d (eNts a.l)), (1, .fn (.func L7) [] [.bptr 100 0]), (7, .int a.l.length), (8, .int k)], [(100, .live (ntB a.q))]⟩, inv := λ k => k <= a.l.length /\ lU (λ i => (gD a.l i).mi == a.q.mi) a.l.length 0 = lU (λ i => (gD a.l i).mi == a.q.mi) (a.l.length - k) k, meas := λ k => a.l.length - k }] else none }
def C2Nc : Ctr := { ro := [100], α := MNc, xs := λ a => [.d (eNts a.l), .fn (.func L7) [] [.bptr 100 0]], L := λ a => [(100, ntB a.q)], val := λ a => .int (lU (λ i => (gD a.l i).mi == a.q.mi) a.l.length 0), keep := λ a => [(100, .live (ntB a.q))], pre := λ a => [a.l.length < 4611686018427387904 /\ True] }
def V2Nc (a : MNc) : Prop := DN Try.prog (A2Nc a) BKO (AP BKO) (C2Nc.xs a) (AH (C2Nc.L a)) (C2Nc.val a) (C2Nc.keep a) [] []
abbrev hd90:=MNc.l
abbrev Mj:=MNc.q
abbrev RI a:=GN (hd90 a)
abbrev ASP a b:=ARM a (Mj b)
abbrev OL a b:=FY (hd90 a) b
abbrev Yz a b c:=ASP (OL a b) c
abbrev DJ a (b:Nat->Prop) c d e f g h p:=AO a (AK b) c d e f g h p
abbrev rT a:=QA (Mj a)
abbrev A1 a b c d e f g h:=AO a b c d e f b g h
abbrev AZV a b c d e f g:=A1 a b c d e a f g
attribute [go_sem] hd90 Mj RI ASP OL Yz DJ rT A1 AZV
theorem CNB (a : MNc) : (V2Nc a) = (NQ (λ i=>DY (DJ (BV (RI a)) (λ j=>AAU j (RI a) (QA (OL a j)) (LG (OL a j)) (OL a j) (LD (OL a j)) (FS (OL a j))) (GA (RI a)) (CF i) (rT a) (LG (Mj a)) (HD (Mj a)) (LD (Mj a)) (FS (Mj a))) i (RI a) (AU (lU (λ j=>Yz a j a) (RI a) 0) (lU (λ j=>Yz a j a) (NR (RI a) i) i))) (λ i=>CU (LZ i (RI a) (AU (lU (λ j=>Yz a j a) (RI a) 0) (lU (λ j=>Yz a j a) (NR (RI a) i) i))) i (BW (RI a)) (JL (IH i (RI a) (CM (QA (OL a i)) (LG (OL a i)) (HD (OL a i)) (LD (OL a i)) (FS (OL a i)) (rT a) (AZV (LG (Mj a)) (HD (Mj a)) (LD (Mj a)) (FS (Mj a)) (rT a) (LD (Mj a)) (FS (Mj a))))) (Yz a i a) (AU (lU (λ j=>Yz a j a) (RI a) 0) (BW i)) (NA (Mj a)) (GY (λ j=>DC (DJ (BV (RI a)) (λ k=>AAU k (RI a) (QA (OL a k)) (LG (OL a k)) (OL a k) (LD (OL a k)) (FS (OL a k))) (GA (RI a)) (BT j i) (rT a) (LG (Mj a)) (HD (Mj a)) (LD (Mj a)) (FS (Mj a))) (LZ j (RI a) (AU (lU (λ k=>Yz a k a) (RI a) 0) (lU (λ k=>Yz a k a) (NR (RI a) j) j))) (RI a) j i))) (And (AU (lU (λ j=>Yz a j a) (RI a) 0) (-1)) (NA (Mj a))))) := by kernel_rfl
theorem p2Nc (a : MNc) (h : DZ (C2Nc.pre a)) : V2Nc a := by
 obtain ⟨h, hp⟩ : a.l.length < 4611686018427387904 /\ True := h
 rw [CNB]<;> delta BU CO FM TP WF FQ FP CL AK CA DD AU BW GM FX WN KZ KB XF NR GN FY GY Ye hd90 Mj AI AN BO BK CG BJ AO AM BL BV A1 AZV CS DM IY HD GG FS KR EY FR DI BZ IE DU LD AAU LG OT BT LV DC CM QA OF KD OL CU NA EW EX DY GA CF DJ LZ RI UW IH JL NQ AJZ ARM ASP Yz rT
 simp only [CC, eq_self, implies_true, forall_const]
 refine ⟨⟨0, rfl, Nat.zero_le _, rfl⟩, λ k ⟨h1, h2⟩ => ⟨λ hlt => ?_, λ hge => ?_⟩⟩
 ·have hlt : k < a.l.length := by omega
  refine ⟨⟨by omega, by omega⟩, λ hp => ?_, λ hp => ⟨k + 1, (HH (by omega)).symm, ⟨by omega, ?_⟩, by omega⟩⟩
  ·rw [h2]; exact R2 hlt (by simpa using hp)
  ·rw [h2]; exact BBL hlt (by simpa using hp)
 ·rw [h2]; exact ANJ (by omega)
theorem CLO : AR Try.prog BKR (C2Nc.spec d2Nc) := Jp C2Nc A2Nc [] [] BUI (λ _ => by kernel_rfl) (λ _ => AC CJL AL) p2Nc (λ _ => Mi rfl rfl) _
def C3Nc : Ctr := { C2Nc with val := λ (a : MNc) => .bool (a.l.any λ x => x.mi == a.q.mi) }
def d3Nc : List AVal -> Heap -> Option (C3Nc.α × List (Nat × Nat) × List Nat) := d2Nc
def A3Nc : Ann := { ann 9 [(BKR, C2Nc.spec d2Nc)] with E := [100] }
def V3Nc (a : MNc) : Prop := DN Try.prog A3Nc BKB (AP BKB) (C3Nc.xs a) (AH (C3Nc.L a)) (C3Nc.val a) (C3Nc.keep a) [] []
theorem CNF (a : MNc) : (V3Nc a) = (AI (CE (CL (GN (EN (hd90 a) (λ i=>OL a i))) (RI a)) (AK (λ i=>ALN i (GN (EN (hd90 a) (λ j=>OL a j))) (FY (EN (hd90 a) (λ j=>OL a j)) i) (OL a i) (OL a i))) (rT a) (LG (Mj a)) (HD (Mj a)) (AZV (LD (Mj a)) (FS (Mj a)) (rT a) (LG (Mj a)) (HD (Mj a)) (DS (GN (EN (hd90 a) (λ i=>OL a i)))) FO)) (MF ((@List.any Nt) (hd90 a) (λ i=>ASP i a)) (Lt (lU (λ i=>ASP (FY (EN (hd90 a) (λ j=>OL a j)) i) a) (GN (EN (hd90 a) (λ i=>OL a i))) 0))) (NA (Mj a))) := by kernel_rfl
theorem BWI {α : Type} [Inhabited α] {p : α -> Bool} {l : List α} : decide (0 <= lU (λ i => p (gD l i)) l.length 0) = l.any p := by
 rw [Bool.eq_iff_iff, decide_eq_true_eq, BNY, List.any_eq_true]
 exact ⟨λ ⟨i, _, h1, h2⟩ => ⟨gD l i, HP (by omega), h2⟩, λ ⟨x, hx, h2⟩ => by obtain ⟨i, hi, rfl⟩ := XR hx; exact ⟨i, Nat.zero_le _, by omega, h2⟩⟩
theorem COH : AR Try.prog BJN (C3Nc.spec d3Nc) := Ctr.spec_ok (C := C3Nc) (λ (a : MNc) h => Su (A := A3Nc) (ren := []) (fz := []) BWL (by kernel_rfl) (AC CLO AL) (by
 obtain ⟨h, hp⟩ : a.l.length < 4611686018427387904 /\ True := h
 show V3Nc a; rw [CNF]<;> delta MF hd6 BU CO FM FQ FP CL AK CA DD AU GN FY FO Ye hd90 Mj AI EN AN BO BK CG BJ AO AM BL A1 AZV CS DM EU HD EA EI FS EH HM EF DS FH LC LD JX LG NL QA CE OL NA RI PJ AJZ Lt TN VQ ARM ASP ALN rT; simp only [CC, eq_self, implies_true, forall_const, ge_iff_le]
 rw [<- BWI]
 simp [h, Cq])) _
end Go.Bal
