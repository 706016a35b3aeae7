/- Package chart: every. Printed by gench.py. -/
import Derived.Test.YtdbjalgfomknhaaChA
set_option linter.unusedVariables false
set_option linter.unusedSimpArgs false
namespace Go.Bal
open Go Go.Sym Go.Proofs
def vX (p : Nat -> Bool) : Nat -> Bool
 | 0 => true
 | n + 1 => vX p n && p n
theorem bN {p : Nat -> Bool} : ∀ {n : Nat}, vX p n = true ↔ ∀ i, i < n -> p i = true
 | 0 => by simp [vX]
 | n + 1 => by
  simp only [vX, Bool.and_eq_true, bN (n := n)]
  constructor
  ·intro h i hi
   by_cases he : i = n
   ·subst he; exact h.2
   ·exact h.1 i (by omega)
  ·exact λ h => ⟨λ i hi => h i (by omega), h n (by omega)⟩
theorem ASW {p : Nat -> Bool} : ∀ {n k : Nat}, (0 <= Tl p n k) ↔ ∃ i, k <= i /\ i < k + n /\ p i = true
 | 0, k => by simp [Tl]; omega
 | n + 1, k => by
  simp only [Tl]
  by_cases h : p k = true
  ·rw [if_pos h]
   constructor
   ·intro _; exact ⟨k, Nat.le_refl _, by omega, h⟩
   ·intro _; omega
  ·rw [if_neg h, ASW (n := n) (k := k + 1)]
   constructor
   ·rintro ⟨i, h1, h2, h3⟩; exact ⟨i, by omega, by omega, h3⟩
   ·rintro ⟨i, h1, h2, h3⟩
    refine ⟨i, ?_, by omega, h3⟩
    by_cases he : i = k
    ·subst he; exact absurd h3 h
    ·omega
theorem BFI {p : Nat -> Bool} {n : Nat} : (!decide (0 <= Tl (λ i => !p i) n 0)) = vX p n := by
 rw [Bool.eq_iff_iff, bN]
 simp only [Bool.not_eq_true', decide_eq_false_iff_not, ASW, Nat.zero_le, Nat.zero_add, true_and]
 constructor
 ·intro h i hi
  cases hp : p i with
  | true => rfl
  | false => exact (h ⟨i, hi, by simp [hp]⟩).elim
 ·rintro h ⟨i, hi, hp⟩
  rw [h i hi] at hp; cases hp
theorem bM {α : Type} [Inhabited α] {p : α -> Bool} {l : List α} : (!decide (0 <= Tl (λ i => !p (gD l i)) l.length 0)) = l.all p := by
 rw [BFI, Bool.eq_iff_iff, bN, List.all_eq_true]
 exact ⟨λ h x hx => by obtain ⟨i, hi, rfl⟩ := QG hx; exact h i hi, λ h i hi => h _ (LS hi)⟩
def chB (c : Cht) : AObj := .box [.int c.p.lo, .int c.p.hi, .int c.base, .int c.scale, .int c.off, .d (eMks c.ms), .d (eNts c.ns)]
def Ap (H : Heap) (id : Nat) : Option Cht := match H id with
 | .live (.box [.d a, .d b, .d c, .d d, .d e, .d (.list _ n f _), .d (.list _ m g _)]) => some ⟨⟨FQ a, FQ b⟩, FQ c, FQ d, FQ e, OF n λ i => dMk (f i), OF m λ i => dNt (g i)⟩
 | _ => none
structure ChN where
 q : Cht
 e : Nt
def C_ck1 : Ctr := { ro := [101], α := ChN, xs := λ a => [.d (eNt a.e), .bptr 101 0], L := λ a => [(101, chB a.q)], val := λ a => .bool (RY a.e a.q.ms.length), keep := λ a => [(101, .live (chB a.q))] }
def BPJ : List AVal -> Heap -> Option (ChN × List (Nat × Nat) × List Nat)
 | [.d d, .bptr id _], H => match Ap H id with
  | some q => some (⟨q, dNt d⟩, [(101, id)], [])
  | none => none
 | _, _ => none
def BQC : Ann := { ann 9 [(ANN, AYC)] with E := [101] }
def BMP (a : ChN) : Prop := CR Try.prog BQC AFZ (AL AFZ) (C_ck1.xs a) (AE (C_ck1.L a)) (C_ck1.val a) (C_ck1.keep a) [] []
abbrev JT:=@List.length Mk
abbrev HP:=Cht.ms
abbrev GG:=Cht.p
abbrev IQ:=Cht.base
abbrev IV:=Cht.scale
abbrev IX:=Cht.off
abbrev JU:=@gD Mk instInhabitedMk
abbrev GZ:=@List.length Nt
abbrev GM:=Cht.ns
abbrev HK:=@gD Nt instInhabitedNt
abbrev AN a b c d e f g h p:=AK a b c d (AK e f g h p)
abbrev FX a b c d e f (g:Nat->Prop) h p:=AN a b c d e f (AF g) h p
abbrev BB a:=AJ (IX a)
abbrev BA a:=AJ (IV a)
abbrev AV a:=AJ (IQ a)
abbrev AW a:=BO (GG a)
abbrev AT a:=CD (GG a)
abbrev RA a b c (d:Nat->Prop) e f:=FX (AT a) (AW b) (AV b) (BA b) (BB b) c d e f
abbrev XC a b c (d:Nat->Prop) e (f:Nat->Prop):=RA a b c d e (AF f)
abbrev BL a:=GZ (GM a)
abbrev EP a b c:=BQ a (BL b) c
abbrev DZ a b c d e f:=AK a b (BJ c d) e f
abbrev EI a b c d e f g:=DZ a b c d e (BJ f g)
abbrev GA a b c d:=EI (AJ a) (AJ b) c c (CD d) d d
abbrev DD a b:=HK (GM a) b
abbrev AM a b:=FH (DD a b)
abbrev AO a b:=EE (DD a b)
abbrev CF a:=CI (EE a)
abbrev AP a b:=CF (DD a b)
abbrev DV a b:=FE (DD a b)
abbrev DE a b:=EP a b (GA (DV b a) (AP b a) (AO b a) (AM b a))
abbrev DB a:=BU (BL a)
abbrev BV a:=JT (HP a)
abbrev HD a b c d:=BR a (BV b) c d
abbrev EL a b:=JU (HP a) b
abbrev DY a b:=Mk.ht (EL a b)
abbrev DI a b:=Mk.pl (EL a b)
abbrev FP a b:=HD a b (AJ (DI b a)) (AJ (DY b a))
abbrev EU a:=BU (BV a)
abbrev HJ a:=XC a a (EU a) (λ i=>FP i a) (DB a) (λ i=>DE i a)
abbrev ND a:=CG (BV a)
abbrev Gd a b:=zK a (ND b)
attribute [go_sem] JT HP GG IQ IV IX JU GZ GM HK AN FX BB BA AV AW AT RA XC BL EP DZ EI GA DD AM AO CF AP DV DE DB BV HD EL DY DI FP EU HJ ND Gd
theorem BSI (a : ChN) : (BMP a) = (And (LV (Gd (ChN.e a) (ChN.q a)) (Gd (Nt.mk (FE (ChN.e a)) (EE (ChN.e a)) (FH (ChN.e a))) (ChN.q a))) (HJ (ChN.q a))) := by kernel_rfl
theorem BRZ : AR Try.prog L6 (C_ck1.spec BPJ) := Bl C_ck1 (λ _ => BQC) [] [] AZX (λ _ => by kernel_rfl) (λ _ => AC BDY AI) (λ (a : ChN) _ => by
 show BMP a; rw [BSI]<;> delta LV CI CH zK FE EE FH CL AF CV DC AS CG JT HP GG IQ IV IX JU GZ GM HK AH DD EL AK BN BQ CF AJ BU BJ AN AM BV CD BR BL AO DZ EI DV DI AT BB EP HD BO DY AP BA AW AV DB EU FX GA ND FP RA XC DE HJ Gd; simp [wr, PL]) (λ _ => Ec rfl rfl) _
def Ps (s : Span) : Bool := decide (s.lo <= s.hi)
def BDL (x : Span) : Prop := CR Try.prog (ann 8 []) AUT (AL AUT) (xS1 x) (AE []) (.bool (Ps x)) [] [] []
theorem BMH (x : Span) : (BDL x) = (LV (Ps x) (hd7 (CI x) (CH x))) := by kernel_rfl
def ALO := pD dS1 λ x => .bool (Ps x)
theorem BKL : AR Try.prog AKZ ALO := Lu xS1 hS1 λ x _ => Ky (A := ann 8 []) (ren := []) (fz := []) BLU (by kernel_rfl) AI (by
 show BDL x; rw [BMH]<;> delta LV hd7 CI CH; try simp [Ps])
def BFX (x : Span) : Prop := CR Try.prog (ann 8 []) ATA (AL ATA) (xS1 x) (AE []) (.bool (Ps x)) [] [] []
theorem BKW (x : Span) : (BFX x) = (LV (Ps x) (hd7 (CI x) (CH x))) := by kernel_rfl
theorem BLI : AR Try.prog ANQ ALO := Lu xS1 hS1 λ x _ => Ky (A := ann 8 []) (ren := []) (fz := []) BKS (by kernel_rfl) AI (by
 show BFX x; rw [BKW]<;> delta LV hd7 CI CH; try simp [Ps])
def BPG (x : Int) : Prop := CR Try.prog (ann 5 [(N8, s_in)]) AGS (AL AGS) (xI1 x) (AE []) (.bool (TM x (-100000000) 100000000)) [] [] []
abbrev FT a:=LV a a
attribute [go_sem] FT
theorem BTL (x : Int) : (BPG x) = (FT (TM x (-100000000) 100000000)) := by kernel_rfl
def BOY := pD dI1 λ x => .bool (TM x (-100000000) 100000000)
theorem BRF : AR Try.prog G1 BOY := Lu xI1 hI1 λ x _ => Ky (A := ann 5 [(N8, s_in)]) (ren := []) (fz := []) AZZ (by kernel_rfl) (AC ABM AI) (by
 show BPG x; rw [BTL]<;> delta LV FT; try simp)
def LXNr (q : Cht) : List (Nat × AObj) := [(101, chB q)]
def KXNr (q : Cht) : List (Nat × HCell) := [(101, .live (chB q))]
def fvNr (q : Cht) : AVal := .fn (.func L6) [] [.bptr 101 0]
def BNr (q : Cht) : AObj := .box [fvNr q]
structure ENr where
 q : Cht
 e : Nt
structure MNr where
 q : Cht
 l : List Nt
def C1Nr : Ctr := { ro := [100, 101], α := ENr, xs := λ a => [.d (eNt a.e), .bptr 100 0], L := λ a => (100, BNr a.q) :: LXNr a.q, val := λ a => .bool (!RY a.e a.q.ms.length), keep := λ a => (100, .live (BNr a.q)) :: KXNr a.q }
def d1Nr : List AVal -> Heap -> Option (ENr × List (Nat × Nat) × List Nat)
 | [.d d, .bptr id _], H => match H id with
  | .live (.box [.fn _ _ [.bptr j _]]) => match Ap H j with
   | some q => some (⟨q, dNt d⟩, [(100, id), (101, j)], [])
   | none => none
  | _ => none
 | _, _ => none
def A1Nr : Ann := { ann 8 [(L6, C_ck1.spec BPJ)] with E := [100, 101] }
def V1Nr (a : ENr) : Prop := CR Try.prog A1Nr BBK (AL BBK) (C1Nr.xs a) (AE (C1Nr.L a)) (C1Nr.val a) (C1Nr.keep a) [] []
abbrev hd70:=ENr.e
abbrev Ja:=ENr.q
abbrev LC:=@OF Nt
abbrev Bk a b:=LV a (not b)
abbrev GI a:=(@OF Mk) (JT (HP a)) (λ i=>EL a i)
abbrev ED a:=JT (GI a)
abbrev Ku a:=CG (ED a)
abbrev YC a b c d e:=DZ a b c c d e
abbrev MZ a b c d e f g h p:=AN (AW a) b c d e f g h p
abbrev GF a b c d e f g h p:=EI a (AS b c) d e (BT f g) h p
abbrev LJ a b c d e f g h:=GF a (AP b c) d (AO e f) g (AM e f) h (AM e f) h
abbrev EW a (b:Nat->Nt):=LC (GZ a) b
abbrev GS a (b:Nat->Nt):=EW (GM a) b
abbrev HR a:=GS a (λ i=>DD a i)
abbrev AZ a b:=HK (HR a) b
abbrev BE a b:=FH (AZ a b)
abbrev BD a b:=CF (AZ a b)
abbrev KT a b c:=AS (DV a b) c
abbrev MW a b:=FE (AZ a b)
abbrev DX a b:=EP a b (LJ (KT b a (MW b a)) b a (BD b a) b a (EE (AZ b a)) (BE b a))
abbrev MB a b:=CL (BL a) b
abbrev FN a:=GZ (HR a)
abbrev DK a:=MB a (FN a)
abbrev KX a b c d e f:=HD a b c (AS (DY d e) f)
abbrev GN a b:=JU (GI a) b
abbrev GR a b:=Mk.ht (GN a b)
abbrev KR a b c:=AS (DI a b) c
abbrev GQ a b:=Mk.pl (GN a b)
abbrev DT a b:=KX a b (KR b a (GQ b a)) b a (GR b a)
abbrev LY a b:=CL a (ED b)
abbrev DQ a:=LY (BV a) a
abbrev GD a b c d e f g:=GF a b c (EE d) e f g f g
abbrev EC a b c d e f g h p:=BQ a b (GD c d e f g h p)
abbrev BC a b c d e f g h p:=EC a (FN b) c d e f g h p
abbrev FA a b:=AS (FE a) b
abbrev IT a b c:=FA a (DV b c)
abbrev BG a b:=IT (AZ a b) a b
abbrev GJ a b:=CL a (BL b)
abbrev CA a:=GJ (FN a) a
abbrev EA a b c d e f:=BR a b (AS c d) (AS e f)
abbrev GT a b c d e f g:=EA a b (GQ c d) (DI e f) (GR g a) (DY g a)
abbrev CE a b:=GT a (ED b) b a b a b
abbrev BM a:=AF (λ i=>CE i a)
abbrev FY a b:=CL a (BV b)
abbrev BF a:=FY (ED a) a
abbrev Ki a:=BO (EE a)
abbrev bQ a:=AJ (CF a)
attribute [go_sem] hd70 Ja LC Bk GI ED Ku YC MZ GF LJ EW GS HR AZ BE BD KT MW DX MB FN DK KX GN GR KR GQ DT LY DQ GD EC BC FA IT BG GJ CA EA GT CE BM FY BF Ki bQ
theorem BWZ (a : ENr) : (V1Nr a) = (AH (AH (AJ (FE (hd70 a))) (bQ (hd70 a)) (YC (Ki (hd70 a)) (CD (FH (hd70 a))) (FH (hd70 a)) (AT (Ja a)) (MZ (Ja a) (AV (Ja a)) (BA (Ja a)) (BB (Ja a)) (BF (Ja a)) (BM (Ja a)) (CA (Ja a)) (AF (λ i=>BC i (Ja a) (BG (Ja a) i) (BD (Ja a) i) (AP (Ja a) i) (AZ (Ja a) i) (AO (Ja a) i) (BE (Ja a) i) (AM (Ja a) i))) (XC (Ja a) (Ja a) (DQ (Ja a)) (λ i=>DT i (Ja a)) (DK (Ja a)) (λ i=>DX i (Ja a)))))) (Bk (not (Gd (hd70 a) (Ja a))) (zK (Nt.mk (FE (hd70 a)) (EE (hd70 a)) (FH (hd70 a))) (Ku (Ja a)))) (HJ (Ja a))) := by kernel_rfl
theorem BVU : AR Try.prog ART (C1Nr.spec d1Nr) := Bl C1Nr (λ _ => A1Nr) [] [] BTN (λ _ => by kernel_rfl) (λ _ => AC BRZ AI) (λ (a : ENr) h => by
 show V1Nr a; rw [BWZ]<;> delta LV CI CH zK FE EE FH CL AF CV DC AS CG JT HP GG IQ IV IX JU GZ GM HK hd70 Ja LC AH DD EL EW GS AK BN BQ CF AJ HR GI BU BJ AN AM BV AZ CD BR BL AO DZ EI DV DI CB GN AT BB EP HD BO YC DY AP BT BA ED AW BE AV FN GF FA DB GR EU GQ BD FX IT GA GD GJ EC EA FY MW ND BC MB LY BF CA DK BG FP RA KT KX LJ GT KR XC DQ DE CE BM HJ DT DX Gd MZ bQ Ki Bk Ku; try simp [wr, PL]) (λ _ => Ec rfl rfl) _
def d2Nr : List AVal -> Heap -> Option (MNr × List (Nat × Nat) × List Nat)
 | [y, .fn _ _ [.bptr id _]], H => match wA y H with
  | some (n, g, f) => match H id with
   | .live (.box [.fn _ _ [.bptr j _]]) => match Ap H j with
    | some q => some (⟨q, OF n λ i => dNt (g i)⟩, [(100, id), (101, j)], f)
    | none => none
   | _ => none
  | none => none
 | _, _ => none
def A2Nr (a : MNr) : Ann := { ann 19 [(ART, C1Nr.spec d1Nr)] with E := [100, 101], loops := λ id => if id = 2 then some [{ α := Nat, dflt := 0, T := λ k => ⟨[(0, .d (eNts a.l)), (1, .fn (.func ART) [] [.bptr 100 0]), (7, .int a.l.length), (8, .int k)], (100, .live (BNr a.q)) :: KXNr a.q⟩, inv := λ k => k <= a.l.length /\ Tl (λ i => !RY (gD a.l i) a.q.ms.length) a.l.length 0 = Tl (λ i => !RY (gD a.l i) a.q.ms.length) (a.l.length - k) k, meas := λ k => a.l.length - k }] else none }
def PNr (a : MNr) : List Prop := [a.l.length < 4611686018427387904 /\ True]
def C2Nr : Ctr := { ro := [100, 101], α := MNr, xs := λ a => [.d (eNts a.l), .fn (.func ART) [] [.bptr 100 0]], L := λ a => (100, BNr a.q) :: LXNr a.q, val := λ a => .int (Tl (λ i => !RY (gD a.l i) a.q.ms.length) a.l.length 0), keep := λ a => (100, .live (BNr a.q)) :: KXNr a.q, pre := PNr }
def V2Nr (a : MNr) : Prop := CR Try.prog (A2Nr a) APM (AL APM) (C2Nr.xs a) (AE (C2Nr.L a)) (C2Nr.val a) (C2Nr.keep a) [] []
abbrev IF:=@Exists Nat
abbrev HE:=MNr.q
abbrev MI a (b:Nat->Prop):=And a (AF b)
abbrev NL (a:Nat->Prop) (b:Nat->Prop):=MI (IF a) b
abbrev Xm a:=HJ (HE a)
abbrev Hv (a:Nat->Bool) b c:=Tl (λ i=>not (a i)) b c
abbrev Hu (a:Nat->Bool) b:=Hv a b 0
abbrev XZ (a:Nat->Bool) b c:=AS (Hu a b) c
abbrev OK a:=GZ (MNr.l a)
abbrev V8 a b:=Gd a (HE b)
abbrev TK a b:=HK (MNr.l a) b
abbrev Ol a b c:=V8 (TK a b) c
abbrev RU (a:Nat->Bool) b (c:Nat->Bool) d e:=XZ a b (Hv c (MT b d) e)
attribute [go_sem] IF HE MI NL Xm Hv Hu XZ OK V8 TK Ol RU
theorem BWE (a : MNr) : (V2Nr a) = (NL (λ i=>AH (AK (BU (OK a)) (AF (λ j=>BQ j (OK a) (GA (FE (TK a j)) (CF (TK a j)) (EE (TK a j)) (FH (TK a j))))) (GX (OK a)) (CY i) (Xm a)) (CW i (OK a)) (RU (λ j=>Ol a j a) (OK a) (λ j=>Ol a j a) i i)) (λ i=>MH (CW i (OK a)) (RU (λ j=>Ol a j a) (OK a) (λ j=>Ol a j a) i i) i (CG (OK a)) (BH (IW i (OK a)) (AJ (FE (TK a i))) (bQ (TK a i)) (YC (Ki (TK a i)) (CD (FH (TK a i))) (FH (TK a i)) (AT (HE a)) (MZ (HE a) (AV (HE a)) (BA (HE a)) (BB (HE a)) (BF (HE a)) (BM (HE a)) (CA (HE a)) (AF (λ j=>BC j (HE a) (BG (HE a) j) (BD (HE a) j) (AP (HE a) j) (AZ (HE a) j) (AO (HE a) j) (BE (HE a) j) (AM (HE a) j))) (XC (HE a) (HE a) (DQ (HE a)) (λ j=>DT j (HE a)) (DK (HE a)) (λ j=>DX j (HE a)))))) (DH (not (zK (Nt.mk (FE (TK a i)) (EE (TK a i)) (FH (TK a i))) (Ku (HE a)))) (XZ (λ j=>Ol a j a) (OK a) (CG i)) (Xm a) (IF (λ j=>FW (AK (BU (OK a)) (AF (λ k=>BQ k (OK a) (GA (FE (TK a k)) (CF (TK a k)) (EE (TK a k)) (FH (TK a k))))) (GX (OK a)) (CJ j i) (Xm a)) (CW j (OK a)) (RU (λ k=>Ol a k a) (OK a) (λ k=>Ol a k a) j j) (OK a) j i))) (And (XZ (λ j=>Ol a j a) (OK a) (-1)) (Xm a)))) := by kernel_rfl
theorem p2Nr (a : MNr) (h : DO (PNr a)) : V2Nr a := by
 obtain ⟨h, hp⟩ : a.l.length < 4611686018427387904 /\ True := h
 rw [BWE]<;> delta CI CH zK FE PS SI EE FH CL AF CV DC AS CG CW FG PD HU KV UC MT JT HP GG IQ IV IX JU GZ GM HK LC IF HE AH DD EL EW GS AK BN BQ CF AJ HR GI BU BJ AN AM BV AZ CD BR BL AO DZ JI EI DV DI CB GN AT BB GO EP HD BO YC DY AP BT BA ED AW BE FZ CX AV FN GF FA DB EF GR JF EU GQ HZ BD BH FX IT GA CS GD EH GJ EC DH EA FY IW MW JE ND BC MB LY BF CA DK BG FP RA KT KX LJ GT GX KR XC Hv CJ TK OY Hu PM IM DQ SQ DE CE BM HJ DT CY KZ XZ OK DX IR FW MI Gd NL MZ V8 RU bQ Ki MH Ol Xm Ku
 simp only [CC, eq_self, implies_true, forall_const]
 refine ⟨⟨0, rfl, Nat.zero_le _, rfl⟩, λ k ⟨h1, h2⟩ => ⟨λ hlt => ?_, λ hge => ?_⟩⟩
 ·have hlt : k < a.l.length := by omega
  refine ⟨⟨by omega, by omega⟩, λ hp => ?_, λ hp => ⟨k + 1, (MO (by omega)).symm, ⟨by omega, ?_⟩, by omega⟩⟩
  ·rw [h2]; exact Zi hlt (by simpa using hp)
  ·rw [h2]; exact U4 hlt (by simpa using hp)
 ·rw [h2]; exact tN (by omega)
theorem BWT : AR Try.prog ARK (C2Nr.spec d2Nr) := Bl C2Nr A2Nr [] [] BAK (λ _ => by kernel_rfl) (λ _ => AC BVU AI) p2Nr (λ _ => Ec rfl rfl) _
def C3Nr : Ctr := { C2Nr with val := λ (a : MNr) => .bool (decide (Tl (λ i => !RY (gD a.l i) a.q.ms.length) a.l.length 0 >= 0)) }
def d3Nr : List AVal -> Heap -> Option (C3Nr.α × List (Nat × Nat) × List Nat) := d2Nr
def A3Nr : Ann := { ann 9 [(ARK, C2Nr.spec d2Nr)] with E := [100, 101] }
def V3Nr (a : MNr) : Prop := CR Try.prog A3Nr ARR (AL ARR) (C3Nr.xs a) (AE (C3Nr.L a)) (C3Nr.val a) (C3Nr.keep a) [] []
abbrev II:=True
abbrev NK a b c d:=AH (And a b) c d
abbrev WD a:=bO a 0
abbrev NG (a:Nat->Bool) b:=WD (Hu a b)
abbrev Ra a:=GZ (EW (MNr.l a) (λ i=>TK a i))
abbrev zE a b:=HK (EW (MNr.l a) (λ i=>TK a i)) b
abbrev CM a b c d (e:Nat->Prop) f g h p:=AN a b c d (AF e) f g h p
abbrev FM a b c d (e:Nat->Prop) f (g:Nat->Prop) h p:=CM a b c d e f (AF g) h p
abbrev FR a b (c:Nat->Prop) d (e:Nat->Prop) f g:=FM (AV a) (BA a) (BB a) b c d e f g
abbrev EG a:=DC a 4611686018427387904
abbrev TA a b c d e f g:=EC a b c (CF d) e d f (FH d) g
abbrev RH a b c d e:=TA a b (FA c (FE d)) c (CF d) e (FH d)
attribute [go_sem] II NK WD NG Ra zE CM FM FR EG TA RH
theorem BUF (a : MNr) : (V3Nr a) = (NK (CL (Ra a) (OK a)) (YC (AF (λ i=>RH i (Ra a) (zE a i) (TK a i) (EE (TK a i)))) (AT (HE a)) (GG (HE a)) (AV (HE a)) (AN (BA (HE a)) (BB (HE a)) (BF (HE a)) (BM (HE a)) (CA (HE a)) (AF (λ i=>BC i (HE a) (BG (HE a) i) (BD (HE a) i) (AP (HE a) i) (AZ (HE a) i) (AO (HE a) i) (BE (HE a) i) (AM (HE a) i))) (AT (HE a)) (AW (HE a)) (FR (HE a) (DQ (HE a)) (λ i=>DT i (HE a)) (DK (HE a)) (λ i=>DX i (HE a)) (EG (Ra a)) II))) (LV (NG (λ i=>Ol a i a) (OK a)) (NG (λ i=>zK (zE a i) (Ku (HE a))) (Ra a))) (Xm a)) := by kernel_rfl
theorem BVE : AR Try.prog ARH (C3Nr.spec d3Nr) := Ctr.spec_ok (C := C3Nr) (λ (a : MNr) h => Ky (A := A3Nr) (ren := []) (fz := []) BAM (by kernel_rfl) (AC BWT AI) (by
 obtain ⟨h, hp⟩ : a.l.length < 4611686018427387904 /\ True := h
 show V3Nr a; rw [BUF]<;> delta LV bO CI CH zK FE EE FH CL AF CV DC AS CG JT HP GG IQ IV IX JU GZ GM HK LC HE II AH DD EL EW GS AK BN BQ CF AJ HR GI BU BJ AN AM BV AZ CD BR BL AO DZ EI DV DI CB GN AT BB EP HD BO YC DY AP BT BA ED AW BE AV FN GF FA DB CM GR EU GQ BD EG FX IT GA GD GJ EC EA FY FM MW ND BC MB LY BF CA DK BG FP RA KT KX LJ GT KR XC Hv TK Hu DQ DE CE BM HJ DT OK DX FR Gd WD NG NK V8 zE TA Ra Ol RH Xm Ku; simp [h, PL])) _
def d4Nr : List AVal -> Heap -> Option (MNr × List (Nat × Nat) × List Nat)
 | [y, .fn _ _ [.bptr j _]], H => match wA y H with
  | some (n, g, f) => match Ap H j with
   | some q => some (⟨q, OF n λ i => dNt (g i)⟩, [(101, j)], f)
   | none => none
  | none => none
 | _, _ => none
def A4Nr : Ann := { ann 9 [(ARH, C3Nr.spec d3Nr)] with E := [101] }
def C4Nr : Ctr := { ro := [101], α := MNr, xs := λ a => [.d (eNts a.l), fvNr a.q], L := λ a => LXNr a.q, val := λ a => .bool (a.l.all λ x => RY x a.q.ms.length), keep := λ a => KXNr a.q, pre := PNr }
def V4Nr (a : MNr) : Prop := CR Try.prog A4Nr F_eN (AL F_eN) (C4Nr.xs a) (AE (C4Nr.L a)) (C4Nr.val a) (C4Nr.keep a) [] []
abbrev hd80:=@List.all Nt
attribute [go_sem] hd80
theorem BWX (a : MNr) : (V4Nr a) = (NK (CL (Ra a) (OK a)) (YC (AF (λ i=>RH i (Ra a) (zE a i) (TK a i) (EE (TK a i)))) (AT (HE a)) (GG (HE a)) (AV (HE a)) (AN (BA (HE a)) (BB (HE a)) (BF (HE a)) (BM (HE a)) (CA (HE a)) (AF (λ i=>BC i (HE a) (BG (HE a) i) (BD (HE a) i) (AP (HE a) i) (AZ (HE a) i) (AO (HE a) i) (BE (HE a) i) (AM (HE a) i))) (AT (HE a)) (AW (HE a)) (FR (HE a) (DQ (HE a)) (λ i=>DT i (HE a)) (DK (HE a)) (λ i=>DX i (HE a)) (EG (Ra a)) II))) (Bk (hd80 (MNr.l a) (λ i=>V8 i a)) (NG (λ i=>zK (zE a i) (Ku (HE a))) (Ra a))) (Xm a)) := by kernel_rfl
theorem BVX (a : MNr) (h : DO (PNr a)) : FnT Try.prog n_eN (C4Nr.xs a) (AE (C4Nr.L a)) (C4Nr.val a) (C4Nr.keep a) := Ky (A := A4Nr) (ren := []) (fz := []) BTZ (by kernel_rfl) (AC BVE AI) (by
 have h' : a.l.length < 4611686018427387904 /\ True := h
 show V4Nr a; rw [BWX]<;> delta LV bO CI CH zK FE EE FH CL AF CV DC AS CG JT HP GG IQ IV IX JU GZ GM HK LC HE II hd80 AH DD EL EW GS AK BN BQ CF AJ HR GI BU BJ AN AM BV AZ CD BR BL AO DZ EI DV DI CB GN AT BB EP HD BO YC DY AP BT BA ED AW BE AV FN GF FA DB CM GR EU GQ BD EG FX IT GA GD GJ EC EA FY FM MW ND BC MB LY BF CA DK BG FP RA KT KX LJ GT KR XC Hv TK Hu DQ DE CE BM HJ DT OK DX FR Gd WD NG NK V8 zE TA Ra RH Xm Bk Ku; simp only [CC, eq_self, implies_true, forall_const, ge_iff_le]
 rw [<- bM]
 exact ⟨h'.1, rfl⟩)
theorem BWO : AR Try.prog n_eN (C4Nr.spec d4Nr) := Ctr.spec_ok (C := C4Nr) BVX _
def fvSa (q : One) : AVal := .fn (.func AKZ) [] []
def BSa (q : One) : AObj := .box [fvSa q]
structure ESa where
 q : One
 e : Span
structure MSa where
 q : One
 l : List Span
def C1Sa : Ctr := { ro := [100], α := ESa, xs := λ a => [.d (IY a.e), .bptr 100 0], L := λ a => (100, BSa a.q) :: [], val := λ a => .bool (!Ps a.e), keep := λ a => (100, .live (BSa a.q)) :: [] }
def d1Sa : List AVal -> Heap -> Option (ESa × List (Nat × Nat) × List Nat)
 | [.d d, .bptr id _], H => some (⟨default, Hi d⟩, [(100, id)], [])
 | _, _ => none
def A1Sa : Ann := { ann 8 [(AKZ, ALO)] with E := [100] }
def V1Sa (a : ESa) : Prop := CR Try.prog A1Sa AQE (AL AQE) (C1Sa.xs a) (AE (C1Sa.L a)) (C1Sa.val a) (C1Sa.keep a) [] []
theorem BVJ (a : ESa) : (V1Sa a) = (FT (not (Ps (ESa.e a)))) := by kernel_rfl
theorem BVI : AR Try.prog J7 (C1Sa.spec d1Sa) := Bl C1Sa (λ _ => A1Sa) [] [] BBX (λ _ => by kernel_rfl) (λ _ => AC BKL AI) (λ (a : ESa) h => by
 show V1Sa a; rw [BVJ]<;> delta LV FT; try simp [wr, PL]) (λ _ => Ec rfl rfl) _
def d2Sa : List AVal -> Heap -> Option (MSa × List (Nat × Nat) × List Nat)
 | [y, .fn _ _ [.bptr id _]], H => match wA y H with
  | some (n, g, f) => some (⟨default, OF n λ i => Hi (g i)⟩, [(100, id)], f)
  | none => none
 | _, _ => none
def A2Sa (a : MSa) : Ann := { ann 19 [(J7, C1Sa.spec d1Sa)] with E := [100], loops := λ id => if id = 2 then some [{ α := Nat, dflt := 0, T := λ k => ⟨[(0, .d (CK a.l)), (1, .fn (.func J7) [] [.bptr 100 0]), (7, .int a.l.length), (8, .int k)], (100, .live (BSa a.q)) :: []⟩, inv := λ k => k <= a.l.length /\ Tl (λ i => !Ps (gD a.l i)) a.l.length 0 = Tl (λ i => !Ps (gD a.l i)) (a.l.length - k) k, meas := λ k => a.l.length - k }] else none }
def PSa (a : MSa) : List Prop := [a.l.length < 4611686018427387904 /\ True]
def C2Sa : Ctr := { ro := [100], α := MSa, xs := λ a => [.d (CK a.l), .fn (.func J7) [] [.bptr 100 0]], L := λ a => (100, BSa a.q) :: [], val := λ a => .int (Tl (λ i => !Ps (gD a.l i)) a.l.length 0), keep := λ a => (100, .live (BSa a.q)) :: [], pre := PSa }
def V2Sa (a : MSa) : Prop := CR Try.prog (A2Sa a) APC (AL APC) (C2Sa.xs a) (AE (C2Sa.L a)) (C2Sa.val a) (C2Sa.keep a) [] []
abbrev Hf:=MSa.l
abbrev Cx a:=GY (Hf a)
abbrev C9 a b:=Ps (IA a b)
abbrev Ka a b:=C9 (Hf a) b
abbrev MV a b (c:Nat->Prop):=FG a b (IF c)
attribute [go_sem] Hf Cx C9 Ka MV
theorem BWU (a : MSa) : (V2Sa a) = (NL (λ i=>AH (BH (IC (Hf a)) (LL (Hf a)) (GX (Cx a)) (CY i)) (MF i (Hf a)) (RU (λ j=>Ka a j) (Cx a) (λ j=>Ka a j) i i)) (λ i=>MH (MF i (Hf a)) (RU (λ j=>Ka a j) (Cx a) (λ j=>Ka a j) i i) i (LB (Hf a)) (AH (JA i (Hf a)) (Fx (Hf a) i) (BO (IA (Hf a) i))) (MV (not (Ka a i)) (XZ (λ j=>Ka a j) (Cx a) (CG i)) (λ j=>FW (BH (IC (Hf a)) (LL (Hf a)) (GX (Cx a)) (CJ j i)) (MF j (Hf a)) (RU (λ k=>Ka a k) (Cx a) (λ k=>Ka a k) j j) (Cx a) j i)) (XZ (λ j=>Ka a j) (Cx a) (-1)))) := by kernel_rfl
theorem p2Sa (a : MSa) (h : DO (PSa a)) : V2Sa a := by
 obtain ⟨h, hp⟩ : a.l.length < 4611686018427387904 /\ True := h
 rw [BWU]<;> delta CI CH PS SI CL GY AF CV DC AS IA CG CW FG PD HU KV UC MT IF Hf AH BN BQ AJ BU BJ CD BR JI GO BO FZ CX EF JF HZ NT BH CS EH TS Fx DH IW JE IC ZR GX Hv CJ OY Hu LL PM IM SQ CY KZ XZ IR FW JA LB MI C9 MF Cx NL MV RU Ka MH
 simp only [CC, eq_self, implies_true, forall_const]
 refine ⟨⟨0, rfl, Nat.zero_le _, rfl⟩, λ k ⟨h1, h2⟩ => ⟨λ hlt => ?_, λ hge => ?_⟩⟩
 ·have hlt : k < a.l.length := by omega
  refine ⟨⟨by omega, by omega⟩, λ hp => ?_, λ hp => ⟨k + 1, (MO (by omega)).symm, ⟨by omega, ?_⟩, by omega⟩⟩
  ·rw [h2]; exact Zi hlt (by simpa using hp)
  ·rw [h2]; exact U4 hlt (by simpa using hp)
 ·rw [h2]; exact tN (by omega)
theorem BXC : AR Try.prog AQV (C2Sa.spec d2Sa) := Bl C2Sa A2Sa [] [] BFF (λ _ => by kernel_rfl) (λ _ => AC BVI AI) p2Sa (λ _ => Ec rfl rfl) _
def C3Sa : Ctr := { C2Sa with val := λ (a : MSa) => .bool (decide (Tl (λ i => !Ps (gD a.l i)) a.l.length 0 >= 0)) }
def d3Sa : List AVal -> Heap -> Option (C3Sa.α × List (Nat × Nat) × List Nat) := d2Sa
def A3Sa : Ann := { ann 9 [(AQV, C2Sa.spec d2Sa)] with E := [100] }
def V3Sa (a : MSa) : Prop := CR Try.prog A3Sa AQW (AL AQW) (C3Sa.xs a) (AE (C3Sa.L a)) (C3Sa.val a) (C3Sa.keep a) [] []
abbrev Eb:=@OF Span
abbrev NM a b c d e:=And (BH a b c d) e
abbrev Ua a (b:Nat->Span):=Eb (GY a) b
abbrev UJ a:=Ua a (λ i=>IA a i)
abbrev JH a:=GY (UJ a)
abbrev YH a b:=IA (UJ a) b
abbrev JN a b c d:=NT a b (BT c d) (BJ c d)
abbrev VH a b c d e:=JN a b c (IA d e)
abbrev TD a b c d:=VH a b c d a
abbrev Ks a b c:=TD a (UJ b) c b
abbrev OH a b c:=Ks a b (YH b c)
abbrev Bv a b:=CL (JH a) b
attribute [go_sem] Eb NM Ua UJ JH YH JN VH TD Ks OH Bv
theorem BWA (a : MSa) : (V3Sa a) = (NM (Bv (Hf a) (Cx a)) (AF (λ i=>OH i (Hf a) i)) (EG (JH (Hf a))) II (LV (NG (λ i=>Ka a i) (Cx a)) (NG (λ i=>Ps (YH (Hf a) i)) (JH (Hf a))))) := by kernel_rfl
theorem BXK : AR Try.prog ARL (C3Sa.spec d3Sa) := Ctr.spec_ok (C := C3Sa) (λ (a : MSa) h => Ky (A := A3Sa) (ren := []) (fz := []) BFB (by kernel_rfl) (AC BXC AI) (by
 obtain ⟨h, hp⟩ : a.l.length < 4611686018427387904 /\ True := h
 show V3Sa a; rw [BWA]<;> delta LV bO CI CH CL GY AF CV DC AS IA II Hf Eb AH BN BQ BJ BR CB BT Ua NT BH EG UJ JH Hv YH Hu JN VH TD C9 WD NG Cx Bv NM Ks Ka OH; simp [h, PL])) _
def d4Sa : List AVal -> Heap -> Option (MSa × List (Nat × Nat) × List Nat)
 | [y, .fn _ _ _], H => match wA y H with
  | some (n, g, f) => some (⟨default, OF n λ i => Hi (g i)⟩, [], f)
  | none => none
 | _, _ => none
def A4Sa : Ann := { ann 9 [(ARL, C3Sa.spec d3Sa)] with E := [] }
def C4Sa : Ctr := { ro := [], α := MSa, xs := λ a => [.d (CK a.l), fvSa a.q], L := λ a => [], val := λ a => .bool (a.l.all λ x => Ps x), keep := λ a => [], pre := PSa }
def V4Sa (a : MSa) : Prop := CR Try.prog A4Sa F_eS (AL F_eS) (C4Sa.xs a) (AE (C4Sa.L a)) (C4Sa.val a) (C4Sa.keep a) [] []
abbrev pQ:=@List.all Span
attribute [go_sem] pQ
theorem BWQ (a : MSa) : (V4Sa a) = (NM (Bv (Hf a) (Cx a)) (AF (λ i=>OH i (Hf a) i)) (EG (JH (Hf a))) II (Bk (pQ (Hf a) Ps) (NG (λ i=>Ps (YH (Hf a) i)) (JH (Hf a))))) := by kernel_rfl
theorem BOI (a : MSa) (h : DO (PSa a)) : FnT Try.prog n_eS (C4Sa.xs a) (AE (C4Sa.L a)) (C4Sa.val a) (C4Sa.keep a) := Ky (A := A4Sa) (ren := []) (fz := []) BNM (by kernel_rfl) (AC BXK AI) (by
 have h' : a.l.length < 4611686018427387904 /\ True := h
 show V4Sa a; rw [BWQ]<;> delta LV bO CI CH CL GY AF CV DC AS IA II Hf Eb pQ AH BN BQ BJ BR CB BT Ua NT BH EG UJ JH Hv YH Hu JN VH TD WD NG Cx Bv NM Ks OH Bk; simp only [CC, eq_self, implies_true, forall_const, ge_iff_le]
 rw [<- bM]
 exact ⟨h'.1, rfl⟩)
theorem BXM : AR Try.prog n_eS (C4Sa.spec d4Sa) := Ctr.spec_ok (C := C4Sa) BOI _
def fvSn (q : One) : AVal := .fn (.func ANQ) [] []
def BSn (q : One) : AObj := .box [fvSn q]
structure ESn where
 q : One
 e : Span
structure MSn where
 q : One
 l : List Span
def C1Sn : Ctr := { ro := [100], α := ESn, xs := λ a => [.d (IY a.e), .bptr 100 0], L := λ a => (100, BSn a.q) :: [], val := λ a => .bool (!Ps a.e), keep := λ a => (100, .live (BSn a.q)) :: [] }
def d1Sn : List AVal -> Heap -> Option (ESn × List (Nat × Nat) × List Nat)
 | [.d d, .bptr id _], H => some (⟨default, Hi d⟩, [(100, id)], [])
 | _, _ => none
def A1Sn : Ann := { ann 8 [(ANQ, ALO)] with E := [100] }
def V1Sn (a : ESn) : Prop := CR Try.prog A1Sn AQE (AL AQE) (C1Sn.xs a) (AE (C1Sn.L a)) (C1Sn.val a) (C1Sn.keep a) [] []
theorem BUZ (a : ESn) : (V1Sn a) = (FT (not (Ps (ESn.e a)))) := by kernel_rfl
theorem BUQ : AR Try.prog J7 (C1Sn.spec d1Sn) := Bl C1Sn (λ _ => A1Sn) [] [] BBX (λ _ => by kernel_rfl) (λ _ => AC BLI AI) (λ (a : ESn) h => by
 show V1Sn a; rw [BUZ]<;> delta LV FT; try simp [wr, PL]) (λ _ => Ec rfl rfl) _
def d2Sn : List AVal -> Heap -> Option (MSn × List (Nat × Nat) × List Nat)
 | [y, .fn _ _ [.bptr id _]], H => match wA y H with
  | some (n, g, f) => some (⟨default, OF n λ i => Hi (g i)⟩, [(100, id)], f)
  | none => none
 | _, _ => none
def A2Sn (a : MSn) : Ann := { ann 19 [(J7, C1Sn.spec d1Sn)] with E := [100], loops := λ id => if id = 2 then some [{ α := Nat, dflt := 0, T := λ k => ⟨[(0, .d (CK a.l)), (1, .fn (.func J7) [] [.bptr 100 0]), (7, .int a.l.length), (8, .int k)], (100, .live (BSn a.q)) :: []⟩, inv := λ k => k <= a.l.length /\ Tl (λ i => !Ps (gD a.l i)) a.l.length 0 = Tl (λ i => !Ps (gD a.l i)) (a.l.length - k) k, meas := λ k => a.l.length - k }] else none }
def PSn (a : MSn) : List Prop := [a.l.length < 4611686018427387904 /\ True]
def C2Sn : Ctr := { ro := [100], α := MSn, xs := λ a => [.d (CK a.l), .fn (.func J7) [] [.bptr 100 0]], L := λ a => (100, BSn a.q) :: [], val := λ a => .int (Tl (λ i => !Ps (gD a.l i)) a.l.length 0), keep := λ a => (100, .live (BSn a.q)) :: [], pre := PSn }
def V2Sn (a : MSn) : Prop := CR Try.prog (A2Sn a) APC (AL APC) (C2Sn.xs a) (AE (C2Sn.L a)) (C2Sn.val a) (C2Sn.keep a) [] []
abbrev Hg:=MSn.l
abbrev Bj a:=GY (Hg a)
abbrev Iq a b:=C9 (Hg a) b
attribute [go_sem] Hg Bj Iq
theorem BWS (a : MSn) : (V2Sn a) = (NL (λ i=>AH (BH (IC (Hg a)) (LL (Hg a)) (GX (Bj a)) (CY i)) (MF i (Hg a)) (RU (λ j=>Iq a j) (Bj a) (λ j=>Iq a j) i i)) (λ i=>MH (MF i (Hg a)) (RU (λ j=>Iq a j) (Bj a) (λ j=>Iq a j) i i) i (LB (Hg a)) (AH (JA i (Hg a)) (Fx (Hg a) i) (BO (IA (Hg a) i))) (MV (not (Iq a i)) (XZ (λ j=>Iq a j) (Bj a) (CG i)) (λ j=>FW (BH (IC (Hg a)) (LL (Hg a)) (GX (Bj a)) (CJ j i)) (MF j (Hg a)) (RU (λ k=>Iq a k) (Bj a) (λ k=>Iq a k) j j) (Bj a) j i)) (XZ (λ j=>Iq a j) (Bj a) (-1)))) := by kernel_rfl
theorem p2Sn (a : MSn) (h : DO (PSn a)) : V2Sn a := by
 obtain ⟨h, hp⟩ : a.l.length < 4611686018427387904 /\ True := h
 rw [BWS]<;> delta CI CH PS SI CL GY AF CV DC AS IA CG CW FG PD HU KV UC MT IF Hg AH BN BQ AJ BU BJ CD BR JI GO BO FZ CX EF JF HZ NT BH CS EH TS Fx DH IW JE IC ZR GX Hv CJ OY Hu LL PM IM SQ CY KZ XZ IR FW JA LB MI C9 MF Bj NL MV Iq RU MH
 simp only [CC, eq_self, implies_true, forall_const]
 refine ⟨⟨0, rfl, Nat.zero_le _, rfl⟩, λ k ⟨h1, h2⟩ => ⟨λ hlt => ?_, λ hge => ?_⟩⟩
 ·have hlt : k < a.l.length := by omega
  refine ⟨⟨by omega, by omega⟩, λ hp => ?_, λ hp => ⟨k + 1, (MO (by omega)).symm, ⟨by omega, ?_⟩, by omega⟩⟩
  ·rw [h2]; exact Zi hlt (by simpa using hp)
  ·rw [h2]; exact U4 hlt (by simpa using hp)
 ·rw [h2]; exact tN (by omega)
theorem BWW : AR Try.prog AQV (C2Sn.spec d2Sn) := Bl C2Sn A2Sn [] [] BFF (λ _ => by kernel_rfl) (λ _ => AC BUQ AI) p2Sn (λ _ => Ec rfl rfl) _
def C3Sn : Ctr := { C2Sn with val := λ (a : MSn) => .bool (decide (Tl (λ i => !Ps (gD a.l i)) a.l.length 0 >= 0)) }
def d3Sn : List AVal -> Heap -> Option (C3Sn.α × List (Nat × Nat) × List Nat) := d2Sn
def A3Sn : Ann := { ann 9 [(AQV, C2Sn.spec d2Sn)] with E := [100] }
def V3Sn (a : MSn) : Prop := CR Try.prog A3Sn AQW (AL AQW) (C3Sn.xs a) (AE (C3Sn.L a)) (C3Sn.val a) (C3Sn.keep a) [] []
theorem BXF (a : MSn) : (V3Sn a) = (NM (Bv (Hg a) (Bj a)) (AF (λ i=>OH i (Hg a) i)) (EG (JH (Hg a))) II (LV (NG (λ i=>Iq a i) (Bj a)) (NG (λ i=>Ps (YH (Hg a) i)) (JH (Hg a))))) := by kernel_rfl
theorem BVG : AR Try.prog ARL (C3Sn.spec d3Sn) := Ctr.spec_ok (C := C3Sn) (λ (a : MSn) h => Ky (A := A3Sn) (ren := []) (fz := []) BFB (by kernel_rfl) (AC BWW AI) (by
 obtain ⟨h, hp⟩ : a.l.length < 4611686018427387904 /\ True := h
 show V3Sn a; rw [BXF]<;> delta LV bO CI CH CL GY AF CV DC AS IA II Eb Hg AH BN BQ BJ BR CB BT Ua NT BH EG UJ JH Hv YH Hu JN VH TD C9 WD NG Bj Bv NM Iq Ks OH; simp [h, PL])) _
def A4Sn : Ann := { ann 9 [(ARL, C3Sn.spec d3Sn)] with E := [] }
def C4Sn : Ctr := { ro := [], α := MSn, xs := λ a => [.d (CK a.l), fvSn a.q], L := λ a => [], val := λ a => .bool (a.l.all λ x => Ps x), keep := λ a => [], pre := PSn }
def V4Sn (a : MSn) : Prop := CR Try.prog A4Sn F_eS (AL F_eS) (C4Sn.xs a) (AE (C4Sn.L a)) (C4Sn.val a) (C4Sn.keep a) [] []
theorem BUC (a : MSn) : (V4Sn a) = (NM (Bv (Hg a) (Bj a)) (AF (λ i=>OH i (Hg a) i)) (EG (JH (Hg a))) II (Bk (pQ (Hg a) Ps) (NG (λ i=>Ps (YH (Hg a) i)) (JH (Hg a))))) := by kernel_rfl
theorem BWY (a : MSn) (h : DO (PSn a)) : FnT Try.prog n_eS (C4Sn.xs a) (AE (C4Sn.L a)) (C4Sn.val a) (C4Sn.keep a) := Ky (A := A4Sn) (ren := []) (fz := []) BNM (by kernel_rfl) (AC BVG AI) (by
 have h' : a.l.length < 4611686018427387904 /\ True := h
 show V4Sn a; rw [BUC]<;> delta LV bO CI CH CL GY AF CV DC AS IA II Eb pQ Hg AH BN BQ BJ BR CB BT Ua NT BH EG UJ JH Hv YH Hu JN VH TD WD NG Bj Bv NM Ks OH Bk; simp only [CC, eq_self, implies_true, forall_const, ge_iff_le]
 rw [<- bM]
 exact ⟨h'.1, rfl⟩)
def fvIh (q : One) : AVal := .fn (.func G1) [] []
def BIh (q : One) : AObj := .box [fvIh q]
structure EIh where
 q : One
 e : Int
structure MIh where
 q : One
 l : List Int
def C1Ih : Ctr := { ro := [100], α := EIh, xs := λ a => [.d (RI a.e), .bptr 100 0], L := λ a => (100, BIh a.q) :: [], val := λ a => .bool (!TM a.e (-100000000) 100000000), keep := λ a => (100, .live (BIh a.q)) :: [] }
def d1Ih : List AVal -> Heap -> Option (EIh × List (Nat × Nat) × List Nat)
 | [.d d, .bptr id _], H => some (⟨default, FQ d⟩, [(100, id)], [])
 | _, _ => none
def A1Ih : Ann := { ann 8 [(G1, BOY)] with E := [100] }
def V1Ih (a : EIh) : Prop := CR Try.prog A1Ih BIC (AL BIC) (C1Ih.xs a) (AE (C1Ih.L a)) (C1Ih.val a) (C1Ih.keep a) [] []
theorem BUA (a : EIh) : (V1Ih a) = (FT (not (TM (EIh.e a) (-100000000) 100000000))) := by kernel_rfl
theorem BXJ : AR Try.prog ARP (C1Ih.spec d1Ih) := Bl C1Ih (λ _ => A1Ih) [] [] BTQ (λ _ => by kernel_rfl) (λ _ => AC BRF AI) (λ (a : EIh) h => by
 show V1Ih a; rw [BUA]<;> delta LV FT; try simp [wr, PL]) (λ _ => Ec rfl rfl) _
def d2Ih : List AVal -> Heap -> Option (MIh × List (Nat × Nat) × List Nat)
 | [y, .fn _ _ [.bptr id _]], H => match wA y H with
  | some (n, g, f) => some (⟨default, OF n λ i => FQ (g i)⟩, [(100, id)], f)
  | none => none
 | _, _ => none
def A2Ih (a : MIh) : Ann := { ann 19 [(ARP, C1Ih.spec d1Ih)] with E := [100], loops := λ id => if id = 2 then some [{ α := Nat, dflt := 0, T := λ k => ⟨[(0, .d (IN a.l)), (1, .fn (.func ARP) [] [.bptr 100 0]), (7, .int a.l.length), (8, .int k)], (100, .live (BIh a.q)) :: []⟩, inv := λ k => k <= a.l.length /\ Tl (λ i => !TM (gD a.l i) (-100000000) 100000000) a.l.length 0 = Tl (λ i => !TM (gD a.l i) (-100000000) 100000000) (a.l.length - k) k, meas := λ k => a.l.length - k }] else none }
def PIh (a : MIh) : List Prop := [a.l.length < 4611686018427387904 /\ True]
def C2Ih : Ctr := { ro := [100], α := MIh, xs := λ a => [.d (IN a.l), .fn (.func ARP) [] [.bptr 100 0]], L := λ a => (100, BIh a.q) :: [], val := λ a => .int (Tl (λ i => !TM (gD a.l i) (-100000000) 100000000) a.l.length 0), keep := λ a => (100, .live (BIh a.q)) :: [], pre := PIh }
def V2Ih (a : MIh) : Prop := CR Try.prog (A2Ih a) BGQ (AL BGQ) (C2Ih.xs a) (AE (C2Ih.L a)) (C2Ih.val a) (C2Ih.keep a) [] []
abbrev FV:=@List.length Int
abbrev Pn:=MIh.l
abbrev ET:=@gD Int Int.instInhabited
abbrev Cf a:=FV (Pn a)
abbrev Rs a b c d:=TM (ET a b) c d
abbrev zO a b:=Rs a b (-100000000) 100000000
abbrev Kk a b:=zO (Pn a) b
abbrev LZ a b c:=BQ a (FV b) c
abbrev Vy a b c:=LZ a b (AJ c)
abbrev OO a b:=Vy a b (ET b a)
abbrev NV a:=AF (λ i=>OO i a)
abbrev JQ a:=BU (FV a)
abbrev KG a b:=IW a (FV b)
abbrev MJ a:=CG (FV a)
attribute [go_sem] FV Pn ET Cf Rs zO Kk LZ Vy OO NV JQ KG MJ
theorem BUW (a : MIh) : (V2Ih a) = (NL (λ i=>AH (BH (JQ (Pn a)) (NV (Pn a)) (GX (Cf a)) (CY i)) (CW i (Cf a)) (RU (λ j=>Kk a j) (Cf a) (λ j=>Kk a j) i i)) (λ i=>MH (CW i (Cf a)) (RU (λ j=>Kk a j) (Cf a) (λ j=>Kk a j) i i) i (MJ (Pn a)) (And (KG i (Pn a)) (AJ (ET (Pn a) i))) (MV (not (Kk a i)) (XZ (λ j=>Kk a j) (Cf a) (CG i)) (λ j=>FW (BH (JQ (Pn a)) (NV (Pn a)) (GX (Cf a)) (CJ j i)) (CW j (Cf a)) (RU (λ k=>Kk a k) (Cf a) (λ k=>Kk a k) j j) (Cf a) j i)) (XZ (λ j=>Kk a j) (Cf a) (-1)))) := by kernel_rfl
theorem p2Ih (a : MIh) (h : DO (PIh a)) : V2Ih a := by
 obtain ⟨h, hp⟩ : a.l.length < 4611686018427387904 /\ True := h
 rw [BUW]<;> delta PS SI CL AF CV DC AS CG CW FG PD HU KV UC MT IF FV Pn ET AH BQ AJ BU JI GO FZ LZ CX EF JF HZ BH CS JQ EH DH IW JE Vy GX Hv CJ OY Hu PM IM SQ OO MJ CY KZ NV XZ IR FW KG MI Cf Rs NL MV RU zO MH Kk
 simp only [CC, eq_self, implies_true, forall_const]
 refine ⟨⟨0, rfl, Nat.zero_le _, rfl⟩, λ k ⟨h1, h2⟩ => ⟨λ hlt => ?_, λ hge => ?_⟩⟩
 ·have hlt : k < a.l.length := by omega
  refine ⟨⟨by omega, by omega⟩, λ hp => ?_, λ hp => ⟨k + 1, (MO (by omega)).symm, ⟨by omega, ?_⟩, by omega⟩⟩
  ·rw [h2]; exact Zi hlt (by simpa using hp)
  ·rw [h2]; exact U4 hlt (by simpa using hp)
 ·rw [h2]; exact tN (by omega)
theorem BTX : AR Try.prog BHN (C2Ih.spec d2Ih) := Bl C2Ih A2Ih [] [] BSO (λ _ => by kernel_rfl) (λ _ => AC BXJ AI) p2Ih (λ _ => Ec rfl rfl) _
def C3Ih : Ctr := { C2Ih with val := λ (a : MIh) => .bool (decide (Tl (λ i => !TM (gD a.l i) (-100000000) 100000000) a.l.length 0 >= 0)) }
def d3Ih : List AVal -> Heap -> Option (C3Ih.α × List (Nat × Nat) × List Nat) := d2Ih
def A3Ih : Ann := { ann 9 [(BHN, C2Ih.spec d2Ih)] with E := [100] }
def V3Ih (a : MIh) : Prop := CR Try.prog A3Ih BDR (AL BDR) (C3Ih.xs a) (AE (C3Ih.L a)) (C3Ih.val a) (C3Ih.keep a) [] []
abbrev XS:=@OF Int
abbrev SO a b:=XS (FV a) (λ i=>ET b i)
abbrev EQ a:=SO a a
abbrev UA a:=EG (FV (EQ a))
abbrev OC a b c d:=LZ a b (AS c d)
abbrev IL a b c d e:=OC a b (ET c d) e
abbrev NQ a b c:=IL a b b a c
abbrev QD a b c d:=NQ a b (ET c d)
abbrev JL a b c:=QD a b c a
abbrev EO a b:=AF (λ i=>JL i a b)
abbrev VE a:=EO (EQ a) a
abbrev FL a b:=CL (FV a) b
abbrev CQ a b:=FL a (FV b)
abbrev NX a:=CQ (EQ a) a
attribute [go_sem] XS SO EQ UA OC IL NQ QD JL EO VE FL CQ NX
theorem BWR (a : MIh) : (V3Ih a) = (NM (NX (Pn a)) (VE (Pn a)) (UA (Pn a)) II (LV (NG (λ i=>Kk a i) (Cf a)) (NG (λ i=>zO (EQ (Pn a)) i) (FV (EQ (Pn a)))))) := by kernel_rfl
theorem BVD : AR Try.prog BFT (C3Ih.spec d3Ih) := Ctr.spec_ok (C := C3Ih) (λ (a : MIh) h => Ky (A := A3Ih) (ren := []) (fz := []) BTA (by kernel_rfl) (AC BTX AI) (by
 obtain ⟨h, hp⟩ : a.l.length < 4611686018427387904 /\ True := h
 show V3Ih a; rw [BWR]<;> delta LV bO CL AF CV DC AS II FV Pn ET XS AH BQ SO EQ LZ FL BH EG CQ OC IL NQ QD Hv Hu JL EO Cf WD NX NG Rs UA NM VE zO Kk; simp [h, PL])) _
def d4Ih : List AVal -> Heap -> Option (MIh × List (Nat × Nat) × List Nat)
 | [y, .fn _ _ _], H => match wA y H with
  | some (n, g, f) => some (⟨default, OF n λ i => FQ (g i)⟩, [], f)
  | none => none
 | _, _ => none
def A4Ih : Ann := { ann 9 [(BFT, C3Ih.spec d3Ih)] with E := [] }
def C4Ih : Ctr := { ro := [], α := MIh, xs := λ a => [.d (IN a.l), fvIh a.q], L := λ a => [], val := λ a => .bool (a.l.all λ x => TM x (-100000000) 100000000), keep := λ a => [], pre := PIh }
def V4Ih (a : MIh) : Prop := CR Try.prog A4Ih F_eI (AL F_eI) (C4Ih.xs a) (AE (C4Ih.L a)) (C4Ih.val a) (C4Ih.keep a) [] []
abbrev hd92:=@List.all Int
attribute [go_sem] hd92
theorem BXG (a : MIh) : (V4Ih a) = (NM (NX (Pn a)) (VE (Pn a)) (UA (Pn a)) II (Bk (hd92 (Pn a) (λ i=>TM i (-100000000) 100000000)) (NG (λ i=>zO (EQ (Pn a)) i) (FV (EQ (Pn a)))))) := by kernel_rfl
theorem BUI (a : MIh) (h : DO (PIh a)) : FnT Try.prog n_eI (C4Ih.xs a) (AE (C4Ih.L a)) (C4Ih.val a) (C4Ih.keep a) := Ky (A := A4Ih) (ren := []) (fz := []) BWH (by kernel_rfl) (AC BVD AI) (by
 have h' : a.l.length < 4611686018427387904 /\ True := h
 show V4Ih a; rw [BXG]<;> delta LV bO CL AF CV DC AS II FV Pn ET XS hd92 AH BQ SO EQ LZ FL BH EG CQ OC IL NQ QD Hv Hu JL EO WD NX NG Rs UA NM VE zO Bk; simp only [CC, eq_self, implies_true, forall_const, ge_iff_le]
 rw [<- bM]
 exact ⟨h'.1, rfl⟩)
theorem BWP : AR Try.prog n_eI (C4Ih.spec d4Ih) := Ctr.spec_ok (C := C4Ih) BUI _
structure N2 where
 q : Nt
 e : Nt
def ntB (q : Nt) : AObj := .box [.int q.mi, .int q.t.lo, .int q.t.hi, .int q.s.lo, .int q.s.hi]
def BIM (H : Heap) (id : Nat) : Option Nt := match H id with
 | .live (.box [.d a, .d b, .d c, .d d, .d e]) => some ⟨FQ a, ⟨FQ b, FQ c⟩, ⟨FQ d, FQ e⟩⟩
 | _ => none
def C_ck2 : Ctr := { ro := [100], α := N2, xs := λ a => [.d (eNt a.e), .bptr 100 0], L := λ a => [(100, ntB a.q)], val := λ a => .bool (a.e.mi == a.q.mi), keep := λ a => [(100, .live (ntB a.q))] }
def BMO : List AVal -> Heap -> Option (N2 × List (Nat × Nat) × List Nat)
 | [.d d, .bptr id _], H => match BIM H id with
  | some q => some (⟨q, dNt d⟩, [(100, id)], [])
  | none => none
 | _, _ => none
def BNC : Ann := { ann 9 [] with E := [100] }
def BPZ (a : N2) : Prop := CR Try.prog BNC AHB (AL AHB) (C_ck2.xs a) (AE (C_ck2.L a)) (C_ck2.val a) (C_ck2.keep a) [] []
abbrev Lv:=@BEq.beq Int (@instBEqOfDecidableEq Int Int.instDecidableEq)
abbrev jW a b:=Lv (FE a) b
attribute [go_sem] Lv jW
theorem BTO (a : N2) : (BPZ a) = (And (FT (jW (N2.e a) (FE (N2.q a)))) (GA (FE (N2.q a)) (CF (N2.q a)) (EE (N2.q a)) (FH (N2.q a)))) := by kernel_rfl
theorem BQX : AR Try.prog rF (C_ck2.spec BMO) := Bl C_ck2 (λ _ => BNC) [] [] AZR (λ _ => by kernel_rfl) (λ _ => AI) (λ (a : N2) _ => by
 show BPZ a; rw [BTO]<;> delta LV CI CH FE EE FH AS Lv AH AK BN CF AJ FT BJ CD DZ EI GA jW; try simp) (λ _ => Ec rfl rfl) _
structure MNc where
 q : Nt
 l : List Nt
def d2Nc : List AVal -> Heap -> Option (MNc × List (Nat × Nat) × List Nat)
 | [y, .fn _ _ [.bptr id _]], H => match wA y H with
  | some (n, g, f) => match BIM H id with
   | some q => some (⟨q, OF n λ i => dNt (g i)⟩, [(100, id)], f)
   | none => none
  | none => none
 | _, _ => none
def A2Nc (a : MNc) : Ann := { ann 19 [(rF, C_ck2.spec BMO)] with E := [100], loops := λ id => if id = 2 then some [{ α := Nat, dflt := 0, T := λ k => ⟨[(0, .d (eNts a.l)), (1, .fn (.func rF) [] [.bptr 100 0]), (7, .int a.l.length), (8, .int k)], [(100, .live (ntB a.q))]⟩, inv := λ k => k <= a.l.length /\ Tl (λ i => (gD a.l i).mi == a.q.mi) a.l.length 0 = Tl (λ i => (gD a.l i).mi == a.q.mi) (a.l.length - k) k, meas := λ k => a.l.length - k }] else none }
def C2Nc : Ctr := { ro := [100], α := MNc, xs := λ a => [.d (eNts a.l), .fn (.func rF) [] [.bptr 100 0]], L := λ a => [(100, ntB a.q)], val := λ a => .int (Tl (λ i => (gD a.l i).mi == a.q.mi) a.l.length 0), keep := λ a => [(100, .live (ntB a.q))], pre := λ a => [a.l.length < 4611686018427387904 /\ True] }
def V2Nc (a : MNc) : Prop := CR Try.prog (A2Nc a) APM (AL APM) (C2Nc.xs a) (AE (C2Nc.L a)) (C2Nc.val a) (C2Nc.keep a) [] []
abbrev hd96:=MNc.l
abbrev iX:=MNc.q
abbrev Oj a:=FH (iX a)
abbrev sJ a:=FE (iX a)
abbrev ON a:=GZ (hd96 a)
abbrev Y5 a b:=jW a (sJ b)
abbrev NZ a b:=HK (hd96 a) b
abbrev Qx a b c:=Y5 (NZ a b) c
abbrev dB a:=CD (Oj a)
abbrev bX a:=bQ (iX a)
abbrev gP a:=AJ (sJ a)
abbrev Mp a b c d e f g h:=AN a b c d e f b g h
attribute [go_sem] hd96 iX Oj sJ ON Y5 NZ Qx dB bX gP Mp
theorem BUH (a : MNc) : (V2Nc a) = (NL (λ i=>AH (AN (BU (ON a)) (AF (λ j=>BQ j (ON a) (GA (FE (NZ a j)) (CF (NZ a j)) (EE (NZ a j)) (FH (NZ a j))))) (GX (ON a)) (CY i) (gP a) (bX a) (Ki (iX a)) (dB a) (BO (Oj a))) (CW i (ON a)) (AS (Tl (λ j=>Qx a j a) (ON a) 0) (Tl (λ j=>Qx a j a) (MT (ON a) i) i))) (λ i=>MH (CW i (ON a)) (AS (Tl (λ j=>Qx a j a) (ON a) 0) (Tl (λ j=>Qx a j a) (MT (ON a) i) i)) i (CG (ON a)) (BH (IW i (ON a)) (AJ (FE (NZ a i))) (bQ (NZ a i)) (YC (Ki (NZ a i)) (CD (FH (NZ a i))) (FH (NZ a i)) (gP a) (Mp (bX a) (Ki (iX a)) (dB a) (BO (Oj a)) (gP a) (bX a) (dB a) (BO (Oj a))))) (DH (Qx a i a) (AS (Tl (λ j=>Qx a j a) (ON a) 0) (CG i)) (GA (sJ a) (CF (iX a)) (EE (iX a)) (Oj a)) (IF (λ j=>FW (AN (BU (ON a)) (AF (λ k=>BQ k (ON a) (GA (FE (NZ a k)) (CF (NZ a k)) (EE (NZ a k)) (FH (NZ a k))))) (GX (ON a)) (CJ j i) (gP a) (bX a) (Ki (iX a)) (dB a) (BO (Oj a))) (CW j (ON a)) (AS (Tl (λ k=>Qx a k a) (ON a) 0) (Tl (λ k=>Qx a k a) (MT (ON a) j) j)) (ON a) j i))) (And (AS (Tl (λ j=>Qx a j a) (ON a) 0) (-1)) (GA (sJ a) (CF (iX a)) (EE (iX a)) (Oj a))))) := by kernel_rfl
theorem p2Nc (a : MNc) (h : DO (C2Nc.pre a)) : V2Nc a := by
 obtain ⟨h, hp⟩ : a.l.length < 4611686018427387904 /\ True := h
 rw [BUH]<;> delta CI CH FE PS SI EE FH CL AF CV DC AS CG CW FG PD HU KV UC MT GZ HK IF Lv hd96 iX AH AK BN BQ CF AJ BU BJ AN CD DZ JI EI GO BO Mp YC FZ CX EF JF HZ BH GA CS EH DH IW JE GX CJ OY PM IM SQ NZ CY KZ ON sJ IR FW MI Oj NL jW Y5 bQ Ki MH Qx bX dB gP
 simp only [CC, eq_self, implies_true, forall_const]
 refine ⟨⟨0, rfl, Nat.zero_le _, rfl⟩, λ k ⟨h1, h2⟩ => ⟨λ hlt => ?_, λ hge => ?_⟩⟩
 ·have hlt : k < a.l.length := by omega
  refine ⟨⟨by omega, by omega⟩, λ hp => ?_, λ hp => ⟨k + 1, (MO (by omega)).symm, ⟨by omega, ?_⟩, by omega⟩⟩
  ·rw [h2]; exact Zi hlt (by simpa using hp)
  ·rw [h2]; exact U4 hlt (by simpa using hp)
 ·rw [h2]; exact tN (by omega)
theorem BVH : AR Try.prog ARK (C2Nc.spec d2Nc) := Bl C2Nc A2Nc [] [] BAK (λ _ => by kernel_rfl) (λ _ => AC BQX AI) p2Nc (λ _ => Ec rfl rfl) _
def C3Nc : Ctr := { C2Nc with val := λ (a : MNc) => .bool (a.l.any λ x => x.mi == a.q.mi) }
def d3Nc : List AVal -> Heap -> Option (C3Nc.α × List (Nat × Nat) × List Nat) := d2Nc
def A3Nc : Ann := { ann 9 [(ARK, C2Nc.spec d2Nc)] with E := [100] }
def V3Nc (a : MNc) : Prop := CR Try.prog A3Nc ARR (AL ARR) (C3Nc.xs a) (AE (C3Nc.L a)) (C3Nc.val a) (C3Nc.keep a) [] []
abbrev DA a b c d e f:=And a (AK b c d e f)
attribute [go_sem] DA
theorem BXA (a : MNc) : (V3Nc a) = (AH (DA (CL (GZ (EW (hd96 a) (λ i=>NZ a i))) (ON a)) (AF (λ i=>RH i (GZ (EW (hd96 a) (λ j=>NZ a j))) (HK (EW (hd96 a) (λ j=>NZ a j)) i) (NZ a i) (EE (NZ a i)))) (gP a) (bX a) (Ki (iX a)) (Mp (dB a) (BO (Oj a)) (gP a) (bX a) (Ki (iX a)) (dB a) (EG (GZ (EW (hd96 a) (λ i=>NZ a i)))) II)) (LV ((@List.any Nt) (hd96 a) (λ i=>Y5 i a)) (WD (Tl (λ i=>Y5 (HK (EW (hd96 a) (λ j=>NZ a j)) i) a) (GZ (EW (hd96 a) (λ i=>NZ a i))) 0))) (GA (sJ a) (CF (iX a)) (EE (iX a)) (Oj a))) := by kernel_rfl
theorem BBT {α : Type} [Inhabited α] {p : α -> Bool} {l : List α} : decide (0 <= Tl (λ i => p (gD l i)) l.length 0) = l.any p := by
 rw [Bool.eq_iff_iff, decide_eq_true_eq, ASW, List.any_eq_true]
 exact ⟨λ ⟨i, _, h1, h2⟩ => ⟨gD l i, LS (by omega), h2⟩, λ ⟨x, hx, h2⟩ => by obtain ⟨i, hi, rfl⟩ := QG hx; exact ⟨i, Nat.zero_le _, by omega, h2⟩⟩
theorem BUX : AR Try.prog ARH (C3Nc.spec d3Nc) := Ctr.spec_ok (C := C3Nc) (λ (a : MNc) h => Ky (A := A3Nc) (ren := []) (fz := []) BAM (by kernel_rfl) (AC BVH AI) (by
 obtain ⟨h, hp⟩ : a.l.length < 4611686018427387904 /\ True := h
 show V3Nc a; rw [BXA]<;> delta LV bO CI CH FE EE FH CL AF CV DC AS GZ HK LC II Lv hd96 iX AH EW AK BN BQ CF AJ BJ AN CD DZ EI CB BO Mp BT GF FA EG GA GD EC NZ DA ON sJ WD Oj jW Y5 TA bQ Ki RH bX dB gP; simp only [CC, eq_self, implies_true, forall_const, ge_iff_le]
 rw [<- BBT]
 simp [h, PL])) _
end Go.Bal
