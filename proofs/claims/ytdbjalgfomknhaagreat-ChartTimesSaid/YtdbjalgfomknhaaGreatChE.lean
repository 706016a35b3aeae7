/- Package chart: every. Printed by gench.py. -/
import Derived.Test.YtdbjalgfomknhaaGreatChA0
set_option linter.unusedVariables false
set_option linter.unusedSimpArgs false
namespace Go.Bal
open Go Go.Sym Go.Proofs
def Rq (p : Nat -> Bool) : Nat -> Bool
 | 0 => true
 | n + 1 => Rq p n && p n
theorem Qv {p : Nat -> Bool} : ∀ {n : Nat}, Rq p n = true ↔ ∀ i, i < n -> p i = true
 | 0 => by simp [Rq]
 | n + 1 => by
  simp only [Rq, Bool.and_eq_true, Qv (n := n)]
  constructor
  ·intro h i hi
   by_cases he : i = n
   ·subst he; exact h.2
   ·exact h.1 i (by omega)
  ·exact λ h => ⟨λ i hi => h i (by omega), h n (by omega)⟩
theorem ARZ {p : Nat -> Bool} : ∀ {n k : Nat}, (0 <= Zd p n k) ↔ ∃ i, k <= i /\ i < k + n /\ p i = true
 | 0, k => by simp [Zd]; omega
 | n + 1, k => by
  simp only [Zd]
  by_cases h : p k = true
  ·rw [if_pos h]
   constructor
   ·intro _; exact ⟨k, Nat.le_refl _, by omega, h⟩
   ·intro _; omega
  ·rw [if_neg h, ARZ (n := n) (k := k + 1)]
   constructor
   ·rintro ⟨i, h1, h2, h3⟩; exact ⟨i, by omega, by omega, h3⟩
   ·rintro ⟨i, h1, h2, h3⟩
    refine ⟨i, ?_, by omega, h3⟩
    by_cases he : i = k
    ·subst he; exact absurd h3 h
    ·omega
theorem BHX {p : Nat -> Bool} {n : Nat} : (!decide (0 <= Zd (λ i => !p i) n 0)) = Rq p n := by
 rw [Bool.eq_iff_iff, Qv]
 simp only [Bool.not_eq_true', decide_eq_false_iff_not, ARZ, Nat.zero_le, Nat.zero_add, true_and]
 constructor
 ·intro h i hi
  cases hp : p i with
  | true => rfl
  | false => exact (h ⟨i, hi, by simp [hp]⟩).elim
 ·rintro h ⟨i, hi, hp⟩
  rw [h i hi] at hp; cases hp
theorem eN {α : Type} [Inhabited α] {p : α -> Bool} {l : List α} : (!decide (0 <= Zd (λ i => !p (gD l i)) l.length 0)) = l.all p := by
 rw [BHX, Bool.eq_iff_iff, Qv, List.all_eq_true]
 exact ⟨λ h x hx => by obtain ⟨i, hi, rfl⟩ := YH hx; exact h i hi, λ h i hi => h _ (TY hi)⟩
def sJ (c : Cht) : AObj := .box [.int c.p.lo, .int c.p.hi, .int c.base, .int c.scale, .int c.off, .d (wX c.ms), .d (oA c.ns)]
def Fh (H : Heap) (id : Nat) : Option Cht := match H id with
 | .live (.box [.d a, .d b, .d c, .d d, .d e, .d (.list _ n f _), .d (.list _ m g _)]) => some ⟨⟨HK a, HK b⟩, HK c, HK d, HK e, IK n λ i => dMk (f i), IK m λ i => dNt (g i)⟩
 | _ => none
structure ChN where
 q : Cht
 e : Nt
def C_ck1 : Ctr := { ro := [101], α := ChN, xs := λ a => [.d (eNt a.e), .bptr 101 0], L := λ a => [(101, sJ a.q)], val := λ a => .bool (RF a.e a.q.ms.length), keep := λ a => [(101, .live (sJ a.q))] }
def BNX : List AVal -> Heap -> Option (ChN × List (Nat × Nat) × List Nat)
 | [.d d, .bptr id _], H => match Fh H id with
  | some q => some (⟨q, dNt d⟩, [(101, id)], [])
  | none => none
 | _, _ => none
def BOC : Ann := { ann 9 [(ALH, AXR)] with E := [101] }
def BPP (a : ChN) : Prop := CH Try.prog BOC AGL (AH AGL) (C_ck1.xs a) (AB (C_ck1.L a)) (C_ck1.val a) (C_ck1.keep a) [] []
abbrev EJ:=@List.length Mk
abbrev GW:=Cht.ms
abbrev EX:=Cht.p
abbrev HP:=Cht.base
abbrev HN:=Cht.scale
abbrev HJ:=Cht.off
abbrev GT:=Mk.pl
abbrev GB:=@gD Mk instInhabitedMk
abbrev HC:=Mk.ht
abbrev DU:=@List.length Nt
abbrev GG:=Cht.ns
abbrev FE:=@gD Nt instInhabitedNt
abbrev AK a b c d e f g h p:=AF a b c d (AF e f g h p)
abbrev CM a b c d e f (g:Nat->Prop) h p:=AK a b c d e f (AD g) h p
abbrev KM a b c d e f (g:Nat->Prop) h (p:Nat->Prop):=CM a b c d e f g h (AD p)
abbrev AV a:=AG (HJ a)
abbrev AS a:=AG (HN a)
abbrev AP a:=AG (HP a)
abbrev VT a b c d e f (g:Nat->Prop) h (p:Nat->Prop):=KM a b (AP c) (AS d) (AV e) f g h p
abbrev AT a:=AZ (EX a)
abbrev AQ a:=BM (EX a)
abbrev LV a b c (d:Nat->Prop) e (f:Nat->Prop):=VT (AQ a) (AT b) b b b c d e f
abbrev BB a:=EJ (GW a)
abbrev EV a b c d:=BH a (BB b) c d
abbrev DD a b:=GB (GW a) b
abbrev CP a b:=HC (DD a b)
abbrev CE a b:=GT (DD a b)
abbrev DX a b:=EV a b (AG (CE b a)) (AG (CP b a))
abbrev BX a:=BC (BB a)
abbrev RM a b (c:Nat->Prop):=LV a a (BX a) (λ i=>DX i a) b c
abbrev AN a:=DU (GG a)
abbrev DW a b c:=AU a (AN b) c
abbrev CX a b c d e f:=AF a b (AX c d) e f
abbrev CY a b c d e f g:=CX a b c d e (AX f g)
abbrev HD a b c d e:=CY (AG a) (BM b) c c (BM d) e e
abbrev CR a b:=FE (GG a) b
abbrev BY a b:=ET (CR a b)
abbrev CJ a b:=ES (CR a b)
abbrev BS a b:=EC (CR a b)
abbrev BK a b:=DW a b (HD (BS b a) (CJ b a) (CJ b a) (BY b a) (BY b a))
abbrev CG a:=BC (AN a)
abbrev GR a:=RM a (CG a) (λ i=>BK i a)
abbrev Ez a b:=And a (GR b)
abbrev IV a:=BZ (BB a)
abbrev Lm a b:=wJ a (IV b)
attribute [go_sem] EJ GW EX HP HN HJ GT GB HC DU GG FE AK CM KM AV AS AP VT AT AQ LV BB EV DD CP CE DX BX RM AN DW CX CY HD CR BY CJ BS BK CG GR Ez IV Lm
theorem BVF (a : ChN) : (BPP a) = (Ez (KH (Lm (ChN.e a) (ChN.q a)) (Lm (Nt.mk (EC (ChN.e a)) (ES (ChN.e a)) (ET (ChN.e a))) (ChN.q a))) (ChN.q a)) := by kernel_rfl
theorem BRY : AJ Try.prog yX (C_ck1.spec BNX) := XP C_ck1 (λ _ => BOC) [] [] AYC (λ _ => by kernel_rfl) (λ _ => AA BBC AC) (λ (a : ChN) _ => by
 show BPP a; rw [BVF]<;> delta KH BG BJ wJ EC ES ET BW AD BU CL AR BZ EJ GW EX HP HN HJ GT GB HC DU GG FE AE CR BB AF AY AU AG BC AX BM CJ AK AN DD BH BY CX CY BS CE AV AQ EV DW AZ CP AS AP AT BX CM HD CG IV KM DX VT BK LV RM GR Lm Ez; simp [wr, TS]) (λ _ => YS rfl rfl) _
def Du (s : Span) : Bool := decide (s.lo <= s.hi)
def BHZ (x : Span) : Prop := CH Try.prog (ann 8 []) ATI (AH ATI) (xS1 x) (AB []) (.bool (Du x)) [] [] []
theorem BJJ (x : Span) : (BHZ x) = (KH (Du x) (hd7 (BG x) (BJ x))) := by kernel_rfl
def AKL := pD dS1 λ x => .bool (Du x)
theorem BLG : AJ Try.prog AKK AKL := Kr xS1 hS1 λ x _ => Hp (A := ann 8 []) (ren := []) (fz := []) BKH (by kernel_rfl) AC (by
 show BHZ x; rw [BJJ]<;> delta KH hd7 BG BJ; try simp [Du])
def BFH (x : Span) : Prop := CH Try.prog (ann 8 []) ATE (AH ATE) (xS1 x) (AB []) (.bool (Du x)) [] [] []
theorem BMA (x : Span) : (BFH x) = (KH (Du x) (hd7 (BG x) (BJ x))) := by kernel_rfl
theorem BJF : AJ Try.prog AML AKL := Kr xS1 hS1 λ x _ => Hp (A := ann 8 []) (ren := []) (fz := []) BMJ (by kernel_rfl) AC (by
 show BFH x; rw [BMA]<;> delta KH hd7 BG BJ; try simp [Du])
def BOL (x : Int) : Prop := CH Try.prog (ann 5 [(sA, vS)]) ADY (AH ADY) (xI1 x) (AB []) (.bool (KT x (-100000000) 100000000)) [] [] []
abbrev FD a:=KH a a
attribute [go_sem] FD
theorem BVG (x : Int) : (BOL x) = (FD (KT x (-100000000) 100000000)) := by kernel_rfl
def BOJ := pD dI1 λ x => .bool (KT x (-100000000) 100000000)
theorem BSS : AJ Try.prog zD BOJ := Kr xI1 hI1 λ x _ => Hp (A := ann 5 [(sA, vS)]) (ren := []) (fz := []) AYU (by kernel_rfl) (AA nD AC) (by
 show BOL x; rw [BVG]<;> delta KH FD; try simp)
def LXNr (q : Cht) : List (Nat × AObj) := [(101, sJ q)]
def KXNr (q : Cht) : List (Nat × HCell) := [(101, .live (sJ q))]
def fvNr (q : Cht) : AVal := .fn (.func yX) [] [.bptr 101 0]
def BNr (q : Cht) : AObj := .box [fvNr q]
structure ENr where
 q : Cht
 e : Nt
structure MNr where
 q : Cht
 l : List Nt
def C1Nr : Ctr := { ro := [100, 101], α := ENr, xs := λ a => [.d (eNt a.e), .bptr 100 0], L := λ a => (100, BNr a.q) :: LXNr a.q, val := λ a => .bool (!RF a.e a.q.ms.length), keep := λ a => (100, .live (BNr a.q)) :: KXNr a.q }
def d1Nr : List AVal -> Heap -> Option (ENr × List (Nat × Nat) × List Nat)
 | [.d d, .bptr id _], H => match H id with
  | .live (.box [.fn _ _ [.bptr j _]]) => match Fh H j with
   | some q => some (⟨q, dNt d⟩, [(100, id), (101, j)], [])
   | none => none
  | _ => none
 | _, _ => none
def A1Nr : Ann := { ann 8 [(yX, C_ck1.spec BNX)] with E := [100, 101] }
def V1Nr (a : ENr) : Prop := CH Try.prog A1Nr BBF (AH BBF) (C1Nr.xs a) (AB (C1Nr.L a)) (C1Nr.val a) (C1Nr.keep a) [] []
abbrev hd70:=ENr.e
abbrev hJ:=ENr.q
abbrev JW:=@IK Nt
abbrev HU a b c d e:=AE (AE a b c) d e
abbrev Iq a b:=KH a (not b)
abbrev GA a b:=(@IK Mk) a (λ i=>GB b i)
abbrev EZ a:=GA (BB a) (GW a)
abbrev DQ a:=EJ (EZ a)
abbrev Nz a:=BZ (DQ a)
abbrev XZ a b c d e:=CX a b c c d e
abbrev WT a b c d e f g h p:=AK (AT a) b c d e f g h p
abbrev MX a b c d e f g h:=WT a b c (AV a) d e f g h
abbrev EP a b c d e:=CY a (BN b c) b c (BN d e) d e
abbrev FA a (b:Nat->Nt):=JW (DU a) b
abbrev EM a:=FA (GG a) (λ i=>CR a i)
abbrev FC a b:=FE (EM a) b
abbrev FU a b:=ET (FC a b)
abbrev FT a b:=ES (FC a b)
abbrev KL a b c:=AR (BS a b) c
abbrev NH a b:=EC (FC a b)
abbrev DI a b:=DW a b (EP (KL b a (NH b a)) (CJ b a) (FT b a) (BY b a) (FU b a))
abbrev DA a:=DU (EM a)
abbrev NC a b:=BW a (DA b)
abbrev DH a:=NC (AN a) a
abbrev GY a b c d:=EV a b (AR (CE b a) c) (AR (CP b a) d)
abbrev ID a b:=GB (EZ a) b
abbrev HV a b:=HC (ID a b)
abbrev HW a b:=GT (ID a b)
abbrev DG a b:=GY a b (HW b a) (HV b a)
abbrev LM a b:=BW a (DQ b)
abbrev CQ a:=LM (BB a) a
abbrev FV a b c:=AU a (DA b) c
abbrev FN a b c d e f g:=EP a b (CJ c d) e (BY f g)
abbrev FO a b c d e:=FN a (FT b c) d e (FU d e) d e
abbrev EG a b:=AR (EC a) b
abbrev EL a b c:=EG a (BS b c)
abbrev GH a b c d e f:=FO (EL (FC a b) a b) c d e f
abbrev CS a b:=FV a b (GH b a b a b a)
abbrev BI a:=AD (λ i=>CS i a)
abbrev FM a b:=BW a (AN b)
abbrev BE a:=FM (DA a) a
abbrev DB a b c d e f:=BH a b (AR c d) (AR e f)
abbrev FQ a b c d e f g:=DB a b c d e (CP f g)
abbrev FZ a b c d e f g:=FQ a b c (CE d e) f g a
abbrev IC a b c d e f g h p:=FZ a b (HW c d) e f (HV g h) p
abbrev EE a b:=IC a (DQ b) b a b a b a b
abbrev BL a:=AD (λ i=>EE i a)
abbrev EA a b:=BW a (BB b)
abbrev BO a:=EA (DQ a) a
attribute [go_sem] hd70 hJ JW HU Iq GA EZ DQ Nz XZ WT MX EP FA EM FC FU FT KL NH DI DA NC DH GY ID HV HW DG LM CQ FV FN FO EG EL GH CS BI FM BE DB FQ FZ IC EE BL EA BO
theorem BXZ (a : ENr) : (V1Nr a) = (HU (AG (EC (hd70 a))) (BM (ES (hd70 a))) (XZ (AZ (ES (hd70 a))) (BM (ET (hd70 a))) (ET (hd70 a)) (AQ (hJ a)) (MX (hJ a) (AP (hJ a)) (AS (hJ a)) (BO (hJ a)) (BL (hJ a)) (BE (hJ a)) (BI (hJ a)) (LV (hJ a) (hJ a) (CQ (hJ a)) (λ i=>DG i (hJ a)) (DH (hJ a)) (λ i=>DI i (hJ a))))) (Iq (not (Lm (hd70 a) (hJ a))) (wJ (Nt.mk (EC (hd70 a)) (ES (hd70 a)) (ET (hd70 a))) (Nz (hJ a)))) (GR (hJ a))) := by kernel_rfl
theorem BYW : AJ Try.prog AOS (C1Nr.spec d1Nr) := XP C1Nr (λ _ => A1Nr) [] [] BTP (λ _ => by kernel_rfl) (λ _ => AA BRY AC) (λ (a : ENr) h => by
 show V1Nr a; rw [BXZ]<;> delta KH BG BJ wJ EC ES ET BW AD BU CL AR BZ EJ GW EX HP HN HJ GT GB HC DU GG FE hd70 hJ JW AE CR FA BB GA AF AY AU AG EM EZ BC AX FC BM CJ AK AN DD BH BY BP CX BN CY BS CE FU AV DA AQ EV DW AZ XZ DQ CP FT AS AP ID AT EG BX CM HD CG HV EL FV EP HW IV DB FN FM KM EA FQ NH BE DX FO FZ KL NC GH IC LM VT BO DH CQ BK GY CS EE LV BI BL DG RM HU GR DI WT Lm MX Nz Iq; try simp [wr, TS]) (λ _ => YS rfl rfl) _
def d2Nr : List AVal -> Heap -> Option (MNr × List (Nat × Nat) × List Nat)
 | [y, .fn _ _ [.bptr id _]], H => match sB y H with
  | some (n, g, f) => match H id with
   | .live (.box [.fn _ _ [.bptr j _]]) => match Fh H j with
    | some q => some (⟨q, IK n λ i => dNt (g i)⟩, [(100, id), (101, j)], f)
    | none => none
   | _ => none
  | none => none
 | _, _ => none
def A2Nr (a : MNr) : Ann := { ann 19 [(AOS, C1Nr.spec d1Nr)] with E := [100, 101], loops := λ id => if id = 2 then some [{ α := Nat, dflt := 0, T := λ k => ⟨[(0, .d (oA a.l)), (1, .fn (.func AOS) [] [.bptr 100 0]), (7, .int a.l.length), (8, .int k)], (100, .live (BNr a.q)) :: KXNr a.q⟩, inv := λ k => k <= a.l.length /\ Zd (λ i => !RF (gD a.l i) a.q.ms.length) a.l.length 0 = Zd (λ i => !RF (gD a.l i) a.q.ms.length) (a.l.length - k) k, meas := λ k => a.l.length - k }] else none }
def PNr (a : MNr) : List Prop := [a.l.length < 4611686018427387904 /\ True]
def C2Nr : Ctr := { ro := [100, 101], α := MNr, xs := λ a => [.d (oA a.l), .fn (.func AOS) [] [.bptr 100 0]], L := λ a => (100, BNr a.q) :: LXNr a.q, val := λ a => .int (Zd (λ i => !RF (gD a.l i) a.q.ms.length) a.l.length 0), keep := λ a => (100, .live (BNr a.q)) :: KXNr a.q, pre := PNr }
def V2Nr (a : MNr) : Prop := CH Try.prog (A2Nr a) APB (AH APB) (C2Nr.xs a) (AB (C2Nr.L a)) (C2Nr.val a) (C2Nr.keep a) [] []
abbrev GN:=@Exists Nat
abbrev OP:=MNr.q
abbrev HS a (b:Nat->Prop):=And a (AD b)
abbrev DP (a:Nat->Prop) (b:Nat->Prop):=HS (GN a) b
abbrev Mz (a:Nat->Bool) b c:=Zd (λ i=>not (a i)) b c
abbrev Be (a:Nat->Bool) b:=Mz a b 0
abbrev Cf (a:Nat->Bool) b c:=AR (Be a b) c
abbrev UP a:=DU (MNr.l a)
abbrev F3 a b:=Lm a (OP b)
abbrev Mn a b:=FE (MNr.l a) b
abbrev Th a b c:=F3 (Mn a b) c
abbrev WO (a:Nat->Bool) b (c:Nat->Bool) d e:=Cf a b (Mz c (LO b d) e)
abbrev NF a b c:=HD a b b c c
abbrev Xw a b:=ET (Mn a b)
abbrev Vo a b:=ES (Mn a b)
attribute [go_sem] GN OP HS DP Mz Be Cf UP F3 Mn Th WO NF Xw Vo
theorem BWU (a : MNr) : (V2Nr a) = (DP (λ i=>SD (AF (BC (UP a)) (AD (λ j=>AU j (UP a) (NF (EC (Mn a j)) (Vo a j) (Xw a j)))) (IM (UP a)) (BR i) (GR (OP a))) i (UP a) (WO (λ j=>Th a j a) (UP a) (λ j=>Th a j a) i i)) (λ i=>GQ (GZ i (UP a) (WO (λ j=>Th a j a) (UP a) (λ j=>Th a j a) i i)) i (UP a) (AO (FR i (UP a)) (AG (EC (Mn a i))) (BM (Vo a i)) (XZ (AZ (Vo a i)) (BM (Xw a i)) (Xw a i) (AQ (OP a)) (MX (OP a) (AP (OP a)) (AS (OP a)) (BO (OP a)) (BL (OP a)) (BE (OP a)) (BI (OP a)) (LV (OP a) (OP a) (CQ (OP a)) (λ j=>DG j (OP a)) (DH (OP a)) (λ j=>DI j (OP a)))))) (DZ (not (wJ (Nt.mk (EC (Mn a i)) (Vo a i) (Xw a i)) (Nz (OP a)))) (Cf (λ j=>Th a j a) (UP a) (BZ i)) (GR (OP a)) (GN (λ j=>MA (AF (BC (UP a)) (AD (λ k=>AU k (UP a) (NF (EC (Mn a k)) (Vo a k) (Xw a k)))) (IM (UP a)) (BD j i) (GR (OP a))) j (UP a) (WO (λ k=>Th a k a) (UP a) (λ k=>Th a k a) j j) i))) (Ez (Cf (λ j=>Th a j a) (UP a) (-1)) (OP a)))) := by kernel_rfl
theorem p2Nr (a : MNr) (h : EI (PNr a)) : V2Nr a := by
 obtain ⟨h, hp⟩ : a.l.length < 4611686018427387904 /\ True := h
 rw [BWU]<;> delta BG BJ wJ EC MM NO ES ET BW AD BU CL AR BZ DJ EK JH HO KB NL LO EJ GW EX HP HN HJ GT GB HC DU GG FE JW GN OP AE CR FA BB GA AF AY AU AG EM EZ BC AX FC BM CJ AK AN DD BH BY BP CX BN CY BS CE HQ FU AV DA AQ EV DW AZ XZ DQ CP FT AS FS DM AP ID AT EG CN BX CM HD CG GP GU DS FH HV AO EL FV CD NF EP HW EO IV DB FN FM KM JB DZ BD EA FQ FR IW NH BE DX FO FZ KL NC GH IC LM VT LB IM Mz HS HB BO EB DH CQ BK GY CS EE LV GM GZ BR BI BL DG RM Mn GC Be DP GR DI Cf UP WT GQ Lm ZN Ah MA MX WO SD F3 Ez Th Xw Vo Nz
 simp only [CC, eq_self, implies_true, forall_const]
 refine ⟨⟨0, rfl, Nat.zero_le _, rfl⟩, λ k ⟨h1, h2⟩ => ⟨λ hlt => ?_, λ hge => ?_⟩⟩
 ·have hlt : k < a.l.length := by omega
  refine ⟨⟨by omega, by omega⟩, λ hp => ?_, λ hp => ⟨k + 1, (HY (by omega)).symm, ⟨by omega, ?_⟩, by omega⟩⟩
  ·rw [h2]; exact fI hlt (by simpa using hp)
  ·rw [h2]; exact O9 hlt (by simpa using hp)
 ·rw [h2]; exact qU (by omega)
theorem BYU : AJ Try.prog APL (C2Nr.spec d2Nr) := XP C2Nr A2Nr [] [] BCB (λ _ => by kernel_rfl) (λ _ => AA BYW AC) p2Nr (λ _ => YS rfl rfl) _
def C3Nr : Ctr := { C2Nr with val := λ (a : MNr) => .bool (decide (Zd (λ i => !RF (gD a.l i) a.q.ms.length) a.l.length 0 >= 0)) }
def d3Nr : List AVal -> Heap -> Option (C3Nr.α × List (Nat × Nat) × List Nat) := d2Nr
def A3Nr : Ann := { ann 9 [(APL, C2Nr.spec d2Nr)] with E := [100, 101] }
def V3Nr (a : MNr) : Prop := CH Try.prog A3Nr AQJ (AH AQJ) (C3Nr.xs a) (AB (C3Nr.L a)) (C3Nr.val a) (C3Nr.keep a) [] []
abbrev IH:=True
abbrev As a:=rW a 0
abbrev QM (a:Nat->Bool) b:=As (Be a b)
abbrev Tl a:=FA (MNr.l a) (λ i=>Mn a i)
abbrev Xb a:=DU (Tl a)
abbrev QJ a b c d e f g h:=AK (AS a) (AV a) b c d e f g h
abbrev MD a b c d (e:Nat->Prop) f g:=CM (AP a) (AS a) (AV a) b c d e f g
abbrev DT a:=CL a 4611686018427387904
abbrev DN a:=AD (λ i=>DG i a)
abbrev UV a b c d e f:=EP (EG a b) c d e f
abbrev SY a b c d e f:=UV a (EC b) c d e f
abbrev Ci a b:=ET (FE a b)
abbrev Cd a b:=ES (FE a b)
attribute [go_sem] IH As QM Tl Xb QJ MD DT DN UV SY Ci Cd
theorem BYB (a : MNr) : (V3Nr a) = (AE (And (BW (Xb a) (UP a)) (XZ (AD (λ i=>AU i (Xb a) (SY (FE (Tl a) i) (Mn a i) (Cd (Tl a) i) (Vo a i) (Ci (Tl a) i) (Xw a i)))) (AQ (OP a)) (EX (OP a)) (AP (OP a)) (QJ (OP a) (BO (OP a)) (BL (OP a)) (BE (OP a)) (BI (OP a)) (AQ (OP a)) (AT (OP a)) (MD (OP a) (CQ (OP a)) (DN (OP a)) (DH (OP a)) (λ i=>DI i (OP a)) (DT (Xb a)) IH)))) (KH (QM (λ i=>Th a i a) (UP a)) (QM (λ i=>wJ (FE (Tl a) i) (Nz (OP a))) (Xb a))) (GR (OP a))) := by kernel_rfl
theorem BXC : AJ Try.prog APH (C3Nr.spec d3Nr) := Ctr.spec_ok (C := C3Nr) (λ (a : MNr) h => Hp (A := A3Nr) (ren := []) (fz := []) AZZ (by kernel_rfl) (AA BYU AC) (by
 obtain ⟨h, hp⟩ : a.l.length < 4611686018427387904 /\ True := h
 show V3Nr a; rw [BYB]<;> delta KH rW BG BJ wJ EC ES ET BW AD BU CL AR BZ EJ GW EX HP HN HJ GT GB HC DU GG FE JW OP IH AE CR FA BB GA AF AY AU AG EM EZ BC AX FC BM CJ AK AN DD BH BY BP CX BN CY BS CE FU AV DA AQ EV DW AZ XZ DQ CP FT AS AP ID AT EG BX CM HD CG HV DT EL FV EP HW IV DB FN FM UV KM EA FQ NH BE DX FO FZ KL NC GH IC LM VT Mz SY BO DH CQ BK GY CS EE LV BI BL DG RM Mn Be GR DI DN UP MD Lm As QJ Tl QM F3 Ci Cd Xb Th Xw Vo Nz; simp [h, TS])) _
def d4Nr : List AVal -> Heap -> Option (MNr × List (Nat × Nat) × List Nat)
 | [y, .fn _ _ [.bptr j _]], H => match sB y H with
  | some (n, g, f) => match Fh H j with
   | some q => some (⟨q, IK n λ i => dNt (g i)⟩, [(101, j)], f)
   | none => none
  | none => none
 | _, _ => none
def A4Nr : Ann := { ann 9 [(APH, C3Nr.spec d3Nr)] with E := [101] }
def C4Nr : Ctr := { ro := [101], α := MNr, xs := λ a => [.d (oA a.l), fvNr a.q], L := λ a => LXNr a.q, val := λ a => .bool (a.l.all λ x => RF x a.q.ms.length), keep := λ a => KXNr a.q, pre := PNr }
def V4Nr (a : MNr) : Prop := CH Try.prog A4Nr F_eN (AH F_eN) (C4Nr.xs a) (AB (C4Nr.L a)) (C4Nr.val a) (C4Nr.keep a) [] []
abbrev hd80:=@List.all Nt
attribute [go_sem] hd80
theorem BWY (a : MNr) : (V4Nr a) = (AE (And (BW (Xb a) (UP a)) (XZ (AD (λ i=>AU i (Xb a) (SY (FE (Tl a) i) (Mn a i) (Cd (Tl a) i) (Vo a i) (Ci (Tl a) i) (Xw a i)))) (AQ (OP a)) (EX (OP a)) (AP (OP a)) (QJ (OP a) (BO (OP a)) (BL (OP a)) (BE (OP a)) (BI (OP a)) (AQ (OP a)) (AT (OP a)) (MD (OP a) (CQ (OP a)) (DN (OP a)) (DH (OP a)) (λ i=>DI i (OP a)) (DT (Xb a)) IH)))) (Iq (hd80 (MNr.l a) (λ i=>F3 i a)) (QM (λ i=>wJ (FE (Tl a) i) (Nz (OP a))) (Xb a))) (GR (OP a))) := by kernel_rfl
theorem BWG (a : MNr) (h : EI (PNr a)) : FnT Try.prog n_eN (C4Nr.xs a) (AB (C4Nr.L a)) (C4Nr.val a) (C4Nr.keep a) := Hp (A := A4Nr) (ren := []) (fz := []) BYI (by kernel_rfl) (AA BXC AC) (by
 have h' : a.l.length < 4611686018427387904 /\ True := h
 show V4Nr a; rw [BWY]<;> delta KH rW BG BJ wJ EC ES ET BW AD BU CL AR BZ EJ GW EX HP HN HJ GT GB HC DU GG FE JW OP IH hd80 AE CR FA BB GA AF AY AU AG EM EZ BC AX FC BM CJ AK AN DD BH BY BP CX BN CY BS CE FU AV DA AQ EV DW AZ XZ DQ CP FT AS AP ID AT EG BX CM HD CG HV DT EL FV EP HW IV DB FN FM UV KM EA FQ NH BE DX FO FZ KL NC GH IC LM VT Mz SY BO DH CQ BK GY CS EE LV BI BL DG RM Mn Be GR DI DN UP MD Lm As QJ Tl QM F3 Ci Cd Xb Xw Vo Nz Iq; simp only [CC, eq_self, implies_true, forall_const, ge_iff_le]
 rw [<- eN]
 exact ⟨h'.1, rfl⟩)
theorem BXB : AJ Try.prog n_eN (C4Nr.spec d4Nr) := Ctr.spec_ok (C := C4Nr) BWG _
def fvSa (q : One) : AVal := .fn (.func AKK) [] []
def BSa (q : One) : AObj := .box [fvSa q]
structure ESa where
 q : One
 e : Span
structure MSa where
 q : One
 l : List Span
def C1Sa : Ctr := { ro := [100], α := ESa, xs := λ a => [.d (IL a.e), .bptr 100 0], L := λ a => (100, BSa a.q) :: [], val := λ a => .bool (!Du a.e), keep := λ a => (100, .live (BSa a.q)) :: [] }
def d1Sa : List AVal -> Heap -> Option (ESa × List (Nat × Nat) × List Nat)
 | [.d d, .bptr id _], H => some (⟨default, Ni d⟩, [(100, id)], [])
 | _, _ => none
def A1Sa : Ann := { ann 8 [(AKK, AKL)] with E := [100] }
def V1Sa (a : ESa) : Prop := CH Try.prog A1Sa ANM (AH ANM) (C1Sa.xs a) (AB (C1Sa.L a)) (C1Sa.val a) (C1Sa.keep a) [] []
theorem BWO (a : ESa) : (V1Sa a) = (FD (not (Du (ESa.e a)))) := by kernel_rfl
theorem BXR : AJ Try.prog yY (C1Sa.spec d1Sa) := XP C1Sa (λ _ => A1Sa) [] [] BEC (λ _ => by kernel_rfl) (λ _ => AA BLG AC) (λ (a : ESa) h => by
 show V1Sa a; rw [BWO]<;> delta KH FD; try simp [wr, TS]) (λ _ => YS rfl rfl) _
def d2Sa : List AVal -> Heap -> Option (MSa × List (Nat × Nat) × List Nat)
 | [y, .fn _ _ [.bptr id _]], H => match sB y H with
  | some (n, g, f) => some (⟨default, IK n λ i => Ni (g i)⟩, [(100, id)], f)
  | none => none
 | _, _ => none
def A2Sa (a : MSa) : Ann := { ann 19 [(yY, C1Sa.spec d1Sa)] with E := [100], loops := λ id => if id = 2 then some [{ α := Nat, dflt := 0, T := λ k => ⟨[(0, .d (DE a.l)), (1, .fn (.func yY) [] [.bptr 100 0]), (7, .int a.l.length), (8, .int k)], (100, .live (BSa a.q)) :: []⟩, inv := λ k => k <= a.l.length /\ Zd (λ i => !Du (gD a.l i)) a.l.length 0 = Zd (λ i => !Du (gD a.l i)) (a.l.length - k) k, meas := λ k => a.l.length - k }] else none }
def PSa (a : MSa) : List Prop := [a.l.length < 4611686018427387904 /\ True]
def C2Sa : Ctr := { ro := [100], α := MSa, xs := λ a => [.d (DE a.l), .fn (.func yY) [] [.bptr 100 0]], L := λ a => (100, BSa a.q) :: [], val := λ a => .int (Zd (λ i => !Du (gD a.l i)) a.l.length 0), keep := λ a => (100, .live (BSa a.q)) :: [], pre := PSa }
def V2Sa (a : MSa) : Prop := CH Try.prog (A2Sa a) ANK (AH ANK) (C2Sa.xs a) (AB (C2Sa.L a)) (C2Sa.val a) (C2Sa.keep a) [] []
abbrev Uk:=MSa.l
abbrev Hw a:=ED (Uk a)
abbrev On a b:=Du (GK a b)
abbrev Pd a b:=On (Uk a) b
attribute [go_sem] Uk Hw On Pd
theorem BWM (a : MSa) : (V2Sa a) = (DP (λ i=>SD (AO (KC (Uk a)) (KA (Uk a)) (IM (Hw a)) (BR i)) i (Hw a) (WO (λ j=>Pd a j) (Hw a) (λ j=>Pd a j) i i)) (λ i=>GQ (GZ i (Hw a) (WO (λ j=>Pd a j) (Hw a) (λ j=>Pd a j) i i)) i (Hw a) (AE (MI i (Uk a)) (Ct (Uk a) i) (AZ (GK (Uk a) i))) (EK (not (Pd a i)) (Cf (λ j=>Pd a j) (Hw a) (BZ i)) (GN (λ j=>MA (AO (KC (Uk a)) (KA (Uk a)) (IM (Hw a)) (BD j i)) j (Hw a) (WO (λ k=>Pd a k) (Hw a) (λ k=>Pd a k) j j) i))) (Cf (λ j=>Pd a j) (Hw a) (-1)))) := by kernel_rfl
theorem p2Sa (a : MSa) (h : EI (PSa a)) : V2Sa a := by
 obtain ⟨h, hp⟩ : a.l.length < 4611686018427387904 /\ True := h
 rw [BWM]<;> delta BG BJ MM NO BW ED AD BU CL AR GK BZ DJ EK JH HO KB NL LO GN Uk AE AY AU AG BC AX BM BH HQ AZ FS DM CN GP GU DS FH AO CD EO JY KC JB DZ BD FR IW LB IM YN Ct Mz HS HB EB GM GZ BR Ba GC Be DP KA Cf On GQ MI Hw ZN Ah MA WO SD Pd
 simp only [CC, eq_self, implies_true, forall_const]
 refine ⟨⟨0, rfl, Nat.zero_le _, rfl⟩, λ k ⟨h1, h2⟩ => ⟨λ hlt => ?_, λ hge => ?_⟩⟩
 ·have hlt : k < a.l.length := by omega
  refine ⟨⟨by omega, by omega⟩, λ hp => ?_, λ hp => ⟨k + 1, (HY (by omega)).symm, ⟨by omega, ?_⟩, by omega⟩⟩
  ·rw [h2]; exact fI hlt (by simpa using hp)
  ·rw [h2]; exact O9 hlt (by simpa using hp)
 ·rw [h2]; exact qU (by omega)
theorem BXH : AJ Try.prog AQG (C2Sa.spec d2Sa) := XP C2Sa A2Sa [] [] BBH (λ _ => by kernel_rfl) (λ _ => AA BXR AC) p2Sa (λ _ => YS rfl rfl) _
def C3Sa : Ctr := { C2Sa with val := λ (a : MSa) => .bool (decide (Zd (λ i => !Du (gD a.l i)) a.l.length 0 >= 0)) }
def d3Sa : List AVal -> Heap -> Option (C3Sa.α × List (Nat × Nat) × List Nat) := d2Sa
def A3Sa : Ann := { ann 9 [(AQG, C2Sa.spec d2Sa)] with E := [100] }
def V3Sa (a : MSa) : Prop := CH Try.prog A3Sa AQH (AH AQH) (C3Sa.xs a) (AB (C3Sa.L a)) (C3Sa.val a) (C3Sa.keep a) [] []
abbrev Ef:=@IK Span
abbrev JR a b c d e:=And (AO a b c d) e
abbrev Jc a (b:Nat->Span):=Ef (ED a) b
abbrev IP a:=Jc a (λ i=>GK a i)
abbrev NG a:=ED (IP a)
abbrev La a:=DT (NG a)
abbrev LI a b c d:=JY a b (BN c d) (AX c d)
abbrev EY a b c:=LI a b (GK b a) c
abbrev PN a b c d:=EY a b (GK c d)
abbrev PJ a b c:=PN a b c a
abbrev JQ a b:=AD (λ i=>PJ i a b)
abbrev QH a:=JQ (IP a) a
abbrev WA a b:=BW a (ED b)
abbrev JG a:=WA (NG a) a
attribute [go_sem] Ef JR Jc IP NG La LI EY PN PJ JQ QH WA JG
theorem BYN (a : MSa) : (V3Sa a) = (JR (JG (Uk a)) (QH (Uk a)) (La (Uk a)) IH (KH (QM (λ i=>Pd a i) (Hw a)) (QM (λ i=>On (IP (Uk a)) i) (NG (Uk a))))) := by kernel_rfl
theorem BXQ : AJ Try.prog ANQ (C3Sa.spec d3Sa) := Ctr.spec_ok (C := C3Sa) (λ (a : MSa) h => Hp (A := A3Sa) (ren := []) (fz := []) BGG (by kernel_rfl) (AA BXH AC) (by
 obtain ⟨h, hp⟩ : a.l.length < 4611686018427387904 /\ True := h
 show V3Sa a; rw [BYN]<;> delta KH rW BG BJ BW ED AD BU CL AR GK IH Uk Ef AE AY AU AX BH BP BN Jc AO DT IP JY NG LI Mz EY PN Be PJ JQ On WA JR JG Hw As QM QH Pd La; simp [h, TS])) _
def d4Sa : List AVal -> Heap -> Option (MSa × List (Nat × Nat) × List Nat)
 | [y, .fn _ _ _], H => match sB y H with
  | some (n, g, f) => some (⟨default, IK n λ i => Ni (g i)⟩, [], f)
  | none => none
 | _, _ => none
def A4Sa : Ann := { ann 9 [(ANQ, C3Sa.spec d3Sa)] with E := [] }
def C4Sa : Ctr := { ro := [], α := MSa, xs := λ a => [.d (DE a.l), fvSa a.q], L := λ a => [], val := λ a => .bool (a.l.all λ x => Du x), keep := λ a => [], pre := PSa }
def V4Sa (a : MSa) : Prop := CH Try.prog A4Sa F_eS (AH F_eS) (C4Sa.xs a) (AB (C4Sa.L a)) (C4Sa.val a) (C4Sa.keep a) [] []
abbrev uS:=@List.all Span
attribute [go_sem] uS
theorem BWN (a : MSa) : (V4Sa a) = (JR (JG (Uk a)) (QH (Uk a)) (La (Uk a)) IH (Iq (uS (Uk a) Du) (QM (λ i=>On (IP (Uk a)) i) (NG (Uk a))))) := by kernel_rfl
theorem BNS (a : MSa) (h : EI (PSa a)) : FnT Try.prog n_eS (C4Sa.xs a) (AB (C4Sa.L a)) (C4Sa.val a) (C4Sa.keep a) := Hp (A := A4Sa) (ren := []) (fz := []) BNF (by kernel_rfl) (AA BXQ AC) (by
 have h' : a.l.length < 4611686018427387904 /\ True := h
 show V4Sa a; rw [BWN]<;> delta KH rW BG BJ BW ED AD BU CL AR GK IH Uk Ef uS AE AY AU AX BH BP BN Jc AO DT IP JY NG LI Mz EY PN Be PJ JQ On WA JR JG As QM QH La Iq; simp only [CC, eq_self, implies_true, forall_const, ge_iff_le]
 rw [<- eN]
 exact ⟨h'.1, rfl⟩)
theorem BXL : AJ Try.prog n_eS (C4Sa.spec d4Sa) := Ctr.spec_ok (C := C4Sa) BNS _
def fvSn (q : One) : AVal := .fn (.func AML) [] []
def BSn (q : One) : AObj := .box [fvSn q]
structure ESn where
 q : One
 e : Span
structure MSn where
 q : One
 l : List Span
def C1Sn : Ctr := { ro := [100], α := ESn, xs := λ a => [.d (IL a.e), .bptr 100 0], L := λ a => (100, BSn a.q) :: [], val := λ a => .bool (!Du a.e), keep := λ a => (100, .live (BSn a.q)) :: [] }
def d1Sn : List AVal -> Heap -> Option (ESn × List (Nat × Nat) × List Nat)
 | [.d d, .bptr id _], H => some (⟨default, Ni d⟩, [(100, id)], [])
 | _, _ => none
def A1Sn : Ann := { ann 8 [(AML, AKL)] with E := [100] }
def V1Sn (a : ESn) : Prop := CH Try.prog A1Sn ANM (AH ANM) (C1Sn.xs a) (AB (C1Sn.L a)) (C1Sn.val a) (C1Sn.keep a) [] []
theorem BWA (a : ESn) : (V1Sn a) = (FD (not (Du (ESn.e a)))) := by kernel_rfl
theorem BVR : AJ Try.prog yY (C1Sn.spec d1Sn) := XP C1Sn (λ _ => A1Sn) [] [] BEC (λ _ => by kernel_rfl) (λ _ => AA BJF AC) (λ (a : ESn) h => by
 show V1Sn a; rw [BWA]<;> delta KH FD; try simp [wr, TS]) (λ _ => YS rfl rfl) _
def d2Sn : List AVal -> Heap -> Option (MSn × List (Nat × Nat) × List Nat)
 | [y, .fn _ _ [.bptr id _]], H => match sB y H with
  | some (n, g, f) => some (⟨default, IK n λ i => Ni (g i)⟩, [(100, id)], f)
  | none => none
 | _, _ => none
def A2Sn (a : MSn) : Ann := { ann 19 [(yY, C1Sn.spec d1Sn)] with E := [100], loops := λ id => if id = 2 then some [{ α := Nat, dflt := 0, T := λ k => ⟨[(0, .d (DE a.l)), (1, .fn (.func yY) [] [.bptr 100 0]), (7, .int a.l.length), (8, .int k)], (100, .live (BSn a.q)) :: []⟩, inv := λ k => k <= a.l.length /\ Zd (λ i => !Du (gD a.l i)) a.l.length 0 = Zd (λ i => !Du (gD a.l i)) (a.l.length - k) k, meas := λ k => a.l.length - k }] else none }
def PSn (a : MSn) : List Prop := [a.l.length < 4611686018427387904 /\ True]
def C2Sn : Ctr := { ro := [100], α := MSn, xs := λ a => [.d (DE a.l), .fn (.func yY) [] [.bptr 100 0]], L := λ a => (100, BSn a.q) :: [], val := λ a => .int (Zd (λ i => !Du (gD a.l i)) a.l.length 0), keep := λ a => (100, .live (BSn a.q)) :: [], pre := PSn }
def V2Sn (a : MSn) : Prop := CH Try.prog (A2Sn a) ANK (AH ANK) (C2Sn.xs a) (AB (C2Sn.L a)) (C2Sn.val a) (C2Sn.keep a) [] []
abbrev Um:=MSn.l
abbrev Ih a:=ED (Um a)
abbrev Og a b:=On (Um a) b
attribute [go_sem] Um Ih Og
theorem BXU (a : MSn) : (V2Sn a) = (DP (λ i=>SD (AO (KC (Um a)) (KA (Um a)) (IM (Ih a)) (BR i)) i (Ih a) (WO (λ j=>Og a j) (Ih a) (λ j=>Og a j) i i)) (λ i=>GQ (GZ i (Ih a) (WO (λ j=>Og a j) (Ih a) (λ j=>Og a j) i i)) i (Ih a) (AE (MI i (Um a)) (Ct (Um a) i) (AZ (GK (Um a) i))) (EK (not (Og a i)) (Cf (λ j=>Og a j) (Ih a) (BZ i)) (GN (λ j=>MA (AO (KC (Um a)) (KA (Um a)) (IM (Ih a)) (BD j i)) j (Ih a) (WO (λ k=>Og a k) (Ih a) (λ k=>Og a k) j j) i))) (Cf (λ j=>Og a j) (Ih a) (-1)))) := by kernel_rfl
theorem p2Sn (a : MSn) (h : EI (PSn a)) : V2Sn a := by
 obtain ⟨h, hp⟩ : a.l.length < 4611686018427387904 /\ True := h
 rw [BXU]<;> delta BG BJ MM NO BW ED AD BU CL AR GK BZ DJ EK JH HO KB NL LO GN Um AE AY AU AG BC AX BM BH HQ AZ FS DM CN GP GU DS FH AO CD EO JY KC JB DZ BD FR IW LB IM YN Ct Mz HS HB EB GM GZ BR Ba GC Be DP KA Cf On GQ MI Ih ZN Ah MA WO SD Og
 simp only [CC, eq_self, implies_true, forall_const]
 refine ⟨⟨0, rfl, Nat.zero_le _, rfl⟩, λ k ⟨h1, h2⟩ => ⟨λ hlt => ?_, λ hge => ?_⟩⟩
 ·have hlt : k < a.l.length := by omega
  refine ⟨⟨by omega, by omega⟩, λ hp => ?_, λ hp => ⟨k + 1, (HY (by omega)).symm, ⟨by omega, ?_⟩, by omega⟩⟩
  ·rw [h2]; exact fI hlt (by simpa using hp)
  ·rw [h2]; exact O9 hlt (by simpa using hp)
 ·rw [h2]; exact qU (by omega)
theorem BYR : AJ Try.prog AQG (C2Sn.spec d2Sn) := XP C2Sn A2Sn [] [] BBH (λ _ => by kernel_rfl) (λ _ => AA BVR AC) p2Sn (λ _ => YS rfl rfl) _
def C3Sn : Ctr := { C2Sn with val := λ (a : MSn) => .bool (decide (Zd (λ i => !Du (gD a.l i)) a.l.length 0 >= 0)) }
def d3Sn : List AVal -> Heap -> Option (C3Sn.α × List (Nat × Nat) × List Nat) := d2Sn
def A3Sn : Ann := { ann 9 [(AQG, C2Sn.spec d2Sn)] with E := [100] }
def V3Sn (a : MSn) : Prop := CH Try.prog A3Sn AQH (AH AQH) (C3Sn.xs a) (AB (C3Sn.L a)) (C3Sn.val a) (C3Sn.keep a) [] []
theorem BYE (a : MSn) : (V3Sn a) = (JR (JG (Um a)) (QH (Um a)) (La (Um a)) IH (KH (QM (λ i=>Og a i) (Ih a)) (QM (λ i=>On (IP (Um a)) i) (NG (Um a))))) := by kernel_rfl
theorem BYA : AJ Try.prog ANQ (C3Sn.spec d3Sn) := Ctr.spec_ok (C := C3Sn) (λ (a : MSn) h => Hp (A := A3Sn) (ren := []) (fz := []) BGG (by kernel_rfl) (AA BYR AC) (by
 obtain ⟨h, hp⟩ : a.l.length < 4611686018427387904 /\ True := h
 show V3Sn a; rw [BYE]<;> delta KH rW BG BJ BW ED AD BU CL AR GK IH Ef Um AE AY AU AX BH BP BN Jc AO DT IP JY NG LI Mz EY PN Be PJ JQ On WA JR JG Ih As QM QH Og La; simp [h, TS])) _
def A4Sn : Ann := { ann 9 [(ANQ, C3Sn.spec d3Sn)] with E := [] }
def C4Sn : Ctr := { ro := [], α := MSn, xs := λ a => [.d (DE a.l), fvSn a.q], L := λ a => [], val := λ a => .bool (a.l.all λ x => Du x), keep := λ a => [], pre := PSn }
def V4Sn (a : MSn) : Prop := CH Try.prog A4Sn F_eS (AH F_eS) (C4Sn.xs a) (AB (C4Sn.L a)) (C4Sn.val a) (C4Sn.keep a) [] []
theorem BVS (a : MSn) : (V4Sn a) = (JR (JG (Um a)) (QH (Um a)) (La (Um a)) IH (Iq (uS (Um a) Du) (QM (λ i=>On (IP (Um a)) i) (NG (Um a))))) := by kernel_rfl
theorem BZD (a : MSn) (h : EI (PSn a)) : FnT Try.prog n_eS (C4Sn.xs a) (AB (C4Sn.L a)) (C4Sn.val a) (C4Sn.keep a) := Hp (A := A4Sn) (ren := []) (fz := []) BNF (by kernel_rfl) (AA BYA AC) (by
 have h' : a.l.length < 4611686018427387904 /\ True := h
 show V4Sn a; rw [BVS]<;> delta KH rW BG BJ BW ED AD BU CL AR GK IH Ef uS Um AE AY AU AX BH BP BN Jc AO DT IP JY NG LI Mz EY PN Be PJ JQ On WA JR JG As QM QH La Iq; simp only [CC, eq_self, implies_true, forall_const, ge_iff_le]
 rw [<- eN]
 exact ⟨h'.1, rfl⟩)
def fvIh (q : One) : AVal := .fn (.func zD) [] []
def BIh (q : One) : AObj := .box [fvIh q]
structure EIh where
 q : One
 e : Int
structure MIh where
 q : One
 l : List Int
def C1Ih : Ctr := { ro := [100], α := EIh, xs := λ a => [.d (TT a.e), .bptr 100 0], L := λ a => (100, BIh a.q) :: [], val := λ a => .bool (!KT a.e (-100000000) 100000000), keep := λ a => (100, .live (BIh a.q)) :: [] }
def d1Ih : List AVal -> Heap -> Option (EIh × List (Nat × Nat) × List Nat)
 | [.d d, .bptr id _], H => some (⟨default, HK d⟩, [(100, id)], [])
 | _, _ => none
def A1Ih : Ann := { ann 8 [(zD, BOJ)] with E := [100] }
def V1Ih (a : EIh) : Prop := CH Try.prog A1Ih BGT (AH BGT) (C1Ih.xs a) (AB (C1Ih.L a)) (C1Ih.val a) (C1Ih.keep a) [] []
abbrev Cr a b c:=not (KT a b c)
attribute [go_sem] Cr
theorem BXG (a : EIh) : (V1Ih a) = (FD (Cr (EIh.e a) (-100000000) 100000000)) := by kernel_rfl
theorem BWS : AJ Try.prog AOM (C1Ih.spec d1Ih) := XP C1Ih (λ _ => A1Ih) [] [] BUX (λ _ => by kernel_rfl) (λ _ => AA BSS AC) (λ (a : EIh) h => by
 show V1Ih a; rw [BXG]<;> delta KH FD Cr; try simp [wr, TS]) (λ _ => YS rfl rfl) _
def d2Ih : List AVal -> Heap -> Option (MIh × List (Nat × Nat) × List Nat)
 | [y, .fn _ _ [.bptr id _]], H => match sB y H with
  | some (n, g, f) => some (⟨default, IK n λ i => HK (g i)⟩, [(100, id)], f)
  | none => none
 | _, _ => none
def A2Ih (a : MIh) : Ann := { ann 19 [(AOM, C1Ih.spec d1Ih)] with E := [100], loops := λ id => if id = 2 then some [{ α := Nat, dflt := 0, T := λ k => ⟨[(0, .d (DV a.l)), (1, .fn (.func AOM) [] [.bptr 100 0]), (7, .int a.l.length), (8, .int k)], (100, .live (BIh a.q)) :: []⟩, inv := λ k => k <= a.l.length /\ Zd (λ i => !KT (gD a.l i) (-100000000) 100000000) a.l.length 0 = Zd (λ i => !KT (gD a.l i) (-100000000) 100000000) (a.l.length - k) k, meas := λ k => a.l.length - k }] else none }
def PIh (a : MIh) : List Prop := [a.l.length < 4611686018427387904 /\ True]
def C2Ih : Ctr := { ro := [100], α := MIh, xs := λ a => [.d (DV a.l), .fn (.func AOM) [] [.bptr 100 0]], L := λ a => (100, BIh a.q) :: [], val := λ a => .int (Zd (λ i => !KT (gD a.l i) (-100000000) 100000000) a.l.length 0), keep := λ a => (100, .live (BIh a.q)) :: [], pre := PIh }
def V2Ih (a : MIh) : Prop := CH Try.prog (A2Ih a) BDC (AH BDC) (C2Ih.xs a) (AB (C2Ih.L a)) (C2Ih.val a) (C2Ih.keep a) [] []
abbrev FP:=@List.length Int
abbrev Zh:=MIh.l
abbrev FK:=@gD Int Int.instInhabited
abbrev Xg a:=FP (Zh a)
abbrev WX a b c d:=KT (FK a b) c d
abbrev Ti a b:=WX a b (-100000000) 100000000
abbrev Nr a b:=Ti (Zh a) b
abbrev LP a:=BZ (FP a)
abbrev IY a b c:=AU a (FP b) c
abbrev Ki a b c:=IY a b (AG c)
abbrev WU a b:=Ki a b (FK b a)
abbrev MK a:=AD (λ i=>WU i a)
abbrev PG a:=BC (FP a)
abbrev MW a b:=FR a (FP b)
abbrev RL a b:=DJ a (FP b)
attribute [go_sem] FP Zh FK Xg WX Ti Nr LP IY Ki WU MK PG MW RL
theorem BXW (a : MIh) : (V2Ih a) = (DP (λ i=>AE (AO (PG (Zh a)) (MK (Zh a)) (AG (LP (Zh a))) (BR i)) (RL i (Zh a)) (WO (λ j=>Nr a j) (Xg a) (λ j=>Nr a j) i i)) (λ i=>GC (GZ i (Xg a) (WO (λ j=>Nr a j) (Xg a) (λ j=>Nr a j) i i)) i (LP (Zh a)) (And (MW i (Zh a)) (AG (FK (Zh a) i))) (EK (not (Nr a i)) (Cf (λ j=>Nr a j) (Xg a) (BZ i)) (GN (λ j=>MA (AO (PG (Zh a)) (MK (Zh a)) (AG (LP (Zh a))) (BD j i)) j (Xg a) (WO (λ k=>Nr a k) (Xg a) (λ k=>Nr a k) j j) i))) (Cf (λ j=>Nr a j) (Xg a) (-1)))) := by kernel_rfl
theorem p2Ih (a : MIh) (h : EI (PIh a)) : V2Ih a := by
 obtain ⟨h, hp⟩ : a.l.length < 4611686018427387904 /\ True := h
 rw [BXW]<;> delta MM NO BW AD BU CL AR BZ DJ EK JH HO KB NL LO GN FP Zh FK AE AU AG BC HQ FS DM CN IY GP GU DS FH AO CD EO JB DZ BD PG FR IW LP Ki LB Mz HS HB EB WU GM GZ BR MK GC Be DP WX Cf MW RL ZN Ah MA Ti Xg WO Nr
 simp only [CC, eq_self, implies_true, forall_const]
 refine ⟨⟨0, rfl, Nat.zero_le _, rfl⟩, λ k ⟨h1, h2⟩ => ⟨λ hlt => ?_, λ hge => ?_⟩⟩
 ·have hlt : k < a.l.length := by omega
  refine ⟨⟨by omega, by omega⟩, λ hp => ?_, λ hp => ⟨k + 1, (HY (by omega)).symm, ⟨by omega, ?_⟩, by omega⟩⟩
  ·rw [h2]; exact fI hlt (by simpa using hp)
  ·rw [h2]; exact O9 hlt (by simpa using hp)
 ·rw [h2]; exact qU (by omega)
theorem BYZ : AJ Try.prog BFX (C2Ih.spec d2Ih) := XP C2Ih A2Ih [] [] BSD (λ _ => by kernel_rfl) (λ _ => AA BWS AC) p2Ih (λ _ => YS rfl rfl) _
def C3Ih : Ctr := { C2Ih with val := λ (a : MIh) => .bool (decide (Zd (λ i => !KT (gD a.l i) (-100000000) 100000000) a.l.length 0 >= 0)) }
def d3Ih : List AVal -> Heap -> Option (C3Ih.α × List (Nat × Nat) × List Nat) := d2Ih
def A3Ih : Ann := { ann 9 [(BFX, C2Ih.spec d2Ih)] with E := [100] }
def V3Ih (a : MIh) : Prop := CH Try.prog A3Ih BDR (AH BDR) (C3Ih.xs a) (AB (C3Ih.L a)) (C3Ih.val a) (C3Ih.keep a) [] []
abbrev VV:=@IK Int
abbrev PX a (b:Nat->Int):=VV (FP a) b
abbrev Uf a b:=PX a (λ i=>FK b i)
abbrev QY a:=Uf a a
abbrev Yr a:=QY (Zh a)
abbrev FI a:=DT (FP a)
abbrev MB a b c d:=IY a b (AR c d)
abbrev LL a b c d e:=MB a b (FK c d) e
abbrev TZ a b c d e f:=LL a b c d (FK e f)
abbrev SM a b c d:=TZ a b b a c d
abbrev LS a b c:=SM a b c a
abbrev CW a b:=AD (λ i=>LS i a b)
abbrev EN a b:=BW (FP a) b
abbrev CB a b:=EN a (FP b)
abbrev WS a:=CB (QY a) a
attribute [go_sem] VV PX Uf QY Yr FI MB LL TZ SM LS CW EN CB WS
theorem BWX (a : MIh) : (V3Ih a) = (JR (WS (Zh a)) (CW (Yr a) (Zh a)) (FI (Yr a)) IH (KH (QM (λ i=>Nr a i) (Xg a)) (QM (λ i=>Ti (Yr a) i) (FP (Yr a))))) := by kernel_rfl
theorem BVW : AJ Try.prog BAX (C3Ih.spec d3Ih) := Ctr.spec_ok (C := C3Ih) (λ (a : MIh) h => Hp (A := A3Ih) (ren := []) (fz := []) BUD (by kernel_rfl) (AA BYZ AC) (by
 obtain ⟨h, hp⟩ : a.l.length < 4611686018427387904 /\ True := h
 show V3Ih a; rw [BWX]<;> delta KH rW BW AD BU CL AR IH FP Zh FK VV AE PX AU Uf QY IY EN AO DT CB MB LL TZ Mz SM LS FI Be CW WX JR As WS QM Ti Xg Nr Yr; simp [h, TS])) _
def d4Ih : List AVal -> Heap -> Option (MIh × List (Nat × Nat) × List Nat)
 | [y, .fn _ _ _], H => match sB y H with
  | some (n, g, f) => some (⟨default, IK n λ i => HK (g i)⟩, [], f)
  | none => none
 | _, _ => none
def A4Ih : Ann := { ann 9 [(BAX, C3Ih.spec d3Ih)] with E := [] }
def C4Ih : Ctr := { ro := [], α := MIh, xs := λ a => [.d (DV a.l), fvIh a.q], L := λ a => [], val := λ a => .bool (a.l.all λ x => KT x (-100000000) 100000000), keep := λ a => [], pre := PIh }
def V4Ih (a : MIh) : Prop := CH Try.prog A4Ih F_eI (AH F_eI) (C4Ih.xs a) (AB (C4Ih.L a)) (C4Ih.val a) (C4Ih.keep a) [] []
abbrev hd92:=@List.all Int
attribute [go_sem] hd92
theorem BXM (a : MIh) : (V4Ih a) = (JR (WS (Zh a)) (CW (Yr a) (Zh a)) (FI (Yr a)) IH (Iq (hd92 (Zh a) (λ i=>KT i (-100000000) 100000000)) (QM (λ i=>Ti (Yr a) i) (FP (Yr a))))) := by kernel_rfl
theorem BYJ (a : MIh) (h : EI (PIh a)) : FnT Try.prog n_eI (C4Ih.xs a) (AB (C4Ih.L a)) (C4Ih.val a) (C4Ih.keep a) := Hp (A := A4Ih) (ren := []) (fz := []) BYC (by kernel_rfl) (AA BVW AC) (by
 have h' : a.l.length < 4611686018427387904 /\ True := h
 show V4Ih a; rw [BXM]<;> delta KH rW BW AD BU CL AR IH FP Zh FK VV hd92 AE PX AU Uf QY IY EN AO DT CB MB LL TZ Mz SM LS FI Be CW WX JR As WS QM Ti Yr Iq; simp only [CC, eq_self, implies_true, forall_const, ge_iff_le]
 rw [<- eN]
 exact ⟨h'.1, rfl⟩)
theorem BYK : AJ Try.prog n_eI (C4Ih.spec d4Ih) := Ctr.spec_ok (C := C4Ih) BYJ _
structure N2 where
 q : Nt
 e : Nt
def ntB (q : Nt) : AObj := .box [.int q.mi, .int q.t.lo, .int q.t.hi, .int q.s.lo, .int q.s.hi]
def BGS (H : Heap) (id : Nat) : Option Nt := match H id with
 | .live (.box [.d a, .d b, .d c, .d d, .d e]) => some ⟨HK a, ⟨HK b, HK c⟩, ⟨HK d, HK e⟩⟩
 | _ => none
def C_ck2 : Ctr := { ro := [100], α := N2, xs := λ a => [.d (eNt a.e), .bptr 100 0], L := λ a => [(100, ntB a.q)], val := λ a => .bool (a.e.mi == a.q.mi), keep := λ a => [(100, .live (ntB a.q))] }
def BQA : List AVal -> Heap -> Option (N2 × List (Nat × Nat) × List Nat)
 | [.d d, .bptr id _], H => match BGS H id with
  | some q => some (⟨q, dNt d⟩, [(100, id)], [])
  | none => none
 | _, _ => none
def BPM : Ann := { ann 9 [] with E := [100] }
def BQD (a : N2) : Prop := CH Try.prog BPM AEL (AH AEL) (C_ck2.xs a) (AB (C_ck2.L a)) (C_ck2.val a) (C_ck2.keep a) [] []
abbrev Dx:=@BEq.beq Int (@instBEqOfDecidableEq Int Int.instDecidableEq)
abbrev nN a b:=Dx (EC a) b
attribute [go_sem] Dx nN
theorem BTK (a : N2) : (BQD a) = (And (FD (nN (N2.e a) (EC (N2.q a)))) (NF (EC (N2.q a)) (ES (N2.q a)) (ET (N2.q a)))) := by kernel_rfl
theorem BRV : AJ Try.prog nW (C_ck2.spec BQA) := XP C_ck2 (λ _ => BPM) [] [] AYQ (λ _ => by kernel_rfl) (λ _ => AC) (λ (a : N2) _ => by
 show BQD a; rw [BTK]<;> delta KH BG BJ EC ES ET AR Dx AE AF AY AG FD AX BM CX CY HD NF nN; try simp) (λ _ => YS rfl rfl) _
structure MNc where
 q : Nt
 l : List Nt
def d2Nc : List AVal -> Heap -> Option (MNc × List (Nat × Nat) × List Nat)
 | [y, .fn _ _ [.bptr id _]], H => match sB y H with
  | some (n, g, f) => match BGS H id with
   | some q => some (⟨q, IK n λ i => dNt (g i)⟩, [(100, id)], f)
   | none => none
  | none => none
 | _, _ => none
def A2Nc (a : MNc) : Ann := { ann 19 [(nW, C_ck2.spec BQA)] with E := [100], loops := λ id => if id = 2 then some [{ α := Nat, dflt := 0, T := λ k => ⟨[(0, .d (oA a.l)), (1, .fn (.func nW) [] [.bptr 100 0]), (7, .int a.l.length), (8, .int k)], [(100, .live (ntB a.q))]⟩, inv := λ k => k <= a.l.length /\ Zd (λ i => (gD a.l i).mi == a.q.mi) a.l.length 0 = Zd (λ i => (gD a.l i).mi == a.q.mi) (a.l.length - k) k, meas := λ k => a.l.length - k }] else none }
def C2Nc : Ctr := { ro := [100], α := MNc, xs := λ a => [.d (oA a.l), .fn (.func nW) [] [.bptr 100 0]], L := λ a => [(100, ntB a.q)], val := λ a => .int (Zd (λ i => (gD a.l i).mi == a.q.mi) a.l.length 0), keep := λ a => [(100, .live (ntB a.q))], pre := λ a => [a.l.length < 4611686018427387904 /\ True] }
def V2Nc (a : MNc) : Prop := CH Try.prog (A2Nc a) APB (AH APB) (C2Nc.xs a) (AB (C2Nc.L a)) (C2Nc.val a) (C2Nc.keep a) [] []
abbrev Tj a:=ET (MNc.q a)
abbrev Rt a:=ES (MNc.q a)
abbrev mM a:=EC (MNc.q a)
abbrev TE a:=DU (MNc.l a)
abbrev F7 a b:=nN a (mM b)
abbrev ZB a b:=FE (MNc.l a) b
abbrev Xl a b c:=F7 (ZB a b) c
abbrev DC a (b:Nat->Prop) c d e f g h p:=AK a (AD b) c d e f g h p
abbrev iV a:=BM (Tj a)
abbrev iA a:=BM (Rt a)
abbrev jQ a:=AG (mM a)
abbrev Rd a b c d e f g h:=AK a b c d e f b g h
attribute [go_sem] Tj Rt mM TE F7 ZB Xl DC iV iA jQ Rd
theorem BZB (a : MNc) : (V2Nc a) = (DP (λ i=>SD (DC (BC (TE a)) (λ j=>AU j (TE a) (NF (EC (ZB a j)) (ES (ZB a j)) (ET (ZB a j)))) (IM (TE a)) (BR i) (jQ a) (iA a) (AZ (Rt a)) (iV a) (AZ (Tj a))) i (TE a) (AR (Zd (λ j=>Xl a j a) (TE a) 0) (Zd (λ j=>Xl a j a) (LO (TE a) i) i))) (λ i=>GQ (GZ i (TE a) (AR (Zd (λ j=>Xl a j a) (TE a) 0) (Zd (λ j=>Xl a j a) (LO (TE a) i) i))) i (TE a) (AO (FR i (TE a)) (AG (EC (ZB a i))) (BM (ES (ZB a i))) (XZ (AZ (ES (ZB a i))) (BM (ET (ZB a i))) (ET (ZB a i)) (jQ a) (Rd (iA a) (AZ (Rt a)) (iV a) (AZ (Tj a)) (jQ a) (iA a) (iV a) (AZ (Tj a))))) (DZ (Xl a i a) (AR (Zd (λ j=>Xl a j a) (TE a) 0) (BZ i)) (NF (mM a) (Rt a) (Tj a)) (GN (λ j=>MA (DC (BC (TE a)) (λ k=>AU k (TE a) (NF (EC (ZB a k)) (ES (ZB a k)) (ET (ZB a k)))) (IM (TE a)) (BD j i) (jQ a) (iA a) (AZ (Rt a)) (iV a) (AZ (Tj a))) j (TE a) (AR (Zd (λ k=>Xl a k a) (TE a) 0) (Zd (λ k=>Xl a k a) (LO (TE a) j) j)) i))) (And (AR (Zd (λ j=>Xl a j a) (TE a) 0) (-1)) (NF (mM a) (Rt a) (Tj a))))) := by kernel_rfl
theorem p2Nc (a : MNc) (h : EI (C2Nc.pre a)) : V2Nc a := by
 obtain ⟨h, hp⟩ : a.l.length < 4611686018427387904 /\ True := h
 rw [BZB]<;> delta BG BJ EC MM NO ES ET BW AD BU CL AR BZ DJ EK JH HO KB NL LO DU FE GN Dx AE AF AY AU AG BC AX BM AK CX CY HQ AZ XZ Rd FS DM CN HD GP GU DS FH AO DC CD NF EO JB DZ BD FR IW LB IM HS HB EB GM GZ BR GC DP ZB TE mM GQ ZN Ah MA Tj Rt nN F7 SD Xl iA iV jQ
 simp only [CC, eq_self, implies_true, forall_const]
 refine ⟨⟨0, rfl, Nat.zero_le _, rfl⟩, λ k ⟨h1, h2⟩ => ⟨λ hlt => ?_, λ hge => ?_⟩⟩
 ·have hlt : k < a.l.length := by omega
  refine ⟨⟨by omega, by omega⟩, λ hp => ?_, λ hp => ⟨k + 1, (HY (by omega)).symm, ⟨by omega, ?_⟩, by omega⟩⟩
  ·rw [h2]; exact fI hlt (by simpa using hp)
  ·rw [h2]; exact O9 hlt (by simpa using hp)
 ·rw [h2]; exact qU (by omega)
theorem BYM : AJ Try.prog APL (C2Nc.spec d2Nc) := XP C2Nc A2Nc [] [] BCB (λ _ => by kernel_rfl) (λ _ => AA BRV AC) p2Nc (λ _ => YS rfl rfl) _
def C3Nc : Ctr := { C2Nc with val := λ (a : MNc) => .bool (a.l.any λ x => x.mi == a.q.mi) }
def d3Nc : List AVal -> Heap -> Option (C3Nc.α × List (Nat × Nat) × List Nat) := d2Nc
def A3Nc : Ann := { ann 9 [(APL, C2Nc.spec d2Nc)] with E := [100] }
def V3Nc (a : MNc) : Prop := CH Try.prog A3Nc AQJ (AH AQJ) (C3Nc.xs a) (AB (C3Nc.L a)) (C3Nc.val a) (C3Nc.keep a) [] []
abbrev aY a b:=FA (MNc.l a) (λ i=>ZB b i)
abbrev EW a b c d e f:=And a (AF b c d e f)
attribute [go_sem] aY EW
theorem BWW (a : MNc) : (V3Nc a) = (AE (EW (BW (DU (aY a a)) (TE a)) (AD (λ i=>AU i (DU (aY a a)) (SY (FE (aY a a) i) (ZB a i) (Cd (aY a a) i) (ES (ZB a i)) (Ci (aY a a) i) (ET (ZB a i))))) (jQ a) (iA a) (AZ (Rt a)) (Rd (iV a) (AZ (Tj a)) (jQ a) (iA a) (AZ (Rt a)) (iV a) (DT (DU (aY a a))) IH)) (KH ((@List.any Nt) (MNc.l a) (λ i=>F7 i a)) (As (Zd (λ i=>F7 (FE (aY a a) i) a) (DU (aY a a)) 0))) (NF (mM a) (Rt a) (Tj a))) := by kernel_rfl
theorem BDF {α : Type} [Inhabited α] {p : α -> Bool} {l : List α} : decide (0 <= Zd (λ i => p (gD l i)) l.length 0) = l.any p := by
 rw [Bool.eq_iff_iff, decide_eq_true_eq, ARZ, List.any_eq_true]
 exact ⟨λ ⟨i, _, h1, h2⟩ => ⟨gD l i, TY (by omega), h2⟩, λ ⟨x, hx, h2⟩ => by obtain ⟨i, hi, rfl⟩ := YH hx; exact ⟨i, Nat.zero_le _, by omega, h2⟩⟩
theorem BWT : AJ Try.prog APH (C3Nc.spec d3Nc) := Ctr.spec_ok (C := C3Nc) (λ (a : MNc) h => Hp (A := A3Nc) (ren := []) (fz := []) AZZ (by kernel_rfl) (AA BYM AC) (by
 obtain ⟨h, hp⟩ : a.l.length < 4611686018427387904 /\ True := h
 show V3Nc a; rw [BWW]<;> delta KH rW BG BJ EC ES ET BW AD BU CL AR DU FE JW IH Dx AE FA AF AY AU AG AX BM AK BP CX BN CY AZ Rd EG HD DT NF EP UV SY EW ZB TE mM As Tj Rt nN F7 Ci Cd aY iA iV jQ; simp only [CC, eq_self, implies_true, forall_const, ge_iff_le]
 rw [<- BDF]
 simp [h, TS])) _
end Go.Bal
