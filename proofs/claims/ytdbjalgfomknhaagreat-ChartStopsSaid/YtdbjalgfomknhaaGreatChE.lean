/- Package chart: every. Printed by gench.py. -/
import Derived.Test.YtdbjalgfomknhaaGreatChA0
set_option linter.unusedVariables false
set_option linter.unusedSimpArgs false
namespace Go.Bal
open Go Go.Sym Go.Proofs
def WZ (p : Nat -> Bool) : Nat -> Bool
 | 0 => true
 | n + 1 => WZ p n && p n
theorem Ay {p : Nat -> Bool} : ∀ {n : Nat}, WZ p n = true ↔ ∀ i, i < n -> p i = true
 | 0 => by simp [WZ]
 | n + 1 => by
  simp only [WZ, Bool.and_eq_true, Ay (n := n)]
  constructor
  ·intro h i hi
   by_cases he : i = n
   ·subst he; exact h.2
   ·exact h.1 i (by omega)
  ·exact λ h => ⟨λ i hi => h i (by omega), h n (by omega)⟩
theorem AUA {p : Nat -> Bool} : ∀ {n k : Nat}, (0 <= aN p n k) ↔ ∃ i, k <= i /\ i < k + n /\ p i = true
 | 0, k => by simp [aN]; omega
 | n + 1, k => by
  simp only [aN]
  by_cases h : p k = true
  ·rw [if_pos h]
   constructor
   ·intro _; exact ⟨k, Nat.le_refl _, by omega, h⟩
   ·intro _; omega
  ·rw [if_neg h, AUA (n := n) (k := k + 1)]
   constructor
   ·rintro ⟨i, h1, h2, h3⟩; exact ⟨i, by omega, by omega, h3⟩
   ·rintro ⟨i, h1, h2, h3⟩
    refine ⟨i, ?_, by omega, h3⟩
    by_cases he : i = k
    ·subst he; exact absurd h3 h
    ·omega
theorem BFE {p : Nat -> Bool} {n : Nat} : (!decide (0 <= aN (λ i => !p i) n 0)) = WZ p n := by
 rw [Bool.eq_iff_iff, Ay]
 simp only [Bool.not_eq_true', decide_eq_false_iff_not, AUA, Nat.zero_le, Nat.zero_add, true_and]
 constructor
 ·intro h i hi
  cases hp : p i with
  | true => rfl
  | false => exact (h ⟨i, hi, by simp [hp]⟩).elim
 ·rintro h ⟨i, hi, hp⟩
  rw [h i hi] at hp; cases hp
theorem pY {α : Type} [Inhabited α] {p : α -> Bool} {l : List α} : (!decide (0 <= aN (λ i => !p (gD l i)) l.length 0)) = l.all p := by
 rw [BFE, Bool.eq_iff_iff, Ay, List.all_eq_true]
 exact ⟨λ h x hx => by obtain ⟨i, hi, rfl⟩ := OV hx; exact h i hi, λ h i hi => h _ (HW hi)⟩
def gI (c : Cht) : AObj := .box [.int c.p.lo, .int c.p.hi, .int c.base, .int c.scale, .int c.off, .d (zK c.ms), .d (kK c.ns)]
def Hd (H : Heap) (id : Nat) : Option Cht := match H id with
 | .live (.box [.d a, .d b, .d c, .d d, .d e, .d (.list _ n f _), .d (.list _ m g _)]) => some ⟨⟨HJ a, HJ b⟩, HJ c, HJ d, HJ e, ME n λ i => dMk (f i), ME m λ i => dNt (g i)⟩
 | _ => none
structure ChN where
 q : Cht
 e : Nt
def C_ck1 : Ctr := { ro := [101], α := ChN, xs := λ a => [.d (eNt a.e), .bptr 101 0], L := λ a => [(101, gI a.q)], val := λ a => .bool (RG a.e a.q.ms.length), keep := λ a => [(101, .live (gI a.q))] }
def BSC : List AVal -> Heap -> Option (ChN × List (Nat × Nat) × List Nat)
 | [.d d, .bptr id _], H => match Hd H id with
  | some q => some (⟨q, dNt d⟩, [(101, id)], [])
  | none => none
 | _, _ => none
def BSI : Ann := { ann 9 [(AKS, AYA)] with E := [101] }
def BRA (a : ChN) : Prop := CF Try.prog BSI AFV (AH AFV) (C_ck1.xs a) (AB (C_ck1.L a)) (C_ck1.val a) (C_ck1.keep a) [] []
abbrev ET:=@List.length Mk
abbrev GW:=Cht.ms
abbrev FK:=Cht.p
abbrev HV:=Cht.base
abbrev IB:=Cht.scale
abbrev HK:=Cht.off
abbrev GV:=Mk.pl
abbrev FU:=@gD Mk instInhabitedMk
abbrev HC:=Mk.ht
abbrev DV:=@List.length Nt
abbrev FW:=Cht.ns
abbrev EY:=@gD Nt instInhabitedNt
abbrev AR a b c d e f g h p:=AG a b c d (AG e f g h p)
abbrev CG a b c d e f (g:Nat->Prop) h p:=AR a b c d e f (AF g) h p
abbrev AQ a:=AE (HK a)
abbrev AN a:=AE (IB a)
abbrev AM a:=AE (HV a)
abbrev AL a:=AV (FK a)
abbrev AJ a:=BL (FK a)
abbrev MU a b c d e (f:Nat->Prop) g h:=CG (AJ a) (AL b) (AM c) (AN d) (AQ d) e f g h
abbrev AO a:=DV (FW a)
abbrev DR a:=BM (AO a)
abbrev LV a b (c:Nat->Prop) d:=MU a a a a b c (DR a) d
abbrev AU a:=ET (GW a)
abbrev FQ a b c d:=BA a (AU b) c d
abbrev DD a b:=FU (GW a) b
abbrev CK a b:=HC (DD a b)
abbrev HS a b:=AE (CK a b)
abbrev BV a b:=GV (DD a b)
abbrev HQ a b:=AE (BV a b)
abbrev EO a b:=FQ a b (HQ b a) (HS b a)
abbrev DX a:=BM (AU a)
abbrev IQ a b:=LV a (DX a) (λ i=>EO i a) b
abbrev FX a b c:=AX a (AO b) c
abbrev CX a b c d e f:=AG a b (AW c d) e f
abbrev FC a b c d e:=CX a b c c d e
abbrev HG a b c d e:=FC a (BL b) c d e
abbrev HE a b c d e:=HG a b c (BL d) (AV e)
abbrev CI a b:=EY (FW a) b
abbrev BK a b:=EA (CI a b)
abbrev BD a b:=EB (CI a b)
abbrev BW a b:=EN (CI a b)
abbrev ID a b:=AE (BW a b)
abbrev EI a b:=FX a b (HE (ID b a) (BD b a) (BD b a) (BK b a) (BK b a))
abbrev DI a:=AF (λ i=>EI i a)
abbrev DG a:=IQ a (DI a)
abbrev KF a:=BE (AU a)
abbrev Ie a b:=tC a (KF b)
attribute [go_sem] ET GW FK HV IB HK GV FU HC DV FW EY AR CG AQ AN AM AL AJ MU AO DR LV AU FQ DD CK HS BV HQ EO DX IQ FX CX FC HG HE CI BK BD BW ID EI DI DG KF Ie
theorem BWA (a : ChN) : (BRA a) = (And (JH (Ie (ChN.e a) (ChN.q a)) (Ie (Nt.mk (EN (ChN.e a)) (EB (ChN.e a)) (EA (ChN.e a))) (ChN.q a))) (DG (ChN.q a))) := by kernel_rfl
theorem BVY : AK Try.prog wH (C_ck1.spec BSC) := VV C_ck1 (λ _ => BSI) [] [] BBX (λ _ => by kernel_rfl) (λ _ => AA BGW AC) (λ (a : ChN) _ => by
 show BRA a; rw [BWA]<;> delta JH BI BF tC EN EB EA BY AF CN CO AS BE ET GW FK HV IB HK GV FU HC DV FW EY AD CI AU AG AZ AX AE BM AW BL BD AO AR DD BA BK CX BW BV AJ AQ AV FC CK AN AL HG FX FQ AM HE ID DR CG HS DX HQ KF EO MU EI LV DI IQ DG Ie; simp [wr, WA]) (λ _ => WY rfl rfl) _
def He (s : Span) : Bool := decide (s.lo <= s.hi)
def BHM (x : Span) : Prop := CF Try.prog (ann 8 []) AWN (AH AWN) (xS1 x) (AB []) (.bool (He x)) [] [] []
theorem BPD (x : Span) : (BHM x) = (JH (He x) (hd7 (BI x) (BF x))) := by kernel_rfl
def AMI := pD dS1 λ x => .bool (He x)
theorem BNO : AK Try.prog ANT AMI := Ki xS1 hS1 λ x _ => Pn (A := ann 8 []) (ren := []) (fz := []) BPX (by kernel_rfl) AC (by
 show BHM x; rw [BPD]<;> delta JH hd7 BI BF; try simp [He])
def BGS (x : Span) : Prop := CF Try.prog (ann 8 []) AWM (AH AWM) (xS1 x) (AB []) (.bool (He x)) [] [] []
theorem BMG (x : Span) : (BGS x) = (JH (He x) (hd7 (BI x) (BF x))) := by kernel_rfl
theorem BON : AK Try.prog AQC AMI := Ki xS1 hS1 λ x _ => Pn (A := ann 8 []) (ren := []) (fz := []) BOA (by kernel_rfl) AC (by
 show BGS x; rw [BMG]<;> delta JH hd7 BI BF; try simp [He])
def LXNr (q : Cht) : List (Nat × AObj) := [(101, gI q)]
def KXNr (q : Cht) : List (Nat × HCell) := [(101, .live (gI q))]
def fvNr (q : Cht) : AVal := .fn (.func wH) [] [.bptr 101 0]
def BNr (q : Cht) : AObj := .box [fvNr q]
structure ENr where
 q : Cht
 e : Nt
structure MNr where
 q : Cht
 l : List Nt
def C1Nr : Ctr := { ro := [100, 101], α := ENr, xs := λ a => [.d (eNt a.e), .bptr 100 0], L := λ a => (100, BNr a.q) :: LXNr a.q, val := λ a => .bool (!RG a.e a.q.ms.length), keep := λ a => (100, .live (BNr a.q)) :: KXNr a.q }
def d1Nr : List AVal -> Heap -> Option (ENr × List (Nat × Nat) × List Nat)
 | [.d d, .bptr id _], H => match H id with
  | .live (.box [.fn _ _ [.bptr j _]]) => match Hd H j with
   | some q => some (⟨q, dNt d⟩, [(100, id), (101, j)], [])
   | none => none
  | _ => none
 | _, _ => none
def A1Nr : Ann := { ann 8 [(wH, C_ck1.spec BSC)] with E := [100, 101] }
def V1Nr (a : ENr) : Prop := CF Try.prog A1Nr BJE (AH BJE) (C1Nr.xs a) (AB (C1Nr.L a)) (C1Nr.val a) (C1Nr.keep a) [] []
abbrev hd70:=ENr.e
abbrev qM:=ENr.q
abbrev LD:=@ME Nt
abbrev TV a b c d e:=AD (AD a b c) d e
abbrev GN a b:=(@ME Mk) a (λ i=>FU b i)
abbrev GK a b:=GN a (GW b)
abbrev JP a b:=GK (AU a) b
abbrev EH a:=ET (JP a a)
abbrev Lt a:=BE (EH a)
abbrev AEB a b c d:=HG a b b c d
abbrev EX a b c d e (f:Nat->Prop) g h p:=AR a b c d e (AF f) g h p
abbrev UJ a b (c:Nat->Prop) d e:=MU a a a a b c d e
abbrev FT a (b:Nat->Nt):=LD (DV a) b
abbrev FA a:=FT (FW a) (λ i=>CI a i)
abbrev FD a:=DV (FA a)
abbrev PQ a b:=BY a (FD b)
abbrev FJ a:=PQ (AO a) a
abbrev HY a b c d:=FQ a b (AS (BV b a) c) (AS (CK b a) d)
abbrev JD a:=JP a a
abbrev JO a b:=FU (JD a) b
abbrev IW a b:=HC (JO a b)
abbrev JA a b:=GV (JO a b)
abbrev GD a b:=HY a b (JA b a) (IW b a)
abbrev ND a b:=BY a (EH b)
abbrev FI a:=ND (AU a) a
abbrev LX a b:=UJ a (FI a) (λ i=>GD i a) (FJ a) b
abbrev FO a b c d e f g:=CX a (BJ b c) d e f g
abbrev FH a b c d e:=FO a b c b c (BJ d e) (AW d e)
abbrev IP a b c d e f g:=FX a b (FH c (BD d e) f (BK d e) g)
abbrev II a b:=EY (FA a) b
abbrev IV a b:=EA (II a b)
abbrev JE a b:=EB (II a b)
abbrev MC a b c:=AS (BW a b) c
abbrev NM a b:=EN (II a b)
abbrev CQ a b:=IP a b (MC b a (NM b a)) b a (JE b a) (IV b a)
abbrev JS a:=AF (λ i=>CQ i a)
abbrev DU a b c d e f g:=AX a b (FH c d e f g)
abbrev FZ a b c d e f g h:=DU a b c d (BD e f) g (BK e h)
abbrev GC a b c d e f:=FZ a b c d e a f a
abbrev IS a b c d e f g h:=GC a (FD b) c (JE d e) f (IV g h)
abbrev ES a b:=AS (EN a) b
abbrev EV a b c:=ES a (BW b c)
abbrev BG a b:=IS a b (EV (II b a) b a) b a b b a
abbrev FN a:=AF (λ i=>BG i a)
abbrev EZ a b:=BY a (AO b)
abbrev BN a:=EZ (FD a) a
abbrev EW a b c d e f:=BA a b (AS c d) (AS e f)
abbrev GI a b c d e f g:=EW a b c (BV d e) f (CK d g)
abbrev GA a b c d e:=GI a b c d a e a
abbrev BH a b:=GA a (EH b) (JA b a) b (IW b a)
abbrev HD a b:=BY a (AU b)
abbrev BP a:=HD (EH a) a
abbrev VJ a:=AE (EN a)
attribute [go_sem] hd70 qM LD TV GN GK JP EH Lt AEB EX UJ FT FA FD PQ FJ HY JD JO IW JA GD ND FI LX FO FH IP II IV JE MC NM CQ JS DU FZ GC IS ES EV BG FN EZ BN EW GI GA BH HD BP VJ
theorem BZP (a : ENr) : (V1Nr a) = (TV (VJ (hd70 a)) (BL (EB (hd70 a))) (AEB (AV (EB (hd70 a))) (EA (hd70 a)) (AJ (qM a)) (EX (AL (qM a)) (AM (qM a)) (AN (qM a)) (AQ (qM a)) (BP (qM a)) (λ i=>BH i (qM a)) (BN (qM a)) (FN (qM a)) (LX (qM a) (JS (qM a))))) (JH (not (Ie (hd70 a) (qM a))) (not (tC (Nt.mk (EN (hd70 a)) (EB (hd70 a)) (EA (hd70 a))) (Lt (qM a))))) (DG (qM a))) := by kernel_rfl
theorem CBL : AK Try.prog ASP (C1Nr.spec d1Nr) := VV C1Nr (λ _ => A1Nr) [] [] BUY (λ _ => by kernel_rfl) (λ _ => AA BVY AC) (λ (a : ENr) h => by
 show V1Nr a; rw [BZP]<;> delta JH BI BF tC EN EB EA BY AF CN CO AS BE ET GW FK HV IB HK GV FU HC DV FW EY hd70 qM LD AD CI AU FT GN AG GK AZ AX AE FA BM AW JP BL BD AO AR DD BA BK II BO BJ CX BW BV AJ AQ JD AV EH FC CK AN AL JE JO HG FX FQ FO AM IV FD HE ID DR ES CG IW HS DX JA EZ EV AEB FH HQ KF EW DU FZ GI BN GA GC EO HD PQ MU IS ND MC NM EX BP FJ FI EI UJ LV BH BG IP DI IQ HY DG CQ GD VJ FN Ie JS LX TV Lt; try simp [wr, WA]) (λ _ => WY rfl rfl) _
def d2Nr : List AVal -> Heap -> Option (MNr × List (Nat × Nat) × List Nat)
 | [y, .fn _ _ [.bptr id _]], H => match xU y H with
  | some (n, g, f) => match H id with
   | .live (.box [.fn _ _ [.bptr j _]]) => match Hd H j with
    | some q => some (⟨q, ME n λ i => dNt (g i)⟩, [(100, id), (101, j)], f)
    | none => none
   | _ => none
  | none => none
 | _, _ => none
def A2Nr (a : MNr) : Ann := { ann 19 [(ASP, C1Nr.spec d1Nr)] with E := [100, 101], loops := λ id => if id = 2 then some [{ α := Nat, dflt := 0, T := λ k => ⟨[(0, .d (kK a.l)), (1, .fn (.func ASP) [] [.bptr 100 0]), (7, .int a.l.length), (8, .int k)], (100, .live (BNr a.q)) :: KXNr a.q⟩, inv := λ k => k <= a.l.length /\ aN (λ i => !RG (gD a.l i) a.q.ms.length) a.l.length 0 = aN (λ i => !RG (gD a.l i) a.q.ms.length) (a.l.length - k) k, meas := λ k => a.l.length - k }] else none }
def PNr (a : MNr) : List Prop := [a.l.length < 4611686018427387904 /\ True]
def C2Nr : Ctr := { ro := [100, 101], α := MNr, xs := λ a => [.d (kK a.l), .fn (.func ASP) [] [.bptr 100 0]], L := λ a => (100, BNr a.q) :: LXNr a.q, val := λ a => .int (aN (λ i => !RG (gD a.l i) a.q.ms.length) a.l.length 0), keep := λ a => (100, .live (BNr a.q)) :: KXNr a.q, pre := PNr }
def V2Nr (a : MNr) : Prop := CF Try.prog (A2Nr a) ASC (AH ASC) (C2Nr.xs a) (AB (C2Nr.L a)) (C2Nr.val a) (C2Nr.keep a) [] []
abbrev HA:=@Exists Nat
abbrev PZ:=MNr.q
abbrev HZ a (b:Nat->Prop):=And a (AF b)
abbrev FV (a:Nat->Prop) (b:Nat->Prop):=HZ (HA a) b
abbrev ED a b c d:=EC a (And b c) d
abbrev QV a b c d e:=ED (JL a b) c d e
abbrev IR a b c d e f:=CN a (QV b c d e f)
abbrev JF a b c d e f:=IR a (BE b) c d e f
abbrev OS a b c d e f:=JF a b (BE c) d e f
abbrev Zr a:=DG (PZ a)
abbrev Uw (a:Nat->Bool) b c:=aN (λ i=>not (a i)) b c
abbrev Fs (a:Nat->Bool) b:=Uw a b 0
abbrev Ke (a:Nat->Bool) b c:=AS (Fs a b) c
abbrev QY a:=DV (MNr.l a)
abbrev A4 a b:=Ie a (PZ b)
abbrev Kn a b:=EY (MNr.l a) b
abbrev Pq a b c:=A4 (Kn a b) c
abbrev DW a b c d e:=AD a b (MQ c d e)
abbrev Ar (a:Nat->Bool) b (c:Nat->Bool) d e:=Ke a b (Uw c (LS b d) e)
abbrev PX a b c:=HE a b b c c
abbrev Um a b:=EB (Kn a b)
attribute [go_sem] HA PZ HZ FV ED QV IR JF OS Zr Uw Fs Ke QY A4 Kn Pq DW Ar PX Um
theorem CAZ (a : MNr) : (V2Nr a) = (FV (λ i=>AD (AG (BM (QY a)) (AF (λ j=>AX j (QY a) (PX (VJ (Kn a j)) (Um a j) (EA (Kn a j))))) (FS (QY a)) (BZ i) (Zr a)) (EU i (QY a)) (Ar (λ j=>Pq a j a) (QY a) (λ j=>Pq a j a) i i)) (λ i=>OS (IH i (QY a) (Ar (λ j=>Pq a j a) (QY a) (λ j=>Pq a j a) i i)) i (QY a) (FF i (QY a) (AD (VJ (Kn a i)) (BL (Um a i)) (AEB (AV (Um a i)) (EA (Kn a i)) (AJ (PZ a)) (EX (AL (PZ a)) (AM (PZ a)) (AN (PZ a)) (AQ (PZ a)) (BP (PZ a)) (λ j=>BH j (PZ a)) (BN (PZ a)) (FN (PZ a)) (LX (PZ a) (JS (PZ a))))))) (ED (not (tC (Nt.mk (EN (Kn a i)) (Um a i) (EA (Kn a i))) (Lt (PZ a)))) (Ke (λ j=>Pq a j a) (QY a) (BE i)) (Zr a) (HA (λ j=>DW (AG (BM (QY a)) (AF (λ k=>AX k (QY a) (PX (VJ (Kn a k)) (Um a k) (EA (Kn a k))))) (FS (QY a)) (BR j i) (Zr a)) (IH j (QY a) (Ar (λ k=>Pq a k a) (QY a) (λ k=>Pq a k a) j j)) (QY a) j i))) (And (Ke (λ j=>Pq a j a) (QY a) (-1)) (Zr a)))) := by kernel_rfl
theorem p2Nr (a : MNr) (h : EM (PNr a)) : V2Nr a := by
 obtain ⟨h, hp⟩ : a.l.length < 4611686018427387904 /\ True := h
 rw [CAZ]<;> delta BI BF tC EN MM ON EB EA BY AF CN CO AS BE EU EC JL FY MN NT LS ET GW FK HV IB HK GV FU HC DV FW EY LD HA PZ AD CI AU FT GN AG GK AZ AX AE FA BM AW JP BL BD AO AR DD BA BK II BO BJ CX HI BW BV AJ AQ JD AV EH FC CK AN AL GH JE JO HG FX FQ FO AM IV FD HE DK ID DR ES BX CG DO BC IW HS DX HH JA EZ EV AEB PX FH HQ DZ KF EW DU JB ED BR FZ GI BN GA GC EO HD LG FS IH PQ MU IS ND MC JM NM EX RV Kn Uw QV BP MQ FJ FI EI UJ LV BH BG IP DI HZ IR BZ DW IQ HY TK Fs FV DG CQ GD QY VJ FF JF Ke FN Ie JS LX A4 OS Pq Ar Um Zr Lt
 simp only [CC, eq_self, implies_true, forall_const]
 refine ⟨⟨0, rfl, Nat.zero_le _, rfl⟩, λ k ⟨h1, h2⟩ => ⟨λ hlt => ?_, λ hge => ?_⟩⟩
 ·have hlt : k < a.l.length := by omega
  refine ⟨⟨by omega, by omega⟩, λ hp => ?_, λ hp => ⟨k + 1, (HL (by omega)).symm, ⟨by omega, ?_⟩, by omega⟩⟩
  ·rw [h2]; exact jI hlt (by simpa using hp)
  ·rw [h2]; exact ADT hlt (by simpa using hp)
 ·rw [h2]; exact wD (by omega)
theorem CBJ : AK Try.prog ATA (C2Nr.spec d2Nr) := VV C2Nr A2Nr [] [] BLD (λ _ => by kernel_rfl) (λ _ => AA CBL AC) p2Nr (λ _ => WY rfl rfl) _
def C3Nr : Ctr := { C2Nr with val := λ (a : MNr) => .bool (decide (aN (λ i => !RG (gD a.l i) a.q.ms.length) a.l.length 0 >= 0)) }
def d3Nr : List AVal -> Heap -> Option (C3Nr.α × List (Nat × Nat) × List Nat) := d2Nr
def A3Nr : Ann := { ann 9 [(ATA, C2Nr.spec d2Nr)] with E := [100, 101] }
def V3Nr (a : MNr) : Prop := CF Try.prog A3Nr ARR (AH ARR) (C3Nr.xs a) (AB (C3Nr.L a)) (C3Nr.val a) (C3Nr.keep a) [] []
abbrev FL:=True
abbrev Es a:=jA a 0
abbrev UK (a:Nat->Bool) b:=Es (Fs a b)
abbrev Qy a:=FT (MNr.l a) (λ i=>Kn a i)
abbrev Vm a:=DV (Qy a)
abbrev JJ a b c d e (f:Nat->Prop) g h p:=EX a (AQ b) c d e f g h p
abbrev HR a b c d (e:Nat->Prop) f (g:Nat->Prop) h p:=CG a b c d (AF e) f g h p
abbrev LM a b c (d:Nat->Prop) e (f:Nat->Prop) g h:=HR (AM a) (AN b) (AQ b) c d e f g h
abbrev HB a b (c:Nat->Prop) d (e:Nat->Prop) f g:=LM a a b c d e f g
abbrev EQ a:=CO a 4611686018427387904
abbrev HM a:=AF (λ i=>BH i a)
abbrev By a b:=EA (EY a b)
abbrev Ca a b:=EB (EY a b)
abbrev Xb a b:=ES a (EN b)
attribute [go_sem] FL Es UK Qy Vm JJ HR LM HB EQ HM By Ca Xb
theorem CAM (a : MNr) : (V3Nr a) = (CE (BY (Vm a) (QY a)) (FC (AF (λ i=>DU i (Vm a) (Xb (EY (Qy a) i) (Kn a i)) (Ca (Qy a) i) (Um a i) (By (Qy a) i) (EA (Kn a i)))) (AJ (PZ a)) (FK (PZ a)) (AM (PZ a)) (JJ (AN (PZ a)) (PZ a) (BP (PZ a)) (HM (PZ a)) (BN (PZ a)) (λ i=>BG i (PZ a)) (AJ (PZ a)) (AL (PZ a)) (HB (PZ a) (FI (PZ a)) (λ i=>GD i (PZ a)) (FJ (PZ a)) (λ i=>CQ i (PZ a)) (EQ (Vm a)) FL))) (JH (UK (λ i=>Pq a i a) (QY a)) (UK (λ i=>tC (EY (Qy a) i) (Lt (PZ a))) (Vm a))) (Zr a)) := by kernel_rfl
theorem CAU : AK Try.prog AQH (C3Nr.spec d3Nr) := Ctr.spec_ok (C := C3Nr) (λ (a : MNr) h => Pn (A := A3Nr) (ren := []) (fz := []) BKR (by kernel_rfl) (AA CBJ AC) (by
 obtain ⟨h, hp⟩ : a.l.length < 4611686018427387904 /\ True := h
 show V3Nr a; rw [CAM]<;> delta JH jA BI BF tC EN EB EA BY AF CN CO AS BE ET GW FK HV IB HK GV FU HC DV FW EY LD PZ FL AD CI AU FT GN AG GK AZ AX AE FA BM AW JP BL BD AO AR DD BA BK II BO BJ CX BW BV AJ AQ JD AV EH FC CK AN AL JE JO HG FX FQ FO AM IV FD HE ID DR ES CG IW HS DX JA CE EZ EV EQ FH HQ KF EW DU HR FZ GI BN GA GC EO HD PQ MU IS ND MC NM EX Kn Uw BP FJ FI EI LV BH BG LM IP DI HB IQ HY Fs DG CQ GD QY HM Ie JJ Xb Es Qy UK A4 By Ca Vm Pq Um Zr Lt; simp [h, WA])) _
def d4Nr : List AVal -> Heap -> Option (MNr × List (Nat × Nat) × List Nat)
 | [y, .fn _ _ [.bptr j _]], H => match xU y H with
  | some (n, g, f) => match Hd H j with
   | some q => some (⟨q, ME n λ i => dNt (g i)⟩, [(101, j)], f)
   | none => none
  | none => none
 | _, _ => none
def A4Nr : Ann := { ann 9 [(AQH, C3Nr.spec d3Nr)] with E := [101] }
def C4Nr : Ctr := { ro := [101], α := MNr, xs := λ a => [.d (kK a.l), fvNr a.q], L := λ a => LXNr a.q, val := λ a => .bool (a.l.all λ x => RG x a.q.ms.length), keep := λ a => KXNr a.q, pre := PNr }
def V4Nr (a : MNr) : Prop := CF Try.prog A4Nr F_eN (AH F_eN) (C4Nr.xs a) (AB (C4Nr.L a)) (C4Nr.val a) (C4Nr.keep a) [] []
abbrev hd80:=@List.all Nt
attribute [go_sem] hd80
theorem CAO (a : MNr) : (V4Nr a) = (CE (BY (Vm a) (QY a)) (FC (AF (λ i=>DU i (Vm a) (Xb (EY (Qy a) i) (Kn a i)) (Ca (Qy a) i) (Um a i) (By (Qy a) i) (EA (Kn a i)))) (AJ (PZ a)) (FK (PZ a)) (AM (PZ a)) (JJ (AN (PZ a)) (PZ a) (BP (PZ a)) (HM (PZ a)) (BN (PZ a)) (λ i=>BG i (PZ a)) (AJ (PZ a)) (AL (PZ a)) (HB (PZ a) (FI (PZ a)) (λ i=>GD i (PZ a)) (FJ (PZ a)) (λ i=>CQ i (PZ a)) (EQ (Vm a)) FL))) (JH (hd80 (MNr.l a) (λ i=>A4 i a)) (not (UK (λ i=>tC (EY (Qy a) i) (Lt (PZ a))) (Vm a)))) (Zr a)) := by kernel_rfl
theorem CBE (a : MNr) (h : EM (PNr a)) : FnT Try.prog n_eN (C4Nr.xs a) (AB (C4Nr.L a)) (C4Nr.val a) (C4Nr.keep a) := Pn (A := A4Nr) (ren := []) (fz := []) BZC (by kernel_rfl) (AA CAU AC) (by
 have h' : a.l.length < 4611686018427387904 /\ True := h
 show V4Nr a; rw [CAO]<;> delta JH jA BI BF tC EN EB EA BY AF CN CO AS BE ET GW FK HV IB HK GV FU HC DV FW EY LD PZ FL hd80 AD CI AU FT GN AG GK AZ AX AE FA BM AW JP BL BD AO AR DD BA BK II BO BJ CX BW BV AJ AQ JD AV EH FC CK AN AL JE JO HG FX FQ FO AM IV FD HE ID DR ES CG IW HS DX JA CE EZ EV EQ FH HQ KF EW DU HR FZ GI BN GA GC EO HD PQ MU IS ND MC NM EX Kn Uw BP FJ FI EI LV BH BG LM IP DI HB IQ HY Fs DG CQ GD QY HM Ie JJ Xb Es Qy UK A4 By Ca Vm Um Zr Lt; simp only [CC, eq_self, implies_true, forall_const, ge_iff_le]
 rw [<- pY]
 exact ⟨h'.1, rfl⟩)
theorem CAQ : AK Try.prog n_eN (C4Nr.spec d4Nr) := Ctr.spec_ok (C := C4Nr) CBE _
def fvSa (q : One) : AVal := .fn (.func ANT) [] []
def BSa (q : One) : AObj := .box [fvSa q]
structure ESa where
 q : One
 e : Span
structure MSa where
 q : One
 l : List Span
def C1Sa : Ctr := { ro := [100], α := ESa, xs := λ a => [.d (IK a.e), .bptr 100 0], L := λ a => (100, BSa a.q) :: [], val := λ a => .bool (!He a.e), keep := λ a => (100, .live (BSa a.q)) :: [] }
def d1Sa : List AVal -> Heap -> Option (ESa × List (Nat × Nat) × List Nat)
 | [.d d, .bptr id _], H => some (⟨default, La d⟩, [(100, id)], [])
 | _, _ => none
def A1Sa : Ann := { ann 8 [(ANT, AMI)] with E := [100] }
def V1Sa (a : ESa) : Prop := CF Try.prog A1Sa AQX (AH AQX) (C1Sa.xs a) (AB (C1Sa.L a)) (C1Sa.val a) (C1Sa.keep a) [] []
abbrev GQ a:=JH a a
attribute [go_sem] GQ
theorem BZE (a : ESa) : (V1Sa a) = (GQ (not (He (ESa.e a)))) := by kernel_rfl
theorem CBV : AK Try.prog zA (C1Sa.spec d1Sa) := VV C1Sa (λ _ => A1Sa) [] [] BFO (λ _ => by kernel_rfl) (λ _ => AA BNO AC) (λ (a : ESa) h => by
 show V1Sa a; rw [BZE]<;> delta JH GQ; try simp [wr, WA]) (λ _ => WY rfl rfl) _
def d2Sa : List AVal -> Heap -> Option (MSa × List (Nat × Nat) × List Nat)
 | [y, .fn _ _ [.bptr id _]], H => match xU y H with
  | some (n, g, f) => some (⟨default, ME n λ i => La (g i)⟩, [(100, id)], f)
  | none => none
 | _, _ => none
def A2Sa (a : MSa) : Ann := { ann 19 [(zA, C1Sa.spec d1Sa)] with E := [100], loops := λ id => if id = 2 then some [{ α := Nat, dflt := 0, T := λ k => ⟨[(0, .d (DC a.l)), (1, .fn (.func zA) [] [.bptr 100 0]), (7, .int a.l.length), (8, .int k)], (100, .live (BSa a.q)) :: []⟩, inv := λ k => k <= a.l.length /\ aN (λ i => !He (gD a.l i)) a.l.length 0 = aN (λ i => !He (gD a.l i)) (a.l.length - k) k, meas := λ k => a.l.length - k }] else none }
def PSa (a : MSa) : List Prop := [a.l.length < 4611686018427387904 /\ True]
def C2Sa : Ctr := { ro := [100], α := MSa, xs := λ a => [.d (DC a.l), .fn (.func zA) [] [.bptr 100 0]], L := λ a => (100, BSa a.q) :: [], val := λ a => .int (aN (λ i => !He (gD a.l i)) a.l.length 0), keep := λ a => (100, .live (BSa a.q)) :: [], pre := PSa }
def V2Sa (a : MSa) : Prop := CF Try.prog (A2Sa a) ASX (AH ASX) (C2Sa.xs a) (AB (C2Sa.L a)) (C2Sa.val a) (C2Sa.keep a) [] []
abbrev Vk:=MSa.l
abbrev WJ a:=EL (Vk a)
abbrev vV a b:=He (KA a b)
abbrev Lr a b:=vV (Vk a) b
abbrev NG a b (c:Nat->Prop):=EC a b (HA c)
abbrev VQ a b c d e:=CE a (DK b c) d e
abbrev WB a b c d e:=VQ (JM a) b c d e
abbrev TH a b c d e:=WB a (BE b) c d e
attribute [go_sem] Vk WJ vV Lr NG VQ WB TH
theorem BZW (a : MSa) : (V2Sa a) = (FV (λ i=>CE (NO (Vk a)) (AD (LW (Vk a)) (FS (WJ a)) (BZ i)) (EU i (WJ a)) (Ar (λ j=>Lr a j) (WJ a) (λ j=>Lr a j) i i)) (λ i=>OS (IH i (WJ a) (Ar (λ j=>Lr a j) (WJ a) (λ j=>Lr a j) i i)) i (WJ a) (TH i i (WJ a) (On (Vk a) i) (AV (KA (Vk a) i))) (NG (not (Lr a i)) (Ke (λ j=>Lr a j) (WJ a) (BE i)) (λ j=>GM (NO (Vk a)) (AD (LW (Vk a)) (FS (WJ a)) (BR j i)) (IH j (WJ a) (Ar (λ k=>Lr a k) (WJ a) (λ k=>Lr a k) j j)) (WJ a) j i)) (Ke (λ j=>Lr a j) (WJ a) (-1)))) := by kernel_rfl
theorem p2Sa (a : MSa) (h : EM (PSa a)) : V2Sa a := by
 obtain ⟨h, hp⟩ : a.l.length < 4611686018427387904 /\ True := h
 rw [BZW]<;> delta BI BF MM ON BY EL AF CN CO AS KA BE EU EC JL FY MN NT LS HA Vk AD AZ AX AE BM AW BL BA HI AV GH DK BX DO HH CE OJ DZ JB ED BR LG FS IH NO JM Uw YT On QV VQ MQ HZ IR BZ XY GM Fs FV LW JF vV Ke WJ WB NG Lr OS TH Ar
 simp only [CC, eq_self, implies_true, forall_const]
 refine ⟨⟨0, rfl, Nat.zero_le _, rfl⟩, λ k ⟨h1, h2⟩ => ⟨λ hlt => ?_, λ hge => ?_⟩⟩
 ·have hlt : k < a.l.length := by omega
  refine ⟨⟨by omega, by omega⟩, λ hp => ?_, λ hp => ⟨k + 1, (HL (by omega)).symm, ⟨by omega, ?_⟩, by omega⟩⟩
  ·rw [h2]; exact jI hlt (by simpa using hp)
  ·rw [h2]; exact ADT hlt (by simpa using hp)
 ·rw [h2]; exact wD (by omega)
theorem BYX : AK Try.prog ATF (C2Sa.spec d2Sa) := VV C2Sa A2Sa [] [] BDV (λ _ => by kernel_rfl) (λ _ => AA CBV AC) p2Sa (λ _ => WY rfl rfl) _
def C3Sa : Ctr := { C2Sa with val := λ (a : MSa) => .bool (decide (aN (λ i => !He (gD a.l i)) a.l.length 0 >= 0)) }
def d3Sa : List AVal -> Heap -> Option (C3Sa.α × List (Nat × Nat) × List Nat) := d2Sa
def A3Sa : Ann := { ann 9 [(ATF, C2Sa.spec d2Sa)] with E := [100] }
def V3Sa (a : MSa) : Prop := CF Try.prog A3Sa ASJ (AH ASJ) (C3Sa.xs a) (AB (C3Sa.L a)) (C3Sa.val a) (C3Sa.keep a) [] []
abbrev Oo:=@ME Span
abbrev GP a b c d e:=BC a (AD b c d) e
abbrev Xx a (b:Nat->Span):=Oo (EL a) b
abbrev Af a:=Xx a (λ i=>KA a i)
abbrev KZ a:=EL (Af a)
abbrev Jv a b:=KA (Af a) b
abbrev MX a b c d:=OJ a b (BJ c d) (AW c d)
abbrev WH a b c d e:=MX a b c (KA d e)
abbrev PL a b c d:=WH a b c d a
abbrev Io a b c:=PL a (Af b) c b
abbrev PG a b c:=Io a b (Jv b c)
abbrev Bz a b:=BY (KZ a) b
attribute [go_sem] Oo GP Xx Af KZ Jv MX WH PL Io PG Bz
theorem CAP (a : MSa) : (V3Sa a) = (GP (Bz (Vk a) (WJ a)) (AF (λ i=>PG i (Vk a) i)) (EQ (KZ (Vk a))) FL (JH (UK (λ i=>Lr a i) (WJ a)) (UK (λ i=>He (Jv (Vk a) i)) (KZ (Vk a))))) := by kernel_rfl
theorem CCB : AK Try.prog ASS (C3Sa.spec d3Sa) := Ctr.spec_ok (C := C3Sa) (λ (a : MSa) h => Pn (A := A3Sa) (ren := []) (fz := []) BJZ (by kernel_rfl) (AA BYX AC) (by
 obtain ⟨h, hp⟩ : a.l.length < 4611686018427387904 /\ True := h
 show V3Sa a; rw [CAP]<;> delta JH jA BI BF BY EL AF CN CO AS KA FL Vk Oo AD AZ AX AW BA BO BJ Xx BC OJ EQ Af KZ Jv Uw MX Fs WH PL GP vV WJ Es Bz Io UK PG Lr; simp [h, WA])) _
def d4Sa : List AVal -> Heap -> Option (MSa × List (Nat × Nat) × List Nat)
 | [y, .fn _ _ _], H => match xU y H with
  | some (n, g, f) => some (⟨default, ME n λ i => La (g i)⟩, [], f)
  | none => none
 | _, _ => none
def A4Sa : Ann := { ann 9 [(ASS, C3Sa.spec d3Sa)] with E := [] }
def C4Sa : Ctr := { ro := [], α := MSa, xs := λ a => [.d (DC a.l), fvSa a.q], L := λ a => [], val := λ a => .bool (a.l.all λ x => He x), keep := λ a => [], pre := PSa }
def V4Sa (a : MSa) : Prop := CF Try.prog A4Sa F_eS (AH F_eS) (C4Sa.xs a) (AB (C4Sa.L a)) (C4Sa.val a) (C4Sa.keep a) [] []
abbrev kT:=@List.all Span
attribute [go_sem] kT
theorem CAI (a : MSa) : (V4Sa a) = (GP (Bz (Vk a) (WJ a)) (AF (λ i=>PG i (Vk a) i)) (EQ (KZ (Vk a))) FL (JH (kT (Vk a) He) (not (UK (λ i=>He (Jv (Vk a) i)) (KZ (Vk a)))))) := by kernel_rfl
theorem BQQ (a : MSa) (h : EM (PSa a)) : FnT Try.prog n_eS (C4Sa.xs a) (AB (C4Sa.L a)) (C4Sa.val a) (C4Sa.keep a) := Pn (A := A4Sa) (ren := []) (fz := []) BSO (by kernel_rfl) (AA CCB AC) (by
 have h' : a.l.length < 4611686018427387904 /\ True := h
 show V4Sa a; rw [CAI]<;> delta JH jA BI BF BY EL AF CN CO AS KA FL Vk Oo kT AD AZ AX AW BA BO BJ Xx BC OJ EQ Af KZ Jv Uw MX Fs WH PL GP WJ Es Bz Io UK PG; simp only [CC, eq_self, implies_true, forall_const, ge_iff_le]
 rw [<- pY]
 exact ⟨h'.1, rfl⟩)
theorem CAS : AK Try.prog n_eS (C4Sa.spec d4Sa) := Ctr.spec_ok (C := C4Sa) BQQ _
def fvSn (q : One) : AVal := .fn (.func AQC) [] []
def BSn (q : One) : AObj := .box [fvSn q]
structure ESn where
 q : One
 e : Span
structure MSn where
 q : One
 l : List Span
def C1Sn : Ctr := { ro := [100], α := ESn, xs := λ a => [.d (IK a.e), .bptr 100 0], L := λ a => (100, BSn a.q) :: [], val := λ a => .bool (!He a.e), keep := λ a => (100, .live (BSn a.q)) :: [] }
def d1Sn : List AVal -> Heap -> Option (ESn × List (Nat × Nat) × List Nat)
 | [.d d, .bptr id _], H => some (⟨default, La d⟩, [(100, id)], [])
 | _, _ => none
def A1Sn : Ann := { ann 8 [(AQC, AMI)] with E := [100] }
def V1Sn (a : ESn) : Prop := CF Try.prog A1Sn AQX (AH AQX) (C1Sn.xs a) (AB (C1Sn.L a)) (C1Sn.val a) (C1Sn.keep a) [] []
theorem CBN (a : ESn) : (V1Sn a) = (GQ (not (He (ESn.e a)))) := by kernel_rfl
theorem CCG : AK Try.prog zA (C1Sn.spec d1Sn) := VV C1Sn (λ _ => A1Sn) [] [] BFO (λ _ => by kernel_rfl) (λ _ => AA BON AC) (λ (a : ESn) h => by
 show V1Sn a; rw [CBN]<;> delta JH GQ; try simp [wr, WA]) (λ _ => WY rfl rfl) _
def d2Sn : List AVal -> Heap -> Option (MSn × List (Nat × Nat) × List Nat)
 | [y, .fn _ _ [.bptr id _]], H => match xU y H with
  | some (n, g, f) => some (⟨default, ME n λ i => La (g i)⟩, [(100, id)], f)
  | none => none
 | _, _ => none
def A2Sn (a : MSn) : Ann := { ann 19 [(zA, C1Sn.spec d1Sn)] with E := [100], loops := λ id => if id = 2 then some [{ α := Nat, dflt := 0, T := λ k => ⟨[(0, .d (DC a.l)), (1, .fn (.func zA) [] [.bptr 100 0]), (7, .int a.l.length), (8, .int k)], (100, .live (BSn a.q)) :: []⟩, inv := λ k => k <= a.l.length /\ aN (λ i => !He (gD a.l i)) a.l.length 0 = aN (λ i => !He (gD a.l i)) (a.l.length - k) k, meas := λ k => a.l.length - k }] else none }
def PSn (a : MSn) : List Prop := [a.l.length < 4611686018427387904 /\ True]
def C2Sn : Ctr := { ro := [100], α := MSn, xs := λ a => [.d (DC a.l), .fn (.func zA) [] [.bptr 100 0]], L := λ a => (100, BSn a.q) :: [], val := λ a => .int (aN (λ i => !He (gD a.l i)) a.l.length 0), keep := λ a => (100, .live (BSn a.q)) :: [], pre := PSn }
def V2Sn (a : MSn) : Prop := CF Try.prog (A2Sn a) ASX (AH ASX) (C2Sn.xs a) (AB (C2Sn.L a)) (C2Sn.val a) (C2Sn.keep a) [] []
abbrev Wu:=MSn.l
abbrev WQ a:=EL (Wu a)
abbrev Oc a b:=vV (Wu a) b
attribute [go_sem] Wu WQ Oc
theorem CCF (a : MSn) : (V2Sn a) = (FV (λ i=>CE (NO (Wu a)) (AD (LW (Wu a)) (FS (WQ a)) (BZ i)) (EU i (WQ a)) (Ar (λ j=>Oc a j) (WQ a) (λ j=>Oc a j) i i)) (λ i=>OS (IH i (WQ a) (Ar (λ j=>Oc a j) (WQ a) (λ j=>Oc a j) i i)) i (WQ a) (TH i i (WQ a) (On (Wu a) i) (AV (KA (Wu a) i))) (NG (not (Oc a i)) (Ke (λ j=>Oc a j) (WQ a) (BE i)) (λ j=>GM (NO (Wu a)) (AD (LW (Wu a)) (FS (WQ a)) (BR j i)) (IH j (WQ a) (Ar (λ k=>Oc a k) (WQ a) (λ k=>Oc a k) j j)) (WQ a) j i)) (Ke (λ j=>Oc a j) (WQ a) (-1)))) := by kernel_rfl
theorem p2Sn (a : MSn) (h : EM (PSn a)) : V2Sn a := by
 obtain ⟨h, hp⟩ : a.l.length < 4611686018427387904 /\ True := h
 rw [CCF]<;> delta BI BF MM ON BY EL AF CN CO AS KA BE EU EC JL FY MN NT LS HA Wu AD AZ AX AE BM AW BL BA HI AV GH DK BX DO HH CE OJ DZ JB ED BR LG FS IH NO JM Uw YT On QV VQ MQ HZ IR BZ XY GM Fs FV LW JF vV WQ Ke WB NG Oc OS TH Ar
 simp only [CC, eq_self, implies_true, forall_const]
 refine ⟨⟨0, rfl, Nat.zero_le _, rfl⟩, λ k ⟨h1, h2⟩ => ⟨λ hlt => ?_, λ hge => ?_⟩⟩
 ·have hlt : k < a.l.length := by omega
  refine ⟨⟨by omega, by omega⟩, λ hp => ?_, λ hp => ⟨k + 1, (HL (by omega)).symm, ⟨by omega, ?_⟩, by omega⟩⟩
  ·rw [h2]; exact jI hlt (by simpa using hp)
  ·rw [h2]; exact ADT hlt (by simpa using hp)
 ·rw [h2]; exact wD (by omega)
theorem CBR : AK Try.prog ATF (C2Sn.spec d2Sn) := VV C2Sn A2Sn [] [] BDV (λ _ => by kernel_rfl) (λ _ => AA CCG AC) p2Sn (λ _ => WY rfl rfl) _
def C3Sn : Ctr := { C2Sn with val := λ (a : MSn) => .bool (decide (aN (λ i => !He (gD a.l i)) a.l.length 0 >= 0)) }
def d3Sn : List AVal -> Heap -> Option (C3Sn.α × List (Nat × Nat) × List Nat) := d2Sn
def A3Sn : Ann := { ann 9 [(ATF, C2Sn.spec d2Sn)] with E := [100] }
def V3Sn (a : MSn) : Prop := CF Try.prog A3Sn ASJ (AH ASJ) (C3Sn.xs a) (AB (C3Sn.L a)) (C3Sn.val a) (C3Sn.keep a) [] []
theorem CAF (a : MSn) : (V3Sn a) = (GP (Bz (Wu a) (WQ a)) (AF (λ i=>PG i (Wu a) i)) (EQ (KZ (Wu a))) FL (JH (UK (λ i=>Oc a i) (WQ a)) (UK (λ i=>He (Jv (Wu a) i)) (KZ (Wu a))))) := by kernel_rfl
theorem CBZ : AK Try.prog ASS (C3Sn.spec d3Sn) := Ctr.spec_ok (C := C3Sn) (λ (a : MSn) h => Pn (A := A3Sn) (ren := []) (fz := []) BJZ (by kernel_rfl) (AA CBR AC) (by
 obtain ⟨h, hp⟩ : a.l.length < 4611686018427387904 /\ True := h
 show V3Sn a; rw [CAF]<;> delta JH jA BI BF BY EL AF CN CO AS KA FL Oo Wu AD AZ AX AW BA BO BJ Xx BC OJ EQ Af KZ Jv Uw MX Fs WH PL GP vV WQ Es Bz Io UK PG Oc; simp [h, WA])) _
def A4Sn : Ann := { ann 9 [(ASS, C3Sn.spec d3Sn)] with E := [] }
def C4Sn : Ctr := { ro := [], α := MSn, xs := λ a => [.d (DC a.l), fvSn a.q], L := λ a => [], val := λ a => .bool (a.l.all λ x => He x), keep := λ a => [], pre := PSn }
def V4Sn (a : MSn) : Prop := CF Try.prog A4Sn F_eS (AH F_eS) (C4Sn.xs a) (AB (C4Sn.L a)) (C4Sn.val a) (C4Sn.keep a) [] []
theorem BZG (a : MSn) : (V4Sn a) = (GP (Bz (Wu a) (WQ a)) (AF (λ i=>PG i (Wu a) i)) (EQ (KZ (Wu a))) FL (JH (kT (Wu a) He) (not (UK (λ i=>He (Jv (Wu a) i)) (KZ (Wu a)))))) := by kernel_rfl
theorem CAJ (a : MSn) (h : EM (PSn a)) : FnT Try.prog n_eS (C4Sn.xs a) (AB (C4Sn.L a)) (C4Sn.val a) (C4Sn.keep a) := Pn (A := A4Sn) (ren := []) (fz := []) BSO (by kernel_rfl) (AA CBZ AC) (by
 have h' : a.l.length < 4611686018427387904 /\ True := h
 show V4Sn a; rw [BZG]<;> delta JH jA BI BF BY EL AF CN CO AS KA FL Oo kT Wu AD AZ AX AW BA BO BJ Xx BC OJ EQ Af KZ Jv Uw MX Fs WH PL GP WQ Es Bz Io UK PG; simp only [CC, eq_self, implies_true, forall_const, ge_iff_le]
 rw [<- pY]
 exact ⟨h'.1, rfl⟩)
structure N2 where
 q : Nt
 e : Nt
def ntB (q : Nt) : AObj := .box [.int q.mi, .int q.t.lo, .int q.t.hi, .int q.s.lo, .int q.s.hi]
def BLH (H : Heap) (id : Nat) : Option Nt := match H id with
 | .live (.box [.d a, .d b, .d c, .d d, .d e]) => some ⟨HJ a, ⟨HJ b, HJ c⟩, ⟨HJ d, HJ e⟩⟩
 | _ => none
def C_ck2 : Ctr := { ro := [100], α := N2, xs := λ a => [.d (eNt a.e), .bptr 100 0], L := λ a => [(100, ntB a.q)], val := λ a => .bool (a.e.mi == a.q.mi), keep := λ a => [(100, .live (ntB a.q))] }
def BQD : List AVal -> Heap -> Option (N2 × List (Nat × Nat) × List Nat)
 | [.d d, .bptr id _], H => match BLH H id with
  | some q => some (⟨q, dNt d⟩, [(100, id)], [])
  | none => none
 | _, _ => none
def BRK : Ann := { ann 9 [] with E := [100] }
def BRH (a : N2) : Prop := CF Try.prog BRK AFF (AH AFF) (C_ck2.xs a) (AB (C_ck2.L a)) (C_ck2.val a) (C_ck2.keep a) [] []
abbrev Ey:=@BEq.beq Int (@instBEqOfDecidableEq Int Int.instDecidableEq)
abbrev rP a b:=Ey (EN a) b
abbrev D9 a b:=rP a (EN b)
attribute [go_sem] Ey rP D9
theorem BXA (a : N2) : (BRH a) = (And (GQ (D9 (N2.e a) (N2.q a))) (PX (VJ (N2.q a)) (EB (N2.q a)) (EA (N2.q a)))) := by kernel_rfl
theorem BWP : AK Try.prog lC (C_ck2.spec BQD) := VV C_ck2 (λ _ => BRK) [] [] BBJ (λ _ => by kernel_rfl) (λ _ => AC) (λ (a : N2) _ => by
 show BRH a; rw [BXA]<;> delta JH BI BF EN EB EA AS Ey AD AG AZ AE GQ AW BL CX AV FC HG HE PX VJ rP D9; try simp) (λ _ => WY rfl rfl) _
structure MNc where
 q : Nt
 l : List Nt
def d2Nc : List AVal -> Heap -> Option (MNc × List (Nat × Nat) × List Nat)
 | [y, .fn _ _ [.bptr id _]], H => match xU y H with
  | some (n, g, f) => match BLH H id with
   | some q => some (⟨q, ME n λ i => dNt (g i)⟩, [(100, id)], f)
   | none => none
  | none => none
 | _, _ => none
def A2Nc (a : MNc) : Ann := { ann 19 [(lC, C_ck2.spec BQD)] with E := [100], loops := λ id => if id = 2 then some [{ α := Nat, dflt := 0, T := λ k => ⟨[(0, .d (kK a.l)), (1, .fn (.func lC) [] [.bptr 100 0]), (7, .int a.l.length), (8, .int k)], [(100, .live (ntB a.q))]⟩, inv := λ k => k <= a.l.length /\ aN (λ i => (gD a.l i).mi == a.q.mi) a.l.length 0 = aN (λ i => (gD a.l i).mi == a.q.mi) (a.l.length - k) k, meas := λ k => a.l.length - k }] else none }
def C2Nc : Ctr := { ro := [100], α := MNc, xs := λ a => [.d (kK a.l), .fn (.func lC) [] [.bptr 100 0]], L := λ a => [(100, ntB a.q)], val := λ a => .int (aN (λ i => (gD a.l i).mi == a.q.mi) a.l.length 0), keep := λ a => [(100, .live (ntB a.q))], pre := λ a => [a.l.length < 4611686018427387904 /\ True] }
def V2Nc (a : MNc) : Prop := CF Try.prog (A2Nc a) ASC (AH ASC) (C2Nc.xs a) (AB (C2Nc.L a)) (C2Nc.val a) (C2Nc.keep a) [] []
abbrev Ql a:=EA (MNc.q a)
abbrev Py a:=EB (MNc.q a)
abbrev Qv a:=VJ (MNc.q a)
abbrev RH a:=DV (MNc.l a)
abbrev M8 a b:=D9 a (MNc.q b)
abbrev ZT a b:=EY (MNc.l a) b
abbrev Xi a b c:=M8 (ZT a b) c
abbrev CW a (b:Nat->Prop) c d e f g h p:=AR a (AF b) c d e f g h p
abbrev dE a:=BL (Ql a)
abbrev eQ a:=BL (Py a)
abbrev Oy a b c d e f g h:=AR a b c d e f b g h
abbrev SH a b c d:=AD a b (AS c d)
attribute [go_sem] Ql Py Qv RH M8 ZT Xi CW dE eQ Oy SH
theorem CAE (a : MNc) : (V2Nc a) = (FV (λ i=>SH (CW (BM (RH a)) (λ j=>AX j (RH a) (PX (VJ (ZT a j)) (EB (ZT a j)) (EA (ZT a j)))) (FS (RH a)) (BZ i) (Qv a) (eQ a) (AV (Py a)) (dE a) (AV (Ql a))) (EU i (RH a)) (aN (λ j=>Xi a j a) (RH a) 0) (aN (λ j=>Xi a j a) (LS (RH a) i) i)) (λ i=>OS (IH i (RH a) (AS (aN (λ j=>Xi a j a) (RH a) 0) (aN (λ j=>Xi a j a) (LS (RH a) i) i))) i (RH a) (FF i (RH a) (AD (VJ (ZT a i)) (BL (EB (ZT a i))) (AEB (AV (EB (ZT a i))) (EA (ZT a i)) (Qv a) (Oy (eQ a) (AV (Py a)) (dE a) (AV (Ql a)) (Qv a) (eQ a) (dE a) (AV (Ql a)))))) (ED (Xi a i a) (AS (aN (λ j=>Xi a j a) (RH a) 0) (BE i)) (PX (Qv a) (Py a) (Ql a)) (HA (λ j=>DW (CW (BM (RH a)) (λ k=>AX k (RH a) (PX (VJ (ZT a k)) (EB (ZT a k)) (EA (ZT a k)))) (FS (RH a)) (BR j i) (Qv a) (eQ a) (AV (Py a)) (dE a) (AV (Ql a))) (IH j (RH a) (AS (aN (λ k=>Xi a k a) (RH a) 0) (aN (λ k=>Xi a k a) (LS (RH a) j) j))) (RH a) j i))) (And (AS (aN (λ j=>Xi a j a) (RH a) 0) (-1)) (PX (Qv a) (Py a) (Ql a))))) := by kernel_rfl
theorem p2Nc (a : MNc) (h : EM (C2Nc.pre a)) : V2Nc a := by
 obtain ⟨h, hp⟩ : a.l.length < 4611686018427387904 /\ True := h
 rw [CAE]<;> delta BI BF EN MM ON EB EA BY AF CN CO AS BE EU EC JL FY MN NT LS DV EY HA Ey AD AG AZ AX AE BM AW BL AR CX HI AV FC Oy GH HG HE DK BX DO BC HH CW AEB PX DZ JB ED BR LG FS IH JM RV QV MQ HZ IR BZ ZT DW TK FV VJ RH FF JF Ql Py rP SH D9 M8 Qv OS Xi eQ dE
 simp only [CC, eq_self, implies_true, forall_const]
 refine ⟨⟨0, rfl, Nat.zero_le _, rfl⟩, λ k ⟨h1, h2⟩ => ⟨λ hlt => ?_, λ hge => ?_⟩⟩
 ·have hlt : k < a.l.length := by omega
  refine ⟨⟨by omega, by omega⟩, λ hp => ?_, λ hp => ⟨k + 1, (HL (by omega)).symm, ⟨by omega, ?_⟩, by omega⟩⟩
  ·rw [h2]; exact jI hlt (by simpa using hp)
  ·rw [h2]; exact ADT hlt (by simpa using hp)
 ·rw [h2]; exact wD (by omega)
theorem CAD : AK Try.prog ATA (C2Nc.spec d2Nc) := VV C2Nc A2Nc [] [] BLD (λ _ => by kernel_rfl) (λ _ => AA BWP AC) p2Nc (λ _ => WY rfl rfl) _
def C3Nc : Ctr := { C2Nc with val := λ (a : MNc) => .bool (a.l.any λ x => x.mi == a.q.mi) }
def d3Nc : List AVal -> Heap -> Option (C3Nc.α × List (Nat × Nat) × List Nat) := d2Nc
def A3Nc : Ann := { ann 9 [(ATA, C2Nc.spec d2Nc)] with E := [100] }
def V3Nc (a : MNc) : Prop := CF Try.prog A3Nc ARR (AH ARR) (C3Nc.xs a) (AB (C3Nc.L a)) (C3Nc.val a) (C3Nc.keep a) [] []
abbrev aD a b:=FT (MNc.l a) (λ i=>ZT b i)
attribute [go_sem] aD
theorem CBW (a : MNc) : (V3Nc a) = (CE (BY (DV (aD a a)) (RH a)) (AG (AF (λ i=>DU i (DV (aD a a)) (Xb (EY (aD a a) i) (ZT a i)) (Ca (aD a a) i) (EB (ZT a i)) (By (aD a a) i) (EA (ZT a i)))) (Qv a) (eQ a) (AV (Py a)) (Oy (dE a) (AV (Ql a)) (Qv a) (eQ a) (AV (Py a)) (dE a) (EQ (DV (aD a a))) FL)) (JH ((@List.any Nt) (MNc.l a) (λ i=>M8 i a)) (Es (aN (λ i=>M8 (EY (aD a a) i) a) (DV (aD a a)) 0))) (PX (Qv a) (Py a) (Ql a))) := by kernel_rfl
theorem BHG {α : Type} [Inhabited α] {p : α -> Bool} {l : List α} : decide (0 <= aN (λ i => p (gD l i)) l.length 0) = l.any p := by
 rw [Bool.eq_iff_iff, decide_eq_true_eq, AUA, List.any_eq_true]
 exact ⟨λ ⟨i, _, h1, h2⟩ => ⟨gD l i, HW (by omega), h2⟩, λ ⟨x, hx, h2⟩ => by obtain ⟨i, hi, rfl⟩ := OV hx; exact ⟨i, Nat.zero_le _, by omega, h2⟩⟩
theorem BYY : AK Try.prog AQH (C3Nc.spec d3Nc) := Ctr.spec_ok (C := C3Nc) (λ (a : MNc) h => Pn (A := A3Nc) (ren := []) (fz := []) BKR (by kernel_rfl) (AA CAD AC) (by
 obtain ⟨h, hp⟩ : a.l.length < 4611686018427387904 /\ True := h
 show V3Nc a; rw [CBW]<;> delta JH jA BI BF EN EB EA BY AF CN CO AS DV EY LD FL Ey AD FT AG AZ AX AE AW BL AR BO BJ CX AV FC Oy HG FO HE ES CE EQ PX FH DU ZT VJ RH Xb Ql Es Py rP D9 M8 By Qv Ca aD eQ dE; simp only [CC, eq_self, implies_true, forall_const, ge_iff_le]
 rw [<- BHG]
 simp [h, WA])) _
end Go.Bal
