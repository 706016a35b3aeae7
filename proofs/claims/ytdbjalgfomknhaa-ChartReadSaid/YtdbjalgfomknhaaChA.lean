/- Package chart: numbers, spans, notes. -/
import Derived.Test.YtdbjalgfomknhaaChT1
set_option linter.unusedVariables false
set_option linter.unusedSimpArgs false
namespace Go.Bal
open Go Go.Sym Go.Proofs
def wr (n : Int) : Int := IntKind.i64.wrap n
def TM (a b c : Int) : Bool := decide (b <= a) && decide (a <= c)
def Lc (s : Span) (a b : Int) : Bool := TM s.lo a b && TM s.hi s.lo b
def RY (n : Nt) (m : Int) : Bool := TM n.mi 0 (wr (m - 1)) && Lc n.t 0 10000000 && Lc n.s (-3000000) 3000000
def V_in (x : I3) : Prop := CR Try.prog (ann 15 []) F_in (AL F_in) (xI3 x) (AE []) (.bool (TM x.a x.b x.c)) [] [] []
abbrev LV:=@Eq Bool
abbrev bO:=λ (x0 x1 : Int) => decide (x0 >= x1)
abbrev hd7:=λ (x0 x1 : Int) => decide (x0 <= x1)
abbrev He:=false
abbrev GB a b:=(@cond Bool) a b He
attribute [go_sem] LV bO hd7 He GB
theorem BVL (x : I3) : (V_in x) = (LV (TM (I3.a x) (I3.b x) (I3.c x)) (GB (bO (I3.a x) (I3.b x)) (hd7 (I3.a x) (I3.c x)))) := by kernel_rfl
def s_in := pD dI3 λ x => .bool (TM x.a x.b x.c)
theorem ABM : AR Try.prog N8 s_in := Lu xI3 hI3 λ x _ => Ky (A := ann 15 []) (ren := []) (fz := []) BWN (by kernel_rfl) AI (by
 show V_in x; rw [BVL]<;> delta LV bO hd7 He GB; unfold TM; by_cases h : x.b <= x.a <;> simp [h])
def BOU (x : SII) : Prop := CR Try.prog (ann 20 [(N8, s_in)]) AAQ (AL AAQ) (xSII x) (AE []) (.bool (Lc x.s x.a x.b)) [] [] []
abbrev hd9:=Lc
abbrev CI:=Span.lo
abbrev CH:=Span.hi
attribute [go_sem] hd9 CI CH
theorem BRN (x : SII) : (BOU x) = (LV (hd9 (SII.s x) (SII.a x) (SII.b x)) (GB (TM (CI (SII.s x)) (SII.a x) (SII.b x)) (TM (CH (SII.s x)) (CI (SII.s x)) (SII.b x)))) := by kernel_rfl
def AYM := pD dSII λ x => .bool (Lc x.s x.a x.b)
theorem BDF : AR Try.prog aT AYM := Lu xSII hSII λ x _ => Ky (A := ann 20 [(N8, s_in)]) (ren := []) (fz := []) ASJ (by kernel_rfl) (AC ABM AI) (by
 show BOU x; rw [BRN]<;> delta LV He hd9 CI CH GB; unfold Lc; cases TM x.s.lo x.a x.b <;> simp)
def AXF (x : NtI) : Prop := CR Try.prog (ann 20 [(N8, s_in), (aT, AYM)]) ALS (AL ALS) (xNtI x) (AE []) (.bool (RY x.n x.a)) [] [] []
abbrev zK:=RY
abbrev FE:=Nt.mi
abbrev PS:=IntKind.wrap
abbrev SI:=IntKind.i64
abbrev Pt:=@HSub.hSub Int Int Int (@instHSub Int Int.instSub)
abbrev EE:=Nt.t
abbrev FH:=Nt.s
abbrev cE a b:=TM a 0 b
abbrev JI a:=PS SI a
abbrev KP a b:=JI (Pt a b)
abbrev JJ a:=KP a 1
abbrev Xi a b:=cE a (JJ b)
attribute [go_sem] zK FE PS SI Pt EE FH cE JI KP JJ Xi
theorem BHD (x : NtI) : (AXF x) = (LV (zK (NtI.n x) (NtI.a x)) (GB (GB (Xi (FE (NtI.n x)) (NtI.a x)) (hd9 (EE (NtI.n x)) 0 10000000)) (hd9 (FH (NtI.n x)) (-3000000) 3000000))) := by kernel_rfl
def AYC := pD dNtI λ x => .bool (RY x.n x.a)
theorem BDY : AR Try.prog ANN AYC := Lu xNtI hNtI λ x _ => Ky (A := ann 20 [(N8, s_in), (aT, AYM)]) (ren := []) (fz := []) BFL (by kernel_rfl) (AC ABM (AC BDF AI)) (by
 show AXF x; rw [BHD]<;> delta LV He hd9 zK FE PS SI Pt EE FH JI KP JJ GB cE Xi; unfold RY wr; cases TM x.n.mi 0 (IntKind.i64.wrap (x.a - 1)) <;> cases Lc x.n.t 0 10000000 <;> simp)
structure SL where
 a : Span
 l : List Span
structure NS where
 k : Nat
 m : Span
 deriving Inhabited
def comM (x : SL) : Span := x.l.foldl wW x.a
def C_com : Ctr := { α := SL, xs := λ x => [.d (IY x.a), .d (CK x.l)], L := λ _ => [], val := λ x => .d (IY (comM x)), keep := λ _ => [], pre := λ x => [decide (x.l.length < 4611686018427387904) = true] }
def BBD : List AVal -> Heap -> Option (SL × List (Nat × Nat) × List Nat)
 | [.d a, y], H => match Wx y H with
  | some (l, f) => some (⟨Hi a, l⟩, [], f)
  | none => none
 | _, _ => none
def BOF (x : SL) : Ann := { ann 26 [] with loops := λ id => if id = 2 then some [{ α := NS, dflt := default, T := λ s => ⟨[(2, .bptr 201 0), (4, .bptr 202 0), (7, .d (CK x.l)), (8, .int x.l.length), (9, .int s.k)], [(201, .live (.box [.int s.m.lo, .int s.m.hi])), (202, .live (.box [.int 0, .int 0]))]⟩, inv := λ s => s.k <= x.l.length /\ s.m = (x.l.take s.k).foldl wW x.a, meas := λ s => x.l.length - s.k, first := [(201, 1000), (202, 1016)] }] else none }
def BNH (x : SL) : Prop := CR Try.prog (BOF x) AGK (AL AGK) (C_com.xs x) (AE []) (C_com.val x) [] [] []
abbrev CL:=@Eq Nat
abbrev GY:=@List.length Span
abbrev fS:=SL.l
abbrev AF:=λ (f : Nat -> Prop) => ∀ (x : Nat), f x
abbrev CV:=λ (p q : Prop) => p -> q
abbrev DC:=@LT.lt Nat instLTNat
abbrev AS:=@Eq Int
abbrev IA:=@gD Span instInhabitedSpan
abbrev CG:=@Nat.cast Int instNatCastInt
abbrev lZ:=NS.k
abbrev S6:=NS.m
abbrev UB:=Int.ofNat
abbrev CW:=@LE.le Nat instLENat
abbrev hd40:=@Eq Span
abbrev hd41:=@List.foldl Span Span
abbrev hd43:=@List.take Span
abbrev FG:=@cond Prop
abbrev PD:=λ (x0 x1 : Int) => decide (x0 < x1)
abbrev HU:=@LE.le Int Int.instLEInt
abbrev KV:=@LT.lt Int Int.instLTInt
abbrev UC:=@HAdd.hAdd Int Int Int (@instHAdd Int Int.instAdd)
abbrev Ob:=GV
abbrev wC:=PV
abbrev MT:=@HSub.hSub Nat Nat Nat (@instHSub Nat instSubNat)
abbrev DH a b c d:=FG a (And b c) d
abbrev KZ a b c d e:=CV a (DH b c d e)
abbrev IM a b:=PD (CG a) b
abbrev IR a b c d e f:=KZ a (IM b c) d e f
abbrev MH a b c d e f g:=IR (And a b) c d e f g
abbrev BN a b:=AS (CH a) b
abbrev BJ a b:=BN a (CH b)
abbrev CB a b:=AS (CI a) b
abbrev BT a b:=CB a (CI b)
abbrev AH a b c:=And a (And b c)
abbrev JE a b c d:=AH a (And b c) d
abbrev OY a b c:=DC (MT a b) c
abbrev PM a b c d:=OY a b (MT c d)
abbrev SQ a b c:=PM a b a c
abbrev FW a b c d e f:=JE a b c (SQ d e f)
abbrev MF a b:=CW a (GY b)
abbrev BH a b c d:=And a (AH b c d)
abbrev AK a b c d e:=AH a b (AH c d e)
abbrev xB a b c d:=AK a b c d d
abbrev AJ a:=AS a a
abbrev OD:=UB 0
abbrev CU:=AJ OD
abbrev LU a b:=CH (IA a b)
abbrev PO a b:=CI (IA a b)
abbrev HZ a b:=AS (CG a) b
abbrev GO a b:=JI (UC a b)
abbrev EF a:=GO a 1
abbrev EH a:=EF (CG a)
abbrev CJ a b:=HZ a (EH b)
abbrev GX a:=AJ (CG a)
abbrev Kv a:=GX (GY a)
abbrev BQ a b c:=CV (DC a b) c
abbrev BR a b c d:=BQ a b (And c d)
abbrev NT a b c d:=BR a (GY b) c d
abbrev BO a:=BJ a a
abbrev TS a b c d:=NT a b c (BO d)
abbrev CD a:=AJ (CI a)
abbrev Fx a b:=CD (IA a b)
abbrev ZR a b:=TS a b (Fx b a) (IA b a)
abbrev LL a:=AF (λ i=>ZR i a)
abbrev BU a:=CL a a
abbrev IC a:=BU (GY a)
abbrev FZ a b:=KV a (CG b)
abbrev JF a b c:=And a (FZ b c)
abbrev CX a:=HU 0 a
abbrev CS a b:=JF (CX a) a b
abbrev IW a b:=CS (CG a) b
abbrev JA a b:=IW a (GY b)
abbrev LB a:=CG (GY a)
abbrev CY a:=HZ a 0
attribute [go_sem] CL GY fS AF CV DC AS IA CG lZ S6 UB CW hd40 hd41 hd43 FG PD HU KV UC Ob wC MT DH KZ IM IR MH BN BJ CB BT AH JE OY PM SQ FW MF BH AK xB AJ OD CU LU PO HZ GO EF EH CJ GX Kv BQ BR NT BO TS CD Fx ZR LL BU IC FZ JF CX CS IW JA LB CY
theorem BRS (x : SL) : (BNH x) = (And ((@Exists NS) (λ i=>AH (BH (IC (fS x)) (LL (fS x)) (Kv (fS x)) (xB (CY (lZ i)) (BT (S6 i) (SL.a x)) (BJ (S6 i) (SL.a x)) CU)) (MF (lZ i) (fS x)) (hd40 (S6 i) (hd41 wW (SL.a x) (hd43 (lZ i) (fS x)))))) ((λ (f : NS -> Prop) => ∀ (x : NS), f x) (λ i=>MH (MF (lZ i) (fS x)) (hd40 (S6 i) (hd41 wW (SL.a x) (hd43 (lZ i) (fS x)))) (lZ i) (LB (fS x)) (JA (lZ i) (fS x)) ((@Exists NS) (λ j=>FW (BH (IC (fS x)) (LL (fS x)) (Kv (fS x)) (xB (CJ (lZ j) (lZ i)) (CB (S6 j) (Ob (CI (S6 i)) (PO (fS x) (lZ i)))) (BN (S6 j) (wC (CH (S6 i)) (LU (fS x) (lZ i)))) CU)) (MF (lZ j) (fS x)) (hd40 (S6 j) (hd41 wW (SL.a x) (hd43 (lZ j) (fS x)))) (GY (fS x)) (lZ j) (lZ i))) (And (BT (comM x) (S6 i)) (BJ (comM x) (S6 i)))))) := by kernel_rfl
theorem BXH (x : SL) (h : x.l.length < 4611686018427387904) : BNH x := by
 rw [BRS]<;> delta CI CH PS SI CL GY fS AF CV DC AS IA CG lZ S6 UB CW hd40 hd41 hd43 FG PD HU KV UC Ob wC MT AH AK BN BQ AJ BU xB BJ CD BR JI CB GO BO BT FZ CX EF JF HZ NT BH CS EH TS Fx DH OD IW JE IC ZR GX CJ CU OY LL PM IM SQ CY KZ PO IR FW JA LB MF LU Kv MH; try simp only [CC, eq_self, implies_true, forall_const]
 refine ⟨⟨⟨0, x.a⟩, ⟨rfl, rfl, rfl⟩, Nat.zero_le _, rfl⟩, λ s ⟨h1, h2⟩ => ⟨λ hlt => ?_, λ hge => ?_⟩⟩
 ·have hlt : s.k < x.l.length := by omega
  refine ⟨by omega, ⟨s.k + 1, wW s.m (gD x.l s.k)⟩, ⟨(MO (by omega)).symm, rfl, rfl⟩, ⟨by show s.k + 1 <= _; omega, ?_⟩, by show x.l.length - (s.k + 1) < _; omega⟩
  show wW s.m (gD x.l s.k) = _
  rw [bF hlt, List.foldl_append, <- h2]; rfl
 ·rw [h2, List.take_of_length_le (by omega)]; exact ⟨rfl, rfl⟩
theorem BEF : AR Try.prog F3 (C_com.spec BBD) := Bl C_com BOF [] [] BAE (λ _ => by kernel_rfl) (λ _ => AI) (λ x h => BXH x (of_decide_eq_true h)) (λ _ => Ec rfl rfl) _
end Go.Bal
