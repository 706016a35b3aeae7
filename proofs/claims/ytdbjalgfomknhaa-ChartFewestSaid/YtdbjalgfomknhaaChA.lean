/- Package chart: numbers, spans, notes. -/
import Derived.Test.YtdbjalgfomknhaaChT1
set_option linter.unusedVariables false
set_option linter.unusedSimpArgs false
namespace Go.Bal
open Go Go.Sym Go.Proofs
def wr (n : Int) : Int := IntKind.i64.wrap n
def Fw (a b c : Int) : Bool := decide (b <= a) && decide (a <= c)
def Qc (s : Span) (a b : Int) : Bool := Fw s.lo a b && Fw s.hi s.lo b
def WJ (n : Nt) (m : Int) : Bool := Fw n.mi 0 (wr (m - 1)) && Qc n.t 0 10000000 && Qc n.s (-3000000) 3000000
def V_in (x : I3) : Prop := DN Try.prog (ann 15 []) F_in (AP F_in) (xI3 x) (AH []) (.bool (Fw x.a x.b x.c)) [] [] []
abbrev MF:=@Eq Bool
abbrev hd6:=λ (x0 x1 : Int) => decide (x0 >= x1)
abbrev hd7:=λ (x0 x1 : Int) => decide (x0 <= x1)
abbrev Sw:=false
abbrev II a b:=(@cond Bool) a b Sw
attribute [go_sem] MF hd6 hd7 Sw II
theorem CLJ (x : I3) : (V_in x) = (MF (Fw (I3.a x) (I3.b x) (I3.c x)) (II (hd6 (I3.a x) (I3.b x)) (hd7 (I3.a x) (I3.c x)))) := by kernel_rfl
def s_in := pD dI3 λ x => .bool (Fw x.a x.b x.c)
theorem BDP : AR Try.prog n_in s_in := dS xI3 hI3 λ x _ => Su (A := ann 15 []) (ren := []) (fz := []) CKX (by kernel_rfl) AL (by
 show V_in x; rw [CLJ]<;> delta MF hd6 hd7 Sw II; unfold Fw; by_cases h : x.b <= x.a <;> simp [h])
def CGK (x : SII) : Prop := DN Try.prog (ann 20 [(n_in, s_in)]) ASU (AP ASU) (xSII x) (AH []) (.bool (Qc x.s x.a x.b)) [] [] []
abbrev hd9:=Qc
abbrev BU:=Span.lo
abbrev CO:=Span.hi
attribute [go_sem] hd9 BU CO
theorem CIZ (x : SII) : (CGK x) = (MF (hd9 (SII.s x) (SII.a x) (SII.b x)) (II (Fw (BU (SII.s x)) (SII.a x) (SII.b x)) (Fw (CO (SII.s x)) (BU (SII.s x)) (SII.b x)))) := by kernel_rfl
def BOV := pD dSII λ x => .bool (Qc x.s x.a x.b)
theorem BZW : AR Try.prog oB BOV := dS xSII hSII λ x _ => Su (A := ann 20 [(n_in, s_in)]) (ren := []) (fz := []) BNX (by kernel_rfl) (AC BDP AL) (by
 show CGK x; rw [CIZ]<;> delta MF Sw hd9 BU CO II; unfold Qc; cases Fw x.s.lo x.a x.b <;> simp)
def BQD (x : NtI) : Prop := DN Try.prog (ann 20 [(n_in, s_in), (oB, BOV)]) BHL (AP BHL) (xNtI x) (AH []) (.bool (WJ x.n x.a)) [] [] []
abbrev hd15:=WJ
abbrev FM:=Nt.mi
abbrev TP:=IntKind.wrap
abbrev WF:=IntKind.i64
abbrev Ua:=@HSub.hSub Int Int Int (@instHSub Int Int.instSub)
abbrev FQ:=Nt.t
abbrev FP:=Nt.s
abbrev Nl a b c:=II (II a b) c
abbrev sU a b:=Fw a 0 b
abbrev IY a:=TP WF a
abbrev KY a b:=IY (Ua a b)
abbrev TT a:=KY a 1
abbrev kW a b:=sU a (TT b)
attribute [go_sem] hd15 FM TP WF Ua FQ FP Nl sU IY KY TT kW
theorem BYY (x : NtI) : (BQD x) = (MF (hd15 (NtI.n x) (NtI.a x)) (Nl (kW (FM (NtI.n x)) (NtI.a x)) (hd9 (FQ (NtI.n x)) 0 10000000) (hd9 (FP (NtI.n x)) (-3000000) 3000000))) := by kernel_rfl
def BQN := pD dNtI λ x => .bool (WJ x.n x.a)
theorem BVW : AR Try.prog BFM BQN := dS xNtI hNtI λ x _ => Su (A := ann 20 [(n_in, s_in), (oB, BOV)]) (ren := []) (fz := []) BZN (by kernel_rfl) (AC BDP (AC BZW AL)) (by
 show BQD x; rw [BYY]<;> delta MF Sw hd9 hd15 FM TP WF Ua FQ FP IY KY TT II sU Nl kW; unfold WJ wr; cases Fw x.n.mi 0 (IntKind.i64.wrap (x.a - 1)) <;> cases Qc x.n.t 0 10000000 <;> simp)
structure SL where
 a : Span
 l : List Span
structure NS where
 k : Nat
 m : Span
 deriving Inhabited
def comM (x : SL) : Span := x.l.foldl com x.a
def C_com : Ctr := { α := SL, xs := λ x => [.d (JS x.a), .d (DW x.l)], L := λ _ => [], val := λ x => .d (JS (comM x)), keep := λ _ => [], pre := λ x => [decide (x.l.length < 4611686018427387904) = true] }
def CAP : List AVal -> Heap -> Option (SL × List (Nat × Nat) × List Nat)
 | [.d a, y], H => match jU y H with
  | some (l, f) => some (⟨Ms a, l⟩, [], f)
  | none => none
 | _, _ => none
def CFZ (x : SL) : Ann := { ann 26 [] with loops := λ id => if id = 2 then some [{ α := NS, dflt := default, T := λ s => ⟨[(2, .bptr 201 0), (4, .bptr 202 0), (7, .d (DW x.l)), (8, .int x.l.length), (9, .int s.k)], [(201, .live (.box [.int s.m.lo, .int s.m.hi])), (202, .live (.box [.int 0, .int 0]))]⟩, inv := λ s => s.k <= x.l.length /\ s.m = (x.l.take s.k).foldl com x.a, meas := λ s => x.l.length - s.k, first := [(201, 1000), (202, 1016)] }] else none }
def CER (x : SL) : Prop := DN Try.prog (CFZ x) AZL (AP AZL) (C_com.xs x) (AH []) (C_com.val x) [] [] []
abbrev CL:=@Eq Nat
abbrev DR:=@List.length Span
abbrev oT:=SL.l
abbrev AK:=λ (f : Nat -> Prop) => ∀ (x : Nat), f x
abbrev CA:=λ (p q : Prop) => p -> q
abbrev DD:=@LT.lt Nat instLTNat
abbrev AU:=@Eq Int
abbrev ML:=@gD Span instInhabitedSpan
abbrev BW:=@Nat.cast Int instNatCastInt
abbrev zB:=NS.k
abbrev hd36:=NS.m
abbrev Aj:=Int.ofNat
abbrev GM:=@LE.le Nat instLENat
abbrev hd40:=@Eq Span
abbrev hd41:=@List.foldl Span Span
abbrev hd43:=@List.take Span
abbrev FX:=@cond Prop
abbrev WN:=λ (x0 x1 : Int) => decide (x0 < x1)
abbrev KZ:=@LE.le Int Int.instLEInt
abbrev KB:=@LT.lt Int Int.instLTInt
abbrev XF:=@HAdd.hAdd Int Int Int (@instHAdd Int Int.instAdd)
abbrev nM:=TM
abbrev NR:=@HSub.hSub Nat Nat Nat (@instHSub Nat instSubNat)
abbrev LV a b c d:=FX (WN a b) c d
abbrev OF a b c d e:=CA a (LV b c d e)
abbrev CU a b c d e:=OF a (BW b) c d e
abbrev BO a b:=AU (CO a) b
abbrev BJ a b:=BO a (CO b)
abbrev SY a b:=AU (BU a) b
abbrev GV a b:=SY a (BU b)
abbrev BZ a b c:=And (And a b) c
abbrev DI a:=KZ 0 a
abbrev KD a b c:=BZ (DI a) b c
abbrev FR a b:=KB a (BW b)
abbrev EW a b c:=KD a (FR a b) c
abbrev IH a b c:=EW (BW a) b c
abbrev AI a b c:=And a (And b c)
abbrev IE a b c d:=AI a b (DD c d)
abbrev OT a b c d e:=IE a b (NR c d) e
abbrev DC a b c d e:=OT a b c d (NR c e)
abbrev LZ a b c:=And (GM a b) c
abbrev Od a b c:=LZ a (DR b) c
abbrev BQ a b c d:=And a (AI b c d)
abbrev AN a b c d e:=AI a b (AI c d e)
abbrev AVS a b c d:=AN a b c d d
abbrev AM a:=AU a a
abbrev NM a:=AM (Aj a)
abbrev BM:=NM 0
abbrev US a b:=CO (ML a b)
abbrev GK a b:=BU (ML a b)
abbrev KR a b:=AU (BW a) b
abbrev GG a b:=IY (XF a b)
abbrev EY a:=GG a 1
abbrev DU a:=EY (BW a)
abbrev BT a b:=KR a (DU b)
abbrev GA a:=AM (BW a)
abbrev Ow a:=GA (DR a)
abbrev BK a b c:=CA (DD a b) c
abbrev CD a b c d:=BK a b (And c d)
abbrev BL a:=BJ a a
abbrev QT a b c d:=CD a (DR b) c (BL d)
abbrev CJ a:=AM (BU a)
abbrev By a b:=CJ (ML a b)
abbrev KX a:=AK (λ i=>QT i a (By a i) (ML a i))
abbrev BV a:=CL a a
abbrev MO a:=BV (DR a)
abbrev Au a:=BW (DR a)
abbrev DY a b c d:=AI a (GM b c) d
abbrev CF a:=KR a 0
attribute [go_sem] CL DR oT AK CA DD AU ML BW zB hd36 Aj GM hd40 hd41 hd43 FX WN KZ KB XF nM NR LV OF CU BO BJ SY GV BZ DI KD FR EW IH AI IE OT DC LZ Od BQ AN AVS AM NM BM US GK KR GG EY DU BT GA Ow BK CD BL QT CJ By KX BV MO Au DY CF
theorem CKV (x : SL) : (CER x) = (And ((@Exists NS) (λ i=>DY (BQ (MO (oT x)) (KX (oT x)) (Ow (oT x)) (AVS (CF (zB i)) (GV (hd36 i) (SL.a x)) (BJ (hd36 i) (SL.a x)) BM)) (zB i) (DR (oT x)) (hd40 (hd36 i) (hd41 com (SL.a x) (hd43 (zB i) (oT x)))))) ((λ (f : NS -> Prop) => ∀ (x : NS), f x) (λ i=>CU (Od (zB i) (oT x) (hd40 (hd36 i) (hd41 com (SL.a x) (hd43 (zB i) (oT x))))) (zB i) (Au (oT x)) (IH (zB i) (DR (oT x)) ((@Exists NS) (λ j=>DC (BQ (MO (oT x)) (KX (oT x)) (Ow (oT x)) (AVS (BT (zB j) (zB i)) (SY (hd36 j) (nM (BU (hd36 i)) (GK (oT x) (zB i)))) (BO (hd36 j) (Gd (CO (hd36 i)) (US (oT x) (zB i)))) BM)) (Od (zB j) (oT x) (hd40 (hd36 j) (hd41 com (SL.a x) (hd43 (zB j) (oT x))))) (DR (oT x)) (zB j) (zB i)))) (And (GV (comM x) (hd36 i)) (BJ (comM x) (hd36 i)))))) := by kernel_rfl
theorem CNH (x : SL) (h : x.l.length < 4611686018427387904) : CER x := by
 rw [CKV]<;> delta BU CO TP WF CL DR oT AK CA DD AU ML BW zB hd36 Aj GM hd40 hd41 hd43 FX WN KZ KB XF nM NR AI AN BO BK BJ AM BL BV AVS CD CJ IY GG KR EY FR DI BZ IE DU GK BQ OT BT LV DC MO NM OF KD By BM QT CU SY EW GV DY GA KX CF LZ US IH Au Ow Od; try simp only [CC, eq_self, implies_true, forall_const]
 refine ⟨⟨⟨0, x.a⟩, ⟨rfl, rfl, rfl⟩, Nat.zero_le _, rfl⟩, λ s ⟨h1, h2⟩ => ⟨λ hlt => ?_, λ hge => ?_⟩⟩
 ·have hlt : s.k < x.l.length := by omega
  refine ⟨by omega, ⟨s.k + 1, com s.m (gD x.l s.k)⟩, ⟨(HH (by omega)).symm, rfl, rfl⟩, ⟨by show s.k + 1 <= _; omega, ?_⟩, by show x.l.length - (s.k + 1) < _; omega⟩
  show com s.m (gD x.l s.k) = _
  rw [mZ hlt, List.foldl_append, <- h2]; rfl
 ·rw [h2, List.take_of_length_le (by omega)]; exact ⟨rfl, rfl⟩
theorem CAU : AR Try.prog ANW (C_com.spec CAP) := Jp C_com CFZ [] [] BSG (λ _ => by kernel_rfl) (λ _ => AL) (λ x h => CNH x (of_decide_eq_true h)) (λ _ => Mi rfl rfl) _
end Go.Bal
