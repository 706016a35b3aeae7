/- Package chart: numbers, spans, notes. -/
import Derived.Test.YtdbjalgfomknhaaGreatChA0
set_option linter.unusedVariables false
set_option linter.unusedSimpArgs false
namespace Go.Bal
open Go Go.Sym Go.Proofs
def wr (n : Int) : Int := IntKind.i64.wrap n
def TP (a b c : Int) : Bool := decide (b <= a) && decide (a <= c)
def UT (s : Span) (a b : Int) : Bool := TP s.lo a b && TP s.hi s.lo b
def SP (n : Nt) (m : Int) : Bool := TP n.mi 0 (wr (m - 1)) && UT n.t 0 10000000 && UT n.s (-3000000) 3000000
def V_in (x : I3) : Prop := CL Try.prog (ann 15 []) F_in (AH F_in) (xI3 x) (AB []) (.bool (TP x.a x.b x.c)) [] [] []
abbrev KY:=@Eq Bool
abbrev lI:=λ (x0 x1 : Int) => decide (x0 >= x1)
abbrev hd7:=λ (x0 x1 : Int) => decide (x0 <= x1)
abbrev Aq:=false
abbrev GH a b:=(@cond Bool) a b Aq
attribute [go_sem] KY lI hd7 Aq GH
theorem BQF (x : I3) : (V_in x) = (KY (TP (I3.a x) (I3.b x) (I3.c x)) (GH (lI (I3.a x) (I3.b x)) (hd7 (I3.a x) (I3.c x)))) := by kernel_rfl
def s_in := pD dI3 λ x => .bool (TP x.a x.b x.c)
theorem ACD : AK Try.prog n_in s_in := Ik xI3 hI3 λ x _ => Rc (A := ann 15 []) (ren := []) (fz := []) BPJ (by kernel_rfl) AD (by
 show V_in x; rw [BQF]<;> delta KY lI hd7 Aq GH; unfold TP; by_cases h : x.b <= x.a <;> simp [h])
def BJM (x : SII) : Prop := CL Try.prog (ann 20 [(n_in, s_in)]) xE (AH xE) (xSII x) (AB []) (.bool (UT x.s x.a x.b)) [] [] []
abbrev hd9:=UT
abbrev K5:=SII.s
abbrev BA:=Span.lo
abbrev BI:=Span.hi
attribute [go_sem] hd9 K5 BA BI
theorem BKU (x : SII) : (BJM x) = (KY (hd9 (K5 x) (SII.a x) (SII.b x)) (GH (TP (BA (K5 x)) (SII.a x) (SII.b x)) (TP (BI (K5 x)) (BA (K5 x)) (SII.b x)))) := by kernel_rfl
def ARI := pD dSII λ x => .bool (UT x.s x.a x.b)
theorem AZU : AK Try.prog bY ARI := Ik xSII hSII λ x _ => Rc (A := ann 20 [(n_in, s_in)]) (ren := []) (fz := []) ALY (by kernel_rfl) (AA ACD AD) (by
 show BJM x; rw [BKU]<;> delta KY Aq hd9 K5 BA BI GH; unfold UT; cases TP x.s.lo x.a x.b <;> simp)
def AQE (x : NtI) : Prop := CL Try.prog (ann 20 [(n_in, s_in), (bY, ARI)]) AEZ (AH AEZ) (xNtI x) (AB []) (.bool (SP x.n x.a)) [] [] []
abbrev qL:=SP
abbrev FW:=Nt.mi
abbrev OH:=IntKind.wrap
abbrev PR:=IntKind.i64
abbrev Cs:=@HSub.hSub Int Int Int (@instHSub Int Int.instSub)
abbrev EX:=Nt.t
abbrev FI:=Nt.s
abbrev Jw a b c:=GH (GH a b) c
abbrev HK a:=OH PR a
abbrev KU a b:=HK (Cs a b)
abbrev OZ a:=KU a 1
attribute [go_sem] qL FW OH PR Cs EX FI Jw HK KU OZ
theorem AUS (x : NtI) : (AQE x) = (KY (qL (NtI.n x) (NtI.a x)) (Jw (TP (FW (NtI.n x)) 0 (OZ (NtI.a x))) (hd9 (EX (NtI.n x)) 0 10000000) (hd9 (FI (NtI.n x)) (-3000000) 3000000))) := by kernel_rfl
def AQY := pD dNtI λ x => .bool (SP x.n x.a)
theorem AXH : AK Try.prog ADF AQY := Ik xNtI hNtI λ x _ => Rc (A := ann 20 [(n_in, s_in), (bY, ARI)]) (ren := []) (fz := []) BBQ (by kernel_rfl) (AA ACD (AA AZU AD)) (by
 show AQE x; rw [AUS]<;> delta KY Aq hd9 qL FW OH PR Cs EX FI HK KU OZ GH Jw; unfold SP wr; cases TP x.n.mi 0 (IntKind.i64.wrap (x.a - 1)) <;> cases UT x.n.t 0 10000000 <;> simp)
structure SL where
 a : Span
 l : List Span
structure NS where
 k : Nat
 m : Span
 deriving Inhabited
def comM (x : SL) : Span := x.l.foldl hJ x.a
def C_com : Ctr := { α := SL, xs := λ x => [.d (FX x.a), .d (DA x.l)], L := λ _ => [], val := λ x => .d (FX (comM x)), keep := λ _ => [], pre := λ x => [decide (x.l.length < 4611686018427387904) = true] }
def AUK : List AVal -> Heap -> Option (SL × List (Nat × Nat) × List Nat)
 | [.d a, y], H => match Vb y H with
  | some (l, f) => some (⟨Ku a, l⟩, [], f)
  | none => none
 | _, _ => none
def BHT (x : SL) : Ann := { ann 26 [] with loops := λ id => if id = 2 then some [{ α := NS, dflt := default, T := λ s => ⟨[(2, .bptr 201 0), (4, .bptr 202 0), (7, .d (DA x.l)), (8, .int x.l.length), (9, .int s.k)], [(201, .live (.box [.int s.m.lo, .int s.m.hi])), (202, .live (.box [.int 0, .int 0]))]⟩, inv := λ s => s.k <= x.l.length /\ s.m = (x.l.take s.k).foldl hJ x.a, meas := λ s => x.l.length - s.k, first := [(201, 1000), (202, 1016)] }] else none }
def BHA (x : SL) : Prop := CL Try.prog (BHT x) T3 (AH T3) (C_com.xs x) (AB []) (C_com.val x) [] [] []
abbrev hd25:=@Exists NS
abbrev CE:=@Eq Nat
abbrev CU:=@List.length Span
abbrev iD:=SL.l
abbrev AC:=λ (f : Nat -> Prop) => ∀ (x : Nat), f x
abbrev BX:=λ (p q : Prop) => p -> q
abbrev CM:=@LT.lt Nat instLTNat
abbrev AQ:=@Eq Int
abbrev LU:=@gD Span instInhabitedSpan
abbrev BU:=@Nat.cast Int instNatCastInt
abbrev YP:=NS.k
abbrev Ro:=NS.m
abbrev WF:=Int.ofNat
abbrev DH:=@LE.le Nat instLENat
abbrev hd40:=@Eq Span
abbrev hd41:=@List.foldl Span Span
abbrev hd43:=@List.take Span
abbrev hd44:=λ (f : NS -> Prop) => ∀ (x : NS), f x
abbrev DX:=@cond Prop
abbrev IP:=λ (x0 x1 : Int) => decide (x0 < x1)
abbrev HD:=@LE.le Int Int.instLEInt
abbrev LS:=@LT.lt Int Int.instLTInt
abbrev PG:=@HAdd.hAdd Int Int Int (@instHAdd Int Int.instAdd)
abbrev WK:=DP
abbrev Nm:=KS
abbrev JV:=@HSub.hSub Nat Nat Nat (@instHSub Nat instSubNat)
abbrev DV a b c d:=DX a (And b c) d
abbrev HX a b c d e:=BX a (DV b c d e)
abbrev IS a b:=IP (BU a) b
abbrev HG a b:=IS a (BU b)
abbrev CO a b c d e f:=HX a (HG b c) d e f
abbrev BF a b:=AQ (BI a) b
abbrev BD a b:=BF a (BI b)
abbrev KP a b:=AQ (BA a) b
abbrev NQ a b:=KP a (BA b)
abbrev AE a b c:=And a (And b c)
abbrev JG a b c d:=AE a b (CM c d)
abbrev JP a b c d e:=JG a b (JV c d) e
abbrev LX a b c d e f:=JP a b c d (JV e f)
abbrev DU a b c d e:=LX a b c d c e
abbrev JI a b c:=And (DH a b) c
abbrev ZX a b c d e f:=DU a (JI b c d) c e f
abbrev LH a b c d e:=ZX a b c d b e
abbrev Zc a b:=hd40 (Ro a) b
abbrev AN a b c d:=And a (AE b c d)
abbrev AG a b c d e:=AE a b (AE c d e)
abbrev H8 a b c d:=AG a b c d d
abbrev AF a:=AQ a a
abbrev MF:=WF 0
abbrev AJ:=AF MF
abbrev MX a b:=BI (LU a b)
abbrev EM a b:=BA (LU a b)
abbrev FL a b:=AQ (BU a) b
abbrev GF a b:=HK (PG a b)
abbrev FZ a:=GF a 1
abbrev CJ a:=FZ (BU a)
abbrev BH a b:=FL a (CJ b)
abbrev BW a:=AF (BU a)
abbrev Mg a:=BW (CU a)
abbrev BE a b c:=BX (CM a b) c
abbrev BS a b c d:=BE a b (And c d)
abbrev CG a:=BD a a
abbrev ZD a b:=CG (LU a b)
abbrev CY a:=AF (BA a)
abbrev ZC a b:=CY (LU a b)
abbrev TW a b:=BS a (CU b) (ZC b a) (ZD b a)
abbrev IZ a:=AC (λ i=>TW i a)
abbrev BC a:=CE a a
abbrev NO a:=BC (CU a)
abbrev DW a b:=LS a (BU b)
abbrev GR a b c:=And a (DW b c)
abbrev DC a:=HD 0 a
abbrev GQ a b c:=GR (DC a) b c
abbrev LV a b c:=GQ (BU a) b c
abbrev DG a b:=LV a (BU a) b
abbrev ZW a b:=DG a (CU b)
abbrev ML a b c d:=AE a (DH b c) d
abbrev BR a:=FL a 0
attribute [go_sem] hd25 CE CU iD AC BX CM AQ LU BU YP Ro WF DH hd40 hd41 hd43 hd44 DX IP HD LS PG WK Nm JV DV HX IS HG CO BF BD KP NQ AE JG JP LX DU JI ZX LH Zc AN AG H8 AF MF AJ MX EM FL GF FZ CJ BH BW Mg BE BS CG ZD CY ZC TW IZ BC NO DW GR DC GQ LV DG ZW ML BR
theorem BLA (x : SL) : (BHA x) = (And (hd25 (λ i=>ML (AN (NO (iD x)) (IZ (iD x)) (Mg (iD x)) (H8 (BR (YP i)) (NQ (Ro i) (SL.a x)) (BD (Ro i) (SL.a x)) AJ)) (YP i) (CU (iD x)) (Zc i (hd41 hJ (SL.a x) (hd43 (YP i) (iD x)))))) (hd44 (λ i=>CO (JI (YP i) (CU (iD x)) (Zc i (hd41 hJ (SL.a x) (hd43 (YP i) (iD x))))) (YP i) (CU (iD x)) (ZW (YP i) (iD x)) (hd25 (λ j=>LH (AN (NO (iD x)) (IZ (iD x)) (Mg (iD x)) (H8 (BH (YP j) (YP i)) (KP (Ro j) (WK (BA (Ro i)) (EM (iD x) (YP i)))) (BF (Ro j) (Nm (BI (Ro i)) (MX (iD x) (YP i)))) AJ)) (YP j) (CU (iD x)) (Zc j (hd41 hJ (SL.a x) (hd43 (YP j) (iD x)))) (YP i))) (And (NQ (comM x) (Ro i)) (BD (comM x) (Ro i)))))) := by kernel_rfl
theorem BQM (x : SL) (h : x.l.length < 4611686018427387904) : BHA x := by
 rw [BLA]<;> delta BA BI OH PR hd25 CE CU iD AC BX CM AQ LU BU YP Ro WF DH hd40 hd41 hd43 hd44 DX IP HD LS PG WK Nm JV AE AG BF BE BD AF CG BC H8 BS CY HK GF DW DC GR FZ EM CJ GQ AN MF FL LV JG BH JI ZC JP ZD NO DV DG LX IS HG HX DU TW AJ BR BW KP IZ CO MX NQ ZX LH ML ZW Mg Zc; try simp only [CC, eq_self, implies_true, forall_const]
 refine ⟨⟨⟨0, x.a⟩, ⟨rfl, rfl, rfl⟩, Nat.zero_le _, rfl⟩, λ s ⟨h1, h2⟩ => ⟨λ hlt => ?_, λ hge => ?_⟩⟩
 ·have hlt : s.k < x.l.length := by omega
  refine ⟨by omega, ⟨s.k + 1, hJ s.m (gD x.l s.k)⟩, ⟨(FH (by omega)).symm, rfl, rfl⟩, ⟨by show s.k + 1 <= _; omega, ?_⟩, by show x.l.length - (s.k + 1) < _; omega⟩
  show hJ s.m (gD x.l s.k) = _
  rw [bU hlt, List.foldl_append, <- h2]; rfl
 ·rw [h2, List.take_of_length_le (by omega)]; exact ⟨rfl, rfl⟩
theorem AYH : AK Try.prog uE (C_com.spec AUK) := XM C_com BHT [] [] ATG (λ _ => by kernel_rfl) (λ _ => AD) (λ x h => BQM x (of_decide_eq_true h)) (λ _ => YR rfl rfl) _
end Go.Bal
