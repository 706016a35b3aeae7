/- Package rating: the order of gaugings. -/
import Derived.Test.YtoihhodbkimedaaRatQ
set_option linter.unusedVariables false
set_option linter.unusedSimpArgs false
namespace Go.Bal
open Go Go.Sym Go.Proofs
structure GAB where
 g : List Gau
 a : Int
 b : Int
def MI (g : List Gau) (x : Int) : Int := (gD g x.toNat).st
def bxG (g : List Gau) : AObj := .box [.d (DX g)]
def dGAB : List AVal -> Heap -> Option (GAB × List (Nat × Nat) × List Nat)
 | [.d x, .d y, .bptr id _], H => match H id with
  | .live (.box [.d (.list _ n h _)]) => some (⟨OC n λ i => Ux (h i), JD x, JD y⟩, [(100, id)], [])
  | _ => none
 | _, _ => none
def C_fw1 : Ctr := { ro := [100], α := GAB, xs := λ a => [.int a.a, .int a.b, .bptr 100 0], L := λ a => [(100, bxG a.g)], val := λ a => .int (Lh (MI a.g a.a) (MI a.g a.b)), keep := λ a => [(100, .live (bxG a.g))], pre := λ a => [(0 <= a.a /\ a.a < a.g.length) /\ 0 <= a.b /\ a.b < a.g.length] }
def BYU : Ann := { ann 17 [(qL, G9)] with E := [100] }
def BYN (a : GAB) : Prop := CH Try.prog BYU AFI (AI AFI) (C_fw1.xs a) (AD (C_fw1.L a)) (C_fw1.val a) (C_fw1.keep a) [] []
abbrev xL:=GAB.g
abbrev Sg:=MI
attribute [go_sem] xL Sg
theorem CDA (a : GAB) : (BYN a) = (MV (AE (Cv (GAB.a a) (xL a)) (CA (GAB.b a)) (DT (GAB.b a) (FQ (xL a)))) (AO (Jd (Sg (xL a) (GAB.a a)) (Sg (xL a) (GAB.b a))) (Jd (AX (xL a) (GF (GAB.a a))) (AX (xL a) (GF (GAB.b a))))) (xL a) (CB (xL a))) := by kernel_rfl
def rowI (l : List Int) : AObj := .row 1 l.length λ i => PT (gD l i)
def CHS (n : Nat) (l : List Int) : AObj := .row 1 n λ i => PT (gD l i)
def swL (l : List Int) (j : Nat) : List Int := (l.set j (gD l (j + 1))).set (j + 1) (gD l j)
def dV (key : Int -> Int) : Nat -> List Int -> List Int
 | 0, l => l
 | j + 1, l => bif decide (Lh (key (gD l (j + 1))) (key (gD l j)) < 0) then dV key j (swL l j) else l
def stR (key : Int -> Int) : Nat -> Nat -> List Int -> List Int
 | 0, _, l => l
 | n + 1, i, l => stR key n (i + 1) (dV key i l)
def stM (key : Int -> Int) (l : List Int) : List Int := stR key (l.length - 1) 1 l
structure GL where
 g : List Gau
 l : List Int
 a : Int
 b : Int
structure IL2 where
 i : Nat
 l : List Int
 deriving Inhabited
structure IJL where
 i : Nat
 j : Nat
 l : List Int
 deriving Inhabited
def fnW1 : AVal := .fn (.func Qk) [] [.bptr 101 0]
def glK (a : GL) (l : List Int) : List (Nat × HCell) := [(100, .live (CHS a.l.length l)), (101, .live (bxG a.g))]
def glIn (a : GL) (l : List Int) : Prop := l.length = a.l.length /\ ∀ i, i < a.l.length -> 0 <= gD l i /\ gD l i < a.g.length
def glOk (a : GL) : Prop := a.l.length < 1073741824 /\ ∀ i, i < a.l.length -> 0 <= gD a.l i /\ gD a.l i < a.g.length
def dGL : List AVal -> Heap -> Option (GL × List (Nat × Nat) × List Nat)
 | [.own id _ _ n, .d x, .d y, .fn (.func f) [] [.bptr c _]], H => if f = Qk then match H id, H c with
  | .live (.row _ m r), .live (.box [.d (.list _ k h _)]) => some (⟨OC k λ i => Ux (h i), OC n λ i => JD (r i), JD x, JD y⟩, [(100, id), (101, c)], [])
  | _, _ => none else none
 | _, _ => none
def C_ins : Ctr := { ro := [101], α := GL, xs := λ a => [.own 100 1 0 a.l.length, .int a.a, .int a.b, fnW1], L := λ a => [(100, rowI a.l), (101, bxG a.g)], val := λ _ => .d (.tup []), keep := λ a => glK a (stM (MI a.g) a.l), pre := λ a => [(a.a = 0 /\ a.b = a.l.length) /\ glOk a] }
def ins1 (a : GL) : Shape := { α := IL2, dflt := default, T := λ x => ⟨[(0, .own 100 1 0 a.l.length), (1, .int 0), (2, .int a.l.length), (3, fnW1), (8, .int x.i)], glK a x.l⟩, inv := λ x => 1 <= x.i /\ (x.i <= a.l.length ∨ x.i = 1) /\ glIn a x.l /\ stM (MI a.g) a.l = stR (MI a.g) (a.l.length - x.i) x.i x.l, meas := λ x => a.l.length - x.i }
def ins4 (a : GL) (m : Nat) : Shape := { α := IJL, dflt := default, T := λ x => ⟨[(0, .own 100 1 0 a.l.length), (1, .int 0), (2, .int a.l.length), (3, fnW1), (8, .int x.i), (9, .int x.j)], glK a x.l⟩, inv := λ x => a.l.length - x.i = m /\ 1 <= x.i /\ x.i < a.l.length /\ x.j <= x.i /\ glIn a x.l /\ stM (MI a.g) a.l = stR (MI a.g) (a.l.length - (x.i + 1)) (x.i + 1) (dV (MI a.g) x.j x.l), meas := λ x => x.j }
def BZY (a : GL) : Ann := { ann 53 [(Qk, C_fw1.spec dGAB)] with E := [100, 101], loops := λ id => if id = 1 then some [ins1 a] else none, inner := λ gs id => if id = 4 then some [ins4 a (gs.getD 0 0)] else none }
def BZR (a : GL) : Prop := CH Try.prog (BZY a) BEJ (AI BEJ) [.own 100 1 0 a.l.length, .int 0, .int a.l.length, fnW1] (AD (C_ins.L a)) (C_ins.val a) (C_ins.keep a) [] []
abbrev AOT:=@Exists IL2
abbrev LY:=GL.l
abbrev SR:=IL2.i
abbrev SV:=IL2.l
abbrev KA:=GL.g
abbrev AAR:=@Eq (List Int)
abbrev BCK:=λ (f : IL2 -> Prop) => ∀ (x : IL2), f x
abbrev AOQ:=@Exists IJL
abbrev RF:=IJL.i
abbrev OA:=IJL.j
abbrev VW:=IJL.l
abbrev AZQ:=λ (f : IJL -> Prop) => ∀ (x : IJL), f x
abbrev Jy a:=Sg (KA a)
abbrev Lf a b:=stM (Jy a) (LY b)
abbrev Bc a:=GN (LY a)
abbrev YR a b c d e:=QF a b (FA c d e)
abbrev lA a b:=VL (LY a) b
abbrev fR a b:=lA a (SR b)
abbrev Gs a b c d e:=AAR a (stR b c d e)
abbrev ZU a b c d e:=CZ a b (Gu c d e)
abbrev Du a b:=CO a (LY b)
abbrev nK a:=HC (SR a)
abbrev lN a:=QW (SR a)
abbrev St a:=AS (KA a)
abbrev Mk a:=OY (LY a)
abbrev Hr a:=KF (RF a)
abbrev Ks a:=CX (LY a)
abbrev lL a:=QW (RF a)
abbrev TL a b c d:=Ie (Is a b) c d
abbrev Od a b:=EM (VW a) b
abbrev Sx a:=CF (GF (Mb a))
abbrev VS a:=Sx (OA a)
abbrev Ba a:=CF (OA a)
abbrev Te a:=FP (LY a)
abbrev nI a:=Mb (OA a)
abbrev RY a:=AU (KA a)
abbrev Hf a:=Db (OA a)
attribute [go_sem] AOT LY SR SV KA AAR BCK AOQ RF OA VW AZQ Jy Lf Bc YR lA fR Gs ZU Du nK lN St Mk Hr Ks lL TL Od Sx VS Ba Te nI RY Hf
theorem CFE (a : GL) : (BZR a) = (And (AOT (λ i=>AJ (DD AC (Bc a) BA (Mk a) (JE (SR i) 0) (Bc a) (λ j=>FC j (LY a) (SV i) j (LY a)) (St a) (λ j=>HD j (KA a))) (lN i) (Or (EL (SR i) (LY a)) (nK i)) (EP (Du (SV i) a) (λ j=>ZU j (LY a) (SV i) j (KA a))) (Gs (Lf a a) (Jy a) (fR a i) (SR i) (SV i)))) (BCK (λ i=>SC (AH (lN i) (Or (EL (SR i) (LY a)) (nK i)) (EP (Du (SV i) a) (λ j=>ZU j (LY a) (SV i) j (KA a))) (Gs (Lf a a) (Jy a) (fR a i) (SR i) (SV i))) (SR i) (Te a) (AOQ (λ j=>DS (SO (DD (Bc a) BA (Mk a) (EA (RF j) (SR i)) (EA (OA j) (SR i)) (Bc a) (λ k=>FC k (LY a) (VW j) k (SV i)) (St a) (λ k=>HD k (KA a)))) (AT (lA a (RF j)) (fR a i)) (lL j) (CM (RF j) (Ks a)) (DB (OA j) (RF j)) (EP (Du (VW j) a) (λ k=>ZU k (LY a) (VW j) k (KA a))) (Gs (Lf a a) (Jy a) (lA a (Hr j)) (Hr j) (dV (Jy a) (OA j) (VW j))))) (AZQ (λ j=>YR (QA (AT (lA a (RF j)) (fR a i)) (lL j) (CM (RF j) (Ks a)) (OA j) (RF j) (EP (Du (VW j) a) (λ k=>ZU k (LY a) (VW j) k (KA a))) (Gs (Lf a a) (Jy a) (lA a (Hr j)) (Hr j) (dV (Jy a) (OA j) (VW j)))) (AJ (RW (Hf j) (BK (OA j)) (Te a)) (MY (Hf j) (JU (Ba j) (Ks a))) (RW (Hf j) (nI j) (Te a)) (MY (Hf j) (JU (VS j) (Ks a))) (MY (Hf j) (MH (MX (VW j) (Ba j)) (MX (VW j) (VS j)) (BR (KA a)) (BW (KA a)) (AW (KA a) (RY a)) (BE (KA a) (RY a)) (Gu (VW j) (Ba j) (RY a)) (Od j (VS j)) (DT (Od j (VS j)) (FQ (RY a)))))) (Ap (Hf j) (Jd (Sg (RY a) (Od j (Ba j))) (Sg (RY a) (Od j (VS j)))) 0) (IR (JM (nI j) (Te a)) (CM (VS j) (Ks a)) (GA (OA j) (Te a)) (Ia (CM (Ba j) (Ks a)) (GA (OA j) (Te a)) (JM (nI j) (Te a)) (JU (VS j) (Ks a))) (AOQ (λ k=>CJ (SO (DD (Bc a) BA (Mk a) (EA (RF k) (RF j)) (NU (OA k) (OA j)) (Bc a) (λ l=>Yu l (LY a) (VW k) l (TL l (VS j) (Od j (Ba j)) (TL l (Ba j) (Od j (VS j)) (Od j l)))) (St a) (λ l=>HD l (KA a)))) (QA (AT (lA a (RF k)) (fR a i)) (lL k) (CM (RF k) (Ks a)) (OA k) (RF k) (EP (Du (VW k) a) (λ l=>ZU l (LY a) (VW k) l (KA a))) (Gs (Lf a a) (Jy a) (lA a (Hr k)) (Hr k) (dV (Jy a) (OA k) (VW k)))) (OA k) (OA j)))) (AOT (λ k=>FU (DD AC (Bc a) BA (Mk a) (BJ (SR k) (RF j)) (Bc a) (λ l=>FC l (LY a) (SV k) l (VW j)) (St a) (λ l=>HD l (KA a))) (lN k) (Or (EL (SR k) (LY a)) (nK k)) (EP (Du (SV k) a) (λ l=>ZU l (LY a) (SV k) l (KA a))) (Gs (Lf a a) (Jy a) (fR a k) (SR k) (SV k)) (fR a k) (fR a i))))) (MV (Bc a) (AG (λ j=>FC j (LY a) (Lf a a) j (SV i))) (KA a) (CB (KA a)))))) := by kernel_rfl
def dGLs : List AVal -> Heap -> Option (GL × List (Nat × Nat) × List Nat)
 | [.own id _ _ n, .d x, .fn (.func f) [] [.bptr c _]], H => if f = Qk then match H id, H c with
  | .live (.row _ m r), .live (.box [.d (.list _ k h _)]) => some (⟨OC k λ i => Ux (h i), OC n λ i => JD (r i), JD x, 0⟩, [(100, id), (101, c)], [])
  | _, _ => none else none
 | _, _ => none
def C_stb : Ctr := { ro := [101], α := GL, xs := λ a => [.own 100 1 0 a.l.length, .int a.a, fnW1], L := λ a => [(100, rowI a.l), (101, bxG a.g)], val := λ _ => .d (.tup []), keep := λ a => glK a (stM (MI a.g) a.l), pre := λ a => [(a.a = a.l.length /\ a.l.length < 20) /\ glOk a] }
def sb (a : GL) (l : List Int) (r : List (Nat × AVal)) : Shape := { α := One, dflt := default, T := λ _ => ⟨[(0, .own 100 1 0 a.l.length), (1, .int a.l.length), (2, fnW1), (6, .int 20)] ++ r, glK a l⟩, inv := λ _ => True, meas := λ _ => 0 }
def CAY (a : GL) : Ann := { ann 63 [(AYS, C_ins.spec dGL)] with E := [100, 101], loops := λ id => if id = 2 then some [sb a a.l [(7, .int 0), (8, .int 20)]] else if id = 7 then some [sb a (stM (MI a.g) a.l) []] else none }
def BYM (a : GL) : Prop := CH Try.prog (CAY a) BMJ (AI BMJ) [.own 100 1 0 a.l.length, .int a.l.length, fnW1] (AD (C_stb.L a)) (C_stb.val a) (C_stb.keep a) [] []
abbrev Y7:=@HMod.hMod Nat Nat Nat (@instHMod Nat Nat.instMod)
abbrev ABY:=IntKind.bits
abbrev JW a:=QK (LY a)
abbrev Qp:=UQ 20
attribute [go_sem] Y7 ABY JW Qp
theorem CCJ (a : GL) : (BYM a) = (And (LP (SO (KJ (Bc a) (Mk a) Qp BA Qp (Bc a) (LL (LY a)) (St a) (λ i=>HD i (KA a))))) (NR (λ i=>Lc EF (hd7 20 (Te a)) (And (AJ AC (Du (JW a) a) Aj (FH 20 20) (KJ (Du (JW a) a) (CE (JW a) (LY a)) (BR (KA a)) (BW (KA a)) (AW (KA a) (RY a)) (BE (KA a) (RY a)) (EB Aj 20 (FP (JW a))) (RD (JW a)) (λ j=>ZU j (JW a) (JW a) j (RY a)))) (WH (λ j=>CJ (SO (KJ (Bc a) (Mk a) Qp (Pd 0 20) (Pd 20 (Y7 (KT 20 20) (wW (Jx (ABY PD))))) (CO (LY a) (JW a)) (CE (LY a) (stM (Sg (RY a)) (JW a))) (St a) (λ k=>HD k (KA a)))) EF 0 0))) (AE (AJ AC (Du (JW a) a) Aj (Mk a) (KJ (Du (JW a) a) (CE (JW a) (LY a)) (BR (KA a)) (BW (KA a)) (AW (KA a) (RY a)) (BE (KA a) (RY a)) (And Aj (ED (Ks a) (FP (JW a)))) (RD (JW a)) (λ j=>ZU j (JW a) (JW a) j (RY a)))) (LP (BI AC (Bc a) (Mk a) Qp (CO (LY a) (JW a)) (AG (λ j=>FC j (LY a) (Lf a a) j (stM (Sg (RY a)) (JW a)))) (St a) (CB (KA a)))) (NR (λ j=>EZ EF 20 (Te a) WQ (MV (Bc a) (AG (λ k=>Ma k (LY a) (Lf a a) k)) (KA a) (CB (KA a))))))))) := by kernel_rfl
def dGLt : List AVal -> Heap -> Option (GL × List (Nat × Nat) × List Nat)
 | [.own id _ _ n, .fn (.func f) [] [.bptr c _]], H => if f = Qk then match H id, H c with
  | .live (.row _ m r), .live (.box [.d (.list _ k h _)]) => some (⟨OC k λ i => Ux (h i), OC n λ i => JD (r i), 0, 0⟩, [(100, id), (101, c)], [])
  | _, _ => none else none
 | _, _ => none
def C_ss : Ctr := { ro := [101], α := GL, xs := λ a => [.own 100 1 0 a.l.length, fnW1], L := λ a => [(100, rowI a.l), (101, bxG a.g)], val := λ _ => .d (.tup []), keep := λ a => glK a (stM (MI a.g) a.l), pre := λ a => [a.l.length < 20 /\ glOk a] }
def A_ss : Ann := { ann 9 [(BJO, C_stb.spec dGLs)] with E := [100, 101] }
def V_ss (a : GL) : Prop := CH Try.prog A_ss BUB (AI BUB) (C_ss.xs a) (AD (C_ss.L a)) (C_ss.val a) (C_ss.keep a) [] []
theorem CHU (a : GL) : (V_ss a) = (HX (AH AC (Du (JW a) a) (Mk a) (KJ (Du (JW a) a) (CE (JW a) (LY a)) (BR (KA a)) (BW (KA a)) (AW (KA a) (RY a)) (BE (KA a) (RY a)) (Ky (ED (Ks a) (FP (JW a))) (JW a) 20) (RD (JW a)) (λ i=>ZU i (JW a) (JW a) i (RY a)))) (CO (LY a) (JW a)) (λ i=>FC i (LY a) (Lf a a) i (stM (Sg (RY a)) (JW a))) (St a) (CB (KA a))) := by kernel_rfl
theorem CDI : AL Try.prog Qk (C_fw1.spec dGAB) := Ih C_fw1 (λ _ => BYU) [] [] BCW (λ _ => by kernel_rfl) (λ _ => AB AKI AF) (λ (a : GAB) h => by
 show BYN a; rw [CDA]<;> delta GH HK FK AO Jd AT AG CG CM BK DW DT DM GP GF xL Sg AE FQ AP AK BO AX AH BH CY BN CL CA IG AS JM MK Cv HD CB MV; simp only [CC, eq_self, implies_true, forall_const]
 exact ⟨h, rfl⟩) (λ _ => Jf rfl rfl) _
theorem BIM {l : List Int} {j i : Nat} {x : Int} (hj : j < l.length) : gD (l.set j x) i = bif decide (i = j) then x else gD l i := by
 unfold gD
 rw [List.getD_eq_getElem?_getD, List.getD_eq_getElem?_getD, List.getElem?_set]
 by_cases h : i = j
 ·subst h; simp [hj]
 ·simp [h, Ne.symm h]
theorem Z2 {l : List Int} {j i : Nat} (hj : j + 1 < l.length) : gD (swL l j) i = bif decide (i = j) then gD l (j + 1) else bif decide (i = j + 1) then gD l j else gD l i := by
 unfold swL
 rw [BIM (by simpa using hj), BIM (by omega)]
 by_cases h : i = j
 ·subst h; simp
 ·simp [h]
theorem AFW (l : List Int) (j : Nat) : (swL l j).length = l.length := by simp [swL]
theorem CIH (a : GL) (h : glOk a) : BZR a := by
 rw [CFE]<;> delta KY hd5 Dc GH HK FK KN PN FA AO Jd ZR AT CX AG CG CM EM BK DB DW DT QP PD RO FM Ah YC DM GP GF Il KT Ie Is Sg AOT LY SR SV KA AAR BCK AOQ RF OA VW AZQ AE FQ AJ AP DR AU AK BO Ia DK AX AQ AH BH TA CY BN CL CZ CA KF DP FT GI AC BB ED IG HI CQ EP DF FP MX CF FC DG EN AW AY LW CJ DE DN AS EO EA DS DY GN MY QJ JM EU FE DV FG MK CO KJ UQ QF JE HG IF VL Cv FB HD Mb BE CB BA BW DD EZ RW BJ BR Sx QW DH HC Cz EL Db Gu VS GA OY Ba JU FU Yu Jy NU RY IR Bc MV TL lA QA Hf Hr Du SO Ks Od SC Lf MH Gs Ap Mk St Te ZU fR YR nK nI lL lN; simp only [CC, eq_self, implies_true, forall_const]
 obtain ⟨hlen, hin⟩ := h
 refine ⟨⟨⟨1, a.l⟩, ⟨by show (1 : Int) = _; rw [LS (by omega) (by omega)]; rfl, λ _ _ => rfl⟩, Nat.one_pos, .inr rfl, ⟨rfl, hin⟩, rfl⟩, λ x ⟨x1, x2, ⟨x3, x4⟩, x5⟩ => ⟨λ hlt => ⟨⟨⟨x.i, x.i, x.l⟩, ⟨rfl, rfl, λ _ _ => rfl⟩, rfl, x1, Int.ofNat_lt.1 hlt, Nat.le_refl _, ⟨x3, x4⟩, ?_⟩, λ y ⟨y1, y2, y3, y4, ⟨y5, y6⟩, y7⟩ => ?_⟩, λ hge => ?_⟩⟩
 ·rw [x5, show a.l.length - x.i = (a.l.length - (x.i + 1)) + 1 by omega]; rfl
 ·refine ⟨⟨λ _ => ⟨by omega, by omega⟩, λ _ => by omega, λ hj => ?_, λ hj => ?_, λ hj => ⟨y6 _ (by omega), ?_⟩⟩, λ hc => ?_, λ hc => ?_⟩
  ·rw [LS (by omega) (by omega)]; omega
  ·rw [LS (by omega) (by omega)]; omega
  ·rw [LS (by omega) (by omega)]; exact y6 _ (by omega)
  ·have hj : 0 < y.j := by
    cases hd : decide ((y.j : Int) > 0) with
    | false => rw [hd] at hc; cases hc
    | true => have := of_decide_eq_true hd; omega
   obtain ⟨j, hj2⟩ : ∃ j, y.j = j + 1 := ⟨y.j - 1, by omega⟩
   have e : IntKind.i64.wrap ((y.j : Int) - 1) = (j : Nat) := by rw [LS (by omega) (by omega)]; omega
   rw [decide_eq_true (show (y.j : Int) > 0 by omega)] at hc
   have hc : decide (Lh (MI a.g (gD y.l y.j)) (MI a.g (gD y.l (IntKind.i64.wrap ((y.j : Int) - 1)).toNat)) < 0) = true := hc
   rw [e] at hc ⊢
   simp only [Int.toNat_natCast] at hc ⊢
   refine ⟨⟨⟨by omega, by omega⟩, by omega, ⟨by omega, by omega⟩, by omega, ⟨by omega, by omega⟩, by omega, ⟨by omega, by omega⟩, by omega⟩, ⟨y.i, j, swL y.l j⟩, ⟨rfl, rfl, λ i hi => ?_⟩, ⟨y1, y2, y3, by show j <= y.i; omega, ⟨by rw [AFW]; exact y5, λ i hi => ?_⟩, ?_⟩, by show j < _; omega⟩
   ·show gD (swL y.l j) i = _
    rw [Z2 (by omega), hj2]
   ·show 0 <= gD (swL y.l j) i /\ gD (swL y.l j) i < _
    rw [Z2 (by omega)]
    cases decide (i = j)
    ·cases decide (i = j + 1)
     ·exact y6 i hi
     ·exact y6 j (by omega)
    ·exact y6 (j + 1) (by omega)
   ·rw [hj2] at hc y7
    unfold dV at y7
    rw [hc] at y7; exact y7
  ·have hq : dV (MI a.g) y.j y.l = y.l := by
    cases hd : decide ((y.j : Int) > 0) with
    | false =>
     have := of_decide_eq_false hd
     rw [show y.j = 0 by omega]; rfl
    | true =>
     have hj := of_decide_eq_true hd
     obtain ⟨j, hj2⟩ : ∃ j, y.j = j + 1 := ⟨y.j - 1, by omega⟩
     have e : IntKind.i64.wrap ((y.j : Int) - 1) = (j : Nat) := by rw [LS (by omega) (by omega)]; omega
     rw [hd] at hc
     have hc : decide (Lh (MI a.g (gD y.l y.j)) (MI a.g (gD y.l (IntKind.i64.wrap ((y.j : Int) - 1)).toNat)) < 0) = false := hc
     rw [e, hj2] at hc
     simp only [Int.toNat_natCast] at hc
     rw [hj2]; unfold dV; rw [hc]; rfl
   rw [hq] at y7
   refine ⟨⟨y.i + 1, y.l⟩, ⟨(EQ (by omega)).symm, λ _ _ => rfl⟩, ⟨by show 0 < y.i + 1; omega, .inl (by show y.i + 1 <= _; omega), ⟨y5, y6⟩, y7⟩, by show a.l.length - (y.i + 1) < _; omega⟩
 ·intro i hi
  rw [x5, show a.l.length - x.i = 0 by omega]; rfl
theorem CEP : AL Try.prog AYS (C_ins.spec dGL) := okT C_ins (λ (a : GL) h => by
 obtain ⟨⟨ha, hb⟩, h⟩ : (a.a = 0 /\ a.b = a.l.length) /\ glOk a := h
 show FnT Try.prog AYS [.own 100 1 0 a.l.length, .int a.a, .int a.b, fnW1] _ _ _
 rw [ha, hb]
 exact Lg (A := BZY a) (L := C_ins.L a) (keep := C_ins.keep a) (ren := []) (fz := []) BXS (by kernel_rfl) (AB CDI AF) (CIH a h)) _
theorem CCV : AL Try.prog BJO (C_stb.spec dGLs) := okT C_stb (λ (a : GL) h => by
 obtain ⟨⟨ha, hb⟩, h⟩ : (a.a = a.l.length /\ a.l.length < 20) /\ glOk a := h
 show FnT Try.prog BJO [.own 100 1 0 a.l.length, .int a.a, fnW1] _ _ _
 rw [ha]
 refine Lg (A := CAY a) (L := C_stb.L a) (keep := C_stb.keep a) (ren := []) (fz := []) CDV (by kernel_rfl) (AB CEP AF) ?_
 show BYM a
 rw [CCJ]<;> delta hd7 GH HK FK KN FA AO AT CX AG CG CM EM BK DW DT PD PQ YC wW WQ DM GP EF KT WH NR Sg LY KA Y7 ABY KK AE KC FQ AJ AP AU AK BO QS AX AQ AH BH CY BN CL CZ CA FT GI AC BB ED IG QK HI CQ DF FP MX FC DG EN AW Ma CJ DE DN AS EO DY GN JM EU FE DV HP Ir FG CE MK CO KJ UQ IF Cv FB HD LL FH BE CB BA BI BW JC EZ EB BR TN JW Gu OY RD Jy RY Lc LP Bc MV Du Aj SO Ks Lf Qp Mk St Te ZU Jx Pd; simp only [CC, eq_self, implies_true, forall_const]
 exact ⟨⟨default, trivial⟩, λ hc => by omega, λ _ => ⟨⟨rfl, rfl, h⟩, ⟨default, trivial⟩, λ hc => by omega⟩⟩) _
theorem BZT : AL Try.prog BOH (C_ss.spec dGLt) := Ih C_ss (λ _ => A_ss) [] [] CBV (λ _ => by kernel_rfl) (λ _ => AB CCV AF) (λ (a : GL) h => by
 show V_ss a; rw [CHU]<;> delta GH HK FK AO AT CX AG CG CM EM BK DW DT PQ DM GP Sg LY KA KK AE KC FQ AJ AP AU AK BO QS AX AQ AH BH CY BN CL CZ CA FT GI AC BB ED IG QK HI CQ DF FP FC DG EN AW DE DN AS EO DY Kc JM EU FE DV HP FG CE MK CO KJ Cv FB HD BE CB BW JC BR JW Gu OY RD HX Jy RY Du Ks Lf Mk St ZU Ky; simp only [CC, eq_self, implies_true, forall_const]
 exact h) (λ _ => Jf rfl rfl) _
end Go.Bal
