/- Package rating: every. Printed by genratE.py. -/
import Derived.Test.YtoihhodbkimedaaRatA
set_option linter.unusedVariables false
set_option linter.unusedSimpArgs false
namespace Go.Bal
open Go Go.Sym Go.Proofs
def allB (p : Nat -> Bool) : Nat -> Bool
 | 0 => true
 | n + 1 => allB p n && p n
theorem APZ {p : Nat -> Bool} : ∀ {n : Nat}, allB p n = true ↔ ∀ i, i < n -> p i = true
 | 0 => by simp [allB]
 | n + 1 => by
  simp only [allB, Bool.and_eq_true, APZ (n := n)]
  constructor
  ·intro h i hi
   by_cases he : i = n
   ·subst he; exact h.2
   ·exact h.1 i (by omega)
  ·exact λ h => ⟨λ i hi => h i (by omega), h n (by omega)⟩
theorem BCY {p : Nat -> Bool} : ∀ {n k : Nat}, (0 <= fY p n k) ↔ ∃ i, k <= i /\ i < k + n /\ p i = true
 | 0, k => by simp [fY]; omega
 | n + 1, k => by
  simp only [fY]
  by_cases h : p k = true
  ·rw [if_pos h]
   constructor
   ·intro _; exact ⟨k, Nat.le_refl _, by omega, h⟩
   ·intro _; omega
  ·rw [if_neg h, BCY (n := n) (k := k + 1)]
   constructor
   ·rintro ⟨i, h1, h2, h3⟩; exact ⟨i, by omega, by omega, h3⟩
   ·rintro ⟨i, h1, h2, h3⟩
    refine ⟨i, ?_, by omega, h3⟩
    by_cases he : i = k
    ·subst he; exact absurd h3 h
    ·omega
theorem BNS {p : Nat -> Bool} {n : Nat} : (!decide (0 <= fY (λ i => !p i) n 0)) = allB p n := by
 rw [Bool.eq_iff_iff, APZ]
 simp only [Bool.not_eq_true', decide_eq_false_iff_not, BCY, Nat.zero_le, Nat.zero_add, true_and]
 constructor
 ·intro h i hi
  cases hp : p i with
  | true => rfl
  | false => exact (h ⟨i, hi, by simp [hp]⟩).elim
 ·rintro h ⟨i, hi, hp⟩
  rw [h i hi] at hp; cases hp
theorem AIH {α : Type} [Inhabited α] {p : α -> Bool} {l : List α} : (!decide (0 <= fY (λ i => !p (gD l i)) l.length 0)) = l.all p := by
 rw [BNS, Bool.eq_iff_iff, APZ, List.all_eq_true]
 exact ⟨λ h x hx => by obtain ⟨i, hi, rfl⟩ := YL hx; exact h i hi, λ h i hi => h _ (DU hi)⟩
structure LInt where
 q : List Gau
 e : Int
def C_nm1 : Ctr := { ro := [101], α := LInt, xs := λ a => [.int a.e, .bptr 101 0], L := λ a => [(101, .box [.d (DX a.q)])], val := λ a => .bool (Cb a.e 0 (wr (a.q.length - 1))), keep := λ a => [(101, .live (.box [.d (DX a.q)]))] }
def CBH : List AVal -> Heap -> Option (LInt × List (Nat × Nat) × List Nat)
 | [.d d, .bptr id _], H => match H id with
  | .live (.box [.d (.list _ n g _)]) => some (⟨OC n λ i => Ux (g i), JD d⟩, [(101, id)], [])
  | _ => none
 | _, _ => none
def CAO : Ann := { ann 9 [(n_in, s_in)] with E := [101] }
def CAA (a : LInt) : Prop := CH Try.prog CAO ARK (AI ARK) (C_nm1.xs a) (AD (C_nm1.L a)) (C_nm1.val a) (C_nm1.keep a) [] []
abbrev DM:=@List.length Gau
abbrev GP:=@gD Gau instInhabitedGau
abbrev CY a b c:=AP a (DM b) c
abbrev CL a b c d e:=CY a b (AE c d e)
abbrev BN a b:=FK (GP a b)
abbrev BH a b:=HK (GP a b)
abbrev MK a b c d e f g:=CL a b (AK c) (AK (BH d e)) (AK (BN f g))
abbrev AX a b:=GH (GP a b)
abbrev HD a b:=MK a b (AX b a) b a b a
abbrev CB a:=AG (λ i=>HD i a)
abbrev AS a:=BO (DM a)
abbrev FQ a:=BK (DM a)
abbrev Xq a:=QJ (FQ a)
abbrev Qb a b:=NE a (wr (Ah (FQ b) 1))
attribute [go_sem] DM GP CY CL BN BH MK AX HD CB AS FQ Xq Qb
theorem CCE (a : LInt) : (CAA a) = (AE (KY (Qb (LInt.e a) (LInt.q a)) (NE (LInt.e a) (Xq (LInt.q a)))) (AS (LInt.q a)) (CB (LInt.q a))) := by kernel_rfl
theorem CBT : AL Try.prog ACA (C_nm1.spec CBH) := Ih C_nm1 (λ _ => CAO) [] [] BKZ (λ _ => by kernel_rfl) (λ _ => AB qF AF) (λ (a : LInt) _ => by
 show CAA a; rw [CCE]<;> delta KY GH HK FK AO AT AG CG CM BK QP PD Ah DM GP AE FQ AP DR AK BO AX BH TA CY BN CL AS QJ MK HD CB NE Qb Xq; simp [wr, Eo]) (λ _ => Jf rfl rfl) _
def fvGr (q : One) : AVal := .fn (.func BGO) [] []
def BGr (q : One) : AObj := .box [fvGr q]
structure EGr where
 q : One
 e : Gau
structure MGr where
 q : One
 l : List Gau
def C1Gr : Ctr := { ro := [100], α := EGr, xs := λ a => [.d (eGau a.e), .bptr 100 0], L := λ a => (100, BGr a.q) :: [], val := λ a => .bool (!riG a.e), keep := λ a => (100, .live (BGr a.q)) :: [] }
def d1Gr : List AVal -> Heap -> Option (EGr × List (Nat × Nat) × List Nat)
 | [.d d, .bptr id _], H => some (⟨default, Ux d⟩, [(100, id)], [])
 | _, _ => none
def A1Gr : Ann := { ann 8 [(BGO, BZP)] with E := [100] }
def V1Gr (a : EGr) : Prop := CH Try.prog A1Gr BAL (AI BAL) (C1Gr.xs a) (AD (C1Gr.L a)) (C1Gr.val a) (C1Gr.keep a) [] []
theorem CIF (a : EGr) : (V1Gr a) = (JQ (not (riG (EGr.e a)))) := by kernel_rfl
theorem CFM : AL Try.prog Z7 (C1Gr.spec d1Gr) := Ih C1Gr (λ _ => A1Gr) [] [] BQV (λ _ => by kernel_rfl) (λ _ => AB CES AF) (λ (a : EGr) h => by
 show V1Gr a; rw [CIF]<;> delta KY JQ; try simp [wr, Eo]) (λ _ => Jf rfl rfl) _
def d2Gr : List AVal -> Heap -> Option (MGr × List (Nat × Nat) × List Nat)
 | [y, .fn _ _ [.bptr id _]], H => match dRow y H with
  | some (n, g, f) => some (⟨default, OC n λ i => Ux (g i)⟩, [(100, id)], f)
  | none => none
 | _, _ => none
def A2Gr (a : MGr) : Ann := { ann 19 [(Z7, C1Gr.spec d1Gr)] with E := [100], loops := λ id => if id = 2 then some [{ α := Nat, dflt := 0, T := λ k => ⟨[(0, .d (DX a.l)), (1, .fn (.func Z7) [] [.bptr 100 0]), (7, .int a.l.length), (8, .int k)], (100, .live (BGr a.q)) :: []⟩, inv := λ k => k <= a.l.length /\ fY (λ i => !riG (gD a.l i)) a.l.length 0 = fY (λ i => !riG (gD a.l i)) (a.l.length - k) k, meas := λ k => a.l.length - k }] else none }
def PGr (a : MGr) : List Prop := [a.l.length < 4611686018427387904 /\ True]
def C2Gr : Ctr := { ro := [100], α := MGr, xs := λ a => [.d (DX a.l), .fn (.func Z7) [] [.bptr 100 0]], L := λ a => (100, BGr a.q) :: [], val := λ a => .int (fY (λ i => !riG (gD a.l i)) a.l.length 0), keep := λ a => (100, .live (BGr a.q)) :: [], pre := PGr }
def V2Gr (a : MGr) : Prop := CH Try.prog (A2Gr a) BBP (AI BBP) (C2Gr.xs a) (AD (C2Gr.L a)) (C2Gr.val a) (C2Gr.keep a) [] []
abbrev SA:=@Exists Nat
abbrev Bx:=MGr.l
abbrev EP a (b:Nat->Prop):=And a (AG b)
abbrev YS (a:Nat->Prop) (b:Nat->Prop):=EP (SA a) b
abbrev WO (a:Nat->Bool) b c:=fY (λ i=>not (a i)) b c
abbrev Vu (a:Nat->Bool) b:=WO a b 0
abbrev TR (a:Nat->Bool) b:=Vu a (DM b)
abbrev AMT a b:=riG (GP a b)
abbrev Qq a b:=AMT (Bx a) b
abbrev BC a b c d:=And a (FA b c d)
abbrev ON a b:=FM (DM a) b
abbrev IA a b:=DB a (DM b)
abbrev JS a:=AK (FQ a)
abbrev Th a b:=AK (AX a b)
abbrev Cv a b:=JM a (FQ b)
abbrev YM a b:=Cv (BK a) b
attribute [go_sem] SA Bx EP YS WO Vu TR AMT Qq BC ON IA JS Th Cv YM
theorem CGI (a : MGr) : (V2Gr a) = (YS (λ i=>JB (AH (AS (Bx a)) (CB (Bx a)) (JS (Bx a)) (CN i)) (IA i (Bx a)) (TR (λ j=>Qq a j) (Bx a)) (WO (λ j=>Qq a j) (ON (Bx a) i) i)) (λ i=>DH (EB (IA i (Bx a)) (TR (λ j=>Qq a j) (Bx a)) (WO (λ j=>Qq a j) (ON (Bx a) i) i)) i (FQ (Bx a)) (BC (AH (YM i (Bx a)) (Th (Bx a) i) (AK (BH (Bx a) i)) (AK (BN (Bx a) i))) (not (Qq a i)) (AO (TR (λ j=>Qq a j) (Bx a)) (BK i)) (SA (λ j=>CJ (AH (AS (Bx a)) (CB (Bx a)) (JS (Bx a)) (BJ j i)) (EB (IA j (Bx a)) (TR (λ k=>Qq a k) (Bx a)) (WO (λ k=>Qq a k) (ON (Bx a) j) j)) (ON (Bx a) j) (ON (Bx a) i)))) (AO (TR (λ j=>Qq a j) (Bx a)) (-1)))) := by kernel_rfl
theorem p2Gr (a : MGr) (h : EG (PGr a)) : V2Gr a := by
 obtain ⟨h, hp⟩ : a.l.length < 4611686018427387904 /\ True := h
 rw [CGI]<;> delta GH HK FK KN FA AO AT AG CG CM BK DB DW DT QP PD RO FM DM GP SA Bx AE FQ AP DR AK BO DK AX AH BH CY BN CL CA DP ED IG EP CJ AS ON JM MK IA JE IF Cv HD CB BC EZ BJ EB JS DH WO CN Vu JB TR YM AMT Qq YS Th
 simp only [CC, eq_self, implies_true, forall_const]
 refine ⟨⟨0, rfl, Nat.zero_le _, rfl⟩, λ k ⟨h1, h2⟩ => ⟨λ hlt => ?_, λ hge => ?_⟩⟩
 ·have hlt : k < a.l.length := by omega
  refine ⟨⟨by omega, by omega⟩, λ hp => ?_, λ hp => ⟨k + 1, (EQ (by omega)).symm, ⟨by omega, ?_⟩, by omega⟩⟩
  ·rw [h2]; exact ABP hlt (by simpa using hp)
  ·rw [h2]; exact AWZ hlt (by simpa using hp)
 ·rw [h2]; exact AKH (by omega)
theorem CHN : AL Try.prog BCG (C2Gr.spec d2Gr) := Ih C2Gr A2Gr [] [] BSP (λ _ => by kernel_rfl) (λ _ => AB CFM AF) p2Gr (λ _ => Jf rfl rfl) _
def C3Gr : Ctr := { C2Gr with val := λ (a : MGr) => .bool (decide (fY (λ i => !riG (gD a.l i)) a.l.length 0 >= 0)) }
def d3Gr : List AVal -> Heap -> Option (C3Gr.α × List (Nat × Nat) × List Nat) := d2Gr
def A3Gr : Ann := { ann 9 [(BCG, C2Gr.spec d2Gr)] with E := [100] }
def V3Gr (a : MGr) : Prop := CH Try.prog A3Gr BCJ (AI BCJ) (C3Gr.xs a) (AD (C3Gr.L a)) (C3Gr.val a) (C3Gr.keep a) [] []
abbrev EF:=True
abbrev IR a b c d e:=And (AH a b c d) e
abbrev YI a:=hd6 a 0
abbrev AU a:=(@OC Gau) (DM a) (λ i=>GP a i)
abbrev MN a b:=CM (DM a) b
abbrev FW a:=MN a 4611686018427387904
abbrev Av a:=FW (AU a)
abbrev DF a b c:=AO (BN a b) c
abbrev EN a b c d:=DF a b (BN c d)
abbrev EO a b c d e f g h:=CL a b c d (EN e f g h)
abbrev DV a b c d e f:=EO a b c d b a e f
abbrev DG a b c:=AO (BH a b) c
abbrev DN a b c d:=DG a b (BH c d)
abbrev EU a b c:=DN a b c b
abbrev FG a b c d e f g:=DV a b c (EU d e f) g a
abbrev DE a b c:=AO (AX a b) c
abbrev DY a b c d:=DE a b (AX c d)
abbrev FE a b c:=DY a b c b
abbrev FB a b c:=FG a b (FE b a c) b a c c
abbrev BE a b:=AG (λ i=>FB i a b)
abbrev BW a:=BE (AU a) a
abbrev CQ a b:=AT (DM a) b
abbrev AW a b:=CQ a (DM b)
abbrev BR a:=AW (AU a) a
attribute [go_sem] EF IR YI AU MN FW Av DF EN EO DV DG DN EU FG DE DY FE FB BE BW CQ AW BR
theorem CGQ (a : MGr) : (V3Gr a) = (IR (BR (Bx a)) (BW (Bx a)) (Av (Bx a)) EF (KY (YI (TR (λ i=>Qq a i) (Bx a))) (YI (TR (λ i=>AMT (AU (Bx a)) i) (AU (Bx a)))))) := by kernel_rfl
theorem CGJ : AL Try.prog BAG (C3Gr.spec d3Gr) := Ctr.spec_ok (C := C3Gr) (λ (a : MGr) h => Lg (A := A3Gr) (ren := []) (fz := []) BOO (by kernel_rfl) (AB CHN AF) (by
 obtain ⟨h, hp⟩ : a.l.length < 4611686018427387904 /\ True := h
 show V3Gr a; rw [CGQ]<;> delta KY hd6 GH HK FK AO AT AG CG CM DM GP Bx EF AE AP AU AX AH BH CY BN CL CQ DF DG EN AW DE DN EO DY EU FE DV FG MN FB BE BW BR WO FW Vu IR TR AMT Qq YI Av; simp [h, Eo])) _
def d4Gr : List AVal -> Heap -> Option (MGr × List (Nat × Nat) × List Nat)
 | [y, .fn _ _ _], H => match dRow y H with
  | some (n, g, f) => some (⟨default, OC n λ i => Ux (g i)⟩, [], f)
  | none => none
 | _, _ => none
def A4Gr : Ann := { ann 9 [(BAG, C3Gr.spec d3Gr)] with E := [] }
def C4Gr : Ctr := { ro := [], α := MGr, xs := λ a => [.d (DX a.l), fvGr a.q], L := λ a => [], val := λ a => .bool (a.l.all λ x => riG x), keep := λ a => [], pre := PGr }
def V4Gr (a : MGr) : Prop := CH Try.prog A4Gr F_eG (AI F_eG) (C4Gr.xs a) (AD (C4Gr.L a)) (C4Gr.val a) (C4Gr.keep a) [] []
theorem CHE (a : MGr) : (V4Gr a) = (((OC a.l.length λ (i : Nat) => gD a.l i).length = a.l.length /\ (∀ (i : Nat), i < (OC a.l.length λ (i : Nat) => gD a.l i).length -> (gD (OC a.l.length λ (i : Nat) => gD a.l i)
 i).st = (gD a.l i).st /\ (gD (OC a.l.length λ (i : Nat) => gD a.l i) i).lo = (gD a.l i).lo /\ (gD (OC a.l.length λ (i : Nat) => gD a.l i) i).hi = (gD a.l i).hi) /\ (OC a.l.length λ (i : Nat) => gD a.l i).length <
 4611686018427387904 /\ True) /\ (a.l.all λ (x : Gau) => riG x) = !decide (fY (λ (i : Nat) => !riG (gD (OC a.l.length λ (i : Nat) => gD a.l i) i)) (OC a.l.length λ (i : Nat) => gD a.l i).length 0 >= 0)) := by
 kernel_rfl
theorem CHG : AL Try.prog n_eG (C4Gr.spec d4Gr) := Ctr.spec_ok (C := C4Gr) (λ (a : MGr) h => Lg (A := A4Gr) (ren := []) (fz := []) CAN (by kernel_rfl) (AB CGJ AF) (by
 have h' : a.l.length < 4611686018427387904 /\ True := h
 show V4Gr a; rw [CHE]; simp only [CC, eq_self, implies_true, forall_const, ge_iff_le]
 rw [<- AIH]
 exact ⟨h'.1, rfl⟩)) _
def fvGp (q : Ln) : AVal := .fn (.func X5) [.d (eLn q)] []
def BGp (q : Ln) : AObj := .box [fvGp q]
structure EGp where
 q : Ln
 e : Gau
structure MGp where
 q : Ln
 l : List Gau
def C1Gp : Ctr := { ro := [100], α := EGp, xs := λ a => [.d (eGau a.e), .bptr 100 0], L := λ a => (100, BGp a.q) :: [], val := λ a => .bool (!KI a.q a.e), keep := λ a => (100, .live (BGp a.q)) :: [], pre := λ a => [(NJ a.q /\ XH a.e)] }
def d1Gp : List AVal -> Heap -> Option (EGp × List (Nat × Nat) × List Nat)
 | [.d d, .bptr id _], H => match H id with
  | .live (.box [.fn _ [.d x] _]) => some (⟨dLn x, Ux d⟩, [(100, id)], [])
  | _ => none
 | _, _ => none
def A1Gp : Ann := { ann 8 [(X5, BCS)] with E := [100] }
def V1Gp (a : EGp) : Prop := CH Try.prog A1Gp BAL (AI BAL) (C1Gp.xs a) (AD (C1Gp.L a)) (C1Gp.val a) (C1Gp.keep a) [] []
abbrev hd98:=EGp.q
abbrev hd99:=EGp.e
abbrev AY a b c d e f:=And a (AJ b c d e f)
abbrev Zw a:=AK (MC a)
abbrev Fv a:=AK (LU a)
abbrev Vs a:=AK (KR a)
abbrev Ur a:=AK (KZ a)
abbrev MU a:=DW (HK a) (FK a)
abbrev MS a:=CA (HK a)
attribute [go_sem] hd98 hd99 AY Zw Fv Vs Ur MU MS
theorem CFP (a : EGp) : (V1Gp a) = (AY (AY (NP (hd98 a)) (LA (hd99 a)) (LO (hd99 a)) (MS (hd99 a)) (MU (hd99 a)) (DW (FK (hd99 a)) 200000)) (JQ (not (KI (hd98 a) (hd99 a)))) (Ur (hd98 a)) (Vs (hd98 a)) (Fv (hd98 a)) (Zw (hd98 a))) := by kernel_rfl
theorem CHD : AL Try.prog Z7 (C1Gp.spec d1Gp) := Ih C1Gp (λ _ => A1Gp) [] [] BQV (λ _ => by kernel_rfl) (λ _ => AB BKW AF) (λ (a : EGp) h => by
 show V1Gp a; rw [CFP]<;> delta KY GH HK FK KZ KR LU MC AO DW DT hd98 hd99 AE AJ AK JQ CA IG AY LI JN Vs Ur Zw LO MS Fv LA MU NP; exact ⟨h, by simp⟩) (λ _ => Jf rfl rfl) _
def d2Gp : List AVal -> Heap -> Option (MGp × List (Nat × Nat) × List Nat)
 | [y, .fn _ _ [.bptr id _]], H => match dRow y H with
  | some (n, g, f) => match H id with
   | .live (.box [.fn _ [.d x] _]) => some (⟨dLn x, OC n λ i => Ux (g i)⟩, [(100, id)], f)
   | _ => none
  | none => none
 | _, _ => none
def A2Gp (a : MGp) : Ann := { ann 19 [(Z7, C1Gp.spec d1Gp)] with E := [100], loops := λ id => if id = 2 then some [{ α := Nat, dflt := 0, T := λ k => ⟨[(0, .d (DX a.l)), (1, .fn (.func Z7) [] [.bptr 100 0]), (7, .int a.l.length), (8, .int k)], (100, .live (BGp a.q)) :: []⟩, inv := λ k => k <= a.l.length /\ fY (λ i => !KI a.q (gD a.l i)) a.l.length 0 = fY (λ i => !KI a.q (gD a.l i)) (a.l.length - k) k, meas := λ k => a.l.length - k }] else none }
def PGp (a : MGp) : List Prop := [a.l.length < 4611686018427387904 /\ (∀ x ∈ a.l, (NJ a.q /\ XH x))]
def C2Gp : Ctr := { ro := [100], α := MGp, xs := λ a => [.d (DX a.l), .fn (.func Z7) [] [.bptr 100 0]], L := λ a => (100, BGp a.q) :: [], val := λ a => .int (fY (λ i => !KI a.q (gD a.l i)) a.l.length 0), keep := λ a => (100, .live (BGp a.q)) :: [], pre := PGp }
def V2Gp (a : MGp) : Prop := CH Try.prog (A2Gp a) BBP (AI BBP) (C2Gp.xs a) (AD (C2Gp.L a)) (C2Gp.val a) (C2Gp.keep a) [] []
abbrev ID:=MGp.l
abbrev pS:=MGp.q
abbrev Pq a:=Zw (pS a)
abbrev Qi a:=Fv (pS a)
abbrev Gq a:=Vs (pS a)
abbrev Gx a:=Ur (pS a)
abbrev AFQ a b:=KI (pS a) b
abbrev E0 a b c:=AFQ a (GP b c)
abbrev Mz a b c:=E0 a (ID b) c
abbrev BI a b c d e f g h:=AH a b c (AJ d e f g h)
abbrev AQ a b c d e f g h p:=AJ a b c d (AJ e f g h p)
attribute [go_sem] ID pS Pq Qi Gq Gx AFQ E0 Mz BI AQ
theorem CIA (a : MGp) : (V2Gp a) = (YS (λ i=>JB (BI (AS (ID a)) (CB (ID a)) (JS (ID a)) (CN i) (Gx a) (Gq a) (Qi a) (Pq a)) (IA i (ID a)) (TR (λ j=>Mz a a j) (ID a)) (WO (λ j=>Mz a a j) (ON (ID a) i) i)) (λ i=>DH (EB (IA i (ID a)) (TR (λ j=>Mz a a j) (ID a)) (WO (λ j=>Mz a a j) (ON (ID a) i) i)) i (FQ (ID a)) (BC (And (YM i (ID a)) (AQ (Th (ID a) i) (AK (BH (ID a) i)) (AK (BN (ID a) i)) (Gx a) (Gq a) (Qi a) (Pq a) (Gx a) (AQ (Gq a) (Qi a) (Pq a) (NP (pS a)) (CA (AX (ID a) i)) (JN (AX (ID a) i)) (CA (BH (ID a) i)) (DW (BH (ID a) i) (BN (ID a) i)) (DW (BN (ID a) i) 200000)))) (not (Mz a a i)) (AJ (AO (TR (λ j=>Mz a a j) (ID a)) (BK i)) (Gx a) (Gq a) (Qi a) (Pq a)) (SA (λ j=>CJ (BI (AS (ID a)) (CB (ID a)) (JS (ID a)) (BJ j i) (Gx a) (Gq a) (Qi a) (Pq a)) (EB (IA j (ID a)) (TR (λ k=>Mz a a k) (ID a)) (WO (λ k=>Mz a a k) (ON (ID a) j) j)) (ON (ID a) j) (ON (ID a) i)))) (AJ (AO (TR (λ j=>Mz a a j) (ID a)) (-1)) (Gx a) (Gq a) (Qi a) (Pq a)))) := by kernel_rfl
theorem p2Gp (a : MGp) (h : EG (PGp a)) : V2Gp a := by
 obtain ⟨h, hp⟩ : a.l.length < 4611686018427387904 /\ (∀ x ∈ a.l, (NJ a.q /\ XH x)) := h
 rw [CIA]<;> delta GH HK FK KZ KR LU MC KN FA AO AT AG CG CM BK DB DW DT QP PD RO FM DM GP SA ID pS AE FQ AJ AP DR AK BO DK AX AQ AH BH CY BN CL CA DP ED IG EP CJ AS ON LI JM MK IA JN JE IF Vs Cv HD Ur CB Zw BC BI Fv EZ BJ EB JS DH WO CN Vu JB TR AFQ Gx E0 Gq YM Qi Pq Mz YS NP Th
 simp only [CC, eq_self, implies_true, forall_const]
 refine ⟨⟨0, rfl, Nat.zero_le _, rfl⟩, λ k ⟨h1, h2⟩ => ⟨λ hlt => ?_, λ hge => ?_⟩⟩
 ·have hlt : k < a.l.length := by omega
  refine ⟨⟨⟨by omega, by omega⟩, hp _ (DU hlt)⟩, λ hp => ?_, λ hp => ⟨k + 1, (EQ (by omega)).symm, ⟨by omega, ?_⟩, by omega⟩⟩
  ·rw [h2]; exact ABP hlt (by simpa using hp)
  ·rw [h2]; exact AWZ hlt (by simpa using hp)
 ·rw [h2]; exact AKH (by omega)
theorem CGZ : AL Try.prog BCG (C2Gp.spec d2Gp) := Ih C2Gp A2Gp [] [] BSP (λ _ => by kernel_rfl) (λ _ => AB CHD AF) p2Gp (λ _ => Jf rfl rfl) _
def C3Gp : Ctr := { C2Gp with val := λ (a : MGp) => .bool (decide (fY (λ i => !KI a.q (gD a.l i)) a.l.length 0 >= 0)) }
def d3Gp : List AVal -> Heap -> Option (C3Gp.α × List (Nat × Nat) × List Nat) := d2Gp
def A3Gp : Ann := { ann 9 [(BCG, C2Gp.spec d2Gp)] with E := [100] }
def V3Gp (a : MGp) : Prop := CH Try.prog A3Gp BCJ (AI BCJ) (C3Gp.xs a) (AD (C3Gp.L a)) (C3Gp.val a) (C3Gp.keep a) [] []
abbrev XV:=λ (f : Gau -> Prop) => ∀ (x : Gau), f x
abbrev XJ:=@List.Mem Gau
abbrev jX a:=AU (ID a)
abbrev gK a b c d e f g:=AQ a b c d e b c f g
attribute [go_sem] XV XJ jX gK
theorem CFY (a : MGp) : (V3Gp a) = (AY (AH (BR (ID a)) (BW (ID a)) (Gx a) (gK (Gq a) (Qi a) (Pq a) (Gx a) (Gq a) (Av (ID a)) (XV (λ i=>CG (XJ i (jX a)) (AY (NP (pS a)) (LA i) (LO i) (MS i) (MU i) (DW (FK i) 200000)))))) (KY (YI (TR (λ i=>Mz a a i) (ID a))) (YI (TR (λ i=>E0 a (jX a) i) (jX a)))) (Gx a) (Gq a) (Qi a) (Pq a)) := by kernel_rfl
theorem CFZ : AL Try.prog BAG (C3Gp.spec d3Gp) := Ctr.spec_ok (C := C3Gp) (λ (a : MGp) h => Lg (A := A3Gp) (ren := []) (fz := []) BOO (by kernel_rfl) (AB CGZ AF) (by
 obtain ⟨h, hp⟩ : a.l.length < 4611686018427387904 /\ (∀ x ∈ a.l, (NJ a.q /\ XH x)) := h
 show V3Gp a; rw [CFY]<;> delta KY hd6 GH HK FK KZ KR LU MC AO AT AG CG CM DW DT DM GP ID pS XV XJ AE AJ AP AU AK AX AQ AH BH CY BN CL CA IG gK CQ DF DG EN AW AY DE DN EO DY LI EU FE DV FG JN Vs MN FB Ur BE Zw LO MS BW Fv LA BR MU WO FW Vu TR AFQ Gx E0 Gq Qi Pq Mz YI Av NP jX; simp [h, Eo]; exact hp)) _
def d4Gp : List AVal -> Heap -> Option (MGp × List (Nat × Nat) × List Nat)
 | [y, .fn _ [.d x] _], H => match dRow y H with
  | some (n, g, f) => some (⟨dLn x, OC n λ i => Ux (g i)⟩, [], f)
  | none => none
 | _, _ => none
def A4Gp : Ann := { ann 9 [(BAG, C3Gp.spec d3Gp)] with E := [] }
def C4Gp : Ctr := { ro := [], α := MGp, xs := λ a => [.d (DX a.l), fvGp a.q], L := λ a => [], val := λ a => .bool (a.l.all λ x => KI a.q x), keep := λ a => [], pre := PGp }
def V4Gp (a : MGp) : Prop := CH Try.prog A4Gp F_eG (AI F_eG) (C4Gp.xs a) (AD (C4Gp.L a)) (C4Gp.val a) (C4Gp.keep a) [] []
abbrev AJN:=@List.all Gau
attribute [go_sem] AJN
theorem CGN (a : MGp) : (V4Gp a) = (IR (BR (ID a)) (BW (ID a)) (Gx a) (gK (Gq a) (Qi a) (Pq a) (Gx a) (Gq a) (Av (ID a)) (XV (λ i=>CG (XJ i (jX a)) (AY (NP (pS a)) (LA i) (LO i) (MS i) (MU i) (DW (FK i) 200000))))) (KY (AJN (ID a) (λ i=>AFQ a i)) (not (YI (TR (λ i=>E0 a (jX a) i) (jX a)))))) := by kernel_rfl
theorem CGD : AL Try.prog n_eG (C4Gp.spec d4Gp) := Ctr.spec_ok (C := C4Gp) (λ (a : MGp) h => Lg (A := A4Gp) (ren := []) (fz := []) CAN (by kernel_rfl) (AB CFZ AF) (by
 have h' : a.l.length < 4611686018427387904 /\ (∀ x ∈ a.l, (NJ a.q /\ XH x)) := h
 show V4Gp a; rw [CGN]<;> delta KY hd6 GH HK FK KZ KR LU MC AO AT AG CG CM DW DT DM GP ID pS XV XJ AJN AE AJ AP AU AK AX AQ AH BH CY BN CL CA IG gK CQ DF DG EN AW AY DE DN EO DY LI EU FE DV FG JN Vs MN FB Ur BE Zw LO MS BW Fv LA BR MU WO FW Vu IR TR AFQ Gx E0 Gq Qi Pq YI Av NP jX; simp only [CC, eq_self, implies_true, forall_const, ge_iff_le]
 rw [<- AIH]
 exact ⟨h', rfl⟩)) _
def LXIn (q : List Gau) : List (Nat × AObj) := [(101, .box [.d (DX q)])]
def KXIn (q : List Gau) : List (Nat × HCell) := [(101, .live (.box [.d (DX q)]))]
def fvIn (q : List Gau) : AVal := .fn (.func ACA) [] [.bptr 101 0]
def BIn (q : List Gau) : AObj := .box [fvIn q]
structure EIn where
 q : List Gau
 e : Int
structure MIn where
 q : List Gau
 l : List Int
def C1In : Ctr := { ro := [100, 101], α := EIn, xs := λ a => [.d (PT a.e), .bptr 100 0], L := λ a => (100, BIn a.q) :: LXIn a.q, val := λ a => .bool (!Cb a.e 0 (wr (a.q.length - 1))), keep := λ a => (100, .live (BIn a.q)) :: KXIn a.q }
def d1In : List AVal -> Heap -> Option (EIn × List (Nat × Nat) × List Nat)
 | [.d d, .bptr id _], H => match H id with
  | .live (.box [.fn _ _ [.bptr j _]]) => match H j with
   | .live (.box [.d (.list _ m h _)]) => some (⟨OC m λ i => Ux (h i), JD d⟩, [(100, id), (101, j)], [])
   | _ => none
  | _ => none
 | _, _ => none
def A1In : Ann := { ann 8 [(ACA, C_nm1.spec CBH)] with E := [100, 101] }
def V1In (a : EIn) : Prop := CH Try.prog A1In BQM (AI BQM) (C1In.xs a) (AD (C1In.L a)) (C1In.val a) (C1In.keep a) [] []
abbrev xS:=EIn.q
abbrev MV a b c d:=AH a b (AS c) d
abbrev UE a:=BE a (AU a)
abbrev TT a:=AW a (AU a)
attribute [go_sem] xS MV UE TT
theorem CFI (a : EIn) : (V1In a) = (MV (AJ (AK (EIn.e a)) (BR (xS a)) (BW (xS a)) (TT (xS a)) (UE (xS a))) (KY (not (Qb (EIn.e a) (xS a))) (not (Qb (EIn.e a) (AU (xS a))))) (xS a) (CB (xS a))) := by kernel_rfl
theorem CHI : AL Try.prog BBK (C1In.spec d1In) := Ih C1In (λ _ => A1In) [] [] CCA (λ _ => by kernel_rfl) (λ _ => AB CBT AF) (λ (a : EIn) h => by
 show V1In a; rw [CFI]<;> delta KY GH HK FK AO AT AG CG CM BK Ah DM GP xS AE FQ AJ AP AU AK BO AX AH BH CY BN CL CQ DF DG EN AW DE DN AS EO DY EU FE DV FG MK FB HD BE CB BW BR NE Qb MV UE TT; try simp [wr, Eo]) (λ _ => Jf rfl rfl) _
def d2In : List AVal -> Heap -> Option (MIn × List (Nat × Nat) × List Nat)
 | [y, .fn _ _ [.bptr id _]], H => match dRow y H with
  | some (n, g, f) => match H id with
   | .live (.box [.fn _ _ [.bptr j _]]) => match H j with
    | .live (.box [.d (.list _ m h _)]) => some (⟨OC m λ i => Ux (h i), OC n λ i => JD (g i)⟩, [(100, id), (101, j)], f)
    | _ => none
   | _ => none
  | none => none
 | _, _ => none
def A2In (a : MIn) : Ann := { ann 19 [(BBK, C1In.spec d1In)] with E := [100, 101], loops := λ id => if id = 2 then some [{ α := Nat, dflt := 0, T := λ k => ⟨[(0, .d (DC a.l)), (1, .fn (.func BBK) [] [.bptr 100 0]), (7, .int a.l.length), (8, .int k)], (100, .live (BIn a.q)) :: KXIn a.q⟩, inv := λ k => k <= a.l.length /\ fY (λ i => !Cb (gD a.l i) 0 (wr (a.q.length - 1))) a.l.length 0 = fY (λ i => !Cb (gD a.l i) 0 (wr (a.q.length - 1))) (a.l.length - k) k, meas := λ k => a.l.length - k }] else none }
def PIn (a : MIn) : List Prop := [a.l.length < 4611686018427387904 /\ True]
def C2In : Ctr := { ro := [100, 101], α := MIn, xs := λ a => [.d (DC a.l), .fn (.func BBK) [] [.bptr 100 0]], L := λ a => (100, BIn a.q) :: LXIn a.q, val := λ a => .int (fY (λ i => !Cb (gD a.l i) 0 (wr (a.q.length - 1))) a.l.length 0), keep := λ a => (100, .live (BIn a.q)) :: KXIn a.q, pre := PIn }
def V2In (a : MIn) : Prop := CH Try.prog (A2In a) BSV (AI BSV) (C2In.xs a) (AD (C2In.L a)) (C2In.val a) (C2In.keep a) [] []
abbrev OK:=MIn.l
abbrev UN:=MIn.q
abbrev cT a:=CB (UN a)
abbrev Ss (a:Nat->Bool) b:=Vu a (CX b)
abbrev zT a b c:=Qb (EM a b) c
abbrev ALR a b c:=zT (OK a) b c
abbrev Sy a b c:=ALR a b (UN c)
attribute [go_sem] OK UN cT Ss zT ALR Sy
theorem CGB (a : MIn) : (V2In a) = (YS (λ i=>JB (AY (GN (OK a)) (LL (OK a)) (OY (OK a)) (CN i) (AS (UN a)) (cT a)) (EL i (OK a)) (Ss (λ j=>Sy a j a) (OK a)) (WO (λ j=>Sy a j a) (VL (OK a) i) i)) (λ i=>DH (EB (EL i (OK a)) (Ss (λ j=>Sy a j a) (OK a)) (WO (λ j=>Sy a j a) (VL (OK a) i) i)) i (FP (OK a)) (BC (AY (GA i (FP (OK a))) (MX (OK a) i) (BR (UN a)) (BW (UN a)) (TT (UN a)) (UE (UN a))) (not (ALR a i (AU (UN a)))) (AE (AO (Ss (λ j=>Sy a j a) (OK a)) (BK i)) (AS (UN a)) (cT a)) (SA (λ j=>CJ (AY (GN (OK a)) (LL (OK a)) (OY (OK a)) (BJ j i) (AS (UN a)) (cT a)) (EB (EL j (OK a)) (Ss (λ k=>Sy a k a) (OK a)) (WO (λ k=>Sy a k a) (VL (OK a) j) j)) (VL (OK a) j) (VL (OK a) i)))) (AE (AO (Ss (λ j=>Sy a j a) (OK a)) (-1)) (AS (UN a)) (cT a)))) := by kernel_rfl
theorem p2In (a : MIn) (h : EG (PIn a)) : V2In a := by
 obtain ⟨h, hp⟩ : a.l.length < 4611686018427387904 /\ True := h
 rw [CGB]<;> delta GH HK FK KN FA AO AT CX AG CG CM EM BK DB DW DT QP PD RO FM Ah DM GP SA OK UN AE FQ AJ AP DR AU AK BO DK AX BH CY BN CL CZ CA DP ED IG CQ EP DF FP MX DG EN AW AY Ma CJ DE DN AS EO DY GN JM EU FE DV Ir FG MK JE IF VL FB HD LL BE CB BC BW EZ BJ EB BR DH WO EL CN GA OY NE Vu Qb JB UE TT zT ALR YS Sy Ss cT
 simp only [CC, eq_self, implies_true, forall_const]
 refine ⟨⟨0, rfl, Nat.zero_le _, rfl⟩, λ k ⟨h1, h2⟩ => ⟨λ hlt => ?_, λ hge => ?_⟩⟩
 ·have hlt : k < a.l.length := by omega
  refine ⟨⟨by omega, by omega⟩, λ hp => ?_, λ hp => ⟨k + 1, (EQ (by omega)).symm, ⟨by omega, ?_⟩, by omega⟩⟩
  ·rw [h2]; exact ABP hlt (by simpa using hp)
  ·rw [h2]; exact AWZ hlt (by simpa using hp)
 ·rw [h2]; exact AKH (by omega)
theorem CFN : AL Try.prog BQT (C2In.spec d2In) := Ih C2In A2In [] [] CCM (λ _ => by kernel_rfl) (λ _ => AB CHI AF) p2In (λ _ => Jf rfl rfl) _
def C3In : Ctr := { C2In with val := λ (a : MIn) => .bool (decide (fY (λ i => !Cb (gD a.l i) 0 (wr (a.q.length - 1))) a.l.length 0 >= 0)) }
def d3In : List AVal -> Heap -> Option (C3In.α × List (Nat × Nat) × List Nat) := d2In
def A3In : Ann := { ann 9 [(BQT, C2In.spec d2In)] with E := [100, 101] }
def V3In (a : MIn) : Prop := CH Try.prog A3In BPE (AI BPE) (C3In.xs a) (AD (C3In.L a)) (C3In.val a) (C3In.keep a) [] []
abbrev KK a b (c:Nat->Nat):=PQ a (λ i=>EM b (c i))
abbrev KC a b:=KK a b (λ i=>i)
abbrev QS a b:=KC (CX a) b
abbrev QK a:=QS a a
abbrev Ou a:=QK (OK a)
abbrev JC a b:=CM (CX a) b
abbrev KM a:=JC a 4611686018427387904
abbrev GI a b c d:=FT a b (EM c d)
abbrev HI a b c:=GI a b c b
abbrev FC a b c d e:=CZ a b (HI c d e)
abbrev HP a b c:=FC a b b a c
abbrev CE a b:=AG (λ i=>HP i a b)
abbrev CO a b:=BB a (CX b)
attribute [go_sem] KK KC QS QK Ou JC KM GI HI FC HP CE CO
theorem CHJ (a : MIn) : (V3In a) = (MV (BI (CO (Ou a) (OK a)) (CE (Ou a) (OK a)) (BR (UN a)) (BW (UN a)) (TT (UN a)) (UE (UN a)) (KM (Ou a)) EF) (KY (YI (Ss (λ i=>Sy a i a) (OK a))) (YI (Ss (λ i=>zT (Ou a) i (AU (UN a))) (Ou a)))) (UN a) (cT a)) := by kernel_rfl
theorem CGY : AL Try.prog BPO (C3In.spec d3In) := Ctr.spec_ok (C := C3In) (λ (a : MIn) h => Lg (A := A3In) (ren := []) (fz := []) CCX (by kernel_rfl) (AB CFN AF) (by
 obtain ⟨h, hp⟩ : a.l.length < 4611686018427387904 /\ True := h
 show V3In a; rw [CHJ]<;> delta KY hd6 GH HK FK AO AT CX AG CG CM EM BK PQ Ah DM GP EF OK UN KK AE KC FQ AJ AP AU AK BO QS AX AH BH CY BN CL CZ FT GI BB QK HI CQ DF FC DG EN AW DE DN AS EO DY EU FE DV HP FG CE MK CO FB HD BE CB BI BW JC BR WO NE Vu Qb KM MV UE TT zT Ou ALR YI Sy Ss cT; simp [h, Eo])) _
def d4In : List AVal -> Heap -> Option (MIn × List (Nat × Nat) × List Nat)
 | [y, .fn _ _ [.bptr j _]], H => match dRow y H with
  | some (n, g, f) => match H j with
   | .live (.box [.d (.list _ m h _)]) => some (⟨OC m λ i => Ux (h i), OC n λ i => JD (g i)⟩, [(101, j)], f)
   | _ => none
  | none => none
 | _, _ => none
def A4In : Ann := { ann 9 [(BPO, C3In.spec d3In)] with E := [101] }
def C4In : Ctr := { ro := [101], α := MIn, xs := λ a => [.d (DC a.l), fvIn a.q], L := λ a => LXIn a.q, val := λ a => .bool (a.l.all λ x => Cb x 0 (wr (a.q.length - 1))), keep := λ a => KXIn a.q, pre := PIn }
def V4In (a : MIn) : Prop := CH Try.prog A4In F_eI (AI F_eI) (C4In.xs a) (AD (C4In.L a)) (C4In.val a) (C4In.keep a) [] []
abbrev BAH:=@List.all Int
attribute [go_sem] BAH
theorem CFR (a : MIn) : (V4In a) = (MV (BI (CO (Ou a) (OK a)) (CE (Ou a) (OK a)) (BR (UN a)) (BW (UN a)) (TT (UN a)) (UE (UN a)) (KM (Ou a)) EF) (KY (BAH (OK a) (λ i=>Qb i (UN a))) (not (YI (Ss (λ i=>zT (Ou a) i (AU (UN a))) (Ou a))))) (UN a) (cT a)) := by kernel_rfl
theorem CGC : AL Try.prog n_eI (C4In.spec d4In) := Ctr.spec_ok (C := C4In) (λ (a : MIn) h => Lg (A := A4In) (ren := []) (fz := []) CIG (by kernel_rfl) (AB CGY AF) (by
 have h' : a.l.length < 4611686018427387904 /\ True := h
 show V4In a; rw [CFR]<;> delta KY hd6 GH HK FK AO AT CX AG CG CM EM BK PQ Ah DM GP EF OK UN BAH KK AE KC FQ AJ AP AU AK BO QS AX AH BH CY BN CL CZ FT GI BB QK HI CQ DF FC DG EN AW DE DN AS EO DY EU FE DV HP FG CE MK CO FB HD BE CB BI BW JC BR WO NE Vu Qb KM MV UE TT zT Ou YI Ss cT; simp only [CC, eq_self, implies_true, forall_const, ge_iff_le]
 rw [<- AIH]
 exact ⟨h'.1, rfl⟩)) _
end Go.Bal
