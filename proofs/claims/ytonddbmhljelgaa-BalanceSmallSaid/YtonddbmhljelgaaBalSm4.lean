/- BalanceSmall: one number of an example is another one. -/
import Derived.Test.YtonddbmhljelgaaBalTr
set_option linter.unusedVariables false
set_option linter.unusedSimpArgs false
namespace Go.Bal
open Go Go.Sym Go.Proofs
def up (p : Bool) (k j : Nat) (v x : Int) : Int := bif p && decide (j = k) then v else x
def Pu (n : Nat) (v : Int) (N : NetL) (i : Nat) : SmR := ⟨⟨NO 3 λ j => ⟨up (n == 0) 0 j v (up (n == 2) 1 j v (gD N.g j).lo), up (n == 1) 0 j v (up (n == 3) 2 j v (gD N.g j).hi)⟩,
 NO 2 λ j => ⟨up (n == 4) 0 j v (up (n == 6) 1 j v (gD N.r j).fr), up (n == 5) 0 j v (up (n == 7) 1 j v (gD N.r j).to), ⟨up (n == 8) 0 j v (up (n == 10) 1 j v (gD N.r j).sp.lo), up (n == 9) 0 j v (up (n == 11) 1 j v (gD N.r j).sp.hi)⟩⟩⟩,
 ⟨NO 2 λ j => up (n == 12) 0 j v (up (n == 13) 1 j v (gD [110, 118] j)), NO 3 λ j => up (n == 14) 1 j v (up (n == 15) 2 j v (gD [110, 8, -118] j))⟩, bif n == 16 then v else 15,
 NO 3 λ j => up (n == 17) 0 j v (up (n == 18) 1 j v (up (n == 19) 2 j v (gD [0, -1, 0] j))), bif n == 20 then v else 1, bif n == 21 then v else 110, NO 2 λ j => up (n == 22) 0 j v (up (n == 23) 1 j v (gD [0, 1] j)), i, n⟩
theorem Ey {p : Nat -> Prop} : (∀ j, j < 2 -> p j) ↔ p 0 /\ p 1 := ⟨λ h => ⟨h 0 (by omega), h 1 (by omega)⟩, λ h j hj => by match j, hj with | 0, _ => exact h.1 | 1, _ => exact h.2⟩
theorem Gm {p : Nat -> Prop} : (∀ j, j < 3 -> p j) ↔ p 0 /\ p 1 /\ p 2 := ⟨λ h => ⟨h 0 (by omega), h 1 (by omega), h 2 (by omega)⟩, λ h j hj => by match j, hj with | 0, _ => exact h.1 | 1, _ => exact h.2.1 | 2, _ => exact h.2.2⟩
theorem Gl (x : Int) (l : List Int) : gD (x :: l) 0 = x := rfl
theorem Gk (x y : Int) (l : List Int) : gD (x :: y :: l) 1 = y := rfl
theorem Ku (x y z : Int) (l : List Int) : gD (x :: y :: z :: l) 2 = z := rfl
def BMK (w : One) : Prop := FA Try.prog A12 pS 12 (M4 0) (AF Try.f12) [] Q3
abbrev BEZ:=λ (f : SmI -> Prop) => ∀ (x : SmI), f x
abbrev Qu:=SmI.i
abbrev Oy:=SmI.n
abbrev BIL:=λ (f : NetL -> Prop) => ∀ (x : NetL), f x
abbrev gK:=SmR.lv
abbrev AXM:=@List.cons Int
abbrev kT:=SmR.st
abbrev pV:=SmR.i
abbrev L9:=SmR.n
abbrev Hb:=SmR.N
abbrev ACZ a b c:=VK (TB a b) c
abbrev PH a (b:SmI->Prop):=ACZ a 31 (BEZ b)
abbrev AQA a b c:=Tp a b (WC a c)
abbrev Xg a b:=AQA 31 a b
abbrev AUO a b:=Xg (Qu a) b
abbrev sF a:=ON a 31
abbrev J3 a b:=VR (sF (Qu a)) (AUO a b) (Oy a) 24
abbrev PT a b (c:Nat->NetL->Prop):=VK (J3 a b) (AG (λ i=>BIL (λ j=>c i j)))
abbrev AOI a b:=HJ a 31 b
abbrev QE a b c d e f g h (p:SmR->Prop):=AOI a (VK (Xg a b) (HJ c 24 (RB (ED d (WC 24 (Oy e))) (ATZ f 24 g h) ((@Exists SmR) p))))
abbrev F1 a b c:=AQA a b (Oy c)
abbrev AVA a b:=F1 24 (L9 a) b
abbrev AVX a b:=Xg (pV a) b
abbrev QC a b c d e f g:=C5 a (pV b) 31 (AVX c d) (ON (L9 e) 24) (AVA f g)
abbrev AFL a:=FI a 3
abbrev Y1 a (b:Nat->Prop) c d:=FR (AFL (gK a)) Jr b (FI (kT c) 2) d
abbrev bN a b:=AXM a (AXM b BHX)
abbrev ATI a b c:=AXM a (bN b c)
abbrev C8:=ATI 0 (-1) 0
abbrev TN a b c d:=Y1 a (λ i=>aK i (gK b) C8) c d
abbrev ANF a b:=EQ (pV a) b
abbrev Ib:=XQ 31
abbrev Di:=DU 31
abbrev AMW a b:=EQ (L9 a) b
abbrev jU a b:=ARK Ug a b
abbrev AOG a b:=jU (pV a) b
abbrev AVW a b c:=Dz a (bN b c)
abbrev TD a b c d e f g h:=eR Ej (AVW (kT a) 0 1) (AOG b c) (AMW d e) Di Ib (ANF f g) h
abbrev OP a:=AM (Hb a)
abbrev uR a:=AY (Hb a)
abbrev uE a:=Ca Ug a
abbrev vO a:=AOI a (AR (uE a))
abbrev Z3:=AG vO
abbrev PW a (b:Nat->Prop) c (d:Nat->Prop) e:=SH Di Z3 (ED (uR a) 3) Jr b (cB (OP c)) Ej (AG d) e
abbrev rZ a:=Zq (SmR.T a)
abbrev kQ a:=Zo (SmR.T a)
abbrev ANA a b c d e f g h p:=IW (FI (kQ a) 2) b c (AFL (rZ d)) e f (AS (SmR.c g) 15) (AS (SmR.r h) 1) (AS (SmR.f p) 110)
abbrev AHB:=ATI 110 8 (-118)
abbrev ANK a b c d e f g h p:=ANA a b c d e (Dz (rZ f) AHB) g h p
abbrev ANZ a:=AVW (kQ a) 110 118
abbrev UV a b c d e f g:=ANK a Ej (ANZ b) c Jr d e f g
abbrev QI a b:=CY (Hb a) b
abbrev QH a b:=EC (Hb a) b
abbrev AVY a b:=EJ (Hb a) b
abbrev Eb a b c d:=ASV (AVY a b) c d
abbrev fM a b:=CU a (AT b)
abbrev Yc a b c:=PZ a (uE b) c
abbrev F8 a b:=CU (Hb a) b
attribute [go_sem] BEZ Qu Oy BIL gK AXM kT pV L9 Hb ACZ PH AQA Xg AUO sF J3 PT AOI QE F1 AVA AVX QC AFL Y1 bN ATI C8 TN ANF Ib Di AMW jU AOG AVW TD OP uR uE vO Z3 PW rZ kQ ANA AHB ANK ANZ UV QI QH AVY Eb fM Yc F8
theorem BNR (w : One) : (BMK w) = (AG (λ i=>PH i (λ j=>PT j i (λ l k=>QE l i 0 24 j 0 0 3 (λ m=>QC (TN m m m (TD m m l m 0 m l (PW m (λ n=>QA n (uR m) (F8 m n) (Yc n l (Ou (fM k n))) (PZ n (Ok (CU k 0)) (Ok (fM k n)))) m (λ n=>Bq n (OP m) (Eb m n k n) (QH m n) k n (QI m n) k n) (UV m m m m m m m)))) m m i m m j))))) := by kernel_rfl
def BMN (w : One) : Prop := FA Try.prog A12 pS 12 (M4 1) (AF Try.f12) [] Q3
theorem BNN (w : One) : (BMN w) = (AG (λ i=>PH i (λ j=>PT j i (λ l k=>QE l i 1 23 j 1 0 3 (λ m=>QC (TN m m m (TD m m l m 1 m l (PW m (λ n=>QA n (uR m) (F8 m n) (PZ n (Ou (CU k 0)) (Ou (fM k n))) (Yc n l (Ok (fM k n)))) m (λ n=>Bq n (OP m) (Eb m n k n) (QH m n) k n (QI m n) k n) (UV m m m m m m m)))) m m i m m j))))) := by kernel_rfl
def BLU (w : One) : Prop := FA Try.prog A12 pS 12 (M4 2) (AF Try.f12) [] Q3
abbrev E7 a b c d:=AHT (AT a) b c d
abbrev Ba a b c:=E7 a 1 b c
abbrev Vl a b c:=Ba a (uE b) c
attribute [go_sem] E7 Ba Vl
theorem BOA (w : One) : (BLU w) = (AG (λ i=>PH i (λ j=>PT j i (λ l k=>QE l i 2 22 j 2 1 3 (λ m=>QC (TN m m m (TD m m l m 2 m l (PW m (λ n=>QA n (uR m) (F8 m n) (Vl n l (Ou (fM k n))) (Ba n (Ok (CU k 1)) (Ok (fM k n)))) m (λ n=>Bq n (OP m) (Eb m n k n) (QH m n) k n (QI m n) k n) (UV m m m m m m m)))) m m i m m j))))) := by kernel_rfl
def BMF (w : One) : Prop := FA Try.prog A12 pS 12 (M4 3) (AF Try.f12) [] Q3
theorem BOB (w : One) : (BMF w) = (AG (λ i=>PH i (λ j=>PT j i (λ l k=>QE l i 3 21 j 3 2 3 (λ m=>QC (TN m m m (TD m m l m 3 m l (PW m (λ n=>QA n (uR m) (F8 m n) (E7 n 2 (Ou (CU k 2)) (Ou (fM k n))) (E7 n 2 (uE l) (Ok (fM k n)))) m (λ n=>Bq n (OP m) (Eb m n k n) (QH m n) k n (QI m n) k n) (UV m m m m m m m)))) m m i m m j))))) := by kernel_rfl
def BMD (w : One) : Prop := FA Try.prog A12 pS 12 (M4 4) (AF Try.f12) [] Q3
abbrev aU a b:=Ok (APC a b)
abbrev aH a b:=Ou (APC a b)
abbrev eT a b:=EC a (AT b)
abbrev cD a b c:=AS (AVY a b) c
abbrev bZ a b:=EJ a (AT b)
abbrev Ip a b c d e f g:=AIY a b (gQ c d e) c f g
abbrev ATK a b c d e f:=Ip a b c d (AT e) f (AT e)
abbrev VG a b c d e f g:=ATK a (uR b) (F8 c d) e f g
attribute [go_sem] aU aH eT cD bZ Ip ATK VG
theorem BNJ (w : One) : (BMD w) = (AG (λ i=>PH i (λ j=>PT j i (λ l k=>QE l i 4 20 j 4 0 2 (λ m=>QC (TN m m m (TD m m l m 4 m l (PW m (λ n=>VG n m m n k n k) m (λ n=>OX n (OP m) (cD m n (Yc n l (bZ k n))) (QH m n) (PZ n (EC k 0) (eT k n)) (QI m n) (PZ n (Ou (CY k 0)) (aH k n)) (PZ n (Ok (CY k 0)) (aU k n))) (UV m m m m m m m)))) m m i m m j))))) := by kernel_rfl
def BLY (w : One) : Prop := FA Try.prog A12 pS 12 (M4 5) (AF Try.f12) [] Q3
theorem BOE (w : One) : (BLY w) = (AG (λ i=>PH i (λ j=>PT j i (λ l k=>QE l i 5 19 j 5 0 2 (λ m=>QC (TN m m m (TD m m l m 5 m l (PW m (λ n=>VG n m m n k n k) m (λ n=>OX n (OP m) (cD m n (PZ n (EJ k 0) (bZ k n))) (QH m n) (Yc n l (eT k n)) (QI m n) (PZ n (Ou (CY k 0)) (aH k n)) (PZ n (Ok (CY k 0)) (aU k n))) (UV m m m m m m m)))) m m i m m j))))) := by kernel_rfl
def BMO (w : One) : Prop := FA Try.prog A12 pS 12 (M4 6) (AF Try.f12) [] Q3
theorem BOZ (w : One) : (BMO w) = (AG (λ i=>PH i (λ j=>PT j i (λ l k=>QE l i 6 18 j 6 1 2 (λ m=>QC (TN m m m (TD m m l m 6 m l (PW m (λ n=>VG n m m n k n k) m (λ n=>OX n (OP m) (cD m n (Vl n l (bZ k n))) (QH m n) (Ba n (EC k 1) (eT k n)) (QI m n) (Ba n (Ou (CY k 1)) (aH k n)) (Ba n (Ok (CY k 1)) (aU k n))) (UV m m m m m m m)))) m m i m m j))))) := by kernel_rfl
def BMM (w : One) : Prop := FA Try.prog A12 pS 12 (M4 7) (AF Try.f12) [] Q3
theorem BMZ (w : One) : (BMM w) = (AG (λ i=>PH i (λ j=>PT j i (λ l k=>QE l i 7 17 j 7 1 2 (λ m=>QC (TN m m m (TD m m l m 7 m l (PW m (λ n=>VG n m m n k n k) m (λ n=>OX n (OP m) (cD m n (Ba n (EJ k 1) (bZ k n))) (QH m n) (Vl n l (eT k n)) (QI m n) (Ba n (Ou (CY k 1)) (aH k n)) (Ba n (Ok (CY k 1)) (aU k n))) (UV m m m m m m m)))) m m i m m j))))) := by kernel_rfl
def BMV (w : One) : Prop := FA Try.prog A12 pS 12 (M4 8) (AF Try.f12) [] Q3
theorem BNL (w : One) : (BMV w) = (AG (λ i=>PH i (λ j=>PT j i (λ l k=>QE l i 8 16 j 8 0 2 (λ m=>QC (TN m m m (TD m m l m 8 m l (PW m (λ n=>VG n m m n k n k) m (λ n=>OX n (OP m) (cD m n (PZ n (EJ k 0) (bZ k n))) (QH m n) (PZ n (EC k 0) (eT k n)) (QI m n) (Yc n l (aH k n)) (PZ n (Ok (CY k 0)) (aU k n))) (UV m m m m m m m)))) m m i m m j))))) := by kernel_rfl
def BLT (w : One) : Prop := FA Try.prog A12 pS 12 (M4 9) (AF Try.f12) [] Q3
theorem BOD (w : One) : (BLT w) = (AG (λ i=>PH i (λ j=>PT j i (λ l k=>QE l i 9 15 j 9 0 2 (λ m=>QC (TN m m m (TD m m l m 9 m l (PW m (λ n=>VG n m m n k n k) m (λ n=>OX n (OP m) (cD m n (PZ n (EJ k 0) (bZ k n))) (QH m n) (PZ n (EC k 0) (eT k n)) (QI m n) (PZ n (Ou (CY k 0)) (aH k n)) (Yc n l (aU k n))) (UV m m m m m m m)))) m m i m m j))))) := by kernel_rfl
def BGB (w : One) : Prop := FA Try.prog A12 pS 12 (M4 10) (AF Try.f12) [] Q3
theorem BKH (w : One) : (BGB w) = (AG (λ i=>PH i (λ j=>PT j i (λ l k=>QE l i 10 14 j 10 1 2 (λ m=>QC (TN m m m (TD m m l m 10 m l (PW m (λ n=>VG n m m n k n k) m (λ n=>OX n (OP m) (cD m n (Ba n (EJ k 1) (bZ k n))) (QH m n) (Ba n (EC k 1) (eT k n)) (QI m n) (Vl n l (aH k n)) (Ba n (Ok (CY k 1)) (aU k n))) (UV m m m m m m m)))) m m i m m j))))) := by kernel_rfl
def BJL (w : One) : Prop := FA Try.prog A12 pS 12 (M4 11) (AF Try.f12) [] Q3
theorem BLE (w : One) : (BJL w) = (AG (λ i=>PH i (λ j=>PT j i (λ l k=>QE l i 11 13 j 11 1 2 (λ m=>QC (TN m m m (TD m m l m 11 m l (PW m (λ n=>VG n m m n k n k) m (λ n=>OX n (OP m) (cD m n (Ba n (EJ k 1) (bZ k n))) (QH m n) (Ba n (EC k 1) (eT k n)) (QI m n) (Ba n (Ou (CY k 1)) (aH k n)) (Vl n l (aU k n))) (UV m m m m m m m)))) m m i m m j))))) := by kernel_rfl
def BFW (w : One) : Prop := FA Try.prog A12 pS 12 (M4 12) (AF Try.f12) [] Q3
theorem BKP (w : One) : (BFW w) = (AG (λ i=>PH i (λ j=>PT j i (λ l k=>QE l i 12 12 j 12 0 2 (λ m=>QC (TN m m m (TD m m l m 12 m l (PW m (λ n=>VG n m m n k n k) m (λ n=>Bq n (OP m) (Eb m n k n) (QH m n) k n (QI m n) k n) (ANK m Ej (AG (λ n=>FL n (kQ m) (Yc n l (Iu (bN 110 118) n)))) m Jr m m m m)))) m m i m m j))))) := by kernel_rfl
def BEA (w : One) : Prop := FA Try.prog A12 pS 12 (M4 13) (AF Try.f12) [] Q3
theorem BKO (w : One) : (BEA w) = (AG (λ i=>PH i (λ j=>PT j i (λ l k=>QE l i 13 11 j 13 1 2 (λ m=>QC (TN m m m (TD m m l m 13 m l (PW m (λ n=>VG n m m n k n k) m (λ n=>Bq n (OP m) (Eb m n k n) (QH m n) k n (QI m n) k n) (ANK m Ej (AG (λ n=>FL n (kQ m) (Vl n l (Iu (bN 110 118) n)))) m Jr m m m m)))) m m i m m j))))) := by kernel_rfl
def BFJ (w : One) : Prop := FA Try.prog A12 pS 12 (M4 14) (AF Try.f12) [] Q3
theorem BLD (w : One) : (BFJ w) = (AG (λ i=>PH i (λ j=>PT j i (λ l k=>QE l i 14 10 j 14 1 3 (λ m=>QC (TN m m m (TD m m l m 14 m l (PW m (λ n=>VG n m m n k n k) m (λ n=>Bq n (OP m) (Eb m n k n) (QH m n) k n (QI m n) k n) (ANA m Ej (ANZ m) m Jr (AG (λ n=>FL n (rZ m) (Vl n l (Iu AHB n)))) m m m)))) m m i m m j))))) := by kernel_rfl
def BII (w : One) : Prop := FA Try.prog A12 pS 12 (M4 15) (AF Try.f12) [] Q3
theorem BKE (w : One) : (BII w) = (AG (λ i=>PH i (λ j=>PT j i (λ l k=>QE l i 15 9 j 15 2 3 (λ m=>QC (TN m m m (TD m m l m 15 m l (PW m (λ n=>VG n m m n k n k) m (λ n=>Bq n (OP m) (Eb m n k n) (QH m n) k n (QI m n) k n) (ANA m Ej (ANZ m) m Jr (AG (λ n=>FL n (rZ m) (E7 n 2 (uE l) (Iu AHB n)))) m m m)))) m m i m m j))))) := by kernel_rfl
def BHI (w : One) : Prop := FA Try.prog A12 pS 12 (M4 16) (AF Try.f12) [] Q3
theorem BJX (w : One) : (BHI w) = (∀ (a : Nat), a.le (31 : Nat) -> ∀ (a_2 : SmI), a_2.i < (31 : Nat) /\ (31 : Nat) - a_2.i = (31 : Nat) - a /\ a_2.n <= (24 : Nat) -> ∀ (i : Nat) (N : NetL), i < (31 : Nat) -> (31 : Nat)
 - i = (31 : Nat) - a -> (16 : Nat) < (24 : Nat) -> (8 : Nat) = (24 : Nat) - a_2.n -> ((0 : Int) <= (↑(16 : Nat) : Int) /\ (↑(16 : Nat) : Int) < (↑(24 : Nat) : Int)) /\ ∃ (a_8 : SmR), (a_8.lv.length = (3 : Nat) /\ (3 : Nat) <= (3
 : Nat) /\ (∀ (j : Nat), j < a_8.lv.length -> gD a_8.lv j = gD [(0 : Int), (-1 : Int), (0 : Int)] ((0 : Nat) + j)) /\ a_8.st.length = (2 : Nat) /\ (2 : Nat) <= (2 : Nat) /\ (∀ (j : Nat), j < a_8.st.length -> gD a_8.st j = gD [(0
 : Int), (1 : Int)] ((0 : Nat) + j)) /\ gD Ug a_8.i = gD Ug i /\ (↑a_8.n : Int) = (↑(16 : Nat) : Int) /\ (0 : Nat) = (0 : Nat) /\ (31 : Nat) = (31 : Nat) /\ Int.ofNat (31 : Nat) = Int.ofNat (31 : Nat) /\ (↑a_8.i : Int) = (↑i
 : Int) /\ (31 : Nat) = (31 : Nat) /\ (∀ (i : Nat), i < (31 : Nat) -> gD Ug i = gD Ug i) /\ a_8.N.g.length = (3 : Nat) /\ (3 : Nat) <= (3 : Nat) /\ (∀ (j : Nat), j < a_8.N.g.length -> (gD a_8.N.g j).lo = (gD N.g ((0 : Nat) +
 j)).lo /\ (gD a_8.N.g j).hi = (gD N.g ((0 : Nat) + j)).hi) /\ a_8.N.r.length = (2 : Nat) /\ (2 : Nat) <= (2 : Nat) /\ (∀ (j : Nat), j < a_8.N.r.length -> (gD a_8.N.r j).fr = (gD N.r ((0 : Nat) + j)).fr /\ (gD a_8.N.r j).to =
 (gD N.r ((0 : Nat) + j)).to /\ (gD a_8.N.r j).sp.lo = (gD N.r ((0 : Nat) + j)).sp.lo /\ (gD a_8.N.r j).sp.hi = (gD N.r ((0 : Nat) + j)).sp.hi) /\ a_8.T.f.length = (2 : Nat) /\ (2 : Nat) <= (2 : Nat) /\ (∀ (j : Nat), j <
 a_8.T.f.length -> gD a_8.T.f j = gD [(110 : Int), (118 : Int)] ((0 : Nat) + j)) /\ a_8.T.t.length = (3 : Nat) /\ (3 : Nat) <= (3 : Nat) /\ (∀ (j : Nat), j < a_8.T.t.length -> gD a_8.T.t j = gD [(110 : Int), (8 : Int), (-118 :
 Int)] ((0 : Nat) + j)) /\ a_8.c = gD Ug i /\ a_8.r = (1 : Int) /\ a_8.f = (110 : Int)) /\ a_8.i < (31 : Nat) /\ (31 : Nat) - a_8.i = (31 : Nat) - a /\ a_8.n < (24 : Nat) /\ (24 : Nat) - a_8.n = (24 : Nat) - a_2.n) := by
 kernel_rfl
def BID (w : One) : Prop := FA Try.prog A12 pS 12 (M4 17) (AF Try.f12) [] Q3
theorem BJZ (w : One) : (BID w) = (AG (λ i=>PH i (λ j=>PT j i (λ l k=>QE l i 17 7 j 17 0 3 (λ m=>QC (Y1 m (λ n=>FL n (gK m) (Yc n l (Iu C8 n))) m (TD m m l m 17 m l (PW m (λ n=>VG n m m n k n k) m (λ n=>Bq n (OP m) (Eb m n k n) (QH m n) k n (QI m n) k n) (UV m m m m m m m)))) m m i m m j))))) := by kernel_rfl
def BHW (w : One) : Prop := FA Try.prog A12 pS 12 (M4 18) (AF Try.f12) [] Q3
theorem BLO (w : One) : (BHW w) = (AG (λ i=>PH i (λ j=>PT j i (λ l k=>QE l i 18 6 j 18 1 3 (λ m=>QC (Y1 m (λ n=>FL n (gK m) (Vl n l (Iu C8 n))) m (TD m m l m 18 m l (PW m (λ n=>VG n m m n k n k) m (λ n=>Bq n (OP m) (Eb m n k n) (QH m n) k n (QI m n) k n) (UV m m m m m m m)))) m m i m m j))))) := by kernel_rfl
def BEF (w : One) : Prop := FA Try.prog A12 pS 12 (M4 19) (AF Try.f12) [] Q3
theorem BKC (w : One) : (BEF w) = (AG (λ i=>PH i (λ j=>PT j i (λ l k=>QE l i 19 5 j 19 2 3 (λ m=>QC (Y1 m (λ n=>FL n (gK m) (E7 n 2 (uE l) (Iu C8 n))) m (TD m m l m 19 m l (PW m (λ n=>VG n m m n k n k) m (λ n=>Bq n (OP m) (Eb m n k n) (QH m n) k n (QI m n) k n) (UV m m m m m m m)))) m m i m m j))))) := by kernel_rfl
def BDY (w : One) : Prop := FA Try.prog A12 pS 12 (M4 20) (AF Try.f12) [] Q3
theorem BKU (w : One) : (BDY w) = (∀ (a : Nat), a.le (31 : Nat) -> ∀ (a_2 : SmI), a_2.i < (31 : Nat) /\ (31 : Nat) - a_2.i = (31 : Nat) - a /\ a_2.n <= (24 : Nat) -> ∀ (i : Nat) (N : NetL), i < (31 : Nat) -> (31 : Nat)
 - i = (31 : Nat) - a -> (20 : Nat) < (24 : Nat) -> (4 : Nat) = (24 : Nat) - a_2.n -> ((0 : Int) <= (↑(20 : Nat) : Int) /\ (↑(20 : Nat) : Int) < (↑(24 : Nat) : Int)) /\ ∃ (a_8 : SmR), (a_8.lv.length = (3 : Nat) /\ (3 : Nat) <= (3
 : Nat) /\ (∀ (j : Nat), j < a_8.lv.length -> gD a_8.lv j = gD [(0 : Int), (-1 : Int), (0 : Int)] ((0 : Nat) + j)) /\ a_8.st.length = (2 : Nat) /\ (2 : Nat) <= (2 : Nat) /\ (∀ (j : Nat), j < a_8.st.length -> gD a_8.st j = gD [(0
 : Int), (1 : Int)] ((0 : Nat) + j)) /\ gD Ug a_8.i = gD Ug i /\ (↑a_8.n : Int) = (↑(20 : Nat) : Int) /\ (0 : Nat) = (0 : Nat) /\ (31 : Nat) = (31 : Nat) /\ Int.ofNat (31 : Nat) = Int.ofNat (31 : Nat) /\ (↑a_8.i : Int) = (↑i
 : Int) /\ (31 : Nat) = (31 : Nat) /\ (∀ (i : Nat), i < (31 : Nat) -> gD Ug i = gD Ug i) /\ a_8.N.g.length = (3 : Nat) /\ (3 : Nat) <= (3 : Nat) /\ (∀ (j : Nat), j < a_8.N.g.length -> (gD a_8.N.g j).lo = (gD N.g ((0 : Nat) +
 j)).lo /\ (gD a_8.N.g j).hi = (gD N.g ((0 : Nat) + j)).hi) /\ a_8.N.r.length = (2 : Nat) /\ (2 : Nat) <= (2 : Nat) /\ (∀ (j : Nat), j < a_8.N.r.length -> (gD a_8.N.r j).fr = (gD N.r ((0 : Nat) + j)).fr /\ (gD a_8.N.r j).to =
 (gD N.r ((0 : Nat) + j)).to /\ (gD a_8.N.r j).sp.lo = (gD N.r ((0 : Nat) + j)).sp.lo /\ (gD a_8.N.r j).sp.hi = (gD N.r ((0 : Nat) + j)).sp.hi) /\ a_8.T.f.length = (2 : Nat) /\ (2 : Nat) <= (2 : Nat) /\ (∀ (j : Nat), j <
 a_8.T.f.length -> gD a_8.T.f j = gD [(110 : Int), (118 : Int)] ((0 : Nat) + j)) /\ a_8.T.t.length = (3 : Nat) /\ (3 : Nat) <= (3 : Nat) /\ (∀ (j : Nat), j < a_8.T.t.length -> gD a_8.T.t j = gD [(110 : Int), (8 : Int), (-118 :
 Int)] ((0 : Nat) + j)) /\ a_8.c = (15 : Int) /\ a_8.r = gD Ug i /\ a_8.f = (110 : Int)) /\ a_8.i < (31 : Nat) /\ (31 : Nat) - a_8.i = (31 : Nat) - a /\ a_8.n < (24 : Nat) /\ (24 : Nat) - a_8.n = (24 : Nat) - a_2.n) := by
 kernel_rfl
def BFY (w : One) : Prop := FA Try.prog A12 pS 12 (M4 21) (AF Try.f12) [] Q3
theorem BLM (w : One) : (BFY w) = (∀ (a : Nat), a.le (31 : Nat) -> ∀ (a_2 : SmI), a_2.i < (31 : Nat) /\ (31 : Nat) - a_2.i = (31 : Nat) - a /\ a_2.n <= (24 : Nat) -> ∀ (i : Nat) (N : NetL), i < (31 : Nat) -> (31 : Nat)
 - i = (31 : Nat) - a -> (21 : Nat) < (24 : Nat) -> (3 : Nat) = (24 : Nat) - a_2.n -> ((0 : Int) <= (↑(21 : Nat) : Int) /\ (↑(21 : Nat) : Int) < (↑(24 : Nat) : Int)) /\ ∃ (a_8 : SmR), (a_8.lv.length = (3 : Nat) /\ (3 : Nat) <= (3
 : Nat) /\ (∀ (j : Nat), j < a_8.lv.length -> gD a_8.lv j = gD [(0 : Int), (-1 : Int), (0 : Int)] ((0 : Nat) + j)) /\ a_8.st.length = (2 : Nat) /\ (2 : Nat) <= (2 : Nat) /\ (∀ (j : Nat), j < a_8.st.length -> gD a_8.st j = gD [(0
 : Int), (1 : Int)] ((0 : Nat) + j)) /\ gD Ug a_8.i = gD Ug i /\ (↑a_8.n : Int) = (↑(21 : Nat) : Int) /\ (0 : Nat) = (0 : Nat) /\ (31 : Nat) = (31 : Nat) /\ Int.ofNat (31 : Nat) = Int.ofNat (31 : Nat) /\ (↑a_8.i : Int) = (↑i
 : Int) /\ (31 : Nat) = (31 : Nat) /\ (∀ (i : Nat), i < (31 : Nat) -> gD Ug i = gD Ug i) /\ a_8.N.g.length = (3 : Nat) /\ (3 : Nat) <= (3 : Nat) /\ (∀ (j : Nat), j < a_8.N.g.length -> (gD a_8.N.g j).lo = (gD N.g ((0 : Nat) +
 j)).lo /\ (gD a_8.N.g j).hi = (gD N.g ((0 : Nat) + j)).hi) /\ a_8.N.r.length = (2 : Nat) /\ (2 : Nat) <= (2 : Nat) /\ (∀ (j : Nat), j < a_8.N.r.length -> (gD a_8.N.r j).fr = (gD N.r ((0 : Nat) + j)).fr /\ (gD a_8.N.r j).to =
 (gD N.r ((0 : Nat) + j)).to /\ (gD a_8.N.r j).sp.lo = (gD N.r ((0 : Nat) + j)).sp.lo /\ (gD a_8.N.r j).sp.hi = (gD N.r ((0 : Nat) + j)).sp.hi) /\ a_8.T.f.length = (2 : Nat) /\ (2 : Nat) <= (2 : Nat) /\ (∀ (j : Nat), j <
 a_8.T.f.length -> gD a_8.T.f j = gD [(110 : Int), (118 : Int)] ((0 : Nat) + j)) /\ a_8.T.t.length = (3 : Nat) /\ (3 : Nat) <= (3 : Nat) /\ (∀ (j : Nat), j < a_8.T.t.length -> gD a_8.T.t j = gD [(110 : Int), (8 : Int), (-118 :
 Int)] ((0 : Nat) + j)) /\ a_8.c = (15 : Int) /\ a_8.r = (1 : Int) /\ a_8.f = gD Ug i) /\ a_8.i < (31 : Nat) /\ (31 : Nat) - a_8.i = (31 : Nat) - a /\ a_8.n < (24 : Nat) /\ (24 : Nat) - a_8.n = (24 : Nat) - a_2.n) := by
 kernel_rfl
def BEU (w : One) : Prop := FA Try.prog A12 pS 12 (M4 22) (AF Try.f12) [] Q3
theorem BKB (w : One) : (BEU w) = (AG (λ i=>PH i (λ j=>PT j i (λ l k=>QE l i 22 2 j 22 0 2 (λ m=>QC (TN m m m (FN Ej (λ n=>FL n (kT m) (Yc n l (Iu (bN 0 1) n))) (AOG m l) (AMW m 22) AC Di Ib (ANF m l) (PW m (λ n=>VG n m m n k n k) m (λ n=>Bq n (OP m) (Eb m n k n) (QH m n) k n (QI m n) k n) (UV m m m m m m m)))) m m i m m j))))) := by kernel_rfl
def BHO (w : One) : Prop := FA Try.prog A12 pS 12 (M4 23) (AF Try.f12) [] Q3
theorem BLJ (w : One) : (BHO w) = (AG (λ i=>PH i (λ j=>PT j i (λ l k=>QE l i 23 1 j 23 1 2 (λ m=>QC (TN m m m (FN Ej (λ n=>FL n (kT m) (Vl n l (Iu (bN 0 1) n))) (AOG m l) (AMW m 23) AC Di Ib (ANF m l) (PW m (λ n=>VG n m m n k n k) m (λ n=>Bq n (OP m) (Eb m n k n) (QH m n) k n (QI m n) k n) (UV m m m m m m m)))) m m i m m j))))) := by kernel_rfl
theorem BQI (w : One) : BMK w := by
 rw [BNR]<;> simp only [go_sem]; intro a h0 s h1 i N h2 h3 h4 h5
 refine ⟨by simp, Pu 0 (gD Ug i) N i, ?_, h2, h3, h4, h5⟩
 simp [Pu, up, Ey, Gm, rng_length, CO, Gl, Gk, Ku]
theorem BRM (w : One) : BMN w := by
 rw [BNN]<;> simp only [go_sem]; intro a h0 s h1 i N h2 h3 h4 h5
 refine ⟨by simp, Pu 1 (gD Ug i) N i, ?_, h2, h3, h4, h5⟩
 simp [Pu, up, Ey, Gm, rng_length, CO, Gl, Gk, Ku]
theorem BQS (w : One) : BLU w := by
 rw [BOA]<;> simp only [go_sem]; intro a h0 s h1 i N h2 h3 h4 h5
 refine ⟨by simp, Pu 2 (gD Ug i) N i, ?_, h2, h3, h4, h5⟩
 simp [Pu, up, Ey, Gm, rng_length, CO, Gl, Gk, Ku]
theorem BQH (w : One) : BMF w := by
 rw [BOB]<;> simp only [go_sem]; intro a h0 s h1 i N h2 h3 h4 h5
 refine ⟨by simp, Pu 3 (gD Ug i) N i, ?_, h2, h3, h4, h5⟩
 simp [Pu, up, Ey, Gm, rng_length, CO, Gl, Gk, Ku]
theorem BQM (w : One) : BMD w := by
 rw [BNJ]<;> simp only [go_sem]; intro a h0 s h1 i N h2 h3 h4 h5
 refine ⟨by simp, Pu 4 (gD Ug i) N i, ?_, h2, h3, h4, h5⟩
 simp [Pu, up, Ey, Gm, rng_length, CO, Gl, Gk, Ku]
theorem BRK (w : One) : BLY w := by
 rw [BOE]<;> simp only [go_sem]; intro a h0 s h1 i N h2 h3 h4 h5
 refine ⟨by simp, Pu 5 (gD Ug i) N i, ?_, h2, h3, h4, h5⟩
 simp [Pu, up, Ey, Gm, rng_length, CO, Gl, Gk, Ku]
theorem BQU (w : One) : BMO w := by
 rw [BOZ]<;> simp only [go_sem]; intro a h0 s h1 i N h2 h3 h4 h5
 refine ⟨by simp, Pu 6 (gD Ug i) N i, ?_, h2, h3, h4, h5⟩
 simp [Pu, up, Ey, Gm, rng_length, CO, Gl, Gk, Ku]
theorem BQL (w : One) : BMM w := by
 rw [BMZ]<;> simp only [go_sem]; intro a h0 s h1 i N h2 h3 h4 h5
 refine ⟨by simp, Pu 7 (gD Ug i) N i, ?_, h2, h3, h4, h5⟩
 simp [Pu, up, Ey, Gm, rng_length, CO, Gl, Gk, Ku]
theorem BQY (w : One) : BMV w := by
 rw [BNL]<;> simp only [go_sem]; intro a h0 s h1 i N h2 h3 h4 h5
 refine ⟨by simp, Pu 8 (gD Ug i) N i, ?_, h2, h3, h4, h5⟩
 simp [Pu, up, Ey, Gm, rng_length, CO, Gl, Gk, Ku]
theorem BQN (w : One) : BLT w := by
 rw [BOD]<;> simp only [go_sem]; intro a h0 s h1 i N h2 h3 h4 h5
 refine ⟨by simp, Pu 9 (gD Ug i) N i, ?_, h2, h3, h4, h5⟩
 simp [Pu, up, Ey, Gm, rng_length, CO, Gl, Gk, Ku]
theorem BNQ (w : One) : BGB w := by
 rw [BKH]<;> simp only [go_sem]; intro a h0 s h1 i N h2 h3 h4 h5
 refine ⟨by simp, Pu 10 (gD Ug i) N i, ?_, h2, h3, h4, h5⟩
 simp [Pu, up, Ey, Gm, rng_length, CO, Gl, Gk, Ku]
theorem BNG (w : One) : BJL w := by
 rw [BLE]<;> simp only [go_sem]; intro a h0 s h1 i N h2 h3 h4 h5
 refine ⟨by simp, Pu 11 (gD Ug i) N i, ?_, h2, h3, h4, h5⟩
 simp [Pu, up, Ey, Gm, rng_length, CO, Gl, Gk, Ku]
theorem BOU (w : One) : BFW w := by
 rw [BKP]<;> simp only [go_sem]; intro a h0 s h1 i N h2 h3 h4 h5
 refine ⟨by simp, Pu 12 (gD Ug i) N i, ?_, h2, h3, h4, h5⟩
 simp [Pu, up, Ey, Gm, rng_length, CO, Gl, Gk, Ku]
theorem BNB (w : One) : BEA w := by
 rw [BKO]<;> simp only [go_sem]; intro a h0 s h1 i N h2 h3 h4 h5
 refine ⟨by simp, Pu 13 (gD Ug i) N i, ?_, h2, h3, h4, h5⟩
 simp [Pu, up, Ey, Gm, rng_length, CO, Gl, Gk, Ku]
theorem BNP (w : One) : BFJ w := by
 rw [BLD]<;> simp only [go_sem]; intro a h0 s h1 i N h2 h3 h4 h5
 refine ⟨by simp, Pu 14 (gD Ug i) N i, ?_, h2, h3, h4, h5⟩
 simp [Pu, up, Ey, Gm, rng_length, CO, Gl, Gk, Ku]
theorem BOH (w : One) : BII w := by
 rw [BKE]<;> simp only [go_sem]; intro a h0 s h1 i N h2 h3 h4 h5
 refine ⟨by simp, Pu 15 (gD Ug i) N i, ?_, h2, h3, h4, h5⟩
 simp [Pu, up, Ey, Gm, rng_length, CO, Gl, Gk, Ku]
theorem BNV (w : One) : BHI w := by
 rw [BJX]; intro a h0 s h1 i N h2 h3 h4 h5
 refine ⟨by simp, Pu 16 (gD Ug i) N i, ?_, h2, h3, h4, h5⟩
 simp [Pu, up, Ey, Gm, rng_length, CO, Gl, Gk, Ku]
theorem BOL (w : One) : BID w := by
 rw [BJZ]<;> simp only [go_sem]; intro a h0 s h1 i N h2 h3 h4 h5
 refine ⟨by simp, Pu 17 (gD Ug i) N i, ?_, h2, h3, h4, h5⟩
 simp [Pu, up, Ey, Gm, rng_length, CO, Gl, Gk, Ku]
theorem BNO (w : One) : BHW w := by
 rw [BLO]<;> simp only [go_sem]; intro a h0 s h1 i N h2 h3 h4 h5
 refine ⟨by simp, Pu 18 (gD Ug i) N i, ?_, h2, h3, h4, h5⟩
 simp [Pu, up, Ey, Gm, rng_length, CO, Gl, Gk, Ku]
theorem BOV (w : One) : BEF w := by
 rw [BKC]<;> simp only [go_sem]; intro a h0 s h1 i N h2 h3 h4 h5
 refine ⟨by simp, Pu 19 (gD Ug i) N i, ?_, h2, h3, h4, h5⟩
 simp [Pu, up, Ey, Gm, rng_length, CO, Gl, Gk, Ku]
theorem BNU (w : One) : BDY w := by
 rw [BKU]; intro a h0 s h1 i N h2 h3 h4 h5
 refine ⟨by simp, Pu 20 (gD Ug i) N i, ?_, h2, h3, h4, h5⟩
 simp [Pu, up, Ey, Gm, rng_length, CO, Gl, Gk, Ku]
theorem BOT (w : One) : BFY w := by
 rw [BLM]; intro a h0 s h1 i N h2 h3 h4 h5
 refine ⟨by simp, Pu 21 (gD Ug i) N i, ?_, h2, h3, h4, h5⟩
 simp [Pu, up, Ey, Gm, rng_length, CO, Gl, Gk, Ku]
theorem BNY (w : One) : BEU w := by
 rw [BKB]<;> simp only [go_sem]; intro a h0 s h1 i N h2 h3 h4 h5
 refine ⟨by simp, Pu 22 (gD Ug i) N i, ?_, h2, h3, h4, h5⟩
 simp [Pu, up, Ey, Gm, rng_length, CO, Gl, Gk, Ku]
theorem BNS (w : One) : BHO w := by
 rw [BLJ]<;> simp only [go_sem]; intro a h0 s h1 i N h2 h3 h4 h5
 refine ⟨by simp, Pu 23 (gD Ug i) N i, ?_, h2, h3, h4, h5⟩
 simp [Pu, up, Ey, Gm, rng_length, CO, Gl, Gk, Ku]
end Go.Bal
