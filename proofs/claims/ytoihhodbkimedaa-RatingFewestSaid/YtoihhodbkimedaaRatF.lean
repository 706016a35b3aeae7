/- Package rating: a book at work. -/
import Derived.Test.YtoihhodbkimedaaRatD
set_option linter.unusedVariables false
set_option linter.unusedSimpArgs false
namespace Go.Bal
open Go Go.Sym Go.Proofs
structure Bk where
 g : List Gau
 b : List Int
 has : Int -> Bool
 st : Int -> Int
def Jq (w : Bk) (k : Int) : List Gau := w.g.filter λ g => (Tl w.b g.st : Int) == k
def QO (s : List Gau) : List Ln := (Lu s).filter (Fd s)
def PJ (w : Bk) (j : Int) : List Ln := bif w.has j then QO (Jq w j) else []
def bkB (w : Bk) (m : Nat) : AObj := .box [.d (DX w.g), .d (DC w.b), .mref m]
def bkM (w : Bk) : AObj := .imap .i64 (.slice none 0 0) w.has (λ j => wY (PJ w j)) w.st none
def bkL (w : Bk) : List (Nat × AObj) := [(100, bkB w 101), (101, bkM w)]
def bkK (w : Bk) : List (Nat × HCell) := [(100, .live (bkB w 101)), (101, .live (bkM w))]
def XS (g : List Gau) (b : List Int) : Prop := g.length <= 24 /\ (∀ x ∈ g, XH x) /\ b.length <= 24 /\ asc b /\ ∀ x ∈ b, 1 <= x /\ x <= 2000
def ATV (H : Heap) (id : Nat) : Option (Bk × Nat) := match H id with
 | .live (.box [.d (.list _ n g _), .d (.list _ m b _), .mref q]) => match H q with
  | .live (.imap _ _ has _ st _) => some (⟨OC n λ i => Ux (g i), OC m λ i => JD (b i), has, st⟩, q)
  | _ => none
 | _ => none
structure BkI where
 w : Bk
 k : Int
def dBkI : List AVal -> Heap -> Option (BkI × List (Nat × Nat) × List Nat)
 | [.bptr id _, .d k], H => match ATV H id with
  | some (w, q) => some (⟨w, JD k⟩, [(100, id), (101, q)], [])
  | none => none
 | _, _ => none
def inA (w : Bk) (k : Int) (i : Nat) : Bool := (Tl w.b (gD w.g i).st : Int) == k
def BZB (w : Bk) (k : Int) (m : Nat) : HCell := .live (.row 1 24 λ j => CHY (bif decide (j < m) then inA w k j else false))
def oR (w : Bk) (k : Int) (i : Nat) : List Gau := (w.g.take i).filter λ g => (Tl w.b g.st : Int) == k
def in3 (a : BkI) : Shape := { α := Nat, dflt := 0, T := λ i => ⟨[(0, .bptr 100 0), (1, .int a.k), (5, .rptr 201 1 0 0), (15, .d (DX a.w.g)), (16, .int a.w.g.length), (17, .int i)], bkK a.w ++ [(201, BZB a.w a.k i)]⟩, inv := λ i => i <= a.w.g.length, meas := λ i => a.w.g.length - i, first := [(201, 2000)] }
structure GsK where
 i : Nat
 l : List Gau
 deriving Inhabited
def in9s (a : BkI) (i : Nat) : List (Nat × AVal) := [(5, .rptr 201 1 0 0), (39, .d (DX a.w.g)), (40, .int a.w.g.length), (41, .int i)]
def rowG (l : List Gau) : AObj := .row 3 l.length λ i => eGau (gD l i)
def in9h (a : BkI) : List (Nat × HCell) := bkK a.w ++ [(201, BZB a.w a.k a.w.g.length)]
def in9n (a : BkI) : Shape := { α := Nat, dflt := 0, T := λ i => ⟨(8, .d VG) :: in9s a i, in9h a⟩, inv := λ i => i <= a.w.g.length /\ oR a.w a.k i = [], meas := λ i => a.w.g.length - i }
def in9o (a : BkI) : Shape := { α := GsK, dflt := default, T := λ x => ⟨(8, .own 202 3 0 x.l.length) :: in9s a x.i, in9h a ++ [(202, .live (rowG x.l))]⟩, inv := λ x => x.i <= a.w.g.length /\ x.l = oR a.w a.k x.i, meas := λ x => a.w.g.length - x.i }
def CFV (a : BkI) (m : Nat) : Shape := { α := Nat, dflt := 0, T := λ i => ⟨(8, .d VG) :: in9s a i, in9h a⟩, inv := λ i => i < a.w.g.length /\ a.w.g.length - i = m /\ oR a.w a.k (i + 1) = [], meas := λ i => 0 }
def BYP (a : BkI) (m : Nat) (f : List (Nat × Nat)) : Shape := { α := GsK, dflt := default, T := λ x => ⟨(8, .own 202 3 0 x.l.length) :: in9s a x.i, in9h a ++ [(202, .live (rowG x.l))]⟩, inv := λ x => x.i < a.w.g.length /\ a.w.g.length - x.i = m /\ x.l = oR a.w a.k (x.i + 1), meas := λ x => 0, first := f }
def C_inside : Ctr := { ro := [100, 101], α := BkI, xs := λ a => [.bptr 100 0, .int a.k], L := λ a => bkL a.w, val := λ a => .d (DX (Jq a.w a.k)), keep := λ a => bkK a.w, pre := λ a => [XS a.w.g a.w.b /\ True] }
def BCA (a : BkI) : Ann := { ann 55 [(AXD, C_part.spec dIX)] with E := [100, 101], mt := λ id => id == 12, loops := λ id => if id = 3 then some [in3 a] else if id = 9 then some [in9n a, in9o a] else none, cutIn := λ gs id => if id = 13 then some [CFV a (gs.getD 0 0), BYP a (gs.getD 0 0) [(202, 13048)], BYP a (gs.getD 0 0) []] else none }
def AZZ (a : BkI) : Prop := CH Try.prog (BCA a) ARL (AI ARL) (C_inside.xs a) (AD (C_inside.L a)) (C_inside.val a) (C_inside.keep a) [] [202]
abbrev BHA:=@Array.toList Value
abbrev HS:=BkI.k
abbrev RR:=Bk.g
abbrev BQ:=BkI.w
abbrev RQ:=Bk.b
abbrev ZE:=@none Addr
abbrev AR:=λ (f : Int -> Prop) => ∀ (x : Int), f x
abbrev Ii:=Bk.has
abbrev Bw:=Bk.st
abbrev GE:=@List.length Ln
abbrev MO:=@gD Ln instInhabitedLn
abbrev ARR:=@Eq (List Gau)
abbrev iH:=@Exists GsK
abbrev CR:=GsK.l
abbrev CK:=GsK.i
abbrev AAT:=λ (f : GsK -> Prop) => ∀ (x : GsK), f x
abbrev bW:=Jq
abbrev ZD a:=(@Eq Value) a a
abbrev DO:=ZD (Value.slice ZE 0 0)
abbrev OW a b c d e f g h:=AQ a b c d e DO f g h
abbrev MW a b c d e f g (h:Int->Prop):=OW a b c d e f g (AR h)
abbrev Dg a b:=AG (λ i=>AP i a (MX b i))
abbrev XD a:=RQ (BQ a)
abbrev NV a:=CX (RQ a)
abbrev XM a:=NV (BQ a)
abbrev Az a:=Dg (XM a) (XD a)
abbrev Bh a:=BO (XM a)
abbrev JF a:=RR (BQ a)
abbrev RM a:=CB (JF a)
abbrev RJ a:=AS (JF a)
abbrev WN a b c d e f g (h:Int->Prop):=MW a (RJ b) (RM c) (Bh d) (Az e) f g h
abbrev Hd a (b:Nat->Prop):=EP (BO a) b
abbrev Ek a b:=GE (PJ a b)
abbrev SH a b (c:Nat->Prop):=Hd (Ek a b) c
abbrev NQ a b (c:Nat->Prop):=SH (BQ a) b c
abbrev NT a b c d e f:=AP a b (AH c d e f)
abbrev Ls a b c d e f g:=NT a (Ek b c) d e f g
abbrev Ib a b c:=MO (PJ a b) c
abbrev Kp a b c:=LU (Ib a b c)
abbrev Lb a b c:=KR (Ib a b c)
abbrev SD a b c d e:=Ls a b c d (AK (Lb b c a)) (AK (Kp b c a)) (AK e)
abbrev BF a b c:=MC (Ib a b c)
abbrev Dd a b c:=BF (BQ a) b c
abbrev Jo a b c:=KZ (Ib a b c)
abbrev SP a b c:=AK (Jo a b c)
abbrev NO a b c d e f g h p:=SD a (BQ b) c (SP (BQ d) e f) (Dd g h p)
abbrev HL a:=AR (λ i=>AK (Bw a i))
abbrev IS a:=HL (BQ a)
abbrev UP a:=AR (λ i=>JQ (Ii a i))
abbrev IN a:=UP (BQ a)
abbrev Nc a b:=AW a (CR b)
abbrev VB a b c d e:=CJ a (And b c) d e
abbrev Dy a b:=ON (JF a) b
abbrev Fm a b:=Dy a (CK b)
abbrev YH a b:=ARR (CR a) b
abbrev dL a b c:=oR (BQ a) (HS b) c
abbrev mY a b:=IA a (JF b)
abbrev DD a b c d e f (g:Nat->Prop) h (p:Nat->Prop):=KJ a b c d e f (AG g) h p
abbrev AMG a b:=AP a 24 b
abbrev eQ a b:=AMG a (JQ b)
abbrev L5 a b c d e:=HG (Ll a b) (inA (BQ c) (HS d) e)
abbrev AHJ a:=DM (JF a)
abbrev Qj a b c d e:=L5 a (AHJ b) c d e
abbrev Rf:=BO 24
abbrev Pr a:=JS (JF a)
abbrev fA a b c:=dL a b (KF c)
abbrev eJ a b:=Ki a (JF b)
abbrev Kx a:=ARR a (@List.nil Gau)
abbrev Ta a b c d:=JG a (DM b) c d
abbrev Nw a b c d:=Ta a (CR b) c d
abbrev Ke a b:=CQ (CR a) b
abbrev Kg a:=NS (CR a)
abbrev Mg:=Mw 3
abbrev Jz a b:=And (AS a) b
abbrev Uu a b:=KC a (RQ b)
abbrev Cp a:=Uu (NV a) a
abbrev MQ a:=Cp (BQ a)
abbrev ME a:=KY a Dc
abbrev Mr a b c:=AP a b (ME c)
abbrev ACT a b:=(@List.cons Value) (Value.bool a) b
abbrev sF a:=ACT Dc (ACT Dc (ACT Dc (ACT Dc a)))
attribute [go_sem] BHA HS RR BQ RQ ZE AR Ii Bw GE MO ARR iH CR CK AAT bW ZD DO OW MW Dg XD NV XM Az Bh JF RM RJ WN Hd Ek SH NQ NT Ls Ib Kp Lb SD BF Dd Jo SP NO HL IS UP IN Nc VB Dy Fm YH dL mY DD AMG eQ L5 AHJ Qj Rf Pr fA eJ Kx Ta Nw Ke Kg Mg Jz Uu Cp MQ ME Mr ACT sF
theorem BLZ (a : BkI) : (AZZ a) = (UH ((@Eq (List Value)) (BHA (Value.cells (Value.agg ((@List.toArray Value) (sF (sF (sF (sF (sF (sF (@List.nil Value))))))))))) ((@List.flatten Value) ((@List.replicate (List Value)) 24 (BHA (Value.cells (Value.bool Dc)))))) (SA (λ i=>And (BI (AK (HS a)) AC (RJ a) (RM a) (Pr a) (CN i) (RJ a) (KJ (RM a) (Bh a) (Az a) DO (IN a) (IS a) (AR (λ j=>NQ a j (λ k=>NO k a j a j k a j k))) Rf (λ j=>Mr j 24 (L5 j i a a j)))) (Il i (AHJ a)))) (λ i=>DH (Il i (AHJ a)) i (FQ (JF a)) (AE (YM i (JF a)) (AY (BB (MQ a) (XM a)) (CE (MQ a) (XD a)) (Th (JF a) i) (And (KM (MQ a)) (Cr DT (MQ a))) (GA i 24) (JU i 24)) (SA (λ j=>CJ (BI (AK (HS a)) AC (RJ a) (RM a) (Pr a) (BJ j i) (RJ a) (KJ (RM a) (Bh a) (Az a) DO (IN a) (IS a) (AR (λ k=>NQ a k (λ l=>NO l a k a k l a k l))) Rf (λ k=>AMG k (KY (L5 k j a a k) (hd5 (Is k i) (TU (BK (Tl (MQ a) (AX (JF a) i))) (HS a)) (L5 k i a a k)))))) (Il j (AHJ a)) (Dy a j) (Dy a i)))) (AE (SA (λ j=>AE (Dq BM (RJ a) (RM a) (Pr a) (CN j) (RJ a) (KJ (RM a) (Bh a) (Az a) DO (IN a) (IS a) (AR (λ k=>NQ a k (λ l=>NO l a k a k l a k l))) Rf (λ k=>AMG k (KY (Qj k a a a k) (L5 k i a a k))))) (mY j a) (Kx (dL a a j)))) (AG (λ j=>SC (And (mY j a) (Kx (dL a a j))) j (FQ (JF a)) (HM (YM j (JF a)) (And (GA j 24) (JU j 24)) (Qj j a a a j) (And (Gn 3 Mg 24) (iH (λ k=>AH (AE AC (Ke k 1) (gK AC (RJ a) (RM a) (Pr a) (EA (CK k) j) (Bh a) (DD (Az a) DO (IN a) (IS a) (AR (λ l=>NQ a l (λ m=>NO m a l a l m a l m))) Rf (λ l=>eQ l (Qj l a a a l)) (Ke k 1) (λ l=>DV l (CR k) (DY (CR k) l (JF a) j) (DN (CR k) l (JF a) j) (JF a) j)))) (eJ (CK k) a) (AT (Fm a k) (Dy a j)) (YH k (fA a a (CK k)))))) (SA (λ k=>AH (Dq BM (RJ a) (RM a) (Pr a) (EA k j) (RJ a) (KJ (RM a) (Bh a) (Az a) DO (IN a) (IS a) (AR (λ l=>NQ a l (λ m=>NO m a l a l m a l m))) Rf (λ l=>eQ l (Qj l a a a l)))) (eJ k a) (AT (Dy a k) (Dy a j)) (Kx (fA a a k))))) (Bu (AG (λ k=>CG (AE (eJ k a) (AT (Dy a k) (Dy a j)) (Kx (fA a a k))) (SA (λ l=>VB (Dq BM (RJ a) (RM a) (Pr a) (BJ l k) (RJ a) (KJ (RM a) (Bh a) (Az a) DO (IN a) (IS a) (AR (λ m=>NQ a m (λ n=>NO n a m a m n a m n))) Rf (λ m=>eQ m (Qj m a a a m)))) (mY l a) (Kx (dL a a l)) (Dy a l) (Dy a j))))) (AAT (λ k=>CG (AE (eJ (CK k) a) (AT (Fm a k) (Dy a j)) (YH k (fA a a (CK k)))) (iH (λ l=>VB (AE AC (Nc (CR l) k) (gK AC (RJ a) (RM a) (Pr a) (BJ (CK l) (CK k)) (Bh a) (DD (Az a) DO (IN a) (IS a) (AR (λ m=>NQ a m (λ n=>NO n a m a m n a m n))) Rf (λ m=>eQ m (Qj m a a a m)) (Nc (CR l) k) (λ m=>FB m (CR l) (CR k))))) (mY (CK l) a) (YH l (dL a a (CK l))) (Fm a l) (Dy a j)))))) (And (CQ (bW (BQ a) (HS a)) 0) (WN (CQ (bW (BQ a) (HS a)) 0) a a a a (IN a) (IS a) (λ k=>NQ a k (λ l=>NO l a k a k l a k l)))))) (AAT (λ j=>SC (And (mY (CK j) a) (YH j (dL a a (CK j)))) (CK j) (FQ (JF a)) (HM (YM (CK j) (JF a)) (And (GA (CK j) 24) (JU (CK j) 24)) (Qj (CK j) a a a (CK j)) (And (YY (Jz (CR j) (CY 0 (CR j) (BO 3))) Mg (Kg j) 24) (iH (λ k=>AH (AE AC (Ke k (Kg j)) (gK AC (RJ a) (RM a) (Pr a) (EA (CK k) (CK j)) (Bh a) (DD (Az a) DO (IN a) (IS a) (AR (λ l=>NQ a l (λ m=>NO m a l a l m a l m))) Rf (λ l=>eQ l (Qj l a a a l)) (Ke k (Kg j)) (λ l=>CL l (CR k) (DE (CR k) l (Nw l j (AX (CR j) l) (AX (JF a) (CK j)))) (DG (CR k) l (Nw l j (BH (CR j) l) (BH (JF a) (CK j)))) (DF (CR k) l (Nw l j (BN (CR j) l) (BN (JF a) (CK j)))))))) (eJ (CK k) a) (AT (Fm a k) (Fm a j)) (YH k (fA a a (CK k)))))) (iH (λ k=>AH (AE AC (Nc (CR k) j) (gK AC (RJ a) (RM a) (Pr a) (EA (CK k) (CK j)) (Bh a) (DD (Az a) DO (IN a) (IS a) (AR (λ l=>NQ a l (λ m=>NO m a l a l m a l m))) Rf (λ l=>eQ l (Qj l a a a l)) (Nc (CR k) j) (λ l=>FB l (CR k) (CR j))))) (eJ (CK k) a) (AT (Fm a k) (Fm a j)) (YH k (fA a a (CK k)))))) (Bu (AG (λ k=>CG (AE (eJ k a) (AT (Dy a k) (Fm a j)) (Kx (fA a a k))) (SA (λ l=>VB (Dq BM (RJ a) (RM a) (Pr a) (BJ l k) (RJ a) (KJ (RM a) (Bh a) (Az a) DO (IN a) (IS a) (AR (λ m=>NQ a m (λ n=>NO n a m a m n a m n))) Rf (λ m=>eQ m (Qj m a a a m)))) (mY l a) (Kx (dL a a l)) (Dy a l) (Fm a j))))) (AAT (λ k=>CG (AE (eJ (CK k) a) (AT (Fm a k) (Fm a j)) (YH k (fA a a (CK k)))) (iH (λ l=>VB (AE AC (Nc (CR l) k) (gK AC (RJ a) (RM a) (Pr a) (BJ (CK l) (CK k)) (Bh a) (DD (Az a) DO (IN a) (IS a) (AR (λ m=>NQ a m (λ n=>NO n a m a m n a m n))) Rf (λ m=>eQ m (Qj m a a a m)) (Nc (CR l) k) (λ m=>FB m (CR l) (CR k))))) (mY (CK l) a) (YH l (dL a a (CK l))) (Fm a l) (Fm a j)))))) (AE (Nc (bW (BQ a) (HS a)) j) (IA (CF (DM (CR j))) (CR j)) (WN (AG (λ k=>DV k (bW (BQ a) (HS a)) (DY (bW (BQ a) (HS a)) k (CR j) (CF k)) (DN (bW (BQ a) (HS a)) k (CR j) (CF k)) (CR j) (CF k))) a a a a (IN a) (IS a) (λ k=>NQ a k (λ l=>NO l a k a k l a k l))))))))) := by kernel_rfl
theorem uY {w : Bk} {k : Int} {i : Nat} (h : i < w.g.length) : oR w k (i + 1) = if inA w k i = true then oR w k i ++ [gD w.g i] else oR w k i := by
 unfold oR
 rw [SQ h, List.filter_append]
 unfold inA
 split
 ·rename_i h1; simp [List.filter_cons, h1]
 ·rename_i h1; simp [List.filter_cons, h1]
theorem BCQ {w : Bk} {k : Int} {i : Nat} (h : w.g.length <= i) : oR w k i = Jq w k := by unfold oR Jq; rw [List.take_of_length_le h]
theorem AZH {w : Bk} {k : Int} {i : Nat} : (oR w k i).length <= w.g.length :=
 Nat.le_trans (List.length_filter_le _ _) (by simp; omega)
theorem BIK (l : List Gau) (p : Gau) (i : Nat) (hi : i < (l ++ [p]).length) : ((gD (l ++ [p]) i).st = bif decide (i < l.length) then (gD l i).st else p.st) /\ ((gD (l ++ [p]) i).lo = bif decide (i < l.length) then (gD l i).lo else p.lo) /\ (gD (l ++ [p]) i).hi = bif decide (i < l.length) then (gD l i).hi else p.hi := by
 rw [bV _ _ (by simpa using hi)]
 cases decide (i < l.length) <;> exact ⟨rfl, rfl, rfl⟩
theorem BSE (a : BkI) (h : XS a.w.g a.w.b) : AZZ a := by
 rw [BLZ]<;> delta KY hd5 Dc GH HK FK KZ KR LU MC KN PN FA AO AT CX AG CG CM EM BK DB DW DT QP PD RO FM PQ TU DM GP SA EF Cr Il KT Ie Is Ej Ll BHA HS RR BQ RQ ZE AR Ii Bw GE MO ARR iH CR CK AAT bW KK AE KC FQ AJ AP NV DR AK Bu BO JQ ZD Ia DK AX Ib AQ AH Uu BH CY BN CL CZ CA KF DP FT GI JF AC BB ED IG Ek HI gK CQ EP DF MX CF FC NT DG EN AW AY ZJ BF LW CJ DE DN AS EO Kp EA DY Lb ON MY Ls JM Cp EU FE DV HP BM FG Jo CE MK KJ IA XM JG JE HG IF DO IE cH Cv FB HD UP CB IK BI DD JC EZ NY Df XD Dg BJ HL Ki JS Hd ME RM MQ Bv DH RJ Gr SH SP Dd NS IS IN CN Dy Bh OW GA UX UY ZT ACT SE Az Dl MW HM JU Dk Eh SD NQ aD Ti Mw KM AHJ Kx NO YY dL YH Ta Fm Zh L5 Pr YM Kg UH Hw Rf Ke SC Mr VB Nc sF Mg Dq Qj AMG eJ Gn eQ Nw WN fA mY Th Jz; simp only [CC, eq_self, implies_true, forall_const]
 obtain ⟨hg, hgo, hb, hasc, hbr⟩ := h
 have cn : ∀ (m i : Nat), i < a.w.g.length /\ a.w.g.length - i = m /\ oR a.w a.k (i + 1) = [] -> ∃ j : Nat, (j : Int) = IntKind.i64.wrap ((i : Int) + 1) /\ (j <= a.w.g.length /\ oR a.w a.k j = []) /\ a.w.g.length - j < m := λ m i h => ⟨i + 1, (EQ (by omega)).symm, ⟨h.1, h.2.2⟩, by omega⟩
 have co : ∀ (m : Nat) (x : GsK), x.i < a.w.g.length /\ a.w.g.length - x.i = m /\ x.l = oR a.w a.k (x.i + 1) -> ∃ y : GsK, (y.l.length = x.l.length /\ (y.i : Int) = IntKind.i64.wrap ((x.i : Int) + 1) /\ y.l.length = x.l.length /\ ∀ (i : Nat), i < y.l.length -> (gD y.l i).st = (gD x.l i).st /\ (gD y.l i).lo = (gD x.l i).lo /\ (gD y.l i).hi = (gD x.l i).hi) /\ (y.i <= a.w.g.length /\ y.l = oR a.w a.k y.i) /\ a.w.g.length - y.i < m := λ m x h => ⟨⟨x.i + 1, x.l⟩, ⟨rfl, (EQ (by omega)).symm, rfl, λ _ _ => ⟨rfl, rfl, rfl⟩⟩, ⟨h.1, h.2.2⟩, by show a.w.g.length - (x.i + 1) < m; omega⟩
 have ne : ∀ (i : Nat), i < a.w.g.length -> oR a.w a.k i = [] -> inA a.w a.k i = false -> oR a.w a.k (i + 1) = [] := λ i hi h1 h2 => by
  rw [uY hi, h2, h1]; simp
 refine ⟨rfl, ⟨0, ⟨rfl, λ i hi => by simp⟩, Nat.zero_le _⟩, λ i hi => ⟨λ hlt => ⟨⟨by omega, by omega⟩, ⟨⟨by omega, hasc⟩, ⟨by omega, by omega⟩, by omega⟩, i + 1, ⟨(EQ (by omega)).symm, λ j hj => ?_⟩, by omega, by omega⟩, λ hge => ⟨⟨0, ⟨rfl, λ j hj => by rw [show i = a.w.g.length by omega]⟩, Nat.zero_le _, by simp [oR]⟩,
  λ i hi => ⟨λ hlt => ⟨⟨⟨by omega, by omega⟩, ⟨⟨by omega, by omega⟩, by omega⟩, λ hp => ⟨by simp, ⟨i, [gD a.w.g i]⟩, ⟨rfl, rfl, rfl, λ j hj => ?_⟩, Int.ofNat_lt.1 hlt, rfl, ?_⟩, λ hp => ⟨i, rfl, by omega, rfl, ne i (by omega) hi.2 ?_⟩⟩, cn _, co _⟩, λ hge => ?_⟩,
  λ x hx => ⟨λ hlt => ⟨⟨⟨by omega, by omega⟩, ⟨⟨by omega, by omega⟩, by omega⟩, λ hp => ⟨⟨by simp, by simp, ?_, ?_⟩, ⟨x.i, x.l ++ [gD a.w.g x.i]⟩, ⟨by simp, rfl, by simp, BIK _ _⟩, Int.ofNat_lt.1 hlt, rfl, ?_⟩, λ hp => ⟨⟨x.i, x.l⟩, ⟨rfl, rfl, rfl, λ _ _ => ⟨rfl, rfl, rfl⟩⟩, Int.ofNat_lt.1 hlt, rfl, ?_⟩⟩, cn _, co _⟩, λ hge => ?_⟩⟩⟩⟩
 ·by_cases h1 : j = i
  ·subst h1; simp [inA]
  ·by_cases h2 : j < i
   ·simp [h1, h2, show j < i + 1 by omega]
   ·simp [h1, h2, show ¬ j < i + 1 by omega]
 ·have : j = 0 := by have hj : j < 1 := hj; omega
  subst this; exact ⟨rfl, rfl, rfl⟩
 ·have hlt' : i < a.w.g.length := Int.ofNat_lt.1 hlt
  show [gD a.w.g i] = _
  rw [uY hlt', hi.2, if_pos (by simpa [hlt'] using hp)]; rfl
 ·have hlt' : i < a.w.g.length := Int.ofNat_lt.1 hlt
  simpa [hlt'] using hp
 ·rw [<- BCQ (i := i) (by omega), hi.2]; rfl
 ·have := AZH (w := a.w) (k := a.k) (i := x.i); rw [<- hx.2] at this; omega
 ·have := AZH (w := a.w) (k := a.k) (i := x.i); rw [<- hx.2] at this; omega
 ·show x.l ++ _ = _
  have hlt' : x.i < a.w.g.length := Int.ofNat_lt.1 hlt
  rw [uY hlt', <- hx.2, if_pos (by simpa [hlt'] using hp)]
 ·show x.l = _
  have hlt' : x.i < a.w.g.length := Int.ofNat_lt.1 hlt
  rw [uY hlt', <- hx.2, if_neg (by simpa [hlt'] using hp)]
 ·have e : x.l = Jq a.w a.k := by rw [hx.2, BCQ (by omega)]
  rw [e]; exact ⟨rfl, Nat.le_refl _, λ _ _ => ⟨rfl, rfl, rfl⟩⟩
theorem wF : AL Try.prog AAY (C_inside.spec dBkI) := Ih C_inside BCA [] [202] BLB (λ _ => by kernel_rfl) (λ _ => AB AXW AF) (λ (a : BkI) h => BSE a (show XS a.w.g a.w.b /\ True from h).1) (λ _ => Jf rfl rfl) _
def DI (w : Bk) (k : Int) : Span := ⟨bif decide (k > 0) then gD w.b (k - 1).toNat else 0, bif decide (k < w.b.length) then wr (gD w.b k.toNat - 1) else 2000⟩
def C_span : Ctr := { ro := [100, 101], α := BkI, xs := λ a => [.bptr 100 0, .int a.k], L := λ a => bkL a.w, val := λ a => .d (AUB (DI a.w a.k)), keep := λ a => bkK a.w, pre := λ a => [XS a.w.g a.w.b /\ 0 <= a.k /\ a.k <= a.w.b.length] }
def BNU : Ann := { ann 38 [] with E := [100, 101] }
def BML (a : BkI) : Prop := CH Try.prog BNU BEA (AI BEA) (C_span.xs a) (AD (C_span.L a)) (C_span.val a) (C_span.keep a) [] []
abbrev Zy:=Span.lo
abbrev La:=Span.hi
abbrev Gk a b:=La (DI a b)
abbrev VT a b:=Zy (DI a b)
abbrev Cz a:=ZR a 0
attribute [go_sem] Zy La Gk VT Cz
theorem BWY (a : BkI) : (BML a) = (FA (Cz (HS a)) (And (JM (QJ (HS a)) (BK (XM a))) (IF (HS a) (BK (XM a)) (AE (JM (HS a) (BK (XM a))) (AO (VT (BQ a) (HS a)) (cZ (XD a) (QJ (HS a)))) (WN (AO (Gk (BQ a) (HS a)) (QJ (cZ (XD a) (HS a)))) a a a a (IN a) (IS a) (λ i=>NQ a i (λ j=>NO j a i a i j a i j)))) (And (AO (VT (BQ a) (HS a)) (cZ (XD a) (QJ (HS a)))) (WN (AO (Gk (BQ a) (HS a)) 2000) a a a a (IN a) (IS a) (λ i=>NQ a i (λ j=>NO j a i a i j a i j)))))) (IF (HS a) (BK (XM a)) (AE (JM (HS a) (BK (XM a))) (CD (VT (BQ a) (HS a))) (WN (AO (Gk (BQ a) (HS a)) (QJ (cZ (XD a) (HS a)))) a a a a (IN a) (IS a) (λ i=>NQ a i (λ j=>NO j a i a i j a i j)))) (And (CD (VT (BQ a) (HS a))) (WN (AO (Gk (BQ a) (HS a)) 2000) a a a a (IN a) (IS a) (λ i=>NQ a i (λ j=>NO j a i a i j a i j)))))) := by kernel_rfl
theorem wG : AL Try.prog AOC (C_span.spec dBkI) := Ih C_span (λ _ => BNU) [] [] BVK (λ _ => by kernel_rfl) (λ _ => AF) (λ (a : BkI) h => by
 show BML a; rw [BWY]<;> delta KY GH HK FK KZ KR LU MC KN FA AO ZR AT CX AG CG CM EM BK DW DT QP PD Ah DM GP GF HS RR BQ RQ ZE AR Ii Bw GE MO Zy La AE AJ AP NV DR AK BO JQ ZD AX Ib AQ AH BH TA CY BN CL CA JF IG Ek EP MX NT BF AS Kp Lb CD QJ Ls JM Jo MK XM IF DO HD UP CB XD Dg HL Hd RM RJ SH SP Dd Cz VT IS IN Bh OW Gk Az MW SD NQ cZ NO WN; simp only [CC, eq_self, implies_true, forall_const]
 obtain ⟨⟨hg, hgo, hb, hasc, hbr⟩, h1, h2⟩ : XS a.w.g a.w.b /\ 0 <= a.k /\ a.k <= a.w.b.length := h
 rw [LS (n := a.k - 1) (by omega) (by omega)]
 unfold DI wr
 refine ⟨λ h3 => ⟨by omega, λ h4 => ⟨by omega, ?_, ?_⟩, λ h4 => ⟨?_, ?_⟩⟩, λ h3 => ⟨λ h4 => ⟨by omega, ?_, ?_⟩, λ h4 => ⟨?_, ?_⟩⟩⟩ <;> simp [h3, h4]) (λ _ => Jf rfl rfl) _
structure GB where
 g : List Gau
 b : List Int
def dGB : List AVal -> Heap -> Option (GB × List (Nat × Nat) × List Nat)
 | [x, y], H => match tL x H, AIY y H with
  | some (l, f), some (m, e) => some (⟨l, m⟩, [], f ++ e)
  | _, _ => none
 | _, _ => none
def xGB (a : GB) : List AVal := [.d (DX a.g), .d (DC a.b)]
def DQ (a : GB) : Int := bif AZ a.g == 0 then Kt a.b else AZ a.g
def PE (a : GB) : Bk := ⟨a.g, a.b, λ _ => false, λ _ => 0⟩
def C_open : Ctr := { α := GB, xs := xGB, L := λ _ => [], val := λ _ => .tup [.bptr 0 0, .int 0], keep := λ a => [(0, .live (bkB (PE a) 1)), (1, .live (bkM (PE a)))], pre := λ a => [a.g.length < 4611686018427387904 /\ a.b.length < 4611686018427387904 /\ DQ a = 0] }
def C_openX : Ctr := { α := GB, xs := xGB, L := λ _ => [], val := λ a => .tup [.d (.v (.pointer none)), .int (DQ a)], keep := λ _ => [], pre := λ a => [a.g.length < 4611686018427387904 /\ a.b.length < 4611686018427387904 /\ DQ a ≠ 0] }
def AUY : Ann := ann 22 [(mR, C_Check.spec Ch), (AQK, C_checkB.spec dIs1)]
def BPV (a : GB) : Prop := CH Try.prog AUY tN (AI tN) (xGB a) (AD []) (C_open.val a) (C_open.keep a) [(0, 7080), (1, 7048)] []
abbrev TF:=GB.b
abbrev DJ:=PE
abbrev Lj a b c:=AT (Ek a b) c
abbrev WJ:=AR (λ i=>JQ Dc)
abbrev YT a b c:=AG (λ i=>TC i a (RQ b) c)
abbrev RB a b:=YT (NV a) a b
abbrev UG a b:=AT (NV a) b
abbrev Cx a b:=UG a (CX b)
abbrev Uk a b:=BE a (GB.g b)
abbrev Of a:=RR (DJ a)
abbrev Tv a b:=AW a (GB.g b)
abbrev Gt a:=KO (Io a)
abbrev Jr a:=AU (GB.g a)
abbrev rZ a b:=QS (TF a) (TF b)
abbrev ZF a:=rZ a a
abbrev Bl a:=KM (ZF a)
abbrev MJ a:=TU a 0
abbrev Bf a:=FW (Jr a)
abbrev Ax a b:=Uk (Jr a) b
abbrev Bj a b:=Tv (Jr a) b
attribute [go_sem] TF DJ Lj WJ YT RB UG Cx Uk Of Tv Gt Jr rZ ZF Bl MJ Bf Ax Bj
theorem BXT (a : GB) : (BPV a) = (BC (UB (Bj a a) (Ax a a) (Bf a)) (MJ (Io (Jr a))) (BC (UB (CO (ZF a) (TF a)) (CE (ZF a) (TF a)) (Bl a)) (KO (xY (ZF a))) WQ (MW BA (Tv (Of a) a) (Uk (Of a) a) (Cx (DJ a) (TF a)) (RB (DJ a) (TF a)) WJ (AR (λ i=>CD (Bw (DJ a) i))) (λ i=>xX (Lj (DJ a) i 0)))) (FA (Gt (Jr a)) WQ (MW BA (Tv (Of a) a) (Uk (Of a) a) (Cx (DJ a) (TF a)) (RB (DJ a) (TF a)) WJ (AR (λ i=>CD (Bw (DJ a) i))) (λ i=>xX (Lj (DJ a) i 0))))) := by kernel_rfl
def BHX (a : GB) : Prop := CH Try.prog AUY tN (AI tN) (xGB a) (AD []) (C_openX.val a) [] [] []
abbrev AMQ:=Value.pointer
abbrev Cs:=DQ
attribute [go_sem] AMQ Cs
theorem BNX (a : GB) : (BHX a) = (BC (UB (Bj a a) (Ax a a) (Bf a)) (MJ (Io (Jr a))) (BC (UB (CO (ZF a) (TF a)) (CE (ZF a) (TF a)) (Bl a)) (KO (xY (ZF a))) (EB (ZD (AMQ ZE)) (Cs a) (xY (ZF a))) WQ) (FA (Gt (Jr a)) (EB (ZD (AMQ ZE)) (Cs a) (Io (Jr a))) WQ)) := by kernel_rfl
theorem AAE : AL Try.prog Sb (C_open.spec dGB) := Ih C_open (λ _ => AUY) [(0, 7080), (1, 7048)] [] AUL (λ _ => by kernel_rfl) (λ _ => AB Wv (AB ATW AF)) (λ (a : GB) h => by
 show BPV a; rw [BXT]<;> delta KY Dc GH HK FK Tu FA AO AT CX AG CG CM EM PQ YC WQ TU DM GP EF Io xY RR RQ ZE AR Bw GE TF DJ KK AE KC AJ AP NV AU AK JQ ZD xX QS AX AQ AH Jr BH CY rZ BN CL CZ FT GI BB Ek HI ZF CQ DF FC DG EN AW DE DN EO ZI DY CD EU FE TC DV HP FG CE CO UQ DO MN Lj FB BE BA BC JC UG YT OW KO RB FW MW KM MJ WJ Of UB Tv Uk Cx Bl Bf Ax Bj Gt; simp only [CC, eq_self, implies_true, forall_const]
 obtain ⟨h1, h2, h3⟩ : a.g.length < 4611686018427387904 /\ a.b.length < 4611686018427387904 /\ DQ a = 0 := h
 have key : (PE a).g.length = a.g.length /\ (∀ i : Nat, i < (PE a).g.length -> (gD (PE a).g i).st = (gD a.g i).st /\ (gD (PE a).g i).lo = (gD a.g i).lo /\ (gD (PE a).g i).hi = (gD a.g i).hi) /\ (PE a).b.length = a.b.length /\ (∀ i : Nat, i < (PE a).b.length -> gD (PE a).b i = gD a.b i) /\ (∀ n : Int, (PE a).st n = 0) /\ ∀ n : Int, (PJ (PE a) n).length = 0 := ⟨rfl, λ _ _ => ⟨rfl, rfl, rfl⟩, rfl, λ _ _ => rfl, λ _ => rfl, λ _ => rfl⟩
 unfold DQ at h3
 refine ⟨h1, λ h4 => ⟨h2, λ h5 => ?_, λ _ => key⟩, λ h4 => ⟨λ h5 => ?_, λ _ => key⟩⟩
 ·rw [h4] at h3; simp at h3 h5; exact h5 h3
 ·rw [h4] at h3; simp at h3 h5; exact h5 h3) (λ _ => Jf rfl rfl) _
theorem Y1 : AL Try.prog Sb (C_openX.spec dGB) := Ih C_openX (λ _ => AUY) [] [] AUL (λ _ => by kernel_rfl) (λ _ => AB Wv (AB ATW AF)) (λ (a : GB) h => by
 show BHX a; rw [BNX]<;> delta GH HK FK Tu FA AO AT CX AG CG CM EM PQ WQ TU DM GP EF Io xY ZE TF AMQ Cs KK AE KC AP AU ZD QS AX AH Jr BH CY rZ BN CL CZ FT GI BB HI ZF CQ DF FC DG EN AW DE DN EO DY EU FE DV HP FG CE CO MN FB BE BC JC EB KO FW KM MJ UB Tv Uk Bl Bf Ax Bj Gt; simp only [CC, eq_self, implies_true, forall_const]
 obtain ⟨h1, h2, h3⟩ : a.g.length < 4611686018427387904 /\ a.b.length < 4611686018427387904 /\ DQ a ≠ 0 := h
 refine ⟨h1, λ h4 => ⟨h2, λ h5 => ?_, λ h5 => h3 ?_⟩, λ h4 => ⟨λ h5 => ?_, λ h5 => h3 ?_⟩⟩
 ·unfold DQ; rw [h4]; rfl
 ·unfold DQ; rw [h4]; simpa using h5
 ·unfold DQ; rw [h4]; rfl
 ·unfold DQ; rw [h4]; simpa using h5) (λ _ => Jf rfl rfl) _
end Go.Bal
