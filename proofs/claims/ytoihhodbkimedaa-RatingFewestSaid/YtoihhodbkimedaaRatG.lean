/- Package rating: lines of a part that bound its flows. -/
import Derived.Test.YtoihhodbkimedaaRatF
set_option linter.unusedVariables false
set_option linter.unusedSimpArgs false
namespace Go.Bal
open Go Go.Sym Go.Proofs
def rowL (l : List Ln) : AObj := .row 4 l.length λ i => eLn (gD l i)
def dLs1 : List AVal -> Heap -> Option (List Ln × List (Nat × Nat) × List Nat)
 | [y], H => match dLns y H with
  | some (l, f) => some (l, [], f)
  | none => none
 | _, _ => none
def C_cloN : Ctr := { α := List Ln, xs := λ l => [.d (wY l)], L := λ _ => [], val := λ l => .own 0 4 0 l.length, keep := λ l => [(0, .live (rowL l))], pre := λ l => [0 < l.length /\ l.length < 1073741824] }
def BPF : Ann := { ann 8 [] with mt := λ id => id == 3 }
def BQS (l : List Ln) : Prop := CH Try.prog BPF X1 (AI X1) (C_cloN.xs l) (AD []) (C_cloN.val l) (C_cloN.keep l) [(0, 4032)] []
abbrev jM a b c d:=AJ a b c c d
abbrev Ub a b c:=jM a AC b c
abbrev YV a b (c:Nat->Prop):=Ub a b (AG c)
abbrev RU a b:=QY a (MC b)
abbrev SF a b:=An a (LU b)
abbrev SI a b:=UF a (KR b)
abbrev SK a b:=TW a (KZ b)
abbrev IZ a b c d:=NT a b (SK c d) (SI c d) (SF c d) (RU c d)
abbrev Gf a:=FM a 0
attribute [go_sem] jM Ub YV RU SF SI SK IZ Gf
theorem BUM (l : List Ln) : (BQS l) = (And (JU 0 (GE l)) (YV (Ti (ZT AC (BO 4)) (Bv EF (GE l) 4) (UY (IK (GE l))) (CF (GE l)) 32) (AT (GE l) (CF (GE l))) (λ i=>IZ i (GE l) (MO l i) (MO l (Gf i))))) := by kernel_rfl
def nilN : DVal := .list 0 0 (λ _ => default) false
def C_cloE : Ctr := { α := One, xs := λ _ => [.d nilN], L := λ _ => [], val := λ _ => .d VG, keep := λ _ => [] }
def dNil : List AVal -> Heap -> Option (One × List (Nat × Nat) × List Nat)
 | [.d (.list 0 0 _ _)], _ => some (default, [], [])
 | _, _ => none
def BPR : Ann := { ann 8 [] with md := λ id => if id = 3 then some (λ k => if k = 0 then 4 else 0) else none }
def BPY (_x : One) : Prop := CH Try.prog BPR X1 (AI X1) (C_cloE.xs _x) (AD []) (C_cloE.val _x) [] [] []
theorem BVN (_x : One) : (BPY _x) = (And (EP AC (λ i=>ZJ i (JQ Dc))) (Bu (Eh (BO 4) (SE (Hw 4)) (UY (IK 0)) 0 0) AC)) := by kernel_rfl
theorem BVX : AL Try.prog ALH (C_cloN.spec dLs1) := Ih C_cloN (λ _ => BPF) [(0, 4032)] [] BBH (λ _ => by kernel_rfl) (λ _ => AF) (λ (l : List Ln) h => by
 show BQS l; rw [BUM]<;> delta KY Dc KZ KR LU MC PN AO AT AG CG CM DB FM EF Il KT Ej GE MO AE AJ AP BO jM AH AC CF NT LW MY IE cH An IK QY UF NY TW SI RU SF SK Bv Gr UY ZT Gf JU Ti IZ Ub YV; simp only [CC, eq_self, implies_true, forall_const]
 obtain ⟨h1, h2⟩ : 0 < l.length /\ l.length < 1073741824 := h
 exact ⟨h1, ⟨λ _ => h1, by omega, by omega⟩, λ _ _ => ⟨rfl, rfl, rfl, rfl⟩⟩) (λ _ => Jf rfl rfl) _
theorem BWZ : AL Try.prog ALH (C_cloE.spec dNil) := Ih C_cloE (λ _ => BPR) [] [] BBH (λ _ => by kernel_rfl) (λ _ => AF) (λ (x : One) _ => by
 show BPY x; rw [BVN]<;> delta KY Dc PN AT AG CG CM DB EF AE AJ AP Bu BO JQ AC EP ZJ LW MY IE IK NY Gr UY ZT SE Eh Hw; simp only [CC, eq_self, implies_true, forall_const]
 exact ⟨by omega, by simp, by omega, by omega⟩) (λ _ => Jf rfl rfl) _
structure BkS where
 w : Bk
 k : Int
 st : Int
def dBkS : List AVal -> Heap -> Option (BkS × List (Nat × Nat) × List Nat)
 | [.bptr id _, .d k, .d t], H => match ATV H id with
  | some (w, q) => some (⟨w, JD k, JD t⟩, [(100, id), (101, q)], [])
  | none => none
 | _, _ => none
def WB (w : Bk) (k : Int) : Bk := ⟨w.g, w.b, XI w.has k, wX w.has w.st k⟩
def moB (t : Int) : List Ln := [BP ⟨t, 0⟩, BP ⟨t, 200000⟩]
def En (s : List Gau) (t : Int) (i : Nat) : List Ln := moB t ++ ((AA s).take i).flatMap λ p => [nZ ⟨t, 0⟩ p, nZ p ⟨t, 200000⟩]
def KS (s : List Gau) (t : Int) : List Ln := moB t ++ (AA s).flatMap λ p => [nZ ⟨t, 0⟩ p, nZ p ⟨t, 200000⟩]
def xG (s : List Gau) (x : Ln) : Bool := bif jT x then Fd s x else false
def UD (s : List Gau) (t : Int) : List Ln := bif (bif decide (0 < s.length) then decide ((QO s).length = 0) else false) then [] else QO s ++ (KS s t).filter (xG s)
structure LnK where
 i : Nat
 l : List Ln
 deriving Inhabited
structure LnJ where
 i : Nat
 j : Nat
 l : List Ln
 deriving Inhabited
def sB (a : BkS) : List Gau := Jq a.w a.k
def lsH (a : BkS) (c : AVal) : List (Nat × HCell) := bkK a.w ++ [(2048, .live (.box [.d (DX (sB a))])), (3144, .live (.box [c]))]
def lsR (a : BkS) (l : List Ln) : List (Nat × HCell) := lsH a (.own 401 4 0 l.length) ++ [(401, .live (rowL l))]
def lsPt (p : Pt) : HCell := .live (.box [.int p.st, .int p.fl])
def lsOn (a : BkS) (l : Nat) : Shape := { α := Nat, dflt := 0, T := λ i => ⟨lnS (sB a) l i, lsH a (.d VG)⟩, inv := λ i => i <= (AA (sB a)).length /\ (Rs (sB a) i).filter (Fd (sB a)) = [], meas := λ i => (AA (sB a)).length - i }
def lsOo (a : BkS) (l : Nat) : Shape := { α := LnK, dflt := default, T := λ x => ⟨lnS (sB a) l x.i, lsR a x.l⟩, inv := λ x => x.i <= (AA (sB a)).length /\ x.l = (Rs (sB a) x.i).filter (Fd (sB a)), meas := λ x => (AA (sB a)).length - x.i }
def lsIs (a : BkS) (l i j : Nat) : List (Nat × AVal) := [(5, .bptr 205 0), (22, .d (ePts (AA (sB a)))), (23, .int (AA (sB a)).length), (24, .int j)] ++ lnS (sB a) l i
def lsIn (a : BkS) (q l : Nat) : Shape := { α := IJ, dflt := default, T := λ x => ⟨lsIs a l x.i x.j, (205, lsPt (gD (AA (sB a)) x.i)) :: lsH a (.d VG)⟩, inv := λ x => x.i < (AA (sB a)).length /\ x.j <= (AA (sB a)).length /\ (AA (sB a)).length - x.i = q /\ (QX (sB a) x.i x.j).filter (Fd (sB a)) = [], meas := λ x => (AA (sB a)).length - x.j, first := [(205, 104032)] }
def lsIo (a : BkS) (q l : Nat) (r : List (Nat × Nat)) : Shape := { α := LnJ, dflt := default, T := λ x => ⟨lsIs a l x.i x.j, (205, lsPt (gD (AA (sB a)) x.i)) :: lsR a x.l⟩, inv := λ x => x.i < (AA (sB a)).length /\ x.j <= (AA (sB a)).length /\ (AA (sB a)).length - x.i = q /\ x.l = (QX (sB a) x.i x.j).filter (Fd (sB a)), meas := λ x => (AA (sB a)).length - x.j, first := (205, 104032) :: r, again := r }
noncomputable def BHW (a : BkS) : IterAnn := { fn := Xv, code := AI Xv, live := [0, 1, 2, 7, 8], ann := { base := λ id => 100000 + 1000 * (id + 1), Γ := Sym.look [(ANP, C_ends.spec Ch), (oU, uP), (AZF, BHB)], E := [100, 101, 2048, 3144], n := 41, inner := λ gs id => if id = 2 then some [lsOn a (gs.getD 0 0), lsOo a (gs.getD 0 0)] else if id = 6 then some [lsIn a (gs.getD 0 0) (gs.getD 1 0), lsIo a (gs.getD 0 0) (gs.getD 1 0) [], lsIo a (gs.getD 0 0) (gs.getD 1 0) [(401, 8048)]] else none } }
def ls8s (a : BkS) : List (Nat × AVal) := [(0, .bptr 100 0), (1, .int a.k), (2, .int a.st), (7, .bptr 2048 0), (8, .bptr 3144 0)]
def ls8n (a : BkS) : Shape := { α := One, dflt := default, T := λ _ => ⟨ls8s a, lsH a (.d (wY (QO (sB a))))⟩, inv := λ _ => True, meas := λ _ => 0 }
def ls8o (a : BkS) : Shape := { α := One, dflt := default, T := λ _ => ⟨ls8s a, lsH a (.d (wY (QO (sB a))))⟩, inv := λ _ => True, meas := λ _ => 0, ffz := [401] }
def lsU (a : BkS) (z : DVal) : List (Nat × HCell) := bkK (WB a.w a.k) ++ [(2048, .live (.box [.d (DX (sB a))])), (3144, .live (.box [.d z]))]
def ls9 (a : BkS) (z : DVal) : Shape := { α := One, dflt := default, T := λ _ => ⟨[(2, .int a.st), (7, .bptr 2048 0), (8, .bptr 3144 0)], lsU a z⟩, inv := λ _ => True, meas := λ _ => 0 }
def ls14 (a : BkS) (z : DVal) : Shape := { α := Nat, dflt := 0, T := λ i => ⟨[(7, .bptr 2048 0), (8, .bptr 3144 0), (11, .bptr 12064 0), (12, .bptr 12080 0), (13, .own 402 4 0 (En (sB a) a.st i).length), (67, .d (ePts (AA (sB a)))), (68, .int (AA (sB a)).length), (69, .int i)], lsU a z ++ [(12064, .live (.box [.int a.st, .int 0])), (12080, .live (.box [.int a.st, .int 200000])), (402, .live (rowL (En (sB a) a.st i)))]⟩, inv := λ i => i <= (AA (sB a)).length, meas := λ i => (AA (sB a)).length - i, first := [(402, 13064)], again := [(402, 17128)] }
def BIW (a : BkS) (v : AVal) (i : Nat) : List (Nat × AVal) := [(7, .bptr 2048 0), (16, v), (85, .own 402 4 0 (KS (sB a) a.st).length), (86, .int (KS (sB a) a.st).length), (87, .int i)]
def BHZ (a : BkS) : List (Nat × HCell) := bkK (WB a.w a.k) ++ [(2048, .live (.box [.d (DX (sB a))])), (402, .live (rowL (KS (sB a) a.st)))]
def CFG (a : BkS) : Shape := { α := Nat, dflt := 0, T := λ i => ⟨BIW a (.d VG) i, BHZ a⟩, inv := λ i => i <= (KS (sB a) a.st).length /\ ((KS (sB a) a.st).take i).filter (xG (sB a)) = [], meas := λ i => (KS (sB a) a.st).length - i }
def BZM (a : BkS) : Shape := { α := LnK, dflt := default, T := λ x => ⟨BIW a (.own 403 4 0 x.l.length) x.i, BHZ a ++ [(403, .live (rowL x.l))]⟩, inv := λ x => x.i <= (KS (sB a) a.st).length /\ x.l = QO (sB a) ++ ((KS (sB a) a.st).take x.i).filter (xG (sB a)), meas := λ x => (KS (sB a) a.st).length - x.i, first := [(403, 19016)] }
def CHF (a : BkS) (m : Nat) : Shape := { α := Nat, dflt := 0, T := λ i => ⟨BIW a (.d VG) i, BHZ a⟩, inv := λ i => i < (KS (sB a) a.st).length /\ (KS (sB a) a.st).length - i = m /\ ((KS (sB a) a.st).take (i + 1)).filter (xG (sB a)) = [], meas := λ _ => 0 }
def BKB (a : BkS) (m : Nat) (f : List (Nat × Nat)) : Shape := { α := LnK, dflt := default, T := λ x => ⟨BIW a (.own 403 4 0 x.l.length) x.i, BHZ a ++ [(403, .live (rowL x.l))]⟩, inv := λ x => x.i < (KS (sB a) a.st).length /\ (KS (sB a) a.st).length - x.i = m /\ x.l = QO (sB a) ++ ((KS (sB a) a.st).take (x.i + 1)).filter (xG (sB a)), meas := λ _ => 0, first := f }
def C_lns : Ctr := { ro := [100], α := BkS, xs := λ a => [.bptr 100 0, .int a.k, .int a.st], L := λ a => bkL a.w, val := λ a => .d (wY (UD (sB a) a.st)), keep := λ a => bkK (WB a.w a.k), pre := λ a => [XS a.w.g a.w.b /\ 0 <= a.st /\ a.st <= 2000] }
def CBO (c : Sym.Spec) : List (FuncId × Sym.Spec) := [(AAY, C_inside.spec dBkI), (uM, C_through.spec dGsK), (gS, C_passing.spec dGsL), (oU, uP), (ANP, C_ends.spec Ch), (AZF, BHB), (ALH, c)]
noncomputable def BTA (a : BkS) : Ann := { ann 104 (CBO (C_cloN.spec dLs1)) with E := [100, 101], mt := λ id => id == 7 || id == 16 || id == 23, md := λ id => if id = 2 then some (λ k => if k = 5 then 3 else 0) else none, iter := λ g => if g = ZW then some (BHW a) else none, loops := λ id => if id = 14 then some [ls14 a (wY (QO (sB a)))] else if id = 20 then some [BZM a] else none, cut := λ id => if id = 8 then some [ls8n a, ls8o a] else if id = 9 then some [ls9 a (wY (QO (sB a)))] else none, cutIn := λ gs id => if id = 24 then some [BKB a (gs.getD 0 0) [(403, 24048)], BKB a (gs.getD 0 0) []] else none }
noncomputable def BSM (a : BkS) : Ann := { ann 104 (CBO (C_cloE.spec dNil)) with E := [100, 101], mt := λ id => id == 7 || id == 16 || id == 23, md := λ id => if id = 2 then some (λ k => if k = 5 then 3 else 0) else none, iter := λ g => if g = ZW then some (BHW a) else none, loops := λ id => if id = 14 then some [ls14 a nilN] else if id = 20 then some [CFG a, BZM a] else none, cut := λ id => if id = 8 then some [ls8n a, ls8o a] else if id = 9 then some [ls9 a nilN] else none, cutIn := λ gs id => if id = 24 then some [CHF a (gs.getD 0 0), BKB a (gs.getD 0 0) [(403, 24048)], BKB a (gs.getD 0 0) []] else none }
def BNQ (a : BkS) : Prop := CH Try.prog (BTA a) AAA (AI AAA) (C_lns.xs a) (AD (C_lns.L a)) (C_lns.val a) (C_lns.keep a) [] [403]
abbrev sD (a : BkS) : List Gau := OC a.w.g.length λ (i : Nat) => gD a.w.g i
abbrev rR (a : BkS) : Nat := (sD a).length
abbrev AAQ (a : BkS) (i : Nat) : Gau := gD (sD a) i
abbrev ART (a : BkS) (i : Nat) : Int := (AAQ a i).st
abbrev AQA (a : BkS) (i : Nat) : Int := (AAQ a i).lo
abbrev APC (a : BkS) (i : Nat) : Int := (AAQ a i).hi
abbrev jF (a : BkS) : List Int := OC a.w.b.length λ (i : Nat) => gD a.w.b i
abbrev pZ (a : BkS) : Nat := (jF a).length
abbrev ANB (a : BkS) (i : Nat) : Int := gD (jF a) i
abbrev ARJ : Value := Value.slice none (0 : Nat) (0 : Nat)
abbrev FF : Prop := ARJ = ARJ
abbrev OO (a : BkS) : Prop := ∀ (n : Int), a.w.has n = a.w.has n
abbrev OF (a : BkS) : Prop := ∀ (n : Int), a.w.st n = a.w.st n
abbrev AED (a : BkS) : Bk := Bk.mk (sD a) (jF a) a.w.has a.w.st
abbrev ADH (a : BkS) (n : Int) : List Ln := PJ (AED a) n
abbrev wP (a : BkS) (n : Int) : Nat := (ADH a n).length
abbrev jH (a : BkS) (n : Int) (i : Nat) : Ln := gD (ADH a n) i
abbrev ADX (a : BkS) (n : Int) (i : Nat) : Int := (jH a n i).a0
abbrev AGW (a : BkS) (n : Int) (i : Nat) : Int := (jH a n i).a1
abbrev ADD (a : BkS) (n : Int) (i : Nat) : Int := (jH a n i).b0
abbrev AEN (a : BkS) (n : Int) (i : Nat) : Int := (jH a n i).b1
abbrev AHD (i : Nat) (a : BkS) (n : Int) : Prop := i < (PJ a.w n).length
abbrev Pu (x : Gau) : Prop := (0 : Int) <= x.st /\ x.st <= (2000 : Int) /\ (0 : Int) <= x.lo /\ x.lo <= x.hi /\ x.hi <= (200000 : Int)
abbrev AIP (a : BkS) : Prop := (WB a.w a.k).g.length = a.w.g.length
abbrev AFX (i : Nat) (a : BkS) : Prop := i < (WB a.w a.k).g.length
abbrev wB (a : BkS) (i : Nat) : Gau := gD (WB a.w a.k).g i
abbrev vE (a : BkS) (i : Nat) : Int := (wB a i).st
abbrev vB (a : BkS) (i : Nat) : Int := (wB a i).lo
abbrev vA (a : BkS) (i : Nat) : Int := (wB a i).hi
abbrev ACV (a : BkS) : Prop := ∀ (i : Nat), AFX i a -> vE a i = (gD a.w.g i).st /\ vB a i = (gD a.w.g i).lo /\ vA a i = (gD a.w.g i).hi
abbrev AHM (a : BkS) : Prop := (WB a.w a.k).b.length = a.w.b.length
abbrev AHW (i : Nat) (a : BkS) : Prop := i < (WB a.w a.k).b.length
abbrev vJ (a : BkS) (i : Nat) : Int := gD (WB a.w a.k).b i
abbrev AHA (a : BkS) : Prop := ∀ (i : Nat), AHW i a -> vJ a i = gD a.w.b i
abbrev uH (i : Nat) (a : BkS) (n : Int) : Prop := i < (PJ (WB a.w a.k) n).length
abbrev gB (a : BkS) (n : Int) (i : Nat) : Ln := gD (PJ (WB a.w a.k) n) i
abbrev gQ (a : BkS) (n : Int) (i : Nat) : Int := (gB a n i).a0
abbrev gE (a : BkS) (n : Int) (i : Nat) : Int := (gB a n i).a1
abbrev jB (a : BkS) (n : Int) (i : Nat) : Int := (gB a n i).b0
abbrev iC (a : BkS) (n : Int) (i : Nat) : Int := (gB a n i).b1
abbrev AEA (a : BkS) : List Gau := Jq (AED a) a.k
abbrev wM (a : BkS) : Nat := (AEA a).length
abbrev AGR (a : BkS) : Prop := (sB a).length = wM a
abbrev iM (a : BkS) (i : Nat) : Gau := gD (AEA a) i
abbrev AID (a : BkS) (i : Nat) : Int := (iM a i).st
abbrev AFJ (a : BkS) (i : Nat) : Int := (iM a i).lo
abbrev AFT (a : BkS) (i : Nat) : Int := (iM a i).hi
abbrev AIF (a : BkS) : Prop := ∀ (i : Nat), i < (sB a).length -> (gD (sB a) i).st = AID a i /\ (gD (sB a) i).lo = AFJ a i /\ (gD (sB a) i).hi = AFT a i
abbrev ADI (a : BkS) : Prop := (UD (sB a) a.st).length = (0 : Nat)
abbrev Qz (a : BkS) : Prop := (WB a.w a.k).g.length = (WB a.w a.k).g.length
abbrev Qm (a : BkS) : Prop := ∀ (i : Nat), AFX i a -> vE a i = vE a i /\ vB a i = vB a i /\ vA a i = vA a i
abbrev Mv (a : BkS) : Prop := (WB a.w a.k).b.length = (WB a.w a.k).b.length
abbrev Nn (a : BkS) : Prop := ∀ (i : Nat), AHW i a -> vJ a i = vJ a i
abbrev Nz (a : BkS) : Prop := ∀ (n : Int), (WB a.w a.k).has n = (WB a.w a.k).has n
abbrev Qr (a : BkS) : Prop := ∀ (n : Int), (WB a.w a.k).st n = (WB a.w a.k).st n
abbrev Oe (a : BkS) : Prop := ∀ (n : Int), (PJ (WB a.w a.k) n).length = (PJ (WB a.w a.k) n).length /\ ∀ (i : Nat), uH i a n -> gQ a n i = gQ a n i /\ gE a n i = gE a n i /\
 jB a n i = jB a n i /\ iC a n i = iC a n i
abbrev AHG (a : BkS) : Prop := Qz a /\ Qm a /\ Mv a /\ Nn a /\ FF /\ Nz a /\ Qr a /\ Oe a
abbrev AIA (a : BkS) : Prop := (0 : Int) <= a.st /\ a.st <= (2000 : Int)
abbrev XY (a : BkS) : List Gau := OC (sB a).length λ (i : Nat) => gD (sB a) i
abbrev gZ (a : BkS) : Nat := (XY a).length
abbrev Py (a : BkS) : Prop := gZ a = (sB a).length
abbrev uN (a : BkS) (i : Nat) : Gau := gD (XY a) i
abbrev Ph (a : BkS) : Prop := ∀ (i : Nat), i < gZ a -> (uN a i).st = (gD (sB a) i).st /\ (uN a i).lo = (gD (sB a) i).lo /\ (uN a i).hi = (gD (sB a) i).hi
abbrev HU : Prop := (0 : Nat) = (0 : Nat)
abbrev ADK (a : BkS) (a1 : Nat) : Prop := (En (sB a) a.st a1).length = (2 : Nat)
abbrev AFY (a : BkS) : List Pt := AA (XY a)
abbrev AGI (a : BkS) : Nat := (AFY a).length
abbrev AEI (a : BkS) (i : Nat) : Pt := gD (AFY a) i
abbrev AGB (a : Nat) : Prop := (↑a : Int) = (0 : Int)
abbrev JY (a : BkS) : Prop := (sB a).length = (sB a).length
abbrev JZ (a : BkS) : Prop := ∀ (i : Nat), i < (sB a).length -> (gD (sB a) i).st = (gD (sB a) i).st /\ (gD (sB a) i).lo = (gD (sB a) i).lo /\ (gD (sB a) i).hi = (gD (sB a) i).hi
abbrev wH (a : BkS) : Prop := (QO (sB a)).length = (QO (sB a)).length
abbrev wL (a : BkS) : Prop := ∀ (i : Nat), i < (QO (sB a)).length -> (gD (QO (sB a)) i).a0 = (gD (QO (sB a)) i).a0 /\ (gD (QO (sB a)) i).a1 = (gD (QO (sB a)) i).a1 /\ (gD (QO (sB a)) i).b0 = (gD (QO (sB a))
 i).b0 /\ (gD (QO (sB a)) i).b1 = (gD (QO (sB a)) i).b1
abbrev ADV : Prop := Int.ofNat (0 : Nat) = Int.ofNat (0 : Nat)
abbrev AEY : Prop := Int.ofNat (200000 : Nat) = Int.ofNat (200000 : Nat)
abbrev uK (i : Nat) (a : BkS) (a1 : Nat) : Prop := i < (En (sB a) a.st a1).length
abbrev jJ (a : BkS) (a1 : Nat) (i : Nat) : Ln := gD (En (sB a) a.st a1) i
abbrev iW (a : BkS) (a1 : Nat) (i : Nat) : Int := (jJ a a1 i).a0
abbrev gH (i : Nat) : Bool := decide (i = (0 : Nat))
abbrev iR (a : BkS) (a1 : Nat) (i : Nat) : Int := (jJ a a1 i).a1
abbrev iF (a : BkS) (a1 : Nat) (i : Nat) : Int := (jJ a a1 i).b0
abbrev iT (a : BkS) (a1 : Nat) (i : Nat) : Int := (jJ a a1 i).b1
abbrev ADS (a : Nat) (a1 : BkS) : Prop := (↑a : Int) < (↑(AA (sB a1)).length : Int)
abbrev AHO (a : Nat) (a1 : BkS) : Bool := decide (ADS a a1)
abbrev AHX (a : Nat) (a1 : BkS) : Prop := (0 : Int) <= (↑a : Int) /\ ADS a a1
abbrev Ve : Prop := (4 : Nat) = (4 : Nat)
abbrev AIO : Prop := (0 : Nat) < (2 : Nat)
abbrev uL (a : BkS) (a1 : Nat) : Nat := (En (sB a) a.st a1).length + (2 : Nat)
abbrev ACK (a : BkS) (a1 : Nat) (a2 : Nat) : Prop := (En (sB a) a.st a1).length = uL a a2
abbrev CV (a : BkS) : Prop := (AA (sB a)).length = (AA (sB a)).length
abbrev CU (a : BkS) : Prop := ∀ (i : Nat), i < (AA (sB a)).length -> (gD (AA (sB a)) i).st = (gD (AA (sB a)) i).st /\ (gD (AA (sB a)) i).fl = (gD (AA (sB a)) i).fl
abbrev HE (a : BkS) : Prop := (↑(AA (sB a)).length : Int) = (↑(AA (sB a)).length : Int)
abbrev iG (i : Nat) (a : BkS) (a1 : Nat) : Bool := decide (uK i a a1)
abbrev gI (i : Nat) (a : BkS) (a1 : Nat) : Bool := decide ((0 : Nat) + (i - (En (sB a) a.st a1).length) = (0 : Nat))
abbrev Nl (a : BkS) (a1 : Nat) : Nat := (AA (sB a)).length - a1
abbrev ADF (a : BkS) (a1 : Nat) (a2 : Nat) : Prop := Nl a a1 < Nl a a2
abbrev ADQ (a : BkS) : List Ln := OC (QO (sB a)).length λ (i : Nat) => gD (QO (sB a)) i
abbrev Vk (a : BkS) : Nat := (ADQ a).length
abbrev gF (a : BkS) (i : Nat) : Ln := gD (ADQ a) i
abbrev AHI (a : BkS) (i : Nat) : Int := (gF a i).a0
abbrev W7 (a : BkS) (i : Nat) : Int := (gF a i).a1
abbrev yG (a : BkS) (i : Nat) : Int := (gF a i).b0
abbrev K5 (a : BkS) (i : Nat) : Int := (gF a i).b1
abbrev L8 (a : LnK) (a1 : BkS) : Prop := a.l.length = Vk a1
abbrev N5 (a : BkS) (a1 : Nat) : Prop := (KS (sB a) a.st).length = (En (sB a) a.st a1).length
abbrev F2 (i : Nat) (a : BkS) : Prop := i < (KS (sB a) a.st).length
abbrev oO (a : BkS) (i : Nat) : Int := (gD (KS (sB a) a.st) i).a0
abbrev lO (a : BkS) (i : Nat) : Int := (gD (KS (sB a) a.st) i).a1
abbrev oF (a : BkS) (i : Nat) : Int := (gD (KS (sB a) a.st) i).b0
abbrev kT (a : BkS) (i : Nat) : Int := (gD (KS (sB a) a.st) i).b1
abbrev nG (a : LnK) (a1 : BkS) : Prop := a.i <= (KS (sB a1) a1.st).length /\ a.l = QO (sB a1) ++ List.filter (xG (sB a1)) (List.take a.i (KS (sB a1) a1.st))
abbrev U6 (a : LnK) (a1 : BkS) : Prop := (↑a.i : Int) < (↑(KS (sB a1) a1.st).length : Int)
abbrev O9 (a : LnK) : Prop := (0 : Int) <= (↑a.i : Int)
abbrev E1 (a : LnK) : Nat := (0 : Nat) + a.i
abbrev Hj (a : BkS) (a1 : LnK) : Ln := gD (KS (sB a) a.st) (E1 a1)
abbrev zI (a : BkS) (a1 : LnK) : Bool := jT (Hj a a1)
abbrev Ql (a : BkS) (a1 : LnK) : Int := (Hj a a1).a0
abbrev Oc (a : BkS) (a1 : LnK) : Int := (Hj a a1).a1
abbrev Pv (a : BkS) (a1 : LnK) : Int := (Hj a a1).b0
abbrev Po (a : BkS) (a1 : LnK) : Int := (Hj a a1).b1
abbrev Pa (a : BkS) : Prop := gZ a < (4611686018427387904 : Nat)
abbrev Ok (g : Gau) (a : BkS) : Prop := List.Mem g (XY a)
abbrev kI : Prop := (0 : Nat) < (1 : Nat)
abbrev oY : Prop := (1 : Nat) <= (1 : Nat) /\ (kI -> Ve)
abbrev I9 : Prop := false = true -> kI
abbrev Xj (a : LnK) : Nat := a.l.length + (1 : Nat)
abbrev yN (a : LnK) : Prop := (a.l.length = a.l.length /\ ((0 : Nat) < a.l.length -> Ve)) /\ oY /\ I9 /\ Xj a <= (9223372036854775807 : Nat) /\ Xj a * (32 : Nat) <= (140737488355328
 : Nat)
abbrev C7 (a : LnK) (a1 : LnK) : Prop := a.l.length = Xj a1
abbrev No (a : BkS) : Prop := (KS (sB a) a.st).length = (KS (sB a) a.st).length
abbrev nF (a : BkS) : Prop := (↑(KS (sB a) a.st).length : Int) = (↑(KS (sB a) a.st).length : Int)
abbrev D9 (a : LnK) (a1 : LnK) : Prop := (↑a.i : Int) = (↑a1.i : Int)
abbrev I6 (a : BkS) : Prop := ∀ (i : Nat), F2 i a -> oO a i = oO a i /\ lO a i = lO a i /\ oF a i = oF a i /\ kT a i = kT a i
abbrev XA (i : Nat) (a : LnK) : Bool := decide (i < a.l.length)
abbrev Zx (a : BkS) (a1 : LnK) : Nat := (KS (sB a) a.st).length - a1.i
abbrev jZ (a : LnK) (a1 : BkS) (a2 : LnK) : Prop := a.i < (KS (sB a1) a1.st).length /\ Zx a1 a = Zx a1 a2 /\ a.l = QO (sB a1) ++ List.filter (xG (sB a1)) (List.take (a.i + (1 : Nat)) (KS (sB a1)
 a1.st))
abbrev kU (a : LnK) (a1 : LnK) : Prop := a.l.length = a1.l.length
abbrev A2 (a : BkS) (a1 : LnK) (a2 : LnK) : Prop := Qz a /\ Qm a /\ Mv a /\ Nn a /\ FF /\ Nz a /\ Qr a /\ Oe a /\ JY a /\ JZ a /\ No a /\
 I6 a /\ kU a1 a2 /\ ∀ (i : Nat), i < a1.l.length -> (gD a1.l i).a0 = (gD a2.l i).a0 /\ (gD a1.l i).a1 = (gD a2.l i).a1 /\ (gD a1.l i).b0 = (gD a2.l i).b0 /\ (gD a1.l i).b1 = (gD a2.l i).b1
abbrev L9 (a : BkS) (a1 : LnK) : Prop := ∀ (a_1 : LnK), jZ a_1 a a1 -> ∃ (a_3 : LnK), (HU /\ kU a_3 a_1 /\ HU /\ No a /\ nF a /\ (↑a_3.i : Int) = IntKind.i64.wrap ((↑a_1.i
 : Int) + (1 : Int)) /\ A2 a a_3 a_1) /\ nG a_3 a /\ Zx a a_3 < Zx a a1
abbrev F5 (a : LnK) : Prop := (0 : Nat) + a.l.length <= a.l.length
abbrev Vx (a : LnK) (j : Nat) : Ln := gD a.l ((0 : Nat) + j)
abbrev A5 (a : LnK) (j : Nat) : Int := (Vx a j).a0
abbrev O0 (a : LnK) (j : Nat) : Int := (Vx a j).a1
abbrev T6 (a : LnK) (j : Nat) : Int := (Vx a j).b0
abbrev U5 (a : LnK) (j : Nat) : Int := (Vx a j).b1
abbrev N2 (a : BkS) : Prop := ∀ (a_1 : One), True -> bif bif decide ((↑(sB a).length : Int) > (0 : Int)) then (↑(QO (sB a)).length : Int) == (0 : Int) else false then ADI a /\ ADI a /\ AHG a else
 (AIA a /\ AIA a) /\ (Py a /\ Ph a /\ gZ a < (1073741824 : Nat) /\ True) /\ (∃ (a_3 : Nat), (HU /\ ADK a a_3 /\ (AA (sB a)).length = AGI a /\ (∀ (i : Nat), i < (AA (sB
 a)).length -> (gD (AA (sB a)) i).st = (AEI a i).st /\ (gD (AA (sB a)) i).fl = (AEI a i).fl) /\ (↑(AA (sB a)).length : Int) = (↑(AGI a) : Int) /\ AGB a_3 /\ Qz a /\ Qm a /\
 Mv a /\ Nn a /\ FF /\ Nz a /\ Qr a /\ Oe a /\ JY a /\ JZ a /\ wH a /\ wL a /\ a.st = a.st /\ ADV /\ a.st = a.st /\ AEY /\ ADK a a_3 /\ ∀ (i : Nat),
 uK i a a_3 -> (iW a a_3 i = bif gH i then (BP (Pt.mk a.st (0 : Int))).a0 else (BP (Pt.mk a.st (200000 : Int))).a0) /\ (iR a a_3 i = bif gH i then (BP (Pt.mk a.st (0 : Int))).a1 else
 (BP (Pt.mk a.st (200000 : Int))).a1) /\ (iF a a_3 i = bif gH i then (BP (Pt.mk a.st (0 : Int))).b0 else (BP (Pt.mk a.st (200000 : Int))).b0) /\ iT a a_3 i = bif gH i then (BP (Pt.mk a.st
 (0 : Int))).b1 else (BP (Pt.mk a.st (200000 : Int))).b1) /\ a_3.le (AA (sB a)).length) /\ ∀ (a_3 : Nat), a_3.le (AA (sB a)).length -> bif AHO a_3 a then AHX a_3 a /\ (((En (sB a) a.st a_3).length = (En
 (sB a) a.st a_3).length /\ ((0 : Nat) < (En (sB a) a.st a_3).length -> Ve)) /\ ((2 : Nat) <= (2 : Nat) /\ (AIO -> Ve)) /\ (false = true -> AIO) /\ uL a a_3 <= (9223372036854775807 : Nat) /\
 uL a a_3 * (32 : Nat) <= (140737488355328 : Nat)) /\ ∃ (a_5 : Nat), (HU /\ ACK a a_5 a_3 /\ CV a /\ CU a /\ HE a /\ (↑a_5 : Int) = IntKind.i64.wrap ((↑a_3 : Int) + (1 : Int)) /\ Qz
 a /\ Qm a /\ Mv a /\ Nn a /\ FF /\ Nz a /\ Qr a /\ Oe a /\ JY a /\ JZ a /\ wH a /\ wL a /\ a.st = a.st /\ ADV /\ a.st = a.st /\ AEY /\ ACK a
 a_5 a_3 /\ ∀ (i : Nat), uK i a a_5 -> (iW a a_5 i = bif iG i a a_3 then iW a a_3 i else bif gI i a a_3 then a.st else (gD (AA (sB a)) a_3).st) /\ (iR a a_5 i = bif iG i a
 a_3 then iR a a_3 i else bif gI i a a_3 then (0 : Int) else (gD (AA (sB a)) a_3).fl) /\ (iF a a_5 i = bif iG i a a_3 then iF a a_3 i else bif gI i a a_3 then (gD (AA (sB a))
 a_3).st else a.st) /\ iT a a_5 i = bif iG i a a_3 then iT a a_3 i else bif gI i a a_3 then (gD (AA (sB a)) a_3).fl else (200000 : Int)) /\ a_5.le (AA (sB a)).length /\ ADF a a_5 a_3
 else (Vk a = (QO (sB a)).length /\ (∀ (i : Nat), i < Vk a -> AHI a i = (gD (QO (sB a)) i).a0 /\ W7 a i = (gD (QO (sB a)) i).a1 /\ yG a i = (gD (QO (sB a)) i).b0 /\ K5 a i = (gD
 (QO (sB a)) i).b1) /\ (0 : Nat) < Vk a /\ Vk a < (1073741824 : Nat)) /\ (∃ (a_5 : LnK), (HU /\ L8 a_5 a /\ HU /\ N5 a a_3 /\ (↑(KS (sB a) a.st).length : Int) = (↑(En (sB a) a.st
 a_3).length : Int) /\ (↑a_5.i : Int) = (0 : Int) /\ Qz a /\ Qm a /\ Mv a /\ Nn a /\ FF /\ Nz a /\ Qr a /\ Oe a /\ JY a /\ JZ a /\ N5 a a_3 /\ (∀ (i : Nat),
 F2 i a -> oO a i = iW a a_3 i /\ lO a i = iR a a_3 i /\ oF a i = iF a a_3 i /\ kT a i = iT a a_3 i) /\ L8 a_5 a /\ ∀ (i : Nat), i < a_5.l.length -> (gD
 a_5.l i).a0 = AHI a i /\ (gD a_5.l i).a1 = W7 a i /\ (gD a_5.l i).b0 = yG a i /\ (gD a_5.l i).b1 = K5 a i) /\ nG a_5 a) /\ ∀ (a_5 : LnK), nG a_5 a -> bif decide (U6 a_5 a)
 then (((O9 a_5 /\ U6 a_5 a) /\ (E1 a_5).succ.le (KS (sB a) a.st).length) /\ (zI a a_5 = true -> Py a /\ Ph a /\ Ql a a_5 = Ql a a_5 /\ Oc a a_5 = Oc
 a a_5 /\ Pv a a_5 = Pv a a_5 /\ Po a a_5 = Po a a_5 /\ Pa a /\ ∀ (g : Gau), Ok g a -> ((0 : Int) <= Ql a a_5 /\ Ql a a_5 < Pv a a_5 /\ Pv a a_5 <=
 (2000 : Int) /\ (0 : Int) <= Oc a a_5 /\ Oc a a_5 <= Po a a_5 /\ Po a a_5 <= (200000 : Int)) /\ Pu g) /\ bif bif zI a a_5 then (XY a).all λ (g : Gau) => KI (Hj a
 a_5) g else false then yN a_5 /\ ∃ (a_7 : LnK), (HU /\ C7 a_7 a_5 /\ HU /\ No a /\ nF a /\ D9 a_7 a_5 /\ Qz a /\ Qm a /\ Mv a /\ Nn a /\ FF /\
 Nz a /\ Qr a /\ Oe a /\ JY a /\ JZ a /\ No a /\ I6 a /\ C7 a_7 a_5 /\ ∀ (i : Nat), i < a_7.l.length -> ((gD a_7.l i).a0 = bif XA i a_5 then (gD a_5.l i).a0 else
 Ql a a_5) /\ ((gD a_7.l i).a1 = bif XA i a_5 then (gD a_5.l i).a1 else Oc a a_5) /\ ((gD a_7.l i).b0 = bif XA i a_5 then (gD a_5.l i).b0 else Pv a a_5) /\ (gD a_7.l i).b1 = bif
 XA i a_5 then (gD a_5.l i).b1 else Po a a_5) /\ jZ a_7 a a_5 else ∃ (a_7 : LnK), (HU /\ kU a_7 a_5 /\ HU /\ No a /\ nF a /\ D9 a_7 a_5 /\ A2 a a_7
 a_5) /\ jZ a_7 a a_5) /\ L9 a a_5 /\ L9 a a_5 else (UD (sB a) a.st).length = a_5.l.length /\ F5 a_5 /\ (∀ (j : Nat), j < (UD (sB a) a.st).length -> (gD (UD (sB a) a.st) j).a0 = A5
 a_5 j /\ (gD (UD (sB a) a.st) j).a1 = O0 a_5 j /\ (gD (UD (sB a) a.st) j).b0 = T6 a_5 j /\ (gD (UD (sB a) a.st) j).b1 = U5 a_5 j) /\ AHG a
abbrev S7 (a : BkS) : List Gau := OC (wM a) λ (i : Nat) => iM a i
abbrev Zo (a : BkS) : Nat := (S7 a).length
abbrev aH (a : BkS) (i : Nat) : Gau := gD (S7 a) i
abbrev O7 (a : BkS) (i : Nat) : Int := (aH a i).st
abbrev F1 (a : BkS) (i : Nat) : Int := (aH a i).lo
abbrev B5 (a : BkS) (i : Nat) : Int := (aH a i).hi
abbrev oN (a : BkS) : List Gau := OC (Zo a) λ (i : Nat) => aH a i
abbrev nM (a : BkS) : Nat := (oN a).length
abbrev nU (a : BkS) (i : Nat) : Gau := gD (oN a) i
abbrev I4 (a : BkS) : List Pt := AA (oN a)
abbrev H3 (a : BkS) : Nat := (I4 a).length
abbrev O1 (a : BkS) : Prop := (AA (sB a)).length = H3 a
abbrev E6 (a : BkS) (i : Nat) : Pt := gD (I4 a) i
abbrev V8 (a : BkS) : Prop := ∀ (i : Nat), i < (AA (sB a)).length -> (gD (AA (sB a)) i).st = (E6 a i).st /\ (gD (AA (sB a)) i).fl = (E6 a i).fl
abbrev OS (a : BkS) : Prop := a.w.g.length = a.w.g.length
abbrev OT (a : BkS) : Prop := ∀ (i : Nat), i < a.w.g.length -> (gD a.w.g i).st = (gD a.w.g i).st /\ (gD a.w.g i).lo = (gD a.w.g i).lo /\ (gD a.w.g i).hi = (gD a.w.g i).hi
abbrev OX (a : BkS) : Prop := a.w.b.length = a.w.b.length
abbrev PA (a : BkS) : Prop := ∀ (i : Nat), i < a.w.b.length -> gD a.w.b i = gD a.w.b i
abbrev OV (a : BkS) : Prop := ∀ (n : Int), (PJ a.w n).length = (PJ a.w n).length /\ ∀ (i : Nat), AHD i a n -> (gD (PJ a.w n) i).a0 = (gD (PJ a.w n) i).a0 /\ (gD (PJ a.w n) i).a1 = (gD (PJ a.w n) i).a1 /\
 (gD (PJ a.w n) i).b0 = (gD (PJ a.w n) i).b0 /\ (gD (PJ a.w n) i).b1 = (gD (PJ a.w n) i).b1
abbrev I1 : Prop := HU /\ ∀ (i : Nat), i < (0 : Nat) -> false = false
abbrev aV (a : Nat) (a1 : BkS) : Prop := a <= (AA (sB a1)).length /\ List.filter (Fd (sB a1)) (Rs (sB a1) a) = []
abbrev lK : Prop := (True /\ ((0 : Nat) < (0 : Nat) -> (0 : Nat) = (4 : Nat))) /\ oY /\ (true = true -> kI) /\ (1 : Nat) <= (9223372036854775807 : Nat) /\ (32 : Nat) <= (140737488355328 : Nat)
abbrev mV (a : LnJ) : Prop := (↑a.j : Int) = (0 : Int)
abbrev Wz (a : LnJ) : Prop := a.l.length = (1 : Nat)
abbrev C2 (a : LnJ) (a1 : BkS) : Prop := a.i < (AA (sB a1)).length
abbrev yQ (a : LnJ) (a1 : BkS) : Prop := a.j <= (AA (sB a1)).length
abbrev zP (a : BkS) (a1 : LnJ) : Nat := (AA (sB a)).length - a1.i
abbrev I5 (a : LnJ) (a1 : BkS) : Prop := a.l = List.filter (Fd (sB a1)) (QX (sB a1) a.i a.j)
abbrev Zq (a : LnJ) (a1 : BkS) (a2 : Nat) : Prop := C2 a a1 /\ yQ a a1 /\ zP a1 a = Nl a1 a2 /\ I5 a a1
abbrev F9 (a : IJ) (a1 : BkS) : Prop := a.i < (AA (sB a1)).length
abbrev yP (a : IJ) (a1 : BkS) : Prop := a.j <= (AA (sB a1)).length
abbrev C8 (a : BkS) (a1 : IJ) : Nat := (AA (sB a)).length - a1.i
abbrev S4 (a : BkS) (a1 : IJ) : Prop := List.filter (Fd (sB a)) (QX (sB a) a1.i a1.j) = []
abbrev lR (a : IJ) (a1 : BkS) (a2 : Nat) : Prop := F9 a a1 /\ yP a a1 /\ C8 a1 a = Nl a1 a2 /\ S4 a1 a
abbrev G5 (a : IJ) (a1 : BkS) : Prop := (↑a.j : Int) < (↑(AA (sB a1)).length : Int)
abbrev W8 (a : IJ) (a1 : BkS) : Bool := decide (G5 a a1)
abbrev yF (a : IJ) (a1 : BkS) : Prop := (0 : Int) <= (↑a.j : Int) /\ G5 a a1
abbrev J2 (a : BkS) (a1 : IJ) : Ln := Ln.mk (gD (AA (sB a)) a1.i).st (gD (AA (sB a)) a1.i).fl (gD (AA (sB a)) a1.j).st (gD (AA (sB a)) a1.j).fl
abbrev H6 (a : BkS) (a1 : IJ) : Bool := jT (J2 a a1)
abbrev P9 (a : BkS) (a1 : IJ) : Bool := if true = true then H6 a a1 else !H6 a a1
abbrev M0 (a : BkS) (a1 : IJ) : Prop := Py a /\ Ph a /\ (gD (AA (sB a)) a1.i).st = (gD (AA (sB a)) a1.i).st /\ (gD (AA (sB a)) a1.i).fl = (gD (AA (sB a)) a1.i).fl /\ (gD (AA (sB a))
 a1.j).st = (gD (AA (sB a)) a1.j).st /\ (gD (AA (sB a)) a1.j).fl = (gD (AA (sB a)) a1.j).fl /\ Pa a /\ ∀ (g : Gau), Ok g a -> ((0 : Int) <= (gD (AA (sB a)) a1.i).st /\ (gD (AA (sB a)) a1.i).st <
 (gD (AA (sB a)) a1.j).st /\ (gD (AA (sB a)) a1.j).st <= (2000 : Int) /\ (0 : Int) <= (gD (AA (sB a)) a1.i).fl /\ (gD (AA (sB a)) a1.i).fl <= (gD (AA (sB a)) a1.j).fl /\ (gD (AA (sB a)) a1.j).fl <= (200000 :
 Int)) /\ Pu g
abbrev S6 (a : BkS) (a1 : IJ) : Bool := (XY a).all λ (g : Gau) => KI (J2 a a1) g
abbrev F7 (a : IJ) : Int := IntKind.i64.wrap ((↑a.j : Int) + (1 : Int))
abbrev U0 (a : BkS) (a1 : LnJ) (a2 : IJ) (l : Nat) : Prop := CV a /\ CU a /\ HE a /\ (↑a1.j : Int) = F7 a2 /\ Fn.yield l = Fn.yield l /\ CV a /\ CU a /\ CV a /\ CU
 a /\ HE a /\ (↑a1.i : Int) = (↑a2.i : Int) /\ (gD (AA (sB a)) a1.i).st = (gD (AA (sB a)) a2.i).st /\ (gD (AA (sB a)) a1.i).fl = (gD (AA (sB a)) a2.i).fl /\ OS a /\ OT a /\ OX a /\
 PA a /\ FF /\ OO a /\ OF a /\ OV a /\ JY a /\ JZ a /\ HU /\ Wz a1 /\ Wz a1 /\ ∀ (i : Nat), i < a1.l.length -> (gD a1.l i).a0 = (gD (AA (sB a)) a2.i).st /\
 (gD a1.l i).a1 = (gD (AA (sB a)) a2.i).fl /\ (gD a1.l i).b0 = (gD (AA (sB a)) a2.j).st /\ (gD a1.l i).b1 = (gD (AA (sB a)) a2.j).fl
abbrev mC (a : BkS) (a1 : LnJ) : Nat := (AA (sB a)).length - a1.j
abbrev mN (a : BkS) (a1 : IJ) : Nat := (AA (sB a)).length - a1.j
abbrev C0 (a : BkS) (a1 : LnJ) (a2 : IJ) : Prop := mC a a1 < mN a a2
abbrev oH (a : BkS) : Prop := OS a /\ OT a /\ OX a /\ PA a /\ FF /\ OO a /\ OF a /\ OV a /\ JY a /\ JZ a /\ I1
abbrev V3 (a : BkS) (a1 : IJ) (a2 : IJ) (l : Nat) : Prop := CV a /\ CU a /\ HE a /\ (↑a1.j : Int) = F7 a2 /\ Fn.yield l = Fn.yield l /\ CV a /\ CU a /\ CV a /\ CU
 a /\ HE a /\ (↑a1.i : Int) = (↑a2.i : Int) /\ (gD (AA (sB a)) a1.i).st = (gD (AA (sB a)) a2.i).st /\ (gD (AA (sB a)) a1.i).fl = (gD (AA (sB a)) a2.i).fl /\ oH a
abbrev O5 (a : BkS) (a1 : IJ) (a2 : IJ) : Prop := mN a a1 < mN a a2
abbrev zU (a : BkS) (a1 : IJ) (l : Nat) (a2 : Nat) : Prop := ∃ (a_1 : IJ), V3 a a_1 a1 l /\ lR a_1 a a2 /\ O5 a a_1 a1
abbrev V6 (l : Nat) (a : BkS) (a1 : Nat) (a2 : IJ) : Prop := Fn.yield l = Fn.yield l /\ CV a /\ CU a /\ CV a /\ CU a /\ HE a /\ (↑a1 : Int) = IntKind.i64.wrap ((↑a2.i : Int) + (1 :
 Int)) /\ oH a
abbrev C9 (a : LnJ) (a1 : BkS) : Prop := (↑a.j : Int) < (↑(AA (sB a1)).length : Int)
abbrev Q9 (a : LnJ) (a1 : BkS) : Bool := decide (C9 a a1)
abbrev U1 (a : LnJ) (a1 : BkS) : Prop := (0 : Int) <= (↑a.j : Int) /\ C9 a a1
abbrev zM (a : BkS) (a1 : LnJ) : Ln := Ln.mk (gD (AA (sB a)) a1.i).st (gD (AA (sB a)) a1.i).fl (gD (AA (sB a)) a1.j).st (gD (AA (sB a)) a1.j).fl
abbrev N4 (a : BkS) (a1 : LnJ) : Bool := jT (zM a a1)
abbrev F0 (a : BkS) (a1 : LnJ) : Bool := if true = true then N4 a a1 else !N4 a a1
abbrev J8 (a : BkS) (a1 : LnJ) : Prop := Py a /\ Ph a /\ (gD (AA (sB a)) a1.i).st = (gD (AA (sB a)) a1.i).st /\ (gD (AA (sB a)) a1.i).fl = (gD (AA (sB a)) a1.i).fl /\ (gD (AA (sB a))
 a1.j).st = (gD (AA (sB a)) a1.j).st /\ (gD (AA (sB a)) a1.j).fl = (gD (AA (sB a)) a1.j).fl /\ Pa a /\ ∀ (g : Gau), Ok g a -> ((0 : Int) <= (gD (AA (sB a)) a1.i).st /\ (gD (AA (sB a)) a1.i).st <
 (gD (AA (sB a)) a1.j).st /\ (gD (AA (sB a)) a1.j).st <= (2000 : Int) /\ (0 : Int) <= (gD (AA (sB a)) a1.i).fl /\ (gD (AA (sB a)) a1.i).fl <= (gD (AA (sB a)) a1.j).fl /\ (gD (AA (sB a)) a1.j).fl <= (200000 :
 Int)) /\ Pu g
abbrev yT (a : BkS) (a1 : LnJ) : Bool := (XY a).all λ (g : Gau) => KI (zM a a1) g
abbrev nH (a : LnJ) : Nat := a.l.length + (1 : Nat)
abbrev S9 (a : LnJ) : Prop := (a.l.length = a.l.length /\ ((0 : Nat) < a.l.length -> Ve)) /\ oY /\ I9 /\ nH a <= (9223372036854775807 : Nat) /\ nH a * (32 : Nat) <= (140737488355328
 : Nat)
abbrev yO (a : LnJ) (a1 : LnJ) : Prop := (↑a.j : Int) = IntKind.i64.wrap ((↑a1.j : Int) + (1 : Int))
abbrev K7 (a : LnJ) (a1 : LnJ) : Prop := (↑a.i : Int) = (↑a1.i : Int)
abbrev yL (a : BkS) (a1 : LnJ) (a2 : LnJ) : Prop := (gD (AA (sB a)) a1.i).st = (gD (AA (sB a)) a2.i).st
abbrev D7 (a : BkS) (a1 : LnJ) (a2 : LnJ) : Prop := (gD (AA (sB a)) a1.i).fl = (gD (AA (sB a)) a2.i).fl
abbrev E2 (a : LnJ) (a1 : LnJ) : Prop := a.l.length = nH a1
abbrev Yk (i : Nat) (a : LnJ) : Bool := decide (i < a.l.length)
abbrev B9 (a : BkS) (a1 : LnJ) (a2 : LnJ) (l : Nat) : Prop := CV a /\ CU a /\ HE a /\ yO a1 a2 /\ Fn.yield l = Fn.yield l /\ CV a /\ CU a /\ CV a /\ CU a /\
 HE a /\ K7 a1 a2 /\ yL a a1 a2 /\ D7 a a1 a2 /\ OS a /\ OT a /\ OX a /\ PA a /\ FF /\ OO a /\ OF a /\ OV a /\ JY a /\ JZ a /\
 HU /\ E2 a1 a2 /\ E2 a1 a2 /\ ∀ (i : Nat), i < a1.l.length -> ((gD a1.l i).a0 = bif Yk i a2 then (gD a2.l i).a0 else (gD (AA (sB a)) a2.i).st) /\ ((gD a1.l i).a1 = bif Yk i a2 then
 (gD a2.l i).a1 else (gD (AA (sB a)) a2.i).fl) /\ ((gD a1.l i).b0 = bif Yk i a2 then (gD a2.l i).b0 else (gD (AA (sB a)) a2.j).st) /\ (gD a1.l i).b1 = bif Yk i a2 then (gD a2.l i).b1 else (gD (AA
 (sB a)) a2.j).fl
abbrev P6 (a : BkS) (a1 : LnJ) (a2 : LnJ) : Prop := mC a a1 < mC a a2
abbrev M7 (a : LnJ) (a1 : BkS) (a2 : Nat) (a3 : LnJ) : Prop := Zq a a1 a2 /\ P6 a1 a a3
abbrev T2 (a : LnJ) (a1 : LnJ) : Prop := a.l.length = a1.l.length
abbrev zK (a : BkS) (a1 : LnJ) (a2 : LnJ) (l : Nat) : Prop := CV a /\ CU a /\ HE a /\ yO a1 a2 /\ Fn.yield l = Fn.yield l /\ CV a /\ CU a /\ CV a /\ CU a /\
 HE a /\ K7 a1 a2 /\ yL a a1 a2 /\ D7 a a1 a2 /\ OS a /\ OT a /\ OX a /\ PA a /\ FF /\ OO a /\ OF a /\ OV a /\ JY a /\ JZ a /\
 HU /\ T2 a1 a2 /\ T2 a1 a2 /\ ∀ (i : Nat), i < a1.l.length -> (gD a1.l i).a0 = (gD a2.l i).a0 /\ (gD a1.l i).a1 = (gD a2.l i).a1 /\ (gD a1.l i).b0 = (gD a2.l i).b0 /\ (gD a1.l i).b1 = (gD a2.l i).b1
abbrev D2 (a : BkS) (a1 : LnJ) (l : Nat) (a2 : Nat) : Prop := ∃ (a_1 : LnJ), zK a a_1 a1 l /\ M7 a_1 a a2 a1
abbrev R9 (a : LnK) (a1 : LnJ) : Prop := a.l.length = a1.l.length
abbrev C3 (l : Nat) (a : BkS) (a1 : LnK) (a2 : LnJ) : Prop := Fn.yield l = Fn.yield l /\ CV a /\ CU a /\ CV a /\ CU a /\ HE a /\ (↑a1.i : Int) = IntKind.i64.wrap ((↑a2.i : Int) + (1 :
 Int)) /\ OS a /\ OT a /\ OX a /\ PA a /\ FF /\ OO a /\ OF a /\ OV a /\ JY a /\ JZ a /\ HU /\ R9 a1 a2 /\ R9 a1 a2 /\ ∀ (i : Nat), i <
 a1.l.length -> (gD a1.l i).a0 = (gD a2.l i).a0 /\ (gD a1.l i).a1 = (gD a2.l i).a1 /\ (gD a1.l i).b0 = (gD a2.l i).b0 /\ (gD a1.l i).b1 = (gD a2.l i).b1
abbrev nL (a : LnK) (a1 : BkS) : Prop := a.i <= (AA (sB a1)).length /\ a.l = List.filter (Fd (sB a1)) (Rs (sB a1) a.i)
abbrev Fx (a : BkS) (a1 : LnK) : Nat := (AA (sB a)).length - a1.i
abbrev G6 (a : BkS) (a1 : Nat) (l : Nat) : Prop := ∀ (a_1 : LnJ), Zq a_1 a a1 -> bif Q9 a_1 a then U1 a_1 a /\ bif F0 a a_1 then l = l /\ J8 a a_1 /\ bif yT a a_1 then
 S9 a_1 /\ ∃ (a_3 : LnJ), B9 a a_3 a_1 l /\ M7 a_3 a a1 a_1 else D2 a a_1 l a1 else D2 a a_1 l a1 else ∃ (a_3 : LnK), C3 l a a_3 a_1 /\ nL a_3 a /\ Fx a a_3 <
 Nl a a1
abbrev zN (a : BkS) (a1 : Nat) (l : Nat) : Prop := (∀ (a_1 : IJ), lR a_1 a a1 -> bif W8 a_1 a then yF a_1 a /\ bif P9 a a_1 then l = l /\ M0 a a_1 /\ bif S6 a a_1 then
 lK /\ ∃ (a_3 : LnJ), U0 a a_3 a_1 l /\ Zq a_3 a a1 /\ C0 a a_3 a_1 else zU a a_1 l a1 else zU a a_1 l a1 else ∃ (a_3 : Nat), V6 l a a_3 a_1 /\ aV a_3 a /\
 ADF a a_3 a1) /\ G6 a a1 l /\ G6 a a1 l
abbrev N3 (a : BkS) : Prop := (QO (sB a)).length = (0 : Nat)
abbrev E4 (a : LnK) (a1 : BkS) : Prop := (↑a.i : Int) < (↑(AA (sB a1)).length : Int)
abbrev Pm (a : BkS) (a1 : LnK) : Int := (BP (gD (AA (sB a)) a1.i)).a0
abbrev Nh (a : BkS) (a1 : LnK) : Int := (BP (gD (AA (sB a)) a1.i)).a1
abbrev Mq (a : BkS) (a1 : LnK) : Int := (BP (gD (AA (sB a)) a1.i)).b0
abbrev Qc (a : BkS) (a1 : LnK) : Int := (BP (gD (AA (sB a)) a1.i)).b1
abbrev K8 (a : LnJ) (a1 : LnK) : Prop := (↑a.i : Int) = (↑a1.i : Int)
abbrev J4 (a : BkS) (a1 : LnJ) (a2 : LnK) : Prop := (gD (AA (sB a)) a1.i).st = (gD (AA (sB a)) a2.i).st
abbrev yC (a : BkS) (a1 : LnJ) (a2 : LnK) : Prop := (gD (AA (sB a)) a1.i).fl = (gD (AA (sB a)) a2.i).fl
abbrev W2 (a : LnJ) (a1 : LnK) : Prop := a.l.length = Xj a1
abbrev Ot (a : LnJ) (a1 : BkS) (a2 : LnK) : Prop := C2 a a1 /\ yQ a a1 /\ zP a1 a = Fx a1 a2 /\ I5 a a1
abbrev V1 (a : IJ) (a1 : BkS) (a2 : LnK) : Prop := F9 a a1 /\ yP a a1 /\ C8 a1 a = Fx a1 a2 /\ S4 a1 a
abbrev V0 (a : BkS) (a1 : IJ) (l : Nat) (a2 : LnK) : Prop := ∃ (a_1 : IJ), V3 a a_1 a1 l /\ V1 a_1 a a2 /\ O5 a a_1 a1
abbrev N1 (a : LnJ) (a1 : BkS) (a2 : LnK) (a3 : LnJ) : Prop := Ot a a1 a2 /\ P6 a1 a a3
abbrev J9 (a : BkS) (a1 : LnJ) (l : Nat) (a2 : LnK) : Prop := ∃ (a_1 : LnJ), zK a a_1 a1 l /\ N1 a_1 a a2 a1
abbrev G7 (a : BkS) (a1 : LnK) (l : Nat) : Prop := ∀ (a_1 : LnJ), Ot a_1 a a1 -> bif Q9 a_1 a then U1 a_1 a /\ bif F0 a a_1 then l = l /\ J8 a a_1 /\ bif yT a a_1 then
 S9 a_1 /\ ∃ (a_3 : LnJ), B9 a a_3 a_1 l /\ N1 a_3 a a1 a_1 else J9 a a_1 l a1 else J9 a a_1 l a1 else ∃ (a_3 : LnK), C3 l a a_3 a_1 /\ nL a_3 a /\ Fx a a_3 <
 Fx a a1
abbrev O6 (a : BkS) (a1 : LnK) (l : Nat) : Prop := (∀ (a_1 : IJ), V1 a_1 a a1 -> bif W8 a_1 a then yF a_1 a /\ bif P9 a a_1 then l = l /\ M0 a a_1 /\ bif S6 a a_1 then
 lK /\ ∃ (a_3 : LnJ), U0 a a_3 a_1 l /\ Ot a_3 a a1 /\ C0 a a_3 a_1 else V0 a a_1 l a1 else V0 a a_1 l a1 else ∃ (a_3 : Nat), V6 l a a_3 a_1 /\ aV a_3 a /\
 Nl a a_3 < Fx a a1) /\ G7 a a1 l /\ G7 a a1 l
abbrev V9 (a : LnJ) (a1 : LnK) : Prop := a.l.length = a1.l.length
abbrev Pn (n : Int) (a : BkS) : Bool := decide (n = a.k)
abbrev M2 (a : BkS) : Prop := ∀ (a_1 : One), True -> ∃ (a_3 : One), (a.st = a.st /\ AIP a /\ ACV a /\ AHM a /\ AHA a /\ FF /\ (∀ (n : Int), (WB a.w a.k).has n = XI a.w.has a.k n) /\ (∀
 (n : Int), (WB a.w a.k).st n = wX a.w.has a.w.st a.k n) /\ (∀ (n : Int), ((PJ (WB a.w a.k) n).length = bif Pn n a then (QO (sB a)).length else (PJ a.w n).length) /\ ∀ (i : Nat), uH i a n -> (gQ
 a n i = bif Pn n a then (gD (QO (sB a)) i).a0 else (gD (PJ a.w n) i).a0) /\ (gE a n i = bif Pn n a then (gD (QO (sB a)) i).a1 else (gD (PJ a.w n) i).a1) /\ (jB a n i = bif Pn n a
 then (gD (QO (sB a)) i).b0 else (gD (PJ a.w n) i).b0) /\ iC a n i = bif Pn n a then (gD (QO (sB a)) i).b1 else (gD (PJ a.w n) i).b1) /\ JY a /\ JZ a /\ wH a /\ wL a) /\ True
theorem BXM (a : BkS) : (BNQ a) = ((a.k = a.k /\ rR a = a.w.g.length /\ (∀ (i : Nat), i < rR a -> ART a i = (gD a.w.g i).st /\ AQA a i = (gD a.w.g i).lo /\ APC a i = (gD a.w.g i).hi) /\
 pZ a = a.w.b.length /\ (∀ (i : Nat), i < pZ a -> ANB a i = gD a.w.b i) /\ FF /\ OO a /\ OF a /\ (∀ (n : Int), wP a n = (PJ a.w n).length /\ ∀ (i : Nat), i < wP a n ->
 ADX a n i = (gD (PJ a.w n) i).a0 /\ AGW a n i = (gD (PJ a.w n) i).a1 /\ ADD a n i = (gD (PJ a.w n) i).b0 /\ AEN a n i = (gD (PJ a.w n) i).b1) /\ a.w.g.length = rR a /\ (∀ (i : Nat), i <
 a.w.g.length -> (gD a.w.g i).st = ART a i /\ (gD a.w.g i).lo = AQA a i /\ (gD a.w.g i).hi = APC a i) /\ a.w.b.length = pZ a /\ (∀ (i : Nat), i < a.w.b.length -> gD a.w.b i = ANB a i) /\ FF /\
 OO a /\ OF a /\ (∀ (n : Int), (PJ a.w n).length = wP a n /\ ∀ (i : Nat), AHD i a n -> (gD (PJ a.w n) i).a0 = ADX a n i /\ (gD (PJ a.w n) i).a1 = AGW a n i /\ (gD (PJ a.w n) i).b0 =
 ADD a n i /\ (gD (PJ a.w n) i).b1 = AEN a n i) /\ (rR a <= (24 : Nat) /\ (∀ (x : Gau), List.Mem x (sD a) -> Pu x) /\ pZ a <= (24 : Nat) /\ List.Pairwise (λ (x1 x2 : Int) => x1 < x2)
 (jF a) /\ ∀ (x : Int), List.Mem x (jF a) -> (1 : Int) <= x /\ x <= (2000 : Int)) /\ True) /\ FF /\ bif a.w.has a.k then (∃ (a_1 : One), (a.st = a.st /\ AIP a /\ ACV a /\ AHM a /\ AHA a /\
 FF /\ (∀ (n : Int), (WB a.w a.k).has n = a.w.has n) /\ (∀ (n : Int), (WB a.w a.k).st n = a.w.st n) /\ (∀ (n : Int), (PJ (WB a.w a.k) n).length = (PJ a.w n).length /\ ∀ (i : Nat), uH i a n -> gQ a n i
 = (gD (PJ a.w n) i).a0 /\ gE a n i = (gD (PJ a.w n) i).a1 /\ jB a n i = (gD (PJ a.w n) i).b0 /\ iC a n i = (gD (PJ a.w n) i).b1) /\ AGR a /\ AIF a /\ (QO (sB a)).length = (PJ a.w
 a.k).length /\ ∀ (i : Nat), i < (QO (sB a)).length -> (gD (QO (sB a)) i).a0 = (gD (PJ a.w a.k) i).a0 /\ (gD (QO (sB a)) i).a1 = (gD (PJ a.w a.k) i).a1 /\ (gD (QO (sB a)) i).b0 = (gD (PJ a.w a.k) i).b0 /\ (gD (QO (sB
 a)) i).b1 = (gD (PJ a.w a.k) i).b1) /\ True) /\ N2 a else (((Zo a = wM a /\ ∀ (i : Nat), i < Zo a -> O7 a i = AID a i /\ F1 a i = AFJ a i /\ B5 a i =
 AFT a i) /\ ∀ (l : Nat), (nM a = Zo a /\ (∀ (i : Nat), i < nM a -> (nU a i).st = O7 a i /\ (nU a i).lo = F1 a i /\ (nU a i).hi = B5 a i) /\
 nM a < (1073741824 : Nat) /\ True) /\ (∃ (a_1 : Nat), (Fn.yield l = Fn.yield l /\ O1 a /\ V8 a /\ O1 a /\ V8 a /\ (↑(AA (sB a)).length : Int) = (↑(H3 a) : Int) /\ AGB a_1
 /\ OS a /\ OT a /\ OX a /\ PA a /\ FF /\ OO a /\ OF a /\ OV a /\ AGR a /\ AIF a /\ I1) /\ aV a_1 a) /\ (∀ (a_1 : Nat), aV a_1 a -> bif
 AHO a_1 a then AHX a_1 a /\ ((0 : Int) <= (gD (AA (sB a)) a_1).st /\ (gD (AA (sB a)) a_1).st <= (2000 : Int)) /\ l = l /\ (Py a /\ Ph a /\ (BP (gD (AA (sB a)) a_1)).a0 = (BP (gD (AA (sB
 a)) a_1)).a0 /\ (BP (gD (AA (sB a)) a_1)).a1 = (BP (gD (AA (sB a)) a_1)).a1 /\ (BP (gD (AA (sB a)) a_1)).b0 = (BP (gD (AA (sB a)) a_1)).b0 /\ (BP (gD (AA (sB a)) a_1)).b1 = (BP (gD (AA (sB a))
 a_1)).b1 /\ Pa a /\ ∀ (g : Gau), Ok g a -> ((0 : Int) <= (BP (gD (AA (sB a)) a_1)).a0 /\ (BP (gD (AA (sB a)) a_1)).a0 < (BP (gD (AA (sB a)) a_1)).b0 /\ (BP (gD (AA (sB a)) a_1)).b0 <= (2000 :
 Int) /\ (0 : Int) <= (BP (gD (AA (sB a)) a_1)).a1 /\ (BP (gD (AA (sB a)) a_1)).a1 <= (BP (gD (AA (sB a)) a_1)).b1 /\ (BP (gD (AA (sB a)) a_1)).b1 <= (200000 : Int)) /\ Pu g) /\ bif (XY a).all
 λ (g : Gau) => KI (BP (gD (AA (sB a)) a_1)) g then lK /\ (∃ (a_3 : LnJ), (CV a /\ CU a /\ HE a /\ mV a_3 /\ Fn.yield l = Fn.yield l /\ CV a /\ CU a /\ CV a /\
 CU a /\ HE a /\ (↑a_3.i : Int) = (↑a_1 : Int) /\ (gD (AA (sB a)) a_3.i).st = (gD (AA (sB a)) a_1).st /\ (gD (AA (sB a)) a_3.i).fl = (gD (AA (sB a)) a_1).fl /\ OS a /\ OT a /\ OX
 a /\ PA a /\ FF /\ OO a /\ OF a /\ OV a /\ JY a /\ JZ a /\ HU /\ Wz a_3 /\ Wz a_3 /\ ∀ (i : Nat), i < a_3.l.length -> (gD a_3.l i).a0 = (BP (gD (AA (sB
 a)) a_1)).a0 /\ (gD a_3.l i).a1 = (BP (gD (AA (sB a)) a_1)).a1 /\ (gD a_3.l i).b0 = (BP (gD (AA (sB a)) a_1)).b0 /\ (gD a_3.l i).b1 = (BP (gD (AA (sB a)) a_1)).b1) /\ Zq a_3 a a_1) /\ zN a a_1 l
 else (∃ (a_3 : IJ), (CV a /\ CU a /\ HE a /\ (↑a_3.j : Int) = (0 : Int) /\ Fn.yield l = Fn.yield l /\ CV a /\ CU a /\ CV a /\ CU a /\ HE a /\ (↑a_3.i : Int) = (↑a_1 : Int) /\
 (gD (AA (sB a)) a_3.i).st = (gD (AA (sB a)) a_1).st /\ (gD (AA (sB a)) a_3.i).fl = (gD (AA (sB a)) a_1).fl /\ oH a) /\ lR a_3 a a_1) /\ zN a a_1 l else ∃ (a_3 : One), (a.k = a.k /\ a.st =
 a.st /\ OS a /\ OT a /\ OX a /\ PA a /\ FF /\ OO a /\ OF a /\ OV a /\ JY a /\ JZ a /\ N3 a /\ N3 a) /\ True) /\ ∀ (a_1 : LnK), nL a_1 a
 -> bif decide (E4 a_1 a) then (O9 a_1 /\ E4 a_1 a) /\ ((0 : Int) <= (gD (AA (sB a)) a_1.i).st /\ (gD (AA (sB a)) a_1.i).st <= (2000 : Int)) /\ l = l /\ (Py a /\ Ph a /\ Pm a a_1
 = Pm a a_1 /\ Nh a a_1 = Nh a a_1 /\ Mq a a_1 = Mq a a_1 /\ Qc a a_1 = Qc a a_1 /\ Pa a /\ ∀ (g : Gau), Ok g a -> ((0 : Int) <= Pm a a_1 /\
 Pm a a_1 < Mq a a_1 /\ Mq a a_1 <= (2000 : Int) /\ (0 : Int) <= Nh a a_1 /\ Nh a a_1 <= Qc a a_1 /\ Qc a a_1 <= (200000 : Int)) /\ Pu g) /\ bif (XY a).all fun
 (g : Gau) => KI (BP (gD (AA (sB a)) a_1.i)) g then yN a_1 /\ (∃ (a_3 : LnJ), (CV a /\ CU a /\ HE a /\ mV a_3 /\ Fn.yield l = Fn.yield l /\ CV a /\ CU a /\ CV a /\
 CU a /\ HE a /\ K8 a_3 a_1 /\ J4 a a_3 a_1 /\ yC a a_3 a_1 /\ OS a /\ OT a /\ OX a /\ PA a /\ FF /\ OO a /\ OF a /\ OV a /\ JY
 a /\ JZ a /\ HU /\ W2 a_3 a_1 /\ W2 a_3 a_1 /\ ∀ (i : Nat), i < a_3.l.length -> ((gD a_3.l i).a0 = bif XA i a_1 then (gD a_1.l i).a0 else Pm a a_1) /\ ((gD a_3.l i).a1 = bif
 XA i a_1 then (gD a_1.l i).a1 else Nh a a_1) /\ ((gD a_3.l i).b0 = bif XA i a_1 then (gD a_1.l i).b0 else Mq a a_1) /\ (gD a_3.l i).b1 = bif XA i a_1 then (gD a_1.l i).b1 else
 Qc a a_1) /\ Ot a_3 a a_1) /\ O6 a a_1 l else (∃ (a_3 : LnJ), (CV a /\ CU a /\ HE a /\ mV a_3 /\ Fn.yield l = Fn.yield l /\ CV a /\ CU a /\ CV a /\
 CU a /\ HE a /\ K8 a_3 a_1 /\ J4 a a_3 a_1 /\ yC a a_3 a_1 /\ OS a /\ OT a /\ OX a /\ PA a /\ FF /\ OO a /\ OF a /\ OV a /\ JY
 a /\ JZ a /\ HU /\ V9 a_3 a_1 /\ V9 a_3 a_1 /\ ∀ (i : Nat), i < a_3.l.length -> (gD a_3.l i).a0 = (gD a_1.l i).a0 /\ (gD a_3.l i).a1 = (gD a_1.l i).a1 /\ (gD a_3.l i).b0 = (gD a_1.l i).b0 /\ (gD
 a_3.l i).b1 = (gD a_1.l i).b1) /\ Ot a_3 a a_1) /\ O6 a a_1 l else ∃ (a_3 : One), (a.k = a.k /\ a.st = a.st /\ OS a /\ OT a /\ OX a /\ PA a /\ FF /\ OO a /\ OF a
 /\ OV a /\ JY a /\ JZ a /\ (QO (sB a)).length = a_1.l.length /\ F5 a_1 /\ ∀ (j : Nat), j < (QO (sB a)).length -> (gD (QO (sB a)) j).a0 = A5 a_1 j /\ (gD (QO (sB a)) j).a1 = O0
 a_1 j /\ (gD (QO (sB a)) j).b0 = T6 a_1 j /\ (gD (QO (sB a)) j).b1 = U5 a_1 j) /\ True) /\ M2 a /\ M2 a) /\ N2 a) := by kernel_rfl
def BND (a : BkS) : Prop := CH Try.prog (BSM a) AAA (AI AAA) (C_lns.xs a) (AD (C_lns.L a)) (C_lns.val a) (C_lns.keep a) [] [403]
abbrev rN (a : BkS) : List Gau := OC a.w.g.length λ (i : Nat) => gD a.w.g i
abbrev rO (a : BkS) : Nat := (rN a).length
abbrev AAJ (a : BkS) (i : Nat) : Gau := gD (rN a) i
abbrev AMY (a : BkS) (i : Nat) : Int := (AAJ a i).st
abbrev ANZ (a : BkS) (i : Nat) : Int := (AAJ a i).lo
abbrev APJ (a : BkS) (i : Nat) : Int := (AAJ a i).hi
abbrev gJ (a : BkS) : List Int := OC a.w.b.length λ (i : Nat) => gD a.w.b i
abbrev rQ (a : BkS) : Nat := (gJ a).length
abbrev ANJ (a : BkS) (i : Nat) : Int := gD (gJ a) i
abbrev ANG : Value := Value.slice none (0 : Nat) (0 : Nat)
abbrev EH : Prop := ANG = ANG
abbrev OH (a : BkS) : Prop := ∀ (n : Int), a.w.has n = a.w.has n
abbrev OM (a : BkS) : Prop := ∀ (n : Int), a.w.st n = a.w.st n
abbrev ACD (a : BkS) : Bk := Bk.mk (rN a) (gJ a) a.w.has a.w.st
abbrev ADZ (a : BkS) (n : Int) : List Ln := PJ (ACD a) n
abbrev wQ (a : BkS) (n : Int) : Nat := (ADZ a n).length
abbrev hU (a : BkS) (n : Int) (i : Nat) : Ln := gD (ADZ a n) i
abbrev ACG (a : BkS) (n : Int) (i : Nat) : Int := (hU a n i).a0
abbrev AFA (a : BkS) (n : Int) (i : Nat) : Int := (hU a n i).a1
abbrev AEP (a : BkS) (n : Int) (i : Nat) : Int := (hU a n i).b0
abbrev ACF (a : BkS) (n : Int) (i : Nat) : Int := (hU a n i).b1
abbrev AGJ (i : Nat) (a : BkS) (n : Int) : Prop := i < (PJ a.w n).length
abbrev Iy (x : Gau) : Prop := (0 : Int) <= x.st /\ x.st <= (2000 : Int) /\ (0 : Int) <= x.lo /\ x.lo <= x.hi /\ x.hi <= (200000 : Int)
abbrev ADC (a : BkS) : Prop := (WB a.w a.k).g.length = a.w.g.length
abbrev AGK (i : Nat) (a : BkS) : Prop := i < (WB a.w a.k).g.length
abbrev vM (a : BkS) (i : Nat) : Gau := gD (WB a.w a.k).g i
abbrev vW (a : BkS) (i : Nat) : Int := (vM a i).st
abbrev uD (a : BkS) (i : Nat) : Int := (vM a i).lo
abbrev uU (a : BkS) (i : Nat) : Int := (vM a i).hi
abbrev ACW (a : BkS) : Prop := ∀ (i : Nat), AGK i a -> vW a i = (gD a.w.g i).st /\ uD a i = (gD a.w.g i).lo /\ uU a i = (gD a.w.g i).hi
abbrev AHP (a : BkS) : Prop := (WB a.w a.k).b.length = a.w.b.length
abbrev AHE (i : Nat) (a : BkS) : Prop := i < (WB a.w a.k).b.length
abbrev uI (a : BkS) (i : Nat) : Int := gD (WB a.w a.k).b i
abbrev AFF (a : BkS) : Prop := ∀ (i : Nat), AHE i a -> uI a i = gD a.w.b i
abbrev vU (i : Nat) (a : BkS) (n : Int) : Prop := i < (PJ (WB a.w a.k) n).length
abbrev iI (a : BkS) (n : Int) (i : Nat) : Ln := gD (PJ (WB a.w a.k) n) i
abbrev gC (a : BkS) (n : Int) (i : Nat) : Int := (iI a n i).a0
abbrev jD (a : BkS) (n : Int) (i : Nat) : Int := (iI a n i).a1
abbrev iP (a : BkS) (n : Int) (i : Nat) : Int := (iI a n i).b0
abbrev gP (a : BkS) (n : Int) (i : Nat) : Int := (iI a n i).b1
abbrev AFG (a : BkS) : List Gau := Jq (ACD a) a.k
abbrev uT (a : BkS) : Nat := (AFG a).length
abbrev AEF (a : BkS) : Prop := (sB a).length = uT a
abbrev gY (a : BkS) (i : Nat) : Gau := gD (AFG a) i
abbrev AHT (a : BkS) (i : Nat) : Int := (gY a i).st
abbrev AES (a : BkS) (i : Nat) : Int := (gY a i).lo
abbrev AEX (a : BkS) (i : Nat) : Int := (gY a i).hi
abbrev ACQ (a : BkS) : Prop := ∀ (i : Nat), i < (sB a).length -> (gD (sB a) i).st = AHT a i /\ (gD (sB a) i).lo = AES a i /\ (gD (sB a) i).hi = AEX a i
abbrev DA : Prop := (0 : Nat) = (0 : Nat)
abbrev AGP (a : BkS) : Prop := (UD (sB a) a.st).length = (0 : Nat)
abbrev Cm (a : BkS) : Prop := (WB a.w a.k).g.length = (WB a.w a.k).g.length
abbrev Ck (a : BkS) : Prop := ∀ (i : Nat), AGK i a -> vW a i = vW a i /\ uD a i = uD a i /\ uU a i = uU a i
abbrev Cc (a : BkS) : Prop := (WB a.w a.k).b.length = (WB a.w a.k).b.length
abbrev Ci (a : BkS) : Prop := ∀ (i : Nat), AHE i a -> uI a i = uI a i
abbrev Ca (a : BkS) : Prop := ∀ (n : Int), (WB a.w a.k).has n = (WB a.w a.k).has n
abbrev Cn (a : BkS) : Prop := ∀ (n : Int), (WB a.w a.k).st n = (WB a.w a.k).st n
abbrev Cd (a : BkS) : Prop := ∀ (n : Int), (PJ (WB a.w a.k) n).length = (PJ (WB a.w a.k) n).length /\ ∀ (i : Nat), vU i a n -> gC a n i = gC a n i /\ jD a n i = jD a n i /\
 iP a n i = iP a n i /\ gP a n i = gP a n i
abbrev AIG (a : BkS) : Prop := Cm a /\ Ck a /\ Cc a /\ Ci a /\ EH /\ Ca a /\ Cn a /\ Cd a
abbrev AFP (a : BkS) : Prop := AGP a /\ AGP a /\ AIG a
abbrev AFM (a : BkS) : Prop := (0 : Int) <= a.st /\ a.st <= (2000 : Int)
abbrev UW (a : BkS) : List Gau := OC (sB a).length λ (i : Nat) => gD (sB a) i
abbrev gO (a : BkS) : Nat := (UW a).length
abbrev It (a : BkS) : Prop := gO a = (sB a).length
abbrev vZ (a : BkS) (i : Nat) : Gau := gD (UW a) i
abbrev Iz (a : BkS) : Prop := ∀ (i : Nat), i < gO a -> (vZ a i).st = (gD (sB a) i).st /\ (vZ a i).lo = (gD (sB a) i).lo /\ (vZ a i).hi = (gD (sB a) i).hi
abbrev AIE (a : BkS) (a1 : Nat) : Prop := (En (sB a) a.st a1).length = (2 : Nat)
abbrev AFD (a : BkS) : List Pt := AA (UW a)
abbrev AGF (a : BkS) : Nat := (AFD a).length
abbrev AGL (a : BkS) (i : Nat) : Pt := gD (AFD a) i
abbrev uX (a : Nat) : Prop := (↑a : Int) = (0 : Int)
abbrev HV (a : BkS) : Prop := (sB a).length = (sB a).length
abbrev HT (a : BkS) : Prop := ∀ (i : Nat), i < (sB a).length -> (gD (sB a) i).st = (gD (sB a) i).st /\ (gD (sB a) i).lo = (gD (sB a) i).lo /\ (gD (sB a) i).hi = (gD (sB a) i).hi
abbrev Oz : Prop := ∀ (i : Nat), i < (0 : Nat) -> false = false
abbrev AGQ : Prop := Int.ofNat (0 : Nat) = Int.ofNat (0 : Nat)
abbrev AFC : Prop := Int.ofNat (200000 : Nat) = Int.ofNat (200000 : Nat)
abbrev wR (i : Nat) (a : BkS) (a1 : Nat) : Prop := i < (En (sB a) a.st a1).length
abbrev fZ (a : BkS) (a1 : Nat) (i : Nat) : Ln := gD (En (sB a) a.st a1) i
abbrev iU (a : BkS) (a1 : Nat) (i : Nat) : Int := (fZ a a1 i).a0
abbrev iB (i : Nat) : Bool := decide (i = (0 : Nat))
abbrev jQ (a : BkS) (a1 : Nat) (i : Nat) : Int := (fZ a a1 i).a1
abbrev gT (a : BkS) (a1 : Nat) (i : Nat) : Int := (fZ a a1 i).b0
abbrev hJ (a : BkS) (a1 : Nat) (i : Nat) : Int := (fZ a a1 i).b1
abbrev ACS (a : Nat) (a1 : BkS) : Prop := (↑a : Int) < (↑(AA (sB a1)).length : Int)
abbrev ACJ (a : Nat) (a1 : BkS) : Bool := decide (ACS a a1)
abbrev AHK (a : Nat) : Prop := (0 : Int) <= (↑a : Int)
abbrev AEE (a : Nat) (a1 : BkS) : Prop := AHK a /\ ACS a a1
abbrev Vm : Prop := (4 : Nat) = (4 : Nat)
abbrev AIK : Prop := (0 : Nat) < (2 : Nat)
abbrev vO (a : BkS) (a1 : Nat) : Nat := (En (sB a) a.st a1).length + (2 : Nat)
abbrev AFS (a : BkS) (a1 : Nat) (a2 : Nat) : Prop := (En (sB a) a.st a1).length = vO a a2
abbrev CW (a : BkS) : Prop := (AA (sB a)).length = (AA (sB a)).length
abbrev CT (a : BkS) : Prop := ∀ (i : Nat), i < (AA (sB a)).length -> (gD (AA (sB a)) i).st = (gD (AA (sB a)) i).st /\ (gD (AA (sB a)) i).fl = (gD (AA (sB a)) i).fl
abbrev HH (a : BkS) : Prop := (↑(AA (sB a)).length : Int) = (↑(AA (sB a)).length : Int)
abbrev AGO (a : Nat) (a1 : Nat) : Prop := (↑a : Int) = IntKind.i64.wrap ((↑a1 : Int) + (1 : Int))
abbrev gL (i : Nat) (a : BkS) (a1 : Nat) : Bool := decide (wR i a a1)
abbrev gG (i : Nat) (a : BkS) (a1 : Nat) : Bool := decide ((0 : Nat) + (i - (En (sB a) a.st a1).length) = (0 : Nat))
abbrev Pi (a : BkS) (a1 : Nat) : Nat := (AA (sB a)).length - a1
abbrev AFZ (a : BkS) (a1 : Nat) (a2 : Nat) : Prop := Pi a a1 < Pi a a2
abbrev vV : Prop := DA /\ Oz
abbrev AHQ (a : BkS) (a1 : Nat) : Prop := (KS (sB a) a.st).length = (En (sB a) a.st a1).length
abbrev Yh (i : Nat) (a : BkS) : Prop := i < (KS (sB a) a.st).length
abbrev mI (a : BkS) (i : Nat) : Int := (gD (KS (sB a) a.st) i).a0
abbrev nJ (a : BkS) (i : Nat) : Int := (gD (KS (sB a) a.st) i).a1
abbrev lV (a : BkS) (i : Nat) : Int := (gD (KS (sB a) a.st) i).b0
abbrev pE (a : BkS) (i : Nat) : Int := (gD (KS (sB a) a.st) i).b1
abbrev Zg (a : Nat) (a1 : BkS) : Prop := a <= (KS (sB a1) a1.st).length /\ List.filter (xG (sB a1)) (List.take a (KS (sB a1) a1.st)) = []
abbrev A1 (a : Nat) (a1 : BkS) : Prop := (↑a : Int) < (↑(KS (sB a1) a1.st).length : Int)
abbrev mM (a : Nat) : Nat := (0 : Nat) + a
abbrev Hu (a : BkS) (a1 : Nat) : Ln := gD (KS (sB a) a.st) (mM a1)
abbrev D8 (a : BkS) (a1 : Nat) : Bool := jT (Hu a a1)
abbrev Mm (a : BkS) (a1 : Nat) : Int := (Hu a a1).a0
abbrev Rb (a : BkS) (a1 : Nat) : Int := (Hu a a1).a1
abbrev Nk (a : BkS) (a1 : Nat) : Int := (Hu a a1).b0
abbrev Me (a : BkS) (a1 : Nat) : Int := (Hu a a1).b1
abbrev Hn (a : BkS) : Prop := gO a < (4611686018427387904 : Nat)
abbrev Ga (g : Gau) (a : BkS) : Prop := List.Mem g (UW a)
abbrev oP : Prop := (0 : Nat) < (1 : Nat)
abbrev lY : Prop := (1 : Nat) <= (1 : Nat) /\ (oP -> Vm)
abbrev Wr : Prop := (True /\ ((0 : Nat) < (0 : Nat) -> (0 : Nat) = (4 : Nat))) /\ lY /\ (true = true -> oP) /\ (1 : Nat) <= (9223372036854775807 : Nat) /\ (32 : Nat) <= (140737488355328 : Nat)
abbrev E9 (a : LnK) : Prop := a.l.length = (1 : Nat)
abbrev RG (a : BkS) : Prop := (KS (sB a) a.st).length = (KS (sB a) a.st).length
abbrev Fk (a : BkS) : Prop := (↑(KS (sB a) a.st).length : Int) = (↑(KS (sB a) a.st).length : Int)
abbrev aB (a : BkS) : Prop := ∀ (i : Nat), Yh i a -> mI a i = mI a i /\ nJ a i = nJ a i /\ lV a i = lV a i /\ pE a i = pE a i
abbrev A4 (a : LnK) (a1 : BkS) : Prop := a.i < (KS (sB a1) a1.st).length
abbrev XC (a : BkS) (a1 : LnK) : Nat := (KS (sB a) a.st).length - a1.i
abbrev WV (a : BkS) (a1 : Nat) : Nat := (KS (sB a) a.st).length - a1
abbrev K9 (a : LnK) (a1 : BkS) : Prop := a.l = QO (sB a1) ++ List.filter (xG (sB a1)) (List.take (a.i + (1 : Nat)) (KS (sB a1) a1.st))
abbrev zJ (a : LnK) (a1 : BkS) (a2 : Nat) : Prop := A4 a a1 /\ XC a1 a = WV a1 a2 /\ K9 a a1
abbrev R7 (a : BkS) : Prop := Cm a /\ Ck a /\ Cc a /\ Ci a /\ EH /\ Ca a /\ Cn a /\ Cd a /\ HV a /\ HT a /\ RG a /\ aB a
abbrev A0 (a : BkS) (a1 : Nat) : Prop := List.filter (xG (sB a)) (List.take (a1 + (1 : Nat)) (KS (sB a) a.st)) = []
abbrev yR (a : Nat) (a1 : BkS) (a2 : Nat) : Prop := Yh a a1 /\ WV a1 a = WV a1 a2 /\ A0 a1 a
abbrev zH (a : BkS) (a1 : Nat) (a2 : Nat) : Prop := DA /\ Oz /\ DA /\ RG a /\ Fk a /\ AGO a1 a2 /\ R7 a
abbrev kG (a : LnK) (a1 : LnK) : Prop := a.l.length = a1.l.length
abbrev zS (a : BkS) (a1 : LnK) (a2 : LnK) : Prop := Cm a /\ Ck a /\ Cc a /\ Ci a /\ EH /\ Ca a /\ Cn a /\ Cd a /\ HV a /\ HT a /\ RG a /\
 aB a /\ kG a1 a2 /\ ∀ (i : Nat), i < a1.l.length -> (gD a1.l i).a0 = (gD a2.l i).a0 /\ (gD a1.l i).a1 = (gD a2.l i).a1 /\ (gD a1.l i).b0 = (gD a2.l i).b0 /\ (gD a1.l i).b1 = (gD a2.l i).b1
abbrev yY (a : LnK) (a1 : LnK) (a2 : BkS) : Prop := DA /\ kG a a1 /\ DA /\ RG a2 /\ Fk a2 /\ (↑a.i : Int) = IntKind.i64.wrap ((↑a1.i : Int) + (1 : Int)) /\ zS a2 a a1
abbrev pB (a : LnK) (a1 : BkS) : Prop := a.i <= (KS (sB a1) a1.st).length /\ a.l = QO (sB a1) ++ List.filter (xG (sB a1)) (List.take a.i (KS (sB a1) a1.st))
abbrev M4 (a : BkS) (a1 : Nat) : Prop := ∀ (a_1 : LnK), zJ a_1 a a1 -> ∃ (a_3 : LnK), yY a_3 a_1 a /\ pB a_3 a /\ XC a a_3 < WV a a1
abbrev yD (a : LnK) (a1 : BkS) : Prop := (↑a.i : Int) < (↑(KS (sB a1) a1.st).length : Int)
abbrev O2 (a : LnK) : Prop := (0 : Int) <= (↑a.i : Int)
abbrev R5 (a : LnK) : Nat := (0 : Nat) + a.i
abbrev Ge (a : BkS) (a1 : LnK) : Ln := gD (KS (sB a) a.st) (R5 a1)
abbrev zW (a : BkS) (a1 : LnK) : Bool := jT (Ge a a1)
abbrev Qu (a : BkS) (a1 : LnK) : Int := (Ge a a1).a0
abbrev Rd (a : BkS) (a1 : LnK) : Int := (Ge a a1).a1
abbrev Nt (a : BkS) (a1 : LnK) : Int := (Ge a a1).b0
abbrev Na (a : BkS) (a1 : LnK) : Int := (Ge a a1).b1
abbrev N9 : Prop := false = true -> oP
abbrev Wt (a : LnK) : Nat := a.l.length + (1 : Nat)
abbrev H4 (a : LnK) : Prop := (a.l.length = a.l.length /\ ((0 : Nat) < a.l.length -> Vm)) /\ lY /\ N9 /\ Wt a <= (9223372036854775807 : Nat) /\ Wt a * (32 : Nat) <= (140737488355328
 : Nat)
abbrev D5 (a : LnK) (a1 : LnK) : Prop := a.l.length = Wt a1
abbrev E5 (a : LnK) (a1 : LnK) : Prop := (↑a.i : Int) = (↑a1.i : Int)
abbrev WK (i : Nat) (a : LnK) : Bool := decide (i < a.l.length)
abbrev mF (a : LnK) (a1 : BkS) (a2 : LnK) : Prop := A4 a a1 /\ XC a1 a = XC a1 a2 /\ K9 a a1
abbrev Q0 (a : BkS) (a1 : LnK) : Prop := ∀ (a_1 : LnK), mF a_1 a a1 -> ∃ (a_3 : LnK), yY a_3 a_1 a /\ pB a_3 a /\ XC a a_3 < XC a a1
abbrev A9 (a : LnK) : Prop := (0 : Nat) + a.l.length <= a.l.length
abbrev Wc (a : LnK) (j : Nat) : Ln := gD a.l (mM j)
abbrev yI (a : LnK) (j : Nat) : Int := (Wc a j).a0
abbrev Q7 (a : LnK) (j : Nat) : Int := (Wc a j).a1
abbrev zL (a : LnK) (j : Nat) : Int := (Wc a j).b0
abbrev K0 (a : LnK) (j : Nat) : Int := (Wc a j).b1
abbrev T7 (a : BkS) : Prop := ∀ (a_1 : One), True -> bif bif decide ((↑(sB a).length : Int) > (0 : Int)) then (↑(0 : Nat) : Int) == (0 : Int) else false then AFP a else (AFM a /\ AFM a) /\
 (It a /\ Iz a /\ gO a < (1073741824 : Nat) /\ True) /\ (∃ (a_3 : Nat), (DA /\ AIE a a_3 /\ (AA (sB a)).length = AGF a /\ (∀ (i : Nat), i < (AA (sB a)).length -> (gD (AA (sB a))
 i).st = (AGL a i).st /\ (gD (AA (sB a)) i).fl = (AGL a i).fl) /\ (↑(AA (sB a)).length : Int) = (↑(AGF a) : Int) /\ uX a_3 /\ Cm a /\ Ck a /\ Cc a /\ Ci a /\ EH /\
 Ca a /\ Cn a /\ Cd a /\ HV a /\ HT a /\ DA /\ Oz /\ a.st = a.st /\ AGQ /\ a.st = a.st /\ AFC /\ AIE a a_3 /\ ∀ (i : Nat), wR i a a_3 -> (iU a a_3 i =
 bif iB i then (BP (Pt.mk a.st (0 : Int))).a0 else (BP (Pt.mk a.st (200000 : Int))).a0) /\ (jQ a a_3 i = bif iB i then (BP (Pt.mk a.st (0 : Int))).a1 else (BP (Pt.mk a.st (200000 : Int))).a1) /\
 (gT a a_3 i = bif iB i then (BP (Pt.mk a.st (0 : Int))).b0 else (BP (Pt.mk a.st (200000 : Int))).b0) /\ hJ a a_3 i = bif iB i then (BP (Pt.mk a.st (0 : Int))).b1 else (BP (Pt.mk a.st
 (200000 : Int))).b1) /\ a_3.le (AA (sB a)).length) /\ ∀ (a_3 : Nat), a_3.le (AA (sB a)).length -> bif ACJ a_3 a then AEE a_3 a /\ (((En (sB a) a.st a_3).length = (En (sB a) a.st a_3).length /\ ((0 : Nat) <
 (En (sB a) a.st a_3).length -> Vm)) /\ ((2 : Nat) <= (2 : Nat) /\ (AIK -> Vm)) /\ (false = true -> AIK) /\ vO a a_3 <= (9223372036854775807 : Nat) /\ vO a a_3 * (32 : Nat) <=
 (140737488355328 : Nat)) /\ ∃ (a_5 : Nat), (DA /\ AFS a a_5 a_3 /\ CW a /\ CT a /\ HH a /\ AGO a_5 a_3 /\ Cm a /\ Ck a /\ Cc a /\ Ci a /\ EH /\ Ca a /\
 Cn a /\ Cd a /\ HV a /\ HT a /\ DA /\ Oz /\ a.st = a.st /\ AGQ /\ a.st = a.st /\ AFC /\ AFS a a_5 a_3 /\ ∀ (i : Nat), wR i a a_5 -> (iU a a_5 i = bif
 gL i a a_3 then iU a a_3 i else bif gG i a a_3 then a.st else (gD (AA (sB a)) a_3).st) /\ (jQ a a_5 i = bif gL i a a_3 then jQ a a_3 i else bif gG i a a_3 then (0 : Int)
 else (gD (AA (sB a)) a_3).fl) /\ (gT a a_5 i = bif gL i a a_3 then gT a a_3 i else bif gG i a a_3 then (gD (AA (sB a)) a_3).st else a.st) /\ hJ a a_5 i = bif gL i a a_3 then
 hJ a a_3 i else bif gG i a a_3 then (gD (AA (sB a)) a_3).fl else (200000 : Int)) /\ a_5.le (AA (sB a)).length /\ AFZ a a_5 a_3 else vV /\ (∃ (a_5 : Nat), (DA /\ Oz /\ DA /\
 AHQ a a_3 /\ (↑(KS (sB a) a.st).length : Int) = (↑(En (sB a) a.st a_3).length : Int) /\ uX a_5 /\ Cm a /\ Ck a /\ Cc a /\ Ci a /\ EH /\ Ca a /\ Cn a /\ Cd a /\
 HV a /\ HT a /\ AHQ a a_3 /\ ∀ (i : Nat), Yh i a -> mI a i = iU a a_3 i /\ nJ a i = jQ a a_3 i /\ lV a i = gT a a_3 i /\ pE a i = hJ a a_3
 i) /\ Zg a_5 a) /\ (∀ (a_5 : Nat), Zg a_5 a -> bif decide (A1 a_5 a) then (((AHK a_5 /\ A1 a_5 a) /\ (mM a_5).succ.le (KS (sB a) a.st).length) /\ (D8 a a_5 = true ->
 It a /\ Iz a /\ Mm a a_5 = Mm a a_5 /\ Rb a a_5 = Rb a a_5 /\ Nk a a_5 = Nk a a_5 /\ Me a a_5 = Me a a_5 /\ Hn a /\ ∀ (g : Gau), Ga g
 a -> ((0 : Int) <= Mm a a_5 /\ Mm a a_5 < Nk a a_5 /\ Nk a a_5 <= (2000 : Int) /\ (0 : Int) <= Rb a a_5 /\ Rb a a_5 <= Me a a_5 /\ Me a a_5 <= (200000 : Int)) /\
 Iy g) /\ bif bif D8 a a_5 then (UW a).all λ (g : Gau) => KI (Hu a a_5) g else false then Wr /\ ∃ (a_7 : LnK), (DA /\ E9 a_7 /\ DA /\ RG a /\ Fk a
 /\ (↑a_7.i : Int) = (↑a_5 : Int) /\ Cm a /\ Ck a /\ Cc a /\ Ci a /\ EH /\ Ca a /\ Cn a /\ Cd a /\ HV a /\ HT a /\ RG a /\ aB a /\ E9 a_7 /\ ∀
 (i : Nat), i < a_7.l.length -> (gD a_7.l i).a0 = Mm a a_5 /\ (gD a_7.l i).a1 = Rb a a_5 /\ (gD a_7.l i).b0 = Nk a a_5 /\ (gD a_7.l i).b1 = Me a a_5) /\ zJ a_7 a a_5 else ∃ (a_7 : Nat),
 (DA /\ Oz /\ DA /\ RG a /\ Fk a /\ (↑a_7 : Int) = (↑a_5 : Int) /\ R7 a) /\ yR a_7 a a_5) /\ (∀ (a_7 : Nat), yR a_7 a a_5 -> ∃ (a_9 : Nat), zH a a_9 a_7 /\
 Zg a_9 a /\ WV a a_9 < WV a a_5) /\ M4 a a_5 /\ M4 a a_5 else AFP a) /\ ∀ (a_5 : LnK), pB a_5 a -> bif decide (yD a_5 a) then (((O2 a_5 /\ yD a_5 a)
 /\ (R5 a_5).succ.le (KS (sB a) a.st).length) /\ (zW a a_5 = true -> It a /\ Iz a /\ Qu a a_5 = Qu a a_5 /\ Rd a a_5 = Rd a a_5 /\ Nt a a_5 = Nt a
 a_5 /\ Na a a_5 = Na a a_5 /\ Hn a /\ ∀ (g : Gau), Ga g a -> ((0 : Int) <= Qu a a_5 /\ Qu a a_5 < Nt a a_5 /\ Nt a a_5 <= (2000 : Int) /\ (0 : Int) <= Rd a
 a_5 /\ Rd a a_5 <= Na a a_5 /\ Na a a_5 <= (200000 : Int)) /\ Iy g) /\ bif bif zW a a_5 then (UW a).all λ (g : Gau) => KI (Ge a a_5) g else false then H4 a_5 /\
 ∃ (a_7 : LnK), (DA /\ D5 a_7 a_5 /\ DA /\ RG a /\ Fk a /\ E5 a_7 a_5 /\ Cm a /\ Ck a /\ Cc a /\ Ci a /\ EH /\ Ca a /\ Cn a /\ Cd a
 /\ HV a /\ HT a /\ RG a /\ aB a /\ D5 a_7 a_5 /\ ∀ (i : Nat), i < a_7.l.length -> ((gD a_7.l i).a0 = bif WK i a_5 then (gD a_5.l i).a0 else Qu a a_5) /\ ((gD a_7.l i).a1 =
 bif WK i a_5 then (gD a_5.l i).a1 else Rd a a_5) /\ ((gD a_7.l i).b0 = bif WK i a_5 then (gD a_5.l i).b0 else Nt a a_5) /\ (gD a_7.l i).b1 = bif WK i a_5 then (gD a_5.l i).b1 else
 Na a a_5) /\ mF a_7 a a_5 else ∃ (a_7 : LnK), (DA /\ kG a_7 a_5 /\ DA /\ RG a /\ Fk a /\ E5 a_7 a_5 /\ zS a a_7 a_5) /\ mF a_7 a a_5) /\ (∀ (a_7 :
 Nat), Yh a_7 a /\ WV a a_7 = XC a a_5 /\ A0 a a_7 -> ∃ (a_9 : Nat), zH a a_9 a_7 /\ Zg a_9 a /\ WV a a_9 < XC a a_5) /\ Q0 a a_5 /\ Q0 a a_5 else
 (UD (sB a) a.st).length = a_5.l.length /\ A9 a_5 /\ (∀ (j : Nat), j < (UD (sB a) a.st).length -> (gD (UD (sB a) a.st) j).a0 = yI a_5 j /\ (gD (UD (sB a) a.st) j).a1 = Q7 a_5 j /\ (gD (UD (sB
 a) a.st) j).b0 = zL a_5 j /\ (gD (UD (sB a) a.st) j).b1 = K0 a_5 j) /\ AIG a
abbrev yW (a : BkS) : List Gau := OC (uT a) λ (i : Nat) => gY a i
abbrev aJ (a : BkS) : Nat := (yW a).length
abbrev Wm (a : BkS) (i : Nat) : Gau := gD (yW a) i
abbrev yZ (a : BkS) (i : Nat) : Int := (Wm a i).st
abbrev zF (a : BkS) (i : Nat) : Int := (Wm a i).lo
abbrev C5 (a : BkS) (i : Nat) : Int := (Wm a i).hi
abbrev mH (a : BkS) : List Gau := OC (aJ a) λ (i : Nat) => Wm a i
abbrev lU (a : BkS) : Nat := (mH a).length
abbrev oC (a : BkS) (i : Nat) : Gau := gD (mH a) i
abbrev T3 (a : BkS) : List Pt := AA (mH a)
abbrev T8 (a : BkS) : Nat := (T3 a).length
abbrev R2 (a : BkS) : Prop := (AA (sB a)).length = T8 a
abbrev M3 (a : BkS) (i : Nat) : Pt := gD (T3 a) i
abbrev S8 (a : BkS) : Prop := ∀ (i : Nat), i < (AA (sB a)).length -> (gD (AA (sB a)) i).st = (M3 a i).st /\ (gD (AA (sB a)) i).fl = (M3 a i).fl
abbrev OR (a : BkS) : Prop := a.w.g.length = a.w.g.length
abbrev PG (a : BkS) : Prop := ∀ (i : Nat), i < a.w.g.length -> (gD a.w.g i).st = (gD a.w.g i).st /\ (gD a.w.g i).lo = (gD a.w.g i).lo /\ (gD a.w.g i).hi = (gD a.w.g i).hi
abbrev PH (a : BkS) : Prop := a.w.b.length = a.w.b.length
abbrev PI (a : BkS) : Prop := ∀ (i : Nat), i < a.w.b.length -> gD a.w.b i = gD a.w.b i
abbrev OZ (a : BkS) : Prop := ∀ (n : Int), (PJ a.w n).length = (PJ a.w n).length /\ ∀ (i : Nat), AGJ i a n -> (gD (PJ a.w n) i).a0 = (gD (PJ a.w n) i).a0 /\ (gD (PJ a.w n) i).a1 = (gD (PJ a.w n) i).a1 /\
 (gD (PJ a.w n) i).b0 = (gD (PJ a.w n) i).b0 /\ (gD (PJ a.w n) i).b1 = (gD (PJ a.w n) i).b1
abbrev aW (a : Nat) (a1 : BkS) : Prop := a <= (AA (sB a1)).length /\ List.filter (Fd (sB a1)) (Rs (sB a1) a) = []
abbrev oB (a : LnJ) : Prop := (↑a.j : Int) = (0 : Int)
abbrev Xw (a : LnJ) : Prop := a.l.length = (1 : Nat)
abbrev V2 (a : LnJ) (a1 : BkS) : Prop := a.i < (AA (sB a1)).length
abbrev C1 (a : LnJ) (a1 : BkS) : Prop := a.j <= (AA (sB a1)).length
abbrev T5 (a : BkS) (a1 : LnJ) : Nat := (AA (sB a)).length - a1.i
abbrev M1 (a : LnJ) (a1 : BkS) : Prop := a.l = List.filter (Fd (sB a1)) (QX (sB a1) a.i a.j)
abbrev Zd (a : LnJ) (a1 : BkS) (a2 : Nat) : Prop := V2 a a1 /\ C1 a a1 /\ T5 a1 a = Pi a1 a2 /\ M1 a a1
abbrev H5 (a : IJ) (a1 : BkS) : Prop := a.i < (AA (sB a1)).length
abbrev K1 (a : IJ) (a1 : BkS) : Prop := a.j <= (AA (sB a1)).length
abbrev E8 (a : BkS) (a1 : IJ) : Nat := (AA (sB a)).length - a1.i
abbrev Q4 (a : BkS) (a1 : IJ) : Prop := List.filter (Fd (sB a)) (QX (sB a) a1.i a1.j) = []
abbrev nE (a : IJ) (a1 : BkS) (a2 : Nat) : Prop := H5 a a1 /\ K1 a a1 /\ E8 a1 a = Pi a1 a2 /\ Q4 a1 a
abbrev M8 (a : IJ) (a1 : BkS) : Prop := (↑a.j : Int) < (↑(AA (sB a1)).length : Int)
abbrev P3 (a : IJ) (a1 : BkS) : Bool := decide (M8 a a1)
abbrev Q5 (a : IJ) (a1 : BkS) : Prop := (0 : Int) <= (↑a.j : Int) /\ M8 a a1
abbrev P8 (a : BkS) (a1 : IJ) : Ln := Ln.mk (gD (AA (sB a)) a1.i).st (gD (AA (sB a)) a1.i).fl (gD (AA (sB a)) a1.j).st (gD (AA (sB a)) a1.j).fl
abbrev U2 (a : BkS) (a1 : IJ) : Bool := jT (P8 a a1)
abbrev P7 (a : BkS) (a1 : IJ) : Bool := if true = true then U2 a a1 else !U2 a a1
abbrev J1 (a : BkS) (a1 : IJ) : Prop := It a /\ Iz a /\ (gD (AA (sB a)) a1.i).st = (gD (AA (sB a)) a1.i).st /\ (gD (AA (sB a)) a1.i).fl = (gD (AA (sB a)) a1.i).fl /\ (gD (AA (sB a))
 a1.j).st = (gD (AA (sB a)) a1.j).st /\ (gD (AA (sB a)) a1.j).fl = (gD (AA (sB a)) a1.j).fl /\ Hn a /\ ∀ (g : Gau), Ga g a -> ((0 : Int) <= (gD (AA (sB a)) a1.i).st /\ (gD (AA (sB a)) a1.i).st <
 (gD (AA (sB a)) a1.j).st /\ (gD (AA (sB a)) a1.j).st <= (2000 : Int) /\ (0 : Int) <= (gD (AA (sB a)) a1.i).fl /\ (gD (AA (sB a)) a1.i).fl <= (gD (AA (sB a)) a1.j).fl /\ (gD (AA (sB a)) a1.j).fl <= (200000 :
 Int)) /\ Iy g
abbrev W3 (a : BkS) (a1 : IJ) : Bool := (UW a).all λ (g : Gau) => KI (P8 a a1) g
abbrev zY (a : IJ) : Int := IntKind.i64.wrap ((↑a.j : Int) + (1 : Int))
abbrev N0 (a : BkS) (a1 : LnJ) (a2 : IJ) (l : Nat) : Prop := CW a /\ CT a /\ HH a /\ (↑a1.j : Int) = zY a2 /\ Fn.yield l = Fn.yield l /\ CW a /\ CT a /\ CW a /\ CT
 a /\ HH a /\ (↑a1.i : Int) = (↑a2.i : Int) /\ (gD (AA (sB a)) a1.i).st = (gD (AA (sB a)) a2.i).st /\ (gD (AA (sB a)) a1.i).fl = (gD (AA (sB a)) a2.i).fl /\ OR a /\ PG a /\ PH a /\
 PI a /\ EH /\ OH a /\ OM a /\ OZ a /\ HV a /\ HT a /\ DA /\ Xw a1 /\ Xw a1 /\ ∀ (i : Nat), i < a1.l.length -> (gD a1.l i).a0 = (gD (AA (sB a)) a2.i).st /\
 (gD a1.l i).a1 = (gD (AA (sB a)) a2.i).fl /\ (gD a1.l i).b0 = (gD (AA (sB a)) a2.j).st /\ (gD a1.l i).b1 = (gD (AA (sB a)) a2.j).fl
abbrev kS (a : BkS) (a1 : LnJ) : Nat := (AA (sB a)).length - a1.j
abbrev mQ (a : BkS) (a1 : IJ) : Nat := (AA (sB a)).length - a1.j
abbrev T1 (a : BkS) (a1 : LnJ) (a2 : IJ) : Prop := kS a a1 < mQ a a2
abbrev lC (a : BkS) : Prop := OR a /\ PG a /\ PH a /\ PI a /\ EH /\ OH a /\ OM a /\ OZ a /\ HV a /\ HT a /\ vV
abbrev J7 (a : BkS) (a1 : IJ) (a2 : IJ) (l : Nat) : Prop := CW a /\ CT a /\ HH a /\ (↑a1.j : Int) = zY a2 /\ Fn.yield l = Fn.yield l /\ CW a /\ CT a /\ CW a /\ CT
 a /\ HH a /\ (↑a1.i : Int) = (↑a2.i : Int) /\ (gD (AA (sB a)) a1.i).st = (gD (AA (sB a)) a2.i).st /\ (gD (AA (sB a)) a1.i).fl = (gD (AA (sB a)) a2.i).fl /\ lC a
abbrev zA (a : BkS) (a1 : IJ) (a2 : IJ) : Prop := mQ a a1 < mQ a a2
abbrev D3 (a : BkS) (a1 : IJ) (l : Nat) (a2 : Nat) : Prop := ∃ (a_1 : IJ), J7 a a_1 a1 l /\ nE a_1 a a2 /\ zA a a_1 a1
abbrev U8 (l : Nat) (a : BkS) (a1 : Nat) (a2 : IJ) : Prop := Fn.yield l = Fn.yield l /\ CW a /\ CT a /\ CW a /\ CT a /\ HH a /\ (↑a1 : Int) = IntKind.i64.wrap ((↑a2.i : Int) + (1 :
 Int)) /\ lC a
abbrev K6 (a : LnJ) (a1 : BkS) : Prop := (↑a.j : Int) < (↑(AA (sB a1)).length : Int)
abbrev yM (a : LnJ) (a1 : BkS) : Bool := decide (K6 a a1)
abbrev A8 (a : LnJ) (a1 : BkS) : Prop := (0 : Int) <= (↑a.j : Int) /\ K6 a a1
abbrev O4 (a : BkS) (a1 : LnJ) : Ln := Ln.mk (gD (AA (sB a)) a1.i).st (gD (AA (sB a)) a1.i).fl (gD (AA (sB a)) a1.j).st (gD (AA (sB a)) a1.j).fl
abbrev P1 (a : BkS) (a1 : LnJ) : Bool := jT (O4 a a1)
abbrev zV (a : BkS) (a1 : LnJ) : Bool := if true = true then P1 a a1 else !P1 a a1
abbrev S3 (a : BkS) (a1 : LnJ) : Prop := It a /\ Iz a /\ (gD (AA (sB a)) a1.i).st = (gD (AA (sB a)) a1.i).st /\ (gD (AA (sB a)) a1.i).fl = (gD (AA (sB a)) a1.i).fl /\ (gD (AA (sB a))
 a1.j).st = (gD (AA (sB a)) a1.j).st /\ (gD (AA (sB a)) a1.j).fl = (gD (AA (sB a)) a1.j).fl /\ Hn a /\ ∀ (g : Gau), Ga g a -> ((0 : Int) <= (gD (AA (sB a)) a1.i).st /\ (gD (AA (sB a)) a1.i).st <
 (gD (AA (sB a)) a1.j).st /\ (gD (AA (sB a)) a1.j).st <= (2000 : Int) /\ (0 : Int) <= (gD (AA (sB a)) a1.i).fl /\ (gD (AA (sB a)) a1.i).fl <= (gD (AA (sB a)) a1.j).fl /\ (gD (AA (sB a)) a1.j).fl <= (200000 :
 Int)) /\ Iy g
abbrev zR (a : BkS) (a1 : LnJ) : Bool := (UW a).all λ (g : Gau) => KI (O4 a a1) g
abbrev oD (a : LnJ) : Nat := a.l.length + (1 : Nat)
abbrev B6 (a : LnJ) : Prop := (a.l.length = a.l.length /\ ((0 : Nat) < a.l.length -> Vm)) /\ lY /\ N9 /\ oD a <= (9223372036854775807 : Nat) /\ oD a * (32 : Nat) <= (140737488355328
 : Nat)
abbrev R4 (a : LnJ) (a1 : LnJ) : Prop := (↑a.j : Int) = IntKind.i64.wrap ((↑a1.j : Int) + (1 : Int))
abbrev zE (a : LnJ) (a1 : LnJ) : Prop := (↑a.i : Int) = (↑a1.i : Int)
abbrev yJ (a : BkS) (a1 : LnJ) (a2 : LnJ) : Prop := (gD (AA (sB a)) a1.i).st = (gD (AA (sB a)) a2.i).st
abbrev yX (a : BkS) (a1 : LnJ) (a2 : LnJ) : Prop := (gD (AA (sB a)) a1.i).fl = (gD (AA (sB a)) a2.i).fl
abbrev P2 (a : LnJ) (a1 : LnJ) : Prop := a.l.length = oD a1
abbrev Xi (i : Nat) (a : LnJ) : Bool := decide (i < a.l.length)
abbrev Q8 (a : BkS) (a1 : LnJ) (a2 : LnJ) (l : Nat) : Prop := CW a /\ CT a /\ HH a /\ R4 a1 a2 /\ Fn.yield l = Fn.yield l /\ CW a /\ CT a /\ CW a /\ CT a /\
 HH a /\ zE a1 a2 /\ yJ a a1 a2 /\ yX a a1 a2 /\ OR a /\ PG a /\ PH a /\ PI a /\ EH /\ OH a /\ OM a /\ OZ a /\ HV a /\ HT a /\
 DA /\ P2 a1 a2 /\ P2 a1 a2 /\ ∀ (i : Nat), i < a1.l.length -> ((gD a1.l i).a0 = bif Xi i a2 then (gD a2.l i).a0 else (gD (AA (sB a)) a2.i).st) /\ ((gD a1.l i).a1 = bif Xi i a2 then
 (gD a2.l i).a1 else (gD (AA (sB a)) a2.i).fl) /\ ((gD a1.l i).b0 = bif Xi i a2 then (gD a2.l i).b0 else (gD (AA (sB a)) a2.j).st) /\ (gD a1.l i).b1 = bif Xi i a2 then (gD a2.l i).b1 else (gD (AA
 (sB a)) a2.j).fl
abbrev G3 (a : BkS) (a1 : LnJ) (a2 : LnJ) : Prop := kS a a1 < kS a a2
abbrev J3 (a : LnJ) (a1 : BkS) (a2 : Nat) (a3 : LnJ) : Prop := Zd a a1 a2 /\ G3 a1 a a3
abbrev W5 (a : LnJ) (a1 : LnJ) : Prop := a.l.length = a1.l.length
abbrev D1 (a : BkS) (a1 : LnJ) (a2 : LnJ) (l : Nat) : Prop := CW a /\ CT a /\ HH a /\ R4 a1 a2 /\ Fn.yield l = Fn.yield l /\ CW a /\ CT a /\ CW a /\ CT a /\
 HH a /\ zE a1 a2 /\ yJ a a1 a2 /\ yX a a1 a2 /\ OR a /\ PG a /\ PH a /\ PI a /\ EH /\ OH a /\ OM a /\ OZ a /\ HV a /\ HT a /\
 DA /\ W5 a1 a2 /\ W5 a1 a2 /\ ∀ (i : Nat), i < a1.l.length -> (gD a1.l i).a0 = (gD a2.l i).a0 /\ (gD a1.l i).a1 = (gD a2.l i).a1 /\ (gD a1.l i).b0 = (gD a2.l i).b0 /\ (gD a1.l i).b1 = (gD a2.l i).b1
abbrev P5 (a : BkS) (a1 : LnJ) (l : Nat) (a2 : Nat) : Prop := ∃ (a_1 : LnJ), D1 a a_1 a1 l /\ J3 a_1 a a2 a1
abbrev L4 (a : LnK) (a1 : LnJ) : Prop := a.l.length = a1.l.length
abbrev F8 (l : Nat) (a : BkS) (a1 : LnK) (a2 : LnJ) : Prop := Fn.yield l = Fn.yield l /\ CW a /\ CT a /\ CW a /\ CT a /\ HH a /\ (↑a1.i : Int) = IntKind.i64.wrap ((↑a2.i : Int) + (1 :
 Int)) /\ OR a /\ PG a /\ PH a /\ PI a /\ EH /\ OH a /\ OM a /\ OZ a /\ HV a /\ HT a /\ DA /\ L4 a1 a2 /\ L4 a1 a2 /\ ∀ (i : Nat), i <
 a1.l.length -> (gD a1.l i).a0 = (gD a2.l i).a0 /\ (gD a1.l i).a1 = (gD a2.l i).a1 /\ (gD a1.l i).b0 = (gD a2.l i).b0 /\ (gD a1.l i).b1 = (gD a2.l i).b1
abbrev mD (a : LnK) (a1 : BkS) : Prop := a.i <= (AA (sB a1)).length /\ a.l = List.filter (Fd (sB a1)) (Rs (sB a1) a.i)
abbrev Hx (a : BkS) (a1 : LnK) : Nat := (AA (sB a)).length - a1.i
abbrev I7 (a : BkS) (a1 : Nat) (l : Nat) : Prop := ∀ (a_1 : LnJ), Zd a_1 a a1 -> bif yM a_1 a then A8 a_1 a /\ bif zV a a_1 then l = l /\ S3 a a_1 /\ bif zR a a_1 then
 B6 a_1 /\ ∃ (a_3 : LnJ), Q8 a a_3 a_1 l /\ J3 a_3 a a1 a_1 else P5 a a_1 l a1 else P5 a a_1 l a1 else ∃ (a_3 : LnK), F8 l a a_3 a_1 /\ mD a_3 a /\ Hx a a_3 <
 Pi a a1
abbrev F6 (a : BkS) (a1 : Nat) (l : Nat) : Prop := (∀ (a_1 : IJ), nE a_1 a a1 -> bif P3 a_1 a then Q5 a_1 a /\ bif P7 a a_1 then l = l /\ J1 a a_1 /\ bif W3 a a_1 then
 Wr /\ ∃ (a_3 : LnJ), N0 a a_3 a_1 l /\ Zd a_3 a a1 /\ T1 a a_3 a_1 else D3 a a_1 l a1 else D3 a a_1 l a1 else ∃ (a_3 : Nat), U8 l a a_3 a_1 /\ aW a_3 a /\
 AFZ a a_3 a1) /\ I7 a a1 l /\ I7 a a1 l
abbrev I8 (a : BkS) : Prop := (QO (sB a)).length = (0 : Nat)
abbrev zZ (a : LnK) (a1 : BkS) : Prop := (↑a.i : Int) < (↑(AA (sB a1)).length : Int)
abbrev Mc (a : BkS) (a1 : LnK) : Int := (BP (gD (AA (sB a)) a1.i)).a0
abbrev Nr (a : BkS) (a1 : LnK) : Int := (BP (gD (AA (sB a)) a1.i)).a1
abbrev Nb (a : BkS) (a1 : LnK) : Int := (BP (gD (AA (sB a)) a1.i)).b0
abbrev Ni (a : BkS) (a1 : LnK) : Int := (BP (gD (AA (sB a)) a1.i)).b1
abbrev B8 (a : LnJ) (a1 : LnK) : Prop := (↑a.i : Int) = (↑a1.i : Int)
abbrev M9 (a : BkS) (a1 : LnJ) (a2 : LnK) : Prop := (gD (AA (sB a)) a1.i).st = (gD (AA (sB a)) a2.i).st
abbrev C6 (a : BkS) (a1 : LnJ) (a2 : LnK) : Prop := (gD (AA (sB a)) a1.i).fl = (gD (AA (sB a)) a2.i).fl
abbrev L2 (a : LnJ) (a1 : LnK) : Prop := a.l.length = Wt a1
abbrev Oy (a : LnJ) (a1 : BkS) (a2 : LnK) : Prop := V2 a a1 /\ C1 a a1 /\ T5 a1 a = Hx a1 a2 /\ M1 a a1
abbrev D0 (a : IJ) (a1 : BkS) (a2 : LnK) : Prop := H5 a a1 /\ K1 a a1 /\ E8 a1 a = Hx a1 a2 /\ Q4 a1 a
abbrev H8 (a : BkS) (a1 : IJ) (l : Nat) (a2 : LnK) : Prop := ∃ (a_1 : IJ), J7 a a_1 a1 l /\ D0 a_1 a a2 /\ zA a a_1 a1
abbrev zB (a : LnJ) (a1 : BkS) (a2 : LnK) (a3 : LnJ) : Prop := Oy a a1 a2 /\ G3 a1 a a3
abbrev S1 (a : BkS) (a1 : LnJ) (l : Nat) (a2 : LnK) : Prop := ∃ (a_1 : LnJ), D1 a a_1 a1 l /\ zB a_1 a a2 a1
abbrev W6 (a : BkS) (a1 : LnK) (l : Nat) : Prop := ∀ (a_1 : LnJ), Oy a_1 a a1 -> bif yM a_1 a then A8 a_1 a /\ bif zV a a_1 then l = l /\ S3 a a_1 /\ bif zR a a_1 then
 B6 a_1 /\ ∃ (a_3 : LnJ), Q8 a a_3 a_1 l /\ zB a_3 a a1 a_1 else S1 a a_1 l a1 else S1 a a_1 l a1 else ∃ (a_3 : LnK), F8 l a a_3 a_1 /\ mD a_3 a /\ Hx a a_3 <
 Hx a a1
abbrev B7 (a : BkS) (a1 : LnK) (l : Nat) : Prop := (∀ (a_1 : IJ), D0 a_1 a a1 -> bif P3 a_1 a then Q5 a_1 a /\ bif P7 a a_1 then l = l /\ J1 a a_1 /\ bif W3 a a_1 then
 Wr /\ ∃ (a_3 : LnJ), N0 a a_3 a_1 l /\ Oy a_3 a a1 /\ T1 a a_3 a_1 else H8 a a_1 l a1 else H8 a a_1 l a1 else ∃ (a_3 : Nat), U8 l a a_3 a_1 /\ aW a_3 a /\
 Pi a a_3 < Hx a a1) /\ W6 a a1 l /\ W6 a a1 l
abbrev W0 (a : LnJ) (a1 : LnK) : Prop := a.l.length = a1.l.length
abbrev Mx (n : Int) (a : BkS) : Bool := decide (n = a.k)
abbrev zX (a : BkS) : Prop := ∀ (a_1 : One), True -> ∃ (a_3 : One), (a.st = a.st /\ ADC a /\ ACW a /\ AHP a /\ AFF a /\ EH /\ (∀ (n : Int), (WB a.w a.k).has n = XI a.w.has a.k n) /\ (∀
 (n : Int), (WB a.w a.k).st n = wX a.w.has a.w.st a.k n) /\ (∀ (n : Int), ((PJ (WB a.w a.k) n).length = bif Mx n a then (QO (sB a)).length else (PJ a.w n).length) /\ ∀ (i : Nat), vU i a n -> (gC
 a n i = bif Mx n a then (gD (QO (sB a)) i).a0 else (gD (PJ a.w n) i).a0) /\ (jD a n i = bif Mx n a then (gD (QO (sB a)) i).a1 else (gD (PJ a.w n) i).a1) /\ (iP a n i = bif Mx n a
 then (gD (QO (sB a)) i).b0 else (gD (PJ a.w n) i).b0) /\ gP a n i = bif Mx n a then (gD (QO (sB a)) i).b1 else (gD (PJ a.w n) i).b1) /\ HV a /\ HT a /\ (0 : Nat) = (QO (sB a)).length /\
 DA) /\ True
theorem BUN (a : BkS) : (BND a) = ((a.k = a.k /\ rO a = a.w.g.length /\ (∀ (i : Nat), i < rO a -> AMY a i = (gD a.w.g i).st /\ ANZ a i = (gD a.w.g i).lo /\ APJ a i = (gD a.w.g i).hi) /\
 rQ a = a.w.b.length /\ (∀ (i : Nat), i < rQ a -> ANJ a i = gD a.w.b i) /\ EH /\ OH a /\ OM a /\ (∀ (n : Int), wQ a n = (PJ a.w n).length /\ ∀ (i : Nat), i < wQ a n ->
 ACG a n i = (gD (PJ a.w n) i).a0 /\ AFA a n i = (gD (PJ a.w n) i).a1 /\ AEP a n i = (gD (PJ a.w n) i).b0 /\ ACF a n i = (gD (PJ a.w n) i).b1) /\ a.w.g.length = rO a /\ (∀ (i : Nat), i <
 a.w.g.length -> (gD a.w.g i).st = AMY a i /\ (gD a.w.g i).lo = ANZ a i /\ (gD a.w.g i).hi = APJ a i) /\ a.w.b.length = rQ a /\ (∀ (i : Nat), i < a.w.b.length -> gD a.w.b i = ANJ a i) /\ EH /\
 OH a /\ OM a /\ (∀ (n : Int), (PJ a.w n).length = wQ a n /\ ∀ (i : Nat), AGJ i a n -> (gD (PJ a.w n) i).a0 = ACG a n i /\ (gD (PJ a.w n) i).a1 = AFA a n i /\ (gD (PJ a.w n) i).b0 =
 AEP a n i /\ (gD (PJ a.w n) i).b1 = ACF a n i) /\ (rO a <= (24 : Nat) /\ (∀ (x : Gau), List.Mem x (rN a) -> Iy x) /\ rQ a <= (24 : Nat) /\ List.Pairwise (λ (x1 x2 : Int) => x1 < x2)
 (gJ a) /\ ∀ (x : Int), List.Mem x (gJ a) -> (1 : Int) <= x /\ x <= (2000 : Int)) /\ True) /\ EH /\ bif a.w.has a.k then (∃ (a_1 : One), (a.st = a.st /\ ADC a /\ ACW a /\ AHP a /\ AFF a /\
 EH /\ (∀ (n : Int), (WB a.w a.k).has n = a.w.has n) /\ (∀ (n : Int), (WB a.w a.k).st n = a.w.st n) /\ (∀ (n : Int), (PJ (WB a.w a.k) n).length = (PJ a.w n).length /\ ∀ (i : Nat), vU i a n -> gC a n i
 = (gD (PJ a.w n) i).a0 /\ jD a n i = (gD (PJ a.w n) i).a1 /\ iP a n i = (gD (PJ a.w n) i).b0 /\ gP a n i = (gD (PJ a.w n) i).b1) /\ AEF a /\ ACQ a /\ (0 : Nat) = (PJ a.w a.k).length /\
 DA) /\ True) /\ T7 a else (((aJ a = uT a /\ ∀ (i : Nat), i < aJ a -> yZ a i = AHT a i /\ zF a i = AES a i /\ C5 a i = AEX a i) /\ ∀ (l : Nat),
 (lU a = aJ a /\ (∀ (i : Nat), i < lU a -> (oC a i).st = yZ a i /\ (oC a i).lo = zF a i /\ (oC a i).hi = C5 a i) /\ lU a < (1073741824 : Nat) /\
 True) /\ (∃ (a_1 : Nat), (Fn.yield l = Fn.yield l /\ R2 a /\ S8 a /\ R2 a /\ S8 a /\ (↑(AA (sB a)).length : Int) = (↑(T8 a) : Int) /\ uX a_1 /\ OR a /\ PG a /\
 PH a /\ PI a /\ EH /\ OH a /\ OM a /\ OZ a /\ AEF a /\ ACQ a /\ vV) /\ aW a_1 a) /\ (∀ (a_1 : Nat), aW a_1 a -> bif ACJ a_1 a then AEE a_1
 a /\ ((0 : Int) <= (gD (AA (sB a)) a_1).st /\ (gD (AA (sB a)) a_1).st <= (2000 : Int)) /\ l = l /\ (It a /\ Iz a /\ (BP (gD (AA (sB a)) a_1)).a0 = (BP (gD (AA (sB a)) a_1)).a0 /\ (BP (gD (AA (sB
 a)) a_1)).a1 = (BP (gD (AA (sB a)) a_1)).a1 /\ (BP (gD (AA (sB a)) a_1)).b0 = (BP (gD (AA (sB a)) a_1)).b0 /\ (BP (gD (AA (sB a)) a_1)).b1 = (BP (gD (AA (sB a)) a_1)).b1 /\ Hn a /\ ∀ (g :
 Gau), Ga g a -> ((0 : Int) <= (BP (gD (AA (sB a)) a_1)).a0 /\ (BP (gD (AA (sB a)) a_1)).a0 < (BP (gD (AA (sB a)) a_1)).b0 /\ (BP (gD (AA (sB a)) a_1)).b0 <= (2000 : Int) /\ (0 : Int) <= (BP (gD
 (AA (sB a)) a_1)).a1 /\ (BP (gD (AA (sB a)) a_1)).a1 <= (BP (gD (AA (sB a)) a_1)).b1 /\ (BP (gD (AA (sB a)) a_1)).b1 <= (200000 : Int)) /\ Iy g) /\ bif (UW a).all λ (g : Gau) => KI (BP
 (gD (AA (sB a)) a_1)) g then Wr /\ (∃ (a_3 : LnJ), (CW a /\ CT a /\ HH a /\ oB a_3 /\ Fn.yield l = Fn.yield l /\ CW a /\ CT a /\ CW a /\ CT a /\ HH a /\
 (↑a_3.i : Int) = (↑a_1 : Int) /\ (gD (AA (sB a)) a_3.i).st = (gD (AA (sB a)) a_1).st /\ (gD (AA (sB a)) a_3.i).fl = (gD (AA (sB a)) a_1).fl /\ OR a /\ PG a /\ PH a /\ PI a /\
 EH /\ OH a /\ OM a /\ OZ a /\ HV a /\ HT a /\ DA /\ Xw a_3 /\ Xw a_3 /\ ∀ (i : Nat), i < a_3.l.length -> (gD a_3.l i).a0 = (BP (gD (AA (sB a)) a_1)).a0 /\ (gD
 a_3.l i).a1 = (BP (gD (AA (sB a)) a_1)).a1 /\ (gD a_3.l i).b0 = (BP (gD (AA (sB a)) a_1)).b0 /\ (gD a_3.l i).b1 = (BP (gD (AA (sB a)) a_1)).b1) /\ Zd a_3 a a_1) /\ F6 a a_1 l else (∃ (a_3 :
 IJ), (CW a /\ CT a /\ HH a /\ (↑a_3.j : Int) = (0 : Int) /\ Fn.yield l = Fn.yield l /\ CW a /\ CT a /\ CW a /\ CT a /\ HH a /\ (↑a_3.i : Int) = (↑a_1 : Int) /\ (gD (AA (sB
 a)) a_3.i).st = (gD (AA (sB a)) a_1).st /\ (gD (AA (sB a)) a_3.i).fl = (gD (AA (sB a)) a_1).fl /\ lC a) /\ nE a_3 a a_1) /\ F6 a a_1 l else ∃ (a_3 : One), (a.k = a.k /\ a.st = a.st /\
 OR a /\ PG a /\ PH a /\ PI a /\ EH /\ OH a /\ OM a /\ OZ a /\ HV a /\ HT a /\ I8 a /\ I8 a) /\ True) /\ ∀ (a_1 : LnK), mD a_1 a -> bif
 decide (zZ a_1 a) then (O2 a_1 /\ zZ a_1 a) /\ ((0 : Int) <= (gD (AA (sB a)) a_1.i).st /\ (gD (AA (sB a)) a_1.i).st <= (2000 : Int)) /\ l = l /\ (It a /\ Iz a /\ Mc a a_1 =
 Mc a a_1 /\ Nr a a_1 = Nr a a_1 /\ Nb a a_1 = Nb a a_1 /\ Ni a a_1 = Ni a a_1 /\ Hn a /\ ∀ (g : Gau), Ga g a -> ((0 : Int) <= Mc a a_1 /\ Mc
 a a_1 < Nb a a_1 /\ Nb a a_1 <= (2000 : Int) /\ (0 : Int) <= Nr a a_1 /\ Nr a a_1 <= Ni a a_1 /\ Ni a a_1 <= (200000 : Int)) /\ Iy g) /\ bif (UW a).all λ (g : Gau) =>
 KI (BP (gD (AA (sB a)) a_1.i)) g then H4 a_1 /\ (∃ (a_3 : LnJ), (CW a /\ CT a /\ HH a /\ oB a_3 /\ Fn.yield l = Fn.yield l /\ CW a /\ CT a /\ CW a /\ CT a /\
 HH a /\ B8 a_3 a_1 /\ M9 a a_3 a_1 /\ C6 a a_3 a_1 /\ OR a /\ PG a /\ PH a /\ PI a /\ EH /\ OH a /\ OM a /\ OZ a /\ HV a /\ HT
 a /\ DA /\ L2 a_3 a_1 /\ L2 a_3 a_1 /\ ∀ (i : Nat), i < a_3.l.length -> ((gD a_3.l i).a0 = bif WK i a_1 then (gD a_1.l i).a0 else Mc a a_1) /\ ((gD a_3.l i).a1 = bif WK i a_1 then
 (gD a_1.l i).a1 else Nr a a_1) /\ ((gD a_3.l i).b0 = bif WK i a_1 then (gD a_1.l i).b0 else Nb a a_1) /\ (gD a_3.l i).b1 = bif WK i a_1 then (gD a_1.l i).b1 else Ni a a_1) /\
 Oy a_3 a a_1) /\ B7 a a_1 l else (∃ (a_3 : LnJ), (CW a /\ CT a /\ HH a /\ oB a_3 /\ Fn.yield l = Fn.yield l /\ CW a /\ CT a /\ CW a /\ CT a /\ HH a /\
 B8 a_3 a_1 /\ M9 a a_3 a_1 /\ C6 a a_3 a_1 /\ OR a /\ PG a /\ PH a /\ PI a /\ EH /\ OH a /\ OM a /\ OZ a /\ HV a /\ HT a /\ DA
 /\ W0 a_3 a_1 /\ W0 a_3 a_1 /\ ∀ (i : Nat), i < a_3.l.length -> (gD a_3.l i).a0 = (gD a_1.l i).a0 /\ (gD a_3.l i).a1 = (gD a_1.l i).a1 /\ (gD a_3.l i).b0 = (gD a_1.l i).b0 /\ (gD a_3.l i).b1 = (gD a_1.l i).b1) /\
 Oy a_3 a a_1) /\ B7 a a_1 l else ∃ (a_3 : One), (a.k = a.k /\ a.st = a.st /\ OR a /\ PG a /\ PH a /\ PI a /\ EH /\ OH a /\ OM a /\ OZ a /\ HV a /\
 HT a /\ (QO (sB a)).length = a_1.l.length /\ A9 a_1 /\ ∀ (j : Nat), j < (QO (sB a)).length -> (gD (QO (sB a)) j).a0 = yI a_1 j /\ (gD (QO (sB a)) j).a1 = Q7 a_1 j /\ (gD (QO (sB a)) j).b0 =
 zL a_1 j /\ (gD (QO (sB a)) j).b1 = K0 a_1 j) /\ True) /\ zX a /\ zX a) /\ T7 a) := by kernel_rfl
theorem Ec (w : Bk) : Bk.mk w.g w.b w.has w.st = w := rfl
theorem AIQ (l : List Ln) (p : Ln) (i : Nat) (hi : i < (l ++ [p]).length) : ((gD (l ++ [p]) i).a0 = bif decide (i < l.length) then (gD l i).a0 else p.a0) /\ ((gD (l ++ [p]) i).a1 = bif decide (i < l.length) then (gD l i).a1 else p.a1) /\ ((gD (l ++ [p]) i).b0 = bif decide (i < l.length) then (gD l i).b0 else p.b0) /\ (gD (l ++ [p]) i).b1 = bif decide (i < l.length) then (gD l i).b1 else p.b1 := by
 rw [bV _ _ (by simpa using hi)]
 cases decide (i < l.length) <;> exact ⟨rfl, rfl, rfl, rfl⟩
theorem oneL (p : Ln) (i : Nat) (hi : i < [p].length) : (gD [p] i).a0 = p.a0 /\ (gD [p] i).a1 = p.a1 /\ (gD [p] i).b0 = p.b0 /\ (gD [p] i).b1 = p.b1 := by
 have : i = 0 := by have hj : i < 1 := hi; omega
 subst this; exact ⟨rfl, rfl, rfl, rfl⟩
theorem BSO {s : List Gau} {i j : Nat} (h : j < (AA s).length) (h1 : jT (nZ (gD (AA s) i) (gD (AA s) j)) = true) (h2 : Fd s (nZ (gD (AA s) i) (gD (AA s) j)) = true) : (QX s i (j + 1)).filter (Fd s) = (QX s i j).filter (Fd s) ++ [nZ (gD (AA s) i) (gD (AA s) j)] := by
 rw [Vn h, if_pos h1, List.filter_append, List.filter_cons_of_pos h2]; rfl
theorem BNN {s : List Gau} {i j : Nat} (h : j < (AA s).length) (h1 : jT (nZ (gD (AA s) i) (gD (AA s) j)) = true) (h2 : Fd s (nZ (gD (AA s) i) (gD (AA s) j)) = false) : (QX s i (j + 1)).filter (Fd s) = (QX s i j).filter (Fd s) := by
 rw [Vn h, if_pos h1, List.filter_append, List.filter_cons_of_neg (by rw [h2]; simp)]; simp
theorem BJR {s : List Gau} {i j : Nat} (h : j < (AA s).length) (h1 : jT (nZ (gD (AA s) i) (gD (AA s) j)) = false) : (QX s i (j + 1)).filter (Fd s) = (QX s i j).filter (Fd s) := by
 rw [Vn h, if_neg (by rw [h1]; simp), List.append_nil]
theorem ABT {s : List Gau} {i : Nat} : (QX s i 0).filter (Fd s) = (Rs s i).filter (Fd s) ++ if Fd s (BP (gD (AA s) i)) = true then [BP (gD (AA s) i)] else [] := by
 unfold QX
 rw [List.filter_append]
 congr 1
 simp [List.filter_cons]
theorem AYI {s : List Gau} {i j : Nat} (hN : (AA s).length <= 48) : ((QX s i j).filter (Fd s)).length <= 10000 := by
 refine Nat.le_trans (List.length_filter_le _ _) ?_
 have h1 : ∀ a : Pt, (blk (AA s) a).length <= 49 := λ a => by
  unfold blk
  have := List.length_filter_le jT ((AA s).map (nZ a))
  simp only [List.length_cons, List.length_map] at *; omega
 have h2 : ∀ l : List Pt, l.length <= 48 -> (l.flatMap (blk (AA s))).length <= l.length * 49 := λ l _ => by
  induction l with
  | nil => simp
  | cons a l ih =>
   rw [List.flatMap_cons, List.length_append, List.length_cons]
   have := h1 a; have := ih (by simp at *; omega); omega
 unfold QX Rs
 have h3 := h2 ((AA s).take i) (by simp; omega)
 have h4 := List.length_filter_le jT (((AA s).take j).map (nZ (gD (AA s) i)))
 simp only [List.length_append, List.length_cons, List.length_map, List.length_take] at *
 omega
theorem AVA {s : List Gau} {q : Nat} (hs : s.length <= 24) (hN : (AA s).length <= 48) (hg : ∀ g ∈ s, XH g) (x : IJ) (hx : x.i < (AA s).length /\ x.j <= (AA s).length /\ (AA s).length - x.i = q /\ (QX s x.i x.j).filter (Fd s) = []) :
  ((x.j : Int) < (AA s).length -> (0 <= (x.j : Int) /\ (x.j : Int) < (AA s).length) /\ (jT ⟨(gD (AA s) x.i).st, (gD (AA s) x.i).fl, (gD (AA s) x.j).st, (gD (AA s) x.j).fl⟩ = true -> (s.length < 4611686018427387904 /\ ∀ g : Gau, List.Mem g s -> NJ ⟨(gD (AA s) x.i).st, (gD (AA s) x.i).fl, (gD (AA s) x.j).st, (gD (AA s) x.j).fl⟩ /\ XH g) /\ ((s.all λ g => KI ⟨(gD (AA s) x.i).st, (gD (AA s) x.i).fl, (gD (AA s) x.j).st, (gD (AA s) x.j).fl⟩ g) = true -> ((0 < 0 -> 0 = 4) /\ 0 < 1 /\ 0 < 1 /\ 0 < 9223372036854775807 /\ 31 < 140737488355328) /\ ∃ y : LnJ, ((y.j : Int) = IntKind.i64.wrap ((x.j : Int) + 1) /\ (y.i : Int) = x.i /\ (gD (AA s) y.i).st = (gD (AA s) x.i).st /\ (gD (AA s) y.i).fl = (gD (AA s) x.i).fl /\ y.l.length = 1 /\ y.l.length = 1 /\ ∀ i : Nat, i < y.l.length -> (gD y.l i).a0 = (gD (AA s) x.i).st /\ (gD y.l i).a1 = (gD (AA s) x.i).fl /\ (gD y.l i).b0 = (gD (AA s) x.j).st /\ (gD y.l i).b1 = (gD (AA s) x.j).fl) /\ (y.i < (AA s).length /\ y.j <= (AA s).length /\ (AA s).length - y.i = q /\ y.l = (QX s y.i y.j).filter (Fd s)) /\ (AA s).length - y.j < (AA s).length - x.j) /\ ((s.all λ g => KI ⟨(gD (AA s) x.i).st, (gD (AA s) x.i).fl, (gD (AA s) x.j).st, (gD (AA s) x.j).fl⟩ g) = false -> ∃ y : IJ, ((y.j : Int) = IntKind.i64.wrap ((x.j : Int) + 1) /\ (y.i : Int) = x.i /\ (gD (AA s) y.i).st = (gD (AA s) x.i).st /\ (gD (AA s) y.i).fl = (gD (AA s) x.i).fl) /\ (y.i < (AA s).length /\ y.j <= (AA s).length /\ (AA s).length - y.i = q /\ (QX s y.i y.j).filter (Fd s) = []) /\ (AA s).length - y.j < (AA s).length - x.j)) /\ (jT ⟨(gD (AA s) x.i).st, (gD (AA s) x.i).fl, (gD (AA s) x.j).st, (gD (AA s) x.j).fl⟩ = false -> ∃ y : IJ, ((y.j : Int) = IntKind.i64.wrap ((x.j : Int) + 1) /\ (y.i : Int) = x.i /\ (gD (AA s) y.i).st = (gD (AA s) x.i).st /\ (gD (AA s) y.i).fl = (gD (AA s) x.i).fl) /\ (y.i < (AA s).length /\ y.j <= (AA s).length /\ (AA s).length - y.i = q /\ (QX s y.i y.j).filter (Fd s) = []) /\ (AA s).length - y.j < (AA s).length - x.j)) /\ (¬(x.j : Int) < (AA s).length -> ∃ y : Nat, (y : Int) = IntKind.i64.wrap ((x.i : Int) + 1) /\ (y <= (AA s).length /\ (Rs s y).filter (Fd s) = []) /\ (AA s).length - y < q) := by
 obtain ⟨h1, h2, h3, h4⟩ := hx
 refine ⟨λ hj => ?_, λ hj => ⟨x.i + 1, (EQ (by omega)).symm, ⟨by omega, ?_⟩, by omega⟩⟩
 ·have hj' : x.j < (AA s).length := Int.ofNat_lt.1 hj
  have step : (QX s x.i (x.j + 1)).filter (Fd s) = [] -> ∃ y : IJ, ((y.j : Int) = IntKind.i64.wrap ((x.j : Int) + 1) /\ (y.i : Int) = x.i /\ (gD (AA s) y.i).st = (gD (AA s) x.i).st /\ (gD (AA s) y.i).fl = (gD (AA s) x.i).fl) /\ (y.i < (AA s).length /\ y.j <= (AA s).length /\ (AA s).length - y.i = q /\ (QX s y.i y.j).filter (Fd s) = []) /\ (AA s).length - y.j < (AA s).length - x.j := λ h => ⟨⟨x.i, x.j + 1⟩, ⟨(EQ (by omega)).symm, rfl, rfl, rfl⟩, ⟨h1, hj', h3, h⟩, by show (AA s).length - (x.j + 1) < _; omega⟩
  refine ⟨⟨by omega, hj⟩, λ hr => ⟨⟨by omega, λ g hgs => ⟨cP.1 hr, hg g hgs⟩⟩, λ hp => ⟨⟨by omega, by omega, by omega, by omega, by omega⟩, ⟨x.i, x.j + 1, [nZ (gD (AA s) x.i) (gD (AA s) x.j)]⟩, ⟨(EQ (by omega)).symm, rfl, rfl, rfl, rfl, rfl, oneL _⟩, ⟨h1, hj', h3, ?_⟩, by show (AA s).length - (x.j + 1) < _; omega⟩, λ hp => step ?_⟩, λ hr => step ?_⟩
  ·show _ = (QX s x.i (x.j + 1)).filter (Fd s)
   rw [BSO hj' hr hp, h4]; rfl
  ·rw [BNN hj' hr hp, h4]
  ·rw [BJR hj' hr, h4]
 ·have : x.j = (AA s).length := by omega
  rw [this] at h4; rw [<- sL h1]; exact h4
theorem AXU {s : List Gau} {q : Nat} (hs : s.length <= 24) (hN : (AA s).length <= 48) (hg : ∀ g ∈ s, XH g) (x : LnJ) (hx : x.i < (AA s).length /\ x.j <= (AA s).length /\ (AA s).length - x.i = q /\ x.l = (QX s x.i x.j).filter (Fd s)) :
  ((x.j : Int) < (AA s).length -> (0 <= (x.j : Int) /\ (x.j : Int) < (AA s).length) /\ (jT ⟨(gD (AA s) x.i).st, (gD (AA s) x.i).fl, (gD (AA s) x.j).st, (gD (AA s) x.j).fl⟩ = true -> (s.length < 4611686018427387904 /\ ∀ g : Gau, List.Mem g s -> NJ ⟨(gD (AA s) x.i).st, (gD (AA s) x.i).fl, (gD (AA s) x.j).st, (gD (AA s) x.j).fl⟩ /\ XH g) /\ ((s.all λ g => KI ⟨(gD (AA s) x.i).st, (gD (AA s) x.i).fl, (gD (AA s) x.j).st, (gD (AA s) x.j).fl⟩ g) = true -> (0 < 1 /\ (false = true -> 0 < 1) /\ x.l.length < 9223372036854775807 /\ (x.l.length + 1) * 32 <= 140737488355328) /\ ∃ y : LnJ, ((y.j : Int) = IntKind.i64.wrap ((x.j : Int) + 1) /\ (y.i : Int) = x.i /\ (gD (AA s) y.i).st = (gD (AA s) x.i).st /\ (gD (AA s) y.i).fl = (gD (AA s) x.i).fl /\ y.l.length = x.l.length + 1 /\ y.l.length = x.l.length + 1 /\ ∀ i : Nat, i < y.l.length -> ((gD y.l i).a0 = bif decide (i < x.l.length) then (gD x.l i).a0 else (gD (AA s) x.i).st) /\ ((gD y.l i).a1 = bif decide (i < x.l.length) then (gD x.l i).a1 else (gD (AA s) x.i).fl) /\ ((gD y.l i).b0 = bif decide (i < x.l.length) then (gD x.l i).b0 else (gD (AA s) x.j).st) /\ (gD y.l i).b1 = bif decide (i < x.l.length) then (gD x.l i).b1 else (gD (AA s) x.j).fl) /\ (y.i < (AA s).length /\ y.j <= (AA s).length /\ (AA s).length - y.i = q /\ y.l = (QX s y.i y.j).filter (Fd s)) /\ (AA s).length - y.j < (AA s).length - x.j) /\ ((s.all λ g => KI ⟨(gD (AA s) x.i).st, (gD (AA s) x.i).fl, (gD (AA s) x.j).st, (gD (AA s) x.j).fl⟩ g) = false -> (∃ y : LnJ, ((y.j : Int) = IntKind.i64.wrap ((x.j : Int) + 1) /\ (y.i : Int) = x.i /\ (gD (AA s) y.i).st = (gD (AA s) x.i).st /\ (gD (AA s) y.i).fl = (gD (AA s) x.i).fl /\ y.l.length = x.l.length /\ y.l.length = x.l.length /\ ∀ i : Nat, i < y.l.length -> (gD y.l i).a0 = (gD x.l i).a0 /\ (gD y.l i).a1 = (gD x.l i).a1 /\ (gD y.l i).b0 = (gD x.l i).b0 /\ (gD y.l i).b1 = (gD x.l i).b1) /\ (y.i < (AA s).length /\ y.j <= (AA s).length /\ (AA s).length - y.i = q /\ y.l = (QX s y.i y.j).filter (Fd s)) /\ (AA s).length - y.j < (AA s).length - x.j))) /\ (jT ⟨(gD (AA s) x.i).st, (gD (AA s) x.i).fl, (gD (AA s) x.j).st, (gD (AA s) x.j).fl⟩ = false -> (∃ y : LnJ, ((y.j : Int) = IntKind.i64.wrap ((x.j : Int) + 1) /\ (y.i : Int) = x.i /\ (gD (AA s) y.i).st = (gD (AA s) x.i).st /\ (gD (AA s) y.i).fl = (gD (AA s) x.i).fl /\ y.l.length = x.l.length /\ y.l.length = x.l.length /\ ∀ i : Nat, i < y.l.length -> (gD y.l i).a0 = (gD x.l i).a0 /\ (gD y.l i).a1 = (gD x.l i).a1 /\ (gD y.l i).b0 = (gD x.l i).b0 /\ (gD y.l i).b1 = (gD x.l i).b1) /\ (y.i < (AA s).length /\ y.j <= (AA s).length /\ (AA s).length - y.i = q /\ y.l = (QX s y.i y.j).filter (Fd s)) /\ (AA s).length - y.j < (AA s).length - x.j))) /\ (¬(x.j : Int) < (AA s).length -> ∃ y : LnK, ((y.i : Int) = IntKind.i64.wrap ((x.i : Int) + 1) /\ y.l.length = x.l.length /\ y.l.length = x.l.length /\ ∀ i : Nat, i < y.l.length -> (gD y.l i).a0 = (gD x.l i).a0 /\ (gD y.l i).a1 = (gD x.l i).a1 /\ (gD y.l i).b0 = (gD x.l i).b0 /\ (gD y.l i).b1 = (gD x.l i).b1) /\ (y.i <= (AA s).length /\ y.l = (Rs s y.i).filter (Fd s)) /\ (AA s).length - y.i < q) := by
 obtain ⟨h1, h2, h3, h4⟩ := hx
 refine ⟨λ hj => ?_, λ hj => ⟨⟨x.i + 1, x.l⟩, ⟨(EQ (by omega)).symm, rfl, rfl, λ _ _ => ⟨rfl, rfl, rfl, rfl⟩⟩, ⟨h1, ?_⟩, by show (AA s).length - (x.i + 1) < _; omega⟩⟩
 ·have hj' : x.j < (AA s).length := Int.ofNat_lt.1 hj
  have hl : x.l.length <= 10000 := h4 ▸ AYI hN
  have step : (QX s x.i (x.j + 1)).filter (Fd s) = x.l -> (∃ y : LnJ, ((y.j : Int) = IntKind.i64.wrap ((x.j : Int) + 1) /\ (y.i : Int) = x.i /\ (gD (AA s) y.i).st = (gD (AA s) x.i).st /\ (gD (AA s) y.i).fl = (gD (AA s) x.i).fl /\ y.l.length = x.l.length /\ y.l.length = x.l.length /\ ∀ i : Nat, i < y.l.length -> (gD y.l i).a0 = (gD x.l i).a0 /\ (gD y.l i).a1 = (gD x.l i).a1 /\ (gD y.l i).b0 = (gD x.l i).b0 /\ (gD y.l i).b1 = (gD x.l i).b1) /\ (y.i < (AA s).length /\ y.j <= (AA s).length /\ (AA s).length - y.i = q /\ y.l = (QX s y.i y.j).filter (Fd s)) /\ (AA s).length - y.j < (AA s).length - x.j) := λ h => ⟨⟨x.i, x.j + 1, x.l⟩, ⟨(EQ (by omega)).symm, rfl, rfl, rfl, rfl, rfl, λ _ _ => ⟨rfl, rfl, rfl, rfl⟩⟩, ⟨h1, hj', h3, h.symm⟩, by show (AA s).length - (x.j + 1) < _; omega⟩
  refine ⟨⟨by omega, hj⟩, λ hr => ⟨⟨by omega, λ g hgs => ⟨cP.1 hr, hg g hgs⟩⟩, λ hp => ⟨⟨by omega, λ _ => by omega, by omega, by omega⟩, ⟨x.i, x.j + 1, x.l ++ [nZ (gD (AA s) x.i) (gD (AA s) x.j)]⟩, ⟨(EQ (by omega)).symm, rfl, rfl, rfl, by simp, by simp, AIQ _ _⟩, ⟨h1, hj', h3, ?_⟩, by show (AA s).length - (x.j + 1) < _; omega⟩, λ hp => step ?_⟩, λ hr => step ?_⟩
  ·show _ = (QX s x.i (x.j + 1)).filter (Fd s)
   rw [BSO hj' hr hp, <- h4]
  ·rw [BNN hj' hr hp, h4]
  ·rw [BJR hj' hr, h4]
 ·have : x.j = (AA s).length := by omega
  rw [this] at h4; show x.l = (Rs s (x.i + 1)).filter (Fd s); rw [<- sL h1]; exact h4
theorem CEY {α : Type} [Inhabited α] (l m : List α) (j : Nat) : gD (l ++ m) j = bif decide (j < l.length) then gD l j else gD m (j - l.length) := by
 rw [jI]; by_cases h : j < l.length <;> simp [h]
theorem BRS {α : Type} [Inhabited α] (x y : α) {j : Nat} (h : j < 2) : gD [x, y] j = bif decide (j = 0) then x else y := by
 match j, h with
 | 0, _ => rfl
 | 1, _ => rfl
theorem AAU {s : List Gau} {t : Int} {i : Nat} (h : i < (AA s).length) : En s t (i + 1) = En s t i ++ [nZ ⟨t, 0⟩ (gD (AA s) i), nZ (gD (AA s) i) ⟨t, 200000⟩] := by
 unfold En; rw [SQ h, List.flatMap_append, <- List.append_assoc]; simp
theorem AUQ {s : List Gau} {t : Int} : ∀ i : Nat, i <= (AA s).length -> (En s t i).length = 2 + 2 * i
 | 0, _ => rfl
 | i + 1, h => by rw [AAU (by omega), List.length_append, AUQ i (by omega)]; simp; omega
theorem AXV {s : List Gau} {t : Int} : En s t (AA s).length = KS s t := by unfold En KS; rw [List.take_length]
theorem BQD (s : List Gau) (t : Int) : ∃ i : Nat, ((En s t i).length = 2 /\ (i : Int) = 0 /\ (En s t i).length = 2 /\ ∀ j : Nat, j < (En s t i).length -> ((gD (En s t i) j).a0 = bif decide (j = 0) then (BP ⟨t, 0⟩).a0 else (BP ⟨t, 200000⟩).a0) /\ ((gD (En s t i) j).a1 = bif decide (j = 0) then (BP ⟨t, 0⟩).a1 else (BP ⟨t, 200000⟩).a1) /\ ((gD (En s t i) j).b0 = bif decide (j = 0) then (BP ⟨t, 0⟩).b0 else (BP ⟨t, 200000⟩).b0) /\ (gD (En s t i) j).b1 = bif decide (j = 0) then (BP ⟨t, 0⟩).b1 else (BP ⟨t, 200000⟩).b1) /\ i <= (AA s).length := by
 refine ⟨0, ⟨rfl, rfl, rfl, λ j hj => ?_⟩, Nat.zero_le _⟩
 have hj : j < 2 := hj
 rw [show En s t 0 = [BP ⟨t, 0⟩, BP ⟨t, 200000⟩] from rfl, BRS _ _ hj]
 cases decide (j = 0) <;> exact ⟨rfl, rfl, rfl, rfl⟩
theorem BSL {s : List Gau} {t : Int} (hN : (AA s).length <= 48) {i : Nat} (h : (i : Int) < (AA s).length) : (0 <= (i : Int) /\ (i : Int) < (AA s).length) /\ (1 < 2 /\ (false = true -> 0 < 2) /\ (En s t i).length + 1 < 9223372036854775807 /\ ((En s t i).length + 2) * 32 <= 140737488355328) /\ ∃ k : Nat, ((En s t k).length = (En s t i).length + 2 /\ (k : Int) = IntKind.i64.wrap ((i : Int) + 1) /\ (En s t k).length = (En s t i).length + 2 /\ ∀ j : Nat, j < (En s t k).length -> ((gD (En s t k) j).a0 = bif decide (j < (En s t i).length) then (gD (En s t i) j).a0 else bif decide (j - (En s t i).length = 0) then t else (gD (AA s) i).st) /\ ((gD (En s t k) j).a1 = bif decide (j < (En s t i).length) then (gD (En s t i) j).a1 else bif decide (j - (En s t i).length = 0) then 0 else (gD (AA s) i).fl) /\ ((gD (En s t k) j).b0 = bif decide (j < (En s t i).length) then (gD (En s t i) j).b0 else bif decide (j - (En s t i).length = 0) then (gD (AA s) i).st else t) /\ (gD (En s t k) j).b1 = bif decide (j < (En s t i).length) then (gD (En s t i) j).b1 else bif decide (j - (En s t i).length = 0) then (gD (AA s) i).fl else 200000) /\ k <= (AA s).length /\ (AA s).length - k < (AA s).length - i := by
 have h' : i < (AA s).length := Int.ofNat_lt.1 h
 have hl := AUQ (s := s) (t := t) i (by omega)
 refine ⟨⟨by omega, h⟩, ⟨by omega, λ _ => by omega, by omega, by omega⟩, i + 1, ⟨?_, (EQ (by omega)).symm, ?_, λ j hj => ?_⟩, h', by omega⟩
 ·rw [AAU h', List.length_append]; rfl
 ·rw [AAU h', List.length_append]; rfl
 ·rw [AAU h'] at hj ⊢
  rw [CEY]
  by_cases h1 : j < (En s t i).length
  ·simp [h1]
  ·rw [BRS _ _ (by simp at hj; omega)]
   simp only [h1, decide_false, cond_false]
   cases decide (j - (En s t i).length = 0) <;> exact ⟨rfl, rfl, rfl, rfl⟩
theorem AXS {s : List Gau} {l : List Ln} {i : Nat} (h : i < l.length) : (l.take (i + 1)).filter (xG s) = (l.take i).filter (xG s) ++ if xG s (gD l i) = true then [gD l i] else [] := by
 rw [SQ h, List.filter_append]; simp [List.filter_cons]
theorem ACB {s : List Gau} {t : Int} : (KS s t).length = 2 + 2 * (AA s).length := by rw [<- AXV, AUQ _ (Nat.le_refl _)]
theorem BQH {s : List Gau} {t : Int} {f : List Ln} (hs : s.length <= 24) (hN : (AA s).length <= 48) (hg : ∀ g ∈ s, XH g) (hf : f.length <= 10000) {x : LnK} (hx : x.i <= (KS s t).length /\ x.l = f ++ ((KS s t).take x.i).filter (xG s)) (h : (x.i : Int) < (KS s t).length) :
  ((0 <= (x.i : Int) /\ (x.i : Int) < (KS s t).length) /\ x.i < (KS s t).length) /\ (jT (gD (KS s t) x.i) = true -> (s.length < 4611686018427387904 /\ ∀ g : Gau, List.Mem g s -> NJ (gD (KS s t) x.i) /\ XH g)) /\ ((bif jT (gD (KS s t) x.i) then s.all λ g => KI (gD (KS s t) x.i) g else false) = true -> (0 < 1 /\ (false = true -> 0 < 1) /\ x.l.length < 9223372036854775807 /\ (x.l.length + 1) * 32 <= 140737488355328) /\ ∃ y : LnK, (y.l.length = x.l.length + 1 /\ (y.i : Int) = x.i /\ y.l.length = x.l.length + 1 /\ ∀ j : Nat, j < y.l.length -> ((gD y.l j).a0 = bif decide (j < x.l.length) then (gD x.l j).a0 else (gD (KS s t) x.i).a0) /\ ((gD y.l j).a1 = bif decide (j < x.l.length) then (gD x.l j).a1 else (gD (KS s t) x.i).a1) /\ ((gD y.l j).b0 = bif decide (j < x.l.length) then (gD x.l j).b0 else (gD (KS s t) x.i).b0) /\ (gD y.l j).b1 = bif decide (j < x.l.length) then (gD x.l j).b1 else (gD (KS s t) x.i).b1) /\ (y.i < (KS s t).length /\ (KS s t).length - y.i = (KS s t).length - x.i /\ y.l = f ++ (((KS s t).take (y.i + 1)).filter (xG s)))) /\ ((bif jT (gD (KS s t) x.i) then s.all λ g => KI (gD (KS s t) x.i) g else false) = false -> ∃ y : LnK, (y.l.length = x.l.length /\ (y.i : Int) = x.i /\ y.l.length = x.l.length /\ ∀ j : Nat, j < y.l.length -> (gD y.l j).a0 = (gD x.l j).a0 /\ (gD y.l j).a1 = (gD x.l j).a1 /\ (gD y.l j).b0 = (gD x.l j).b0 /\ (gD y.l j).b1 = (gD x.l j).b1) /\ (y.i < (KS s t).length /\ (KS s t).length - y.i = (KS s t).length - x.i /\ y.l = f ++ (((KS s t).take (y.i + 1)).filter (xG s)))) := by
 obtain ⟨h1, h2⟩ := hx
 have h' : x.i < (KS s t).length := Int.ofNat_lt.1 h
 have hl : x.l.length <= 10098 := by
  rw [h2, List.length_append]
  have := List.length_filter_le (xG s) ((KS s t).take x.i)
  rw [List.length_take] at this
  have := ACB (s := s) (t := t)
  omega
 refine ⟨⟨⟨by omega, h⟩, h'⟩, λ hr => ⟨by omega, λ g hgs => ⟨cP.1 hr, hg g hgs⟩⟩, λ hp => ⟨⟨by omega, λ _ => by omega, by omega, by omega⟩, ⟨x.i, x.l ++ [(gD (KS s t) x.i)]⟩, ⟨by simp, rfl, by simp, AIQ _ _⟩, h', rfl, ?_⟩, λ hp => ⟨⟨x.i, x.l⟩, ⟨rfl, rfl, rfl, λ _ _ => ⟨rfl, rfl, rfl, rfl⟩⟩, h', rfl, ?_⟩⟩
 ·show x.l ++ _ = _
  rw [AXS h', if_pos (show xG s (gD (KS s t) x.i) = true from hp), <- List.append_assoc, <- h2]
 ·show x.l = _
  rw [AXS h', if_neg (by intro hq; have hq : (bif jT (gD (KS s t) x.i) then s.all λ g => KI (gD (KS s t) x.i) g else false) = true := hq; rw [hp] at hq; cases hq), List.append_nil, <- h2]
theorem BFM {s : List Gau} {t : Int} {f : List Ln} (hN : (AA s).length <= 48) {m : Nat} (x : LnK) (hx : x.i < (KS s t).length /\ (KS s t).length - x.i = m /\ x.l = f ++ ((KS s t).take (x.i + 1)).filter (xG s)) : ∃ y : LnK, (y.l.length = x.l.length /\ (y.i : Int) = IntKind.i64.wrap ((x.i : Int) + 1) /\ y.l.length = x.l.length /\ ∀ j : Nat, j < y.l.length -> (gD y.l j).a0 = (gD x.l j).a0 /\ (gD y.l j).a1 = (gD x.l j).a1 /\ (gD y.l j).b0 = (gD x.l j).b0 /\ (gD y.l j).b1 = (gD x.l j).b1) /\ (y.i <= (KS s t).length /\ y.l = f ++ ((KS s t).take y.i).filter (xG s)) /\ (KS s t).length - y.i < m := by
 have := ACB (s := s) (t := t)
 exact ⟨⟨x.i + 1, x.l⟩, ⟨rfl, (EQ (by omega)).symm, rfl, λ _ _ => ⟨rfl, rfl, rfl, rfl⟩⟩, ⟨hx.1, hx.2.2⟩, by show (KS s t).length - (x.i + 1) < m; omega⟩
theorem Wn {w : Bk} {k : Int} (h : w.has k = true) : WB w k = w := by
 obtain ⟨g, b, has, st⟩ := w
 have h : has k = true := h
 unfold WB; congr 1
 ·funext n; unfold XI; by_cases e : n = k
  ·subst e; simp [h]
  ·simp [e]
 ·funext n; unfold wX; simp [h]
theorem CDO {w : Bk} {k n : Int} : PJ (WB w k) n = bif decide (n = k) then QO (Jq w k) else PJ w n := by
 unfold PJ
 show (bif XI w.has k n then QO (Jq w n) else []) = _
 unfold XI
 by_cases e : n = k
 ·subst e; simp
 ·simp [e]
theorem BOD {w : Bk} {k : Int} (h : w.has k = true) : PJ w k = QO (Jq w k) := by unfold PJ; rw [h]; rfl
theorem BUY {s : List Gau} (h : s = []) : QO s = [] := by subst h; rfl
theorem BJU {s : List Gau} (hN : (AA s).length <= 48) : (QO s).length <= 10000 := by
 unfold QO
 rw [<- sX]
 by_cases h : (AA s).length = 0
 ·rw [h]; simp [Rs]
 ·obtain ⟨i, hi⟩ : ∃ i, (AA s).length = i + 1 := ⟨(AA s).length - 1, by omega⟩
  rw [hi, <- sL (i := i) (by omega)]; exact AYI hN
theorem BMX {w : Bk} {k : Int} : ∀ n : Int, ((PJ (WB w k) n).length = bif decide (n = k) then (QO (Jq w k)).length else (PJ w n).length) /\ ∀ j : Nat, j < (PJ (WB w k) n).length -> ((gD (PJ (WB w k) n) j).a0 = bif decide (n = k) then (gD (QO (Jq w k)) j).a0 else (gD (PJ w n) j).a0) /\ ((gD (PJ (WB w k) n) j).a1 = bif decide (n = k) then (gD (QO (Jq w k)) j).a1 else (gD (PJ w n) j).a1) /\ ((gD (PJ (WB w k) n) j).b0 = bif decide (n = k) then (gD (QO (Jq w k)) j).b0 else (gD (PJ w n) j).b0) /\ (gD (PJ (WB w k) n) j).b1 = bif decide (n = k) then (gD (QO (Jq w k)) j).b1 else (gD (PJ w n) j).b1 := λ n => by
 rw [CDO]; cases decide (n = k) <;> exact ⟨rfl, λ _ _ => ⟨rfl, rfl, rfl, rfl⟩⟩
theorem BNZ {a : BkS} (h : XS a.w.g a.w.b) : (sB a).length <= 24 /\ (AA (sB a)).length <= 48 /\ ∀ g ∈ sB a, XH g := by
 have h1 : (sB a).length <= 24 := Nat.le_trans (List.length_filter_le _ _) h.1
 have he := Vg (s := sB a) (sB a).length (Nat.le_refl _)
 unfold Im at he; rw [List.take_length] at he
 exact ⟨h1, by unfold AA; omega, λ g hg => h.2.1 g (List.mem_filter.1 hg).1⟩
theorem H7 {s : List Gau} {t : Int} : UD s t = bif (bif decide ((s.length : Int) > 0) then ((QO s).length : Int) == 0 else false) then [] else QO s ++ (KS s t).filter (xG s) := by
 unfold UD
 rw [show decide (0 < s.length) = decide ((s.length : Int) > 0) by simp [Int.natCast_pos], show decide ((QO s).length = 0) = (((QO s).length : Int) == 0) by rw [Bool.eq_iff_iff]; simp]
theorem CFA (a : BkS) (h : XS a.w.g a.w.b) (h2 : 0 <= a.st /\ a.st <= 2000) (h3 : sB a ≠ []) : BNQ a := by
 rw [BXM]; delta sD rR AAQ ART AQA APC jF pZ ANB ARJ FF OO OF AED ADH wP jH ADX AGW ADD AEN AHD Pu AIP AFX wB vE vB vA ACV AHM AHW vJ AHA uH gB gQ gE jB iC AEA wM AGR iM AID AFJ AFT AIF ADI Qz Qm Mv Nn Nz Qr Oe AHG AIA XY gZ Py uN Ph HU ADK AFY AGI AEI AGB JY JZ wH wL ADV AEY uK jJ iW gH iR iF iT ADS AHO AHX Ve AIO uL ACK CV CU HE iG gI Nl ADF ADQ Vk gF AHI W7 yG K5 L8 N5 F2 oO lO oF kT nG U6 O9 E1 Hj zI Ql Oc Pv Po Pa Ok kI oY I9 Xj yN C7 No nF D9 I6 XA Zx jZ kU A2 L9 F5 Vx A5 O0 T6 U5 N2 S7 Zo aH O7 F1 B5 oN nM nU I4 H3 O1 E6 V8 OS OT OX PA OV I1 aV lK mV Wz C2 yQ zP I5 Zq F9 yP C8 S4 lR G5 W8 yF J2 H6 P9 M0 S6 F7 U0 mC mN C0 oH V3 O5 zU V6 C9 Q9 U1 zM N4 F0 J8 yT nH S9 yO K7 yL D7 E2 Yk B9 P6 M7 T2 zK D2 R9 C3 nL Fx G6 zN N3 E4 Pm Nh Mq Qc K8 J4 yC W2 Ot V1 V0 N1 J9 G7 O6 V9 Pn M2; simp only [CC, eq_self, implies_true, forall_const, Ec, show Jq a.w a.k = sB a from rfl, if_true]
 obtain ⟨hs, hN, hg⟩ := BNZ h
 have hf := BJU (s := sB a) hN
 have h0 : 0 < (sB a).length := List.length_pos_iff.2 h3
 have ok : ∀ x, NJ x -> (sB a).length < 4611686018427387904 /\ ∀ g : Gau, List.Mem g (sB a) -> NJ x /\ XH g := λ x hx => ⟨by omega, λ g hgs => ⟨hx, hg g hgs⟩⟩
 have e_ok : ∀ i, i < (AA (sB a)).length -> okP (gD (AA (sB a)) i) := λ i hi => cK hg (DU hi)
 refine ⟨h, λ hh => ⟨?a, ?b1⟩, λ hh => ⟨⟨⟨by omega, ⟨0, rfl, Nat.zero_le _, rfl⟩, λ i ⟨hi, hp⟩ => ?c, λ x ⟨hi, hp⟩ => ?d⟩, ?e⟩, ?b2⟩⟩
 case a =>
  refine ⟨default, ?_⟩
  rw [Wn hh, BOD hh]
  exact ⟨rfl, λ _ _ => ⟨rfl, rfl, rfl⟩, rfl, λ _ _ => rfl, λ _ => rfl, λ _ => rfl, λ _ => ⟨rfl, λ _ _ => ⟨rfl, rfl, rfl, rfl⟩⟩, rfl, λ _ _ => ⟨rfl, rfl, rfl, rfl⟩⟩
 case e => exact ⟨default, rfl, λ _ _ => ⟨rfl, rfl, rfl⟩, rfl, λ _ _ => rfl, λ _ => rfl, λ _ => rfl, BMX⟩
 case c =>
  refine ⟨λ hlt => ?_, λ hge => ⟨default, ?_⟩⟩
  ·have hlt' : i < (AA (sB a)).length := Int.ofNat_lt.1 hlt
   refine ⟨⟨by omega, hlt⟩, ⟨(e_ok i hlt').1, (e_ok i hlt').2.1⟩, ok _ (dJ (e_ok i hlt')), λ hpa => ⟨⟨by omega, by omega, by omega, by omega, by omega⟩, ⟨⟨i, 0, [BP (gD (AA (sB a)) i)]⟩, ⟨rfl, rfl, rfl, rfl, rfl, rfl, oneL _⟩, hlt', Nat.zero_le _, rfl, ?_⟩, λ x hx => AVA hs hN hg x hx, λ x hx => AXU hs hN hg x hx⟩, λ hpa => ⟨⟨⟨i, 0⟩, ⟨rfl, rfl, rfl, rfl⟩, hlt', Nat.zero_le _, rfl, ?_⟩, λ x hx => AVA hs hN hg x hx, λ x hx => AXU hs hN hg x hx⟩⟩
   ·show _ = (QX (sB a) i 0).filter (Fd (sB a))
    rw [ABT, hp, if_pos (show Fd (sB a) _ = true from hpa)]; rfl
   ·show (QX (sB a) i 0).filter (Fd (sB a)) = []
    rw [ABT, hp, if_neg (by rw [show Fd (sB a) (BP (gD (AA (sB a)) i)) = false from hpa]; simp)]; rfl
  ·have : i = (AA (sB a)).length := by omega
   rw [this, sX] at hp; unfold QO; rw [hp]; rfl
 case d =>
  refine ⟨λ hlt => ?_, λ hge => ⟨default, ?_⟩⟩
  ·have hlt' : x.i < (AA (sB a)).length := Int.ofNat_lt.1 hlt
   have hl : x.l.length <= 10000 := by
    have := AYI (s := sB a) (i := x.i) (j := 0) hN
    rw [ABT, <- hp, List.length_append] at this; omega
   refine ⟨⟨by omega, hlt⟩, ⟨(e_ok x.i hlt').1, (e_ok x.i hlt').2.1⟩, ok _ (dJ (e_ok x.i hlt')), λ hpa => ⟨⟨by omega, λ _ => by omega, by omega, by omega⟩, ⟨⟨x.i, 0, x.l ++ [BP (gD (AA (sB a)) x.i)]⟩, ⟨rfl, rfl, rfl, rfl, by simp, by simp, AIQ _ _⟩, hlt', Nat.zero_le _, rfl, ?_⟩, λ x hx => AVA hs hN hg x hx, λ x hx => AXU hs hN hg x hx⟩, λ hpa => ⟨⟨⟨x.i, 0, x.l⟩, ⟨rfl, rfl, rfl, rfl, rfl, rfl, λ _ _ => ⟨rfl, rfl, rfl, rfl⟩⟩, hlt', Nat.zero_le _, rfl, ?_⟩, λ x hx => AVA hs hN hg x hx, λ x hx => AXU hs hN hg x hx⟩⟩
   ·show _ = (QX (sB a) x.i 0).filter (Fd (sB a))
    rw [ABT, <- hp, if_pos (show Fd (sB a) _ = true from hpa)]
   ·show x.l = (QX (sB a) x.i 0).filter (Fd (sB a))
    rw [ABT, <- hp, if_neg (by rw [show Fd (sB a) (BP (gD (AA (sB a)) x.i)) = false from hpa]; simp), List.append_nil]
  ·have hx : x.l = QO (sB a) := by rw [hp, show x.i = (AA (sB a)).length by omega, sX]; rfl
   rw [hx]; exact ⟨rfl, Nat.le_refl _, λ _ _ => ⟨rfl, rfl, rfl, rfl⟩⟩
 all_goals
  ·have hmo : ∀ i : Nat, i <= (AA (sB a)).length -> ¬(i : Int) < (AA (sB a)).length -> En (sB a) a.st i = KS (sB a) a.st := λ i h1 h2 => by
    rw [show i = (AA (sB a)).length by omega, AXV]
   refine ⟨λ hc => by rw [H7, hc]; rfl, λ hc => ⟨h2, by omega, BQD _ _, λ i hi => ⟨λ hlt => BSL hN hlt, λ hge => ⟨⟨?_, by omega⟩, ⟨⟨0, QO (sB a)⟩, ⟨rfl, by rw [hmo i hi hge], by rw [hmo i hi hge], rfl, by rw [hmo i hi hge], λ j _ => by rw [hmo i hi hge]; exact ⟨rfl, rfl, rfl, rfl⟩, rfl, λ _ _ => ⟨rfl, rfl, rfl, rfl⟩⟩, Nat.zero_le _, by simp⟩, λ x hx => ⟨λ hlt => ⟨BQH hs hN hg hf hx hlt, λ y hy => BFM hN y hy⟩, λ hge => ?_⟩⟩⟩⟩⟩
   ·simp only [decide_eq_true (show ((sB a).length : Int) > 0 by omega), cond_true, beq_eq_false_iff_ne, ne_eq] at hc
    omega
   ·have e : UD (sB a) a.st = x.l := by rw [H7, hc, hx.2, List.take_of_length_le (by omega)]; rfl
    rw [e]; exact ⟨rfl, Nat.le_refl _, λ _ _ => ⟨rfl, rfl, rfl, rfl⟩⟩
theorem BMT {s : List Gau} {t : Int} (hN : (AA s).length <= 48) {m : Nat} (i : Nat) (hx : i < (KS s t).length /\ (KS s t).length - i = m /\ ((KS s t).take (i + 1)).filter (xG s) = []) : ∃ y : Nat, (y : Int) = IntKind.i64.wrap ((i : Int) + 1) /\ (y <= (KS s t).length /\ ((KS s t).take y).filter (xG s) = []) /\ (KS s t).length - y < m := by
 have := ACB (s := s) (t := t)
 exact ⟨i + 1, (EQ (by omega)).symm, ⟨hx.1, hx.2.2⟩, by omega⟩
theorem CBY (a : BkS) (h : XS a.w.g a.w.b) (h2 : 0 <= a.st /\ a.st <= 2000) (h3 : sB a = []) : BND a := by
 rw [BUN]; delta rN rO AAJ AMY ANZ APJ gJ rQ ANJ ANG EH OH OM ACD ADZ wQ hU ACG AFA AEP ACF AGJ Iy ADC AGK vM vW uD uU ACW AHP AHE uI AFF vU iI gC jD iP gP AFG uT AEF gY AHT AES AEX ACQ DA AGP Cm Ck Cc Ci Ca Cn Cd AIG AFP AFM UW gO It vZ Iz AIE AFD AGF AGL uX HV HT Oz AGQ AFC wR fZ iU iB jQ gT hJ ACS ACJ AHK AEE Vm AIK vO AFS CW CT HH AGO gL gG Pi AFZ vV AHQ Yh mI nJ lV pE Zg A1 mM Hu D8 Mm Rb Nk Me Hn Ga oP lY Wr E9 RG Fk aB A4 XC WV K9 zJ R7 A0 yR zH kG zS yY pB M4 yD O2 R5 Ge zW Qu Rd Nt Na N9 Wt H4 D5 E5 WK mF Q0 A9 Wc yI Q7 zL K0 T7 yW aJ Wm yZ zF C5 mH lU oC T3 T8 R2 M3 S8 OR PG PH PI OZ aW oB Xw V2 C1 T5 M1 Zd H5 K1 E8 Q4 nE M8 P3 Q5 P8 U2 P7 J1 W3 zY N0 kS mQ T1 lC J7 zA D3 U8 K6 yM A8 O4 P1 zV S3 zR oD B6 R4 zE yJ yX P2 Xi Q8 G3 J3 W5 D1 P5 L4 F8 mD Hx I7 F6 I8 zZ Mc Nr Nb Ni B8 M9 C6 L2 Oy D0 H8 zB S1 W6 B7 W0 Mx zX; simp only [CC, eq_self, implies_true, forall_const, Ec, show Jq a.w a.k = sB a from rfl, if_true]
 obtain ⟨hs, hN, hg⟩ := BNZ h
 have hf : QO (sB a) = [] := BUY h3
 have h0 : (AA (sB a)).length = 0 := by rw [h3]; rfl
 have hS : (sB a).length = 0 := by rw [h3]; rfl
 have ok : ∀ x, NJ x -> (sB a).length < 4611686018427387904 /\ ∀ g : Gau, List.Mem g (sB a) -> NJ x /\ XH g := λ x hx => ⟨by omega, λ g hgs => ⟨hx, hg g hgs⟩⟩
 have hc : (bif decide (((sB a).length : Int) > 0) then ((QO (sB a)).length : Int) == 0 else false) = false := by rw [hS]; rfl
 refine ⟨h, λ hh => ⟨?a, ?b1⟩, λ hh => ⟨⟨⟨by omega, ⟨0, rfl, Nat.zero_le _, rfl⟩, λ i ⟨hi, hp⟩ => ?c, λ x ⟨hi, hp⟩ => ?d⟩, ?e⟩, ?b2⟩⟩
 case a =>
  refine ⟨default, ?_⟩
  rw [Wn hh, BOD hh]
  exact ⟨rfl, λ _ _ => ⟨rfl, rfl, rfl⟩, rfl, λ _ _ => rfl, λ _ => rfl, λ _ => rfl, λ _ => ⟨rfl, λ _ _ => ⟨rfl, rfl, rfl, rfl⟩⟩, by show 0 = (QO (sB a)).length; rw [hf]; rfl⟩
 case e => exact ⟨default, rfl, λ _ _ => ⟨rfl, rfl, rfl⟩, rfl, λ _ _ => rfl, λ _ => rfl, λ _ => rfl, BMX, by rw [hf]; rfl⟩
 case c => exact ⟨λ hlt => absurd hlt (by omega), λ hge => ⟨default, by rw [hf]; rfl⟩⟩
 case d =>
  refine ⟨λ hlt => absurd hlt (by omega), λ hge => ⟨default, ?_⟩⟩
  have hx : x.l = QO (sB a) := by rw [hp, show x.i = (AA (sB a)).length by omega, sX]; rfl
  rw [hx]; exact ⟨rfl, Nat.le_refl _, λ _ _ => ⟨rfl, rfl, rfl, rfl⟩⟩
 all_goals
  have hmo : ∀ i : Nat, i <= (AA (sB a)).length -> En (sB a) a.st i = KS (sB a) a.st := λ i h1 => by
   rw [show i = (AA (sB a)).length by omega, AXV]
  have hML := ACB (s := sB a) (t := a.st)
  refine ⟨λ hc => ?_, λ _ => ⟨h2, by omega, BQD _ _, λ i hi => ⟨λ hlt => BSL hN hlt, λ hge => ⟨⟨0, ⟨by rw [hmo i hi], by rw [hmo i hi], rfl, by rw [hmo i hi], λ j _ => by rw [hmo i hi]; exact ⟨rfl, rfl, rfl, rfl⟩⟩, Nat.zero_le _, rfl⟩, λ x ⟨hx, hy⟩ => ⟨λ hlt => ⟨?_, λ y hy => BMT hN y hy, λ y hy => BFM hN y hy⟩, λ hge => ?_⟩, λ x hx => ⟨λ hlt => ⟨BQH hs hN hg (by rw [hf]; exact Nat.zero_le _) hx hlt, λ y hy => BMT hN y hy, λ y hy => BFM hN y hy⟩, λ hge => ?_⟩⟩⟩⟩⟩
  ·rw [hS] at hc; cases hc
  ·have h' : x < (KS (sB a) a.st).length := Int.ofNat_lt.1 hlt
   refine ⟨⟨⟨by omega, hlt⟩, h'⟩, λ hr => ok _ (cP.1 hr), λ hp => ⟨⟨by omega, by omega, by omega, by omega, by omega⟩, ⟨x, [gD (KS (sB a) a.st) x]⟩, ⟨rfl, rfl, rfl, oneL _⟩, h', rfl, ?_⟩, λ hp => ⟨x, rfl, h', rfl, ?_⟩⟩
   ·show [_] = _
    rw [AXS h', if_pos (show xG (sB a) (gD (KS (sB a) a.st) x) = true from hp), hy, hf]; rfl
   ·rw [AXS h', if_neg (by intro hq; have hq : (bif jT (gD (KS (sB a) a.st) x) then (sB a).all λ g => KI (gD (KS (sB a) a.st) x) g else false) = true := hq; rw [hp] at hq; cases hq), hy]; rfl
  ·have hz : (KS (sB a) a.st).filter (xG (sB a)) = [] := by rw [<- hy, List.take_of_length_le (by omega)]
   rw [H7, hc, hf, hz]; rfl
  ·have e : UD (sB a) a.st = x.l := by rw [H7, hc, hx.2, List.take_of_length_le (by omega)]; rfl
   rw [e]; exact ⟨rfl, Nat.le_refl _, λ _ _ => ⟨rfl, rfl, rfl, rfl⟩⟩
theorem AEO : AL Try.prog Y0 (C_lns.spec dBkS) := Ctr.spec_ok (C := C_lns) (λ (a : BkS) h => by
 have h : XS a.w.g a.w.b /\ 0 <= a.st /\ a.st <= 2000 := h
 by_cases h3 : sB a = []
 ·exact Lg (A := BSM a) (ren := []) (fz := [403]) BAI (by kernel_rfl) (AB wF (AB J0 (AB N8 (AB Sm (AB AAN (AB AOA (AB BWZ AF))))))) (CBY a h.1 h.2 h3) (BRF ZW (BHW a) rfl rfl (AB AAN (AB Sm (AB AOA AF))) rK (by kernel_rfl) (by kernel_rfl))
 ·exact Lg (A := BTA a) (ren := []) (fz := [403]) BAI (by kernel_rfl) (AB wF (AB J0 (AB N8 (AB Sm (AB AAN (AB AOA (AB BVX AF))))))) (CFA a h.1 h.2 h3) (BRF ZW (BHW a) rfl rfl (AB AAN (AB Sm (AB AOA AF))) rK (by kernel_rfl) (by kernel_rfl))) _
end Go.Bal
