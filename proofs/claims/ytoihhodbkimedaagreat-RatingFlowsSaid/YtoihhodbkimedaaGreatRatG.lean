/- Package rating: lines of a part that bound its flows. -/
import Derived.Test.YtoihhodbkimedaaGreatRatF
set_option linter.unusedVariables false
set_option linter.unusedSimpArgs false
namespace Go.Bal
open Go Go.Sym Go.Proofs
def rowL (l : List Ln) : AObj := .row 4 l.length λ i => eLn (gD l i)
def dLs1 : List AVal -> Heap -> Option (List Ln × List (Nat × Nat) × List Nat)
 | [y], H => match dLns y H with
  | some (l, f) => some (l, [], f)
  | none => none
 | _, _ => none
def C_cloN : Ctr := { α := List Ln, xs := λ l => [.d (eLns l)], L := λ _ => [], val := λ l => .own 0 4 0 l.length, keep := λ l => [(0, .live (rowL l))], pre := λ l => [0 < l.length /\ l.length < 1073741824] }
def CFX : Ann := { ann 8 [] with mt := λ id => id == 3 }
def CHF (l : List Ln) : Prop := AN Try.prog CFX tD (AF tD) (C_cloN.xs l) (AC []) (C_cloN.val l) (C_cloN.keep l) [(0, 4032)] []
theorem CLG (l : List Ln) : (CHF l) = ((Nat.succ 0).le l.length /\ ((0 = 0 /\ (0 < 0 -> 4 = 4)) /\ (True /\ (0 < l.length -> 4 = 4)) /\ (false = true -> 0 < l.length) /\ 0 + l.length <= 9223372036854775807 /\ (0 + l.length)
 * 32 <= 140737488355328) /\ 0 = 0 /\ l.length = 0 + l.length /\ l.length = 0 + l.length /\ ∀ (i : Nat), i < l.length -> (gD l i).a0 = (gD l (i - 0)).a0 /\ (gD l i).a1 = (gD l (i - 0)).a1 /\ (gD l i).b0 = (gD l (i - 0)).b0 /\ (gD
 l i).b1 = (gD l (i - 0)).b1) := by kernel_rfl
def nilN : DVal := .list 0 0 (λ _ => default) false
def C_cloE : Ctr := { α := One, xs := λ _ => [.d nilN], L := λ _ => [], val := λ _ => .d Hr, keep := λ _ => [] }
def dNil : List AVal -> Heap -> Option (One × List (Nat × Nat) × List Nat)
 | [.d (.list 0 0 _ _)], _ => some (default, [], [])
 | _, _ => none
def CAF : Ann := { ann 8 [] with md := λ id => if id = 3 then some (λ k => if k = 0 then 4 else 0) else none }
def CCC (_x : One) : Prop := AN Try.prog CAF tD (AF tD) (C_cloE.xs _x) (AC []) (C_cloE.val _x) [] [] []
theorem CMV (_x : One) : (CCC _x) = ((0 = 0 /\ ∀ (i : Nat), i < 0 -> false = false) /\ ((True /\ (0 < 0 -> 4 = 4)) /\ (True /\ (0 < 0 -> 0 = 4)) /\ (false = true -> 0 < 0) /\ 0 <= 9223372036854775807 /\ 0 <= 140737488355328) /\
 0 = 0 /\ 0 = 0) := by kernel_rfl
theorem CJG : AG Try.prog AGR (C_cloN.spec dLs1) := HR C_cloN (λ _ => CFX) [(0, 4032)] [] BLS (λ _ => by kernel_rfl) (λ _ => AD) (λ (l : List Ln) h => by
 show CHF l; rw [CLG]; simp only [CC, eq_self, implies_true, forall_const]
 obtain ⟨h1, h2⟩ : 0 < l.length /\ l.length < 1073741824 := h
 exact ⟨h1, ⟨λ _ => h1, by omega, by omega⟩, λ _ _ => ⟨rfl, rfl, rfl, rfl⟩⟩) (λ _ => IN rfl rfl) _
theorem CJO : AG Try.prog AGR (C_cloE.spec dNil) := HR C_cloE (λ _ => CAF) [] [] BLS (λ _ => by kernel_rfl) (λ _ => AD) (λ (x : One) _ => by
 show CCC x; rw [CMV]; simp only [CC, eq_self, implies_true, forall_const]
 exact ⟨by omega, by simp, by omega, by omega⟩) (λ _ => IN rfl rfl) _
structure BkS where
 w : Bk
 k : Int
 st : Int
def dBkS : List AVal -> Heap -> Option (BkS × List (Nat × Nat) × List Nat)
 | [.bptr id _, .d k, .d t], H => match BBF H id with
  | some (w, q) => some (⟨w, DH k, DH t⟩, [(100, id), (101, q)], [])
  | none => none
 | _, _ => none
def CF (w : Bk) (k : Int) : Bk := ⟨w.g, w.b, GN w.has k, Qj w.has w.st k⟩
def moB (t : Int) : List Ln := [AL ⟨t, 0⟩, AL ⟨t, 200000⟩]
def JJ (s : List Gau) (t : Int) (i : Nat) : List Ln := moB t ++ ((AA s).take i).flatMap λ p => [Iq ⟨t, 0⟩ p, Iq p ⟨t, 200000⟩]
def DC (s : List Gau) (t : Int) : List Ln := moB t ++ (AA s).flatMap λ p => [Iq ⟨t, 0⟩ p, Iq p ⟨t, 200000⟩]
def Yw (s : List Gau) (x : Ln) : Bool := bif SK x then JO s x else false
def CR (s : List Gau) (t : Int) : List Ln := bif (bif decide (0 < s.length) then decide ((EP s).length = 0) else false) then [] else EP s ++ (DC s t).filter (Yw s)
structure LnK where
 i : Nat
 l : List Ln
 deriving Inhabited
structure LnJ where
 i : Nat
 j : Nat
 l : List Ln
 deriving Inhabited
def sB (a : BkS) : List Gau := KY a.w a.k
def lsH (a : BkS) (c : AVal) : List (Nat × HCell) := bkK a.w ++ [(2048, .live (.box [.d (AS (sB a))])), (3144, .live (.box [c]))]
def lsR (a : BkS) (l : List Ln) : List (Nat × HCell) := lsH a (.own 401 4 0 l.length) ++ [(401, .live (rowL l))]
def lsPt (p : Pt) : HCell := .live (.box [.int p.st, .int p.fl])
def lsOn (a : BkS) (l : Nat) : Shape := { α := Nat, dflt := 0, T := λ i => ⟨lnS (sB a) l i, lsH a (.d Hr)⟩, inv := λ i => i <= (AA (sB a)).length /\ (PW (sB a) i).filter (JO (sB a)) = [], meas := λ i => (AA (sB a)).length - i }
def lsOo (a : BkS) (l : Nat) : Shape := { α := LnK, dflt := default, T := λ x => ⟨lnS (sB a) l x.i, lsR a x.l⟩, inv := λ x => x.i <= (AA (sB a)).length /\ x.l = (PW (sB a) x.i).filter (JO (sB a)), meas := λ x => (AA (sB a)).length - x.i }
def lsIs (a : BkS) (l i j : Nat) : List (Nat × AVal) := [(5, .bptr 205 0), (22, .d (ePts (AA (sB a)))), (23, .int (AA (sB a)).length), (24, .int j)] ++ lnS (sB a) l i
def lsIn (a : BkS) (q l : Nat) : Shape := { α := IJ, dflt := default, T := λ x => ⟨lsIs a l x.i x.j, (205, lsPt (gD (AA (sB a)) x.i)) :: lsH a (.d Hr)⟩, inv := λ x => x.i < (AA (sB a)).length /\ x.j <= (AA (sB a)).length /\ (AA (sB a)).length - x.i = q /\ (EZ (sB a) x.i x.j).filter (JO (sB a)) = [], meas := λ x => (AA (sB a)).length - x.j, first := [(205, 104032)] }
def lsIo (a : BkS) (q l : Nat) (r : List (Nat × Nat)) : Shape := { α := LnJ, dflt := default, T := λ x => ⟨lsIs a l x.i x.j, (205, lsPt (gD (AA (sB a)) x.i)) :: lsR a x.l⟩, inv := λ x => x.i < (AA (sB a)).length /\ x.j <= (AA (sB a)).length /\ (AA (sB a)).length - x.i = q /\ x.l = (EZ (sB a) x.i x.j).filter (JO (sB a)), meas := λ x => (AA (sB a)).length - x.j, first := (205, 104032) :: r, again := r }
noncomputable def BWE (a : BkS) : IterAnn := { fn := TV, code := AF TV, live := [0, 1, 2, 7, 8], ann := { base := λ id => 100000 + 1000 * (id + 1), Γ := Sym.look [(BAD, C_ends.spec JM), (Fc, Ve), (BOF, BUH)], E := [100, 101, 2048, 3144], n := 41, inner := λ gs id => if id = 2 then some [lsOn a (gs.getD 0 0), lsOo a (gs.getD 0 0)] else if id = 6 then some [lsIn a (gs.getD 0 0) (gs.getD 1 0), lsIo a (gs.getD 0 0) (gs.getD 1 0) [], lsIo a (gs.getD 0 0) (gs.getD 1 0) [(401, 8048)]] else none } }
def ls8s (a : BkS) : List (Nat × AVal) := [(0, .bptr 100 0), (1, .int a.k), (2, .int a.st), (7, .bptr 2048 0), (8, .bptr 3144 0)]
def ls8n (a : BkS) : Shape := { α := One, dflt := default, T := λ _ => ⟨ls8s a, lsH a (.d (eLns (EP (sB a))))⟩, inv := λ _ => True, meas := λ _ => 0 }
def ls8o (a : BkS) : Shape := { α := One, dflt := default, T := λ _ => ⟨ls8s a, lsH a (.d (eLns (EP (sB a))))⟩, inv := λ _ => True, meas := λ _ => 0, ffz := [401] }
def lsU (a : BkS) (z : DVal) : List (Nat × HCell) := bkK (CF a.w a.k) ++ [(2048, .live (.box [.d (AS (sB a))])), (3144, .live (.box [.d z]))]
def ls9 (a : BkS) (z : DVal) : Shape := { α := One, dflt := default, T := λ _ => ⟨[(2, .int a.st), (7, .bptr 2048 0), (8, .bptr 3144 0)], lsU a z⟩, inv := λ _ => True, meas := λ _ => 0 }
def ls14 (a : BkS) (z : DVal) : Shape := { α := Nat, dflt := 0, T := λ i => ⟨[(7, .bptr 2048 0), (8, .bptr 3144 0), (11, .bptr 12064 0), (12, .bptr 12080 0), (13, .own 402 4 0 (JJ (sB a) a.st i).length), (67, .d (ePts (AA (sB a)))), (68, .int (AA (sB a)).length), (69, .int i)], lsU a z ++ [(12064, .live (.box [.int a.st, .int 0])), (12080, .live (.box [.int a.st, .int 200000])), (402, .live (rowL (JJ (sB a) a.st i)))]⟩, inv := λ i => i <= (AA (sB a)).length, meas := λ i => (AA (sB a)).length - i, first := [(402, 13064)], again := [(402, 17128)] }
def BXN (a : BkS) (v : AVal) (i : Nat) : List (Nat × AVal) := [(7, .bptr 2048 0), (16, v), (85, .own 402 4 0 (DC (sB a) a.st).length), (86, .int (DC (sB a) a.st).length), (87, .int i)]
def BUI (a : BkS) : List (Nat × HCell) := bkK (CF a.w a.k) ++ [(2048, .live (.box [.d (AS (sB a))])), (402, .live (rowL (DC (sB a) a.st)))]
def CWV (a : BkS) : Shape := { α := Nat, dflt := 0, T := λ i => ⟨BXN a (.d Hr) i, BUI a⟩, inv := λ i => i <= (DC (sB a) a.st).length /\ ((DC (sB a) a.st).take i).filter (Yw (sB a)) = [], meas := λ i => (DC (sB a) a.st).length - i }
def CPJ (a : BkS) : Shape := { α := LnK, dflt := default, T := λ x => ⟨BXN a (.own 403 4 0 x.l.length) x.i, BUI a ++ [(403, .live (rowL x.l))]⟩, inv := λ x => x.i <= (DC (sB a) a.st).length /\ x.l = EP (sB a) ++ ((DC (sB a) a.st).take x.i).filter (Yw (sB a)), meas := λ x => (DC (sB a) a.st).length - x.i, first := [(403, 19016)] }
def CVW (a : BkS) (m : Nat) : Shape := { α := Nat, dflt := 0, T := λ i => ⟨BXN a (.d Hr) i, BUI a⟩, inv := λ i => i < (DC (sB a) a.st).length /\ (DC (sB a) a.st).length - i = m /\ ((DC (sB a) a.st).take (i + 1)).filter (Yw (sB a)) = [], meas := λ _ => 0 }
def BTO (a : BkS) (m : Nat) (f : List (Nat × Nat)) : Shape := { α := LnK, dflt := default, T := λ x => ⟨BXN a (.own 403 4 0 x.l.length) x.i, BUI a ++ [(403, .live (rowL x.l))]⟩, inv := λ x => x.i < (DC (sB a) a.st).length /\ (DC (sB a) a.st).length - x.i = m /\ x.l = EP (sB a) ++ ((DC (sB a) a.st).take (x.i + 1)).filter (Yw (sB a)), meas := λ _ => 0, first := f }
def C_lns : Ctr := { ro := [100], α := BkS, xs := λ a => [.bptr 100 0, .int a.k, .int a.st], L := λ a => bkL a.w, val := λ a => .d (eLns (CR (sB a) a.st)), keep := λ a => bkK (CF a.w a.k), pre := λ a => [GZ a.w.g a.w.b /\ 0 <= a.st /\ a.st <= 2000] }
def COJ (c : Sym.Spec) : List (FuncId × Sym.Spec) := [(AMY, C_inside.spec dBkI), (Vk, C_through.spec dGsK), (XU, C_passing.spec dGsL), (Fc, Ve), (BAD, C_ends.spec JM), (BOF, BUH), (AGR, c)]
noncomputable def CGI (a : BkS) : Ann := { ann 104 (COJ (C_cloN.spec dLs1)) with E := [100, 101], mt := λ id => id == 7 || id == 16 || id == 23, md := λ id => if id = 2 then some (λ k => if k = 5 then 3 else 0) else none, iter := λ g => if g = HX then some (BWE a) else none, loops := λ id => if id = 14 then some [ls14 a (eLns (EP (sB a)))] else if id = 20 then some [CPJ a] else none, cut := λ id => if id = 8 then some [ls8n a, ls8o a] else if id = 9 then some [ls9 a (eLns (EP (sB a)))] else none, cutIn := λ gs id => if id = 24 then some [BTO a (gs.getD 0 0) [(403, 24048)], BTO a (gs.getD 0 0) []] else none }
noncomputable def CCV (a : BkS) : Ann := { ann 104 (COJ (C_cloE.spec dNil)) with E := [100, 101], mt := λ id => id == 7 || id == 16 || id == 23, md := λ id => if id = 2 then some (λ k => if k = 5 then 3 else 0) else none, iter := λ g => if g = HX then some (BWE a) else none, loops := λ id => if id = 14 then some [ls14 a nilN] else if id = 20 then some [CWV a, CPJ a] else none, cut := λ id => if id = 8 then some [ls8n a, ls8o a] else if id = 9 then some [ls9 a nilN] else none, cutIn := λ gs id => if id = 24 then some [CVW a (gs.getD 0 0), BTO a (gs.getD 0 0) [(403, 24048)], BTO a (gs.getD 0 0) []] else none }
def CIC (a : BkS) : Prop := AN Try.prog (CGI a) uB (AF uB) (C_lns.xs a) (AC (C_lns.L a)) (C_lns.val a) (C_lns.keep a) [] [403]
abbrev Oa (a : BkS) : List Gau := AE a.w.g.length λ (i : Nat) => gD a.w.g i
abbrev Oo (a : BkS) : Nat := (Oa a).length
abbrev vJ (a : BkS) (i : Nat) : Gau := gD (Oa a) i
abbrev AKK (a : BkS) (i : Nat) : Int := (vJ a i).st
abbrev AZI (a : BkS) (i : Nat) : Int := (vJ a i).lo
abbrev AYQ (a : BkS) (i : Nat) : Int := (vJ a i).hi
abbrev Cg (a : BkS) : List Int := AE a.w.b.length λ (i : Nat) => gD a.w.b i
abbrev Ph (a : BkS) : Nat := (Cg a).length
abbrev AWA (a : BkS) (i : Nat) : Int := gD (Cg a) i
abbrev APF : Value := Value.slice none (0 : Nat) (0 : Nat)
abbrev BP : Prop := APF = APF
abbrev DW (a : BkS) : Prop := ∀ (n : Int), a.w.has n = a.w.has n
abbrev DU (a : BkS) : Prop := ∀ (n : Int), a.w.st n = a.w.st n
abbrev AAK (a : BkS) : Bk := Bk.mk (Oa a) (Cg a) a.w.has a.w.st
abbrev yL (a : BkS) (n : Int) : List Ln := AK (AAK a) n
abbrev Sy (a : BkS) (n : Int) : Nat := (yL a n).length
abbrev Af (a : BkS) (n : Int) (i : Nat) : Ln := gD (yL a n) i
abbrev G1 (a : BkS) (n : Int) (i : Nat) : Int := (Af a n i).a0
abbrev zA (a : BkS) (n : Int) (i : Nat) : Int := (Af a n i).a1
abbrev J3 (a : BkS) (n : Int) (i : Nat) : Int := (Af a n i).b0
abbrev D3 (a : BkS) (n : Int) (i : Nat) : Int := (Af a n i).b1
abbrev Y6 (i : Nat) (a : BkS) (n : Int) : Prop := i < (AK a.w n).length
abbrev NK (x : Gau) : Prop := (0 : Int) <= x.st /\ x.st <= (2000 : Int) /\ (0 : Int) <= x.lo /\ x.lo <= x.hi /\ x.hi <= (200000 : Int)
abbrev T4 (a : BkS) : Prop := (CF a.w a.k).g.length = a.w.g.length
abbrev zR (i : Nat) (a : BkS) : Prop := i < (CF a.w a.k).g.length
abbrev Se (a : BkS) (i : Nat) : Gau := gD (CF a.w a.k).g i
abbrev Tk (a : BkS) (i : Nat) : Int := (Se a i).st
abbrev Uj (a : BkS) (i : Nat) : Int := (Se a i).lo
abbrev Wy (a : BkS) (i : Nat) : Int := (Se a i).hi
abbrev K4 (a : BkS) : Prop := ∀ (i : Nat), zR i a -> Tk a i = (gD a.w.g i).st /\ Uj a i = (gD a.w.g i).lo /\ Wy a i = (gD a.w.g i).hi
abbrev W0 (a : BkS) : Prop := (CF a.w a.k).b.length = a.w.b.length
abbrev J0 (i : Nat) (a : BkS) : Prop := i < (CF a.w a.k).b.length
abbrev Wb (a : BkS) (i : Nat) : Int := gD (CF a.w a.k).b i
abbrev zL (a : BkS) : Prop := ∀ (i : Nat), J0 i a -> Wb a i = gD a.w.b i
abbrev Te (i : Nat) (a : BkS) (n : Int) : Prop := i < (AK (CF a.w a.k) n).length
abbrev ZK (a : BkS) (n : Int) (i : Nat) : Ln := gD (AK (CF a.w a.k) n) i
abbrev WP (a : BkS) (n : Int) (i : Nat) : Int := (ZK a n i).a0
abbrev ZE (a : BkS) (n : Int) (i : Nat) : Int := (ZK a n i).a1
abbrev YC (a : BkS) (n : Int) (i : Nat) : Int := (ZK a n i).b0
abbrev ZQ (a : BkS) (n : Int) (i : Nat) : Int := (ZK a n i).b1
abbrev C7 (a : BkS) : List Gau := KY (AAK a) a.k
abbrev Xg (a : BkS) : Nat := (C7 a).length
abbrev A4 (a : BkS) : Prop := (sB a).length = Xg a
abbrev YT (a : BkS) (i : Nat) : Gau := gD (C7 a) i
abbrev E3 (a : BkS) (i : Nat) : Int := (YT a i).st
abbrev yB (a : BkS) (i : Nat) : Int := (YT a i).lo
abbrev ADS (a : BkS) (i : Nat) : Int := (YT a i).hi
abbrev ACN (a : BkS) : Prop := ∀ (i : Nat), i < (sB a).length -> (gD (sB a) i).st = E3 a i /\ (gD (sB a) i).lo = yB a i /\ (gD (sB a) i).hi = ADS a i
abbrev V0 (a : BkS) : Prop := (CR (sB a) a.st).length = (0 : Nat)
abbrev OM (a : BkS) : Prop := (CF a.w a.k).g.length = (CF a.w a.k).g.length
abbrev LW (a : BkS) : Prop := ∀ (i : Nat), zR i a -> Tk a i = Tk a i /\ Uj a i = Uj a i /\ Wy a i = Wy a i
abbrev MS (a : BkS) : Prop := (CF a.w a.k).b.length = (CF a.w a.k).b.length
abbrev OK (a : BkS) : Prop := ∀ (i : Nat), J0 i a -> Wb a i = Wb a i
abbrev OB (a : BkS) : Prop := ∀ (n : Int), (CF a.w a.k).has n = (CF a.w a.k).has n
abbrev ME (a : BkS) : Prop := ∀ (n : Int), (CF a.w a.k).st n = (CF a.w a.k).st n
abbrev OD (a : BkS) : Prop := ∀ (n : Int), (AK (CF a.w a.k) n).length = (AK (CF a.w a.k) n).length /\ ∀ (i : Nat), Te i a n -> WP a n i = WP a n i /\ ZE a n i = ZE a n i /\
 YC a n i = YC a n i /\ ZQ a n i = ZQ a n i
abbrev R6 (a : BkS) : Prop := OM a /\ LW a /\ MS a /\ OK a /\ BP /\ OB a /\ ME a /\ OD a
abbrev ADY (a : BkS) : Prop := (0 : Int) <= a.st /\ a.st <= (2000 : Int)
abbrev HK (a : BkS) : List Gau := AE (sB a).length λ (i : Nat) => gD (sB a) i
abbrev XA (a : BkS) : Nat := (HK a).length
abbrev NG (a : BkS) : Prop := XA a = (sB a).length
abbrev Sc (a : BkS) (i : Nat) : Gau := gD (HK a) i
abbrev MW (a : BkS) : Prop := ∀ (i : Nat), i < XA a -> (Sc a i).st = (gD (sB a) i).st /\ (Sc a i).lo = (gD (sB a) i).lo /\ (Sc a i).hi = (gD (sB a) i).hi
abbrev CM : Prop := (0 : Nat) = (0 : Nat)
abbrev L9 (a : BkS) (a1 : Nat) : Prop := (JJ (sB a) a.st a1).length = (2 : Nat)
abbrev P9 (a : BkS) : List Pt := AA (HK a)
abbrev zZ (a : BkS) : Nat := (P9 a).length
abbrev ADC (a : BkS) (i : Nat) : Pt := gD (P9 a) i
abbrev AFC (a : Nat) : Prop := (↑a : Int) = (0 : Int)
abbrev CZ (a : BkS) : Prop := (sB a).length = (sB a).length
abbrev CY (a : BkS) : Prop := ∀ (i : Nat), i < (sB a).length -> (gD (sB a) i).st = (gD (sB a) i).st /\ (gD (sB a) i).lo = (gD (sB a) i).lo /\ (gD (sB a) i).hi = (gD (sB a) i).hi
abbrev Wd (a : BkS) : Prop := (EP (sB a)).length = (EP (sB a)).length
abbrev Xh (a : BkS) : Prop := ∀ (i : Nat), i < (EP (sB a)).length -> (gD (EP (sB a)) i).a0 = (gD (EP (sB a)) i).a0 /\ (gD (EP (sB a)) i).a1 = (gD (EP (sB a)) i).a1 /\ (gD (EP (sB a)) i).b0 = (gD (EP (sB a))
 i).b0 /\ (gD (EP (sB a)) i).b1 = (gD (EP (sB a)) i).b1
abbrev ADX : Prop := Int.ofNat (0 : Nat) = Int.ofNat (0 : Nat)
abbrev D7 : Prop := Int.ofNat (200000 : Nat) = Int.ofNat (200000 : Nat)
abbrev Qy (i : Nat) (a : BkS) (a1 : Nat) : Prop := i < (JJ (sB a) a.st a1).length
abbrev ZI (a : BkS) (a1 : Nat) (i : Nat) : Ln := gD (JJ (sB a) a.st a1) i
abbrev XO (a : BkS) (a1 : Nat) (i : Nat) : Int := (ZI a a1 i).a0
abbrev Ap (i : Nat) : Bool := decide (i = (0 : Nat))
abbrev Ax (a : BkS) (a1 : Nat) (i : Nat) : Int := (ZI a a1 i).a1
abbrev XX (a : BkS) (a1 : Nat) (i : Nat) : Int := (ZI a a1 i).b0
abbrev XF (a : BkS) (a1 : Nat) (i : Nat) : Int := (ZI a a1 i).b1
abbrev R1 (a : Nat) (a1 : BkS) : Prop := (↑a : Int) < (↑(AA (sB a1)).length : Int)
abbrev ABE (a : Nat) (a1 : BkS) : Bool := decide (R1 a a1)
abbrev D8 (a : Nat) (a1 : BkS) : Prop := (0 : Int) <= (↑a : Int) /\ R1 a a1
abbrev RC : Prop := (4 : Nat) = (4 : Nat)
abbrev zP : Prop := (0 : Nat) < (2 : Nat)
abbrev Wh (a : BkS) (a1 : Nat) : Nat := (JJ (sB a) a.st a1).length + (2 : Nat)
abbrev T5 (a : BkS) (a1 : Nat) (a2 : Nat) : Prop := (JJ (sB a) a.st a1).length = Wh a a2
abbrev AZ (a : BkS) : Prop := (AA (sB a)).length = (AA (sB a)).length
abbrev AX (a : BkS) : Prop := ∀ (i : Nat), i < (AA (sB a)).length -> (gD (AA (sB a)) i).st = (gD (AA (sB a)) i).st /\ (gD (AA (sB a)) i).fl = (gD (AA (sB a)) i).fl
abbrev CD (a : BkS) : Prop := (↑(AA (sB a)).length : Int) = (↑(AA (sB a)).length : Int)
abbrev ZX (i : Nat) (a : BkS) (a1 : Nat) : Bool := decide (Qy i a a1)
abbrev ZG (i : Nat) (a : BkS) (a1 : Nat) : Bool := decide ((0 : Nat) + (i - (JJ (sB a) a.st a1).length) = (0 : Nat))
abbrev MC (a : BkS) (a1 : Nat) : Nat := (AA (sB a)).length - a1
abbrev Q6 (a : BkS) (a1 : Nat) (a2 : Nat) : Prop := MC a a1 < MC a a2
abbrev AES (a : BkS) : List Ln := AE (EP (sB a)).length λ (i : Nat) => gD (EP (sB a)) i
abbrev RV (a : BkS) : Nat := (AES a).length
abbrev XP (a : BkS) (i : Nat) : Ln := gD (AES a) i
abbrev B6 (a : BkS) (i : Nat) : Int := (XP a i).a0
abbrev lY (a : BkS) (i : Nat) : Int := (XP a i).a1
abbrev aZ (a : BkS) (i : Nat) : Int := (XP a i).b0
abbrev cK (a : BkS) (i : Nat) : Int := (XP a i).b1
abbrev dX (a : LnK) (a1 : BkS) : Prop := a.l.length = RV a1
abbrev bY (a : BkS) (a1 : Nat) : Prop := (DC (sB a) a.st).length = (JJ (sB a) a.st a1).length
abbrev bK (i : Nat) (a : BkS) : Prop := i < (DC (sB a) a.st).length
abbrev Es (a : BkS) (i : Nat) : Int := (gD (DC (sB a) a.st) i).a0
abbrev Cr (a : BkS) (i : Nat) : Int := (gD (DC (sB a) a.st) i).a1
abbrev Fj (a : BkS) (i : Nat) : Int := (gD (DC (sB a) a.st) i).b0
abbrev Gj (a : BkS) (i : Nat) : Int := (gD (DC (sB a) a.st) i).b1
abbrev Hl (a : LnK) (a1 : BkS) : Prop := a.i <= (DC (sB a1) a1.st).length /\ a.l = EP (sB a1) ++ List.filter (Yw (sB a1)) (List.take a.i (DC (sB a1) a1.st))
abbrev gI (a : LnK) (a1 : BkS) : Prop := (↑a.i : Int) < (↑(DC (sB a1) a1.st).length : Int)
abbrev gZ (a : LnK) : Prop := (0 : Int) <= (↑a.i : Int)
abbrev bA (a : LnK) : Nat := (0 : Nat) + a.i
abbrev KI (a : BkS) (a1 : LnK) : Ln := gD (DC (sB a) a.st) (bA a1)
abbrev kI (a : BkS) (a1 : LnK) : Bool := SK (KI a a1)
abbrev NX (a : BkS) (a1 : LnK) : Int := (KI a a1).a0
abbrev MX (a : BkS) (a1 : LnK) : Int := (KI a a1).a1
abbrev OA (a : BkS) (a1 : LnK) : Int := (KI a a1).b0
abbrev MR (a : BkS) (a1 : LnK) : Int := (KI a a1).b1
abbrev ON (a : BkS) : Prop := XA a < (4611686018427387904 : Nat)
abbrev OR (g : Gau) (a : BkS) : Prop := List.Mem g (HK a)
abbrev Eo : Prop := (0 : Nat) < (1 : Nat)
abbrev Ft : Prop := (1 : Nat) <= (1 : Nat) /\ (Eo -> RC)
abbrev nS : Prop := false = true -> Eo
abbrev SJ (a : LnK) : Nat := a.l.length + (1 : Nat)
abbrev dF (a : LnK) : Prop := (a.l.length = a.l.length /\ ((0 : Nat) < a.l.length -> RC)) /\ Ft /\ nS /\ SJ a <= (9223372036854775807 : Nat) /\ SJ a * (32 : Nat) <= (140737488355328
 : Nat)
abbrev cG (a : LnK) (a1 : LnK) : Prop := a.l.length = SJ a1
abbrev OL (a : BkS) : Prop := (DC (sB a) a.st).length = (DC (sB a) a.st).length
abbrev Eh (a : BkS) : Prop := (↑(DC (sB a) a.st).length : Int) = (↑(DC (sB a) a.st).length : Int)
abbrev aN (a : LnK) (a1 : LnK) : Prop := (↑a.i : Int) = (↑a1.i : Int)
abbrev jM (a : BkS) : Prop := ∀ (i : Nat), bK i a -> Es a i = Es a i /\ Cr a i = Cr a i /\ Fj a i = Fj a i /\ Gj a i = Gj a i
abbrev GP (i : Nat) (a : LnK) : Bool := decide (i < a.l.length)
abbrev UC (a : BkS) (a1 : LnK) : Nat := (DC (sB a) a.st).length - a1.i
abbrev Fv (a : LnK) (a1 : BkS) (a2 : LnK) : Prop := a.i < (DC (sB a1) a1.st).length /\ UC a1 a = UC a1 a2 /\ a.l = EP (sB a1) ++ List.filter (Yw (sB a1)) (List.take (a.i + (1 : Nat)) (DC (sB a1)
 a1.st))
abbrev Hc (a : LnK) (a1 : LnK) : Prop := a.l.length = a1.l.length
abbrev nH (a : BkS) (a1 : LnK) (a2 : LnK) : Prop := OM a /\ LW a /\ MS a /\ OK a /\ BP /\ OB a /\ ME a /\ OD a /\ CZ a /\ CY a /\ OL a /\
 jM a /\ Hc a1 a2 /\ ∀ (i : Nat), i < a1.l.length -> (gD a1.l i).a0 = (gD a2.l i).a0 /\ (gD a1.l i).a1 = (gD a2.l i).a1 /\ (gD a1.l i).b0 = (gD a2.l i).b0 /\ (gD a1.l i).b1 = (gD a2.l i).b1
abbrev fP (a : BkS) (a1 : LnK) : Prop := ∀ (a_1 : LnK), Fv a_1 a a1 -> ∃ (a_3 : LnK), (CM /\ Hc a_3 a_1 /\ CM /\ OL a /\ Eh a /\ (↑a_3.i : Int) = IntKind.i64.wrap ((↑a_1.i
 : Int) + (1 : Int)) /\ nH a a_3 a_1) /\ Hl a_3 a /\ UC a a_3 < UC a a1
abbrev bC (a : LnK) : Prop := (0 : Nat) + a.l.length <= a.l.length
abbrev SR (a : LnK) (j : Nat) : Ln := gD a.l ((0 : Nat) + j)
abbrev jQ (a : LnK) (j : Nat) : Int := (SR a j).a0
abbrev bF (a : LnK) (j : Nat) : Int := (SR a j).a1
abbrev dQ (a : LnK) (j : Nat) : Int := (SR a j).b0
abbrev cQ (a : LnK) (j : Nat) : Int := (SR a j).b1
abbrev fB (a : BkS) : Prop := ∀ (a_1 : One), True -> bif bif decide ((↑(sB a).length : Int) > (0 : Int)) then (↑(EP (sB a)).length : Int) == (0 : Int) else false then V0 a /\ V0 a /\ R6 a else
 (ADY a /\ ADY a) /\ (NG a /\ MW a /\ XA a < (1073741824 : Nat) /\ True) /\ (∃ (a_3 : Nat), (CM /\ L9 a a_3 /\ (AA (sB a)).length = zZ a /\ (∀ (i : Nat), i < (AA (sB
 a)).length -> (gD (AA (sB a)) i).st = (ADC a i).st /\ (gD (AA (sB a)) i).fl = (ADC a i).fl) /\ (↑(AA (sB a)).length : Int) = (↑(zZ a) : Int) /\ AFC a_3 /\ OM a /\ LW a /\
 MS a /\ OK a /\ BP /\ OB a /\ ME a /\ OD a /\ CZ a /\ CY a /\ Wd a /\ Xh a /\ a.st = a.st /\ ADX /\ a.st = a.st /\ D7 /\ L9 a a_3 /\ ∀ (i : Nat),
 Qy i a a_3 -> (XO a a_3 i = bif Ap i then (AL (Pt.mk a.st (0 : Int))).a0 else (AL (Pt.mk a.st (200000 : Int))).a0) /\ (Ax a a_3 i = bif Ap i then (AL (Pt.mk a.st (0 : Int))).a1 else
 (AL (Pt.mk a.st (200000 : Int))).a1) /\ (XX a a_3 i = bif Ap i then (AL (Pt.mk a.st (0 : Int))).b0 else (AL (Pt.mk a.st (200000 : Int))).b0) /\ XF a a_3 i = bif Ap i then (AL (Pt.mk a.st
 (0 : Int))).b1 else (AL (Pt.mk a.st (200000 : Int))).b1) /\ a_3.le (AA (sB a)).length) /\ ∀ (a_3 : Nat), a_3.le (AA (sB a)).length -> bif ABE a_3 a then D8 a_3 a /\ (((JJ (sB a) a.st a_3).length = (JJ
 (sB a) a.st a_3).length /\ ((0 : Nat) < (JJ (sB a) a.st a_3).length -> RC)) /\ ((2 : Nat) <= (2 : Nat) /\ (zP -> RC)) /\ (false = true -> zP) /\ Wh a a_3 <= (9223372036854775807 : Nat) /\
 Wh a a_3 * (32 : Nat) <= (140737488355328 : Nat)) /\ ∃ (a_5 : Nat), (CM /\ T5 a a_5 a_3 /\ AZ a /\ AX a /\ CD a /\ (↑a_5 : Int) = IntKind.i64.wrap ((↑a_3 : Int) + (1 : Int)) /\ OM
 a /\ LW a /\ MS a /\ OK a /\ BP /\ OB a /\ ME a /\ OD a /\ CZ a /\ CY a /\ Wd a /\ Xh a /\ a.st = a.st /\ ADX /\ a.st = a.st /\ D7 /\ T5 a
 a_5 a_3 /\ ∀ (i : Nat), Qy i a a_5 -> (XO a a_5 i = bif ZX i a a_3 then XO a a_3 i else bif ZG i a a_3 then a.st else (gD (AA (sB a)) a_3).st) /\ (Ax a a_5 i = bif ZX i a
 a_3 then Ax a a_3 i else bif ZG i a a_3 then (0 : Int) else (gD (AA (sB a)) a_3).fl) /\ (XX a a_5 i = bif ZX i a a_3 then XX a a_3 i else bif ZG i a a_3 then (gD (AA (sB a))
 a_3).st else a.st) /\ XF a a_5 i = bif ZX i a a_3 then XF a a_3 i else bif ZG i a a_3 then (gD (AA (sB a)) a_3).fl else (200000 : Int)) /\ a_5.le (AA (sB a)).length /\ Q6 a a_5 a_3
 else (RV a = (EP (sB a)).length /\ (∀ (i : Nat), i < RV a -> B6 a i = (gD (EP (sB a)) i).a0 /\ lY a i = (gD (EP (sB a)) i).a1 /\ aZ a i = (gD (EP (sB a)) i).b0 /\ cK a i = (gD
 (EP (sB a)) i).b1) /\ (0 : Nat) < RV a /\ RV a < (1073741824 : Nat)) /\ (∃ (a_5 : LnK), (CM /\ dX a_5 a /\ CM /\ bY a a_3 /\ (↑(DC (sB a) a.st).length : Int) = (↑(JJ (sB a) a.st
 a_3).length : Int) /\ (↑a_5.i : Int) = (0 : Int) /\ OM a /\ LW a /\ MS a /\ OK a /\ BP /\ OB a /\ ME a /\ OD a /\ CZ a /\ CY a /\ bY a a_3 /\ (∀ (i : Nat),
 bK i a -> Es a i = XO a a_3 i /\ Cr a i = Ax a a_3 i /\ Fj a i = XX a a_3 i /\ Gj a i = XF a a_3 i) /\ dX a_5 a /\ ∀ (i : Nat), i < a_5.l.length -> (gD
 a_5.l i).a0 = B6 a i /\ (gD a_5.l i).a1 = lY a i /\ (gD a_5.l i).b0 = aZ a i /\ (gD a_5.l i).b1 = cK a i) /\ Hl a_5 a) /\ ∀ (a_5 : LnK), Hl a_5 a -> bif decide (gI a_5 a)
 then (((gZ a_5 /\ gI a_5 a) /\ (bA a_5).succ.le (DC (sB a) a.st).length) /\ (kI a a_5 = true -> NG a /\ MW a /\ NX a a_5 = NX a a_5 /\ MX a a_5 = MX
 a a_5 /\ OA a a_5 = OA a a_5 /\ MR a a_5 = MR a a_5 /\ ON a /\ ∀ (g : Gau), OR g a -> ((0 : Int) <= NX a a_5 /\ NX a a_5 < OA a a_5 /\ OA a a_5 <=
 (2000 : Int) /\ (0 : Int) <= MX a a_5 /\ MX a a_5 <= MR a a_5 /\ MR a a_5 <= (200000 : Int)) /\ NK g) /\ bif bif kI a a_5 then (HK a).all λ (g : Gau) => BJ (KI a
 a_5) g else false then dF a_5 /\ ∃ (a_7 : LnK), (CM /\ cG a_7 a_5 /\ CM /\ OL a /\ Eh a /\ aN a_7 a_5 /\ OM a /\ LW a /\ MS a /\ OK a /\ BP /\
 OB a /\ ME a /\ OD a /\ CZ a /\ CY a /\ OL a /\ jM a /\ cG a_7 a_5 /\ ∀ (i : Nat), i < a_7.l.length -> ((gD a_7.l i).a0 = bif GP i a_5 then (gD a_5.l i).a0 else
 NX a a_5) /\ ((gD a_7.l i).a1 = bif GP i a_5 then (gD a_5.l i).a1 else MX a a_5) /\ ((gD a_7.l i).b0 = bif GP i a_5 then (gD a_5.l i).b0 else OA a a_5) /\ (gD a_7.l i).b1 = bif
 GP i a_5 then (gD a_5.l i).b1 else MR a a_5) /\ Fv a_7 a a_5 else ∃ (a_7 : LnK), (CM /\ Hc a_7 a_5 /\ CM /\ OL a /\ Eh a /\ aN a_7 a_5 /\ nH a a_7
 a_5) /\ Fv a_7 a a_5) /\ fP a a_5 /\ fP a a_5 else (CR (sB a) a.st).length = a_5.l.length /\ bC a_5 /\ (∀ (j : Nat), j < (CR (sB a) a.st).length -> (gD (CR (sB a) a.st) j).a0 = jQ
 a_5 j /\ (gD (CR (sB a) a.st) j).a1 = bF a_5 j /\ (gD (CR (sB a) a.st) j).b0 = dQ a_5 j /\ (gD (CR (sB a) a.st) j).b1 = cQ a_5 j) /\ R6 a
abbrev gV (a : BkS) : List Gau := AE (Xg a) λ (i : Nat) => YT a i
abbrev UE (a : BkS) : Nat := (gV a).length
abbrev SG (a : BkS) (i : Nat) : Gau := gD (gV a) i
abbrev cJ (a : BkS) (i : Nat) : Int := (SG a i).st
abbrev lH (a : BkS) (i : Nat) : Int := (SG a i).lo
abbrev dA (a : BkS) (i : Nat) : Int := (SG a i).hi
abbrev Fq (a : BkS) : List Gau := AE (UE a) λ (i : Nat) => SG a i
abbrev Cm (a : BkS) : Nat := (Fq a).length
abbrev Hb (a : BkS) (i : Nat) : Gau := gD (Fq a) i
abbrev bG (a : BkS) : List Pt := AA (Fq a)
abbrev fI (a : BkS) : Nat := (bG a).length
abbrev mT (a : BkS) : Prop := (AA (sB a)).length = fI a
abbrev nR (a : BkS) (i : Nat) : Pt := gD (bG a) i
abbrev nB (a : BkS) : Prop := ∀ (i : Nat), i < (AA (sB a)).length -> (gD (AA (sB a)) i).st = (nR a i).st /\ (gD (AA (sB a)) i).fl = (nR a i).fl
abbrev EA (a : BkS) : Prop := a.w.g.length = a.w.g.length
abbrev EC (a : BkS) : Prop := ∀ (i : Nat), i < a.w.g.length -> (gD a.w.g i).st = (gD a.w.g i).st /\ (gD a.w.g i).lo = (gD a.w.g i).lo /\ (gD a.w.g i).hi = (gD a.w.g i).hi
abbrev EH (a : BkS) : Prop := a.w.b.length = a.w.b.length
abbrev EB (a : BkS) : Prop := ∀ (i : Nat), i < a.w.b.length -> gD a.w.b i = gD a.w.b i
abbrev ED (a : BkS) : Prop := ∀ (n : Int), (AK a.w n).length = (AK a.w n).length /\ ∀ (i : Nat), Y6 i a n -> (gD (AK a.w n) i).a0 = (gD (AK a.w n) i).a0 /\ (gD (AK a.w n) i).a1 = (gD (AK a.w n) i).a1 /\
 (gD (AK a.w n) i).b0 = (gD (AK a.w n) i).b0 /\ (gD (AK a.w n) i).b1 = (gD (AK a.w n) i).b1
abbrev jK : Prop := CM /\ ∀ (i : Nat), i < (0 : Nat) -> false = false
abbrev TK (a : Nat) (a1 : BkS) : Prop := a <= (AA (sB a1)).length /\ List.filter (JO (sB a1)) (PW (sB a1) a) = []
abbrev Dj : Prop := (True /\ ((0 : Nat) < (0 : Nat) -> (0 : Nat) = (4 : Nat))) /\ Ft /\ (true = true -> Eo) /\ (1 : Nat) <= (9223372036854775807 : Nat) /\ (32 : Nat) <= (140737488355328 : Nat)
abbrev Hk (a : LnJ) : Prop := (↑a.j : Int) = (0 : Int)
abbrev UD (a : LnJ) : Prop := a.l.length = (1 : Nat)
abbrev lV (a : LnJ) (a1 : BkS) : Prop := a.i < (AA (sB a1)).length
abbrev aV (a : LnJ) (a1 : BkS) : Prop := a.j <= (AA (sB a1)).length
abbrev dZ (a : BkS) (a1 : LnJ) : Nat := (AA (sB a)).length - a1.i
abbrev fQ (a : LnJ) (a1 : BkS) : Prop := a.l = List.filter (JO (sB a1)) (EZ (sB a1) a.i a.j)
abbrev TD (a : LnJ) (a1 : BkS) (a2 : Nat) : Prop := lV a a1 /\ aV a a1 /\ dZ a1 a = MC a1 a2 /\ fQ a a1
abbrev hU (a : IJ) (a1 : BkS) : Prop := a.i < (AA (sB a1)).length
abbrev mD (a : IJ) (a1 : BkS) : Prop := a.j <= (AA (sB a1)).length
abbrev jO (a : BkS) (a1 : IJ) : Nat := (AA (sB a)).length - a1.i
abbrev iX (a : BkS) (a1 : IJ) : Prop := List.filter (JO (sB a)) (EZ (sB a) a1.i a1.j) = []
abbrev Dh (a : IJ) (a1 : BkS) (a2 : Nat) : Prop := hU a a1 /\ mD a a1 /\ jO a1 a = MC a1 a2 /\ iX a1 a
abbrev jJ (a : IJ) (a1 : BkS) : Prop := (↑a.j : Int) < (↑(AA (sB a1)).length : Int)
abbrev jE (a : IJ) (a1 : BkS) : Bool := decide (jJ a a1)
abbrev kZ (a : IJ) (a1 : BkS) : Prop := (0 : Int) <= (↑a.j : Int) /\ jJ a a1
abbrev iQ (a : BkS) (a1 : IJ) : Ln := Ln.mk (gD (AA (sB a)) a1.i).st (gD (AA (sB a)) a1.i).fl (gD (AA (sB a)) a1.j).st (gD (AA (sB a)) a1.j).fl
abbrev jW (a : BkS) (a1 : IJ) : Bool := SK (iQ a a1)
abbrev bP (a : BkS) (a1 : IJ) : Bool := if true = true then jW a a1 else !jW a a1
abbrev Zy (a : BkS) (a1 : IJ) : Prop := NG a /\ MW a /\ (gD (AA (sB a)) a1.i).st = (gD (AA (sB a)) a1.i).st /\ (gD (AA (sB a)) a1.i).fl = (gD (AA (sB a)) a1.i).fl /\ (gD (AA (sB a))
 a1.j).st = (gD (AA (sB a)) a1.j).st /\ (gD (AA (sB a)) a1.j).fl = (gD (AA (sB a)) a1.j).fl /\ ON a /\ ∀ (g : Gau), OR g a -> ((0 : Int) <= (gD (AA (sB a)) a1.i).st /\ (gD (AA (sB a)) a1.i).st <
 (gD (AA (sB a)) a1.j).st /\ (gD (AA (sB a)) a1.j).st <= (2000 : Int) /\ (0 : Int) <= (gD (AA (sB a)) a1.i).fl /\ (gD (AA (sB a)) a1.i).fl <= (gD (AA (sB a)) a1.j).fl /\ (gD (AA (sB a)) a1.j).fl <= (200000 :
 Int)) /\ NK g
abbrev cO (a : BkS) (a1 : IJ) : Bool := (HK a).all λ (g : Gau) => BJ (iQ a a1) g
abbrev nE (a : IJ) : Int := IntKind.i64.wrap ((↑a.j : Int) + (1 : Int))
abbrev gA (a : BkS) (a1 : LnJ) (a2 : IJ) (l : Nat) : Prop := AZ a /\ AX a /\ CD a /\ (↑a1.j : Int) = nE a2 /\ Fn.yield l = Fn.yield l /\ AZ a /\ AX a /\ AZ a /\ AX
 a /\ CD a /\ (↑a1.i : Int) = (↑a2.i : Int) /\ (gD (AA (sB a)) a1.i).st = (gD (AA (sB a)) a2.i).st /\ (gD (AA (sB a)) a1.i).fl = (gD (AA (sB a)) a2.i).fl /\ EA a /\ EC a /\ EH a /\
 EB a /\ BP /\ DW a /\ DU a /\ ED a /\ CZ a /\ CY a /\ CM /\ UD a1 /\ UD a1 /\ ∀ (i : Nat), i < a1.l.length -> (gD a1.l i).a0 = (gD (AA (sB a)) a2.i).st /\
 (gD a1.l i).a1 = (gD (AA (sB a)) a2.i).fl /\ (gD a1.l i).b0 = (gD (AA (sB a)) a2.j).st /\ (gD a1.l i).b1 = (gD (AA (sB a)) a2.j).fl
abbrev Ek (a : BkS) (a1 : LnJ) : Nat := (AA (sB a)).length - a1.j
abbrev Gf (a : BkS) (a1 : IJ) : Nat := (AA (sB a)).length - a1.j
abbrev dG (a : BkS) (a1 : LnJ) (a2 : IJ) : Prop := Ek a a1 < Gf a a2
abbrev Fb (a : BkS) : Prop := EA a /\ EC a /\ EH a /\ EB a /\ BP /\ DW a /\ DU a /\ ED a /\ CZ a /\ CY a /\ jK
abbrev gY (a : BkS) (a1 : IJ) (a2 : IJ) (l : Nat) : Prop := AZ a /\ AX a /\ CD a /\ (↑a1.j : Int) = nE a2 /\ Fn.yield l = Fn.yield l /\ AZ a /\ AX a /\ AZ a /\ AX
 a /\ CD a /\ (↑a1.i : Int) = (↑a2.i : Int) /\ (gD (AA (sB a)) a1.i).st = (gD (AA (sB a)) a2.i).st /\ (gD (AA (sB a)) a1.i).fl = (gD (AA (sB a)) a2.i).fl /\ Fb a
abbrev kD (a : BkS) (a1 : IJ) (a2 : IJ) : Prop := Gf a a1 < Gf a a2
abbrev fC (a : BkS) (a1 : IJ) (l : Nat) (a2 : Nat) : Prop := ∃ (a_1 : IJ), gY a a_1 a1 l /\ Dh a_1 a a2 /\ kD a a_1 a1
abbrev kS (l : Nat) (a : BkS) (a1 : Nat) (a2 : IJ) : Prop := Fn.yield l = Fn.yield l /\ AZ a /\ AX a /\ AZ a /\ AX a /\ CD a /\ (↑a1 : Int) = IntKind.i64.wrap ((↑a2.i : Int) + (1 :
 Int)) /\ Fb a
abbrev bB (a : LnJ) (a1 : BkS) : Prop := (↑a.j : Int) < (↑(AA (sB a1)).length : Int)
abbrev aT (a : LnJ) (a1 : BkS) : Bool := decide (bB a a1)
abbrev cT (a : LnJ) (a1 : BkS) : Prop := (0 : Int) <= (↑a.j : Int) /\ bB a a1
abbrev kY (a : BkS) (a1 : LnJ) : Ln := Ln.mk (gD (AA (sB a)) a1.i).st (gD (AA (sB a)) a1.i).fl (gD (AA (sB a)) a1.j).st (gD (AA (sB a)) a1.j).fl
abbrev lX (a : BkS) (a1 : LnJ) : Bool := SK (kY a a1)
abbrev iT (a : BkS) (a1 : LnJ) : Bool := if true = true then lX a a1 else !lX a a1
abbrev jS (a : BkS) (a1 : LnJ) : Prop := NG a /\ MW a /\ (gD (AA (sB a)) a1.i).st = (gD (AA (sB a)) a1.i).st /\ (gD (AA (sB a)) a1.i).fl = (gD (AA (sB a)) a1.i).fl /\ (gD (AA (sB a))
 a1.j).st = (gD (AA (sB a)) a1.j).st /\ (gD (AA (sB a)) a1.j).fl = (gD (AA (sB a)) a1.j).fl /\ ON a /\ ∀ (g : Gau), OR g a -> ((0 : Int) <= (gD (AA (sB a)) a1.i).st /\ (gD (AA (sB a)) a1.i).st <
 (gD (AA (sB a)) a1.j).st /\ (gD (AA (sB a)) a1.j).st <= (2000 : Int) /\ (0 : Int) <= (gD (AA (sB a)) a1.i).fl /\ (gD (AA (sB a)) a1.i).fl <= (gD (AA (sB a)) a1.j).fl /\ (gD (AA (sB a)) a1.j).fl <= (200000 :
 Int)) /\ NK g
abbrev Zx (a : BkS) (a1 : LnJ) : Bool := (HK a).all λ (g : Gau) => BJ (kY a a1) g
abbrev Ea (a : LnJ) : Nat := a.l.length + (1 : Nat)
abbrev gG (a : LnJ) : Prop := (a.l.length = a.l.length /\ ((0 : Nat) < a.l.length -> RC)) /\ Ft /\ nS /\ Ea a <= (9223372036854775807 : Nat) /\ Ea a * (32 : Nat) <= (140737488355328
 : Nat)
abbrev kX (a : LnJ) (a1 : LnJ) : Prop := (↑a.j : Int) = IntKind.i64.wrap ((↑a1.j : Int) + (1 : Int))
abbrev Zp (a : LnJ) (a1 : LnJ) : Prop := (↑a.i : Int) = (↑a1.i : Int)
abbrev kE (a : BkS) (a1 : LnJ) (a2 : LnJ) : Prop := (gD (AA (sB a)) a1.i).st = (gD (AA (sB a)) a2.i).st
abbrev jT (a : BkS) (a1 : LnJ) (a2 : LnJ) : Prop := (gD (AA (sB a)) a1.i).fl = (gD (AA (sB a)) a2.i).fl
abbrev eO (a : LnJ) (a1 : LnJ) : Prop := a.l.length = Ea a1
abbrev SF (i : Nat) (a : LnJ) : Bool := decide (i < a.l.length)
abbrev nY (a : BkS) (a1 : LnJ) (a2 : LnJ) (l : Nat) : Prop := AZ a /\ AX a /\ CD a /\ kX a1 a2 /\ Fn.yield l = Fn.yield l /\ AZ a /\ AX a /\ AZ a /\ AX a /\
 CD a /\ Zp a1 a2 /\ kE a a1 a2 /\ jT a a1 a2 /\ EA a /\ EC a /\ EH a /\ EB a /\ BP /\ DW a /\ DU a /\ ED a /\ CZ a /\ CY a /\
 CM /\ eO a1 a2 /\ eO a1 a2 /\ ∀ (i : Nat), i < a1.l.length -> ((gD a1.l i).a0 = bif SF i a2 then (gD a2.l i).a0 else (gD (AA (sB a)) a2.i).st) /\ ((gD a1.l i).a1 = bif SF i a2 then
 (gD a2.l i).a1 else (gD (AA (sB a)) a2.i).fl) /\ ((gD a1.l i).b0 = bif SF i a2 then (gD a2.l i).b0 else (gD (AA (sB a)) a2.j).st) /\ (gD a1.l i).b1 = bif SF i a2 then (gD a2.l i).b1 else (gD (AA
 (sB a)) a2.j).fl
abbrev eA (a : BkS) (a1 : LnJ) (a2 : LnJ) : Prop := Ek a a1 < Ek a a2
abbrev eR (a : LnJ) (a1 : BkS) (a2 : Nat) (a3 : LnJ) : Prop := TD a a1 a2 /\ eA a1 a a3
abbrev Zq (a : LnJ) (a1 : LnJ) : Prop := a.l.length = a1.l.length
abbrev iP (a : BkS) (a1 : LnJ) (a2 : LnJ) (l : Nat) : Prop := AZ a /\ AX a /\ CD a /\ kX a1 a2 /\ Fn.yield l = Fn.yield l /\ AZ a /\ AX a /\ AZ a /\ AX a /\
 CD a /\ Zp a1 a2 /\ kE a a1 a2 /\ jT a a1 a2 /\ EA a /\ EC a /\ EH a /\ EB a /\ BP /\ DW a /\ DU a /\ ED a /\ CZ a /\ CY a /\
 CM /\ Zq a1 a2 /\ Zq a1 a2 /\ ∀ (i : Nat), i < a1.l.length -> (gD a1.l i).a0 = (gD a2.l i).a0 /\ (gD a1.l i).a1 = (gD a2.l i).a1 /\ (gD a1.l i).b0 = (gD a2.l i).b0 /\ (gD a1.l i).b1 = (gD a2.l i).b1
abbrev iS (a : BkS) (a1 : LnJ) (l : Nat) (a2 : Nat) : Prop := ∃ (a_1 : LnJ), iP a a_1 a1 l /\ eR a_1 a a2 a1
abbrev kA (a : LnK) (a1 : LnJ) : Prop := a.l.length = a1.l.length
abbrev jD (l : Nat) (a : BkS) (a1 : LnK) (a2 : LnJ) : Prop := Fn.yield l = Fn.yield l /\ AZ a /\ AX a /\ AZ a /\ AX a /\ CD a /\ (↑a1.i : Int) = IntKind.i64.wrap ((↑a2.i : Int) + (1 :
 Int)) /\ EA a /\ EC a /\ EH a /\ EB a /\ BP /\ DW a /\ DU a /\ ED a /\ CZ a /\ CY a /\ CM /\ kA a1 a2 /\ kA a1 a2 /\ ∀ (i : Nat), i <
 a1.l.length -> (gD a1.l i).a0 = (gD a2.l i).a0 /\ (gD a1.l i).a1 = (gD a2.l i).a1 /\ (gD a1.l i).b0 = (gD a2.l i).b0 /\ (gD a1.l i).b1 = (gD a2.l i).b1
abbrev He (a : LnK) (a1 : BkS) : Prop := a.i <= (AA (sB a1)).length /\ a.l = List.filter (JO (sB a1)) (PW (sB a1) a.i)
abbrev JZ (a : BkS) (a1 : LnK) : Nat := (AA (sB a)).length - a1.i
abbrev dS (a : BkS) (a1 : Nat) (l : Nat) : Prop := ∀ (a_1 : LnJ), TD a_1 a a1 -> bif aT a_1 a then cT a_1 a /\ bif iT a a_1 then l = l /\ jS a a_1 /\ bif Zx a a_1 then
 gG a_1 /\ ∃ (a_3 : LnJ), nY a a_3 a_1 l /\ eR a_3 a a1 a_1 else iS a a_1 l a1 else iS a a_1 l a1 else ∃ (a_3 : LnK), jD l a a_3 a_1 /\ He a_3 a /\ JZ a a_3 <
 MC a a1
abbrev iH (a : BkS) (a1 : Nat) (l : Nat) : Prop := (∀ (a_1 : IJ), Dh a_1 a a1 -> bif jE a_1 a then kZ a_1 a /\ bif bP a a_1 then l = l /\ Zy a a_1 /\ bif cO a a_1 then
 Dj /\ ∃ (a_3 : LnJ), gA a a_3 a_1 l /\ TD a_3 a a1 /\ dG a a_3 a_1 else fC a a_1 l a1 else fC a a_1 l a1 else ∃ (a_3 : Nat), kS l a a_3 a_1 /\ TK a_3 a /\
 Q6 a a_3 a1) /\ dS a a1 l /\ dS a a1 l
abbrev Zi (a : BkS) : Prop := (EP (sB a)).length = (0 : Nat)
abbrev dN (a : LnK) (a1 : BkS) : Prop := (↑a.i : Int) < (↑(AA (sB a1)).length : Int)
abbrev NU (a : BkS) (a1 : LnK) : Int := (AL (gD (AA (sB a)) a1.i)).a0
abbrev OQ (a : BkS) (a1 : LnK) : Int := (AL (gD (AA (sB a)) a1.i)).a1
abbrev NM (a : BkS) (a1 : LnK) : Int := (AL (gD (AA (sB a)) a1.i)).b0
abbrev OP (a : BkS) (a1 : LnK) : Int := (AL (gD (AA (sB a)) a1.i)).b1
abbrev iZ (a : LnJ) (a1 : LnK) : Prop := (↑a.i : Int) = (↑a1.i : Int)
abbrev nF (a : BkS) (a1 : LnJ) (a2 : LnK) : Prop := (gD (AA (sB a)) a1.i).st = (gD (AA (sB a)) a2.i).st
abbrev dM (a : BkS) (a1 : LnJ) (a2 : LnK) : Prop := (gD (AA (sB a)) a1.i).fl = (gD (AA (sB a)) a2.i).fl
abbrev eG (a : LnJ) (a1 : LnK) : Prop := a.l.length = SJ a1
abbrev OE (a : LnJ) (a1 : BkS) (a2 : LnK) : Prop := lV a a1 /\ aV a a1 /\ dZ a1 a = JZ a1 a2 /\ fQ a a1
abbrev eN (a : IJ) (a1 : BkS) (a2 : LnK) : Prop := hU a a1 /\ mD a a1 /\ jO a1 a = JZ a1 a2 /\ iX a1 a
abbrev aF (a : BkS) (a1 : IJ) (l : Nat) (a2 : LnK) : Prop := ∃ (a_1 : IJ), gY a a_1 a1 l /\ eN a_1 a a2 /\ kD a a_1 a1
abbrev lN (a : LnJ) (a1 : BkS) (a2 : LnK) (a3 : LnJ) : Prop := OE a a1 a2 /\ eA a1 a a3
abbrev dY (a : BkS) (a1 : LnJ) (l : Nat) (a2 : LnK) : Prop := ∃ (a_1 : LnJ), iP a a_1 a1 l /\ lN a_1 a a2 a1
abbrev Zw (a : BkS) (a1 : LnK) (l : Nat) : Prop := ∀ (a_1 : LnJ), OE a_1 a a1 -> bif aT a_1 a then cT a_1 a /\ bif iT a a_1 then l = l /\ jS a a_1 /\ bif Zx a a_1 then
 gG a_1 /\ ∃ (a_3 : LnJ), nY a a_3 a_1 l /\ lN a_3 a a1 a_1 else dY a a_1 l a1 else dY a a_1 l a1 else ∃ (a_3 : LnK), jD l a a_3 a_1 /\ He a_3 a /\ JZ a a_3 <
 JZ a a1
abbrev bM (a : BkS) (a1 : LnK) (l : Nat) : Prop := (∀ (a_1 : IJ), eN a_1 a a1 -> bif jE a_1 a then kZ a_1 a /\ bif bP a a_1 then l = l /\ Zy a a_1 /\ bif cO a a_1 then
 Dj /\ ∃ (a_3 : LnJ), gA a a_3 a_1 l /\ OE a_3 a a1 /\ dG a a_3 a_1 else aF a a_1 l a1 else aF a a_1 l a1 else ∃ (a_3 : Nat), kS l a a_3 a_1 /\ TK a_3 a /\
 MC a a_3 < JZ a a1) /\ Zw a a1 l /\ Zw a a1 l
abbrev jN (a : LnJ) (a1 : LnK) : Prop := a.l.length = a1.l.length
abbrev MA (n : Int) (a : BkS) : Bool := decide (n = a.k)
abbrev nU (a : BkS) : Prop := ∀ (a_1 : One), True -> ∃ (a_3 : One), (a.st = a.st /\ T4 a /\ K4 a /\ W0 a /\ zL a /\ BP /\ (∀ (n : Int), (CF a.w a.k).has n = GN a.w.has a.k n) /\ (∀
 (n : Int), (CF a.w a.k).st n = Qj a.w.has a.w.st a.k n) /\ (∀ (n : Int), ((AK (CF a.w a.k) n).length = bif MA n a then (EP (sB a)).length else (AK a.w n).length) /\ ∀ (i : Nat), Te i a n -> (WP
 a n i = bif MA n a then (gD (EP (sB a)) i).a0 else (gD (AK a.w n) i).a0) /\ (ZE a n i = bif MA n a then (gD (EP (sB a)) i).a1 else (gD (AK a.w n) i).a1) /\ (YC a n i = bif MA n a
 then (gD (EP (sB a)) i).b0 else (gD (AK a.w n) i).b0) /\ ZQ a n i = bif MA n a then (gD (EP (sB a)) i).b1 else (gD (AK a.w n) i).b1) /\ CZ a /\ CY a /\ Wd a /\ Xh a) /\ True
theorem CME (a : BkS) : (CIC a) = ((a.k = a.k /\ Oo a = a.w.g.length /\ (∀ (i : Nat), i < Oo a -> AKK a i = (gD a.w.g i).st /\ AZI a i = (gD a.w.g i).lo /\ AYQ a i = (gD a.w.g i).hi) /\
 Ph a = a.w.b.length /\ (∀ (i : Nat), i < Ph a -> AWA a i = gD a.w.b i) /\ BP /\ DW a /\ DU a /\ (∀ (n : Int), Sy a n = (AK a.w n).length /\ ∀ (i : Nat), i < Sy a n ->
 G1 a n i = (gD (AK a.w n) i).a0 /\ zA a n i = (gD (AK a.w n) i).a1 /\ J3 a n i = (gD (AK a.w n) i).b0 /\ D3 a n i = (gD (AK a.w n) i).b1) /\ a.w.g.length = Oo a /\ (∀ (i : Nat), i <
 a.w.g.length -> (gD a.w.g i).st = AKK a i /\ (gD a.w.g i).lo = AZI a i /\ (gD a.w.g i).hi = AYQ a i) /\ a.w.b.length = Ph a /\ (∀ (i : Nat), i < a.w.b.length -> gD a.w.b i = AWA a i) /\ BP /\
 DW a /\ DU a /\ (∀ (n : Int), (AK a.w n).length = Sy a n /\ ∀ (i : Nat), Y6 i a n -> (gD (AK a.w n) i).a0 = G1 a n i /\ (gD (AK a.w n) i).a1 = zA a n i /\ (gD (AK a.w n) i).b0 =
 J3 a n i /\ (gD (AK a.w n) i).b1 = D3 a n i) /\ (Oo a <= (24 : Nat) /\ (∀ (x : Gau), List.Mem x (Oa a) -> NK x) /\ Ph a <= (24 : Nat) /\ List.Pairwise (λ (x1 x2 : Int) => x1 < x2)
 (Cg a) /\ ∀ (x : Int), List.Mem x (Cg a) -> (1 : Int) <= x /\ x <= (2000 : Int)) /\ True) /\ BP /\ bif a.w.has a.k then (∃ (a_1 : One), (a.st = a.st /\ T4 a /\ K4 a /\ W0 a /\ zL a /\
 BP /\ (∀ (n : Int), (CF a.w a.k).has n = a.w.has n) /\ (∀ (n : Int), (CF a.w a.k).st n = a.w.st n) /\ (∀ (n : Int), (AK (CF a.w a.k) n).length = (AK a.w n).length /\ ∀ (i : Nat), Te i a n -> WP a n i
 = (gD (AK a.w n) i).a0 /\ ZE a n i = (gD (AK a.w n) i).a1 /\ YC a n i = (gD (AK a.w n) i).b0 /\ ZQ a n i = (gD (AK a.w n) i).b1) /\ A4 a /\ ACN a /\ (EP (sB a)).length = (AK a.w
 a.k).length /\ ∀ (i : Nat), i < (EP (sB a)).length -> (gD (EP (sB a)) i).a0 = (gD (AK a.w a.k) i).a0 /\ (gD (EP (sB a)) i).a1 = (gD (AK a.w a.k) i).a1 /\ (gD (EP (sB a)) i).b0 = (gD (AK a.w a.k) i).b0 /\ (gD (EP (sB
 a)) i).b1 = (gD (AK a.w a.k) i).b1) /\ True) /\ fB a else (((UE a = Xg a /\ ∀ (i : Nat), i < UE a -> cJ a i = E3 a i /\ lH a i = yB a i /\ dA a i =
 ADS a i) /\ ∀ (l : Nat), (Cm a = UE a /\ (∀ (i : Nat), i < Cm a -> (Hb a i).st = cJ a i /\ (Hb a i).lo = lH a i /\ (Hb a i).hi = dA a i) /\
 Cm a < (1073741824 : Nat) /\ True) /\ (∃ (a_1 : Nat), (Fn.yield l = Fn.yield l /\ mT a /\ nB a /\ mT a /\ nB a /\ (↑(AA (sB a)).length : Int) = (↑(fI a) : Int) /\ AFC a_1
 /\ EA a /\ EC a /\ EH a /\ EB a /\ BP /\ DW a /\ DU a /\ ED a /\ A4 a /\ ACN a /\ jK) /\ TK a_1 a) /\ (∀ (a_1 : Nat), TK a_1 a -> bif
 ABE a_1 a then D8 a_1 a /\ ((0 : Int) <= (gD (AA (sB a)) a_1).st /\ (gD (AA (sB a)) a_1).st <= (2000 : Int)) /\ l = l /\ (NG a /\ MW a /\ (AL (gD (AA (sB a)) a_1)).a0 = (AL (gD (AA (sB
 a)) a_1)).a0 /\ (AL (gD (AA (sB a)) a_1)).a1 = (AL (gD (AA (sB a)) a_1)).a1 /\ (AL (gD (AA (sB a)) a_1)).b0 = (AL (gD (AA (sB a)) a_1)).b0 /\ (AL (gD (AA (sB a)) a_1)).b1 = (AL (gD (AA (sB a))
 a_1)).b1 /\ ON a /\ ∀ (g : Gau), OR g a -> ((0 : Int) <= (AL (gD (AA (sB a)) a_1)).a0 /\ (AL (gD (AA (sB a)) a_1)).a0 < (AL (gD (AA (sB a)) a_1)).b0 /\ (AL (gD (AA (sB a)) a_1)).b0 <= (2000 :
 Int) /\ (0 : Int) <= (AL (gD (AA (sB a)) a_1)).a1 /\ (AL (gD (AA (sB a)) a_1)).a1 <= (AL (gD (AA (sB a)) a_1)).b1 /\ (AL (gD (AA (sB a)) a_1)).b1 <= (200000 : Int)) /\ NK g) /\ bif (HK a).all
 λ (g : Gau) => BJ (AL (gD (AA (sB a)) a_1)) g then Dj /\ (∃ (a_3 : LnJ), (AZ a /\ AX a /\ CD a /\ Hk a_3 /\ Fn.yield l = Fn.yield l /\ AZ a /\ AX a /\ AZ a /\
 AX a /\ CD a /\ (↑a_3.i : Int) = (↑a_1 : Int) /\ (gD (AA (sB a)) a_3.i).st = (gD (AA (sB a)) a_1).st /\ (gD (AA (sB a)) a_3.i).fl = (gD (AA (sB a)) a_1).fl /\ EA a /\ EC a /\ EH
 a /\ EB a /\ BP /\ DW a /\ DU a /\ ED a /\ CZ a /\ CY a /\ CM /\ UD a_3 /\ UD a_3 /\ ∀ (i : Nat), i < a_3.l.length -> (gD a_3.l i).a0 = (AL (gD (AA (sB
 a)) a_1)).a0 /\ (gD a_3.l i).a1 = (AL (gD (AA (sB a)) a_1)).a1 /\ (gD a_3.l i).b0 = (AL (gD (AA (sB a)) a_1)).b0 /\ (gD a_3.l i).b1 = (AL (gD (AA (sB a)) a_1)).b1) /\ TD a_3 a a_1) /\ iH a a_1 l
 else (∃ (a_3 : IJ), (AZ a /\ AX a /\ CD a /\ (↑a_3.j : Int) = (0 : Int) /\ Fn.yield l = Fn.yield l /\ AZ a /\ AX a /\ AZ a /\ AX a /\ CD a /\ (↑a_3.i : Int) = (↑a_1 : Int) /\
 (gD (AA (sB a)) a_3.i).st = (gD (AA (sB a)) a_1).st /\ (gD (AA (sB a)) a_3.i).fl = (gD (AA (sB a)) a_1).fl /\ Fb a) /\ Dh a_3 a a_1) /\ iH a a_1 l else ∃ (a_3 : One), (a.k = a.k /\ a.st =
 a.st /\ EA a /\ EC a /\ EH a /\ EB a /\ BP /\ DW a /\ DU a /\ ED a /\ CZ a /\ CY a /\ Zi a /\ Zi a) /\ True) /\ ∀ (a_1 : LnK), He a_1 a
 -> bif decide (dN a_1 a) then (gZ a_1 /\ dN a_1 a) /\ ((0 : Int) <= (gD (AA (sB a)) a_1.i).st /\ (gD (AA (sB a)) a_1.i).st <= (2000 : Int)) /\ l = l /\ (NG a /\ MW a /\ NU a a_1
 = NU a a_1 /\ OQ a a_1 = OQ a a_1 /\ NM a a_1 = NM a a_1 /\ OP a a_1 = OP a a_1 /\ ON a /\ ∀ (g : Gau), OR g a -> ((0 : Int) <= NU a a_1 /\
 NU a a_1 < NM a a_1 /\ NM a a_1 <= (2000 : Int) /\ (0 : Int) <= OQ a a_1 /\ OQ a a_1 <= OP a a_1 /\ OP a a_1 <= (200000 : Int)) /\ NK g) /\ bif (HK a).all fun
 (g : Gau) => BJ (AL (gD (AA (sB a)) a_1.i)) g then dF a_1 /\ (∃ (a_3 : LnJ), (AZ a /\ AX a /\ CD a /\ Hk a_3 /\ Fn.yield l = Fn.yield l /\ AZ a /\ AX a /\ AZ a /\
 AX a /\ CD a /\ iZ a_3 a_1 /\ nF a a_3 a_1 /\ dM a a_3 a_1 /\ EA a /\ EC a /\ EH a /\ EB a /\ BP /\ DW a /\ DU a /\ ED a /\ CZ
 a /\ CY a /\ CM /\ eG a_3 a_1 /\ eG a_3 a_1 /\ ∀ (i : Nat), i < a_3.l.length -> ((gD a_3.l i).a0 = bif GP i a_1 then (gD a_1.l i).a0 else NU a a_1) /\ ((gD a_3.l i).a1 = bif
 GP i a_1 then (gD a_1.l i).a1 else OQ a a_1) /\ ((gD a_3.l i).b0 = bif GP i a_1 then (gD a_1.l i).b0 else NM a a_1) /\ (gD a_3.l i).b1 = bif GP i a_1 then (gD a_1.l i).b1 else
 OP a a_1) /\ OE a_3 a a_1) /\ bM a a_1 l else (∃ (a_3 : LnJ), (AZ a /\ AX a /\ CD a /\ Hk a_3 /\ Fn.yield l = Fn.yield l /\ AZ a /\ AX a /\ AZ a /\
 AX a /\ CD a /\ iZ a_3 a_1 /\ nF a a_3 a_1 /\ dM a a_3 a_1 /\ EA a /\ EC a /\ EH a /\ EB a /\ BP /\ DW a /\ DU a /\ ED a /\ CZ
 a /\ CY a /\ CM /\ jN a_3 a_1 /\ jN a_3 a_1 /\ ∀ (i : Nat), i < a_3.l.length -> (gD a_3.l i).a0 = (gD a_1.l i).a0 /\ (gD a_3.l i).a1 = (gD a_1.l i).a1 /\ (gD a_3.l i).b0 = (gD a_1.l i).b0 /\ (gD
 a_3.l i).b1 = (gD a_1.l i).b1) /\ OE a_3 a a_1) /\ bM a a_1 l else ∃ (a_3 : One), (a.k = a.k /\ a.st = a.st /\ EA a /\ EC a /\ EH a /\ EB a /\ BP /\ DW a /\ DU a
 /\ ED a /\ CZ a /\ CY a /\ (EP (sB a)).length = a_1.l.length /\ bC a_1 /\ ∀ (j : Nat), j < (EP (sB a)).length -> (gD (EP (sB a)) j).a0 = jQ a_1 j /\ (gD (EP (sB a)) j).a1 = bF
 a_1 j /\ (gD (EP (sB a)) j).b0 = dQ a_1 j /\ (gD (EP (sB a)) j).b1 = cQ a_1 j) /\ True) /\ nU a /\ nU a) /\ fB a) := by kernel_rfl
def CBN (a : BkS) : Prop := AN Try.prog (CCV a) uB (AF uB) (C_lns.xs a) (AC (C_lns.L a)) (C_lns.val a) (C_lns.keep a) [] [403]
abbrev Nz (a : BkS) : List Gau := AE a.w.g.length λ (i : Nat) => gD a.w.g i
abbrev Ns (a : BkS) : Nat := (Nz a).length
abbrev vU (a : BkS) (i : Nat) : Gau := gD (Nz a) i
abbrev BAO (a : BkS) (i : Nat) : Int := (vU a i).st
abbrev APE (a : BkS) (i : Nat) : Int := (vU a i).lo
abbrev AYK (a : BkS) (i : Nat) : Int := (vU a i).hi
abbrev YG (a : BkS) : List Int := AE a.w.b.length λ (i : Nat) => gD a.w.b i
abbrev Pa (a : BkS) : Nat := (YG a).length
abbrev AUU (a : BkS) (i : Nat) : Int := gD (YG a) i
abbrev ANW : Value := Value.slice none (0 : Nat) (0 : Nat)
abbrev BI : Prop := ANW = ANW
abbrev DV (a : BkS) : Prop := ∀ (n : Int), a.w.has n = a.w.has n
abbrev DZ (a : BkS) : Prop := ∀ (n : Int), a.w.st n = a.w.st n
abbrev X7 (a : BkS) : Bk := Bk.mk (Nz a) (YG a) a.w.has a.w.st
abbrev AEI (a : BkS) (n : Int) : List Ln := AK (X7 a) n
abbrev Vt (a : BkS) (n : Int) : Nat := (AEI a n).length
abbrev ZL (a : BkS) (n : Int) (i : Nat) : Ln := gD (AEI a n) i
abbrev ABW (a : BkS) (n : Int) (i : Nat) : Int := (ZL a n i).a0
abbrev O8 (a : BkS) (n : Int) (i : Nat) : Int := (ZL a n i).a1
abbrev ACU (a : BkS) (n : Int) (i : Nat) : Int := (ZL a n i).b0
abbrev F4 (a : BkS) (n : Int) (i : Nat) : Int := (ZL a n i).b1
abbrev K1 (i : Nat) (a : BkS) (n : Int) : Prop := i < (AK a.w n).length
abbrev KS (x : Gau) : Prop := (0 : Int) <= x.st /\ x.st <= (2000 : Int) /\ (0 : Int) <= x.lo /\ x.lo <= x.hi /\ x.hi <= (200000 : Int)
abbrev V1 (a : BkS) : Prop := (CF a.w a.k).g.length = a.w.g.length
abbrev A7 (i : Nat) (a : BkS) : Prop := i < (CF a.w a.k).g.length
abbrev Uo (a : BkS) (i : Nat) : Gau := gD (CF a.w a.k).g i
abbrev Sn (a : BkS) (i : Nat) : Int := (Uo a i).st
abbrev Ue (a : BkS) (i : Nat) : Int := (Uo a i).lo
abbrev Rj (a : BkS) (i : Nat) : Int := (Uo a i).hi
abbrev ACB (a : BkS) : Prop := ∀ (i : Nat), A7 i a -> Sn a i = (gD a.w.g i).st /\ Ue a i = (gD a.w.g i).lo /\ Rj a i = (gD a.w.g i).hi
abbrev A0 (a : BkS) : Prop := (CF a.w a.k).b.length = a.w.b.length
abbrev W9 (i : Nat) (a : BkS) : Prop := i < (CF a.w a.k).b.length
abbrev Vz (a : BkS) (i : Nat) : Int := gD (CF a.w a.k).b i
abbrev I4 (a : BkS) : Prop := ∀ (i : Nat), W9 i a -> Vz a i = gD a.w.b i
abbrev Xx (i : Nat) (a : BkS) (n : Int) : Prop := i < (AK (CF a.w a.k) n).length
abbrev ZA (a : BkS) (n : Int) (i : Nat) : Ln := gD (AK (CF a.w a.k) n) i
abbrev Bq (a : BkS) (n : Int) (i : Nat) : Int := (ZA a n i).a0
abbrev YI (a : BkS) (n : Int) (i : Nat) : Int := (ZA a n i).a1
abbrev YS (a : BkS) (n : Int) (i : Nat) : Int := (ZA a n i).b0
abbrev Bd (a : BkS) (n : Int) (i : Nat) : Int := (ZA a n i).b1
abbrev M4 (a : BkS) : List Gau := KY (X7 a) a.k
abbrev Rw (a : BkS) : Nat := (M4 a).length
abbrev ADG (a : BkS) : Prop := (sB a).length = Rw a
abbrev Ba (a : BkS) (i : Nat) : Gau := gD (M4 a) i
abbrev AEN (a : BkS) (i : Nat) : Int := (Ba a i).st
abbrev yP (a : BkS) (i : Nat) : Int := (Ba a i).lo
abbrev ACA (a : BkS) (i : Nat) : Int := (Ba a i).hi
abbrev J6 (a : BkS) : Prop := ∀ (i : Nat), i < (sB a).length -> (gD (sB a) i).st = AEN a i /\ (gD (sB a) i).lo = yP a i /\ (gD (sB a) i).hi = ACA a i
abbrev BB : Prop := (0 : Nat) = (0 : Nat)
abbrev ACH (a : BkS) : Prop := (CR (sB a) a.st).length = (0 : Nat)
abbrev IY (a : BkS) : Prop := (CF a.w a.k).g.length = (CF a.w a.k).g.length
abbrev JC (a : BkS) : Prop := ∀ (i : Nat), A7 i a -> Sn a i = Sn a i /\ Ue a i = Ue a i /\ Rj a i = Rj a i
abbrev IT (a : BkS) : Prop := (CF a.w a.k).b.length = (CF a.w a.k).b.length
abbrev IU (a : BkS) : Prop := ∀ (i : Nat), W9 i a -> Vz a i = Vz a i
abbrev IK (a : BkS) : Prop := ∀ (n : Int), (CF a.w a.k).has n = (CF a.w a.k).has n
abbrev JB (a : BkS) : Prop := ∀ (n : Int), (CF a.w a.k).st n = (CF a.w a.k).st n
abbrev JD (a : BkS) : Prop := ∀ (n : Int), (AK (CF a.w a.k) n).length = (AK (CF a.w a.k) n).length /\ ∀ (i : Nat), Xx i a n -> Bq a n i = Bq a n i /\ YI a n i = YI a n i /\
 YS a n i = YS a n i /\ Bd a n i = Bd a n i
abbrev ACT (a : BkS) : Prop := IY a /\ JC a /\ IT a /\ IU a /\ BI /\ IK a /\ JB a /\ JD a
abbrev S9 (a : BkS) : Prop := ACH a /\ ACH a /\ ACT a
abbrev F5 (a : BkS) : Prop := (0 : Int) <= a.st /\ a.st <= (2000 : Int)
abbrev GE (a : BkS) : List Gau := AE (sB a).length λ (i : Nat) => gD (sB a) i
abbrev YR (a : BkS) : Nat := (GE a).length
abbrev KR (a : BkS) : Prop := YR a = (sB a).length
abbrev Rp (a : BkS) (i : Nat) : Gau := gD (GE a) i
abbrev KM (a : BkS) : Prop := ∀ (i : Nat), i < YR a -> (Rp a i).st = (gD (sB a) i).st /\ (Rp a i).lo = (gD (sB a) i).lo /\ (Rp a i).hi = (gD (sB a) i).hi
abbrev I0 (a : BkS) (a1 : Nat) : Prop := (JJ (sB a) a.st a1).length = (2 : Nat)
abbrev zC (a : BkS) : List Pt := AA (GE a)
abbrev F8 (a : BkS) : Nat := (zC a).length
abbrev W6 (a : BkS) (i : Nat) : Pt := gD (zC a) i
abbrev Rq (a : Nat) : Prop := (↑a : Int) = (0 : Int)
abbrev CK (a : BkS) : Prop := (sB a).length = (sB a).length
abbrev CL (a : BkS) : Prop := ∀ (i : Nat), i < (sB a).length -> (gD (sB a) i).st = (gD (sB a) i).st /\ (gD (sB a) i).lo = (gD (sB a) i).lo /\ (gD (sB a) i).hi = (gD (sB a) i).hi
abbrev MH : Prop := ∀ (i : Nat), i < (0 : Nat) -> false = false
abbrev ACI : Prop := Int.ofNat (0 : Nat) = Int.ofNat (0 : Nat)
abbrev xS : Prop := Int.ofNat (200000 : Nat) = Int.ofNat (200000 : Nat)
abbrev Tz (i : Nat) (a : BkS) (a1 : Nat) : Prop := i < (JJ (sB a) a.st a1).length
abbrev ZP (a : BkS) (a1 : Nat) (i : Nat) : Ln := gD (JJ (sB a) a.st a1) i
abbrev ZZ (a : BkS) (a1 : Nat) (i : Nat) : Int := (ZP a a1 i).a0
abbrev Bz (i : Nat) : Bool := decide (i = (0 : Nat))
abbrev YP (a : BkS) (a1 : Nat) (i : Nat) : Int := (ZP a a1 i).a1
abbrev XD (a : BkS) (a1 : Nat) (i : Nat) : Int := (ZP a a1 i).b0
abbrev WZ (a : BkS) (a1 : Nat) (i : Nat) : Int := (ZP a a1 i).b1
abbrev M2 (a : Nat) (a1 : BkS) : Prop := (↑a : Int) < (↑(AA (sB a1)).length : Int)
abbrev W7 (a : Nat) (a1 : BkS) : Bool := decide (M2 a a1)
abbrev ADW (a : Nat) : Prop := (0 : Int) <= (↑a : Int)
abbrev zD (a : Nat) (a1 : BkS) : Prop := ADW a /\ M2 a a1
abbrev RQ : Prop := (4 : Nat) = (4 : Nat)
abbrev xY : Prop := (0 : Nat) < (2 : Nat)
abbrev Vl (a : BkS) (a1 : Nat) : Nat := (JJ (sB a) a.st a1).length + (2 : Nat)
abbrev S4 (a : BkS) (a1 : Nat) (a2 : Nat) : Prop := (JJ (sB a) a.st a1).length = Vl a a2
abbrev AY (a : BkS) : Prop := (AA (sB a)).length = (AA (sB a)).length
abbrev AW (a : BkS) : Prop := ∀ (i : Nat), i < (AA (sB a)).length -> (gD (AA (sB a)) i).st = (gD (AA (sB a)) i).st /\ (gD (AA (sB a)) i).fl = (gD (AA (sB a)) i).fl
abbrev CE (a : BkS) : Prop := (↑(AA (sB a)).length : Int) = (↑(AA (sB a)).length : Int)
abbrev R9 (a : Nat) (a1 : Nat) : Prop := (↑a : Int) = IntKind.i64.wrap ((↑a1 : Int) + (1 : Int))
abbrev XN (i : Nat) (a : BkS) (a1 : Nat) : Bool := decide (Tz i a a1)
abbrev Ai (i : Nat) (a : BkS) (a1 : Nat) : Bool := decide ((0 : Nat) + (i - (JJ (sB a) a.st a1).length) = (0 : Nat))
abbrev NJ (a : BkS) (a1 : Nat) : Nat := (AA (sB a)).length - a1
abbrev Q3 (a : BkS) (a1 : Nat) (a2 : Nat) : Prop := NJ a a1 < NJ a a2
abbrev Vo : Prop := BB /\ MH
abbrev yT (a : BkS) (a1 : Nat) : Prop := (DC (sB a) a.st).length = (JJ (sB a) a.st a1).length
abbrev UH (i : Nat) (a : BkS) : Prop := i < (DC (sB a) a.st).length
abbrev Gr (a : BkS) (i : Nat) : Int := (gD (DC (sB a) a.st) i).a0
abbrev Hf (a : BkS) (i : Nat) : Int := (gD (DC (sB a) a.st) i).a1
abbrev Fg (a : BkS) (i : Nat) : Int := (gD (DC (sB a) a.st) i).b0
abbrev Ht (a : BkS) (i : Nat) : Int := (gD (DC (sB a) a.st) i).b1
abbrev RW (a : Nat) (a1 : BkS) : Prop := a <= (DC (sB a1) a1.st).length /\ List.filter (Yw (sB a1)) (List.take a (DC (sB a1) a1.st)) = []
abbrev dL (a : Nat) (a1 : BkS) : Prop := (↑a : Int) < (↑(DC (sB a1) a1.st).length : Int)
abbrev Db (a : Nat) : Nat := (0 : Nat) + a
abbrev KJ (a : BkS) (a1 : Nat) : Ln := gD (DC (sB a) a.st) (Db a1)
abbrev Zg (a : BkS) (a1 : Nat) : Bool := SK (KJ a a1)
abbrev OI (a : BkS) (a1 : Nat) : Int := (KJ a a1).a0
abbrev OH (a : BkS) (a1 : Nat) : Int := (KJ a a1).a1
abbrev MK (a : BkS) (a1 : Nat) : Int := (KJ a a1).b0
abbrev NT (a : BkS) (a1 : Nat) : Int := (KJ a a1).b1
abbrev KE (a : BkS) : Prop := YR a < (4611686018427387904 : Nat)
abbrev KH (g : Gau) (a : BkS) : Prop := List.Mem g (GE a)
abbrev Cy : Prop := (0 : Nat) < (1 : Nat)
abbrev Gh : Prop := (1 : Nat) <= (1 : Nat) /\ (Cy -> RQ)
abbrev SB : Prop := (True /\ ((0 : Nat) < (0 : Nat) -> (0 : Nat) = (4 : Nat))) /\ Gh /\ (true = true -> Cy) /\ (1 : Nat) <= (9223372036854775807 : Nat) /\ (32 : Nat) <= (140737488355328 : Nat)
abbrev nQ (a : LnK) : Prop := a.l.length = (1 : Nat)
abbrev EX (a : BkS) : Prop := (DC (sB a) a.st).length = (DC (sB a) a.st).length
abbrev KC (a : BkS) : Prop := (↑(DC (sB a) a.st).length : Int) = (↑(DC (sB a) a.st).length : Int)
abbrev SD (a : BkS) : Prop := ∀ (i : Nat), UH i a -> Gr a i = Gr a i /\ Hf a i = Hf a i /\ Fg a i = Fg a i /\ Ht a i = Ht a i
abbrev aA (a : LnK) (a1 : BkS) : Prop := a.i < (DC (sB a1) a1.st).length
abbrev GR (a : BkS) (a1 : LnK) : Nat := (DC (sB a) a.st).length - a1.i
abbrev HB (a : BkS) (a1 : Nat) : Nat := (DC (sB a) a.st).length - a1
abbrev gH (a : LnK) (a1 : BkS) : Prop := a.l = EP (sB a1) ++ List.filter (Yw (sB a1)) (List.take (a.i + (1 : Nat)) (DC (sB a1) a1.st))
abbrev mV (a : LnK) (a1 : BkS) (a2 : Nat) : Prop := aA a a1 /\ GR a1 a = HB a1 a2 /\ gH a a1
abbrev eK (a : BkS) : Prop := IY a /\ JC a /\ IT a /\ IU a /\ BI /\ IK a /\ JB a /\ JD a /\ CK a /\ CL a /\ EX a /\ SD a
abbrev cN (a : BkS) (a1 : Nat) : Prop := List.filter (Yw (sB a)) (List.take (a1 + (1 : Nat)) (DC (sB a) a.st)) = []
abbrev dJ (a : Nat) (a1 : BkS) (a2 : Nat) : Prop := UH a a1 /\ HB a1 a = HB a1 a2 /\ cN a1 a
abbrev dU (a : BkS) (a1 : Nat) (a2 : Nat) : Prop := BB /\ MH /\ BB /\ EX a /\ KC a /\ R9 a1 a2 /\ eK a
abbrev Hi (a : LnK) (a1 : LnK) : Prop := a.l.length = a1.l.length
abbrev bR (a : BkS) (a1 : LnK) (a2 : LnK) : Prop := IY a /\ JC a /\ IT a /\ IU a /\ BI /\ IK a /\ JB a /\ JD a /\ CK a /\ CL a /\ EX a /\
 SD a /\ Hi a1 a2 /\ ∀ (i : Nat), i < a1.l.length -> (gD a1.l i).a0 = (gD a2.l i).a0 /\ (gD a1.l i).a1 = (gD a2.l i).a1 /\ (gD a1.l i).b0 = (gD a2.l i).b0 /\ (gD a1.l i).b1 = (gD a2.l i).b1
abbrev mN (a : LnK) (a1 : LnK) (a2 : BkS) : Prop := BB /\ Hi a a1 /\ BB /\ EX a2 /\ KC a2 /\ (↑a.i : Int) = IntKind.i64.wrap ((↑a1.i : Int) + (1 : Int)) /\ bR a2 a a1
abbrev Fp (a : LnK) (a1 : BkS) : Prop := a.i <= (DC (sB a1) a1.st).length /\ a.l = EP (sB a1) ++ List.filter (Yw (sB a1)) (List.take a.i (DC (sB a1) a1.st))
abbrev kK (a : BkS) (a1 : Nat) : Prop := ∀ (a_1 : LnK), mV a_1 a a1 -> ∃ (a_3 : LnK), mN a_3 a_1 a /\ Fp a_3 a /\ GR a a_3 < HB a a1
abbrev kF (a : LnK) (a1 : BkS) : Prop := (↑a.i : Int) < (↑(DC (sB a1) a1.st).length : Int)
abbrev bH (a : LnK) : Prop := (0 : Int) <= (↑a.i : Int)
abbrev iL (a : LnK) : Nat := (0 : Nat) + a.i
abbrev KA (a : BkS) (a1 : LnK) : Ln := gD (DC (sB a) a.st) (iL a1)
abbrev kC (a : BkS) (a1 : LnK) : Bool := SK (KA a a1)
abbrev NW (a : BkS) (a1 : LnK) : Int := (KA a a1).a0
abbrev MG (a : BkS) (a1 : LnK) : Int := (KA a a1).a1
abbrev OO (a : BkS) (a1 : LnK) : Int := (KA a a1).b0
abbrev NO (a : BkS) (a1 : LnK) : Int := (KA a a1).b1
abbrev iJ : Prop := false = true -> Cy
abbrev TH (a : LnK) : Nat := a.l.length + (1 : Nat)
abbrev kW (a : LnK) : Prop := (a.l.length = a.l.length /\ ((0 : Nat) < a.l.length -> RQ)) /\ Gh /\ iJ /\ TH a <= (9223372036854775807 : Nat) /\ TH a * (32 : Nat) <= (140737488355328
 : Nat)
abbrev eM (a : LnK) (a1 : LnK) : Prop := a.l.length = TH a1
abbrev nL (a : LnK) (a1 : LnK) : Prop := (↑a.i : Int) = (↑a1.i : Int)
abbrev GV (i : Nat) (a : LnK) : Bool := decide (i < a.l.length)
abbrev Ep (a : LnK) (a1 : BkS) (a2 : LnK) : Prop := aA a a1 /\ GR a1 a = GR a1 a2 /\ gH a a1
abbrev Zo (a : BkS) (a1 : LnK) : Prop := ∀ (a_1 : LnK), Ep a_1 a a1 -> ∃ (a_3 : LnK), mN a_3 a_1 a /\ Fp a_3 a /\ GR a a_3 < GR a a1
abbrev kP (a : LnK) : Prop := (0 : Nat) + a.l.length <= a.l.length
abbrev SV (a : LnK) (j : Nat) : Ln := gD a.l (Db j)
abbrev gK (a : LnK) (j : Nat) : Int := (SV a j).a0
abbrev cU (a : LnK) (j : Nat) : Int := (SV a j).a1
abbrev iK (a : LnK) (j : Nat) : Int := (SV a j).b0
abbrev gW (a : LnK) (j : Nat) : Int := (SV a j).b1
abbrev aM (a : BkS) : Prop := ∀ (a_1 : One), True -> bif bif decide ((↑(sB a).length : Int) > (0 : Int)) then (↑(0 : Nat) : Int) == (0 : Int) else false then S9 a else (F5 a /\ F5 a) /\
 (KR a /\ KM a /\ YR a < (1073741824 : Nat) /\ True) /\ (∃ (a_3 : Nat), (BB /\ I0 a a_3 /\ (AA (sB a)).length = F8 a /\ (∀ (i : Nat), i < (AA (sB a)).length -> (gD (AA (sB a))
 i).st = (W6 a i).st /\ (gD (AA (sB a)) i).fl = (W6 a i).fl) /\ (↑(AA (sB a)).length : Int) = (↑(F8 a) : Int) /\ Rq a_3 /\ IY a /\ JC a /\ IT a /\ IU a /\ BI /\
 IK a /\ JB a /\ JD a /\ CK a /\ CL a /\ BB /\ MH /\ a.st = a.st /\ ACI /\ a.st = a.st /\ xS /\ I0 a a_3 /\ ∀ (i : Nat), Tz i a a_3 -> (ZZ a a_3 i =
 bif Bz i then (AL (Pt.mk a.st (0 : Int))).a0 else (AL (Pt.mk a.st (200000 : Int))).a0) /\ (YP a a_3 i = bif Bz i then (AL (Pt.mk a.st (0 : Int))).a1 else (AL (Pt.mk a.st (200000 : Int))).a1) /\
 (XD a a_3 i = bif Bz i then (AL (Pt.mk a.st (0 : Int))).b0 else (AL (Pt.mk a.st (200000 : Int))).b0) /\ WZ a a_3 i = bif Bz i then (AL (Pt.mk a.st (0 : Int))).b1 else (AL (Pt.mk a.st
 (200000 : Int))).b1) /\ a_3.le (AA (sB a)).length) /\ ∀ (a_3 : Nat), a_3.le (AA (sB a)).length -> bif W7 a_3 a then zD a_3 a /\ (((JJ (sB a) a.st a_3).length = (JJ (sB a) a.st a_3).length /\ ((0 : Nat) <
 (JJ (sB a) a.st a_3).length -> RQ)) /\ ((2 : Nat) <= (2 : Nat) /\ (xY -> RQ)) /\ (false = true -> xY) /\ Vl a a_3 <= (9223372036854775807 : Nat) /\ Vl a a_3 * (32 : Nat) <=
 (140737488355328 : Nat)) /\ ∃ (a_5 : Nat), (BB /\ S4 a a_5 a_3 /\ AY a /\ AW a /\ CE a /\ R9 a_5 a_3 /\ IY a /\ JC a /\ IT a /\ IU a /\ BI /\ IK a /\
 JB a /\ JD a /\ CK a /\ CL a /\ BB /\ MH /\ a.st = a.st /\ ACI /\ a.st = a.st /\ xS /\ S4 a a_5 a_3 /\ ∀ (i : Nat), Tz i a a_5 -> (ZZ a a_5 i = bif
 XN i a a_3 then ZZ a a_3 i else bif Ai i a a_3 then a.st else (gD (AA (sB a)) a_3).st) /\ (YP a a_5 i = bif XN i a a_3 then YP a a_3 i else bif Ai i a a_3 then (0 : Int)
 else (gD (AA (sB a)) a_3).fl) /\ (XD a a_5 i = bif XN i a a_3 then XD a a_3 i else bif Ai i a a_3 then (gD (AA (sB a)) a_3).st else a.st) /\ WZ a a_5 i = bif XN i a a_3 then
 WZ a a_3 i else bif Ai i a a_3 then (gD (AA (sB a)) a_3).fl else (200000 : Int)) /\ a_5.le (AA (sB a)).length /\ Q3 a a_5 a_3 else Vo /\ (∃ (a_5 : Nat), (BB /\ MH /\ BB /\
 yT a a_3 /\ (↑(DC (sB a) a.st).length : Int) = (↑(JJ (sB a) a.st a_3).length : Int) /\ Rq a_5 /\ IY a /\ JC a /\ IT a /\ IU a /\ BI /\ IK a /\ JB a /\ JD a /\
 CK a /\ CL a /\ yT a a_3 /\ ∀ (i : Nat), UH i a -> Gr a i = ZZ a a_3 i /\ Hf a i = YP a a_3 i /\ Fg a i = XD a a_3 i /\ Ht a i = WZ a a_3
 i) /\ RW a_5 a) /\ (∀ (a_5 : Nat), RW a_5 a -> bif decide (dL a_5 a) then (((ADW a_5 /\ dL a_5 a) /\ (Db a_5).succ.le (DC (sB a) a.st).length) /\ (Zg a a_5 = true ->
 KR a /\ KM a /\ OI a a_5 = OI a a_5 /\ OH a a_5 = OH a a_5 /\ MK a a_5 = MK a a_5 /\ NT a a_5 = NT a a_5 /\ KE a /\ ∀ (g : Gau), KH g
 a -> ((0 : Int) <= OI a a_5 /\ OI a a_5 < MK a a_5 /\ MK a a_5 <= (2000 : Int) /\ (0 : Int) <= OH a a_5 /\ OH a a_5 <= NT a a_5 /\ NT a a_5 <= (200000 : Int)) /\
 KS g) /\ bif bif Zg a a_5 then (GE a).all λ (g : Gau) => BJ (KJ a a_5) g else false then SB /\ ∃ (a_7 : LnK), (BB /\ nQ a_7 /\ BB /\ EX a /\ KC a
 /\ (↑a_7.i : Int) = (↑a_5 : Int) /\ IY a /\ JC a /\ IT a /\ IU a /\ BI /\ IK a /\ JB a /\ JD a /\ CK a /\ CL a /\ EX a /\ SD a /\ nQ a_7 /\ ∀
 (i : Nat), i < a_7.l.length -> (gD a_7.l i).a0 = OI a a_5 /\ (gD a_7.l i).a1 = OH a a_5 /\ (gD a_7.l i).b0 = MK a a_5 /\ (gD a_7.l i).b1 = NT a a_5) /\ mV a_7 a a_5 else ∃ (a_7 : Nat),
 (BB /\ MH /\ BB /\ EX a /\ KC a /\ (↑a_7 : Int) = (↑a_5 : Int) /\ eK a) /\ dJ a_7 a a_5) /\ (∀ (a_7 : Nat), dJ a_7 a a_5 -> ∃ (a_9 : Nat), dU a a_9 a_7 /\
 RW a_9 a /\ HB a a_9 < HB a a_5) /\ kK a a_5 /\ kK a a_5 else S9 a) /\ ∀ (a_5 : LnK), Fp a_5 a -> bif decide (kF a_5 a) then (((bH a_5 /\ kF a_5 a)
 /\ (iL a_5).succ.le (DC (sB a) a.st).length) /\ (kC a a_5 = true -> KR a /\ KM a /\ NW a a_5 = NW a a_5 /\ MG a a_5 = MG a a_5 /\ OO a a_5 = OO a
 a_5 /\ NO a a_5 = NO a a_5 /\ KE a /\ ∀ (g : Gau), KH g a -> ((0 : Int) <= NW a a_5 /\ NW a a_5 < OO a a_5 /\ OO a a_5 <= (2000 : Int) /\ (0 : Int) <= MG a
 a_5 /\ MG a a_5 <= NO a a_5 /\ NO a a_5 <= (200000 : Int)) /\ KS g) /\ bif bif kC a a_5 then (GE a).all λ (g : Gau) => BJ (KA a a_5) g else false then kW a_5 /\
 ∃ (a_7 : LnK), (BB /\ eM a_7 a_5 /\ BB /\ EX a /\ KC a /\ nL a_7 a_5 /\ IY a /\ JC a /\ IT a /\ IU a /\ BI /\ IK a /\ JB a /\ JD a
 /\ CK a /\ CL a /\ EX a /\ SD a /\ eM a_7 a_5 /\ ∀ (i : Nat), i < a_7.l.length -> ((gD a_7.l i).a0 = bif GV i a_5 then (gD a_5.l i).a0 else NW a a_5) /\ ((gD a_7.l i).a1 =
 bif GV i a_5 then (gD a_5.l i).a1 else MG a a_5) /\ ((gD a_7.l i).b0 = bif GV i a_5 then (gD a_5.l i).b0 else OO a a_5) /\ (gD a_7.l i).b1 = bif GV i a_5 then (gD a_5.l i).b1 else
 NO a a_5) /\ Ep a_7 a a_5 else ∃ (a_7 : LnK), (BB /\ Hi a_7 a_5 /\ BB /\ EX a /\ KC a /\ nL a_7 a_5 /\ bR a a_7 a_5) /\ Ep a_7 a a_5) /\ (∀ (a_7 :
 Nat), UH a_7 a /\ HB a a_7 = GR a a_5 /\ cN a a_7 -> ∃ (a_9 : Nat), dU a a_9 a_7 /\ RW a_9 a /\ HB a a_9 < GR a a_5) /\ Zo a a_5 /\ Zo a a_5 else
 (CR (sB a) a.st).length = a_5.l.length /\ kP a_5 /\ (∀ (j : Nat), j < (CR (sB a) a.st).length -> (gD (CR (sB a) a.st) j).a0 = gK a_5 j /\ (gD (CR (sB a) a.st) j).a1 = cU a_5 j /\ (gD (CR (sB
 a) a.st) j).b0 = iK a_5 j /\ (gD (CR (sB a) a.st) j).b1 = gW a_5 j) /\ ACT a
abbrev jR (a : BkS) : List Gau := AE (Rw a) λ (i : Nat) => Ba a i
abbrev SS (a : BkS) : Nat := (jR a).length
abbrev SM (a : BkS) (i : Nat) : Gau := gD (jR a) i
abbrev fH (a : BkS) (i : Nat) : Int := (SM a i).st
abbrev jG (a : BkS) (i : Nat) : Int := (SM a i).lo
abbrev gU (a : BkS) (i : Nat) : Int := (SM a i).hi
abbrev De (a : BkS) : List Gau := AE (SS a) λ (i : Nat) => SM a i
abbrev Cn (a : BkS) : Nat := (De a).length
abbrev Dd (a : BkS) (i : Nat) : Gau := gD (De a) i
abbrev aG (a : BkS) : List Pt := AA (De a)
abbrev bO (a : BkS) : Nat := (aG a).length
abbrev kH (a : BkS) : Prop := (AA (sB a)).length = bO a
abbrev lI (a : BkS) (i : Nat) : Pt := gD (aG a) i
abbrev mL (a : BkS) : Prop := ∀ (i : Nat), i < (AA (sB a)).length -> (gD (AA (sB a)) i).st = (lI a i).st /\ (gD (AA (sB a)) i).fl = (lI a i).fl
abbrev EJ (a : BkS) : Prop := a.w.g.length = a.w.g.length
abbrev EG (a : BkS) : Prop := ∀ (i : Nat), i < a.w.g.length -> (gD a.w.g i).st = (gD a.w.g i).st /\ (gD a.w.g i).lo = (gD a.w.g i).lo /\ (gD a.w.g i).hi = (gD a.w.g i).hi
abbrev EE (a : BkS) : Prop := a.w.b.length = a.w.b.length
abbrev EI (a : BkS) : Prop := ∀ (i : Nat), i < a.w.b.length -> gD a.w.b i = gD a.w.b i
abbrev EF (a : BkS) : Prop := ∀ (n : Int), (AK a.w n).length = (AK a.w n).length /\ ∀ (i : Nat), K1 i a n -> (gD (AK a.w n) i).a0 = (gD (AK a.w n) i).a0 /\ (gD (AK a.w n) i).a1 = (gD (AK a.w n) i).a1 /\
 (gD (AK a.w n) i).b0 = (gD (AK a.w n) i).b0 /\ (gD (AK a.w n) i).b1 = (gD (AK a.w n) i).b1
abbrev UJ (a : Nat) (a1 : BkS) : Prop := a <= (AA (sB a1)).length /\ List.filter (JO (sB a1)) (PW (sB a1) a) = []
abbrev Hw (a : LnJ) : Prop := (↑a.j : Int) = (0 : Int)
abbrev UF (a : LnJ) : Prop := a.l.length = (1 : Nat)
abbrev eJ (a : LnJ) (a1 : BkS) : Prop := a.i < (AA (sB a1)).length
abbrev Zv (a : LnJ) (a1 : BkS) : Prop := a.j <= (AA (sB a1)).length
abbrev aS (a : BkS) (a1 : LnJ) : Nat := (AA (sB a)).length - a1.i
abbrev nX (a : LnJ) (a1 : BkS) : Prop := a.l = List.filter (JO (sB a1)) (EZ (sB a1) a.i a.j)
abbrev UP (a : LnJ) (a1 : BkS) (a2 : Nat) : Prop := eJ a a1 /\ Zv a a1 /\ aS a1 a = NJ a1 a2 /\ nX a a1
abbrev kQ (a : IJ) (a1 : BkS) : Prop := a.i < (AA (sB a1)).length
abbrev jC (a : IJ) (a1 : BkS) : Prop := a.j <= (AA (sB a1)).length
abbrev aW (a : BkS) (a1 : IJ) : Nat := (AA (sB a)).length - a1.i
abbrev lE (a : BkS) (a1 : IJ) : Prop := List.filter (JO (sB a)) (EZ (sB a) a1.i a1.j) = []
abbrev En (a : IJ) (a1 : BkS) (a2 : Nat) : Prop := kQ a a1 /\ jC a a1 /\ aW a1 a = NJ a1 a2 /\ lE a1 a
abbrev lP (a : IJ) (a1 : BkS) : Prop := (↑a.j : Int) < (↑(AA (sB a1)).length : Int)
abbrev dO (a : IJ) (a1 : BkS) : Bool := decide (lP a a1)
abbrev bD (a : IJ) (a1 : BkS) : Prop := (0 : Int) <= (↑a.j : Int) /\ lP a a1
abbrev lK (a : BkS) (a1 : IJ) : Ln := Ln.mk (gD (AA (sB a)) a1.i).st (gD (AA (sB a)) a1.i).fl (gD (AA (sB a)) a1.j).st (gD (AA (sB a)) a1.j).fl
abbrev cS (a : BkS) (a1 : IJ) : Bool := SK (lK a a1)
abbrev nA (a : BkS) (a1 : IJ) : Bool := if true = true then cS a a1 else !cS a a1
abbrev eU (a : BkS) (a1 : IJ) : Prop := KR a /\ KM a /\ (gD (AA (sB a)) a1.i).st = (gD (AA (sB a)) a1.i).st /\ (gD (AA (sB a)) a1.i).fl = (gD (AA (sB a)) a1.i).fl /\ (gD (AA (sB a))
 a1.j).st = (gD (AA (sB a)) a1.j).st /\ (gD (AA (sB a)) a1.j).fl = (gD (AA (sB a)) a1.j).fl /\ KE a /\ ∀ (g : Gau), KH g a -> ((0 : Int) <= (gD (AA (sB a)) a1.i).st /\ (gD (AA (sB a)) a1.i).st <
 (gD (AA (sB a)) a1.j).st /\ (gD (AA (sB a)) a1.j).st <= (2000 : Int) /\ (0 : Int) <= (gD (AA (sB a)) a1.i).fl /\ (gD (AA (sB a)) a1.i).fl <= (gD (AA (sB a)) a1.j).fl /\ (gD (AA (sB a)) a1.j).fl <= (200000 :
 Int)) /\ KS g
abbrev bJ (a : BkS) (a1 : IJ) : Bool := (GE a).all λ (g : Gau) => BJ (lK a a1) g
abbrev dC (a : IJ) : Int := IntKind.i64.wrap ((↑a.j : Int) + (1 : Int))
abbrev dE (a : BkS) (a1 : LnJ) (a2 : IJ) (l : Nat) : Prop := AY a /\ AW a /\ CE a /\ (↑a1.j : Int) = dC a2 /\ Fn.yield l = Fn.yield l /\ AY a /\ AW a /\ AY a /\ AW
 a /\ CE a /\ (↑a1.i : Int) = (↑a2.i : Int) /\ (gD (AA (sB a)) a1.i).st = (gD (AA (sB a)) a2.i).st /\ (gD (AA (sB a)) a1.i).fl = (gD (AA (sB a)) a2.i).fl /\ EJ a /\ EG a /\ EE a /\
 EI a /\ BI /\ DV a /\ DZ a /\ EF a /\ CK a /\ CL a /\ BB /\ UF a1 /\ UF a1 /\ ∀ (i : Nat), i < a1.l.length -> (gD a1.l i).a0 = (gD (AA (sB a)) a2.i).st /\
 (gD a1.l i).a1 = (gD (AA (sB a)) a2.i).fl /\ (gD a1.l i).b0 = (gD (AA (sB a)) a2.j).st /\ (gD a1.l i).b1 = (gD (AA (sB a)) a2.j).fl
abbrev Dl (a : BkS) (a1 : LnJ) : Nat := (AA (sB a)).length - a1.j
abbrev Gz (a : BkS) (a1 : IJ) : Nat := (AA (sB a)).length - a1.j
abbrev mH (a : BkS) (a1 : LnJ) (a2 : IJ) : Prop := Dl a a1 < Gz a a2
abbrev Ij (a : BkS) : Prop := EJ a /\ EG a /\ EE a /\ EI a /\ BI /\ DV a /\ DZ a /\ EF a /\ CK a /\ CL a /\ Vo
abbrev Ze (a : BkS) (a1 : IJ) (a2 : IJ) (l : Nat) : Prop := AY a /\ AW a /\ CE a /\ (↑a1.j : Int) = dC a2 /\ Fn.yield l = Fn.yield l /\ AY a /\ AW a /\ AY a /\ AW
 a /\ CE a /\ (↑a1.i : Int) = (↑a2.i : Int) /\ (gD (AA (sB a)) a1.i).st = (gD (AA (sB a)) a2.i).st /\ (gD (AA (sB a)) a1.i).fl = (gD (AA (sB a)) a2.i).fl /\ Ij a
abbrev Zc (a : BkS) (a1 : IJ) (a2 : IJ) : Prop := Gz a a1 < Gz a a2
abbrev fO (a : BkS) (a1 : IJ) (l : Nat) (a2 : Nat) : Prop := ∃ (a_1 : IJ), Ze a a_1 a1 l /\ En a_1 a a2 /\ Zc a a_1 a1
abbrev Zr (l : Nat) (a : BkS) (a1 : Nat) (a2 : IJ) : Prop := Fn.yield l = Fn.yield l /\ AY a /\ AW a /\ AY a /\ AW a /\ CE a /\ (↑a1 : Int) = IntKind.i64.wrap ((↑a2.i : Int) + (1 :
 Int)) /\ Ij a
abbrev Zz (a : LnJ) (a1 : BkS) : Prop := (↑a.j : Int) < (↑(AA (sB a1)).length : Int)
abbrev cM (a : LnJ) (a1 : BkS) : Bool := decide (Zz a a1)
abbrev aE (a : LnJ) (a1 : BkS) : Prop := (0 : Int) <= (↑a.j : Int) /\ Zz a a1
abbrev cL (a : BkS) (a1 : LnJ) : Ln := Ln.mk (gD (AA (sB a)) a1.i).st (gD (AA (sB a)) a1.i).fl (gD (AA (sB a)) a1.j).st (gD (AA (sB a)) a1.j).fl
abbrev jH (a : BkS) (a1 : LnJ) : Bool := SK (cL a a1)
abbrev nG (a : BkS) (a1 : LnJ) : Bool := if true = true then jH a a1 else !jH a a1
abbrev fD (a : BkS) (a1 : LnJ) : Prop := KR a /\ KM a /\ (gD (AA (sB a)) a1.i).st = (gD (AA (sB a)) a1.i).st /\ (gD (AA (sB a)) a1.i).fl = (gD (AA (sB a)) a1.i).fl /\ (gD (AA (sB a))
 a1.j).st = (gD (AA (sB a)) a1.j).st /\ (gD (AA (sB a)) a1.j).fl = (gD (AA (sB a)) a1.j).fl /\ KE a /\ ∀ (g : Gau), KH g a -> ((0 : Int) <= (gD (AA (sB a)) a1.i).st /\ (gD (AA (sB a)) a1.i).st <
 (gD (AA (sB a)) a1.j).st /\ (gD (AA (sB a)) a1.j).st <= (2000 : Int) /\ (0 : Int) <= (gD (AA (sB a)) a1.i).fl /\ (gD (AA (sB a)) a1.i).fl <= (gD (AA (sB a)) a1.j).fl /\ (gD (AA (sB a)) a1.j).fl <= (200000 :
 Int)) /\ KS g
abbrev gR (a : BkS) (a1 : LnJ) : Bool := (GE a).all λ (g : Gau) => BJ (cL a a1) g
abbrev Ix (a : LnJ) : Nat := a.l.length + (1 : Nat)
abbrev nC (a : LnJ) : Prop := (a.l.length = a.l.length /\ ((0 : Nat) < a.l.length -> RQ)) /\ Gh /\ iJ /\ Ix a <= (9223372036854775807 : Nat) /\ Ix a * (32 : Nat) <= (140737488355328
 : Nat)
abbrev aO (a : LnJ) (a1 : LnJ) : Prop := (↑a.j : Int) = IntKind.i64.wrap ((↑a1.j : Int) + (1 : Int))
abbrev cY (a : LnJ) (a1 : LnJ) : Prop := (↑a.i : Int) = (↑a1.i : Int)
abbrev aK (a : BkS) (a1 : LnJ) (a2 : LnJ) : Prop := (gD (AA (sB a)) a1.i).st = (gD (AA (sB a)) a2.i).st
abbrev gM (a : BkS) (a1 : LnJ) (a2 : LnJ) : Prop := (gD (AA (sB a)) a1.i).fl = (gD (AA (sB a)) a2.i).fl
abbrev lJ (a : LnJ) (a1 : LnJ) : Prop := a.l.length = Ix a1
abbrev TG (i : Nat) (a : LnJ) : Bool := decide (i < a.l.length)
abbrev fW (a : BkS) (a1 : LnJ) (a2 : LnJ) (l : Nat) : Prop := AY a /\ AW a /\ CE a /\ aO a1 a2 /\ Fn.yield l = Fn.yield l /\ AY a /\ AW a /\ AY a /\ AW a /\
 CE a /\ cY a1 a2 /\ aK a a1 a2 /\ gM a a1 a2 /\ EJ a /\ EG a /\ EE a /\ EI a /\ BI /\ DV a /\ DZ a /\ EF a /\ CK a /\ CL a /\
 BB /\ lJ a1 a2 /\ lJ a1 a2 /\ ∀ (i : Nat), i < a1.l.length -> ((gD a1.l i).a0 = bif TG i a2 then (gD a2.l i).a0 else (gD (AA (sB a)) a2.i).st) /\ ((gD a1.l i).a1 = bif TG i a2 then
 (gD a2.l i).a1 else (gD (AA (sB a)) a2.i).fl) /\ ((gD a1.l i).b0 = bif TG i a2 then (gD a2.l i).b0 else (gD (AA (sB a)) a2.j).st) /\ (gD a1.l i).b1 = bif TG i a2 then (gD a2.l i).b1 else (gD (AA
 (sB a)) a2.j).fl
abbrev bV (a : BkS) (a1 : LnJ) (a2 : LnJ) : Prop := Dl a a1 < Dl a a2
abbrev hP (a : LnJ) (a1 : BkS) (a2 : Nat) (a3 : LnJ) : Prop := UP a a1 a2 /\ bV a1 a a3
abbrev gJ (a : LnJ) (a1 : LnJ) : Prop := a.l.length = a1.l.length
abbrev nT (a : BkS) (a1 : LnJ) (a2 : LnJ) (l : Nat) : Prop := AY a /\ AW a /\ CE a /\ aO a1 a2 /\ Fn.yield l = Fn.yield l /\ AY a /\ AW a /\ AY a /\ AW a /\
 CE a /\ cY a1 a2 /\ aK a a1 a2 /\ gM a a1 a2 /\ EJ a /\ EG a /\ EE a /\ EI a /\ BI /\ DV a /\ DZ a /\ EF a /\ CK a /\ CL a /\
 BB /\ gJ a1 a2 /\ gJ a1 a2 /\ ∀ (i : Nat), i < a1.l.length -> (gD a1.l i).a0 = (gD a2.l i).a0 /\ (gD a1.l i).a1 = (gD a2.l i).a1 /\ (gD a1.l i).b0 = (gD a2.l i).b0 /\ (gD a1.l i).b1 = (gD a2.l i).b1
abbrev iA (a : BkS) (a1 : LnJ) (l : Nat) (a2 : Nat) : Prop := ∃ (a_1 : LnJ), nT a a_1 a1 l /\ hP a_1 a a2 a1
abbrev lW (a : LnK) (a1 : LnJ) : Prop := a.l.length = a1.l.length
abbrev mS (l : Nat) (a : BkS) (a1 : LnK) (a2 : LnJ) : Prop := Fn.yield l = Fn.yield l /\ AY a /\ AW a /\ AY a /\ AW a /\ CE a /\ (↑a1.i : Int) = IntKind.i64.wrap ((↑a2.i : Int) + (1 :
 Int)) /\ EJ a /\ EG a /\ EE a /\ EI a /\ BI /\ DV a /\ DZ a /\ EF a /\ CK a /\ CL a /\ BB /\ lW a1 a2 /\ lW a1 a2 /\ ∀ (i : Nat), i <
 a1.l.length -> (gD a1.l i).a0 = (gD a2.l i).a0 /\ (gD a1.l i).a1 = (gD a2.l i).a1 /\ (gD a1.l i).b0 = (gD a2.l i).b0 /\ (gD a1.l i).b1 = (gD a2.l i).b1
abbrev Ih (a : LnK) (a1 : BkS) : Prop := a.i <= (AA (sB a1)).length /\ a.l = List.filter (JO (sB a1)) (PW (sB a1) a.i)
abbrev JY (a : BkS) (a1 : LnK) : Nat := (AA (sB a)).length - a1.i
abbrev mC (a : BkS) (a1 : Nat) (l : Nat) : Prop := ∀ (a_1 : LnJ), UP a_1 a a1 -> bif cM a_1 a then aE a_1 a /\ bif nG a a_1 then l = l /\ fD a a_1 /\ bif gR a a_1 then
 nC a_1 /\ ∃ (a_3 : LnJ), fW a a_3 a_1 l /\ hP a_3 a a1 a_1 else iA a a_1 l a1 else iA a a_1 l a1 else ∃ (a_3 : LnK), mS l a a_3 a_1 /\ Ih a_3 a /\ JY a a_3 <
 NJ a a1
abbrev eD (a : BkS) (a1 : Nat) (l : Nat) : Prop := (∀ (a_1 : IJ), En a_1 a a1 -> bif dO a_1 a then bD a_1 a /\ bif nA a a_1 then l = l /\ eU a a_1 /\ bif bJ a a_1 then
 SB /\ ∃ (a_3 : LnJ), dE a a_3 a_1 l /\ UP a_3 a a1 /\ mH a a_3 a_1 else fO a a_1 l a1 else fO a a_1 l a1 else ∃ (a_3 : Nat), Zr l a a_3 a_1 /\ UJ a_3 a /\
 Q3 a a_3 a1) /\ mC a a1 l /\ mC a a1 l
abbrev iR (a : BkS) : Prop := (EP (sB a)).length = (0 : Nat)
abbrev Zf (a : LnK) (a1 : BkS) : Prop := (↑a.i : Int) < (↑(AA (sB a1)).length : Int)
abbrev MD (a : BkS) (a1 : LnK) : Int := (AL (gD (AA (sB a)) a1.i)).a0
abbrev NH (a : BkS) (a1 : LnK) : Int := (AL (gD (AA (sB a)) a1.i)).a1
abbrev MJ (a : BkS) (a1 : LnK) : Int := (AL (gD (AA (sB a)) a1.i)).b0
abbrev NY (a : BkS) (a1 : LnK) : Int := (AL (gD (AA (sB a)) a1.i)).b1
abbrev lM (a : LnJ) (a1 : LnK) : Prop := (↑a.i : Int) = (↑a1.i : Int)
abbrev nK (a : BkS) (a1 : LnJ) (a2 : LnK) : Prop := (gD (AA (sB a)) a1.i).st = (gD (AA (sB a)) a2.i).st
abbrev jI (a : BkS) (a1 : LnJ) (a2 : LnK) : Prop := (gD (AA (sB a)) a1.i).fl = (gD (AA (sB a)) a2.i).fl
abbrev mW (a : LnJ) (a1 : LnK) : Prop := a.l.length = TH a1
abbrev NP (a : LnJ) (a1 : BkS) (a2 : LnK) : Prop := eJ a a1 /\ Zv a a1 /\ aS a1 a = JY a1 a2 /\ nX a a1
abbrev lO (a : IJ) (a1 : BkS) (a2 : LnK) : Prop := kQ a a1 /\ jC a a1 /\ aW a1 a = JY a1 a2 /\ lE a1 a
abbrev kL (a : BkS) (a1 : IJ) (l : Nat) (a2 : LnK) : Prop := ∃ (a_1 : IJ), Ze a a_1 a1 l /\ lO a_1 a a2 /\ Zc a a_1 a1
abbrev Zj (a : LnJ) (a1 : BkS) (a2 : LnK) (a3 : LnJ) : Prop := NP a a1 a2 /\ bV a1 a a3
abbrev fU (a : BkS) (a1 : LnJ) (l : Nat) (a2 : LnK) : Prop := ∃ (a_1 : LnJ), nT a a_1 a1 l /\ Zj a_1 a a2 a1
abbrev fX (a : BkS) (a1 : LnK) (l : Nat) : Prop := ∀ (a_1 : LnJ), NP a_1 a a1 -> bif cM a_1 a then aE a_1 a /\ bif nG a a_1 then l = l /\ fD a a_1 /\ bif gR a a_1 then
 nC a_1 /\ ∃ (a_3 : LnJ), fW a a_3 a_1 l /\ Zj a_3 a a1 a_1 else fU a a_1 l a1 else fU a a_1 l a1 else ∃ (a_3 : LnK), mS l a a_3 a_1 /\ Ih a_3 a /\ JY a a_3 <
 JY a a1
abbrev iC (a : BkS) (a1 : LnK) (l : Nat) : Prop := (∀ (a_1 : IJ), lO a_1 a a1 -> bif dO a_1 a then bD a_1 a /\ bif nA a a_1 then l = l /\ eU a a_1 /\ bif bJ a a_1 then
 SB /\ ∃ (a_3 : LnJ), dE a a_3 a_1 l /\ NP a_3 a a1 /\ mH a a_3 a_1 else kL a a_1 l a1 else kL a a_1 l a1 else ∃ (a_3 : Nat), Zr l a a_3 a_1 /\ UJ a_3 a /\
 NJ a a_3 < JY a a1) /\ fX a a1 l /\ fX a a1 l
abbrev fT (a : LnJ) (a1 : LnK) : Prop := a.l.length = a1.l.length
abbrev NZ (n : Int) (a : BkS) : Bool := decide (n = a.k)
abbrev mJ (a : BkS) : Prop := ∀ (a_1 : One), True -> ∃ (a_3 : One), (a.st = a.st /\ V1 a /\ ACB a /\ A0 a /\ I4 a /\ BI /\ (∀ (n : Int), (CF a.w a.k).has n = GN a.w.has a.k n) /\ (∀
 (n : Int), (CF a.w a.k).st n = Qj a.w.has a.w.st a.k n) /\ (∀ (n : Int), ((AK (CF a.w a.k) n).length = bif NZ n a then (EP (sB a)).length else (AK a.w n).length) /\ ∀ (i : Nat), Xx i a n -> (Bq
 a n i = bif NZ n a then (gD (EP (sB a)) i).a0 else (gD (AK a.w n) i).a0) /\ (YI a n i = bif NZ n a then (gD (EP (sB a)) i).a1 else (gD (AK a.w n) i).a1) /\ (YS a n i = bif NZ n a
 then (gD (EP (sB a)) i).b0 else (gD (AK a.w n) i).b0) /\ Bd a n i = bif NZ n a then (gD (EP (sB a)) i).b1 else (gD (AK a.w n) i).b1) /\ CK a /\ CL a /\ (0 : Nat) = (EP (sB a)).length /\
 BB) /\ True
theorem CJP (a : BkS) : (CBN a) = ((a.k = a.k /\ Ns a = a.w.g.length /\ (∀ (i : Nat), i < Ns a -> BAO a i = (gD a.w.g i).st /\ APE a i = (gD a.w.g i).lo /\ AYK a i = (gD a.w.g i).hi) /\
 Pa a = a.w.b.length /\ (∀ (i : Nat), i < Pa a -> AUU a i = gD a.w.b i) /\ BI /\ DV a /\ DZ a /\ (∀ (n : Int), Vt a n = (AK a.w n).length /\ ∀ (i : Nat), i < Vt a n ->
 ABW a n i = (gD (AK a.w n) i).a0 /\ O8 a n i = (gD (AK a.w n) i).a1 /\ ACU a n i = (gD (AK a.w n) i).b0 /\ F4 a n i = (gD (AK a.w n) i).b1) /\ a.w.g.length = Ns a /\ (∀ (i : Nat), i <
 a.w.g.length -> (gD a.w.g i).st = BAO a i /\ (gD a.w.g i).lo = APE a i /\ (gD a.w.g i).hi = AYK a i) /\ a.w.b.length = Pa a /\ (∀ (i : Nat), i < a.w.b.length -> gD a.w.b i = AUU a i) /\ BI /\
 DV a /\ DZ a /\ (∀ (n : Int), (AK a.w n).length = Vt a n /\ ∀ (i : Nat), K1 i a n -> (gD (AK a.w n) i).a0 = ABW a n i /\ (gD (AK a.w n) i).a1 = O8 a n i /\ (gD (AK a.w n) i).b0 =
 ACU a n i /\ (gD (AK a.w n) i).b1 = F4 a n i) /\ (Ns a <= (24 : Nat) /\ (∀ (x : Gau), List.Mem x (Nz a) -> KS x) /\ Pa a <= (24 : Nat) /\ List.Pairwise (λ (x1 x2 : Int) => x1 < x2)
 (YG a) /\ ∀ (x : Int), List.Mem x (YG a) -> (1 : Int) <= x /\ x <= (2000 : Int)) /\ True) /\ BI /\ bif a.w.has a.k then (∃ (a_1 : One), (a.st = a.st /\ V1 a /\ ACB a /\ A0 a /\ I4 a /\
 BI /\ (∀ (n : Int), (CF a.w a.k).has n = a.w.has n) /\ (∀ (n : Int), (CF a.w a.k).st n = a.w.st n) /\ (∀ (n : Int), (AK (CF a.w a.k) n).length = (AK a.w n).length /\ ∀ (i : Nat), Xx i a n -> Bq a n i
 = (gD (AK a.w n) i).a0 /\ YI a n i = (gD (AK a.w n) i).a1 /\ YS a n i = (gD (AK a.w n) i).b0 /\ Bd a n i = (gD (AK a.w n) i).b1) /\ ADG a /\ J6 a /\ (0 : Nat) = (AK a.w a.k).length /\
 BB) /\ True) /\ aM a else (((SS a = Rw a /\ ∀ (i : Nat), i < SS a -> fH a i = AEN a i /\ jG a i = yP a i /\ gU a i = ACA a i) /\ ∀ (l : Nat),
 (Cn a = SS a /\ (∀ (i : Nat), i < Cn a -> (Dd a i).st = fH a i /\ (Dd a i).lo = jG a i /\ (Dd a i).hi = gU a i) /\ Cn a < (1073741824 : Nat) /\
 True) /\ (∃ (a_1 : Nat), (Fn.yield l = Fn.yield l /\ kH a /\ mL a /\ kH a /\ mL a /\ (↑(AA (sB a)).length : Int) = (↑(bO a) : Int) /\ Rq a_1 /\ EJ a /\ EG a /\
 EE a /\ EI a /\ BI /\ DV a /\ DZ a /\ EF a /\ ADG a /\ J6 a /\ Vo) /\ UJ a_1 a) /\ (∀ (a_1 : Nat), UJ a_1 a -> bif W7 a_1 a then zD a_1
 a /\ ((0 : Int) <= (gD (AA (sB a)) a_1).st /\ (gD (AA (sB a)) a_1).st <= (2000 : Int)) /\ l = l /\ (KR a /\ KM a /\ (AL (gD (AA (sB a)) a_1)).a0 = (AL (gD (AA (sB a)) a_1)).a0 /\ (AL (gD (AA (sB
 a)) a_1)).a1 = (AL (gD (AA (sB a)) a_1)).a1 /\ (AL (gD (AA (sB a)) a_1)).b0 = (AL (gD (AA (sB a)) a_1)).b0 /\ (AL (gD (AA (sB a)) a_1)).b1 = (AL (gD (AA (sB a)) a_1)).b1 /\ KE a /\ ∀ (g :
 Gau), KH g a -> ((0 : Int) <= (AL (gD (AA (sB a)) a_1)).a0 /\ (AL (gD (AA (sB a)) a_1)).a0 < (AL (gD (AA (sB a)) a_1)).b0 /\ (AL (gD (AA (sB a)) a_1)).b0 <= (2000 : Int) /\ (0 : Int) <= (AL (gD
 (AA (sB a)) a_1)).a1 /\ (AL (gD (AA (sB a)) a_1)).a1 <= (AL (gD (AA (sB a)) a_1)).b1 /\ (AL (gD (AA (sB a)) a_1)).b1 <= (200000 : Int)) /\ KS g) /\ bif (GE a).all λ (g : Gau) => BJ (AL
 (gD (AA (sB a)) a_1)) g then SB /\ (∃ (a_3 : LnJ), (AY a /\ AW a /\ CE a /\ Hw a_3 /\ Fn.yield l = Fn.yield l /\ AY a /\ AW a /\ AY a /\ AW a /\ CE a /\
 (↑a_3.i : Int) = (↑a_1 : Int) /\ (gD (AA (sB a)) a_3.i).st = (gD (AA (sB a)) a_1).st /\ (gD (AA (sB a)) a_3.i).fl = (gD (AA (sB a)) a_1).fl /\ EJ a /\ EG a /\ EE a /\ EI a /\
 BI /\ DV a /\ DZ a /\ EF a /\ CK a /\ CL a /\ BB /\ UF a_3 /\ UF a_3 /\ ∀ (i : Nat), i < a_3.l.length -> (gD a_3.l i).a0 = (AL (gD (AA (sB a)) a_1)).a0 /\ (gD
 a_3.l i).a1 = (AL (gD (AA (sB a)) a_1)).a1 /\ (gD a_3.l i).b0 = (AL (gD (AA (sB a)) a_1)).b0 /\ (gD a_3.l i).b1 = (AL (gD (AA (sB a)) a_1)).b1) /\ UP a_3 a a_1) /\ eD a a_1 l else (∃ (a_3 :
 IJ), (AY a /\ AW a /\ CE a /\ (↑a_3.j : Int) = (0 : Int) /\ Fn.yield l = Fn.yield l /\ AY a /\ AW a /\ AY a /\ AW a /\ CE a /\ (↑a_3.i : Int) = (↑a_1 : Int) /\ (gD (AA (sB
 a)) a_3.i).st = (gD (AA (sB a)) a_1).st /\ (gD (AA (sB a)) a_3.i).fl = (gD (AA (sB a)) a_1).fl /\ Ij a) /\ En a_3 a a_1) /\ eD a a_1 l else ∃ (a_3 : One), (a.k = a.k /\ a.st = a.st /\
 EJ a /\ EG a /\ EE a /\ EI a /\ BI /\ DV a /\ DZ a /\ EF a /\ CK a /\ CL a /\ iR a /\ iR a) /\ True) /\ ∀ (a_1 : LnK), Ih a_1 a -> bif
 decide (Zf a_1 a) then (bH a_1 /\ Zf a_1 a) /\ ((0 : Int) <= (gD (AA (sB a)) a_1.i).st /\ (gD (AA (sB a)) a_1.i).st <= (2000 : Int)) /\ l = l /\ (KR a /\ KM a /\ MD a a_1 =
 MD a a_1 /\ NH a a_1 = NH a a_1 /\ MJ a a_1 = MJ a a_1 /\ NY a a_1 = NY a a_1 /\ KE a /\ ∀ (g : Gau), KH g a -> ((0 : Int) <= MD a a_1 /\ MD
 a a_1 < MJ a a_1 /\ MJ a a_1 <= (2000 : Int) /\ (0 : Int) <= NH a a_1 /\ NH a a_1 <= NY a a_1 /\ NY a a_1 <= (200000 : Int)) /\ KS g) /\ bif (GE a).all λ (g : Gau) =>
 BJ (AL (gD (AA (sB a)) a_1.i)) g then kW a_1 /\ (∃ (a_3 : LnJ), (AY a /\ AW a /\ CE a /\ Hw a_3 /\ Fn.yield l = Fn.yield l /\ AY a /\ AW a /\ AY a /\ AW a /\
 CE a /\ lM a_3 a_1 /\ nK a a_3 a_1 /\ jI a a_3 a_1 /\ EJ a /\ EG a /\ EE a /\ EI a /\ BI /\ DV a /\ DZ a /\ EF a /\ CK a /\ CL
 a /\ BB /\ mW a_3 a_1 /\ mW a_3 a_1 /\ ∀ (i : Nat), i < a_3.l.length -> ((gD a_3.l i).a0 = bif GV i a_1 then (gD a_1.l i).a0 else MD a a_1) /\ ((gD a_3.l i).a1 = bif GV i a_1 then
 (gD a_1.l i).a1 else NH a a_1) /\ ((gD a_3.l i).b0 = bif GV i a_1 then (gD a_1.l i).b0 else MJ a a_1) /\ (gD a_3.l i).b1 = bif GV i a_1 then (gD a_1.l i).b1 else NY a a_1) /\
 NP a_3 a a_1) /\ iC a a_1 l else (∃ (a_3 : LnJ), (AY a /\ AW a /\ CE a /\ Hw a_3 /\ Fn.yield l = Fn.yield l /\ AY a /\ AW a /\ AY a /\ AW a /\ CE a /\
 lM a_3 a_1 /\ nK a a_3 a_1 /\ jI a a_3 a_1 /\ EJ a /\ EG a /\ EE a /\ EI a /\ BI /\ DV a /\ DZ a /\ EF a /\ CK a /\ CL a /\ BB
 /\ fT a_3 a_1 /\ fT a_3 a_1 /\ ∀ (i : Nat), i < a_3.l.length -> (gD a_3.l i).a0 = (gD a_1.l i).a0 /\ (gD a_3.l i).a1 = (gD a_1.l i).a1 /\ (gD a_3.l i).b0 = (gD a_1.l i).b0 /\ (gD a_3.l i).b1 = (gD a_1.l i).b1) /\
 NP a_3 a a_1) /\ iC a a_1 l else ∃ (a_3 : One), (a.k = a.k /\ a.st = a.st /\ EJ a /\ EG a /\ EE a /\ EI a /\ BI /\ DV a /\ DZ a /\ EF a /\ CK a /\
 CL a /\ (EP (sB a)).length = a_1.l.length /\ kP a_1 /\ ∀ (j : Nat), j < (EP (sB a)).length -> (gD (EP (sB a)) j).a0 = gK a_1 j /\ (gD (EP (sB a)) j).a1 = cU a_1 j /\ (gD (EP (sB a)) j).b0 =
 iK a_1 j /\ (gD (EP (sB a)) j).b1 = gW a_1 j) /\ True) /\ mJ a /\ mJ a) /\ aM a) := by kernel_rfl
theorem JG (w : Bk) : Bk.mk w.g w.b w.has w.st = w := rfl
theorem BLJ (l : List Ln) (p : Ln) (i : Nat) (hi : i < (l ++ [p]).length) : ((gD (l ++ [p]) i).a0 = bif decide (i < l.length) then (gD l i).a0 else p.a0) /\ ((gD (l ++ [p]) i).a1 = bif decide (i < l.length) then (gD l i).a1 else p.a1) /\ ((gD (l ++ [p]) i).b0 = bif decide (i < l.length) then (gD l i).b0 else p.b0) /\ (gD (l ++ [p]) i).b1 = bif decide (i < l.length) then (gD l i).b1 else p.b1 := by
 rw [wG _ _ (by simpa using hi)]
 cases decide (i < l.length) <;> exact ⟨rfl, rfl, rfl, rfl⟩
theorem oneL (p : Ln) (i : Nat) (hi : i < [p].length) : (gD [p] i).a0 = p.a0 /\ (gD [p] i).a1 = p.a1 /\ (gD [p] i).b0 = p.b0 /\ (gD [p] i).b1 = p.b1 := by
 have : i = 0 := by have hj : i < 1 := hi; omega
 subst this; exact ⟨rfl, rfl, rfl, rfl⟩
theorem CAC {s : List Gau} {i j : Nat} (h : j < (AA s).length) (h1 : SK (Iq (gD (AA s) i) (gD (AA s) j)) = true) (h2 : JO s (Iq (gD (AA s) i) (gD (AA s) j)) = true) : (EZ s i (j + 1)).filter (JO s) = (EZ s i j).filter (JO s) ++ [Iq (gD (AA s) i) (gD (AA s) j)] := by
 rw [RT h, if_pos h1, List.filter_append, List.filter_cons_of_pos h2]; rfl
theorem CAJ {s : List Gau} {i j : Nat} (h : j < (AA s).length) (h1 : SK (Iq (gD (AA s) i) (gD (AA s) j)) = true) (h2 : JO s (Iq (gD (AA s) i) (gD (AA s) j)) = false) : (EZ s i (j + 1)).filter (JO s) = (EZ s i j).filter (JO s) := by
 rw [RT h, if_pos h1, List.filter_append, List.filter_cons_of_neg (by rw [h2]; simp)]; simp
theorem BTM {s : List Gau} {i j : Nat} (h : j < (AA s).length) (h1 : SK (Iq (gD (AA s) i) (gD (AA s) j)) = false) : (EZ s i (j + 1)).filter (JO s) = (EZ s i j).filter (JO s) := by
 rw [RT h, if_neg (by rw [h1]; simp), List.append_nil]
theorem qS {s : List Gau} {i : Nat} : (EZ s i 0).filter (JO s) = (PW s i).filter (JO s) ++ if JO s (AL (gD (AA s) i)) = true then [AL (gD (AA s) i)] else [] := by
 unfold EZ
 rw [List.filter_append]
 congr 1
 simp [List.filter_cons]
theorem BFI {s : List Gau} {i j : Nat} (hN : (AA s).length <= 48) : ((EZ s i j).filter (JO s)).length <= 10000 := by
 refine Nat.le_trans (List.length_filter_le _ _) ?_
 have h1 : ∀ a : Pt, (blk (AA s) a).length <= 49 := λ a => by
  unfold blk
  have := List.length_filter_le SK ((AA s).map (Iq a))
  simp only [List.length_cons, List.length_map] at *; omega
 have h2 : ∀ l : List Pt, l.length <= 48 -> (l.flatMap (blk (AA s))).length <= l.length * 49 := λ l _ => by
  induction l with
  | nil => simp
  | cons a l ih =>
   rw [List.flatMap_cons, List.length_append, List.length_cons]
   have := h1 a; have := ih (by simp at *; omega); omega
 unfold EZ PW
 have h3 := h2 ((AA s).take i) (by simp; omega)
 have h4 := List.length_filter_le SK (((AA s).take j).map (Iq (gD (AA s) i)))
 simp only [List.length_append, List.length_cons, List.length_map, List.length_take] at *
 omega
theorem BCR {s : List Gau} {q : Nat} (hs : s.length <= 24) (hN : (AA s).length <= 48) (hg : ∀ g ∈ s, DJ g) (x : IJ) (hx : x.i < (AA s).length /\ x.j <= (AA s).length /\ (AA s).length - x.i = q /\ (EZ s x.i x.j).filter (JO s) = []) :
  ((x.j : Int) < (AA s).length -> (0 <= (x.j : Int) /\ (x.j : Int) < (AA s).length) /\ (SK ⟨(gD (AA s) x.i).st, (gD (AA s) x.i).fl, (gD (AA s) x.j).st, (gD (AA s) x.j).fl⟩ = true -> (s.length < 4611686018427387904 /\ ∀ g : Gau, List.Mem g s -> DR ⟨(gD (AA s) x.i).st, (gD (AA s) x.i).fl, (gD (AA s) x.j).st, (gD (AA s) x.j).fl⟩ /\ DJ g) /\ ((s.all λ g => BJ ⟨(gD (AA s) x.i).st, (gD (AA s) x.i).fl, (gD (AA s) x.j).st, (gD (AA s) x.j).fl⟩ g) = true -> ((0 < 0 -> 0 = 4) /\ 0 < 1 /\ 0 < 1 /\ 0 < 9223372036854775807 /\ 31 < 140737488355328) /\ ∃ y : LnJ, ((y.j : Int) = IntKind.i64.wrap ((x.j : Int) + 1) /\ (y.i : Int) = x.i /\ (gD (AA s) y.i).st = (gD (AA s) x.i).st /\ (gD (AA s) y.i).fl = (gD (AA s) x.i).fl /\ y.l.length = 1 /\ y.l.length = 1 /\ ∀ i : Nat, i < y.l.length -> (gD y.l i).a0 = (gD (AA s) x.i).st /\ (gD y.l i).a1 = (gD (AA s) x.i).fl /\ (gD y.l i).b0 = (gD (AA s) x.j).st /\ (gD y.l i).b1 = (gD (AA s) x.j).fl) /\ (y.i < (AA s).length /\ y.j <= (AA s).length /\ (AA s).length - y.i = q /\ y.l = (EZ s y.i y.j).filter (JO s)) /\ (AA s).length - y.j < (AA s).length - x.j) /\ ((s.all λ g => BJ ⟨(gD (AA s) x.i).st, (gD (AA s) x.i).fl, (gD (AA s) x.j).st, (gD (AA s) x.j).fl⟩ g) = false -> ∃ y : IJ, ((y.j : Int) = IntKind.i64.wrap ((x.j : Int) + 1) /\ (y.i : Int) = x.i /\ (gD (AA s) y.i).st = (gD (AA s) x.i).st /\ (gD (AA s) y.i).fl = (gD (AA s) x.i).fl) /\ (y.i < (AA s).length /\ y.j <= (AA s).length /\ (AA s).length - y.i = q /\ (EZ s y.i y.j).filter (JO s) = []) /\ (AA s).length - y.j < (AA s).length - x.j)) /\ (SK ⟨(gD (AA s) x.i).st, (gD (AA s) x.i).fl, (gD (AA s) x.j).st, (gD (AA s) x.j).fl⟩ = false -> ∃ y : IJ, ((y.j : Int) = IntKind.i64.wrap ((x.j : Int) + 1) /\ (y.i : Int) = x.i /\ (gD (AA s) y.i).st = (gD (AA s) x.i).st /\ (gD (AA s) y.i).fl = (gD (AA s) x.i).fl) /\ (y.i < (AA s).length /\ y.j <= (AA s).length /\ (AA s).length - y.i = q /\ (EZ s y.i y.j).filter (JO s) = []) /\ (AA s).length - y.j < (AA s).length - x.j)) /\ (¬(x.j : Int) < (AA s).length -> ∃ y : Nat, (y : Int) = IntKind.i64.wrap ((x.i : Int) + 1) /\ (y <= (AA s).length /\ (PW s y).filter (JO s) = []) /\ (AA s).length - y < q) := by
 obtain ⟨h1, h2, h3, h4⟩ := hx
 refine ⟨λ hj => ?_, λ hj => ⟨x.i + 1, (BF (by omega)).symm, ⟨by omega, ?_⟩, by omega⟩⟩
 ·have hj' : x.j < (AA s).length := Int.ofNat_lt.1 hj
  have step : (EZ s x.i (x.j + 1)).filter (JO s) = [] -> ∃ y : IJ, ((y.j : Int) = IntKind.i64.wrap ((x.j : Int) + 1) /\ (y.i : Int) = x.i /\ (gD (AA s) y.i).st = (gD (AA s) x.i).st /\ (gD (AA s) y.i).fl = (gD (AA s) x.i).fl) /\ (y.i < (AA s).length /\ y.j <= (AA s).length /\ (AA s).length - y.i = q /\ (EZ s y.i y.j).filter (JO s) = []) /\ (AA s).length - y.j < (AA s).length - x.j := λ h => ⟨⟨x.i, x.j + 1⟩, ⟨(BF (by omega)).symm, rfl, rfl, rfl⟩, ⟨h1, hj', h3, h⟩, by show (AA s).length - (x.j + 1) < _; omega⟩
  refine ⟨⟨by omega, hj⟩, λ hr => ⟨⟨by omega, λ g hgs => ⟨Fu.1 hr, hg g hgs⟩⟩, λ hp => ⟨⟨by omega, by omega, by omega, by omega, by omega⟩, ⟨x.i, x.j + 1, [Iq (gD (AA s) x.i) (gD (AA s) x.j)]⟩, ⟨(BF (by omega)).symm, rfl, rfl, rfl, rfl, rfl, oneL _⟩, ⟨h1, hj', h3, ?_⟩, by show (AA s).length - (x.j + 1) < _; omega⟩, λ hp => step ?_⟩, λ hr => step ?_⟩
  ·show _ = (EZ s x.i (x.j + 1)).filter (JO s)
   rw [CAC hj' hr hp, h4]; rfl
  ·rw [CAJ hj' hr hp, h4]
  ·rw [BTM hj' hr, h4]
 ·have : x.j = (AA s).length := by omega
  rw [this] at h4; rw [<- Qh h1]; exact h4
theorem BFL {s : List Gau} {q : Nat} (hs : s.length <= 24) (hN : (AA s).length <= 48) (hg : ∀ g ∈ s, DJ g) (x : LnJ) (hx : x.i < (AA s).length /\ x.j <= (AA s).length /\ (AA s).length - x.i = q /\ x.l = (EZ s x.i x.j).filter (JO s)) :
  ((x.j : Int) < (AA s).length -> (0 <= (x.j : Int) /\ (x.j : Int) < (AA s).length) /\ (SK ⟨(gD (AA s) x.i).st, (gD (AA s) x.i).fl, (gD (AA s) x.j).st, (gD (AA s) x.j).fl⟩ = true -> (s.length < 4611686018427387904 /\ ∀ g : Gau, List.Mem g s -> DR ⟨(gD (AA s) x.i).st, (gD (AA s) x.i).fl, (gD (AA s) x.j).st, (gD (AA s) x.j).fl⟩ /\ DJ g) /\ ((s.all λ g => BJ ⟨(gD (AA s) x.i).st, (gD (AA s) x.i).fl, (gD (AA s) x.j).st, (gD (AA s) x.j).fl⟩ g) = true -> (0 < 1 /\ (false = true -> 0 < 1) /\ x.l.length < 9223372036854775807 /\ (x.l.length + 1) * 32 <= 140737488355328) /\ ∃ y : LnJ, ((y.j : Int) = IntKind.i64.wrap ((x.j : Int) + 1) /\ (y.i : Int) = x.i /\ (gD (AA s) y.i).st = (gD (AA s) x.i).st /\ (gD (AA s) y.i).fl = (gD (AA s) x.i).fl /\ y.l.length = x.l.length + 1 /\ y.l.length = x.l.length + 1 /\ ∀ i : Nat, i < y.l.length -> ((gD y.l i).a0 = bif decide (i < x.l.length) then (gD x.l i).a0 else (gD (AA s) x.i).st) /\ ((gD y.l i).a1 = bif decide (i < x.l.length) then (gD x.l i).a1 else (gD (AA s) x.i).fl) /\ ((gD y.l i).b0 = bif decide (i < x.l.length) then (gD x.l i).b0 else (gD (AA s) x.j).st) /\ (gD y.l i).b1 = bif decide (i < x.l.length) then (gD x.l i).b1 else (gD (AA s) x.j).fl) /\ (y.i < (AA s).length /\ y.j <= (AA s).length /\ (AA s).length - y.i = q /\ y.l = (EZ s y.i y.j).filter (JO s)) /\ (AA s).length - y.j < (AA s).length - x.j) /\ ((s.all λ g => BJ ⟨(gD (AA s) x.i).st, (gD (AA s) x.i).fl, (gD (AA s) x.j).st, (gD (AA s) x.j).fl⟩ g) = false -> (∃ y : LnJ, ((y.j : Int) = IntKind.i64.wrap ((x.j : Int) + 1) /\ (y.i : Int) = x.i /\ (gD (AA s) y.i).st = (gD (AA s) x.i).st /\ (gD (AA s) y.i).fl = (gD (AA s) x.i).fl /\ y.l.length = x.l.length /\ y.l.length = x.l.length /\ ∀ i : Nat, i < y.l.length -> (gD y.l i).a0 = (gD x.l i).a0 /\ (gD y.l i).a1 = (gD x.l i).a1 /\ (gD y.l i).b0 = (gD x.l i).b0 /\ (gD y.l i).b1 = (gD x.l i).b1) /\ (y.i < (AA s).length /\ y.j <= (AA s).length /\ (AA s).length - y.i = q /\ y.l = (EZ s y.i y.j).filter (JO s)) /\ (AA s).length - y.j < (AA s).length - x.j))) /\ (SK ⟨(gD (AA s) x.i).st, (gD (AA s) x.i).fl, (gD (AA s) x.j).st, (gD (AA s) x.j).fl⟩ = false -> (∃ y : LnJ, ((y.j : Int) = IntKind.i64.wrap ((x.j : Int) + 1) /\ (y.i : Int) = x.i /\ (gD (AA s) y.i).st = (gD (AA s) x.i).st /\ (gD (AA s) y.i).fl = (gD (AA s) x.i).fl /\ y.l.length = x.l.length /\ y.l.length = x.l.length /\ ∀ i : Nat, i < y.l.length -> (gD y.l i).a0 = (gD x.l i).a0 /\ (gD y.l i).a1 = (gD x.l i).a1 /\ (gD y.l i).b0 = (gD x.l i).b0 /\ (gD y.l i).b1 = (gD x.l i).b1) /\ (y.i < (AA s).length /\ y.j <= (AA s).length /\ (AA s).length - y.i = q /\ y.l = (EZ s y.i y.j).filter (JO s)) /\ (AA s).length - y.j < (AA s).length - x.j))) /\ (¬(x.j : Int) < (AA s).length -> ∃ y : LnK, ((y.i : Int) = IntKind.i64.wrap ((x.i : Int) + 1) /\ y.l.length = x.l.length /\ y.l.length = x.l.length /\ ∀ i : Nat, i < y.l.length -> (gD y.l i).a0 = (gD x.l i).a0 /\ (gD y.l i).a1 = (gD x.l i).a1 /\ (gD y.l i).b0 = (gD x.l i).b0 /\ (gD y.l i).b1 = (gD x.l i).b1) /\ (y.i <= (AA s).length /\ y.l = (PW s y.i).filter (JO s)) /\ (AA s).length - y.i < q) := by
 obtain ⟨h1, h2, h3, h4⟩ := hx
 refine ⟨λ hj => ?_, λ hj => ⟨⟨x.i + 1, x.l⟩, ⟨(BF (by omega)).symm, rfl, rfl, λ _ _ => ⟨rfl, rfl, rfl, rfl⟩⟩, ⟨h1, ?_⟩, by show (AA s).length - (x.i + 1) < _; omega⟩⟩
 ·have hj' : x.j < (AA s).length := Int.ofNat_lt.1 hj
  have hl : x.l.length <= 10000 := h4 ▸ BFI hN
  have step : (EZ s x.i (x.j + 1)).filter (JO s) = x.l -> (∃ y : LnJ, ((y.j : Int) = IntKind.i64.wrap ((x.j : Int) + 1) /\ (y.i : Int) = x.i /\ (gD (AA s) y.i).st = (gD (AA s) x.i).st /\ (gD (AA s) y.i).fl = (gD (AA s) x.i).fl /\ y.l.length = x.l.length /\ y.l.length = x.l.length /\ ∀ i : Nat, i < y.l.length -> (gD y.l i).a0 = (gD x.l i).a0 /\ (gD y.l i).a1 = (gD x.l i).a1 /\ (gD y.l i).b0 = (gD x.l i).b0 /\ (gD y.l i).b1 = (gD x.l i).b1) /\ (y.i < (AA s).length /\ y.j <= (AA s).length /\ (AA s).length - y.i = q /\ y.l = (EZ s y.i y.j).filter (JO s)) /\ (AA s).length - y.j < (AA s).length - x.j) := λ h => ⟨⟨x.i, x.j + 1, x.l⟩, ⟨(BF (by omega)).symm, rfl, rfl, rfl, rfl, rfl, λ _ _ => ⟨rfl, rfl, rfl, rfl⟩⟩, ⟨h1, hj', h3, h.symm⟩, by show (AA s).length - (x.j + 1) < _; omega⟩
  refine ⟨⟨by omega, hj⟩, λ hr => ⟨⟨by omega, λ g hgs => ⟨Fu.1 hr, hg g hgs⟩⟩, λ hp => ⟨⟨by omega, λ _ => by omega, by omega, by omega⟩, ⟨x.i, x.j + 1, x.l ++ [Iq (gD (AA s) x.i) (gD (AA s) x.j)]⟩, ⟨(BF (by omega)).symm, rfl, rfl, rfl, by simp, by simp, BLJ _ _⟩, ⟨h1, hj', h3, ?_⟩, by show (AA s).length - (x.j + 1) < _; omega⟩, λ hp => step ?_⟩, λ hr => step ?_⟩
  ·show _ = (EZ s x.i (x.j + 1)).filter (JO s)
   rw [CAC hj' hr hp, <- h4]
  ·rw [CAJ hj' hr hp, h4]
  ·rw [BTM hj' hr, h4]
 ·have : x.j = (AA s).length := by omega
  rw [this] at h4; show x.l = (PW s (x.i + 1)).filter (JO s); rw [<- Qh h1]; exact h4
theorem CTA {α : Type} [Inhabited α] (l m : List α) (j : Nat) : gD (l ++ m) j = bif decide (j < l.length) then gD l j else gD m (j - l.length) := by
 rw [XI]; by_cases h : j < l.length <;> simp [h]
theorem CAX {α : Type} [Inhabited α] (x y : α) {j : Nat} (h : j < 2) : gD [x, y] j = bif decide (j = 0) then x else y := by
 match j, h with
 | 0, _ => rfl
 | 1, _ => rfl
theorem vW {s : List Gau} {t : Int} {i : Nat} (h : i < (AA s).length) : JJ s t (i + 1) = JJ s t i ++ [Iq ⟨t, 0⟩ (gD (AA s) i), Iq (gD (AA s) i) ⟨t, 200000⟩] := by
 unfold JJ; rw [DF h, List.flatMap_append, <- List.append_assoc]; simp
theorem BIF {s : List Gau} {t : Int} : ∀ i : Nat, i <= (AA s).length -> (JJ s t i).length = 2 + 2 * i
 | 0, _ => rfl
 | i + 1, h => by rw [vW (by omega), List.length_append, BIF i (by omega)]; simp; omega
theorem BHB {s : List Gau} {t : Int} : JJ s t (AA s).length = DC s t := by unfold JJ DC; rw [List.take_length]
theorem CCY (s : List Gau) (t : Int) : ∃ i : Nat, ((JJ s t i).length = 2 /\ (i : Int) = 0 /\ (JJ s t i).length = 2 /\ ∀ j : Nat, j < (JJ s t i).length -> ((gD (JJ s t i) j).a0 = bif decide (j = 0) then (AL ⟨t, 0⟩).a0 else (AL ⟨t, 200000⟩).a0) /\ ((gD (JJ s t i) j).a1 = bif decide (j = 0) then (AL ⟨t, 0⟩).a1 else (AL ⟨t, 200000⟩).a1) /\ ((gD (JJ s t i) j).b0 = bif decide (j = 0) then (AL ⟨t, 0⟩).b0 else (AL ⟨t, 200000⟩).b0) /\ (gD (JJ s t i) j).b1 = bif decide (j = 0) then (AL ⟨t, 0⟩).b1 else (AL ⟨t, 200000⟩).b1) /\ i <= (AA s).length := by
 refine ⟨0, ⟨rfl, rfl, rfl, λ j hj => ?_⟩, Nat.zero_le _⟩
 have hj : j < 2 := hj
 rw [show JJ s t 0 = [AL ⟨t, 0⟩, AL ⟨t, 200000⟩] from rfl, CAX _ _ hj]
 cases decide (j = 0) <;> exact ⟨rfl, rfl, rfl, rfl⟩
theorem CDR {s : List Gau} {t : Int} (hN : (AA s).length <= 48) {i : Nat} (h : (i : Int) < (AA s).length) : (0 <= (i : Int) /\ (i : Int) < (AA s).length) /\ (1 < 2 /\ (false = true -> 0 < 2) /\ (JJ s t i).length + 1 < 9223372036854775807 /\ ((JJ s t i).length + 2) * 32 <= 140737488355328) /\ ∃ k : Nat, ((JJ s t k).length = (JJ s t i).length + 2 /\ (k : Int) = IntKind.i64.wrap ((i : Int) + 1) /\ (JJ s t k).length = (JJ s t i).length + 2 /\ ∀ j : Nat, j < (JJ s t k).length -> ((gD (JJ s t k) j).a0 = bif decide (j < (JJ s t i).length) then (gD (JJ s t i) j).a0 else bif decide (j - (JJ s t i).length = 0) then t else (gD (AA s) i).st) /\ ((gD (JJ s t k) j).a1 = bif decide (j < (JJ s t i).length) then (gD (JJ s t i) j).a1 else bif decide (j - (JJ s t i).length = 0) then 0 else (gD (AA s) i).fl) /\ ((gD (JJ s t k) j).b0 = bif decide (j < (JJ s t i).length) then (gD (JJ s t i) j).b0 else bif decide (j - (JJ s t i).length = 0) then (gD (AA s) i).st else t) /\ (gD (JJ s t k) j).b1 = bif decide (j < (JJ s t i).length) then (gD (JJ s t i) j).b1 else bif decide (j - (JJ s t i).length = 0) then (gD (AA s) i).fl else 200000) /\ k <= (AA s).length /\ (AA s).length - k < (AA s).length - i := by
 have h' : i < (AA s).length := Int.ofNat_lt.1 h
 have hl := BIF (s := s) (t := t) i (by omega)
 refine ⟨⟨by omega, h⟩, ⟨by omega, λ _ => by omega, by omega, by omega⟩, i + 1, ⟨?_, (BF (by omega)).symm, ?_, λ j hj => ?_⟩, h', by omega⟩
 ·rw [vW h', List.length_append]; rfl
 ·rw [vW h', List.length_append]; rfl
 ·rw [vW h'] at hj ⊢
  rw [CTA]
  by_cases h1 : j < (JJ s t i).length
  ·simp [h1]
  ·rw [CAX _ _ (by simp at hj; omega)]
   simp only [h1, decide_false, cond_false]
   cases decide (j - (JJ s t i).length = 0) <;> exact ⟨rfl, rfl, rfl, rfl⟩
theorem BHA {s : List Gau} {l : List Ln} {i : Nat} (h : i < l.length) : (l.take (i + 1)).filter (Yw s) = (l.take i).filter (Yw s) ++ if Yw s (gD l i) = true then [gD l i] else [] := by
 rw [DF h, List.filter_append]; simp [List.filter_cons]
theorem wC {s : List Gau} {t : Int} : (DC s t).length = 2 + 2 * (AA s).length := by rw [<- BHB, BIF _ (Nat.le_refl _)]
theorem BZV {s : List Gau} {t : Int} {f : List Ln} (hs : s.length <= 24) (hN : (AA s).length <= 48) (hg : ∀ g ∈ s, DJ g) (hf : f.length <= 10000) {x : LnK} (hx : x.i <= (DC s t).length /\ x.l = f ++ ((DC s t).take x.i).filter (Yw s)) (h : (x.i : Int) < (DC s t).length) :
  ((0 <= (x.i : Int) /\ (x.i : Int) < (DC s t).length) /\ x.i < (DC s t).length) /\ (SK (gD (DC s t) x.i) = true -> (s.length < 4611686018427387904 /\ ∀ g : Gau, List.Mem g s -> DR (gD (DC s t) x.i) /\ DJ g)) /\ ((bif SK (gD (DC s t) x.i) then s.all λ g => BJ (gD (DC s t) x.i) g else false) = true -> (0 < 1 /\ (false = true -> 0 < 1) /\ x.l.length < 9223372036854775807 /\ (x.l.length + 1) * 32 <= 140737488355328) /\ ∃ y : LnK, (y.l.length = x.l.length + 1 /\ (y.i : Int) = x.i /\ y.l.length = x.l.length + 1 /\ ∀ j : Nat, j < y.l.length -> ((gD y.l j).a0 = bif decide (j < x.l.length) then (gD x.l j).a0 else (gD (DC s t) x.i).a0) /\ ((gD y.l j).a1 = bif decide (j < x.l.length) then (gD x.l j).a1 else (gD (DC s t) x.i).a1) /\ ((gD y.l j).b0 = bif decide (j < x.l.length) then (gD x.l j).b0 else (gD (DC s t) x.i).b0) /\ (gD y.l j).b1 = bif decide (j < x.l.length) then (gD x.l j).b1 else (gD (DC s t) x.i).b1) /\ (y.i < (DC s t).length /\ (DC s t).length - y.i = (DC s t).length - x.i /\ y.l = f ++ (((DC s t).take (y.i + 1)).filter (Yw s)))) /\ ((bif SK (gD (DC s t) x.i) then s.all λ g => BJ (gD (DC s t) x.i) g else false) = false -> ∃ y : LnK, (y.l.length = x.l.length /\ (y.i : Int) = x.i /\ y.l.length = x.l.length /\ ∀ j : Nat, j < y.l.length -> (gD y.l j).a0 = (gD x.l j).a0 /\ (gD y.l j).a1 = (gD x.l j).a1 /\ (gD y.l j).b0 = (gD x.l j).b0 /\ (gD y.l j).b1 = (gD x.l j).b1) /\ (y.i < (DC s t).length /\ (DC s t).length - y.i = (DC s t).length - x.i /\ y.l = f ++ (((DC s t).take (y.i + 1)).filter (Yw s)))) := by
 obtain ⟨h1, h2⟩ := hx
 have h' : x.i < (DC s t).length := Int.ofNat_lt.1 h
 have hl : x.l.length <= 10098 := by
  rw [h2, List.length_append]
  have := List.length_filter_le (Yw s) ((DC s t).take x.i)
  rw [List.length_take] at this
  have := wC (s := s) (t := t)
  omega
 refine ⟨⟨⟨by omega, h⟩, h'⟩, λ hr => ⟨by omega, λ g hgs => ⟨Fu.1 hr, hg g hgs⟩⟩, λ hp => ⟨⟨by omega, λ _ => by omega, by omega, by omega⟩, ⟨x.i, x.l ++ [(gD (DC s t) x.i)]⟩, ⟨by simp, rfl, by simp, BLJ _ _⟩, h', rfl, ?_⟩, λ hp => ⟨⟨x.i, x.l⟩, ⟨rfl, rfl, rfl, λ _ _ => ⟨rfl, rfl, rfl, rfl⟩⟩, h', rfl, ?_⟩⟩
 ·show x.l ++ _ = _
  rw [BHA h', if_pos (show Yw s (gD (DC s t) x.i) = true from hp), <- List.append_assoc, <- h2]
 ·show x.l = _
  rw [BHA h', if_neg (by intro hq; have hq : (bif SK (gD (DC s t) x.i) then s.all λ g => BJ (gD (DC s t) x.i) g else false) = true := hq; rw [hp] at hq; cases hq), List.append_nil, <- h2]
theorem BSQ {s : List Gau} {t : Int} {f : List Ln} (hN : (AA s).length <= 48) {m : Nat} (x : LnK) (hx : x.i < (DC s t).length /\ (DC s t).length - x.i = m /\ x.l = f ++ ((DC s t).take (x.i + 1)).filter (Yw s)) : ∃ y : LnK, (y.l.length = x.l.length /\ (y.i : Int) = IntKind.i64.wrap ((x.i : Int) + 1) /\ y.l.length = x.l.length /\ ∀ j : Nat, j < y.l.length -> (gD y.l j).a0 = (gD x.l j).a0 /\ (gD y.l j).a1 = (gD x.l j).a1 /\ (gD y.l j).b0 = (gD x.l j).b0 /\ (gD y.l j).b1 = (gD x.l j).b1) /\ (y.i <= (DC s t).length /\ y.l = f ++ ((DC s t).take y.i).filter (Yw s)) /\ (DC s t).length - y.i < m := by
 have := wC (s := s) (t := t)
 exact ⟨⟨x.i + 1, x.l⟩, ⟨rfl, (BF (by omega)).symm, rfl, λ _ _ => ⟨rfl, rfl, rfl, rfl⟩⟩, ⟨hx.1, hx.2.2⟩, by show (DC s t).length - (x.i + 1) < m; omega⟩
theorem TS {w : Bk} {k : Int} (h : w.has k = true) : CF w k = w := by
 obtain ⟨g, b, has, st⟩ := w
 have h : has k = true := h
 unfold CF; congr 1
 ·funext n; unfold GN; by_cases e : n = k
  ·subst e; simp [h]
  ·simp [e]
 ·funext n; unfold Qj; simp [h]
theorem CTS {w : Bk} {k n : Int} : AK (CF w k) n = bif decide (n = k) then EP (KY w k) else AK w n := by
 unfold AK
 show (bif GN w.has k n then EP (KY w n) else []) = _
 unfold GN
 by_cases e : n = k
 ·subst e; simp
 ·simp [e]
theorem CCF {w : Bk} {k : Int} (h : w.has k = true) : AK w k = EP (KY w k) := by unfold AK; rw [h]; rfl
theorem CNK {s : List Gau} (h : s = []) : EP s = [] := by subst h; rfl
theorem BUF {s : List Gau} (hN : (AA s).length <= 48) : (EP s).length <= 10000 := by
 unfold EP
 rw [<- Nl]
 by_cases h : (AA s).length = 0
 ·rw [h]; simp [PW]
 ·obtain ⟨i, hi⟩ : ∃ i, (AA s).length = i + 1 := ⟨(AA s).length - 1, by omega⟩
  rw [hi, <- Qh (i := i) (by omega)]; exact BFI hN
theorem CCE {w : Bk} {k : Int} : ∀ n : Int, ((AK (CF w k) n).length = bif decide (n = k) then (EP (KY w k)).length else (AK w n).length) /\ ∀ j : Nat, j < (AK (CF w k) n).length -> ((gD (AK (CF w k) n) j).a0 = bif decide (n = k) then (gD (EP (KY w k)) j).a0 else (gD (AK w n) j).a0) /\ ((gD (AK (CF w k) n) j).a1 = bif decide (n = k) then (gD (EP (KY w k)) j).a1 else (gD (AK w n) j).a1) /\ ((gD (AK (CF w k) n) j).b0 = bif decide (n = k) then (gD (EP (KY w k)) j).b0 else (gD (AK w n) j).b0) /\ (gD (AK (CF w k) n) j).b1 = bif decide (n = k) then (gD (EP (KY w k)) j).b1 else (gD (AK w n) j).b1 := λ n => by
 rw [CTS]; cases decide (n = k) <;> exact ⟨rfl, λ _ _ => ⟨rfl, rfl, rfl, rfl⟩⟩
theorem CHO {a : BkS} (h : GZ a.w.g a.w.b) : (sB a).length <= 24 /\ (AA (sB a)).length <= 48 /\ ∀ g ∈ sB a, DJ g := by
 have h1 : (sB a).length <= 24 := Nat.le_trans (List.length_filter_le _ _) h.1
 have he := QW (s := sB a) (sB a).length (Nat.le_refl _)
 unfold LO at he; rw [List.take_length] at he
 exact ⟨h1, by unfold AA; omega, λ g hg => h.2.1 g (List.mem_filter.1 hg).1⟩
theorem aJ {s : List Gau} {t : Int} : CR s t = bif (bif decide ((s.length : Int) > 0) then ((EP s).length : Int) == 0 else false) then [] else EP s ++ (DC s t).filter (Yw s) := by
 unfold CR
 rw [show decide (0 < s.length) = decide ((s.length : Int) > 0) by simp [Int.natCast_pos], show decide ((EP s).length = 0) = (((EP s).length : Int) == 0) by rw [Bool.eq_iff_iff]; simp]
theorem CRF (a : BkS) (h : GZ a.w.g a.w.b) (h2 : 0 <= a.st /\ a.st <= 2000) (h3 : sB a ≠ []) : CIC a := by
 rw [CME]; delta Oa Oo vJ AKK AZI AYQ Cg Ph AWA APF BP DW DU AAK yL Sy Af G1 zA J3 D3 Y6 NK T4 zR Se Tk Uj Wy K4 W0 J0 Wb zL Te ZK WP ZE YC ZQ C7 Xg A4 YT E3 yB ADS ACN V0 OM LW MS OK OB ME OD R6 ADY HK XA NG Sc MW CM L9 P9 zZ ADC AFC CZ CY Wd Xh ADX D7 Qy ZI XO Ap Ax XX XF R1 ABE D8 RC zP Wh T5 AZ AX CD ZX ZG MC Q6 AES RV XP B6 lY aZ cK dX bY bK Es Cr Fj Gj Hl gI gZ bA KI kI NX MX OA MR ON OR Eo Ft nS SJ dF cG OL Eh aN jM GP UC Fv Hc nH fP bC SR jQ bF dQ cQ fB gV UE SG cJ lH dA Fq Cm Hb bG fI mT nR nB EA EC EH EB ED jK TK Dj Hk UD lV aV dZ fQ TD hU mD jO iX Dh jJ jE kZ iQ jW bP Zy cO nE gA Ek Gf dG Fb gY kD fC kS bB aT cT kY lX iT jS Zx Ea gG kX Zp kE jT eO SF nY eA eR Zq iP iS kA jD He JZ dS iH Zi dN NU OQ NM OP iZ nF dM eG OE eN aF lN dY Zw bM jN MA nU; simp only [CC, eq_self, implies_true, forall_const, JG, show KY a.w a.k = sB a from rfl, if_true]
 obtain ⟨hs, hN, hg⟩ := CHO h
 have hf := BUF (s := sB a) hN
 have h0 : 0 < (sB a).length := List.length_pos_iff.2 h3
 have ok : ∀ x, DR x -> (sB a).length < 4611686018427387904 /\ ∀ g : Gau, List.Mem g (sB a) -> DR x /\ DJ g := λ x hx => ⟨by omega, λ g hgs => ⟨hx, hg g hgs⟩⟩
 have e_ok : ∀ i, i < (AA (sB a)).length -> okP (gD (AA (sB a)) i) := λ i hi => VZ hg (BM hi)
 refine ⟨h, λ hh => ⟨?a, ?b1⟩, λ hh => ⟨⟨⟨by omega, ⟨0, rfl, Nat.zero_le _, rfl⟩, λ i ⟨hi, hp⟩ => ?c, λ x ⟨hi, hp⟩ => ?d⟩, ?e⟩, ?b2⟩⟩
 case a =>
  refine ⟨default, ?_⟩
  rw [TS hh, CCF hh]
  exact ⟨rfl, λ _ _ => ⟨rfl, rfl, rfl⟩, rfl, λ _ _ => rfl, λ _ => rfl, λ _ => rfl, λ _ => ⟨rfl, λ _ _ => ⟨rfl, rfl, rfl, rfl⟩⟩, rfl, λ _ _ => ⟨rfl, rfl, rfl, rfl⟩⟩
 case e => exact ⟨default, rfl, λ _ _ => ⟨rfl, rfl, rfl⟩, rfl, λ _ _ => rfl, λ _ => rfl, λ _ => rfl, CCE⟩
 case c =>
  refine ⟨λ hlt => ?_, λ hge => ⟨default, ?_⟩⟩
  ·have hlt' : i < (AA (sB a)).length := Int.ofNat_lt.1 hlt
   refine ⟨⟨by omega, hlt⟩, ⟨(e_ok i hlt').1, (e_ok i hlt').2.1⟩, ok _ (Da (e_ok i hlt')), λ hpa => ⟨⟨by omega, by omega, by omega, by omega, by omega⟩, ⟨⟨i, 0, [AL (gD (AA (sB a)) i)]⟩, ⟨rfl, rfl, rfl, rfl, rfl, rfl, oneL _⟩, hlt', Nat.zero_le _, rfl, ?_⟩, λ x hx => BCR hs hN hg x hx, λ x hx => BFL hs hN hg x hx⟩, λ hpa => ⟨⟨⟨i, 0⟩, ⟨rfl, rfl, rfl, rfl⟩, hlt', Nat.zero_le _, rfl, ?_⟩, λ x hx => BCR hs hN hg x hx, λ x hx => BFL hs hN hg x hx⟩⟩
   ·show _ = (EZ (sB a) i 0).filter (JO (sB a))
    rw [qS, hp, if_pos (show JO (sB a) _ = true from hpa)]; rfl
   ·show (EZ (sB a) i 0).filter (JO (sB a)) = []
    rw [qS, hp, if_neg (by rw [show JO (sB a) (AL (gD (AA (sB a)) i)) = false from hpa]; simp)]; rfl
  ·have : i = (AA (sB a)).length := by omega
   rw [this, Nl] at hp; unfold EP; rw [hp]; rfl
 case d =>
  refine ⟨λ hlt => ?_, λ hge => ⟨default, ?_⟩⟩
  ·have hlt' : x.i < (AA (sB a)).length := Int.ofNat_lt.1 hlt
   have hl : x.l.length <= 10000 := by
    have := BFI (s := sB a) (i := x.i) (j := 0) hN
    rw [qS, <- hp, List.length_append] at this; omega
   refine ⟨⟨by omega, hlt⟩, ⟨(e_ok x.i hlt').1, (e_ok x.i hlt').2.1⟩, ok _ (Da (e_ok x.i hlt')), λ hpa => ⟨⟨by omega, λ _ => by omega, by omega, by omega⟩, ⟨⟨x.i, 0, x.l ++ [AL (gD (AA (sB a)) x.i)]⟩, ⟨rfl, rfl, rfl, rfl, by simp, by simp, BLJ _ _⟩, hlt', Nat.zero_le _, rfl, ?_⟩, λ x hx => BCR hs hN hg x hx, λ x hx => BFL hs hN hg x hx⟩, λ hpa => ⟨⟨⟨x.i, 0, x.l⟩, ⟨rfl, rfl, rfl, rfl, rfl, rfl, λ _ _ => ⟨rfl, rfl, rfl, rfl⟩⟩, hlt', Nat.zero_le _, rfl, ?_⟩, λ x hx => BCR hs hN hg x hx, λ x hx => BFL hs hN hg x hx⟩⟩
   ·show _ = (EZ (sB a) x.i 0).filter (JO (sB a))
    rw [qS, <- hp, if_pos (show JO (sB a) _ = true from hpa)]
   ·show x.l = (EZ (sB a) x.i 0).filter (JO (sB a))
    rw [qS, <- hp, if_neg (by rw [show JO (sB a) (AL (gD (AA (sB a)) x.i)) = false from hpa]; simp), List.append_nil]
  ·have hx : x.l = EP (sB a) := by rw [hp, show x.i = (AA (sB a)).length by omega, Nl]; rfl
   rw [hx]; exact ⟨rfl, Nat.le_refl _, λ _ _ => ⟨rfl, rfl, rfl, rfl⟩⟩
 all_goals
  ·have hmo : ∀ i : Nat, i <= (AA (sB a)).length -> ¬(i : Int) < (AA (sB a)).length -> JJ (sB a) a.st i = DC (sB a) a.st := λ i h1 h2 => by
    rw [show i = (AA (sB a)).length by omega, BHB]
   refine ⟨λ hc => by rw [aJ, hc]; rfl, λ hc => ⟨h2, by omega, CCY _ _, λ i hi => ⟨λ hlt => CDR hN hlt, λ hge => ⟨⟨?_, by omega⟩, ⟨⟨0, EP (sB a)⟩, ⟨rfl, by rw [hmo i hi hge], by rw [hmo i hi hge], rfl, by rw [hmo i hi hge], λ j _ => by rw [hmo i hi hge]; exact ⟨rfl, rfl, rfl, rfl⟩, rfl, λ _ _ => ⟨rfl, rfl, rfl, rfl⟩⟩, Nat.zero_le _, by simp⟩, λ x hx => ⟨λ hlt => ⟨BZV hs hN hg hf hx hlt, λ y hy => BSQ hN y hy⟩, λ hge => ?_⟩⟩⟩⟩⟩
   ·simp only [decide_eq_true (show ((sB a).length : Int) > 0 by omega), cond_true, beq_eq_false_iff_ne, ne_eq] at hc
    omega
   ·have e : CR (sB a) a.st = x.l := by rw [aJ, hc, hx.2, List.take_of_length_le (by omega)]; rfl
    rw [e]; exact ⟨rfl, Nat.le_refl _, λ _ _ => ⟨rfl, rfl, rfl, rfl⟩⟩
theorem CAT {s : List Gau} {t : Int} (hN : (AA s).length <= 48) {m : Nat} (i : Nat) (hx : i < (DC s t).length /\ (DC s t).length - i = m /\ ((DC s t).take (i + 1)).filter (Yw s) = []) : ∃ y : Nat, (y : Int) = IntKind.i64.wrap ((i : Int) + 1) /\ (y <= (DC s t).length /\ ((DC s t).take y).filter (Yw s) = []) /\ (DC s t).length - y < m := by
 have := wC (s := s) (t := t)
 exact ⟨i + 1, (BF (by omega)).symm, ⟨hx.1, hx.2.2⟩, by omega⟩
theorem CTH (a : BkS) (h : GZ a.w.g a.w.b) (h2 : 0 <= a.st /\ a.st <= 2000) (h3 : sB a = []) : CBN a := by
 rw [CJP]; delta Nz Ns vU BAO APE AYK YG Pa AUU ANW BI DV DZ X7 AEI Vt ZL ABW O8 ACU F4 K1 KS V1 A7 Uo Sn Ue Rj ACB A0 W9 Vz I4 Xx ZA Bq YI YS Bd M4 Rw ADG Ba AEN yP ACA J6 BB ACH IY JC IT IU IK JB JD ACT S9 F5 GE YR KR Rp KM I0 zC F8 W6 Rq CK CL MH ACI xS Tz ZP ZZ Bz YP XD WZ M2 W7 ADW zD RQ xY Vl S4 AY AW CE R9 XN Ai NJ Q3 Vo yT UH Gr Hf Fg Ht RW dL Db KJ Zg OI OH MK NT KE KH Cy Gh SB nQ EX KC SD aA GR HB gH mV eK cN dJ dU Hi bR mN Fp kK kF bH iL KA kC NW MG OO NO iJ TH kW eM nL GV Ep Zo kP SV gK cU iK gW aM jR SS SM fH jG gU De Cn Dd aG bO kH lI mL EJ EG EE EI EF UJ Hw UF eJ Zv aS nX UP kQ jC aW lE En lP dO bD lK cS nA eU bJ dC dE Dl Gz mH Ij Ze Zc fO Zr Zz cM aE cL jH nG fD gR Ix nC aO cY aK gM lJ TG fW bV hP gJ nT iA lW mS Ih JY mC eD iR Zf MD NH MJ NY lM nK jI mW NP lO kL Zj fU fX iC fT NZ mJ; simp only [CC, eq_self, implies_true, forall_const, JG, show KY a.w a.k = sB a from rfl, if_true]
 obtain ⟨hs, hN, hg⟩ := CHO h
 have hf : EP (sB a) = [] := CNK h3
 have h0 : (AA (sB a)).length = 0 := by rw [h3]; rfl
 have hS : (sB a).length = 0 := by rw [h3]; rfl
 have ok : ∀ x, DR x -> (sB a).length < 4611686018427387904 /\ ∀ g : Gau, List.Mem g (sB a) -> DR x /\ DJ g := λ x hx => ⟨by omega, λ g hgs => ⟨hx, hg g hgs⟩⟩
 have hc : (bif decide (((sB a).length : Int) > 0) then ((EP (sB a)).length : Int) == 0 else false) = false := by rw [hS]; rfl
 refine ⟨h, λ hh => ⟨?a, ?b1⟩, λ hh => ⟨⟨⟨by omega, ⟨0, rfl, Nat.zero_le _, rfl⟩, λ i ⟨hi, hp⟩ => ?c, λ x ⟨hi, hp⟩ => ?d⟩, ?e⟩, ?b2⟩⟩
 case a =>
  refine ⟨default, ?_⟩
  rw [TS hh, CCF hh]
  exact ⟨rfl, λ _ _ => ⟨rfl, rfl, rfl⟩, rfl, λ _ _ => rfl, λ _ => rfl, λ _ => rfl, λ _ => ⟨rfl, λ _ _ => ⟨rfl, rfl, rfl, rfl⟩⟩, by show 0 = (EP (sB a)).length; rw [hf]; rfl⟩
 case e => exact ⟨default, rfl, λ _ _ => ⟨rfl, rfl, rfl⟩, rfl, λ _ _ => rfl, λ _ => rfl, λ _ => rfl, CCE, by rw [hf]; rfl⟩
 case c => exact ⟨λ hlt => absurd hlt (by omega), λ hge => ⟨default, by rw [hf]; rfl⟩⟩
 case d =>
  refine ⟨λ hlt => absurd hlt (by omega), λ hge => ⟨default, ?_⟩⟩
  have hx : x.l = EP (sB a) := by rw [hp, show x.i = (AA (sB a)).length by omega, Nl]; rfl
  rw [hx]; exact ⟨rfl, Nat.le_refl _, λ _ _ => ⟨rfl, rfl, rfl, rfl⟩⟩
 all_goals
  have hmo : ∀ i : Nat, i <= (AA (sB a)).length -> JJ (sB a) a.st i = DC (sB a) a.st := λ i h1 => by
   rw [show i = (AA (sB a)).length by omega, BHB]
  have hML := wC (s := sB a) (t := a.st)
  refine ⟨λ hc => ?_, λ _ => ⟨h2, by omega, CCY _ _, λ i hi => ⟨λ hlt => CDR hN hlt, λ hge => ⟨⟨0, ⟨by rw [hmo i hi], by rw [hmo i hi], rfl, by rw [hmo i hi], λ j _ => by rw [hmo i hi]; exact ⟨rfl, rfl, rfl, rfl⟩⟩, Nat.zero_le _, rfl⟩, λ x ⟨hx, hy⟩ => ⟨λ hlt => ⟨?_, λ y hy => CAT hN y hy, λ y hy => BSQ hN y hy⟩, λ hge => ?_⟩, λ x hx => ⟨λ hlt => ⟨BZV hs hN hg (by rw [hf]; exact Nat.zero_le _) hx hlt, λ y hy => CAT hN y hy, λ y hy => BSQ hN y hy⟩, λ hge => ?_⟩⟩⟩⟩⟩
  ·rw [hS] at hc; cases hc
  ·have h' : x < (DC (sB a) a.st).length := Int.ofNat_lt.1 hlt
   refine ⟨⟨⟨by omega, hlt⟩, h'⟩, λ hr => ok _ (Fu.1 hr), λ hp => ⟨⟨by omega, by omega, by omega, by omega, by omega⟩, ⟨x, [gD (DC (sB a) a.st) x]⟩, ⟨rfl, rfl, rfl, oneL _⟩, h', rfl, ?_⟩, λ hp => ⟨x, rfl, h', rfl, ?_⟩⟩
   ·show [_] = _
    rw [BHA h', if_pos (show Yw (sB a) (gD (DC (sB a) a.st) x) = true from hp), hy, hf]; rfl
   ·rw [BHA h', if_neg (by intro hq; have hq : (bif SK (gD (DC (sB a) a.st) x) then (sB a).all λ g => BJ (gD (DC (sB a) a.st) x) g else false) = true := hq; rw [hp] at hq; cases hq), hy]; rfl
  ·have hz : (DC (sB a) a.st).filter (Yw (sB a)) = [] := by rw [<- hy, List.take_of_length_le (by omega)]
   rw [aJ, hc, hf, hz]; rfl
  ·have e : CR (sB a) a.st = x.l := by rw [aJ, hc, hx.2, List.take_of_length_le (by omega)]; rfl
   rw [e]; exact ⟨rfl, Nat.le_refl _, λ _ _ => ⟨rfl, rfl, rfl, rfl⟩⟩
theorem Q8 : AG Try.prog tN (C_lns.spec dBkS) := Ctr.spec_ok (C := C_lns) (λ (a : BkS) h => by
 have h : GZ a.w.g a.w.b /\ 0 <= a.st /\ a.st <= 2000 := h
 by_cases h3 : sB a = []
 ·exact KZ (A := CCV a) (ren := []) (fz := [403]) BOA (by kernel_rfl) (AB BBK (AB iY (AB nW (AB TU (AB qA (AB BAK (AB CJO AD))))))) (CTH a h.1 h.2 h3) (CID HX (BWE a) rfl rfl (AB qA (AB TU (AB BAK AD))) Pm (by kernel_rfl) (by kernel_rfl))
 ·exact KZ (A := CGI a) (ren := []) (fz := [403]) BOA (by kernel_rfl) (AB BBK (AB iY (AB nW (AB TU (AB qA (AB BAK (AB CJG AD))))))) (CRF a h.1 h.2 h3) (CID HX (BWE a) rfl rfl (AB qA (AB TU (AB BAK AD))) Pm (by kernel_rfl) (by kernel_rfl))) _
end Go.Bal
