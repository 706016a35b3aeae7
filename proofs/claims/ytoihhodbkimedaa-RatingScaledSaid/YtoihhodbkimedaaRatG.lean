/- Package rating: lines of a part that bound its flows. -/
import Derived.Test.YtoihhodbkimedaaRatF
set_option linter.unusedVariables false
set_option linter.unusedSimpArgs false
namespace Go.Bal
open Go Go.Sym Go.Proofs
def rowL (l : List Ln) : AObj := .row 4 l.length λ i => eLn (gD l i)
def dLs1 : List AVal -> Heap -> Option (List Ln × List (Nat × Nat) × List Nat)
 | [y], H => match dLns y H with
  | some (l, f) => some (l, [], f)
  | none => none
 | _, _ => none
def C_cloN : Ctr := { α := List Ln, xs := λ l => [.d (kI l)], L := λ _ => [], val := λ l => .own 0 4 0 l.length, keep := λ l => [(0, .live (rowL l))], pre := λ l => [0 < l.length /\ l.length < 1073741824] }
def BWP : Ann := { ann 8 [] with mt := λ id => id == 3 }
def CAN (l : List Ln) : Prop := AY Try.prog BWP qJ (AF qJ) (C_cloN.xs l) (AC []) (C_cloN.val l) (C_cloN.keep l) [(0, 4032)] []
theorem CDR (l : List Ln) : (CAN l) = ((Nat.succ 0).le l.length /\ ((0 = 0 /\ (0 < 0 -> 4 = 4)) /\ (True /\ (0 < l.length -> 4 = 4)) /\ (false = true -> 0 < l.length) /\ 0 + l.length <= 9223372036854775807 /\ (0 + l.length)
 * 32 <= 140737488355328) /\ 0 = 0 /\ l.length = 0 + l.length /\ l.length = 0 + l.length /\ ∀ (i : Nat), i < l.length -> (gD l i).a0 = (gD l (i - 0)).a0 /\ (gD l i).a1 = (gD l (i - 0)).a1 /\ (gD l i).b0 = (gD l (i - 0)).b0 /\ (gD
 l i).b1 = (gD l (i - 0)).b1) := by kernel_rfl
def nilN : DVal := .list 0 0 (λ _ => default) false
def C_cloE : Ctr := { α := One, xs := λ _ => [.d nilN], L := λ _ => [], val := λ _ => .d PD, keep := λ _ => [] }
def dNil : List AVal -> Heap -> Option (One × List (Nat × Nat) × List Nat)
 | [.d (.list 0 0 _ _)], _ => some (default, [], [])
 | _, _ => none
def BWS : Ann := { ann 8 [] with md := λ id => if id = 3 then some (λ k => if k = 0 then 4 else 0) else none }
def BYR (_x : One) : Prop := AY Try.prog BWS qJ (AF qJ) (C_cloE.xs _x) (AC []) (C_cloE.val _x) [] [] []
theorem CGJ (_x : One) : (BYR _x) = ((0 = 0 /\ ∀ (i : Nat), i < 0 -> false = false) /\ ((True /\ (0 < 0 -> 4 = 4)) /\ (True /\ (0 < 0 -> 0 = 4)) /\ (false = true -> 0 < 0) /\ 0 <= 9223372036854775807 /\ 0 <= 140737488355328) /\
 0 = 0 /\ 0 = 0) := by kernel_rfl
theorem CHC : AG Try.prog AFU (C_cloN.spec dLs1) := JX C_cloN (λ _ => BWP) [(0, 4032)] [] BLX (λ _ => by kernel_rfl) (λ _ => AE) (λ (l : List Ln) h => by
 show CAN l; rw [CDR]; simp only [CC, eq_self, implies_true, forall_const]
 obtain ⟨h1, h2⟩ : 0 < l.length /\ l.length < 1073741824 := h
 exact ⟨h1, ⟨λ _ => h1, by omega, by omega⟩, λ _ _ => ⟨rfl, rfl, rfl, rfl⟩⟩) (λ _ => KJ rfl rfl) _
theorem CDS : AG Try.prog AFU (C_cloE.spec dNil) := JX C_cloE (λ _ => BWS) [] [] BLX (λ _ => by kernel_rfl) (λ _ => AE) (λ (x : One) _ => by
 show BYR x; rw [CGJ]; simp only [CC, eq_self, implies_true, forall_const]
 exact ⟨by omega, by simp, by omega, by omega⟩) (λ _ => KJ rfl rfl) _
structure BkS where
 w : Bk
 k : Int
 st : Int
def dBkS : List AVal -> Heap -> Option (BkS × List (Nat × Nat) × List Nat)
 | [.bptr id _, .d k, .d t], H => match BCA H id with
  | some (w, q) => some (⟨w, DK k, DK t⟩, [(100, id), (101, q)], [])
  | none => none
 | _, _ => none
def CK (w : Bk) (k : Int) : Bk := ⟨w.g, w.b, GX w.has k, Vb w.has w.st k⟩
def moB (t : Int) : List Ln := [AL ⟨t, 0⟩, AL ⟨t, 200000⟩]
def IV (s : List Gau) (t : Int) (i : Nat) : List Ln := moB t ++ ((AA s).take i).flatMap λ p => [Gu ⟨t, 0⟩ p, Gu p ⟨t, 200000⟩]
def DE (s : List Gau) (t : Int) : List Ln := moB t ++ (AA s).flatMap λ p => [Gu ⟨t, 0⟩ p, Gu p ⟨t, 200000⟩]
def Vg (s : List Gau) (x : Ln) : Bool := bif Ar x then JC s x else false
def DW (s : List Gau) (t : Int) : List Ln := bif (bif decide (0 < s.length) then decide ((EQ s).length = 0) else false) then [] else EQ s ++ (DE s t).filter (Vg s)
structure LnK where
 i : Nat
 l : List Ln
 deriving Inhabited
structure LnJ where
 i : Nat
 j : Nat
 l : List Ln
 deriving Inhabited
def sB (a : BkS) : List Gau := LD a.w a.k
def lsH (a : BkS) (c : AVal) : List (Nat × HCell) := bkK a.w ++ [(2048, .live (.box [.d (BO (sB a))])), (3144, .live (.box [c]))]
def lsR (a : BkS) (l : List Ln) : List (Nat × HCell) := lsH a (.own 401 4 0 l.length) ++ [(401, .live (rowL l))]
def lsPt (p : Pt) : HCell := .live (.box [.int p.st, .int p.fl])
def lsOn (a : BkS) (l : Nat) : Shape := { α := Nat, dflt := 0, T := λ i => ⟨lnS (sB a) l i, lsH a (.d PD)⟩, inv := λ i => i <= (AA (sB a)).length /\ (PK (sB a) i).filter (JC (sB a)) = [], meas := λ i => (AA (sB a)).length - i }
def lsOo (a : BkS) (l : Nat) : Shape := { α := LnK, dflt := default, T := λ x => ⟨lnS (sB a) l x.i, lsR a x.l⟩, inv := λ x => x.i <= (AA (sB a)).length /\ x.l = (PK (sB a) x.i).filter (JC (sB a)), meas := λ x => (AA (sB a)).length - x.i }
def lsIs (a : BkS) (l i j : Nat) : List (Nat × AVal) := [(5, .bptr 205 0), (22, .d (ePts (AA (sB a)))), (23, .int (AA (sB a)).length), (24, .int j)] ++ lnS (sB a) l i
def lsIn (a : BkS) (q l : Nat) : Shape := { α := IJ, dflt := default, T := λ x => ⟨lsIs a l x.i x.j, (205, lsPt (gD (AA (sB a)) x.i)) :: lsH a (.d PD)⟩, inv := λ x => x.i < (AA (sB a)).length /\ x.j <= (AA (sB a)).length /\ (AA (sB a)).length - x.i = q /\ (ET (sB a) x.i x.j).filter (JC (sB a)) = [], meas := λ x => (AA (sB a)).length - x.j, first := [(205, 104032)] }
def lsIo (a : BkS) (q l : Nat) (r : List (Nat × Nat)) : Shape := { α := LnJ, dflt := default, T := λ x => ⟨lsIs a l x.i x.j, (205, lsPt (gD (AA (sB a)) x.i)) :: lsR a x.l⟩, inv := λ x => x.i < (AA (sB a)).length /\ x.j <= (AA (sB a)).length /\ (AA (sB a)).length - x.i = q /\ x.l = (ET (sB a) x.i x.j).filter (JC (sB a)), meas := λ x => (AA (sB a)).length - x.j, first := (205, 104032) :: r, again := r }
noncomputable def BQJ (a : BkS) : IterAnn := { fn := RL, code := AF RL, live := [0, 1, 2, 7, 8], ann := { base := λ id => 100000 + 1000 * (id + 1), Γ := Sym.look [(ASL, C_ends.spec UV), (Fp, Sy), (BKJ, BSY)], E := [100, 101, 2048, 3144], n := 41, inner := λ gs id => if id = 2 then some [lsOn a (gs.getD 0 0), lsOo a (gs.getD 0 0)] else if id = 6 then some [lsIn a (gs.getD 0 0) (gs.getD 1 0), lsIo a (gs.getD 0 0) (gs.getD 1 0) [], lsIo a (gs.getD 0 0) (gs.getD 1 0) [(401, 8048)]] else none } }
def ls8s (a : BkS) : List (Nat × AVal) := [(0, .bptr 100 0), (1, .int a.k), (2, .int a.st), (7, .bptr 2048 0), (8, .bptr 3144 0)]
def ls8n (a : BkS) : Shape := { α := One, dflt := default, T := λ _ => ⟨ls8s a, lsH a (.d (kI (EQ (sB a))))⟩, inv := λ _ => True, meas := λ _ => 0 }
def ls8o (a : BkS) : Shape := { α := One, dflt := default, T := λ _ => ⟨ls8s a, lsH a (.d (kI (EQ (sB a))))⟩, inv := λ _ => True, meas := λ _ => 0, ffz := [401] }
def lsU (a : BkS) (z : DVal) : List (Nat × HCell) := bkK (CK a.w a.k) ++ [(2048, .live (.box [.d (BO (sB a))])), (3144, .live (.box [.d z]))]
def ls9 (a : BkS) (z : DVal) : Shape := { α := One, dflt := default, T := λ _ => ⟨[(2, .int a.st), (7, .bptr 2048 0), (8, .bptr 3144 0)], lsU a z⟩, inv := λ _ => True, meas := λ _ => 0 }
def ls14 (a : BkS) (z : DVal) : Shape := { α := Nat, dflt := 0, T := λ i => ⟨[(7, .bptr 2048 0), (8, .bptr 3144 0), (11, .bptr 12064 0), (12, .bptr 12080 0), (13, .own 402 4 0 (IV (sB a) a.st i).length), (67, .d (ePts (AA (sB a)))), (68, .int (AA (sB a)).length), (69, .int i)], lsU a z ++ [(12064, .live (.box [.int a.st, .int 0])), (12080, .live (.box [.int a.st, .int 200000])), (402, .live (rowL (IV (sB a) a.st i)))]⟩, inv := λ i => i <= (AA (sB a)).length, meas := λ i => (AA (sB a)).length - i, first := [(402, 13064)], again := [(402, 17128)] }
def BSP (a : BkS) (v : AVal) (i : Nat) : List (Nat × AVal) := [(7, .bptr 2048 0), (16, v), (85, .own 402 4 0 (DE (sB a) a.st).length), (86, .int (DE (sB a) a.st).length), (87, .int i)]
def BQQ (a : BkS) : List (Nat × HCell) := bkK (CK a.w a.k) ++ [(2048, .live (.box [.d (BO (sB a))])), (402, .live (rowL (DE (sB a) a.st)))]
def CQB (a : BkS) : Shape := { α := Nat, dflt := 0, T := λ i => ⟨BSP a (.d PD) i, BQQ a⟩, inv := λ i => i <= (DE (sB a) a.st).length /\ ((DE (sB a) a.st).take i).filter (Vg (sB a)) = [], meas := λ i => (DE (sB a) a.st).length - i }
def CJU (a : BkS) : Shape := { α := LnK, dflt := default, T := λ x => ⟨BSP a (.own 403 4 0 x.l.length) x.i, BQQ a ++ [(403, .live (rowL x.l))]⟩, inv := λ x => x.i <= (DE (sB a) a.st).length /\ x.l = EQ (sB a) ++ ((DE (sB a) a.st).take x.i).filter (Vg (sB a)), meas := λ x => (DE (sB a) a.st).length - x.i, first := [(403, 19016)] }
def CQC (a : BkS) (m : Nat) : Shape := { α := Nat, dflt := 0, T := λ i => ⟨BSP a (.d PD) i, BQQ a⟩, inv := λ i => i < (DE (sB a) a.st).length /\ (DE (sB a) a.st).length - i = m /\ ((DE (sB a) a.st).take (i + 1)).filter (Vg (sB a)) = [], meas := λ _ => 0 }
def BRD (a : BkS) (m : Nat) (f : List (Nat × Nat)) : Shape := { α := LnK, dflt := default, T := λ x => ⟨BSP a (.own 403 4 0 x.l.length) x.i, BQQ a ++ [(403, .live (rowL x.l))]⟩, inv := λ x => x.i < (DE (sB a) a.st).length /\ (DE (sB a) a.st).length - x.i = m /\ x.l = EQ (sB a) ++ ((DE (sB a) a.st).take (x.i + 1)).filter (Vg (sB a)), meas := λ _ => 0, first := f }
def C_lns : Ctr := { ro := [100], α := BkS, xs := λ a => [.bptr 100 0, .int a.k, .int a.st], L := λ a => bkL a.w, val := λ a => .d (kI (DW (sB a) a.st)), keep := λ a => bkK (CK a.w a.k), pre := λ a => [HI a.w.g a.w.b /\ 0 <= a.st /\ a.st <= 2000] }
def CJD (c : Sym.Spec) : List (FuncId × Sym.Spec) := [(AOJ, C_inside.spec dBkI), (Ql, C_through.spec dGsK), (WG, C_passing.spec dGsL), (Fp, Sy), (ASL, C_ends.spec UV), (BKJ, BSY), (AFU, c)]
noncomputable def CAA (a : BkS) : Ann := { ann 104 (CJD (C_cloN.spec dLs1)) with E := [100, 101], mt := λ id => id == 7 || id == 16 || id == 23, md := λ id => if id = 2 then some (λ k => if k = 5 then 3 else 0) else none, iter := λ g => if g = HR then some (BQJ a) else none, loops := λ id => if id = 14 then some [ls14 a (kI (EQ (sB a)))] else if id = 20 then some [CJU a] else none, cut := λ id => if id = 8 then some [ls8n a, ls8o a] else if id = 9 then some [ls9 a (kI (EQ (sB a)))] else none, cutIn := λ gs id => if id = 24 then some [BRD a (gs.getD 0 0) [(403, 24048)], BRD a (gs.getD 0 0) []] else none }
noncomputable def CBX (a : BkS) : Ann := { ann 104 (CJD (C_cloE.spec dNil)) with E := [100, 101], mt := λ id => id == 7 || id == 16 || id == 23, md := λ id => if id = 2 then some (λ k => if k = 5 then 3 else 0) else none, iter := λ g => if g = HR then some (BQJ a) else none, loops := λ id => if id = 14 then some [ls14 a nilN] else if id = 20 then some [CQB a, CJU a] else none, cut := λ id => if id = 8 then some [ls8n a, ls8o a] else if id = 9 then some [ls9 a nilN] else none, cutIn := λ gs id => if id = 24 then some [CQC a (gs.getD 0 0), BRD a (gs.getD 0 0) [(403, 24048)], BRD a (gs.getD 0 0) []] else none }
def BXD (a : BkS) : Prop := AY Try.prog (CAA a) tV (AF tV) (C_lns.xs a) (AC (C_lns.L a)) (C_lns.val a) (C_lns.keep a) [] [403]
abbrev Jv (a : BkS) : List Gau := AD a.w.g.length λ (i : Nat) => gD a.w.g i
abbrev Kc (a : BkS) : Nat := (Jv a).length
abbrev tF (a : BkS) (i : Nat) : Gau := gD (Jv a) i
abbrev ALM (a : BkS) (i : Nat) : Int := (tF a i).st
abbrev AWG (a : BkS) (i : Nat) : Int := (tF a i).lo
abbrev ATV (a : BkS) (i : Nat) : Int := (tF a i).hi
abbrev Ag (a : BkS) : List Int := AD a.w.b.length λ (i : Nat) => gD a.w.b i
abbrev Nn (a : BkS) : Nat := (Ag a).length
abbrev AQG (a : BkS) (i : Nat) : Int := gD (Ag a) i
abbrev AIU : Value := Value.slice none (0 : Nat) (0 : Nat)
abbrev BQ : Prop := AIU = AIU
abbrev DY (a : BkS) : Prop := ∀ (n : Int), a.w.has n = a.w.has n
abbrev DZ (a : BkS) : Prop := ∀ (n : Int), a.w.st n = a.w.st n
abbrev H4 (a : BkS) : Bk := Bk.mk (Jv a) (Ag a) a.w.has a.w.st
abbrev X6 (a : BkS) (n : Int) : List Ln := AK (H4 a) n
abbrev Ps (a : BkS) (n : Int) : Nat := (X6 a n).length
abbrev XH (a : BkS) (n : Int) (i : Nat) : Ln := gD (X6 a n) i
abbrev ABD (a : BkS) (n : Int) (i : Nat) : Int := (XH a n i).a0
abbrev C7 (a : BkS) (n : Int) (i : Nat) : Int := (XH a n i).a1
abbrev ABR (a : BkS) (n : Int) (i : Nat) : Int := (XH a n i).b0
abbrev X4 (a : BkS) (n : Int) (i : Nat) : Int := (XH a n i).b1
abbrev ACZ (i : Nat) (a : BkS) (n : Int) : Prop := i < (AK a.w n).length
abbrev NH (x : Gau) : Prop := (0 : Int) <= x.st /\ x.st <= (2000 : Int) /\ (0 : Int) <= x.lo /\ x.lo <= x.hi /\ x.hi <= (200000 : Int)
abbrev C0 (a : BkS) : Prop := (CK a.w a.k).g.length = a.w.g.length
abbrev zW (i : Nat) (a : BkS) : Prop := i < (CK a.w a.k).g.length
abbrev Ui (a : BkS) (i : Nat) : Gau := gD (CK a.w a.k).g i
abbrev Sn (a : BkS) (i : Nat) : Int := (Ui a i).st
abbrev Sz (a : BkS) (i : Nat) : Int := (Ui a i).lo
abbrev So (a : BkS) (i : Nat) : Int := (Ui a i).hi
abbrev ABT (a : BkS) : Prop := ∀ (i : Nat), zW i a -> Sn a i = (gD a.w.g i).st /\ Sz a i = (gD a.w.g i).lo /\ So a i = (gD a.w.g i).hi
abbrev ACP (a : BkS) : Prop := (CK a.w a.k).b.length = a.w.b.length
abbrev K2 (i : Nat) (a : BkS) : Prop := i < (CK a.w a.k).b.length
abbrev Rx (a : BkS) (i : Nat) : Int := gD (CK a.w a.k).b i
abbrev T6 (a : BkS) : Prop := ∀ (i : Nat), K2 i a -> Rx a i = gD a.w.b i
abbrev Ur (i : Nat) (a : BkS) (n : Int) : Prop := i < (AK (CK a.w a.k) n).length
abbrev YC (a : BkS) (n : Int) (i : Nat) : Ln := gD (AK (CK a.w a.k) n) i
abbrev XS (a : BkS) (n : Int) (i : Nat) : Int := (YC a n i).a0
abbrev YU (a : BkS) (n : Int) (i : Nat) : Int := (YC a n i).a1
abbrev YX (a : BkS) (n : Int) (i : Nat) : Int := (YC a n i).b0
abbrev ZO (a : BkS) (n : Int) (i : Nat) : Int := (YC a n i).b1
abbrev Z3 (a : BkS) : List Gau := LD (H4 a) a.k
abbrev Qp (a : BkS) : Nat := (Z3 a).length
abbrev Y9 (a : BkS) : Prop := (sB a).length = Qp a
abbrev YP (a : BkS) (i : Nat) : Gau := gD (Z3 a) i
abbrev L2 (a : BkS) (i : Nat) : Int := (YP a i).st
abbrev Q8 (a : BkS) (i : Nat) : Int := (YP a i).lo
abbrev W5 (a : BkS) (i : Nat) : Int := (YP a i).hi
abbrev N6 (a : BkS) : Prop := ∀ (i : Nat), i < (sB a).length -> (gD (sB a) i).st = L2 a i /\ (gD (sB a) i).lo = Q8 a i /\ (gD (sB a) i).hi = W5 a i
abbrev ACO (a : BkS) : Prop := (DW (sB a) a.st).length = (0 : Nat)
abbrev MA (a : BkS) : Prop := (CK a.w a.k).g.length = (CK a.w a.k).g.length
abbrev NW (a : BkS) : Prop := ∀ (i : Nat), zW i a -> Sn a i = Sn a i /\ Sz a i = Sz a i /\ So a i = So a i
abbrev MT (a : BkS) : Prop := (CK a.w a.k).b.length = (CK a.w a.k).b.length
abbrev NT (a : BkS) : Prop := ∀ (i : Nat), K2 i a -> Rx a i = Rx a i
abbrev MM (a : BkS) : Prop := ∀ (n : Int), (CK a.w a.k).has n = (CK a.w a.k).has n
abbrev MK (a : BkS) : Prop := ∀ (n : Int), (CK a.w a.k).st n = (CK a.w a.k).st n
abbrev MU (a : BkS) : Prop := ∀ (n : Int), (AK (CK a.w a.k) n).length = (AK (CK a.w a.k) n).length /\ ∀ (i : Nat), Ur i a n -> XS a n i = XS a n i /\ YU a n i = YU a n i /\
 YX a n i = YX a n i /\ ZO a n i = ZO a n i
abbrev F8 (a : BkS) : Prop := MA a /\ NW a /\ MT a /\ NT a /\ BQ /\ MM a /\ MK a /\ MU a
abbrev AAH (a : BkS) : Prop := (0 : Int) <= a.st /\ a.st <= (2000 : Int)
abbrev HC (a : BkS) : List Gau := AD (sB a).length λ (i : Nat) => gD (sB a) i
abbrev ZP (a : BkS) : Nat := (HC a).length
abbrev NX (a : BkS) : Prop := ZP a = (sB a).length
abbrev Th (a : BkS) (i : Nat) : Gau := gD (HC a) i
abbrev OD (a : BkS) : Prop := ∀ (i : Nat), i < ZP a -> (Th a i).st = (gD (sB a) i).st /\ (Th a i).lo = (gD (sB a) i).lo /\ (Th a i).hi = (gD (sB a) i).hi
abbrev CM : Prop := (0 : Nat) = (0 : Nat)
abbrev P7 (a : BkS) (a1 : Nat) : Prop := (IV (sB a) a.st a1).length = (2 : Nat)
abbrev G8 (a : BkS) : List Pt := AA (HC a)
abbrev ABK (a : BkS) : Nat := (G8 a).length
abbrev T4 (a : BkS) (i : Nat) : Pt := gD (G8 a) i
abbrev V8 (a : Nat) : Prop := (↑a : Int) = (0 : Int)
abbrev CY (a : BkS) : Prop := (sB a).length = (sB a).length
abbrev DA (a : BkS) : Prop := ∀ (i : Nat), i < (sB a).length -> (gD (sB a) i).st = (gD (sB a) i).st /\ (gD (sB a) i).lo = (gD (sB a) i).lo /\ (gD (sB a) i).hi = (gD (sB a) i).hi
abbrev Tj (a : BkS) : Prop := (EQ (sB a)).length = (EQ (sB a)).length
abbrev Ut (a : BkS) : Prop := ∀ (i : Nat), i < (EQ (sB a)).length -> (gD (EQ (sB a)) i).a0 = (gD (EQ (sB a)) i).a0 /\ (gD (EQ (sB a)) i).a1 = (gD (EQ (sB a)) i).a1 /\ (gD (EQ (sB a)) i).b0 = (gD (EQ (sB a))
 i).b0 /\ (gD (EQ (sB a)) i).b1 = (gD (EQ (sB a)) i).b1
abbrev R0 : Prop := Int.ofNat (0 : Nat) = Int.ofNat (0 : Nat)
abbrev zT : Prop := Int.ofNat (200000 : Nat) = Int.ofNat (200000 : Nat)
abbrev Po (i : Nat) (a : BkS) (a1 : Nat) : Prop := i < (IV (sB a) a.st a1).length
abbrev YY (a : BkS) (a1 : Nat) (i : Nat) : Ln := gD (IV (sB a) a.st a1) i
abbrev WY (a : BkS) (a1 : Nat) (i : Nat) : Int := (YY a a1 i).a0
abbrev WE (i : Nat) : Bool := decide (i = (0 : Nat))
abbrev XB (a : BkS) (a1 : Nat) (i : Nat) : Int := (YY a a1 i).a1
abbrev WD (a : BkS) (a1 : Nat) (i : Nat) : Int := (YY a a1 i).b0
abbrev YD (a : BkS) (a1 : Nat) (i : Nat) : Int := (YY a a1 i).b1
abbrev U5 (a : Nat) (a1 : BkS) : Prop := (↑a : Int) < (↑(AA (sB a1)).length : Int)
abbrev E0 (a : Nat) (a1 : BkS) : Bool := decide (U5 a a1)
abbrev N5 (a : Nat) (a1 : BkS) : Prop := (0 : Int) <= (↑a : Int) /\ U5 a a1
abbrev QZ : Prop := (4 : Nat) = (4 : Nat)
abbrev E8 : Prop := (0 : Nat) < (2 : Nat)
abbrev Uq (a : BkS) (a1 : Nat) : Nat := (IV (sB a) a.st a1).length + (2 : Nat)
abbrev ADR (a : BkS) (a1 : Nat) (a2 : Nat) : Prop := (IV (sB a) a.st a1).length = Uq a a2
abbrev BA (a : BkS) : Prop := (AA (sB a)).length = (AA (sB a)).length
abbrev BB (a : BkS) : Prop := ∀ (i : Nat), i < (AA (sB a)).length -> (gD (AA (sB a)) i).st = (gD (AA (sB a)) i).st /\ (gD (AA (sB a)) i).fl = (gD (AA (sB a)) i).fl
abbrev CF (a : BkS) : Prop := (↑(AA (sB a)).length : Int) = (↑(AA (sB a)).length : Int)
abbrev An (i : Nat) (a : BkS) (a1 : Nat) : Bool := decide (Po i a a1)
abbrev YE (i : Nat) (a : BkS) (a1 : Nat) : Bool := decide ((0 : Nat) + (i - (IV (sB a) a.st a1).length) = (0 : Nat))
abbrev MZ (a : BkS) (a1 : Nat) : Nat := (AA (sB a)).length - a1
abbrev K6 (a : BkS) (a1 : Nat) (a2 : Nat) : Prop := MZ a a1 < MZ a a2
abbrev S6 (a : BkS) : List Ln := AD (EQ (sB a)).length λ (i : Nat) => gD (EQ (sB a)) i
abbrev QQ (a : BkS) : Nat := (S6 a).length
abbrev Af (a : BkS) (i : Nat) : Ln := gD (S6 a) i
abbrev ABP (a : BkS) (i : Nat) : Int := (Af a i).a0
abbrev jZ (a : BkS) (i : Nat) : Int := (Af a i).a1
abbrev fQ (a : BkS) (i : Nat) : Int := (Af a i).b0
abbrev Yv (a : BkS) (i : Nat) : Int := (Af a i).b1
abbrev iF (a : LnK) (a1 : BkS) : Prop := a.l.length = QQ a1
abbrev bU (a : BkS) (a1 : Nat) : Prop := (DE (sB a) a.st).length = (IV (sB a) a.st a1).length
abbrev Yy (i : Nat) (a : BkS) : Prop := i < (DE (sB a) a.st).length
abbrev Hh (a : BkS) (i : Nat) : Int := (gD (DE (sB a) a.st) i).a0
abbrev Cu (a : BkS) (i : Nat) : Int := (gD (DE (sB a) a.st) i).a1
abbrev Dq (a : BkS) (i : Nat) : Int := (gD (DE (sB a) a.st) i).b0
abbrev Fb (a : BkS) (i : Nat) : Int := (gD (DE (sB a) a.st) i).b1
abbrev Dz (a : LnK) (a1 : BkS) : Prop := a.i <= (DE (sB a1) a1.st).length /\ a.l = EQ (sB a1) ++ List.filter (Vg (sB a1)) (List.take a.i (DE (sB a1) a1.st))
abbrev iP (a : LnK) (a1 : BkS) : Prop := (↑a.i : Int) < (↑(DE (sB a1) a1.st).length : Int)
abbrev cX (a : LnK) : Prop := (0 : Int) <= (↑a.i : Int)
abbrev fC (a : LnK) : Nat := (0 : Nat) + a.i
abbrev JF (a : BkS) (a1 : LnK) : Ln := gD (DE (sB a) a.st) (fC a1)
abbrev aG (a : BkS) (a1 : LnK) : Bool := Ar (JF a a1)
abbrev NJ (a : BkS) (a1 : LnK) : Int := (JF a a1).a0
abbrev NS (a : BkS) (a1 : LnK) : Int := (JF a a1).a1
abbrev MV (a : BkS) (a1 : LnK) : Int := (JF a a1).b0
abbrev LQ (a : BkS) (a1 : LnK) : Int := (JF a a1).b1
abbrev MC (a : BkS) : Prop := ZP a < (4611686018427387904 : Nat)
abbrev LZ (g : Gau) (a : BkS) : Prop := List.Mem g (HC a)
abbrev Dp : Prop := (0 : Nat) < (1 : Nat)
abbrev Cw : Prop := (1 : Nat) <= (1 : Nat) /\ (Dp -> QZ)
abbrev oC : Prop := false = true -> Dp
abbrev RH (a : LnK) : Nat := a.l.length + (1 : Nat)
abbrev nY (a : LnK) : Prop := (a.l.length = a.l.length /\ ((0 : Nat) < a.l.length -> QZ)) /\ Cw /\ oC /\ RH a <= (9223372036854775807 : Nat) /\ RH a * (32 : Nat) <= (140737488355328
 : Nat)
abbrev iD (a : LnK) (a1 : LnK) : Prop := a.l.length = RH a1
abbrev MQ (a : BkS) : Prop := (DE (sB a) a.st).length = (DE (sB a) a.st).length
abbrev Gq (a : BkS) : Prop := (↑(DE (sB a) a.st).length : Int) = (↑(DE (sB a) a.st).length : Int)
abbrev fI (a : LnK) (a1 : LnK) : Prop := (↑a.i : Int) = (↑a1.i : Int)
abbrev kZ (a : BkS) : Prop := ∀ (i : Nat), Yy i a -> Hh a i = Hh a i /\ Cu a i = Cu a i /\ Dq a i = Dq a i /\ Fb a i = Fb a i
abbrev GQ (i : Nat) (a : LnK) : Bool := decide (i < a.l.length)
abbrev SD (a : BkS) (a1 : LnK) : Nat := (DE (sB a) a.st).length - a1.i
abbrev Ci (a : LnK) (a1 : BkS) (a2 : LnK) : Prop := a.i < (DE (sB a1) a1.st).length /\ SD a1 a = SD a1 a2 /\ a.l = EQ (sB a1) ++ List.filter (Vg (sB a1)) (List.take (a.i + (1 : Nat)) (DE (sB a1)
 a1.st))
abbrev Gf (a : LnK) (a1 : LnK) : Prop := a.l.length = a1.l.length
abbrev cJ (a : BkS) (a1 : LnK) (a2 : LnK) : Prop := MA a /\ NW a /\ MT a /\ NT a /\ BQ /\ MM a /\ MK a /\ MU a /\ CY a /\ DA a /\ MQ a /\
 kZ a /\ Gf a1 a2 /\ ∀ (i : Nat), i < a1.l.length -> (gD a1.l i).a0 = (gD a2.l i).a0 /\ (gD a1.l i).a1 = (gD a2.l i).a1 /\ (gD a1.l i).b0 = (gD a2.l i).b0 /\ (gD a1.l i).b1 = (gD a2.l i).b1
abbrev Xr (a : BkS) (a1 : LnK) : Prop := ∀ (a_1 : LnK), Ci a_1 a a1 -> ∃ (a_3 : LnK), (CM /\ Gf a_3 a_1 /\ CM /\ MQ a /\ Gq a /\ (↑a_3.i : Int) = IntKind.i64.wrap ((↑a_1.i
 : Int) + (1 : Int)) /\ cJ a a_3 a_1) /\ Dz a_3 a /\ SD a a_3 < SD a a1
abbrev nJ (a : LnK) : Prop := (0 : Nat) + a.l.length <= a.l.length
abbrev RJ (a : LnK) (j : Nat) : Ln := gD a.l ((0 : Nat) + j)
abbrev fE (a : LnK) (j : Nat) : Int := (RJ a j).a0
abbrev nW (a : LnK) (j : Nat) : Int := (RJ a j).a1
abbrev Wt (a : LnK) (j : Nat) : Int := (RJ a j).b0
abbrev jF (a : LnK) (j : Nat) : Int := (RJ a j).b1
abbrev mX (a : BkS) : Prop := ∀ (a_1 : One), True -> bif bif decide ((↑(sB a).length : Int) > (0 : Int)) then (↑(EQ (sB a)).length : Int) == (0 : Int) else false then ACO a /\ ACO a /\ F8 a else
 (AAH a /\ AAH a) /\ (NX a /\ OD a /\ ZP a < (1073741824 : Nat) /\ True) /\ (∃ (a_3 : Nat), (CM /\ P7 a a_3 /\ (AA (sB a)).length = ABK a /\ (∀ (i : Nat), i < (AA (sB
 a)).length -> (gD (AA (sB a)) i).st = (T4 a i).st /\ (gD (AA (sB a)) i).fl = (T4 a i).fl) /\ (↑(AA (sB a)).length : Int) = (↑(ABK a) : Int) /\ V8 a_3 /\ MA a /\ NW a /\
 MT a /\ NT a /\ BQ /\ MM a /\ MK a /\ MU a /\ CY a /\ DA a /\ Tj a /\ Ut a /\ a.st = a.st /\ R0 /\ a.st = a.st /\ zT /\ P7 a a_3 /\ ∀ (i : Nat),
 Po i a a_3 -> (WY a a_3 i = bif WE i then (AL (Pt.mk a.st (0 : Int))).a0 else (AL (Pt.mk a.st (200000 : Int))).a0) /\ (XB a a_3 i = bif WE i then (AL (Pt.mk a.st (0 : Int))).a1 else
 (AL (Pt.mk a.st (200000 : Int))).a1) /\ (WD a a_3 i = bif WE i then (AL (Pt.mk a.st (0 : Int))).b0 else (AL (Pt.mk a.st (200000 : Int))).b0) /\ YD a a_3 i = bif WE i then (AL (Pt.mk a.st
 (0 : Int))).b1 else (AL (Pt.mk a.st (200000 : Int))).b1) /\ a_3.le (AA (sB a)).length) /\ ∀ (a_3 : Nat), a_3.le (AA (sB a)).length -> bif E0 a_3 a then N5 a_3 a /\ (((IV (sB a) a.st a_3).length = (IV
 (sB a) a.st a_3).length /\ ((0 : Nat) < (IV (sB a) a.st a_3).length -> QZ)) /\ ((2 : Nat) <= (2 : Nat) /\ (E8 -> QZ)) /\ (false = true -> E8) /\ Uq a a_3 <= (9223372036854775807 : Nat) /\
 Uq a a_3 * (32 : Nat) <= (140737488355328 : Nat)) /\ ∃ (a_5 : Nat), (CM /\ ADR a a_5 a_3 /\ BA a /\ BB a /\ CF a /\ (↑a_5 : Int) = IntKind.i64.wrap ((↑a_3 : Int) + (1 : Int)) /\ MA
 a /\ NW a /\ MT a /\ NT a /\ BQ /\ MM a /\ MK a /\ MU a /\ CY a /\ DA a /\ Tj a /\ Ut a /\ a.st = a.st /\ R0 /\ a.st = a.st /\ zT /\ ADR a
 a_5 a_3 /\ ∀ (i : Nat), Po i a a_5 -> (WY a a_5 i = bif An i a a_3 then WY a a_3 i else bif YE i a a_3 then a.st else (gD (AA (sB a)) a_3).st) /\ (XB a a_5 i = bif An i a
 a_3 then XB a a_3 i else bif YE i a a_3 then (0 : Int) else (gD (AA (sB a)) a_3).fl) /\ (WD a a_5 i = bif An i a a_3 then WD a a_3 i else bif YE i a a_3 then (gD (AA (sB a))
 a_3).st else a.st) /\ YD a a_5 i = bif An i a a_3 then YD a a_3 i else bif YE i a a_3 then (gD (AA (sB a)) a_3).fl else (200000 : Int)) /\ a_5.le (AA (sB a)).length /\ K6 a a_5 a_3
 else (QQ a = (EQ (sB a)).length /\ (∀ (i : Nat), i < QQ a -> ABP a i = (gD (EQ (sB a)) i).a0 /\ jZ a i = (gD (EQ (sB a)) i).a1 /\ fQ a i = (gD (EQ (sB a)) i).b0 /\ Yv a i = (gD
 (EQ (sB a)) i).b1) /\ (0 : Nat) < QQ a /\ QQ a < (1073741824 : Nat)) /\ (∃ (a_5 : LnK), (CM /\ iF a_5 a /\ CM /\ bU a a_3 /\ (↑(DE (sB a) a.st).length : Int) = (↑(IV (sB a) a.st
 a_3).length : Int) /\ (↑a_5.i : Int) = (0 : Int) /\ MA a /\ NW a /\ MT a /\ NT a /\ BQ /\ MM a /\ MK a /\ MU a /\ CY a /\ DA a /\ bU a a_3 /\ (∀ (i : Nat),
 Yy i a -> Hh a i = WY a a_3 i /\ Cu a i = XB a a_3 i /\ Dq a i = WD a a_3 i /\ Fb a i = YD a a_3 i) /\ iF a_5 a /\ ∀ (i : Nat), i < a_5.l.length -> (gD
 a_5.l i).a0 = ABP a i /\ (gD a_5.l i).a1 = jZ a i /\ (gD a_5.l i).b0 = fQ a i /\ (gD a_5.l i).b1 = Yv a i) /\ Dz a_5 a) /\ ∀ (a_5 : LnK), Dz a_5 a -> bif decide (iP a_5 a)
 then (((cX a_5 /\ iP a_5 a) /\ (fC a_5).succ.le (DE (sB a) a.st).length) /\ (aG a a_5 = true -> NX a /\ OD a /\ NJ a a_5 = NJ a a_5 /\ NS a a_5 = NS
 a a_5 /\ MV a a_5 = MV a a_5 /\ LQ a a_5 = LQ a a_5 /\ MC a /\ ∀ (g : Gau), LZ g a -> ((0 : Int) <= NJ a a_5 /\ NJ a a_5 < MV a a_5 /\ MV a a_5 <=
 (2000 : Int) /\ (0 : Int) <= NS a a_5 /\ NS a a_5 <= LQ a a_5 /\ LQ a a_5 <= (200000 : Int)) /\ NH g) /\ bif bif aG a a_5 then (HC a).all λ (g : Gau) => BR (JF a
 a_5) g else false then nY a_5 /\ ∃ (a_7 : LnK), (CM /\ iD a_7 a_5 /\ CM /\ MQ a /\ Gq a /\ fI a_7 a_5 /\ MA a /\ NW a /\ MT a /\ NT a /\ BQ /\
 MM a /\ MK a /\ MU a /\ CY a /\ DA a /\ MQ a /\ kZ a /\ iD a_7 a_5 /\ ∀ (i : Nat), i < a_7.l.length -> ((gD a_7.l i).a0 = bif GQ i a_5 then (gD a_5.l i).a0 else
 NJ a a_5) /\ ((gD a_7.l i).a1 = bif GQ i a_5 then (gD a_5.l i).a1 else NS a a_5) /\ ((gD a_7.l i).b0 = bif GQ i a_5 then (gD a_5.l i).b0 else MV a a_5) /\ (gD a_7.l i).b1 = bif
 GQ i a_5 then (gD a_5.l i).b1 else LQ a a_5) /\ Ci a_7 a a_5 else ∃ (a_7 : LnK), (CM /\ Gf a_7 a_5 /\ CM /\ MQ a /\ Gq a /\ fI a_7 a_5 /\ cJ a a_7
 a_5) /\ Ci a_7 a a_5) /\ Xr a a_5 /\ Xr a a_5 else (DW (sB a) a.st).length = a_5.l.length /\ nJ a_5 /\ (∀ (j : Nat), j < (DW (sB a) a.st).length -> (gD (DW (sB a) a.st) j).a0 = fE
 a_5 j /\ (gD (DW (sB a) a.st) j).a1 = nW a_5 j /\ (gD (DW (sB a) a.st) j).b0 = Wt a_5 j /\ (gD (DW (sB a) a.st) j).b1 = jF a_5 j) /\ F8 a
abbrev Zz (a : BkS) : List Gau := AD (Qp a) λ (i : Nat) => YP a i
abbrev UC (a : BkS) : Nat := (Zz a).length
abbrev UF (a : BkS) (i : Nat) : Gau := gD (Zz a) i
abbrev hY (a : BkS) (i : Nat) : Int := (UF a i).st
abbrev Yg (a : BkS) (i : Nat) : Int := (UF a i).lo
abbrev mJ (a : BkS) (i : Nat) : Int := (UF a i).hi
abbrev Ex (a : BkS) : List Gau := AD (UC a) λ (i : Nat) => UF a i
abbrev Ev (a : BkS) : Nat := (Ex a).length
abbrev Cp (a : BkS) (i : Nat) : Gau := gD (Ex a) i
abbrev aU (a : BkS) : List Pt := AA (Ex a)
abbrev cK (a : BkS) : Nat := (aU a).length
abbrev dX (a : BkS) : Prop := (AA (sB a)).length = cK a
abbrev nB (a : BkS) (i : Nat) : Pt := gD (aU a) i
abbrev Wq (a : BkS) : Prop := ∀ (i : Nat), i < (AA (sB a)).length -> (gD (AA (sB a)) i).st = (nB a i).st /\ (gD (AA (sB a)) i).fl = (nB a i).fl
abbrev EF (a : BkS) : Prop := a.w.g.length = a.w.g.length
abbrev EE (a : BkS) : Prop := ∀ (i : Nat), i < a.w.g.length -> (gD a.w.g i).st = (gD a.w.g i).st /\ (gD a.w.g i).lo = (gD a.w.g i).lo /\ (gD a.w.g i).hi = (gD a.w.g i).hi
abbrev EG (a : BkS) : Prop := a.w.b.length = a.w.b.length
abbrev EK (a : BkS) : Prop := ∀ (i : Nat), i < a.w.b.length -> gD a.w.b i = gD a.w.b i
abbrev EI (a : BkS) : Prop := ∀ (n : Int), (AK a.w n).length = (AK a.w n).length /\ ∀ (i : Nat), ACZ i a n -> (gD (AK a.w n) i).a0 = (gD (AK a.w n) i).a0 /\ (gD (AK a.w n) i).a1 = (gD (AK a.w n) i).a1 /\
 (gD (AK a.w n) i).b0 = (gD (AK a.w n) i).b0 /\ (gD (AK a.w n) i).b1 = (gD (AK a.w n) i).b1
abbrev nK : Prop := CM /\ ∀ (i : Nat), i < (0 : Nat) -> false = false
abbrev UL (a : Nat) (a1 : BkS) : Prop := a <= (AA (sB a1)).length /\ List.filter (JC (sB a1)) (PK (sB a1) a) = []
abbrev Au : Prop := (True /\ ((0 : Nat) < (0 : Nat) -> (0 : Nat) = (4 : Nat))) /\ Cw /\ (true = true -> Dp) /\ (1 : Nat) <= (9223372036854775807 : Nat) /\ (32 : Nat) <= (140737488355328 : Nat)
abbrev Ca (a : LnJ) : Prop := (↑a.j : Int) = (0 : Int)
abbrev RQ (a : LnJ) : Prop := a.l.length = (1 : Nat)
abbrev oF (a : LnJ) (a1 : BkS) : Prop := a.i < (AA (sB a1)).length
abbrev Xf (a : LnJ) (a1 : BkS) : Prop := a.j <= (AA (sB a1)).length
abbrev Zj (a : BkS) (a1 : LnJ) : Nat := (AA (sB a)).length - a1.i
abbrev bX (a : LnJ) (a1 : BkS) : Prop := a.l = List.filter (JC (sB a1)) (ET (sB a1) a.i a.j)
abbrev SC (a : LnJ) (a1 : BkS) (a2 : Nat) : Prop := oF a a1 /\ Xf a a1 /\ Zj a1 a = MZ a1 a2 /\ bX a a1
abbrev Zs (a : IJ) (a1 : BkS) : Prop := a.i < (AA (sB a1)).length
abbrev nN (a : IJ) (a1 : BkS) : Prop := a.j <= (AA (sB a1)).length
abbrev gZ (a : BkS) (a1 : IJ) : Nat := (AA (sB a)).length - a1.i
abbrev nO (a : BkS) (a1 : IJ) : Prop := List.filter (JC (sB a)) (ET (sB a) a1.i a1.j) = []
abbrev Da (a : IJ) (a1 : BkS) (a2 : Nat) : Prop := Zs a a1 /\ nN a a1 /\ gZ a1 a = MZ a1 a2 /\ nO a1 a
abbrev iY (a : IJ) (a1 : BkS) : Prop := (↑a.j : Int) < (↑(AA (sB a1)).length : Int)
abbrev oB (a : IJ) (a1 : BkS) : Bool := decide (iY a a1)
abbrev mP (a : IJ) (a1 : BkS) : Prop := (0 : Int) <= (↑a.j : Int) /\ iY a a1
abbrev cH (a : BkS) (a1 : IJ) : Ln := Ln.mk (gD (AA (sB a)) a1.i).st (gD (AA (sB a)) a1.i).fl (gD (AA (sB a)) a1.j).st (gD (AA (sB a)) a1.j).fl
abbrev Zb (a : BkS) (a1 : IJ) : Bool := Ar (cH a a1)
abbrev dI (a : BkS) (a1 : IJ) : Bool := if true = true then Zb a a1 else !Zb a a1
abbrev cO (a : BkS) (a1 : IJ) : Prop := NX a /\ OD a /\ (gD (AA (sB a)) a1.i).st = (gD (AA (sB a)) a1.i).st /\ (gD (AA (sB a)) a1.i).fl = (gD (AA (sB a)) a1.i).fl /\ (gD (AA (sB a))
 a1.j).st = (gD (AA (sB a)) a1.j).st /\ (gD (AA (sB a)) a1.j).fl = (gD (AA (sB a)) a1.j).fl /\ MC a /\ ∀ (g : Gau), LZ g a -> ((0 : Int) <= (gD (AA (sB a)) a1.i).st /\ (gD (AA (sB a)) a1.i).st <
 (gD (AA (sB a)) a1.j).st /\ (gD (AA (sB a)) a1.j).st <= (2000 : Int) /\ (0 : Int) <= (gD (AA (sB a)) a1.i).fl /\ (gD (AA (sB a)) a1.i).fl <= (gD (AA (sB a)) a1.j).fl /\ (gD (AA (sB a)) a1.j).fl <= (200000 :
 Int)) /\ NH g
abbrev eK (a : BkS) (a1 : IJ) : Bool := (HC a).all λ (g : Gau) => BR (cH a a1) g
abbrev kP (a : IJ) : Int := IntKind.i64.wrap ((↑a.j : Int) + (1 : Int))
abbrev cF (a : BkS) (a1 : LnJ) (a2 : IJ) (l : Nat) : Prop := BA a /\ BB a /\ CF a /\ (↑a1.j : Int) = kP a2 /\ Fn.yield l = Fn.yield l /\ BA a /\ BB a /\ BA a /\ BB
 a /\ CF a /\ (↑a1.i : Int) = (↑a2.i : Int) /\ (gD (AA (sB a)) a1.i).st = (gD (AA (sB a)) a2.i).st /\ (gD (AA (sB a)) a1.i).fl = (gD (AA (sB a)) a2.i).fl /\ EF a /\ EE a /\ EG a /\
 EK a /\ BQ /\ DY a /\ DZ a /\ EI a /\ CY a /\ DA a /\ CM /\ RQ a1 /\ RQ a1 /\ ∀ (i : Nat), i < a1.l.length -> (gD a1.l i).a0 = (gD (AA (sB a)) a2.i).st /\
 (gD a1.l i).a1 = (gD (AA (sB a)) a2.i).fl /\ (gD a1.l i).b0 = (gD (AA (sB a)) a2.j).st /\ (gD a1.l i).b1 = (gD (AA (sB a)) a2.j).fl
abbrev Ck (a : BkS) (a1 : LnJ) : Nat := (AA (sB a)).length - a1.j
abbrev Bl (a : BkS) (a1 : IJ) : Nat := (AA (sB a)).length - a1.j
abbrev eS (a : BkS) (a1 : LnJ) (a2 : IJ) : Prop := Ck a a1 < Bl a a2
abbrev De (a : BkS) : Prop := EF a /\ EE a /\ EG a /\ EK a /\ BQ /\ DY a /\ DZ a /\ EI a /\ CY a /\ DA a /\ nK
abbrev Wz (a : BkS) (a1 : IJ) (a2 : IJ) (l : Nat) : Prop := BA a /\ BB a /\ CF a /\ (↑a1.j : Int) = kP a2 /\ Fn.yield l = Fn.yield l /\ BA a /\ BB a /\ BA a /\ BB
 a /\ CF a /\ (↑a1.i : Int) = (↑a2.i : Int) /\ (gD (AA (sB a)) a1.i).st = (gD (AA (sB a)) a2.i).st /\ (gD (AA (sB a)) a1.i).fl = (gD (AA (sB a)) a2.i).fl /\ De a
abbrev Yc (a : BkS) (a1 : IJ) (a2 : IJ) : Prop := Bl a a1 < Bl a a2
abbrev gC (a : BkS) (a1 : IJ) (l : Nat) (a2 : Nat) : Prop := ∃ (a_1 : IJ), Wz a a_1 a1 l /\ Da a_1 a a2 /\ Yc a a_1 a1
abbrev Zk (l : Nat) (a : BkS) (a1 : Nat) (a2 : IJ) : Prop := Fn.yield l = Fn.yield l /\ BA a /\ BB a /\ BA a /\ BB a /\ CF a /\ (↑a1 : Int) = IntKind.i64.wrap ((↑a2.i : Int) + (1 :
 Int)) /\ De a
abbrev eU (a : LnJ) (a1 : BkS) : Prop := (↑a.j : Int) < (↑(AA (sB a1)).length : Int)
abbrev nZ (a : LnJ) (a1 : BkS) : Bool := decide (eU a a1)
abbrev mK (a : LnJ) (a1 : BkS) : Prop := (0 : Int) <= (↑a.j : Int) /\ eU a a1
abbrev Xc (a : BkS) (a1 : LnJ) : Ln := Ln.mk (gD (AA (sB a)) a1.i).st (gD (AA (sB a)) a1.i).fl (gD (AA (sB a)) a1.j).st (gD (AA (sB a)) a1.j).fl
abbrev kH (a : BkS) (a1 : LnJ) : Bool := Ar (Xc a a1)
abbrev Zh (a : BkS) (a1 : LnJ) : Bool := if true = true then kH a a1 else !kH a a1
abbrev kX (a : BkS) (a1 : LnJ) : Prop := NX a /\ OD a /\ (gD (AA (sB a)) a1.i).st = (gD (AA (sB a)) a1.i).st /\ (gD (AA (sB a)) a1.i).fl = (gD (AA (sB a)) a1.i).fl /\ (gD (AA (sB a))
 a1.j).st = (gD (AA (sB a)) a1.j).st /\ (gD (AA (sB a)) a1.j).fl = (gD (AA (sB a)) a1.j).fl /\ MC a /\ ∀ (g : Gau), LZ g a -> ((0 : Int) <= (gD (AA (sB a)) a1.i).st /\ (gD (AA (sB a)) a1.i).st <
 (gD (AA (sB a)) a1.j).st /\ (gD (AA (sB a)) a1.j).st <= (2000 : Int) /\ (0 : Int) <= (gD (AA (sB a)) a1.i).fl /\ (gD (AA (sB a)) a1.i).fl <= (gD (AA (sB a)) a1.j).fl /\ (gD (AA (sB a)) a1.j).fl <= (200000 :
 Int)) /\ NH g
abbrev aL (a : BkS) (a1 : LnJ) : Bool := (HC a).all λ (g : Gau) => BR (Xc a a1) g
abbrev Be (a : LnJ) : Nat := a.l.length + (1 : Nat)
abbrev fV (a : LnJ) : Prop := (a.l.length = a.l.length /\ ((0 : Nat) < a.l.length -> QZ)) /\ Cw /\ oC /\ Be a <= (9223372036854775807 : Nat) /\ Be a * (32 : Nat) <= (140737488355328
 : Nat)
abbrev Zd (a : LnJ) (a1 : LnJ) : Prop := (↑a.j : Int) = IntKind.i64.wrap ((↑a1.j : Int) + (1 : Int))
abbrev bE (a : LnJ) (a1 : LnJ) : Prop := (↑a.i : Int) = (↑a1.i : Int)
abbrev dN (a : BkS) (a1 : LnJ) (a2 : LnJ) : Prop := (gD (AA (sB a)) a1.i).st = (gD (AA (sB a)) a2.i).st
abbrev iC (a : BkS) (a1 : LnJ) (a2 : LnJ) : Prop := (gD (AA (sB a)) a1.i).fl = (gD (AA (sB a)) a2.i).fl
abbrev fX (a : LnJ) (a1 : LnJ) : Prop := a.l.length = Be a1
abbrev RV (i : Nat) (a : LnJ) : Bool := decide (i < a.l.length)
abbrev oH (a : BkS) (a1 : LnJ) (a2 : LnJ) (l : Nat) : Prop := BA a /\ BB a /\ CF a /\ Zd a1 a2 /\ Fn.yield l = Fn.yield l /\ BA a /\ BB a /\ BA a /\ BB a /\
 CF a /\ bE a1 a2 /\ dN a a1 a2 /\ iC a a1 a2 /\ EF a /\ EE a /\ EG a /\ EK a /\ BQ /\ DY a /\ DZ a /\ EI a /\ CY a /\ DA a /\
 CM /\ fX a1 a2 /\ fX a1 a2 /\ ∀ (i : Nat), i < a1.l.length -> ((gD a1.l i).a0 = bif RV i a2 then (gD a2.l i).a0 else (gD (AA (sB a)) a2.i).st) /\ ((gD a1.l i).a1 = bif RV i a2 then
 (gD a2.l i).a1 else (gD (AA (sB a)) a2.i).fl) /\ ((gD a1.l i).b0 = bif RV i a2 then (gD a2.l i).b0 else (gD (AA (sB a)) a2.j).st) /\ (gD a1.l i).b1 = bif RV i a2 then (gD a2.l i).b1 else (gD (AA
 (sB a)) a2.j).fl
abbrev eY (a : BkS) (a1 : LnJ) (a2 : LnJ) : Prop := Ck a a1 < Ck a a2
abbrev bQ (a : LnJ) (a1 : BkS) (a2 : Nat) (a3 : LnJ) : Prop := SC a a1 a2 /\ eY a1 a a3
abbrev Wf (a : LnJ) (a1 : LnJ) : Prop := a.l.length = a1.l.length
abbrev jH (a : BkS) (a1 : LnJ) (a2 : LnJ) (l : Nat) : Prop := BA a /\ BB a /\ CF a /\ Zd a1 a2 /\ Fn.yield l = Fn.yield l /\ BA a /\ BB a /\ BA a /\ BB a /\
 CF a /\ bE a1 a2 /\ dN a a1 a2 /\ iC a a1 a2 /\ EF a /\ EE a /\ EG a /\ EK a /\ BQ /\ DY a /\ DZ a /\ EI a /\ CY a /\ DA a /\
 CM /\ Wf a1 a2 /\ Wf a1 a2 /\ ∀ (i : Nat), i < a1.l.length -> (gD a1.l i).a0 = (gD a2.l i).a0 /\ (gD a1.l i).a1 = (gD a2.l i).a1 /\ (gD a1.l i).b0 = (gD a2.l i).b0 /\ (gD a1.l i).b1 = (gD a2.l i).b1
abbrev cI (a : BkS) (a1 : LnJ) (l : Nat) (a2 : Nat) : Prop := ∃ (a_1 : LnJ), jH a a_1 a1 l /\ bQ a_1 a a2 a1
abbrev jY (a : LnK) (a1 : LnJ) : Prop := a.l.length = a1.l.length
abbrev Xz (l : Nat) (a : BkS) (a1 : LnK) (a2 : LnJ) : Prop := Fn.yield l = Fn.yield l /\ BA a /\ BB a /\ BA a /\ BB a /\ CF a /\ (↑a1.i : Int) = IntKind.i64.wrap ((↑a2.i : Int) + (1 :
 Int)) /\ EF a /\ EE a /\ EG a /\ EK a /\ BQ /\ DY a /\ DZ a /\ EI a /\ CY a /\ DA a /\ CM /\ jY a1 a2 /\ jY a1 a2 /\ ∀ (i : Nat), i <
 a1.l.length -> (gD a1.l i).a0 = (gD a2.l i).a0 /\ (gD a1.l i).a1 = (gD a2.l i).a1 /\ (gD a1.l i).b0 = (gD a2.l i).b0 /\ (gD a1.l i).b1 = (gD a2.l i).b1
abbrev Dw (a : LnK) (a1 : BkS) : Prop := a.i <= (AA (sB a1)).length /\ a.l = List.filter (JC (sB a1)) (PK (sB a1) a.i)
abbrev JH (a : BkS) (a1 : LnK) : Nat := (AA (sB a)).length - a1.i
abbrev aO (a : BkS) (a1 : Nat) (l : Nat) : Prop := ∀ (a_1 : LnJ), SC a_1 a a1 -> bif nZ a_1 a then mK a_1 a /\ bif Zh a a_1 then l = l /\ kX a a_1 /\ bif aL a a_1 then
 fV a_1 /\ ∃ (a_3 : LnJ), oH a a_3 a_1 l /\ bQ a_3 a a1 a_1 else cI a a_1 l a1 else cI a a_1 l a1 else ∃ (a_3 : LnK), Xz l a a_3 a_1 /\ Dw a_3 a /\ JH a a_3 <
 MZ a a1
abbrev kE (a : BkS) (a1 : Nat) (l : Nat) : Prop := (∀ (a_1 : IJ), Da a_1 a a1 -> bif oB a_1 a then mP a_1 a /\ bif dI a a_1 then l = l /\ cO a a_1 /\ bif eK a a_1 then
 Au /\ ∃ (a_3 : LnJ), cF a a_3 a_1 l /\ SC a_3 a a1 /\ eS a a_3 a_1 else gC a a_1 l a1 else gC a a_1 l a1 else ∃ (a_3 : Nat), Zk l a a_3 a_1 /\ UL a_3 a /\
 K6 a a_3 a1) /\ aO a a1 l /\ aO a a1 l
abbrev dO (a : BkS) : Prop := (EQ (sB a)).length = (0 : Nat)
abbrev bA (a : LnK) (a1 : BkS) : Prop := (↑a.i : Int) < (↑(AA (sB a1)).length : Int)
abbrev NF (a : BkS) (a1 : LnK) : Int := (AL (gD (AA (sB a)) a1.i)).a0
abbrev NG (a : BkS) (a1 : LnK) : Int := (AL (gD (AA (sB a)) a1.i)).a1
abbrev ME (a : BkS) (a1 : LnK) : Int := (AL (gD (AA (sB a)) a1.i)).b0
abbrev NQ (a : BkS) (a1 : LnK) : Int := (AL (gD (AA (sB a)) a1.i)).b1
abbrev bV (a : LnJ) (a1 : LnK) : Prop := (↑a.i : Int) = (↑a1.i : Int)
abbrev lT (a : BkS) (a1 : LnJ) (a2 : LnK) : Prop := (gD (AA (sB a)) a1.i).st = (gD (AA (sB a)) a2.i).st
abbrev We (a : BkS) (a1 : LnJ) (a2 : LnK) : Prop := (gD (AA (sB a)) a1.i).fl = (gD (AA (sB a)) a2.i).fl
abbrev dG (a : LnJ) (a1 : LnK) : Prop := a.l.length = RH a1
abbrev NA (a : LnJ) (a1 : BkS) (a2 : LnK) : Prop := oF a a1 /\ Xf a a1 /\ Zj a1 a = JH a1 a2 /\ bX a a1
abbrev eQ (a : IJ) (a1 : BkS) (a2 : LnK) : Prop := Zs a a1 /\ nN a a1 /\ gZ a1 a = JH a1 a2 /\ nO a1 a
abbrev jV (a : BkS) (a1 : IJ) (l : Nat) (a2 : LnK) : Prop := ∃ (a_1 : IJ), Wz a a_1 a1 l /\ eQ a_1 a a2 /\ Yc a a_1 a1
abbrev Yj (a : LnJ) (a1 : BkS) (a2 : LnK) (a3 : LnJ) : Prop := NA a a1 a2 /\ eY a1 a a3
abbrev lV (a : BkS) (a1 : LnJ) (l : Nat) (a2 : LnK) : Prop := ∃ (a_1 : LnJ), jH a a_1 a1 l /\ Yj a_1 a a2 a1
abbrev kC (a : BkS) (a1 : LnK) (l : Nat) : Prop := ∀ (a_1 : LnJ), NA a_1 a a1 -> bif nZ a_1 a then mK a_1 a /\ bif Zh a a_1 then l = l /\ kX a a_1 /\ bif aL a a_1 then
 fV a_1 /\ ∃ (a_3 : LnJ), oH a a_3 a_1 l /\ Yj a_3 a a1 a_1 else lV a a_1 l a1 else lV a a_1 l a1 else ∃ (a_3 : LnK), Xz l a a_3 a_1 /\ Dw a_3 a /\ JH a a_3 <
 JH a a1
abbrev Za (a : BkS) (a1 : LnK) (l : Nat) : Prop := (∀ (a_1 : IJ), eQ a_1 a a1 -> bif oB a_1 a then mP a_1 a /\ bif dI a a_1 then l = l /\ cO a a_1 /\ bif eK a a_1 then
 Au /\ ∃ (a_3 : LnJ), cF a a_3 a_1 l /\ NA a_3 a a1 /\ eS a a_3 a_1 else jV a a_1 l a1 else jV a a_1 l a1 else ∃ (a_3 : Nat), Zk l a a_3 a_1 /\ UL a_3 a /\
 MZ a a_3 < JH a a1) /\ kC a a1 l /\ kC a a1 l
abbrev gF (a : LnJ) (a1 : LnK) : Prop := a.l.length = a1.l.length
abbrev NK (n : Int) (a : BkS) : Bool := decide (n = a.k)
abbrev Vx (a : BkS) : Prop := ∀ (a_1 : One), True -> ∃ (a_3 : One), (a.st = a.st /\ C0 a /\ ABT a /\ ACP a /\ T6 a /\ BQ /\ (∀ (n : Int), (CK a.w a.k).has n = GX a.w.has a.k n) /\ (∀
 (n : Int), (CK a.w a.k).st n = Vb a.w.has a.w.st a.k n) /\ (∀ (n : Int), ((AK (CK a.w a.k) n).length = bif NK n a then (EQ (sB a)).length else (AK a.w n).length) /\ ∀ (i : Nat), Ur i a n -> (XS
 a n i = bif NK n a then (gD (EQ (sB a)) i).a0 else (gD (AK a.w n) i).a0) /\ (YU a n i = bif NK n a then (gD (EQ (sB a)) i).a1 else (gD (AK a.w n) i).a1) /\ (YX a n i = bif NK n a
 then (gD (EQ (sB a)) i).b0 else (gD (AK a.w n) i).b0) /\ ZO a n i = bif NK n a then (gD (EQ (sB a)) i).b1 else (gD (AK a.w n) i).b1) /\ CY a /\ DA a /\ Tj a /\ Ut a) /\ True
theorem CHH (a : BkS) : (BXD a) = ((a.k = a.k /\ Kc a = a.w.g.length /\ (∀ (i : Nat), i < Kc a -> ALM a i = (gD a.w.g i).st /\ AWG a i = (gD a.w.g i).lo /\ ATV a i = (gD a.w.g i).hi) /\
 Nn a = a.w.b.length /\ (∀ (i : Nat), i < Nn a -> AQG a i = gD a.w.b i) /\ BQ /\ DY a /\ DZ a /\ (∀ (n : Int), Ps a n = (AK a.w n).length /\ ∀ (i : Nat), i < Ps a n ->
 ABD a n i = (gD (AK a.w n) i).a0 /\ C7 a n i = (gD (AK a.w n) i).a1 /\ ABR a n i = (gD (AK a.w n) i).b0 /\ X4 a n i = (gD (AK a.w n) i).b1) /\ a.w.g.length = Kc a /\ (∀ (i : Nat), i <
 a.w.g.length -> (gD a.w.g i).st = ALM a i /\ (gD a.w.g i).lo = AWG a i /\ (gD a.w.g i).hi = ATV a i) /\ a.w.b.length = Nn a /\ (∀ (i : Nat), i < a.w.b.length -> gD a.w.b i = AQG a i) /\ BQ /\
 DY a /\ DZ a /\ (∀ (n : Int), (AK a.w n).length = Ps a n /\ ∀ (i : Nat), ACZ i a n -> (gD (AK a.w n) i).a0 = ABD a n i /\ (gD (AK a.w n) i).a1 = C7 a n i /\ (gD (AK a.w n) i).b0 =
 ABR a n i /\ (gD (AK a.w n) i).b1 = X4 a n i) /\ (Kc a <= (24 : Nat) /\ (∀ (x : Gau), List.Mem x (Jv a) -> NH x) /\ Nn a <= (24 : Nat) /\ List.Pairwise (λ (x1 x2 : Int) => x1 < x2)
 (Ag a) /\ ∀ (x : Int), List.Mem x (Ag a) -> (1 : Int) <= x /\ x <= (2000 : Int)) /\ True) /\ BQ /\ bif a.w.has a.k then (∃ (a_1 : One), (a.st = a.st /\ C0 a /\ ABT a /\ ACP a /\ T6 a /\
 BQ /\ (∀ (n : Int), (CK a.w a.k).has n = a.w.has n) /\ (∀ (n : Int), (CK a.w a.k).st n = a.w.st n) /\ (∀ (n : Int), (AK (CK a.w a.k) n).length = (AK a.w n).length /\ ∀ (i : Nat), Ur i a n -> XS a n i
 = (gD (AK a.w n) i).a0 /\ YU a n i = (gD (AK a.w n) i).a1 /\ YX a n i = (gD (AK a.w n) i).b0 /\ ZO a n i = (gD (AK a.w n) i).b1) /\ Y9 a /\ N6 a /\ (EQ (sB a)).length = (AK a.w
 a.k).length /\ ∀ (i : Nat), i < (EQ (sB a)).length -> (gD (EQ (sB a)) i).a0 = (gD (AK a.w a.k) i).a0 /\ (gD (EQ (sB a)) i).a1 = (gD (AK a.w a.k) i).a1 /\ (gD (EQ (sB a)) i).b0 = (gD (AK a.w a.k) i).b0 /\ (gD (EQ (sB
 a)) i).b1 = (gD (AK a.w a.k) i).b1) /\ True) /\ mX a else (((UC a = Qp a /\ ∀ (i : Nat), i < UC a -> hY a i = L2 a i /\ Yg a i = Q8 a i /\ mJ a i =
 W5 a i) /\ ∀ (l : Nat), (Ev a = UC a /\ (∀ (i : Nat), i < Ev a -> (Cp a i).st = hY a i /\ (Cp a i).lo = Yg a i /\ (Cp a i).hi = mJ a i) /\
 Ev a < (1073741824 : Nat) /\ True) /\ (∃ (a_1 : Nat), (Fn.yield l = Fn.yield l /\ dX a /\ Wq a /\ dX a /\ Wq a /\ (↑(AA (sB a)).length : Int) = (↑(cK a) : Int) /\ V8 a_1
 /\ EF a /\ EE a /\ EG a /\ EK a /\ BQ /\ DY a /\ DZ a /\ EI a /\ Y9 a /\ N6 a /\ nK) /\ UL a_1 a) /\ (∀ (a_1 : Nat), UL a_1 a -> bif
 E0 a_1 a then N5 a_1 a /\ ((0 : Int) <= (gD (AA (sB a)) a_1).st /\ (gD (AA (sB a)) a_1).st <= (2000 : Int)) /\ l = l /\ (NX a /\ OD a /\ (AL (gD (AA (sB a)) a_1)).a0 = (AL (gD (AA (sB
 a)) a_1)).a0 /\ (AL (gD (AA (sB a)) a_1)).a1 = (AL (gD (AA (sB a)) a_1)).a1 /\ (AL (gD (AA (sB a)) a_1)).b0 = (AL (gD (AA (sB a)) a_1)).b0 /\ (AL (gD (AA (sB a)) a_1)).b1 = (AL (gD (AA (sB a))
 a_1)).b1 /\ MC a /\ ∀ (g : Gau), LZ g a -> ((0 : Int) <= (AL (gD (AA (sB a)) a_1)).a0 /\ (AL (gD (AA (sB a)) a_1)).a0 < (AL (gD (AA (sB a)) a_1)).b0 /\ (AL (gD (AA (sB a)) a_1)).b0 <= (2000 :
 Int) /\ (0 : Int) <= (AL (gD (AA (sB a)) a_1)).a1 /\ (AL (gD (AA (sB a)) a_1)).a1 <= (AL (gD (AA (sB a)) a_1)).b1 /\ (AL (gD (AA (sB a)) a_1)).b1 <= (200000 : Int)) /\ NH g) /\ bif (HC a).all
 λ (g : Gau) => BR (AL (gD (AA (sB a)) a_1)) g then Au /\ (∃ (a_3 : LnJ), (BA a /\ BB a /\ CF a /\ Ca a_3 /\ Fn.yield l = Fn.yield l /\ BA a /\ BB a /\ BA a /\
 BB a /\ CF a /\ (↑a_3.i : Int) = (↑a_1 : Int) /\ (gD (AA (sB a)) a_3.i).st = (gD (AA (sB a)) a_1).st /\ (gD (AA (sB a)) a_3.i).fl = (gD (AA (sB a)) a_1).fl /\ EF a /\ EE a /\ EG
 a /\ EK a /\ BQ /\ DY a /\ DZ a /\ EI a /\ CY a /\ DA a /\ CM /\ RQ a_3 /\ RQ a_3 /\ ∀ (i : Nat), i < a_3.l.length -> (gD a_3.l i).a0 = (AL (gD (AA (sB
 a)) a_1)).a0 /\ (gD a_3.l i).a1 = (AL (gD (AA (sB a)) a_1)).a1 /\ (gD a_3.l i).b0 = (AL (gD (AA (sB a)) a_1)).b0 /\ (gD a_3.l i).b1 = (AL (gD (AA (sB a)) a_1)).b1) /\ SC a_3 a a_1) /\ kE a a_1 l
 else (∃ (a_3 : IJ), (BA a /\ BB a /\ CF a /\ (↑a_3.j : Int) = (0 : Int) /\ Fn.yield l = Fn.yield l /\ BA a /\ BB a /\ BA a /\ BB a /\ CF a /\ (↑a_3.i : Int) = (↑a_1 : Int) /\
 (gD (AA (sB a)) a_3.i).st = (gD (AA (sB a)) a_1).st /\ (gD (AA (sB a)) a_3.i).fl = (gD (AA (sB a)) a_1).fl /\ De a) /\ Da a_3 a a_1) /\ kE a a_1 l else ∃ (a_3 : One), (a.k = a.k /\ a.st =
 a.st /\ EF a /\ EE a /\ EG a /\ EK a /\ BQ /\ DY a /\ DZ a /\ EI a /\ CY a /\ DA a /\ dO a /\ dO a) /\ True) /\ ∀ (a_1 : LnK), Dw a_1 a
 -> bif decide (bA a_1 a) then (cX a_1 /\ bA a_1 a) /\ ((0 : Int) <= (gD (AA (sB a)) a_1.i).st /\ (gD (AA (sB a)) a_1.i).st <= (2000 : Int)) /\ l = l /\ (NX a /\ OD a /\ NF a a_1
 = NF a a_1 /\ NG a a_1 = NG a a_1 /\ ME a a_1 = ME a a_1 /\ NQ a a_1 = NQ a a_1 /\ MC a /\ ∀ (g : Gau), LZ g a -> ((0 : Int) <= NF a a_1 /\
 NF a a_1 < ME a a_1 /\ ME a a_1 <= (2000 : Int) /\ (0 : Int) <= NG a a_1 /\ NG a a_1 <= NQ a a_1 /\ NQ a a_1 <= (200000 : Int)) /\ NH g) /\ bif (HC a).all fun
 (g : Gau) => BR (AL (gD (AA (sB a)) a_1.i)) g then nY a_1 /\ (∃ (a_3 : LnJ), (BA a /\ BB a /\ CF a /\ Ca a_3 /\ Fn.yield l = Fn.yield l /\ BA a /\ BB a /\ BA a /\
 BB a /\ CF a /\ bV a_3 a_1 /\ lT a a_3 a_1 /\ We a a_3 a_1 /\ EF a /\ EE a /\ EG a /\ EK a /\ BQ /\ DY a /\ DZ a /\ EI a /\ CY
 a /\ DA a /\ CM /\ dG a_3 a_1 /\ dG a_3 a_1 /\ ∀ (i : Nat), i < a_3.l.length -> ((gD a_3.l i).a0 = bif GQ i a_1 then (gD a_1.l i).a0 else NF a a_1) /\ ((gD a_3.l i).a1 = bif
 GQ i a_1 then (gD a_1.l i).a1 else NG a a_1) /\ ((gD a_3.l i).b0 = bif GQ i a_1 then (gD a_1.l i).b0 else ME a a_1) /\ (gD a_3.l i).b1 = bif GQ i a_1 then (gD a_1.l i).b1 else
 NQ a a_1) /\ NA a_3 a a_1) /\ Za a a_1 l else (∃ (a_3 : LnJ), (BA a /\ BB a /\ CF a /\ Ca a_3 /\ Fn.yield l = Fn.yield l /\ BA a /\ BB a /\ BA a /\
 BB a /\ CF a /\ bV a_3 a_1 /\ lT a a_3 a_1 /\ We a a_3 a_1 /\ EF a /\ EE a /\ EG a /\ EK a /\ BQ /\ DY a /\ DZ a /\ EI a /\ CY
 a /\ DA a /\ CM /\ gF a_3 a_1 /\ gF a_3 a_1 /\ ∀ (i : Nat), i < a_3.l.length -> (gD a_3.l i).a0 = (gD a_1.l i).a0 /\ (gD a_3.l i).a1 = (gD a_1.l i).a1 /\ (gD a_3.l i).b0 = (gD a_1.l i).b0 /\ (gD
 a_3.l i).b1 = (gD a_1.l i).b1) /\ NA a_3 a a_1) /\ Za a a_1 l else ∃ (a_3 : One), (a.k = a.k /\ a.st = a.st /\ EF a /\ EE a /\ EG a /\ EK a /\ BQ /\ DY a /\ DZ a
 /\ EI a /\ CY a /\ DA a /\ (EQ (sB a)).length = a_1.l.length /\ nJ a_1 /\ ∀ (j : Nat), j < (EQ (sB a)).length -> (gD (EQ (sB a)) j).a0 = fE a_1 j /\ (gD (EQ (sB a)) j).a1 = nW
 a_1 j /\ (gD (EQ (sB a)) j).b0 = Wt a_1 j /\ (gD (EQ (sB a)) j).b1 = jF a_1 j) /\ True) /\ Vx a /\ Vx a) /\ mX a) := by kernel_rfl
def BWN (a : BkS) : Prop := AY Try.prog (CBX a) tV (AF tV) (C_lns.xs a) (AC (C_lns.L a)) (C_lns.val a) (C_lns.keep a) [] [403]
abbrev Lx (a : BkS) : List Gau := AD a.w.g.length λ (i : Nat) => gD a.w.g i
abbrev Ml (a : BkS) : Nat := (Lx a).length
abbrev pT (a : BkS) (i : Nat) : Gau := gD (Lx a) i
abbrev APG (a : BkS) (i : Nat) : Int := (pT a i).st
abbrev AYH (a : BkS) (i : Nat) : Int := (pT a i).lo
abbrev AOE (a : BkS) (i : Nat) : Int := (pT a i).hi
abbrev WK (a : BkS) : List Int := AD a.w.b.length λ (i : Nat) => gD a.w.b i
abbrev Ir (a : BkS) : Nat := (WK a).length
abbrev AYG (a : BkS) (i : Nat) : Int := gD (WK a) i
abbrev AND : Value := Value.slice none (0 : Nat) (0 : Nat)
abbrev BM : Prop := AND = AND
abbrev DX (a : BkS) : Prop := ∀ (n : Int), a.w.has n = a.w.has n
abbrev EA (a : BkS) : Prop := ∀ (n : Int), a.w.st n = a.w.st n
abbrev R9 (a : BkS) : Bk := Bk.mk (Lx a) (WK a) a.w.has a.w.st
abbrev X2 (a : BkS) (n : Int) : List Ln := AK (R9 a) n
abbrev Pf (a : BkS) (n : Int) : Nat := (X2 a n).length
abbrev Aa (a : BkS) (n : Int) (i : Nat) : Ln := gD (X2 a n) i
abbrev ABW (a : BkS) (n : Int) (i : Nat) : Int := (Aa a n i).a0
abbrev W0 (a : BkS) (n : Int) (i : Nat) : Int := (Aa a n i).a1
abbrev ABQ (a : BkS) (n : Int) (i : Nat) : Int := (Aa a n i).b0
abbrev F3 (a : BkS) (n : Int) (i : Nat) : Int := (Aa a n i).b1
abbrev ABN (i : Nat) (a : BkS) (n : Int) : Prop := i < (AK a.w n).length
abbrev JV (x : Gau) : Prop := (0 : Int) <= x.st /\ x.st <= (2000 : Int) /\ (0 : Int) <= x.lo /\ x.lo <= x.hi /\ x.hi <= (200000 : Int)
abbrev ADD (a : BkS) : Prop := (CK a.w a.k).g.length = a.w.g.length
abbrev P1 (i : Nat) (a : BkS) : Prop := i < (CK a.w a.k).g.length
abbrev Qg (a : BkS) (i : Nat) : Gau := gD (CK a.w a.k).g i
abbrev Ue (a : BkS) (i : Nat) : Int := (Qg a i).st
abbrev Tn (a : BkS) (i : Nat) : Int := (Qg a i).lo
abbrev Up (a : BkS) (i : Nat) : Int := (Qg a i).hi
abbrev T3 (a : BkS) : Prop := ∀ (i : Nat), P1 i a -> Ue a i = (gD a.w.g i).st /\ Tn a i = (gD a.w.g i).lo /\ Up a i = (gD a.w.g i).hi
abbrev W7 (a : BkS) : Prop := (CK a.w a.k).b.length = a.w.b.length
abbrev Y5 (i : Nat) (a : BkS) : Prop := i < (CK a.w a.k).b.length
abbrev Qv (a : BkS) (i : Nat) : Int := gD (CK a.w a.k).b i
abbrev ADE (a : BkS) : Prop := ∀ (i : Nat), Y5 i a -> Qv a i = gD a.w.b i
abbrev Uu (i : Nat) (a : BkS) (n : Int) : Prop := i < (AK (CK a.w a.k) n).length
abbrev Ap (a : BkS) (n : Int) (i : Nat) : Ln := gD (AK (CK a.w a.k) n) i
abbrev Ah (a : BkS) (n : Int) (i : Nat) : Int := (Ap a n i).a0
abbrev Aq (a : BkS) (n : Int) (i : Nat) : Int := (Ap a n i).a1
abbrev XN (a : BkS) (n : Int) (i : Nat) : Int := (Ap a n i).b0
abbrev YJ (a : BkS) (n : Int) (i : Nat) : Int := (Ap a n i).b1
abbrev V7 (a : BkS) : List Gau := LD (R9 a) a.k
abbrev Ux (a : BkS) : Nat := (V7 a).length
abbrev AAW (a : BkS) : Prop := (sB a).length = Ux a
abbrev XD (a : BkS) (i : Nat) : Gau := gD (V7 a) i
abbrev M6 (a : BkS) (i : Nat) : Int := (XD a i).st
abbrev L1 (a : BkS) (i : Nat) : Int := (XD a i).lo
abbrev S2 (a : BkS) (i : Nat) : Int := (XD a i).hi
abbrev F1 (a : BkS) : Prop := ∀ (i : Nat), i < (sB a).length -> (gD (sB a) i).st = M6 a i /\ (gD (sB a) i).lo = L1 a i /\ (gD (sB a) i).hi = S2 a i
abbrev BE : Prop := (0 : Nat) = (0 : Nat)
abbrev O4 (a : BkS) : Prop := (DW (sB a) a.st).length = (0 : Nat)
abbrev HW (a : BkS) : Prop := (CK a.w a.k).g.length = (CK a.w a.k).g.length
abbrev HT (a : BkS) : Prop := ∀ (i : Nat), P1 i a -> Ue a i = Ue a i /\ Tn a i = Tn a i /\ Up a i = Up a i
abbrev IK (a : BkS) : Prop := (CK a.w a.k).b.length = (CK a.w a.k).b.length
abbrev IE (a : BkS) : Prop := ∀ (i : Nat), Y5 i a -> Qv a i = Qv a i
abbrev IF (a : BkS) : Prop := ∀ (n : Int), (CK a.w a.k).has n = (CK a.w a.k).has n
abbrev HU (a : BkS) : Prop := ∀ (n : Int), (CK a.w a.k).st n = (CK a.w a.k).st n
abbrev IB (a : BkS) : Prop := ∀ (n : Int), (AK (CK a.w a.k) n).length = (AK (CK a.w a.k) n).length /\ ∀ (i : Nat), Uu i a n -> Ah a n i = Ah a n i /\ Aq a n i = Aq a n i /\
 XN a n i = XN a n i /\ YJ a n i = YJ a n i
abbrev A4 (a : BkS) : Prop := HW a /\ HT a /\ IK a /\ IE a /\ BM /\ IF a /\ HU a /\ IB a
abbrev N7 (a : BkS) : Prop := O4 a /\ O4 a /\ A4 a
abbrev U0 (a : BkS) : Prop := (0 : Int) <= a.st /\ a.st <= (2000 : Int)
abbrev FX (a : BkS) : List Gau := AD (sB a).length λ (i : Nat) => gD (sB a) i
abbrev ZU (a : BkS) : Nat := (FX a).length
abbrev KH (a : BkS) : Prop := ZU a = (sB a).length
abbrev Rh (a : BkS) (i : Nat) : Gau := gD (FX a) i
abbrev JZ (a : BkS) : Prop := ∀ (i : Nat), i < ZU a -> (Rh a i).st = (gD (sB a) i).st /\ (Rh a i).lo = (gD (sB a) i).lo /\ (Rh a i).hi = (gD (sB a) i).hi
abbrev yN (a : BkS) (a1 : Nat) : Prop := (IV (sB a) a.st a1).length = (2 : Nat)
abbrev E4 (a : BkS) : List Pt := AA (FX a)
abbrev G7 (a : BkS) : Nat := (E4 a).length
abbrev ACM (a : BkS) (i : Nat) : Pt := gD (E4 a) i
abbrev Qe (a : Nat) : Prop := (↑a : Int) = (0 : Int)
abbrev CO (a : BkS) : Prop := (sB a).length = (sB a).length
abbrev CN (a : BkS) : Prop := ∀ (i : Nat), i < (sB a).length -> (gD (sB a) i).st = (gD (sB a) i).st /\ (gD (sB a) i).lo = (gD (sB a) i).lo /\ (gD (sB a) i).hi = (gD (sB a) i).hi
abbrev NR : Prop := ∀ (i : Nat), i < (0 : Nat) -> false = false
abbrev Q2 : Prop := Int.ofNat (0 : Nat) = Int.ofNat (0 : Nat)
abbrev L6 : Prop := Int.ofNat (200000 : Nat) = Int.ofNat (200000 : Nat)
abbrev Sf (i : Nat) (a : BkS) (a1 : Nat) : Prop := i < (IV (sB a) a.st a1).length
abbrev ZT (a : BkS) (a1 : Nat) (i : Nat) : Ln := gD (IV (sB a) a.st a1) i
abbrev WH (a : BkS) (a1 : Nat) (i : Nat) : Int := (ZT a a1 i).a0
abbrev XX (i : Nat) : Bool := decide (i = (0 : Nat))
abbrev XI (a : BkS) (a1 : Nat) (i : Nat) : Int := (ZT a a1 i).a1
abbrev Ac (a : BkS) (a1 : Nat) (i : Nat) : Int := (ZT a a1 i).b0
abbrev YT (a : BkS) (a1 : Nat) (i : Nat) : Int := (ZT a a1 i).b1
abbrev yY (a : Nat) (a1 : BkS) : Prop := (↑a : Int) < (↑(AA (sB a1)).length : Int)
abbrev K5 (a : Nat) (a1 : BkS) : Bool := decide (yY a a1)
abbrev J1 (a : Nat) : Prop := (0 : Int) <= (↑a : Int)
abbrev ADA (a : Nat) (a1 : BkS) : Prop := J1 a /\ yY a a1
abbrev RF : Prop := (4 : Nat) = (4 : Nat)
abbrev ADB : Prop := (0 : Nat) < (2 : Nat)
abbrev Qw (a : BkS) (a1 : Nat) : Nat := (IV (sB a) a.st a1).length + (2 : Nat)
abbrev J9 (a : BkS) (a1 : Nat) (a2 : Nat) : Prop := (IV (sB a) a.st a1).length = Qw a a2
abbrev AZ (a : BkS) : Prop := (AA (sB a)).length = (AA (sB a)).length
abbrev BC (a : BkS) : Prop := ∀ (i : Nat), i < (AA (sB a)).length -> (gD (AA (sB a)) i).st = (gD (AA (sB a)) i).st /\ (gD (AA (sB a)) i).fl = (gD (AA (sB a)) i).fl
abbrev CE (a : BkS) : Prop := (↑(AA (sB a)).length : Int) = (↑(AA (sB a)).length : Int)
abbrev AEF (a : Nat) (a1 : Nat) : Prop := (↑a : Int) = IntKind.i64.wrap ((↑a1 : Int) + (1 : Int))
abbrev XK (i : Nat) (a : BkS) (a1 : Nat) : Bool := decide (Sf i a a1)
abbrev YL (i : Nat) (a : BkS) (a1 : Nat) : Bool := decide ((0 : Nat) + (i - (IV (sB a) a.st a1).length) = (0 : Nat))
abbrev OK (a : BkS) (a1 : Nat) : Nat := (AA (sB a)).length - a1
abbrev M2 (a : BkS) (a1 : Nat) (a2 : Nat) : Prop := OK a a1 < OK a a2
abbrev Tm : Prop := BE /\ NR
abbrev ADT (a : BkS) (a1 : Nat) : Prop := (DE (sB a) a.st).length = (IV (sB a) a.st a1).length
abbrev TX (i : Nat) (a : BkS) : Prop := i < (DE (sB a) a.st).length
abbrev Bm (a : BkS) (i : Nat) : Int := (gD (DE (sB a) a.st) i).a0
abbrev Dn (a : BkS) (i : Nat) : Int := (gD (DE (sB a) a.st) i).a1
abbrev Ed (a : BkS) (i : Nat) : Int := (gD (DE (sB a) a.st) i).b0
abbrev Cv (a : BkS) (i : Nat) : Int := (gD (DE (sB a) a.st) i).b1
abbrev RK (a : Nat) (a1 : BkS) : Prop := a <= (DE (sB a1) a1.st).length /\ List.filter (Vg (sB a1)) (List.take a (DE (sB a1) a1.st)) = []
abbrev dW (a : Nat) (a1 : BkS) : Prop := (↑a : Int) < (↑(DE (sB a1) a1.st).length : Int)
abbrev Di (a : Nat) : Nat := (0 : Nat) + a
abbrev JM (a : BkS) (a1 : Nat) : Ln := gD (DE (sB a) a.st) (Di a1)
abbrev mT (a : BkS) (a1 : Nat) : Bool := Ar (JM a a1)
abbrev LX (a : BkS) (a1 : Nat) : Int := (JM a a1).a0
abbrev NC (a : BkS) (a1 : Nat) : Int := (JM a a1).a1
abbrev OH (a : BkS) (a1 : Nat) : Int := (JM a a1).b0
abbrev OE (a : BkS) (a1 : Nat) : Int := (JM a a1).b1
abbrev JE (a : BkS) : Prop := ZU a < (4611686018427387904 : Nat)
abbrev JK (g : Gau) (a : BkS) : Prop := List.Mem g (FX a)
abbrev Fi : Prop := (0 : Nat) < (1 : Nat)
abbrev Fk : Prop := (1 : Nat) <= (1 : Nat) /\ (Fi -> RF)
abbrev UG : Prop := (True /\ ((0 : Nat) < (0 : Nat) -> (0 : Nat) = (4 : Nat))) /\ Fk /\ (true = true -> Fi) /\ (1 : Nat) <= (9223372036854775807 : Nat) /\ (32 : Nat) <= (140737488355328 : Nat)
abbrev dS (a : LnK) : Prop := a.l.length = (1 : Nat)
abbrev EV (a : BkS) : Prop := (DE (sB a) a.st).length = (DE (sB a) a.st).length
abbrev JP (a : BkS) : Prop := (↑(DE (sB a) a.st).length : Int) = (↑(DE (sB a) a.st).length : Int)
abbrev TO (a : BkS) : Prop := ∀ (i : Nat), TX i a -> Bm a i = Bm a i /\ Dn a i = Dn a i /\ Ed a i = Ed a i /\ Cv a i = Cv a i
abbrev gN (a : LnK) (a1 : BkS) : Prop := a.i < (DE (sB a1) a1.st).length
abbrev GU (a : BkS) (a1 : LnK) : Nat := (DE (sB a) a.st).length - a1.i
abbrev GJ (a : BkS) (a1 : Nat) : Nat := (DE (sB a) a.st).length - a1
abbrev bZ (a : LnK) (a1 : BkS) : Prop := a.l = EQ (sB a1) ++ List.filter (Vg (sB a1)) (List.take (a.i + (1 : Nat)) (DE (sB a1) a1.st))
abbrev cA (a : LnK) (a1 : BkS) (a2 : Nat) : Prop := gN a a1 /\ GU a1 a = GJ a1 a2 /\ bZ a a1
abbrev jK (a : BkS) : Prop := HW a /\ HT a /\ IK a /\ IE a /\ BM /\ IF a /\ HU a /\ IB a /\ CO a /\ CN a /\ EV a /\ TO a
abbrev cY (a : BkS) (a1 : Nat) : Prop := List.filter (Vg (sB a)) (List.take (a1 + (1 : Nat)) (DE (sB a) a.st)) = []
abbrev Wg (a : Nat) (a1 : BkS) (a2 : Nat) : Prop := TX a a1 /\ GJ a1 a = GJ a1 a2 /\ cY a1 a
abbrev bM (a : BkS) (a1 : Nat) (a2 : Nat) : Prop := BE /\ NR /\ BE /\ EV a /\ JP a /\ AEF a1 a2 /\ jK a
abbrev Fv (a : LnK) (a1 : LnK) : Prop := a.l.length = a1.l.length
abbrev Ys (a : BkS) (a1 : LnK) (a2 : LnK) : Prop := HW a /\ HT a /\ IK a /\ IE a /\ BM /\ IF a /\ HU a /\ IB a /\ CO a /\ CN a /\ EV a /\
 TO a /\ Fv a1 a2 /\ ∀ (i : Nat), i < a1.l.length -> (gD a1.l i).a0 = (gD a2.l i).a0 /\ (gD a1.l i).a1 = (gD a2.l i).a1 /\ (gD a1.l i).b0 = (gD a2.l i).b0 /\ (gD a1.l i).b1 = (gD a2.l i).b1
abbrev dE (a : LnK) (a1 : LnK) (a2 : BkS) : Prop := BE /\ Fv a a1 /\ BE /\ EV a2 /\ JP a2 /\ (↑a.i : Int) = IntKind.i64.wrap ((↑a1.i : Int) + (1 : Int)) /\ Ys a2 a a1
abbrev Eu (a : LnK) (a1 : BkS) : Prop := a.i <= (DE (sB a1) a1.st).length /\ a.l = EQ (sB a1) ++ List.filter (Vg (sB a1)) (List.take a.i (DE (sB a1) a1.st))
abbrev aQ (a : BkS) (a1 : Nat) : Prop := ∀ (a_1 : LnK), cA a_1 a a1 -> ∃ (a_3 : LnK), dE a_3 a_1 a /\ Eu a_3 a /\ GU a a_3 < GJ a a1
abbrev cG (a : LnK) (a1 : BkS) : Prop := (↑a.i : Int) < (↑(DE (sB a1) a1.st).length : Int)
abbrev jA (a : LnK) : Prop := (0 : Int) <= (↑a.i : Int)
abbrev iX (a : LnK) : Nat := (0 : Nat) + a.i
abbrev JI (a : BkS) (a1 : LnK) : Ln := gD (DE (sB a) a.st) (iX a1)
abbrev dF (a : BkS) (a1 : LnK) : Bool := Ar (JI a a1)
abbrev MP (a : BkS) (a1 : LnK) : Int := (JI a a1).a0
abbrev NO (a : BkS) (a1 : LnK) : Int := (JI a a1).a1
abbrev MY (a : BkS) (a1 : LnK) : Int := (JI a a1).b0
abbrev NE (a : BkS) (a1 : LnK) : Int := (JI a a1).b1
abbrev bJ : Prop := false = true -> Fi
abbrev SM (a : LnK) : Nat := a.l.length + (1 : Nat)
abbrev Zm (a : LnK) : Prop := (a.l.length = a.l.length /\ ((0 : Nat) < a.l.length -> RF)) /\ Fk /\ bJ /\ SM a <= (9223372036854775807 : Nat) /\ SM a * (32 : Nat) <= (140737488355328
 : Nat)
abbrev nS (a : LnK) (a1 : LnK) : Prop := a.l.length = SM a1
abbrev lH (a : LnK) (a1 : LnK) : Prop := (↑a.i : Int) = (↑a1.i : Int)
abbrev GT (i : Nat) (a : LnK) : Bool := decide (i < a.l.length)
abbrev Fy (a : LnK) (a1 : BkS) (a2 : LnK) : Prop := gN a a1 /\ GU a1 a = GU a1 a2 /\ bZ a a1
abbrev mF (a : BkS) (a1 : LnK) : Prop := ∀ (a_1 : LnK), Fy a_1 a a1 -> ∃ (a_3 : LnK), dE a_3 a_1 a /\ Eu a_3 a /\ GU a a_3 < GU a a1
abbrev cT (a : LnK) : Prop := (0 : Nat) + a.l.length <= a.l.length
abbrev UO (a : LnK) (j : Nat) : Ln := gD a.l (Di j)
abbrev eC (a : LnK) (j : Nat) : Int := (UO a j).a0
abbrev Zf (a : LnK) (j : Nat) : Int := (UO a j).a1
abbrev lQ (a : LnK) (j : Nat) : Int := (UO a j).b0
abbrev fW (a : LnK) (j : Nat) : Int := (UO a j).b1
abbrev bR (a : BkS) : Prop := ∀ (a_1 : One), True -> bif bif decide ((↑(sB a).length : Int) > (0 : Int)) then (↑(0 : Nat) : Int) == (0 : Int) else false then N7 a else (U0 a /\ U0 a) /\
 (KH a /\ JZ a /\ ZU a < (1073741824 : Nat) /\ True) /\ (∃ (a_3 : Nat), (BE /\ yN a a_3 /\ (AA (sB a)).length = G7 a /\ (∀ (i : Nat), i < (AA (sB a)).length -> (gD (AA (sB a))
 i).st = (ACM a i).st /\ (gD (AA (sB a)) i).fl = (ACM a i).fl) /\ (↑(AA (sB a)).length : Int) = (↑(G7 a) : Int) /\ Qe a_3 /\ HW a /\ HT a /\ IK a /\ IE a /\ BM /\
 IF a /\ HU a /\ IB a /\ CO a /\ CN a /\ BE /\ NR /\ a.st = a.st /\ Q2 /\ a.st = a.st /\ L6 /\ yN a a_3 /\ ∀ (i : Nat), Sf i a a_3 -> (WH a a_3 i =
 bif XX i then (AL (Pt.mk a.st (0 : Int))).a0 else (AL (Pt.mk a.st (200000 : Int))).a0) /\ (XI a a_3 i = bif XX i then (AL (Pt.mk a.st (0 : Int))).a1 else (AL (Pt.mk a.st (200000 : Int))).a1) /\
 (Ac a a_3 i = bif XX i then (AL (Pt.mk a.st (0 : Int))).b0 else (AL (Pt.mk a.st (200000 : Int))).b0) /\ YT a a_3 i = bif XX i then (AL (Pt.mk a.st (0 : Int))).b1 else (AL (Pt.mk a.st
 (200000 : Int))).b1) /\ a_3.le (AA (sB a)).length) /\ ∀ (a_3 : Nat), a_3.le (AA (sB a)).length -> bif K5 a_3 a then ADA a_3 a /\ (((IV (sB a) a.st a_3).length = (IV (sB a) a.st a_3).length /\ ((0 : Nat) <
 (IV (sB a) a.st a_3).length -> RF)) /\ ((2 : Nat) <= (2 : Nat) /\ (ADB -> RF)) /\ (false = true -> ADB) /\ Qw a a_3 <= (9223372036854775807 : Nat) /\ Qw a a_3 * (32 : Nat) <=
 (140737488355328 : Nat)) /\ ∃ (a_5 : Nat), (BE /\ J9 a a_5 a_3 /\ AZ a /\ BC a /\ CE a /\ AEF a_5 a_3 /\ HW a /\ HT a /\ IK a /\ IE a /\ BM /\ IF a /\
 HU a /\ IB a /\ CO a /\ CN a /\ BE /\ NR /\ a.st = a.st /\ Q2 /\ a.st = a.st /\ L6 /\ J9 a a_5 a_3 /\ ∀ (i : Nat), Sf i a a_5 -> (WH a a_5 i = bif
 XK i a a_3 then WH a a_3 i else bif YL i a a_3 then a.st else (gD (AA (sB a)) a_3).st) /\ (XI a a_5 i = bif XK i a a_3 then XI a a_3 i else bif YL i a a_3 then (0 : Int)
 else (gD (AA (sB a)) a_3).fl) /\ (Ac a a_5 i = bif XK i a a_3 then Ac a a_3 i else bif YL i a a_3 then (gD (AA (sB a)) a_3).st else a.st) /\ YT a a_5 i = bif XK i a a_3 then
 YT a a_3 i else bif YL i a a_3 then (gD (AA (sB a)) a_3).fl else (200000 : Int)) /\ a_5.le (AA (sB a)).length /\ M2 a a_5 a_3 else Tm /\ (∃ (a_5 : Nat), (BE /\ NR /\ BE /\
 ADT a a_3 /\ (↑(DE (sB a) a.st).length : Int) = (↑(IV (sB a) a.st a_3).length : Int) /\ Qe a_5 /\ HW a /\ HT a /\ IK a /\ IE a /\ BM /\ IF a /\ HU a /\ IB a /\
 CO a /\ CN a /\ ADT a a_3 /\ ∀ (i : Nat), TX i a -> Bm a i = WH a a_3 i /\ Dn a i = XI a a_3 i /\ Ed a i = Ac a a_3 i /\ Cv a i = YT a a_3
 i) /\ RK a_5 a) /\ (∀ (a_5 : Nat), RK a_5 a -> bif decide (dW a_5 a) then (((J1 a_5 /\ dW a_5 a) /\ (Di a_5).succ.le (DE (sB a) a.st).length) /\ (mT a a_5 = true ->
 KH a /\ JZ a /\ LX a a_5 = LX a a_5 /\ NC a a_5 = NC a a_5 /\ OH a a_5 = OH a a_5 /\ OE a a_5 = OE a a_5 /\ JE a /\ ∀ (g : Gau), JK g
 a -> ((0 : Int) <= LX a a_5 /\ LX a a_5 < OH a a_5 /\ OH a a_5 <= (2000 : Int) /\ (0 : Int) <= NC a a_5 /\ NC a a_5 <= OE a a_5 /\ OE a a_5 <= (200000 : Int)) /\
 JV g) /\ bif bif mT a a_5 then (FX a).all λ (g : Gau) => BR (JM a a_5) g else false then UG /\ ∃ (a_7 : LnK), (BE /\ dS a_7 /\ BE /\ EV a /\ JP a
 /\ (↑a_7.i : Int) = (↑a_5 : Int) /\ HW a /\ HT a /\ IK a /\ IE a /\ BM /\ IF a /\ HU a /\ IB a /\ CO a /\ CN a /\ EV a /\ TO a /\ dS a_7 /\ ∀
 (i : Nat), i < a_7.l.length -> (gD a_7.l i).a0 = LX a a_5 /\ (gD a_7.l i).a1 = NC a a_5 /\ (gD a_7.l i).b0 = OH a a_5 /\ (gD a_7.l i).b1 = OE a a_5) /\ cA a_7 a a_5 else ∃ (a_7 : Nat),
 (BE /\ NR /\ BE /\ EV a /\ JP a /\ (↑a_7 : Int) = (↑a_5 : Int) /\ jK a) /\ Wg a_7 a a_5) /\ (∀ (a_7 : Nat), Wg a_7 a a_5 -> ∃ (a_9 : Nat), bM a a_9 a_7 /\
 RK a_9 a /\ GJ a a_9 < GJ a a_5) /\ aQ a a_5 /\ aQ a a_5 else N7 a) /\ ∀ (a_5 : LnK), Eu a_5 a -> bif decide (cG a_5 a) then (((jA a_5 /\ cG a_5 a)
 /\ (iX a_5).succ.le (DE (sB a) a.st).length) /\ (dF a a_5 = true -> KH a /\ JZ a /\ MP a a_5 = MP a a_5 /\ NO a a_5 = NO a a_5 /\ MY a a_5 = MY a
 a_5 /\ NE a a_5 = NE a a_5 /\ JE a /\ ∀ (g : Gau), JK g a -> ((0 : Int) <= MP a a_5 /\ MP a a_5 < MY a a_5 /\ MY a a_5 <= (2000 : Int) /\ (0 : Int) <= NO a
 a_5 /\ NO a a_5 <= NE a a_5 /\ NE a a_5 <= (200000 : Int)) /\ JV g) /\ bif bif dF a a_5 then (FX a).all λ (g : Gau) => BR (JI a a_5) g else false then Zm a_5 /\
 ∃ (a_7 : LnK), (BE /\ nS a_7 a_5 /\ BE /\ EV a /\ JP a /\ lH a_7 a_5 /\ HW a /\ HT a /\ IK a /\ IE a /\ BM /\ IF a /\ HU a /\ IB a
 /\ CO a /\ CN a /\ EV a /\ TO a /\ nS a_7 a_5 /\ ∀ (i : Nat), i < a_7.l.length -> ((gD a_7.l i).a0 = bif GT i a_5 then (gD a_5.l i).a0 else MP a a_5) /\ ((gD a_7.l i).a1 =
 bif GT i a_5 then (gD a_5.l i).a1 else NO a a_5) /\ ((gD a_7.l i).b0 = bif GT i a_5 then (gD a_5.l i).b0 else MY a a_5) /\ (gD a_7.l i).b1 = bif GT i a_5 then (gD a_5.l i).b1 else
 NE a a_5) /\ Fy a_7 a a_5 else ∃ (a_7 : LnK), (BE /\ Fv a_7 a_5 /\ BE /\ EV a /\ JP a /\ lH a_7 a_5 /\ Ys a a_7 a_5) /\ Fy a_7 a a_5) /\ (∀ (a_7 :
 Nat), TX a_7 a /\ GJ a a_7 = GU a a_5 /\ cY a a_7 -> ∃ (a_9 : Nat), bM a a_9 a_7 /\ RK a_9 a /\ GJ a a_9 < GU a a_5) /\ mF a a_5 /\ mF a a_5 else
 (DW (sB a) a.st).length = a_5.l.length /\ cT a_5 /\ (∀ (j : Nat), j < (DW (sB a) a.st).length -> (gD (DW (sB a) a.st) j).a0 = eC a_5 j /\ (gD (DW (sB a) a.st) j).a1 = Zf a_5 j /\ (gD (DW (sB
 a) a.st) j).b0 = lQ a_5 j /\ (gD (DW (sB a) a.st) j).b1 = fW a_5 j) /\ A4 a
abbrev nA (a : BkS) : List Gau := AD (Ux a) λ (i : Nat) => XD a i
abbrev SP (a : BkS) : Nat := (nA a).length
abbrev SL (a : BkS) (i : Nat) : Gau := gD (nA a) i
abbrev dK (a : BkS) (i : Nat) : Int := (SL a i).st
abbrev lC (a : BkS) (i : Nat) : Int := (SL a i).lo
abbrev Xw (a : BkS) (i : Nat) : Int := (SL a i).hi
abbrev Ft (a : BkS) : List Gau := AD (SP a) λ (i : Nat) => SL a i
abbrev Gk (a : BkS) : Nat := (Ft a).length
abbrev Ay (a : BkS) (i : Nat) : Gau := gD (Ft a) i
abbrev fR (a : BkS) : List Pt := AA (Ft a)
abbrev aB (a : BkS) : Nat := (fR a).length
abbrev cE (a : BkS) : Prop := (AA (sB a)).length = aB a
abbrev Zg (a : BkS) (i : Nat) : Pt := gD (fR a) i
abbrev Xk (a : BkS) : Prop := ∀ (i : Nat), i < (AA (sB a)).length -> (gD (AA (sB a)) i).st = (Zg a i).st /\ (gD (AA (sB a)) i).fl = (Zg a i).fl
abbrev ED (a : BkS) : Prop := a.w.g.length = a.w.g.length
abbrev EM (a : BkS) : Prop := ∀ (i : Nat), i < a.w.g.length -> (gD a.w.g i).st = (gD a.w.g i).st /\ (gD a.w.g i).lo = (gD a.w.g i).lo /\ (gD a.w.g i).hi = (gD a.w.g i).hi
abbrev EL (a : BkS) : Prop := a.w.b.length = a.w.b.length
abbrev EJ (a : BkS) : Prop := ∀ (i : Nat), i < a.w.b.length -> gD a.w.b i = gD a.w.b i
abbrev EH (a : BkS) : Prop := ∀ (n : Int), (AK a.w n).length = (AK a.w n).length /\ ∀ (i : Nat), ABN i a n -> (gD (AK a.w n) i).a0 = (gD (AK a.w n) i).a0 /\ (gD (AK a.w n) i).a1 = (gD (AK a.w n) i).a1 /\
 (gD (AK a.w n) i).b0 = (gD (AK a.w n) i).b0 /\ (gD (AK a.w n) i).b1 = (gD (AK a.w n) i).b1
abbrev UI (a : Nat) (a1 : BkS) : Prop := a <= (AA (sB a1)).length /\ List.filter (JC (sB a1)) (PK (sB a1) a) = []
abbrev Gg (a : LnJ) : Prop := (↑a.j : Int) = (0 : Int)
abbrev SA (a : LnJ) : Prop := a.l.length = (1 : Nat)
abbrev eA (a : LnJ) (a1 : BkS) : Prop := a.i < (AA (sB a1)).length
abbrev Yu (a : LnJ) (a1 : BkS) : Prop := a.j <= (AA (sB a1)).length
abbrev aR (a : BkS) (a1 : LnJ) : Nat := (AA (sB a)).length - a1.i
abbrev fH (a : LnJ) (a1 : BkS) : Prop := a.l = List.filter (JC (sB a1)) (ET (sB a1) a.i a.j)
abbrev SB (a : LnJ) (a1 : BkS) (a2 : Nat) : Prop := eA a a1 /\ Yu a a1 /\ aR a1 a = OK a1 a2 /\ fH a a1
abbrev mZ (a : IJ) (a1 : BkS) : Prop := a.i < (AA (sB a1)).length
abbrev Vv (a : IJ) (a1 : BkS) : Prop := a.j <= (AA (sB a1)).length
abbrev lE (a : BkS) (a1 : IJ) : Nat := (AA (sB a)).length - a1.i
abbrev iI (a : BkS) (a1 : IJ) : Prop := List.filter (JC (sB a)) (ET (sB a) a1.i a1.j) = []
abbrev By (a : IJ) (a1 : BkS) (a2 : Nat) : Prop := mZ a a1 /\ Vv a a1 /\ lE a1 a = OK a1 a2 /\ iI a1 a
abbrev mS (a : IJ) (a1 : BkS) : Prop := (↑a.j : Int) < (↑(AA (sB a1)).length : Int)
abbrev Yp (a : IJ) (a1 : BkS) : Bool := decide (mS a a1)
abbrev Zn (a : IJ) (a1 : BkS) : Prop := (0 : Int) <= (↑a.j : Int) /\ mS a a1
abbrev jM (a : BkS) (a1 : IJ) : Ln := Ln.mk (gD (AA (sB a)) a1.i).st (gD (AA (sB a)) a1.i).fl (gD (AA (sB a)) a1.j).st (gD (AA (sB a)) a1.j).fl
abbrev jB (a : BkS) (a1 : IJ) : Bool := Ar (jM a a1)
abbrev Zl (a : BkS) (a1 : IJ) : Bool := if true = true then jB a a1 else !jB a a1
abbrev aV (a : BkS) (a1 : IJ) : Prop := KH a /\ JZ a /\ (gD (AA (sB a)) a1.i).st = (gD (AA (sB a)) a1.i).st /\ (gD (AA (sB a)) a1.i).fl = (gD (AA (sB a)) a1.i).fl /\ (gD (AA (sB a))
 a1.j).st = (gD (AA (sB a)) a1.j).st /\ (gD (AA (sB a)) a1.j).fl = (gD (AA (sB a)) a1.j).fl /\ JE a /\ ∀ (g : Gau), JK g a -> ((0 : Int) <= (gD (AA (sB a)) a1.i).st /\ (gD (AA (sB a)) a1.i).st <
 (gD (AA (sB a)) a1.j).st /\ (gD (AA (sB a)) a1.j).st <= (2000 : Int) /\ (0 : Int) <= (gD (AA (sB a)) a1.i).fl /\ (gD (AA (sB a)) a1.i).fl <= (gD (AA (sB a)) a1.j).fl /\ (gD (AA (sB a)) a1.j).fl <= (200000 :
 Int)) /\ JV g
abbrev Wm (a : BkS) (a1 : IJ) : Bool := (FX a).all λ (g : Gau) => BR (jM a a1) g
abbrev Zo (a : IJ) : Int := IntKind.i64.wrap ((↑a.j : Int) + (1 : Int))
abbrev Wx (a : BkS) (a1 : LnJ) (a2 : IJ) (l : Nat) : Prop := AZ a /\ BC a /\ CE a /\ (↑a1.j : Int) = Zo a2 /\ Fn.yield l = Fn.yield l /\ AZ a /\ BC a /\ AZ a /\ BC
 a /\ CE a /\ (↑a1.i : Int) = (↑a2.i : Int) /\ (gD (AA (sB a)) a1.i).st = (gD (AA (sB a)) a2.i).st /\ (gD (AA (sB a)) a1.i).fl = (gD (AA (sB a)) a2.i).fl /\ ED a /\ EM a /\ EL a /\
 EJ a /\ BM /\ DX a /\ EA a /\ EH a /\ CO a /\ CN a /\ BE /\ SA a1 /\ SA a1 /\ ∀ (i : Nat), i < a1.l.length -> (gD a1.l i).a0 = (gD (AA (sB a)) a2.i).st /\
 (gD a1.l i).a1 = (gD (AA (sB a)) a2.i).fl /\ (gD a1.l i).b0 = (gD (AA (sB a)) a2.j).st /\ (gD a1.l i).b1 = (gD (AA (sB a)) a2.j).fl
abbrev Gs (a : BkS) (a1 : LnJ) : Nat := (AA (sB a)).length - a1.j
abbrev Gv (a : BkS) (a1 : IJ) : Nat := (AA (sB a)).length - a1.j
abbrev cV (a : BkS) (a1 : LnJ) (a2 : IJ) : Prop := Gs a a1 < Gv a a2
abbrev Dm (a : BkS) : Prop := ED a /\ EM a /\ EL a /\ EJ a /\ BM /\ DX a /\ EA a /\ EH a /\ CO a /\ CN a /\ Tm
abbrev mO (a : BkS) (a1 : IJ) (a2 : IJ) (l : Nat) : Prop := AZ a /\ BC a /\ CE a /\ (↑a1.j : Int) = Zo a2 /\ Fn.yield l = Fn.yield l /\ AZ a /\ BC a /\ AZ a /\ BC
 a /\ CE a /\ (↑a1.i : Int) = (↑a2.i : Int) /\ (gD (AA (sB a)) a1.i).st = (gD (AA (sB a)) a2.i).st /\ (gD (AA (sB a)) a1.i).fl = (gD (AA (sB a)) a2.i).fl /\ Dm a
abbrev Xb (a : BkS) (a1 : IJ) (a2 : IJ) : Prop := Gv a a1 < Gv a a2
abbrev nL (a : BkS) (a1 : IJ) (l : Nat) (a2 : Nat) : Prop := ∃ (a_1 : IJ), mO a a_1 a1 l /\ By a_1 a a2 /\ Xb a a_1 a1
abbrev Wv (l : Nat) (a : BkS) (a1 : Nat) (a2 : IJ) : Prop := Fn.yield l = Fn.yield l /\ AZ a /\ BC a /\ AZ a /\ BC a /\ CE a /\ (↑a1 : Int) = IntKind.i64.wrap ((↑a2.i : Int) + (1 :
 Int)) /\ Dm a
abbrev iL (a : LnJ) (a1 : BkS) : Prop := (↑a.j : Int) < (↑(AA (sB a1)).length : Int)
abbrev dL (a : LnJ) (a1 : BkS) : Bool := decide (iL a a1)
abbrev jQ (a : LnJ) (a1 : BkS) : Prop := (0 : Int) <= (↑a.j : Int) /\ iL a a1
abbrev lD (a : BkS) (a1 : LnJ) : Ln := Ln.mk (gD (AA (sB a)) a1.i).st (gD (AA (sB a)) a1.i).fl (gD (AA (sB a)) a1.j).st (gD (AA (sB a)) a1.j).fl
abbrev Wi (a : BkS) (a1 : LnJ) : Bool := Ar (lD a a1)
abbrev Wp (a : BkS) (a1 : LnJ) : Bool := if true = true then Wi a a1 else !Wi a a1
abbrev aS (a : BkS) (a1 : LnJ) : Prop := KH a /\ JZ a /\ (gD (AA (sB a)) a1.i).st = (gD (AA (sB a)) a1.i).st /\ (gD (AA (sB a)) a1.i).fl = (gD (AA (sB a)) a1.i).fl /\ (gD (AA (sB a))
 a1.j).st = (gD (AA (sB a)) a1.j).st /\ (gD (AA (sB a)) a1.j).fl = (gD (AA (sB a)) a1.j).fl /\ JE a /\ ∀ (g : Gau), JK g a -> ((0 : Int) <= (gD (AA (sB a)) a1.i).st /\ (gD (AA (sB a)) a1.i).st <
 (gD (AA (sB a)) a1.j).st /\ (gD (AA (sB a)) a1.j).st <= (2000 : Int) /\ (0 : Int) <= (gD (AA (sB a)) a1.i).fl /\ (gD (AA (sB a)) a1.i).fl <= (gD (AA (sB a)) a1.j).fl /\ (gD (AA (sB a)) a1.j).fl <= (200000 :
 Int)) /\ JV g
abbrev iZ (a : BkS) (a1 : LnJ) : Bool := (FX a).all λ (g : Gau) => BR (lD a a1) g
abbrev Ej (a : LnJ) : Nat := a.l.length + (1 : Nat)
abbrev jG (a : LnJ) : Prop := (a.l.length = a.l.length /\ ((0 : Nat) < a.l.length -> RF)) /\ Fk /\ bJ /\ Ej a <= (9223372036854775807 : Nat) /\ Ej a * (32 : Nat) <= (140737488355328
 : Nat)
abbrev mW (a : LnJ) (a1 : LnJ) : Prop := (↑a.j : Int) = IntKind.i64.wrap ((↑a1.j : Int) + (1 : Int))
abbrev kS (a : LnJ) (a1 : LnJ) : Prop := (↑a.i : Int) = (↑a1.i : Int)
abbrev gA (a : BkS) (a1 : LnJ) (a2 : LnJ) : Prop := (gD (AA (sB a)) a1.i).st = (gD (AA (sB a)) a2.i).st
abbrev dQ (a : BkS) (a1 : LnJ) (a2 : LnJ) : Prop := (gD (AA (sB a)) a1.i).fl = (gD (AA (sB a)) a2.i).fl
abbrev jP (a : LnJ) (a1 : LnJ) : Prop := a.l.length = Ej a1
abbrev TG (i : Nat) (a : LnJ) : Bool := decide (i < a.l.length)
abbrev nE (a : BkS) (a1 : LnJ) (a2 : LnJ) (l : Nat) : Prop := AZ a /\ BC a /\ CE a /\ mW a1 a2 /\ Fn.yield l = Fn.yield l /\ AZ a /\ BC a /\ AZ a /\ BC a /\
 CE a /\ kS a1 a2 /\ gA a a1 a2 /\ dQ a a1 a2 /\ ED a /\ EM a /\ EL a /\ EJ a /\ BM /\ DX a /\ EA a /\ EH a /\ CO a /\ CN a /\
 BE /\ jP a1 a2 /\ jP a1 a2 /\ ∀ (i : Nat), i < a1.l.length -> ((gD a1.l i).a0 = bif TG i a2 then (gD a2.l i).a0 else (gD (AA (sB a)) a2.i).st) /\ ((gD a1.l i).a1 = bif TG i a2 then
 (gD a2.l i).a1 else (gD (AA (sB a)) a2.i).fl) /\ ((gD a1.l i).b0 = bif TG i a2 then (gD a2.l i).b0 else (gD (AA (sB a)) a2.j).st) /\ (gD a1.l i).b1 = bif TG i a2 then (gD a2.l i).b1 else (gD (AA
 (sB a)) a2.j).fl
abbrev eZ (a : BkS) (a1 : LnJ) (a2 : LnJ) : Prop := Gs a a1 < Gs a a2
abbrev lG (a : LnJ) (a1 : BkS) (a2 : Nat) (a3 : LnJ) : Prop := SB a a1 a2 /\ eZ a1 a a3
abbrev lU (a : LnJ) (a1 : LnJ) : Prop := a.l.length = a1.l.length
abbrev aZ (a : BkS) (a1 : LnJ) (a2 : LnJ) (l : Nat) : Prop := AZ a /\ BC a /\ CE a /\ mW a1 a2 /\ Fn.yield l = Fn.yield l /\ AZ a /\ BC a /\ AZ a /\ BC a /\
 CE a /\ kS a1 a2 /\ gA a a1 a2 /\ dQ a a1 a2 /\ ED a /\ EM a /\ EL a /\ EJ a /\ BM /\ DX a /\ EA a /\ EH a /\ CO a /\ CN a /\
 BE /\ lU a1 a2 /\ lU a1 a2 /\ ∀ (i : Nat), i < a1.l.length -> (gD a1.l i).a0 = (gD a2.l i).a0 /\ (gD a1.l i).a1 = (gD a2.l i).a1 /\ (gD a1.l i).b0 = (gD a2.l i).b0 /\ (gD a1.l i).b1 = (gD a2.l i).b1
abbrev Wd (a : BkS) (a1 : LnJ) (l : Nat) (a2 : Nat) : Prop := ∃ (a_1 : LnJ), aZ a a_1 a1 l /\ lG a_1 a a2 a1
abbrev kM (a : LnK) (a1 : LnJ) : Prop := a.l.length = a1.l.length
abbrev lM (l : Nat) (a : BkS) (a1 : LnK) (a2 : LnJ) : Prop := Fn.yield l = Fn.yield l /\ AZ a /\ BC a /\ AZ a /\ BC a /\ CE a /\ (↑a1.i : Int) = IntKind.i64.wrap ((↑a2.i : Int) + (1 :
 Int)) /\ ED a /\ EM a /\ EL a /\ EJ a /\ BM /\ DX a /\ EA a /\ EH a /\ CO a /\ CN a /\ BE /\ kM a1 a2 /\ kM a1 a2 /\ ∀ (i : Nat), i <
 a1.l.length -> (gD a1.l i).a0 = (gD a2.l i).a0 /\ (gD a1.l i).a1 = (gD a2.l i).a1 /\ (gD a1.l i).b0 = (gD a2.l i).b0 /\ (gD a1.l i).b1 = (gD a2.l i).b1
abbrev Bh (a : LnK) (a1 : BkS) : Prop := a.i <= (AA (sB a1)).length /\ a.l = List.filter (JC (sB a1)) (PK (sB a1) a.i)
abbrev JG (a : BkS) (a1 : LnK) : Nat := (AA (sB a)).length - a1.i
abbrev Vz (a : BkS) (a1 : Nat) (l : Nat) : Prop := ∀ (a_1 : LnJ), SB a_1 a a1 -> bif dL a_1 a then jQ a_1 a /\ bif Wp a a_1 then l = l /\ aS a a_1 /\ bif iZ a a_1 then
 jG a_1 /\ ∃ (a_3 : LnJ), nE a a_3 a_1 l /\ lG a_3 a a1 a_1 else Wd a a_1 l a1 else Wd a a_1 l a1 else ∃ (a_3 : LnK), lM l a a_3 a_1 /\ Bh a_3 a /\ JG a a_3 <
 OK a a1
abbrev gG (a : BkS) (a1 : Nat) (l : Nat) : Prop := (∀ (a_1 : IJ), By a_1 a a1 -> bif Yp a_1 a then Zn a_1 a /\ bif Zl a a_1 then l = l /\ aV a a_1 /\ bif Wm a a_1 then
 UG /\ ∃ (a_3 : LnJ), Wx a a_3 a_1 l /\ SB a_3 a a1 /\ cV a a_3 a_1 else nL a a_1 l a1 else nL a a_1 l a1 else ∃ (a_3 : Nat), Wv l a a_3 a_1 /\ UI a_3 a /\
 M2 a a_3 a1) /\ Vz a a1 l /\ Vz a a1 l
abbrev gO (a : BkS) : Prop := (EQ (sB a)).length = (0 : Nat)
abbrev eX (a : LnK) (a1 : BkS) : Prop := (↑a.i : Int) < (↑(AA (sB a1)).length : Int)
abbrev MI (a : BkS) (a1 : LnK) : Int := (AL (gD (AA (sB a)) a1.i)).a0
abbrev NL (a : BkS) (a1 : LnK) : Int := (AL (gD (AA (sB a)) a1.i)).a1
abbrev OM (a : BkS) (a1 : LnK) : Int := (AL (gD (AA (sB a)) a1.i)).b0
abbrev NU (a : BkS) (a1 : LnK) : Int := (AL (gD (AA (sB a)) a1.i)).b1
abbrev cQ (a : LnJ) (a1 : LnK) : Prop := (↑a.i : Int) = (↑a1.i : Int)
abbrev nP (a : BkS) (a1 : LnJ) (a2 : LnK) : Prop := (gD (AA (sB a)) a1.i).st = (gD (AA (sB a)) a2.i).st
abbrev aY (a : BkS) (a1 : LnJ) (a2 : LnK) : Prop := (gD (AA (sB a)) a1.i).fl = (gD (AA (sB a)) a2.i).fl
abbrev lP (a : LnJ) (a1 : LnK) : Prop := a.l.length = SM a1
abbrev MH (a : LnJ) (a1 : BkS) (a2 : LnK) : Prop := eA a a1 /\ Yu a a1 /\ aR a1 a = JG a1 a2 /\ fH a a1
abbrev cU (a : IJ) (a1 : BkS) (a2 : LnK) : Prop := mZ a a1 /\ Vv a a1 /\ lE a1 a = JG a1 a2 /\ iI a1 a
abbrev Xm (a : BkS) (a1 : IJ) (l : Nat) (a2 : LnK) : Prop := ∃ (a_1 : IJ), mO a a_1 a1 l /\ cU a_1 a a2 /\ Xb a a_1 a1
abbrev Xh (a : LnJ) (a1 : BkS) (a2 : LnK) (a3 : LnJ) : Prop := MH a a1 a2 /\ eZ a1 a a3
abbrev bW (a : BkS) (a1 : LnJ) (l : Nat) (a2 : LnK) : Prop := ∃ (a_1 : LnJ), aZ a a_1 a1 l /\ Xh a_1 a a2 a1
abbrev mN (a : BkS) (a1 : LnK) (l : Nat) : Prop := ∀ (a_1 : LnJ), MH a_1 a a1 -> bif dL a_1 a then jQ a_1 a /\ bif Wp a a_1 then l = l /\ aS a a_1 /\ bif iZ a a_1 then
 jG a_1 /\ ∃ (a_3 : LnJ), nE a a_3 a_1 l /\ Xh a_3 a a1 a_1 else bW a a_1 l a1 else bW a a_1 l a1 else ∃ (a_3 : LnK), lM l a a_3 a_1 /\ Bh a_3 a /\ JG a a_3 <
 JG a a1
abbrev kL (a : BkS) (a1 : LnK) (l : Nat) : Prop := (∀ (a_1 : IJ), cU a_1 a a1 -> bif Yp a_1 a then Zn a_1 a /\ bif Zl a a_1 then l = l /\ aV a a_1 /\ bif Wm a a_1 then
 UG /\ ∃ (a_3 : LnJ), Wx a a_3 a_1 l /\ MH a_3 a a1 /\ cV a a_3 a_1 else Xm a a_1 l a1 else Xm a a_1 l a1 else ∃ (a_3 : Nat), Wv l a a_3 a_1 /\ UI a_3 a /\
 OK a a_3 < JG a a1) /\ mN a a1 l /\ mN a a1 l
abbrev nC (a : LnJ) (a1 : LnK) : Prop := a.l.length = a1.l.length
abbrev LU (n : Int) (a : BkS) : Bool := decide (n = a.k)
abbrev mC (a : BkS) : Prop := ∀ (a_1 : One), True -> ∃ (a_3 : One), (a.st = a.st /\ ADD a /\ T3 a /\ W7 a /\ ADE a /\ BM /\ (∀ (n : Int), (CK a.w a.k).has n = GX a.w.has a.k n) /\ (∀
 (n : Int), (CK a.w a.k).st n = Vb a.w.has a.w.st a.k n) /\ (∀ (n : Int), ((AK (CK a.w a.k) n).length = bif LU n a then (EQ (sB a)).length else (AK a.w n).length) /\ ∀ (i : Nat), Uu i a n -> (Ah
 a n i = bif LU n a then (gD (EQ (sB a)) i).a0 else (gD (AK a.w n) i).a0) /\ (Aq a n i = bif LU n a then (gD (EQ (sB a)) i).a1 else (gD (AK a.w n) i).a1) /\ (XN a n i = bif LU n a
 then (gD (EQ (sB a)) i).b0 else (gD (AK a.w n) i).b0) /\ YJ a n i = bif LU n a then (gD (EQ (sB a)) i).b1 else (gD (AK a.w n) i).b1) /\ CO a /\ CN a /\ (0 : Nat) = (EQ (sB a)).length /\
 BE) /\ True
theorem CGI (a : BkS) : (BWN a) = ((a.k = a.k /\ Ml a = a.w.g.length /\ (∀ (i : Nat), i < Ml a -> APG a i = (gD a.w.g i).st /\ AYH a i = (gD a.w.g i).lo /\ AOE a i = (gD a.w.g i).hi) /\
 Ir a = a.w.b.length /\ (∀ (i : Nat), i < Ir a -> AYG a i = gD a.w.b i) /\ BM /\ DX a /\ EA a /\ (∀ (n : Int), Pf a n = (AK a.w n).length /\ ∀ (i : Nat), i < Pf a n ->
 ABW a n i = (gD (AK a.w n) i).a0 /\ W0 a n i = (gD (AK a.w n) i).a1 /\ ABQ a n i = (gD (AK a.w n) i).b0 /\ F3 a n i = (gD (AK a.w n) i).b1) /\ a.w.g.length = Ml a /\ (∀ (i : Nat), i <
 a.w.g.length -> (gD a.w.g i).st = APG a i /\ (gD a.w.g i).lo = AYH a i /\ (gD a.w.g i).hi = AOE a i) /\ a.w.b.length = Ir a /\ (∀ (i : Nat), i < a.w.b.length -> gD a.w.b i = AYG a i) /\ BM /\
 DX a /\ EA a /\ (∀ (n : Int), (AK a.w n).length = Pf a n /\ ∀ (i : Nat), ABN i a n -> (gD (AK a.w n) i).a0 = ABW a n i /\ (gD (AK a.w n) i).a1 = W0 a n i /\ (gD (AK a.w n) i).b0 =
 ABQ a n i /\ (gD (AK a.w n) i).b1 = F3 a n i) /\ (Ml a <= (24 : Nat) /\ (∀ (x : Gau), List.Mem x (Lx a) -> JV x) /\ Ir a <= (24 : Nat) /\ List.Pairwise (λ (x1 x2 : Int) => x1 < x2)
 (WK a) /\ ∀ (x : Int), List.Mem x (WK a) -> (1 : Int) <= x /\ x <= (2000 : Int)) /\ True) /\ BM /\ bif a.w.has a.k then (∃ (a_1 : One), (a.st = a.st /\ ADD a /\ T3 a /\ W7 a /\ ADE a /\
 BM /\ (∀ (n : Int), (CK a.w a.k).has n = a.w.has n) /\ (∀ (n : Int), (CK a.w a.k).st n = a.w.st n) /\ (∀ (n : Int), (AK (CK a.w a.k) n).length = (AK a.w n).length /\ ∀ (i : Nat), Uu i a n -> Ah a n i
 = (gD (AK a.w n) i).a0 /\ Aq a n i = (gD (AK a.w n) i).a1 /\ XN a n i = (gD (AK a.w n) i).b0 /\ YJ a n i = (gD (AK a.w n) i).b1) /\ AAW a /\ F1 a /\ (0 : Nat) = (AK a.w a.k).length /\
 BE) /\ True) /\ bR a else (((SP a = Ux a /\ ∀ (i : Nat), i < SP a -> dK a i = M6 a i /\ lC a i = L1 a i /\ Xw a i = S2 a i) /\ ∀ (l : Nat),
 (Gk a = SP a /\ (∀ (i : Nat), i < Gk a -> (Ay a i).st = dK a i /\ (Ay a i).lo = lC a i /\ (Ay a i).hi = Xw a i) /\ Gk a < (1073741824 : Nat) /\
 True) /\ (∃ (a_1 : Nat), (Fn.yield l = Fn.yield l /\ cE a /\ Xk a /\ cE a /\ Xk a /\ (↑(AA (sB a)).length : Int) = (↑(aB a) : Int) /\ Qe a_1 /\ ED a /\ EM a /\
 EL a /\ EJ a /\ BM /\ DX a /\ EA a /\ EH a /\ AAW a /\ F1 a /\ Tm) /\ UI a_1 a) /\ (∀ (a_1 : Nat), UI a_1 a -> bif K5 a_1 a then ADA a_1
 a /\ ((0 : Int) <= (gD (AA (sB a)) a_1).st /\ (gD (AA (sB a)) a_1).st <= (2000 : Int)) /\ l = l /\ (KH a /\ JZ a /\ (AL (gD (AA (sB a)) a_1)).a0 = (AL (gD (AA (sB a)) a_1)).a0 /\ (AL (gD (AA (sB
 a)) a_1)).a1 = (AL (gD (AA (sB a)) a_1)).a1 /\ (AL (gD (AA (sB a)) a_1)).b0 = (AL (gD (AA (sB a)) a_1)).b0 /\ (AL (gD (AA (sB a)) a_1)).b1 = (AL (gD (AA (sB a)) a_1)).b1 /\ JE a /\ ∀ (g :
 Gau), JK g a -> ((0 : Int) <= (AL (gD (AA (sB a)) a_1)).a0 /\ (AL (gD (AA (sB a)) a_1)).a0 < (AL (gD (AA (sB a)) a_1)).b0 /\ (AL (gD (AA (sB a)) a_1)).b0 <= (2000 : Int) /\ (0 : Int) <= (AL (gD
 (AA (sB a)) a_1)).a1 /\ (AL (gD (AA (sB a)) a_1)).a1 <= (AL (gD (AA (sB a)) a_1)).b1 /\ (AL (gD (AA (sB a)) a_1)).b1 <= (200000 : Int)) /\ JV g) /\ bif (FX a).all λ (g : Gau) => BR (AL
 (gD (AA (sB a)) a_1)) g then UG /\ (∃ (a_3 : LnJ), (AZ a /\ BC a /\ CE a /\ Gg a_3 /\ Fn.yield l = Fn.yield l /\ AZ a /\ BC a /\ AZ a /\ BC a /\ CE a /\
 (↑a_3.i : Int) = (↑a_1 : Int) /\ (gD (AA (sB a)) a_3.i).st = (gD (AA (sB a)) a_1).st /\ (gD (AA (sB a)) a_3.i).fl = (gD (AA (sB a)) a_1).fl /\ ED a /\ EM a /\ EL a /\ EJ a /\
 BM /\ DX a /\ EA a /\ EH a /\ CO a /\ CN a /\ BE /\ SA a_3 /\ SA a_3 /\ ∀ (i : Nat), i < a_3.l.length -> (gD a_3.l i).a0 = (AL (gD (AA (sB a)) a_1)).a0 /\ (gD
 a_3.l i).a1 = (AL (gD (AA (sB a)) a_1)).a1 /\ (gD a_3.l i).b0 = (AL (gD (AA (sB a)) a_1)).b0 /\ (gD a_3.l i).b1 = (AL (gD (AA (sB a)) a_1)).b1) /\ SB a_3 a a_1) /\ gG a a_1 l else (∃ (a_3 :
 IJ), (AZ a /\ BC a /\ CE a /\ (↑a_3.j : Int) = (0 : Int) /\ Fn.yield l = Fn.yield l /\ AZ a /\ BC a /\ AZ a /\ BC a /\ CE a /\ (↑a_3.i : Int) = (↑a_1 : Int) /\ (gD (AA (sB
 a)) a_3.i).st = (gD (AA (sB a)) a_1).st /\ (gD (AA (sB a)) a_3.i).fl = (gD (AA (sB a)) a_1).fl /\ Dm a) /\ By a_3 a a_1) /\ gG a a_1 l else ∃ (a_3 : One), (a.k = a.k /\ a.st = a.st /\
 ED a /\ EM a /\ EL a /\ EJ a /\ BM /\ DX a /\ EA a /\ EH a /\ CO a /\ CN a /\ gO a /\ gO a) /\ True) /\ ∀ (a_1 : LnK), Bh a_1 a -> bif
 decide (eX a_1 a) then (jA a_1 /\ eX a_1 a) /\ ((0 : Int) <= (gD (AA (sB a)) a_1.i).st /\ (gD (AA (sB a)) a_1.i).st <= (2000 : Int)) /\ l = l /\ (KH a /\ JZ a /\ MI a a_1 =
 MI a a_1 /\ NL a a_1 = NL a a_1 /\ OM a a_1 = OM a a_1 /\ NU a a_1 = NU a a_1 /\ JE a /\ ∀ (g : Gau), JK g a -> ((0 : Int) <= MI a a_1 /\ MI
 a a_1 < OM a a_1 /\ OM a a_1 <= (2000 : Int) /\ (0 : Int) <= NL a a_1 /\ NL a a_1 <= NU a a_1 /\ NU a a_1 <= (200000 : Int)) /\ JV g) /\ bif (FX a).all λ (g : Gau) =>
 BR (AL (gD (AA (sB a)) a_1.i)) g then Zm a_1 /\ (∃ (a_3 : LnJ), (AZ a /\ BC a /\ CE a /\ Gg a_3 /\ Fn.yield l = Fn.yield l /\ AZ a /\ BC a /\ AZ a /\ BC a /\
 CE a /\ cQ a_3 a_1 /\ nP a a_3 a_1 /\ aY a a_3 a_1 /\ ED a /\ EM a /\ EL a /\ EJ a /\ BM /\ DX a /\ EA a /\ EH a /\ CO a /\ CN
 a /\ BE /\ lP a_3 a_1 /\ lP a_3 a_1 /\ ∀ (i : Nat), i < a_3.l.length -> ((gD a_3.l i).a0 = bif GT i a_1 then (gD a_1.l i).a0 else MI a a_1) /\ ((gD a_3.l i).a1 = bif GT i a_1 then
 (gD a_1.l i).a1 else NL a a_1) /\ ((gD a_3.l i).b0 = bif GT i a_1 then (gD a_1.l i).b0 else OM a a_1) /\ (gD a_3.l i).b1 = bif GT i a_1 then (gD a_1.l i).b1 else NU a a_1) /\
 MH a_3 a a_1) /\ kL a a_1 l else (∃ (a_3 : LnJ), (AZ a /\ BC a /\ CE a /\ Gg a_3 /\ Fn.yield l = Fn.yield l /\ AZ a /\ BC a /\ AZ a /\ BC a /\ CE a /\
 cQ a_3 a_1 /\ nP a a_3 a_1 /\ aY a a_3 a_1 /\ ED a /\ EM a /\ EL a /\ EJ a /\ BM /\ DX a /\ EA a /\ EH a /\ CO a /\ CN a /\ BE
 /\ nC a_3 a_1 /\ nC a_3 a_1 /\ ∀ (i : Nat), i < a_3.l.length -> (gD a_3.l i).a0 = (gD a_1.l i).a0 /\ (gD a_3.l i).a1 = (gD a_1.l i).a1 /\ (gD a_3.l i).b0 = (gD a_1.l i).b0 /\ (gD a_3.l i).b1 = (gD a_1.l i).b1) /\
 MH a_3 a a_1) /\ kL a a_1 l else ∃ (a_3 : One), (a.k = a.k /\ a.st = a.st /\ ED a /\ EM a /\ EL a /\ EJ a /\ BM /\ DX a /\ EA a /\ EH a /\ CO a /\
 CN a /\ (EQ (sB a)).length = a_1.l.length /\ cT a_1 /\ ∀ (j : Nat), j < (EQ (sB a)).length -> (gD (EQ (sB a)) j).a0 = eC a_1 j /\ (gD (EQ (sB a)) j).a1 = Zf a_1 j /\ (gD (EQ (sB a)) j).b0 =
 lQ a_1 j /\ (gD (EQ (sB a)) j).b1 = fW a_1 j) /\ True) /\ mC a /\ mC a) /\ bR a) := by kernel_rfl
theorem LB (w : Bk) : Bk.mk w.g w.b w.has w.st = w := rfl
theorem BCD (l : List Ln) (p : Ln) (i : Nat) (hi : i < (l ++ [p]).length) : ((gD (l ++ [p]) i).a0 = bif decide (i < l.length) then (gD l i).a0 else p.a0) /\ ((gD (l ++ [p]) i).a1 = bif decide (i < l.length) then (gD l i).a1 else p.a1) /\ ((gD (l ++ [p]) i).b0 = bif decide (i < l.length) then (gD l i).b0 else p.b0) /\ (gD (l ++ [p]) i).b1 = bif decide (i < l.length) then (gD l i).b1 else p.b1 := by
 rw [wM _ _ (by simpa using hi)]
 cases decide (i < l.length) <;> exact ⟨rfl, rfl, rfl, rfl⟩
theorem oneL (p : Ln) (i : Nat) (hi : i < [p].length) : (gD [p] i).a0 = p.a0 /\ (gD [p] i).a1 = p.a1 /\ (gD [p] i).b0 = p.b0 /\ (gD [p] i).b1 = p.b1 := by
 have : i = 0 := by have hj : i < 1 := hi; omega
 subst this; exact ⟨rfl, rfl, rfl, rfl⟩
theorem BXS {s : List Gau} {i j : Nat} (h : j < (AA s).length) (h1 : Ar (Gu (gD (AA s) i) (gD (AA s) j)) = true) (h2 : JC s (Gu (gD (AA s) i) (gD (AA s) j)) = true) : (ET s i (j + 1)).filter (JC s) = (ET s i j).filter (JC s) ++ [Gu (gD (AA s) i) (gD (AA s) j)] := by
 rw [RC h, if_pos h1, List.filter_append, List.filter_cons_of_pos h2]; rfl
theorem BVT {s : List Gau} {i j : Nat} (h : j < (AA s).length) (h1 : Ar (Gu (gD (AA s) i) (gD (AA s) j)) = true) (h2 : JC s (Gu (gD (AA s) i) (gD (AA s) j)) = false) : (ET s i (j + 1)).filter (JC s) = (ET s i j).filter (JC s) := by
 rw [RC h, if_pos h1, List.filter_append, List.filter_cons_of_neg (by rw [h2]; simp)]; simp
theorem BTE {s : List Gau} {i j : Nat} (h : j < (AA s).length) (h1 : Ar (Gu (gD (AA s) i) (gD (AA s) j)) = false) : (ET s i (j + 1)).filter (JC s) = (ET s i j).filter (JC s) := by
 rw [RC h, if_neg (by rw [h1]; simp), List.append_nil]
theorem qC {s : List Gau} {i : Nat} : (ET s i 0).filter (JC s) = (PK s i).filter (JC s) ++ if JC s (AL (gD (AA s) i)) = true then [AL (gD (AA s) i)] else [] := by
 unfold ET
 rw [List.filter_append]
 congr 1
 simp [List.filter_cons]
theorem BIA {s : List Gau} {i j : Nat} (hN : (AA s).length <= 48) : ((ET s i j).filter (JC s)).length <= 10000 := by
 refine Nat.le_trans (List.length_filter_le _ _) ?_
 have h1 : ∀ a : Pt, (blk (AA s) a).length <= 49 := λ a => by
  unfold blk
  have := List.length_filter_le Ar ((AA s).map (Gu a))
  simp only [List.length_cons, List.length_map] at *; omega
 have h2 : ∀ l : List Pt, l.length <= 48 -> (l.flatMap (blk (AA s))).length <= l.length * 49 := λ l _ => by
  induction l with
  | nil => simp
  | cons a l ih =>
   rw [List.flatMap_cons, List.length_append, List.length_cons]
   have := h1 a; have := ih (by simp at *; omega); omega
 unfold ET PK
 have h3 := h2 ((AA s).take i) (by simp; omega)
 have h4 := List.length_filter_le Ar (((AA s).take j).map (Gu (gD (AA s) i)))
 simp only [List.length_append, List.length_cons, List.length_map, List.length_take] at *
 omega
theorem BHM {s : List Gau} {q : Nat} (hs : s.length <= 24) (hN : (AA s).length <= 48) (hg : ∀ g ∈ s, GY g) (x : IJ) (hx : x.i < (AA s).length /\ x.j <= (AA s).length /\ (AA s).length - x.i = q /\ (ET s x.i x.j).filter (JC s) = []) :
  ((x.j : Int) < (AA s).length -> (0 <= (x.j : Int) /\ (x.j : Int) < (AA s).length) /\ (Ar ⟨(gD (AA s) x.i).st, (gD (AA s) x.i).fl, (gD (AA s) x.j).st, (gD (AA s) x.j).fl⟩ = true -> (s.length < 4611686018427387904 /\ ∀ g : Gau, List.Mem g s -> DS ⟨(gD (AA s) x.i).st, (gD (AA s) x.i).fl, (gD (AA s) x.j).st, (gD (AA s) x.j).fl⟩ /\ GY g) /\ ((s.all λ g => BR ⟨(gD (AA s) x.i).st, (gD (AA s) x.i).fl, (gD (AA s) x.j).st, (gD (AA s) x.j).fl⟩ g) = true -> ((0 < 0 -> 0 = 4) /\ 0 < 1 /\ 0 < 1 /\ 0 < 9223372036854775807 /\ 31 < 140737488355328) /\ ∃ y : LnJ, ((y.j : Int) = IntKind.i64.wrap ((x.j : Int) + 1) /\ (y.i : Int) = x.i /\ (gD (AA s) y.i).st = (gD (AA s) x.i).st /\ (gD (AA s) y.i).fl = (gD (AA s) x.i).fl /\ y.l.length = 1 /\ y.l.length = 1 /\ ∀ i : Nat, i < y.l.length -> (gD y.l i).a0 = (gD (AA s) x.i).st /\ (gD y.l i).a1 = (gD (AA s) x.i).fl /\ (gD y.l i).b0 = (gD (AA s) x.j).st /\ (gD y.l i).b1 = (gD (AA s) x.j).fl) /\ (y.i < (AA s).length /\ y.j <= (AA s).length /\ (AA s).length - y.i = q /\ y.l = (ET s y.i y.j).filter (JC s)) /\ (AA s).length - y.j < (AA s).length - x.j) /\ ((s.all λ g => BR ⟨(gD (AA s) x.i).st, (gD (AA s) x.i).fl, (gD (AA s) x.j).st, (gD (AA s) x.j).fl⟩ g) = false -> ∃ y : IJ, ((y.j : Int) = IntKind.i64.wrap ((x.j : Int) + 1) /\ (y.i : Int) = x.i /\ (gD (AA s) y.i).st = (gD (AA s) x.i).st /\ (gD (AA s) y.i).fl = (gD (AA s) x.i).fl) /\ (y.i < (AA s).length /\ y.j <= (AA s).length /\ (AA s).length - y.i = q /\ (ET s y.i y.j).filter (JC s) = []) /\ (AA s).length - y.j < (AA s).length - x.j)) /\ (Ar ⟨(gD (AA s) x.i).st, (gD (AA s) x.i).fl, (gD (AA s) x.j).st, (gD (AA s) x.j).fl⟩ = false -> ∃ y : IJ, ((y.j : Int) = IntKind.i64.wrap ((x.j : Int) + 1) /\ (y.i : Int) = x.i /\ (gD (AA s) y.i).st = (gD (AA s) x.i).st /\ (gD (AA s) y.i).fl = (gD (AA s) x.i).fl) /\ (y.i < (AA s).length /\ y.j <= (AA s).length /\ (AA s).length - y.i = q /\ (ET s y.i y.j).filter (JC s) = []) /\ (AA s).length - y.j < (AA s).length - x.j)) /\ (¬(x.j : Int) < (AA s).length -> ∃ y : Nat, (y : Int) = IntKind.i64.wrap ((x.i : Int) + 1) /\ (y <= (AA s).length /\ (PK s y).filter (JC s) = []) /\ (AA s).length - y < q) := by
 obtain ⟨h1, h2, h3, h4⟩ := hx
 refine ⟨λ hj => ?_, λ hj => ⟨x.i + 1, (CA (by omega)).symm, ⟨by omega, ?_⟩, by omega⟩⟩
 ·have hj' : x.j < (AA s).length := Int.ofNat_lt.1 hj
  have step : (ET s x.i (x.j + 1)).filter (JC s) = [] -> ∃ y : IJ, ((y.j : Int) = IntKind.i64.wrap ((x.j : Int) + 1) /\ (y.i : Int) = x.i /\ (gD (AA s) y.i).st = (gD (AA s) x.i).st /\ (gD (AA s) y.i).fl = (gD (AA s) x.i).fl) /\ (y.i < (AA s).length /\ y.j <= (AA s).length /\ (AA s).length - y.i = q /\ (ET s y.i y.j).filter (JC s) = []) /\ (AA s).length - y.j < (AA s).length - x.j := λ h => ⟨⟨x.i, x.j + 1⟩, ⟨(CA (by omega)).symm, rfl, rfl, rfl⟩, ⟨h1, hj', h3, h⟩, by show (AA s).length - (x.j + 1) < _; omega⟩
  refine ⟨⟨by omega, hj⟩, λ hr => ⟨⟨by omega, λ g hgs => ⟨WA.1 hr, hg g hgs⟩⟩, λ hp => ⟨⟨by omega, by omega, by omega, by omega, by omega⟩, ⟨x.i, x.j + 1, [Gu (gD (AA s) x.i) (gD (AA s) x.j)]⟩, ⟨(CA (by omega)).symm, rfl, rfl, rfl, rfl, rfl, oneL _⟩, ⟨h1, hj', h3, ?_⟩, by show (AA s).length - (x.j + 1) < _; omega⟩, λ hp => step ?_⟩, λ hr => step ?_⟩
  ·show _ = (ET s x.i (x.j + 1)).filter (JC s)
   rw [BXS hj' hr hp, h4]; rfl
  ·rw [BVT hj' hr hp, h4]
  ·rw [BTE hj' hr, h4]
 ·have : x.j = (AA s).length := by omega
  rw [this] at h4; rw [<- Je h1]; exact h4
theorem BHL {s : List Gau} {q : Nat} (hs : s.length <= 24) (hN : (AA s).length <= 48) (hg : ∀ g ∈ s, GY g) (x : LnJ) (hx : x.i < (AA s).length /\ x.j <= (AA s).length /\ (AA s).length - x.i = q /\ x.l = (ET s x.i x.j).filter (JC s)) :
  ((x.j : Int) < (AA s).length -> (0 <= (x.j : Int) /\ (x.j : Int) < (AA s).length) /\ (Ar ⟨(gD (AA s) x.i).st, (gD (AA s) x.i).fl, (gD (AA s) x.j).st, (gD (AA s) x.j).fl⟩ = true -> (s.length < 4611686018427387904 /\ ∀ g : Gau, List.Mem g s -> DS ⟨(gD (AA s) x.i).st, (gD (AA s) x.i).fl, (gD (AA s) x.j).st, (gD (AA s) x.j).fl⟩ /\ GY g) /\ ((s.all λ g => BR ⟨(gD (AA s) x.i).st, (gD (AA s) x.i).fl, (gD (AA s) x.j).st, (gD (AA s) x.j).fl⟩ g) = true -> (0 < 1 /\ (false = true -> 0 < 1) /\ x.l.length < 9223372036854775807 /\ (x.l.length + 1) * 32 <= 140737488355328) /\ ∃ y : LnJ, ((y.j : Int) = IntKind.i64.wrap ((x.j : Int) + 1) /\ (y.i : Int) = x.i /\ (gD (AA s) y.i).st = (gD (AA s) x.i).st /\ (gD (AA s) y.i).fl = (gD (AA s) x.i).fl /\ y.l.length = x.l.length + 1 /\ y.l.length = x.l.length + 1 /\ ∀ i : Nat, i < y.l.length -> ((gD y.l i).a0 = bif decide (i < x.l.length) then (gD x.l i).a0 else (gD (AA s) x.i).st) /\ ((gD y.l i).a1 = bif decide (i < x.l.length) then (gD x.l i).a1 else (gD (AA s) x.i).fl) /\ ((gD y.l i).b0 = bif decide (i < x.l.length) then (gD x.l i).b0 else (gD (AA s) x.j).st) /\ (gD y.l i).b1 = bif decide (i < x.l.length) then (gD x.l i).b1 else (gD (AA s) x.j).fl) /\ (y.i < (AA s).length /\ y.j <= (AA s).length /\ (AA s).length - y.i = q /\ y.l = (ET s y.i y.j).filter (JC s)) /\ (AA s).length - y.j < (AA s).length - x.j) /\ ((s.all λ g => BR ⟨(gD (AA s) x.i).st, (gD (AA s) x.i).fl, (gD (AA s) x.j).st, (gD (AA s) x.j).fl⟩ g) = false -> (∃ y : LnJ, ((y.j : Int) = IntKind.i64.wrap ((x.j : Int) + 1) /\ (y.i : Int) = x.i /\ (gD (AA s) y.i).st = (gD (AA s) x.i).st /\ (gD (AA s) y.i).fl = (gD (AA s) x.i).fl /\ y.l.length = x.l.length /\ y.l.length = x.l.length /\ ∀ i : Nat, i < y.l.length -> (gD y.l i).a0 = (gD x.l i).a0 /\ (gD y.l i).a1 = (gD x.l i).a1 /\ (gD y.l i).b0 = (gD x.l i).b0 /\ (gD y.l i).b1 = (gD x.l i).b1) /\ (y.i < (AA s).length /\ y.j <= (AA s).length /\ (AA s).length - y.i = q /\ y.l = (ET s y.i y.j).filter (JC s)) /\ (AA s).length - y.j < (AA s).length - x.j))) /\ (Ar ⟨(gD (AA s) x.i).st, (gD (AA s) x.i).fl, (gD (AA s) x.j).st, (gD (AA s) x.j).fl⟩ = false -> (∃ y : LnJ, ((y.j : Int) = IntKind.i64.wrap ((x.j : Int) + 1) /\ (y.i : Int) = x.i /\ (gD (AA s) y.i).st = (gD (AA s) x.i).st /\ (gD (AA s) y.i).fl = (gD (AA s) x.i).fl /\ y.l.length = x.l.length /\ y.l.length = x.l.length /\ ∀ i : Nat, i < y.l.length -> (gD y.l i).a0 = (gD x.l i).a0 /\ (gD y.l i).a1 = (gD x.l i).a1 /\ (gD y.l i).b0 = (gD x.l i).b0 /\ (gD y.l i).b1 = (gD x.l i).b1) /\ (y.i < (AA s).length /\ y.j <= (AA s).length /\ (AA s).length - y.i = q /\ y.l = (ET s y.i y.j).filter (JC s)) /\ (AA s).length - y.j < (AA s).length - x.j))) /\ (¬(x.j : Int) < (AA s).length -> ∃ y : LnK, ((y.i : Int) = IntKind.i64.wrap ((x.i : Int) + 1) /\ y.l.length = x.l.length /\ y.l.length = x.l.length /\ ∀ i : Nat, i < y.l.length -> (gD y.l i).a0 = (gD x.l i).a0 /\ (gD y.l i).a1 = (gD x.l i).a1 /\ (gD y.l i).b0 = (gD x.l i).b0 /\ (gD y.l i).b1 = (gD x.l i).b1) /\ (y.i <= (AA s).length /\ y.l = (PK s y.i).filter (JC s)) /\ (AA s).length - y.i < q) := by
 obtain ⟨h1, h2, h3, h4⟩ := hx
 refine ⟨λ hj => ?_, λ hj => ⟨⟨x.i + 1, x.l⟩, ⟨(CA (by omega)).symm, rfl, rfl, λ _ _ => ⟨rfl, rfl, rfl, rfl⟩⟩, ⟨h1, ?_⟩, by show (AA s).length - (x.i + 1) < _; omega⟩⟩
 ·have hj' : x.j < (AA s).length := Int.ofNat_lt.1 hj
  have hl : x.l.length <= 10000 := h4 ▸ BIA hN
  have step : (ET s x.i (x.j + 1)).filter (JC s) = x.l -> (∃ y : LnJ, ((y.j : Int) = IntKind.i64.wrap ((x.j : Int) + 1) /\ (y.i : Int) = x.i /\ (gD (AA s) y.i).st = (gD (AA s) x.i).st /\ (gD (AA s) y.i).fl = (gD (AA s) x.i).fl /\ y.l.length = x.l.length /\ y.l.length = x.l.length /\ ∀ i : Nat, i < y.l.length -> (gD y.l i).a0 = (gD x.l i).a0 /\ (gD y.l i).a1 = (gD x.l i).a1 /\ (gD y.l i).b0 = (gD x.l i).b0 /\ (gD y.l i).b1 = (gD x.l i).b1) /\ (y.i < (AA s).length /\ y.j <= (AA s).length /\ (AA s).length - y.i = q /\ y.l = (ET s y.i y.j).filter (JC s)) /\ (AA s).length - y.j < (AA s).length - x.j) := λ h => ⟨⟨x.i, x.j + 1, x.l⟩, ⟨(CA (by omega)).symm, rfl, rfl, rfl, rfl, rfl, λ _ _ => ⟨rfl, rfl, rfl, rfl⟩⟩, ⟨h1, hj', h3, h.symm⟩, by show (AA s).length - (x.j + 1) < _; omega⟩
  refine ⟨⟨by omega, hj⟩, λ hr => ⟨⟨by omega, λ g hgs => ⟨WA.1 hr, hg g hgs⟩⟩, λ hp => ⟨⟨by omega, λ _ => by omega, by omega, by omega⟩, ⟨x.i, x.j + 1, x.l ++ [Gu (gD (AA s) x.i) (gD (AA s) x.j)]⟩, ⟨(CA (by omega)).symm, rfl, rfl, rfl, by simp, by simp, BCD _ _⟩, ⟨h1, hj', h3, ?_⟩, by show (AA s).length - (x.j + 1) < _; omega⟩, λ hp => step ?_⟩, λ hr => step ?_⟩
  ·show _ = (ET s x.i (x.j + 1)).filter (JC s)
   rw [BXS hj' hr hp, <- h4]
  ·rw [BVT hj' hr hp, h4]
  ·rw [BTE hj' hr, h4]
 ·have : x.j = (AA s).length := by omega
  rw [this] at h4; show x.l = (PK s (x.i + 1)).filter (JC s); rw [<- Je h1]; exact h4
theorem CLL {α : Type} [Inhabited α] (l m : List α) (j : Nat) : gD (l ++ m) j = bif decide (j < l.length) then gD l j else gD m (j - l.length) := by
 rw [Rn]; by_cases h : j < l.length <;> simp [h]
theorem BZQ {α : Type} [Inhabited α] (x y : α) {j : Nat} (h : j < 2) : gD [x, y] j = bif decide (j = 0) then x else y := by
 match j, h with
 | 0, _ => rfl
 | 1, _ => rfl
theorem wX {s : List Gau} {t : Int} {i : Nat} (h : i < (AA s).length) : IV s t (i + 1) = IV s t i ++ [Gu ⟨t, 0⟩ (gD (AA s) i), Gu (gD (AA s) i) ⟨t, 200000⟩] := by
 unfold IV; rw [EZ h, List.flatMap_append, <- List.append_assoc]; simp
theorem BGL {s : List Gau} {t : Int} : ∀ i : Nat, i <= (AA s).length -> (IV s t i).length = 2 + 2 * i
 | 0, _ => rfl
 | i + 1, h => by rw [wX (by omega), List.length_append, BGL i (by omega)]; simp; omega
theorem BEE {s : List Gau} {t : Int} : IV s t (AA s).length = DE s t := by unfold IV DE; rw [List.take_length]
theorem CBS (s : List Gau) (t : Int) : ∃ i : Nat, ((IV s t i).length = 2 /\ (i : Int) = 0 /\ (IV s t i).length = 2 /\ ∀ j : Nat, j < (IV s t i).length -> ((gD (IV s t i) j).a0 = bif decide (j = 0) then (AL ⟨t, 0⟩).a0 else (AL ⟨t, 200000⟩).a0) /\ ((gD (IV s t i) j).a1 = bif decide (j = 0) then (AL ⟨t, 0⟩).a1 else (AL ⟨t, 200000⟩).a1) /\ ((gD (IV s t i) j).b0 = bif decide (j = 0) then (AL ⟨t, 0⟩).b0 else (AL ⟨t, 200000⟩).b0) /\ (gD (IV s t i) j).b1 = bif decide (j = 0) then (AL ⟨t, 0⟩).b1 else (AL ⟨t, 200000⟩).b1) /\ i <= (AA s).length := by
 refine ⟨0, ⟨rfl, rfl, rfl, λ j hj => ?_⟩, Nat.zero_le _⟩
 have hj : j < 2 := hj
 rw [show IV s t 0 = [AL ⟨t, 0⟩, AL ⟨t, 200000⟩] from rfl, BZQ _ _ hj]
 cases decide (j = 0) <;> exact ⟨rfl, rfl, rfl, rfl⟩
theorem CBV {s : List Gau} {t : Int} (hN : (AA s).length <= 48) {i : Nat} (h : (i : Int) < (AA s).length) : (0 <= (i : Int) /\ (i : Int) < (AA s).length) /\ (1 < 2 /\ (false = true -> 0 < 2) /\ (IV s t i).length + 1 < 9223372036854775807 /\ ((IV s t i).length + 2) * 32 <= 140737488355328) /\ ∃ k : Nat, ((IV s t k).length = (IV s t i).length + 2 /\ (k : Int) = IntKind.i64.wrap ((i : Int) + 1) /\ (IV s t k).length = (IV s t i).length + 2 /\ ∀ j : Nat, j < (IV s t k).length -> ((gD (IV s t k) j).a0 = bif decide (j < (IV s t i).length) then (gD (IV s t i) j).a0 else bif decide (j - (IV s t i).length = 0) then t else (gD (AA s) i).st) /\ ((gD (IV s t k) j).a1 = bif decide (j < (IV s t i).length) then (gD (IV s t i) j).a1 else bif decide (j - (IV s t i).length = 0) then 0 else (gD (AA s) i).fl) /\ ((gD (IV s t k) j).b0 = bif decide (j < (IV s t i).length) then (gD (IV s t i) j).b0 else bif decide (j - (IV s t i).length = 0) then (gD (AA s) i).st else t) /\ (gD (IV s t k) j).b1 = bif decide (j < (IV s t i).length) then (gD (IV s t i) j).b1 else bif decide (j - (IV s t i).length = 0) then (gD (AA s) i).fl else 200000) /\ k <= (AA s).length /\ (AA s).length - k < (AA s).length - i := by
 have h' : i < (AA s).length := Int.ofNat_lt.1 h
 have hl := BGL (s := s) (t := t) i (by omega)
 refine ⟨⟨by omega, h⟩, ⟨by omega, λ _ => by omega, by omega, by omega⟩, i + 1, ⟨?_, (CA (by omega)).symm, ?_, λ j hj => ?_⟩, h', by omega⟩
 ·rw [wX h', List.length_append]; rfl
 ·rw [wX h', List.length_append]; rfl
 ·rw [wX h'] at hj ⊢
  rw [CLL]
  by_cases h1 : j < (IV s t i).length
  ·simp [h1]
  ·rw [BZQ _ _ (by simp at hj; omega)]
   simp only [h1, decide_false, cond_false]
   cases decide (j - (IV s t i).length = 0) <;> exact ⟨rfl, rfl, rfl, rfl⟩
theorem BCU {s : List Gau} {l : List Ln} {i : Nat} (h : i < l.length) : (l.take (i + 1)).filter (Vg s) = (l.take i).filter (Vg s) ++ if Vg s (gD l i) = true then [gD l i] else [] := by
 rw [EZ h, List.filter_append]; simp [List.filter_cons]
theorem wI {s : List Gau} {t : Int} : (DE s t).length = 2 + 2 * (AA s).length := by rw [<- BEE, BGL _ (Nat.le_refl _)]
theorem BXW {s : List Gau} {t : Int} {f : List Ln} (hs : s.length <= 24) (hN : (AA s).length <= 48) (hg : ∀ g ∈ s, GY g) (hf : f.length <= 10000) {x : LnK} (hx : x.i <= (DE s t).length /\ x.l = f ++ ((DE s t).take x.i).filter (Vg s)) (h : (x.i : Int) < (DE s t).length) :
  ((0 <= (x.i : Int) /\ (x.i : Int) < (DE s t).length) /\ x.i < (DE s t).length) /\ (Ar (gD (DE s t) x.i) = true -> (s.length < 4611686018427387904 /\ ∀ g : Gau, List.Mem g s -> DS (gD (DE s t) x.i) /\ GY g)) /\ ((bif Ar (gD (DE s t) x.i) then s.all λ g => BR (gD (DE s t) x.i) g else false) = true -> (0 < 1 /\ (false = true -> 0 < 1) /\ x.l.length < 9223372036854775807 /\ (x.l.length + 1) * 32 <= 140737488355328) /\ ∃ y : LnK, (y.l.length = x.l.length + 1 /\ (y.i : Int) = x.i /\ y.l.length = x.l.length + 1 /\ ∀ j : Nat, j < y.l.length -> ((gD y.l j).a0 = bif decide (j < x.l.length) then (gD x.l j).a0 else (gD (DE s t) x.i).a0) /\ ((gD y.l j).a1 = bif decide (j < x.l.length) then (gD x.l j).a1 else (gD (DE s t) x.i).a1) /\ ((gD y.l j).b0 = bif decide (j < x.l.length) then (gD x.l j).b0 else (gD (DE s t) x.i).b0) /\ (gD y.l j).b1 = bif decide (j < x.l.length) then (gD x.l j).b1 else (gD (DE s t) x.i).b1) /\ (y.i < (DE s t).length /\ (DE s t).length - y.i = (DE s t).length - x.i /\ y.l = f ++ (((DE s t).take (y.i + 1)).filter (Vg s)))) /\ ((bif Ar (gD (DE s t) x.i) then s.all λ g => BR (gD (DE s t) x.i) g else false) = false -> ∃ y : LnK, (y.l.length = x.l.length /\ (y.i : Int) = x.i /\ y.l.length = x.l.length /\ ∀ j : Nat, j < y.l.length -> (gD y.l j).a0 = (gD x.l j).a0 /\ (gD y.l j).a1 = (gD x.l j).a1 /\ (gD y.l j).b0 = (gD x.l j).b0 /\ (gD y.l j).b1 = (gD x.l j).b1) /\ (y.i < (DE s t).length /\ (DE s t).length - y.i = (DE s t).length - x.i /\ y.l = f ++ (((DE s t).take (y.i + 1)).filter (Vg s)))) := by
 obtain ⟨h1, h2⟩ := hx
 have h' : x.i < (DE s t).length := Int.ofNat_lt.1 h
 have hl : x.l.length <= 10098 := by
  rw [h2, List.length_append]
  have := List.length_filter_le (Vg s) ((DE s t).take x.i)
  rw [List.length_take] at this
  have := wI (s := s) (t := t)
  omega
 refine ⟨⟨⟨by omega, h⟩, h'⟩, λ hr => ⟨by omega, λ g hgs => ⟨WA.1 hr, hg g hgs⟩⟩, λ hp => ⟨⟨by omega, λ _ => by omega, by omega, by omega⟩, ⟨x.i, x.l ++ [(gD (DE s t) x.i)]⟩, ⟨by simp, rfl, by simp, BCD _ _⟩, h', rfl, ?_⟩, λ hp => ⟨⟨x.i, x.l⟩, ⟨rfl, rfl, rfl, λ _ _ => ⟨rfl, rfl, rfl, rfl⟩⟩, h', rfl, ?_⟩⟩
 ·show x.l ++ _ = _
  rw [BCU h', if_pos (show Vg s (gD (DE s t) x.i) = true from hp), <- List.append_assoc, <- h2]
 ·show x.l = _
  rw [BCU h', if_neg (by intro hq; have hq : (bif Ar (gD (DE s t) x.i) then s.all λ g => BR (gD (DE s t) x.i) g else false) = true := hq; rw [hp] at hq; cases hq), List.append_nil, <- h2]
theorem BPG {s : List Gau} {t : Int} {f : List Ln} (hN : (AA s).length <= 48) {m : Nat} (x : LnK) (hx : x.i < (DE s t).length /\ (DE s t).length - x.i = m /\ x.l = f ++ ((DE s t).take (x.i + 1)).filter (Vg s)) : ∃ y : LnK, (y.l.length = x.l.length /\ (y.i : Int) = IntKind.i64.wrap ((x.i : Int) + 1) /\ y.l.length = x.l.length /\ ∀ j : Nat, j < y.l.length -> (gD y.l j).a0 = (gD x.l j).a0 /\ (gD y.l j).a1 = (gD x.l j).a1 /\ (gD y.l j).b0 = (gD x.l j).b0 /\ (gD y.l j).b1 = (gD x.l j).b1) /\ (y.i <= (DE s t).length /\ y.l = f ++ ((DE s t).take y.i).filter (Vg s)) /\ (DE s t).length - y.i < m := by
 have := wI (s := s) (t := t)
 exact ⟨⟨x.i + 1, x.l⟩, ⟨rfl, (CA (by omega)).symm, rfl, λ _ _ => ⟨rfl, rfl, rfl, rfl⟩⟩, ⟨hx.1, hx.2.2⟩, by show (DE s t).length - (x.i + 1) < m; omega⟩
theorem TC {w : Bk} {k : Int} (h : w.has k = true) : CK w k = w := by
 obtain ⟨g, b, has, st⟩ := w
 have h : has k = true := h
 unfold CK; congr 1
 ·funext n; unfold GX; by_cases e : n = k
  ·subst e; simp [h]
  ·simp [e]
 ·funext n; unfold Vb; simp [h]
theorem CLM {w : Bk} {k n : Int} : AK (CK w k) n = bif decide (n = k) then EQ (LD w k) else AK w n := by
 unfold AK
 show (bif GX w.has k n then EQ (LD w n) else []) = _
 unfold GX
 by_cases e : n = k
 ·subst e; simp
 ·simp [e]
theorem BYE {w : Bk} {k : Int} (h : w.has k = true) : AK w k = EQ (LD w k) := by unfold AK; rw [h]; rfl
theorem CFA {s : List Gau} (h : s = []) : EQ s = [] := by subst h; rfl
theorem BPT {s : List Gau} (hN : (AA s).length <= 48) : (EQ s).length <= 10000 := by
 unfold EQ
 rw [<- Jt]
 by_cases h : (AA s).length = 0
 ·rw [h]; simp [PK]
 ·obtain ⟨i, hi⟩ : ∃ i, (AA s).length = i + 1 := ⟨(AA s).length - 1, by omega⟩
  rw [hi, <- Je (i := i) (by omega)]; exact BIA hN
theorem BYC {w : Bk} {k : Int} : ∀ n : Int, ((AK (CK w k) n).length = bif decide (n = k) then (EQ (LD w k)).length else (AK w n).length) /\ ∀ j : Nat, j < (AK (CK w k) n).length -> ((gD (AK (CK w k) n) j).a0 = bif decide (n = k) then (gD (EQ (LD w k)) j).a0 else (gD (AK w n) j).a0) /\ ((gD (AK (CK w k) n) j).a1 = bif decide (n = k) then (gD (EQ (LD w k)) j).a1 else (gD (AK w n) j).a1) /\ ((gD (AK (CK w k) n) j).b0 = bif decide (n = k) then (gD (EQ (LD w k)) j).b0 else (gD (AK w n) j).b0) /\ (gD (AK (CK w k) n) j).b1 = bif decide (n = k) then (gD (EQ (LD w k)) j).b1 else (gD (AK w n) j).b1 := λ n => by
 rw [CLM]; cases decide (n = k) <;> exact ⟨rfl, λ _ _ => ⟨rfl, rfl, rfl, rfl⟩⟩
theorem BYN {a : BkS} (h : HI a.w.g a.w.b) : (sB a).length <= 24 /\ (AA (sB a)).length <= 48 /\ ∀ g ∈ sB a, GY g := by
 have h1 : (sB a).length <= 24 := Nat.le_trans (List.length_filter_le _ _) h.1
 have he := QR (s := sB a) (sB a).length (Nat.le_refl _)
 unfold LE at he; rw [List.take_length] at he
 exact ⟨h1, by unfold AA; omega, λ g hg => h.2.1 g (List.mem_filter.1 hg).1⟩
theorem aK {s : List Gau} {t : Int} : DW s t = bif (bif decide ((s.length : Int) > 0) then ((EQ s).length : Int) == 0 else false) then [] else EQ s ++ (DE s t).filter (Vg s) := by
 unfold DW
 rw [show decide (0 < s.length) = decide ((s.length : Int) > 0) by simp [Int.natCast_pos], show decide ((EQ s).length = 0) = (((EQ s).length : Int) == 0) by rw [Bool.eq_iff_iff]; simp]
theorem CMO (a : BkS) (h : HI a.w.g a.w.b) (h2 : 0 <= a.st /\ a.st <= 2000) (h3 : sB a ≠ []) : BXD a := by
 rw [CHH]; delta Jv Kc tF ALM AWG ATV Ag Nn AQG AIU BQ DY DZ H4 X6 Ps XH ABD C7 ABR X4 ACZ NH C0 zW Ui Sn Sz So ABT ACP K2 Rx T6 Ur YC XS YU YX ZO Z3 Qp Y9 YP L2 Q8 W5 N6 ACO MA NW MT NT MM MK MU F8 AAH HC ZP NX Th OD CM P7 G8 ABK T4 V8 CY DA Tj Ut R0 zT Po YY WY WE XB WD YD U5 E0 N5 QZ E8 Uq ADR BA BB CF An YE MZ K6 S6 QQ Af ABP jZ fQ Yv iF bU Yy Hh Cu Dq Fb Dz iP cX fC JF aG NJ NS MV LQ MC LZ Dp Cw oC RH nY iD MQ Gq fI kZ GQ SD Ci Gf cJ Xr nJ RJ fE nW Wt jF mX Zz UC UF hY Yg mJ Ex Ev Cp aU cK dX nB Wq EF EE EG EK EI nK UL Au Ca RQ oF Xf Zj bX SC Zs nN gZ nO Da iY oB mP cH Zb dI cO eK kP cF Ck Bl eS De Wz Yc gC Zk eU nZ mK Xc kH Zh kX aL Be fV Zd bE dN iC fX RV oH eY bQ Wf jH cI jY Xz Dw JH aO kE dO bA NF NG ME NQ bV lT We dG NA eQ jV Yj lV kC Za gF NK Vx; simp only [CC, eq_self, implies_true, forall_const, LB, show LD a.w a.k = sB a from rfl, if_true]
 obtain ⟨hs, hN, hg⟩ := BYN h
 have hf := BPT (s := sB a) hN
 have h0 : 0 < (sB a).length := List.length_pos_iff.2 h3
 have ok : ∀ x, DS x -> (sB a).length < 4611686018427387904 /\ ∀ g : Gau, List.Mem g (sB a) -> DS x /\ GY g := λ x hx => ⟨by omega, λ g hgs => ⟨hx, hg g hgs⟩⟩
 have e_ok : ∀ i, i < (AA (sB a)).length -> okP (gD (AA (sB a)) i) := λ i hi => UX hg (BZ hi)
 refine ⟨h, λ hh => ⟨?a, ?b1⟩, λ hh => ⟨⟨⟨by omega, ⟨0, rfl, Nat.zero_le _, rfl⟩, λ i ⟨hi, hp⟩ => ?c, λ x ⟨hi, hp⟩ => ?d⟩, ?e⟩, ?b2⟩⟩
 case a =>
  refine ⟨default, ?_⟩
  rw [TC hh, BYE hh]
  exact ⟨rfl, λ _ _ => ⟨rfl, rfl, rfl⟩, rfl, λ _ _ => rfl, λ _ => rfl, λ _ => rfl, λ _ => ⟨rfl, λ _ _ => ⟨rfl, rfl, rfl, rfl⟩⟩, rfl, λ _ _ => ⟨rfl, rfl, rfl, rfl⟩⟩
 case e => exact ⟨default, rfl, λ _ _ => ⟨rfl, rfl, rfl⟩, rfl, λ _ _ => rfl, λ _ => rfl, λ _ => rfl, BYC⟩
 case c =>
  refine ⟨λ hlt => ?_, λ hge => ⟨default, ?_⟩⟩
  ·have hlt' : i < (AA (sB a)).length := Int.ofNat_lt.1 hlt
   refine ⟨⟨by omega, hlt⟩, ⟨(e_ok i hlt').1, (e_ok i hlt').2.1⟩, ok _ (VS (e_ok i hlt')), λ hpa => ⟨⟨by omega, by omega, by omega, by omega, by omega⟩, ⟨⟨i, 0, [AL (gD (AA (sB a)) i)]⟩, ⟨rfl, rfl, rfl, rfl, rfl, rfl, oneL _⟩, hlt', Nat.zero_le _, rfl, ?_⟩, λ x hx => BHM hs hN hg x hx, λ x hx => BHL hs hN hg x hx⟩, λ hpa => ⟨⟨⟨i, 0⟩, ⟨rfl, rfl, rfl, rfl⟩, hlt', Nat.zero_le _, rfl, ?_⟩, λ x hx => BHM hs hN hg x hx, λ x hx => BHL hs hN hg x hx⟩⟩
   ·show _ = (ET (sB a) i 0).filter (JC (sB a))
    rw [qC, hp, if_pos (show JC (sB a) _ = true from hpa)]; rfl
   ·show (ET (sB a) i 0).filter (JC (sB a)) = []
    rw [qC, hp, if_neg (by rw [show JC (sB a) (AL (gD (AA (sB a)) i)) = false from hpa]; simp)]; rfl
  ·have : i = (AA (sB a)).length := by omega
   rw [this, Jt] at hp; unfold EQ; rw [hp]; rfl
 case d =>
  refine ⟨λ hlt => ?_, λ hge => ⟨default, ?_⟩⟩
  ·have hlt' : x.i < (AA (sB a)).length := Int.ofNat_lt.1 hlt
   have hl : x.l.length <= 10000 := by
    have := BIA (s := sB a) (i := x.i) (j := 0) hN
    rw [qC, <- hp, List.length_append] at this; omega
   refine ⟨⟨by omega, hlt⟩, ⟨(e_ok x.i hlt').1, (e_ok x.i hlt').2.1⟩, ok _ (VS (e_ok x.i hlt')), λ hpa => ⟨⟨by omega, λ _ => by omega, by omega, by omega⟩, ⟨⟨x.i, 0, x.l ++ [AL (gD (AA (sB a)) x.i)]⟩, ⟨rfl, rfl, rfl, rfl, by simp, by simp, BCD _ _⟩, hlt', Nat.zero_le _, rfl, ?_⟩, λ x hx => BHM hs hN hg x hx, λ x hx => BHL hs hN hg x hx⟩, λ hpa => ⟨⟨⟨x.i, 0, x.l⟩, ⟨rfl, rfl, rfl, rfl, rfl, rfl, λ _ _ => ⟨rfl, rfl, rfl, rfl⟩⟩, hlt', Nat.zero_le _, rfl, ?_⟩, λ x hx => BHM hs hN hg x hx, λ x hx => BHL hs hN hg x hx⟩⟩
   ·show _ = (ET (sB a) x.i 0).filter (JC (sB a))
    rw [qC, <- hp, if_pos (show JC (sB a) _ = true from hpa)]
   ·show x.l = (ET (sB a) x.i 0).filter (JC (sB a))
    rw [qC, <- hp, if_neg (by rw [show JC (sB a) (AL (gD (AA (sB a)) x.i)) = false from hpa]; simp), List.append_nil]
  ·have hx : x.l = EQ (sB a) := by rw [hp, show x.i = (AA (sB a)).length by omega, Jt]; rfl
   rw [hx]; exact ⟨rfl, Nat.le_refl _, λ _ _ => ⟨rfl, rfl, rfl, rfl⟩⟩
 all_goals
  ·have hmo : ∀ i : Nat, i <= (AA (sB a)).length -> ¬(i : Int) < (AA (sB a)).length -> IV (sB a) a.st i = DE (sB a) a.st := λ i h1 h2 => by
    rw [show i = (AA (sB a)).length by omega, BEE]
   refine ⟨λ hc => by rw [aK, hc]; rfl, λ hc => ⟨h2, by omega, CBS _ _, λ i hi => ⟨λ hlt => CBV hN hlt, λ hge => ⟨⟨?_, by omega⟩, ⟨⟨0, EQ (sB a)⟩, ⟨rfl, by rw [hmo i hi hge], by rw [hmo i hi hge], rfl, by rw [hmo i hi hge], λ j _ => by rw [hmo i hi hge]; exact ⟨rfl, rfl, rfl, rfl⟩, rfl, λ _ _ => ⟨rfl, rfl, rfl, rfl⟩⟩, Nat.zero_le _, by simp⟩, λ x hx => ⟨λ hlt => ⟨BXW hs hN hg hf hx hlt, λ y hy => BPG hN y hy⟩, λ hge => ?_⟩⟩⟩⟩⟩
   ·simp only [decide_eq_true (show ((sB a).length : Int) > 0 by omega), cond_true, beq_eq_false_iff_ne, ne_eq] at hc
    omega
   ·have e : DW (sB a) a.st = x.l := by rw [aK, hc, hx.2, List.take_of_length_le (by omega)]; rfl
    rw [e]; exact ⟨rfl, Nat.le_refl _, λ _ _ => ⟨rfl, rfl, rfl, rfl⟩⟩
theorem BWX {s : List Gau} {t : Int} (hN : (AA s).length <= 48) {m : Nat} (i : Nat) (hx : i < (DE s t).length /\ (DE s t).length - i = m /\ ((DE s t).take (i + 1)).filter (Vg s) = []) : ∃ y : Nat, (y : Int) = IntKind.i64.wrap ((i : Int) + 1) /\ (y <= (DE s t).length /\ ((DE s t).take y).filter (Vg s) = []) /\ (DE s t).length - y < m := by
 have := wI (s := s) (t := t)
 exact ⟨i + 1, (CA (by omega)).symm, ⟨hx.1, hx.2.2⟩, by omega⟩
theorem CKF (a : BkS) (h : HI a.w.g a.w.b) (h2 : 0 <= a.st /\ a.st <= 2000) (h3 : sB a = []) : BWN a := by
 rw [CGI]; delta Lx Ml pT APG AYH AOE WK Ir AYG AND BM DX EA R9 X2 Pf Aa ABW W0 ABQ F3 ABN JV ADD P1 Qg Ue Tn Up T3 W7 Y5 Qv ADE Uu Ap Ah Aq XN YJ V7 Ux AAW XD M6 L1 S2 F1 BE O4 HW HT IK IE IF HU IB A4 N7 U0 FX ZU KH Rh JZ yN E4 G7 ACM Qe CO CN NR Q2 L6 Sf ZT WH XX XI Ac YT yY K5 J1 ADA RF ADB Qw J9 AZ BC CE AEF XK YL OK M2 Tm ADT TX Bm Dn Ed Cv RK dW Di JM mT LX NC OH OE JE JK Fi Fk UG dS EV JP TO gN GU GJ bZ cA jK cY Wg bM Fv Ys dE Eu aQ cG jA iX JI dF MP NO MY NE bJ SM Zm nS lH GT Fy mF cT UO eC Zf lQ fW bR nA SP SL dK lC Xw Ft Gk Ay fR aB cE Zg Xk ED EM EL EJ EH UI Gg SA eA Yu aR fH SB mZ Vv lE iI By mS Yp Zn jM jB Zl aV Wm Zo Wx Gs Gv cV Dm mO Xb nL Wv iL dL jQ lD Wi Wp aS iZ Ej jG mW kS gA dQ jP TG nE eZ lG lU aZ Wd kM lM Bh JG Vz gG gO eX MI NL OM NU cQ nP aY lP MH cU Xm Xh bW mN kL nC LU mC; simp only [CC, eq_self, implies_true, forall_const, LB, show LD a.w a.k = sB a from rfl, if_true]
 obtain ⟨hs, hN, hg⟩ := BYN h
 have hf : EQ (sB a) = [] := CFA h3
 have h0 : (AA (sB a)).length = 0 := by rw [h3]; rfl
 have hS : (sB a).length = 0 := by rw [h3]; rfl
 have ok : ∀ x, DS x -> (sB a).length < 4611686018427387904 /\ ∀ g : Gau, List.Mem g (sB a) -> DS x /\ GY g := λ x hx => ⟨by omega, λ g hgs => ⟨hx, hg g hgs⟩⟩
 have hc : (bif decide (((sB a).length : Int) > 0) then ((EQ (sB a)).length : Int) == 0 else false) = false := by rw [hS]; rfl
 refine ⟨h, λ hh => ⟨?a, ?b1⟩, λ hh => ⟨⟨⟨by omega, ⟨0, rfl, Nat.zero_le _, rfl⟩, λ i ⟨hi, hp⟩ => ?c, λ x ⟨hi, hp⟩ => ?d⟩, ?e⟩, ?b2⟩⟩
 case a =>
  refine ⟨default, ?_⟩
  rw [TC hh, BYE hh]
  exact ⟨rfl, λ _ _ => ⟨rfl, rfl, rfl⟩, rfl, λ _ _ => rfl, λ _ => rfl, λ _ => rfl, λ _ => ⟨rfl, λ _ _ => ⟨rfl, rfl, rfl, rfl⟩⟩, by show 0 = (EQ (sB a)).length; rw [hf]; rfl⟩
 case e => exact ⟨default, rfl, λ _ _ => ⟨rfl, rfl, rfl⟩, rfl, λ _ _ => rfl, λ _ => rfl, λ _ => rfl, BYC, by rw [hf]; rfl⟩
 case c => exact ⟨λ hlt => absurd hlt (by omega), λ hge => ⟨default, by rw [hf]; rfl⟩⟩
 case d =>
  refine ⟨λ hlt => absurd hlt (by omega), λ hge => ⟨default, ?_⟩⟩
  have hx : x.l = EQ (sB a) := by rw [hp, show x.i = (AA (sB a)).length by omega, Jt]; rfl
  rw [hx]; exact ⟨rfl, Nat.le_refl _, λ _ _ => ⟨rfl, rfl, rfl, rfl⟩⟩
 all_goals
  have hmo : ∀ i : Nat, i <= (AA (sB a)).length -> IV (sB a) a.st i = DE (sB a) a.st := λ i h1 => by
   rw [show i = (AA (sB a)).length by omega, BEE]
  have hML := wI (s := sB a) (t := a.st)
  refine ⟨λ hc => ?_, λ _ => ⟨h2, by omega, CBS _ _, λ i hi => ⟨λ hlt => CBV hN hlt, λ hge => ⟨⟨0, ⟨by rw [hmo i hi], by rw [hmo i hi], rfl, by rw [hmo i hi], λ j _ => by rw [hmo i hi]; exact ⟨rfl, rfl, rfl, rfl⟩⟩, Nat.zero_le _, rfl⟩, λ x ⟨hx, hy⟩ => ⟨λ hlt => ⟨?_, λ y hy => BWX hN y hy, λ y hy => BPG hN y hy⟩, λ hge => ?_⟩, λ x hx => ⟨λ hlt => ⟨BXW hs hN hg (by rw [hf]; exact Nat.zero_le _) hx hlt, λ y hy => BWX hN y hy, λ y hy => BPG hN y hy⟩, λ hge => ?_⟩⟩⟩⟩⟩
  ·rw [hS] at hc; cases hc
  ·have h' : x < (DE (sB a) a.st).length := Int.ofNat_lt.1 hlt
   refine ⟨⟨⟨by omega, hlt⟩, h'⟩, λ hr => ok _ (WA.1 hr), λ hp => ⟨⟨by omega, by omega, by omega, by omega, by omega⟩, ⟨x, [gD (DE (sB a) a.st) x]⟩, ⟨rfl, rfl, rfl, oneL _⟩, h', rfl, ?_⟩, λ hp => ⟨x, rfl, h', rfl, ?_⟩⟩
   ·show [_] = _
    rw [BCU h', if_pos (show Vg (sB a) (gD (DE (sB a) a.st) x) = true from hp), hy, hf]; rfl
   ·rw [BCU h', if_neg (by intro hq; have hq : (bif Ar (gD (DE (sB a) a.st) x) then (sB a).all λ g => BR (gD (DE (sB a) a.st) x) g else false) = true := hq; rw [hp] at hq; cases hq), hy]; rfl
  ·have hz : (DE (sB a) a.st).filter (Vg (sB a)) = [] := by rw [<- hy, List.take_of_length_le (by omega)]
   rw [aK, hc, hf, hz]; rfl
  ·have e : DW (sB a) a.st = x.l := by rw [aK, hc, hx.2, List.take_of_length_le (by omega)]; rfl
   rw [e]; exact ⟨rfl, Nat.le_refl _, λ _ _ => ⟨rfl, rfl, rfl, rfl⟩⟩
theorem N0 : AG Try.prog oP (C_lns.spec dBkS) := Ctr.spec_ok (C := C_lns) (λ (a : BkS) h => by
 have h : HI a.w.g a.w.b /\ 0 <= a.st /\ a.st <= 2000 := h
 by_cases h3 : sB a = []
 ·exact RD (A := CBX a) (ren := []) (fz := [403]) BKA (by kernel_rfl) (AB BCF (AB kW (AB mY (AB RW (AB tA (AB AZL (AB CDS AE))))))) (CKF a h.1 h.2 h3) (BZZ HR (BQJ a) rfl rfl (AB tA (AB RW (AB AZL AE))) Mt (by kernel_rfl) (by kernel_rfl))
 ·exact RD (A := CAA a) (ren := []) (fz := [403]) BKA (by kernel_rfl) (AB BCF (AB kW (AB mY (AB RW (AB tA (AB AZL (AB CHC AE))))))) (CMO a h.1 h.2 h3) (BZZ HR (BQJ a) rfl rfl (AB tA (AB RW (AB AZL AE))) Mt (by kernel_rfl) (by kernel_rfl))) _
end Go.Bal
