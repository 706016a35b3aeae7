/- Package rating: lines of a part that bound its flows. -/
import Derived.Test.YtoihhodbkimedaaGreatRatF
set_option linter.unusedVariables false
set_option linter.unusedSimpArgs false
namespace Go.Bal
open Go Go.Sym Go.Proofs
def rowL (l : List Ln) : AObj := .row 4 l.length λ i => eLn (gD l i)
def dLs1 : List AVal -> Heap -> Option (List Ln × List (Nat × Nat) × List Nat)
 | [y], H => match dLns y H with
  | some (l, f) => some (l, [], f)
  | none => none
 | _, _ => none
def C_cloN : Ctr := { α := List Ln, xs := λ l => [.d (XW l)], L := λ _ => [], val := λ l => .own 0 4 0 l.length, keep := λ l => [(0, .live (rowL l))], pre := λ l => [0 < l.length /\ l.length < 1073741824] }
def BER : Ann := { ann 8 [] with mt := λ id => id == 3 }
def BGO (l : List Ln) : Prop := AO Try.prog BER gF (AF gF) (C_cloN.xs l) (AC []) (C_cloN.val l) (C_cloN.keep l) [(0, 4032)] []
theorem BPD (l : List Ln) : (BGO l) = ((Nat.succ 0).le l.length /\ ((0 = 0 /\ (0 < 0 -> 4 = 4)) /\ (True /\ (0 < l.length -> 4 = 4)) /\ (false = true -> 0 < l.length) /\ 0 + l.length <= 9223372036854775807 /\ (0 + l.length)
 * 32 <= 140737488355328) /\ 0 = 0 /\ l.length = 0 + l.length /\ l.length = 0 + l.length /\ ∀ (i : Nat), i < l.length -> (gD l i).a0 = (gD l (i - 0)).a0 /\ (gD l i).a1 = (gD l (i - 0)).a1 /\ (gD l i).b0 = (gD l (i - 0)).b0 /\ (gD
 l i).b1 = (gD l (i - 0)).b1) := by kernel_rfl
def nilN : DVal := .list 0 0 (λ _ => default) false
def C_cloE : Ctr := { α := One, xs := λ _ => [.d nilN], L := λ _ => [], val := λ _ => .d PQ, keep := λ _ => [] }
def dNil : List AVal -> Heap -> Option (One × List (Nat × Nat) × List Nat)
 | [.d (.list 0 0 _ _)], _ => some (default, [], [])
 | _, _ => none
def BIV : Ann := { ann 8 [] with md := λ id => if id = 3 then some (λ k => if k = 0 then 4 else 0) else none }
def BFF (_x : One) : Prop := AO Try.prog BIV gF (AF gF) (C_cloE.xs _x) (AC []) (C_cloE.val _x) [] [] []
theorem BOA (_x : One) : (BFF _x) = ((0 = 0 /\ ∀ (i : Nat), i < 0 -> false = false) /\ ((True /\ (0 < 0 -> 4 = 4)) /\ (True /\ (0 < 0 -> 0 = 4)) /\ (false = true -> 0 < 0) /\ 0 <= 9223372036854775807 /\ 0 <= 140737488355328) /\
 0 = 0 /\ 0 = 0) := by kernel_rfl
theorem BNM : AG Try.prog H8 (C_cloN.spec dLs1) := GD C_cloN (λ _ => BER) [(0, 4032)] [] ATN (λ _ => by kernel_rfl) (λ _ => AE) (λ (l : List Ln) h => by
 show BGO l; rw [BPD]; simp only [CC, eq_self, implies_true, forall_const]
 obtain ⟨h1, h2⟩ : 0 < l.length /\ l.length < 1073741824 := h
 exact ⟨h1, ⟨λ _ => h1, by omega, by omega⟩, λ _ _ => ⟨rfl, rfl, rfl, rfl⟩⟩) (λ _ => GJ rfl rfl) _
theorem BMR : AG Try.prog H8 (C_cloE.spec dNil) := GD C_cloE (λ _ => BIV) [] [] ATN (λ _ => by kernel_rfl) (λ _ => AE) (λ (x : One) _ => by
 show BFF x; rw [BOA]; simp only [CC, eq_self, implies_true, forall_const]
 exact ⟨by omega, by simp, by omega, by omega⟩) (λ _ => GJ rfl rfl) _
structure BkS where
 w : Bk
 k : Int
 st : Int
def dBkS : List AVal -> Heap -> Option (BkS × List (Nat × Nat) × List Nat)
 | [.bptr id _, .d k, .d t], H => match AKG H id with
  | some (w, q) => some (⟨w, CT k, CT t⟩, [(100, id), (101, q)], [])
  | none => none
 | _, _ => none
def BY (w : Bk) (k : Int) : Bk := ⟨w.g, w.b, FX w.has k, Ra w.has w.st k⟩
def moB (t : Int) : List Ln := [AM ⟨t, 0⟩, AM ⟨t, 200000⟩]
def HR (s : List Gau) (t : Int) (i : Nat) : List Ln := moB t ++ ((AA s).take i).flatMap λ p => [J2 ⟨t, 0⟩ p, J2 p ⟨t, 200000⟩]
def CR (s : List Gau) (t : Int) : List Ln := moB t ++ (AA s).flatMap λ p => [J2 ⟨t, 0⟩ p, J2 p ⟨t, 200000⟩]
def mI (s : List Gau) (x : Ln) : Bool := bif FT x then JF s x else false
def JO (s : List Gau) (t : Int) : List Ln := bif (bif decide (0 < s.length) then decide ((EU s).length = 0) else false) then [] else EU s ++ (CR s t).filter (mI s)
structure LnK where
 i : Nat
 l : List Ln
 deriving Inhabited
structure LnJ where
 i : Nat
 j : Nat
 l : List Ln
 deriving Inhabited
def sB (a : BkS) : List Gau := NW a.w a.k
def lsH (a : BkS) (c : AVal) : List (Nat × HCell) := bkK a.w ++ [(2048, .live (.box [.d (BE (sB a))])), (3144, .live (.box [c]))]
def lsR (a : BkS) (l : List Ln) : List (Nat × HCell) := lsH a (.own 401 4 0 l.length) ++ [(401, .live (rowL l))]
def lsPt (p : Pt) : HCell := .live (.box [.int p.st, .int p.fl])
def lsOn (a : BkS) (l : Nat) : Shape := { α := Nat, dflt := 0, T := λ i => ⟨lnS (sB a) l i, lsH a (.d PQ)⟩, inv := λ i => i <= (AA (sB a)).length /\ (NG (sB a) i).filter (JF (sB a)) = [], meas := λ i => (AA (sB a)).length - i }
def lsOo (a : BkS) (l : Nat) : Shape := { α := LnK, dflt := default, T := λ x => ⟨lnS (sB a) l x.i, lsR a x.l⟩, inv := λ x => x.i <= (AA (sB a)).length /\ x.l = (NG (sB a) x.i).filter (JF (sB a)), meas := λ x => (AA (sB a)).length - x.i }
def lsIs (a : BkS) (l i j : Nat) : List (Nat × AVal) := [(5, .bptr 205 0), (22, .d (ePts (AA (sB a)))), (23, .int (AA (sB a)).length), (24, .int j)] ++ lnS (sB a) l i
def lsIn (a : BkS) (q l : Nat) : Shape := { α := IJ, dflt := default, T := λ x => ⟨lsIs a l x.i x.j, (205, lsPt (gD (AA (sB a)) x.i)) :: lsH a (.d PQ)⟩, inv := λ x => x.i < (AA (sB a)).length /\ x.j <= (AA (sB a)).length /\ (AA (sB a)).length - x.i = q /\ (DZ (sB a) x.i x.j).filter (JF (sB a)) = [], meas := λ x => (AA (sB a)).length - x.j, first := [(205, 104032)] }
def lsIo (a : BkS) (q l : Nat) (r : List (Nat × Nat)) : Shape := { α := LnJ, dflt := default, T := λ x => ⟨lsIs a l x.i x.j, (205, lsPt (gD (AA (sB a)) x.i)) :: lsR a x.l⟩, inv := λ x => x.i < (AA (sB a)).length /\ x.j <= (AA (sB a)).length /\ (AA (sB a)).length - x.i = q /\ x.l = (DZ (sB a) x.i x.j).filter (JF (sB a)), meas := λ x => (AA (sB a)).length - x.j, first := (205, 104032) :: r, again := r }
noncomputable def AZZ (a : BkS) : IterAnn := { fn := RR, code := AF RR, live := [0, 1, 2, 7, 8], ann := { base := λ id => 100000 + 1000 * (id + 1), Γ := Sym.look [(ACA, C_ends.spec JW), (ZS, Mh), (jI, ACU)], E := [100, 101, 2048, 3144], n := 41, inner := λ gs id => if id = 2 then some [lsOn a (gs.getD 0 0), lsOo a (gs.getD 0 0)] else if id = 6 then some [lsIn a (gs.getD 0 0) (gs.getD 1 0), lsIo a (gs.getD 0 0) (gs.getD 1 0) [], lsIo a (gs.getD 0 0) (gs.getD 1 0) [(401, 8048)]] else none } }
def ls8s (a : BkS) : List (Nat × AVal) := [(0, .bptr 100 0), (1, .int a.k), (2, .int a.st), (7, .bptr 2048 0), (8, .bptr 3144 0)]
def ls8n (a : BkS) : Shape := { α := One, dflt := default, T := λ _ => ⟨ls8s a, lsH a (.d (XW (EU (sB a))))⟩, inv := λ _ => True, meas := λ _ => 0 }
def ls8o (a : BkS) : Shape := { α := One, dflt := default, T := λ _ => ⟨ls8s a, lsH a (.d (XW (EU (sB a))))⟩, inv := λ _ => True, meas := λ _ => 0, ffz := [401] }
def lsU (a : BkS) (z : DVal) : List (Nat × HCell) := bkK (BY a.w a.k) ++ [(2048, .live (.box [.d (BE (sB a))])), (3144, .live (.box [.d z]))]
def ls9 (a : BkS) (z : DVal) : Shape := { α := One, dflt := default, T := λ _ => ⟨[(2, .int a.st), (7, .bptr 2048 0), (8, .bptr 3144 0)], lsU a z⟩, inv := λ _ => True, meas := λ _ => 0 }
def ls14 (a : BkS) (z : DVal) : Shape := { α := Nat, dflt := 0, T := λ i => ⟨[(7, .bptr 2048 0), (8, .bptr 3144 0), (11, .bptr 12064 0), (12, .bptr 12080 0), (13, .own 402 4 0 (HR (sB a) a.st i).length), (67, .d (ePts (AA (sB a)))), (68, .int (AA (sB a)).length), (69, .int i)], lsU a z ++ [(12064, .live (.box [.int a.st, .int 0])), (12080, .live (.box [.int a.st, .int 200000])), (402, .live (rowL (HR (sB a) a.st i)))]⟩, inv := λ i => i <= (AA (sB a)).length, meas := λ i => (AA (sB a)).length - i, first := [(402, 13064)], again := [(402, 17128)] }
def BBU (a : BkS) (v : AVal) (i : Nat) : List (Nat × AVal) := [(7, .bptr 2048 0), (16, v), (85, .own 402 4 0 (CR (sB a) a.st).length), (86, .int (CR (sB a) a.st).length), (87, .int i)]
def BBW (a : BkS) : List (Nat × HCell) := bkK (BY a.w a.k) ++ [(2048, .live (.box [.d (BE (sB a))])), (402, .live (rowL (CR (sB a) a.st)))]
def BWY (a : BkS) : Shape := { α := Nat, dflt := 0, T := λ i => ⟨BBU a (.d PQ) i, BBW a⟩, inv := λ i => i <= (CR (sB a) a.st).length /\ ((CR (sB a) a.st).take i).filter (mI (sB a)) = [], meas := λ i => (CR (sB a) a.st).length - i }
def BRL (a : BkS) : Shape := { α := LnK, dflt := default, T := λ x => ⟨BBU a (.own 403 4 0 x.l.length) x.i, BBW a ++ [(403, .live (rowL x.l))]⟩, inv := λ x => x.i <= (CR (sB a) a.st).length /\ x.l = EU (sB a) ++ ((CR (sB a) a.st).take x.i).filter (mI (sB a)), meas := λ x => (CR (sB a) a.st).length - x.i, first := [(403, 19016)] }
def BYQ (a : BkS) (m : Nat) : Shape := { α := Nat, dflt := 0, T := λ i => ⟨BBU a (.d PQ) i, BBW a⟩, inv := λ i => i < (CR (sB a) a.st).length /\ (CR (sB a) a.st).length - i = m /\ ((CR (sB a) a.st).take (i + 1)).filter (mI (sB a)) = [], meas := λ _ => 0 }
def BCJ (a : BkS) (m : Nat) (f : List (Nat × Nat)) : Shape := { α := LnK, dflt := default, T := λ x => ⟨BBU a (.own 403 4 0 x.l.length) x.i, BBW a ++ [(403, .live (rowL x.l))]⟩, inv := λ x => x.i < (CR (sB a) a.st).length /\ (CR (sB a) a.st).length - x.i = m /\ x.l = EU (sB a) ++ ((CR (sB a) a.st).take (x.i + 1)).filter (mI (sB a)), meas := λ _ => 0, first := f }
def C_lns : Ctr := { ro := [100], α := BkS, xs := λ a => [.bptr 100 0, .int a.k, .int a.st], L := λ a => bkL a.w, val := λ a => .d (XW (JO (sB a) a.st)), keep := λ a => bkK (BY a.w a.k), pre := λ a => [GP a.w.g a.w.b /\ 0 <= a.st /\ a.st <= 2000] }
def BQV (c : Sym.Spec) : List (FuncId × Sym.Spec) := [(AIQ, C_inside.spec dBkI), (La, C_through.spec dGsK), (UL, C_passing.spec dGsL), (ZS, Mh), (ACA, C_ends.spec JW), (jI, ACU), (H8, c)]
noncomputable def BFW (a : BkS) : Ann := { ann 104 (BQV (C_cloN.spec dLs1)) with E := [100, 101], mt := λ id => id == 7 || id == 16 || id == 23, md := λ id => if id = 2 then some (λ k => if k = 5 then 3 else 0) else none, iter := λ g => if g = GT then some (AZZ a) else none, loops := λ id => if id = 14 then some [ls14 a (XW (EU (sB a)))] else if id = 20 then some [BRL a] else none, cut := λ id => if id = 8 then some [ls8n a, ls8o a] else if id = 9 then some [ls9 a (XW (EU (sB a)))] else none, cutIn := λ gs id => if id = 24 then some [BCJ a (gs.getD 0 0) [(403, 24048)], BCJ a (gs.getD 0 0) []] else none }
noncomputable def BFX (a : BkS) : Ann := { ann 104 (BQV (C_cloE.spec dNil)) with E := [100, 101], mt := λ id => id == 7 || id == 16 || id == 23, md := λ id => if id = 2 then some (λ k => if k = 5 then 3 else 0) else none, iter := λ g => if g = GT then some (AZZ a) else none, loops := λ id => if id = 14 then some [ls14 a nilN] else if id = 20 then some [BWY a, BRL a] else none, cut := λ id => if id = 8 then some [ls8n a, ls8o a] else if id = 9 then some [ls9 a nilN] else none, cutIn := λ gs id => if id = 24 then some [BYQ a (gs.getD 0 0), BCJ a (gs.getD 0 0) [(403, 24048)], BCJ a (gs.getD 0 0) []] else none }
def BGU (a : BkS) : Prop := AO Try.prog (BFW a) lA (AF lA) (C_lns.xs a) (AC (C_lns.L a)) (C_lns.val a) (C_lns.keep a) [] [403]
abbrev Ev (a : BkS) : List Gau := AD a.w.g.length λ (i : Nat) => gD a.w.g i
abbrev Ke (a : BkS) : Nat := (Ev a).length
abbrev iD (a : BkS) (i : Nat) : Gau := gD (Ev a) i
abbrev AIK (a : BkS) (i : Nat) : Int := (iD a i).st
abbrev X4 (a : BkS) (i : Nat) : Int := (iD a i).lo
abbrev R8 (a : BkS) (i : Nat) : Int := (iD a i).hi
abbrev WF (a : BkS) : List Int := AD a.w.b.length λ (i : Nat) => gD a.w.b i
abbrev Ep (a : BkS) : Nat := (WF a).length
abbrev ADG (a : BkS) (i : Nat) : Int := gD (WF a) i
abbrev AJE : Value := Value.slice none (0 : Nat) (0 : Nat)
abbrev BJ : Prop := AJE = AJE
abbrev DE (a : BkS) : Prop := ∀ (n : Int), a.w.has n = a.w.has n
abbrev DC (a : BkS) : Prop := ∀ (n : Int), a.w.st n = a.w.st n
abbrev rW (a : BkS) : Bk := Bk.mk (Ev a) (WF a) a.w.has a.w.st
abbrev yJ (a : BkS) (n : Int) : List Ln := AI (rW a) n
abbrev Kv (a : BkS) (n : Int) : Nat := (yJ a n).length
abbrev TZ (a : BkS) (n : Int) (i : Nat) : Ln := gD (yJ a n) i
abbrev qA (a : BkS) (n : Int) (i : Nat) : Int := (TZ a n i).a0
abbrev sC (a : BkS) (n : Int) (i : Nat) : Int := (TZ a n i).a1
abbrev zK (a : BkS) (n : Int) (i : Nat) : Int := (TZ a n i).b0
abbrev yM (a : BkS) (n : Int) (i : Nat) : Int := (TZ a n i).b1
abbrev mW (i : Nat) (a : BkS) (n : Int) : Prop := i < (AI a.w n).length
abbrev KT (x : Gau) : Prop := (0 : Int) <= x.st /\ x.st <= (2000 : Int) /\ (0 : Int) <= x.lo /\ x.lo <= x.hi /\ x.hi <= (200000 : Int)
abbrev A0 (a : BkS) : Prop := (BY a.w a.k).g.length = a.w.g.length
abbrev sA (i : Nat) (a : BkS) : Prop := i < (BY a.w a.k).g.length
abbrev Mo (a : BkS) (i : Nat) : Gau := gD (BY a.w a.k).g i
abbrev Nb (a : BkS) (i : Nat) : Int := (Mo a i).st
abbrev Mn (a : BkS) (i : Nat) : Int := (Mo a i).lo
abbrev Lw (a : BkS) (i : Nat) : Int := (Mo a i).hi
abbrev vU (a : BkS) : Prop := ∀ (i : Nat), sA i a -> Nb a i = (gD a.w.g i).st /\ Mn a i = (gD a.w.g i).lo /\ Lw a i = (gD a.w.g i).hi
abbrev pC (a : BkS) : Prop := (BY a.w a.k).b.length = a.w.b.length
abbrev rF (i : Nat) (a : BkS) : Prop := i < (BY a.w a.k).b.length
abbrev Lg (a : BkS) (i : Nat) : Int := gD (BY a.w a.k).b i
abbrev mM (a : BkS) : Prop := ∀ (i : Nat), rF i a -> Lg a i = gD a.w.b i
abbrev Qe (i : Nat) (a : BkS) (n : Int) : Prop := i < (AI (BY a.w a.k) n).length
abbrev UM (a : BkS) (n : Int) (i : Nat) : Ln := gD (AI (BY a.w a.k) n) i
abbrev TP (a : BkS) (n : Int) (i : Nat) : Int := (UM a n i).a0
abbrev WW (a : BkS) (n : Int) (i : Nat) : Int := (UM a n i).a1
abbrev XF (a : BkS) (n : Int) (i : Nat) : Int := (UM a n i).b0
abbrev UE (a : BkS) (n : Int) (i : Nat) : Int := (UM a n i).b1
abbrev rP (a : BkS) : List Gau := NW (rW a) a.k
abbrev Pu (a : BkS) : Nat := (rP a).length
abbrev tW (a : BkS) : Prop := (sB a).length = Pu a
abbrev VX (a : BkS) (i : Nat) : Gau := gD (rP a) i
abbrev zD (a : BkS) (i : Nat) : Int := (VX a i).st
abbrev qS (a : BkS) (i : Nat) : Int := (VX a i).lo
abbrev zF (a : BkS) (i : Nat) : Int := (VX a i).hi
abbrev A1 (a : BkS) : Prop := ∀ (i : Nat), i < (sB a).length -> (gD (sB a) i).st = zD a i /\ (gD (sB a) i).lo = qS a i /\ (gD (sB a) i).hi = zF a i
abbrev tJ (a : BkS) : Prop := (JO (sB a) a.st).length = (0 : Nat)
abbrev MN (a : BkS) : Prop := (BY a.w a.k).g.length = (BY a.w a.k).g.length
abbrev KC (a : BkS) : Prop := ∀ (i : Nat), sA i a -> Nb a i = Nb a i /\ Mn a i = Mn a i /\ Lw a i = Lw a i
abbrev MU (a : BkS) : Prop := (BY a.w a.k).b.length = (BY a.w a.k).b.length
abbrev LX (a : BkS) : Prop := ∀ (i : Nat), rF i a -> Lg a i = Lg a i
abbrev LY (a : BkS) : Prop := ∀ (n : Int), (BY a.w a.k).has n = (BY a.w a.k).has n
abbrev MD (a : BkS) : Prop := ∀ (n : Int), (BY a.w a.k).st n = (BY a.w a.k).st n
abbrev KO (a : BkS) : Prop := ∀ (n : Int), (AI (BY a.w a.k) n).length = (AI (BY a.w a.k) n).length /\ ∀ (i : Nat), Qe i a n -> TP a n i = TP a n i /\ WW a n i = WW a n i /\
 XF a n i = XF a n i /\ UE a n i = UE a n i
abbrev xS (a : BkS) : Prop := MN a /\ KC a /\ MU a /\ LX a /\ BJ /\ LY a /\ MD a /\ KO a
abbrev mK (a : BkS) : Prop := (0 : Int) <= a.st /\ a.st <= (2000 : Int)
abbrev FY (a : BkS) : List Gau := AD (sB a).length λ (i : Nat) => gD (sB a) i
abbrev XD (a : BkS) : Nat := (FY a).length
abbrev KS (a : BkS) : Prop := XD a = (sB a).length
abbrev Qm (a : BkS) (i : Nat) : Gau := gD (FY a) i
abbrev KN (a : BkS) : Prop := ∀ (i : Nat), i < XD a -> (Qm a i).st = (gD (sB a) i).st /\ (Qm a i).lo = (gD (sB a) i).lo /\ (Qm a i).hi = (gD (sB a) i).hi
abbrev CA : Prop := (0 : Nat) = (0 : Nat)
abbrev rD (a : BkS) (a1 : Nat) : Prop := (HR (sB a) a.st a1).length = (2 : Nat)
abbrev qM (a : BkS) : List Pt := AA (FY a)
abbrev vI (a : BkS) : Nat := (qM a).length
abbrev C1 (a : BkS) (i : Nat) : Pt := gD (qM a) i
abbrev vC (a : Nat) : Prop := (↑a : Int) = (0 : Int)
abbrev CM (a : BkS) : Prop := (sB a).length = (sB a).length
abbrev CK (a : BkS) : Prop := ∀ (i : Nat), i < (sB a).length -> (gD (sB a) i).st = (gD (sB a) i).st /\ (gD (sB a) i).lo = (gD (sB a) i).lo /\ (gD (sB a) i).hi = (gD (sB a) i).hi
abbrev Ob (a : BkS) : Prop := (EU (sB a)).length = (EU (sB a)).length
abbrev Lp (a : BkS) : Prop := ∀ (i : Nat), i < (EU (sB a)).length -> (gD (EU (sB a)) i).a0 = (gD (EU (sB a)) i).a0 /\ (gD (EU (sB a)) i).a1 = (gD (EU (sB a)) i).a1 /\ (gD (EU (sB a)) i).b0 = (gD (EU (sB a))
 i).b0 /\ (gD (EU (sB a)) i).b1 = (gD (EU (sB a)) i).b1
abbrev xC : Prop := Int.ofNat (0 : Nat) = Int.ofNat (0 : Nat)
abbrev qR : Prop := Int.ofNat (200000 : Nat) = Int.ofNat (200000 : Nat)
abbrev Ox (i : Nat) (a : BkS) (a1 : Nat) : Prop := i < (HR (sB a) a.st a1).length
abbrev WQ (a : BkS) (a1 : Nat) (i : Nat) : Ln := gD (HR (sB a) a.st a1) i
abbrev UI (a : BkS) (a1 : Nat) (i : Nat) : Int := (WQ a a1 i).a0
abbrev XH (i : Nat) : Bool := decide (i = (0 : Nat))
abbrev VN (a : BkS) (a1 : Nat) (i : Nat) : Int := (WQ a a1 i).a1
abbrev WC (a : BkS) (a1 : Nat) (i : Nat) : Int := (WQ a a1 i).b0
abbrev XR (a : BkS) (a1 : Nat) (i : Nat) : Int := (WQ a a1 i).b1
abbrev zL (a : Nat) (a1 : BkS) : Prop := (↑a : Int) < (↑(AA (sB a1)).length : Int)
abbrev pB (a : Nat) (a1 : BkS) : Bool := decide (zL a a1)
abbrev oB (a : Nat) (a1 : BkS) : Prop := (0 : Int) <= (↑a : Int) /\ zL a a1
abbrev OX : Prop := (4 : Nat) = (4 : Nat)
abbrev uY : Prop := (0 : Nat) < (2 : Nat)
abbrev Pk (a : BkS) (a1 : Nat) : Nat := (HR (sB a) a.st a1).length + (2 : Nat)
abbrev vZ (a : BkS) (a1 : Nat) (a2 : Nat) : Prop := (HR (sB a) a.st a1).length = Pk a a2
abbrev AU (a : BkS) : Prop := (AA (sB a)).length = (AA (sB a)).length
abbrev AT (a : BkS) : Prop := ∀ (i : Nat), i < (AA (sB a)).length -> (gD (AA (sB a)) i).st = (gD (AA (sB a)) i).st /\ (gD (AA (sB a)) i).fl = (gD (AA (sB a)) i).fl
abbrev BV (a : BkS) : Prop := (↑(AA (sB a)).length : Int) = (↑(AA (sB a)).length : Int)
abbrev VW (i : Nat) (a : BkS) (a1 : Nat) : Bool := decide (Ox i a a1)
abbrev XC (i : Nat) (a : BkS) (a1 : Nat) : Bool := decide ((0 : Nat) + (i - (HR (sB a) a.st a1).length) = (0 : Nat))
abbrev LW (a : BkS) (a1 : Nat) : Nat := (AA (sB a)).length - a1
abbrev yL (a : BkS) (a1 : Nat) (a2 : Nat) : Prop := LW a a1 < LW a a2
abbrev tU (a : BkS) : List Ln := AD (EU (sB a)).length λ (i : Nat) => gD (EU (sB a)) i
abbrev PK (a : BkS) : Nat := (tU a).length
abbrev UZ (a : BkS) (i : Nat) : Ln := gD (tU a) i
abbrev mQ (a : BkS) (i : Nat) : Int := (UZ a i).a0
abbrev Se (a : BkS) (i : Nat) : Int := (UZ a i).a1
abbrev Xu (a : BkS) (i : Nat) : Int := (UZ a i).b0
abbrev Zb (a : BkS) (i : Nat) : Int := (UZ a i).b1
abbrev bD (a : LnK) (a1 : BkS) : Prop := a.l.length = PK a1
abbrev aJ (a : BkS) (a1 : Nat) : Prop := (CR (sB a) a.st).length = (HR (sB a) a.st a1).length
abbrev Vd (i : Nat) (a : BkS) : Prop := i < (CR (sB a) a.st).length
abbrev Ar (a : BkS) (i : Nat) : Int := (gD (CR (sB a) a.st) i).a0
abbrev Cl (a : BkS) (i : Nat) : Int := (gD (CR (sB a) a.st) i).a1
abbrev Cm (a : BkS) (i : Nat) : Int := (gD (CR (sB a) a.st) i).b0
abbrev Cv (a : BkS) (i : Nat) : Int := (gD (CR (sB a) a.st) i).b1
abbrev YP (a : LnK) (a1 : BkS) : Prop := a.i <= (CR (sB a1) a1.st).length /\ a.l = EU (sB a1) ++ List.filter (mI (sB a1)) (List.take a.i (CR (sB a1) a1.st))
abbrev Sp (a : LnK) (a1 : BkS) : Prop := (↑a.i : Int) < (↑(CR (sB a1) a1.st).length : Int)
abbrev Vk (a : LnK) : Prop := (0 : Int) <= (↑a.i : Int)
abbrev Ss (a : LnK) : Nat := (0 : Nat) + a.i
abbrev IK (a : BkS) (a1 : LnK) : Ln := gD (CR (sB a) a.st) (Ss a1)
abbrev St (a : BkS) (a1 : LnK) : Bool := FT (IK a a1)
abbrev LB (a : BkS) (a1 : LnK) : Int := (IK a a1).a0
abbrev MS (a : BkS) (a1 : LnK) : Int := (IK a a1).a1
abbrev ME (a : BkS) (a1 : LnK) : Int := (IK a a1).b0
abbrev MB (a : BkS) (a1 : LnK) : Int := (IK a a1).b1
abbrev MQ (a : BkS) : Prop := XD a < (4611686018427387904 : Nat)
abbrev LM (g : Gau) (a : BkS) : Prop := List.Mem g (FY a)
abbrev Df : Prop := (0 : Nat) < (1 : Nat)
abbrev Bo : Prop := (1 : Nat) <= (1 : Nat) /\ (Df -> OX)
abbrev Sz : Prop := false = true -> Df
abbrev RM (a : LnK) : Nat := a.l.length + (1 : Nat)
abbrev aL (a : LnK) : Prop := (a.l.length = a.l.length /\ ((0 : Nat) < a.l.length -> OX)) /\ Bo /\ Sz /\ RM a <= (9223372036854775807 : Nat) /\ RM a * (32 : Nat) <= (140737488355328
 : Nat)
abbrev Zh (a : LnK) (a1 : LnK) : Prop := a.l.length = RM a1
abbrev MM (a : BkS) : Prop := (CR (sB a) a.st).length = (CR (sB a) a.st).length
abbrev Cu (a : BkS) : Prop := (↑(CR (sB a) a.st).length : Int) = (↑(CR (sB a) a.st).length : Int)
abbrev Zz (a : LnK) (a1 : LnK) : Prop := (↑a.i : Int) = (↑a1.i : Int)
abbrev Ys (a : BkS) : Prop := ∀ (i : Nat), Vd i a -> Ar a i = Ar a i /\ Cl a i = Cl a i /\ Cm a i = Cm a i /\ Cv a i = Cv a i
abbrev FQ (i : Nat) (a : LnK) : Bool := decide (i < a.l.length)
abbrev QC (a : BkS) (a1 : LnK) : Nat := (CR (sB a) a.st).length - a1.i
abbrev Cq (a : LnK) (a1 : BkS) (a2 : LnK) : Prop := a.i < (CR (sB a1) a1.st).length /\ QC a1 a = QC a1 a2 /\ a.l = EU (sB a1) ++ List.filter (mI (sB a1)) (List.take (a.i + (1 : Nat)) (CR (sB a1)
 a1.st))
abbrev Af (a : LnK) (a1 : LnK) : Prop := a.l.length = a1.l.length
abbrev bB (a : BkS) (a1 : LnK) (a2 : LnK) : Prop := MN a /\ KC a /\ MU a /\ LX a /\ BJ /\ LY a /\ MD a /\ KO a /\ CM a /\ CK a /\ MM a /\
 Ys a /\ Af a1 a2 /\ ∀ (i : Nat), i < a1.l.length -> (gD a1.l i).a0 = (gD a2.l i).a0 /\ (gD a1.l i).a1 = (gD a2.l i).a1 /\ (gD a1.l i).b0 = (gD a2.l i).b0 /\ (gD a1.l i).b1 = (gD a2.l i).b1
abbrev dL (a : BkS) (a1 : LnK) : Prop := ∀ (a_1 : LnK), Cq a_1 a a1 -> ∃ (a_3 : LnK), (CA /\ Af a_3 a_1 /\ CA /\ MM a /\ Cu a /\ (↑a_3.i : Int) = IntKind.i64.wrap ((↑a_1.i
 : Int) + (1 : Int)) /\ bB a a_3 a_1) /\ YP a_3 a /\ QC a a_3 < QC a a1
abbrev Yi (a : LnK) : Prop := (0 : Nat) + a.l.length <= a.l.length
abbrev QA (a : LnK) (j : Nat) : Ln := gD a.l ((0 : Nat) + j)
abbrev cZ (a : LnK) (j : Nat) : Int := (QA a j).a0
abbrev Ta (a : LnK) (j : Nat) : Int := (QA a j).a1
abbrev eD (a : LnK) (j : Nat) : Int := (QA a j).b0
abbrev Up (a : LnK) (j : Nat) : Int := (QA a j).b1
abbrev aH (a : BkS) : Prop := ∀ (a_1 : One), True -> bif bif decide ((↑(sB a).length : Int) > (0 : Int)) then (↑(EU (sB a)).length : Int) == (0 : Int) else false then tJ a /\ tJ a /\ xS a else
 (mK a /\ mK a) /\ (KS a /\ KN a /\ XD a < (1073741824 : Nat) /\ True) /\ (∃ (a_3 : Nat), (CA /\ rD a a_3 /\ (AA (sB a)).length = vI a /\ (∀ (i : Nat), i < (AA (sB
 a)).length -> (gD (AA (sB a)) i).st = (C1 a i).st /\ (gD (AA (sB a)) i).fl = (C1 a i).fl) /\ (↑(AA (sB a)).length : Int) = (↑(vI a) : Int) /\ vC a_3 /\ MN a /\ KC a /\
 MU a /\ LX a /\ BJ /\ LY a /\ MD a /\ KO a /\ CM a /\ CK a /\ Ob a /\ Lp a /\ a.st = a.st /\ xC /\ a.st = a.st /\ qR /\ rD a a_3 /\ ∀ (i : Nat),
 Ox i a a_3 -> (UI a a_3 i = bif XH i then (AM (Pt.mk a.st (0 : Int))).a0 else (AM (Pt.mk a.st (200000 : Int))).a0) /\ (VN a a_3 i = bif XH i then (AM (Pt.mk a.st (0 : Int))).a1 else
 (AM (Pt.mk a.st (200000 : Int))).a1) /\ (WC a a_3 i = bif XH i then (AM (Pt.mk a.st (0 : Int))).b0 else (AM (Pt.mk a.st (200000 : Int))).b0) /\ XR a a_3 i = bif XH i then (AM (Pt.mk a.st
 (0 : Int))).b1 else (AM (Pt.mk a.st (200000 : Int))).b1) /\ a_3.le (AA (sB a)).length) /\ ∀ (a_3 : Nat), a_3.le (AA (sB a)).length -> bif pB a_3 a then oB a_3 a /\ (((HR (sB a) a.st a_3).length = (HR
 (sB a) a.st a_3).length /\ ((0 : Nat) < (HR (sB a) a.st a_3).length -> OX)) /\ ((2 : Nat) <= (2 : Nat) /\ (uY -> OX)) /\ (false = true -> uY) /\ Pk a a_3 <= (9223372036854775807 : Nat) /\
 Pk a a_3 * (32 : Nat) <= (140737488355328 : Nat)) /\ ∃ (a_5 : Nat), (CA /\ vZ a a_5 a_3 /\ AU a /\ AT a /\ BV a /\ (↑a_5 : Int) = IntKind.i64.wrap ((↑a_3 : Int) + (1 : Int)) /\ MN
 a /\ KC a /\ MU a /\ LX a /\ BJ /\ LY a /\ MD a /\ KO a /\ CM a /\ CK a /\ Ob a /\ Lp a /\ a.st = a.st /\ xC /\ a.st = a.st /\ qR /\ vZ a
 a_5 a_3 /\ ∀ (i : Nat), Ox i a a_5 -> (UI a a_5 i = bif VW i a a_3 then UI a a_3 i else bif XC i a a_3 then a.st else (gD (AA (sB a)) a_3).st) /\ (VN a a_5 i = bif VW i a
 a_3 then VN a a_3 i else bif XC i a a_3 then (0 : Int) else (gD (AA (sB a)) a_3).fl) /\ (WC a a_5 i = bif VW i a a_3 then WC a a_3 i else bif XC i a a_3 then (gD (AA (sB a))
 a_3).st else a.st) /\ XR a a_5 i = bif VW i a a_3 then XR a a_3 i else bif XC i a a_3 then (gD (AA (sB a)) a_3).fl else (200000 : Int)) /\ a_5.le (AA (sB a)).length /\ yL a a_5 a_3
 else (PK a = (EU (sB a)).length /\ (∀ (i : Nat), i < PK a -> mQ a i = (gD (EU (sB a)) i).a0 /\ Se a i = (gD (EU (sB a)) i).a1 /\ Xu a i = (gD (EU (sB a)) i).b0 /\ Zb a i = (gD
 (EU (sB a)) i).b1) /\ (0 : Nat) < PK a /\ PK a < (1073741824 : Nat)) /\ (∃ (a_5 : LnK), (CA /\ bD a_5 a /\ CA /\ aJ a a_3 /\ (↑(CR (sB a) a.st).length : Int) = (↑(HR (sB a) a.st
 a_3).length : Int) /\ (↑a_5.i : Int) = (0 : Int) /\ MN a /\ KC a /\ MU a /\ LX a /\ BJ /\ LY a /\ MD a /\ KO a /\ CM a /\ CK a /\ aJ a a_3 /\ (∀ (i : Nat),
 Vd i a -> Ar a i = UI a a_3 i /\ Cl a i = VN a a_3 i /\ Cm a i = WC a a_3 i /\ Cv a i = XR a a_3 i) /\ bD a_5 a /\ ∀ (i : Nat), i < a_5.l.length -> (gD
 a_5.l i).a0 = mQ a i /\ (gD a_5.l i).a1 = Se a i /\ (gD a_5.l i).b0 = Xu a i /\ (gD a_5.l i).b1 = Zb a i) /\ YP a_5 a) /\ ∀ (a_5 : LnK), YP a_5 a -> bif decide (Sp a_5 a)
 then (((Vk a_5 /\ Sp a_5 a) /\ (Ss a_5).succ.le (CR (sB a) a.st).length) /\ (St a a_5 = true -> KS a /\ KN a /\ LB a a_5 = LB a a_5 /\ MS a a_5 = MS
 a a_5 /\ ME a a_5 = ME a a_5 /\ MB a a_5 = MB a a_5 /\ MQ a /\ ∀ (g : Gau), LM g a -> ((0 : Int) <= LB a a_5 /\ LB a a_5 < ME a a_5 /\ ME a a_5 <=
 (2000 : Int) /\ (0 : Int) <= MS a a_5 /\ MS a a_5 <= MB a a_5 /\ MB a a_5 <= (200000 : Int)) /\ KT g) /\ bif bif St a a_5 then (FY a).all λ (g : Gau) => BF (IK a
 a_5) g else false then aL a_5 /\ ∃ (a_7 : LnK), (CA /\ Zh a_7 a_5 /\ CA /\ MM a /\ Cu a /\ Zz a_7 a_5 /\ MN a /\ KC a /\ MU a /\ LX a /\ BJ /\
 LY a /\ MD a /\ KO a /\ CM a /\ CK a /\ MM a /\ Ys a /\ Zh a_7 a_5 /\ ∀ (i : Nat), i < a_7.l.length -> ((gD a_7.l i).a0 = bif FQ i a_5 then (gD a_5.l i).a0 else
 LB a a_5) /\ ((gD a_7.l i).a1 = bif FQ i a_5 then (gD a_5.l i).a1 else MS a a_5) /\ ((gD a_7.l i).b0 = bif FQ i a_5 then (gD a_5.l i).b0 else ME a a_5) /\ (gD a_7.l i).b1 = bif
 FQ i a_5 then (gD a_5.l i).b1 else MB a a_5) /\ Cq a_7 a a_5 else ∃ (a_7 : LnK), (CA /\ Af a_7 a_5 /\ CA /\ MM a /\ Cu a /\ Zz a_7 a_5 /\ bB a a_7
 a_5) /\ Cq a_7 a a_5) /\ dL a a_5 /\ dL a a_5 else (JO (sB a) a.st).length = a_5.l.length /\ Yi a_5 /\ (∀ (j : Nat), j < (JO (sB a) a.st).length -> (gD (JO (sB a) a.st) j).a0 = cZ
 a_5 j /\ (gD (JO (sB a) a.st) j).a1 = Ta a_5 j /\ (gD (JO (sB a) a.st) j).b0 = eD a_5 j /\ (gD (JO (sB a) a.st) j).b1 = Up a_5 j) /\ xS a
abbrev Yb (a : BkS) : List Gau := AD (Pu a) λ (i : Nat) => VX a i
abbrev PS (a : BkS) : Nat := (Yb a).length
abbrev PM (a : BkS) (i : Nat) : Gau := gD (Yb a) i
abbrev cW (a : BkS) (i : Nat) : Int := (PM a i).st
abbrev Zl (a : BkS) (i : Nat) : Int := (PM a i).lo
abbrev aX (a : BkS) (i : Nat) : Int := (PM a i).hi
abbrev ZQ (a : BkS) : List Gau := AD (PS a) λ (i : Nat) => PM a i
abbrev YL (a : BkS) : Nat := (ZQ a).length
abbrev Dj (a : BkS) (i : Nat) : Gau := gD (ZQ a) i
abbrev Ud (a : BkS) : List Pt := AA (ZQ a)
abbrev bA (a : BkS) : Nat := (Ud a).length
abbrev dH (a : BkS) : Prop := (AA (sB a)).length = bA a
abbrev Te (a : BkS) (i : Nat) : Pt := gD (Ud a) i
abbrev cI (a : BkS) : Prop := ∀ (i : Nat), i < (AA (sB a)).length -> (gD (AA (sB a)) i).st = (Te a i).st /\ (gD (AA (sB a)) i).fl = (Te a i).fl
abbrev DI (a : BkS) : Prop := a.w.g.length = a.w.g.length
abbrev DS (a : BkS) : Prop := ∀ (i : Nat), i < a.w.g.length -> (gD a.w.g i).st = (gD a.w.g i).st /\ (gD a.w.g i).lo = (gD a.w.g i).lo /\ (gD a.w.g i).hi = (gD a.w.g i).hi
abbrev DO (a : BkS) : Prop := a.w.b.length = a.w.b.length
abbrev DQ (a : BkS) : Prop := ∀ (i : Nat), i < a.w.b.length -> gD a.w.b i = gD a.w.b i
abbrev DN (a : BkS) : Prop := ∀ (n : Int), (AI a.w n).length = (AI a.w n).length /\ ∀ (i : Nat), mW i a n -> (gD (AI a.w n) i).a0 = (gD (AI a.w n) i).a0 /\ (gD (AI a.w n) i).a1 = (gD (AI a.w n) i).a1 /\
 (gD (AI a.w n) i).b0 = (gD (AI a.w n) i).b0 /\ (gD (AI a.w n) i).b1 = (gD (AI a.w n) i).b1
abbrev Xh : Prop := CA /\ ∀ (i : Nat), i < (0 : Nat) -> false = false
abbrev QG (a : Nat) (a1 : BkS) : Prop := a <= (AA (sB a1)).length /\ List.filter (JF (sB a1)) (NG (sB a1) a) = []
abbrev Bb : Prop := (True /\ ((0 : Nat) < (0 : Nat) -> (0 : Nat) = (4 : Nat))) /\ Bo /\ (true = true -> Df) /\ (1 : Nat) <= (9223372036854775807 : Nat) /\ (32 : Nat) <= (140737488355328 : Nat)
abbrev Dh (a : LnJ) : Prop := (↑a.j : Int) = (0 : Int)
abbrev RX (a : LnJ) : Prop := a.l.length = (1 : Nat)
abbrev cQ (a : LnJ) (a1 : BkS) : Prop := a.i < (AA (sB a1)).length
abbrev Wn (a : LnJ) (a1 : BkS) : Prop := a.j <= (AA (sB a1)).length
abbrev aS (a : BkS) (a1 : LnJ) : Nat := (AA (sB a)).length - a1.i
abbrev Yk (a : LnJ) (a1 : BkS) : Prop := a.l = List.filter (JF (sB a1)) (DZ (sB a1) a.i a.j)
abbrev QO (a : LnJ) (a1 : BkS) (a2 : Nat) : Prop := cQ a a1 /\ Wn a a1 /\ aS a1 a = LW a1 a2 /\ Yk a a1
abbrev Th (a : IJ) (a1 : BkS) : Prop := a.i < (AA (sB a1)).length
abbrev bI (a : IJ) (a1 : BkS) : Prop := a.j <= (AA (sB a1)).length
abbrev Yo (a : BkS) (a1 : IJ) : Nat := (AA (sB a)).length - a1.i
abbrev aK (a : BkS) (a1 : IJ) : Prop := List.filter (JF (sB a)) (DZ (sB a) a1.i a1.j) = []
abbrev Bd (a : IJ) (a1 : BkS) (a2 : Nat) : Prop := Th a a1 /\ bI a a1 /\ Yo a1 a = LW a1 a2 /\ aK a1 a
abbrev Wu (a : IJ) (a1 : BkS) : Prop := (↑a.j : Int) < (↑(AA (sB a1)).length : Int)
abbrev Yx (a : IJ) (a1 : BkS) : Bool := decide (Wu a a1)
abbrev cC (a : IJ) (a1 : BkS) : Prop := (0 : Int) <= (↑a.j : Int) /\ Wu a a1
abbrev Wg (a : BkS) (a1 : IJ) : Ln := Ln.mk (gD (AA (sB a)) a1.i).st (gD (AA (sB a)) a1.i).fl (gD (AA (sB a)) a1.j).st (gD (AA (sB a)) a1.j).fl
abbrev Vw (a : BkS) (a1 : IJ) : Bool := FT (Wg a a1)
abbrev Sg (a : BkS) (a1 : IJ) : Bool := if true = true then Vw a a1 else !Vw a a1
abbrev Uo (a : BkS) (a1 : IJ) : Prop := KS a /\ KN a /\ (gD (AA (sB a)) a1.i).st = (gD (AA (sB a)) a1.i).st /\ (gD (AA (sB a)) a1.i).fl = (gD (AA (sB a)) a1.i).fl /\ (gD (AA (sB a))
 a1.j).st = (gD (AA (sB a)) a1.j).st /\ (gD (AA (sB a)) a1.j).fl = (gD (AA (sB a)) a1.j).fl /\ MQ a /\ ∀ (g : Gau), LM g a -> ((0 : Int) <= (gD (AA (sB a)) a1.i).st /\ (gD (AA (sB a)) a1.i).st <
 (gD (AA (sB a)) a1.j).st /\ (gD (AA (sB a)) a1.j).st <= (2000 : Int) /\ (0 : Int) <= (gD (AA (sB a)) a1.i).fl /\ (gD (AA (sB a)) a1.i).fl <= (gD (AA (sB a)) a1.j).fl /\ (gD (AA (sB a)) a1.j).fl <= (200000 :
 Int)) /\ KT g
abbrev bX (a : BkS) (a1 : IJ) : Bool := (FY a).all λ (g : Gau) => BF (Wg a a1) g
abbrev Us (a : IJ) : Int := IntKind.i64.wrap ((↑a.j : Int) + (1 : Int))
abbrev Yz (a : BkS) (a1 : LnJ) (a2 : IJ) (l : Nat) : Prop := AU a /\ AT a /\ BV a /\ (↑a1.j : Int) = Us a2 /\ Fn.yield l = Fn.yield l /\ AU a /\ AT a /\ AU a /\ AT
 a /\ BV a /\ (↑a1.i : Int) = (↑a2.i : Int) /\ (gD (AA (sB a)) a1.i).st = (gD (AA (sB a)) a2.i).st /\ (gD (AA (sB a)) a1.i).fl = (gD (AA (sB a)) a2.i).fl /\ DI a /\ DS a /\ DO a /\
 DQ a /\ BJ /\ DE a /\ DC a /\ DN a /\ CM a /\ CK a /\ CA /\ RX a1 /\ RX a1 /\ ∀ (i : Nat), i < a1.l.length -> (gD a1.l i).a0 = (gD (AA (sB a)) a2.i).st /\
 (gD a1.l i).a1 = (gD (AA (sB a)) a2.i).fl /\ (gD a1.l i).b0 = (gD (AA (sB a)) a2.j).st /\ (gD a1.l i).b1 = (gD (AA (sB a)) a2.j).fl
abbrev Do (a : BkS) (a1 : LnJ) : Nat := (AA (sB a)).length - a1.j
abbrev As (a : BkS) (a1 : IJ) : Nat := (AA (sB a)).length - a1.j
abbrev aP (a : BkS) (a1 : LnJ) (a2 : IJ) : Prop := Do a a1 < As a a2
abbrev Cw (a : BkS) : Prop := DI a /\ DS a /\ DO a /\ DQ a /\ BJ /\ DE a /\ DC a /\ DN a /\ CM a /\ CK a /\ Xh
abbrev Tx (a : BkS) (a1 : IJ) (a2 : IJ) (l : Nat) : Prop := AU a /\ AT a /\ BV a /\ (↑a1.j : Int) = Us a2 /\ Fn.yield l = Fn.yield l /\ AU a /\ AT a /\ AU a /\ AT
 a /\ BV a /\ (↑a1.i : Int) = (↑a2.i : Int) /\ (gD (AA (sB a)) a1.i).st = (gD (AA (sB a)) a2.i).st /\ (gD (AA (sB a)) a1.i).fl = (gD (AA (sB a)) a2.i).fl /\ Cw a
abbrev aD (a : BkS) (a1 : IJ) (a2 : IJ) : Prop := As a a1 < As a a2
abbrev Zk (a : BkS) (a1 : IJ) (l : Nat) (a2 : Nat) : Prop := ∃ (a_1 : IJ), Tx a a_1 a1 l /\ Bd a_1 a a2 /\ aD a a_1 a1
abbrev Zt (l : Nat) (a : BkS) (a1 : Nat) (a2 : IJ) : Prop := Fn.yield l = Fn.yield l /\ AU a /\ AT a /\ AU a /\ AT a /\ BV a /\ (↑a1 : Int) = IntKind.i64.wrap ((↑a2.i : Int) + (1 :
 Int)) /\ Cw a
abbrev Rw (a : LnJ) (a1 : BkS) : Prop := (↑a.j : Int) < (↑(AA (sB a1)).length : Int)
abbrev Sc (a : LnJ) (a1 : BkS) : Bool := decide (Rw a a1)
abbrev Yn (a : LnJ) (a1 : BkS) : Prop := (0 : Int) <= (↑a.j : Int) /\ Rw a a1
abbrev Yc (a : BkS) (a1 : LnJ) : Ln := Ln.mk (gD (AA (sB a)) a1.i).st (gD (AA (sB a)) a1.i).fl (gD (AA (sB a)) a1.j).st (gD (AA (sB a)) a1.j).fl
abbrev dZ (a : BkS) (a1 : LnJ) : Bool := FT (Yc a a1)
abbrev Xn (a : BkS) (a1 : LnJ) : Bool := if true = true then dZ a a1 else !dZ a a1
abbrev dS (a : BkS) (a1 : LnJ) : Prop := KS a /\ KN a /\ (gD (AA (sB a)) a1.i).st = (gD (AA (sB a)) a1.i).st /\ (gD (AA (sB a)) a1.i).fl = (gD (AA (sB a)) a1.i).fl /\ (gD (AA (sB a))
 a1.j).st = (gD (AA (sB a)) a1.j).st /\ (gD (AA (sB a)) a1.j).fl = (gD (AA (sB a)) a1.j).fl /\ MQ a /\ ∀ (g : Gau), LM g a -> ((0 : Int) <= (gD (AA (sB a)) a1.i).st /\ (gD (AA (sB a)) a1.i).st <
 (gD (AA (sB a)) a1.j).st /\ (gD (AA (sB a)) a1.j).st <= (2000 : Int) /\ (0 : Int) <= (gD (AA (sB a)) a1.i).fl /\ (gD (AA (sB a)) a1.i).fl <= (gD (AA (sB a)) a1.j).fl /\ (gD (AA (sB a)) a1.j).fl <= (200000 :
 Int)) /\ KT g
abbrev aE (a : BkS) (a1 : LnJ) : Bool := (FY a).all λ (g : Gau) => BF (Yc a a1) g
abbrev Bh (a : LnJ) : Nat := a.l.length + (1 : Nat)
abbrev cE (a : LnJ) : Prop := (a.l.length = a.l.length /\ ((0 : Nat) < a.l.length -> OX)) /\ Bo /\ Sz /\ Bh a <= (9223372036854775807 : Nat) /\ Bh a * (32 : Nat) <= (140737488355328
 : Nat)
abbrev Tp (a : LnJ) (a1 : LnJ) : Prop := (↑a.j : Int) = IntKind.i64.wrap ((↑a1.j : Int) + (1 : Int))
abbrev Vg (a : LnJ) (a1 : LnJ) : Prop := (↑a.i : Int) = (↑a1.i : Int)
abbrev Yv (a : BkS) (a1 : LnJ) (a2 : LnJ) : Prop := (gD (AA (sB a)) a1.i).st = (gD (AA (sB a)) a2.i).st
abbrev dP (a : BkS) (a1 : LnJ) (a2 : LnJ) : Prop := (gD (AA (sB a)) a1.i).fl = (gD (AA (sB a)) a2.i).fl
abbrev Uz (a : LnJ) (a1 : LnJ) : Prop := a.l.length = Bh a1
abbrev RO (i : Nat) (a : LnJ) : Bool := decide (i < a.l.length)
abbrev Tl (a : BkS) (a1 : LnJ) (a2 : LnJ) (l : Nat) : Prop := AU a /\ AT a /\ BV a /\ Tp a1 a2 /\ Fn.yield l = Fn.yield l /\ AU a /\ AT a /\ AU a /\ AT a /\
 BV a /\ Vg a1 a2 /\ Yv a a1 a2 /\ dP a a1 a2 /\ DI a /\ DS a /\ DO a /\ DQ a /\ BJ /\ DE a /\ DC a /\ DN a /\ CM a /\ CK a /\
 CA /\ Uz a1 a2 /\ Uz a1 a2 /\ ∀ (i : Nat), i < a1.l.length -> ((gD a1.l i).a0 = bif RO i a2 then (gD a2.l i).a0 else (gD (AA (sB a)) a2.i).st) /\ ((gD a1.l i).a1 = bif RO i a2 then
 (gD a2.l i).a1 else (gD (AA (sB a)) a2.i).fl) /\ ((gD a1.l i).b0 = bif RO i a2 then (gD a2.l i).b0 else (gD (AA (sB a)) a2.j).st) /\ (gD a1.l i).b1 = bif RO i a2 then (gD a2.l i).b1 else (gD (AA
 (sB a)) a2.j).fl
abbrev Yg (a : BkS) (a1 : LnJ) (a2 : LnJ) : Prop := Do a a1 < Do a a2
abbrev eC (a : LnJ) (a1 : BkS) (a2 : Nat) (a3 : LnJ) : Prop := QO a a1 a2 /\ Yg a1 a a3
abbrev aG (a : LnJ) (a1 : LnJ) : Prop := a.l.length = a1.l.length
abbrev Yu (a : BkS) (a1 : LnJ) (a2 : LnJ) (l : Nat) : Prop := AU a /\ AT a /\ BV a /\ Tp a1 a2 /\ Fn.yield l = Fn.yield l /\ AU a /\ AT a /\ AU a /\ AT a /\
 BV a /\ Vg a1 a2 /\ Yv a a1 a2 /\ dP a a1 a2 /\ DI a /\ DS a /\ DO a /\ DQ a /\ BJ /\ DE a /\ DC a /\ DN a /\ CM a /\ CK a /\
 CA /\ aG a1 a2 /\ aG a1 a2 /\ ∀ (i : Nat), i < a1.l.length -> (gD a1.l i).a0 = (gD a2.l i).a0 /\ (gD a1.l i).a1 = (gD a2.l i).a1 /\ (gD a1.l i).b0 = (gD a2.l i).b0 /\ (gD a1.l i).b1 = (gD a2.l i).b1
abbrev Wr (a : BkS) (a1 : LnJ) (l : Nat) (a2 : Nat) : Prop := ∃ (a_1 : LnJ), Yu a a_1 a1 l /\ eC a_1 a a2 a1
abbrev aR (a : LnK) (a1 : LnJ) : Prop := a.l.length = a1.l.length
abbrev Sw (l : Nat) (a : BkS) (a1 : LnK) (a2 : LnJ) : Prop := Fn.yield l = Fn.yield l /\ AU a /\ AT a /\ AU a /\ AT a /\ BV a /\ (↑a1.i : Int) = IntKind.i64.wrap ((↑a2.i : Int) + (1 :
 Int)) /\ DI a /\ DS a /\ DO a /\ DQ a /\ BJ /\ DE a /\ DC a /\ DN a /\ CM a /\ CK a /\ CA /\ aR a1 a2 /\ aR a1 a2 /\ ∀ (i : Nat), i <
 a1.l.length -> (gD a1.l i).a0 = (gD a2.l i).a0 /\ (gD a1.l i).a1 = (gD a2.l i).a1 /\ (gD a1.l i).b0 = (gD a2.l i).b0 /\ (gD a1.l i).b1 = (gD a2.l i).b1
abbrev YW (a : LnK) (a1 : BkS) : Prop := a.i <= (AA (sB a1)).length /\ a.l = List.filter (JF (sB a1)) (NG (sB a1) a.i)
abbrev HZ (a : BkS) (a1 : LnK) : Nat := (AA (sB a)).length - a1.i
abbrev Un (a : BkS) (a1 : Nat) (l : Nat) : Prop := ∀ (a_1 : LnJ), QO a_1 a a1 -> bif Sc a_1 a then Yn a_1 a /\ bif Xn a a_1 then l = l /\ dS a a_1 /\ bif aE a a_1 then
 cE a_1 /\ ∃ (a_3 : LnJ), Tl a a_3 a_1 l /\ eC a_3 a a1 a_1 else Wr a a_1 l a1 else Wr a a_1 l a1 else ∃ (a_3 : LnK), Sw l a a_3 a_1 /\ YW a_3 a /\ HZ a a_3 <
 LW a a1
abbrev dD (a : BkS) (a1 : Nat) (l : Nat) : Prop := (∀ (a_1 : IJ), Bd a_1 a a1 -> bif Yx a_1 a then cC a_1 a /\ bif Sg a a_1 then l = l /\ Uo a a_1 /\ bif bX a a_1 then
 Bb /\ ∃ (a_3 : LnJ), Yz a a_3 a_1 l /\ QO a_3 a a1 /\ aP a a_3 a_1 else Zk a a_1 l a1 else Zk a a_1 l a1 else ∃ (a_3 : Nat), Zt l a a_3 a_1 /\ QG a_3 a /\
 yL a a_3 a1) /\ Un a a1 l /\ Un a a1 l
abbrev Xp (a : BkS) : Prop := (EU (sB a)).length = (0 : Nat)
abbrev Wd (a : LnK) (a1 : BkS) : Prop := (↑a.i : Int) < (↑(AA (sB a1)).length : Int)
abbrev LJ (a : BkS) (a1 : LnK) : Int := (AM (gD (AA (sB a)) a1.i)).a0
abbrev KU (a : BkS) (a1 : LnK) : Int := (AM (gD (AA (sB a)) a1.i)).a1
abbrev LN (a : BkS) (a1 : LnK) : Int := (AM (gD (AA (sB a)) a1.i)).b0
abbrev LQ (a : BkS) (a1 : LnK) : Int := (AM (gD (AA (sB a)) a1.i)).b1
abbrev Sb (a : LnJ) (a1 : LnK) : Prop := (↑a.i : Int) = (↑a1.i : Int)
abbrev To (a : BkS) (a1 : LnJ) (a2 : LnK) : Prop := (gD (AA (sB a)) a1.i).st = (gD (AA (sB a)) a2.i).st
abbrev Vz (a : BkS) (a1 : LnJ) (a2 : LnK) : Prop := (gD (AA (sB a)) a1.i).fl = (gD (AA (sB a)) a2.i).fl
abbrev Wx (a : LnJ) (a1 : LnK) : Prop := a.l.length = RM a1
abbrev MV (a : LnJ) (a1 : BkS) (a2 : LnK) : Prop := cQ a a1 /\ Wn a a1 /\ aS a1 a = HZ a1 a2 /\ Yk a a1
abbrev Xg (a : IJ) (a1 : BkS) (a2 : LnK) : Prop := Th a a1 /\ bI a a1 /\ Yo a1 a = HZ a1 a2 /\ aK a1 a
abbrev Wy (a : BkS) (a1 : IJ) (l : Nat) (a2 : LnK) : Prop := ∃ (a_1 : IJ), Tx a a_1 a1 l /\ Xg a_1 a a2 /\ aD a a_1 a1
abbrev Ya (a : LnJ) (a1 : BkS) (a2 : LnK) (a3 : LnJ) : Prop := MV a a1 a2 /\ Yg a1 a a3
abbrev cX (a : BkS) (a1 : LnJ) (l : Nat) (a2 : LnK) : Prop := ∃ (a_1 : LnJ), Yu a a_1 a1 l /\ Ya a_1 a a2 a1
abbrev Uk (a : BkS) (a1 : LnK) (l : Nat) : Prop := ∀ (a_1 : LnJ), MV a_1 a a1 -> bif Sc a_1 a then Yn a_1 a /\ bif Xn a a_1 then l = l /\ dS a a_1 /\ bif aE a a_1 then
 cE a_1 /\ ∃ (a_3 : LnJ), Tl a a_3 a_1 l /\ Ya a_3 a a1 a_1 else cX a a_1 l a1 else cX a a_1 l a1 else ∃ (a_3 : LnK), Sw l a a_3 a_1 /\ YW a_3 a /\ HZ a a_3 <
 HZ a a1
abbrev cP (a : BkS) (a1 : LnK) (l : Nat) : Prop := (∀ (a_1 : IJ), Xg a_1 a a1 -> bif Yx a_1 a then cC a_1 a /\ bif Sg a a_1 then l = l /\ Uo a a_1 /\ bif bX a a_1 then
 Bb /\ ∃ (a_3 : LnJ), Yz a a_3 a_1 l /\ MV a_3 a a1 /\ aP a a_3 a_1 else Wy a a_1 l a1 else Wy a a_1 l a1 else ∃ (a_3 : Nat), Zt l a a_3 a_1 /\ QG a_3 a /\
 LW a a_3 < HZ a a1) /\ Uk a a1 l /\ Uk a a1 l
abbrev Vy (a : LnJ) (a1 : LnK) : Prop := a.l.length = a1.l.length
abbrev MI (n : Int) (a : BkS) : Bool := decide (n = a.k)
abbrev Xz (a : BkS) : Prop := ∀ (a_1 : One), True -> ∃ (a_3 : One), (a.st = a.st /\ A0 a /\ vU a /\ pC a /\ mM a /\ BJ /\ (∀ (n : Int), (BY a.w a.k).has n = FX a.w.has a.k n) /\ (∀
 (n : Int), (BY a.w a.k).st n = Ra a.w.has a.w.st a.k n) /\ (∀ (n : Int), ((AI (BY a.w a.k) n).length = bif MI n a then (EU (sB a)).length else (AI a.w n).length) /\ ∀ (i : Nat), Qe i a n -> (TP
 a n i = bif MI n a then (gD (EU (sB a)) i).a0 else (gD (AI a.w n) i).a0) /\ (WW a n i = bif MI n a then (gD (EU (sB a)) i).a1 else (gD (AI a.w n) i).a1) /\ (XF a n i = bif MI n a
 then (gD (EU (sB a)) i).b0 else (gD (AI a.w n) i).b0) /\ UE a n i = bif MI n a then (gD (EU (sB a)) i).b1 else (gD (AI a.w n) i).b1) /\ CM a /\ CK a /\ Ob a /\ Lp a) /\ True
theorem BPW (a : BkS) : (BGU a) = ((a.k = a.k /\ Ke a = a.w.g.length /\ (∀ (i : Nat), i < Ke a -> AIK a i = (gD a.w.g i).st /\ X4 a i = (gD a.w.g i).lo /\ R8 a i = (gD a.w.g i).hi) /\
 Ep a = a.w.b.length /\ (∀ (i : Nat), i < Ep a -> ADG a i = gD a.w.b i) /\ BJ /\ DE a /\ DC a /\ (∀ (n : Int), Kv a n = (AI a.w n).length /\ ∀ (i : Nat), i < Kv a n ->
 qA a n i = (gD (AI a.w n) i).a0 /\ sC a n i = (gD (AI a.w n) i).a1 /\ zK a n i = (gD (AI a.w n) i).b0 /\ yM a n i = (gD (AI a.w n) i).b1) /\ a.w.g.length = Ke a /\ (∀ (i : Nat), i <
 a.w.g.length -> (gD a.w.g i).st = AIK a i /\ (gD a.w.g i).lo = X4 a i /\ (gD a.w.g i).hi = R8 a i) /\ a.w.b.length = Ep a /\ (∀ (i : Nat), i < a.w.b.length -> gD a.w.b i = ADG a i) /\ BJ /\
 DE a /\ DC a /\ (∀ (n : Int), (AI a.w n).length = Kv a n /\ ∀ (i : Nat), mW i a n -> (gD (AI a.w n) i).a0 = qA a n i /\ (gD (AI a.w n) i).a1 = sC a n i /\ (gD (AI a.w n) i).b0 =
 zK a n i /\ (gD (AI a.w n) i).b1 = yM a n i) /\ (Ke a <= (24 : Nat) /\ (∀ (x : Gau), List.Mem x (Ev a) -> KT x) /\ Ep a <= (24 : Nat) /\ List.Pairwise (λ (x1 x2 : Int) => x1 < x2)
 (WF a) /\ ∀ (x : Int), List.Mem x (WF a) -> (1 : Int) <= x /\ x <= (2000 : Int)) /\ True) /\ BJ /\ bif a.w.has a.k then (∃ (a_1 : One), (a.st = a.st /\ A0 a /\ vU a /\ pC a /\ mM a /\
 BJ /\ (∀ (n : Int), (BY a.w a.k).has n = a.w.has n) /\ (∀ (n : Int), (BY a.w a.k).st n = a.w.st n) /\ (∀ (n : Int), (AI (BY a.w a.k) n).length = (AI a.w n).length /\ ∀ (i : Nat), Qe i a n -> TP a n i
 = (gD (AI a.w n) i).a0 /\ WW a n i = (gD (AI a.w n) i).a1 /\ XF a n i = (gD (AI a.w n) i).b0 /\ UE a n i = (gD (AI a.w n) i).b1) /\ tW a /\ A1 a /\ (EU (sB a)).length = (AI a.w
 a.k).length /\ ∀ (i : Nat), i < (EU (sB a)).length -> (gD (EU (sB a)) i).a0 = (gD (AI a.w a.k) i).a0 /\ (gD (EU (sB a)) i).a1 = (gD (AI a.w a.k) i).a1 /\ (gD (EU (sB a)) i).b0 = (gD (AI a.w a.k) i).b0 /\ (gD (EU (sB
 a)) i).b1 = (gD (AI a.w a.k) i).b1) /\ True) /\ aH a else (((PS a = Pu a /\ ∀ (i : Nat), i < PS a -> cW a i = zD a i /\ Zl a i = qS a i /\ aX a i =
 zF a i) /\ ∀ (l : Nat), (YL a = PS a /\ (∀ (i : Nat), i < YL a -> (Dj a i).st = cW a i /\ (Dj a i).lo = Zl a i /\ (Dj a i).hi = aX a i) /\
 YL a < (1073741824 : Nat) /\ True) /\ (∃ (a_1 : Nat), (Fn.yield l = Fn.yield l /\ dH a /\ cI a /\ dH a /\ cI a /\ (↑(AA (sB a)).length : Int) = (↑(bA a) : Int) /\ vC a_1
 /\ DI a /\ DS a /\ DO a /\ DQ a /\ BJ /\ DE a /\ DC a /\ DN a /\ tW a /\ A1 a /\ Xh) /\ QG a_1 a) /\ (∀ (a_1 : Nat), QG a_1 a -> bif
 pB a_1 a then oB a_1 a /\ ((0 : Int) <= (gD (AA (sB a)) a_1).st /\ (gD (AA (sB a)) a_1).st <= (2000 : Int)) /\ l = l /\ (KS a /\ KN a /\ (AM (gD (AA (sB a)) a_1)).a0 = (AM (gD (AA (sB
 a)) a_1)).a0 /\ (AM (gD (AA (sB a)) a_1)).a1 = (AM (gD (AA (sB a)) a_1)).a1 /\ (AM (gD (AA (sB a)) a_1)).b0 = (AM (gD (AA (sB a)) a_1)).b0 /\ (AM (gD (AA (sB a)) a_1)).b1 = (AM (gD (AA (sB a))
 a_1)).b1 /\ MQ a /\ ∀ (g : Gau), LM g a -> ((0 : Int) <= (AM (gD (AA (sB a)) a_1)).a0 /\ (AM (gD (AA (sB a)) a_1)).a0 < (AM (gD (AA (sB a)) a_1)).b0 /\ (AM (gD (AA (sB a)) a_1)).b0 <= (2000 :
 Int) /\ (0 : Int) <= (AM (gD (AA (sB a)) a_1)).a1 /\ (AM (gD (AA (sB a)) a_1)).a1 <= (AM (gD (AA (sB a)) a_1)).b1 /\ (AM (gD (AA (sB a)) a_1)).b1 <= (200000 : Int)) /\ KT g) /\ bif (FY a).all
 λ (g : Gau) => BF (AM (gD (AA (sB a)) a_1)) g then Bb /\ (∃ (a_3 : LnJ), (AU a /\ AT a /\ BV a /\ Dh a_3 /\ Fn.yield l = Fn.yield l /\ AU a /\ AT a /\ AU a /\
 AT a /\ BV a /\ (↑a_3.i : Int) = (↑a_1 : Int) /\ (gD (AA (sB a)) a_3.i).st = (gD (AA (sB a)) a_1).st /\ (gD (AA (sB a)) a_3.i).fl = (gD (AA (sB a)) a_1).fl /\ DI a /\ DS a /\ DO
 a /\ DQ a /\ BJ /\ DE a /\ DC a /\ DN a /\ CM a /\ CK a /\ CA /\ RX a_3 /\ RX a_3 /\ ∀ (i : Nat), i < a_3.l.length -> (gD a_3.l i).a0 = (AM (gD (AA (sB
 a)) a_1)).a0 /\ (gD a_3.l i).a1 = (AM (gD (AA (sB a)) a_1)).a1 /\ (gD a_3.l i).b0 = (AM (gD (AA (sB a)) a_1)).b0 /\ (gD a_3.l i).b1 = (AM (gD (AA (sB a)) a_1)).b1) /\ QO a_3 a a_1) /\ dD a a_1 l
 else (∃ (a_3 : IJ), (AU a /\ AT a /\ BV a /\ (↑a_3.j : Int) = (0 : Int) /\ Fn.yield l = Fn.yield l /\ AU a /\ AT a /\ AU a /\ AT a /\ BV a /\ (↑a_3.i : Int) = (↑a_1 : Int) /\
 (gD (AA (sB a)) a_3.i).st = (gD (AA (sB a)) a_1).st /\ (gD (AA (sB a)) a_3.i).fl = (gD (AA (sB a)) a_1).fl /\ Cw a) /\ Bd a_3 a a_1) /\ dD a a_1 l else ∃ (a_3 : One), (a.k = a.k /\ a.st =
 a.st /\ DI a /\ DS a /\ DO a /\ DQ a /\ BJ /\ DE a /\ DC a /\ DN a /\ CM a /\ CK a /\ Xp a /\ Xp a) /\ True) /\ ∀ (a_1 : LnK), YW a_1 a
 -> bif decide (Wd a_1 a) then (Vk a_1 /\ Wd a_1 a) /\ ((0 : Int) <= (gD (AA (sB a)) a_1.i).st /\ (gD (AA (sB a)) a_1.i).st <= (2000 : Int)) /\ l = l /\ (KS a /\ KN a /\ LJ a a_1
 = LJ a a_1 /\ KU a a_1 = KU a a_1 /\ LN a a_1 = LN a a_1 /\ LQ a a_1 = LQ a a_1 /\ MQ a /\ ∀ (g : Gau), LM g a -> ((0 : Int) <= LJ a a_1 /\
 LJ a a_1 < LN a a_1 /\ LN a a_1 <= (2000 : Int) /\ (0 : Int) <= KU a a_1 /\ KU a a_1 <= LQ a a_1 /\ LQ a a_1 <= (200000 : Int)) /\ KT g) /\ bif (FY a).all fun
 (g : Gau) => BF (AM (gD (AA (sB a)) a_1.i)) g then aL a_1 /\ (∃ (a_3 : LnJ), (AU a /\ AT a /\ BV a /\ Dh a_3 /\ Fn.yield l = Fn.yield l /\ AU a /\ AT a /\ AU a /\
 AT a /\ BV a /\ Sb a_3 a_1 /\ To a a_3 a_1 /\ Vz a a_3 a_1 /\ DI a /\ DS a /\ DO a /\ DQ a /\ BJ /\ DE a /\ DC a /\ DN a /\ CM
 a /\ CK a /\ CA /\ Wx a_3 a_1 /\ Wx a_3 a_1 /\ ∀ (i : Nat), i < a_3.l.length -> ((gD a_3.l i).a0 = bif FQ i a_1 then (gD a_1.l i).a0 else LJ a a_1) /\ ((gD a_3.l i).a1 = bif
 FQ i a_1 then (gD a_1.l i).a1 else KU a a_1) /\ ((gD a_3.l i).b0 = bif FQ i a_1 then (gD a_1.l i).b0 else LN a a_1) /\ (gD a_3.l i).b1 = bif FQ i a_1 then (gD a_1.l i).b1 else
 LQ a a_1) /\ MV a_3 a a_1) /\ cP a a_1 l else (∃ (a_3 : LnJ), (AU a /\ AT a /\ BV a /\ Dh a_3 /\ Fn.yield l = Fn.yield l /\ AU a /\ AT a /\ AU a /\
 AT a /\ BV a /\ Sb a_3 a_1 /\ To a a_3 a_1 /\ Vz a a_3 a_1 /\ DI a /\ DS a /\ DO a /\ DQ a /\ BJ /\ DE a /\ DC a /\ DN a /\ CM
 a /\ CK a /\ CA /\ Vy a_3 a_1 /\ Vy a_3 a_1 /\ ∀ (i : Nat), i < a_3.l.length -> (gD a_3.l i).a0 = (gD a_1.l i).a0 /\ (gD a_3.l i).a1 = (gD a_1.l i).a1 /\ (gD a_3.l i).b0 = (gD a_1.l i).b0 /\ (gD
 a_3.l i).b1 = (gD a_1.l i).b1) /\ MV a_3 a a_1) /\ cP a a_1 l else ∃ (a_3 : One), (a.k = a.k /\ a.st = a.st /\ DI a /\ DS a /\ DO a /\ DQ a /\ BJ /\ DE a /\ DC a
 /\ DN a /\ CM a /\ CK a /\ (EU (sB a)).length = a_1.l.length /\ Yi a_1 /\ ∀ (j : Nat), j < (EU (sB a)).length -> (gD (EU (sB a)) j).a0 = cZ a_1 j /\ (gD (EU (sB a)) j).a1 = Ta
 a_1 j /\ (gD (EU (sB a)) j).b0 = eD a_1 j /\ (gD (EU (sB a)) j).b1 = Up a_1 j) /\ True) /\ Xz a /\ Xz a) /\ aH a) := by kernel_rfl
def BEL (a : BkS) : Prop := AO Try.prog (BFX a) lA (AF lA) (C_lns.xs a) (AC (C_lns.L a)) (C_lns.val a) (C_lns.keep a) [] [403]
abbrev Hq (a : BkS) : List Gau := AD a.w.g.length λ (i : Nat) => gD a.w.g i
abbrev Kj (a : BkS) : Nat := (Hq a).length
abbrev hP (a : BkS) (i : Nat) : Gau := gD (Hq a) i
abbrev AAM (a : BkS) (i : Nat) : Int := (hP a i).st
abbrev ADJ (a : BkS) (i : Nat) : Int := (hP a i).lo
abbrev ABV (a : BkS) (i : Nat) : Int := (hP a i).hi
abbrev VI (a : BkS) : List Int := AD a.w.b.length λ (i : Nat) => gD a.w.b i
abbrev Gw (a : BkS) : Nat := (VI a).length
abbrev Z4 (a : BkS) (i : Nat) : Int := gD (VI a) i
abbrev X1 : Value := Value.slice none (0 : Nat) (0 : Nat)
abbrev BC : Prop := X1 = X1
abbrev DH (a : BkS) : Prop := ∀ (n : Int), a.w.has n = a.w.has n
abbrev DD (a : BkS) : Prop := ∀ (n : Int), a.w.st n = a.w.st n
abbrev oS (a : BkS) : Bk := Bk.mk (Hq a) (VI a) a.w.has a.w.st
abbrev xX (a : BkS) (n : Int) : List Ln := AI (oS a) n
abbrev Ni (a : BkS) (n : Int) : Nat := (xX a n).length
abbrev VE (a : BkS) (n : Int) (i : Nat) : Ln := gD (xX a n) i
abbrev rE (a : BkS) (n : Int) (i : Nat) : Int := (VE a n i).a0
abbrev nU (a : BkS) (n : Int) (i : Nat) : Int := (VE a n i).a1
abbrev yU (a : BkS) (n : Int) (i : Nat) : Int := (VE a n i).b0
abbrev rK (a : BkS) (n : Int) (i : Nat) : Int := (VE a n i).b1
abbrev nW (i : Nat) (a : BkS) (n : Int) : Prop := i < (AI a.w n).length
abbrev IY (x : Gau) : Prop := (0 : Int) <= x.st /\ x.st <= (2000 : Int) /\ (0 : Int) <= x.lo /\ x.lo <= x.hi /\ x.hi <= (200000 : Int)
abbrev qF (a : BkS) : Prop := (BY a.w a.k).g.length = a.w.g.length
abbrev sL (i : Nat) (a : BkS) : Prop := i < (BY a.w a.k).g.length
abbrev Oc (a : BkS) (i : Nat) : Gau := gD (BY a.w a.k).g i
abbrev Qk (a : BkS) (i : Nat) : Int := (Oc a i).st
abbrev Qr (a : BkS) (i : Nat) : Int := (Oc a i).lo
abbrev Pa (a : BkS) (i : Nat) : Int := (Oc a i).hi
abbrev wD (a : BkS) : Prop := ∀ (i : Nat), sL i a -> Qk a i = (gD a.w.g i).st /\ Qr a i = (gD a.w.g i).lo /\ Pa a i = (gD a.w.g i).hi
abbrev oU (a : BkS) : Prop := (BY a.w a.k).b.length = a.w.b.length
abbrev zI (i : Nat) (a : BkS) : Prop := i < (BY a.w a.k).b.length
abbrev Qn (a : BkS) (i : Nat) : Int := gD (BY a.w a.k).b i
abbrev sP (a : BkS) : Prop := ∀ (i : Nat), zI i a -> Qn a i = gD a.w.b i
abbrev Ps (i : Nat) (a : BkS) (n : Int) : Prop := i < (AI (BY a.w a.k) n).length
abbrev VP (a : BkS) (n : Int) (i : Nat) : Ln := gD (AI (BY a.w a.k) n) i
abbrev WY (a : BkS) (n : Int) (i : Nat) : Int := (VP a n i).a0
abbrev TS (a : BkS) (n : Int) (i : Nat) : Int := (VP a n i).a1
abbrev VB (a : BkS) (n : Int) (i : Nat) : Int := (VP a n i).b0
abbrev VF (a : BkS) (n : Int) (i : Nat) : Int := (VP a n i).b1
abbrev oW (a : BkS) : List Gau := NW (oS a) a.k
abbrev Nm (a : BkS) : Nat := (oW a).length
abbrev uI (a : BkS) : Prop := (sB a).length = Nm a
abbrev TL (a : BkS) (i : Nat) : Gau := gD (oW a) i
abbrev qW (a : BkS) (i : Nat) : Int := (TL a i).st
abbrev oI (a : BkS) (i : Nat) : Int := (TL a i).lo
abbrev vB (a : BkS) (i : Nat) : Int := (TL a i).hi
abbrev xN (a : BkS) : Prop := ∀ (i : Nat), i < (sB a).length -> (gD (sB a) i).st = qW a i /\ (gD (sB a) i).lo = oI a i /\ (gD (sB a) i).hi = vB a i
abbrev AY : Prop := (0 : Nat) = (0 : Nat)
abbrev tX (a : BkS) : Prop := (JO (sB a) a.st).length = (0 : Nat)
abbrev GY (a : BkS) : Prop := (BY a.w a.k).g.length = (BY a.w a.k).g.length
abbrev HI (a : BkS) : Prop := ∀ (i : Nat), sL i a -> Qk a i = Qk a i /\ Qr a i = Qr a i /\ Pa a i = Pa a i
abbrev GV (a : BkS) : Prop := (BY a.w a.k).b.length = (BY a.w a.k).b.length
abbrev HL (a : BkS) : Prop := ∀ (i : Nat), zI i a -> Qn a i = Qn a i
abbrev HJ (a : BkS) : Prop := ∀ (n : Int), (BY a.w a.k).has n = (BY a.w a.k).has n
abbrev GW (a : BkS) : Prop := ∀ (n : Int), (BY a.w a.k).st n = (BY a.w a.k).st n
abbrev HF (a : BkS) : Prop := ∀ (n : Int), (AI (BY a.w a.k) n).length = (AI (BY a.w a.k) n).length /\ ∀ (i : Nat), Ps i a n -> WY a n i = WY a n i /\ TS a n i = TS a n i /\
 VB a n i = VB a n i /\ VF a n i = VF a n i
abbrev uP (a : BkS) : Prop := GY a /\ HI a /\ GV a /\ HL a /\ BC /\ HJ a /\ GW a /\ HF a
abbrev oX (a : BkS) : Prop := tX a /\ tX a /\ uP a
abbrev yW (a : BkS) : Prop := (0 : Int) <= a.st /\ a.st <= (2000 : Int)
abbrev EZ (a : BkS) : List Gau := AD (sB a).length λ (i : Nat) => gD (sB a) i
abbrev TN (a : BkS) : Nat := (EZ a).length
abbrev IP (a : BkS) : Prop := TN a = (sB a).length
abbrev Ny (a : BkS) (i : Nat) : Gau := gD (EZ a) i
abbrev IQ (a : BkS) : Prop := ∀ (i : Nat), i < TN a -> (Ny a i).st = (gD (sB a) i).st /\ (Ny a i).lo = (gD (sB a) i).lo /\ (Ny a i).hi = (gD (sB a) i).hi
abbrev pI (a : BkS) (a1 : Nat) : Prop := (HR (sB a) a.st a1).length = (2 : Nat)
abbrev oJ (a : BkS) : List Pt := AA (EZ a)
abbrev rT (a : BkS) : Nat := (oJ a).length
abbrev uQ (a : BkS) (i : Nat) : Pt := gD (oJ a) i
abbrev Oh (a : Nat) : Prop := (↑a : Int) = (0 : Int)
abbrev CB (a : BkS) : Prop := (sB a).length = (sB a).length
abbrev CD (a : BkS) : Prop := ∀ (i : Nat), i < (sB a).length -> (gD (sB a) i).st = (gD (sB a) i).st /\ (gD (sB a) i).lo = (gD (sB a) i).lo /\ (gD (sB a) i).hi = (gD (sB a) i).hi
abbrev LO : Prop := ∀ (i : Nat), i < (0 : Nat) -> false = false
abbrev rI : Prop := Int.ofNat (0 : Nat) = Int.ofNat (0 : Nat)
abbrev zO : Prop := Int.ofNat (200000 : Nat) = Int.ofNat (200000 : Nat)
abbrev Od (i : Nat) (a : BkS) (a1 : Nat) : Prop := i < (HR (sB a) a.st a1).length
abbrev VT (a : BkS) (a1 : Nat) (i : Nat) : Ln := gD (HR (sB a) a.st a1) i
abbrev UR (a : BkS) (a1 : Nat) (i : Nat) : Int := (VT a a1 i).a0
abbrev VD (i : Nat) : Bool := decide (i = (0 : Nat))
abbrev UB (a : BkS) (a1 : Nat) (i : Nat) : Int := (VT a a1 i).a1
abbrev WT (a : BkS) (a1 : Nat) (i : Nat) : Int := (VT a a1 i).b0
abbrev XB (a : BkS) (a1 : Nat) (i : Nat) : Int := (VT a a1 i).b1
abbrev yX (a : Nat) (a1 : BkS) : Prop := (↑a : Int) < (↑(AA (sB a1)).length : Int)
abbrev qP (a : Nat) (a1 : BkS) : Bool := decide (yX a a1)
abbrev xJ (a : Nat) : Prop := (0 : Int) <= (↑a : Int)
abbrev qT (a : Nat) (a1 : BkS) : Prop := xJ a /\ yX a a1
abbrev OU : Prop := (4 : Nat) = (4 : Nat)
abbrev oG : Prop := (0 : Nat) < (2 : Nat)
abbrev Qs (a : BkS) (a1 : Nat) : Nat := (HR (sB a) a.st a1).length + (2 : Nat)
abbrev nM (a : BkS) (a1 : Nat) (a2 : Nat) : Prop := (HR (sB a) a.st a1).length = Qs a a2
abbrev AS (a : BkS) : Prop := (AA (sB a)).length = (AA (sB a)).length
abbrev AV (a : BkS) : Prop := ∀ (i : Nat), i < (AA (sB a)).length -> (gD (AA (sB a)) i).st = (gD (AA (sB a)) i).st /\ (gD (AA (sB a)) i).fl = (gD (AA (sB a)) i).fl
abbrev BU (a : BkS) : Prop := (↑(AA (sB a)).length : Int) = (↑(AA (sB a)).length : Int)
abbrev B6 (a : Nat) (a1 : Nat) : Prop := (↑a : Int) = IntKind.i64.wrap ((↑a1 : Int) + (1 : Int))
abbrev XS (i : Nat) (a : BkS) (a1 : Nat) : Bool := decide (Od i a a1)
abbrev XM (i : Nat) (a : BkS) (a1 : Nat) : Bool := decide ((0 : Nat) + (i - (HR (sB a) a.st a1).length) = (0 : Nat))
abbrev MG (a : BkS) (a1 : Nat) : Nat := (AA (sB a)).length - a1
abbrev A9 (a : BkS) (a1 : Nat) (a2 : Nat) : Prop := MG a a1 < MG a a2
abbrev Qi : Prop := AY /\ LO
abbrev uT (a : BkS) (a1 : Nat) : Prop := (CR (sB a) a.st).length = (HR (sB a) a.st a1).length
abbrev QL (i : Nat) (a : BkS) : Prop := i < (CR (sB a) a.st).length
abbrev ZD (a : BkS) (i : Nat) : Int := (gD (CR (sB a) a.st) i).a0
abbrev ZL (a : BkS) (i : Nat) : Int := (gD (CR (sB a) a.st) i).a1
abbrev By (a : BkS) (i : Nat) : Int := (gD (CR (sB a) a.st) i).b0
abbrev Dm (a : BkS) (i : Nat) : Int := (gD (CR (sB a) a.st) i).b1
abbrev RT (a : Nat) (a1 : BkS) : Prop := a <= (CR (sB a1) a1.st).length /\ List.filter (mI (sB a1)) (List.take a (CR (sB a1) a1.st)) = []
abbrev dA (a : Nat) (a1 : BkS) : Prop := (↑a : Int) < (↑(CR (sB a1) a1.st).length : Int)
abbrev ZY (a : Nat) : Nat := (0 : Nat) + a
abbrev ID (a : BkS) (a1 : Nat) : Ln := gD (CR (sB a) a.st) (ZY a1)
abbrev bQ (a : BkS) (a1 : Nat) : Bool := FT (ID a a1)
abbrev KP (a : BkS) (a1 : Nat) : Int := (ID a a1).a0
abbrev MC (a : BkS) (a1 : Nat) : Int := (ID a a1).a1
abbrev LI (a : BkS) (a1 : Nat) : Int := (ID a a1).b0
abbrev KJ (a : BkS) (a1 : Nat) : Int := (ID a a1).b1
abbrev IF (a : BkS) : Prop := TN a < (4611686018427387904 : Nat)
abbrev IH (g : Gau) (a : BkS) : Prop := List.Mem g (EZ a)
abbrev Bs : Prop := (0 : Nat) < (1 : Nat)
abbrev Av : Prop := (1 : Nat) <= (1 : Nat) /\ (Bs -> OU)
abbrev PO : Prop := (True /\ ((0 : Nat) < (0 : Nat) -> (0 : Nat) = (4 : Nat))) /\ Av /\ (true = true -> Bs) /\ (1 : Nat) <= (9223372036854775807 : Nat) /\ (32 : Nat) <= (140737488355328 : Nat)
abbrev dN (a : LnK) : Prop := a.l.length = (1 : Nat)
abbrev EA (a : BkS) : Prop := (CR (sB a) a.st).length = (CR (sB a) a.st).length
abbrev HX (a : BkS) : Prop := (↑(CR (sB a) a.st).length : Int) = (↑(CR (sB a) a.st).length : Int)
abbrev QJ (a : BkS) : Prop := ∀ (i : Nat), QL i a -> ZD a i = ZD a i /\ ZL a i = ZL a i /\ By a i = By a i /\ Dm a i = Dm a i
abbrev dJ (a : LnK) (a1 : BkS) : Prop := a.i < (CR (sB a1) a1.st).length
abbrev FI (a : BkS) (a1 : LnK) : Nat := (CR (sB a) a.st).length - a1.i
abbrev FK (a : BkS) (a1 : Nat) : Nat := (CR (sB a) a.st).length - a1
abbrev dI (a : LnK) (a1 : BkS) : Prop := a.l = EU (sB a1) ++ List.filter (mI (sB a1)) (List.take (a.i + (1 : Nat)) (CR (sB a1) a1.st))
abbrev Yh (a : LnK) (a1 : BkS) (a2 : Nat) : Prop := dJ a a1 /\ FI a1 a = FK a1 a2 /\ dI a a1
abbrev Zj (a : BkS) : Prop := GY a /\ HI a /\ GV a /\ HL a /\ BC /\ HJ a /\ GW a /\ HF a /\ CB a /\ CD a /\ EA a /\ QJ a
abbrev dM (a : BkS) (a1 : Nat) : Prop := List.filter (mI (sB a)) (List.take (a1 + (1 : Nat)) (CR (sB a) a.st)) = []
abbrev aB (a : Nat) (a1 : BkS) (a2 : Nat) : Prop := QL a a1 /\ FK a1 a = FK a1 a2 /\ dM a1 a
abbrev Rr (a : BkS) (a1 : Nat) (a2 : Nat) : Prop := AY /\ LO /\ AY /\ EA a /\ HX a /\ B6 a1 a2 /\ Zj a
abbrev Bj (a : LnK) (a1 : LnK) : Prop := a.l.length = a1.l.length
abbrev Uw (a : BkS) (a1 : LnK) (a2 : LnK) : Prop := GY a /\ HI a /\ GV a /\ HL a /\ BC /\ HJ a /\ GW a /\ HF a /\ CB a /\ CD a /\ EA a /\
 QJ a /\ Bj a1 a2 /\ ∀ (i : Nat), i < a1.l.length -> (gD a1.l i).a0 = (gD a2.l i).a0 /\ (gD a1.l i).a1 = (gD a2.l i).a1 /\ (gD a1.l i).b0 = (gD a2.l i).b0 /\ (gD a1.l i).b1 = (gD a2.l i).b1
abbrev Tv (a : LnK) (a1 : LnK) (a2 : BkS) : Prop := AY /\ Bj a a1 /\ AY /\ EA a2 /\ HX a2 /\ (↑a.i : Int) = IntKind.i64.wrap ((↑a1.i : Int) + (1 : Int)) /\ Uw a2 a a1
abbrev Du (a : LnK) (a1 : BkS) : Prop := a.i <= (CR (sB a1) a1.st).length /\ a.l = EU (sB a1) ++ List.filter (mI (sB a1)) (List.take a.i (CR (sB a1) a1.st))
abbrev bM (a : BkS) (a1 : Nat) : Prop := ∀ (a_1 : LnK), Yh a_1 a a1 -> ∃ (a_3 : LnK), Tv a_3 a_1 a /\ Du a_3 a /\ FI a a_3 < FK a a1
abbrev dU (a : LnK) (a1 : BkS) : Prop := (↑a.i : Int) < (↑(CR (sB a1) a1.st).length : Int)
abbrev aV (a : LnK) : Prop := (0 : Int) <= (↑a.i : Int)
abbrev cL (a : LnK) : Nat := (0 : Nat) + a.i
abbrev IM (a : BkS) (a1 : LnK) : Ln := gD (CR (sB a) a.st) (cL a1)
abbrev Xb (a : BkS) (a1 : LnK) : Bool := FT (IM a a1)
abbrev MA (a : BkS) (a1 : LnK) : Int := (IM a a1).a0
abbrev MF (a : BkS) (a1 : LnK) : Int := (IM a a1).a1
abbrev LP (a : BkS) (a1 : LnK) : Int := (IM a a1).b0
abbrev LV (a : BkS) (a1 : LnK) : Int := (IM a a1).b1
abbrev Sq : Prop := false = true -> Bs
abbrev RD (a : LnK) : Nat := a.l.length + (1 : Nat)
abbrev Uc (a : LnK) : Prop := (a.l.length = a.l.length /\ ((0 : Nat) < a.l.length -> OU)) /\ Av /\ Sq /\ RD a <= (9223372036854775807 : Nat) /\ RD a * (32 : Nat) <= (140737488355328
 : Nat)
abbrev Ug (a : LnK) (a1 : LnK) : Prop := a.l.length = RD a1
abbrev Tz (a : LnK) (a1 : LnK) : Prop := (↑a.i : Int) = (↑a1.i : Int)
abbrev FJ (i : Nat) (a : LnK) : Bool := decide (i < a.l.length)
abbrev YT (a : LnK) (a1 : BkS) (a2 : LnK) : Prop := dJ a a1 /\ FI a1 a = FI a1 a2 /\ dI a a1
abbrev Tb (a : BkS) (a1 : LnK) : Prop := ∀ (a_1 : LnK), YT a_1 a a1 -> ∃ (a_3 : LnK), Tv a_3 a_1 a /\ Du a_3 a /\ FI a a_3 < FI a a1
abbrev Rv (a : LnK) : Prop := (0 : Nat) + a.l.length <= a.l.length
abbrev SB (a : LnK) (j : Nat) : Ln := gD a.l (ZY j)
abbrev Wl (a : LnK) (j : Nat) : Int := (SB a j).a0
abbrev Xv (a : LnK) (j : Nat) : Int := (SB a j).a1
abbrev aY (a : LnK) (j : Nat) : Int := (SB a j).b0
abbrev Ut (a : LnK) (j : Nat) : Int := (SB a j).b1
abbrev Zw (a : BkS) : Prop := ∀ (a_1 : One), True -> bif bif decide ((↑(sB a).length : Int) > (0 : Int)) then (↑(0 : Nat) : Int) == (0 : Int) else false then oX a else (yW a /\ yW a) /\
 (IP a /\ IQ a /\ TN a < (1073741824 : Nat) /\ True) /\ (∃ (a_3 : Nat), (AY /\ pI a a_3 /\ (AA (sB a)).length = rT a /\ (∀ (i : Nat), i < (AA (sB a)).length -> (gD (AA (sB a))
 i).st = (uQ a i).st /\ (gD (AA (sB a)) i).fl = (uQ a i).fl) /\ (↑(AA (sB a)).length : Int) = (↑(rT a) : Int) /\ Oh a_3 /\ GY a /\ HI a /\ GV a /\ HL a /\ BC /\
 HJ a /\ GW a /\ HF a /\ CB a /\ CD a /\ AY /\ LO /\ a.st = a.st /\ rI /\ a.st = a.st /\ zO /\ pI a a_3 /\ ∀ (i : Nat), Od i a a_3 -> (UR a a_3 i =
 bif VD i then (AM (Pt.mk a.st (0 : Int))).a0 else (AM (Pt.mk a.st (200000 : Int))).a0) /\ (UB a a_3 i = bif VD i then (AM (Pt.mk a.st (0 : Int))).a1 else (AM (Pt.mk a.st (200000 : Int))).a1) /\
 (WT a a_3 i = bif VD i then (AM (Pt.mk a.st (0 : Int))).b0 else (AM (Pt.mk a.st (200000 : Int))).b0) /\ XB a a_3 i = bif VD i then (AM (Pt.mk a.st (0 : Int))).b1 else (AM (Pt.mk a.st
 (200000 : Int))).b1) /\ a_3.le (AA (sB a)).length) /\ ∀ (a_3 : Nat), a_3.le (AA (sB a)).length -> bif qP a_3 a then qT a_3 a /\ (((HR (sB a) a.st a_3).length = (HR (sB a) a.st a_3).length /\ ((0 : Nat) <
 (HR (sB a) a.st a_3).length -> OU)) /\ ((2 : Nat) <= (2 : Nat) /\ (oG -> OU)) /\ (false = true -> oG) /\ Qs a a_3 <= (9223372036854775807 : Nat) /\ Qs a a_3 * (32 : Nat) <=
 (140737488355328 : Nat)) /\ ∃ (a_5 : Nat), (AY /\ nM a a_5 a_3 /\ AS a /\ AV a /\ BU a /\ B6 a_5 a_3 /\ GY a /\ HI a /\ GV a /\ HL a /\ BC /\ HJ a /\
 GW a /\ HF a /\ CB a /\ CD a /\ AY /\ LO /\ a.st = a.st /\ rI /\ a.st = a.st /\ zO /\ nM a a_5 a_3 /\ ∀ (i : Nat), Od i a a_5 -> (UR a a_5 i = bif
 XS i a a_3 then UR a a_3 i else bif XM i a a_3 then a.st else (gD (AA (sB a)) a_3).st) /\ (UB a a_5 i = bif XS i a a_3 then UB a a_3 i else bif XM i a a_3 then (0 : Int)
 else (gD (AA (sB a)) a_3).fl) /\ (WT a a_5 i = bif XS i a a_3 then WT a a_3 i else bif XM i a a_3 then (gD (AA (sB a)) a_3).st else a.st) /\ XB a a_5 i = bif XS i a a_3 then
 XB a a_3 i else bif XM i a a_3 then (gD (AA (sB a)) a_3).fl else (200000 : Int)) /\ a_5.le (AA (sB a)).length /\ A9 a a_5 a_3 else Qi /\ (∃ (a_5 : Nat), (AY /\ LO /\ AY /\
 uT a a_3 /\ (↑(CR (sB a) a.st).length : Int) = (↑(HR (sB a) a.st a_3).length : Int) /\ Oh a_5 /\ GY a /\ HI a /\ GV a /\ HL a /\ BC /\ HJ a /\ GW a /\ HF a /\
 CB a /\ CD a /\ uT a a_3 /\ ∀ (i : Nat), QL i a -> ZD a i = UR a a_3 i /\ ZL a i = UB a a_3 i /\ By a i = WT a a_3 i /\ Dm a i = XB a a_3
 i) /\ RT a_5 a) /\ (∀ (a_5 : Nat), RT a_5 a -> bif decide (dA a_5 a) then (((xJ a_5 /\ dA a_5 a) /\ (ZY a_5).succ.le (CR (sB a) a.st).length) /\ (bQ a a_5 = true ->
 IP a /\ IQ a /\ KP a a_5 = KP a a_5 /\ MC a a_5 = MC a a_5 /\ LI a a_5 = LI a a_5 /\ KJ a a_5 = KJ a a_5 /\ IF a /\ ∀ (g : Gau), IH g
 a -> ((0 : Int) <= KP a a_5 /\ KP a a_5 < LI a a_5 /\ LI a a_5 <= (2000 : Int) /\ (0 : Int) <= MC a a_5 /\ MC a a_5 <= KJ a a_5 /\ KJ a a_5 <= (200000 : Int)) /\
 IY g) /\ bif bif bQ a a_5 then (EZ a).all λ (g : Gau) => BF (ID a a_5) g else false then PO /\ ∃ (a_7 : LnK), (AY /\ dN a_7 /\ AY /\ EA a /\ HX a
 /\ (↑a_7.i : Int) = (↑a_5 : Int) /\ GY a /\ HI a /\ GV a /\ HL a /\ BC /\ HJ a /\ GW a /\ HF a /\ CB a /\ CD a /\ EA a /\ QJ a /\ dN a_7 /\ ∀
 (i : Nat), i < a_7.l.length -> (gD a_7.l i).a0 = KP a a_5 /\ (gD a_7.l i).a1 = MC a a_5 /\ (gD a_7.l i).b0 = LI a a_5 /\ (gD a_7.l i).b1 = KJ a a_5) /\ Yh a_7 a a_5 else ∃ (a_7 : Nat),
 (AY /\ LO /\ AY /\ EA a /\ HX a /\ (↑a_7 : Int) = (↑a_5 : Int) /\ Zj a) /\ aB a_7 a a_5) /\ (∀ (a_7 : Nat), aB a_7 a a_5 -> ∃ (a_9 : Nat), Rr a a_9 a_7 /\
 RT a_9 a /\ FK a a_9 < FK a a_5) /\ bM a a_5 /\ bM a a_5 else oX a) /\ ∀ (a_5 : LnK), Du a_5 a -> bif decide (dU a_5 a) then (((aV a_5 /\ dU a_5 a)
 /\ (cL a_5).succ.le (CR (sB a) a.st).length) /\ (Xb a a_5 = true -> IP a /\ IQ a /\ MA a a_5 = MA a a_5 /\ MF a a_5 = MF a a_5 /\ LP a a_5 = LP a
 a_5 /\ LV a a_5 = LV a a_5 /\ IF a /\ ∀ (g : Gau), IH g a -> ((0 : Int) <= MA a a_5 /\ MA a a_5 < LP a a_5 /\ LP a a_5 <= (2000 : Int) /\ (0 : Int) <= MF a
 a_5 /\ MF a a_5 <= LV a a_5 /\ LV a a_5 <= (200000 : Int)) /\ IY g) /\ bif bif Xb a a_5 then (EZ a).all λ (g : Gau) => BF (IM a a_5) g else false then Uc a_5 /\
 ∃ (a_7 : LnK), (AY /\ Ug a_7 a_5 /\ AY /\ EA a /\ HX a /\ Tz a_7 a_5 /\ GY a /\ HI a /\ GV a /\ HL a /\ BC /\ HJ a /\ GW a /\ HF a
 /\ CB a /\ CD a /\ EA a /\ QJ a /\ Ug a_7 a_5 /\ ∀ (i : Nat), i < a_7.l.length -> ((gD a_7.l i).a0 = bif FJ i a_5 then (gD a_5.l i).a0 else MA a a_5) /\ ((gD a_7.l i).a1 =
 bif FJ i a_5 then (gD a_5.l i).a1 else MF a a_5) /\ ((gD a_7.l i).b0 = bif FJ i a_5 then (gD a_5.l i).b0 else LP a a_5) /\ (gD a_7.l i).b1 = bif FJ i a_5 then (gD a_5.l i).b1 else
 LV a a_5) /\ YT a_7 a a_5 else ∃ (a_7 : LnK), (AY /\ Bj a_7 a_5 /\ AY /\ EA a /\ HX a /\ Tz a_7 a_5 /\ Uw a a_7 a_5) /\ YT a_7 a a_5) /\ (∀ (a_7 :
 Nat), QL a_7 a /\ FK a a_7 = FI a a_5 /\ dM a a_7 -> ∃ (a_9 : Nat), Rr a a_9 a_7 /\ RT a_9 a /\ FK a a_9 < FI a a_5) /\ Tb a a_5 /\ Tb a a_5 else
 (JO (sB a) a.st).length = a_5.l.length /\ Rv a_5 /\ (∀ (j : Nat), j < (JO (sB a) a.st).length -> (gD (JO (sB a) a.st) j).a0 = Wl a_5 j /\ (gD (JO (sB a) a.st) j).a1 = Xv a_5 j /\ (gD (JO (sB
 a) a.st) j).b0 = aY a_5 j /\ (gD (JO (sB a) a.st) j).b1 = Ut a_5 j) /\ uP a
abbrev Rz (a : BkS) : List Gau := AD (Nm a) λ (i : Nat) => TL a i
abbrev SC (a : BkS) : Nat := (Rz a).length
abbrev RH (a : BkS) (i : Nat) : Gau := gD (Rz a) i
abbrev Uv (a : BkS) (i : Nat) : Int := (RH a i).st
abbrev Xa (a : BkS) (i : Nat) : Int := (RH a i).lo
abbrev Va (a : BkS) (i : Nat) : Int := (RH a i).hi
abbrev ZO (a : BkS) : List Gau := AD (SC a) λ (i : Nat) => RH a i
abbrev Az (a : BkS) : Nat := (ZO a).length
abbrev Ax (a : BkS) (i : Nat) : Gau := gD (ZO a) i
abbrev Vs (a : BkS) : List Pt := AA (ZO a)
abbrev Vo (a : BkS) : Nat := (Vs a).length
abbrev We (a : BkS) : Prop := (AA (sB a)).length = Vo a
abbrev bK (a : BkS) (i : Nat) : Pt := gD (Vs a) i
abbrev Wi (a : BkS) : Prop := ∀ (i : Nat), i < (AA (sB a)).length -> (gD (AA (sB a)) i).st = (bK a i).st /\ (gD (AA (sB a)) i).fl = (bK a i).fl
abbrev DK (a : BkS) : Prop := a.w.g.length = a.w.g.length
abbrev DJ (a : BkS) : Prop := ∀ (i : Nat), i < a.w.g.length -> (gD a.w.g i).st = (gD a.w.g i).st /\ (gD a.w.g i).lo = (gD a.w.g i).lo /\ (gD a.w.g i).hi = (gD a.w.g i).hi
abbrev DT (a : BkS) : Prop := a.w.b.length = a.w.b.length
abbrev DM (a : BkS) : Prop := ∀ (i : Nat), i < a.w.b.length -> gD a.w.b i = gD a.w.b i
abbrev DR (a : BkS) : Prop := ∀ (n : Int), (AI a.w n).length = (AI a.w n).length /\ ∀ (i : Nat), nW i a n -> (gD (AI a.w n) i).a0 = (gD (AI a.w n) i).a0 /\ (gD (AI a.w n) i).a1 = (gD (AI a.w n) i).a1 /\
 (gD (AI a.w n) i).b0 = (gD (AI a.w n) i).b0 /\ (gD (AI a.w n) i).b1 = (gD (AI a.w n) i).b1
abbrev PT (a : Nat) (a1 : BkS) : Prop := a <= (AA (sB a1)).length /\ List.filter (JF (sB a1)) (NG (sB a1) a) = []
abbrev Bq (a : LnJ) : Prop := (↑a.j : Int) = (0 : Int)
abbrev QK (a : LnJ) : Prop := a.l.length = (1 : Nat)
abbrev Wt (a : LnJ) (a1 : BkS) : Prop := a.i < (AA (sB a1)).length
abbrev Xs (a : LnJ) (a1 : BkS) : Prop := a.j <= (AA (sB a1)).length
abbrev Yw (a : BkS) (a1 : LnJ) : Nat := (AA (sB a)).length - a1.i
abbrev Ti (a : LnJ) (a1 : BkS) : Prop := a.l = List.filter (JF (sB a1)) (DZ (sB a1) a.i a.j)
abbrev QZ (a : LnJ) (a1 : BkS) (a2 : Nat) : Prop := Wt a a1 /\ Xs a a1 /\ Yw a1 a = MG a1 a2 /\ Ti a a1
abbrev Zr (a : IJ) (a1 : BkS) : Prop := a.i < (AA (sB a1)).length
abbrev Tc (a : IJ) (a1 : BkS) : Prop := a.j <= (AA (sB a1)).length
abbrev bT (a : BkS) (a1 : IJ) : Nat := (AA (sB a)).length - a1.i
abbrev dB (a : BkS) (a1 : IJ) : Prop := List.filter (JF (sB a)) (DZ (sB a) a1.i a1.j) = []
abbrev Am (a : IJ) (a1 : BkS) (a2 : Nat) : Prop := Zr a a1 /\ Tc a a1 /\ bT a1 a = MG a1 a2 /\ dB a1 a
abbrev bZ (a : IJ) (a1 : BkS) : Prop := (↑a.j : Int) < (↑(AA (sB a1)).length : Int)
abbrev Ue (a : IJ) (a1 : BkS) : Bool := decide (bZ a a1)
abbrev cA (a : IJ) (a1 : BkS) : Prop := (0 : Int) <= (↑a.j : Int) /\ bZ a a1
abbrev Ur (a : BkS) (a1 : IJ) : Ln := Ln.mk (gD (AA (sB a)) a1.i).st (gD (AA (sB a)) a1.i).fl (gD (AA (sB a)) a1.j).st (gD (AA (sB a)) a1.j).fl
abbrev dO (a : BkS) (a1 : IJ) : Bool := FT (Ur a a1)
abbrev Sa (a : BkS) (a1 : IJ) : Bool := if true = true then dO a a1 else !dO a a1
abbrev bP (a : BkS) (a1 : IJ) : Prop := IP a /\ IQ a /\ (gD (AA (sB a)) a1.i).st = (gD (AA (sB a)) a1.i).st /\ (gD (AA (sB a)) a1.i).fl = (gD (AA (sB a)) a1.i).fl /\ (gD (AA (sB a))
 a1.j).st = (gD (AA (sB a)) a1.j).st /\ (gD (AA (sB a)) a1.j).fl = (gD (AA (sB a)) a1.j).fl /\ IF a /\ ∀ (g : Gau), IH g a -> ((0 : Int) <= (gD (AA (sB a)) a1.i).st /\ (gD (AA (sB a)) a1.i).st <
 (gD (AA (sB a)) a1.j).st /\ (gD (AA (sB a)) a1.j).st <= (2000 : Int) /\ (0 : Int) <= (gD (AA (sB a)) a1.i).fl /\ (gD (AA (sB a)) a1.i).fl <= (gD (AA (sB a)) a1.j).fl /\ (gD (AA (sB a)) a1.j).fl <= (200000 :
 Int)) /\ IY g
abbrev aM (a : BkS) (a1 : IJ) : Bool := (EZ a).all λ (g : Gau) => BF (Ur a a1) g
abbrev dQ (a : IJ) : Int := IntKind.i64.wrap ((↑a.j : Int) + (1 : Int))
abbrev Ye (a : BkS) (a1 : LnJ) (a2 : IJ) (l : Nat) : Prop := AS a /\ AV a /\ BU a /\ (↑a1.j : Int) = dQ a2 /\ Fn.yield l = Fn.yield l /\ AS a /\ AV a /\ AS a /\ AV
 a /\ BU a /\ (↑a1.i : Int) = (↑a2.i : Int) /\ (gD (AA (sB a)) a1.i).st = (gD (AA (sB a)) a2.i).st /\ (gD (AA (sB a)) a1.i).fl = (gD (AA (sB a)) a2.i).fl /\ DK a /\ DJ a /\ DT a /\
 DM a /\ BC /\ DH a /\ DD a /\ DR a /\ CB a /\ CD a /\ AY /\ QK a1 /\ QK a1 /\ ∀ (i : Nat), i < a1.l.length -> (gD a1.l i).a0 = (gD (AA (sB a)) a2.i).st /\
 (gD a1.l i).a1 = (gD (AA (sB a)) a2.i).fl /\ (gD a1.l i).b0 = (gD (AA (sB a)) a2.j).st /\ (gD a1.l i).b1 = (gD (AA (sB a)) a2.j).fl
abbrev YJ (a : BkS) (a1 : LnJ) : Nat := (AA (sB a)).length - a1.j
abbrev An (a : BkS) (a1 : IJ) : Nat := (AA (sB a)).length - a1.j
abbrev cD (a : BkS) (a1 : LnJ) (a2 : IJ) : Prop := YJ a a1 < An a a2
abbrev YI (a : BkS) : Prop := DK a /\ DJ a /\ DT a /\ DM a /\ BC /\ DH a /\ DD a /\ DR a /\ CB a /\ CD a /\ Qi
abbrev Vm (a : BkS) (a1 : IJ) (a2 : IJ) (l : Nat) : Prop := AS a /\ AV a /\ BU a /\ (↑a1.j : Int) = dQ a2 /\ Fn.yield l = Fn.yield l /\ AS a /\ AV a /\ AS a /\ AV
 a /\ BU a /\ (↑a1.i : Int) = (↑a2.i : Int) /\ (gD (AA (sB a)) a1.i).st = (gD (AA (sB a)) a2.i).st /\ (gD (AA (sB a)) a1.i).fl = (gD (AA (sB a)) a2.i).fl /\ YI a
abbrev aZ (a : BkS) (a1 : IJ) (a2 : IJ) : Prop := An a a1 < An a a2
abbrev Zm (a : BkS) (a1 : IJ) (l : Nat) (a2 : Nat) : Prop := ∃ (a_1 : IJ), Vm a a_1 a1 l /\ Am a_1 a a2 /\ aZ a a_1 a1
abbrev So (l : Nat) (a : BkS) (a1 : Nat) (a2 : IJ) : Prop := Fn.yield l = Fn.yield l /\ AS a /\ AV a /\ AS a /\ AV a /\ BU a /\ (↑a1 : Int) = IntKind.i64.wrap ((↑a2.i : Int) + (1 :
 Int)) /\ YI a
abbrev Vc (a : LnJ) (a1 : BkS) : Prop := (↑a.j : Int) < (↑(AA (sB a1)).length : Int)
abbrev cM (a : LnJ) (a1 : BkS) : Bool := decide (Vc a a1)
abbrev Vr (a : LnJ) (a1 : BkS) : Prop := (0 : Int) <= (↑a.j : Int) /\ Vc a a1
abbrev Wz (a : BkS) (a1 : LnJ) : Ln := Ln.mk (gD (AA (sB a)) a1.i).st (gD (AA (sB a)) a1.i).fl (gD (AA (sB a)) a1.j).st (gD (AA (sB a)) a1.j).fl
abbrev Ws (a : BkS) (a1 : LnJ) : Bool := FT (Wz a a1)
abbrev Vu (a : BkS) (a1 : LnJ) : Bool := if true = true then Ws a a1 else !Ws a a1
abbrev Zx (a : BkS) (a1 : LnJ) : Prop := IP a /\ IQ a /\ (gD (AA (sB a)) a1.i).st = (gD (AA (sB a)) a1.i).st /\ (gD (AA (sB a)) a1.i).fl = (gD (AA (sB a)) a1.i).fl /\ (gD (AA (sB a))
 a1.j).st = (gD (AA (sB a)) a1.j).st /\ (gD (AA (sB a)) a1.j).fl = (gD (AA (sB a)) a1.j).fl /\ IF a /\ ∀ (g : Gau), IH g a -> ((0 : Int) <= (gD (AA (sB a)) a1.i).st /\ (gD (AA (sB a)) a1.i).st <
 (gD (AA (sB a)) a1.j).st /\ (gD (AA (sB a)) a1.j).st <= (2000 : Int) /\ (0 : Int) <= (gD (AA (sB a)) a1.i).fl /\ (gD (AA (sB a)) a1.i).fl <= (gD (AA (sB a)) a1.j).fl /\ (gD (AA (sB a)) a1.j).fl <= (200000 :
 Int)) /\ IY g
abbrev Tt (a : BkS) (a1 : LnJ) : Bool := (EZ a).all λ (g : Gau) => BF (Wz a a1) g
abbrev Ch (a : LnJ) : Nat := a.l.length + (1 : Nat)
abbrev Rx (a : LnJ) : Prop := (a.l.length = a.l.length /\ ((0 : Nat) < a.l.length -> OU)) /\ Av /\ Sq /\ Ch a <= (9223372036854775807 : Nat) /\ Ch a * (32 : Nat) <= (140737488355328
 : Nat)
abbrev aI (a : LnJ) (a1 : LnJ) : Prop := (↑a.j : Int) = IntKind.i64.wrap ((↑a1.j : Int) + (1 : Int))
abbrev cH (a : LnJ) (a1 : LnJ) : Prop := (↑a.i : Int) = (↑a1.i : Int)
abbrev Vv (a : BkS) (a1 : LnJ) (a2 : LnJ) : Prop := (gD (AA (sB a)) a1.i).st = (gD (AA (sB a)) a2.i).st
abbrev Xd (a : BkS) (a1 : LnJ) (a2 : LnJ) : Prop := (gD (AA (sB a)) a1.i).fl = (gD (AA (sB a)) a2.i).fl
abbrev Sh (a : LnJ) (a1 : LnJ) : Prop := a.l.length = Ch a1
abbrev RG (i : Nat) (a : LnJ) : Bool := decide (i < a.l.length)
abbrev Wq (a : BkS) (a1 : LnJ) (a2 : LnJ) (l : Nat) : Prop := AS a /\ AV a /\ BU a /\ aI a1 a2 /\ Fn.yield l = Fn.yield l /\ AS a /\ AV a /\ AS a /\ AV a /\
 BU a /\ cH a1 a2 /\ Vv a a1 a2 /\ Xd a a1 a2 /\ DK a /\ DJ a /\ DT a /\ DM a /\ BC /\ DH a /\ DD a /\ DR a /\ CB a /\ CD a /\
 AY /\ Sh a1 a2 /\ Sh a1 a2 /\ ∀ (i : Nat), i < a1.l.length -> ((gD a1.l i).a0 = bif RG i a2 then (gD a2.l i).a0 else (gD (AA (sB a)) a2.i).st) /\ ((gD a1.l i).a1 = bif RG i a2 then
 (gD a2.l i).a1 else (gD (AA (sB a)) a2.i).fl) /\ ((gD a1.l i).b0 = bif RG i a2 then (gD a2.l i).b0 else (gD (AA (sB a)) a2.j).st) /\ (gD a1.l i).b1 = bif RG i a2 then (gD a2.l i).b1 else (gD (AA
 (sB a)) a2.j).fl
abbrev Ym (a : BkS) (a1 : LnJ) (a2 : LnJ) : Prop := YJ a a1 < YJ a a2
abbrev Vt (a : LnJ) (a1 : BkS) (a2 : Nat) (a3 : LnJ) : Prop := QZ a a1 a2 /\ Ym a1 a a3
abbrev Td (a : LnJ) (a1 : LnJ) : Prop := a.l.length = a1.l.length
abbrev dC (a : BkS) (a1 : LnJ) (a2 : LnJ) (l : Nat) : Prop := AS a /\ AV a /\ BU a /\ aI a1 a2 /\ Fn.yield l = Fn.yield l /\ AS a /\ AV a /\ AS a /\ AV a /\
 BU a /\ cH a1 a2 /\ Vv a a1 a2 /\ Xd a a1 a2 /\ DK a /\ DJ a /\ DT a /\ DM a /\ BC /\ DH a /\ DD a /\ DR a /\ CB a /\ CD a /\
 AY /\ Td a1 a2 /\ Td a1 a2 /\ ∀ (i : Nat), i < a1.l.length -> (gD a1.l i).a0 = (gD a2.l i).a0 /\ (gD a1.l i).a1 = (gD a2.l i).a1 /\ (gD a1.l i).b0 = (gD a2.l i).b0 /\ (gD a1.l i).b1 = (gD a2.l i).b1
abbrev Uq (a : BkS) (a1 : LnJ) (l : Nat) (a2 : Nat) : Prop := ∃ (a_1 : LnJ), dC a a_1 a1 l /\ Vt a_1 a a2 a1
abbrev bW (a : LnK) (a1 : LnJ) : Prop := a.l.length = a1.l.length
abbrev cF (l : Nat) (a : BkS) (a1 : LnK) (a2 : LnJ) : Prop := Fn.yield l = Fn.yield l /\ AS a /\ AV a /\ AS a /\ AV a /\ BU a /\ (↑a1.i : Int) = IntKind.i64.wrap ((↑a2.i : Int) + (1 :
 Int)) /\ DK a /\ DJ a /\ DT a /\ DM a /\ BC /\ DH a /\ DD a /\ DR a /\ CB a /\ CD a /\ AY /\ bW a1 a2 /\ bW a1 a2 /\ ∀ (i : Nat), i <
 a1.l.length -> (gD a1.l i).a0 = (gD a2.l i).a0 /\ (gD a1.l i).a1 = (gD a2.l i).a1 /\ (gD a1.l i).b0 = (gD a2.l i).b0 /\ (gD a1.l i).b1 = (gD a2.l i).b1
abbrev Ad (a : LnK) (a1 : BkS) : Prop := a.i <= (AA (sB a1)).length /\ a.l = List.filter (JF (sB a1)) (NG (sB a1) a.i)
abbrev HW (a : BkS) (a1 : LnK) : Nat := (AA (sB a)).length - a1.i
abbrev Tj (a : BkS) (a1 : Nat) (l : Nat) : Prop := ∀ (a_1 : LnJ), QZ a_1 a a1 -> bif cM a_1 a then Vr a_1 a /\ bif Vu a a_1 then l = l /\ Zx a a_1 /\ bif Tt a a_1 then
 Rx a_1 /\ ∃ (a_3 : LnJ), Wq a a_3 a_1 l /\ Vt a_3 a a1 a_1 else Uq a a_1 l a1 else Uq a a_1 l a1 else ∃ (a_3 : LnK), cF l a a_3 a_1 /\ Ad a_3 a /\ HW a a_3 <
 MG a a1
abbrev bN (a : BkS) (a1 : Nat) (l : Nat) : Prop := (∀ (a_1 : IJ), Am a_1 a a1 -> bif Ue a_1 a then cA a_1 a /\ bif Sa a a_1 then l = l /\ bP a a_1 /\ bif aM a a_1 then
 PO /\ ∃ (a_3 : LnJ), Ye a a_3 a_1 l /\ QZ a_3 a a1 /\ cD a a_3 a_1 else Zm a a_1 l a1 else Zm a a_1 l a1 else ∃ (a_3 : Nat), So l a a_3 a_1 /\ PT a_3 a /\
 A9 a a_3 a1) /\ Tj a a1 l /\ Tj a a1 l
abbrev Wa (a : BkS) : Prop := (EU (sB a)).length = (0 : Nat)
abbrev dX (a : LnK) (a1 : BkS) : Prop := (↑a.i : Int) < (↑(AA (sB a1)).length : Int)
abbrev LC (a : BkS) (a1 : LnK) : Int := (AM (gD (AA (sB a)) a1.i)).a0
abbrev MH (a : BkS) (a1 : LnK) : Int := (AM (gD (AA (sB a)) a1.i)).a1
abbrev LZ (a : BkS) (a1 : LnK) : Int := (AM (gD (AA (sB a)) a1.i)).b0
abbrev LR (a : BkS) (a1 : LnK) : Int := (AM (gD (AA (sB a)) a1.i)).b1
abbrev Xq (a : LnJ) (a1 : LnK) : Prop := (↑a.i : Int) = (↑a1.i : Int)
abbrev Ry (a : BkS) (a1 : LnJ) (a2 : LnK) : Prop := (gD (AA (sB a)) a1.i).st = (gD (AA (sB a)) a2.i).st
abbrev Xj (a : BkS) (a1 : LnJ) (a2 : LnK) : Prop := (gD (AA (sB a)) a1.i).fl = (gD (AA (sB a)) a2.i).fl
abbrev Zs (a : LnJ) (a1 : LnK) : Prop := a.l.length = RD a1
abbrev LT (a : LnJ) (a1 : BkS) (a2 : LnK) : Prop := Wt a a1 /\ Xs a a1 /\ Yw a1 a = HW a1 a2 /\ Ti a a1
abbrev Rs (a : IJ) (a1 : BkS) (a2 : LnK) : Prop := Zr a a1 /\ Tc a a1 /\ bT a1 a = HW a1 a2 /\ dB a1 a
abbrev Xi (a : BkS) (a1 : IJ) (l : Nat) (a2 : LnK) : Prop := ∃ (a_1 : IJ), Vm a a_1 a1 l /\ Rs a_1 a a2 /\ aZ a a_1 a1
abbrev cB (a : LnJ) (a1 : BkS) (a2 : LnK) (a3 : LnJ) : Prop := LT a a1 a2 /\ Ym a1 a a3
abbrev Tu (a : BkS) (a1 : LnJ) (l : Nat) (a2 : LnK) : Prop := ∃ (a_1 : LnJ), dC a a_1 a1 l /\ cB a_1 a a2 a1
abbrev Sr (a : BkS) (a1 : LnK) (l : Nat) : Prop := ∀ (a_1 : LnJ), LT a_1 a a1 -> bif cM a_1 a then Vr a_1 a /\ bif Vu a a_1 then l = l /\ Zx a a_1 /\ bif Tt a a_1 then
 Rx a_1 /\ ∃ (a_3 : LnJ), Wq a a_3 a_1 l /\ cB a_3 a a1 a_1 else Tu a a_1 l a1 else Tu a a_1 l a1 else ∃ (a_3 : LnK), cF l a a_3 a_1 /\ Ad a_3 a /\ HW a a_3 <
 HW a a1
abbrev Vl (a : BkS) (a1 : LnK) (l : Nat) : Prop := (∀ (a_1 : IJ), Rs a_1 a a1 -> bif Ue a_1 a then cA a_1 a /\ bif Sa a a_1 then l = l /\ bP a a_1 /\ bif aM a a_1 then
 PO /\ ∃ (a_3 : LnJ), Ye a a_3 a_1 l /\ LT a_3 a a1 /\ cD a a_3 a_1 else Xi a a_1 l a1 else Xi a a_1 l a1 else ∃ (a_3 : Nat), So l a a_3 a_1 /\ PT a_3 a /\
 MG a a_3 < HW a a1) /\ Sr a a1 l /\ Sr a a1 l
abbrev Uy (a : LnJ) (a1 : LnK) : Prop := a.l.length = a1.l.length
abbrev MP (n : Int) (a : BkS) : Bool := decide (n = a.k)
abbrev Zp (a : BkS) : Prop := ∀ (a_1 : One), True -> ∃ (a_3 : One), (a.st = a.st /\ qF a /\ wD a /\ oU a /\ sP a /\ BC /\ (∀ (n : Int), (BY a.w a.k).has n = FX a.w.has a.k n) /\ (∀
 (n : Int), (BY a.w a.k).st n = Ra a.w.has a.w.st a.k n) /\ (∀ (n : Int), ((AI (BY a.w a.k) n).length = bif MP n a then (EU (sB a)).length else (AI a.w n).length) /\ ∀ (i : Nat), Ps i a n -> (WY
 a n i = bif MP n a then (gD (EU (sB a)) i).a0 else (gD (AI a.w n) i).a0) /\ (TS a n i = bif MP n a then (gD (EU (sB a)) i).a1 else (gD (AI a.w n) i).a1) /\ (VB a n i = bif MP n a
 then (gD (EU (sB a)) i).b0 else (gD (AI a.w n) i).b0) /\ VF a n i = bif MP n a then (gD (EU (sB a)) i).b1 else (gD (AI a.w n) i).b1) /\ CB a /\ CD a /\ (0 : Nat) = (EU (sB a)).length /\
 AY) /\ True
theorem BOY (a : BkS) : (BEL a) = ((a.k = a.k /\ Kj a = a.w.g.length /\ (∀ (i : Nat), i < Kj a -> AAM a i = (gD a.w.g i).st /\ ADJ a i = (gD a.w.g i).lo /\ ABV a i = (gD a.w.g i).hi) /\
 Gw a = a.w.b.length /\ (∀ (i : Nat), i < Gw a -> Z4 a i = gD a.w.b i) /\ BC /\ DH a /\ DD a /\ (∀ (n : Int), Ni a n = (AI a.w n).length /\ ∀ (i : Nat), i < Ni a n ->
 rE a n i = (gD (AI a.w n) i).a0 /\ nU a n i = (gD (AI a.w n) i).a1 /\ yU a n i = (gD (AI a.w n) i).b0 /\ rK a n i = (gD (AI a.w n) i).b1) /\ a.w.g.length = Kj a /\ (∀ (i : Nat), i <
 a.w.g.length -> (gD a.w.g i).st = AAM a i /\ (gD a.w.g i).lo = ADJ a i /\ (gD a.w.g i).hi = ABV a i) /\ a.w.b.length = Gw a /\ (∀ (i : Nat), i < a.w.b.length -> gD a.w.b i = Z4 a i) /\ BC /\
 DH a /\ DD a /\ (∀ (n : Int), (AI a.w n).length = Ni a n /\ ∀ (i : Nat), nW i a n -> (gD (AI a.w n) i).a0 = rE a n i /\ (gD (AI a.w n) i).a1 = nU a n i /\ (gD (AI a.w n) i).b0 =
 yU a n i /\ (gD (AI a.w n) i).b1 = rK a n i) /\ (Kj a <= (24 : Nat) /\ (∀ (x : Gau), List.Mem x (Hq a) -> IY x) /\ Gw a <= (24 : Nat) /\ List.Pairwise (λ (x1 x2 : Int) => x1 < x2)
 (VI a) /\ ∀ (x : Int), List.Mem x (VI a) -> (1 : Int) <= x /\ x <= (2000 : Int)) /\ True) /\ BC /\ bif a.w.has a.k then (∃ (a_1 : One), (a.st = a.st /\ qF a /\ wD a /\ oU a /\ sP a /\
 BC /\ (∀ (n : Int), (BY a.w a.k).has n = a.w.has n) /\ (∀ (n : Int), (BY a.w a.k).st n = a.w.st n) /\ (∀ (n : Int), (AI (BY a.w a.k) n).length = (AI a.w n).length /\ ∀ (i : Nat), Ps i a n -> WY a n i
 = (gD (AI a.w n) i).a0 /\ TS a n i = (gD (AI a.w n) i).a1 /\ VB a n i = (gD (AI a.w n) i).b0 /\ VF a n i = (gD (AI a.w n) i).b1) /\ uI a /\ xN a /\ (0 : Nat) = (AI a.w a.k).length /\
 AY) /\ True) /\ Zw a else (((SC a = Nm a /\ ∀ (i : Nat), i < SC a -> Uv a i = qW a i /\ Xa a i = oI a i /\ Va a i = vB a i) /\ ∀ (l : Nat),
 (Az a = SC a /\ (∀ (i : Nat), i < Az a -> (Ax a i).st = Uv a i /\ (Ax a i).lo = Xa a i /\ (Ax a i).hi = Va a i) /\ Az a < (1073741824 : Nat) /\
 True) /\ (∃ (a_1 : Nat), (Fn.yield l = Fn.yield l /\ We a /\ Wi a /\ We a /\ Wi a /\ (↑(AA (sB a)).length : Int) = (↑(Vo a) : Int) /\ Oh a_1 /\ DK a /\ DJ a /\
 DT a /\ DM a /\ BC /\ DH a /\ DD a /\ DR a /\ uI a /\ xN a /\ Qi) /\ PT a_1 a) /\ (∀ (a_1 : Nat), PT a_1 a -> bif qP a_1 a then qT a_1
 a /\ ((0 : Int) <= (gD (AA (sB a)) a_1).st /\ (gD (AA (sB a)) a_1).st <= (2000 : Int)) /\ l = l /\ (IP a /\ IQ a /\ (AM (gD (AA (sB a)) a_1)).a0 = (AM (gD (AA (sB a)) a_1)).a0 /\ (AM (gD (AA (sB
 a)) a_1)).a1 = (AM (gD (AA (sB a)) a_1)).a1 /\ (AM (gD (AA (sB a)) a_1)).b0 = (AM (gD (AA (sB a)) a_1)).b0 /\ (AM (gD (AA (sB a)) a_1)).b1 = (AM (gD (AA (sB a)) a_1)).b1 /\ IF a /\ ∀ (g :
 Gau), IH g a -> ((0 : Int) <= (AM (gD (AA (sB a)) a_1)).a0 /\ (AM (gD (AA (sB a)) a_1)).a0 < (AM (gD (AA (sB a)) a_1)).b0 /\ (AM (gD (AA (sB a)) a_1)).b0 <= (2000 : Int) /\ (0 : Int) <= (AM (gD
 (AA (sB a)) a_1)).a1 /\ (AM (gD (AA (sB a)) a_1)).a1 <= (AM (gD (AA (sB a)) a_1)).b1 /\ (AM (gD (AA (sB a)) a_1)).b1 <= (200000 : Int)) /\ IY g) /\ bif (EZ a).all λ (g : Gau) => BF (AM
 (gD (AA (sB a)) a_1)) g then PO /\ (∃ (a_3 : LnJ), (AS a /\ AV a /\ BU a /\ Bq a_3 /\ Fn.yield l = Fn.yield l /\ AS a /\ AV a /\ AS a /\ AV a /\ BU a /\
 (↑a_3.i : Int) = (↑a_1 : Int) /\ (gD (AA (sB a)) a_3.i).st = (gD (AA (sB a)) a_1).st /\ (gD (AA (sB a)) a_3.i).fl = (gD (AA (sB a)) a_1).fl /\ DK a /\ DJ a /\ DT a /\ DM a /\
 BC /\ DH a /\ DD a /\ DR a /\ CB a /\ CD a /\ AY /\ QK a_3 /\ QK a_3 /\ ∀ (i : Nat), i < a_3.l.length -> (gD a_3.l i).a0 = (AM (gD (AA (sB a)) a_1)).a0 /\ (gD
 a_3.l i).a1 = (AM (gD (AA (sB a)) a_1)).a1 /\ (gD a_3.l i).b0 = (AM (gD (AA (sB a)) a_1)).b0 /\ (gD a_3.l i).b1 = (AM (gD (AA (sB a)) a_1)).b1) /\ QZ a_3 a a_1) /\ bN a a_1 l else (∃ (a_3 :
 IJ), (AS a /\ AV a /\ BU a /\ (↑a_3.j : Int) = (0 : Int) /\ Fn.yield l = Fn.yield l /\ AS a /\ AV a /\ AS a /\ AV a /\ BU a /\ (↑a_3.i : Int) = (↑a_1 : Int) /\ (gD (AA (sB
 a)) a_3.i).st = (gD (AA (sB a)) a_1).st /\ (gD (AA (sB a)) a_3.i).fl = (gD (AA (sB a)) a_1).fl /\ YI a) /\ Am a_3 a a_1) /\ bN a a_1 l else ∃ (a_3 : One), (a.k = a.k /\ a.st = a.st /\
 DK a /\ DJ a /\ DT a /\ DM a /\ BC /\ DH a /\ DD a /\ DR a /\ CB a /\ CD a /\ Wa a /\ Wa a) /\ True) /\ ∀ (a_1 : LnK), Ad a_1 a -> bif
 decide (dX a_1 a) then (aV a_1 /\ dX a_1 a) /\ ((0 : Int) <= (gD (AA (sB a)) a_1.i).st /\ (gD (AA (sB a)) a_1.i).st <= (2000 : Int)) /\ l = l /\ (IP a /\ IQ a /\ LC a a_1 =
 LC a a_1 /\ MH a a_1 = MH a a_1 /\ LZ a a_1 = LZ a a_1 /\ LR a a_1 = LR a a_1 /\ IF a /\ ∀ (g : Gau), IH g a -> ((0 : Int) <= LC a a_1 /\ LC
 a a_1 < LZ a a_1 /\ LZ a a_1 <= (2000 : Int) /\ (0 : Int) <= MH a a_1 /\ MH a a_1 <= LR a a_1 /\ LR a a_1 <= (200000 : Int)) /\ IY g) /\ bif (EZ a).all λ (g : Gau) =>
 BF (AM (gD (AA (sB a)) a_1.i)) g then Uc a_1 /\ (∃ (a_3 : LnJ), (AS a /\ AV a /\ BU a /\ Bq a_3 /\ Fn.yield l = Fn.yield l /\ AS a /\ AV a /\ AS a /\ AV a /\
 BU a /\ Xq a_3 a_1 /\ Ry a a_3 a_1 /\ Xj a a_3 a_1 /\ DK a /\ DJ a /\ DT a /\ DM a /\ BC /\ DH a /\ DD a /\ DR a /\ CB a /\ CD
 a /\ AY /\ Zs a_3 a_1 /\ Zs a_3 a_1 /\ ∀ (i : Nat), i < a_3.l.length -> ((gD a_3.l i).a0 = bif FJ i a_1 then (gD a_1.l i).a0 else LC a a_1) /\ ((gD a_3.l i).a1 = bif FJ i a_1 then
 (gD a_1.l i).a1 else MH a a_1) /\ ((gD a_3.l i).b0 = bif FJ i a_1 then (gD a_1.l i).b0 else LZ a a_1) /\ (gD a_3.l i).b1 = bif FJ i a_1 then (gD a_1.l i).b1 else LR a a_1) /\
 LT a_3 a a_1) /\ Vl a a_1 l else (∃ (a_3 : LnJ), (AS a /\ AV a /\ BU a /\ Bq a_3 /\ Fn.yield l = Fn.yield l /\ AS a /\ AV a /\ AS a /\ AV a /\ BU a /\
 Xq a_3 a_1 /\ Ry a a_3 a_1 /\ Xj a a_3 a_1 /\ DK a /\ DJ a /\ DT a /\ DM a /\ BC /\ DH a /\ DD a /\ DR a /\ CB a /\ CD a /\ AY
 /\ Uy a_3 a_1 /\ Uy a_3 a_1 /\ ∀ (i : Nat), i < a_3.l.length -> (gD a_3.l i).a0 = (gD a_1.l i).a0 /\ (gD a_3.l i).a1 = (gD a_1.l i).a1 /\ (gD a_3.l i).b0 = (gD a_1.l i).b0 /\ (gD a_3.l i).b1 = (gD a_1.l i).b1) /\
 LT a_3 a a_1) /\ Vl a a_1 l else ∃ (a_3 : One), (a.k = a.k /\ a.st = a.st /\ DK a /\ DJ a /\ DT a /\ DM a /\ BC /\ DH a /\ DD a /\ DR a /\ CB a /\
 CD a /\ (EU (sB a)).length = a_1.l.length /\ Rv a_1 /\ ∀ (j : Nat), j < (EU (sB a)).length -> (gD (EU (sB a)) j).a0 = Wl a_1 j /\ (gD (EU (sB a)) j).a1 = Xv a_1 j /\ (gD (EU (sB a)) j).b0 =
 aY a_1 j /\ (gD (EU (sB a)) j).b1 = Ut a_1 j) /\ True) /\ Zp a /\ Zp a) /\ Zw a) := by kernel_rfl
theorem JI (w : Bk) : Bk.mk w.g w.b w.has w.st = w := rfl
theorem ATR (l : List Ln) (p : Ln) (i : Nat) (hi : i < (l ++ [p]).length) : ((gD (l ++ [p]) i).a0 = bif decide (i < l.length) then (gD l i).a0 else p.a0) /\ ((gD (l ++ [p]) i).a1 = bif decide (i < l.length) then (gD l i).a1 else p.a1) /\ ((gD (l ++ [p]) i).b0 = bif decide (i < l.length) then (gD l i).b0 else p.b0) /\ (gD (l ++ [p]) i).b1 = bif decide (i < l.length) then (gD l i).b1 else p.b1 := by
 rw [eG _ _ (by simpa using hi)]
 cases decide (i < l.length) <;> exact ⟨rfl, rfl, rfl, rfl⟩
theorem oneL (p : Ln) (i : Nat) (hi : i < [p].length) : (gD [p] i).a0 = p.a0 /\ (gD [p] i).a1 = p.a1 /\ (gD [p] i).b0 = p.b0 /\ (gD [p] i).b1 = p.b1 := by
 have : i = 0 := by have hj : i < 1 := hi; omega
 subst this; exact ⟨rfl, rfl, rfl, rfl⟩
theorem BEY {s : List Gau} {i j : Nat} (h : j < (AA s).length) (h1 : FT (J2 (gD (AA s) i) (gD (AA s) j)) = true) (h2 : JF s (J2 (gD (AA s) i) (gD (AA s) j)) = true) : (DZ s i (j + 1)).filter (JF s) = (DZ s i j).filter (JF s) ++ [J2 (gD (AA s) i) (gD (AA s) j)] := by
 rw [PD h, if_pos h1, List.filter_append, List.filter_cons_of_pos h2]; rfl
theorem BLU {s : List Gau} {i j : Nat} (h : j < (AA s).length) (h1 : FT (J2 (gD (AA s) i) (gD (AA s) j)) = true) (h2 : JF s (J2 (gD (AA s) i) (gD (AA s) j)) = false) : (DZ s i (j + 1)).filter (JF s) = (DZ s i j).filter (JF s) := by
 rw [PD h, if_pos h1, List.filter_append, List.filter_cons_of_neg (by rw [h2]; simp)]; simp
theorem AZP {s : List Gau} {i j : Nat} (h : j < (AA s).length) (h1 : FT (J2 (gD (AA s) i) (gD (AA s) j)) = false) : (DZ s i (j + 1)).filter (JF s) = (DZ s i j).filter (JF s) := by
 rw [PD h, if_neg (by rw [h1]; simp), List.append_nil]
theorem eN {s : List Gau} {i : Nat} : (DZ s i 0).filter (JF s) = (NG s i).filter (JF s) ++ if JF s (AM (gD (AA s) i)) = true then [AM (gD (AA s) i)] else [] := by
 unfold DZ
 rw [List.filter_append]
 congr 1
 simp [List.filter_cons]
theorem AOU {s : List Gau} {i j : Nat} (hN : (AA s).length <= 48) : ((DZ s i j).filter (JF s)).length <= 10000 := by
 refine Nat.le_trans (List.length_filter_le _ _) ?_
 have h1 : ∀ a : Pt, (blk (AA s) a).length <= 49 := λ a => by
  unfold blk
  have := List.length_filter_le FT ((AA s).map (J2 a))
  simp only [List.length_cons, List.length_map] at *; omega
 have h2 : ∀ l : List Pt, l.length <= 48 -> (l.flatMap (blk (AA s))).length <= l.length * 49 := λ l _ => by
  induction l with
  | nil => simp
  | cons a l ih =>
   rw [List.flatMap_cons, List.length_append, List.length_cons]
   have := h1 a; have := ih (by simp at *; omega); omega
 unfold DZ NG
 have h3 := h2 ((AA s).take i) (by simp; omega)
 have h4 := List.length_filter_le FT (((AA s).take j).map (J2 (gD (AA s) i)))
 simp only [List.length_append, List.length_cons, List.length_map, List.length_take] at *
 omega
theorem AOH {s : List Gau} {q : Nat} (hs : s.length <= 24) (hN : (AA s).length <= 48) (hg : ∀ g ∈ s, Dd g) (x : IJ) (hx : x.i < (AA s).length /\ x.j <= (AA s).length /\ (AA s).length - x.i = q /\ (DZ s x.i x.j).filter (JF s) = []) :
  ((x.j : Int) < (AA s).length -> (0 <= (x.j : Int) /\ (x.j : Int) < (AA s).length) /\ (FT ⟨(gD (AA s) x.i).st, (gD (AA s) x.i).fl, (gD (AA s) x.j).st, (gD (AA s) x.j).fl⟩ = true -> (s.length < 4611686018427387904 /\ ∀ g : Gau, List.Mem g s -> HY ⟨(gD (AA s) x.i).st, (gD (AA s) x.i).fl, (gD (AA s) x.j).st, (gD (AA s) x.j).fl⟩ /\ Dd g) /\ ((s.all λ g => BF ⟨(gD (AA s) x.i).st, (gD (AA s) x.i).fl, (gD (AA s) x.j).st, (gD (AA s) x.j).fl⟩ g) = true -> ((0 < 0 -> 0 = 4) /\ 0 < 1 /\ 0 < 1 /\ 0 < 9223372036854775807 /\ 31 < 140737488355328) /\ ∃ y : LnJ, ((y.j : Int) = IntKind.i64.wrap ((x.j : Int) + 1) /\ (y.i : Int) = x.i /\ (gD (AA s) y.i).st = (gD (AA s) x.i).st /\ (gD (AA s) y.i).fl = (gD (AA s) x.i).fl /\ y.l.length = 1 /\ y.l.length = 1 /\ ∀ i : Nat, i < y.l.length -> (gD y.l i).a0 = (gD (AA s) x.i).st /\ (gD y.l i).a1 = (gD (AA s) x.i).fl /\ (gD y.l i).b0 = (gD (AA s) x.j).st /\ (gD y.l i).b1 = (gD (AA s) x.j).fl) /\ (y.i < (AA s).length /\ y.j <= (AA s).length /\ (AA s).length - y.i = q /\ y.l = (DZ s y.i y.j).filter (JF s)) /\ (AA s).length - y.j < (AA s).length - x.j) /\ ((s.all λ g => BF ⟨(gD (AA s) x.i).st, (gD (AA s) x.i).fl, (gD (AA s) x.j).st, (gD (AA s) x.j).fl⟩ g) = false -> ∃ y : IJ, ((y.j : Int) = IntKind.i64.wrap ((x.j : Int) + 1) /\ (y.i : Int) = x.i /\ (gD (AA s) y.i).st = (gD (AA s) x.i).st /\ (gD (AA s) y.i).fl = (gD (AA s) x.i).fl) /\ (y.i < (AA s).length /\ y.j <= (AA s).length /\ (AA s).length - y.i = q /\ (DZ s y.i y.j).filter (JF s) = []) /\ (AA s).length - y.j < (AA s).length - x.j)) /\ (FT ⟨(gD (AA s) x.i).st, (gD (AA s) x.i).fl, (gD (AA s) x.j).st, (gD (AA s) x.j).fl⟩ = false -> ∃ y : IJ, ((y.j : Int) = IntKind.i64.wrap ((x.j : Int) + 1) /\ (y.i : Int) = x.i /\ (gD (AA s) y.i).st = (gD (AA s) x.i).st /\ (gD (AA s) y.i).fl = (gD (AA s) x.i).fl) /\ (y.i < (AA s).length /\ y.j <= (AA s).length /\ (AA s).length - y.i = q /\ (DZ s y.i y.j).filter (JF s) = []) /\ (AA s).length - y.j < (AA s).length - x.j)) /\ (¬(x.j : Int) < (AA s).length -> ∃ y : Nat, (y : Int) = IntKind.i64.wrap ((x.i : Int) + 1) /\ (y <= (AA s).length /\ (NG s y).filter (JF s) = []) /\ (AA s).length - y < q) := by
 obtain ⟨h1, h2, h3, h4⟩ := hx
 refine ⟨λ hj => ?_, λ hj => ⟨x.i + 1, (BH (by omega)).symm, ⟨by omega, ?_⟩, by omega⟩⟩
 ·have hj' : x.j < (AA s).length := Int.ofNat_lt.1 hj
  have step : (DZ s x.i (x.j + 1)).filter (JF s) = [] -> ∃ y : IJ, ((y.j : Int) = IntKind.i64.wrap ((x.j : Int) + 1) /\ (y.i : Int) = x.i /\ (gD (AA s) y.i).st = (gD (AA s) x.i).st /\ (gD (AA s) y.i).fl = (gD (AA s) x.i).fl) /\ (y.i < (AA s).length /\ y.j <= (AA s).length /\ (AA s).length - y.i = q /\ (DZ s y.i y.j).filter (JF s) = []) /\ (AA s).length - y.j < (AA s).length - x.j := λ h => ⟨⟨x.i, x.j + 1⟩, ⟨(BH (by omega)).symm, rfl, rfl, rfl⟩, ⟨h1, hj', h3, h⟩, by show (AA s).length - (x.j + 1) < _; omega⟩
  refine ⟨⟨by omega, hj⟩, λ hr => ⟨⟨by omega, λ g hgs => ⟨Gy.1 hr, hg g hgs⟩⟩, λ hp => ⟨⟨by omega, by omega, by omega, by omega, by omega⟩, ⟨x.i, x.j + 1, [J2 (gD (AA s) x.i) (gD (AA s) x.j)]⟩, ⟨(BH (by omega)).symm, rfl, rfl, rfl, rfl, rfl, oneL _⟩, ⟨h1, hj', h3, ?_⟩, by show (AA s).length - (x.j + 1) < _; omega⟩, λ hp => step ?_⟩, λ hr => step ?_⟩
  ·show _ = (DZ s x.i (x.j + 1)).filter (JF s)
   rw [BEY hj' hr hp, h4]; rfl
  ·rw [BLU hj' hr hp, h4]
  ·rw [AZP hj' hr, h4]
 ·have : x.j = (AA s).length := by omega
  rw [this] at h4; rw [<- Kd h1]; exact h4
theorem AQI {s : List Gau} {q : Nat} (hs : s.length <= 24) (hN : (AA s).length <= 48) (hg : ∀ g ∈ s, Dd g) (x : LnJ) (hx : x.i < (AA s).length /\ x.j <= (AA s).length /\ (AA s).length - x.i = q /\ x.l = (DZ s x.i x.j).filter (JF s)) :
  ((x.j : Int) < (AA s).length -> (0 <= (x.j : Int) /\ (x.j : Int) < (AA s).length) /\ (FT ⟨(gD (AA s) x.i).st, (gD (AA s) x.i).fl, (gD (AA s) x.j).st, (gD (AA s) x.j).fl⟩ = true -> (s.length < 4611686018427387904 /\ ∀ g : Gau, List.Mem g s -> HY ⟨(gD (AA s) x.i).st, (gD (AA s) x.i).fl, (gD (AA s) x.j).st, (gD (AA s) x.j).fl⟩ /\ Dd g) /\ ((s.all λ g => BF ⟨(gD (AA s) x.i).st, (gD (AA s) x.i).fl, (gD (AA s) x.j).st, (gD (AA s) x.j).fl⟩ g) = true -> (0 < 1 /\ (false = true -> 0 < 1) /\ x.l.length < 9223372036854775807 /\ (x.l.length + 1) * 32 <= 140737488355328) /\ ∃ y : LnJ, ((y.j : Int) = IntKind.i64.wrap ((x.j : Int) + 1) /\ (y.i : Int) = x.i /\ (gD (AA s) y.i).st = (gD (AA s) x.i).st /\ (gD (AA s) y.i).fl = (gD (AA s) x.i).fl /\ y.l.length = x.l.length + 1 /\ y.l.length = x.l.length + 1 /\ ∀ i : Nat, i < y.l.length -> ((gD y.l i).a0 = bif decide (i < x.l.length) then (gD x.l i).a0 else (gD (AA s) x.i).st) /\ ((gD y.l i).a1 = bif decide (i < x.l.length) then (gD x.l i).a1 else (gD (AA s) x.i).fl) /\ ((gD y.l i).b0 = bif decide (i < x.l.length) then (gD x.l i).b0 else (gD (AA s) x.j).st) /\ (gD y.l i).b1 = bif decide (i < x.l.length) then (gD x.l i).b1 else (gD (AA s) x.j).fl) /\ (y.i < (AA s).length /\ y.j <= (AA s).length /\ (AA s).length - y.i = q /\ y.l = (DZ s y.i y.j).filter (JF s)) /\ (AA s).length - y.j < (AA s).length - x.j) /\ ((s.all λ g => BF ⟨(gD (AA s) x.i).st, (gD (AA s) x.i).fl, (gD (AA s) x.j).st, (gD (AA s) x.j).fl⟩ g) = false -> (∃ y : LnJ, ((y.j : Int) = IntKind.i64.wrap ((x.j : Int) + 1) /\ (y.i : Int) = x.i /\ (gD (AA s) y.i).st = (gD (AA s) x.i).st /\ (gD (AA s) y.i).fl = (gD (AA s) x.i).fl /\ y.l.length = x.l.length /\ y.l.length = x.l.length /\ ∀ i : Nat, i < y.l.length -> (gD y.l i).a0 = (gD x.l i).a0 /\ (gD y.l i).a1 = (gD x.l i).a1 /\ (gD y.l i).b0 = (gD x.l i).b0 /\ (gD y.l i).b1 = (gD x.l i).b1) /\ (y.i < (AA s).length /\ y.j <= (AA s).length /\ (AA s).length - y.i = q /\ y.l = (DZ s y.i y.j).filter (JF s)) /\ (AA s).length - y.j < (AA s).length - x.j))) /\ (FT ⟨(gD (AA s) x.i).st, (gD (AA s) x.i).fl, (gD (AA s) x.j).st, (gD (AA s) x.j).fl⟩ = false -> (∃ y : LnJ, ((y.j : Int) = IntKind.i64.wrap ((x.j : Int) + 1) /\ (y.i : Int) = x.i /\ (gD (AA s) y.i).st = (gD (AA s) x.i).st /\ (gD (AA s) y.i).fl = (gD (AA s) x.i).fl /\ y.l.length = x.l.length /\ y.l.length = x.l.length /\ ∀ i : Nat, i < y.l.length -> (gD y.l i).a0 = (gD x.l i).a0 /\ (gD y.l i).a1 = (gD x.l i).a1 /\ (gD y.l i).b0 = (gD x.l i).b0 /\ (gD y.l i).b1 = (gD x.l i).b1) /\ (y.i < (AA s).length /\ y.j <= (AA s).length /\ (AA s).length - y.i = q /\ y.l = (DZ s y.i y.j).filter (JF s)) /\ (AA s).length - y.j < (AA s).length - x.j))) /\ (¬(x.j : Int) < (AA s).length -> ∃ y : LnK, ((y.i : Int) = IntKind.i64.wrap ((x.i : Int) + 1) /\ y.l.length = x.l.length /\ y.l.length = x.l.length /\ ∀ i : Nat, i < y.l.length -> (gD y.l i).a0 = (gD x.l i).a0 /\ (gD y.l i).a1 = (gD x.l i).a1 /\ (gD y.l i).b0 = (gD x.l i).b0 /\ (gD y.l i).b1 = (gD x.l i).b1) /\ (y.i <= (AA s).length /\ y.l = (NG s y.i).filter (JF s)) /\ (AA s).length - y.i < q) := by
 obtain ⟨h1, h2, h3, h4⟩ := hx
 refine ⟨λ hj => ?_, λ hj => ⟨⟨x.i + 1, x.l⟩, ⟨(BH (by omega)).symm, rfl, rfl, λ _ _ => ⟨rfl, rfl, rfl, rfl⟩⟩, ⟨h1, ?_⟩, by show (AA s).length - (x.i + 1) < _; omega⟩⟩
 ·have hj' : x.j < (AA s).length := Int.ofNat_lt.1 hj
  have hl : x.l.length <= 10000 := h4 ▸ AOU hN
  have step : (DZ s x.i (x.j + 1)).filter (JF s) = x.l -> (∃ y : LnJ, ((y.j : Int) = IntKind.i64.wrap ((x.j : Int) + 1) /\ (y.i : Int) = x.i /\ (gD (AA s) y.i).st = (gD (AA s) x.i).st /\ (gD (AA s) y.i).fl = (gD (AA s) x.i).fl /\ y.l.length = x.l.length /\ y.l.length = x.l.length /\ ∀ i : Nat, i < y.l.length -> (gD y.l i).a0 = (gD x.l i).a0 /\ (gD y.l i).a1 = (gD x.l i).a1 /\ (gD y.l i).b0 = (gD x.l i).b0 /\ (gD y.l i).b1 = (gD x.l i).b1) /\ (y.i < (AA s).length /\ y.j <= (AA s).length /\ (AA s).length - y.i = q /\ y.l = (DZ s y.i y.j).filter (JF s)) /\ (AA s).length - y.j < (AA s).length - x.j) := λ h => ⟨⟨x.i, x.j + 1, x.l⟩, ⟨(BH (by omega)).symm, rfl, rfl, rfl, rfl, rfl, λ _ _ => ⟨rfl, rfl, rfl, rfl⟩⟩, ⟨h1, hj', h3, h.symm⟩, by show (AA s).length - (x.j + 1) < _; omega⟩
  refine ⟨⟨by omega, hj⟩, λ hr => ⟨⟨by omega, λ g hgs => ⟨Gy.1 hr, hg g hgs⟩⟩, λ hp => ⟨⟨by omega, λ _ => by omega, by omega, by omega⟩, ⟨x.i, x.j + 1, x.l ++ [J2 (gD (AA s) x.i) (gD (AA s) x.j)]⟩, ⟨(BH (by omega)).symm, rfl, rfl, rfl, by simp, by simp, ATR _ _⟩, ⟨h1, hj', h3, ?_⟩, by show (AA s).length - (x.j + 1) < _; omega⟩, λ hp => step ?_⟩, λ hr => step ?_⟩
  ·show _ = (DZ s x.i (x.j + 1)).filter (JF s)
   rw [BEY hj' hr hp, <- h4]
  ·rw [BLU hj' hr hp, h4]
  ·rw [AZP hj' hr, h4]
 ·have : x.j = (AA s).length := by omega
  rw [this] at h4; show x.l = (NG s (x.i + 1)).filter (JF s); rw [<- Kd h1]; exact h4
theorem BTI {α : Type} [Inhabited α] (l m : List α) (j : Nat) : gD (l ++ m) j = bif decide (j < l.length) then gD l j else gD m (j - l.length) := by
 rw [vG]; by_cases h : j < l.length <;> simp [h]
theorem BLK {α : Type} [Inhabited α] (x y : α) {j : Nat} (h : j < 2) : gD [x, y] j = bif decide (j = 0) then x else y := by
 match j, h with
 | 0, _ => rfl
 | 1, _ => rfl
theorem iL {s : List Gau} {t : Int} {i : Nat} (h : i < (AA s).length) : HR s t (i + 1) = HR s t i ++ [J2 ⟨t, 0⟩ (gD (AA s) i), J2 (gD (AA s) i) ⟨t, 200000⟩] := by
 unfold HR; rw [DG h, List.flatMap_append, <- List.append_assoc]; simp
theorem ANL {s : List Gau} {t : Int} : ∀ i : Nat, i <= (AA s).length -> (HR s t i).length = 2 + 2 * i
 | 0, _ => rfl
 | i + 1, h => by rw [iL (by omega), List.length_append, ANL i (by omega)]; simp; omega
theorem AMF {s : List Gau} {t : Int} : HR s t (AA s).length = CR s t := by unfold HR CR; rw [List.take_length]
theorem BHU (s : List Gau) (t : Int) : ∃ i : Nat, ((HR s t i).length = 2 /\ (i : Int) = 0 /\ (HR s t i).length = 2 /\ ∀ j : Nat, j < (HR s t i).length -> ((gD (HR s t i) j).a0 = bif decide (j = 0) then (AM ⟨t, 0⟩).a0 else (AM ⟨t, 200000⟩).a0) /\ ((gD (HR s t i) j).a1 = bif decide (j = 0) then (AM ⟨t, 0⟩).a1 else (AM ⟨t, 200000⟩).a1) /\ ((gD (HR s t i) j).b0 = bif decide (j = 0) then (AM ⟨t, 0⟩).b0 else (AM ⟨t, 200000⟩).b0) /\ (gD (HR s t i) j).b1 = bif decide (j = 0) then (AM ⟨t, 0⟩).b1 else (AM ⟨t, 200000⟩).b1) /\ i <= (AA s).length := by
 refine ⟨0, ⟨rfl, rfl, rfl, λ j hj => ?_⟩, Nat.zero_le _⟩
 have hj : j < 2 := hj
 rw [show HR s t 0 = [AM ⟨t, 0⟩, AM ⟨t, 200000⟩] from rfl, BLK _ _ hj]
 cases decide (j = 0) <;> exact ⟨rfl, rfl, rfl, rfl⟩
theorem BIQ {s : List Gau} {t : Int} (hN : (AA s).length <= 48) {i : Nat} (h : (i : Int) < (AA s).length) : (0 <= (i : Int) /\ (i : Int) < (AA s).length) /\ (1 < 2 /\ (false = true -> 0 < 2) /\ (HR s t i).length + 1 < 9223372036854775807 /\ ((HR s t i).length + 2) * 32 <= 140737488355328) /\ ∃ k : Nat, ((HR s t k).length = (HR s t i).length + 2 /\ (k : Int) = IntKind.i64.wrap ((i : Int) + 1) /\ (HR s t k).length = (HR s t i).length + 2 /\ ∀ j : Nat, j < (HR s t k).length -> ((gD (HR s t k) j).a0 = bif decide (j < (HR s t i).length) then (gD (HR s t i) j).a0 else bif decide (j - (HR s t i).length = 0) then t else (gD (AA s) i).st) /\ ((gD (HR s t k) j).a1 = bif decide (j < (HR s t i).length) then (gD (HR s t i) j).a1 else bif decide (j - (HR s t i).length = 0) then 0 else (gD (AA s) i).fl) /\ ((gD (HR s t k) j).b0 = bif decide (j < (HR s t i).length) then (gD (HR s t i) j).b0 else bif decide (j - (HR s t i).length = 0) then (gD (AA s) i).st else t) /\ (gD (HR s t k) j).b1 = bif decide (j < (HR s t i).length) then (gD (HR s t i) j).b1 else bif decide (j - (HR s t i).length = 0) then (gD (AA s) i).fl else 200000) /\ k <= (AA s).length /\ (AA s).length - k < (AA s).length - i := by
 have h' : i < (AA s).length := Int.ofNat_lt.1 h
 have hl := ANL (s := s) (t := t) i (by omega)
 refine ⟨⟨by omega, h⟩, ⟨by omega, λ _ => by omega, by omega, by omega⟩, i + 1, ⟨?_, (BH (by omega)).symm, ?_, λ j hj => ?_⟩, h', by omega⟩
 ·rw [iL h', List.length_append]; rfl
 ·rw [iL h', List.length_append]; rfl
 ·rw [iL h'] at hj ⊢
  rw [BTI]
  by_cases h1 : j < (HR s t i).length
  ·simp [h1]
  ·rw [BLK _ _ (by simp at hj; omega)]
   simp only [h1, decide_false, cond_false]
   cases decide (j - (HR s t i).length = 0) <;> exact ⟨rfl, rfl, rfl, rfl⟩
theorem AOG {s : List Gau} {l : List Ln} {i : Nat} (h : i < l.length) : (l.take (i + 1)).filter (mI s) = (l.take i).filter (mI s) ++ if mI s (gD l i) = true then [gD l i] else [] := by
 rw [DG h, List.filter_append]; simp [List.filter_cons]
theorem kR {s : List Gau} {t : Int} : (CR s t).length = 2 + 2 * (AA s).length := by rw [<- AMF, ANL _ (Nat.le_refl _)]
theorem BKI {s : List Gau} {t : Int} {f : List Ln} (hs : s.length <= 24) (hN : (AA s).length <= 48) (hg : ∀ g ∈ s, Dd g) (hf : f.length <= 10000) {x : LnK} (hx : x.i <= (CR s t).length /\ x.l = f ++ ((CR s t).take x.i).filter (mI s)) (h : (x.i : Int) < (CR s t).length) :
  ((0 <= (x.i : Int) /\ (x.i : Int) < (CR s t).length) /\ x.i < (CR s t).length) /\ (FT (gD (CR s t) x.i) = true -> (s.length < 4611686018427387904 /\ ∀ g : Gau, List.Mem g s -> HY (gD (CR s t) x.i) /\ Dd g)) /\ ((bif FT (gD (CR s t) x.i) then s.all λ g => BF (gD (CR s t) x.i) g else false) = true -> (0 < 1 /\ (false = true -> 0 < 1) /\ x.l.length < 9223372036854775807 /\ (x.l.length + 1) * 32 <= 140737488355328) /\ ∃ y : LnK, (y.l.length = x.l.length + 1 /\ (y.i : Int) = x.i /\ y.l.length = x.l.length + 1 /\ ∀ j : Nat, j < y.l.length -> ((gD y.l j).a0 = bif decide (j < x.l.length) then (gD x.l j).a0 else (gD (CR s t) x.i).a0) /\ ((gD y.l j).a1 = bif decide (j < x.l.length) then (gD x.l j).a1 else (gD (CR s t) x.i).a1) /\ ((gD y.l j).b0 = bif decide (j < x.l.length) then (gD x.l j).b0 else (gD (CR s t) x.i).b0) /\ (gD y.l j).b1 = bif decide (j < x.l.length) then (gD x.l j).b1 else (gD (CR s t) x.i).b1) /\ (y.i < (CR s t).length /\ (CR s t).length - y.i = (CR s t).length - x.i /\ y.l = f ++ (((CR s t).take (y.i + 1)).filter (mI s)))) /\ ((bif FT (gD (CR s t) x.i) then s.all λ g => BF (gD (CR s t) x.i) g else false) = false -> ∃ y : LnK, (y.l.length = x.l.length /\ (y.i : Int) = x.i /\ y.l.length = x.l.length /\ ∀ j : Nat, j < y.l.length -> (gD y.l j).a0 = (gD x.l j).a0 /\ (gD y.l j).a1 = (gD x.l j).a1 /\ (gD y.l j).b0 = (gD x.l j).b0 /\ (gD y.l j).b1 = (gD x.l j).b1) /\ (y.i < (CR s t).length /\ (CR s t).length - y.i = (CR s t).length - x.i /\ y.l = f ++ (((CR s t).take (y.i + 1)).filter (mI s)))) := by
 obtain ⟨h1, h2⟩ := hx
 have h' : x.i < (CR s t).length := Int.ofNat_lt.1 h
 have hl : x.l.length <= 10098 := by
  rw [h2, List.length_append]
  have := List.length_filter_le (mI s) ((CR s t).take x.i)
  rw [List.length_take] at this
  have := kR (s := s) (t := t)
  omega
 refine ⟨⟨⟨by omega, h⟩, h'⟩, λ hr => ⟨by omega, λ g hgs => ⟨Gy.1 hr, hg g hgs⟩⟩, λ hp => ⟨⟨by omega, λ _ => by omega, by omega, by omega⟩, ⟨x.i, x.l ++ [(gD (CR s t) x.i)]⟩, ⟨by simp, rfl, by simp, ATR _ _⟩, h', rfl, ?_⟩, λ hp => ⟨⟨x.i, x.l⟩, ⟨rfl, rfl, rfl, λ _ _ => ⟨rfl, rfl, rfl, rfl⟩⟩, h', rfl, ?_⟩⟩
 ·show x.l ++ _ = _
  rw [AOG h', if_pos (show mI s (gD (CR s t) x.i) = true from hp), <- List.append_assoc, <- h2]
 ·show x.l = _
  rw [AOG h', if_neg (by intro hq; have hq : (bif FT (gD (CR s t) x.i) then s.all λ g => BF (gD (CR s t) x.i) g else false) = true := hq; rw [hp] at hq; cases hq), List.append_nil, <- h2]
theorem AVL {s : List Gau} {t : Int} {f : List Ln} (hN : (AA s).length <= 48) {m : Nat} (x : LnK) (hx : x.i < (CR s t).length /\ (CR s t).length - x.i = m /\ x.l = f ++ ((CR s t).take (x.i + 1)).filter (mI s)) : ∃ y : LnK, (y.l.length = x.l.length /\ (y.i : Int) = IntKind.i64.wrap ((x.i : Int) + 1) /\ y.l.length = x.l.length /\ ∀ j : Nat, j < y.l.length -> (gD y.l j).a0 = (gD x.l j).a0 /\ (gD y.l j).a1 = (gD x.l j).a1 /\ (gD y.l j).b0 = (gD x.l j).b0 /\ (gD y.l j).b1 = (gD x.l j).b1) /\ (y.i <= (CR s t).length /\ y.l = f ++ ((CR s t).take y.i).filter (mI s)) /\ (CR s t).length - y.i < m := by
 have := kR (s := s) (t := t)
 exact ⟨⟨x.i + 1, x.l⟩, ⟨rfl, (BH (by omega)).symm, rfl, λ _ _ => ⟨rfl, rfl, rfl, rfl⟩⟩, ⟨hx.1, hx.2.2⟩, by show (CR s t).length - (x.i + 1) < m; omega⟩
theorem QR {w : Bk} {k : Int} (h : w.has k = true) : BY w k = w := by
 obtain ⟨g, b, has, st⟩ := w
 have h : has k = true := h
 unfold BY; congr 1
 ·funext n; unfold FX; by_cases e : n = k
  ·subst e; simp [h]
  ·simp [e]
 ·funext n; unfold Ra; simp [h]
theorem BVG {w : Bk} {k n : Int} : AI (BY w k) n = bif decide (n = k) then EU (NW w k) else AI w n := by
 unfold AI
 show (bif FX w.has k n then EU (NW w n) else []) = _
 unfold FX
 by_cases e : n = k
 ·subst e; simp
 ·simp [e]
theorem BIF {w : Bk} {k : Int} (h : w.has k = true) : AI w k = EU (NW w k) := by unfold AI; rw [h]; rfl
theorem BPG {s : List Gau} (h : s = []) : EU s = [] := by subst h; rfl
theorem BAF {s : List Gau} (hN : (AA s).length <= 48) : (EU s).length <= 10000 := by
 unfold EU
 rw [<- Fx]
 by_cases h : (AA s).length = 0
 ·rw [h]; simp [NG]
 ·obtain ⟨i, hi⟩ : ∃ i, (AA s).length = i + 1 := ⟨(AA s).length - 1, by omega⟩
  rw [hi, <- Kd (i := i) (by omega)]; exact AOU hN
theorem BMD {w : Bk} {k : Int} : ∀ n : Int, ((AI (BY w k) n).length = bif decide (n = k) then (EU (NW w k)).length else (AI w n).length) /\ ∀ j : Nat, j < (AI (BY w k) n).length -> ((gD (AI (BY w k) n) j).a0 = bif decide (n = k) then (gD (EU (NW w k)) j).a0 else (gD (AI w n) j).a0) /\ ((gD (AI (BY w k) n) j).a1 = bif decide (n = k) then (gD (EU (NW w k)) j).a1 else (gD (AI w n) j).a1) /\ ((gD (AI (BY w k) n) j).b0 = bif decide (n = k) then (gD (EU (NW w k)) j).b0 else (gD (AI w n) j).b0) /\ (gD (AI (BY w k) n) j).b1 = bif decide (n = k) then (gD (EU (NW w k)) j).b1 else (gD (AI w n) j).b1 := λ n => by
 rw [BVG]; cases decide (n = k) <;> exact ⟨rfl, λ _ _ => ⟨rfl, rfl, rfl, rfl⟩⟩
theorem BFE {a : BkS} (h : GP a.w.g a.w.b) : (sB a).length <= 24 /\ (AA (sB a)).length <= 48 /\ ∀ g ∈ sB a, Dd g := by
 have h1 : (sB a).length <= 24 := Nat.le_trans (List.length_filter_le _ _) h.1
 have he := PA (s := sB a) (sB a).length (Nat.le_refl _)
 unfold JY at he; rw [List.take_length] at he
 exact ⟨h1, by unfold AA; omega, λ g hg => h.2.1 g (List.mem_filter.1 hg).1⟩
theorem zG {s : List Gau} {t : Int} : JO s t = bif (bif decide ((s.length : Int) > 0) then ((EU s).length : Int) == 0 else false) then [] else EU s ++ (CR s t).filter (mI s) := by
 unfold JO
 rw [show decide (0 < s.length) = decide ((s.length : Int) > 0) by simp [Int.natCast_pos], show decide ((EU s).length = 0) = (((EU s).length : Int) == 0) by rw [Bool.eq_iff_iff]; simp]
theorem BTB (a : BkS) (h : GP a.w.g a.w.b) (h2 : 0 <= a.st /\ a.st <= 2000) (h3 : sB a ≠ []) : BGU a := by
 rw [BPW]; delta Ev Ke iD AIK X4 R8 WF Ep ADG AJE BJ DE DC rW yJ Kv TZ qA sC zK yM mW KT A0 sA Mo Nb Mn Lw vU pC rF Lg mM Qe UM TP WW XF UE rP Pu tW VX zD qS zF A1 tJ MN KC MU LX LY MD KO xS mK FY XD KS Qm KN CA rD qM vI C1 vC CM CK Ob Lp xC qR Ox WQ UI XH VN WC XR zL pB oB OX uY Pk vZ AU AT BV VW XC LW yL tU PK UZ mQ Se Xu Zb bD aJ Vd Ar Cl Cm Cv YP Sp Vk Ss IK St LB MS ME MB MQ LM Df Bo Sz RM aL Zh MM Cu Zz Ys FQ QC Cq Af bB dL Yi QA cZ Ta eD Up aH Yb PS PM cW Zl aX ZQ YL Dj Ud bA dH Te cI DI DS DO DQ DN Xh QG Bb Dh RX cQ Wn aS Yk QO Th bI Yo aK Bd Wu Yx cC Wg Vw Sg Uo bX Us Yz Do As aP Cw Tx aD Zk Zt Rw Sc Yn Yc dZ Xn dS aE Bh cE Tp Vg Yv dP Uz RO Tl Yg eC aG Yu Wr aR Sw YW HZ Un dD Xp Wd LJ KU LN LQ Sb To Vz Wx MV Xg Wy Ya cX Uk cP Vy MI Xz; simp only [CC, eq_self, implies_true, forall_const, JI, show NW a.w a.k = sB a from rfl, if_true]
 obtain ⟨hs, hN, hg⟩ := BFE h
 have hf := BAF (s := sB a) hN
 have h0 : 0 < (sB a).length := List.length_pos_iff.2 h3
 have ok : ∀ x, HY x -> (sB a).length < 4611686018427387904 /\ ∀ g : Gau, List.Mem g (sB a) -> HY x /\ Dd g := λ x hx => ⟨by omega, λ g hgs => ⟨hx, hg g hgs⟩⟩
 have e_ok : ∀ i, i < (AA (sB a)).length -> okP (gD (AA (sB a)) i) := λ i hi => APF hg (EG hi)
 refine ⟨h, λ hh => ⟨?a, ?b1⟩, λ hh => ⟨⟨⟨by omega, ⟨0, rfl, Nat.zero_le _, rfl⟩, λ i ⟨hi, hp⟩ => ?c, λ x ⟨hi, hp⟩ => ?d⟩, ?e⟩, ?b2⟩⟩
 case a =>
  refine ⟨default, ?_⟩
  rw [QR hh, BIF hh]
  exact ⟨rfl, λ _ _ => ⟨rfl, rfl, rfl⟩, rfl, λ _ _ => rfl, λ _ => rfl, λ _ => rfl, λ _ => ⟨rfl, λ _ _ => ⟨rfl, rfl, rfl, rfl⟩⟩, rfl, λ _ _ => ⟨rfl, rfl, rfl, rfl⟩⟩
 case e => exact ⟨default, rfl, λ _ _ => ⟨rfl, rfl, rfl⟩, rfl, λ _ _ => rfl, λ _ => rfl, λ _ => rfl, BMD⟩
 case c =>
  refine ⟨λ hlt => ?_, λ hge => ⟨default, ?_⟩⟩
  ·have hlt' : i < (AA (sB a)).length := Int.ofNat_lt.1 hlt
   refine ⟨⟨by omega, hlt⟩, ⟨(e_ok i hlt').1, (e_ok i hlt').2.1⟩, ok _ (ARB (e_ok i hlt')), λ hpa => ⟨⟨by omega, by omega, by omega, by omega, by omega⟩, ⟨⟨i, 0, [AM (gD (AA (sB a)) i)]⟩, ⟨rfl, rfl, rfl, rfl, rfl, rfl, oneL _⟩, hlt', Nat.zero_le _, rfl, ?_⟩, λ x hx => AOH hs hN hg x hx, λ x hx => AQI hs hN hg x hx⟩, λ hpa => ⟨⟨⟨i, 0⟩, ⟨rfl, rfl, rfl, rfl⟩, hlt', Nat.zero_le _, rfl, ?_⟩, λ x hx => AOH hs hN hg x hx, λ x hx => AQI hs hN hg x hx⟩⟩
   ·show _ = (DZ (sB a) i 0).filter (JF (sB a))
    rw [eN, hp, if_pos (show JF (sB a) _ = true from hpa)]; rfl
   ·show (DZ (sB a) i 0).filter (JF (sB a)) = []
    rw [eN, hp, if_neg (by rw [show JF (sB a) (AM (gD (AA (sB a)) i)) = false from hpa]; simp)]; rfl
  ·have : i = (AA (sB a)).length := by omega
   rw [this, Fx] at hp; unfold EU; rw [hp]; rfl
 case d =>
  refine ⟨λ hlt => ?_, λ hge => ⟨default, ?_⟩⟩
  ·have hlt' : x.i < (AA (sB a)).length := Int.ofNat_lt.1 hlt
   have hl : x.l.length <= 10000 := by
    have := AOU (s := sB a) (i := x.i) (j := 0) hN
    rw [eN, <- hp, List.length_append] at this; omega
   refine ⟨⟨by omega, hlt⟩, ⟨(e_ok x.i hlt').1, (e_ok x.i hlt').2.1⟩, ok _ (ARB (e_ok x.i hlt')), λ hpa => ⟨⟨by omega, λ _ => by omega, by omega, by omega⟩, ⟨⟨x.i, 0, x.l ++ [AM (gD (AA (sB a)) x.i)]⟩, ⟨rfl, rfl, rfl, rfl, by simp, by simp, ATR _ _⟩, hlt', Nat.zero_le _, rfl, ?_⟩, λ x hx => AOH hs hN hg x hx, λ x hx => AQI hs hN hg x hx⟩, λ hpa => ⟨⟨⟨x.i, 0, x.l⟩, ⟨rfl, rfl, rfl, rfl, rfl, rfl, λ _ _ => ⟨rfl, rfl, rfl, rfl⟩⟩, hlt', Nat.zero_le _, rfl, ?_⟩, λ x hx => AOH hs hN hg x hx, λ x hx => AQI hs hN hg x hx⟩⟩
   ·show _ = (DZ (sB a) x.i 0).filter (JF (sB a))
    rw [eN, <- hp, if_pos (show JF (sB a) _ = true from hpa)]
   ·show x.l = (DZ (sB a) x.i 0).filter (JF (sB a))
    rw [eN, <- hp, if_neg (by rw [show JF (sB a) (AM (gD (AA (sB a)) x.i)) = false from hpa]; simp), List.append_nil]
  ·have hx : x.l = EU (sB a) := by rw [hp, show x.i = (AA (sB a)).length by omega, Fx]; rfl
   rw [hx]; exact ⟨rfl, Nat.le_refl _, λ _ _ => ⟨rfl, rfl, rfl, rfl⟩⟩
 all_goals
  ·have hmo : ∀ i : Nat, i <= (AA (sB a)).length -> ¬(i : Int) < (AA (sB a)).length -> HR (sB a) a.st i = CR (sB a) a.st := λ i h1 h2 => by
    rw [show i = (AA (sB a)).length by omega, AMF]
   refine ⟨λ hc => by rw [zG, hc]; rfl, λ hc => ⟨h2, by omega, BHU _ _, λ i hi => ⟨λ hlt => BIQ hN hlt, λ hge => ⟨⟨?_, by omega⟩, ⟨⟨0, EU (sB a)⟩, ⟨rfl, by rw [hmo i hi hge], by rw [hmo i hi hge], rfl, by rw [hmo i hi hge], λ j _ => by rw [hmo i hi hge]; exact ⟨rfl, rfl, rfl, rfl⟩, rfl, λ _ _ => ⟨rfl, rfl, rfl, rfl⟩⟩, Nat.zero_le _, by simp⟩, λ x hx => ⟨λ hlt => ⟨BKI hs hN hg hf hx hlt, λ y hy => AVL hN y hy⟩, λ hge => ?_⟩⟩⟩⟩⟩
   ·simp only [decide_eq_true (show ((sB a).length : Int) > 0 by omega), cond_true, beq_eq_false_iff_ne, ne_eq] at hc
    omega
   ·have e : JO (sB a) a.st = x.l := by rw [zG, hc, hx.2, List.take_of_length_le (by omega)]; rfl
    rw [e]; exact ⟨rfl, Nat.le_refl _, λ _ _ => ⟨rfl, rfl, rfl, rfl⟩⟩
theorem BJA {s : List Gau} {t : Int} (hN : (AA s).length <= 48) {m : Nat} (i : Nat) (hx : i < (CR s t).length /\ (CR s t).length - i = m /\ ((CR s t).take (i + 1)).filter (mI s) = []) : ∃ y : Nat, (y : Int) = IntKind.i64.wrap ((i : Int) + 1) /\ (y <= (CR s t).length /\ ((CR s t).take y).filter (mI s) = []) /\ (CR s t).length - y < m := by
 have := kR (s := s) (t := t)
 exact ⟨i + 1, (BH (by omega)).symm, ⟨hx.1, hx.2.2⟩, by omega⟩
theorem BTC (a : BkS) (h : GP a.w.g a.w.b) (h2 : 0 <= a.st /\ a.st <= 2000) (h3 : sB a = []) : BEL a := by
 rw [BOY]; delta Hq Kj hP AAM ADJ ABV VI Gw Z4 X1 BC DH DD oS xX Ni VE rE nU yU rK nW IY qF sL Oc Qk Qr Pa wD oU zI Qn sP Ps VP WY TS VB VF oW Nm uI TL qW oI vB xN AY tX GY HI GV HL HJ GW HF uP oX yW EZ TN IP Ny IQ pI oJ rT uQ Oh CB CD LO rI zO Od VT UR VD UB WT XB yX qP xJ qT OU oG Qs nM AS AV BU B6 XS XM MG A9 Qi uT QL ZD ZL By Dm RT dA ZY ID bQ KP MC LI KJ IF IH Bs Av PO dN EA HX QJ dJ FI FK dI Yh Zj dM aB Rr Bj Uw Tv Du bM dU aV cL IM Xb MA MF LP LV Sq RD Uc Ug Tz FJ YT Tb Rv SB Wl Xv aY Ut Zw Rz SC RH Uv Xa Va ZO Az Ax Vs Vo We bK Wi DK DJ DT DM DR PT Bq QK Wt Xs Yw Ti QZ Zr Tc bT dB Am bZ Ue cA Ur dO Sa bP aM dQ Ye YJ An cD YI Vm aZ Zm So Vc cM Vr Wz Ws Vu Zx Tt Ch Rx aI cH Vv Xd Sh RG Wq Ym Vt Td dC Uq bW cF Ad HW Tj bN Wa dX LC MH LZ LR Xq Ry Xj Zs LT Rs Xi cB Tu Sr Vl Uy MP Zp; simp only [CC, eq_self, implies_true, forall_const, JI, show NW a.w a.k = sB a from rfl, if_true]
 obtain ⟨hs, hN, hg⟩ := BFE h
 have hf : EU (sB a) = [] := BPG h3
 have h0 : (AA (sB a)).length = 0 := by rw [h3]; rfl
 have hS : (sB a).length = 0 := by rw [h3]; rfl
 have ok : ∀ x, HY x -> (sB a).length < 4611686018427387904 /\ ∀ g : Gau, List.Mem g (sB a) -> HY x /\ Dd g := λ x hx => ⟨by omega, λ g hgs => ⟨hx, hg g hgs⟩⟩
 have hc : (bif decide (((sB a).length : Int) > 0) then ((EU (sB a)).length : Int) == 0 else false) = false := by rw [hS]; rfl
 refine ⟨h, λ hh => ⟨?a, ?b1⟩, λ hh => ⟨⟨⟨by omega, ⟨0, rfl, Nat.zero_le _, rfl⟩, λ i ⟨hi, hp⟩ => ?c, λ x ⟨hi, hp⟩ => ?d⟩, ?e⟩, ?b2⟩⟩
 case a =>
  refine ⟨default, ?_⟩
  rw [QR hh, BIF hh]
  exact ⟨rfl, λ _ _ => ⟨rfl, rfl, rfl⟩, rfl, λ _ _ => rfl, λ _ => rfl, λ _ => rfl, λ _ => ⟨rfl, λ _ _ => ⟨rfl, rfl, rfl, rfl⟩⟩, by show 0 = (EU (sB a)).length; rw [hf]; rfl⟩
 case e => exact ⟨default, rfl, λ _ _ => ⟨rfl, rfl, rfl⟩, rfl, λ _ _ => rfl, λ _ => rfl, λ _ => rfl, BMD, by rw [hf]; rfl⟩
 case c => exact ⟨λ hlt => absurd hlt (by omega), λ hge => ⟨default, by rw [hf]; rfl⟩⟩
 case d =>
  refine ⟨λ hlt => absurd hlt (by omega), λ hge => ⟨default, ?_⟩⟩
  have hx : x.l = EU (sB a) := by rw [hp, show x.i = (AA (sB a)).length by omega, Fx]; rfl
  rw [hx]; exact ⟨rfl, Nat.le_refl _, λ _ _ => ⟨rfl, rfl, rfl, rfl⟩⟩
 all_goals
  have hmo : ∀ i : Nat, i <= (AA (sB a)).length -> HR (sB a) a.st i = CR (sB a) a.st := λ i h1 => by
   rw [show i = (AA (sB a)).length by omega, AMF]
  have hML := kR (s := sB a) (t := a.st)
  refine ⟨λ hc => ?_, λ _ => ⟨h2, by omega, BHU _ _, λ i hi => ⟨λ hlt => BIQ hN hlt, λ hge => ⟨⟨0, ⟨by rw [hmo i hi], by rw [hmo i hi], rfl, by rw [hmo i hi], λ j _ => by rw [hmo i hi]; exact ⟨rfl, rfl, rfl, rfl⟩⟩, Nat.zero_le _, rfl⟩, λ x ⟨hx, hy⟩ => ⟨λ hlt => ⟨?_, λ y hy => BJA hN y hy, λ y hy => AVL hN y hy⟩, λ hge => ?_⟩, λ x hx => ⟨λ hlt => ⟨BKI hs hN hg (by rw [hf]; exact Nat.zero_le _) hx hlt, λ y hy => BJA hN y hy, λ y hy => AVL hN y hy⟩, λ hge => ?_⟩⟩⟩⟩⟩
  ·rw [hS] at hc; cases hc
  ·have h' : x < (CR (sB a) a.st).length := Int.ofNat_lt.1 hlt
   refine ⟨⟨⟨by omega, hlt⟩, h'⟩, λ hr => ok _ (Gy.1 hr), λ hp => ⟨⟨by omega, by omega, by omega, by omega, by omega⟩, ⟨x, [gD (CR (sB a) a.st) x]⟩, ⟨rfl, rfl, rfl, oneL _⟩, h', rfl, ?_⟩, λ hp => ⟨x, rfl, h', rfl, ?_⟩⟩
   ·show [_] = _
    rw [AOG h', if_pos (show mI (sB a) (gD (CR (sB a) a.st) x) = true from hp), hy, hf]; rfl
   ·rw [AOG h', if_neg (by intro hq; have hq : (bif FT (gD (CR (sB a) a.st) x) then (sB a).all λ g => BF (gD (CR (sB a) a.st) x) g else false) = true := hq; rw [hp] at hq; cases hq), hy]; rfl
  ·have hz : (CR (sB a) a.st).filter (mI (sB a)) = [] := by rw [<- hy, List.take_of_length_le (by omega)]
   rw [zG, hc, hf, hz]; rfl
  ·have e : JO (sB a) a.st = x.l := by rw [zG, hc, hx.2, List.take_of_length_le (by omega)]; rfl
   rw [e]; exact ⟨rfl, Nat.le_refl _, λ _ _ => ⟨rfl, rfl, rfl, rfl⟩⟩
theorem pS : AG Try.prog eS (C_lns.spec dBkS) := Ctr.spec_ok (C := C_lns) (λ (a : BkS) h => by
 have h : GP a.w.g a.w.b /\ 0 <= a.st /\ a.st <= 2000 := h
 by_cases h3 : sB a = []
 ·exact JZ (A := BFX a) (ren := []) (fz := [403]) ASY (by kernel_rfl) (AB AJY (AB dE (AB Sm (AB RU (AB eZ (AB Zy (AB BMR AE))))))) (BTC a h.1 h.2 h3) (BLA GT (AZZ a) rfl rfl (AB eZ (AB RU (AB Zy AE))) Kt (by kernel_rfl) (by kernel_rfl))
 ·exact JZ (A := BFW a) (ren := []) (fz := [403]) ASY (by kernel_rfl) (AB AJY (AB dE (AB Sm (AB RU (AB eZ (AB Zy (AB BNM AE))))))) (BTB a h.1 h.2 h3) (BLA GT (AZZ a) rfl rfl (AB eZ (AB RU (AB Zy AE))) Kt (by kernel_rfl) (by kernel_rfl))) _
end Go.Bal
