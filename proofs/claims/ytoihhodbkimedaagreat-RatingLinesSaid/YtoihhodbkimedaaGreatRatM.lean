/- Package rating: the last stage of a part for which something is so. -/
import Derived.Test.YtoihhodbkimedaaGreatRatL
set_option linter.unusedVariables false
set_option linter.unusedSimpArgs false
namespace Go.Bal
open Go Go.Sym Go.Proofs
def BSL (a : UpI) : Prop := AO Try.prog (A_up sQ DY ((OJ sQ).spec dBnF) a) Dn (AF Dn) ((jS sQ DY).xs a) (AC ((jS sQ DY).L a)) ((jS sQ DY).val a) ((jS sQ DY).keep a) [] []
abbrev eH (a : UpI) : List Gau := AD a.w.g.length λ (i : Nat) => gD a.w.g i
abbrev gZ (a : UpI) : Nat := (eH a).length
abbrev ASA (a : UpI) : Prop := gZ a = a.w.g.length
abbrev M7 (a : UpI) (i : Nat) : Gau := gD (eH a) i
abbrev ALC (a : UpI) (i : Nat) : Int := (M7 a i).st
abbrev ALA (a : UpI) (i : Nat) : Int := (M7 a i).lo
abbrev ALK (a : UpI) (i : Nat) : Int := (M7 a i).hi
abbrev APV (a : UpI) : Prop := ∀ (i : Nat), i < gZ a -> ALC a i = (gD a.w.g i).st /\ ALA a i = (gD a.w.g i).lo /\ ALK a i = (gD a.w.g i).hi
abbrev Lr (a : UpI) : List Int := AD a.w.b.length λ (i : Nat) => gD a.w.b i
abbrev Nw (a : UpI) : Nat := (Lr a).length
abbrev Q0 (a : UpI) : Prop := Nw a = a.w.b.length
abbrev ACR (a : UpI) (i : Nat) : Int := gD (Lr a) i
abbrev Y5 (a : UpI) : Prop := ∀ (i : Nat), i < Nw a -> ACR a i = gD a.w.b i
abbrev U9 : Value := Value.slice none (0 : Nat) (0 : Nat)
abbrev XP : Prop := U9 = U9
abbrev Ko (a : UpI) : Prop := ∀ (n : Int), a.w.has n = a.w.has n
abbrev Eu (a : UpI) : Prop := ∀ (n : Int), a.w.st n = a.w.st n
abbrev Ie (a : UpI) : Bk := Bk.mk (eH a) (Lr a) a.w.has a.w.st
abbrev S2 (a : UpI) (n : Int) : List Ln := AI (Ie a) n
abbrev jM (a : UpI) (n : Int) : Nat := (S2 a n).length
abbrev Jm (a : UpI) (n : Int) (i : Nat) : Ln := gD (S2 a n) i
abbrev Q2 (a : UpI) (n : Int) (i : Nat) : Int := (Jm a n i).a0
abbrev AHS (a : UpI) (n : Int) (i : Nat) : Int := (Jm a n i).a1
abbrev AEJ (a : UpI) (n : Int) (i : Nat) : Int := (Jm a n i).b0
abbrev Z9 (a : UpI) (n : Int) (i : Nat) : Int := (Jm a n i).b1
abbrev AHN (a : UpI) : Prop := ∀ (n : Int), jM a n = (AI a.w n).length /\ ∀ (i : Nat), i < jM a n -> Q2 a n i = (gD (AI a.w n) i).a0 /\ AHS a n i = (gD (AI a.w n) i).a1 /\ AEJ a n i = (gD
 (AI a.w n) i).b0 /\ Z9 a n i = (gD (AI a.w n) i).b1
abbrev eL (i : Nat) (a : UpI) (n : Int) : Prop := i < (AI a.w n).length
abbrev ADX (a : UpI) : Prop := gZ a <= (24 : Nat) /\ (∀ (x : Gau), List.Mem x (eH a) -> (0 : Int) <= x.st /\ x.st <= (2000 : Int) /\ (0 : Int) <= x.lo /\ x.lo <= x.hi /\ x.hi <= (200000 : Int)) /\ Nw a <= (24 :
 Nat) /\ List.Pairwise (λ (x1 x2 : Int) => x1 < x2) (Lr a) /\ ∀ (x : Int), List.Mem x (Lr a) -> (1 : Int) <= x /\ x <= (2000 : Int)
abbrev W3 (a : UpI) : Span := AP (Ie a) a.k
abbrev AGV (a : UpI) : Prop := a.w.g.length = a.w.g.length
abbrev AHW (a : UpI) : Prop := ∀ (i : Nat), i < a.w.g.length -> (gD a.w.g i).st = (gD a.w.g i).st /\ (gD a.w.g i).lo = (gD a.w.g i).lo /\ (gD a.w.g i).hi = (gD a.w.g i).hi
abbrev ACJ (a : UpI) : Prop := a.w.b.length = a.w.b.length
abbrev AFM (a : UpI) : Prop := ∀ (i : Nat), i < a.w.b.length -> gD a.w.b i = gD a.w.b i
abbrev mA (a : UpI) : Prop := a.f.n = a.f.n /\ a.f.d = a.f.d
abbrev X5 (a : UpI) : Prop := AGV a /\ AHW a /\ ACJ a /\ AFM a /\ XP /\ Ko a /\ Eu a /\ (∀ (n : Int), (AI a.w n).length = (AI a.w n).length /\ ∀ (i : Nat), eL i a n -> (gD (AI
 a.w n) i).a0 = (gD (AI a.w n) i).a0 /\ (gD (AI a.w n) i).a1 = (gD (AI a.w n) i).a1 /\ (gD (AI a.w n) i).b0 = (gD (AI a.w n) i).b0 /\ (gD (AI a.w n) i).b1 = (gD (AI a.w n) i).b1) /\ mA a
abbrev ACX (a : LH) : Int := a.hi - a.lo
abbrev iC (a : LH) : Nat := (ACX a).toNat
abbrev fW (a : UpI) (a1 : LH) : Prop := (AP a.w a.k).lo - (1 : Int) <= a1.lo /\ a1.lo <= a1.hi /\ a1.hi <= (AP a.w a.k).hi /\ ∀ (m : Nat), iC a1 <= m -> upM sQ a = J5 (upP sQ a) m a1.lo a1.hi
abbrev JU (a : LH) : Int := IntKind.i64.wrap (a.lo + IntKind.i64.wrap ((IntKind.i64.wrap (IntKind.i64.wrap (ACX a) + (1 : Int))).tdiv (2 : Int)))
abbrev AAR (a : UpI) (a1 : LH) : BkT := BkT.mk (Ie a) (JU a1)
abbrev UD (a : UpI) (a1 : LH) : Bk := BY (Ie a) (kB (AAR a a1))
abbrev W6 (a : UpI) (a1 : LH) : List Gau := (UD a a1).g
abbrev fF (a : UpI) (a1 : LH) (i : Nat) : Gau := gD (W6 a a1) i
abbrev ACV (a : UpI) (a1 : LH) : List Int := (UD a a1).b
abbrev ADE (a : UpI) (a1 : LH) : Bnd := ZN (lB (AAR a a1)) (JU a1)
abbrev V7 (a : UpI) (a1 : LH) : Rt := (ADE a a1).lo
abbrev AIN (a : UpI) (a1 : LH) : Int := (V7 a a1).n
abbrev ADV (a : UpI) (a1 : LH) : Int := (V7 a a1).d
abbrev ABE (a : UpI) (a1 : LH) : Rt := (ADE a a1).hi
abbrev AHX (a : UpI) (a1 : LH) : Int := (ABE a a1).n
abbrev T9 (a : UpI) (a1 : LH) : Int := (ABE a a1).d
abbrev mB (a : UpI) (a1 : LH) : Bnd := dBnd (DVal.agg [CH (AIN a a1), CH (ADV a a1), CH (AHX a a1), CH (T9 a a1)])
abbrev T2 (a : UpI) (a1 : LH) : Rt := (mB a a1).lo
abbrev AIX (a : UpI) (a1 : LH) : Rt := (mB a a1).hi
abbrev AIV (a : UpI) (a1 : LH) (n : Int) : List Ln := AI (UD a a1) n
abbrev Ef (a : UpI) (a1 : LH) (n : Int) (i : Nat) : Ln := gD (AIV a a1 n) i
abbrev AAF (a : UpI) (a1 : LH) : Prop := AGV a /\ AHW a /\ ACJ a /\ AFM a /\ XP /\ (∀ (n : Int), a.w.has n = (UD a a1).has n) /\ (∀ (n : Int), a.w.st n = (UD a a1).st n) /\ (∀ (n :
 Int), (AI a.w n).length = (AIV a a1 n).length /\ ∀ (i : Nat), eL i a n -> (gD (AI a.w n) i).a0 = (Ef a a1 n i).a0 /\ (gD (AI a.w n) i).a1 = (Ef a a1 n i).a1 /\ (gD (AI a.w n) i).b0 = (Ef a a1
 n i).b0 /\ (gD (AI a.w n) i).b1 = (Ef a a1 n i).b1) /\ mA a
abbrev X9 (a : UpI) (a1 : LH) (a2 : LH) : Prop := fW a a1 /\ iC a1 < iC a2
theorem BVY (a : UpI) : (BSL a) = ((a.k = a.k /\ ASA a /\ APV a /\ Q0 a /\ Y5 a /\ XP /\ Ko a /\ Eu a /\ AHN a /\ a.w.g.length = gZ a /\ (∀ (i : Nat), i < a.w.g.length -> (gD
 a.w.g i).st = ALC a i /\ (gD a.w.g i).lo = ALA a i /\ (gD a.w.g i).hi = ALK a i) /\ a.w.b.length = Nw a /\ (∀ (i : Nat), i < a.w.b.length -> gD a.w.b i = ACR a i) /\ XP /\ Ko a /\ Eu a /\
 (∀ (n : Int), (AI a.w n).length = jM a n /\ ∀ (i : Nat), eL i a n -> (gD (AI a.w n) i).a0 = Q2 a n i /\ (gD (AI a.w n) i).a1 = AHS a n i /\ (gD (AI a.w n) i).b0 = AEJ a n i /\ (gD (AI a.w n)
 i).b1 = Z9 a n i) /\ ADX a /\ (0 : Int) <= a.k /\ a.k <= (↑(Nw a) : Int)) /\ (∃ (a_1 : LH), (a_1.lo = IntKind.i64.wrap ((W3 a).lo - (1 : Int)) /\ a_1.hi = (W3 a).hi /\ X5 a) /\ fW a a_1) /\
 ∀ (a_1 : LH), fW a a_1 -> bif decide (a_1.lo < a_1.hi) then (Int.ofNat (2 : Nat) = Int.ofNat (0 : Nat) -> False) /\ (JU a_1 = JU a_1 /\ ASA a /\ APV a /\ Q0 a /\ Y5 a /\ XP /\ Ko
 a /\ Eu a /\ AHN a /\ a.w.g.length = (W6 a a_1).length /\ (∀ (i : Nat), i < a.w.g.length -> (gD a.w.g i).st = (fF a a_1 i).st /\ (gD a.w.g i).lo = (fF a a_1 i).lo /\ (gD a.w.g i).hi = (fF a
 a_1 i).hi) /\ a.w.b.length = (ACV a a_1).length /\ (∀ (i : Nat), i < a.w.b.length -> gD a.w.b i = gD (ACV a a_1) i) /\ ADX a /\ (0 : Int) <= JU a_1 /\ JU a_1 <= (2000 : Int)) /\ ((T2 a a_1).n =
 AIN a a_1 /\ (T2 a a_1).d = ADV a a_1 /\ (AIX a a_1).n = AHX a a_1 /\ (AIX a a_1).d = T9 a a_1 /\ a.f.n = a.f.n /\ a.f.d = a.f.d /\ mA a) /\ bif sQ (BnF.mk (mB a a_1) a.f) then
 ∃ (a_3 : LH), (a_3.lo = JU a_1 /\ a_3.hi = a_1.hi /\ AAF a a_1) /\ X9 a a_3 a_1 else ∃ (a_3 : LH), (a_3.lo = a_1.lo /\ a_3.hi = IntKind.i64.wrap (JU a_1 - (1 : Int)) /\ AAF a a_1) /\ X9 a a_3
 a_1 else upM sQ a = a_1.lo /\ X5 a) := by kernel_rfl
theorem BZE (a : UpI) (h : GP a.w.g a.w.b) (hk : 0 <= a.k /\ a.k <= a.w.b.length) (hh : a.w.has a.k = true) : BSL a := by
 rw [BVY]; delta eH gZ ASA M7 ALC ALA ALK APV Lr Nw Q0 ACR Y5 U9 XP Ko Eu Ie S2 jM Jm Q2 AHS AEJ Z9 AHN eL ADX W3 AGV AHW ACJ AFM mA X5 ACX iC fW JU AAR UD W6 fF ACV ADE V7 AIN ADV ABE AHX T9 mB T2 AIX AIV Ef AAF X9; simp only [CC, eq_self, implies_true, forall_const, JI, NB, Rm, Rf, MZ, L3, if_true]
 obtain ⟨s1, s2, s3, s4⟩ := Pe h hk.1 hk.2
 refine ⟨⟨h, hk⟩, ⟨⟨(AP a.w a.k).lo - 1, (AP a.w a.k).hi⟩, ⟨(HM (n := (AP a.w a.k).lo - 1) (by omega) (by omega)).symm, rfl⟩, Int.le_refl _, (by omega : (AP a.w a.k).lo - 1 <= (AP a.w a.k).hi), Int.le_refl _, λ m hm => EO 3000 m ((AP a.w a.k).lo - 1) (AP a.w a.k).hi (by omega) (by omega) hm⟩, λ x ⟨i1, i2, i3, i4⟩ => ⟨λ hl => ?_, λ hl => ?_⟩⟩
 ·obtain ⟨m1, m2⟩ := sU hl
  simp only [BBO (lo := x.lo) (hi := x.hi) (by omega) (by omega) (by omega), show ∀ t, kB ⟨a.w, t⟩ = (FA a.w.b t : Int) from λ _ => rfl, s4 _ (show (AP a.w a.k).lo <= x.lo + (x.hi - x.lo + 1).tdiv 2 by omega) (by omega), QR hh, implies_true, and_true]
  obtain ⟨n, hn⟩ : ∃ n, (x.hi - x.lo).toNat = n + 1 := ⟨(x.hi - x.lo).toNat - 1, by omega⟩
  have key := i4 (n + 1) (by omega)
  unfold J5 at key
  rw [decide_eq_true hl] at key
  generalize hM : x.lo + (x.hi - x.lo + 1).tdiv 2 = M at *
  refine ⟨by simp, ⟨h, by omega, by omega⟩, λ hp => ⟨⟨M, x.hi⟩, ⟨rfl, rfl⟩, ⟨(by omega : (AP a.w a.k).lo - 1 <= M), m2, i3, λ m hm => ?_⟩, (by omega : (x.hi - M).toNat < (x.hi - x.lo).toNat)⟩, λ hp => ⟨⟨x.lo, M - 1⟩, ⟨rfl, (HM (n := M - 1) (by omega) (by omega)).symm⟩, ⟨i1, (by omega : x.lo <= M - 1), (by omega : M - 1 <= (AP a.w a.k).hi), λ m hm => ?_⟩, (by omega : (M - 1 - x.lo).toNat < (x.hi - x.lo).toNat)⟩⟩
  ·rw [key, show upP sQ a M = true from hp]
   exact EO n m M x.hi m2 (by omega) hm
  ·rw [key, show upP sQ a M = false from hp]
   exact EO n m x.lo (M - 1) (by omega) (by omega) hm
 ·rw [i4 0 (by omega)]; rfl
theorem BJK : AG Try.prog cT ((jS mH DX).spec (dUpI DX)) := GD (jS mH DX) (A_up mH DX ((OJ mH).spec dBnF)) [] [] F5 (λ _ => by kernel_rfl) (λ _ => AB Nh (AB dR (AB BUH AE))) (λ (a : UpI) h => by
 have h : GP a.w.g a.w.b /\ 0 <= a.k /\ a.k <= a.w.b.length /\ a.w.has a.k = true := h
 exact BWL a h.1 ⟨h.2.1, h.2.2.1⟩ h.2.2.2) (λ _ => GJ rfl rfl) _
theorem BGQ : AG Try.prog cT ((jS sQ DY).spec (dUpI DY)) := GD (jS sQ DY) (A_up sQ DY ((OJ sQ).spec dBnF)) [] [] F5 (λ _ => by kernel_rfl) (λ _ => AB Nh (AB dR (AB BVW AE))) (λ (a : UpI) h => by
 have h : GP a.w.g a.w.b /\ 0 <= a.k /\ a.k <= a.w.b.length /\ a.w.has a.k = true := h
 exact BZE a h.1 ⟨h.2.1, h.2.2.1⟩ h.2.2.2) (λ _ => GJ rfl rfl) _
def dryR (r : Rt) : Bool := r.n == 0 && r.d == 1
def BHM := pD dR1 λ r => .bool (dryR r)
def BHB (r : Rt) : Prop := AO Try.prog (ann 6 []) AVK (AF AVK) (xR1 r) (AC []) (.bool (dryR r)) [] [] []
theorem BOT (r : Rt) : (BHB r) = (dryR r = (r.n == 0 && (r.d == 1 && true))) := by kernel_rfl
structure BnO where
 b : Bnd
def bxF : AObj := .box [.fn (.func pE) [] []]
def dBnO : List AVal -> Heap -> Option (BnO × List (Nat × Nat) × List Nat)
 | [.d x, .bptr id _], H => match H id with
  | .live (.box [.fn (.func g) [] []]) => if g = pE then some (⟨dBnd x⟩, [(100, id)], []) else none
  | _ => none
 | _, _ => none
def OK (v : BnO -> Bool) : Ctr := { ro := [100], α := BnO, xs := λ a => [.d (eBnd a.b), .bptr 100 0], L := λ _ => [(100, bxF)], val := λ a => .bool (v a), keep := λ _ => [(100, .live bxF)] }
def nL (a : BnO) : Bool := dryR a.b.hi
def oN (a : BnO) : Bool := dryR a.b.lo
def AZV : Ann := { ann 8 [(pE, BHM)] with E := [100] }
def BRO (a : BnO) : Prop := AO Try.prog AZV AWQ (AF AWQ) ((OK nL).xs a) (AC ((OK nL).L a)) ((OK nL).val a) ((OK nL).keep a) [] []
theorem BUP (a : BnO) : (BRO a) = (nL a = dryR a.b.hi) := by kernel_rfl
def BRB (a : BnO) : Prop := AO Try.prog AZV AWU (AF AWU) ((OK oN).xs a) (AC ((OK oN).L a)) ((OK oN).val a) ((OK oN).keep a) [] []
theorem BUO (a : BnO) : (BRB a) = (oN a = dryR a.b.lo) := by kernel_rfl
theorem AZO : AG Try.prog pE BHM := EB xR1 hR1 λ g _ => JZ (A := ann 6 []) (ren := []) (fz := []) BPF (by kernel_rfl) AE (by
 show BHB g; rw [BOT]; unfold dryR; rw [Bool.and_true])
theorem BVZ : AG Try.prog LF ((OK nL).spec dBnO) := GD (OK nL) (λ _ => AZV) [] [] BNH (λ _ => by kernel_rfl) (λ _ => AB AZO AE) (λ (a : BnO) _ => by
 show BRO a; rw [BUP]; rfl) (λ _ => GJ rfl rfl) _
theorem BTQ : AG Try.prog MK ((OK oN).spec dBnO) := GD (OK oN) (λ _ => AZV) [] [] BMO (λ _ => by kernel_rfl) (λ _ => AB AZO AE) (λ (a : BnO) _ => by
 show BRB a; rw [BUO]; rfl) (λ _ => GJ rfl rfl) _
def dUpO (n : FuncId) : List AVal -> Heap -> Option (BkI × List (Nat × Nat) × List Nat)
 | [.bptr id _, .d k, .fn (.func g) [] [.bptr c _]], H => if g = n then match AKG H id, H c with
  | some (w, q), .live (.box [.fn (.func f) [] []]) => if f = pE then some (⟨w, CT k⟩, [(100, id), (101, q), (102, c)], []) else none
  | _, _ => none else none
 | _, _ => none
def upPO (v : BnO -> Bool) (a : BkI) (t : Int) : Bool := v ⟨ZN (lB ⟨a.w, t⟩) t⟩
def E9 (v : BnO -> Bool) (a : BkI) : Int := J5 (upPO v a) 3000 ((AP a.w a.k).lo - 1) (AP a.w a.k).hi
def upHO (a : BkI) : List (Nat × HCell) := bkK a.w ++ [(102, .live bxF)]
def upO3 (v : BnO -> Bool) (n : FuncId) (a : BkI) : Shape := { α := LH, dflt := default, T := λ x => ⟨[(0, .bptr 100 0), (2, .fn (.func n) [] [.bptr 102 0]), (8, .int x.lo), (9, .int x.hi)], upHO a⟩, inv := λ x => (AP a.w a.k).lo - 1 <= x.lo /\ x.lo <= x.hi /\ x.hi <= (AP a.w a.k).hi /\ ∀ m : Nat, (x.hi - x.lo).toNat <= m -> E9 v a = J5 (upPO v a) m x.lo x.hi, meas := λ x => (x.hi - x.lo).toNat }
def TH (v : BnO -> Bool) (n : FuncId) : Ctr := { ro := [100, 101, 102], α := BkI, xs := λ a => [.bptr 100 0, .int a.k, .fn (.func n) [] [.bptr 102 0]], L := λ a => bkL a.w ++ [(102, bxF)], val := λ a => .int (E9 v a), keep := λ a => upHO a, pre := λ a => [GP a.w.g a.w.b /\ 0 <= a.k /\ a.k <= a.w.b.length /\ a.w.has a.k = true] }
def BAY (v : BnO -> Bool) (n : FuncId) (f : Sym.Spec) (a : BkI) : Ann := { ann 44 [(AAP, C_span.spec dBkI), (RY, C_bnd.spec dBkt), (n, f)] with E := [100, 101, 102], loops := λ id => if id = 3 then some [upO3 v n a] else none }
def BLO (a : BkI) : Prop := AO Try.prog (BAY nL LF ((OK nL).spec dBnO) a) Dn (AF Dn) ((TH nL LF).xs a) (AC ((TH nL LF).L a)) ((TH nL LF).val a) ((TH nL LF).keep a) [] []
abbrev Ek (a : BkI) : List Gau := AD a.w.g.length λ (i : Nat) => gD a.w.g i
abbrev Fc (a : BkI) : Nat := (Ek a).length
abbrev AIG (a : BkI) : Prop := Fc a = a.w.g.length
abbrev lI (a : BkI) (i : Nat) : Gau := gD (Ek a) i
abbrev AEF (a : BkI) (i : Nat) : Int := (lI a i).st
abbrev AGG (a : BkI) (i : Nat) : Int := (lI a i).lo
abbrev AES (a : BkI) (i : Nat) : Int := (lI a i).hi
abbrev AHI (a : BkI) : Prop := ∀ (i : Nat), i < Fc a -> AEF a i = (gD a.w.g i).st /\ AGG a i = (gD a.w.g i).lo /\ AES a i = (gD a.w.g i).hi
abbrev XO (a : BkI) : List Int := AD a.w.b.length λ (i : Nat) => gD a.w.b i
abbrev VU (a : BkI) : Nat := (XO a).length
abbrev zY (a : BkI) : Prop := VU a = a.w.b.length
abbrev vJ (a : BkI) (i : Nat) : Int := gD (XO a) i
abbrev rL (a : BkI) : Prop := ∀ (i : Nat), i < VU a -> vJ a i = gD a.w.b i
abbrev zX : Value := Value.slice none (0 : Nat) (0 : Nat)
abbrev PC : Prop := zX = zX
abbrev VG (a : BkI) : Prop := ∀ (n : Int), a.w.has n = a.w.has n
abbrev VO (a : BkI) : Prop := ∀ (n : Int), a.w.st n = a.w.st n
abbrev XK (a : BkI) : Bk := Bk.mk (Ek a) (XO a) a.w.has a.w.st
abbrev nV (a : BkI) (n : Int) : List Ln := AI (XK a) n
abbrev Ku (a : BkI) (n : Int) : Nat := (nV a n).length
abbrev TW (a : BkI) (n : Int) (i : Nat) : Ln := gD (nV a n) i
abbrev yA (a : BkI) (n : Int) (i : Nat) : Int := (TW a n i).a0
abbrev pJ (a : BkI) (n : Int) (i : Nat) : Int := (TW a n i).a1
abbrev rJ (a : BkI) (n : Int) (i : Nat) : Int := (TW a n i).b0
abbrev yV (a : BkI) (n : Int) (i : Nat) : Int := (TW a n i).b1
abbrev qG (a : BkI) : Prop := ∀ (n : Int), Ku a n = (AI a.w n).length /\ ∀ (i : Nat), i < Ku a n -> yA a n i = (gD (AI a.w n) i).a0 /\ pJ a n i = (gD (AI a.w n) i).a1 /\ rJ a n i
 = (gD (AI a.w n) i).b0 /\ yV a n i = (gD (AI a.w n) i).b1
abbrev Mi (i : Nat) (a : BkI) (n : Int) : Prop := i < (AI a.w n).length
abbrev zC (a : BkI) : Prop := Fc a <= (24 : Nat) /\ (∀ (x : Gau), List.Mem x (Ek a) -> (0 : Int) <= x.st /\ x.st <= (2000 : Int) /\ (0 : Int) <= x.lo /\ x.lo <= x.hi /\ x.hi <= (200000 : Int)) /\ VU a <= (24 :
 Nat) /\ List.Pairwise (λ (x1 x2 : Int) => x1 < x2) (XO a) /\ ∀ (x : Int), List.Mem x (XO a) -> (1 : Int) <= x /\ x <= (2000 : Int)
abbrev pV (a : BkI) : Span := AP (XK a) a.k
abbrev qV (a : BkI) : Prop := a.w.g.length = a.w.g.length
abbrev C3 (a : BkI) : Prop := ∀ (i : Nat), i < a.w.g.length -> (gD a.w.g i).st = (gD a.w.g i).st /\ (gD a.w.g i).lo = (gD a.w.g i).lo /\ (gD a.w.g i).hi = (gD a.w.g i).hi
abbrev vP (a : BkI) : Prop := a.w.b.length = a.w.b.length
abbrev oP (a : BkI) : Prop := ∀ (i : Nat), i < a.w.b.length -> gD a.w.b i = gD a.w.b i
abbrev vO (a : BkI) : Prop := qV a /\ C3 a /\ vP a /\ oP a /\ PC /\ VG a /\ VO a /\ ∀ (n : Int), (AI a.w n).length = (AI a.w n).length /\ ∀ (i : Nat), Mi i a n ->
 (gD (AI a.w n) i).a0 = (gD (AI a.w n) i).a0 /\ (gD (AI a.w n) i).a1 = (gD (AI a.w n) i).a1 /\ (gD (AI a.w n) i).b0 = (gD (AI a.w n) i).b0 /\ (gD (AI a.w n) i).b1 = (gD (AI a.w n) i).b1
abbrev wY (a : LH) : Int := a.hi - a.lo
abbrev Pj (a : LH) : Nat := (wY a).toNat
abbrev Nf (a : BkI) (a1 : LH) : Prop := (AP a.w a.k).lo - (1 : Int) <= a1.lo /\ a1.lo <= a1.hi /\ a1.hi <= (AP a.w a.k).hi /\ ∀ (m : Nat), Pj a1 <= m -> E9 nL a = J5 (upPO nL a) m a1.lo a1.hi
abbrev HC (a : LH) : Int := IntKind.i64.wrap (a.lo + IntKind.i64.wrap ((IntKind.i64.wrap (IntKind.i64.wrap (wY a) + (1 : Int))).tdiv (2 : Int)))
abbrev vW (a : BkI) (a1 : LH) : BkT := BkT.mk (XK a) (HC a1)
abbrev OS (a : BkI) (a1 : LH) : Bk := BY (XK a) (kB (vW a a1))
abbrev xM (a : BkI) (a1 : LH) : List Gau := (OS a a1).g
abbrev Lh (a : BkI) (a1 : LH) (i : Nat) : Gau := gD (xM a a1) i
abbrev vH (a : BkI) (a1 : LH) : List Int := (OS a a1).b
abbrev mZ (a : BkI) (a1 : LH) : Bnd := ZN (lB (vW a a1)) (HC a1)
abbrev xV (a : BkI) (a1 : LH) : Rt := (mZ a a1).lo
abbrev uA (a : BkI) (a1 : LH) : Int := (xV a a1).n
abbrev qB (a : BkI) (a1 : LH) : Int := (xV a a1).d
abbrev rU (a : BkI) (a1 : LH) : Rt := (mZ a a1).hi
abbrev xZ (a : BkI) (a1 : LH) : Int := (rU a a1).n
abbrev vS (a : BkI) (a1 : LH) : Int := (rU a a1).d
abbrev Qg (a : BkI) (a1 : LH) : Bnd := dBnd (DVal.agg [CH (uA a a1), CH (qB a a1), CH (xZ a a1), CH (vS a a1)])
abbrev nD (a : BkI) (a1 : LH) : Rt := (Qg a a1).lo
abbrev wW (a : BkI) (a1 : LH) : Rt := (Qg a a1).hi
abbrev nA (a : BkI) (a1 : LH) (n : Int) : List Ln := AI (OS a a1) n
abbrev UN (a : BkI) (a1 : LH) (n : Int) (i : Nat) : Ln := gD (nA a a1 n) i
abbrev oK (a : BkI) (a1 : LH) : Prop := qV a /\ C3 a /\ vP a /\ oP a /\ PC /\ (∀ (n : Int), a.w.has n = (OS a a1).has n) /\ (∀ (n : Int), a.w.st n = (OS a a1).st n) /\ ∀
 (n : Int), (AI a.w n).length = (nA a a1 n).length /\ ∀ (i : Nat), Mi i a n -> (gD (AI a.w n) i).a0 = (UN a a1 n i).a0 /\ (gD (AI a.w n) i).a1 = (UN a a1 n i).a1 /\ (gD (AI a.w n) i).b0 =
 (UN a a1 n i).b0 /\ (gD (AI a.w n) i).b1 = (UN a a1 n i).b1
abbrev xR (a : BkI) (a1 : LH) (a2 : LH) : Prop := Nf a a1 /\ Pj a1 < Pj a2
theorem BQE (a : BkI) : (BLO a) = ((a.k = a.k /\ AIG a /\ AHI a /\ zY a /\ rL a /\ PC /\ VG a /\ VO a /\ qG a /\ a.w.g.length = Fc a /\ (∀ (i : Nat), i <
 a.w.g.length -> (gD a.w.g i).st = AEF a i /\ (gD a.w.g i).lo = AGG a i /\ (gD a.w.g i).hi = AES a i) /\ a.w.b.length = VU a /\ (∀ (i : Nat), i < a.w.b.length -> gD a.w.b i = vJ a i) /\ PC /\
 VG a /\ VO a /\ (∀ (n : Int), (AI a.w n).length = Ku a n /\ ∀ (i : Nat), Mi i a n -> (gD (AI a.w n) i).a0 = yA a n i /\ (gD (AI a.w n) i).a1 = pJ a n i /\ (gD (AI a.w n) i).b0 =
 rJ a n i /\ (gD (AI a.w n) i).b1 = yV a n i) /\ zC a /\ (0 : Int) <= a.k /\ a.k <= (↑(VU a) : Int)) /\ (∃ (a_1 : LH), (a_1.lo = IntKind.i64.wrap ((pV a).lo - (1 : Int)) /\ a_1.hi = (pV
 a).hi /\ vO a) /\ Nf a a_1) /\ ∀ (a_1 : LH), Nf a a_1 -> bif decide (a_1.lo < a_1.hi) then (Int.ofNat (2 : Nat) = Int.ofNat (0 : Nat) -> False) /\ (HC a_1 = HC a_1 /\ AIG a /\ AHI a /\
 zY a /\ rL a /\ PC /\ VG a /\ VO a /\ qG a /\ a.w.g.length = (xM a a_1).length /\ (∀ (i : Nat), i < a.w.g.length -> (gD a.w.g i).st = (Lh a a_1 i).st /\ (gD a.w.g i).lo =
 (Lh a a_1 i).lo /\ (gD a.w.g i).hi = (Lh a a_1 i).hi) /\ a.w.b.length = (vH a a_1).length /\ (∀ (i : Nat), i < a.w.b.length -> gD a.w.b i = gD (vH a a_1) i) /\ zC a /\ (0 : Int) <= HC
 a_1 /\ HC a_1 <= (2000 : Int)) /\ ((nD a a_1).n = uA a a_1 /\ (nD a a_1).d = qB a a_1 /\ (wW a a_1).n = xZ a a_1 /\ (wW a a_1).d = vS a a_1) /\ bif nL (BnO.mk
 (Qg a a_1)) then ∃ (a_3 : LH), (a_3.lo = HC a_1 /\ a_3.hi = a_1.hi /\ oK a a_1) /\ xR a a_3 a_1 else ∃ (a_3 : LH), (a_3.lo = a_1.lo /\ a_3.hi = IntKind.i64.wrap (HC a_1 - (1 : Int)) /\
 oK a a_1) /\ xR a a_3 a_1 else E9 nL a = a_1.lo /\ vO a) := by kernel_rfl
def BLJ (a : BkI) : Prop := AO Try.prog (BAY oN MK ((OK oN).spec dBnO) a) Dn (AF Dn) ((TH oN MK).xs a) (AC ((TH oN MK).L a)) ((TH oN MK).val a) ((TH oN MK).keep a) [] []
abbrev Jg (a : BkI) : List Gau := AD a.w.g.length λ (i : Nat) => gD a.w.g i
abbrev Ig (a : BkI) : Nat := (Jg a).length
abbrev ABA (a : BkI) : Prop := Ig a = a.w.g.length
abbrev fR (a : BkI) (i : Nat) : Gau := gD (Jg a) i
abbrev Y1 (a : BkI) (i : Nat) : Int := (fR a i).st
abbrev ABL (a : BkI) (i : Nat) : Int := (fR a i).lo
abbrev Z1 (a : BkI) (i : Nat) : Int := (fR a i).hi
abbrev AIP (a : BkI) : Prop := ∀ (i : Nat), i < Ig a -> Y1 a i = (gD a.w.g i).st /\ ABL a i = (gD a.w.g i).lo /\ Z1 a i = (gD a.w.g i).hi
abbrev UQ (a : BkI) : List Int := AD a.w.b.length λ (i : Nat) => gD a.w.b i
abbrev WJ (a : BkI) : Nat := (UQ a).length
abbrev A7 (a : BkI) : Prop := WJ a = a.w.b.length
abbrev pO (a : BkI) (i : Nat) : Int := gD (UQ a) i
abbrev nK (a : BkI) : Prop := ∀ (i : Nat), i < WJ a -> pO a i = gD a.w.b i
abbrev qU : Value := Value.slice none (0 : Nat) (0 : Nat)
abbrev OT : Prop := qU = qU
abbrev VY (a : BkI) : Prop := ∀ (n : Int), a.w.has n = a.w.has n
abbrev VQ (a : BkI) : Prop := ∀ (n : Int), a.w.st n = a.w.st n
abbrev VC (a : BkI) : Bk := Bk.mk (Jg a) (UQ a) a.w.has a.w.st
abbrev mU (a : BkI) (n : Int) : List Ln := AI (VC a) n
abbrev Qp (a : BkI) (n : Int) : Nat := (mU a n).length
abbrev VH (a : BkI) (n : Int) (i : Nat) : Ln := gD (mU a n) i
abbrev wM (a : BkI) (n : Int) (i : Nat) : Int := (VH a n i).a0
abbrev uN (a : BkI) (n : Int) (i : Nat) : Int := (VH a n i).a1
abbrev rY (a : BkI) (n : Int) (i : Nat) : Int := (VH a n i).b0
abbrev nS (a : BkI) (n : Int) (i : Nat) : Int := (VH a n i).b1
abbrev nH (a : BkI) : Prop := ∀ (n : Int), Qp a n = (AI a.w n).length /\ ∀ (i : Nat), i < Qp a n -> wM a n i = (gD (AI a.w n) i).a0 /\ uN a n i = (gD (AI a.w n) i).a1 /\ rY a n i
 = (gD (AI a.w n) i).b0 /\ nS a n i = (gD (AI a.w n) i).b1
abbrev Qh (i : Nat) (a : BkI) (n : Int) : Prop := i < (AI a.w n).length
abbrev xO (a : BkI) : Prop := Ig a <= (24 : Nat) /\ (∀ (x : Gau), List.Mem x (Jg a) -> (0 : Int) <= x.st /\ x.st <= (2000 : Int) /\ (0 : Int) <= x.lo /\ x.lo <= x.hi /\ x.hi <= (200000 : Int)) /\ WJ a <= (24 :
 Nat) /\ List.Pairwise (λ (x1 x2 : Int) => x1 < x2) (UQ a) /\ ∀ (x : Int), List.Mem x (UQ a) -> (1 : Int) <= x /\ x <= (2000 : Int)
abbrev tE (a : BkI) : Span := AP (VC a) a.k
abbrev mP (a : BkI) : Prop := a.w.g.length = a.w.g.length
abbrev tZ (a : BkI) : Prop := ∀ (i : Nat), i < a.w.g.length -> (gD a.w.g i).st = (gD a.w.g i).st /\ (gD a.w.g i).lo = (gD a.w.g i).lo /\ (gD a.w.g i).hi = (gD a.w.g i).hi
abbrev wL (a : BkI) : Prop := a.w.b.length = a.w.b.length
abbrev sF (a : BkI) : Prop := ∀ (i : Nat), i < a.w.b.length -> gD a.w.b i = gD a.w.b i
abbrev vQ (a : BkI) : Prop := mP a /\ tZ a /\ wL a /\ sF a /\ OT /\ VY a /\ VQ a /\ ∀ (n : Int), (AI a.w n).length = (AI a.w n).length /\ ∀ (i : Nat), Qh i a n ->
 (gD (AI a.w n) i).a0 = (gD (AI a.w n) i).a0 /\ (gD (AI a.w n) i).a1 = (gD (AI a.w n) i).a1 /\ (gD (AI a.w n) i).b0 = (gD (AI a.w n) i).b0 /\ (gD (AI a.w n) i).b1 = (gD (AI a.w n) i).b1
abbrev uO (a : LH) : Int := a.hi - a.lo
abbrev Mz (a : LH) : Nat := (uO a).toNat
abbrev Ma (a : BkI) (a1 : LH) : Prop := (AP a.w a.k).lo - (1 : Int) <= a1.lo /\ a1.lo <= a1.hi /\ a1.hi <= (AP a.w a.k).hi /\ ∀ (m : Nat), Mz a1 <= m -> E9 oN a = J5 (upPO oN a) m a1.lo a1.hi
abbrev HA (a : LH) : Int := IntKind.i64.wrap (a.lo + IntKind.i64.wrap ((IntKind.i64.wrap (IntKind.i64.wrap (uO a) + (1 : Int))).tdiv (2 : Int)))
abbrev mT (a : BkI) (a1 : LH) : BkT := BkT.mk (VC a) (HA a1)
abbrev PJ (a : BkI) (a1 : LH) : Bk := BY (VC a) (kB (mT a a1))
abbrev nE (a : BkI) (a1 : LH) : List Gau := (PJ a a1).g
abbrev Of (a : BkI) (a1 : LH) (i : Nat) : Gau := gD (nE a a1) i
abbrev pG (a : BkI) (a1 : LH) : List Int := (PJ a a1).b
abbrev pM (a : BkI) (a1 : LH) : Bnd := ZN (lB (mT a a1)) (HA a1)
abbrev sZ (a : BkI) (a1 : LH) : Rt := (pM a a1).lo
abbrev wF (a : BkI) (a1 : LH) : Int := (sZ a a1).n
abbrev uU (a : BkI) (a1 : LH) : Int := (sZ a a1).d
abbrev wC (a : BkI) (a1 : LH) : Rt := (pM a a1).hi
abbrev sJ (a : BkI) (a1 : LH) : Int := (wC a a1).n
abbrev xL (a : BkI) (a1 : LH) : Int := (wC a a1).d
abbrev Pc (a : BkI) (a1 : LH) : Bnd := dBnd (DVal.agg [CH (wF a a1), CH (uU a a1), CH (sJ a a1), CH (xL a a1)])
abbrev zR (a : BkI) (a1 : LH) : Rt := (Pc a a1).lo
abbrev nB (a : BkI) (a1 : LH) : Rt := (Pc a a1).hi
abbrev uE (a : BkI) (a1 : LH) (n : Int) : List Ln := AI (PJ a a1) n
abbrev XE (a : BkI) (a1 : LH) (n : Int) (i : Nat) : Ln := gD (uE a a1 n) i
abbrev wT (a : BkI) (a1 : LH) : Prop := mP a /\ tZ a /\ wL a /\ sF a /\ OT /\ (∀ (n : Int), a.w.has n = (PJ a a1).has n) /\ (∀ (n : Int), a.w.st n = (PJ a a1).st n) /\ ∀
 (n : Int), (AI a.w n).length = (uE a a1 n).length /\ ∀ (i : Nat), Qh i a n -> (gD (AI a.w n) i).a0 = (XE a a1 n i).a0 /\ (gD (AI a.w n) i).a1 = (XE a a1 n i).a1 /\ (gD (AI a.w n) i).b0 =
 (XE a a1 n i).b0 /\ (gD (AI a.w n) i).b1 = (XE a a1 n i).b1
abbrev rC (a : BkI) (a1 : LH) (a2 : LH) : Prop := Ma a a1 /\ Mz a1 < Mz a2
theorem BQH (a : BkI) : (BLJ a) = ((a.k = a.k /\ ABA a /\ AIP a /\ A7 a /\ nK a /\ OT /\ VY a /\ VQ a /\ nH a /\ a.w.g.length = Ig a /\ (∀ (i : Nat), i <
 a.w.g.length -> (gD a.w.g i).st = Y1 a i /\ (gD a.w.g i).lo = ABL a i /\ (gD a.w.g i).hi = Z1 a i) /\ a.w.b.length = WJ a /\ (∀ (i : Nat), i < a.w.b.length -> gD a.w.b i = pO a i) /\ OT /\
 VY a /\ VQ a /\ (∀ (n : Int), (AI a.w n).length = Qp a n /\ ∀ (i : Nat), Qh i a n -> (gD (AI a.w n) i).a0 = wM a n i /\ (gD (AI a.w n) i).a1 = uN a n i /\ (gD (AI a.w n) i).b0 =
 rY a n i /\ (gD (AI a.w n) i).b1 = nS a n i) /\ xO a /\ (0 : Int) <= a.k /\ a.k <= (↑(WJ a) : Int)) /\ (∃ (a_1 : LH), (a_1.lo = IntKind.i64.wrap ((tE a).lo - (1 : Int)) /\ a_1.hi = (tE
 a).hi /\ vQ a) /\ Ma a a_1) /\ ∀ (a_1 : LH), Ma a a_1 -> bif decide (a_1.lo < a_1.hi) then (Int.ofNat (2 : Nat) = Int.ofNat (0 : Nat) -> False) /\ (HA a_1 = HA a_1 /\ ABA a /\ AIP a /\
 A7 a /\ nK a /\ OT /\ VY a /\ VQ a /\ nH a /\ a.w.g.length = (nE a a_1).length /\ (∀ (i : Nat), i < a.w.g.length -> (gD a.w.g i).st = (Of a a_1 i).st /\ (gD a.w.g i).lo =
 (Of a a_1 i).lo /\ (gD a.w.g i).hi = (Of a a_1 i).hi) /\ a.w.b.length = (pG a a_1).length /\ (∀ (i : Nat), i < a.w.b.length -> gD a.w.b i = gD (pG a a_1) i) /\ xO a /\ (0 : Int) <= HA
 a_1 /\ HA a_1 <= (2000 : Int)) /\ ((zR a a_1).n = wF a a_1 /\ (zR a a_1).d = uU a a_1 /\ (nB a a_1).n = sJ a a_1 /\ (nB a a_1).d = xL a a_1) /\ bif oN (BnO.mk
 (Pc a a_1)) then ∃ (a_3 : LH), (a_3.lo = HA a_1 /\ a_3.hi = a_1.hi /\ wT a a_1) /\ rC a a_3 a_1 else ∃ (a_3 : LH), (a_3.lo = a_1.lo /\ a_3.hi = IntKind.i64.wrap (HA a_1 - (1 : Int)) /\
 wT a a_1) /\ rC a a_3 a_1 else E9 oN a = a_1.lo /\ vQ a) := by kernel_rfl
theorem BWI (a : BkI) (h : GP a.w.g a.w.b) (hk : 0 <= a.k /\ a.k <= a.w.b.length) (hh : a.w.has a.k = true) : BLO a := by
 rw [BQE]; delta Ek Fc AIG lI AEF AGG AES AHI XO VU zY vJ rL zX PC VG VO XK nV Ku TW yA pJ rJ yV qG Mi zC pV qV C3 vP oP vO wY Pj Nf HC vW OS xM Lh vH mZ xV uA qB rU xZ vS Qg nD wW nA UN oK xR; simp only [CC, eq_self, implies_true, forall_const, JI, NB, Rm, Rf, MZ, L3, if_true]
 obtain ⟨s1, s2, s3, s4⟩ := Pe h hk.1 hk.2
 refine ⟨⟨h, hk⟩, ⟨⟨(AP a.w a.k).lo - 1, (AP a.w a.k).hi⟩, ⟨(HM (n := (AP a.w a.k).lo - 1) (by omega) (by omega)).symm, rfl⟩, Int.le_refl _, (by omega : (AP a.w a.k).lo - 1 <= (AP a.w a.k).hi), Int.le_refl _, λ m hm => EO 3000 m ((AP a.w a.k).lo - 1) (AP a.w a.k).hi (by omega) (by omega) hm⟩, λ x ⟨i1, i2, i3, i4⟩ => ⟨λ hl => ?_, λ hl => ?_⟩⟩
 ·obtain ⟨m1, m2⟩ := sU hl
  simp only [BBO (lo := x.lo) (hi := x.hi) (by omega) (by omega) (by omega), show ∀ t, kB ⟨a.w, t⟩ = (FA a.w.b t : Int) from λ _ => rfl, s4 _ (show (AP a.w a.k).lo <= x.lo + (x.hi - x.lo + 1).tdiv 2 by omega) (by omega), QR hh, implies_true, and_true]
  obtain ⟨n, hn⟩ : ∃ n, (x.hi - x.lo).toNat = n + 1 := ⟨(x.hi - x.lo).toNat - 1, by omega⟩
  have key := i4 (n + 1) (by omega)
  unfold J5 at key
  rw [decide_eq_true hl] at key
  generalize hM : x.lo + (x.hi - x.lo + 1).tdiv 2 = M at *
  refine ⟨by simp, ⟨h, by omega, by omega⟩, λ hp => ⟨⟨M, x.hi⟩, ⟨rfl, rfl⟩, ⟨(by omega : (AP a.w a.k).lo - 1 <= M), m2, i3, λ m hm => ?_⟩, (by omega : (x.hi - M).toNat < (x.hi - x.lo).toNat)⟩, λ hp => ⟨⟨x.lo, M - 1⟩, ⟨rfl, (HM (n := M - 1) (by omega) (by omega)).symm⟩, ⟨i1, (by omega : x.lo <= M - 1), (by omega : M - 1 <= (AP a.w a.k).hi), λ m hm => ?_⟩, (by omega : (M - 1 - x.lo).toNat < (x.hi - x.lo).toNat)⟩⟩
  ·rw [key, show upPO nL a M = true from hp]
   exact EO n m M x.hi m2 (by omega) hm
  ·rw [key, show upPO nL a M = false from hp]
   exact EO n m x.lo (M - 1) (by omega) (by omega) hm
 ·rw [i4 0 (by omega)]; rfl
theorem BAA : AG Try.prog cT ((TH nL LF).spec (dUpO LF)) := GD (TH nL LF) (BAY nL LF ((OK nL).spec dBnO)) [] [] F5 (λ _ => by kernel_rfl) (λ _ => AB Nh (AB dR (AB BVZ AE))) (λ (a : BkI) h => by
 have h : GP a.w.g a.w.b /\ 0 <= a.k /\ a.k <= a.w.b.length /\ a.w.has a.k = true := h
 exact BWI a h.1 ⟨h.2.1, h.2.2.1⟩ h.2.2.2) (λ _ => GJ rfl rfl) _
theorem BUG (a : BkI) (h : GP a.w.g a.w.b) (hk : 0 <= a.k /\ a.k <= a.w.b.length) (hh : a.w.has a.k = true) : BLJ a := by
 rw [BQH]; delta Jg Ig ABA fR Y1 ABL Z1 AIP UQ WJ A7 pO nK qU OT VY VQ VC mU Qp VH wM uN rY nS nH Qh xO tE mP tZ wL sF vQ uO Mz Ma HA mT PJ nE Of pG pM sZ wF uU wC sJ xL Pc zR nB uE XE wT rC; simp only [CC, eq_self, implies_true, forall_const, JI, NB, Rm, Rf, MZ, L3, if_true]
 obtain ⟨s1, s2, s3, s4⟩ := Pe h hk.1 hk.2
 refine ⟨⟨h, hk⟩, ⟨⟨(AP a.w a.k).lo - 1, (AP a.w a.k).hi⟩, ⟨(HM (n := (AP a.w a.k).lo - 1) (by omega) (by omega)).symm, rfl⟩, Int.le_refl _, (by omega : (AP a.w a.k).lo - 1 <= (AP a.w a.k).hi), Int.le_refl _, λ m hm => EO 3000 m ((AP a.w a.k).lo - 1) (AP a.w a.k).hi (by omega) (by omega) hm⟩, λ x ⟨i1, i2, i3, i4⟩ => ⟨λ hl => ?_, λ hl => ?_⟩⟩
 ·obtain ⟨m1, m2⟩ := sU hl
  simp only [BBO (lo := x.lo) (hi := x.hi) (by omega) (by omega) (by omega), show ∀ t, kB ⟨a.w, t⟩ = (FA a.w.b t : Int) from λ _ => rfl, s4 _ (show (AP a.w a.k).lo <= x.lo + (x.hi - x.lo + 1).tdiv 2 by omega) (by omega), QR hh, implies_true, and_true]
  obtain ⟨n, hn⟩ : ∃ n, (x.hi - x.lo).toNat = n + 1 := ⟨(x.hi - x.lo).toNat - 1, by omega⟩
  have key := i4 (n + 1) (by omega)
  unfold J5 at key
  rw [decide_eq_true hl] at key
  generalize hM : x.lo + (x.hi - x.lo + 1).tdiv 2 = M at *
  refine ⟨by simp, ⟨h, by omega, by omega⟩, λ hp => ⟨⟨M, x.hi⟩, ⟨rfl, rfl⟩, ⟨(by omega : (AP a.w a.k).lo - 1 <= M), m2, i3, λ m hm => ?_⟩, (by omega : (x.hi - M).toNat < (x.hi - x.lo).toNat)⟩, λ hp => ⟨⟨x.lo, M - 1⟩, ⟨rfl, (HM (n := M - 1) (by omega) (by omega)).symm⟩, ⟨i1, (by omega : x.lo <= M - 1), (by omega : M - 1 <= (AP a.w a.k).hi), λ m hm => ?_⟩, (by omega : (M - 1 - x.lo).toNat < (x.hi - x.lo).toNat)⟩⟩
  ·rw [key, show upPO oN a M = true from hp]
   exact EO n m M x.hi m2 (by omega) hm
  ·rw [key, show upPO oN a M = false from hp]
   exact EO n m x.lo (M - 1) (by omega) (by omega) hm
 ·rw [i4 0 (by omega)]; rfl
theorem BAG : AG Try.prog cT ((TH oN MK).spec (dUpO MK)) := GD (TH oN MK) (BAY oN MK ((OK oN).spec dBnO)) [] [] F5 (λ _ => by kernel_rfl) (λ _ => AB Nh (AB dR (AB BTQ AE))) (λ (a : BkI) h => by
 have h : GP a.w.g a.w.b /\ 0 <= a.k /\ a.k <= a.w.b.length /\ a.w.has a.k = true := h
 exact BUG a h.1 ⟨h.2.1, h.2.2.1⟩ h.2.2.2) (λ _ => GJ rfl rfl) _
end Go.Bal
