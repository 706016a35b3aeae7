/- Package chart: stages at a time, from a time to another one, and when one is reached. -/
import Derived.Test.YtdbjalgfomknhaaChH
set_option linter.unusedVariables false
set_option linter.unusedSimpArgs false
namespace Go.Bal
open Go Go.Sym Go.Proofs
def zHul : Hul := ⟨⟨0, 0⟩, false⟩
structure CZI where
 a : CZ
 t : Int
def dCZI : List AVal -> Heap -> Option (CZI × List (Nat × Nat) × List Nat)
 | [x, y, .d t], H => match CAS x H, BZN y H with
  | some (c, f), some (l, e) => some (⟨⟨c, l⟩, BV t⟩, [], f ++ e)
  | _, _ => none
 | _, _ => none
def xCZI (x : CZI) : List AVal := [.d (XK x.a.c), .d (BB x.a.z), .int x.t]
def GV (a : CZ) : List Span := (AZ (AB a)).1
theorem CPG (h : Hul) : Hul.mk h.s h.m = h := rfl
theorem DHW (a : CZ) : (AZ (AB a)).1 = GV a := rfl
theorem BIX {a : CZ} (h : AS a = 0) : (GV a).length = a.c.ms.length := by
 have h3 := (PO h).2.2
 unfold GV
 unfold AZ at h3 ⊢
 rw [WH] at h3 ⊢
 cases hs : FG a.c with
 | false => rw [hs] at h3; cases h3
 | true => show (CR _ _).length = _; unfold CR; rw [rng_length, CJ]
theorem Eo (c : Cht) : (BE c).length = c.ms.length := rng_length _ _
def JU (a : CZ) (t : Int) : Nat -> Hul
 | 0 => zHul
 | k + 1 => bif DT t (gD (GV a) k).lo (gD (GV a) k).hi then RC (JU a t k) (gD (BE a.c) k) else JU a t k
def CEL (a : CZ) (t : Int) (g : Nat) : Bool := (CR (AB a) (parL (GV a) ((g : Int) + 1) (wr (t - 1)) (wr (t + 1)))).all DZ
def ME (a : CZ) (t : Int) : Nat -> Hul
 | 0 => JU a t a.c.ms.length
 | g + 1 => bif CEL a t g then RC (RC (ME a t g) (gD (BE a.c) g)) (gD (BE a.c) (g + 1)) else ME a t g
def vE (x : CZI) : Hul := bif DT x.t (-100000000) 100000000 then ME x.a x.t (x.a.c.ms.length - 1) else JU x.a x.t x.a.c.ms.length
def Xc (x : CZI) : Span × Int := bif AS x.a == 0 then MG (vE x) else (⟨0, 0⟩, AS x.a)
def C_Stage : Ctr := { α := CZI, xs := xCZI, val := λ x => .tup [.d (CH (Xc x).1), .int (Xc x).2], keep := λ _ => [], pre := λ x => [x.a.c.ms.length < 4611686018427387904 /\ x.a.c.ns.length < 4611686018427387904 /\ x.a.z.length < 4611686018427387904] }
def sgH (x : CZI) (h : Hul) : List (Nat × HCell) := [(201, .live (.box [.int x.t])), (202, .live (.box [.int 0, .int 0])), (203, .live (.box [.bptr 208 0])), (204, .live (.box [.d (AT (GV x.a))])), (205, .live (.box [.d (AT (BE x.a.c))])), (206, .live (hlB h)), (207, .live (.box [.fn (.func AMH) [.bptr 206 0] []])), (208, .live (dkB (AB x.a) 209)), (209, .live (dkM (AB x.a)))]
def sg7 (x : CZI) : Shape := { α := Nat, dflt := 0, T := λ k => ⟨[(5, .bptr 201 0), (6, .bptr 202 0), (8, .bptr 203 0), (9, .bptr 204 0), (10, .bptr 205 0), (12, .bptr 206 0), (13, .bptr 207 0), (32, .int x.a.c.ms.length), (33, .int k)], sgH x (JU x.a x.t k)⟩, inv := λ k => k <= x.a.c.ms.length, meas := λ k => x.a.c.ms.length - k, first := [(201, 1016), (202, 1032), (203, 2128), (204, 2144), (205, 2160), (206, 5000), (207, 6016), (208, 2032), (209, 2033)] }
def sg1 (x : CZI) (l : Nat) : Shape := { α := Nat, dflt := 0, T := λ g => ⟨[(0, .fn (.yield l) [] []), (1, .bptr 14016 0), (12, .int (wr ((x.a.c.ms.length : Int) - 1))), (13, .int g)], sgH x (ME x.a x.t g) ++ [(14016, .live (.box [.bptr 208 0]))]⟩, inv := λ g => g <= x.a.c.ms.length - 1, meas := λ g => 50 - g }
noncomputable def itSg (x : CZI) : IterAnn := { fn := RY, code := AL RY, live := [5, 6, 8, 9, 10, 12, 13], ann := { base := λ id => 100000 + 1000 * (id + 1), Γ := Sym.look [], E := [201, 202, 203, 204, 205, 206, 207, 208, 209, 14016], n := 66, inner := λ gs id => if id = 1 then some [sg1 x (gs.getD 0 0)] else none } }
noncomputable def CYF (x : CZI) : Ann := { ann 92 [(WL, C_rdO.spec dCZ), (sZ, s_in), (AMH, C_hadd.spec dHuS), (AWB, C_gaps.spec Dh), (AEP, C_part.spec dDkQ), (HN, C_nar.spec dDkS), (AEO, C_who.spec dHu1)] with iter := λ g => if g = LW then some (itSg x) else none, loops := λ id => if id = 7 then some [sg7 x] else none }
def CPP : Ann := ann 92 [(WL, C_rdX.spec dCZ)]
def CWQ (x : CZI) : Prop := BA Try.prog (CYF x) ADI (AL ADI) (xCZI x) (AG []) (.tup [.d (CH (MG (vE x)).1), .int (MG (vE x)).2]) [] [] []
abbrev jA (x : CZI) : List Mk := AF x.a.c.ms.length λ (i : Nat) => gD x.a.c.ms i
abbrev oJ (x : CZI) : Nat := (jA x).length
abbrev BGC (x : CZI) (i : Nat) : Mk := gD (jA x) i
abbrev fO (x : CZI) : List Nt := AF x.a.c.ns.length λ (i : Nat) => gD x.a.c.ns i
abbrev iD (x : CZI) : Nat := (fO x).length
abbrev qE (x : CZI) (i : Nat) : Nt := gD (fO x) i
abbrev ARD (x : CZI) (i : Nat) : Span := (qE x i).t
abbrev AYP (x : CZI) (i : Nat) : Span := (qE x i).s
abbrev nH (x : CZI) : List Int := AF x.a.z.length λ (i : Nat) => gD x.a.z i
abbrev kM (x : CZI) : Nat := (nH x).length
abbrev yN (x : CZI) : Cht := Cht.mk x.a.c.p x.a.c.base x.a.c.scale x.a.c.off (jA x) (fO x)
abbrev G0 (x : CZI) : CZ := CZ.mk (yN x) (nH x)
abbrev XS (x : CZI) : Dk := AB (G0 x)
abbrev B6 (x : CZI) : List Span := (AZ (XS x)).fst
abbrev Y1 (x : CZI) : Nat := (B6 x).length
abbrev U1 (a : Nat) : Prop := (↑a : Int) = (0 : Int)
abbrev DN : Prop := Int.ofNat (0 : Nat) = Int.ofNat (0 : Nat)
abbrev E6 (x : CZI) (i : Nat) : Span := gD (B6 x) i
abbrev G3 (x : CZI) : List Span := BE (yN x)
abbrev wL (i : Nat) (x : CZI) : Prop := i < (BE x.a.c).length
abbrev J3 (x : CZI) (i : Nat) : Span := gD (G3 x) i
abbrev KJ (x : CZI) : Cht := (XS x).c
abbrev zE (x : CZI) : Span := (KJ x).p
abbrev A3 (x : CZI) : List Mk := (KJ x).ms
abbrev Mg (i : Nat) (x : CZI) : Prop := i < (AB x.a).c.ms.length
abbrev PH (x : CZI) (i : Nat) : Int := (gD (AB x.a).c.ms i).pl
abbrev wE (x : CZI) (i : Nat) : Mk := gD (A3 x) i
abbrev MX (x : CZI) (i : Nat) : Int := (gD (AB x.a).c.ms i).ht
abbrev VW (x : CZI) : List Nt := (KJ x).ns
abbrev Ml (i : Nat) (x : CZI) : Prop := i < (AB x.a).c.ns.length
abbrev OP (x : CZI) (i : Nat) : Int := (gD (AB x.a).c.ns i).mi
abbrev Nk (x : CZI) (i : Nat) : Nt := gD (VW x) i
abbrev R6 (x : CZI) (i : Nat) : Span := (gD (AB x.a).c.ns i).t
abbrev OF (x : CZI) (i : Nat) : Int := (R6 x i).lo
abbrev wI (x : CZI) (i : Nat) : Span := (Nk x i).t
abbrev PC (x : CZI) (i : Nat) : Int := (R6 x i).hi
abbrev tB (x : CZI) (i : Nat) : Span := (gD (AB x.a).c.ns i).s
abbrev NR (x : CZI) (i : Nat) : Int := (tB x i).lo
abbrev zL (x : CZI) (i : Nat) : Span := (Nk x i).s
abbrev NO (x : CZI) (i : Nat) : Int := (tB x i).hi
abbrev Kp (x : CZI) (n : Int) : Nt := ntOf (VW x) n
abbrev K4 (x : CZI) (n : Int) : Span := (Kp x n).t
abbrev W6 (x : CZI) (n : Int) : Span := (Kp x n).s
abbrev VO (a : Nat) : Prop := (0 : Int) <= (↑a : Int)
abbrev uG (a : Nat) (x : CZI) : Prop := VO a /\ (↑a : Int) < (↑(GV x.a).length : Int)
abbrev H5 (a : Nat) (x : CZI) : Prop := VO a /\ (↑a : Int) < (↑(BE x.a.c).length : Int)
abbrev Nn (x : CZI) (a : Nat) : Prop := (gD (BE x.a.c) a).lo = (gD (BE x.a.c) a).lo
abbrev Nq (x : CZI) (a : Nat) : Prop := (gD (BE x.a.c) a).hi = (gD (BE x.a.c) a).hi
abbrev V7 (x : CZI) (a : Nat) : Prop := (JU x.a x.t a).s.lo = (JU x.a x.t a).s.lo
abbrev C3 (x : CZI) (a : Nat) : Prop := (JU x.a x.t a).s.hi = (JU x.a x.t a).s.hi
abbrev D9 (x : CZI) (a : Nat) : Prop := (JU x.a x.t a).m = (JU x.a x.t a).m
abbrev zB (x : CZI) (a : Nat) : Prop := V7 x a /\ C3 x a /\ D9 x a
abbrev U7 (x : CZI) : Prop := (↑x.a.c.ms.length : Int) = (↑x.a.c.ms.length : Int)
abbrev GM (a : Nat) : Int := IntKind.i64.wrap ((↑a : Int) + (1 : Int))
abbrev YG (a : Nat) (a1 : Nat) : Prop := (↑a : Int) = GM a1
abbrev PA (x : CZI) : Prop := (GV x.a).length = (GV x.a).length
abbrev OI (x : CZI) : Prop := ∀ (i : Nat), i < (GV x.a).length -> (gD (GV x.a) i).lo = (gD (GV x.a) i).lo /\ (gD (GV x.a) i).hi = (gD (GV x.a) i).hi
abbrev MQ (x : CZI) : Prop := (BE x.a.c).length = (BE x.a.c).length
abbrev NQ (x : CZI) : Prop := ∀ (i : Nat), wL i x -> Nn x i /\ Nq x i
abbrev uZ (x : CZI) (a : Nat) : Hul := Hul.mk (JU x.a x.t a).s (JU x.a x.t a).m
abbrev uR (x : CZI) (a : Nat) : Span := (RC (uZ x a) (gD (BE x.a.c) a)).s
abbrev IY (x : CZI) : Prop := (AB x.a).c.p.lo = (AB x.a).c.p.lo
abbrev JA (x : CZI) : Prop := (AB x.a).c.p.hi = (AB x.a).c.p.hi
abbrev IQ (x : CZI) : Prop := (AB x.a).c.base = (AB x.a).c.base
abbrev JF (x : CZI) : Prop := (AB x.a).c.scale = (AB x.a).c.scale
abbrev IU (x : CZI) : Prop := (AB x.a).c.off = (AB x.a).c.off
abbrev IZ (x : CZI) : Prop := ∀ (i : Nat), i < (40 : Nat) -> (AB x.a).sp i = (AB x.a).sp i
abbrev II (x : CZI) : Prop := ∀ (n : Int), (AB x.a).st n = (AB x.a).st n
abbrev OT (x : CZI) : Prop := IY x /\ JA x /\ IQ x /\ JF x /\ IU x /\ (AB x.a).c.ms.length = (AB x.a).c.ms.length /\ (∀ (i : Nat), Mg i x -> PH x i =
 PH x i /\ MX x i = MX x i) /\ (AB x.a).c.ns.length = (AB x.a).c.ns.length /\ (∀ (i : Nat), Ml i x -> OP x i = OP x i /\ OF x i = OF x i /\ PC x i =
 PC x i /\ NR x i = NR x i /\ NO x i = NO x i) /\ IZ x /\ AO = AO /\ (∀ (n : Int), hasN (AB x.a).c.ns n = hasN (AB x.a).c.ns n) /\ II x /\ ∀ (n : Int), (ntOf (AB
 x.a).c.ns n).mi = (ntOf (AB x.a).c.ns n).mi /\ (ntOf (AB x.a).c.ns n).t.lo = (ntOf (AB x.a).c.ns n).t.lo /\ (ntOf (AB x.a).c.ns n).t.hi = (ntOf (AB x.a).c.ns n).t.hi /\ (ntOf (AB x.a).c.ns n).s.lo = (ntOf (AB
 x.a).c.ns n).s.lo /\ (ntOf (AB x.a).c.ns n).s.hi = (ntOf (AB x.a).c.ns n).s.hi
abbrev C6 (x : CZI) (a : Nat) : Nat := x.a.c.ms.length - a
abbrev W5 (a : Nat) (x : CZI) (a1 : Nat) : Prop := a.le x.a.c.ms.length /\ C6 x a < C6 x a1
abbrev Mt (x : CZI) : List Mk := AF (AB x.a).c.ms.length λ (i : Nat) => gD (AB x.a).c.ms i
abbrev KK (x : CZI) : Nat := (Mt x).length
abbrev La (x : CZI) : Prop := KK x = (AB x.a).c.ms.length
abbrev yH (x : CZI) (i : Nat) : Mk := gD (Mt x) i
abbrev yM (x : CZI) (i : Nat) : Int := (yH x i).pl
abbrev L5 (x : CZI) (i : Nat) : Int := (yH x i).ht
abbrev Lb (x : CZI) : Prop := ∀ (i : Nat), i < KK x -> yM x i = PH x i /\ L5 x i = MX x i
abbrev PE (x : CZI) : List Nt := AF (AB x.a).c.ns.length λ (i : Nat) => gD (AB x.a).c.ns i
abbrev Lv (x : CZI) : Nat := (PE x).length
abbrev Mu (x : CZI) : Prop := Lv x = (AB x.a).c.ns.length
abbrev Of (x : CZI) (i : Nat) : Nt := gD (PE x) i
abbrev vR (x : CZI) (i : Nat) : Int := (Of x i).mi
abbrev zF (x : CZI) (i : Nat) : Span := (Of x i).t
abbrev yQ (x : CZI) (i : Nat) : Int := (zF x i).lo
abbrev wW (x : CZI) (i : Nat) : Int := (zF x i).hi
abbrev S2 (x : CZI) (i : Nat) : Span := (Of x i).s
abbrev vM (x : CZI) (i : Nat) : Int := (S2 x i).lo
abbrev yL (x : CZI) (i : Nat) : Int := (S2 x i).hi
abbrev Mq (x : CZI) : Prop := ∀ (i : Nat), i < Lv x -> vR x i = OP x i /\ yQ x i = OF x i /\ wW x i = PC x i /\ vM x i = NR x i /\ yL x i
 = NO x i
abbrev L2 (x : CZI) (n : Int) : Bool := hasN (PE x) n
abbrev Ma (x : CZI) : Prop := ∀ (n : Int), L2 x n = hasN (AB x.a).c.ns n
abbrev Kn (x : CZI) (n : Int) : Nt := ntOf (PE x) n
abbrev T6 (x : CZI) (n : Int) : Int := (Kn x n).mi
abbrev U6 (x : CZI) (n : Int) : Span := (Kn x n).t
abbrev uE (x : CZI) (n : Int) : Int := (U6 x n).lo
abbrev G6 (x : CZI) (n : Int) : Int := (U6 x n).hi
abbrev yG (x : CZI) (n : Int) : Span := (Kn x n).s
abbrev zM (x : CZI) (n : Int) : Int := (yG x n).lo
abbrev sX (x : CZI) (n : Int) : Int := (yG x n).hi
abbrev Br (x : CZI) : Prop := ∀ (n : Int), T6 x n = (ntOf (AB x.a).c.ns n).mi /\ uE x n = (ntOf (AB x.a).c.ns n).t.lo /\ G6 x n = (ntOf (AB x.a).c.ns n).t.hi /\ zM x n = (ntOf
 (AB x.a).c.ns n).s.lo /\ sX x n = (ntOf (AB x.a).c.ns n).s.hi
abbrev Cj (x : CZI) : Prop := (AB x.a).c.ms.length = KK x
abbrev ZO (x : CZI) : Prop := ∀ (i : Nat), Mg i x -> PH x i = yM x i /\ MX x i = L5 x i
abbrev Ch (x : CZI) : Prop := (AB x.a).c.ns.length = Lv x
abbrev Cv (x : CZI) : Prop := ∀ (i : Nat), Ml i x -> OP x i = vR x i /\ OF x i = yQ x i /\ PC x i = wW x i /\ NR x i = vM x i /\ NO x i
 = yL x i
abbrev Ah (x : CZI) : Prop := ∀ (n : Int), hasN (AB x.a).c.ns n = L2 x n
abbrev Ao (x : CZI) : Prop := ∀ (n : Int), (ntOf (AB x.a).c.ns n).mi = T6 x n /\ (ntOf (AB x.a).c.ns n).t.lo = uE x n /\ (ntOf (AB x.a).c.ns n).t.hi = G6 x n /\ (ntOf (AB x.a).c.ns
 n).s.lo = zM x n /\ (ntOf (AB x.a).c.ns n).s.hi = sX x n
abbrev PY (x : CZI) : Int := wr ((↑x.a.c.ms.length : Int) - (1 : Int))
abbrev Co (a : Nat) (x : CZI) : Prop := a.le (x.a.c.ms.length - (1 : Nat))
abbrev Bi (a : Nat) : Prop := (0 : Int) <= GM a
abbrev Bn (x : CZI) : List Span := AF (GV x.a).length λ (i : Nat) => gD (GV x.a) i
abbrev LA (x : CZI) : Nat := (Bn x).length
abbrev Xw (x : CZI) (i : Nat) : Span := gD (Bn x) i
abbrev Cb (x : CZI) : Int := IntKind.i64.wrap (x.t - (1 : Int))
abbrev ZM (x : CZI) : Int := IntKind.i64.wrap (x.t + (1 : Int))
abbrev aS (x : CZI) (a : Nat) : List Span := parL (Bn x) (GM a) (Cb x) (ZM x)
abbrev eM (x : CZI) (a : Nat) : Nat := (aS x a).length
abbrev Bt (x : CZI) (a : Nat) (i : Nat) : Span := gD (aS x a) i
abbrev YX (x : CZI) (a : Nat) : List Span := AF (eM x a) λ (i : Nat) => Bt x a i
abbrev ZV (x : CZI) (a : Nat) : Nat := (YX x a).length
abbrev Tw (x : CZI) (a : Nat) (i : Nat) : Span := gD (YX x a) i
abbrev Vn (x : CZI) (a : Nat) : Prop := (ME x.a x.t a).s.lo = (ME x.a x.t a).s.lo
abbrev cY (x : CZI) (a : Nat) : Prop := (ME x.a x.t a).s.hi = (ME x.a x.t a).s.hi
abbrev Xh (x : CZI) (a : Nat) : Prop := (ME x.a x.t a).m = (ME x.a x.t a).m
abbrev Uk (x : CZI) (a : Nat) : Prop := Vn x a /\ cY x a /\ Xh x a
abbrev Ay (x : CZI) (a : Nat) : Span := gD (BE x.a.c) (GM a).toNat
abbrev bL (x : CZI) (a : Nat) : Int := (Ay x a).lo
abbrev aG (x : CZI) (a : Nat) : Int := (Ay x a).hi
abbrev cS (x : CZI) (a : Nat) : Hul := Hul.mk (ME x.a x.t a).s (ME x.a x.t a).m
abbrev bJ (x : CZI) (a : Nat) : Hul := RC (cS x a) (gD (BE x.a.c) a)
abbrev ZH (x : CZI) (a : Nat) : Span := (bJ x a).s
abbrev bG (x : CZI) (a : Nat) : Int := (ZH x a).lo
abbrev bF (x : CZI) (a : Nat) : Int := (ZH x a).hi
abbrev Xl (x : CZI) : Prop := PY x = PY x
abbrev Vt (x : CZI) (a : Nat) : Span := (RC (Hul.mk (ZH x a) (bJ x a).m) (Ay x a)).s
abbrev Wz (a : Nat) : Nat := (50 : Nat) - a
abbrev dR (a : Nat) (x : CZI) (a1 : Nat) : Prop := Co a x /\ Wz a < Wz a1
abbrev Rg (l : Nat) (x : CZI) (a : Nat) : Prop := l = l /\ (LA x = (GV x.a).length /\ (∀ (i : Nat), i < LA x -> (Xw x i).lo = (gD (GV x.a) i).lo /\ (Xw x i).hi = (gD (GV x.a)
 i).hi) /\ GM a = GM a /\ Cb x = Cb x /\ ZM x = ZM x /\ IY x /\ JA x /\ IQ x /\ JF x /\ IU x /\ La x /\ Lb x /\ Mu x
 /\ Mq x /\ IZ x /\ AO = AO /\ Ma x /\ II x /\ Br x /\ IY x /\ JA x /\ IQ x /\ JF x /\ IU x /\ Cj x /\ ZO x /\ Ch x /\
 Cv x /\ IZ x /\ AO = AO /\ Ah x /\ II x /\ Ao x /\ (((1 : Nat) <= LA x /\ LA x <= (40 : Nat)) /\ Bi a /\ GM a <= (↑(LA x) : Int)) /\ ZV
 x a = eM x a /\ (∀ (i : Nat), i < ZV x a -> (Tw x a i).lo = (Bt x a i).lo /\ (Tw x a i).hi = (Bt x a i).hi) /\ IY x /\ JA x /\ IQ x /\ JF x /\
 IU x /\ La x /\ Lb x /\ Mu x /\ Mq x /\ IZ x /\ AO = AO /\ Ma x /\ II x /\ Br x /\ IY x /\ JA x /\ IQ x /\ JF x /\ IU x
 /\ Cj x /\ ZO x /\ Ch x /\ Cv x /\ IZ x /\ AO = AO /\ Ah x /\ II x /\ Ao x /\ ZV x a = KK x /\ (1 : Nat) <= KK x /\ KK x <= (40 :
 Nat)) /\ bif (CR (Dk.mk (Cht.mk (AB x.a).c.p (AB x.a).c.base (AB x.a).c.scale (AB x.a).c.off (Mt x) (PE x)) (AB x.a).st (AB x.a).sp) (YX x a)).all DZ then (H5 a x /\
 Nn x a /\ Nq x a /\ Uk x a) /\ ((Bi a /\ GM a < (↑(BE x.a.c).length : Int)) /\ bL x a = bL x a /\ aG x a = aG x a /\ bG x a = bG
 x a /\ bF x a = bF x a /\ true = true) /\ ∃ (a_1 : Nat), (Fn.yield l = Fn.yield l /\ Xl x /\ YG a_1 a /\ x.t = x.t /\ DN /\ DN /\ PA x /\ OI x /\ MQ x /\
 NQ x /\ (ME x.a x.t a_1).s.lo = (Vt x a).lo /\ (ME x.a x.t a_1).s.hi = (Vt x a).hi /\ (ME x.a x.t a_1).m = true /\ OT x) /\ dR a_1 x a else ∃ (a_1 : Nat), (Fn.yield l =
 Fn.yield l /\ Xl x /\ YG a_1 a /\ x.t = x.t /\ DN /\ DN /\ PA x /\ OI x /\ MQ x /\ NQ x /\ (ME x.a x.t a_1).s.lo = (ME x.a x.t a).s.lo /\ (ME x.a x.t a_1).s.hi
 = (ME x.a x.t a).s.hi /\ (ME x.a x.t a_1).m = (ME x.a x.t a).m /\ OT x) /\ dR a_1 x a
abbrev bR (x : CZI) (a : Nat) : Span × Int := MG (cS x a)
abbrev Sv (x : CZI) (a : Nat) : Span := (bR x a).fst
abbrev Vu (x : CZI) (a : Nat) : Span × Int := MG (uZ x a)
abbrev Ww (x : CZI) (a : Nat) : Span := (Vu x a).fst
theorem DEK (x : CZI) : (CWQ x) = ((x.a.c.p.lo = x.a.c.p.lo /\ x.a.c.p.hi = x.a.c.p.hi /\ x.a.c.base = x.a.c.base /\ x.a.c.scale = x.a.c.scale /\ x.a.c.off = x.a.c.off /\ oJ x = x.a.c.ms.length /\ (∀ (i : Nat),
 i < oJ x -> (BGC x i).pl = (gD x.a.c.ms i).pl /\ (BGC x i).ht = (gD x.a.c.ms i).ht) /\ iD x = x.a.c.ns.length /\ (∀ (i : Nat), i < iD x -> (qE x i).mi = (gD x.a.c.ns i).mi /\ (ARD
 x i).lo = (gD x.a.c.ns i).t.lo /\ (ARD x i).hi = (gD x.a.c.ns i).t.hi /\ (AYP x i).lo = (gD x.a.c.ns i).s.lo /\ (AYP x i).hi = (gD x.a.c.ns i).s.hi) /\ kM x = x.a.z.length /\ (∀ (i : Nat), i <
 kM x -> gD (nH x) i = gD x.a.z i) /\ (oJ x < (4611686018427387904 : Nat) /\ iD x < (4611686018427387904 : Nat) /\ kM x < (4611686018427387904 : Nat)) /\ AS (G0 x) = (0 : Int)) /\
 (∃ (a : Nat), ((↑x.a.c.ms.length : Int) = (↑(Y1 x) : Int) /\ U1 a /\ x.t = x.t /\ DN /\ DN /\ (GV x.a).length = Y1 x /\ (∀ (i : Nat), i < (GV x.a).length -> (gD (GV x.a) i).lo =
 (E6 x i).lo /\ (gD (GV x.a) i).hi = (E6 x i).hi) /\ (BE x.a.c).length = (G3 x).length /\ (∀ (i : Nat), wL i x -> (gD (BE x.a.c) i).lo = (J3 x i).lo /\ (gD (BE x.a.c) i).hi =
 (J3 x i).hi) /\ (JU x.a x.t a).s.lo = (0 : Int) /\ (JU x.a x.t a).s.hi = (0 : Int) /\ (JU x.a x.t a).m = false /\ (AB x.a).c.p.lo = (zE x).lo /\ (AB x.a).c.p.hi = (zE x).hi /\ (AB
 x.a).c.base = (KJ x).base /\ (AB x.a).c.scale = (KJ x).scale /\ (AB x.a).c.off = (KJ x).off /\ (AB x.a).c.ms.length = (A3 x).length /\ (∀ (i : Nat), Mg i x -> PH x i =
 (wE x i).pl /\ MX x i = (wE x i).ht) /\ (AB x.a).c.ns.length = (VW x).length /\ (∀ (i : Nat), Ml i x -> OP x i = (Nk x i).mi /\ OF x i = (wI x i).lo /\
 PC x i = (wI x i).hi /\ NR x i = (zL x i).lo /\ NO x i = (zL x i).hi) /\ (∀ (i : Nat), i < (40 : Nat) -> (AB x.a).sp i = (XS x).sp i) /\ AO = AO /\ (∀ (n : Int), hasN
 (AB x.a).c.ns n = hasN (VW x) n) /\ (∀ (n : Int), (AB x.a).st n = (XS x).st n) /\ ∀ (n : Int), (ntOf (AB x.a).c.ns n).mi = (Kp x n).mi /\ (ntOf (AB x.a).c.ns n).t.lo = (K4 x n).lo /\
 (ntOf (AB x.a).c.ns n).t.hi = (K4 x n).hi /\ (ntOf (AB x.a).c.ns n).s.lo = (W6 x n).lo /\ (ntOf (AB x.a).c.ns n).s.hi = (W6 x n).hi) /\ a.le x.a.c.ms.length) /\ ∀ (a : Nat), a.le x.a.c.ms.length
 -> bif decide ((↑a : Int) < (↑x.a.c.ms.length : Int)) then (uG a x /\ uG a x) /\ bif DT x.t (gD (GV x.a) a).lo (gD (GV x.a) a).hi then (H5 a x /\ Nn x a /\ Nq x a /\ zB x a) /\
 ∃ (a_2 : Nat), (U7 x /\ YG a_2 a /\ x.t = x.t /\ DN /\ DN /\ PA x /\ OI x /\ MQ x /\ NQ x /\ (JU x.a x.t a_2).s.lo = (uR x a).lo /\ (JU x.a x.t a_2).s.hi
 = (uR x a).hi /\ (JU x.a x.t a_2).m = true /\ OT x) /\ W5 a_2 x a else ∃ (a_2 : Nat), (U7 x /\ YG a_2 a /\ x.t = x.t /\ DN /\ DN /\ PA x /\ OI x /\
 MQ x /\ NQ x /\ (JU x.a x.t a_2).s.lo = (JU x.a x.t a).s.lo /\ (JU x.a x.t a_2).s.hi = (JU x.a x.t a).s.hi /\ (JU x.a x.t a_2).m = (JU x.a x.t a).m /\ OT x) /\ W5 a_2 x a else bif
 DT x.t (-100000000 : Int) (100000000 : Int) then (IY x /\ JA x /\ IQ x /\ JF x /\ IU x /\ La x /\ Lb x /\ Mu x /\ Mq x /\ IZ x /\ AO = AO /\
 Ma x /\ II x /\ Br x /\ IY x /\ JA x /\ IQ x /\ JF x /\ IU x /\ Cj x /\ ZO x /\ Ch x /\ Cv x /\ IZ x /\ AO = AO /\
 Ah x /\ II x /\ Ao x) /\ ∀ (l : Nat), (∃ (a_2 : Nat), (Fn.yield l = Fn.yield l /\ PY x = IntKind.i64.wrap ((↑(AB x.a).c.ms.length : Int) - (1 : Int)) /\ U1 a_2 /\ x.t = x.t /\
 DN /\ DN /\ PA x /\ OI x /\ MQ x /\ NQ x /\ (ME x.a x.t a_2).s.lo = (JU x.a x.t a).s.lo /\ (ME x.a x.t a_2).s.hi = (JU x.a x.t a).s.hi /\ (ME x.a x.t a_2).m = (JU x.a
 x.t a).m /\ OT x) /\ Co a_2 x) /\ ∀ (a : Nat), Co a x -> bif decide ((↑a : Int) < PY x) then ((Bi a /\ GM a < (↑(AB x.a).c.ms.length : Int)) /\ VO a /\ (↑a : Int) <
 (↑(AB x.a).c.ms.length : Int)) /\ (VO a /\ (↑a : Int) < (↑(40 : Nat) : Int)) /\ a.succ.le (40 : Nat) /\ bif (AB x.a).sp a then Rg l x a else Rg l x a else (Vn x a /\ cY x a /\
 Xh x a /\ Uk x a) /\ (MG (vE x)).fst.lo = (Sv x a).lo /\ (MG (vE x)).fst.hi = (Sv x a).hi /\ (MG (vE x)).snd = (bR x a).snd else (V7 x a /\ C3 x a /\
 D9 x a /\ zB x a) /\ (MG (vE x)).fst.lo = (Ww x a).lo /\ (MG (vE x)).fst.hi = (Ww x a).hi /\ (MG (vE x)).snd = (Vu x a).snd) := by kernel_rfl
def CRM (x : CZI) : Prop := BA Try.prog CPP ADI (AL ADI) (xCZI x) (AG []) (.tup [.d (CH zSp), .int (AS x.a)]) [] [] []
theorem CZW (x : CZI) : (CRM x) = ((x.a.c.p.lo = x.a.c.p.lo /\ x.a.c.p.hi = x.a.c.p.hi /\ x.a.c.base = x.a.c.base /\ x.a.c.scale = x.a.c.scale /\ x.a.c.off = x.a.c.off /\ (AF x.a.c.ms.length λ (i : Nat) => gD
 x.a.c.ms i).length = x.a.c.ms.length /\ (∀ (i : Nat), i < (AF x.a.c.ms.length λ (i : Nat) => gD x.a.c.ms i).length -> (gD (AF x.a.c.ms.length λ (i : Nat) => gD x.a.c.ms i) i).pl = (gD x.a.c.ms i).pl /\ (gD (AF
 x.a.c.ms.length λ (i : Nat) => gD x.a.c.ms i) i).ht = (gD x.a.c.ms i).ht) /\ (AF x.a.c.ns.length λ (i : Nat) => gD x.a.c.ns i).length = x.a.c.ns.length /\ (∀ (i : Nat), i < (AF x.a.c.ns.length λ (i : Nat) => gD
 x.a.c.ns i).length -> (gD (AF x.a.c.ns.length λ (i : Nat) => gD x.a.c.ns i) i).mi = (gD x.a.c.ns i).mi /\ (gD (AF x.a.c.ns.length λ (i : Nat) => gD x.a.c.ns i) i).t.lo = (gD x.a.c.ns i).t.lo /\ (gD (AF
 x.a.c.ns.length λ (i : Nat) => gD x.a.c.ns i) i).t.hi = (gD x.a.c.ns i).t.hi /\ (gD (AF x.a.c.ns.length λ (i : Nat) => gD x.a.c.ns i) i).s.lo = (gD x.a.c.ns i).s.lo /\ (gD (AF x.a.c.ns.length λ (i : Nat) => gD
 x.a.c.ns i) i).s.hi = (gD x.a.c.ns i).s.hi) /\ (AF x.a.z.length λ (i : Nat) => gD x.a.z i).length = x.a.z.length /\ (∀ (i : Nat), i < (AF x.a.z.length λ (i : Nat) => gD x.a.z i).length -> gD (AF x.a.z.length λ (i :
 Nat) => gD x.a.z i) i = gD x.a.z i) /\ ((AF x.a.c.ms.length λ (i : Nat) => gD x.a.c.ms i).length < (4611686018427387904 : Nat) /\ (AF x.a.c.ns.length λ (i : Nat) => gD x.a.c.ns i).length < (4611686018427387904 : Nat)
 /\ (AF x.a.z.length λ (i : Nat) => gD x.a.z i).length < (4611686018427387904 : Nat)) /\ AS (CZ.mk (Cht.mk x.a.c.p x.a.c.base x.a.c.scale x.a.c.off (AF x.a.c.ms.length λ (i : Nat) => gD x.a.c.ms i) (AF
 x.a.c.ns.length λ (i : Nat) => gD x.a.c.ns i)) (AF x.a.z.length λ (i : Nat) => gD x.a.z i)) ≠ (0 : Int)) /\ bif AS (CZ.mk (Cht.mk x.a.c.p x.a.c.base x.a.c.scale x.a.c.off (AF x.a.c.ms.length λ (i : Nat) => gD
 x.a.c.ms i) (AF x.a.c.ns.length λ (i : Nat) => gD x.a.c.ns i)) (AF x.a.z.length λ (i : Nat) => gD x.a.z i)) != (0 : Int) then Int.ofNat (0 : Nat) = Int.ofNat (0 : Nat) /\ Int.ofNat (0 : Nat) = Int.ofNat (0 : Nat) /\
 AS x.a = AS (CZ.mk (Cht.mk x.a.c.p x.a.c.base x.a.c.scale x.a.c.off (AF x.a.c.ms.length λ (i : Nat) => gD x.a.c.ms i) (AF x.a.c.ns.length λ (i : Nat) => gD x.a.c.ns i)) (AF x.a.z.length λ (i : Nat) => gD
 x.a.z i)) else False) := by kernel_rfl
theorem DLW (x : CZI) (h1 : x.a.c.ms.length < 4611686018427387904 /\ x.a.c.ns.length < 4611686018427387904 /\ x.a.z.length < 4611686018427387904) (c0 : AS x.a = 0) : CWQ x := by
 have tl := BIX c0
 have sl := Eo x.a.c
 have hl := DG (PO c0).1
 obtain ⟨_, ⟨n1, n2⟩, _⟩ := hl
 have w1 : wr ((x.a.c.ms.length : Int) - 1) = ((x.a.c.ms.length - 1 : Nat) : Int) := by unfold wr; rw [EN (by omega) (by omega)]; omega
 have w2 : IntKind.i64.wrap ((x.a.c.ms.length : Int) - 1) = ((x.a.c.ms.length - 1 : Nat) : Int) := w1
 have po : ∀ g : Nat, (CR (AB x.a) (parL (GV x.a) ((g : Int) + 1) (IntKind.i64.wrap (x.t - 1)) (IntKind.i64.wrap (x.t + 1)))).all DZ = CEL x.a x.t g := λ _ => rfl
 rw [DEK]; delta jA oJ BGC fO iD qE ARD AYP nH kM yN G0 XS B6 Y1 U1 DN E6 G3 wL J3 KJ zE A3 Mg PH wE MX VW Ml OP Nk R6 OF wI PC tB NR zL NO Kp K4 W6 VO uG H5 Nn Nq V7 C3 D9 zB U7 GM YG PA OI MQ NQ uZ uR IY JA IQ JF IU IZ II OT C6 W5 Mt KK La yH yM L5 Lb PE Lv Mu Of vR zF yQ wW S2 vM yL Mq L2 Ma Kn T6 U6 uE G6 yG zM sX Br Cj ZO Ch Cv Ah Ao PY Co Bi Bn LA Xw Cb ZM aS eM Bt YX ZV Tw Vn cY Xh Uk Ay bL aG cS bJ ZH bG bF Xl Vt Wz dR Rg bR Sv Vu Ww; simp only [AU, eq_self, implies_true, and_self, true_and, and_true, true_implies, forall_const, decide_eq_true_eq, decide_eq_false_iff_not, Int.toNat_natCast, dSpan_eSpan, dInt_eInt, AY, AW, AX, Nat.zero_add, Int.zero_sub, Nat.le_eq, Nat.succ_eq_add_one, Nat.add_one_le_iff, Bool.not_eq_true', Bool.not_eq_false', rng_length, AK, AJ, BI, RO, WH, NE, QZ, CPG, DHW]; simp only [tl, sl, w1, w2, Hv]
 have e1 : ∀ k, DT x.t (gD (GV x.a) k).lo (gD (GV x.a) k).hi = true -> JU x.a x.t (k + 1) = RC (JU x.a x.t k) (gD (BE x.a.c) k) := λ k h => by
  show (bif DT x.t (gD (GV x.a) k).lo (gD (GV x.a) k).hi then _ else _) = _; rw [h]; rfl
 have e0 : ∀ k, DT x.t (gD (GV x.a) k).lo (gD (GV x.a) k).hi = false -> JU x.a x.t (k + 1) = JU x.a x.t k := λ k h => by
  show (bif DT x.t (gD (GV x.a) k).lo (gD (GV x.a) k).hi then _ else _) = _; rw [h]; rfl
 have f1 : ∀ g, CEL x.a x.t g = true -> ME x.a x.t (g + 1) = RC (RC (ME x.a x.t g) (gD (BE x.a.c) g)) (gD (BE x.a.c) (g + 1)) := λ g h => by
  show (bif CEL x.a x.t g then _ else _) = _; rw [h]; rfl
 have f0 : ∀ g, CEL x.a x.t g = false -> ME x.a x.t (g + 1) = ME x.a x.t g := λ g h => by
  show (bif CEL x.a x.t g then _ else _) = _; rw [h]; rfl
 refine ⟨⟨h1, c0⟩, ⟨0, ⟨trivial, rfl, rfl, rfl, rfl⟩, Nat.zero_le _⟩, λ k hk => ⟨λ hlt => ⟨by omega, λ hin => ⟨by omega, k + 1, ⟨(FM (by omega)).symm, ?_, ?_, ?_⟩, by omega, by omega⟩, λ hin => ⟨k + 1, ⟨(FM (by omega)).symm, ?_, ?_, ?_⟩, by omega, by omega⟩⟩, λ hge => ⟨λ ht => ⟨⟨0, ⟨trivial, rfl, ?_, ?_, ?_⟩, Nat.zero_le _⟩, λ g hg => ⟨λ hlt => ?_, λ hgg => ?_⟩⟩, λ ht => ?_⟩⟩⟩
 ·rw [e1 k hin]
 ·rw [e1 k hin]
 ·rw [e1 k hin]; rfl
 ·rw [e0 k hin]
 ·rw [e0 k hin]
 ·rw [e0 k hin]
 ·obtain rfl : k = x.a.c.ms.length := by omega
  rfl
 ·obtain rfl : k = x.a.c.ms.length := by omega
  rfl
 ·obtain rfl : k = x.a.c.ms.length := by omega
  rfl
 ·have hlt : g < x.a.c.ms.length - 1 := by omega
  have ew : IntKind.i64.wrap ((g : Int) + 1) = (g : Int) + 1 := by rw [FM (by omega)]; rfl
  have tn : ((g : Int) + 1).toNat = g + 1 := by omega
  have ec : ((g + 1 : Nat) : Int) = (g : Int) + 1 := rfl
  simp only [ew, tn, po]
  have body : ((((0 : Nat) < x.a.c.ms.length /\ x.a.c.ms.length <= 40) /\ 0 <= (g : Int) + 1 /\ (g : Int) + 1 <= x.a.c.ms.length)) := ⟨⟨by omega, by omega⟩, by omega, by omega⟩
  refine ⟨⟨⟨by omega, by omega⟩, by omega, by omega⟩, ⟨by omega, by omega⟩, by omega, λ _ => ?_, λ _ => ?_⟩ <;>
  ·refine ⟨⟨body, trivial, by omega, n2⟩, λ h => ⟨⟨by omega, by omega⟩, ⟨by omega, by omega⟩, g + 1, ⟨ec, ?_, ?_, ?_⟩, by omega, by omega⟩, λ h => ⟨g + 1, ⟨ec, ?_, ?_, ?_⟩, by omega, by omega⟩⟩
   ·rw [f1 g h]
   ·rw [f1 g h]
   ·rw [f1 g h]; rfl
   ·rw [f0 g h]
   ·rw [f0 g h]
   ·rw [f0 g h]
 ·obtain rfl : g = x.a.c.ms.length - 1 := by omega
  have : vE x = ME x.a x.t (x.a.c.ms.length - 1) := by unfold vE; rw [ht]; rfl
  rw [this]; exact ⟨rfl, rfl, rfl⟩
 ·obtain rfl : k = x.a.c.ms.length := by omega
  have : vE x = JU x.a x.t x.a.c.ms.length := by unfold vE; rw [ht]; rfl
  rw [this]; exact ⟨rfl, rfl, rfl⟩
def RI (x : CZI) : Nat -> Hul × Bool
 | 0 => (zHul, false)
 | k + 1 => bif (RI x k).2 then RI x k else bif decide ((gD (BE x.a.c) k).hi >= x.t) then (RC (RI x k).1 (gD (GV x.a) k), decide ((gD (BE x.a.c) k).lo >= x.t)) else RI x k
structure FsR where
 s : Span
 b : Bool
 e : Int
def fsV (x : CZI) : FsR := ⟨(MG (RI x x.a.c.ms.length).1).1, bif (RI x x.a.c.ms.length).2 then (MG (RI x x.a.c.ms.length).1).2 == 0 else false, (MG (RI x x.a.c.ms.length).1).2⟩
def WM (x : CZI) : FsR := bif AS x.a == 0 then fsV x else ⟨⟨0, 0⟩, false, AS x.a⟩
def C_First : Ctr := { α := CZI, xs := xCZI, val := λ x => .tup [.d (CH (WM x).s), .bool (WM x).b, .int (WM x).e], keep := λ _ => [], pre := λ x => [x.a.c.ms.length < 4611686018427387904 /\ x.a.c.ns.length < 4611686018427387904 /\ x.a.z.length < 4611686018427387904] }
def fs7 (x : CZI) : Shape := { α := Nat, dflt := 0, T := λ k => ⟨[(2, .int x.t), (6, .bptr 202 0), (10, .d (AT (GV x.a))), (11, .d (AT (BE x.a.c))), (13, .bptr 206 0), (14, .bool (RI x k).2), (15, .int k)], [(202, .live (.box [.int 0, .int 0])), (206, .live (hlB (RI x k).1))]⟩, inv := λ k => k <= x.a.c.ms.length, meas := λ k => x.a.c.ms.length - k, first := [(202, 1016), (206, 5000)] }
def CZB (x : CZI) : Ann := { ann 69 [(WL, C_rdO.spec dCZ), (AMH, C_hadd.spec dHuS), (AEO, C_who.spec dHu1)] with loops := λ id => if id = 7 then some [fs7 x] else none }
def CQT : Ann := ann 69 [(WL, C_rdX.spec dCZ)]
def CXQ (x : CZI) : Prop := BA Try.prog (CZB x) ABI (AL ABI) (xCZI x) (AG []) (.tup [.d (CH (fsV x).s), .bool (fsV x).b, .int (fsV x).e]) [] [] []
abbrev lF (x : CZI) : List Mk := AF x.a.c.ms.length λ (i : Nat) => gD x.a.c.ms i
abbrev pI (x : CZI) : Nat := (lF x).length
abbrev AVO (x : CZI) (i : Nat) : Mk := gD (lF x) i
abbrev nU (x : CZI) : List Nt := AF x.a.c.ns.length λ (i : Nat) => gD x.a.c.ns i
abbrev qZ (x : CZI) : Nat := (nU x).length
abbrev nI (x : CZI) (i : Nat) : Nt := gD (nU x) i
abbrev AUF (x : CZI) (i : Nat) : Span := (nI x i).t
abbrev BGI (x : CZI) (i : Nat) : Span := (nI x i).s
abbrev rK (x : CZI) : List Int := AF x.a.z.length λ (i : Nat) => gD x.a.z i
abbrev gL (x : CZI) : Nat := (rK x).length
abbrev Q8 (x : CZI) : Cht := Cht.mk x.a.c.p x.a.c.base x.a.c.scale x.a.c.off (lF x) (nU x)
abbrev sJ (x : CZI) : CZ := CZ.mk (Q8 x) (rK x)
abbrev xB (x : CZI) : List Span := (AZ (AB (sJ x))).fst
abbrev yF (x : CZI) (i : Nat) : Span := gD (xB x) i
abbrev wK (x : CZI) : List Span := BE (Q8 x)
abbrev B8 (i : Nat) (x : CZI) : Prop := i < (BE x.a.c).length
abbrev T7 (x : CZI) (i : Nat) : Span := gD (wK x) i
abbrev KB : Prop := Int.ofNat (0 : Nat) = Int.ofNat (0 : Nat)
abbrev tT (a : Nat) (x : CZI) : Prop := (↑a : Int) < (↑(GV x.a).length : Int)
abbrev V9 (a : Nat) : Prop := (0 : Int) <= (↑a : Int)
abbrev sV (a : Nat) (x : CZI) : Prop := V9 a /\ (↑a : Int) < (↑(BE x.a.c).length : Int)
abbrev Q6 (x : CZI) (a : Nat) : Prop := (gD (GV x.a) a).lo = (gD (GV x.a) a).lo
abbrev uN (x : CZI) (a : Nat) : Prop := (gD (GV x.a) a).hi = (gD (GV x.a) a).hi
abbrev K2 (x : CZI) (a : Nat) : Prop := (RI x a).fst.s.lo = (RI x a).fst.s.lo
abbrev G4 (x : CZI) (a : Nat) : Prop := (RI x a).fst.s.hi = (RI x a).fst.s.hi
abbrev D2 (x : CZI) (a : Nat) : Prop := (RI x a).fst.m = (RI x a).fst.m
abbrev H8 (x : CZI) (a : Nat) : Prop := K2 x a /\ G4 x a /\ D2 x a
abbrev xW (x : CZI) : Prop := (GV x.a).length = (GV x.a).length
abbrev P0 (x : CZI) : Prop := ∀ (i : Nat), i < (GV x.a).length -> Q6 x i /\ uN x i
abbrev J7 (x : CZI) : Prop := (BE x.a.c).length = (BE x.a.c).length
abbrev L3 (x : CZI) : Prop := ∀ (i : Nat), B8 i x -> (gD (BE x.a.c) i).lo = (gD (BE x.a.c) i).lo /\ (gD (BE x.a.c) i).hi = (gD (BE x.a.c) i).hi
abbrev O7 (a : Nat) (a1 : Nat) : Prop := (↑a : Int) = IntKind.i64.wrap ((↑a1 : Int) + (1 : Int))
abbrev R2 (x : CZI) (a : Nat) : Hul := Hul.mk (RI x a).fst.s (RI x a).fst.m
abbrev X3 (x : CZI) (a : Nat) : Span := (RC (R2 x a) (gD (GV x.a) a)).s
abbrev wZ (x : CZI) (a : Nat) : Nat := x.a.c.ms.length - a
abbrev yA (a : Nat) (x : CZI) (a1 : Nat) : Prop := a.le x.a.c.ms.length /\ wZ x a < wZ x a1
abbrev I7 (x : CZI) (a : Nat) : Span × Int := MG (R2 x a)
abbrev xM (x : CZI) (a : Nat) : Span := (I7 x a).fst
abbrev uK (x : CZI) (a : Nat) : Int := (I7 x a).snd
theorem DDT (x : CZI) : (CXQ x) = ((x.a.c.p.lo = x.a.c.p.lo /\ x.a.c.p.hi = x.a.c.p.hi /\ x.a.c.base = x.a.c.base /\ x.a.c.scale = x.a.c.scale /\ x.a.c.off = x.a.c.off /\ pI x = x.a.c.ms.length /\ (∀ (i : Nat),
 i < pI x -> (AVO x i).pl = (gD x.a.c.ms i).pl /\ (AVO x i).ht = (gD x.a.c.ms i).ht) /\ qZ x = x.a.c.ns.length /\ (∀ (i : Nat), i < qZ x -> (nI x i).mi = (gD x.a.c.ns i).mi /\ (AUF
 x i).lo = (gD x.a.c.ns i).t.lo /\ (AUF x i).hi = (gD x.a.c.ns i).t.hi /\ (BGI x i).lo = (gD x.a.c.ns i).s.lo /\ (BGI x i).hi = (gD x.a.c.ns i).s.hi) /\ gL x = x.a.z.length /\ (∀ (i : Nat), i <
 gL x -> gD (rK x) i = gD x.a.z i) /\ (pI x < (4611686018427387904 : Nat) /\ qZ x < (4611686018427387904 : Nat) /\ gL x < (4611686018427387904 : Nat)) /\ AS (sJ x) = (0 : Int)) /\
 (∃ (a : Nat), (x.t = x.t /\ (GV x.a).length = (xB x).length /\ (∀ (i : Nat), i < (GV x.a).length -> (gD (GV x.a) i).lo = (yF x i).lo /\ (gD (GV x.a) i).hi = (yF x i).hi) /\ (BE x.a.c).length =
 (wK x).length /\ (∀ (i : Nat), B8 i x -> (gD (BE x.a.c) i).lo = (T7 x i).lo /\ (gD (BE x.a.c) i).hi = (T7 x i).hi) /\ (RI x a).snd = false /\ (↑a : Int) = (0 : Int) /\ KB /\
 KB /\ (RI x a).fst.s.lo = (0 : Int) /\ (RI x a).fst.s.hi = (0 : Int) /\ (RI x a).fst.m = false) /\ a.le x.a.c.ms.length) /\ ∀ (a : Nat), a.le x.a.c.ms.length -> bif bif decide (tT a x) then !(RI x a).snd
 else false then sV a x /\ bif decide ((gD (BE x.a.c) a).hi >= x.t) then ((V9 a /\ tT a x) /\ Q6 x a /\ uN x a /\ H8 x a) /\ sV a x /\ ∃ (a_2 : Nat), (x.t = x.t /\
 xW x /\ P0 x /\ J7 x /\ L3 x /\ (RI x a_2).snd = decide ((gD (BE x.a.c) a).lo >= x.t) /\ O7 a_2 a /\ KB /\ KB /\ (RI x a_2).fst.s.lo = (X3 x a).lo /\ (RI x
 a_2).fst.s.hi = (X3 x a).hi /\ (RI x a_2).fst.m = true) /\ yA a_2 x a else ∃ (a_2 : Nat), (x.t = x.t /\ xW x /\ P0 x /\ J7 x /\ L3 x /\ (RI x a_2).snd = (RI x a).snd /\
 O7 a_2 a /\ KB /\ KB /\ (RI x a_2).fst.s.lo = (RI x a).fst.s.lo /\ (RI x a_2).fst.s.hi = (RI x a).fst.s.hi /\ (RI x a_2).fst.m = (RI x a).fst.m) /\ yA a_2 x a else (K2 x a /\
 G4 x a /\ D2 x a /\ H8 x a) /\ (fsV x).s.lo = (xM x a).lo /\ (fsV x).s.hi = (xM x a).hi /\ ((fsV x).b = bif (RI x a).snd then uK x a == (0 : Int) else false) /\ (fsV x).e =
 uK x a) := by kernel_rfl
def CRL (x : CZI) : Prop := BA Try.prog CQT ABI (AL ABI) (xCZI x) (AG []) (.tup [.d (CH zSp), .bool false, .int (AS x.a)]) [] [] []
theorem DAY (x : CZI) : (CRL x) = ((x.a.c.p.lo = x.a.c.p.lo /\ x.a.c.p.hi = x.a.c.p.hi /\ x.a.c.base = x.a.c.base /\ x.a.c.scale = x.a.c.scale /\ x.a.c.off = x.a.c.off /\ (AF x.a.c.ms.length λ (i : Nat) => gD
 x.a.c.ms i).length = x.a.c.ms.length /\ (∀ (i : Nat), i < (AF x.a.c.ms.length λ (i : Nat) => gD x.a.c.ms i).length -> (gD (AF x.a.c.ms.length λ (i : Nat) => gD x.a.c.ms i) i).pl = (gD x.a.c.ms i).pl /\ (gD (AF
 x.a.c.ms.length λ (i : Nat) => gD x.a.c.ms i) i).ht = (gD x.a.c.ms i).ht) /\ (AF x.a.c.ns.length λ (i : Nat) => gD x.a.c.ns i).length = x.a.c.ns.length /\ (∀ (i : Nat), i < (AF x.a.c.ns.length λ (i : Nat) => gD
 x.a.c.ns i).length -> (gD (AF x.a.c.ns.length λ (i : Nat) => gD x.a.c.ns i) i).mi = (gD x.a.c.ns i).mi /\ (gD (AF x.a.c.ns.length λ (i : Nat) => gD x.a.c.ns i) i).t.lo = (gD x.a.c.ns i).t.lo /\ (gD (AF
 x.a.c.ns.length λ (i : Nat) => gD x.a.c.ns i) i).t.hi = (gD x.a.c.ns i).t.hi /\ (gD (AF x.a.c.ns.length λ (i : Nat) => gD x.a.c.ns i) i).s.lo = (gD x.a.c.ns i).s.lo /\ (gD (AF x.a.c.ns.length λ (i : Nat) => gD
 x.a.c.ns i) i).s.hi = (gD x.a.c.ns i).s.hi) /\ (AF x.a.z.length λ (i : Nat) => gD x.a.z i).length = x.a.z.length /\ (∀ (i : Nat), i < (AF x.a.z.length λ (i : Nat) => gD x.a.z i).length -> gD (AF x.a.z.length λ (i :
 Nat) => gD x.a.z i) i = gD x.a.z i) /\ ((AF x.a.c.ms.length λ (i : Nat) => gD x.a.c.ms i).length < (4611686018427387904 : Nat) /\ (AF x.a.c.ns.length λ (i : Nat) => gD x.a.c.ns i).length < (4611686018427387904 : Nat)
 /\ (AF x.a.z.length λ (i : Nat) => gD x.a.z i).length < (4611686018427387904 : Nat)) /\ AS (CZ.mk (Cht.mk x.a.c.p x.a.c.base x.a.c.scale x.a.c.off (AF x.a.c.ms.length λ (i : Nat) => gD x.a.c.ms i) (AF
 x.a.c.ns.length λ (i : Nat) => gD x.a.c.ns i)) (AF x.a.z.length λ (i : Nat) => gD x.a.z i)) ≠ (0 : Int)) /\ bif AS (CZ.mk (Cht.mk x.a.c.p x.a.c.base x.a.c.scale x.a.c.off (AF x.a.c.ms.length λ (i : Nat) => gD
 x.a.c.ms i) (AF x.a.c.ns.length λ (i : Nat) => gD x.a.c.ns i)) (AF x.a.z.length λ (i : Nat) => gD x.a.z i)) != (0 : Int) then Int.ofNat (0 : Nat) = Int.ofNat (0 : Nat) /\ Int.ofNat (0 : Nat) = Int.ofNat (0 : Nat) /\
 false = false /\ AS x.a = AS (CZ.mk (Cht.mk x.a.c.p x.a.c.base x.a.c.scale x.a.c.off (AF x.a.c.ms.length λ (i : Nat) => gD x.a.c.ms i) (AF x.a.c.ns.length λ (i : Nat) => gD x.a.c.ns i)) (AF x.a.z.length fun
 (i : Nat) => gD x.a.z i)) else False) := by kernel_rfl
theorem DGT : AN Try.prog CKW (C_Stage.spec dCZI) := okT C_Stage (λ (x : CZI) h => by
 have h1 : x.a.c.ms.length < 4611686018427387904 /\ x.a.c.ns.length < 4611686018427387904 /\ x.a.z.length < 4611686018427387904 := h
 by_cases c0 : AS x.a = 0
 ·have e : C_Stage.val x = .tup [.d (CH (MG (vE x)).1), .int (MG (vE x)).2] := by
   show AVal.tup [.d (CH (Xc x).1), .int (Xc x).2] = _
   unfold Xc; rw [c0]; rfl
  rw [e]
  exact PJ (A := CYF x) (L := []) (keep := []) (ren := []) (fz := []) CRY (by kernel_rfl) (AD CMO (AD rV (AD CJS (AD AEB (AD CXW (AD BYL (AD CWA AI))))))) (DLW x h1 c0) (CQB LW (itSg x) rfl rfl AI cE (by kernel_rfl) (by kernel_rfl))
 ·have c0' : (AS x.a == 0) = false := by simpa using c0
  have e : C_Stage.val x = .tup [.d (CH zSp), .int (AS x.a)] := by
   show AVal.tup [.d (CH (Xc x).1), .int (Xc x).2] = _
   unfold Xc; rw [c0']; rfl
  rw [e]
  refine PJ (A := CPP) (L := []) (keep := []) (ren := []) (fz := []) CRY (by kernel_rfl) (AD CJW AI) ?_
  show CRM x; rw [CZW]; simp only [AU, eq_self, implies_true, and_self, true_and, and_true, true_implies, forall_const, decide_eq_true_eq, decide_eq_false_iff_not, Int.toNat_natCast, dSpan_eSpan, dInt_eInt, AY, AW, AX, Nat.zero_add, Int.zero_sub, Nat.le_eq, Nat.succ_eq_add_one, Nat.add_one_le_iff, Bool.not_eq_true', Bool.not_eq_false', rng_length, AK, AJ, BI, NE]
  exact ⟨⟨h1, c0⟩, λ h => by simp [c0] at h⟩) _
theorem CYR {x : CZI} {k : Nat} (h : (RI x k).2 = true) : ∀ d, RI x (k + d) = RI x k
 | 0 => rfl
 | d + 1 => by
  have ih := CYR h d
  show (bif (RI x (k + d)).2 then RI x (k + d) else _) = _
  rw [ih, h]; rfl
theorem DJH (x : CZI) (h1 : x.a.c.ms.length < 4611686018427387904 /\ x.a.c.ns.length < 4611686018427387904 /\ x.a.z.length < 4611686018427387904) (c0 : AS x.a = 0) : CXQ x := by
 have tl := BIX c0
 have sl := Eo x.a.c
 obtain ⟨_, ⟨n1, n2⟩, _⟩ := DG (PO c0).1
 rw [DDT]; delta lF pI AVO nU qZ nI AUF BGI rK gL Q8 sJ xB yF wK B8 T7 KB tT V9 sV Q6 uN K2 G4 D2 H8 xW P0 J7 L3 O7 R2 X3 wZ yA I7 xM uK; simp only [AU, eq_self, implies_true, and_self, true_and, and_true, true_implies, forall_const, decide_eq_true_eq, decide_eq_false_iff_not, Int.toNat_natCast, dSpan_eSpan, dInt_eInt, AY, AW, AX, Nat.zero_add, Int.zero_sub, Nat.le_eq, Nat.succ_eq_add_one, Nat.add_one_le_iff, Bool.not_eq_true', Bool.not_eq_false', rng_length, AK, AJ, BI, RO, WH, NE, QZ, CPG, DHW]; simp only [tl, sl]
 refine ⟨⟨h1, c0⟩, ⟨0, ⟨rfl, rfl, rfl, rfl, rfl⟩, Nat.zero_le _⟩, λ k hk => ⟨λ hc => ?_, λ hc => ?_⟩⟩
 ·have hlt : k < x.a.c.ms.length := by
   cases hd : decide ((k : Int) < x.a.c.ms.length) with
   | false => rw [hd] at hc; cases hc
   | true => have := of_decide_eq_true hd; omega
  have hs : (RI x k).2 = false := by
   rw [decide_eq_true (show (k : Int) < x.a.c.ms.length by omega)] at hc
   cases hq : (RI x k).2 with
   | false => rfl
   | true => rw [hq] at hc; cases hc
  refine ⟨by omega, λ h => ?_, λ h => ?_⟩
  ·have e : RI x (k + 1) = (RC (RI x k).1 (gD (GV x.a) k), decide ((gD (BE x.a.c) k).lo >= x.t)) := by
    show (bif (RI x k).2 then _ else bif decide _ then _ else _) = _
    rw [hs, decide_eq_true h]; rfl
   refine ⟨by omega, by omega, k + 1, ⟨?_, (FM (by omega)).symm, ?_, ?_, ?_⟩, by omega, by omega⟩ <;> rw [e] <;> rfl
  ·have e : RI x (k + 1) = RI x k := by
    show (bif (RI x k).2 then _ else bif decide _ then _ else _) = _
    rw [hs, decide_eq_false h]; rfl
   refine ⟨k + 1, ⟨?_, (FM (by omega)).symm, ?_, ?_, ?_⟩, by omega, by omega⟩ <;> rw [e]
 ·have e : RI x x.a.c.ms.length = RI x k := by
   cases hq : (RI x k).2 with
   | true =>
    obtain ⟨d, hd⟩ : ∃ d, x.a.c.ms.length = k + d := ⟨x.a.c.ms.length - k, by omega⟩
    rw [hd]; exact CYR hq d
   | false =>
    rw [hq] at hc
    cases hd : decide ((k : Int) < x.a.c.ms.length) with
    | true => rw [hd] at hc; cases hc
    | false =>
     have := of_decide_eq_false hd
     rw [show k = x.a.c.ms.length by omega]
  unfold fsV; rw [e]; exact ⟨rfl, rfl, rfl, rfl⟩
theorem DBY : AN Try.prog CPF (C_First.spec dCZI) := okT C_First (λ (x : CZI) h => by
 have h1 : x.a.c.ms.length < 4611686018427387904 /\ x.a.c.ns.length < 4611686018427387904 /\ x.a.z.length < 4611686018427387904 := h
 by_cases c0 : AS x.a = 0
 ·have e : C_First.val x = .tup [.d (CH (fsV x).s), .bool (fsV x).b, .int (fsV x).e] := by
   show AVal.tup [.d (CH (WM x).s), .bool (WM x).b, .int (WM x).e] = _
   unfold WM; rw [c0]; rfl
  rw [e]
  exact PJ (A := CZB x) (L := []) (keep := []) (ren := []) (fz := []) CQG (by kernel_rfl) (AD CMO (AD CJS (AD CWA AI))) (DJH x h1 c0)
 ·have c0' : (AS x.a == 0) = false := by simpa using c0
  have e : C_First.val x = .tup [.d (CH zSp), .bool false, .int (AS x.a)] := by
   show AVal.tup [.d (CH (WM x).s), .bool (WM x).b, .int (WM x).e] = _
   unfold WM; rw [c0']; rfl
  rw [e]
  refine PJ (A := CQT) (L := []) (keep := []) (ren := []) (fz := []) CQG (by kernel_rfl) (AD CJW AI) ?_
  show CRL x; rw [DAY]; simp only [AU, eq_self, implies_true, and_self, true_and, and_true, true_implies, forall_const, decide_eq_true_eq, decide_eq_false_iff_not, Int.toNat_natCast, dSpan_eSpan, dInt_eInt, AY, AW, AX, Nat.zero_add, Int.zero_sub, Nat.le_eq, Nat.succ_eq_add_one, Nat.add_one_le_iff, Bool.not_eq_true', Bool.not_eq_false', rng_length, AK, AJ, BI, NE]
  exact ⟨⟨h1, c0⟩, λ h => by simp [c0] at h⟩) _
end Go.Bal
