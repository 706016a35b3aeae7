/- Law RatingFewest: its walk. -/
import Derived.Test.YtoihhodbkimedaaRT14
import Derived.Test.YtoihhodbkimedaaRatTo
import Derived.Test.YtoihhodbkimedaaRatYo
import Derived.Test.YtoihhodbkimedaaRatZ2
set_option linter.unusedVariables false
set_option linter.unusedSimpArgs false
namespace Go.Bal
open Go Go.Sym Go.Proofs
structure FwZ where
 k : Nat
 y : FwY
 deriving Inhabited
def CGH (n : Nat) (l : List Gau) : HCell := .live (.row 3 n λ i => eGau (gD l i))
def fx4 (x : FwI) : Shape := { α := FwZ, dflt := default, T := λ a => ⟨[(5, .own 2032 3 0 (fxG x).length), (7, .bptr 3016 0), (8, .int a.k)], [(2032, CGH (fxG x).length a.y.l), (3016, stmH a.y.s)]⟩, inv := λ a => a.k <= (fxG x).length /\ a.y = fxK x a.k, meas := λ a => (fxG x).length - a.k }
def fx9 (x : FwI) : Shape := { α := One, dflt := default, T := λ _ => ⟨[(5, .d (DX (Fi x))), (7, .bptr 3016 0)], [(3016, stmH (fxS x))]⟩, inv := λ _ => True, meas := λ _ => 0, ffz := [2032] }
def cfB (l : List Gau) (i j : Nat) : Bool := bif (gD l i).st == (gD l j).st then (bif decide ((gD l i).lo > (gD l j).hi) then true else decide ((gD l j).lo > (gD l i).hi)) else false
def fx15 (x : FwI) : Shape := { α := Nat, dflt := 0, T := λ i => ⟨[(5, .d (DX (Fi x))), (13, .int i)], []⟩, inv := λ i => (EK (Fi x)).e ≠ 0 /\ i <= (Fi x).length /\ ∀ p q, q < p -> p < i -> cfB (Fi x) p q = false, meas := λ i => (Fi x).length - i }
def fx18 (x : FwI) (m : Nat) : Shape := { α := IJ2, dflt := default, T := λ y => ⟨[(5, .d (DX (Fi x))), (13, .int y.i), (14, .int y.j)], []⟩, inv := λ y => (EK (Fi x)).e ≠ 0 /\ (Fi x).length - y.i = m /\ y.i < (Fi x).length /\ (∀ p q, q < p -> p < y.i -> cfB (Fi x) p q = false) /\ y.j <= y.i /\ ∀ q, q < y.j -> cfB (Fi x) y.i q = false, meas := λ y => y.i - y.j }
def fxSl (x : FwI) (e : Bool) : List (Nat × AVal) := [(5, .d (DX (Fi x))), (7, .bptr 3016 0), (9, .bptr 10080 0), (11, bif e then kE else .own 11016 1 0 (fxQ x).length)]
def rtN (x : FwI) : HCell := .live (.box [.d (DC nilI), .d (wY (fxR x).l)])
def fxH (x : FwI) (e : Bool) (s : Stm) : List (Nat × HCell) := bif e then [(3016, stmH s), (10080, rtN x)] else [(3016, stmH s), (10080, rtgC (fxR x)), (11016, .live (X4 (fxQ x)))]
def BZW (x : FwI) (e : Bool) : Shape := { α := One, dflt := default, T := λ _ => ⟨fxSl x e ++ [(17, .int 0)], fxH x e (fxS x)⟩, inv := λ _ => True, meas := λ _ => (fxR x).b.length + 1 }
structure FJ where
 j : Nat
 q : List Int
 deriving Inhabited
def CHW (x : FwI) (e : Bool) : Shape := { α := FJ, dflt := default, T := λ a => ⟨fxSl x e ++ [(17, .int ((a.j + 1 : Nat) : Int)), (18, .d (DC a.q))], fxH x e (fxS x)⟩, inv := λ a => a.j + 1 <= (fxR x).b.length, meas := λ a => (fxR x).b.length - (a.j + 1) }
def fx37 (x : FwI) (e : Bool) : Shape := { α := One, dflt := default, T := λ _ => ⟨fxSl x e, fxH x e (fxS x)⟩, inv := λ _ => True, meas := λ _ => 0 }
structure FN where
 n : Nat
 s : Stm
 deriving Inhabited
structure FNQ where
 n : Nat
 s : Stm
 q : List Int
 k : Nat
 t : Int
 deriving Inhabited
structure FNL where
 n : Nat
 s : Stm
 q : List (List Int)
 k : Nat
 deriving Inhabited
def fx38 (x : FwI) (e : Bool) : Shape := { α := FN, dflt := default, T := λ a => ⟨fxSl x e ++ [(23, .int a.n)], fxH x e a.s⟩, inv := λ a => a.n <= 5 /\ StmB (1000 + 100 * a.n) a.s, meas := λ a => 5 - a.n }
def fxI0 (x : FwI) (m n : Nat) : Prop := 5 - n = m /\ n < 5
def CHH (x : FwI) (e : Bool) (m : Nat) : Shape := { α := FNQ, dflt := default, T := λ a => ⟨fxSl x e ++ [(23, .int a.n), (24, .d VG), (25, .int 0), (26, .int a.k)], fxH x e a.s⟩, inv := λ a => fxI0 x m a.n /\ a.k <= (fxR x).b.length + 1 /\ StmB (1001 + 100 * a.n) a.s, meas := λ a => a.k + 1 }
def CHX (x : FwI) (e : Bool) (m : Nat) : Shape := { α := FNQ, dflt := default, T := λ a => ⟨fxSl x e ++ [(23, .int a.n), (24, .own 301 1 0 a.q.length), (25, .int a.t), (26, .int a.k)], fxH x e a.s ++ [(301, .live (rowI a.q))]⟩, inv := λ a => fxI0 x m a.n /\ (asc a.q /\ ∀ y ∈ a.q, 1 <= y /\ y <= a.t) /\ (0 <= a.t /\ a.t <= 70 * a.q.length) /\ a.q.length + a.k <= (fxR x).b.length + 1 /\ StmB (1001 + 100 * a.n + a.q.length) a.s, meas := λ a => a.k, again := [(301, 47048)] }
def fx47 (x : FwI) (e : Bool) (m : Nat) : Shape := { α := FNQ, dflt := default, T := λ a => ⟨fxSl x e ++ [(23, .int a.n), (24, .d (DC a.q))], fxH x e a.s⟩, inv := λ a => fxI0 x m a.n /\ asc a.q /\ (∀ y ∈ a.q, 1 <= y /\ y <= 2000) /\ a.q.length <= (fxR x).b.length + 1 /\ StmB (1030 + 100 * a.n) a.s, meas := λ _ => 0, ffz := [301] }
def fxZ (x : FwI) (q : List (List Int)) : Prop := ∀ z ∈ q, (Vh ⟨Fi x, z⟩).2 = true /\ z.length = 3
def CGG (x : FwI) (e : Bool) (m : Nat) : Shape := { α := FNL, dflt := default, T := λ a => ⟨fxSl x e ++ [(23, .int a.n), (29, .d VG), (30, .int a.k)], fxH x e a.s⟩, inv := λ a => fxI0 x m a.n /\ a.k <= 3 /\ StmB (1040 + 100 * a.n - 3 * a.k) a.s, meas := λ a => a.k, tag := [0] }
def CHK (x : FwI) (e : Bool) (m : Nat) : Shape := { α := FNL, dflt := default, T := λ a => ⟨fxSl x e ++ [(23, .int a.n), (29, .own 302 1 0 a.q.length), (30, .int a.k)], fxH x e a.s ++ [(302, .live (X4 a.q))]⟩, inv := λ a => fxI0 x m a.n /\ fxZ x a.q /\ a.q.length + a.k <= 3 /\ StmB (1040 + 100 * a.n - 3 * a.k) a.s, meas := λ a => a.k, tag := [1] }
def CIC (x : FwI) (e : Bool) (m p : Nat) : Shape := { α := FNL, dflt := default, T := λ a => ⟨fxSl x e ++ [(23, .int a.n), (29, .d VG), (30, .int ((a.k + 1 : Nat) : Int))], fxH x e a.s⟩, inv := λ a => p = a.k + 1 /\ fxI0 x m a.n /\ a.k <= 2 /\ StmB (1040 + 100 * a.n - 3 * a.k) a.s, meas := λ _ => 0 }
def BTS (x : FwI) (e : Bool) (m p : Nat) (f : List (Nat × Nat)) : Shape := { α := FNL, dflt := default, T := λ a => ⟨fxSl x e ++ [(23, .int a.n), (29, .own 302 1 0 a.q.length), (30, .int ((a.k + 1 : Nat) : Int))], fxH x e a.s ++ [(302, .live (X4 a.q))]⟩, inv := λ a => p = a.k + 1 /\ fxI0 x m a.n /\ fxZ x a.q /\ a.q.length + a.k <= 3 /\ StmB (1040 + 100 * a.n - 3 * a.k) a.s, meas := λ _ => 0, first := f }
def fx57 (x : FwI) (e : Bool) (m : Nat) : Shape := { α := FNL, dflt := default, T := λ a => ⟨fxSl x e ++ [(23, .int a.n), (29, .d (eLL a.q))], fxH x e a.s⟩, inv := λ a => fxI0 x m a.n /\ fxZ x a.q /\ a.q.length <= 3 /\ StmB (1040 + 100 * a.n) a.s, meas := λ _ => 0, ffz := [302] }
def fx63 (x : FwI) : Shape := { α := List (List Int), dflt := [], T := λ k => ⟨[(5, .d (DX (Fi x))), (9, .bptr 10080 0), (11, .own 11016 1 0 k.length)], [(10080, rtgC (fxR x)), (11016, .live (X4 k))]⟩, inv := λ k => k.Perm (fxQ x), meas := λ _ => 0 }
structure CI where
 l : List Int
 e : Bool
def dCI : List AVal -> Heap -> Option (CI × List (Nat × Nat) × List Nat)
 | [.d (.list _ n g _)], _ => match Nat.beq n 0 with
  | true => some (⟨nilI, true⟩, [], [])
  | false => some (⟨OC n λ i => JD (g i), false⟩, [], [])
 | _, _ => none
def C_cpX : Ctr := { α := CI, xs := λ a => [bif a.e then .d (DC nilI) else .d (DC a.l)], val := λ a => bif a.e then .d VG else .own 0 1 0 a.l.length, keep := λ a => bif a.e then [] else [(0, .live (rowI a.l))], pre := λ a => [bif a.e then True else (0 < a.l.length /\ a.l.length < 1073741824)] }
def C_RateN : Ctr := { C_few with val := λ (g : List Gau) => .tup [.d (.agg [DC nilI, wY (EK g).r.l]), .int (EK g).e], pre := λ (g : List Gau) => [g.length < 20 /\ (EK g).r.b = []] }
def xFw (x : FwI) : List AVal := [.d (eBys x.bs), .d (eBys x.cs)]
def lpFx (x : FwI) (e : Bool) (g : Nat) (t : Nat) (id : Nat) : Option kV := if id = 18 then some [fx18 x g] else if id = 43 then some [CHH x e g, CHX x e g] else if id = 52 then some [CGG x e g, CHK x e g] else none
def A_Fw (x : FwI) (e : Bool) : Ann := { ann 405 [(BPQ, C_New.spec BYG), (BEY, C_MadeO.spec dMkI), (AOX, C_Next.spec AXB), (AAS, C_Within.spec AQM), (APX, bif e then C_RateN.spec Ch else C_Rate.spec Ch), (uE, bif e then C_KnotsN.spec Ch else C_KnotsO.spec Ch), (AAX, C_Proves.spec dPV), (AWR, C_cpX.spec dCI), (AIM, C_Through.spec dGB), (AYQ, C_Knot.spec dGK), (AUO, BGW)] with mt := λ id => id == 46, md := λ id => if id = 56 then some (λ k => if k = 4 then 4 else if k = 6 then 1 else 0) else none, loops := λ id => if id = 4 then some [fx4 x] else if id = 15 then some [fx15 x] else if id = 28 then (bif e then some [BZW x true] else some [CHW x false, BZW x false]) else if id = 38 then some [fx38 x e] else none, inner := λ gs id => lpFx x e (gs.getD 0 0) 0 id, cut := λ id => if id = 9 then some [fx9 x] else if id = 15 then (bif e then none else some []) else if id = 37 then some [fx37 x e] else if id = 63 then (bif e then none else some [fx63 x]) else none, cutIn := λ gs id => if id = 47 then some [fx47 x e (gs.getD 0 0)] else if id = 57 then some [fx57 x e (gs.getD 0 0)] else if id = 53 then (if gs.getD 1 0 = 0 then some [CIC x e (gs.getD 2 0) (gs.getD 0 0), BTS x e (gs.getD 2 0) (gs.getD 0 0) [(302, 57096)]] else some [BTS x e (gs.getD 2 0) (gs.getD 0 0) [(302, 57096)], BTS x e (gs.getD 2 0) (gs.getD 0 0) []]) else none }
def S_Fw : Nat -> Bool := λ k => Nat.beq k 9
noncomputable def E_Fw (x : FwI) (e : Bool) : Exit -> AState -> Prop := endQ Try.prog (A_Fw x e) Vf (.bool true) [] [] []
structure FwE where
 x : FwI
 e : Bool
def BYQ (z : FwE) : Prop := BJV Try.prog (A_Fw z.x z.e) S_Fw Vf (AI Vf) (xFw z.x) (AD []) (.bool true) [] [] []
abbrev Sc:=FwE.x
abbrev BCE:=@Exists FwZ
abbrev ZB:=FwZ.k
abbrev AIT:=FwZ.y
abbrev ASS:=@Eq FwY
abbrev Ad a:=FwY.s (AIT a)
abbrev NZ a:=FwY.l (AIT a)
abbrev Lk a b:=AX (Fi a) b
abbrev OB a:=fxG (Sc a)
abbrev Gb a:=WA (Ad a) 4
abbrev Tp a:=WA (Gb a) 150
abbrev VN a:=CF (ZB a)
abbrev BAS a:=Is a a
abbrev tV a:=FwI.cs (Sc a)
abbrev ANI a:=FwI.bs (Sc a)
abbrev yU a:=QK (ANI a)
abbrev mE a:=QK (yU a)
attribute [go_sem] Sc BCE ZB AIT ASS Ad NZ Lk OB Gb Tp VN BAS tV ANI yU mE
theorem CDF (z : FwE) : (BYQ z) = (AH (AJ (CO (yU z) (ANI z)) (CE (yU z) (ANI z)) (FH 10 10) (CO (mE z) (yU z)) (Ka (CE (mE z) (yU z)) (AK 0) (AE (Iu 0 (pN (mE z) 0 0)) (XF 10) (DW 10 100)) EF)) (EP (CO (QK (tV z)) (tV z)) (λ i=>HP i (QK (tV z)) (tV z))) (BCE (λ i=>AE (Ep AC (AW (OB z) (iL (MkI.mk (pN (mE z) 0 0) 10))) (CN (ZB i)) (HX (AG (λ j=>EO j (OB z) (FE (NZ i) j (iL (MkI.mk (pN (mE z) 0 0) 10))) (EU (NZ i) j (iL (MkI.mk (pN (mE z) 0 0) 10))) (NZ i) j (iL (MkI.mk (pN (mE z) 0 0) 10)) j)) (AT (VZ (Ad i)) (CX (QK (tV z)))) (λ j=>AAW j (VZ (Ad i)) (Ad i) (QK (tV z))) (CD (Xk (Ad i))) (CD (gV (Ad i))))) (IA (ZB i) (OB z)) (ASS (AIT i) (fxK (Sc z) (ZB i))))) ((λ (f : FwZ -> Prop) => ∀ (x : FwZ), f x) (λ i=>DH (And (IA (ZB i) (OB z)) (ASS (AIT i) (fxK (Sc z) (ZB i)))) (ZB i) (FQ (OB z)) (BC (Hs (FH 4 4) (FX (Ad i)) (Ad i)) (MJ (QI (Ad i) 4)) (AE (BI (FH 150 150) (FX (Gb i)) (GZ (Gb i)) (ET (Gb i)) (ER (Gb i)) (TO (Gb i)) (YM (ZB i) (OB z)) (JU (VN i) (DM (OB z)))) (And (YM (ZB i) (OB z)) (AQ (Ki (VN i) (OB z)) (FH 9 9) (FX (Tp i)) (GZ (Tp i)) (ET (Tp i)) (ER (Tp i)) (TO (Tp i)) (YM (ZB i) (OB z)) (JU (VN i) (DM (OB z))))) (BCE (λ j=>VB (Ep AC (AS (OB z)) (BJ (ZB j) (ZB i)) (AJ (AG (λ k=>CL k (OB z) (DE (NZ j) k (TL k (VN i) (Ie (BAS (VN i)) (AX (NZ i) (VN i)) (AX (NZ i) (VN i))) (TL k (VN i) (AX (NZ i) (VN i)) (AX (NZ i) k)))) (DG (NZ j) k (TL k (VN i) (Ie (BAS (VN i)) (QI (Gb i) 150) (BH (NZ i) (VN i))) (TL k (VN i) (QI (Gb i) 150) (BH (NZ i) k)))) (DF (NZ j) k (TL k (VN i) (DK (Ie (BAS (VN i)) (QI (Gb i) 150) (BH (NZ i) (VN i))) (QI (Tp i) 9)) (TL k (VN i) (BN (NZ i) (VN i)) (BN (NZ i) k)))))) (LQ (Ad j) (WA (Tp i) 9)) (FZ (Ad j) (WA (Tp i) 9)) (NA (Ad j) (WA (Tp i) 9)) (MZ (Ad j) (WA (Tp i) 9)))) (IA (ZB j) (OB z)) (ASS (AIT j) (fxK (Sc z) (ZB j))) (ON (OB z) (ZB j)) (ON (OB z) (ZB i))))) (BCE (λ j=>VB (Ep AC (AS (OB z)) (BJ (ZB j) (ZB i)) (AJ (AG (λ k=>EO k (OB z) (FE (NZ j) k (NZ i)) (EU (NZ j) k (NZ i)) (NZ j) k (NZ i) k)) (LQ (Ad j) (Gb i)) (FZ (Ad j) (Gb i)) (NA (Ad j) (Gb i)) (MZ (Ad j) (Gb i)))) (IA (ZB j) (OB z)) (ASS (AIT j) (fxK (Sc z) (ZB j))) (ON (OB z) (ZB j)) (ON (OB z) (ZB i))))) (LP (DS (AW (Fi (Sc z)) (OB z)) (IA (CF (DM (OB z))) (OB z)) (AG (λ j=>DV j (Fi (Sc z)) (AO (Lk (Sc z) j) (AX (NZ i) (CF j))) (DN (Fi (Sc z)) j (NZ i) (CF j)) (NZ i) (CF j))) (LQ (fxS (Sc z)) (Ad i)) (FZ (fxS (Sc z)) (Ad i)) (NA (fxS (Sc z)) (Ad i)) (MZ (fxS (Sc z)) (Ad i))))))) := by kernel_rfl
def CBS (x : FwI) : Prop := Em Try.prog (A_Fw x false) S_Fw 9 (stdF Try.prog (A_Fw x false) S_Fw) (AI Vf) [] (E_Fw x false)
abbrev ANM:=@Exists FN
abbrev ZL:=FN.n
abbrev QE:=FN.s
abbrev AZB:=λ (f : FN -> Prop) => ∀ (x : FN), f x
abbrev iX:=@Exists FNQ
abbrev Zl:=FNQ.n
abbrev NH:=FNQ.k
abbrev FL:=FNQ.s
abbrev ABF:=λ (f : FNQ -> Prop) => ∀ (x : FNQ), f x
abbrev EE:=FNQ.q
abbrev Br:=FNQ.t
abbrev Bt:=@Exists FNL
abbrev Wu:=FNL.n
abbrev LX:=FNL.k
abbrev KV:=FNL.s
abbrev Yn:=λ (f : FNL -> Prop) => ∀ (x : FNL), f x
abbrev BHI:=@Exists (List (List Int))
abbrev BCD:=@List.Perm (List Int)
abbrev QH a:=AU (Fi a)
abbrev fG a b c d:=PV.mk (QH a) b c d
abbrev sW a (b:Nat->(List Int)):=dLLr a (λ i=>DC (b i))
abbrev AZY a (b:Nat->(List Int)):=sW (NC a) b
abbrev Tn a:=AZY a (λ i=>KX a i)
abbrev pT a:=GE (Wb (fxR a))
abbrev kC a:=BK (pT a)
abbrev bF a b:=RD (KX a b)
abbrev Yx a b:=dS (QH a) b 20
abbrev TI a b c d e f g h:=FG a (QH b) (DE (QH c) d (Lk e f)) (QH b) g (Fi h) (Fi h)
abbrev TY a:=AW (QH a) (Fi a)
abbrev RS a:=AS (Fi a)
abbrev Gp a b:=And (RS a) b
abbrev RT a:=BO (pT a)
abbrev aQ a b c d e f (g:Nat->Prop) h (p:Nat->Prop):=DD a b c d e (RT f) g h p
abbrev TG a:=Rtg.b (fxR a)
abbrev fQ a:=LL (TG a)
abbrev eS a:=GN (TG a)
abbrev AMD a b c d e f (g:Nat->Prop) h (p:Nat->Prop):=aQ a b c (eS d) (fQ e) f g h p
abbrev pQ a b:=KX (fxQ a) b
abbrev Ew a:=NC (fxQ a)
abbrev ARD a b:=MO (Wb (fxR a)) b
abbrev GJ a b:=qU a (pT b) (Ur (ARD b a)) (ARD b a)
abbrev FD a:=AG (λ i=>MK i (Fi a) (Lk a i) (Fi a) i (Fi a) i)
abbrev rT a:=Sx (Ew a)
abbrev mK a b:=pQ a (CF b)
abbrev rL a:=BK (Ew a)
abbrev AIU a:=FM 5 (ZL a)
abbrev Ee a b c:=ADE a 100 b c
abbrev JT a:=BO (Ew a)
abbrev Dp a b c d e f (g:Nat->Prop) h (p:Nat->Prop):=AMD a b c d e f g (JT h) p
abbrev RK a b:=bC a (Ew b) (pQ b a)
abbrev Ut a:=VZ (KV a)
abbrev BBE a b:=AJV (Ut a) (KV a) b
abbrev aN a:=BBE a 5
abbrev Dz:=ME PN
abbrev Nx a b:=RC (KO a) b
abbrev ANN a b:=bX (ABL (Ut a) (KV a)) b
abbrev Vt a:=ANN a 5
abbrev Ob a b c:=fG a b c Dc
abbrev OL a b:=KX (FNL.q a) b
abbrev HF a:=NC (FNL.q a)
abbrev Bo a:=sW (HF a) (λ i=>OL a i)
abbrev Fu a b:=yB (Ut a) (KV b)
abbrev AEB a:=BB a 3
abbrev PC a b:=(λ (f : List Int -> Prop) => ∀ (x : List Int), f x) (λ i=>QF ((@List.Mem (List Int)) i (FNL.q a)) (qT (Fi b) i) (AEB i))
abbrev ALU a b:=Kc (AT (FM 5 a) (AIU b)) a 5
abbrev HJ a b:=ALU (Wu a) b
abbrev I0 a b:=MZ (KV a) b
abbrev Pk a b:=I0 a (KV b)
abbrev zQ a b:=NA (KV a) b
abbrev Qw a b:=zQ a (KV b)
abbrev C4 a b:=oA (Ut a) (KV a) b
abbrev Ol a b:=C4 a (KV b)
abbrev Oo a b:=AT (Ut a) (Ut b)
abbrev R8 a b:=AT (HF a) b
abbrev As a b:=R8 a (HF b)
abbrev AEC a b:=EA (Wu a) b
abbrev UJ a b:=AEC a (Wu b)
abbrev dF a b:=ATS a 100 (BK b)
abbrev LG a:=Iu (Ah (dF 1040 (Wu a)) (Tg 3 (BK (LX a)))) (KV a)
abbrev qC a:=KT (HF a) (LX a)
abbrev Gz a:=cO (qC a)
abbrev Pw a b c d:=AH (RS a) (FD b) c d
abbrev kO a:=AG (λ i=>GJ i a)
abbrev fW a:=KF (LX a)
abbrev Bg a b:=IM (LX a) (LX b)
abbrev Rw a:=FQ (Fi a)
abbrev BAV a b:=WA a (Rw b)
abbrev WE a b:=BBE a (Rw b)
abbrev VX a b:=BAV (WE a b) b
abbrev zD a b:=BAV (VX a b) b
abbrev Zf a b c:=I0 a (zD b c)
abbrev Wx a b c:=zQ a (zD b c)
abbrev aF a b c:=C4 a (zD b c)
abbrev AFR a b:=AAI (Ut a) b
abbrev Vq a b c:=AFR a (zD b c)
abbrev Vv a b:=EA (fW a) (LX b)
abbrev ASU a b:=QI a (Rw b)
abbrev Hc a b c:=ASU (VX a b) c
abbrev Fl a b c:=ASU (WE a b) c
abbrev Dx a b:=ANN a (Rw b)
abbrev BAJ a b:=Lk a (GF b)
abbrev APP a b:=BAJ a (ASU b a)
abbrev rA a b c:=APP a (VX b c)
abbrev tS a b:=BAJ a (Dx b a)
abbrev AMJ a b:=APP a (WE b a)
abbrev Ug a b:=hd7 (tS a b) (AMJ a b)
abbrev Gd a b c d e f g:=Ov (Ug a b) (AMJ c d) (rA e f g)
abbrev RI a b c:=RW a b (Rw c)
abbrev Xp a b:=JM a (Rw b)
abbrev Vw a:=AK (Rw a)
abbrev mJ a:=cO (LX a)
abbrev Yp a:=WA (FL a) 4
abbrev kN a:=FX (FL a)
abbrev Js a:=FP (TG a)
abbrev Bn a:=FP (EE a)
abbrev Pf a:=QK (EE a)
abbrev Oh a b c:=Ee a (Zl b) (FL c)
abbrev Ra a:=Cu (TG a)
abbrev Kr a:=CX (EE a)
abbrev oW a:=AR (λ i=>SG i (EE a) (JN i))
abbrev Fz (a:Int->Int->Prop) b:=Cr a (EE b)
abbrev WU a b:=ALU (Zl a) b
abbrev Yw a b:=DB a (Ra b)
abbrev Pj a b:=MZ (FL a) b
abbrev Qx a b:=NA (FL a) b
abbrev Nf a b:=FZ (FL a) b
abbrev Nu a b:=LQ (FL a) b
abbrev AET a b:=EA (Zl a) b
abbrev Xa a b:=AET a (Zl b)
abbrev Ye a b:=nW a (FL b) 70
abbrev WY a:=Yd (FL a) 70
abbrev Zs a b:=ACN (QE a) b 2
abbrev eK a:=ER (fxS a)
abbrev dQ a:=ET (fxS a)
abbrev eI a b:=L1 (VZ (fxS a)) (fxS b)
abbrev cV a:=BO (VZ (fxS a))
abbrev kZ a b:=VL (TG a) b
abbrev XL a:=KF (FJ.j a)
abbrev Kv:=GF (DP 0)
abbrev Tk a b:=CF (kZ a b)
abbrev Xd a b:=QK (mK a b)
abbrev qV a:=BK (XL a)
abbrev fN a b c:=EM (TG a) (KT (GF (DP (qV b))) c)
abbrev YU a b:=AFB (XL a) LJ (TG b)
abbrev Kf a b:=CX (YU a b)
abbrev APB a b:=kZ a (GF (DP (qV b)))
abbrev Tc a b c:=On a (APB b c)
abbrev Cw a b:=KK (Gf (XL a)) (TG b) CF
abbrev tZ a:=EK (QH a)
abbrev Lt a:=FR.k (tZ a)
abbrev dX a:=Wb (FR.r (tZ a))
abbrev dO a:=Jt (dX a)
abbrev VE a:=Tn (Lt a)
abbrev lE a:=DP (dO a)
abbrev Zb a:=FR.e (tZ a)
attribute [go_sem] ANM ZL QE AZB iX Zl NH FL ABF EE Br Bt Wu LX KV Yn BHI BCD QH fG sW AZY Tn pT kC bF Yx TI TY RS Gp RT aQ TG fQ eS AMD pQ Ew ARD GJ FD rT mK rL AIU Ee JT Dp RK Ut BBE aN Dz Nx ANN Vt Ob OL HF Bo Fu AEB PC ALU HJ I0 Pk zQ Qw C4 Ol Oo R8 As AEC UJ dF LG qC Gz Pw kO fW Bg Rw BAV WE VX zD Zf Wx aF AFR Vq Vv ASU Hc Fl Dx BAJ APP rA tS AMJ Ug Gd RI Xp Vw mJ Yp kN Js Bn Pf Oh Ra Kr oW Fz WU Yw Pj Qx Nf Nu AET Xa Ye WY Zs eK dQ eI cV kZ XL Kv Tk Xd qV fN YU Kf APB Tc Cw tZ Lt dX dO VE lE Zb
theorem CCT (x : FwI) : (CBS x) = (Kq (HM (UB (TY x) (AG (λ i=>TI i x x i x i i x)) (Dj (QH x))) (AH (TY x) (AG (λ i=>TI i x x i x i i x)) (Dj (QH x)) (BAF (Lt x) xM)) (RC (Z4 (Zb x)) (HG (KO (Zb x)) (Tu (Zb x) 6))) Dz (FA (KO (Zb x)) (And WQ EF) (HM (AE (TY x) (AG (λ i=>TI i x x i x i i x)) (Ub (FI (GE (dX x))) (Ue (VE x) (Lt x)) (HX (AG (λ i=>UV i (VE x) i (KX (Lt x) i))) (Ue (Lt x) (VE x)) (λ i=>UV i (Lt x) i (KX (VE x) i)) (Yx x (NC (VE x))) (AG (λ i=>AP i (NC (VE x)) (bF (VE x) i)))))) (AE (TY x) (AG (λ i=>TI i x x i x i i x)) (Ub (AK (lE x)) (Ue (VE x) (Lt x)) (HX (AG (λ i=>UV i (VE x) i (KX (Lt x) i))) (Ue (Lt x) (VE x)) (λ i=>UV i (Lt x) i (KX (VE x) i)) (Yx x (NC (VE x))) (AG (λ i=>AP i (NC (VE x)) (bF (VE x) i)))))) (uC (uC (Nx (Ev (fG x (dO x) (VE x) PN)) (KO (Ev (fG x (lE x) (VE x) PN)))) (not (Eu (fG x (dO x) (VE x) PN))) (Eu (fG x (lE x) (VE x) PN))) (Tu (dO x) (DP (FP (Md (tZ x))))) (Tu (BK (NC (Lt x))) (FP (Md (tZ x))))) Dz (PF (LP (DS (RS x) (FD x) AC (AT (Ew x) (NC (Lt x))) BA (cV x) (DD (eI x x) (dQ x) (eK x) (CO (TG x) (Md (tZ x))) (CE (TG x) (Md (tZ x))) (AT (pT x) (GE (dX x))) (λ i=>IZ i (pT x) (ARD x i) (MO (dX x) i)) (AT (Ew x) (NC (Lt x))) (λ i=>LD i (Ew x) (pQ x i) (KX (Lt x) i))))) ((λ (f : FJ -> Prop) => ∀ (x : FJ), f x) (λ i=>DH (Il (XL i) (CX (TG x))) (XL i) (Js x) (HM (PF YP (CA (qV i)) (UC (qV i) (TG x)) (AQ (BB (YU i x) (FM (XL i) LJ)) (AG (λ j=>Xf j (Cw i x) (YU i x) j (TG x) (KT LJ j))) (Ky (IK (CX (Cw i x))) (Cw i x) 1073741824) (AE (CA (DP (qV i))) (UC (DP (qV i)) (TG x)) (bR (Js x))) (And (GN (YU i x)) (CZ 0 (Cw i x) Dn)) (Bv EF (APB x i) 1) (UY (IK (APB x i))) (DB (Tc (Cw i x) x i) 9223372036854775807) (NY (Ej (Tc (Cw i x) x i) 8)))) (AY (TY x) (AG (λ j=>TI j x x j x j j x)) (BB (PQ (Tc (YU i x) x i) (λ j=>RH j (Kf i x) (YU i x) j (fN x i (FM j (Kf i x))))) (Tc (YU i x) x i)) (AG (λ j=>Yu j (PQ (Tc (Cw i x) x i) (λ k=>RH k (CX (Cw i x)) (Cw i x) k (fN x i (FM k (CX (Cw i x)))))) (PQ (Tc (YU i x) x i) (λ k=>RH k (Kf i x) (YU i x) k (fN x i (FM k (Kf i x))))) j (RH j (Kf i x) (YU i x) j (fN x i (FM j (Kf i x)))))) (Ky (FW (QH x)) (PQ (Tc (Cw i x) x i) (λ j=>RH j (CX (Cw i x)) (Cw i x) j (fN x i (FM j (CX (Cw i x)))))) 4611686018427387904) EF) (Nx (SM (QH x) (PQ (Tc (YU i x) x i) (λ j=>RH j (Kf i x) (YU i x) j (fN x i (FM j (Kf i x)))))) (Wo (Lm (QH x) (PQ (Tc (YU i x) x i) (λ j=>RH j (Kf i x) (YU i x) j (fN x i (FM j (Kf i x)))))))) Dz (BC (BI (RX (XL i) (Ew x)) (CM (CF (XL i)) (Ew x)) (TY x) (AG (λ j=>TI j x x j x j j x)) (CO (Xd x (XL i)) (mK x (XL i))) (CE (Xd x (XL i)) (mK x (XL i))) (MR (QH x)) (RD (Xd x (XL i)))) (Nx (Lq (Iq (QH x) (Xd x (XL i)))) (not (Us (Iq (QH x) (Xd x (XL i)))))) Dz ((@Exists FJ) (λ j=>CJ (AQ (RS x) (FD x) AC (JT x) (BJ (XL j) (XL i)) (BB (FJ.q j) (Tc (YU i x) x i)) (AG (λ k=>MF k (FJ.q j) (RH k (Kf i x) (YU i x) k (fN x i (FM k (Kf i x)))))) (cV x) (Dp (eI x x) (dQ x) (eK x) x x x (λ k=>GJ k x) x (λ k=>RK k x))) (Il (XL j) (CX (TG x))) (kZ x (XL j)) (kZ x (XL i)))))) (LP (AY (RS x) (FD x) AC (JT x) (cV x) (Dp (eI x x) (dQ x) (eK x) x x x (λ j=>GJ j x) x (λ j=>RK j x)))))) (NR (λ i=>EZ EF 0 (Js x) (HM (And (tF YP (CA (Js x))) (AQ AC (AG (λ j=>ZJ j (GI nilI j (TG x) (KT LJ j)))) EF (AE (CA (DP 0)) (UC (DP 0) (TG x)) (bR (Js x))) (SE Gi) (Bv EF (kZ x 1) 1) (UY (IK (kZ x 1))) (DB (Tk x 1) 9223372036854775807) (NY (Ej (Tk x 1) 8)))) (AY (TY x) (AG (λ j=>TI j x x j x j j x)) (BB (tE (Tk x Kv) (TG x) Kv Gf) (Tk x Kv)) (AG (λ j=>Xf j (tE (Tk x 1) (TG x) 1 Gf) (tE (Tk x Kv) (TG x) Kv Gf) j (TG x) (KT Kv (Gf j)))) (Ky (FW (QH x)) (tE (Tk x 1) (TG x) 1 Gf) 4611686018427387904) EF) (Nx (SM (QH x) (tE (Tk x Kv) (TG x) Kv Gf)) (Wo (Lm (QH x) (tE (Tk x Kv) (TG x) Kv Gf)))) Dz (BC (BI (WW (rL x)) (IK (Ew x)) (TY x) (AG (λ j=>TI j x x j x j j x)) (CO (Xd x LJ) (mK x LJ)) (AG (λ j=>FC j (QK (pQ x 0)) (Xd x LJ) j (mK x LJ))) (MR (QH x)) (RD (QK (pQ x 0)))) (Nx (Lq (Iq (QH x) (Xd x LJ))) (not (Us (Iq (QH x) (Xd x LJ))))) Dz ((@Exists FJ) (λ j=>CJ (AQ (RS x) (FD x) AC (JT x) (JE (XL j) 0) (BB (FJ.q j) (Tk x Kv)) (AG (λ k=>SJ k (FJ.q j) k (TG x) (KT Kv (Gf k)))) (cV x) (Dp (eI x x) (dQ x) (eK x) x x x (λ k=>GJ k x) x (λ k=>RK k x))) (Il (XL j) (CX (TG x))) (kZ x (XL j)) (Ra x))))) (LP (AY (RS x) (FD x) AC (JT x) (cV x) (Dp (eI x x) (dQ x) (eK x) x x x (λ j=>GJ j x) x (λ j=>RK j x)))))) (NR (λ i=>QF EF (ANM (λ j=>AE (DS (RS x) (FD x) AC (JT x) (CN (ZL j)) (LQ (QE j) (fxS x)) (Dp (FZ (QE j) (fxS x)) (NA (QE j) (fxS x)) (MZ (QE j) (fxS x)) x x x (λ k=>GJ k x) x (λ k=>RK k x))) (DB (ZL j) 5) (Ee 1000 (ZL j) (QE j)))) (AZB (λ j=>DH (Qo (ZL j) 5 (Ee 1000 (ZL j) (QE j))) (ZL j) 5 (IR (Hs (AK (DK (Js x) 2)) (FX (QE j)) (QE j)) (iX (λ k=>AH (AE (RS x) (FD x) (Sr AC (JT x) (AET k (ZL j)) (K2 BA (ED (NH k) (QI (QE j) (DK (Js x) 2))) (Nu k (Zs j (Js x))) (Dp (Nf k (Zs j (Js x))) (Qx k (Zs j (Js x))) (Pj k (Zs j (Js x))) x x x (λ l=>GJ l x) x (λ l=>RK l x))))) (WU k j) (Yw (NH k) x) (Oh 1001 k k))) (ABF (λ k=>YW (AE (WU k j) (Yw (NH k) x) (Oh 1001 k k)) (NH k) (AE (DS Rg (FH 70 70) (kN k) (GZ (FL k)) (ET (FL k)) (ER (FL k)) (PO (FL k))) Np (iX (λ l=>CJ (AJ (RS x) (FD x) AC (JT x) (AQ (Xa l k) AC (Ak (EE l)) (AO (Br l) (Ye 0 k)) (NU (NH l) (NH k)) (Nu l (WY k)) (Nf l (WY k)) (Qx l (WY k)) (DD (Pj l (WY k)) (eS x) (fQ x) (RT x) (kO x) (JT x) (λ m=>RK m x) (Ak (EE l)) (λ m=>MF m (EE l) (Ye 0 k))))) (IE (WU l j) (And (Fz DT l) (AR (λ m=>SG m (EE l) (DW m (Br l))))) (Ix (Br l) (Tg 70 (Bn l))) (On (EE l) (NH l)) (Ra x) (Iu (RO (dF 1001 (Zl l)) (Bn l)) (FL l))) (NH l) (KF (NH k))))) (iX (λ l=>AY (AJ (RS x) (FD x) AC (JT x) (Ka (Xa l k) (Ae (EE l)) (Nu l (FL k)) (Dp (Nf l (FL k)) (Qx l (FL k)) (Pj l (FL k)) x x x (λ m=>GJ m x) x (λ m=>RK m x)))) (WU l j) (Fz DT l) (oW l) (Yw (Kr l) x) (Oh 1030 l l))))) (ABF (λ k=>YW (IE (WU k j) (And (Fz DT k) (AR (λ l=>SG l (EE k) (DW l (Br k))))) (Ix (Br k) (Tg 70 (Bn k))) (On (EE k) (NH k)) (Ra x) (Iu (RO (dF 1001 (Zl k)) (Bn k)) (FL k))) (NH k) (AE (DS Rg (FH 70 70) (kN k) (GZ (FL k)) (ET (FL k)) (ER (FL k)) (PO (FL k))) (YY (And (GN (EE k)) (CZ 0 (EE k) Dn)) RZ (Cu (EE k)) 8) (iX (λ l=>CJ (AJ (RS x) (FD x) AC (JT x) (AQ (Xa l k) AC (Gm (EE l) (EE k)) (AO (Br l) (Ye (Br k) k)) (NU (NH l) (NH k)) (Nu l (WY k)) (Nf l (WY k)) (Qx l (WY k)) (DD (Pj l (WY k)) (eS x) (fQ x) (RT x) (kO x) (JT x) (λ m=>RK m x) (Gm (EE l) (EE k)) (λ m=>MF m (EE l) (RH m (Kr k) (EE k) m (Ye (Br k) k)))))) (IE (WU l j) (And (Fz DT l) (AR (λ m=>SG m (EE l) (DW m (Br l))))) (Ix (Br l) (Tg 70 (Bn l))) (On (EE l) (NH l)) (Ra x) (Iu (RO (dF 1001 (Zl l)) (Bn l)) (FL l))) (NH l) (NH k)))) (iX (λ l=>AY (Gp x (AQ (FD x) AC (JT x) (Xa l k) (CO (EE l) (EE k)) (EL (CF (Kr k)) (EE k)) (AG (λ m=>SJ m (EE l) m (EE k) (CF m))) (Nu l (FL k)) (Dp (Nf l (FL k)) (Qx l (FL k)) (Pj l (FL k)) x x x (λ m=>GJ m x) x (λ m=>RK m x)))) (WU l j) (Fz DT l) (oW l) (Yw (Kr l) x) (Oh 1030 l l))))) (ABF (λ k=>YR (IE (WU k j) (Fz DT k) (oW k) (Kr k) (Ra x) (Oh 1030 k k)) (AY (TY x) (AG (λ l=>TI l x x l x l l x)) (CO (Pf k) (EE k)) (CE (Pf k) (EE k)) (Ky (FW (QH x)) (Pf k) 4611686018427387904) EF) (Nx (SM (QH x) (Pf k)) (Ap (Wo (Lm (QH x) (Pf k))) (Bn k) (Js x))) Dz (IR (Hs (FH 4 4) (kN k) (FL k)) (Bt (λ l=>AH (Gp x (cG (FD x) AC (JT x) (AEC l (Zl k)) BM (ED (LX l) (QI (FL k) 4)) (AFR l (Yp k)) (Dp (C4 l (Yp k)) (zQ l (Yp k)) (I0 l (Yp k)) x x x (λ m=>GJ m x) x (λ m=>RK m x)))) (HJ l j) (mJ l) (LG l))) (Yn (λ l=>YW (AE (HJ l j) (mJ l) (LG l)) (LX l) (AE (HM (MT (Rw x) (AQ (BB (Fu l l) (Ut l)) (Px (Fu l l) (KV l)) (ET (KV l)) (ER (KV l)) (TO (KV l)) (Vw x) (FX (WE l x)) (GZ (WE l x)) (AQ (ET (WE l x)) (ER (WE l x)) (TO (WE l x)) (Vw x) (FX (VX l x)) (GZ (VX l x)) (ET (VX l x)) (ER (VX l x)) (PO (VX l x))))) (AY (Xp (Dx l x) x) (Xp (Fl l x x) x) (RI (Ug x l) (Fl l x x) x) (RI (Ug x l) (Hc l x x) x) (RI (Gd x l x l x l x) (Dx l x) x) (RI (Gd x l x l x l x) (Hc l x x) x)) (Ap (Gd x l x l x l x) (tS x l) (rA x l x)) (And (Zj 24) (Bt (λ m=>AY (Pw x x AC (AQ (JT x) (UJ m l) AC (HC (HF m)) (Vv m l) (Vq m l x) (aF m l x) (Wx m l x) (DD (Zf m l x) (eS x) (fQ x) (RT x) (kO x) (JT x) (λ n=>RK n x) (HC (HF m)) (λ n=>VA n (HF m) (AEB (OL m n)) (λ u=>MF u (OL m n) (Eb u (Dx l x) (Eb (fH u) (Fl l x x) (Hc l x x)))))))) (Bg l m) (HJ m j) (PC m x) (Gz m) (LG m)))) (Bt (λ m=>IE (Gp x (cG (FD x) AC (JT x) (UJ m l) BM (Vv m l) (Vq m l x) (Dp (aF m l x) (Wx m l x) (Zf m l x) x x x (λ n=>GJ n x) x (λ n=>RK n x)))) (Bg l m) (HJ m j) (LX m) 2 (LG m)))) (Yn (λ m=>CG (AH (Bg l m) (HJ m j) (Ld (LX m)) (LG m)) (Bt (λ n=>CJ (Gp x (cG (FD x) AC (JT x) (UJ n m) BM (NU (LX n) (fW m)) (Oo n m) (Dp (Ol n m) (Qw n m) (Pk n m) x x x (λ u=>GJ u x) x (λ u=>RK u x)))) (AE (HJ n j) (mJ n) (LG n)) (LX n) (LX l))))) (Yn (λ m=>CG (IE (Bg l m) (HJ m j) (PC m x) (qC m) 3 (LG m)) (Bt (λ n=>FU (Pw x x AC (AQ (JT x) (UJ n m) AC (As n m) (NU (LX n) (fW m)) (Oo n m) (Ol n m) (Qw n m) (DD (Pk n m) (eS x) (fQ x) (RT x) (kO x) (JT x) (λ u=>RK u x) (As n m) (λ u=>LD u (HF n) (OL n u) (OL m u))))) (HJ n j) (PC n x) (Gz n) (LG n) (LX n) (LX l)))))) (Bt (λ m=>IE (AJ (RS x) (FD x) AC (JT x) (Ka (UJ m l) (R8 m 0) (Oo m l) (Dp (Ol m l) (Qw m l) (Pk m l) x x x (λ n=>GJ n x) x (λ n=>RK n x)))) (HJ m j) (PC m x) (HF m) 3 (Ee 1040 (Wu m) (KV m)))))) (Yn (λ l=>YW (AH (HJ l j) (PC l x) (Gz l) (LG l)) (LX l) (Bu (HM (MT (Rw x) (AQ (BB (Fu l l) (Ut l)) (Px (Fu l l) (KV l)) (ET (KV l)) (ER (KV l)) (TO (KV l)) (Vw x) (FX (WE l x)) (GZ (WE l x)) (AQ (ET (WE l x)) (ER (WE l x)) (TO (WE l x)) (Vw x) (FX (VX l x)) (GZ (VX l x)) (ET (VX l x)) (ER (VX l x)) (PO (VX l x))))) (AY (Xp (Dx l x) x) (Xp (Fl l x x) x) (RI (Ug x l) (Fl l x x) x) (RI (Ug x l) (Hc l x x) x) (RI (Gd x l x l x l x) (Dx l x) x) (RI (Gd x l x l x l x) (Hc l x x) x)) (Ap (Gd x l x l x l x) (tS x l) (rA x l x)) (And (VC (HF l) 1 RZ 24) (Bt (λ m=>AY (Pw x x AC (AQ (JT x) (UJ m l) AC (IM (HF m) (HF l)) (Vv m l) (Vq m l x) (aF m l x) (Wx m l x) (DD (Zf m l x) (eS x) (fQ x) (RT x) (kO x) (JT x) (λ n=>RK n x) (IM (HF m) (HF l)) (λ n=>VA n (HF m) (BB (OL m n) (Um (Ll n (HF l)) (CX (OL l n)) 3)) (λ u=>MF u (OL m n) (RH n (HF l) (OL l n) u (Eb u (Dx l x) (Eb (fH u) (Fl l x x) (Hc l x x))))))))) (Bg l m) (HJ m j) (PC m x) (Gz m) (LG m)))) (Bt (λ m=>AY (Pw x x AC (AQ (JT x) (UJ m l) AC (As m l) (Vv m l) (Vq m l x) (aF m l x) (Wx m l x) (DD (Zf m l x) (eS x) (fQ x) (RT x) (kO x) (JT x) (λ n=>RK n x) (As m l) (λ n=>LD n (HF m) (OL m n) (OL l n))))) (Bg l m) (HJ m j) (PC m x) (Gz m) (LG m)))) (Yn (λ m=>CG (IE (Bg l m) (HJ m j) (PC m x) (qC m) 3 (LG m)) (Bt (λ n=>FU (Pw x x AC (AQ (JT x) (UJ n m) AC (As n m) (NU (LX n) (fW m)) (Oo n m) (Ol n m) (Qw n m) (DD (Pk n m) (eS x) (fQ x) (RT x) (kO x) (JT x) (λ u=>RK u x) (As n m) (λ u=>LD u (HF n) (OL n u) (OL m u))))) (HJ n j) (PC n x) (Gz n) (LG n) (LX n) (LX l)))))) (Bt (λ m=>IE (Gp x (AQ (FD x) AC (JT x) (UJ m l) (As m l) (Ts (HF l)) (AG (λ n=>LD n (HF m) (OL m n) (OL l (CF n)))) (Oo m l) (Dp (Ol m l) (Qw m l) (Pk m l) x x x (λ n=>GJ n x) x (λ n=>RK n x)))) (HJ m j) (PC m x) (HF m) 3 (Ee 1040 (Wu m) (KV m)))))) (Yn (λ l=>CG (AH (HJ l j) (PC l x) (cO (HF l)) (Ee 1040 (Wu l) (KV l))) (HM (nD (FH 5 5) (BB (Fu l l) (Ut l)) (Px (Fu l l) (KV l)) (KV l)) (Af (TY x) (AG (λ m=>TI m x x m x m m x)) (AK (Vt l)) (VM (Bo l) (HF l)) (AG (λ m=>UV m (Bo l) m (OL l m))) (Yx x (NC (Bo l))) (λ m=>AP m (NC (Bo l)) (bF (Bo l) m))) (Nx (Ev (Ob x (Vt l) (Bo l))) (HG (Eu (Ob x (Vt l) (Bo l))) (ZR (Vt l) (kC x)))) Dz (ANM (λ m=>VB (DS (RS x) (FD x) AC (JT x) (BJ (ZL m) (Wu l)) (LQ (QE m) (aN l)) (Dp (FZ (QE m) (aN l)) (NA (QE m) (aN l)) (MZ (QE m) (aN l)) x x x (λ n=>GJ n x) x (λ n=>RK n x))) (DB (ZL m) 5) (Ee 1000 (ZL m) (QE m)) (AIU m) (AIU j)))))))))) (And (FA (ZR (rL x) 1) (IR (JM (Mb (Ew x)) (rL x)) (CM (rT x) (Ew x)) (WW (rL x)) (Ia (IK (Ew x)) (WW (rL x)) (JM (Mb (Ew x)) (rL x)) (JU (rT x) (Ew x))) (BHI (λ k=>And (Gp x (AMD (FD x) AC (VM k (Ew x)) x x x (λ l=>GJ l x) (VM k (Ew x)) (λ l=>VA l (NC k) (BB (KX k l) (Um (Is l (rT x)) (CX (mK x LJ)) (Um (Is l (CF LJ)) (CX (pQ x (rT x))) (CX (pQ x l))))) (λ m=>MF m (KX k l) (TL l (rT x) (EM (mK x LJ) m) (TL l (CF LJ) (EM (pQ x (rT x)) m) (EM (pQ x l) m))))))) (BCD k (fxQ x))))) (BHI (λ k=>And (Gp x (AMD (FD x) AC (VM k (Ew x)) x x x (λ l=>GJ l x) (VM k (Ew x)) (λ l=>UV l k l (pQ x l)))) (BCD k (fxQ x))))) ((λ (f : List (List Int) -> Prop) => ∀ (x : List (List Int)), f x) (λ k=>QF (BCD k (fxQ x)) (AE (TY x) (AG (λ l=>TI l x x l x l l x)) (Ub (FI (pT x)) (Ue (Tn k) k) (HX (AG (λ l=>UV l (Tn k) l (KX k l))) (Ue k (Tn k)) (λ l=>UV l k l (KX (Tn k) l)) (Yx x (NC (Tn k))) (AG (λ l=>AP l (NC (Tn k)) (bF (Tn k) l)))))) (KY PN (HG (Gv (Ev (fG x (kC x) (Tn k) PN)) (Eu (fG x (kC x) (Tn k) PN))) PN)))))))))))))) := by kernel_rfl
def CAP (x : FwI) : Prop := Em Try.prog (A_Fw x true) S_Fw 9 (stdF Try.prog (A_Fw x true) S_Fw) (AI Vf) [] (E_Fw x true)
abbrev ND:=IJ2.i
abbrev VV:=IJ2.j
abbrev Kh:=AZY nilK Ao
abbrev Ft a:=ZJ a (MX nilI a)
abbrev kL:=AG Ft
abbrev aO:=FP nilI
abbrev eD a b:=ON (Fi a) b
abbrev Za a b c:=cfB (Fi a) b c
abbrev qQ a:=Bm (YB (Fi a))
attribute [go_sem] ND VV Kh Ft kL aO eD Za qQ
theorem CEM (x : FwI) : (CAP x) = (Kq (HM (AH (TY x) (AG (λ i=>TI i x x i x i i x)) (Dj (QH x)) (cR (Md (tZ x)))) (AH (TY x) (AG (λ i=>TI i x x i x i i x)) (Dj (QH x)) (AUJ (Lt x) xM)) (RC (Z4 (Zb x)) (HG (KO (Zb x)) (Tu (Zb x) 6))) Dz (FA (KO (Zb x)) (YS (λ i=>AH (AE (RS x) (FD x) (CN i)) (qQ x) (IA i (Fi x)) (AG (λ j=>AG (λ k=>AP k j (Mr j i (Za x j k)))))) (λ i=>SC (UH (qQ x) (IA i (Fi x)) (λ j=>AG (λ k=>AP k j (Mr j i (Za x j k))))) i (Rw x) ((@Exists IJ2) (λ j=>Af (Pw x x (EA (ND j) i) (CN (VV j))) (qQ x) (AT (eD x (ND j)) (eD x i)) (Ki (ND j) (Fi x)) (AG (λ k=>AG (λ l=>AP l k (Mr k (ND j) (Za x k l))))) (DB (VV j) (ND j)) (λ k=>Mr k (VV j) (Za x (ND j) k)))) ((λ (f : IJ2 -> Prop) => ∀ (x : IJ2), f x) (λ j=>DH (AY (qQ x) (AT (eD x (ND j)) (eD x i)) (Ki (ND j) (Fi x)) (AG (λ k=>AG (λ l=>AP l k (Mr k (ND j) (Za x k l))))) (DB (VV j) (ND j)) (AG (λ k=>Mr k (VV j) (Za x (ND j) k)))) (VV j) (BK (ND j)) (BC (AY (GA (ND j) (Rw x)) (GA (VV j) (Rw x)) (RI (TU (Lk x (ND j)) (Lk x (VV j))) (BK (ND j)) x) (RI (TU (Lk x (ND j)) (Lk x (VV j))) (BK (VV j)) x) (RI (and (TU (Lk x (ND j)) (Lk x (VV j))) (not (ZR (BH (Fi x) (ND j)) (BN (Fi x) (VV j))))) (BK (VV j)) x) (RI (and (TU (Lk x (ND j)) (Lk x (VV j))) (not (ZR (BH (Fi x) (ND j)) (BN (Fi x) (VV j))))) (BK (ND j)) x)) (HG (TU (Lk x (ND j)) (Lk x (VV j))) (RC (ZR (BH (Fi x) (ND j)) (BN (Fi x) (VV j))) (ZR (BH (Fi x) (VV j)) (BN (Fi x) (ND j))))) UX ((@Exists IJ2) (λ k=>Td (Pw x x (EA (ND k) (ND j)) (BJ (VV k) (VV j))) (AY (qQ x) (AT (eD x (ND k)) (eD x i)) (Ki (ND k) (Fi x)) (AG (λ l=>AG (λ m=>AP m l (Mr l (ND k) (Za x l m))))) (DB (VV k) (ND k)) (AG (λ l=>Mr l (VV k) (Za x (ND k) l)))) (ND k) (VV k) (ND j) (VV j)))) (SA (λ k=>CJ (AE (RS x) (FD x) (BJ k (ND j))) (UH (qQ x) (IA k (Fi x)) (λ l=>AG (λ m=>AP m l (Mr l k (Za x l m))))) (eD x k) (eD x i))))) Dz)) (HM (Af (TY x) (AG (λ i=>TI i x x i x i i x)) (FI (GE (dX x))) AC (AG (λ i=>dK i (CO (KX Kh i) (Ao i)) (λ j=>FC j (KX (sW 0 Ao) i) (KX Kh i) j (Ao i)))) (Yx x 0) (λ i=>ZJ i (bF (sW 0 Ao) i))) (Af (TY x) (AG (λ i=>TI i x x i x i i x)) (AK (lE x)) AC (AG (λ i=>dK i (CO (KX Kh i) (Ao i)) (λ j=>FC j (KX (sW 0 Ao) i) (KX Kh i) j (Ao i)))) (Yx x 0) (λ i=>ZJ i (bF (sW 0 Ao) i))) (uC (uC (Nx (Ev (Ob x (dO x) Kh)) (KO (Ev (Ob x (lE x) Kh)))) (not (Eu (Ob x (dO x) Kh))) (Eu (Ob x (lE x) Kh))) (Tu (dO x) (DP aO)) (Tu (BK (NC nilK)) aO)) Dz (And (And (LP (AJ (RS x) (FD x) AC QD (DD BA (cV x) (eI x x) (dQ x) (eK x) AC Ft (AT (pT x) (GE (dX x))) (λ i=>IZ i (pT x) (ARD x i) (MO (dX x) i))))) (Kq (LP (Pw x x AC (DD QD (cV x) (eI x x) (dQ x) (eK x) AC Ft (RT x) (λ i=>GJ i x)))))) (NR (λ i=>QF EF (ANM (λ j=>AE (AJ (RS x) (FD x) AC QD (DD (CN (ZL j)) (LQ (QE j) (fxS x)) (FZ (QE j) (fxS x)) (NA (QE j) (fxS x)) (MZ (QE j) (fxS x)) AC Ft (RT x) (λ k=>GJ k x))) (DB (ZL j) 5) (Ee 1000 (ZL j) (QE j)))) (AZB (λ j=>DH (Qo (ZL j) 5 (Ee 1000 (ZL j) (QE j))) (ZL j) 5 (IR (Hs (FH (DK aO 2) (Y7 (On nilI 2) (wW (Jx (ABY PD))))) (FX (QE j)) (QE j)) (iX (λ k=>AH (AQ (RS x) (FD x) AC QD (AET k (ZL j)) AC BM BA (DD (ED (NH k) (QI (QE j) (DK aO 2))) (Nu k (Zs j aO)) (Nf k (Zs j aO)) (Qx k (Zs j aO)) (Pj k (Zs j aO)) AC Ft (RT x) (λ l=>GJ l x))) (WU k j) (Yw (NH k) x) (Oh 1001 k k))) (ABF (λ k=>YW (AE (WU k j) (Yw (NH k) x) (Oh 1001 k k)) (NH k) (AE (DS Rg (FH 70 70) (kN k) (GZ (FL k)) (ET (FL k)) (ER (FL k)) (PO (FL k))) Np (iX (λ l=>CJ (AE (RS x) (FD x) (Sr AC QD (Xa l k) (AJ (Ak (EE l)) (AO (Br l) (Ye 0 k)) (NU (NH l) (NH k)) (Nu l (WY k)) (aQ (Nf l (WY k)) (Qx l (WY k)) (Pj l (WY k)) AC kL x (λ m=>GJ m x) (Ak (EE l)) (λ m=>MF m (EE l) (Ye 0 k)))))) (IE (WU l j) (And (Fz DT l) (AR (λ m=>SG m (EE l) (DW m (Br l))))) (Ix (Br l) (Tg 70 (Bn l))) (On (EE l) (NH l)) (Ra x) (Iu (RO (dF 1001 (Zl l)) (Bn l)) (FL l))) (NH l) (KF (NH k))))) (iX (λ l=>AY (DS (RS x) (FD x) AC QD (Xa l k) (Ae (EE l)) (DD (Ae (EE l)) (Nu l (FL k)) (Nf l (FL k)) (Qx l (FL k)) (Pj l (FL k)) AC Ft (RT x) (λ m=>GJ m x))) (WU l j) (Fz DT l) (oW l) (Yw (Kr l) x) (Oh 1030 l l))))) (ABF (λ k=>YW (IE (WU k j) (And (Fz DT k) (AR (λ l=>SG l (EE k) (DW l (Br k))))) (Ix (Br k) (Tg 70 (Bn k))) (On (EE k) (NH k)) (Ra x) (Iu (RO (dF 1001 (Zl k)) (Bn k)) (FL k))) (NH k) (AE (DS Rg (FH 70 70) (kN k) (GZ (FL k)) (ET (FL k)) (ER (FL k)) (PO (FL k))) (YY (And (GN (EE k)) (CZ 0 (EE k) Dn)) RZ (Cu (EE k)) 8) (iX (λ l=>CJ (AE (RS x) (FD x) (Sr AC QD (Xa l k) (AJ (Gm (EE l) (EE k)) (AO (Br l) (Ye (Br k) k)) (NU (NH l) (NH k)) (Nu l (WY k)) (aQ (Nf l (WY k)) (Qx l (WY k)) (Pj l (WY k)) AC kL x (λ m=>GJ m x) (Gm (EE l) (EE k)) (λ m=>MF m (EE l) (RH m (Kr k) (EE k) m (Ye (Br k) k))))))) (IE (WU l j) (And (Fz DT l) (AR (λ m=>SG m (EE l) (DW m (Br l))))) (Ix (Br l) (Tg 70 (Bn l))) (On (EE l) (NH l)) (Ra x) (Iu (RO (dF 1001 (Zl l)) (Bn l)) (FL l))) (NH l) (NH k)))) (iX (λ l=>AY (Pw x x AC (IE QD (Xa l k) (CO (EE l) (EE k)) (CF (Kr k)) (Kr k) (DD (AG (λ m=>SJ m (EE l) m (EE k) (CF m))) (Nu l (FL k)) (Nf l (FL k)) (Qx l (FL k)) (Pj l (FL k)) AC Ft (RT x) (λ m=>GJ m x)))) (WU l j) (Fz DT l) (oW l) (Yw (Kr l) x) (Oh 1030 l l))))) (ABF (λ k=>YR (IE (WU k j) (Fz DT k) (oW k) (Kr k) (Ra x) (Oh 1030 k k)) (AY (TY x) (AG (λ l=>TI l x x l x l l x)) (CO (Pf k) (EE k)) (CE (Pf k) (EE k)) (Ky (FW (QH x)) (Pf k) 4611686018427387904) EF) (Nx (SM (QH x) (Pf k)) (Ap (Wo (Lm (QH x) (Pf k))) (Bn k) aO)) Dz (IR (Hs (FH 4 4) (kN k) (FL k)) (Bt (λ l=>AH (BI (RS x) (FD x) AC QD (AEC l (Zl k)) AC BM (DD (ED (LX l) (QI (FL k) 4)) (AFR l (Yp k)) (C4 l (Yp k)) (zQ l (Yp k)) (I0 l (Yp k)) AC Ft (RT x) (λ m=>GJ m x))) (HJ l j) (mJ l) (LG l))) (Yn (λ l=>YW (AE (HJ l j) (mJ l) (LG l)) (LX l) (AE (HM (MT (Rw x) (AQ (BB (Fu l l) (Ut l)) (Px (Fu l l) (KV l)) (ET (KV l)) (ER (KV l)) (TO (KV l)) (Vw x) (FX (WE l x)) (GZ (WE l x)) (AQ (ET (WE l x)) (ER (WE l x)) (TO (WE l x)) (Vw x) (FX (VX l x)) (GZ (VX l x)) (ET (VX l x)) (ER (VX l x)) (PO (VX l x))))) (AY (Xp (Dx l x) x) (Xp (Fl l x x) x) (RI (Ug x l) (Fl l x x) x) (RI (Ug x l) (Hc l x x) x) (RI (Gd x l x l x l x) (Dx l x) x) (RI (Gd x l x l x l x) (Hc l x x) x)) (Ap (Gd x l x l x l x) (tS x l) (rA x l x)) (And (Zj 24) (Bt (λ m=>AY (Gp x (cG (FD x) AC QD (UJ m l) (HC (HF m)) (Vv m l) (Vq m l x) (aQ (aF m l x) (Wx m l x) (Zf m l x) AC kL x (λ n=>GJ n x) (HC (HF m)) (λ n=>VA n (HF m) (AEB (OL m n)) (λ u=>MF u (OL m n) (Eb u (Dx l x) (Eb (fH u) (Fl l x x) (Hc l x x)))))))) (Bg l m) (HJ m j) (PC m x) (Gz m) (LG m)))) (Bt (λ m=>IE (BI (RS x) (FD x) AC QD (UJ m l) AC BM (DD (Vv m l) (Vq m l x) (aF m l x) (Wx m l x) (Zf m l x) AC Ft (RT x) (λ n=>GJ n x))) (Bg l m) (HJ m j) (LX m) 2 (LG m)))) (Yn (λ m=>CG (AH (Bg l m) (HJ m j) (Ld (LX m)) (LG m)) (Bt (λ n=>CJ (BI (RS x) (FD x) AC QD (UJ n m) AC BM (DD (NU (LX n) (fW m)) (Oo n m) (Ol n m) (Qw n m) (Pk n m) AC Ft (RT x) (λ u=>GJ u x))) (AE (HJ n j) (mJ n) (LG n)) (LX n) (LX l))))) (Yn (λ m=>CG (IE (Bg l m) (HJ m j) (PC m x) (qC m) 3 (LG m)) (Bt (λ n=>FU (Gp x (cG (FD x) AC QD (UJ n m) (As n m) (NU (LX n) (fW m)) (Oo n m) (aQ (Ol n m) (Qw n m) (Pk n m) AC kL x (λ u=>GJ u x) (As n m) (λ u=>LD u (HF n) (OL n u) (OL m u))))) (HJ n j) (PC n x) (Gz n) (LG n) (LX n) (LX l)))))) (Bt (λ m=>IE (DS (RS x) (FD x) AC QD (UJ m l) (R8 m 0) (DD (R8 m 0) (Oo m l) (Ol m l) (Qw m l) (Pk m l) AC Ft (RT x) (λ n=>GJ n x))) (HJ m j) (PC m x) (HF m) 3 (Ee 1040 (Wu m) (KV m)))))) (Yn (λ l=>YW (AH (HJ l j) (PC l x) (Gz l) (LG l)) (LX l) (Bu (HM (MT (Rw x) (AQ (BB (Fu l l) (Ut l)) (Px (Fu l l) (KV l)) (ET (KV l)) (ER (KV l)) (TO (KV l)) (Vw x) (FX (WE l x)) (GZ (WE l x)) (AQ (ET (WE l x)) (ER (WE l x)) (TO (WE l x)) (Vw x) (FX (VX l x)) (GZ (VX l x)) (ET (VX l x)) (ER (VX l x)) (PO (VX l x))))) (AY (Xp (Dx l x) x) (Xp (Fl l x x) x) (RI (Ug x l) (Fl l x x) x) (RI (Ug x l) (Hc l x x) x) (RI (Gd x l x l x l x) (Dx l x) x) (RI (Gd x l x l x l x) (Hc l x x) x)) (Ap (Gd x l x l x l x) (tS x l) (rA x l x)) (And (VC (HF l) 1 RZ 24) (Bt (λ m=>AY (Gp x (cG (FD x) AC QD (UJ m l) (IM (HF m) (HF l)) (Vv m l) (Vq m l x) (aQ (aF m l x) (Wx m l x) (Zf m l x) AC kL x (λ n=>GJ n x) (IM (HF m) (HF l)) (λ n=>VA n (HF m) (BB (OL m n) (Um (Ll n (HF l)) (CX (OL l n)) 3)) (λ u=>MF u (OL m n) (RH n (HF l) (OL l n) u (Eb u (Dx l x) (Eb (fH u) (Fl l x x) (Hc l x x))))))))) (Bg l m) (HJ m j) (PC m x) (Gz m) (LG m)))) (Bt (λ m=>AY (Gp x (cG (FD x) AC QD (UJ m l) (As m l) (Vv m l) (Vq m l x) (aQ (aF m l x) (Wx m l x) (Zf m l x) AC kL x (λ n=>GJ n x) (As m l) (λ n=>LD n (HF m) (OL m n) (OL l n))))) (Bg l m) (HJ m j) (PC m x) (Gz m) (LG m)))) (Yn (λ m=>CG (IE (Bg l m) (HJ m j) (PC m x) (qC m) 3 (LG m)) (Bt (λ n=>FU (Gp x (cG (FD x) AC QD (UJ n m) (As n m) (NU (LX n) (fW m)) (Oo n m) (aQ (Ol n m) (Qw n m) (Pk n m) AC kL x (λ u=>GJ u x) (As n m) (λ u=>LD u (HF n) (OL n u) (OL m u))))) (HJ n j) (PC n x) (Gz n) (LG n) (LX n) (LX l)))))) (Bt (λ m=>IE (Pw x x AC (IE QD (UJ m l) (As m l) (CF (HF l)) (HF l) (DD (AG (λ n=>LD n (HF m) (OL m n) (OL l (CF n)))) (Oo m l) (Ol m l) (Qw m l) (Pk m l) AC Ft (RT x) (λ n=>GJ n x)))) (HJ m j) (PC m x) (HF m) 3 (Ee 1040 (Wu m) (KV m)))))) (Yn (λ l=>CG (AH (HJ l j) (PC l x) (cO (HF l)) (Ee 1040 (Wu l) (KV l))) (HM (nD (FH 5 5) (BB (Fu l l) (Ut l)) (Px (Fu l l) (KV l)) (KV l)) (Af (TY x) (AG (λ m=>TI m x x m x m m x)) (AK (Vt l)) (VM (Bo l) (HF l)) (AG (λ m=>UV m (Bo l) m (OL l m))) (Yx x (NC (Bo l))) (λ m=>AP m (NC (Bo l)) (bF (Bo l) m))) (Nx (Ev (Ob x (Vt l) (Bo l))) (HG (Eu (Ob x (Vt l) (Bo l))) (ZR (Vt l) (kC x)))) Dz (ANM (λ m=>VB (AJ (RS x) (FD x) AC QD (DD (BJ (ZL m) (Wu l)) (LQ (QE m) (aN l)) (FZ (QE m) (aN l)) (NA (QE m) (aN l)) (MZ (QE m) (aN l)) AC Ft (RT x) (λ n=>GJ n x))) (DB (ZL m) 5) (Ee 1000 (ZL m) (QE m)) (AIU m) (AIU j)))))))))) (And (Af (TY x) (AG (λ k=>TI k x x k x k k x)) (FI (pT x)) AC (AG (λ k=>dK k (CO (KX Kh k) (Ao k)) (λ l=>FC l (KX (sW 0 Ao) k) (KX Kh k) l (Ao k)))) (Yx x 0) (λ k=>ZJ k (bF (sW 0 Ao) k))) (KY PN (HG (Gv (Ev (Ob x (kC x) Kh)) (Eu (Ob x (kC x) Kh))) PN)))))))))))) := by kernel_rfl
end Go.Bal
