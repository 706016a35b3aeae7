/- Package balance: settle. -/
import Derived.Test.YtonddbmhljelgaaBalF
set_option linter.unusedVariables false
set_option linter.unusedSimpArgs false
namespace Go.Bal
open Go Go.Sym Go.Proofs
def V96 (x : Int) : Prop := BN Try.prog (ann 5 []) Try.f96 (AF Try.f96) [.int x] (AD []) (.bool (decide (0 < x))) [] [] []
abbrev Ys:=λ (x0 x1 : Int) => decide (x0 > x1)
abbrev RU a:=Ys a 0
attribute [go_sem] Ys RU
theorem vc96 (x : Int) : (V96 x) = (Gq (Tt 0 x) (RU x)) := by kernel_rfl
def f96 : List AVal -> Option (AVal × List Prop)
 | [.d (.v (.int .i64 x))] => some (.bool (decide (0 < x)), [])
 | _ => none
def s96 := IY f96
theorem ok96 : AH Try.prog 96 s96 := EH λ xs v p h _ => by
 unfold f96 at h; split at h
 ·cases h; exact Pb (A := ann 5 []) (ren := []) (fz := []) Try.func96 (by kernel_rfl) AE (by show V96 _; rw [vc96]<;> simp only [go_sem])
 ·cases h
structure NI where
 n : Nat
 g : Nat -> Int
def rowI (n : Nat) (g : Nat -> Int) : AObj := .row 1 n λ i => FT (g i)
def A95 (a : NI) : Ann := { ann 19 [(96, s96)] with E := [100], loops := λ id => if id = 2 then some [{ α := Nat, dflt := 0, T := λ k => ⟨[(0, .own 100 1 0 a.n), (1, .fn (.func 96) [] []), (7, .int a.n), (8, .int k)], [(100, .live (rowI a.n a.g))]⟩, inv := λ k => k <= a.n /\ gO (λ i => decide (0 < a.g i)) a.n 0 = gO (λ i => decide (0 < a.g i)) (a.n - k) k, meas := λ k => a.n - k }] else none }
def C95 : Ctr := { ro := [100], α := NI, xs := λ a => [.own 100 1 0 a.n, .fn (.func 96) [] []], L := λ a => [(100, rowI a.n a.g)], val := λ a => .int (gO (λ i => decide (0 < a.g i)) a.n 0), keep := λ a => [(100, .live (rowI a.n a.g))], pre := λ a => [decide (a.n < 4611686018427387904) = true] }
def d95 : List AVal -> Heap -> Option (NI × List (Nat × Nat) × List Nat)
 | [.own id _ _ n, .fn _ _ []], H => match H id with
  | .live (.row _ _ get) => some (⟨n, λ i => OO (get i)⟩, [(100, id)], [])
  | _ => none
 | _, _ => none
def V95 (a : NI) : Prop := BN Try.prog (A95 a) Try.f95 (AF Try.f95) (C95.xs a) (AD (C95.L a)) (C95.val a) (C95.keep a) [] []
abbrev VW:=NI.n
abbrev Up:=NI.g
abbrev PY a b (c:Nat->Prop):=AJ a b (AG c)
abbrev AFR (a:Nat->Int) b c:=gO (λ i=>Tt 0 (a i)) b c
abbrev uH (a:Nat->Int) b:=AFR a b 0
abbrev Nu a b c (d:Nat->Prop):=WN a b c (AG d)
attribute [go_sem] VW Up PY AFR uH Nu
theorem vc95 (a : NI) : (V95 a) = (PV (λ i=>YL (BF (Nu (DU (VW a)) (GT (VW a)) (AZ i) (λ j=>HJ j (VW a) (AR (Up a j))))) i (VW a) (uH (λ j=>Up a j) (VW a)) (AFR (λ j=>Up a j) (WC (VW a) i) i)) (λ i=>CG (WD i (VW a) (uH (λ j=>Up a j) (VW a)) (AFR (λ j=>Up a j) (WC (VW a) i) i)) i (VW a) (And (Ro i (VW a)) (Lc 0 (Up a (AT i)) (PY (AS (uH (λ j=>Up a j) (VW a)) (BT i)) (DU (VW a)) (λ j=>HJ j (VW a) (AR (Up a j)))) (IJ (λ j=>Ar (BF (Nu (DU (VW a)) (GT (VW a)) (AU j i) (λ k=>HJ k (VW a) (AR (Up a k))))) j (VW a) (uH (λ k=>Up a k) (VW a)) (AFR (λ k=>Up a k) (WC (VW a) j) j) i)))) (PY (Fs (uH (λ j=>Up a j) (VW a))) (DU (VW a)) (λ j=>HJ j (VW a) (AR (Up a j)))))) := by kernel_rfl
theorem p95 (a : NI) (h : a.n < 4611686018427387904) : V95 a := by
 rw [vc95]<;> simp only [go_sem]
 simp only [CC, eq_self, implies_true, forall_const]
 refine ⟨⟨0, rfl, Nat.zero_le _, rfl⟩, λ k ⟨h1, h2⟩ => ⟨λ hlt => ?_, λ hge => ?_⟩⟩
 ·have hlt : k < a.n := by omega
  refine ⟨⟨by omega, by omega⟩, λ hp => ?_, λ hp => ⟨k + 1, (AL (by omega)).symm, ⟨by omega, ?_⟩, by omega⟩⟩
  ·rw [h2]; exact lH hlt (by simpa using hp)
  ·rw [h2]; exact ADE hlt (by simpa using hp)
 ·rw [h2]; exact zU (by omega)
theorem ok95 : AH Try.prog 95 (C95.spec d95) := UY C95 A95 [] [] Try.func95 (λ _ => by kernel_rfl) (λ _ => AA ok96 AE) (λ a h => p95 a (of_decide_eq_true h)) (λ _ => WR rfl rfl) _
structure KD where
 k : Nat
 all : List Way
 deriving Inhabited
structure NQ where
 all : List Way
 p : Nat
 to : Int
 best : Far
 deriving Inhabited
def BNA : List AVal -> Heap -> Option (DM × List (Nat × Nat) × List Nat)
 | [.bptr id _, .d (.v (.int _ fr)), .d (.v (.int _ to)), .mref m, .d (.v (.int _ most))], H => match Do H id with
  | some (d, r) => some (⟨d, fr, to, (Aj d any fr).m, (Aj d any fr).st, most⟩, [(100, id), (101, r), (104, m)], [])
  | none => none
 | _, _ => none
def AQZ (a : Desk) (all : List Way) : List (Nat × HCell) := Le (Desk.mk all a.out a.nR) ++ [(300, .live (.box [.fn (.func 93) [] []])), (301, .live (.row 1 10 λ i => FT (gD (EI (Desk.mk all a.out a.nR)) i)))]
def uT (a : Desk) (all : List Way) : Int := ID (EI (Desk.mk all a.out a.nR))
def gT (a : Desk) (all : List Way) : RT := Aj (Desk.mk all a.out a.nR) any (uT a all)
def zF : Far := ⟨0, 0, ⟨0, false⟩⟩
def nC (a : Desk) (df : Desk) (gs : List Nat) : Shape := { α := NQ, dflt := default, T := λ s => ⟨[(0, .bptr 100 0), (2, .bptr 300 0), (3, .rptr 301 1 0 0), (4, .int (uT a s.all)), (5, .mref 302), (6, .int s.to), (7, .bptr 303 0), (28, .d (BAU (EI (Desk.mk s.all a.out a.nR)))), (29, .int s.p)], AQZ a s.all ++ [(302, .live (mapO (gT a s.all).m (gT a s.all).st)), (303, .live (farO s.best))]⟩, inv := λ s => s.all.length = a.all.length /\ (Desk.mk s.all a.out a.nR).ok /\ EI (Desk.mk s.all a.out a.nR) ≠ List.replicate 10 0 /\ PI (gs.headD 0) (Desk.mk s.all a.out a.nR) = some df /\ s.p <= 10 /\ UH (gT a s.all).m (uT a s.all) ((EI (Desk.mk s.all a.out a.nR)).drop s.p) s.p (s.to, s.best) = UH (gT a s.all).m (uT a s.all) (EI (Desk.mk s.all a.out a.nR)) 0 (uT a s.all, zF), meas := λ s => 10 - s.p, first := [(302, 6048), (303, 7032)] }
def G0 (a : Desk) (df : Desk) : Shape := { α := KD, dflt := default, T := λ s => ⟨[(0, .bptr 100 0), (2, .bptr 300 0), (3, .rptr 301 1 0 0)], AQZ a s.all⟩, inv := λ s => s.all.length = a.all.length /\ (Desk.mk s.all a.out a.nR).ok /\ PI s.k (Desk.mk s.all a.out a.nR) = some df, meas := λ s => s.k, first := [(300, 1016), (301, 2032)], again := [(301, 18000)] }
def A68 (a : Desk) (df : Desk) : Ann := { ann 86 [(94, C94.spec Zi), (95, C95.spec d95), (57, s57a), (97, C97.spec BNA)] with E := [100, 101], inner := λ gs id => if id = 2 then some [G0 a df] else if id = 8 then some [nC a df gs] else none }
def C68 : Ctr := { α := Desk, xs := λ _ => [.bptr 100 0], L := Kv, val := λ _ => uV, keep := λ d => Le ((MJ d).getD default), pre := λ d => [d.ok, (MJ d).isSome = true] }
def V68 (a : Desk) : Prop := BN Try.prog (A68 a ((MJ a).getD default)) Try.f68 (AF Try.f68) (C68.xs a) (AD (C68.L a)) (C68.val a) (C68.keep a) [] []
abbrev ADD:=Rule.counts
abbrev AXL:=@List.cons Nat
abbrev AKO:=Shape.meas
abbrev Gv:=@List.nil Nat
abbrev VZ:=Desk.ok
abbrev FZ:=KD.all
abbrev AYZ:=@Option.isSome RT
abbrev ASA:=@Exists NQ
abbrev FS:=NQ.all
abbrev Db:=NQ.to
abbrev SW:=NQ.p
abbrev qU:=NQ.best
abbrev AIZ:=@Ne (List Int)
abbrev AKK:=@List.replicate Int
abbrev AIU:=@Eq (Prod Int Far)
abbrev kO:=UH
abbrev Zk:=@List.drop Int
abbrev mI:=@Prod.mk Int Far
abbrev BHV:=@Option.isSome (List Step)
abbrev BHS:=λ (f : Step -> Prop) => ∀ (x : Step), f x
abbrev BJI:=@List.Mem Step
abbrev uD a b c d (e:Nat->Prop):=Nu a b (EQ c d) e
abbrev AMG a b:=EQ (Sx a) b
abbrev Bl a b c d e (f:Nat->Prop):=uD a (AMG b c) d e f
abbrev Pa a:=(@Option.getD Desk) (MJ a) (@default Desk instInhabitedDesk)
abbrev I4 a b c d e:=O1 a b (AKO c d) e
abbrev Nb a b c d e f:=I4 a b c d (AKO e f)
abbrev HL a b c d e:=Nb a b c d c e
abbrev AWK a b:=G0 a (Pa b)
abbrev dO a b c:=(@Eq (Option Desk)) (PI a b) ((@some Desk) (Pa c))
abbrev Gy a b:=BCE a b b
abbrev Em a b:=VZ (Gy a b)
abbrev BAB a b:=hd81 (Gy a b)
abbrev rA a:=APP (FS a)
abbrev BFT a b c d e f g h p:=DM.mk a b c d (RT.st (Aj e f g)) (Zp h p)
abbrev OJ a b:=BAB (FS a) b
abbrev BDU a b c:=Lh (OJ a b) c
abbrev AUX a b:=ZU (BDU a b (Db a))
abbrev LJ a b:=uT a (FS b)
abbrev AUR a b:=BDU a b (LJ b a)
abbrev O0 a b:=Gy (rA a) b
abbrev ARO a b c:=RT.m (Aj a b c)
abbrev Jg a b:=ARO (O0 a b) any (LJ b a)
abbrev AOV a b c:=BFT (O0 a b) (LJ b a) (Db a) (Jg a b) (O0 a b) c (LJ b a) (AUR a b) (AUX a b)
abbrev TW a b:=ANO (AOV a b any) (rA a)
abbrev ZO a b c:=BAP (FS a) (TW b c)
abbrev D5 a b:=BAB (FZ a) b
abbrev cO a b:=KX a (ZT b)
abbrev AXC a b c:=Gq a (E3 b c)
abbrev Vr a b c d:=AXC (E3 a b) c d
abbrev AUW a b:=gT a (FS b)
abbrev NH a b:=RT.m (AUW a b)
abbrev Rr a b c:=Dn (NH a b) c
abbrev Np a b c:=Nj (NH a b) c
abbrev Jl a b c:=YJ (NH a b) c
abbrev Om a b c d:=RT.st (Aj a b c) d
abbrev Yf a b c:=RT.st (AUW a b) c
abbrev Sv a b c:=Jh (NH a b) c
abbrev eK a b:=QN (FS a) b
abbrev gB a b:=IS (FS a) b
abbrev aI a b:=HT (FS a) b
abbrev rU a:=AXL a Gv
abbrev cZ a b c:=AKO (AWK a b) c
abbrev iR a:=(@List.headD Nat) (rU a) 0
abbrev uK a:=pR (Far.by' (qU a))
abbrev tH a:=pO (Far.by' (qU a))
abbrev nZ a:=Far.many (qU a)
abbrev eY a:=Far.cost (qU a)
abbrev Td a:=BT (SW a)
abbrev WS a b:=hd2 a Hi b
abbrev Cj a b c:=WS a (KT b c)
abbrev SD a b:=WS a (not b)
abbrev Ft a:=IV (BT a)
abbrev PG a:=Gq a hd5
abbrev Tv a b c:=ARO a (ADD b) c
abbrev APD a b c:=Ca (D5 a b) c
abbrev Jy a b:=uH (λ i=>APD a b i) 10
abbrev An a:=APP (FZ a)
abbrev nY a b:=Gy (An a) b
abbrev ZN a b c (d:Nat->Prop) e f g:=ARZ AC a b (SX c) (AG d) e f g
abbrev Me a:=BT (Sx a)
abbrev Ri a b c:=KS (APD a b c)
attribute [go_sem] ADD AXL AKO Gv VZ FZ AYZ ASA FS Db SW qU AIZ AKK AIU kO Zk mI BHV BHS BJI uD AMG Bl Pa I4 Nb HL AWK dO Gy Em BAB rA BFT OJ BDU AUX LJ AUR O0 ARO Jg AOV TW ZO D5 cO AXC Vr AUW NH Rr Np Jl Om Yf Sv eK gB aI rU cZ iR uK tH nZ eY Td WS Cj SD Ft PG Tv APD Jy An nY ZN Me Ri
theorem vc68 (a : Desk) : (V68 a) = (AJ (BF (YW a (λ i=>GZ i a (GU a i) (EN a i) (FG a i) (JU a i) (FJ a i) (IT a i) (EY a i)) (λ i=>KV i a (MO a i) (FG a i) (EN a i) (FJ a i) (JU a i) (EY a i) (IT a i)) (VZ (Lq a)) (hd64 (Qz (uZ (eI (Tq (Tq R2))))) (hd72 (hd73 10 (Qz (jW 0))))))) ((@Exists KD) (λ i=>AP (Ao AC (LH (FZ i) a) a (λ j=>JL j (FZ i) (NS (FZ i) j (Lf a j)) (HT (FZ i) j) (FG a j) (IS (FZ i) j) (FJ a j) (QN (FZ i) j) (EY a j)) ZA (AG (λ j=>Nw j (D5 i a) (hd81 (Lq a))))) (LH (FZ i) a) (Em (FZ i) a) (dO (KD.k i) (Gy (FZ i) a) a))) ((λ (f : KD -> Prop) => ∀ (x : KD), f x) (λ i=>VK (AJ (LH (FZ i) a) (Em (FZ i) a) (dO (KD.k i) (Gy (FZ i) a) a)) (EG (hd64 (Qz (uZ (eI (Tq (Tq R2))))) (hd72 (hd73 10 (Qz (jW 0))))) (not (F6 (Ri i a 0) (Ri i a 1) (F6 (Ri i a 2) (Ri i a 3) (F6 (Ri i a 4) (Ri i a 5) (F6 (Ri i a 6) (Ri i a 7) (ATB (Ri i a 8) (Ri i a 9))))))) (AP (vD ZA (APO ZA (AG (λ j=>HJ j 10 (AR (APD i a j)))) VS)) (PD (Jy i a) AC (KU (An i) (FZ i)) (Jq (OT a) a (KU (An i) (FZ i)) (λ j=>JL j (An i) (JX (An i) j (FZ i)) (HT (An i) j) (HT (FZ i) j) (IS (An i) j) (IS (FZ i) j) (QN (An i) j) (QN (FZ i) j)) (ZN (KU (FZ i) (An i)) (OT a) a (λ j=>JL j (FZ i) (JX (FZ i) j (An i)) (HT (FZ i) j) (HT (An i) j) (IS (FZ i) j) (IS (An i) j) (QN (FZ i) j) (QN (An i) j)) (Em (An i) a) (iD (IV (Jy i a)) (Jy i a) (hd29 (Me a) 2)) (LY (AYZ (NP (nY i a) (ADD RA) (Jy i a))))))) (ASA (λ j=>AJ (BF (LQ (AS (LJ a j) (Jy i a)) (AS (Db j) (Jy i a)) ZA (λ k=>Nw k (OJ j a) (D5 i a)) (Ao (AZ (SW j)) (KU (FS j) (FZ i)) a (λ k=>JL k (FS j) (JX (FS j) k (FZ i)) (aI j k) (HT (FZ i) k) (gB j k) (IS (FZ i) k) (eK j k) (QN (FZ i) k)) ZA (MW (λ k=>Nw k (OJ j a) (D5 i a)) MM (GQ (λ k=>Gq (Sv a j k) (Jh (Tv (nY i a) RA (Jy i a)) k))) (GQ (λ k=>AS (Yf a j k) (Om (nY i a) (ADD RA) (Jy i a) k))) (GQ (λ k=>Mk (Jl a j k) (YJ (Tv (nY i a) RA (Jy i a)) k) (Np a j k) (Nj (Tv (nY i a) RA (Jy i a)) k) (AS (Rr a j k) (Dn (Tv (nY i a) RA (Jy i a)) k)) (Vr (NH a j) k (Tv (nY i a) RA (Jy i a)) k))) (GP (eY j)) (GP (nZ j)) (GP (tH j)) (PG (uK j)))))) (LH (FS j) a) (BG (Em (FS j) a) (AIZ (OJ j a) (AKK 10 0)) (dO (iR (cZ a a i)) (Gy (FS j) a) a) (EP (SW j) 10) (AIU (kO (NH a j) (LJ a j) (Zk (SW j) (OJ j a)) (SW j) (mI (Db j) (qU j))) (kO (NH a j) (LJ a j) (OJ j a) 0 (mI (LJ a j) zF)))))) ((λ (f : NQ -> Prop) => ∀ (x : NQ), f x) (λ j=>Fb (And (LH (FS j) a) (BG (Em (FS j) a) (AIZ (OJ j a) (AKK 10 0)) (dO (iR (cZ a a i)) (Gy (FS j) a) a) (EP (SW j) 10) (AIU (kO (NH a j) (LJ a j) (Zk (SW j) (OJ j a)) (SW j) (mI (Db j) (qU j))) (kO (NH a j) (LJ a j) (OJ j a) 0 (mI (LJ a j) zF))))) (SW j) 10 (AJ (iD (Ft (SW j)) (Td j) 10) (hd99 (rB (hd69 uW R2)) GJ) (IK (SD (AFH (Ca (OJ j a) (SW j))) (Sv a j (Td j))) (ASA (λ k=>HL (BF (LQ (AS (LJ a k) (LJ a j)) (AS (Db k) (Db j)) ZA (λ l=>Nw l (OJ k a) (OJ j a)) (Ao (AU (SW k) (SW j)) (KU (FS k) (FS j)) a (λ l=>JL l (FS k) (JX (FS k) l (FS j)) (aI k l) (aI j l) (gB k l) (gB j l) (eK k l) (eK j l)) ZA (MW (λ l=>Nw l (OJ k a) (OJ j a)) MM (GQ (λ l=>Gq (Sv a k l) (Sv a j l))) (GQ (λ l=>AS (Yf a k l) (Yf a j l))) (GQ (λ l=>Mk (Jl a k l) (Jl a j l) (Np a k l) (Np a j l) (AS (Rr a k l) (Rr a j l)) (Vr (NH a k) l (NH a j) l))) (AS (eY k) (eY j)) (AS (nZ k) (nZ j)) (AS (tH k) (tH j)) (Gq (uK k) (uK j)))))) (And (LH (FS k) a) (BG (Em (FS k) a) (AIZ (OJ k a) (AKK 10 0)) (dO (iR (cZ a a i)) (Gy (FS k) a) a) (EP (SW k) 10) (AIU (kO (NH a k) (LJ a k) (Zk (SW k) (OJ k a)) (SW k) (mI (Db k) (qU k))) (kO (NH a k) (LJ a k) (OJ k a) 0 (mI (LJ a k) zF))))) (nC a (Pa a) (rU (cZ a a i))) k j)) (IK (Cj (WS (Bz (Db j) (LJ a j)) (Tt (Jl a j (Td j)) (eY j))) (Bz (Jl a j (Td j)) (eY j)) (Tt (Np a j (Td j)) (nZ j))) (ASA (λ k=>HL (BF (LQ (AS (LJ a k) (LJ a j)) (AS (Db k) (Td j)) ZA (λ l=>Nw l (OJ k a) (OJ j a)) (Ao (AU (SW k) (SW j)) (KU (FS k) (FS j)) a (λ l=>JL l (FS k) (JX (FS k) l (FS j)) (aI k l) (aI j l) (gB k l) (gB j l) (eK k l) (eK j l)) ZA (MW (λ l=>Nw l (OJ k a) (OJ j a)) MM (GQ (λ l=>Gq (Sv a k l) (Sv a j l))) (GQ (λ l=>AS (Yf a k l) (Yf a j l))) (GQ (λ l=>Mk (Jl a k l) (Jl a j l) (Np a k l) (Np a j l) (AS (Rr a k l) (Rr a j l)) (Vr (NH a k) l (NH a j) l))) (AS (eY k) (Jl a j (Td j))) (AS (nZ k) (Np a j (Td j))) (AS (tH k) (Rr a j (Td j))) (AXC (uK k) (NH a j) (Td j)))))) (And (LH (FS k) a) (BG (Em (FS k) a) (AIZ (OJ k a) (AKK 10 0)) (dO (iR (cZ a a i)) (Gy (FS k) a) a) (EP (SW k) 10) (AIU (kO (NH a k) (LJ a k) (Zk (SW k) (OJ k a)) (SW k) (mI (Db k) (qU k))) (kO (NH a k) (LJ a k) (OJ k a) 0 (mI (LJ a k) zF))))) (nC a (Pa a) (rU (cZ a a i))) k j)) (ASA (λ k=>HL (BF (LQ (AS (LJ a k) (LJ a j)) (AS (Db k) (Db j)) ZA (λ l=>Nw l (OJ k a) (OJ j a)) (Ao (AU (SW k) (SW j)) (KU (FS k) (FS j)) a (λ l=>JL l (FS k) (JX (FS k) l (FS j)) (aI k l) (aI j l) (gB k l) (gB j l) (eK k l) (eK j l)) ZA (MW (λ l=>Nw l (OJ k a) (OJ j a)) MM (GQ (λ l=>Gq (Sv a k l) (Sv a j l))) (GQ (λ l=>AS (Yf a k l) (Yf a j l))) (GQ (λ l=>Mk (Jl a k l) (Jl a j l) (Np a k l) (Np a j l) (AS (Rr a k l) (Rr a j l)) (Vr (NH a k) l (NH a j) l))) (AS (eY k) (eY j)) (AS (nZ k) (nZ j)) (AS (tH k) (tH j)) (Gq (uK k) (uK j)))))) (And (LH (FS k) a) (BG (Em (FS k) a) (AIZ (OJ k a) (AKK 10 0)) (dO (iR (cZ a a i)) (Gy (FS k) a) a) (EP (SW k) 10) (AIU (kO (NH a k) (LJ a k) (Zk (SW k) (OJ k a)) (SW k) (mI (Db k) (qU k))) (kO (NH a k) (LJ a k) (OJ k a) 0 (mI (LJ a k) zF))))) (nC a (Pa a) (rU (cZ a a i))) k j))))) (AP (IW (iD (IV (LJ a j)) (LJ a j) 10) (ON (TR (LJ a j)) 10) (iD (IV (Db j)) (Db j) 10) (ON (TR (Db j)) 10) (AR (LJ a j)) (AR (Db j)) (AR (Zp (AUR j a) (AUX j a))) AC (VO (KU (rA j) (FS j)) a (MW (λ k=>JL k (rA j) (JX (rA j) k (FS j)) (HT (rA j) k) (aI j k) (IS (rA j) k) (gB j k) (QN (rA j) k) (eK j k)) MM (GQ (λ k=>Gq (Jh (Jg j a) k) (Sv a j k))) (GQ (λ k=>AS (Om (O0 j a) any (LJ a j) k) (Yf a j k))) (GQ (λ k=>Mk (YJ (Jg j a) k) (Jl a j k) (Nj (Jg j a) k) (Np a j k) (AS (Dn (Jg j a) k) (Rr a j k)) (Vr (Jg j a) k (NH a j) k))) AC (KU (FS j) (TW j a)) (OT a) (IW (SX a) MM (GQ (λ k=>Gq (Sv a j k) (Jh (Jg j a) k))) (GQ (λ k=>AS (Yf a j k) (Om (O0 j a) any (LJ a j) k))) (GQ (λ k=>Mk (Jl a j k) (YJ (Jg j a) k) (Np a j k) (Nj (Jg j a) k) (AS (Rr a j k) (Dn (Jg j a) k)) (Vr (NH a j) k (Jg j a) k))) (VZ (O0 j a)) (LY (BHV (AIL (O0 j a) (Jg j a) (LJ a j) fuel (Db j)))) (BHS (λ k=>VK (BJI k (qB (AOV j a any))) (cO (pO k) (rA j)))) (TB (CX (AOV j a any)) 1000))))) (hd64 (Qz (uZ (eI (Tq (Tq R2))))) (hd72 (hd73 10 (Qz (jW 0))))) (BG AC (KU (ZO j j a) (FS j)) (OT a) (SX a) (FN (KU (ZO j j a) (TW j a)) (λ k=>JL k (ZO j j a) (JX (ZO j j a) k (TW j a)) (HT (ZO j j a) k) (HT (TW j a) k) (IS (ZO j j a) k) (IS (TW j a) k) (QN (ZO j j a) k) (QN (TW j a) k)) AC (KU (FS j) (ZO j j a)) (OT a) (SX a) (KU (TW j a) (ZO j j a)) (AG (λ k=>JL k (TW j a) (JX (TW j a) k (ZO j j a)) (HT (TW j a) k) (HT (ZO j j a) k) (IS (TW j a) k) (IS (ZO j j a) k) (QN (TW j a) k) (QN (ZO j j a) k))) (Em (ZO j j a) a))) ((@Exists KD) (λ k=>HL (IW AC AC (KU (FZ k) (FS j)) (OT a) (SX a) (KU (FZ k) (TW j a)) (AG (λ l=>JL l (FZ k) (JX (FZ k) l (TW j a)) (HT (FZ k) l) (HT (TW j a) l) (IS (FZ k) l) (IS (TW j a) l) (QN (FZ k) l) (QN (TW j a) l))) ZA (AG (λ l=>Nw l (D5 k a) (BAB (ZO j j a) a)))) (AJ (LH (FZ k) a) (Em (FZ k) a) (dO (KD.k k) (Gy (FZ k) a) a)) (AWK a a) k i)))))) (BF (Bl (Py (Pa a) (ZT (FZ i))) (Pa a) (Sx a) (MP (Pa a)) (MP a) (λ j=>KV j (Pa a) (ZJ (Pa a) j (SY (FZ i) j)) (FG (Pa a) j) (HT (FZ i) j) (FJ (Pa a) j) (IS (FZ i) j) (EY (Pa a) j) (QN (FZ i) j)))))))) := by kernel_rfl
theorem BKK (d : Desk) : gO (λ (i : Nat) => decide (0 < gD (EI d) i)) 10 0 = ID (EI d) := rfl
theorem yU : ∀ (r : List Way) (l : List Int), (Zs l r).length = l.length
 | [], _ => rfl
 | w :: r, l => by simp only [Zs]; rw [yU r]; simp
theorem TY (d : Desk) : (EI d).length = 10 := by unfold EI; rw [yU]; simp
theorem AJH {l : List Int} (h : l.length = 10) : (gD l 0 == 0 && (gD l 1 == 0 && (gD l 2 == 0 && (gD l 3 == 0 && (gD l 4 == 0 && (gD l 5 == 0 && (gD l 6 == 0 && (gD l 7 == 0 && (gD l 8 == 0 && (gD l 9 == 0 && true)))))))))) = true ↔ l = List.replicate 10 0 := by
 match l, h with
 | [a, b, c, d, e, f, g, h, i, j], _ => simp [gD, List.replicate]
theorem ARC (q : Int) (l : List Step) (all : List Way) : NO all.length (λ i => gD (AQ q all l) i) = AQ q all l := by
 conv => lhs; rw [<- DR q l all]
 exact Sq _
theorem AWS (q : Int) (all : List Way) (s : Step) (i : Nat) : (gD (Ae q all s) i).fr = (gD all i).fr /\ (gD (Ae q all s) i).to = (gD all i).to /\ (gD (Ae q all s) i).sp = (gD all i).sp := by
 unfold Ae
 by_cases h : s.way.toNat < all.length
 ·rw [BD h]; split
  ·rename_i he; subst he; exact ⟨rfl, rfl, rfl⟩
  ·exact ⟨rfl, rfl, rfl⟩
 ·have : all.modify s.way.toNat (λ w => { w with now := if s.back then wr (w.now - q) else wr (w.now + q) }) = all := by
   apply List.ext_getElem?; intro j; rw [List.getElem?_modify]
   by_cases hj : s.way.toNat = j
   ·subst hj; rw [List.getElem?_eq_none (by omega)]; rfl
   ·simp [hj]
  rw [this]; exact ⟨rfl, rfl, rfl⟩
theorem bL (q : Int) : ∀ (l : List Step) (all : List Way) (i : Nat), (gD (AQ q all l) i).fr = (gD all i).fr /\ (gD (AQ q all l) i).to = (gD all i).to /\ (gD (AQ q all l) i).sp = (gD all i).sp
 | [], _, _ => ⟨rfl, rfl, rfl⟩
 | s :: l, all, i => by
  obtain ⟨h1, h2, h3⟩ := bL q l (Ae q all s) i
  obtain ⟨h4, h5, h6⟩ := AWS q all s i
  simp only [AQ]
  exact ⟨h1.trans h4, h2.trans h5, h3.trans h6⟩
theorem AML {d : Desk} (h : d.ok) (q : Int) (l : List Step) : (Desk.mk (AQ q d.all l) d.out d.nR).ok := by
 refine ⟨h.out, ?_, ?_, λ i hi => ?_⟩
 ·show (AQ q d.all l).length <= 23; rw [DR]; exact h.len
 ·show _ <= (AQ q d.all l).length; rw [DR]; exact h.cut
 ·have hi : i < (AQ q d.all l).length := hi
  rw [DR] at hi
  obtain ⟨h1, h2, _⟩ := bL q l d.all i
  show (0 <= (gD (AQ q d.all l) i).fr /\ _) /\ _
  rw [h1, h2]
  exact h.ends i hi
theorem AEI (m : Map) (fr : Int) (hf : 0 <= fr /\ fr < 10) : ∀ (l : List Int) (p : Nat) (st : Int × Far), p + l.length <= 10 -> (0 <= st.1 /\ st.1 < 10) -> 0 <= (UH m fr l p st).1 /\ (UH m fr l p st).1 < 10
 | [], _, _, _, h => h
 | x :: l, p, st, hp, h => by
  simp only [List.length_cons] at hp
  simp only [UH]
  refine AEI m fr hf l (p + 1) _ (by omega) ?_
  cases m.at p with
  | none => exact h
  | some f =>
   simp only
   split
   ·exact h
   ·split
    ·exact ⟨by simp, by simp; omega⟩
    ·exact h
def Yx (d : Desk) (to : Int) : DM := DM.mk d (ID (EI d)) to (Aj d any (ID (EI d))).m (Aj d any (ID (EI d))).st (min (gD (EI d) (ID (EI d)).toNat) (wr (-gD (EI d) to.toNat)))
theorem M8 {d df : Desk} {k : Nat} (hne : EI d ≠ List.replicate 10 0) (h : PI k d = some df) : ∃ k', k = k' + 1 /\ (0 <= ID (EI d) /\ ID (EI d) < d.out + 2) /\ (NP d any (ID (EI d))).isSome = true /\
  ∀ to, to = (UH (Aj d any (ID (EI d))).m (ID (EI d)) (EI d) 0 (ID (EI d), zF)).1 -> (SZ d (Yx d to).m (ID (EI d)) fuel to).isSome = true /\ (∀ s ∈ (Yx d to).tr, 0 <= s.way /\ s.way < d.all.length) /\ (Yx d to).tr.length <= 1000 /\ PI k' (Desk.mk (AQ (Yx d to).q d.all (Yx d to).tr) d.out d.nR) = some df := by
 cases k with
 | zero => cases h
 | succ k =>
  simp only [PI, if_neg hne] at h
  split at h
  ·cases h
  rename_i d1 hd1
  unfold XO at hd1
  simp only at hd1
  split at hd1
  ·cases hd1
  rename_i hfr
  split at hd1
  ·cases hd1
  rename_i r hr
  have hrf : Aj d any (ID (EI d)) = r := by simp [Aj, hr]
  refine ⟨k, rfl, by omega, by rw [hr]; rfl, λ to hto => ?_⟩
  rw [hrf] at hto
  have hz : zF = ⟨0, 0, ⟨0, false⟩⟩ := rfl
  rw [hz] at hto
  rw [<- hto] at hd1
  unfold Nn at hd1
  split at hd1
  ·cases hd1
  rename_i d2 q2 h2
  split at h2
  ·cases h2
  rename_i l hl
  split at h2
  ·rename_i hg
   have hX : (Yx d to).m = r.m := by simp only [Yx, hrf]
   have htr : (Yx d to).tr = l := by
    unfold DM.tr
    rw [hX]
    show (SZ d r.m (ID (EI d)) fuel to).getD [] = l
    rw [hl]; rfl
   have hqq : (Yx d to).q = JS d (min (gD (EI d) (ID (EI d)).toNat) (wr (-gD (EI d) to.toNat))) l := by
    unfold DM.q; rw [htr]; rfl
   simp only [Bool.and_eq_true, List.all_eq_true, decide_eq_true_eq] at hg
   rw [hX, htr, hqq, hl]
   cases h2; cases hd1
   exact ⟨rfl, hg.1, hg.2, h⟩
  ·cases h2
theorem AJT (to fr : Int) (f best : Far) : (bif bif to == fr then true else decide (f.cost < best.cost) then true else bif f.cost == best.cost then decide (f.many < best.many) else false) = (decide (to = fr) || better f best) := by
 unfold better
 by_cases h1 : to = fr <;> by_cases h2 : f.cost < best.cost <;> by_cases h3 : f.cost = best.cost <;> simp [h1, h2, h3]
theorem I3 {l : List Int} (h : l.length = 10) (m : Map) (fr : Int) {p : Nat} (hp : p < 10) (to : Int) (best : Far) : UH m fr (l.drop p) p (to, best) = UH m fr (l.drop (p + 1)) (p + 1) (if (bif decide (gD l p >= 0) then true else !(m.at p).isSome) then (to, best) else if decide (to = fr) || better (m.far p) best then ((p : Int), m.far p) else (to, best)) := by
 rw [JP (by omega)]
 simp only [UH]
 congr 1
 cases hq : m.at p with
 | none => by_cases h0 : 0 <= gD l p <;> simp [h0]
 | some f =>
  have hf : m.far p = f := by simp [Map.far, hq]
  by_cases h0 : 0 <= gD l p <;> simp [h0, hf]
theorem ADU (a df : Desk) (s : KD) : (G0 a df).meas s = s.k := rfl
theorem AHY (a df : Desk) (gs : List Nat) (s : NQ) : (nC a df gs).meas s = 10 - s.p := rfl
theorem p68 (a : Desk) (hd : a.ok) (hr : (MJ a).isSome = true) : V68 a := by
 have hrf : PI fuel a = some ((MJ a).getD default) := by
  obtain ⟨r, h⟩ := Option.isSome_iff_exists.1 hr
  rw [h]; exact h
 have hRA : RA.counts = any := rfl
 rw [vc68]<;> simp only [go_sem]
 simp only [CC, eq_self, implies_true, forall_const, ADU, AHY, List.headD_cons, BKK, uT, gT, hRA, yS, DR, ARC]
 generalize (MJ a).getD default = df at *
 have hz : (Value.agg #[Value.int IntKind.i64 0, Value.int IntKind.i64 0, Value.int IntKind.i64 0, Value.int IntKind.i64 0, Value.int IntKind.i64 0, Value.int IntKind.i64 0, Value.int IntKind.i64 0, Value.int IntKind.i64 0, Value.int IntKind.i64 0, Value.int IntKind.i64 0]).cells.toList = (List.replicate 10 (Value.int IntKind.i64 0).cells.toList).flatten := rfl
 refine ⟨⟨hd, hz⟩, ⟨⟨fuel, a.all⟩, ⟨rfl, rfl, λ _ _ => ⟨rfl, rfl, rfl, rfl, rfl⟩, λ _ _ => rfl⟩, rfl, hd, hrf⟩, λ a1 ⟨h1, h2, h3⟩ => ⟨hz, λ hne => ?_, λ heq => ?_⟩⟩
 ·have hne : EI (Desk.mk a1.all a.out a.nR) ≠ List.replicate 10 0 := λ he => by
   rw [(AJH (TY _)).2 he] at hne; cases hne
  obtain ⟨k', hk, hfr, hrv, hnx⟩ := M8 hne h3
  refine ⟨⟨h2, hfr, hrv⟩, ⟨⟨a1.all, 0, _, zF⟩, ⟨rfl, rfl, λ _ _ => rfl, rfl, rfl, rfl, λ _ _ => ⟨rfl, rfl, rfl, rfl, rfl⟩, λ _ _ => rfl, λ _ => rfl, λ _ => rfl, λ _ => ⟨rfl, rfl, rfl, rfl⟩, rfl, rfl, rfl, rfl⟩, h1, h2, hne, h3, by simp, rfl⟩, λ a4 ⟨g1, g2, g3, g4, g5, g6⟩ => ⟨λ hlt => ⟨⟨by omega, hlt⟩, rfl, λ hc => ?_, λ hc => ⟨λ hb => ?_, λ hb => ?_⟩⟩, λ hge => ?_⟩⟩
  ·have hlt : a4.p < 10 := by omega
   rw [I3 (TY _) _ _ hlt, hc] at g6
   exact ⟨⟨a4.all, a4.p + 1, a4.to, a4.best⟩, ⟨rfl, rfl, λ _ _ => rfl, (AL (by omega)).symm, rfl, rfl, λ _ _ => ⟨rfl, rfl, rfl, rfl, rfl⟩, λ _ _ => rfl, λ _ => rfl, λ _ => rfl, λ _ => ⟨rfl, rfl, rfl, rfl⟩, rfl, rfl, rfl, rfl⟩, ⟨g1, g2, g3, g4, hlt, g6⟩, by show _ - (a4.p + 1) < _; omega⟩
  ·have hlt : a4.p < 10 := by omega
   have hb := (AJT _ _ _ _).symm.trans hb
   rw [I3 (TY _) _ _ hlt, hc, hb] at g6
   exact ⟨⟨a4.all, a4.p + 1, a4.p, _⟩, ⟨rfl, rfl, λ _ _ => rfl, (AL (by omega)).symm, rfl, rfl, λ _ _ => ⟨rfl, rfl, rfl, rfl, rfl⟩, λ _ _ => rfl, λ _ => rfl, λ _ => rfl, λ _ => ⟨rfl, rfl, rfl, rfl⟩, rfl, rfl, rfl, rfl⟩, ⟨g1, g2, g3, g4, hlt, g6⟩, by show _ - (a4.p + 1) < _; omega⟩
  ·have hlt : a4.p < 10 := by omega
   have hb := (AJT _ _ _ _).symm.trans hb
   rw [I3 (TY _) _ _ hlt, hc, hb] at g6
   exact ⟨⟨a4.all, a4.p + 1, a4.to, a4.best⟩, ⟨rfl, rfl, λ _ _ => rfl, (AL (by omega)).symm, rfl, rfl, λ _ _ => ⟨rfl, rfl, rfl, rfl, rfl⟩, λ _ _ => rfl, λ _ => rfl, λ _ => rfl, λ _ => ⟨rfl, rfl, rfl, rfl⟩, rfl, rfl, rfl, rfl⟩, ⟨g1, g2, g3, g4, hlt, g6⟩, by show _ - (a4.p + 1) < _; omega⟩
  ·have hp : a4.p = 10 := by omega
   rw [hp, List.drop_eq_nil_of_le (by rw [TY]; omega)] at g6
   have g6 : (a4.to, a4.best) = _ := g6
   obtain ⟨k2, hk2, hfr2, _, hnx2⟩ := M8 g3 g4
   have ho := h2.out
   have hfr3 : 0 <= ID (EI (Desk.mk a4.all a.out a.nR)) /\ ID (EI (Desk.mk a4.all a.out a.nR)) < 10 := ⟨hfr2.1, by have := hfr2.2; simp only at this ho; omega⟩
   have hto : a4.to = _ := congrArg Prod.fst g6
   have hto2 : 0 <= a4.to /\ a4.to < 10 := by rw [hto]; exact AEI _ _ hfr3 _ _ _ (by rw [TY]; omega) hfr3
   obtain ⟨t1, t2, t3, t4⟩ := hnx2 _ hto
   have hokp := AML g2 (Yx (Desk.mk a4.all a.out a.nR) a4.to).q (Yx (Desk.mk a4.all a.out a.nR) a4.to).tr
   exact ⟨⟨hfr3, by omega, hto2, by omega, g2, t1, t2, t3⟩, hz, hokp, ⟨k2, AQ (Yx (Desk.mk a4.all a.out a.nR) a4.to).q a4.all (Yx (Desk.mk a4.all a.out a.nR) a4.to).tr⟩, ⟨DR _ _ _, DR _ _ _, λ _ _ => ⟨rfl, rfl, rfl, rfl, rfl⟩, λ _ _ => rfl⟩, ⟨(DR _ _ _).trans g1, hokp, t4⟩, by show k2 < a1.k; omega⟩
 ·have he : EI (Desk.mk a1.all a.out a.nR) = List.replicate 10 0 := (AJH (TY _)).1 heq
  cases hk : a1.k with
  | zero => rw [hk] at h3; cases h3
  | succ k =>
   rw [hk] at h3
   simp only [PI, if_pos he] at h3
   cases h3
   exact ⟨rfl, rfl, rfl, rfl, λ _ _ => ⟨rfl, rfl, rfl, rfl, rfl⟩⟩
theorem ok68 : AH Try.prog 68 (C68.spec Zi) := UY C68 (λ a => A68 a ((MJ a).getD default)) [] [] Try.func68 (λ _ => by kernel_rfl) (λ _ => AA ok94 (AA ok95 (AA BPY (AA (ok97 _) AE)))) (λ a h => p68 a h.1 h.2) (λ _ => WR rfl rfl) _
end Go.Bal
