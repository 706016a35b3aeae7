/- The reference: all levels, and what levels prove. -/
import Derived.Test.YtonddbmhljelgaaBalT20
set_option linter.unusedVariables false
set_option linter.unusedSimpArgs false
namespace Go.Bal
open Go Go.Sym Go.Proofs
def XU (l : List Bool) : DVal := lst 1 l.length λ i => .v (.bool (gD l i))
def eLL (l : List (List Int)) : DVal := lst 1 l.length λ i => BC (gD l i)
def BPS (l : List (List Int)) : HCell := .live (.row 1 l.length λ i => BC (gD l i))
def BIA (a : AVal) (H : Heap) : Option (List Bool × List Nat) := match dRow a H with
 | some (n, g, f) => some (NO n λ i => BFN (g i), f)
 | none => none
structure LvA where
 N : NetL
 grp : List Bool
 gate : Int
structure LvI where
 s : Nat
 k : Nat
 d : Nat
 i : Nat
 deriving Inhabited
def gV (a : LvA) (s d : Nat) : Int := bif gD a.grp s then wr (a.gate + ((d : Int) - 1)) else (d : Int) - 1
def lvB (s : Nat) (lv : List Int) (x : Int) (r : Reach) : Bool := (bif decide (r.fr > r.to) then r.fr else r.to) != (s : Int) || inM (wr (x - gD lv (bif decide (r.fr > r.to) then r.to else r.fr).toNat)) (-1) 1
def Wa (a : LvA) (s : Nat) (lv : List Int) (x : Int) : Nat -> Bool
 | 0 => true
 | i + 1 => Wa a s lv x i && lvB s lv x (gD a.N.r i)
def jQ (a : LvA) (s : Nat) (lv : List Int) (d : Nat) : List (List Int) := if Wa a s lv (gV a s d) a.N.r.length then [lv ++ [gV a s d]] else []
def lvD (a : LvA) (s : Nat) (lv : List Int) : Nat -> List (List Int)
 | 0 => []
 | d + 1 => lvD a s lv d ++ jQ a s lv d
def lvK (a : LvA) (s : Nat) (all : List (List Int)) : Nat -> List (List Int)
 | 0 => []
 | k + 1 => lvK a s all k ++ lvD a s (gD all k) 3
def BZ (a : LvA) : Nat -> List (List Int)
 | 0 => [[]]
 | s + 1 => lvK a s (BZ a s) (BZ a s).length
def Hs (a : LvA) (x : LvI) : List (List Int) := lvK a x.s (BZ a x.s) x.k ++ lvD a x.s (gD (BZ a x.s) x.k) x.d
def lvSl (a : LvA) (s : Nat) : List (Nat × AVal) := [(1, .d (XU a.grp)), (2, .int a.gate), (3, .bptr 203 0), (7, .d (eLL (BZ a s))), (8, .int s)]
def AHJ (a : LvA) (x : LvI) (nx : AVal) : List (Nat × AVal) := lvSl a x.s ++ [(9, nx), (10, .int x.k), (11, .int ((x.d : Int) - 1))]
def BFA (a : LvA) (x : LvI) (nx : AVal) : List (Nat × AVal) := AHJ a x nx ++ [(12, .int (gV a x.s x.d)), (13, .bool (Wa a x.s (gD (BZ a x.s) x.k) (gV a x.s x.d) x.i)), (14, .int x.i)]
def Lu : AVal := .d Gg
def ARJ (a : LvA) (x : LvI) : AVal := .own 204 1 0 (Hs a x).length
def lvH (a : LvA) : List (Nat × HCell) := [(203, LF a.N)]
def lvHO (a : LvA) (x : LvI) : List (Nat × HCell) := [(203, LF a.N), (204, BPS (Hs a x))]
def lvI3 (a : LvA) (s : Nat) : Prop := s <= a.N.g.length
def lvI7 (a : LvA) (gs : List Nat) (x : LvI) : Prop := x.s < a.N.g.length /\ a.N.g.length - x.s = gs.headD 0 /\ x.k <= (BZ a x.s).length /\ x.d = 0
def BFS (a : LvA) (m7 m3 : Nat) (x : LvI) : Prop := x.s < a.N.g.length /\ a.N.g.length - x.s = m3 /\ x.k < (BZ a x.s).length /\ (BZ a x.s).length - x.k = m7 /\ x.d <= 3
def AZW (a : LvA) (m10 m7 m3 : Nat) (x : LvI) : Prop := x.s < a.N.g.length /\ a.N.g.length - x.s = m3 /\ x.k < (BZ a x.s).length /\ (BZ a x.s).length - x.k = m7 /\ x.d < 3 /\ 3 - x.d = m10 /\ x.i <= a.N.r.length
def BER (a : LvA) (m3 : Nat) : Shape := { α := LvI, dflt := default, T := λ x => ⟨lvSl a x.s ++ [(9, Lu), (10, .int x.k)], lvH a⟩, inv := λ x => lvI7 a [m3] x /\ Hs a x = [], meas := λ x => (BZ a x.s).length - x.k, tag := [0] }
def BEV (a : LvA) (m3 : Nat) : Shape := { α := LvI, dflt := default, T := λ x => ⟨lvSl a x.s ++ [(9, ARJ a x), (10, .int x.k)], lvHO a x⟩, inv := λ x => lvI7 a [m3] x, meas := λ x => (BZ a x.s).length - x.k, tag := [1] }
def AWE (a : LvA) (m7 m3 : Nat) : Shape := { α := LvI, dflt := default, T := λ x => ⟨AHJ a x Lu, lvH a⟩, inv := λ x => BFS a m7 m3 x /\ Hs a x = [], meas := λ x => 3 - x.d, tag := [0] }
def AMC (a : LvA) (m7 m3 : Nat) : Shape := { α := LvI, dflt := default, T := λ x => ⟨AHJ a x (ARJ a x), lvHO a x⟩, inv := λ x => BFS a m7 m3 x, meas := λ x => 3 - x.d, tag := [1] }
def ASS (a : LvA) (m10 m7 m3 : Nat) : Shape := { α := LvI, dflt := default, T := λ x => ⟨AHJ a x Lu ++ [(12, .int (gV a x.s x.d))], lvH a⟩, inv := λ x => AZW a m10 m7 m3 x /\ Hs a x = [], meas := λ _ => 0 }
def AWZ (a : LvA) (m10 m7 m3 : Nat) : Shape := { α := LvI, dflt := default, T := λ x => ⟨AHJ a x (ARJ a x) ++ [(12, .int (gV a x.s x.d))], lvHO a x⟩, inv := λ x => AZW a m10 m7 m3 x, meas := λ _ => 0 }
def AKX (a : LvA) (m10 m7 m3 : Nat) : Shape := { α := LvI, dflt := default, T := λ x => ⟨BFA a x Lu, lvH a⟩, inv := λ x => AZW a m10 m7 m3 x /\ Hs a x = [], meas := λ x => a.N.r.length - x.i }
def F9 (a : LvA) (m10 m7 m3 : Nat) : Shape := { α := LvI, dflt := default, T := λ x => ⟨BFA a x (ARJ a x), lvHO a x⟩, inv := λ x => AZW a m10 m7 m3 x, meas := λ x => a.N.r.length - x.i }
def BGC (a : LvA) (x : LvI) (nx : AVal) : List (Nat × AVal) := lvSl a x.s ++ [(9, nx), (10, .int x.k), (11, .int ((x.d : Int) - 1 - 1))]
def BMR (a : LvA) (m10 m7 m3 : Nat) (x : LvI) : Prop := BFS a m7 m3 x /\ 3 - x.d + 1 = m10
def BGJ (a : LvA) (m10 m7 m3 : Nat) : Shape := { α := LvI, dflt := default, T := λ x => ⟨BGC a x Lu, lvH a⟩, inv := λ x => BMR a m10 m7 m3 x /\ Hs a x = [], meas := λ _ => 0 }
def AWP (a : LvA) (m10 m7 m3 : Nat) : Shape := { α := LvI, dflt := default, T := λ x => ⟨BGC a x (ARJ a x), lvHO a x⟩, inv := λ x => BMR a m10 m7 m3 x, meas := λ _ => 0 }
def AUY (a : LvA) (m10 m7 m3 : Nat) : Shape := { AWP a m10 m7 m3 with first := [(204, 25176)] }
def A53 (a : LvA) : Ann := { ann 102 [(60, s60)] with md := λ id => if id = 1 then some (λ k => if k = 0 then 2 else 1) else if id = 24 then some (λ k => if k = 9 then 0 else 1) else none, loops := λ id => if id = 3 then some [{ α := Nat, dflt := 0, T := λ s => ⟨lvSl a s, lvH a⟩, inv := λ s => lvI3 a s, meas := λ s => a.N.g.length - s, first := [(203, 1000)], ffz := [2016], afz := [204] }] else none, inner := λ gs id => if id = 7 then some [BER a (gs.getD 0 0), BEV a (gs.getD 0 0)] else if id = 10 then if gs.getD 1 0 = 1 then some [AMC a (gs.getD 0 0) (gs.getD 2 0)] else some [AWE a (gs.getD 0 0) (gs.getD 2 0), AMC a (gs.getD 0 0) (gs.getD 2 0)] else if id = 17 then if gs.getD 1 0 = 1 then some [F9 a (gs.getD 0 0) (gs.getD 2 0) (gs.getD 4 0)] else some [AKX a (gs.getD 0 0) (gs.getD 2 0) (gs.getD 4 0)] else none, cutIn := λ gs id => if id = 15 then if gs.getD 1 0 = 1 then some [AWZ a (gs.getD 0 0) (gs.getD 2 0) (gs.getD 4 0)] else some [ASS a (gs.getD 0 0) (gs.getD 2 0) (gs.getD 4 0)] else if id = 11 then if gs.getD 1 0 = 1 then some [AUY a (gs.getD 0 0) (gs.getD 2 0) (gs.getD 4 0), AWP a (gs.getD 0 0) (gs.getD 2 0) (gs.getD 4 0)] else some [AUY a (gs.getD 0 0) (gs.getD 2 0) (gs.getD 4 0), BGJ a (gs.getD 0 0) (gs.getD 2 0) (gs.getD 4 0)] else none }
def C53 : Ctr := { α := LvA, xs := λ a => [.d (LW a.N), .d (XU a.grp), .int a.gate], L := λ _ => [], val := λ a => .d (eLL (BZ a a.N.g.length)), keep := λ _ => [], pre := λ a => [AB a.N = 0, a.grp.length = a.N.g.length, -1 <= a.gate /\ a.gate <= 1] }
def V53 (a : LvA) : Prop := BN Try.prog (A53 a) Try.f53 (AF Try.f53) (C53.xs a) (AD []) (C53.val a) (C53.keep a) [] []
abbrev Ls:=@List.length Bool
abbrev AIW:=LvA.grp
abbrev Ti:=@gD Bool instInhabitedBool
abbrev ARY:=LvA.gate
abbrev ABQ:=@List.length (List Int)
abbrev AGV:=@gD (List Int) (@instInhabitedList Int)
abbrev qN:=LvA.N
abbrev OL:=@Exists LvI
abbrev Lp:=LvI.s
abbrev XH:=LvI.k
abbrev APN:=@HAppend.hAppend (List Nat) (List Nat) (List Nat) (@instHAppendOfAppend (List Nat) (@List.instAppend Nat))
abbrev AAU:=LvI.d
abbrev Ox:=λ (f : LvI -> Prop) => ∀ (x : LvI), f x
abbrev QL:=LvI.i
abbrev Dj:=ASS
abbrev lF a b c (d:Nat->Prop):=Es a b c (AG d)
abbrev fB a b c d:=lF a b (FH c d) (λ i=>FW i c d)
abbrev Mr a b c:=AGV (BZ a b) c
abbrev Ta a:=AY (qN a)
abbrev Fz a b:=ABQ (BZ a b)
abbrev kX a b c:=AJP a b (Ti c a)
abbrev H4 a:=Ls (AIW a)
abbrev Dh a b:=kX a (H4 b) (AIW b)
abbrev OH a:=DU (H4 a)
abbrev Ki a b c:=MH (OH a) (λ i=>Dh i b) c
abbrev NC a:=DX (qN a)
abbrev FU a:=CA (qN a)
abbrev NU a:=ABD (Ta a) (qN a)
abbrev GA a:=DU (Ta a)
abbrev Yl a b c:=AGV (Hs a b) c
abbrev ATJ a b c d e f:=fB a b c (Yl d e f)
abbrev VH a b:=ABQ (Hs a b)
abbrev GB a:=AR (ARY a)
abbrev APL a b:=(@List.getD Nat) a b 0
abbrev Yz a:=APL a 0
abbrev BAX a b c:=AXL a (APN b c)
abbrev AZG a b c d:=BAX (WC a b) c d
abbrev kW a b:=AZG (Ta a) b Gv Gv
abbrev APQ a b:=BEV a (Yz (kW a b))
abbrev vJ a:=FB (AAU a)
abbrev BIB a b:=BZ a (Lp b)
abbrev Ow a b:=ABQ (BIB a b)
abbrev GX a b c:=Tp (Ta a) (Lp b) c
abbrev tI a:=iR (Yz a)
abbrev Az a b:=ON (Lp a) (Ta b)
abbrev hU a b c d e f g h:=IW a b c d e f g b h
abbrev UI a b c d e f g h p:=ATJ a (VH b c) (Yl d e f) g h p
abbrev AKT a b c:=ED (VH a b) c
abbrev JO a b c:=AKT a b (VH a c)
abbrev AVO a b:=EQ (Lp a) b
abbrev HX a b:=AVO a (Lp b)
abbrev AYM a b c:=AGV (BIB a b) c
abbrev AVD a b c d:=fB a (Ow b c) (AYM b c a) d
abbrev HY a b c d:=AVD a b c (AYM b d a)
abbrev AVM a b c:=ED (Ow a b) c
abbrev HZ a b c:=AVM a b (Ow a c)
abbrev Bj a b c:=VK (And a b) c
abbrev BED a b c:=AMC a (Yz b) c
abbrev BAD a b c d:=BAX (AKO a b) (Shape.tag c) d
abbrev BJE a b c d e:=APL (BAD a b c d) e
abbrev pU a b c:=BJE a b a c 2
abbrev BHY a b c d:=pU a b (kW c d)
abbrev ARA a b c:=BHY (APQ a b) c a b
abbrev BJG a b c d:=BAD a b a (kW c d)
abbrev BIQ a b c d e:=BJG (APQ a b) c d e
abbrev CQ a b c:=BED a (BIQ a b c a b) (ARA a b c)
abbrev L4 a b c d e f g:=mB a b (ON c d) (Tp d c e) f g
abbrev SU a b c d e f g h:=L4 (Az a b) c (XH d) (Ow e f) g (AAU h) 3
abbrev Cr a b c:=BIQ a b c a b
abbrev ZL a:=hd35 (BT (AAU a)) 1
abbrev Rl a:=hd35 (ZL a) 1
abbrev JW a b:=EQ (XH a) (XH b)
abbrev Sz a b:=ED (ADS 3 (AAU a)) b
abbrev BGI a b c:=BAD a b a c
abbrev ASI a b c:=Yz (BGI a b c)
abbrev MR a b c d e f g:=ASI (CQ a b c) d (Cr e f g)
abbrev AWB a b c:=BJE a b a c 4
abbrev ML a b c d e f g:=AWB (CQ a b c) d (Cr e f g)
abbrev Qi a b:=AS a (ZL b)
abbrev UC a b:=gV a (Lp b) (AAU b)
abbrev Bu a b:=AYM a b (XH b)
abbrev Rp a b:=EA (Bu a b)
abbrev Jk a b:=AT (Rp a b)
abbrev Xv a b c:=GF (XH a) (Ow b c)
abbrev SP a b:=Wa a (Lp b) (Bu a b) (UC a b) (QL b)
abbrev AWY a b:=APN (Shape.tag a) b
abbrev AUK a b c d:=AWY a (BGI b c d)
abbrev AUG a b c d e:=APL (AUK a b c d) e
abbrev Ig a b c d e f g:=AUG a b c (Cr d e f) g
abbrev AUJ a b c d e f:=AWZ a b (pU c d e) f
abbrev TZ a b c d e f g h:=AUJ a b c d (Cr e f g) h
abbrev lB a b c d:=Yz (AUK a b c d)
abbrev YV a b c d e f:=AJ (Az a b) (GX c d e) f
abbrev Sh a:=AM (qN a)
abbrev PX a b c d e f g h p:=L4 (ON (XH a) (Ow b a)) (Tp (Ow c d) (XH d) e) (AAU f) 3 g (QL h) (Sh p)
abbrev eR a b c d e f g h:=IW a b c d AC e f g h
abbrev Tm a b:=IM a (qN b)
abbrev Ol a b c:=D4 a (Ta b) (qN c)
abbrev TM a b:=EJ (qN a) (QL b)
abbrev iL a b:=cS a (Lp b)
abbrev TU a b:=EC (qN a) (QL b)
abbrev Yh a b c d:=AS (UC a b) (UC c d)
abbrev YM a b:=Qi (ZL a) b
abbrev aV a b c:=VB (and a b) c
abbrev Jv a b c d e:=aV (SP a b) (not (iL c d)) e
abbrev Ny a:=AG (λ i=>Dh i a)
abbrev ARE a b:=BER a (Yz (kW a b))
abbrev BHH a b c d e:=BHY (ARE a b) c d e
abbrev P9 a b c:=BHH a b c a b
abbrev BIC a b c d e:=BJG (ARE a b) c d e
abbrev Q5 a b c:=BIC a b c a b
abbrev CL a b c:=BED a (Q5 a b c) (P9 a b c)
abbrev M5 a b c:=Yz (BIC a b c a b)
abbrev AVE a b c d e:=ASI a b (Q5 c d e)
abbrev NB a b c d e f g:=AVE (CL a b c) d e f g
abbrev iS a b c d e:=pU a b (Q5 c d e)
abbrev ATM a b c d e:=AWB a b (Q5 c d e)
abbrev MU a b c d e f g:=ATM (CL a b c) d e f g
abbrev NG a b c d e f g:=AUG a b c (Q5 d e f) g
abbrev TK a b c d e f g h:=AUJ a b c d (Q5 e f g) h
abbrev Jt a b c d e f:=lB a b c (Q5 d e f)
abbrev YZ a b:=(@Eq (List (List Int))) (Hs a b) (@List.nil (List Int))
abbrev NR a b c:=AWE a (M5 a b c) (BHH a b c a b)
abbrev LI a b c d e f g:=AVE (NR a b c) d e f g
abbrev LO a b c d e f g:=iS (NR a b c) d e f g
abbrev LG a b c d e f g:=ATM (NR a b c) d e f g
attribute [go_sem] Ls AIW Ti ARY ABQ AGV qN OL Lp XH APN AAU Ox QL Dj lF fB Mr Ta Fz kX H4 Dh OH Ki NC FU NU GA Yl ATJ VH GB APL Yz BAX AZG kW APQ vJ BIB Ow GX tI Az hU UI AKT JO AVO HX AYM AVD HY AVM HZ Bj BED BAD BJE pU BHY ARA BJG BIQ CQ L4 SU Cr ZL Rl JW Sz BGI ASI MR AWB ML Qi UC Bu Rp Jk Xv SP AWY AUK AUG Ig AUJ TZ lB YV Sh PX eR Tm Ol TM iL TU Yh YM aV Jv Ny ARE BHH P9 BIC Q5 CL M5 AVE NB iS ATM MU NG TK Jt YZ NR LI LO LG
theorem vc53 (a : LvA) : (V53 a) = (PY AC (IJ (λ i=>And (Ki a a (IP (GB a) (IL (Fz a i)) tQ (λ j=>lF j (Fz a i) (RM (Mr a i j)) (λ k=>Fo k (Mr a i j) (hd99 (jW (Ca (Mr a i j) k)) (@default Value instInhabitedValue)))) (AZ i) (GA a) (NU a) (FU a) (NC a))) (TB i (Ta a)))) (λ i=>CG (TB i (Ta a)) i (Ta a) (AJ (OL (λ j=>AJ (EF (OH a) (λ k=>Dh k a) (GB a) (AVM a j (Fz a i)) (MW (λ k=>AVD k a j (Mr a i k)) (AVO j i) AC BU (AZ (XH j)) (GA a) (NU a) (FU a) (NC a))) (OE (Az j a) (GX a j (tI (kW a i))) (XH j) (Ow a j) (vJ j)) (YZ a j))) (Ox (λ j=>CG (JH (Az j a) (GX a j (tI (kW a i))) (EP (XH j) (Ow a j)) (vJ j) (YZ a j)) (XH j) (Ow a j) (AJ (OL (λ k=>Tj (OH a) (LQ (Ny a) (GB a) (HZ a k j) (λ l=>HY l a k j) (IW (HX k j) AC BU (JW k j) (Fs (ZL k)) (GA a) (NU a) (FU a) (NC a))) (SU k a (GX a k (P9 a i j)) k a k (M5 a i j) k) (YZ a k))) (Ox (λ k=>Bj (SU k a (GX a k (P9 a i j)) k a k (M5 a i j) k) (YZ a k) (IK (hd4 (ZL k) 1) (Tj (EG (GF (Lp k) (H4 a)) (Ti (AIW a) (Lp k)) (OL (λ l=>AJ (Ki a a (FR (GB a) (HZ a l k) (λ m=>HY m a l k) (HX l k) (IW AC BU (JW l k) (YM l k) (RI (UC a l) (ARY a) (ZL k)) (GA a) (NU a) (FU a) (NC a)))) (YV l a a l (LG a i j k a i j) (PX l a a l (LO a i j k a i j) l (LI a i j k a i j) l a)) (YZ a l))) (OL (λ l=>AJ (Ki a a (FR (GB a) (HZ a l k) (λ m=>HY m a l k) (HX l k) (IW AC BU (JW l k) (YM l k) (Qi (UC a l) k) (GA a) (NU a) (FU a) (NC a)))) (YV l a a l (LG a i j k a i j) (PX l a a l (LO a i j k a i j) l (LI a i j k a i j) l a)) (YZ a l)))) (Ox (λ l=>RB (And (YV l a a l (LG a i j k a i j) (PX l a a l (LO a i j k a i j) l (LI a i j k a i j) l a)) (YZ a l)) (OL (λ m=>AJ (SH (OH a) (Ny a) (GB a) (HZ a m l) (λ n=>HY n a m l) (HX m l) AC BU (IW (JW m l) (YM m l) (Yh a m a l) (LY (SP a m)) (AZ (QL m)) (GA a) (NU a) (FU a) (NC a))) (YV m a a m (NG (Dj a (LI a i j k a i j) (LO a i j k a i j) (LG a i j k a i j)) (NR a i j) k a i j 4) (PX m a a m (NG (Dj a (LI a i j k a i j) (LO a i j k a i j) (LG a i j k a i j)) (NR a i j) k a i j 2) m (Jt (Dj a (LI a i j k a i j) (LO a i j k a i j) (LG a i j k a i j)) (NR a i j) k a i j) m a)) (YZ a m))) (Ox (λ m=>GM (And (YV m a a m (NG (Dj a (LI a i j k a i j) (LO a i j k a i j) (LG a i j k a i j)) (NR a i j) k a i j 4) (PX m a a m (NG (Dj a (LI a i j k a i j) (LO a i j k a i j) (LG a i j k a i j)) (NR a i j) k a i j 2) m (Jt (Dj a (LI a i j k a i j) (LO a i j k a i j) (LG a i j k a i j)) (NR a i j) k a i j) m a)) (YZ a m)) (QL m) (Sh a) (Sj (QL m) (Sh a) (Tg (QL m) (Sh a))) (Ys (TM a m) (TU a m)) (Bm (Jv a m (TM a m) m (Xv m a m)) (Jv a m (TM a m) m (KX (TU a m) (Rp a m))) (OL (λ n=>HL (SH (OH a) (Ny a) (GB a) (HZ a n m) (λ u=>HY u a n m) (HX n m) AC BU (IW (JW n m) (YM n m) (Yh a n a m) (Qy (SP a n) (SP a m) (SD (iL (TM a m) m) (Ws (Fu (UC a m) (Bu a m) (TU a m))))) (AU (QL n) (QL m)) (GA a) (NU a) (FU a) (NC a))) (And (YV n a a n (NG (Dj a (LI a i j k a i j) (LO a i j k a i j) (LG a i j k a i j)) (NR a i j) k a i j 4) (PX n a a n (NG (Dj a (LI a i j k a i j) (LO a i j k a i j) (LG a i j k a i j)) (NR a i j) k a i j 2) n (Jt (Dj a (LI a i j k a i j) (LO a i j k a i j) (LG a i j k a i j)) (NR a i j) k a i j) n a)) (YZ a n)) (AKX a (Jt (Dj a (LI a i j k a i j) (LO a i j k a i j) (LG a i j k a i j)) (NR a i j) k a i j) (NG (Dj a (LI a i j k a i j) (LO a i j k a i j) (LG a i j k a i j)) (NR a i j) k a i j 2) (NG (Dj a (LI a i j k a i j) (LO a i j k a i j) (LG a i j k a i j)) (NR a i j) k a i j 4)) n m))) (Bm (Jv a m (TU a m) m (Xv m a m)) (Jv a m (TU a m) m (KX (TM a m) (Rp a m))) (OL (λ n=>HL (SH (OH a) (Ny a) (GB a) (HZ a n m) (λ u=>HY u a n m) (HX n m) AC BU (IW (JW n m) (YM n m) (Yh a n a m) (Qy (SP a n) (SP a m) (SD (iL (TU a m) m) (Ws (Fu (UC a m) (Bu a m) (TM a m))))) (AU (QL n) (QL m)) (GA a) (NU a) (FU a) (NC a))) (And (YV n a a n (NG (Dj a (LI a i j k a i j) (LO a i j k a i j) (LG a i j k a i j)) (NR a i j) k a i j 4) (PX n a a n (NG (Dj a (LI a i j k a i j) (LO a i j k a i j) (LG a i j k a i j)) (NR a i j) k a i j 2) n (Jt (Dj a (LI a i j k a i j) (LO a i j k a i j) (LG a i j k a i j)) (NR a i j) k a i j) n a)) (YZ a n)) (AKX a (Jt (Dj a (LI a i j k a i j) (LO a i j k a i j) (LG a i j k a i j)) (NR a i j) k a i j) (NG (Dj a (LI a i j k a i j) (LO a i j k a i j) (LG a i j k a i j)) (NR a i j) k a i j 2) (NG (Dj a (LI a i j k a i j) (LO a i j k a i j) (LG a i j k a i j)) (NR a i j) k a i j 4)) n m))) (IK (SP a m) (BG (Xv m a m) (Nl (BF (mK SK)) (rY SM (Bu a m)) (KO (Rp a m)) (Jk a m) 8) (dQ (Jk a m)) (Vy X0 Nx 24) (OL (λ n=>Ja (OH a) (λ u=>Dh u a) (GB a) (EF (HZ a n m) (λ u=>HY u a n m) (HX n m) AC (ZD (IL (VH a n)) (JW n m) (Qi (Rl n) m) (GA a) (NU a) (FU a) (NC a) (λ u=>lF u (VH a n) (Ju (Yl a n u) (Jk a m)) (λ v=>FL v (Yl a n u) (RR v (Jk a m) (Bu a m) (Bh v) (UC a m)))))) (SU n a (GX a n (LG a i j k a i j)) n a n (LO a i j k a i j) n) (Sz n (LI a i j k a i j))))) (OL (λ n=>Tj (OH a) (LQ (Ny a) (GB a) (HZ a n m) (λ u=>HY u a n m) (IW (HX n m) AC BU (JW n m) (Qi (Rl n) m) (GA a) (NU a) (FU a) (NC a))) (And (SU n a (GX a n (LG a i j k a i j)) n a n (LO a i j k a i j) n) (Sz n (LI a i j k a i j))) (YZ a n)))))))) (Ox (λ l=>Bj (SU l a (GX a l (LG a i j k a i j)) l a l (LO a i j k a i j) l) (Sz l (LI a i j k a i j)) (OL (λ m=>Nb (DW (OH a) (λ n=>Dh n a) (GB a) (EF (HZ a m l) (λ n=>HY n a m l) (HX m l) AC (ZD (JO a m l) (JW m l) (RI (ZL m) (Rl l) 1) (GA a) (NU a) (FU a) (NC a) (λ n=>UI n a m a m n a l n)))) (SU m a (GX a m (P9 a i j)) m a m (M5 a i j) m) (CL a i j) m (NR a i j) k)))) (Ox (λ l=>VK (Bm (SU l a (GX a l (LG a i j k a i j)) l a l (LO a i j k a i j) l) (Sz l (LI a i j k a i j)) (YZ a l)) (OL (λ m=>HL (And (OH a) (LQ (Ny a) (GB a) (HZ a m l) (λ n=>HY n a m l) (IW (HX m l) AC BU (JW m l) (RI (ZL m) (Rl l) 1) (GA a) (NU a) (FU a) (NC a)))) (And (SU m a (GX a m (P9 a i j)) m a m (M5 a i j) m) (YZ a m)) (NR a i j) m k))))) (OL (λ l=>HL (EF (OH a) (λ m=>Dh m a) (GB a) (HZ a l k) (MW (λ m=>HY m a l k) (HX l k) AC BU (AU (XH l) (XH k)) (GA a) (NU a) (FU a) (NC a))) (JH (Az l a) (GX a l (tI (kW a i))) (EP (XH l) (Ow a l)) (vJ l) (YZ a l)) (ARE a i) l j))))) (Ox (λ k=>VK (SU k a (GX a k (P9 a i j)) k a k (M5 a i j) k) (IK (hd4 (ZL k) 1) (W6 (And (EG (GF (Lp k) (H4 a)) (Ti (AIW a) (Lp k)) (OL (λ l=>AP (SH (OH a) (Ny a) (GB a) (HZ a l k) (λ m=>HY m a l k) (HX l k) AC (JO a l k) (Cc (JW l k) (YM l k) (RI (UC a l) (ARY a) (ZL k)) (GA a) (λ m=>Ol m a a) (FU a) (λ m=>Tm m a) (JO a l k) (λ m=>UI m a l a l m a k m))) (Az l a) (GX a l (MU a i j k a i j)) (PX l a a l (iS (CL a i j) k a i j) l (NB a i j k a i j) l a))) (OL (λ l=>AP (SH (OH a) (Ny a) (GB a) (HZ a l k) (λ m=>HY m a l k) (HX l k) AC (JO a l k) (Cc (JW l k) (YM l k) (Qi (UC a l) k) (GA a) (λ m=>Ol m a a) (FU a) (λ m=>Tm m a) (JO a l k) (λ m=>UI m a l a l m a k m))) (Az l a) (GX a l (MU a i j k a i j)) (PX l a a l (iS (CL a i j) k a i j) l (NB a i j k a i j) l a)))) (Ox (λ l=>RB (YV l a a l (MU a i j k a i j) (PX l a a l (iS (CL a i j) k a i j) l (NB a i j k a i j) l a)) (OL (λ m=>AP (Ki a a (eR (GB a) (HZ a m l) (AG (λ n=>HY n a m l)) (HX m l) (JO a m l) (JW m l) (YM m l) (Cc (Yh a m a l) (LY (SP a m)) (AZ (QL m)) (GA a) (λ n=>Ol n a a) (FU a) (λ n=>Tm n a) (JO a m l) (λ n=>UI n a m a m n a l n)))) (Az m a) (GX a m (NG (TK a (NB a i j k a i j) (CL a i j) k a i j (MU a i j k a i j)) (CL a i j) k a i j 4)) (PX m a a m (NG (TK a (NB a i j k a i j) (CL a i j) k a i j (MU a i j k a i j)) (CL a i j) k a i j 2) m (Jt (TK a (NB a i j k a i j) (CL a i j) k a i j (MU a i j k a i j)) (CL a i j) k a i j) m a))) (Ox (λ m=>GM (YV m a a m (NG (TK a (NB a i j k a i j) (CL a i j) k a i j (MU a i j k a i j)) (CL a i j) k a i j 4) (PX m a a m (NG (TK a (NB a i j k a i j) (CL a i j) k a i j (MU a i j k a i j)) (CL a i j) k a i j 2) m (Jt (TK a (NB a i j k a i j) (CL a i j) k a i j (MU a i j k a i j)) (CL a i j) k a i j) m a)) (QL m) (Sh a) (Sj (QL m) (Sh a) (Tg (QL m) (Sh a))) (Ys (TM a m) (TU a m)) (Bm (Jv a m (TM a m) m (Xv m a m)) (Jv a m (TM a m) m (KX (TU a m) (Rp a m))) (OL (λ n=>HL (Ki a a (eR (GB a) (HZ a n m) (AG (λ u=>HY u a n m)) (HX n m) (JO a n m) (JW n m) (YM n m) (Cc (Yh a n a m) (Qy (SP a n) (SP a m) (SD (iL (TM a m) m) (Ws (Fu (UC a m) (Bu a m) (TU a m))))) (AU (QL n) (QL m)) (GA a) (λ u=>Ol u a a) (FU a) (λ u=>Tm u a) (JO a n m) (λ u=>UI u a n a n u a m u)))) (YV n a a n (NG (TK a (NB a i j k a i j) (CL a i j) k a i j (MU a i j k a i j)) (CL a i j) k a i j 4) (PX n a a n (NG (TK a (NB a i j k a i j) (CL a i j) k a i j (MU a i j k a i j)) (CL a i j) k a i j 2) n (Jt (TK a (NB a i j k a i j) (CL a i j) k a i j (MU a i j k a i j)) (CL a i j) k a i j) n a)) (F9 a (Jt (TK a (NB a i j k a i j) (CL a i j) k a i j (MU a i j k a i j)) (CL a i j) k a i j) (NG (TK a (NB a i j k a i j) (CL a i j) k a i j (MU a i j k a i j)) (CL a i j) k a i j 2) (NG (TK a (NB a i j k a i j) (CL a i j) k a i j (MU a i j k a i j)) (CL a i j) k a i j 4)) n m))) (Bm (Jv a m (TU a m) m (Xv m a m)) (Jv a m (TU a m) m (KX (TM a m) (Rp a m))) (OL (λ n=>HL (Ki a a (eR (GB a) (HZ a n m) (AG (λ u=>HY u a n m)) (HX n m) (JO a n m) (JW n m) (YM n m) (Cc (Yh a n a m) (Qy (SP a n) (SP a m) (SD (iL (TU a m) m) (Ws (Fu (UC a m) (Bu a m) (TM a m))))) (AU (QL n) (QL m)) (GA a) (λ u=>Ol u a a) (FU a) (λ u=>Tm u a) (JO a n m) (λ u=>UI u a n a n u a m u)))) (YV n a a n (NG (TK a (NB a i j k a i j) (CL a i j) k a i j (MU a i j k a i j)) (CL a i j) k a i j 4) (PX n a a n (NG (TK a (NB a i j k a i j) (CL a i j) k a i j (MU a i j k a i j)) (CL a i j) k a i j 2) n (Jt (TK a (NB a i j k a i j) (CL a i j) k a i j (MU a i j k a i j)) (CL a i j) k a i j) n a)) (F9 a (Jt (TK a (NB a i j k a i j) (CL a i j) k a i j (MU a i j k a i j)) (CL a i j) k a i j) (NG (TK a (NB a i j k a i j) (CL a i j) k a i j (MU a i j k a i j)) (CL a i j) k a i j 2) (NG (TK a (NB a i j k a i j) (CL a i j) k a i j (MU a i j k a i j)) (CL a i j) k a i j 4)) n m))) (IK (SP a m) (BG (Xv m a m) (Nl (BF (mK SK)) (rY SM (Bu a m)) (KO (Rp a m)) (Jk a m) 8) (dQ (Jk a m)) (ALC (VH a m) 24) (OL (λ n=>Ja (OH a) (λ u=>Dh u a) (GB a) (EF (HZ a n m) (λ u=>HY u a n m) (HX n m) AC (ZD (AKT a n (UQ (VH a m))) (JW n m) (Qi (Rl n) m) (GA a) (NU a) (FU a) (NC a) (λ u=>lF u (VH a n) (FI (Yl a n u) ((@cond Nat) (hd30 u (VH a m)) (EA (Yl a m u)) (UQ (Jk a m)))) (λ v=>FL v (Yl a n u) (RR u (VH a m) (Yl a m u) v (RR v (Jk a m) (Bu a m) (Bh v) (UC a m))))))) (SU n a (GX a n (MU a i j k a i j)) n a n (iS (CL a i j) k a i j) n) (Sz n (NB a i j k a i j))))) (OL (λ n=>Ja (OH a) (λ u=>Dh u a) (GB a) (EF (HZ a n m) (λ u=>HY u a n m) (HX n m) AC (ZD (JO a n m) (JW n m) (Qi (Rl n) m) (GA a) (NU a) (FU a) (NC a) (λ u=>UI u a n a n u a m u))) (SU n a (GX a n (MU a i j k a i j)) n a n (iS (CL a i j) k a i j) n) (Sz n (NB a i j k a i j)))))))))) (Ox (λ l=>Bj (SU l a (GX a l (MU a i j k a i j)) l a l (iS (CL a i j) k a i j) l) (Sz l (NB a i j k a i j)) (OL (λ m=>HL (DW (OH a) (λ n=>Dh n a) (GB a) (EF (HZ a m l) (λ n=>HY n a m l) (HX m l) AC (ZD (JO a m l) (JW m l) (RI (ZL m) (Rl l) 1) (GA a) (NU a) (FU a) (NC a) (λ n=>UI n a m a m n a l n)))) (SU m a (GX a m (P9 a i j)) m a m (M5 a i j) m) (CL a i j) m k))))) (OL (λ l=>Nb (Ki a a (FR (GB a) (HZ a l k) (λ m=>HY m a l k) (HX l k) (hU AC (JO a l k) (AU (XH l) (XH k)) (GA a) (NU a) (FU a) (NC a) (AG (λ m=>UI m a l a l m a k m))))) (OE (Az l a) (GX a l (tI (kW a i))) (XH l) (Ow a l) (vJ l)) (APQ a i) l (ARE a i) j)))))) (IJ (λ k=>UW (And (OH a) (hZ (Ny a) (GB a) (FB (Fz a k)) (FR (AU k (Lp j)) (GA a) (λ l=>Ol l a a) (FU a) (NC a)))) k (Ta a) i)))) (Ox (λ j=>CG (OE (Az j a) (GX a j (tI (kW a i))) (XH j) (Ow a j) (vJ j)) (XH j) (Ow a j) (And (OL (λ k=>And (DW (OH a) (λ l=>Dh l a) (GB a) (EF (HZ a k j) (λ l=>HY l a k j) (HX k j) AC (ZD (JO a k j) (JW k j) (Fs (ZL k)) (GA a) (NU a) (FU a) (NC a) (λ l=>UI l a k a k l a j l)))) (SU k a (GX a k (ARA a i j)) k a k (Yz (Cr a i j)) k))) (Ox (λ k=>VK (SU k a (GX a k (ARA a i j)) k a k (Yz (Cr a i j)) k) (IK (hd4 (ZL k) 1) (W6 (And (EG (GF (Lp k) (H4 a)) (Ti (AIW a) (Lp k)) (OL (λ l=>AP (SH (OH a) (Ny a) (GB a) (HZ a l k) (λ m=>HY m a l k) (HX l k) AC (JO a l k) (Cc (JW l k) (YM l k) (RI (UC a l) (ARY a) (ZL k)) (GA a) (λ m=>Ol m a a) (FU a) (λ m=>Tm m a) (JO a l k) (λ m=>UI m a l a l m a k m))) (Az l a) (GX a l (ML a i j k a i j)) (PX l a a l (pU (CQ a i j) k (Cr a i j)) l (MR a i j k a i j) l a))) (OL (λ l=>AP (SH (OH a) (Ny a) (GB a) (HZ a l k) (λ m=>HY m a l k) (HX l k) AC (JO a l k) (Cc (JW l k) (YM l k) (Qi (UC a l) k) (GA a) (λ m=>Ol m a a) (FU a) (λ m=>Tm m a) (JO a l k) (λ m=>UI m a l a l m a k m))) (Az l a) (GX a l (ML a i j k a i j)) (PX l a a l (pU (CQ a i j) k (Cr a i j)) l (MR a i j k a i j) l a)))) (Ox (λ l=>RB (YV l a a l (ML a i j k a i j) (PX l a a l (pU (CQ a i j) k (Cr a i j)) l (MR a i j k a i j) l a)) (OL (λ m=>AP (Ki a a (eR (GB a) (HZ a m l) (AG (λ n=>HY n a m l)) (HX m l) (JO a m l) (JW m l) (YM m l) (Cc (Yh a m a l) (LY (SP a m)) (AZ (QL m)) (GA a) (λ n=>Ol n a a) (FU a) (λ n=>Tm n a) (JO a m l) (λ n=>UI n a m a m n a l n)))) (Az m a) (GX a m (Ig (TZ a (MR a i j k a i j) (CQ a i j) k a i j (ML a i j k a i j)) (CQ a i j) k a i j 4)) (PX m a a m (Ig (TZ a (MR a i j k a i j) (CQ a i j) k a i j (ML a i j k a i j)) (CQ a i j) k a i j 2) m (lB (TZ a (MR a i j k a i j) (CQ a i j) k a i j (ML a i j k a i j)) (CQ a i j) k (Cr a i j)) m a))) (Ox (λ m=>GM (YV m a a m (Ig (TZ a (MR a i j k a i j) (CQ a i j) k a i j (ML a i j k a i j)) (CQ a i j) k a i j 4) (PX m a a m (Ig (TZ a (MR a i j k a i j) (CQ a i j) k a i j (ML a i j k a i j)) (CQ a i j) k a i j 2) m (lB (TZ a (MR a i j k a i j) (CQ a i j) k a i j (ML a i j k a i j)) (CQ a i j) k (Cr a i j)) m a)) (QL m) (Sh a) (Sj (QL m) (Sh a) (Tg (QL m) (Sh a))) (Ys (TM a m) (TU a m)) (Bm (Jv a m (TM a m) m (Xv m a m)) (Jv a m (TM a m) m (KX (TU a m) (Rp a m))) (OL (λ n=>HL (Ki a a (eR (GB a) (HZ a n m) (AG (λ u=>HY u a n m)) (HX n m) (JO a n m) (JW n m) (YM n m) (Cc (Yh a n a m) (Qy (SP a n) (SP a m) (SD (iL (TM a m) m) (Ws (Fu (UC a m) (Bu a m) (TU a m))))) (AU (QL n) (QL m)) (GA a) (λ u=>Ol u a a) (FU a) (λ u=>Tm u a) (JO a n m) (λ u=>UI u a n a n u a m u)))) (YV n a a n (Ig (TZ a (MR a i j k a i j) (CQ a i j) k a i j (ML a i j k a i j)) (CQ a i j) k a i j 4) (PX n a a n (Ig (TZ a (MR a i j k a i j) (CQ a i j) k a i j (ML a i j k a i j)) (CQ a i j) k a i j 2) n (lB (TZ a (MR a i j k a i j) (CQ a i j) k a i j (ML a i j k a i j)) (CQ a i j) k (Cr a i j)) n a)) (F9 a (lB (TZ a (MR a i j k a i j) (CQ a i j) k a i j (ML a i j k a i j)) (CQ a i j) k (Cr a i j)) (Ig (TZ a (MR a i j k a i j) (CQ a i j) k a i j (ML a i j k a i j)) (CQ a i j) k a i j 2) (Ig (TZ a (MR a i j k a i j) (CQ a i j) k a i j (ML a i j k a i j)) (CQ a i j) k a i j 4)) n m))) (Bm (Jv a m (TU a m) m (Xv m a m)) (Jv a m (TU a m) m (KX (TM a m) (Rp a m))) (OL (λ n=>HL (Ki a a (eR (GB a) (HZ a n m) (AG (λ u=>HY u a n m)) (HX n m) (JO a n m) (JW n m) (YM n m) (Cc (Yh a n a m) (Qy (SP a n) (SP a m) (SD (iL (TU a m) m) (Ws (Fu (UC a m) (Bu a m) (TM a m))))) (AU (QL n) (QL m)) (GA a) (λ u=>Ol u a a) (FU a) (λ u=>Tm u a) (JO a n m) (λ u=>UI u a n a n u a m u)))) (YV n a a n (Ig (TZ a (MR a i j k a i j) (CQ a i j) k a i j (ML a i j k a i j)) (CQ a i j) k a i j 4) (PX n a a n (Ig (TZ a (MR a i j k a i j) (CQ a i j) k a i j (ML a i j k a i j)) (CQ a i j) k a i j 2) n (lB (TZ a (MR a i j k a i j) (CQ a i j) k a i j (ML a i j k a i j)) (CQ a i j) k (Cr a i j)) n a)) (F9 a (lB (TZ a (MR a i j k a i j) (CQ a i j) k a i j (ML a i j k a i j)) (CQ a i j) k (Cr a i j)) (Ig (TZ a (MR a i j k a i j) (CQ a i j) k a i j (ML a i j k a i j)) (CQ a i j) k a i j 2) (Ig (TZ a (MR a i j k a i j) (CQ a i j) k a i j (ML a i j k a i j)) (CQ a i j) k a i j 4)) n m))) (IK (SP a m) (BG (Xv m a m) (Nl (BF (mK SK)) (rY SM (Bu a m)) (KO (Rp a m)) (Jk a m) 8) (dQ (Jk a m)) (ALC (VH a m) 24) (OL (λ n=>Ja (OH a) (λ u=>Dh u a) (GB a) (EF (HZ a n m) (λ u=>HY u a n m) (HX n m) AC (ZD (AKT a n (UQ (VH a m))) (JW n m) (Qi (Rl n) m) (GA a) (NU a) (FU a) (NC a) (λ u=>lF u (VH a n) (FI (Yl a n u) ((@cond Nat) (hd30 u (VH a m)) (EA (Yl a m u)) (UQ (Jk a m)))) (λ v=>FL v (Yl a n u) (RR u (VH a m) (Yl a m u) v (RR v (Jk a m) (Bu a m) (Bh v) (UC a m))))))) (SU n a (GX a n (ML a i j k a i j)) n a n (pU (CQ a i j) k (Cr a i j)) n) (Sz n (MR a i j k a i j))))) (OL (λ n=>Ja (OH a) (λ u=>Dh u a) (GB a) (EF (HZ a n m) (λ u=>HY u a n m) (HX n m) AC (ZD (JO a n m) (JW n m) (Qi (Rl n) m) (GA a) (NU a) (FU a) (NC a) (λ u=>UI u a n a n u a m u))) (SU n a (GX a n (ML a i j k a i j)) n a n (pU (CQ a i j) k (Cr a i j)) n) (Sz n (MR a i j k a i j)))))))))) (Ox (λ l=>Bj (SU l a (GX a l (ML a i j k a i j)) l a l (pU (CQ a i j) k (Cr a i j)) l) (Sz l (MR a i j k a i j)) (OL (λ m=>HL (DW (OH a) (λ n=>Dh n a) (GB a) (EF (HZ a m l) (λ n=>HY n a m l) (HX m l) AC (ZD (JO a m l) (JW m l) (RI (ZL m) (Rl l) 1) (GA a) (NU a) (FU a) (NC a) (λ n=>UI n a m a m n a l n)))) (SU m a (GX a m (ARA a i j)) m a m (Yz (Cr a i j)) m) (CQ a i j) m k))))) (OL (λ l=>HL (Ki a a (FR (GB a) (HZ a l k) (λ m=>HY m a l k) (HX l k) (hU AC (JO a l k) (AU (XH l) (XH k)) (GA a) (NU a) (FU a) (NC a) (AG (λ m=>UI m a l a l m a k m))))) (OE (Az l a) (GX a l (tI (kW a i))) (XH l) (Ow a l) (vJ l)) (APQ a i) l j)))))) (IJ (λ k=>UW (Ki a a (IP (GB a) (ED (Fz a k) (VH a j)) (BM (VH a j)) (λ l=>ATJ l (Fz a k) (Mr a k l) a j (AT l)) (AU k (Lp j)) (GA a) (NU a) (FU a) (NC a))) k (Ta a) i))))) (iV (ED (Fz a (Ta a)) (Fz a i)) (λ j=>fB j (Fz a (Ta a)) (Mr a (Ta a) j) (Mr a i j))))) := by kernel_rfl
theorem BHT (a : LvA) {s k d : Nat} (i j : Nat) (h : Wa a s (gD (BZ a s) k) (gV a s d) a.N.r.length = true) : Hs a ⟨s, k, d + 1, i⟩ = Hs a ⟨s, k, d, j⟩ ++ [gD (BZ a s) k ++ [gV a s d]] := by
 simp only [Hs, lvD, jQ, h, if_true, List.append_assoc]
theorem BEC (a : LvA) {s k d : Nat} (i j : Nat) (h : Wa a s (gD (BZ a s) k) (gV a s d) a.N.r.length = false) : Hs a ⟨s, k, d + 1, i⟩ = Hs a ⟨s, k, d, j⟩ := by
 simp only [Hs, lvD, jQ, h, List.append_nil, Bool.false_eq_true, if_false]
theorem BAZ (a : LvA) (s k i j : Nat) : Hs a ⟨s, k + 1, 0, i⟩ = Hs a ⟨s, k, 3, j⟩ := by
 simp only [Hs, lvK, lvD, List.append_nil]
theorem BJH (a : LvA) (s i : Nat) : Hs a ⟨s, (BZ a s).length, 0, i⟩ = BZ a (s + 1) := by simp only [Hs, lvD, List.append_nil, BZ]
theorem BDL {a : LvA} {s d : Nat} {lv l : List Int} (h : l ∈ jQ a s lv d) : l.length = lv.length + 1 := by
 unfold jQ at h; split at h
 ·simp only [List.mem_singleton] at h; subst h; simp
 ·cases h
theorem BCW (a : LvA) (s d : Nat) (lv : List Int) : (jQ a s lv d).length <= 1 := by unfold jQ; split <;> simp
theorem BAY {a : LvA} {s : Nat} {lv l : List Int} : ∀ {d : Nat}, l ∈ lvD a s lv d -> l.length = lv.length + 1
 | 0, h => by cases h
 | d + 1, h => by
  rcases List.mem_append.1 h with h | h
  ·exact BAY h
  ·exact BDL h
theorem ALS (a : LvA) (s : Nat) (lv : List Int) : ∀ d : Nat, (lvD a s lv d).length <= d
 | 0 => Nat.le_refl _
 | d + 1 => by
  have := ALS a s lv d
  have := BCW a s d lv
  simp only [lvD, List.length_append]; omega
theorem AYF {a : LvA} {s : Nat} {all : List (List Int)} (ha : ∀ l ∈ all, l.length = s) {l : List Int} : ∀ {k : Nat}, k <= all.length -> l ∈ lvK a s all k -> l.length = s + 1
 | 0, _, h => by cases h
 | k + 1, hk, h => by
  rcases List.mem_append.1 h with h | h
  ·exact AYF ha (by omega) h
  ·rw [BAY h, ha _ (Fi (by omega))]
theorem ANQ (a : LvA) (s : Nat) (all : List (List Int)) : ∀ k : Nat, (lvK a s all k).length <= 3 * k
 | 0 => Nat.le_refl _
 | k + 1 => by
  have := ANQ a s all k
  have := ALS a s (gD all k) 3
  simp only [lvK, List.length_append]; omega
theorem AIO (a : LvA) : ∀ (s : Nat) (l : List Int), l ∈ BZ a s -> l.length = s
 | 0, l, h => by
  simp only [BZ, List.mem_singleton] at h; subst h; rfl
 | s + 1, l, h => AYF (AIO a s) (Nat.le_refl _) h
theorem AIP (a : LvA) : ∀ s : Nat, (BZ a s).length <= 3 ^ s
 | 0 => Nat.le_refl _
 | s + 1 => by
  have h1 := AIP a s
  have h2 := ANQ a s (BZ a s) (BZ a s).length
  simp only [BZ]
  rw [Nat.pow_succ]; omega
theorem nF (a : LvA) {s : Nat} (h : s <= 8) : (BZ a s).length <= 6561 := by
 have h1 := AIP a s
 have h2 : 3 ^ s <= 3 ^ 8 := Nat.pow_le_pow_right (by omega) h
 have : (3 : Nat) ^ 8 = 6561 := by decide
 omega
theorem BFI (a : LvA) (x : LvI) : (Hs a x).length <= 3 * x.k + x.d := by
 have h1 := ANQ a x.s (BZ a x.s) x.k
 have h2 := ALS a x.s (gD (BZ a x.s) x.k) x.d
 simp only [Hs, List.length_append]; omega
theorem Wl (a : LvA) {s k : Nat} (h : k < (BZ a s).length) : (gD (BZ a s) k).length = s := AIO a s _ (Fi h)
theorem AYP (a : LvA) (hg : -1 <= a.gate /\ a.gate <= 1) : ∀ s : Nat, List.replicate s 0 ∈ BZ a s
 | 0 => by simp [BZ]
 | s + 1 => by
  have ih := AYP a hg s
  obtain ⟨d, hd, hx⟩ : ∃ d : Nat, d < 3 /\ gV a s d = 0 := by
   by_cases h : gD a.grp s = true
   ·refine ⟨(1 - a.gate).toNat, by omega, ?_⟩
    unfold gV; rw [h]
    have : wr (a.gate + (((1 - a.gate).toNat : Int) - 1)) = a.gate + (((1 - a.gate).toNat : Int) - 1) := Gp (by omega) (by omega)
    show wr _ = 0
    rw [this]; omega
   ·refine ⟨1, by omega, ?_⟩
    unfold gV
    rw [show gD a.grp s = false by simpa using h]; rfl
  have hB : ∀ r, lvB s (List.replicate s 0) 0 r = true := λ r => by
   unfold lvB
   have : ∀ q : Nat, gD (List.replicate s (0 : Int)) q = 0 := λ q => by rw [GN]; split <;> rfl
   rw [this]
   have : inM (wr (0 - 0)) (-1) 1 = true := by decide
   rw [this, Bool.or_true]
  have hF : ∀ n, Wa a s (List.replicate s 0) 0 n = true := λ n => by
   induction n with
   | zero => rfl
   | succ n ih => simp only [Wa, ih, hB, Bool.and_self]
  obtain ⟨k, hk, he⟩ := List.getElem_of_mem ih
  have hgk : gD (BZ a s) k = List.replicate s 0 := by rw [<- he]; simp [gD, List.getElem?_eq_getElem hk]
  have m1 : List.replicate (s + 1) (0 : Int) ∈ jQ a s (List.replicate s 0) d := by
   unfold jQ; rw [hx, hF, if_pos rfl, List.mem_singleton, List.replicate_succ']
  have m2 : ∀ n, d < n -> List.replicate (s + 1) (0 : Int) ∈ lvD a s (List.replicate s 0) n := λ n => by
   induction n with
   | zero => intro h; omega
   | succ n ih =>
    intro h
    simp only [lvD, List.mem_append]
    by_cases h' : d = n
    ·subst h'; exact .inr m1
    ·exact .inl (ih (by omega))
  have m3 : ∀ n, k < n -> List.replicate (s + 1) (0 : Int) ∈ lvK a s (BZ a s) n := λ n => by
   induction n with
   | zero => intro h; omega
   | succ n ih =>
    intro h
    simp only [lvK, List.mem_append]
    by_cases h' : k = n
    ·subst h'; rw [hgk]; exact .inr (m2 3 hd)
    ·exact .inl (ih (by omega))
  exact m3 _ hk
theorem BMH (a : LvA) {s : Nat} {lv : List Int} {x : Int} {i : Nat} (h : (gD a.N.r i).fr > (gD a.N.r i).to) : Wa a s lv x (i + 1) = bif Wa a s lv x i then bif (gD a.N.r i).fr != (s : Int) then true else !!inM (wr (x - gD lv (gD a.N.r i).to.toNat)) (-1) 1 else false := by
 simp only [Wa, lvB, decide_eq_true h, cond_true]
 cases Wa a s lv x i <;> cases ((gD a.N.r i).fr != (s : Int)) <;> simp
theorem BLX (a : LvA) {s : Nat} {lv : List Int} {x : Int} {i : Nat} (h : ¬ (gD a.N.r i).fr > (gD a.N.r i).to) : Wa a s lv x (i + 1) = bif Wa a s lv x i then bif (gD a.N.r i).to != (s : Int) then true else !!inM (wr (x - gD lv (gD a.N.r i).fr.toNat)) (-1) 1 else false := by
 simp only [Wa, lvB, decide_eq_false h, cond_false]
 cases Wa a s lv x i <;> cases ((gD a.N.r i).to != (s : Int)) <;> simp
theorem p53 (a : LvA) (h1 : AB a.N = 0) (h2 : a.grp.length = a.N.g.length) (h3 : -1 <= a.gate /\ a.gate <= 1) : V53 a := by
 rw [vc53]<;> simp only [go_sem]; simp only [CC, eq_self, implies_true, forall_const]
 simp only [BER, BEV, AWE, AMC, ASS, AWZ, AKX, F9, BGJ, AWP, AUY, List.cons_append, List.nil_append, List.append_nil, List.getD_cons_zero, List.getD_cons_succ, List.headD_cons]
 have hg := BB h1
 have hg8 := hg.g8
 have hr14 := hg.r14
 have B3 : ∀ s, s < a.N.g.length -> (BZ a s).length <= 6561 := λ s hs => nF a (by omega)
 have W : ∀ s : Nat, ∀ i, i < (BZ a s).length -> (gD (BZ a s) i).length = (gD (BZ a s) i).length /\ ∀ j, j < (gD (BZ a s) i).length -> gD (gD (BZ a s) i) j = gD (gD (BZ a s) i) j := λ _ _ _ => ⟨rfl, λ _ _ => rfl⟩
 refine ⟨⟨0, ⟨rfl, by decide, λ j hj => ⟨?r1, λ i hi => ?r2⟩, rfl⟩, Nat.zero_le _⟩, λ s hs => ⟨λ hlt => ⟨⟨⟨s, 0, 0, 0⟩, ⟨rfl, W s, rfl, rfl⟩, ⟨by simp only; omega, rfl, Nat.zero_le _, rfl⟩, rfl⟩, λ y hy => ⟨λ hk => ⟨⟨⟨y.s, y.k, 0, 0⟩, ⟨rfl, W y.s, rfl, rfl, rfl⟩, ⟨?r3, ?r4⟩⟩, ?n10, ?o10⟩, ?e7n⟩, λ y hy => ⟨λ hk => ⟨?w7o, ?o10b⟩, ?e7o⟩⟩, ?fin⟩⟩
 case fin =>
  intro hge
  have : s = a.N.g.length := by omega
  subst this
  exact ⟨rfl, W _⟩
 case e7n =>
  intro hge
  exfalso
  obtain ⟨⟨q1, q2, q3, q4⟩, q5⟩ := hy
  obtain ⟨ys, yk, yd, yi⟩ := y
  simp only at q1 q2 q3 q4 hge
  have hk : yk = (BZ a ys).length := by omega
  subst hk q4
  rw [BJH] at q5
  have := AYP a h3 (ys + 1)
  rw [q5] at this; cases this
 case e7o =>
  intro hge
  obtain ⟨q1, q2, q3, q4⟩ := hy
  obtain ⟨ys, yk, yd, yi⟩ := y
  simp only at q1 q2 q3 q4 hge ⊢
  have hk : yk = (BZ a ys).length := by omega
  subst hk q4
  rw [BJH]
  exact ⟨ys + 1, ⟨rfl, Nat.le_refl _, W _, (AL (by omega)).symm⟩, by omega, by omega⟩
 case n10 =>
  intro z ⟨⟨q1, q2, q3, q4, q5⟩, q6⟩
  have b3 := B3 z.s q1
  refine ⟨λ hd => ⟨⟨⟨⟨by omega, by omega⟩, λ hb => ⟨⟨z.s, z.k, z.d, 0⟩, ⟨rfl, W z.s, rfl, rfl, rfl, ?x1⟩, ⟨q1, q2, q3, q4, by simp only; omega, rfl, Nat.zero_le _⟩, q6⟩, λ hb => ⟨⟨z.s, z.k, z.d, 0⟩, ⟨rfl, W z.s, rfl, rfl, rfl, ?x2⟩, ⟨q1, q2, q3, q4, by simp only; omega, rfl, Nat.zero_le _⟩, q6⟩⟩, λ u ⟨⟨u1, u2, u3, u4, u5, u6, _⟩, u8⟩ => ⟨⟨⟨u.s, u.k, u.d, 0⟩, ⟨rfl, W u.s, rfl, rfl, rfl, rfl, rfl, rfl⟩, ⟨u1, u2, u3, u4, u5, u6, Nat.zero_le _⟩, u8⟩, λ v ⟨⟨v1, v2, v3, v4, v5, v6, v7⟩, v8⟩ => ⟨λ hi => ?st17, λ hi => ?ex17⟩⟩⟩, ?c11w, ?c11n⟩, λ hd => ?e10⟩
  case x1 => show gV a z.s z.d = _; unfold gV; rw [hb]; rfl
  case x2 => show gV a z.s z.d = _; unfold gV; rw [hb]; rfl
  case st17 =>
   have ll := Wl a v3
   obtain ⟨_, b1, b2, b3⟩ := hg.r v.i (by omega)
   refine ⟨⟨by omega, by omega⟩, λ hgt => ⟨⟨λ _ => ⟨by omega, by omega⟩, λ hc => ?_⟩, ⟨⟨v.s, v.k, v.d, v.i + 1⟩, ⟨rfl, W v.s, rfl, rfl, rfl, rfl, BMH a hgt, (AL (by omega)).symm⟩, ⟨⟨v1, v2, v3, v4, v5, v6, by simp only; omega⟩, v8⟩, by simp only; omega⟩⟩, λ hgt => ⟨⟨λ _ => ⟨by omega, by omega⟩, λ hc => ?_⟩, ⟨⟨v.s, v.k, v.d, v.i + 1⟩, ⟨rfl, W v.s, rfl, rfl, rfl, rfl, BLX a hgt, (AL (by omega)).symm⟩, ⟨⟨v1, v2, v3, v4, v5, v6, by simp only; omega⟩, v8⟩, by simp only; omega⟩⟩⟩
   ·have hc : (gD a.N.r v.i).fr = v.s := by simp at hc; exact hc.2
    rw [ll]; omega
   ·have hc : (gD a.N.r v.i).to = v.s := by simp at hc; exact hc.2
    rw [ll]; omega
  case ex17 =>
   obtain ⟨vs, vk, vd, vi⟩ := v
   simp only at v1 v2 v3 v4 v5 v6 v7 hi v8 ⊢
   have hi' : vi = a.N.r.length := by omega
   subst hi'
   have ll := Wl a v3
   have b4 := B3 vs v1
   refine ⟨λ hf => ⟨⟨by omega, by omega⟩, ⟨λ h => absurd h (by decide), by omega, by omega⟩, ⟨by omega, λ h => absurd h (by decide), by omega, by omega⟩, ⟨λ h => absurd h (by decide), by decide, by decide, by decide, by decide⟩, ⟨⟨vs, vk, vd + 1, 0⟩, ?_⟩⟩, λ hf => ⟨⟨vs, vk, vd + 1, 0⟩, ⟨rfl, W vs, rfl, rfl, by simp only; omega⟩, ⟨⟨v1, v2, v3, v4, by simp only; omega⟩, by simp only; omega⟩, by rw [BEC a 0 a.N.r.length hf, v8]⟩⟩
   have en := BHT a 0 a.N.r.length hf
   rw [v8, List.nil_append] at en
   refine ⟨⟨rfl, W vs, rfl, by rw [en]; rfl, rfl, by simp only; omega, by rw [en]; rfl, λ i hi => ?_⟩, ⟨v1, v2, v3, v4, by simp only; omega⟩, by simp only; omega⟩
   rw [en] at hi ⊢
   have hi0 : i = 0 := by simpa using hi
   subst hi0
   show (gD (BZ a vs) vk ++ [gV a vs vd]).length = _ /\ ∀ j, j < (gD (BZ a vs) vk ++ [gV a vs vd]).length -> gD (gD (BZ a vs) vk ++ [gV a vs vd]) j = _
   refine ⟨by simp, λ j hj => ?_⟩
   rw [CP, Nat.sub_zero]
   by_cases h : j < (gD (BZ a vs) vk).length
   ·rw [if_pos h, decide_eq_true h]; rfl
   ·have : j - (gD (BZ a vs) vk).length = 0 := by simp at hj; omega
    rw [if_neg h, decide_eq_false h, this]; rfl
  case c11w =>
   intro u ⟨⟨u1, u2, u3, u4, u5⟩, u6⟩
   exact ⟨u, ⟨rfl, W u.s, rfl, rfl, rfl, by rw [Gp (by omega) (by omega)]; omega, rfl, λ _ _ => ⟨rfl, λ _ _ => rfl⟩⟩, ⟨u1, u2, u3, u4, u5⟩, by omega⟩
  case c11n =>
   intro u ⟨⟨⟨u1, u2, u3, u4, u5⟩, u6⟩, u7⟩
   exact ⟨u, ⟨rfl, W u.s, rfl, rfl, by rw [Gp (by omega) (by omega)]; omega⟩, ⟨⟨u1, u2, u3, u4, u5⟩, u7⟩, by omega⟩
  case e10 =>
   obtain ⟨zs, zk, zd, zi⟩ := z
   simp only at q1 q2 q3 q4 q5 q6 hd b3 ⊢
   have : zd = 3 := by omega
   subst this
   exact ⟨⟨zs, zk + 1, 0, 0⟩, ⟨rfl, W zs, rfl, (AL (by omega)).symm⟩, ⟨⟨q1, q2, by simp only; omega, rfl⟩, by rw [BAZ a zs zk 0 zi]; exact q6⟩, by simp only; omega⟩
 case r1 => exact Wl a hj
 case r2 => rw [Wl a hj] at hi; exact absurd hi (Nat.not_lt_zero _)
 case r3 =>
  obtain ⟨⟨q1, q2, q3, q4⟩, q5⟩ := hy
  exact ⟨q1, q2, by simp only; omega, rfl, by simp only; omega⟩
 case r4 =>
  obtain ⟨⟨q1, q2, q3, q4⟩, q5⟩ := hy
  obtain ⟨ys, yk, yd, yi⟩ := y
  simp only at q4
  subst q4; exact q5
 case w7o =>
  obtain ⟨q1, q2, q3, q4⟩ := hy
  obtain ⟨ys, yk, yd, yi⟩ := y
  simp only at q1 q2 q3 q4 hk ⊢
  subst q4
  exact ⟨⟨ys, yk, 0, 0⟩, ⟨rfl, W ys, rfl, rfl, rfl, rfl, rfl, λ _ _ => ⟨rfl, λ _ _ => rfl⟩⟩, q1, q2, by simp only; omega, rfl, by simp only; omega⟩
 all_goals
  intro z ⟨q1, q2, q3, q4, q5⟩
  have b3 := B3 z.s q1
  refine ⟨λ hd => ⟨⟨⟨⟨by omega, by omega⟩, λ hb => ⟨⟨z.s, z.k, z.d, 0⟩, ⟨rfl, W z.s, rfl, rfl, rfl, rfl, ?x1, rfl, λ _ _ => ⟨rfl, λ _ _ => rfl⟩⟩, ⟨q1, q2, q3, q4, by simp only; omega, rfl, Nat.zero_le _⟩⟩, λ hb => ⟨⟨z.s, z.k, z.d, 0⟩, ⟨rfl, W z.s, rfl, rfl, rfl, rfl, ?x2, rfl, λ _ _ => ⟨rfl, λ _ _ => rfl⟩⟩, ⟨q1, q2, q3, q4, by simp only; omega, rfl, Nat.zero_le _⟩⟩⟩, λ u ⟨u1, u2, u3, u4, u5, u6, _⟩ => ⟨⟨⟨u.s, u.k, u.d, 0⟩, ⟨rfl, W u.s, rfl, rfl, rfl, rfl, rfl, rfl, rfl, rfl, λ _ _ => ⟨rfl, λ _ _ => rfl⟩⟩, ⟨u1, u2, u3, u4, u5, u6, Nat.zero_le _⟩⟩, λ v ⟨v1, v2, v3, v4, v5, v6, v7⟩ => ⟨λ hi => ?st17, λ hi => ?ex17⟩⟩⟩, ?c11w⟩, λ hd => ?e10⟩
  case x1 => show gV a z.s z.d = _; unfold gV; rw [hb]; rfl
  case x2 => show gV a z.s z.d = _; unfold gV; rw [hb]; rfl
  case st17 =>
   have ll := Wl a v3
   obtain ⟨_, b1, b2, b3⟩ := hg.r v.i (by omega)
   refine ⟨⟨by omega, by omega⟩, λ hgt => ⟨⟨λ _ => ⟨by omega, by omega⟩, λ hc => ?_⟩, ⟨⟨v.s, v.k, v.d, v.i + 1⟩, ⟨rfl, W v.s, rfl, rfl, rfl, rfl, rfl, BMH a hgt, (AL (by omega)).symm, rfl, λ _ _ => ⟨rfl, λ _ _ => rfl⟩⟩, ⟨v1, v2, v3, v4, v5, v6, by simp only; omega⟩, by simp only; omega⟩⟩, λ hgt => ⟨⟨λ _ => ⟨by omega, by omega⟩, λ hc => ?_⟩, ⟨⟨v.s, v.k, v.d, v.i + 1⟩, ⟨rfl, W v.s, rfl, rfl, rfl, rfl, rfl, BLX a hgt, (AL (by omega)).symm, rfl, λ _ _ => ⟨rfl, λ _ _ => rfl⟩⟩, ⟨v1, v2, v3, v4, v5, v6, by simp only; omega⟩, by simp only; omega⟩⟩⟩
   ·have hc : (gD a.N.r v.i).fr = v.s := by simp at hc; exact hc.2
    rw [ll]; omega
   ·have hc : (gD a.N.r v.i).to = v.s := by simp at hc; exact hc.2
    rw [ll]; omega
  case ex17 =>
   obtain ⟨vs, vk, vd, vi⟩ := v
   simp only at v1 v2 v3 v4 v5 v6 v7 hi ⊢
   have hi' : vi = a.N.r.length := by omega
   subst hi'
   have ll := Wl a v3
   have b4 := B3 vs v1
   have b5 := BFI a ⟨vs, vk, vd, a.N.r.length⟩
   simp only at b5
   refine ⟨λ hf => ⟨⟨by omega, by omega⟩, ⟨λ h => absurd h (by decide), by omega, by omega⟩, ⟨by omega, λ h => absurd h (by decide), by omega, by omega⟩, ⟨by omega, λ h => absurd h (by decide), by omega, by omega⟩, ⟨⟨vs, vk, vd + 1, 0⟩, ?_⟩⟩, λ hf => ⟨⟨vs, vk, vd + 1, 0⟩, ?_⟩⟩
   ·have en := BHT a 0 a.N.r.length hf
    have el : (Hs a ⟨vs, vk, vd + 1, 0⟩).length = (Hs a ⟨vs, vk, vd, a.N.r.length⟩).length + 1 := by rw [en]; simp
    refine ⟨⟨rfl, W vs, rfl, el, rfl, by simp only; omega, el, λ i hi => ?_⟩, ⟨v1, v2, v3, v4, by simp only; omega⟩, by simp only; omega⟩
    rw [el] at hi
    rw [en, CP]
    by_cases h0 : i < (Hs a ⟨vs, vk, vd, a.N.r.length⟩).length
    ·simp only [if_pos h0, decide_eq_true h0, cond_true]; exact ⟨trivial, λ _ _ => trivial⟩
    ·have e0 : i - (Hs a ⟨vs, vk, vd, a.N.r.length⟩).length = 0 := by omega
     simp only [if_neg h0, decide_eq_false h0, cond_false, e0]
     show (gD (BZ a vs) vk ++ [gV a vs vd]).length = _ /\ ∀ j, j < (gD (BZ a vs) vk ++ [gV a vs vd]).length -> gD (gD (BZ a vs) vk ++ [gV a vs vd]) j = _
     refine ⟨by simp, λ j hj => ?_⟩
     rw [CP, Nat.sub_zero]
     by_cases h : j < (gD (BZ a vs) vk).length
     ·rw [if_pos h, decide_eq_true h]; rfl
     ·have : j - (gD (BZ a vs) vk).length = 0 := by simp at hj; omega
      rw [if_neg h, decide_eq_false h, this]; rfl
   ·have en := BEC a 0 a.N.r.length hf
    refine ⟨⟨rfl, W vs, rfl, by rw [en], rfl, by simp only; omega, by rw [en], λ i hi => ?_⟩, ⟨v1, v2, v3, v4, by simp only; omega⟩, by simp only; omega⟩
    rw [en]; exact ⟨rfl, λ _ _ => rfl⟩
  case c11w =>
   intro u ⟨⟨u1, u2, u3, u4, u5⟩, u6⟩
   exact ⟨u, ⟨rfl, W u.s, rfl, rfl, rfl, by rw [Gp (by omega) (by omega)]; omega, rfl, λ _ _ => ⟨rfl, λ _ _ => rfl⟩⟩, ⟨u1, u2, u3, u4, u5⟩, by omega⟩
  case e10 =>
   obtain ⟨zs, zk, zd, zi⟩ := z
   simp only at q1 q2 q3 q4 q5 hd b3 ⊢
   have : zd = 3 := by omega
   subst this
   have en := BAZ a zs zk 0 zi
   refine ⟨⟨zs, zk + 1, 0, 0⟩, ⟨rfl, W zs, rfl, by rw [en], (AL (by omega)).symm, by rw [en], λ i hi => ?_⟩, ⟨q1, q2, by simp only; omega, rfl⟩, by simp only; omega⟩
   rw [en]; exact ⟨rfl, λ _ _ => rfl⟩
def d53 : List AVal -> Heap -> Option (LvA × List (Nat × Nat) × List Nat)
 | [x, g, .d (.v (.int _ q))], H => match dNet x H, BIA g H with
  | some (N, f1), some (grp, f2) => some (⟨N, grp, q⟩, [], f1 ++ f2)
  | _, _ => none
 | _, _ => none
theorem ok53 : AH Try.prog 53 (C53.spec d53) := UY C53 A53 [] [] Try.func53 (λ _ => by kernel_rfl) (λ _ => AA ok60 AE) (λ a h => p53 a h.1 h.2.1 h.2.2) (λ _ => WR rfl rfl) _
end Go.Bal
