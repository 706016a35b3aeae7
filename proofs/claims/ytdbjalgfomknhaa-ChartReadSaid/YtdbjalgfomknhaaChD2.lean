/- Package chart: times are narrowed. -/
import Derived.Test.YtdbjalgfomknhaaChD1
set_option linter.unusedVariables false
set_option linter.unusedSimpArgs false
namespace Go.Bal
open Go Go.Sym Go.Proofs
def C_gaps : Ctr := { ro := [100, 101], α := Dk, xs := λ _ => [.bptr 100 0], L := λ w => dkL w, val := λ _ => .fn (.func We) [] [.bptr 0 0], keep := λ w => dkK w ++ [(0, .live (.box [.bptr 100 0]))] }
def BEC : Ann := { ann 4 [] with E := [100, 101] }
def BDX (w : Dk) : Prop := CR Try.prog BEC AUU (AL AUU) (C_gaps.xs w) (AE (C_gaps.L w)) (C_gaps.val w) (C_gaps.keep w) [(0, 1000)] []
theorem BMB (w : Dk) : (BDX w) = (DA (SG w) (TN w) (WM w) (YU w) (YT w) (JM (AG w) (λ i=>FU i w) w)) := by kernel_rfl
theorem ALH : AR Try.prog AIC (C_gaps.spec D6) := Bl C_gaps (λ _ => BEC) [(0, 1000)] [] BLO (λ _ => by kernel_rfl) (λ _ => AI) (λ (w : Dk) _ => by
 show BDX w; rw [BMB]<;> delta LV CI CH FE EE FH CL AF CV DC AS JT HP GG IQ IV IX JU GZ GM HK OE DF MA AG ID AH DD EL AK BN BQ CF AJ BU FT BJ KB AN AM BV CD BR BL AO DZ EI NO DV DI AT BB EP HD BO DY AP BA AW AV DB CM NC KU PN EU TY BI TW GA UE XD JY KO FU FP LI DE QN DA ME JM SG TN WM YT YU; simp) (λ _ => Ec rfl rfl) _
def farM (c : Cht) (g : Nat) : Int := wr ((gD c.ms (g + 1)).pl - (gD c.ms g).pl)
def SS (w : Dk) (g : Nat) : Span := ⟨wr (w.c.p.lo * farM w.c g), bif w.sp g then 200000000 else wr (w.c.p.hi * farM w.c g)⟩
def gapL (w : Dk) : List Span := OF (w.c.ms.length - 1) λ g => SS w g
structure LIS where
 l : List Span
 k : Int
 s : Span
def upd1 (l : List Span) (k : Int) (s : Span) (i : Nat) : Span := bif decide (i = k.toNat) then wW (gD l k.toNat) s else gD l i
def lkR (n : Nat) (f : Nat -> Span) : List (Nat × HCell) := [(100, .live (.box [.own 101 2 0 n])), (101, .live (.row 2 n λ i => IY (f i)))]
def C_nar1 : Ctr := { ro := [100], α := LIS, xs := λ a => [.int a.k, .d (IY a.s), .bptr 100 0], L := λ a => [(100, .box [.own 101 2 0 a.l.length]), (101, rowS a.l)], val := λ _ => .d (.tup []), keep := λ a => lkR a.l.length (upd1 a.l a.k a.s), pre := λ a => [0 <= a.k /\ a.k < a.l.length] }
def BFO : List AVal -> Heap -> Option (LIS × List (Nat × Nat) × List Nat)
 | [.d k, .d s, .bptr id _], H => match H id with
  | .live (.box [.own j _ _ _]) => match H j with
   | .live (.row _ n g) => some (⟨OF n λ i => Hi (g i), FQ k, Hi s⟩, [(100, id), (101, j)], [])
   | _ => none
  | _ => none
 | _, _ => none
def BDV : Ann := { ann 15 [(F3, C_com.spec BBD)] with E := [100, 101] }
def BGT (a : LIS) : Prop := CR Try.prog BDV AUN (AL AUN) (C_nar1.xs a) (AE (C_nar1.L a)) (C_nar1.val a) (C_nar1.keep a) [] []
abbrev Ph:=LIS.l
abbrev L4:=LIS.s
abbrev Yb a:=PY (LIS.k a)
attribute [go_sem] Ph L4 Yb
theorem BLF (a : LIS) : (BGT a) = (Ly (And (CS (LIS.k a) (GY (Ph a))) (AN (DC (Yb a) (GY (Ph a))) (Fx (Ph a) (Yb a)) (BO (IA (Ph a) (Yb a))) (NA (ZV (L4 a)) 1) VC (AF (λ i=>PK i (ZV (L4 a)) i (L4 a))) IZ (CS (LIS.k a) (GY (Ph a))) (OU (Yb a) (GY (Ph a))))) AU (IC (Ph a)) (AF (λ i=>NT i (Ph a) (CB (upd1 (Ph a) (LIS.k a) (L4 a) i) (MY i (Yb a) (CI (comM (SL.mk (IA (Ph a) (Yb a)) (ZV (L4 a))))) (PO (Ph a) i))) (BN (upd1 (Ph a) (LIS.k a) (L4 a) i) (MY i (Yb a) (CH (comM (SL.mk (IA (Ph a) (Yb a)) (ZV (L4 a))))) (LU (Ph a) i)))))) := by kernel_rfl
theorem BMI : AR Try.prog Y1 (C_nar1.spec BFO) := Bl C_nar1 (λ _ => BDV) [] [] BLH (λ _ => by kernel_rfl) (λ _ => AC BEF AI) (λ (a : LIS) h => by
 show BGT a; rw [BLF]<;> delta LV CI CH CL GY AF CV DC AS IA CG CW HU KV Eb LX HX UN MN Fl mY Ph L4 AH AK BN BQ AJ BU FT hJ Ly BJ AN CD BR CB BO BT FZ CX DN JF NT PY CS Fx MY AU IC NA OU JN IZ PO VC LU ZV PK Yb; simp only [CC, eq_self, implies_true, forall_const]
 have h : 0 <= a.k /\ a.k < a.l.length := h
 have e : comM ⟨gD a.l a.k.toNat, OF 1 λ _ => a.s⟩ = wW (gD a.l a.k.toNat) a.s := rfl
 refine ⟨⟨h, by omega, by omega, λ j hj => by rw [HM _ _ _ hj]; exact ⟨rfl, rfl⟩, h, by omega⟩, λ i hi => ?_⟩
 rw [e]; unfold upd1
 cases decide (i = a.k.toNat) <;> exact ⟨rfl, rfl⟩) (λ _ => Ec rfl rfl) _
def addS (a s : Span) : Span := ⟨wr (a.lo + s.lo), wr (a.hi + s.hi)⟩
def subS (a s : Span) : Span := ⟨wr (a.lo - s.hi), wr (a.hi - s.lo)⟩
def fwM (l : List Span) (s : Nat -> Span) : Nat -> Span
 | 0 => gD l 0
 | g + 1 => wW (gD l (g + 1)) (addS (fwM l s g) (s g))
def bkM (f s : Nat -> Span) (n : Nat) : Nat -> Span
 | 0 => f n
 | j + 1 => wW (f (n - (j + 1))) (subS (bkM f s n j) (s (n - (j + 1))))
def Ry (w : Dk) (l : List Span) : List Span := OF l.length λ i => bkM (fwM l (SS w)) (SS w) (l.length - 1) (l.length - 1 - i)
structure DkS where
 w : Dk
 l : List Span
def dDkS : List AVal -> Heap -> Option (DkS × List (Nat × Nat) × List Nat)
 | [.bptr id _, y], H => match wL H id, Wx y H with
  | some (w, q), some (l, f) => some (⟨w, l⟩, [(100, id), (101, q)], f)
  | _, _ => none
 | _, _ => none
def C_nar : Ctr := { ro := [100, 101], α := DkS, xs := λ a => [.bptr 100 0, .d (CK a.l)], L := λ a => dkL a.w, val := λ a => .tup [.d (CK (Ry a.w a.l)), .bool ((Ry a.w a.l).all Ps)], keep := λ a => dkK a.w, pre := λ a => [a.l.length = a.w.c.ms.length /\ 1 <= a.w.c.ms.length /\ a.w.c.ms.length <= 40] }
def nrH (a : DkS) (f : Nat -> Span) (p : AVal) : List (Nat × HCell) := dkK a.w ++ [(2016, .live (.row 2 a.l.length λ i => IY (f i))), (2032, .live (.box [.own 2016 2 0 a.l.length])), (3000, .live (.box [p]))]
def gpS (a : DkS) (l k : Nat) : List (Nat × AVal) := [(0, .fn (.yield l) [] []), (1, .bptr 4016 0), (12, .int (wr ((a.w.c.ms.length : Int) - 1))), (13, .int k)]
def gpB : Nat × HCell := (4016, .live (.box [.bptr 100 0]))
def gp1n (a : DkS) (l : Nat) : Shape := { α := One, dflt := default, T := λ _ => ⟨gpS a l 0, nrH a (gD a.l) (.d WH) ++ [gpB]⟩, inv := λ _ => True, meas := λ _ => 60 }
def gp1o (a : DkS) (l : Nat) : Shape := { α := Nat, dflt := 0, T := λ k => ⟨gpS a l k, nrH a (gD a.l) (.own 302 2 0 k) ++ [gpB, (302, .live (.row 2 k λ i => IY (SS a.w i)))]⟩, inv := λ k => 1 <= k /\ k <= a.w.c.ms.length - 1, meas := λ k => 50 - k, again := [(302, 6048)] }
noncomputable def BPY (a : DkS) : IterAnn := { fn := dX, code := AL dX, live := [6, 7], ann := { base := λ id => 100000 + 1000 * (id + 1), Γ := Sym.look [], E := [100, 101, 2016, 2032, 3000, 4016], n := 66, inner := λ gs id => if id = 1 then some [gp1n a (gs.getD 0 0), gp1o a (gs.getD 0 0)] else none } }
def nr6T (a : DkS) : One -> ST := λ _ => ⟨[(6, .bptr 2032 0), (7, .bptr 3000 0)], nrH a (gD a.l) (.d (CK (gapL a.w)))⟩
def nr6 (a : DkS) (z : List Nat) : Shape := { α := One, dflt := default, T := nr6T a, inv := λ _ => True, meas := λ _ => 0, ffz := z }
def nr7 (a : DkS) : Shape := { α := One, dflt := default, T := λ _ => ⟨[(6, .bptr 2032 0), (7, .bptr 3000 0), (10, .fn (.func Y1) [] [.bptr 2032 0])], nrH a (gD a.l) (.d (CK (gapL a.w)))⟩, inv := λ _ => True, meas := λ _ => 0 }
def nrF (a : DkS) (k i : Nat) : Span := bif decide (i <= k) then fwM a.l (SS a.w) i else gD a.l i
def nrB (a : DkS) (j i : Nat) : Span := bif decide (a.w.c.ms.length - 1 - j <= i) then bkM (fwM a.l (SS a.w)) (SS a.w) (a.w.c.ms.length - 1) (a.w.c.ms.length - 1 - i) else fwM a.l (SS a.w) i
def nr8 (a : DkS) : Shape := { α := Nat, dflt := 0, T := λ k => ⟨[(6, .bptr 2032 0), (7, .bptr 3000 0), (10, .fn (.func Y1) [] [.bptr 2032 0]), (25, .d (CK (gapL a.w))), (26, .int (gapL a.w).length), (27, .int k)], nrH a (nrF a k) (.d (CK (gapL a.w)))⟩, inv := λ k => k <= a.w.c.ms.length - 1, meas := λ k => 50 - k }
def nr13 (a : DkS) : Shape := { α := Nat, dflt := 0, T := λ j => ⟨[(6, .bptr 2032 0), (7, .bptr 3000 0), (10, .fn (.func Y1) [] [.bptr 2032 0]), (13, .int ((a.w.c.ms.length : Int) - 2 - j))], nrH a (nrB a j) (.d (CK (gapL a.w)))⟩, inv := λ j => j <= a.w.c.ms.length - 1, meas := λ j => 50 - j }
noncomputable def BQE (a : DkS) : Ann := { ann 92 [(K2, C_clo.spec dSs1), (AIC, C_gaps.spec D6), (Y1, C_nar1.spec BFO), (n_eS, C4SnO.spec BOX)] with E := [100, 101], mt := λ id => id == 5, iter := λ g => if g = We then some (BPY a) else none, loops := λ id => if id = 8 then some [nr8 a] else if id = 13 then some [nr13 a] else none, cut := λ id => if id = 6 then some [nr6 a [], nr6 a [302]] else if id = 7 then some [nr7 a] else none }
def BNN (a : DkS) : Prop := CR Try.prog (BQE a) zR (AL zR) (C_nar.xs a) (AE (C_nar.L a)) (C_nar.val a) (C_nar.keep a) [] [2016]
abbrev KD:=DkS.l
abbrev Ff:=DkS.w
abbrev Vn:=Ry
abbrev wS a b:=AH a b b
abbrev Wt a b:=gT (λ i=>CV a b)
abbrev At a:=Wt II a
abbrev Ab a b:=And a (At b)
abbrev Nd a b:=FU a (Ff b)
abbrev EB a:=AG (Ff a)
abbrev bY a (b:Nat->Span):=Ua (KD a) b
abbrev Gf a b c:=bY a (λ i=>nrB b c i)
abbrev oS a:=GY (KD a)
abbrev Jy a:=MT a 1
abbrev Ok a:=Jy (BV a)
abbrev iT a:=Ok (EB a)
abbrev ZN a:=gapL (Ff a)
abbrev cH a:=LL (ZN a)
abbrev cY a:=IC (ZN a)
abbrev UY a:=IC (KD a)
abbrev AJG a b:=Pt (ND a) b
abbrev AYK a b:=AJG (EB a) b
abbrev XX a b:=Pt (AYK a 2) (CG b)
abbrev cR a b:=EF (XX a b)
abbrev Gx a:=Se (EB a)
abbrev Ci a:=HB (Ff a)
abbrev Hb a:=XD (EB a)
abbrev Iv a:=JZ (EB a)
abbrev Ei a:=DB (EB a)
abbrev Fj a:=QI (EB a)
abbrev Gg a:=EU (EB a)
abbrev Cv a:=BB (EB a)
abbrev Ch a:=BA (EB a)
abbrev Cn a:=AV (EB a)
abbrev Ia a:=GG (EB a)
abbrev Bi a:=AT (EB a)
abbrev AJS a b c d e f g h:=AN a b c d e f d g h
abbrev SE a b c:=CV (And a b) c
abbrev Bt a b:=SS (Ff a) b
abbrev Nc a b:=CW a (Ok b)
abbrev Gc a b c d:=wY a (KP b (DI c d))
abbrev UK a:=HX (EH a)
abbrev Ns a b:=DI a (UK b)
abbrev Gl a:=AJ (wr a)
abbrev cP a:=AYK a 1
abbrev XY a:=(@Eq Fn) (Fn.yield a) (Fn.yield a)
abbrev MR a b c:=QR a b (FZ b c)
abbrev RK a:=DC a 1073741824
abbrev Aw a:=Bv a (GY a)
attribute [go_sem] KD Ff Vn wS Wt At Ab Nd EB bY Gf oS Jy Ok iT ZN cH cY UY AJG AYK XX cR Gx Ci Hb Iv Ei Fj Gg Cv Ch Cn Ia Bi AJS SE Bt Nc Gc UK Ns Gl cP XY MR RK Aw
theorem BRJ (a : DkS) : (BNN a) = (NM (Aw (KD a)) (AF (λ i=>OH i (KD a) i)) (Gm (JH (KD a))) (RK (JH (KD a))) (wS (MI (BH (Bi a) (AW (EB a)) (Cn a) (FX (Ch a) (Cv a) (BF (EB a)) (BM (EB a)) (CA (EB a)) (AF (λ i=>BC i (EB a) (BG (EB a) i) (BD (EB a) i) (AP (EB a) i) (AZ (EB a) i) (AO (EB a) i) (BE (EB a) i) (AM (EB a) i))) (λ i=>Nd i a) BI (JO (EN (EB a)) (Ci a) (EM (EB a)) (EB a) (LI (DQ (EB a)) (λ i=>DT i (EB a)) (DK (EB a)) (λ i=>DX i (EB a)) (λ i=>Nd i a) BI (EY (EB a)) (λ i=>JY (Ff a) i) (λ i=>TZ (EB a) i))))) (λ i=>WJ (KY (AH (XY i) (AS (wr (cP a)) (JJ (ND (EB a)))) (YC CU (Bi a) (Ia a) (Cn a) (FX (Ch a) (Cv a) (Gg a) (Fj a) (Ei a) (Iv a) (λ j=>Nd j a) BI (AJS (Hb a) (Ci a) (Gx a) (NA (KD a) (JH (KD a))) (AF (λ j=>PK j (KD a) j (YH (KD a) j))) AU AU OI))))) (At (FG (IM 0 (wr (cP a))) (BH (MR (CS (EH 0) (BV (EB a))) (CG 0) (BV (EB a))) (IW 0 40) (OU 0 40) (FG (ID (Ff a) 0) (AH (BU i) (Cs (YS II 0 (CL 0 2)) No Xq Xx 16) (IF (λ j=>JE (AK (XY i) (Gl (cP a)) (CJ j 0) (Bi a) (MZ (EB a) (Cn a) (Ch a) (Cv a) (Gg a) (Fj a) (Ei a) (Iv a) (FX (KJ (Ff a)) BI (Hb a) (Ci a) (Gx a) (UY a) (λ k=>ZR k (KD a)) AU (Ly (UY a) AU (WN j) (AF (λ k=>BR k j (CB (Bt a k) (Gc (CI (Ia a)) (Ns (EB a) 0) (EB a) 0)) (BN (Bt a k) 200000000))))))) (JX j) (Nc j (EB a)) (OY 50 j 60)))) (AH (BU i) (Cs (YS II 0 (CL 0 2)) No Xq Xx 16) (IF (λ j=>JE (AK (XY i) (Gl (cP a)) (CJ j 0) (Bi a) (MZ (EB a) (Cn a) (Ch a) (Cv a) (Gg a) (Fj a) (Ei a) (Iv a) (FX (KJ (Ff a)) BI (Hb a) (Ci a) (Gx a) (UY a) (λ k=>ZR k (KD a)) AU (Ly (UY a) AU (WN j) (AF (λ k=>BR k j (CB (Bt a k) (Gc (CI (Ia a)) (Ns (EB a) 0) (EB a) 0)) (BN (Bt a k) (Gc (CH (Ia a)) (Ns (EB a) 0) (EB a) 0)))))))) (JX j) (Nc j (EB a)) (OY 50 j 60)))))) (KY (HF (Bi a) (AW (EB a)) (Cn a) (Ch a) (Cv a) (Gg a) (Fj a) (RE (Ei a) (Iv a) (λ j=>Nd j a) (Hb a) (Ci a) (Gx a) (UY a) (xB (LL (KD a)) AU (UY a) (NA (ZN a) 0))))))) (λ j=>SE (JX j) (Nc j (EB a)) (FG (IM j (wr (cP a))) (BH (MR (CS (EH j) (BV (EB a))) (CG j) (BV (EB a))) (IW j 40) (OU j 40) (FG (ID (Ff a) j) (AH (BU i) (Cs (Od (BU j) j) No Zb (En j 9223372036854775807) (hC (FB j) 16)) (IF (λ k=>FW (AK (XY i) (Gl (cP a)) (CJ k j) (Bi a) (MZ (EB a) (Cn a) (Ch a) (Cv a) (Gg a) (Fj a) (Ei a) (Iv a) (FX (KJ (Ff a)) BI (Hb a) (Ci a) (Gx a) (UY a) (λ l=>ZR l (KD a)) AU (Ly (UY a) AU (Ou k j) (AF (λ l=>BR l k (CB (Bt a l) (Fu l j (CI (Bt a l)) (Gc (CI (Ia a)) (Ns (EB a) j) (EB a) j))) (BN (Bt a l) (Fu l j (CH (Bt a l)) 200000000)))))))) (JX k) (Nc k (EB a)) 50 k j))) (AH (BU i) (Cs (Od (BU j) j) No Zb (En j 9223372036854775807) (hC (FB j) 16)) (IF (λ k=>FW (AK (XY i) (Gl (cP a)) (CJ k j) (Bi a) (MZ (EB a) (Cn a) (Ch a) (Cv a) (Gg a) (Fj a) (Ei a) (Iv a) (FX (KJ (Ff a)) BI (Hb a) (Ci a) (Gx a) (UY a) (λ l=>ZR l (KD a)) AU (Ly (UY a) AU (Ou k j) (AF (λ l=>BR l k (CB (Bt a l) (Fu l j (CI (Bt a l)) (Gc (CI (Ia a)) (Ns (EB a) j) (EB a) j))) (BN (Bt a l) (Fu l j (CH (Bt a l)) (Gc (CH (Ia a)) (Ns (EB a) j) (EB a) j))))))))) (JX k) (Nc k (EB a)) 50 k j))))) (KY (AK (Bi a) (AW (EB a)) (Cn a) (Ch a) (CM (Cv a) (Gg a) (Fj a) (Ei a) (λ k=>DE k (EB a)) (KJ (Ff a)) BI (Hb a) (AN (Ci a) (Gx a) (UY a) (LL (KD a)) AU (UY a) (NA (ZN a) j) (Fw j) (AF (λ k=>PK k (ZN a) k (Bt a (DN k)))))))))))) (At (Ab (KY (BH (Bi a) (AW (EB a)) (Cn a) (FX (Ch a) (Cv a) (Gg a) (Fj a) (Ei a) (Iv a) (λ i=>Nd i a) BI (AJS (Hb a) (Ci a) (Gx a) (UY a) (LL (KD a)) AU (cY a) (cH a))))) (NL (λ i=>NM (cY a) (cH a) (Kv (ZN a)) (YC (CY i) (Bi a) (Ia a) (Cn a) (FX (Ch a) (Cv a) (Gg a) (Fj a) (Ei a) (Iv a) (λ j=>Nd j a) BI (AJS (Hb a) (Ci a) (Gx a) (UY a) (AF (λ j=>TD j (KD a) (nrF a i j) (KD a))) AU (cY a) (cH a)))) (MN i (iT a))) (λ i=>CV (MN i (iT a)) (EZ (IM i (LB (ZN a))) (AH (JA i (ZN a)) (GH (JA i (KD a)) (DC (DN i) (oS a)) (JA i (KD a)) (DC (DN i) (oS a)) (AJ (EH i)) (AJ (GO (CI (nrF a i (DN i))) (PO (ZN a) i))) (Ly (AJ (GO (CH (nrF a i (DN i))) (LU (ZN a) i))) AU (HT (bY a (λ j=>nrF a i j)) (KD a)) (AK (AF (λ j=>PK j (bY a (λ k=>nrF a i k)) j (nrF a i j))) AU (HT (KD a) (bY a (λ j=>nrF a i j))) (CX (EH i)) (FZ (EH i) (GY (bY a (λ j=>nrF a i j))))))) (IF (λ j=>Cg (BH (cY a) (cH a) (Kv (ZN a)) (YC (CJ j i) (Bi a) (Ia a) (Cn a) (FX (Ch a) (Cv a) (Gg a) (Fj a) (Ei a) (Iv a) (λ k=>Nd k a) BI (CM (Hb a) (Ci a) (Gx a) (HT (KD a) (bY a (λ k=>nrF a i k))) (λ k=>JN k (KD a) (nrF a j k) (upd1 (bY a (λ l=>nrF a i l)) (EH i) (Di (GO (CI (nrF a i (DN i))) (PO (ZN a) i)) (GO (CH (nrF a i (DN i))) (LU (ZN a) i))) k)) AU (UY a) (cY a) (cH a))))) j (iT a) 50 j i))) (IF (λ j=>WE (YC (AS (XX a j) (JJ (LB (ZN a)))) (Bi a) (Ia a) (Cn a) (FX (Ch a) (Cv a) (Gg a) (Fj a) (Ei a) (Iv a) (λ k=>Nd k a) BI (AJS (Hb a) (Ci a) (Gx a) (UY a) (AF (λ k=>JN k (KD a) (nrB a j k) (nrF a i k))) AU (cY a) (cH a)))) j (iT a))) (AF (λ j=>KZ (MN j (iT a)) (WD (XX a j)) (aS (CS (cR a j) (oS a)) (DC (PY (cR a j)) (oS a)) (CS (XX a j) (GY (ZN a))) (AK (DC (PY (cR a j)) (oS a)) (CS (XX a j) (GY (ZN a))) (AJ (XX a j)) (AJ (KP (CI (nrB a j (PY (cR a j)))) (LU (ZN a) (HX (XX a j))))) (Ly (AJ (KP (CH (nrB a j (PY (cR a j)))) (PO (ZN a) (HX (XX a j))))) AU (HT (Gf a a j) (KD a)) (AK (AF (λ k=>PK k (Gf a a j) k (nrB a j k))) AU (HT (KD a) (Gf a a j)) (CX (XX a j)) (FZ (XX a j) (GY (Gf a a j))))))) (IF (λ k=>Cg (YC (AS (XX a k) (JJ (XX a j))) (Bi a) (Ia a) (Cn a) (FX (Ch a) (Cv a) (Gg a) (Fj a) (Ei a) (Iv a) (λ l=>Nd l a) BI (CM (Hb a) (Ci a) (Gx a) (HT (KD a) (Gf a a j)) (λ l=>JN l (KD a) (nrB a k l) (upd1 (Gf a a j) (XX a j) (Di (KP (CI (nrB a j (PY (cR a j)))) (LU (ZN a) (HX (XX a j)))) (KP (CH (nrB a j (PY (cR a j)))) (PO (ZN a) (HX (XX a j))))) l)) AU (UY a) (cY a) (cH a)))) k (iT a) 50 k j)) (NK AU (ZT (HT (Gf a a j) (KD a)) (AK (AF (λ k=>PK k (Gf a a j) k (nrB a j k))) (HT (KD a) (Gf a a j)) (AF (λ k=>TD k (KD a) (nrB a j k) (Gf a a j))) (EG (GY (Gf a a j))) II)) (HT (Vn (Ff a) (KD a)) (KD a)) (DP (MF (DN (oS a)) (KD a)) (AF (λ k=>PK k (Vn (Ff a) (KD a)) k (nrB a j (DN k)))) (LV (pQ (Vn (Ff a) (KD a)) Ps) (pQ (Gf a a j) Ps)) (EB a) (λ k=>Nd k a) (Ff a)))))))))))) := by kernel_rfl
theorem AUZ {L : Nat} {f : Nat -> Span} {k : Int} {s : Span} {i : Nat} (hi : i < L) (hk : k.toNat < L) : upd1 (OF L f) k s i = bif decide (i = k.toNat) then wW (f k.toNat) s else f i := by
 unfold upd1; rw [HM _ _ _ hi, HM _ _ _ hk]
theorem BFC (a : DkS) {k i : Nat} (hk : k + 1 < a.l.length) (hi : i < a.l.length) : nrF a (k + 1) i = upd1 (OF a.l.length λ i => nrF a k i) ((k + 1 : Nat) : Int) (addS (nrF a k k) (SS a.w k)) i := by
 rw [AUZ hi (by show k + 1 < _; exact hk)]
 show _ = bif decide (i = k + 1) then wW (nrF a k (k + 1)) _ else _
 by_cases h : i = k + 1
 ·subst h
  simp only [nrF, Nat.le_refl, decide_true, cond_true, show ¬ k + 1 <= k by omega, decide_false, cond_false]
  rfl
 ·have e : decide (i <= k + 1) = decide (i <= k) := by rw [decide_eq_decide]; omega
  simp only [nrF, h, e, decide_false, cond_false]
theorem BAU (a : DkS) {j i : Nat} (hl : a.l.length = a.w.c.ms.length) (hj : j + 2 <= a.l.length) (hi : i < a.l.length) : nrB a (j + 1) i = upd1 (OF a.l.length λ i => nrB a j i) ((a.w.c.ms.length - 2 - j : Nat) : Int) (subS (nrB a j (a.w.c.ms.length - 2 - j + 1)) (SS a.w (a.w.c.ms.length - 2 - j))) i := by
 rw [AUZ hi (by show a.w.c.ms.length - 2 - j < _; omega)]
 show _ = bif decide (i = a.w.c.ms.length - 2 - j) then wW (nrB a j (a.w.c.ms.length - 2 - j)) _ else _
 by_cases h : i = a.w.c.ms.length - 2 - j
 ·have e1 : decide (a.w.c.ms.length - 1 - (j + 1) <= i) = true := by rw [decide_eq_true_eq]; omega
  have e2 : decide (a.w.c.ms.length - 1 - j <= a.w.c.ms.length - 2 - j) = false := by rw [decide_eq_false_iff_not]; omega
  have e3 : decide (a.w.c.ms.length - 1 - j <= a.w.c.ms.length - 2 - j + 1) = true := by rw [decide_eq_true_eq]; omega
  have e4 : a.w.c.ms.length - 1 - i = j + 1 := by omega
  have e5 : a.w.c.ms.length - 1 - (a.w.c.ms.length - 2 - j + 1) = j := by omega
  have e6 : a.w.c.ms.length - 1 - (j + 1) = a.w.c.ms.length - 2 - j := by omega
  have e7 : decide (i = a.w.c.ms.length - 2 - j) = true := by rw [decide_eq_true_eq]; exact h
  have e8 : decide (a.w.c.ms.length - 2 - j <= i) = true := by rw [decide_eq_true_eq]; omega
  rw [e7]
  simp only [nrB, e2, e3, e4, e5, cond_true, cond_false, bkM, e6, e8]
 ·have e1 : decide (a.w.c.ms.length - 1 - (j + 1) <= i) = decide (a.w.c.ms.length - 1 - j <= i) := by rw [decide_eq_decide]; omega
  simp only [nrB, h, e1, decide_false, cond_false]
theorem BVQ (a : DkS) (h : a.l.length = a.w.c.ms.length /\ 1 <= a.w.c.ms.length /\ a.w.c.ms.length <= 40) : BNN a := by
 obtain ⟨hl, h1, h2⟩ := h
 have e1 : wr ((a.w.c.ms.length : Int) - 1) = ((a.w.c.ms.length - 1 : Nat) : Int) := by unfold wr; rw [NU (by omega) (by omega)]; omega
 have e2 : IntKind.i64.wrap ((a.w.c.ms.length : Int) - 1) = ((a.w.c.ms.length - 1 : Nat) : Int) := e1
 have gl : (gapL a.w).length = a.w.c.ms.length - 1 := rng_length _ _
 have gg : ∀ {j : Nat}, j < a.w.c.ms.length - 1 -> gD (gapL a.w) j = SS a.w j := λ hj => HM _ _ _ hj
 have lo : ∀ k, (SS a.w k).lo = IntKind.i64.wrap (a.w.c.p.lo * IntKind.i64.wrap ((gD a.w.c.ms (k + 1)).pl - (gD a.w.c.ms k).pl)) := λ _ => rfl
 have hi1 : ∀ k, a.w.sp k = true -> (SS a.w k).hi = 200000000 := λ k h => by unfold SS; rw [h]; rfl
 have hi0 : ∀ k, a.w.sp k = false -> (SS a.w k).hi = IntKind.i64.wrap (a.w.c.p.hi * IntKind.i64.wrap ((gD a.w.c.ms (k + 1)).pl - (gD a.w.c.ms k).pl)) := λ k h => by unfold SS; rw [h]; rfl
 have ws : ∀ {k : Nat}, k < 40 -> IntKind.i64.wrap ((k : Int) + 1) = ((k + 1 : Nat) : Int) := λ h => MO (by omega)
 rw [BRJ]<;> delta LV bO He CI CH FE PS SI Pt EE FH CL GY AF CV DC AS IA CG UB CW FG PD HU KV UC MT JT HP GG IQ IV IX JU GZ GM HK LC IF II Eb pQ LX HX UN OE DF MA MN Fl AG ID xI Di gT hC KD Ff Vn AH DD EL EW GS AK BN BQ CF AJ HR wS GI BU FT aS hJ ZT Ly xB BJ KB AN AM BV AZ CD BR EB BL AO DZ JI EI NO DV DI CB GN AT BB GO EP HD BO YC AJS DY AP BT BA ED AW BE XT FZ Ua CX AV FN GF FA DB KP DN CM EF NC GR JF KU PN EU GQ HZ BD FB TY NT BH BI Et EG TW FX PY IT EK JJ GA UJ CS GD EH UE GJ EC HQ TS JH Fx WX DH OD Be EA AU FY IW MW JE XD JY ND IC BC KO MB LY Bc BF CA DK FU BG FP ZR HB KT KX LJ GT GX KR LI wY YH JX CJ NA AJG Dq ZN CU OY UK AYK GH OU LL PM IM DQ SQ JN DE QN CE QI BM JZ DT VM WP QR CY KZ IZ ME Se KI HF UP WQ EZ HT TF VH bY TD JO DX TU JM Jy UU WS YS PO FW JA MR EN EY LB UW MI Ok MF UY WT VC Gm XX Rv LU Wt WD DP WK KJ EM KY Ci Ch bV At RK NL Bt TZ Cn NK Gf OI Cv SE Bv XY Od Bi Gx WN Kd MZ Cg NM Fj nQ Nd PK Ks Hb Gg Sd WJ WE Kv Ei Ns Nc Gl RE Iv En Cs Gc Fu OH Aw Ia bZ Ab Ou cH cY Fw No cR iT oS Xq Zb Xx cP; simp only [CC, eq_self, implies_true, forall_const]; simp only [e1, e2, gl, hl]
 refine ⟨by omega, ⟨⟨default, trivial⟩, ⟨λ h0 => ?_, λ h0 => ⟨default, by omega⟩⟩, λ k hk => ⟨λ hlt => ?_, λ hge => ⟨default, by omega, Nat.le_refl _, λ j hj => by rw [gg hj]; exact ⟨rfl, rfl⟩⟩⟩⟩, ⟨default, trivial⟩, ⟨0, ⟨rfl, λ i hi => ?_⟩, Nat.zero_le _⟩, λ k hk => ⟨λ hlt => ?_, λ hge => ⟨⟨0, ⟨?_, λ i hi => ?_⟩, Nat.zero_le _⟩, λ j hj => ⟨λ hlt => ?_, λ hlt => ?_⟩⟩⟩⟩
 ·simp only [ws (show (0 : Nat) < 40 by omega), Int.toNat_natCast]
  refine ⟨by omega, by omega, by omega, λ h => ⟨by simp, 1, ⟨rfl, rfl, rfl, λ i hi => ?_⟩, by omega, by omega⟩, λ h => ⟨by simp, 1, ⟨rfl, rfl, rfl, λ i hi => ?_⟩, by omega, by omega⟩⟩
  ·obtain rfl : i = 0 := by omega
   exact ⟨lo 0, hi1 0 h⟩
  ·obtain rfl : i = 0 := by omega
   exact ⟨lo 0, hi0 0 h⟩
 ·simp only [ws (show k < 40 by omega), Int.toNat_natCast]
  refine ⟨by omega, by omega, by omega, λ h => ⟨⟨by omega, (λ h => by cases h), by omega, by omega⟩, k + 1, ⟨rfl, rfl, rfl, λ i hi => ?_⟩, by omega, by omega⟩, λ h => ⟨⟨by omega, (λ h => by cases h), by omega, by omega⟩, k + 1, ⟨rfl, rfl, rfl, λ i hi => ?_⟩, by omega, by omega⟩⟩
  ·by_cases q : i < k
   ·simp only [q, decide_true, cond_true, and_self]
   ·obtain rfl : i = k := by omega
    simp only [q, decide_false, cond_false]
    exact ⟨lo i, hi1 i h⟩
  ·by_cases q : i < k
   ·simp only [q, decide_true, cond_true, and_self]
   ·obtain rfl : i = k := by omega
    simp only [q, decide_false, cond_false]
    exact ⟨lo i, hi0 i h⟩
 ·by_cases q : i = 0
  ·subst q; exact ⟨rfl, rfl⟩
  ·have : ¬ i <= 0 := by omega
   simp only [nrF, this, decide_false, cond_false, and_self]
 ·simp only [ws (show k < 40 by omega)]
  refine ⟨by omega, ⟨by omega, by omega, by omega, by omega, λ i hi => by rw [HM _ _ _ hi]; exact ⟨rfl, rfl⟩, by omega, by omega⟩, k + 1, ⟨rfl, λ i hi => ?_⟩, by omega, by omega⟩
  have e := BFC a (k := k) (i := i) (by omega) (by omega)
  rw [gg (by omega), e, hl]; exact ⟨rfl, rfl⟩
 ·rw [NU (by omega) (by omega)]; omega
 ·obtain rfl : k = a.w.c.ms.length - 1 := by omega
  have q1 : decide (i <= a.w.c.ms.length - 1) = true := by rw [decide_eq_true_eq]; omega
  unfold nrB nrF; rw [q1]
  by_cases q : a.w.c.ms.length - 1 - 0 <= i
  ·have q2 : a.w.c.ms.length - 1 - i = 0 := by omega
   have q3 : i = a.w.c.ms.length - 1 := by omega
   simp only [q, decide_true, cond_true, q2, bkM]; rw [<- q3]; exact ⟨rfl, rfl⟩
  ·simp only [q, decide_false, cond_false, cond_true, and_self]
 ·have g0 : (a.w.c.ms.length : Int) - 2 - j = ((a.w.c.ms.length - 2 - j : Nat) : Int) := by omega
  have g1 : IntKind.i64.wrap (((a.w.c.ms.length - 2 - j : Nat) : Int) + 1) = ((a.w.c.ms.length - 2 - j + 1 : Nat) : Int) := ws (by omega)
  simp only [g0, g1, Int.toNat_natCast]
  refine ⟨⟨by omega, by omega, by omega, by omega, by omega, by omega, λ i hi => by rw [HM _ _ _ hi]; exact ⟨rfl, rfl⟩, by omega, by omega⟩, j + 1, ⟨?_, λ i hi => ?_⟩, by omega, by omega⟩
  ·rw [NU (by omega) (by omega)]; omega
  ·have e := BAU a (j := j) (i := i) hl (by omega) (by omega)
   rw [gg (by omega), e, hl]; exact ⟨rfl, rfl⟩
 ·have q : j = a.w.c.ms.length - 1 := by omega
  have eq1 : ∀ i, i < a.w.c.ms.length -> gD (Ry a.w a.l) i = nrB a j i := λ i hi => by
   unfold Ry; rw [HM _ _ _ (by omega), hl]
   have q2 : decide (a.w.c.ms.length - 1 - j <= i) = true := by rw [decide_eq_true_eq]; omega
   unfold nrB; rw [q2]; rfl
  have nl : (Ry a.w a.l).length = a.w.c.ms.length := by unfold Ry; rw [rng_length, hl]
  refine ⟨⟨λ i hi => by rw [HM _ _ _ hi]; exact ⟨rfl, rfl⟩, λ i hi => by rw [HM _ _ _ hi]; exact ⟨rfl, rfl⟩, by omega⟩, nl, Nat.le_refl _, λ i hi => by rw [eq1 i (by omega)]; exact ⟨rfl, rfl⟩, ?_⟩
  congr 1
  exact BGD (by rw [nl, rng_length]) λ i hi => by rw [eq1 i (by omega), HM _ _ _ (by omega)]
theorem ATC : AR Try.prog Ro (C_nar.spec dDkS) := Bl C_nar BQE [] [2016] APK (λ _ => by kernel_rfl) (λ _ => AC BHF (AC ALH (AC BMI (AC BRK AI)))) (λ a h => BVQ a h) (λ a => BHI We (BPY a) rfl rfl AI AEU (by kernel_rfl) (by kernel_rfl)) _
end Go.Bal
