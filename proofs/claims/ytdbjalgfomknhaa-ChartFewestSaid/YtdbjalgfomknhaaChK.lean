/- Package chart: the fewest stops. -/
import Derived.Test.YtdbjalgfomknhaaChJ
import Derived.Test.YtdbjalgfomknhaaChS
set_option linter.unusedVariables false
set_option linter.unusedSimpArgs false
namespace Go.Bal
open Go Go.Sym Go.Proofs
def idL (n : Nat) : List Int := HX n λ i => (i : Int)
def CB (c : Cht) : List Int := stM (cH c) (idL c.ns.length)
structure FwS where
 la : Int
 q : List Int
 r : List Pr
 deriving Inhabited
def miA (c : Cht) (a : Int) : Int := (gD c.ns a.toNat).mi
def fwP (c : Cht) (la b a : Int) : Bool := bif decide (miA c a > la) then XN c ⟨a, b⟩ else false
def fwN (c : Cht) (s : FwS) (b : Int) : Option Int -> FwS
 | none => s
 | some a => ⟨wr (miA c b - 1), s.q ++ [wr (miA c b - 1)], s.r ++ [⟨a, b⟩]⟩
def TQ (c : Cht) : Nat -> FwS
 | 0 => ⟨-1, [], []⟩
 | k + 1 => fwN c (TQ c k) (gD (CB c) k) (((CB c).take k).find? (fwP c (TQ c k).la (gD (CB c) k)))
def PS (c : Cht) : FwS := TQ c c.ns.length
def fwW (c : Cht) : Dk := stD ⟨AT c, (PS c).q⟩
structure FwR where
 q : List Int
 r : List Pr
 e : Int
def nilI : List Int := []
def nilP : List Pr := []
def fwO (c : Cht) : FwR := bif (HG (fwW c)).2 then ⟨(PS c).q, (PS c).r, 0⟩ else ⟨nilI, nilP, 6⟩
def RT (c : Cht) : FwR := bif BF c == 0 then fwO c else ⟨nilI, nilP, BF c⟩
def C_few : Ctr := { α := Cht, xs := λ c => [.d (Rc c)], val := λ c => .tup [.d (GQ (RT c).q), .d (Wt (RT c).r), .int (RT c).e], keep := λ _ => [], pre := λ c => [(c.ms.length < 4611686018427387904 /\ c.ns.length < 4611686018427387904) /\ (BF c = 0 -> c.ns.length <= 12)] }
def fwH (c : Cht) : List (Nat × HCell) := [(201, .live (chB c)), (203, .live (dkB (AT c) 204)), (204, .live (dkM (AT c)))]
def fw6S (c : Cht) (k : Nat) : List (Nat × AVal) := [(1, .bptr 201 0), (5, .bptr 203 0), (29, .int c.ns.length), (30, .int k)]
def fwR : List (Nat × Nat) := [(201, 1000), (203, 2016), (204, 2017)]
def fw6n (c : Cht) : Shape := { α := One, dflt := default, T := λ _ => ⟨(7, .d UJ) :: fw6S c 0, fwH c⟩, inv := λ _ => True, meas := λ _ => 60, first := fwR }
def fw6o (c : Cht) : Shape := { α := Nat, dflt := 0, T := λ k => ⟨(7, .own 202 1 0 k) :: fw6S c k, fwH c ++ [(202, .live (.row 1 k λ i => TZ i))]⟩, inv := λ k => 1 <= k /\ k <= c.ns.length, meas := λ k => 50 - k, again := [(202, 9048)] }
def fwB (c : Cht) : List (Nat × AVal) := [(1, .bptr 201 0), (5, .bptr 203 0), (7, .d (GQ (CB c)))]
def fw11 (c : Cht) (z : List Nat) : Shape := { α := One, dflt := default, T := λ _ => ⟨fwB c, fwH c⟩, inv := λ _ => True, meas := λ _ => 0, ffz := z }
def fwT (c : Cht) (k : Nat) : List (Nat × AVal) := fwB c ++ [(11, .int (TQ c k).la), (41, .d (GQ (CB c))), (42, .int c.ns.length), (43, .int k)]
def fwY (c : Cht) (k : Nat) : List (Nat × HCell) := fwH c ++ [(301, .live (.row 1 (TQ c k).q.length λ i => TZ (gD (TQ c k).q i))), (302, .live (.row 2 (TQ c k).r.length λ i => ePr (gD (TQ c k).r i)))]
def BOJ : List (Nat × AVal) := [(9, .d UJ), (10, .d UJ)]
def BYC (c : Cht) (k : Nat) : List (Nat × AVal) := [(9, .own 301 1 0 (TQ c k).q.length), (10, .own 302 2 0 (TQ c k).r.length)]
def CLN (c : Cht) : Shape := { α := Nat, dflt := 0, T := λ k => ⟨BOJ ++ fwT c k, fwH c⟩, inv := λ k => k <= c.ns.length /\ (TQ c k).q = [], meas := λ k => c.ns.length - k, tag := [0] }
def CNT (c : Cht) : Shape := { α := Nat, dflt := 0, T := λ k => ⟨BYC c k ++ fwT c k, fwY c k⟩, inv := λ k => k <= c.ns.length /\ 1 <= (TQ c k).q.length, meas := λ k => c.ns.length - k, tag := [1] }
def fwJ (c : Cht) (k j : Nat) : List (Nat × AVal) := [(13, .int (gD (CB c) k)), (50, .d (GQ ((CB c).take k))), (51, .int k), (52, .int j)]
def CLB (c : Cht) (m : Nat) : Shape := { α := IJ, dflt := default, T := λ s => ⟨fwJ c s.i s.j ++ (BOJ ++ fwT c s.i), fwH c⟩, inv := λ s => (s.i < c.ns.length /\ c.ns.length - s.i = m /\ s.j <= s.i /\ ∀ t, t < s.j -> fwP c (TQ c s.i).la (gD (CB c) s.i) (gD (CB c) t) = false) /\ (TQ c s.i).q = [], meas := λ s => c.ns.length - s.j }
def CNQ (c : Cht) (m : Nat) : Shape := { α := IJ, dflt := default, T := λ s => ⟨fwJ c s.i s.j ++ (BYC c s.i ++ fwT c s.i), fwY c s.i⟩, inv := λ s => (s.i < c.ns.length /\ c.ns.length - s.i = m /\ s.j <= s.i /\ ∀ t, t < s.j -> fwP c (TQ c s.i).la (gD (CB c) s.i) (gD (CB c) t) = false) /\ 1 <= (TQ c s.i).q.length, meas := λ s => c.ns.length - s.j }
def fwT2 (c : Cht) (k : Nat) : List (Nat × AVal) := fwB c ++ [(11, .int (TQ c (k + 1)).la), (41, .d (GQ (CB c))), (42, .int c.ns.length), (43, .int k)]
def CMP (c : Cht) (m : Nat) : Shape := { α := Nat, dflt := 0, T := λ k => ⟨BOJ ++ fwT2 c k, fwH c⟩, inv := λ k => k < c.ns.length /\ c.ns.length - k = m /\ (TQ c (k + 1)).q = [], meas := λ _ => 0 }
def BUV (c : Cht) (m : Nat) (f : List (Nat × Nat)) : Shape := { α := Nat, dflt := 0, T := λ k => ⟨BYC c (k + 1) ++ fwT2 c k, fwY c (k + 1)⟩, inv := λ k => k < c.ns.length /\ c.ns.length - k = m /\ 1 <= (TQ c (k + 1)).q.length, meas := λ _ => 0, first := f }
def fw26 (c : Cht) (z : List Nat) : Shape := { α := One, dflt := default, T := λ _ => ⟨[(5, .bptr 203 0), (9, .d (GQ (PS c).q)), (10, .d (Wt (PS c).r))], [(203, .live (dkB (AT c) 204)), (204, .live (dkM (AT c)))]⟩, inv := λ _ => True, meas := λ _ => 0, ffz := z }
def fw10 (c : Cht) : Shape := { α := One, dflt := default, T := λ _ => ⟨[(1, .bptr 201 0), (5, .bptr 203 0), (7, .own 202 1 0 c.ns.length)], fwH c ++ [(202, .live (.row 1 c.ns.length λ i => TZ i))]⟩, inv := λ _ => 1 <= c.ns.length, meas := λ _ => 0 }
def BXW (c : Cht) : Ann := { ann 101 [(VE, C_open.spec dC1), (AOI, C_sort.spec dGLt), (BAG, C_late.spec dDkP), (BBS, C_stop.spec dDkZ), (AOD, C_times.spec dDk1)] with mt := λ id => id == 8 || id == 23, loops := λ id => if id = 6 then some [fw6n c, fw6o c] else if id = 15 then some [CLN c, CNT c] else none, inner := λ gs id => if id = 18 then (if gs.getD 1 0 = 0 then some [CLB c (gs.getD 0 0)] else some [CNQ c (gs.getD 0 0)]) else none, cut := λ id => if id = 10 then some [fw10 c] else if id = 11 then some [fw11 c [202]] else if id = 26 then some [fw26 c [], fw26 c [301, 302]] else none, cutIn := λ gs id => if id = 25 then (if gs.getD 1 0 = 0 then some [CMP c (gs.getD 0 0), BUV c (gs.getD 0 0) [(301, 24048), (302, 24112)]] else some [BUV c (gs.getD 0 0) [(301, 24048), (302, 24112)], BUV c (gs.getD 0 0) []]) else none }
def CGR (c : Cht) : Prop := DN Try.prog (BXW c) Kh (AP Kh) [.d (Rc c)] (AH []) (.tup [.d (GQ (fwO c).q), .d (Wt (fwO c).r), .int (fwO c).e]) [] [] []
abbrev Wd:=CB
abbrev AWO:=@List.cons DVal
abbrev AOB:=@List.nil DVal
abbrev Sh:=FwR.q
abbrev gV:=FwR.r
abbrev My a:=FwS.r (PS a)
abbrev Vp a b:=PM a (LH b)
abbrev Bl a:=FwS.q (PS a)
abbrev Sr a:=Ad (Bl a)
abbrev Pa a b:=uA (BAN a a) (Sr b)
abbrev JV a:=BDU (BAN a a) (Sr a)
abbrev tV a:=PA (AY a)
abbrev Lc a:=DS (DX a)
abbrev uC a:=EV (AY a)
abbrev oI a:=BR (AY a)
abbrev Dn a b c:=UR (AY a) Cm (λ i=>jF b i) (λ i=>Dp c i)
abbrev bQ a b:=FwS.r (TQ a b)
abbrev ZZ a b:=LH (bQ a b)
abbrev PW a b:=FwS.q (TQ a b)
abbrev Yc a b:=DX (PW a b)
abbrev NY a:=Ke (Wd a)
abbrev Wc a b:=DE (Wd a) b
abbrev Ls a:=AK (λ i=>TK i (Wd a) (Wc a i))
abbrev Db a b c d e f g h:=AWQ (Ls a) b (NY c) (OI d) e (BA f) (AZ g) h
abbrev Dj a b c d e f g:=AKB a b c d e (KH f) g
abbrev aF a:=QG (AY a)
abbrev aZ a:=GO (AY a)
abbrev Zw a:=Ah (AY a)
abbrev Zj a:=EO (AY a)
abbrev Dl a b c d e f g h p:=AO (KG a) (OD b) (HV c) (KE d) (Zj e) (Zw f) (aZ g) (aF h) p
abbrev Zk a:=Vt (λ i=>Dp a i)
abbrev Zy a:=Bf (AY a)
abbrev Cz a b c d e f g:=HQ Cm BC (Zy a) (KF b) (Zk c) d e f g
abbrev Nq a b:=bQ a (MP b)
abbrev UG a b:=ZZ a (MP b)
abbrev Ya a b c:=CL a (UG b c)
abbrev RL a b:=PW a (MP b)
abbrev bJ a b c:=EM a (RL b c)
abbrev Xs a b:=FwS.la (TQ a b)
abbrev Tt a b c:=AU (Xs a b) c
abbrev AXW a b c:=WY (BB a) b c
abbrev oR a b:=DD a (BB b)
abbrev Cj a b c d e f:=AI (oR a b) (AXW c d e) f
abbrev kE a:=SJ (DX a)
abbrev Oh a b:=kE (RL a b)
abbrev Gj a b:=bQ a (GT b)
abbrev MD a b:=ZZ a (GT b)
abbrev Yp a b c:=CL a (MD b c)
abbrev NB a b:=PW a (GT b)
abbrev aV a b c:=EM a (NB b c)
abbrev Zg a b:=PZ a (GT b)
abbrev aS a b c:=Tt a (MP b) c
abbrev Ky a b:=Xs a (GT b)
abbrev Gi a b c:=uR a b (HF c)
abbrev Cf a b:=Wc a (GT b)
abbrev Gq a b c d e f g:=fwP a (Ky b c) (Cf d e) (Wc f g)
abbrev Hx a b c:=AXW a (GT b) c
abbrev Gh a b:=oR (GT a) b
abbrev aE a b c:=AU (Ky a b) c
abbrev SC a b:=vA (GT a) (Wd b)
abbrev Yb a b c:=AU a (Cf b c)
abbrev Cu a b:=DE (SC a b) (EZ a)
abbrev XH a b c:=QC a b b a c
abbrev Ak a b c d e:=LY a b (DE c d) e
abbrev Ym a b c:=TT (aB a (Cf b c))
abbrev bH a b:=DX (NB a b)
abbrev Yq a b c:=GU (RL a b) c
abbrev AKC a b c:=AWO a (AWO b c)
abbrev oY a b:=dPr (DVal.agg (AKC (TZ (Cu a b)) (DVal.v (bU (Cf b a))) AOB))
abbrev Zr a b c:=Sb a (Ky b c)
abbrev aH a b c:=aB a (Cu b c)
abbrev Fz a:=EJ (AY a)
abbrev Hh a b:=Pr.b (oY a b)
abbrev Za a b:=Pr.a (oY a b)
abbrev sN a:=DX (Wd a)
abbrev AGT a b c d e f g h:=AO a b b c d e f g h
abbrev TW a:=aW a (@List.nil Int)
abbrev mM a b c d e f:=AO a b a c d e c d f
abbrev Dc (a:Nat->Prop) b (c:Nat->Prop) d e f g h p:=RB a (GO b) c d e f g h p
abbrev Ar:=Pu (MW 0)
abbrev Tc a:=NJ (BB a) BW
abbrev Zo a:=DX (Tc a)
attribute [go_sem] Wd AWO AOB Sh gV My Vp Bl Sr Pa JV tV Lc uC oI Dn bQ ZZ PW Yc NY Wc Ls Db Dj aF aZ Zw Zj Dl Zk Zy Cz Nq UG Ya RL bJ Xs Tt AXW oR Cj kE Oh Gj MD Yp NB aV Zg aS Ky Gi Cf Gq Hx Gh aE SC Yb Cu XH Ak Ym bH Yq AKC oY Zr aH Fz Hh Za sN AGT TW mM Dc Ar Tc Zo
theorem CKQ (c : Cht) : (CGR c) = (AI (NP c c c c (DK (IG c))) (ZU (Aq (JO AJ OW (YA (OI c) BM c c c c c (EO c) (Dc (λ i=>EL i c) c (λ i=>BS i c) (PC (AY c) (ES c)) (OX (AY c) (ES c)) (PR (AY c) (ES c)) (PO (AY c) (ES c)) (PH (AY c) (ES c)) (OG (RP (AY c) (ES c)) (λ i=>RO i (AY c) i (ES c) i i) (RR (AY c) (ES c)) (λ i=>FV i (AY c) (CR (ES c) i) (DQ (ES c) i) (BG (ES c) i) (WR (AY c) i (ES c) i) (WA (AY c) i (ES c) i)) Cm BC (BI (λ i=>XO (AY c) i (ES c) i)) (λ i=>AU (Mw c i) (Mw (CV c) i)) (λ i=>Ic (Dp c i) (CV c) i)))))) (Mz (λ i=>UN FO 0 c (And (YH Ar 1 8) (GY (λ j=>OT (AN AJ (MW j) (OI c) (BT j 0) (TH c c c (HQ (λ k=>BS k c) (KH c) (KG c) (OD c) (HV c) (KE c) (Zj c) (Zw c) (AO (aZ c) (aF c) RM BC (Zy c) (KF c) (Zk c) (MW j) (AK (λ k=>BK k j (PZ k 0))))))) (QO j (BB c)) 50 j 60))) JY)) (λ i=>UN (QO i (BB c)) i c (And (YO (Ty i 1) 1 i 8) (GY (λ j=>DC (AN AJ (VT j i) (OI c) (BT j i) (TH c c c (HQ (λ k=>BS k c) (KH c) (KG c) (OD c) (HV c) (KE c) (Zj c) (Zw c) (AO (aZ c) (aF c) RM BC (Zy c) (KF c) (Zk c) (VT j i) (AK (λ k=>BK k j (KR k (LY k i (BW k) (BW i))))))))) (QO j (BB c)) 50 j i))) (Ho (AI AJ (LR c i) (TH c c c (HQ (λ j=>BS j c) (KH c) (KG c) (OD c) (HV c) (KE c) (Zj c) (Zw c) (AO (aZ c) (aF c) RM BC (Zy c) (KF c) (Zk c) (LR c i) (AK (λ j=>BK j (BB c) (GA j))))))) (WM 1 c)))) (Fk (WM 1 c) (BZ (AGT AJ (GU (Tc c) (BB c)) (AK (λ i=>XH i (Tc c) (BW i))) (BA c) (AZ c) (BE c) (BD c) (DG (AW c) (BR c) (CW c) (DF c) (λ i=>BP i c) (BA c) (AZ c) (BE c) (AO (BD c) (AW c) (DA c) (HO c) (DB c) (UP c) (ZQ (Zo c)) (RH (Zo c)) (AK (λ i=>UH i (Zo c) (DE (Tc c) i) (EJ c)))))) (WZ (λ i=>BZ (GU (Wd c) (BB c)) (DJ (YN (BB c) (Zo c)) (λ j=>PP j (Wd c) (Wc c j) (DE (stM (Vz (CV c)) (Tc c)) (BH j))) (BA c) (AZ c) (BE c) (BD c) (AW c) (EO c) (Dc (λ j=>EL j c) c (λ j=>BS j c) (KH c) (KG c) (OD c) (HV c) (KE c) (Dn c c c))) FO)) (UO (Fp (JO (GY (λ i=>DY (Mb (mM HJ AJ (NY c) (Ls c) (Tt c i (-1)) (YA (PZ (BB c) (sN c)) (CF i) c c c c c (EO c) (Dc (λ j=>EL j c) c (λ j=>BS j c) (KH c) (KG c) (OD c) (HV c) (KE c) (Dn c c c))))) i (BB c) (TW (PW c i)))) (λ i=>UN (LZ i (BB c) (TW (PW c i))) i c (JO (IH i (sN c) (AI (XQ VU (RF i) (BW i) (SZ (Wd c))) (aG (λ j=>AI (CM (AU (Cf c j) (Wc c i)) (GU (SC j c) (Ay i)) (AK (λ k=>XH k (SC j c) (Wc c (TO k)))) (Gl j (Ay i)) (CF (EZ j)) AJ (mM HJ AJ (NY c) (Ls c) (aE c j (Xs c i)) (YA (OI c) (Gl j i) c c c c c (EO c) (Dc (λ k=>EL k c) c (λ k=>BS k c) (KH c) (KG c) (OD c) (HV c) (KE c) (Dn c c c))))) (BQ (Gh j c) (Hx c j i) (Tv j (GT j)) (AK (λ k=>Gi k j (Gq c c j c j c k)))) (TW (NB c j)))) (AND (λ j=>CU (BZ (Gh j c) (DY (Hx c j i) (EZ j) (GT j) (AK (λ k=>Gi k j (Gq c c j c j c k)))) (TW (NB c j))) (EZ j) (Bo j) (JJ (Eh j) (DX (SC j c)) (EW (Cu j c) (BB c) (KQ (Zr (aH c j c) c j) (AO (AU (Za j c) (Cu j c)) (Yb (Hh j c) c j) (KH c) (KG c) (OD c) (HV c) (KE c) (oI c) (QU (λ k=>CH k (AY c)) (AY c) (λ k=>BP k (AY c)) RM BC (uC c) (KF c) (λ k=>Ic (Zu c k) c k) (NO (AY c) (AY c) (OD c) (HV c) (DA (AY c)) (λ k=>HN k (AY c)) (DB (AY c)) (QR (λ k=>CQ k (AY c)) RM BC (EQ (AY c)) (KF c) (λ k=>Ol c k (Zu c k)) (WE (Za j c) (Fz c) (DI (Hh j c)) (Hh j c)) (Ab (tV c) (Fz c) 20) (AK (λ k=>UH k (Fz c) (HI (AY c) k) (CY (AY c)))))))))) (FX (II (Zr (aH c j c) c j) (ACK (APH c) (oY j c))) (JJ (Cf c j) (BB c) (CE (YH Ar 1 8) Bz jH To Uk (YR 16)) (GY (λ k=>EG AJ (Yq c k 1) AJ (MW (UG c k)) (NY c) (Db c (aS c k (Ym c c j)) c c (Zg k j) c c (Dj c c c c c c (Dl c c c c c c c c (Cz c c c (Yq c k 1) (AK (λ l=>XH l (RL c k) (Ym c c j))) (MW (UG c k)) (AK (λ l=>ON l (UG c k) (Nq c k) (Cu j c) (Cf c j))))))) (Cj k c c k i (Oh c k))))) (aG (λ k=>SU (CM (Yb (Cf c k) c j) (EM (SC k c) (SC j c)) (GB (SC k c) (SC j c)) (Fh k j) (BT (EZ k) (EZ j)) AJ (mM HJ AJ (NY c) (Ls c) (aE c k (Ky c j)) (YA (OI c) (Fh k j) c c c c c (EO c) (Dc (λ l=>EL l c) c (λ l=>BS l c) (KH c) (KG c) (OD c) (HV c) (KE c) (Dn c c c))))) (BZ (Gh k c) (DY (Hx c k i) (EZ k) (GT k) (AK (λ l=>Gi l k (Gq c c k c k c l)))) (TW (NB c k))) c (EZ k) (EZ j))))) (GY (λ k=>BZ AJ (mM HJ AJ (NY c) (Ls c) (aS c k (Ky c j)) (YA (OI c) (Zg k j) c c c c c (EO c) (Dc (λ l=>EL l c) c (λ l=>BS l c) (KH c) (KG c) (OD c) (HV c) (KE c) (Dn c c c)))) (Cj k c c k i (TW (RL c k))))))))) (λ j=>CA (Cj j c c j i (TW (RL c j))) (GY (λ k=>SU (Mb (mM HJ AJ (NY c) (Ls c) (Tt c k (Xs c (MP j))) (YA (OI c) (BT k j) c c c c c (EO c) (Dc (λ l=>EL l c) c (λ l=>BS l c) (KH c) (KG c) (OD c) (HV c) (KE c) (Dn c c c))))) (LZ k (BB c) (TW (PW c k))) c k i))) (AK (λ j=>CA (Cj j c c j i (Oh c j)) (GY (λ k=>SU (CE AJ (bJ (PW c k) c j) AJ (Ya (ZZ c k) c j) (NY c) (Db c (Tt c k (Xs c (MP j))) c c (BT k j) c c (Dj c c c c c c (Dl c c c c c c c c (Cz c c c (bJ (PW c k) c j) (GB (PW c k) (RL c j)) (Ya (ZZ c k) c j) (OJ (ZZ c k) (bQ c k) (Nq c j))))))) (Ab (Pv k c) 1 (Yc c k)) c k i))))) (WZ (λ j=>BZ (GU (Bl c) 0) (AGT (GU (Bl c) 0) (PM (My c) 0) (KH c) (KG c) (OD c) (HV c) (KE c) (Dn c c c)) FO))) (AK (λ i=>UN (Ab (Pv i c) 1 (Yc c i)) i c (Fp (IH i (sN c) (AI (XQ VU (RF i) (BW i) (SZ (Wd c))) (aG (λ j=>AI (AI (AU (Cf c j) (Wc c i)) (GU (SC j c) (Ay i)) (HQ (λ k=>XH k (SC j c) (Wc c (TO k))) (Gl j (Ay i)) (CF (EZ j)) AJ (EM (NB c j) (PW c i)) AJ (CL (MD c j) (ZZ c i)) (NY c) (Db c (aE c j (Xs c i)) c c (Gl j i) c c (Dj c c c c c c (Dl c c c c c c c c (Cz c c c (EM (NB c j) (PW c i)) (GB (NB c j) (PW c i)) (CL (MD c j) (ZZ c i)) (OJ (MD c j) (Gj c j) (bQ c i)))))))) (BQ (Gh j c) (Hx c j i) (Tv j (GT j)) (AK (λ k=>Gi k j (Gq c c j c j c k)))) (kE (NB c j)))) (AND (λ j=>CU (BZ (Gh j c) (DY (Hx c j i) (EZ j) (GT j) (AK (λ k=>Gi k j (Gq c c j c j c k)))) (kE (NB c j))) (EZ j) (Bo j) (JJ (Eh j) (DX (SC j c)) (EW (Cu j c) (BB c) (KQ (Zr (aH c j c) c j) (AO (AU (Za j c) (Cu j c)) (Yb (Hh j c) c j) (KH c) (KG c) (OD c) (HV c) (KE c) (oI c) (QU (λ k=>CH k (AY c)) (AY c) (λ k=>BP k (AY c)) RM BC (uC c) (KF c) (λ k=>Ic (Zu c k) c k) (NO (AY c) (AY c) (OD c) (HV c) (DA (AY c)) (λ k=>HN k (AY c)) (DB (AY c)) (QR (λ k=>CQ k (AY c)) RM BC (EQ (AY c)) (KF c) (λ k=>Ol c k (Zu c k)) (WE (Za j c) (Fz c) (DI (Hh j c)) (Hh j c)) (Ab (tV c) (Fz c) 20) (AK (λ k=>UH k (Fz c) (HI (AY c) k) (CY (AY c)))))))))) (FX (II (Zr (aH c j c) c j) (ACK (APH c) (oY j c))) (JJ (Cf c j) (BB c) (CE (YO (And (Ke (NB c j)) (LU 0 (NB c j) TB)) 1 (bH c j) 8) (Bn (MD c j)) jH Vs (Ta (MD c j)) (YR (Tx (MD c j) 16))) (GY (λ k=>EG AJ (Yq c k (MP (bH c j))) AJ (VT (UG c k) (MD c j)) (NY c) (Db c (aS c k (Ym c c j)) c c (Zg k j) c c (Dj c c c c c c (Dl c c c c c c c c (Cz c c c (Yq c k (MP (bH c j))) (AK (λ l=>XH l (RL c k) (Ak l (bH c j) (NB c j) l (Ym c c j)))) (VT (UG c k) (MD c j)) (AK (λ l=>ON l (UG c k) (Nq c k) (LY l (MD c j) (VJ (Gj c j) l) (Cu j c)) (LY l (MD c j) (XX (Gj c j) l) (Cf c j)))))))) (Cj k c c k i (Oh c k))))) (aG (λ k=>SU (AI (Yb (Cf c k) c j) (EM (SC k c) (SC j c)) (HQ (λ l=>QX l (SC k c) (SC j c)) (Fh k j) (BT (EZ k) (EZ j)) AJ (aV (NB c k) c j) AJ (Yp (MD c k) c j) (NY c) (Db c (aE c k (Ky c j)) c c (Fh k j) c c (Dj c c c c c c (Dl c c c c c c c c (Cz c c c (aV (NB c k) c j) (GB (NB c k) (NB c j)) (Yp (MD c k) c j) (OJ (MD c k) (Gj c k) (Gj c j)))))))) (BZ (Gh k c) (DY (Hx c k i) (EZ k) (GT k) (AK (λ l=>Gi l k (Gq c c k c k c l)))) (kE (NB c k))) c (EZ k) (EZ j))))) (GY (λ k=>EG AJ (aV (RL c k) c j) AJ (Yp (UG c k) c j) (NY c) (Db c (aS c k (Ky c j)) c c (Zg k j) c c (Dj c c c c c c (Dl c c c c c c c c (Cz c c c (aV (RL c k) c j) (GB (RL c k) (NB c j)) (Yp (UG c k) c j) (OJ (UG c k) (Nq c k) (Gj c j)))))) (Cj k c c k i (Oh c k)))))))) (AK (λ j=>CA (Cj j c c j i (Oh c j)) (GY (λ k=>SU (CE AJ (bJ (PW c k) c j) AJ (Ya (ZZ c k) c j) (NY c) (Db c (Tt c k (Xs c (MP j))) c c (BT k j) c c (Dj c c c c c c (Dl c c c c c c c c (Cz c c c (bJ (PW c k) c j) (GB (PW c k) (RL c j)) (Ya (ZZ c k) c j) (OJ (ZZ c k) (bQ c k) (Nq c j))))))) (Ab (Pv k c) 1 (Yc c k)) c k i))))) (WZ (λ j=>BZ (EM (Bl c) (PW c i)) (JO (MT (Yc c i)) (λ k=>PL k (Bl c) (PW c i) (BH k)) (AO (PM (My c) (ZZ c i)) (MT (ZZ c i)) (AK (λ k=>Ge k (LH (My c)) (My c) (VJ (bQ c i) (BH k)) (bQ c i) (BH k))) (KH c) (KG c) (OD c) (HV c) (KE c) (Dn c c c))) FO))))) (UO (AI (CE (EM (Sr c) (Bl c)) (GB (Sr c) (Bl c)) (KH c) (KG c) (OD c) (KM (HV c) (KE c) (oI c) (CW (AY c)) (DF (AY c)) (MY (AY c)) Cm BC (AO (uC c) (KF c) (BI (λ i=>Ic (Zu c i) c i)) BC (BI (λ i=>XO (AY c) i (JV c) i)) (BI (λ i=>Ep (Mw c i) (Pa c c) i)) (BI (λ i=>Ol c i (IK (Pa c c) i))) (Lc (Sr c)) (tV c)))) (CM (BA (JV c)) (AZ (JV c)) (BE (JV c)) (BD (JV c)) (AW (JV c)) (BR (JV c)) (QU (λ i=>CH i (JV c)) (JV c) (λ i=>BP i (JV c)) (EP (Pa c c)) BC (BI (λ i=>WG (JV c) i (AY c) i)) (KF c) (λ i=>FG (JV c) i (Dp c i)) (MJ (JV c) (QR (λ i=>CQ i (JV c)) (EP (Pa c c)) BC (BI (λ i=>XS (AY c) i (JV c) i)) (KF c) (λ i=>FF (Dp c i) (JV c) i) (UA (JV c)) (PA (JV c)) (BI (λ i=>Cw (Ac (JV c) i) i (CY (JV c)))))))) (FX (not (Lg (AXY (CV (JV c)) c (Pa c c)))) (ADJ (GU (Sh (fwO c)) 0) (GU (Sh (fwO c)) 0) (PM (gV (fwO c)) 0) (kS (FwR.e (fwO c)))) (AN (EM (Sh (fwO c)) (Bl c)) (GB (Sh (fwO c)) (Bl c)) (Vp (gV (fwO c)) (My c)) (UF (gV (fwO c)) (My c)) (DK (FwR.e (fwO c)))))))))))) := by kernel_rfl
theorem BOU (a b : Int) : dPr (.agg [TZ a, .v (.int .i64 b)]) = ⟨a, b⟩ := rfl
theorem A7 (c : Cht) : Dk.mk c (AT c).st (AT c).sp = AT c := rfl
theorem BPM {c : Cht} (h : nsIn c) : ∀ i, i < c.ns.length -> 0 <= (gD c.ns i).mi /\ (gD c.ns i).mi < c.ms.length := λ i hi => h _ (List.any_eq_true.2 ⟨_, HP hi, by simp⟩)
theorem BRD (n : Nat) : (idL n).length = n := by unfold idL; simp
theorem BEI (c : Cht) : (CB c).Perm (idL c.ns.length) := AAE _ _
theorem APL (c : Cht) : (CB c).length = c.ns.length := by rw [(BEI c).length_eq, BRD]
theorem BOY (c : Cht) {i : Nat} (hi : i < c.ns.length) : 0 <= gD (CB c) i /\ gD (CB c) i < c.ns.length := by
 have hm : gD (CB c) i ∈ idL c.ns.length := (BEI c).mem_iff.1 (HP (by rw [APL]; exact hi))
 obtain ⟨k, hk, e⟩ := XR hm
 rw [BRD] at hk
 have e2 : gD (idL c.ns.length) k = (k : Int) := EK _ _ _ hk
 rw [<- e, e2]; omega
theorem BPA {c : Cht} {k : Nat} (hk : k <= c.ns.length) (h : ∀ t, t < k -> fwP c (TQ c k).la (gD (CB c) k) (gD (CB c) t) = false) : TQ c (k + 1) = TQ c k := by
 show fwN c (TQ c k) _ (((CB c).take k).find? _) = _
 rw [BHS]
 ·rfl
 ·intro t ht
  have ht : t < k := by rw [List.length_take] at ht; omega
  rw [Qd ht]; exact h t ht
theorem BRR {c : Cht} {k j : Nat} (hk : k <= c.ns.length) (hj : j < k) (h : ∀ t, t < j -> fwP c (TQ c k).la (gD (CB c) k) (gD (CB c) t) = false) (h2 : fwP c (TQ c k).la (gD (CB c) k) (gD (CB c) j) = true) : TQ c (k + 1) = ⟨wr (miA c (gD (CB c) k) - 1), (TQ c k).q ++ [wr (miA c (gD (CB c) k) - 1)], (TQ c k).r ++ [⟨gD (CB c) j, gD (CB c) k⟩]⟩ := by
 have e : (((CB c).take k).find? (fwP c (TQ c k).la (gD (CB c) k))) = some (gD ((CB c).take k) j) := BQC (by rw [List.length_take, APL]; omega) (λ t ht => by rw [Qd (by omega)]; exact h t ht) (by rw [Qd hj]; exact h2)
 show fwN c (TQ c k) _ (((CB c).take k).find? _) = _
 rw [e, Qd hj]; rfl
theorem kQ (c : Cht) : ∀ k, (TQ c k).q.length <= k /\ (TQ c k).r.length = (TQ c k).q.length
 | 0 => ⟨Nat.le_refl _, rfl⟩
 | k + 1 => by
  obtain ⟨h1, h2⟩ := kQ c k
  show (fwN c (TQ c k) _ (((CB c).take k).find? _)).q.length <= _ /\ (fwN c (TQ c k) _ (((CB c).take k).find? _)).r.length = (fwN c (TQ c k) _ (((CB c).take k).find? _)).q.length
  cases ((CB c).take k).find? (fwP c (TQ c k).la (gD (CB c) k)) with
  | none => exact ⟨by show (TQ c k).q.length <= _; omega, h2⟩
  | some a =>
   refine ⟨?_, ?_⟩
   ·show ((TQ c k).q ++ [_]).length <= _
    rw [List.length_append]; simp; omega
   ·show ((TQ c k).r ++ [_]).length = ((TQ c k).q ++ [_]).length
    rw [List.length_append, List.length_append]; simp; omega
theorem KK {α : Type} [Inhabited α] (l : List α) (x : α) (i : Nat) (h : i < l.length + 1) : gD (l ++ [x]) i = bif decide (i < l.length) then gD l i else x := by
 rw [AEU]
 by_cases h2 : i < l.length
 ·simp [h2]
 ·have : i - l.length = 0 := by omega
  rw [if_neg h2, this, decide_eq_false h2]; rfl
theorem CNX (c : Cht) (h1 : c.ms.length < 4611686018427387904 /\ c.ns.length < 4611686018427387904) (h0 : BF c = 0) (hn : 1 <= c.ns.length /\ c.ns.length <= 12) : CGR c := by
 have hl := QE h0
 have hs := fD h0
 have hM := BPM hs.1
 have hO := APL c
 have hR := λ i (h : i < c.ns.length) => BOY c h
 have hF := kQ c
 rw [CKQ]<;> delta MF Sw BU CO FM TP WF Ua FQ FP CL AK CA DD AU BW Aj GM FX WN KZ KB XF NR IV HC HA HZ ID IA JD GN FW FY GY FO PB Sb Ea JW ZA JY PY BI NH MG YE AQ OE DX DE KO NJ WZ Mz Ze Vz aW ACK LH Fm vA aG GT EZ AND Wd AWO AOB Sh gV AI BG AY DV EN GF AN BO XE BK CG BJ BB BY AO AM HS Fp FZ BL BV ED AWQ Wi Z7 AGT ADJ mM UZ NK CS GS CD IW CJ CX DM Bl AZ IY CR CY Dp DP MP EU Ad CV DH BA AW HD Fs DQ GJ GG EA LU EI ES HY DG BD FS EJ FU IK KR GU R8 APH BE EH ER TS AXY OZ AJ EY FR XX OO BH EM DI Sr BZ IE mJ HM MN GC PW HI KP EF VJ BDU DU EO GI DS bQ BC KY XD Wc FH LB HQ GR JG HR Mt GX WY KU BAN PP GO PZ FI LC Ab FT SC JU My Cf TL Bf LD JX QC ZZ IR KM TT Ac LG GD NL JH VO BQ Mw OT BT NG Xs WV LV SJ MK DK DO LR OG NB Zu HB BR DC DF LP JV IL IP IS IM JZ PL XH QX EL CH MX Yy OC ME NF Ke RC NM RB CM QA OF Cm OD KD WQ RL SZ BM CE NY DB DA Cu MM ON BS CW HV OH NO KQ CU Ge SY PN LJ TO Ky QG KE TK KH JO NA EW Pf JK QK BP KG MB Hu MD bU GV HF DY XG GP II WG LY Ah jF Vt JJ YR KF GA FV Ou HN GB UR OI OJ EP YC CF Uc EV OW EG XS oR TH HJ Kr UG DJ FF AXW AKC aB IG PM NV CQ FG LZ MW Gl Zw EQ Zk pT YN aF Zy MT aZ RF Hc Hv kE Ls Zj IH Fk Fz Pj PA Br Tx WE QO oY RM HO Pu Oi uR Tt To Vs Uk TW UF Tc MY XW Hg uA WM VT Ta Gg Bo PC PH Ho UA VU TB Ay SU UH Hn PO Eh OX PR Fh RP RR Hh Gh ZQ Gi UO RH Ty UT UP Gj Cj UN XO Ic Ar Oh Dn Hx Pa Nq bH kS Oo Ak WA Aq MJ AKB XM NP Dj WR XQ Pv Lc Bz Zo YO Bn Cw Gv YH ZU Vp Zg Za Yc Tv Lg Gq Ym aS aH Ol RO YA Db QU QR bJ Zr Yb Ya tV Dc aV Yq Ep Yp uC jH aE oI sN Mb Dl Cz; simp only [CC, eq_self, implies_true, forall_const, EB, zJ, Ts, BAJ, A7, BOU]
 have hI : ∀ i, i < c.ns.length -> gD (HX c.ns.length λ i => (i : Int)) i = (i : Int) := λ i hi => EK _ _ _ hi
 have hT : ∀ k j, j < k -> gD ((CB c).take k) j = gD (CB c) j := λ k j h => Qd h
 have hTl : ∀ k, k <= c.ns.length -> ((CB c).take k).length = k := λ k h => by rw [List.length_take, hO]; omega
 have pre : ∀ x ∈ [0], True := λ _ _ => trivial
 refine ⟨⟨h1, h0⟩, ⟨⟨⟨default, trivial⟩, ?_, ?_⟩, λ _ => ⟨⟨⟨hI, hn.2, by omega, ?_⟩, default, hO, Nat.le_refl _, λ _ _ => rfl⟩, ⟨⟨0, ⟨rfl, by rw [hO], rfl⟩, Nat.zero_le _, rfl⟩, ?_, ?_⟩, ?_⟩⟩⟩
 ·refine ⟨λ _ => ⟨by decide, 1, ⟨rfl, by decide, rfl, λ i hi => by omega⟩, by omega, by omega⟩, λ h => h (by omega)⟩
 ·intro a ha
  refine ⟨λ h => ⟨⟨Nat.one_pos, (λ h => by cases h), by omega, by omega⟩, a + 1, ⟨rfl, by rw [PE (by omega) (by omega)]; rfl, rfl, λ i hi => ?_⟩, by omega, by omega⟩, λ h => ⟨default, by omega, by omega⟩⟩
  by_cases h2 : i < a
  ·rw [decide_eq_true h2]; rfl
  ·rw [decide_eq_false h2]; show (i : Int) = a; omega
 ·intro i hi; rw [hI i hi]; omega
 ·rintro k ⟨hk, hq⟩
  refine ⟨λ h => ?_, λ h => ?_⟩
  ·have hk2 : k < c.ns.length := by omega
   refine ⟨⟨⟨by omega, by omega⟩, ⟨by omega, by omega, by omega⟩, ⟨⟨k, 0⟩, ⟨rfl, hTl k hk, λ i hi => ?_, rfl, rfl, rfl, rfl⟩, ⟨hk2, rfl, Nat.zero_le _, λ t ht => absurd ht (Nat.not_lt_zero _)⟩, hq⟩, ?_⟩, ?_, ?_⟩
   ·rw [hT _ _ (by have hi : i < ((CB c).take k).length := hi; rw [hTl k hk] at hi; exact hi), show Int.toNat 0 = 0 from rfl, Nat.zero_add]
   ·rintro y ⟨⟨y1, y2, y3, y4⟩, y5⟩
    have hp : ∀ j, j < y.i -> (bif decide ((gD c.ns (gD ((CB c).take y.i) j).toNat).mi > (TQ c y.i).la) then XN c { a := gD ((CB c).take y.i) j, b := gD (CB c) y.i } else false) = fwP c (TQ c y.i).la (gD (CB c) y.i) (gD (CB c) j) := λ j hj => by rw [hT _ _ hj]; rfl
    refine ⟨λ hj => ⟨⟨by omega, by rw [hTl _ (by omega)]; exact hj⟩, ⟨by rw [hT _ _ (by omega)]; exact hR _ (by omega), λ _ => ⟨⟨by rw [hT _ _ (by omega)]; exact hR _ (by omega), hR _ y1⟩, ⟨hl.2.1.2, hl.2.2⟩, hM⟩⟩, λ hc => ?_, λ hc => ?_⟩, λ hj => ?_⟩
    ·rw [hp _ (by omega)] at hc
     have e := BRR (by omega) (by omega) y4 hc
     rw [hT _ _ (by omega)]
     have h8 : (TQ c y.i).r = [] := List.length_eq_zero_iff.1 (by rw [(hF y.i).2, y5]; rfl)
     refine ⟨hR _ y1, by decide, y.i, ?_, y1, y2, ?_⟩
     ·rw [e, y5, h8]
      refine ⟨rfl, rfl, rfl, rfl, rfl, λ i hi => ?_, rfl, λ i hi => ?_⟩
      ·have hi : i < 1 := hi
       obtain rfl : i = 0 := by omega
       rfl
      ·have hi : i < 1 := hi
       obtain rfl : i = 0 := by omega
       exact ⟨rfl, rfl⟩
     ·rw [e, y5]; exact Nat.one_pos
    ·rw [hp _ (by omega)] at hc
     have e : IntKind.i64.wrap ((y.j : Int) + 1) = ((y.j + 1 : Nat) : Int) := by rw [PE (by omega) (by omega)]; rfl
     refine ⟨⟨y.i, y.j + 1⟩, ⟨rfl, rfl, λ _ _ => rfl, rfl, e.symm, rfl, rfl⟩, ⟨⟨y1, y2, by show y.j + 1 <= y.i; omega, λ t ht => ?_⟩, y5⟩, by show _ - (y.j + 1) < _; omega⟩
     have ht : t < y.j + 1 := ht
     by_cases h2 : t = y.j
     ·subst h2; exact hc
     ·exact y4 t (by omega)
    ·have e := BPA (by omega) (λ t (ht : t < y.i) => y4 t (by omega))
     refine ⟨y.i, ?_, y1, y2, ?_⟩
     ·rw [e]; exact ⟨rfl, rfl⟩
     ·rw [e]; exact y5
   ·rintro k' ⟨g1, g2, g3⟩
    refine ⟨k' + 1, ⟨rfl, by rw [PE (by omega) (by omega)]; rfl⟩, ⟨by omega, g3⟩, by omega⟩
   ·rintro k' ⟨g1, g2, g3⟩
    refine ⟨k' + 1, ⟨rfl, rfl, rfl, by rw [PE (by omega) (by omega)]; rfl, rfl, λ _ _ => rfl, rfl, λ _ _ => ⟨rfl, rfl⟩⟩, ⟨by omega, g3⟩, by omega⟩
  ·have e : k = c.ns.length := by omega
   have h8 : (TQ c k).r = [] := List.length_eq_zero_iff.1 (by rw [(hF k).2, hq]; rfl)
   subst e
   exact ⟨default, by show (TQ c _).q.length = 0; rw [hq]; rfl, by show (TQ c _).q.length = 0; rw [hq]; rfl, by show (TQ c _).r.length = 0; rw [h8]; rfl⟩
 ·rintro k ⟨hk, hq⟩
  refine ⟨λ h => ?_, λ h => ?_⟩
  ·have hk2 : k < c.ns.length := by omega
   refine ⟨⟨⟨by omega, by omega⟩, ⟨by omega, by omega, by omega⟩, ⟨⟨k, 0⟩, ⟨rfl, hTl k hk, λ i hi => ?_, rfl, rfl, rfl, rfl, rfl, rfl, rfl, λ _ _ => rfl, rfl, λ _ _ => ⟨rfl, rfl⟩⟩, ⟨hk2, rfl, Nat.zero_le _, λ t ht => absurd ht (Nat.not_lt_zero _)⟩, hq⟩, ?_⟩, ?_⟩
   ·rw [hT _ _ (by have hi : i < ((CB c).take k).length := hi; rw [hTl k hk] at hi; exact hi), show Int.toNat 0 = 0 from rfl, Nat.zero_add]
   ·rintro y ⟨⟨y1, y2, y3, y4⟩, y5⟩
    have hp : ∀ j, j < y.i -> (bif decide ((gD c.ns (gD ((CB c).take y.i) j).toNat).mi > (TQ c y.i).la) then XN c { a := gD ((CB c).take y.i) j, b := gD (CB c) y.i } else false) = fwP c (TQ c y.i).la (gD (CB c) y.i) (gD (CB c) j) := λ j hj => by rw [hT _ _ hj]; rfl
    refine ⟨λ hj => ⟨⟨by omega, by rw [hTl _ (by omega)]; exact hj⟩, ⟨by rw [hT _ _ (by omega)]; exact hR _ (by omega), λ _ => ⟨⟨by rw [hT _ _ (by omega)]; exact hR _ (by omega), hR _ y1⟩, ⟨hl.2.1.2, hl.2.2⟩, hM⟩⟩, λ hc => ?_, λ hc => ?_⟩, λ hj => ?_⟩
    ·rw [hp _ (by omega)] at hc
     have e := BRR (by omega) (by omega) y4 hc
     rw [hT _ _ (by omega)]
     have h9 := hF y.i
     refine ⟨hR _ y1, ⟨⟨Nat.one_pos, (λ h => by cases h), by omega, by omega⟩, Nat.one_pos, (λ h => by cases h), by omega, by omega⟩, y.i, ?_, y1, y2, ?_⟩
     ·rw [e]
      refine ⟨by simp, by simp, rfl, rfl, by simp, λ i hi => ?_, by simp, λ i hi => ?_⟩
      ·exact KK _ _ _ (by simpa using hi)
      ·have hi2 : i < (TQ c y.i).r.length + 1 := by simpa using hi
       show (gD ((TQ c y.i).r ++ [_]) i).a = _ /\ (gD ((TQ c y.i).r ++ [_]) i).b = _
       rw [KK _ _ _ hi2]
       cases decide (i < (TQ c y.i).r.length) <;> exact ⟨rfl, rfl⟩
     ·rw [e]; simp
    ·rw [hp _ (by omega)] at hc
     have e : IntKind.i64.wrap ((y.j : Int) + 1) = ((y.j + 1 : Nat) : Int) := by rw [PE (by omega) (by omega)]; rfl
     refine ⟨⟨y.i, y.j + 1⟩, ⟨rfl, rfl, λ _ _ => rfl, rfl, e.symm, rfl, rfl, rfl, rfl, rfl, λ _ _ => rfl, rfl, λ _ _ => ⟨rfl, rfl⟩⟩, ⟨⟨y1, y2, by show y.j + 1 <= y.i; omega, λ t ht => ?_⟩, y5⟩, by show _ - (y.j + 1) < _; omega⟩
     have ht : t < y.j + 1 := ht
     by_cases h2 : t = y.j
     ·subst h2; exact hc
     ·exact y4 t (by omega)
    ·have e := BPA (by omega) (λ t (ht : t < y.i) => y4 t (by omega))
     refine ⟨y.i, ?_, y1, y2, ?_⟩
     ·rw [e]; exact ⟨rfl, rfl, rfl, rfl, rfl, λ _ _ => rfl, rfl, λ _ _ => ⟨rfl, rfl⟩⟩
     ·rw [e]; exact y5
   ·rintro k' ⟨g1, g2, g3⟩
    refine ⟨k' + 1, ⟨rfl, rfl, rfl, by rw [PE (by omega) (by omega)]; rfl, rfl, λ _ _ => rfl, rfl, λ _ _ => ⟨rfl, rfl⟩⟩, ⟨by omega, g3⟩, by omega⟩
  ·have e : k = c.ns.length := by omega
   subst e
   exact ⟨default, rfl, Nat.le_refl _, λ _ _ => rfl, rfl, Nat.le_refl _, λ _ _ => ⟨rfl, rfl⟩⟩
 ·have h9 := hF c.ns.length
  refine ⟨⟨λ _ => rfl, by have : (PS c).q.length <= c.ns.length := h9.1; omega, hl.2.1.2⟩, ⟨hl.2.1.1, hl.2.1.2, hs.1⟩, λ hc => ?_, λ hc => ?_⟩
  ·have hc : (HG (fwW c)).2 = false := hc
   unfold fwO; rw [hc]; exact ⟨rfl, rfl, rfl, rfl, rfl⟩
  ·have hc : (HG (fwW c)).2 = true := hc
   unfold fwO; rw [hc]; exact ⟨rfl, λ _ _ => rfl, rfl, λ _ _ => ⟨rfl, rfl⟩, rfl⟩
def C_insZ : Ctr := { ro := [100], α := Cht, xs := λ _ => [.d UJ, .int 0, .int 0, .fn (.func Td) [] [.bptr 100 0]], L := λ c => [(100, chB c)], val := λ _ => .d (.tup []), keep := λ c => [(100, .live (chB c))] }
def BVP : List AVal -> Heap -> Option (Cht × List (Nat × Nat) × List Nat)
 | [.d _, _, _, .fn _ _ [.bptr id _]], H => match bO H id with
  | some q => some (q, [(100, id)], [])
  | none => none
 | _, _ => none
def iz1 (c : Cht) : Shape := { α := One, dflt := default, T := λ _ => ⟨[(0, .d UJ), (1, .int 0), (2, .int 0), (3, .fn (.func Td) [] [.bptr 100 0]), (8, .int 1)], [(100, .live (chB c))]⟩, inv := λ _ => True, meas := λ _ => 0 }
def BWO (c : Cht) : Ann := { ann 53 [] with E := [100], loops := λ id => if id = 1 then some [iz1 c] else none }
def CAC (c : Cht) : Prop := DN Try.prog (BWO c) BAV (AP BAV) (C_insZ.xs c) (AH (C_insZ.L c)) (C_insZ.val c) (C_insZ.keep c) [] []
theorem CDS (c : Cht) : (CAC c) = (And (WZ (λ i=>EG AJ HJ BM BM (LM (Aj 1) ((@HMod.hMod Nat Nat Nat (@instHMod Nat Nat.instMod)) (MP 0) (Int.natAbs (BCZ 2 (IntKind.bits WF))))) (NW c) FO)) (UO (NW c))) := by kernel_rfl
theorem CEC : AR Try.prog AQB (C_insZ.spec BVP) := Jp C_insZ BWO [] [] BPD (λ _ => by kernel_rfl) (λ _ => AL) (λ (c : Cht) _ => by
 show CAC c; rw [CDS]<;> delta MF Sw BU CO FM WF FQ FP CL AK CA DD AU Aj IV HC HA HZ ID IA JD GN FW FY FO ZA WZ Mz BCZ AI BG DV AN BO BK CG BJ BB BY AO AM BL BV ED CS CD CJ CX DM AZ CR MP DH BA AW HD DQ HY BD FS FU BE OZ AJ BZ MN KP EO KU GO KM WV MK EL MX NF NM BM BS NO QG QK OW EG TH HJ LM NW Fk UO; exact ⟨⟨default, by simp; rfl, trivial⟩, λ _ _ => by simp⟩) (λ _ => Mi rfl rfl) _
def C_pdqZ : Ctr := { ro := [100], α := Cht, xs := λ _ => [.d UJ, .int 0, .int 0, .any, .fn (.func Td) [] [.bptr 100 0]], L := λ c => [(100, chB c)], val := λ _ => .d (.tup []), keep := λ c => [(100, .live (chB c))] }
def BXF : List AVal -> Heap -> Option (Cht × List (Nat × Nat) × List Nat)
 | [.d _, _, _, _, .fn _ _ [.bptr id _]], H => match bO H id with
  | some q => some (q, [(100, id)], [])
  | none => none
 | _, _ => none
def pz2 (c : Cht) : Shape := { α := One, dflt := default, T := λ _ => ⟨[(0, .d UJ), (1, .int 0), (2, .int 0), (3, .any), (4, .fn (.func Td) [] [.bptr 100 0]), (10, .bool true), (11, .bool true)], [(100, .live (chB c))]⟩, inv := λ _ => True, meas := λ _ => 0 }
def BWB (c : Cht) : Ann := { ann 148 [(AQB, C_insZ.spec BVP)] with E := [100], loops := λ id => if id = 2 then some [pz2 c] else none }
def BWM (c : Cht) : Prop := DN Try.prog (BWB c) BKU (AP BKU) (C_pdqZ.xs c) (AH (C_pdqZ.L c)) (C_pdqZ.val c) (C_pdqZ.keep c) [] []
theorem CBC (c : Cht) : (BWM c) = (And (Aq (JO AJ OW (ADJ BM BM GP (NW c)))) (UO (EG AJ HJ BM BM (BA c) (AO (AZ c) (BE c) (BD c) (AW c) (BR c) (CW c) (DF c) (MY c) (MJ c (UP c))) (NW c)))) := by kernel_rfl
theorem CEK : AR Try.prog BDQ (C_pdqZ.spec BXF) := Jp C_pdqZ BWB [] [] BUD (λ _ => by kernel_rfl) (λ _ => AC CEC AL) (λ (c : Cht) _ => by
 show BWM c; rw [CBC]<;> delta MF Sw BU CO FM FQ FP CL AK CA DD AU Aj IV HC HA HZ ID IA JD GN FW FY FO PB WZ Mz AI BG DV EN GF AN BO BK CG BJ BB BY AO AM HS FZ BL BV ED ADJ CS GS CD CJ CX DM AZ CR CY DP EU DH BA AW HD DQ GJ EA EI HY BD FS EJ FU BE EH ER OZ AJ BZ HM MN GC HI KP EF EO GI FH GR JG HR KU GO FI FT JU IR KM GD JH WV MK LR BR DF IL IP IS IM JZ EL CH MX OC NF RC NM BM DB DA BS CW NO QG JO JK QK BP MB GP FV HN OW EG TH HJ NW CQ Fk MY Ho UO UP Aq MJ; simp only [CC, eq_self, implies_true, forall_const]; exact ⟨default, trivial⟩) (λ _ => Mi rfl rfl) _
def C_sortZ : Ctr := { ro := [100], α := Cht, xs := λ _ => [.d UJ, .fn (.func Td) [] [.bptr 100 0]], L := λ c => [(100, chB c)], val := λ _ => .d (.tup []), keep := λ c => [(100, .live (chB c))] }
def BRS : List AVal -> Heap -> Option (Cht × List (Nat × Nat) × List Nat)
 | [.d _, .fn _ _ [.bptr id _]], H => match bO H id with
  | some q => some (q, [(100, id)], [])
  | none => none
 | _, _ => none
def BOQ : Ann := { ann 14 [(BFB, BEL), (BDQ, C_pdqZ.spec BXF)] with E := [100] }
def BPN (c : Cht) : Prop := DN Try.prog BOQ APA (AP APA) (C_sortZ.xs c) (AH (C_sortZ.L c)) (C_sortZ.val c) (C_sortZ.keep c) [] []
theorem CAL (c : Cht) : (BPN c) = (And (CM (LB (Ku (BW 0)) (KZ (Ku (BW 0)) 20)) AJ HJ BM BM (BA c) (AO (AZ c) (BE c) (BD c) (AW c) (BR c) (CW c) (DF c) (MY c) (MJ c (UP c)))) (NW c)) := by kernel_rfl
theorem BUZ : AR Try.prog AOI (C_sortZ.spec BRS) := Jp C_sortZ (λ _ => BOQ) [] [] BJB (λ _ => by kernel_rfl) (λ _ => AC CAS (AC CEK AL)) (λ (c : Cht) _ => by
 show BPN c; rw [CAL]<;> delta MF Sw BU CO FM TP FQ FP CL AK CA DD AU BW Aj KZ IV HC HA HZ ID IA JD GN FW FY AI BG DV EN GF AN BO BK CG BJ BB BY AO AM HS FZ BL BV ED CS GS CD CJ CX DM AZ CR CY DP EU DH BA AW HD DQ GJ EA EI HY BD FS EJ FU BE EH ER OZ AJ DI HM MN GC HI KP EF EO GI FH LB GR JG HR KU GO FI FT JU IR KM GD JH WV MK LR BR DF IL IP IS IM JZ EL CH MX OC NF RC NM CM BM DB DA BS CW NO QG JK QK BP MB FV HN OW TH HJ NW CQ MY Ku UP MJ; simp only [CC, eq_self, implies_true, forall_const]; rw [u64w (by omega) (by omega)]; omega) (λ _ => Mi rfl rfl) _
def fz6 (c : Cht) : Shape := { α := One, dflt := default, T := λ _ => ⟨(7, .d UJ) :: fw6S c 0, fwH c⟩, inv := λ _ => c.ns.length = 0, meas := λ _ => 60, first := fwR }
def fz15 (c : Cht) : Shape := { α := One, dflt := default, T := λ _ => ⟨BOJ ++ [(1, .bptr 201 0), (5, .bptr 203 0), (7, .d UJ), (11, .int (-1)), (41, .d UJ), (42, .int 0), (43, .int 0)], fwH c⟩, inv := λ _ => c.ns.length = 0, meas := λ _ => 60 }
def BYK (c : Cht) : Ann := { ann 101 [(VE, C_open.spec dC1), (AOI, C_sortZ.spec BRS), (BBS, C_stop.spec dDkZ), (AOD, C_times.spec dDk1)] with loops := λ id => if id = 6 then some [fz6 c] else if id = 15 then some [fz15 c] else none }
def BZX (c : Cht) : Prop := DN Try.prog (BYK c) Kh (AP Kh) [.d (Rc c)] (AH []) (.tup [.d (GQ (fwO c).q), .d (Wt (fwO c).r), .int (fwO c).e]) [] [] []
abbrev AOY (c : Cht) : List Mk := HX c.ms.length λ (i : Nat) => gD c.ms i
abbrev ACV (c : Cht) : Nat := (AOY c).length
abbrev BBD (c : Cht) : Prop := ACV c = c.ms.length
abbrev AXV (c : Cht) (i : Nat) : Mk := gD (AOY c) i
abbrev BBK (c : Cht) (i : Nat) : Int := (AXV c i).pl
abbrev BCB (c : Cht) (i : Nat) : Int := (AXV c i).ht
abbrev BBQ (c : Cht) : Prop := ∀ (i : Nat), i < ACV c -> BBK c i = (gD c.ms i).pl /\ BCB c i = (gD c.ms i).ht
abbrev AOJ (c : Cht) : List Nt := HX c.ns.length λ (i : Nat) => gD c.ns i
abbrev S5 (c : Cht) : Nat := (AOJ c).length
abbrev BAS (c : Cht) : Prop := S5 c = c.ns.length
abbrev ADX (c : Cht) (i : Nat) : Nt := gD (AOJ c) i
abbrev ARR (c : Cht) (i : Nat) : Int := (ADX c i).mi
abbrev ARW (c : Cht) (i : Nat) : Span := (ADX c i).t
abbrev ATB (c : Cht) (i : Nat) : Int := (ARW c i).lo
abbrev ARU (c : Cht) (i : Nat) : Int := (ARW c i).hi
abbrev ARL (c : Cht) (i : Nat) : Span := (ADX c i).s
abbrev AQH (c : Cht) (i : Nat) : Int := (ARL c i).lo
abbrev ASE (c : Cht) (i : Nat) : Int := (ARL c i).hi
abbrev ATJ (c : Cht) : Prop := ∀ (i : Nat), i < S5 c -> ARR c i = (gD c.ns i).mi /\ ATB c i = (gD c.ns i).t.lo /\ ARU c i = (gD c.ns i).t.hi /\ AQH c i = (gD c.ns i).s.lo /\ ASE c i =
 (gD c.ns i).s.hi
abbrev AQA (c : Cht) : Cht := Cht.mk c.p c.base c.scale c.off (AOY c) (AOJ c)
abbrev Du : Prop := (0 : Nat) = (0 : Nat)
abbrev Ok : Prop := ∀ (i : Nat), i < (0 : Nat) -> false = false
abbrev AGJ : Prop := Int.ofNat (0 : Nat) = Int.ofNat (0 : Nat)
abbrev ASO (c : Cht) : Prop := c.ms.length = c.ms.length
abbrev APP (c : Cht) : Prop := ∀ (i : Nat), i < c.ms.length -> (gD c.ms i).pl = (gD c.ms i).pl /\ (gD c.ms i).ht = (gD c.ms i).ht
abbrev AQM (c : Cht) : Prop := c.ns.length = c.ns.length
abbrev AQQ (c : Cht) : Prop := ∀ (i : Nat), i < c.ns.length -> (gD c.ns i).mi = (gD c.ns i).mi /\ (gD c.ns i).t.lo = (gD c.ns i).t.lo /\ (gD c.ns i).t.hi = (gD c.ns i).t.hi /\ (gD c.ns i).s.lo = (gD c.ns i).s.lo /\ (gD
 c.ns i).s.hi = (gD c.ns i).s.hi
abbrev AUY (c : Cht) : Dk := AT (AQA c)
abbrev Oa (c : Cht) : Cht := (AUY c).c
abbrev ARQ (c : Cht) : Span := (Oa c).p
abbrev ATP (c : Cht) : List Mk := (Oa c).ms
abbrev AUR (i : Nat) (c : Cht) : Prop := i < (AT c).c.ms.length
abbrev ARC (c : Cht) (i : Nat) : Mk := gD (ATP c) i
abbrev lZ (c : Cht) : List Nt := (Oa c).ns
abbrev AST (i : Nat) (c : Cht) : Prop := i < (AT c).c.ns.length
abbrev AFO (c : Cht) (i : Nat) : Nt := gD (lZ c) i
abbrev mX (c : Cht) (i : Nat) : Int := (gD (AT c).c.ns i).t.lo
abbrev AUV (c : Cht) (i : Nat) : Span := (AFO c i).t
abbrev mF (c : Cht) (i : Nat) : Int := (gD (AT c).c.ns i).t.hi
abbrev nJ (c : Cht) (i : Nat) : Int := (gD (AT c).c.ns i).s.lo
abbrev ATA (c : Cht) (i : Nat) : Span := (AFO c i).s
abbrev nI (c : Cht) (i : Nat) : Int := (gD (AT c).c.ns i).s.hi
abbrev Xa : Prop := ∀ (i : Nat), i < (40 : Nat) -> false = false
abbrev AED (c : Cht) (n : Int) : Nt := ntOf (lZ c) n
abbrev AUO (c : Cht) (n : Int) : Span := (AED c n).t
abbrev ASQ (c : Cht) (n : Int) : Span := (AED c n).s
abbrev nG (c : Cht) : Prop := c.ns.length = (0 : Nat)
abbrev AUH : Prop := (0 : Nat) < (1 : Nat)
abbrev ATE (c : Cht) : Prop := (AT c).c.p.lo = (AT c).c.p.lo
abbrev ASA (c : Cht) : Prop := (AT c).c.p.hi = (AT c).c.p.hi
abbrev AQO (c : Cht) : Prop := (AT c).c.base = (AT c).c.base
abbrev ASK (c : Cht) : Prop := (AT c).c.scale = (AT c).c.scale
abbrev APZ (c : Cht) : Prop := (AT c).c.off = (AT c).c.off
abbrev oC (c : Cht) : Prop := ∀ (n : Int), (AT c).st n = (AT c).st n
abbrev AFJ (c : Cht) : List Mk := HX (AT c).c.ms.length λ (i : Nat) => gD (AT c).c.ms i
abbrev AFQ (c : Cht) : Nat := (AFJ c).length
abbrev AUK (c : Cht) (i : Nat) : Mk := gD (AFJ c) i
abbrev Xb (c : Cht) : List Nt := HX (AT c).c.ns.length λ (i : Nat) => gD (AT c).c.ns i
abbrev ARE (c : Cht) : Nat := (Xb c).length
abbrev AEX (c : Cht) (i : Nat) : Nt := gD (Xb c) i
abbrev AVC (c : Cht) (i : Nat) : Span := (AEX c i).t
abbrev AQW (c : Cht) (i : Nat) : Span := (AEX c i).s
abbrev AEV (c : Cht) (n : Int) : Nt := ntOf (Xb c) n
abbrev AUF (c : Cht) (n : Int) : Span := (AEV c n).t
abbrev ARJ (c : Cht) (n : Int) : Span := (AEV c n).s
abbrev AFX (c : Cht) : Dk := stD (DkZ.mk (Dk.mk (Cht.mk (AT c).c.p (AT c).c.base (AT c).c.scale (AT c).c.off (AFJ c) (Xb c)) (AT c).st (AT c).sp) (HX (0 : Nat) λ (i : Nat) => default))
abbrev Pp (c : Cht) : Cht := (AFX c).c
abbrev mW (c : Cht) : List Nt := (Pp c).ns
abbrev AER (c : Cht) (n : Int) : Nt := ntOf (mW c) n
abbrev APS (c : Cht) (n : Int) : Span := (AER c n).t
abbrev ASM (c : Cht) (n : Int) : Span := (AER c n).s
abbrev AGK (c : Cht) : Span := (Pp c).p
abbrev ARS (c : Cht) : Int := (AGK c).lo
abbrev AQK (c : Cht) : Prop := ARS c = ARS c
abbrev ATV (c : Cht) : Int := (AGK c).hi
abbrev AUN (c : Cht) : Prop := ATV c = ATV c
abbrev ADY (c : Cht) : Int := (Pp c).base
abbrev APV (c : Cht) : Prop := ADY c = ADY c
abbrev AGG (c : Cht) : Int := (Pp c).scale
abbrev AQJ (c : Cht) : Prop := AGG c = AGG c
abbrev AEQ (c : Cht) : Int := (Pp c).off
abbrev AQU (c : Cht) : Prop := AEQ c = AEQ c
abbrev ATL (c : Cht) : List Mk := (Pp c).ms
abbrev nD (c : Cht) : Nat := (ATL c).length
abbrev AEZ (c : Cht) (i : Nat) : Mk := gD (ATL c) i
abbrev AFU (c : Cht) : List Mk := HX (nD c) λ (i : Nat) => AEZ c i
abbrev Nn (c : Cht) : Nat := (AFU c).length
abbrev ATF (c : Cht) (i : Nat) : Mk := gD (AFU c) i
abbrev APY (c : Cht) (i : Nat) : Int := (ATF c i).pl
abbrev AQI (c : Cht) (i : Nat) : Int := (AEZ c i).pl
abbrev AQC (c : Cht) (i : Nat) : Int := (ATF c i).ht
abbrev ATI (c : Cht) (i : Nat) : Int := (AEZ c i).ht
abbrev nU (c : Cht) : Nat := (mW c).length
abbrev mU (c : Cht) (i : Nat) : Nt := gD (mW c) i
abbrev Xj (c : Cht) : List Nt := HX (nU c) λ (i : Nat) => mU c i
abbrev AFK (c : Cht) : Nat := (Xj c).length
abbrev AGB (c : Cht) (i : Nat) : Nt := gD (Xj c) i
abbrev ARK (c : Cht) (i : Nat) : Int := (AGB c i).mi
abbrev AQT (c : Cht) (i : Nat) : Int := (mU c i).mi
abbrev ARG (c : Cht) (i : Nat) : Span := (AGB c i).t
abbrev AIE (c : Cht) (i : Nat) : Int := (ARG c i).lo
abbrev AHU (c : Cht) (i : Nat) : Span := (mU c i).t
abbrev AJI (c : Cht) (i : Nat) : Int := (AHU c i).lo
abbrev AKA (c : Cht) (i : Nat) : Int := (ARG c i).hi
abbrev AMP (c : Cht) (i : Nat) : Int := (AHU c i).hi
abbrev AKF (c : Cht) (i : Nat) : Span := (AGB c i).s
abbrev AMA (c : Cht) (i : Nat) : Int := (AKF c i).lo
abbrev AMV (c : Cht) (i : Nat) : Span := (mU c i).s
abbrev ALS (c : Cht) (i : Nat) : Int := (AMV c i).lo
abbrev AKW (c : Cht) (i : Nat) : Int := (AKF c i).hi
abbrev ALD (c : Cht) (i : Nat) : Int := (AMV c i).hi
abbrev qO (c : Cht) (n : Int) : Bool := hasN (Xj c) n
abbrev tH (c : Cht) (n : Int) : Nt := ntOf (Xj c) n
abbrev AME (c : Cht) (n : Int) : Int := (tH c n).mi
abbrev AMB (c : Cht) (n : Int) : Span := (tH c n).t
abbrev AID (c : Cht) (n : Int) : Int := (AMB c n).lo
abbrev AJY (c : Cht) (n : Int) : Int := (AMB c n).hi
abbrev ALC (c : Cht) (n : Int) : Span := (tH c n).s
abbrev AMG (c : Cht) (n : Int) : Int := (ALC c n).lo
abbrev AIV (c : Cht) (n : Int) : Int := (ALC c n).hi
abbrev aK (c : Cht) : Prop := (fwO c).q.length = (0 : Nat)
abbrev aA (c : Cht) : Prop := (fwO c).r.length = (0 : Nat)
theorem CCW (c : Cht) : (BZX c) = ((c.p.lo = c.p.lo /\ c.p.hi = c.p.hi /\ c.base = c.base /\ c.scale = c.scale /\ c.off = c.off /\ BBD c /\ BBQ c /\ BAS c /\ ATJ c /\ (ACV c < (4611686018427387904
 : Nat) /\ S5 c < (4611686018427387904 : Nat)) /\ BF (AQA c) = (0 : Int)) /\ (∃ (a : One), (Du /\ Ok /\ (↑c.ns.length : Int) = (↑c.ns.length : Int) /\ AGJ /\ c.p.lo = c.p.lo /\ c.p.hi = c.p.hi
 /\ c.base = c.base /\ c.scale = c.scale /\ c.off = c.off /\ ASO c /\ APP c /\ AQM c /\ AQQ c /\ (AT c).c.p.lo = (ARQ c).lo /\ (AT c).c.p.hi = (ARQ c).hi /\ (AT c).c.base = (Oa
 c).base /\ (AT c).c.scale = (Oa c).scale /\ (AT c).c.off = (Oa c).off /\ (AT c).c.ms.length = (ATP c).length /\ (∀ (i : Nat), AUR i c -> (gD (AT c).c.ms i).pl = (ARC c i).pl /\ (gD (AT
 c).c.ms i).ht = (ARC c i).ht) /\ (AT c).c.ns.length = (lZ c).length /\ (∀ (i : Nat), AST i c -> (gD (AT c).c.ns i).mi = (AFO c i).mi /\ mX c i = (AUV c i).lo /\ mF c i =
 (AUV c i).hi /\ nJ c i = (ATA c i).lo /\ nI c i = (ATA c i).hi) /\ Xa /\ D2 = D2 /\ (∀ (n : Int), hasN (AT c).c.ns n = hasN (lZ c) n) /\ (∀ (n : Int), (AT c).st n =
 (AUY c).st n) /\ ∀ (n : Int), (ntOf (AT c).c.ns n).mi = (AED c n).mi /\ (ntOf (AT c).c.ns n).t.lo = (AUO c n).lo /\ (ntOf (AT c).c.ns n).t.hi = (AUO c n).hi /\ (ntOf (AT c).c.ns n).s.lo =
 (ASQ c n).lo /\ (ntOf (AT c).c.ns n).s.hi = (ASQ c n).hi) /\ nG c) /\ ∀ (a : One), nG c -> bif decide ((↑(0 : Nat) : Int) < (↑c.ns.length : Int)) then ((True /\ ((0 : Nat) < (0 : Nat) -> (0 : Nat) =
 (1 : Nat))) /\ ((1 : Nat) <= (1 : Nat) /\ (AUH -> (1 : Nat) = (1 : Nat))) /\ (false = true -> AUH) /\ (1 : Nat) <= (9223372036854775807 : Nat) /\ (8 : Nat) <= (140737488355328 : Nat)) /\ False else (Du /\
 Ok /\ c.p.lo = c.p.lo /\ c.p.hi = c.p.hi /\ c.base = c.base /\ c.scale = c.scale /\ c.off = c.off /\ BBD c /\ BBQ c /\ BAS c /\ ATJ c /\ c.p.lo = c.p.lo /\ c.p.hi = c.p.hi /\ c.base = c.base /\ c.scale =
 c.scale /\ c.off = c.off /\ c.ms.length = ACV c /\ (∀ (i : Nat), i < c.ms.length -> (gD c.ms i).pl = BBK c i /\ (gD c.ms i).ht = BCB c i) /\ c.ns.length = S5 c /\ ∀ (i : Nat), i < c.ns.length -> (gD c.ns
 i).mi = ARR c i /\ (gD c.ns i).t.lo = ATB c i /\ (gD c.ns i).t.hi = ARU c i /\ (gD c.ns i).s.lo = AQH c i /\ (gD c.ns i).s.hi = ASE c i) /\ (∃ (a : One), (Du /\ Ok /\ Du /\
 Ok /\ Du /\ Ok /\ Int.negSucc (0 : Nat) = Int.negSucc (0 : Nat) /\ Du /\ Ok /\ AGJ /\ AGJ /\ c.p.lo = c.p.lo /\ c.p.hi = c.p.hi /\ c.base = c.base /\ c.scale = c.scale /\ c.off = c.off
 /\ ASO c /\ APP c /\ AQM c /\ AQQ c /\ ATE c /\ ASA c /\ AQO c /\ ASK c /\ APZ c /\ (AT c).c.ms.length = (AT c).c.ms.length /\ (∀ (i : Nat), AUR i c -> (gD (AT
 c).c.ms i).pl = (gD (AT c).c.ms i).pl /\ (gD (AT c).c.ms i).ht = (gD (AT c).c.ms i).ht) /\ (AT c).c.ns.length = (AT c).c.ns.length /\ (∀ (i : Nat), AST i c -> (gD (AT c).c.ns i).mi = (gD (AT c).c.ns i).mi
 /\ mX c i = mX c i /\ mF c i = mF c i /\ nJ c i = nJ c i /\ nI c i = nI c i) /\ Xa /\ D2 = D2 /\ (∀ (n : Int), hasN (AT c).c.ns n = hasN (AT c).c.ns n) /\
 oC c /\ ∀ (n : Int), (ntOf (AT c).c.ns n).mi = (ntOf (AT c).c.ns n).mi /\ (ntOf (AT c).c.ns n).t.lo = (ntOf (AT c).c.ns n).t.lo /\ (ntOf (AT c).c.ns n).t.hi = (ntOf (AT c).c.ns n).t.hi /\ (ntOf (AT
 c).c.ns n).s.lo = (ntOf (AT c).c.ns n).s.lo /\ (ntOf (AT c).c.ns n).s.hi = (ntOf (AT c).c.ns n).s.hi) /\ nG c) /\ ∀ (a : One), nG c -> (Du /\ Du /\ ATE c /\ ASA c /\ AQO c /\
 ASK c /\ APZ c /\ AFQ c = (AT c).c.ms.length /\ (∀ (i : Nat), i < AFQ c -> (AUK c i).pl = (gD (AT c).c.ms i).pl /\ (AUK c i).ht = (gD (AT c).c.ms i).ht) /\ ARE c = (AT
 c).c.ns.length /\ (∀ (i : Nat), i < ARE c -> (AEX c i).mi = (gD (AT c).c.ns i).mi /\ (AVC c i).lo = mX c i /\ (AVC c i).hi = mF c i /\ (AQW c i).lo = nJ c i /\ (AQW c
 i).hi = nI c i) /\ Xa /\ D2 = D2 /\ (∀ (n : Int), hasN (Xb c) n = hasN (AT c).c.ns n) /\ oC c /\ (∀ (n : Int), (AEV c n).mi = (ntOf (AT c).c.ns n).mi /\ (AUF c n).lo = (ntOf (AT
 c).c.ns n).t.lo /\ (AUF c n).hi = (ntOf (AT c).c.ns n).t.hi /\ (ARJ c n).lo = (ntOf (AT c).c.ns n).s.lo /\ (ARJ c n).hi = (ntOf (AT c).c.ns n).s.hi) /\ D2 = D2 /\ (∀ (n : Int), hasN (AT c).c.ns n =
 hasN (mW c) n) /\ (∀ (n : Int), (AT c).st n = (AFX c).st n) /\ (∀ (n : Int), (ntOf (AT c).c.ns n).mi = (AER c n).mi /\ (ntOf (AT c).c.ns n).t.lo = (APS c n).lo /\ (ntOf (AT c).c.ns n).t.hi =
 (APS c n).hi /\ (ntOf (AT c).c.ns n).s.lo = (ASM c n).lo /\ (ntOf (AT c).c.ns n).s.hi = (ASM c n).hi) /\ (0 : Nat) < (4611686018427387904 : Nat) /\ AFQ c <= (40 : Nat)) /\ (AQK c /\ AUN c
 /\ APV c /\ AQJ c /\ AQU c /\ Nn c = nD c /\ (∀ (i : Nat), i < Nn c -> APY c i = AQI c i /\ AQC c i = ATI c i) /\ AFK c = nU c /\ (∀ (i : Nat), i <
 AFK c -> ARK c i = AQT c i /\ AIE c i = AJI c i /\ AKA c i = AMP c i /\ AMA c i = ALS c i /\ AKW c i = ALD c i) /\ Xa /\ D2 = D2 /\ (∀ (n : Int),
 qO c n = hasN (AT c).c.ns n) /\ oC c /\ (∀ (n : Int), AME c n = (ntOf (AT c).c.ns n).mi /\ AID c n = (ntOf (AT c).c.ns n).t.lo /\ AJY c n = (ntOf (AT c).c.ns n).t.hi /\ AMG c
 n = (ntOf (AT c).c.ns n).s.lo /\ AIV c n = (ntOf (AT c).c.ns n).s.hi) /\ AQK c /\ AUN c /\ APV c /\ AQJ c /\ AQU c /\ nD c = Nn c /\ (∀ (i : Nat), i < nD c ->
 AQI c i = APY c i /\ ATI c i = AQC c i) /\ nU c = AFK c /\ (∀ (i : Nat), i < nU c -> AQT c i = ARK c i /\ AJI c i = AIE c i /\ AMP c i = AKA c
 i /\ ALS c i = AMA c i /\ ALD c i = AKW c i) /\ Xa /\ D2 = D2 /\ (∀ (n : Int), hasN (AT c).c.ns n = qO c n) /\ oC c /\ (∀ (n : Int), (ntOf (AT c).c.ns n).mi = AME c
 n /\ (ntOf (AT c).c.ns n).t.lo = AID c n /\ (ntOf (AT c).c.ns n).t.hi = AJY c n /\ (ntOf (AT c).c.ns n).s.lo = AMG c n /\ (ntOf (AT c).c.ns n).s.hi = AIV c n) /\ (1 : Nat) <= Nn c /\
 Nn c <= (40 : Nat) /\ ∀ (j : Int), qO c j = true -> (0 : Int) <= j /\ j < (↑(Nn c) : Int)) /\ bif !(HG (Dk.mk (Cht.mk (AGK c) (ADY c) (AGG c) (AEQ c) (AFU c) (Xj
 c)) (AT c).st (AFX c).sp)).snd then aK c /\ aK c /\ aA c /\ aA c /\ (fwO c).e = (6 : Int) else aK c /\ aK c /\ aA c /\ aA c /\ (fwO c).e = (0 : Int)) := by
 kernel_rfl
def BXB : Ann := ann 101 [(VE, C_openX.spec dC1)]
def BXH (c : Cht) : Prop := DN Try.prog BXB Kh (AP Kh) [.d (Rc c)] (AH []) (.tup [.d (GQ nilI), .d (Wt nilP), .int (BF c)]) [] [] []
theorem CDY (c : Cht) : (BXH c) = (EX (NP c c c c (OY (IG c))) (Jq c) (mR AJ AJ AJ (XZ c (IG c))) JY) := by kernel_rfl
theorem CJX (c : Cht) (h1 : c.ms.length < 4611686018427387904 /\ c.ns.length < 4611686018427387904) (h0 : BF c = 0) (hn : c.ns.length = 0) : BZX c := by
 have hl := QE h0
 have hs := fD h0
 rw [CCW]; delta AOY ACV BBD AXV BBK BCB BBQ AOJ S5 BAS ADX ARR ARW ATB ARU ARL AQH ASE ATJ AQA Du Ok AGJ ASO APP AQM AQQ AUY Oa ARQ ATP AUR ARC lZ AST AFO mX AUV mF nJ ATA nI Xa AED AUO ASQ nG AUH ATE ASA AQO ASK APZ oC AFJ AFQ AUK Xb ARE AEX AVC AQW AEV AUF ARJ AFX Pp mW AER APS ASM AGK ARS AQK ATV AUN ADY APV AGG AQJ AEQ AQU ATL nD AEZ AFU Nn ATF APY AQI AQC ATI nU mU Xj AFK AGB ARK AQT ARG AIE AHU AJI AKA AMP AKF AMA AMV ALS AKW ALD qO tH AME AMB AID AJY ALC AMG AIV aK aA; simp only [CC, eq_self, implies_true, forall_const, EB, zJ, Ts, BAJ, A7]
 have hq : (PS c).q = [] := by unfold PS; rw [hn]; rfl
 have hr : (PS c).r = [] := by unfold PS; rw [hn]; rfl
 refine ⟨⟨h1, h0⟩, ⟨default, hn⟩, λ _ => ⟨λ h => by omega, λ _ => ⟨⟨default, hn⟩, λ _ => ⟨⟨λ n => rfl, by decide, hl.2.1.2⟩, ⟨hl.2.1.1, hl.2.1.2, hs.1⟩, λ hc => ?_, λ hc => ?_⟩⟩⟩⟩
 ·have hc : (HG (stD ⟨AT c, []⟩)).2 = false := hc
  have hc : (HG (fwW c)).2 = false := by unfold fwW; rw [hq]; exact hc
  unfold fwO; rw [hc]; exact ⟨rfl, rfl, rfl, rfl, rfl⟩
 ·have hc : (HG (stD ⟨AT c, []⟩)).2 = true := hc
  have hc : (HG (fwW c)).2 = true := by unfold fwW; rw [hq]; exact hc
  unfold fwO; rw [hc]
  exact ⟨by show (PS c).q.length = 0; rw [hq]; rfl, by show (PS c).q.length = 0; rw [hq]; rfl, by show (PS c).r.length = 0; rw [hr]; rfl, by show (PS c).r.length = 0; rw [hr]; rfl, rfl⟩
theorem AYI : AR Try.prog lX (C_few.spec dC1) := okT C_few (λ (c : Cht) h => by
 obtain ⟨h1, h2⟩ : (c.ms.length < 4611686018427387904 /\ c.ns.length < 4611686018427387904) /\ (BF c = 0 -> c.ns.length <= 12) := h
 by_cases h0 : BF c = 0
 ·have e : C_few.val c = .tup [.d (GQ (fwO c).q), .d (Wt (fwO c).r), .int (fwO c).e] := by
   show AVal.tup [.d (GQ (RT c).q), .d (Wt (RT c).r), .int (RT c).e] = _
   unfold RT; rw [h0]; rfl
  rw [e]
  rcases Nat.eq_zero_or_pos c.ns.length with hz | hp
  ·exact Su (A := BYK c) (L := []) (keep := []) (ren := []) (fz := []) AEK (by kernel_rfl) (AC eS (AC BUZ (AC AXS (AC E7 AL)))) (CJX c h1 h0 hz)
  ·exact Su (A := BXW c) (L := []) (keep := []) (ren := []) (fz := []) AEK (by kernel_rfl) (AC eS (AC BQM (AC ANG (AC AXS (AC E7 AL))))) (CNX c h1 h0 ⟨hp, h2 h0⟩)
 ·have h0' : (BF c == 0) = false := by simpa using h0
  have e : C_few.val c = .tup [.d (GQ nilI), .d (Wt nilP), .int (BF c)] := by
   show AVal.tup [.d (GQ (RT c).q), .d (Wt (RT c).r), .int (RT c).e] = _
   unfold RT; rw [h0']; rfl
  rw [e]
  refine Su (A := BXB) (L := []) (keep := []) (ren := []) (fz := []) AEK (by kernel_rfl) (AC oE AL) ?_
  show BXH c; rw [CDY]<;> delta BU CO FM FQ FP CL AK CA DD AU FX IV HC HA HZ ID IA JD GN FW FY Ea WW JY AI BG DV EN GF AN BO BK CG BJ BB BY AO AM HS FZ BL BV mR CS GS CD IW CJ CX DM AZ CR CY DP EU CV DH BA AW DQ GJ EA EI DG BD EJ FU BE EH ER AJ GC HI EF GI DS FH GR JG HR FI FT JU IR GD JH DO BR DF IL IP IS IM JZ CH ME PN BP EX IG NV PK XW XZ OY UT XM NP Jq; simp only [CC, eq_self, implies_true, forall_const, EB]
  simp [h1, h0, nilI, nilP]) _
def C_Stops : Ctr := { α := Cht, xs := λ c => [.d (Rc c)], val := λ c => .tup [.d (GQ (RT c).q), .int (RT c).e], keep := λ _ => [], pre := λ c => [(c.ms.length < 4611686018427387904 /\ c.ns.length < 4611686018427387904) /\ (BF c = 0 -> c.ns.length <= 12)] }
def Py : Ann := ann 15 [(lX, C_few.spec dC1)]
def BQY (c : Cht) : Prop := DN Try.prog Py sM (AP sM) [.d (Rc c)] (AH []) (C_Stops.val c) [] [] []
abbrev Ir:=RT
abbrev ZD a:=FwR.e (Ir a)
abbrev jB a:=Sh (Ir (CV a))
abbrev Ig a b:=CA (DK a) b
abbrev Cb a b:=Ig a (ZQ (EJ b))
attribute [go_sem] Ir ZD jB Ig Cb
theorem BUU (c : Cht) : (BQY c) = (BQ (NP c c c c (Cb (IG c) c)) (EM (Sh (Ir c)) (jB c)) (GB (Sh (Ir c)) (jB c)) (AU (ZD c) (ZD (CV c)))) := by kernel_rfl
theorem BXI : AR Try.prog AEO (C_Stops.spec dC1) := Jp C_Stops (λ _ => Py) [] [] BAY (λ _ => by kernel_rfl) (λ _ => AC AYI AL) (λ (c : Cht) h => by
 show BQY c; rw [BUU]<;> delta BU CO FM FQ FP CL AK CA DD AU GM IV HC HA HZ ID IA JD GN FW FY Ea DX DE Sh Ir AI BG DV EN GF AN BO BK CG BJ BB BY AO AM HS FZ BL CS GS CD IW CJ CX DM AZ CR CY DP EU CV DH BA AW DQ GJ EA LU EI DG BD EJ FU GU BE EH ER EM GC HI EF GI DS FH GR JG HR PP FI FT JU QC IR ZD GD JH BQ NG DK DO BR DF IL IP IS IM JZ PL QX CH ME PN BP GB IG NV XW Ig ZQ UT XM NP Cb jB; simp only [CC, eq_self, implies_true, forall_const, EB]; exact h) (λ _ => Mi rfl rfl) _
def C_Pairs : Ctr := { α := Cht, xs := λ c => [.d (Rc c)], val := λ c => .tup [.d (Wt (RT c).r), .int (RT c).e], keep := λ _ => [], pre := λ c => [(c.ms.length < 4611686018427387904 /\ c.ns.length < 4611686018427387904) /\ (BF c = 0 -> c.ns.length <= 12)] }
def BQG (c : Cht) : Prop := DN Try.prog Py sB (AP sB) [.d (Rc c)] (AH []) (C_Pairs.val c) [] [] []
abbrev kU a:=gV (Ir (CV a))
attribute [go_sem] kU
theorem BVA (c : Cht) : (BQG c) = (BQ (NP c c c c (Cb (IG c) c)) (Vp (gV (Ir c)) (kU c)) (UF (gV (Ir c)) (kU c)) (AU (ZD c) (ZD (CV c)))) := by kernel_rfl
theorem BZT : AR Try.prog AGI (C_Pairs.spec dC1) := Jp C_Pairs (λ _ => Py) [] [] AYO (λ _ => by kernel_rfl) (λ _ => AC AYI AL) (λ (c : Cht) h => by
 show BQG c; rw [BVA]<;> delta BU CO FM FQ FP CL AK CA DD AU GM IV HC HA HZ ID IA JD GN FW FY Ea LH Fm gV Ir AI BG DV EN GF AN BO BK CG BJ BB BY AO AM HS FZ BL CS GS CD IW CJ CX DM AZ CR CY DP EU CV DH BA AW DQ GJ EA EI DG BD EJ FU BE EH ER XX GC HI EF VJ GI DS FH GR JG HR FI FT JU IR ZD GD JH BQ DK DO BR DF IL IP IS IM JZ CH ME ON Ge PN Pf BP Ou OJ IG PM NV Oi UF XW Ig ZQ UT XM NP Cb Vp kU; simp only [CC, eq_self, implies_true, forall_const, EB]; exact h) (λ _ => Mi rfl rfl) _
end Go.Bal
