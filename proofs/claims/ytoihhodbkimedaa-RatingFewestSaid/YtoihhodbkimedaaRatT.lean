/- Package rating: the fewest parts. -/
import Derived.Test.YtoihhodbkimedaaRatT0
set_option linter.unusedVariables false
set_option linter.unusedSimpArgs false
namespace Go.Bal
open Go Go.Sym Go.Proofs
def eLL (l : List (List Int)) : DVal := lst 1 l.length λ i => DC (gD l i)
def X4 (l : List (List Int)) : AObj := .row 1 l.length λ i => DC (gD l i)
structure FS where
 fr : Nat
 to : Nat
 ln : Ln
 b : List Int
 l : List Ln
 k : List (List Int)
 deriving Inhabited
def fB (n : Nat) : List Int := (List.range n).map Int.ofNat
def AM (g : List Gau) : List Int := stM (MI g) (fB g.length)
def nxK (g : List Gau) (o : List Int) (t : Nat) : Nat -> Nat -> Nat
 | 0, k => k
 | n + 1, k => bif MI g (gD o k) == MI g (gD o t) then nxK g o t n (k + 1) else k
def In (g : List Gau) (o : List Int) (t : Nat) : Nat := nxK g o t (o.length - t) t
def sS (g : List Gau) (o : List Int) (a b : Nat) : List Gau := pkM ⟨g, o, a, b⟩
def cX (g : List Gau) (o : List Int) (s : FS) : FS := ⟨s.to, s.to, s.ln, s.b ++ [MI g (gD o s.to)], s.l ++ [s.ln], s.k ++ [Hk ⟨g, (o.take (In g o s.to)).drop s.fr⟩]⟩
def goF (g : List Gau) (o : List Int) (s : FS) : FS := ⟨s.fr, In g o s.to, (CS (sS g o s.fr (In g o s.to))).1, s.b, s.l, s.k⟩
structure FR where
 r : Rtg
 k : List (List Int)
 e : Int
def Sp (g : List Gau) (o : List Int) : Nat -> FS -> FR
 | 0, s => ⟨⟨s.b, s.l ++ [s.ln]⟩, s.k, 0⟩
 | n + 1, s => bif decide (s.to < o.length) then (bif (CS (sS g o s.to (In g o s.to))).2 then (bif (CS (sS g o s.fr (In g o s.to))).2 then Sp g o n (goF g o s) else Sp g o n (cX g o s)) else ⟨⟨[], []⟩, [], 6⟩) else ⟨⟨s.b, s.l ++ [s.ln]⟩, s.k, 0⟩
def ini0 : FS := ⟨0, 0, BP ⟨0, 0⟩, [], [], []⟩
def EK (g : List Gau) : FR := bif AZ g == 0 then Sp g (AM g) (2 * g.length + 2) ini0 else ⟨⟨[], []⟩, [], AZ g⟩
def gU (o : List Int) (s : FS) : Nat := 2 * (o.length - s.to) + (if s.fr < s.to then 1 else 0)
def invF (g : List Gau) (s : FS) : Prop := AZ g = 0 /\ s.fr <= s.to /\ s.to <= g.length /\ s.b.length <= s.fr /\ s.l.length = s.b.length /\ s.k.length = s.b.length /\ (∀ m, gU (AM g) s + 1 <= m -> EK g = Sp g (AM g) m s)
def zRtg : HCell := .live (.box [.d VG, .d VG])
def lnBx (x : Ln) : HCell := .live (.box [.int x.a0, .int x.a1, .int x.b0, .int x.b1])
def fwN (g : List Gau) (k : Nat) : List (Nat × AVal) := [(1, .bptr 1000 0), (2, .bptr 1016 0), (6, .bptr 5000 0), (24, .int g.length), (25, .int k)]
def fw6n (g : List Gau) : Shape := { α := One, dflt := default, T := λ _ => ⟨fwN g 0, [(1000, .live (bxG g)), (1016, zRtg), (5000, .live (.box [.d VG]))]⟩, inv := λ _ => AZ g = 0, meas := λ _ => g.length + 1 }
def fw6o (g : List Gau) : Shape := { α := Nat, dflt := 0, T := λ k => ⟨fwN g k, [(1000, .live (bxG g)), (1016, zRtg), (5000, .live (.box [.own 201 1 0 k])), (201, .live (.row 1 k λ i => PT i))]⟩, inv := λ k => AZ g = 0 /\ 1 <= k /\ k <= g.length, meas := λ k => g.length - k, again := [(201, 9048)] }
def fwB (g : List Gau) : List (Nat × HCell) := [(1000, .live (bxG g)), (1016, zRtg), (5000, .live (.box [.d (DC (AM g))]))]
def fw10 (g : List Gau) : Shape := { α := One, dflt := default, T := λ _ => ⟨[(1, .bptr 1000 0), (2, .bptr 1016 0), (6, .bptr 5000 0)], [(1000, .live (bxG g)), (1016, zRtg), (5000, .live (.box [.own 201 1 0 (fB g.length).length])), (201, .live (rowI (fB g.length)))]⟩, inv := λ _ => AZ g = 0, meas := λ _ => 0 }
def fw11 (g : List Gau) : Shape := { α := One, dflt := default, T := λ _ => ⟨[(1, .bptr 1000 0), (2, .bptr 1016 0), (6, .bptr 5000 0)], fwB g⟩, inv := λ _ => AZ g = 0, meas := λ _ => 0, ffz := [201] }
def fwS (s : FS) (kv : AVal) : List (Nat × AVal) := [(1, .bptr 1000 0), (2, .bptr 1016 0), (6, .bptr 5000 0), (8, .bptr 12000 0), (9, kv), (10, .bptr 14032 0), (11, .int s.fr), (12, .int s.to)]
def fwSA (s : FS) : List (Nat × AVal) := fwS s (.d VG)
def fwSB (s : FS) : List (Nat × AVal) := fwS s (.own 303 1 0 s.k.length)
def fwHA (g : List Gau) (s : FS) : List (Nat × HCell) := fwB g ++ [(12000, zRtg), (14032, lnBx s.ln)]
def fwHB (g : List Gau) (s : FS) : List (Nat × HCell) := fwB g ++ [(12000, .live (.box [.own 301 1 0 s.b.length, .own 302 4 0 s.l.length])), (14032, lnBx s.ln), (301, .live (rowI s.b)), (302, .live (rowL s.l)), (303, .live (X4 s.k))]
def fwA (g : List Gau) : Shape := { α := FS, dflt := default, T := λ s => ⟨fwSA s, fwHA g s⟩, inv := λ s => invF g s /\ s.b = [] /\ s.l = [] /\ s.k = [], meas := λ s => gU (AM g) s, tag := [0] }
def fwBb (g : List Gau) : Shape := { α := FS, dflt := default, T := λ s => ⟨fwSB s, fwHB g s⟩, inv := λ s => invF g s, meas := λ s => gU (AM g) s, tag := [1] }
structure FSK where
 s : FS
 n : Nat
 deriving Inhabited
def AUD (g : List Gau) (m : Nat) (x : FSK) : Prop := invF g x.s /\ gU (AM g) x.s = m /\ x.s.to < g.length /\ x.s.to <= x.n /\ x.n <= g.length /\ In g (AM g) x.s.to = nxK g (AM g) x.s.to (g.length - x.n) x.n
def CFK (g : List Gau) (m : Nat) : Shape := { α := FSK, dflt := default, T := λ x => ⟨fwSA x.s ++ [(13, .int x.n)], fwHA g x.s⟩, inv := λ x => AUD g m x /\ x.s.b = [] /\ x.s.l = [] /\ x.s.k = [], meas := λ x => g.length - x.n }
def CFS (g : List Gau) (m : Nat) : Shape := { α := FSK, dflt := default, T := λ x => ⟨fwSB x.s ++ [(13, .int x.n)], fwHB g x.s⟩, inv := λ x => AUD g m x, meas := λ x => g.length - x.n }
def fw27 (g : List Gau) (m : Nat) : Shape := { α := FS, dflt := default, T := λ s => ⟨[(1, .bptr 1000 0), (2, .bptr 1016 0), (6, .bptr 5000 0), (8, .bptr 12000 0), (9, .own 303 1 0 s.k.length), (10, .bptr 14032 0), (12, .int s.to)], fwHB g s⟩, inv := λ s => invF g s /\ s.fr = s.to /\ gU (AM g) s < m, meas := λ _ => 0, first := [(301, 26176), (302, 26256), (303, 27128)] }
def C_few : Ctr := { α := List Gau, xs := λ g => [.d (DX g)], L := λ _ => [], val := λ g => .tup [.d (eRtg (EK g).r), .d (eLL (EK g).k), .int (EK g).e], keep := λ _ => [], pre := λ g => [g.length < 20 /\ True] }
def BHD (g : List Gau) : Ann := { ann 123 [(mR, C_Check.spec Ch), (BOH, C_ss.spec dGLt), (oU, uP), (ACX, C_pk.spec dGPk), (Vp, C_isKnot.spec dGsK), (AIJ, C_line.spec dGsK), (AFE, C_kd.spec dGK)] with mt := λ id => id == 8 || id == 25 || id == 26 || id == 28, loops := λ id => if id = 6 then some [fw6n g, fw6o g] else if id = 15 then some [fwA g, fwBb g] else none, inner := λ gs id => if id = 17 then (if gs.getD 1 0 = 0 then some [CFK g (gs.getD 0 0)] else some [CFS g (gs.getD 0 0)]) else none, cut := λ id => if id = 10 then some [fw10 g] else if id = 11 then some [fw11 g] else none, cutIn := λ gs id => if id = 27 then some [fw27 g (gs.getD 0 0)] else none }
def CAI (g : List Gau) : Prop := CH Try.prog (BHD g) sC (AI sC) (C_few.xs g) (AD []) (C_few.val g) [] [] [301, 303, 29064]
abbrev Wb:=Rtg.l
abbrev NC:=@List.length (List Int)
abbrev RE:=AM
abbrev So:=@Exists FS
abbrev Es:=FS.fr
abbrev WD:=FS.to
abbrev GU:=FS.ln
abbrev PL:=FS.b
abbrev AUJ:=@Eq (List (List Int))
abbrev xM:=@List.nil (List Int)
abbrev qH:=λ (f : FS -> Prop) => ∀ (x : FS), f x
abbrev sP:=@Exists FSK
abbrev LF:=FSK.s
abbrev KU:=FSK.n
abbrev ALS:=λ (f : FSK -> Prop) => ∀ (x : FSK), f x
abbrev KX:=@gD (List Int) (@instInhabitedList Int)
abbrev Um:=@cond Nat
abbrev YB a:=FR.e (EK a)
abbrev VA a b c (d:Nat->Prop):=AP a b (EP c d)
abbrev LD a b c d:=VA a b (CO c d) (λ i=>HP i c d)
abbrev UV a b c d:=LD a (NC b) (KX b c) d
abbrev ZO a b:=KX (FS.k a) b
abbrev WZ a:=FR.k (EK a)
abbrev QG a:=NC (FS.k a)
abbrev VM a b:=AT (NC a) b
abbrev VQ a b:=MO (FS.l a) b
abbrev Xc a b:=VQ a (CF b)
abbrev II a:=GE (FS.l a)
abbrev Dr a b:=MO (Wb (FR.r (EK a))) b
abbrev Bi a:=GE (Wb (FR.r (EK a)))
abbrev Md a:=Rtg.b (FR.r a)
abbrev Be a:=Md (EK a)
abbrev pJ a:=CX (PL a)
abbrev S5 a b:=BB a (pJ b)
abbrev Jn:=Mw 4
abbrev SZ a b:=gU (RE a) b
abbrev Pp a b c d e:=CJ a b c (SZ d e)
abbrev Af a b c d e f (g:Nat->Prop):=DS a b c d e f (AG g)
abbrev AYY a b:=AT a (pJ b)
abbrev Dt a b c d e f g (h:Nat->Prop):=Af (ZP a) b c (DB (pJ d) e) (AYY f d) (AYY g d) h
abbrev PB a b c d e f g h (p:Nat->Prop):=Dt a (DB (Es b) (WD b)) (IA (WD c) d) e (Es f) (II g) (QG h) p
abbrev NX a b c:=Iw (KF (SZ a b)) c ((@Eq FR) (EK a) (Sp a (RE a) c b))
abbrev Wp a b c:=Ep a AC b c
abbrev lW a b:=Wp a BM b
abbrev fU a b:=lW (CB a) b
abbrev AAP a b c d e f g h:=AQ a b c d e d f g h
abbrev Tf a:=LL (RE a)
abbrev Aa a b c d e f g h p:=fU a (AAP b (GN (RE c)) (Tf d) e f g h p)
abbrev sO a b:=AT a (QG b)
abbrev Wg a b:=sO (QG a) b
abbrev rP a b:=AT a (II b)
abbrev Xz a b:=rP (II a) b
abbrev Gy a b:=S5 (PL a) b
abbrev Am a b:=RU (GU a) b
abbrev Bq a b:=SF (GU a) b
abbrev Ar a b:=SI (GU a) b
abbrev Ac a b:=SK (GU a) b
abbrev XE a b:=EA a (WD b)
abbrev Ya a b:=AT (Es a) (WD b)
abbrev RH a b c d e:=JG a b (EM c d) e
abbrev tE a b c (d:Nat->Nat):=KK a b (λ i=>KT c (d i))
abbrev AFB a b c:=tE (FM a b) c b (λ i=>i)
abbrev JR a:=Es (LF a)
abbrev TM a b:=AFB (KU a) (JR a) (RE b)
abbrev Fs a b:=ZO (LF a) b
abbrev EX a:=QG (LF a)
abbrev GV a:=GU (LF a)
abbrev WT a b:=VQ (LF a) b
abbrev JK a:=II (LF a)
abbrev qS a b c:=sV a (RE b) c
abbrev JJ a:=WD (LF a)
abbrev Zk a b c:=qS a b (JJ c)
abbrev RA a:=PL (LF a)
abbrev Gm a b:=BB a (Cu b)
abbrev Wf a b:=EA a (JJ b)
abbrev RZ:=cH Df 0 1 1
abbrev dS a b c:=Kc (MR a) b c
abbrev Ai a:=FP (RE a)
abbrev ZK a:=BK (KU a)
abbrev tJ a b:=DW a (ZK b)
abbrev Xt a b:=tJ (BK (JR a)) b
abbrev Yg a:=CA (BK (JR a))
abbrev Dn:=BO 1
abbrev rV a b c:=Gu (RE a) b c
abbrev Ws a b c:=rV a (JJ b) c
abbrev aR a b:=AT a (EX b)
abbrev Xn a b:=AT a (JK b)
abbrev Rx a:=QK (RE a)
abbrev AZL a b c d:=GPk.mk (AU a) (Rx b) (BK c) (ZK d)
abbrev BBY a b c:=AU (pkM (AZL a a b c))
abbrev UU a b:=BBY a (JR b) b
abbrev qN a b:=CS (UU a b)
abbrev WM a b:=(@Prod.fst Ln Bool) (qN a b)
abbrev bB a b:=EA a (JR b)
abbrev AOD a b c:=pkM (AZL a a b c)
abbrev Yf a b c:=AOD a (JR b) c
abbrev aX a b c:=CG a (Cv b (AU c))
abbrev Yz a b:=Lz a (Rx b)
abbrev Yj a:=RD (Rx a)
abbrev Wk a b:=UC (ZK a) (Rx b)
abbrev Xr a b:=CE (RE a) (Rx b)
abbrev ADW a b:=CO (RE a) b
abbrev aA a b:=ADW a (Rx b)
abbrev aS a:=AK (ZK a)
abbrev AZT a b c:=jM a a b c
abbrev Ku a b:=AO (YB a) b
abbrev Ae a:=BB a 0
abbrev QT a b:=BBY a (JJ b) b
abbrev aM a b c:=AOD a (JJ b) c
abbrev Ha a:=BK (JJ a)
abbrev Uh a b:=ON a (KU b)
abbrev Fw a b c d:=AT (In a (RE b) (JJ c)) d
abbrev Fy a b c d e f:=nxK a (RE b) (JJ c) (Uh d e) (KU f)
abbrev Gw a b:=IA (KU a) b
abbrev Ho a b:=Ki (JJ a) b
abbrev He a b c d:=AT (SZ a (LF b)) (SZ c d)
abbrev Hb a b c:=NX a (LF b) c
abbrev Hg a b:=IA (JJ a) b
abbrev Gh a b:=DB (JR a) (JJ b)
abbrev bE a b:=S5 (RA a) b
abbrev Xb a b:=RU (GV a) b
abbrev Wd a b:=SF (GV a) b
abbrev Zz a b:=SI (GV a) b
abbrev Ze a b:=SK (GV a) b
abbrev Da a b:=KN (ZK a) (Ai b)
abbrev Wa a b c:=MY (Da a b) c
abbrev Wl a b c:=RW a b (Ai c)
abbrev Gi:=HC 0
abbrev Zj a:=Zh Gi RZ a
abbrev Np:=Zj 8
abbrev fC a:=AUJ (FS.k a) xM
abbrev eA a:=(@Eq (List Ln)) (FS.l a) (@List.nil Ln)
abbrev cR a:=AAR a pM
abbrev lF a:=cR (PL a)
abbrev aT a b:=Ia BM AC a b
abbrev Wi a b:=aT (GN (RE a)) b
abbrev K2 a b c d:=AJ BM a b c d
abbrev Ab a b c d e:=lW a (K2 b c d e)
abbrev nC a:=fC (LF a)
abbrev lS a:=eA (LF a)
abbrev oZ a:=cR (RA a)
abbrev Xh:=hd84 (Pt.mk 0 0)
abbrev Sz a b:=TN a (ZP b)
abbrev YE a:=fB (DM a)
abbrev TS a:=QK (YE a)
abbrev Vr a:=CF (CX a)
abbrev rB a b c:=Ia a b b c
abbrev AOS a b:=rB a b a
attribute [go_sem] Wb NC RE So Es WD GU PL AUJ xM qH sP LF KU ALS KX Um YB VA LD UV ZO WZ QG VM VQ Xc II Dr Bi Md Be pJ S5 Jn SZ Pp Af AYY Dt PB NX Wp lW fU AAP Tf Aa sO Wg rP Xz Gy Am Bq Ar Ac XE Ya RH tE AFB JR TM Fs EX GV WT JK qS JJ Zk RA Gm Wf RZ dS Ai ZK tJ Xt Yg Dn rV Ws aR Xn Rx AZL BBY UU qN WM bB AOD Yf aX Yz Yj Wk Xr ADW aA aS AZT Ku Ae QT aM Ha Uh Fw Fy Gw Ho He Hb Hg Gh bE Xb Wd Zz Ze Da Wa Wl Gi Zj Np fC eA cR lF aT Wi K2 Ab nC lS oZ Xh Sz YE TS Vr rB AOS
theorem CFF (g : List Gau) : (CAI g) = (BC (YN g g (Av g)) (Gt (AU g)) (tF (Ae (Be g)) (AZT (AT (Bi g) 0) (VM (WZ g) 0) (Ku g (Io (AU g))))) (PF (Sz (AY (JS g) BA (AS g) (CB g) AC (AOS BM AC)) g) (NR (λ i=>SC (ZP g) 0 (FQ g) Np (SA (λ j=>CJ (MV (JS g) (BJ j 0) g (fU g (YV BM (HC j) (λ k=>AP k j (EA k 0))))) (Om (ZP g) j (IA j g)) (ON g j) (NS g))) WQ)) (AG (λ i=>SC (Om (ZP g) i (IA i g)) i (FQ g) (VC i 1 RZ 8) (SA (λ j=>CJ (MV (JS g) (BJ j i) g (fU g (YV BM (IM j i) (λ k=>AP k j (ED k (JG k i (BK k) (BK i))))))) (Om (ZP g) j (IA j g)) (ON g j) (ON g i))) (Sz (Jz g (fU g (YV BM (BB (YE g) i) (λ j=>MF j (YE g) (BK j))))) g))) (NR (λ i=>QF (ZP g) (PF AC (CO (TS g) (YE g)) (KJ (CO (TS g) (YE g)) (CE (TS g) (YE g)) (BR g) (BW g) (TT g) (UE g) (JC (TS g) 20) (RD (TS g)) (λ j=>ZU j (TS g) (TS g) j (AU g))) (Sz (AAP (AS g) (CB g) AC BM AC (ADW g (YE g)) (EL (Vr (YE g)) (TS g)) (AG (λ j=>SJ j (RE g) j (stM (Sg (AU g)) (TS g)) (CF j)))) g)) (YO (ZP g) (AH (Oi (CA 2000)) (So (λ j=>AJ (BI AC BM (CN (Es j)) (CN (WD j)) (AS g) (CB g) AC (Wi g (Ab (Tf g) (Ac j Xh) (Ar j Xh) (Bq j Xh) (Am j Xh)))) (PB g j j g j j j j (λ k=>NX g j k)) (lF j) (eA j) (fC j))) (qH (λ j=>SC (AH (PB g j j g j j j j (λ k=>NX g j k)) (lF j) (eA j) (fC j)) (WD j) (Ai g) (sP (λ k=>AJ (Uv AC BM (EA (JR k) (Es j)) (XE (JJ k) j) (XE (KU k) j) (AS g) (CB g) (Wi g (Ab (Tf g) (Ze k (GU j)) (Zz k (GU j)) (Wd k (GU j)) (Xb k (GU j))))) (QA (Dt g (Gh k k) (Hg k g) (LF k) (JR k) (JK k) (EX k) (λ l=>Hb g k l)) (He g k g j) (Ho k g) (JJ k) (KU k) (Gw k g) (Fw g g k (Fy g g k g k k))) (oZ k) (lS k) (nC k))) (ALS (λ k=>YR (AH (QA (Dt g (Gh k k) (Hg k g) (LF k) (JR k) (JK k) (EX k) (λ l=>Hb g k l)) (He g k g j) (Ho k g) (JJ k) (KU k) (Gw k g) (Fw g g k (Fy g g k g k k))) (oZ k) (lS k) (nC k)) (AH (Wl (Da k g) (ZK k) g) (Wa k g (rV g (KU k) g)) (Wl (Da k g) (Ha k) g) (Wa k g (Ws g k g))) (HG (Da k g) (TU (qS g g (KU k)) (Zk g g k))) (sP (λ l=>FU (Uv AC BM (bB (JR l) k) (Wf (JJ l) k) (JE (KU l) (ZK k)) (AS g) (CB g) (Wi g (Ab (Tf g) (Ze l (GV k)) (Zz l (GV k)) (Wd l (GV k)) (Xb l (GV k))))) (QA (Dt g (Gh l l) (Hg l g) (LF l) (JR l) (JK l) (EX l) (λ m=>Hb g l m)) (He g l g j) (Ho l g) (JJ l) (KU l) (Gw l g) (Fw g g l (Fy g g l g l l))) (oZ l) (lS l) (nC l) (Uh g l) (Uh g k))) (BC (JV (FI (JJ k)) (aS k) (Rx g) (RE g) (BR g) (BW g) (AQ (aA g g) (Xr g g) (TT g) (UE g) (IR (CA (Ha k)) (tJ (Ha k) k) (Wk k g) (Yj g) (AR (λ l=>aX (Yz l g) l g))) (AW (QT g k) (aM g k k)) (BE (QT g k) (aM g k k)) (MR (QT g k)) (MD (QT g k)))) (Kz (QT g k)) (tF (Ae (Be g)) (AZT (AT (Bi g) 0) (VM (WZ g) 0) (Ku g 6))) (BC (JV (FI (JR k)) (aS k) (Rx g) (RE g) (BR g) (BW g) (AQ (aA g g) (Xr g g) (TT g) (UE g) (IR (Yg k) (Xt k k) (Wk k g) (Yj g) (AR (λ l=>aX (Yz l g) l g))) (AW (UU g k) (Yf g k k)) (BE (UU g k) (Yf g k k)) (MR (UU g k)) (MD (UU g k)))) (iA (qN g k)) (So (λ l=>FU (BI AC BM (bB (Es l) k) (ED (WD l) (ZK k)) (AS g) (CB g) AC (Wi g (Ab (Tf g) (Ac l (WM g k)) (Ar l (WM g k)) (Bq l (WM g k)) (Am l (WM g k))))) (PB g l l g l l l l (λ m=>NX g l m)) (lF l) (eA l) (fC l) (SZ g l) (SZ g j))) (AE (AH (GA (JJ k) (Ai g)) (Ws g k g) Np (Gn 4 Jn 32)) (PF (AE (Yg k) (Xt k k) (DW (ZK k) (Ai g))) (BR g) (AQ (BW g) (BB (TM k g) (FM (KU k) (JR k))) (AG (λ l=>SJ l (TM k g) l (RE g) (KT (JR k) l))) (And (dS (AU g) (CX (TM k g)) 1073741824) (Aq g)) (SE Gi) RZ Dk (QW 9223372036854775807) (NY 24)) (So (λ l=>AH (AJ AC (HC (QG l)) (Wf (WD l) k) (AS g) (Aa g BM g g AC (Ak (PL l)) (HC (II l)) (Ac l (GV k)) (DD (Ar l (GV k)) (Bq l (GV k)) (Am l (GV k)) (Ak (PL l)) (AG (λ m=>MF m (PL l) (Zk g g k))) (HC (II l)) (λ m=>IZ m (II l) (VQ l m) (GV k)) (HC (QG l)) (λ m=>LD m (QG l) (ZO l m) (Hk (Iq (AU g) (TM k g))))))) (PB g l l g l l l l (λ m=>NX g l m)) (Ya l l) (CM (SZ g l) (SZ g j))))) (qH (λ l=>CG (Pp (PB g l l g l l l l (λ m=>NX g l m)) (Ya l l) (SZ g l) g j) (So (λ m=>Pp (AY AC (Wg m l) (XE (Es m) l) (XE (WD m) l) (AS g) (Aa g BM g g AC (Gy m l) (Xz m l) (Ac m (GU l)) (DD (Ar m (GU l)) (Bq m (GU l)) (Am m (GU l)) (Gy m l) (CE (PL m) (PL l)) (Xz m l) (λ n=>IZ n (II m) (VQ m n) (VQ l n)) (Wg m l) (λ n=>LD n (QG m) (ZO m n) (ZO l n))))) (PB g m m g m m m m (λ n=>NX g m n)) (SZ g m) g j))))))))) (Ka (Gn 4 Jn 32) (Ae (Be g)) (HC (Bi g)) (jM Df (AG (λ k=>IZ k (Bi g) (Dr g k) (GU j))) (VM (WZ g) 0) (CD (YB g)))))) (qH (λ j=>SC (PB g j j g j j j j (λ k=>NX g j k)) (WD j) (Ai g) (sP (λ k=>DS (DS AC (sO (EX k) j) (EA (JR k) (Es j)) (XE (JJ k) j) (XE (KU k) j) (AS g) (Aa g BM g g AC (bE k j) (rP (JK k) j) (Ze k (GU j)) (DD (Zz k (GU j)) (Wd k (GU j)) (Xb k (GU j)) (bE k j) (CE (RA k) (PL j)) (rP (JK k) j) (λ l=>IZ l (JK k) (WT k l) (VQ j l)) (sO (EX k) j) (λ l=>LD l (EX k) (Fs k l) (ZO j l))))) (Dt g (Gh k k) (Hg k g) (LF k) (JR k) (JK k) (EX k) (λ l=>Hb g k l)) (He g k g j) (Ho k g) (DB (JJ k) (KU k)) (Gw k g) (Fw g g k (Fy g g k g k k)))) (ALS (λ k=>YR (QA (Dt g (Gh k k) (Hg k g) (LF k) (JR k) (JK k) (EX k) (λ l=>Hb g k l)) (He g k g j) (Ho k g) (JJ k) (KU k) (Gw k g) (Fw g g k (Fy g g k g k k))) (AH (Wl (Da k g) (ZK k) g) (Wa k g (rV g (KU k) g)) (Wl (Da k g) (Ha k) g) (Wa k g (Ws g k g))) (HG (Da k g) (TU (qS g g (KU k)) (Zk g g k))) (sP (λ l=>CJ (DS AC (aR (EX l) k) (bB (JR l) k) (Wf (JJ l) k) (JE (KU l) (ZK k)) (AS g) (Aa g BM g g AC (bE l (LF k)) (Xn (JK l) k) (Ze l (GV k)) (DD (Zz l (GV k)) (Wd l (GV k)) (Xb l (GV k)) (bE l (LF k)) (CE (RA l) (RA k)) (Xn (JK l) k) (λ m=>IZ m (JK l) (WT l m) (WT k m)) (aR (EX l) k) (λ m=>LD m (EX l) (Fs l m) (Fs k m))))) (QA (Dt g (Gh l l) (Hg l g) (LF l) (JR l) (JK l) (EX l) (λ m=>Hb g l m)) (He g l g j) (Ho l g) (JJ l) (KU l) (Gw l g) (Fw g g l (Fy g g l g l l))) (Uh g l) (Uh g k))) (BC (JV (FI (JJ k)) (aS k) (Rx g) (RE g) (BR g) (BW g) (AQ (aA g g) (Xr g g) (TT g) (UE g) (IR (CA (Ha k)) (tJ (Ha k) k) (Wk k g) (Yj g) (AR (λ l=>aX (Yz l g) l g))) (AW (QT g k) (aM g k k)) (BE (QT g k) (aM g k k)) (MR (QT g k)) (MD (QT g k)))) (Kz (QT g k)) (tF (Ae (Be g)) (AZT (AT (Bi g) 0) (VM (WZ g) 0) (Ku g 6))) (BC (JV (FI (JR k)) (aS k) (Rx g) (RE g) (BR g) (BW g) (AQ (aA g g) (Xr g g) (TT g) (UE g) (IR (Yg k) (Xt k k) (Wk k g) (Yj g) (AR (λ l=>aX (Yz l g) l g))) (AW (UU g k) (Yf g k k)) (BE (UU g k) (Yf g k k)) (MR (UU g k)) (MD (UU g k)))) (iA (qN g k)) (So (λ l=>Pp (AY AC (aR (QG l) k) (bB (Es l) k) (ED (WD l) (ZK k)) (AS g) (Aa g BM g g AC (Gy l (LF k)) (Xn (II l) k) (Ac l (WM g k)) (DD (Ar l (WM g k)) (Bq l (WM g k)) (Am l (WM g k)) (Gy l (LF k)) (CE (PL l) (RA k)) (Xn (II l) k) (λ m=>IZ m (II l) (VQ l m) (WT k m)) (aR (QG l) k) (λ m=>LD m (QG l) (ZO l m) (Fs k m))))) (PB g l l g l l l l (λ m=>NX g l m)) (SZ g l) g j)) (AE (AH (GA (JJ k) (Ai g)) (Ws g k g) (YY (And (BO (pJ (LF k))) (CZ 0 (RA k) Dn)) RZ (Cu (RA k)) 8) (VC (JK k) 4 Jn 32)) (PF (AE (Yg k) (Xt k k) (DW (ZK k) (Ai g))) (BR g) (AQ (BW g) (BB (TM k g) (FM (KU k) (JR k))) (AG (λ l=>SJ l (TM k g) l (RE g) (KT (JR k) l))) (And (dS (AU g) (CX (TM k g)) 1073741824) (Aq g)) (Yl (EX k) 1) RZ Dl (DB (KF (EX k)) 9223372036854775807) (NY (Ej (KF (EX k)) 24))) (So (λ l=>AH (AJ AC (IM (QG l) (EX k)) (Wf (WD l) k) (AS g) (Aa g BM g g AC (Gm (PL l) (RA k)) (IM (II l) (JK k)) (Ac l (GV k)) (DD (Ar l (GV k)) (Bq l (GV k)) (Am l (GV k)) (Gm (PL l) (RA k)) (AG (λ m=>MF m (PL l) (RH m (pJ (LF k)) (RA k) m (Zk g g k)))) (IM (II l) (JK k)) (λ m=>NT m (II l) (TW (VQ l m) (JG m (JK k) (KZ (WT k m)) (KZ (GV k)))) (UF (VQ l m) (JG m (JK k) (KR (WT k m)) (KR (GV k)))) (An (VQ l m) (JG m (JK k) (LU (WT k m)) (LU (GV k)))) (QY (VQ l m) (JG m (JK k) (MC (WT k m)) (MC (GV k))))) (IM (QG l) (EX k)) (λ m=>VA m (QG l) (BB (ZO l m) (Um (Ll m (EX k)) (CX (Fs k m)) (CX (Hk (Iq (AU g) (TM k g)))))) (λ n=>MF n (ZO l m) (RH m (EX k) (Fs k m) n (EM (Hk (Iq (AU g) (TM k g))) n))))))) (PB g l l g l l l l (λ m=>NX g l m)) (Ya l l) (CM (SZ g l) (SZ g j))))) (qH (λ l=>CG (Pp (PB g l l g l l l l (λ m=>NX g l m)) (Ya l l) (SZ g l) g j) (So (λ m=>Pp (AY AC (Wg m l) (XE (Es m) l) (XE (WD m) l) (AS g) (Aa g BM g g AC (Gy m l) (Xz m l) (Ac m (GU l)) (DD (Ar m (GU l)) (Bq m (GU l)) (Am m (GU l)) (Gy m l) (CE (PL m) (PL l)) (Xz m l) (λ n=>IZ n (II m) (VQ m n) (VQ l n)) (Wg m l) (λ n=>LD n (QG m) (ZO m n) (ZO l n))))) (PB g m m g m m m m (λ n=>NX g m n)) (SZ g m) g j))))))))) (AE (VC (II j) 4 Jn 32) (S5 (Be g) j) (AQ (Ts (pJ j)) (AG (λ k=>SJ k (Be g) k (PL j) (CF k))) (IM (Bi g) (II j)) (Ts (KF (II j))) (AG (λ k=>NT k (Bi g) (TW (Dr g k) (JG (CF k) (II j) (KZ (Xc j k)) (KZ (GU j)))) (UF (Dr g k) (JG (CF k) (II j) (KR (Xc j k)) (KR (GU j)))) (An (Dr g k) (JG (CF k) (II j) (LU (Xc j k)) (LU (GU j)))) (QY (Dr g k) (JG (CF k) (II j) (MC (Xc j k)) (MC (GU j)))))) (VM (WZ g) (QG j)) (Ts (QG j)) (AG (λ k=>UV k (WZ g) k (ZO j (CF k)))) (CD (YB g)))))))))))) := by kernel_rfl
theorem OE (n : Nat) : (fB n).length = n := by simp [fB]
theorem AHB {n i : Nat} (h : i < n) : gD (fB n) i = i := by simp [fB, gD, List.getD_eq_getElem?_getD, h]
theorem AQN (g : List Gau) : (AM g).Perm (fB g.length) := ABD _ _
theorem AN (g : List Gau) : (AM g).length = g.length := by rw [(AQN g).length_eq, OE]
theorem Rq {g : List Gau} {x : Int} (h : x ∈ AM g) : 0 <= x /\ x < g.length := by
 have := (AQN g).mem_iff.1 h
 unfold fB at this
 obtain ⟨i, hi, rfl⟩ := List.mem_map.1 this
 have := List.mem_range.1 hi
 exact ⟨Int.natCast_nonneg _, Int.ofNat_lt.2 this⟩
theorem YD {g : List Gau} {i : Nat} (h : i < g.length) : 0 <= gD (AM g) i /\ gD (AM g) i < g.length := Rq (DU (by rw [AN]; exact h))
theorem AKJ {l : List Int} {a b : Nat} (h : b <= l.length) : (OC (b - a) λ i => gD l (a + i)) = (l.take b).drop a := by
 apply BEX
 ·rw [rng_length, List.length_drop, List.length_take]; omega
 ·intro i hi
  rw [rng_length] at hi
  rw [Rp _ _ _ hi, Fh]
  simp [gD, List.getD_eq_getElem?_getD, List.getElem?_take, show a + i < b by omega]
theorem AJM {g : List Gau} (hc : AZ g = 0) (a b : Int) : (pkM ⟨g, AM g, a, b⟩).length < 1073741824 /\ ∀ x ∈ pkM ⟨g, AM g, a, b⟩, XH x := by
 obtain ⟨⟨h1, h2⟩, h3⟩ := MP hc
 refine ⟨?_, λ x hx => ?_⟩
 ·unfold pkM Jb; rw [List.length_map, List.length_drop, List.length_take, AN]; omega
 ·unfold pkM at hx
  obtain ⟨i, hi, rfl⟩ := List.mem_map.1 hx
  have := Rq (BHR hi)
  exact h3 _ (DU (by omega))
theorem BOK {g : List Gau} {o : List Int} {t : Nat} : ∀ (n k : Nat), k <= nxK g o t n k /\ nxK g o t n k <= k + n
 | 0, k => ⟨Nat.le_refl _, Nat.le_refl _⟩
 | n + 1, k => by
  unfold nxK
  cases MI g (gD o k) == MI g (gD o t)
  ·exact ⟨Nat.le_refl _, by show k <= _; omega⟩
  ·have := BOK (g := g) (o := o) (t := t) n (k + 1); show k <= nxK g o t n (k + 1) /\ nxK g o t n (k + 1) <= _; omega
theorem ABG {g : List Gau} {t : Nat} (h : t < g.length) : t < In g (AM g) t /\ In g (AM g) t <= g.length := by
 unfold In
 rw [AN]
 obtain ⟨n, hn⟩ : ∃ n, g.length - t = n + 1 := ⟨g.length - t - 1, by omega⟩
 rw [hn]; unfold nxK
 rw [show (MI g (gD (AM g) t) == MI g (gD (AM g) t)) = true by simp]
 have := BOK (g := g) (o := AM g) (t := t) n (t + 1)
 show t < nxK g (AM g) t n (t + 1) /\ nxK g (AM g) t n (t + 1) <= _
 omega
theorem iZ {g : List Gau} : ∀ (m n : Nat) (s : FS), s.fr <= s.to -> s.to <= g.length -> gU (AM g) s + 1 <= m -> gU (AM g) s + 1 <= n -> Sp g (AM g) m s = Sp g (AM g) n s
 | 0, _, _, _, _, h, _ => by omega
 | m + 1, 0, _, _, _, _, h => by omega
 | m + 1, n + 1, s, h0, h1, h2, h3 => by
  unfold Sp
  by_cases hl : s.to < (AM g).length
  ·rw [decide_eq_true hl]
   rw [AN] at hl
   have hx := ABG hl
   unfold gU at h2 h3
   rw [AN] at h2 h3
   cases hq : (CS (sS g (AM g) s.to (In g (AM g) s.to))).2
   ·rfl
   ·cases hr : (CS (sS g (AM g) s.fr (In g (AM g) s.to))).2
    ·have hne : s.fr ≠ s.to := λ he => by rw [he, hq] at hr; cases hr
     rw [if_pos (by omega)] at h2 h3
     refine iZ m n (cX g (AM g) s) (Nat.le_refl _) h1 ?_ ?_ <;> (unfold gU cX; rw [AN]; simp only [Nat.lt_irrefl, if_false]; omega)
    ·refine iZ m n (goF g (AM g) s) (by show s.fr <= In _ _ _; omega) hx.2 ?_ ?_ <;> (unfold gU goF; rw [AN]; simp only []; split at h2 <;> split <;> omega)
  ·rw [decide_eq_false hl]; rfl
theorem BDC (g : List Gau) (o : List Int) (n : Nat) (s : FS) : Sp g o (n + 1) s = bif decide (s.to < o.length) then (bif (CS (sS g o s.to (In g o s.to))).2 then (bif (CS (sS g o s.fr (In g o s.to))).2 then Sp g o n (goF g o s) else Sp g o n (cX g o s)) else ⟨⟨[], []⟩, [], 6⟩) else ⟨⟨s.b, s.l ++ [s.ln]⟩, s.k, 0⟩ := rfl
theorem BGU {g : List Gau} {s : FS} (h : invF g s) (ht : ¬s.to < g.length) : EK g = ⟨⟨s.b, s.l ++ [s.ln]⟩, s.k, 0⟩ := by
 rw [h.2.2.2.2.2.2 _ (Nat.le_refl _)]; unfold Sp; rw [decide_eq_false (by rw [AN]; exact ht)]; rfl
theorem BIA {g : List Gau} {s : FS} (h : invF g s) (ht : s.to < g.length) (hq : (CS (sS g (AM g) s.to (In g (AM g) s.to))).2 = false) : EK g = ⟨⟨[], []⟩, [], 6⟩ := by
 rw [h.2.2.2.2.2.2 _ (Nat.le_refl _)]; unfold Sp; rw [decide_eq_true (by rw [AN]; exact ht), hq]; rfl
theorem F_go {g : List Gau} {s : FS} (h : invF g s) (ht : s.to < g.length) (hq : (CS (sS g (AM g) s.to (In g (AM g) s.to))).2 = true) (hr : (CS (sS g (AM g) s.fr (In g (AM g) s.to))).2 = true) : invF g (goF g (AM g) s) /\ gU (AM g) (goF g (AM g) s) < gU (AM g) s := by
 obtain ⟨h1, h2, h3, h4, h5, h6, h7⟩ := h
 have hx := ABG ht
 have hm : gU (AM g) (goF g (AM g) s) < gU (AM g) s := by unfold gU goF; rw [AN]; simp only []; split <;> split <;> omega
 refine ⟨⟨h1, by show s.fr <= In _ _ _; omega, hx.2, h4, h5, h6, λ m hm2 => ?_⟩, hm⟩
 rw [h7 (gU (AM g) s + 1) (Nat.le_refl _), BDC, decide_eq_true (by rw [AN]; exact ht), hq, hr]
 exact iZ (gU (AM g) s) m (goF g (AM g) s) (by show s.fr <= In _ _ _; omega) hx.2 hm hm2
theorem BGN {g : List Gau} {s : FS} (h : invF g s) (ht : s.to < g.length) (hq : (CS (sS g (AM g) s.to (In g (AM g) s.to))).2 = true) (hr : (CS (sS g (AM g) s.fr (In g (AM g) s.to))).2 = false) : invF g (cX g (AM g) s) /\ gU (AM g) (cX g (AM g) s) < gU (AM g) s := by
 obtain ⟨h1, h2, h3, h4, h5, h6, h7⟩ := h
 have hx := ABG ht
 have hne : s.fr ≠ s.to := λ he => by rw [he, hq] at hr; cases hr
 have hm : gU (AM g) (cX g (AM g) s) < gU (AM g) s := by unfold gU cX; rw [AN]; simp only [Nat.lt_irrefl, if_false]; rw [if_pos (by omega)]; omega
 refine ⟨⟨h1, Nat.le_refl _, h3, by show (s.b ++ [_]).length <= s.to; simp; omega, by show (s.l ++ [_]).length = (s.b ++ [_]).length; simp; omega, by show (s.k ++ [_]).length = (s.b ++ [_]).length; simp; omega, λ m hm2 => ?_⟩, hm⟩
 rw [h7 (gU (AM g) s + 1) (Nat.le_refl _), BDC, decide_eq_true (by rw [AN]; exact ht), hq, hr]
 exact iZ (gU (AM g) s) m (cX g (AM g) s) (Nat.le_refl _) h3 hm hm2
theorem AKL {g : List Gau} {t n : Nat} (hn : n < g.length) (h : MI g (gD (AM g) n) = MI g (gD (AM g) t)) : nxK g (AM g) t (g.length - n) n = nxK g (AM g) t (g.length - (n + 1)) (n + 1) := by
 obtain ⟨m, hm⟩ : ∃ m, g.length - n = m + 1 := ⟨g.length - n - 1, by omega⟩
 rw [hm, show g.length - (n + 1) = m by omega]
 conv => lhs; unfold nxK
 rw [show (MI g (gD (AM g) n) == MI g (gD (AM g) t)) = true by rw [h]; simp]; rfl
theorem AKT {g : List Gau} {t n : Nat} (hn : n <= g.length) (h : (bif decide (n < g.length) then MI g (gD (AM g) n) == MI g (gD (AM g) t) else false) = false) : nxK g (AM g) t (g.length - n) n = n := by
 by_cases hl : n < g.length
 ·rw [decide_eq_true hl] at h
  have h : (MI g (gD (AM g) n) == MI g (gD (AM g) t)) = false := h
  obtain ⟨m, hm⟩ : ∃ m, g.length - n = m + 1 := ⟨g.length - n - 1, by omega⟩
  rw [hm]; unfold nxK; rw [h]; rfl
 ·rw [show g.length - n = 0 by omega]; rfl
theorem BHH {g : List Gau} {t n : Nat} (h : (bif decide (n < g.length) then MI g (gD (AM g) n) == MI g (gD (AM g) t) else false) = true) : n < g.length /\ MI g (gD (AM g) n) = MI g (gD (AM g) t) := by
 cases hd : decide (n < g.length) with
 | false => rw [hd] at h; cases h
 | true => rw [hd] at h; exact ⟨of_decide_eq_true hd, by simpa using h⟩
theorem BBT (l : List Int) (p : Int) (i : Nat) (hi : i < (l ++ [p]).length) : gD (l ++ [p]) i = bif decide (i < l.length) then gD l i else p := bV _ _ (by simpa using hi)
theorem CFW (g : List Gau) (hg : g.length < 20) : CAI g := by
 rw [CFF]<;> delta KY hd5 Dc GH HK FK KZ KR LU MC KN Tu PN FA AO AT CX AG CG CM EM BK DB DW DT QP PD RO FM PQ YC WQ TU hd84 DM GP SA EF XV XJ Io GF KT WH NR pM Ie Ej Ll iA AR GE MO Lz Iq Sg AAR Wb NC RE So Es WD GU PL AUJ xM qH sP LF KU ALS KX Um KK AE KC FQ AJ AP DR AU AK BO JQ Ia bR tF Ep rB jM AOS AZT Ka QS DK AX AQ AH BH CY BN CL CZ CA KF DP FT GI AC BB ED IG QK HI AAP Uv CQ EP DF FP MX CF JJ Rx FC NT II DG EN AW JR ZK Cu AY ZJ Ma Et QG LW CJ DE DN AS EO pJ EA VQ DS DY GN CD ON SZ MY VA LI GV Kc AYY JM EU FE DV HP Ir BM FG CE MK CO AZL KJ IA JN UQ QF ZP JG JE HG tE IF IE MN cH Fc ZO JK Cv BBY FB HD LL BE CB An Iw IK EX BA BC LO BI MS BW AFB QY DD UF JC EZ NY LA Ai WT Df RW TW SI RU SF BJ SK BR MU Ki IM JS RA Bv Wp QW Af DH HC YE Gr TN FI EL NS WZ lW UU LD Gu MR CN KO GA UX UY ZT Tf SE NX RD FW S5 Dl MD YB FU Yu fU Uh Dk qN Dr VM Md Eh Dt QT MF Da RZ TS aD UC YP IR Ti TM Mw XE WM AOD Be Kz YY RH MV PF Gi Ac aT Bq YO QA cR sV UE TT IZ PB Zh Am Bi Ha Xf Gy Fs Gw Ar Ho tJ sO Gh rP Oi qS Hb dS eA fC Ae UB Ub SJ Yl UV JV Hg Hw rV YV Jn Aq SC ADW K2 Ak Ab He Gm Yj Yg aS VC Fw Av Dn Fy ZU Om aA Xz Wg Xt Wi bE Sz Ze Zj Gn Xr Wd Xc bB aR Gt Wk Xb Wf Xn Np Aa YR Pp Xh Zz Yz Ws Yf Wl Wa aX Ku Ya YN Zk Jz nC oZ Ts aM lS lF Vr; simp only [CC, eq_self, implies_true, forall_const, Int.ofNat_lt]
 have zz : ∀ n, EK g = ⟨⟨[], []⟩, [], n⟩ -> (EK g).r.b.length = 0 /\ (EK g).r.b.length = 0 /\ (EK g).r.l.length = 0 /\ (EK g).r.l.length = 0 /\ (EK g).k.length = 0 /\ (EK g).k.length = 0 /\ (EK g).e = n := λ n h => by rw [h]; exact ⟨rfl, rfl, rfl, rfl, rfl, rfl, rfl⟩
 refine ⟨by omega, λ he => ?_, λ he => ?_⟩
 ·refine zz _ ?_
  unfold EK; rw [show (AZ g == 0) = false by simpa using he]; rfl
 ·have hc : AZ g = 0 := by simpa using he
  have hck := MP hc
  refine ⟨⟨⟨default, hc⟩, λ _ => ⟨λ h0 => ⟨⟨by omega, by omega, by omega, by omega, by omega⟩, 1, ⟨(EQ (a := 0) (by omega)).symm, rfl, rfl, λ i hi => by rw [show i = 0 by omega]⟩, ⟨hc, by omega, by omega⟩, by omega⟩, λ h0 => by omega⟩, λ k ⟨_, k1, k2⟩ => ⟨λ hlt => ⟨⟨by omega, λ h => (by cases h), by omega, by omega⟩, k + 1, ⟨(EQ (by omega)).symm, rfl, rfl, λ i hi => ?_⟩, ⟨hc, by omega, by omega⟩, by omega⟩, λ hge => ⟨default, ⟨?_, ?_, λ i hi => ?_⟩, hc⟩⟩⟩, λ _ => ⟨⟨⟨by rw [OE]; exact hg, by rw [OE]; omega, λ i hi => ?_⟩, default, ⟨?_, Nat.le_refl _, λ _ _ => rfl⟩, hc⟩, λ _ => ⟨⟨by omega, by omega⟩, ⟨ini0, ⟨rfl, rfl, rfl, rfl, rfl, rfl⟩, ⟨hc, Nat.le_refl _, Nat.zero_le _, Nat.le_refl _, rfl, rfl, λ m hm => ?_⟩, rfl, rfl, rfl⟩, λ s hs => ?_, λ s hs => ?_⟩⟩⟩
  ·by_cases h : i < k
   ·rw [decide_eq_true h]; rfl
   ·rw [decide_eq_false h, show i = k by omega]; rfl
  ·rw [OE]; omega
  ·rw [OE]; omega
  ·rw [OE] at hi; exact AHB hi
  ·rw [OE] at hi; rw [AHB hi]; omega
  ·rw [AN, OE]
  ·unfold EK; rw [show (AZ g == 0) = true by rw [hc]; rfl]
   exact iZ _ _ _ (Nat.le_refl _) (Nat.zero_le _) (by unfold gU ini0; rw [AN]; simp) hm
  ·obtain ⟨hI, hb, hl, hk⟩ : invF g s /\ s.b = [] /\ s.l = [] /\ s.k = [] := hs
   refine ⟨λ ht => ?_, λ ht => ?_⟩
   ·have ht : s.to < g.length := by rw [AN] at ht; exact ht
    refine ⟨⟨⟨s, s.to⟩, ⟨rfl, rfl, rfl, rfl, rfl, rfl, rfl⟩, ⟨hI, rfl, ht, Nat.le_refl _, Nat.le_of_lt ht, ?_⟩, hb, hl, hk⟩, λ x hx => ?_⟩
    ·unfold In; rw [AN]
    ·obtain ⟨⟨xI, x1, x2, x3, x4, x5⟩, xb, xl, xk⟩ : AUD g (gU (AM g) s) x /\ x.s.b = [] /\ x.s.l = [] /\ x.s.k = [] := hx
     refine ⟨⟨λ h => ⟨by omega, by omega⟩, λ h => YD (by rw [AN] at h; exact h), λ h => ⟨by omega, by rw [AN]; omega⟩, λ _ => YD x2⟩, λ hq => ?_, λ hq => ?_⟩
     ·rw [AN] at hq
      obtain ⟨q1, q2⟩ := BHH hq
      exact ⟨⟨x.s, x.n + 1⟩, ⟨rfl, rfl, (EQ (by omega)).symm, rfl, rfl, rfl, rfl⟩, ⟨⟨xI, x1, x2, by show x.s.to <= x.n + 1; omega, q1, x5.trans (AKL q1 q2)⟩, xb, xl, xk⟩, by show g.length - (x.n + 1) < _; omega⟩
     ·rw [AN] at hq
      have hn : In g (AM g) x.s.to = x.n := x5.trans (AKT x4 hq)
      have e1 : pkM ⟨g, AM g, x.s.to, x.n⟩ = sS g (AM g) x.s.to (In g (AM g) x.s.to) := by rw [hn]; rfl
      have e2 : pkM ⟨g, AM g, x.s.fr, x.n⟩ = sS g (AM g) x.s.fr (In g (AM g) x.s.to) := by rw [hn]; rfl
      have hfr : x.s.fr <= x.s.to := xI.2.1
      have hbl : x.s.b.length <= x.s.fr := xI.2.2.2.1
      have hll : x.s.l.length = x.s.b.length := xI.2.2.2.2.1
      have hkl : x.s.k.length = x.s.b.length := xI.2.2.2.2.2.1
      refine ⟨⟨⟨⟨by omega, by omega, by rw [AN]; omega, by rw [AN]; omega⟩, λ _ h => Rq h⟩, AJM hc _ _⟩, λ hb1 => zz _ (BIA xI x2 (by rw [<- e1]; exact hb1)), λ hb1 => ⟨⟨⟨⟨by omega, by omega, by rw [AN]; omega, by rw [AN]; omega⟩, λ _ h => Rq h⟩, AJM hc _ _⟩, λ hb2 => ?_, λ hb2 => ?_⟩⟩
      ·obtain ⟨f1, f2⟩ := F_go xI x2 (by rw [<- e1]; exact hb1) (by rw [<- e2]; exact hb2)
       exact ⟨goF g (AM g) x.s, ⟨rfl, by show ((In g (AM g) x.s.to : Nat) : Int) = x.n; rw [hn], by rw [e2]; rfl, by rw [e2]; rfl, by rw [e2]; rfl, by rw [e2]; rfl⟩, ⟨f1, xb, xl, xk⟩, by rw [<- x1]; exact f2⟩
      ·obtain ⟨f1, f2⟩ := BGN xI x2 (by rw [<- e1]; exact hb1) (by rw [<- e2]; exact hb2)
       have eB : cX g (AM g) x.s = ⟨x.s.to, x.s.to, x.s.ln, [MI g (gD (AM g) x.s.to)], [x.s.ln], [Hk ⟨g, ((AM g).take x.n).drop x.s.fr⟩]⟩ := by unfold cX; rw [xb, xl, xk, hn]; rfl
       rw [eB] at f1 f2
       rw [AKJ (by rw [AN]; exact x4)]
       refine ⟨⟨⟨by omega, by rw [AN]; omega⟩, YD x2, ⟨by omega, by omega, by omega, by omega, by omega⟩, by omega, by omega, by omega, by omega, by omega⟩, ⟨⟨⟨by omega, by omega, by rw [AN]; omega⟩, λ i hi => ?_, ⟨⟨by omega, by omega⟩, hck.2⟩, by omega, by omega, by omega, by omega, by omega⟩, ⟨x.s.to, x.s.to, x.s.ln, [MI g (gD (AM g) x.s.to)], [x.s.ln], [Hk ⟨g, ((AM g).take x.n).drop x.s.fr⟩]⟩, ⟨rfl, rfl, rfl, rfl, rfl, rfl, rfl, rfl, rfl, λ i hi => (by rw [show i = 0 by have h1 : i < 1 := hi; omega]; rfl), rfl, oneL _, rfl, λ i hi => (by rw [show i = 0 by have h1 : i < 1 := hi; omega]; exact ⟨rfl, λ _ _ => rfl⟩)⟩, f1, rfl, by rw [<- x1]; exact f2⟩, λ y ⟨y1, y2, y3⟩ => ⟨y, ⟨rfl, by rw [y2], rfl, rfl, rfl, rfl, rfl, rfl, rfl, rfl, λ _ _ => rfl, rfl, λ _ _ => ⟨rfl, rfl, rfl, rfl⟩, rfl, λ _ _ => ⟨rfl, λ _ _ => rfl⟩⟩, y1, y3⟩⟩
       rw [Fh]; simp [gD, List.getD_eq_getElem?_getD, List.getElem?_take, show x.s.fr + i < x.n by omega]
   ·rw [AN] at ht
    rw [BGU hI ht, hb, hl, hk]
    exact ⟨⟨by omega, by omega, by omega, by omega, by omega⟩, rfl, rfl, rfl, by omega, oneL _, rfl, rfl, rfl⟩
  ·have hI : invF g s := hs
   have hbl : s.b.length <= s.fr := hI.2.2.2.1
   have hll : s.l.length = s.b.length := hI.2.2.2.2.1
   have hkl : s.k.length = s.b.length := hI.2.2.2.2.2.1
   have hfr : s.fr <= s.to := hI.2.1
   have hto : s.to <= g.length := hI.2.2.1
   refine ⟨λ ht => ?_, λ ht => ?_⟩
   ·have ht : s.to < g.length := by rw [AN] at ht; exact ht
    refine ⟨⟨⟨s, s.to⟩, ⟨rfl, rfl, rfl, rfl, rfl, rfl, rfl, rfl, rfl, rfl, rfl, λ _ _ => rfl, rfl, λ _ _ => ⟨rfl, rfl, rfl, rfl⟩, rfl, λ _ _ => ⟨rfl, λ _ _ => rfl⟩⟩, hI, rfl, ht, Nat.le_refl _, Nat.le_of_lt ht, ?_⟩, λ x hx => ?_⟩
    ·unfold In; rw [AN]
    ·obtain ⟨xI, x1, x2, x3, x4, x5⟩ : AUD g (gU (AM g) s) x := hx
     refine ⟨⟨λ h => ⟨by omega, by omega⟩, λ h => YD (by rw [AN] at h; exact h), λ h => ⟨by omega, by rw [AN]; omega⟩, λ _ => YD x2⟩, λ hq => ?_, λ hq => ?_⟩
     ·rw [AN] at hq
      obtain ⟨q1, q2⟩ := BHH hq
      exact ⟨⟨x.s, x.n + 1⟩, ⟨rfl, rfl, rfl, (EQ (by omega)).symm, rfl, rfl, rfl, rfl, rfl, rfl, rfl, λ _ _ => rfl, rfl, λ _ _ => ⟨rfl, rfl, rfl, rfl⟩, rfl, λ _ _ => ⟨rfl, λ _ _ => rfl⟩⟩, ⟨xI, x1, x2, by show x.s.to <= x.n + 1; omega, q1, x5.trans (AKL q1 q2)⟩, by show g.length - (x.n + 1) < _; omega⟩
     ·rw [AN] at hq
      have hn : In g (AM g) x.s.to = x.n := x5.trans (AKT x4 hq)
      have e1 : pkM ⟨g, AM g, x.s.to, x.n⟩ = sS g (AM g) x.s.to (In g (AM g) x.s.to) := by rw [hn]; rfl
      have e2 : pkM ⟨g, AM g, x.s.fr, x.n⟩ = sS g (AM g) x.s.fr (In g (AM g) x.s.to) := by rw [hn]; rfl
      have hfr : x.s.fr <= x.s.to := xI.2.1
      have hbl : x.s.b.length <= x.s.fr := xI.2.2.2.1
      have hll : x.s.l.length = x.s.b.length := xI.2.2.2.2.1
      have hkl : x.s.k.length = x.s.b.length := xI.2.2.2.2.2.1
      refine ⟨⟨⟨⟨by omega, by omega, by rw [AN]; omega, by rw [AN]; omega⟩, λ _ h => Rq h⟩, AJM hc _ _⟩, λ hb1 => zz _ (BIA xI x2 (by rw [<- e1]; exact hb1)), λ hb1 => ⟨⟨⟨⟨by omega, by omega, by rw [AN]; omega, by rw [AN]; omega⟩, λ _ h => Rq h⟩, AJM hc _ _⟩, λ hb2 => ?_, λ hb2 => ?_⟩⟩
      ·obtain ⟨f1, f2⟩ := F_go xI x2 (by rw [<- e1]; exact hb1) (by rw [<- e2]; exact hb2)
       exact ⟨goF g (AM g) x.s, ⟨rfl, rfl, by show ((In g (AM g) x.s.to : Nat) : Int) = x.n; rw [hn], rfl, rfl, by rw [e2]; rfl, by rw [e2]; rfl, by rw [e2]; rfl, by rw [e2]; rfl, rfl, λ _ _ => rfl, rfl, λ _ _ => ⟨rfl, rfl, rfl, rfl⟩, rfl, λ _ _ => ⟨rfl, λ _ _ => rfl⟩⟩, f1, by rw [<- x1]; exact f2⟩
      ·obtain ⟨f1, f2⟩ := BGN xI x2 (by rw [<- e1]; exact hb1) (by rw [<- e2]; exact hb2)
       have eB : cX g (AM g) x.s = ⟨x.s.to, x.s.to, x.s.ln, x.s.b ++ [MI g (gD (AM g) x.s.to)], x.s.l ++ [x.s.ln], x.s.k ++ [Hk ⟨g, ((AM g).take x.n).drop x.s.fr⟩]⟩ := by unfold cX; rw [hn]
       rw [eB] at f1 f2
       rw [AKJ (by rw [AN]; exact x4)]
       refine ⟨⟨⟨by omega, by rw [AN]; omega⟩, YD x2, ⟨by omega, λ h => (by cases h), by omega⟩, by omega, λ h => (by cases h), by omega⟩, ⟨⟨⟨by omega, by omega, by rw [AN]; omega⟩, λ i hi => ?_, ⟨⟨by omega, by omega⟩, hck.2⟩, by omega, λ h => (by cases h), by omega⟩, ⟨x.s.to, x.s.to, x.s.ln, x.s.b ++ [MI g (gD (AM g) x.s.to)], x.s.l ++ [x.s.ln], x.s.k ++ [Hk ⟨g, ((AM g).take x.n).drop x.s.fr⟩]⟩, ⟨by simp, rfl, by simp, by simp, rfl, rfl, rfl, rfl, by simp, BBT _ _, by simp, AIQ _ _, by simp, λ i hi => ?_⟩, f1, rfl, by rw [<- x1]; exact f2⟩, λ y ⟨y1, y2, y3⟩ => ⟨y, ⟨rfl, by rw [y2], rfl, rfl, rfl, rfl, rfl, rfl, rfl, rfl, λ _ _ => rfl, rfl, λ _ _ => ⟨rfl, rfl, rfl, rfl⟩, rfl, λ _ _ => ⟨rfl, λ _ _ => rfl⟩⟩, y1, y3⟩⟩
       rw [Fh]; simp [gD, List.getD_eq_getElem?_getD, List.getElem?_take, show x.s.fr + i < x.n by omega]
       rw [bV _ _ (by simpa using hi)]
       cases decide (i < x.s.k.length) <;> exact ⟨rfl, λ _ _ => rfl⟩
   ·rw [AN] at ht
    rw [BGU hI ht]
    exact ⟨⟨by omega, λ h => (by cases h), by omega, by omega⟩, rfl, Nat.le_refl _, λ _ _ => rfl, by simp, by omega, AIQ _ _, rfl, Nat.le_refl _, λ _ _ => ⟨rfl, λ _ _ => rfl⟩, rfl⟩
theorem AVR : AL Try.prog XN (C_few.spec Ch) := Ih C_few BHD [] [301, 303, 29064] ASG (λ _ => by kernel_rfl) (λ _ => AB Wv (AB BZT (AB Sm (AB BZE (AB Vj (AB Z3 (AB CBD AF))))))) (λ (g : List Gau) h => CFW g (show g.length < 20 /\ True from h).1) (λ _ => Jf rfl rfl) _
end Go.Bal
