/- Package chart: the order of 13 to 20 notes, the whole. -/
import Derived.Test.YtdbjalgfomknhaaGreatChPd
set_option linter.unusedVariables false
set_option linter.unusedSimpArgs false
namespace Go.Bal
open Go Go.Sym Go.Proofs
structure Gw where
 g : Cht
 l : List Int
def gwL (a : Gw) : List (Nat × AObj) := [(100, rowI a.l), (101, bxG a.g)]
def dGwp : List AVal -> Heap -> Option (Gw × List (Nat × Nat) × List Nat)
 | [.own id _ _ n, _, _, _, .fn (.func f) [] [.bptr c _]], H => if f = WS then match H id, Hd H c with
  | .live (.row _ m r), some q => some (⟨q, ME n λ i => HJ (r i)⟩, [(100, id), (101, c)], [])
  | _, _ => none else none
 | _, _ => none
def gwS (a : Gw) (l : List Int) : List (Nat × HCell) := [(100, .live (BHZ a.l.length l)), (101, .live (bxG a.g))]
def gwOk (a : Gw) : Prop := ((13 <= a.l.length /\ a.l.length <= 20) /\ Y3 a.g a.l) /\ ndk (CV a.g) a.l
def C_pdqL : Ctr := { ro := [101], α := Gw, xs := λ a => [.own 100 1 0 a.l.length, .int 0, .int a.l.length, .int (yE a.l.length), mE], L := gwL, val := λ _ => .d (.tup []), keep := λ a => gwS a (Xq (CV a.g) a.l), pre := λ a => [gwOk a] }
structure QB where
 a : Nat
 b : Nat
 l : List Int
 lim : Int
 u : Bool
 v : Bool
 deriving Inhabited
def pqT (a : Gw) (x : QB) (t : List (Nat × AVal)) : ST := ⟨[(0, .own 100 1 0 a.l.length), (1, .int x.a), (2, .int x.b), (3, .int x.lim), (4, mE)] ++ t, gwS a x.l⟩
def pqI (a : Gw) (w : Int) (x : QB) : Prop := (x.a <= x.b /\ x.b <= a.l.length /\ x.b <= x.a + 20) /\ ((x.b : Int) - x.a <= 2 * x.lim + w /\ x.lim <= 5) /\ x.l.Perm a.l /\ Xp (CV a.g) x.a x.b x.l = Xq (CV a.g) a.l
def qbG (a : Gw) (x : QB) : Gn := ⟨a.g, x.l, x.a, x.b⟩
def pqH2 (a : Gw) : Shape := { α := QB, dflt := default, T := λ x => pqT a x [(10, .bool x.u), (11, .bool x.v)], inv := pqI a 10, meas := λ x => x.b - x.a }
def pqJ (a : Gw) (m : Nat) (x : QB) : Prop := pqI a 12 x /\ x.a + 13 <= x.b /\ x.b - x.a = m
def BZS (a : Gw) (m : Nat) : Shape := { α := QB, dflt := default, T := λ x => pqT a x [(10, .bool x.u), (11, .bool x.v), (12, .int ((x.b - x.a : Nat) : Int))], inv := pqJ a m, meas := λ _ => 0 }
def BZM (a : Gw) (m : Nat) : Shape := { α := QB, dflt := default, T := λ x => pqT a x [(12, .int ((x.b - x.a : Nat) : Int)), (13, .int (chP (qbG a x)))], inv := pqJ a m, meas := λ _ => 0 }
def BFG (a : Gw) : Ann := { ann 148 [(WS, C_fw1.spec dGAB), (L6, C_insS.spec dGn), (X7, C_pdqS.spec dGnp), (AEO, C_brk.spec dGn), (AEW, C_cho.spec dGn), (N3, C_pin.spec dGn), (APB, C_ptn.spec dGp)] with E := [100, 101], loops := λ id => if id = 2 then some [pqH2 a] else none, cutIn := λ gs id => if id = 10 then some [BZS a (gs.getD 0 0)] else if id = 17 then some [BZM a (gs.getD 0 0)] else none }
def BIK (a : Gw) : Prop := CF Try.prog (BFG a) AFC (AH AFC) (C_pdqL.xs a) (AB (C_pdqL.L a)) (C_pdqL.val a) (C_pdqL.keep a) [] []
abbrev wC:=@Exists QB
abbrev Dd:=Gw.l
abbrev JC:=QB.a
abbrev PT:=QB.b
abbrev Iu:=QB.lim
abbrev kZ:=QB.u
abbrev TG:=QB.l
abbrev JV:=Gw.g
abbrev AQK:=λ (f : QB -> Prop) => ∀ (x : QB), f x
abbrev Vg a b c d:=CE a (FY (Iu b) 5) c d
abbrev ADO a b:=Xq (VS (JV a)) (Dd b)
abbrev Qx a b c:=iP a (ADO b c)
abbrev AOU a b c d:=Xp a b (PT c) d
abbrev ANG a b c d:=AOU a (JC b) c d
abbrev Rk a b c d:=ANG (VS (JV a)) b c (TG d)
abbrev Ry a b:=(@List.Perm Int) (TG a) (Dd b)
abbrev lY a:=BE (PT a)
abbrev Qh a b c d:=FY (AHM (lY a) (JC b)) (NT (Bu 2 (Iu c)) d)
abbrev ASV a b:=RX (JC a) b
abbrev ACY a b c:=EU a (ASV b c)
abbrev Dw a b:=ACY (PT a) b 20
abbrev dO a b:=XJ (PT a) b
abbrev Ra a b:=dO a (Dd b)
abbrev Qm a b:=EU a (PT b)
abbrev Uk a:=DG (JV a)
abbrev Mn a b c d e f:=MW a (Dd b) c d e f
abbrev AZU a b:=VR (Dd a) b
abbrev QN a b:=AZU a (TG b)
abbrev AIW a:=MR (JV a) (JV a) (JV a)
abbrev wU a b:=Gn.mk (AIW a) (QN a b) (JC b) (PT b)
abbrev L5 a b c:=YN (wU a b) c
abbrev Yk a b:=chP (qbG a b)
abbrev G5 a b:=Gp.mk (wU a b) (Yk a b)
abbrev AFU a b:=NF (wU a b)
abbrev rS a:=VS (AIW a)
abbrev ABH a b:=ptL (rS a) (AFU a b) (gpK (G5 a b))
abbrev ZR a b:=AZU a (L5 a b (ABH a b))
abbrev APU a b:=PtR.j (gpR (G5 a b))
abbrev Bf a b c:=ASV a (APU b c)
abbrev Qr a b:=LS (PT a) (JC b)
abbrev gO a b:=NP (PT a) b
abbrev Jg a:=YQ (Dd a)
abbrev Im a b c d:=AD (Qm a b) c d
abbrev eF a b:=CQ a (JV b)
abbrev aB a:=FJ (JV a)
abbrev fI a:=IA (JV a)
abbrev Zj a:=FI (JV a)
abbrev ZN a:=AN (JV a)
abbrev ZM a:=AM (JV a)
abbrev Aa a:=AL (JV a)
abbrev ZA a:=AJ (JV a)
abbrev jH a:=FN (JV a)
abbrev Zi a:=BN (JV a)
abbrev Yu a:=BP (JV a)
abbrev Vu a:=AQ (JV a)
abbrev kW a:=FS (PT a)
abbrev ACS a b:=DY a (Dd b)
abbrev Jw a:=BE (JC a)
abbrev lF a:=FS (JC a)
abbrev Ro a:=ASV a 13
abbrev Pp a b c:=ACS (QN a b) c
abbrev jJ a:=kD (Jw a)
attribute [go_sem] wC Dd JC PT Iu kZ TG JV AQK Vg ADO Qx AOU ANG Rk Ry lY Qh ASV ACY Dw dO Ra Qm Uk Mn AZU QN AIW wU L5 Yk G5 AFU rS ABH ZR APU Bf Qr gO Jg Im eF aB fI Zj ZN ZM Aa ZA jH Zi Yu Vu kW ACS Jw lF Ro Pp jJ
theorem BMV (a : Gw) : (BIK a) = (And (wC (λ i=>AG (And AT (AR (Jg a) (BZ (JC i)) (gO i (CJ (Dd a))) (AS (Iu i) (yE (YD (Dd a)))) (CS (kZ i)) (CS (QB.v i)) (Jg a) (AF (λ j=>Mn j a (TG i) j (Dd a) j)) (Uk a))) (Im (JC i) i (Ra i a) (Dw i i)) (And (Qh i i i 10) (FY (Iu i) 5)) (Ry i a) (Qx (Rk a i i i) a a))) (AQK (λ i=>CN (IN (Qm (JC i) i) (Ra i a) (Dw i i) (Vg (Qh i i i 10) i (Ry i a) (Qx (Rk a i i i) a a))) (ED (hd7 (GO (lY i) (Jw i)) 12) (AD AT (Pp a i a) (AR (lF i) (kW i) (Pp a i a) (VI (QN a i) (TG i)) (ZA a) (Aa a) (ZM a) (ZN a) (GU (Vu a) (Yu a) (λ j=>BH j (JV a)) (Zi a) (jH a) (ZA a) (Aa a) (ZM a) (JJ (ZN a) (JV a) (Zj a) (fI a) (aB a) (λ j=>eF j a) (IH (JC i) (PT i) (dO i (QN a i))) (Gq (QN a i)) (AF (λ j=>SU j (QN a i) j j (JV a))))))) (HU (DY (Dd a) (QN a i)) (λ j=>Mn j a (ADO a a) j (ANG (rS a) i i (QN a i)) j) (Uk a)) (Bs (Jn (Iu i)) KG (ED (not (kZ i)) (AD AT (Pp a i a) (AR (lF i) (kW i) (Pp a i a) (VI (QN a i) (TG i)) (ZA a) (Aa a) (ZM a) (ZN a) (GU (Vu a) (Yu a) (λ j=>BH j (JV a)) (Zi a) (jH a) (ZA a) (Aa a) (ZM a) (JJ (ZN a) (JV a) (Zj a) (fI a) (aB a) (λ j=>eF j a) (Im (Ro i) i (Dw i i) (dO i (QN a i))) (Gq (QN a i)) (AF (λ j=>SU j (QN a i) j j (JV a))))))) (wC (λ j=>IN AT (Jg a) (AR (NP (JC j) (JC i)) (gO j (PT i)) (Dt (Iu j) (Iu i)) (JH (kZ j) (kZ i)) (JH (QB.v j) (QB.v i)) (HH (Qr j j) (GO (lY i) (Jw i))) (DY (Dd a) (QN a i)) (AF (λ k=>Mn k a (TG j) k (L5 a i (bkK (Qr i i) (AFU a i) 3)) k)) (Uk a)) (CE (Im (JC j) j (Ra j a) (Dw j j)) (Vg (Qh j j j 12) j (Ry j a) (Qx (Rk a j j j) a a)) (Qm (Ro j) j) (Pu (PT j) (JC j) (PT i) (JC i))))) (wC (λ j=>IN AT (Jg a) (AR (NP (JC j) (JC i)) (gO j (PT i)) (AS (Iu j) (Iu i)) (JH (kZ j) (kZ i)) (JH (QB.v j) (QB.v i)) (HH (Qr j j) (GO (lY i) (Jw i))) (Jg a) (AF (λ k=>Mn k a (TG j) k (TG i) k)) (Uk a)) (CE (Im (JC j) j (Ra j a) (Dw j j)) (Vg (Qh j j j 12) j (Ry j a) (Qx (Rk a j j j) a a)) (Qm (Ro j) j) (Pu (PT j) (JC j) (PT i) (JC i)))))) (AQK (λ j=>CN (CE (Im (JC j) j (Ra j a) (Dw j j)) (Vg (Qh j j j 12) j (Ry j a) (Qx (Rk a j j j) a a)) (Qm (Ro j) j) (Pu (PT j) (JC j) (PT i) (JC i))) (EG AT (Pp a j a) (lF j) (kW j) (CW (Pp a j a) (λ k=>GF k (QN a j) (TG j)) (ZA a) (Aa a) (ZM a) (ZN a) (Vu a) (Yu a) (PN (JV a) (Zi a) (λ k=>BG k (JV a)) (DY (Dd a) (QN a j)) (AF (λ k=>Mn k a (TG j) k (QN a j) k)) (ZA a) (Aa a) (ZM a) (JJ (ZN a) (JV a) (Zj a) (fI a) (aB a) (λ k=>eF k a) (Im (Ro j) j (Dw j j) (dO j (QN a j))) (Gq (QN a j)) (AF (λ k=>SU k (QN a j) k k (JV a)))))) (Bs (Ey (chH (wU a j)) 2) KG (ED (YI (kZ j) (QB.v j) (Ey (chH (wU a j)) 1)) (AG AT (Pp a j a) (lF j) (kW j) (CW (Pp a j a) (λ k=>GF k (QN a j) (TG j)) (ZA a) (Aa a) (ZM a) (ZN a) (Vu a) (Yu a) (PN (JV a) (Zi a) (λ k=>BG k (JV a)) (DY (Dd a) (QN a j)) (AF (λ k=>Mn k a (TG j) k (QN a j) k)) (ZA a) (Aa a) (ZM a) (JJ (ZN a) (JV a) (Zj a) (fI a) (aB a) (λ k=>eF k a) (Im (Ro j) j (Dw j j) (dO j (QN a j))) (Gq (QN a j)) (AF (λ k=>SU k (QN a j) k k (JV a))))))) (EC (fE (rS a) (AFU a j) (Fi (Qr j j))) (HU (Jg a) (λ k=>Mn k a (ADO a a) k (TG j) k) (Uk a)) (wC (λ k=>VE (AR (Jg a) (NP (JC k) (JC j)) (gO k (PT j)) (AS (Iu k) (Iu j)) (NP (Qr k k) (Qr j j)) (AS (Yk a k) (chP (wU a j))) (Jg a) (AF (λ l=>Mn l a (TG k) l (TG j) l)) (Uk a)) (CE (Im (JC k) k (Ra k a) (Dw k k)) (Vg (Qh k k k 12) k (Ry k a) (Qx (Rk a k k k) a a)) (Qm (Ro k) k) (Pu (PT k) (JC k) (PT i) (JC i)))))) (wC (λ k=>VE (AR (Jg a) (NP (JC k) (JC j)) (gO k (PT j)) (AS (Iu k) (Iu j)) (NP (Qr k k) (Qr j j)) (AS (Yk a k) (chP (wU a j))) (Jg a) (AF (λ l=>Mn l a (TG k) l (TG j) l)) (Uk a)) (CE (Im (JC k) k (Ra k a) (Dw k k)) (Vg (Qh k k k 12) k (Ry k a) (Qx (Rk a k k k) a a)) (Qm (Ro k) k) (Pu (PT k) (JC k) (PT i) (JC i)))))) (AQK (λ k=>CN (CE (Im (JC k) k (Ra k a) (Dw k k)) (Vg (Qh k k k 12) k (Ry k a) (Qx (Rk a k k k) a a)) (Qm (Ro k) k) (Pu (PT k) (JC k) (PT i) (JC i))) (EG (HX (jJ k) (LZ (Jw k)) (CJ (Dd a))) (HO (jJ k) (JX (Dl (Jw k)) (CJ (Dd a)))) (HX (jJ k) (Yk a k) (CJ (Dd a))) (HO (jJ k) (QI (Yk a k) (CJ (Dd a)))) (HO (jJ k) (DT (AE (DN (TG k) (Dl (Jw k)))) (AE (DN (TG k) (LA (Yk a k)))) (ZA a) (Aa a) (ZM a) (ZN a) (GU (Vu a) (Yu a) (λ l=>BH l (JV a)) (Zi a) (jH a) (ZA a) (Aa a) (ZM a) (JJ (ZN a) (JV a) (Zj a) (fI a) (aB a) (λ l=>eF l a) (HF (DN (TG k) (Dl (Jw k))) (FD (JV a))) (YX (TG k) (LA (Yk a k))) (DK (DN (TG k) (LA (Yk a k))) (FD (JV a))))))) (EC (LJ (jJ k) (not (JL (Hz (VS (AIW a) (DN (TG k) (Dl (Jw k)))) (VS (AIW a) (DN (TG k) (LA (Yk a k))))) 0))) KG (AD (AG AT (Pp a k a) (lF k) (kW k) (GU (AE (Yk a k)) (Pp a k a) (λ l=>GF l (QN a k) (TG k)) (ZA a) (Aa a) (ZM a) (ZN a) (Vu a) (CW (Yu a) (λ l=>BH l (JV a)) (Zi a) (jH a) (ZA a) (Aa a) (ZM a) (ZN a) (GU (Vu a) (Zj a) (λ l=>GD l (JV a)) (aB a) (JS (JV a)) (And (FY (Jw k) (Yk a k)) (DK (Yk a k) (PT k))) (Im (Ro k) k (Dw k k) (dO k (QN a k))) (Gq (QN a k)) (AF (λ l=>SU l (QN a k) l l (JV a))))))) (CN (Jf (XB 8)) KG) (QV (GO (BE (Bf k a k)) (Jw k)) (GO (lY k) (BE (Bf k a k))) (AD AT (ACS (ZR a k) a) (AR (lF k) (FS (Bf k a k)) (DY (ZR a k) (QN a k)) (VI (ZR a k) (L5 a k (ABH a k))) (ZA a) (Aa a) (ZM a) (ZN a) (GU (Vu a) (Yu a) (λ l=>BH l (JV a)) (Zi a) (jH a) (ZA a) (Aa a) (ZM a) (JJ (ZN a) (JV a) (Zj a) (fI a) (aB a) (λ l=>eF l a) (AD (ACY (JC k) k (APU a k)) (XJ (Bf k a k) (ZR a k)) (ACY (Bf k a k) k 12)) (Gq (ZR a k)) (AF (λ l=>SU l (ZR a k) l l (JV a))))))) (wC (λ l=>ZH (AR (Jg a) (BR (JC l) (Bf k a k)) (gO l (PT k)) (AS (Iu l) (Iu k)) (JH (kZ l) (jA (GO (BE (Bf k a k)) (Jw k)) (kP (BE (Qr k k)) 8))) (JH (QB.v l) (gpF (G5 a k))) (DY (Dd a) (ZR a k)) (AF (λ m=>Mn m a (TG l) m (Xp (rS a) (JC k) (Bf k a k) (ZR a k)) m)) (Uk a)) (IN (Qm (JC l) l) (Ra l a) (Dw l l) (Vg (Qh l l l 10) l (Ry l a) (Qx (Rk a l l l) a a))) (LG (PT l) (JC l) (PT i) (JC i)))) (IN AT (ACS (ZR a k) a) (AR (BR (XD (Bf k a k)) (Bf k a k)) (kW k) (DY (ZR a k) (QN a k)) (VI (ZR a k) (L5 a k (ABH a k))) (ZA a) (Aa a) (ZM a) (ZN a) (GU (Vu a) (Yu a) (λ l=>BH l (JV a)) (Zi a) (jH a) (ZA a) (Aa a) (ZM a) (JJ (ZN a) (JV a) (Zj a) (fI a) (aB a) (λ l=>eF l a) (Im (XD (Bf k a k)) k (dO k (ZR a k)) (EU (PT k) (RX (XD (Bf k a k)) 12))) (Gq (ZR a k)) (AF (λ l=>SU l (ZR a k) l l (JV a)))))) (wC (λ l=>ZH (AR (Jg a) (NP (JC l) (JC k)) (gO l (Bf k a k)) (AS (Iu l) (Iu k)) (JH (kZ l) (jA (GO (lY k) (BE (Bf k a k))) (kP (BE (Qr k k)) 8))) (JH (QB.v l) (gpF (G5 a k))) (DY (Dd a) (ZR a k)) (AF (λ m=>Mn m a (TG l) m (AOU (rS a) (XD (Bf k a k)) k (ZR a k)) m)) (Uk a)) (IN (Qm (JC l) l) (Ra l a) (Dw l l) (Vg (Qh l l l 10) l (Ry l a) (Qx (Rk a l l l) a a))) (LG (PT l) (JC l) (PT i) (JC i)))))))))))))))))))) := by kernel_rfl
def C_srt : Ctr := { C_sort with pre := λ (a : GL) => [(a.l.length <= 12 ∨ (13 <= a.l.length /\ a.l.length <= 20) /\ ndk (CV a.g) a.l) /\ glOk a] }
def BDU : Ann := { ann 14 [(lK, AKK), (X7, C_pdqS.spec dGnp)] with E := [100, 101] }
def BCU (a : GL) : Prop := CF Try.prog BDU gS (AH gS) (C_sort.xs a) (AB (C_sort.L a)) (C_sort.val a) (C_sort.keep a) [] []
abbrev WG:=GL.l
abbrev KH:=GL.g
abbrev TW a:=Ag (WG a)
attribute [go_sem] WG KH TW
theorem BOS (a : GL) : (BCU a) = (And (BC (BX (VO (YD (WG a)))) (Gi (VO (YD (WG a)))) (AD AT (DY (TW a) (WG a)) (AR (HH TQ (XB 0)) (FS (CJ (WG a))) (DY (TW a) (WG a)) (VI (TW a) (WG a)) (AJ (KH a)) (AL (KH a)) (AM (KH a)) (AN (KH a)) (GU (AQ (KH a)) (BP (KH a)) (λ i=>BH i (KH a)) (BN (KH a)) (FN (KH a)) (AJ (KH a)) (AL (KH a)) (AM (KH a)) (JJ (AN (KH a)) (KH a) (FI (KH a)) (IA (KH a)) (FJ (KH a)) (λ i=>CQ i (KH a)) (AD (XJ 0 (WG a)) (XJ (CJ (WG a)) (TW a)) (EU (CJ (WG a)) 12)) (Gq (TW a)) (AF (λ i=>SU i (TW a) i i (KH a)))))))) (HU (DY (WG a) (TW a)) (λ i=>MW i (WG a) (Xq (VS (KH a)) (WG a)) i (Xp (Yn (KH a)) TQ (CJ (WG a)) (TW a)) i) (DG (KH a)))) := by kernel_rfl
def BKU : Ann := { ann 14 [(lK, uJ), (X7, C_pdqL.spec dGwp)] with E := [100, 101] }
def BDB (a : GL) : Prop := CF Try.prog BKU gS (AH gS) (C_sort.xs a) (AB (C_sort.L a)) (C_sort.val a) (C_sort.keep a) [] []
theorem BLU (a : GL) : (BDB a) = (And (BC (FY 13 (VO (YD (WG a)))) (Gi (VO (YD (WG a)))) (AD AT (DY (TW a) (WG a)) (AR DJ (NP (CJ (TW a)) (CJ (WG a))) (AS (yE (YD (TW a))) (yE (VO (YD (WG a))))) (DY (TW a) (WG a)) (VI (TW a) (WG a)) (AJ (KH a)) (AL (KH a)) (AM (KH a)) (JJ (AN (KH a)) (KH a) (BP (KH a)) (HM (KH a)) (BN (KH a)) (λ i=>BG i (KH a)) (AJ (KH a)) (AL (KH a)) (HB (KH a) (FI (KH a)) (λ i=>GD i (KH a)) (FJ (KH a)) (λ i=>CQ i (KH a)) (BC (XJ 13 (TW a)) (EU (CJ (TW a)) 20) (AF (λ i=>SU i (TW a) i i (KH a)))) ((@List.Pairwise Int) Lc ((@List.map Int Int) (Yn (KH a)) (TW a)))))))) (HU (DY (WG a) (TW a)) (λ i=>MW i (WG a) (Xq (VS (KH a)) (WG a)) i (Xq (Yn (KH a)) (TW a)) i) (DG (KH a)))) := by kernel_rfl
theorem BUO (a : Gn) : (chH a == 2) = true -> False := λ h => by
 unfold chH at h
 cases q : chS a == 0 with
 | false => rw [q] at h; cases h
 | true => rw [q] at h; cases h
theorem BDL {key : Int -> Int} {P : Int} {k : Nat} {l m r s : List Int} (hd : ndk key l) (h : PtK key P k l m) (hh : (RsM key 0 k m r /\ RsM key (k + 1) l.length r s) ∨ RsM key (k + 1) l.length m r /\ RsM key 0 k r s) : s = Xq key l := by
 obtain ⟨q1, q2⟩ := BVB h hh
 exact AMQ hd q1 (by rw [q1.length_eq]; exact q2)
theorem ANB {a : Gw} {w : Int} {x : QB} (h : pqI a w x) : x.l.length = a.l.length := h.2.2.1.length_eq
theorem ATO {a : Gw} {w : Int} {x : QB} (h : pqI a w x) : (ME a.l.length λ i => gD x.l i) = x.l := by rw [<- ANB h]; exact WA x.l
theorem BDA {a : Gw} (ha : gwOk a) {w : Int} {x : QB} (h : pqI a w x) : Y3 a.g x.l /\ ndk (CV a.g) x.l := ⟨xB h.2.2.1 ha.1.2, (xF h.2.2.1).2 ha.2⟩
theorem BWK {a : Gw} (ha : gwOk a) {w : Int} {x : QB} (h : pqI a w x) (hb : x.a + 13 <= x.b) : (YN ⟨a.g, x.l, x.a, x.b⟩ (bkK (x.b - x.a) (NF ⟨a.g, x.l, x.a, x.b⟩) 3)).Perm a.l /\ Xp (CV a.g) x.a x.b (YN ⟨a.g, x.l, x.a, x.b⟩ (bkK (x.b - x.a) (NF ⟨a.g, x.l, x.a, x.b⟩) 3)) = Xq (CV a.g) a.l := by
 obtain ⟨⟨h1, h2, h3⟩, _, h4, h5⟩ := h
 have hl := h4.length_eq
 have ml : (NF ⟨a.g, x.l, x.a, x.b⟩).length = x.b - x.a := Kg (A := x.a) (B := x.b) (l := x.l) h1 (by omega)
 have bp := ADH ml (show 13 <= x.b - x.a by omega) (by omega) 3 (Nat.le_refl _)
 have e0 : wh (x.l.take x.a) (NF ⟨a.g, x.l, x.a, x.b⟩) (x.l.drop x.b) = x.l := vU (A := x.a) (B := x.b) (l := x.l) h1 (by omega)
 refine ⟨?_, ?_⟩
 ·have := AYF (P := x.l.take x.a) (S := x.l.drop x.b) bp
  rw [e0] at this
  exact this.trans h4
 ·have := BLY (CV a.g) (P := x.l.take x.a) (m := bkK (x.b - x.a) (NF ⟨a.g, x.l, x.a, x.b⟩) 3) (S := x.l.drop x.b) (A := x.a) (B := x.b) (by rw [List.length_take]; omega) (by rw [bp.length_eq, ml]; omega)
  refine Eq.trans this ?_
  rw [BPV (AMM ((xF h4).2 ha.2)) bp]
  exact h5
theorem BMH {a : Gw} (ha : gwOk a) {w : Int} {x : QB} (h : pqI a w x) (hs : fE (CV a.g) (NF ⟨a.g, x.l, x.a, x.b⟩) (x.b - x.a - 1) = true) : Xq (CV a.g) a.l = x.l := by
 obtain ⟨⟨h1, h2, h3⟩, _, h4, h5⟩ := h
 have hl := h4.length_eq
 have ml : (NF ⟨a.g, x.l, x.a, x.b⟩).length = x.b - x.a := Kg (A := x.a) (B := x.b) (l := x.l) h1 (by omega)
 have e0 : wh (x.l.take x.a) (NF ⟨a.g, x.l, x.a, x.b⟩) (x.l.drop x.b) = x.l := vU (A := x.a) (B := x.b) (l := x.l) h1 (by omega)
 have u := AMQ (AMM ((xF h4).2 ha.2)) (List.Perm.refl (NF ⟨a.g, x.l, x.a, x.b⟩)) (by rw [ml]; exact BAY _ hs)
 rw [<- h5]
 have e1 : Xp (CV a.g) x.a x.b x.l = wh (x.l.take x.a) (Xq (CV a.g) (NF ⟨a.g, x.l, x.a, x.b⟩)) (x.l.drop x.b) := rfl
 have u : NF ⟨a.g, x.l, x.a, x.b⟩ = Xq (CV a.g) (NF ⟨a.g, x.l, x.a, x.b⟩) := u
 rw [e1, <- u, e0]
theorem BOB {a : Gw} (ha : gwOk a) {w : Int} {x : QB} (h : pqI a w x) (hb : x.a + 13 <= x.b) : ∃ p : Nat, (x.a <= p /\ p < x.b) /\ chP ⟨a.g, x.l, x.a, x.b⟩ = (p : Int) /\ (0 < (gpR ⟨⟨a.g, x.l, x.a, x.b⟩, (p : Int)⟩).j /\ (gpR ⟨⟨a.g, x.l, x.a, x.b⟩, (p : Int)⟩).j + 1 < x.b - x.a) /\ (YN ⟨a.g, x.l, x.a, x.b⟩ (ptL (CV a.g) (NF ⟨a.g, x.l, x.a, x.b⟩) (gpK ⟨⟨a.g, x.l, x.a, x.b⟩, (p : Int)⟩))).Perm a.l /\ Xp (CV a.g) (x.a + (gpR ⟨⟨a.g, x.l, x.a, x.b⟩, (p : Int)⟩).j + 1) x.b (Xp (CV a.g) x.a (x.a + (gpR ⟨⟨a.g, x.l, x.a, x.b⟩, (p : Int)⟩).j) (YN ⟨a.g, x.l, x.a, x.b⟩ (ptL (CV a.g) (NF ⟨a.g, x.l, x.a, x.b⟩) (gpK ⟨⟨a.g, x.l, x.a, x.b⟩, (p : Int)⟩)))) = Xq (CV a.g) a.l /\ Xp (CV a.g) x.a (x.a + (gpR ⟨⟨a.g, x.l, x.a, x.b⟩, (p : Int)⟩).j) (Xp (CV a.g) (x.a + (gpR ⟨⟨a.g, x.l, x.a, x.b⟩, (p : Int)⟩).j + 1) x.b (YN ⟨a.g, x.l, x.a, x.b⟩ (ptL (CV a.g) (NF ⟨a.g, x.l, x.a, x.b⟩) (gpK ⟨⟨a.g, x.l, x.a, x.b⟩, (p : Int)⟩)))) = Xq (CV a.g) a.l := by
 obtain ⟨⟨h1, h2, h3⟩, _, h4, h5⟩ := h
 have hl := h4.length_eq
 have hd := (xF h4).2 ha.2
 have hq : 3 <= cq ⟨a.g, x.l, x.a, x.b⟩ /\ x.a + cq ⟨a.g, x.l, x.a, x.b⟩ * 3 < x.b := by
  have e : cq ⟨a.g, x.l, x.a, x.b⟩ = (x.b - x.a) / 4 := rfl
  rw [e]; omega
 obtain ⟨p, ⟨p1, p2⟩, p3, ⟨u, ⟨u1, u2⟩, u3⟩, v, ⟨v1, v2⟩, v3⟩ := BYJ hd (A := x.a) (B := x.b) (a := x.a + cq ⟨a.g, x.l, x.a, x.b⟩) (b := x.a + cq ⟨a.g, x.l, x.a, x.b⟩ * 2) (c := x.a + cq ⟨a.g, x.l, x.a, x.b⟩ * 3) (by omega) (by omega) (by omega) (by omega) (by omega)
 have ml : (NF ⟨a.g, x.l, x.a, x.b⟩).length = x.b - x.a := Kg (A := x.a) (B := x.b) (l := x.l) h1 (by omega)
 have ma : ∀ i, x.a <= i -> i < x.b -> gD (NF ⟨a.g, x.l, x.a, x.b⟩) (i - x.a) = gD x.l i := λ i i1 i2 => by
  have := K2 (A := x.a) (B := x.b) (l := x.l) (by omega) (i := i - x.a) (by omega)
  rw [show x.a + (i - x.a) = i by omega] at this; exact this
 have e0 : wh (x.l.take x.a) (NF ⟨a.g, x.l, x.a, x.b⟩) (x.l.drop x.b) = x.l := vU (A := x.a) (B := x.b) (l := x.l) h1 (by omega)
 have gk : gpK ⟨⟨a.g, x.l, x.a, x.b⟩, (p : Int)⟩ = p - x.a := by
  show ((p : Int) - (x.a : Int)).toNat = _; omega
 have gr : (gpR ⟨⟨a.g, x.l, x.a, x.b⟩, (p : Int)⟩).j = (ptM (CV a.g) (NF ⟨a.g, x.l, x.a, x.b⟩) (p - x.a)).j := by
  show (ptM (CV a.g) (NF ⟨a.g, x.l, x.a, x.b⟩) (gpK ⟨⟨a.g, x.l, x.a, x.b⟩, (p : Int)⟩)).j = _; rw [gk]
 refine ⟨p, ⟨p1, p2⟩, p3, ?_⟩
 rw [gr, gk]
 have K := BWF (key := CV a.g) (l := NF ⟨a.g, x.l, x.a, x.b⟩) (p := p - x.a) (by omega)
 have sd := BLG K ⟨u - x.a, by omega, by rw [ma u u1 u2, ma p p1 p2]; exact u3⟩ ⟨v - x.a, by omega, by rw [ma v v1 v2, ma p p1 p2]; exact v3⟩
 have hdm : ndk (CV a.g) (NF ⟨a.g, x.l, x.a, x.b⟩) := AMM hd
 generalize ptL (CV a.g) (NF ⟨a.g, x.l, x.a, x.b⟩) (p - x.a) = m at *
 generalize (ptM (CV a.g) (NF ⟨a.g, x.l, x.a, x.b⟩) (p - x.a)).j = k at *
 have hm := K.perm.length_eq
 rw [ml] at hm sd
 have tl : (x.l.take x.a).length = x.a := by rw [List.length_take]; omega
 have R1 := uP (CV a.g) (A := 0) (B := k) (l := m) (Nat.zero_le _) (by omega)
 have R2 := uP (CV a.g) (A := k + 1) (B := (NF ⟨a.g, x.l, x.a, x.b⟩).length) (l := Xp (CV a.g) 0 k m) (by omega) (by rw [R1.perm.length_eq]; omega)
 have R3 := uP (CV a.g) (A := k + 1) (B := (NF ⟨a.g, x.l, x.a, x.b⟩).length) (l := m) (by omega) (by omega)
 have R4 := uP (CV a.g) (A := 0) (B := k) (l := Xp (CV a.g) (k + 1) (NF ⟨a.g, x.l, x.a, x.b⟩).length m) (Nat.zero_le _) (by rw [R3.perm.length_eq]; omega)
 have s1 := BDL hdm K (.inl ⟨R1, R2⟩)
 have s2 := BDL hdm K (.inr ⟨R3, R4⟩)
 rw [ml] at s1 s2 R3
 have e1 : Xp (CV a.g) x.a x.b x.l = wh (x.l.take x.a) (Xq (CV a.g) (NF ⟨a.g, x.l, x.a, x.b⟩)) (x.l.drop x.b) := rfl
 have l1 : ∀ u v, u <= v -> v <= x.b - x.a -> ∀ t : List Int, t.length = x.b - x.a -> Xp (CV a.g) (x.a + u) (x.a + v) (wh (x.l.take x.a) t (x.l.drop x.b)) = wh (x.l.take x.a) (Xp (CV a.g) u v t) (x.l.drop x.b) := λ u v h1 h2 t ht => BHE (CV a.g) tl h1 (by omega)
 refine ⟨⟨sd.1, sd.2⟩, ?_, ?_, ?_⟩
 ·have := AYF (P := x.l.take x.a) (S := x.l.drop x.b) K.perm
  rw [e0] at this
  exact this.trans h4
 ·have q1 : Xp (CV a.g) x.a (x.a + k) (wh (x.l.take x.a) m (x.l.drop x.b)) = _ := l1 0 k (by omega) (by omega) m hm
  have q2 := l1 (k + 1) (x.b - x.a) (by omega) (Nat.le_refl _) (Xp (CV a.g) 0 k m) (by rw [R1.perm.length_eq]; exact hm)
  rw [show x.a + (x.b - x.a) = x.b by omega, s1, <- e1, h5] at q2
  show Xp (CV a.g) (x.a + (k + 1)) x.b (Xp (CV a.g) x.a (x.a + k) (wh (x.l.take x.a) m (x.l.drop x.b))) = _
  rw [q1]; exact q2
 ·have q1 := l1 (k + 1) (x.b - x.a) (by omega) (Nat.le_refl _) m hm
  rw [show x.a + (x.b - x.a) = x.b by omega] at q1
  have q2 : Xp (CV a.g) x.a (x.a + k) (wh (x.l.take x.a) (Xp (CV a.g) (k + 1) (x.b - x.a) m) (x.l.drop x.b)) = _ := l1 0 k (by omega) (by omega) (Xp (CV a.g) (k + 1) (x.b - x.a) m) (by rw [R3.perm.length_eq]; exact hm)
  rw [s2, <- e1, h5] at q2
  show Xp (CV a.g) x.a (x.a + k) (Xp (CV a.g) (x.a + (k + 1)) x.b (wh (x.l.take x.a) m (x.l.drop x.b))) = _
  rw [q1]; exact q2
set_option maxHeartbeats 2000000 in
theorem BWW (a : Gw) (ha : gwOk a) : BIK a := by
 have hn := ha.1.1
 have lm : (a.l.length : Int) <= 2 * yE a.l.length + 10 /\ yE a.l.length <= 5 := by
  unfold yE
  by_cases q : (a.l.length : Int) < 16
  ·rw [decide_eq_true q]; show _ <= 2 * (4 : Int) + 10 /\ (4 : Int) <= 5; omega
  ·rw [decide_eq_false q]; show _ <= 2 * (5 : Int) + 10 /\ (5 : Int) <= 5; omega
 rw [BMV]<;> delta JH zU jA hd7 Hi BI BF EN MM ON Ep EB EA BY AF CN CO AS BE XB EU EC JL FY MN NT LS ET GW FK HV IB HK GV FU HC DV FW EY LD Ey LC XS EP RX KG GZ CJ DN RU Bu VS iP wC Dd JC PT Iu kZ TG JV AQK AD CI AU FT GN AG GK AZ AX AE FA BM AW JP BL BD AO AR DD BA VR BK II JQ BO BJ CX HI BW BV AJ AQ JD AV EH FC NH CK AN AL GH JE JO HG FX FQ FO MR AM IV FD HE DK ID DR GO CM ES BX CG DO AZU BC IW HS DX HH QN JA CE CW PM EZ LA CS EV LZ FH HQ DZ EW AT DU LL JB ED HO BR FZ GI BN AIW GA GC EO HD AHM QR YQ PF LG FS QP DY IH SX PQ MU IS MW ND MC NM Yk EX DT XJ GU ASV QV Fi LJ XD HF BP FJ FI EI wU SK GF LV BH BG IP Lw DI Dl BZ JX kP IQ G5 HY NP YX rS MJ EG HX AFU DG CQ GD IN L5 Iq Qm HM FN Aa Pu YI QI IA ABH HU ZN APU dO JJ ACY Jw ZM Dy ZR JS ZA lY Bf Jg ACS YD kD Dw VI ADO SU Gq Im AOU Ra Ry Dt Uk VE Pp Ro Qr Vu ANG Qx Zj Qh aB Rk Yu Zi fI Jn Jf PN Mn ZH Bs gO Vg eF jJ kW jH lF; simp only [CC, eq_self, implies_true, forall_const, CL]
 refine ⟨⟨⟨0, a.l.length, a.l, yE a.l.length, true, true⟩, ⟨rfl, rfl, rfl, rfl, rfl, λ _ _ => rfl⟩, ⟨Nat.zero_le _, Nat.le_refl _, by show a.l.length <= 0 + 20; omega⟩, ⟨by show ((a.l.length : Nat) : Int) - ((0 : Nat) : Int) <= 2 * yE a.l.length + 10; omega, lm.2⟩, List.Perm.refl _, ACK _ _⟩, λ x hx => ?_⟩
 have hx : pqI a 10 x := hx
 have hxi := BDA ha hx
 have hxl := ANB hx
 have ⟨⟨x1, x2, x3⟩, ⟨x4, x5⟩, x6, x7⟩ := hx
 have ex : IntKind.i64.wrap ((x.b : Int) - x.a) = ((x.b - x.a : Nat) : Int) := (TC (by omega) (by omega)).trans (by omega)
 rw [ex]
 simp only [ATO hx]
 have gin : ∀ {l : List Int}, Y3 a.g l -> l.length = a.l.length -> ∀ i, i < a.l.length -> 0 <= gD l i /\ gD l i < a.g.ns.length := λ h hl i hi => h i (by omega)
 refine ⟨λ _ => ⟨⟨λ _ _ => trivial, ⟨x1, x2⟩, by omega, gin hxi.1 hxl⟩, λ i hi => by rw [x7]⟩, λ hc => ⟨λ h => ?_, λ _ => ⟨⟨λ hu => ?_, λ hu => ⟨x, ⟨rfl, rfl, rfl, rfl, rfl, rfl, λ _ _ => rfl⟩, ⟨⟨x1, x2, x3⟩, ⟨by omega, x5⟩, x6, x7⟩, by omega, rfl⟩⟩, λ y hy => ?_⟩⟩⟩
 ·have h := eq_of_beq h
  omega
 ·obtain ⟨b1, b2⟩ := BWK ha hx (by omega)
  have wl : IntKind.i64.wrap (x.lim - 1) = x.lim - 1 := TC (by omega) (by omega)
  exact ⟨⟨λ _ _ => trivial, ⟨by omega, by omega, by omega⟩, by omega, gin hxi.1 hxl⟩, ⟨x.a, x.b, _, x.lim - 1, x.u, x.v⟩, ⟨rfl, rfl, wl.symm, rfl, rfl, rfl, λ _ _ => rfl⟩, ⟨⟨x1, x2, x3⟩, ⟨by show (x.b : Int) - x.a <= 2 * (x.lim - 1) + 12; omega, by show x.lim - 1 <= 5; omega⟩, b1, b2⟩, by show x.a + 12 < x.b; omega, rfl⟩
 obtain ⟨hy, y8, y9⟩ := hy
 have hy : pqI a 12 y := hy
 have hyi := BDA ha hy
 have hyl := ANB hy
 have ⟨⟨y1, y2, y3⟩, ⟨y4, y5⟩, y6, y7⟩ := hy
 simp only [ATO hy]
 refine ⟨⟨λ _ _ => trivial, λ _ _ => trivial, ⟨by omega, by omega, by omega⟩, by omega, gin hyi.1 hyl⟩, BUO _, λ _ => ⟨⟨λ _ => ⟨⟨λ _ _ => trivial, λ _ _ => trivial, ⟨by omega, by omega, by omega⟩, by omega, gin hyi.1 hyl⟩, λ hs i hi => by rw [BMH ha hy hs], λ _ => ⟨y, ⟨rfl, rfl, rfl, rfl, rfl, λ _ _ => rfl⟩, hy, y8, y9⟩⟩, λ _ => ⟨y, ⟨rfl, rfl, rfl, rfl, rfl, λ _ _ => rfl⟩, hy, y8, y9⟩⟩, λ z hz => ?_⟩⟩
 obtain ⟨hz, z8, z9⟩ := hz
 have hz : pqI a 12 z := hz
 have hzi := BDA ha hz
 have hzl := ANB hz
 have ⟨⟨z1, z2, z3⟩, ⟨z4, z5⟩, z6, z7⟩ := hz
 obtain ⟨p, ⟨p1, p2⟩, p3, ⟨k1, k2⟩, m1, m2, m3⟩ := BOB ha hz (by omega)
 have p3 : chP (qbG a z) = (p : Int) := p3
 simp only [ATO hz, p3]
 generalize YN ⟨a.g, z.l, z.a, z.b⟩ (ptL (CV a.g) (NF ⟨a.g, z.l, z.a, z.b⟩) (gpK ⟨⟨a.g, z.l, z.a, z.b⟩, (p : Int)⟩)) = m at *
 generalize (gpR ⟨⟨a.g, z.l, z.a, z.b⟩, (p : Int)⟩).j = k at *
 have ml := m1.length_eq
 have rm : (ME a.l.length λ i => gD m i) = m := by rw [<- ml]; exact WA m
 have mi := xB m1 ha.1.2
 rw [rm]
 simp only [Int.toNat_natCast]
 have wa : (z.a : Int) > 0 -> IntKind.i64.wrap ((z.a : Int) - 1) = ((z.a - 1 : Nat) : Int) := λ h => (TC (by omega) (by omega)).trans (by omega)
 have e1 : IntKind.i64.wrap (((z.a + k : Nat) : Int) - z.a) = (k : Int) := (TC (by omega) (by omega)).trans (by omega)
 have e2 : IntKind.i64.wrap ((z.b : Int) - ((z.a + k : Nat) : Int)) = ((z.b - (z.a + k) : Nat) : Int) := (TC (by omega) (by omega)).trans (by omega)
 have e3 : IntKind.i64.wrap (((z.a + k : Nat) : Int) + 1) = ((z.a + k + 1 : Nat) : Int) := HL (by omega)
 rw [e1, e2, e3]
 simp only [Int.toNat_natCast]
 have R1 := uP (CV a.g) (A := z.a) (B := z.a + k) (l := m) (by omega) (by omega)
 have R2 := uP (CV a.g) (A := z.a + k + 1) (B := z.b) (l := m) (by omega) (by omega)
 refine ⟨⟨λ h => ?_, λ h => ?_, λ h => ⟨by omega, by omega⟩, λ h => by omega, λ h => ⟨?_, hzi.1 _ (by omega)⟩⟩, λ hc => ?_, λ _ => ⟨⟨λ _ _ => trivial, ⟨by omega, by omega⟩, ⟨by omega, by omega, by omega⟩, by omega, gin hzi.1 hzl⟩, λ h => (by cases h), λ hlt => ⟨⟨λ _ _ => trivial, ⟨by omega, by omega, by omega⟩, by omega, gin mi ml⟩, ⟨z.a + k + 1, z.b, Xp (CV a.g) z.a (z.a + k) m, z.lim, _, _⟩, ⟨rfl, rfl, rfl, rfl, rfl, λ _ _ => rfl⟩, ⟨⟨by show z.a + k + 1 <= z.b; omega, z2, by show z.b <= z.a + k + 1 + 20; omega⟩, ⟨by show (z.b : Int) - ((z.a + k + 1 : Nat) : Int) <= 2 * z.lim + 10; omega, z5⟩, R1.perm.trans m1, m2⟩, by show z.b - (z.a + k + 1) < _; omega⟩, λ hge => ⟨⟨trivial, λ _ _ => trivial, ⟨by omega, by omega, by omega⟩, by omega, gin mi ml⟩, ⟨z.a, z.a + k, Xp (CV a.g) (z.a + k + 1) z.b m, z.lim, _, _⟩, ⟨rfl, rfl, rfl, rfl, rfl, λ _ _ => rfl⟩, ⟨⟨by show z.a <= z.a + k; omega, by show z.a + k <= a.l.length; omega, by show z.a + k <= z.a + 20; omega⟩, ⟨by show ((z.a + k : Nat) : Int) - (z.a : Int) <= 2 * z.lim + 10; omega, z5⟩, R2.perm.trans m1, m3⟩, by show z.a + k - z.a < _; omega⟩⟩⟩
 ·rw [wa h]; omega
 ·rw [wa h]; omega
 ·rw [wa h, Int.toNat_natCast]; exact hzi.1 _ (by omega)
 ·by_cases h : (z.a : Int) > 0
  ·rw [decide_eq_true h, wa h, Int.toNat_natCast] at hc
   have bl := BCO hzi.2 (A := z.a) (B := z.b) (p := p) (l0 := a.l) (by omega) z1 (by omega) p1 p2 z7
   have hc : (!decide (Hz (CV a.g (gD z.l (z.a - 1))) (CV a.g (gD z.l p)) < 0)) = true := hc
   rw [decide_eq_true (sX.2 bl)] at hc
   cases hc
  ·rw [decide_eq_false h] at hc; cases hc
theorem BMU : AK Try.prog X7 (C_pdqL.spec dGwp) := VV C_pdqL BFG [] [] ATR (λ _ => by kernel_rfl) (λ _ => AA AFA (AA AZC (AA AZH (AA BVH (AA BXX (AA BVK (AA BWS AC))))))) (λ (a : Gw) h => BWW a h) (λ _ => WY rfl rfl) _
theorem BUT : AK Try.prog zO (C_srt.spec dGLt) := okT C_srt (λ (a : GL) h => by
 obtain ⟨h1, h2, h3⟩ : (a.l.length <= 12 ∨ (13 <= a.l.length /\ a.l.length <= 20) /\ ndk (CV a.g) a.l) /\ glOk a := h
 rcases h1 with h1 | ⟨h1, hd⟩
 ·exact Pn (A := BDU) (L := C_sort.L a) (keep := C_sort.keep a) (ren := []) (fz := []) AFE (by kernel_rfl) (AA BDR (AA AZH AC)) (by
   show BCU a; rw [BOS]<;> delta BI BF EN MM EB EA BY AF CN CO AS BE XB EU FY MN ET GW FK HV IB HK GV FU HC DV FW EY LD EP CJ DN RU Om VS WG KH AD CI AU FT GN AG GK AZ AX AE FA BM AW JP BL BD AO AR DD BA VR BK II JQ BO BJ CX BW BV AJ AQ JD AV EH FC Ag NH CK AN AL JE JO HG FX FQ FO MR AM IV FD HE DK ID DR ES BX CG BC IW HS DX HH JA PM EZ EV CU FH HQ EW AT DU LL FZ GI BN GA GC EO HD QR FS QP DY PQ MU IS MW ND MC NM EX XJ GU VO Yn BP FJ FI EI SK GF LV BH BG IP DI IQ HY YX TQ MJ DG CQ GD TW Iq FN IA HU JJ Dy YD VI SU Gq Gi; simp only [CC, eq_self, implies_true, forall_const, CL]
   rw [show IntKind.u64.wrap (a.l.length : Int) = a.l.length from u64w (by omega) (by omega)]
   simp only [Int.toNat_zero]
   exact ⟨⟨⟨by omega, by omega⟩, rfl, ⟨Nat.zero_le _, Nat.le_refl _, h1⟩, h2, h3⟩, λ i hi => by rw [ACK]⟩)
 ·exact Pn (A := BKU) (L := C_sort.L a) (keep := C_sort.keep a) (ren := []) (fz := []) AFE (by kernel_rfl) (AA AYW (AA BMU AC)) (by
   show BDB a; rw [BLU]<;> delta BI BF EN MM EB EA BY AF CN CO AS BE XB EU FY MN ET GW FK HV IB HK GV FU HC DV FW EY LD CJ DN RU Lc Om VS WG KH AD CI AU FT GN AG GK AZ AX AE FA BM AW JP BL BD AO AR DD BA VR BK II JQ BO BJ CX BW BV AJ AQ JD AV EH FC Ag NH CK AN AL JE JO HG FX FQ FO MR AM IV FD HE DK ID DR ES BX CG BC IW HS DX HH JA PM EZ EV CU FH HQ EW AT DU LL HR FZ GI BN GA GC EO HD QR QP DY PQ MU IS MW ND MC UD NM EX XJ DJ VO Yn BP FJ FI EI SK GF LV BH BG LM IP DI HB IQ HY NP YX DG CQ GD TW Iq HM HU JJ Dy YD VI SU Gi; simp only [CC, eq_self, implies_true, forall_const, CL]
   rw [show IntKind.u64.wrap (a.l.length : Int) = a.l.length from u64w (by omega) (by omega)]
   exact ⟨⟨by omega, by omega⟩, rfl, ⟨h1, h3⟩, hd⟩)) _
end Go.Bal
