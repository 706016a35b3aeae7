/- Package rating: Proves, fewer than 20 knots. -/
import Derived.Test.YtoihhodbkimedaaRatU
import Derived.Test.YtoihhodbkimedaaRT13
set_option linter.unusedVariables false
set_option linter.unusedSimpArgs false
namespace Go.Bal
open Go Go.Sym Go.Proofs
structure GsP where
 a : List Gau
 b : List Gau
def dGsP : List AVal -> Heap -> Option (GsP × List (Nat × Nat) × List Nat)
 | [x, y], H => match tL x H, tL y H with
  | some (l, f), some (m, e) => some (⟨l, m⟩, [], f ++ e)
  | _, _ => none
 | _, _ => none
def C_pv1 : Ctr := { α := GsP, xs := λ a => [.d (DX a.a), .d (DX a.b)], val := λ a => .int (Lh (gD a.a 0).st (gD a.b 0).st), pre := λ a => [0 < a.a.length /\ 0 < a.b.length] }
def BYH : Ann := ann 14 [(qL, G9)]
def CAF (a : GsP) : Prop := CH Try.prog BYH AGH (AI AGH) (C_pv1.xs a) (AD []) (C_pv1.val a) [] [] []
theorem CCL (a : GsP) : (CAF a) = (EB (AE (WW (FQ (GsP.a a))) YP (Jm (FQ (GsP.b a)))) (Jd (AX (GsP.a a) 0) (AX (GsP.b a) 0)) (Jd (AX (GsP.a a) LJ) (AX (GsP.b a) LJ))) := by kernel_rfl
def dGsD : DVal -> List Gau
 | .list _ n h _ => OC n λ i => Ux (h i)
 | _ => default
def keyS (S : List (List Gau)) (x : Int) : Int := (gD (gD S x.toNat) 0).st
def Z6 (S : List (List Gau)) : AObj := .row 1 S.length λ i => DX (gD S i)
def BYT (S : List (List Gau)) (l : List Int) : AObj := .row 1 S.length λ i => DX (gD S (gD l i).toNat)
structure SS where
 s : List (List Gau)
 a : Int
 b : Int
 e : Bool
def iE : AVal := .fn (.func VP) [] []
def oSS (S : List (List Gau)) : AVal := .own 100 1 0 S.length
def glS (S : List (List Gau)) (l : List Int) : List (Nat × HCell) := [(100, .live (BYT S l))]
def inS (S : List (List Gau)) (l : List Int) : Prop := l.length = S.length /\ ∀ i, i < S.length -> 0 <= gD l i /\ gD l i < S.length
def okSs (S : List (List Gau)) : Prop := S.length < 20 /\ ∀ i, i < S.length -> 0 < (gD S i).length
def Je (S : List (List Gau)) : List Int := stM (keyS S) (fB S.length)
def xSS (a : SS) : AVal := bif a.e then .d VG else oSS a.s
def lSS (a : SS) : List (Nat × AObj) := bif a.e then [] else [(100, Z6 a.s)]
def kSS (a : SS) : List (Nat × HCell) := bif a.e then [] else glS a.s (Je a.s)
def pSS (a : SS) : Prop := bif a.e then True else okSs a.s
def dSS : List AVal -> Heap -> Option (SS × List (Nat × Nat) × List Nat)
 | [.own id _ _ n, .d x, .d y, .fn (.func f) [] []], H => if f = VP then match H id with
  | .live (.row _ _ r) => some (⟨OC n λ i => dGsD (r i), JD x, JD y, false⟩, [(100, id)], [])
  | _ => none else none
 | [.d (.list 0 0 _ _), .d x, .d y, .fn (.func f) [] []], _ => if f = VP then some (⟨[], JD x, JD y, true⟩, [], []) else none
 | _, _ => none
def nS (a : SS) : Int := bif a.e then 0 else a.s.length
def C_insS : Ctr := { α := SS, xs := λ a => [xSS a, .int a.a, .int a.b, iE], L := lSS, val := λ _ => .d (.tup []), keep := kSS, pre := λ a => [(a.a = 0 /\ a.b = nS a) /\ pSS a] }
def iS1 (S : List (List Gau)) : Shape := { α := IL2, dflt := default, T := λ x => ⟨[(0, oSS S), (1, .int 0), (2, .int S.length), (3, iE), (8, .int x.i)], glS S x.l⟩, inv := λ x => 1 <= x.i /\ (x.i <= S.length ∨ x.i = 1) /\ inS S x.l /\ Je S = stR (keyS S) (S.length - x.i) x.i x.l, meas := λ x => S.length - x.i }
def iS4 (S : List (List Gau)) (m : Nat) : Shape := { α := IJL, dflt := default, T := λ x => ⟨[(0, oSS S), (1, .int 0), (2, .int S.length), (3, iE), (8, .int x.i), (9, .int x.j)], glS S x.l⟩, inv := λ x => S.length - x.i = m /\ 1 <= x.i /\ x.i < S.length /\ x.j <= x.i /\ inS S x.l /\ Je S = stR (keyS S) (S.length - (x.i + 1)) (x.i + 1) (dV (keyS S) x.j x.l), meas := λ x => x.j }
def BPG (S : List (List Gau)) : Ann := { ann 53 [(VP, C_pv1.spec dGsP)] with E := [100], loops := λ id => if id = 1 then some [iS1 S] else none, inner := λ gs id => if id = 4 then some [iS4 S (gs.getD 0 0)] else none }
def BTW (S : List (List Gau)) : Prop := CH Try.prog (BPG S) AMP (AI AMP) [oSS S, .int 0, .int S.length, iE] (AD [(100, Z6 S)]) (.d (.tup [])) (glS S (Je S)) [] []
abbrev EC:=@List.length (List Gau)
abbrev Li:=@gD (List Gau) (@instInhabitedList Gau)
abbrev qK:=keyS
abbrev WR a b c d:=VA a b (AW c d) (λ i=>FB i c d)
abbrev tP a b c:=Li a (Et b c)
abbrev Le a b:=tP a (Je a) b
abbrev lX a b:=FM (EC a) b
abbrev fS a b:=lX a (SR b)
abbrev Jh a:=BK (EC a)
abbrev dH a b:=JM a (Jh b)
abbrev Hp a b c:=tP a (VW b) c
abbrev Mn a:=BO (EC a)
abbrev My a:=FI (EC a)
abbrev dP a b c:=Hp a b (VS c)
abbrev cU a b c:=Hp a b (Ba c)
attribute [go_sem] EC Li qK WR tP Le lX fS Jh dH Hp Mn My dP cU
theorem BVA (S : List (List Gau)) : (BTW S) = (And (AOT (λ i=>AJ (Af AC (Mn S) BA (My S) (JE (SR i) 0) (Mn S) (λ j=>WR j (EC S) (tP S (SV i) j) (Li S j))) (lN i) (Or (DB (SR i) (EC S)) (nK i)) (EP (BB (SV i) (EC S)) (λ j=>AP j (EC S) (dH (EM (SV i) j) S))) (Gs (Je S) (qK S) (fS S i) (SR i) (SV i)))) (BCK (λ i=>SC (AH (lN i) (Or (DB (SR i) (EC S)) (nK i)) (EP (BB (SV i) (EC S)) (λ j=>AP j (EC S) (dH (EM (SV i) j) S))) (Gs (Je S) (qK S) (fS S i) (SR i) (SV i))) (SR i) (Jh S) (AOQ (λ j=>DS (E3 AC (Mn S) BA (My S) (EA (RF j) (SR i)) (EA (OA j) (SR i)) (AG (λ k=>WR k (EC S) (Hp S j k) (tP S (SV i) k)))) (AT (lX S (RF j)) (fS S i)) (lL j) (CM (RF j) (EC S)) (DB (OA j) (RF j)) (EP (BB (VW j) (EC S)) (λ k=>AP k (EC S) (dH (Od j k) S))) (Gs (Je S) (qK S) (lX S (Hr j)) (Hr j) (dV (qK S) (OA j) (VW j))))) (AZQ (λ j=>YR (QA (AT (lX S (RF j)) (fS S i)) (lL j) (CM (RF j) (EC S)) (OA j) (RF j) (EP (BB (VW j) (EC S)) (λ k=>AP k (EC S) (dH (Od j k) S))) (Gs (Je S) (qK S) (lX S (Hr j)) (Hr j) (dV (qK S) (OA j) (VW j)))) (AJ (RW (Hf j) (BK (OA j)) (Jh S)) (MY (Hf j) (JU (Ba j) (EC S))) (RW (Hf j) (nI j) (Jh S)) (MY (Hf j) (JU (VS j) (EC S))) (MY (Hf j) (AY (BR (cU S j j)) (BW (cU S j j)) (BR (dP S j j)) (BW (dP S j j)) (Pz (AU (cU S j j))) (Pz (AU (dP S j j)))))) (Ap (Hf j) (Jd (AX (AU (cU S j j)) 0) (AX (AU (dP S j j)) 0)) 0) (IR (dH (nI j) S) (CM (VS j) (EC S)) (GA (OA j) (Jh S)) (Ia (CM (Ba j) (EC S)) (GA (OA j) (Jh S)) (dH (nI j) S) (JU (VS j) (EC S))) (AOQ (λ k=>CJ (E3 AC (Mn S) BA (My S) (EA (RF k) (RF j)) (NU (OA k) (OA j)) (AG (λ l=>VA l (EC S) (CQ (Hp S k l) (Um (Is l (VS j)) (DM (cU S j j)) (Um (Is l (Ba j)) (DM (dP S j j)) (DM (Hp S j l))))) (λ m=>CL m (Hp S k l) (DE (Hp S k l) m (TL l (VS j) (AX (cU S j j) m) (TL l (Ba j) (AX (dP S j j) m) (AX (Hp S j l) m)))) (DG (Hp S k l) m (TL l (VS j) (BH (cU S j j) m) (TL l (Ba j) (BH (dP S j j) m) (BH (Hp S j l) m)))) (DF (Hp S k l) m (TL l (VS j) (BN (cU S j j) m) (TL l (Ba j) (BN (dP S j j) m) (BN (Hp S j l) m)))))))) (QA (AT (lX S (RF k)) (fS S i)) (lL k) (CM (RF k) (EC S)) (OA k) (RF k) (EP (BB (VW k) (EC S)) (λ l=>AP l (EC S) (dH (Od k l) S))) (Gs (Je S) (qK S) (lX S (Hr k)) (Hr k) (dV (qK S) (OA k) (VW k)))) (OA k) (OA j)))) (AOT (λ k=>FU (Af AC (Mn S) BA (My S) (BJ (SR k) (RF j)) (Mn S) (λ l=>WR l (EC S) (tP S (SV k) l) (Hp S j l))) (lN k) (Or (DB (SR k) (EC S)) (nK k)) (EP (BB (SV k) (EC S)) (λ l=>AP l (EC S) (dH (EM (SV k) l) S))) (Gs (Je S) (qK S) (fS S k) (SR k) (SV k)) (fS S k) (fS S i))))) (Hd (EC S) (λ j=>WR j (EC S) (Le S j) (tP S (SV i) j)))))) := by kernel_rfl
def iE1 : Shape := { α := One, dflt := default, T := λ _ => ⟨[(0, .d VG), (1, .int 0), (2, .int 0), (3, iE), (8, .int 1)], []⟩, inv := λ _ => True, meas := λ _ => 0 }
def BOY : Ann := { ann 53 [(VP, C_pv1.spec dGsP)] with loops := λ id => if id = 1 then some [iE1] else if id = 4 then some [] else none }
def BOZ (_x : One) : Prop := CH Try.prog BOY AMP (AI AMP) [.d VG, .int 0, .int 0, iE] (AD []) (.d (.tup [])) [] [] []
abbrev Kq a:=YO EF a
attribute [go_sem] Kq
theorem BWJ (_x : One) : (BOZ _x) = (And (LP (jM AC BM BA (Pd 1 (Y7 (KF 0) (wW (Jx (ABY PD))))))) (Kq EF)) := by kernel_rfl
def dSSs : List AVal -> Heap -> Option (SS × List (Nat × Nat) × List Nat)
 | [.own id _ _ n, .d x, .fn (.func f) [] []], H => if f = VP then match H id with
  | .live (.row _ _ r) => some (⟨OC n λ i => dGsD (r i), JD x, 0, false⟩, [(100, id)], [])
  | _ => none else none
 | [.d (.list 0 0 _ _), .d x, .fn (.func f) [] []], _ => if f = VP then some (⟨[], JD x, 0, true⟩, [], []) else none
 | _, _ => none
def C_stS : Ctr := { α := SS, xs := λ a => [xSS a, .int a.a, iE], L := lSS, val := λ _ => .d (.tup []), keep := kSS, pre := λ a => [a.a = nS a /\ pSS a] }
def sbS (S : List (List Gau)) (c : HCell) (r : List (Nat × AVal)) : Shape := { α := One, dflt := default, T := λ _ => ⟨[(0, oSS S), (1, .int S.length), (2, iE), (6, .int 20)] ++ r, [(100, c)]⟩, inv := λ _ => True, meas := λ _ => 0 }
def BZA (S : List (List Gau)) : Ann := { ann 63 [(AHN, C_insS.spec dSS)] with E := [100], loops := λ id => if id = 2 then some [sbS S (.live (Z6 S)) [(7, .int 0), (8, .int 20)]] else if id = 7 then some [sbS S (.live (BYT S (Je S))) []] else none }
def CAT (S : List (List Gau)) : Prop := CH Try.prog (BZA S) BAT (AI BAT) [oSS S, .int S.length, iE] (AD [(100, Z6 S)]) (.d (.tup [])) (glS S (Je S)) [] []
abbrev iJ a:=(@OC (List Gau)) (EC a) (λ i=>dGsD (DX (Li a i)))
abbrev OU a:=EC (iJ a)
abbrev cG a b c d e f g h:=AQ a b c d b e f g h
abbrev Tt a b:=Li (iJ a) b
attribute [go_sem] iJ OU cG Tt
theorem CEB (S : List (List Gau)) : (CAT S) = (And (LP (AH AC (Mn S) (My S) (Ia Qp BA (Mn S) (AG (λ i=>VA i (EC S) (AS (Li S i)) (λ j=>HD j (Li S i))))))) (NR (λ i=>Lc EF (hd7 20 (Jh S)) (And (cG AC (AT (OU S) (EC S)) Aj (FH 20 20) (AG (λ j=>WR j (OU S) (Tt S j) (Li S j))) (EB Aj 20 (nS (SS.mk (iJ S) 0 20 Dc))) (CM (OU S) 20) (AG (λ j=>AP j (OU S) (Pz (Tt S j))))) (WH (λ j=>CJ (BI AC (Mn S) (My S) Qp (Pd 0 20) (Pd 20 (Y7 (KT 20 20) (wW (Jx (ABY PD))))) (AT (EC S) (OU S)) (AG (λ k=>WR k (EC S) (Li S k) (Le (iJ S) k)))) EF 0 0))) (AE (cG AC (AT (OU S) (EC S)) Aj (My S) (AG (λ j=>WR j (OU S) (Tt S j) (Li S j))) (And Aj (ED (EC S) (nS (SS.mk (iJ S) 0 (Jh S) Dc)))) (CM (OU S) 20) (AG (λ j=>AP j (OU S) (Pz (Tt S j))))) (LP (AY AC (Mn S) (My S) Qp (AT (EC S) (OU S)) (AG (λ j=>WR j (EC S) (Le S j) (Le (iJ S) j))))) (NR (λ j=>EZ EF 20 (Jh S) WQ (Hd (EC S) (λ k=>VA k (EC S) (AS (Le S k)) (λ l=>HD l (Le S k)))))))))) := by kernel_rfl
def sbE (r : List (Nat × AVal)) : Shape := { α := One, dflt := default, T := λ _ => ⟨[(0, .d VG), (1, .int 0), (2, iE), (6, .int 20)] ++ r, []⟩, inv := λ _ => True, meas := λ _ => 0 }
def BZC : Ann := { ann 63 [(AHN, C_insS.spec dSS)] with loops := λ id => if id = 2 then some [sbE [(7, .int 0), (8, .int 20)]] else if id = 7 then some [sbE []] else none }
def CBQ (_x : One) : Prop := CH Try.prog BZC BAT (AI BAT) [.d VG, .int 0, iE] (AD []) (.d (.tup [])) [] [] []
theorem CDW (_x : One) : (CBQ _x) = (And (LP (SO (AOH BM BA Qp))) (Kq (AE (SO (Ka BM BA (xX BA) EF)) (LP (AH AC BM BA Qp)) (Kq EF)))) := by kernel_rfl
def dSSt : List AVal -> Heap -> Option (SS × List (Nat × Nat) × List Nat)
 | [.own id _ _ n, .fn (.func f) [] []], H => if f = VP then match H id with
  | .live (.row _ _ r) => some (⟨OC n λ i => dGsD (r i), 0, 0, false⟩, [(100, id)], [])
  | _ => none else none
 | [.d (.list 0 0 _ _), .fn (.func f) [] []], _ => if f = VP then some (⟨[], 0, 0, true⟩, [], []) else none
 | _, _ => none
def C_ssS : Ctr := { α := SS, xs := λ a => [xSS a, iE], L := lSS, val := λ _ => .d (.tup []), keep := kSS, pre := λ a => [pSS a] }
def BZK : Ann := { ann 9 [(ASQ, C_stS.spec dSSs)] with E := [100] }
def CBR (S : List (List Gau)) : Prop := CH Try.prog BZK BBV (AI BBV) [oSS S, iE] (AD [(100, Z6 S)]) (.d (.tup [])) (glS S (Je S)) [] []
theorem CCS (S : List (List Gau)) : (CBR S) = (UH (BI AC (AT (OU S) (EC S)) (My S) (AT (OU S) (EC S)) (AG (λ i=>WR i (OU S) (Tt S i) (Li S i))) (ED (EC S) (nS (SS.mk (iJ S) (Jh S) 0 Dc))) (CM (OU S) 20) (AG (λ i=>AP i (OU S) (Pz (Tt S i))))) (AT (EC S) (OU S)) (λ i=>WR i (EC S) (Le S i) (Le (iJ S) i))) := by kernel_rfl
def BYW : Ann := ann 9 [(ASQ, C_stS.spec dSSs)]
def BYL (_x : One) : Prop := CH Try.prog BYW BBV (AI BBV) [.d VG, iE] (AD []) (.d (.tup [])) [] [] []
theorem CBW (_x : One) : (BYL _x) = (((0 : Nat) = (0 : Nat) /\ (∀ (i : Nat), i < (0 : Nat) -> false = false) /\ Int.ofNat (0 : Nat) = Int.ofNat (0 : Nat) /\ Int.ofNat (0 : Nat) = Int.ofNat (0 : Nat) /\ True) /\ True) :=
 by kernel_rfl
theorem BTF : AL Try.prog VP (C_pv1.spec dGsP) := Ih C_pv1 (λ _ => BYH) [] [] BFX (λ _ => by kernel_rfl) (λ _ => AB AKI AF) (λ (a : GsP) h => by
 show CAF a; rw [CCL]<;> delta GH AO Jd BK DW DT DM GP GF AE FQ bR AX LJ EB YP Jm Oi WW
 obtain ⟨h1, h2⟩ : 0 < a.a.length /\ 0 < a.b.length := h
 exact ⟨⟨⟨by omega, by omega⟩, by omega, by omega⟩, rfl⟩) (λ _ => Jf rfl rfl) _
theorem CFC (l : List Gau) : dGsD (DX l) = l := by
 show OC l.length (λ i => Ux (eGau (gD l i))) = l
 simp only [BNP]; exact Eo l
theorem BOI (S : List (List Gau)) : (OC S.length λ i => dGsD (DX (gD S i))) = S := by
 simp only [CFC]; exact Eo S
theorem CDX (S : List (List Gau)) (h : okSs S) : BTW S := by
 rw [BVA]<;> delta KY hd5 Dc GH HK FK KN PN FA AO Jd ZR AT CX AG CG CM EM BK DB DW DT QP PD RO FM Ah YC DM GP GF Il KT Ie Is AOT SR SV AAR BCK AOQ RF OA VW AZQ Um EC Li qK AE AJ AP DR AU AK BO Ia DK AX AH BH TA CY BN CL CA KF DP AC BB ED IG CQ EP DF CF DG EN AW AY Et LW CJ DE DN EO EA tP DS DY MY QJ VA JM EU FE DV FG UQ QF JE HG IF FB Mb BE IK BA BI BW E3 EZ RW BJ BR Sx Hd QW Af DH HC Cz FI Hp Db VS GA Ba JU FU NU IR Jh Le TL lX QA Hf Hr Mn Od My SC Gs Ap WR fS dH Pz YR cU dP nK nI lL lN; simp only [CC, eq_self, implies_true, forall_const]
 obtain ⟨hlen, hne⟩ := h
 have rfl3 : ∀ (l : List Gau), l.length = l.length /\ ∀ i, i < l.length -> (gD l i).st = (gD l i).st /\ (gD l i).lo = (gD l i).lo /\ (gD l i).hi = (gD l i).hi := λ l => ⟨rfl, λ _ _ => ⟨rfl, rfl, rfl⟩⟩
 refine ⟨⟨⟨1, fB S.length⟩, ⟨by show (1 : Int) = _; rw [LS (by omega) (by omega)]; rfl, λ i hi => ?_⟩, Nat.one_pos, .inr rfl, ⟨OE _, λ i hi => ?_⟩, ?_⟩, λ x ⟨x1, x2, ⟨x3, x4⟩, x5⟩ => ⟨λ hlt => ⟨⟨⟨x.i, x.i, x.l⟩, ⟨rfl, rfl, λ _ _ => rfl3 _⟩, rfl, x1, Int.ofNat_lt.1 hlt, Nat.le_refl _, ⟨x3, x4⟩, ?_⟩, λ y ⟨y1, y2, y3, y4, ⟨y5, y6⟩, y7⟩ => ?_⟩, λ hge => ?_⟩⟩
 ·rw [AHB hi]; exact rfl3 _
 ·rw [AHB hi]; omega
 ·unfold Je stM; rw [OE]
 ·rw [x5, show S.length - x.i = (S.length - (x.i + 1)) + 1 by omega]; rfl
 ·have g6 : ∀ i, i < S.length -> (gD y.l i).toNat < S.length := λ i hi => by have := y6 i hi; omega
  refine ⟨⟨λ _ => ⟨by omega, by omega⟩, λ _ => by omega, λ hj => ?_, λ hj => ?_, λ hj => ⟨hne _ (g6 _ (by omega)), hne _ (g6 _ ?_)⟩⟩, λ hc => ?_, λ hc => ?_⟩
  ·rw [LS (by omega) (by omega)]; omega
  ·rw [LS (by omega) (by omega)]; omega
  ·rw [LS (by omega) (by omega)]; omega
  ·have hj : 0 < y.j := by
    cases hd : decide ((y.j : Int) > 0) with
    | false => rw [hd] at hc; cases hc
    | true => have := of_decide_eq_true hd; omega
   obtain ⟨j, hj2⟩ : ∃ j, y.j = j + 1 := ⟨y.j - 1, by omega⟩
   have e : IntKind.i64.wrap ((y.j : Int) - 1) = (j : Nat) := by rw [LS (by omega) (by omega)]; omega
   rw [decide_eq_true (show (y.j : Int) > 0 by omega)] at hc
   have hc : decide (Lh (keyS S (gD y.l y.j)) (keyS S (gD y.l (IntKind.i64.wrap ((y.j : Int) - 1)).toNat)) < 0) = true := hc
   rw [e] at hc ⊢
   simp only [Int.toNat_natCast] at hc ⊢
   refine ⟨⟨⟨by omega, by omega⟩, by omega, ⟨by omega, by omega⟩, by omega, ⟨by omega, by omega⟩, by omega, ⟨by omega, by omega⟩, by omega⟩, ⟨y.i, j, swL y.l j⟩, ⟨rfl, rfl, λ i hi => ?_⟩, ⟨y1, y2, y3, by show j <= y.i; omega, ⟨by rw [AFW]; exact y5, λ i hi => ?_⟩, ?_⟩, by show j < _; omega⟩
   ·show (gD S (gD (swL y.l j) i).toNat).length = _ /\ ∀ i_1, i_1 < (gD S (gD (swL y.l j) i).toNat).length -> (gD (gD S (gD (swL y.l j) i).toNat) i_1).st = _ /\ (gD (gD S (gD (swL y.l j) i).toNat) i_1).lo = _ /\ (gD (gD S (gD (swL y.l j) i).toNat) i_1).hi = _
    rw [Z2 (by omega), hj2]
    cases decide (i = j)
    ·cases decide (i = j + 1)
     ·exact rfl3 _
     ·exact rfl3 _
    ·exact rfl3 _
   ·show 0 <= gD (swL y.l j) i /\ gD (swL y.l j) i < _
    rw [Z2 (by omega)]
    cases decide (i = j)
    ·cases decide (i = j + 1)
     ·exact y6 i hi
     ·exact y6 j (by omega)
    ·exact y6 (j + 1) (by omega)
   ·rw [hj2] at hc y7
    unfold dV at y7
    rw [hc] at y7; exact y7
  ·have hq : dV (keyS S) y.j y.l = y.l := by
    cases hd : decide ((y.j : Int) > 0) with
    | false =>
     have := of_decide_eq_false hd
     rw [show y.j = 0 by omega]; rfl
    | true =>
     have hj := of_decide_eq_true hd
     obtain ⟨j, hj2⟩ : ∃ j, y.j = j + 1 := ⟨y.j - 1, by omega⟩
     have e : IntKind.i64.wrap ((y.j : Int) - 1) = (j : Nat) := by rw [LS (by omega) (by omega)]; omega
     rw [hd] at hc
     have hc : decide (Lh (keyS S (gD y.l y.j)) (keyS S (gD y.l (IntKind.i64.wrap ((y.j : Int) - 1)).toNat)) < 0) = false := hc
     rw [e, hj2] at hc
     simp only [Int.toNat_natCast] at hc
     rw [hj2]; unfold dV; rw [hc]; rfl
   rw [hq] at y7
   refine ⟨⟨y.i + 1, y.l⟩, ⟨(EQ (by omega)).symm, λ _ _ => rfl3 _⟩, ⟨by show 0 < y.i + 1; omega, .inl (by show y.i + 1 <= _; omega), ⟨y5, y6⟩, y7⟩, by show S.length - (y.i + 1) < _; omega⟩
 ·intro i hi
  rw [x5, show S.length - x.i = 0 by omega]; exact rfl3 _
theorem BIY : AL Try.prog AHN (C_insS.spec dSS) := okT C_insS (λ (a : SS) h => by
 obtain ⟨⟨ha, hb⟩, h⟩ : (a.a = 0 /\ a.b = nS a) /\ pSS a := h
 obtain ⟨S, x, y, e⟩ := a
 cases ha
 have hb : y = nS ⟨S, 0, y, e⟩ := hb
 cases e with
 | true =>
  show FnT Try.prog AHN [.d VG, .int 0, .int y, iE] (AD []) _ []
  rw [show y = 0 from hb]
  exact Lg (A := BOY) (L := []) (keep := []) (ren := []) (fz := []) BHV (by kernel_rfl) (AB BTF AF) (by show BOZ default; rw [BWJ]<;> delta KY Dc AO AT AG CG CM PD YC wW EF KT WH NR Y7 ABY AE AJ AP AK BO JQ jM KF AC ZJ BM UQ FH BA TN LP YO Kq Jx Pd; simp only [CC, eq_self, implies_true, forall_const]; exact ⟨default, rfl⟩)
 | false =>
  show FnT Try.prog AHN [oSS S, .int 0, .int y, iE] (AD [(100, Z6 S)]) _ (glS S (Je S))
  rw [show y = S.length from hb]
  exact Lg (A := BPG S) (L := [(100, Z6 S)]) (keep := glS S (Je S)) (ren := []) (fz := []) BHV (by kernel_rfl) (AB BTF AF) (CDX S h)) _
theorem BTL : AL Try.prog ASQ (C_stS.spec dSSs) := okT C_stS (λ (a : SS) h => by
 obtain ⟨ha, h⟩ : a.a = nS a /\ pSS a := h
 obtain ⟨S, x, y, e⟩ := a
 have ha : x = nS ⟨S, x, y, e⟩ := ha
 cases e with
 | true =>
  show FnT Try.prog ASQ [.d VG, .int x, iE] (AD []) _ []
  rw [show x = 0 from ha]
  exact Lg (A := BZC) (L := []) (keep := []) (ren := []) (fz := []) BPP (by kernel_rfl) (AB BIY AF) (by show CBQ default; rw [CDW]<;> delta KY Dc AO AT AG CG CM YC EF WH NR AE AJ AP AK BO JQ xX Ep AOH Ka AH AC ZJ BM UQ BA TN LP YO SO Qp Kq; simp only [CC, eq_self, implies_true, forall_const]; exact ⟨default, trivial⟩)
 | false =>
  have h : okSs S := h
  show FnT Try.prog ASQ [oSS S, .int x, iE] (AD [(100, Z6 S)]) _ (glS S (Je S))
  rw [show x = S.length from ha]
  refine Lg (A := BZA S) (L := [(100, Z6 S)]) (keep := glS S (Je S)) (ren := []) (fz := []) BPP (by kernel_rfl) (AB BIY AF) ?_
  show CAT S
  rw [CEB]<;> delta hd7 Dc GH HK FK KN FA AO AT AG CG CM EM BK PD YC wW WQ DM GP EF GF KT WH NR Y7 ABY EC Li AE AJ AP AK BO Ia AX AQ AH BH CY BN CL AC ED cG CQ EP DF DG EN AW AY Et CJ DE DN AS EO tP DY VA EU FE DV FG MK UQ IF FB HD iJ FH IK BA BI EZ EB Hd TN FI OU Jh Lc LP Le Tt Aj Mn My Qp WR Pz Jx Pd; simp only [CC, eq_self, implies_true, forall_const, BOI]
  have h1 := h.1
  exact ⟨⟨default, trivial⟩, λ hc => by omega, λ _ => ⟨⟨rfl, ⟨rfl, rfl⟩, h⟩, ⟨default, trivial⟩, λ hc => by omega⟩⟩) _
theorem BTE : AL Try.prog ASZ (C_ssS.spec dSSt) := okT C_ssS (λ (a : SS) h => by
 have h : pSS a := h
 obtain ⟨S, x, y, e⟩ := a
 cases e with
 | true =>
  show FnT Try.prog ASZ [.d VG, iE] (AD []) _ []
  exact Lg (A := BYW) (L := []) (keep := []) (ren := []) (fz := []) BOM (by kernel_rfl) (AB BTL AF) (by show BYL default; rw [CBW]; simp only [CC, eq_self, implies_true, forall_const])
 | false =>
  have h : okSs S := h
  show FnT Try.prog ASZ [oSS S, iE] (AD [(100, Z6 S)]) _ (glS S (Je S))
  refine Lg (A := BZK) (L := [(100, Z6 S)]) (keep := glS S (Je S)) (ren := []) (fz := []) BOM (by kernel_rfl) (AB BTL AF) ?_
  show CBR S
  rw [CCS]<;> delta Dc GH HK FK AO AT AG CG CM EM BK DM GP GF EC Li AE AJ AP AK BO AX AH BH CY BN CL AC ED CQ EP DF DG EN AW Et DE DN EO tP DY VA EU FE DV FG FB iJ IK BI FI OU Jh Le Tt UH My WR Pz; simp only [CC, eq_self, implies_true, forall_const, BOI]
  exact ⟨rfl, h⟩) _
end Go.Bal
