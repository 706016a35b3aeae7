/- Package chart: every pair. Printed by gench2.py. -/
import Derived.Test.YtdbjalgfomknhaaChG1
set_option linter.unusedVariables false
set_option linter.unusedSimpArgs false
namespace Go.Bal
open Go Go.Sym Go.Proofs
def LXPp (q : Dk) : List (Nat × AObj) := [(101, dkB q 102), (102, dkM q)]
def KXPp (q : Dk) : List (Nat × HCell) := [(101, .live (dkB q 102)), (102, .live (dkM q))]
def fvPp (q : Dk) : AVal := .fn (.func AKJ) [.bptr 101 0] []
def BPp (q : Dk) : AObj := .box [fvPp q]
structure EPp where
 q : Dk
 e : Pr
structure MPp where
 q : Dk
 l : List Pr
def C1Pp : Ctr := { ro := [100, 101, 102], α := EPp, xs := λ a => [.d (ePr a.e), .bptr 100 0], L := λ a => (100, BPp a.q) :: LXPp a.q, val := λ a => .bool (!Sw a.q.c a.e), keep := λ a => (100, .live (BPp a.q)) :: KXPp a.q, pre := λ a => [a.q.c.ns.length < 1073741824 /\ True] }
def d1Pp : List AVal -> Heap -> Option (EPp × List (Nat × Nat) × List Nat)
 | [.d d, .bptr id _], H => match H id with
  | .live (.box [.fn _ [.bptr j _] _]) => match wL H j with
   | some (q, m) => some (⟨q, dPr d⟩, [(100, id), (101, j), (102, m)], [])
   | none => none
  | _ => none
 | _, _ => none
def A1Pp : Ann := { ann 8 [(AKJ, C_pair.spec dDkP)] with E := [100, 101, 102] }
def V1Pp (a : EPp) : Prop := CR Try.prog A1Pp BGL (AL BGL) (C1Pp.xs a) (AE (C1Pp.L a)) (C1Pp.val a) (C1Pp.keep a) [] []
abbrev I5:=EPp.q
abbrev KQ a:=AG (I5 a)
attribute [go_sem] I5 KQ
theorem BVN (a : EPp) : (V1Pp a) = (HF (HF (AJ (Pr.a (EPp.e a))) (AJ (Pr.b (EPp.e a))) (AT (KQ a)) (AW (KQ a)) (AV (KQ a)) (BA (KQ a)) (BB (KQ a)) (KO (BF (KQ a)) (λ i=>CE i (KQ a)) (CA (KQ a)) (λ i=>BC i (KQ a) (BG (KQ a) i) (BD (KQ a) i) (AP (KQ a) i) (AZ (KQ a) i) (AO (KQ a) i) (BE (KQ a) i) (AM (KQ a) i)) (λ i=>FU i (I5 a)) BI (EN (KQ a)) (λ i=>JY (I5 a) i) (AN (EM (KQ a)) (AT (KQ a)) (AW (KQ a)) (AV (KQ a)) (BA (KQ a)) (BB (KQ a)) (DQ (KQ a)) (FI (KQ a)) (NN (DK (KQ a)) (EJ (KQ a)) (λ i=>FU i (I5 a)) (EY (KQ a)) (I5 a) (GC (KQ a)) (RK (FN (KQ a))) II)))) (Bk (not (bB (KQ a) (EPp.e a))) (bB (DG (KQ a)) (EPp.e a))) (AT (KQ a)) (AW (KQ a)) (AV (KQ a)) (BA (KQ a)) (BB (KQ a)) (JM (KQ a) (λ i=>FU i (I5 a)) (I5 a))) := by kernel_rfl
theorem BXB : AR Try.prog AQU (C1Pp.spec d1Pp) := Bl C1Pp (λ _ => A1Pp) [] [] BSM (λ _ => by kernel_rfl) (λ _ => AC BKJ AI) (λ (a : EPp) h => by
 have h : a.q.c.ns.length < 1073741824 := (show a.q.c.ns.length < 1073741824 /\ True from h).1
 show V1Pp a; rw [BVN]<;> delta LV CI CH FE EE FH CL AF CV DC AS JT HP GG IQ IV IX JU GZ GM HK LC II OE DF MA AG ID bB I5 AH DD EL EW GS AK BN BQ CF AJ HR GI BU FT BJ KB AN AM BV AZ CD BR JD BL AO DZ EI NO DV DI CB GN AT BB EP HD BO DG DY AP BT BA ED AW BE XT AV FN GF FA DB CM NC GR KU PN EU GQ BD TY BH BI Et TW IT GA GD UE GJ EC WX Be EA FY KQ MW XD JY BC KO MB LY Bc BF CA DK FU BG FP HB KT KX LJ GT KR LI Dq DQ DE QN CE DT VM WP ME KI HF UP WQ DX TU EJ JM UU WS EN FI EY UW WK EM RK TZ GC RE NN Bk; simp [wr, PL, h, DW]) (λ _ => Ec rfl rfl) _
def d2Pp : List AVal -> Heap -> Option (MPp × List (Nat × Nat) × List Nat)
 | [y, .fn _ _ [.bptr id _]], H => match wA y H with
  | some (n, g, f) => match H id with
   | .live (.box [.fn _ [.bptr j _] _]) => match wL H j with
    | some (q, m) => some (⟨q, OF n λ i => dPr (g i)⟩, [(100, id), (101, j), (102, m)], f)
    | none => none
   | _ => none
  | none => none
 | _, _ => none
def A2Pp (a : MPp) : Ann := { ann 19 [(AQU, C1Pp.spec d1Pp)] with E := [100, 101, 102], loops := λ id => if id = 2 then some [{ α := Nat, dflt := 0, T := λ k => ⟨[(0, .d (Zo a.l)), (1, .fn (.func AQU) [] [.bptr 100 0]), (7, .int a.l.length), (8, .int k)], (100, .live (BPp a.q)) :: KXPp a.q⟩, inv := λ k => k <= a.l.length /\ Tl (λ i => !Sw a.q.c (gD a.l i)) a.l.length 0 = Tl (λ i => !Sw a.q.c (gD a.l i)) (a.l.length - k) k, meas := λ k => a.l.length - k }] else none }
def PPp (a : MPp) : List Prop := [a.l.length < 4611686018427387904 /\ a.q.c.ns.length < 1073741824]
def C2Pp : Ctr := { ro := [100, 101, 102], α := MPp, xs := λ a => [.d (Zo a.l), .fn (.func AQU) [] [.bptr 100 0]], L := λ a => (100, BPp a.q) :: LXPp a.q, val := λ a => .int (Tl (λ i => !Sw a.q.c (gD a.l i)) a.l.length 0), keep := λ a => (100, .live (BPp a.q)) :: KXPp a.q, pre := PPp }
def V2Pp (a : MPp) : Prop := CR Try.prog (A2Pp a) BCK (AL BCK) (C2Pp.xs a) (AE (C2Pp.L a)) (C2Pp.val a) (C2Pp.keep a) [] []
abbrev SM:=@List.length Pr
abbrev Lw:=MPp.l
abbrev Sa:=@gD Pr instInhabitedPr
abbrev Hm:=MPp.q
abbrev Ag a b:=FU a (Hm b)
abbrev CO a:=AG (Hm a)
abbrev Jf a:=BB (CO a)
abbrev Ii a:=BA (CO a)
abbrev Is a:=AV (CO a)
abbrev Je a:=AW (CO a)
abbrev Jj a:=AT (CO a)
abbrev VV a:=SM (Lw a)
abbrev T5 a b:=bB (CO a) b
abbrev xZ a b:=Sa (Lw a) b
abbrev Nv a b c:=T5 a (xZ b c)
abbrev VR a b:=Pr.b (Sa a b)
abbrev Yx a b:=AJ (VR a b)
abbrev VU a b:=Pr.a (Sa a b)
abbrev Ya a b:=AJ (VU a b)
attribute [go_sem] SM Lw Sa Hm Ag CO Jf Ii Is Je Jj VV T5 xZ Nv VR Yx VU Ya
theorem BXL (a : MPp) : (V2Pp a) = (NL (λ i=>NK (BU (VV a)) (DP (AF (λ j=>BR j (VV a) (Ya (Lw a) j) (Yx (Lw a) j))) (GX (VV a)) (CY i) (CO a) (λ j=>Ag j a) (Hm a)) (CW i (VV a)) (RU (λ j=>Nv a a j) (VV a) (λ j=>Nv a a j) i i)) (λ i=>MH (CW i (VV a)) (RU (λ j=>Nv a a j) (VV a) (λ j=>Nv a a j) i i) i (CG (VV a)) (JO (IW i (VV a)) (Ya (Lw a) i) (Yx (Lw a) i) (CO a) (KO (BF (CO a)) (λ j=>CE j (CO a)) (CA (CO a)) (λ j=>BC j (CO a) (BG (CO a) j) (BD (CO a) j) (AP (CO a) j) (AZ (CO a) j) (AO (CO a) j) (BE (CO a) j) (AM (CO a) j)) (λ j=>Ag j a) BI (EN (CO a)) (λ j=>JY (Hm a) j) (AN (EM (CO a)) (Jj a) (Je a) (Is a) (Ii a) (Jf a) (DQ (CO a)) (FI (CO a)) (NN (DK (CO a)) (EJ (CO a)) (λ j=>Ag j a) (EY (CO a)) (Hm a) (GC (CO a)) (RK (FN (CO a))) II)))) (MV (not (bB (DG (CO a)) (xZ a i))) (GH (XZ (λ j=>Nv a a j) (VV a) (CG i)) (Jj a) (Je a) (Is a) (Ii a) (Jf a) (JM (CO a) (λ j=>Ag j a) (Hm a))) (λ j=>FW (And (BU (VV a)) (DP (AF (λ k=>BR k (VV a) (Ya (Lw a) k) (Yx (Lw a) k))) (GX (VV a)) (CJ j i) (CO a) (λ k=>Ag k a) (Hm a))) (CW j (VV a)) (RU (λ k=>Nv a a k) (VV a) (λ k=>Nv a a k) j j) (VV a) j i)) (GH (XZ (λ j=>Nv a a j) (VV a) (-1)) (Jj a) (Je a) (Is a) (Ii a) (Jf a) (JM (CO a) (λ j=>Ag j a) (Hm a))))) := by kernel_rfl
theorem p2Pp (a : MPp) (h : DO (PPp a)) : V2Pp a := by
 obtain ⟨h, hp⟩ : a.l.length < 4611686018427387904 /\ a.q.c.ns.length < 1073741824 := h
 rw [BXL]<;> delta LV CI CH FE PS SI EE FH CL AF CV DC AS CG CW FG PD HU KV UC MT JT HP GG IQ IV IX JU GZ GM HK LC IF II OE DF MA AG ID bB SM Lw Sa Hm AH DD EL EW GS AK BN BQ CF AJ HR GI BU FT BJ KB AN AM BV AZ CD BR JD BL AO DZ JI CO EI NO DV DI CB GN AT BB GO EP HD BO DG DY AP BT BA ED AW BE XT FZ CX AV FN GF FA DB CM EF NC GR JF KU PN EU GQ HZ BD TY BI Et TW IT GA CS GD EH UE GJ EC WX DH Be EA FY IW MW JE XD JY BC KO MB LY Bc BF CA DK FU BG FP HB KT KX LJ GT GX KR LI Hv CJ Dq VR OY VV VU Hu GH PM IM DQ SQ DE QN CE DT VM WP CY KZ ME KI UP WQ XZ xZ JO DX TU EJ JM UU WS IR FW EN FI EY UW MI DP WK EM RK NL TZ GC NK MV Ag T5 RU Is Je RE Ii MH Nv Jf Jj NN Ya Yx
 simp only [CC, eq_self, implies_true, forall_const]
 refine ⟨⟨0, rfl, Nat.zero_le _, rfl⟩, λ k ⟨h1, h2⟩ => ⟨λ hlt => ?_, λ hge => ?_⟩⟩
 ·have hlt : k < a.l.length := by omega
  refine ⟨⟨⟨by omega, by omega⟩, hp⟩, λ hp => ?_, λ hp => ⟨k + 1, (MO (by omega)).symm, ⟨by omega, ?_⟩, by omega⟩⟩
  ·rw [h2]; exact Zi hlt (by simpa using hp)
  ·rw [h2]; exact U4 hlt (by simpa using hp)
 ·rw [h2]; exact tN (by omega)
theorem BVT : AR Try.prog BFS (C2Pp.spec d2Pp) := Bl C2Pp A2Pp [] [] BTM (λ _ => by kernel_rfl) (λ _ => AC BXB AI) p2Pp (λ _ => Ec rfl rfl) _
def C3Pp : Ctr := { C2Pp with val := λ (a : MPp) => .bool (decide (Tl (λ i => !Sw a.q.c (gD a.l i)) a.l.length 0 >= 0)) }
def d3Pp : List AVal -> Heap -> Option (C3Pp.α × List (Nat × Nat) × List Nat) := d2Pp
def A3Pp : Ann := { ann 9 [(BFS, C2Pp.spec d2Pp)] with E := [100, 101, 102] }
def V3Pp (a : MPp) : Prop := CR Try.prog A3Pp BEA (AL BEA) (C3Pp.xs a) (AE (C3Pp.L a)) (C3Pp.val a) (C3Pp.keep a) [] []
abbrev oQ:=@OF Pr
abbrev Xv a b:=oQ (VV a) (λ i=>xZ b i)
abbrev Tk a b:=SM (Xv a b)
attribute [go_sem] oQ Xv Tk
theorem BVY (a : MPp) : (V3Pp a) = (HF (HF (CL (Tk a a) (VV a)) (AF (λ i=>EA i (Tk a a) (VU (Xv a a) i) (VU (Lw a) i) (VR (Xv a a) i) (VR (Lw a) i))) (Jj a) (Je a) (Is a) (Ii a) (Jf a) (KO (BF (CO a)) (λ i=>CE i (CO a)) (CA (CO a)) (λ i=>BC i (CO a) (BG (CO a) i) (BD (CO a) i) (AP (CO a) i) (AZ (CO a) i) (AO (CO a) i) (BE (CO a) i) (AM (CO a) i)) (λ i=>Ag i a) BI (EN (CO a)) (λ i=>JY (Hm a) i) (AN (EM (CO a)) (Jj a) (Je a) (Is a) (Ii a) (Jf a) (DQ (CO a)) (FI (CO a)) (NN (DK (CO a)) (EJ (CO a)) (λ i=>Ag i a) (EY (CO a)) (Hm a) (GC (CO a)) (EG (Tk a a)) (RK (FN (CO a))))))) (LV (NG (λ i=>Nv a a i) (VV a)) (NG (λ i=>bB (DG (CO a)) (Sa (Xv a a) i)) (Tk a a))) (Jj a) (Je a) (Is a) (Ii a) (Jf a) (JM (CO a) (λ i=>Ag i a) (Hm a))) := by kernel_rfl
theorem BWG : AR Try.prog BCZ (C3Pp.spec d3Pp) := Ctr.spec_ok (C := C3Pp) (λ (a : MPp) h => Ky (A := A3Pp) (ren := []) (fz := []) BQQ (by kernel_rfl) (AC BVT AI) (by
 obtain ⟨h, hp⟩ : a.l.length < 4611686018427387904 /\ a.q.c.ns.length < 1073741824 := h
 show V3Pp a; rw [BVY]<;> delta LV bO CI CH FE EE FH CL AF CV DC AS JT HP GG IQ IV IX JU GZ GM HK LC OE DF MA AG ID bB SM Lw Sa Hm oQ AH DD EL EW GS AK BN BQ CF AJ HR GI BU FT BJ KB AN AM BV AZ CD BR JD BL AO DZ CO EI NO DV DI CB GN AT BB EP HD BO DG DY AP BT BA ED AW BE XT AV FN GF FA DB CM NC GR KU PN EU GQ BD TY BH BI Et EG TW IT GA GD UE GJ EC WX Be EA FY MW XD JY BC KO MB LY Bc BF CA DK FU BG FP HB KT KX LJ GT KR LI Hv Dq VR VV VU Hu DQ DE QN CE DT VM WP ME KI HF UP WQ xZ DX TU EJ JM UU WS EN FI EY UW WD WK EM NG RK TZ Xv GC Ag T5 Is Je RE Ii Nv Tk Jf Jj NN; simp [h, hp, PL, DW])) _
def d4Pp : List AVal -> Heap -> Option (MPp × List (Nat × Nat) × List Nat)
 | [y, .fn _ [.bptr j _] _], H => match wA y H with
  | some (n, g, f) => match wL H j with
   | some (q, m) => some (⟨q, OF n λ i => dPr (g i)⟩, [(101, j), (102, m)], f)
   | none => none
  | none => none
 | _, _ => none
def A4Pp : Ann := { ann 9 [(BCZ, C3Pp.spec d3Pp)] with E := [101, 102] }
def C4Pp : Ctr := { ro := [101, 102], α := MPp, xs := λ a => [.d (Zo a.l), fvPp a.q], L := λ a => LXPp a.q, val := λ a => .bool (a.l.all λ x => Sw a.q.c x), keep := λ a => KXPp a.q, pre := PPp }
def V4Pp (a : MPp) : Prop := CR Try.prog A4Pp F_eP (AL F_eP) (C4Pp.xs a) (AE (C4Pp.L a)) (C4Pp.val a) (C4Pp.keep a) [] []
theorem BUR (a : MPp) : (V4Pp a) = (HF (HF (CL (Tk a a) (VV a)) (AF (λ i=>EA i (Tk a a) (VU (Xv a a) i) (VU (Lw a) i) (VR (Xv a a) i) (VR (Lw a) i))) (Jj a) (Je a) (Is a) (Ii a) (Jf a) (KO (BF (CO a)) (λ i=>CE i (CO a)) (CA (CO a)) (λ i=>BC i (CO a) (BG (CO a) i) (BD (CO a) i) (AP (CO a) i) (AZ (CO a) i) (AO (CO a) i) (BE (CO a) i) (AM (CO a) i)) (λ i=>Ag i a) BI (EN (CO a)) (λ i=>JY (Hm a) i) (AN (EM (CO a)) (Jj a) (Je a) (Is a) (Ii a) (Jf a) (DQ (CO a)) (FI (CO a)) (NN (DK (CO a)) (EJ (CO a)) (λ i=>Ag i a) (EY (CO a)) (Hm a) (GC (CO a)) (EG (Tk a a)) (RK (FN (CO a))))))) (Bk ((@List.all Pr) (Lw a) (λ i=>T5 a i)) (NG (λ i=>bB (DG (CO a)) (Sa (Xv a a) i)) (Tk a a))) (Jj a) (Je a) (Is a) (Ii a) (Jf a) (JM (CO a) (λ i=>Ag i a) (Hm a))) := by kernel_rfl
theorem BUE (a : MPp) (h : DO (PPp a)) : FnT Try.prog n_eP (C4Pp.xs a) (AE (C4Pp.L a)) (C4Pp.val a) (C4Pp.keep a) := Ky (A := A4Pp) (ren := []) (fz := []) BXE (by kernel_rfl) (AC BWG AI) (by
 have h' : a.l.length < 4611686018427387904 /\ a.q.c.ns.length < 1073741824 := h
 show V4Pp a; rw [BUR]<;> delta LV bO CI CH FE EE FH CL AF CV DC AS JT HP GG IQ IV IX JU GZ GM HK LC OE DF MA AG ID bB SM Lw Sa Hm oQ AH DD EL EW GS AK BN BQ CF AJ HR GI BU FT BJ KB AN AM BV AZ CD BR JD BL AO DZ CO EI NO DV DI CB GN AT BB EP HD BO DG DY AP BT BA ED AW BE XT AV FN GF FA DB CM NC GR KU PN EU GQ BD TY BH BI Et EG TW IT GA GD UE GJ EC WX Be EA FY MW XD JY BC KO MB LY Bc BF CA DK FU BG FP HB KT KX LJ GT KR LI Hv Dq VR VV VU Hu DQ DE QN CE DT VM WP ME KI HF UP WQ xZ DX TU EJ JM UU WS EN FI EY UW WD WK EM NG RK TZ Xv GC Ag T5 Is Je RE Ii Tk Jf Jj NN Bk; simp only [CC, eq_self, implies_true, forall_const, ge_iff_le]
 rw [<- bM]
 exact ⟨h', rfl⟩)
theorem BWM : AR Try.prog n_eP (C4Pp.spec d4Pp) := Ctr.spec_ok (C := C4Pp) BUE _
end Go.Bal
