/- Package chart: which charts are right; a chart at work. -/
import Derived.Test.YtdbjalgfomknhaaChE
set_option linter.unusedVariables false
set_option linter.unusedSimpArgs false
namespace Go.Bal
open Go Go.Sym Go.Proofs
def M9 : Int -> List Mk -> Int
 | _, [] => 0
 | a, m :: r => bif (bif !TM m.pl 0 10000 then true else !TM m.ht 0 1000) then 30 else bif decide (m.pl <= a) then 9 else M9 m.pl r
def J3 (l : List Nt) (i : Nat) : Bool := !(l.take i).any λ x => x.mi == (gD l i).mi
def Mj (c : Cht) : Int := bif (bif !TM c.ms.length 1 40 then true else decide ((c.ns.length : Int) > 20)) then 3 else bif (bif (bif (bif !Lc c.p 1 600 then true else !TM c.base (-1000000) 1000000) then true else !TM c.scale 0 1000) then true else !TM c.off 0 1000) then 30 else 0
def BS (c : Cht) : Int := bif Mj c != 0 then Mj c else bif M9 (-1) c.ms != 0 then M9 (-1) c.ms else bif !c.ns.all (λ n => RY n c.ms.length) then 30 else bif vX (J3 c.ns) c.ns.length then 0 else 10
def dC1 : List AVal -> Heap -> Option (Cht × List (Nat × Nat) × List Nat)
 | [y], H => match AIZ y H with
  | some (l, f) => some (l, [], f)
  | none => none
 | _, _ => none
def C_Check : Ctr := { α := Cht, xs := λ c => [.d (aK c)], L := λ _ => [], val := λ c => .int (BS c), keep := λ _ => [], pre := λ c => [c.ms.length < 4611686018427387904 /\ c.ns.length < 4611686018427387904] }
def ck7 (c : Cht) : Shape := { α := NI, dflt := default, T := λ s => ⟨[(1, .bptr 201 0), (3, .int s.m), (44, .d (eMks c.ms)), (45, .int c.ms.length), (46, .int s.k)], [(201, .live (chB c))]⟩, inv := λ s => s.k <= c.ms.length /\ Mj c = 0 /\ M9 s.m (c.ms.drop s.k) = M9 (-1) c.ms, meas := λ s => c.ms.length - s.k, first := [(201, 1000)] }
def ck18 (c : Cht) : Shape := { α := Nat, dflt := 0, T := λ k => ⟨[(1, .bptr 201 0), (75, .d (eNts c.ns)), (76, .int c.ns.length), (77, .int k)], [(201, .live (chB c))]⟩, inv := λ k => k <= c.ns.length /\ Mj c = 0 /\ M9 (-1) c.ms = 0 /\ c.ns.all (λ n => RY n c.ms.length) = true /\ vX (J3 c.ns) k = true, meas := λ k => c.ns.length - k }
def AVP (c : Cht) : Ann := { ann 89 [(N8, s_in), (aT, AYM), (n_eN, C4Nr.spec d4Nr), (ARH, C3Nc.spec d3Nc)] with loops := λ id => if id = 7 then some [ck7 c] else if id = 18 then some [ck18 c] else none }
def AVO (c : Cht) : Prop := CR Try.prog (AVP c) AON (AL AON) (C_Check.xs c) (AE []) (C_Check.val c) [] [] []
abbrev LX:=true
abbrev JV:=λ (x0 x1 : Int) => decide (x0 > x1)
abbrev VO:=BS
abbrev wP:=@Exists NI
abbrev aZ:=NI.m
abbrev HN:=NI.k
abbrev AOU:=@List.drop Mk
abbrev AEV:=λ (f : NI -> Prop) => ∀ (x : NI), f x
abbrev HX:=Int.toNat
abbrev UN:=@HAdd.hAdd Nat Nat Nat (@instHAdd Nat instAddNat)
abbrev EZ a b c d:=FG a b (And c d)
abbrev EV a:=AS a 0
abbrev WT a b c d e:=AH a b (SQ c d e)
abbrev EK a:=LV a LX
abbrev mI a:=EV (Mj a)
abbrev Bq a b:=CW a (BL b)
abbrev OB a:=GX (BL a)
abbrev JZ a:=AF (λ i=>DE i a)
abbrev XO a b:=AS (VO a) b
abbrev SY:=HX 0
abbrev Jk a:=UN SY a
abbrev Ss a:=MT a SY
abbrev GH a b c d e f g:=AH a b (AK c d e f g)
abbrev DN a:=UN 0 a
abbrev gH a b c:=CL a (MT b c)
abbrev QR a b c:=AH a (CX b) c
abbrev An a:=CG (BL a)
abbrev Oc:=HU 0 0
abbrev NF a:=EG (FN a)
abbrev RD a:=AJ (ND a)
abbrev QI a:=AF (λ i=>FP i a)
abbrev Ax a b:=AS (aZ a) b
abbrev SZ a b:=(@cond Bool) a LX b
abbrev Gz a b c:=SZ (SZ a b) c
attribute [go_sem] LX JV VO wP aZ HN AOU AEV HX UN EZ EV WT EK mI Bq OB JZ XO SY Jk Ss GH DN gH QR An Oc NF RD QI Ax SZ Gz
theorem BCW (c : Cht) : (AVO c) = (FG (SZ (not (TM (ND c) 1 40)) (JV (An c) 20)) (XO c 3) (EZ (SZ (Gz (not (hd9 (GG c) 1 600)) (not (TM (IQ c) (-1000000) 1000000)) (not (cE (IV c) 1000))) (not (cE (IX c) 1000))) (XO c 30) (wP (λ i=>BH (DA (Ax i (-1)) (EU c) (QI c) (RD c) (CY (HN i)) (HJ c)) (CW (HN i) (BV c)) (mI c) (AS (M9 (aZ i) (AOU (HN i) (HP c))) (M9 (-1) (HP c))))) (AEV (λ i=>IR (AH (CW (HN i) (BV c)) (mI c) (AS (M9 (aZ i) (AOU (HN i) (HP c))) (M9 (-1) (HP c)))) (HN i) (ND c) (IW (HN i) (BV c)) (FG (SZ (not (cE (DI c (HN i)) 10000)) (not (cE (DY c (HN i)) 1000))) (XO c 30) (FG (hd7 (DI c (HN i)) (aZ i)) (XO c 9) (wP (λ j=>WT (DA (Ax j (DI c (HN i))) (EU c) (QI c) (RD c) (CJ (HN j) (HN i)) (HJ c)) (AH (CW (HN j) (BV c)) (mI c) (AS (M9 (aZ j) (AOU (HN j) (HP c))) (M9 (-1) (HP c)))) (BV c) (HN j) (HN i))))) (And (And (CA c) (YC (AF (λ j=>BC j c (BG c j) (BD c j) (AP c j) (AZ c j) (AO c j) (BE c j) (AM c j))) (AT c) (GG c) (AV c) (AN (BA c) (BB c) (BF c) (BM c) (CA c) (AF (λ j=>BC j c (BG c j) (BD c j) (AP c j) (AZ c j) (AO c j) (BE c j) (AM c j))) (AT c) (AW c) (FR c (DQ c) (λ j=>DT j c) (DK c) (λ j=>DX j c) (NF c) II)))) (EZ (not (hd80 (HR c) (λ j=>zK j (Ku c)))) (XO c 30) (IF (λ j=>DA (AK (DB c) (JZ c) (OB c) (CY j) (HJ c)) (Bq j c) (mI c) (EV (M9 (-1) (HP c))) (EK (hd80 (GM c) (λ k=>Gd k c))) (EK (vX (J3 (GM c)) j)))) (AF (λ j=>CV (AK (Bq j c) (mI c) (EV (M9 (-1) (HP c))) (EK (hd80 (GM c) (λ k=>Gd k c))) (EK (vX (J3 (GM c)) j))) (FG (IM j (An c)) (AH (IW j (BL c)) (GH (QR Oc (CG j) (HU (CG j) (An c))) (gH (GZ (LC (Ss j) (λ k=>DD c (Jk k)))) j SY) (AF (λ k=>TA k (GZ (LC (MT j 0) (λ l=>DD c (DN l)))) (IT (HK (LC (Ss j) (λ l=>DD c (Jk l))) k) c (Jk k)) (HK (LC (Ss j) (λ l=>DD c (Jk l))) k) (AP c (Jk k)) (AO c (Jk k)) (AM c (Jk k)))) (AJ (DV c j)) (AJ (AP c j)) (BO (AO c j)) (Mp (CD (AM c j)) (BO (AM c j)) (AJ (DV c j)) (AJ (AP c j)) (BO (AO c j)) (CD (AM c j)) (EG (GZ (LC (MT j 0) (λ k=>DD c (DN k))))) II)) (MV ((@List.any Nt) (LC (Ss j) (λ k=>DD c (Jk k))) (λ k=>jW k (DV c j))) (XO c 10) (λ k=>WT (AK (DB c) (JZ c) (OB c) (CJ k j) (HJ c)) (AK (Bq k c) (mI c) (EV (M9 (-1) (HP c))) (EK (hd80 (GM c) (λ l=>Gd l c))) (EK (vX (J3 (GM c)) k))) (BL c) k j))) (EV (VO c))))))))))) := by kernel_rfl
theorem BCT {α : Type} [Inhabited α] {l : List α} {k : Nat} (h : k <= l.length) : (OF k λ i => gD l i) = l.take k := by
 refine BGD (by simp [h]) λ i hi => ?_
 have hi : i < k := by simpa using hi
 rw [HM _ _ _ hi]
 simp [gD, List.getD_eq_getElem?_getD, List.getElem?_take, hi]
theorem AZV {p : Nat -> Bool} {n k : Nat} (hk : k < n) (h : p k = false) : vX p n = false := by
 cases hc : vX p n with
 | false => rfl
 | true => rw [bN.1 hc k hk] at h; cases h
theorem BKQ (c : Cht) (h : c.ms.length < 4611686018427387904 /\ c.ns.length < 4611686018427387904) : AVO c := by
 obtain ⟨hm, hn⟩ := h
 rw [BCW]<;> delta LV hd7 hd9 CI CH zK FE PS SI EE FH CL AF CV DC AS CG CW FG PD HU KV UC MT JT HP GG IQ IV IX JU GZ GM HK LC IF II hd80 Lv LX JV VO wP aZ HN AOU AEV HX UN AH DD EL EW GS AK BN BQ CF AJ HR GI BU BJ AN AM BV AZ CD BR BL AO DZ JI EI DV DI CB GN AT BB GO EP HD BO Mp YC DY AP BT BA ED AW BE FZ CX AV FN GF FA DB DN CM EF GR JF EU GQ HZ BD BH EG FX IT EK GA CS GD EH GJ EC DH EA FY IW FM MW ND BC MB LY BF CA DK BG FP RA KT KX LJ GT GX KR XC CJ OY EV SZ GH PM IM DQ SQ DE CE QI BM JZ HJ DT gH DA SY QR CY KZ EZ OB DX IR FR NF WT Gd Oc Gz An RD jW MV Bq Ax Jk TA XO cE Ss mI Ku; simp only [CC, eq_self, implies_true, forall_const, Nat.sub_zero, Int.toNat_zero]
 refine ⟨λ h1 => ?_, λ h1 => ⟨λ h2 => ?_, λ h2 => ?_⟩⟩
 ·have e : Mj c = 3 := by unfold Mj; rw [h1]; rfl
  unfold BS; rw [e]; rfl
 ·have e : Mj c = 30 := by unfold Mj; rw [h1, h2]; rfl
  unfold BS; rw [e]; rfl
 have e : Mj c = 0 := by unfold Mj; rw [h1, h2]; rfl
 have k0 : ∀ v : Int, v ≠ 0 -> M9 (-1) c.ms = v -> BS c = v := λ v hv hm => by 
  have hv0 := hv
  have hv' : (v != 0) = true := by simpa using hv
  unfold BS; rw [e, hm, hv']; rfl
 refine ⟨⟨⟨0, -1⟩, ⟨rfl, rfl⟩, Nat.zero_le _, e, rfl⟩, λ s ⟨s1, _, s3⟩ => ⟨λ hlt => ?_, λ hge => ?_⟩⟩
 ·have hlt : s.k < c.ms.length := by omega
  have hd := AXU hlt
  rw [hd] at s3
  refine ⟨by omega, λ h3 => ?_, λ h3 => ⟨λ h4 => ?_, λ h4 => ⟨⟨s.k + 1, (gD c.ms s.k).pl⟩, ⟨rfl, (MO (by omega)).symm⟩, ⟨by show s.k + 1 <= _; omega, e, ?_⟩, by show c.ms.length - (s.k + 1) < _; omega⟩⟩⟩
  ·exact k0 30 (by decide) (by rw [<- s3]; unfold M9; rw [h3]; rfl)
  ·exact k0 9 (by decide) (by rw [<- s3]; unfold M9; rw [h3, decide_eq_true h4]; rfl)
  ·rw [<- s3]; conv => rhs; unfold M9
   rw [h3, decide_eq_false h4]; rfl
 ·have hmk : M9 (-1) c.ms = 0 := by rw [<- s3, List.drop_of_length_le (by omega)]; rfl
  refine ⟨by omega, λ h3 => ?_, λ h3 => ⟨⟨0, rfl, Nat.zero_le _, e, hmk, h3, rfl⟩, λ k ⟨k1, _, _, _, k5⟩ => ⟨λ hlt => ?_, λ hge => ?_⟩⟩⟩
  ·unfold BS; rw [e, hmk, h3]; rfl
  ·have hlt : k < c.ns.length := by omega
   have et : (OF k λ i => gD c.ns i) = c.ns.take k := BCT (by omega)
   rw [et]
   refine ⟨by omega, ⟨⟨by omega, by omega, by omega⟩, λ i hi => ?_, by omega⟩, λ h4 => ?_, λ h4 => ⟨k + 1, (MO (by omega)).symm, ⟨by omega, e, hmk, h3, ?_⟩, by omega⟩⟩
   ·rw [<- et, HM _ _ _ hi]; exact ⟨rfl, rfl, rfl, rfl, rfl⟩
   ·have hp : vX (J3 c.ns) c.ns.length = false := AZV hlt (by unfold J3; rw [h4]; rfl)
    unfold BS; rw [e, hmk, h3, hp]; rfl
   ·show (vX (J3 c.ns) k && J3 c.ns k) = true
    unfold J3 at k5 ⊢; rw [k5, h4]; rfl
  ·obtain rfl : k = c.ns.length := by omega
   unfold BS; rw [e, hmk, h3, k5]; rfl
theorem AQB : AR Try.prog ALD (C_Check.spec dC1) := Bl C_Check AVP [] [] BDD (λ _ => by kernel_rfl) (λ _ => AC ABM (AC BDF (AC BWO (AC BUX AI)))) BKQ (λ _ => Ec rfl rfl) _
def hasN (l : List Nt) (j : Int) : Bool := l.any λ x => x.mi == j
def ntOf : List Nt -> Int -> Nt
 | [], _ => default
 | n :: r, j => bif hasN r j then ntOf r j else bif n.mi == j then n else default
structure Dk where
 c : Cht
 st : Int -> Int
 sp : Nat -> Bool
def sN : Value := .agg #[.int .i64 0, .int .i64 0, .int .i64 0, .int .i64 0, .int .i64 0]
def dkB (w : Dk) (m : Nat) : AObj := .abox [.int w.c.p.lo, .int w.c.p.hi, .int w.c.base, .int w.c.scale, .int w.c.off, .d (eMks w.c.ms), .d (eNts w.c.ns), .mref m] 40 w.sp
def dkM (w : Dk) : AObj := .imap .i64 sN (hasN w.c.ns) (λ j => eNt (ntOf w.c.ns j)) w.st none
def dkL (w : Dk) : List (Nat × AObj) := [(100, dkB w 101), (101, dkM w)]
def dkK (w : Dk) : List (Nat × HCell) := [(100, .live (dkB w 101)), (101, .live (dkM w))]
def dkN (w : Dk) : List (Nat × HCell) := [(0, .live (dkB w 1)), (1, .live (dkM w))]
def wL (H : Heap) (id : Nat) : Option (Dk × Nat) := match H id with
 | .live (.abox [.d a, .d b, .d c, .d d, .d e, .d (.list _ n f _), .d (.list _ m g _), .mref q] _ sp) => match H q with
  | .live (.imap _ _ _ _ st _) => some (⟨⟨⟨FQ a, FQ b⟩, FQ c, FQ d, FQ e, OF n λ i => dMk (f i), OF m λ i => dNt (g i)⟩, st, sp⟩, q)
  | _ => none
 | _ => none
def stK (l : List Nt) : Nat -> Int -> Int
 | 0 => λ _ => 0
 | k + 1 => F4 (hasN (l.take k)) (stK l k) (gD l k).mi
def AY (c : Cht) : Dk := ⟨c, stK c.ns c.ns.length, λ _ => false⟩
def C_open : Ctr := { α := Cht, xs := λ c => [.d (aK c)], val := λ _ => .tup [.bptr 0 0, .int 0], keep := λ c => dkN (AY c), pre := λ c => [(c.ms.length < 4611686018427387904 /\ c.ns.length < 4611686018427387904) /\ BS c = 0] }
def C_openX : Ctr := { α := Cht, xs := λ c => [.d (aK c)], val := λ c => .tup [.d (.v (.pointer none)), .int (BS c)], keep := λ _ => [], pre := λ c => [(c.ms.length < 4611686018427387904 /\ c.ns.length < 4611686018427387904) /\ BS c ≠ 0] }
def op6 (c : Cht) : Shape := { α := Nat, dflt := 0, T := λ k => ⟨[(5, .bptr 201 0), (18, .d (eNts c.ns)), (19, .int c.ns.length), (20, .int k)], [(201, .live (.abox [.int c.p.lo, .int c.p.hi, .int c.base, .int c.scale, .int c.off, .d (eMks c.ms), .d (eNts c.ns), .mref 202] 40 λ _ => false)), (202, .live (.imap .i64 sN (hasN (c.ns.take k)) (λ j => eNt (ntOf (c.ns.take k) j)) (stK c.ns k) none))]⟩, inv := λ k => k <= c.ns.length, meas := λ k => c.ns.length - k, first := [(201, 5048), (202, 5016)] }
def ANS (c : Cht) : Ann := { ann 33 [(ALD, C_Check.spec dC1)] with loops := λ id => if id = 6 then some [op6 c] else none }
def BER (c : Cht) : Prop := CR Try.prog (ANS c) qI (AL qI) (C_open.xs c) (AE []) (C_open.val c) (C_open.keep c) [(0, 201), (1, 202)] []
abbrev PX:=@bne Int (@instBEqOfDecidableEq Int Int.instDecidableEq)
abbrev OW:=False
abbrev OE:=@Eq Value
abbrev AHM:=@List.toArray Value
abbrev ADX:=@List.nil Value
abbrev DF:=λ (f : Int -> Prop) => ∀ (x : Int), f x
abbrev MA:=hasN
abbrev MN:=Nat.le
abbrev Fl:=@cond Int
abbrev AJH:=λ (x0 x1 : Int) => decide (x0 = x1)
abbrev AG:=Dk.c
abbrev VW:=AY
abbrev KO a (b:Nat->Prop) c (d:Nat->Prop) (e:Nat->Prop) f g (h:Int->Prop) p:=CM a (AF b) c (AF d) e f g (DF h) p
abbrev LI a (b:Nat->Prop) c (d:Nat->Prop) (e:Nat->Prop) f g (h:Int->Prop) (p:Int->Prop):=KO a b c d e f g h (DF p)
abbrev Bc a b c d e f g:=GD (FA a b) c d a e f g
abbrev KB a b:=ntOf (GM a) b
abbrev NO a b:=FH (KB a b)
abbrev KU a b:=CF (KB a b)
abbrev UW a b c d e f g h:=Bc (KB a b) c (KU d e) f g (NO d e) h
abbrev bC a b:=(@List.take Nt) a (GM b)
abbrev VQ a b c:=ntOf (bC a b) c
abbrev Au a b c:=FH (VQ a b c)
abbrev AX a:=AG (VW a)
abbrev Rf a b c:=AS (Dk.st a b) c
abbrev NC a b:=MA (GM a) b
abbrev UP a b c:=LV (NC a b) c
abbrev BI:=OE sN sN
abbrev PN a b c:=BQ a b (FT c)
abbrev TW a b:=PN a 40 b
abbrev LR a:=TW a He
abbrev SK a b c d e f g:=LJ a b c d b e f g
abbrev SF a b c d:=KT a b (DV c d)
abbrev SB a b:=GJ (BL a) b
abbrev Iz a b c d e:=KX a b c b d e
abbrev RQ a b c d e f:=Iz a b c d (DY e f)
abbrev RF a b c d:=KR a b (DI c d)
abbrev RL a b:=FY (BV a) b
abbrev Jq a b:=AS (IX a) b
abbrev RR a b:=Jq a (IX b)
abbrev Ju a b:=AS (IV a) b
abbrev RG a b:=Ju a (IV b)
abbrev Kq a b:=AS (IQ a) b
abbrev SC a b:=Kq a (IQ b)
abbrev SH a b:=BJ (GG a) (GG b)
abbrev RZ a b:=BT (GG a) (GG b)
abbrev Cg a b c d e f:=WT a (MN b c) d e f
abbrev YZ a b c d e:=Cg a b c c d e
abbrev JO a b c d e:=AN a b c (AT d) (AW d) (AV d) (BA d) (BB d) e
abbrev ME a b (c:Nat->Prop) d e (f:Int->Prop) (g:Int->Prop):=LI (EU a) (λ i=>FP i a) (DB a) (λ i=>DE i b) c d e f g
abbrev It a b c d e:=Fl (AJH a (DV b c)) d e
abbrev WE a b c:=And a (MN b c)
abbrev Ay a:=BN a 0
abbrev Ga a:=CB a 0
abbrev EX a:=LV a He
abbrev Nq a:=Value.int SI a
abbrev Yg:=Nq 0
abbrev gK a:=(@List.cons Value) Yg a
abbrev Yy a:=gK (gK a)
abbrev IE a:=PX a 0
abbrev JD a b c d:=Cht.mk (GG a) (IQ b) (IV b) (IX b) (GI c) d
abbrev DG a:=JD a a a (HR a)
abbrev LQ a:=VO (DG a)
abbrev ZW a b (c:Nat->Prop) d e:=AH (AT a) (AW a) (FR a (BF a) (λ i=>CE i a) b c d e)
abbrev QL a b (c:Nat->Prop) d e:=ZW a (CA b) c d e
abbrev IB a:=EG (ED a)
attribute [go_sem] PX OW OE AHM ADX DF MA MN Fl AJH AG VW KO LI Bc KB NO KU UW bC VQ Au AX Rf NC UP BI PN TW LR SK SF SB Iz RQ RF RL Jq RR Ju RG Kq SC SH RZ Cg YZ JO ME It WE Ay Ga EX Nq Yg gK Yy IE JD DG LQ ZW QL IB
theorem BIW (c : Cht) : (BER c) = (And (QL c c (λ i=>BC i c (BG c i) (BD c i) (AP c i) (AZ c i) (AO c i) (BE c i) (AM c i)) (IB c) (NF c)) (EZ (IE (LQ c)) OW (IF (λ i=>WE (And (DB c) (JO (JZ c) (OB c) (CY i) c (ME c c LR (OE sN (Value.agg (AHM (gK (Yy (Yy ADX)))))) (DF (λ j=>EX (MA (bC i c) j))) (λ j=>EV (stK (GM c) i j)) (λ j=>AK (FA (VQ i c j) 0) (EV (CF (VQ i c j))) (Ay (EE (VQ i c j))) (Ga (Au i c j)) (Ay (Au i c j)))))) i (BL c))) (AF (λ i=>IR (MN i (BL c)) i (An c) (IW i (BL c)) (IF (λ j=>YZ (And (DB c) (JO (JZ c) (OB c) (CJ j i) c (ME c c LR BI (DF (λ k=>LV (MA (bC j c) k) (Eh (MA (bC i c)) (DV c i) k))) (λ k=>AS (stK (GM c) j k) (F4 (MA (bC i c)) (stK (GM c) i) (DV c i) k)) (λ k=>AK (FA (VQ j c k) (It k c i (DV c i) (FE (VQ i c k)))) (AS (CF (VQ j c k)) (It k c i (AP c i) (CF (VQ i c k)))) (BN (EE (VQ j c k)) (It k c i (CH (AO c i)) (CH (EE (VQ i c k))))) (CB (Au j c k) (It k c i (CI (AM c i)) (CI (Au i c k)))) (BN (Au j c k) (It k c i (CH (AM c i)) (CH (Au i c k)))))))) j (BL c) j i)) (GH CU (RZ (AX c) c) (SH (AX c) c) (SC (AX c) c) (RG (AX c) c) (RR (AX c) c) (LI (RL (AX c) c) (λ j=>RQ j (AX c) (RF (AX c) j c j) j c j) (SB (AX c) c) (λ j=>EP j (AX c) (SK (SF (AX c) j c j) (AX c) j (AP c j) j (AO c j) (AM c j))) LR BI (DF (λ j=>UP (AX c) j (MA (bC i c) j))) (λ j=>Rf (VW c) j (stK (GM c) i j)) (λ j=>UW (AX c) j (FE (VQ i c j)) (AX c) j (CF (VQ i c j)) (EE (VQ i c j)) (Au i c j)))))))) := by kernel_rfl
def AVB (c : Cht) : Prop := CR Try.prog (ANS c) qI (AL qI) (C_open.xs c) (AE []) (C_openX.val c) [] [] []
abbrev Rc:=OE (Value.pointer (@none Addr)) (Value.pointer (@none Addr))
attribute [go_sem] Rc
theorem BGP (c : Cht) : (AVB c) = (And (QL c c (λ i=>BC i c (BG c i) (BD c i) (AP c i) (AZ c i) (AO c i) (BE c i) (AM c i)) (IB c) (NF c)) (DH (IE (LQ c)) Rc (XO c (LQ c)) (NL (λ i=>WE (And (DB c) (JO (JZ c) (OB c) (CY i) c (ME c c LR (OE sN (Value.agg (AHM (gK (Yy (Yy ADX)))))) (DF (λ j=>EX (MA (bC i c) j))) (λ j=>EV (stK (GM c) i j)) (λ j=>AK (FA (VQ i c j) 0) (EV (CF (VQ i c j))) (Ay (EE (VQ i c j))) (Ga (Au i c j)) (Ay (Au i c j)))))) i (BL c)) (λ i=>IR (MN i (BL c)) i (An c) (IW i (BL c)) (IF (λ j=>YZ (And (DB c) (JO (JZ c) (OB c) (CJ j i) c (ME c c LR BI (DF (λ k=>LV (MA (bC j c) k) (Eh (MA (bC i c)) (DV c i) k))) (λ k=>AS (stK (GM c) j k) (F4 (MA (bC i c)) (stK (GM c) i) (DV c i) k)) (λ k=>AK (FA (VQ j c k) (It k c i (DV c i) (FE (VQ i c k)))) (AS (CF (VQ j c k)) (It k c i (AP c i) (CF (VQ i c k)))) (BN (EE (VQ j c k)) (It k c i (CH (AO c i)) (CH (EE (VQ i c k))))) (CB (Au j c k) (It k c i (CI (AM c i)) (CI (Au i c k)))) (BN (Au j c k) (It k c i (CH (AM c i)) (CH (Au i c k)))))))) j (BL c) j i)) OW)))) := by kernel_rfl
theorem DW (c : Cht) : Cht.mk c.p c.base c.scale c.off c.ms c.ns = c := rfl
theorem P0 (c : Cht) : (AY c).c = c := rfl
theorem AJE (l : List Nt) (x : Nt) (j : Int) : hasN (l ++ [x]) j = Eh (hasN l) x.mi j := by
 unfold hasN Eh; rw [List.any_append, Bool.or_comm]
 simp only [List.any_cons, List.any_nil, Bool.or_false]
 congr 1
 rw [Bool.eq_iff_iff, beq_iff_eq, decide_eq_true_eq]; exact eq_comm
theorem AYU (l : List Nt) (x : Nt) (j : Int) : ntOf (l ++ [x]) j = bif decide (j = x.mi) then x else ntOf l j := by
 induction l with
 | nil =>
  simp only [List.nil_append, ntOf, hasN, List.any_nil, cond_false]
  have : (x.mi == j) = decide (j = x.mi) := by rw [Bool.eq_iff_iff, beq_iff_eq, decide_eq_true_eq]; exact eq_comm
  rw [this]
 | cons y l ih =>
  simp only [List.cons_append, ntOf, ih, AJE, Eh]
  cases decide (j = x.mi) <;> rfl
theorem BQM (c : Cht) (h : (c.ms.length < 4611686018427387904 /\ c.ns.length < 4611686018427387904) /\ BS c = 0) : BER c := by
 obtain ⟨⟨hm, hn⟩, h0⟩ := h
 rw [BIW]<;> delta LV He CI CH FE PS SI EE FH CL AF CV DC AS CG UB FG PD HU KV UC MT JT HP GG IQ IV IX JU GZ GM HK LC IF VO PX OW OE AHM ADX DF MA MN Fl AJH AG VW AH DD AX EL EW GS AK BN BQ CF AJ HR GI BU FT BJ KB AN AM BV AZ CD BR JD BL AO DZ JI EI NO DV DI CB GN AT BB GO EP HD BO DG DY AP BT BA ED AW BE FZ CX AV FN GF FA DB CM EF NC GR JF KU PN EU GQ HZ BD BI EG TW IT GA CS GD EH GJ EC DH OD EA FY IW FM BC KO Bc BF CA BG FP KT KX LJ GT GX KR LI CJ bC CU OY EV VQ GH PM IM SQ Iz SK DE CE JZ IB Nq EX LR CY KZ ME UP EZ OB JO IR FR UW NF Yg WT IE LQ An gK Yy Au RL Jq RZ SB Cg Ju RR YZ Kq Rf SC SH RG RF SF WE Ay ZW QL RQ It Ga; simp only [CC, eq_self, implies_true, forall_const, DW, P0, h0]
 refine ⟨⟨hm, hn⟩, (λ h => by simp at h), λ _ => ⟨⟨0, ⟨rfl, rfl, λ _ => rfl, λ _ => rfl, λ _ => ⟨rfl, rfl, rfl, rfl, rfl⟩⟩, Nat.zero_le _⟩, λ k hk => ⟨λ hlt => ?_, λ hge => ?_⟩⟩⟩
 ·have hlt : k < c.ns.length := by omega
  refine ⟨by omega, k + 1, ⟨(MO (by omega)).symm, λ n => ?_, λ n => rfl, λ n => ?_⟩, by omega, by omega⟩
  ·rw [bF hlt, AJE]
  ·rw [bF hlt, AYU]
   cases decide (n = (gD c.ns k).mi) <;> exact ⟨rfl, rfl, rfl, rfl, rfl⟩
 ·obtain rfl : k = c.ns.length := by omega
  simp [AY]
theorem F7 : AR Try.prog VS (C_open.spec dC1) := Bl C_open ANS [(0, 201), (1, 202)] [] AKB (λ _ => by kernel_rfl) (λ _ => AC AQB AI) (λ c h => BQM c h) (λ _ => Ec rfl rfl) _
theorem M3 : AR Try.prog VS (C_openX.spec dC1) := Bl C_openX ANS [] [] AKB (λ _ => by kernel_rfl) (λ _ => AC AQB AI) (λ (c : Cht) h => by
 obtain ⟨⟨hm, hn⟩, h0⟩ : (c.ms.length < 4611686018427387904 /\ c.ns.length < 4611686018427387904) /\ BS c ≠ 0 := h
 have h0' : (BS c != 0) = true := by simpa using h0
 show AVB c; rw [BGP]<;> delta LV He CI CH FE PS SI EE FH CL AF CV DC AS CG FG PD HU KV UC MT JT HP GG IQ IV IX JU GZ GM HK LC IF VO PX OW OE AHM ADX DF MA MN Fl AJH AH DD EL EW GS AK BN BQ CF AJ HR GI BU FT BJ AN AM BV AZ CD BR JD BL AO DZ JI EI DV DI CB GN AT BB GO EP HD BO DG DY AP BT BA ED AW BE FZ CX AV FN GF FA DB CM EF GR JF PN EU GQ HZ BD BI EG TW IT GA CS GD EH GJ EC DH EA FY IW FM BC KO BF CA BG FP GT GX LI CJ bC OY EV VQ PM IM SQ DE CE JZ IB Nq EX LR CY KZ ME OB JO IR FR MI NF Yg WT IE LQ An gK NL Yy Au Cg YZ WE XO Ay ZW QL It Ga Rc; simp only [CC, eq_self, implies_true, forall_const, DW, h0']
 simp [hm, hn]) (λ _ => Ec rfl rfl) _
def Rn (m : Int) : Int -> List Int -> Bool
 | _, [] => true
 | a, g :: r => bif TM g (wr (a + 1)) (wr (m - 2)) then Rn m g r else false
def nP (m : Int) : Int -> List Int -> (Nat -> Bool) -> Nat -> Bool
 | _, [], f, j => f j
 | a, g :: r, f, j => bif TM g (wr (a + 1)) (wr (m - 2)) then nP m g r (λ i => bif decide (i = g.toNat) then true else f i) j else f j
structure DkZ where
 w : Dk
 z : List Int
def stD (a : DkZ) : Dk := ⟨a.w.c, a.w.st, nP a.w.c.ms.length (-1) a.z a.w.sp⟩
def dDkZ : List AVal -> Heap -> Option (DkZ × List (Nat × Nat) × List Nat)
 | [.bptr id _, y], H => match wL H id, AEB y H with
  | some (w, q), some (l, f) => some (⟨w, l⟩, [(100, id), (101, q)], f)
  | _, _ => none
 | _, _ => none
structure StK where
 k : Nat
 m : Int
 f : Nat -> Bool
 deriving Inhabited
def stp3 (a : DkZ) : Shape := { α := StK, dflt := default, T := λ s => ⟨[(0, .bptr 100 0), (5, .int s.m), (8, .d (IN a.z)), (9, .int a.z.length), (10, .int s.k)], dkK ⟨a.w.c, a.w.st, s.f⟩⟩, inv := λ s => (s.k <= a.z.length /\ -1 <= s.m /\ s.m <= 40) /\ Rn a.w.c.ms.length s.m (a.z.drop s.k) = Rn a.w.c.ms.length (-1) a.z /\ ∀ j, nP a.w.c.ms.length s.m (a.z.drop s.k) s.f j = nP a.w.c.ms.length (-1) a.z a.w.sp j, meas := λ s => a.z.length - s.k }
def C_stop : Ctr := { ro := [101], α := DkZ, xs := λ a => [.bptr 100 0, .d (IN a.z)], L := λ a => dkL a.w, val := λ a => .bool (Rn a.w.c.ms.length (-1) a.z), keep := λ a => dkK (stD a), pre := λ a => [a.z.length < 4611686018427387904 /\ a.w.c.ms.length <= 40] }
def BCM (a : DkZ) : Ann := { ann 33 [(N8, s_in)] with E := [100, 101], loops := λ id => if id = 3 then some [stp3 a] else none }
def BGZ (a : DkZ) : Prop := CR Try.prog (BCM a) ASL (AL ASL) (C_stop.xs a) (AE (C_stop.L a)) (C_stop.val a) (C_stop.keep a) [] []
abbrev Mg:=StK.m
abbrev NP:=DkZ.z
abbrev WZ:=StK.k
abbrev oV:=DkZ.w
abbrev wE:=StK.f
abbrev ID:=Dk.sp
abbrev ABJ:=@List.drop Int
abbrev mY:=λ (x0 x1 : Nat) => decide (x0 = x1)
abbrev TY a b:=EE (KB a b)
abbrev UE a b:=FE (KB a b)
abbrev TU a b c d e:=Bc a (UE b c) d (KU b c) (TY b c) e (NO b c)
abbrev VF a b c d e f:=TU a b c d (NO e f)
abbrev MC a:=AG (stD a)
abbrev MX a:=AG (oV a)
abbrev VD a b c d:=Rf a b (Dk.st c d)
abbrev Dq a b c:=LV a (NC b c)
abbrev UX a b c d:=Dq (NC a b) c d
abbrev XH a b c:=BQ a 40 (LV b c)
abbrev Zc a:=ND (MX a)
abbrev Xf a b c:=Rn (Zc a) b c
abbrev WJ a b (c:Nat->Prop):=AH a b (AF c)
abbrev WI a b:=CW a (FV b)
abbrev QN a b:=GA (UE a b) (KU a b) (TY a b) (NO a b)
abbrev JY a b:=AJ (Dk.st a b)
abbrev XD a:=DF (λ i=>FT (NC a i))
abbrev JM a (b:Nat->Prop) c:=ME a a b BI (XD a) (λ i=>JY c i) (λ i=>QN a i)
abbrev DP a b c d (e:Nat->Prop) f:=JO a b c d (JM d e f)
abbrev OU a b:=MN (Nat.succ a) b
abbrev Eg a b:=And (CX a) b
attribute [go_sem] Mg NP WZ oV wE ID ABJ mY TY UE TU VF MC MX VD Dq UX XH Zc Xf WJ WI QN JY XD JM DP OU Eg
theorem BKI (a : DkZ) : (BGZ a) = (And ((@Exists StK) (λ i=>BH (AH (AS (Mg i) (-1)) (JQ (NP a)) (DP (NV (NP a)) (GX (FV (NP a))) (CY (WZ i)) (MX a) (λ j=>XH j (wE i j) (ID (oV a) j)) (oV a))) (AH (WI (WZ i) (NP a)) (HU (-1) (Mg i)) (HU (Mg i) 40)) (LV (Xf a (Mg i) (ABJ (WZ i) (NP a))) (Xf a (-1) (NP a))) (AF (λ j=>LV (nP (Zc a) (Mg i) (ABJ (WZ i) (NP a)) (wE i) j) (nP (Zc a) (-1) (NP a) (ID (oV a)) j))))) ((λ (f : StK -> Prop) => ∀ (x : StK), f x) (λ i=>IR (WJ (AH (WI (WZ i) (NP a)) (HU (-1) (Mg i)) (HU (Mg i) 40)) (LV (Xf a (Mg i) (ABJ (WZ i) (NP a))) (Xf a (-1) (NP a))) (λ j=>LV (nP (Zc a) (Mg i) (ABJ (WZ i) (NP a)) (wE i) j) (nP (Zc a) (-1) (NP a) (ID (oV a)) j))) (WZ i) (MJ (NP a)) (KG (WZ i) (NP a)) (EZ (not (Rs (NP a) (WZ i) (EF (Mg i)) (KP (Zc a) 2))) (GH (EX (Xf a (-1) (NP a))) (RZ (MC a) (MX a)) (SH (MC a) (MX a)) (SC (MC a) (MX a)) (RG (MC a) (MX a)) (RR (MC a) (MX a)) (LI (RL (MC a) (MX a)) (λ j=>RQ j (MC a) (RF (MC a) j (MX a) j) j (MX a) j) (SB (MC a) (MX a)) (λ j=>EP j (MC a) (SK (SF (MC a) j (MX a) j) (MC a) j (AP (MX a) j) j (AO (MX a) j) (AM (MX a) j))) (λ j=>XH j (ID (stD a) j) (wE i j)) BI (DF (λ j=>UX (MC a) j (MX a) j)) (λ j=>VD (stD a) j (oV a) j) (λ j=>VF (KB (MC a) j) (MX a) j (KU (MC a) j) (MC a) j))) (And (Eg (ET (NP a) (WZ i)) (KV (ET (NP a) (WZ i)) 40)) (OU (HX (ET (NP a) (WZ i))) 40)) ((@Exists StK) (λ j=>WT (AH (AS (Mg j) (ET (NP a) (WZ i))) (JQ (NP a)) (DP (NV (NP a)) (GX (FV (NP a))) (CJ (WZ j) (WZ i)) (MX a) (λ k=>XH k (wE j k) (SZ (mY k (HX (ET (NP a) (WZ i)))) (wE i k))) (oV a))) (WJ (AH (WI (WZ j) (NP a)) (HU (-1) (Mg j)) (HU (Mg j) 40)) (LV (Xf a (Mg j) (ABJ (WZ j) (NP a))) (Xf a (-1) (NP a))) (λ k=>LV (nP (Zc a) (Mg j) (ABJ (WZ j) (NP a)) (wE j) k) (nP (Zc a) (-1) (NP a) (ID (oV a)) k))) (FV (NP a)) (WZ j) (WZ i)))) (GH (EK (Xf a (-1) (NP a))) (RZ (MC a) (MX a)) (SH (MC a) (MX a)) (SC (MC a) (MX a)) (RG (MC a) (MX a)) (RR (MC a) (MX a)) (LI (RL (MC a) (MX a)) (λ j=>RQ j (MC a) (RF (MC a) j (MX a) j) j (MX a) j) (SB (MC a) (MX a)) (λ j=>EP j (MC a) (SK (SF (MC a) j (MX a) j) (MC a) j (AP (MX a) j) j (AO (MX a) j) (AM (MX a) j))) (λ j=>XH j (ID (stD a) j) (wE i j)) BI (DF (λ j=>UX (MC a) j (MX a) j)) (λ j=>VD (stD a) j (oV a) j) (λ j=>VF (KB (MC a) j) (MX a) j (KU (MC a) j) (MC a) j)))))) := by kernel_rfl
theorem APL (a : DkZ) : (stD a).c = a.w.c := rfl
theorem BQH (a : DkZ) (h : a.z.length < 4611686018427387904 /\ a.w.c.ms.length <= 40) : BGZ a := by
 obtain ⟨hz, hm⟩ := h
 rw [BKI]<;> delta LV He CI CH FE PS SI Pt EE FH CL AF CV DC AS CG CW FG PD HU KV UC MT JT HP GG IQ IV IX JU GZ GM HK FV ET LX HX OE DF MA MN AG Mg NP WZ oV wE ID ABJ mY AH DD EL AK BN BQ CF AJ BU FT BJ KB AN AM BV CD BR BL AO DZ JI EI NO DV DI CB AT BB GO EP HD BO DY AP BT BA AW FZ LZ CX AV GF FA DB KP CM EF NC JF KU EU MC HZ TY BH BI EK GA CS GD JQ EH UE GJ MX DH FY IW XD JY ND KO Vy Bc FP KT KX LJ GX KR LI CJ Dq OY SZ GH OU PM IM SQ Iz SK DE OO QN MJ EX CY KZ ME NV EZ JO TU JM IR KG WT DP Zc Rs RL WI Jq RZ SB Ju RR Kq Rf SC SH RG UX RF SF WJ VD Eg VF RQ XH Xf; simp only [CC, eq_self, implies_true, forall_const, APL]
 have e2 : IntKind.i64.wrap ((a.w.c.ms.length : Int) - 2) = (a.w.c.ms.length : Int) - 2 := NU (by omega) (by omega)
 refine ⟨⟨⟨0, -1, a.w.sp⟩, ⟨rfl, rfl, λ _ _ => rfl⟩, ⟨Nat.zero_le _, by show (-1 : Int) <= -1; omega, by show (-1 : Int) <= 40; omega⟩, rfl, λ _ => rfl⟩, λ s ⟨⟨s1, s2, s3⟩, s4, s5⟩ => ⟨λ hlt => ?_, λ hge => ?_⟩⟩
 ·have hlt : s.k < a.z.length := by omega
  have hd := AXU hlt
  rw [hd] at s4 s5
  have e1 : IntKind.i64.wrap (s.m + 1) = s.m + 1 := NU (by omega) (by omega)
  refine ⟨by omega, λ h1 => ⟨?_, λ j _ => ?_, λ _ => rfl⟩, λ h1 => ?_⟩
  ·rw [<- s4]; unfold Rn wr; rw [h1]; rfl
  ·show nP _ _ _ _ j = _
   rw [<- s5 j]; unfold nP wr; rw [h1]; rfl
  ·have h2 := h1
   rw [e1, e2] at h2
   simp only [TM, Bool.and_eq_true, decide_eq_true_eq] at h2
   refine ⟨by omega, ⟨s.k + 1, gD a.z s.k, λ i => bif decide (i = (gD a.z s.k).toNat) then true else s.f i⟩, ⟨rfl, (MO (by omega)).symm, λ _ _ => rfl⟩, ⟨⟨by show s.k + 1 <= _; omega, by show -1 <= gD a.z s.k; omega, by show gD a.z s.k <= 40; omega⟩, ?_, λ j => ?_⟩, by show a.z.length - (s.k + 1) < _; omega⟩
   ·rw [<- s4]; conv => rhs; unfold Rn wr
    rw [h1]; rfl
   ·rw [<- s5 j]; conv => rhs; unfold nP wr
    rw [h1]; rfl
 ·rw [List.drop_of_length_le (by omega)] at s4 s5
  exact ⟨s4.symm, λ j _ => (s5 j).symm, λ _ => rfl⟩
theorem AOO : AR Try.prog AHL (C_stop.spec dDkZ) := Bl C_stop BCM [] [] BLN (λ _ => by kernel_rfl) (λ _ => AC ABM AI) (λ a h => BQH a h) (λ _ => Ec rfl rfl) _
structure CZ where
 c : Cht
 z : List Int
def dCZ : List AVal -> Heap -> Option (CZ × List (Nat × Nat) × List Nat)
 | [x, y], H => match AIZ x H, AEB y H with
  | some (c, f), some (l, e) => some (⟨c, l⟩, [], f ++ e)
  | _, _ => none
 | _, _ => none
def xCZ (a : CZ) : List AVal := [.d (aK a.c), .d (IN a.z)]
def JB (a : CZ) : Dk := stD ⟨AY a.c, a.z⟩
def okZ (a : CZ) : Bool := Rn a.c.ms.length (-1) a.z
def Na (a : CZ) : Int := bif BS a.c == 0 then bif okZ a then 0 else 2 else BS a.c
def C_beg : Ctr := { α := CZ, xs := xCZ, val := λ a => .tup [.bptr 0 0, .int (Na a)], keep := λ a => dkN (JB a), pre := λ a => [(a.c.ms.length < 4611686018427387904 /\ a.c.ns.length < 4611686018427387904 /\ a.z.length < 4611686018427387904) /\ BS a.c = 0] }
def C_begX : Ctr := { α := CZ, xs := xCZ, val := λ a => .tup [.d (.v (.pointer none)), .int (Na a)], keep := λ _ => [], pre := λ a => [(a.c.ms.length < 4611686018427387904 /\ a.c.ns.length < 4611686018427387904 /\ a.z.length < 4611686018427387904) /\ BS a.c ≠ 0] }
def BMR : Ann := { ann 23 [(VS, C_open.spec dC1), (AHL, C_stop.spec dDkZ)] with md := λ id => if id = 2 then some λ k => if k = 3 ∨ k = 4 ∨ k = 5 ∨ k = 6 then 8 else 0 else none }
def BIO : Ann := { ann 23 [(VS, C_openX.spec dC1)] with md := λ id => if id = 2 then some λ k => if k = 3 ∨ k = 4 ∨ k = 5 ∨ k = 6 then 9 else 0 else none }
def BNX (a : CZ) : Prop := CR Try.prog BMR K8 (AL K8) (xCZ a) (AE []) (C_beg.val a) (C_beg.keep a) [(0, 2016), (1, 2017)] []
abbrev DU:=CZ.c
abbrev YR:=CZ.z
abbrev XJ:=Na
abbrev UI:=JB
abbrev aS a b c d:=AK a b c a d
abbrev FJ a:=AG (UI a)
abbrev UL a b:=DD (DU a) b
abbrev Mt a:=GS (DU a) (λ i=>UL a i)
abbrev Pi a b c:=JD (DU a) (DU b) (DU b) (Mt c)
abbrev SP a:=Pi a a a
abbrev QA a:=AX (SP a)
abbrev AQZ a b:=DkZ.mk a (EQ b)
abbrev Yq a b:=stD (AQZ a b)
abbrev wV a b c:=Dk.mk a b (ID c)
abbrev APU a b c:=wV a (Dk.st (VW b)) c
abbrev wZ a:=DG (AX a)
abbrev ARD a b c:=APU (wZ a) b (VW c)
abbrev ABK a:=ARD a a a
abbrev AJO a:=ABK (SP a)
abbrev APY a b:=MC (AQZ a b)
abbrev KK a:=APY (AJO a) (YR a)
abbrev Ae a b:=GB a (not b)
abbrev Gv a:=EQ (YR a)
abbrev UQ a:=CW a 40
abbrev MD a:=UQ (ED a)
abbrev XT a b:=ntOf (HR a) b
abbrev Et a b:=FH (XT a b)
abbrev UU a b c d e f:=TU a b c d (Et e f)
abbrev Be a b:=CF (XT a b)
abbrev EM a:=DF (λ i=>UU (XT a i) a i (Be a i) a i)
abbrev HB a:=DF (λ i=>JY a i)
abbrev PT a:=HB (VW a)
abbrev WX a b:=MA (HR a) b
abbrev VM a b c d:=Dq (WX a b) c d
abbrev EN a:=DF (λ i=>VM a i a i)
abbrev OA a:=CQ (Gv a) (YR a)
abbrev IZ:=FT LX
abbrev Az a:=VO (SP a)
abbrev Gs a b:=And (IB a) b
abbrev Mm a:=GZ (Mt a)
abbrev YY a:=EG (Mm a)
abbrev MG a b c d e:=RH a (Mm b) c d e
abbrev VK a b:=EE (UL a b)
abbrev WW a b:=HK (Mt a) b
abbrev SD a b:=GJ (Mm a) b
abbrev Cd a b:=SD a (DU b)
attribute [go_sem] DU YR XJ UI aS FJ UL Mt Pi SP QA AQZ Yq wV APU wZ ARD ABK AJO APY KK Ae Gv UQ MD XT Et UU Be EM HB PT WX VM EN OA IZ Az Gs Mm YY MG VK WW SD Cd
theorem BRA (a : CZ) : (BNX a) = (AH (ZW (DU a) (Cd a a) (λ i=>MG i a (WW a i) (UL a i) (VK a i)) (Gs (DU a) (YY a)) (EV (Az a))) IZ (aS IZ IZ (And (OA a) (YC (EO (Gv a) (YR a)) (AT (QA a)) (GG (QA a)) (AV (QA a)) (FX (BA (QA a)) (BB (QA a)) (BF (QA a)) (BM (QA a)) (CA (QA a)) (AF (λ i=>BC i (QA a) (BG (QA a) i) (BD (QA a) i) (AP (QA a) i) (AZ (QA a) i) (AO (QA a) i) (BE (QA a) i) (AM (QA a) i))) LR BI (AN (EN (QA a)) (PT (SP a)) (EM (QA a)) BI (DF (λ i=>UX (QA a) i (KK a) i)) (DF (λ i=>VD (VW (SP a)) i (Yq (AJO a) (YR a)) i)) (DF (λ i=>VF (KB (QA a) i) (KK a) i (KU (QA a) i) (QA a) i)) (EG (FV (Gv a))) (MD (QA a)))))) (FG (Ae ((@BEq.beq Nat (@instBEqOfDecidableEq Nat instDecidableEqNat)) 0 0) (Rn (Ku (QA a)) (-1) (Gv a))) (GH (AS (XJ a) 2) (RZ (FJ a) (KK a)) (SH (FJ a) (KK a)) (SC (FJ a) (KK a)) (RG (FJ a) (KK a)) (RR (FJ a) (KK a)) (LI (RL (FJ a) (KK a)) (λ i=>RQ i (FJ a) (RF (FJ a) i (KK a) i) i (KK a) i) (SB (FJ a) (KK a)) (λ i=>EP i (FJ a) (SK (SF (FJ a) i (KK a) i) (FJ a) i (AP (KK a) i) i (AO (KK a) i) (AM (KK a) i))) (λ i=>XH i (ID (UI a) i) (ID (Yq (AJO a) (YR a)) i)) BI (DF (λ i=>UX (FJ a) i (QA a) i)) (λ i=>VD (UI a) i (VW (SP a)) i) (λ i=>VF (KB (FJ a) i) (QA a) i (KU (FJ a) i) (FJ a) i))) (GH (EV (XJ a)) (RZ (FJ a) (KK a)) (SH (FJ a) (KK a)) (SC (FJ a) (KK a)) (RG (FJ a) (KK a)) (RR (FJ a) (KK a)) (LI (RL (FJ a) (KK a)) (λ i=>RQ i (FJ a) (RF (FJ a) i (KK a) i) i (KK a) i) (SB (FJ a) (KK a)) (λ i=>EP i (FJ a) (SK (SF (FJ a) i (KK a) i) (FJ a) i (AP (KK a) i) i (AO (KK a) i) (AM (KK a) i))) (λ i=>XH i (ID (UI a) i) (ID (Yq (AJO a) (YR a)) i)) BI (DF (λ i=>UX (FJ a) i (QA a) i)) (λ i=>VD (UI a) i (VW (SP a)) i) (λ i=>VF (KB (FJ a) i) (QA a) i (KU (FJ a) i) (FJ a) i)))))) := by kernel_rfl
def BEN (a : CZ) : Prop := CR Try.prog BIO K8 (AL K8) (xCZ a) (AE []) (C_begX.val a) [] [] []
abbrev WY a b c d:=AK a a b c d
abbrev APS a b c:=WY a a b c
abbrev XR a:=Lv a 0
abbrev HQ a b:=CV (EK a) b
abbrev PJ a:=(@Ne Int) a 0
attribute [go_sem] WY APS XR HQ PJ
theorem BMM (a : CZ) : (BEN a) = (AH (ZW (DU a) (Cd a a) (λ i=>MG i a (WW a i) (UL a i) (VK a i)) (Gs (DU a) (YY a)) (PJ (Az a))) (EX (XR (Az a))) (APS (EX (XR (Az a))) (HQ (XR (Az a)) (EK He)) (DH (GB (XR (Az a)) He) Rc (AS (XJ a) 2) (And Rc (AS (XJ a) (Az a)))))) := by kernel_rfl
theorem dH (a : CZ) : (JB a).c = a.c := rfl
theorem Rm (w : Dk) : Dk.mk w.c w.st w.sp = w := rfl
theorem PE {c : Cht} (h : BS c = 0) : Mj c = 0 /\ (1 <= c.ms.length /\ c.ms.length <= 40) /\ c.ns.length <= 20 := by
 have h1 : Mj c = 0 := by
  unfold BS at h
  cases hc : (Mj c != 0) with
  | false => simpa using hc
  | true => rw [hc] at h; simpa using h
 refine ⟨h1, ?_⟩
 unfold Mj at h1
 cases hc : (bif !TM c.ms.length 1 40 then true else decide ((c.ns.length : Int) > 20)) with
 | true => rw [hc] at h1; cases h1
 | false =>
  cases hb : TM c.ms.length 1 40 with
  | false => rw [hb] at hc; cases hc
  | true =>
   rw [hb] at hc
   have hc : decide ((c.ns.length : Int) > 20) = false := hc
   simp only [TM, Bool.and_eq_true, decide_eq_true_eq, decide_eq_false_iff_not] at hb hc
   omega
theorem BTU (a : CZ) (h : (a.c.ms.length < 4611686018427387904 /\ a.c.ns.length < 4611686018427387904 /\ a.z.length < 4611686018427387904) /\ BS a.c = 0) : BNX a := by
 obtain ⟨⟨hm, hn, hz⟩, h0⟩ := h
 have hl := PE h0
 rw [BRA]<;> delta LV He CI CH FE EE FH CL AF CV DC AS CG CW FG JT HP GG IQ IV IX JU GZ GM HK LC FV ET XS LX VO OE DF MA AG VW ID DU YR XJ UI AH DD AX EL EW GS AK FJ BN BQ UL CF SO AJ HR GI EQ FT aS BJ KB AN AM BV AZ CD BR JD BL AO DZ EI NO DV DI CB GN AT BB EP HD BO Mt YC DG DY AP BT BA ED AW BE XT LZ Pi AV FN GF FA CM NC GR KU PN GQ MC BD FL wV TY wZ BI Et AQZ EG TW FX IT GD SP UE APU GJ EC APY WX Be EA CQ FY FM JY ARD OC BC KO IL Bc BF CA ABK BG NQ HB KT KX LJ GT KR QD LI WW QA Dq Gv Mm EV AJO GH JL Iz SK CE BM IB VM GB LR IZ EO KK TU UU PT FR EN UQ EM MD YY SD RL Jq RZ SB Az Ju RR Gs OA TA Kq Rf SC SH RG UX RF SF Ae VK VD RH MG ZW VF RQ XH Cd Yq Ku; simp only [CC, eq_self, implies_true, forall_const, DW, P0, Rm, APL, dH]
 have e : Na a = bif okZ a then 0 else 2 := by unfold Na; rw [h0]; rfl
 have e2 : Rn a.c.ms.length (-1) a.z = okZ a := rfl
 have e3 : stD ⟨AY a.c, a.z⟩ = JB a := rfl
 simp only [e, e2, e3, dH]
 have e4 : ∀ n, (AY a.c).st n = (JB a).st n := λ _ => rfl
 cases okZ a <;> simp [hm, hn, hz, h0, hl.2.1.2, e4] <;> exact ⟨λ _ => rfl, λ _ _ => rfl⟩
theorem ASN : AR Try.prog gC (C_beg.spec dCZ) := Bl C_beg (λ _ => BMR) [(0, 2016), (1, 2017)] [] AQG (λ _ => by kernel_rfl) (λ _ => AC F7 (AC AOO AI)) (λ a h => BTU a h) (λ _ => Ec rfl rfl) _
theorem AYQ : AR Try.prog gC (C_begX.spec dCZ) := Bl C_begX (λ _ => BIO) [] [] AQG (λ _ => by kernel_rfl) (λ _ => AC M3 AI) (λ (a : CZ) h => by
 obtain ⟨⟨hm, hn, hz⟩, h0⟩ : (a.c.ms.length < 4611686018427387904 /\ a.c.ns.length < 4611686018427387904 /\ a.z.length < 4611686018427387904) /\ BS a.c ≠ 0 := h
 have h0' : (BS a.c == 0) = false := by simpa using h0
 have e : Na a = BS a.c := by unfold Na; rw [h0']; rfl
 show BEN a; rw [BMM]<;> delta LV He CI CH FE EE FH CL AF CV DC AS FG JT HP GG IQ IV IX JU GZ GM HK LC Lv LX VO OE DU XJ AH DD EL EW GS AK BN BQ UL CF AJ GI WY APS BJ AN BV CD BR JD BL DZ EI DI CB GN AT BB BO Mt DY BT BA ED AW Pi AV GF FA CM GR GQ EG EK GD SP GJ EC HQ DH EA FY FM BF GT WW Mm CE IB EX GB FR YY SD Az Gs PJ TA XR VK RH MG ZW Cd Rc; simp only [CC, eq_self, implies_true, forall_const, DW, h0', e]
 simp [hm, hn, h0]) (λ _ => Ec rfl rfl) _
end Go.Bal
