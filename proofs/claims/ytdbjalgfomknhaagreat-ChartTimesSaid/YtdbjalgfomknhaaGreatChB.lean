/- Package chart: which charts are right; a chart at work. -/
import Derived.Test.YtdbjalgfomknhaaGreatChE
set_option linter.unusedVariables false
set_option linter.unusedSimpArgs false
namespace Go.Bal
open Go Go.Sym Go.Proofs
def fP : Int -> List Mk -> Int
 | _, [] => 0
 | a, m :: r => bif (bif !KT m.pl 0 10000 then true else !KT m.ht 0 1000) then 30 else bif decide (m.pl <= a) then 9 else fP m.pl r
def hY (l : List Nt) (i : Nat) : Bool := !(l.take i).any λ x => x.mi == (gD l i).mi
def TA (c : Cht) : Int := bif (bif !KT c.ms.length 1 40 then true else decide ((c.ns.length : Int) > 20)) then 3 else bif (bif (bif (bif !UQ c.p 1 600 then true else !KT c.base (-1000000) 1000000) then true else !KT c.scale 0 1000) then true else !KT c.off 0 1000) then 30 else 0
def AM (c : Cht) : Int := bif TA c != 0 then TA c else bif fP (-1) c.ms != 0 then fP (-1) c.ms else bif !c.ns.all (λ n => RF n c.ms.length) then 30 else bif Rq (hY c.ns) c.ns.length then 0 else 10
def kM : List AVal -> Heap -> Option (Cht × List (Nat × Nat) × List Nat)
 | [y], H => match nM y H with
  | some (l, f) => some (l, [], f)
  | none => none
 | _, _ => none
def C_Check : Ctr := { α := Cht, xs := λ c => [.d (Dj c)], L := λ _ => [], val := λ c => .int (AM c), keep := λ _ => [], pre := λ c => [c.ms.length < 4611686018427387904 /\ c.ns.length < 4611686018427387904] }
def ck7 (c : Cht) : Shape := { α := NI, dflt := default, T := λ s => ⟨[(1, .bptr 201 0), (3, .int s.m), (44, .d (wX c.ms)), (45, .int c.ms.length), (46, .int s.k)], [(201, .live (sJ c))]⟩, inv := λ s => s.k <= c.ms.length /\ TA c = 0 /\ fP s.m (c.ms.drop s.k) = fP (-1) c.ms, meas := λ s => c.ms.length - s.k, first := [(201, 1000)] }
def ck18 (c : Cht) : Shape := { α := Nat, dflt := 0, T := λ k => ⟨[(1, .bptr 201 0), (75, .d (oA c.ns)), (76, .int c.ns.length), (77, .int k)], [(201, .live (sJ c))]⟩, inv := λ k => k <= c.ns.length /\ TA c = 0 /\ fP (-1) c.ms = 0 /\ c.ns.all (λ n => RF n c.ms.length) = true /\ Rq (hY c.ns) k = true, meas := λ k => c.ns.length - k }
def AUG (c : Cht) : Ann := { ann 89 [(sA, vS), (dR, AUW), (n_eN, C4Nr.spec d4Nr), (APH, C3Nc.spec d3Nc)] with loops := λ id => if id = 7 then some [ck7 c] else if id = 18 then some [ck18 c] else none }
def AUF (c : Cht) : Prop := CH Try.prog (AUG c) AME (AH AME) (C_Check.xs c) (AB []) (C_Check.val c) [] [] []
abbrev JL:=true
abbrev JM:=λ (x0 x1 : Int) => decide (x0 > x1)
abbrev PW:=AM
abbrev tD:=@Exists NI
abbrev fJ:=NI.m
abbrev KE:=NI.k
abbrev yC:=@List.drop Mk
abbrev ACA:=λ (f : NI -> Prop) => ∀ (x : NI), f x
abbrev FY:=Int.toNat
abbrev QC:=@HAdd.hAdd Nat Nat Nat (@instHAdd Nat instAddNat)
abbrev Hs a b:=AR (PW a) b
abbrev Pj a b c d:=EK a (Hs b c) d
abbrev HG a b c d:=And a (EK b c d)
abbrev KS a b c d e:=EK a (AE b c d) e
abbrev IQ a:=AR a 0
abbrev KP a:=IQ (PW a)
abbrev CK a:=KH a JL
abbrev mD a b:=CK (Rq a b)
abbrev Tz a b:=mD (hY (GG a)) b
abbrev bP a:=fP (-1) (GW a)
abbrev Iv a:=IQ (bP a)
abbrev VZ a:=IQ (TA a)
abbrev XK a b:=DJ a (AN b)
abbrev RQ a:=IM (AN a)
abbrev HE a:=AD (λ i=>BK i a)
abbrev RI:=FY 0
abbrev Si a:=QC RI a
abbrev Tb a:=LO a RI
abbrev BV a:=QC 0 a
abbrev ZE a:=LO a 0
abbrev Mx a b c d e:=FN a b c d e c d
abbrev Af a b c:=BW a (LO b c)
abbrev Lz a b:=HO a (BZ b)
abbrev Lx:=HO 0 0
abbrev YZ a b:=FR a (AN b)
abbrev Ff a b:=HB a (BZ b)
abbrev HM a:=DT (DA a)
abbrev Nw a b:=DJ a (BB b)
abbrev WW a:=AG (IV a)
abbrev JS a:=AD (λ i=>DX i a)
abbrev Ey a b:=AR (fJ a) b
abbrev IF a b:=wN a JL b
abbrev WH a b:=Cr a 0 b
abbrev An a b c:=IF (IF a b) c
abbrev XX a b:=JM (BZ a) b
attribute [go_sem] JL JM PW tD fJ KE yC ACA FY QC Hs Pj HG KS IQ KP CK mD Tz bP Iv VZ XK RQ HE RI Si Tb BV ZE Mx Af Lz Lx YZ Ff HM Nw WW JS Ey IF WH An XX
theorem BCU (c : Cht) : (AUF c) = (Pj (IF (Cr (IV c) 1 40) (XX (AN c) 20)) c 3 (Pj (IF (An (not (hd9 (EX c) 1 600)) (Cr (HP c) (-1000000) 1000000) (WH (HN c) 1000)) (WH (HJ c) 1000)) c 30 (And (tD (λ i=>AO (EW (Ey i (-1)) (BX c) (JS c) (WW c) (BR (KE i)) (GR c)) (Nw (KE i) c) (VZ c) (AR (fP (fJ i) (yC (KE i) (GW c))) (bP c)))) (ACA (λ i=>GC (AE (Nw (KE i) c) (VZ c) (AR (fP (fJ i) (yC (KE i) (GW c))) (bP c))) (KE i) (IV c) (FR (KE i) (BB c)) (Pj (IF (WH (CE c (KE i)) 10000) (WH (CP c (KE i)) 1000)) c 30 (Pj (hd7 (CE c (KE i)) (fJ i)) c 9 (tD (λ j=>EB (EW (Ey j (CE c (KE i))) (BX c) (JS c) (WW c) (BD (KE j) (KE i)) (GR c)) (AE (Nw (KE j) c) (VZ c) (AR (fP (fJ j) (yC (KE j) (GW c))) (bP c))) (BB c) (KE j) (KE i))))) (HG (And (BE c) (XZ (BI c) (AQ c) (EX c) (AP c) (QJ c (BO c) (BL c) (BE c) (BI c) (AQ c) (AT c) (MD c (CQ c) (DN c) (DH c) (λ j=>DI j c) (HM c) IH)))) (not (hd80 (EM c) (λ j=>wJ j (Nz c)))) (Hs c 30) (DP (λ j=>EW (AF (CG c) (HE c) (RQ c) (BR j) (GR c)) (XK j c) (VZ c) (Iv c) (CK (hd80 (GG c) (λ k=>Lm k c))) (Tz c j)) (λ j=>BU (AF (XK j c) (VZ c) (Iv c) (CK (hd80 (GG c) (λ k=>Lm k c))) (Tz c j)) (KS (Ff j (AN c)) (YZ j c) (HU Lx (CN (BZ j)) (Lz (BZ j) (AN c)) (Af (DU (JW (Tb j) (λ k=>CR c (Si k)))) j RI) (AF (AD (λ k=>AU k (DU (JW (ZE j) (λ l=>CR c (BV l)))) (Mx (EL (FE (JW (Tb j) (λ l=>CR c (Si l))) k) c (Si k)) (Cd (JW (Tb j) (λ l=>CR c (Si l))) k) c (Si k) (Ci (JW (Tb j) (λ l=>CR c (Si l))) k)))) (AG (BS c j)) (BM (CJ c j)) (AZ (CJ c j)) (Rd (BM (BY c j)) (AZ (BY c j)) (AG (BS c j)) (BM (CJ c j)) (AZ (CJ c j)) (BM (BY c j)) (DT (DU (JW (ZE j) (λ k=>CR c (BV k))))) IH))) (Pj ((@List.any Nt) (JW (Tb j) (λ k=>CR c (Si k))) (λ k=>nN k (BS c j))) c 10 (GN (λ k=>EB (AF (CG c) (HE c) (RQ c) (BD k j) (GR c)) (AF (XK k c) (VZ c) (Iv c) (CK (hd80 (GG c) (λ l=>Lm l c))) (Tz c k)) (AN c) k j))) (KP c)))))))))) := by kernel_rfl
theorem BDU {α : Type} [Inhabited α] {l : List α} {k : Nat} (h : k <= l.length) : (IK k λ i => gD l i) = l.take k := by
 refine AQS (by simp [h]) λ i hi => ?_
 have hi : i < k := by simpa using hi
 rw [FF _ _ _ hi]
 simp [gD, List.getD_eq_getElem?_getD, List.getElem?_take, hi]
theorem pC {p : Nat -> Bool} {n k : Nat} (hk : k < n) (h : p k = false) : Rq p n = false := by
 cases hc : Rq p n with
 | false => rfl
 | true => rw [Qv.1 hc k hk] at h; cases h
theorem BLI (c : Cht) (h : c.ms.length < 4611686018427387904 /\ c.ns.length < 4611686018427387904) : AUF c := by
 obtain ⟨hm, hn⟩ := h
 rw [BCU]<;> delta KH wN hd7 hd9 BG BJ wJ EC MM NO ES ET BW AD BU CL AR BZ DJ EK JH HO KB NL LO EJ GW EX HP HN HJ GT GB HC DU GG FE JW GN IH hd80 Dx JL JM PW tD fJ KE yC ACA FY QC AE CR FA BB GA AF AY AU AG EM EZ BC AX FC BM CJ AK AN DD BH BY BP CX BN CY BS CE HQ FU AV DA AQ EV DW AZ XZ Rd DQ CP FT AS FS DM AP ID AT BV EG CN BX CM HD CG GP GU DS FH HV AO CK DT EL FV CD EP HW EO IV DB FN FM KM JB DZ BD EA FQ FR IW NH BE Mx DX FO FZ KL NC JS GH IC LM VT LB IM EW IQ HS HB BO EB DH CQ BK GY CS EE LV GM IF KP BR BI BL HE DG RM HU HM GC DP GR DI RI DN HG Af KS Cr mD RQ MD XX VZ Lx Hs Lm bP An Lz QJ WW XK nN Iv WH Ey YZ Ci Cd ZE Tz Nw Si Tb Pj Ff Nz; simp only [CC, eq_self, implies_true, forall_const, Nat.sub_zero, Int.toNat_zero]
 refine ⟨λ h1 => ?_, λ h1 => ⟨λ h2 => ?_, λ h2 => ?_⟩⟩
 ·have e : TA c = 3 := by unfold TA; rw [h1]; rfl
  unfold AM; rw [e]; rfl
 ·have e : TA c = 30 := by unfold TA; rw [h1, h2]; rfl
  unfold AM; rw [e]; rfl
 have e : TA c = 0 := by unfold TA; rw [h1, h2]; rfl
 have k0 : ∀ v : Int, v ≠ 0 -> fP (-1) c.ms = v -> AM c = v := λ v hv hm => by 
  have hv0 := hv
  have hv' : (v != 0) = true := by simpa using hv
  unfold AM; rw [e, hm, hv']; rfl
 refine ⟨⟨⟨0, -1⟩, ⟨rfl, rfl⟩, Nat.zero_le _, e, rfl⟩, λ s ⟨s1, _, s3⟩ => ⟨λ hlt => ?_, λ hge => ?_⟩⟩
 ·have hlt : s.k < c.ms.length := by omega
  have hd := AAL hlt
  rw [hd] at s3
  refine ⟨by omega, λ h3 => ?_, λ h3 => ⟨λ h4 => ?_, λ h4 => ⟨⟨s.k + 1, (gD c.ms s.k).pl⟩, ⟨rfl, (HY (by omega)).symm⟩, ⟨by show s.k + 1 <= _; omega, e, ?_⟩, by show c.ms.length - (s.k + 1) < _; omega⟩⟩⟩
  ·exact k0 30 (by decide) (by rw [<- s3]; unfold fP; rw [h3]; rfl)
  ·exact k0 9 (by decide) (by rw [<- s3]; unfold fP; rw [h3, decide_eq_true h4]; rfl)
  ·rw [<- s3]; conv => rhs; unfold fP
   rw [h3, decide_eq_false h4]; rfl
 ·have hmk : fP (-1) c.ms = 0 := by rw [<- s3, List.drop_of_length_le (by omega)]; rfl
  refine ⟨by omega, λ h3 => ?_, λ h3 => ⟨⟨0, rfl, Nat.zero_le _, e, hmk, h3, rfl⟩, λ k ⟨k1, _, _, _, k5⟩ => ⟨λ hlt => ?_, λ hge => ?_⟩⟩⟩
  ·unfold AM; rw [e, hmk, h3]; rfl
  ·have hlt : k < c.ns.length := by omega
   have et : (IK k λ i => gD c.ns i) = c.ns.take k := BDU (by omega)
   rw [et]
   refine ⟨by omega, ⟨⟨by omega, by omega, by omega⟩, λ i hi => ?_, by omega⟩, λ h4 => ?_, λ h4 => ⟨k + 1, (HY (by omega)).symm, ⟨by omega, e, hmk, h3, ?_⟩, by omega⟩⟩
   ·rw [<- et, FF _ _ _ hi]; exact ⟨rfl, rfl, rfl, rfl, rfl⟩
   ·have hp : Rq (hY c.ns) c.ns.length = false := pC hlt (by unfold hY; rw [h4]; rfl)
    unfold AM; rw [e, hmk, h3, hp]; rfl
   ·show (Rq (hY c.ns) k && hY c.ns k) = true
    unfold hY at k5 ⊢; rw [k5, h4]; rfl
  ·obtain rfl : k = c.ns.length := by omega
   unfold AM; rw [e, hmk, h3, k5]; rfl
theorem AGB : AJ Try.prog AAY (C_Check.spec kM) := XP C_Check AUG [] [] BDP (λ _ => by kernel_rfl) (λ _ => AA nD (AA BDH (AA BXB (AA BWT AC)))) BLI (λ _ => YS rfl rfl) _
def hasN (l : List Nt) (j : Int) : Bool := l.any λ x => x.mi == j
def ntOf : List Nt -> Int -> Nt
 | [], _ => default
 | n :: r, j => bif hasN r j then ntOf r j else bif n.mi == j then n else default
structure Dk where
 c : Cht
 st : Int -> Int
 sp : Nat -> Bool
def gH : Value := .agg #[.int .i64 0, .int .i64 0, .int .i64 0, .int .i64 0, .int .i64 0]
def dkB (w : Dk) (m : Nat) : AObj := .abox [.int w.c.p.lo, .int w.c.p.hi, .int w.c.base, .int w.c.scale, .int w.c.off, .d (wX w.c.ms), .d (oA w.c.ns), .mref m] 40 w.sp
def dkM (w : Dk) : AObj := .imap .i64 gH (hasN w.c.ns) (λ j => eNt (ntOf w.c.ns j)) w.st none
def dkL (w : Dk) : List (Nat × AObj) := [(100, dkB w 101), (101, dkM w)]
def dkK (w : Dk) : List (Nat × HCell) := [(100, .live (dkB w 101)), (101, .live (dkM w))]
def dkN (w : Dk) : List (Nat × HCell) := [(0, .live (dkB w 1)), (1, .live (dkM w))]
def tE (H : Heap) (id : Nat) : Option (Dk × Nat) := match H id with
 | .live (.abox [.d a, .d b, .d c, .d d, .d e, .d (.list _ n f _), .d (.list _ m g _), .mref q] _ sp) => match H q with
  | .live (.imap _ _ _ _ st _) => some (⟨⟨⟨HK a, HK b⟩, HK c, HK d, HK e, IK n λ i => dMk (f i), IK m λ i => dNt (g i)⟩, st, sp⟩, q)
  | _ => none
 | _ => none
def stK (l : List Nt) : Nat -> Int -> Int
 | 0 => λ _ => 0
 | k + 1 => xM (hasN (l.take k)) (stK l k) (gD l k).mi
def BA (c : Cht) : Dk := ⟨c, stK c.ns c.ns.length, λ _ => false⟩
def C_open : Ctr := { α := Cht, xs := λ c => [.d (Dj c)], val := λ _ => .tup [.bptr 0 0, .int 0], keep := λ c => dkN (BA c), pre := λ c => [(c.ms.length < 4611686018427387904 /\ c.ns.length < 4611686018427387904) /\ AM c = 0] }
def C_openX : Ctr := { α := Cht, xs := λ c => [.d (Dj c)], val := λ c => .tup [.d (.v (.pointer none)), .int (AM c)], keep := λ _ => [], pre := λ c => [(c.ms.length < 4611686018427387904 /\ c.ns.length < 4611686018427387904) /\ AM c ≠ 0] }
def op6 (c : Cht) : Shape := { α := Nat, dflt := 0, T := λ k => ⟨[(5, .bptr 201 0), (18, .d (oA c.ns)), (19, .int c.ns.length), (20, .int k)], [(201, .live (.abox [.int c.p.lo, .int c.p.hi, .int c.base, .int c.scale, .int c.off, .d (wX c.ms), .d (oA c.ns), .mref 202] 40 λ _ => false)), (202, .live (.imap .i64 gH (hasN (c.ns.take k)) (λ j => eNt (ntOf (c.ns.take k) j)) (stK c.ns k) none))]⟩, inv := λ k => k <= c.ns.length, meas := λ k => c.ns.length - k, first := [(201, 5048), (202, 5016)] }
def AND (c : Cht) : Ann := { ann 33 [(AAY, C_Check.spec kM)] with loops := λ id => if id = 6 then some [op6 c] else none }
def BEN (c : Cht) : Prop := CH Try.prog (AND c) nP (AH nP) (C_open.xs c) (AB []) (C_open.val c) (C_open.keep c) [(0, 201), (1, 202)] []
abbrev NJ:=@bne Int (@instBEqOfDecidableEq Int Int.instDecidableEq)
abbrev JV:=False
abbrev NY:=@Eq Value
abbrev ABR:=@List.toArray Value
abbrev AFL:=@List.nil Value
abbrev EU:=λ (f : Int -> Prop) => ∀ (x : Int), f x
abbrev MP:=hasN
abbrev KI:=Nat.le
abbrev YM:=@cond Int
abbrev AIM:=λ (x0 x1 : Int) => decide (x0 = x1)
abbrev AL:=Dk.c
abbrev ZS:=BA
abbrev JZ a:=NJ a 0
abbrev SK a b c d:=HG a (JZ b) c d
abbrev IR a b c d e f g:=AE a b (AF c d e f g)
abbrev PZ a (b:Nat->Prop) c d e f (g:Int->Prop) h p:=DC a b c d e f (EU g) h p
abbrev SV a (b:Nat->Prop) c (d:Nat->Prop) e f (g:Int->Prop) h p:=PZ a b c (AD d) e f g h p
abbrev Gx a (b:Nat->Prop) c (d:Nat->Prop) e f (g:Int->Prop) (h:Int->Prop) p:=SV a b c d e f g (EU h) p
abbrev SO a (b:Nat->Prop) c (d:Nat->Prop) e f (g:Int->Prop) (h:Int->Prop) (p:Int->Prop):=Gx a b c d e f g h (EU p)
abbrev RA a b:=ntOf (GG a) b
abbrev OT a b:=ET (RA a b)
abbrev QX a b:=ES (RA a b)
abbrev UG a b c d e:=SY (RA a b) c (QX a b) d (OT a b) e
abbrev Pc a b:=(@List.take Nt) a (GG b)
abbrev Rv a b c:=ntOf (Pc a b) c
abbrev Fo a b c:=ET (Rv a b c)
abbrev Eu a b c:=ES (Rv a b c)
abbrev BF a:=AL (ZS a)
abbrev Ns a b c:=AR (Dk.st a b) c
abbrev OK a b:=MP (GG a) b
abbrev UL a b c:=KH (OK a b) c
abbrev BT:=NY gH gH
abbrev NE a b c:=AU a b (FD c)
abbrev LG:=AD (λ i=>NE i 40 ZR)
abbrev Hq a b c d e f g h:=Mx (KL a b (BS c d)) (CJ a e) f g (BY a h)
abbrev TM a b c d e f g:=Hq a b c d e c f g
abbrev UK a b:=FM (AN a) b
abbrev Lv a b c d e f:=GY a b (CE c d) (CP e f)
abbrev UA a b c d e:=Lv a b c d c e
abbrev TQ a b:=EA (BB a) b
abbrev Mh a b:=AR (HJ a) b
abbrev TC a b:=Mh a (HJ b)
abbrev Kq a b:=AR (HN a) b
abbrev UB a b:=Kq a (HN b)
abbrev Mc a b:=AR (HP a) b
abbrev TU a b:=Mc a (HP b)
abbrev UC a b:=AX (EX a) (EX b)
abbrev TH a b:=BN (EX a) (EX b)
abbrev Et a b:=KI a (AN b)
abbrev TD a b c d e f g:=AK a b c d (AT e) (AP f) (AS f) (AV f) g
abbrev HT a b c d e:=TD a b c (AQ d) d d e
abbrev Qn a b c d e:=YM (AIM a (BS b c)) d e
abbrev Dp a b:=BJ (CJ a b)
abbrev Aw a b:=BG (CJ a b)
abbrev Fm a:=AY a 0
abbrev Fp a:=BP a 0
abbrev EF a:=KH a ZR
abbrev Ln a:=Value.int NO a
abbrev aE:=Ln 0
abbrev jP a:=(@List.cons Value) aE a
abbrev bC a:=jP (jP a)
abbrev HX a b c d e f:=Cht.mk a (HP b) (HN c) (HJ d) e f
abbrev HZ a b c d e f:=HX a b c d e (EM f)
abbrev LX a b:=HZ (EX a) b b b (EZ b) b
abbrev DK a:=LX a a
abbrev WV a:=PW (DK a)
abbrev Fc a b c:=AE a (AT b) c
abbrev ZP a b c:=Fc (AQ a) b c
abbrev XQ a b c d e f:=MD a b c d (λ i=>CS i a) e f
abbrev UE a b c d e f:=XQ a b (BL c) (BE d) e f
abbrev Ch a:=DT (DQ a)
attribute [go_sem] NJ JV NY ABR AFL EU MP KI YM AIM AL ZS JZ SK IR PZ SV Gx SO RA OT QX UG Pc Rv Fo Eu BF Ns OK UL BT NE LG Hq TM UK Lv UA TQ Mh TC Kq UB Mc TU UC TH Et TD HT Qn Dp Aw Fm Fp EF Ln aE jP bC HX HZ LX DK WV Fc ZP XQ UE Ch
theorem BIX (c : Cht) : (BEN c) = (SK (ZP c c (UE c (BO c) c c (Ch c) (HM c))) (WV c) JV (DP (λ i=>And (And (CG c) (HT (HE c) (RQ c) (BR i) c (SO (BX c) (λ j=>DX j c) (CG c) (λ j=>BK j c) LG (NY gH (Value.agg (ABR (jP (bC (bC AFL)))))) (λ j=>EF (MP (Pc i c) j)) (λ j=>IQ (stK (GG c) i j)) (λ j=>AF (EG (Rv i c j) 0) (Fp (Eu i c j)) (Fm (Eu i c j)) (Fp (Fo i c j)) (Fm (Fo i c j)))))) (Et i c)) (λ i=>GQ (Et i c) i (AN c) (YZ i c) (GN (λ j=>EB (And (CG c) (HT (HE c) (RQ c) (BD j i) c (SO (BX c) (λ k=>DX k c) (CG c) (λ k=>BK k c) LG BT (λ k=>KH (MP (Pc j c) k) (Li (MP (Pc i c)) (BS c i) k)) (λ k=>AR (stK (GG c) j k) (xM (MP (Pc i c)) (stK (GG c) i) (BS c i) k)) (λ k=>AF (EG (Rv j c k) (Qn k c i (BS c i) (EC (Rv i c k)))) (BP (Eu j c k) (Qn k c i (Aw c i) (BG (Eu i c k)))) (AY (Eu j c k) (Qn k c i (Dp c i) (BJ (Eu i c k)))) (BP (Fo j c k) (Qn k c i (BG (BY c i)) (BG (Fo i c k)))) (AY (Fo j c k) (Qn k c i (BJ (BY c i)) (BJ (Fo i c k)))))))) (Et j c) (AN c) j i)) (IR BQ (TH (BF c) c) (UC (BF c) c) (TU (BF c) c) (UB (BF c) c) (TC (BF c) c) (SO (TQ (BF c) c) (λ j=>UA j (BF c) c j j) (UK (BF c) c) (λ j=>DW j (BF c) (TM (BF c) j c j j j j)) LG BT (λ j=>UL (BF c) j (MP (Pc i c) j)) (λ j=>Ns (ZS c) j (stK (GG c) i j)) (λ j=>UG (BF c) j (Rv i c j) (Eu i c j) (Fo i c j))))))) := by kernel_rfl
def AVB (c : Cht) : Prop := CH Try.prog (AND c) nP (AH nP) (C_open.xs c) (AB []) (C_openX.val c) [] [] []
abbrev Xh:=NY (Value.pointer (@none Addr)) (Value.pointer (@none Addr))
attribute [go_sem] Xh
theorem BFZ (c : Cht) : (AVB c) = (And (ZP c c (UE c (BO c) c c (Ch c) (HM c))) (DZ (JZ (WV c)) Xh (Hs c (WV c)) (DP (λ i=>And (And (CG c) (HT (HE c) (RQ c) (BR i) c (SO (BX c) (λ j=>DX j c) (CG c) (λ j=>BK j c) LG (NY gH (Value.agg (ABR (jP (bC (bC AFL)))))) (λ j=>EF (MP (Pc i c) j)) (λ j=>IQ (stK (GG c) i j)) (λ j=>AF (EG (Rv i c j) 0) (Fp (Eu i c j)) (Fm (Eu i c j)) (Fp (Fo i c j)) (Fm (Fo i c j)))))) (Et i c)) (λ i=>GQ (Et i c) i (AN c) (YZ i c) (GN (λ j=>EB (And (CG c) (HT (HE c) (RQ c) (BD j i) c (SO (BX c) (λ k=>DX k c) (CG c) (λ k=>BK k c) LG BT (λ k=>KH (MP (Pc j c) k) (Li (MP (Pc i c)) (BS c i) k)) (λ k=>AR (stK (GG c) j k) (xM (MP (Pc i c)) (stK (GG c) i) (BS c i) k)) (λ k=>AF (EG (Rv j c k) (Qn k c i (BS c i) (EC (Rv i c k)))) (BP (Eu j c k) (Qn k c i (Aw c i) (BG (Eu i c k)))) (AY (Eu j c k) (Qn k c i (Dp c i) (BJ (Eu i c k)))) (BP (Fo j c k) (Qn k c i (BG (BY c i)) (BG (Fo i c k)))) (AY (Fo j c k) (Qn k c i (BJ (BY c i)) (BJ (Fo i c k)))))))) (Et j c) (AN c) j i)) JV)))) := by kernel_rfl
theorem CU (c : Cht) : Cht.mk c.p c.base c.scale c.off c.ms c.ns = c := rfl
theorem D1 (c : Cht) : (BA c).c = c := rfl
theorem AIB (l : List Nt) (x : Nt) (j : Int) : hasN (l ++ [x]) j = Li (hasN l) x.mi j := by
 unfold hasN Li; rw [List.any_append, Bool.or_comm]
 simp only [List.any_cons, List.any_nil, Bool.or_false]
 congr 1
 rw [Bool.eq_iff_iff, beq_iff_eq, decide_eq_true_eq]; exact eq_comm
theorem AXZ (l : List Nt) (x : Nt) (j : Int) : ntOf (l ++ [x]) j = bif decide (j = x.mi) then x else ntOf l j := by
 induction l with
 | nil =>
  simp only [List.nil_append, ntOf, hasN, List.any_nil, cond_false]
  have : (x.mi == j) = decide (j = x.mi) := by rw [Bool.eq_iff_iff, beq_iff_eq, decide_eq_true_eq]; exact eq_comm
  rw [this]
 | cons y l ih =>
  simp only [List.cons_append, ntOf, ih, AIB, Li]
  cases decide (j = x.mi) <;> rfl
theorem BTO (c : Cht) (h : (c.ms.length < 4611686018427387904 /\ c.ns.length < 4611686018427387904) /\ AM c = 0) : BEN c := by
 obtain ⟨⟨hm, hn⟩, h0⟩ := h
 rw [BIX]<;> delta KH ZR BG BJ EC MM NO ES ET BW AD BU CL AR BZ SC EK JH HO KB NL LO EJ GW EX HP HN HJ GT GB HC DU GG FE JW GN PW NJ JV NY ABR AFL EU MP KI YM AIM AL ZS AE CR FA BB GA AF BF AY AU RA AG EM EZ BC FD AX FC BM CJ AK AN DD BH HX BY BP CX HZ BN CY BS CE HQ QX FU AV DA AQ EV DW AZ LX DQ CP FT AS OT FS DM AP ID AT EG CN BX NE CM HD CG GP GU OK DS FH HV DC DT BT EL FV DK CD EP HW EO DB FN FM UV JB DZ ML BD EA FQ PZ FR IW BE Mx DX FO FZ KL GH SV BQ IC LB IM SY IQ HS HB BO EB BK GY CS EE EF GM Pc BR BL HE UL HM GC Rv DP TD Ln HG LG HT UG JZ RQ MD GQ aE IR WV jP Ns Mh bC Kq Fo TC TQ UK Mc Eu TH UB Ch Fc Et Aw TU UC SK YZ Dp Gx Lv UA XQ Fp Fm ZP SO Hq TM Qn UE; simp only [CC, eq_self, implies_true, forall_const, CU, D1, h0]
 refine ⟨⟨hm, hn⟩, (λ h => by simp at h), λ _ => ⟨⟨0, ⟨rfl, rfl, λ _ => rfl, λ _ => rfl, λ _ => ⟨rfl, rfl, rfl, rfl, rfl⟩⟩, Nat.zero_le _⟩, λ k hk => ⟨λ hlt => ?_, λ hge => ?_⟩⟩⟩
 ·have hlt : k < c.ns.length := by omega
  refine ⟨by omega, k + 1, ⟨(HY (by omega)).symm, λ n => ?_, λ n => rfl, λ n => ?_⟩, by omega, by omega⟩
  ·rw [dV hlt, AIB]
  ·rw [dV hlt, AXZ]
   cases decide (n = (gD c.ns k).mi) <;> exact ⟨rfl, rfl, rfl, rfl, rfl⟩
 ·obtain rfl : k = c.ns.length := by omega
  simp [BA]
theorem zB : AJ Try.prog ZZ (C_open.spec kM) := XP C_open AND [(0, 201), (1, 202)] [] AHD (λ _ => by kernel_rfl) (λ _ => AA AGB AC) (λ c h => BTO c h) (λ _ => YS rfl rfl) _
theorem yN : AJ Try.prog ZZ (C_openX.spec kM) := XP C_openX AND [] [] AHD (λ _ => by kernel_rfl) (λ _ => AA AGB AC) (λ (c : Cht) h => by
 obtain ⟨⟨hm, hn⟩, h0⟩ : (c.ms.length < 4611686018427387904 /\ c.ns.length < 4611686018427387904) /\ AM c ≠ 0 := h
 have h0' : (AM c != 0) = true := by simpa using h0
 show AVB c; rw [BFZ]<;> delta KH ZR BG BJ EC MM NO ES ET BW AD BU CL AR BZ EK JH HO KB NL LO EJ GW EX HP HN HJ GT GB HC DU GG FE JW GN PW NJ JV NY ABR AFL EU MP KI YM AIM AE CR FA BB GA AF AY AU AG EM EZ BC FD AX FC BM CJ AK AN DD BH HX BY BP CX HZ BN CY BS CE HQ FU AV DA AQ EV DW AZ LX DQ CP FT AS FS DM AP ID AT EG CN BX NE CM HD CG GP GU DS FH HV DC DT BT EL FV DK CD EP HW EO DB FN FM JB DZ BD EA FQ PZ FR IW BE DX FO FZ GH SV IC LB IM IQ HS HB BO EB BK CS EE EF GM Pc BR BL HE HM GC Rv DP TD Ln LG HT JZ RQ MD GQ aE Hs WV jP bC Fo Eu Ch Fc Et Aw YZ Dp Gx XQ Fp Fm ZP SO Qn UE Xh; simp only [CC, eq_self, implies_true, forall_const, CU, h0']
 simp [hm, hn]) (λ _ => YS rfl rfl) _
def Gc (m : Int) : Int -> List Int -> Bool
 | _, [] => true
 | a, g :: r => bif KT g (wr (a + 1)) (wr (m - 2)) then Gc m g r else false
def nQ (m : Int) : Int -> List Int -> (Nat -> Bool) -> Nat -> Bool
 | _, [], f, j => f j
 | a, g :: r, f, j => bif KT g (wr (a + 1)) (wr (m - 2)) then nQ m g r (λ i => bif decide (i = g.toNat) then true else f i) j else f j
structure DkZ where
 w : Dk
 z : List Int
def stD (a : DkZ) : Dk := ⟨a.w.c, a.w.st, nQ a.w.c.ms.length (-1) a.z a.w.sp⟩
def dDkZ : List AVal -> Heap -> Option (DkZ × List (Nat × Nat) × List Nat)
 | [.bptr id _, y], H => match tE H id, fM y H with
  | some (w, q), some (l, f) => some (⟨w, l⟩, [(100, id), (101, q)], f)
  | _, _ => none
 | _, _ => none
structure StK where
 k : Nat
 m : Int
 f : Nat -> Bool
 deriving Inhabited
def stp3 (a : DkZ) : Shape := { α := StK, dflt := default, T := λ s => ⟨[(0, .bptr 100 0), (5, .int s.m), (8, .d (DV a.z)), (9, .int a.z.length), (10, .int s.k)], dkK ⟨a.w.c, a.w.st, s.f⟩⟩, inv := λ s => (s.k <= a.z.length /\ -1 <= s.m /\ s.m <= 40) /\ Gc a.w.c.ms.length s.m (a.z.drop s.k) = Gc a.w.c.ms.length (-1) a.z /\ ∀ j, nQ a.w.c.ms.length s.m (a.z.drop s.k) s.f j = nQ a.w.c.ms.length (-1) a.z a.w.sp j, meas := λ s => a.z.length - s.k }
def C_stop : Ctr := { ro := [101], α := DkZ, xs := λ a => [.bptr 100 0, .d (DV a.z)], L := λ a => dkL a.w, val := λ a => .bool (Gc a.w.c.ms.length (-1) a.z), keep := λ a => dkK (stD a), pre := λ a => [a.z.length < 4611686018427387904 /\ a.w.c.ms.length <= 40] }
def BEE (a : DkZ) : Ann := { ann 33 [(sA, vS)] with E := [100, 101], loops := λ id => if id = 3 then some [stp3 a] else none }
def BAW (a : DkZ) : Prop := CH Try.prog (BEE a) AQV (AH AQV) (C_stop.xs a) (AB (C_stop.L a)) (C_stop.val a) (C_stop.keep a) [] []
abbrev Re:=StK.m
abbrev QW:=DkZ.z
abbrev Bk:=StK.k
abbrev kV:=DkZ.w
abbrev sW:=StK.f
abbrev JO:=Dk.sp
abbrev jZ:=@List.drop Int
abbrev Wj:=λ (x0 x1 : Nat) => decide (x0 = x1)
abbrev UR a b:=EC (RA a b)
abbrev SE a b c d e:=UV a (UR b c) d (QX b c) e (OT b c)
abbrev TR a b c d e f:=SE (RA a b) c d (QX a e) (OT a f)
abbrev OA a:=AL (kV a)
abbrev QT a:=AL (stD a)
abbrev UF a b c d:=Ns a b (Dk.st c d)
abbrev Bi a b c:=KH a (OK b c)
abbrev TW a b c d:=Bi (OK a b) c d
abbrev Td a b c:=AU a 40 (KH b c)
abbrev ZA a b c d:=Td a (JO b c) d
abbrev bM a:=IV (OA a)
abbrev cQ a b c:=Gc (bM a) b c
abbrev Wd a:=HO a 40
abbrev GJ a:=EU (λ i=>AG (Dk.st a i))
abbrev OI a (b:Nat->Prop) c (d:Nat->Prop) e f (g:Int->Prop) h p:=SV a b c d e f g (GJ h) p
abbrev JF a b:=NF (UR a b) (QX a b) (OT a b)
abbrev KQ a:=EU (λ i=>JF a i)
abbrev VU a b:=FD (OK a b)
abbrev PI a b:=KI (Nat.succ a) b
abbrev Il a:=PI a 40
abbrev Se a b:=And (CN a) b
abbrev Fg a b c (d:Nat->Prop):=AO a b c (AD d)
attribute [go_sem] Re QW Bk kV sW JO jZ Wj UR SE TR OA QT UF Bi TW Td ZA bM cQ Wd GJ OI JF KQ VU PI Il Se Fg
theorem BJC (a : DkZ) : (BAW a) = (And ((@Exists StK) (λ i=>Fg (AE (AR (Re i) (-1)) (PG (QW a)) (HT (MK (QW a)) (AG (LP (QW a))) (BR (Bk i)) (OA a) (OI (BX (OA a)) (λ j=>DX j (OA a)) (CG (OA a)) (λ j=>BK j (OA a)) (AD (λ j=>Td j (sW i j) (JO (kV a) j))) BT (λ j=>VU (OA a) j) (kV a) (KQ (OA a))))) (AE (RL (Bk i) (QW a)) (HO (-1) (Re i)) (Wd (Re i))) (KH (cQ a (Re i) (jZ (Bk i) (QW a))) (cQ a (-1) (QW a))) (λ j=>KH (nQ (bM a) (Re i) (jZ (Bk i) (QW a)) (sW i) j) (nQ (bM a) (-1) (QW a) (JO (kV a)) j)))) ((λ (f : StK -> Prop) => ∀ (x : StK), f x) (λ i=>GC (HU (RL (Bk i) (QW a)) (HO (-1) (Re i)) (Wd (Re i)) (KH (cQ a (Re i) (jZ (Bk i) (QW a))) (cQ a (-1) (QW a))) (AD (λ j=>KH (nQ (bM a) (Re i) (jZ (Bk i) (QW a)) (sW i) j) (nQ (bM a) (-1) (QW a) (JO (kV a)) j)))) (Bk i) (LP (QW a)) (MW (Bk i) (QW a)) (KS (not (WX (QW a) (Bk i) (GU (Re i)) (GI (bM a) 2))) (EF (cQ a (-1) (QW a))) (TH (QT a) (OA a)) (AF (UC (QT a) (OA a)) (TU (QT a) (OA a)) (UB (QT a) (OA a)) (TC (QT a) (OA a)) (SO (TQ (QT a) (OA a)) (λ j=>UA j (QT a) (OA a) j j) (UK (QT a) (OA a)) (λ j=>DW j (QT a) (TM (QT a) j (OA a) j j j j)) (AD (λ j=>ZA j (stD a) j (sW i j))) BT (λ j=>TW (QT a) j (OA a) j) (λ j=>UF (stD a) j (kV a) j) (λ j=>TR (QT a) j (OA a) j j j))) (And (And (Se (FK (QW a) (Bk i)) (KB (FK (QW a) (Bk i)) 40)) (Il (FY (FK (QW a) (Bk i))))) ((@Exists StK) (λ j=>EB (AE (AR (Re j) (FK (QW a) (Bk i))) (PG (QW a)) (HT (MK (QW a)) (AG (LP (QW a))) (BD (Bk j) (Bk i)) (OA a) (OI (BX (OA a)) (λ k=>DX k (OA a)) (CG (OA a)) (λ k=>BK k (OA a)) (AD (λ k=>Td k (sW j k) (IF (Wj k (FY (FK (QW a) (Bk i)))) (sW i k)))) BT (λ k=>VU (OA a) k) (kV a) (KQ (OA a))))) (HU (RL (Bk j) (QW a)) (HO (-1) (Re j)) (Wd (Re j)) (KH (cQ a (Re j) (jZ (Bk j) (QW a))) (cQ a (-1) (QW a))) (AD (λ k=>KH (nQ (bM a) (Re j) (jZ (Bk j) (QW a)) (sW j) k) (nQ (bM a) (-1) (QW a) (JO (kV a)) k)))) (FP (QW a)) (Bk j) (Bk i))))) (IR (CK (cQ a (-1) (QW a))) (TH (QT a) (OA a)) (UC (QT a) (OA a)) (TU (QT a) (OA a)) (UB (QT a) (OA a)) (TC (QT a) (OA a)) (SO (TQ (QT a) (OA a)) (λ j=>UA j (QT a) (OA a) j j) (UK (QT a) (OA a)) (λ j=>DW j (QT a) (TM (QT a) j (OA a) j j j j)) (AD (λ j=>ZA j (stD a) j (sW i j))) BT (λ j=>TW (QT a) j (OA a) j) (λ j=>UF (stD a) j (kV a) j) (λ j=>TR (QT a) j (OA a) j j j)))))) := by kernel_rfl
theorem API (a : DkZ) : (stD a).c = a.w.c := rfl
theorem BVC (a : DkZ) (h : a.z.length < 4611686018427387904 /\ a.w.c.ms.length <= 40) : BAW a := by
 obtain ⟨hz, hm⟩ := h
 rw [BJC]<;> delta KH wN ZR BG BJ EC MM NO Hc ES ET BW AD BU CL AR BZ DJ EK JH HO KB NL LO EJ GW EX HP HN HJ GT GB HC DU GG FE FP FK JL FY NY EU MP KI AL Re QW Bk kV sW JO jZ Wj AE CR BB AF AY AU RA AG BC FD AX BM CJ AK AN DD BH BY BP CX BN CY BS CE HQ QX AV AQ EV DW AZ CP AS OT FS DM AP AT EG CN BX GI HD CG IY GP GU OK DS FH AO DC CK BT UR CD NF EP EO IV FN FM UV VU JB DZ BD EA PG PZ FR OA IW GJ Mx DX LP KL Ki SV LB OI PI Bi HB EB BK JF WU GY EF GM IF BR KQ MK HU GC QT SE TD WX HT KS MW RL IR bM Ns Se Mh Kq TC TQ UK Mc TH UB UF TW TU UC Gx Lv UA Td ZA Il SO TR Hq TM cQ Fg Wd; simp only [CC, eq_self, implies_true, forall_const, API]
 have e2 : IntKind.i64.wrap ((a.w.c.ms.length : Int) - 2) = (a.w.c.ms.length : Int) - 2 := Bc (by omega) (by omega)
 refine ⟨⟨⟨0, -1, a.w.sp⟩, ⟨rfl, rfl, λ _ _ => rfl⟩, ⟨Nat.zero_le _, by show (-1 : Int) <= -1; omega, by show (-1 : Int) <= 40; omega⟩, rfl, λ _ => rfl⟩, λ s ⟨⟨s1, s2, s3⟩, s4, s5⟩ => ⟨λ hlt => ?_, λ hge => ?_⟩⟩
 ·have hlt : s.k < a.z.length := by omega
  have hd := AAL hlt
  rw [hd] at s4 s5
  have e1 : IntKind.i64.wrap (s.m + 1) = s.m + 1 := Bc (by omega) (by omega)
  refine ⟨by omega, λ h1 => ⟨?_, λ j _ => ?_, λ _ => rfl⟩, λ h1 => ?_⟩
  ·rw [<- s4]; unfold Gc wr; rw [h1]; rfl
  ·show nQ _ _ _ _ j = _
   rw [<- s5 j]; unfold nQ wr; rw [h1]; rfl
  ·have h2 := h1
   rw [e1, e2] at h2
   simp only [KT, Bool.and_eq_true, decide_eq_true_eq] at h2
   refine ⟨by omega, ⟨s.k + 1, gD a.z s.k, λ i => bif decide (i = (gD a.z s.k).toNat) then true else s.f i⟩, ⟨rfl, (HY (by omega)).symm, λ _ _ => rfl⟩, ⟨⟨by show s.k + 1 <= _; omega, by show -1 <= gD a.z s.k; omega, by show gD a.z s.k <= 40; omega⟩, ?_, λ j => ?_⟩, by show a.z.length - (s.k + 1) < _; omega⟩
   ·rw [<- s4]; conv => rhs; unfold Gc wr
    rw [h1]; rfl
   ·rw [<- s5 j]; conv => rhs; unfold nQ wr
    rw [h1]; rfl
 ·rw [List.drop_of_length_le (by omega)] at s4 s5
  exact ⟨s4.symm, λ j _ => (s5 j).symm, λ _ => rfl⟩
theorem AIV : AJ Try.prog ACR (C_stop.spec dDkZ) := XP C_stop BEE [] [] BMV (λ _ => by kernel_rfl) (λ _ => AA nD AC) (λ a h => BVC a h) (λ _ => YS rfl rfl) _
structure CZ where
 c : Cht
 z : List Int
def pZ : List AVal -> Heap -> Option (CZ × List (Nat × Nat) × List Nat)
 | [x, y], H => match nM x H, fM y H with
  | some (c, f), some (l, e) => some (⟨c, l⟩, [], f ++ e)
  | _, _ => none
 | _, _ => none
def xCZ (a : CZ) : List AVal := [.d (Dj a.c), .d (DV a.z)]
def CV (a : CZ) : Dk := stD ⟨BA a.c, a.z⟩
def rX (a : CZ) : Bool := Gc a.c.ms.length (-1) a.z
def MO (a : CZ) : Int := bif AM a.c == 0 then bif rX a then 0 else 2 else AM a.c
def C_beg : Ctr := { α := CZ, xs := xCZ, val := λ a => .tup [.bptr 0 0, .int (MO a)], keep := λ a => dkN (CV a), pre := λ a => [(a.c.ms.length < 4611686018427387904 /\ a.c.ns.length < 4611686018427387904 /\ a.z.length < 4611686018427387904) /\ AM a.c = 0] }
def C_begX : Ctr := { α := CZ, xs := xCZ, val := λ a => .tup [.d (.v (.pointer none)), .int (MO a)], keep := λ _ => [], pre := λ a => [(a.c.ms.length < 4611686018427387904 /\ a.c.ns.length < 4611686018427387904 /\ a.z.length < 4611686018427387904) /\ AM a.c ≠ 0] }
def BNJ : Ann := { ann 23 [(ZZ, C_open.spec kM), (ACR, C_stop.spec dDkZ)] with md := λ id => if id = 2 then some λ k => if k = 3 ∨ k = 4 ∨ k = 5 ∨ k = 6 then 8 else 0 else none }
def BFS : Ann := { ann 23 [(ZZ, C_openX.spec kM)] with md := λ id => if id = 2 then some λ k => if k = 3 ∨ k = 4 ∨ k = 5 ∨ k = 6 then 9 else 0 else none }
def BPS (a : CZ) : Prop := CH Try.prog BNJ xK (AH xK) (xCZ a) (AB []) (C_beg.val a) (C_beg.keep a) [(0, 2016), (1, 2017)] []
abbrev DO:=CZ.c
abbrev LY:=CZ.z
abbrev RX:=MO
abbrev RV:=CV
abbrev XA a b c d:=AF a a b c d
abbrev Gg a:=EZ (DO a)
abbrev XN a:=EX (DO a)
abbrev Ji a b c:=HZ (XN a) b b b (Gg c) b
abbrev Ue a b c:=Ji a (DO b) c
abbrev OS a:=Ue a a a
abbrev Aa a:=BF (OS a)
abbrev JA a:=AL (RV a)
abbrev kZ a b:=stD (DkZ.mk a b)
abbrev SX a b:=FK (LY a) b
abbrev Bj a b:=PX (LY a) (λ i=>SX b i)
abbrev PF a:=Bj a a
abbrev dC a b c:=Dk.mk (DK a) b (JO c)
abbrev AOL a b c:=dC a (Dk.st (ZS b)) c
abbrev nE a b c:=AOL a b (ZS c)
abbrev AOG a b c d:=AL (kZ (nE a b c) d)
abbrev VF a:=AOG (Aa a) (OS a) (OS a) (PF a)
abbrev GF:=FD JL
abbrev NZ a b c d e f (g:Nat->Prop) h:=CM a b c d e f g BT h
abbrev NQ a:=DJ (DQ a) 40
abbrev RS a:=FI (PF a)
abbrev ZW a b:=ntOf (EM a) b
abbrev Cn a b:=ET (ZW a b)
abbrev Cs a b:=ES (ZW a b)
abbrev UM a b c d e f:=SE (ZW a b) c d (Cs a e) (Cn a f)
abbrev TN a b:=UM a b a b b b
abbrev HL a:=EU (λ i=>TN a i)
abbrev UH a:=GJ (ZS a)
abbrev TL a b:=MP (EM a) b
abbrev TV a b c d:=Bi (TL a b) c d
abbrev RZ a b:=TV a b a b
abbrev PE a:=EU (λ i=>RZ a i)
abbrev Lp a b:=NE a b ZR
abbrev OB a b c:=LL a b b a c
abbrev MV a b c:=OB a b (SX c a)
abbrev PC a b:=MV a (PF b) b
abbrev MY a b:=CB a (LY b)
abbrev OY a:=MY (PF a) a
abbrev He a:=KP (OS a)
abbrev Oa a b:=And a (HM b)
abbrev VS a:=EJ (Gg a)
abbrev RK a:=BE (DO a)
abbrev VM a b c d e:=FZ a b c d a e d
abbrev Ja a b:=GB (Gg a) b
abbrev WP a b c:=VM a (VS b) (GT (Ja b a)) c (HC (Ja b a))
abbrev OX a b:=AD (λ i=>WP i a b)
abbrev SJ a b:=OX a (DO b)
abbrev NN a b:=EA (VS a) b
abbrev RH a b:=NN a (DO b)
abbrev OJ a:=AZ (XN a)
abbrev OC a:=BM (XN a)
attribute [go_sem] DO LY RX RV XA Gg XN Ji Ue OS Aa JA kZ SX Bj PF dC AOL nE AOG VF GF NZ NQ RS ZW Cn Cs UM TN HL UH TL TV RZ PE Lp OB MV PC MY OY He Oa VS RK VM Ja WP OX SJ NN RH OJ OC
theorem BTE (a : CZ) : (BPS a) = (HU (OC a) (OJ a) (XQ (DO a) (RH a a) (SJ a a) (RK a) (Oa (DT (VS a)) (DO a)) (He a)) GF (XA GF (And (OY a) (XZ (AD (λ i=>PC i a)) (AQ (Aa a)) (EX (Aa a)) (AP (Aa a)) (NZ (AS (Aa a)) (AV (Aa a)) (BO (Aa a)) (BL (Aa a)) (BE (Aa a)) (BI (Aa a)) (λ i=>Lp i 40) (AK (PE (Aa a)) (UH (OS a)) (HL (Aa a)) BT (EU (λ i=>TW (Aa a) i (VF a) i)) (EU (λ i=>UF (ZS (OS a)) i (kZ (nE (Aa a) (OS a) (OS a)) (PF a)) i)) (EU (λ i=>TR (Aa a) i (VF a) i i i)) (RS a) (NQ (Aa a)))))) GF (KS (ER ((@BEq.beq Nat (@instBEqOfDecidableEq Nat instDecidableEqNat)) 0 0) (not (Gc (Nz (Aa a)) (-1) (PF a)))) (AR (RX a) 2) (TH (JA a) (VF a)) (AF (UC (JA a) (VF a)) (TU (JA a) (VF a)) (UB (JA a) (VF a)) (TC (JA a) (VF a)) (SO (TQ (JA a) (VF a)) (λ i=>UA i (JA a) (VF a) i i) (UK (JA a) (VF a)) (λ i=>DW i (JA a) (TM (JA a) i (VF a) i i i i)) (AD (λ i=>ZA i (RV a) i (JO (kZ (nE (Aa a) (OS a) (OS a)) (PF a)) i))) BT (λ i=>TW (JA a) i (Aa a) i) (λ i=>UF (RV a) i (ZS (OS a)) i) (λ i=>TR (JA a) i (Aa a) i i i))) (IR (IQ (RX a)) (TH (JA a) (VF a)) (UC (JA a) (VF a)) (TU (JA a) (VF a)) (UB (JA a) (VF a)) (TC (JA a) (VF a)) (SO (TQ (JA a) (VF a)) (λ i=>UA i (JA a) (VF a) i i) (UK (JA a) (VF a)) (λ i=>DW i (JA a) (TM (JA a) i (VF a) i i i i)) (AD (λ i=>ZA i (RV a) i (JO (kZ (nE (Aa a) (OS a) (OS a)) (PF a)) i))) BT (λ i=>TW (JA a) i (Aa a) i) (λ i=>UF (RV a) i (ZS (OS a)) i) (λ i=>TR (JA a) i (Aa a) i i i)))))) := by kernel_rfl
def BHC (a : CZ) : Prop := CH Try.prog BFS xK (AH xK) (xCZ a) (AB []) (C_begX.val a) [] [] []
abbrev Jf:=@Ne Int
abbrev XG a b c d:=AF a b a c d
abbrev lT a b c:=XG a a b c
abbrev Pt a:=PW (OS a)
abbrev Ig a:=Dx a 0
abbrev HF a b:=BU (CK a) b
abbrev RO a:=Jf a 0
attribute [go_sem] Jf XG lT Pt Ig HF RO
theorem BLX (a : CZ) : (BHC a) = (HU (OC a) (OJ a) (XQ (DO a) (RH a a) (SJ a a) (RK a) (Oa (DT (VS a)) (DO a)) (RO (Pt a))) (EF (Ig (Pt a))) (lT (EF (Ig (Pt a))) (HF (Ig (Pt a)) (CK ZR)) (DZ (ER (Ig (Pt a)) ZR) Xh (AR (RX a) 2) (And Xh (AR (RX a) (Pt a)))))) := by kernel_rfl
theorem Ev (a : CZ) : (CV a).c = a.c := rfl
theorem Rz (w : Dk) : Dk.mk w.c w.st w.sp = w := rfl
theorem IX {c : Cht} (h : AM c = 0) : TA c = 0 /\ (1 <= c.ms.length /\ c.ms.length <= 40) /\ c.ns.length <= 20 := by
 have h1 : TA c = 0 := by
  unfold AM at h
  cases hc : (TA c != 0) with
  | false => simpa using hc
  | true => rw [hc] at h; simpa using h
 refine ⟨h1, ?_⟩
 unfold TA at h1
 cases hc : (bif !KT c.ms.length 1 40 then true else decide ((c.ns.length : Int) > 20)) with
 | true => rw [hc] at h1; cases h1
 | false =>
  cases hb : KT c.ms.length 1 40 with
  | false => rw [hb] at hc; cases hc
  | true =>
   rw [hb] at hc
   have hc : decide ((c.ns.length : Int) > 20) = false := hc
   simp only [KT, Bool.and_eq_true, decide_eq_true_eq, decide_eq_false_iff_not] at hb hc
   omega
theorem BZA (a : CZ) (h : (a.c.ms.length < 4611686018427387904 /\ a.c.ns.length < 4611686018427387904 /\ a.z.length < 4611686018427387904) /\ AM a.c = 0) : BPS a := by
 obtain ⟨⟨hm, hn, hz⟩, h0⟩ := h
 have hl := IX h0
 rw [BTE]<;> delta KH wN ZR BG BJ EC ES ET BW AD BU CL AR BZ DJ EK EJ GW EX HP HN HJ GT GB HC DU GG FE JW FP FK VV JL PW NY EU MP AL ZS JO DO LY RX RV AE CR FA BB JA GA AF BF PX AY AU SX RA AG EM EZ FD XA AX FC BM CJ AK Gg AN DD BH HX BY XN BP CX Bj HZ BN CY BS CE QX FU AV DA AQ EV DW AZ PF XZ LX DQ CP FT AS OT ZW Ji AP ID EG NE CM Ue IY OK EN HV DC Cn DT BT UR EL FV kZ DK OS EP HW DB FN CB FM dC UV TL Cs Aa EA MB FQ PZ AOL VS GJ BE Mx FO FZ LL nE KL GH SV AOG IC Bi Ja IQ BO OB VM GY CS EE FI GF TV KP BI BL RZ HU HM OJ SE OC MY ER NN PE MV UM TN HL KS MD UH RS NQ OY PC VF WP IR OX RK RH Ns SJ Mh Kq TC TQ UK Mc TH UB UF TW TU NZ UC He Gx Lv UA XQ Oa Td ZA Lp SO TR Hq TM Nz; simp only [CC, eq_self, implies_true, forall_const, CU, D1, Rz, API, Ev]
 have e : MO a = bif rX a then 0 else 2 := by unfold MO; rw [h0]; rfl
 have e2 : Gc a.c.ms.length (-1) a.z = rX a := rfl
 have e3 : stD ⟨BA a.c, a.z⟩ = CV a := rfl
 simp only [e, e2, e3, Ev]
 have e4 : ∀ n, (BA a.c).st n = (CV a).st n := λ _ => rfl
 cases rX a <;> simp [hm, hn, hz, h0, hl.2.1.2, e4] <;> exact ⟨λ _ => rfl, λ _ _ => rfl⟩
theorem J1 : AJ Try.prog Jy (C_beg.spec pZ) := XP C_beg (λ _ => BNJ) [(0, 2016), (1, 2017)] [] AOE (λ _ => by kernel_rfl) (λ _ => AA zB (AA AIV AC)) (λ a h => BZA a h) (λ _ => YS rfl rfl) _
theorem ANF : AJ Try.prog Jy (C_begX.spec pZ) := XP C_begX (λ _ => BFS) [] [] AOE (λ _ => by kernel_rfl) (λ _ => AA yN AC) (λ (a : CZ) h => by
 obtain ⟨⟨hm, hn, hz⟩, h0⟩ : (a.c.ms.length < 4611686018427387904 /\ a.c.ns.length < 4611686018427387904 /\ a.z.length < 4611686018427387904) /\ AM a.c ≠ 0 := h
 have h0' : (AM a.c == 0) = false := by simpa using h0
 have e : MO a = AM a.c := by unfold MO; rw [h0']; rfl
 show BHC a; rw [BLX]<;> delta KH wN ZR BG BJ EC ES ET BW AD BU CL AR EK EJ GW EX HP HN HJ GT GB HC DU GG FE JW Dx JL PW NY DO RX Jf AE CR FA BB GA AF AY AU AG EM EZ XG lT AX FC BM CJ AK Gg AN DD BH HX BY XN BP CX HZ BN CY BS CE FU AV DA AZ CP FT AS Ji AP EG CM Ue CK DT EL FV OS EP DB FN FM HF DZ EA FQ VS BE FO FZ GH Ja VM CS EF HU HM OJ OC ER NN MD WP OX RK RH SJ RO Pt XQ Oa Ig Xh; simp only [CC, eq_self, implies_true, forall_const, CU, h0', e]
 simp [hm, hn, h0]) (λ _ => YS rfl rfl) _
end Go.Bal
