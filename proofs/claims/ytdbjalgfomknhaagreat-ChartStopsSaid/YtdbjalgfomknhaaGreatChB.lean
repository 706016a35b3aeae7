/- Package chart: which charts are right; a chart at work. -/
import Derived.Test.YtdbjalgfomknhaaGreatChE
set_option linter.unusedVariables false
set_option linter.unusedSimpArgs false
namespace Go.Bal
open Go Go.Sym Go.Proofs
def iZ : Int -> List Mk -> Int
 | _, [] => 0
 | a, m :: r => bif (bif !TD m.pl 0 10000 then true else !TD m.ht 0 1000) then 30 else bif decide (m.pl <= a) then 9 else iZ m.pl r
def iY (l : List Nt) (i : Nat) : Bool := !(l.take i).any λ x => x.mi == (gD l i).mi
def VU (c : Cht) : Int := bif (bif !TD c.ms.length 1 40 then true else decide ((c.ns.length : Int) > 20)) then 3 else bif (bif (bif (bif !UG c.p 1 600 then true else !TD c.base (-1000000) 1000000) then true else !TD c.scale 0 1000) then true else !TD c.off 0 1000) then 30 else 0
def AI (c : Cht) : Int := bif VU c != 0 then VU c else bif iZ (-1) c.ms != 0 then iZ (-1) c.ms else bif !c.ns.all (λ n => RG n c.ms.length) then 30 else bif WZ (iY c.ns) c.ns.length then 0 else 10
def aM : List AVal -> Heap -> Option (Cht × List (Nat × Nat) × List Nat)
 | [y], H => match kV y H with
  | some (l, f) => some (l, [], f)
  | none => none
 | _, _ => none
def C_Check : Ctr := { α := Cht, xs := λ c => [.d (Ak c)], L := λ _ => [], val := λ c => .int (AI c), keep := λ _ => [], pre := λ c => [c.ms.length < 4611686018427387904 /\ c.ns.length < 4611686018427387904] }
def ck7 (c : Cht) : Shape := { α := NI, dflt := default, T := λ s => ⟨[(1, .bptr 201 0), (3, .int s.m), (44, .d (zK c.ms)), (45, .int c.ms.length), (46, .int s.k)], [(201, .live (gI c))]⟩, inv := λ s => s.k <= c.ms.length /\ VU c = 0 /\ iZ s.m (c.ms.drop s.k) = iZ (-1) c.ms, meas := λ s => c.ms.length - s.k, first := [(201, 1000)] }
def ck18 (c : Cht) : Shape := { α := Nat, dflt := 0, T := λ k => ⟨[(1, .bptr 201 0), (75, .d (kK c.ns)), (76, .int c.ns.length), (77, .int k)], [(201, .live (gI c))]⟩, inv := λ k => k <= c.ns.length /\ VU c = 0 /\ iZ (-1) c.ms = 0 /\ c.ns.all (λ n => RG n c.ms.length) = true /\ WZ (iY c.ns) k = true, meas := λ k => c.ns.length - k }
def BAT (c : Cht) : Ann := { ann 89 [(n_in, s_in), (bL, AXQ), (n_eN, C4Nr.spec d4Nr), (AQH, C3Nc.spec d3Nc)] with loops := λ id => if id = 7 then some [ck7 c] else if id = 18 then some [ck18 c] else none }
def BAC (c : Cht) : Prop := CF Try.prog (BAT c) ALT (AH ALT) (C_Check.xs c) (AB []) (C_Check.val c) [] [] []
abbrev LC:=true
abbrev XS:=λ (x0 x1 : Int) => decide (x0 > x1)
abbrev hd96:=@Exists NI
abbrev vI:=NI.m
abbrev RN:=NI.k
abbrev wX:=@List.drop Mk
abbrev AIK:=λ (f : NI -> Prop) => ∀ (x : NI), f x
abbrev EP:=Int.toNat
abbrev RX:=@HAdd.hAdd Nat Nat Nat (@instHAdd Nat instAddNat)
abbrev Bs a b c d:=EC a b (And c d)
abbrev IM a:=AS a 0
abbrev LB a:=IM (AI a)
abbrev CS a:=JH a LC
abbrev lH a b:=CS (WZ a b)
abbrev Pt a b:=lH (iY (FW a)) b
abbrev Yv a:=iZ (-1) (GW a)
abbrev Gy a:=IM (Yv a)
abbrev UT a:=IM (VU a)
abbrev Jk a b:=EU a (AO b)
abbrev QH a:=FS (AO a)
abbrev PY a b:=AS (AI a) b
abbrev TQ:=EP 0
abbrev Nu a:=RX TQ a
abbrev Rl a:=LS a TQ
abbrev DT a b c d e f g:=AD a b (AG c d e f g)
abbrev CM a:=RX 0 a
abbrev ZP a:=LS a 0
abbrev Lw a b c:=BY a (LS b c)
abbrev KV a:=BE (AO a)
abbrev EG a b c d e f:=And (AG a b c d e) f
abbrev PV a:=EQ (FD a)
abbrev Cb a b:=EU a (AU b)
abbrev Yr a:=AE (KF a)
abbrev QJ a:=AF (λ i=>EO i a)
abbrev Kj a b:=AS (vI a) b
abbrev PP a b:=zU a LC b
abbrev Nn a b c:=not (TD a b c)
abbrev Ef a b:=Nn a 0 b
abbrev Mq a b c:=PP a (Ef b c)
abbrev XP a b c:=PP a (XS b c)
attribute [go_sem] LC XS hd96 vI RN wX AIK EP RX Bs IM LB CS lH Pt Yv Gy UT Jk QH PY TQ Nu Rl DT CM ZP Lw KV EG PV Cb Yr QJ Kj PP Nn Ef Mq XP
theorem BGJ (c : Cht) : (BAC c) = (EC (XP (Nn (KF c) 1 40) (KV c) 20) (PY c 3) (Bs (Mq (Mq (PP (not (hd9 (FK c) 1 600)) (Nn (HV c) (-1000000) 1000000)) (IB c) 1000) (HK c) 1000) (PY c 30) (hd96 (λ i=>BC (Kj i (-1)) (AG (DX c) (QJ c) (Yr c) (BZ (RN i)) (DG c)) (SH (Cb (RN i) c) (UT c) (iZ (vI i) (wX (RN i) (GW c))) (Yv c)))) (AIK (λ i=>NR (SH (Cb (RN i) c) (UT c) (iZ (vI i) (wX (RN i) (GW c))) (Yv c)) (RN i) (KF c) (FF (RN i) (AU c) (EC (Mq (Ef (BV c (RN i)) 10000) (CK c (RN i)) 1000) (PY c 30) (EC (hd7 (BV c (RN i)) (vI i)) (PY c 9) (hd96 (λ j=>GM (Kj j (BV c (RN i))) (AG (DX c) (QJ c) (Yr c) (BR (RN j) (RN i)) (DG c)) (SH (Cb (RN j) c) (UT c) (iZ (vI j) (wX (RN j) (GW c))) (Yv c)) (AU c) (RN j) (RN i)))))) (BC (BN c) (FC (FN c) (AJ c) (FK c) (AM c) (JJ (AN c) c (BP c) (HM c) (BN c) (λ j=>BG j c) (AJ c) (AL c) (HB c (FI c) (λ j=>GD j c) (FJ c) (λ j=>CQ j c) (PV c) FL))) (EC (not (hd80 (FA c) (λ j=>tC j (Lt c)))) (PY c 30) (FV (λ j=>EG (DR c) (DI c) (QH c) (BZ j) (DG c) (AG (Jk j c) (UT c) (Gy c) (CS (hd80 (FW c) (λ k=>Ie k c))) (Pt c j))) (λ j=>NR (AG (Jk j c) (UT c) (Gy c) (CS (hd80 (FW c) (λ k=>Ie k c))) (Pt c j)) j (KV c) (TH j j (AO c) (DT (AD (BX 0) (JM j) (FY (BE j) (KV c))) (Lw (DV (LD (Rl j) (λ k=>CI c (Nu k)))) j TQ) (AF (λ k=>FZ k (DV (LD (ZP j) (λ l=>CI c (CM l)))) (EV (EY (LD (Rl j) (λ l=>CI c (Nu l))) k) c (Nu k)) (Ca (LD (Rl j) (λ l=>CI c (Nu l))) k) c (Nu k) (By (LD (Rl j) (λ l=>CI c (Nu l))) k) (Nu k))) (ID c j) (BL (BD c j)) (AV (BD c j)) (Oy (BL (BK c j)) (AV (BK c j)) (ID c j) (BL (BD c j)) (AV (BD c j)) (BL (BK c j)) (EQ (DV (LD (ZP j) (λ k=>CI c (CM k))))) FL)) (NG ((@List.any Nt) (LD (Rl j) (λ k=>CI c (Nu k))) (λ k=>rP k (BW c j))) (PY c 10) (λ k=>DW (AG (DR c) (DI c) (QH c) (BR k j) (DG c)) (AG (Jk k c) (UT c) (Gy c) (CS (hd80 (FW c) (λ l=>Ie l c))) (Pt c k)) (AO c) k j))) (LB c))))))))) := by kernel_rfl
theorem BKP {α : Type} [Inhabited α] {l : List α} {k : Nat} (h : k <= l.length) : (ME k λ i => gD l i) = l.take k := by
 refine BIT (by simp [h]) λ i hi => ?_
 have hi : i < k := by simpa using hi
 rw [KL _ _ _ hi]
 simp [gD, List.getD_eq_getElem?_getD, List.getElem?_take, hi]
theorem Tq {p : Nat -> Bool} {n k : Nat} (hk : k < n) (h : p k = false) : WZ p n = false := by
 cases hc : WZ p n with
 | false => rfl
 | true => rw [Ay.1 hc k hk] at h; cases h
theorem BNC (c : Cht) (h : c.ms.length < 4611686018427387904 /\ c.ns.length < 4611686018427387904) : BAC c := by
 obtain ⟨hm, hn⟩ := h
 rw [BGJ]<;> delta JH zU hd7 hd9 BI BF tC EN MM ON EB EA BY AF CN CO AS BE EU EC JL FY MN NT LS ET GW FK HV IB HK GV FU HC DV FW EY LD HA FL hd80 Ey LC XS hd96 vI RN wX AIK EP RX AD CI AU FT GN AG GK AZ AX AE FA BM AW JP BL BD AO AR DD BA BK II BO BJ CX HI BW BV AJ AQ JD AV EH FC Oy CK AN AL GH JE JO HG FX FQ FO AM IV FD HE DK ID DR CM ES BX CG DO BC IW HS DX HH JA CE EZ CS EV EQ FH HQ DZ KF EW DU JB HR BR FZ GI BN GA GC EO HD LG IM FS PQ MU IS ND MC JM NM EX RV DT LB VQ BP MQ FJ FI EI LV BH BG LM IP Lw DI HZ BZ DW HB IQ HY GM TQ PP TK EG FV KV DG CQ GD Nn lH QH TL HM FF UT FN PY PV QJ Ie Yv Ef JJ ZD WB NG rP Gy NR SH Cb XP By Ca Kj ZP Nu Pt TH Rl Mq Jk Bs Yr Lt; simp only [CC, eq_self, implies_true, forall_const, Nat.sub_zero, Int.toNat_zero]
 refine ⟨λ h1 => ?_, λ h1 => ⟨λ h2 => ?_, λ h2 => ?_⟩⟩
 ·have e : VU c = 3 := by unfold VU; rw [h1]; rfl
  unfold AI; rw [e]; rfl
 ·have e : VU c = 30 := by unfold VU; rw [h1, h2]; rfl
  unfold AI; rw [e]; rfl
 have e : VU c = 0 := by unfold VU; rw [h1, h2]; rfl
 have k0 : ∀ v : Int, v ≠ 0 -> iZ (-1) c.ms = v -> AI c = v := λ v hv hm => by 
  have hv0 := hv
  have hv' : (v != 0) = true := by simpa using hv
  unfold AI; rw [e, hm, hv']; rfl
 refine ⟨⟨⟨0, -1⟩, ⟨rfl, rfl⟩, Nat.zero_le _, e, rfl⟩, λ s ⟨s1, _, s3⟩ => ⟨λ hlt => ?_, λ hge => ?_⟩⟩
 ·have hlt : s.k < c.ms.length := by omega
  have hd := AAA hlt
  rw [hd] at s3
  refine ⟨by omega, λ h3 => ?_, λ h3 => ⟨λ h4 => ?_, λ h4 => ⟨⟨s.k + 1, (gD c.ms s.k).pl⟩, ⟨rfl, (HL (by omega)).symm⟩, ⟨by show s.k + 1 <= _; omega, e, ?_⟩, by show c.ms.length - (s.k + 1) < _; omega⟩⟩⟩
  ·exact k0 30 (by decide) (by rw [<- s3]; unfold iZ; rw [h3]; rfl)
  ·exact k0 9 (by decide) (by rw [<- s3]; unfold iZ; rw [h3, decide_eq_true h4]; rfl)
  ·rw [<- s3]; conv => rhs; unfold iZ
   rw [h3, decide_eq_false h4]; rfl
 ·have hmk : iZ (-1) c.ms = 0 := by rw [<- s3, List.drop_of_length_le (by omega)]; rfl
  refine ⟨by omega, λ h3 => ?_, λ h3 => ⟨⟨0, rfl, Nat.zero_le _, e, hmk, h3, rfl⟩, λ k ⟨k1, _, _, _, k5⟩ => ⟨λ hlt => ?_, λ hge => ?_⟩⟩⟩
  ·unfold AI; rw [e, hmk, h3]; rfl
  ·have hlt : k < c.ns.length := by omega
   have et : (ME k λ i => gD c.ns i) = c.ns.take k := BKP (by omega)
   rw [et]
   refine ⟨by omega, ⟨⟨by omega, by omega, by omega⟩, λ i hi => ?_, by omega⟩, λ h4 => ?_, λ h4 => ⟨k + 1, (HL (by omega)).symm, ⟨by omega, e, hmk, h3, ?_⟩, by omega⟩⟩
   ·rw [<- et, KL _ _ _ hi]; exact ⟨rfl, rfl, rfl, rfl, rfl⟩
   ·have hp : WZ (iY c.ns) c.ns.length = false := Tq hlt (by unfold iY; rw [h4]; rfl)
    unfold AI; rw [e, hmk, h3, hp]; rfl
   ·show (WZ (iY c.ns) k && iY c.ns k) = true
    unfold iY at k5 ⊢; rw [k5, h4]; rfl
  ·obtain rfl : k = c.ns.length := by omega
   unfold AI; rw [e, hmk, h3, k5]; rfl
theorem ATD : AK Try.prog ALR (C_Check.spec aM) := VV C_Check BAT [] [] BDH (λ _ => by kernel_rfl) (λ _ => AA AJM (AA BFM (AA CAQ (AA BYY AC)))) BNC (λ _ => WY rfl rfl) _
def hasN (l : List Nt) (j : Int) : Bool := l.any λ x => x.mi == j
def ntOf : List Nt -> Int -> Nt
 | [], _ => default
 | n :: r, j => bif hasN r j then ntOf r j else bif n.mi == j then n else default
structure Dk where
 c : Cht
 st : Int -> Int
 sp : Nat -> Bool
def lB : Value := .agg #[.int .i64 0, .int .i64 0, .int .i64 0, .int .i64 0, .int .i64 0]
def dkB (w : Dk) (m : Nat) : AObj := .abox [.int w.c.p.lo, .int w.c.p.hi, .int w.c.base, .int w.c.scale, .int w.c.off, .d (zK w.c.ms), .d (kK w.c.ns), .mref m] 40 w.sp
def dkM (w : Dk) : AObj := .imap .i64 lB (hasN w.c.ns) (λ j => eNt (ntOf w.c.ns j)) w.st none
def dkL (w : Dk) : List (Nat × AObj) := [(100, dkB w 101), (101, dkM w)]
def dkK (w : Dk) : List (Nat × HCell) := [(100, .live (dkB w 101)), (101, .live (dkM w))]
def dkN (w : Dk) : List (Nat × HCell) := [(0, .live (dkB w 1)), (1, .live (dkM w))]
def rH (H : Heap) (id : Nat) : Option (Dk × Nat) := match H id with
 | .live (.abox [.d a, .d b, .d c, .d d, .d e, .d (.list _ n f _), .d (.list _ m g _), .mref q] _ sp) => match H q with
  | .live (.imap _ _ _ _ st _) => some (⟨⟨⟨HJ a, HJ b⟩, HJ c, HJ d, HJ e, ME n λ i => dMk (f i), ME m λ i => dNt (g i)⟩, st, sp⟩, q)
  | _ => none
 | _ => none
def stK (l : List Nt) : Nat -> Int -> Int
 | 0 => λ _ => 0
 | k + 1 => xJ (hasN (l.take k)) (stK l k) (gD l k).mi
def AY (c : Cht) : Dk := ⟨c, stK c.ns c.ns.length, λ _ => false⟩
def C_open : Ctr := { α := Cht, xs := λ c => [.d (Ak c)], val := λ _ => .tup [.bptr 0 0, .int 0], keep := λ c => dkN (AY c), pre := λ c => [(c.ms.length < 4611686018427387904 /\ c.ns.length < 4611686018427387904) /\ AI c = 0] }
def C_openX : Ctr := { α := Cht, xs := λ c => [.d (Ak c)], val := λ c => .tup [.d (.v (.pointer none)), .int (AI c)], keep := λ _ => [], pre := λ c => [(c.ms.length < 4611686018427387904 /\ c.ns.length < 4611686018427387904) /\ AI c ≠ 0] }
def op6 (c : Cht) : Shape := { α := Nat, dflt := 0, T := λ k => ⟨[(5, .bptr 201 0), (18, .d (kK c.ns)), (19, .int c.ns.length), (20, .int k)], [(201, .live (.abox [.int c.p.lo, .int c.p.hi, .int c.base, .int c.scale, .int c.off, .d (zK c.ms), .d (kK c.ns), .mref 202] 40 λ _ => false)), (202, .live (.imap .i64 lB (hasN (c.ns.take k)) (λ j => eNt (ntOf (c.ns.take k) j)) (stK c.ns k) none))]⟩, inv := λ k => k <= c.ns.length, meas := λ k => c.ns.length - k, first := [(201, 5048), (202, 5016)] }
def ALC (c : Cht) : Ann := { ann 33 [(ALR, C_Check.spec aM)] with loops := λ id => if id = 6 then some [op6 c] else none }
def BLA (c : Cht) : Prop := CF Try.prog (ALC c) kB (AH kB) (C_open.xs c) (AB []) (C_open.val c) (C_open.keep c) [(0, 201), (1, 202)] []
abbrev SI:=@bne Int (@instBEqOfDecidableEq Int Int.instDecidableEq)
abbrev KG:=False
abbrev QU:=@Eq Value
abbrev ABS:=@List.toArray Value
abbrev ABT:=@List.nil Value
abbrev EK:=λ (f : Int -> Prop) => ∀ (x : Int), f x
abbrev OK:=hasN
abbrev GZ:=Nat.le
abbrev Ai:=@cond Int
abbrev AJV:=λ (x0 x1 : Int) => decide (x0 = x1)
abbrev AP:=Dk.c
abbrev Le:=AY
abbrev IN a b c d:=And (AD a b c) d
abbrev Cc a b c d:=IN (AJ a) b c d
abbrev Ft a b c:=Cc a (AL a) b c
abbrev YW a (b:Nat->Prop) c d:=HB a (BP a) (λ i=>BH i a) (BN a) b c d
abbrev XV a b c:=YW a (λ i=>BG i a) b c
abbrev SA a b c d e:=Ft a (XV b c d) e
abbrev VM a (b:Nat->Prop) c d e f (g:Int->Prop) h p:=CW a b c d e f (EK g) h p
abbrev MP a (b:Nat->Prop) c (d:Nat->Prop) e f (g:Int->Prop) h p:=VM a b c (AF d) e f g h p
abbrev PO a (b:Nat->Prop) c (d:Nat->Prop) e f (g:Int->Prop) h (p:Int->Prop):=MP a b c d e f g h (EK p)
abbrev Ff a b c d e f:=FH (ES a b) c d e f
abbrev NC a b:=ntOf (FW a) b
abbrev LH a b:=EA (NC a b)
abbrev NU a b:=EB (NC a b)
abbrev XT a b c d e f g:=Ff (NC a b) c (NU d e) f (LH d e) g
abbrev aQ a b:=(@List.take Nt) a (FW b)
abbrev Rx a b c:=ntOf (aQ a b) c
abbrev Ev a b c:=EA (Rx a b c)
abbrev Dr a b c:=EB (Rx a b c)
abbrev BS a:=AP (Le a)
abbrev Zc a b c:=AS (Dk.st a b) c
abbrev PI a b:=OK (FW a) b
abbrev YJ a b c:=JH (PI a b) c
abbrev BQ:=QU lB lB
abbrev OX a b c:=AX a b (GQ c)
abbrev WP a b:=OX a 40 b
abbrev Ny a:=WP a Hi
abbrev ML:=AF Ny
abbrev YG a b c d e f:=IP a b c b d e f
abbrev WC a b c d:=MC a b (BW c d)
abbrev An a b:=EZ (AO a) b
abbrev XX a b c d e:=HY a b c (CK d e)
abbrev Bi a b:=HD (AU a) b
abbrev Tz a b:=AS (HK a) b
abbrev Ci a b:=Tz a (HK b)
abbrev Ug a b:=AS (IB a) b
abbrev Bd a b:=Ug a (IB b)
abbrev Vq a b:=AS (HV a) b
abbrev Cg a b:=Vq a (HV b)
abbrev Ap a b:=AW (FK a) (FK b)
abbrev Bm a b:=BJ (FK a) (FK b)
abbrev Ee a b:=GZ a (AO b)
abbrev My a b c d e f g h:=AR a b c d e f (AN g) (AQ g) h
abbrev Po a b c d e f:=My a b c d (AL e) (AM e) e f
abbrev UR a b c d e:=Po a b c (AJ d) d e
abbrev PR a (b:Nat->Prop) c (d:Nat->Prop) e f (g:Int->Prop) h (p:Int->Prop):=PO (DX a) b (DR c) d e f g h p
abbrev Lj a b c d e:=Ai (AJV a (BW b c)) d e
abbrev En a:=AZ a 0
abbrev Di a:=BO a 0
abbrev GR a:=JH a Hi
abbrev fO a:=(@List.cons Value) (Value.int ON 0) a
abbrev Yw a:=fO (fO a)
abbrev MH a:=SI a 0
abbrev JQ a b c d e f:=Cht.mk (FK a) (HV b) (IB c) (HK d) e f
abbrev NH a b c:=JQ a a a a b c
abbrev MR a b c:=NH a (JD b) (FA c)
abbrev CU a:=MR a a a
abbrev SQ a:=AI (CU a)
abbrev XN a:=MH (SQ a)
abbrev RP a:=EQ (EH a)
attribute [go_sem] SI KG QU ABS ABT EK OK GZ Ai AJV AP Le IN Cc Ft YW XV SA VM MP PO Ff NC LH NU XT aQ Rx Ev Dr BS Zc PI YJ BQ OX WP Ny ML YG WC An XX Bi Tz Ci Ug Bd Vq Cg Ap Bm Ee My Po UR PR Lj En Di GR fO Yw MH JQ NH MR CU SQ XN RP
theorem BPY (c : Cht) : (BLA c) = (SA c c (RP c) (PV c) (EC (XN c) KG (FV (λ i=>BC (DR c) (UR (DI c) (QH c) (BZ i) c (PR c (λ j=>EO j c) c (λ j=>EI j c) ML (QU lB (Value.agg (ABS (fO (Yw (Yw ABT)))))) (λ j=>GR (OK (aQ i c) j)) (EK (λ j=>IM (stK (FW c) i j))) (λ j=>AG (ES (Rx i c j) 0) (Di (Dr i c j)) (En (Dr i c j)) (Di (Ev i c j)) (En (Ev i c j))))) (Ee i c)) (λ i=>NR (Ee i c) i (KV c) (FF i (AO c) (HA (λ j=>GM (DR c) (UR (DI c) (QH c) (BR j i) c (PR c (λ k=>EO k c) c (λ k=>EI k c) ML BQ (λ k=>JH (OK (aQ j c) k) (Iy (OK (aQ i c)) (BW c i) k)) (EK (λ k=>AS (stK (FW c) j k) (xJ (OK (aQ i c)) (stK (FW c) i) (BW c i) k))) (λ k=>AG (ES (Rx j c k) (Lj k c i (BW c i) (EN (Rx i c k)))) (BO (Dr j c k) (Lj k c i (BI (BD c i)) (BI (Dr i c k)))) (AZ (Dr j c k) (Lj k c i (BF (BD c i)) (BF (Dr i c k)))) (BO (Ev j c k) (Lj k c i (BI (BK c i)) (BI (Ev i c k)))) (AZ (Ev j c k) (Lj k c i (BF (BK c i)) (BF (Ev i c k))))))) (Ee j c) (AO c) j i))) (DT DJ (Bm (BS c) c) (Ap (BS c) c) (Cg (BS c) c) (Bd (BS c) c) (Ci (BS c) c) (PO (Bi (BS c) c) (λ j=>XX j (BS c) (BV c j) c j) (An (BS c) c) (λ j=>YG j (BS c) (WC (BS c) j c j) j (BD c j) (BK c j)) ML BQ (λ j=>YJ (BS c) j (OK (aQ i c) j)) (EK (λ j=>Zc (Le c) j (stK (FW c) i j))) (λ j=>XT (BS c) j (EN (Rx i c j)) (BS c) j (Dr i c j) (Ev i c j)))))))) := by kernel_rfl
def AXZ (c : Cht) : Prop := CF Try.prog (ALC c) kB (AH kB) (C_open.xs c) (AB []) (C_openX.val c) [] [] []
abbrev Vi:=QU (Value.pointer (@none Addr)) (Value.pointer (@none Addr))
attribute [go_sem] Vi
theorem BEY (c : Cht) : (AXZ c) = (SA c c (RP c) (PV c) (ED (XN c) Vi (PY c (SQ c)) (FV (λ i=>BC (DR c) (UR (DI c) (QH c) (BZ i) c (PR c (λ j=>EO j c) c (λ j=>EI j c) ML (QU lB (Value.agg (ABS (fO (Yw (Yw ABT)))))) (λ j=>GR (OK (aQ i c) j)) (EK (λ j=>IM (stK (FW c) i j))) (λ j=>AG (ES (Rx i c j) 0) (Di (Dr i c j)) (En (Dr i c j)) (Di (Ev i c j)) (En (Ev i c j))))) (Ee i c)) (λ i=>NR (Ee i c) i (KV c) (FF i (AO c) (HA (λ j=>GM (DR c) (UR (DI c) (QH c) (BR j i) c (PR c (λ k=>EO k c) c (λ k=>EI k c) ML BQ (λ k=>JH (OK (aQ j c) k) (Iy (OK (aQ i c)) (BW c i) k)) (EK (λ k=>AS (stK (FW c) j k) (xJ (OK (aQ i c)) (stK (FW c) i) (BW c i) k))) (λ k=>AG (ES (Rx j c k) (Lj k c i (BW c i) (EN (Rx i c k)))) (BO (Dr j c k) (Lj k c i (BI (BD c i)) (BI (Dr i c k)))) (AZ (Dr j c k) (Lj k c i (BF (BD c i)) (BF (Dr i c k)))) (BO (Ev j c k) (Lj k c i (BI (BK c i)) (BI (Ev i c k)))) (AZ (Ev j c k) (Lj k c i (BF (BK c i)) (BF (Ev i c k))))))) (Ee j c) (AO c) j i))) KG)))) := by kernel_rfl
theorem CL (c : Cht) : Cht.mk c.p c.base c.scale c.off c.ms c.ns = c := rfl
theorem rZ (c : Cht) : (AY c).c = c := rfl
theorem AJW (l : List Nt) (x : Nt) (j : Int) : hasN (l ++ [x]) j = Iy (hasN l) x.mi j := by
 unfold hasN Iy; rw [List.any_append, Bool.or_comm]
 simp only [List.any_cons, List.any_nil, Bool.or_false]
 congr 1
 rw [Bool.eq_iff_iff, beq_iff_eq, decide_eq_true_eq]; exact eq_comm
theorem BCP (l : List Nt) (x : Nt) (j : Int) : ntOf (l ++ [x]) j = bif decide (j = x.mi) then x else ntOf l j := by
 induction l with
 | nil =>
  simp only [List.nil_append, ntOf, hasN, List.any_nil, cond_false]
  have : (x.mi == j) = decide (j = x.mi) := by rw [Bool.eq_iff_iff, beq_iff_eq, decide_eq_true_eq]; exact eq_comm
  rw [this]
 | cons y l ih =>
  simp only [List.cons_append, ntOf, ih, AJW, Iy]
  cases decide (j = x.mi) <;> rfl
theorem BVX (c : Cht) (h : (c.ms.length < 4611686018427387904 /\ c.ns.length < 4611686018427387904) /\ AI c = 0) : BLA c := by
 obtain ⟨⟨hm, hn⟩, h0⟩ := h
 rw [BPY]<;> delta JH Hi BI BF EN MM ON EB EA BY AF CN CO AS BE XB EC JL FY MN NT LS ET GW FK HV IB HK GV FU HC DV FW EY LD HA SI KG QU ABS ABT EK OK GZ Ai AJV AP Le AD CI AU FT BS GN AG GK AZ AX AE FA BM GQ AW JP BL BD AO AR DD BA BK II NC JQ BO BJ CX HI BW BV AJ AQ NU JD AV EH FC NH CK AN AL LH GH JE JO HG FX FQ FO MR AM IV FD HE DK ID DR ES BX CG DO OX BC PI IW HS DX HH JA CE CW EZ BQ EV WP EQ CU FH HQ DZ EW DU JB HR BR FZ GI BN GA GC EO HD VM LG IM FS MP Ff IS MC UD JM PO RV DT aQ DJ GR BP MQ EI BH BG LM IP PR DI HZ BZ Rx Ny YJ HB YG HY GM TK FV KV IN ML SQ QH TL FF XT MH PV My ZD Po fO RP Yw NR UR Cc Ev Dr Ee Zc XN WC Ft YW Bi Tz Bm An Di En Ug Ci XV Vq Ap Bd SA Cg XX Lj; simp only [CC, eq_self, implies_true, forall_const, CL, rZ, h0]
 refine ⟨⟨hm, hn⟩, (λ h => by simp at h), λ _ => ⟨⟨0, ⟨rfl, rfl, λ _ => rfl, λ _ => rfl, λ _ => ⟨rfl, rfl, rfl, rfl, rfl⟩⟩, Nat.zero_le _⟩, λ k hk => ⟨λ hlt => ?_, λ hge => ?_⟩⟩⟩
 ·have hlt : k < c.ns.length := by omega
  refine ⟨by omega, k + 1, ⟨(HL (by omega)).symm, λ n => ?_, λ n => rfl, λ n => ?_⟩, by omega, by omega⟩
  ·rw [cC hlt, AJW]
  ·rw [cC hlt, BCP]
   cases decide (n = (gD c.ns k).mi) <;> exact ⟨rfl, rfl, rfl, rfl, rfl⟩
 ·obtain rfl : k = c.ns.length := by omega
  simp [AY]
theorem pG : AK Try.prog UF (C_open.spec aM) := VV C_open ALC [(0, 201), (1, 202)] [] AKH (λ _ => by kernel_rfl) (λ _ => AA ATD AC) (λ c h => BVX c h) (λ _ => WY rfl rfl) _
theorem jS : AK Try.prog UF (C_openX.spec aM) := VV C_openX ALC [] [] AKH (λ _ => by kernel_rfl) (λ _ => AA ATD AC) (λ (c : Cht) h => by
 obtain ⟨⟨hm, hn⟩, h0⟩ : (c.ms.length < 4611686018427387904 /\ c.ns.length < 4611686018427387904) /\ AI c ≠ 0 := h
 have h0' : (AI c != 0) = true := by simpa using h0
 show AXZ c; rw [BEY]<;> delta JH Hi BI BF EN MM ON EB EA BY AF CN CO AS BE EC JL FY MN NT LS ET GW FK HV IB HK GV FU HC DV FW EY LD HA SI KG QU ABS ABT EK OK GZ Ai AJV AD CI AU FT GN AG GK AZ AX AE FA BM GQ AW JP BL BD AO AR DD BA BK II JQ BO BJ CX HI BW BV AJ AQ JD AV EH FC NH CK AN AL GH JE JO HG FX FQ FO MR AM IV FD HE DK ID DR ES BX CG DO OX BC IW HS DX HH JA CE CW EZ BQ EV WP EQ CU FH HQ DZ EW DU JB ED HR BR FZ GI BN GA GC EO HD VM LG IM FS MP IS JM PO RV aQ GR BP MQ EI BH BG LM PR DI HZ BZ Rx Ny HB GM TK FV KV IN ML SQ QH TL FF PY MH PV My ZD Po fO RP Yw NR UR Cc Ev Dr Ee XN Ft YW Di En XV SA Lj Vi; simp only [CC, eq_self, implies_true, forall_const, CL, h0']
 simp [hm, hn]) (λ _ => WY rfl rfl) _
def Fj (m : Int) : Int -> List Int -> Bool
 | _, [] => true
 | a, g :: r => bif TD g (wr (a + 1)) (wr (m - 2)) then Fj m g r else false
def mR (m : Int) : Int -> List Int -> (Nat -> Bool) -> Nat -> Bool
 | _, [], f, j => f j
 | a, g :: r, f, j => bif TD g (wr (a + 1)) (wr (m - 2)) then mR m g r (λ i => bif decide (i = g.toNat) then true else f i) j else f j
structure DkZ where
 w : Dk
 z : List Int
def stD (a : DkZ) : Dk := ⟨a.w.c, a.w.st, mR a.w.c.ms.length (-1) a.z a.w.sp⟩
def dDkZ : List AVal -> Heap -> Option (DkZ × List (Nat × Nat) × List Nat)
 | [.bptr id _, y], H => match rH H id, ACO y H with
  | some (w, q), some (l, f) => some (⟨w, l⟩, [(100, id), (101, q)], f)
  | _, _ => none
 | _, _ => none
structure StK where
 k : Nat
 m : Int
 f : Nat -> Bool
 deriving Inhabited
def stp3 (a : DkZ) : Shape := { α := StK, dflt := default, T := λ s => ⟨[(0, .bptr 100 0), (5, .int s.m), (8, .d (PH a.z)), (9, .int a.z.length), (10, .int s.k)], dkK ⟨a.w.c, a.w.st, s.f⟩⟩, inv := λ s => (s.k <= a.z.length /\ -1 <= s.m /\ s.m <= 40) /\ Fj a.w.c.ms.length s.m (a.z.drop s.k) = Fj a.w.c.ms.length (-1) a.z /\ ∀ j, mR a.w.c.ms.length s.m (a.z.drop s.k) s.f j = mR a.w.c.ms.length (-1) a.z a.w.sp j, meas := λ s => a.z.length - s.k }
def C_stop : Ctr := { ro := [101], α := DkZ, xs := λ a => [.bptr 100 0, .d (PH a.z)], L := λ a => dkL a.w, val := λ a => .bool (Fj a.w.c.ms.length (-1) a.z), keep := λ a => dkK (stD a), pre := λ a => [a.z.length < 4611686018427387904 /\ a.w.c.ms.length <= 40] }
def BHA (a : DkZ) : Ann := { ann 33 [(n_in, s_in)] with E := [100, 101], loops := λ id => if id = 3 then some [stp3 a] else none }
def BHO (a : DkZ) : Prop := CF Try.prog (BHA a) AWR (AH AWR) (C_stop.xs a) (AB (C_stop.L a)) (C_stop.val a) (C_stop.keep a) [] []
abbrev Pk:=StK.m
abbrev CJ:=@List.length Int
abbrev QA:=DkZ.z
abbrev DN:=@gD Int Int.instInhabited
abbrev Ae:=StK.k
abbrev lU:=DkZ.w
abbrev qY:=StK.f
abbrev LI:=Dk.sp
abbrev iL:=@List.drop Int
abbrev cQ:=λ (x0 x1 : Nat) => decide (x0 = x1)
abbrev XE a b:=EN (NC a b)
abbrev NE a b c d e:=Ff a (XE b c) d (NU b c) e (LH b c)
abbrev QE a:=AP (stD a)
abbrev PU a:=AP (lU a)
abbrev Au a b c d:=Zc a b (Dk.st c d)
abbrev VZ a b c:=JH a (PI b c)
abbrev Ax a b c d:=VZ (PI a b) c d
abbrev Gt a b c:=AX a 40 (JH b c)
abbrev aG a:=KF (PU a)
abbrev Ze a b c:=Fj (aG a) b c
abbrev GG a b (c:Nat->Prop):=AD a b (AF c)
abbrev Xk a:=FY a 40
abbrev XJ a b:=EU a (CJ b)
abbrev OE a b:=PX (AE (XE a b)) (NU a b) (LH a b)
abbrev GT a:=EK (λ i=>AE (Dk.st a i))
abbrev Fa a b:=GQ (PI a b)
abbrev TA a b c:=PR a (λ i=>EO i a) a (λ i=>EI i a) b BQ (λ i=>Fa a i) (GT c) (λ i=>OE a i)
abbrev PM a b c:=AX a (CJ b) c
abbrev iQ a b c:=PM a b (AE c)
abbrev Aw a b:=iQ a b (DN b a)
abbrev VW a:=AF (λ i=>Aw i a)
abbrev YQ a:=BM (CJ a)
abbrev JX a b:=GZ (Nat.succ a) b
abbrev YX a b:=BX (DN a b)
abbrev YD a:=BE (CJ a)
attribute [go_sem] Pk CJ QA DN Ae lU qY LI iL cQ XE NE QE PU Au VZ Ax Gt aG Ze GG Xk XJ OE GT Fa TA PM iQ Aw VW YQ JX YX YD
theorem BMK (a : DkZ) : (BHO a) = (And ((@Exists StK) (λ i=>IN (AS (Pk i) (-1)) (YQ (QA a)) (UR (VW (QA a)) (FS (CJ (QA a))) (BZ (Ae i)) (PU a) (TA (PU a) (AF (λ j=>Gt j (qY i j) (LI (lU a) j))) (lU a))) (GG (AD (XJ (Ae i) (QA a)) (FY (-1) (Pk i)) (Xk (Pk i))) (JH (Ze a (Pk i) (iL (Ae i) (QA a))) (Ze a (-1) (QA a))) (λ j=>JH (mR (aG a) (Pk i) (iL (Ae i) (QA a)) (qY i) j) (mR (aG a) (-1) (QA a) (LI (lU a)) j))))) ((λ (f : StK -> Prop) => ∀ (x : StK), f x) (λ i=>NR (GG (AD (XJ (Ae i) (QA a)) (FY (-1) (Pk i)) (Xk (Pk i))) (JH (Ze a (Pk i) (iL (Ae i) (QA a))) (Ze a (-1) (QA a))) (λ j=>JH (mR (aG a) (Pk i) (iL (Ae i) (QA a)) (qY i) j) (mR (aG a) (-1) (QA a) (LI (lU a)) j))) (Ae i) (YD (QA a)) (FF (Ae i) (CJ (QA a)) (Bs (Nn (DN (QA a) (Ae i)) (DO (Pk i)) (GO (aG a) 2)) (DT (GR (Ze a (-1) (QA a))) (Bm (QE a) (PU a)) (Ap (QE a) (PU a)) (Cg (QE a) (PU a)) (Bd (QE a) (PU a)) (Ci (QE a) (PU a)) (PO (Bi (QE a) (PU a)) (λ j=>XX j (QE a) (BV (PU a) j) (PU a) j) (An (QE a) (PU a)) (λ j=>YG j (QE a) (WC (QE a) j (PU a) j) j (BD (PU a) j) (BK (PU a) j)) (AF (λ j=>Gt j (LI (stD a) j) (qY i j))) BQ (λ j=>Ax (QE a) j (PU a) j) (EK (λ j=>Au (stD a) j (lU a) j)) (λ j=>NE (NC (QE a) j) (PU a) j (NU (QE a) j) (LH (QE a) j)))) (BC (YX (QA a) (Ae i)) (MN (DN (QA a) (Ae i)) 40) (JX (EP (DN (QA a) (Ae i))) 40)) ((@Exists StK) (λ j=>DW (AD (AS (Pk j) (DN (QA a) (Ae i))) (YQ (QA a)) (UR (VW (QA a)) (FS (CJ (QA a))) (BR (Ae j) (Ae i)) (PU a) (TA (PU a) (AF (λ k=>Gt k (qY j k) (PP (cQ k (EP (DN (QA a) (Ae i)))) (qY i k)))) (lU a)))) (GG (AD (XJ (Ae j) (QA a)) (FY (-1) (Pk j)) (Xk (Pk j))) (JH (Ze a (Pk j) (iL (Ae j) (QA a))) (Ze a (-1) (QA a))) (λ k=>JH (mR (aG a) (Pk j) (iL (Ae j) (QA a)) (qY j) k) (mR (aG a) (-1) (QA a) (LI (lU a)) k))) (CJ (QA a)) (Ae j) (Ae i))))) (DT (CS (Ze a (-1) (QA a))) (Bm (QE a) (PU a)) (Ap (QE a) (PU a)) (Cg (QE a) (PU a)) (Bd (QE a) (PU a)) (Ci (QE a) (PU a)) (PO (Bi (QE a) (PU a)) (λ j=>XX j (QE a) (BV (PU a) j) (PU a) j) (An (QE a) (PU a)) (λ j=>YG j (QE a) (WC (QE a) j (PU a) j) j (BD (PU a) j) (BK (PU a) j)) (AF (λ j=>Gt j (LI (stD a) j) (qY i j))) BQ (λ j=>Ax (QE a) j (PU a) j) (EK (λ j=>Au (stD a) j (lU a) j)) (λ j=>NE (NC (QE a) j) (PU a) j (NU (QE a) j) (LH (QE a) j))))))) := by kernel_rfl
theorem AKB (a : DkZ) : (stD a).c = a.w.c := rfl
theorem BVW (a : DkZ) (h : a.z.length < 4611686018427387904 /\ a.w.c.ms.length <= 40) : BHO a := by
 obtain ⟨hz, hm⟩ := h
 rw [BMK]<;> delta JH zU Hi BI BF EN MM ON Ep EB EA BY AF CN CO AS BE EU EC JL FY MN NT LS ET GW FK HV IB HK GV FU HC DV FW EY LC EP QU EK OK GZ AP Pk CJ QA DN Ae lU qY LI iL cQ AD CI AU AG AZ AX AE BM GQ AW BL BD AO AR DD BA BK NC BO BJ CX HI BW BV AJ AQ NU AV FC CK AN AL LH GH HG FX FQ FO AM HE DK ID DR GO ES BX DO BC PI HS DX HH QE CW PM EZ BQ CS XE PX FH HQ DZ KF PU JB Fa BR GT EO HD VM YQ LG FS MP Ff MC JM PO RV DT XJ GR iQ MQ EI OE IP PR VZ BZ JX DW YG HY GG YX PP TK NE IN Nn TL FF Aw TA My ZD Po aG VW NR UR YD Zc WC Bi Tz Bm An Au Ax Ug Ci Vq Ap Bd Cg XX Bs Ze Gt Xk; simp only [CC, eq_self, implies_true, forall_const, AKB]
 have e2 : IntKind.i64.wrap ((a.w.c.ms.length : Int) - 2) = (a.w.c.ms.length : Int) - 2 := TC (by omega) (by omega)
 refine ⟨⟨⟨0, -1, a.w.sp⟩, ⟨rfl, rfl, λ _ _ => rfl⟩, ⟨Nat.zero_le _, by show (-1 : Int) <= -1; omega, by show (-1 : Int) <= 40; omega⟩, rfl, λ _ => rfl⟩, λ s ⟨⟨s1, s2, s3⟩, s4, s5⟩ => ⟨λ hlt => ?_, λ hge => ?_⟩⟩
 ·have hlt : s.k < a.z.length := by omega
  have hd := AAA hlt
  rw [hd] at s4 s5
  have e1 : IntKind.i64.wrap (s.m + 1) = s.m + 1 := TC (by omega) (by omega)
  refine ⟨by omega, λ h1 => ⟨?_, λ j _ => ?_, λ _ => rfl⟩, λ h1 => ?_⟩
  ·rw [<- s4]; unfold Fj wr; rw [h1]; rfl
  ·show mR _ _ _ _ j = _
   rw [<- s5 j]; unfold mR wr; rw [h1]; rfl
  ·have h2 := h1
   rw [e1, e2] at h2
   simp only [TD, Bool.and_eq_true, decide_eq_true_eq] at h2
   refine ⟨by omega, ⟨s.k + 1, gD a.z s.k, λ i => bif decide (i = (gD a.z s.k).toNat) then true else s.f i⟩, ⟨rfl, (HL (by omega)).symm, λ _ _ => rfl⟩, ⟨⟨by show s.k + 1 <= _; omega, by show -1 <= gD a.z s.k; omega, by show gD a.z s.k <= 40; omega⟩, ?_, λ j => ?_⟩, by show a.z.length - (s.k + 1) < _; omega⟩
   ·rw [<- s4]; conv => rhs; unfold Fj wr
    rw [h1]; rfl
   ·rw [<- s5 j]; conv => rhs; unfold mR wr
    rw [h1]; rfl
 ·rw [List.drop_of_length_le (by omega)] at s4 s5
  exact ⟨s4.symm, λ j _ => (s5 j).symm, λ _ => rfl⟩
theorem AMH : AK Try.prog AEN (C_stop.spec dDkZ) := VV C_stop BHA [] [] BPN (λ _ => by kernel_rfl) (λ _ => AA AJM AC) (λ a h => BVW a h) (λ _ => WY rfl rfl) _
structure CZ where
 c : Cht
 z : List Int
def dCZ : List AVal -> Heap -> Option (CZ × List (Nat × Nat) × List Nat)
 | [x, y], H => match kV x H, ACO y H with
  | some (c, f), some (l, e) => some (⟨c, l⟩, [], f ++ e)
  | _, _ => none
 | _, _ => none
def xCZ (a : CZ) : List AVal := [.d (Ak a.c), .d (PH a.z)]
def KB (a : CZ) : Dk := stD ⟨AY a.c, a.z⟩
def V6 (a : CZ) : Bool := Fj a.c.ms.length (-1) a.z
def N9 (a : CZ) : Int := bif AI a.c == 0 then bif V6 a then 0 else 2 else AI a.c
def C_beg : Ctr := { α := CZ, xs := xCZ, val := λ a => .tup [.bptr 0 0, .int (N9 a)], keep := λ a => dkN (KB a), pre := λ a => [(a.c.ms.length < 4611686018427387904 /\ a.c.ns.length < 4611686018427387904 /\ a.z.length < 4611686018427387904) /\ AI a.c = 0] }
def C_begX : Ctr := { α := CZ, xs := xCZ, val := λ a => .tup [.d (.v (.pointer none)), .int (N9 a)], keep := λ _ => [], pre := λ a => [(a.c.ms.length < 4611686018427387904 /\ a.c.ns.length < 4611686018427387904 /\ a.z.length < 4611686018427387904) /\ AI a.c ≠ 0] }
def BTO : Ann := { ann 23 [(UF, C_open.spec aM), (AEN, C_stop.spec dDkZ)] with md := λ id => if id = 2 then some λ k => if k = 3 ∨ k = 4 ∨ k = 5 ∨ k = 6 then 8 else 0 else none }
def BDK : Ann := { ann 23 [(UF, C_openX.spec aM)] with md := λ id => if id = 2 then some λ k => if k = 3 ∨ k = 4 ∨ k = 5 ∨ k = 6 then 9 else 0 else none }
def BRU (a : CZ) : Prop := CF Try.prog BTO xS (AH xS) (xCZ a) (AB []) (C_beg.val a) (C_beg.keep a) [(0, 2016), (1, 2017)] []
abbrev GB:=CZ.c
abbrev RU:=@ME Int
abbrev LO:=CZ.z
abbrev Ul:=N9
abbrev Jd:=KB
abbrev Wr a b c d:=AG a b c a d
abbrev AJC a b c:=Wr a a b c
abbrev IT a:=AP (Jd a)
abbrev It a:=FA (GB a)
abbrev UB a:=AU (GB a)
abbrev Iv a:=GK (UB a) (GB a)
abbrev Ig a b c:=JQ (GB a) (GB a) (GB a) (GB a) (Iv b) (It c)
abbrev Ad a:=BS (Ig a a a)
abbrev MV a:=Ig a a a
abbrev VR a b:=RU (CJ a) (λ i=>DN b i)
abbrev YR a:=VR (LO a) (LO a)
abbrev J8 a b:=DkZ.mk a (YR b)
abbrev rD a b c:=Dk.mk a (Dk.st b) (LI c)
abbrev Kr a b:=rD (CU a) b b
abbrev ARI a b:=Kr a (Le b)
abbrev Q9 a:=ARI (Ad a) (MV a)
abbrev OI a:=QE (J8 (Q9 a) a)
abbrev Qc a b:=EU (EH a) b
abbrev SO a:=Qc a 40
abbrev RR a:=EQ (CJ a)
abbrev WX a:=RR (YR a)
abbrev Db a b:=ntOf (FA a) b
abbrev Kq a b:=EA (Db a b)
abbrev Hp a b:=EB (Db a b)
abbrev YB a b c d e f g:=NE a b c (Hp d e) (Kq f g)
abbrev FM a:=EK (λ i=>YB (Db a i) a i a i a i)
abbrev NK a:=GT (Le a)
abbrev Bw a b:=OK (FA a) b
abbrev YM a b c d:=VZ (Bw a b) c d
abbrev LU a b:=YM a b a b
abbrev NJ a:=EK (λ i=>LU a i)
abbrev QR a b c:=AS (DN a b) c
abbrev QP a b c d e:=PM a b (QR c d e)
abbrev MW a b c d e f:=QP a b c d (DN e f)
abbrev SK a b c d:=MW a b b a c d
abbrev GF a b c:=SK a b c a
abbrev XO a b c:=GF a (YR b) c
abbrev MO a b:=XO a b (LO b)
abbrev LL a b:=BY (CJ a) b
abbrev DY a b:=LL a (CJ b)
abbrev XW a b:=DY (YR a) b
abbrev MK a:=XW a (LO a)
abbrev KS:=GQ LC
abbrev Gv a:=LB (MV a)
abbrev Ij a:=DV (It a)
abbrev WV a:=EQ (Ij a)
abbrev Br a:=ET (Iv a)
abbrev WE a:=EQ (Br a)
abbrev Kb a b:=EY (It a) b
abbrev OO a b c d e f:=GC a (Ij b) (EV (Kb b c) d c) (EB (Kb b e)) d (EA (Kb b f))
abbrev UN a b c d e f:=OO a b c (GB d) e f
abbrev OM a b:=EZ (Ij a) b
abbrev UM a b:=OM a (GB b)
abbrev Kx a b:=FU (Iv a) b
abbrev RO a b c:=GA a (Br b) (GV (Kx b a)) c (HC (Kx b a))
abbrev OP a b:=BY (Br a) b
abbrev US a b:=OP a (UB b)
abbrev VH a:=AL (GB a)
abbrev XQ a:=AJ (GB a)
attribute [go_sem] GB RU LO Ul Jd Wr AJC IT It UB Iv Ig Ad MV VR YR J8 rD Kr ARI Q9 OI Qc SO RR WX Db Kq Hp YB FM NK Bw YM LU NJ QR QP MW SK GF XO MO LL DY XW MK KS Gv Ij WV Br WE Kb OO UN OM UM Kx RO OP US VH XQ
theorem BXY (a : CZ) : (BRU a) = (TV (XQ a) (VH a) (HB (GB a) (US a a) (λ i=>RO i a (GB a)) (UM a a) (λ i=>UN i a i a i i) (And (WE a) (WV a)) (Gv a)) KS (AJC KS (And (MK a) (FC (AF (λ i=>MO i a)) (AJ (Ad a)) (FK (Ad a)) (AM (Ad a)) (CG (AN (Ad a)) (AQ (Ad a)) (BP (Ad a)) (HM (Ad a)) (BN (Ad a)) (FN (Ad a)) Ny BQ (AR (NJ (Ad a)) (NK (MV a)) (FM (Ad a)) BQ (EK (λ i=>Ax (Ad a) i (OI a) i)) (EK (λ i=>Au (Le (MV a)) i (stD (J8 (Q9 a) a)) i)) (EK (λ i=>NE (NC (Ad a) i) (OI a) i (NU (Ad a) i) (LH (Ad a) i))) (WX a) (SO (Ad a)))))) (EC (LJ ((@BEq.beq Nat (@instBEqOfDecidableEq Nat instDecidableEqNat)) 0 0) (not (Fj (Lt (Ad a)) (-1) (YR a)))) (DT (AS (Ul a) 2) (Bm (IT a) (OI a)) (Ap (IT a) (OI a)) (Cg (IT a) (OI a)) (Bd (IT a) (OI a)) (Ci (IT a) (OI a)) (PO (Bi (IT a) (OI a)) (λ i=>XX i (IT a) (BV (OI a) i) (OI a) i) (An (IT a) (OI a)) (λ i=>YG i (IT a) (WC (IT a) i (OI a) i) i (BD (OI a) i) (BK (OI a) i)) (AF (λ i=>Gt i (LI (Jd a) i) (LI (stD (J8 (Q9 a) a)) i))) BQ (λ i=>Ax (IT a) i (Ad a) i) (EK (λ i=>Au (Jd a) i (Le (MV a)) i)) (λ i=>NE (NC (IT a) i) (Ad a) i (NU (IT a) i) (LH (IT a) i)))) (DT (IM (Ul a)) (Bm (IT a) (OI a)) (Ap (IT a) (OI a)) (Cg (IT a) (OI a)) (Bd (IT a) (OI a)) (Ci (IT a) (OI a)) (PO (Bi (IT a) (OI a)) (λ i=>XX i (IT a) (BV (OI a) i) (OI a) i) (An (IT a) (OI a)) (λ i=>YG i (IT a) (WC (IT a) i (OI a) i) i (BD (OI a) i) (BK (OI a) i)) (AF (λ i=>Gt i (LI (Jd a) i) (LI (stD (J8 (Q9 a) a)) i))) BQ (λ i=>Ax (IT a) i (Ad a) i) (EK (λ i=>Au (Jd a) i (Le (MV a)) i)) (λ i=>NE (NC (IT a) i) (Ad a) i (NU (IT a) i) (LH (IT a) i))))))) := by kernel_rfl
def BIP (a : CZ) : Prop := CF Try.prog BDK xS (AH xS) (xCZ a) (AB []) (C_begX.val a) [] [] []
abbrev Lc:=@Ne Int
abbrev Ow a b c d:=AG a b a c d
abbrev ADG a b c:=Ow a a b c
abbrev Mg a:=AI (MV a)
abbrev Jn a:=Ey a 0
abbrev HO a b:=CN (CS a) b
abbrev UV a:=Lc a 0
attribute [go_sem] Lc Ow ADG Mg Jn HO UV
theorem BNP (a : CZ) : (BIP a) = (TV (XQ a) (VH a) (HB (GB a) (US a a) (λ i=>RO i a (GB a)) (UM a a) (λ i=>UN i a i a i i) (And (WE a) (WV a)) (UV (Mg a))) (GR (Jn (Mg a))) (ADG (GR (Jn (Mg a))) (HO (Jn (Mg a)) (CS Hi)) (ED (LJ (Jn (Mg a)) Hi) Vi (AS (Ul a) 2) (And Vi (AS (Ul a) (Mg a)))))) := by kernel_rfl
theorem Rp (a : CZ) : (KB a).c = a.c := rfl
theorem Ws (w : Dk) : Dk.mk w.c w.st w.sp = w := rfl
theorem OR {c : Cht} (h : AI c = 0) : VU c = 0 /\ (1 <= c.ms.length /\ c.ms.length <= 40) /\ c.ns.length <= 20 := by
 have h1 : VU c = 0 := by
  unfold AI at h
  cases hc : (VU c != 0) with
  | false => simpa using hc
  | true => rw [hc] at h; simpa using h
 refine ⟨h1, ?_⟩
 unfold VU at h1
 cases hc : (bif !TD c.ms.length 1 40 then true else decide ((c.ns.length : Int) > 20)) with
 | true => rw [hc] at h1; cases h1
 | false =>
  cases hb : TD c.ms.length 1 40 with
  | false => rw [hb] at hc; cases hc
  | true =>
   rw [hb] at hc
   have hc : decide ((c.ns.length : Int) > 20) = false := hc
   simp only [TD, Bool.and_eq_true, decide_eq_true_eq, decide_eq_false_iff_not] at hb hc
   omega
theorem BZN (a : CZ) (h : (a.c.ms.length < 4611686018427387904 /\ a.c.ns.length < 4611686018427387904 /\ a.z.length < 4611686018427387904) /\ AI a.c = 0) : BRU a := by
 obtain ⟨⟨hm, hn, hz⟩, h0⟩ := h
 have hl := OR h0
 rw [BXY]<;> delta JH zU Hi BI BF EN EB EA BY AF CN CO AS BE EU EC ET GW FK HV IB HK GV FU HC DV FW EY LD LC QU EK OK AP Le CJ DN LI GB RU LO Ul Jd AD CI AU FT BS GN AG GK IT AZ AX UB AE FA GQ Wr AJC AW JP It BL BD AO AR DD BA VR BK II NC JQ BO BJ CX BW BV AJ AQ NU JD AV EH FC Iv YR NH CK AN AL LH JE JO FX FQ FO Ig MR AM IV FD Db ES CG OX PI IW QE JA rD CW PM EZ BQ Kq Kb XE EV WP EQ CU MV Ad FH EW DU Kr LL HR Br GT FZ GI BN GA GC HD ARI VM QR IM QP DY MP Ff Bw Ij IS MW MC Hp PO Kx DT LB LJ BP SK GF BH BG LM IP VZ J8 Ny YM HB YG LU HY NK Q9 NE OM YB OP KS HM OI RR FN XW FM XO WV NJ MK RO WX WE Qc MO OO VH US SO UM XQ Zc Gv WC TV Bi Tz Bm An Au Ax Ug Ci Vq Ap Bd Cg UN XX Gt Lt; simp only [CC, eq_self, implies_true, forall_const, CL, rZ, Ws, AKB, Rp]
 have e : N9 a = bif V6 a then 0 else 2 := by unfold N9; rw [h0]; rfl
 have e2 : Fj a.c.ms.length (-1) a.z = V6 a := rfl
 have e3 : stD ⟨AY a.c, a.z⟩ = KB a := rfl
 simp only [e, e2, e3, Rp]
 have e4 : ∀ n, (AY a.c).st n = (KB a).st n := λ _ => rfl
 cases V6 a <;> simp [hm, hn, hz, h0, hl.2.1.2, e4] <;> exact ⟨λ _ => rfl, λ _ _ => rfl⟩
theorem BJP : AK Try.prog yR (C_beg.spec dCZ) := VV C_beg (λ _ => BTO) [(0, 2016), (1, 2017)] [] AQQ (λ _ => by kernel_rfl) (λ _ => AA pG (AA AMH AC)) (λ a h => BZN a h) (λ _ => WY rfl rfl) _
theorem BLZ : AK Try.prog yR (C_begX.spec dCZ) := VV C_begX (λ _ => BDK) [] [] AQQ (λ _ => by kernel_rfl) (λ _ => AA jS AC) (λ (a : CZ) h => by
 obtain ⟨⟨hm, hn, hz⟩, h0⟩ : (a.c.ms.length < 4611686018427387904 /\ a.c.ns.length < 4611686018427387904 /\ a.z.length < 4611686018427387904) /\ AI a.c ≠ 0 := h
 have h0' : (AI a.c == 0) = false := by simpa using h0
 have e : N9 a = AI a.c := by unfold N9; rw [h0']; rfl
 show BIP a; rw [BNP]<;> delta JH zU Hi BI BF EN EB EA BY AF CN CO AS EC ET GW FK HV IB HK GV FU HC DV FW EY LD Ey LC QU GB Ul Lc AD CI AU FT GN AG GK AZ AX UB AE FA Ow ADG AW It BL BD AO AR DD BA BK JQ BO BJ CX BW BV AJ AQ AV Iv CK AN AL FO Ig AM ES CG EZ Kb CS EV EQ MV FH EW DU ED HR HO Br FZ GI GA GC Ij Kx GR LJ LM HB OM OP WV RO WE OO VH US UM XQ Mg TV UV UN Jn Vi; simp only [CC, eq_self, implies_true, forall_const, CL, h0', e]
 simp [hm, hn, h0]) (λ _ => WY rfl rfl) _
end Go.Bal
