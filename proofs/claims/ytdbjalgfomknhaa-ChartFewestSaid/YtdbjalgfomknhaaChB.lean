/- Package chart: which charts are right; a chart at work. -/
import Derived.Test.YtdbjalgfomknhaaChE
set_option linter.unusedVariables false
set_option linter.unusedSimpArgs false
namespace Go.Bal
open Go Go.Sym Go.Proofs
def mkC : Int -> List Mk -> Int
 | _, [] => 0
 | a, m :: r => bif (bif !Fw m.pl 0 10000 then true else !Fw m.ht 0 1000) then 30 else bif decide (m.pl <= a) then 9 else mkC m.pl r
def dupP (l : List Nt) (i : Nat) : Bool := !(l.take i).any λ x => x.mi == (gD l i).mi
def Sd (c : Cht) : Int := bif (bif !Fw c.ms.length 1 40 then true else decide ((c.ns.length : Int) > 20)) then 3 else bif (bif (bif (bif !Qc c.p 1 600 then true else !Fw c.base (-1000000) 1000000) then true else !Fw c.scale 0 1000) then true else !Fw c.off 0 1000) then 30 else 0
def BF (c : Cht) : Int := bif Sd c != 0 then Sd c else bif mkC (-1) c.ms != 0 then mkC (-1) c.ms else bif !c.ns.all (λ n => WJ n c.ms.length) then 30 else bif allB (dupP c.ns) c.ns.length then 0 else 10
def dC1 : List AVal -> Heap -> Option (Cht × List (Nat × Nat) × List Nat)
 | [y], H => match AVK y H with
  | some (l, f) => some (l, [], f)
  | none => none
 | _, _ => none
def C_Check : Ctr := { α := Cht, xs := λ c => [.d (Rc c)], L := λ _ => [], val := λ c => .int (BF c), keep := λ _ => [], pre := λ c => [c.ms.length < 4611686018427387904 /\ c.ns.length < 4611686018427387904] }
def ck7 (c : Cht) : Shape := { α := NI, dflt := default, T := λ s => ⟨[(1, .bptr 201 0), (3, .int s.m), (44, .d (eMks c.ms)), (45, .int c.ms.length), (46, .int s.k)], [(201, .live (chB c))]⟩, inv := λ s => s.k <= c.ms.length /\ Sd c = 0 /\ mkC s.m (c.ms.drop s.k) = mkC (-1) c.ms, meas := λ s => c.ms.length - s.k, first := [(201, 1000)] }
def ck18 (c : Cht) : Shape := { α := Nat, dflt := 0, T := λ k => ⟨[(1, .bptr 201 0), (75, .d (eNts c.ns)), (76, .int c.ns.length), (77, .int k)], [(201, .live (chB c))]⟩, inv := λ k => k <= c.ns.length /\ Sd c = 0 /\ mkC (-1) c.ms = 0 /\ c.ns.all (λ n => WJ n c.ms.length) = true /\ allB (dupP c.ns) k = true, meas := λ k => c.ns.length - k }
def BOI (c : Cht) : Ann := { ann 89 [(n_in, s_in), (oB, BOV), (n_eN, C4Nr.spec d4Nr), (BJN, C3Nc.spec d3Nc)] with loops := λ id => if id = 7 then some [ck7 c] else if id = 18 then some [ck18 c] else none }
def BQU (c : Cht) : Prop := DN Try.prog (BOI c) BGW (AP BGW) (C_Check.xs c) (AH []) (C_Check.val c) [] [] []
abbrev PB:=true
abbrev Sb:=λ (x0 x1 : Int) => decide (x0 > x1)
abbrev Ea:=BF
abbrev hd96:=@Exists NI
abbrev hd97:=NI.m
abbrev RN:=NI.k
abbrev BJJ:=@List.drop Mk
abbrev AZQ:=λ (f : NI -> Prop) => ∀ (x : NI), f x
abbrev JW:=Int.toNat
abbrev ZA:=@HAdd.hAdd Nat Nat Nat (@instHAdd Nat instAddNat)
abbrev Gm a b:=(@cond Bool) a PB b
abbrev bP a b c d:=FX (Gm a b) c d
abbrev EG a b c d e f g:=BZ a (AN b c d e f) g
abbrev Yy a:=BW (BB a)
abbrev UN a b c d e:=CU a b (Yy c) d e
abbrev DK a:=AU a 0
abbrev SU a b c d e:=DC a b (BB c) d e
abbrev GX a:=MF a PB
abbrev ADH a:=DK (Sd a)
abbrev Pv a b:=GM a (BB b)
abbrev OI a:=AM (Yy a)
abbrev XZ a b:=AU (Ea a) b
abbrev jA a b (c:Nat->Nat):=(@HX Nt) a (λ i=>BG b (c i))
abbrev Mt:=JW 0
abbrev TO a:=ZA Mt a
abbrev Ay a:=NR a Mt
abbrev BH a:=ZA 0 a
abbrev mJ a b c:=CL a (NR b c)
abbrev XQ a b c d:=AI a b (KZ c d)
abbrev RF a:=DI (BW a)
abbrev Z7 a:=KZ a a
abbrev VU:=Z7 0
abbrev PN a:=DS (EJ a)
abbrev Bb a:=AM (ZY a)
abbrev Ah a:=AK (λ i=>EL i a)
abbrev Eu a b:=AU (hd97 a) b
abbrev kR a b c:=Gm (Gm a b) c
attribute [go_sem] PB Sb Ea hd96 hd97 RN BJJ AZQ JW ZA Gm bP EG Yy UN DK SU GX ADH Pv OI XZ jA Mt TO Ay BH mJ XQ RF Z7 VU PN Bb Ah Eu kR
theorem BUJ (c : Cht) : (BQU c) = (bP (not (Fw (ZY c) 1 40)) (Sb (Yy c) 20) (XZ c 3) (bP (kR (not (hd9 (HA c) 1 600)) (not (Fw (HZ c) (-1000000) 1000000)) (not (sU (ID c) 1000))) (not (sU (IA c) 1000)) (XZ c 30) (And (hd96 (λ i=>EG (Eu i (-1)) (EO c) (Ah c) (Bb c) (CF (RN i)) (NW c) (AI (GM (RN i) (BY c)) (ADH c) (AU (mkC (hd97 i) (BJJ (RN i) (HC c))) (mkC (-1) (HC c)))))) (AZQ (λ i=>CU (AI (GM (RN i) (BY c)) (ADH c) (AU (mkC (hd97 i) (BJJ (RN i) (HC c))) (mkC (-1) (HC c)))) (RN i) (ZY c) (IH (RN i) (BY c) (bP (not (sU (CX c (RN i)) 10000)) (not (sU (DH c (RN i)) 1000)) (XZ c 30) (FX (hd7 (CX c (RN i)) (hd97 i)) (XZ c 9) (hd96 (λ j=>DC (CE (Eu j (CX c (RN i))) (EO c) (Ah c) (Bb c) (BT (RN j) (RN i)) (NW c)) (AI (GM (RN j) (BY c)) (ADH c) (AU (mkC (hd97 j) (BJJ (RN j) (HC c))) (mkC (-1) (HC c)))) (BY c) (RN j) (RN i)))))) (EG (DF c) (MY c) (BA c) (AZ c) (BE c) (AO (BD c) (AW c) (BR c) (CW c) (DF c) (MY c) (BA c) (AZ c) (NV c (DA c) (λ j=>HN j c) (DB c) (λ j=>CQ j c) (PN c) FO)) (FX (not (hd80 (HS c) (λ j=>hd15 j (Ph c)))) (XZ c 30) (NQ (λ j=>CE (AN (GO c) (QG c) (OI c) (CF j) (NW c)) (Pv j c) (ADH c) (DK (mkC (-1) (HC c))) (GX (hd80 (FW c) (λ k=>Ll k c))) (GX (allB (dupP (FW c)) j))) (λ j=>UN (AN (Pv j c) (ADH c) (DK (mkC (-1) (HC c))) (GX (hd80 (FW c) (λ k=>Ll k c))) (GX (allB (dupP (FW c)) j))) j c (JJ (BW j) (BB c) (CM (XQ VU (RF j) (BW j) (Yy c)) (mJ (GN (jA (Ay j) c TO)) j Mt) (AK (λ k=>PJ k (GN (jA (NR j 0) c BH)) (JX (FY (jA (Ay j) c TO) k) (CR c (TO k))) (IR (FY (jA (Ay j) c TO) k) c (TO k)) (FY (jA (Ay j) c TO) k) (BG c (TO k)) (HR (FY (jA (Ay j) c TO) k) c (TO k)))) (MX c j) (MK c j) (MN c j) (AZV (NF c j) (FS (BG c j)) (MX c j) (MK c j) (MN c j) (DS (GN (jA (NR j 0) c BH))) FO)) (FX ((@List.any Nt) (jA (Ay j) c TO) (λ k=>AJZ k (CR c j))) (XZ c 10) (GY (λ k=>SU (AN (GO c) (QG c) (OI c) (BT k j) (NW c)) (AN (Pv k c) (ADH c) (DK (mkC (-1) (HC c))) (GX (hd80 (FW c) (λ l=>Ll l c))) (GX (allB (dupP (FW c)) k))) c k j)))) (DK (Ea c))))))))))) := by kernel_rfl
theorem BTQ {α : Type} [Inhabited α] {l : List α} {k : Nat} (h : k <= l.length) : (HX k λ i => gD l i) = l.take k := by
 refine BVB (by simp [h]) λ i hi => ?_
 have hi : i < k := by simpa using hi
 rw [EK _ _ _ hi]
 simp [gD, List.getD_eq_getElem?_getD, List.getElem?_take, hi]
theorem BTG {p : Nat -> Bool} {n k : Nat} (hk : k < n) (h : p k = false) : allB p n = false := by
 cases hc : allB p n with
 | false => rfl
 | true => rw [nW.1 hc k hk] at h; cases h
theorem CDJ (c : Cht) (h : c.ms.length < 4611686018427387904 /\ c.ns.length < 4611686018427387904) : BQU c := by
 obtain ⟨hm, hn⟩ := h
 rw [BUJ]<;> delta MF hd7 hd9 BU CO hd15 FM TP WF FQ FP CL AK CA DD AU BW GM FX WN KZ KB XF NR IV HC HA HZ ID IA JD GN FW FY GY FO hd80 Ye PB Sb Ea hd96 hd97 RN BJJ AZQ JW ZA AI BG DV EN GF AN BO BK CG BJ BB BY AO AM HS FZ BL BV Z7 A1 AZV CS GS CD CJ CX DM AZ IY CR CY DP EU DH BA AW HD DQ GJ GG EA EI HY DG BD FS EJ FU KR BE EH ER EY FR BH DI BZ IE mJ HM MN GC HI KP EF DU EO GI DS FH LB GR JG HR Mt GX KU GO FI FT JU JX IR KM GD JH ZY OT BT WV LV MK DK DO LR HB BR DC DF IL IP IS IM JZ EL CH MX Yy OC NF RC CM OF KD CE DB DA BS CW NO CU PN TO QG EW JK QK BP MB Ah JJ FV HN OI CF EG TH NV NW CQ Gm RF UW IH Ll PJ MY NQ AJZ Bb VU Ay SU Eu XZ bP UN XQ Pv sU kR jA ADH Ph; simp only [CC, eq_self, implies_true, forall_const, Nat.sub_zero, Int.toNat_zero]
 refine ⟨λ h1 => ?_, λ h1 => ⟨λ h2 => ?_, λ h2 => ?_⟩⟩
 ·have e : Sd c = 3 := by unfold Sd; rw [h1]; rfl
  unfold BF; rw [e]; rfl
 ·have e : Sd c = 30 := by unfold Sd; rw [h1, h2]; rfl
  unfold BF; rw [e]; rfl
 have e : Sd c = 0 := by unfold Sd; rw [h1, h2]; rfl
 have k0 : ∀ v : Int, v ≠ 0 -> mkC (-1) c.ms = v -> BF c = v := λ v hv hm => by 
  have hv0 := hv
  have hv' : (v != 0) = true := by simpa using hv
  unfold BF; rw [e, hm, hv']; rfl
 refine ⟨⟨⟨0, -1⟩, ⟨rfl, rfl⟩, Nat.zero_le _, e, rfl⟩, λ s ⟨s1, _, s3⟩ => ⟨λ hlt => ?_, λ hge => ?_⟩⟩
 ·have hlt : s.k < c.ms.length := by omega
  have hd := BQF hlt
  rw [hd] at s3
  refine ⟨by omega, λ h3 => ?_, λ h3 => ⟨λ h4 => ?_, λ h4 => ⟨⟨s.k + 1, (gD c.ms s.k).pl⟩, ⟨rfl, (HH (by omega)).symm⟩, ⟨by show s.k + 1 <= _; omega, e, ?_⟩, by show c.ms.length - (s.k + 1) < _; omega⟩⟩⟩
  ·exact k0 30 (by decide) (by rw [<- s3]; unfold mkC; rw [h3]; rfl)
  ·exact k0 9 (by decide) (by rw [<- s3]; unfold mkC; rw [h3, decide_eq_true h4]; rfl)
  ·rw [<- s3]; conv => rhs; unfold mkC
   rw [h3, decide_eq_false h4]; rfl
 ·have hmk : mkC (-1) c.ms = 0 := by rw [<- s3, List.drop_of_length_le (by omega)]; rfl
  refine ⟨by omega, λ h3 => ?_, λ h3 => ⟨⟨0, rfl, Nat.zero_le _, e, hmk, h3, rfl⟩, λ k ⟨k1, _, _, _, k5⟩ => ⟨λ hlt => ?_, λ hge => ?_⟩⟩⟩
  ·unfold BF; rw [e, hmk, h3]; rfl
  ·have hlt : k < c.ns.length := by omega
   have et : (HX k λ i => gD c.ns i) = c.ns.take k := BTQ (by omega)
   rw [et]
   refine ⟨by omega, ⟨⟨by omega, by omega, by omega⟩, λ i hi => ?_, by omega⟩, λ h4 => ?_, λ h4 => ⟨k + 1, (HH (by omega)).symm, ⟨by omega, e, hmk, h3, ?_⟩, by omega⟩⟩
   ·rw [<- et, EK _ _ _ hi]; exact ⟨rfl, rfl, rfl, rfl, rfl⟩
   ·have hp : allB (dupP c.ns) c.ns.length = false := BTG hlt (by unfold dupP; rw [h4]; rfl)
    unfold BF; rw [e, hmk, h3, hp]; rfl
   ·show (allB (dupP c.ns) k && dupP c.ns k) = true
    unfold dupP at k5 ⊢; rw [k5, h4]; rfl
  ·obtain rfl : k = c.ns.length := by omega
   unfold BF; rw [e, hmk, h3, k5]; rfl
theorem BIZ : AR Try.prog BFO (C_Check.spec dC1) := Jp C_Check BOI [] [] CAG (λ _ => by kernel_rfl) (λ _ => AC BDP (AC BZW (AC CNR (AC COH AL)))) CDJ (λ _ => Mi rfl rfl) _
def hasN (l : List Nt) (j : Int) : Bool := l.any λ x => x.mi == j
def ntOf : List Nt -> Int -> Nt
 | [], _ => default
 | n :: r, j => bif hasN r j then ntOf r j else bif n.mi == j then n else default
structure Dk where
 c : Cht
 st : Int -> Int
 sp : Nat -> Bool
def D2 : Value := .agg #[.int .i64 0, .int .i64 0, .int .i64 0, .int .i64 0, .int .i64 0]
def dkB (w : Dk) (m : Nat) : AObj := .abox [.int w.c.p.lo, .int w.c.p.hi, .int w.c.base, .int w.c.scale, .int w.c.off, .d (eMks w.c.ms), .d (eNts w.c.ns), .mref m] 40 w.sp
def dkM (w : Dk) : AObj := .imap .i64 D2 (hasN w.c.ns) (λ j => eNt (ntOf w.c.ns j)) w.st none
def dkL (w : Dk) : List (Nat × AObj) := [(100, dkB w 101), (101, dkM w)]
def dkK (w : Dk) : List (Nat × HCell) := [(100, .live (dkB w 101)), (101, .live (dkM w))]
def dkN (w : Dk) : List (Nat × HCell) := [(0, .live (dkB w 1)), (1, .live (dkM w))]
def AGR (H : Heap) (id : Nat) : Option (Dk × Nat) := match H id with
 | .live (.abox [.d a, .d b, .d c, .d d, .d e, .d (.list _ n f _), .d (.list _ m g _), .mref q] _ sp) => match H q with
  | .live (.imap _ _ _ _ st _) => some (⟨⟨⟨JQ a, JQ b⟩, JQ c, JQ d, JQ e, HX n λ i => dMk (f i), HX m λ i => dNt (g i)⟩, st, sp⟩, q)
  | _ => none
 | _ => none
def stK (l : List Nt) : Nat -> Int -> Int
 | 0 => λ _ => 0
 | k + 1 => stUp (hasN (l.take k)) (stK l k) (gD l k).mi
def AT (c : Cht) : Dk := ⟨c, stK c.ns c.ns.length, λ _ => false⟩
def C_open : Ctr := { α := Cht, xs := λ c => [.d (Rc c)], val := λ _ => .tup [.bptr 0 0, .int 0], keep := λ c => dkN (AT c), pre := λ c => [(c.ms.length < 4611686018427387904 /\ c.ns.length < 4611686018427387904) /\ BF c = 0] }
def C_openX : Ctr := { α := Cht, xs := λ c => [.d (Rc c)], val := λ c => .tup [.d (.v (.pointer none)), .int (BF c)], keep := λ _ => [], pre := λ c => [(c.ms.length < 4611686018427387904 /\ c.ns.length < 4611686018427387904) /\ BF c ≠ 0] }
def op6 (c : Cht) : Shape := { α := Nat, dflt := 0, T := λ k => ⟨[(5, .bptr 201 0), (18, .d (eNts c.ns)), (19, .int c.ns.length), (20, .int k)], [(201, .live (.abox [.int c.p.lo, .int c.p.hi, .int c.base, .int c.scale, .int c.off, .d (eMks c.ms), .d (eNts c.ns), .mref 202] 40 λ _ => false)), (202, .live (.imap .i64 D2 (hasN (c.ns.take k)) (λ j => eNt (ntOf (c.ns.take k) j)) (stK c.ns k) none))]⟩, inv := λ k => k <= c.ns.length, meas := λ k => c.ns.length - k, first := [(201, 5048), (202, 5016)] }
def BFW (c : Cht) : Ann := { ann 33 [(BFO, C_Check.spec dC1)] with loops := λ id => if id = 6 then some [op6 c] else none }
def BZD (c : Cht) : Prop := DN Try.prog (BFW c) AAT (AP AAT) (C_open.xs c) (AH []) (C_open.val c) (C_open.keep c) [(0, 201), (1, 202)] []
abbrev WW:=@bne Int (@instBEqOfDecidableEq Int Int.instDecidableEq)
abbrev JY:=False
abbrev PY:=@Eq Value
abbrev BCH:=@List.toArray Value
abbrev AZT:=@List.nil Value
abbrev BI:=λ (f : Int -> Prop) => ∀ (x : Int), f x
abbrev NH:=hasN
abbrev MG:=Nat.le
abbrev YE:=@cond Int
abbrev BER:=λ (x0 x1 : Int) => decide (x0 = x1)
abbrev AQ:=Dk.c
abbrev OE:=Dk.st
abbrev TL a (b:Nat->Prop) c d (e:Nat->Prop) f g h p:=DG a (AK b) c d e f g h p
abbrev VO a (b:Nat->Prop) c (d:Nat->Prop) (e:Nat->Prop) f g (h:Int->Prop) p:=TL a b c (AK d) e f g (BI h) p
abbrev OG a (b:Nat->Prop) c (d:Nat->Prop) (e:Nat->Prop) f g (h:Int->Prop) (p:Int->Prop):=VO a b c d e f g h (BI p)
abbrev MM a b:=AN (NL a b) (LC a b) (EH a b) (HM a b) (EI a b)
abbrev NK a b:=ntOf (FW a) b
abbrev AY a:=AQ (AT a)
abbrev Dp a b:=NK (AY a) b
abbrev Ol a b c:=MM (Dp a b) c
abbrev Nz a b:=(@List.take Nt) a (FW b)
abbrev JP a b c:=ntOf (Nz a b) c
abbrev Mw a b:=OE (AT a) b
abbrev OO a b:=NH (FW a) b
abbrev YC a b c:=MF (OO a b) c
abbrev BC:=PY D2 D2
abbrev OZ a b c:=BK a b (ED c)
abbrev XD a b:=OZ a 40 b
abbrev Cm a:=XD a Sw
abbrev WA a b c d:=RC a b (BG c d)
abbrev WR a b c d:=HR (BG a b) c d
abbrev RR a b:=LR a (BB b)
abbrev Gv a b c d e f g:=FI a b (CX c d) e (DH c f) e g
abbrev RO a b c d e f:=Gv a (BY b) b c d e f
abbrev RP a b:=OC a (BY b)
abbrev Hg a b:=AU (IA a) b
abbrev PH a b:=Hg a (IA b)
abbrev Gg a b:=AU (ID a) b
abbrev PO a b:=Gg a (ID b)
abbrev Hn a b:=AU (HZ a) b
abbrev PR a b:=Hn a (HZ b)
abbrev OX a b:=BJ (HA a) (HA b)
abbrev PC a b:=GV (HA a) (HA b)
abbrev WM a b:=MG a (BB b)
abbrev HQ (a:Nat->Prop) b c d e f g h p:=AO (AK a) b c d e f g h p
abbrev OH a (b:Nat->Prop) c (d:Nat->Prop) (e:Nat->Prop) f g (h:Int->Prop) (p:Int->Prop):=OG (EO a) b (GO c) d e f g h p
abbrev Nh a b c d e:=YE (BER a (CR b c)) d e
abbrev Uq a:=CO (FP a)
abbrev Nf a:=CO (FQ a)
abbrev Ex a:=BO a 0
abbrev HF a:=MF a Sw
abbrev bU a:=Value.int WF a
abbrev ABR:=bU 0
abbrev pU a:=(@List.cons Value) ABR a
abbrev kO a:=pU (pU a)
abbrev PK a:=WW a 0
abbrev IW a b c d:=Cht.mk (HA a) (HZ b) (ID b) (IA b) (FZ c) d
abbrev CV a:=IW a a a (HS a)
abbrev IG a:=Ea (CV a)
abbrev Jq a:=PK (IG a)
abbrev UT a b (c:Nat->Prop) d e:=AI (BA a) (AZ a) (NV a (BR a) (λ i=>CH i a) b c d e)
abbrev XM a b c d e:=UT a (DF b) (λ i=>BP i c) d e
abbrev ME a:=DS (CY a)
attribute [go_sem] WW JY PY BCH AZT BI NH MG YE BER AQ OE TL VO OG MM NK AY Dp Ol Nz JP Mw OO YC BC OZ XD Cm WA WR RR Gv RO RP Hg PH Gg PO Hn PR OX PC WM HQ OH Nh Uq Nf Ex HF bU ABR pU kO PK IW CV IG Jq UT XM ME
theorem CCO (c : Cht) : (BZD c) = (EX (XM c c c (ME c) (PN c)) (Jq c) JY (NQ (λ i=>BZ (GO c) (HQ (λ j=>BS j c) (OI c) (CF i) (BA c) (AZ c) (BE c) (BD c) (AW c) (OH c (λ j=>EL j c) c (λ j=>BS j c) Cm (PY D2 (Value.agg (BCH (pU (kO (kO AZT)))))) (BI (λ j=>HF (NH (Nz i c) j))) (λ j=>DK (stK (FW c) i j)) (λ j=>AN (JX (JP i c j) 0) (EF (JP i c j) 0) (Ex (FQ (JP i c j))) (EA (JP i c j) 0) (Ex (FP (JP i c j)))))) (WM i c)) (λ i=>UN (WM i c) i c (IH i (BB c) (GY (λ j=>SU (And (GO c) (HQ (λ k=>BS k c) (OI c) (BT j i) (BA c) (AZ c) (BE c) (BD c) (AW c) (OH c (λ k=>EL k c) c (λ k=>BS k c) Cm BC (BI (λ k=>MF (NH (Nz j c) k) (Kz (NH (Nz i c)) (CR c i) k))) (λ k=>AU (stK (FW c) j k) (stUp (NH (Nz i c)) (stK (FW c) i) (CR c i) k)) (λ k=>AN (JX (JP j c k) (Nh k c i (CR c i) (FM (JP i c k)))) (EF (JP j c k) (Nh k c i (DQ c i) (CG (JP i c k)))) (BO (FQ (JP j c k)) (Nh k c i (Nf (BG c i)) (Nf (JP i c k)))) (EA (JP j c k) (Nh k c i (FU c i) (CS (JP i c k)))) (BO (FP (JP j c k)) (Nh k c i (Uq (BG c i)) (Uq (JP i c k)))))))) (WM j c) c j i))) (CM BM (PC (AY c) c) (OX (AY c) c) (PR (AY c) c) (PO (AY c) c) (PH (AY c) c) (OG (RP (AY c) c) (λ j=>RO j (AY c) j c j j) (RR (AY c) c) (λ j=>FV j (AY c) (CR c j) (DQ c j) (BG c j) (WR (AY c) j c j) (WA (AY c) j c j)) Cm BC (BI (λ j=>YC (AY c) j (NH (Nz i c) j))) (λ j=>AU (Mw c j) (stK (FW c) i j)) (λ j=>Ol c j (JP i c j))))))) := by kernel_rfl
def BPU (c : Cht) : Prop := DN Try.prog (BFW c) AAT (AP AAT) (C_open.xs c) (AH []) (C_openX.val c) [] [] []
abbrev Yh:=PY (Value.pointer (@none Addr)) (Value.pointer (@none Addr))
attribute [go_sem] Yh
theorem BUP (c : Cht) : (BPU c) = (JL (XM c c c (ME c) (PN c)) (Jq c) Yh (XZ c (IG c)) (NQ (λ i=>BZ (GO c) (HQ (λ j=>BS j c) (OI c) (CF i) (BA c) (AZ c) (BE c) (BD c) (AW c) (OH c (λ j=>EL j c) c (λ j=>BS j c) Cm (PY D2 (Value.agg (BCH (pU (kO (kO AZT)))))) (BI (λ j=>HF (NH (Nz i c) j))) (λ j=>DK (stK (FW c) i j)) (λ j=>AN (JX (JP i c j) 0) (EF (JP i c j) 0) (Ex (FQ (JP i c j))) (EA (JP i c j) 0) (Ex (FP (JP i c j)))))) (WM i c)) (λ i=>UN (WM i c) i c (IH i (BB c) (GY (λ j=>SU (And (GO c) (HQ (λ k=>BS k c) (OI c) (BT j i) (BA c) (AZ c) (BE c) (BD c) (AW c) (OH c (λ k=>EL k c) c (λ k=>BS k c) Cm BC (BI (λ k=>MF (NH (Nz j c) k) (Kz (NH (Nz i c)) (CR c i) k))) (λ k=>AU (stK (FW c) j k) (stUp (NH (Nz i c)) (stK (FW c) i) (CR c i) k)) (λ k=>AN (JX (JP j c k) (Nh k c i (CR c i) (FM (JP i c k)))) (EF (JP j c k) (Nh k c i (DQ c i) (CG (JP i c k)))) (BO (FQ (JP j c k)) (Nh k c i (Nf (BG c i)) (Nf (JP i c k)))) (EA (JP j c k) (Nh k c i (FU c i) (CS (JP i c k)))) (BO (FP (JP j c k)) (Nh k c i (Uq (BG c i)) (Uq (JP i c k)))))))) (WM j c) c j i))) JY))) := by kernel_rfl
theorem EB (c : Cht) : Cht.mk c.p c.base c.scale c.off c.ms c.ns = c := rfl
theorem zJ (c : Cht) : (AT c).c = c := rfl
theorem BCQ (l : List Nt) (x : Nt) (j : Int) : hasN (l ++ [x]) j = Kz (hasN l) x.mi j := by
 unfold hasN Kz; rw [List.any_append, Bool.or_comm]
 simp only [List.any_cons, List.any_nil, Bool.or_false]
 congr 1
 rw [Bool.eq_iff_iff, beq_iff_eq, decide_eq_true_eq]; exact eq_comm
theorem BSB (l : List Nt) (x : Nt) (j : Int) : ntOf (l ++ [x]) j = bif decide (j = x.mi) then x else ntOf l j := by
 induction l with
 | nil =>
  simp only [List.nil_append, ntOf, hasN, List.any_nil, cond_false]
  have : (x.mi == j) = decide (j = x.mi) := by rw [Bool.eq_iff_iff, beq_iff_eq, decide_eq_true_eq]; exact eq_comm
  rw [this]
 | cons y l ih =>
  simp only [List.cons_append, ntOf, ih, BCQ, Kz]
  cases decide (j = x.mi) <;> rfl
theorem CKM (c : Cht) (h : (c.ms.length < 4611686018427387904 /\ c.ns.length < 4611686018427387904) /\ BF c = 0) : BZD c := by
 obtain ⟨⟨hm, hn⟩, h0⟩ := h
 rw [CCO]<;> delta MF Sw BU CO FM TP WF FQ FP CL AK CA DD AU BW Aj FX WN KZ KB XF NR IV HC HA HZ ID IA JD GN FW FY GY Ea WW JY PY BCH AZT BI NH MG YE BER AQ OE AI BG AY DV EN GF AN BO BK CG BJ BB BY AO AM HS FZ BL BV ED NK CS GS CD IW CJ CX DM AZ IY CR CY Dp DP EU CV DH BA AW HD DQ GJ GG EA EI HY DG BD FS EJ FU KR BE EH ER OZ EY FR OO DI BZ IE HM MN GC HI KP EF DU EO GI DS BC XD FH HQ GR JG HR KU GO FI LC FT JU TL JX IR GD NL JH VO Mw OT BT LV MK DK DO LR OG BR DC DF IL IP IS IM JZ EL CH MX Yy OC ME NF RC NM CM OF Cm KD BM Nz MM BS OH CU SY PN EW JK BP bU EX GV HF FV OI JP YC CF IG NV PK UW IH ABR Hg NQ WM pU Gg PC PH kO SU Hn PO OX PR RP RR UT UN WA XM WR Ex Gv Uq Nf Nh Ol RO Jq; simp only [CC, eq_self, implies_true, forall_const, EB, zJ, h0]
 refine ⟨⟨hm, hn⟩, (λ h => by simp at h), λ _ => ⟨⟨0, ⟨rfl, rfl, λ _ => rfl, λ _ => rfl, λ _ => ⟨rfl, rfl, rfl, rfl, rfl⟩⟩, Nat.zero_le _⟩, λ k hk => ⟨λ hlt => ?_, λ hge => ?_⟩⟩⟩
 ·have hlt : k < c.ns.length := by omega
  refine ⟨by omega, k + 1, ⟨(HH (by omega)).symm, λ n => ?_, λ n => rfl, λ n => ?_⟩, by omega, by omega⟩
  ·rw [mZ hlt, BCQ]
  ·rw [mZ hlt, BSB]
   cases decide (n = (gD c.ns k).mi) <;> exact ⟨rfl, rfl, rfl, rfl, rfl⟩
 ·obtain rfl : k = c.ns.length := by omega
  simp [AT]
theorem eS : AR Try.prog VE (C_open.spec dC1) := Jp C_open BFW [(0, 201), (1, 202)] [] BEQ (λ _ => by kernel_rfl) (λ _ => AC BIZ AL) (λ c h => CKM c h) (λ _ => Mi rfl rfl) _
theorem oE : AR Try.prog VE (C_openX.spec dC1) := Jp C_openX BFW [] [] BEQ (λ _ => by kernel_rfl) (λ _ => AC BIZ AL) (λ (c : Cht) h => by
 obtain ⟨⟨hm, hn⟩, h0⟩ : (c.ms.length < 4611686018427387904 /\ c.ns.length < 4611686018427387904) /\ BF c ≠ 0 := h
 have h0' : (BF c != 0) = true := by simpa using h0
 show BPU c; rw [BUP]<;> delta MF Sw BU CO FM TP WF FQ FP CL AK CA DD AU BW FX WN KZ KB XF NR IV HC HA HZ ID IA JD GN FW FY GY Ea WW JY PY BCH AZT BI NH MG YE BER AI BG DV EN GF AN BO BK CG BJ BB BY AO AM HS FZ BL BV ED CS GS CD IW CJ CX DM AZ IY CR CY DP EU CV DH BA AW HD DQ GJ GG EA EI HY DG BD FS EJ FU KR BE EH ER OZ EY FR DI BZ IE MN GC HI KP EF DU EO GI DS BC XD FH HQ GR JG HR KU GO FI FT JU TL JX IR GD JH VO OT BT LV MK DK DO OG BR DC DF IL IP IS IM JZ EL CH MX Yy ME NF OF Cm KD Nz BS OH CU PN EW BP bU EX HF OI JP CF IG NV PK UW IH JL ABR NQ WM pU kO SU XZ UT UN XM Ex Uq Nf Nh Jq Yh; simp only [CC, eq_self, implies_true, forall_const, EB, h0']
 simp [hm, hn]) (λ _ => Mi rfl rfl) _
def Yu (m : Int) : Int -> List Int -> Bool
 | _, [] => true
 | a, g :: r => bif Fw g (wr (a + 1)) (wr (m - 2)) then Yu m g r else false
def W0 (m : Int) : Int -> List Int -> (Nat -> Bool) -> Nat -> Bool
 | _, [], f, j => f j
 | a, g :: r, f, j => bif Fw g (wr (a + 1)) (wr (m - 2)) then W0 m g r (λ i => bif decide (i = g.toNat) then true else f i) j else f j
structure DkZ where
 w : Dk
 z : List Int
def stD (a : DkZ) : Dk := ⟨a.w.c, a.w.st, W0 a.w.c.ms.length (-1) a.z a.w.sp⟩
def dDkZ : List AVal -> Heap -> Option (DkZ × List (Nat × Nat) × List Nat)
 | [.bptr id _, y], H => match AGR H id, BPS y H with
  | some (w, q), some (l, f) => some (⟨w, l⟩, [(100, id), (101, q)], f)
  | _, _ => none
 | _, _ => none
structure StK where
 k : Nat
 m : Int
 f : Nat -> Bool
 deriving Inhabited
def stp3 (a : DkZ) : Shape := { α := StK, dflt := default, T := λ s => ⟨[(0, .bptr 100 0), (5, .int s.m), (8, .d (GQ a.z)), (9, .int a.z.length), (10, .int s.k)], dkK ⟨a.w.c, a.w.st, s.f⟩⟩, inv := λ s => (s.k <= a.z.length /\ -1 <= s.m /\ s.m <= 40) /\ Yu a.w.c.ms.length s.m (a.z.drop s.k) = Yu a.w.c.ms.length (-1) a.z /\ ∀ j, W0 a.w.c.ms.length s.m (a.z.drop s.k) s.f j = W0 a.w.c.ms.length (-1) a.z a.w.sp j, meas := λ s => a.z.length - s.k }
def C_stop : Ctr := { ro := [101], α := DkZ, xs := λ a => [.bptr 100 0, .d (GQ a.z)], L := λ a => dkL a.w, val := λ a => .bool (Yu a.w.c.ms.length (-1) a.z), keep := λ a => dkK (stD a), pre := λ a => [a.z.length < 4611686018427387904 /\ a.w.c.ms.length <= 40] }
def BWT (a : DkZ) : Ann := { ann 33 [(n_in, s_in)] with E := [100, 101], loops := λ id => if id = 3 then some [stp3 a] else none }
def BXV (a : DkZ) : Prop := DN Try.prog (BWT a) BNV (AP BNV) (C_stop.xs a) (AH (C_stop.L a)) (C_stop.val a) (C_stop.keep a) [] []
abbrev Qj:=StK.m
abbrev DX:=@List.length Int
abbrev VG:=DkZ.z
abbrev DE:=@gD Int Int.instInhabited
abbrev Bd:=StK.k
abbrev Zx:=DkZ.w
abbrev AHE:=StK.f
abbrev KO:=Dk.sp
abbrev AWJ:=@List.drop Int
abbrev Vy:=λ (x0 x1 : Nat) => decide (x0 = x1)
abbrev IK a b:=NK (AQ a) b
abbrev Ep a b c:=AU a (OE b c)
abbrev WQ a b c:=MF a (OO b c)
abbrev XO a b c d:=WQ (OO a b) c d
abbrev KT a:=AQ (Zx a)
abbrev TS a:=AQ (stD a)
abbrev Hz a b c:=BK a 40 (MF b c)
abbrev kD a:=ZY (KT a)
abbrev kX a b c:=Yu (kD a) b c
abbrev ZU a b (c:Nat->Prop):=AI a b (AK c)
abbrev Bf a:=BI (λ i=>ED (OO a i))
abbrev UR a (b:Nat->Prop) (c:Int->Prop) (d:Int->Nt):=OH a (λ i=>EL i a) a (λ i=>BS i a) b BC (Bf a) c (λ i=>NA (d i))
abbrev QQ a b:=AM (OE a b)
abbrev VX a (b:Nat->Prop) c (d:Int->Nt):=UR a b (λ i=>QQ c i) d
abbrev lP a b:=DE (VG a) b
abbrev SZ a:=BW (DX a)
abbrev LU a b c:=BK a (DX b) c
abbrev TK a b c:=LU a b (AM c)
abbrev Ke a:=BV (DX a)
abbrev NT a b:=MG (Nat.succ a) b
attribute [go_sem] Qj DX VG DE Bd Zx AHE KO AWJ Vy IK Ep WQ XO KT TS Hz kD kX ZU Bf UR QQ VX lP SZ LU TK Ke NT
theorem CBT (a : DkZ) : (BXV a) = (And ((@Exists StK) (λ i=>BQ (AI (AU (Qj i) (-1)) (Ke (VG a)) (HQ (λ j=>TK j (VG a) (lP a j)) (AM (SZ (VG a))) (CF (Bd i)) (BA (KT a)) (AZ (KT a)) (BE (KT a)) (BD (KT a)) (AW (KT a)) (VX (KT a) (λ j=>Hz j (AHE i j) (KO (Zx a) j)) (Zx a) (λ j=>IK (Zx a) j)))) (XQ (GM (Bd i) (DX (VG a))) (KZ (-1) (Qj i)) (Qj i) 40) (MF (kX a (Qj i) (AWJ (Bd i) (VG a))) (kX a (-1) (VG a))) (AK (λ j=>MF (W0 (kD a) (Qj i) (AWJ (Bd i) (VG a)) (AHE i) j) (W0 (kD a) (-1) (VG a) (KO (Zx a)) j))))) ((λ (f : StK -> Prop) => ∀ (x : StK), f x) (λ i=>CU (ZU (XQ (GM (Bd i) (DX (VG a))) (KZ (-1) (Qj i)) (Qj i) 40) (MF (kX a (Qj i) (AWJ (Bd i) (VG a))) (kX a (-1) (VG a))) (λ j=>MF (W0 (kD a) (Qj i) (AWJ (Bd i) (VG a)) (AHE i) j) (W0 (kD a) (-1) (VG a) (KO (Zx a)) j))) (Bd i) (SZ (VG a)) (IH (Bd i) (DX (VG a)) (FX (not (Fw (lP a (Bd i)) (EY (Qj i)) (KY (kD a) 2))) (CM (HF (kX a (-1) (VG a))) (PC (TS a) (KT a)) (OX (TS a) (KT a)) (PR (TS a) (KT a)) (PO (TS a) (KT a)) (PH (TS a) (KT a)) (OG (RP (TS a) (KT a)) (λ j=>RO j (TS a) j (KT a) j j) (RR (TS a) (KT a)) (λ j=>FV j (TS a) (CR (KT a) j) (DQ (KT a) j) (BG (KT a) j) (WR (TS a) j (KT a) j) (WA (TS a) j (KT a) j)) (λ j=>Hz j (KO (stD a) j) (AHE i j)) BC (BI (λ j=>XO (TS a) j (KT a) j)) (λ j=>Ep (OE (stD a) j) (Zx a) j) (λ j=>MM (IK (stD a) j) (IK (Zx a) j)))) (And (KD (lP a (Bd i)) (KB (lP a (Bd i)) 40) (NT (JW (lP a (Bd i))) 40)) ((@Exists StK) (λ j=>DC (AI (AU (Qj j) (lP a (Bd i))) (Ke (VG a)) (HQ (λ k=>TK k (VG a) (lP a k)) (AM (SZ (VG a))) (BT (Bd j) (Bd i)) (BA (KT a)) (AZ (KT a)) (BE (KT a)) (BD (KT a)) (AW (KT a)) (VX (KT a) (λ k=>Hz k (AHE j k) (Gm (Vy k (JW (lP a (Bd i)))) (AHE i k))) (Zx a) (λ k=>IK (Zx a) k)))) (ZU (XQ (GM (Bd j) (DX (VG a))) (KZ (-1) (Qj j)) (Qj j) 40) (MF (kX a (Qj j) (AWJ (Bd j) (VG a))) (kX a (-1) (VG a))) (λ k=>MF (W0 (kD a) (Qj j) (AWJ (Bd j) (VG a)) (AHE j) k) (W0 (kD a) (-1) (VG a) (KO (Zx a)) k))) (DX (VG a)) (Bd j) (Bd i)))))) (CM (GX (kX a (-1) (VG a))) (PC (TS a) (KT a)) (OX (TS a) (KT a)) (PR (TS a) (KT a)) (PO (TS a) (KT a)) (PH (TS a) (KT a)) (OG (RP (TS a) (KT a)) (λ j=>RO j (TS a) j (KT a) j j) (RR (TS a) (KT a)) (λ j=>FV j (TS a) (CR (KT a) j) (DQ (KT a) j) (BG (KT a) j) (WR (TS a) j (KT a) j) (WA (TS a) j (KT a) j)) (λ j=>Hz j (KO (stD a) j) (AHE i j)) BC (BI (λ j=>XO (TS a) j (KT a) j)) (λ j=>Ep (OE (stD a) j) (Zx a) j) (λ j=>MM (IK (stD a) j) (IK (Zx a) j))))))) := by kernel_rfl
theorem BAJ (a : DkZ) : (stD a).c = a.w.c := rfl
theorem CKW (a : DkZ) (h : a.z.length < 4611686018427387904 /\ a.w.c.ms.length <= 40) : BXV a := by
 obtain ⟨hz, hm⟩ := h
 rw [CBT]<;> delta MF Sw BU CO FM TP WF Ua FQ FP CL AK CA DD AU BW GM FX WN KZ KB XF NR IV HC HA HZ ID IA JD GN FW FY PB JW PY BI NH MG AQ OE Qj DX VG DE Bd Zx AHE KO AWJ Vy AI BG DV AN BO BK CG BJ BB BY AO AM BL BV ED NK CS CD CJ CX DM AZ IY CR DP EU DH BA AW HD DQ GG EA LU EI HY DG BD FS FU IK KR BE EH ER TS EY FR OO DI BZ IE HM MN KP EF DU EO BC KY HQ HR GX KU GO FI LC TL Bf LD JX KT LG NL ZY VO BQ OT BT LV MK LR OG DC EL MX OC NF Ke RC CM QA OF KD WQ SZ MM BS QQ OH CU SY TK NA EW JK GV HF FV UR VX CF Gm IH NT kD Hg Gg PC PH Hn PO OX PR RP RR XO WA WR XQ Gv ZU lP RO Hz kX Ep; simp only [CC, eq_self, implies_true, forall_const, BAJ]
 have e2 : IntKind.i64.wrap ((a.w.c.ms.length : Int) - 2) = (a.w.c.ms.length : Int) - 2 := PE (by omega) (by omega)
 refine ⟨⟨⟨0, -1, a.w.sp⟩, ⟨rfl, rfl, λ _ _ => rfl⟩, ⟨Nat.zero_le _, by show (-1 : Int) <= -1; omega, by show (-1 : Int) <= 40; omega⟩, rfl, λ _ => rfl⟩, λ s ⟨⟨s1, s2, s3⟩, s4, s5⟩ => ⟨λ hlt => ?_, λ hge => ?_⟩⟩
 ·have hlt : s.k < a.z.length := by omega
  have hd := BQF hlt
  rw [hd] at s4 s5
  have e1 : IntKind.i64.wrap (s.m + 1) = s.m + 1 := PE (by omega) (by omega)
  refine ⟨by omega, λ h1 => ⟨?_, λ j _ => ?_, λ _ => rfl⟩, λ h1 => ?_⟩
  ·rw [<- s4]; unfold Yu wr; rw [h1]; rfl
  ·show W0 _ _ _ _ j = _
   rw [<- s5 j]; unfold W0 wr; rw [h1]; rfl
  ·have h2 := h1
   rw [e1, e2] at h2
   simp only [Fw, Bool.and_eq_true, decide_eq_true_eq] at h2
   refine ⟨by omega, ⟨s.k + 1, gD a.z s.k, λ i => bif decide (i = (gD a.z s.k).toNat) then true else s.f i⟩, ⟨rfl, (HH (by omega)).symm, λ _ _ => rfl⟩, ⟨⟨by show s.k + 1 <= _; omega, by show -1 <= gD a.z s.k; omega, by show gD a.z s.k <= 40; omega⟩, ?_, λ j => ?_⟩, by show a.z.length - (s.k + 1) < _; omega⟩
   ·rw [<- s4]; conv => rhs; unfold Yu wr
    rw [h1]; rfl
   ·rw [<- s5 j]; conv => rhs; unfold W0 wr
    rw [h1]; rfl
 ·rw [List.drop_of_length_le (by omega)] at s4 s5
  exact ⟨s4.symm, λ j _ => (s5 j).symm, λ _ => rfl⟩
theorem AXS : AR Try.prog BBS (C_stop.spec dDkZ) := Jp C_stop BWT [] [] CEJ (λ _ => by kernel_rfl) (λ _ => AC BDP AL) (λ a h => CKW a h) (λ _ => Mi rfl rfl) _
structure CZ where
 c : Cht
 z : List Int
def dCZ : List AVal -> Heap -> Option (CZ × List (Nat × Nat) × List Nat)
 | [x, y], H => match AVK x H, BPS y H with
  | some (c, f), some (l, e) => some (⟨c, l⟩, [], f ++ e)
  | _, _ => none
 | _, _ => none
def xCZ (a : CZ) : List AVal := [.d (Rc a.c), .d (GQ a.z)]
def WL (a : CZ) : Dk := stD ⟨AT a.c, a.z⟩
def okZ (a : CZ) : Bool := Yu a.c.ms.length (-1) a.z
def begE (a : CZ) : Int := bif BF a.c == 0 then bif okZ a then 0 else 2 else BF a.c
def C_beg : Ctr := { α := CZ, xs := xCZ, val := λ a => .tup [.bptr 0 0, .int (begE a)], keep := λ a => dkN (WL a), pre := λ a => [(a.c.ms.length < 4611686018427387904 /\ a.c.ns.length < 4611686018427387904 /\ a.z.length < 4611686018427387904) /\ BF a.c = 0] }
def C_begX : Ctr := { α := CZ, xs := xCZ, val := λ a => .tup [.d (.v (.pointer none)), .int (begE a)], keep := λ _ => [], pre := λ a => [(a.c.ms.length < 4611686018427387904 /\ a.c.ns.length < 4611686018427387904 /\ a.z.length < 4611686018427387904) /\ BF a.c ≠ 0] }
def CHA : Ann := { ann 23 [(VE, C_open.spec dC1), (BBS, C_stop.spec dDkZ)] with md := λ id => if id = 2 then some λ k => if k = 3 ∨ k = 4 ∨ k = 5 ∨ k = 6 then 8 else 0 else none }
def BXE : Ann := { ann 23 [(VE, C_openX.spec dC1)] with md := λ id => if id = 2 then some λ k => if k = 3 ∨ k = 4 ∨ k = 5 ∨ k = 6 then 9 else 0 else none }
def CFE (a : CZ) : Prop := DN Try.prog CHA ANI (AP ANI) (xCZ a) (AH []) (C_beg.val a) (C_beg.keep a) [(0, 2016), (1, 2017)] []
abbrev OB:=CZ.c
abbrev NJ:=@HX Int
abbrev Yl:=begE
abbrev Le:=WL
abbrev mR a b c d:=AN a b c a d
abbrev Ic a b c:=MM a (Dp b c)
abbrev Lh a b:=BG (OB a) b
abbrev Kg a:=GF (OB a) (λ i=>Lh a i)
abbrev Na a b c:=IW (OB a) (OB b) (OB b) (Kg c)
abbrev MZ a:=Na a a a
abbrev IN a:=AQ (Le a)
abbrev Vk a:=AY (MZ a)
abbrev uA a b:=stD (DkZ.mk a b)
abbrev XE a b (c:Nat->Nat):=NJ a (λ i=>DE b (c i))
abbrev UZ a b:=XE (DX a) b (λ i=>i)
abbrev XC a:=UZ (CZ.z a) (CZ.z a)
abbrev R8 a b c:=Dk.mk a (OE b) (KO c)
abbrev AXY a b c:=R8 a (AT b) c
abbrev APH a:=CV (AY a)
abbrev BAN a b:=AXY (APH a) b (AT b)
abbrev AIY a:=BAN (MZ a) (MZ a)
abbrev BDU a b:=TS (DkZ.mk a b)
abbrev MR a:=BDU (AIY a) (XC a)
abbrev PA a:=GM (CY a) 40
abbrev Fs a b:=ntOf (HS a) b
abbrev Zu a b:=Fs (AY a) b
abbrev jF a b:=AM (Mw a b)
abbrev KF a:=BI (λ i=>jF a i)
abbrev Ac a b:=NH (HS a) b
abbrev WG a b c d:=WQ (Ac a b) c d
abbrev EV a:=BI (λ i=>WG a i a i)
abbrev KE a:=AW (AY a)
abbrev HV a:=BD (AY a)
abbrev OD a:=BE (AY a)
abbrev KG a:=AZ (AY a)
abbrev KH a:=BA (AY a)
abbrev PP a b c d:=LU a b (AU c d)
abbrev QC a b c d e:=PP a b (DE c d) e
abbrev NG a b c d e f:=QC a b c d (DE e f)
abbrev PL a b c d:=NG a b b a c d
abbrev QX a b c:=PL a b c a
abbrev GB a b:=AK (λ i=>QX i a b)
abbrev GU a b:=CL (DX a) b
abbrev EM a b:=GU a (DX b)
abbrev MH a:=EM (XC a) (CZ.z a)
abbrev GP:=ED PB
abbrev Es a:=Ea (MZ a)
abbrev XW a b:=And (ME a) b
abbrev Kq a:=GN (Kg a)
abbrev ZO a:=DS (Kq a)
abbrev VY a b c d:=VQ a (Kq b) c d c d
abbrev Mo a b:=FY (Kg a) b
abbrev TC a b c d e f:=VY a b (Mo c d) (Lh e f)
abbrev UU a b:=CL a (BB b)
abbrev TA a b:=UU (Kq a) b
abbrev ZJ a b:=TA a (OB b)
attribute [go_sem] OB NJ Yl Le mR Ic Lh Kg Na MZ IN Vk uA XE UZ XC R8 AXY APH BAN AIY BDU MR PA Fs Zu jF KF Ac WG EV KE HV OD KG KH PP QC NG PL QX GB GU EM MH GP Es XW Kq ZO VY Mo TC UU TA ZJ
theorem CKO (a : CZ) : (CFE a) = (AI (UT (OB a) (ZJ a a) (λ i=>TC i a a i a i) (XW (OB a) (ZO a)) (DK (Es a))) GP (mR GP GP (CE (MH a) (GB (XC a) (CZ.z a)) (KH (MZ a)) (KG (MZ a)) (OD (MZ a)) (KM (HV (MZ a)) (KE (MZ a)) (BR (Vk a)) (CW (Vk a)) (DF (Vk a)) (MY (Vk a)) Cm BC (AO (EV (Vk a)) (KF (MZ a)) (BI (λ i=>Ic (Zu (MZ a) i) (MZ a) i)) BC (BI (λ i=>XO (Vk a) i (MR a) i)) (BI (λ i=>Ep (Mw (MZ a) i) (uA (AIY a) (XC a)) i)) (BI (λ i=>Ol (MZ a) i (IK (uA (AIY a) (XC a)) i))) (DS (DX (XC a))) (PA (Vk a))))) (FX (II ((@BEq.beq Nat (@instBEqOfDecidableEq Nat instDecidableEqNat)) 0 0) (not (Yu (Ph (Vk a)) (-1) (XC a)))) (CM (AU (Yl a) 2) (PC (IN a) (MR a)) (OX (IN a) (MR a)) (PR (IN a) (MR a)) (PO (IN a) (MR a)) (PH (IN a) (MR a)) (OG (RP (IN a) (MR a)) (λ i=>RO i (IN a) i (MR a) i i) (RR (IN a) (MR a)) (λ i=>FV i (IN a) (CR (MR a) i) (DQ (MR a) i) (BG (MR a) i) (WR (IN a) i (MR a) i) (WA (IN a) i (MR a) i)) (λ i=>Hz i (KO (Le a) i) (KO (uA (AIY a) (XC a)) i)) BC (BI (λ i=>XO (IN a) i (Vk a) i)) (λ i=>AU (OE (Le a) i) (Mw (MZ a) i)) (λ i=>Ic (NK (IN a) i) (MZ a) i))) (CM (DK (Yl a)) (PC (IN a) (MR a)) (OX (IN a) (MR a)) (PR (IN a) (MR a)) (PO (IN a) (MR a)) (PH (IN a) (MR a)) (OG (RP (IN a) (MR a)) (λ i=>RO i (IN a) i (MR a) i i) (RR (IN a) (MR a)) (λ i=>FV i (IN a) (CR (MR a) i) (DQ (MR a) i) (BG (MR a) i) (WR (IN a) i (MR a) i) (WA (IN a) i (MR a) i)) (λ i=>Hz i (KO (Le a) i) (KO (uA (AIY a) (XC a)) i)) BC (BI (λ i=>XO (IN a) i (Vk a) i)) (λ i=>AU (OE (Le a) i) (Mw (MZ a) i)) (λ i=>Ic (NK (IN a) i) (MZ a) i)))))) := by kernel_rfl
def BWX (a : CZ) : Prop := DN Try.prog BXE ANI (AP ANI) (xCZ a) (AH []) (C_begX.val a) [] [] []
abbrev dN a b c d:=AN a b a c d
abbrev BJE a b c:=dN a a b c
abbrev TI a b c d:=FX a (And b c) d
abbrev TY a:=Ye a 0
abbrev KQ a b:=CA (GX a) b
abbrev OY a:=(@Ne Int) a 0
attribute [go_sem] dN BJE TI TY KQ OY
theorem CCK (a : CZ) : (BWX a) = (AI (UT (OB a) (ZJ a a) (λ i=>TC i a a i a i) (XW (OB a) (ZO a)) (OY (Es a))) (HF (TY (Es a))) (BJE (HF (TY (Es a))) (KQ (TY (Es a)) (GX Sw)) (TI (II (TY (Es a)) Sw) Yh (AU (Yl a) 2) (And Yh (AU (Yl a) (Es a)))))) := by kernel_rfl
theorem J2 (a : CZ) : (WL a).c = a.c := rfl
theorem Ts (w : Dk) : Dk.mk w.c w.st w.sp = w := rfl
theorem QE {c : Cht} (h : BF c = 0) : Sd c = 0 /\ (1 <= c.ms.length /\ c.ms.length <= 40) /\ c.ns.length <= 20 := by
 have h1 : Sd c = 0 := by
  unfold BF at h
  cases hc : (Sd c != 0) with
  | false => simpa using hc
  | true => rw [hc] at h; simpa using h
 refine ⟨h1, ?_⟩
 unfold Sd at h1
 cases hc : (bif !Fw c.ms.length 1 40 then true else decide ((c.ns.length : Int) > 20)) with
 | true => rw [hc] at h1; cases h1
 | false =>
  cases hb : Fw c.ms.length 1 40 with
  | false => rw [hb] at hc; cases hc
  | true =>
   rw [hb] at hc
   have hc : decide ((c.ns.length : Int) > 20) = false := hc
   simp only [Fw, Bool.and_eq_true, decide_eq_true_eq, decide_eq_false_iff_not] at hb hc
   omega
theorem CLG (a : CZ) (h : (a.c.ms.length < 4611686018427387904 /\ a.c.ns.length < 4611686018427387904 /\ a.z.length < 4611686018427387904) /\ BF a.c = 0) : CFE a := by
 obtain ⟨⟨hm, hn, hz⟩, h0⟩ := h
 have hl := QE h0
 rw [CKO]<;> delta MF Sw BU CO FM FQ FP CL AK CA DD AU BW GM FX IV HC HA HZ ID IA JD GN FW FY PB Ea PY BI NH AQ OE DX DE KO OB NJ Yl Le AI BG AY DV EN GF AN IN BO XE BK Lh CG BJ BB BY AO AM HS FZ BL ED mR UZ NK CS GS CD IW CJ CX DM AZ CR CY Dp DP EU Kg XC CV DH BA AW Fs DQ GJ EA LU EI HY DG Na BD EJ FU IK GU R8 APH BE EH ER TS AXY OZ OO EM HM GC HI EF BDU GI DS BC XD FH GR JG HR MZ BAN PP FI LC FT JU TL Mo JX QC IR KM Ac GD NL JH VO Mw NG DK DO LR OG Zu BR DF IL IP IS IM JZ PL QX CH OC ME RC CM Cm OD Kq WQ CE MM CW HV SY KE KH JK BP KG GV GP II AIY WG jF KF FV GB EV MR NV UU PA ZO TA PJ MY XW Hg uA Gg PC PH MH TN Hn VQ PO OX PR RP RR Vk VY UT Es XO Ic WA WR ZJ Gv TC Ol RO Hz Ep Ph; simp only [CC, eq_self, implies_true, forall_const, EB, zJ, Ts, BAJ, J2]
 have e : begE a = bif okZ a then 0 else 2 := by unfold begE; rw [h0]; rfl
 have e2 : Yu a.c.ms.length (-1) a.z = okZ a := rfl
 have e3 : stD ⟨AT a.c, a.z⟩ = WL a := rfl
 simp only [e, e2, e3, J2]
 have e4 : ∀ n, (AT a.c).st n = (WL a).st n := λ _ => rfl
 cases okZ a <;> simp [hm, hn, hz, h0, hl.2.1.2, e4] <;> exact ⟨λ _ => rfl, λ _ _ => rfl⟩
theorem BVJ : AR Try.prog ANO (C_beg.spec dCZ) := Jp C_beg (λ _ => CHA) [(0, 2016), (1, 2017)] [] BJS (λ _ => by kernel_rfl) (λ _ => AC eS (AC AXS AL)) (λ a h => CLG a h) (λ _ => Mi rfl rfl) _
theorem CBH : AR Try.prog ANO (C_begX.spec dCZ) := Jp C_begX (λ _ => BXE) [] [] BJS (λ _ => by kernel_rfl) (λ _ => AC oE AL) (λ (a : CZ) h => by
 obtain ⟨⟨hm, hn, hz⟩, h0⟩ : (a.c.ms.length < 4611686018427387904 /\ a.c.ns.length < 4611686018427387904 /\ a.z.length < 4611686018427387904) /\ BF a.c ≠ 0 := h
 have h0' : (BF a.c == 0) = false := by simpa using h0
 have e : begE a = BF a.c := by unfold begE; rw [h0']; rfl
 show BWX a; rw [CCK]<;> delta MF Sw BU CO FM FQ FP CL AK CA DD AU FX IV HC HA HZ ID IA JD GN FW FY Ye PB Ea PY OB Yl AI BG DV EN GF AN BO BK Lh CG BJ BB BY AO AM FZ BL dN BJE CS CD IW CJ CX DM AZ CY DP EU Kg DH BA AW GJ EA EI DG Na BD BE EH ER HM GC EF GI DS FH GR GX MZ FI LC Mo JX GD NL DO BR CH ME Kq KQ HF II NV TY UU ZO TA PJ XW TN VQ OY VY UT Es TI ZJ TC Yh; simp only [CC, eq_self, implies_true, forall_const, EB, h0', e]
 simp [hm, hn, h0]) (λ _ => Mi rfl rfl) _
end Go.Bal
