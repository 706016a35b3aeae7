/- Package chart: stages. -/
import Derived.Test.YtdbjalgfomknhaaGreatChB
import Derived.Test.YtdbjalgfomknhaaGreatSym12
set_option linter.unusedVariables false
set_option linter.unusedSimpArgs false
namespace Go.Bal
open Go Go.Sym Go.Proofs
def atM (c : Cht) (k : Int) : Int := wr (c.base + wr (c.scale * (gD c.ms k.toNat).ht))
def st0 (c : Cht) (k : Int) : Span := ⟨wr (atM c k - c.off), wr (atM c k + c.off)⟩
def Dv (c : Cht) (k : Int) : Span := bif hasN c.ns k then bK (st0 c k) (ntOf c.ns k).s else st0 c k
structure DkI where
 w : Dk
 k : Int
def dDkI : List AVal -> Heap -> Option (DkI × List (Nat × Nat) × List Nat)
 | [.bptr id _, .d k], H => match tE H id with
  | some (w, q) => some (⟨w, HK k⟩, [(100, id), (101, q)], [])
  | none => none
 | _, _ => none
def C_stg : Ctr := { ro := [100, 101], α := DkI, xs := λ a => [.bptr 100 0, .int a.k], L := λ a => dkL a.w, val := λ a => .d (IL (Dv a.w.c a.k)), keep := λ a => dkK a.w, pre := λ a => [0 <= a.k /\ a.k < a.w.c.ms.length] }
def BNO : Ann := { ann 61 [(fK, C_com.spec AOC)] with E := [100, 101] }
def BRB (a : DkI) : Prop := CH Try.prog BNO AFS (AH AFS) (C_stg.xs a) (AB (C_stg.L a)) (C_stg.val a) (C_stg.keep a) [] []
abbrev Zm:=DkI.k
abbrev Ri:=@HMul.hMul Int Int Int (@instHMul Int Int.instMul)
abbrev Cm:=Span.mk
abbrev FX a b c d e f g h:=AO a b c (AF d e f g h)
abbrev KZ a b:=NE a 40 (JO b a)
abbrev LQ a:=AD (λ i=>KZ i a)
abbrev MC a (b:Nat->Prop) c (d:Nat->Prop) e (f:Int->Prop) g:=OI a b c d (LQ e) BT f e g
abbrev TG a b c:=MC (BX a) (λ i=>DX i a) (CG a) (λ i=>BK i a) b (λ i=>VU a i) c
abbrev XM a b c:=TG a b (KQ c)
abbrev SG a b:=XM a b a
abbrev Ek a:=AL (DkI.w a)
abbrev bR a:=HJ (Ek a)
abbrev dL a b:=HQ (Ri a b)
abbrev nI a b c:=FS a (dL b c)
abbrev P7 a b:=nI (HP a) (HN a) (CP a (FY b))
abbrev bQ a b:=P7 (Ek a) (Zm b)
abbrev KD a b c d e:=HT a b c d (XM d e d)
abbrev Ps a b:=comM (SL.mk a b)
abbrev Bb a:=Ef 1 (λ i=>a)
abbrev Nc a:=DJ a a
abbrev MG:=Nc 1
abbrev JU a b:=BW (ED a) b
attribute [go_sem] Zm Ri Cm FX KZ LQ MC TG XM SG Ek bR dL nI P7 bQ KD Ps Bb Nc MG JU
theorem BUV (a : DkI) : (BRB a) = (AE (CD (Zm a) (BB (Ek a))) (NY (Value.agg (ABR (jP (bC (bC AFL))))) gH) (EK (OK (Ek a) (Zm a)) (KD (EW (AG (GI (bQ a a) (bR a))) (AG (FS (bQ a a) (bR a))) (JU (Bb (OT (Ek a) (Zm a))) 1) MG (AD (λ i=>EY i (Bb (OT (Ek a) (Zm a))) (OT (Ek a) (Zm a)))) GF) (BN (Dv (Ek a) (Zm a)) (Ps (Cm (GI (bQ a a) (bR a)) (FS (bQ a a) (bR a))) (Bb (OT (Ek a) (Zm a))))) (AX (Dv (Ek a) (Zm a)) (Ps (Cm (GI (bQ a a) (bR a)) (FS (bQ a a) (bR a))) (Bb (OT (Ek a) (Zm a))))) (Ek a) (DkI.w a)) (FX (BP (Dv (Ek a) (Zm a)) (GI (bQ a a) (bR a))) (AY (Dv (Ek a) (Zm a)) (FS (bQ a a) (bR a))) (AQ (Ek a)) (AT (Ek a)) (AP (Ek a)) (AS (Ek a)) (AV (Ek a)) (SG (Ek a) (DkI.w a))))) := by kernel_rfl
theorem BWZ (a : DkI) (h : 0 <= a.k /\ a.k < a.w.c.ms.length) : BRB a := by
 rw [BUV]<;> delta KH BG BJ EC MM NO Hc ES ET BW ED AD BU CL AR GK BZ DJ EK HO KB NL EJ GW EX HP HN HJ GT GB HC DU GG FE Ef JL FY NY ABR AFL EU MP AL JO Zm Ri Cm AE CR BB AF AY AU RA AG BC FD Nc AX BM CJ AK AN DD BH BY BP CX BN CY BS CE HQ QX AV AQ EV DW AZ CP AS OT FS DM AP AT CN BX NE GI HD CG GP OK FH AO DC BT UR CD NF JY KZ VU PZ GJ LQ LI DX SV JU Ek OI dL EW BK JF GF KQ EY MC FX nI TD Ln MG HT TG XM Bb aE SG KD jP bC bR P7 Ps bQ; simp only [CC, eq_self, implies_true, forall_const]
 cases hq : hasN a.w.c.ns a.k with
 | true =>
  have e : Dv a.w.c a.k = bK (st0 a.w.c a.k) (ntOf a.w.c.ns a.k).s := by unfold Dv; rw [hq]; rfl
  refine ⟨h, rfl, λ _ => ⟨⟨by omega, λ j hj => ?_⟩, ?_, ?_⟩, λ h => by cases h⟩
  ·rw [FF _ _ _ hj]; exact ⟨rfl, rfl⟩
  ·rw [e]; rfl
  ·rw [e]; rfl
 | false =>
  have e : Dv a.w.c a.k = st0 a.w.c a.k := by unfold Dv; rw [hq]; rfl
  refine ⟨h, rfl, (λ h => by cases h), λ _ => ⟨?_, ?_⟩⟩
  ·rw [e]; rfl
  ·rw [e]; rfl
theorem ASH : AJ Try.prog nF (C_stg.spec dDkI) := XP C_stg (λ _ => BNO) [] [] AZL (λ _ => by kernel_rfl) (λ _ => AA ANG AC) (λ a h => BWZ a h) (λ _ => YS rfl rfl) _
def rowS (l : List Span) : AObj := .row 2 l.length λ i => IL (gD l i)
def C4SaO : Ctr := { ro := [100], α := MSa, xs := λ a => [.own 100 2 0 a.l.length, fvSa a.q], L := λ a => [(100, rowS a.l)], val := λ a => .bool (a.l.all Du), keep := λ a => [(100, .live (rowS a.l))], pre := PSa }
def BOE : List AVal -> Heap -> Option (MSa × List (Nat × Nat) × List Nat)
 | [.own id _ _ _, .fn _ _ _], H => match H id with
  | .live (.row _ n g) => some (⟨default, IK n λ i => Ni (g i)⟩, [(100, id)], [])
  | _ => none
 | _, _ => none
def C4SnO : Ctr := { ro := [100], α := MSn, xs := λ a => [.own 100 2 0 a.l.length, fvSn a.q], L := λ a => [(100, rowS a.l)], val := λ a => .bool (a.l.all Du), keep := λ a => [(100, .live (rowS a.l))], pre := PSn }
def BOY : List AVal -> Heap -> Option (MSn × List (Nat × Nat) × List Nat)
 | [.own id _ _ _, .fn _ _ _], H => match H id with
  | .live (.row _ n g) => some (⟨default, IK n λ i => Ni (g i)⟩, [(100, id)], [])
  | _ => none
 | _, _ => none
theorem BSJ : AJ Try.prog n_eS (C4SaO.spec BOE) := okT C4SaO (λ (a : MSa) h => by
 have hf := BNS a h
 refine FnT.lend (fz := [100]) (xs := [.own 100 2 0 a.l.length, fvSa a.q]) (L := [(100, rowS a.l)]) hf rfl ?_ rfl ?_ _ ?_
 ·show [AVal.d (.list 2 a.l.length (λ j => IL (gD a.l (0 + j))) false), _] = _
  simp only [Nat.zero_add]; rfl
 ·show 0 + a.l.length <= a.l.length; omega
 ·exact ⟨rfl, trivial⟩) _
theorem BFU : AJ Try.prog n_eS (C4SnO.spec BOY) := okT C4SnO (λ (a : MSn) h => by
 have hf := BZD a h
 refine FnT.lend (fz := [100]) (xs := [.own 100 2 0 a.l.length, fvSn a.q]) (L := [(100, rowS a.l)]) hf rfl ?_ rfl ?_ _ ?_
 ·show [AVal.d (.list 2 a.l.length (λ j => IL (gD a.l (0 + j))) false), _] = _
  simp only [Nat.zero_add]; rfl
 ·show 0 + a.l.length <= a.l.length; omega
 ·exact ⟨rfl, trivial⟩) _
def Eg (c : Cht) : List Span := IK c.ms.length λ i => Dv c (i : Int)
def ZV (c : Cht) : Bool := (Eg c).all Du
def Ze : List AVal -> Heap -> Option (Dk × List (Nat × Nat) × List Nat)
 | [.bptr id _], H => match tE H id with
  | some (w, q) => some (w, [(100, id), (101, q)], [])
  | none => none
 | _, _ => none
def C_all : Ctr := { ro := [100, 101], α := Dk, xs := λ _ => [.bptr 100 0], L := λ w => dkL w, val := λ w => .tup [.d (DE (Eg w.c)), .bool (ZV w.c)], keep := λ w => dkK w, pre := λ w => [1 <= w.c.ms.length /\ w.c.ms.length <= 40] }
def al3n (w : Dk) : Shape := { α := One, dflt := default, T := λ _ => ⟨[(0, .bptr 100 0), (4, .d Jn), (11, .int w.c.ms.length), (12, .int 0)], dkK w⟩, inv := λ _ => True, meas := λ _ => 50 }
def al3o (w : Dk) : Shape := { α := Nat, dflt := 0, T := λ k => ⟨[(0, .bptr 100 0), (4, .own 202 2 0 k), (11, .int w.c.ms.length), (12, .int k)], dkK w ++ [(202, .live (.row 2 k λ i => IL (Dv w.c (i : Int))))]⟩, inv := λ k => 1 <= k /\ k <= w.c.ms.length, meas := λ k => 40 - k, again := [(202, 6080)] }
def BQB (w : Dk) : Ann := { ann 25 [(nF, C_stg.spec dDkI), (n_eS, orS (C4SaO.spec BOE) (C4Sa.spec d4Sa))] with E := [100, 101], mt := λ id => id == 5, loops := λ id => if id = 3 then some [al3n w, al3o w] else none }
def BQR (w : Dk) : Prop := CH Try.prog (BQB w) BCF (AH BCF) (C_all.xs w) (AB (C_all.L w)) (C_all.val w) (C_all.keep w) [] [202]
abbrev Rm:=@Exists One
abbrev Fx:=λ (f : One -> Prop) => ∀ (x : One), f x
abbrev Dh:=Eg
abbrev Mr:=ZV
abbrev En:=@HMul.hMul Nat Nat Nat (@instHMul Nat instMulNat)
abbrev jV:=λ (x0 x1 : Nat) => decide (x0 < x1)
abbrev IG a b (c:Nat->Prop):=AE a b (AD c)
abbrev OE a:=AV (AL a)
abbrev OD a:=AS (AL a)
abbrev NT a:=AP (AL a)
abbrev LR a:=AT (AL a)
abbrev LZ a:=AQ (AL a)
abbrev UY a:=uS a Du
abbrev Hh a b:=KH a (UY b)
abbrev Gz a b:=Dv a (BZ b)
abbrev Ay a b:=Gz (AL a) b
abbrev Uc a b:=GK (Dh a) b
abbrev QK a b:=DJ (BV a) b
abbrev LC a:=QK a a
abbrev AI:=BC 0
abbrev VW a:=And AI a
abbrev QF a b:=AE a a b
abbrev Lw a b c:=And a (DJ b c)
abbrev PH a:=DJ 1 a
abbrev NA a b:=Lw (PH a) a b
abbrev Pu a:=BB (AL a)
abbrev TO a (b:Nat->Prop) c d e (f:Int->Prop) g h:=PZ a b (LQ c) BT d e f g h
abbrev WZ a (b:Nat->Prop) c d (e:Int->Prop) f g:=TO a b c d (GJ c) e f g
abbrev VK a b c d e:=BH a b (BP c d) (AY c e)
abbrev JP a b c d:=YM (jV a b) c d
abbrev Bt a b:=BJ (Gz a b)
abbrev Ai a b:=BG (Gz a b)
abbrev DF a:=QC a 1
abbrev PL a b:=BW a (DF b)
abbrev Jx a:=EU (λ i=>VU a i)
abbrev Xe a:=Jx (AL a)
abbrev Qa a:=BX (AL a)
abbrev PM a:=DJ a 140737488355328
abbrev Hd a b:=En (DF a) b
abbrev Bq a:=Hd a 16
abbrev Sv a b:=DJ (DF a) b
abbrev TX a:=Sv a 9223372036854775807
abbrev SN a:=HF ZR a
abbrev NB a:=CL 0 a
abbrev TI:=SN (NB 1)
abbrev YU a b c:=And a (AU 0 b (BC c))
abbrev Es a b:=YU a b 2
abbrev Gk:=Es MG 1
abbrev Cb a b:=Es (BC a) b
abbrev VL a b c d e f g h:=UG a b (ZW c d) (Cs e f) (Cn g h)
abbrev TK a b:=VL a b a b a b a b
abbrev JK a:=EU (λ i=>TK a i)
abbrev VI a b c d:=UL a b (TL c d)
abbrev QG a b:=VI a b a b
abbrev JI a:=EU (λ i=>QG a i)
abbrev RC a:=AD (λ i=>DI i a)
abbrev cY a:=DN (AL a)
abbrev Tq a:=CQ (AL a)
abbrev Sp a:=HL (AL a)
abbrev Lj a:=JU a 0
abbrev xW a b c:=AO a a b c
abbrev Sc:=DT 0
abbrev C5 a b:=Dv (DK a) b
abbrev Yd a:=C5 a 0
abbrev JD a:=BW a 1
abbrev Kg:=GU 0
abbrev YE:=PH 9223372036854775807
abbrev SU a:=BU GF a
abbrev XL:=SU (NB 1)
abbrev ZM a b:=And a (AU 0 0 b)
abbrev Av a:=ZM IH a
abbrev Qb a:=Av (BW 0 a)
abbrev YW:=Qb 2
abbrev Dg a:=GP Lx 0 a
abbrev Np a:=AR a ML
abbrev QQ a:=And a IH
abbrev HI a:=Rm (λ i=>QQ a)
abbrev FW:=AD (λ i=>NE i 0 ZR)
attribute [go_sem] Rm Fx Dh Mr En jV IG OE OD NT LR LZ UY Hh Gz Ay Uc QK LC AI VW QF Lw PH NA Pu TO WZ VK JP Bt Ai DF PL Jx Xe Qa PM Hd Bq Sv TX SN NB TI YU Es Gk Cb VL TK JK VI QG JI RC cY Tq Sp Lj xW Sc C5 Yd JD Kg YE SU XL ZM Av Qb YW Dg Np QQ HI FW
theorem BSZ (w : Dk) : (BQR w) = (IG (HI (VW (KD FW (WW (AL w)) BQ (AL w) w))) (Fx (λ i=>GM IH (JH 0 (IV (AL w))) (AE (Np 0) (LZ w) (AK (LR w) (NT w) (OD w) (OE w) (BO (AL w)) (BL (AL w)) (BE (AL w)) (BI (AL w)) (AK (LQ w) BT (PE (AL w)) (GJ w) (Sp w) (LZ w) (LR w) (NT w) (NZ (OD w) (OE w) (Tq w) (cY w) (DH (AL w)) (RC (AL w)) (λ j=>KZ j w) (AK (JI (AL w)) (GJ w) (JK (AL w)) (Dg (DQ (AL w))) YW Gk XL YE (PM 16)))))) (GN (λ j=>IW (AO AI (JD j) (WW (AL w)) (AK (EO j Kg) (LZ w) (LR w) (NT w) (OD w) (OE w) (Qa w) (JS (AL w)) (WZ (CG (AL w)) (λ k=>BK k (AL w)) w (Xe w) (λ k=>JF (AL w) k) (JD j) (AD (λ k=>BH k j (BN (Ay w k) (Yd (AL w))) (AX (Ay w k) (Yd (AL w)))))))) (NA j (Pu w)) 40 j 50)) (And (xW AI Sc IH) (XA (Lj (Dh (AL w))) (CK (Mr (AL w))) (LZ w) (AF (LR w) (NT w) (OD w) (OE w) (SG (AL w) w)))))) (λ i=>GC (NA i (Pu w)) i (IV (AL w)) (AE (IM i) (LZ w) (AK (LR w) (NT w) (OD w) (OE w) (BO (AL w)) (BL (AL w)) (BE (AL w)) (BI (AL w)) (AK (LQ w) BT (PE (AL w)) (GJ w) (Sp w) (LZ w) (LR w) (NT w) (NZ (OD w) (OE w) (Tq w) (cY w) (DH (AL w)) (RC (AL w)) (λ j=>KZ j w) (AK (JI (AL w)) (GJ w) (JK (AL w)) (FR i (DQ (AL w))) (Cb i i) Gk TI (TX i) (PM (Bq i))))))) (GN (λ j=>EB (AO AI (PL j i) (WW (AL w)) (AK (BD j i) (LZ w) (LR w) (NT w) (OD w) (OE w) (Qa w) (JS (AL w)) (WZ (CG (AL w)) (λ k=>BK k (AL w)) w (Xe w) (λ k=>JF (AL w) k) (PL j i) (AD (λ k=>VK k j (Ay w k) (JP k i (BG (Ay w k)) (Ai (DK (AL w)) i)) (JP k i (BJ (Ay w k)) (Bt (DK (AL w)) i))))))) (NA j (Pu w)) 40 j i)) (AE (VW (QF (JU (Ef i (λ j=>Ay w j)) i) (AF (AD (λ j=>EY j (Ef i (λ k=>Ay w k)) (Ay w j))) (WA i (Ef i (λ j=>Ay w j))) (AD (λ j=>BH j i (BN (Ay w j) (GK (Ef i (λ k=>Ay w k)) j)) (AX (Ay w j) (GK (Ef i (λ k=>Ay w k)) j)))) (DT (ED (Ef i (λ j=>Ay w j)))) IH))) (JU (Dh (AL w)) i) (DC (LC i) (λ j=>LI j (Dh (AL w)) (Uc (AL w) j) (Ay w (BV j))) (Hh (Mr (AL w)) (Ef i (λ j=>Ay w j))) (LZ w) (LR w) (NT w) (OD w) (OE w) (SG (AL w) w))))) := by kernel_rfl
theorem BWV (w : Dk) (h : 1 <= w.c.ms.length /\ w.c.ms.length <= 40) : BQR w := by
 obtain ⟨h1, h2⟩ := h
 rw [BSZ]<;> delta KH ZR BG BJ EC MM NO ES ET BW ED AD BU CL AR GK BZ SC DJ EK JH HO KB NL LO EJ GW EX HP HN HJ GT GB HC DU GG FE JW GN IH Ef uS JL QC NY EU MP YM AL JO Rm Fx Dh Mr En jV AE CR FA BB GA AF AY AU RA AG EM EZ BC FD Nc QF XA AX FC BM CJ AK AN DD BH HX BY BP CX HZ BN CY BS CE HQ QX FU AV DA AQ EV DW AZ LX DQ CP FT AS OT ZW FS DM AP ID AT BV EG CN BX NE CM HD CG GP GU OK DS DF FH HV AO AI DC Cn CK DT BT UR EL FV DK CD xW NF EP HW EO JY IV DB FN FM KZ UV HF VU TL JB DZ ML Uc Cs BD PH EA FQ PZ FR IW NH GJ LQ BE LI DX FO FZ KL NC JS GH SV JU BQ IC LM LB IM OI SY Bi HB BO EB DH CQ BK JF GY CS EE GM GF TV BI KQ BL Gz EY RZ DG MC UL FW GC NB Jx DI SE TD VI YU QQ MG PM DN HI QK LR JP Es RC PE Lw LC HT UM QG UG TN HL JI VL LZ WA SN NA TK TG XM OD SU JD IG JK NT OE Lx PL SG KD Ay ZM UY Gk Sv WW Av TO Hd Lj Dg TI Ai TX WZ Bt XL YE Pu Qb VW NZ VK YW Qa Sc Cb Sp Bq Tq C5 Xe Kg Hh Yd Np cY; simp only [CC, eq_self, implies_true, forall_const, CU]
 refine ⟨⟨default, trivial⟩, ⟨λ h0 => ⟨⟨rfl, by omega, by omega, by omega, by omega, by omega, by omega⟩, 1, ⟨rfl, rfl, rfl, λ i hi => ?_⟩, by omega, by omega⟩, λ h0 => absurd h0 (by omega)⟩, λ k hk => ⟨λ hlt => ⟨⟨by omega, by omega, (λ h => by cases h), by omega, by omega⟩, k + 1, ⟨rfl, (HY (by omega)).symm, rfl, λ i hi => ?_⟩, by omega, by omega⟩, λ hge => ?_⟩⟩
 ·obtain rfl : i = 0 := by omega
  exact ⟨rfl, rfl⟩
 ·by_cases h : i < k
  ·simp [h]
  ·obtain rfl : i = k := by omega
   simp
 ·obtain rfl : k = w.c.ms.length := by omega
  refine ⟨⟨λ i hi => ?_, λ i hi => ?_, by omega⟩, rng_length _ _, by omega, λ j hj => ?_, rfl⟩
  ·rw [FF _ _ _ hi]; exact ⟨rfl, rfl⟩
  ·rw [FF _ _ _ hi]; exact ⟨rfl, rfl⟩
  ·have hj : j < w.c.ms.length := by simpa [Eg] using hj
   unfold Eg; rw [FF _ _ _ hj]; exact ⟨rfl, rfl⟩
theorem AFW : AJ Try.prog AIH (C_all.spec Ze) := XP C_all BQB [] [202] BSC (λ _ => by kernel_rfl) (λ _ => AA ASH (AA (BII BSJ BXL) AC)) (λ w h => BWV w h) (λ _ => YS rfl rfl) _
def nilS : List Span := []
def SR (c : Cht) : List Span × Int := bif AM c == 0 then bif ZV c then (Eg c, 0) else ([], 6) else ([], AM c)
def C_Stages : Ctr := { α := Cht, xs := λ c => [.d (Dj c)], val := λ c => .tup [.d (DE (SR c).1), .int (SR c).2], keep := λ _ => [], pre := λ c => [c.ms.length < 4611686018427387904 /\ c.ns.length < 4611686018427387904] }
def AOK : Ann := ann 24 [(ZZ, C_open.spec kM), (AIH, C_all.spec Ze)]
def AHR : Ann := ann 24 [(ZZ, C_openX.spec kM)]
def AQL (c : Cht) : Prop := CH Try.prog AOK kO (AH kO) (C_Stages.xs c) (AB []) (.tup [.d (DE (bif ZV c then Eg c else [])), .int (bif ZV c then 0 else 6)]) [] [] []
abbrev AQC:=@cond (List Span)
abbrev AOX:=@List.nil Span
abbrev ND a:=BF (DK a)
abbrev II a b:=JU a (ED b)
abbrev cE a b:=QF (Lj a) b
abbrev Ru a b c:=cE a (AR b c)
abbrev XR a b c d e f g h p:=AK a b (AT c) d e f g h p
abbrev MJ a b c d e f g h:=XR a b c d e (AV c) f g h
abbrev QP a:=PH (DQ a)
abbrev Sx a:=KP (DK a)
abbrev Gm a b:=Oa (Ch a) b
attribute [go_sem] AQC AOX ND II cE Ru XR MJ QP Sx Gm
theorem AZD (c : Cht) : (AQL c) = (HU (AQ c) (AT c) (UE c (BO c) c c (Gm c c) (Sx c)) (EW (AQ (ND c)) (AT (ND c)) (AP (ND c)) (AS (ND c)) (AV (ND c)) (OI (BO (ND c)) (λ i=>EE i (ND c)) (BE (ND c)) (λ i=>CS i (ND c)) LG BT (λ i=>RZ (ND c) i) (ZS (DK c)) (MJ (HL (ND c)) (AQ (ND c)) (ND c) (AP (ND c)) (AS (ND c)) (CQ (ND c)) (DN (ND c)) (PZ (DH (ND c)) (λ i=>DI i (ND c)) LG BT (JI (ND c)) (UH (DK c)) (λ i=>TK (ND c) i) (QP (ND c)) (NQ (ND c)))))) (EK (not (Mr (DK (ND c)))) (Ru (AQC (Mr c) (Dh c) AOX) (YM (Mr c) 0 6) 6) (AE (II (AQC (Mr c) (Dh c) AOX) (Dh (DK (ND c)))) (AD (λ i=>EY i (AQC (Mr c) (Dh c) AOX) (Uc (DK (ND c)) i))) (IQ (YM (Mr c) 0 6))))) := by kernel_rfl
def AHH (c : Cht) : Prop := CH Try.prog AHR kO (AH kO) (C_Stages.xs c) (AB []) (.tup [.d (DE nilS), .int (AM c)]) [] [] []
abbrev Sf a:=QF AI a
attribute [go_sem] Sf
theorem ASC (c : Cht) : (AHH c) = (SK (ZP c c (UE c (BO c) c c (Gm c c) (RO (WV c)))) (WV c) (Sf (Hs c (WV c))) JV) := by kernel_rfl
theorem APK : AJ Try.prog xH (C_Stages.spec kM) := okT C_Stages (λ (c : Cht) h => by
 obtain ⟨hm, hn⟩ : c.ms.length < 4611686018427387904 /\ c.ns.length < 4611686018427387904 := h
 by_cases h0 : AM c = 0
 ·have e : C_Stages.val c = .tup [.d (DE (bif ZV c then Eg c else [])), .int (bif ZV c then 0 else 6)] := by
   show AVal.tup [.d (DE (SR c).1), .int (SR c).2] = _
   unfold SR; rw [h0]; cases ZV c <;> rfl
  have hl := IX h0
  rw [e]
  refine Hp (A := AOK) (L := []) (keep := []) (ren := []) (fz := []) AHM (by kernel_rfl) (AA zB (AA AFW AC)) ?_
  show AQL c; rw [AZD]<;> delta KH ZR BG BJ EC ES ET BW ED AD BU CL AR GK DJ EK EJ GW EX HP HN HJ GT GB HC DU GG FE JW PW NY EU MP YM AL ZS Dh Mr AQC AOX AE CR FA BB GA AF BF AY AU RA AG EM EZ FD QF AX FC BM CJ AK AN DD BH HX BY BP CX HZ BN CY BS CE QX FU AV DA AQ EV DW AZ LX DQ CP FT AS OT ZW AP ID AT EG NE CM OK HV DC Cn DT BT UR EL FV DK EP HW JY DB FN FM UV TL Uc Cs PH EA FQ PZ ND NH GJ BE LI FO FZ KL NC GH SV JU IC LM OI SY Bi EW IQ BO DH CQ GY CS EE II TV KP BL EY RZ DG UL HU HM DI SE VI DN LG UM QG UG TN HL JI VL MD TK UH QP NQ Lj XR cE Ch MJ XQ Oa Ru Gm UE Sx; simp only [CC, eq_self, implies_true, forall_const, CU, D1]
  refine ⟨⟨⟨hm, hn⟩, h0⟩, by omega, λ h => ?_, λ h => ?_⟩
  ·rw [h]; exact ⟨rfl, rfl, rfl⟩
  ·rw [h]; exact ⟨rfl, λ _ _ => ⟨rfl, rfl⟩, rfl⟩
 ·have h0' : (AM c == 0) = false := by simpa using h0
  have e : C_Stages.val c = .tup [.d (DE []), .int (AM c)] := by
   show AVal.tup [.d (DE (SR c).1), .int (SR c).2] = _
   unfold SR; rw [h0']; rfl
  rw [e]
  refine Hp (A := AHR) (L := []) (keep := []) (ren := []) (fz := []) AHM (by kernel_rfl) (AA yN AC) ?_
  show AHH c; rw [ASC]<;> delta BG BJ EC ES ET BW AD BU CL AR EK EJ GW EX HP HN HJ GT GB HC DU GG FE JW PW NJ JV Jf AE CR FA BB GA AF AY AU AG EM EZ BC QF AX FC BM CJ AK AN DD BH HX BY BP CX HZ BN CY BS CE FU AV DA AQ AZ LX DQ CP FT AS AP ID AT EG CM HV AI DT EL FV DK EP HW DB FN FM EA FQ BE FO FZ GH IC BO CS EE BL HM HG JZ MD Hs WV Ch Fc RO SK XQ Oa ZP Gm UE Sf; simp only [CC, eq_self, implies_true, forall_const, CU]
  simp [hm, hn, h0, nilS]) _
end Go.Bal
