/- Package chart: spans joined; times parted. -/
import Derived.Test.YtdbjalgfomknhaaGreatChG3
set_option linter.unusedVariables false
set_option linter.unusedSimpArgs false
namespace Go.Bal
open Go Go.Sym Go.Proofs
structure Hul where
 s : Span
 m : Bool
 deriving Inhabited
def hlB (h : Hul) : AObj := .box [.int h.s.lo, .int h.s.hi, .bool h.m]
def cN (h : Hul) (s : Span) : Hul := ⟨⟨bif h.m then Bn s.lo h.s.lo else s.lo, bif h.m then PD s.hi h.s.hi else s.hi⟩, true⟩
structure HuS where
 h : Hul
 s : Span
def BOV (H : Heap) (id : Nat) : Option Hul := match H id with
 | .live (.box [.d a, .d b, .d c]) => some ⟨⟨HK a, HK b⟩, BXY c⟩
 | _ => none
def dHuS : List AVal -> Heap -> Option (HuS × List (Nat × Nat) × List Nat)
 | [.bptr id _, .d s], H => match BOV H id with
  | some h => some (⟨h, Ni s⟩, [(100, id)], [])
  | none => none
 | _, _ => none
def C_hadd : Ctr := { α := HuS, xs := λ a => [.bptr 100 0, .d (IL a.s)], L := λ a => [(100, hlB a.h)], val := λ _ => .d (.tup []), keep := λ a => [(100, .live (hlB (cN a.h a.s)))] }
def BAI : Ann := { ann 32 [] with E := [100] }
def BDS (a : HuS) : Prop := CH Try.prog BAI ASS (AH ASS) (C_hadd.xs a) (AB (C_hadd.L a)) (C_hadd.val a) (C_hadd.keep a) [] []
abbrev Jo:=Hul.m
abbrev xQ:=HuS.h
abbrev Jl:=Hul.s
abbrev tJ:=HuS.s
abbrev aR a b:=Jl (cN a b)
attribute [go_sem] Jo xQ Jl tJ aR
theorem BMK (a : HuS) : (BDS a) = (KS (Jo (xQ a)) (BP (aR (xQ a) (tJ a)) (mH (BG (tJ a)) (BG (Jl (xQ a))))) (AY (aR (xQ a) (tJ a)) (Mv (BJ (tJ a)) (BJ (Jl (xQ a))))) GF (AE (BN (aR (xQ a) (tJ a)) (tJ a)) (AX (aR (xQ a) (tJ a)) (tJ a)) GF)) := by kernel_rfl
theorem ALF : AJ Try.prog U4 (C_hadd.spec dHuS) := XP C_hadd (λ _ => BAI) [] [] BJM (λ _ => by kernel_rfl) (λ _ => AC) (λ (a : HuS) _ => by
 show BDS a; rw [BMK]<;> delta KH BG BJ AR EK Mv mH JL Jo xQ Jl tJ AE AY FD AX BP BN GF KS aR; simp only [CC, eq_self, implies_true, forall_const]
 refine ⟨λ h => ?_, λ h => ?_⟩ <;> · unfold cN; rw [h]; exact ⟨rfl, rfl⟩) (λ _ => YS rfl rfl) _
def yR (h : Hul) : Span × Int := bif h.m then (h.s, 0) else (⟨0, 0⟩, 5)
def dHu1 : List AVal -> Heap -> Option (Hul × List (Nat × Nat) × List Nat)
 | [.bptr id _], H => match BOV H id with
  | some h => some (h, [(100, id)], [])
  | none => none
 | _, _ => none
def C_who : Ctr := { ro := [100], α := Hul, xs := λ _ => [.bptr 100 0], L := λ h => [(100, hlB h)], val := λ h => .tup [.d (IL (yR h).1), .int (yR h).2], keep := λ h => [(100, .live (hlB h))] }
def BOZ : Ann := { ann 14 [] with E := [100] }
def BOG (h : Hul) : Prop := CH Try.prog BOZ AKX (AH AKX) (C_who.xs h) (AB (C_who.L h)) (C_who.val h) (C_who.keep h) [] []
abbrev sV:=@Prod.fst Span Int
abbrev Y2:=@Prod.snd Span Int
abbrev Ix a:=FD (Jo a)
abbrev XF a:=BM (Jl a)
abbrev Kx a:=Y2 (yR a)
abbrev Mf a:=sV (yR a)
attribute [go_sem] sV Y2 Ix XF Kx Mf
theorem BRT (h : Hul) : (BOG h) = (DZ (not (Jo h)) (Fp (Mf h)) (AF (Fm (Mf h)) (AR (Kx h) 5) (XF h) (AZ (Jl h)) (Ix h)) (EW (BN (Mf h) (Jl h)) (AX (Mf h) (Jl h)) (IQ (Kx h)) (XF h) (AZ (Jl h)) (Ix h))) := by kernel_rfl
theorem ARR : AJ Try.prog wV (C_who.spec dHu1) := XP C_who (λ _ => BOZ) [] [] BAV (λ _ => by kernel_rfl) (λ _ => AC) (λ (h : Hul) _ => by
 show BOG h; rw [BRT]<;> delta KH BG BJ AR EK Jo Jl sV Y2 AE AF AY AG FD AX BM BP BN AZ DZ EW IQ Mf XF Ix Kx Fp Fm; simp only [CC, eq_self, implies_true, forall_const]
 refine ⟨λ q => ?_, λ q => ?_⟩ <;> · unfold yR; rw [q]; exact ⟨rfl, rfl, rfl⟩) (λ _ => YS rfl rfl) _
structure DkQ where
 w : Dk
 l : List Span
 k : Int
 a : Int
 b : Int
def parM (l : List Span) (k a b : Int) (i : Nat) : Span := ⟨bif decide (i = k.toNat) && decide (k < l.length) then PD (gD l i).lo b else (gD l i).lo, bif decide (k > 0) && decide (i = (k - 1).toNat) then Bn (gD l i).hi a else (gD l i).hi⟩
def parL (l : List Span) (k a b : Int) : List Span := IK l.length (parM l k a b)
def dDkQ : List AVal -> Heap -> Option (DkQ × List (Nat × Nat) × List Nat)
 | [.bptr id _, y, .d k, .d a, .d b], H => match tE H id, Wv y H with
  | some (w, q), some (l, f) => some (⟨w, l, HK k, HK a, HK b⟩, [(100, id), (101, q)], f)
  | _, _ => none
 | _, _ => none
def C_part : Ctr := { ro := [100, 101], α := DkQ, xs := λ a => [.bptr 100 0, .d (DE a.l), .int a.k, .int a.a, .int a.b], L := λ a => dkL a.w, val := λ a => .d (DE (parL a.l a.k a.a a.b)), keep := λ a => dkK a.w, pre := λ a => [(1 <= a.l.length /\ a.l.length <= 40) /\ 0 <= a.k /\ a.k <= a.l.length] }
def BBE : Ann := { ann 45 [(yI, C_clo.spec dSs1)] with E := [100, 101] }
def BCP (a : DkQ) : Prop := CH Try.prog BBE AEI (AH AEI) (C_part.xs a) (AB (C_part.L a)) (C_part.val a) (C_part.keep a) [] [2016]
abbrev Uh:=DkQ.k
abbrev AGY a:=AL (DkQ.w a)
abbrev T8 a:=IP (DkQ.l a)
abbrev Er a b c d:=parL (DkQ.l a) (Uh b) (DkQ.a c) (DkQ.b d)
abbrev SI a:=NG (DkQ.l a)
abbrev bU a b:=RN (T8 a) b
abbrev cI a:=UU (Uh a)
abbrev cW a b:=PT (T8 a) b
abbrev AGE a b c:=AO a b a c
abbrev We a:=PV (Uh a)
abbrev gP a:=UU (We a)
attribute [go_sem] Uh AGY T8 Er SI bU cI cW AGE We gP
theorem BKE (a : DkQ) : (BCP a) = (JR (WA (SI a) (DkQ.l a)) (JQ (T8 a) (DkQ.l a)) (NB (SI a)) (LW (SI a)) (DZ (JM (Uh a) 0) (AGE (CD (We a) (SI a)) (CL (gP a) (SI a)) (NW (We a) (SI a))) (DZ (JH (Uh a) (BZ (SI a))) (AGE (CD (Uh a) (SI a)) (CL (cI a) (SI a)) (NW (Uh a) (SI a))) (KD (JU (Er a a a a) (SI a)) (LC (SI a)) (AD (λ i=>JY i (Er a a a a) (BP (GK (Er a a a a) i) (JJ (BV i) (Uh a) (Mv (JJ (cI a) (We a) (cW a (gP a)) (cW a (cI a))) (DkQ.b a)) (JJ (BV i) (We a) (cW a (gP a)) (cW a (BV i))))) (AY (GK (Er a a a a) i) (JJ (BV i) (Uh a) (JJ (cI a) (We a) (mH (bU a (gP a)) (DkQ.a a)) (bU a (cI a))) (JJ (BV i) (We a) (mH (bU a (gP a)) (DkQ.a a)) (bU a (BV i))))))) (AGY a) (DkQ.w a)) (KD (JU (Er a a a a) (SI a)) (LC (SI a)) (AD (λ i=>JY i (Er a a a a) (BP (GK (Er a a a a) i) (JJ (BV i) (We a) (cW a (gP a)) (cW a (BV i)))) (AY (GK (Er a a a a) i) (JJ (BV i) (We a) (mH (bU a (gP a)) (DkQ.a a)) (bU a (BV i)))))) (AGY a) (DkQ.w a))) (DZ (JH (Uh a) (BZ (SI a))) (AGE (CD (Uh a) (SI a)) (CL (cI a) (SI a)) (NW (Uh a) (SI a))) (KD (JU (Er a a a a) (SI a)) (LC (SI a)) (AD (λ i=>JY i (Er a a a a) (BP (GK (Er a a a a) i) (JJ (BV i) (Uh a) (Mv (cW a (cI a)) (DkQ.b a)) (cW a (BV i)))) (AY (GK (Er a a a a) i) (JJ (BV i) (Uh a) (bU a (cI a)) (bU a (BV i)))))) (AGY a) (DkQ.w a)) (KD (JU (Er a a a a) (SI a)) (LC (SI a)) (AD (λ i=>PN i (Er a a a a) (T8 a) (BV i))) (AGY a) (DkQ.w a))))) := by kernel_rfl
theorem eK (l : List Span) (k a b : Int) : (parL l k a b).length = l.length := rng_length _ _
theorem AWZ : AJ Try.prog yJ (C_part.spec dDkQ) := XP C_part (λ _ => BBE) [] [2016] AXT (λ _ => by kernel_rfl) (λ _ => AA AQY AC) (λ (a : DkQ) h => by
 obtain ⟨⟨h1, h2⟩, h3, h4⟩ : (1 <= a.l.length /\ a.l.length <= 40) /\ 0 <= a.k /\ a.k <= a.l.length := h
 have e : IntKind.i64.wrap (a.k - 1) = a.k - 1 := Bc (by omega) (by omega)
 have gj : ∀ {j : Nat}, j < a.l.length -> gD (parL a.l a.k a.a a.b) j = parM a.l a.k a.a a.b j := λ hj => FF _ _ _ hj
 have t : (a.k - 1).toNat = a.k.toNat - 1 := by omega
 show BCP a; rw [BKE]<;> delta KH BG BJ EC MM NO Hc ES ET BW ED AD BU CL AR GK BZ DJ EK JH HO KB Mv mH EJ GW EX HP HN HJ GT GB HC DU GG FE Ef JM FY QC NY EU MP KI YM AL JO Wj Uh AE CR BB AF AY AU RA AG BC FD AX BM CJ AK AN DD BH BY BP CX BN CY BS CE HQ QX AV AQ Jc EV DW AZ CP AS OT DM AP AT BV CN BX NE GI HD CG GP OK FH AO DC BT UR UU IP CD NF AGE JY KZ VU PV DZ PZ NG GJ LQ LI DX SV JU Ca OI PI AGY BK JF KQ EY MC PN NB PJ TD PT QK RN SI LC HT JQ JJ WA TG XM NW LW T8 JR KD We Er cI bU cW gP; simp only [CC, eq_self, implies_true, forall_const, e, eK, t]
 refine ⟨⟨by omega, by omega⟩, λ hk => ⟨⟨⟨by omega, by omega⟩, by omega, ⟨by omega, by omega⟩, by omega⟩, λ hl => ⟨⟨⟨by omega, by omega⟩, by omega, ⟨by omega, by omega⟩, by omega⟩, Nat.le_refl _, λ j hj => ?_⟩, λ hl => ⟨Nat.le_refl _, λ j hj => ?_⟩⟩, λ hk => ⟨λ hl => ⟨⟨⟨by omega, by omega⟩, by omega, ⟨by omega, by omega⟩, by omega⟩, Nat.le_refl _, λ j hj => ?_⟩, λ hl => by omega⟩⟩
 ·rw [gj hj]; unfold parM; rw [t]
  have q0 : ¬ a.k.toNat = a.k.toNat - 1 := by omega
  by_cases q1 : j = a.k.toNat
  ·subst q1
   simp [hk, hl, q0]
  ·by_cases q2 : j = a.k.toNat - 1
   ·simp only [decide_eq_false q1, decide_eq_true q2, decide_eq_true hk, Bool.false_and, Bool.and_self, cond_true, cond_false]
    rw [q2]; exact ⟨rfl, rfl⟩
   ·simp [hk, q1, q2]
 ·rw [gj hj]; unfold parM; rw [t]
  by_cases q2 : j = a.k.toNat - 1
  ·simp only [decide_eq_true q2, decide_eq_true hk, decide_eq_false hl, Bool.and_false, Bool.and_self, cond_true, cond_false]
   rw [q2]; exact ⟨rfl, rfl⟩
  ·simp [hl, q2]
 ·rw [gj hj]; unfold parM; rw [t]
  by_cases q1 : j = a.k.toNat
  ·subst q1
   simp [hk, hl]
  ·simp [hk, q1]) (λ _ => YS rfl rfl) _
structure DkW where
 w : Dk
 l : List Span
 a : Int
 b : Int
 x : Int
 y : Int
def P5 (l : List Span) (a b x y : Int) : List Span := parL (parL l a (wr (x - 1)) x) (wr (b + 1)) y (wr (y + 1))
def dDkW : List AVal -> Heap -> Option (DkW × List (Nat × Nat) × List Nat)
 | [.bptr id _, y, .d k, .d a, .d b, .d c], H => match tE H id, Wv y H with
  | some (w, q), some (l, f) => some (⟨w, l, HK k, HK a, HK b, HK c⟩, [(100, id), (101, q)], f)
  | _, _ => none
 | _, _ => none
def C_win : Ctr := { ro := [100, 101], α := DkW, xs := λ a => [.bptr 100 0, .d (DE a.l), .int a.a, .int a.b, .int a.x, .int a.y], L := λ a => dkL a.w, val := λ a => .d (DE (P5 a.l a.a a.b a.x a.y)), keep := λ a => dkK a.w, pre := λ a => [(1 <= a.l.length /\ a.l.length <= 40) /\ (0 <= a.a /\ a.a < a.l.length) /\ 0 <= a.b /\ a.b < a.l.length] }
def BPB : Ann := { ann 29 [(yJ, C_part.spec dDkQ)] with E := [100, 101] }
def BOW (a : DkW) : Prop := CH Try.prog BPB ADC (AH ADC) (C_win.xs a) (AB (C_win.L a)) (C_win.val a) (C_win.keep a) [] []
abbrev Zk:=DkW.l
abbrev eH:=DkW.a
abbrev kF:=DkW.x
abbrev jX:=DkW.w
abbrev yO:=DkW.b
abbrev sX:=DkW.y
abbrev TP a:=AL (jX a)
abbrev K1 a b c d:=parL (IP a) b c d
abbrev jO a b c d:=K1 a b (PV c) d
abbrev lQ a b c:=jO a b c c
attribute [go_sem] Zk eH kF jX yO sX TP K1 jO lQ
theorem BSH (a : DkW) : (BOW a) = (JR (JG (Zk a)) (QH (Zk a)) (AG (eH a)) (AK (AG (PV (kF a))) (AG (kF a)) (AQ (TP a)) (AT (TP a)) (AP (TP a)) (AS (TP a)) (AV (TP a)) (BO (TP a)) (WY (TP a) (LQ (jX a)) (GJ (jX a)) (ZD (TP a) (CQ (TP a)) (λ i=>DG i (TP a)) (DH (TP a)) (QN (TP a) (λ i=>KZ i (jX a)) BT (JI (TP a)) (GJ (jX a)) (JK (TP a)) (NA (NG (Zk a)) 40) (CN (eH a)) (Lz (eH a) (NG (Zk a))))))) (KD (AO (JG (lQ (Zk a) (eH a) (kF a))) (QH (lQ (Zk a) (eH a) (kF a))) (AG (GU (yO a))) (AK (AG (sX a)) (AG (GU (sX a))) (AQ (TP a)) (AT (TP a)) (AP (TP a)) (AS (TP a)) (AV (TP a)) (BO (TP a)) (WY (TP a) (LQ (jX a)) (GJ (jX a)) (ZD (TP a) (CQ (TP a)) (λ i=>DG i (TP a)) (DH (TP a)) (QN (TP a) (λ i=>KZ i (jX a)) BT (JI (TP a)) (GJ (jX a)) (JK (TP a)) (NA (NG (lQ (Zk a) (eH a) (kF a))) 40) (CN (GU (yO a))) (Lz (GU (yO a)) (NG (lQ (Zk a) (eH a) (kF a))))))))) (II (P5 (Zk a) (eH a) (yO a) (kF a) (sX a)) (K1 (lQ (Zk a) (eH a) (kF a)) (GU (yO a)) (sX a) (GU (sX a)))) (JQ (P5 (Zk a) (eH a) (yO a) (kF a) (sX a)) (K1 (lQ (Zk a) (eH a) (kF a)) (GU (yO a)) (sX a) (GU (sX a)))) (TP a) (jX a))) := by kernel_rfl
theorem BTH : AJ Try.prog ABT (C_win.spec dDkW) := XP C_win (λ _ => BPB) [] [] AYT (λ _ => by kernel_rfl) (λ _ => AA AWZ AC) (λ (a : DkW) h => by
 obtain ⟨⟨h1, h2⟩, ⟨h3, h4⟩, h5, h6⟩ : (1 <= a.l.length /\ a.l.length <= 40) /\ (0 <= a.a /\ a.a < a.l.length) /\ 0 <= a.b /\ a.b < a.l.length := h
 have e : IntKind.i64.wrap (a.b + 1) = a.b + 1 := Bc (by omega) (by omega)
 show BOW a; rw [BSH]<;> delta KH BG BJ EC MM NO Hc ES ET BW ED AD BU CL AR GK BZ DJ HO NL EJ GW EX HP HN HJ GT GB HC DU GG FE JW Ef NY EU MP AL JO Zk eH kF jX yO sX AE CR FA BB GA AF AY AU RA AG EM EZ BC FD AX FC BM CJ AK AN DD BH BY BP CX BN CY BS CE HQ QX FU AV DA AQ Jc EV DW AZ DQ CP FT AS OT ZW FS AP ID AT EG CN BX NE GI CM HD CG GU OK HV AO TP DC Cn BT UR EL FV IP NF EP HW JY DB FN FM KZ UV VU PV TL Cs PH EA FQ PZ NG NH GJ LQ BE LI DX FO FZ KL NC GH SV JU IC LM OI SY Bi BO DH CQ BK JF GY CS EE II TV BI KQ BL EY RZ DG MC UL PN PJ DI SE TD VI RC PE Lw HT UM QG UG TN JQ HL JI VL WA NA TK TG XM JK JR JG KD Lz Gl Bz QH Au K1 ZD UW jO lQ Hb QN WY; simp only [CC, eq_self, implies_true, forall_const]; simp only [eK]
 refine ⟨⟨⟨by omega, h2⟩, h3, by omega⟩, ⟨⟨by omega, h2⟩, by omega, by omega⟩, ?_⟩
 have : P5 a.l a.a a.b a.x a.y = parL (parL a.l a.a (IntKind.i64.wrap (a.x - 1)) a.x) (IntKind.i64.wrap (a.b + 1)) a.y (IntKind.i64.wrap (a.y + 1)) := rfl
 rw [this]; simp only [eK]
 simp) (λ _ => YS rfl rfl) _
def AQI (s : Span) : Prop := CH Try.prog (ann 5 []) ADD (AH ADD) (xS1 s) (AB []) (.int s.lo) [] [] []
theorem AZK (s : Span) : (AQI s) = (BM s) := by kernel_rfl
def APV := pD dS1 λ s => .int s.lo
def AWO (s : Span) : Prop := CH Try.prog (ann 5 []) ANJ (AH ANJ) (xS1 s) (AB []) (.int s.hi) [] [] []
theorem BIA (s : Span) : (AWO s) = (AZ s) := by kernel_rfl
def ATX := pD dS1 λ s => .int s.hi
def C_least : Ctr := { α := One, xs := λ _ => [], val := λ _ => .agg [.fn (.func Ya) [] []], keep := λ _ => [] }
def dN0c : List AVal -> Heap -> Option (One × List (Nat × Nat) × List Nat)
 | [], _ => some (default, [], [])
 | _, _ => none
def C_most : Ctr := { α := One, xs := λ _ => [], val := λ _ => .agg [.fn (.func fR) [] []], keep := λ _ => [] }
def AVE (x : One) : Prop := CH Try.prog (ann 2 []) AMG (AH AMG) [] (AB []) (C_least.val x) [] [] []
theorem BFF (x : One) : (AVE x) = (IH) := by kernel_rfl
def BBI (x : One) : Prop := CH Try.prog (ann 2 []) ATK (AH ATK) [] (AB []) (C_most.val x) [] [] []
theorem BLT (x : One) : (BBI x) = (IH) := by kernel_rfl
theorem AXX : AJ Try.prog Ya APV := Kr xS1 hS1 λ x _ => Hp (A := ann 5 []) (ren := []) (fz := []) AYZ (by kernel_rfl) AC (by
 show AQI x; rw [AZK]<;> delta BG AR AG BM; try simp)
theorem BES : AJ Try.prog fR ATX := Kr xS1 hS1 λ x _ => Hp (A := ann 5 []) (ren := []) (fz := []) BBP (by kernel_rfl) AC (by
 show AWO x; rw [BIA]<;> delta BJ AR AY AX AZ; try simp)
theorem BDV : AJ Try.prog AIZ (C_least.spec dN0c) := XP C_least (λ _ => ann 2 []) [] [] BBK (λ _ => by kernel_rfl) (λ _ => AC) (λ (x : One) _ => by
 show AVE x; rw [BFF]<;> delta IH; try simp) (λ _ => YS rfl rfl) _
theorem BMS : AJ Try.prog ATP (C_most.spec dN0c) := XP C_most (λ _ => ann 2 []) [] [] BMI (λ _ => by kernel_rfl) (λ _ => AC) (λ (x : One) _ => by
 show BBI x; rw [BLT]<;> delta IH; try simp) (λ _ => YS rfl rfl) _
def gLo (l : List Span) : Int := (l.map (·.lo)).foldl PD (gD l 0).lo
def gHi (l : List Span) : Int := (l.map (·.hi)).foldl PD (gD l 0).hi
def C_grL : Ctr := { α := List Span, xs := λ l => [.agg [.fn (.func Ya) [] []], .d (DE l)], val := λ l => .int (gLo l), keep := λ _ => [], pre := λ l => [0 < l.length /\ l.length < 1073741824] }
def C_grH : Ctr := { α := List Span, xs := λ l => [.agg [.fn (.func fR) [] []], .d (DE l)], val := λ l => .int (gHi l), keep := λ _ => [], pre := λ l => [0 < l.length /\ l.length < 1073741824] }
def BOK : List AVal -> Heap -> Option (List Span × List (Nat × Nat) × List Nat)
 | [.agg [.fn (.func f) _ _], y], H => if f = Ya then match Wv y H with
  | some (l, f) => some (l, [], f)
  | none => none else none
 | _, _ => none
def BPC : List AVal -> Heap -> Option (List Span × List (Nat × Nat) × List Nat)
 | [.agg [.fn (.func f) _ _], y], H => if f = fR then match Wv y H with
  | some (l, f) => some (l, [], f)
  | none => none else none
 | _, _ => none
def gr3 (l : List Span) (v : AVal) (f : List Int) : Shape := { α := NI, dflt := default, T := λ s => ⟨[(2, .bptr 201 0), (5, .int s.m), (14, .d (DE l)), (15, .int l.length), (16, .int s.k)], [(201, .live (.box [v]))]⟩, inv := λ s => s.k <= l.length /\ s.m = (f.take s.k).foldl PD (gD f 0), meas := λ s => l.length - s.k, first := [(201, 1000)] }
def BOR (l : List Span) : Ann := { ann 28 [(Ya, APV)] with loops := λ id => if id = 3 then some [gr3 l (.fn (.func Ya) [] []) (l.map (·.lo))] else none }
def BNU (l : List Span) : Prop := CH Try.prog (BOR l) Yj (AH Yj) (C_grL.xs l) (AB []) (C_grL.val l) [] [] []
abbrev xB:=@List.foldl Int Int
abbrev Xu:=@List.map Span Int
abbrev lC:=@List.take Int
abbrev Vp a:=FK a 0
attribute [go_sem] xB Xu lC Vp
theorem BRJ (l : List Span) : (BNU l) = (AE (Dg (ED l)) (tD (λ i=>SD (AF (Ey i (PT l RI)) (KC l) (KA l) (Fs l) (BR (KE i))) (KE i) (ED l) (Ey i (xB Mv (Vp (Xu BG l)) (lC (KE i) (Xu BG l)))))) (ACA (λ i=>GQ (GZ (KE i) (ED l) (Ey i (xB Mv (Vp (Xu BG l)) (lC (KE i) (Xu BG l))))) (KE i) (ED l) (MI (KE i) l) (tD (λ j=>MA (AF (Ey j (Mv (fJ i) (PT l (KE i)))) (KC l) (KA l) (Fs l) (BD (KE j) (KE i))) (KE j) (ED l) (Ey j (xB Mv (Vp (Xu BG l)) (lC (KE j) (Xu BG l)))) (KE i))) (AR (gLo l) (fJ i))))) := by kernel_rfl
def BQI (l : List Span) : Ann := { ann 28 [(fR, ATX)] with loops := λ id => if id = 3 then some [gr3 l (.fn (.func fR) [] []) (l.map (·.hi))] else none }
def BQW (l : List Span) : Prop := CH Try.prog (BQI l) Yj (AH Yj) (C_grH.xs l) (AB []) (C_grH.val l) [] [] []
theorem BST (l : List Span) : (BQW l) = (AE (Dg (ED l)) (tD (λ i=>SD (AF (Ey i (RN l RI)) (KC l) (KA l) (Fs l) (BR (KE i))) (KE i) (ED l) (Ey i (xB Mv (Vp (Xu BJ l)) (lC (KE i) (Xu BJ l)))))) (ACA (λ i=>GQ (GZ (KE i) (ED l) (Ey i (xB Mv (Vp (Xu BJ l)) (lC (KE i) (Xu BJ l))))) (KE i) (ED l) (MI (KE i) l) (tD (λ j=>MA (AF (Ey j (Mv (fJ i) (RN l (KE i)))) (KC l) (KA l) (Fs l) (BD (KE j) (KE i))) (KE j) (ED l) (Ey j (xB Mv (Vp (Xu BJ l)) (lC (KE j) (Xu BJ l)))) (KE i))) (AR (gHi l) (fJ i))))) := by kernel_rfl
theorem AWP {f : Span -> Int} {l : List Span} (h : 0 < l.length) : gD (l.map f) 0 = f (gD l 0) := ARM f h
theorem BTW : AJ Try.prog hX (C_grL.spec BOK) := XP C_grL BOR [] [] Y6 (λ _ => by kernel_rfl) (λ _ => AA AXX AC) (λ (l : List Span) h => by
 obtain ⟨h1, h2⟩ : 0 < l.length /\ l.length < 1073741824 := h
 show BNU l; rw [BRJ]<;> delta BG BJ MM NO BW ED AD BU CL AR GK BZ DJ EK JH HO KB NL Mv LO FK tD fJ KE ACA FY xB Xu lC AE AF AY AU AG BC AX BM BH HQ AZ FS DM CN GP GU DS FH CD EO JY KC JB DZ BD FR IW LB IM YN Ct HB EB GM GZ BR Ba GC KA PT RI GQ MI Lx ZN Ah MA Dg Ey Fs SD Vp; simp only [CC, eq_self, implies_true, forall_const, Int.toNat_zero]
 refine ⟨⟨by omega, by omega⟩, ⟨⟨0, (gD l 0).lo⟩, ⟨rfl, rfl⟩, Nat.zero_le _, by rw [AWP h1]; rfl⟩, λ s ⟨s1, s2⟩ => ⟨λ hlt => ⟨by omega, ⟨s.k + 1, PD s.m (gD l s.k).lo⟩, ⟨rfl, (HY (by omega)).symm⟩, ⟨by show s.k + 1 <= _; omega, ?_⟩, by show l.length - (s.k + 1) < _; omega⟩, λ hge => ?_⟩⟩
 ·show PD s.m (gD l s.k).lo = _
  rw [dV (by simp; omega), List.foldl_append, <- s2, ARM _ (by omega)]; rfl
 ·rw [s2, List.take_of_length_le (by simp; omega), AWP h1]; rfl) (λ _ => YS rfl rfl) _
theorem BVB : AJ Try.prog hX (C_grH.spec BPC) := XP C_grH BQI [] [] Y6 (λ _ => by kernel_rfl) (λ _ => AA BES AC) (λ (l : List Span) h => by
 obtain ⟨h1, h2⟩ : 0 < l.length /\ l.length < 1073741824 := h
 show BQW l; rw [BST]<;> delta BG BJ MM NO BW ED AD BU CL AR GK BZ DJ EK JH HO KB NL Mv LO FK tD fJ KE ACA FY xB Xu lC AE AF AY AU AG BC AX BM BH HQ AZ FS DM CN GP GU DS FH CD EO JY KC JB DZ BD FR IW LB IM YN Ct HB EB GM GZ BR Ba GC KA RI RN GQ MI Lx ZN Ah MA Dg Ey Fs SD Vp; simp only [CC, eq_self, implies_true, forall_const, Int.toNat_zero]
 refine ⟨⟨by omega, by omega⟩, ⟨⟨0, (gD l 0).hi⟩, ⟨rfl, rfl⟩, Nat.zero_le _, by rw [AWP h1]; rfl⟩, λ s ⟨s1, s2⟩ => ⟨λ hlt => ⟨by omega, ⟨s.k + 1, PD s.m (gD l s.k).hi⟩, ⟨rfl, (HY (by omega)).symm⟩, ⟨by show s.k + 1 <= _; omega, ?_⟩, by show l.length - (s.k + 1) < _; omega⟩, λ hge => ?_⟩⟩
 ·show PD s.m (gD l s.k).hi = _
  rw [dV (by simp; omega), List.foldl_append, <- s2, ARM _ (by omega)]; rfl
 ·rw [s2, List.take_of_length_le (by simp; omega), AWP h1]; rfl) (λ _ => YS rfl rfl) _
end Go.Bal
