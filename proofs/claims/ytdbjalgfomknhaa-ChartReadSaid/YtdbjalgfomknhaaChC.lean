/- Package chart: stages. -/
import Derived.Test.YtdbjalgfomknhaaChB
import Derived.Test.YtdbjalgfomknhaaSym12
set_option linter.unusedVariables false
set_option linter.unusedSimpArgs false
namespace Go.Bal
open Go Go.Sym Go.Proofs
def atM (c : Cht) (k : Int) : Int := wr (c.base + wr (c.scale * (gD c.ms k.toNat).ht))
def st0 (c : Cht) (k : Int) : Span := ⟨wr (atM c k - c.off), wr (atM c k + c.off)⟩
def Qr (c : Cht) (k : Int) : Span := bif hasN c.ns k then wW (st0 c k) (ntOf c.ns k).s else st0 c k
structure DkI where
 w : Dk
 k : Int
def dDkI : List AVal -> Heap -> Option (DkI × List (Nat × Nat) × List Nat)
 | [.bptr id _, .d k], H => match wL H id with
  | some (w, q) => some (⟨w, FQ k⟩, [(100, id), (101, q)], [])
  | none => none
 | _, _ => none
def C_stg : Ctr := { ro := [100, 101], α := DkI, xs := λ a => [.bptr 100 0, .int a.k], L := λ a => dkL a.w, val := λ a => .d (IY (Qr a.w.c a.k)), keep := λ a => dkK a.w, pre := λ a => [0 <= a.k /\ a.k < a.w.c.ms.length] }
def BOL : Ann := { ann 61 [(F3, C_com.spec BBD)] with E := [100, 101] }
def BNT (a : DkI) : Prop := CR Try.prog BOL AFV (AL AFV) (C_stg.xs a) (AE (C_stg.L a)) (C_stg.val a) (C_stg.keep a) [] []
abbrev Um:=DkI.k
abbrev xI:=@HMul.hMul Int Int Int (@instHMul Int Int.instMul)
abbrev Di:=Span.mk
abbrev HF a b c d e f g h:=BH a b c (AK d e f g h)
abbrev FU a b:=TW a (ID b a)
abbrev XA a:=AG (DkI.w a)
abbrev Xr a:=IX (XA a)
abbrev wY a b:=JI (xI a b)
abbrev AHS a b c:=GO a (wY b c)
abbrev Wv a b c:=AHS (IQ (XA a)) (IV (XA b)) c
abbrev Yh a b:=DY (XA a) (HX (Um b))
abbrev ZV a:=Eb 1 (λ i=>a)
abbrev PK a b c d:=JN a b (IA b c) d
abbrev hJ a:=CW a a
abbrev VC:=hJ 1
abbrev NA a b:=CL (GY a) b
attribute [go_sem] Um xI Di HF FU XA Xr wY AHS Wv Yh ZV PK hJ VC NA
theorem BTK (a : DkI) : (BNT a) = (AH (CS (Um a) (BV (XA a))) (OE (Value.agg (AHM (gK (Yy (Yy ADX))))) sN) (FG (NC (XA a) (Um a)) (DP (DA (AJ (KP (Wv a a (Yh a a)) (Xr a))) (AJ (GO (Wv a a (Yh a a)) (Xr a))) (NA (ZV (NO (XA a) (Um a))) 1) VC (AF (λ i=>PK i (ZV (NO (XA a) (Um a))) i (NO (XA a) (Um a)))) IZ) (BT (Qr (XA a) (Um a)) (comM (SL.mk (Di (KP (Wv a a (Yh a a)) (Xr a)) (GO (Wv a a (Yh a a)) (Xr a))) (ZV (NO (XA a) (Um a)))))) (BJ (Qr (XA a) (Um a)) (comM (SL.mk (Di (KP (Wv a a (Yh a a)) (Xr a)) (GO (Wv a a (Yh a a)) (Xr a))) (ZV (NO (XA a) (Um a)))))) (XA a) (λ i=>FU i (DkI.w a)) (DkI.w a)) (HF (CB (Qr (XA a) (Um a)) (KP (Wv a a (Yh a a)) (Xr a))) (BN (Qr (XA a) (Um a)) (GO (Wv a a (Yh a a)) (Xr a))) (AT (XA a)) (AW (XA a)) (AV (XA a)) (BA (XA a)) (BB (XA a)) (JM (XA a) (λ i=>FU i (DkI.w a)) (DkI.w a))))) := by kernel_rfl
theorem BWF (a : DkI) (h : 0 <= a.k /\ a.k < a.w.c.ms.length) : BNT a := by
 rw [BTK]<;> delta LV CI CH FE PS SI Pt EE FH CL GY AF CV DC AS IA CG CW FG HU KV UC JT HP GG IQ IV IX JU GZ GM HK Eb LX HX OE AHM ADX DF MA AG ID Um xI Di AH DD EL AK BN BQ CF AJ BU FT hJ BJ KB AN AM BV CD BR BL AO DZ JI EI NO DV DI CB AT BB GO EP HD BO DY AP BT BA AW FZ CX AV DB KP CM NC JF KU PN EU TY NT BH BI TW GA CS UE XD JY XA KO FU FP LI wY NA JN DE QN DA AHS Nq IZ ME HF JO JM Yg VC DP gK Yy ZV PK Xr Yh Wv; simp only [CC, eq_self, implies_true, forall_const]
 cases hq : hasN a.w.c.ns a.k with
 | true =>
  have e : Qr a.w.c a.k = wW (st0 a.w.c a.k) (ntOf a.w.c.ns a.k).s := by unfold Qr; rw [hq]; rfl
  refine ⟨h, rfl, λ _ => ⟨⟨by omega, λ j hj => ?_⟩, ?_, ?_⟩, λ h => by cases h⟩
  ·rw [HM _ _ _ hj]; exact ⟨rfl, rfl⟩
  ·rw [e]; rfl
  ·rw [e]; rfl
 | false =>
  have e : Qr a.w.c a.k = st0 a.w.c a.k := by unfold Qr; rw [hq]; rfl
  refine ⟨h, rfl, (λ h => by cases h), λ _ => ⟨?_, ?_⟩⟩
  ·rw [e]; rfl
  ·rw [e]; rfl
theorem BIP : AR Try.prog L2 (C_stg.spec dDkI) := Bl C_stg (λ _ => BOL) [] [] AZU (λ _ => by kernel_rfl) (λ _ => AC BEF AI) (λ a h => BWF a h) (λ _ => Ec rfl rfl) _
def rowS (l : List Span) : AObj := .row 2 l.length λ i => IY (gD l i)
def C4SaO : Ctr := { ro := [100], α := MSa, xs := λ a => [.own 100 2 0 a.l.length, fvSa a.q], L := λ a => [(100, rowS a.l)], val := λ a => .bool (a.l.all Ps), keep := λ a => [(100, .live (rowS a.l))], pre := PSa }
def BPU : List AVal -> Heap -> Option (MSa × List (Nat × Nat) × List Nat)
 | [.own id _ _ _, .fn _ _ _], H => match H id with
  | .live (.row _ n g) => some (⟨default, OF n λ i => Hi (g i)⟩, [(100, id)], [])
  | _ => none
 | _, _ => none
def C4SnO : Ctr := { ro := [100], α := MSn, xs := λ a => [.own 100 2 0 a.l.length, fvSn a.q], L := λ a => [(100, rowS a.l)], val := λ a => .bool (a.l.all Ps), keep := λ a => [(100, .live (rowS a.l))], pre := PSn }
def BOX : List AVal -> Heap -> Option (MSn × List (Nat × Nat) × List Nat)
 | [.own id _ _ _, .fn _ _ _], H => match H id with
  | .live (.row _ n g) => some (⟨default, OF n λ i => Hi (g i)⟩, [(100, id)], [])
  | _ => none
 | _, _ => none
theorem BSV : AR Try.prog n_eS (C4SaO.spec BPU) := okT C4SaO (λ (a : MSa) h => by
 have hf := BOI a h
 refine FnT.lend (fz := [100]) (xs := [.own 100 2 0 a.l.length, fvSa a.q]) (L := [(100, rowS a.l)]) hf rfl ?_ rfl ?_ _ ?_
 ·show [AVal.d (.list 2 a.l.length (λ j => IY (gD a.l (0 + j))) false), _] = _
  simp only [Nat.zero_add]; rfl
 ·show 0 + a.l.length <= a.l.length; omega
 ·exact ⟨rfl, trivial⟩) _
theorem BRK : AR Try.prog n_eS (C4SnO.spec BOX) := okT C4SnO (λ (a : MSn) h => by
 have hf := BWY a h
 refine FnT.lend (fz := [100]) (xs := [.own 100 2 0 a.l.length, fvSn a.q]) (L := [(100, rowS a.l)]) hf rfl ?_ rfl ?_ _ ?_
 ·show [AVal.d (.list 2 a.l.length (λ j => IY (gD a.l (0 + j))) false), _] = _
  simp only [Nat.zero_add]; rfl
 ·show 0 + a.l.length <= a.l.length; omega
 ·exact ⟨rfl, trivial⟩) _
def FK (c : Cht) : List Span := OF c.ms.length λ i => Qr c (i : Int)
def Hn (c : Cht) : Bool := (FK c).all Ps
def D6 : List AVal -> Heap -> Option (Dk × List (Nat × Nat) × List Nat)
 | [.bptr id _], H => match wL H id with
  | some (w, q) => some (w, [(100, id), (101, q)], [])
  | none => none
 | _, _ => none
def C_all : Ctr := { ro := [100, 101], α := Dk, xs := λ _ => [.bptr 100 0], L := λ w => dkL w, val := λ w => .tup [.d (CK (FK w.c)), .bool (Hn w.c)], keep := λ w => dkK w, pre := λ w => [1 <= w.c.ms.length /\ w.c.ms.length <= 40] }
def al3n (w : Dk) : Shape := { α := One, dflt := default, T := λ _ => ⟨[(0, .bptr 100 0), (4, .d WH), (11, .int w.c.ms.length), (12, .int 0)], dkK w⟩, inv := λ _ => True, meas := λ _ => 50 }
def al3o (w : Dk) : Shape := { α := Nat, dflt := 0, T := λ k => ⟨[(0, .bptr 100 0), (4, .own 202 2 0 k), (11, .int w.c.ms.length), (12, .int k)], dkK w ++ [(202, .live (.row 2 k λ i => IY (Qr w.c (i : Int))))]⟩, inv := λ k => 1 <= k /\ k <= w.c.ms.length, meas := λ k => 40 - k, again := [(202, 6080)] }
def BOE (w : Dk) : Ann := { ann 25 [(L2, C_stg.spec dDkI), (n_eS, orS (C4SaO.spec BPU) (C4Sa.spec d4Sa))] with E := [100, 101], mt := λ id => id == 5, loops := λ id => if id = 3 then some [al3n w, al3o w] else none }
def BOW (w : Dk) : Prop := CR Try.prog (BOE w) BAZ (AL BAZ) (C_all.xs w) (AE (C_all.L w)) (C_all.val w) (C_all.keep w) [] [202]
abbrev gT:=λ (f : One -> Prop) => ∀ (x : One), f x
abbrev XL:=FK
abbrev aC:=Hn
abbrev hC:=@HMul.hMul Nat Nat Nat (@instHMul Nat instMulNat)
abbrev sA a b:=Qr a (CG b)
abbrev VA a b:=sA (AG a) b
abbrev Pj a b:=IA (XL a) b
abbrev bZ a b:=CW (DN a) b
abbrev Fw a:=bZ a a
abbrev ZT a b:=AH a a b
abbrev AU:=BU 0
abbrev Jo a:=BV (AG a)
abbrev JX a:=CW 1 a
abbrev KI a b (c:Nat->Prop) d e f g h p:=AN a b (AF c) d e f g h p
abbrev RE a b (c:Nat->Prop) d e f g h:=KI a b c BI d e f g h
abbrev NN a b (c:Nat->Prop) d e f g h:=RE a b c d (HB e) f g h
abbrev Fu a b c d:=Fl ((λ (x0 x1 : Nat) => decide (x0 < x1)) a b) c d
abbrev Ot a:=DG (AG a)
abbrev FB a:=UN a 1
abbrev Ou a b:=CL a (FB b)
abbrev Se a:=DF (λ i=>QN a i)
abbrev eZ a:=XD (AG a)
abbrev St a:=EU (AG a)
abbrev YT a:=BB (AG a)
abbrev YU a:=BA (AG a)
abbrev WM a:=AV (AG a)
abbrev TN a:=AW (AG a)
abbrev SG a:=AT (AG a)
abbrev nQ a:=CW a 140737488355328
abbrev En a b:=CW (FB a) b
abbrev Kd a:=HQ He a
abbrev Gm a:=DC 0 a
abbrev bV:=Gm 1
abbrev Zb:=Kd bV
abbrev YS a b c:=And a (BQ 0 b c)
abbrev TF:=BU 2
abbrev Od a b:=YS a b TF
abbrev No:=Od VC 1
abbrev WK a b c d e f g h:=UW a b c a d e f (Et g h)
abbrev WP a b:=EE (XT a b)
abbrev WQ a b:=FE (XT a b)
abbrev TZ a b:=WK a b (WQ a b) b (Be a b) (WP a b) a b
abbrev GC a:=DF (λ i=>TZ a i)
abbrev WS a b c d:=UP a b (WX c d)
abbrev EY a:=DF (λ i=>WS a i a i)
abbrev EJ a:=AF (λ i=>DX i a)
abbrev FI a:=AF (λ i=>DT i a)
abbrev KJ a:=AF (λ i=>FU i a)
abbrev Pa:=EG 0
abbrev WN a:=CL a 1
abbrev Xx:=JX 9223372036854775807
abbrev Sd a:=CV IZ a
abbrev Xq:=Sd bV
abbrev Rb a:=JF Oc 0 a
abbrev Gb a:=AS a OD
abbrev Rv a b:=(@Exists One) (λ i=>And a b)
abbrev KY a:=Rv a II
abbrev Kx a:=And AU a
abbrev OI:=AF (λ i=>PN i 0 He)
attribute [go_sem] gT XL aC hC sA VA Pj bZ Fw ZT AU Jo JX KI RE NN Fu Ot FB Ou Se eZ St YT YU WM TN SG nQ En Kd Gm bV Zb YS TF Od No WK WP WQ TZ GC WS EY EJ FI KJ Pa WN Xx Sd Xq Rb Gb Rv KY Kx OI
theorem BTG (w : Dk) : (BOW w) = (WJ (KY (Kx (DP OI (RD (AG w)) CU (AG w) (λ i=>FU i w) w))) (gT (λ i=>KZ II (PD 0 (ND (AG w))) (AH (Gb 0) (SG w) (AN (TN w) (WM w) (YU w) (YT w) (BF (AG w)) (BM (AG w)) (CA (AG w)) (AF (λ j=>BC j (AG w) (BG (AG w) j) (BD (AG w) j) (AP (AG w) j) (AZ (AG w) j) (AO (AG w) j) (BE (AG w) j) (AM (AG w) j))) (AN (KJ w) BI (EN (AG w)) (HB w) (EM (AG w)) (SG w) (TN w) (WM w) (FX (YU w) (YT w) (DQ (AG w)) (FI (AG w)) (DK (AG w)) (EJ (AG w)) (λ j=>FU j w) BI (AN (EY (AG w)) (HB w) (GC (AG w)) (Rb (ED (AG w))) (YS II 0 (CL 0 2)) No Xq Xx (nQ 16)))))) (IF (λ j=>JE (BH AU (WN j) (RD (AG w)) (AN (HZ j (EF 0)) (SG w) (TN w) (WM w) (YU w) (YT w) (St w) (QI (AG w)) (NN (DB (AG w)) (JZ (AG w)) (λ k=>FU k w) (eZ w) w (Se (AG w)) (WN j) (AF (λ k=>BR k j (BT (VA w k) (Qr (Ot w) 0)) (BJ (VA w k) (Qr (Ot w) 0))))))) (JX j) (CW j (Jo w)) (OY 40 j 50))) (NM AU AU Pa II (WY (NA (XL (AG w)) 0) (EK (aC (AG w))) (SG w) (AK (TN w) (WM w) (YU w) (YT w) (JM (AG w) (λ j=>FU j w) w)))))) (λ i=>MH (JX i) (CW i (Jo w)) i (ND (AG w)) (AH (GX i) (SG w) (AN (TN w) (WM w) (YU w) (YT w) (BF (AG w)) (BM (AG w)) (CA (AG w)) (AF (λ j=>BC j (AG w) (BG (AG w) j) (BD (AG w) j) (AP (AG w) j) (AZ (AG w) j) (AO (AG w) j) (BE (AG w) j) (AM (AG w) j))) (AN (KJ w) BI (EN (AG w)) (HB w) (EM (AG w)) (SG w) (TN w) (WM w) (FX (YU w) (YT w) (DQ (AG w)) (FI (AG w)) (DK (AG w)) (EJ (AG w)) (λ j=>FU j w) BI (AN (EY (AG w)) (HB w) (GC (AG w)) (IW i (ED (AG w))) (Od (BU i) i) No Zb (En i 9223372036854775807) (nQ (hC (FB i) 16))))))) (IF (λ j=>FW (BH AU (Ou j i) (RD (AG w)) (AN (CJ j i) (SG w) (TN w) (WM w) (YU w) (YT w) (St w) (QI (AG w)) (NN (DB (AG w)) (JZ (AG w)) (λ k=>FU k w) (eZ w) w (Se (AG w)) (Ou j i) (AF (λ k=>BR k j (CB (VA w k) (Fu k i (CI (VA w k)) (CI (sA (Ot w) i)))) (BN (VA w k) (Fu k i (CH (VA w k)) (CH (sA (Ot w) i))))))))) (JX j) (CW j (Jo w)) 40 j i)) (NK AU (ZT (NA (Eb i (λ j=>VA w j)) i) (AK (AF (λ j=>PK j (Eb i (λ k=>VA w k)) j (VA w j))) (CL i (GY (Eb i (λ j=>VA w j)))) (AF (λ j=>BR j i (BT (VA w j) (IA (Eb i (λ k=>VA w k)) j)) (BJ (VA w j) (IA (Eb i (λ k=>VA w k)) j)))) (EG (GY (Eb i (λ j=>VA w j)))) II)) (NA (XL (AG w)) i) (DP (Fw i) (AF (λ j=>JN j (XL (AG w)) (Pj (AG w) j) (VA w (DN j)))) (LV (aC (AG w)) (pQ (Eb i (λ j=>VA w j)) Ps)) (AG w) (λ j=>FU j w) w)))) := by kernel_rfl
theorem BVM (w : Dk) (h : 1 <= w.c.ms.length /\ w.c.ms.length <= 40) : BOW w := by
 obtain ⟨h1, h2⟩ := h
 rw [BTG]<;> delta LV He CI CH FE PS SI EE FH CL GY AF CV DC AS IA CG UB CW FG PD HU KV UC MT JT HP GG IQ IV IX JU GZ GM HK LC IF II Eb pQ LX UN OE DF MA Fl AG ID gT XL aC hC AH DD EL EW GS AK BN BQ CF AJ HR GI BU FT hJ WY ZT BJ KB AN AM BV AZ CD BR JD BL AO DZ JI EI NO DV DI CB GN AT BB GO EP HD BO DG DY AP BT BA ED AW BE XT FZ CX AV FN GF FA DB DN CM EF NC GR JF KU PN EU GQ HZ BD FB TY NT BH BI Et EG TW FX IT EK Pj GA CS GD EH UE GJ EC HQ WX DH OD Be EA AU FY IW MW JE XD JY ND BC KO MB LY Bc BF CA DK FU BG FP HB KT KX LJ GT GX KR LI JX CJ NA Dq CU OY PM IM DQ SQ JN DE QN CE QI BM JZ DT VM WP KZ IZ ME Se KI UP WQ TF JO DX TU EJ JM UU WS YS IR FW EN FI EY UW sA Ot VC Gm Rv VA Oc DP WK KJ EM KY SG TN RD bV TZ WM GC YT NK OI YU Od Rb Jo WN Kd NM nQ PK Sd Pa WJ St RE En MH Fu bZ Ou Fw No Gb NN eZ Xq Zb Xx Kx; simp only [CC, eq_self, implies_true, forall_const, DW]
 refine ⟨⟨default, trivial⟩, ⟨λ h0 => ⟨⟨rfl, by omega, by omega, by omega, by omega, by omega, by omega⟩, 1, ⟨rfl, rfl, rfl, λ i hi => ?_⟩, by omega, by omega⟩, λ h0 => absurd h0 (by omega)⟩, λ k hk => ⟨λ hlt => ⟨⟨by omega, by omega, (λ h => by cases h), by omega, by omega⟩, k + 1, ⟨rfl, (MO (by omega)).symm, rfl, λ i hi => ?_⟩, by omega, by omega⟩, λ hge => ?_⟩⟩
 ·obtain rfl : i = 0 := by omega
  exact ⟨rfl, rfl⟩
 ·by_cases h : i < k
  ·simp [h]
  ·obtain rfl : i = k := by omega
   simp
 ·obtain rfl : k = w.c.ms.length := by omega
  refine ⟨⟨λ i hi => ?_, λ i hi => ?_, by omega⟩, rng_length _ _, by omega, λ j hj => ?_, rfl⟩
  ·rw [HM _ _ _ hi]; exact ⟨rfl, rfl⟩
  ·rw [HM _ _ _ hi]; exact ⟨rfl, rfl⟩
  ·have hj : j < w.c.ms.length := by simpa [FK] using hj
   unfold FK; rw [HM _ _ _ hj]; exact ⟨rfl, rfl⟩
theorem ALW : AR Try.prog AQY (C_all.spec D6) := Bl C_all BOE [] [202] BRW (λ _ => by kernel_rfl) (λ _ => AC BIP (AC (BBF BSV BXM) AI)) (λ w h => BVM w h) (λ _ => Ec rfl rfl) _
def nilS : List Span := []
def SU (c : Cht) : List Span × Int := bif BS c == 0 then bif Hn c then (FK c, 0) else ([], 6) else ([], BS c)
def C_Stages : Ctr := { α := Cht, xs := λ c => [.d (aK c)], val := λ c => .tup [.d (CK (SU c).1), .int (SU c).2], keep := λ _ => [], pre := λ c => [c.ms.length < 4611686018427387904 /\ c.ns.length < 4611686018427387904] }
def APQ : Ann := ann 24 [(VS, C_open.spec dC1), (AQY, C_all.spec D6)]
def AIR : Ann := ann 24 [(VS, C_openX.spec dC1)]
def ARO (c : Cht) : Prop := CR Try.prog APQ mM (AL mM) (C_Stages.xs c) (AE []) (.tup [.d (CK (bif Hn c then FK c else [])), .int (bif Hn c then 0 else 6)]) [] [] []
abbrev ARF:=@cond (List Span)
abbrev AOR:=@List.nil Span
abbrev HT a b:=NA a (GY b)
abbrev HL a:=AX (DG a)
abbrev QO a:=JX (ED a)
abbrev XV a b:=Gs a (NF b)
attribute [go_sem] ARF AOR HT HL QO XV
theorem AZJ (c : Cht) : (ARO c) = (JE (QL c c (λ i=>BC i c (BG c i) (BD c i) (AP c i) (AZ c i) (AO c i) (BE c i) (AM c i)) (XV c c) (EV (LQ c))) (AT (HL c)) (AK (AW (HL c)) (AV (HL c)) (BA (HL c)) (BB (HL c)) (KO (BF (HL c)) (λ i=>CE i (HL c)) (CA (HL c)) (λ i=>BC i (HL c) (BG (HL c) i) (BD (HL c) i) (AP (HL c) i) (AZ (HL c) i) (AO (HL c) i) (BE (HL c) i) (AM (HL c) i)) LR BI (EN (HL c)) (λ i=>JY (VW (DG c)) i) (AN (EM (HL c)) (AT (HL c)) (AW (HL c)) (AV (HL c)) (BA (HL c)) (BB (HL c)) (DQ (HL c)) (FI (HL c)) (RE (DK (HL c)) (EJ (HL c)) LR (EY (HL c)) (PT (DG c)) (GC (HL c)) (QO (HL c)) (MD (HL c)))))) (FG (not (aC (wZ (DG c)))) (ZT (NA (ARF (aC c) (XL c) AOR) 0) (AS (Fl (aC c) 0 6) 6)) (AH (HT (ARF (aC c) (XL c) AOR) (XL (wZ (DG c)))) (AF (λ i=>PK i (ARF (aC c) (XL c) AOR) i (Pj (wZ (DG c)) i))) (EV (Fl (aC c) 0 6))))) := by kernel_rfl
def AJN (c : Cht) : Prop := CR Try.prog AIR mM (AL mM) (C_Stages.xs c) (AE []) (.tup [.d (CK nilS), .int (BS c)]) [] [] []
abbrev YB a b:=FG a b OW
attribute [go_sem] YB
theorem ASG (c : Cht) : (AJN c) = (And (QL c c (λ i=>BC i c (BG c i) (BD c i) (AP c i) (AZ c i) (AO c i) (BE c i) (AM c i)) (XV c c) (PJ (LQ c))) (YB (IE (LQ c)) (ZT AU (XO c (LQ c))))) := by kernel_rfl
theorem AQJ : AR Try.prog H8 (C_Stages.spec dC1) := okT C_Stages (λ (c : Cht) h => by
 obtain ⟨hm, hn⟩ : c.ms.length < 4611686018427387904 /\ c.ns.length < 4611686018427387904 := h
 by_cases h0 : BS c = 0
 ·have e : C_Stages.val c = .tup [.d (CK (bif Hn c then FK c else [])), .int (bif Hn c then 0 else 6)] := by
   show AVal.tup [.d (CK (SU c).1), .int (SU c).2] = _
   unfold SU; rw [h0]; cases Hn c <;> rfl
  have hl := PE h0
  rw [e]
  refine Ky (A := APQ) (L := []) (keep := []) (ren := []) (fz := []) AIP (by kernel_rfl) (AC F7 (AC ALW AI)) ?_
  show ARO c; rw [AZJ]<;> delta LV He CI CH FE EE FH CL GY AF CV DC AS IA CW FG JT HP GG IQ IV IX JU GZ GM HK LC VO OE DF MA Fl AG VW XL aC ARF AOR AH DD AX EL EW GS AK BN BQ CF AJ HR GI FT ZT BJ KB AN AM BV AZ CD BR JD BL AO DZ EI NO DV DI CB GN AT BB EP HD BO DG DY AP BT BA ED AW BE XT AV FN GF FA CM NC GR KU PN GQ BD TY NT wZ BI Et EG TW IT Pj GD UE GJ EC WX Be EA FY HL FM MW JE JY BC KO MB LY Bc BF CA DK BG HB KT KX LJ GT KR JX NA Dq EV DQ JN CE DT IB VM WP LR KI UP WQ HT DX TU EJ UU WS PT FR EN FI EY UW NF LQ UQ WK EM MD TZ GC QO Gs PK RE XV ZW QL; simp only [CC, eq_self, implies_true, forall_const, DW, P0]
  refine ⟨⟨⟨hm, hn⟩, h0⟩, by omega, λ h => ?_, λ h => ?_⟩
  ·rw [h]; exact ⟨rfl, rfl, rfl⟩
  ·rw [h]; exact ⟨rfl, λ _ _ => ⟨rfl, rfl⟩, rfl⟩
 ·have h0' : (BS c == 0) = false := by simpa using h0
  have e : C_Stages.val c = .tup [.d (CK []), .int (BS c)] := by
   show AVal.tup [.d (CK (SU c).1), .int (SU c).2] = _
   unfold SU; rw [h0']; rfl
  rw [e]
  refine Ky (A := AIR) (L := []) (keep := []) (ren := []) (fz := []) AIP (by kernel_rfl) (AC M3 AI) ?_
  show AJN c; rw [ASG]<;> delta CI CH FE EE FH CL AF CV DC AS FG JT HP GG IQ IV IX JU GZ GM HK LC VO PX OW AH DD EL EW GS AK BN BQ CF AJ HR GI BU ZT BJ AN AM BV AZ CD BR JD BL AO DZ EI DV DI CB GN AT BB BO DG DY AP BT BA ED AW BE AV FN GF FA CM GR GQ BD EG IT GD GJ EC EA AU FY FM BC BF CA BG GT CE IB FR NF IE LQ Gs PJ XO XV ZW QL YB; simp only [CC, eq_self, implies_true, forall_const, DW]
  simp [hm, hn, h0, nilS]) _
end Go.Bal
