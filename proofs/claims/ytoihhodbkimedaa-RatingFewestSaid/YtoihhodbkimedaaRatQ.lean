/- Package rating: knots. -/
import Derived.Test.YtoihhodbkimedaaRatP
set_option linter.unusedVariables false
set_option linter.unusedSimpArgs false
namespace Go.Bal
open Go Go.Sym Go.Proofs
def C_isKnot : Ctr := { C_line with val := λ (s : List Gau) => .bool (!(CS s).2) }
def BCI (s : List Gau) : Prop := CH Try.prog (ann 12 [(AIJ, C_line.spec dGsK)]) AQG (AI AQG) (C_isKnot.xs s) (AD []) (C_isKnot.val s) [] [] []
abbrev iA:=@Prod.snd Ln Bool
abbrev Kz a:=not (iA (CS a))
abbrev Xl a:=Kz (AU a)
abbrev Aq a:=MD (AU a)
abbrev MR a:=MN a 1073741824
abbrev Pg a:=MR (AU a)
attribute [go_sem] iA Kz Xl Aq MR Pg
theorem BLN (s : List Gau) : (BCI s) = (IR (BR s) (BW s) (Pg s) (Aq s) (KY (Kz s) (Xl s))) := by kernel_rfl
structure GG where
 a : Gau
 b : Gau
def dGG : List AVal -> Option GG
 | [.d (.agg [.v (.int .i64 a), .v (.int .i64 b), .v (.int .i64 c)]), .d (.agg [.v (.int .i64 p), .v (.int .i64 q), .v (.int .i64 r)])] => some ⟨⟨a, b, c⟩, ⟨p, q, r⟩⟩
 | _ => none
def xGG (a : GG) : List AVal := [.d (eGau a.a), .d (eGau a.b)]
def BZH := pD dGG λ a => .int (Lh a.a.st a.b.st)
def BZJ (a : GG) : Prop := CH Try.prog (ann 10 [(qL, G9)]) ANK (AI ANK) (xGG a) (AD []) (.int (Lh a.a.st a.b.st)) [] [] []
theorem CDY (a : GG) : (BZJ a) = (AK (Jd (GH (GG.a a)) (GH (GG.b a)))) := by kernel_rfl
def srtK (s : List Gau) : Nat -> Bool
 | 0 => true
 | k + 1 => bif decide (Lh (gD s (k + 1)).st (gD s k).st < 0) then false else srtK s k
def srtM (s : List Gau) : Bool := srtK s (s.length - 1)
def C_sorted : Ctr := { α := List Gau, xs := λ s => [.d (DX s), .fn (.func jK) [] []], L := λ _ => [], val := λ s => .bool (srtM s), keep := λ _ => [], pre := λ s => [0 < s.length /\ s.length < 1073741824] }
def AYZ : List AVal -> Heap -> Option (List Gau × List (Nat × Nat) × List Nat)
 | [y, .fn (.func g) [] []], H => if g = jK then match tL y H with
  | some (l, f) => some (l, [], f)
  | none => none else none
 | _, _ => none
def so2 (s : List Gau) : Shape := { α := Nat, dflt := 0, T := λ k => ⟨[(0, .d (DX s)), (1, .fn (.func jK) [] []), (5, .int k)], []⟩, inv := λ k => k + 1 <= s.length /\ srtM s = srtK s k, meas := λ k => k }
def AZG (s : List Gau) : Ann := { ann 25 [(jK, BZH)] with loops := λ id => if id = 2 then some [so2 s] else none }
def BBM (s : List Gau) : Prop := CH Try.prog (AZG s) AOL (AI AOL) (C_sorted.xs s) (AD []) (C_sorted.val s) [] [] []
abbrev Db a:=Cz (BK a)
abbrev YW a b c d:=Lc a (Db b) c d
abbrev Mb a:=QJ (BK a)
abbrev NU a b:=ED a (Mb b)
attribute [go_sem] Db YW Mb NU
theorem BLK (s : List Gau) : (BBM s) = (YS (λ i=>AE (AE (AS s) (CB s) (ED i (Xq s))) (IA (KF i) s) (KY (srtM s) (srtK s i))) (λ i=>YW (And (IA (KF i) s) (KY (srtM s) (srtK s i))) i (PF (YM i s) (CA (Mb i)) (DT (Mb i) (FQ s)) (IF (Jd (AX s i) (AX s (GF (Mb i)))) 0 (ME (srtM s)) (SA (λ j=>VB (AE (AS s) (CB s) (NU j i)) (IA (KF j) s) (KY (srtM s) (srtK s j)) j i)))) (LW (srtM s)))) := by kernel_rfl
structure GK where
 g : List Gau
 k : List Int
def dGK : List AVal -> Heap -> Option (GK × List (Nat × Nat) × List Nat)
 | [x, y], H => match tL x H, AIY y H with
  | some (l, f), some (m, e) => some (⟨l, m⟩, [], f ++ e)
  | _, _ => none
 | _, _ => none
def xGK (a : GK) : List AVal := [.d (DX a.g), .d (DC a.k)]
def Ij (a : GK) : List Gau := a.k.map λ i => gD a.g i.toNat
def bL (a : GK) : Bool := bif Cb a.k.length 2 3 then a.k.all λ x => Cb x 0 (wr (a.g.length - 1)) else false
def nmB (s : List Gau) : Bool := bif srtM s then decide ((gD s 0).st < (gD s (s.length - 1)).st) else false
def Vh (a : GK) : List Gau × Bool := bif bL a then (Ij a, nmB (Ij a)) else ([], false)
def C_named : Ctr := { α := GK, xs := xGK, L := λ _ => [], val := λ a => .tup [.d (DX (Vh a).1), .bool (Vh a).2], keep := λ _ => [], pre := λ a => [a.g.length < 1073741824 /\ a.k.length < 1073741824] }
def nm5n (a : GK) : Shape := { α := One, dflt := default, T := λ _ => ⟨[(2, .bptr 200 0), (6, .d VG), (20, .d (DC a.k)), (21, .int a.k.length), (22, .int 0)], [(200, .live (.box [.d (DX a.g)]))]⟩, inv := λ _ => bL a = true, meas := λ _ => a.k.length + 1, first := [(200, 1000)] }
def nm5o (a : GK) : Shape := { α := GsK, dflt := default, T := λ x => ⟨[(2, .bptr 200 0), (6, .own 201 3 0 x.l.length), (20, .d (DC a.k)), (21, .int a.k.length), (22, .int x.i)], [(200, .live (.box [.d (DX a.g)])), (201, .live (rowG x.l))]⟩, inv := λ x => bL a = true /\ 1 <= x.i /\ x.i <= a.k.length /\ x.l = (a.k.take x.i).map λ i => gD a.g i.toNat, meas := λ x => a.k.length - x.i, again := [(201, 8096)] }
def nm9 (a : GK) : Shape := { α := One, dflt := default, T := λ _ => ⟨[(6, .d (DX (Ij a)))], []⟩, inv := λ _ => bL a = true, meas := λ _ => 0, ffz := [201] }
def BGT (a : GK) : Ann := { ann 52 [(n_in, s_in), (n_eI, C4In.spec d4In), (AMU, C_sorted.spec AYZ)] with mt := λ id => id == 7, loops := λ id => if id = 5 then some [nm5n a, nm5o a] else none, cut := λ id => if id = 9 then some [nm9 a] else none }
def BKK (a : GK) : Prop := CH Try.prog (BGT a) AVP (AI AVP) (C_named.xs a) (AD []) (C_named.val a) [] [] []
abbrev LM:=GK.k
abbrev OG:=GK.g
abbrev AAH:=@Prod.fst (List Gau) Bool
abbrev xW:=@Prod.snd (List Gau) Bool
abbrev ABO:=@List.map Int Gau
abbrev Pz a:=IK (DM a)
abbrev tW a:=LW (bL a)
abbrev jW a:=QW (CK a)
abbrev Uv a b c d e f g h:=AQ a b c d e f g a h
abbrev Et a b:=GF (EM a b)
abbrev sV a b c:=AX a (Et b c)
abbrev Gu a b c:=Cv (EM a b) c
abbrev rD a:=FP (LM a)
abbrev ZA a:=AU (OG a)
abbrev YZ a:=QK (LM a)
attribute [go_sem] LM OG AAH xW ABO Pz tW jW Uv Et sV Gu rD ZA YZ
theorem BRU (a : GK) : (BKK a) = (BC (MY (not (not (Cb (rD a) 2 3))) (BI (CO (YZ a) (LM a)) (CE (YZ a) (LM a)) (AW (ZA a) (OG a)) (BE (ZA a) (OG a)) (AW (OG a) (ZA a)) (BE (OG a) (ZA a)) (KM (YZ a)) EF)) (RC (not (Cb (rD a) 2 3)) (not (BAH (YZ a) (λ i=>Qb i (ZA a))))) (tF (CQ (AAH (Vh a)) 0) (ME (xW (Vh a)))) (PF (TN (BI AC BM (GN (LM a)) (LL (LM a)) (OY (LM a)) BA (AS (OG a)) (CB (OG a))) (tW a)) (NR (λ i=>MY (bL a) (IF 0 (rD a) (AE (WW (rD a)) (AY (Gu (LM a) 0 (OG a)) (SE (Hw 3)) Mg Dk (QW 9223372036854775807) (NY 24)) (iH (λ j=>FU (SO (Uv (Ke j 1) (GN (LM a)) (LL (LM a)) (OY (LM a)) (JE (CK j) 0) (AS (OG a)) (CB (OG a)) (AG (λ k=>DV k (CR j) (DY (CR j) k (OG a) (Et (LM a) LJ)) (DN (CR j) k (OG a) (Et (LM a) LJ)) (OG a) (Et (LM a) LJ))))) (tW a) (jW j) (EL (CK j) (LM a)) (YH j (ABO (λ k=>GP (OG a) (GF k)) (hd48 (CK j) (LM a)))) (VL (LM a) (CK j)) (Cu (LM a))))) (TN (xX (CQ (Ij a) 0)) (tW a))))) (AAT (λ i=>DH (AH (tW a) (jW i) (EL (CK i) (LM a)) (YH i (ABO (λ j=>GP (OG a) (GF j)) (hd48 (CK i) (LM a))))) (CK i) (rD a) (AE (GA (CK i) (rD a)) (AY (Gu (LM a) (CK i) (OG a)) (Jz (CR i) (CY 0 (CR i) (BO 3))) Mg Dl (DB (Kg i) 9223372036854775807) (NY (Ej (Kg i) 24))) (iH (λ j=>FU (SO (Uv (Ke j (Kg i)) (GN (LM a)) (LL (LM a)) (OY (LM a)) (BJ (CK j) (CK i)) (AS (OG a)) (CB (OG a)) (AG (λ k=>CL k (CR j) (DE (CR j) k (Nw k i (AX (CR i) k) (sV (OG a) (LM a) (CK i)))) (DG (CR j) k (Nw k i (BH (CR i) k) (BH (OG a) (Et (LM a) (CK i))))) (DF (CR j) k (Nw k i (BN (CR i) k) (BN (OG a) (Et (LM a) (CK i))))))))) (tW a) (jW j) (EL (CK j) (LM a)) (YH j (ABO (λ k=>GP (OG a) (GF k)) (hd48 (CK j) (LM a)))) (VL (LM a) (CK j)) (VL (LM a) (CK i))))) (TN (UH (Nc (Ij a) i) (IA (CF (DM (CR i))) (CR i)) (λ j=>DV j (Ij a) (DY (Ij a) j (CR i) (CF j)) (DN (Ij a) j (CR i) (CF j)) (CR i) (CF j))) (tW a)))) (NR (λ i=>MY (bL a) (AJ (AH (BR (Ij a)) (BW (Ij a)) (Pz (AU (Ij a))) (Pg (Ij a))) (And (MY (srtM (AU (Ij a))) (WW (FQ (Ij a)))) (MY (srtM (AU (Ij a))) (Cv (Xq (Ij a)) (Ij a)))) (AW (AAH (Vh a)) (Ij a)) (BE (AAH (Vh a)) (Ij a)) (KY (xW (Vh a)) (Ap (srtM (AU (Ij a))) (AX (Ij a) LJ) (AX (Ij a) (GF (Xq (Ij a))))))))))) := by kernel_rfl
def Lq (a : GK) : Int := bif AZ a.g == 0 then (bif (Vh a).2 then 0 else 2) else AZ a.g
def Us (a : GK) : Bool := bif Lq a == 0 then !(CS (Vh a).1).2 else false
def C_Knot : Ctr := { α := GK, xs := xGK, L := λ _ => [], val := λ a => .tup [.bool (Us a), .int (Lq a)], keep := λ _ => [], pre := λ a => [a.g.length < 1073741824 /\ a.k.length < 1073741824] }
def BOC : Ann := ann 24 [(mR, C_Check.spec Ch), (uG, C_named.spec dGK), (Vp, C_isKnot.spec dGsK)]
def BOS (a : GK) : Prop := CH Try.prog BOC BGD (AI BGD) (C_Knot.xs a) (AD []) (C_Knot.val a) [] [] []
abbrev Iq:=GK.mk
abbrev AJT a b:=Vh (Iq a b)
abbrev fF a b:=AAH (AJT a b)
abbrev Ng a b:=fF (ZA a) (YZ b)
abbrev Mj a b c:=EB (ME a) b c
abbrev Tr a b:=xW (AJT a b)
abbrev RD a:=JC a 1073741824
attribute [go_sem] Iq AJT fF Ng Mj Tr RD
theorem BWX (a : GK) : (BOS a) = (BC (UB (AW (ZA a) (OG a)) (BE (ZA a) (OG a)) (FW (ZA a))) (Gt (ZA a)) (Mj (Us a) (Lq a) (Io (ZA a))) (BC (AY (AW (ZA a) (OG a)) (BE (ZA a) (OG a)) (CO (YZ a) (LM a)) (CE (YZ a) (LM a)) (MR (ZA a)) (RD (YZ a))) (not (Tr (ZA a) (YZ a))) (Mj (Us a) (Lq a) 2) (AE (AH (BR (Ng a a)) (BW (Ng a a)) (Pg (Ng a a)) (Aq (Ng a a))) (KY (Us a) (Xl (Ng a a))) (CD (Lq a))))) := by kernel_rfl
theorem Vj : AL Try.prog Vp (C_isKnot.spec dGsK) := Ih C_isKnot (λ _ => ann 12 [(AIJ, C_line.spec dGsK)]) [] [] BMD (λ _ => by kernel_rfl) (λ _ => AB Z3 AF) (λ (s : List Gau) h => by
 show BCI s; rw [BLN]<;> delta KY GH HK FK AO AT AG CG CM DW DM GP XV XJ iA AE AJ AP AU AX AH BH CY BN CL CA CQ DF DG EN AW DE DN EO DY LI EU FE DV FG JN MN Fc FB BE LO MS BW LA BR MU MR MD IR Kz Xl Aq Pg; simp only [CC, eq_self, implies_true, forall_const]; exact h) (λ _ => Jf rfl rfl) _
theorem hGG (xs : List AVal) (a : GG) (h : dGG xs = some a) : xs = xGG a := by
 unfold dGG at h; split at h <;> cases h; rfl
theorem CDJ : AL Try.prog jK BZH := Cq xGG hGG λ a _ => Lg (A := ann 10 [(qL, G9)]) (ren := []) (fz := []) BLV (by kernel_rfl) (AB AKI AF) (by
 show BZJ a; rw [CDY]<;> delta GH AO Jd AK)
theorem BLS : AL Try.prog AMU (C_sorted.spec AYZ) := Ih C_sorted AZG [] [] BKL (λ _ => by kernel_rfl) (λ _ => AB CDJ AF) (λ (s : List Gau) h => by
 show BBM s; rw [BLK]<;> delta KY Dc GH HK FK KN PN FA AO Jd ZR AT AG CG CM BK DB DW DT QP PD Ah DM GP SA GF KT AE FQ AP DR AK BO AX BH TA CY BN CL CA KF ED IG EP LW CJ AS QJ JM MK IA IF Cv HD Mb CB ME Cz Db NU Lc PF YW YM VB YS Xq; simp only [CC, eq_self, implies_true, forall_const]
 obtain ⟨h1, h2⟩ : 0 < s.length /\ s.length < 1073741824 := h
 refine ⟨⟨s.length - 1, by rw [LS (by omega) (by omega)]; omega, by omega, rfl⟩, λ k ⟨hk1, hk2⟩ => ⟨λ hlt => ?_, λ hge => ?_⟩⟩
 ·obtain ⟨k, rfl⟩ : ∃ n, k = n + 1 := ⟨k - 1, by omega⟩
  have e : IntKind.i64.wrap (((k + 1 : Nat) : Int) - 1) = (k : Nat) := by rw [LS (by omega) (by omega)]; omega
  rw [e, Int.toNat_natCast]
  unfold srtK at hk2
  refine ⟨⟨⟨by omega, by omega⟩, by omega, by omega⟩, λ hc => ?_, λ hc => ⟨k, rfl, ⟨by omega, ?_⟩, by omega⟩⟩
  ·rw [hk2, decide_eq_true hc]; rfl
  ·rw [hk2, decide_eq_false hc]; rfl
 ·rw [hk2, show k = 0 by omega]; rfl) (λ _ => Jf rfl rfl) _
theorem bZ {a : GK} (hg : a.g.length < 1073741824) (h : bL a = true) : 2 <= a.k.length /\ a.k.length <= 3 /\ ∀ x ∈ a.k, 0 <= x /\ x < a.g.length := by
 unfold bL at h
 cases hc : Cb a.k.length 2 3 with
 | false => rw [hc] at h; cases h
 | true =>
  rw [hc] at h
  have h : (a.k.all λ x => Cb x 0 (wr (a.g.length - 1))) = true := h
  unfold Cb at hc
  simp only [Bool.and_eq_true, decide_eq_true_eq] at hc
  refine ⟨by omega, by omega, λ x hx => ?_⟩
  have := List.all_eq_true.1 h x hx
  unfold Cb wr at this
  rw [LS (by omega) (by omega)] at this
  simp only [Bool.and_eq_true, decide_eq_true_eq] at this
  omega
theorem BVR (a : GK) (h1 : a.g.length < 1073741824) (h2 : a.k.length < 1073741824) : BKK a := by
 rw [BRU]<;> delta KY hd5 Dc GH HK FK KN PN FA AO AT CX AG CG CM EM BK DB hd48 DW DT QP PD RO FM PQ Ah YC DM GP EF BAH GF KT WH NR Ie Ej Ll ARR iH CR CK AAT LM OG AAH xW ABO KK AE KC FQ AJ AP DR AU AK BO JQ xX bR tF QS DK AX AQ AH BH TA CY BN CL CZ CA KF DP FT GI AC BB ED IG QK HI Uv CQ DF FP MX CF FC DG EN AW Cu AY ZJ Ma Et LW CJ DE DN AS EO DY GN MY QJ LJ JM EU FE DV HP Ir BM FG CE MK CO IA UQ JG JE HG IF MN VL cH ZA Cv FB HD LL BE CB IK BA BC BI BW JC EZ NY Df BJ BR ME Bv QW DH TN EL NS Gu MR GA RC UX UY ZT YZ SE OY NE Dl FU Dk aD YP Mw Qb KM PF YH Ta sV Jm Oi Kg UH WW SO Hw Ke Ap Nc Mg Pz Nw Jz Pg Xq rD tW jW; simp only [CC, eq_self, implies_true, forall_const]
 have hk : ∀ {i : Nat}, bL a = true -> i < a.k.length -> 0 <= gD a.k i /\ gD a.k i < a.g.length := λ h hi => (bZ h1 h).2.2 _ (DU hi)
 have hl : ∀ i, ((a.k.take i).map λ i => gD a.g i.toNat).length <= a.k.length := λ i => by simp; omega
 have hnl : (Ij a).length = a.k.length := by unfold Ij; simp
 refine ⟨λ _ => by omega, λ hb => ?_, λ hb => ⟨⟨⟨default, ?_⟩, λ hn => ⟨λ hlt => ⟨⟨by omega, by omega⟩, ⟨hk hn (by omega), by omega, by omega, by omega, by omega, by omega⟩, ⟨1, [gD a.g (gD a.k 0).toNat]⟩, ⟨rfl, rfl, rfl, λ i hi => ?_⟩, ⟨hn, by show 0 < 1; omega, by show 1 <= _; omega, ?_⟩, by show a.k.length - 1 < _; omega⟩, λ hge => ?_⟩, λ x ⟨hn, x1, x2, x3⟩ => ⟨λ hlt => ⟨⟨by omega, by omega⟩, ⟨hk hn (by omega), by omega, λ h => (by cases h), ?_, ?_⟩, ⟨x.i + 1, x.l ++ [gD a.g (gD a.k x.i).toNat]⟩, ⟨by simp, (EQ (by omega)).symm, by simp, BIK _ _⟩, ⟨hn, by show 0 < x.i + 1; omega, by show x.i + 1 <= _; omega, ?_⟩, by show a.k.length - (x.i + 1) < _; omega⟩, λ hge => ⟨default, ?_, hn⟩⟩⟩, λ hn => ?_⟩⟩
 ·have e : bL a = false := by
   unfold bL
   cases hc : Cb a.k.length 2 3 with
   | false => rfl
   | true => rw [hc] at hb; simpa using hb
  have : Vh a = ([], false) := by unfold Vh; rw [e]; rfl
  rw [this]; exact ⟨rfl, rfl, rfl⟩
 ·unfold bL
  cases hc : Cb a.k.length 2 3 with
  | false => rw [hc] at hb; cases hb
  | true => rw [hc] at hb; simpa using hb
 ·have hi : i < 1 := hi
  rw [show i = 0 by omega]; exact ⟨rfl, rfl, rfl⟩
 ·show [gD a.g (gD a.k 0).toNat] = (a.k.take 1).map _
  rw [SQ (by omega : 0 < a.k.length)]; rfl
 ·have := bZ h1 hn; omega
 ·have := hl x.i; rw [<- x3] at this; omega
 ·have := hl x.i; rw [<- x3] at this; omega
 ·show x.l ++ _ = (a.k.take (x.i + 1)).map _
  rw [SQ (by omega : x.i < a.k.length), List.map_append, x3]; rfl
 ·have : x.l = Ij a := by rw [x3, List.take_of_length_le (by omega)]; rfl
  rw [this]; exact ⟨rfl, Nat.le_refl _, λ _ _ => ⟨rfl, rfl, rfl⟩⟩
 ·have := bZ h1 hn
  have e : Vh a = (Ij a, nmB (Ij a)) := by unfold Vh; rw [hn]; rfl
  rw [e, LS (by omega) (by omega)]
  refine ⟨⟨by omega, by omega⟩, ⟨λ _ => ⟨by omega, by omega⟩, λ _ => ⟨by omega, by omega⟩⟩, rfl, λ _ _ => ⟨rfl, rfl, rfl⟩, ?_⟩
  rw [show ((Ij a).length - 1 : Int).toNat = (Ij a).length - 1 by omega]; rfl
theorem ABB : AL Try.prog uG (C_named.spec dGK) := Ih C_named BGT [] [] BPH (λ _ => by kernel_rfl) (λ _ => AB qF (AB CGC (AB BLS AF))) (λ (a : GK) h => BVR a h.1 h.2) (λ _ => Jf rfl rfl) _
theorem BFA {a : GK} (hg : ∀ g ∈ a.g, XH g) (h1 : a.g.length < 1073741824) : (Vh a).1.length < 1073741824 /\ ∀ g ∈ (Vh a).1, XH g := by
 unfold Vh
 cases hc : bL a with
 | false => exact ⟨by show 0 < _; omega, λ g hg => by cases hg⟩
 | true =>
  have := bZ h1 hc
  refine ⟨by show (Ij a).length < _; unfold Ij; rw [List.length_map]; omega, λ g hgm => ?_⟩
  have hgm : g ∈ Ij a := hgm
  unfold Ij at hgm
  obtain ⟨x, hx, rfl⟩ := List.mem_map.1 hgm
  have := this.2.2 x hx
  exact hg _ (DU (by omega))
theorem MP {g : List Gau} (h : AZ g = 0) : (1 <= g.length /\ g.length <= 24) /\ ∀ x ∈ g, XH x := by
 unfold AZ at h
 cases h2 : Cb g.length 1 24 with
 | false => rw [h2] at h; cases h
 | true =>
  rw [h2] at h
  cases h3 : g.all riG with
  | false => rw [h3] at h; cases h
  | true =>
   unfold Cb at h2
   simp only [Bool.and_eq_true, decide_eq_true_eq] at h2
   refine ⟨by omega, λ x hx => ?_⟩
   have := List.all_eq_true.1 h3 x hx
   unfold riG Cb at this
   simp only [Bool.and_eq_true, decide_eq_true_eq] at this
   unfold XH; omega
theorem AVY : AL Try.prog AYQ (C_Knot.spec dGK) := Ih C_Knot (λ _ => BOC) [] [] BVP (λ _ => by kernel_rfl) (λ _ => AB Wv (AB ABB (AB Vj AF))) (λ (a : GK) h => by
 show BOS a; rw [BWX]<;> delta KY Dc GH HK FK Tu FA AO AT CX AG CG CM EM DW PQ DM GP EF XV XJ Io iA LM OG AAH xW Iq KK AE KC AJ AP AU QS AX AH BH CY BN CL CZ CA FT GI BB QK HI CQ DF FC DG EN AW AY DE DN EO DY CD LI EU FE DV HP FG CE CO JN AJT MN Fc ZA FB BE BC LO MS BW JC LA EB BR MU ME Tr MR KO YZ RD FW MD fF Kz Xl UB Aq Ng Gt Mj Pg; simp only [CC, eq_self, implies_true, forall_const]
 obtain ⟨h1, h2⟩ : a.g.length < 1073741824 /\ a.k.length < 1073741824 := h
 refine ⟨by omega, λ hc => ?_, λ hc => ⟨⟨h1, h2⟩, λ hn => ?_, λ hn => ?_⟩⟩
 ·have e0 : (AZ a.g == 0) = false := by simpa using hc
  have e : Lq a = AZ a.g := by unfold Lq; rw [e0]; rfl
  have e2 : Us a = false := by unfold Us; rw [e, e0]; rfl
  exact ⟨e2, e⟩
 all_goals
  have c0 : AZ a.g = 0 := by simpa using hc
  have e0 : (AZ a.g == 0) = true := by simpa using hc
 ·have e : Lq a = 2 := by unfold Lq; rw [e0, show (Vh a).2 = false from hn]; rfl
  have e2 : Us a = false := by unfold Us; rw [e]; rfl
  exact ⟨e2, e⟩
 ·have e : Lq a = 0 := by unfold Lq; rw [e0, show (Vh a).2 = true from hn]; rfl
  have e2 : Us a = !(CS (Vh a).1).2 := by unfold Us; rw [e]; rfl
  exact ⟨BFA (MP c0).2 h1, e2, e⟩) (λ _ => Jf rfl rfl) _
end Go.Bal
