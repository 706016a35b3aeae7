/- Law ChartRead: its walk goes through. -/
import Derived.Test.YtdbjalgfomknhaaChRd1
import Derived.Test.YtdbjalgfomknhaaChWT1
import Derived.Test.YtdbjalgfomknhaaChT9
set_option linter.unusedVariables false
set_option linter.unusedSimpArgs false
namespace Go.Bal
open Go Go.Sym Go.Proofs
theorem zlen {c : Cht} {z : List Int} (h : ChOk c) (hz : okZ ⟨c, z⟩ = true) : z.length <= 40 := by
 have hm := h.m
 obtain ⟨q1, q2⟩ := (ANY (a := ⟨c, z⟩) hm).1 hz
 dsimp only at q1 q2
 rcases BGG q2 (a := 0) (b := 40) (λ g hg => by have := q1 g hg; omega) with q | q
 ·omega
 ·rw [q]; decide
structure RdOk (x : RdI) : Prop where
 pre : StmB 0 ⟨x.bs, 0, 0⟩
 G : RdG (rdZ x) (bP x).t (bP x).s
 z : okZ (rdZ x) = true
 m : 1 <= (PF x).ms.length /\ (PF x).ms.length <= 14
 n : (PF x).ns.length <= 14
 tl : (bP x).t.length = (PF x).ms.length
 sl : (bP x).s.length = (PF x).ms.length
 to : vW x <= kE x
theorem BSP {f e p q : Int} (hf : 0 <= f /\ f <= 20000) (he : 0 <= e /\ e <= 20000) (hp : 0 <= p /\ p <= 100000000) (hq : 0 <= q /\ q < 500) : wr (f + p) <= wr (wr (f + p) + q) := by
 have e1 : wr (f + p) = f + p := NU (by omega) (by omega)
 have e2 : wr (f + p + q) = f + p + q := NU (by omega) (by omega)
 rw [e1, e2]; omega
theorem BKH (v n : Int) (hn : n <= 100000000) : 0 <= ZS v n /\ ZS v n <= 100000000 := by
 by_cases h : n < 1
 ·unfold ZS; rw [if_pos h]; omega
 ·unfold ZS
  rw [if_neg h]
  have h1 := Int.tmod_lt_of_pos v (show 0 < n by omega)
  have h2 : -n < v.tmod n := by
   have := Int.lt_tmod_of_pos v (show 0 < n by omega)
   omega
  split
  ·have e : wr (v.tmod n + n) = v.tmod n + n := NU (by omega) (by omega)
   rw [e]; omega
  ·omega
theorem BLA {x : RdI} (h : ∀ i, i < x.bs.length -> 0 <= gD x.bs i /\ gD x.bs i <= 255) : preM (rdM x) := BKU (m := 14) (b := true) h ⟨by decide, by decide⟩
theorem rd1 {x : RdI} (h : MadeF (rdM x)) : RdG (rdZ x) (bP x).t (bP x).s /\ okZ (rdZ x) = true := by
 obtain ⟨hr, ht⟩ := h.read (z := (F2 (rdM x)).z) h.z (λ g hg => hg)
 refine ⟨⟨h.ok, hr, ht, λ i hi => ?_⟩, h.z⟩
 have hi : i < (PF x).ms.length := hi
 have q : (Qr (PF x) i).has (gD (bP x).s i) := h.st i hi
 rw [<- ANB hi] at q; exact q
theorem rd2 {x : RdI} (h : MadeF (rdM x)) : (1 <= (PF x).ms.length /\ (PF x).ms.length <= 14) /\ (PF x).ns.length <= (PF x).ms.length /\ (bP x).t.length = (PF x).ms.length /\ (bP x).s.length = (PF x).ms.length := ⟨⟨h.len.1.1, Int.ofNat_le.1 h.len.1.2⟩, h.len.2.2.2, h.len.2.1, h.len.2.2.1⟩
theorem rd3 {x : RdI} (h : MadeF (rdM x)) : (0 <= rdF x /\ rdF x <= 20000) /\ 0 <= rdE x /\ rdE x <= 20000 := ⟨h.tb 0 h.len.1.1, h.tb ((PF x).ms.length - 1) (Nat.sub_lt h.len.1.1 Nat.one_pos)⟩
theorem BXD {x : RdI} (h : ∀ i, i < x.bs.length -> 0 <= gD x.bs i /\ gD x.bs i <= 255) : RdOk x := by
 have hp := BLA h
 have hM := BVF hp
 obtain ⟨g, z⟩ := rd1 hM
 obtain ⟨l1, l2, l3, l4⟩ := rd2 hM
 obtain ⟨b1, b2⟩ := rd3 hM
 refine ⟨hp.1, g, z, l1, Nat.le_trans l2 l1.2, l3, l4, ?_⟩
 unfold kE vW
 generalize rdF x = f at *
 generalize rdE x = e at *
 clear hM g z l1 l2 l3 l4
 refine BSP b1 b2 (BKH _ _ ?_) (BJH _ (by omega))
 have e1 : wr (e - f) = e - f := NU (by omega) (by omega)
 have e2 : wr (e - f + 1) = e - f + 1 := NU (by omega) (by omega)
 rw [e1, e2]; omega
theorem BJF {a n : Nat} {p : Bool} (h : (bif ((a + 1 : Nat) : Int) == (n : Int) then true else p) = false) : ¬a + 1 = n := λ e => by
 subst e
 rw [show (((a + 1 : Nat) : Int) == ((a + 1 : Nat) : Int)) = true from beq_self_eq_true _] at h; cases h
theorem BDM {a n : Nat} {t u v : Int} (h : (bif bif ((a + 1 : Nat) : Int) == (n : Int) then true else decide (t > v) then true else decide (u <= v)) = false) : ¬a + 1 = n /\ ¬t > v /\ ¬u <= v := by
 cases e : ((a + 1 : Nat) : Int) == (n : Int) with
 | true => rw [e] at h; cases h
 | false =>
  rw [e] at h
  have h : (bif decide (t > v) then true else decide (u <= v)) = false := h
  have e : ¬((a + 1 : Nat) : Int) = (n : Int) := by simpa using e
  by_cases c : t > v
  ·rw [decide_eq_true c] at h; cases h
  ·rw [decide_eq_false c] at h
   exact ⟨by omega, c, of_decide_eq_false h⟩
theorem BII (t : Tru) : Tru.mk t.t t.s t.z = t := rfl
theorem rd_e (x : RdI) : XB (MkI.mk (Stm.mk x.bs 0 0) 14 true) = PF x /\ F2 (MkI.mk (Stm.mk x.bs 0 0) 14 true) = bP x /\ rdS x = FK (PF x) /\ N0 x = UD (CZ.mk (PF x) (bP x).z) /\ aO x = (PF x).ms.length /\ rdZ x = CZ.mk (PF x) (bP x).z := by simp only [PF, rdM, bP, rdS, N0, aO, rdZ, and_self]
theorem rd_f (x : RdI) : rdF x = gD (bP x).t 0 /\ rdE x = gD (bP x).t ((PF x).ms.length - 1) /\ Wm x = wr ((PF x).base + ZS x.stage 800) /\ vW x = wr (rdF x + ZS x.at' (wr (wr (rdE x - rdF x) + 1))) /\ kE x = wr (vW x + ZS x.far 500) := by simp only [rdF, rdE, Wm, vW, kE, and_self]
theorem rd_k (x : RdI) : (∀ k, rdK x k = fiK (bP x).s (Wm x) k) /\ ∀ k, rdP x k = pbK (bP x).t (bP x).s (vW x) (kE x) k := by simp only [rdK, rdP, implies_true, and_self]
set_option maxHeartbeats 4000000 in
theorem p_Rd (x : RdI) (K : RdOk x) : V_Rd x := by
 rw [BWD]<;> delta LV bO hd7 He CI CH FE PS SI Pt EE FH CL GY AF CV DC AS IA CG UB CW FG PD HU KV UC Ob wC MT JT HP GG IQ IV IX JU GZ GM HK LC IF II FV ET XS Lv LX JV VO HX UN PX MN gT Rd Zn K5 gQ gW Wa AOY G7 AXL SR Fd AEM AH DD EL EW GS AK BN BQ CF SO AJ HR GI EQ BU FT AQA gV BJ AN AM BV AZ CD Hc BR JD BL AO DZ JI EI DV DI CB GN AT BB GO EP AHZ HD BO DG DY AP BT BA ED AW BE FZ LZ CX AV FN GF AHP FA DB KP CM EF GR JF EU GQ HZ BD FL FB NT BH EG Ea IT EK JJ GA CS GD JQ EH GJ EC Pc HQ TS Fx DH EA CQ FY Hr IW FM JE ND OC IC BC BX Vy IL BF CA BG NQ FP ZR KT KX LJ GT KR QD CJ NA AQX JS OY UK EV NE SZ GH LL PM IM SQ JL Iz SK JN DE OO CE QI BM JZ MJ gH IB DA QF EX SY GB QR CY KZ IZ NV EO HF EZ HT VH R4 TD PO AAV zH IR JA ZB TR MR QK FR Wu LB KG MI NF TJ UO WT IE Rv LU TG VG LQ Wt WA Oc WD Bx NX Rk KY Nx bW Gz ZZ TV UA At UV NL Cl sZ TB Cw NK Db Gu Cq MV P7 Bw SE Ez RL Rb Jq RZ SB MZ Cg Ju RR Io Gs VE YZ Kq SC SH RG XR RF SF Al Nu WE Ae Sm Rz Su P6 XV TI Ab Yk dJ Yd Yn gA Ip ZW QL RQ rC Zg TE lU rI; simp only [CC, eq_self, implies_true, forall_const, DW, BII]
 obtain ⟨hp, G, hz, hm, hn, tl, sl, hto⟩ := K
 obtain ⟨c1, c2, c3, c4, c5, c6⟩ := rd_e x
 obtain ⟨f1, f2, f3, f4, f5⟩ := rd_f x
 obtain ⟨k1, k2⟩ := rd_k x
 rw [c6] at G hz
 have zl := zlen G.ok hz
 obtain ⟨h1, h2, h3, h4, h5⟩ := BKA G hz tl sl
 rw [c1, c2]
 simp only [k1, k2]
 rw [c3, c4, c5]
 clear c1 c2 c3 c4 c5 c6 k1 k2
 generalize rdF x = F at *
 generalize rdE x = E at *
 generalize Wm x = lim at *
 generalize vW x = tm at *
 generalize kE x = o at *
 generalize PF x = C at *
 generalize bP x = T at *
 have h1 : Ox (CT.mk C T) = (true, 0) := h1
 have h2 : SU C = (FK C, 0) := h2
 have h3 : D5 (CZ.mk C T.z) = (UD (CZ.mk C T.z), 0) := h3
 have h4 : (Hh C).e = 0 := h4
 have h5 : (Hh C).q.length <= T.z.length := h5
 have sL : (FK C).length = C.ms.length := Sx C
 have tL : (UD (CZ.mk C T.z)).length = C.ms.length := vL G.rd
 have tin : ∀ i, i < C.ms.length -> (gD (UD (CZ.mk C T.z)) i).lo <= gD T.t i /\ gD T.t i <= (gD (UD (CZ.mk C T.z)) i).hi := λ i hi => (wK G.ok G.rd hi).2 ⟨gD T.t, G.tr, rfl⟩
 have sin : ∀ i, i < C.ms.length -> (gD (FK C) i).lo <= gD T.s i /\ gD T.s i <= (gD (FK C) i).hi := G.st
 have q1 : C.ms.length < 4611686018427387904 := by omega
 have q2 : C.ns.length < 4611686018427387904 := by omega
 have q3 : T.z.length < 4611686018427387904 := by omega
 have wn : IntKind.i64.wrap ((T.t.length : Int) - 1) = ((C.ms.length - 1 : Nat) : Int) := by rw [tl]; exact (NU (by omega) (by omega)).trans (by omega)
 have nx : ∀ {a : Nat}, a < C.ms.length -> IntKind.i64.wrap ((a : Int) + 1) = ((a + 1 : Nat) : Int) := λ h => MO (by omega)
 have R0 : (bif bif bif bif bif bif bif (Ox (CT.mk C T)).2 != 0 then true else (SU C).2 != 0 then true else (D5 (CZ.mk C T.z)).2 != 0 then true else (Hh C).e != 0 then true else !(Ox (CT.mk C T)).1 then true else ((SU C).1.length : Int) != (C.ms.length : Int) then true else ((D5 (CZ.mk C T.z)).1.length : Int) != ((SU C).1.length : Int) then true else decide (((Hh C).q.length : Int) > (T.z.length : Int))) = true -> true = false := by
  rw [h1, h2, h3, h4, sL, tL, decide_eq_false (show ¬((Hh C).q.length : Int) > (T.z.length : Int) by omega)]
  intro h; simp at h
 rw [wn]
 refine ⟨⟨rfl, hp, by omega, by omega⟩, ⟨⟨q1, q2, q3⟩, by omega, by omega⟩, ⟨q1, q2⟩, ⟨q1, q2, q3⟩, ⟨⟨q1, q2⟩, λ _ => hn⟩, ⟨R0, λ _ => ⟨default, ?_⟩⟩, ⟨⟨Int.le_refl _, by omega⟩, by omega, by omega⟩, ⟨⟨0, ⟨f1, f2, f3, rfl, rfl⟩, Nat.zero_le _⟩, λ a ha => ⟨λ hlt => ⟨?_, λ b ⟨b1, b2⟩ => ?_⟩, λ hge => ?_⟩⟩, ⟨⟨0, ⟨f4, rfl⟩, Nat.zero_le _⟩, λ a ha => ⟨λ hlt => ⟨⟨⟨by omega, by omega⟩, ⟨⟨by omega, by omega⟩, λ hne => ?_, λ heq => ?_⟩, λ b ⟨⟨b1, b2⟩, b3⟩ => ?_⟩, λ b ⟨b1, b2⟩ => ?_⟩, λ hge => ⟨default, trivial⟩⟩⟩, ⟨⟨0, ⟨f5, rfl, rfl, rfl⟩, Nat.zero_le _⟩, λ a ha => ⟨λ hlt => ⟨?_, λ b ⟨b1, b2⟩ => ?_⟩, λ hge => ?_⟩⟩, ⟨q1, q2, q3⟩, BKV G hto rfl, λ _ => ⟨⟨q1, q2, q3⟩, λ hK => ?_, λ hK => AZH G rfl hK⟩⟩
 ·rw [h2, h3]
  exact ⟨rfl, λ _ _ => ⟨rfl, rfl⟩, rfl, λ _ _ => ⟨rfl, rfl⟩, trivial, trivial, trivial, trivial, trivial, trivial, λ _ _ => ⟨trivial, trivial⟩, trivial, λ _ _ => ⟨trivial, trivial, trivial, trivial, trivial⟩, trivial, λ _ _ => trivial, trivial, λ _ _ => trivial, trivial, λ _ _ => trivial⟩
 ·have hlt : a < C.ms.length := by omega
  have t1 := tin a hlt
  have s1 := sin a hlt
  have r1 : (0 : Int) <= (a : Int) /\ (a : Int) < T.t.length := ⟨by omega, by omega⟩
  have r2 : (0 : Int) <= (a : Int) /\ (a : Int) < T.s.length := ⟨by omega, by omega⟩
  have r3 : (0 : Int) <= (a : Int) /\ (a : Int) < (UD (CZ.mk C T.z)).length := ⟨by omega, by omega⟩
  have r4 : (0 : Int) <= (a : Int) /\ (a : Int) < (FK C).length := ⟨by omega, by omega⟩
  refine ⟨⟨r1, r3, λ _ => r1, λ _ => r3, λ _ => r2, λ _ => r4, λ _ => r2, λ _ => r4⟩, ?_, λ _ => ⟨λ _ => r2, λ hc => ⟨a, ⟨?_, rfl⟩, hlt, rfl⟩, λ hc => ⟨a, ⟨?_, rfl⟩, hlt, rfl⟩⟩⟩
  ·rw [decide_eq_false (show ¬gD T.t a < (gD (UD (CZ.mk C T.z)) a).lo by omega), decide_eq_false (show ¬gD T.t a > (gD (UD (CZ.mk C T.z)) a).hi by omega), decide_eq_false (show ¬gD T.s a < (gD (FK C) a).lo by omega), decide_eq_false (show ¬gD T.s a > (gD (FK C) a).hi by omega)]
   intro h; cases h
  ·show (bif _ then (a : Int) else fiK T.s lim a) = _
   rw [hc]; rfl
  ·show (bif _ then (a : Int) else fiK T.s lim a) = _
   rw [hc]; rfl
 ·exact ⟨b + 1, ⟨rfl, (nx b1).symm⟩, by omega, by omega⟩
 ·rw [show a = C.ms.length by omega]; exact ⟨default, rfl⟩
 ·have hlt : a < C.ms.length := by omega
  rw [nx hlt, sL]
  simp only [Int.toNat_natCast]
  refine ⟨⟨λ _ => ⟨by omega, by omega⟩, λ h => ⟨by omega, ?_⟩⟩, λ _ => ⟨a, rfl, hlt, rfl⟩, λ h => ?_⟩
  ·have := BJF h; omega
  ·obtain ⟨n1, n2, n3⟩ := BDM h
   have hne : ¬gD T.t a = tm := by simpa using hne
   exact ⟨⟨by omega, by omega⟩, ⟨a, PV (gD T.s a) (gD T.s (a + 1)), GV (gD T.s a) (gD T.s (a + 1))⟩, ⟨rfl, rfl, rfl⟩, ⟨hlt, rfl⟩, .inr ⟨by show a + 1 < _; omega, by show gD T.t a < tm; omega, by show tm < gD T.t (a + 1); omega, rfl, rfl⟩⟩
 ·have hlt : a < C.ms.length := by omega
  have heq : gD T.t a = tm := by simpa using heq
  exact ⟨⟨a, gD T.s a, gD T.s a⟩, ⟨rfl, rfl, rfl⟩, ⟨hlt, rfl⟩, .inl ⟨heq, rfl, rfl⟩⟩
 ·exact ⟨⟨q1, q2, q3⟩, BAY G b1 b3, λ _ => ⟨b.k, rfl, b1, b2⟩⟩
 ·exact ⟨b + 1, (nx b1).symm, by omega, by omega⟩
 ·have hlt : a < C.ms.length := by omega
  have r1 : (0 : Int) <= (a : Int) /\ (a : Int) < T.t.length := ⟨by omega, by omega⟩
  have r2 : (0 : Int) <= (a : Int) /\ (a : Int) < T.s.length := ⟨by omega, by omega⟩
  refine ⟨⟨r1, λ _ => r1⟩, λ hc => ⟨λ _ => r2, λ hd => ⟨r2, a, ⟨?_, ?_, rfl⟩, hlt, rfl⟩, λ hd => ⟨a, ⟨?_, ?_, rfl⟩, hlt, rfl⟩⟩, λ hc => ⟨a, ⟨?_, ?_, rfl⟩, hlt, rfl⟩⟩
  ·show (bif _ then PkB.mk _ true else pbK T.t T.s tm o a).v = _
   rw [hc]; show (bif _ then gD T.s a else _) = _; rw [hd]; rfl
  ·show (bif _ then PkB.mk _ true else pbK T.t T.s tm o a).b = _
   rw [hc]; rfl
  ·show (bif _ then PkB.mk _ true else pbK T.t T.s tm o a).v = _
   rw [hc]; show (bif _ then gD T.s a else _) = _; rw [hd]; rfl
  ·show (bif _ then PkB.mk _ true else pbK T.t T.s tm o a).b = _
   rw [hc]; rfl
  ·show (bif _ then PkB.mk _ true else pbK T.t T.s tm o a).v = _
   rw [hc]; rfl
  ·show (bif _ then PkB.mk _ true else pbK T.t T.s tm o a).b = _
   rw [hc]; rfl
 ·exact ⟨b + 1, ⟨rfl, rfl, (nx b1).symm⟩, by omega, by omega⟩
 ·rw [show a = C.ms.length by omega]; exact ⟨default, rfl, rfl⟩
 ·obtain ⟨r, e⟩ := AYS G rfl hK
  have r : 0 <= fiK T.s lim C.ms.length /\ fiK T.s lim C.ms.length < (C.ms.length : Int) := r
  rw [tl]
  exact ⟨⟨λ _ => r, λ _ => r⟩, e⟩
theorem BUT (x : RdI) (hb : ∀ i, i < x.bs.length -> 0 <= gD x.bs i /\ gD x.bs i <= 255) : FnT Try.prog AXV (xRd x) (AE []) (.bool true) [] :=
 Ky (A := A_Rd x) (L := []) (keep := []) (ren := []) (fz := []) BGH (by kernel_rfl) (AC BRY (AC BFE (AC BLZ (AC AQJ (AC APP (AC AQD (AC BJV (AC ARC (AC AYD (AC AQP (AC BGU AI))))))))))) (p_Rd x (BXD hb))
end Go.Bal
