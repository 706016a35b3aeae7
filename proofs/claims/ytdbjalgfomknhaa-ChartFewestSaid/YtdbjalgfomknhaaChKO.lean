/- Package chart: the fewest stops, with the pairs that prove them as a row of one's own. -/
import Derived.Test.YtdbjalgfomknhaaChK
import Derived.Test.YtdbjalgfomknhaaChFe0
set_option linter.unusedVariables false
set_option linter.unusedSimpArgs false
namespace Go.Bal
open Go Go.Sym Go.Proofs
def C_fewO : Ctr := { α := Cht, xs := λ c => [.d (Rc c)], val := λ c => .tup [.d (GQ (PS c).q), .own 0 2 0 (PS c).r.length, .int 0], keep := λ c => [(0, .live (.row 2 (PS c).r.length λ i => ePr (gD (PS c).r i)))], pre := λ c => [(c.ms.length < 4611686018427387904 /\ c.ns.length < 4611686018427387904) /\ BF c = 0 /\ c.ns.length <= 12 /\ 0 < (PS c).r.length /\ (HG (fwW c)).2 = true] }
def CNE (c : Cht) : Shape := { α := One, dflt := default, T := λ _ => ⟨[(5, .bptr 203 0), (9, .d (GQ (PS c).q)), (10, .own 302 2 0 (PS c).r.length)], [(203, .live (dkB (AT c) 204)), (204, .live (dkM (AT c))), (302, .live (.row 2 (PS c).r.length λ i => ePr (gD (PS c).r i)))]⟩, inv := λ _ => True, meas := λ _ => 0, ffz := [301] }
def BZL (c : Cht) : Ann := { BXW c with cut := λ id => if id = 10 then some [fw10 c] else if id = 11 then some [fw11 c [202]] else if id = 26 then some [CNE c] else none }
def BUA (c : Cht) : Prop := DN Try.prog (BZL c) Kh (AP Kh) (C_fewO.xs c) (AH []) (C_fewO.val c) (C_fewO.keep c) [(0, 302)] []
theorem CCS (c : Cht) : (BUA c) = (AI (NP c c c c (DK (IG c))) (ZU (Aq (JO AJ OW (YA (OI c) BM c c c c c (EO c) (Dc (λ i=>EL i c) c (λ i=>BS i c) (PC (AY c) (ES c)) (OX (AY c) (ES c)) (PR (AY c) (ES c)) (PO (AY c) (ES c)) (PH (AY c) (ES c)) (OG (RP (AY c) (ES c)) (λ i=>RO i (AY c) i (ES c) i i) (RR (AY c) (ES c)) (λ i=>FV i (AY c) (CR (ES c) i) (DQ (ES c) i) (BG (ES c) i) (WR (AY c) i (ES c) i) (WA (AY c) i (ES c) i)) Cm BC (BI (λ i=>XO (AY c) i (ES c) i)) (λ i=>AU (Mw c i) (Mw (CV c) i)) (λ i=>Ic (Dp c i) (CV c) i)))))) (Mz (λ i=>UN FO 0 c (And (YH Ar 1 8) (GY (λ j=>OT (AN AJ (MW j) (OI c) (BT j 0) (TH c c c (HQ (λ k=>BS k c) (KH c) (KG c) (OD c) (HV c) (KE c) (Zj c) (Zw c) (AO (aZ c) (aF c) RM BC (Zy c) (KF c) (Zk c) (MW j) (AK (λ k=>BK k j (PZ k 0))))))) (QO j (BB c)) 50 j 60))) JY)) (λ i=>UN (QO i (BB c)) i c (And (YO (Ty i 1) 1 i 8) (GY (λ j=>DC (AN AJ (VT j i) (OI c) (BT j i) (TH c c c (HQ (λ k=>BS k c) (KH c) (KG c) (OD c) (HV c) (KE c) (Zj c) (Zw c) (AO (aZ c) (aF c) RM BC (Zy c) (KF c) (Zk c) (VT j i) (AK (λ k=>BK k j (KR k (LY k i (BW k) (BW i))))))))) (QO j (BB c)) 50 j i))) (Ho (AI AJ (LR c i) (TH c c c (HQ (λ j=>BS j c) (KH c) (KG c) (OD c) (HV c) (KE c) (Zj c) (Zw c) (AO (aZ c) (aF c) RM BC (Zy c) (KF c) (Zk c) (LR c i) (AK (λ j=>BK j (BB c) (GA j))))))) (WM 1 c)))) (Fk (WM 1 c) (BZ (AGT AJ (GU (Tc c) (BB c)) (AK (λ i=>XH i (Tc c) (BW i))) (BA c) (AZ c) (BE c) (BD c) (DG (AW c) (BR c) (CW c) (DF c) (λ i=>BP i c) (BA c) (AZ c) (BE c) (AO (BD c) (AW c) (DA c) (HO c) (DB c) (UP c) (ZQ (Zo c)) (RH (Zo c)) (AK (λ i=>UH i (Zo c) (DE (Tc c) i) (EJ c)))))) (WZ (λ i=>BZ (GU (Wd c) (BB c)) (DJ (YN (BB c) (Zo c)) (λ j=>PP j (Wd c) (Wc c j) (DE (stM (Vz (CV c)) (Tc c)) (BH j))) (BA c) (AZ c) (BE c) (BD c) (AW c) (EO c) (Dc (λ j=>EL j c) c (λ j=>BS j c) (KH c) (KG c) (OD c) (HV c) (KE c) (Dn c c c))) FO)) (UO (And (JO (GY (λ i=>DY (Mb (mM HJ AJ (NY c) (Ls c) (Tt c i (-1)) (YA (PZ (BB c) (sN c)) (CF i) c c c c c (EO c) (Dc (λ j=>EL j c) c (λ j=>BS j c) (KH c) (KG c) (OD c) (HV c) (KE c) (Dn c c c))))) i (BB c) (TW (PW c i)))) (λ i=>UN (LZ i (BB c) (TW (PW c i))) i c (JO (IH i (sN c) (AI (XQ VU (RF i) (BW i) (SZ (Wd c))) (aG (λ j=>AI (CM (AU (Cf c j) (Wc c i)) (GU (SC j c) (Ay i)) (AK (λ k=>XH k (SC j c) (Wc c (TO k)))) (Gl j (Ay i)) (CF (EZ j)) AJ (mM HJ AJ (NY c) (Ls c) (aE c j (Xs c i)) (YA (OI c) (Gl j i) c c c c c (EO c) (Dc (λ k=>EL k c) c (λ k=>BS k c) (KH c) (KG c) (OD c) (HV c) (KE c) (Dn c c c))))) (BQ (Gh j c) (Hx c j i) (Tv j (GT j)) (AK (λ k=>Gi k j (Gq c c j c j c k)))) (TW (NB c j)))) (AND (λ j=>CU (BZ (Gh j c) (DY (Hx c j i) (EZ j) (GT j) (AK (λ k=>Gi k j (Gq c c j c j c k)))) (TW (NB c j))) (EZ j) (Bo j) (JJ (Eh j) (DX (SC j c)) (EW (Cu j c) (BB c) (KQ (Zr (aH c j c) c j) (AO (AU (Za j c) (Cu j c)) (Yb (Hh j c) c j) (KH c) (KG c) (OD c) (HV c) (KE c) (oI c) (QU (λ k=>CH k (AY c)) (AY c) (λ k=>BP k (AY c)) RM BC (uC c) (KF c) (λ k=>Ic (Zu c k) c k) (NO (AY c) (AY c) (OD c) (HV c) (DA (AY c)) (λ k=>HN k (AY c)) (DB (AY c)) (QR (λ k=>CQ k (AY c)) RM BC (EQ (AY c)) (KF c) (λ k=>Ol c k (Zu c k)) (WE (Za j c) (Fz c) (DI (Hh j c)) (Hh j c)) (Ab (tV c) (Fz c) 20) (AK (λ k=>UH k (Fz c) (HI (AY c) k) (CY (AY c)))))))))) (FX (II (Zr (aH c j c) c j) (ACK (APH c) (oY j c))) (JJ (Cf c j) (BB c) (CE (YH Ar 1 8) Bz jH To Uk (YR 16)) (GY (λ k=>EG AJ (Yq c k 1) AJ (MW (UG c k)) (NY c) (Db c (aS c k (Ym c c j)) c c (Zg k j) c c (Dj c c c c c c (Dl c c c c c c c c (Cz c c c (Yq c k 1) (AK (λ l=>XH l (RL c k) (Ym c c j))) (MW (UG c k)) (AK (λ l=>ON l (UG c k) (Nq c k) (Cu j c) (Cf c j))))))) (Cj k c c k i (Oh c k))))) (aG (λ k=>SU (CM (Yb (Cf c k) c j) (EM (SC k c) (SC j c)) (GB (SC k c) (SC j c)) (Fh k j) (BT (EZ k) (EZ j)) AJ (mM HJ AJ (NY c) (Ls c) (aE c k (Ky c j)) (YA (OI c) (Fh k j) c c c c c (EO c) (Dc (λ l=>EL l c) c (λ l=>BS l c) (KH c) (KG c) (OD c) (HV c) (KE c) (Dn c c c))))) (BZ (Gh k c) (DY (Hx c k i) (EZ k) (GT k) (AK (λ l=>Gi l k (Gq c c k c k c l)))) (TW (NB c k))) c (EZ k) (EZ j))))) (GY (λ k=>BZ AJ (mM HJ AJ (NY c) (Ls c) (aS c k (Ky c j)) (YA (OI c) (Zg k j) c c c c c (EO c) (Dc (λ l=>EL l c) c (λ l=>BS l c) (KH c) (KG c) (OD c) (HV c) (KE c) (Dn c c c)))) (Cj k c c k i (TW (RL c k))))))))) (λ j=>CA (Cj j c c j i (TW (RL c j))) (GY (λ k=>SU (Mb (mM HJ AJ (NY c) (Ls c) (Tt c k (Xs c (MP j))) (YA (OI c) (BT k j) c c c c c (EO c) (Dc (λ l=>EL l c) c (λ l=>BS l c) (KH c) (KG c) (OD c) (HV c) (KE c) (Dn c c c))))) (LZ k (BB c) (TW (PW c k))) c k i))) (AK (λ j=>CA (Cj j c c j i (Oh c j)) (GY (λ k=>SU (CE AJ (bJ (PW c k) c j) AJ (Ya (ZZ c k) c j) (NY c) (Db c (Tt c k (Xs c (MP j))) c c (BT k j) c c (Dj c c c c c c (Dl c c c c c c c c (Cz c c c (bJ (PW c k) c j) (GB (PW c k) (RL c j)) (Ya (ZZ c k) c j) (OJ (ZZ c k) (bQ c k) (Nq c j))))))) (Ab (Pv k c) 1 (Yc c k)) c k i))))) JY) (AK (λ i=>UN (Ab (Pv i c) 1 (Yc c i)) i c (Fp (IH i (sN c) (AI (XQ VU (RF i) (BW i) (SZ (Wd c))) (aG (λ j=>AI (AI (AU (Cf c j) (Wc c i)) (GU (SC j c) (Ay i)) (HQ (λ k=>XH k (SC j c) (Wc c (TO k))) (Gl j (Ay i)) (CF (EZ j)) AJ (EM (NB c j) (PW c i)) AJ (CL (MD c j) (ZZ c i)) (NY c) (Db c (aE c j (Xs c i)) c c (Gl j i) c c (Dj c c c c c c (Dl c c c c c c c c (Cz c c c (EM (NB c j) (PW c i)) (GB (NB c j) (PW c i)) (CL (MD c j) (ZZ c i)) (OJ (MD c j) (Gj c j) (bQ c i)))))))) (BQ (Gh j c) (Hx c j i) (Tv j (GT j)) (AK (λ k=>Gi k j (Gq c c j c j c k)))) (kE (NB c j)))) (AND (λ j=>CU (BZ (Gh j c) (DY (Hx c j i) (EZ j) (GT j) (AK (λ k=>Gi k j (Gq c c j c j c k)))) (kE (NB c j))) (EZ j) (Bo j) (JJ (Eh j) (DX (SC j c)) (EW (Cu j c) (BB c) (KQ (Zr (aH c j c) c j) (AO (AU (Za j c) (Cu j c)) (Yb (Hh j c) c j) (KH c) (KG c) (OD c) (HV c) (KE c) (oI c) (QU (λ k=>CH k (AY c)) (AY c) (λ k=>BP k (AY c)) RM BC (uC c) (KF c) (λ k=>Ic (Zu c k) c k) (NO (AY c) (AY c) (OD c) (HV c) (DA (AY c)) (λ k=>HN k (AY c)) (DB (AY c)) (QR (λ k=>CQ k (AY c)) RM BC (EQ (AY c)) (KF c) (λ k=>Ol c k (Zu c k)) (WE (Za j c) (Fz c) (DI (Hh j c)) (Hh j c)) (Ab (tV c) (Fz c) 20) (AK (λ k=>UH k (Fz c) (HI (AY c) k) (CY (AY c)))))))))) (FX (II (Zr (aH c j c) c j) (ACK (APH c) (oY j c))) (JJ (Cf c j) (BB c) (CE (YO (And (Ke (NB c j)) (LU 0 (NB c j) TB)) 1 (bH c j) 8) (Bn (MD c j)) jH Vs (Ta (MD c j)) (YR (Tx (MD c j) 16))) (GY (λ k=>EG AJ (Yq c k (MP (bH c j))) AJ (VT (UG c k) (MD c j)) (NY c) (Db c (aS c k (Ym c c j)) c c (Zg k j) c c (Dj c c c c c c (Dl c c c c c c c c (Cz c c c (Yq c k (MP (bH c j))) (AK (λ l=>XH l (RL c k) (Ak l (bH c j) (NB c j) l (Ym c c j)))) (VT (UG c k) (MD c j)) (AK (λ l=>ON l (UG c k) (Nq c k) (LY l (MD c j) (VJ (Gj c j) l) (Cu j c)) (LY l (MD c j) (XX (Gj c j) l) (Cf c j)))))))) (Cj k c c k i (Oh c k))))) (aG (λ k=>SU (AI (Yb (Cf c k) c j) (EM (SC k c) (SC j c)) (HQ (λ l=>QX l (SC k c) (SC j c)) (Fh k j) (BT (EZ k) (EZ j)) AJ (aV (NB c k) c j) AJ (Yp (MD c k) c j) (NY c) (Db c (aE c k (Ky c j)) c c (Fh k j) c c (Dj c c c c c c (Dl c c c c c c c c (Cz c c c (aV (NB c k) c j) (GB (NB c k) (NB c j)) (Yp (MD c k) c j) (OJ (MD c k) (Gj c k) (Gj c j)))))))) (BZ (Gh k c) (DY (Hx c k i) (EZ k) (GT k) (AK (λ l=>Gi l k (Gq c c k c k c l)))) (kE (NB c k))) c (EZ k) (EZ j))))) (GY (λ k=>EG AJ (aV (RL c k) c j) AJ (Yp (UG c k) c j) (NY c) (Db c (aS c k (Ky c j)) c c (Zg k j) c c (Dj c c c c c c (Dl c c c c c c c c (Cz c c c (aV (RL c k) c j) (GB (RL c k) (NB c j)) (Yp (UG c k) c j) (OJ (UG c k) (Nq c k) (Gj c j)))))) (Cj k c c k i (Oh c k)))))))) (AK (λ j=>CA (Cj j c c j i (Oh c j)) (GY (λ k=>SU (CE AJ (bJ (PW c k) c j) AJ (Ya (ZZ c k) c j) (NY c) (Db c (Tt c k (Xs c (MP j))) c c (BT k j) c c (Dj c c c c c c (Dl c c c c c c c c (Cz c c c (bJ (PW c k) c j) (GB (PW c k) (RL c j)) (Ya (ZZ c k) c j) (OJ (ZZ c k) (bQ c k) (Nq c j))))))) (Ab (Pv k c) 1 (Yc c k)) c k i))))) (Aq (AN (EM (Bl c) (PW c i)) (MT (Yc c i)) (AK (λ j=>PL j (Bl c) (PW c i) (BH j))) AJ (AO (PM (My c) (ZZ c i)) (KH c) (KG c) (OD c) (HV c) (KE c) (Zj c) (Zw c) (AO (aZ c) (aF c) RM BC (Zy c) (KF c) (Zk c) (PM (My c) (ZZ c i)) (UF (My c) (bQ c i))))))))) (UO (AI (CE (EM (Sr c) (Bl c)) (GB (Sr c) (Bl c)) (KH c) (KG c) (OD c) (KM (HV c) (KE c) (oI c) (CW (AY c)) (DF (AY c)) (MY (AY c)) Cm BC (AO (uC c) (KF c) (BI (λ i=>Ic (Zu c i) c i)) BC (BI (λ i=>XO (AY c) i (JV c) i)) (BI (λ i=>Ep (Mw c i) (Pa c c) i)) (BI (λ i=>Ol c i (IK (Pa c c) i))) (Lc (Sr c)) (tV c)))) (CM (BA (JV c)) (AZ (JV c)) (BE (JV c)) (BD (JV c)) (AW (JV c)) (BR (JV c)) (QU (λ i=>CH i (JV c)) (JV c) (λ i=>BP i (JV c)) (EP (Pa c c)) BC (BI (λ i=>WG (JV c) i (AY c) i)) (KF c) (λ i=>FG (JV c) i (Dp c i)) (MJ (JV c) (QR (λ i=>CQ i (JV c)) (EP (Pa c c)) BC (BI (λ i=>XS (AY c) i (JV c) i)) (KF c) (λ i=>FF (Dp c i) (JV c) i) (UA (JV c)) (PA (JV c)) (BI (λ i=>Cw (Ac (JV c) i) i (CY (JV c)))))))) (FX (not (Lg (AXY (CV (JV c)) c (Pa c c)))) JY (CM (Ke (Bl c)) (AK (λ i=>TK i (Bl c) (DE (Bl c) i))) AJ (BV (LH (My c))) BM (BV (LH (My c))) (aD (LH (My c)) (My c))))))))))) := by kernel_rfl
def C_PairsO : Ctr := { C_fewO with val := λ c => .tup [.own 0 2 0 (PS c).r.length, .int 0] }
def BKF (c : Cht) : Prop := DN Try.prog (ann 15 [(lX, C_fewO.spec dC1)]) sB (AP sB) (C_PairsO.xs c) (AH []) (C_PairsO.val c) (C_PairsO.keep c) [(0, 2016)] []
theorem BTA (c : Cht) : (BKF c) = ((c.p.lo = c.p.lo /\ c.p.hi = c.p.hi /\ c.base = c.base /\ c.scale = c.scale /\ c.off = c.off /\ (HX c.ms.length λ (i : Nat) => gD c.ms i).length = c.ms.length /\ (∀ (i : Nat), i
 < (HX c.ms.length λ (i : Nat) => gD c.ms i).length -> (gD (HX c.ms.length λ (i : Nat) => gD c.ms i) i).pl = (gD c.ms i).pl /\ (gD (HX c.ms.length λ (i : Nat) => gD c.ms i) i).ht = (gD c.ms i).ht) /\ (HX
 c.ns.length λ (i : Nat) => gD c.ns i).length = c.ns.length /\ (∀ (i : Nat), i < (HX c.ns.length λ (i : Nat) => gD c.ns i).length -> (gD (HX c.ns.length λ (i : Nat) => gD c.ns i) i).mi = (gD c.ns i).mi /\ (gD (HX
 c.ns.length λ (i : Nat) => gD c.ns i) i).t.lo = (gD c.ns i).t.lo /\ (gD (HX c.ns.length λ (i : Nat) => gD c.ns i) i).t.hi = (gD c.ns i).t.hi /\ (gD (HX c.ns.length λ (i : Nat) => gD c.ns i) i).s.lo = (gD c.ns
 i).s.lo /\ (gD (HX c.ns.length λ (i : Nat) => gD c.ns i) i).s.hi = (gD c.ns i).s.hi) /\ ((HX c.ms.length λ (i : Nat) => gD c.ms i).length < (4611686018427387904 : Nat) /\ (HX c.ns.length λ (i : Nat) => gD c.ns
 i).length < (4611686018427387904 : Nat)) /\ BF (Cht.mk c.p c.base c.scale c.off (HX c.ms.length λ (i : Nat) => gD c.ms i) (HX c.ns.length λ (i : Nat) => gD c.ns i)) = (0 : Int) /\ (HX c.ns.length λ (i : Nat)
 => gD c.ns i).length <= (12 : Nat) /\ (0 : Nat) < (PS (Cht.mk c.p c.base c.scale c.off (HX c.ms.length λ (i : Nat) => gD c.ms i) (HX c.ns.length λ (i : Nat) => gD c.ns i))).r.length /\ (HG (fwW (Cht.mk c.p c.base
 c.scale c.off (HX c.ms.length λ (i : Nat) => gD c.ms i) (HX c.ns.length λ (i : Nat) => gD c.ns i)))).snd = true) /\ (0 : Nat) = (0 : Nat) /\ (PS c).r.length = (PS (Cht.mk c.p c.base c.scale c.off (HX c.ms.length
 λ (i : Nat) => gD c.ms i) (HX c.ns.length λ (i : Nat) => gD c.ns i))).r.length /\ Int.ofNat (0 : Nat) = Int.ofNat (0 : Nat) /\ (PS c).r.length = (PS (Cht.mk c.p c.base c.scale c.off (HX c.ms.length λ (i : Nat) =>
 gD c.ms i) (HX c.ns.length λ (i : Nat) => gD c.ns i))).r.length /\ ∀ (i : Nat), i < (PS c).r.length -> (gD (PS c).r i).a = (gD (PS (Cht.mk c.p c.base c.scale c.off (HX c.ms.length λ (i : Nat) => gD c.ms i) (HX
 c.ns.length λ (i : Nat) => gD c.ns i))).r i).a /\ (gD (PS c).r i).b = (gD (PS (Cht.mk c.p c.base c.scale c.off (HX c.ms.length λ (i : Nat) => gD c.ms i) (HX c.ns.length λ (i : Nat) => gD c.ns i))).r i).b) := by
 kernel_rfl
set_option maxHeartbeats 4000000 in
theorem CJJ (c : Cht) (h1 : c.ms.length < 4611686018427387904 /\ c.ns.length < 4611686018427387904) (h0 : BF c = 0) (hn : 1 <= c.ns.length /\ c.ns.length <= 12) (hr : 0 < (PS c).r.length) (htm : (HG (fwW c)).2 = true) : BUA c := by
 have hl := QE h0
 have hs := fD h0
 have hM := BPM hs.1
 have hO := APL c
 have hR := λ i (h : i < c.ns.length) => BOY c h
 have hF := kQ c
 rw [CCS]<;> delta MF Sw BU CO FM TP WF Ua FQ FP CL AK CA DD AU BW Aj GM FX WN KZ KB XF NR IV HC HA HZ ID IA JD GN FW FY GY FO PB Sb Ea JW ZA JY PY BI NH MG YE AQ OE DX DE KO NJ WZ Mz Ze Vz aW ACK LH Fm vA aG GT EZ AND Wd AWO AOB AI BG AY DV EN GF AN BO XE BK CG BJ BB BY AO AM HS Fp FZ BL BV ED AWQ Wi Z7 AGT mM UZ NK CS GS CD IW CJ CX DM Bl AZ IY CR CY Dp DP MP EU Ad CV DH BA AW HD Fs DQ GJ GG EA LU EI ES HY DG BD FS EJ FU IK KR GU R8 APH BE EH ER TS AXY OZ AJ EY FR XX OO BH EM DI Sr BZ IE mJ HM MN GC PW HI KP EF VJ BDU DU EO GI DS bQ BC KY XD Wc FH LB HQ GR JG HR Mt GX WY KU BAN PP GO PZ FI LC Ab FT SC JU My Cf TL Bf LD JX QC ZZ IR KM TT Ac LG GD NL JH VO BQ Mw OT BT NG Xs WV LV SJ MK DK DO LR OG NB Zu HB BR DC DF LP JV IL IP IS IM JZ PL XH QX EL CH MX Yy OC ME NF Ke RC NM RB CM QA OF Cm OD KD WQ RL SZ BM CE NY DB DA Cu MM ON BS CW HV OH NO KQ CU Ge SY PN LJ TO Ky QG bT KE TK KH JO NA EW Pf JK QK BP uI KG MB Hu MD bU GV HF DY XG GP II WG LY Ah jF Vt JJ YR KF GA FV Tn Ou HN GB UR OI OJ EP YC CF Uc aD EV OW EG XS oR TH HJ Kr UG DJ FF AXW AKC aB IG PM NV CQ FG LZ MW Gl Zw EQ Zk pT YN aF Zy MT aZ RF Hc Hv kE Ls Zj IH Fk Fz Pj PA Br Tx WE QO oY RM HO Pu Oi uR Tt To Vs Uk TW UF Tc MY XW Hg uA WM VT Ta Gg Bo PC PH Ho UA VU TB Ay SU UH Hn PO Eh OX PR Fh RP RR Hh Gh ZQ Gi UO RH Ty UT UP Gj Cj UN XO Ic Ar Oh Dn Hx Pa Nq bH Oo Ak WA Aq MJ AKB XM NP Dj WR XQ Pv Lc Bz Zo YO Bn Cw Gv YH ZU Zg Za Yc Tv Lg Gq Ym aS aH Ol RO YA Db QU QR bJ Zr Yb Ya tV Dc aV Yq Ep Yp uC jH aE oI sN Mb Dl Cz; simp only [CC, eq_self, implies_true, forall_const, EB, zJ, Ts, BAJ, A7, BOU]
 have hI : ∀ i, i < c.ns.length -> gD (HX c.ns.length λ i => (i : Int)) i = (i : Int) := λ i hi => EK _ _ _ hi
 have hT : ∀ k j, j < k -> gD ((CB c).take k) j = gD (CB c) j := λ k j h => Qd h
 have hTl : ∀ k, k <= c.ns.length -> ((CB c).take k).length = k := λ k h => by rw [List.length_take, hO]; omega
 have pre : ∀ x ∈ [0], True := λ _ _ => trivial
 refine ⟨⟨h1, h0⟩, ⟨⟨⟨default, trivial⟩, ?_, ?_⟩, λ _ => ⟨⟨⟨hI, hn.2, by omega, ?_⟩, default, hO, Nat.le_refl _, λ _ _ => rfl⟩, ⟨⟨0, ⟨rfl, by rw [hO], rfl⟩, Nat.zero_le _, rfl⟩, ?_, ?_⟩, ?_⟩⟩⟩
 ·refine ⟨λ _ => ⟨by decide, 1, ⟨rfl, by decide, rfl, λ i hi => by omega⟩, by omega, by omega⟩, λ h => h (by omega)⟩
 ·intro a ha
  refine ⟨λ h => ⟨⟨Nat.one_pos, (λ h => by cases h), by omega, by omega⟩, a + 1, ⟨rfl, by rw [PE (by omega) (by omega)]; rfl, rfl, λ i hi => ?_⟩, by omega, by omega⟩, λ h => ⟨default, by omega, by omega⟩⟩
  by_cases h2 : i < a
  ·rw [decide_eq_true h2]; rfl
  ·rw [decide_eq_false h2]; show (i : Int) = a; omega
 ·intro i hi; rw [hI i hi]; omega
 ·rintro k ⟨hk, hq⟩
  refine ⟨λ h => ?_, λ h => ?_⟩
  ·have hk2 : k < c.ns.length := by omega
   refine ⟨⟨⟨by omega, by omega⟩, ⟨by omega, by omega, by omega⟩, ⟨⟨k, 0⟩, ⟨rfl, hTl k hk, λ i hi => ?_, rfl, rfl, rfl, rfl⟩, ⟨hk2, rfl, Nat.zero_le _, λ t ht => absurd ht (Nat.not_lt_zero _)⟩, hq⟩, ?_⟩, ?_, ?_⟩
   ·rw [hT _ _ (by have hi : i < ((CB c).take k).length := hi; rw [hTl k hk] at hi; exact hi), show Int.toNat 0 = 0 from rfl, Nat.zero_add]
   ·rintro y ⟨⟨y1, y2, y3, y4⟩, y5⟩
    have hp : ∀ j, j < y.i -> (bif decide ((gD c.ns (gD ((CB c).take y.i) j).toNat).mi > (TQ c y.i).la) then XN c { a := gD ((CB c).take y.i) j, b := gD (CB c) y.i } else false) = fwP c (TQ c y.i).la (gD (CB c) y.i) (gD (CB c) j) := λ j hj => by rw [hT _ _ hj]; rfl
    refine ⟨λ hj => ⟨⟨by omega, by rw [hTl _ (by omega)]; exact hj⟩, ⟨by rw [hT _ _ (by omega)]; exact hR _ (by omega), λ _ => ⟨⟨by rw [hT _ _ (by omega)]; exact hR _ (by omega), hR _ y1⟩, ⟨hl.2.1.2, hl.2.2⟩, hM⟩⟩, λ hc => ?_, λ hc => ?_⟩, λ hj => ?_⟩
    ·rw [hp _ (by omega)] at hc
     have e := BRR (by omega) (by omega) y4 hc
     rw [hT _ _ (by omega)]
     have h8 : (TQ c y.i).r = [] := List.length_eq_zero_iff.1 (by rw [(hF y.i).2, y5]; rfl)
     refine ⟨hR _ y1, by decide, y.i, ?_, y1, y2, ?_⟩
     ·rw [e, y5, h8]
      refine ⟨rfl, rfl, rfl, rfl, rfl, λ i hi => ?_, rfl, λ i hi => ?_⟩
      ·have hi : i < 1 := hi
       obtain rfl : i = 0 := by omega
       rfl
      ·have hi : i < 1 := hi
       obtain rfl : i = 0 := by omega
       exact ⟨rfl, rfl⟩
     ·rw [e, y5]; exact Nat.one_pos
    ·rw [hp _ (by omega)] at hc
     have e : IntKind.i64.wrap ((y.j : Int) + 1) = ((y.j + 1 : Nat) : Int) := by rw [PE (by omega) (by omega)]; rfl
     refine ⟨⟨y.i, y.j + 1⟩, ⟨rfl, rfl, λ _ _ => rfl, rfl, e.symm, rfl, rfl⟩, ⟨⟨y1, y2, by show y.j + 1 <= y.i; omega, λ t ht => ?_⟩, y5⟩, by show _ - (y.j + 1) < _; omega⟩
     have ht : t < y.j + 1 := ht
     by_cases h2 : t = y.j
     ·subst h2; exact hc
     ·exact y4 t (by omega)
    ·have e := BPA (by omega) (λ t (ht : t < y.i) => y4 t (by omega))
     refine ⟨y.i, ?_, y1, y2, ?_⟩
     ·rw [e]; exact ⟨rfl, rfl⟩
     ·rw [e]; exact y5
   ·rintro k' ⟨g1, g2, g3⟩
    refine ⟨k' + 1, ⟨rfl, by rw [PE (by omega) (by omega)]; rfl⟩, ⟨by omega, g3⟩, by omega⟩
   ·rintro k' ⟨g1, g2, g3⟩
    refine ⟨k' + 1, ⟨rfl, rfl, rfl, by rw [PE (by omega) (by omega)]; rfl, rfl, λ _ _ => rfl, rfl, λ _ _ => ⟨rfl, rfl⟩⟩, ⟨by omega, g3⟩, by omega⟩
  ·have e : k = c.ns.length := by omega
   have h8 : (TQ c k).r = [] := List.length_eq_zero_iff.1 (by rw [(hF k).2, hq]; rfl)
   subst e
   have hr : 0 < (TQ c c.ns.length).r.length := hr
   rw [h8] at hr; exact absurd hr (Nat.lt_irrefl 0)
 ·rintro k ⟨hk, hq⟩
  refine ⟨λ h => ?_, λ h => ?_⟩
  ·have hk2 : k < c.ns.length := by omega
   refine ⟨⟨⟨by omega, by omega⟩, ⟨by omega, by omega, by omega⟩, ⟨⟨k, 0⟩, ⟨rfl, hTl k hk, λ i hi => ?_, rfl, rfl, rfl, rfl, rfl, rfl, rfl, λ _ _ => rfl, rfl, λ _ _ => ⟨rfl, rfl⟩⟩, ⟨hk2, rfl, Nat.zero_le _, λ t ht => absurd ht (Nat.not_lt_zero _)⟩, hq⟩, ?_⟩, ?_⟩
   ·rw [hT _ _ (by have hi : i < ((CB c).take k).length := hi; rw [hTl k hk] at hi; exact hi), show Int.toNat 0 = 0 from rfl, Nat.zero_add]
   ·rintro y ⟨⟨y1, y2, y3, y4⟩, y5⟩
    have hp : ∀ j, j < y.i -> (bif decide ((gD c.ns (gD ((CB c).take y.i) j).toNat).mi > (TQ c y.i).la) then XN c { a := gD ((CB c).take y.i) j, b := gD (CB c) y.i } else false) = fwP c (TQ c y.i).la (gD (CB c) y.i) (gD (CB c) j) := λ j hj => by rw [hT _ _ hj]; rfl
    refine ⟨λ hj => ⟨⟨by omega, by rw [hTl _ (by omega)]; exact hj⟩, ⟨by rw [hT _ _ (by omega)]; exact hR _ (by omega), λ _ => ⟨⟨by rw [hT _ _ (by omega)]; exact hR _ (by omega), hR _ y1⟩, ⟨hl.2.1.2, hl.2.2⟩, hM⟩⟩, λ hc => ?_, λ hc => ?_⟩, λ hj => ?_⟩
    ·rw [hp _ (by omega)] at hc
     have e := BRR (by omega) (by omega) y4 hc
     rw [hT _ _ (by omega)]
     have h9 := hF y.i
     refine ⟨hR _ y1, ⟨⟨Nat.one_pos, (λ h => by cases h), by omega, by omega⟩, Nat.one_pos, (λ h => by cases h), by omega, by omega⟩, y.i, ?_, y1, y2, ?_⟩
     ·rw [e]
      refine ⟨by simp, by simp, rfl, rfl, by simp, λ i hi => ?_, by simp, λ i hi => ?_⟩
      ·exact KK _ _ _ (by simpa using hi)
      ·have hi2 : i < (TQ c y.i).r.length + 1 := by simpa using hi
       show (gD ((TQ c y.i).r ++ [_]) i).a = _ /\ (gD ((TQ c y.i).r ++ [_]) i).b = _
       rw [KK _ _ _ hi2]
       cases decide (i < (TQ c y.i).r.length) <;> exact ⟨rfl, rfl⟩
     ·rw [e]; simp
    ·rw [hp _ (by omega)] at hc
     have e : IntKind.i64.wrap ((y.j : Int) + 1) = ((y.j + 1 : Nat) : Int) := by rw [PE (by omega) (by omega)]; rfl
     refine ⟨⟨y.i, y.j + 1⟩, ⟨rfl, rfl, λ _ _ => rfl, rfl, e.symm, rfl, rfl, rfl, rfl, rfl, λ _ _ => rfl, rfl, λ _ _ => ⟨rfl, rfl⟩⟩, ⟨⟨y1, y2, by show y.j + 1 <= y.i; omega, λ t ht => ?_⟩, y5⟩, by show _ - (y.j + 1) < _; omega⟩
     have ht : t < y.j + 1 := ht
     by_cases h2 : t = y.j
     ·subst h2; exact hc
     ·exact y4 t (by omega)
    ·have e := BPA (by omega) (λ t (ht : t < y.i) => y4 t (by omega))
     refine ⟨y.i, ?_, y1, y2, ?_⟩
     ·rw [e]; exact ⟨rfl, rfl, rfl, rfl, rfl, λ _ _ => rfl, rfl, λ _ _ => ⟨rfl, rfl⟩⟩
     ·rw [e]; exact y5
   ·rintro k' ⟨g1, g2, g3⟩
    refine ⟨k' + 1, ⟨rfl, rfl, rfl, by rw [PE (by omega) (by omega)]; rfl, rfl, λ _ _ => rfl, rfl, λ _ _ => ⟨rfl, rfl⟩⟩, ⟨by omega, g3⟩, by omega⟩
  ·have e : k = c.ns.length := by omega
   subst e
   exact ⟨default, rfl, Nat.le_refl _, λ _ _ => rfl, rfl, rfl, λ _ _ => ⟨rfl, rfl⟩⟩
 ·have h9 := hF c.ns.length
  refine ⟨⟨λ _ => rfl, by have : (PS c).q.length <= c.ns.length := h9.1; omega, hl.2.1.2⟩, ⟨hl.2.1.1, hl.2.1.2, hs.1⟩, λ hc => ?_⟩
  have hc : (HG (fwW c)).2 = false := hc
  rw [htm] at hc; cases hc
theorem CEH : AR Try.prog lX (C_fewO.spec dC1) := Jp C_fewO BZL [(0, 302)] [] AEK (λ _ => by kernel_rfl) (λ _ => AC eS (AC BQM (AC ANG (AC AXS (AC E7 AL))))) (λ (c : Cht) h => by
 obtain ⟨h1, h0, h2, h3, h4⟩ : (c.ms.length < 4611686018427387904 /\ c.ns.length < 4611686018427387904) /\ BF c = 0 /\ c.ns.length <= 12 /\ 0 < (PS c).r.length /\ (HG (fwW c)).2 = true := h
 have hF := kQ c c.ns.length
 have h5 : 0 < (TQ c c.ns.length).r.length := h3
 exact CJJ c h1 h0 ⟨by omega, h2⟩ h3 h4) (λ _ => Mi rfl rfl) _
theorem BSZ : AR Try.prog AGI (C_PairsO.spec dC1) := Jp C_PairsO (λ _ => ann 15 [(lX, C_fewO.spec dC1)]) [(0, 2016)] [] AYO (λ _ => by kernel_rfl) (λ _ => AC CEH AL) (λ (c : Cht) h => by
 show BKF c; rw [BTA]; simp only [CC, eq_self, implies_true, forall_const, EB]; exact h) (λ _ => Mi rfl rfl) _
end Go.Bal
