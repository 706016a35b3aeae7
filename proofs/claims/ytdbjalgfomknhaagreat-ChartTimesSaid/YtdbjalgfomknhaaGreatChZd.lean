/- Package chart, with the reference: settled. -/
import Derived.Test.YtdbjalgfomknhaaGreatChZd0
set_option linter.unusedVariables false
set_option linter.unusedSimpArgs false
namespace Go.Bal
open Go Go.Sym Go.Proofs
def dZL : List AVal -> Heap -> Option (ZL × List (Nat × Nat) × List Nat)
 | [x, y, z], H => match nM x H, fM y H, Wv z H with
  | some (c, f), some (l, e), some (s, g) => some (⟨⟨c, l⟩, s⟩, [], f ++ e ++ g)
  | _, _, _ => none
 | _, _ => none
structure FB where
 f : Nat -> Span
 b : Bool
 k : Nat
 deriving Inhabited
def seR (x : ZL) (f : Nat -> Span) : HCell := .live (.row 2 x.l.length λ i => IL (f i))
def seH (x : ZL) (f : Nat -> Span) : List (Nat × HCell) := [(201, .live (sJ x.a.c)), (202, seR x f)]
def seS (x : ZL) (b : Bool) : List (Nat × AVal) := [(1, .d (DV x.a.z)), (3, .bptr 201 0), (8, .own 202 2 0 x.l.length), (9, .bool b)]
def seM (x : ZL) (s : FB) : Nat := jF s.f x.l.length + (bif s.b then 1 else 0)
def se3 (x : ZL) : Shape := { α := FB, dflt := default, T := λ s => ⟨seS x s.b, seH x s.f⟩, inv := λ s => SetI x s.f /\ (s.b = false -> neF s.f x.l.length /\ fixF x s.f (x.l.length - 1)), meas := λ s => seM x s, first := [(201, 1000), (202, 2032)] }
def se6 (x : ZL) (m : Nat) : Shape := { α := FB, dflt := default, T := λ s => ⟨seS x false ++ [(10, .int s.k)], seH x s.f⟩, inv := λ s => (s.k <= x.l.length /\ jF s.f x.l.length + 1 = m) /\ SetI x s.f /\ neF s.f s.k, meas := λ s => x.l.length - s.k }
def se11 (x : ZL) (m : Nat) : Shape := { α := FB, dflt := default, T := λ s => ⟨seS x s.b ++ [(11, .int s.k)], seH x s.f⟩, inv := λ s => (s.k <= x.l.length - 1 /\ SetI x s.f /\ neF s.f x.l.length) /\ seM x s < m /\ (s.b = false -> fixF x s.f s.k), meas := λ s => x.l.length - s.k }
def se16 (x : ZL) (m q : Nat) : Shape := { α := FB, dflt := default, T := λ s => ⟨seS x s.b ++ [(11, .int s.k), (12, .bptr 203 0), (13, .bptr 204 0)], seH x s.f ++ [(203, .live (.box [.int (Ew x s.k (s.f s.k) (s.f (s.k + 1))).lo, .int (Ew x s.k (s.f s.k) (s.f (s.k + 1))).hi])), (204, .live (.box [.int (eQ x s.k (s.f s.k) (s.f (s.k + 1))).lo, .int (eQ x s.k (s.f s.k) (s.f (s.k + 1))).hi]))]⟩, inv := λ s => (s.k + 1 < x.l.length /\ x.l.length - s.k = q /\ SetI x s.f /\ neF s.f x.l.length) /\ seM x s < m /\ (s.b = false -> fixF x s.f s.k), meas := λ s => 0, first := [(203, 14144), (204, 14160)] }
def C_zSet : Ctr := { α := ZL, xs := λ x => [.d (Dj x.a.c), .d (DV x.a.z), .d (DE x.l)], val := λ x => .tup [.d (DE (Zf x).1), .bool (Zf x).2], keep := λ _ => [], pre := λ x => [PreS x] }
def BCN (x : ZL) : Ann := { ann 130 [(zK, C_zLea.spec dCtI), (AAZ, C_zMos.spec dCZG)] with mt := λ id => id == 1, loops := λ id => if id = 3 then some [se3 x] else none, inner := λ gs id => if id = 6 then some [se6 x (gs.getD 0 0)] else if id = 11 then some [se11 x (gs.getD 0 0)] else none, cutIn := λ gs id => if id = 16 then some [se16 x (gs.getD 1 0) (gs.getD 0 0)] else none }
def BGF (x : ZL) : Prop := CH Try.prog (BCN x) tO (AH tO) (C_zSet.xs x) (AB []) (.tup [.d (DE (Zf x).1), .bool (Zf x).2]) [] [] [202]
abbrev Xr:=ZL.l
abbrev tG:=@Exists FB
abbrev OQ:=ZL.a
abbrev dG:=FB.b
abbrev KK:=FB.f
abbrev kC:=Ew
abbrev kH:=eQ
abbrev AIS:=λ (f : FB -> Prop) => ∀ (x : FB), f x
abbrev GV:=FB.k
abbrev cV a:=mR (Zf a)
abbrev IN a:=ED (Xr a)
abbrev Yu a b:=BU (EF (dG a)) b
abbrev Dq a b:=KK a (DF b)
abbrev Wy a b c:=hd40 a (Dq b c)
abbrev Wn a b c:=hd40 a (KK b c)
abbrev iR a:=OF (IN a)
abbrev Jz a b:=BJ (KK a b)
abbrev Kf a b:=BG (KK a b)
abbrev Kz a b c d e f:=AU a b (HO (Kf c d) (Jz e f))
abbrev Js a b:=SetI a (KK b)
abbrev Ft a:=KC (Xr a)
abbrev OR a:=DO (OQ a)
abbrev bB a:=CG (OR a)
abbrev aD a:=JS (OR a)
abbrev Lo a:=AP (OR a)
abbrev Jt a:=OJ (OQ a)
abbrev Ll a:=OC (OQ a)
abbrev cS a b c:=Kd a (OQ b) c
abbrev bW a:=iZ (OQ a)
abbrev Tv a b c d:=kH a (GV b) (KK c (GV c)) (Dq d (GV d))
abbrev Fa a b c d:=kC a (GV b) (KK c (GV c)) (Dq d (GV d))
abbrev WR a:=BV (GV a)
abbrev Tf a:=DS (GV a)
abbrev aC a:=UU (Tf a)
abbrev Pe a:=BZ (GV a)
attribute [go_sem] Xr tG OQ dG KK kC kH AIS GV cV IN Yu Dq Wy Wn iR Jz Kf Kz Js Ft OR bB aD Lo Jt Ll cS bW Tv Fa WR Tf aC Pe
theorem BMY (x : ZL) : (BGF x) = (AE (RE (ZM AI YQ) (Es IH (IN x)) (Hz (IN x)) (QK (IN x) 9223372036854775807) (En (BV (IN x)) 16)) (tG (λ i=>AE (FX (bW x) (AD (λ j=>cS j x j)) AI (JU (Xr x) (BV (IN x))) (CK (dG i)) (Ll x) (Jt x) (At (Lo x) (OR x) (aD x) (bB x) (JU (Xr x) (BV (IN x))) (λ j=>LI j (Xr x) (KK i j) (GK (Xr x) (ZE j))))) (Js x i) (Yu i (HS (AD (λ j=>Kz j (IN x) i j i j)) (λ j=>BH j (iR x) (Wn (kC x j (KK i j) (Dq i j)) i j) (Wy (kH x j (KK i j) (Dq i j)) i j)))))) (AIS (λ i=>GM (And (Js x i) (Yu i (HS (AD (λ j=>Kz j (IN x) i j i j)) (λ j=>BH j (iR x) (Wn (kC x j (KK i j) (Dq i j)) i j) (Wy (kH x j (KK i j) (Dq i j)) i j))))) (dG i) (tG (λ j=>Fg (DC (bW x) (λ k=>cS k x k) AI (Ft x) Az (BR (GV j)) (Ll x) (Jt x) (At (Lo x) (OR x) (aD x) (bB x) (Ft x) (λ k=>LI k (Xr x) (KK j k) (KK i k)))) (GZ (GV j) (IN x) (BW (DF (jF (KK j) (IN x))) (seM x i))) (Js x j) (λ k=>Kz k (GV j) j k j k))) (AIS (λ j=>GQ (IG (GZ (GV j) (IN x) (BW (DF (jF (KK j) (IN x))) (seM x i))) (Js x j) (λ k=>Kz k (GV j) j k j k)) (GV j) (IN x) (AGE (FR (GV j) (IN x)) (CL (WR j) (IN x)) (PI (WR j) (IN x))) (EK (JM (Kf j (WR j)) (Jz j (WR j))) (cE (cV x) (EF (Ro (Zf x)))) (tG (λ k=>EB (DC (bW x) (λ l=>cS l x l) AI (Ft x) Az (BD (GV k) (GV j)) (Ll x) (Jt x) (At (Lo x) (OR x) (aD x) (bB x) (Ft x) (λ l=>LI l (Xr x) (KK k l) (KK j l)))) (IG (GZ (GV k) (IN x) (BW (DF (jF (KK k) (IN x))) (seM x i))) (Js x k) (λ l=>Kz l (GV k) k l k l)) (IN x) (GV k) (GV j)))) (And (tG (λ k=>AO (DC (bW x) (λ l=>cS l x l) AI (Ft x) (EF (dG k)) (BR (GV k)) (Ll x) (Jt x) (At (Lo x) (OR x) (aD x) (bB x) (Ft x) (λ l=>LI l (Xr x) (KK k l) (KK j l)))) (IG (DJ (GV k) (iR x)) (Js x k) (λ l=>Kz l (IN x) k l k l)) (CL (seM x k) (seM x i)) (Yu k (AD (λ l=>BH l (GV k) (Wn (kC x l (KK k l) (Dq k l)) k l) (Wy (kH x l (KK k l) (Dq k l)) k l)))))) (AIS (λ k=>BU (HU (DJ (GV k) (iR x)) (Js x k) (AD (λ l=>Kz l (IN x) k l k l)) (CL (seM x k) (seM x i)) (Yu k (AD (λ l=>BH l (GV k) (Wn (kC x l (KK k l) (Dq k l)) k l) (Wy (kH x l (KK k l) (Dq k l)) k l))))) (TJ (JH (Tf k) (BZ (IN x))) (AO (FR (GV k) (IN x)) (CL (WR k) (IN x)) (CD (Tf k) (IN x)) (NW (Tf k) (IN x))) (Gl (Ll x) (Jt x) (Lo x) (OR x) (NN (OQ x) (OR x)) (λ l=>WP l (OQ x) (OR x)) (BE (OR x)) (AK (BI (OR x)) (OY (OQ x)) (AD (λ l=>PC l (OQ x))) (IM (GV k)) (AE (FH (Pe k) (NL (Pe k) 1) (VS (OQ x))) (RS (OQ x)) (He (OQ x))) (Ll x) (Jt x) (Lo x) (QJ (OR x) (NN (OQ x) (OR x)) (OX (OQ x) (OR x)) (BE (OR x)) (BI (OR x)) (IM (GV k)) (FH (Pe k) (NL (Pe k) 1) (VS (OQ x))) (He (OQ x))))) (And (And (Ll x) (AK (Jt x) (Lo x) (AS (OR x)) (AV (OR x)) (NN (OQ x) (OR x)) (OX (OQ x) (OR x)) (BE (OR x)) (BI (OR x)) (AK (IM (GV k)) (And (FH (Pe k) (NL (Pe k) 1) (VS (OQ x))) (He (OQ x))) (Ll x) (Jt x) (Lo x) (AS (OR x)) (AV (OR x)) (NN (OQ x) (OR x)) (Au (OX (OQ x) (OR x)) (OR x) (OR x) (OY (OQ x)) (AD (λ l=>PC l (OQ x))) (IM (GV k)) (FH (Pe k) (NL (Pe k) 1) (VS (OQ x))) (RS (OQ x)) (He (OQ x)))))) (tG (λ l=>AO (AF (bW x) (AD (λ m=>cS m x m)) AI (Ft x) (AK (KH (dG l) (dG k)) (NP (GV l) (GV k)) (Ll x) (Jt x) (Lo x) (AS (OR x)) (AV (OR x)) (BX (OR x)) (AK (aD x) (bB x) (HE (OR x)) (Ft x) (AD (λ m=>LI m (Xr x) (KK l m) (KK k m))) (BP (Fa x l l l) (Mv (Kf k (WR k)) (GI (Kf k (aC k)) (sI (QO (OQ x)) (Pe k))))) (AY (Fa x l l l) (mH (Jz k (WR k)) (GI (Jz k (aC k)) (Tk (BG (XN (OQ x))) (OS (OQ x)) (GV k))))) (BP (Tv x l l l) (Mv (Kf k (aC k)) (FS (Mv (Kf k (WR k)) (GI (Kf k (aC k)) (sI (QO (OQ x)) (Pe k)))) (Tk (BG (XN (OQ x))) (OS (OQ x)) (GV k))))) (AY (Tv x l l l) (mH (Jz k (aC k)) (FS (mH (Jz k (WR k)) (GI (Jz k (aC k)) (Tk (BG (XN (OQ x))) (OS (OQ x)) (GV k)))) (sI (QO (OQ x)) (Pe k)))))))) (Fg (CL (DF (GV l)) (IN x)) (Af (LO (IN x) (GV l)) (IN x) (GV k)) (Js x l) (λ m=>Kz m (IN x) l m l m)) (CL (seM x l) (seM x i)) (Yu l (AD (λ m=>BH m (GV l) (Wn (kC x m (KK l m) (Dq l m)) l m) (Wy (kH x m (KK l m) (Dq l m)) l m))))))) (AIS (λ l=>BU (AE (Fg (CL (DF (GV l)) (IN x)) (Af (LO (IN x) (GV l)) (IN x) (GV k)) (Js x l) (λ m=>Kz m (IN x) l m l m)) (CL (seM x l) (seM x i)) (Yu l (AD (λ m=>BH m (GV l) (Wn (kC x m (KK l m) (Dq l m)) l m) (Wy (kH x m (KK l m) (Dq l m)) l m))))) (JR (FR (GV l) (IN x)) (CL (WR l) (IN x)) (NU (not (Ly (BG (Fa x l l l)) (Kf l (WR l)) (BJ (Fa x l l l)) (Jz l (WR l)))) (Tf l) (IN x)) (Ko (Ly (BG (Fa x l l l)) (Kf l (WR l)) (BJ (Fa x l l l)) (Jz l (WR l))) (NW (Tf l) (IN x))) (DZ (IF (Ly (BG (Fa x l l l)) (Kf l (WR l)) (BJ (Fa x l l l)) (Jz l (WR l))) (Ly (BG (Tv x l l l)) (Kf l (aC l)) (BJ (Tv x l l l)) (Jz l (aC l)))) (AO (FR (GV l) (IN x)) (CL (WR l) (IN x)) (CD (Tf l) (IN x)) (NW (Tf l) (IN x))) (EK (IF (JM (BG (Fa x l l l)) (BJ (Fa x l l l))) (JM (BG (Tv x l l l)) (BJ (Tv x l l l)))) (cE (cV x) (EF (Ro (Zf x)))) (tG (λ m=>EB (DC (bW x) (λ n=>cS n x n) AI (Ft x) (CK (dG m)) (BD (GV m) (GV l)) (Ll x) (Jt x) (At (Lo x) (OR x) (aD x) (bB x) (Ft x) (λ n=>JY n (Xr x) (BP (KK m n) (JJ n (Tf l) (BG (Tv x l l l)) (Ca n (WR l) (BG (Fa x l l l)) (Kf l n)))) (AY (KK m n) (JJ n (Tf l) (BJ (Tv x l l l)) (Ca n (WR l) (BJ (Fa x l l l)) (Jz l n))))))) (HU (DJ (GV m) (iR x)) (Js x m) (AD (λ n=>Kz n (IN x) m n m n)) (CL (seM x m) (seM x i)) (Yu m (AD (λ n=>BH n (GV m) (Wn (kC x n (KK m n) (Dq m n)) m n) (Wy (kH x n (KK m n) (Dq m n)) m n))))) (IN x) (GV m) (GV k)))) (EK (IF (JM (BG (Fa x l l l)) (BJ (Fa x l l l))) (JM (BG (Tv x l l l)) (BJ (Tv x l l l)))) (cE (cV x) (EF (Ro (Zf x)))) (tG (λ m=>EB (DC (bW x) (λ n=>cS n x n) AI (Ft x) (KH (dG m) (dG l)) (BD (GV m) (GV l)) (Ll x) (Jt x) (At (Lo x) (OR x) (aD x) (bB x) (Ft x) (λ n=>LI n (Xr x) (KK m n) (KK l n)))) (HU (DJ (GV m) (iR x)) (Js x m) (AD (λ n=>Kz n (IN x) m n m n)) (CL (seM x m) (seM x i)) (Yu m (AD (λ n=>BH n (GV m) (Wn (kC x n (KK m n) (Dq m n)) m n) (Wy (kH x n (KK m n) (Dq m n)) m n))))) (IN x) (GV m) (GV k)))))))) (tG (λ l=>JB (FX (bW x) (AD (λ m=>cS m x m)) AI (Ft x) (KH (dG l) (dG k)) (Ll x) (Jt x) (At (Lo x) (OR x) (aD x) (bB x) (Ft x) (λ m=>LI m (Xr x) (KK l m) (KK k m)))) (And (Js x l) (Yu l (HS (AD (λ m=>Kz m (IN x) l m l m)) (λ m=>BH m (iR x) (Wn (kC x m (KK l m) (Dq l m)) l m) (Wy (kH x m (KK l m) (Dq l m)) l m))))) (seM x l) (seM x i))))))))) (AO (JU (cV x) (IN x)) (LC (IN x)) (AD (λ j=>EY j (cV x) (KK i (BV j)))) (CK (Ro (Zf x))))))) := by kernel_rfl
theorem zI {a b : Span} : (a.lo == b.lo && (a.hi == b.hi && true)) = true ↔ a = b := by
 obtain ⟨a1, a2⟩ := a; obtain ⟨b1, b2⟩ := b
 simp
theorem AUK {a b c d : Span} {v : Bool} (h : (bif !(a.lo == b.lo && (a.hi == b.hi && true)) then true else !(c.lo == d.lo && (c.hi == d.hi && true))) = v) : (v = true -> a ≠ b ∨ c ≠ d) /\ (v = false -> a = b /\ c = d) := by
 rw [<- h]
 cases q1 : (a.lo == b.lo && (a.hi == b.hi && true)) with
 | false => exact ⟨λ _ => .inl λ e => (by rw [zI.2 e] at q1; cases q1), λ h => (by cases h)⟩
 | true =>
  cases q2 : (c.lo == d.lo && (c.hi == d.hi && true)) with
  | false => exact ⟨λ _ => .inr λ e => (by rw [zI.2 e] at q2; cases q2), λ h => (by cases h)⟩
  | true => exact ⟨λ h => (by cases h), λ _ => ⟨zI.1 q1, zI.1 q2⟩⟩
theorem ALO {a b : Span} {v : Bool} (h : (bif decide (a.lo > a.hi) then true else decide (b.lo > b.hi)) = v) : (v = true -> a.lo > a.hi ∨ b.lo > b.hi) /\ (v = false -> a.lo <= a.hi /\ b.lo <= b.hi) := by
 rw [<- h]
 by_cases q1 : a.lo > a.hi
 ·rw [decide_eq_true q1]; exact ⟨λ _ => .inl q1, λ h => (by cases h)⟩
 ·rw [decide_eq_false q1]
  by_cases q2 : b.lo > b.hi
  ·rw [decide_eq_true q2]; exact ⟨λ _ => .inr q2, λ h => (by cases h)⟩
  ·rw [decide_eq_false q2]; exact ⟨λ h => (by cases h), λ _ => ⟨by omega, by omega⟩⟩
theorem AWT {x : ZL} (h : PreS x) {f : Nat -> Span} (hf : SetI x f) (hn : neF f x.l.length) {g : Nat} (hg : g + 1 < x.l.length) (he : (Ew x g (f g) (f (g + 1))).lo > (Ew x g (f g) (f (g + 1))).hi ∨ (eQ x g (f g) (f (g + 1))).lo > (eQ x g (f g) (f (g + 1))).hi) : Zf x = ([], false) :=
 BCA h λ t ht => by
  have := BGK h hf hg (hn g (by omega)) (hn (g + 1) hg) ht
  unfold Span.has at this; omega
theorem BTL (x : ZL) (h : PreS x) : BGF x := by
 have hl := h.len1
 have hz := h.zl
 have h0 := h.c0
 have hlen := h.len
 rw [BMY]<;> delta KH wN ZR BG BJ EC MM NO Hc ES ET BW ED AD BU CL AR GK BZ DJ hd40 EK JH HO KB NL Mv mH LO EJ GW EX HP HN HJ GT GB HC DU GG FE JW IH FP FK VV Dx JL JM PW FY QC KI YM Wj DO LY Ri En mR Ro SW sI Xr tG OQ dG KK kC kH AIS GV AE CR FA BB GA AF PX AY AU SX AG EM EZ BC FD QF AX FC BM CJ AK Gg AN DD BH HX BY XN BP CX Bj HZ BN CY BS CE HQ FU AV DA EV DW AZ PF CP FT AS FS DM Ji AP BV EG CN BX GI CM Ue HD CG IY GP GU EN DS DF FH OR AO AI DC CK DT EL UU FV CD OS AGE EP EO JY DB FN CB FM XB KM KC HF JB DZ BD EA PG MB FQ FR IW VS BE LI DX FO FZ LL Ki JS GH JU LB Ca IM IN PI Dq Ja IQ HS HB EB BK OB VM CS EF GM GZ FI IF KP BR BI HE OF EY HU FX OJ GC NB NP OC YU MY PM QK Af Es NN LC QO MV JJ SN NW Jz IG RE WR Kf RS GQ Tf JR uW OY PC WP NU iZ ZM OX Ft QJ Gl YQ Lj Ll Jt Lo Kd Ir Au cE Js Pe Az Fa He ZE TJ Yu bW aD aC bB Kz Wy Hz iR Wn Ko cV At Tv Ly cS Tk Fg; simp only [CC, eq_self, implies_true, forall_const, CU, WD]
 refine ⟨⟨(λ h => by cases h), by omega, by omega⟩, ⟨⟨gD x.l, true, 0⟩, ⟨rfl, λ i _ => ⟨rfl, rfl⟩⟩, ⟨λ i hi => ⟨Int.le_refl _, Int.le_refl _⟩, λ t ht i hi => ht.at_ i (by omega)⟩, (λ h => by cases h)⟩, λ s ⟨s1, s2⟩ => ⟨λ hb => ?_, λ hb => ?_⟩⟩
 ·have hm : seM x s = jF s.f x.l.length + 1 := by unfold seM; rw [hb]; rfl
  refine ⟨⟨⟨s.f, false, 0⟩, ⟨rfl, λ i _ => ⟨rfl, rfl⟩⟩, ⟨Nat.zero_le _, hm.symm⟩, s1, λ i hi => absurd hi (Nat.not_lt_zero _)⟩, λ q ⟨⟨q1, q2⟩, q3, q4⟩ => ⟨λ hlt => ⟨⟨by omega, by omega, by omega, by omega⟩, λ he => ?_, λ he => ⟨⟨q.f, false, q.k + 1⟩, ⟨(HY (by omega)).symm, λ i _ => ⟨rfl, rfl⟩⟩, ⟨⟨by show q.k + 1 <= _; omega, q2⟩, q3, λ i hi => ?_⟩, by show x.l.length - (q.k + 1) < _; omega⟩⟩, λ hge => ?_⟩⟩
  ·rw [BCA h λ t ht => ?_]
   ·exact ⟨rfl, rfl, rfl⟩
   ·have := q3.tr t ht q.k (by omega)
    unfold Span.has at this; omega
  ·by_cases e : i = q.k
   ·subst e; show (q.f q.k).lo <= (q.f q.k).hi; omega
   ·exact q4 i (by have : i < q.k + 1 := hi; omega)
  ·have qn : neF q.f x.l.length := λ i hi => q4 i (by omega)
   refine ⟨⟨⟨q.f, false, 0⟩, ⟨rfl, rfl, λ i _ => ⟨rfl, rfl⟩⟩, ⟨Nat.zero_le _, q3, qn⟩, ?_, λ _ g hg => absurd hg (Nat.not_lt_zero _)⟩, λ r ⟨⟨r1, r2, r3⟩, r4, r5⟩ => ?_⟩
   ·show jF q.f _ + 0 < seM x s; omega
   have ew : IntKind.i64.wrap ((r.k : Int) + 1) = ((r.k + 1 : Nat) : Int) := HY (by omega)
   simp only [ew, Int.toNat_natCast]
   refine ⟨λ hlt => ?_, λ hge => ?_⟩
   ·refine ⟨⟨by omega, by omega, by omega, by omega⟩, ⟨⟨by omega, hz, h0⟩, by omega, h0⟩, ⟨⟨⟨by omega, h0⟩, by omega, hz, h0⟩, ⟨r.f, r.b, r.k⟩, ⟨rfl, rfl, λ i _ => ⟨rfl, rfl⟩, rfl, rfl, rfl, rfl⟩, ⟨by show r.k + 1 < _; omega, rfl, r2, r3⟩, r4, r5⟩, λ v ⟨⟨v1, v2, v3, v4⟩, v5, v6⟩ => ?_⟩
    have ev : IntKind.i64.wrap ((v.k : Int) + 1) = ((v.k + 1 : Nat) : Int) := HY (by omega)
    simp only [ev, Int.toNat_natCast]
    refine ⟨⟨by omega, by omega, λ _ => by omega, λ _ => by omega⟩, λ hd => ⟨⟨by omega, by omega, by omega, by omega⟩, λ he => ?_, λ he => ?_⟩, λ hd => ⟨λ he => ?_, λ he => ?_⟩⟩
    ·rw [AWT h v3 v4 v1 ((ALO he).1 rfl)]; exact ⟨rfl, rfl, rfl⟩
    ·obtain ⟨e1, e2⟩ := (ALO he).2 rfl
     obtain ⟨u1, u2, u3⟩ := BUG h v3 v4 v1 e1 e2 ((AUK hd).1 rfl)
     refine ⟨⟨upF v.f v.k (Ew x v.k (v.f v.k) (v.f (v.k + 1))) (eQ x v.k (v.f v.k) (v.f (v.k + 1))), true, v.k + 1⟩, ⟨rfl, rfl, λ i hi => ?_⟩, ⟨⟨by show v.k + 1 <= _; omega, u1, u2⟩, ?_, (λ h => by cases h)⟩, by show x.l.length - (v.k + 1) < _; omega⟩
     ·show (upF _ _ _ _ i).lo = _ /\ (upF _ _ _ _ i).hi = _
      unfold upF
      by_cases c1 : i = v.k + 1
      ·rw [if_pos c1, decide_eq_true c1]; exact ⟨rfl, rfl⟩
      ·rw [if_neg c1, decide_eq_false c1]
       by_cases c2 : i = v.k
       ·rw [if_pos c2, decide_eq_true c2]; exact ⟨rfl, rfl⟩
       ·rw [if_neg c2, decide_eq_false c2]; exact ⟨rfl, rfl⟩
     ·have : jF v.f x.l.length <= seM x v := Nat.le_add_right _ _
      exact Nat.lt_of_le_of_lt (Nat.le_trans u3 this) v5
    ·rw [AWT h v3 v4 v1 ((ALO he).1 rfl)]; exact ⟨rfl, rfl, rfl⟩
    ·obtain ⟨d1, d2⟩ := (AUK hd).2 rfl
     refine ⟨⟨v.f, v.b, v.k + 1⟩, ⟨rfl, rfl, λ i _ => ⟨rfl, rfl⟩⟩, ⟨⟨by show v.k + 1 <= _; omega, v3, v4⟩, v5, λ hb g hg => ?_⟩, by show x.l.length - (v.k + 1) < _; omega⟩
     by_cases e : g = v.k
     ·subst e; exact ⟨d1, d2⟩
     ·exact v6 hb g (by have : g < v.k + 1 := hg; omega)
   ·refine ⟨⟨r.f, r.b, 0⟩, ⟨rfl, λ i _ => ⟨rfl, rfl⟩⟩, ⟨r2, λ hb => ⟨r3, λ g hg => r5 hb g (by omega)⟩⟩, r4⟩
 ·obtain ⟨n1, n2⟩ := s2 hb
  obtain ⟨o1, o2, o3⟩ := BKB h s1 n1 n2
  refine ⟨o2, Nat.le_refl _, λ j hj => ?_, o1⟩
  rw [o3 j (by omega)]; exact ⟨rfl, rfl⟩
theorem BMU : AJ Try.prog vI (C_zSet.spec dZL) := XP C_zSet BCN [] [202] ANY (λ _ => by kernel_rfl) (λ _ => AA ATY (AA AWN AC)) (λ x h => BTL x h) (λ _ => YS rfl rfl) _
end Go.Bal
