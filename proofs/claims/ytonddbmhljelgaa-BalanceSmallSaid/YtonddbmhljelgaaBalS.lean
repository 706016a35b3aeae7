/- Package balance: Suspects. -/
import Derived.Test.YtonddbmhljelgaaBalQ
set_option linter.unusedVariables false
set_option linter.unusedSimpArgs false
namespace Go.Bal
open Go Go.Sym Go.Proofs
def A69 : Ann := { ann 8 [] with mt := λ id => id == 3 }
def C69 : Ctr := { α := List Reach, xs := λ l => [.d (HE l)], L := λ _ => [], val := λ l => .own 0 4 0 l.length, keep := λ l => [(0, .live (.row 4 l.length λ i => Ms (gD l i)))], pre := λ l => [0 < l.length /\ l.length <= 1000] }
def d69 : List AVal -> Heap -> Option (List Reach × List (Nat × Nat) × List Nat)
 | [.d (.list _ n g _)], _ => some (NO n λ i => RN (g i), [], [])
 | _, _ => none
def V69 (l : List Reach) : Prop := BN Try.prog A69 Try.f69 (AF Try.f69) (C69.xs l) (AD []) (C69.val l) (C69.keep l) [(0, 4032)] []
abbrev C7 a b (c:Nat->Prop):=hZ a AC b (AG c)
abbrev Bh a:=WC a 0
attribute [go_sem] C7 Bh
theorem vc69 (l : List Reach) : (V69 l) = (And (YN 0 (PM l)) (C7 (Nl (BF (mK (DU 4))) (Sr SM (PM l) 4) (KO (PM l)) (AT (PM l)) 32) (MN l (AT (PM l))) (λ i=>Mm i l (IN l (Bh i)) (FY l (Bh i)) (IU l (Bh i))))) := by kernel_rfl
theorem p69 (l : List Reach) (h : 0 < l.length /\ l.length <= 1000) : V69 l := by
 rw [vc69]<;> simp only [go_sem]; simp only [CC, eq_self, implies_true, forall_const]
 exact ⟨h.1, ⟨λ _ => h.1, by omega, by omega⟩, λ _ _ => ⟨rfl, rfl, rfl, rfl⟩⟩
theorem ok69 : AH Try.prog 69 (C69.spec d69) := UY C69 (λ _ => A69) [(0, 4032)] [] Try.func69 (λ _ => by kernel_rfl) (λ _ => AE) (λ a h => p69 a h) (λ _ => WR rfl rfl) _
def wide : Span := ⟨-100000000, 100000000⟩
def TF (N : NetL) (i : Nat) : Desk := ⟨(AO N).all.modify i λ w => { w with sp := wide }, (AO N).out, (AO N).nR⟩
def EZ (N : NetL) (i : Nat) : NetL := ⟨N.g, N.r.modify i λ r => { r with sp := wide }⟩
def EX (N : NetL) (i : Nat) : Desk := (MJ (TF N i)).getD default
def qS (N : NetL) (i : Nat) : Bool := decide (VV (EZ N i) (AW (EX N i)) = 0)
def IR (N : NetL) (k : Nat) : List Int := ((List.range k).filter λ i => qS N i).map λ (i : Nat) => (i : Int)
def suC (N : NetL) (k : Nat) : List (Nat × HCell) := [(200, LF N), (301, .live (B5 (TF N k) 302)), (302, .live (zK (TF N k)))]
def suS (N : NetL) (k : Nat) (v : AVal) : List (Nat × AVal) := [(1, .bptr 200 0), (6, v), (7, .int k), (8, .bptr 301 0), (24, .int N.r.length), (25, .int k)]
def A25 (N : NetL) : Ann := { ann 72 [(19, C19.spec fT), (67, C67.spec fT), (68, C68.spec Zi), (56, C56.spec Zi), (69, C69.spec d69), (70, C70.spec d70)] with mt := λ id => id == 18, cutIn := λ gs id => if id = 12 then some [{ α := Nat, dflt := 0, T := λ k => ⟨suS N k (.d Gg), suC N k⟩, inv := λ k => k < N.r.length /\ IR N k = [] /\ N.r.length - k = gs.headD 0, meas := λ _ => 0, first := [(301, 11016), (302, 11017)] }, { α := Nat, dflt := 0, T := λ k => ⟨suS N k (.own 202 1 0 (IR N k).length), suC N k ++ [(202, pP (IR N k).length (IR N k))]⟩, inv := λ k => k < N.r.length /\ N.r.length - k = gs.headD 0, meas := λ _ => 0, first := [(301, 11016), (302, 11017)] }] else none, loops := λ id => if id = 8 then some [{ α := Nat, dflt := 0, T := λ k => ⟨[(1, .bptr 200 0), (6, .d Gg), (24, .int N.r.length), (25, .int k)], [(200, LF N)]⟩, inv := λ k => k <= N.r.length /\ IR N k = [], meas := λ k => N.r.length - k, first := [(200, 1000)] }, { α := Nat, dflt := 0, T := λ k => ⟨[(1, .bptr 200 0), (6, .own 202 1 0 (IR N k).length), (24, .int N.r.length), (25, .int k)], [(200, LF N), (202, pP (IR N k).length (IR N k))]⟩, inv := λ k => k <= N.r.length, meas := λ k => N.r.length - k, again := [(202, 19048)] }, { α := Nat, dflt := 0, T := λ k => ⟨[(1, .bptr 200 0), (6, .own 202 1 0 (IR N k).length), (24, .int N.r.length), (25, .int k)], [(200, LF N), (202, pP (IR N k).length (IR N k))]⟩, inv := λ k => k <= N.r.length, meas := λ k => N.r.length - k}] else none }
def C25 : Ctr := { α := NetL, xs := λ N => [.d (LW N)], L := λ _ => [], val := λ N => .tup [.d (BC (IR N N.r.length)), .int 0], keep := λ _ => [], pre := λ N => [AB N = 0, (BH N).isSome = true, EV N ≠ 0, ∀ i, i < N.r.length -> (MJ (TF N i)).isSome = true] }
def V25 (N : NetL) : Prop := BN Try.prog (A25 N) Try.f25 (AF Try.f25) (C25.xs N) (AD []) (C25.val N) (C25.keep N) [] [202]
abbrev KG:=IR
abbrev BHX:=@List.nil Int
abbrev DT:=TF
abbrev AKI:=Span.mk
abbrev W6 a b:=AJ a b b
abbrev mE a b:=EA (KG a b)
abbrev RB a b c:=VK a (And b c)
abbrev AGH a b (c:Nat->Prop):=IK a b (IJ c)
abbrev YT a b (c:Nat->Prop) (d:Nat->Prop):=AGH a (VA b c) d
abbrev AVJ a b c d e:=Fo a b (Q2 c d e)
abbrev FL a b c:=AVJ a b b a c
abbrev Ju a b:=FI a (UQ b)
abbrev SK:=DU 1
abbrev rY a b:=And a (Fo 0 b SK)
abbrev cF a:=rY (Cz a) a
abbrev IX a b:=Pa (Lq (DT a b))
abbrev AWO a b:=oH (IX a b)
abbrev Dl a b:=Zq (AWO a b)
abbrev bQ a b c:=Dd a (Dl b c)
abbrev JA a b:=Sx (IX a b)
abbrev XF a b:=Zo (AWO a b)
abbrev MQ a b:=MP (IX a b)
abbrev BBF a (b:Nat->Reach):=M7 (mT a) b
abbrev ATQ a b:=sB (IX a b) b
abbrev J2 a b c:=Tb a b (ATQ c b) (He c a)
abbrev I5 a b c:=Qw a b (ATQ c b) (He c a)
abbrev L2 a b:=Hc a (AT b)
abbrev D1 a b c d:=PQ a b (L2 c b) d
abbrev D2 a b:=Q0 a (AT b)
abbrev I2 a b c d:=PQ a b (D2 c b) d
abbrev QG a b:=BBF a (λ i=>Reach.mk (I2 i b a (Q0 a i)) (D1 i b a (Hc a i)) (AKI (I5 i b a) (J2 i b a)))
abbrev Ic a b:=PM (QG a b)
abbrev OX a b c d e f g h:=O7 a b c (AS d e) (MB f g) (MF f h)
abbrev oC a b:=MN a (HA b)
abbrev cE a b:=FQ (IX a b)
abbrev fF a b c:=IT (IX a b) c
abbrev aP a b c:=EY (IX a b) c
abbrev cA a b c:=JU (IX a b) c
abbrev fW a b c:=FJ (IX a b) c
abbrev cQ a b c:=EN (IX a b) c
abbrev cP a b c:=FG (IX a b) c
abbrev fX a b:=Lq (DT a b)
abbrev cG a b c:=FJ (DT a b) c
abbrev dM a b:=UG (DT a b)
abbrev jM a b c:=Tp a b (iR c)
abbrev Xm a b:=WC (AM a) b
abbrev Bc a b:=ON a (AM b)
abbrev VP a:=hd80 a BHX
abbrev jK a b:=VP (KG a b)
abbrev ANB a b c:=FR a (BA b) (λ i=>MZ i b) (CA b) c
abbrev Fh a b:=ANB a b (DX b)
abbrev Uc a:=FI a 1
attribute [go_sem] KG BHX DT AKI W6 mE RB AGH YT AVJ FL Ju SK rY cF IX AWO Dl bQ JA XF MQ BBF ATQ J2 I5 L2 D1 D2 I2 QG Ic OX oC cE fF aP cA fW cQ cP fX cG dM jM Xm Bc VP jK ANB Fh Uc
theorem vc25 (N : NetL) : (V25 N) = (EG (SC N (EU N) (Sg N)) (sI (eA N)) (Gx (RM (KG N (AM N))) (nJ 8)) (And (IJ (λ i=>Hn (DW AC PU (PB N) (Fh (AZ i) N)) i (AM N) (jK N i))) (W6 (AG (λ i=>CG (Vg i (AM N) (jK N i)) i (AM N) (Sk (SC N (Hh N) (TB (HA N) 1000)) (VA (Ro i (FQ (EE N))) (λ j=>AP (MH AC PU (mU (EQ j i) (PB N) (BA N) (EO (λ k=>MZ k N) (CA N) (λ k=>IM k N) AC (Bl (Py (DT N j) (FQ (EE N))) (DT N j) (Sx (EE N)) (MP (DT N j)) (MP (EE N)) (λ k=>ZC k (FQ (DT N j)) (ZJ (DT N j) k (PQ k i (hd55 (Uz (EE N) i)) (Lf (EE N) k))) (FG (DT N j) k) (PQ k i (pQ (Uz (EE N) i)) (FG (EE N) k)) (MB (cG N j k) (AOE k i (-100000000) (FJ (EE N) k))) (MF (cG N j k) (AMV k i 100000000 (FJ (EE N) k))) (EY (DT N j) k) (PQ k i (Us (EE N) i) (tG (EE N) k))))))) (Bc j N) (jK N j) (jM (AM N) j (Xm N i)))) (AG (λ j=>RB (AJ (Bc j N) (jK N j) (jM (AM N) j (Xm N i))) (bY (dM N j) (DT N j) (FR (SX (DT N j)) (dM N j) (λ k=>GZ k (DT N j) (GU (DT N j) k) (EN (DT N j) k) (FG (DT N j) k) (JU (DT N j) k) (cG N j k) (IT (DT N j) k) (EY (DT N j) k)) (VZ (fX N j)) (uC (fX N j)))) (BG (BF (YW (IX N j) (λ k=>GZ k (IX N j) (GU (IX N j) k) (cQ N j k) (cP N j k) (cA N j k) (fW N j k) (fF N j k) (aP N j k)) (λ k=>KV k (IX N j) (MO (IX N j) k) (cP N j k) (cQ N j k) (fW N j k) (cA N j k) (aP N j k) (fF N j k)) (Wt (JA N j) (IX N j)) (kJ (Oi (MQ N j) (JA N j)) (IX N j)))) (DW (DE N) (λ k=>HW k N) (KO (HA N)) (uI N)) (AP (GF j (cE N j)) (ON (AT j) (cE N j)) (GF j (HA N)) (G7 j (HA N))) (SJ N (FR (oC (QG N j) N) (BM (HA N)) (λ k=>OX k (Ic N j) (Oj (QG N j) k (I2 (AT k) j N (D2 N k))) (FY (QG N j) k) (D1 (AT k) j N (L2 N k)) (IU (QG N j) k) (I5 (AT k) j N) (J2 (AT k) j N)) (Bv (MQ N j) (XF N j)) (SH (BM (MQ N j)) (fA (MQ N j) (XF N j)) (Bv (JA N j) (Dl N j)) (BM (JA N j)) (λ k=>aK k (bQ (JA N j) N j) (Dl N j)) (Hh N) (Gj (Ic N j)) (Fx (MQ N j) (XF N j) (Ic N j)) (Fx (JA N j) (Dl N j) (OK N))))) (YT (KS (jC (zZ N (QG N j)) (O3 (Dd (MQ N j) (XF N j)) (bQ (JA N j) N j)))) In (λ k=>Nf (BF (ZD (Uc (KG N k)) (PB N) (AU k j) (BA N) (CE N) (CA N) (DX N) (λ l=>FL l (KG N k) (BT j)))) k N i) (λ k=>CB (DW AC PU (PB N) (Fh (AU k j) N)) (Vg k (AM N) (jK N k)) (AM N) k i))))) (λ j=>RB (And (Bc j N) (jM (AM N) j (Xm N i))) (bY (dM N j) (DT N j) (FR (SX (DT N j)) (dM N j) (λ k=>GZ k (DT N j) (GU (DT N j) k) (EN (DT N j) k) (FG (DT N j) k) (JU (DT N j) k) (cG N j k) (IT (DT N j) k) (EY (DT N j) k)) (VZ (fX N j)) (uC (fX N j)))) (BG (BF (YW (IX N j) (λ k=>GZ k (IX N j) (GU (IX N j) k) (cQ N j k) (cP N j k) (cA N j k) (fW N j k) (fF N j k) (aP N j k)) (λ k=>KV k (IX N j) (MO (IX N j) k) (cP N j k) (cQ N j k) (fW N j k) (cA N j k) (aP N j k) (fF N j k)) (Wt (JA N j) (IX N j)) (kJ (Oi (MQ N j) (JA N j)) (IX N j)))) (DW (DE N) (λ k=>HW k N) (KO (HA N)) (uI N)) (AP (GF j (cE N j)) (ON (AT j) (cE N j)) (GF j (HA N)) (G7 j (HA N))) (SJ N (FR (oC (QG N j) N) (BM (HA N)) (λ k=>OX k (Ic N j) (Oj (QG N j) k (I2 (AT k) j N (D2 N k))) (FY (QG N j) k) (D1 (AT k) j N (L2 N k)) (IU (QG N j) k) (I5 (AT k) j N) (J2 (AT k) j N)) (Bv (MQ N j) (XF N j)) (SH (BM (MQ N j)) (fA (MQ N j) (XF N j)) (Bv (JA N j) (Dl N j)) (BM (JA N j)) (λ k=>aK k (bQ (JA N j) N j) (Dl N j)) (Hh N) (Gj (Ic N j)) (Fx (MQ N j) (XF N j) (Ic N j)) (Fx (JA N j) (Dl N j) (OK N))))) (YT (KS (jC (zZ N (QG N j)) (O3 (Dd (MQ N j) (XF N j)) (bQ (JA N j) N j)))) (Qk (cF (KG N j)) Nx (mE N j) 8) (λ k=>Nf (BF (ZD (Ju (KG N k) (mE N j)) (PB N) (AU k j) (BA N) (CE N) (CA N) (DX N) (λ l=>FL l (KG N k) (RR l (mE N j) (KG N j) l (BT j))))) k N i) (λ k=>Nf (BF (AZD (FH (KG N k) (KG N j)) (PB N) (AU k j) (BA N) (CE N) (CA N) (DX N) (KH (KG N k) (KG N j)))) k N i))))) (Gx (RM (KG N (AM N))) BX))) (AG (λ i=>CG (TB i (AM N)) i (AM N) (Sk (SC N (Hh N) (TB (HA N) 1000)) (VA (Ro i (FQ (EE N))) (λ j=>AJ (IW AC (FH (KG N j) (KG N i)) (EQ j i) (PB N) (EQ j i) (BA N) (CE N) (CA N) (AOY (DX N) AC (Py (DT N j) (FQ (EE N))) (AMG (DT N j) (Sx (EE N))) (EQ (MP (DT N j)) (MP (EE N))) (λ k=>ZC k (FQ (DT N j)) (ZJ (DT N j) k (PQ k i (hd55 (Uz (EE N) i)) (Lf (EE N) k))) (FG (DT N j) k) (PQ k i (pQ (Uz (EE N) i)) (FG (EE N) k)) (MB (cG N j k) (AOE k i (-100000000) (FJ (EE N) k))) (MF (cG N j k) (AMV k i 100000000 (FJ (EE N) k))) (EY (DT N j) k) (PQ k i (Us (EE N) i) (tG (EE N) k))) (FH (KG N j) (KG N i)) (KH (KG N j) (KG N i)))) (Bc j N) (jM (AM N) j (Xm N i)))) (AG (λ j=>RB (AJ (Bc j N) (jK N j) (jM (AM N) j (Xm N i))) (bY (dM N j) (DT N j) (FR (SX (DT N j)) (dM N j) (λ k=>GZ k (DT N j) (GU (DT N j) k) (EN (DT N j) k) (FG (DT N j) k) (JU (DT N j) k) (cG N j k) (IT (DT N j) k) (EY (DT N j) k)) (VZ (fX N j)) (uC (fX N j)))) (BG (BF (YW (IX N j) (λ k=>GZ k (IX N j) (GU (IX N j) k) (cQ N j k) (cP N j k) (cA N j k) (fW N j k) (fF N j k) (aP N j k)) (λ k=>KV k (IX N j) (MO (IX N j) k) (cP N j k) (cQ N j k) (fW N j k) (cA N j k) (aP N j k) (fF N j k)) (Wt (JA N j) (IX N j)) (kJ (Oi (MQ N j) (JA N j)) (IX N j)))) (DW (DE N) (λ k=>HW k N) (KO (HA N)) (uI N)) (AP (GF j (cE N j)) (ON (AT j) (cE N j)) (GF j (HA N)) (G7 j (HA N))) (SJ N (FR (oC (QG N j) N) (BM (HA N)) (λ k=>OX k (Ic N j) (Oj (QG N j) k (I2 (AT k) j N (D2 N k))) (FY (QG N j) k) (D1 (AT k) j N (L2 N k)) (IU (QG N j) k) (I5 (AT k) j N) (J2 (AT k) j N)) (Bv (MQ N j) (XF N j)) (SH (BM (MQ N j)) (fA (MQ N j) (XF N j)) (Bv (JA N j) (Dl N j)) (BM (JA N j)) (λ k=>aK k (bQ (JA N j) N j) (Dl N j)) (Hh N) (Gj (Ic N j)) (Fx (MQ N j) (XF N j) (Ic N j)) (Fx (JA N j) (Dl N j) (OK N))))) (YT (KS (jC (zZ N (QG N j)) (O3 (Dd (MQ N j) (XF N j)) (bQ (JA N j) N j)))) In (λ k=>Nf (BF (ZD (Uc (KG N k)) (PB N) (AU k j) (BA N) (CE N) (CA N) (DX N) (λ l=>FL l (KG N k) (BT j)))) k N i) (λ k=>CB (DW AC PU (PB N) (Fh (AU k j) N)) (Vg k (AM N) (jK N k)) (AM N) k i))))) (λ j=>RB (And (Bc j N) (jM (AM N) j (Xm N i))) (bY (dM N j) (DT N j) (FR (SX (DT N j)) (dM N j) (λ k=>GZ k (DT N j) (GU (DT N j) k) (EN (DT N j) k) (FG (DT N j) k) (JU (DT N j) k) (cG N j k) (IT (DT N j) k) (EY (DT N j) k)) (VZ (fX N j)) (uC (fX N j)))) (BG (BF (YW (IX N j) (λ k=>GZ k (IX N j) (GU (IX N j) k) (cQ N j k) (cP N j k) (cA N j k) (fW N j k) (fF N j k) (aP N j k)) (λ k=>KV k (IX N j) (MO (IX N j) k) (cP N j k) (cQ N j k) (fW N j k) (cA N j k) (aP N j k) (fF N j k)) (Wt (JA N j) (IX N j)) (kJ (Oi (MQ N j) (JA N j)) (IX N j)))) (DW (DE N) (λ k=>HW k N) (KO (HA N)) (uI N)) (AP (GF j (cE N j)) (ON (AT j) (cE N j)) (GF j (HA N)) (G7 j (HA N))) (SJ N (FR (oC (QG N j) N) (BM (HA N)) (λ k=>OX k (Ic N j) (Oj (QG N j) k (I2 (AT k) j N (D2 N k))) (FY (QG N j) k) (D1 (AT k) j N (L2 N k)) (IU (QG N j) k) (I5 (AT k) j N) (J2 (AT k) j N)) (Bv (MQ N j) (XF N j)) (SH (BM (MQ N j)) (fA (MQ N j) (XF N j)) (Bv (JA N j) (Dl N j)) (BM (JA N j)) (λ k=>aK k (bQ (JA N j) N j) (Dl N j)) (Hh N) (Gj (Ic N j)) (Fx (MQ N j) (XF N j) (Ic N j)) (Fx (JA N j) (Dl N j) (OK N))))) (YT (KS (jC (zZ N (QG N j)) (O3 (Dd (MQ N j) (XF N j)) (bQ (JA N j) N j)))) (Qk (cF (KG N j)) Nx (mE N j) 8) (λ k=>Nf (BF (ZD (Ju (KG N k) (mE N j)) (PB N) (AU k j) (BA N) (CE N) (CA N) (DX N) (λ l=>FL l (KG N k) (RR l (mE N j) (KG N j) l (BT j))))) k N i) (λ k=>Nf (BF (AZD (FH (KG N k) (KG N j)) (PB N) (AU k j) (BA N) (CE N) (CA N) (DX N) (KH (KG N k) (KG N j)))) k N i))))) (AP (FH (KG N (AM N)) (KG N i)) (BM (mE N i)) (Dz (KG N (AM N)) (KG N i)) BX)))))) := by kernel_rfl
theorem ARL {d d' : Desk} {fr to most q : Int} {m : Map} (h : Nn d fr to m most = some (d', q)) (i : Nat) : (gD d'.all i).fr = (gD d.all i).fr /\ (gD d'.all i).to = (gD d.all i).to /\ (gD d'.all i).sp = (gD d.all i).sp := by
 unfold Nn at h
 split at h
 ·cases h
 ·split at h
  ·cases h; exact bL _ _ _ _
  ·cases h
theorem yO : ∀ {k : Nat} {d d' : Desk}, PI k d = some d' -> ∀ i, (gD d'.all i).fr = (gD d.all i).fr /\ (gD d'.all i).to = (gD d.all i).to /\ (gD d'.all i).sp = (gD d.all i).sp
 | 0, _, _, h => by cases h
 | k + 1, d, d', h => λ i => by
  simp only [PI] at h
  split at h
  ·cases h; exact ⟨rfl, rfl, rfl⟩
  ·split at h
   ·cases h
   ·rename_i d1 hd1
    obtain ⟨a1, a2, a3⟩ := yO h i
    unfold XO at hd1
    simp only at hd1
    split at hd1
    ·cases hd1
    split at hd1
    ·cases hd1
    split at hd1
    ·cases hd1
    rename_i hm
    cases hd1
    obtain ⟨b1, b2, b3⟩ := ARL hm i
    exact ⟨a1.trans b1, a2.trans b2, a3.trans b3⟩
theorem WX (N : NetL) (k : Nat) : IR N (k + 1) = if qS N k then IR N k ++ [(k : Int)] else IR N k := by
 unfold IR
 rw [List.range_succ, List.filter_append, List.map_append]
 by_cases h : qS N k = true
 ·simp [h]
 ·simp [h]
theorem BDC (N : NetL) (k : Nat) : (MJ (TF N k)).getD default = EX N k := rfl
theorem AKU {N : NetL} {k : Nat} (hk : k < N.r.length) {w : Way} (hw : w.sp = wide) : NO N.r.length (λ i => (⟨bif decide (i = k) then (gD N.r k).fr else (gD N.r i).fr, bif decide (i = k) then (gD N.r k).to else (gD N.r i).to, ⟨bif decide (i = k) then w.sp.lo else (gD N.r i).sp.lo, bif decide (i = k) then w.sp.hi else (gD N.r i).sp.hi⟩⟩ : Reach)) = (EZ N k).r := by
 apply Jc
 ·simp [EZ]
 ·intro i hi
  simp only [rng_length] at hi
  rw [CO _ _ _ hi]
  show _ = gD (N.r.modify k λ r => { r with sp := wide }) i
  rw [BD hk]
  by_cases he : i = k
  ·subst he; simp [hw]
  ·simp only [he, decide_false, cond_false, if_false]
theorem XY (N : NetL) (k : Nat) : (TF N k).all.length = N.r.length + N.g.length := by
 show ((AO N).all.modify k _).length = _
 rw [List.length_modify, CW]
theorem lQ {N : NetL} {k : Nat} (hk : k < N.r.length + N.g.length) (i : Nat) : gD (TF N k).all i = if i = k then { (gD (AO N).all k) with sp := wide } else gD (AO N).all i := by
 show gD ((AO N).all.modify k _) i = _
 rw [BD (by rw [CW]; exact hk)]
theorem zH {N : NetL} (h : Good N) {k : Nat} (hk : k < N.r.length) : (TF N k).ok := by
 have hb := A2 h
 refine ⟨hb.out, by rw [XY, <- CW]; exact hb.len, by rw [XY, <- CW]; exact hb.cut, λ i hi => ?_⟩
 rw [XY] at hi
 have := hb.ends i (by rw [CW]; exact hi)
 rw [lQ (by omega)]
 split
 ·rename_i he; subst he; exact this
 ·exact this
theorem p25 (N : NetL) (h1 : AB N = 0) (h2 : (BH N).isSome = true) (h3 : EV N ≠ 0) (h4 : ∀ i, i < N.r.length -> (MJ (TF N i)).isSome = true) : V25 N := by
 have hg := BB h1
 have g1 := hg.g1
 have g8 := hg.g8
 have r14 := hg.r14
 have hbl := CW N
 have hF : ∀ k, k < N.r.length -> MJ (TF N k) = some (EX N k) := λ k hk => by
  obtain ⟨d, hd⟩ := Option.isSome_iff_exists.1 (h4 k hk)
  unfold EX; rw [hd]; rfl
 have hFl : ∀ k, k < N.r.length -> (EX N k).all.length = N.r.length + N.g.length /\ (EX N k).out = N.g.length /\ (EX N k).nR = N.r.length := λ k hk => by
  obtain ⟨a, b, c⟩ := jY (hF k hk)
  exact ⟨a.trans (XY N k), b, c⟩
 have hFs : ∀ k, k < N.r.length -> (gD (EX N k).all k).sp = wide := λ k hk => by
  rw [(yO (hF k hk) k).2.2, lQ (by omega), if_pos rfl]
 have hro : ∀ k, (IR N k).length <= k := λ k => by
  unfold IR; rw [List.length_map]; exact Nat.le_trans (List.length_filter_le _ _) (by simp)
 rw [vc25]<;> simp only [go_sem]; simp only [CC, eq_self, implies_true, forall_const, DL.d6, DL.d7, DL.d8, BDC, BAC, AYT, List.headD_cons]
 have hdi : ∀ k, k < N.r.length -> ∀ i, i < (TF N k).all.length -> (gD (TF N k).all i).fr = (bif decide (i = k) then (gD (AO N).all k).fr else (gD (AO N).all i).fr) /\ (gD (TF N k).all i).to = (bif decide (i = k) then (gD (AO N).all k).to else (gD (AO N).all i).to) /\ (gD (TF N k).all i).sp.lo = (bif decide (i = k) then -100000000 else (gD (AO N).all i).sp.lo) /\ (gD (TF N k).all i).sp.hi = (bif decide (i = k) then 100000000 else (gD (AO N).all i).sp.hi) /\ (gD (TF N k).all i).now = (bif decide (i = k) then (gD (AO N).all k).now else (gD (AO N).all i).now) := λ k hk i _ => by
  rw [lQ (by omega)]
  by_cases he : i = k
  ·subst he; rw [if_pos rfl]; refine ⟨?_, ?_, ?_, ?_, ?_⟩ <;> (simp; try rfl)
  ·rw [if_neg he]; refine ⟨?_, ?_, ?_, ?_, ?_⟩ <;> simp [he]
 have hdl : ∀ k, (TF N k).all.length = (AO N).all.length := λ k => by rw [XY, hbl]
 have hsr : ∀ q, q < N.r.length -> ∀ j, j < N.r.length -> (gD (EZ N q).r j).fr = (bif decide (j = q) then (gD N.r q).fr else (gD N.r j).fr) /\ (gD (EZ N q).r j).to = (bif decide (j = q) then (gD N.r q).to else (gD N.r j).to) /\ (gD (EZ N q).r j).sp.lo = (bif decide (j = q) then (gD (EX N q).all q).sp.lo else (gD N.r j).sp.lo) /\ (gD (EZ N q).r j).sp.hi = (bif decide (j = q) then (gD (EX N q).all q).sp.hi else (gD N.r j).sp.hi) := λ q hq j _ => by
  have e : gD (EZ N q).r j = if j = q then { (gD N.r q) with sp := wide } else gD N.r j := by
   show gD (N.r.modify q λ r => { r with sp := wide }) j = _
   rw [BD hq]
  rw [e, hFs q hq]
  by_cases he : j = q
  ·subst he; rw [if_pos rfl]; refine ⟨?_, ?_, ?_, ?_⟩ <;> simp
  ·rw [if_neg he]; refine ⟨?_, ?_, ?_, ?_⟩ <;> simp [he]
 have hB : ∀ k, ((VV ⟨N.g, (EZ N k).r⟩ (AW (EX N k)) == 0) : Bool) = qS N k := λ k => by
  unfold qS
  show (VV (EZ N k) (AW (EX N k)) == 0) = _
  by_cases h : VV (EZ N k) (AW (EX N k)) = 0 <;> simp [h]
 refine ⟨⟨h1, h2⟩, λ h => absurd h h3, λ _ => ⟨⟨0, rfl, Nat.zero_le _, rfl⟩, ?la, ?lb⟩⟩
 case la =>
  intro k ⟨hk, hnil⟩
  refine ⟨λ hlt => ⟨⟨⟨by omega, by omega⟩, by omega⟩, ⟨⟨⟨by omega, by omega⟩, by omega⟩, ⟨k, ⟨rfl, rfl, hdl k, rfl, rfl, hdl k, hdi k (by omega)⟩, by omega, hnil, rfl⟩⟩, ?ca, ?cb⟩, λ hge => ?_⟩
  case ca =>
   intro q ⟨hq, hn, hm⟩
   obtain ⟨l1, l2, l3⟩ := hFl q hq
   rw [AKU hq (hFs q hq), hB, l1, l2, l3, Gh, Et, l2, l3]
   refine ⟨⟨zH hg hq, by rw [hF q hq]; rfl⟩, ⟨⟨g1, by omega⟩, Nat.le_refl _⟩, ⟨by omega, by omega⟩, ⟨⟨by omega, by omega⟩, by omega, ⟨by omega, by omega⟩, hq⟩, ⟨Nat.le_refl _, hsr q hq, rfl, Nat.le_refl _, rfl, Nat.le_refl _, ⟨g1, by omega⟩, by omega, rfl, rfl⟩, λ hb => ?_, λ hb => ?_⟩
   ·have e : IR N (q + 1) = [(q : Int)] := by rw [WX, if_pos hb, hn]; rfl
    refine ⟨⟨by decide, by decide, by decide, by decide, by decide⟩, q + 1, ⟨by rw [e]; rfl, (AL (by omega)).symm, by rw [e]; rfl, λ i hi => ?_⟩, by omega, by omega⟩
    rw [e] at hi ⊢
    have : i = 0 := by simpa using hi
    subst this; rfl
   ·have e : IR N (q + 1) = [] := by rw [WX, hb, hn]; rfl
    exact ⟨q + 1, (AL (by omega)).symm, ⟨by omega, e⟩, by omega⟩
  case cb =>
   intro q ⟨hq, hm⟩
   obtain ⟨l1, l2, l3⟩ := hFl q hq
   rw [AKU hq (hFs q hq), hB, l1, l2, l3, Gh, Et, l2, l3]
   refine ⟨⟨zH hg hq, by rw [hF q hq]; rfl⟩, ⟨⟨g1, by omega⟩, Nat.le_refl _⟩, ⟨by omega, by omega⟩, ⟨⟨by omega, by omega⟩, by omega, ⟨by omega, by omega⟩, hq⟩, ⟨Nat.le_refl _, hsr q hq, rfl, Nat.le_refl _, rfl, Nat.le_refl _, ⟨g1, by omega⟩, by omega, rfl, rfl⟩, λ hb => ?_, λ hb => ?_⟩
   ·have e : IR N (q + 1) = IR N q ++ [(q : Int)] := by rw [WX, if_pos hb]
    have := hro q
    refine ⟨⟨by decide, by decide, by omega, by omega⟩, q + 1, ⟨by rw [e]; simp, (AL (by omega)).symm, by rw [e]; simp, λ i hi => ?_⟩, by omega, by omega⟩
    rw [e] at hi ⊢
    rw [CP]
    by_cases hi2 : i < (IR N q).length
    ·simp [hi2]
    ·have : i - (IR N q).length = 0 := by simp at hi; omega
     simp only [hi2, if_false, decide_false, cond_false, this]; rfl
   ·have e : IR N (q + 1) = IR N q := by rw [WX, hb]; rfl
    exact ⟨q + 1, ⟨by rw [e], (AL (by omega)).symm, by rw [e], λ i _ => by rw [e]⟩, by omega, by omega⟩
  ·have : k = N.r.length := by omega
   subst this; rw [hnil]; rfl
 case lb =>
  intro k hk
  refine ⟨λ hlt => ⟨⟨⟨by omega, by omega⟩, by omega⟩, ⟨⟨⟨by omega, by omega⟩, by omega⟩, ⟨k, ⟨rfl, rfl, rfl, hdl k, rfl, rfl, hdl k, hdi k (by omega), rfl, λ _ _ => rfl⟩, by omega, rfl⟩⟩, ?ca, ?cb⟩, λ hge => ?_⟩
  case ca =>
   intro q ⟨hq, hn, hm⟩
   obtain ⟨l1, l2, l3⟩ := hFl q hq
   rw [AKU hq (hFs q hq), hB, l1, l2, l3, Gh, Et, l2, l3]
   refine ⟨⟨zH hg hq, by rw [hF q hq]; rfl⟩, ⟨⟨g1, by omega⟩, Nat.le_refl _⟩, ⟨by omega, by omega⟩, ⟨⟨by omega, by omega⟩, by omega, ⟨by omega, by omega⟩, hq⟩, ⟨Nat.le_refl _, hsr q hq, rfl, Nat.le_refl _, rfl, Nat.le_refl _, ⟨g1, by omega⟩, by omega, rfl, rfl⟩, λ hb => ?_, λ hb => ?_⟩
   ·have e : IR N (q + 1) = [(q : Int)] := by rw [WX, if_pos hb, hn]; rfl
    refine ⟨⟨by decide, by decide, by decide, by decide, by decide⟩, q + 1, ⟨by rw [e]; rfl, (AL (by omega)).symm, by rw [e]; rfl, λ i hi => ?_⟩, by omega, by omega⟩
    rw [e] at hi ⊢
    have : i = 0 := by simpa using hi
    subst this; rfl
   ·have e : IR N (q + 1) = [] := by rw [WX, hb, hn]; rfl
    exact ⟨q + 1, (AL (by omega)).symm, ⟨by omega, e⟩, by omega⟩
  case cb =>
   intro q ⟨hq, hm⟩
   obtain ⟨l1, l2, l3⟩ := hFl q hq
   rw [AKU hq (hFs q hq), hB, l1, l2, l3, Gh, Et, l2, l3]
   refine ⟨⟨zH hg hq, by rw [hF q hq]; rfl⟩, ⟨⟨g1, by omega⟩, Nat.le_refl _⟩, ⟨by omega, by omega⟩, ⟨⟨by omega, by omega⟩, by omega, ⟨by omega, by omega⟩, hq⟩, ⟨Nat.le_refl _, hsr q hq, rfl, Nat.le_refl _, rfl, Nat.le_refl _, ⟨g1, by omega⟩, by omega, rfl, rfl⟩, λ hb => ?_, λ hb => ?_⟩
   ·have e : IR N (q + 1) = IR N q ++ [(q : Int)] := by rw [WX, if_pos hb]
    have := hro q
    refine ⟨⟨by decide, by decide, by omega, by omega⟩, q + 1, ⟨by rw [e]; simp, (AL (by omega)).symm, by rw [e]; simp, λ i hi => ?_⟩, by omega, by omega⟩
    rw [e] at hi ⊢
    rw [CP]
    by_cases hi2 : i < (IR N q).length
    ·simp [hi2]
    ·have : i - (IR N q).length = 0 := by simp at hi; omega
     simp only [hi2, if_false, decide_false, cond_false, this]; rfl
   ·have e : IR N (q + 1) = IR N q := by rw [WX, hb]; rfl
    exact ⟨q + 1, ⟨by rw [e], (AL (by omega)).symm, by rw [e], λ i _ => by rw [e]⟩, by omega, by omega⟩
  ·have : k = N.r.length := by omega
   subst this; exact ⟨rfl, Nat.le_refl _, λ _ _ => rfl⟩
theorem ok25 : AH Try.prog 25 (C25.spec fT) := UY C25 A25 [] [202] Try.func25 (λ _ => by kernel_rfl) (λ _ => AA ok19 (AA ok67 (AA ok68 (AA ok56 (AA ok69 (AA ok70 AE)))))) (λ N h => p25 N h.1 h.2.1 h.2.2.1 h.2.2.2) (λ _ => WR rfl rfl) _
end Go.Bal
