/- The reference: Spans, Reach2, Group. -/
import Derived.Test.YtonddbmhljelgaaBalLvU
set_option linter.unusedVariables false
set_option linter.unusedSimpArgs false
namespace Go.Bal
open Go Go.Sym Go.Proofs
def rfS (N : NetL) (i K : Nat) : Span := ZM (gD N.r i).sp (λ k => rsR N ⟨i, k⟩) (λ k => fY N k i) K
def rgS (N : NetL) (i K : Nat) : Span := ZM (gD N.g i) (λ k => gD (gD (BS N) k) i) (λ k => fY N k (wr ((i : Int) + 100))) K
def rfL (N : NetL) (n : Nat) : List Span := (List.range n).map λ i => rfS N i (BS N).length
def rgL (N : NetL) (n : Nat) : List Span := (List.range n).map λ i => rgS N i (BS N).length
def spO (s : Span) : HCell := .live (.box [.int s.lo, .int s.hi])
def AAJ (n : Nat) (l : List Span) : HCell := .live (.row 2 n λ i => OW (gD l i))
def spSl (N : NetL) (f g : AVal) (p : Nat) (i : Nat) : List (Nat × AVal) := [(1, .bptr 203 0), (6, .d (XU (EL N))), (7, .d (eLL (BS N))), (8, f), (9, g), (p, .int i)]
def spI (N : NetL) (n m : Nat) (x : SuI) : Prop := AB N = 0 /\ NZ N = 0 /\ x.i < n /\ n - x.i = m /\ x.k <= (BS N).length
def spN8 (N : NetL) : Shape := { α := Nat, dflt := 0, T := λ i => ⟨spSl N Lu Lu 10 i, [(203, LF N)]⟩, inv := λ i => AB N = 0 /\ NZ N = 0 /\ i = 0, meas := λ i => N.r.length - i, tag := [0] }
def spO8 (N : NetL) : Shape := { α := Nat, dflt := 0, T := λ i => ⟨spSl N (.own 204 2 0 i) Lu 10 i, [(203, LF N), (204, AAJ i (rfL N i))]⟩, inv := λ i => AB N = 0 /\ NZ N = 0 /\ i <= N.r.length, meas := λ i => N.r.length - i, again := [(204, 16048)], tag := [1] }
def BFU (N : NetL) (m : Nat) : Shape := { α := SuI, dflt := default, T := λ x => ⟨spSl N Lu Lu 10 x.i ++ [(11, .bptr 205 0), (12, .int x.k)], [(203, LF N), (205, spO (rfS N x.i x.k))]⟩, inv := λ x => spI N N.r.length m x /\ x.i = 0, meas := λ x => (BS N).length - x.k, first := [(205, 11096)] }
def BJA (N : NetL) (m : Nat) : Shape := { α := SuI, dflt := default, T := λ x => ⟨spSl N (.own 204 2 0 x.i) Lu 10 x.i ++ [(11, .bptr 205 0), (12, .int x.k)], [(203, LF N), (204, AAJ x.i (rfL N x.i)), (205, spO (rfS N x.i x.k))]⟩, inv := λ x => spI N N.r.length m x, meas := λ x => (BS N).length - x.k, first := [(205, 11096)] }
def spFf (N : NetL) : AVal := iK (rfL N N.r.length)
def BHF (N : NetL) : Shape := { α := Nat, dflt := 0, T := λ i => ⟨spSl N (spFf N) Lu 13 i, [(203, LF N)]⟩, inv := λ i => AB N = 0 /\ NZ N = 0 /\ i = 0, meas := λ i => N.g.length - i, tag := [0] }
def BGX (N : NetL) : Shape := { α := Nat, dflt := 0, T := λ i => ⟨spSl N (spFf N) (.own 204 2 0 i) 13 i, [(203, LF N), (204, AAJ i (rgL N i))]⟩, inv := λ i => AB N = 0 /\ NZ N = 0 /\ i <= N.g.length, meas := λ i => N.g.length - i, again := [(204, 25048)], tag := [1] }
def AYR (N : NetL) (m : Nat) : Shape := { α := SuI, dflt := default, T := λ x => ⟨spSl N (spFf N) Lu 13 x.i ++ [(14, .bptr 205 0), (15, .int x.k)], [(203, LF N), (205, spO (rgS N x.i x.k))]⟩, inv := λ x => spI N N.g.length m x /\ x.i = 0, meas := λ x => (BS N).length - x.k, first := [(205, 20080)] }
def BBS (N : NetL) (m : Nat) : Shape := { α := SuI, dflt := default, T := λ x => ⟨spSl N (spFf N) (.own 204 2 0 x.i) 13 x.i ++ [(14, .bptr 205 0), (15, .int x.k)], [(203, LF N), (204, AAJ x.i (rgL N x.i)), (205, spO (rgS N x.i x.k))]⟩, inv := λ x => spI N N.g.length m x, meas := λ x => (BS N).length - x.k, first := [(205, 20080)] }
def AXY (N : NetL) (fz : List Nat) : Shape := { α := One, dflt := default, T := λ _ => ⟨[(1, .bptr 203 0), (6, .d (XU (EL N))), (7, .d (eLL (BS N))), (8, spFf N), (9, Lu)], [(203, LF N)]⟩, inv := λ _ => AB N = 0 /\ NZ N = 0, meas := λ _ => 0, ffz := fz }
def A36 (N : NetL) : Ann := { ann 128 [(76, C76.spec dN), (53, C53.spec d53), (54, C54.spec d54), (71, s71)] with mt := λ id => id == 15 || id == 24, cutIn := λ gs id => if id = 5 then some [{ α := One, dflt := default, T := λ _ => ⟨[(1, .bptr 203 0), (6, .d (XU (EL N)))], [(203, LF N)]⟩, inv := λ _ => AB N = 0 /\ NZ N = 0, meas := λ _ => 0, first := [(203, 1000)], ffz := [5048] }] else if id = 16 then some [AXY N [204], AXY N []] else none, loops := λ id => if id = 8 then some [spN8 N, spO8 N] else if id = 17 then some [BHF N, BGX N] else none, inner := λ gs id => if id = 12 then if gs.getD 1 0 = 1 then some [BJA N (gs.getD 0 0)] else some [BFU N (gs.getD 0 0)] else if id = 21 then if gs.getD 1 0 = 1 then some [BBS N (gs.getD 0 0)] else some [AYR N (gs.getD 0 0)] else none }
def rspF (N : NetL) : List Span := if nV N = 0 then rfL N N.r.length else []
def D0 (N : NetL) : List Span := if nV N = 0 then rgL N N.g.length else []
def C36 : Ctr := { α := NetL, xs := xsN, val := λ N => .tup [iK (rspF N), iK (D0 N), .int (nV N)], pre := λ N => [N.g.length <= 1000000 /\ N.r.length <= 1000000] }
def V36 (N : NetL) : Prop := BN Try.prog (A36 N) Try.f36 (AF Try.f36) (C36.xs N) (AD []) (C36.val N) (C36.keep N) [] [204]
abbrev Qp:=rspF
abbrev nN:=BHF
abbrev Zr:=BGX
abbrev lT a:=rfL a (AM a)
abbrev Vx a:=LC (lT a)
abbrev XJ a:=GP (AFA a)
abbrev Xc a b c d:=AHK a (XJ b) c d
abbrev OA a b:=rgS a (BL b) (MG b)
abbrev Pz a b:=rgL a (BL b)
abbrev Bp a b c:=Wv a (Vx b) (lT c)
abbrev Bf a:=DU (Vx a)
abbrev WQ a b c d:=ASI a b (AWY (AXY c d) AFO)
abbrev iO a b c d e f g:=AWX (LD a) (XJ b) c d e f g
abbrev Hy a b c d e f g:=iO a b c (AY d) e f g
abbrev eE a b c:=WA (OA a b) c
abbrev Ih a:=Io (BL a) 100
abbrev cT a b c:=Ca (nB a b) (BL c)
abbrev Hr a b:=ED (BL a) b
abbrev aO:=rU 204
abbrev YH a b c:=rfS a (BL b) (MG c)
abbrev gE a b:=ASI a b AFO
attribute [go_sem] Qp nN Zr lT Vx XJ Xc OA Pz Bp Bf WQ iO Hy eE Ih cT Hr aO YH gE
theorem vc36 (N : NetL) : (V36 N) = (JY (SC N (RV N) (VM N)) (Hd (IF N)) (qO (Rt (Qp N)) (Rt (D0 N)) (AS (Hd N) (Hd (IF N)))) (And (JH (IV (JC N)) (Cn N) (Ci (JC N)) (Bw (Ur fV (JC N))) (Zc (λ i=>AJ (AJ (ED (zG N) (AY N)) (BM (AY N)) (EO (λ j=>HJ j (zG N) (PG (Ua N j))) (BA N) (λ j=>MZ j N) (CA N) (DX N))) (LD N) (XJ N)))) (Va (λ i=>Bj (LD N) (XJ N) (AP (SJ N (XI (DE N) (λ j=>HW j N) (Ts N N) (λ j=>Qo j N N j (Ua N j)) VL (EU N) (Qj N N) (bX (-1) 0) (IV 1))) (bT (IJ (λ j=>AP (PC (KM N) (λ k=>KN k N) (ED (RZ N) (Fz (N0 (IF N) (jH N) 0) (OK N))) (λ k=>fB k (RZ N) (AJC N k) (Mr (N0 (IF N) (jH N) 0) (OK N) k)) (APO AC BU (Fh (AZ j) N))) (LD N) (XJ N) (FB j))) (λ j=>OV (Ff N (XJ N) (FB j)) j (AM N) (Fw (λ k=>Ja (KM N) (λ l=>KN l N) (FM N) (Ns (Ka N) BU (NF BU (Wp k j) (eO k) (BA N) (λ l=>MZ l N) (CA N) (λ l=>IM l N) (RY (YH N k k) (CY N j)) (WA (YH N k k) (CY N j)))) (iO N N k (AM N) (gE (spN8 N) j) k N) (FB (BL k)))) (yC (λ k=>CG (YU (iO N N k (AM N) (gE (spN8 N) j) k N) (BL k)) (MG k) (RZ N) (JH (Hk k N) (dK k N) (eU (E0 N k) N k) (WN (Hk k N) (dK k N) (eU (E1 N k) N k) (ZQ N N N N (IP (bE N k) (eB N k) (Ts N N) (λ l=>Qo l N N l (Ua N l)) VL (GT (BL k)) (EU N) (eM N k N) (Qj N N)))) (Fw (λ l=>HL (DW (KM N) (λ m=>KN m N) (FM N) (Ns (Ka N) BU (NF BU (Ue l k) (St l k) (BA N) (λ m=>MZ m N) (CA N) (λ m=>IM m N) (RY (YH N l l) (Js (YH N k k) (By N k N k N k N k) N N k k)) (WA (YH N l l) (Js (YH N k k) (By N k N k N k N k) N N k k))))) (YU (iO N N l (AM N) (gE (spN8 N) j) l N) (BL l)) (BFU N (gE (spN8 N) j)) l k))) (fO (λ l=>Nb (Kf N N (EF (FM N) (λ m=>MV m N) AC (IL l) (Cc AC BU (AU l (BL k)) (BA N) (λ m=>MZ m N) (CA N) (λ m=>IM m N) (IL l) (λ m=>dW m l (rfL N l) (YH N k k))))) (Xc N N l (AM N)) (spO8 N) l (spN8 N) j)))) (Zc (λ k=>Ja (KM N) (λ l=>KN l N) (FM N) (On (Ka N) (FB (Vx N)) AC (EO PU (BA N) (λ l=>MZ l N) (CA N) (DX N))) (LD N) (XJ N)))) (λ j=>OV (Xc N N j (AM N)) j (AM N) (Fw (λ k=>Bm (KM N) (MW (λ l=>KN l N) (FM N) (Ka N) AC (Hr k j) AC BU (Wp k j) (NF (eO k) (BA N) (CE N) (CA N) (λ l=>IM l N) (Hr k j) (λ l=>Gf l (BL k) (rfL N (BL k)) (rfL N j) l) (RY (YH N k k) (CY N j)) (WA (YH N k k) (CY N j)))) (iO N N k (AM N) (gE (spO8 N) j) k N))) (yC (λ k=>CG (iO N N k (AM N) (gE (spO8 N) j) k N) (MG k) (RZ N) (JH (Hk k N) (dK k N) (eU (E0 N k) N k) (WN (Hk k N) (dK k N) (eU (E1 N k) N k) (ZQ N N N N (IP (bE N k) (eB N k) (Ts N N) (λ l=>Qo l N N l (Ua N l)) VL (GT (BL k)) (EU N) (eM N k N) (Qj N N)))) (Fw (λ l=>HL (And (KM N) (MW (λ m=>KN m N) (FM N) (Ka N) AC (Hr l (BL k)) AC BU (Ue l k) (NF (St l k) (BA N) (CE N) (CA N) (λ m=>IM m N) (Hr l (BL k)) (λ m=>Gf m (BL l) (rfL N (BL l)) (rfL N (BL k)) m) (RY (YH N l l) (Js (YH N k k) (By N k N k N k N k) N N k k)) (WA (YH N l l) (Js (YH N k k) (By N k N k N k N k) N N k k))))) (iO N N l (AM N) (gE (spO8 N) j) l N) (BJA N (gE (spO8 N) j)) l k))) (VA (VI (BL k) 2 Ir 16) (λ l=>HL (Kf N N (EF (FM N) (λ m=>MV m N) AC (MK l (BL k)) (Cc AC BU (AU l (BL k)) (BA N) (λ m=>MZ m N) (CA N) (λ m=>IM m N) (MK l (BL k)) (λ m=>QA m l (ES (rfL N l) m) (No m (BL k) (ES (rfL N (BL k)) m) (YH N k k)) (Oc m (BL k) (ES (rfL N (BL k)) m) (YH N k k)))))) (Xc N N l (AM N)) (spO8 N) l j)))) (Zc (λ k=>AJ (PC (KM N) (λ l=>KN l N) (FM N) (λ l=>MV l N) (NF (ED (Vx N) j) (BM j) (AG (λ l=>Gf l (Vx N) (lT N) (rfL N j) (AT l))) AC PU (BA N) (λ l=>MZ l N) (CA N) (DX N))) (LD N) (XJ N))))) (Va (λ j=>Bj (LD N) (XJ N) (bT (IJ (λ k=>AP (PC (KM N) (λ l=>KN l N) (FM N) (λ l=>MV l N) (FN (Bf N) (λ l=>Bp l N N) AC BU (AZ k) (BA N) (CE N) (CA N) (DX N))) (LD N) (XJ N) (FB k))) (λ k=>OV (Ff N (XJ N) (FB k)) k (AY N) (Fw (λ l=>Ja (KM N) (λ m=>KN m N) (FM N) (EO (λ m=>MV m N) (Bf N) (λ m=>Bp m N N) AC (NF BU (Wp l k) (eO l) (BA N) (λ m=>MZ m N) (CA N) (λ m=>IM m N) (gQ (OA N l) N k) (eE N l (CU N k)))) (Hy N N l N (WQ (nN N) k N aO) l N) (FB (BL l)))) (yC (λ l=>CG (YU (Hy N N l N (WQ (nN N) k N aO) l N) (BL l)) (MG l) (RZ N) (And (Fl (Hk l N) (J1 l (EA (nB N l))) (ZQ N N N N (IP (bE N l) (eB N l) (Ts N N) (λ m=>Qo m N N m (Ua N m)) VL (AR (Ih l)) (EU N) (eM N l N) (Qj N N)))) (Fw (λ m=>HL (DW (KM N) (λ n=>KN n N) (FM N) (EO (λ n=>MV n N) (Bf N) (λ n=>Bp n N N) AC (NF BU (Ue m l) (St m l) (BA N) (λ n=>MZ n N) (CA N) (λ n=>IM n N) (RY (OA N m) (Wk (OA N l) (cT N l l) N N l (Ih l))) (eE N m (Wk (OA N l) (cT N l l) N N l (Ih l)))))) (YU (Hy N N m N (WQ (nN N) k N aO) m N) (BL m)) (AYR N (WQ (nN N) k N aO)) m l))) (fO (λ m=>Nb (Kf N N (PC (FM N) (λ n=>MV n N) (Bf N) (λ n=>Bp n N N) (hU AC (IL m) (AU m (BL l)) (BA N) (CE N) (CA N) (DX N) (AG (λ n=>dW n m (rgL N m) (OA N l)))))) (Xc N N m (AY N)) (Zr N) m (nN N) k)))) (hZ (RH (Qp N) (Vx N)) (AG (λ l=>TT l (Qp N) (lT N) l)) (Rt (D0 N)) (GP (Hd N)))) (λ k=>OV (Xc N N k (AY N)) k (AY N) (Fw (λ l=>Bm (KM N) (SH (AG (λ m=>KN m N)) (FM N) (Ka N) (Bf N) (λ m=>Bp m N N) AC (Hr l k) (Wp l k) (NF (eO l) (BA N) (CE N) (CA N) (λ m=>IM m N) (Hr l k) (λ m=>Gf m (BL l) (Pz N l) (rgL N k) m) (gQ (OA N l) N k) (eE N l (CU N k)))) (Hy N N l N (WQ (Zr N) k N aO) l N))) (yC (λ l=>CG (Hy N N l N (WQ (Zr N) k N aO) l N) (MG l) (RZ N) (And (Fl (Hk l N) (J1 l (EA (nB N l))) (ZQ N N N N (IP (bE N l) (eB N l) (Ts N N) (λ m=>Qo m N N m (Ua N m)) VL (AR (Ih l)) (EU N) (eM N l N) (Qj N N)))) (Fw (λ m=>HL (And (KM N) (SH (AG (λ n=>KN n N)) (FM N) (Ka N) (Bf N) (λ n=>Bp n N N) AC (Hr m (BL l)) (Ue m l) (NF (St m l) (BA N) (CE N) (CA N) (λ n=>IM n N) (Hr m (BL l)) (λ n=>Gf n (BL m) (Pz N m) (Pz N l) n) (RY (OA N m) (Wk (OA N l) (cT N l l) N N l (Ih l))) (eE N m (Wk (OA N l) (cT N l l) N N l (Ih l)))))) (Hy N N m N (WQ (Zr N) k N aO) m N) (BBS N (WQ (Zr N) k N aO)) m l))) (VA (VI (BL l) 2 Ir 16) (λ m=>HL (Kf N N (PC (FM N) (λ n=>MV n N) (Bf N) (λ n=>Bp n N N) (hU AC (MK m (BL l)) (AU m (BL l)) (BA N) (CE N) (CA N) (DX N) (AG (λ n=>QA n m (ES (rgL N m) n) (No n (BL l) (ES (Pz N l) n) (OA N l)) (Oc n (BL l) (ES (Pz N l) n) (OA N l))))))) (Xc N N m (AY N)) (Zr N) m k)))) (And (RH (Qp N) (Vx N)) (LQ (AG (λ l=>TT l (Qp N) (lT N) l)) (RH (D0 N) k) (BM k) (λ l=>TT l (D0 N) (rgL N k) (AT l)) (GP (Hd N)))))))) (Va (λ j=>Bj (LD N) (XJ N) (bT (IJ (λ k=>AP (PC (KM N) (λ l=>KN l N) (FM N) (λ l=>MV l N) (FN (Bf N) (λ l=>Bp l N N) AC BU (AZ k) (BA N) (CE N) (CA N) (DX N))) (LD N) (XJ N) (FB k))) (λ k=>OV (Ff N (XJ N) (FB k)) k (AY N) (Fw (λ l=>Ja (KM N) (λ m=>KN m N) (FM N) (EO (λ m=>MV m N) (Bf N) (λ m=>Bp m N N) AC (NF BU (Wp l k) (eO l) (BA N) (λ m=>MZ m N) (CA N) (λ m=>IM m N) (gQ (OA N l) N k) (eE N l (CU N k)))) (Hy N N l N (WQ (nN N) k N Gv) l N) (FB (BL l)))) (yC (λ l=>CG (YU (Hy N N l N (WQ (nN N) k N Gv) l N) (BL l)) (MG l) (RZ N) (And (Fl (Hk l N) (J1 l (EA (nB N l))) (ZQ N N N N (IP (bE N l) (eB N l) (Ts N N) (λ m=>Qo m N N m (Ua N m)) VL (AR (Ih l)) (EU N) (eM N l N) (Qj N N)))) (Fw (λ m=>HL (DW (KM N) (λ n=>KN n N) (FM N) (EO (λ n=>MV n N) (Bf N) (λ n=>Bp n N N) AC (NF BU (Ue m l) (St m l) (BA N) (λ n=>MZ n N) (CA N) (λ n=>IM n N) (RY (OA N m) (Wk (OA N l) (cT N l l) N N l (Ih l))) (eE N m (Wk (OA N l) (cT N l l) N N l (Ih l)))))) (YU (Hy N N m N (WQ (nN N) k N Gv) m N) (BL m)) (AYR N (WQ (nN N) k N Gv)) m l))) (fO (λ m=>Nb (Kf N N (PC (FM N) (λ n=>MV n N) (Bf N) (λ n=>Bp n N N) (hU AC (IL m) (AU m (BL l)) (BA N) (CE N) (CA N) (DX N) (AG (λ n=>dW n m (rgL N m) (OA N l)))))) (Xc N N m (AY N)) (Zr N) m (nN N) k)))) (hZ (RH (Qp N) (Vx N)) (AG (λ l=>TT l (Qp N) (lT N) l)) (Rt (D0 N)) (GP (Hd N)))) (λ k=>OV (Xc N N k (AY N)) k (AY N) (Fw (λ l=>Bm (KM N) (SH (AG (λ m=>KN m N)) (FM N) (Ka N) (Bf N) (λ m=>Bp m N N) AC (Hr l k) (Wp l k) (NF (eO l) (BA N) (CE N) (CA N) (λ m=>IM m N) (Hr l k) (λ m=>Gf m (BL l) (Pz N l) (rgL N k) m) (gQ (OA N l) N k) (eE N l (CU N k)))) (Hy N N l N (WQ (Zr N) k N Gv) l N))) (yC (λ l=>CG (Hy N N l N (WQ (Zr N) k N Gv) l N) (MG l) (RZ N) (And (Fl (Hk l N) (J1 l (EA (nB N l))) (ZQ N N N N (IP (bE N l) (eB N l) (Ts N N) (λ m=>Qo m N N m (Ua N m)) VL (AR (Ih l)) (EU N) (eM N l N) (Qj N N)))) (Fw (λ m=>HL (And (KM N) (SH (AG (λ n=>KN n N)) (FM N) (Ka N) (Bf N) (λ n=>Bp n N N) AC (Hr m (BL l)) (Ue m l) (NF (St m l) (BA N) (CE N) (CA N) (λ n=>IM n N) (Hr m (BL l)) (λ n=>Gf n (BL m) (Pz N m) (Pz N l) n) (RY (OA N m) (Wk (OA N l) (cT N l l) N N l (Ih l))) (eE N m (Wk (OA N l) (cT N l l) N N l (Ih l)))))) (Hy N N m N (WQ (Zr N) k N Gv) m N) (BBS N (WQ (Zr N) k N Gv)) m l))) (VA (VI (BL l) 2 Ir 16) (λ m=>HL (Kf N N (PC (FM N) (λ n=>MV n N) (Bf N) (λ n=>Bp n N N) (hU AC (MK m (BL l)) (AU m (BL l)) (BA N) (CE N) (CA N) (DX N) (AG (λ n=>QA n m (ES (rgL N m) n) (No n (BL l) (ES (Pz N l) n) (OA N l)) (Oc n (BL l) (ES (Pz N l) n) (OA N l))))))) (Xc N N m (AY N)) (Zr N) m k)))) (And (RH (Qp N) (Vx N)) (LQ (AG (λ l=>TT l (Qp N) (lT N) l)) (RH (D0 N) k) (BM k) (λ l=>TT l (D0 N) (rgL N k) (AT l)) (GP (Hd N))))))))))))) := by kernel_rfl
theorem S2 (N : NetL) (n : Nat) : (rfL N n).length = n := by simp [rfL]
theorem ANM (N : NetL) (n : Nat) : (rgL N n).length = n := by simp [rgL]
theorem ANG {N : NetL} {n i : Nat} (h : i < n) : gD (rfL N n) i = rfS N i (BS N).length := DY (λ i => rfS N i (BS N).length) h
theorem AOK {N : NetL} {n i : Nat} (h : i < n) : gD (rgL N n) i = rgS N i (BS N).length := DY (λ i => rgS N i (BS N).length) h
theorem BIV {N : NetL} {a i : Nat} (h : i < a + 1) : gD (rfL N (a + 1)) i = if i < a then gD (rfL N a) i else rfS N a (BS N).length := by
 rw [ANG h]
 by_cases hi : i < a
 ·rw [if_pos hi, ANG hi]
 ·rw [if_neg hi, show i = a by omega]
theorem BFV {N : NetL} {a i : Nat} (h : i < a + 1) : gD (rgL N (a + 1)) i = if i < a then gD (rgL N a) i else rgS N a (BS N).length := by
 rw [AOK h]
 by_cases hi : i < a
 ·rw [if_pos hi, AOK hi]
 ·rw [if_neg hi, show i = a by omega]
theorem BJN {b : Bool} {p : Prop} [Decidable p] (x y : Span) : (if p then x else y).lo = (bif decide p then x.lo else y.lo) /\ (if p then x else y).hi = (bif decide p then x.hi else y.hi) := by
 by_cases h : p <;> simp [h]
theorem AJI {N : NetL} (h : nV N = 0) : AB N = 0 /\ NZ N = 0 := by
 rw [vU, Yy] at h
 exact ⟨h.1, by rw [pL h.1]; exact h.2⟩
theorem p36 (N : NetL) (h1 : N.g.length <= 1000000 /\ N.r.length <= 1000000) : V36 N := by
 have et : NetL.mk N.g N.r = N := rfl
 have nl : (EL N).length = N.g.length := by simp [EL]
 have ea : BZ (LvA.mk N (EL N) 0) N.g.length = BS N := rfl
 rw [vc36]<;> simp only [go_sem]; simp only [CC, eq_self, implies_true, forall_const, et, ea, spI, spN8, spO8, BFU, BJA, BHF, BGX, AYR, BBS, AXY, List.cons_append, List.nil_append, List.append_nil, List.getD_cons_zero, List.getD_cons_succ]
 refine ⟨h1, λ hf => ?err, λ hf => ?ok⟩
 case err =>
  have hf : nV N ≠ 0 := by simpa using hf
  have e1 : rspF N = [] := if_neg hf
  have e2 : D0 N = [] := if_neg hf
  rw [e1, e2]; exact ⟨rfl, rfl, rfl⟩
 case ok =>
  have hf : nV N = 0 := by simpa using hf
  obtain ⟨hc, hl⟩ := AJI hf
  have hg := BB hc
  have hg8 := hg.g8
  have hr14 := hg.r14
  have hb : (BS N).length <= 6561 := nF (lvA0 N) hg8
  have lk : ∀ k, k < (BS N).length -> (gD (BS N) k).length = N.g.length := λ k hk => Wl (lvA0 N) (s := N.g.length) (k := k) hk
  have rF : rspF N = rfL N N.r.length := if_pos hf
  have rG : D0 N = rgL N N.g.length := if_pos hf
  have fl := S2 N
  have gl := ANM N
  refine ⟨⟨⟨by omega, by omega, by omega⟩, ⟨0⟩, ⟨nl, Nat.le_refl _, λ j hj => ?n0⟩, hc, hl⟩, λ _ => ⟨⟨rfl, hc, nl, by decide, by decide⟩, ⟨⟨0, rfl, hc, hl, rfl⟩, λ a ⟨_, _, ha⟩ => ⟨λ hlt => ⟨⟨by omega, by omega⟩, ⟨⟨a, 0⟩, ⟨rfl, rfl, rfl, rfl⟩, ⟨hc, hl, (by simp only; omega), rfl, Nat.zero_le _⟩, ha⟩, λ x ⟨⟨_, _, x1, x2, x3⟩, x4⟩ => ⟨λ hk => ?fns, λ hk => ?fne⟩⟩, λ hge => ?fnx⟩, λ a ⟨_, _, ha⟩ => ⟨λ hlt => ⟨⟨by omega, by omega⟩, ⟨⟨a, 0⟩, ⟨rfl, rfl, rfl, rfl, λ _ _ => ⟨rfl, rfl⟩, rfl, rfl⟩, hc, hl, (by simp only; omega), rfl, Nat.zero_le _⟩, λ x ⟨_, _, x1, x2, x3⟩ => ⟨λ hk => ?fos, λ hk => ?foe⟩⟩, λ hge => ?fox⟩⟩, λ _ => ?ph⟩⟩
  case n0 => rw [nl] at hj; simp [EL, GN, hj]
  case fns =>
   obtain ⟨_, b1, b2, _⟩ := hg.r x.i x1
   exact ⟨⟨⟨by omega, hk⟩, ⟨by omega, by omega⟩, ⟨by omega, by rw [lk x.k (by omega)]; omega⟩, ⟨by omega, hk⟩, ⟨by omega, by omega⟩, ⟨by omega, by rw [lk x.k (by omega)]; omega⟩, ⟨by omega, hk⟩, rfl, hc, lk x.k (by omega), nl⟩, ⟨x.i, x.k + 1⟩, ⟨rfl, (AL (by omega)).symm, rfl, rfl⟩, ⟨⟨hc, hl, x1, x2, by simp only; omega⟩, x4⟩, by simp only; omega⟩
  case fne =>
   obtain ⟨xi, xk⟩ := x
   simp only at x1 x2 x3 x4 hk ⊢
   have hx : xk = (BS N).length := by omega
   subst hx x4
   refine ⟨⟨λ h => absurd h (by decide), by decide, by decide, by decide, by decide⟩, 1, ⟨rfl, rfl, rfl, λ i hi => ?_⟩, ⟨hc, hl, by omega⟩, by omega⟩
   have : i = 0 := by omega
   subst this; exact ⟨rfl, rfl⟩
  case fnx => exact ⟨⟨0⟩, by rw [fl]; omega, hc, hl⟩
  case fos =>
   obtain ⟨_, b1, b2, _⟩ := hg.r x.i x1
   exact ⟨⟨⟨by omega, hk⟩, ⟨by omega, by omega⟩, ⟨by omega, by rw [lk x.k (by omega)]; omega⟩, ⟨by omega, hk⟩, ⟨by omega, by omega⟩, ⟨by omega, by rw [lk x.k (by omega)]; omega⟩, ⟨by omega, hk⟩, rfl, hc, lk x.k (by omega), nl⟩, ⟨x.i, x.k + 1⟩, ⟨rfl, rfl, (AL (by omega)).symm, rfl, λ _ _ => ⟨rfl, rfl⟩, rfl, rfl⟩, ⟨hc, hl, x1, x2, by simp only; omega⟩, by simp only; omega⟩
  case foe =>
   obtain ⟨xi, xk⟩ := x
   simp only at x1 x2 x3 hk ⊢
   have hx : xk = (BS N).length := by omega
   subst hx
   refine ⟨⟨by decide, λ h => absurd h (by decide), by omega, by omega⟩, xi + 1, ⟨rfl, (AL (by omega)).symm, rfl, λ i hi => ?_⟩, ⟨hc, hl, by omega⟩, by omega⟩
   rw [BIV hi]; exact BJN (b := true) _ _
  case fox =>
   have hx : a = N.r.length := by omega
   subst hx
   exact ⟨⟨0⟩, ⟨fl _, Nat.le_refl _, λ _ _ => ⟨rfl, rfl⟩⟩, hc, hl⟩
  case ph =>
   refine ⟨⟨0, rfl, hc, hl, rfl⟩, λ a ⟨_, _, ha⟩ => ⟨λ hlt => ⟨⟨by omega, by omega⟩, ⟨⟨a, 0⟩, ⟨rfl, rfl, rfl, rfl⟩, ⟨hc, hl, (by simp only; omega), rfl, Nat.zero_le _⟩, ha⟩, λ x ⟨⟨_, _, x1, x2, x3⟩, x4⟩ => ⟨λ hk => ?fns, λ hk => ?fne⟩⟩, λ hge => ?fnx⟩, λ a ⟨_, _, ha⟩ => ⟨λ hlt => ⟨⟨by omega, by omega⟩, ⟨⟨a, 0⟩, ⟨rfl, rfl, rfl, rfl, λ _ _ => ⟨rfl, rfl⟩, rfl, rfl⟩, hc, hl, (by simp only; omega), rfl, Nat.zero_le _⟩, λ x ⟨_, _, x1, x2, x3⟩ => ⟨λ hk => ?fos, λ hk => ?foe⟩⟩, λ hge => ?fox⟩⟩
   case fns =>
    exact ⟨⟨⟨by omega, hk⟩, ⟨by omega, by rw [lk x.k (by omega)]; omega⟩, ⟨by omega, hk⟩, rfl, hc, lk x.k (by omega), nl⟩, ⟨x.i, x.k + 1⟩, ⟨rfl, (AL (by omega)).symm, rfl, rfl⟩, ⟨⟨hc, hl, x1, x2, by simp only; omega⟩, x4⟩, by simp only; omega⟩
   case fne =>
    obtain ⟨xi, xk⟩ := x
    simp only at x1 x2 x3 x4 hk ⊢
    have hx : xk = (BS N).length := by omega
    subst hx x4
    refine ⟨⟨λ h => absurd h (by decide), by decide, by decide, by decide, by decide⟩, 1, ⟨rfl, rfl, rfl, λ i hi => ?_⟩, ⟨hc, hl, by omega⟩, by omega⟩
    have : i = 0 := by omega
    subst this; exact ⟨rfl, rfl⟩
   case fnx =>
    rw [rF, rG]
    exact ⟨rfl, λ _ _ => ⟨rfl, rfl⟩, by rw [gl]; omega, by rw [gl]; omega, hf⟩
   case fos =>
    exact ⟨⟨⟨by omega, hk⟩, ⟨by omega, by rw [lk x.k (by omega)]; omega⟩, ⟨by omega, hk⟩, rfl, hc, lk x.k (by omega), nl⟩, ⟨x.i, x.k + 1⟩, ⟨rfl, rfl, (AL (by omega)).symm, rfl, λ _ _ => ⟨rfl, rfl⟩, rfl, rfl⟩, ⟨hc, hl, x1, x2, by simp only; omega⟩, by simp only; omega⟩
   case foe =>
    obtain ⟨xi, xk⟩ := x
    simp only at x1 x2 x3 hk ⊢
    have hx : xk = (BS N).length := by omega
    subst hx
    refine ⟨⟨by decide, λ h => absurd h (by decide), by omega, by omega⟩, xi + 1, ⟨rfl, (AL (by omega)).symm, rfl, λ i hi => ?_⟩, ⟨hc, hl, by omega⟩, by omega⟩
    rw [BFV hi]; exact BJN (b := true) _ _
   case fox =>
    have hx : a = N.g.length := by omega
    subst hx
    rw [rF, rG]
    exact ⟨rfl, λ _ _ => ⟨rfl, rfl⟩, gl _, Nat.le_refl _, λ _ _ => ⟨rfl, rfl⟩, hf⟩
theorem ok36 : AH Try.prog 36 (C36.spec dN) := UY C36 A36 [] [204] Try.func36 (λ _ => by kernel_rfl) (λ _ => AA ok76 (AA ok53 (AA ok54 (AA ok71 AE)))) (λ a h => p36 a h) (λ _ => WR rfl rfl) _
end Go.Bal
