/- Package balance: sum, begun, truth, cost. -/
import Derived.Test.YtonddbmhljelgaaBalG
set_option linter.unusedVariables false
set_option linter.unusedSimpArgs false
namespace Go.Bal
open Go Go.Sym Go.Proofs
def BC (l : List Int) : DVal := lst 1 l.length λ i => FT (gD l i)
def PJ (l : List Span) : DVal := lst 2 l.length λ i => OW (gD l i)
def HE (l : List Reach) : DVal := lst 4 l.length λ i => Ms (gD l i)
def LW (N : NetL) : DVal := .agg [PJ N.g, HE N.r]
def OG (T : TruthL) : DVal := .agg [BC T.f, BC T.t]
structure AK where
 acc : Int
 k : Nat
 deriving Inhabited
def A99 (l : List Int) : Ann := { ann 17 [] with loops := λ id => if id = 3 then some [{ α := AK, dflt := default, T := λ s => ⟨[(3, .int s.acc), (6, .d (BC l)), (7, .int l.length), (8, .int s.k)], []⟩, inv := λ s => s.k <= l.length /\ Ak s.acc (l.drop s.k) = Ak 0 l, meas := λ s => l.length - s.k }] else none }
def C99 : Ctr := { α := List Int, xs := λ l => [.d (BC l)], L := λ _ => [], val := λ l => .int (Ak 0 l), keep := λ _ => [], pre := λ l => [l.length < 4611686018427387904] }
def d99 : List AVal -> Heap -> Option (List Int × List (Nat × Nat) × List Nat)
 | [.own id _ _ n], H => match H id with
  | .live (.row _ _ get) => some (NO n λ i => OO (get i), [], [id])
  | _ => none
 | [.d (.list _ n g _)], _ => some (NO n λ i => OO (g i), [], [])
 | _, _ => none
def V99 (l : List Int) : Prop := BN Try.prog (A99 l) Try.f99 (AF Try.f99) (C99.xs l) (AD (C99.L l)) (C99.val l) (C99.keep l) [] []
abbrev X5:=@Exists AK
abbrev Uj:=AK.acc
abbrev GR:=AK.k
abbrev AZM:=λ (f : AK -> Prop) => ∀ (x : AK), f x
abbrev aG a:=Ak 0 a
abbrev Xe a b c:=Ak (Uj a) (Zk b c)
abbrev FR a b (c:Nat->Prop) d e:=BG a b (AG c) d e
abbrev uF a:=GT (EA a)
abbrev Fo a b c:=HJ a (EA b) c
abbrev NV a b:=Fo a b (AR (Ca b a))
abbrev Cz a:=DU (EA a)
abbrev RI a b c:=AS a (NJ b c)
attribute [go_sem] X5 Uj GR AZM aG Xe FR uF Fo NV Cz RI
theorem vc99 (l : List Int) : (V99 l) = (And (X5 (λ i=>YL (FR (GP (Uj i)) (Cz l) (λ j=>NV j l) (uF l) (AZ (GR i))) (GR i) (EA l) (Xe i (GR i) l) (aG l))) (AZM (λ i=>CG (WD (GR i) (EA l) (Xe i (GR i) l) (aG l)) (GR i) (EA l) (Ax (GR i) (EA l) (X5 (λ j=>Ar (FR (RI (Uj j) (Uj i) (Ca l (GR i))) (Cz l) (λ k=>NV k l) (uF l) (AU (GR j) (GR i))) (GR j) (EA l) (Xe j (GR j) l) (aG l) (GR i)))) (AS (aG l) (Uj i))))) := by kernel_rfl
theorem p99 (l : List Int) (h : l.length < 4611686018427387904) : V99 l := by
 rw [vc99]<;> simp only [go_sem]; simp only [CC, eq_self, implies_true, forall_const]
 refine ⟨⟨⟨0, 0⟩, ⟨rfl, rfl⟩, Nat.zero_le _, rfl⟩, λ s ⟨h1, h2⟩ => ⟨λ hlt => ⟨⟨by omega, hlt⟩, ⟨⟨wr (s.acc + gD l s.k), s.k + 1⟩, ⟨rfl, (AL (by omega)).symm⟩, ⟨by show s.k + 1 <= _; omega, ?_⟩, by show _ - (s.k + 1) < _; omega⟩⟩, λ hge => ?_⟩⟩
 ·rw [JP (by omega)] at h2; exact h2
 ·rw [List.drop_eq_nil_of_le (by omega)] at h2; exact h2.symm
theorem ok99 : AH Try.prog 99 (C99.spec d99) := UY C99 A99 [] [] Try.func99 (λ _ => by kernel_rfl) (λ _ => AE) p99 (λ _ => WR rfl rfl) _
def begB (r : Nat) (n : Nat) (N : NetL) : HCell := .live (.box [.own r 5 0 n, .int N.g.length, .int N.r.length])
def begN (N : NetL) : HCell := .live (.box [.d Gg, .int N.g.length, .int N.r.length])
def begR (n : Nat) (all : List Way) : HCell := .live (.row 5 n λ i => eWay (gD all i))
def LF (N : NetL) : HCell := .live (.box [.d (PJ N.g), .d (HE N.r)])
def H5 (w : Way) : Way := { w with now := min (max 0 w.sp.lo) w.sp.hi }
def A67 (N : NetL) : Ann := { ann 102 [] with mt := λ id => id == 5 || id == 10, loops := λ id => if id = 3 then some [{ α := One, dflt := default, T := λ _ => ⟨[(1, .bptr 200 0), (3, .bptr 201 0), (20, .d (HE N.r)), (21, .int N.r.length), (22, .int 0)], [(200, LF N), (201, begN N)]⟩, inv := λ _ => True, meas := λ _ => N.r.length, first := [(200, 1000), (201, 2128)] }, { α := Nat, dflt := 0, T := λ k => ⟨[(1, .bptr 200 0), (3, .bptr 201 0), (20, .d (HE N.r)), (21, .int N.r.length), (22, .int k)], [(200, LF N), (201, begB 202 k N), (202, begR k (CD N))]⟩, inv := λ k => k <= N.r.length, meas := λ k => N.r.length - k, again := [(202, 6224)] }] else if id = 8 then some [{ α := One, dflt := default, T := λ _ => ⟨[(3, .bptr 201 0), (46, .d (PJ N.g)), (47, .int N.g.length), (48, .int 0)], [(201, begN N)]⟩, inv := λ _ => N.r.length = 0, meas := λ _ => N.g.length }, { α := Nat, dflt := 0, T := λ k => ⟨[(3, .bptr 201 0), (46, .d (PJ N.g)), (47, .int N.g.length), (48, .int k)], [(201, begB 202 (N.r.length + k) N), (202, begR (N.r.length + k) (CD N))]⟩, inv := λ k => k <= N.g.length, meas := λ k => N.g.length - k, again := [(202, 11240)] }] else if id = 13 then some [{ α := KW, dflt := default, T := λ s => ⟨[(3, .bptr 201 0), (77, .own 202 5 0 s.all.length), (78, .int s.all.length), (79, .int s.k)], [(201, begB 202 s.all.length N), (202, begR s.all.length s.all)]⟩, inv := λ s => s.k <= s.all.length /\ s.all.length = N.r.length + N.g.length /\ ∀ i, i < s.all.length -> gD s.all i = if i < s.k then H5 (gD (CD N) i) else gD (CD N) i, meas := λ s => s.all.length - s.k }] else none }
def C67 : Ctr := { α := NetL, xs := λ N => [.d (LW N)], L := λ _ => [], val := λ _ => .bptr 0 0, keep := λ N => [(0, .live (B5 (AO N) 1)), (1, .live (zK (AO N)))], pre := λ N => [1 <= N.g.length /\ N.g.length <= 1000, N.r.length <= 1000] }
def Tf : DVal -> Option NetL
 | .agg [.list _ n g _, .list _ m r _] => some ⟨NO n λ i => ZX (g i), NO m λ i => RN (r i)⟩
 | _ => none
def fT : List AVal -> Heap -> Option (NetL × List (Nat × Nat) × List Nat)
 | [.d x], _ => match Tf x with
  | some N => some (N, [], [])
  | none => none
 | _, _ => none
def V67 (N : NetL) : Prop := BN Try.prog (A67 N) Try.f67 (AF Try.f67) (C67.xs N) (AD (C67.L N)) (C67.val N) (C67.keep N) [(0, 201), (1, 202)] []
abbrev PM:=@List.length Reach
abbrev iC:=NetL.r
abbrev qX:=Reach.fr
abbrev Fg:=@gD Reach instInhabitedReach
abbrev Yw:=Reach.to
abbrev mV:=Reach.sp
abbrev LC:=@List.length Span
abbrev lK:=NetL.g
abbrev ES:=@gD Span instInhabitedSpan
abbrev Oo:=CD
abbrev Gz:=False
abbrev LZ:=AO
abbrev Iw a b:=SY (NN a) b
abbrev AM a:=PM (iC a)
abbrev AY a:=LC (lK a)
abbrev Sw a b c d e:=HJ a (CH b) ((@Eq Way) (OF c d) e)
abbrev eV a b:=QN (Oo a) b
abbrev Qn a b c d e:=(λ (x0 x1 : Nat) (x2 x3 : Way) => if x0 < x1 then x2 else x3) a (CK b) c (eV d e)
abbrev Su a b:=H5 (eV a b)
abbrev KB a b:=Oi (AM a) b
abbrev K8 a b c:=AUD a (KB b c)
abbrev Qh a b c:=K8 a b (AY c)
abbrev Sd a b:=jE a (CH b)
abbrev PB a:=GT (AM a)
abbrev Cn a:=GT (AY a)
abbrev Fm a b c (d:Nat->Prop):=Nu a (Cn b) (PB c) d
abbrev Jx a b c d:=PQ a (CK b) c d
abbrev Dp a:=AT (CK a)
abbrev XD a:=HH a (Dp a)
abbrev Sk a b c (d:Nat->Prop):=AP a b c (AG d)
abbrev QD a b:=IS (Oo a) b
abbrev Kj a b:=HT (Oo a) b
abbrev UW a b c d:=CB a (TB b c) c b d
abbrev lO a b:=Xb (eV a b)
abbrev Mj a b c d:=HV a b (Ok c) d
abbrev Oc a b c d:=Mj a b c (Ok d)
abbrev CU a b:=ES (lK a) b
abbrev Nv a b c d:=HV a b (Ou c) d
abbrev No a b c d:=Nv a b c (Ou d)
abbrev JC a:=BT (AY a)
abbrev AJQ a b c d:=jS a b (CU c d)
abbrev MZ a b:=AJQ a (AY b) b a
abbrev CE a:=AG (λ i=>MZ i a)
abbrev BA a:=DU (AY a)
abbrev iW:=AEY 5
abbrev Vj a b:=TB a (AY b)
abbrev ZH:=TR 0
abbrev gQ a b c:=RY a (CU b c)
abbrev lJ a:=ED 0 a
abbrev E5:=bX 0 0
abbrev Qe a:=ABZ E5 0 a
abbrev Bm a b c:=And (And a b) c
abbrev Nf a b c d:=UW a b (AM c) d
abbrev BBQ a b c d e f g h:=IW a b c d e f a g h
abbrev Fa a b:=Fg (iC a) b
abbrev CY a b:=mV (Fa a b)
abbrev EC a b:=Yw (Fa a b)
abbrev EJ a b:=qX (Fa a b)
abbrev CA a:=DU (AM a)
abbrev O7 a b c d e f:=Es a b c (AJ d e f)
abbrev AKP a b c d e:=O7 a b (AR c) d (Uk e) (Uu e)
abbrev I7 a b c d e f g:=AKP a b (EJ c d) (AR (EC e f)) g
abbrev IM a b:=I7 a (AM b) b a b a (CY b a)
abbrev DX a:=AG (λ i=>IM i a)
abbrev YU a b:=And a (FB b)
abbrev QJ a b c:=AS a (EJ b c)
abbrev JH a b c d e:=And (AP a b c d) e
abbrev SH a b c d (e:Nat->Prop) f g h p:=IW a b c d (AG e) f g h p
abbrev NF a b c d (e:Nat->Prop) f (g:Nat->Prop) h p:=SH a b c d e f (AG g) h p
attribute [go_sem] PM iC qX Fg Yw mV LC lK ES Oo Gz LZ Iw AM AY Sw eV Qn Su KB K8 Qh Sd PB Cn Fm Jx Dp XD Sk QD Kj UW lO Mj Oc CU Nv No JC AJQ MZ CE BA iW Vj ZH gQ lJ E5 Qe Bm Nf BBQ Fa CY EC EJ CA O7 AKP I7 IM DX YU QJ JH SH NF
theorem vc67 (N : NetL) : (V67 N) = (PY (Zc (λ i=>JH (CA N) (DX N) (PB N) (NF BX (BA N) (CE N) (CA N) (λ j=>IM j N) AC PU (Cn N) (PB N)) SM)) (Va (λ i=>xB SM 0 (BT (AM N)) (dT (Qe (AM N)) (Vy (lJ 5) iW 40) (λ j=>qG (And (CA N) (BBQ (DX N) (PB N) (qY j 0) (BA N) (CE N) (CA N) AC (Fm (IL j) N N (λ k=>AME k j (QJ (SY (Oo N) k) N ZH) (Kj N k) (EC N ZH) (QD N k) (CY N ZH) (GP (lO N k)))))) (TB j (AM N)) (AM N) j)) (PY (Zc (λ j=>YU (DW (BA N) (λ k=>MZ k N) (Cn N) (FR BX AC PU (Cn N) (PB N))) (AM N))) (Va (λ j=>xB (FB (AM N)) 0 (JC N) (dT (Qe (AY N)) (Vy (lJ 5) iW 40) (λ k=>qG (And (BA N) (Bo (CE N) (Cn N) (qY k 0) (Fm (IL (KB N k)) N N (λ l=>ASK l (KB N k) (NS (Oo N) l (JC N)) (GP (Kj N l)) (gQ (QD N l) N ZH) (QD N l) (CU N ZH) (GP (lO N l)))))) (Vj k N) (AY N) k)) (And Gz (AGI (λ k=>CG (PY (Sd k k) (Qh k N N) (λ l=>Sw l k k l (Qn l k (Su N l) N l))) (CK k) (CH k) (Gx (H8 (CK k) (CH k) (Dp k)) (lR (λ l=>oJ (BF (Kg (Rb l k) (EQ (CH l) (CH k)) (CK l) (CK k) AC (Fm (Rb l k) N N (λ m=>ZC m (CH l) (NS (NN l) m (Jx m k (Iw k (Dp k)) (Iw k m))) (KK l m) (Jx m k (KK k (Dp k)) (KK k m)) (MB (HH l m) (Qw m (CK k) (XD k) (HH k m))) (MF (HH l m) (Tb m (CK k) (XD k) (HH k m))) (OF l m) (Jx m k (Zp (hd34 0 (Ou (XD k))) (Ok (XD k))) (Xb (OF k m))))))) (PY (Sd l l) (Qh l N N) (λ m=>Sw m l l m (Qn m l (Su N m) N m))) (CH l) (CK l) (CH k) (CK k)))) (BF (Bl (Py (LZ N) (CH k)) (LZ N) (AY N) (MP (LZ N)) (AM N) (λ l=>KV l (LZ N) (ZJ (LZ N) l (Iw k l)) (FG (LZ N) l) (KK k l) (FJ (LZ N) l) (HH k l) (EY (LZ N) l) (OF k l))))))))) (λ j=>OV (Vj j N) j (AY N) (VI (KB N j) 5 iW 40) (IJ (λ k=>UW (And (BA N) (Kg (CE N) (Cn N) k j AC (Fm (MK (KB N k) (KB N j)) N N (λ l=>ZC l (KB N k) (NS (Oo N) l (HV l (KB N j) (SY (Oo N) l) (JC N))) (Kj N l) (HV l (KB N j) (Kj N l) (BT j)) (MB (QD N l) (No l (KB N j) (QD N l) (CU N j))) (MF (QD N l) (Oc l (KB N j) (QD N l) (CU N j))) (eV N l) (HV l (KB N j) (lO N l) 0))))) k (AY N) j)) (And (lR (λ k=>Sk (BF (Bo (K8 k N j) (EQ (CH k) (KB N j)) (AZ (CK k)) (Fm (K8 k N j) N N (λ l=>TQ l (CH k) (JX (NN k) l (Oo N)) (KK k l) (Kj N l) (HH k l) (QD N l) (OF k l) (eV N l))))) (Sd k k) (Qh k N N) (λ l=>Sw l k k l (Qn l k (Su N l) N l)))) (AGI (λ k=>CG (PY (Sd k k) (Qh k N N) (λ l=>Sw l k k l (Qn l k (Su N l) N l))) (CK k) (CH k) (Gx (H8 (CK k) (CH k) (Dp k)) (lR (λ l=>oJ (BF (Kg (Rb l k) (EQ (CH l) (CH k)) (CK l) (CK k) AC (Fm (Rb l k) N N (λ m=>ZC m (CH l) (NS (NN l) m (Jx m k (Iw k (Dp k)) (Iw k m))) (KK l m) (Jx m k (KK k (Dp k)) (KK k m)) (MB (HH l m) (Qw m (CK k) (XD k) (HH k m))) (MF (HH l m) (Tb m (CK k) (XD k) (HH k m))) (OF l m) (Jx m k (Zp (hd34 0 (Ou (XD k))) (Ok (XD k))) (Xb (OF k m))))))) (PY (Sd l l) (Qh l N N) (λ m=>Sw m l l m (Qn m l (Su N m) N m))) (CH l) (CK l) (CH k) (CK k)))) (BF (Bl (Py (LZ N) (CH k)) (LZ N) (AY N) (MP (LZ N)) (AM N) (λ l=>KV l (LZ N) (ZJ (LZ N) l (Iw k l)) (FG (LZ N) l) (KK k l) (FJ (LZ N) l) (HH k l) (EY (LZ N) l) (OF k l))))))))))) (λ i=>OV (TB i (AM N)) i (AM N) (VI i 5 iW 40) (IJ (λ j=>Nf (And (CA N) (BBQ (DX N) (PB N) (AU j i) (BA N) (CE N) (CA N) AC (Fm (MK j i) N N (λ k=>ZC k j (NS (Oo N) k (HV k i (SY (Oo N) k) (EJ N i))) (Kj N k) (HV k i (Kj N k) (EC N i)) (MB (QD N k) (No k i (QD N k) (CY N i))) (MF (QD N k) (Oc k i (QD N k) (CY N i))) (eV N k) (HV k i (lO N k) 0))))) j N i)) (PY (IJ (λ j=>Bm (BA N) (Bo (CE N) (Cn N) (AZ j) (Fm (ED (KB N j) i) N N (λ k=>AIT k (KB N j) (AR (SY (Oo N) k)) (AR (Kj N k)) (Uk (QD N k)) (Uu (QD N k)) (AR (lO N k))))) (Vj j N))) (Va (λ j=>xB (FB (AM N)) 0 (JC N) (dT (Qe (AY N)) (Vy (lJ 5) iW 40) (λ k=>qG (And (BA N) (Bo (CE N) (Cn N) (qY k 0) (Fm (IL (KB N k)) N N (λ l=>ASK l (KB N k) (NS (Oo N) l (JC N)) (GP (Kj N l)) (gQ (QD N l) N ZH) (QD N l) (CU N ZH) (GP (lO N l)))))) (Vj k N) (AY N) k)) (And Gz (AGI (λ k=>CG (PY (Sd k k) (Qh k N N) (λ l=>Sw l k k l (Qn l k (Su N l) N l))) (CK k) (CH k) (Gx (H8 (CK k) (CH k) (Dp k)) (lR (λ l=>oJ (BF (Kg (Rb l k) (EQ (CH l) (CH k)) (CK l) (CK k) AC (Fm (Rb l k) N N (λ m=>ZC m (CH l) (NS (NN l) m (Jx m k (Iw k (Dp k)) (Iw k m))) (KK l m) (Jx m k (KK k (Dp k)) (KK k m)) (MB (HH l m) (Qw m (CK k) (XD k) (HH k m))) (MF (HH l m) (Tb m (CK k) (XD k) (HH k m))) (OF l m) (Jx m k (Zp (hd34 0 (Ou (XD k))) (Ok (XD k))) (Xb (OF k m))))))) (PY (Sd l l) (Qh l N N) (λ m=>Sw m l l m (Qn m l (Su N m) N m))) (CH l) (CK l) (CH k) (CK k)))) (BF (Bl (Py (LZ N) (CH k)) (LZ N) (AY N) (MP (LZ N)) (AM N) (λ l=>KV l (LZ N) (ZJ (LZ N) l (Iw k l)) (FG (LZ N) l) (KK k l) (FJ (LZ N) l) (HH k l) (EY (LZ N) l) (OF k l))))))))) (λ j=>OV (Vj j N) j (AY N) (VI (KB N j) 5 iW 40) (IJ (λ k=>UW (And (BA N) (Kg (CE N) (Cn N) k j AC (Fm (MK (KB N k) (KB N j)) N N (λ l=>ZC l (KB N k) (NS (Oo N) l (HV l (KB N j) (SY (Oo N) l) (JC N))) (Kj N l) (HV l (KB N j) (Kj N l) (BT j)) (MB (QD N l) (No l (KB N j) (QD N l) (CU N j))) (MF (QD N l) (Oc l (KB N j) (QD N l) (CU N j))) (eV N l) (HV l (KB N j) (lO N l) 0))))) k (AY N) j)) (And (lR (λ k=>Sk (BF (Bo (K8 k N j) (EQ (CH k) (KB N j)) (AZ (CK k)) (Fm (K8 k N j) N N (λ l=>TQ l (CH k) (JX (NN k) l (Oo N)) (KK k l) (Kj N l) (HH k l) (QD N l) (OF k l) (eV N l))))) (Sd k k) (Qh k N N) (λ l=>Sw l k k l (Qn l k (Su N l) N l)))) (AGI (λ k=>CG (PY (Sd k k) (Qh k N N) (λ l=>Sw l k k l (Qn l k (Su N l) N l))) (CK k) (CH k) (Gx (H8 (CK k) (CH k) (Dp k)) (lR (λ l=>oJ (BF (Kg (Rb l k) (EQ (CH l) (CH k)) (CK l) (CK k) AC (Fm (Rb l k) N N (λ m=>ZC m (CH l) (NS (NN l) m (Jx m k (Iw k (Dp k)) (Iw k m))) (KK l m) (Jx m k (KK k (Dp k)) (KK k m)) (MB (HH l m) (Qw m (CK k) (XD k) (HH k m))) (MF (HH l m) (Tb m (CK k) (XD k) (HH k m))) (OF l m) (Jx m k (Zp (hd34 0 (Ou (XD k))) (Ok (XD k))) (Xb (OF k m))))))) (PY (Sd l l) (Qh l N N) (λ m=>Sw m l l m (Qn m l (Su N m) N m))) (CH l) (CK l) (CH k) (CK k)))) (BF (Bl (Py (LZ N) (CH k)) (LZ N) (AY N) (MP (LZ N)) (AM N) (λ l=>KV l (LZ N) (ZJ (LZ N) l (Iw k l)) (FG (LZ N) l) (KK k l) (FJ (LZ N) l) (HH k l) (EY (LZ N) l) (OF k l))))))))))) := by kernel_rfl
theorem NY (N : NetL) : (CD N).length = N.r.length + N.g.length := by simp [CD]
theorem Xh {N : NetL} {i : Nat} (h : i < N.r.length) : gD (CD N) i = ⟨(gD N.r i).fr, (gD N.r i).to, (gD N.r i).sp, 0⟩ := by
 unfold CD
 rw [CP, if_pos (by simpa using h)]
 simp [gD, List.getD_eq_getElem?_getD, h]
theorem Vw {N : NetL} {i : Nat} (h : i < N.g.length) : gD (CD N) (N.r.length + i) = ⟨N.g.length, i, gD N.g i, 0⟩ := by
 unfold CD
 rw [CP, if_neg (by simp)]
 simp [gD, List.getD_eq_getElem?_getD, h]
theorem Ex {α β : Type} [Inhabited α] [Inhabited β] (f : α -> β) {l : List α} {i : Nat} (h : i < l.length) : gD (l.map f) i = f (gD l i) := by
 simp [gD, List.getD_eq_getElem?_getD, h]
theorem IZ (N : NetL) : (AO N).all = (CD N).map H5 := rfl
theorem CW (N : NetL) : (AO N).all.length = N.r.length + N.g.length := by rw [IZ]; simp [NY]
theorem p67 (N : NetL) (h1 : 1 <= N.g.length /\ N.g.length <= 1000) (h2 : N.r.length <= 1000) : V67 N := by
 rw [vc67]<;> simp only [go_sem]; simp only [CC, eq_self, implies_true, forall_const, yS, zE]
 refine ⟨⟨⟨0⟩, trivial⟩, ⟨λ hlt => ?a1, λ hge => ⟨⟨⟨0⟩, by omega⟩, ?c1, ?b1⟩⟩, λ k hk => ⟨λ hlt => ?a3, λ hge => ⟨?a4, ?c2, ?b2⟩⟩⟩
 case a1 =>
  refine ⟨⟨by omega, hlt⟩, ⟨by decide, by decide, by decide, by decide, by decide⟩, 1, ⟨rfl, rfl, rfl, λ i hi => ?_⟩, by omega, by omega⟩
  have : i = 0 := by omega
  subst this
  rw [Xh (by omega)]; exact ⟨rfl, rfl, rfl, rfl, rfl⟩
 case a3 =>
  refine ⟨⟨by omega, hlt⟩, ⟨by decide, by decide, by omega, by omega⟩, k + 1, ⟨(AL (by omega)).symm, rfl, rfl, λ i hi => ?_⟩, by omega, by omega⟩
  by_cases hi2 : i < k
  ·simp [hi2]
  ·have : i = k := by omega
   subst this
   simp only [hi2, decide_false, cond_false]
   rw [Xh (by omega)]; exact ⟨rfl, rfl, rfl, rfl, rfl⟩
 case a4 =>
  have : k = N.r.length := by omega
  subst this
  exact ⟨0, by simp, by omega⟩
 case c1 | c2 =>
  intro h0
  refine ⟨λ hlt => ?_, λ hge => by omega⟩
  refine ⟨⟨by omega, hlt⟩, ⟨by decide, by decide, by decide, by decide, by decide⟩, 1, ⟨rfl, by omega, by omega, λ i hi => ?_⟩, by omega, by omega⟩
  have : i = 0 := by omega
  subst this
  have := Vw (N := N) (i := 0) (by omega)
  rw [h0] at this
  rw [this]; exact ⟨rfl, rfl, rfl, rfl, rfl⟩
 case b1 | b2 =>
  intro k hk
  refine ⟨λ hlt => ?_, λ hge => ⟨?_, λ s ⟨g1, g2, g3⟩ => ⟨λ hlt => ?_, λ hge => ?_⟩⟩⟩
  ·refine ⟨⟨by omega, hlt⟩, ⟨by decide, by decide, by omega, by omega⟩, k + 1, ⟨(AL (by omega)).symm, by omega, by omega, λ i hi => ?_⟩, by omega, by omega⟩
   by_cases hi2 : i < N.r.length + k
   ·simp [hi2]
   ·have : i = N.r.length + k := by omega
    subst this
    simp only [hi2, decide_false, cond_false]
    rw [Vw (by omega)]; exact ⟨rfl, rfl, rfl, rfl, rfl⟩
  ·have : k = N.g.length := by omega
   subst this
   exact ⟨⟨0, CD N⟩, ⟨NY N, by rw [NY], rfl, NY N, NY N, λ i _ => ⟨rfl, rfl, rfl, rfl, rfl⟩⟩, by simp, NY N, λ i _ => by simp⟩
  ·have hk : s.k < s.all.length := by omega
   refine ⟨⟨⟨by omega, hlt⟩, hk⟩, ⟨⟨by omega, hlt⟩, hk⟩, ⟨s.k + 1, s.all.modify s.k H5⟩, ⟨by simp, by simp, (AL (by omega)).symm, by simp, by simp, λ i hi => ?_⟩, ⟨by simp; omega, by simp; omega, λ i hi => ?_⟩, by simp; omega⟩
   ·rw [BD hk]
    by_cases he : i = s.k
    ·subst he; simp [H5]
    ·simp [he]
   ·have hi : i < s.all.length := by simpa using hi
    show gD (s.all.modify s.k H5) i = if i < s.k + 1 then _ else _
    rw [BD hk]
    by_cases he : i = s.k
    ·subst he; rw [if_pos rfl, if_pos (by omega), g3 _ hk, if_neg (by omega)]
    ·rw [if_neg he, g3 _ hi]
     by_cases hi2 : i < s.k
     ·rw [if_pos hi2, if_pos (by omega)]
     ·rw [if_neg hi2, if_neg (by omega)]
  ·have hs : (AO N).all = s.all := by
    apply Jc
    ·rw [CW, g2]
    ·intro i hi
     rw [CW] at hi
     rw [IZ, Ex _ (by rw [NY]; exact hi), g3 _ (by omega), if_pos (by omega)]
   rw [hs]
   exact ⟨rfl, rfl, rfl, rfl, λ i _ => ⟨rfl, rfl, rfl, rfl, rfl⟩⟩
theorem ok67 : AH Try.prog 67 (C67.spec fT) := UY C67 A67 [(0, 201), (1, 202)] [] Try.func67 (λ _ => by kernel_rfl) (λ _ => AE) (λ N h => p67 N h.1 h.2) (λ _ => WR rfl rfl) _
def pP (n : Nat) (l : List Int) : HCell := .live (.row 1 n λ i => FT (gD l i))
def nows (d : Desk) : List Int := d.all.map λ w => w.now
def A56 (d : Desk) : Ann := { ann 49 [] with E := [100, 101], mt := λ id => id == 5, loops := λ id => if id = 3 then some [{ α := Nat, dflt := 0, T := λ k => ⟨[(0, .bptr 100 0), (2, .bptr 200 0), (3, .d Gg), (11, .own 101 5 0 d.all.length), (12, .int d.all.length), (13, .int k)], Le d ++ [(200, .live (.box [.d Gg, .d Gg]))]⟩, inv := λ k => k = 0, meas := λ _ => d.all.length, first := [(200, 1000)] }, { α := Nat, dflt := 0, T := λ k => ⟨[(0, .bptr 100 0), (2, .bptr 200 0), (3, .own 202 1 0 k), (11, .own 101 5 0 d.all.length), (12, .int d.all.length), (13, .int k)], Le d ++ [(200, .live (.box [.d Gg, .d Gg])), (202, pP k (nows d))]⟩, inv := λ k => k <= d.all.length, meas := λ k => d.all.length - k, again := [(202, 6064)] }] else none }
def C56 : Ctr := { ro := [100, 101], α := Desk, xs := λ _ => [.bptr 100 0], L := Kv, val := λ d => .agg [.own 0 1 0 d.nR, .own 1 1 0 d.out], keep := λ d => Le d ++ [(0, pP d.nR (AW d).f), (1, pP d.out (AW d).t)], pre := λ d => [1 <= d.out /\ d.all.length <= 1000, d.nR + d.out <= d.all.length] }
def V56 (d : Desk) : Prop := BN Try.prog (A56 d) Try.f56 (AF Try.f56) (C56.xs d) (AD (C56.L d)) (C56.val d) (C56.keep d) [(0, 8064), (1, 8160)] []
abbrev Ur:=@HMul.hMul Int Int Int (@instHMul Int Int.instMul)
abbrev Zo:=TruthL.f
abbrev qH:=AW
abbrev BBY:=@min Nat instMinNat
abbrev Zq:=TruthL.t
abbrev bT a (b:Nat->Prop) (c:Nat->Prop):=MH a b (AG c)
abbrev Ns a b c:=AYL a AC b c
abbrev EO (a:Nat->Prop) b (c:Nat->Prop) d e:=FR (AG a) b c d e
abbrev RR a b c d e:=HV a b (Ca c d) e
abbrev Tg a b:=NX (BT a) b
abbrev Bw a:=bX a 281474976710656
abbrev Ci a:=bX a 9223372036854775807
abbrev iN a b:=Ur a (BT b)
abbrev Nx:=Sr tQ 1 1
abbrev ALC a b:=VI a 1 Nx b
abbrev dQ a:=ALC a 8
abbrev X0:=IL 0
abbrev In:=Vy X0 Nx 8
attribute [go_sem] Ur Zo qH BBY Zq bT Ns EO RR Tg Bw Ci iN Nx ALC dQ X0 In
theorem vc56 (d : Desk) : (V56 d) = (bT (IJ (λ i=>YU (Fl AC BU (Bo (WL d) (GT (FQ d)) (AZ i) (J7 d (Ns (rN d) BU BU)))) i)) (λ i=>CG (FB i) i (FQ d) (dT (Ro i (FQ d)) In (λ j=>qG (BF (BG (IL j) AC (WL d) (GT (FQ d)) (Ao (AU j i) (WL d) d (λ k=>jT k d) AC (mU BU AC (IL j) (AG (λ k=>JV k j (nows d) (Us d i))))))) (TB j (FQ d)) (FQ d) j)) (AJ (BG (AP (Ft (MP d)) (SX d) (Ci (BT (MP d))) (Bw (iN 8 (MP d)))) (IV (Me d)) (OT d) (Ci (Me d)) (Bw (Ur 8 (Me d)))) (And (lW X0) (TB (MP d) (MP d))) Gz)) (λ i=>CG (TB i (FQ d)) i (FQ d) (dT (Ro i (FQ d)) (dQ i) (λ j=>UW (BF (BG (MK j i) AC (WL d) (GT (FQ d)) (Ao (AU j i) (WL d) d (λ k=>jT k d) AC (mU BU AC (MK j i) (AG (λ k=>JV k j (nows d) (RR k i (nows d) k (Us d i)))))))) j (FQ d) i)) (Bo (BG (AP (Ft (MP d)) (SX d) (Ci (BT (MP d))) (Bw (iN 8 (MP d)))) (IV (Me d)) (OT d) (Ci (Me d)) (Bw (Ur 8 (Me d)))) (And (Sr (BM i) i 1) (TB (MP d) (MP d))) (AJ (AP (Ft (MP d)) (bX (BT (MP d)) (BT i)) (bX (BT i) (BT i)) (Or (AZ (MP d)) (Tg (MP d) i))) (Sr (EP (Oi (AT (MP d)) (WC i (MP d))) i) (WC i (MP d)) 1) (TB (Sx d) (Sx d))) (Ns (DU (MP d)) (DU (Sx d)) (J7 d (EO (λ j=>jT j d) (DU (MP d)) (λ j=>JV j (MP d) (Zo (qH d)) (RR j (BBY i (MP d)) (nows d) (AT j) 0)) (DU (Sx d)) (AG (λ j=>JV j (Sx d) (Zq (qH d)) (RR j (BBY (WC i (MP d)) (Sx d)) (nows d) (Oi (AT (MP d)) j) 0))))))))) := by kernel_rfl
theorem DY {α : Type} [Inhabited α] (f : Nat -> α) {n i : Nat} (h : i < n) : gD ((List.range n).map f) i = f i := by
 simp [gD, List.getD_eq_getElem?_getD, h]
theorem U2 {d : Desk} {i : Nat} (h : i < d.all.length) : gD (nows d) i = (gD d.all i).now := Ex _ h
theorem p56 (d : Desk) (h1 : 1 <= d.out /\ d.all.length <= 1000) (h2 : d.nR + d.out <= d.all.length) : V56 d := by
 rw [vc56]<;> simp only [go_sem]; simp only [CC, eq_self, implies_true, forall_const]
 refine ⟨⟨0, rfl, rfl⟩, ⟨λ k hk => ⟨λ hlt => ?_, λ hge => by omega⟩, λ k hk => ⟨λ hlt => ?_, λ hge => ?_⟩⟩⟩
 ·subst hk
  refine ⟨⟨⟨by omega, by omega⟩, by omega⟩, ⟨by decide, by decide, by decide, by decide, by decide⟩, 1, ⟨rfl, rfl, rfl, λ i hi => ?_⟩, by omega, by omega⟩
  have : i = 0 := by omega
  subst this; exact U2 (by omega)
 ·refine ⟨⟨⟨by omega, by omega⟩, by omega⟩, ⟨by decide, by decide, by omega, by omega⟩, k + 1, ⟨rfl, (AL (by omega)).symm, rfl, λ i hi => ?_⟩, by omega, by omega⟩
  by_cases hi2 : i < k
  ·simp [hi2]
  ·have : i = k := by omega
   subst this
   simp only [hi2, decide_false, cond_false]
   exact U2 (by omega)
 ·have hk : k = d.all.length := by omega
  subst hk
  refine ⟨⟨⟨by omega, by omega, by omega⟩, by omega, by omega, by omega⟩, ⟨Nat.le_refl _, Nat.le_refl _⟩, ⟨⟨by omega, by omega, Int.le_refl _, by omega⟩, by omega, Nat.le_refl _⟩, λ i hi => ?_, λ i hi => ?_⟩
  ·rw [show decide (i < min d.all.length d.nR) = true by simp; omega]
   simp only [cond_true]
   rw [U2 (by omega)]; exact DY (λ i => (gD d.all i).now) hi
  ·rw [show decide (i < min (d.all.length - d.nR) d.out) = true by simp; omega]
   simp only [cond_true]
   rw [U2 (by omega)]; exact DY (λ i => (gD d.all (d.nR + i)).now) hi
theorem ok56 : AH Try.prog 56 (C56.spec Zi) := UY C56 A56 [(0, 8064), (1, 8160)] [] Try.func56 (λ _ => by kernel_rfl) (λ _ => AE) (λ d h => p56 d h.1 h.2) (λ _ => WR rfl rfl) _
structure NT where
 N : NetL
 T : TruthL
 deriving Inhabited
def A70 (a : NT) : Ann := { ann 51 [(98, s98), (99, C99.spec d99)] with mt := λ id => id == 5 || id == 10, loops := λ id => if id = 3 then some [{ α := Nat, dflt := 0, T := λ k => ⟨[(2, .bptr 200 0), (3, .bptr 201 0), (5, .d Gg), (11, .d (HE a.N.r)), (12, .int a.N.r.length), (13, .int k)], [(200, LF a.N), (201, .live (.box [.d (BC a.T.f), .d (BC a.T.t)]))]⟩, inv := λ k => k = 0, meas := λ _ => a.N.r.length, first := [(200, 1000), (201, 1016)] }, { α := Nat, dflt := 0, T := λ k => ⟨[(2, .bptr 200 0), (3, .bptr 201 0), (5, .own 202 1 0 k), (11, .d (HE a.N.r)), (12, .int a.N.r.length), (13, .int k)], [(200, LF a.N), (201, .live (.box [.d (BC a.T.f), .d (BC a.T.t)])), (202, pP k (Ha a.N a.T))]⟩, inv := λ k => k <= a.N.r.length, meas := λ k => a.N.r.length - k, again := [(202, 6160)] }] else if id = 8 then some [{ α := Nat, dflt := 0, T := λ k => ⟨[(3, .bptr 201 0), (5, .d Gg), (31, .d (PJ a.N.g)), (32, .int a.N.g.length), (33, .int k)], [(201, .live (.box [.d (BC a.T.f), .d (BC a.T.t)]))]⟩, inv := λ k => k = 0 /\ a.N.r.length = 0, meas := λ _ => a.N.g.length }, { α := Nat, dflt := 0, T := λ k => ⟨[(3, .bptr 201 0), (5, .own 202 1 0 (a.N.r.length + k)), (31, .d (PJ a.N.g)), (32, .int a.N.g.length), (33, .int k)], [(201, .live (.box [.d (BC a.T.f), .d (BC a.T.t)])), (202, pP (a.N.r.length + k) (Ha a.N a.T))]⟩, inv := λ k => k <= a.N.g.length, meas := λ k => a.N.g.length - k, again := [(202, 11144)] }] else none }
def C70 : Ctr := { α := NT, xs := λ a => [.d (LW a.N), .d (OG a.T)], L := λ _ => [], val := λ a => .int (VV a.N a.T), keep := λ _ => [], pre := λ a => [1 <= a.N.g.length /\ a.N.g.length <= 1000, a.N.r.length <= 1000, a.T.f.length = a.N.r.length, a.T.t.length = a.N.g.length] }
def d70 : List AVal -> Heap -> Option (NT × List (Nat × Nat) × List Nat)
 | [.d x, .agg [.own p _ _ n, .own q _ _ m]], H => match Tf x, H p, H q with
  | some N, .live (.row _ _ f), .live (.row _ _ g) => some (⟨N, NO n λ i => OO (f i), NO m λ i => OO (g i)⟩, [], [p, q])
  | _, _, _ => none
 | [.agg [.d (.list _ n f _), .own r _ _ m], .agg [.own p _ _ n1, .own q _ _ m1]], H => match H r, H p, H q with
  | .live (.row _ _ h), .live (.row _ _ f1), .live (.row _ _ g1) => some (⟨⟨NO n λ i => ZX (f i), NO m λ i => RN (h i)⟩, ⟨NO n1 λ i => OO (f1 i), NO m1 λ i => OO (g1 i)⟩⟩, [], [r, p, q]) -- eRowNet
  | _, _, _ => none
 | [.d x, .d (.agg [.list _ n f _, .list _ m g _])], _ => match Tf x with
  | some N => some (⟨N, NO n λ i => OO (f i), NO m λ i => OO (g i)⟩, [], [])
  | none => none
 | _, _ => none
def V70 (a : NT) : Prop := BN Try.prog (A70 a) Try.f70 (AF Try.f70) (C70.xs a) (AD (C70.L a)) (C70.val a) (C70.keep a) [] []
abbrev AX:=NT.N
abbrev PL:=NT.T
abbrev UM:=@NO Int
abbrev AQN:=@default Int Int.instInhabited
abbrev jC:=VV
abbrev Dd a b:=UM a (λ i=>Ca b i)
abbrev MX a:=Ha (AX a) (PL a)
abbrev HD a:=AM (AX a)
abbrev FE a b:=Oi (HD a) b
abbrev Oe a b:=jC (AX a) (PL b)
abbrev Oh a:=YN a 4611686018427387904
abbrev Jz a:=Oh (EA a)
abbrev aK a b c:=Fo a b (AGG b a c (AT a))
abbrev Dz a b:=AG (λ i=>aK i a b)
abbrev fA a b:=Dz (Dd a b) b
abbrev Fx a b c:=FI (Dd a b) c
abbrev Bv a b:=Fx a b a
abbrev BV a:=AY (AX a)
abbrev Xa a b c:=AP AC a b c
abbrev Cc a b c d (e:Nat->Prop) f (g:Nat->Prop) h (p:Nat->Prop):=NF a b c d e f g h (AG p)
abbrev UL a:=Zq (PL a)
abbrev cC a:=Cz (UL a)
abbrev Ab a:=Zo (PL a)
abbrev eD a:=Cz (Ab a)
abbrev ZI a b c d (e:Nat->Prop) f (g:Nat->Prop) h (p:Nat->Prop):=Cc a b c (eD d) e (cC f) g h p
abbrev eX a b:=Ca (UL a) b
abbrev BI a b:=NV a (UL b)
abbrev BJ a b:=NV a (Ab b)
abbrev Gb a:=GT (BV a)
abbrev D4 a b c:=AJQ a b c a
abbrev ABD a b:=AG (λ i=>D4 i a b)
abbrev XE a:=ABD (BV a) (AX a)
abbrev SN a:=DU (BV a)
abbrev YE a:=EA (UL a)
abbrev Xd a b c:=And a (AS b c)
abbrev AFN a b c d e:=CB a b (HD c) d e
abbrev Hp a b c d e f:=Kg a b c d (SN e) f
abbrev AKC a b:=CY (AX a) b
abbrev jV a b:=Ca (Ab a) b
abbrev ND a b:=I7 a (HD b) (AX b) a (AX b) a (AKC b a)
abbrev Ge a:=AG (λ i=>ND i a)
abbrev ZK a:=DU (HD a)
abbrev QV a:=EA (Ab a)
abbrev AOM a b c:=Ax a (QV b) c
abbrev OZ a b c d (e:Nat->Prop) f (g:Nat->Prop) h (p:Nat->Prop):=Cc a (SN b) (XE c) (ZK d) e (eD f) g (cC h) p
attribute [go_sem] AX PL UM AQN jC Dd MX HD FE Oe Oh Jz aK Dz fA Fx Bv BV Xa Cc UL cC Ab eD ZI eX BI BJ Gb D4 ABD XE SN YE Xd AFN Hp AKC jV ND Ge ZK QV AOM OZ
theorem vc70 (a : NT) : (V70 a) = (bT (IJ (λ i=>YU (BF (EO PU (ZK a) (λ j=>ND j a) (GT (HD a)) (OZ (AZ i) a a a (λ j=>ND j a) a (λ j=>BJ j a) a (λ j=>BI j a)))) i)) (λ i=>OV (FB i) i (HD a) (AOM i a In) (IJ (λ j=>qG (Xa (IL j) (ZK a) (Hp (Ge a) (GT (HD a)) j i a (ZI (XE a) (ZK a) (Ge a) a (λ k=>BJ k a) a (λ k=>BI k a) (IL j) (λ k=>JV k j (MX a) (Yd (jV a i) (AKC a i)))))) (TB j (HD a)) (HD a) j)) (bT (IJ (λ j=>AJ (BF (IW BU (SN a) (XE a) (Gb a) (AZ j) (eD a) (AG (λ k=>BJ k a)) (cC a) (AG (λ k=>BI k a)))) (FB j) (FB (HD a)))) (λ j=>OV (YU (FB j) (HD a)) j (BV a) (Ax j (YE a) In) (IJ (λ k=>qG (Xa (IL (FE a k)) (SN a) (ZI (XE a) (Gb a) (AU k j) a (λ l=>BJ l a) a (λ l=>BI l a) (IL (FE a k)) (λ l=>JV l (FE a k) (MX a) (Yd (eX a j) (CU (AX a) j))))) (TB k (BV a)) (BV a) k)) (Xd (oB (Jz (UM 0 (λ k=>AQN)))) (Oe a a) (aG (UM 0 (λ k=>AQN))))) (λ j=>OV (TB j (BV a)) j (BV a) (Ax j (YE a) (dQ (FE a j))) (IJ (λ k=>UW (Xa (MK (FE a k) (FE a j)) (SN a) (ZI (XE a) (Gb a) (AU k j) a (λ l=>BJ l a) a (λ l=>BI l a) (MK (FE a k) (FE a j)) (λ l=>JV l (FE a k) (MX a) (RR l (FE a j) (MX a) l (Yd (eX a j) (CU (AX a) j)))))) k (BV a) j)) (JH (Bv (FE a j) (MX a)) (BM (FE a j)) (fA (FE a j) (MX a)) (Jz (Dd (FE a j) (MX a))) (AS (Oe a a) (aG (Dd (FE a j) (MX a)))))))) (λ i=>OV (TB i (HD a)) i (HD a) (AOM i a (dQ i)) (IJ (λ j=>AFN (Xa (MK j i) (ZK a) (Hp (Ge a) (GT (HD a)) j i a (ZI (XE a) (ZK a) (Ge a) a (λ k=>BJ k a) a (λ k=>BI k a) (MK j i) (λ k=>JV k j (MX a) (RR k i (MX a) k (Yd (jV a i) (AKC a i))))))) (TB j (HD a)) a j i)) (bT (IJ (λ j=>JH AC (ED (FE a j) i) (SN a) (ZI (XE a) (Gb a) (AZ j) a (λ k=>BJ k a) a (λ k=>BI k a) (ED (FE a j) i) (λ k=>HJ k (FE a j) (AR (Ca (MX a) k)))) (TB j (BV a)))) (λ j=>OV (YU (FB j) (HD a)) j (BV a) (Ax j (YE a) In) (IJ (λ k=>qG (Xa (IL (FE a k)) (SN a) (ZI (XE a) (Gb a) (AU k j) a (λ l=>BJ l a) a (λ l=>BI l a) (IL (FE a k)) (λ l=>JV l (FE a k) (MX a) (Yd (eX a j) (CU (AX a) j))))) (TB k (BV a)) (BV a) k)) (Xd (oB (Jz (UM 0 (λ k=>AQN)))) (Oe a a) (aG (UM 0 (λ k=>AQN))))) (λ j=>OV (TB j (BV a)) j (BV a) (Ax j (YE a) (dQ (FE a j))) (IJ (λ k=>UW (Xa (MK (FE a k) (FE a j)) (SN a) (ZI (XE a) (Gb a) (AU k j) a (λ l=>BJ l a) a (λ l=>BI l a) (MK (FE a k) (FE a j)) (λ l=>JV l (FE a k) (MX a) (RR l (FE a j) (MX a) l (Yd (eX a j) (CU (AX a) j)))))) k (BV a) j)) (JH (Bv (FE a j) (MX a)) (BM (FE a j)) (fA (FE a j) (MX a)) (Jz (Dd (FE a j) (MX a))) (AS (Oe a a) (aG (Dd (FE a j) (MX a))))))))) := by kernel_rfl
theorem AGR {N : NetL} {T : TruthL} {i : Nat} (h : i < N.r.length) : gD (Ha N T) i = Yd (gD T.f i) (gD N.r i).sp := by
 unfold Ha
 rw [CP, if_pos (by simpa using h)]
 exact DY (λ i => Yd (gD T.f i) (gD N.r i).sp) h
theorem Y4 {N : NetL} {T : TruthL} {i : Nat} (h : i < N.g.length) : gD (Ha N T) (N.r.length + i) = Yd (gD T.t i) (gD N.g i) := by
 unfold Ha
 rw [CP, if_neg (by simp)]
 simp only [List.length_map, List.length_range, Nat.add_sub_cancel_left]
 exact DY (λ i => Yd (gD T.t i) (gD N.g i)) h
theorem AJA (N : NetL) (T : TruthL) : (Ha N T).length = N.r.length + N.g.length := by simp [Ha]
theorem p70 (a : NT) (h1 : 1 <= a.N.g.length /\ a.N.g.length <= 1000) (h2 : a.N.r.length <= 1000) (h3 : a.T.f.length = a.N.r.length) (h4 : a.T.t.length = a.N.g.length) : V70 a := by
 rw [vc70]<;> simp only [go_sem]; simp only [CC, eq_self, implies_true, forall_const]
 refine ⟨⟨0, rfl, rfl⟩, ⟨λ k hk => ⟨λ hlt => ?a1, λ hge => ⟨⟨0, rfl, rfl, by omega⟩, ?c1, ?b1⟩⟩, λ k hk => ⟨λ hlt => ?a2, λ hge => ⟨⟨0, by omega, by omega⟩, ?c2, ?b2⟩⟩⟩⟩
 case a1 =>
  subst hk
  refine ⟨⟨by omega, by omega⟩, ⟨⟨by omega, by omega⟩, by decide, by decide, by decide, by decide, by decide⟩, 1, ⟨rfl, rfl, rfl, λ i hi => ?_⟩, by omega, by omega⟩
  have : i = 0 := by omega
  subst this; exact AGR (by omega)
 case a2 =>
  refine ⟨⟨by omega, by omega⟩, ⟨⟨by omega, by omega⟩, by decide, by decide, by omega, by omega⟩, k + 1, ⟨rfl, (AL (by omega)).symm, rfl, λ i hi => ?_⟩, by omega, by omega⟩
  by_cases hi2 : i < k
  ·simp [hi2]
  ·have : i = k := by omega
   subst this
   simp only [hi2, decide_false, cond_false]
   exact AGR (by omega)
 case c1 | c2 =>
  intro k ⟨hk, h0⟩
  subst hk
  refine ⟨λ hlt => ⟨⟨by omega, by omega⟩, ⟨⟨by omega, by omega⟩, by decide, by decide, by decide, by decide, by decide⟩, 1, ⟨by omega, rfl, by omega, λ i hi => ?_⟩, by omega, by omega⟩, λ hge => by omega⟩
  have : i = 0 := by omega
  subst this
  have := Y4 (N := a.N) (T := a.T) (i := 0) (by omega)
  rw [h0] at this; exact this
 case b1 | b2 =>
  intro k hk
  refine ⟨λ hlt => ⟨⟨by omega, by omega⟩, ⟨⟨by omega, by omega⟩, by decide, by decide, by omega, by omega⟩, k + 1, ⟨by omega, (AL (by omega)).symm, by omega, λ i hi => ?_⟩, by omega, by omega⟩, λ hge => ?_⟩
  ·by_cases hi2 : i < a.N.r.length + k
   ·simp [hi2]
   ·have : i = a.N.r.length + k := by omega
    subst this
    simp only [hi2, decide_false, cond_false]
    exact Y4 (by omega)
  ·have hk : k = a.N.g.length := by omega
   subst hk
   have e : NO (a.N.r.length + a.N.g.length) (λ i => gD (Ha a.N a.T) i) = Ha a.N a.T := by rw [<- AJA a.N a.T]; exact Sq _
   rw [e]
   exact ⟨⟨Nat.le_refl _, λ _ _ => rfl, by omega⟩, rfl⟩
theorem ok70 : AH Try.prog 70 (C70.spec d70) := UY C70 A70 [] [] Try.func70 (λ _ => by kernel_rfl) (λ _ => AA ok98 (AA ok99 AE)) (λ a h => p70 a h.1 h.2.1 h.2.2.1 h.2.2.2) (λ _ => WR rfl rfl) _
end Go.Bal
