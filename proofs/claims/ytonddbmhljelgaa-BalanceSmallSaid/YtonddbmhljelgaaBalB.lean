/- Package balance: small functions of a net at work. -/
import Derived.Test.YtonddbmhljelgaaBalA
import Derived.Test.YtonddbmhljelgaaBal0
set_option linter.unusedVariables false
set_option linter.unusedSimpArgs false
namespace Go.Bal
open Go Go.Sym Go.Proofs
def B5 (d : Desk) (r : Nat) : AObj := .box [.own r 5 0 d.all.length, .int d.out, .int d.nR]
def zK (d : Desk) : AObj := .row 5 d.all.length λ i => eWay (gD d.all i)
def Kv (d : Desk) : List (Nat × AObj) := [(100, B5 d 101), (101, zK d)]
def Le (d : Desk) : List (Nat × HCell) := [(100, .live (B5 d 101)), (101, .live (zK d))]
def Do (H : Heap) (id : Nat) : Option (Desk × Nat) := match H id with
 | .live (.box [.own r _ _ n, .d (.v (.int _ o)), .d (.v (.int _ q))]) => match H r with
  | .live (.row _ _ get) => some (⟨NO n λ i => dWay (get i), o.toNat, q.toNat⟩, r)
  | _ => none
 | _ => none
theorem UY (C : Ctr) (A : C.α -> Ann) (ren : List (Nat × Nat)) (fz : List Nat) {g : FuncId} {fn : Func} (hf : Try.prog.funcs[g]? = some fn) (hok : ∀ a, okFn (A a) fn (C.xs a) (C.L a) (C.keep a) = true) (hΓ : ∀ a, GOk Try.prog (A a).Γ)
  (h : ∀ a, DV (C.pre a) -> BN Try.prog (A a) fn (AF fn) (C.xs a) (AD (C.L a)) (C.val a) (C.keep a) ren fz) (hI : ∀ a, bK Try.prog (A a)) (dec : List AVal -> Heap -> Option (C.α × List (Nat × Nat) × List Nat)) : AH Try.prog g (C.spec dec) :=
 Ctr.spec_ok (λ a ha => Pb hf (hok a) (hΓ a) (h a ha) (hI a)) dec
def V98 (x : Int) (s : Span) : Prop := BN Try.prog (ann 14 []) Try.f98 (AF Try.f98) [.int x, .d (OW s)] (AD []) (.int (Yd x s)) [] [] []
abbrev hd34:=maxI
abbrev hd35:=@HSub.hSub Int Int Int (@instHSub Int Int.instSub)
abbrev ME a b:=gR (hd35 a b)
attribute [go_sem] hd34 hd35 ME
theorem vc98 (x : Int) (s : Span) : (V98 x s) = (AS (Yd x s) (hd34 (hd34 0 (ME (Ou s) x)) (ME x (Ok s)))) := by kernel_rfl
def f98 : List AVal -> Option (AVal × List Prop)
 | [.d (.v (.int .i64 x)), .d (.agg [.v (.int .i64 a), .v (.int .i64 b)])] => some (.int (Yd x ⟨a, b⟩), [])
 | _ => none
def s98 := IY f98
theorem zE (a b : Int) : maxI a b = max a b := by unfold maxI; split <;> omega
theorem yS (a b : Int) : minI a b = min a b := by unfold minI; split <;> omega
theorem p98 (x : Int) (s : Span) : V98 x s := by
 rw [vc98]<;> simp only [go_sem]; simp only [zE]; rfl
theorem ok98 : AH Try.prog 98 s98 := EH λ xs v p h _ => by
 unfold f98 at h; split at h
 ·cases h; exact Pb (A := ann 14 []) (ren := []) (fz := []) Try.func98 (by kernel_rfl) AE (p98 _ ⟨_, _⟩)
 ·cases h
structure DS where
 d : Desk
 s : Step
def dDS : List AVal -> Heap -> Option (DS × List (Nat × Nat) × List Nat)
 | [.bptr id _, .d s], H => match Do H id with
  | some (d, r) => some (⟨d, qV s⟩, [(100, id), (101, r)], [])
  | none => none
 | _, _ => none
def A85 : Ann := { ann 49 [] with E := [100, 101] }
def C85 : Ctr := { ro := [100, 101], α := DS, xs := λ a => [.bptr 100 0, .d (hJ a.s)], L := λ a => Kv a.d, val := λ a => .tup [.int (BO (EW a.d.all a.s.way) a.s.back).1, .int (BO (EW a.d.all a.s.way) a.s.back).2], keep := λ a => Le a.d, pre := λ a => [0 <= a.s.way /\ a.s.way < a.d.all.length] }
def V85 (a : DS) : Prop := BN Try.prog A85 Try.f85 (AF Try.f85) (C85.xs a) (AD (C85.L a)) (C85.val a) (C85.keep a) [] []
abbrev pO:=Step.way
abbrev ZT:=@List.length Way
abbrev xM:=Desk.all
abbrev sY:=DS.d
abbrev TB:=Nat.le
abbrev Oi:=@HAdd.hAdd Nat Nat Nat (@instHAdd Nat instAddNat)
abbrev TR:=Int.toNat
abbrev pR:=Step.back
abbrev Xb:=Way.now
abbrev QN:=@gD Way instInhabitedWay
abbrev Sx:=Desk.out
abbrev MP:=Desk.nR
abbrev hd55:=Way.fr
abbrev pQ:=Way.to
abbrev mN a b c d e:=AP a (AS b c) d e
abbrev Mk a b c d e f:=mN (AS a b) c d e f
abbrev BG a b c d e:=AJ a b (AJ c d e)
abbrev WN a b c d:=BG a b c a d
abbrev SX a:=GT (MP a)
abbrev OT a:=GT (Sx a)
abbrev VO a b c:=WN a (OT b) (SX b) c
abbrev FQ a:=ZT (xM a)
abbrev WL a:=DU (FQ a)
abbrev J7 a b:=VO (WL a) a b
abbrev AIT a b c d e f g:=HJ a b (BG c d e f g)
abbrev EY a b:=QN (xM a) b
abbrev tG a b:=Xb (EY a b)
abbrev FJ a b:=Way.sp (EY a b)
abbrev FG a b:=pQ (EY a b)
abbrev Lf a b:=hd55 (EY a b)
abbrev dE a b c:=AIT a b (AR (Lf c a)) (AR (FG c a)) (Uk (FJ c a)) (Uu (FJ c a)) (AR (tG c a))
abbrev jT a b:=dE a (FQ b) b
abbrev rN a:=AG (λ i=>jT i a)
abbrev AAV a:=J7 a (rN a)
abbrev dR a:=AAV (sY a)
abbrev AC:=DU 0
abbrev AWI a b c:=BO (EW a b) c
abbrev Xq a b c:=(@Prod.snd Int Int) (AWI a b c)
abbrev Bx a:=pR (DS.s a)
abbrev YY a:=pO (DS.s a)
abbrev Iy a:=xM (sY a)
abbrev eN a b c:=(@Prod.fst Int Int) (AWI a b c)
abbrev AT a:=Oi 0 a
abbrev Uz a b:=EY a (AT b)
abbrev Us a b:=Xb (Uz a b)
abbrev jF a:=TR (pO (DS.s a))
abbrev dH a b:=Us (sY a) (jF b)
abbrev sB a b:=Way.sp (Uz a b)
abbrev fQ a b:=sB (sY a) (jF b)
abbrev GP a:=AS a 0
abbrev ZU a:=ME 0 a
abbrev YN a b:=TB (Nat.succ a) b
abbrev G7 a b:=YN (AT a) b
abbrev mL a b:=G7 a (FQ b)
abbrev Xs a b:=KX a (FQ b)
attribute [go_sem] pO ZT xM sY TB Oi TR pR Xb QN Sx MP hd55 pQ mN Mk BG WN SX OT VO FQ WL J7 AIT EY tG FJ FG Lf dE jT rN AAV dR AC AWI Xq Bx YY Iy eN AT Uz Us jF dH sB fQ GP ZU YN G7 mL Xs
theorem vc85 (a : DS) : (V85 a) = (EG (And (Xs (YY a) (sY a)) (mL (jF a) (sY a))) (Bx a) (Lc (ZU (dH a a)) (ZU (Ok (fQ a a))) (mN (Fs (eN (Iy a) (YY a) (Bx a))) (Xq (Iy a) (YY a) (Bx a)) (ME (ZU (Ok (fQ a a))) (ZU (dH a a))) AC (dR a)) (Lc (ZU (dH a a)) (ZU (Ou (fQ a a))) (mN (GP (eN (Iy a) (YY a) (Bx a))) (Xq (Iy a) (YY a) (Bx a)) (ME (ZU (Ou (fQ a a))) (ZU (dH a a))) AC (dR a)) (Mk (eN (Iy a) (YY a) (Bx a)) 1 (Xq (Iy a) (YY a) (Bx a)) 10000000000 AC (dR a)))) (Lc (dH a a) (Ou (fQ a a)) (mN (Fs (eN (Iy a) (YY a) (Bx a))) (Xq (Iy a) (YY a) (Bx a)) (ME (Ou (fQ a a)) (dH a a)) AC (dR a)) (Lc (dH a a) (Ok (fQ a a)) (mN (GP (eN (Iy a) (YY a) (Bx a))) (Xq (Iy a) (YY a) (Bx a)) (ME (Ok (fQ a a)) (dH a a)) AC (dR a)) (Mk (eN (Iy a) (YY a) (Bx a)) 1 (Xq (Iy a) (YY a) (Bx a)) 10000000000 AC (dR a))))) := by kernel_rfl
theorem p85 (a : DS) (h : 0 <= a.s.way /\ a.s.way < a.d.all.length) : V85 a := by
 rw [vc85]<;> simp only [go_sem]; simp only [CC, eq_self, implies_true, forall_const]
 refine ⟨⟨h, by omega⟩, λ hb => ⟨λ h1 => ?_, λ h1 => ⟨λ h2 => ?_, λ h2 => ?_⟩⟩, λ hb => ⟨λ h1 => ?_, λ h1 => ⟨λ h2 => ?_, λ h2 => ?_⟩⟩⟩ <;> simp [BO, EW, *]
theorem ok85 : AH Try.prog 85 (C85.spec dDS) := UY C85 (λ _ => A85) [] [] Try.func85 (λ _ => by kernel_rfl) (λ _ => AE) p85 (λ _ => WR rfl rfl) _
def A87 : Ann := { ann 27 [] with E := [100, 101] }
def C87 : Ctr := { ro := [100, 101], α := DS, xs := λ a => [.bptr 100 0, .d (hJ a.s)], L := λ a => Kv a.d, val := λ a => .int (KF a.d a.s), keep := λ a => Le a.d, pre := λ a => [0 <= a.s.way /\ a.s.way < a.d.all.length] }
def V87 (a : DS) : Prop := BN Try.prog A87 Try.f87 (AF Try.f87) (C87.xs a) (AD (C87.L a)) (C87.val a) (C87.keep a) [] []
theorem vc87 (a : DS) : (V87 a) = (IK (Bx a) (mN (And (Xs (YY a) (sY a)) (mL (jF a) (sY a))) (KF (sY a) (DS.s a)) (hd55 (Uz (sY a) (jF a))) AC (dR a)) (mN (And (Xs (YY a) (sY a)) (mL (jF a) (sY a))) (KF (sY a) (DS.s a)) (pQ (Uz (sY a) (jF a))) AC (dR a))) := by kernel_rfl
theorem p87 (a : DS) (h : 0 <= a.s.way /\ a.s.way < a.d.all.length) : V87 a := by
 rw [vc87]<;> simp only [go_sem]; simp only [CC, eq_self, implies_true, forall_const]
 refine ⟨λ hb => ⟨⟨h, by omega⟩, ?_⟩, λ hb => ⟨⟨h, by omega⟩, ?_⟩⟩ <;> simp [KF, EW, hb]
theorem ok87 : AH Try.prog 87 (C87.spec dDS) := UY C87 (λ _ => A87) [] [] Try.func87 (λ _ => by kernel_rfl) (λ _ => AE) p87 (λ _ => WR rfl rfl) _
end Go.Bal

namespace Go.Bal
open Go Go.Sym Go.Proofs
def uV : AVal := .d (.tup [])
structure DSM where
 d : Desk
 s : Step
 m : Int
def A108 : Ann := { ann 34 [] with E := [100, 101, 102, 103] }
def C108 : Ctr := { ro := [100, 102, 103], α := DSM, xs := λ a => [.d (hJ a.s), .bptr 102 0, .bptr 103 0], L := λ a => Kv a.d ++ [(102, .box [.bptr 100 0]), (103, .box [.int a.m])], val := λ _ => uV, keep := λ a => Le (Desk.mk (Ae a.m a.d.all a.s) a.d.out a.d.nR) ++ [(102, .live (.box [.bptr 100 0])), (103, .live (.box [.int a.m]))], pre := λ a => [0 <= a.s.way /\ a.s.way < a.d.all.length] }
def d108 : List AVal -> Heap -> Option (DSM × List (Nat × Nat) × List Nat)
 | [.d s, .bptr p _, .bptr q _], H => match H p, H q with
  | .live (.box [.bptr id _]), .live (.box [.d (.v (.int _ m))]) => match Do H id with
   | some (d, r) => some (⟨d, qV s, m⟩, [(100, id), (101, r), (102, p), (103, q)], [])
   | none => none
  | _, _ => none
 | _, _ => none
def V108 (a : DSM) : Prop := BN Try.prog A108 Try.f108 (AF Try.f108) (C108.xs a) (AD (C108.L a)) (C108.val a) (C108.keep a) [] []
abbrev WB:=DSM.d
abbrev hd62:=@cond Int
abbrev K7:=λ (x0 x1 : Nat) => decide (x0 = x1)
abbrev LQ a b c (d:Nat->Prop) e:=BG a b c (AG d) e
abbrev Jq a b c (d:Nat->Prop) e:=LQ a (SX b) c d e
abbrev ATR a b c d e f g h:=AIT a b c (AS d e) f g h
abbrev ANW a b:=AS (Xb a) b
abbrev ZC a b c d e f g h p:=ATR a b c d e f g (ANW h p)
abbrev AHT a b c d:=hd62 (K7 a b) c d
abbrev PQ a b c d:=AHT a (AT b) c d
abbrev NA a:=TR (pO (DSM.s a))
abbrev WK a b c:=Ae (DSM.m a) (xM (WB b)) (DSM.s c)
abbrev MF a b:=AS (Ok a) b
abbrev AMV a b c d:=PQ a b c (Ok d)
abbrev Tb a b c d:=AMV a b (Ok c) d
abbrev IS a b:=Way.sp (QN a b)
abbrev MB a b:=AS (Ou a) b
abbrev AOE a b c d:=PQ a b c (Ou d)
abbrev Qw a b c d:=AOE a b (Ou c) d
abbrev HT a b:=pQ (QN a b)
abbrev SY a b:=hd55 (QN a b)
abbrev NS a b c:=AS (SY a b) c
abbrev Uh a b:=ED (ZT a) b
abbrev LH a b:=Uh a (FQ b)
abbrev Fl a b c:=AP a b a c
attribute [go_sem] WB hd62 K7 LQ Jq ATR ANW ZC AHT PQ NA WK MF AMV Tb IS MB AOE Qw HT SY NS Uh LH Fl
theorem BPA (a : DSM) : (V108 a) = (IK (pR (DSM.s a)) (AP (Fl (Xs (pO (DSM.s a)) (WB a)) (ON (AT (NA a)) (FQ (WB a))) (mL (NA a) (WB a))) AC (LH (WK a a a) (WB a)) (Jq (OT (WB a)) (WB a) (LH (WK a a a) (WB a)) (λ i=>ZC i (ZT (WK a a a)) (NS (WK a a a) i (PQ i (NA a) (hd55 (Uz (WB a) (NA a))) (Lf (WB a) i))) (HT (WK a a a) i) (PQ i (NA a) (pQ (Uz (WB a) (NA a))) (FG (WB a) i)) (MB (IS (WK a a a) i) (Qw i (NA a) (sB (WB a) (NA a)) (FJ (WB a) i))) (MF (IS (WK a a a) i) (Tb i (NA a) (sB (WB a) (NA a)) (FJ (WB a) i))) (QN (WK a a a) i) (PQ i (NA a) (ME (Us (WB a) (NA a)) (DSM.m a)) (tG (WB a) i))) (AR (DSM.m a)))) (AP (Fl (Xs (pO (DSM.s a)) (WB a)) (ON (AT (NA a)) (FQ (WB a))) (mL (NA a) (WB a))) AC (LH (WK a a a) (WB a)) (Jq (OT (WB a)) (WB a) (LH (WK a a a) (WB a)) (λ i=>ZC i (ZT (WK a a a)) (NS (WK a a a) i (PQ i (NA a) (hd55 (Uz (WB a) (NA a))) (Lf (WB a) i))) (HT (WK a a a) i) (PQ i (NA a) (pQ (Uz (WB a) (NA a))) (FG (WB a) i)) (MB (IS (WK a a a) i) (Qw i (NA a) (sB (WB a) (NA a)) (FJ (WB a) i))) (MF (IS (WK a a a) i) (Tb i (NA a) (sB (WB a) (NA a)) (FJ (WB a) i))) (QN (WK a a a) i) (PQ i (NA a) (NJ (Us (WB a) (NA a)) (DSM.m a)) (tG (WB a) i))) (AR (DSM.m a))))) := by kernel_rfl
theorem Fy (m : Int) (l : List Way) (s : Step) : (Ae m l s).length = l.length := by simp [Ae]
theorem p108 (a : DSM) (h : 0 <= a.s.way /\ a.s.way < a.d.all.length) : V108 a := by
 have hk : a.s.way.toNat < a.d.all.length := by omega
 rw [BPA]<;> simp only [go_sem]; simp only [CC, eq_self, implies_true, forall_const, Fy]
 refine ⟨λ hb => ⟨⟨h, hk, h, hk⟩, λ i hi => ?_⟩, λ hb => ⟨⟨h, hk, h, hk⟩, λ i hi => ?_⟩⟩ <;> rw [Ae, BD hk] <;> by_cases he : i = a.s.way.toNat <;> simp [he, hb]
theorem BQQ : AH Try.prog 108 (C108.spec d108) := UY C108 (λ _ => A108) [] [] Try.func108 (λ _ => by kernel_rfl) (λ _ => AE) p108 (λ _ => WR rfl rfl) _
def BAU (l : List Int) : DVal := .arr 1 10 λ i => FT (gD l i)
structure KL where
 k : Nat
 l : List Int
 deriving Inhabited
def A94 (d : Desk) : Ann := { ann 34 [] with E := [100, 101], loops := λ id => if id = 3 then some [{ α := KL, dflt := default, T := λ s => ⟨[(2, .rptr 200 1 0 0), (3, .rptr 201 1 0 0), (10, .own 101 5 0 d.all.length), (11, .int d.all.length), (12, .int s.k)], Le d ++ [(200, .live (.row 1 10 λ _ => FT 0)), (201, .live (.row 1 10 λ i => FT (gD s.l i)))]⟩, inv := λ s => s.k <= d.all.length /\ s.l.length = 10 /\ EI d = Zs s.l (d.all.drop s.k), meas := λ s => d.all.length - s.k, first := [(200, 1000), (201, 2000)] }] else none }
def C94 : Ctr := { ro := [100, 101], α := Desk, xs := λ _ => [.bptr 100 0], L := Kv, val := λ d => .d (BAU (EI d)), keep := Le, pre := λ d => [d.ok] }
def Zi : List AVal -> Heap -> Option (Desk × List (Nat × Nat) × List Nat)
 | [.bptr id _], H => match Do H id with
  | some (d, r) => some (d, [(100, id), (101, r)], [])
  | none => none
 | _, _ => none
def V94 (d : Desk) : Prop := BN Try.prog (A94 d) Try.f94 (AF Try.f94) (C94.xs d) (AD (C94.L d)) (C94.val d) (C94.keep d) [] []
abbrev hd64:=@Eq (List Value)
abbrev hd69:=@List.cons Value
abbrev R2:=@List.nil Value
abbrev hd72:=@List.flatten Value
abbrev hd73:=@List.replicate (List Value)
abbrev R3:=@Exists KL
abbrev HP:=KL.k
abbrev hd76:=Int.ofNat
abbrev Ca:=@gD Int Int.instInhabited
abbrev ZY:=KL.l
abbrev EA:=@List.length Int
abbrev hd80:=@Eq (List Int)
abbrev hd81:=EI
abbrev hd83:=@List.drop Way
abbrev hd84:=λ (f : KL -> Prop) => ∀ (x : KL), f x
abbrev Q2 a b c:=AS (Ca a b) c
abbrev AGG a b c d:=Q2 a b (Ca c d)
abbrev AJF a b c:=AGG a b c b
abbrev Du a b c d:=HJ a b (AJF c a d)
abbrev Nw a b c:=Du a 10 b c
abbrev ZA:=DU 10
abbrev FI a b:=ED (EA a) b
abbrev BF a:=And AC a
abbrev Gx a b:=AJ a a b
abbrev oB a:=Gx AC a
abbrev Kg a b c d e f:=BG a b (AU c d) e f
abbrev AYL a b c d:=BG a b c b d
abbrev JV a b c d:=HJ a b (Q2 c a d)
abbrev AOR a b c d:=JV a b (ZY c) d
abbrev cW a b:=Ca (ZY a) b
abbrev Lh a b:=Ca a (TR b)
abbrev jB a b:=Uz a (HP b)
abbrev nH a b:=hd55 (jB a b)
abbrev XQ a:=AR (hd76 a)
abbrev BX:=XQ 0
abbrev Ax a b c:=And (GF a b) c
abbrev ATZ a b c d:=Ax a b (YN c d)
abbrev H8 a b c:=ATZ a b c b
abbrev Ro a b:=H8 a b (AT a)
abbrev Bo a b c d:=BG a b c AC d
abbrev Qz a:=(@Array.toList Value) (Value.cells a)
abbrev jW a:=Value.int hd28 a
abbrev uZ a:=Value.agg ((@List.toArray Value) a)
abbrev AOJ a:=hd69 (jW 0) a
abbrev eI a:=AOJ (AOJ a)
abbrev Tq a:=eI (eI a)
attribute [go_sem] hd64 hd69 R2 hd72 hd73 R3 HP hd76 Ca ZY EA hd80 hd81 hd83 hd84 Q2 AGG AJF Du Nw ZA FI BF Gx oB Kg AYL JV AOR cW Lh jB nH XQ BX Ax ATZ H8 Ro Bo Qz jW uZ AOJ eI Tq
theorem vc94 (d : Desk) : (V94 d) = (AP (hd64 (Qz (uZ (eI (Tq (Tq R2))))) (hd72 (hd73 10 (Qz (jW 0))))) (hd64 (Qz (uZ (eI (Tq (Tq R2))))) (hd72 (hd73 10 (Qz (jW 0))))) (R3 (λ i=>AP (BF (oB (Bo (WL d) (GT (FQ d)) (AZ (HP i)) (J7 d (AYL (rN d) ZA (AG (λ j=>HJ j 10 BX)) (AG (λ j=>AOR j 10 i 0))))))) (EP (HP i) (FQ d)) (FI (ZY i) 10) (hd80 (hd81 d) (Zs (ZY i) (hd83 (HP i) (xM d)))))) (hd84 (λ i=>CG (AJ (EP (HP i) (FQ d)) (FI (ZY i) 10) (hd80 (hd81 d) (Zs (ZY i) (hd83 (HP i) (xM d))))) (HP i) (FQ d) (AP (Ro (HP i) (FQ d)) (Fl (KX (nH d i) 10) (ON (TR (nH d i)) 10) (YN (TR (nH d i)) 10)) (Fl (KX (pQ (jB d i)) 10) (ON (TR (pQ (jB d i))) 10) (YN (TR (pQ (jB d i))) 10)) (R3 (λ j=>CB (BF (oB (Kg (WL d) (GT (FQ d)) (HP j) (HP i) AC (J7 d (AYL (rN d) ZA (AG (λ k=>HJ k 10 BX)) (AG (λ k=>AOR k 10 j (AHT k (TR (pQ (jB d i))) (NJ (AHT (TR (pQ (jB d i))) (TR (nH d i)) (ME (Lh (ZY i) (nH d i)) (Us d (HP i))) (Lh (ZY i) (pQ (jB d i)))) (Us d (HP i))) (AHT k (TR (nH d i)) (ME (Lh (ZY i) (nH d i)) (Us d (HP i))) (cW i k)))))))))) (AJ (EP (HP j) (FQ d)) (FI (ZY j) 10) (hd80 (hd81 d) (Zs (ZY j) (hd83 (HP j) (xM d))))) (FQ d) (HP j) (HP i)))) (DW ZA (λ j=>Nw j (hd81 d) (ZY i)) AC (AAV d))))) := by kernel_rfl
theorem p94 (d : Desk) (h : d.ok) : V94 d := by
 have hL := h.len
 rw [vc94]<;> simp only [go_sem]; simp only [CC, eq_self, implies_true, forall_const]
 refine ⟨rfl, rfl, ⟨⟨0, List.replicate 10 0⟩, ⟨rfl, ?_⟩, Nat.zero_le _, rfl, by simp [EI]⟩, λ a ⟨h1, h2, h3⟩ => ⟨λ hlt => ?_, λ hge => ?_⟩⟩
 ·intro i hi; rw [GN, if_pos hi]
 ·have hk : a.k < d.all.length := by omega
  obtain ⟨⟨e1, e2⟩, e3, e4⟩ := h.ends a.k hk
  have ho := h.out
  refine ⟨⟨⟨by omega, by omega⟩, hk⟩, ⟨⟨e1, by omega⟩, by omega, ⟨e1, by omega⟩, by omega⟩, ⟨⟨e3, by omega⟩, by omega, ⟨e3, by omega⟩, by omega⟩,
   ⟨a.k + 1, (a.l.modify (gD d.all a.k).fr.toNat λ x => wr (x - (gD d.all a.k).now)).modify (gD d.all a.k).to.toNat λ x => wr (x + (gD d.all a.k).now)⟩, ⟨(AL (by omega)).symm, λ i hi => ?_⟩, ⟨by show a.k + 1 <= _; omega, by simp [h2], ?_⟩, by show _ - (a.k + 1) < _; omega⟩
  ·rw [BD (by simp [h2]; omega), BD (by omega), BD (by omega)]
   by_cases x1 : i = (gD d.all a.k).to.toNat <;> by_cases x2 : (gD d.all a.k).to.toNat = (gD d.all a.k).fr.toNat <;> by_cases x3 : i = (gD d.all a.k).fr.toNat <;> simp [x1, x2, x3] <;> (try omega) <;> (try simp_all)
  ·rw [h3, JP hk]; rfl
 ·intro i hi
  rw [h3, List.drop_eq_nil_of_le (by omega)]; rfl
theorem ok94 : AH Try.prog 94 (C94.spec Zi) := UY C94 A94 [] [] Try.func94 (λ _ => by kernel_rfl) (λ _ => AE) p94 (λ _ => WR rfl rfl) _
end Go.Bal
