/- Package balance: moved. -/
import Derived.Test.YtonddbmhljelgaaBalE
import Derived.Test.YtonddbmhljelgaaBalT1
set_option linter.unusedVariables false
set_option linter.unusedSimpArgs false
namespace Go.Bal
open Go Go.Sym Go.Proofs
structure DM where
 d : Desk
 fr : Int
 to : Int
 m : Map
 st : Int -> Int
 most : Int
structure One where
 one : Nat
 deriving Inhabited
structure TS where
 l : List Step
 v : Int
 deriving Inhabited
structure KI where
 k : Nat
 q : Int
 deriving Inhabited
structure KW where
 k : Nat
 all : List Way
 deriving Inhabited
def Gg : DVal := .list 0 0 (λ _ => default) true
def ASX (l : List Step) : DVal := lst 2 l.length λ i => hJ (gD l i)
def DM.tr (a : DM) : List Step := (SZ a.d a.m a.fr fuel a.to).getD []
def DM.q (a : DM) : Int := JS a.d a.most a.tr
def movK (a : DM) (q : Int) : List (Nat × HCell) := [(300, .live (.box [.bptr 100 0])), (301, .live (.box [.int q]))]
def movL (a : DM) : List (Nat × AObj) := Kv a.d ++ [(104, mapO a.m a.st)]
def A97 (a : DM) : Ann := { ann 68 [(87, C87.spec dDS), (85, C85.spec dDS), (108, C108.spec d108)] with E := [100, 101, 104], mt := λ id => id == 5, loops := λ id => if id = 3 then some [{ α := One, dflt := default, T := λ _ => ⟨[(1, .int a.fr), (3, .mref 104), (5, .bptr 300 0), (9, .bptr 301 0), (11, .d Gg), (12, .int a.to)], Uw (movL a) ++ movK a a.most⟩, inv := λ _ => True, meas := λ _ => a.tr.length, first := [(300, 1000), (301, 1016)] }, { α := TS, dflt := default, T := λ s => ⟨[(1, .int a.fr), (3, .mref 104), (5, .bptr 300 0), (9, .bptr 301 0), (11, .own 210 2 0 s.l.length), (12, .int s.v)], Uw (movL a) ++ movK a a.most ++ [(210, .live (.row 2 s.l.length λ i => hJ (gD s.l i)))]⟩, inv := λ s => s.l.length <= a.tr.length /\ a.tr = s.l ++ a.tr.drop s.l.length /\ ∃ k, k + s.l.length = fuel /\ SZ a.d a.m a.fr k s.v = some (a.tr.drop s.l.length), meas := λ s => a.tr.length - s.l.length, again := [(210, 6048)] }] else if id = 9 then some [{ α := KI, dflt := default, T := λ s => ⟨[(5, .bptr 300 0), (9, .bptr 301 0), (11, .d (ASX a.tr)), (40, .d (ASX a.tr)), (41, .int a.tr.length), (42, .int s.k)], Uw (movL a) ++ movK a s.q⟩, inv := λ s => s.k <= a.tr.length /\ JS a.d s.q (a.tr.drop s.k) = a.q, meas := λ s => a.tr.length - s.k, ffz := [210] }] else if id = 16 then some [{ α := KW, dflt := default, T := λ s => ⟨[(9, .bptr 301 0), (18, .fn (.func 108) [] [.bptr 300 0, .bptr 301 0]), (57, .d (ASX a.tr)), (58, .int a.tr.length), (59, .int s.k)], Uw (Kv (Desk.mk (s.all) a.d.out a.d.nR) ++ [(104, mapO a.m a.st)]) ++ movK a a.q⟩, inv := λ s => s.k <= a.tr.length /\ s.all.length = a.d.all.length /\ AQ a.q s.all (a.tr.drop s.k) = AQ a.q a.d.all a.tr, meas := λ s => a.tr.length - s.k }] else none }
def C97 : Ctr := { ro := [100, 104], α := DM, xs := λ a => [.bptr 100 0, .int a.fr, .int a.to, .mref 104, .int a.most], L := λ a => Kv a.d ++ [(104, mapO a.m a.st)], val := λ a => .int a.q, keep := λ a => Le (Desk.mk (AQ a.q a.d.all a.tr) a.d.out a.d.nR) ++ [(104, .live (mapO a.m a.st))], pre := λ a => [a.d.ok, (SZ a.d a.m a.fr fuel a.to).isSome = true, ∀ s ∈ a.tr, 0 <= s.way /\ s.way < a.d.all.length, a.tr.length <= 1000] }
def V97 (a : DM) : Prop := BN Try.prog (A97 a) Try.f97 (AF Try.f97) (C97.xs a) (AD (C97.L a)) (C97.val a) (C97.keep a) [] []
abbrev hd99:=@Eq Value
abbrev GQ:=λ (f : Int -> Prop) => ∀ (x : Int), f x
abbrev Zc:=@Exists One
abbrev xU:=DM.fr
abbrev jZ:=DM.to
abbrev DQ:=DM.d
abbrev AIV:=DM.most
abbrev SM:=True
abbrev Va:=λ (f : One -> Prop) => ∀ (x : One), f x
abbrev SO:=@bne Int (@instBEqOfDecidableEq Int Int.instDecidableEq)
abbrev BHJ:=@List.length Step
abbrev Sf:=TS.v
abbrev BHU:=@gD Step instInhabitedStep
abbrev qB:=DM.tr
abbrev BAF:=@Eq (List Step)
abbrev AZN:=@HAppend.hAppend (List Step) (List Step) (List Step) (@instHAppendOfAppend (List Step) (@List.instAppend Step))
abbrev AZV:=@Eq (Option (List Step))
abbrev AIL:=SZ
abbrev AZZ:=@some (List Step)
abbrev AQT:=@Exists KI
abbrev SB:=KI.k
abbrev Sl:=KI.q
abbrev AGS:=JS
abbrev Oz:=DM.q
abbrev BDV:=λ (f : KI -> Prop) => ∀ (x : KI), f x
abbrev Zp:=minI
abbrev lR:=@Exists KW
abbrev CK:=KW.k
abbrev NN:=KW.all
abbrev Z2:=@Eq (List Way)
abbrev AGI:=λ (f : KW -> Prop) => ∀ (x : KW), f x
abbrev BAG:=@HMul.hMul Nat Nat Nat (@instHMul Nat instMulNat)
abbrev OV a b c d e f:=CG a b c (Dq b c d e) f
abbrev ANH a b c d:=PD a b (AR c) d
abbrev AMT a b c d:=ANH a b c (QS d)
abbrev AWL a b:=Far.by' (Map.far a b)
abbrev E3 a b:=pR (AWL a b)
abbrev lZ a b:=E3 (DM.m a) b
abbrev Dn a b:=pO (AWL a b)
abbrev Mn a b:=Dn (DM.m a) b
abbrev Nj a b:=Far.many (Map.far a b)
abbrev ALB a b:=AR (Nj a b)
abbrev YJ a b:=Far.cost (Map.far a b)
abbrev Ei a b c d e f g h:=AMT (YJ (DM.m a) b) (ALB (DM.m c) d) (Mn e f) (lZ g h)
abbrev ANC (a:Int->Int):=GQ (λ i=>AR (a i))
abbrev Fk a:=ANC (λ i=>DM.st a i)
abbrev Jh a b:=(@Option.isSome Far) (Map.at a b)
abbrev ALF a:=GQ (λ i=>QS (Jh a i))
abbrev Eo a:=ALF (DM.m a)
abbrev MM:=hd99 GJ GJ
abbrev JL a b c d e f g h p:=TQ a (ZT b) c d e f g h p
abbrev OF a b:=QN (NN a) b
abbrev iM a b c:=AQ (Oz a) b c
abbrev ANO a b:=iM a b (qB a)
abbrev UE a:=ANO a (xM (DQ a))
abbrev HH a b:=IS (NN a) b
abbrev KK a b:=HT (NN a) b
abbrev JX a b c:=NS a b (SY c b)
abbrev CH a:=ZT (NN a)
abbrev cH a:=AR (Oz a)
abbrev CX a:=BHJ (qB a)
abbrev TL a b:=(@List.drop Step) a (qB b)
abbrev Qx a b:=LH (NN a) (DQ b)
abbrev jE a b:=EP (CK a) b
abbrev IP a b c (d:Nat->Prop) e f g h p:=IW a b c (AG d) e f g h p
abbrev tP a b:=BHU (qB a) b
abbrev AMD a b:=tP a (CK b)
abbrev BAP a b:=BAV a (λ i=>QN b i)
abbrev APP a:=BAP a a
abbrev YI a:=APP (NN a)
abbrev Jw a b c d:=Ae (Oz a) (YI b) (AMD c d)
abbrev KU a b:=Uh a (ZT b)
abbrev Ez a:=SX (DQ a)
abbrev Dm a:=OT (DQ a)
abbrev AUD a b:=Uh (NN a) b
abbrev Rb a b:=AUD a (CH b)
abbrev rQ a:=GT (CX a)
abbrev cY a b:=ABV (tP a b)
abbrev At a b:=pO (tP a b)
abbrev MW (a:Nat->Prop) b c d e f g h p:=IW (AG a) b c d e f g h p
abbrev Rq a b:=EY (DQ a) b
abbrev Qd a b:=FJ (DQ a) b
abbrev Sc a b:=FG (DQ a) b
abbrev mU a b c d:=BG a b a c d
abbrev APO a b c:=mU a b b c
abbrev aQ a b:=At a (SB b)
abbrev nO a b:=jT a (DQ b)
abbrev Cb a:=WL (DQ a)
abbrev dX a b:=IT (DQ a) b
abbrev cU a b:=JU (DQ a) b
abbrev eF a b:=EN (DQ a) b
abbrev EQ a b:=pZ a (BT b)
abbrev HI a:=BHJ (TS.l a)
abbrev I1 a b:=EP (AT a) b
abbrev BM a:=I1 a a
abbrev aJ a b:=BHU (TS.l a) b
abbrev dT a b (c:Nat->Prop):=AJ a b (IJ c)
abbrev ARZ a b c d e f g h:=IW a b c d b e f g h
abbrev FN a (b:Nat->Prop) c d e f g h p:=IW a (AG b) c d e f g h p
abbrev HV a b c d:=hd62 (hd30 a b) c d
abbrev UQ a:=Oi a 1
abbrev MK a b:=ED a (UQ b)
abbrev BBA a b c:=KF a (Step.mk b c)
abbrev BCE a b c:=Desk.mk a (Sx b) (MP c)
abbrev Lq a:=BCE (AXQ a a) a a
abbrev mB a b c d e f:=BG a b c d (EP e f)
abbrev AAB a b c d e f g:=mB a b c (EP d e) f g
abbrev AHD a b c d e:=AAB a b c d 9223372036854775807 e 140737488355328
abbrev ALO a b c d e f:=AHD a b c d (BAG e f)
abbrev VB a b:=VK (LY a) b
abbrev AEB a:=VB hd5 a
abbrev Nl a b c d e:=ALO a b (AEB c) d d e
abbrev KO a:=ON 0 a
abbrev tN:=KO 1
abbrev Qk a b c d:=Nl a b tN (UQ c) d
abbrev Sr a b c:=And a (HJ 0 b (DU c))
abbrev Y8 a b:=Sr (DU a) a b
abbrev VI a b c d:=Qk (Y8 a b) c a d
abbrev ANV a b:=Sr a 1 b
abbrev AKJ a:=EP a a
abbrev tQ:=AKJ 1
abbrev AEY a:=ANV tQ a
abbrev Ir:=AEY 2
abbrev rB a:=uZ (AOJ (eI a))
abbrev uW:=Value.bool hd5
abbrev AZB a b c:=WN a a b c
abbrev BAA a b:=AZB a a b
abbrev FB a:=ED a 0
abbrev qG a b c d:=kE a b c d c
abbrev IL a:=ED a 1
abbrev PF a:=VK VS a
abbrev AAD:=PF tN
abbrev mK a:=HJ 0 0 a
abbrev lW a:=And SM (mK a)
abbrev Vy a b c:=AHD (lW a) b AAD 1 c
abbrev cB a:=ED a 2
abbrev AGY:=Vy (cB 0) Ir 16
abbrev AJP a b c:=HJ a b (QS c)
abbrev PU a:=AJP a 0 hd5
abbrev BU:=AG PU
attribute [go_sem] hd99 GQ Zc xU jZ DQ AIV SM Va SO BHJ Sf BHU qB BAF AZN AZV AIL AZZ AQT SB Sl AGS Oz BDV Zp lR CK NN Z2 AGI BAG OV ANH AMT AWL E3 lZ Dn Mn Nj ALB YJ Ei ANC Fk Jh ALF Eo MM JL OF iM ANO UE HH KK JX CH cH CX TL Qx jE IP tP AMD BAP APP YI Jw KU Ez Dm AUD Rb rQ cY At MW Rq Qd Sc mU APO aQ nO Cb dX cU eF EQ HI I1 BM aJ dT ARZ FN HV UQ MK BBA BCE Lq mB AAB AHD ALO VB AEB Nl KO tN Qk Sr Y8 VI ANV AKJ tQ AEY Ir rB uW AZB BAA FB qG IL PF AAD mK lW Vy cB AGY AJP PU BU
theorem vc97 (a : DM) : (V97 a) = (AJ (Zc (λ i=>And (AJ (AR (xU a)) AC (BG BU (AR (jZ a)) AC (Cb a) (IP (Dm a) (Ez a) (Cb a) (λ j=>nO j a) MM (Eo a) (Fk a) (GQ (λ j=>Ei a j a j a j a j)) (AR (AIV a))))) SM)) (Va (λ i=>VK SM (IK (SO (jZ a) (xU a)) (AP (hd99 (rB (hd69 uW R2)) GJ) AGY (PD (Mn a (jZ a)) (QS (not (lZ a (jZ a)))) AC (YW (DQ a) (λ j=>GZ j (DQ a) (GU (DQ a) j) (eF a j) (Sc a j) (cU a j) (Qd a j) (dX a j) (Rq a j)) (λ j=>KV j (DQ a) (MO (DQ a) j) (Sc a j) (eF a j) (Qd a j) (cU a j) (Rq a j) (dX a j)) (IV (Mn a (jZ a))) (NX (Mn a (jZ a)) (RG (DQ a))))) ((@Exists TS) (λ j=>qG (ARZ (AR (xU a)) AC (IL (HI j)) (AS (Sf j) (BBA (Lq (DQ a)) (Mn a (jZ a)) (not (lZ a (jZ a))))) (Cb a) (Dm a) (Ez a) (FN (Cb a) (λ k=>nO k a) MM (Eo a) (Fk a) (GQ (λ k=>Ei a k a k a k a k)) (AR (AIV a)) (IL (HI j)) (AG (λ k=>Es k (HI j) (AS (pO (aJ j k)) (Mn a (jZ a))) (Gq (pR (aJ j k)) (lZ a (jZ a))))))) (dT (EP (HI j) (CX a)) (BAF (qB a) (AZN (TS.l j) (TL (HI j) a))) (λ k=>And (ED (Oi k (HI j)) 1000000000000000000) (AZV (AIL (DQ a) (DM.m a) (xU a) k (Sf j)) (AZZ (TL (HI j) a))))) (CX a) (HI j)))) (And (AQT (λ j=>YL (BAA (FB (CX a)) (BG (AZ (CX a)) (AZ (SB j)) AC (Cb a) (IP (Dm a) (Ez a) (Cb a) (λ k=>nO k a) MM (Eo a) (Fk a) (GQ (λ k=>Ei a k a k a k a k)) (AS (Sl j) (AIV a))))) (SB j) (CX a) (AGS (DQ a) (Sl j) (TL (SB j) a)) (Oz a))) (BDV (λ j=>OV (WD (SB j) (CX a) (AGS (DQ a) (Sl j) (TL (SB j) a)) (Oz a)) (SB j) (CX a) (PD (aQ a j) (cY a (SB j)) AC (YW (DQ a) (λ k=>GZ k (DQ a) (GU (DQ a) k) (eF a k) (Sc a k) (cU a k) (Qd a k) (dX a k) (Rq a k)) (λ k=>KV k (DQ a) (MO (DQ a) k) (Sc a k) (eF a k) (Qd a k) (cU a k) (Rq a k) (dX a k)) (IV (aQ a j)) (NX (aQ a j) (RG (DQ a))))) (AQT (λ k=>Ar (APO (DU (CX a)) (AG (λ l=>Es l (CX a) (AR (At a l)) (cY a l))) (BG (rQ a) (AU (SB k) (SB j)) AC (Cb a) (IP (Dm a) (Ez a) (Cb a) (λ l=>nO l a) MM (Eo a) (Fk a) (GQ (λ l=>Ei a l a l a l a l)) (AS (Sl k) (Zp (Sl j) (Xq (qI (DQ a)) (aQ a j) (pR (tP a (SB j))))))))) (SB k) (CX a) (AGS (DQ a) (Sl k) (TL (SB k) a)) (Oz a) (SB j))) (And (lR (λ k=>AP (Xo (CX a) (λ l=>Es l (CX a) (AR (At a l)) (cY a l)) (BG (rQ a) (AZ (CK k)) AC (Qx k a) (IP (Dm a) (Ez a) (Qx k a) (λ l=>TQ l (CH k) (NS (NN k) l (Lf (DQ a) l)) (KK k l) (Sc a l) (HH k l) (Qd a l) (OF k l) (Rq a l)) MM (Eo a) (Fk a) (GQ (λ l=>Ei a l a l a l a l)) (AS (Oz a) (Sl j))))) (jE k (CX a)) (Qx k a) (Z2 (iM a (NN k) (TL (CK k) a)) (UE a)))) (AGI (λ k=>OV (AJ (jE k (CX a)) (Qx k a) (Z2 (iM a (NN k) (TL (CK k) a)) (UE a))) (CK k) (CX a) (PD (At a (CK k)) (ABV (AMD a k)) AC (VO (Uh (YI k) (CH k)) (DQ a) (MW (λ l=>JL l (YI k) (JX (YI k) l (NN k)) (HT (YI k) l) (KK k l) (IS (YI k) l) (HH k l) (QN (YI k) l) (OF k l)) (cH a) AC (KU (NN k) (Jw a k a k)) (Dm a) (Ez a) (cH a) (IV (At a (CK k))) (NX (At a (CK k)) (ZT (YI k)))))) (lR (λ l=>CB (Xo (CX a) (λ m=>Es m (CX a) (AR (At a m)) (cY a m)) (BG (rQ a) (AU (CK l) (CK k)) AC (Rb l k) (IP (Dm a) (Ez a) (KU (NN l) (Jw a k a k)) (λ m=>TQ m (CH l) (JX (NN l) m (Jw a k a k)) (KK l m) (HT (Jw a k a k) m) (HH l m) (IS (Jw a k a k) m) (OF l m) (QN (Jw a k a k) m)) MM (Eo a) (Fk a) (GQ (λ m=>Ei a m a m a m a m)) (cH a)))) (AJ (jE l (CX a)) (Qx l a) (Z2 (iM a (NN l) (TL (CK l) a)) (UE a))) (CX a) (CK l) (CK k))) (AJ (cH a) AC (VO (Uh (UE a) (CH k)) (DQ a) (BG (AG (λ l=>JL l (UE a) (JX (UE a) l (NN k)) (HT (UE a) l) (KK k l) (IS (UE a) l) (HH k l) (QN (UE a) l) (OF k l))) MM (Eo a) (Fk a) (GQ (λ l=>Ei a l a l a l a l)))))))))))))) ((λ (f : TS -> Prop) => ∀ (x : TS), f x) (λ i=>VK (dT (EP (HI i) (CX a)) (BAF (qB a) (AZN (TS.l i) (TL (HI i) a))) (λ j=>And (ED (Oi j (HI i)) 1000000000000000000) (AZV (AIL (DQ a) (DM.m a) (xU a) j (Sf i)) (AZZ (TL (HI i) a))))) (IK (SO (Sf i) (xU a)) (AP (hd99 (rB (hd69 uW R2)) GJ) (VI (HI i) 2 Ir 16) (PD (Mn a (Sf i)) (QS (not (lZ a (Sf i)))) AC (YW (DQ a) (λ j=>GZ j (DQ a) (GU (DQ a) j) (eF a j) (Sc a j) (cU a j) (Qd a j) (dX a j) (Rq a j)) (λ j=>KV j (DQ a) (MO (DQ a) j) (Sc a j) (eF a j) (Qd a j) (cU a j) (Rq a j) (dX a j)) (IV (Mn a (Sf i))) (NX (Mn a (Sf i)) (RG (DQ a))))) ((@Exists TS) (λ j=>CB (ARZ (AR (xU a)) AC (MK (HI j) (HI i)) (AS (Sf j) (BBA (Lq (DQ a)) (Mn a (Sf i)) (not (lZ a (Sf i))))) (Cb a) (Dm a) (Ez a) (FN (Cb a) (λ k=>nO k a) MM (Eo a) (Fk a) (GQ (λ k=>Ei a k a k a k a k)) (AR (AIV a)) (MK (HI j) (HI i)) (AG (λ k=>Es k (HI j) (AS (pO (aJ j k)) (HV k (HI i) (pO (aJ i k)) (Mn a (Sf i)))) (Gq (pR (aJ j k)) (hd2 (hd30 k (HI i)) (pR (aJ i k)) (lZ a (Sf i)))))))) (dT (EP (HI j) (CX a)) (BAF (qB a) (AZN (TS.l j) (TL (HI j) a))) (λ k=>And (ED (Oi k (HI j)) 1000000000000000000) (AZV (AIL (DQ a) (DM.m a) (xU a) k (Sf j)) (AZZ (TL (HI j) a))))) (CX a) (HI j) (HI i)))) (And (AQT (λ j=>YL (AJ (ED (CX a) (HI i)) (BM (HI i)) (WN (AG (λ k=>Es k (CX a) (AS (At a k) (pO (aJ i (AT k)))) (Gq (pR (tP a k)) (pR (aJ i (AT k)))))) (ED (CX a) (HI i)) (BM (HI i)) (BG (EQ (CX a) (HI i)) (AZ (SB j)) AC (Cb a) (IP (Dm a) (Ez a) (Cb a) (λ k=>nO k a) MM (Eo a) (Fk a) (GQ (λ k=>Ei a k a k a k a k)) (AS (Sl j) (AIV a)))))) (SB j) (CX a) (AGS (DQ a) (Sl j) (TL (SB j) a)) (Oz a))) (BDV (λ j=>OV (WD (SB j) (CX a) (AGS (DQ a) (Sl j) (TL (SB j) a)) (Oz a)) (SB j) (CX a) (PD (aQ a j) (cY a (SB j)) AC (YW (DQ a) (λ k=>GZ k (DQ a) (GU (DQ a) k) (eF a k) (Sc a k) (cU a k) (Qd a k) (dX a k) (Rq a k)) (λ k=>KV k (DQ a) (MO (DQ a) k) (Sc a k) (eF a k) (Qd a k) (cU a k) (Rq a k) (dX a k)) (IV (aQ a j)) (NX (aQ a j) (RG (DQ a))))) (AQT (λ k=>Ar (APO (DU (CX a)) (AG (λ l=>Es l (CX a) (AR (At a l)) (cY a l))) (BG (rQ a) (AU (SB k) (SB j)) AC (Cb a) (IP (Dm a) (Ez a) (Cb a) (λ l=>nO l a) MM (Eo a) (Fk a) (GQ (λ l=>Ei a l a l a l a l)) (AS (Sl k) (Zp (Sl j) (Xq (qI (DQ a)) (aQ a j) (pR (tP a (SB j))))))))) (SB k) (CX a) (AGS (DQ a) (Sl k) (TL (SB k) a)) (Oz a) (SB j))) (And (lR (λ k=>AP (Xo (CX a) (λ l=>Es l (CX a) (AR (At a l)) (cY a l)) (BG (rQ a) (AZ (CK k)) AC (Qx k a) (IP (Dm a) (Ez a) (Qx k a) (λ l=>TQ l (CH k) (NS (NN k) l (Lf (DQ a) l)) (KK k l) (Sc a l) (HH k l) (Qd a l) (OF k l) (Rq a l)) MM (Eo a) (Fk a) (GQ (λ l=>Ei a l a l a l a l)) (AS (Oz a) (Sl j))))) (jE k (CX a)) (Qx k a) (Z2 (iM a (NN k) (TL (CK k) a)) (UE a)))) (AGI (λ k=>OV (AJ (jE k (CX a)) (Qx k a) (Z2 (iM a (NN k) (TL (CK k) a)) (UE a))) (CK k) (CX a) (PD (At a (CK k)) (ABV (AMD a k)) AC (VO (Uh (YI k) (CH k)) (DQ a) (MW (λ l=>JL l (YI k) (JX (YI k) l (NN k)) (HT (YI k) l) (KK k l) (IS (YI k) l) (HH k l) (QN (YI k) l) (OF k l)) (cH a) AC (KU (NN k) (Jw a k a k)) (Dm a) (Ez a) (cH a) (IV (At a (CK k))) (NX (At a (CK k)) (ZT (YI k)))))) (lR (λ l=>CB (Xo (CX a) (λ m=>Es m (CX a) (AR (At a m)) (cY a m)) (BG (rQ a) (AU (CK l) (CK k)) AC (Rb l k) (IP (Dm a) (Ez a) (KU (NN l) (Jw a k a k)) (λ m=>TQ m (CH l) (JX (NN l) m (Jw a k a k)) (KK l m) (HT (Jw a k a k) m) (HH l m) (IS (Jw a k a k) m) (OF l m) (QN (Jw a k a k) m)) MM (Eo a) (Fk a) (GQ (λ m=>Ei a m a m a m a m)) (cH a)))) (AJ (jE l (CX a)) (Qx l a) (Z2 (iM a (NN l) (TL (CK l) a)) (UE a))) (CX a) (CK l) (CK k))) (AJ (cH a) AC (VO (Uh (UE a) (CH k)) (DQ a) (BG (AG (λ l=>JL l (UE a) (JX (UE a) l (NN k)) (HT (UE a) l) (KK k l) (IS (UE a) l) (HH k l) (QN (UE a) l) (OF k l))) MM (Eo a) (Fk a) (GQ (λ l=>Ei a l a l a l a l))))))))))))))) := by kernel_rfl
theorem X1 {d : Desk} {m : Map} {fr : Int} {k : Nat} {v : Int} {L : List Step} (h : SZ d m fr (k + 1) v = some L) (hv : v ≠ fr) : ∃ L', L = (m.far v).by' :: L' /\ SZ d m fr k (KF d ⟨(m.far v).by'.way, !(m.far v).by'.back⟩) = some L' := by
 simp only [SZ, if_neg hv] at h
 split at h
 ·cases h
 ·rename_i l hl
  cases h; exact ⟨l, rfl, hl⟩
theorem AAE {d : Desk} {m : Map} {fr : Int} {k : Nat} {v : Int} {L : List Step} (h : SZ d m fr k v = some L) (hv : v = fr) : L = [] := by
 cases k with
 | zero => cases h
 | succ k => simp only [SZ, if_pos hv] at h; cases h; rfl
theorem BEN {α : Type} [Inhabited α] {L M : List α} {x : α} {n : Nat} (h : L = M ++ L.drop n) (hn : M.length = n) (hd : L.drop n = x :: L.drop (n + 1)) : L = (M ++ [x]) ++ L.drop (n + 1) := by
 rw [List.append_assoc, List.singleton_append, <- hd]; exact h
theorem BDS {α : Type} {L : List α} {x : α} {n : Nat} {R : List α} (h : L.drop n = x :: R) : L.drop (n + 1) = R := by
 rw [<- List.drop_drop, h]; rfl
theorem Fi {α : Type} [Inhabited α] {l : List α} {k : Nat} (h : k < l.length) : gD l k ∈ l := by
 simp only [gD, List.getD_eq_getElem?_getD, List.getElem?_eq_getElem h, Option.getD_some]; exact List.getElem_mem h
theorem p97 (a : DM) (hd : a.d.ok) (ht : (SZ a.d a.m a.fr fuel a.to).isSome = true) (hs : ∀ s ∈ a.tr, 0 <= s.way /\ s.way < a.d.all.length) (hL : a.tr.length <= 1000) : V97 a := by
 have htr : SZ a.d a.m a.fr fuel a.to = some a.tr := by
  obtain ⟨r, h⟩ := Option.isSome_iff_exists.1 ht
  simp [DM.tr, h]
 have hfuel : fuel = 1000000000000000000 := rfl
 obtain ⟨K, hK⟩ : ∃ K, fuel = K + 1 := ⟨999999999999999999, rfl⟩
 have hlen := hd.len
 have hq : JS a.d a.most a.tr = a.q := rfl
 rw [vc97]<;> simp only [go_sem]
 simp only [CC, eq_self, implies_true, forall_const, bne_iff_ne, ne_eq, bne_eq_false_iff_eq, yS, Fy, S8]
 generalize a.tr = L at *
 generalize a.q = q at *
 refine ⟨⟨⟨0⟩, trivial⟩, ⟨λ hne => ?g1, λ heq => ⟨?g2, ?rest⟩⟩, λ a1 ⟨h1, h2, k1, hk1, hl1⟩ => ⟨λ hne => ?g3, λ heq => ⟨?g4, ?rest2⟩⟩⟩
 case g1 =>
  rw [hK] at htr
  obtain ⟨L', e1, e2⟩ := X1 htr hne
  have hs1 := hs _ (show (a.m.far a.to).by' ∈ L by rw [e1]; simp)
  refine ⟨rfl, by decide, hs1, ⟨[(a.m.far a.to).by'], _⟩, ⟨rfl, rfl, rfl, λ i hi => ?_⟩, ⟨by rw [e1]; simp, by rw [e1]; simp, K, hK.symm.trans hfuel, ?_⟩, by rw [e1]; simp⟩
  ·have : i = 0 := by simpa using hi
   subst this; exact ⟨rfl, rfl⟩
  ·rw [e1]; exact e2
 case g2 =>
  have := AAE htr heq
  subst this
  exact ⟨⟨0, a.most⟩, ⟨rfl, rfl, rfl, rfl, rfl, rfl, rfl⟩, by simp, hq⟩
 case g3 =>
  cases k1 with
  | zero => cases hl1
  | succ k1 =>
  obtain ⟨L', e1, e2⟩ := X1 hl1 hne
  have hlt : a1.l.length < L.length := by
   have := congrArg List.length e1
   simp at this; omega
  have e3 : L.drop (a1.l.length + 1) = L' := BDS e1
  have hs1 := hs _ (show (a.m.far a1.v).by' ∈ L by rw [h2, e1]; simp)
  refine ⟨rfl, ⟨by decide, by decide, by omega, by omega⟩, hs1, ⟨a1.l ++ [(a.m.far a1.v).by'], _⟩, ⟨by simp, rfl, by simp, λ i hi => ?_⟩, ⟨by simp; omega, ?_, k1, by simp; omega, ?_⟩, by simp; omega⟩
  ·rw [CP]
   by_cases hi2 : i < a1.l.length
   ·simp [hi2]
   ·have hi3 : i - a1.l.length = 0 := by simp at hi; omega
    simp only [hi2, if_false, hi3, decide_false, cond_false]
    exact ⟨rfl, rfl⟩
  ·have : (a1.l ++ [(a.m.far a1.v).by']).length = a1.l.length + 1 := by simp
   rw [this]
   refine BEN h2 rfl ?_
   rw [e3]; exact e1
  ·have : (a1.l ++ [(a.m.far a1.v).by']).length = a1.l.length + 1 := by simp
   rw [this, e3]
   exact e2
 case g4 =>
  have e := AAE hl1 heq
  rw [e, List.append_nil] at h2
  subst h2
  exact ⟨⟨0, a.most⟩, ⟨rfl, Nat.le_refl _, λ _ _ => ⟨rfl, rfl⟩, rfl, Nat.le_refl _, λ _ _ => ⟨rfl, rfl⟩, rfl, rfl, rfl⟩, by simp, hq⟩
 case rest | rest2 =>
  intro a2 ⟨h3, h4⟩
  refine ⟨λ hlt => ⟨⟨by omega, hlt⟩, hs _ (Fi (by omega)), ⟨⟨a2.k + 1, _⟩, ⟨(AL (by omega)).symm, rfl⟩, ⟨by show a2.k + 1 <= _; omega, ?_⟩, by show _ - (a2.k + 1) < _; omega⟩⟩, λ hge => ⟨⟨⟨0, a.d.all⟩, ⟨rfl, rfl, rfl, λ i _ => ⟨rfl, rfl, rfl, rfl, rfl⟩, ?_⟩, by simp, rfl, rfl⟩, λ a5 ⟨h5, h6, h7⟩ => ⟨λ hlt => ?_, λ hge => ?_⟩⟩⟩
  ·rw [JP (by omega)] at h4; exact h4
  ·rw [List.drop_eq_nil_of_le (by omega)] at h4; exact h4.symm
  ·refine ⟨⟨by omega, hlt⟩, by rw [h6]; exact hs _ (Fi (by omega)), ⟨⟨a5.k + 1, Ae q a5.all (gD L a5.k)⟩, ⟨(AL (by omega)).symm, Fy _ _ _, Fy _ _ _, λ i _ => ⟨rfl, rfl, rfl, rfl, rfl⟩⟩, ⟨by show a5.k + 1 <= _; omega, (Fy _ _ _).trans h6, ?_⟩, by show _ - (a5.k + 1) < _; omega⟩⟩
   rw [JP (by omega)] at h7; exact h7
  ·rw [List.drop_eq_nil_of_le (by omega)] at h7
   have h7 : a5.all = AQ q a.d.all L := h7
   rw [<- h7]
   exact ⟨rfl, rfl, λ i _ => ⟨rfl, rfl, rfl, rfl, rfl⟩⟩
theorem ok97 (dec : List AVal -> Heap -> Option (DM × List (Nat × Nat) × List Nat)) : AH Try.prog 97 (C97.spec dec) := UY C97 A97 [] [] Try.func97 (λ _ => by kernel_rfl) (λ _ => AA ok87 (AA ok85 (AA BQQ AE))) (λ a h => p97 a h.1 h.2.1 h.2.2.1 h.2.2.2) (λ _ => WR rfl rfl) _
end Go.Bal
