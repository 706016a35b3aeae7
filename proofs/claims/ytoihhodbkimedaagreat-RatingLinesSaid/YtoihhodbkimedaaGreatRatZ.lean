/- Package rating: Passes, Through, At. -/
import Derived.Test.YtoihhodbkimedaaGreatRatX
set_option linter.unusedVariables false
set_option linter.unusedSimpArgs false
namespace Go.Bal
open Go Go.Sym Go.Proofs
structure GR where
 g : List Gau
 r : Rtg
def dGR : List AVal -> Heap -> Option (GR × List (Nat × Nat) × List Nat)
 | [x, y], H => match kX x H, dRtg y H with
  | some (l, f), some (r, e) => some (⟨l, r⟩, [], f ++ e)
  | _, _ => none
 | _, _ => none
def xGR (a : GR) : List AVal := [.d (BE a.g), .d (E4 a.r)]
def zT (a : GR) (i : Nat) : Bool := !BF (gD a.r.l (FA a.r.b (gD a.g i).st)) (gD a.g i)
def SF (a : GR) (n : Nat) : List Int := ((List.range n).filter (zT a)).map Int.ofNat
def EF (a : GR) : Int := bif AK a.g == 0 then AZ a.r else AK a.g
def OR (a : GR) : List Int := bif EF a == 0 then SF a a.g.length else []
def C_Passes : Ctr := { α := GR, xs := xGR, L := λ _ => [], val := λ a => .tup [.d (BD (OR a)), .int (EF a)], keep := λ _ => [], pre := λ a => [a.g.length < 1073741824 /\ a.r.b.length < 1073741824 /\ a.r.l.length < 1073741824] }
structure KI where
 k : Nat
 l : List Int
 deriving Inhabited
def rtgC (r : Rtg) : HCell := .live (.box [.d (BD r.b), .d (XW r.l)])
def psS (a : GR) (v : AVal) (k : Nat) : List (Nat × AVal) := [(3, .bptr 1000 0), (7, v), (19, .d (BE a.g)), (20, .int a.g.length), (21, .int k)]
def psI (a : GR) (k : Nat) (l : List Int) : Prop := EF a = 0 /\ k <= a.g.length /\ l = SF a k
def ps8n (a : GR) : Shape := { α := Nat, dflt := 0, T := λ k => ⟨psS a (.d PQ) k, [(1000, rtgC a.r)]⟩, inv := λ k => psI a k [], meas := λ k => a.g.length - k }
def ps8o (a : GR) : Shape := { α := KI, dflt := default, T := λ x => ⟨psS a (.own 301 1 0 x.l.length) x.k, [(1000, rtgC a.r), (301, .live (rowI x.l))]⟩, inv := λ x => psI a x.k x.l, meas := λ x => a.g.length - x.k }
def BXQ (a : GR) (m : Nat) : Shape := { α := Nat, dflt := 0, T := λ k => ⟨psS a (.d PQ) k, [(1000, rtgC a.r)]⟩, inv := λ k => k < a.g.length /\ a.g.length - k = m /\ psI a (k + 1) [], meas := λ _ => 0 }
def BRC (a : GR) (m : Nat) (f : List (Nat × Nat)) : Shape := { α := KI, dflt := default, T := λ x => ⟨psS a (.own 301 1 0 x.l.length) x.k, [(1000, rtgC a.r), (301, .live (rowI x.l))]⟩, inv := λ x => x.k < a.g.length /\ a.g.length - x.k = m /\ psI a (x.k + 1) x.l, meas := λ _ => 0, first := f }
def ps4 (a : GR) : Shape := { α := One, dflt := default, T := λ _ => ⟨[(0, .d (BE a.g)), (3, .bptr 1000 0), (6, .int (EF a))], [(1000, rtgC a.r)]⟩, inv := λ _ => True, meas := λ _ => 0 }
def ATJ (a : GR) : Ann := { ann 44 [(Cb, C_Check.spec JW), (Ej, C_CheckR.spec dRt1), (yQ, C_part.spec dIX), (Hp, W2)] with mt := λ id => id == 11, loops := λ id => if id = 8 then some [ps8n a, ps8o a] else none, cut := λ id => if id = 4 then some [ps4 a] else none, cutIn := λ gs id => if id = 12 then some [BXQ a (gs.getD 0 0), BRC a (gs.getD 0 0) [(301, 12048)], BRC a (gs.getD 0 0) []] else none }
def AUQ (a : GR) : Prop := AO Try.prog (ATJ a) AFT (AF AFT) (xGR a) (AC []) (C_Passes.val a) [] [] [301]
abbrev Bf (a : GR) : List Gau := AD a.g.length λ (i : Nat) => gD a.g i
abbrev ZV (a : GR) : Nat := (Bf a).length
abbrev Ab (a : GR) (i : Nat) : Gau := gD (Bf a) i
abbrev Yt (a : GR) : Int := AK (Bf a)
abbrev II (a : GR) : List Int := AD a.r.b.length λ (i : Nat) => gD a.r.b i
abbrev ZJ (a : GR) : Nat := (II a).length
abbrev ZW (a : GR) : Prop := ZJ a = a.r.b.length
abbrev Bn (a : GR) : Prop := ∀ (i : Nat), i < ZJ a -> gD (II a) i = gD a.r.b i
abbrev Ba (a : GR) : List Ln := AD a.r.l.length λ (i : Nat) => gD a.r.l i
abbrev Di (a : GR) : Nat := (Ba a).length
abbrev NS (a : GR) (i : Nat) : Ln := gD (Ba a) i
abbrev Hk (a : GR) : Prop := ZJ a < 4611686018427387904
abbrev DW (a : GR) : Prop := a.g.length = a.g.length
abbrev Iz (a : GR) (i : Nat) : Prop := (gD a.g i).st = (gD a.g i).st
abbrev DV (a : GR) : Prop := ∀ (i : Nat), i < a.g.length -> Iz a i /\ (gD a.g i).lo = (gD a.g i).lo /\ (gD a.g i).hi = (gD a.g i).hi
abbrev ND (a : GR) : Prop := a.r.b.length = a.r.b.length
abbrev NX (a : GR) : Prop := ∀ (i : Nat), i < a.r.b.length -> gD a.r.b i = gD a.r.b i
abbrev OF (a : GR) : Prop := a.r.l.length = a.r.l.length
abbrev NT (a : GR) : Prop := ∀ (i : Nat), i < a.r.l.length -> (gD a.r.l i).a0 = (gD a.r.l i).a0 /\ (gD a.r.l i).a1 = (gD a.r.l i).a1 /\ (gD a.r.l i).b0 = (gD a.r.l i).b0 /\ (gD a.r.l i).b1 = (gD a.r.l i).b1
abbrev JB (a : GR) : Prop := ND a /\ NX a /\ OF a /\ NT a
abbrev NP (a : GR) : Prop := (OR a).length = 0
abbrev FE : Prop := 0 = 0
abbrev SV : Prop := ∀ (i : Nat), i < 0 -> false = false
abbrev FF (a : GR) : Prop := (↑a.g.length : Int) = (↑a.g.length : Int)
abbrev NJ (a : GR) (a1 : Nat) : Prop := EF a = 0 /\ a1 <= a.g.length /\ [] = SF a a1
abbrev Hs (a : Nat) (a1 : GR) : Prop := (↑a : Int) < (↑a1.g.length : Int)
abbrev Jl (a : GR) : Prop := Hk a /\ List.Pairwise (λ (x1 x2 : Int) => x1 < x2) (II a)
abbrev SJ (a : GR) (a1 : Nat) : Nat := FA (II a) (gD a.g a1).st
abbrev IS (a : GR) (a1 : Nat) : Ln := gD a.r.l (SJ a a1)
abbrev Gc (a : GR) (a1 : Nat) : Int := (IS a a1).a0
abbrev Jv (a : GR) (a1 : Nat) : Int := (IS a a1).b0
abbrev Gf (a : GR) (a1 : Nat) : Int := (IS a a1).a1
abbrev Hh (a : GR) (a1 : Nat) : Int := (IS a a1).b1
abbrev SX : Prop := 0 < 1
abbrev Em : Prop := 1 = 1
abbrev Fv : Prop := 1 <= 1 /\ (SX -> Em)
abbrev Is (a : KI) : Prop := a.l.length = 1
abbrev EP (a : GR) (a1 : KI) : Nat := a.g.length - a1.k
abbrev EJ (a : GR) (a1 : Nat) : Nat := a.g.length - a1
abbrev Iw (a : KI) : Nat := a.k + 1
abbrev Hx (a : GR) (a1 : KI) : Prop := EF a = 0 /\ Iw a1 <= a.g.length /\ a1.l = SF a (Iw a1)
abbrev Jj (a : KI) (a1 : GR) (a2 : Nat) : Prop := a.k < a1.g.length /\ EP a1 a = EJ a1 a2 /\ Hx a1 a
abbrev Jq (a : Nat) : Nat := a + 1
abbrev Fy (a : GR) (a1 : Nat) : Prop := EF a = 0 /\ Jq a1 <= a.g.length /\ [] = SF a (Jq a1)
abbrev Fh (a : Nat) (a1 : GR) (a2 : Nat) : Prop := a < a1.g.length /\ EJ a1 a = EJ a1 a2 /\ Fy a1 a
abbrev Gm (a : GR) (a1 : Nat) (a2 : Nat) : Prop := FE /\ SV /\ DW a /\ DV a /\ FF a /\ (↑a1 : Int) = IntKind.i64.wrap ((↑a2 : Int) + 1) /\ JB a
abbrev TB (a : KI) (a1 : KI) : Prop := a.l.length = a1.l.length
abbrev Ip (a : GR) (a1 : KI) (a2 : KI) : Prop := ND a /\ NX a /\ OF a /\ NT a /\ TB a1 a2 /\ ∀ (i : Nat), i < a1.l.length -> gD a1.l i = gD a2.l i
abbrev Kp (a : KI) (a1 : KI) (a2 : GR) : Prop := FE /\ TB a a1 /\ DW a2 /\ DV a2 /\ FF a2 /\ (↑a.k : Int) = IntKind.i64.wrap ((↑a1.k : Int) + 1) /\ Ip a2 a a1
abbrev TG (a : GR) (a1 : KI) : Prop := EF a = 0 /\ a1.k <= a.g.length /\ a1.l = SF a a1.k
abbrev Il (a : GR) (a1 : Nat) : Prop := ∀ (a_1 : KI), Jj a_1 a a1 -> ∃ (a_3 : KI), Kp a_3 a_1 a /\ TG a a_3 /\ EP a a_3 < EJ a a1
abbrev Ez (a : KI) (a1 : GR) : Prop := (↑a.k : Int) < (↑a1.g.length : Int)
abbrev SR (a : GR) (a1 : KI) : Nat := FA (II a) (gD a.g a1.k).st
abbrev JA (a : GR) (a1 : KI) : Ln := gD a.r.l (SR a a1)
abbrev Jt (a : GR) (a1 : KI) : Int := (JA a a1).a0
abbrev In (a : GR) (a1 : KI) : Int := (JA a a1).b0
abbrev Kr (a : GR) (a1 : KI) : Int := (JA a a1).a1
abbrev Jz (a : GR) (a1 : KI) : Int := (JA a a1).b1
abbrev TD (a : KI) : Nat := a.l.length + 1
abbrev Gn (a : KI) (a1 : KI) : Prop := a.l.length = TD a1
abbrev Hv (a : KI) (a1 : KI) : Prop := (↑a.k : Int) = (↑a1.k : Int)
abbrev SG (a : KI) (a1 : GR) (a2 : KI) : Prop := a.k < a1.g.length /\ EP a1 a = EP a1 a2 /\ Hx a1 a
abbrev Jy (a : GR) (a1 : KI) : Prop := ∀ (a_1 : KI), SG a_1 a a1 -> ∃ (a_3 : KI), Kp a_3 a_1 a /\ TG a a_3 /\ EP a a_3 < EP a a1
theorem BCZ (a : GR) : (AUQ a) = ((ZV a = a.g.length /\ (∀ (i : Nat), i < ZV a -> (Ab a i).st = (gD a.g i).st /\ (Ab a i).lo = (gD a.g i).lo /\ (Ab a i).hi = (gD a.g i).hi)
 /\ ZV a < 4611686018427387904 /\ True) /\ (bif Yt a == 0 then (ZW a /\ Bn a /\ Di a = a.r.l.length /\ (∀ (i : Nat), i < Di a -> (NS a i).a0 = (gD a.r.l i).a0 /\
 (NS a i).a1 = (gD a.r.l i).a1 /\ (NS a i).b0 = (gD a.r.l i).b0 /\ (NS a i).b1 = (gD a.r.l i).b1) /\ Hk a /\ Di a < 4611686018427387904) /\ ∃ (a_1 : One), (DW a /\
 DV a /\ EF a = AZ (Rtg.mk (II a) (Ba a)) /\ JB a) /\ True else ∃ (a_1 : One), (DW a /\ DV a /\ EF a = Yt a /\ JB a) /\ True) /\ ∀ (a_1 : One), True ->
 bif EF a != 0 then NP a /\ NP a /\ EF a = EF a else (∃ (a_3 : Nat), (FE /\ SV /\ DW a /\ DV a /\ FF a /\ (↑a_3 : Int) = 0 /\ JB a) /\ NJ a
 a_3) /\ (∀ (a_3 : Nat), NJ a a_3 -> bif decide (Hs a_3 a) then ((0 <= (↑a_3 : Int) /\ Hs a_3 a) /\ (ZW a /\ Bn a /\ Iz a a_3 /\ Jl a /\ (0 <= (↑(SJ a a_3) :
 Int) /\ (↑(SJ a a_3) : Int) < (↑a.r.l.length : Int)) /\ (0 <= Gc a a_3 /\ Gc a a_3 < Jv a a_3 /\ Jv a a_3 <= 2000 /\ 0 <= Gf a a_3 /\ Gf a a_3 <= Hh a a_3 /\
 Hh a a_3 <= 200000) /\ 0 <= (gD a.g a_3).st /\ (gD a.g a_3).st <= 2000 /\ 0 <= (gD a.g a_3).lo /\ (gD a.g a_3).lo <= (gD a.g a_3).hi /\ (gD a.g a_3).hi <= 200000) /\ bif !BF (IS a a_3) (gD a.g a_3) then ((True /\
 (0 < 0 -> 0 = 1)) /\ Fv /\ (true = true -> SX) /\ 1 <= 9223372036854775807 /\ 8 <= 140737488355328) /\ ∃ (a_5 : KI), (FE /\ Is a_5 /\ DW a /\ DV a /\ FF a /\ (↑a_5.k :
 Int) = (↑a_3 : Int) /\ ND a /\ NX a /\ OF a /\ NT a /\ Is a_5 /\ ∀ (i : Nat), i < a_5.l.length -> gD a_5.l i = (↑a_3 : Int)) /\ Jj a_5 a a_3 else ∃ (a_5 : Nat), (FE
 /\ SV /\ DW a /\ DV a /\ FF a /\ (↑a_5 : Int) = (↑a_3 : Int) /\ JB a) /\ Fh a_5 a a_3) /\ (∀ (a_5 : Nat), Fh a_5 a a_3 -> ∃ (a_7 : Nat), Gm a a_7 a_5 /\
 NJ a a_7 /\ EJ a a_7 < EJ a a_3) /\ Il a a_3 /\ Il a a_3 else NP a /\ NP a /\ EF a = 0) /\ ∀ (a_3 : KI), TG a a_3 -> bif decide (Ez a_3 a) then
 ((0 <= (↑a_3.k : Int) /\ Ez a_3 a) /\ (ZW a /\ Bn a /\ (gD a.g a_3.k).st = (gD a.g a_3.k).st /\ Jl a /\ (0 <= (↑(SR a a_3) : Int) /\ (↑(SR a a_3) : Int) < (↑a.r.l.length : Int))
 /\ (0 <= Jt a a_3 /\ Jt a a_3 < In a a_3 /\ In a a_3 <= 2000 /\ 0 <= Kr a a_3 /\ Kr a a_3 <= Jz a a_3 /\ Jz a a_3 <= 200000) /\ 0 <= (gD a.g a_3.k).st /\ (gD a.g
 a_3.k).st <= 2000 /\ 0 <= (gD a.g a_3.k).lo /\ (gD a.g a_3.k).lo <= (gD a.g a_3.k).hi /\ (gD a.g a_3.k).hi <= 200000) /\ bif !BF (JA a a_3) (gD a.g a_3.k) then ((a_3.l.length = a_3.l.length /\ (0 < a_3.l.length ->
 Em)) /\ Fv /\ (false = true -> SX) /\ TD a_3 <= 9223372036854775807 /\ TD a_3 * 8 <= 140737488355328) /\ ∃ (a_5 : KI), (FE /\ Gn a_5 a_3 /\ DW a /\ DV
 a /\ FF a /\ Hv a_5 a_3 /\ ND a /\ NX a /\ OF a /\ NT a /\ Gn a_5 a_3 /\ ∀ (i : Nat), i < a_5.l.length -> gD a_5.l i = bif decide (i < a_3.l.length) then gD a_3.l i
 else (↑a_3.k : Int)) /\ SG a_5 a a_3 else ∃ (a_5 : KI), (FE /\ TB a_5 a_3 /\ DW a /\ DV a /\ FF a /\ Hv a_5 a_3 /\ Ip a a_5 a_3) /\ SG a_5 a a_3) /\
 (∀ (a_5 : Nat), a_5 < a.g.length /\ EJ a a_5 = EP a a_3 /\ Fy a a_5 -> ∃ (a_7 : Nat), Gm a a_7 a_5 /\ NJ a a_7 /\ EJ a a_7 < EP a a_3) /\ Jy a a_3 /\
 Jy a a_3 else (OR a).length = a_3.l.length /\ 0 + a_3.l.length <= a_3.l.length /\ (∀ (j : Nat), j < (OR a).length -> gD (OR a) j = gD a_3.l (0 + j)) /\ EF a = 0) := by kernel_rfl
structure RtI where
 r : Rtg
 t : Int
def okRt (r : Rtg) : Prop := asc r.b /\ r.l.length = r.b.length + 1 /\ (∀ x ∈ r.l, HY x) /\ r.b.length <= 24
def dRtI : List AVal -> Heap -> Option (RtI × List (Nat × Nat) × List Nat)
 | [x, .d t], H => match dRtg x H with
  | some (r, f) => some (⟨r, CT t⟩, [], f)
  | none => none
 | _, _ => none
def atF (a : RtI) : Rt := FW (gD a.r.l (FA a.r.b a.t)) a.t
def C_flowR : Ctr := { α := RtI, xs := λ a => [.d (E4 a.r), .int a.t], L := λ _ => [], val := λ a => .d (sX (atF a)), keep := λ _ => [], pre := λ a => [okRt a.r /\ 0 <= a.t /\ a.t <= 2000] }
def BAD : Ann := ann 15 [(yQ, C_part.spec dIX), (iW, H6)]
def BAM (a : RtI) : Prop := AO Try.prog BAD ANF (AF ANF) (C_flowR.xs a) (AC []) (C_flowR.val a) [] [] []
theorem BIB (a : RtI) : (BAM a) = (((AD a.r.b.length λ (i : Nat) => gD a.r.b i).length = a.r.b.length /\ (∀ (i : Nat), i < (AD a.r.b.length λ (i : Nat) => gD a.r.b i).length -> gD (AD a.r.b.length λ (i :
 Nat) => gD a.r.b i) i = gD a.r.b i) /\ a.t = a.t /\ ((AD a.r.b.length λ (i : Nat) => gD a.r.b i).length < 4611686018427387904 /\ List.Pairwise (λ (x1 x2 : Int) => x1 < x2) (AD a.r.b.length λ (i : Nat) => gD a.r.b
 i)) /\ (0 <= (↑(FA (AD a.r.b.length λ (i : Nat) => gD a.r.b i) a.t) : Int) /\ (↑(FA (AD a.r.b.length λ (i : Nat) => gD a.r.b i) a.t) : Int) < (↑a.r.l.length : Int)) /\ (0 <= (gD a.r.l (FA (AD a.r.b.length λ (i :
 Nat) => gD a.r.b i) a.t)).a0 /\ (gD a.r.l (FA (AD a.r.b.length λ (i : Nat) => gD a.r.b i) a.t)).a0 < (gD a.r.l (FA (AD a.r.b.length λ (i : Nat) => gD a.r.b i) a.t)).b0 /\ (gD a.r.l (FA (AD a.r.b.length λ (i :
 Nat) => gD a.r.b i) a.t)).b0 <= 2000 /\ 0 <= (gD a.r.l (FA (AD a.r.b.length λ (i : Nat) => gD a.r.b i) a.t)).a1 /\ (gD a.r.l (FA (AD a.r.b.length λ (i : Nat) => gD a.r.b i) a.t)).a1 <= (gD a.r.l (FA (AD a.r.b.length
 λ (i : Nat) => gD a.r.b i) a.t)).b1 /\ (gD a.r.l (FA (AD a.r.b.length λ (i : Nat) => gD a.r.b i) a.t)).b1 <= 200000) /\ 0 <= a.t /\ a.t <= 2000) /\ (atF a).n = (FW (gD a.r.l (FA (AD a.r.b.length λ (i : Nat) => gD
 a.r.b i) a.t)) a.t).n /\ (atF a).d = (FW (gD a.r.l (FA (AD a.r.b.length λ (i : Nat) => gD a.r.b i) a.t)) a.t).d) := by kernel_rfl
def dAR : List AVal -> Heap -> Option (RtI × List (Nat × Nat) × List Nat)
 | [.d (.iface 41 (.agg [.list _ n f _, .list _ m g _])), .d t], _ => some (⟨⟨AD n λ i => CT (f i), AD m λ i => dLn (g i)⟩, CT t⟩, [], [])
 | _, _ => none
def C_askR : Ctr := { C_flowR with xs := λ (a : RtI) => [.d (.iface 41 (E4 a.r)), .int a.t] }
def BFR (a : RtI) : Prop := AO Try.prog (ann 8 [(G9, C_flowR.spec dRtI)]) iE (AF iE) (C_askR.xs a) (AC []) (C_askR.val a) [] [] []
theorem BQL (a : RtI) : (BFR a) = (((AD a.r.b.length λ (i : Nat) => gD a.r.b i).length = a.r.b.length /\ (∀ (i : Nat), i < (AD a.r.b.length λ (i : Nat) => gD a.r.b i).length -> gD (AD a.r.b.length λ (i :
 Nat) => gD a.r.b i) i = gD a.r.b i) /\ (AD a.r.l.length λ (i : Nat) => gD a.r.l i).length = a.r.l.length /\ (∀ (i : Nat), i < (AD a.r.l.length λ (i : Nat) => gD a.r.l i).length -> (gD (AD a.r.l.length λ (i : Nat)
 => gD a.r.l i) i).a0 = (gD a.r.l i).a0 /\ (gD (AD a.r.l.length λ (i : Nat) => gD a.r.l i) i).a1 = (gD a.r.l i).a1 /\ (gD (AD a.r.l.length λ (i : Nat) => gD a.r.l i) i).b0 = (gD a.r.l i).b0 /\ (gD (AD a.r.l.length fun
 (i : Nat) => gD a.r.l i) i).b1 = (gD a.r.l i).b1) /\ a.t = a.t /\ (List.Pairwise (λ (x1 x2 : Int) => x1 < x2) (AD a.r.b.length λ (i : Nat) => gD a.r.b i) /\ (AD a.r.l.length λ (i : Nat) => gD a.r.l i).length = (AD
 a.r.b.length λ (i : Nat) => gD a.r.b i).length + 1 /\ (∀ (x : Ln), List.Mem x (AD a.r.l.length λ (i : Nat) => gD a.r.l i) -> 0 <= x.a0 /\ x.a0 < x.b0 /\ x.b0 <= 2000 /\ 0 <= x.a1 /\ x.a1 <= x.b1 /\ x.b1 <= 200000) /\ (AD
 a.r.b.length λ (i : Nat) => gD a.r.b i).length <= 24) /\ 0 <= a.t /\ a.t <= 2000) /\ (atF a).n = (atF (RtI.mk (Rtg.mk (AD a.r.b.length λ (i : Nat) => gD a.r.b i) (AD a.r.l.length λ (i : Nat) => gD a.r.l i)) a.t)).n /\
 (atF a).d = (atF (RtI.mk (Rtg.mk (AD a.r.b.length λ (i : Nat) => gD a.r.b i) (AD a.r.l.length λ (i : Nat) => gD a.r.l i)) a.t)).d) := by kernel_rfl
def atE (a : RtI) : Int := bif AZ a.r == 0 then (bif CJ a.t 0 2000 then 0 else 4) else AZ a.r
def D8 (a : RtI) : Rt := bif atE a == 0 then atF a else ⟨0, 0⟩
def C_At : Ctr := { α := RtI, xs := λ a => [.d (E4 a.r), .int a.t], L := λ _ => [], val := λ a => .tup [.d (sX (D8 a)), .int (atE a)], keep := λ _ => [], pre := λ a => [a.r.b.length < 1073741824 /\ a.r.l.length < 1073741824] }
def A_At : Ann := ann 21 [(Ej, C_CheckR.spec dRt1), (Qw, Uh), (Nq, C_askR.spec dAR)]
def V_At (a : RtI) : Prop := AO Try.prog A_At F_At (AF F_At) (C_At.xs a) (AC []) (C_At.val a) [] [] []
theorem BZD (a : RtI) : (V_At a) = (((AD a.r.b.length λ (i : Nat) => gD a.r.b i).length = a.r.b.length /\ (∀ (i : Nat), i < (AD a.r.b.length λ (i : Nat) => gD a.r.b i).length -> gD (AD a.r.b.length λ (i : Nat)
 => gD a.r.b i) i = gD a.r.b i) /\ (AD a.r.l.length λ (i : Nat) => gD a.r.l i).length = a.r.l.length /\ (∀ (i : Nat), i < (AD a.r.l.length λ (i : Nat) => gD a.r.l i).length -> (gD (AD a.r.l.length λ (i : Nat) => gD
 a.r.l i) i).a0 = (gD a.r.l i).a0 /\ (gD (AD a.r.l.length λ (i : Nat) => gD a.r.l i) i).a1 = (gD a.r.l i).a1 /\ (gD (AD a.r.l.length λ (i : Nat) => gD a.r.l i) i).b0 = (gD a.r.l i).b0 /\ (gD (AD a.r.l.length λ (i :
 Nat) => gD a.r.l i) i).b1 = (gD a.r.l i).b1) /\ (AD a.r.b.length λ (i : Nat) => gD a.r.b i).length < 4611686018427387904 /\ (AD a.r.l.length λ (i : Nat) => gD a.r.l i).length < 4611686018427387904) /\ bif AZ
 (Rtg.mk (AD a.r.b.length λ (i : Nat) => gD a.r.b i) (AD a.r.l.length λ (i : Nat) => gD a.r.l i)) != 0 then (D8 a).n = 0 /\ (D8 a).d = 0 /\ atE a = AZ (Rtg.mk (AD a.r.b.length λ (i : Nat) => gD a.r.b i) (AD
 a.r.l.length λ (i : Nat) => gD a.r.l i)) else bif !CJ a.t 0 2000 then (D8 a).n = 0 /\ (D8 a).d = 0 /\ atE a = 4 else ((AD a.r.b.length λ (i : Nat) => gD a.r.b i).length = a.r.b.length /\ (∀ (i : Nat), i < (AD
 a.r.b.length λ (i : Nat) => gD a.r.b i).length -> gD (AD a.r.b.length λ (i : Nat) => gD a.r.b i) i = gD a.r.b i) /\ (AD a.r.l.length λ (i : Nat) => gD a.r.l i).length = a.r.l.length /\ (∀ (i : Nat), i < (AD
 a.r.l.length λ (i : Nat) => gD a.r.l i).length -> (gD (AD a.r.l.length λ (i : Nat) => gD a.r.l i) i).a0 = (gD a.r.l i).a0 /\ (gD (AD a.r.l.length λ (i : Nat) => gD a.r.l i) i).a1 = (gD a.r.l i).a1 /\ (gD (AD
 a.r.l.length λ (i : Nat) => gD a.r.l i) i).b0 = (gD a.r.l i).b0 /\ (gD (AD a.r.l.length λ (i : Nat) => gD a.r.l i) i).b1 = (gD a.r.l i).b1) /\ a.t = a.t /\ (List.Pairwise (λ (x1 x2 : Int) => x1 < x2) (AD
 a.r.b.length λ (i : Nat) => gD a.r.b i) /\ (AD a.r.l.length λ (i : Nat) => gD a.r.l i).length = (AD a.r.b.length λ (i : Nat) => gD a.r.b i).length + 1 /\ (∀ (x : Ln), List.Mem x (AD a.r.l.length λ (i : Nat) =>
 gD a.r.l i) -> 0 <= x.a0 /\ x.a0 < x.b0 /\ x.b0 <= 2000 /\ 0 <= x.a1 /\ x.a1 <= x.b1 /\ x.b1 <= 200000) /\ (AD a.r.b.length λ (i : Nat) => gD a.r.b i).length <= 24) /\ 0 <= a.t /\ a.t <= 2000) /\ (D8 a).n = (atF (RtI.mk (Rtg.mk (AD
 a.r.b.length λ (i : Nat) => gD a.r.b i) (AD a.r.l.length λ (i : Nat) => gD a.r.l i)) a.t)).n /\ (D8 a).d = (atF (RtI.mk (Rtg.mk (AD a.r.b.length λ (i : Nat) => gD a.r.b i) (AD a.r.l.length λ (i : Nat) => gD
 a.r.l i)) a.t)).d /\ atE a = 0) := by kernel_rfl
theorem Lj {r : Rtg} (h : AZ r = 0) : okRt r /\ ∀ x ∈ r.b, 1 <= x /\ x <= 2000 := by
 unfold AZ at h
 cases hb : BI r.b != 0 with
 | true => rw [hb] at h; have h : BI r.b = 0 := h; rw [h] at hb; cases hb
 | false =>
  rw [hb] at h
  have hb0 : BI r.b = 0 := by simpa using hb
  cases hl : (r.l.length : Int) != (r.b.length : Int) + 1 with
  | true => rw [hl] at h; cases h
  | false =>
   rw [hl] at h
   cases hr : r.l.all FT with
   | false => rw [hr] at h; cases h
   | true =>
    have hl0 : (r.l.length : Int) = (r.b.length : Int) + 1 := by simpa using hl
    unfold BI at hb0
    split at hb0
    ·cases hb0
    ·obtain ⟨h5, h6⟩ := AVQ _ 0 (by omega) hb0
     exact ⟨⟨h5, by omega, λ x hx => Gy.1 (List.all_eq_true.1 hr x hx), by omega⟩, λ x hx => by have := h6 x hx; omega⟩
theorem IU {a : GR} {k : Nat} : SF a (k + 1) = if zT a k = true then SF a k ++ [(k : Int)] else SF a k := by
 unfold SF
 rw [List.range_succ, List.filter_append, List.map_append]
 by_cases h : zT a k = true
 ·rw [if_pos h, List.filter_cons_of_pos h]; rfl
 ·rw [if_neg h, List.filter_cons_of_neg h]; simp
theorem gM (a : GR) (k : Nat) : (SF a k).length <= k := by
 unfold SF; rw [List.length_map]
 exact Nat.le_trans (List.length_filter_le _ _) (by simp)
theorem BID (a : GR) (h1 : a.g.length < 1073741824) (h2 : a.r.b.length < 1073741824) (h3 : a.r.l.length < 1073741824) : AUQ a := by
 rw [BCZ]; delta Bf ZV Ab Yt II ZJ ZW Bn Ba Di NS Hk DW Iz DV ND NX OF NT JB NP FE SV FF NJ Hs Jl SJ IS Gc Jv Gf Hh SX Em Fv Is EP EJ Iw Hx Jj Jq Fy Fh Gm TB Ip Kp TG Il Ez SR JA Jt In Kr Jz TD Gn Hv SG Jy; simp only [CC, eq_self, implies_true, forall_const]
 have em : ¬EF a = 0 -> OR a = [] := λ h => by unfold OR; rw [show (EF a == 0) = false by simpa using h]; rfl
 have facts : EF a = 0 -> AK a.g = 0 /\ okRt a.r := λ h => by
  unfold EF at h
  cases hc : AK a.g == 0 with
  | false => rw [hc] at h; have h : AK a.g = 0 := h; rw [h] at hc; cases hc
  | true => rw [hc] at h; exact ⟨by simpa using hc, (Lj h).1⟩
 have pre : ∀ {k : Nat}, EF a = 0 -> k < a.g.length -> ((a.r.b.length < 4611686018427387904 /\ asc a.r.b) /\ (0 <= ((FA a.r.b (gD a.g k).st : Nat) : Int) /\ ((FA a.r.b (gD a.g k).st : Nat) : Int) < a.r.l.length) /\ HY (gD a.r.l (FA a.r.b (gD a.g k).st)) /\ Dd (gD a.g k)) := λ {k} h hk => by
  obtain ⟨f1, f2, f3, f4, f5⟩ := facts h
  have hle : FA a.r.b (gD a.g k).st <= a.r.b.length := List.countP_le_length
  exact ⟨⟨by omega, f2⟩, ⟨by omega, by omega⟩, f4 _ (EG (by omega)), (Gz f1).2 _ (EG hk)⟩
 have nP : ∀ {k : Nat}, BF (gD a.r.l (FA a.r.b (gD a.g k).st)) (gD a.g k) = false -> zT a k = true := λ {k} h => by unfold zT; rw [h]; rfl
 have nQ : ∀ {k : Nat}, BF (gD a.r.l (FA a.r.b (gD a.g k).st)) (gD a.g k) = true -> ¬zT a k = true := λ {k} h => by unfold zT; rw [h]; simp
 have cn : ∀ (m i : Nat), i < a.g.length /\ a.g.length - i = m /\ psI a (i + 1) [] -> ∃ j : Nat, (j : Int) = IntKind.i64.wrap ((i : Int) + 1) /\ psI a j [] /\ a.g.length - j < m := λ m i ⟨b1, b2, b3⟩ => ⟨i + 1, (BH (by omega)).symm, b3, by omega⟩
 have co : ∀ (m : Nat) (x : KI), x.k < a.g.length /\ a.g.length - x.k = m /\ psI a (x.k + 1) x.l -> ∃ y : KI, (y.l.length = x.l.length /\ (y.k : Int) = IntKind.i64.wrap ((x.k : Int) + 1) /\ y.l.length = x.l.length /\ ∀ i, i < y.l.length -> gD y.l i = gD x.l i) /\ psI a y.k y.l /\ a.g.length - y.k < m := λ m x ⟨b1, b2, b3⟩ => ⟨⟨x.k + 1, x.l⟩, ⟨rfl, (BH (by omega)).symm, rfl, λ _ _ => rfl⟩, b3, by show a.g.length - (x.k + 1) < m; omega⟩
 have fin : ∀ {l : List Int}, EF a = 0 -> l = SF a a.g.length -> OR a = l := λ {l} h1 h2 => by unfold OR; rw [h1, h2]; rfl
 refine ⟨by omega, ⟨λ hc => ⟨⟨by omega, by omega⟩, default, ?_⟩, λ hc => ⟨default, ?_⟩⟩, λ he => ?_, λ he => ⟨⟨0, rfl, by simpa using he, Nat.zero_le _, rfl⟩, λ k ⟨k1, k2, k3⟩ => ⟨λ hlt => ⟨⟨⟨by omega, by omega⟩, pre k1 (by omega), λ hp => ⟨⟨by omega, by omega, by omega, by omega, by omega⟩, ⟨k, [(k : Int)]⟩, ⟨rfl, rfl, rfl, λ i hi => ?_⟩, by show k < _; omega, rfl, k1, by show k < _; omega, ?_⟩, λ hp => ⟨k, rfl, by omega, rfl, k1, by omega, ?_⟩⟩, cn _, co _⟩, λ hge => ?_⟩, λ x ⟨x1, x2, x3⟩ => ⟨λ hlt => ⟨⟨⟨by omega, by omega⟩, pre x1 (by omega), λ hp => ⟨⟨by omega, λ h => (by cases h), ?_, ?_⟩, ⟨x.k, x.l ++ [(x.k : Int)]⟩, ⟨by simp, rfl, by simp, BIE _ _⟩, by show x.k < _; omega, rfl, x1, by show x.k < _; omega, ?_⟩, λ hp => ⟨x, ⟨rfl, rfl, rfl, λ _ _ => rfl⟩, by omega, rfl, x1, by omega, ?_⟩⟩, cn _, co _⟩, λ hge => ?_⟩⟩⟩
 ·unfold EF; rw [hc]; rfl
 ·unfold EF; rw [hc]; rfl
 ·rw [em (by simpa using he)]; rfl
 ·rw [show i = 0 by have h1 : i < 1 := hi; omega]; rfl
 ·rw [IU, if_pos (nP hp), <- k3]; rfl
 ·rw [IU, if_neg (nQ hp)]; exact k3
 ·have e : OR a = [] := fin k1 (by rw [k3, show k = a.g.length by omega])
  rw [e]; exact ⟨rfl, rfl, k1⟩
 ·have := gM a x.k; rw [<- x3] at this; omega
 ·have := gM a x.k; rw [<- x3] at this; omega
 ·show x.l ++ _ = _; rw [IU, if_pos (nP hp), <- x3]
 ·rw [IU, if_neg (nQ hp)]; exact x3
 ·have e : OR a = x.l := fin x1 (by rw [x3, show x.k = a.g.length by omega])
  rw [e]; exact ⟨rfl, Nat.le_refl _, λ _ _ => rfl, x1⟩
theorem BDL : AG Try.prog X2 (C_Passes.spec dGR) := GD C_Passes ATJ [] [301] BDD (λ _ => by kernel_rfl) (λ _ => AB VK (AB tN (AB iG (AB AJU AE)))) (λ (a : GR) h => BID a h.1 h.2.1 h.2.2) (λ _ => GJ rfl rfl) _
theorem BFN : AG Try.prog G9 (C_flowR.spec dRtI) := GD C_flowR (λ _ => BAD) [] [] BMG (λ _ => by kernel_rfl) (λ _ => AB iG (AB ATS AE)) (λ (a : RtI) h => by
 show BAM a; rw [BIB]; simp only [CC, eq_self, implies_true, forall_const]
 obtain ⟨⟨h1, h2, h3, h4⟩, h5⟩ : okRt a.r /\ 0 <= a.t /\ a.t <= 2000 := h
 have hle : FA a.r.b a.t <= a.r.b.length := List.countP_le_length
 exact ⟨⟨⟨by omega, h1⟩, ⟨by omega, by omega⟩, h3 _ (EG (by omega)), h5⟩, rfl, rfl⟩) (λ _ => GJ rfl rfl) _
theorem BPO : AG Try.prog Nq (C_askR.spec dAR) := GD C_askR (λ _ => ann 8 [(G9, C_flowR.spec dRtI)]) [] [] AUZ (λ _ => by kernel_rfl) (λ _ => AB BFN AE) (λ (a : RtI) h => by
 show BFR a; rw [BQL]; simp only [CC, eq_self, implies_true, forall_const]
 exact h) (λ _ => GJ rfl rfl) _
theorem BXT : AG Try.prog n_At (C_At.spec dRtI) := GD C_At (λ _ => A_At) [] [] BXA (λ _ => by kernel_rfl) (λ _ => AB tN (AB XG (AB BPO AE))) (λ (a : RtI) h => by
 show V_At a; rw [BZD]; simp only [CC, eq_self, implies_true, forall_const]
 obtain ⟨h1, h2⟩ : a.r.b.length < 1073741824 /\ a.r.l.length < 1073741824 := h
 refine ⟨⟨by omega, by omega⟩, λ hc => ?_, λ hc => ?_⟩
 ·have e0 : (AZ a.r == 0) = false := by simpa using hc
  have e : atE a = AZ a.r := by unfold atE; rw [e0]; rfl
  have e2 : D8 a = ⟨0, 0⟩ := by unfold D8; rw [e, e0]; rfl
  rw [e2]; exact ⟨rfl, rfl, e⟩
 ·have e1 : AZ a.r = 0 := by simpa using hc
  have e0 : (AZ a.r == 0) = true := by simpa using hc
  refine ⟨λ hi => ?_, λ hi => ?_⟩
  ·have e : atE a = 4 := by unfold atE; rw [e0, hi]; rfl
   have e2 : D8 a = ⟨0, 0⟩ := by unfold D8; rw [e]; rfl
   rw [e2]; exact ⟨rfl, rfl, e⟩
  ·have e : atE a = 0 := by unfold atE; rw [e0, hi]; rfl
   have e2 : D8 a = atF a := by unfold D8; rw [e]; rfl
   have ht : 0 <= a.t /\ a.t <= 2000 := by unfold CJ at hi; simpa using hi
   rw [e2]; exact ⟨⟨(Lj e1).1, ht⟩, rfl, rfl, e⟩) (λ _ => GJ rfl rfl) _
end Go.Bal
