/- BalanceMore. -/
import Derived.Test.YtonddbmhljelgaaBalT25
set_option linter.unusedVariables false
set_option linter.unusedSimpArgs false
namespace Go.Bal
open Go Go.Sym Go.Proofs
def FV (s : Stm) : Nat -> Stm
 | 0 => s
 | k + 1 => AM (AM (FV s k) 9) 9
def RJ (s : Stm) (k : Nat) : Int := AS (FV s k) 9
def RH (s : Stm) (k : Nat) : Int := AS (AM (FV s k) 9) 9
def Qz (s : Stm) (l : List Reach) (i : Nat) : Reach := { (gD l i) with sp := ⟨wr ((gD l i).sp.lo - RJ s i), wr ((gD l i).sp.hi + RH s i)⟩ }
def EB (s : Stm) (l : List Reach) (k : Nat) : List Reach := (List.range l.length).map λ i => if i < k then Qz s l i else gD l i
def AG (a : BBB) : NetL := mkN a.a 6
def BG (a : BBB) : NetL := EO ⟨⟨a.b, 0, 0⟩, AG a⟩
def AZ (a : BBB) : Stm := ⟨a.c, 0, 0⟩
def Vi (a : BBB) : Stm := FV (AZ a) (AG a).r.length
def BT (a : BBB) : NetL := ⟨(AG a).g, EB (AZ a) (AG a).r (AG a).r.length⟩
def EC (a : BBB) : NetL := ⟨(AG a).g, EB (AZ a) (BG a).r (AG a).r.length⟩
def UR (a : BBB) : Int := AS (Vi a) (AG a).g.length
def Ih (a : BBB) : Stm := AM (Vi a) (AG a).g.length
def Bu (a : BBB) : Reach := ⟨UR a, (wr (UR a + 1)).tmod (AG a).g.length, ⟨wr (-(AS (Ih a) 5)), AS (AM (Ih a) 5) 5⟩⟩
def XM (a : BBB) : Bool := decide (1 < (AG a).g.length)
def BF (a : BBB) : NetL := ⟨(AG a).g, if XM a then (AG a).r ++ [Bu a] else (AG a).r⟩
def DK (a : BBB) : NetL := ⟨(AG a).g, if XM a then (BG a).r ++ [Bu a] else (BG a).r⟩
def Uj (a : BBB) : List (Nat × HCell) := [(201, MW (AG a)), (202, MW (BG a))]
def XV (a : BBB) (x : AVal) : HCell := .live (.box [.d (DV (AG a).g), x])
def moH (a : BBB) (k j : Nat) : List (Nat × HCell) := Uj a ++ [(204, XV a (.own 214 4 0 (AG a).r.length)), (205, XV a (.own 215 4 0 (AG a).r.length)), (206, XV a (.own 216 4 0 (AG a).r.length)), (207, XV a (.own 217 4 0 (AG a).r.length)), (214, Gs (EB (AZ a) (AG a).r k)), (215, Gs (AG a).r), (216, Gs (BG a).r), (217, Gs (EB (AZ a) (BG a).r j))]
def moHe (a : BBB) : List (Nat × HCell) := Uj a ++ [(204, XV a (.d Ls)), (205, XV a (.d Ls)), (206, XV a (.d Ls)), (207, XV a (.d Ls))]
def Uo : List (Nat × AVal) := [(7, .bptr 201 0), (9, .bptr 202 0), (10, .bptr 203 0), (11, .bptr 204 0), (12, .bptr 205 0), (13, .bptr 206 0), (14, .bptr 207 0)]
def moF : List (Nat × Nat) := [(201, 2096), (202, 3064), (203, 4016), (204, 5128), (205, 5144), (206, 5160), (207, 5176)]
def moFo : List (Nat × Nat) := moF ++ [(214, 5016), (215, 5048), (216, 5080), (217, 5112)]
def Ts (a : BBB) (e : Bool) : Shape := bif e then { α := Nat, dflt := 0, T := λ i => ⟨Uo ++ [(15, .int i)], moHe a ++ [(203, VX (AZ a))]⟩, inv := λ i => i = 0, meas := λ i => (AG a).r.length - i, first := moF } else { α := Nat, dflt := 0, T := λ i => ⟨Uo ++ [(15, .int i)], moH a i i ++ [(203, VX (FV (AZ a) i))]⟩, inv := λ i => i <= (AG a).r.length, meas := λ i => (AG a).r.length - i, first := moFo }
def moP (p q : Nat) : List (Nat × AVal) := [(74, .own p 1 0 2), (75, .int 2), (76, .int q)]
def moPH (p : Nat) : List (Nat × HCell) := [(p, .live (.box [.bptr 204 0, .bptr 207 0]))]
def Hg (a : BBB) (m : Nat) (p q u v : Nat) (f g : List (Nat × Nat)) : Shape := { α := Nat, dflt := 0, T := λ i => ⟨Uo ++ [(15, .int i), (16, .int (RJ (AZ a) i)), (17, .int (RH (AZ a) i))] ++ moP p q, moH a (i + u) (i + v) ++ [(203, VX (FV (AZ a) (i + 1)))] ++ moPH p⟩, inv := λ i => i < (AG a).r.length /\ (AG a).r.length - i = m, meas := λ _ => 2 - q, first := f, again := g }
def Qn (a : BBB) (z : List Nat) : Shape := { α := One, dflt := default, T := λ _ => ⟨[(7, .bptr 201 0), (9, .bptr 202 0), (11, .bptr 204 0), (12, .bptr 205 0), (13, .bptr 206 0), (14, .bptr 207 0)], Uj a ++ [(204, XV a (.d (BS (BT a).r))), (205, XV a (.d (BS (BF a).r))), (206, XV a (.d (BS (DK a).r))), (207, XV a (.d (BS (EC a).r)))]⟩, inv := λ _ => True, meas := λ _ => 0, ffz := z }
def Rw (a : BBB) : List (Nat × AVal) := [(21, KK (AO (AG a))), (22, KK (AN (AG a)))]
def Wp (a : BBB) : List (Nat × AVal) := [(24, KK (AO (BT a))), (25, KK (AN (BT a))), (27, KK (AO (BF a))), (28, KK (AN (BF a)))]
def moHz (a : BBB) : List (Nat × HCell) := [(202, MW (BG a)), (204, MW (BT a)), (205, MW (BF a)), (206, MW (DK a)), (207, MW (EC a))]
def Yn (a : BBB) : List (Nat × HCell) := [(202, MW (BG a)), (206, MW (DK a)), (207, MW (EC a))]
def mo19 (a : BBB) : Shape := { α := One, dflt := default, T := λ _ => ⟨[(9, .bptr 202 0), (11, .bptr 204 0), (12, .bptr 205 0), (13, .bptr 206 0), (14, .bptr 207 0)] ++ Rw a ++ [(23, .int (FC (AG a)))], moHz a⟩, inv := λ _ => True, meas := λ _ => 0 }
def Jl (a : BBB) : Shape := { α := Nat, dflt := 0, T := λ i => ⟨[(9, .bptr 202 0), (13, .bptr 206 0), (14, .bptr 207 0)] ++ Rw a ++ Wp a ++ [(30, .int i)], Yn a⟩, inv := λ i => i <= (AO (AG a)).length, meas := λ i => (AO (AG a)).length - i }
def Ik (a : BBB) : Shape := { α := Nat, dflt := 0, T := λ i => ⟨[(9, .bptr 202 0), (13, .bptr 206 0), (14, .bptr 207 0), (22, KK (AN (AG a))), (25, KK (AN (BT a))), (28, KK (AN (BF a))), (31, .int i)], Yn a⟩, inv := λ i => i <= (AN (AG a)).length, meas := λ i => (AN (AG a)).length - i }
def Is (a : BBB) : Shape := { α := Nat, dflt := 0, T := λ i => ⟨[(23, .int (AD (IB (BG a)))), (38, .bptr 210 0), (40, .int (FL (IB (BG a)))), (41, .int (LU (AG a) i)), (42, .int i)], [(210, .live (.box [.d (DV (AG a).g), .d HX]))]⟩, inv := λ i => i <= (AG a).g.length, meas := λ i => (AG a).g.length - i, first := [(210, 39048)] }
def s15 (e : Bool) : Sym.Spec := bif e then C15z.spec Wd else C15o.spec XP
def s29 (e : Bool) : Sym.Spec := bif e then C29z.spec Tt else C29.spec Qf
def s32 (e : Bool) : Sym.Spec := bif e then C32z.spec Ud else C32.spec Zs
def A5 (a : BBB) (e : Bool) : Ann := { ann 401 [(30, C30.spec d30), (29, s29 e), (32, s32 e), (33, C33.spec Qf), (15, s15 e), (34, C34t.spec dN), (20, C20t.spec dN), (14, s14)] with mt := λ id => id == 17, cutIn := λ gs id => if id = 18 then some (bif e then [Qn a [18064, 18144], Qn a []] else [Qn a [214, 18064, 18144, 217], Qn a [214, 215, 216, 217]]) else if id = 19 then some [mo19 a] else none, loops := λ id => if id = 6 then some [Ts a e] else if id = 24 then some [Jl a] else if id = 29 then some [Ik a] else if id = 42 then some [Is a] else none, inner := λ gs id => if id = 10 then bif e then none else some [Hg a (gs.getD 0 0) 208 0 0 0 [(208, 10000)] [(208, 99999)], Hg a (gs.getD 0 0) 209 1 1 0 [(209, 99999)] [(209, 208)], Hg a (gs.getD 0 0) 210 2 1 1 [(210, 99999)] [(210, 209)]] else none }
def V5 (a : BBB) : Prop := BM Try.prog (A5 a false) Try.f5 (AJ Try.f5) (Uk a) (AE []) (.bool true) [] [] []
theorem vc5 (a : BBB) : (V5 a) = (let q := a
 let y0 : List Int := AC q.a.length λ (i : Nat) => gD q.a i
 let y1 := y0.length
 let y2 (i : Nat) := gD y0 i
 let y3 : List Int := AC y1 λ (i : Nat) => y2 i
 let y4 := y3.length
 let y5 := (0 : Int) = (0 : Int)
 let y6 : Stm := Stm.mk y3 (0 : Int) (0 : Int)
 let y7 : List Int := AC q.b.length λ (i : Nat) => gD q.b i
 let y8 := y7.length
 let y9 (i : Nat) := gD y7 i
 let y10 : NetL := EH (SN.mk y6 (6 : Int))
 let y11 : List Span := y10.g
 let y12 := y11.length
 let y13 (i : Nat) : Span := gD y11 i
 let y14 : List Span := AC y12 λ (i : Nat) => y13 i
 let y15 := y14.length
 let y16 := y15 = y12
 let y17 (i : Nat) : Span := gD y14 i
 let y18 (i : Nat) := (y17 i).lo
 let y19 (i : Nat) := (y13 i).lo
 let y20 (i : Nat) := (y17 i).hi
 let y21 (i : Nat) := (y13 i).hi
 let y22 := ∀ (i : Nat), i < y15 -> y18 i = y19 i /\ y20 i = y21 i
 let y23 : List Reach := y10.r
 let y24 := y23.length
 let y25 (i : Nat) : Reach := gD y23 i
 let y26 : List Reach := AC y24 λ (i : Nat) => y25 i
 let y27 := y26.length
 let y28 := y27 = y24
 let y29 (i : Nat) : Reach := gD y26 i
 let y30 (i : Nat) := (y29 i).fr
 let y31 (i : Nat) := (y25 i).fr
 let y32 (i : Nat) := (y29 i).to
 let y33 (i : Nat) := (y25 i).to
 let y34 (i : Nat) : Span := (y29 i).sp
 let y35 (i : Nat) := (y34 i).lo
 let y36 (i : Nat) : Span := (y25 i).sp
 let y37 (i : Nat) := (y36 i).lo
 let y38 (i : Nat) := (y34 i).hi
 let y39 (i : Nat) := (y36 i).hi
 let y40 := ∀ (i : Nat), i < y27 -> y30 i = y31 i /\ y32 i = y33 i /\ y35 i = y37 i /\ y38 i = y39 i
 let y41 : List Int := AC y8 λ (i : Nat) => y9 i
 let y42 := y41.length
 let y43 : Stm := Stm.mk y41 (0 : Int) (0 : Int)
 let y44 : List Int := AC q.c.length λ (i : Nat) => gD q.c i
 let y45 := y44.length
 let y46 (i : Nat) := gD y44 i
 let y47 := y15 <= (1000000 : Nat)
 let y48 := (0 : Nat) < y27 /\ y27 <= (1000 : Nat)
 let y49 : NetL := EO (SNet.mk y43 (NetL.mk y14 y26))
 let y50 : List Span := y49.g
 let y51 := y50.length
 let y52 (i : Nat) : Span := gD y50 i
 let y53 : List Span := AC y51 λ (i : Nat) => y52 i
 let y54 := y53.length
 let y55 := y54 = y51
 let y56 (i : Nat) : Span := gD y53 i
 let y57 (i : Nat) := (y56 i).lo
 let y58 (i : Nat) := (y52 i).lo
 let y59 (i : Nat) := (y56 i).hi
 let y60 (i : Nat) := (y52 i).hi
 let y61 := ∀ (i : Nat), i < y54 -> y57 i = y58 i /\ y59 i = y60 i
 let y62 : List Reach := y49.r
 let y63 := y62.length
 let y64 (i : Nat) : Reach := gD y62 i
 let y65 : List Reach := AC y63 λ (i : Nat) => y64 i
 let y66 := y65.length
 let y67 := y66 = y63
 let y68 (i : Nat) : Reach := gD y65 i
 let y69 (i : Nat) := (y68 i).fr
 let y70 (i : Nat) := (y64 i).fr
 let y71 (i : Nat) := (y68 i).to
 let y72 (i : Nat) := (y64 i).to
 let y73 (i : Nat) : Span := (y68 i).sp
 let y74 (i : Nat) := (y73 i).lo
 let y75 (i : Nat) : Span := (y64 i).sp
 let y76 (i : Nat) := (y75 i).lo
 let y77 (i : Nat) := (y73 i).hi
 let y78 (i : Nat) := (y75 i).hi
 let y79 := ∀ (i : Nat), i < y66 -> y69 i = y70 i /\ y71 i = y72 i /\ y74 i = y76 i /\ y77 i = y78 i
 let y80 := y54 <= (1000000 : Nat)
 let y81 := (0 : Nat) < y66 /\ y66 <= (1000 : Nat)
 let y82 (a : Nat) := (↑a : Int) = (0 : Int)
 let y83 := (AG q).g.length = y15
 let y84 := ∀ (i : Nat), i < (AG q).g.length -> (gD (AG q).g i).lo = y18 i /\ (gD (AG q).g i).hi = y20 i
 let y85 := (0 : Nat) = (0 : Nat)
 let y86 := (AG q).r.length = y27
 let y87 := (AG q).g.length = y54
 let y88 := ∀ (i : Nat), i < (AG q).g.length -> (gD (AG q).g i).lo = y57 i /\ (gD (AG q).g i).hi = y59 i
 let y89 := (AG q).r.length = y66
 let y90 (i : Nat) (a1 : Nat) := i < (EB (AZ q) (AG q).r a1).length
 let y91 (a1 : Nat) (i : Nat) : Reach := gD (EB (AZ q) (AG q).r a1) i
 let y92 (a1 : Nat) (i : Nat) := (y91 a1 i).fr
 let y93 (a1 : Nat) (i : Nat) := (y91 a1 i).to
 let y94 (a1 : Nat) (i : Nat) : Span := (y91 a1 i).sp
 let y95 (a1 : Nat) (i : Nat) := (y94 a1 i).lo
 let y96 (a1 : Nat) (i : Nat) := (y94 a1 i).hi
 let y97 (i : Nat) (a1 : Nat) := i < (EB (AZ q) (BG q).r a1).length
 let y98 (a1 : Nat) (i : Nat) : Reach := gD (EB (AZ q) (BG q).r a1) i
 let y99 (a1 : Nat) (i : Nat) := (y98 a1 i).fr
 let y100 (a1 : Nat) (i : Nat) := (y98 a1 i).to
 let y101 (a1 : Nat) (i : Nat) : Span := (y98 a1 i).sp
 let y102 (a1 : Nat) (i : Nat) := (y101 a1 i).lo
 let y103 (a1 : Nat) (i : Nat) := (y101 a1 i).hi
 let y104 (i : Nat) (a1 : Nat) := i < (FV (AZ q) a1).bs.length
 let y105 (a : Nat) := (↑a : Int) < (↑(AG q).r.length : Int)
 let y106 := (9 : Int) = Int.ofNat (9 : Nat)
 let y107 (a1 : Nat) : List Int := AC (FV (AZ q) a1).bs.length λ (i : Nat) => gD (FV (AZ q) a1).bs i
 let y108 (a1 : Nat) := (y107 a1).length
 let y109 (a1 : Nat) := y108 a1 = (FV (AZ q) a1).bs.length
 let y110 (a1 : Nat) := ∀ (i : Nat), i < y108 a1 -> gD (y107 a1) i = gD (FV (AZ q) a1).bs i
 let y111 (a1 : Nat) := (FV (AZ q) a1).used = (FV (AZ q) a1).used
 let y112 (a1 : Nat) := (FV (AZ q) a1).mix = (FV (AZ q) a1).mix
 let y113 (a1 : Nat) := (0 : Int) <= (FV (AZ q) a1).used
 let y114 (a1 : Nat) : Stm := Stm.mk (y107 a1) (FV (AZ q) a1).used (FV (AZ q) a1).mix
 let y115 (a1 : Nat) : Stm := AM (y114 a1) (9 : Int)
 let y116 (a1 : Nat) : List Int := (y115 a1).bs
 let y117 (a1 : Nat) := (y116 a1).length
 let y118 (a1 : Nat) (i : Nat) := gD (y116 a1) i
 let y119 (a1 : Nat) : List Int := AC (y117 a1) λ (i : Nat) => y118 a1 i
 let y120 (a1 : Nat) := (y119 a1).length
 let y121 (a1 : Nat) := (y115 a1).used
 let y122 (a1 : Nat) := (y115 a1).mix
 let y123 (a : Nat) (a1 : Nat) := (↑a : Int) = (↑a1 : Int)
 let y124 (a1 : Nat) : Stm := Stm.mk (y119 a1) (y121 a1) (y122 a1)
 let y125 := (2 : Nat) = (2 : Nat)
 let y126 := Int.ofNat (2 : Nat) = Int.ofNat (2 : Nat)
 let y127 := (AG q).g.length = (AG q).g.length
 let y128 := ∀ (i : Nat), i < (AG q).g.length -> (gD (AG q).g i).lo = (gD (AG q).g i).lo /\ (gD (AG q).g i).hi = (gD (AG q).g i).hi
 let y129 := (AG q).r.length = (AG q).r.length
 let y130 := ∀ (i : Nat), i < (AG q).r.length -> (gD (AG q).r i).fr = (gD (AG q).r i).fr /\ (gD (AG q).r i).to = (gD (AG q).r i).to /\ (gD (AG q).r i).sp.lo = (gD (AG q).r i).sp.lo /\ (gD (AG q).r i).sp.hi = (gD (AG q).r i).sp.hi
 let y131 := (BG q).g.length = (BG q).g.length
 let y132 := ∀ (i : Nat), i < (BG q).g.length -> (gD (BG q).g i).lo = (gD (BG q).g i).lo /\ (gD (BG q).g i).hi = (gD (BG q).g i).hi
 let y133 := (BG q).r.length = (BG q).r.length
 let y134 := ∀ (i : Nat), i < (BG q).r.length -> (gD (BG q).r i).fr = (gD (BG q).r i).fr /\ (gD (BG q).r i).to = (gD (BG q).r i).to /\ (gD (BG q).r i).sp.lo = (gD (BG q).r i).sp.lo /\ (gD (BG q).r i).sp.hi = (gD (BG q).r i).sp.hi
 let y135 (a : Nat) := a + (0 : Nat)
 let y136 (a1 : Nat) : List Reach := EB (AZ q) (AG q).r (y135 a1)
 let y137 (a1 : Nat) := (y136 a1).length
 let y138 (a1 : Nat) (i : Nat) : Reach := gD (y136 a1) i
 let y139 (a1 : Nat) (i : Nat) := (y138 a1 i).fr
 let y140 (a1 : Nat) (i : Nat) := (y138 a1 i).to
 let y141 (a1 : Nat) (i : Nat) : Span := (y138 a1 i).sp
 let y142 (a1 : Nat) (i : Nat) := (y141 a1 i).lo
 let y143 (a1 : Nat) (i : Nat) := (y141 a1 i).hi
 let y144 (a1 : Nat) : List Reach := EB (AZ q) (BG q).r (y135 a1)
 let y145 (a1 : Nat) := (y144 a1).length
 let y146 (i : Nat) (a1 : Nat) := i < y145 a1
 let y147 (a1 : Nat) (i : Nat) : Reach := gD (y144 a1) i
 let y148 (a1 : Nat) (i : Nat) := (y147 a1 i).fr
 let y149 (a1 : Nat) (i : Nat) := (y147 a1 i).to
 let y150 (a1 : Nat) (i : Nat) : Span := (y147 a1 i).sp
 let y151 (a1 : Nat) (i : Nat) := (y150 a1 i).lo
 let y152 (a1 : Nat) (i : Nat) := (y150 a1 i).hi
 let y153 (a : Nat) := a + (1 : Nat)
 let y154 (a1 : Nat) : Stm := FV (AZ q) (y153 a1)
 let y155 (a1 : Nat) : List Int := (y154 a1).bs
 let y156 (a1 : Nat) := (y155 a1).length
 let y157 (a1 : Nat) : Stm := AM (y124 a1) (9 : Int)
 let y158 (a1 : Nat) : List Int := (y157 a1).bs
 let y159 (i : Nat) (a1 : Nat) := i < y156 a1
 let y160 (a1 : Nat) (i : Nat) := gD (y155 a1) i
 let y161 (a1 : Nat) := (y154 a1).used
 let y162 (a1 : Nat) := (y154 a1).mix
 let y163 (a1 : Nat) := ((Ts q false).meas a1 :: ((Ts q false).tag ++ [])).getD (0 : Nat) (0 : Nat)
 let y164 (a : Nat) (a2 : Nat) := a < (AG q).r.length /\ (AG q).r.length - a = y163 a2
 let y165 (a : Nat) := (0 : Int) <= (↑a : Int)
 let y166 (a : Nat) := y165 a /\ y105 a
 let y167 (a : Nat) := (0 : Nat) + a
 let y168 (a : Nat) := y167 a < y137 a
 let y169 (a : Nat) := (y167 a).succ
 let y170 (a1 : Nat) (a2 : Nat) := RJ (AZ q) a1 = RJ (AZ q) a2
 let y171 (a1 : Nat) (a2 : Nat) := RH (AZ q) a1 = RH (AZ q) a2
 let y172 := ((2 : Int) ^ IntKind.i64.bits).natAbs
 let y173 (a1 : Nat) : List Reach := EB (AZ q) (AG q).r (y153 a1)
 let y174 (a1 : Nat) := (y173 a1).length
 let y175 (i : Nat) (a1 : Nat) := i < y174 a1
 let y176 (a1 : Nat) (i : Nat) : Reach := gD (y173 a1) i
 let y177 (a1 : Nat) (i : Nat) := (y176 a1 i).fr
 let y178 (i : Nat) (a : Nat) := decide (i = y167 a)
 let y179 (a1 : Nat) : Reach := gD (y136 a1) (y167 a1)
 let y180 (a1 : Nat) (i : Nat) := (y176 a1 i).to
 let y181 (a1 : Nat) (i : Nat) : Span := (y176 a1 i).sp
 let y182 (a1 : Nat) (i : Nat) := (y181 a1 i).lo
 let y183 (a1 : Nat) : Span := (y179 a1).sp
 let y184 (a1 : Nat) (i : Nat) := (y181 a1 i).hi
 let y185 (a1 : Nat) (a2 : Nat) := y156 a1 = y156 a2 /\ (∀ (i : Nat), y159 i a1 -> y160 a1 i = y160 a2 i) /\ y161 a1 = y161 a2 /\ y162 a1 = y162 a2
 let y186 (a1 : Nat) (a2 : Nat) := (Hg q (y163 a1) (209 : Nat) (1 : Nat) (1 : Nat) (0 : Nat) [((209 : Nat), (99999 : Nat))] [((209 : Nat), (208 : Nat))]).meas a2
 let y187 (a : Nat) := y167 a < y145 a
 let y188 (a1 : Nat) : List Reach := EB (AZ q) (BG q).r (y153 a1)
 let y189 (a1 : Nat) := (y188 a1).length
 let y190 (a1 : Nat) (i : Nat) : Reach := gD (y188 a1) i
 let y191 (a1 : Nat) (i : Nat) := (y190 a1 i).fr
 let y192 (a1 : Nat) : Reach := gD (y144 a1) (y167 a1)
 let y193 (a1 : Nat) (i : Nat) := (y190 a1 i).to
 let y194 (a1 : Nat) (i : Nat) : Span := (y190 a1 i).sp
 let y195 (a1 : Nat) (i : Nat) := (y194 a1 i).lo
 let y196 (a1 : Nat) : Span := (y192 a1).sp
 let y197 (a1 : Nat) (i : Nat) := (y194 a1 i).hi
 let y198 (a : Nat) (a1 : Nat) := (↑a : Int) = IntKind.i64.wrap ((↑a1 : Int) + (1 : Int))
 let y199 := (5 : Int) = Int.ofNat (5 : Nat)
 let y200 (a1 : Nat) : Stm := AM (y114 a1) (↑(AG q).g.length : Int)
 let y201 (a1 : Nat) : List Int := (y200 a1).bs
 let y202 (a1 : Nat) := (y201 a1).length
 let y203 (a1 : Nat) (i : Nat) := gD (y201 a1) i
 let y204 (a1 : Nat) : List Int := AC (y202 a1) λ (i : Nat) => y203 a1 i
 let y205 (a1 : Nat) := (y204 a1).length
 let y206 (a1 : Nat) := (y200 a1).used
 let y207 (a1 : Nat) := (y200 a1).mix
 let y208 (a1 : Nat) : Stm := Stm.mk (y204 a1) (y206 a1) (y207 a1)
 let y209 (a1 : Nat) : Stm := AM (y208 a1) (5 : Int)
 let y210 (a1 : Nat) : List Int := (y209 a1).bs
 let y211 (a1 : Nat) := (y210 a1).length
 let y212 (a1 : Nat) (i : Nat) := gD (y210 a1) i
 let y213 (a1 : Nat) : List Int := AC (y211 a1) λ (i : Nat) => y212 a1 i
 let y214 (a1 : Nat) := (y213 a1).length
 let y215 (a1 : Nat) := (y209 a1).used
 let y216 (a1 : Nat) := (y209 a1).mix
 let y217 := (4 : Nat) = (4 : Nat)
 let y218 := (0 : Nat) < (AG q).r.length -> y217
 let y219 := (0 : Nat) < (1 : Nat)
 let y220 := (AG q).r.length + (1 : Nat)
 let y221 := ((1 : Nat) <= (1 : Nat) /\ (y219 -> y217)) /\ (false = true -> y219) /\ y220 <= (9223372036854775807 : Nat) /\ y220 * (32 : Nat) <= (140737488355328 : Nat)
 let y222 := (BT q).r.length = (AG q).r.length
 let y223 := (0 : Nat) + (AG q).r.length
 let y224 (a1 : Nat) := y223 <= (EB (AZ q) (AG q).r a1).length
 let y225 (a1 : Nat) (j : Nat) : Reach := gD (EB (AZ q) (AG q).r a1) (y167 j)
 let y226 (a1 : Nat) (j : Nat) : Span := (y225 a1 j).sp
 let y227 (a1 : Nat) := ∀ (j : Nat), j < (BT q).r.length -> (gD (BT q).r j).fr = (y225 a1 j).fr /\ (gD (BT q).r j).to = (y225 a1 j).to /\ (gD (BT q).r j).sp.lo = (y226 a1 j).lo /\ (gD (BT q).r j).sp.hi = (y226 a1 j).hi
 let y228 := (0 : Nat) + y220 <= y220
 let y229 (j : Nat) := decide (y167 j < (AG q).r.length)
 let y230 (j : Nat) : Reach := gD (AG q).r (y167 j)
 let y231 (j : Nat) := (y230 j).fr
 let y232 (a1 : Nat) := AS (y114 a1) (↑(AG q).g.length : Int)
 let y233 (j : Nat) := (y230 j).to
 let y234 (a1 : Nat) := (IntKind.i64.wrap (y232 a1 + (1 : Int))).tmod (↑(AG q).g.length : Int)
 let y235 (j : Nat) : Span := (y230 j).sp
 let y236 (j : Nat) := (y235 j).lo
 let y237 (a1 : Nat) := IntKind.i64.wrap ((0 : Int) - AS (y208 a1) (5 : Int))
 let y238 (j : Nat) := (y235 j).hi
 let y239 (a1 : Nat) := AS (Stm.mk (y213 a1) (y215 a1) (y216 a1)) (5 : Int)
 let y240 (j : Nat) : Reach := gD (BG q).r (y167 j)
 let y241 (j : Nat) := (y240 j).fr
 let y242 (j : Nat) := (y240 j).to
 let y243 (j : Nat) : Span := (y240 j).sp
 let y244 (j : Nat) := (y243 j).lo
 let y245 (j : Nat) := (y243 j).hi
 let y246 (a1 : Nat) (j : Nat) : Reach := gD (EB (AZ q) (BG q).r a1) (y167 j)
 let y247 (a1 : Nat) (j : Nat) : Span := (y246 a1 j).sp
 let y248 (a1 : Nat) := y127 /\ y128 /\ (EC q).r.length = (AG q).r.length /\ y223 <= (EB (AZ q) (BG q).r a1).length /\ ∀ (j : Nat), j < (EC q).r.length -> (gD (EC q).r j).fr = (y246 a1 j).fr /\ (gD (EC q).r j).to = (y246 a1 j).to /\ (gD (EC q).r j).sp.lo = (y247 a1 j).lo /\ (gD (EC q).r j).sp.hi = (y247 a1 j).hi
 let y249 : List Span := AC (AG q).g.length λ (i : Nat) => gD (AG q).g i
 let y250 := y249.length
 let y251 (i : Nat) : Span := gD y249 i
 let y252 : List Reach := AC (AG q).r.length λ (i : Nat) => gD (AG q).r i
 let y253 := y252.length
 let y254 (i : Nat) : Reach := gD y252 i
 let y255 (i : Nat) : Span := (y254 i).sp
 let y256 : NetL := NetL.mk y249 y252
 let y257 : List Span := AO y256
 let y258 (i : Nat) : Span := gD y257 i
 let y259 : List Span := AN y256
 let y260 (i : Nat) : Span := gD y259 i
 let y261 := (DK q).r.length = (DK q).r.length
 let y262 := ∀ (i : Nat), i < (DK q).r.length -> (gD (DK q).r i).fr = (gD (DK q).r i).fr /\ (gD (DK q).r i).to = (gD (DK q).r i).to /\ (gD (DK q).r i).sp.lo = (gD (DK q).r i).sp.lo /\ (gD (DK q).r i).sp.hi = (gD (DK q).r i).sp.hi
 let y263 := (EC q).r.length = (EC q).r.length /\ ∀ (i : Nat), i < (EC q).r.length -> (gD (EC q).r i).fr = (gD (EC q).r i).fr /\ (gD (EC q).r i).to = (gD (EC q).r i).to /\ (gD (EC q).r i).sp.lo = (gD (EC q).r i).sp.lo /\ (gD (EC q).r i).sp.hi = (gD (EC q).r i).sp.hi
 let y264 : List Span := AC (BT q).g.length λ (i : Nat) => gD (BT q).g i
 let y265 := y264.length
 let y266 (i : Nat) : Span := gD y264 i
 let y267 : List Reach := AC (BT q).r.length λ (i : Nat) => gD (BT q).r i
 let y268 := y267.length
 let y269 (i : Nat) : Reach := gD y267 i
 let y270 (i : Nat) : Span := (y269 i).sp
 let y271 : List Span := AC (BF q).g.length λ (i : Nat) => gD (BF q).g i
 let y272 := y271.length
 let y273 (i : Nat) : Span := gD y271 i
 let y274 : List Reach := AC (BF q).r.length λ (i : Nat) => gD (BF q).r i
 let y275 := y274.length
 let y276 (i : Nat) : Reach := gD y274 i
 let y277 (i : Nat) : Span := (y276 i).sp
 let y278 : NetL := NetL.mk y264 y267
 let y279 : NetL := NetL.mk y271 y274
 let y280 : List Span := AO y278
 let y281 := y280.length
 let y282 : List Span := AN y278
 let y283 := y282.length
 let y284 : List Span := AO y279
 let y285 := y284.length
 let y286 : List Span := AN y279
 let y287 := y286.length
 let y288 := (AO (AG q)).length = (AO (AG q)).length
 let y289 := ∀ (i : Nat), i < (AO (AG q)).length -> (gD (AO (AG q)) i).lo = (gD (AO (AG q)) i).lo /\ (gD (AO (AG q)) i).hi = (gD (AO (AG q)) i).hi
 let y290 := (AN (AG q)).length = (AN (AG q)).length
 let y291 := ∀ (i : Nat), i < (AN (AG q)).length -> (gD (AN (AG q)) i).lo = (gD (AN (AG q)) i).lo /\ (gD (AN (AG q)) i).hi = (gD (AN (AG q)) i).hi
 let y292 (i : Nat) : Span := gD y280 i
 let y293 (i : Nat) : Span := gD y282 i
 let y294 (i : Nat) : Span := gD y284 i
 let y295 (i : Nat) : Span := gD y286 i
 let y296 := y131 /\ y132 /\ y133 /\ y134 /\ (DK q).g.length = (DK q).g.length /\ (∀ (i : Nat), i < (DK q).g.length -> (gD (DK q).g i).lo = (gD (DK q).g i).lo /\ (gD (DK q).g i).hi = (gD (DK q).g i).hi) /\ y261 /\ y262 /\ (EC q).g.length = (EC q).g.length /\ (∀ (i : Nat), i < (EC q).g.length -> (gD (EC q).g i).lo = (gD (EC q).g i).lo /\ (gD (EC q).g i).hi = (gD (EC q).g i).hi) /\ y263
 let y297 (a : Nat) := y82 a /\ y296
 let y298 (a : Nat) := (↑a : Int) < (↑(AO (AG q)).length : Int)
 let y299 (a : Nat) := y165 a /\ (↑a : Int) < (↑(AO (BT q)).length : Int)
 let y300 (a : Nat) := y165 a /\ y298 a
 let y301 (a1 : Nat) := decide ((gD (AO (BT q)) a1).lo > (gD (AO (AG q)) a1).lo)
 let y302 (a1 : Nat) := (!y301 a1) = true
 let y303 (a1 : Nat) := bif y301 a1 then true else decide ((gD (AO (BT q)) a1).hi < (gD (AO (AG q)) a1).hi)
 let y304 (a1 : Nat) := (!y303 a1) = true
 let y305 (a : Nat) := y165 a /\ (↑a : Int) < (↑(AO (BF q)).length : Int)
 let y306 (a1 : Nat) := bif y303 a1 then true else decide ((gD (AO (BF q)) a1).lo > (gD (AO (AG q)) a1).lo)
 let y307 (a1 : Nat) := (!y306 a1) = true
 let y308 := (AN (BT q)).length = (AN (BT q)).length
 let y309 := ∀ (i : Nat), i < (AN (BT q)).length -> (gD (AN (BT q)) i).lo = (gD (AN (BT q)) i).lo /\ (gD (AN (BT q)) i).hi = (gD (AN (BT q)) i).hi
 let y310 := (AN (BF q)).length = (AN (BF q)).length
 let y311 := ∀ (i : Nat), i < (AN (BF q)).length -> (gD (AN (BF q)) i).lo = (gD (AN (BF q)) i).lo /\ (gD (AN (BF q)) i).hi = (gD (AN (BF q)) i).hi
 let y312 (a1 : Nat) (a2 : Nat) := y310 /\ y311 /\ y198 a1 a2 /\ y296
 let y313 (a : Nat) := (↑a : Int) < (↑(AN (AG q)).length : Int)
 let y314 (a : Nat) := y165 a /\ (↑a : Int) < (↑(AN (BT q)).length : Int)
 let y315 (a : Nat) := y165 a /\ y313 a
 let y316 (a1 : Nat) := decide ((gD (AN (BT q)) a1).lo > (gD (AN (AG q)) a1).lo)
 let y317 (a1 : Nat) := (!y316 a1) = true
 let y318 (a1 : Nat) := bif y316 a1 then true else decide ((gD (AN (BT q)) a1).hi < (gD (AN (AG q)) a1).hi)
 let y319 (a1 : Nat) := (!y318 a1) = true
 let y320 (a : Nat) := y165 a /\ (↑a : Int) < (↑(AN (BF q)).length : Int)
 let y321 (a1 : Nat) := bif y318 a1 then true else decide ((gD (AN (BF q)) a1).lo > (gD (AN (AG q)) a1).lo)
 let y322 (a1 : Nat) := (!y321 a1) = true
 let y323 : List Span := AC (BG q).g.length λ (i : Nat) => gD (BG q).g i
 let y324 := y323.length
 let y325 := y324 = (BG q).g.length
 let y326 (i : Nat) : Span := gD y323 i
 let y327 := ∀ (i : Nat), i < y324 -> (y326 i).lo = (gD (BG q).g i).lo /\ (y326 i).hi = (gD (BG q).g i).hi
 let y328 : List Reach := AC (BG q).r.length λ (i : Nat) => gD (BG q).r i
 let y329 := y328.length
 let y330 (i : Nat) : Reach := gD y328 i
 let y331 (i : Nat) : Span := (y330 i).sp
 let y332 : List Span := AC (EC q).g.length λ (i : Nat) => gD (EC q).g i
 let y333 := y332.length
 let y334 (i : Nat) : Span := gD y332 i
 let y335 : List Reach := AC (EC q).r.length λ (i : Nat) => gD (EC q).r i
 let y336 := y335.length
 let y337 (i : Nat) : Reach := gD y335 i
 let y338 (i : Nat) : Span := (y337 i).sp
 let y339 : List Span := AC (DK q).g.length λ (i : Nat) => gD (DK q).g i
 let y340 := y339.length
 let y341 (i : Nat) : Span := gD y339 i
 let y342 : List Reach := AC (DK q).r.length λ (i : Nat) => gD (DK q).r i
 let y343 := y342.length
 let y344 (i : Nat) : Reach := gD y342 i
 let y345 (i : Nat) : Span := (y344 i).sp
 let y346 : NetL := NetL.mk y323 y328
 let y347 : NetL := NetL.mk y332 y335
 let y348 : NetL := NetL.mk y339 y342
 let y349 := FL y346
 let y350 : NetL := NetL.mk y323 (AC (0 : Nat) λ (i : Nat) => ET default)
 let y351 := y85 /\ ∀ (i : Nat), i < (0 : Nat) -> false = false
 let y352 (a : Nat) := (↑a : Int) < (↑(AG q).g.length : Int)
 let y353 (a : Nat) := y165 a /\ y352 a
 let y354 := ∀ (a_1 : One), True -> ((y250 = (AG q).g.length /\ (∀ (i : Nat), i < y250 -> (y251 i).lo = (gD (AG q).g i).lo /\ (y251 i).hi = (gD (AG q).g i).hi) /\ y253 = (AG q).r.length /\ ∀ (i : Nat), i < y253 -> (y254 i).fr = (gD (AG q).r i).fr /\ (y254 i).to = (gD (AG q).r i).to /\ (y255 i).lo = (gD (AG q).r i).sp.lo /\ (y255 i).hi = (gD (AG q).r i).sp.hi) /\ ∃ (a_3 : One), ((AO (AG q)).length = y257.length /\ (∀ (i : Nat), i < (AO (AG q)).length -> (gD (AO (AG q)) i).lo = (y258 i).lo /\ (gD (AO (AG q)) i).hi = (y258 i).hi) /\ (AN (AG q)).length = y259.length /\ (∀ (i : Nat), i < (AN (AG q)).length -> (gD (AN (AG q)) i).lo = (y260 i).lo /\ (gD (AN (AG q)) i).hi = (y260 i).hi) /\ FC (AG q) = FC y256 /\ y131 /\ y132 /\ y133 /\ y134 /\ (BT q).g.length = (AG q).g.length /\ (∀ (i : Nat), i < (BT q).g.length -> (gD (BT q).g i).lo = (gD (AG q).g i).lo /\ (gD (BT q).g i).hi = (gD (AG q).g i).hi) /\ (BT q).r.length = (BT q).r.length /\ (∀ (i : Nat), i < (BT q).r.length -> (gD (BT q).r i).fr = (gD (BT q).r i).fr /\ (gD (BT q).r i).to = (gD (BT q).r i).to /\ (gD (BT q).r i).sp.lo = (gD (BT q).r i).sp.lo /\ (gD (BT q).r i).sp.hi = (gD (BT q).r i).sp.hi) /\ (BF q).g.length = (AG q).g.length /\ (∀ (i : Nat), i < (BF q).g.length -> (gD (BF q).g i).lo = (gD (AG q).g i).lo /\ (gD (BF q).g i).hi = (gD (AG q).g i).hi) /\ (BF q).r.length = (BF q).r.length /\ (∀ (i : Nat), i < (BF q).r.length -> (gD (BF q).r i).fr = (gD (BF q).r i).fr /\ (gD (BF q).r i).to = (gD (BF q).r i).to /\ (gD (BF q).r i).sp.lo = (gD (BF q).r i).sp.lo /\ (gD (BF q).r i).sp.hi = (gD (BF q).r i).sp.hi) /\ (DK q).g.length = (AG q).g.length /\ (∀ (i : Nat), i < (DK q).g.length -> (gD (DK q).g i).lo = (gD (AG q).g i).lo /\ (gD (DK q).g i).hi = (gD (AG q).g i).hi) /\ y261 /\ y262 /\ (EC q).g.length = (AG q).g.length /\ (∀ (i : Nat), i < (EC q).g.length -> (gD (EC q).g i).lo = (gD (AG q).g i).lo /\ (gD (EC q).g i).hi = (gD (AG q).g i).hi) /\ y263) /\ True) /\ ∀ (a_3 : One), True -> (y265 = (BT q).g.length /\ (∀ (i : Nat), i < y265 -> (y266 i).lo = (gD (BT q).g i).lo /\ (y266 i).hi = (gD (BT q).g i).hi) /\ y268 = (BT q).r.length /\ ∀ (i : Nat), i < y268 -> (y269 i).fr = (gD (BT q).r i).fr /\ (y269 i).to = (gD (BT q).r i).to /\ (y270 i).lo = (gD (BT q).r i).sp.lo /\ (y270 i).hi = (gD (BT q).r i).sp.hi) /\ (y272 = (BF q).g.length /\ (∀ (i : Nat), i < y272 -> (y273 i).lo = (gD (BF q).g i).lo /\ (y273 i).hi = (gD (BF q).g i).hi) /\ y275 = (BF q).r.length /\ ∀ (i : Nat), i < y275 -> (y276 i).fr = (gD (BF q).r i).fr /\ (y276 i).to = (gD (BF q).r i).to /\ (y277 i).lo = (gD (BF q).r i).sp.lo /\ (y277 i).hi = (gD (BF q).r i).sp.hi) /\ bif bif bif bif bif bif bif FC (AG q) != (0 : Int) then true else FC y278 != (0 : Int) then true else FC y279 != (0 : Int) then true else (↑y281 : Int) != (↑(AO (AG q)).length : Int) then true else (↑y283 : Int) != (↑(AN (AG q)).length : Int) then true else decide ((↑y285 : Int) < (↑(AO (AG q)).length : Int)) then true else (↑y287 : Int) != (↑(AN (AG q)).length : Int) then true = false else (∃ (a_5 : Nat), (y288 /\ y289 /\ y290 /\ y291 /\ (AO (BT q)).length = y281 /\ (∀ (i : Nat), i < (AO (BT q)).length -> (gD (AO (BT q)) i).lo = (y292 i).lo /\ (gD (AO (BT q)) i).hi = (y292 i).hi) /\ (AN (BT q)).length = y283 /\ (∀ (i : Nat), i < (AN (BT q)).length -> (gD (AN (BT q)) i).lo = (y293 i).lo /\ (gD (AN (BT q)) i).hi = (y293 i).hi) /\ (AO (BF q)).length = y285 /\ (∀ (i : Nat), i < (AO (BF q)).length -> (gD (AO (BF q)) i).lo = (y294 i).lo /\ (gD (AO (BF q)) i).hi = (y294 i).hi) /\ (AN (BF q)).length = y287 /\ (∀ (i : Nat), i < (AN (BF q)).length -> (gD (AN (BF q)) i).lo = (y295 i).lo /\ (gD (AN (BF q)) i).hi = (y295 i).hi) /\ y297 a_5) /\ a_5.le (AO (AG q)).length) /\ ∀ (a_5 : Nat), a_5.le (AO (AG q)).length -> bif decide (y298 a_5) then (y299 a_5 /\ y300 a_5 /\ (y302 a_5 -> y299 a_5) /\ (y302 a_5 -> y300 a_5) /\ (y304 a_5 -> y305 a_5) /\ (y304 a_5 -> y300 a_5) /\ (y307 a_5 -> y305 a_5) /\ (y307 a_5 -> y300 a_5)) /\ bif bif y306 a_5 then true else decide ((gD (AO (BF q)) a_5).hi < (gD (AO (AG q)) a_5).hi) then true = false else ∃ (a_7 : Nat), (y288 /\ y289 /\ y290 /\ y291 /\ (AO (BT q)).length = (AO (BT q)).length /\ (∀ (i : Nat), i < (AO (BT q)).length -> (gD (AO (BT q)) i).lo = (gD (AO (BT q)) i).lo /\ (gD (AO (BT q)) i).hi = (gD (AO (BT q)) i).hi) /\ y308 /\ y309 /\ (AO (BF q)).length = (AO (BF q)).length /\ (∀ (i : Nat), i < (AO (BF q)).length -> (gD (AO (BF q)) i).lo = (gD (AO (BF q)) i).lo /\ (gD (AO (BF q)) i).hi = (gD (AO (BF q)) i).hi) /\ y312 a_7 a_5) /\ a_7.le (AO (AG q)).length /\ (Jl q).meas a_7 < (Jl q).meas a_5 else (∃ (a_7 : Nat), (y290 /\ y291 /\ y308 /\ y309 /\ y310 /\ y311 /\ y297 a_7) /\ a_7.le (AN (AG q)).length) /\ ∀ (a_7 : Nat), a_7.le (AN (AG q)).length -> bif decide (y313 a_7) then (y314 a_7 /\ y315 a_7 /\ (y317 a_7 -> y314 a_7) /\ (y317 a_7 -> y315 a_7) /\ (y319 a_7 -> y320 a_7) /\ (y319 a_7 -> y315 a_7) /\ (y322 a_7 -> y320 a_7) /\ (y322 a_7 -> y315 a_7)) /\ bif bif y321 a_7 then true else decide ((gD (AN (BF q)) a_7).hi < (gD (AN (AG q)) a_7).hi) then true = false else ∃ (a_9 : Nat), (y290 /\ y291 /\ y308 /\ y309 /\ y312 a_9 a_7) /\ a_9.le (AN (AG q)).length /\ (Ik q).meas a_9 < (Ik q).meas a_7 else (y325 /\ y327 /\ y329 = (BG q).r.length /\ ∀ (i : Nat), i < y329 -> (y330 i).fr = (gD (BG q).r i).fr /\ (y330 i).to = (gD (BG q).r i).to /\ (y331 i).lo = (gD (BG q).r i).sp.lo /\ (y331 i).hi = (gD (BG q).r i).sp.hi) /\ (y333 = (EC q).g.length /\ (∀ (i : Nat), i < y333 -> (y334 i).lo = (gD (EC q).g i).lo /\ (y334 i).hi = (gD (EC q).g i).hi) /\ y336 = (EC q).r.length /\ ∀ (i : Nat), i < y336 -> (y337 i).fr = (gD (EC q).r i).fr /\ (y337 i).to = (gD (EC q).r i).to /\ (y338 i).lo = (gD (EC q).r i).sp.lo /\ (y338 i).hi = (gD (EC q).r i).sp.hi) /\ (y340 = (DK q).g.length /\ (∀ (i : Nat), i < y340 -> (y341 i).lo = (gD (DK q).g i).lo /\ (y341 i).hi = (gD (DK q).g i).hi) /\ y343 = (DK q).r.length /\ ∀ (i : Nat), i < y343 -> (y344 i).fr = (gD (DK q).r i).fr /\ (y344 i).to = (gD (DK q).r i).to /\ (y345 i).lo = (gD (DK q).r i).sp.lo /\ (y345 i).hi = (gD (DK q).r i).sp.hi) /\ bif bif bif bif bif AD y346 != (0 : Int) then true else AD y347 != (0 : Int) then true else AD y348 != (0 : Int) then true else decide (FL y347 > y349) then true else decide (FL y348 > y349) then true = false else (y325 /\ y327 /\ y85 /\ y85) /\ (∃ (a_9 : Nat), (AD (IB (BG q)) = AD y350 /\ FL (IB (BG q)) = FL y350 /\ LU (AG q) a_9 = (0 : Int) /\ y82 a_9 /\ (AG q).g.length = (BG q).g.length /\ (∀ (i : Nat), i < (AG q).g.length -> (gD (AG q).g i).lo = (gD (BG q).g i).lo /\ (gD (AG q).g i).hi = (gD (BG q).g i).hi) /\ y351) /\ a_9.le (AG q).g.length) /\ ∀ (a_9 : Nat), a_9.le (AG q).g.length -> bif decide (y352 a_9) then (y353 a_9 /\ y353 a_9) /\ ∃ (a_11 : Nat), (AD (IB (BG q)) = AD (IB (BG q)) /\ FL (IB (BG q)) = FL (IB (BG q)) /\ LU (AG q) a_11 = IntKind.i64.wrap (LU (AG q) a_9 + As (As (0 : Int) (gD (AG q).g a_9).lo) (IntKind.i64.wrap ((0 : Int) - (gD (AG q).g a_9).hi))) /\ y198 a_11 a_9 /\ y127 /\ y128 /\ y351) /\ a_11.le (AG q).g.length /\ (Is q).meas a_11 < (Is q).meas a_9 else true = bif bif AD (IB (BG q)) == (0 : Int) then FL (IB (BG q)) == LU (AG q) a_9 else false then true else false
 ((y1 = a.a.length /\ (∀ (i : Nat), i < y1 -> y2 i = gD a.a i) /\ (6 : Int) = Int.ofNat (6 : Nat) /\ y4 = y1 /\ (∀ (i : Nat), i < y4 -> gD y3 i = y2 i) /\ y5 /\
 y5 /\ StmB (1000000000 : Int) y6 /\ (1 : Int) <= (6 : Int) /\ (6 : Int) <= (8 : Int)) /\ (y8 = a.b.length /\ (∀ (i : Nat), i < y8 -> y9 i = gD a.b i) /\ y16 /\ y22 /\ y28 /\ y40 /\ y42 = y8
 /\ (∀ (i : Nat), i < y42 -> gD y41 i = y9 i) /\ y5 /\ y5 /\ StmB (1000000000 : Int) y43 /\ y15 <= (1000 : Nat) /\ y27.le (1000 : Nat)) /\ (y45 = a.c.length /\ ∀ (i : Nat), i < y45 -> y46 i = gD a.c i) /\ (y16 /\ y22 /\ y28 /\ y40 /\ y47 /\ y48 /\ y16 /\ y22 /\ y28 /\ y40 /\ y47 /\ y48 /\ y55 /\ y61 /\ y67 /\ y79 /\ y80 /\ y81 /\ y55 /\ y61 /\
 y67 /\ y79 /\ y80 /\ y81) /\ (∃ (a_1 : Nat), (y82 a_1 /\ (AG a).g.length = y12 /\ (∀ (i : Nat), i < (AG a).g.length -> (gD (AG a).g i).lo = y19 i /\ (gD (AG a).g i).hi = y21 i) /\ (AG
 a).r.length = y24 /\ (∀ (i : Nat), i < (AG a).r.length -> (gD (AG a).r i).fr = y31 i /\ (gD (AG a).r i).to = y33 i /\ (gD (AG a).r i).sp.lo = y37 i /\ (gD (AG a).r i).sp.hi = y39 i) /\ (BG a).g.length
 = y51 /\ (∀ (i : Nat), i < (BG a).g.length -> (gD (BG a).g i).lo = y58 i /\ (gD (BG a).g i).hi = y60 i) /\ (BG a).r.length = y63 /\ (∀ (i : Nat), i < (BG a).r.length -> (gD (BG a).r i).fr = y70 i /\
 (gD (BG a).r i).to = y72 i /\ (gD (BG a).r i).sp.lo = y76 i /\ (gD (BG a).r i).sp.hi = y78 i) /\ y83 /\ y84 /\ y85 /\ y86 /\ y83 /\ y84 /\ y85 /\ y86 /\ y87 /\ y88 /\ y85 /\ y89
 /\ y87 /\ y88 /\ y85 /\ y89 /\ (EB (AZ a) (AG a).r a_1).length = y27 /\ (∀ (i : Nat), y90 i a_1 -> y92 a_1 i = y30 i /\ y93 a_1 i = y32 i /\ y95 a_1 i = y35 i /\ y96 a_1 i =
 y38 i) /\ y86 /\ (∀ (i : Nat), i < (AG a).r.length -> (gD (AG a).r i).fr = y30 i /\ (gD (AG a).r i).to = y32 i /\ (gD (AG a).r i).sp.lo = y35 i /\ (gD (AG a).r i).sp.hi = y38 i) /\ (BG a).r.length
 = y66 /\ (∀ (i : Nat), i < (BG a).r.length -> (gD (BG a).r i).fr = y69 i /\ (gD (BG a).r i).to = y71 i /\ (gD (BG a).r i).sp.lo = y74 i /\ (gD (BG a).r i).sp.hi = y77 i) /\ (EB (AZ a) (BG a).r
 a_1).length = y66 /\ (∀ (i : Nat), y97 i a_1 -> y99 a_1 i = y69 i /\ y100 a_1 i = y71 i /\ y102 a_1 i = y74 i /\ y103 a_1 i = y77 i) /\ (FV (AZ a) a_1).bs.length = y45 /\ (∀ (i :
 Nat), y104 i a_1 -> gD (FV (AZ a) a_1).bs i = y46 i) /\ (FV (AZ a) a_1).used = (0 : Int) /\ (FV (AZ a) a_1).mix = (0 : Int)) /\ a_1.le (AG a).r.length) /\ ∀ (a_1 : Nat), a_1.le (AG a).r.length -> bif
 decide (y105 a_1) then (y106 /\ y109 a_1 /\ y110 a_1 /\ y111 a_1 /\ y112 a_1 /\ y113 a_1 /\ y106 /\ y120 a_1 = y117 a_1 /\ (∀ (i : Nat), i < y120 a_1 -> gD (y119 a_1) i = y118 a_1 i) /\ y121 a_1 = y121 a_1 /\ y122 a_1 = y122 a_1 /\ (y121 a_1 - (0 : Int)).NonNeg) /\ (∃ (a_3 : Nat), (y123 a_3 a_1 /\ RJ (AZ a) a_3 = AS (y114 a_1) (9 : Int) /\ RH (AZ a) a_3 = AS
 (y124 a_1) (9 : Int) /\ y85 /\ y125 /\ y126 /\ Int.ofNat (0 : Nat) = Int.ofNat (0 : Nat) /\ y127 /\ y128 /\ y129 /\ y130 /\ y131 /\ y132 /\ y133 /\ y134 /\ y127 /\ y128 /\ y85 /\
 y129 /\ y127 /\ y128 /\ y85 /\ y129 /\ y127 /\ y128 /\ y85 /\ y129 /\ y127 /\ y128 /\ y85 /\ y129 /\ y137 a_3 = (EB (AZ a) (AG a).r a_1).length /\ (∀ (i : Nat), i < y137 a_3 ->
 y139 a_3 i = y92 a_1 i /\ y140 a_3 i = y93 a_1 i /\ y142 a_3 i = y95 a_1 i /\ y143 a_3 i = y96 a_1 i) /\ y129 /\ y130 /\ y133 /\ y134 /\ y145 a_3 = (EB (AZ a) (BG a).r
 a_1).length /\ (∀ (i : Nat), y146 i a_3 -> y148 a_3 i = y99 a_1 i /\ y149 a_3 i = y100 a_1 i /\ y151 a_3 i = y102 a_1 i /\ y152 a_3 i = y103 a_1 i) /\ y156 a_3 = (y158 a_1).length /\
 (∀ (i : Nat), y159 i a_3 -> y160 a_3 i = gD (y158 a_1) i) /\ y161 a_3 = (y157 a_1).used /\ y162 a_3 = (y157 a_1).mix) /\ y164 a_3 a_1) /\ (∀ (a_3 : Nat), y164 a_3 a_1 -> ((0 : Int) <= (↑(0 :
 Nat) : Int) /\ (↑(0 : Nat) : Int) < (↑(2 : Nat) : Int)) /\ (y166 a_3 /\ y168 a_3 /\ y166 a_3 /\ y168 a_3 /\ y166 a_3 /\ (y169 a_3).le (y137 a_3)) /\ ∃ (a_5 : Nat), (y123 a_5 a_3 /\ y170 a_5 a_3 /\
 y171 a_5 a_3 /\ y85 /\ y125 /\ y126 /\ Int.ofNat (1 : Nat) = Int.ofNat (((0 : Nat) + (1 : Nat)) % y172) /\ y127 /\ y128 /\ y129 /\ y130 /\ y131 /\ y132 /\ y133 /\ y134 /\ y127 /\ y128 /\ y85 /\ y129 /\ y127 /\ y128 /\ y85 /\ y129 /\ y127 /\ y128 /\ y85 /\ y129 /\ y127 /\ y128 /\ y85 /\ y129 /\ y174 a_5 = y137 a_3 /\ (∀ (i : Nat), y175 i a_5 -> (y177 a_5 i = bif y178 i a_3 then (y179 a_3).fr else y139 a_3 i) /\ (y180 a_5 i = bif y178 i a_3 then (y179 a_3).to else y140 a_3 i) /\ (y182 a_5 i = bif y178 i a_3 then IntKind.i64.wrap ((y183 a_3).lo - RJ (AZ a) a_3) else y142 a_3 i) /\ y184 a_5 i = bif y178 i a_3 then IntKind.i64.wrap ((y183 a_3).hi + RH (AZ a) a_3) else y143 a_3 i) /\ y129 /\ y130 /\ y133 /\ y134 /\
 y145 a_5 = y145 a_3 /\ (∀ (i : Nat), y146 i a_5 -> y148 a_5 i = y148 a_3 i /\ y149 a_5 i = y149 a_3 i /\ y151 a_5 i = y151 a_3 i /\ y152 a_5 i = y152 a_3 i) /\ y185 a_5 a_3) /\
 y164 a_5 a_1 /\ y186 a_1 a_5 < (Hg a (y163 a_1) (208 : Nat) (0 : Nat) (0 : Nat) (0 : Nat) [((208 : Nat), (10000 : Nat))] [((208 : Nat), (99999 : Nat))]).meas a_3) /\ (∀ (a_3 : Nat), y164 a_3 a_1 -> ((0 :
 Int) <= (↑(1 : Nat) : Int) /\ (↑(1 : Nat) : Int) < (↑(2 : Nat) : Int)) /\ (y166 a_3 /\ y187 a_3 /\ y166 a_3 /\ y187 a_3 /\ y166 a_3 /\ (y169 a_3).le (y145 a_3)) /\ ∃ (a_5 : Nat), (y123 a_5 a_3 /\ y170 a_5 a_3 /\ y171 a_5 a_3 /\ y85 /\ y125 /\ y126 /\ Int.ofNat (2 : Nat) = Int.ofNat (((1 : Nat) + (1 : Nat)) % y172) /\ y127 /\ y128 /\ y129 /\ y130 /\ y131 /\ y132 /\ y133 /\ y134 /\ y127 /\ y128 /\ y85 /\ y129 /\ y127 /\ y128 /\ y85 /\ y129 /\ y127 /\ y128 /\ y85 /\ y129 /\ y127 /\ y128 /\ y85 /\ y129 /\ y174 a_5 = y174 a_3 /\ (∀ (i : Nat), y175 i a_5 ->
 y177 a_5 i = y177 a_3 i /\ y180 a_5 i = y180 a_3 i /\ y182 a_5 i = y182 a_3 i /\ y184 a_5 i = y184 a_3 i) /\ y129 /\ y130 /\ y133 /\ y134 /\ y189 a_5 = y145 a_3 /\ (∀ (i :
 Nat), i < y189 a_5 -> (y191 a_5 i = bif y178 i a_3 then (y192 a_3).fr else y148 a_3 i) /\ (y193 a_5 i = bif y178 i a_3 then (y192 a_3).to else y149 a_3 i) /\ (y195 a_5 i = bif y178 i a_3 then IntKind.i64.wrap ((y196 a_3).lo - RJ (AZ a) a_3) else y151 a_3 i) /\ y197 a_5 i = bif y178 i a_3 then IntKind.i64.wrap ((y196 a_3).hi + RH (AZ a) a_3) else y152 a_3 i) /\ y185 a_5 a_3) /\ y164 a_5 a_1 /\ (Hg a (y163 a_1) (210 : Nat) (2 : Nat) (1 : Nat) (1 : Nat) [((210 : Nat), (99999 : Nat))] [((210 : Nat), (209 : Nat))]).meas a_5 < y186 a_1 a_3) /\ ∀ (a_3 : Nat), y164 a_3 a_1 -> ∃
 (a_5 : Nat), (y198 a_5 a_3 /\ y127 /\ y128 /\ y129 /\ y130 /\ y131 /\ y132 /\ y133 /\ y134 /\ y127 /\ y128 /\ y85 /\ y129 /\ y127 /\ y128 /\ y85 /\ y129 /\ y127 /\ y128
 /\ y85 /\ y129 /\ y127 /\ y128 /\ y85 /\ y129 /\ (EB (AZ a) (AG a).r a_5).length = y174 a_3 /\ (∀ (i : Nat), y90 i a_5 -> y92 a_5 i = y177 a_3 i /\ y93 a_5 i = y180 a_3 i /\ y95 a_5 i = y182 a_3 i /\ y96 a_5 i = y184 a_3 i) /\ y129 /\ y130 /\ y133 /\ y134 /\ (EB (AZ a) (BG a).r a_5).length = y189 a_3 /\ (∀ (i : Nat), y97 i a_5 -> y99 a_5 i = y191 a_3 i /\
 y100 a_5 i = y193 a_3 i /\ y102 a_5 i = y195 a_3 i /\ y103 a_5 i = y197 a_3 i) /\ (FV (AZ a) a_5).bs.length = y156 a_3 /\ (∀ (i : Nat), y104 i a_5 -> gD (FV (AZ a) a_5).bs i = y160 a_3 i) /\ (FV (AZ a) a_5).used = y161 a_3 /\ (FV (AZ a) a_5).mix = y162 a_3) /\ a_5.le (AG a).r.length /\ (Ts a false).meas a_5 < (Ts a false).meas a_1 else (bif bif decide ((↑(AG a).g.length : Int) > (1
 : Int)) then decide ((↑(AG a).r.length : Int) < (14 : Int)) else false then ((↑(AG a).g.length : Int) = (↑(AG a).g.length : Int) /\ y109 a_1 /\ y110 a_1 /\ y111 a_1 /\ y112 a_1 /\ y113 a_1 /\ y199 /\
 y205 a_1 = y202 a_1 /\ (∀ (i : Nat), i < y205 a_1 -> gD (y204 a_1) i = y203 a_1 i) /\ y206 a_1 = y206 a_1 /\ y207 a_1 = y207 a_1 /\ (0 : Int) <= y206 a_1 /\ y199 /\ y214 a_1 = y211 a_1 /\ (∀ (i : Nat), i < y214 a_1 -> gD (y213 a_1) i = y212 a_1 i) /\ y215 a_1 = y215 a_1 /\ y216 a_1 = y216 a_1 /\ (y215 a_1 - (0 : Int)).NonNeg) /\ ((↑(AG a).g.length : Int) = (0 : Int) ->
 False) /\ (((y129 /\ y218) /\ y221) /\ ((AG a).r.length = (BG a).r.length /\ y218) /\ y221) /\ ∃ (a_3 : One), (y127 /\ y128 /\ y129 /\ y130 /\ y131 /\ y132 /\ y133 /\ y134 /\ y127 /\ y128 /\ y222 /\ y224 a_1 /\ y227 a_1 /\ y127 /\ y128 /\ (BF a).r.length = y220 /\ y228 /\ (∀ (j : Nat), j < (BF a).r.length -> ((gD (BF a).r j).fr = bif y229 j then y231 j else
 y232 a_1) /\ ((gD (BF a).r j).to = bif y229 j then y233 j else y234 a_1) /\ ((gD (BF a).r j).sp.lo = bif y229 j then y236 j else y237 a_1) /\ (gD (BF a).r j).sp.hi = bif y229 j then y238 j else y239 a_1) /\ y127 /\ y128 /\ (DK a).r.length = y220 /\ y228 /\ (∀ (j : Nat), j < (DK a).r.length -> ((gD (DK a).r j).fr = bif y229 j then y241 j else y232 a_1) /\ ((gD (DK a).r j).to
 = bif y229 j then y242 j else y234 a_1) /\ ((gD (DK a).r j).sp.lo = bif y229 j then y244 j else y237 a_1) /\ (gD (DK a).r j).sp.hi = bif y229 j then y245 j else y239 a_1) /\ y248 a_1) /\ True else ∃ (a_3 : One), (y127 /\ y128 /\ y129 /\ y130 /\ y131 /\ y132 /\ y133 /\ y134 /\ y127 /\ y128 /\ y222 /\ y224 a_1 /\ y227 a_1 /\ y127 /\ y128 /\ (BF
 a).r.length = (AG a).r.length /\ y223 <= (AG a).r.length /\ (∀ (j : Nat), j < (BF a).r.length -> (gD (BF a).r j).fr = y231 j /\ (gD (BF a).r j).to = y233 j /\ (gD (BF a).r j).sp.lo = y236 j /\ (gD (BF
 a).r j).sp.hi = y238 j) /\ y127 /\ y128 /\ (DK a).r.length = (AG a).r.length /\ y223 <= (BG a).r.length /\ (∀ (j : Nat), j < (DK a).r.length -> (gD (DK a).r j).fr = y241 j /\ (gD (DK a).r j).to = y242 j /\ (gD (DK a).r j).sp.lo = y244 j /\ (gD (DK a).r j).sp.hi = y245 j) /\ y248 a_1) /\ True) /\ y354 /\ y354)) := by kernel_rfl
def V5e (a : BBB) : Prop := BM Try.prog (A5 a true) Try.f5 (AJ Try.f5) (Uk a) (AE []) (.bool true) [] [] []
theorem Zv (a : BBB) : (V5e a) = (let q := a
 let y0 : List Int := AC q.a.length λ (i : Nat) => gD q.a i
 let y1 := y0.length
 let y2 (i : Nat) := gD y0 i
 let y3 : List Int := AC y1 λ (i : Nat) => y2 i
 let y4 := y3.length
 let y5 := (0 : Int) = (0 : Int)
 let y6 : Stm := Stm.mk y3 (0 : Int) (0 : Int)
 let y7 : NetL := EH (SN.mk y6 (6 : Int))
 let y8 : List Int := AC q.b.length λ (i : Nat) => gD q.b i
 let y9 := y8.length
 let y10 (i : Nat) := gD y8 i
 let y11 : List Span := y7.g
 let y12 := y11.length
 let y13 (i : Nat) : Span := gD y11 i
 let y14 : List Span := AC y12 λ (i : Nat) => y13 i
 let y15 := y14.length
 let y16 := y15 = y12
 let y17 (i : Nat) : Span := gD y14 i
 let y18 (i : Nat) := (y17 i).lo
 let y19 (i : Nat) := (y13 i).lo
 let y20 (i : Nat) := (y17 i).hi
 let y21 (i : Nat) := (y13 i).hi
 let y22 := ∀ (i : Nat), i < y15 -> y18 i = y19 i /\ y20 i = y21 i
 let y23 : List Reach := AC noR.length λ (i : Nat) => gD noR i
 let y24 := y23.length = (0 : Nat)
 let y25 (i : Nat) : Reach := gD y23 i
 let y26 (i : Nat) : Span := (y25 i).sp
 let y27 : List Int := AC y9 λ (i : Nat) => y10 i
 let y28 := y27.length
 let y29 : List Int := AC q.c.length λ (i : Nat) => gD q.c i
 let y30 := y29.length
 let y31 (i : Nat) := gD y29 i
 let y32 := (0 : Nat) = (0 : Nat)
 let y33 := ∀ (i : Nat), i < (0 : Nat) -> (gD noR i).fr = (gD noR i).fr /\ (gD noR i).to = (gD noR i).to /\ (gD noR i).sp.lo = (gD noR i).sp.lo /\ (gD noR i).sp.hi = (gD noR i).sp.hi
 let y34 := y15 <= (1000000 : Nat)
 let y35 : List Span := AC y15 λ (i : Nat) => y17 i
 let y36 := y35.length
 let y37 := y36 = y15
 let y38 (i : Nat) : Span := gD y35 i
 let y39 (i : Nat) := (y38 i).lo
 let y40 (i : Nat) := (y38 i).hi
 let y41 := ∀ (i : Nat), i < y36 -> y39 i = y18 i /\ y40 i = y20 i
 let y42 (a : Nat) := (↑a : Int) = (0 : Int)
 let y43 := (AG q).g.length = y15
 let y44 := ∀ (i : Nat), i < (AG q).g.length -> (gD (AG q).g i).lo = y18 i /\ (gD (AG q).g i).hi = y20 i
 let y45 := (AG q).g.length = y36
 let y46 := ∀ (i : Nat), i < (AG q).g.length -> (gD (AG q).g i).lo = y39 i /\ (gD (AG q).g i).hi = y40 i
 let y47 := (9 : Int) = Int.ofNat (9 : Nat)
 let y48 : List Int := AC (AZ q).bs.length λ (i : Nat) => gD (AZ q).bs i
 let y49 := y48.length
 let y50 := y49 = (AZ q).bs.length
 let y51 := ∀ (i : Nat), i < y49 -> gD y48 i = gD (AZ q).bs i
 let y52 := (0 : Int) <= (AZ q).used
 let y53 : Stm := Stm.mk y48 (AZ q).used (AZ q).mix
 let y54 : Stm := AM y53 (9 : Int)
 let y55 : List Int := y54.bs
 let y56 := y55.length
 let y57 (i : Nat) := gD y55 i
 let y58 : List Int := AC y56 λ (i : Nat) => y57 i
 let y59 := y58.length
 let y60 := y54.used
 let y61 := y54.mix
 let y62 := (5 : Int) = Int.ofNat (5 : Nat)
 let y63 : Stm := AM y53 (↑(AG q).g.length : Int)
 let y64 : List Int := y63.bs
 let y65 := y64.length
 let y66 (i : Nat) := gD y64 i
 let y67 : List Int := AC y65 λ (i : Nat) => y66 i
 let y68 := y67.length
 let y69 := y63.used
 let y70 := y63.mix
 let y71 : Stm := Stm.mk y67 y69 y70
 let y72 : Stm := AM y71 (5 : Int)
 let y73 : List Int := y72.bs
 let y74 := y73.length
 let y75 (i : Nat) := gD y73 i
 let y76 : List Int := AC y74 λ (i : Nat) => y75 i
 let y77 := y76.length
 let y78 := y72.used
 let y79 := y72.mix
 let y80 := (4 : Nat) = (4 : Nat)
 let y81 := (1 : Nat) <= (1 : Nat)
 let y82 := (0 : Nat) < (1 : Nat)
 let y83 := (True /\ ((0 : Nat) < (0 : Nat) -> y80)) /\ (y81 /\ (y82 -> y80)) /\ (true = true -> y82) /\ (1 : Nat) <= (9223372036854775807 : Nat) /\ (32 : Nat) <= (140737488355328 : Nat)
 let y84 := (AG q).g.length = (AG q).g.length
 let y85 := ∀ (i : Nat), i < (AG q).g.length -> (gD (AG q).g i).lo = (gD (AG q).g i).lo /\ (gD (AG q).g i).hi = (gD (AG q).g i).hi
 let y86 := (AG q).r.length = (AG q).r.length
 let y87 := ∀ (i : Nat), i < (AG q).r.length -> (gD (AG q).r i).fr = (gD (AG q).r i).fr /\ (gD (AG q).r i).to = (gD (AG q).r i).to /\ (gD (AG q).r i).sp.lo = (gD (AG q).r i).sp.lo /\ (gD (AG q).r i).sp.hi = (gD (AG q).r i).sp.hi
 let y88 := (BG q).g.length = (BG q).g.length
 let y89 := ∀ (i : Nat), i < (BG q).g.length -> (gD (BG q).g i).lo = (gD (BG q).g i).lo /\ (gD (BG q).g i).hi = (gD (BG q).g i).hi
 let y90 := (BG q).r.length = (BG q).r.length
 let y91 := ∀ (i : Nat), i < (BG q).r.length -> (gD (BG q).r i).fr = (gD (BG q).r i).fr /\ (gD (BG q).r i).to = (gD (BG q).r i).to /\ (gD (BG q).r i).sp.lo = (gD (BG q).r i).sp.lo /\ (gD (BG q).r i).sp.hi = (gD (BG q).r i).sp.hi
 let y92 := (BT q).r.length = (0 : Nat)
 let y93 := ∀ (i : Nat), i < (BT q).r.length -> (gD (BT q).r i).fr = (gD noR i).fr /\ (gD (BT q).r i).to = (gD noR i).to /\ (gD (BT q).r i).sp.lo = (gD noR i).sp.lo /\ (gD (BT q).r i).sp.hi = (gD noR i).sp.hi
 let y94 (j : Nat) := (0 : Nat) + j
 let y95 (j : Nat) := decide (y94 j < (0 : Nat))
 let y96 (j : Nat) : Reach := gD noR (y94 j)
 let y97 := AS y53 (↑(AG q).g.length : Int)
 let y98 (j : Nat) := bif y95 j then (y96 j).fr else y97
 let y99 (j : Nat) := bif y95 j then (y96 j).to else (IntKind.i64.wrap (y97 + (1 : Int))).tmod (↑(AG q).g.length : Int)
 let y100 (j : Nat) : Span := (y96 j).sp
 let y101 (j : Nat) := bif y95 j then (y100 j).lo else IntKind.i64.wrap ((0 : Int) - AS y71 (5 : Int))
 let y102 (j : Nat) := bif y95 j then (y100 j).hi else AS (Stm.mk y76 y78 y79) (5 : Int)
 let y103 := y84 /\ y85 /\ (EC q).r.length = (0 : Nat) /\ ∀ (i : Nat), i < (EC q).r.length -> (gD (EC q).r i).fr = (gD noR i).fr /\ (gD (EC q).r i).to = (gD noR i).to /\ (gD (EC q).r i).sp.lo = (gD noR i).sp.lo /\ (gD (EC q).r i).sp.hi = (gD noR i).sp.hi
 let y104 : List Span := AC (AG q).g.length λ (i : Nat) => gD (AG q).g i
 let y105 := y104.length
 let y106 (i : Nat) : Span := gD y104 i
 let y107 : List Reach := AC (AG q).r.length λ (i : Nat) => gD (AG q).r i
 let y108 := y107.length
 let y109 (i : Nat) : Reach := gD y107 i
 let y110 (i : Nat) : Span := (y109 i).sp
 let y111 : NetL := NetL.mk y104 y107
 let y112 : List Span := AO y111
 let y113 (i : Nat) : Span := gD y112 i
 let y114 : List Span := AN y111
 let y115 (i : Nat) : Span := gD y114 i
 let y116 := (DK q).r.length = (DK q).r.length
 let y117 := ∀ (i : Nat), i < (DK q).r.length -> (gD (DK q).r i).fr = (gD (DK q).r i).fr /\ (gD (DK q).r i).to = (gD (DK q).r i).to /\ (gD (DK q).r i).sp.lo = (gD (DK q).r i).sp.lo /\ (gD (DK q).r i).sp.hi = (gD (DK q).r i).sp.hi
 let y118 := (EC q).r.length = (EC q).r.length /\ ∀ (i : Nat), i < (EC q).r.length -> (gD (EC q).r i).fr = (gD (EC q).r i).fr /\ (gD (EC q).r i).to = (gD (EC q).r i).to /\ (gD (EC q).r i).sp.lo = (gD (EC q).r i).sp.lo /\ (gD (EC q).r i).sp.hi = (gD (EC q).r i).sp.hi
 let y119 : List Span := AC (BT q).g.length λ (i : Nat) => gD (BT q).g i
 let y120 := y119.length
 let y121 (i : Nat) : Span := gD y119 i
 let y122 : List Reach := AC (BT q).r.length λ (i : Nat) => gD (BT q).r i
 let y123 := y122.length
 let y124 (i : Nat) : Reach := gD y122 i
 let y125 (i : Nat) : Span := (y124 i).sp
 let y126 : List Span := AC (BF q).g.length λ (i : Nat) => gD (BF q).g i
 let y127 := y126.length
 let y128 (i : Nat) : Span := gD y126 i
 let y129 : List Reach := AC (BF q).r.length λ (i : Nat) => gD (BF q).r i
 let y130 := y129.length
 let y131 (i : Nat) : Reach := gD y129 i
 let y132 (i : Nat) : Span := (y131 i).sp
 let y133 : NetL := NetL.mk y119 y122
 let y134 : NetL := NetL.mk y126 y129
 let y135 : List Span := AO y133
 let y136 := y135.length
 let y137 : List Span := AN y133
 let y138 := y137.length
 let y139 : List Span := AO y134
 let y140 := y139.length
 let y141 : List Span := AN y134
 let y142 := y141.length
 let y143 := (AO (AG q)).length = (AO (AG q)).length
 let y144 := ∀ (i : Nat), i < (AO (AG q)).length -> (gD (AO (AG q)) i).lo = (gD (AO (AG q)) i).lo /\ (gD (AO (AG q)) i).hi = (gD (AO (AG q)) i).hi
 let y145 := (AN (AG q)).length = (AN (AG q)).length
 let y146 := ∀ (i : Nat), i < (AN (AG q)).length -> (gD (AN (AG q)) i).lo = (gD (AN (AG q)) i).lo /\ (gD (AN (AG q)) i).hi = (gD (AN (AG q)) i).hi
 let y147 (i : Nat) : Span := gD y135 i
 let y148 (i : Nat) : Span := gD y137 i
 let y149 (i : Nat) : Span := gD y139 i
 let y150 (i : Nat) : Span := gD y141 i
 let y151 := y88 /\ y89 /\ y90 /\ y91 /\ (DK q).g.length = (DK q).g.length /\ (∀ (i : Nat), i < (DK q).g.length -> (gD (DK q).g i).lo = (gD (DK q).g i).lo /\ (gD (DK q).g i).hi = (gD (DK q).g i).hi) /\ y116 /\ y117 /\ (EC q).g.length = (EC q).g.length /\ (∀ (i : Nat), i < (EC q).g.length -> (gD (EC q).g i).lo = (gD (EC q).g i).lo /\ (gD (EC q).g i).hi = (gD (EC q).g i).hi) /\ y118
 let y152 (a : Nat) := y42 a /\ y151
 let y153 (a : Nat) := (↑a : Int) < (↑(AO (AG q)).length : Int)
 let y154 (a : Nat) := (0 : Int) <= (↑a : Int)
 let y155 (a : Nat) := y154 a /\ (↑a : Int) < (↑(AO (BT q)).length : Int)
 let y156 (a : Nat) := y154 a /\ y153 a
 let y157 (a1 : Nat) := decide ((gD (AO (BT q)) a1).lo > (gD (AO (AG q)) a1).lo)
 let y158 (a1 : Nat) := (!y157 a1) = true
 let y159 (a1 : Nat) := bif y157 a1 then true else decide ((gD (AO (BT q)) a1).hi < (gD (AO (AG q)) a1).hi)
 let y160 (a1 : Nat) := (!y159 a1) = true
 let y161 (a : Nat) := y154 a /\ (↑a : Int) < (↑(AO (BF q)).length : Int)
 let y162 (a1 : Nat) := bif y159 a1 then true else decide ((gD (AO (BF q)) a1).lo > (gD (AO (AG q)) a1).lo)
 let y163 (a1 : Nat) := (!y162 a1) = true
 let y164 := (AN (BT q)).length = (AN (BT q)).length
 let y165 := ∀ (i : Nat), i < (AN (BT q)).length -> (gD (AN (BT q)) i).lo = (gD (AN (BT q)) i).lo /\ (gD (AN (BT q)) i).hi = (gD (AN (BT q)) i).hi
 let y166 := (AN (BF q)).length = (AN (BF q)).length
 let y167 := ∀ (i : Nat), i < (AN (BF q)).length -> (gD (AN (BF q)) i).lo = (gD (AN (BF q)) i).lo /\ (gD (AN (BF q)) i).hi = (gD (AN (BF q)) i).hi
 let y168 (a : Nat) (a1 : Nat) := (↑a : Int) = IntKind.i64.wrap ((↑a1 : Int) + (1 : Int))
 let y169 (a1 : Nat) (a2 : Nat) := y166 /\ y167 /\ y168 a1 a2 /\ y151
 let y170 (a : Nat) := (↑a : Int) < (↑(AN (AG q)).length : Int)
 let y171 (a : Nat) := y154 a /\ (↑a : Int) < (↑(AN (BT q)).length : Int)
 let y172 (a : Nat) := y154 a /\ y170 a
 let y173 (a1 : Nat) := decide ((gD (AN (BT q)) a1).lo > (gD (AN (AG q)) a1).lo)
 let y174 (a1 : Nat) := (!y173 a1) = true
 let y175 (a1 : Nat) := bif y173 a1 then true else decide ((gD (AN (BT q)) a1).hi < (gD (AN (AG q)) a1).hi)
 let y176 (a1 : Nat) := (!y175 a1) = true
 let y177 (a : Nat) := y154 a /\ (↑a : Int) < (↑(AN (BF q)).length : Int)
 let y178 (a1 : Nat) := bif y175 a1 then true else decide ((gD (AN (BF q)) a1).lo > (gD (AN (AG q)) a1).lo)
 let y179 (a1 : Nat) := (!y178 a1) = true
 let y180 : List Span := AC (BG q).g.length λ (i : Nat) => gD (BG q).g i
 let y181 := y180.length
 let y182 := y181 = (BG q).g.length
 let y183 (i : Nat) : Span := gD y180 i
 let y184 := ∀ (i : Nat), i < y181 -> (y183 i).lo = (gD (BG q).g i).lo /\ (y183 i).hi = (gD (BG q).g i).hi
 let y185 : List Reach := AC (BG q).r.length λ (i : Nat) => gD (BG q).r i
 let y186 := y185.length
 let y187 (i : Nat) : Reach := gD y185 i
 let y188 (i : Nat) : Span := (y187 i).sp
 let y189 : List Span := AC (EC q).g.length λ (i : Nat) => gD (EC q).g i
 let y190 := y189.length
 let y191 (i : Nat) : Span := gD y189 i
 let y192 : List Reach := AC (EC q).r.length λ (i : Nat) => gD (EC q).r i
 let y193 := y192.length
 let y194 (i : Nat) : Reach := gD y192 i
 let y195 (i : Nat) : Span := (y194 i).sp
 let y196 : List Span := AC (DK q).g.length λ (i : Nat) => gD (DK q).g i
 let y197 := y196.length
 let y198 (i : Nat) : Span := gD y196 i
 let y199 : List Reach := AC (DK q).r.length λ (i : Nat) => gD (DK q).r i
 let y200 := y199.length
 let y201 (i : Nat) : Reach := gD y199 i
 let y202 (i : Nat) : Span := (y201 i).sp
 let y203 : NetL := NetL.mk y180 y185
 let y204 : NetL := NetL.mk y189 y192
 let y205 : NetL := NetL.mk y196 y199
 let y206 := FL y203
 let y207 : NetL := NetL.mk y180 (AC (0 : Nat) λ (i : Nat) => ET default)
 let y208 := y32 /\ ∀ (i : Nat), i < (0 : Nat) -> false = false
 let y209 (a : Nat) := (↑a : Int) < (↑(AG q).g.length : Int)
 let y210 (a : Nat) := y154 a /\ y209 a
 let y211 := ∀ (a_1 : One), True -> ((y105 = (AG q).g.length /\ (∀ (i : Nat), i < y105 -> (y106 i).lo = (gD (AG q).g i).lo /\ (y106 i).hi = (gD (AG q).g i).hi) /\ y108 = (AG q).r.length /\ ∀ (i : Nat), i < y108 -> (y109 i).fr = (gD (AG q).r i).fr /\ (y109 i).to = (gD (AG q).r i).to /\ (y110 i).lo = (gD (AG q).r i).sp.lo /\ (y110 i).hi = (gD (AG q).r i).sp.hi) /\ ∃ (a_3 : One), ((AO (AG q)).length = y112.length /\ (∀ (i : Nat), i < (AO (AG q)).length -> (gD (AO (AG q)) i).lo = (y113 i).lo /\ (gD (AO (AG q)) i).hi = (y113 i).hi) /\ (AN (AG q)).length = y114.length /\ (∀ (i : Nat), i < (AN (AG q)).length -> (gD (AN (AG q)) i).lo = (y115 i).lo /\ (gD (AN (AG q)) i).hi = (y115 i).hi) /\ FC (AG q) = FC y111 /\ y88 /\ y89 /\ y90 /\ y91 /\ (BT q).g.length = (AG q).g.length /\ (∀ (i : Nat), i < (BT q).g.length -> (gD (BT q).g i).lo = (gD (AG q).g i).lo /\ (gD (BT q).g i).hi = (gD (AG q).g i).hi) /\ (BT q).r.length = (BT q).r.length /\ (∀ (i : Nat), i < (BT q).r.length -> (gD (BT q).r i).fr = (gD (BT q).r i).fr /\ (gD (BT q).r i).to = (gD (BT q).r i).to /\ (gD (BT q).r i).sp.lo = (gD (BT q).r i).sp.lo /\ (gD (BT q).r i).sp.hi = (gD (BT q).r i).sp.hi) /\ (BF q).g.length = (AG q).g.length /\ (∀ (i : Nat), i < (BF q).g.length -> (gD (BF q).g i).lo = (gD (AG q).g i).lo /\ (gD (BF q).g i).hi = (gD (AG q).g i).hi) /\ (BF q).r.length = (BF q).r.length /\ (∀ (i : Nat), i < (BF q).r.length -> (gD (BF q).r i).fr = (gD (BF q).r i).fr /\ (gD (BF q).r i).to = (gD (BF q).r i).to /\ (gD (BF q).r i).sp.lo = (gD (BF q).r i).sp.lo /\ (gD (BF q).r i).sp.hi = (gD (BF q).r i).sp.hi) /\ (DK q).g.length = (AG q).g.length /\ (∀ (i : Nat), i < (DK q).g.length -> (gD (DK q).g i).lo = (gD (AG q).g i).lo /\ (gD (DK q).g i).hi = (gD (AG q).g i).hi) /\ y116 /\ y117 /\ (EC q).g.length = (AG q).g.length /\ (∀ (i : Nat), i < (EC q).g.length -> (gD (EC q).g i).lo = (gD (AG q).g i).lo /\ (gD (EC q).g i).hi = (gD (AG q).g i).hi) /\ y118) /\ True) /\ ∀ (a_3 : One), True -> (y120 = (BT q).g.length /\ (∀ (i : Nat), i < y120 -> (y121 i).lo = (gD (BT q).g i).lo /\ (y121 i).hi = (gD (BT q).g i).hi) /\ y123 = (BT q).r.length /\ ∀ (i : Nat), i < y123 -> (y124 i).fr = (gD (BT q).r i).fr /\ (y124 i).to = (gD (BT q).r i).to /\ (y125 i).lo = (gD (BT q).r i).sp.lo /\ (y125 i).hi = (gD (BT q).r i).sp.hi) /\ (y127 = (BF q).g.length /\ (∀ (i : Nat), i < y127 -> (y128 i).lo = (gD (BF q).g i).lo /\ (y128 i).hi = (gD (BF q).g i).hi) /\ y130 = (BF q).r.length /\ ∀ (i : Nat), i < y130 -> (y131 i).fr = (gD (BF q).r i).fr /\ (y131 i).to = (gD (BF q).r i).to /\ (y132 i).lo = (gD (BF q).r i).sp.lo /\ (y132 i).hi = (gD (BF q).r i).sp.hi) /\ bif bif bif bif bif bif bif FC (AG q) != (0 : Int) then true else FC y133 != (0 : Int) then true else FC y134 != (0 : Int) then true else (↑y136 : Int) != (↑(AO (AG q)).length : Int) then true else (↑y138 : Int) != (↑(AN (AG q)).length : Int) then true else decide ((↑y140 : Int) < (↑(AO (AG q)).length : Int)) then true else (↑y142 : Int) != (↑(AN (AG q)).length : Int) then true = false else (∃ (a_5 : Nat), (y143 /\ y144 /\ y145 /\ y146 /\ (AO (BT q)).length = y136 /\ (∀ (i : Nat), i < (AO (BT q)).length -> (gD (AO (BT q)) i).lo = (y147 i).lo /\ (gD (AO (BT q)) i).hi = (y147 i).hi) /\ (AN (BT q)).length = y138 /\ (∀ (i : Nat), i < (AN (BT q)).length -> (gD (AN (BT q)) i).lo = (y148 i).lo /\ (gD (AN (BT q)) i).hi = (y148 i).hi) /\ (AO (BF q)).length = y140 /\ (∀ (i : Nat), i < (AO (BF q)).length -> (gD (AO (BF q)) i).lo = (y149 i).lo /\ (gD (AO (BF q)) i).hi = (y149 i).hi) /\ (AN (BF q)).length = y142 /\ (∀ (i : Nat), i < (AN (BF q)).length -> (gD (AN (BF q)) i).lo = (y150 i).lo /\ (gD (AN (BF q)) i).hi = (y150 i).hi) /\ y152 a_5) /\ a_5.le (AO (AG q)).length) /\ ∀ (a_5 : Nat), a_5.le (AO (AG q)).length -> bif decide (y153 a_5) then (y155 a_5 /\ y156 a_5 /\ (y158 a_5 -> y155 a_5) /\ (y158 a_5 -> y156 a_5) /\ (y160 a_5 -> y161 a_5) /\ (y160 a_5 -> y156 a_5) /\ (y163 a_5 -> y161 a_5) /\ (y163 a_5 -> y156 a_5)) /\ bif bif y162 a_5 then true else decide ((gD (AO (BF q)) a_5).hi < (gD (AO (AG q)) a_5).hi) then true = false else ∃ (a_7 : Nat), (y143 /\ y144 /\ y145 /\ y146 /\ (AO (BT q)).length = (AO (BT q)).length /\ (∀ (i : Nat), i < (AO (BT q)).length -> (gD (AO (BT q)) i).lo = (gD (AO (BT q)) i).lo /\ (gD (AO (BT q)) i).hi = (gD (AO (BT q)) i).hi) /\ y164 /\ y165 /\ (AO (BF q)).length = (AO (BF q)).length /\ (∀ (i : Nat), i < (AO (BF q)).length -> (gD (AO (BF q)) i).lo = (gD (AO (BF q)) i).lo /\ (gD (AO (BF q)) i).hi = (gD (AO (BF q)) i).hi) /\ y169 a_7 a_5) /\ a_7.le (AO (AG q)).length /\ (Jl q).meas a_7 < (Jl q).meas a_5 else (∃ (a_7 : Nat), (y145 /\ y146 /\ y164 /\ y165 /\ y166 /\ y167 /\ y152 a_7) /\ a_7.le (AN (AG q)).length) /\ ∀ (a_7 : Nat), a_7.le (AN (AG q)).length -> bif decide (y170 a_7) then (y171 a_7 /\ y172 a_7 /\ (y174 a_7 -> y171 a_7) /\ (y174 a_7 -> y172 a_7) /\ (y176 a_7 -> y177 a_7) /\ (y176 a_7 -> y172 a_7) /\ (y179 a_7 -> y177 a_7) /\ (y179 a_7 -> y172 a_7)) /\ bif bif y178 a_7 then true else decide ((gD (AN (BF q)) a_7).hi < (gD (AN (AG q)) a_7).hi) then true = false else ∃ (a_9 : Nat), (y145 /\ y146 /\ y164 /\ y165 /\ y169 a_9 a_7) /\ a_9.le (AN (AG q)).length /\ (Ik q).meas a_9 < (Ik q).meas a_7 else (y182 /\ y184 /\ y186 = (BG q).r.length /\ ∀ (i : Nat), i < y186 -> (y187 i).fr = (gD (BG q).r i).fr /\ (y187 i).to = (gD (BG q).r i).to /\ (y188 i).lo = (gD (BG q).r i).sp.lo /\ (y188 i).hi = (gD (BG q).r i).sp.hi) /\ (y190 = (EC q).g.length /\ (∀ (i : Nat), i < y190 -> (y191 i).lo = (gD (EC q).g i).lo /\ (y191 i).hi = (gD (EC q).g i).hi) /\ y193 = (EC q).r.length /\ ∀ (i : Nat), i < y193 -> (y194 i).fr = (gD (EC q).r i).fr /\ (y194 i).to = (gD (EC q).r i).to /\ (y195 i).lo = (gD (EC q).r i).sp.lo /\ (y195 i).hi = (gD (EC q).r i).sp.hi) /\ (y197 = (DK q).g.length /\ (∀ (i : Nat), i < y197 -> (y198 i).lo = (gD (DK q).g i).lo /\ (y198 i).hi = (gD (DK q).g i).hi) /\ y200 = (DK q).r.length /\ ∀ (i : Nat), i < y200 -> (y201 i).fr = (gD (DK q).r i).fr /\ (y201 i).to = (gD (DK q).r i).to /\ (y202 i).lo = (gD (DK q).r i).sp.lo /\ (y202 i).hi = (gD (DK q).r i).sp.hi) /\ bif bif bif bif bif AD y203 != (0 : Int) then true else AD y204 != (0 : Int) then true else AD y205 != (0 : Int) then true else decide (FL y204 > y206) then true else decide (FL y205 > y206) then true = false else (y182 /\ y184 /\ y32 /\ y32) /\ (∃ (a_9 : Nat), (AD (IB (BG q)) = AD y207 /\ FL (IB (BG q)) = FL y207 /\ LU (AG q) a_9 = (0 : Int) /\ y42 a_9 /\ (AG q).g.length = (BG q).g.length /\ (∀ (i : Nat), i < (AG q).g.length -> (gD (AG q).g i).lo = (gD (BG q).g i).lo /\ (gD (AG q).g i).hi = (gD (BG q).g i).hi) /\ y208) /\ a_9.le (AG q).g.length) /\ ∀ (a_9 : Nat), a_9.le (AG q).g.length -> bif decide (y209 a_9) then (y210 a_9 /\ y210 a_9) /\ ∃ (a_11 : Nat), (AD (IB (BG q)) = AD (IB (BG q)) /\ FL (IB (BG q)) = FL (IB (BG q)) /\ LU (AG q) a_11 = IntKind.i64.wrap (LU (AG q) a_9 + As (As (0 : Int) (gD (AG q).g a_9).lo) (IntKind.i64.wrap ((0 : Int) - (gD (AG q).g a_9).hi))) /\ y168 a_11 a_9 /\ y84 /\ y85 /\ y208) /\ a_11.le (AG q).g.length /\ (Is q).meas a_11 < (Is q).meas a_9 else true = bif bif AD (IB (BG q)) == (0 : Int) then FL (IB (BG q)) == LU (AG q) a_9 else false then true else false
 ((y1 = a.a.length /\ (∀ (i : Nat), i < y1 -> y2 i = gD a.a i) /\ (6 : Int) = Int.ofNat (6 : Nat) /\ y4 = y1 /\ (∀ (i : Nat), i < y4 -> gD y3 i = y2 i) /\ y5 /\ y5 /\ StmB (1000000000 : Int) y6 /\ ((1 : Int) <= (6 : Int) /\ (6 : Int) <= (8 : Int)) /\ y7.r.length = (0 : Nat)) /\ (y9 = a.b.length /\ (∀ (i : Nat), i < y9 -> y10 i = gD a.b i) /\
 y16 /\ y22 /\ y24 /\ (∀ (i : Nat), i < (AC (0 : Nat) λ (i : Nat) => gD noR i).length -> (y25 i).fr = (gD noR i).fr /\ (y25 i).to = (gD noR i).to /\ (y26 i).lo = (gD noR i).sp.lo /\ (y26 i).hi = (gD
 noR i).sp.hi) /\ y28 = y9 /\ (∀ (i : Nat), i < y28 -> gD y27 i = y10 i) /\ y5 /\ y5 /\ StmB (1000000000 : Int) (Stm.mk y27 (0 : Int) (0 : Int)) /\ y15 <= (1000 : Nat) /\ y24) /\
 (y30 = a.c.length /\ ∀ (i : Nat), i < y30 -> y31 i = gD a.c i) /\ (y16 /\ y22 /\ y32 /\ y33 /\ y34 /\ y16 /\ y22 /\ y32 /\ y33 /\ y34 /\ y37 /\ y41 /\ y32 /\ y33 /\
 y36 <= (1000000 : Nat) /\ y37 /\ y41 /\ y32 /\ y33 /\ y36.le (1000000 : Nat)) /\ (∃ (a_1 : Nat), (y42 a_1 /\ (AG a).g.length = y12 /\ (∀ (i : Nat), i < (AG a).g.length -> (gD (AG a).g i).lo =
 y19 i /\ (gD (AG a).g i).hi = y21 i) /\ (AG a).r.length = (0 : Nat) /\ (∀ (i : Nat), i < (AG a).r.length -> (gD (AG a).r i).fr = (gD noR i).fr /\ (gD (AG a).r i).to = (gD noR i).to /\ (gD (AG a).r i).sp.lo =
 (gD noR i).sp.lo /\ (gD (AG a).r i).sp.hi = (gD noR i).sp.hi) /\ (BG a).g.length = y15 /\ (∀ (i : Nat), i < (BG a).g.length -> (gD (BG a).g i).lo = y18 i /\ (gD (BG a).g i).hi = y20 i) /\ (BG a).r.length =
 (0 : Nat) /\ (∀ (i : Nat), i < (BG a).r.length -> (gD (BG a).r i).fr = (gD noR i).fr /\ (gD (BG a).r i).to = (gD noR i).to /\ (gD (BG a).r i).sp.lo = (gD noR i).sp.lo /\ (gD (BG a).r i).sp.hi = (gD noR i).sp.hi) /\ y43 /\ y44 /\ y32 /\ y33 /\ y43 /\ y44 /\ y32 /\ y33 /\ y45 /\ y46 /\ y32 /\ y33 /\ y45 /\ y46 /\ y32 /\ y33 /\ (AZ a).bs.length = y30 /\ (∀ (i : Nat), i < (AZ
 a).bs.length -> gD (AZ a).bs i = y31 i) /\ (AZ a).used = (0 : Int) /\ (AZ a).mix = (0 : Int)) /\ a_1 = (0 : Nat)) /\ ∀ (a_1 : Nat), a_1 = (0 : Nat) -> bif decide ((↑a_1 : Int) < (↑(AG a).r.length : Int)) then
 (y47 /\ y50 /\ y51 /\ (AZ a).used = (AZ a).used /\ (AZ a).mix = (AZ a).mix /\ y52 /\ y47 /\ y59 = y56 /\ (∀ (i : Nat), i < y59 -> gD y58 i = y57 i) /\ y60 = y60 /\
 y61 = y61 /\ (y60 - (0 : Int)).NonNeg) /\ False else (bif bif decide ((↑(AG a).g.length : Int) > (1 : Int)) then decide ((↑(AG a).r.length : Int) < (14 : Int)) else false then ((↑(AG a).g.length : Int) =
 (↑(AG a).g.length : Int) /\ y50 /\ y51 /\ (AZ a).used = (AZ a).used /\ (AZ a).mix = (AZ a).mix /\ y52 /\ y62 /\ y68 = y65 /\ (∀ (i : Nat), i < y68 -> gD y67 i = y66 i) /\
 y69 = y69 /\ y70 = y70 /\ (0 : Int) <= y69 /\ y62 /\ y77 = y74 /\ (∀ (i : Nat), i < y77 -> gD y76 i = y75 i) /\ y78 = y78 /\ y79 = y79 /\ (y78 - (0 :
 Int)).NonNeg) /\ ((↑(AG a).g.length : Int) = (0 : Int) -> False) /\ (y83 /\ y83) /\ ∃ (a_3 : One), (y84 /\ y85 /\ y86 /\ y87 /\ y88 /\ y89 /\ y90 /\ y91 /\ y84 /\ y85 /\ y92
 /\ y93 /\ y84 /\ y85 /\ (BF a).r.length = (1 : Nat) /\ y81 /\ (∀ (j : Nat), j < (BF a).r.length -> (gD (BF a).r j).fr = y98 j /\ (gD (BF a).r j).to = y99 j /\ (gD (BF a).r j).sp.lo = y101 j /\
 (gD (BF a).r j).sp.hi = y102 j) /\ y84 /\ y85 /\ (DK a).r.length = (1 : Nat) /\ y81 /\ (∀ (j : Nat), j < (DK a).r.length -> (gD (DK a).r j).fr = y98 j /\ (gD (DK a).r j).to = y99 j /\ (gD (DK
 a).r j).sp.lo = y101 j /\ (gD (DK a).r j).sp.hi = y102 j) /\ y103) /\ True else ∃ (a_3 : One), (y84 /\ y85 /\ y86 /\ y87 /\ y88 /\ y89 /\ y90 /\ y91 /\ y84 /\ y85 /\
 y92 /\ y93 /\ y84 /\ y85 /\ (BF a).r.length = (0 : Nat) /\ (∀ (i : Nat), i < (BF a).r.length -> (gD (BF a).r i).fr = (gD noR i).fr /\ (gD (BF a).r i).to = (gD noR i).to /\ (gD (BF a).r i).sp.lo = (gD noR
 i).sp.lo /\ (gD (BF a).r i).sp.hi = (gD noR i).sp.hi) /\ y84 /\ y85 /\ (DK a).r.length = (0 : Nat) /\ (∀ (i : Nat), i < (DK a).r.length -> (gD (DK a).r i).fr = (gD noR i).fr /\ (gD (DK a).r i).to = (gD noR i).to
 /\ (gD (DK a).r i).sp.lo = (gD noR i).sp.lo /\ (gD (DK a).r i).sp.hi = (gD noR i).sp.hi) /\ y103) /\ True) /\ y211 /\ y211)) := by kernel_rfl
theorem mo1 (a : BBB) : EH (SN.mk (Stm.mk a.a 0 0) 6) = AG a := rfl
theorem mo2 (a : BBB) : EO (SNet.mk (Stm.mk a.b 0 0) (AG a)) = BG a := rfl
theorem mo3 (a : BBB) : Stm.mk a.c 0 0 = AZ a := rfl
theorem mo4 (s : Stm) (k : Nat) : AM (AM (FV s k) 9) 9 = FV s (k + 1) := rfl
theorem mo5 (s : Stm) (k : Nat) : AS (FV s k) 9 = RJ s k := rfl
theorem Yb (s : Stm) (k : Nat) : AS (AM (FV s k) 9) 9 = RH s k := rfl
theorem JE (s : Stm) (l : List Reach) (k : Nat) : (EB s l k).length = l.length := by simp [EB]
theorem QD {s : Stm} {l : List Reach} {k i : Nat} (h : i < l.length) : gD (EB s l k) i = if i < k then Qz s l i else gD l i := DU (λ i => if i < k then Qz s l i else gD l i) h
theorem Xl (s : Stm) (l : List Reach) : EB s l 0 = l := OD (JE s l 0) λ i hi => by
 rw [JE] at hi; rw [QD hi, if_neg (by omega)]
theorem Fy {s : Stm} {l : List Reach} {k i : Nat} (hk : k < l.length) (hi : i < (EB s l (k + 1)).length) : ((gD (EB s l (k + 1)) i).fr = bif decide (i = k) then (gD (EB s l (k + 0)) k).fr else (gD (EB s l (k + 0)) i).fr) /\ ((gD (EB s l (k + 1)) i).to = bif decide (i = k) then (gD (EB s l (k + 0)) k).to else (gD (EB s l (k + 0)) i).to) /\ ((gD (EB s l (k + 1)) i).sp.lo = bif decide (i = k) then IntKind.i64.wrap ((gD (EB s l (k + 0)) k).sp.lo - RJ s k) else (gD (EB s l (k + 0)) i).sp.lo) /\ (gD (EB s l (k + 1)) i).sp.hi = bif decide (i = k) then IntKind.i64.wrap ((gD (EB s l (k + 0)) k).sp.hi + RH s k) else (gD (EB s l (k + 0)) i).sp.hi := by
 rw [JE] at hi
 have e1 := QD (s := s) (k := k + 1) hi
 have e2 := QD (s := s) (k := k) hi
 have e3 := QD (s := s) (k := k) hk
 rw [if_neg (Nat.lt_irrefl k)] at e3
 simp only [Nat.add_zero]
 rw [e1, e2, e3]
 by_cases h : i = k
 ·subst h; rw [if_pos (by omega), decide_eq_true rfl]; exact ⟨rfl, rfl, rfl, rfl⟩
 ·rw [decide_eq_false h]
  by_cases h2 : i < k
  ·rw [if_pos (by omega), if_pos h2]; exact ⟨rfl, rfl, rfl, rfl⟩
  ·rw [if_neg (by omega), if_neg h2]; exact ⟨rfl, rfl, rfl, rfl⟩
theorem JX {s : Stm} {K : Int} (hs : StmB K s) (hK : K <= 1000) : ∀ k : Nat, k <= 1000 -> StmB (K + 2 * k) (FV s k)
 | 0, _ => hs.mono (by omega)
 | k + 1, hk => by
  have h := JX hs hK k (by omega)
  exact ((h.next (by omega) 9).next (by omega) 9).mono (by omega)
theorem Oy {M N : NetL} (h : M.g = N.g) : ∀ k, LU M k = LU N k
 | 0 => rfl
 | k + 1 => by simp only [LU, Oy h k, h]
structure MoOk (a : BBB) : Prop where
 n : Good (AG a)
 m : Good (BG a)
 lm : (BG a).r.length = (AG a).r.length
 r11 : (AG a).r.length <= 11
 set : CJ (AG a) = 0
 w : Good (BT a)
 e : Good (EC a)
 j : Good (BF a)
 x : Good (DK a)
 nw : Wider (AG a) (BT a)
 me : Wider (BG a) (EC a)
 nj : XM a = true -> More (AG a) (BF a) (Bu a)
 mx : XM a = true -> More (BG a) (DK a) (Bu a)
theorem Hb {N W : NetL} {s : Stm} (hs : StmB 0 s) (hg : Good N) (hb : ∀ i, i < N.r.length -> -300 <= (gD N.r i).sp.lo /\ (gD N.r i).sp.hi <= 300) (hW : W = ⟨N.g, EB s N.r N.r.length⟩) : Good W /\ Wider N W := by
 have h14 := hg.r14
 have key : ∀ i, i < N.r.length -> ((gD W.r i).fr = (gD N.r i).fr /\ (gD W.r i).to = (gD N.r i).to) /\ (gD W.r i).sp.lo = (gD N.r i).sp.lo - RJ s i /\ (gD W.r i).sp.hi = (gD N.r i).sp.hi + RH s i /\ (0 <= RJ s i /\ RJ s i <= 8) /\ 0 <= RH s i /\ RH s i <= 8 := λ i hi => by
  have b := hb i hi
  have g := (hg.r i hi).1
  have t1 := JX hs (by omega) i (by omega)
  have v1 := EQ t1 (by omega) 9
  have v2 := EQ (t1.next (by omega) 9) (by omega) 9
  have v1' := v1.2 (by omega)
  have v2' := v2.2 (by omega)
  have a1 : 0 <= RJ s i /\ RJ s i <= 8 := ⟨v1.1, by unfold RJ; omega⟩
  have a2 : 0 <= RH s i /\ RH s i <= 8 := ⟨v2.1, by unfold RH; omega⟩
  have e : gD W.r i = Qz s N.r i := by rw [hW]; show gD (EB s N.r N.r.length) i = _; rw [QD hi, if_pos hi]
  rw [e]
  refine ⟨⟨rfl, rfl⟩, ?_, ?_, a1, a2⟩
  ·show wr ((gD N.r i).sp.lo - RJ s i) = _
   exact OT (by omega) (by omega)
  ·show wr ((gD N.r i).sp.hi + RH s i) = _
   exact OT (by omega) (by omega)
 have hl : W.r.length = N.r.length := by rw [hW]; exact JE _ _ _
 have hgg : W.g = N.g := by rw [hW]
 refine ⟨⟨by rw [hgg]; exact hg.g1, by rw [hgg]; exact hg.g8, by omega, by rw [hgg]; exact hg.g, λ i hi => ?_⟩, ⟨hgg, hl, λ i hi => ?_⟩⟩
 ·obtain ⟨⟨k1, k2⟩, k3, k4, k5, k6⟩ := key i (by omega)
  obtain ⟨g1, g2, g3, g4⟩ := hg.r i (by omega)
  have b := hb i (by omega)
  rw [k1, k2, hgg]
  exact ⟨by omega, g2, g3, g4⟩
 ·obtain ⟨k0, k3, k4, k5, k6⟩ := key i hi
  exact ⟨k0, by omega, by omega⟩
theorem Js {N J : NetL} {r : Reach} (hg : Good N) (h : More N J r) (h13 : N.r.length <= 13) (hr : -1000000 <= r.sp.lo /\ r.sp.lo <= r.sp.hi /\ r.sp.hi <= 1000000) (hf : 0 <= r.fr /\ r.fr < N.g.length) (ht : 0 <= r.to /\ r.to < N.g.length) (hne : r.fr ≠ r.to) : Good J := by
 refine ⟨by rw [h.g]; exact hg.g1, by rw [h.g]; exact hg.g8, by rw [h.len]; omega, by rw [h.g]; exact hg.g, λ i hi => ?_⟩
 rw [h.len] at hi
 rw [h.g]
 by_cases hi' : i < N.r.length
 ·rw [h.lo hi']; exact hg.r i hi'
 ·rw [show i = N.r.length by omega, h.hi]; exact ⟨by omega, hf, ht, hne⟩
theorem Py {a : BBB} (h3 : RI a.c) (h11 : (AG a).r.length <= 11) : StmB 22 (Vi a) := (JX (RG h3) (by omega) (AG a).r.length (by omega)).mono (by omega)
theorem Rz {a : BBB} (h1 : RI a.a) (h2 : RI a.b) (h3 : RI a.c) : MoOk a := by
 have hm : Made (AG a) (mkT a.a 6) 6 := Yu h1 (by omega)
 have hs : Spoilt (AG a) (BG a) := Sy (RG h2) (by omega) hm (by omega)
 have gN := hm.good (by omega)
 have h11 := hm.r11
 have nb : ∀ i, i < (AG a).r.length -> -300 <= (gD (AG a).r i).sp.lo /\ (gD (AG a).r i).sp.hi <= 300 := λ i hi => by have := hm.r i hi; omega
 have mb : ∀ i, i < (BG a).r.length -> -300 <= (gD (BG a).r i).sp.lo /\ (gD (BG a).r i).sp.hi <= 300 := λ i hi => by
  rw [hs.len] at hi
  have e3 := (YV (AG a).r ⟨a.b, 0, 0⟩ 0 (RG h2) (by omega) i hi).2
  have e4 : gD (BG a).r i = gD (FT ⟨a.b, 0, 0⟩ (AG a).r).2 i := rfl
  rw [e4]
  rcases e3 with e | e
  ·rw [e]; exact nb i hi
  ·omega
 obtain ⟨gW, nw⟩ := Hb (W := BT a) (RG h3) gN nb rfl
 obtain ⟨gE, me⟩ := Hb (W := EC a) (RG h3) hs.good mb (by
  show (⟨(AG a).g, EB (AZ a) (BG a).r (AG a).r.length⟩ : NetL) = ⟨(BG a).g, EB (AZ a) (BG a).r (BG a).r.length⟩
  rw [hs.len, hs.g])
 have g1 := gN.g1
 have g8 := gN.g8
 have t0 := Py h3 h11
 have t1 : StmB 23 (Ih a) := t0.next (by omega) _
 have t2 : StmB 24 (AM (Ih a) 5) := t1.next (by omega) 5
 have v0 := EQ t0 (by omega) (AG a).g.length
 have v1 := EQ t1 (by omega) 5
 have v2 := EQ t2 (by omega) 5
 have v0' := v0.2 (by omega)
 have v1' := v1.2 (by omega)
 have v2' := v2.2 (by omega)
 have el : (Bu a).sp.lo = -(AS (Ih a) 5) := OT (by omega) (by omega)
 have eh : (Bu a).sp.hi = AS (AM (Ih a) 5) 5 := rfl
 have hz : (Bu a).sp.lo <= 0 /\ 0 <= (Bu a).sp.hi := by rw [el, eh]; omega
 have hfr : 0 <= UR a /\ UR a < (AG a).g.length := ⟨v0.1, v0'⟩
 have efr : (Bu a).fr = UR a := rfl
 have eto : (Bu a).to = (UR a + 1).tmod (AG a).g.length := by
  show (wr (UR a + 1)).tmod _ = _
  rw [show wr (UR a + 1) = UR a + 1 from OT (by omega) (by omega)]
 have hto : XM a = true -> (0 <= (Bu a).to /\ (Bu a).to < (AG a).g.length) /\ (Bu a).fr ≠ (Bu a).to := λ hb => by
  have hb : 1 < (AG a).g.length := of_decide_eq_true hb
  rw [eto, efr, Int.tmod_eq_emod_of_nonneg (by omega)]
  have p1 := Int.emod_nonneg (UR a + 1) (show ((AG a).g.length : Int) ≠ 0 by omega)
  have p2 := Int.emod_lt_of_pos (UR a + 1) (show 0 < ((AG a).g.length : Int) by omega)
  refine ⟨⟨p1, p2⟩, λ he => ?_⟩
  by_cases hx : UR a + 1 < (AG a).g.length
  ·rw [Int.emod_eq_of_lt (by omega) hx] at he; omega
  ·rw [show UR a + 1 = ((AG a).g.length : Int) by omega, Int.emod_self] at he; omega
 have nj : XM a = true -> More (AG a) (BF a) (Bu a) := λ hb => ⟨rfl, by show (if XM a then _ else _) = _; rw [hb]; rfl, hz⟩
 have mx : XM a = true -> More (BG a) (DK a) (Bu a) := λ hb => ⟨hs.g.symm, by show (if XM a then _ else _) = _; rw [hb]; rfl, hz⟩
 have hsp : -1000000 <= (Bu a).sp.lo /\ (Bu a).sp.lo <= (Bu a).sp.hi /\ (Bu a).sp.hi <= 1000000 := by rw [el, eh]; omega
 refine ⟨gN, hs.good, hs.len, h11, hm.set (by omega), gW, gE, ?_, ?_, nw, me, nj, mx⟩
 ·cases hb : XM a with
  | true => obtain ⟨q1, q2⟩ := hto hb; exact Js gN (nj hb) (by omega) hsp hfr q1 q2
  | false =>
   have e : BF a = AG a := by
    show (⟨(AG a).g, if XM a then _ else _⟩ : NetL) = _
    rw [hb]; rfl
   rw [e]; exact gN
 ·cases hb : XM a with
  | true =>
   obtain ⟨q1, q2⟩ := hto hb
   have hl := hs.len
   exact Js hs.good (mx hb) (by omega) hsp (by rw [hs.g]; exact hfr) (by rw [hs.g]; exact q1) q2
  | false =>
   have e : DK a = BG a := by
    show (⟨(AG a).g, if XM a then _ else _⟩ : NetL) = _
    rw [hb, <- hs.g]; rfl
   rw [e]; exact hs.good
structure MoSay (a : BBB) : Prop where
 n : FC (AG a) = 0
 w : FC (BT a) = 0
 j : FC (BF a) = 0
 ln : (AO (AG a)).length = (AG a).r.length
 lw : (AO (BT a)).length = (AG a).r.length
 lj : (AG a).r.length <= (AO (BF a)).length
 gn : (AN (AG a)).length = (AG a).g.length
 gw : (AN (BT a)).length = (AG a).g.length
 gj : (AN (BF a)).length = (AG a).g.length
 f : ∀ i, i < (AG a).r.length -> ((gD (AO (BT a)) i).lo <= (gD (AO (AG a)) i).lo /\ (gD (AO (AG a)) i).hi <= (gD (AO (BT a)) i).hi) /\ (gD (AO (BF a)) i).lo <= (gD (AO (AG a)) i).lo /\ (gD (AO (AG a)) i).hi <= (gD (AO (BF a)) i).hi
 g : ∀ i, i < (AG a).g.length -> ((gD (AN (BT a)) i).lo <= (gD (AN (AG a)) i).lo /\ (gD (AN (AG a)) i).hi <= (gD (AN (BT a)) i).hi) /\ (gD (AN (BF a)) i).lo <= (gD (AN (AG a)) i).lo /\ (gD (AN (AG a)) i).hi <= (gD (AN (BF a)) i).hi
 cm : AD (BG a) = 0
 ce : AD (EC a) = 0
 cx : AD (DK a) = 0
 cd : AD (IB (BG a)) = 0
 ke : FL (EC a) <= FL (BG a)
 kx : FL (DK a) <= FL (BG a)
 kd : FL (IB (BG a)) = LU (AG a) (AG a).g.length
theorem Pu {a : BBB} (h : MoOk a) : MoSay a := by
 have cN := GO h.n
 have cM := GO h.m
 have cW := GO h.w
 have cE := GO h.e
 have cJ := GO h.j
 have cX := GO h.x
 have cD := GO (Ny h.m)
 obtain ⟨w1, w2, w3⟩ := h.nw.spans cN cW h.set
 have jj : CJ (BF a) = 0 /\ (∀ i, i < (AG a).r.length -> (gD (KT (BF a)) i).lo <= (gD (KT (AG a)) i).lo /\ (gD (KT (AG a)) i).hi <= (gD (KT (BF a)) i).hi) /\ ∀ j, j < (AG a).g.length -> (gD (KV (BF a)) j).lo <= (gD (KV (AG a)) j).lo /\ (gD (KV (AG a)) j).hi <= (gD (KV (BF a)) j).hi := by
  cases hb : XM a with
  | true => exact (h.nj hb).spans cN cJ h.set
  | false =>
   have e : BF a = AG a := by
    show (⟨(AG a).g, if XM a then _ else _⟩ : NetL) = _
    rw [hb]; rfl
   rw [e]; exact ⟨h.set, λ _ _ => ⟨Int.le_refl _, Int.le_refl _⟩, λ _ _ => ⟨Int.le_refl _, Int.le_refl _⟩⟩
 obtain ⟨j1, j2, j3⟩ := jj
 have fN := QS.2 ⟨cN, h.set⟩
 have fW := QS.2 ⟨cW, w1⟩
 have fJ := QS.2 ⟨cJ, j1⟩
 have eN : AO (AG a) = KT (AG a) /\ AN (AG a) = KV (AG a) := ⟨if_pos fN, if_pos fN⟩
 have eW : AO (BT a) = KT (BT a) /\ AN (BT a) = KV (BT a) := ⟨if_pos fW, if_pos fW⟩
 have eJ : AO (BF a) = KT (BF a) /\ AN (BF a) = KV (BF a) := ⟨if_pos fJ, if_pos fJ⟩
 obtain ⟨n1, n2⟩ := Do cN
 obtain ⟨m1, m2⟩ := Do cW
 obtain ⟨o1, o2⟩ := Do cJ
 have lW : (BT a).r.length = (AG a).r.length := h.nw.len
 have lJ : (AG a).r.length <= (BF a).r.length := by
  cases hb : XM a with
  | true => rw [(h.nj hb).len]; omega
  | false =>
   have e : BF a = AG a := by
    show (⟨(AG a).g, if XM a then _ else _⟩ : NetL) = _
    rw [hb]; rfl
   rw [e]; exact Nat.le_refl _
 have gW : (BT a).g = (AG a).g := rfl
 have gJ : (BF a).g = (AG a).g := rfl
 have kM : FL (BG a) = CJ (BG a) := if_pos cM
 have kE : FL (EC a) = CJ (EC a) := if_pos cE
 have kX : FL (DK a) = CJ (DK a) := if_pos cX
 have kD : FL (IB (BG a)) = CJ (IB (BG a)) := if_pos cD
 have hM : (BG a).g = (AG a).g := rfl
 refine ⟨fN, fW, fJ, by rw [eN.1]; exact n1, by rw [eW.1, m1, lW], by rw [eJ.1, o1]; exact lJ, by rw [eN.2]; exact n2, by rw [eW.2, m2, gW], by rw [eJ.2, o2, gJ], λ i hi => ?_, λ i hi => ?_, cM, cE, cX, cD, ?_, ?_, ?_⟩
 ·rw [eN.1, eW.1, eJ.1]; exact ⟨w2 i hi, j2 i hi⟩
 ·rw [eN.2, eW.2, eJ.2]; exact ⟨w3 i hi, j3 i hi⟩
 ·rw [kE, kM]; exact h.me.cost cM cE
 ·rw [kX, kM]
  cases hb : XM a with
  | true => exact (h.mx hb).cost cM cX
  | false =>
   have e : DK a = BG a := by
    show (⟨(AG a).g, if XM a then _ else _⟩ : NetL) = _
    rw [hb, <- hM]; rfl
   rw [e]; exact Int.le_refl _
 ·rw [kD, Nj cD, <- (Kb h.m _ (Nat.le_refl _)).1]; exact Oy hM _
end Go.Bal
