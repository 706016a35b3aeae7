/- Law RatingParts: its walk. -/
import Derived.Test.YtoihhodbkimedaaGreatRPt2a
import Derived.Test.YtoihhodbkimedaaGreatRPt3
import Derived.Test.YtoihhodbkimedaaGreatRLn3
import Derived.Test.YtoihhodbkimedaaGreatRLn4
import Derived.Test.YtoihhodbkimedaaGreatRatU
import Derived.Test.YtoihhodbkimedaaGreatRat0
import Derived.Test.YtoihhodbkimedaaGreatRows
import Derived.WalkKit
import Derived.ProofKit
import Derived.OpenShut
import Derived.ShutString
import Derived.ChangeOld
import Derived.Below
import Derived.ChangeArms
set_option linter.unusedVariables false
set_option linter.unusedSimpArgs false
namespace Go.Bal
open Go Go.Sym Go.Proofs
structure PaA where
 l:List Gau
 b:List Int
 z:List Int
 m:Int
 k:List (List Int)
def xPa(a:PaA):List AVal:=[.d (BX a.l),.d (CZ a.b),.d (CZ a.z),.int a.m,.d (eLL a.k)]
structure PaI(a:PaA)(i:Nat):Prop where
 hl:a.l.length<=26
 hb:a.b.length<=27
 hz:a.z.length<=5
 hk:a.k.length<=27
 hi:i<=a.k.length
 hs:∀j,j<i->(gD a.k j).length<=5
def pa4(a:PaA):Shape:={ α:=Nat,dflt:=0,T:=λi=>⟨[(0,.d (BX a.l)),(1,.d (CZ a.b)),(2,.d (CZ a.z)),(3,.int a.m),(4,.d (eLL a.k)),(11,.int i)],[]⟩,inv:=λi=>PaI a i,meas:=λi=>a.k.length-i }
def A_Pa(a:PaA):Ann:={ ann 233 [(AYS,BPQ),(AVS,C_cdG.spec WJ),(ACL,C_cdI.spec dIs1),(AOL,C_cdLL.spec dLL1),(BHW,C_Gaus.spec WJ),(AHW,C_Through.spec dGB),(AXL,C_rThru.spec dGB),(AWN,C_Rate.spec WJ),(APP,C_rParts.spec WJ),(ALW,C_Knots.spec WJ),(BJQ,C_Passes.spec dGR),(AOJ,C_modC.spec dRt1),(BAV,C_rProv.spec dPVd),(AWQ,C_Knot.spec dGK),(AYE,C_rKnot.spec dGK),(ACJ,C_Proves.spec dPV),(AVR,C_smG.spec dGs2),(ALJ,C_smI.spec dIs2),(APZ,C_smLL.spec dLL2)] with loops:=λid=>if id=4 then some [pa4 a] else none }
def V_Pa(a:PaA):Prop:=BQ Try.prog (A_Pa a) AMZ (AI AMZ) (xPa a) (AD []) (.bool true) [] [] []
abbrev Mw:=PaA.l
abbrev Tf:=PaA.b
abbrev Lv:=PaA.z
abbrev AUY:=@BEq.beq Bool (@instBEqOfDecidableEq Bool instDecidableEqBool)
abbrev lX a b:=M7 a b JG
abbrev Vs a:=BH (Mw a)
abbrev Dp a:=BH (Vs a)
abbrev BDB a b c d:=PV.mk (Dp a) b c d
abbrev ADZ a b:=BDB a (PaA.m a) b XL
abbrev BDJ a(b:Nat->(List Int)):=dLLr (HF a) (λi=>CZ (b i))
abbrev tE a b:=IF (PaA.k a) b
abbrev BLX a b:=BDJ (PaA.k a) (λi=>tE b i)
abbrev ASW a:=BLX a a
abbrev jG a b:=IF (BLX a a) b
abbrev AUP a:=BDJ (ASW a) (λi=>jG a i)
abbrev ANE a b:=AUY (Ex (ADZ a (AUP a))) (Ex (ADZ b (ASW b)))
abbrev fP a b c:=lX a (ANE b c)
abbrev Uj a b:=OL (Sx (ADZ a (AUP a))) (Sx (ADZ b (ASW b)))
abbrev fE a b c:=AT a b (SL c)
abbrev Uf a b:=IF (AUP a) b
abbrev UH a:=HF (AUP a)
abbrev Hw a:=HF (PaA.k a)
abbrev Bi a:=HF (ASW a)
abbrev RT a:=CT (Lv a)
abbrev Ay a:=CT (Tf a)
abbrev Di a:=Ur (Dp a)
abbrev ANL a b:=ER (Dp a) b
abbrev AOF a b:=AW (Dp a) b
abbrev Bf a:=ANL a (Vs a)
abbrev Nx a b:=AOF a (Vs b)
abbrev rP a:=AM (PaA.m a)
abbrev eO a b:=GK.mk (Dp a) b
abbrev AIA a:=fL (Dp a)
abbrev AXT a b:=IF (AIA a) b
abbrev fJ a b:=BDJ (AIA a) (λi=>AXT b i)
abbrev cT a:=yX (Dp a)
abbrev tH a:=JV (cT a)
abbrev APB a b:=RF (cT a) b
abbrev fW a b:=RG (Xq (cT a) (λi=>APB a i)) b
abbrev Tj a:=ID (Xq (cT a) (λi=>APB a i))
attribute [go_sem] Mw Tf Lv AUY lX Vs Dp BDB ADZ BDJ tE BLX ASW jG AUP ANE fP Uj fE Uf UH Hw Bi RT Ay Di ANL AOF Bf Nx rP eO AIA AXT fJ cT tH APB fW Tj
theorem CRX(a:PaA):(V_Pa a)=(CS (TZ (TZ (FU (KO (EY (Mw a)) 14) (FD (CI (Mw a)) 24)) (KO (EY (Mw a)) 26) (KO (EK (Tf a)) 27)) (KO (EK (Lv a)) 5) (KO (AQ (Hw a)) 27)) MC (DJ (λi=>And (Le (Mw a) (QK (BN (Mw a)) (Tf a) (FC (Tf a)) (CX (Lv a)) (FC (Lv a)) (rP a) (BL (Hw a)) (AK (λj=>Bd j (Hw a) (tE a j))) (BD i))) (PaI a i)) (λi=>PI (PaI a i) i (Hw a) (IR i (Hw a)) (NO (KO (EK (tE a i)) 5) MC (λj=>EV (Le (Mw a) (QK (BN (Mw a)) (Tf a) (FC (Tf a)) (CX (Lv a)) (FC (Lv a)) (rP a) (BL (Hw a)) (AK (λk=>Bd k (Hw a) (tE a k))) (BS j i))) (PaI a j) (Hw a) j i)) (AF (AF (AW (Vs a) (Mw a)) (ER (Vs a) (Mw a)) (Vc (Ur (Vs a))) (IA (Tf a)) (AX (FA (Tf a)) (dL (Tf a)) (IA (Lv a)) (FA (Lv a)) (dL (Lv a)) (AR (Bi a) (Hw a)) (AK (λj=>QG j (Bi a) (jG a j) (tE a j))) (FZ (II (Bi a)) (λj=>fE j (Bi a) (jG a j))) FP)) (As (AW (Vs a) (Mw a)) (ER (Vs a) (Mw a)) (Ur (Vs a))) (Do (Nx a a) (Bf a) (Ay a) (And (UE (Dp a)) (LP (CT (Ay a)))) FP) (Do (Nx a a) (Bf a) (Tf a) (Di a) (HS (Tf a))) (Aw (MS (WI (WU (Dp a) (CT (Ay a))) (WU (Dp a) (Ay a))) (not (AUY (Lo (GB.mk (Dp a) (CT (Ay a)))) (Lo (GB.mk (Dp a) (Ay a)))))) (QP (Nx a a) (Bf a) (Di a) (Yd (As (Nx a a) (Bf a) (Di a)) (Aw (TZ (ARD (Xo (Bh (Dp a))) JG) (Xo (AQ (tH a))) (WI (AQ (HF (AIA a))) (qQ 0 (US (tH a))))) (CL (VU (Bh (Dp a))) (BJ (IA (TO (cT a))) (FA (TO (cT a))) (AR (Tj a) (tH a)) (AK (λj=>QE j (Tj a) (fW a j) (APB a j))) (And (HS (TO (cT a))) (II (Tj a))) (AX (Nx a a) (Bf a) (IA (Qq (cT a))) (FA (Qq (cT a))) (AR (ID (yW (Tj a) (λj=>fW a j))) (Tj a)) (AK (λj=>QE j (ID (yW (Tj a) (λk=>fW a k))) (RG (yW (Tj a) (λk=>fW a k)) j) (fW a j))) (Di a) (HS (Qq (cT a))) (II (ID (yW (Tj a) (λj=>fW a j)))))) (Aw (MS (FI (cQ (GR.mk (Dp a) (Rtg.mk (CT (Qq (cT a))) (yW (Tj a) (λj=>fW a j)))))) (Az (EK (L0 (GR.mk (Dp a) (Rtg.mk (CT (Qq (cT a))) (yW (Tj a) (λj=>fW a j)))))))) (And (IQ (Dp a) (Vs a) (Bf a) (Iu (BE (tH a)) (AR (HF (fJ a a)) (HF (AIA a))) (AK (λj=>QG j (HF (fJ a a)) (IF (fJ a a) j) (AXT a j))) (Di a) (II (HF (fJ a a))) (λj=>fE j (HF (fJ a a)) (IF (fJ a a) j)))) (Aw (MS (FI (Sx (BDB a (AQ (tH a)) (fJ a a) XL))) (not (Ex (BDB a (AQ (tH a)) (fJ a a) XL)))) (AG (Do (Nx a a) (Bf a) (RT a) (Di a) (HS (RT a))) (Do (Nx a a) (Bf a) (Lv a) (Di a) (HS (Lv a))) (Aw (MS (WI (Sk (eO a (CT (RT a)))) (Sk (eO a (RT a)))) (not (AUY (Sq (eO a (CT (RT a)))) (Sq (eO a (RT a)))))) (AN (IQ (Dp a) (Vs a) (Bf a) (Iu (rP a) (AR (UH a) (Bi a)) (AK (λj=>QG j (UH a) (Uf a j) (jG a j))) (Di a) (II (UH a)) (λj=>fE j (UH a) (Uf a j)))) (IQ (Dp a) (Vs a) (Bf a) (Iu (rP a) (AR (Bi a) (Hw a)) (AK (λj=>QG j (Bi a) (jG a j) (tE a j))) (Di a) (II (Bi a)) (λj=>fE j (Bi a) (jG a j)))) (AN (EX (FU (Uj a a) (ANE a a)) (Dt (Nx a a) (Bf a) (AOF a (Mw a)) (ANL a (Mw a)) (Di a))) (EX (fP (Uj a a) a a) (Dt (IA (Ay a)) (FA (Ay a)) (Ac (Ay a) (Tf a)) (ZX (Ay a) (Tf a)) (HS (Ay a)))) (EX (FU (fP (Uj a a) a a) JG) (Dt (IA (RT a)) (FA (RT a)) (Ac (RT a) (Lv a)) (ZX (RT a) (Lv a)) (HS (RT a)))) (EX (lX (fP (Uj a a) a a) JG) (Dt (AR (UH a) (Bi a)) (AK (λj=>QG j (UH a) (Uf a j) (jG a j))) (AR (UH a) (Hw a)) (AK (λj=>QG j (UH a) (Uf a j) (tE a j))) (FZ (II (UH a)) (λj=>fE j (UH a) (Uf a j)))))) (JT JG (lX (lX (fP (Uj a a) a a) JG) JG)))))))) (AG (Do (Nx a a) (Bf a) (RT a) (Di a) (HS (RT a))) (Do (Nx a a) (Bf a) (Lv a) (Di a) (HS (Lv a))) (Aw (MS (WI (Sk (eO a (CT (RT a)))) (Sk (eO a (RT a)))) (not (AUY (Sq (eO a (CT (RT a)))) (Sq (eO a (RT a)))))) (AN (IQ (Dp a) (Vs a) (Bf a) (Iu (rP a) (AR (UH a) (Bi a)) (AK (λj=>QG j (UH a) (Uf a j) (jG a j))) (Di a) (II (UH a)) (λj=>fE j (UH a) (Uf a j)))) (IQ (Dp a) (Vs a) (Bf a) (Iu (rP a) (AR (Bi a) (Hw a)) (AK (λj=>QG j (Bi a) (jG a j) (tE a j))) (Di a) (II (Bi a)) (λj=>fE j (Bi a) (jG a j)))) (AN (EX (FU (Uj a a) (ANE a a)) (Dt (Nx a a) (Bf a) (AOF a (Mw a)) (ANL a (Mw a)) (Di a))) (EX (fP (Uj a a) a a) (Dt (IA (Ay a)) (FA (Ay a)) (Ac (Ay a) (Tf a)) (ZX (Ay a) (Tf a)) (HS (Ay a)))) (EX (FU (fP (Uj a a) a a) JG) (Dt (IA (RT a)) (FA (RT a)) (Ac (RT a) (Lv a)) (ZX (RT a) (Lv a)) (HS (RT a)))) (EX (lX (fP (Uj a a) a a) JG) (Dt (AR (UH a) (Bi a)) (AK (λj=>QG j (UH a) (Uf a j) (jG a j))) (AR (UH a) (Hw a)) (AK (λj=>QG j (UH a) (Uf a j) (tE a j))) (FZ (II (UH a)) (λj=>fE j (UH a) (Uf a j)))))) (JT JG (lX (lX (fP (Uj a a) a a) JG) JG)))))))))))))):=by kernel_rfl
theorem p_Pa(a:PaA):V_Pa a:=by
 rw[CRX]<;> delta JT qD XL EE EC DP OV LY LW MN GD WI JG CS AO KO AR CG AK BV BZ CM AQ DD ES LX EF NK Ba OL CI EZ FB LZ FP TO ID RG SZ yW Sq Sk HF IF Ex Sx Lo cQ Mw Tf Lv AUY AG GT JO GV IE DG AF AT AH FF CA CF BH AM CT BL GQ JM Xo ARD Yd AP HA BR AS AW DF DX Vs DU CR AX BC HH Dp GA CQ HL BDJ IC AN tE RF JZ AZ EP GI BE ED AY BW yX JV EL XY GC HI CX JD FZ II UU BLX JA HG CL EK CU PF cT EA EX FU DV ASW jG EM GH PG IH GF FE BJ BN BM FC EW FM FK FD LN SL LL FL Ac MS EV IA NT AUP ER BS JS ZX BDB Xq fL BD LC FH EY FA DY APB HS DJ FI RT TZ M7 ADZ AIA MC WU Ur LP UH IQ Bd ANL Ay Bh fW IR Fh Bi Bf Uf Di Az UE Hw Fm QG US NO AOF QK Tj QP lX Nx Uj ANE Qq Aw QE VU Vc AXT PI sX eO Iu fP fJ fE dL Le tH Dt Do rP As;simp only[CC,eq_self,implies_true,forall_const,CRD,BKL]
 intro hb
 have hl:a.l.length<=26/\a.b.length<=27/\a.z.length<=5/\a.k.length<=27:=by
  by_cases h1:(a.k.length:Int)>27
  ·rw[decide_eq_true h1] at hb;simp at hb
  ·by_cases h2:(a.z.length:Int)>5
   ·rw[decide_eq_true h2] at hb;simp at hb
   ·by_cases h3:(a.b.length:Int)>27
    ·rw[decide_eq_true h3] at hb;simp at hb
    ·by_cases h4:(a.l.length:Int)>26
     ·rw[decide_eq_true h4] at hb;simp at hb
     ·omega
 obtain⟨l1,l2,l3,l4⟩:=hl
 have k1:a.l.length<1073741824:=by omega
 have k2:a.b.length<1073741824:=by omega
 have k3:a.z.length<1073741824:=by omega
 have k4:a.k.length<1073741824:=by omega
 have k5:a.l.length<4611686018427387904:=by omega
 have k6:a.b.length<4611686018427387904:=by omega
 obtain⟨f1,f2,f3⟩:=BQR a.l
 have f4:(IP a.l).r.l.length<1073741824:=by omega
 have f5:(IP a.l).r.b.length<1073741824:=by omega
 have f6:(IP a.l).k.length<1073741824:=by omega
 have f7:IntKind.i64.wrap (((IP a.l).r.l.length:Int)-1)=((IP a.l).r.l.length:Int)-1:=JH (by omega) (by omega)
 have f8:=CPB a.l
 rw[f7]
 refine⟨⟨0,rfl,⟨l1,l2,l3,l4,Nat.zero_le _,λj hj=>absurd hj (Nat.not_lt_zero _)⟩⟩,λx hX=>⟨λhlt=>⟨⟨by omega,hlt⟩,λhs=>⟨x+1,(CN (by omega)).symm,⟨l1,l2,l3,l4,by omega,λj hj=>?_⟩,by omega⟩⟩,λhge=>?_⟩⟩
 ·by_cases q:j<x
  ·exact hX.hs j q
  ·obtain rfl:j=x:=by omega
   omega
 have hs:∀i,i<a.k.length->(gD a.k i).length<1073741824:=λi hi=>by
  have:=hX.hs i (by omega)
  omega
 by_cases he:(IP a.l).e=0
 ·obtain⟨hc,W⟩:=AXR he
  obtain⟨p1,p2⟩:=CIO W hc
  obtain⟨p3,p4⟩:=CHN he
  simp[p1,p2,p3,p4,he,k1,k2,k3,k4,k5,k6,f1,f4,f5,f6]
  exact⟨hs,f8,hs⟩
 ·simp[he,k1,k2,k3,k4,k5,k6,f1,f4,f5,f6]
  exact hs
theorem CSU(a:PaA):FnT Try.prog BCY (xPa a) (AD []) (.bool true) []:=Mn (A:=A_Pa a) (ren:=[]) (fz:=[]) BQX (by kernel_rfl) (AC CAD (AC CQX (AC BHK (AC CIA (AC CHM (AC BGE (AC CAU (AC BMC (AC BQW (AC BBJ (AC CHR (AC CIB (AC CBR (AC BLP (AC BYN (AC BQM (AC COG (AC BUA (AC CFJ AE))))))))))))))))))) (p_Pa a)
end Go.Bal

set_option maxRecDepth 100000
namespace Go.Bal
open Go Go.Sym Go.Proofs Go.ChangeShapes Go.WideShapes Go.RowKit
theorem BES{α:Type}[Inhabited α](f:Nat->α){n i:Nat}(h:i<n):gD ((List.range n).map f) i=f i:=by
 simp[gD,List.getD_eq_getElem?_getD,h]
def Vn(w:World):Jk:=λb=>match w.heap[b]? with
 |some (.cells c _ _)=>some c
 |_=>none
theorem CBW(w:World)(ι:Nat->Pl):HRel (Vn w) ι (AD []) w:=by
 refine⟨λi o h=>by simp[AD,MA] at h,λi j o o' h=>by simp[AD,MA] at h,λi o h=>by simp[AD,MA] at h,λb c h=>?_⟩
 unfold Vn at h
 split at h
 ·rename_i c' e fr hc
  cases h
  exact⟨e,fr,hc⟩
 ·cases h
theorem ACC{w:World}{b off:Nat}{v:Value}(h:w.cell? ⟨b,off,none⟩=some v):∃c,Vn w b=some c/\c[off]?=some v:=by
 unfold World.cell? at h
 simp only at h
 split at h
 ·rename_i c e fr hc
  simp only[Option.isSome_none,Bool.false_eq_true,↓reduceIte] at h
  exact⟨c,by unfold Vn;rw[hc],h⟩
 ·cases h
section
variable {X : Type} {enc : TypeId × Value -> X} {P : Program} {w : World} {base : Nat} {spare : Nat -> Bool} {held : Bool}
def ASA(X:Type)(enc:TypeId×Value->X)(P:Program)(w:World)(base:Nat)(spare:Nat->Bool)(held:Bool)(e:TypeId)(k:Nat){α:Type}(en:α->DVal):Prop:=
 P.cellsOf e=k/\∀(fuel:Nat) (cs:List Value) (x:DataW X×List MemPlace),DataW.trod enc P w base spare held fuel e cs=some x->cs.length=k->∃d:α,(en d).cells1=cs.map DVal.v/\HJ (en d).cells1=true
theorem BBD{α:Type}[Inhabited α]{t e:TypeId}{k:Nat}{en:α->DVal}(hk:0<k)(ht:P.underlying t=some (.slice e))(he:ASA X enc P w base spare held e k en){fuel:Nat}{v:Value}{x:DataW X×List MemPlace}
  (h:DataW.trod enc P w base spare held fuel t [v]=some x):∃l:List α,DRel (Vn w) (lst k l.length λi=>en (gD l i)) v:=by
 rcases DataW.trod_slice ht h with⟨h0,_⟩ | ⟨a,len,cap,elems,rest,n,_,hv,_,hb,hl,hm,hlen,hel,_⟩
 ·cases h0
  exact⟨[],.nil (λh=>by cases h) (.inl rfl)⟩
 ·cases hv
  by_cases h0:len=0
  ·subst h0
   exact⟨[],.nil (λh=>by cases h) (.inr (by simp))⟩
  obtain⟨hck,hE⟩:=he
  have each:∀i,∃(d:α) (cs:List Value),i<len->w.cells? base (a.add (i*k)) k=some cs/\(en d).cells1=cs.map DVal.v/\HJ (en d).cells1=true:=by
   intro i
   by_cases hi:i<len
   ·have h1:=hel i hi
    have h2:elems[i]?=some (elems[i]'(by omega)):=List.getElem?_eq_getElem (by omega)
    rw[h2,Option.bind_eq_some_iff] at h1
    obtain⟨cs,h3,h4⟩:=h1
    rw[hck] at h3
    obtain⟨d,h5⟩:=hE n cs _ h4 (World.cells?_some h3).2.1
    exact⟨d,cs,λ_=>⟨h3,h5⟩⟩
   ·exact⟨default,[],λh=>absurd h hi⟩
  have cell:∀i j,i<len->j<k->∃y,(en (Classical.choose (each i))).cells1[j]?=some (.v y)/\w.cell? ((a.add (i*k)).add j)=some y:=by
   intro i j hi hj
   obtain⟨cs,hcs⟩:=Classical.choose_spec (each i)
   obtain⟨h1,h2,_⟩:=hcs hi
   obtain⟨_,h3,h4⟩:=World.cells?_some h1
   have h5:cs[j]?=some (cs[j]'(by omega)):=List.getElem?_eq_getElem (by omega)
   refine⟨cs[j]'(by omega),?_,?_⟩
   ·rw[h2,List.getElem?_map,h5];rfl
   ·rw[h4 j hj,h5]
  have hspot:a.spot=none:=by
   obtain⟨y,_,h1⟩:=cell 0 0 (by omega) hk
   have:=World.cell?_spot h1
   simpa[Addr.add] using this
  obtain⟨b,off,spot⟩:=a
  simp only at hspot
  subst hspot
  have cell':∀i j,i<len->j<k->∃y,(en (Classical.choose (each i))).cells1[j]?=some (.v y)/\w.cell? ⟨b,off+i*k+j,none⟩=some y:=by
   intro i j hi hj
   obtain⟨y,h1,h2⟩:=cell i j hi hj
   refine⟨y,h1,?_⟩
   have:((Addr.mk b off none).add (i*k)).add j=⟨b,off+i*k+j,none⟩:=by
    unfold Addr.add
    split<;>split<;>simp_all
   rw[<-this];exact h2
  obtain⟨y0,_,hc0⟩:=cell' 0 0 (by omega) hk
  obtain⟨c,hB,_⟩:=ACC hc0
  have at':∀i j,i<len->j<k->∃y,(en (Classical.choose (each i))).cells1[j]?=some (.v y)/\c[off+i*k+j]?=some y:=by
   intro i j hi hj
   obtain⟨y,h1,h2⟩:=cell' i j hi hj
   obtain⟨c',h3,h4⟩:=ACC h2
   rw[hB] at h3;cases h3
   exact⟨y,h1,h4⟩
  have hg:∀i,i<len->gD ((List.range len).map λi=>Classical.choose (each i)) i=Classical.choose (each i):=λi hi=>BES _ hi
  have hll:((List.range len).map λi=>Classical.choose (each i)).length=len:=by simp
  refine⟨(List.range len).map λi=>Classical.choose (each i),?_⟩
  rw[hll]
  have e1:∀i,i<len->(en (Classical.choose (each i))).cells1.length=k:=by
   intro i hi
   obtain⟨cs,hcs⟩:=Classical.choose_spec (each i)
   obtain⟨h1,h2,_⟩:=hcs hi
   rw[h2,List.length_map];exact (World.cells?_some h1).2.1
  refine DRel.list (by omega) hB hl (λh=>by cases h) (λi hi=>?_) ?_ (λi j x y hi hx hy=>?_)
  ·rw[hg i hi]
   obtain⟨cs,hcs⟩:=Classical.choose_spec (each i)
   exact⟨e1 i hi,(hcs hi).2.2⟩
  ·obtain⟨y,_,h1⟩:=at' (len-1) (k-1) (by omega) (by omega)
   have h2:=(Array.getElem?_eq_some_iff.1 h1).1
   have h3:len*k=(len-1)*k+k:=by
    obtain⟨m,rfl⟩:∃m,len=m+1:=⟨len-1,by omega⟩
    rw[Nat.add_sub_cancel,Nat.succ_mul]
   omega
  ·rw[hg i hi] at hx
   have hj:j<k:=by
    have:=(List.getElem?_eq_some_iff.1 hx).1
    have:=e1 i hi
    omega
   obtain⟨z,h1,h2⟩:=at' i j hi hj
   rw[h1] at hx;rw[h2] at hy
   cases hx;cases hy
   exact .v _
theorem CCB{e:TypeId}(he:P.underlying e=some (.int .i64))(hc:P.cellsOf e=1):ASA X enc P w base spare held e 1 QH:=by
 refine⟨hc,λfuel cs x h hl=>?_⟩
 obtain⟨n,rfl,_,_⟩:=DataW.trod_int he h
 exact⟨n,rfl,rfl⟩
theorem AIQ{e:TypeId}{fuel:Nat}{cs:List Value}{x:DataW X×List MemPlace}(he:P.underlying e=some (.int .i64))(h:DataW.trod enc P w base spare held fuel e cs=some x):∃n,cs=[.int .i64 n]:=by
 obtain⟨n,h1,_,_⟩:=DataW.trod_int he h
 exact⟨n,h1⟩
end
section
variable {X : Type} {enc : TypeId × Value -> X} {w : World} {base : Nat} {spare : Nat -> Bool} {held : Bool}
theorem BQA:ASA X enc Try.prog w base spare held 28 2 ePt:=by
 refine⟨by kernel_rfl,λfuel cs x h hl=>?_⟩
 obtain⟨xs,n,_,_,_,hx,hf⟩:=DataW.trod_struct Tryz.underlying28 h
 have hx:xs.length=2:=hx
 have c3:Try.prog.cellsOf 3=1:=by kernel_rfl
 match cs,hl with
 |[a,b],_=>
  have h0:DataW.trod enc Try.prog w base spare held n 3 (([a,b].drop 0).take (Try.prog.cellsOf 3))=xs[0]?:=hf 0 _ rfl
  have h1:DataW.trod enc Try.prog w base spare held n 3 (([a,b].drop 1).take (Try.prog.cellsOf 3))=xs[1]?:=hf 1 _ rfl
  rw[c3] at h0 h1
  rw[List.getElem?_eq_getElem (by omega)] at h0 h1
  obtain⟨p,hp⟩:=AIQ Tryz.underlying3 h0
  obtain⟨q,hq⟩:=AIQ Tryz.underlying3 h1
  simp only[List.drop_zero,List.drop_succ_cons,List.take_succ_cons,List.take_zero,List.cons.injEq,and_true] at hp hq
  subst hp hq
  exact⟨⟨p,q⟩,rfl,rfl⟩
theorem BZL:ASA X enc Try.prog w base spare held 30 3 jI:=by
 refine⟨by kernel_rfl,λfuel cs x h hl=>?_⟩
 obtain⟨xs,n,_,_,_,hx,hf⟩:=DataW.trod_struct Tryz.underlying30 h
 have hx:xs.length=2:=hx
 have c3:Try.prog.cellsOf 3=1:=by kernel_rfl
 have c28:Try.prog.cellsOf 28=2:=by kernel_rfl
 match cs,hl with
 |[a,b,c],_=>
  have h0:DataW.trod enc Try.prog w base spare held n 3 (([a,b,c].drop 0).take (Try.prog.cellsOf 3))=xs[0]?:=hf 0 _ rfl
  have h1:DataW.trod enc Try.prog w base spare held n 28 (([a,b,c].drop 1).take (Try.prog.cellsOf 28))=xs[1]?:=hf 1 _ rfl
  rw[c3] at h0
  rw[c28] at h1
  rw[List.getElem?_eq_getElem (by omega)] at h0 h1
  obtain⟨p,hp⟩:=AIQ Tryz.underlying3 h0
  simp only[List.drop_zero,List.drop_succ_cons,List.take_succ_cons,List.take_zero,List.cons.injEq,and_true] at hp h1
  subst hp
  obtain⟨⟨s,t⟩,he,_⟩:=BQA.2 n _ _ h1 rfl
  have he:[DVal.v (.int .i64 s),DVal.v (.int .i64 t)]=[DVal.v b,DVal.v c]:=he
  cases he
  exact⟨⟨p,s,t⟩,rfl,rfl⟩
theorem CCN:ASA X enc Try.prog w base spare held 3 1 QH:=CCB Tryz.underlying3 (by kernel_rfl)
theorem CBX{v:Value}{d:DataW X}{ps:List MemPlace}{r:Go.Reach}{b0:Nat}(hv:Value.okWide Try.prog w r b0 22 v)(h:DataW.Trod enc Try.prog w base spare held 22 v d ps):∃l:List Gau,DRel (Vn w) (BX l) v:=by
 obtain⟨a,len,cap,rfl⟩:=okWide_slice Tryz.underlying22 hv
 obtain⟨fuel,hf⟩:=h
 exact BBD (by omega) Tryz.underlying22 BZL hf
theorem BEF{v:Value}{d:DataW X}{ps:List MemPlace}{r:Go.Reach}{b0:Nat}(hv:Value.okWide Try.prog w r b0 23 v)(h:DataW.Trod enc Try.prog w base spare held 23 v d ps):∃l:List Int,DRel (Vn w) (CZ l) v:=by
 obtain⟨a,len,cap,rfl⟩:=okWide_slice Tryz.underlying23 hv
 obtain⟨fuel,hf⟩:=h
 exact BBD (by omega) Tryz.underlying23 CCN hf
theorem CDX{v:Value}{d:DataW X}{ps:List MemPlace}{r:Go.Reach}{b0:Nat}(hv:Value.okWide Try.prog w r b0 3 v)(h:DataW.Trod enc Try.prog w base spare held 3 v d ps):∃n:Int,(-9223372036854775808<=n/\n<=9223372036854775807)/\DRel (Vn w) (.v (.int .i64 n)) v:=by
 obtain⟨m,rfl⟩:=okWide_int Tryz.underlying3 hv
 obtain⟨fuel,hf⟩:=h
 obtain⟨n,e,_,hw⟩:=DataW.trod_int Tryz.underlying3 hf
 have e:[Value.int .i64 m]=[.int .i64 n]:=e
 cases e
 have hw:(decide (IntKind.i64.min<=m)&&decide (m<=IntKind.i64.max))=true:=hw
 simp only[Bool.and_eq_true,decide_eq_true_eq] at hw
 have e1:IntKind.i64.min=-9223372036854775808:=rfl
 have e2:IntKind.i64.max=9223372036854775807:=rfl
 exact⟨m,⟨by omega,by omega⟩,.v _⟩
end
theorem BSE{g:FuncId}{xs:List AVal}(hg:FnT Try.prog g xs (AD []) (.bool true) []){w:World}{vs:Array Value}(hl:vs.size=xs.length)
  (hx:∀(j:Nat) (a:AVal) (y:Value),xs[j]?=some a->vs[j]?=some y->∃d,a=.d d/\DRel (Vn w) d y) :
  Calls Try.prog g vs w λe w'=>e=.returned (.bool true)/\Below w.heap.size w w':=by
 refine (hg.2 (Vn w) (λ_=>⟨0,0⟩) w vs ⟨hl,λj a y ha hy=>?_⟩ (CBW w _)).mono λe w' ⟨v,H',he,_,B',ι',hm,hv⟩=>?_
 ·obtain⟨d,rfl,hd⟩:=hx j a y ha hy
  exact .d hd
 ·subst he
  cases hv with
  |d hd=>
   cases hd
   exact⟨rfl,hm.calm.os,hm.calm.tape,hm.calm.output,hm.size,λk hk=>hm.frame k hk λi o h=>by simp[AD,MA] at h⟩
end Go.Bal

set_option maxRecDepth 100000
namespace Go.Bal
open Go Go.Sym Go.Proofs Go.ChangeShapes Go.WideShapes Go.RowKit
section
variable {X : Type} {enc : TypeId × Value -> X} {P : Program} {w : World} {base : Nat} {spare : Nat -> Bool} {held : Bool}
theorem BYO{α:Type}[Inhabited α]{t e:TypeId}{en:α->DVal}(ht:P.underlying t=some (.slice e))(hck:P.cellsOf e=1)(hone:∀d,(en d).cells1=[en d]/\HJ [en d]=true)
  (hE:∀(fuel:Nat) (v:Value) (x:DataW X×List MemPlace),DataW.trod enc P w base spare held fuel e [v]=some x->∃d:α,DRel (Vn w) (en d) v) {fuel:Nat} {v:Value} {x:DataW X×List MemPlace}
  (h:DataW.trod enc P w base spare held fuel t [v]=some x):∃l:List α,DRel (Vn w) (lst 1 l.length λi=>en (gD l i)) v:=by
 rcases DataW.trod_slice ht h with⟨h0,_⟩ | ⟨a,len,cap,elems,rest,n,_,hv,_,hb,hl,hm,hlen,hel,_⟩
 ·cases h0
  exact⟨[],.nil (λh=>by cases h) (.inl rfl)⟩
 ·cases hv
  by_cases h0:len=0
  ·subst h0
   exact⟨[],.nil (λh=>by cases h) (.inr (by simp))⟩
  have each:∀i,∃(d:α) (y:Value),i<len->w.cell? (a.add (i*1))=some y/\DRel (Vn w) (en d) y:=by
   intro i
   by_cases hi:i<len
   ·have h1:=hel i hi
    have h2:elems[i]?=some (elems[i]'(by omega)):=List.getElem?_eq_getElem (by omega)
    rw[h2,Option.bind_eq_some_iff] at h1
    obtain⟨cs,h3,h4⟩:=h1
    rw[hck] at h3
    obtain⟨_,hcl,hcc⟩:=World.cells?_some h3
    match cs,hcl with
    |[y],_=>
     obtain⟨d,h5⟩:=hE n y _ h4
     refine⟨d,y,λ_=>⟨?_,h5⟩⟩
     have:=hcc 0 (by omega)
     have e0:(a.add (i*1)).add 0=a.add (i*1):=by
      unfold Addr.add
      split<;>split<;>simp_all
     rw[e0] at this
     exact this
   ·exact⟨default,default,λh=>absurd h hi⟩
  have hspot:a.spot=none:=by
   obtain⟨y,hy⟩:=Classical.choose_spec (each 0)
   have:=World.cell?_spot (hy (by omega)).1
   simpa[Addr.add] using this
  obtain⟨b,off,spot⟩:=a
  simp only at hspot
  subst hspot
  have cell':∀i,i<len->∃y,DRel (Vn w) (en (Classical.choose (each i))) y/\w.cell? ⟨b,off+i*1,none⟩=some y:=by
   intro i hi
   obtain⟨y,hy⟩:=Classical.choose_spec (each i)
   obtain⟨h1,h2⟩:=hy hi
   refine⟨y,h2,?_⟩
   have:(Addr.mk b off none).add (i*1)=⟨b,off+i*1,none⟩:=by
    unfold Addr.add
    split<;>simp_all
   rw[<-this];exact h1
  obtain⟨y0,_,hc0⟩:=cell' 0 (by omega)
  obtain⟨c,hB,_⟩:=ACC hc0
  have at':∀i,i<len->∃y,DRel (Vn w) (en (Classical.choose (each i))) y/\c[off+i*1]?=some y:=by
   intro i hi
   obtain⟨y,h1,h2⟩:=cell' i hi
   obtain⟨c',h3,h4⟩:=ACC h2
   rw[hB] at h3;cases h3
   exact⟨y,h1,h4⟩
  have hg:∀i,i<len->gD ((List.range len).map λi=>Classical.choose (each i)) i=Classical.choose (each i):=λi hi=>BES _ hi
  have hll:((List.range len).map λi=>Classical.choose (each i)).length=len:=by simp
  refine⟨(List.range len).map λi=>Classical.choose (each i),?_⟩
  rw[hll]
  refine DRel.list (by omega) hB hl (λh=>by cases h) (λi hi=>?_) ?_ (λi j x y hi hx hy=>?_)
  ·exact⟨by rw[(hone _).1];rfl,by rw[(hone _).1];exact (hone _).2⟩
  ·obtain⟨y,_,h1⟩:=at' (len-1) (by omega)
   have h2:=(Array.getElem?_eq_some_iff.1 h1).1
   omega
  ·rw[hg i hi,(hone _).1] at hx
   match j with
   |0=>
    cases hx
    obtain⟨z,h1,h2⟩:=at' i hi
    rw[Nat.add_zero,h2] at hy
    cases hy
    exact h1
   |j+1=>simp at hx
end
section
variable {X : Type} {enc : TypeId × Value -> X} {w : World} {base : Nat} {spare : Nat -> Bool} {held : Bool}
theorem BSB{v:Value}{d:DataW X}{ps:List MemPlace}{r:Go.Reach}{b0:Nat}(hv:Value.okWide Try.prog w r b0 24 v)(h:DataW.Trod enc Try.prog w base spare held 24 v d ps):∃l:List (List Int),DRel (Vn w) (lst 1 l.length λi=>CZ (gD l i)) v:=by
 obtain⟨a,len,cap,rfl⟩:=okWide_slice Tryz.underlying24 hv
 obtain⟨fuel,hf⟩:=h
 exact BYO Tryz.underlying24 (by kernel_rfl) (λd=>⟨rfl,rfl⟩) (λfuel v x h=>BBD (by omega) Tryz.underlying23 CCN h) hf
end
end Go.Bal
