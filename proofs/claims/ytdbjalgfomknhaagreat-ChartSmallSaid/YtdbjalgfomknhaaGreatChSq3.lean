/- ChartSmall: one number of an example is another one (24 to 31). -/
import Derived.Test.YtdbjalgfomknhaaGreatChSm1
import Derived.Test.YtdbjalgfomknhaaGreatChSm5
import Derived.Test.YtdbjalgfomknhaaGreatChSm6
import Derived.Test.YtdbjalgfomknhaaGreatChSm7
import Derived.Test.YtdbjalgfomknhaaGreatChSq1
import Derived.Test.YtdbjalgfomknhaaGreatChZg
import Derived.Test.YtdbjalgfomknhaaGreatRows
import Derived.WalkKit
import Derived.ProofKit
import Derived.OpenShut
import Derived.ShutString
import Derived.ChangeOld
import Derived.Below
import Derived.ChangeArms
set_option linter.unusedVariables false
set_option linter.unusedSimpArgs false
namespace Go.Bal
open Go Go.Sym Go.Proofs
def CCM(w:One):Prop:=NT Try.prog A_Cs Lp 11 (Tn 24) (AJ IR) [] To
theorem CLG(w:One):(CCM w)=(AB (λi=>GN i (λj=>HC j i (λk=>Bl k i 24 8 j 24 (λl=>XC l k 24 l (λm=>KV m l (LD l m) (KZ l m) (EG l m) m (KY l m) (EE l m) m) l (XJ l HN (λm=>QA m l) (QO l) (Wp (PV l) k) l l l l) i j))))):=by kernel_rfl
def BYQ(w:One):Prop:=NT Try.prog A_Cs Lp 11 (Tn 25) (AJ IR) [] To
theorem CLJ(w:One):(BYQ w)=(AB (λi=>GN i (λj=>HC j i (λk=>Bl k i 25 7 j 25 (λl=>XC l k 25 l (λm=>KV m l (LD l m) (KZ l m) (EG l m) m (KY l m) (EE l m) m) l (WP l HN (λm=>QA m l) (QO l) (QY l) (Wp (CsR.y l) k) l l l) i j))))):=by kernel_rfl
def BXZ(w:One):Prop:=NT Try.prog A_Cs Lp 11 (Tn 26) (AJ IR) [] To
theorem CLU(w:One):(BXZ w)=(AB (λi=>GN i (λj=>HC j i (λk=>PU k i 26 6 j 26 0 1 (λl=>LG l k 26 (VF l HN (λm=>LL m (WS l) (Sb m k (LV OL (BG m))) (RB m (LU OL 0) (LU OL (BG m)))) KT (UL l (λm=>KV m l (LD l m) (KZ l m) (EG l m) m (KY l m) (EE l m) m) (QK l (KG l l l l l l l l)))) i j))))):=by kernel_rfl
def CHG(w:One):Prop:=NT Try.prog A_Cs Lp 11 (Tn 27) (AJ IR) [] To
theorem CLX(w:One):(CHG w)=(AB (λi=>GN i (λj=>HC j i (λk=>PU k i 27 5 j 27 0 1 (λl=>LG l k 27 (VF l HN (λm=>LL m (WS l) (RB m (LV OL 0) (LV OL (BG m))) (Sb m k (LU OL (BG m)))) KT (UL l (λm=>KV m l (LD l m) (KZ l m) (EG l m) m (KY l m) (EE l m) m) (QK l (KG l l l l l l l l)))) i j))))):=by kernel_rfl
def CEU(w:One):Prop:=NT Try.prog A_Cs Lp 11 (Tn 28) (AJ IR) [] To
theorem CMP(w:One):(CEU w)=(AB (λi=>GN i (λj=>HC j i (λk=>Bl k i 28 4 j 28 (λl=>XC l k 28 l (λm=>KV m l (LD l m) (KZ l m) (EG l m) m (KY l m) (EE l m) m) l (UW l HN (λm=>QA m l) (QO l) (QY l) (SB l) (Wp (CsR.f l) k) l l) i j))))):=by kernel_rfl
def BXQ(w:One):Prop:=NT Try.prog A_Cs Lp 11 (Tn 29) (AJ IR) [] To
theorem COA(w:One):(BXQ w)=(AB (λi=>GN i (λj=>HC j i (λk=>Bl k i 29 3 j 29 (λl=>XC l k 29 l (λm=>KV m l (LD l m) (KZ l m) (EG l m) m (KY l m) (EE l m) m) l (UJ l HN (λm=>QA m l) (QO l) (QY l) (SB l) (TN l) (Wp (CsR.o l) k) l) i j))))):=by kernel_rfl
def CFS(w:One):Prop:=NT Try.prog A_Cs Lp 11 (Tn 30) (AJ IR) [] To
theorem CIR(w:One):(CFS w)=(AB (λi=>GN i (λj=>HC j i (λk=>Bl k i 30 2 j 30 (λl=>XC l k 30 l (λm=>KV m l (LD l m) (KZ l m) (EG l m) m (KY l m) (EE l m) m) l (SJ l HN (λm=>QA m l) (QO l) (QY l) (SB l) (TN l) (AY (CsR.o l) 110) (SH l (JX k))) i j))))):=by kernel_rfl
def CCC(w:One):Prop:=NT Try.prog A_Cs Lp 11 (Tn 31) (AJ IR) [] To
theorem CMO(w:One):(CCC w)=(AB (λi=>GN i (λj=>HC j i (λk=>PU k i 31 1 j 31 0 2 (λl=>XC l k 31 l (λm=>So m l (XO (Rr l m) (RB m (Vg 0) (Rf m)) (Nf (EG l m) m (JX k) (Rp m)) (EG l m) (RB m (dG 0) (Sc m)) (Nf (EE l m) m (BH jY) (Ta m)) (EE l m) (RB m (BK jY) (Re m)))) l (KG l l l l l l l l) i j))))):=by kernel_rfl
theorem CVC(w:One):CCM w:=by
 rw[CLG]<;> delta BH BK DY EM EO CH AB CJ CE AY CG MY CW HD KA IG EB FX EC GY GX GR GG DV FO FU FP FS IV ED JM JF GA QB QT SS TP Az SO YT VT HB XW WS AH CK AX AI BC AV AF BI MK AQ BB AC CN BF AE AO BD DD AZ DC BG BR BE BS BJ UT CI GQ BL CY ER FL EV CF AG BX CU HO DN MW CX DU IC DR PC LU HH FG LV XU HN ZA DX HE ZM CR PD GT EX CV HT AU PX DO DI OB HW FI NN SP PL JI EE JU LM EG JW SU GK KT MH OJ KR QH JZ GM GH FA MP PW GO OL CL OA LL NY SV PS SQ PM UM RY QU PV NH RX IY PZ OW RF QX OI SH QO SB TN QA MM RH OX PK TL JX GN SR RN QL SX TH SJ TT UK TZ YA UJ SD TM TR HC VA UY XY UW UB WP SI UE VF UN TS VM TG XJ LD KZ KY TI QK TK UQ UL KV YN Mo LG XC Bl Wp
 exact λa h0 s h1 i h2 h3 h4 h5=>⟨by simp,WG h2 h3 h4 h5⟩
theorem CUR(w:One):BYQ w:=by
 rw[CLJ]<;> delta BH BK DY EM EO CH AB CJ CE AY CG MY CW HD KA IG EB FX EC GY GX GR GG DV FO FU FP FS IV ED JM JF GA QB QT SS TP Az SO YT VT HB XW WS AH CK AX AI BC AV AF BI MK AQ BB AC CN BF AE AO BD DD AZ DC BG BR BE BS BJ UT CI GQ BL CY ER FL EV CF AG BX CU HO DN MW CX DU IC DR PC LU HH FG LV XU HN ZA DX HE ZM CR PD GT EX CV HT AU PX DO DI OB HW FI NN SP PL JI EE JU LM EG JW SU GK KT MH OJ KR QH JZ GM GH FA MP PW GO OL CL OA LL NY SV PS SQ PM UM RY QU PV NH RX IY PZ OW RF QX OI SH QY QO TN QA MM RH OX PK TL JX GN SR RN QL SX TH SJ TT UK TZ YA UJ SD TM TR HC VA UY XY UW UB WP SI UE VF UN TS VM TG LD KZ KY TI QK TK UQ UL KV YN Mo LG XC Bl Wp
 exact λa h0 s h1 i h2 h3 h4 h5=>⟨by simp,WG h2 h3 h4 h5⟩
theorem CVL(w:One):BXZ w:=by
 rw[CLU]<;> delta BH BK DY EM EO CH AB CJ CE AY CG MY CW HD KA IG EB FX EC GY GX GR GG DV FO FU FP FS IV ED NR WW JM JF GA QB QT SS TP Az SO YT VT HB XW WS AH CK AX AI BC AV AF BI MK AQ BB AC CN BF AE AO BD DD AZ DC BG BR BE BS BJ UT CI GQ BL CY ER FL EV CF AG BX NU CU HO DN MW CX DU IC DR PC LU HH FG LV XU Bz HN ZA DX HE ZM CR PD GT EX CV HT AU PX DO DI OB HU HW FI NN SP PL JI EE JU LM EG JW SU GK KT MH OJ KR QH JZ GM GH FA MP PW GO OL CL OA LL SV PS SQ RY QU PV NH RX IY PZ RB OW RF QX OI SH QY QO SB TN QA MM RH OX PK TL JX GN SR RN QL SX TH SJ TT UK TZ YA UJ SD TM TR HC VA UY XY UW UB WP UE VF UN TS VM TG XJ LD KZ KY TI YL QK TK UL KV ZI KG LG PU Sb
 exact λa h0 s h1 i h2 h3 h4 h5=>⟨by simp,WG h2 h3 h4 h5⟩
theorem CYQ(w:One):CHG w:=by
 rw[CLX]<;> delta BH BK DY EM EO CH AB CJ CE AY CG MY CW HD KA IG EB FX EC GY GX GR GG DV FO FU FP FS IV ED NR WW JM JF GA QB QT SS TP Az SO YT VT HB XW WS AH CK AX AI BC AV AF BI MK AQ BB AC CN BF AE AO BD DD AZ DC BG BR BE BS BJ UT CI GQ BL CY ER FL EV CF AG BX NU CU HO DN MW CX DU IC DR PC LU HH FG LV XU Bz HN ZA DX HE ZM CR PD GT EX CV HT AU PX DO DI OB HU HW FI NN SP PL JI EE JU LM EG JW SU GK KT MH OJ KR QH JZ GM GH FA MP PW GO OL CL OA LL SV PS SQ RY QU PV NH RX IY PZ RB OW RF QX OI SH QY QO SB TN QA MM RH OX PK TL JX GN SR RN QL SX TH SJ TT UK TZ YA UJ SD TM TR HC VA UY XY UW UB WP UE VF UN TS VM TG XJ LD KZ KY TI YL QK TK UL KV ZI KG LG PU Sb
 exact λa h0 s h1 i h2 h3 h4 h5=>⟨by simp,WG h2 h3 h4 h5⟩
theorem CVH(w:One):CEU w:=by
 rw[CMP]<;> delta BH BK DY EM EO CH AB CJ CE AY CG MY CW HD KA IG EB FX EC GY GX GR GG DV FO FU FP FS IV ED JM JF GA QB QT SS TP Az SO YT VT HB XW WS AH CK AX AI BC AV AF BI MK AQ BB AC CN BF AE AO BD DD AZ DC BG BR BE BS BJ UT CI GQ BL CY ER FL EV CF AG BX CU HO DN MW CX DU IC DR PC LU HH FG LV XU HN ZA DX HE ZM CR PD GT EX CV HT AU PX DO DI OB HW FI NN SP PL JI EE JU LM EG JW SU GK KT MH OJ KR QH JZ GM GH FA MP PW GO OL CL OA LL NY SV PS SQ PM UM RY QU PV NH RX IY PZ OW RF QX OI SH QY QO SB QA MM RH OX PK TL JX GN SR RN QL SX TH SJ TT UK TZ YA UJ SD TM TR HC VA UY XY UW UB SI UE VF UN TS VM TG LD KZ KY TI QK TK UQ UL KV YN Mo LG XC Bl Wp
 exact λa h0 s h1 i h2 h3 h4 h5=>⟨by simp,WG h2 h3 h4 h5⟩
theorem CUZ(w:One):BXQ w:=by
 rw[COA]<;> delta BH BK DY EM EO CH AB CJ CE AY CG MY CW HD KA IG EB FX EC GY GX GR GG DV FO FU FP FS IV ED JM JF GA QB QT SS TP Az SO YT VT HB XW WS AH CK AX AI BC AV AF BI MK AQ BB AC CN BF AE AO BD DD AZ DC BG BR BE BS BJ UT CI GQ BL CY ER FL EV CF AG BX CU HO DN MW CX DU IC DR PC LU HH FG LV XU HN ZA DX HE ZM CR PD GT EX CV HT AU PX DO DI OB HW FI NN SP PL JI EE JU LM EG JW SU GK KT MH OJ KR QH JZ GM GH FA MP PW GO OL CL OA LL NY SV PS SQ PM UM RY QU PV NH RX IY PZ OW RF QX OI SH QY QO SB TN QA MM RH OX PK TL JX GN SR RN QL SX TH SJ TT UK TZ YA UJ SD TM TR HC VA UY XY UB SI UE VF UN TS VM TG LD KZ KY TI QK TK UQ UL KV YN Mo LG XC Bl Wp
 exact λa h0 s h1 i h2 h3 h4 h5=>⟨by simp,WG h2 h3 h4 h5⟩
theorem CWL(w:One):CFS w:=by
 rw[CIR]<;> delta BH BK DY EM EO CH AB CJ CE AY CG MY CW HD KA IG EB FX EC GY GX GR GG DV FO FU FP FS IV ED JM JF GA QB QT SS TP Az SO YT VT HB XW WS AH CK AX AI BC AV AF BI MK AQ BB AC CN BF AE AO BD DD AZ DC BG BR BE BS BJ UT CI GQ BL CY ER FL EV CF AG BX CU HO DN MW CX DU IC DR PC LU HH FG LV XU HN ZA DX HE ZM CR PD GT EX CV HT AU PX DO DI OB HW FI NN SP PL JI EE JU LM EG JW SU GK KT MH OJ KR QH JZ GM GH FA MP PW GO OL CL OA LL NY SV PS SQ PM UM RY QU PV NH RX IY PZ OW RF QX OI SH QY QO SB TN QA MM RH OX PK TL JX GN SR RN QL SX TH SJ TT UK TZ YA SD TM TR HC VA UY XY UB SI UE VF UN TS VM TG LD KZ KY TI QK TK UQ UL KV YN Mo LG XC Bl
 exact λa h0 s h1 i h2 h3 h4 h5=>⟨by simp,WG h2 h3 h4 h5⟩
theorem CVW(w:One):CCC w:=by
 rw[CMO]<;> delta BH BK DY EM EO CH AB CJ CE AY CG MY CW HD KA IG EB FX EC GY GX GR GG DV FO FU FP FS IV ED NR WW JM JF GA QB QT SS TP Az SO YT VT HB XW WS AH CK AX AI BC AV AF BI MK AQ BB AC CN BF AE AO BD AZ BG BR BE BS UT CI GQ BL CY ER FL EV CF AG BX NU HO DN MW DU IC PC LU HH FG LV XU Bz HN ZA DX HE ZM CR PD GT EX CV HT PX DO DI OB HU HW FI NN SP PL JI EE JU LM EG JW SU GK KT OJ KR QH JZ GM GH FA MP PW GO OL CL OA LL NY SV PS SQ PM UM RY QU PV NH RX IY PZ RB OW RF QX OI SH QY QO SB TN QA MM RH OX PK TL JX GN SR RN QL SX TH SJ TT UK TZ UJ SD TM TR HC VA UY UW UB WP SI UE VF UN TS VM TG XJ TI YL QK TK UQ UL Dy YN ZI Mo KG LG Vg PU Nf Vr XO Rf Re Rp XC Sc Ta Rr jY So dG
 exact λa h0 s h1 i h2 h3 h4 h5=>⟨by simp,WG h2 h3 h4 h5⟩
end Go.Bal

namespace Go.Bal
open Go Go.Sym Go.Proofs
def LC(n:Nat):Prop:=NT Try.prog A_Cs Lp 11 (Tn n) (AJ IR) [] To
theorem CTT(n:Nat)(h:n<32):LC n:=match n,h with
 |0,_=>CZX default
 |1,_=>DDX default
 |2,_=>DDQ default
 |3,_=>DEK default
 |4,_=>DDE default
 |5,_=>DDL default
 |6,_=>DAS default
 |7,_=>DBN default
 |8,_=>DCZ default
 |9,_=>DCE default
 |10,_=>CZD default
 |11,_=>CWS default
 |12,_=>CWP default
 |13,_=>CTS default
 |14,_=>CUI default
 |15,_=>CXJ default
 |16,_=>CYL default
 |17,_=>CVT default
 |18,_=>CZU default
 |19,_=>CTN default
 |20,_=>CZF default
 |21,_=>CVJ default
 |22,_=>CWZ default
 |23,_=>CYB default
 |24,_=>CVC default
 |25,_=>CUR default
 |26,_=>CVL default
 |27,_=>CYQ default
 |28,_=>CVH default
 |29,_=>CUZ default
 |30,_=>CWL default
 |31,_=>CVW default
 |n+32,h=>absurd h (by omega)
theorem DBK:L_Cs 11:=by
 refine BVX (I:=Fin 32) (λi=>Tn i.val) _ (λL y gs Q hL h=>?_) _ _ _ λi=>CTT i.val i.isLt
 obtain rfl:[cs11 (gs.getD 0 0) (gs.getD 1 0)]=L:=Option.some.inj hL
 intro s hs
 have:=h ⟨s.n,hs.2.2.1⟩ s.i hs.1 hs.2.1 hs.2.2.1 hs.2.2.2
 exact this
theorem BWB{k:Nat}(h:Lp k=true):k=11∨k=12∨k=15∨k=23∨k=28∨k=30∨k=32∨k=37∨k=41∨k=43∨k=50∨k=56∨k=61:=by
 simp only[Lp,Bool.or_eq_true,VN] at h;exact h
theorem CKW(k:Nat)(h:Lp k=true):L_Cs k:=by
 rcases BWB h with rfl | rfl | rfl | rfl | rfl | rfl | rfl | rfl | rfl | rfl | rfl | rfl | rfl
 ·exact DBK
 ·exact CUE default
 ·exact CZW default
 ·exact CWE default
 ·exact CXM default
 ·exact CUD default
 ·exact CYU default
 ·exact CYO default
 ·exact CVU default
 ·exact CVR default
 ·exact CUM default
 ·exact CZL default
 ·exact CUW default
theorem CUJ:GOk Try.prog A_Cs.Γ:=AA CME (AA CWR (AA CZA (AA CWW (AA ALC (AA AKB AK)))))
theorem DBC:FnT Try.prog BLI [] (AD []) (.bool true) []:=fntS (A:=A_Cs) (S:=Lp) (ren:=[]) (fz:=[]) BVN (by kernel_rfl) CUJ CKW (p_Cs default)
end Go.Bal

set_option maxRecDepth 100000
namespace Go.Bal
open Go Go.Sym Go.Proofs Go.ChangeShapes Go.WideShapes Go.RowKit
def BUQ(w:World):Wx:=λb=>match w.heap[b]? with
 |some (.cells c _ _)=>some c
 |_=>none
theorem CAI(w:World)(ι:Nat->Pl):HRel (BUQ w) ι (AD []) w:=by
 refine⟨λi o h=>by simp[AD,XH] at h,λi j o o' h=>by simp[AD,XH] at h,λi o h=>by simp[AD,XH] at h,λb c h=>?_⟩
 unfold BUQ at h
 split at h
 ·rename_i c' e fr hc
  cases h
  exact⟨e,fr,hc⟩
 ·cases h
section
variable {X : Type} {enc : TypeId × Value -> X} {P : Program} {w : World} {base : Nat} {spare : Nat -> Bool} {held : Bool}
end
section
variable {X : Type} {enc : TypeId × Value -> X} {w : World} {base : Nat} {spare : Nat -> Bool} {held : Bool}
end
theorem BVS{g:FuncId}{xs:List AVal}(hg:FnT Try.prog g xs (AD []) (.bool true) []){w:World}{vs:Array Value}(hl:vs.size=xs.length)
  (hx:∀(j:Nat) (a:AVal) (y:Value),xs[j]?=some a->vs[j]?=some y->∃d,a=.d d/\DRel (BUQ w) d y) :
  Calls Try.prog g vs w λe w'=>e=.returned (.bool true)/\Below w.heap.size w w':=by
 refine (hg.2 (BUQ w) (λ_=>⟨0,0⟩) w vs ⟨hl,λj a y ha hy=>?_⟩ (CAI w _)).mono λe w' ⟨v,H',he,_,B',ι',hm,hv⟩=>?_
 ·obtain⟨d,rfl,hd⟩:=hx j a y ha hy
  exact .d hd
 ·subst he
  cases hv with
  |d hd=>
   cases hd
   exact⟨rfl,hm.calm.os,hm.calm.tape,hm.calm.output,hm.size,λk hk=>hm.frame k hk λi o h=>by simp[AD,XH] at h⟩
end Go.Bal
