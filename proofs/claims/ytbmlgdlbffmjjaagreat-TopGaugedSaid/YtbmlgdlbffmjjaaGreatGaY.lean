/- Law TopGauged: its conditions hold. -/
import Derived.Test.YtbmlgdlbffmjjaaGreatGaX
set_option linter.unusedVariables false
set_option linter.unusedSimpArgs false
set_option maxRecDepth 8000
namespace Go.Bal
open Go Go.Sym Go.Proofs
theorem CPG(s:Stm):Stm.mk s.bs s.used s.mix=s:=rfl
def tgZ(x:TgI)(r:Bool)(k:Nat):TgZ:=match r with
 |false=>⟨k,nA (Vv (MZ x k)),nB (Vv (MZ x k)),bA (Vv (MZ x k)),Zo (MZ x k),flV (Zo (MZ x k))⟩
 |true=>⟨k,nA (Vv (MZ x k)),nB (Vv (MZ x k)),bB (Vv (MZ x k)),Zf (MZ x k),flV (Zf (MZ x k))⟩
theorem BOO{x:TgI}{n:Bool}{m:Nat}{P:Tg11->Prop}(h:∀k,tgI x n m k->P ⟨k,nA (Vv (MZ x k)),nB (Vv (MZ x k))⟩):∀z:Tg11,tgI x n m z.k/\z.la=nA (Vv (MZ x z.k))/\z.lb=nB (Vv (MZ x z.k))->P z:=by
 rintro⟨k,la,lb⟩ ⟨hi,h1,h2⟩
 obtain rfl:la=nA (Vv (MZ x k)):=h1
 obtain rfl:lb=nB (Vv (MZ x k)):=h2
 exact h k hi
theorem Mv{x:TgI}{n r:Bool}{m:Nat}{P:TgZ->Prop}(h:∀k,tgI x n m k->P (tgZ x r k)):∀z:TgZ,tgW x n r m z->P z:=by
 rintro⟨k,la,lb,s,v,f⟩ ⟨hi,h1,h2,h3⟩
 obtain rfl:la=nA (Vv (MZ x k)):=h1
 obtain rfl:lb=nB (Vv (MZ x k)):=h2
 cases r
 ·obtain⟨h3,h4,h5⟩:=h3
  obtain rfl:s=bA (Vv (MZ x k)):=h3
  obtain rfl:v=Zo (MZ x k):=h4
  obtain rfl:f=flV (Zo (MZ x k)):=h5
  exact h k hi
 ·obtain⟨h3,h4,h5⟩:=h3
  obtain rfl:s=bB (Vv (MZ x k)):=h3
  obtain rfl:v=Zf (MZ x k):=h4
  obtain rfl:f=flV (Zf (MZ x k)):=h5
  exact h k hi
theorem Nf{x:TgI}{n r:Bool}{m k:Nat}(h:tgI x n m k):tgW x n r m (tgZ x r k):=by
 cases r
 ·exact⟨h,rfl,rfl,rfl,rfl,rfl⟩
 ·exact⟨h,rfl,rfl,rfl,rfl,rfl⟩
theorem two{j:Nat}(h:j<2):j=0∨j=1:=by omega
theorem cnd1{p:Span}{t:Int}(h:p.lo<=t/\t<=p.hi):(bif decide (p.lo>t) then true else decide (p.hi<t))=false:=by
 rw[decide_eq_false (show ¬ p.lo>t by omega),decide_eq_false (show ¬ p.hi<t by omega)];rfl
theorem cnd2{f:Span}{t:Int}(ht:5<=t/\t<=300)(h:f.lo<=100*t/\100*t<=f.hi):(bif wr (100*t) != IntKind.i64.wrap (100*t) then true else !MN (wr (100*t)) f.lo f.hi)=false:=by
 have e:wr (100*t)=100*t:=Ab (by omega) (by omega)
 rw[show (wr (100*t) != IntKind.i64.wrap (100*t))=false from by show (wr (100*t) != wr (100*t))=false;rw[bne_self_eq_false],e]
 unfold MN
 rw[decide_eq_true h.1,decide_eq_true h.2];rfl
theorem LY{t:Int}(ht:5<=t/\t<=300)(v:Vt):wr (100*t)=reV ⟨v,t,10⟩:=by
 unfold reV
 simp only
 have e1:wr (10*t)=10*t:=Ab (by omega) (by omega)
 have e2:wr (10*t*10)=10*t*10:=Ab (by omega) (by omega)
 rw[e1,e2]
 congr 1;omega
theorem ABM{a b c:Int}(h:b<=a/\a<=c):MN a b c=true:=by
 unfold MN;rw[decide_eq_true h.1,decide_eq_true h.2];rfl
theorem COM{x:TgI}(h:TgHx x):0<=tgT x/\tgT x<=2000:=by
 have a:=ABZ h.w.1 (show (0:Int)<2001 by omega)
 exact⟨a.1,by have:=a.2;show x.w.tmod 2001<=2000;omega⟩
theorem CON{x:TgI}(h:TgHx x):(∀g∈(tgE x).a,GaOk g)/\(∀g∈(tgE x).b,GaOk g)/\Wid (tgE x).b (tgE x).a:=BTP h _ (by have:=AZT h;omega)
theorem CEK{x:TgI}(h:TgHx x):(1<=(tgE x).a.length/\(tgE x).a.length<=6)/\1<=(tgE x).b.length/\(tgE x).b.length<=6:=by
 have a:=hZ x (gG x).toNat
 have b:=AZT h
 unfold tgE
 rw[a.1,a.2];omega
theorem cnd3{a b c:Int}{n m:Nat}{t:Bool}(h1:a=0)(h2:b=0)(h3:c=0)(h4:n=0)(h5:m=1)(h6:t=true):(bif bif bif bif bif a != 0 then true else b != 0 then true else c != 0 then true else decide ((n:Int)>0) then true else (m:Int) != 1 then true else !t)=false:=by
 subst h1 h2 h3 h4 h5 h6;rfl
theorem cnd4{a b:Bool}(h:a=true/\b=true):true=bif a&&b then true else false:=by
 rw[h.1,h.2];rfl
theorem app1{l:List Gau}{g:Gau}{k:Nat}(hl:l.length=k):∀i:Nat,i<(l ++ [g]).length->(gD (l ++ [g]) i).st=(bif decide (i<k) then (gD l i).st else g.st)/\(gD (l ++ [g]) i).lo=(bif decide (i<k) then (gD l i).lo else g.lo)/\(gD (l ++ [g]) i).hi=(bif decide (i<k) then (gD l i).hi else g.hi):=by
 subst hl
 intro i hi
 rw[AUP]
 cases hd:decide (i<l.length)
 ·have h1:i-l.length=0:=by
   have:=of_decide_eq_false hd
   rw[List.length_append] at hi
   have:i<l.length+1:=hi
   omega
  rw[h1];exact⟨rfl,rfl,rfl⟩
 ·exact⟨rfl,rfl,rfl⟩
theorem app0{g:Gau}:∀i:Nat,i<([] ++ [g]).length->(gD ([] ++ [g]) i).st=g.st/\(gD ([] ++ [g]) i).lo=g.lo/\(gD ([] ++ [g]) i).hi=g.hi
 |0,_=>⟨rfl,rfl,rfl⟩
 |i+1,h=>absurd h (by show ¬ (i+1<1);omega)
theorem AQG{l:List Gau}{g:Gau}{k:Nat}(hl:l.length=k):(l ++ [g]).length=k+1:=by rw[List.length_append,hl];rfl
theorem lenA{l:List Gau}{k:Nat}(hl:l.length=k)(h:k<=6):l.length<9223372036854775807/\(l.length+1)*24<=140737488355328:=by omega
set_option maxHeartbeats 4000000 in
theorem p_Tg(x:TgI)(h:TgHx x):V_Tg x:=by
 have hC:=AZT h
 rw[CTW]<;> delta LI Wo UD KA LV JY LL HV GZ JJ NX cI HU EZ AK aD AN FI AE BA BN IQ BH CV sD DC ER NC TD KE Ff No FD V6 mM sC Gn Dj J9 nI mA TE TC FT OI Fh MW ZM ZJ ZL HA CG NZ BP GU HT LH HR wQ ZP CE EE We ZV uT Jz rE Cw eO AYU hJ Wi cG wH Rk yO mH yK mE K8 Gi Fe Kd AAJ Gm LG MB AAQ BHX uV YD wL vM Qf lY wO uZ AYL yJ CS AG AP AI AO AJ Fl AR DF VR yQ KS AOB YR Gz Qv AKN AMC yN vD YG VW QM dS Nt IR AS CM EL BB DY HZ IG BG HC BW yF LS DK Rq DI MK JH DO BO GJ sG VT HD AM AQ JI EP CL LP Nj YP PS JO HB IU KC AOO EB MM DR EQ EX CI UF OS XJ FP FU LF JV EV KB GI NK BC YE EU UG JX GM aR AV Qk FH lX WB AT rN gL DT RR AY ZQ IV JD KT HQ BK EN AU IY AL EW sW Wr FA Uo fE FW FV AOQ QN FL Jr Yy HK PF KZ JB FF FK JA SD Gl IA ME DV JF CP RB AKF FE pW HX CK HW CJ Ep Z5 PL AZ BY tU Eh KL EF Xi BQ Fi BU KX ON yV IN OZ Sf UY AQT BL OR BX JL LO IK Ld ED HE TI fF CO Dr BD Bz FQ zU BZ Ba Eb JQ tZ Jh Ns VC Xh GQ HG CN CW cM An NT P1 UL XP APY ASL P7 OE AHI qU Ci KJ ASQ AQN Ua Tt JR XE OF Yn OQ Dp KG Bg ART Dk SV QP MD JE Bv VD SK JN SE Bf PY WZ Ge FM HJ ATL ARK NS LC ARW LN Co OM Fx OY Lj SR PM GV Kz RD Jc FX IC Xo XA HY Xd TO VK Jg GX XZ NB Di NG NW AKX OG QW AGV AGY AGI NR GY VJ UK VL UW AFH OO OJ AHT AGQ YQ kK fL Mk AFB AKU As XD NM VF VG UP VH Gg D4 ADT AJA XC WV TP QL TH qY TR YT Jb Et kV YU XM ZF ZB Dx Fv RX XS AJU nT YX ZH ZD Em WR XO XT YJ UQ tK D2 UX XN AIW XL YB UB Gk Lt YS Eg Ar VI S3 Ll ZG ADR AHP fW gC Pq Is jN By It Se SI On yZ Ob Qx Kv Ij Jd Ie Js Jo Fq AEU Gd IP Q7 Gb Qb Ov Qd Re AJR Xr Zi aN AJK Wy Jj Uh Bp SS aO Tl Yv Ys AUB gE Yo Mr Ih iX yW Xn Yq tE AEO iL kA UT Qc jW Oj Ou Vd rB Zv Yu lP Yg lK jX gA jU Ma oY Nz Xw Tc jP jJ fB Ja Zl Xc Cj cD fK cB iY jR kD Xj Yt Yp Zc wC vT oA kN tF qG pL lD kI Xy tS oW qF iF Sn;simp only[CC,CU,CF,CPG,bne_self_eq_false,cond_false]
 refine⟨⟨⟨rfl,rfl,.mk 0⟩,⟨0,?_,rfl,by omega⟩,⟨λa ha=>?_,λa ha=>?_⟩⟩,?_⟩
 ·and_intros<;>first | rfl | exact λ_ _=>rfl
 ·refine⟨λhk=>?_,λhk=>absurd hk (by omega)⟩
  have F:=ZS h a (by omega)
  refine⟨⟨rfl,rfl,F.s0.used.1⟩,⟨⟨rfl,rfl,F.s1.used.1⟩,⟨a,?_,ha.1,hk,rfl⟩⟩,λk hi=>?_⟩
  ·and_intros<;>first | rfl | exact λ_ _=>rfl | decide | skip
   rintro (_ | _ | _ | j) hj
   ·rfl
   ·rfl
   ·rfl
   ·exact absurd hj (by show ¬ (j+3<3);omega)
  clear F hk ha
  have F:=ZS h k (by have:=hi.2.1;omega)
  refine⟨⟨by refine⟨rfl,rfl,rfl,⟨⟨F.q0.used.1,F.q1.used.1⟩,?_⟩,rfl,rfl,rfl,⟨F.q2.used.1,F.q3.used.1⟩,?_⟩<;>exact of_decide_eq_true rfl,⟨k,?_,hi⟩⟩,?_⟩
  ·and_intros<;>first | rfl | exact λ_ _=>rfl | decide | skip
   intro j hj
   rcases two hj with rfl | rfl<;>exact⟨rfl,rfl,rfl,rfl,rfl⟩
  clear F hi
  intro k hi
  have F:=ZS h k (by have:=hi.2.1;omega)
  refine⟨⟨of_decide_eq_true rfl,of_decide_eq_true rfl⟩,by refine⟨rfl,rfl,rfl,⟨⟨F.t0.used.1,F.t1.used.1⟩,?_⟩,of_decide_eq_true rfl,λh=>(by cases h),?_⟩<;>exact of_decide_eq_true rfl,⟨⟨rfl,F.q4.used.1,rfl,F.q5.used.1⟩,⟨⟨k,nA (Vv (MZ x k)),nB (Vv (MZ x k))⟩,?_,hi,rfl,rfl⟩⟩,BOO (n:=true) (m:=(gG x-(a:Int)).toNat) ?_⟩
  ·and_intros<;>first | rfl | exact λ_ _=>rfl | exact λ_ _=>⟨rfl,rfl,rfl,rfl,rfl⟩ | exact of_decide_eq_true rfl | skip
   rintro (_ | _ | _ | j) hj
   ·exact⟨rfl,rfl,rfl,rfl,rfl⟩
   ·exact⟨rfl,rfl,rfl,rfl,rfl⟩
   ·exact⟨rfl,rfl,rfl,rfl,rfl⟩
   ·exact absurd hj (by show ¬ (j+3<3);omega)
  clear F hi
  intro k hi
  have F:=ZS h k (by have:=hi.2.1;omega)
  refine⟨⟨⟨⟨of_decide_eq_true rfl,of_decide_eq_true rfl⟩,of_decide_eq_true rfl⟩,⟨tgZ x false k,?_,Nf hi⟩⟩,Mv (n:=true) (r:=false) (m:=(gG x-(a:Int)).toNat) ?_⟩
  ·and_intros<;>first | rfl | exact λ_ _=>rfl | exact λ_ _=>⟨rfl,rfl,rfl⟩ | exact λ_ _=>⟨rfl,rfl,rfl,rfl⟩ | exact λ_ _=>⟨rfl,rfl,rfl,rfl,rfl⟩ | exact λ_ _=>⟨rfl,λ_ _=>⟨rfl,rfl,rfl,rfl,rfl⟩⟩ | exact of_decide_eq_true rfl | exact LY F.st _ | skip
   intro j hj
   rcases two hj with rfl | rfl
   ·exact⟨rfl,rfl,λ_ _=>⟨rfl,rfl,rfl,rfl,rfl⟩⟩
   ·exact⟨rfl,rfl,λ_ _=>⟨rfl,rfl,rfl,rfl,rfl⟩⟩
  clear F hi
  intro k hi
  have F:=ZS h k (by have:=hi.2.1;omega)
  have B:=Yw F.ok
  have G:=F.ga
  refine⟨⟨⟨rfl,rfl,B.1.1,B.1.2.1,B.1.2.2.1,B.1.2.2.2⟩,⟨tgZ x false k,?_,Nf hi⟩⟩,Mv (n:=true) (r:=false) (m:=(gG x-(a:Int)).toNat) ?_⟩
  ·and_intros<;>first | rfl | exact λ_ _=>rfl | exact λ_ _=>⟨rfl,rfl,rfl⟩ | exact λ_ _=>⟨rfl,rfl,rfl,rfl⟩ | exact λ_ _=>⟨rfl,rfl,rfl,rfl,rfl⟩ | exact λ_ _=>⟨rfl,λ_ _=>⟨rfl,rfl,rfl,rfl,rfl⟩⟩ | exact of_decide_eq_true rfl | exact LY F.st _ | skip
  clear F B G hi
  intro k hi
  have F:=ZS h k (by have:=hi.2.1;omega)
  have B:=Yw F.ok
  refine⟨λhc=>hc.symm.trans (cnd1 B.2.2.1),λ_=>⟨⟨tgZ x false k,?_,Nf hi⟩,Mv (n:=true) (r:=false) (m:=(gG x-(a:Int)).toNat) ?_⟩⟩
  ·and_intros<;>first | rfl | exact λ_ _=>rfl | exact λ_ _=>⟨rfl,rfl,rfl⟩ | exact λ_ _=>⟨rfl,rfl,rfl,rfl⟩ | exact λ_ _=>⟨rfl,rfl,rfl,rfl,rfl⟩ | exact λ_ _=>⟨rfl,λ_ _=>⟨rfl,rfl,rfl,rfl,rfl⟩⟩ | exact of_decide_eq_true rfl | exact LY F.st _ | skip
  clear F B hi
  intro k hi
  have F:=ZS h k (by have:=hi.2.1;omega)
  have V:=F.va
  refine⟨V.1.ok,⟨⟨λ_ _=>rfl,V.1.ok,ABM V.2.1,ABM V.2.2⟩,⟨tgZ x false k,?_,Nf hi⟩⟩,Mv (n:=true) (r:=false) (m:=(gG x-(a:Int)).toNat) ?_⟩
  ·and_intros<;>first | rfl | exact λ_ _=>rfl | exact λ_ _=>⟨rfl,rfl,rfl⟩ | exact λ_ _=>⟨rfl,rfl,rfl,rfl⟩ | exact λ_ _=>⟨rfl,rfl,rfl,rfl,rfl⟩ | exact λ_ _=>⟨rfl,λ_ _=>⟨rfl,rfl,rfl,rfl,rfl⟩⟩ | exact of_decide_eq_true rfl | exact LY F.st _ | skip
  clear F V hi
  intro k hi
  have F:=ZS h k (by have:=hi.2.1;omega)
  have G:=F.ga
  refine⟨⟨λhc=>hc.symm.trans (cnd2 F.st ⟨G.1.lo.2,G.1.hi.1⟩),λ_=>⟨tgZ x false k,?_,Nf hi⟩⟩,Mv (n:=true) (r:=false) (m:=(gG x-(a:Int)).toNat) ?_⟩
  ·and_intros<;>first | rfl | exact λ_ _=>rfl | exact λ_ _=>⟨rfl,rfl,rfl⟩ | exact λ_ _=>⟨rfl,rfl,rfl,rfl⟩ | exact λ_ _=>⟨rfl,rfl,rfl,rfl,rfl⟩ | exact λ_ _=>⟨rfl,λ_ _=>⟨rfl,rfl,rfl,rfl,rfl⟩⟩ | exact of_decide_eq_true rfl | exact LY F.st _ | skip
  clear F G hi
  intro k hi
  obtain rfl:k=0:=hi.1
  refine⟨⟨λhc=>absurd hc (by decide),of_decide_eq_true rfl,of_decide_eq_true rfl,of_decide_eq_true rfl,of_decide_eq_true rfl⟩,⟨⟨of_decide_eq_true rfl,of_decide_eq_true rfl⟩,⟨tgZ x true 0,?_,Nf hi⟩⟩,Mv (n:=true) (r:=true) (m:=(gG x-(a:Int)).toNat) ?_⟩
  ·and_intros<;>first | rfl | exact λ_ _=>rfl | exact λ_ _=>⟨rfl,rfl,rfl⟩ | exact λ_ _=>⟨rfl,rfl,rfl,rfl⟩ | exact λ_ _=>⟨rfl,rfl,rfl,rfl,rfl⟩ | exact λ_ _=>⟨rfl,λ_ _=>⟨rfl,rfl,rfl,rfl,rfl⟩⟩ | exact of_decide_eq_true rfl | exact LY F.st _ | skip
   exact app0
  clear hi
  intro k hi
  have F:=ZS h k (by have:=hi.2.1;omega)
  have B:=Yw F.ok
  refine⟨⟨⟨rfl,rfl,B.2.1.1,B.2.1.2.1,B.2.1.2.2.1,B.2.1.2.2.2⟩,⟨tgZ x true k,?_,Nf hi⟩⟩,Mv (n:=true) (r:=true) (m:=(gG x-(a:Int)).toNat) ?_⟩
  ·and_intros<;>first | rfl | exact λ_ _=>rfl | exact λ_ _=>⟨rfl,rfl,rfl⟩ | exact λ_ _=>⟨rfl,rfl,rfl,rfl⟩ | exact λ_ _=>⟨rfl,rfl,rfl,rfl,rfl⟩ | exact λ_ _=>⟨rfl,λ_ _=>⟨rfl,rfl,rfl,rfl,rfl⟩⟩ | exact of_decide_eq_true rfl | exact LY F.st _ | skip
  clear F B hi
  intro k hi
  have F:=ZS h k (by have:=hi.2.1;omega)
  have B:=Yw F.ok
  refine⟨λhc=>hc.symm.trans (cnd1 B.2.2.2.1),λ_=>⟨⟨tgZ x true k,?_,Nf hi⟩,Mv (n:=true) (r:=true) (m:=(gG x-(a:Int)).toNat) ?_⟩⟩
  ·and_intros<;>first | rfl | exact λ_ _=>rfl | exact λ_ _=>⟨rfl,rfl,rfl⟩ | exact λ_ _=>⟨rfl,rfl,rfl,rfl⟩ | exact λ_ _=>⟨rfl,rfl,rfl,rfl,rfl⟩ | exact λ_ _=>⟨rfl,λ_ _=>⟨rfl,rfl,rfl,rfl,rfl⟩⟩ | exact of_decide_eq_true rfl | exact LY F.st _ | skip
  clear F B hi
  intro k hi
  have F:=ZS h k (by have:=hi.2.1;omega)
  have V:=F.vb
  refine⟨V.1.ok,⟨⟨λ_ _=>rfl,V.1.ok,ABM V.2.1,ABM V.2.2⟩,⟨tgZ x true k,?_,Nf hi⟩⟩,Mv (n:=true) (r:=true) (m:=(gG x-(a:Int)).toNat) ?_⟩
  ·and_intros<;>first | rfl | exact λ_ _=>rfl | exact λ_ _=>⟨rfl,rfl,rfl⟩ | exact λ_ _=>⟨rfl,rfl,rfl,rfl⟩ | exact λ_ _=>⟨rfl,rfl,rfl,rfl,rfl⟩ | exact λ_ _=>⟨rfl,λ_ _=>⟨rfl,rfl,rfl,rfl,rfl⟩⟩ | exact of_decide_eq_true rfl | exact LY F.st _ | skip
  clear F V hi
  intro k hi
  have F:=ZS h k (by have:=hi.2.1;omega)
  have G:=F.ga
  refine⟨⟨λhc=>hc.symm.trans (cnd2 F.st ⟨G.2.1.lo.2,G.2.1.hi.1⟩),λ_=>⟨tgZ x true k,?_,Nf hi⟩⟩,Mv (n:=true) (r:=true) (m:=(gG x-(a:Int)).toNat) ?_⟩
  ·and_intros<;>first | rfl | exact λ_ _=>rfl | exact λ_ _=>⟨rfl,rfl,rfl⟩ | exact λ_ _=>⟨rfl,rfl,rfl,rfl⟩ | exact λ_ _=>⟨rfl,rfl,rfl,rfl,rfl⟩ | exact λ_ _=>⟨rfl,λ_ _=>⟨rfl,rfl,rfl,rfl,rfl⟩⟩ | exact of_decide_eq_true rfl | exact LY F.st _ | skip
  clear F G hi
  intro k hi
  obtain rfl:k=0:=hi.1
  refine⟨⟨λhc=>absurd hc (by decide),of_decide_eq_true rfl,of_decide_eq_true rfl,of_decide_eq_true rfl,of_decide_eq_true rfl⟩,⟨1,?_,⟨of_decide_eq_true rfl,?_⟩,?_⟩⟩
  ·and_intros<;>first | rfl | exact λ_ _=>rfl | exact λ_ _=>⟨rfl,rfl,rfl⟩ | exact λ_ _=>⟨rfl,rfl,rfl,rfl⟩ | exact λ_ _=>⟨rfl,rfl,rfl,rfl,rfl⟩ | exact λ_ _=>⟨rfl,λ_ _=>⟨rfl,rfl,rfl,rfl,rfl⟩⟩ | exact of_decide_eq_true rfl | exact LY F.st _ | skip
   exact app0
  ·have:=hi.2.1;omega
  ·have:=hi.2.1;have:=hi.2.2;omega
 ·refine⟨λhk=>?_,λhk=>⟨default,?_⟩⟩
  have F:=ZS h a (by omega)
  refine⟨⟨rfl,rfl,F.s0.used.1⟩,⟨⟨rfl,rfl,F.s1.used.1⟩,⟨a,?_,ha.1,hk,rfl⟩⟩,λk hi=>?_⟩
  ·and_intros<;>first | rfl | exact λ_ _=>rfl | exact λ_ _=>⟨rfl,rfl,rfl⟩ | exact λ_ _=>⟨rfl,rfl,rfl,rfl⟩ | exact λ_ _=>⟨rfl,rfl,rfl,rfl,rfl⟩ | exact λ_ _=>⟨rfl,λ_ _=>⟨rfl,rfl,rfl,rfl,rfl⟩⟩ | exact of_decide_eq_true rfl | exact LY F.st _ | skip
   rintro (_ | _ | _ | j) hj
   ·rfl
   ·rfl
   ·rfl
   ·exact absurd hj (by show ¬ (j+3<3);omega)
  clear F hk ha
  have F:=ZS h k (by have:=hi.2.1;omega)
  refine⟨⟨by refine⟨rfl,rfl,rfl,⟨⟨F.q0.used.1,F.q1.used.1⟩,?_⟩,rfl,rfl,rfl,⟨F.q2.used.1,F.q3.used.1⟩,?_⟩<;>exact of_decide_eq_true rfl,⟨k,?_,hi⟩⟩,?_⟩
  ·and_intros<;>first | rfl | exact λ_ _=>rfl | exact λ_ _=>⟨rfl,rfl,rfl⟩ | exact λ_ _=>⟨rfl,rfl,rfl,rfl⟩ | exact λ_ _=>⟨rfl,rfl,rfl,rfl,rfl⟩ | exact λ_ _=>⟨rfl,λ_ _=>⟨rfl,rfl,rfl,rfl,rfl⟩⟩ | exact of_decide_eq_true rfl | exact LY F.st _ | skip
   intro j hj
   rcases two hj with rfl | rfl<;>exact⟨rfl,rfl,rfl,rfl,rfl⟩
  clear F hi
  intro k hi
  have F:=ZS h k (by have:=hi.2.1;omega)
  refine⟨⟨of_decide_eq_true rfl,of_decide_eq_true rfl⟩,by refine⟨rfl,rfl,rfl,⟨⟨F.t0.used.1,F.t1.used.1⟩,?_⟩,of_decide_eq_true rfl,λh=>(by cases h),?_⟩<;>exact of_decide_eq_true rfl,⟨⟨rfl,F.q4.used.1,rfl,F.q5.used.1⟩,⟨⟨k,nA (Vv (MZ x k)),nB (Vv (MZ x k))⟩,?_,hi,rfl,rfl⟩⟩,BOO (n:=false) (m:=(gG x-(a:Int)).toNat) ?_⟩
  ·and_intros<;>first | rfl | exact λ_ _=>rfl | exact λ_ _=>⟨rfl,rfl,rfl⟩ | exact λ_ _=>⟨rfl,rfl,rfl,rfl⟩ | exact λ_ _=>⟨rfl,rfl,rfl,rfl,rfl⟩ | exact λ_ _=>⟨rfl,λ_ _=>⟨rfl,rfl,rfl,rfl,rfl⟩⟩ | exact of_decide_eq_true rfl | exact LY F.st _ | skip
   rintro (_ | _ | _ | j) hj
   ·exact⟨rfl,rfl,rfl,rfl,rfl⟩
   ·exact⟨rfl,rfl,rfl,rfl,rfl⟩
   ·exact⟨rfl,rfl,rfl,rfl,rfl⟩
   ·exact absurd hj (by show ¬ (j+3<3);omega)
  clear F hi
  intro k hi
  have F:=ZS h k (by have:=hi.2.1;omega)
  refine⟨⟨⟨⟨of_decide_eq_true rfl,of_decide_eq_true rfl⟩,of_decide_eq_true rfl⟩,⟨tgZ x false k,?_,Nf hi⟩⟩,Mv (n:=false) (r:=false) (m:=(gG x-(a:Int)).toNat) ?_⟩
  ·and_intros<;>first | rfl | exact λ_ _=>rfl | exact λ_ _=>⟨rfl,rfl,rfl⟩ | exact λ_ _=>⟨rfl,rfl,rfl,rfl⟩ | exact λ_ _=>⟨rfl,rfl,rfl,rfl,rfl⟩ | exact λ_ _=>⟨rfl,λ_ _=>⟨rfl,rfl,rfl,rfl,rfl⟩⟩ | exact of_decide_eq_true rfl | exact LY F.st _ | skip
   intro j hj
   rcases two hj with rfl | rfl
   ·exact⟨rfl,rfl,λ_ _=>⟨rfl,rfl,rfl,rfl,rfl⟩⟩
   ·exact⟨rfl,rfl,λ_ _=>⟨rfl,rfl,rfl,rfl,rfl⟩⟩
  clear F hi
  intro k hi
  have F:=ZS h k (by have:=hi.2.1;omega)
  have B:=Yw F.ok
  have G:=F.ga
  refine⟨⟨⟨rfl,rfl,B.1.1,B.1.2.1,B.1.2.2.1,B.1.2.2.2⟩,⟨tgZ x false k,?_,Nf hi⟩⟩,Mv (n:=false) (r:=false) (m:=(gG x-(a:Int)).toNat) ?_⟩
  ·and_intros<;>first | rfl | exact λ_ _=>rfl | exact λ_ _=>⟨rfl,rfl,rfl⟩ | exact λ_ _=>⟨rfl,rfl,rfl,rfl⟩ | exact λ_ _=>⟨rfl,rfl,rfl,rfl,rfl⟩ | exact λ_ _=>⟨rfl,λ_ _=>⟨rfl,rfl,rfl,rfl,rfl⟩⟩ | exact of_decide_eq_true rfl | exact LY F.st _ | skip
  clear F B G hi
  intro k hi
  have F:=ZS h k (by have:=hi.2.1;omega)
  have B:=Yw F.ok
  refine⟨λhc=>hc.symm.trans (cnd1 B.2.2.1),λ_=>⟨⟨tgZ x false k,?_,Nf hi⟩,Mv (n:=false) (r:=false) (m:=(gG x-(a:Int)).toNat) ?_⟩⟩
  ·and_intros<;>first | rfl | exact λ_ _=>rfl | exact λ_ _=>⟨rfl,rfl,rfl⟩ | exact λ_ _=>⟨rfl,rfl,rfl,rfl⟩ | exact λ_ _=>⟨rfl,rfl,rfl,rfl,rfl⟩ | exact λ_ _=>⟨rfl,λ_ _=>⟨rfl,rfl,rfl,rfl,rfl⟩⟩ | exact of_decide_eq_true rfl | exact LY F.st _ | skip
  clear F B hi
  intro k hi
  have F:=ZS h k (by have:=hi.2.1;omega)
  have V:=F.va
  refine⟨V.1.ok,⟨⟨λ_ _=>rfl,V.1.ok,ABM V.2.1,ABM V.2.2⟩,⟨tgZ x false k,?_,Nf hi⟩⟩,Mv (n:=false) (r:=false) (m:=(gG x-(a:Int)).toNat) ?_⟩
  ·and_intros<;>first | rfl | exact λ_ _=>rfl | exact λ_ _=>⟨rfl,rfl,rfl⟩ | exact λ_ _=>⟨rfl,rfl,rfl,rfl⟩ | exact λ_ _=>⟨rfl,rfl,rfl,rfl,rfl⟩ | exact λ_ _=>⟨rfl,λ_ _=>⟨rfl,rfl,rfl,rfl,rfl⟩⟩ | exact of_decide_eq_true rfl | exact LY F.st _ | skip
  clear F V hi
  intro k hi
  have F:=ZS h k (by have:=hi.2.1;omega)
  have G:=F.ga
  refine⟨⟨λhc=>hc.symm.trans (cnd2 F.st ⟨G.1.lo.2,G.1.hi.1⟩),λ_=>⟨tgZ x false k,?_,Nf hi⟩⟩,Mv (n:=false) (r:=false) (m:=(gG x-(a:Int)).toNat) ?_⟩
  ·and_intros<;>first | rfl | exact λ_ _=>rfl | exact λ_ _=>⟨rfl,rfl,rfl⟩ | exact λ_ _=>⟨rfl,rfl,rfl,rfl⟩ | exact λ_ _=>⟨rfl,rfl,rfl,rfl,rfl⟩ | exact λ_ _=>⟨rfl,λ_ _=>⟨rfl,rfl,rfl,rfl,rfl⟩⟩ | exact of_decide_eq_true rfl | exact LY F.st _ | skip
  clear F G hi
  intro k hi
  obtain⟨L1,L2⟩:=hZ x k
  have hk6:k<=6:=by have:=hi.2.1;omega
  refine⟨⟨of_decide_eq_true rfl,λh=>(by cases h),lenA L1 hk6⟩,⟨⟨of_decide_eq_true rfl,of_decide_eq_true rfl⟩,⟨tgZ x true k,?_,Nf hi⟩⟩,Mv (n:=false) (r:=true) (m:=(gG x-(a:Int)).toNat) ?_⟩
  ·and_intros<;>first | rfl | exact λ_ _=>rfl | exact λ_ _=>⟨rfl,rfl,rfl⟩ | exact λ_ _=>⟨rfl,rfl,rfl,rfl⟩ | exact λ_ _=>⟨rfl,rfl,rfl,rfl,rfl⟩ | exact λ_ _=>⟨rfl,λ_ _=>⟨rfl,rfl,rfl,rfl,rfl⟩⟩ | exact of_decide_eq_true rfl | exact LY F.st _ | exact L2.symm | exact congrArg (·+1) L1.symm | exact AQG rfl | exact app1 rfl | skip
  clear hi
  intro k hi
  have F:=ZS h k (by have:=hi.2.1;omega)
  have B:=Yw F.ok
  refine⟨⟨⟨rfl,rfl,B.2.1.1,B.2.1.2.1,B.2.1.2.2.1,B.2.1.2.2.2⟩,⟨tgZ x true k,?_,Nf hi⟩⟩,Mv (n:=false) (r:=true) (m:=(gG x-(a:Int)).toNat) ?_⟩
  ·and_intros<;>first | rfl | exact λ_ _=>rfl | exact λ_ _=>⟨rfl,rfl,rfl⟩ | exact λ_ _=>⟨rfl,rfl,rfl,rfl⟩ | exact λ_ _=>⟨rfl,rfl,rfl,rfl,rfl⟩ | exact λ_ _=>⟨rfl,λ_ _=>⟨rfl,rfl,rfl,rfl,rfl⟩⟩ | exact of_decide_eq_true rfl | exact LY F.st _ | skip
  clear F B hi
  intro k hi
  have F:=ZS h k (by have:=hi.2.1;omega)
  have B:=Yw F.ok
  refine⟨λhc=>hc.symm.trans (cnd1 B.2.2.2.1),λ_=>⟨⟨tgZ x true k,?_,Nf hi⟩,Mv (n:=false) (r:=true) (m:=(gG x-(a:Int)).toNat) ?_⟩⟩
  ·and_intros<;>first | rfl | exact λ_ _=>rfl | exact λ_ _=>⟨rfl,rfl,rfl⟩ | exact λ_ _=>⟨rfl,rfl,rfl,rfl⟩ | exact λ_ _=>⟨rfl,rfl,rfl,rfl,rfl⟩ | exact λ_ _=>⟨rfl,λ_ _=>⟨rfl,rfl,rfl,rfl,rfl⟩⟩ | exact of_decide_eq_true rfl | exact LY F.st _ | skip
  clear F B hi
  intro k hi
  have F:=ZS h k (by have:=hi.2.1;omega)
  have V:=F.vb
  refine⟨V.1.ok,⟨⟨λ_ _=>rfl,V.1.ok,ABM V.2.1,ABM V.2.2⟩,⟨tgZ x true k,?_,Nf hi⟩⟩,Mv (n:=false) (r:=true) (m:=(gG x-(a:Int)).toNat) ?_⟩
  ·and_intros<;>first | rfl | exact λ_ _=>rfl | exact λ_ _=>⟨rfl,rfl,rfl⟩ | exact λ_ _=>⟨rfl,rfl,rfl,rfl⟩ | exact λ_ _=>⟨rfl,rfl,rfl,rfl,rfl⟩ | exact λ_ _=>⟨rfl,λ_ _=>⟨rfl,rfl,rfl,rfl,rfl⟩⟩ | exact of_decide_eq_true rfl | exact LY F.st _ | skip
  clear F V hi
  intro k hi
  have F:=ZS h k (by have:=hi.2.1;omega)
  have G:=F.ga
  refine⟨⟨λhc=>hc.symm.trans (cnd2 F.st ⟨G.2.1.lo.2,G.2.1.hi.1⟩),λ_=>⟨tgZ x true k,?_,Nf hi⟩⟩,Mv (n:=false) (r:=true) (m:=(gG x-(a:Int)).toNat) ?_⟩
  ·and_intros<;>first | rfl | exact λ_ _=>rfl | exact λ_ _=>⟨rfl,rfl,rfl⟩ | exact λ_ _=>⟨rfl,rfl,rfl,rfl⟩ | exact λ_ _=>⟨rfl,rfl,rfl,rfl,rfl⟩ | exact λ_ _=>⟨rfl,λ_ _=>⟨rfl,rfl,rfl,rfl,rfl⟩⟩ | exact of_decide_eq_true rfl | exact LY F.st _ | skip
  clear F G hi
  intro k hi
  obtain⟨L1,L2⟩:=hZ x k
  have hk6:k<=6:=by have:=hi.2.1;omega
  refine⟨⟨L2.symm,of_decide_eq_true rfl,λh=>(by cases h),?_⟩,⟨k+1,?_,⟨Nat.succ_pos k,?_⟩,?_⟩⟩
  ·show k<9223372036854775807/\(k+1)*24<=140737488355328;omega
  ·and_intros<;>first | rfl | exact λ_ _=>rfl | exact λ_ _=>⟨rfl,rfl,rfl⟩ | exact λ_ _=>⟨rfl,rfl,rfl,rfl⟩ | exact λ_ _=>⟨rfl,rfl,rfl,rfl,rfl⟩ | exact λ_ _=>⟨rfl,λ_ _=>⟨rfl,rfl,rfl,rfl,rfl⟩⟩ | exact of_decide_eq_true rfl | exact LY F.st _ | exact AQG L1 | exact AQG L2 | exact app1 L2 | exact (Ab (by omega) (by omega)).symm | skip
  ·have:=hi.2.1;omega
  ·have:=hi.2.1;have:=hi.2.2;omega
  ·have e:(gG x).toNat=a:=by have:=ha.2;omega
   unfold tgE
   rw[e]
   and_intros<;>first | rfl | exact λ_ _=>⟨rfl,rfl,rfl⟩ | exact Nat.le_refl _
 ·have hT:=COM h
  obtain⟨o1,o2,o3⟩:=CON h
  obtain⟨l1,l2⟩:=CEK h
  have R1:TgR (gaE x false) (tgT x):=BWB (by show 1<=(tgE x).a.length/\_;omega) o1 hT
  have R2:TgR (gaE x true) (tgT x):=BWB (by show 1<=(tgE x).b.length/\_;omega) o2 hT
  have e:wr x.w=x.w:=Ab (by have:=h.w;omega) (by have:=h.w;omega)
  have eT:tgT x=(IntKind.i64.wrap x.w).tmod 2001:=by show x.w.tmod 2001=(wr x.w).tmod 2001;rw[e]
  have hI:=BKF R2 R1 o3 o1 hT
  have g1:(gaE x false).length<=6:=l1.2
  have g2:(gaE x true).length<=6:=l2.2
  refine⟨λhc=>(by cases hc),⟨default,eT,of_decide_eq_true rfl,?_,by rw[<-eT];rfl⟩,⟨⟨⟨of_decide_eq_true rfl,of_decide_eq_true rfl⟩,of_decide_eq_true rfl⟩,⟨default,of_decide_eq_true rfl,?_,rfl,λ_ _=>⟨rfl,rfl,rfl⟩⟩⟩,⟨by omega,of_decide_eq_true rfl,of_decide_eq_true rfl⟩,by omega,⟨by omega,of_decide_eq_true rfl⟩,λhc=>hc.symm.trans (cnd3 R1.pe R1.fe R1.we (congrArg List.length R1.pm) R1.fl R1.bt),λ_=>⟨⟨λhc=>absurd hc (by decide),of_decide_eq_true rfl,of_decide_eq_true rfl,of_decide_eq_true rfl,of_decide_eq_true rfl⟩,⟨⟨of_decide_eq_true rfl,of_decide_eq_true rfl⟩,⟨default,rfl,rfl,λ_ _=>⟨rfl,rfl,rfl⟩,λ_ _=>⟨rfl,rfl,rfl,rfl⟩⟩⟩,⟨by omega,of_decide_eq_true rfl,of_decide_eq_true rfl⟩,by omega,⟨by omega,of_decide_eq_true rfl⟩,λhc=>hc.symm.trans (cnd3 R2.pe R2.fe R2.we (congrArg List.length R2.pm) R2.fl R2.bt),λ_=>⟨⟨of_decide_eq_true rfl,λhc=>(by cases hc),of_decide_eq_true rfl,of_decide_eq_true rfl⟩,⟨⟨of_decide_eq_true rfl,of_decide_eq_true rfl⟩,of_decide_eq_true rfl,⟨of_decide_eq_true rfl,of_decide_eq_true rfl⟩,of_decide_eq_true rfl⟩,cnd4 hI⟩⟩⟩
  ·rintro (_ | j) hj
   ·exact⟨rfl,rfl,rfl,rfl⟩
   ·exact absurd hj (by omega)
  ·intro j hj
   rcases two hj with rfl | rfl
   ·exact⟨rfl,λ_ _=>⟨rfl,rfl,rfl⟩⟩
   ·exact⟨rfl,λ_ _=>⟨rfl,rfl,rfl⟩⟩
def okBy(l:List Int):Prop:=∀i,i<l.length->0<=gD l i/\gD l i<=255
theorem CSR(x:TgI)(h1:okBy x.n)(h2:okBy x.e)(h3:okBy x.m)(hw:0<=x.w/\x.w<=65535):FnT Try.prog BQC (xTg x) (AC []) (.bool true) []:=Dy (A:=A_Tg x) (ren:=[]) (fz:=[]) CGN (by kernel_rfl) (AA CMO (AA ASU (AA AOI (AA CLF (AA CNE (AA CGK (AA CEG (AA CGO (AA CEN (AA BMC (AA CBA (AA CDA (AA BFF (AA CAW (AA CMX AD))))))))))))))) (p_Tg x ⟨h1,h2,h3,hw⟩)
end Go.Bal
