/- Package rating: the reference: what a rating has at a stage; copies, and lists that are the same. -/
import Derived.Test.YtoihhodbkimedaaGreatRLn2
import Derived.Test.YtoihhodbkimedaaGreatRT14
import Derived.Test.YtoihhodbkimedaaGreatRPt2a
import Derived.Test.YtoihhodbkimedaaGreatRPt3
set_option linter.unusedVariables false
set_option linter.unusedSimpArgs false
namespace Go.Bal
open Go Go.Sym Go.Proofs
def C_cdG:Ctr:={ α:=List Gau,xs:=λl=>[.d (BX l)],val:=λl=>.d (BX l),pre:=λl=>[l.length<1073741824/\True] }
def CMY(l:List Gau):Prop:=BQ Try.prog (ann 7 []) AXO (AI AXO) (C_cdG.xs l) (AD []) (C_cdG.val l) [] [] []
theorem COV(l:List Gau):(CMY l)=(KC (AF Iy (And FP (BR 0 l VL)) (UP (MW (CI l))) (Lm (CI l) 9223372036854775807) (OR (BP (CI l)) 24)) (CF l (BP (CI l))) (λi=>BR i l (Ry (AH l i) (AH l (EF i 0)) l i l (EF i 0) l))):=by kernel_rfl
def C_cdI:Ctr:={ α:=List Int,xs:=λl=>[.d (CZ l)],val:=λl=>.d (CZ l),pre:=λl=>[l.length<1073741824/\True] }
def CJL(l:List Int):Prop:=BQ Try.prog (ann 7 []) AVI (AI AVI) (C_cdI.xs l) (AD []) (C_cdI.val l) [] [] []
theorem CPG(l:List Int):(CJL l)=(KC (AF Qj (And FP (DF 0 l (BL 1))) (UP (MW (CG l))) (Lm (CG l) 9223372036854775807) (OR (BP (CG l)) 8)) (YB l (BP (CG l))) (λi=>GH i l l (EF i 0))):=by kernel_rfl
def dGs2:List AVal->Heap->Option (List Gau×List (Nat×Nat)×List Nat)
 |[y,_],H=>match aE y H with
  |some (l,f)=>some (l,[],f)
  |none=>none
 |_,_=>none
def dIs2:List AVal->Heap->Option (List Int×List (Nat×Nat)×List Nat)
 |[y,_],H=>match tT y H with
  |some (l,f)=>some (l,[],f)
  |none=>none
 |_,_=>none
def smS(v:AVal)(n:Nat):Shape:={ α:=Nat,dflt:=0,T:=λi=>⟨[(0,v),(1,v),(5,.int i)],[]⟩,inv:=λi=>i<=n,meas:=λi=>n-i }
def A_sm(v:AVal)(n:Nat):Ann:={ ann 26 [] with loops:=λid=>if id=4 then some [smS v n] else none }
def C_smG:Ctr:={ α:=List Gau,xs:=λl=>[.d (BX l),.d (BX l)],val:=λ_=>.bool true,pre:=λl=>[l.length<1073741824/\True] }
def CMR(l:List Gau):Prop:=BQ Try.prog (A_sm (.d (BX l)) l.length) AZE (AI AZE) (C_smG.xs l) (AD []) (.bool true) [] [] []
theorem CQV(l:List Gau):(CMR l)=(Aw (Xo (EY l)) (DJ (λi=>And (qH (AZ l) (BN l) (BD i)) (IY i (CI l))) (λi=>OW (IY i (CI l)) i l (AG (IB i l) (BC (AQ i)) (Gi (AQ i) l)) (Aw (not (and (Ya (AH l i)) (and (and (Ya (AP l i)) (and (Ya (AS l i)) JG)) JG))) (FB (λj=>HR (qH (AZ l) (BN l) (BS j i)) (IY j (CI l)) l j i))) MC))):=by kernel_rfl
def C_smI:Ctr:={ α:=List Int,xs:=λl=>[.d (CZ l),.d (CZ l)],val:=λ_=>.bool true,pre:=λl=>[l.length<1073741824/\True] }
def CKF(l:List Int):Prop:=BQ Try.prog (A_sm (.d (CZ l)) l.length) BBF (AI BBF) (C_smI.xs l) (AD []) (.bool true) [] [] []
theorem CRK(l:List Int):(CKF l)=(Aw (Xo (EK l)) (DJ (λi=>And (qH (CX l) (FC l) (BD i)) (IY i (CG l))) (λi=>FH (IY i (CG l)) i (EK l) (AG (IN i l) (BC (AQ i)) (HI (AQ i) (CG l))) (Aw (Xo (CM l i)) (FB (λj=>RL (qH (CX l) (FC l) (BS j i)) j (CG l) j i))) MC))):=by kernel_rfl
theorem CSV{x:Ln}{t:Int}(h:PJ x)(ht:0<=t/\t<=2000):-2305843009213693952<=(Wc x t).n/\(Wc x t).n<=2305843009213693952:=by
 obtain⟨h1,h2,h3,h4,h5,h6⟩:=h
 have hn:=CQS (n:=x.a1*(x.b0-x.a0)+(x.b1-x.a1)*(t-x.a0)) (d:=x.b0-x.a0)
 have b1:0<=x.a1*(x.b0-x.a0):=Int.mul_nonneg h4 (by omega)
 have b2:x.a1*(x.b0-x.a0)<=200000*2000:=Int.le_trans (Int.mul_le_mul_of_nonneg_left (show x.b0-x.a0<=2000 by omega) h4) (Int.mul_le_mul_of_nonneg_right (by omega) (by omega))
 have b3:(x.b1-x.a1)*(t-x.a0)<=200000*2000:=Int.le_trans (Int.mul_le_mul_of_nonneg_left (show t-x.a0<=2000 by omega) (by omega)) (Int.mul_le_mul_of_nonneg_right (by omega) (by omega))
 have b4:-(200000*2000)<=(x.b1-x.a1)*(t-x.a0):=by
  have e1:=Int.mul_le_mul_of_nonneg_left (show -2000<=t-x.a0 by omega) (show 0<=x.b1-x.a1 by omega)
  have e2:=Int.mul_le_mul_of_nonneg_right (show x.b1-x.a1<=200000 by omega) (show (0:Int)<=2000 by omega)
  rw[Int.mul_neg] at e1;omega
 unfold Wc
 omega
theorem CQX:AJ Try.prog AVS (C_cdG.spec WJ):=VD C_cdG (λ_=>ann 7 []) [] [] BZX (λ_=>by kernel_rfl) (λ_=>AE) (λ(l:List Gau) h=>by
 show CMY l;rw[COV]<;> delta JT XL EE EC DP JG AO AR AK BV BZ BU EF CI EZ FP LM Jv AG AF AT AH CA CF BL Ky AP BR AS DX CR BP EP EL EX EM MW OA OR UP KC YS VL Ak Lm Iy Ry;simp only[CC,eq_self,implies_true,forall_const,Nat.sub_zero]
 have h:l.length<1073741824:=(show l.length<1073741824/\True from h).1
 refine⟨?_,?_,?_,?_⟩<;>first | omega | (intro h;cases h)) (λ_=>WK rfl rfl) _
theorem BHK:AJ Try.prog ACL (C_cdI.spec dIs1):=VD C_cdI (λ_=>ann 7 []) [] [] BXQ (λ_=>by kernel_rfl) (λ_=>AE) (λ(l:List Int) h=>by
 show CJL l;rw[CPG]<;> delta JT XL JG AO AR CG AK BV BZ CM BU EF FP LM Jv AG AF AT BL Ky DF BP GI EL GC HG EX GH MW GE OA OR UP KC YS YB Lm Qj;simp only[CC,eq_self,implies_true,forall_const,Nat.sub_zero]
 have h:l.length<1073741824:=(show l.length<1073741824/\True from h).1
 refine⟨?_,?_,?_,?_⟩<;>first | omega | (intro h;cases h)) (λ_=>WK rfl rfl) _
theorem COG:AJ Try.prog AVR (C_smG.spec dGs2):=VD C_smG (λl=>A_sm (.d (BX l)) l.length) [] [] BTR (λ_=>by kernel_rfl) (λ_=>AE) (λ(l:List Gau) h=>by
 show CMR l;rw[CQV]<;> delta JT XL EE EC DP GD WI JG CS AO AR AK BV BZ AQ DD ES LX EF OL CI EZ FB IY AG DG AF AT AH FF CA CF AM GQ JM Cm Xo Ya qH AP BR AS AW DU BC HH CQ HL OK AZ ED BW HI FZ JA CL EA DV GF BN FD ON FL BS BD LC FH EY DJ Ar IB MC HR Fh OW Gi Aw;simp only[CC,eq_self,implies_true,forall_const,beq_self_eq_true,Bool.and_self]
 have h:l.length<1073741824:=(show l.length<1073741824/\True from h).1
 exact⟨λh=>by simp at h,λ_=>⟨⟨0,rfl,Nat.zero_le _⟩,λi hi hlt=>⟨⟨by omega,by omega⟩,λh=>(by cases h),i+1,(CN (by omega)).symm,by omega,by omega⟩⟩⟩) (λ_=>WK rfl rfl) _
theorem BUA:AJ Try.prog ALJ (C_smI.spec dIs2):=VD C_smI (λl=>A_sm (.d (CZ l)) l.length) [] [] BUF (λ_=>by kernel_rfl) (λ_=>AE) (λ(l:List Int) h=>by
 show CKF l;rw[CRK]<;> delta JT XL GD WI JG CS AO AR CG AK BV BZ CM AQ DD ES LX EF FB IY AG DG AF AT FF AM BL JM Cm Xo qH DF DU BC CQ ED BW HI CX JD FZ CL EK EA DV PG FC FD LN LL KJ FL EV BS BD LC FH DJ MC IN Fh Aw RL;simp only[CC,eq_self,implies_true,forall_const]
 have h:l.length<1073741824:=(show l.length<1073741824/\True from h).1
 exact⟨λh=>by simp at h,λ_=>⟨⟨0,rfl,Nat.zero_le _⟩,λi hi hlt=>⟨⟨by omega,by omega⟩,λh=>by simp at h,λ_=>⟨i+1,(CN (by omega)).symm,by omega,by omega⟩⟩⟩⟩) (λ_=>WK rfl rfl) _
end Go.Bal

namespace Go.Bal
open Go Go.Sym Go.Proofs
def okLL(k:List (List Int)):Prop:=k.length<1073741824/\∀i,i<k.length->(gD k i).length<1073741824
def dLs:AVal->Option (List (List Int))
 | .d (.list _ n r _)=>some (dLLr n r)
 |_=>none
def dLL1:List AVal->Heap->Option (List (List Int)×List (Nat×Nat)×List Nat)
 |[y],_=>match dLs y with
  |some l=>some (l,[],[])
  |none=>none
 |_,_=>none
def dLL2:List AVal->Heap->Option (List (List Int)×List (Nat×Nat)×List Nat)
 |[y,_],_=>match dLs y with
  |some l=>some (l,[],[])
  |none=>none
 |_,_=>none
def C_cdLL:Ctr:={ α:=List (List Int),xs:=λl=>[.d (eLL l)],val:=λl=>.d (eLL l),pre:=λl=>[okLL l/\True] }
def cl3n(l:List (List Int)):Shape:={ α:=One,dflt:=default,T:=λ_=>⟨[(0,.d (eLL l)),(3,.d ZU),(4,.int 0)],[]⟩,inv:=λ_=>True,meas:=λ_=>l.length+1 }
def cl3o(l:List (List Int)):Shape:={ α:=Nat,dflt:=0,T:=λi=>⟨[(0,.d (eLL l)),(3,.own 201 1 0 i),(4,.int i)],[(201,.live (.row 1 i λj=>CZ (gD l j)))]⟩,inv:=λi=>1<=i/\i<=l.length,meas:=λi=>l.length-i,again:=[(201,6112)] }
def BVF(l:List (List Int)):Ann:={ ann 20 [(ACL,C_cdI.spec dIs1)] with mt:=λid=>id==5,loops:=λid=>if id=3 then some [cl3n l,cl3o l] else none }
def CDD(l:List (List Int)):Prop:=BQ Try.prog (BVF l) AOQ (AI AOQ) (C_cdLL.xs l) (AD []) (C_cdLL.val l) [] [] [201]
abbrev dL a:=Vc (HS a)
attribute [go_sem] dL
theorem CGJ(l:List (List Int)):(CDD l)=(KC (Dg (AF (BL (HF l)) (AK (λi=>Bd i (HF l) (IF l i))) AL DH BY)) (XB (λi=>FL FP (Jf (AQ (HF l))) (AX (TL (HF l)) (IA (IF l HB)) (RV (CT (IF l 0)) (CT (IF l HB)) (IF l HB)) (dL (IF l 0)) Qj (VO 1) MP MU ZC) (FB (λj=>LN (Ji (BL (HF l)) (λk=>Bd k (HF l) (IF l k)) (Fc (GE j) (EA j 0) (λk=>QG k j (IF l k) (CT (IF l HB))))) (Df j (BU j (HF l))) (HF l) j (EO (HF l)))) (cU (MV (HF l))))) (λi=>PI (Df i (BU i (HF l))) i (HF l) (AX (IR i (HF l)) (IA (IF l i)) (FA (IF l i)) (dL (IF l i)) (YV i 1) (VO 1) MD (OC i) (ZL i 24)) (FB (λj=>EV (Ji (BL (HF l)) (λk=>Bd k (HF l) (IF l k)) (Fc (HC j i) (BS j i) (λk=>XY k j (YB (IF l k) (yN (Mz k i) (CG (IF l k)) (CG (CT (IF l i))))) (λm=>Nb m (IF l k) m (JQ k i (CM (IF l k) m) (CM (CT (IF l i)) m)))))) (Df j (BU j (HF l))) (HF l) j i)) (KC (AR (HF l) i) (Kl i) (λj=>QG j (HF l) (IF l j) (IF l (BP j)))))):=by kernel_rfl
def C_smLL:Ctr:={ α:=List (List Int),xs:=λl=>[.d (eLL l),.d (eLL l)],val:=λ_=>.bool true,pre:=λl=>[okLL l/\True] }
def BTU(l:List (List Int)):Ann:={ ann 27 [(ALJ,C_smI.spec dIs2)] with loops:=λid=>if id=4 then some [smS (.d (eLL l)) l.length] else none }
def CAP(l:List (List Int)):Prop:=BQ Try.prog (BTU l) AOS (AI AOS) (C_smLL.xs l) (AD []) (.bool true) [] [] []
theorem CHF(l:List (List Int)):(CAP l)=(Aw (Xo (AQ (HF l))) (DJ (λi=>And (qH (BL (HF l)) (AK (λj=>Bd j (HF l) (IF l j))) (BD i)) (IY i (HF l))) (λi=>PI (IY i (HF l)) i (HF l) (BEW (IR i (HF l)) (IA (IF l i)) (SC (FA (IF l i)) (IA (IF l i)) (HS (IF l i)) FP)) (FB (λj=>RL (qH (BL (HF l)) (AK (λk=>Bd k (HF l) (IF l k))) (BS j i)) j (HF l) j i)) MC))):=by kernel_rfl
theorem CQZ(l:List (List Int))(h1:l.length<1073741824)(h2:∀i,i<l.length->(gD l i).length<1073741824):CDD l:=by
 rw[CGJ]<;> delta JT XL GD JG CS AO AR CG AK BV BZ CM AQ BU DD ES LX EF NK UM FB FP EU LM Vu XB Jv Mz HF IF yN AG JO IE DG AF AT FF AM CT BL JM Cm cU Ky DF EO DU AX BP BC GA CQ IC AL GI ED AY BW EL XY GC HI CX JD II HG CL EA Hb EX RH DV Nb GH PG IH sO BM FD LN MW HC HB SL Ks LL FL Ac EV IA DH BS ZX JQ BY FH FA NB Cz HS GE Db RN OA VO MC MV RV ML OR Bd UP IR QA KC TQ YS MD MU OC QG MP Df YB ZL TL Zc Lm ZC YV Kl Fc Vc PI Ji Dg Qj dL Jf;simp only[CC,eq_self,implies_true,forall_const]
 refine⟨⟨default,trivial⟩,⟨λhlt=>⟨⟨⟨by omega,hlt⟩,h2 0 (by omega),λq=>by omega,by omega,by omega,by omega,by omega⟩,1,⟨rfl,(CN (a:=0) (by omega)).symm,rfl,λj hj=>?_⟩,⟨by omega,by omega⟩,by omega⟩,λhge=>by omega⟩,λi ⟨i1,i2⟩=>⟨λhlt=>⟨⟨⟨by omega,hlt⟩,h2 i (by omega),by omega,λq=>(by cases q),by omega,by omega⟩,i+1,⟨rfl,(CN (by omega)).symm,rfl,λj hj=>?_⟩,⟨by omega,by omega⟩,by omega⟩,λhge=>⟨by omega,Nat.le_refl _⟩⟩⟩
 ·obtain rfl:j=0:=by omega
  exact⟨rfl,λ_ _=>rfl⟩
 ·by_cases q:j<i
  ·rw[decide_eq_true q];exact⟨rfl,λ_ _=>rfl⟩
  ·obtain rfl:j=i:=by omega
   rw[decide_eq_false q];exact⟨rfl,λ_ _=>rfl⟩
theorem CIA:AJ Try.prog AOL (C_cdLL.spec dLL1):=VD C_cdLL BVF [] [201] BRG (λ_=>by kernel_rfl) (λ_=>AC BHK AE) (λ(l:List (List Int)) h=>CQZ l h.1.1 h.1.2) (λ_=>WK rfl rfl) _
theorem CON(l:List (List Int))(h1:l.length<1073741824)(h2:∀i,i<l.length->(gD l i).length<1073741824):CAP l:=by
 rw[CHF]<;> delta JT XL GD WI JG CS AO AR CG AK BV BZ CM AQ DD ES LX EF NK FB FP IY HF IF AG JO IE DG AF AT FF AM CT BL JM Cm Xo SC qH DF DU BC GA CQ IC AN BEW GI ED AY BW XY GC HI CX JD FZ II HG CL EA DV GH PG IH BM FD LN SL LL FL Ac EV IA BS ZX BD LC FH FA HS DJ MC Bd IR Fh Aw RL PI;simp only[CC,eq_self,implies_true,forall_const]
 exact⟨λh=>by simp at h,λ_=>⟨⟨0,rfl,Nat.zero_le _⟩,λi hi hlt=>⟨⟨⟨by omega,hlt⟩,⟨by omega,hlt⟩,h2 i (by omega)⟩,i+1,(CN (by omega)).symm,by omega,by omega⟩⟩⟩
theorem CFJ:AJ Try.prog APZ (C_smLL.spec dLL2):=VD C_smLL BTU [] [] BPZ (λ_=>by kernel_rfl) (λ_=>AC BUA AE) (λ(l:List (List Int)) h=>CON l h.1.1 h.1.2) (λ_=>WK rfl rfl) _
end Go.Bal

namespace Go.Bal
open Go Go.Sym Go.Proofs
theorem CIO{g:List Gau}{r:Rtg}{k:List (List Int)}(h:Few g r.b r.l k)(hc:AV g=0):qP ⟨g,r⟩=0/\L0 ⟨g,r⟩=[]:=by
 have hR:Eg r=0:=by
  unfold Eg
  rw[BMQ h.asc h.brk h.few,h.lenl,List.all_eq_true.2 λx hx=>aQ.2 (h.rise x hx)]
  simp
 have e:qP ⟨g,r⟩=0:=by
  show (bif AV g==0 then Eg r else AV g)=0
  rw[hc,hR];rfl
 refine⟨e,?_⟩
 unfold L0;rw[e]
 show H7 ⟨g,r⟩ g.length=[]
 unfold H7
 rw[List.map_eq_nil_iff,List.filter_eq_nil_iff]
 intro i hi hq
 have hi:=List.mem_range.1 hi
 have hle:=AYR r.b (gD g i).st
 have hp:=(h.pass (Et r.b (gD g i).st) hle).2 _ (Lw.2 ⟨CV hi,rfl⟩)
 have ho:PJ (gD r.l (Et r.b (gD g i).st)):=h.rise _ (CV (by rw[h.lenl];omega))
 have hq:(!LB (gD r.l (Et r.b (gD g i).st)) (gD g i))=true:=hq
 rw[(AEX ho).2 hp] at hq;cases hq
theorem AXR{g:List Gau}(h:(IP g).e=0):AV g=0/\Few g (IP g).r.b (IP g).r.l (IP g).k:=by
 have hc:AV g=0:=by
  cases hq:AV g==0 with
  |true=>exact eq_of_beq hq
  |false=>
   unfold IP at h;rw[hq] at h
   have h:AV g=0:=h
   exact h
 rcases BZB hc with⟨e,_⟩ | ⟨_,W⟩
 ·rw[h] at e;cases e
 ·exact⟨hc,W⟩
theorem BQR(g:List Gau):((IP g).k.length:Int)=max 0 (((IP g).r.l.length:Int)-1)/\(IP g).r.l.length<=25/\(IP g).r.b.length<=25:=by
 by_cases h:(IP g).e=0
 ·obtain⟨_,W⟩:=AXR h
  have h1:=W.lenl
  have h2:=W.lenk
  have h3:=W.few
  omega
 ·obtain⟨h1,h2⟩:=AWM h
  rw[h1,h2]
  exact⟨rfl,Nat.zero_le _,Nat.zero_le _⟩
theorem CPB(g:List Gau)(i:Nat)(hi:i<(IP g).k.length):(gD (IP g).k i).length<1073741824:=by
 by_cases h:(IP g).e=0
 ·obtain⟨hc,W⟩:=AXR h
  have hk:=W.lenk
  have:=(W.knot hc (i:=i) (by omega)).nm
  have hl:=(NV hc).1
  have:=(I1 (a:=⟨g,gD (IP g).k i⟩) (by show g.length<_;omega) this).1.2
  show (gD (IP g).k i).length<_
  have:(gD (IP g).k i).length<=3:=this
  omega
 ·rw[(AWM h).2] at hi
  exact absurd hi (Nat.not_lt_zero _)
theorem CHN{g:List Gau}(h:(IP g).e=0):bV ⟨g,((IP g).r.l.length:Int),(IP g).k,false⟩=0/\pQ ⟨g,((IP g).r.l.length:Int),(IP g).k,false⟩=true:=by
 obtain⟨hc,W⟩:=AXR h
 obtain⟨h1,h2⟩:=W.prv hc (List.Perm.refl _) ((IP g).r.l.length:Int) false
 refine⟨h1,h2.trans (decide_eq_true ?_)⟩
 have h1:=W.lenl
 have h2:=W.lenk
 omega
end Go.Bal
