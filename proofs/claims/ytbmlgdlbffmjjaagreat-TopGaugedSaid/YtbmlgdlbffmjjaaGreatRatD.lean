/- Package rating: a line that passes. -/
import Derived.Test.YtbmlgdlbffmjjaaGreatRatC
set_option linter.unusedVariables false
set_option linter.unusedSimpArgs false
namespace Go.Bal
open Go Go.Sym Go.Proofs
def dGsK:List AVal->Heap->Option (List Gau×List (Nat×Nat)×List Nat):=A5
def C_through:Ctr:={ α:=List Gau,xs:=λs=>[.d (KB s)],L:=λ_=>[],val:=λs=>.fn (.func Fj) [] [.bptr 0 0],keep:=λs=>[(0,.live (.box [.d (KB s)]))] }
def AOH(s:List Gau):Prop:=AX Try.prog (ann 4 []) Z2 (AF Z2) (C_through.xs s) (AC []) (C_through.val s) (C_through.keep s) [(0,1000)] []
theorem BDW(s:List Gau):(AOH s)=(FB (BW s) (λi=>MG i s)):=by kernel_rfl
theorem D7:AH Try.prog xS (C_through.spec dGsK):=PU C_through (λ_=>ann 4 []) [(0,1000)] [] BEF (λ_=>by kernel_rfl) (λ_=>AD) (λ(s:List Gau) _=>by
 show AOH s;rw[BDW]<;> delta KA LX JZ AK AN AE BA BM BP GU AG AO AJ AR CM DW HY BW DF MM JG DK VT FB Ab MG;simp) (λ_=>RR rfl rfl) _
structure GsL where
 s:List Gau
 x:Ln
def dGsL:List AVal->Heap->Option (GsL×List (Nat×Nat)×List Nat)
 |[y,.d x],H=>match AHL y H with
  |some (l,f)=>some (⟨l,dLn x⟩,[],f)
  |none=>none
 |_,_=>none
def C_passing:Ctr:={ α:=GsL,xs:=λa=>[.d (KB a.s),.d (eLn a.x)],L:=λ_=>[],val:=λa=>.bool (a.s.all λg=>VW a.x g),keep:=λ_=>[],pre:=λa=>[a.s.length<4611686018427387904/\(∀g∈a.s,(PT a.x/\Ho g))] }
def ANB:Ann:=ann 9 [(n_eG,C4Gp.spec d4Gp)]
def AMH(a:GsL):Prop:=AX Try.prog ANB X2 (AF X2) (C_passing.xs a) (AC []) (C_passing.val a) [] [] []
abbrev ABH:=GsL.s
abbrev N3:=GsL.x
abbrev pH a b c d(e:Gau->Prop):=Di a b c d (SX e)
attribute [go_sem] ABH N3 pH
theorem BEH(a:GsL):(AMH a)=(And (HF (CN (ABH a)) (CV (ABH a)) (LQ (N3 a)) (pH (Fv (N3 a)) (GZ (N3 a)) (Hk (N3 a)) (UQ (ABH a)) (λi=>XB i (BB (ABH a)) (Lj (LU (N3 a)) i)))) (LI (Yc (ABH a) (N3 a)) (Yc (BB (ABH a)) (N3 a)))):=by kernel_rfl
theorem zU:AH Try.prog mN (C_passing.spec dGsL):=PU C_passing (λ_=>ANB) [] [] AZT (λ_=>by kernel_rfl) (λ_=>AA CTU AD) (λ(a:GsL) h=>by
 show AMH a;rw[BEH]<;> delta LI KA LX JZ LQ HV GZ JJ AK AN AE BA BM DC ER BP GU SX L9 ABH N3 AG AI AO AJ QG CM BB DW BF HB DF JG DK JH JK KD EA CI OT AV HJ RB DZ UC KH EH BU OC HF Bf UZ Ch XB CN CV OP Di Yc KG pH PC Lj Fv Hk LU UQ;simp only[CC,CU]
 have h:a.s.length<4611686018427387904/\(∀g∈a.s,(PT a.x/\Ho g)):=h
 first | exact h | exact⟨h,rfl⟩) (λ_=>RR rfl rfl) _
def pT(a b:Pt):Ln:=⟨a.st,a.fl,b.st,b.fl⟩
def blk(e:List Pt)(a:Pt):List Ln:=TG a :: (e.map (pT a)).filter Zc
def Rr(s:List Gau):List Ln:=(AB s).flatMap (blk (AB s))
def Rp(s:List Gau)(x:Ln):Bool:=s.all λg=>VW x g
def NX(s:List Gau):Ln×Bool:=if s.length=0 then (TG ⟨0,0⟩,true) else match (Rr s).find? (Rp s) with
 |some x=>(x,true)
 |none=>(default,false)
def zLn:HCell:=.live (.box [.int 0,.int 0,.int 0,.int 0])
def lnH(s:List Gau):List (Nat×HCell):=[(1000,zLn),(2000,zLn),(3000,.live (.box [.bool false])),(4032,.live (.box [.fn (.func mN) [.d (KB s)] []]))]
def lnS(s:List Gau)(l i:Nat):List (Nat×AVal):=[(0,.fn (.yield l) [] []),(3,.d (ePts (AB s))),(11,.d (ePts (AB s))),(12,.int (AB s).length),(13,.int i)]
def Xq(s:List Gau)(i:Nat):List Ln:=((AB s).take i).flatMap (blk (AB s))
def TN(s:List Gau)(i j:Nat):List Ln:=Xq s i ++ TG (gD (AB s) i) :: (((AB s).take j).map (pT (gD (AB s) i))).filter Zc
def lnO(s:List Gau)(l:Nat):Shape:={ α:=Nat,dflt:=0,T:=λi=>⟨lnS s l i,lnH s⟩,inv:=λi=>i<=(AB s).length/\∀x∈Xq s i,Rp s x=false,meas:=λi=>(AB s).length-i }
def lnI(s:List Gau)(q l:Nat):Shape:={ α:=IJ,dflt:=default,T:=λx=>⟨[(5,.bptr 205 0),(22,.d (ePts (AB s))),(23,.int (AB s).length),(24,.int x.j)] ++ lnS s l x.i,(205,.live (.box [.int (gD (AB s) x.i).st,.int (gD (AB s) x.i).fl])) :: lnH s⟩,inv:=λx=>x.i<(AB s).length/\x.j<=(AB s).length/\(AB s).length-x.i=q/\∀y∈TN s x.i x.j,Rp s y=false,meas:=λx=>(AB s).length-x.j,first:=[(205,104032)] }
noncomputable def BUQ(s:List Gau):IterAnn:={ fn:=fN,code:=AF fN,live:=[0,2,4,5,6],ann:={ base:=λid=>100000+1000*(id+1),Γ:=Sym.look [(ALA,C_ends.spec A5),(nM,xE),(AJF,AYK)],E:=[1000,2000,3000,4032],n:=41,inner:=λgs id=>if id=2 then some [lnO s (gs.getD 0 0)] else if id=6 then some [lnI s (gs.getD 0 0) (gs.getD 1 0)] else none } }
noncomputable def BPM(s:List Gau):Ann:={ ann 24 [(xS,C_through.spec dGsK),(mN,C_passing.spec dGsL),(nM,xE)] with iter:=λg=>if g=Fj then some (BUQ s) else none }
def C_line:Ctr:={ α:=List Gau,xs:=λs=>[.d (KB s)],L:=λ_=>[],val:=λs=>.tup [.d (eLn (NX s).1),.bool (NX s).2],keep:=λ_=>[],pre:=λs=>[s.length<1073741824/\∀g∈s,Ho g] }
def BNW(s:List Gau):Prop:=AX Try.prog (BPM s) AZX (AF AZX) (C_line.xs s) (AC []) (C_line.val s) [] [] []
abbrev F7:=λ(f:Ln->Prop)=>∀(x:Ln),f x
abbrev M4:=@List.Mem Ln
abbrev Dz a:=LI a UD
abbrev Es a:=(@Prod.snd Ln Bool) (NX a)
abbrev OE a:=(@Prod.fst Ln Bool) (NX a)
abbrev fM a:=HV (OE a)
abbrev fO a b:=AK (JJ a) b
abbrev Dk a b:=fO a (JJ b)
abbrev Ct:=rZ (T6 0 0)
abbrev iW a b:=AK (GZ a) b
abbrev Mk a b:=iW a (GZ b)
abbrev pI a b:=Dz (Rp a b)
abbrev Ob a b c:=Rc a b AL c
abbrev AMI a b c:=KQ a a b c
abbrev AFA a b:=AMI a a b
abbrev Tp a b:=AU a (DO b)
abbrev iO a b:=AJ (XI a b)
abbrev oN a:=AR (EM a)
abbrev iN a b:=KJ (EM a) b
abbrev Zq a b:=XI a (DO b)
abbrev Xk a b:=NU a (DO b)
abbrev C7 a b:=AU (BN a) (BN b)
abbrev Xx a b:=rZ (tU a b)
abbrev UA a:=OC a 1073741824
abbrev Zs a:=UA (BB a)
attribute [go_sem] F7 M4 Dz Es OE fM fO Dk Ct iW Mk pI Ob AMI AFA Tp iO oN iN Zq Xk C7 Xx UA Zs
theorem CGD(s:List Gau):(BNW s)=(FB (FB (CN s) (λi=>EH i (BB s) s)) (λi=>WM (SE (BB s) (Zs (BB s))) (CG (λj=>FD (And (PG i) (Fx (AN (EM s) (EM (BB (BB s)))) (AE (λk=>TH k (EM s) (NU s k) (NU (BB (BB s)) k) (XI s k) (XI (BB (BB s)) k))) (Ob (BC (EM s) (EM (BB (BB s)))) (BD j) (AFA AL (XS AL RG (BW s) (BX s)))))) j (EM s) (F7 (λk=>BA (M4 k (Xq s j)) (pI s k))))) (λj=>MQ (CJ j (EM s) (F7 (λk=>BA (M4 k (Xq s j)) (pI s k)))) j (EM s) (AI (BE j (EM s)) (WF (NU s j)) (AR i) (HF (CN s) (CV s) (LQ (Xx s j)) (pH (Fv (Xx s j)) (GZ (Xx s j)) (Hk (Xx s j)) (UQ s) (λk=>XB k (BB s) (Lj (LU (Xx s j)) k)))) (FA (Yc (BB s) (Xx s j)) (FA (QI (QA s)) (AV (SC 0 (BF 2000)) (HQ (OE s) Ct) (AK (fM s) (HV Ct)) (Mk (OE s) Ct) (Dk (OE s) Ct) (GI (Es s))) (OD (HQ (OE s) (Xx s j)) (fM s) (HV (Xx s j)) (GZ (OE s)) (GZ (Xx s j)) (Dk (OE s) (Xx s j)) (GI (Es s)))) (And (WB (λk=>AI (Ma (oN s) (AE (λl=>PS l (EM s) (NU s l) (iO s l))) (EM s) (I6 (BD (BN k)) (PG i) (oN s) (AE (λl=>PS l (EM s) (NU s l) (iO s l))) (EI (EM s)) (rC k j) (Ob (AK (Xk s k) (NU s j)) (AK (Zq s k) (XI s j)) (AFA AL (XS AL RG (BW s) (BX s)))))) (BM (DO k) (EM s)) (fS k (EM s)) (AN (iN s (DO k)) (iN s j)) (F7 (λl=>BA (M4 l (TN s (DO k) (BN k))) (pI s l))))) (fE (λk=>UT (PI (BM (DO k) (EM s)) (fS k (EM s)) (iN s (DO k)) (iN s j) (F7 (λl=>BA (M4 l (TN s (DO k) (BN k))) (pI s l)))) (BN k) (EM s) (BE (BN k) (EM s)) (kZ (Zc (Ln.mk (Xk s k) (Zq s k) (NU s (BN k)) (XI s (BN k))))) (AG (AR i) (HF (CN s) (CV s) (Xk s k) (pH (AJ (Zq s k)) (NU s (BN k)) (iO s (BN k)) (UQ s) (λl=>XB l (BB s) (Lj (KG (Xk s k) (NU s (BN k)) (Zq s k) (XI s (BN k))) l)))) (FA (Yc (BB s) (Ln.mk (Xk s k) (Zq s k) (NU s (BN k)) (XI s (BN k)))) (FA (QI (QA s)) (AV (SC 0 (BF 2000)) (HQ (OE s) Ct) (AK (fM s) (HV Ct)) (Mk (OE s) Ct) (Dk (OE s) Ct) (GI (Es s))) (OD (UH (OE s) (Xk s k)) (fM s) (Zq s k) (GZ (OE s)) (NU s (BN k)) (fO (OE s) (XI s (BN k))) (GI (Es s)))) (WB (λl=>EY (Ma (oN s) (AE (λm=>PS m (EM s) (NU s m) (iO s m))) (EM s) (I6 (C7 l k) (PG i) (oN s) (AE (λm=>PS m (EM s) (NU s m) (iO s m))) (EI (EM s)) (SJ l k) (Ob (AK (Xk s l) (Xk s k)) (AK (Zq s l) (Zq s k)) (AFA AL (XS AL RG (BW s) (BX s)))))) (PI (BM (DO l) (EM s)) (fS l (EM s)) (iN s (DO l)) (iN s j) (F7 (λm=>BA (M4 m (TN s (DO l) (BN l))) (pI s m)))) (EM s) (BN l) (BN k))))) (WB (λl=>EY (Ma (oN s) (AE (λm=>PS m (EM s) (NU s m) (iO s m))) (EM s) (I6 (C7 l k) (PG i) (oN s) (AE (λm=>PS m (EM s) (NU s m) (iO s m))) (EI (EM s)) (SJ l k) (Ob (AK (Xk s l) (Xk s k)) (AK (Zq s l) (Zq s k)) (AFA AL (XS AL RG (BW s) (BX s)))))) (PI (BM (DO l) (EM s)) (fS l (EM s)) (iN s (DO l)) (iN s j) (F7 (λm=>BA (M4 m (TN s (DO l) (BN l))) (pI s m)))) (EM s) (BN l) (BN k))) (CG (λl=>EY (And (PG i) (Fx (oN s) (AE (λm=>PS m (EM s) (NU s m) (iO s m))) (Ob (EI (EM s)) (Tp l k) (AFA AL (XS AL RG (BW s) (BX s)))))) (CJ l (EM s) (F7 (λm=>BA (M4 m (Xq s l)) (pI s m)))) (EM s) l j))))))) (FA (QI (QA s)) (AV (SC 0 (BF 2000)) (HQ (OE s) Ct) (AK (fM s) (HV Ct)) (Mk (OE s) Ct) (Dk (OE s) Ct) (GI (Es s))) (OD (UH (OE s) 0) (fM s) 0 (GZ (OE s)) 0 (CP (JJ (OE s))) (Dz (Es s))))))):=by kernel_rfl
def okP(p:Pt):Prop:=0<=p.st/\p.st<=2000/\0<=p.fl/\p.fl<=200000
theorem BSG{l:List Pt}{p q:Pt}:q∈addP l p↔q∈l∨q=p:=by
 unfold addP;split
 ·rename_i h
  exact⟨.inl,λh2=>h2.elim id λh2=>h2 ▸ h⟩
 ·simp
theorem ALX:∀(s:List Gau) (l:List Pt) (p:Pt),p∈s.foldl addG l↔p∈l∨∃g∈s,p=⟨g.st,g.lo⟩∨p=⟨g.st,g.hi⟩
 |[],l,p=>by simp
 |g :: s,l,p=>by
  rw[List.foldl_cons,ALX s]
  simp only[addG,BSG,List.mem_cons,exists_eq_or_imp]
  constructor
  ·rintro (((h | h) | h) | h)
   ·exact .inl h
   ·exact .inr (.inl (.inl h))
   ·exact .inr (.inl (.inr h))
   ·exact .inr (.inr h)
  ·rintro (h | (h | h) | h)
   ·exact .inl (.inl (.inl h))
   ·exact .inl (.inl (.inr h))
   ·exact .inl (.inr h)
   ·exact .inr h
theorem AHP{s:List Gau}{p:Pt}:p∈AB s↔∃g∈s,p=⟨g.st,g.lo⟩∨p=⟨g.st,g.hi⟩:=by
 unfold AB;rw[ALX];simp
theorem gR{s:List Gau}(h:∀g∈s,Ho g){p:Pt}(hp:p∈AB s):okP p:=by
 obtain⟨g,hg,rfl | rfl⟩:=AHP.1 hp
 ·obtain⟨h1,h2,h3,h4,h5⟩:=h g hg;exact⟨h1,h2,h3,by show g.lo<=_;omega⟩
 ·obtain⟨h1,h2,h3,h4,h5⟩:=h g hg;exact⟨h1,h2,by show 0<=g.hi;omega,h5⟩
theorem oR{p:Pt}(h:okP p):PT (TG p):=by
 obtain⟨h1,h2,h3,h4⟩:=h
 unfold TG;split
 ·exact⟨by show 0<=p.st-1;omega,by show p.st-1<p.st;omega,h2,h3,Int.le_refl _,h4⟩
 ·exact⟨h1,by show p.st<p.st+1;omega,by show p.st+1<=2000;omega,h3,Int.le_refl _,h4⟩
theorem cP{x:Ln}:Zc x=true↔PT x:=by
 unfold Zc riP MN PT
 simp only[Bool.and_eq_true,decide_eq_true_eq]
 constructor
 ·intro h;exact⟨by omega,by omega,by omega,by omega,by omega,by omega⟩
 ·intro h;exact⟨⟨⟨⟨⟨by omega,by omega⟩,by omega,by omega⟩,⟨by omega,by omega⟩,by omega,by omega⟩,by omega⟩,by omega⟩
theorem BMX{s:List Gau}{i:Nat}(h:i<(AB s).length):Xq s (i+1)=Xq s i ++ blk (AB s) (gD (AB s) i):=by
 unfold Xq;rw[VQ h,List.flatMap_append];simp
theorem uE{s:List Gau}:Xq s (AB s).length=Rr s:=by unfold Xq Rr;rw[List.take_length]
theorem sP{s:List Gau}{i:Nat}(h:i<(AB s).length):TN s i (AB s).length=Xq s (i+1):=by
 rw[BMX h];unfold TN blk;rw[List.take_length]
theorem bK{s:List Gau}{i j:Nat}(h:j<(AB s).length):TN s i (j+1)=TN s i j ++ (if Zc (pT (gD (AB s) i) (gD (AB s) j)) then [pT (gD (AB s) i) (gD (AB s) j)] else []):=by
 unfold TN
 rw[VQ h,List.map_append,List.filter_append,<-List.cons_append,<-List.append_assoc]
 simp only[List.map_cons,List.map_nil]
 congr 1
 split
 ·rename_i h1;rw[List.filter_cons_of_pos h1];rfl
 ·rename_i h1;rw[List.filter_cons_of_neg h1];rfl
theorem CPQ{s:List Gau}:∀{i:Nat},∃r,Rr s=Xq s i ++ r:=λ{i}=>by
 refine⟨((AB s).drop i).flatMap (blk (AB s)),?_⟩
 unfold Rr Xq
 rw[<-List.flatMap_append,List.take_append_drop]
theorem BYV{s:List Gau}{i j:Nat}(h:i<(AB s).length):∃r,Rr s=TN s i j ++ r:=by
 obtain⟨r,hr⟩:=CPQ (s:=s) (i:=i+1)
 rw[hr,<-sP h]
 refine⟨(((AB s).drop j).map (pT (gD (AB s) i))).filter Zc ++ r,?_⟩
 unfold TN
 rw[List.take_length]
 conv=>lhs;rw[<-List.take_append_drop j (AB s)]
 simp only[List.map_append,List.filter_append,List.append_assoc,List.cons_append]
 rw[List.take_append_drop]
theorem CAC{α:Type}{f:α->Bool}{p:List α}{x:α}{r:List α}(h:∀y∈p,f y=false)(hx:f x=true):(p ++ x :: r).find? f=some x:=by
 rw[List.find?_append,List.find?_eq_none.2 (λy hy=>by simp[h y hy])]
 simp[hx]
theorem AHM{s:List Gau}{p:List Ln}{x:Ln}{r:List Ln}(h:Rr s=p ++ x :: r)(h1:∀y∈p,Rp s y=false)(hx:Rp s x=true)(h0:s.length≠0):NX s=(x,true):=by
 unfold NX;rw[if_neg h0,h,CAC h1 hx]
theorem BWG{s:List Gau}(h:s.length=0):NX s=(TG ⟨0,0⟩,true):=if_pos h
theorem BMS{s:List Gau}(h:∀y∈Rr s,Rp s y=false)(h0:s.length≠0):NX s=(default,false):=by
 unfold NX;rw[if_neg h0,List.find?_eq_none.2 (λy hy=>by simp[h y hy])]
theorem BJU:AH Try.prog AKN (C_line.spec A5):=PU C_line BPM [] [] CAL (λ_=>by kernel_rfl) (λ_=>AA D7 (AA zU (AA fV AD))) (λ(s:List Gau) h=>by
 show BNW s;rw[CGD]<;> delta LI UD KA LX JZ dO Qe T6 LQ HV GZ JJ NL HU FA AK AN AE BA BM BH CW DC ER NE TD KJ FF ZJ rZ FW CG BP GU SX L9 WB DO BN fE aV Wk F7 M4 CS AG AI AO AJ AR DR KQ XS Fx Rc AMI AFA QG AS CM BB Hy I6 DW HY IF BF HB BW DN DF MM JG DK BO GH VT AQ JH PS JK KD EI EA DG FB CI OT FP EV GI BC UH AV DT Ab JA HQ AU HJ AL EW tU PG PI RB MG DZ BE FG EM IA CJ UC KH EH LB BU OC HK HF OD Bf BX UZ Ch BD XB HE CN CV NU FD OP XI OE Di SC MI SG QA Yc KG CP TF pH PC EY Ty rC Lj Dz UT fO SJ Fv TH Dk C7 WM PZ RG kZ UA MQ Hk iW Mk Ct QI Es LU UQ WF Zq Xx Xk SE Tp fM iO oN Ob iN fS Ma pI Zs;simp only[CC,CU,if_true]
 obtain⟨hn,hg⟩:s.length<1073741824/\∀g∈s,Ho g:=h
 have nil:((s.length:Int)==0)=true->(0<=(0:Int)/\(0:Int)<=2000)/\(NX s).fst.a0=(TG ⟨0,0⟩).a0/\(NX s).fst.a1=(TG ⟨0,0⟩).a1/\(NX s).fst.b0=(TG ⟨0,0⟩).b0/\(NX s).fst.b1=(TG ⟨0,0⟩).b1/\(NX s).snd=true:=λh=>by
  rw[BWG (by simpa using h)];exact⟨by omega,rfl,rfl,rfl,rfl,rfl⟩
 have ok:∀x,PT x->s.length<4611686018427387904/\∀g:Gau,List.Mem g s->PT x/\Ho g:=λx hx=>⟨by omega,λg hgs=>⟨hx,hg g hgs⟩⟩
 have he:(AB s).length<=2*s.length:=by
  have:=bL (s:=s) s.length (Nat.le_refl _)
  unfold Nj at this;rw[List.take_length] at this;exact this
 have e_ok:∀i,i<(AB s).length->okP (gD (AB s) i):=λi hi=>gR hg (MH hi)
 refine⟨by omega,⟨0,rfl,Nat.zero_le _,λx hx=>by cases hx⟩,λi ⟨hi,hp⟩=>⟨λhlt=>?_,λhge=>?_⟩⟩
 ·have hlt:i<(AB s).length:=by omega
  obtain⟨r0,hr0⟩:=BYV (s:=s) (j:=0) hlt
  have hpe:TN s i 0=Xq s i ++ [TG (gD (AB s) i)]:=by unfold TN;simp
  have hr0':Rr s=Xq s i ++ TG (gD (AB s) i) :: r0:=by rw[hr0,hpe];simp
  refine⟨⟨by omega,by omega⟩,⟨(e_ok i hlt).1,(e_ok i hlt).2.1⟩,ok _ (oR (e_ok i hlt)),λhpa=>⟨nil,λh0=>?_⟩,λhpa=>⟨⟨⟨i,0⟩,⟨rfl,rfl,rfl,rfl⟩,hlt,Nat.zero_le _,rfl,λy hy=>?_⟩,λx ⟨hx1,hx2,hx3,hx4⟩=>⟨λhj=>?_,λhj=>?_⟩⟩⟩
  ·rw[AHM hr0' hp hpa (by simpa using h0)];exact⟨rfl,rfl,rfl,rfl,rfl⟩
  ·have hy:y∈Xq s i ++ [TG (gD (AB s) i)]:=hpe ▸ hy
   rcases List.mem_append.1 hy with hy | hy
   ·exact hp y hy
   ·rw[List.mem_singleton.1 hy];exact hpa
  ·have hj:x.j<(AB s).length:=by omega
   have step:(∀y∈TN s x.i (x.j+1),Rp s y=false)->∃z:IJ,((z.j:Int)=IntKind.i64.wrap ((x.j:Int)+1)/\(z.i:Int)=x.i/\(gD (AB s) z.i).st=(gD (AB s) x.i).st/\(gD (AB s) z.i).fl=(gD (AB s) x.i).fl)/\(z.i<(AB s).length/\z.j<=(AB s).length/\(AB s).length-z.i=(AB s).length-i/\∀y:Ln,List.Mem y (TN s z.i z.j)->Rp s y=false)/\(AB s).length-z.j<(AB s).length-x.j:=λh=>
    ⟨⟨x.i,x.j+1⟩,⟨(GJ (by omega)).symm,rfl,rfl,rfl⟩,⟨hx1,hj,hx3,h⟩,by show (AB s).length-(x.j+1)<_;omega⟩
   refine⟨⟨by omega,by omega⟩,λhri=>⟨ok ⟨_,_,_,_⟩ (cP.1 hri),λhpa=>⟨nil,λh0=>?_⟩,λhpa=>step λy hy=>?_⟩,λhri=>step λy hy=>?_⟩
   ·have hri':Zc (pT (gD (AB s) x.i) (gD (AB s) x.j))=true:=hri
    obtain⟨r,hr⟩:=BYV (s:=s) (j:=x.j+1) hx1
    rw[bK hj,if_pos hri',List.append_assoc] at hr
    rw[AHM hr hx4 hpa (by simpa using h0)];exact⟨rfl,rfl,rfl,rfl,rfl⟩
   ·have hri':Zc (pT (gD (AB s) x.i) (gD (AB s) x.j))=true:=hri
    rw[bK hj,if_pos hri'] at hy
    rcases List.mem_append.1 hy with hy | hy
    ·exact hx4 y hy
    ·rw[List.mem_singleton.1 hy];exact hpa
   ·have hri':¬ Zc (pT (gD (AB s) x.i) (gD (AB s) x.j))=true:=by
     intro h;have h:Zc ⟨_,_,_,_⟩=true:=h;rw[hri] at h;cases h
    rw[bK hj,if_neg hri',List.append_nil] at hy
    exact hx4 y hy
  ·have hje:x.j=(AB s).length:=by omega
   refine⟨x.i+1,(GJ (by omega)).symm,⟨by omega,λy hy=>?_⟩,by omega⟩
   rw[<-sP hx1] at hy
   exact hx4 y (hje ▸ hy)
 ·have hie:i=(AB s).length:=by omega
  rw[hie,uE] at hp
  refine⟨nil,λh0=>?_⟩
  rw[BMS hp (by simpa using h0)];exact⟨rfl,rfl,rfl,rfl,rfl⟩) (λs=>N6 Fj (BUQ s) rfl rfl (AA M3 (AA fV (AA Y9 AD))) uH (by kernel_rfl) (by kernel_rfl)) _
end Go.Bal
