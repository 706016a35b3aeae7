/- Package rating: a line that passes. -/
import Derived.Test.YtbmlgdlbffmjjaaGreatRatC
set_option linter.unusedVariables false
set_option linter.unusedSimpArgs false
namespace Go.Bal
open Go Go.Sym Go.Proofs
def dGsK:List AVal->Heap->Option (List Gau×List (Nat×Nat)×List Nat):=A2
def C_through:Ctr:={ α:=List Gau,xs:=λs=>[.d (KD s)],L:=λ_=>[],val:=λs=>.fn (.func Fz) [] [.bptr 0 0],keep:=λs=>[(0,.live (.box [.d (KD s)]))] }
def AOG(s:List Gau):Prop:=AX Try.prog (ann 4 []) Z0 (AF Z0) (C_through.xs s) (AC []) (C_through.val s) (C_through.keep s) [(0,1000)] []
theorem BDB(s:List Gau):(AOG s)=(EX (BW s) (λi=>ME i s)):=by kernel_rfl
theorem C2:AH Try.prog xC (C_through.spec dGsK):=PU C_through (λ_=>ann 4 []) [(0,1000)] [] BAP (λ_=>by kernel_rfl) (λ_=>AD) (λ(s:List Gau) _=>by
 show AOG s;rw[BDB]<;> delta KA LV JY AK AN AE BA BN BP GU AG AO AJ AR CM DY HZ BW DI MK JH DO VT EX ZQ ME;simp) (λ_=>RU rfl rfl) _
structure GsL where
 s:List Gau
 x:Ln
def dGsL:List AVal->Heap->Option (GsL×List (Nat×Nat)×List Nat)
 |[y,.d x],H=>match AKV y H with
  |some (l,f)=>some (⟨l,dLn x⟩,[],f)
  |none=>none
 |_,_=>none
def C_passing:Ctr:={ α:=GsL,xs:=λa=>[.d (KD a.s),.d (eLn a.x)],L:=λ_=>[],val:=λa=>.bool (a.s.all λg=>WE a.x g),keep:=λ_=>[],pre:=λa=>[a.s.length<4611686018427387904/\(∀g∈a.s,(PO a.x/\Ht g))] }
def AMD:Ann:=ann 9 [(n_eG,C4Gp.spec d4Gp)]
def AMA(a:GsL):Prop:=AX Try.prog AMD V9 (AF V9) (C_passing.xs a) (AC []) (C_passing.val a) [] [] []
abbrev AAF:=GsL.s
abbrev M6:=GsL.x
abbrev rC a b c d(e:Gau->Prop):=Dk a b c d (TA e)
attribute [go_sem] AAF M6 rC
theorem BDG(a:GsL):(AMA a)=(And (HL (CN (AAF a)) (CW (AAF a)) (LL (M6 a)) (rC (Hb (M6 a)) (GZ (M6 a)) (Fw (M6 a)) (VM (AAF a)) (λi=>WH i (BB (AAF a)) (Kx (LU (M6 a)) i)))) (LI (Zm (AAF a) (M6 a)) (Zm (BB (AAF a)) (M6 a)))):=by kernel_rfl
theorem B6:AH Try.prog nH (C_passing.spec dGsL):=PU C_passing (λ_=>AMD) [] [] BAR (λ_=>by kernel_rfl) (λ_=>AA CRN AD) (λ(a:GsL) h=>by
 show AMA a;rw[BDG]<;> delta LI KA LV JY LL HV GZ JJ AK AN AE BA BN DC ER BP GU TA G5 AAF M6 AG AI AO AJ QM CM BB DY BG HC DI JH DO JI JO KC EB CI OS AV HI RJ DV UA KL EF BU ON HL Cq US Ap WH CN CW OE Dk Zm KM rC PK Kx Hb Fw LU VM;simp only[CC,CU]
 have h:a.s.length<4611686018427387904/\(∀g∈a.s,(PO a.x/\Ht g)):=h
 first | exact h | exact⟨h,rfl⟩) (λ_=>RU rfl rfl) _
def qS(a b:Pt):Ln:=⟨a.st,a.fl,b.st,b.fl⟩
def blk(e:List Pt)(a:Pt):List Ln:=UC a :: (e.map (qS a)).filter Ww
def Rj(s:List Gau):List Ln:=(AB s).flatMap (blk (AB s))
def Ru(s:List Gau)(x:Ln):Bool:=s.all λg=>WE x g
def NA(s:List Gau):Ln×Bool:=if s.length=0 then (UC ⟨0,0⟩,true) else match (Rj s).find? (Ru s) with
 |some x=>(x,true)
 |none=>(default,false)
def zLn:HCell:=.live (.box [.int 0,.int 0,.int 0,.int 0])
def lnH(s:List Gau):List (Nat×HCell):=[(1000,zLn),(2000,zLn),(3000,.live (.box [.bool false])),(4032,.live (.box [.fn (.func nH) [.d (KD s)] []]))]
def lnS(s:List Gau)(l i:Nat):List (Nat×AVal):=[(0,.fn (.yield l) [] []),(3,.d (ePts (AB s))),(11,.d (ePts (AB s))),(12,.int (AB s).length),(13,.int i)]
def Xm(s:List Gau)(i:Nat):List Ln:=((AB s).take i).flatMap (blk (AB s))
def TJ(s:List Gau)(i j:Nat):List Ln:=Xm s i ++ UC (gD (AB s) i) :: (((AB s).take j).map (qS (gD (AB s) i))).filter Ww
def lnO(s:List Gau)(l:Nat):Shape:={ α:=Nat,dflt:=0,T:=λi=>⟨lnS s l i,lnH s⟩,inv:=λi=>i<=(AB s).length/\∀x∈Xm s i,Ru s x=false,meas:=λi=>(AB s).length-i }
def lnI(s:List Gau)(q l:Nat):Shape:={ α:=IJ,dflt:=default,T:=λx=>⟨[(5,.bptr 205 0),(22,.d (ePts (AB s))),(23,.int (AB s).length),(24,.int x.j)] ++ lnS s l x.i,(205,.live (.box [.int (gD (AB s) x.i).st,.int (gD (AB s) x.i).fl])) :: lnH s⟩,inv:=λx=>x.i<(AB s).length/\x.j<=(AB s).length/\(AB s).length-x.i=q/\∀y∈TJ s x.i x.j,Ru s y=false,meas:=λx=>(AB s).length-x.j,first:=[(205,104032)] }
noncomputable def BPI(s:List Gau):IterAnn:={ fn:=dC,code:=AF dC,live:=[0,2,4,5,6],ann:={ base:=λid=>100000+1000*(id+1),Γ:=Sym.look [(AKD,C_ends.spec A2),(oN,xN),(AIL,AVU)],E:=[1000,2000,3000,4032],n:=41,inner:=λgs id=>if id=2 then some [lnO s (gs.getD 0 0)] else if id=6 then some [lnI s (gs.getD 0 0) (gs.getD 1 0)] else none } }
noncomputable def BTB(s:List Gau):Ann:={ ann 24 [(xC,C_through.spec dGsK),(nH,C_passing.spec dGsL),(oN,xN)] with iter:=λg=>if g=Fz then some (BPI s) else none }
def C_line:Ctr:={ α:=List Gau,xs:=λs=>[.d (KD s)],L:=λ_=>[],val:=λs=>.tup [.d (eLn (NA s).1),.bool (NA s).2],keep:=λ_=>[],pre:=λs=>[s.length<1073741824/\∀g∈s,Ht g] }
def BYU(s:List Gau):Prop:=AX Try.prog (BTB s) BAV (AF BAV) (C_line.xs s) (AC []) (C_line.val s) [] [] []
abbrev J6:=λ(f:Ln->Prop)=>∀(x:Ln),f x
abbrev L6:=@List.Mem Ln
abbrev Di a:=LI a UD
abbrev Ef a:=(@Prod.snd Ln Bool) (NA a)
abbrev OC a:=(@Prod.fst Ln Bool) (NA a)
abbrev eR a:=HV (OC a)
abbrev cF a b:=AK (JJ a) b
abbrev Dw a b:=cF a (JJ b)
abbrev Bl:=sA (X9 0 0)
abbrev kZ a b:=AK (GZ a) b
abbrev Mb a b:=kZ a (GZ b)
abbrev oR a b:=Di (Ru a b)
abbrev Nz a b c:=Qv a b AL c
abbrev AMC a b c:=KS a a b c
abbrev AKJ a b:=AMC a a b
abbrev Tp a b:=AU a (DN b)
abbrev lI a b:=AJ (WI a b)
abbrev pN a:=AR (EM a)
abbrev lL a b:=KE (EM a) b
abbrev aC a b:=WI a (DN b)
abbrev aM a b:=NQ a (DN b)
abbrev yY a b:=AU (BM a) (BM b)
abbrev Xl a b:=sA (uA a b)
abbrev TH a:=ON a 1073741824
abbrev Zw a:=TH (BB a)
attribute [go_sem] J6 L6 Di Ef OC eR cF Dw Bl kZ Mb oR Nz AMC AKJ Tp lI pN lL aC aM yY Xl TH Zw
theorem CFA(s:List Gau):(BYU s)=(EX (EX (CN s) (λi=>EF i (BB s) s)) (λi=>WV (SS (BB s) (Zw (BB s))) (CG (λj=>FG (And (PD i) (Gz (AN (EM s) (EM (BB (BB s)))) (AE (λk=>TL k (EM s) (NQ s k) (NQ (BB (BB s)) k) (WI s k) (WI (BB (BB s)) k))) (Nz (BC (EM s) (EM (BB (BB s)))) (BD j) (AKJ AL (YR AL RF (BW s) (BX s)))))) j (EM s) (J6 (λk=>BA (L6 k (Xm s j)) (oR s k))))) (λj=>MU (CJ j (EM s) (J6 (λk=>BA (L6 k (Xm s j)) (oR s k)))) j (EM s) (AI (BE j (EM s)) (WS (NQ s j)) (AR i) (HL (CN s) (CW s) (LL (Xl s j)) (rC (Hb (Xl s j)) (GZ (Xl s j)) (Fw (Xl s j)) (VM s) (λk=>WH k (BB s) (Kx (LU (Xl s j)) k)))) (EZ (Zm (BB s) (Xl s j)) (EZ (QG (QB s)) (AV (SV 0 (BG 2000)) (HQ (OC s) Bl) (AK (eR s) (HV Bl)) (Mb (OC s) Bl) (Dw (OC s) Bl) (GI (Ef s))) (OR (HQ (OC s) (Xl s j)) (eR s) (HV (Xl s j)) (GZ (OC s)) (GZ (Xl s j)) (Dw (OC s) (Xl s j)) (GI (Ef s)))) (And (VZ (λk=>AI (Li (pN s) (AE (λl=>PS l (EM s) (NQ s l) (lI s l))) (EM s) (I0 (BD (BM k)) (PD i) (pN s) (AE (λl=>PS l (EM s) (NQ s l) (lI s l))) (EJ (EM s)) (oM k j) (Nz (AK (aM s k) (NQ s j)) (AK (aC s k) (WI s j)) (AKJ AL (YR AL RF (BW s) (BX s)))))) (BN (DN k) (EM s)) (eK k (EM s)) (AN (lL s (DN k)) (lL s j)) (J6 (λl=>BA (L6 l (TJ s (DN k) (BM k))) (oR s l))))) (cP (λk=>UO (PF (BN (DN k) (EM s)) (eK k (EM s)) (lL s (DN k)) (lL s j) (J6 (λl=>BA (L6 l (TJ s (DN k) (BM k))) (oR s l)))) (BM k) (EM s) (BE (BM k) (EM s)) (kY (Ww (Ln.mk (aM s k) (aC s k) (NQ s (BM k)) (WI s (BM k))))) (AG (AR i) (HL (CN s) (CW s) (aM s k) (rC (AJ (aC s k)) (NQ s (BM k)) (lI s (BM k)) (VM s) (λl=>WH l (BB s) (Kx (KM (aM s k) (NQ s (BM k)) (aC s k) (WI s (BM k))) l)))) (EZ (Zm (BB s) (Ln.mk (aM s k) (aC s k) (NQ s (BM k)) (WI s (BM k)))) (EZ (QG (QB s)) (AV (SV 0 (BG 2000)) (HQ (OC s) Bl) (AK (eR s) (HV Bl)) (Mb (OC s) Bl) (Dw (OC s) Bl) (GI (Ef s))) (OR (UG (OC s) (aM s k)) (eR s) (aC s k) (GZ (OC s)) (NQ s (BM k)) (cF (OC s) (WI s (BM k))) (GI (Ef s)))) (VZ (λl=>FB (Li (pN s) (AE (λm=>PS m (EM s) (NQ s m) (lI s m))) (EM s) (I0 (yY l k) (PD i) (pN s) (AE (λm=>PS m (EM s) (NQ s m) (lI s m))) (EJ (EM s)) (SB l k) (Nz (AK (aM s l) (aM s k)) (AK (aC s l) (aC s k)) (AKJ AL (YR AL RF (BW s) (BX s)))))) (PF (BN (DN l) (EM s)) (eK l (EM s)) (lL s (DN l)) (lL s j) (J6 (λm=>BA (L6 m (TJ s (DN l) (BM l))) (oR s m)))) (EM s) (BM l) (BM k))))) (VZ (λl=>FB (Li (pN s) (AE (λm=>PS m (EM s) (NQ s m) (lI s m))) (EM s) (I0 (yY l k) (PD i) (pN s) (AE (λm=>PS m (EM s) (NQ s m) (lI s m))) (EJ (EM s)) (SB l k) (Nz (AK (aM s l) (aM s k)) (AK (aC s l) (aC s k)) (AKJ AL (YR AL RF (BW s) (BX s)))))) (PF (BN (DN l) (EM s)) (eK l (EM s)) (lL s (DN l)) (lL s j) (J6 (λm=>BA (L6 m (TJ s (DN l) (BM l))) (oR s m)))) (EM s) (BM l) (BM k))) (CG (λl=>FB (And (PD i) (Gz (pN s) (AE (λm=>PS m (EM s) (NQ s m) (lI s m))) (Nz (EJ (EM s)) (Tp l k) (AKJ AL (YR AL RF (BW s) (BX s)))))) (CJ l (EM s) (J6 (λm=>BA (L6 m (Xm s l)) (oR s m)))) (EM s) l j))))))) (EZ (QG (QB s)) (AV (SV 0 (BG 2000)) (HQ (OC s) Bl) (AK (eR s) (HV Bl)) (Mb (OC s) Bl) (Dw (OC s) Bl) (GI (Ef s))) (OR (UG (OC s) 0) (eR s) 0 (GZ (OC s)) 0 (CQ (JJ (OC s))) (Di (Ef s))))))):=by kernel_rfl
def okP(p:Pt):Prop:=0<=p.st/\p.st<=2000/\0<=p.fl/\p.fl<=200000
theorem BPS{l:List Pt}{p q:Pt}:q∈addP l p↔q∈l∨q=p:=by
 unfold addP;split
 ·rename_i h
  exact⟨.inl,λh2=>h2.elim id λh2=>h2 ▸ h⟩
 ·simp
theorem AMP:∀(s:List Gau) (l:List Pt) (p:Pt),p∈s.foldl addG l↔p∈l∨∃g∈s,p=⟨g.st,g.lo⟩∨p=⟨g.st,g.hi⟩
 |[],l,p=>by simp
 |g :: s,l,p=>by
  rw[List.foldl_cons,AMP s]
  simp only[addG,BPS,List.mem_cons,exists_eq_or_imp]
  constructor
  ·rintro (((h | h) | h) | h)
   ·exact .inl h
   ·exact .inr (.inl (.inl h))
   ·exact .inr (.inl (.inr h))
   ·exact .inr (.inr h)
  ·rintro (h | (h | h) | h)
   ·exact .inl (.inl (.inl h))
   ·exact .inl (.inl (.inr h))
   ·exact .inl (.inr h)
   ·exact .inr h
theorem AEW{s:List Gau}{p:Pt}:p∈AB s↔∃g∈s,p=⟨g.st,g.lo⟩∨p=⟨g.st,g.hi⟩:=by
 unfold AB;rw[AMP];simp
theorem gU{s:List Gau}(h:∀g∈s,Ht g){p:Pt}(hp:p∈AB s):okP p:=by
 obtain⟨g,hg,rfl | rfl⟩:=AEW.1 hp
 ·obtain⟨h1,h2,h3,h4,h5⟩:=h g hg;exact⟨h1,h2,h3,by show g.lo<=_;omega⟩
 ·obtain⟨h1,h2,h3,h4,h5⟩:=h g hg;exact⟨h1,h2,by show 0<=g.hi;omega,h5⟩
theorem pS{p:Pt}(h:okP p):PO (UC p):=by
 obtain⟨h1,h2,h3,h4⟩:=h
 unfold UC;split
 ·exact⟨by show 0<=p.st-1;omega,by show p.st-1<p.st;omega,h2,h3,Int.le_refl _,h4⟩
 ·exact⟨h1,by show p.st<p.st+1;omega,by show p.st+1<=2000;omega,h3,Int.le_refl _,h4⟩
theorem dG{x:Ln}:Ww x=true↔PO x:=by
 unfold Ww riP MN PO
 simp only[Bool.and_eq_true,decide_eq_true_eq]
 constructor
 ·intro h;exact⟨by omega,by omega,by omega,by omega,by omega,by omega⟩
 ·intro h;exact⟨⟨⟨⟨⟨by omega,by omega⟩,by omega,by omega⟩,⟨by omega,by omega⟩,by omega,by omega⟩,by omega⟩,by omega⟩
theorem BLM{s:List Gau}{i:Nat}(h:i<(AB s).length):Xm s (i+1)=Xm s i ++ blk (AB s) (gD (AB s) i):=by
 unfold Xm;rw[VP h,List.flatMap_append];simp
theorem vV{s:List Gau}:Xm s (AB s).length=Rj s:=by unfold Xm Rj;rw[List.take_length]
theorem uL{s:List Gau}{i:Nat}(h:i<(AB s).length):TJ s i (AB s).length=Xm s (i+1):=by
 rw[BLM h];unfold TJ blk;rw[List.take_length]
theorem bL{s:List Gau}{i j:Nat}(h:j<(AB s).length):TJ s i (j+1)=TJ s i j ++ (if Ww (qS (gD (AB s) i) (gD (AB s) j)) then [qS (gD (AB s) i) (gD (AB s) j)] else []):=by
 unfold TJ
 rw[VP h,List.map_append,List.filter_append,<-List.cons_append,<-List.append_assoc]
 simp only[List.map_cons,List.map_nil]
 congr 1
 split
 ·rename_i h1;rw[List.filter_cons_of_pos h1];rfl
 ·rename_i h1;rw[List.filter_cons_of_neg h1];rfl
theorem CLI{s:List Gau}:∀{i:Nat},∃r,Rj s=Xm s i ++ r:=λ{i}=>by
 refine⟨((AB s).drop i).flatMap (blk (AB s)),?_⟩
 unfold Rj Xm
 rw[<-List.flatMap_append,List.take_append_drop]
theorem BZE{s:List Gau}{i j:Nat}(h:i<(AB s).length):∃r,Rj s=TJ s i j ++ r:=by
 obtain⟨r,hr⟩:=CLI (s:=s) (i:=i+1)
 rw[hr,<-uL h]
 refine⟨(((AB s).drop j).map (qS (gD (AB s) i))).filter Ww ++ r,?_⟩
 unfold TJ
 rw[List.take_length]
 conv=>lhs;rw[<-List.take_append_drop j (AB s)]
 simp only[List.map_append,List.filter_append,List.append_assoc,List.cons_append]
 rw[List.take_append_drop]
theorem CFF{α:Type}{f:α->Bool}{p:List α}{x:α}{r:List α}(h:∀y∈p,f y=false)(hx:f x=true):(p ++ x :: r).find? f=some x:=by
 rw[List.find?_append,List.find?_eq_none.2 (λy hy=>by simp[h y hy])]
 simp[hx]
theorem AKS{s:List Gau}{p:List Ln}{x:Ln}{r:List Ln}(h:Rj s=p ++ x :: r)(h1:∀y∈p,Ru s y=false)(hx:Ru s x=true)(h0:s.length≠0):NA s=(x,true):=by
 unfold NA;rw[if_neg h0,h,CFF h1 hx]
theorem BWG{s:List Gau}(h:s.length=0):NA s=(UC ⟨0,0⟩,true):=if_pos h
theorem BKC{s:List Gau}(h:∀y∈Rj s,Ru s y=false)(h0:s.length≠0):NA s=(default,false):=by
 unfold NA;rw[if_neg h0,List.find?_eq_none.2 (λy hy=>by simp[h y hy])]
theorem BGF:AH Try.prog AIR (C_line.spec A2):=PU C_line BTB [] [] CCR (λ_=>by kernel_rfl) (λ_=>AA C2 (AA B6 (AA bS AD))) (λ(s:List Gau) h=>by
 show BYU s;rw[CFA]<;> delta LI UD KA LV JY fD Qj X9 LL HV GZ JJ NX HU EZ AK AN AE BA BN BH CV DC ER NC TD KE FD ZN sA FT CG BP GU TA G5 VZ DN BM cP aS Wm J6 L6 CS AG AI AO AJ AR DF KS YR Gz Qv AMC AKJ QM AS CM BB Ib I0 DY HZ IG BG HC BW DK DI MK JH DO BO GJ VT AQ JI PS JO KC EJ EB DR EX CI OS FP EV GI BC UG AV DT ZQ JD HQ AU HI AL EY uA PD PF RJ ME DV BE FE EM HX CJ UA KL EF LA BU ON HH HL OR Cq BX US Ap BD WH HF CN CW NQ FG OE WI OC Dk SV MD SA QB Zm KM CQ TM rC PK FB Un oM Kx Di UO cF SB Hb TL Dw yY WV QL RF kY TH MU Fw kZ Mb Bl QG Ef LU VM WS aC Xl aM SS Tp eR lI pN Nz lL eK Li oR Zw;simp only[CC,CU,if_true]
 obtain⟨hn,hg⟩:s.length<1073741824/\∀g∈s,Ht g:=h
 have nil:((s.length:Int)==0)=true->(0<=(0:Int)/\(0:Int)<=2000)/\(NA s).fst.a0=(UC ⟨0,0⟩).a0/\(NA s).fst.a1=(UC ⟨0,0⟩).a1/\(NA s).fst.b0=(UC ⟨0,0⟩).b0/\(NA s).fst.b1=(UC ⟨0,0⟩).b1/\(NA s).snd=true:=λh=>by
  rw[BWG (by simpa using h)];exact⟨by omega,rfl,rfl,rfl,rfl,rfl⟩
 have ok:∀x,PO x->s.length<4611686018427387904/\∀g:Gau,List.Mem g s->PO x/\Ht g:=λx hx=>⟨by omega,λg hgs=>⟨hx,hg g hgs⟩⟩
 have he:(AB s).length<=2*s.length:=by
  have:=bK (s:=s) s.length (Nat.le_refl _)
  unfold Nb at this;rw[List.take_length] at this;exact this
 have e_ok:∀i,i<(AB s).length->okP (gD (AB s) i):=λi hi=>gU hg (MF hi)
 refine⟨by omega,⟨0,rfl,Nat.zero_le _,λx hx=>by cases hx⟩,λi ⟨hi,hp⟩=>⟨λhlt=>?_,λhge=>?_⟩⟩
 ·have hlt:i<(AB s).length:=by omega
  obtain⟨r0,hr0⟩:=BZE (s:=s) (j:=0) hlt
  have hpe:TJ s i 0=Xm s i ++ [UC (gD (AB s) i)]:=by unfold TJ;simp
  have hr0':Rj s=Xm s i ++ UC (gD (AB s) i) :: r0:=by rw[hr0,hpe];simp
  refine⟨⟨by omega,by omega⟩,⟨(e_ok i hlt).1,(e_ok i hlt).2.1⟩,ok _ (pS (e_ok i hlt)),λhpa=>⟨nil,λh0=>?_⟩,λhpa=>⟨⟨⟨i,0⟩,⟨rfl,rfl,rfl,rfl⟩,hlt,Nat.zero_le _,rfl,λy hy=>?_⟩,λx ⟨hx1,hx2,hx3,hx4⟩=>⟨λhj=>?_,λhj=>?_⟩⟩⟩
  ·rw[AKS hr0' hp hpa (by simpa using h0)];exact⟨rfl,rfl,rfl,rfl,rfl⟩
  ·have hy:y∈Xm s i ++ [UC (gD (AB s) i)]:=hpe ▸ hy
   rcases List.mem_append.1 hy with hy | hy
   ·exact hp y hy
   ·rw[List.mem_singleton.1 hy];exact hpa
  ·have hj:x.j<(AB s).length:=by omega
   have step:(∀y∈TJ s x.i (x.j+1),Ru s y=false)->∃z:IJ,((z.j:Int)=IntKind.i64.wrap ((x.j:Int)+1)/\(z.i:Int)=x.i/\(gD (AB s) z.i).st=(gD (AB s) x.i).st/\(gD (AB s) z.i).fl=(gD (AB s) x.i).fl)/\(z.i<(AB s).length/\z.j<=(AB s).length/\(AB s).length-z.i=(AB s).length-i/\∀y:Ln,List.Mem y (TJ s z.i z.j)->Ru s y=false)/\(AB s).length-z.j<(AB s).length-x.j:=λh=>
    ⟨⟨x.i,x.j+1⟩,⟨(GH (by omega)).symm,rfl,rfl,rfl⟩,⟨hx1,hj,hx3,h⟩,by show (AB s).length-(x.j+1)<_;omega⟩
   refine⟨⟨by omega,by omega⟩,λhri=>⟨ok ⟨_,_,_,_⟩ (dG.1 hri),λhpa=>⟨nil,λh0=>?_⟩,λhpa=>step λy hy=>?_⟩,λhri=>step λy hy=>?_⟩
   ·have hri':Ww (qS (gD (AB s) x.i) (gD (AB s) x.j))=true:=hri
    obtain⟨r,hr⟩:=BZE (s:=s) (j:=x.j+1) hx1
    rw[bL hj,if_pos hri',List.append_assoc] at hr
    rw[AKS hr hx4 hpa (by simpa using h0)];exact⟨rfl,rfl,rfl,rfl,rfl⟩
   ·have hri':Ww (qS (gD (AB s) x.i) (gD (AB s) x.j))=true:=hri
    rw[bL hj,if_pos hri'] at hy
    rcases List.mem_append.1 hy with hy | hy
    ·exact hx4 y hy
    ·rw[List.mem_singleton.1 hy];exact hpa
   ·have hri':¬ Ww (qS (gD (AB s) x.i) (gD (AB s) x.j))=true:=by
     intro h;have h:Ww ⟨_,_,_,_⟩=true:=h;rw[hri] at h;cases h
    rw[bL hj,if_neg hri',List.append_nil] at hy
    exact hx4 y hy
  ·have hje:x.j=(AB s).length:=by omega
   refine⟨x.i+1,(GH (by omega)).symm,⟨by omega,λy hy=>?_⟩,by omega⟩
   rw[<-uL hx1] at hy
   exact hx4 y (hje ▸ hy)
 ·have hie:i=(AB s).length:=by omega
  rw[hie,vV] at hp
  refine⟨nil,λh0=>?_⟩
  rw[BKC hp (by simpa using h0)];exact⟨rfl,rfl,rfl,rfl,rfl⟩) (λs=>K2 Fz (BPI s) rfl rfl (AA F3 (AA bS (AA X2 AD))) sM (by kernel_rfl) (by kernel_rfl)) _
end Go.Bal
