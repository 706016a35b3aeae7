/- Package rating: a line that passes. -/
import Derived.Test.YtceloknnpdonhaaGreatRatC
set_option linter.unusedVariables false
set_option linter.unusedSimpArgs false
namespace Go.Bal
open Go Go.Sym Go.Proofs
def dGsK:List AVal->Heap->Option (List Gau×List (Nat×Nat)×List Nat):=xY
def C_through:Ctr:={ α:=List Gau,xs:=λs=>[.d (KZ s)],L:=λ_=>[],val:=λs=>.fn (.func Jk) [] [.bptr 0 0],keep:=λs=>[(0,.live (.box [.d (KZ s)]))] }
def BVG(s:List Gau):Prop:=BG Try.prog (ann 4 []) BKM (AL BKM) (C_through.xs s) (AF []) (C_through.val s) (C_through.keep s) [(0,1000)] []
theorem CMA(s:List Gau):(BVG s)=(FK (BY s) (λi=>HO i s)):=by kernel_rfl
theorem AXA:AM Try.prog ANK (C_through.spec dGsK):=WY C_through (λ_=>ann 4 []) [(0,1000)] [] CLA (λ_=>by kernel_rfl) (λ_=>AG) (λ(s:List Gau) _=>by
 show BVG s;rw[CMA]<;> delta AR AK BO CI AO EY GW CW FX AH AZ AI BI DI DY DZ GQ HE QL UW BY FK OH HO;simp) (λ_=>YE rfl rfl) _
structure GsL where
 s:List Gau
 x:Ln
def dGsL:List AVal->Heap->Option (GsL×List (Nat×Nat)×List Nat)
 |[y,.d x],H=>match BLF y H with
  |some (l,f)=>some (⟨l,dLn x⟩,[],f)
  |none=>none
 |_,_=>none
def C_passing:Ctr:={ α:=GsL,xs:=λa=>[.d (KZ a.s),.d (eLn a.x)],L:=λ_=>[],val:=λa=>.bool (a.s.all λg=>LL a.x g),keep:=λ_=>[],pre:=λa=>[a.s.length<4611686018427387904/\(∀g∈a.s,(RF a.x/\Oy g))] }
def BVL:Ann:=ann 9 [(n_eG,C4Gp.spec d4Gp)]
def BXD(a:GsL):Prop:=BG Try.prog BVL BIM (AL BIM) (C_passing.xs a) (AF []) (C_passing.val a) [] [] []
abbrev BKW:=GsL.s
abbrev BBV:=GsL.x
attribute [go_sem] BKW BBV
theorem CKP(a:GsL):(BXD a)=(And (EP (CY (BKW a)) (DD (BKW a)) (FC (BBV a)) (GP (GF (BBV a)) (oE (BBV a)) (qC (BBV a)) (BD (OE (BKW a))) (Jb (λi=>XK i (BU (BKW a)) (And (LJ (BBV a)) (UE i)))))) (JB (BMF (BKW a) (λi=>tR (BBV a) i)) (BMF (BU (BKW a)) (λi=>tR (BBV a) i)))):=by kernel_rfl
theorem ARE:AM Try.prog C0 (C_passing.spec dGsL):=WY C_passing (λ_=>BVL) [] [] CMD (λ_=>by kernel_rfl) (λ_=>AB DVQ AG) (λ(a:GsL) h=>by
 show BXD a;rw[CKP]<;> delta JB AR AK BO CI AO DJ DX EY GW FC GF GD HB tR CW FX Jb BMF BKW BBV AH NX NY AJ AZ AI BU DI DY BC DZ DN GQ HE ID HC EU HY YB CG BD HN GH GM CR GP AT EP DD CY QE XK OE UE LJ qC oE;simp only[CC,eq_self,implies_true,forall_const]
 have h:a.s.length<4611686018427387904/\(∀g∈a.s,(RF a.x/\Oy g)):=h
 first | exact h | exact⟨h,rfl⟩) (λ_=>YE rfl rfl) _
def L0(a b:Pt):Ln:=⟨a.st,a.fl,b.st,b.fl⟩
def blk(e:List Pt)(a:Pt):List Ln:=CB a :: (e.map (L0 a)).filter eM
def Yj(s:List Gau):List Ln:=(AA s).flatMap (blk (AA s))
def Pv(s:List Gau)(x:Ln):Bool:=s.all λg=>LL x g
def GZ(s:List Gau):Ln×Bool:=if s.length=0 then (CB ⟨0,0⟩,true) else match (Yj s).find? (Pv s) with
 |some x=>(x,true)
 |none=>(default,false)
def zLn:HCell:=.live (.box [.int 0,.int 0,.int 0,.int 0])
def lnH(s:List Gau):List (Nat×HCell):=[(1000,zLn),(2000,zLn),(3000,.live (.box [.bool false])),(4032,.live (.box [.fn (.func C0) [.d (KZ s)] []]))]
def lnS(s:List Gau)(l i:Nat):List (Nat×AVal):=[(0,.fn (.yield l) [] []),(3,.d (ePts (AA s))),(11,.d (ePts (AA s))),(12,.int (AA s).length),(13,.int i)]
def fC(s:List Gau)(i:Nat):List Ln:=((AA s).take i).flatMap (blk (AA s))
def XC(s:List Gau)(i j:Nat):List Ln:=fC s i ++ CB (gD (AA s) i) :: (((AA s).take j).map (L0 (gD (AA s) i))).filter eM
def lnO(s:List Gau)(l:Nat):Shape:={ α:=Nat,dflt:=0,T:=λi=>⟨lnS s l i,lnH s⟩,inv:=λi=>i<=(AA s).length/\∀x∈fC s i,Pv s x=false,meas:=λi=>(AA s).length-i }
def lnI(s:List Gau)(q l:Nat):Shape:={ α:=IJ,dflt:=default,T:=λx=>⟨[(5,.bptr 205 0),(22,.d (ePts (AA s))),(23,.int (AA s).length),(24,.int x.j)] ++ lnS s l x.i,(205,.live (.box [.int (gD (AA s) x.i).st,.int (gD (AA s) x.i).fl])) :: lnH s⟩,inv:=λx=>x.i<(AA s).length/\x.j<=(AA s).length/\(AA s).length-x.i=q/\∀y∈XC s x.i x.j,Pv s y=false,meas:=λx=>(AA s).length-x.j,first:=[(205,104032)] }
noncomputable def CWX(s:List Gau):IterAnn:={ fn:=pV,code:=AL pV,live:=[0,2,4,5,6],ann:={ base:=λid=>100000+1000*(id+1),Γ:=Sym.look [(BQQ,C_ends.spec xY),(C6,ALX),(BSW,CHA)],E:=[1000,2000,3000,4032],n:=41,inner:=λgs id=>if id=2 then some [lnO s (gs.getD 0 0)] else if id=6 then some [lnI s (gs.getD 0 0) (gs.getD 1 0)] else none } }
noncomputable def DEO(s:List Gau):Ann:={ ann 24 [(ANK,C_through.spec dGsK),(C0,C_passing.spec dGsL),(C6,ALX)] with iter:=λg=>if g=Jk then some (CWX s) else none }
def C_line:Ctr:={ α:=List Gau,xs:=λs=>[.d (KZ s)],L:=λ_=>[],val:=λs=>.tup [.d (eLn (GZ s).1),.bool (GZ s).2],keep:=λ_=>[],pre:=λs=>[s.length<1073741824/\∀g∈s,Oy g] }
def DER(s:List Gau):Prop:=BG Try.prog (DEO s) CLW (AL CLW) (C_line.xs s) (AF []) (C_line.val s) [] [] []
abbrev yM(s:List Gau):List Gau:=KA s.length λ(i:Nat)=>gD s i
abbrev xS(s:List Gau):Nat:=(yM s).length
abbrev BBS(s:List Gau):Prop:=xS s=s.length
abbrev AFH(s:List Gau)(i:Nat):Gau:=gD (yM s) i
abbrev BPG(s:List Gau)(i:Nat):Int:=(AFH s i).st
abbrev BUF(s:List Gau)(i:Nat):Int:=(AFH s i).lo
abbrev BPR(s:List Gau)(i:Nat):Int:=(AFH s i).hi
abbrev BCU(s:List Gau):Prop:=∀(i:Nat),i<xS s->BPG s i=(gD s i).st/\BUF s i=(gD s i).lo/\BPR s i=(gD s i).hi
abbrev BBK(s:List Gau):List Gau:=KA (xS s) λ(i:Nat)=>AFH s i
abbrev BBM(s:List Gau):Nat:=(BBK s).length
abbrev AMY(s:List Gau)(i:Nat):Gau:=gD (BBK s) i
abbrev BGS(s:List Gau):List Pt:=AA (BBK s)
abbrev BHH(s:List Gau):Nat:=(BGS s).length
abbrev BIS(s:List Gau):Prop:=(AA s).length=BHH s
abbrev BJN(s:List Gau)(i:Nat):Pt:=gD (BGS s) i
abbrev BHJ(s:List Gau):Prop:=∀(i:Nat),i<(AA s).length->(gD (AA s) i).st=(BJN s i).st/\(gD (AA s) i).fl=(BJN s i).fl
abbrev Lw:Prop:=Int.ofNat (0:Nat)=Int.ofNat (0:Nat)
abbrev xX(s:List Gau):Prop:=Lw/\Lw/\Lw/\Lw/\Lw/\Lw/\Lw/\Lw/\false=false/\s.length=s.length/\∀(i:Nat),i<s.length->(gD s i).st =
 (gD s i).st/\(gD s i).lo=(gD s i).lo/\(gD s i).hi=(gD s i).hi
abbrev AOF(a:Nat)(s:List Gau):Prop:=a<=(AA s).length/\∀(x:Ln),List.Mem x (fC s a)->Pv s x=false
abbrev BJR(a:Nat)(s:List Gau):Prop:=(↑a:Int)<(↑(AA s).length:Int)
abbrev BFR(s:List Gau):Prop:=xS s<(4611686018427387904:Nat)
abbrev BGN(g:Gau)(s:List Gau):Prop:=List.Mem g (yM s)
abbrev BIJ(g:Gau):Prop:=(0:Int)<=g.st/\g.st<=(2000:Int)/\(0:Int)<=g.lo/\g.lo<=g.hi/\g.hi<=(200000:Int)
abbrev AMR(s:List Gau):Bool:=(↑s.length:Int)==(0:Int)
abbrev z_line_24:Ln:=CB (Pt.mk (0:Int) (0:Int))
abbrev AMG(s:List Gau):Prop:=((0:Int)<=(0:Int)/\(0:Int)<=(2000:Int))/\(GZ s).fst.a0=z_line_24.a0/\(GZ s).fst.a1=z_line_24.a1/\(GZ s).fst.b0=z_line_24.b0/\(GZ s).fst.b1 =
 z_line_24.b1/\(GZ s).snd=true
abbrev Li(s:List Gau):Prop:=(AA s).length=(AA s).length
abbrev Lt(s:List Gau):Prop:=∀(i:Nat),i<(AA s).length->(gD (AA s) i).st=(gD (AA s) i).st/\(gD (AA s) i).fl=(gD (AA s) i).fl
abbrev kC(s:List Gau):Prop:=(↑(AA s).length:Int)=(↑(AA s).length:Int)
abbrev AMX(s:List Gau)(a:Nat):Nat:=(AA s).length-a
abbrev ANG(a:IJ)(s:List Gau)(a1:Nat):Prop:=a.i<(AA s).length/\a.j<=(AA s).length/\(AA s).length-a.i=AMX s a1/\∀(y:Ln),List.Mem y (XC s a.i a.j)->Pv s y=false
abbrev BHV(a:IJ)(s:List Gau):Prop:=(↑a.j:Int)<(↑(AA s).length:Int)
abbrev BKI(s:List Gau)(a:IJ):Ln:=Ln.mk (gD (AA s) a.i).st (gD (AA s) a.i).fl (gD (AA s) a.j).st (gD (AA s) a.j).fl
abbrev BGZ(s:List Gau)(a:IJ):Bool:=eM (BKI s a)
abbrev BEZ(s:List Gau)(a:IJ):Nat:=(AA s).length-a.j
abbrev BHM(s:List Gau)(a:IJ)(l:Nat)(a1:Nat):Prop:=∃(a_1:IJ),(Li s/\Lt s/\kC s/\(↑a_1.j:Int)=IntKind.i64.wrap ((↑a.j:Int)+(1:Int))/\Fn.yield l=Fn.yield l /\
 Li s/\Lt s/\Li s/\Lt s/\kC s/\(↑a_1.i:Int)=(↑a.i:Int)/\(gD (AA s) a_1.i).st=(gD (AA s) a.i).st/\(gD (AA s) a_1.i).fl=(gD (AA s) a.i).fl/\xX s) /\
 ANG a_1 s a1/\BEZ s a_1<BEZ s a
theorem DKI(s:List Gau):(DER s)=((BBS s/\BCU s)/\∀(l:Nat),(BBM s=xS s/\(∀(i:Nat),i<BBM s->(AMY s i).st=BPG s i/\(AMY s i).lo=BUF s i /\
 (AMY s i).hi=BPR s i)/\BBM s<(1073741824:Nat)/\True)/\(∃(a:Nat),(Fn.yield l=Fn.yield l/\BIS s/\BHJ s/\BIS s/\BHJ s/\(↑(AA s).length:Int)=(↑(BHH s)
 : Int)/\(↑a:Int)=(0:Int)/\xX s)/\AOF a s)/\∀(a:Nat),AOF a s->bif decide (BJR a s) then ((0:Int)<=(↑a:Int)/\BJR a s)/\((0:Int)<=(gD (AA s) a).st/\(gD (AA s)
 a).st<=(2000:Int))/\l=l/\(BBS s/\BCU s/\(CB (gD (AA s) a)).a0=(CB (gD (AA s) a)).a0/\(CB (gD (AA s) a)).a1=(CB (gD (AA s) a)).a1/\(CB (gD (AA s) a)).b0=(CB (gD (AA
 s) a)).b0/\(CB (gD (AA s) a)).b1=(CB (gD (AA s) a)).b1/\BFR s/\∀(g:Gau),BGN g s->((0:Int)<=(CB (gD (AA s) a)).a0/\(CB (gD (AA s) a)).a0<(CB (gD (AA s) a)).b0/\(CB
 (gD (AA s) a)).b0<=(2000:Int)/\(0:Int)<=(CB (gD (AA s) a)).a1/\(CB (gD (AA s) a)).a1<=(CB (gD (AA s) a)).b1/\(CB (gD (AA s) a)).b1<=(200000:Int))/\BIJ g)/\bif (yM s).all
 λ(g:Gau)=>LL (CB (gD (AA s) a)) g then bif AMR s then AMG s else (GZ s).fst.a0=(CB (gD (AA s) a)).a0/\(GZ s).fst.a1=(CB (gD (AA s) a)).a1/\(GZ s).fst.b0=(CB (gD
 (AA s) a)).b0/\(GZ s).fst.b1=(CB (gD (AA s) a)).b1/\(GZ s).snd=true else (∃(a_2:IJ),(Li s/\Lt s/\kC s/\(↑a_2.j:Int)=(0:Int)/\Fn.yield l=Fn.yield l/\Li s /\
 Lt s/\Li s/\Lt s/\kC s/\(↑a_2.i:Int)=(↑a:Int)/\(gD (AA s) a_2.i).st=(gD (AA s) a).st/\(gD (AA s) a_2.i).fl=(gD (AA s) a).fl/\xX s)/\ANG a_2 s a)/\∀
 (a_2:IJ),ANG a_2 s a->bif decide (BHV a_2 s) then ((0:Int)<=(↑a_2.j:Int)/\BHV a_2 s)/\bif if true=true then BGZ s a_2 else !BGZ s a_2 then l=l/\(BBS s/\BCU s/\(gD
 (AA s) a_2.i).st=(gD (AA s) a_2.i).st/\(gD (AA s) a_2.i).fl=(gD (AA s) a_2.i).fl/\(gD (AA s) a_2.j).st=(gD (AA s) a_2.j).st/\(gD (AA s) a_2.j).fl=(gD (AA s) a_2.j).fl/\BFR s/\∀
 (g:Gau),BGN g s->((0:Int)<=(gD (AA s) a_2.i).st/\(gD (AA s) a_2.i).st<(gD (AA s) a_2.j).st/\(gD (AA s) a_2.j).st<=(2000:Int)/\(0:Int)<=(gD (AA s) a_2.i).fl/\(gD (AA s) a_2.i).fl
 <= (gD (AA s) a_2.j).fl/\(gD (AA s) a_2.j).fl<=(200000:Int))/\BIJ g)/\bif (yM s).all λ(g:Gau)=>LL (BKI s a_2) g then bif AMR s then AMG s else (GZ s).fst.a0=(gD
 (AA s) a_2.i).st/\(GZ s).fst.a1=(gD (AA s) a_2.i).fl/\(GZ s).fst.b0=(gD (AA s) a_2.j).st/\(GZ s).fst.b1=(gD (AA s) a_2.j).fl/\(GZ s).snd=true else BHM s a_2 l a else BHM s
 a_2 l a else ∃(a_4:Nat),(Fn.yield l=Fn.yield l/\Li s/\Lt s/\Li s/\Lt s/\kC s/\(↑a_4:Int)=IntKind.i64.wrap ((↑a_2.i:Int)+(1:Int))/\xX s)/\AOF a_4 s /\
 AMX s a_4<AMX s a else bif AMR s then AMG s else (GZ s).fst.a0=(0:Int)/\(GZ s).fst.a1=(0:Int)/\(GZ s).fst.b0=(0:Int)/\(GZ s).fst.b1=(0:Int)/\(GZ s).snd =
 false):=by kernel_rfl
def okP(p:Pt):Prop:=0<=p.st/\p.st<=2000/\0<=p.fl/\p.fl<=200000
theorem CXT{l:List Pt}{p q:Pt}:q∈addP l p↔q∈l∨q=p:=by
 unfold addP;split
 ·rename_i h
  exact⟨.inl,λh2=>h2.elim id λh2=>h2 ▸ h⟩
 ·simp
theorem BXB:∀(s:List Gau) (l:List Pt) (p:Pt),p∈s.foldl addG l↔p∈l∨∃g∈s,p=⟨g.st,g.lo⟩∨p=⟨g.st,g.hi⟩
 |[],l,p=>by simp
 |g :: s,l,p=>by
  rw[List.foldl_cons,BXB s]
  simp only[addG,CXT,List.mem_cons,exists_eq_or_imp]
  constructor
  ·rintro (((h | h) | h) | h)
   ·exact .inl h
   ·exact .inr (.inl (.inl h))
   ·exact .inr (.inl (.inr h))
   ·exact .inr (.inr h)
  ·rintro (h | (h | h) | h)
   ·exact .inl (.inl (.inl h))
   ·exact .inl (.inl (.inr h))
   ·exact .inl (.inr h)
   ·exact .inr h
theorem BOV{s:List Gau}{p:Pt}:p∈AA s↔∃g∈s,p=⟨g.st,g.lo⟩∨p=⟨g.st,g.hi⟩:=by
 unfold AA;rw[BXB];simp
theorem tW{s:List Gau}(h:∀g∈s,Oy g){p:Pt}(hp:p∈AA s):okP p:=by
 obtain⟨g,hg,rfl | rfl⟩:=BOV.1 hp
 ·obtain⟨h1,h2,h3,h4,h5⟩:=h g hg;exact⟨h1,h2,h3,by show g.lo<=_;omega⟩
 ·obtain⟨h1,h2,h3,h4,h5⟩:=h g hg;exact⟨h1,h2,by show 0<=g.hi;omega,h5⟩
theorem ABJ{p:Pt}(h:okP p):RF (CB p):=by
 obtain⟨h1,h2,h3,h4⟩:=h
 unfold CB;split
 ·exact⟨by show 0<=p.st-1;omega,by show p.st-1<p.st;omega,h2,h3,Int.le_refl _,h4⟩
 ·exact⟨h1,by show p.st<p.st+1;omega,by show p.st+1<=2000;omega,h3,Int.le_refl _,h4⟩
theorem gS{x:Ln}:eM x=true↔RF x:=by
 unfold eM riP Sx RF
 simp only[Bool.and_eq_true,decide_eq_true_eq]
 constructor
 ·intro h;exact⟨by omega,by omega,by omega,by omega,by omega,by omega⟩
 ·intro h;exact⟨⟨⟨⟨⟨by omega,by omega⟩,by omega,by omega⟩,⟨by omega,by omega⟩,by omega,by omega⟩,by omega⟩,by omega⟩
theorem CTY{s:List Gau}{i:Nat}(h:i<(AA s).length):fC s (i+1)=fC s i ++ blk (AA s) (gD (AA s) i):=by
 unfold fC;rw[WX h,List.flatMap_append];simp
theorem ACK{s:List Gau}:fC s (AA s).length=Yj s:=by unfold fC Yj;rw[List.take_length]
theorem AGZ{s:List Gau}{i:Nat}(h:i<(AA s).length):XC s i (AA s).length=fC s (i+1):=by
 rw[CTY h];unfold XC blk;rw[List.take_length]
theorem jZ{s:List Gau}{i j:Nat}(h:j<(AA s).length):XC s i (j+1)=XC s i j ++ (if eM (L0 (gD (AA s) i) (gD (AA s) j)) then [L0 (gD (AA s) i) (gD (AA s) j)] else []):=by
 unfold XC
 rw[WX h,List.map_append,List.filter_append,<-List.cons_append,<-List.append_assoc]
 simp only[List.map_cons,List.map_nil]
 congr 1
 split
 ·rename_i h1;rw[List.filter_cons_of_pos h1];rfl
 ·rename_i h1;rw[List.filter_cons_of_neg h1];rfl
theorem DQQ{s:List Gau}:∀{i:Nat},∃r,Yj s=fC s i ++ r:=λ{i}=>by
 refine⟨((AA s).drop i).flatMap (blk (AA s)),?_⟩
 unfold Yj fC
 rw[<-List.flatMap_append,List.take_append_drop]
theorem DAE{s:List Gau}{i j:Nat}(h:i<(AA s).length):∃r,Yj s=XC s i j ++ r:=by
 obtain⟨r,hr⟩:=DQQ (s:=s) (i:=i+1)
 rw[hr,<-AGZ h]
 refine⟨(((AA s).drop j).map (L0 (gD (AA s) i))).filter eM ++ r,?_⟩
 unfold XC
 rw[List.take_length]
 conv=>lhs;rw[<-List.take_append_drop j (AA s)]
 simp only[List.map_append,List.filter_append,List.append_assoc,List.cons_append]
 rw[List.take_append_drop]
theorem DGR{α:Type}{f:α->Bool}{p:List α}{x:α}{r:List α}(h:∀y∈p,f y=false)(hx:f x=true):(p ++ x :: r).find? f=some x:=by
 rw[List.find?_append,List.find?_eq_none.2 (λy hy=>by simp[h y hy])]
 simp[hx]
theorem BSY{s:List Gau}{p:List Ln}{x:Ln}{r:List Ln}(h:Yj s=p ++ x :: r)(h1:∀y∈p,Pv s y=false)(hx:Pv s x=true)(h0:s.length≠0):GZ s=(x,true):=by
 unfold GZ;rw[if_neg h0,h,DGR h1 hx]
theorem CWP{s:List Gau}(h:s.length=0):GZ s=(CB ⟨0,0⟩,true):=if_pos h
theorem CSD{s:List Gau}(h:∀y∈Yj s,Pv s y=false)(h0:s.length≠0):GZ s=(default,false):=by
 unfold GZ;rw[if_neg h0,List.find?_eq_none.2 (λy hy=>by simp[h y hy])]
theorem CQO:AM Try.prog BSL (C_line.spec xY):=WY C_line DEO [] [] DKD (λ_=>by kernel_rfl) (λ_=>AB AXA (AB ARE (AB lR AG))) (λ(s:List Gau) h=>by
 show DER s;rw[DKI];delta yM xS BBS AFH BPG BUF BPR BCU BBK BBM AMY BGS BHH BIS BJN BHJ Lw xX AOF BJR BFR BGN BIJ AMR z_line_24 AMG Li Lt kC AMX ANG BHV BKI BGZ BEZ BHM;simp only[CC,eq_self,implies_true,forall_const,if_true]
 obtain⟨hn,hg⟩:s.length<1073741824/\∀g∈s,Oy g:=h
 have nil:((s.length:Int)==0)=true->(0<=(0:Int)/\(0:Int)<=2000)/\(GZ s).fst.a0=(CB ⟨0,0⟩).a0/\(GZ s).fst.a1=(CB ⟨0,0⟩).a1/\(GZ s).fst.b0=(CB ⟨0,0⟩).b0/\(GZ s).fst.b1=(CB ⟨0,0⟩).b1/\(GZ s).snd=true:=λh=>by
  rw[CWP (by simpa using h)];exact⟨by omega,rfl,rfl,rfl,rfl,rfl⟩
 have ok:∀x,RF x->s.length<4611686018427387904/\∀g:Gau,List.Mem g s->RF x/\Oy g:=λx hx=>⟨by omega,λg hgs=>⟨hx,hg g hgs⟩⟩
 have he:(AA s).length<=2*s.length:=by
  have:=kL (s:=s) s.length (Nat.le_refl _)
  unfold Tm at this;rw[List.take_length] at this;exact this
 have e_ok:∀i,i<(AA s).length->okP (gD (AA s) i):=λi hi=>tW hg (HI hi)
 refine⟨by omega,⟨0,rfl,Nat.zero_le _,λx hx=>by cases hx⟩,λi ⟨hi,hp⟩=>⟨λhlt=>?_,λhge=>?_⟩⟩
 ·have hlt:i<(AA s).length:=by omega
  obtain⟨r0,hr0⟩:=DAE (s:=s) (j:=0) hlt
  have hpe:XC s i 0=fC s i ++ [CB (gD (AA s) i)]:=by unfold XC;simp
  have hr0':Yj s=fC s i ++ CB (gD (AA s) i) :: r0:=by rw[hr0,hpe];simp
  refine⟨⟨by omega,by omega⟩,⟨(e_ok i hlt).1,(e_ok i hlt).2.1⟩,ok _ (ABJ (e_ok i hlt)),λhpa=>⟨nil,λh0=>?_⟩,λhpa=>⟨⟨⟨i,0⟩,⟨rfl,rfl,rfl,rfl⟩,hlt,Nat.zero_le _,rfl,λy hy=>?_⟩,λx ⟨hx1,hx2,hx3,hx4⟩=>⟨λhj=>?_,λhj=>?_⟩⟩⟩
  ·rw[BSY hr0' hp hpa (by simpa using h0)];exact⟨rfl,rfl,rfl,rfl,rfl⟩
  ·have hy:y∈fC s i ++ [CB (gD (AA s) i)]:=hpe ▸ hy
   rcases List.mem_append.1 hy with hy | hy
   ·exact hp y hy
   ·rw[List.mem_singleton.1 hy];exact hpa
  ·have hj:x.j<(AA s).length:=by omega
   have step:(∀y∈XC s x.i (x.j+1),Pv s y=false)->∃z:IJ,((z.j:Int)=IntKind.i64.wrap ((x.j:Int)+1)/\(z.i:Int)=x.i/\(gD (AA s) z.i).st=(gD (AA s) x.i).st/\(gD (AA s) z.i).fl=(gD (AA s) x.i).fl)/\(z.i<(AA s).length/\z.j<=(AA s).length/\(AA s).length-z.i=(AA s).length-i/\∀y:Ln,List.Mem y (XC s z.i z.j)->Pv s y=false)/\(AA s).length-z.j<(AA s).length-x.j:=λh=>
    ⟨⟨x.i,x.j+1⟩,⟨(FN (by omega)).symm,rfl,rfl,rfl⟩,⟨hx1,hj,hx3,h⟩,by show (AA s).length-(x.j+1)<_;omega⟩
   refine⟨⟨by omega,by omega⟩,λhri=>⟨ok ⟨_,_,_,_⟩ (gS.1 hri),λhpa=>⟨nil,λh0=>?_⟩,λhpa=>step λy hy=>?_⟩,λhri=>step λy hy=>?_⟩
   ·have hri':eM (L0 (gD (AA s) x.i) (gD (AA s) x.j))=true:=hri
    obtain⟨r,hr⟩:=DAE (s:=s) (j:=x.j+1) hx1
    rw[jZ hj,if_pos hri',List.append_assoc] at hr
    rw[BSY hr hx4 hpa (by simpa using h0)];exact⟨rfl,rfl,rfl,rfl,rfl⟩
   ·have hri':eM (L0 (gD (AA s) x.i) (gD (AA s) x.j))=true:=hri
    rw[jZ hj,if_pos hri'] at hy
    rcases List.mem_append.1 hy with hy | hy
    ·exact hx4 y hy
    ·rw[List.mem_singleton.1 hy];exact hpa
   ·have hri':¬ eM (L0 (gD (AA s) x.i) (gD (AA s) x.j))=true:=by
     intro h;have h:eM ⟨_,_,_,_⟩=true:=h;rw[hri] at h;cases h
    rw[jZ hj,if_neg hri',List.append_nil] at hy
    exact hx4 y hy
  ·have hje:x.j=(AA s).length:=by omega
   refine⟨x.i+1,(FN (by omega)).symm,⟨by omega,λy hy=>?_⟩,by omega⟩
   rw[<-AGZ hx1] at hy
   exact hx4 y (hje ▸ hy)
 ·have hie:i=(AA s).length:=by omega
  rw[hie,ACK] at hp
  refine⟨nil,λh0=>?_⟩
  rw[CSD hp (by simpa using h0)];exact⟨rfl,rfl,rfl,rfl,rfl⟩) (λs=>CDQ Jk (CWX s) rfl rfl (AB BBN (AB lR (AB BKG AG))) AKV (by kernel_rfl) (by kernel_rfl)) _
end Go.Bal
