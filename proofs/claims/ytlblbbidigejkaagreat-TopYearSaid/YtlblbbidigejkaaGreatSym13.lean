/- The condition under which a piece of code does what is asked: reckoned off its text. -/
import Derived.Test.YtlblbbidigejkaaGreatSym12
set_option linter.unusedVariables false
set_option linter.unusedSimpArgs false
namespace Go.Sym
variable {P : Program} {B B' : Ft} {ι ι' : Nat -> Pl} {H H' : Heap} {D : Nat -> Prop} {w w' : World} {c : Ctx} {σ : AState} {Q : Exit -> AState -> Prop}
structure Round where
 C:Ctr
def BKG(R:Round)(as:List AVal)(H:Heap)(kn:Heap->Prop):Prop:=∃a:R.C.α,
 if ALS (R.C.xs a) (R.C.L a) (.bool true) (R.C.keep a) (λi=>i) 0&&Xo H 0 then
  match lL (PD noF (λi=>i) (λi=>(JS (R.C.L a) i).isSome) (R.C.xs a) as) (AGH noF (λi=>i) (λi=>(JS (R.C.L a) i).isSome) H (R.C.L a)) with
  |some p=>cC (p ++ R.C.pre a) (kn (DV H (Qo (λi=>i) (R.C.keep a))))
  |none=>False
 else False
structure IterAnn where
 fn:Func
 code:Code
 ann:AnnI
 live:List Nat
 round:Option Round:=none
structure Ann extends AnnI where
 iter:FuncId->Option IterAnn:=λ_=>none
 cut:Nat->Option P5:=λ_=>none
 iterIn:List Nat->FuncId->Option IterAnn:=λ_ _=>none
 cutIn:List Nat->Nat->Option P5:=λ_ _=>none
 /-- regions whose appends are told apart -/
 md:Nat->Option (Nat->Nat):=λ_=>none
def Ann.iterAt(A:Ann)(gs:List Nat)(k:Nat):Option IterAnn:=match A.iterIn gs k with
 |some L=>some L
 |none=>A.iter k
def Ann.cutAt(A:Ann)(gs:List Nat)(k:Nat):Option P5:=match A.cutIn gs k with
 |some L=>some L
 |none=>A.cut k
def putL(sl:Nat->AVal):List Nat->List AVal->Nat->AVal
 |p :: ps,v :: vs=>putL (Tk sl (some p) v) ps vs
 |_,_=>sl
def BRY(Q:Exit->AState->Prop)(σ:AState):Option Exit->Prop
 |none=>Q .normal σ
 |some .ret=>Q .ret σ
 |some (.exit id)=>Q (.exit id) σ
 |_=>False
def shf(A:AnnI)(c:Code)(H:Heap):List Nat:=match H (A.base (vX c)) with
 | .none=>[0]
 |_=>[1000000]
def unrE(V:Nat->(AState->Prop)->AState->Prop):Nat->AState->Prop
 |0,_=>False
 |n+1,σ=>V (utag n) (unrE V n) σ
def vc(P:Program)(A:Ann):Code->Bool->List Nat->(Exit->AState->Prop)->AState->Prop
 | .skip,_,_,Q,σ=>Q .normal σ
 | .label _,_,_,Q,σ=>Q .normal σ
 | .exit id,_,_,Q,σ=>Q (.exit id) σ
 | .ret,_,_,Q,σ=>Q .ret σ
 | .seq x y,b,gs,Q,σ=>match b,A.cutAt gs (vX y) with
  |false,some L=>vc P A x false gs (zZ (λσ'=>zP A.E (·.at1) σ' (λs a=>s.inv a) L) Q) σ/\allS (λs=>∀a,s.inv a->vc P A y false (s.tag ++ gs) Q (s.T a).st) L
  |b,_=>vc P A x b gs (zZ (vc P A y b gs Q) Q) σ
 | .cond x t e,b,gs,Q,σ=>match AX σ.sl x with
  | .d (.v (.bool v))=>bif v then vc P A t b gs Q σ else vc P A e b gs Q σ
  | .d .anyB=>vc P A t b gs Q σ/\vc P A e b gs Q σ
  |_=>False
 | .block id x,b,gs,Q,σ=>vc P A x b gs (BJH id Q) σ
 | .scope x,b,gs,Q,σ=>vc P A x b gs (BSI Q) σ
 | .loop x,b,gs,Q,σ=>match A.unr (vX x) with
  |k+1=>unrE (λt K σ'=>vc P A x b (t :: gs) (zZ K Q) σ') (k+1) σ
  |0=>match b,A.loopAt gs (vX x) with
  |false,some L=>zP A.E (·.at1) σ (λs a=>s.inv a) L /\
    allS (λs=>∀a,s.inv a->vc P A x false (s.meas a :: (s.tag ++ gs)) (zZ (λσ'=>zP A.E (·.at2) σ' (λs' a'=>s'.inv a'/\s'.meas a'<s.meas a) L) Q) (s.T a).st) L
  |_,_=>False
 | .region id ops draw,b,gs,Q,σ=>match A.md id with
  |none=>pO P A.Γ (A.mt id) (A.base id+bif b then gs.foldr (· + ·) 0 else A.off gs) A.n ops draw σ λσ'=>vN (if b then none else A.pack id) A.E σ' (Q .normal)
  |some f=>if !draw&&!b then lJ P A.Γ f ops (A.base id+A.off gs) A.n (Q .normal) ops.toList 0 σ else if draw&&!b then BDY P A.Γ f (A.base id+A.off gs) A.n ops σ (Q .normal) else False
 | .rangeFunc f ps assign body,b,gs,Q,σ=>match b,AX σ.sl f with
  |false,.fn (.func g) [] caps=>match A.iterAt gs g with
   |some x=>if x.live.all (λt=>Sy (λi=>x.ann.E.contains i) (σ.sl t))&&A.E.all (λi=>x.ann.E.contains i)&&Nat.beq x.ann.n x.fn.ntmps&&Nat.blt caps.length x.fn.ntmps&&ps.toList.all (λp=>Nat.blt p A.n)&&x.fn.results.isEmpty then
     match x.round with
     |none=>∀l:Nat,vcI P x.ann l (λas H' kn ks=>if Nat.beq as.length ps.size then
       vc P A assign true (shf A.toAnnI assign H') (zZ (vc P A body true (shf A.toAnnI assign H') (λe σ'=>match e with
        | .normal=>kn σ'.H
        | .ret=>ks .ret σ'.H
        | .exit id=>ks (.exit id) σ'.H
        |_=>False)) λ_ _=>False) ⟨putL (LF (x.live.map λt=>(t,σ.sl t))) ps.toList as,H'⟩ else False)
      x.code (l :: gs) (λe m σ'=>match e with
       | .normal | .ret=>BRY Q ⟨LF (x.live.map λt=>(t,σ.sl t)),σ'.H⟩ m
       |_=>False) none ⟨ACC (.fn (.yield l) [] [] :: caps),σ.H⟩
     |some R=>(∀a:R.C.α,BG (R.C.pre a)->(Nat.beq (R.C.xs a).length ps.size&&x.live.all (λt=>Sy (λi=>(JS (R.C.L a) i).isSome) (σ.sl t)))=true /\
       vc P A assign true [0] (zZ (vc P A body true [0] (λe σ'=>match e with
        | .normal=>FF (Jv ((R.C.L a).map (·.1)) [] [] ⟨[],R.C.keep a⟩ ⟨λ_=>.any,σ'.H⟩)
        |_=>False)) λ_ _=>False) ⟨putL (LF (x.live.map λt=>(t,σ.sl t))) ps.toList (R.C.xs a),AC (R.C.L a)⟩) /\
      ∀l:Nat,vcI P x.ann l (λas H' kn _=>BKG R as H' kn)
      x.code (l :: gs) (λe m σ'=>match e with
       | .normal | .ret=>BRY Q ⟨LF (x.live.map λt=>(t,σ.sl t)),σ'.H⟩ m
       |_=>False) none ⟨ACC (.fn (.yield l) [] [] :: caps),σ.H⟩
    else False
   |none=>False
  |_,_=>False
 |_,_,_,_,_=>False
theorem AOJ{n:Nat}:∀(ps:List Nat) (vs:List AVal) (ys:List Value) (sl:Nat->AVal) (tm:Array Value),tm.size=n->(∀p∈ps,p<n)->vs.length=ps.length->ys.length=ps.length ->
  (∀t,VRel B ι D (sl t) (tm.getD t undef))->(∀(j:Nat) (x:AVal) (y:Value),vs[j]?=some x->ys[j]?=some y->VRel B ι D x y) ->
  ∀t,VRel B ι D (putL sl ps vs t) (((ps.zip ys).foldl (λtm (p,v)=>tm.setIfInBounds p v) tm).getD t undef)
 |[],vs,ys,sl,tm,_,_,_,_,hs,_,t=>by cases vs<;>exact hs t
 |p :: ps,v :: vs,y :: ys,sl,tm,hn,hp,h1,h2,hs,hv,t=>by
  simp only[putL,List.zip_cons_cons,List.foldl_cons]
  refine AOJ (n:=n) ps vs ys _ _ (by simpa using hn) (λq hq=>hp q (by simp[hq])) (by simpa using h1) (by simpa using h2) ?_ (λj x y hx hy=>hv (j+1) x y (by simpa using hx) (by simpa using hy)) t
  have:=lD (a:={ tmps:=tm,defers:=[] }) hs (dst:=some p) (λd hd=>by cases hd;show p<tm.size;rw[hn];exact hp p (by simp)) (hv 0 v y rfl rfl)
  exact this
 |p :: ps,[],_,_,_,_,_,h1,_,_,_,_=>by simp at h1
 |p :: ps,_ :: _,[],_,_,_,_,_,h2,_,_,_=>by simp at h2
theorem Yj:∀(l:List (Nat×Value)) (tm:Array Value),(l.foldl (λtm (p,v)=>tm.setIfInBounds p v) tm).size=tm.size
 |[],_=>rfl
 |(p,v) :: l,tm=>by rw[List.foldl_cons,Yj l];simp
theorem CHE{A:Ann}{S:Susp}{n:Nat}{ps:Array Nat}{assign body:Code}{f:FuncId}(hlp:S.lp=λst pe=>{ state:=st,pending:=pe,fn:=f,tmps:=S.tmps,params:=ps,assign:=assign,body:=body,defers:=(S.lp .ready none).defers })
  (hsz:S.tmps.size=n) (hps:∀p∈ps.toList,p<n)
  (ha:∀(gs:List Nat) (c:Ctx) (Q:Exit->AState->Prop) (σ:AState),c.n=n->vc P A assign true gs Q σ->CodeE P c assign Q σ) (hb:∀(gs:List Nat) (c:Ctx) (Q:Exit->AState->Prop) (σ:AState),c.n=n->vc P A body true gs Q σ->CodeE P c body Q σ) :
  qU P S (λas H' kn ks=>if Nat.beq as.length ps.size then
       vc P A assign true (shf A.toAnnI assign H') (zZ (vc P A body true (shf A.toAnnI assign H') (λe σ'=>match e with
        | .normal=>kn σ'.H
        | .ret=>ks .ret σ'.H
        | .exit id=>ks (.exit id) σ'.H
        |_=>False)) λ_ _=>False) ⟨putL S.sl1 ps.toList as,H'⟩ else False):=by
 intro as H kn ks h B ι w vs hA hbase
 split at h
 case isFalse=>exact h.elim
 rename_i hl
 have hl:=Nat.eq_of_beq_eq_true hl
 have hl':vs.size=ps.size:=by rw[hA.1,hl]
 have hrec:∀m,S.lp (stOf m) (m.map bT)={ S.lp .ready none with state:=stOf m,pending:=m.map bT }:=λm=>by rw[hlp]
 have hparams:(S.lp .ready none).params=ps:=by rw[hlp]
 have hready:(S.lp .ready none).state=.ready:=by rw[hlp]
 have hL0:w.heap[S.l]?=some (.loop (S.lp .ready none)):=hbase.lp.here
 refine⟨f,(ps.zip vs).foldl (λtm (p,v)=>tm.setIfInBounds p v) S.tmps,assign,body,?_,?_⟩
 ·have:=run_yield (P:=P) (args:=vs) hL0 (by rw[hparams];exact hl')
  rw[this]
  have e1:(S.lp .ready none).fn=f:=by rw[hlp]
  have e2:(S.lp .ready none).assign=assign:=by rw[hlp]
  have e3:(S.lp .ready none).body=body:=by rw[hlp]
  have e4:(S.lp .ready none).tmps=S.tmps:=by rw[hlp]
  rw[e1,e2,e3,e4,hparams]
 ·refine roundIn_of_wpIn (F:=xH none) (n:=0) trivial ?_
  -- the assignment
  have hRA:Rel ⟨B,ι,H,w,n,some S.l,false⟩ B ι ⟨putL S.sl1 ps.toList as,H⟩ { tmps:=(ps.zip vs).foldl (λtm (p,v)=>tm.setIfInBounds p v) S.tmps,defers:=[] } w:=by
   refine⟨λt=>?_,?_,⟨[],rfl,λ_=>rfl,List.nodup_nil,λD hD=>by cases hD⟩,Moved.refl hbase.mv.heap⟩
   ·have:=AOJ (n:=n) ps.toList as vs.toList S.sl1 S.tmps hsz hps (by simpa using hl) (by simpa using hl') hbase.susp (λj x y hx hy=>hA.2 j x y hx (by simpa using hy)) t
    rw[<-Array.foldl_toList,Array.toList_zip]
    exact this
   ·rw[<-Array.foldl_toList];exact (Yj _ _).trans hsz
  refine wpIn_mono (ha _ ⟨B,ι,H,w,n,some S.l,false⟩ _ _ rfl h B ι _ w hRA) λe a1 w1 hq=>?_
  obtain⟨B1,ι1,σ1,hq,hR1⟩:=hq
  cases e<;>try exact hq.elim
  have hq:vc P A body true (shf A.toAnnI assign H) _ σ1:=hq
  have hb1:=hbase.moved hR1.mv
  have hL1:w1.heap[S.l]?=some (.loop (S.lp .ready none)):=hb1.lp.here
  refine⟨_,run_beginRound hL1 hready,?_⟩
  -- the record is busy
  have hH2:HRel B1 ι1 σ1.H (w1.putObj S.l (.loop { S.lp .ready none with state:=.busy })):=hR1.mv.heap.put hb1.lp (λ_ _ _ h=>by cases h) _
  obtain⟨Ds1,d1,d2,_⟩:=hR1.defers
  have hRB:Rel ⟨B1,ι1,σ1.H,w1.putObj S.l (.loop { S.lp .ready none with state:=.busy }),n,some S.l,false⟩ B1 ι1 σ1 a1 (w1.putObj S.l (.loop { S.lp .ready none with state:=.busy })):=
   ⟨hR1.slots,hR1.size,⟨[],by rw[d1,d2 rfl],λ_=>rfl,List.nodup_nil,λD hD=>by cases hD⟩,Moved.refl hH2⟩
  have hL2:Quiet S.l (.loop { S.lp .ready none with state:=.busy }) ι1 σ1.H (w1.putObj S.l (.loop { S.lp .ready none with state:=.busy })):=hb1.lp.put_same _
  have hmv2:=hb1.mv.put hb1.lp (λ_ _ _ h=>by cases h) hb1.lge (.loop { S.lp .ready none with state:=.busy })
  refine wpIn_mono (hb _ ⟨B1,ι1,σ1.H,_,n,some S.l,false⟩ _ _ rfl hq B1 ι1 a1 _ hRB) λe a2 w3 hq=>?_
  obtain⟨B2,ι2,σ2,hq,hR2⟩:=hq
  have hL3:=hL2.moved hR2.mv
  have tr:∀a y,VRel B ι H.dom a y->VRel B2 ι2 σ2.H.dom a y:=λa y hv=>hR2.mv.vrel (hR1.mv.vrel hv)
  have fin:∀m,BaseI S m B2 ι2 σ2.H (w3.putObj S.l (.loop { S.lp .ready none with state:=stOf m,pending:=m.map bT })):=λm=>by
   have m3:=hmv2.trans hR2.mv
   refine⟨m3.put hL3 (λ_ _ _ h=>by cases h) hbase.lge _,λt=>tr _ _ (hbase.susp t),λD hD=>?_,hbase.lge,by rw[hrec];exact hL3.put_same _⟩
   obtain⟨q1,q2⟩:=hb1.marks D hD
   have hne:S.l≠D:=λhe=>by
    have:=q2.here
    rw[<-he,hL1] at this
    cases this
   exact⟨q1,((q2.put_other hne).moved hR2.mv).put_other hne⟩
  have stop:∀(x:Exit) (jump:Code),bT x=jump->ks x σ2.H->∃v w',(Instr.endRound S.l (some jump)).run P w3=.ok v w'/\∃B' ι' H',(∀a y,VRel B ι H.dom a y->VRel B' ι' H'.dom a y) /\
    ((Ending.returned v=.returned (.bool true)/\kn H'/\BaseI S none B' ι' H' w')∨∃x,Ending.returned v=.returned (.bool false)/\ks x H'/\BaseI S (some x) B' ι' H' w'):=λx jump hj hk=>by
   refine⟨_,_,run_endRound (some jump) hL3.here,B2,ι2,σ2.H,tr,.inr ⟨x,rfl,hk,?_⟩⟩
   have:=fin (some x)
   simp only[stOf,Option.map_some,hj] at this
   exact this
  cases e with
  |normal=>
   refine⟨_,_,run_endRound none hL3.here,B2,ι2,σ2.H,tr,.inl ⟨rfl,hq,?_⟩⟩
   exact fin none
  |ret=>exact stop .ret .ret rfl hq
  |exit id=>exact stop (.exit id) (.exit id) rfl hq
  |goto t=>exact hq.elim
  |panic ch=>exact hq.elim
  |outgrown=>exact hq.elim
theorem Moved.put2{b:Nat}{x:Obj}(m:Moved B ι H w B' ι' H' w')(hq:Quiet b x ι H w)(hx:∀c e fr,x≠.cells c e fr)(y:Obj):Moved B ι H (w.putObj b y) B' ι' H' (w'.putObj b y):=by
 have hq':=hq.moved m
 refine⟨m.bm,λk c h=>by rw[World.putObj_size];exact m.bn k c h,m.im,m.heap.put hq' hx y,λi o h=>by rw[World.putObj_size];exact m.own i o h,λk hk hno=>?_,by rw[World.putObj_size,World.putObj_size];exact m.size,⟨m.calm.os,m.calm.tape,m.calm.output⟩⟩
 rw[World.putObj_size] at hk
 by_cases he:k=b
 ·subst he
  rw[World.putObj_heap_same (Array.getElem?_eq_some_iff.1 hq'.here).1,World.putObj_heap_same hk]
 ·rw[World.putObj_heap_other he,World.putObj_heap_other he];exact m.frame k hk hno
theorem Moved.src{w0:World}(m:Moved B ι H w B' ι' H' w')(hs:w0.heap.size=w.heap.size)(hh:∀k:Nat,w0.heap[k]?=w.heap[k]?)(hc:Calm w0 w):Moved B ι H w0 B' ι' H' w':=
 ⟨m.bm,λk c h=>by rw[hs];exact m.bn k c h,m.im,m.heap,λi o h=>by rw[hs];exact m.own i o h,λk hk hno=>by rw[hh];exact m.frame k (by omega) hno,by rw[hs];exact m.size,hc.trans m.calm⟩
theorem A8:∀(l keep:List (Nat×HCell)),(keep.map (·.1)).Nodup->(∀x∈l,x∈keep)->dP (lK keep) l
 |[],_,_,_=>trivial
 |(i,x) :: l,keep,hn,hl=>by
  refine⟨?_,A8 l keep hn λy hy=>hl y (by simp[hy])⟩
  obtain⟨d,hd⟩:=APX (hl (i,x) (by simp))
  have hm:=YD hd
  have:=(AAH (ρ:=λi=>i) (by simpa using hn) (hl (i,x) (by simp)) hm rfl).2
  simp only[lK,hd,Option.getD_some]
  exact this.symm
theorem BFD{A:Ann}{S:Susp}{n:Nat}{ps:Array Nat}{assign body:Code}{f:FuncId}(hlp:S.lp=λst pe=>{ state:=st,pending:=pe,fn:=f,tmps:=S.tmps,params:=ps,assign:=assign,body:=body,defers:=(S.lp .ready none).defers })
  (hsz:S.tmps.size=n) (hps:∀p∈ps.toList,p<n)
  (ha:∀(gs:List Nat) (c:Ctx) (Q:Exit->AState->Prop) (σ:AState),c.n=n->vc P A assign true gs Q σ->CodeE P c assign Q σ) (hb:∀(gs:List Nat) (c:Ctx) (Q:Exit->AState->Prop) (σ:AState),c.n=n->vc P A body true gs Q σ->CodeE P c body Q σ)
  (R:Round) (hround:∀a:R.C.α,BG (R.C.pre a)->(R.C.xs a).length=ps.size/\(∀t,Sy (λi=>(JS (R.C.L a) i).isSome) (S.sl1 t)=true) /\
   vc P A assign true [0] (zZ (vc P A body true [0] (λe σ'=>match e with
        | .normal=>FF (Jv ((R.C.L a).map (·.1)) [] [] ⟨[],R.C.keep a⟩ ⟨λ_=>.any,σ'.H⟩)
        |_=>False)) λ_ _=>False) ⟨putL S.sl1 ps.toList (R.C.xs a),AC (R.C.L a)⟩) :
  qU P S (λas H' kn _=>BKG R as H' kn):=by
 intro as H kn ks h B ι w vs hA hbase
 unfold BKG at h
 obtain⟨a,h⟩:=h
 split at h
 case isFalse=>exact h.elim
 rename_i hok
 simp only[Bool.and_eq_true] at hok
 obtain⟨hemb,hfr⟩:=hok
 split at h
 case h_2=>exact h.elim
 rename_i p hc
 obtain⟨hp,hkn⟩:=IG h
 obtain⟨hp1,hp2⟩:=BE hp
 have hc':FF (lL (PD noF (λi=>i) (λi=>(JS (R.C.L a) i).isSome) (R.C.xs a) as) (AGH noF (λi=>i) (λi=>(JS (R.C.L a) i).isSome) H (R.C.L a))):=by rw[hc];exact hp1
 obtain⟨h1,h2⟩:=FO hc'
 obtain⟨r1,r2,r3⟩:=hround a hp2
 have hF:D1 B B ι noF:=⟨λ_ _ h=>h,λid k m get h=>by cases h⟩
 have hdom:∀i,(JS (R.C.L a) i).isSome=true->(AC (R.C.L a)).dom i:=λi hi=>by
  unfold Heap.dom AC
  obtain⟨o,ho⟩:=Option.isSome_iff_exists.1 hi
  rw[ho];simp
 have hobj:∀i o,JS (R.C.L a) i=some o->(∃o',H i=.live o')/\ORel B ι (AC (R.C.L a)).dom (ι i).cap o (w.heap[(ι i).b]?):=λi o ho=>by
  obtain⟨o',h3,h4⟩:=ADF h2 i o (Zq ho)
  exact⟨⟨o',h3⟩,cZ (ι:=ι) (ρ:=λi=>i) hF hdom h4 (hbase.mv.heap.obj _ _ h3)⟩
 have hfresh:∀i,0<=i->i<0+16->H i=.none:=λi _ hi=>by
  simp only[Xo,List.all_eq_true,List.mem_range] at hfr
  have:=Xy (hfr i (by omega))
  simpa using this
 obtain⟨hHL,fr⟩:=BGS (ι:=ι) (λi=>i) 0 hemb H hfresh hbase.mv.heap hobj
 have hl':vs.size=ps.size:=by rw[hA.1,<-TR h1,r1]
 have hargs:∀(j:Nat) (x:AVal) (y:Value),(R.C.xs a)[j]?=some x->vs[j]?=some y->VRel B ι (AC (R.C.L a)).dom x y:=λj x y hx hy=>by
  obtain⟨x',hx',hs⟩:=XV h1 hx
  exact Te (ι:=ι) (ρ:=λi=>i) hF hdom _ _ _ hs (hA.2 j _ y hx' hy)
 have hparams:(S.lp .ready none).params=ps:=by rw[hlp]
 have hready:(S.lp .ready none).state=.ready:=by rw[hlp]
 have hL0:w.heap[S.l]?=some (.loop (S.lp .ready none)):=hbase.lp.here
 have hQ0:Quiet S.l (.loop (S.lp .ready none)) ι (AC (R.C.L a)) w:=⟨hL0,λi o hi=>by
  have hg:JS (R.C.L a) i=some o:=by
   unfold AC at hi
   cases hq:JS (R.C.L a) i with
   |none=>rw[hq] at hi;cases hi
   |some o'=>rw[hq] at hi;cases hi;rfl
  obtain⟨⟨o',h3⟩,_⟩:=hobj i o hg
  exact hbase.lp.sep i o' h3⟩
 refine⟨f,(ps.zip vs).foldl (λtm (p,v)=>tm.setIfInBounds p v) S.tmps,assign,body,?_,?_⟩
 ·have:=run_yield (P:=P) (args:=vs) hL0 (by rw[hparams];exact hl')
  rw[this]
  have e1:(S.lp .ready none).fn=f:=by rw[hlp]
  have e2:(S.lp .ready none).assign=assign:=by rw[hlp]
  have e3:(S.lp .ready none).body=body:=by rw[hlp]
  have e4:(S.lp .ready none).tmps=S.tmps:=by rw[hlp]
  rw[e1,e2,e3,e4,hparams]
 ·refine roundIn_of_wpIn (F:=xH none) (n:=0) trivial ?_
  have hRA:Rel ⟨B,ι,AC (R.C.L a),w,n,some S.l,false⟩ B ι ⟨putL S.sl1 ps.toList (R.C.xs a),AC (R.C.L a)⟩ { tmps:=(ps.zip vs).foldl (λtm (p,v)=>tm.setIfInBounds p v) S.tmps,defers:=[] } w:=by
   refine⟨λt=>?_,?_,⟨[],rfl,λ_=>rfl,List.nodup_nil,λD hD=>by cases hD⟩,Moved.refl hHL⟩
   ·have:=AOJ (n:=n) ps.toList (R.C.xs a) vs.toList S.sl1 S.tmps hsz hps (by simpa using r1) (by simpa using hl') (λt=>VRel.keep (p:=λi=>(JS (R.C.L a) i).isSome) (λi hi=>⟨hdom i hi,rfl⟩) _ _ (r2 t) (hbase.susp t)) (λj x y hx hy=>hargs j x y hx (by simpa using hy)) t
    rw[<-Array.foldl_toList,Array.toList_zip]
    exact this
   ·rw[<-Array.foldl_toList];exact (Yj _ _).trans hsz
  refine wpIn_mono (ha _ ⟨B,ι,AC (R.C.L a),w,n,some S.l,false⟩ _ _ rfl r3 B ι _ w hRA) λe a1 w1 hq=>?_
  obtain⟨B1,ι1,σ1,hq,hR1⟩:=hq
  cases e<;>try exact hq.elim
  have hQ1:=hQ0.moved hR1.mv
  have hL1:w1.heap[S.l]?=some (.loop (S.lp .ready none)):=hQ1.here
  refine⟨_,run_beginRound hL1 hready,?_⟩
  have hH2:HRel B1 ι1 σ1.H (w1.putObj S.l (.loop { S.lp .ready none with state:=.busy })):=hR1.mv.heap.put hQ1 (λ_ _ _ h=>by cases h) _
  obtain⟨Ds1,d1,d2,_⟩:=hR1.defers
  have hRB:Rel ⟨B1,ι1,σ1.H,w1.putObj S.l (.loop { S.lp .ready none with state:=.busy }),n,some S.l,false⟩ B1 ι1 σ1 a1 (w1.putObj S.l (.loop { S.lp .ready none with state:=.busy })):=
   ⟨hR1.slots,hR1.size,⟨[],by rw[d1,d2 rfl],λ_=>rfl,List.nodup_nil,λD hD=>by cases hD⟩,Moved.refl hH2⟩
  have hQ2:Quiet S.l (.loop { S.lp .ready none with state:=.busy }) ι1 σ1.H (w1.putObj S.l (.loop { S.lp .ready none with state:=.busy })):=hQ1.put_same _
  have m1:=hR1.mv.put2 hQ0 (λ_ _ _ h=>by cases h) (.loop { S.lp .ready none with state:=.busy })
  refine wpIn_mono (hb _ ⟨B1,ι1,σ1.H,_,n,some S.l,false⟩ _ _ rfl hq B1 ι1 a1 _ hRB) λe a2 w3 hq=>?_
  obtain⟨B2,ι2,σ2,hq,hR2⟩:=hq
  cases e<;>try exact hq.elim
  have hL3:=hQ2.moved hR2.mv
  have m3:=(m1.trans hR2.mv).put2 (hQ0.put_same _) (λ_ _ _ h=>by cases h) (.loop { S.lp .ready none with state:=.ready,pending:=none })
  have hlt:S.l<w.heap.size:=(Array.getElem?_eq_some_iff.1 hL0).1
  have m4:=m3.src (w0:=w) (by simp only[World.putObj_size]) λk=>by
   by_cases he:k=S.l
   ·subst he
    rw[World.putObj_heap_same (by simp only[World.putObj_size];exact hlt),hL0]
    rw[hlp]
   ·rw[World.putObj_heap_other he,World.putObj_heap_other he]
  obtain⟨B3,q1,q2,_⟩:=Moved.subF (λi hi=>by
   unfold Heap.dom AC at hi
   cases hg:JS (R.C.L a) i with
   |none=>exact absurd (by simp only[hg]) hi
   |some o=>exact List.mem_map.2 ⟨_,Zq hg,rfl⟩) hq (m4 ⟨rfl,rfl,rfl⟩)
  have hnd:nodup ((R.C.keep a).map (·.1))=true:=by
   simp only[ALS,Bool.and_eq_true] at hemb
   exact hemb.2
  obtain⟨B4,ι4,M,_⟩:=fr (.bool true) _ ⟨lK (R.C.keep a),A8 _ _ (XJ hnd) (λ_ h=>h),B3,_,q1,.d (.v _)⟩
  refine⟨_,_,run_endRound none hL3.here,B4,ι4,_,λb y hv=>M.vrel hv,.inl ⟨rfl,hkn,?_⟩⟩
  exact hbase.moved M
theorem Moved.extra(h:HRel B ι H w)(o:Obj):Moved B ι H w B ι H (w.alloc o):=
 ⟨λ_ _ h=>h,λ_ _ h=>.inl h,λ_ h=>⟨h,rfl⟩,⟨λi x hi=>by rw[YH (Mz h hi)];exact h.obj i x hi,h.inj,h.sep,λb c hb=>by
  obtain⟨e,fr,hq⟩:=h.imm b c hb
  exact⟨e,fr,by rw[YH (Array.getElem?_eq_some_iff.1 hq).1];exact hq⟩⟩,λi o h=>.inl ⟨i,o,h,rfl⟩,λb hb _=>YH hb,by simp,⟨rfl,rfl,rfl⟩⟩
def ACN(P:Program)(A:Ann):Prop:=∀gs g x,A.iterAt gs g=some x->GOk P x.ann.Γ/\BCY P g/\P.funcs[g]?=some x.fn/\x.fn.body=some x.code
theorem BYF{A:Ann}(hΓ:GOk P A.Γ)(hI:ACN P A)(hm:P.follows .mixedOrders=true):∀(code:Code) (b:Bool) (gs:List Nat) (Q:Exit->AState->Prop) (σ:AState) (c:Ctx),c.n=A.n->(b=false->c.rd=none/\c.mks=true/\∀i,c.H0.dom i->i∈A.E)->vc P A code b gs Q σ->CodeE P c code Q σ:=by
 intro code
 induction code with
 |skip=>intro b gs Q σ c _ _ h;exact .skip h
 |label l=>intro b gs Q σ c _ _ h;exact .label h
 |exit id=>intro b gs Q σ c _ _ h;exact .exit h
 |ret=>intro b gs Q σ c _ _ h;exact .ret h
 |seq x y ihx ihy=>
  intro b gs Q σ c hn hc h
  simp only[vc] at h
  split at h
  ·rename_i L hL
   have hE:=(hc rfl).2.2
   obtain⟨h0,h3⟩:=h
   refine .seq (CodeE.mono (ihx false gs _ σ c hn hc h0) λe σ' hq=>?_)
   cases e with
   |normal=>
    obtain⟨s,hs,a,h1,h2⟩:=Jd hq
    exact CodeE.subF hE h1 (ihy false _ Q _ c hn hc (R2 h3 s hs a h2))
   |_=>exact hq
  ·refine .seq (CodeE.mono (ihx _ gs _ σ c hn hc h) λe σ' hq=>?_)
   cases e with
   |normal=>exact ihy _ gs Q σ' c hn hc hq
   |_=>exact hq
 |cond x t e iht ihe=>
  intro b gs Q σ c hn hc h
  simp only[vc] at h
  split at h
  ·rename_i v hb
   rw[BIH] at h;exact .cond hb (λhb=>iht b gs Q σ c hn hc (h.1 hb)) λhb=>ihe b gs Q σ c hn hc (h.2 hb)
  ·rename_i hb;exact .condAny hb (iht b gs Q σ c hn hc h.1) (ihe b gs Q σ c hn hc h.2)
  ·exact h.elim
 |block id x ih=>intro b gs Q σ c hn hc h;exact .block (ih b gs _ σ c hn hc h)
 |scope x ih=>intro b gs Q σ c hn hc h;exact .noGoto (ih b gs _ σ c hn hc h)
 |loop x ih=>
  intro b gs Q σ c hn hc h
  simp only[vc] at h
  split at h
  ·rename_i k hk
   refine .loop (λk σ=>unrE (λt K σ'=>vc P A x b (t :: gs) (zZ K Q) σ') k σ) (k+1) h ?_
   intro k σ' h'
   cases k with
   |zero=>exact h'.elim
   |succ k=>
    refine CodeE.mono (ih b _ _ _ c hn hc h') λe σ'' hq=>?_
    cases e with
    |normal=>exact⟨k,Nat.lt_succ_self k,hq⟩
    |_=>exact hq
  split at h
  ·rename_i L hL
   have hE:=(hc rfl).2.2
   obtain⟨h0,h3⟩:=h
   obtain⟨s,hs,a,h1,h2⟩:=Jd h0
   refine .loop (λk σ=>∃l fz s a,s∈L/\FF (Jv A.E fz l (s.T a) σ)/\s.inv a/\s.meas a=k) (s.meas a) ⟨_,_,s,a,hs,h1,h2,rfl⟩ ?_
   rintro k σ' ⟨l,fz,s,a,hs,h4,h5,rfl⟩
   refine CodeE.subF hE h4 (CodeE.mono (ih false _ _ _ c hn hc (R2 h3 s hs a h5)) λe σ'' hq=>?_)
   cases e with
   |normal=>obtain⟨s',q0,a',q1,q2,q3⟩:=Jd hq;exact⟨s'.meas a',q3,_,_,s',a',q0,q1,q2,rfl⟩
   |_=>exact hq
  ·exact h.elim
 |region id ops draw=>
  intro b gs Q σ c hn hc h
  simp only[vc] at h
  rw[<-hn] at h
  split at h
  case h_2=>
   split at h
   ·rename_i hdb
    simp only[Bool.and_eq_true,Bool.not_eq_true'] at hdb
    obtain⟨rfl,rfl⟩:=hdb
    exact AUD hΓ h
   ·split at h
    ·rename_i hdb
     simp only[Bool.and_eq_true,Bool.not_eq_true'] at hdb
     obtain⟨rfl,rfl⟩:=hdb
     exact AUK hΓ hm h
    ·exact h.elim
  have:=U3 (Q:=λe σ'=>e=.normal/\vN (if b then none else A.pack id) A.E σ' (Q .normal)) (id:=id) hΓ hm (AES (λσ' hk=>⟨rfl,hk⟩) h)
  intro B ι a w hR
  refine Code.wpIn_mono (λe a' w' hq=>?_) (this B ι a w hR)
  obtain⟨B',ι',σ',⟨rfl,hp⟩,hR'⟩:=hq
  unfold vN at hp
  split at hp
  ·exact⟨B',ι',σ',hp,hR'⟩
  ·rename_i p hpk
   split at hp
   ·rename_i hok
    obtain⟨h1,h2⟩:=IG hp
    cases b with
    |true=>simp at hpk
    |false=>
     obtain⟨B2,hR2⟩:=hR'.pack (hc rfl).2.2 hok h1
     exact⟨B2,ι',_,h2,hR2⟩
   ·exact hp.elim
 |rangeFunc f ps assign body iha ihb=>
  intro b gs Q σ c hn hc h
  simp only[vc] at h
  split at h
  case h_2=>exact h.elim
  rename_i g caps hf
  obtain⟨hrd,hmks,hE⟩:=hc rfl
  split at h
  case h_2=>exact h.elim
  rename_i x hx
  split at h
  case isFalse=>exact h.elim
  rename_i hk
  simp only[Bool.and_eq_true,List.all_eq_true,LC,Nat.blt_eq] at hk
  obtain⟨⟨⟨⟨⟨k1,k2⟩,k3⟩,k4⟩,k5⟩,k6⟩:=hk
  obtain⟨hΓ2,hent,hfn,hbody⟩:=hI gs g x hx
  intro B ι a w hR
  rw[hrd]
  refine wpIn_rangeFunc (F:=xH none) (n:=0) λfn _=>?_
  have hfv:=HS hR.slots f
  rw[hf] at hfv
  obtain⟨lb,hlb,hcaps⟩:∃lb:Array Value,a.eval f=.func (.func g) #[] lb/\Sv B ι σ.H.dom caps lb:=by
   generalize a.eval f=v at hfv
   cases hfv with
   |fn h1 h2 h3 h4=>
    rename_i xs ys
    have e1:xs=#[]:=by simpa using h1
    subst e1
    exact⟨ys,rfl,h2,h4⟩
  obtain⟨lp,hlp⟩:∃lp:LoopState->Option Code->Loop,lp=λst pe=>{ state:=st,pending:=pe,fn,tmps:=a.tmps,params:=ps,assign,body,defers:=w.heap.size }:=⟨_,rfl⟩
  obtain⟨W1,hW1⟩:∃W1,(w.alloc (.deferred (some []))).alloc (.loop (lp .ready none))=W1:=⟨_,rfl⟩
  have m1:=Moved.extra hR.mv.heap (.deferred (some []))
  have m2:=Moved.extra m1.heap (.loop (lp .ready none))
  rw[hW1] at m2
  have m12:=m1.trans m2
  obtain⟨Ds,d1,_,d2,d3⟩:=hR.defers
  have hL1:W1.heap[w.heap.size+1]?=some (.loop (lp .ready none)):=by
   rw[<-hW1];have:=So (w:=w.alloc (.deferred (some []))) (.loop (lp .ready none));rwa [World.size_alloc] at this
  have hD1:W1.heap[w.heap.size]?=some (.deferred (some [])):=by
   rw[<-hW1];exact (YH (by simp)).trans (So _)
  have hlt:∀i o,σ.H i=.live o->(ι i).b<w.heap.size:=λi o hi=>Mz hR.mv.heap hi
  have hDlt:∀D∈Ds,D<w.heap.size:=λD hD=>(Array.getElem?_eq_some_iff.1 (d3 D hD).2.here).1
  let S:Susp:={ c:=c,sl1:=LF (x.live.map λt=>(t,σ.sl t)),tmps:=a.tmps,Ds:=w.heap.size :: Ds,l:=w.heap.size+1,lp:=lp }
  have hbase:BaseI S none B ι σ.H W1:=by
   refine⟨hR.mv.trans m12,λt=>?_,λD hD=>?_,Nat.le_trans hR.mv.size (Nat.le_succ _),hL1,λi o hi=>?_⟩
   ·rcases G8 (λt=>σ.sl t) x.live t with h1 | ⟨_,h1⟩
    ·show VRel _ _ _ (LF _ t) _;rw[h1];exact .any
    ·show VRel _ _ _ (LF _ t) _;rw[h1];exact hR.slots t
   ·rcases List.mem_cons.1 hD with rfl | hD
    ·exact⟨hR.mv.size,hD1,λi o hi=>by have:=hlt i o hi;omega⟩
    ·exact⟨(d3 D hD).1,(d3 D hD).2.moved m12⟩
   ·have:=hlt i o hi
    show (ι i).b≠w.heap.size+1
    omega
  have hS:∀t,Sy (λi=>x.ann.E.contains i) (S.sl1 t)=true:=λt=>by
   rcases G8 (λt=>σ.sl t) x.live t with h1 | ⟨h0,h1⟩
   ·show Sy _ (LF _ t)=true;rw[h1];rfl
   ·show Sy _ (LF _ t)=true;rw[h1];exact k1 t h0
  obtain⟨yk,hyield,h⟩:∃yk:YK,qU P S yk/\vcI P x.ann (w.heap.size+1) yk x.code ((w.heap.size+1) :: gs) (λe m σ'=>match e with
       | .normal | .ret=>BRY Q ⟨LF (x.live.map λt=>(t,σ.sl t)),σ'.H⟩ m
       |_=>False) none ⟨ACC (.fn (.yield (w.heap.size+1)) [] [] :: caps),σ.H⟩:=by
   have hd:S.lp=λst pe=>{ state:=st,pending:=pe,fn:=fn,tmps:=S.tmps,params:=ps,assign:=assign,body:=body,defers:=(S.lp .ready none).defers }:=by
    have hd:(S.lp .ready none).defers=w.heap.size:=by show (lp .ready none).defers=_;rw[hlp]
    rw[hd];exact hlp
   have hz:S.tmps.size=A.n:=by show a.tmps.size=_;rw[hR.size,hn]
   cases hround:x.round with
   |none=>
    simp only[hround] at h
    exact⟨_,CHE hd hz (λp hp=>k5 p hp) (λgs c' Q' σ' h1 h2=>iha true gs Q' σ' c' h1 (λh=>by cases h) h2) (λgs c' Q' σ' h1 h2=>ihb true gs Q' σ' c' h1 (λh=>by cases h) h2),h _⟩
   |some R=>
    simp only[hround] at h
    obtain⟨h0,h⟩:=h
    refine⟨_,BFD hd hz (λp hp=>k5 p hp) (λgs c' Q' σ' h1 h2=>iha true gs Q' σ' c' h1 (λh=>by cases h) h2) (λgs c' Q' σ' h1 h2=>ihb true gs Q' σ' c' h1 (λh=>by cases h) h2) R (λa' ha'=>?_),h _⟩
    obtain⟨q1,q2⟩:=h0 a' ha'
    simp only[Bool.and_eq_true,LC,List.all_eq_true] at q1
    refine⟨q1.1,λt=>?_,q2⟩
    rcases G8 (λt=>σ.sl t) x.live t with h1 | ⟨h0,h1⟩
    ·show Sy _ (LF _ t)=true;rw[h1];rfl
    ·show Sy _ (LF _ t)=true;rw[h1];exact q1.2 t h0
  have hargs:Sv B ι σ.H.dom (.fn (.yield (w.heap.size+1)) [] [] :: caps) (#[.func (.yield (w.heap.size+1)) #[] #[]] ++ lb):=by
   refine⟨by simp[hcaps.1];omega,λj y v hy hv=>?_⟩
   cases j with
   |zero=>
    rw[Array.getElem?_append_left (by simp)] at hv
    simp at hy hv
    subst hy;subst hv
    exact .fn rfl rfl (λj x y hx _=>by simp at hx) (λj x y hx _=>by simp at hx)
   |succ j=>
    rw[Array.getElem?_append_right (by simp)] at hv
    exact hcaps.2 j y v (by simpa using hy) (by simpa using hv)
  have hst:=AWB (mk:=false) (n:=x.fn.ntmps) hargs (by simp only[List.length_cons];exact k4) m12.heap
  have hRI:RelI S x.fn.ntmps none B ι ⟨ACC (.fn (.yield (w.heap.size+1)) [] [] :: caps),σ.H⟩ { tmps:=(#[.func (.yield (w.heap.size+1)) #[] #[]] ++ lb) ++ Array.replicate (x.fn.ntmps-(#[Value.func (.yield (w.heap.size+1)) #[] #[]] ++ lb).size) undef,defers:=[] } W1:=
   ⟨hst.slots,hst.size,rfl,hbase⟩
  refine⟨w.heap.size+1,[{ target:=.collected w.heap.size,args:=#[] }],W1,{ target:=.fn (.func g) lb,args:=#[.func (.yield (w.heap.size+1)) #[] #[]] },W1,g,
   #[.func (.yield (w.heap.size+1)) #[] #[]] ++ lb,W1,?_,?_,λ_ _=>trivial,?_,(λh=>by cases h),?_⟩
  ·rw[<-hW1,hlp];exact run_enterLoop_outer _ _ _ _ _
  ·simp only[resolve,hlb]
   simp[go_sem]
  ·simp[invoke,go_sem,hent _ _]
  ·refine callsIn_of_wp_marks (F:=xH none) hfn hbody trivial ?_
   have hcode:=BWC (S:=S) (n:=x.fn.ntmps) hΓ2 hm hyield k3 (λi hi=>by simpa using k2 i (hE i hi)) hS x.code ((w.heap.size+1) :: gs) _ none _ h
   refine wpIn_mono (hcode B ι _ W1 hRI) λe a' w' hq=>?_
   obtain⟨B',ι',m',σ',hq,hR'⟩:=hq
   have fin:BRY Q ⟨S.sl1,σ'.H⟩ m'->LeavesInM (xH none) 0 P x.fn a'.tmps (rangePost (xH none) 0 P (w.heap.size+1) (λe a' w'=>∃B' ι' σ',Q e σ'/\Rel c B' ι' σ' a' w') { a with defers:=[{ target:=.collected w.heap.size,args:=#[] }] ++ a.defers }) a'.defers .returning w':=λhq=>by
    rw[hR'.nodef]
    have hres:x.fn.results=#[]:=by simpa using k6
    refine⟨.tuple #[],by rw[ASB,hres];simp,?_⟩
    have hL:=hR'.base.lp
    have hpend:(S.lp (stOf m') (m'.map bT)).pending=m'.map bT:=by show (lp (stOf m') (m'.map bT)).pending=_;rw[hlp]
    obtain⟨W4,hend,o4,hW4⟩:∃W4,(Instr.endLoop (w.heap.size+1)).run P w'=.ok (m'.map bT) W4/\∃o,W4=w'.putObj (w.heap.size+1) (.loop o):=by
     have h5:=run_endLoop (P:=P) hL.here (by show (lp (stOf m') (m'.map bT)).state≠_;rw[hlp];cases m'<;>simp[stOf])
     rw[hpend] at h5
     exact⟨_,h5,_,rfl⟩
    refine⟨_,_,hend,?_⟩
    have hRel:Rel c B' ι' ⟨S.sl1,σ'.H⟩ { a with defers:=[{ target:=.collected w.heap.size,args:=#[] }] ++ a.defers } W4:=by
     subst hW4
     refine⟨hR'.base.susp,hR.size,⟨w.heap.size :: Ds,by simp[BAV,d1],(λh=>by rw[hmks] at h;cases h),List.nodup_cons.2 ⟨λhm=>by have:=hDlt _ hm;omega,d2⟩,λD hD=>?_⟩,hR'.base.mv.put hL (λ_ _ _ h=>by cases h) hR'.base.lge _⟩
     obtain⟨q1,q2⟩:=hR'.base.marks D hD
     refine⟨q1,q2.put_other λhe=>?_⟩
     have h1:=q2.here
     rw[<-he] at h1
     have h2:=hL.here
     rw[show S.l=w.heap.size+1 from rfl,h1] at h2
     cases h2
    cases m' with
    |none=>exact⟨B',ι',_,hq,hRel⟩
    |some y=>
     cases y with
     |ret=>exact wpIn_ret ⟨B',ι',_,hq,hRel⟩
     |exit id=>exact wpIn_exit ⟨B',ι',_,hq,hRel⟩
     |normal=>exact hq.elim
     |goto l=>exact hq.elim
     |panic ch=>exact hq.elim
     |outgrown=>exact hq.elim
   cases e with
   |normal=>exact fin hq
   |ret=>exact fin hq
   |exit id=>exact hq.elim
   |goto l=>exact hq.elim
   |panic ch=>exact hq.elim
   |outgrown=>exact hq.elim
 |goto=>intro b gs Q σ c _ _ h;exact h.elim
 |refuse=>intro b gs Q σ c _ _ h;exact h.elim
def resC(P:Program)(fn:Func)(σ:AState)(K:AVal->Option (List Prop)):Prop:=match AHQ P σ fn.results.toList with
 |some ([a],p)=>BSY (some p) (FF (K a))
 |some (as,p)=>BSY (some p) (FF (K (AVB as)))
 |none=>False
theorem BXO{fn:Func}{K:AVal->Option (List Prop)}(h:resC P fn σ K):resP P fn σ λv=>FF (K v):=by
 unfold resC at h
 unfold resP
 split at h
 ·rename_i a p hr;rw[hr];exact ABK h
 ·rename_i as p hne hr
  have:=ABK h
  split
  ·rename_i hr';rw[hr] at hr';cases hr';exact (hne _ rfl).elim
  ·rename_i hr';rw[hr] at hr';cases hr';exact this
  ·rename_i hr';rw[hr] at hr';cases hr'
 ·exact h.elim
def AS(P:Program)(A:Ann)(fn:Func)(code:Code)(as:List AVal)(H:Heap)(val:AVal)(keep:List (Nat×HCell))(ren:List (Nat×Nat))(fz:List Nat):Prop:=
 vc P A code false [] (λe σ'=>match e with
  | .normal | .ret=>resC P fn σ' λv=>Jv A.E fz ren ⟨[(0,val)],keep⟩ ⟨λ_=>v,σ'.H⟩
  |_=>False) ⟨ACC as,H⟩
theorem V1:∀(l keep:List (Nat×HCell)),(keep.map (·.1)).Nodup->(∀x∈l,x∈keep)->dP (lK keep) l
 |[],_,_,_=>trivial
 |(i,x) :: l,keep,hn,hl=>by
  refine⟨?_,V1 l keep hn λy hy=>hl y (by simp[hy])⟩
  obtain⟨d,hd⟩:=APX (hl (i,x) (by simp))
  have hm:=YD hd
  have:=(AAH (ρ:=λi=>i) (by simpa using hn) (hl (i,x) (by simp)) hm rfl).2
  simp only[lK,hd,Option.getD_some]
  exact this.symm
theorem FnT.of_vc{A:Ann}(hΓ:GOk P A.Γ)(hI:ACN P A)(hm:P.follows .mixedOrders=true){g:FuncId}{as:List AVal}{L:List (Nat×AObj)}{val:AVal}{keep:List (Nat×HCell)}{ren:List (Nat×Nat)}{fz:List Nat}{fn:Func}{code:Code}
  (hf : P.funcs[g]? = some fn) (hname : (fn.name == "runtime.NumGoroutine") = false) (hb : fn.body = some code) (hn : A.n = fn.ntmps /\ as.length <= fn.ntmps) (hE : A.E = L.map (·.1)) (hk : nodup (keep.map (·.1)) = true)
  (h:AS P A fn code as (AC L) val keep ren fz):FnT P g as (AC L) val keep:=by
 refine⟨AIP hf hname hb,λB ι w vs ha hH=>?_⟩
 refine AXR hf hb ?_
 have hE':∀i,(AC L).dom i->i∈A.E:=λi hi=>by
  rw[hE]
  unfold Heap.dom AC at hi
  cases hg:JS L i with
  |none=>exact absurd (by simp only[hg]) hi
  |some o=>exact List.mem_map.2 ⟨_,Zq hg,rfl⟩
 have hc:=BYF hΓ hI hm code false [] _ _ ⟨B,ι,AC L,w,fn.ntmps,none,true⟩ hn.1.symm (λ_=>⟨rfl,rfl,hE'⟩) h B ι _ w (AWB ha hn.2 hH)
 refine Code.wpIn_mono (λe a w' hq=>?_) hc
 obtain⟨B',ι',σ',hr,hR⟩:=hq
 have fin:(resC P fn σ' λv=>Jv A.E fz ren ⟨[(0,val)],keep⟩ ⟨λ_=>v,σ'.H⟩)->LeavesInM Fence.wide 0 P fn a.tmps (λe w'=>∃v H',e=.returned v/\dP H' keep/\OZ B ι (AC L) w H' val v w') a.defers .returning w':=λhr=>by
  refine BFT hR (BXO hr) λw2 v val' m2 h2 h3=>?_
  obtain⟨B2,q1,q2,_⟩:=Moved.subF hE' h2 m2
  refine⟨v,lK keep,rfl,V1 _ _ (XJ hk) (λ_ h=>h),B2,_,q1,?_⟩
  have:=q2 0 v h3
  simpa[LF] using this
 cases e with
 |normal=>exact fin hr
 |ret=>exact fin hr
 |_=>exact hr.elim
attribute [irreducible] AS
end Go.Sym
namespace Go.Sym
variable {P : Program} {B B' : Ft} {ι ι' : Nat -> Pl} {H H' : Heap} {D : Nat -> Prop} {w w' : World}
theorem FnT.weak{g:FuncId}{as xs:List AVal}{L:List (Nat×AObj)}{val:AVal}{keep:List (Nat×HCell)}(h:FnT P g as (AC L) val keep)(hs:Sz (λi=>i) (λi=>(JS L i).isSome) as xs):FnT P g xs (AC L) val keep:=by
 refine⟨h.1,λB ι w vs ha hH=>h.2 B ι w vs ⟨by rw[ha.1,Cv hs],λj x y hx hy=>?_⟩ hH⟩
 obtain⟨x',hx',hs'⟩:=Jk hs hx
 exact rZ (ι:=ι) (ρ:=λi=>i) (D':=(AC L).dom) (λi hi=>by
  unfold Heap.dom AC
  obtain⟨o,ho⟩:=Option.isSome_iff_exists.1 hi
  rw[ho];simp) _ _ _ hs' (ha.2 j _ y hx' hy)
mutual
def CXP(H:Heap):AVal->List Nat
 | .own id _ _ _=>bif AQZ (H id) then [id] else []
 | .agg cs=>Ki H cs
 | .tup cs=>Ki H cs
 |_=>[]
def Ki(H:Heap):List AVal->List Nat
 |[]=>[]
 |a :: r=>CXP H a ++ Ki H r
end
def U6:List Nat->List Nat
 |[]=>[]
 |a :: r=>bif r.contains a then U6 r else a :: U6 r
def K2(f:List AVal->Option (AVal×List Prop)):Spec:=λxs H _=>
 if nodup (U6 (Ki H xs))&&(U6 (Ki H xs)).all (λi=>AQZ (H i))&&MM (λ_=>false) (frL (PW H (U6 (Ki H xs))) xs) then
  match f (frL (PW H (U6 (Ki H xs))) xs) with
  |some (v,p)=>if Sy (λ_=>false) v then some ⟨U6 (Ki H xs),v,(U6 (Ki H xs)).map λi=>(i,.dead),frCL (PW H (U6 (Ki H xs))) xs ++ p⟩ else none
  |none=>none
 else none
mutual
theorem AJH(ρ:Nat->Nat):∀a:AVal,Sy (λ_=>false) a=true->bQ ρ a=a
 | .d _,_=>rfl
 | .agg cs,h=>by simp only[bQ];rw[lO ρ cs (by simpa only[Sy] using h)]
 | .tup cs,h=>by simp only[bQ];rw[lO ρ cs (by simpa only[Sy] using h)]
 | .bptr _ _,h=>by simp[Sy] at h
 | .rptr _ _ _ _,h=>by simp[Sy] at h
 | .own _ _ _ _,h=>by simp[Sy] at h
 | .fn f x y,h=>by
  simp only[Sy,Bool.and_eq_true] at h
  simp only[bQ];rw[lO ρ x h.1,lO ρ y h.2]
 | .mref _,h=>by simp[Sy] at h
 | .any,_=>rfl
 | .opt g a,h=>by simp only[bQ];rw[AJH ρ a (by simpa only[Sy] using h)]
theorem lO(ρ:Nat->Nat):∀l:List AVal,MM (λ_=>false) l=true->renL ρ l=l
 |[],_=>rfl
 |a :: l,h=>by
  simp only[MM,Bool.and_eq_true] at h
  simp only[renL];rw[AJH ρ a h.1,lO ρ l h.2]
end
theorem L6{g:FuncId}{f:List AVal->Option (AVal×List Prop)}(h:∀xs v p,f xs=some (v,p)->BG p->FnT P g xs (AC []) v []):AH P g (K2 f):=by
 intro xs H r x hx hp
 unfold K2 at hx
 generalize hfz:U6 (Ki H xs)=fz at hx
 split at hx
 case isFalse=>cases hx
 rename_i hok
 simp only[Bool.and_eq_true,List.all_eq_true] at hok
 obtain⟨⟨ok1,ok2⟩,ok3⟩:=hok
 have hnd:=XJ ok1
 split at hx
 case h_2=>cases hx
 rename_i v p hf
 split at hx
 case isFalse=>cases hx
 rename_i hv
 cases hx
 obtain⟨hp1,hp2⟩:=BE hp
 have hfn:=h _ _ _ hf hp2
 intro H' hcells hfresh
 have hfz:∀i∈fz,H' i=H i:=λi hi=>hcells (i,H i) (List.mem_map.2 ⟨i,hi,rfl⟩)
 refine⟨hfn.1,λB ι w vs ha hH=>?_⟩
 obtain⟨B',hk,hF⟩:=WC fz hH
 rw[AKU hfz] at hF
 have hargs:=Ct hF xs vs hp1 ha.2
 have hcall:=FnT.at hfn (λi=>i) r (by simp only[ALS,Bool.and_eq_true];exact⟨⟨⟨⟨⟨by simpa[JS] using ok3,rfl⟩,rfl⟩,rfl⟩,by simpa[Cu] using hv⟩,rfl⟩) (EW H' fz) (λi h3 h4=>Tp fz (hfresh i h3 h4)) hk.heap (vs:=vs)
  ⟨by rw[ha.1,Sp],λj x y hx hy=>VRel.keep (p:=λ_=>false) (λi hi=>by cases hi) _ _ (BBQ ok3 hx) (hargs j x y hx hy)⟩
  (λi o ho=>by simp[JS] at ho)
 refine Calls.mono hcall λe w' hh=>?_
 obtain⟨y,rfl,B2,ι2,h3,h4⟩:=hh
 rw[ADI fz H' hnd λi hi=>by rw[hfz i hi];exact ok2 i hi]
 rw[AJH _ _ hv] at h4
 exact⟨y,rfl,B2,ι2,hk.trans h3,h4⟩
end Go.Sym
namespace Go.Sym
variable {P : Program} {B B' : Ft} {ι ι' : Nat -> Pl} {H H' : Heap} {D : Nat -> Prop} {w w' : World}
def BVO:DVal->Bool
 | .v _=>true
 | .agg ds=>ds.all λd=>match d with
  | .v _=>true
  |_=>false
 |_=>false
def BZZ:AVal->Bool
 | .d x=>BVO x
 | .tup cs=>cs.all λc=>match c with
  | .d x=>BVO x
  |_=>false
 |_=>false
theorem BZG{D':Nat->Prop}{x:DVal}{y:Value}(hf:BVO x=true)(h:VRel B ι D (.d x) y):VRel B' ι' D' (.d x) y:=by
 have h:=h.d_inv
 refine .d ?_
 unfold BVO at hf
 split at hf
 ·cases h;exact .v _
 ·rename_i ds
  cases h with
  |agg hl hr=>
   refine .agg hl λj a z ha hz=>?_
   have h1:=hr j a z ha hz
   have h2:=List.all_eq_true.1 hf a (List.mem_of_getElem? ha)
   split at h2
   ·cases h1;exact .v _
   ·cases h2
 ·cases hf
theorem CIR{D':Nat->Prop}{a:AVal}{y:Value}(hf:BZZ a=true)(h:VRel B ι D a y):VRel B' ι' D' a y:=by
 unfold BZZ at hf
 split at hf
 ·exact BZG hf h
 ·rename_i cs
  cases h with
  |tup hl hr=>
   refine .tup hl λj x z hx hz=>?_
   have h1:=hr j x z hx hz
   have h2:=List.all_eq_true.1 hf x (List.mem_of_getElem? hx)
   split at h2
   ·exact BZG h2 h1
   ·cases h2
 ·cases hf
theorem FnT.lend{g:FuncId}{as xs:List AVal}{L:List (Nat×AObj)}{val:AVal}{fz:List Nat}(h:FnT P g as (AC []) val [])(hv:BZZ val=true)
  (ha:frL (PW (AC L) fz) xs=as) (hok:MM (λ_=>false) as=true) (hc:BG (frCL (PW (AC L) fz) xs)) (keep:List (Nat×HCell)) (hk:dP (AC L) keep):FnT P g xs (AC L) val keep:=by
 refine⟨h.1,λB ι w vs hvs hH=>?_⟩
 obtain⟨B',hm,hF⟩:=WC fz hH
 have hargs:=Ct hF xs vs hc hvs.2
 have hH0:HRel B' ι (AC []) w:=⟨λi o ho=>by simp[AC,JS] at ho,λi j o o' ho=>by simp[AC,JS] at ho,λi o ho=>by simp[AC,JS] at ho,hm.heap.imm⟩
 refine Calls.mono (h.2 B' ι w vs ⟨by rw[hvs.1,<-ha,Sp],λj x y hx hy=>?_⟩ hH0) λe w' hh=>?_
 ·rw[<-ha] at hx hok
  exact VRel.keep (p:=λ_=>false) (λi hi=>by cases hi) _ _ (BBQ hok hx) (hargs j x y hx hy)
 ·obtain⟨v,H',rfl,_,B2,ι2,m,hr⟩:=hh
  have fr:∀b,b<w.heap.size->w'.heap[b]?=w.heap[b]?:=λb hb=>m.frame b hb λi o ho=>by simp[AC,JS] at ho
  have lt:∀{b:Nat} {x},w.heap[b]?=some x->b<w.heap.size:=λ{b x} hx=>by
   obtain⟨h1,_⟩:=Array.getElem?_eq_some_iff.1 hx;exact h1
  refine⟨v,AC L,rfl,hk,B,ι,⟨λ_ _ h=>h,λ_ _ h=>.inl h,λ_ h=>⟨h,rfl⟩,⟨λi o ho=>?_,hH.inj,hH.sep,λb c hb=>?_⟩,λi o ho=>.inl ⟨i,o,ho,rfl⟩,λb hb _=>fr b hb,m.size,m.calm⟩,CIR hv hr⟩
  ·have ho':=hH.obj i o ho
   have:(ι i).b<w.heap.size:=by
    cases hq:w.heap[(ι i).b]? with
    |none=>rw[hq] at ho';cases ho'
    |some x=>exact lt hq
   rw[fr _ this];exact ho'
  ·obtain⟨e,r,hq⟩:=hH.imm b c hb
   exact⟨e,r,by rw[fr _ (lt hq)];exact hq⟩
end Go.Sym
namespace Go.Sym
variable {P : Program}
end Go.Sym
namespace Go.Sym
variable {P : Program} {B B' : Ft} {ι ι' : Nat -> Pl} {H H' : Heap} {w w' : World} {c : Ctx} {σ : AState} {Q : Exit -> AState -> Prop}
end Go.Sym
