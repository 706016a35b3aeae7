/- Rules of code. -/
import Derived.Test.YtpidmmilfdcepaaGreatSym6
import Derived.Sort.LoopGhostIn
import Derived.Scope
set_option linter.unusedVariables false
set_option linter.unusedSimpArgs false
namespace Go.Sym
variable {P : Program} {B B' : Fi} {ι ι' : Nat -> Pl} {H H' : Heap} {D : Nat -> Prop} {w w' : World} {c : Ctx} {σ : AState} {Q : Exit -> AState -> Prop}
def Li(K:AState->Prop)(Q:Exit->AState->Prop):Exit->AState->Prop
 | .normal,σ=>K σ
 |e,σ=>Q e σ
def AQF(id:Nat)(Q:Exit->AState->Prop):Exit->AState->Prop
 | .exit id',σ=>if id'=id then Q .normal σ else Q (.exit id') σ
 |e,σ=>Q e σ
theorem CodeE.seq{x y:Code}(h:CodeE P c x (Li (CodeE P c y Q) Q) σ):CodeE P c (.seq x y) Q σ:=by
 intro B ι a w hR
 refine wpIn_seq (Code.wpIn_mono (λe a w hq=>?_) (h B ι a w hR))
 obtain⟨B',ι',σ',hq,hR'⟩:=hq
 cases e with
 |normal=>exact hq B' ι' a w hR'
 |_=>exact⟨B',ι',σ',hq,hR'⟩
theorem CodeE.skip(h:Q .normal σ):CodeE P c .skip Q σ:=λB ι _ _ hR=>wpIn_skip ⟨B,ι,σ,h,hR⟩
theorem CodeE.label{l:Nat}(h:Q .normal σ):CodeE P c (.label l) Q σ:=λB ι _ _ hR=>wpIn_label ⟨B,ι,σ,h,hR⟩
theorem CodeE.exit{id:Nat}(h:Q (.exit id) σ):CodeE P c (.exit id) Q σ:=λB ι _ _ hR=>wpIn_exit ⟨B,ι,σ,h,hR⟩
theorem CodeE.ret(h:Q .ret σ):CodeE P c .ret Q σ:=λB ι _ _ hR=>wpIn_ret ⟨B,ι,σ,h,hR⟩
theorem CodeE.cond{x:Operand}{t e:Code}{b:Bool}(hx:BH σ.sl x=.bool b)(ht:b=true->CodeE P c t Q σ)(he:b=false->CodeE P c e Q σ):CodeE P c (.cond x t e) Q σ:=by
 intro B ι a w hR
 have hv:=IC hR.slots x
 rw[hx] at hv
 exact wpIn_cond_split hv.d_inv.v_inv (λh=>ht h B ι a w hR) (λh=>he h B ι a w hR)
theorem CodeE.condAny{x:Operand}{t e:Code}(hx:BH σ.sl x=.d .anyB)(ht:CodeE P c t Q σ)(he:CodeE P c e Q σ):CodeE P c (.cond x t e) Q σ:=by
 intro B ι a w hR
 have hv:=IC hR.slots x
 rw[hx] at hv
 obtain⟨b,hb⟩:∃b,a.eval x=.bool b:=by
  generalize a.eval x=y at hv
  cases hv.d_inv;exact⟨_,rfl⟩
 exact wpIn_cond_split hb (λ_=>ht B ι a w hR) (λ_=>he B ι a w hR)
theorem CodeE.block{id:Nat}{x:Code}(h:CodeE P c x (AQF id Q) σ):CodeE P c (.block id x) Q σ:=by
 intro B ι a w hR
 refine wpIn_block (Code.wpIn_mono (λe a w hq=>?_) (h B ι a w hR))
 obtain⟨B',ι',σ',hq,hR'⟩:=hq
 cases e with
 |exit id'=>
  simp only[AQF] at hq
  simp only[Exit.inBlock]
  split
  ·rename_i he;rw[if_pos he] at hq;exact⟨B',ι',σ',hq,hR'⟩
  ·rename_i he;rw[if_neg he] at hq;exact⟨B',ι',σ',hq,hR'⟩
 |_=>exact⟨B',ι',σ',hq,hR'⟩
theorem CodeE.loop{x:Code}(I:Nat->AState->Prop)(n:Nat)(h0:I n σ)(round:∀n σ,I n σ->CodeE P c x (Li (λσ'=>∃k,k<n/\I k σ') Q) σ):CodeE P c (.loop x) Q σ:=by
 intro B ι a w hR
 refine wpIn_loop_ghost (λn a w=>∃B ι σ,I n σ/\Rel c B ι σ a w) n ⟨B,ι,σ,h0,hR⟩ ?_
 rintro n a w ⟨B,ι,σ,hI,hR⟩
 refine Code.wpIn_mono (λe a w hq=>?_) (round n σ hI B ι a w hR)
 obtain⟨B',ι',σ',hq,hR'⟩:=hq
 cases e with
 |normal=>obtain⟨k,hk,hI⟩:=hq;exact⟨k,hk,B',ι',σ',hI,hR'⟩
 |_=>exact⟨B',ι',σ',hq,hR'⟩
theorem Hz{b:Frame}{a:Act}{k:List Item}{cs:List Frame}{x:Code}:step P (lone (b.atR a (.code (.scope x) :: k)) cs w)=.next (lone (b.atR a (.code x :: .inScope x :: k)) cs w):=
 step_lone_go (by simp[stepG,stepG.exec,Frame.atR])
theorem ARF{b:Frame}{a:Act}{k:List Item}{cs:List Frame}{x:Code}:step P (lone (b.atR a (.inScope x :: k)) cs w)=.next (lone (b.atR a k) cs w):=
 step_lone_go (by simp[stepG,stepG.exec,Frame.atR])
theorem G6{F:Fence}{n:Nat}{x:Code}{Q:Exit->Act->World->Prop}{a:Act}(h:x.wpIn F n P (Exit.noGoto Q) a w):(Code.scope x).wpIn F n P Q a w:=by
 intro b k cs hro hb hr
 have h0:(lone (b.atR a (.code (.scope x) :: k)) cs w).fenced P F:=fenced_calm hb hr rfl
 obtain⟨e,a₁,w₁,hq,harr⟩:=h b (.inScope x :: k) cs hro hb hr
 have hx:∀id,exitTo id (.inScope x :: k)=exitTo id k:=λid=>by simp[exitTo]
 cases e with
 |normal=>exact⟨.normal,a₁,w₁,hq,.head h0 Hz (StepsIn.trans harr (.one (fenced_calm hb hr rfl) ARF))⟩
 |exit id=>
  exact⟨.exit id,a₁,w₁,hq,λk' hk=>.head h0 Hz (harr.1 k' (by rw[hx];exact hk)),
   λhr' hk=>let ⟨k₁,h1,h2⟩:=harr.2 hr' (by rw[hx];exact hk);⟨k₁,h1,.head h0 Hz h2⟩⟩
 |goto l=>exact hq.elim
 |ret=>exact⟨_,a₁,w₁,hq,.of_steps (.one h0 Hz) harr⟩
 |panic ch=>exact⟨_,a₁,w₁,hq,.of_steps (.one h0 Hz) harr⟩
 |outgrown=>exact⟨_,a₁,w₁,hq,.of_steps (.one h0 Hz) harr⟩
def Uz(H:Heap):List (Nat×HCell)->Prop
 |[]=>True
 |(i,x) :: r=>H i=x/\Uz H r
end Go.Sym
namespace Go.Sym
variable {P : Program} {B B' : Fi} {ι ι' : Nat -> Pl} {H H' : Heap} {D : Nat -> Prop} {w w' : World} {c : Ctx} {σ : AState} {Q : Exit -> AState -> Prop}
def FnT(P:Program)(g:FuncId)(as:List AVal)(H:Heap)(val:AVal)(keep:List (Nat×HCell)):Prop:=
 BAE P g/\∀(B:Fi) (ι:Nat->Pl) (w:World) (vs:Array Value),Ps B ι H.dom as vs->HRel B ι H w ->
  Calls P g vs w λe w'=>∃v H',e=.returned v/\Uz H' keep/\SD B ι H w H' val v w'
def resOne(P:Program)(σ:AState):ResultVar->Option (AVal×List Prop)
 | .tmp t=>some (σ.sl t,[])
 | .cell a t=>if isAddr (σ.sl a) then ANC P σ.H t (σ.sl a) else none
where
 isAddr:AVal->Bool
  | .bptr .. | .rptr .. | .d (.eref ..)=>true
  |_=>false
def AGA(P:Program)(σ:AState):List ResultVar->Option (List AVal×List Prop)
 |[]=>some ([],[])
 |r :: l=>match resOne P σ r,AGA P σ l with
  |some (a,p),some (as,q)=>some (a :: as,p ++ q)
  |_,_=>none
def resP(P:Program)(fn:Func)(σ:AState)(K:AVal->Prop):Prop:=match AGA P σ fn.results.toList with
 |some ([a],p)=>DJ p/\K a
 |some (as,p)=>DJ p/\K (ASM as)
 |none=>False
theorem BZL{a:AVal}{v:Value}(h:resOne.isAddr a=true)(hv:VRel B ι D a v):∃b,v=.pointer (some b):=by
 cases hv with
 |bptr=>exact⟨_,rfl⟩
 |rptr=>exact⟨_,rfl⟩
 |d hd=>cases hd<;>simp[resOne.isAddr] at h;exact⟨_,rfl⟩
 |_=>simp[resOne.isAddr] at h
def AUZ(tmps:Array Value):ResultVar->Sem Value
 | .tmp t=>pure (tmps.getD t undef)
 | .cell x t=>do loadVar t (<-asAddr (tmps.getD x undef))
theorem ANL(fn:Func)(tmps:Array Value):results fn tmps=(do let vs <-fn.results.mapM (AUZ tmps);pure (if h:vs.size=1 then vs[0] else .tuple vs)):=rfl
theorem oZ{a:Act}(hs:∀t,VRel B ι σ.H.dom (σ.sl t) (a.tmps.getD t undef))(hH:HRel B ι σ.H w):∀(l:List ResultVar) (as:List AVal) (p:List Prop),AGA P σ l=some (as,p)->DJ p ->
  ∃vs:List Value,(l.mapM (AUZ a.tmps)).run P w=.ok vs w/\vs.length=as.length /\
   ∀(j:Nat) (x:AVal) (y:Value),as[j]?=some x->vs[j]?=some y->VRel B ι σ.H.dom x y
 |[],as,p,h,_=>by simp only[AGA,Option.some.injEq,Prod.mk.injEq] at h;obtain⟨rfl,_⟩:=h;exact⟨[],by simp,rfl,λj x y hx _=>by simp at hx⟩
 |r :: l,as,p,h,hp=>by
  simp only[AGA] at h
  split at h
  ·rename_i x p1 as' p2 h1 h2
   simp only[Option.some.injEq,Prod.mk.injEq] at h
   obtain⟨rfl,rfl⟩:=h
   obtain⟨vs,h3,h4,h5⟩:=oZ hs hH l as' p2 h2 (BS hp).2
   obtain⟨v,hv,hvr⟩:∃v,(AUZ a.tmps r).run P w=.ok v w/\VRel B ι σ.H.dom x v:=by
    cases r with
    |tmp t=>simp only[resOne,Option.some.injEq,Prod.mk.injEq] at h1;obtain⟨rfl,_⟩:=h1;exact⟨_,rfl,hs t⟩
    |cell b t=>
     simp only[resOne] at h1
     split at h1
     ·rename_i hadd
      obtain⟨y,hy,hr⟩:=AIN h1 (BS hp).1 (hs b) hH
      obtain⟨ad,had⟩:=BZL hadd (hs b)
      refine⟨y,?_,hr⟩
      show ((do loadVar t (<-asAddr (a.tmps.getD b undef)):Sem Value)).run P w=_
      rw[had] at hy ⊢
      simpa[Instr.loadAt,Instr.sureAddr,asAddr] using hy
     ·cases h1
   refine⟨v :: vs,by rw[List.mapM_cons];simp only[Sem.run_bind,hv,h3,Result.andThen_ok,Sem.run_pure],by simp[h4],λj x y hx hy=>?_⟩
   cases j with
   |zero=>simp at hx hy;subst hx;subst hy;exact hvr
   |succ j=>exact h5 j x y (by simpa using hx) (by simpa using hy)
  ·cases h
theorem ARC{fn:Func}{a:Act}{K:AVal->Prop}(hs:∀t,VRel B ι σ.H.dom (σ.sl t) (a.tmps.getD t undef))(hH:HRel B ι σ.H w)(h:resP P fn σ K) :
  ∃v val,(results fn a.tmps).run P w=.ok v w/\K val/\VRel B ι σ.H.dom val v:=by
 have run:∀vs:List Value,(fn.results.toList.mapM (AUZ a.tmps)).run P w=.ok vs w ->
   (results fn a.tmps).run P w=.ok (if h:vs.toArray.size=1 then vs.toArray[0] else .tuple vs.toArray) w:=λvs h=>by
  rw[ANL,Array.mapM_eq_mapM_toList]
  simp only[Sem.run_bind,Sem.run_map,h,Result.andThen_ok,Sem.run_pure]
 unfold resP at h
 split at h
 ·rename_i x p hr
  obtain⟨vs,h1,h2,h3⟩:=oZ hs hH _ _ _ hr h.1
  obtain⟨v,rfl⟩:∃v,vs=[v]:=by
   match vs,h2 with
   |[v],_=>exact⟨v,rfl⟩
  exact⟨v,x,by rw[run _ h1];simp,h.2,h3 0 x v rfl rfl⟩
 ·rename_i as p hne hr
  obtain⟨vs,h1,h2,h3⟩:=oZ hs hH _ _ _ hr h.1
  refine⟨.tuple vs.toArray,ASM as,?_,h.2,ATT (by simpa using h2) λj x y hx hy=>h3 j x y hx (by simpa using hy)⟩
  rw[run _ h1,dif_neg]
  intro h1'
  have:as.length=1:=by rw[<-h2];simpa using h1'
  match as,this with
  |[x],_=>exact hne x rfl
 ·exact h.elim
def turn:List Nat->World->World
 |[],w=>w
 |D :: r,w=>turn r (w.putObj D (.deferred none))
theorem BSE{fn:Func}{tmps:Array Value}{R:Ending->World->Prop}:∀(Ds:List Nat) (w:World),Ds.Nodup->(∀D∈Ds,w.heap[D]?=some (.deferred (some []))) ->
  (∃v,(results fn tmps).run P (turn Ds w)=.ok v (turn Ds w)/\R (.returned v) (turn Ds w))->LeavesInM Fence.wide 0 P fn tmps R (AVB Ds) .returning w
 |[],w,_,_,h=>h
 |D :: r,w,hn,hD,h=>by
  refine⟨by simp,.inl ⟨D,w.putObj D (.deferred none),rfl,run_takeDeferred (hD D (by simp)),BSE r _ (List.nodup_cons.1 hn).2 (λE hE=>?_) h⟩⟩
  have hne:E≠D:=λhe=>(List.nodup_cons.1 hn).1 (he ▸ hE)
  rw[World.putObj_heap_other hne]
  exact hD E (by simp[hE])
theorem ALS:∀(Ds:List Nat) (w':World),Ds.Nodup->(∀D∈Ds,w.heap.size<=D/\Quiet D (.deferred (some [])) ι' H' w')->Moved B ι H w B' ι' H' w'->Moved B ι H w B' ι' H' (turn Ds w')
 |[],_,_,_,m=>m
 |D :: r,w',hn,hD,m=>by
  obtain⟨h1,h2⟩:=hD D (by simp)
  refine ALS r _ (List.nodup_cons.1 hn).2 (λE hE=>?_) (m.put h2 (λ_ _ _ h=>by cases h) h1 _)
  obtain⟨h3,h4⟩:=hD E (by simp[hE])
  exact⟨h3,h4.put_other (λhe=>(List.nodup_cons.1 hn).1 (he ▸ hE))⟩
theorem AHL{fn:Func}{a:Act}{K:AVal->Prop}{R:Ending->World->Prop}(hR:Rel c B ι σ a w)(h:resP P fn σ K)
  (hpost:∀w' v val,Moved c.B0 c.ι0 c.H0 c.w0 B ι σ.H w'->K val->VRel B ι σ.H.dom val v->R (.returned v) w'):LeavesInM Fence.wide 0 P fn a.tmps R a.defers .returning w:=by
 obtain⟨Ds,h1,_,h2,h3⟩:=hR.defers
 rw[h1]
 have m:=ALS Ds w h2 h3 hR.mv
 obtain⟨v,val,h4,h5,h6⟩:=ARC hR.slots m.heap h
 exact BSE Ds w h2 (λD hD=>(h3 D hD).2.here) ⟨v,h4,hpost _ _ _ m h5 h6⟩
theorem AAY{f:FuncId}{fn:Func}{code:Code}{args:Array Value}{R:Ending->World->Prop}(hf:P.funcs[f]?=some fn)(hb:fn.body=some code)
  (h:code.wpIn (J0 none) 0 P (bodyPostM Fence.wide 0 P fn R) { tmps:=args ++ Array.replicate (fn.ntmps-args.size) undef,defers:=[] } w):Calls P f args w R:=
 callsIn_wide.1 (callsIn_of_wp_marks (F:=Fence.wide) (n:=0) hf hb trivial h)
def yS(as:List AVal):Nat->AVal:=λt=>as.getD t (.d (.v undef))
theorem AFF{as:List AVal}{vs:Array Value}{n:Nat}{mk:Bool}(ha:Ps B ι H.dom as vs)(hn:as.length<=n)(hH:HRel B ι H w):Rel ⟨B,ι,H,w,n,none,mk⟩ B ι ⟨yS as,H⟩ { tmps:=vs ++ Array.replicate (n-vs.size) undef,defers:=[] } w:=by
 refine⟨λt=>?_,?_,⟨[],rfl,λ_=>rfl,List.nodup_nil,λD hD=>by cases hD⟩,Moved.refl hH⟩
 ·simp only[yS]
  have hl:=ha.1
  by_cases ht:t<as.length
  ·have:=ha.2 t as[t] vs[t] (by simp) (by simp[hl,ht])
   rw[List.getD_eq_getElem?_getD,List.getElem?_eq_getElem ht]
   have e1:(vs ++ Array.replicate (n-vs.size) undef).getD t undef=vs[t]:=by
    simp[Array.getElem?_append,hl,ht]
   rw[e1];exact this
  ·rw[List.getD_eq_getElem?_getD,List.getElem?_eq_none (by omega)]
   have e1:(vs ++ Array.replicate (n-vs.size) undef).getD t undef=undef:=by
    simp only[Array.getD_eq_getD_getElem?,Array.getElem?_append]
    rw[if_neg (by omega)]
    simp only[Array.getElem?_replicate]
    split<;>rfl
   rw[e1];exact .d (.v _)
 ·have:=ha.1
  simp[this];omega
end Go.Sym
namespace Go.Sym
variable {P : Program} {B B' : Fi} {ι ι' : Nat -> Pl} {H H' : Heap} {D : Nat -> Prop} {w w' : World}
mutual
def Wd(ρ:Nat->Nat):AVal->AVal
 | .d x=>.d x
 | .agg cs=>.agg (Y9 ρ cs)
 | .tup cs=>.tup (Y9 ρ cs)
 | .bptr id c=>.bptr (ρ id) c
 | .rptr id k i c=>.rptr (ρ id) k i c
 | .own id k i n=>.own (ρ id) k i n
 | .fn f a b=>.fn f (Y9 ρ a) (Y9 ρ b)
 | .mref id=>.mref (ρ id)
 | .any=>.any
 | .opt g a=>.opt g (Wd ρ a)
def Y9(ρ:Nat->Nat):List AVal->List AVal
 |[]=>[]
 |a :: r=>Wd ρ a :: Y9 ρ r
end
mutual
def Ql(p:Nat->Bool):AVal->Bool
 | .d _=>true
 | .agg cs=>MI p cs
 | .tup cs=>MI p cs
 | .bptr id _=>p id
 | .rptr id _ _ _=>p id
 | .own id _ _ _=>p id
 | .fn _ a b=>MI p a&&MI p b
 | .mref id=>p id
 | .any=>true
 | .opt _ a=>Ql p a
def MI(p:Nat->Bool):List AVal->Bool
 |[]=>true
 |a :: r=>Ql p a&&MI p r
end
theorem Yv(ρ:Nat->Nat):∀(l:List AVal) (j:Nat),(Y9 ρ l)[j]?=(l[j]?).map (Wd ρ)
 |[],j=>by simp[Y9]
 |a :: l,0=>by simp[Y9]
 |a :: l,j+1=>by simp[Y9,Yv ρ l j]
theorem Qd(ρ:Nat->Nat):∀l:List AVal,(Y9 ρ l).length=l.length
 |[]=>rfl
 |a :: l=>by simp[Y9,Qd ρ l]
theorem BBQ{p:Nat->Bool}:∀{l:List AVal} {j:Nat} {a:AVal},MI p l=true->l[j]?=some a->Ql p a=true
 |[],j,a,_,h=>by simp at h
 |b :: l,0,a,hok,h=>by simp at h;subst h;simp only[MI,Bool.and_eq_true] at hok;exact hok.1
 |b :: l,j+1,a,hok,h=>by simp only[MI,Bool.and_eq_true] at hok;exact BBQ hok.2 (by simpa using h)
mutual
theorem BHS{ρ:Nat->Nat}{p:Nat->Bool}{D':Nat->Prop}(hp:∀i,p i=true->D (ρ i)/\ι (ρ i)=ι' i):∀(a:AVal) (y:Value),VRel B ι' D' a y->Ql p a=true->VRel B ι D (Wd ρ a) y
 | .d x,y,h,_=>by simp only[Wd];exact .d h.d_inv
 | .agg cs,y,h,ok=>by
  simp only[Wd];simp only[Ql] at ok
  cases h with
  |agg hl hr=>
   exact .agg (by rw[hl,Qd]) λj x y hx hy=>by
    rw[Yv,Option.map_eq_some_iff] at hx
    obtain⟨x',hx',rfl⟩:=hx
    exact qG hp cs ok j x' y hx' (hr j x' y hx' hy)
 | .tup cs,y,h,ok=>by
  simp only[Wd];simp only[Ql] at ok
  cases h with
  |tup hl hr=>
   exact .tup (by rw[hl,Qd]) λj x y hx hy=>by
    rw[Yv,Option.map_eq_some_iff] at hx
    obtain⟨x',hx',rfl⟩:=hx
    exact qG hp cs ok j x' y hx' (hr j x' y hx' hy)
 | .bptr id c,y,h,ok=>by simp only[Wd];cases h;rw[<-(hp id (by simpa[Ql] using ok)).2];exact .bptr (hp id (by simpa[Ql] using ok)).1
 | .rptr id k i c,y,h,ok=>by simp only[Wd];cases h;rw[<-(hp id (by simpa[Ql] using ok)).2];exact .rptr (hp id (by simpa[Ql] using ok)).1
 | .own id k i n,y,h,ok=>by
  simp only[Wd]
  cases h with
  |own h1 h2 h3=>rw[<-(hp id (by simpa[Ql] using ok)).2] at h3 ⊢;exact .own (hp id (by simpa[Ql] using ok)).1 h2 h3
 | .fn f u v,y,h,ok=>by
  simp only[Wd];simp only[Ql,Bool.and_eq_true] at ok
  cases h with
  |fn h1 h2 h3 h4=>
   exact .fn (by rw[h1,Qd]) (by rw[h2,Qd])
    (λj x y hx hy=>by
     rw[Yv,Option.map_eq_some_iff] at hx
     obtain⟨x',hx',rfl⟩:=hx
     exact qG hp u ok.1 j x' y hx' (h3 j x' y hx' hy))
    λj x y hx hy=>by
     rw[Yv,Option.map_eq_some_iff] at hx
     obtain⟨x',hx',rfl⟩:=hx
     exact qG hp v ok.2 j x' y hx' (h4 j x' y hx' hy)
 | .mref id,y,h,ok=>by simp only[Wd];cases h;rw[<-(hp id (by simpa[Ql] using ok)).2];exact .mref (hp id (by simpa[Ql] using ok)).1
 | .any,y,_,_=>by simp only[Wd];exact .any
 | .opt g a,y,h,ok=>by
  simp only[Wd];simp only[Ql] at ok
  cases h with
  |opt h1 h2=>exact .opt (λhg=>BHS hp a y (h1 hg) ok) h2
theorem qG{ρ:Nat->Nat}{p:Nat->Bool}{D':Nat->Prop}(hp:∀i,p i=true->D (ρ i)/\ι (ρ i)=ι' i):∀(l:List AVal),MI p l=true->∀(j:Nat) (x:AVal) (y:Value),l[j]?=some x->VRel B ι' D' x y->VRel B ι D (Wd ρ x) y
 |[],_,j,x,y,hx,_=>by simp at hx
 |a :: l,ok,0,x,y,hx,h=>by
  simp at hx;subst hx;simp only[MI,Bool.and_eq_true] at ok
  exact BHS hp a y h ok.1
 |a :: l,ok,j+1,x,y,hx,h=>by
  simp only[MI,Bool.and_eq_true] at ok
  exact qG hp l ok.2 j x y (by simpa using hx) h
end
def renO(ρ:Nat->Nat):AObj->AObj
 | .box es=>.box (Y9 ρ es)
 | .abox es m g=>.abox (Y9 ρ es) m g
 | .miter m a b c d=>.miter (ρ m) a b c d
 |o=>o
def okO(p:Nat->Bool):AObj->Bool
 | .box es=>MI p es
 | .abox es _ _=>MI p es
 | .miter m _ _ _ _=>p m
 |_=>true
theorem CHM{ρ:Nat->Nat}{p:Nat->Bool}{D':Nat->Prop}(hp:∀i,p i=true->D (ρ i)/\ι (ρ i)=ι' i){q:Nat}{o:AObj}{x:Option Obj}(h:ORel B ι' D' q o x)(ok:okO p o=true):ORel B ι D q (renO ρ o) x:=by
 cases o with
 |box es=>
  simp only[renO]
  cases h with
  |box hsz hr=>
   exact .box (by rw[hsz,Qd]) λj a y ha hy=>by
    rw[Yv,Option.map_eq_some_iff] at ha
    obtain⟨x',hx',rfl⟩:=ha
    exact qG hp es ok j x' y hx' (hr j x' y hx' hy)
 |row k n get=>simp only[renO];cases h with | row a b c d=>exact .row a b c d
 |imap k z has get st pend=>simp only[renO];cases h with | imap a=>exact .imap a
 |abox es m g=>
  simp only[renO]
  cases h with
  |abox hsz hr hb=>
   exact .abox (by rw[hsz,Qd]) (λj a y ha hy=>by
    rw[Yv,Option.map_eq_some_iff] at ha
    obtain⟨x',hx',rfl⟩:=ha
    exact qG hp es ok j x' y hx' (hr j x' y hx' hy)) (by rw[Qd];exact hb)
 |miter m a b c d=>simp only[renO];cases h with | miter hD h1 h2 h3 h4 h5=>rw[<-(hp m ok).2];exact .miter (hp m ok).1 h1 h2 h3 h4 h5
end Go.Sym
namespace Go.Sym
variable {P : Program} {B B' : Fi} {ι ι' : Nat -> Pl} {H H' : Heap} {D : Nat -> Prop} {w w' : World}
def IP:List (Nat×AObj)->Nat->Option AObj
 |[],_=>none
 |(j,o) :: r,i=>if i=j then some o else IP r i
def AB(L:List (Nat×AObj)):Heap:=λi=>match IP L i with
 |some o=>.live o
 |none=>.none
def Bz:List (Nat×HCell)->Nat->Option HCell
 |[],_=>none
 |(j,c) :: r,i=>if i=j then some c else Bz r i
def renC(ρ:Nat->Nat):HCell->HCell
 | .live o=>.live (renO ρ o)
 |c=>c
def Mp(ρ:Nat->Nat):List (Nat×HCell)->List (Nat×HCell)
 |[]=>[]
 |(i,c) :: r=>(ρ i,renC ρ c) :: Mp ρ r
def cellsOf(ρ:Nat->Nat):List (Nat×AObj)->List (Nat×HCell)
 |[]=>[]
 |(i,o) :: r=>(ρ i,.live (renO ρ o)) :: cellsOf ρ r
def nodup:List Nat->Bool
 |[]=>true
 |a :: r=>!r.contains a&&nodup r
def AAO:HCell->Bool
 | .none=>false
 |_=>true
def PW(p:Nat->Bool):HCell->Bool
 | .live o=>okO p o
 |_=>true
def AHU(as:List AVal)(L:List (Nat×AObj))(val:AVal)(keep:List (Nat×HCell))(ρ:Nat->Nat)(r:Nat):Bool:=
 MI (λi=>(IP L i).isSome) as&&L.all (λx=>okO (λi=>(IP L i).isSome) x.2)&&L.all (λx=>(Bz keep x.1).isSome&&!(Nat.ble r (ρ x.1)&&Nat.blt (ρ x.1) (r+16))) &&
 keep.all (λx=>AAO x.2&&PW (λi=>(Bz keep i).isSome) x.2&&((IP L x.1).isSome||(Nat.ble r (ρ x.1)&&Nat.blt (ρ x.1) (r+16)))) &&
 Ql (λi=>(Bz keep i).isSome) val&&nodup (keep.map λx=>ρ x.1)
theorem XF:∀{l:List (Nat×HCell)} {i:Nat} {c:HCell},Bz l i=some c->(i,c)∈l
 |[],i,c,h=>by simp[Bz] at h
 |(j,d) :: r,i,c,h=>by
  simp only[Bz] at h
  split at h
  ·rename_i e;cases h;subst e;simp
  ·exact List.mem_cons_of_mem _ (XF h)
theorem Qj:∀{l:List (Nat×AObj)} {i:Nat} {o:AObj},IP l i=some o->(i,o)∈l
 |[],i,c,h=>by simp[IP] at h
 |(j,d) :: r,i,c,h=>by
  simp only[IP] at h
  split at h
  ·rename_i e;cases h;subst e;simp
  ·exact List.mem_cons_of_mem _ (Qj h)
theorem ALD:∀{l:List (Nat×HCell)} {i:Nat} {c:HCell},(i,c)∈l->∃c',Bz l i=some c'
 |(j,d) :: r,i,c,h=>by
  simp only[Bz]
  split
  ·exact⟨_,rfl⟩
  ·rename_i hne
   rcases List.mem_cons.1 h with h | h
   ·cases h;exact absurd rfl hne
   ·exact ALD h
theorem TI:∀{l:List Nat},nodup l=true->l.Nodup
 |[],_=>List.nodup_nil
 |a :: r,h=>by
  simp only[nodup,Bool.and_eq_true,Bool.not_eq_true'] at h
  refine List.nodup_cons.2 ⟨λhm=>?_,TI h.2⟩
  have:=h.1
  simp[hm] at this
theorem R3{ρ:Nat->Nat}{keep:List (Nat×HCell)}(hn:(keep.map λx=>ρ x.1).Nodup){i j:Nat}{c d:HCell}(hi:(i,c)∈keep)(hj:(j,d)∈keep)(h:ρ i=ρ j):i=j/\c=d:=by
 induction keep with
 |nil=>cases hi
 |cons x r ih=>
  simp only[List.map_cons,List.nodup_cons] at hn
  rcases List.mem_cons.1 hi with e1 | hi<;>rcases List.mem_cons.1 hj with e2 | hj
  ·rw[<-e1] at e2;cases e2;exact⟨rfl,rfl⟩
  ·rw[<-e1] at hn;exact absurd (List.mem_map.2 ⟨_,hj,h.symm⟩) hn.1
  ·rw[<-e2] at hn;exact absurd (List.mem_map.2 ⟨_,hi,h⟩) hn.1
  ·exact ih hn.2 hi hj
theorem AHV:∀{keep:List (Nat×HCell)} {H:Heap},Uz H keep->∀{i:Nat} {c:HCell},(i,c)∈keep->H i=c
 |[],_,_,i,c,h=>by cases h
 |(j,d) :: r,H,h,i,c,hm=>by
  rcases List.mem_cons.1 hm with hm | hm
  ·cases hm;exact h.1
  ·exact AHV h.2 hm
theorem Vd{ρ:Nat->Nat}:∀{keep:List (Nat×HCell)} (H:Heap),(keep.map λx=>ρ x.1).Nodup->∀{i:Nat} {c:HCell},(i,c)∈keep->GF H (Mp ρ keep) (ρ i)=renC ρ c
 |[],_,_,i,c,h=>by cases h
 |(j,d) :: r,H,hn,i,c,h=>by
  simp only[List.map_cons,List.nodup_cons] at hn
  simp only[Mp,GF]
  rcases List.mem_cons.1 h with h | h
  ·cases h
   rw[Ga]
   ·exact LF _ _ _
   ·intro hm
    have:∀l:List (Nat×HCell),(Mp ρ l).map (·.1)=l.map λx=>ρ x.1:=λl=>by
     induction l with
     |nil=>rfl
     |cons x l ih=>simp[Mp,ih]
    rw[this] at hm
    exact hn.1 hm
  ·exact Vd _ hn.2 h
theorem APK(ρ:Nat->Nat)(l:List (Nat×HCell)):(Mp ρ l).map (·.1)=l.map λx=>ρ x.1:=by
 induction l with
 |nil=>rfl
 |cons x l ih=>simp[Mp,ih]
open Classical in
theorem BDJ{as:List AVal}{L:List (Nat×AObj)}{val:AVal}{keep:List (Nat×HCell)}(ρ:Nat->Nat)(r:Nat)(ok:AHU as L val keep ρ r=true)(H:Heap)(hfresh:∀i,r<=i->i<r+16->H i=.none)
  (hH:HRel B ι H w) (hobj:∀i o,IP L i=some o->(∃o',H (ρ i)=.live o')/\ORel B (λi=>ι (ρ i)) (AB L).dom (ι (ρ i)).cap o (w.heap[(ι (ρ i)).b]?)) :
  HRel B (λi=>ι (ρ i)) (AB L) w/\∀v w',(∃H',Uz H' keep/\SD B (λi=>ι (ρ i)) (AB L) w H' val v w')->SD B ι H w (GF H (Mp ρ keep)) (Wd ρ val) v w':=by
 simp only[AHU,Bool.and_eq_true,List.all_eq_true] at ok
 obtain⟨⟨⟨⟨⟨ok1,ok2⟩,ok3⟩,ok4⟩,ok5⟩,ok6⟩:=ok
 have hnd:=TI ok6
 have hcells:∀i o,IP L i=some o->∃o',H (ρ i)=.live o'/\True:=λi o hi=>(hobj i o hi).1.imp λ_ h=>⟨h,trivial⟩
 have hLo:∀i o,AB L i=.live o↔IP L i=some o:=λi o=>by
  unfold AB;cases hg:IP L i<;>simp
 have hdom:∀i,(IP L i).isSome=true->(AB L).dom i:=λi hi=>by
  unfold Heap.dom AB
  obtain⟨o,ho⟩:=Option.isSome_iff_exists.1 hi
  rw[ho];simp
 have LK:∀i o,IP L i=some o->∃c,(i,c)∈keep/\¬ (r<=ρ i/\ρ i<r+16):=λi o hi=>by
  have:=ok3 (i,o) (Qj hi)
  simp only[Bool.not_eq_true',Bool.and_eq_false_iff] at this
  obtain⟨h1,h2⟩:=this
  obtain⟨c,hc⟩:=Option.isSome_iff_exists.1 h1
  refine⟨c,XF hc,λh3=>?_⟩
  rcases h2 with h2 | h2
  ·have:Nat.ble r (ρ i)=true:=by simpa using h3.1
   rw[this] at h2;cases h2
  ·have:Nat.blt (ρ i) (r+16)=true:=by simpa using h3.2
   rw[this] at h2;cases h2
 have Kspec:∀i c,(i,c)∈keep->AAO c=true/\PW (λi=>(Bz keep i).isSome) c=true/\((∃o,IP L i=some o)∨(r<=ρ i/\ρ i<r+16)):=λi c hi=>by
  have:=ok4 (i,c) hi
  simp only[Bool.and_eq_true,Bool.or_eq_true,Nat.ble_eq,Nat.blt_eq] at this
  exact⟨this.1.1,this.1.2,this.2.imp (λh=>Option.isSome_iff_exists.1 h) id⟩
 -- the callee's side
 have hH':HRel B (λi=>ι (ρ i)) (AB L) w:=by
  refine⟨λi o hi=>?_,λi j o o' hi hj hij=>?_,λi o hi=>?_,hH.imm⟩
  ·have hg:=(hLo i o).1 hi
   exact (hobj i o hg).2
  ·have h1:=(hLo i o).1 hi
   have h2:=(hLo j o').1 hj
   obtain⟨c1,k1,_⟩:=LK i o h1
   obtain⟨c2,k2,_⟩:=LK j o' h2
   exact (R3 hnd k1 k2 (hH.inj _ _ _ _ (hcells i o h1).choose_spec.1 (hcells j o' h2).choose_spec.1 hij)).1
  ·exact hH.sep _ _ (hcells i o ((hLo i o).1 hi)).choose_spec.1
 refine⟨hH',?_⟩
 rintro v w' ⟨H',hk,B',ι',hm,hv⟩
 -- the caller's
 let ι2:Nat->Pl:=λj=>if hj:∃i c,(i,c)∈keep/\IP L i=none/\ρ i=j then ι' (Classical.choose hj) else ι j
 have Hfresh:∀i c,(i,c)∈keep->IP L i=none->H (ρ i)=.none:=λi c hi hn=>by
  rcases (Kspec i c hi).2.2 with⟨o,ho⟩ | hr
  ·rw[ho] at hn;cases hn
  ·exact hfresh _ hr.1 hr.2
 have ι2_old:∀j,H.dom j->ι2 j=ι j:=λj hj=>by
  show (if hj:_ then _ else _)=_
  rw[dif_neg]
  rintro⟨i,c,h1,h2,rfl⟩
  exact hj (Hfresh i c h1 h2)
 have ι2_new:∀i c,(i,c)∈keep->IP L i=none->ι2 (ρ i)=ι' i:=λi c h1 h2=>by
  have hex:∃i' c',(i',c')∈keep/\IP L i'=none/\ρ i'=ρ i:=⟨i,c,h1,h2,rfl⟩
  show (if hj:_ then _ else _)=_
  rw[dif_pos hex]
  obtain⟨c',h3,_,h5⟩:=Classical.choose_spec hex
  rw[(R3 hnd h3 h1 h5).1]
 have key:∀i c,(i,c)∈keep->ι2 (ρ i)=ι' i:=λi c hi=>by
  cases hg:IP L i with
  |none=>exact ι2_new i c hi hg
  |some o=>
   obtain⟨_,hl,_⟩:=hcells i o hg
   rw[ι2_old _ (by unfold Heap.dom;rw[hl];simp)]
   exact ((hm.im i (hdom i (by simp[hg]))).2).symm
 have inK:∀i c,(i,c)∈keep->GF H (Mp ρ keep) (ρ i)=renC ρ c:=λi c hi=>Vd H hnd hi
 have notK:∀j,(∀i c,(i,c)∈keep->ρ i≠j)->GF H (Mp ρ keep) j=H j:=λj hj=>Ga _ _ _ (by
  rw[APK]
  intro hmem
  obtain⟨⟨i,c⟩,h1,h2⟩:=List.mem_map.1 hmem
  exact hj i c h1 h2)
 have domK:∀i c,(i,c)∈keep->(GF H (Mp ρ keep)).dom (ρ i):=λi c hi=>by
  unfold Heap.dom;rw[inK i c hi]
  have:=(Kspec i c hi).1
  cases c<;>simp[renC,AAO] at this ⊢
 have up:∀i,(Bz keep i).isSome=true->(GF H (Mp ρ keep)).dom (ρ i)/\ι2 (ρ i)=ι' i:=λi hi=>by
  obtain⟨c,hc⟩:=Option.isSome_iff_exists.1 hi
  exact⟨domK i c (XF hc),key i c (XF hc)⟩
 have cases':∀j,(∃i c,(i,c)∈keep/\ρ i=j)∨(∀i c,(i,c)∈keep->ρ i≠j):=λj=>by
  by_cases hj:∃i c,(i,c)∈keep/\ρ i=j
  ·exact .inl hj
  ·exact .inr λi c h1 h2=>hj ⟨i,c,h1,h2⟩
 have im:∀j,H.dom j->(GF H (Mp ρ keep)).dom j/\ι2 j=ι j:=λj hj=>⟨by
  rcases cases' j with⟨i,c,h1,rfl⟩ | hn
  ·exact domK i c h1
  ·unfold Heap.dom;rw[notK j hn];exact hj,ι2_old j hj⟩
 have apart:∀j o,H j=.live o->(∀i c,(i,c)∈keep->ρ i≠j)->∀i o',AB L i=.live o'->(ι (ρ i)).b≠(ι j).b:=λj o hj hn i o' hi he=>by
  have hg:=(hLo i o').1 hi
  obtain⟨c,hc,_⟩:=LK i o' hg
  exact hn i c hc (hH.inj _ _ _ _ (hcells i o' hg).choose_spec.1 hj he)
 have liveK:∀i c o,(i,c)∈keep->GF H (Mp ρ keep) (ρ i)=.live o->∃o',c=.live o'/\o=renO ρ o'/\H' i=.live o':=λi c o hi hl=>by
  rw[inK i c hi] at hl
  cases c with
  |live o'=>simp only[renC,HCell.live.injEq] at hl;exact⟨o',rfl,hl.symm,AHV hk hi⟩
  |none=>cases hl
  |dead=>cases hl
 refine⟨B',ι2,⟨hm.bm,?_,im,⟨?_,?_,?_,hm.heap.imm⟩,?_,?_,hm.size,hm.calm⟩,?_⟩
 ·intro b c hb
  rcases hm.bn b c hb with h1 | h1 | ⟨i,o,h1,h2⟩
  ·exact .inl h1
  ·exact .inr (.inl h1)
  ·exact .inr (.inr ⟨ρ i,_,(hcells i o ((hLo i o).1 h1)).choose_spec.1,h2⟩)
 ·intro j o hj
  rcases cases' j with⟨i,c,h1,rfl⟩ | hn
  ·obtain⟨o',rfl,rfl,hl⟩:=liveK i c o h1 hj
   rw[key i _ h1]
   exact CHM up (hm.heap.obj i o' hl) (Kspec i _ h1).2.1
  ·rw[notK j hn] at hj
   have hd:H.dom j:=by unfold Heap.dom;rw[hj];simp
   rw[ι2_old j hd,hm.frame _ (Jj hH hj) (apart j o hj hn)]
   exact (hH.obj j o hj).mono hm.bm im
 ·intro i j o1 o2 hi hj hij
  have BEB:∀a c j o o',(a,c)∈keep->GF H (Mp ρ keep) (ρ a)=.live o->(∀i c,(i,c)∈keep->ρ i≠j)->H j=.live o'->(ι2 (ρ a)).b≠(ι2 j).b:=λa c j o o' h1 h2 hn hj he=>by
   obtain⟨o3,rfl,rfl,hl⟩:=liveK a c o h1 h2
   have hd:H.dom j:=by unfold Heap.dom;rw[hj];simp
   rw[key a _ h1,ι2_old j hd] at he
   rcases hm.own a o3 hl with⟨i0,o0,h3,h4⟩ | h3
   ·exact apart j o' hj hn i0 o0 h3 (h4.trans he)
   ·have:=Jj hH hj
    omega
  rcases cases' i with⟨a,c,h1,rfl⟩ | hn1<;>rcases cases' j with⟨b,d,h2,rfl⟩ | hn2
  ·obtain⟨o3,rfl,rfl,hl1⟩:=liveK a c o1 h1 hi
   obtain⟨o4,rfl,rfl,hl2⟩:=liveK b d o2 h2 hj
   rw[key a _ h1,key b _ h2] at hij
   rw[hm.heap.inj a b _ _ hl1 hl2 hij]
  ·rw[notK j hn2] at hj
   exact absurd hij (BEB a c j o1 o2 h1 hi hn2 hj)
  ·rw[notK i hn1] at hi
   exact absurd hij.symm (BEB b d i o2 o1 h2 hj hn1 hi)
  ·rw[notK i hn1] at hi;rw[notK j hn2] at hj
   have hd1:H.dom i:=by unfold Heap.dom;rw[hi];simp
   have hd2:H.dom j:=by unfold Heap.dom;rw[hj];simp
   rw[ι2_old i hd1,ι2_old j hd2] at hij
   exact hH.inj i j _ _ hi hj hij
 ·intro j o hj
  rcases cases' j with⟨i,c,h1,rfl⟩ | hn
  ·obtain⟨o',rfl,rfl,hl⟩:=liveK i c o h1 hj
   rw[key i _ h1];exact hm.heap.sep i o' hl
  ·rw[notK j hn] at hj
   have hd:H.dom j:=by unfold Heap.dom;rw[hj];simp
   rw[ι2_old j hd]
   cases hb:B' (ι j).b with
   |none=>rfl
   |some x=>
    exfalso
    rcases hm.bn _ _ hb with h1 | h1 | ⟨i,o',h1,h2⟩
    ·rw[hH.sep j o hj] at h1;cases h1
    ·have:=Jj hH hj;omega
    ·exact apart j o hj hn i o' h1 h2
 ·intro j o hj
  rcases cases' j with⟨i,c,h1,rfl⟩ | hn
  ·obtain⟨o',rfl,rfl,hl⟩:=liveK i c o h1 hj
   rw[key i _ h1]
   rcases hm.own i o' hl with⟨i0,o0,h3,h4⟩ | h3
   ·exact .inl ⟨ρ i0,_,(hcells i0 o0 ((hLo i0 o0).1 h3)).choose_spec.1,h4⟩
   ·exact .inr h3
  ·rw[notK j hn] at hj
   have hd:H.dom j:=by unfold Heap.dom;rw[hj];simp
   exact .inl ⟨j,o,hj,by rw[ι2_old j hd]⟩
 ·intro b hb hno
  exact hm.frame b hb λi o hi=>hno (ρ i) _ (hcells i o ((hLo i o).1 hi)).choose_spec.1
 ·exact BHS up val v hv ok5
theorem FnT.at{g:FuncId}{as:List AVal}{L:List (Nat×AObj)}{val:AVal}{keep:List (Nat×HCell)}(h:FnT P g as (AB L) val keep)(ρ:Nat->Nat)(r:Nat)(ok:AHU as L val keep ρ r=true)(H:Heap)(hfresh:∀i,r<=i->i<r+16->H i=.none)
  {vs:Array Value} (hH:HRel B ι H w) (ha':Ps B (λi=>ι (ρ i)) (AB L).dom as vs) (hobj:∀i o,IP L i=some o->(∃o',H (ρ i)=.live o')/\ORel B (λi=>ι (ρ i)) (AB L).dom (ι (ρ i)).cap o (w.heap[(ι (ρ i)).b]?)) :
  Calls P g vs w λe w'=>∃v,e=.returned v/\SD B ι H w (GF H (Mp ρ keep)) (Wd ρ val) v w':=by
 obtain⟨hH',fr⟩:=BDJ ρ r ok H hfresh hH hobj
 refine Calls.mono (h.2 B _ w vs ha' hH') ?_
 rintro e w' ⟨v,H',rfl,hk,hd⟩
 exact⟨v,rfl,fr v w' ⟨H',hk,hd⟩⟩
end Go.Sym
namespace Go.Sym
variable {P : Program} {B B' : Fi} {ι ι' : Nat -> Pl} {H H' : Heap} {D : Nat -> Prop} {w w' : World}
mutual
def HP:DVal->DVal->Prop
 | .v x,.v y=>vEq x y
 | .agg xs,.agg ys=>Hw xs ys
 | .tup xs,.tup ys=>Hw xs ys
 | .list k n g e,.list k' n' g' e'=>(k=k'∨n=0)/\n=n'/\(e=true->e'=true)/\∀i,i<n->HP (g i) (g' i)
 | .arr k n g,.arr k' n' g'=>k=k'/\n=n'/\∀i,i<n->HP (g i) (g' i)
 | .eref x c,.eref y d=>c=d/\HP x y
 | .iface t x,.iface u y=>t=u/\HP x y
 | .anyB,.anyB=>True
 |_,_=>False
def Hw:List DVal->List DVal->Prop
 |[],[]=>True
 |x :: xs,y :: ys=>HP x y/\Hw xs ys
 |_,_=>False
def vEq:Value->Value->Prop
 | .int k a,.int k' b=>k=k'/\a=b
 | .bool a,.bool b=>a=b
 | .string a,.string b=>a=b
 |x,y=>x=y
end
theorem BYE{x y:Value}(h:vEq x y):x=y:=by
 unfold vEq at h
 split at h
 ·obtain⟨rfl,rfl⟩:=h;rfl
 ·rw[h]
 ·rw[h]
 ·exact h
theorem jV:∀{xs ys:List DVal},Hw xs ys->xs.length=ys.length
 |[],[],_=>rfl
 |x :: xs,y :: ys,h=>by simp only[Hw] at h;simp[jV h.2]
 |[],_ :: _,h=>by simp[Hw] at h
 |_ :: _,[],h=>by simp[Hw] at h
theorem AED:∀{xs ys:List DVal},Hw xs ys->∀{j:Nat} {x:DVal},xs[j]?=some x->∃y,ys[j]?=some y/\HP x y
 |[],[],_,j,x,hx=>by simp at hx
 |a :: xs,b :: ys,h,0,x,hx=>by simp only[Hw] at h;simp at hx;subst hx;exact⟨b,rfl,h.1⟩
 |a :: xs,b :: ys,h,j+1,x,hx=>by
  simp only[Hw] at h
  obtain⟨y,hy,hs⟩:=AED h.2 (j:=j) (by simpa using hx)
  exact⟨y,by simpa using hy,hs⟩
 |[],_ :: _,h,_,_,_=>by simp[Hw] at h
 |_ :: _,[],h,_,_,_=>by simp[Hw] at h
theorem AHF:∀{x y:DVal},HP x y->Hw x.cells1 y.cells1
 | .v x,y,h=>by cases y<;>simp only[HP] at h;exact⟨by simpa[HP] using h,trivial⟩
 | .agg xs,y,h=>by cases y<;>simp only[HP] at h;exact h
 | .tup xs,y,h=>by cases y<;>(try simp only[HP] at h)<;>exact⟨by simpa only[HP] using h,trivial⟩
 | .list k n g e,y,h=>by cases y<;>(try simp only[HP] at h)<;>exact⟨by simpa only[HP] using h,trivial⟩
 | .arr k n g,y,h=>by cases y<;>(try simp only[HP] at h)<;>exact⟨by simpa only[HP] using h,trivial⟩
 | .eref a c,y,h=>by cases y<;>(try simp only[HP] at h)<;>exact⟨by simpa only[HP] using h,trivial⟩
 | .iface a c,y,h=>by cases y<;>(try simp only[HP] at h)<;>exact⟨by simpa only[HP] using h,trivial⟩
 | .anyB,y,h=>by cases y<;>(try simp only[HP] at h)<;>exact⟨by simp only[HP],trivial⟩
theorem AHM(x:DVal)(r:List DVal):GE (x :: r)=(GE [x]&&GE r):=by
 cases x with
 |v y=>cases y<;>simp[GE]
 |_=>simp[GE]
theorem CFE{x y:DVal}(h:HP x y):GE [x]=GE [y]:=by
 cases x<;>cases y<;>simp only[HP] at h<;>try rfl
 rw[BYE h]
theorem ASQ:∀{xs ys:List DVal},Hw xs ys->GE xs=GE ys
 |[],[],_=>rfl
 |x :: xs,y :: ys,h=>by simp only[Hw] at h;rw[AHM,AHM y,CFE h.1,ASQ h.2]
 |[],_ :: _,h=>by simp[Hw] at h
 |_ :: _,[],h=>by simp[Hw] at h
theorem AAE{k:Nat}{x y:DVal}(h:HP x y)(hy:EOk k y):EOk k x:=by
 have:=AHF h
 exact⟨by rw[jV this];exact hy.len,by rw[ASQ this];exact hy.one⟩
theorem BTS{e:DVal}{zs:Array Value}(hl:zs.size=e.cells1.length)(h:∀(j:Nat) (x:DVal) (z:Value),e.cells1[j]?=some x->zs[j]?=some z->DRel B x z) :
  ∃v,DRel B e v/\∀e2,HP e2 e->DRel B e2 v->∀(j:Nat) (x:DVal) (z:Value),e2.cells1[j]?=some x->zs[j]?=some z->DRel B x z:=by
 have other:e.cells1=[e]->(∀e2,HP e2 e->e2.cells1=[e2])->∃v,DRel B e v/\∀e2,HP e2 e->DRel B e2 v->∀(j:Nat) (x:DVal) (z:Value),e2.cells1[j]?=some x->zs[j]?=some z->DRel B x z:=by
  intro h1 h2
  rw[h1] at hl h
  have hz:0<zs.size:=by rw[hl];simp
  refine⟨zs[0],h 0 e zs[0] rfl (by simp[hz]),λe2 hs hv j x z hx hz'=>?_⟩
  rw[h2 e2 hs] at hx
  cases j with
  |zero=>simp at hx;subst hx;simp[hz] at hz';subst hz';exact hv
  |succ j=>simp at hx
 cases e with
 |agg ds=>
  refine⟨.agg zs,.agg hl h,λe2 hs hv j x z hx hz=>?_⟩
  cases e2<;>simp only[HP] at hs
  cases hv with
  |agg hl hr=>exact hr j x z hx hz
 |v y=>exact other rfl λe2 hs=>by cases e2<;>first | rfl | simp only[HP] at hs
 |tup y=>exact other rfl λe2 hs=>by cases e2<;>first | rfl | simp only[HP] at hs
 |list a b c d=>exact other rfl λe2 hs=>by cases e2<;>first | rfl | simp only[HP] at hs
 |eref a b=>exact other rfl λe2 hs=>by cases e2<;>first | rfl | simp only[HP] at hs
 |iface a b=>exact other rfl λe2 hs=>by cases e2<;>first | rfl | simp only[HP] at hs
 |anyB=>exact other rfl λe2 hs=>by cases e2<;>first | rfl | simp only[HP] at hs
 |arr a b c=>exact other rfl λe2 hs=>by cases e2<;>first | rfl | simp only[HP] at hs
theorem ACY{a b:DVal}{c:Array Value}{o k:Nat}(hs:HP a b)(ok:EOk k b)(hsz:o+k<=c.size)(h:∀(j:Nat) (x:DVal) (y:Value),b.cells1[j]?=some x->c[o+j]?=some y->DRel B x y)
  (down:∀v,DRel B b v->DRel B a v):∀(j:Nat) (x:DVal) (y:Value),a.cells1[j]?=some x->c[o+j]?=some y->DRel B x y:=by
 have hz:∀j,j<k->(c.extract o (o+k))[j]?=c[o+j]?:=λj hj=>by rw[Array.getElem?_extract];simp;omega
 obtain⟨v,h1,h2⟩:=BTS (B:=B) (e:=b) (zs:=c.extract o (o+k)) (by rw[ok.len];simp;omega) (λj x z hx hz'=>by
  have hlt:=(List.getElem?_eq_some_iff.1 hx).1
  rw[ok.len] at hlt
  rw[hz j hlt] at hz'
  exact h j x z hx hz')
 intro j x y hx hy
 have hlt:=(List.getElem?_eq_some_iff.1 hx).1
 rw[(AAE hs ok).len] at hlt
 exact h2 a hs (down v h1) j x y hx (by rw[hz j hlt];exact hy)
mutual
theorem FX:∀(x:DVal) (y:DVal) (v:Value),HP x y->DRel B y v->DRel B x v
 | .v x,y,v,h,hv=>by cases y<;>simp only[HP] at h;rw[BYE h];exact hv
 | .agg xs,y,v,h,hv=>by
  cases y<;>simp only[HP] at h
  cases hv with
  |agg hl hr=>
   exact .agg (by rw[hl,jV h]) λj x z hx hz=>by
    obtain⟨y,hy,hs⟩:=AED h hx
    exact uM xs j x y z hx hs (hr j y z hy hz)
 | .tup xs,y,v,h,hv=>by
  cases y<;>simp only[HP] at h
  cases hv with
  |tup hl hr=>
   exact .tup (by rw[hl,jV h]) λj x z hx hz=>by
    obtain⟨y,hy,hs⟩:=AED h hx
    exact uM xs j x y z hx hs (hr j y z hy hz)
 | .list k n g e,y,v,h,hv=>by
  cases y<;>simp only[HP] at h
  obtain⟨hkk,rfl,he,hg⟩:=h
  cases hv with
  |nil h1 h2=>exact .nil (λh=>h1 (he h)) h2
  |list hn hb hcap hex hk hsz hr=>
   rcases hkk with rfl | h0
   case inr=>omega
   refine .list hn hb hcap (λh=>hex (he h)) (λi hi=>AAE (hg i hi) (hk i hi)) hsz λi j x y hi hx hy=>?_
   have h1:(i+1)*k<=n*k:=Nat.mul_le_mul_right k hi
   have h2:(i+1)*k=i*k+k:=Nat.succ_mul i k
   exact ACY (hg i hi) (hk i hi) (by omega) (λj x y hx hy=>hr i j x y hi hx hy) (λv hv=>FX (g i) _ v (hg i hi) hv) j x y hx hy
 | .arr k n g,y,v,h,hv=>by
  cases y<;>simp only[HP] at h
  obtain⟨rfl,rfl,hg⟩:=h
  cases hv with
  |arr hl hk hr=>
   refine .arr hl (λi hi=>AAE (hg i hi) (hk i hi)) λi j x y hi hx hy=>?_
   have h1:(i+1)*k<=n*k:=Nat.mul_le_mul_right k hi
   have h2:(i+1)*k=i*k+k:=Nat.succ_mul i k
   exact ACY (hg i hi) (hk i hi) (by omega) (λj x y hx hy=>hr i j x y hi hx hy) (λv hv=>FX (g i) _ v (hg i hi) hv) j x y hx hy
 | .anyB,y,v,h,hv=>by
  cases y<;>simp only[HP] at h
  exact hv
 | .iface a c,y,v,h,hv=>by
  cases y<;>simp only[HP] at h
  obtain⟨rfl,hs⟩:=h
  cases hv with
  |iface hr=>exact .iface (FX _ _ _ hs hr)
 | .eref a c,y,v,h,hv=>by
  cases y<;>simp only[HP] at h
  obtain⟨rfl,hs⟩:=h
  cases hv with
  |eref hb hsz hr=>
   have hl:=jV (AHF hs)
   rename_i d b off cs
   refine .eref hb (by omega) λj x y hx hy=>?_
   have hz:∀j,j<d.cells1.length->(cs.extract off (off+d.cells1.length))[j]?=cs[off+j]?:=λj hj=>by rw[Array.getElem?_extract];simp;omega
   obtain⟨v,h1,h2⟩:=BTS (B:=B) (e:=d) (zs:=cs.extract off (off+d.cells1.length)) (by simp;omega) (λj x z hx hz'=>by
    have hlt:=(List.getElem?_eq_some_iff.1 hx).1
    rw[hz j hlt] at hz'
    exact hr j x z hx hz')
   have hlt:=(List.getElem?_eq_some_iff.1 hx).1
   exact h2 a hs (FX a d v hs h1) j x y hx (by rw[hz j (by omega)];exact hy)
theorem uM:∀(l:List DVal) (j:Nat) (x y:DVal) (v:Value),l[j]?=some x->HP x y->DRel B y v->DRel B x v
 |[],j,x,y,v,hx,_,_=>by simp at hx
 |a :: l,0,x,y,v,hx,h,hv=>by simp at hx;subst hx;exact FX a y v h hv
 |a :: l,j+1,x,y,v,hx,h,hv=>uM l j x y v (by simpa using hx) h hv
end
end Go.Sym
namespace Go.Sym
variable {P : Program} {B B' : Fi} {ι ι' : Nat -> Pl} {H H' : Heap} {D : Nat -> Prop} {w w' : World}
mutual
def yM(ρ:Nat->Nat)(p:Nat->Bool):AVal->AVal->Prop
 | .any,_=>True
 | .d x,.d y=>HP x y
 | .agg xs,.agg ys=>Pz ρ p xs ys
 | .tup xs,.tup ys=>Pz ρ p xs ys
 | .bptr i c,.bptr j d=>j=ρ i/\p i=true/\c=d
 | .rptr i k e c,.rptr j k' e' c'=>j=ρ i/\p i=true/\k=k'/\e=e'/\c=c'
 | .own i k e n,.own j k' e' n'=>j=ρ i/\p i=true/\k=k'/\e=e'/\n=n'
 | .fn f a b,.fn g c d=>f=g/\Pz ρ p a c/\Pz ρ p b d
 | .mref i,.mref j=>j=ρ i/\p i=true
 | .opt g a,.opt h b=>g=h/\yM ρ p a b
 |_,_=>False
def Pz(ρ:Nat->Nat)(p:Nat->Bool):List AVal->List AVal->Prop
 |[],[]=>True
 |x :: xs,y :: ys=>yM ρ p x y/\Pz ρ p xs ys
 |_,_=>False
end
theorem Bu{ρ:Nat->Nat}{p:Nat->Bool}:∀{xs ys:List AVal},Pz ρ p xs ys->xs.length=ys.length
 |[],[],_=>rfl
 |x :: xs,y :: ys,h=>by simp only[Pz] at h;simp[Bu h.2]
 |[],_ :: _,h=>by simp[Pz] at h
 |_ :: _,[],h=>by simp[Pz] at h
theorem Hy{ρ:Nat->Nat}{p:Nat->Bool}:∀{xs ys:List AVal},Pz ρ p xs ys->∀{j:Nat} {x:AVal},xs[j]?=some x->∃y,ys[j]?=some y/\yM ρ p x y
 |[],[],_,j,x,hx=>by simp at hx
 |a :: xs,b :: ys,h,0,x,hx=>by simp only[Pz] at h;simp at hx;subst hx;exact⟨b,rfl,h.1⟩
 |a :: xs,b :: ys,h,j+1,x,hx=>by
  simp only[Pz] at h
  obtain⟨y,hy,hs⟩:=Hy h.2 (j:=j) (by simpa using hx)
  exact⟨y,by simpa using hy,hs⟩
 |[],_ :: _,h,_,_,_=>by simp[Pz] at h
 |_ :: _,[],h,_,_,_=>by simp[Pz] at h
mutual
theorem rK{ρ:Nat->Nat}{p:Nat->Bool}{D':Nat->Prop}(hp:∀i,p i=true->D' i):∀(x y:AVal) (v:Value),yM ρ p x y->VRel B ι D y v->VRel B (λi=>ι (ρ i)) D' x v
 | .any,_,_,_,_=>.any
 | .d x,y,v,h,hv=>by cases y<;>simp only[yM] at h;exact .d (FX _ _ _ h hv.d_inv)
 | .agg xs,y,v,h,hv=>by
  cases y<;>simp only[yM] at h
  cases hv with
  |agg hl hr=>
   exact .agg (by rw[hl,Bu h]) λj x z hx hz=>by
    obtain⟨y,hy,hs⟩:=Hy h hx
    exact ZM hp xs j x y z hx hs (hr j y z hy hz)
 | .tup xs,y,v,h,hv=>by
  cases y<;>simp only[yM] at h
  cases hv with
  |tup hl hr=>
   exact .tup (by rw[hl,Bu h]) λj x z hx hz=>by
    obtain⟨y,hy,hs⟩:=Hy h hx
    exact ZM hp xs j x y z hx hs (hr j y z hy hz)
 | .bptr i c,y,v,h,hv=>by
  cases y<;>simp only[yM] at h
  obtain⟨rfl,h2,rfl⟩:=h
  cases hv;exact VRel.bptr (ι:=λi=>ι (ρ i)) (hp _ h2)
 | .rptr i k e c,y,v,h,hv=>by
  cases y<;>simp only[yM] at h
  obtain⟨rfl,h2,rfl,rfl,rfl⟩:=h
  cases hv;exact VRel.rptr (ι:=λi=>ι (ρ i)) (hp _ h2)
 | .own i k e n,y,v,h,hv=>by
  cases y<;>simp only[yM] at h
  obtain⟨rfl,h2,rfl,rfl,rfl⟩:=h
  cases hv with
  |own _ h3 h4=>exact VRel.own (ι:=λi=>ι (ρ i)) (hp _ h2) h3 h4
 | .fn f a b,y,v,h,hv=>by
  cases y<;>simp only[yM] at h
  obtain⟨rfl,h1,h2⟩:=h
  cases hv with
  |fn h3 h4 h5 h6=>
   exact .fn (by rw[h3,Bu h1]) (by rw[h4,Bu h2])
    (λj x z hx hz=>by
     obtain⟨y,hy,hs⟩:=Hy h1 hx
     exact ZM hp a j x y z hx hs (h5 j y z hy hz))
    λj x z hx hz=>by
     obtain⟨y,hy,hs⟩:=Hy h2 hx
     exact ZM hp b j x y z hx hs (h6 j y z hy hz)
 | .mref i,y,v,h,hv=>by
  cases y<;>simp only[yM] at h
  obtain⟨rfl,h2⟩:=h
  cases hv;exact VRel.mref (ι:=λi=>ι (ρ i)) (hp _ h2)
 | .opt g a,y,v,h,hv=>by
  cases y<;>simp only[yM] at h
  obtain⟨rfl,h2⟩:=h
  cases hv with
  |opt h3 h4=>exact .opt (λhg=>rK hp a _ v h2 (h3 hg)) h4
theorem ZM{ρ:Nat->Nat}{p:Nat->Bool}{D':Nat->Prop}(hp:∀i,p i=true->D' i):∀(l:List AVal) (j:Nat) (x y:AVal) (v:Value),l[j]?=some x->yM ρ p x y->VRel B ι D y v->VRel B (λi=>ι (ρ i)) D' x v
 |[],j,x,y,v,hx,_,_=>by simp at hx
 |a :: l,0,x,y,v,hx,h,hv=>by simp at hx;subst hx;exact rK hp a y v h hv
 |a :: l,j+1,x,y,v,hx,h,hv=>ZM hp l j x y v (by simpa using hx) h hv
end
def osub(ρ:Nat->Nat)(p:Nat->Bool):AObj->AObj->Prop
 | .row k n g,.row k' n' g'=>k=k'/\n=n'/\∀i,i<n->HP (g i) (g' i)
 | .box es,.box es'=>Pz ρ p es es'
 | .imap q z h g s p,.imap q' z' h' g' s' p'=>q=q'/\z=z'/\p=p'/\(∀n,h n=h' n)/\(∀n,s n=s' n)/\∀n,HP (g n) (g' n)
 | .abox es m g,.abox es' m' g'=>Pz ρ p es es'/\m=m'/\∀i,i<m->g i=g' i
 | .miter m a b c d,.miter m' a' b' c' d'=>p m=true/\ρ m=m'/\(∀n,a n=a' n)/\(∀n,b n=b' n)/\(∀n,c n=c' n)/\(d=none∨d=d')
 |_,_=>False
theorem qD{ρ:Nat->Nat}{p:Nat->Bool}{D':Nat->Prop}(hp:∀i,p i=true->D' i){q:Nat}{a b:AObj}{x:Option Obj}(h:osub ρ p a b)(hb:ORel B ι D q b x):ORel B (λi=>ι (ρ i)) D' q a x:=by
 cases a with
 |row k n g=>
  cases b<;>simp only[osub] at h
  obtain⟨rfl,rfl,hg⟩:=h
  cases hb with
  |row hk hn hsz hr=>
   refine .row (λi hi=>AAE (hg i hi) (hk i hi)) hn hsz λi j x y hi hx hy=>?_
   have h1:(i+1)*k<=n*k:=Nat.mul_le_mul_right k hi
   have h2:(i+1)*k=i*k+k:=Nat.succ_mul i k
   have h3:n*k<=q*k:=Nat.mul_le_mul_right k hn
   exact ACY (hg i hi) (hk i hi) (by omega) (λj x y hx hy=>hr i j x y hi hx hy) (λv hv=>FX (g i) _ v (hg i hi) hv) j x y hx hy
 |box es=>
  cases b<;>simp only[osub] at h
  cases hb with
  |box hsz hr=>
   exact .box (by rw[hsz,Bu h]) λj x z hx hz=>by
    obtain⟨y,hy,hs⟩:=Hy h hx
    exact ZM hp es j x y z hx hs (hr j y z hy hz)
 |imap kd z has get st pend=>
  cases b<;>simp only[osub] at h
  obtain⟨rfl,rfl,rfl,hh,hs,hg⟩:=h
  cases hb with
  |imap hm=>
   refine .imap ⟨λi e he=>?_,λn hn=>?_,λn hn=>hm.met n (by rw[<-hh n];exact hn),hm.once⟩
   ·obtain⟨n,h1,h2,h3,h4,h5⟩:=hm.keys i e he
    exact⟨n,h1,by rw[hh n];exact h2,h3,by rw[hs n];exact h4,FX _ _ _ (hg n) h5⟩
   ·obtain⟨h1,h2⟩:=hm.miss n (by rw[<-hh n];exact hn)
    exact⟨FX _ _ _ (hg n) h1,by rw[hs n];exact h2⟩
 |abox es m g=>
  cases b<;>simp only[osub] at h
  obtain⟨h,rfl,hg⟩:=h
  cases hb with
  |abox hsz hr hb=>
   exact .abox (by rw[hsz,Bu h]) (λj x z hx hz=>by
    obtain⟨y,hy,hs⟩:=Hy h hx
    exact ZM hp es j x y z hx hs (hr j y z hy hz)) λj hj=>by rw[Bu h,hg j hj];exact hb j hj
 |miter m a1 b1 c1 d1=>
  cases b<;>simp only[osub] at h
  obtain⟨h0,rfl,ha,hb',hc,hd⟩:=h
  obtain rfl:a1=_:=funext ha
  obtain rfl:b1=_:=funext hb'
  obtain rfl:c1=_:=funext hc
  cases hb with
  |miter hD h1 h2 h3 h4 h5=>
   refine .miter (hp m h0) h1 h2 h3 h4 λk hk=>?_
   rcases hd with rfl | rfl
   ·cases hk
   ·exact h5 k hk
def KT:List (Nat×AVal)->Nat->AVal
 |[],_=>.any
 |(j,v) :: r,t=>if t=j then v else KT r t
def cP(l:List (Nat×HCell)):Heap:=λi=>(Bz l i).getD .none
structure ST where
 sl:List (Nat×AVal)
 H:List (Nat×HCell)
def ST.st(s:ST):AState:=⟨KT s.sl,cP s.H⟩
def CAS(ρ:Nat->Nat)(p:Nat->Bool)(sl:Nat->AVal):List (Nat×AVal)->Prop
 |[]=>True
 |(t,v) :: r=>yM ρ p v (sl t)/\CAS ρ p sl r
def cSub(ρ:Nat->Nat)(p:Nat->Bool):HCell->HCell->Prop
 | .live o,.live o'=>osub ρ p o o'
 | .dead,.live _=>True
 | .dead,.dead=>True
 |_,_=>False
def hSub(ρ:Nat->Nat)(p:Nat->Bool)(H:Heap):List (Nat×HCell)->Prop
 |[]=>True
 |(i,c) :: r=>cSub ρ p c (H (ρ i))/\hSub ρ p H r
def NB(l:List (Nat×Nat))(i:Nat):Nat:=match l with
 |[]=>i
 |(a,b) :: r=>if i=a then b else NB r i
def CPY(E:List Nat)(l:List (Nat×Nat))(s:ST)(σ:AState):Prop:=
 CAS (NB l) (λi=>(Bz s.H i).isSome) σ.sl s.sl/\hSub (NB l) (λi=>(Bz s.H i).isSome) σ.H s.H /\
  (nodup (s.H.map λx=>NB l x.1)&&E.all λi=>NB l i==i&&(Bz s.H i).isSome)=true
theorem ASW{ρ:Nat->Nat}{p:Nat->Bool}{sl:Nat->AVal}:∀{l:List (Nat×AVal)},CAS ρ p sl l->∀t,yM ρ p (KT l t) (sl t)
 |[],_,t=>by simp[KT,yM]
 |(j,v) :: r,h,t=>by
  simp only[KT]
  split
  ·rename_i e;subst e;exact h.1
  ·exact ASW h.2 t
theorem ANQ{ρ:Nat->Nat}{p:Nat->Bool}{H:Heap}:∀{l:List (Nat×HCell)},hSub ρ p H l->∀{i:Nat} {c:HCell},(i,c)∈l->cSub ρ p c (H (ρ i))
 |[],_,i,c,h=>by cases h
 |(j,d) :: r,h,i,c,hm=>by
  rcases List.mem_cons.1 hm with hm | hm
  ·cases hm;exact h.1
  ·exact ANQ h.2 hm
theorem Rel.sub{c:Ctx}{E:List Nat}{l:List (Nat×Nat)}{s:ST}{σ:AState}{a:Act}(hE:∀i,c.H0.dom i->i∈E)(h:CPY E l s σ)(hR:Rel c B ι σ a w):Rel c B (λi=>ι (NB l i)) s.st a w:=by
 obtain⟨h1,h2,h3⟩:=h
 simp only[Bool.and_eq_true,List.all_eq_true,beq_iff_eq] at h3
 obtain⟨h3,h4⟩:=h3
 have hnd:=TI h3
 have hdom:∀i,(λi=>(Bz s.H i).isSome) i=true->(ST.st s).H.dom i:=λi hi=>by
  obtain⟨d,hd⟩:=Option.isSome_iff_exists.1 hi
  have:=ANQ h2 (XF hd)
  unfold Heap.dom
  show (Bz s.H i).getD .none≠.none
  rw[hd]
  intro he
  simp at he;subst he
  simp[cSub] at this
 have live:∀i o,(ST.st s).H i=.live o->(i,.live o)∈s.H/\∃o',σ.H (NB l i)=.live o'/\osub (NB l) (λi=>(Bz s.H i).isSome) o o':=λi o hi=>by
  have hg:Bz s.H i=some (.live o):=by
   have:(Bz s.H i).getD .none=.live o:=hi
   cases hq:Bz s.H i with
   |none=>rw[hq] at this;cases this
   |some d=>rw[hq] at this;simpa using this
  have hm:=XF hg
  have:=ANQ h2 hm
  refine⟨hm,?_⟩
  cases hq:σ.H (NB l i) with
  |live o'=>rw[hq] at this;exact⟨o',rfl,this⟩
  |none=>rw[hq] at this;simp[cSub] at this
  |dead=>rw[hq] at this;simp[cSub] at this
 refine⟨λt=>rK hdom _ _ _ (ASW h1 t) (hR.slots t),hR.size,?_,?_⟩
 ·obtain⟨Ds,d1,d0,d2,d3⟩:=hR.defers
  refine⟨Ds,d1,d0,d2,λD hD=>⟨(d3 D hD).1,(d3 D hD).2.here,λi o hi=>?_⟩⟩
  obtain⟨_,o',ho,_⟩:=live i o hi
  exact (d3 D hD).2.sep _ _ ho
 have hm:=hR.mv
 refine⟨hm.bm,hm.bn,λi hi=>?_,⟨λi o hi=>?_,λi j o o' hi hj hij=>?_,λi o hi=>?_,hm.heap.imm⟩,λi o hi=>?_,hm.frame,hm.size,hm.calm⟩
 ·obtain⟨h5,h6⟩:=h4 i (hE i hi)
  exact⟨hdom i h6,by rw[h5];exact (hm.im i hi).2⟩
 ·obtain⟨_,o',ho,hs⟩:=live i o hi
  exact qD hdom hs (hm.heap.obj _ _ ho)
 ·obtain⟨m1,o1,ho1,_⟩:=live i o hi
  obtain⟨m2,o2,ho2,_⟩:=live j o' hj
  exact (R3 hnd m1 m2 (hm.heap.inj _ _ _ _ ho1 ho2 hij)).1
 ·obtain⟨_,o',ho,_⟩:=live i o hi
  exact hm.heap.sep _ _ ho
 ·obtain⟨_,o',ho,_⟩:=live i o hi
  exact hm.own _ _ ho
theorem CodeE.sub{c:Ctx}{E:List Nat}{l:List (Nat×Nat)}{s:ST}{σ:AState}{code:Code}{Q:Exit->AState->Prop}(hE:∀i,c.H0.dom i->i∈E)(hs:CPY E l s σ)(h:CodeE P c code Q s.st):CodeE P c code Q σ:=
 λ_ _ a w hR=>h _ _ a w (hR.sub hE hs)
end Go.Sym
