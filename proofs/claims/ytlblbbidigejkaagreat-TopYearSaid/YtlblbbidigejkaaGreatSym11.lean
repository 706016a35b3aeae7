/- A range over a function: the iterator's text reckoned, with the loop's body in place of yield. -/
import Derived.Test.YtlblbbidigejkaaGreatSym10
set_option linter.unusedVariables false
set_option linter.unusedSimpArgs false
namespace Go.Sym
variable {P : Program} {B B' : Ft} {ι ι' : Nat -> Pl} {H H' : Heap} {D D' : Nat -> Prop} {w w' : World} {c : Ctx} {σ σ' : AState}
structure AnnI where
 base:Nat->Nat
 mt:Nat->Bool:=λ_=>false
 Γ:FuncId->Option Spec
 loops:Nat->Option P5:=λ_=>none
 /-- the same, by the measures of the loops around, from the inmost one -/
 inner:List Nat->Nat->Option P5:=λ_ _=>none
 pack:Nat->Option Pack:=λ_=>none
 /-- loops that are unrolled: how often at most -/
 unr:Nat->Nat:=λ_=>0
 /-- how far names are shifted, by the rounds of unrolled loops around -/
 off:List Nat->Nat:=λ_=>0
 /-- regions of an iterator that draw their order and call yield: which operation that is -/
 yd:Nat->Option Nat:=λ_=>none
 E:List Nat
 n:Nat
def AnnI.loopAt(A:AnnI)(gs:List Nat)(k:Nat):Option P5:=match A.inner gs k with
 |some L=>some L
 |none=>A.loops k
structure Susp where
 c:Ctx
 sl1:Nat->AVal
 tmps:Array Value
 Ds:List Nat
 l:Nat
 lp:LoopState->Option Code->Loop
def bT:Exit->Code
 | .exit id=>.exit id
 |_=>.ret
def stOf:Option Exit->LoopState
 |none=>.ready
 |some _=>.done
structure BaseI(S:Susp)(m:Option Exit)(B:Ft)(ι:Nat->Pl)(H:Heap)(w:World):Prop where
 mv:Moved S.c.B0 S.c.ι0 S.c.H0 S.c.w0 B ι H w
 susp:∀t,VRel B ι H.dom (S.sl1 t) (S.tmps.getD t undef)
 marks:∀D∈S.Ds,S.c.w0.heap.size<=D/\Quiet D (.deferred (some [])) ι H w
 lge:S.c.w0.heap.size<=S.l
 lp:Quiet S.l (.loop (S.lp (stOf m) (m.map bT))) ι H w
theorem BaseI.moved{S:Susp}{m:Option Exit}(h:BaseI S m B ι H w)(hm:Moved B ι H w B' ι' H' w'):BaseI S m B' ι' H' w':=
 ⟨h.mv.trans hm,λt=>hm.vrel (h.susp t),λD hD=>⟨(h.marks D hD).1,(h.marks D hD).2.moved hm⟩,h.lge,h.lp.moved hm⟩
theorem BaseI.put{S:Susp}{m m':Option Exit}(h:BaseI S m B ι H w)(h':w'=w.putObj S.l (.loop (S.lp (stOf m') (m'.map bT)))):BaseI S m' B ι H w':=by
 subst h'
 refine⟨h.mv.put h.lp (λ_ _ _ h=>by cases h) h.lge _,h.susp,λD hD=>⟨(h.marks D hD).1,(h.marks D hD).2.put_other λhe=>?_⟩,h.lge,h.lp.put_same _⟩
 have h1:=(h.marks D hD).2.here
 rw[<-he,h.lp.here] at h1
 cases h1
structure RelI(S:Susp)(n:Nat)(m:Option Exit)(B:Ft)(ι:Nat->Pl)(σ:AState)(a:Act)(w:World):Prop where
 slots:∀t,VRel B ι σ.H.dom (σ.sl t) (a.tmps.getD t undef)
 size:a.tmps.size=n
 nodef:a.defers=[]
 base:BaseI S m B ι σ.H w
theorem RelI.tmp{S:Susp}{n:Nat}{m:Option Exit}{a:Act}(h:RelI S n m B ι σ a w):Rel ⟨B,ι,σ.H,w,n,none,false⟩ B ι σ a w:=
 ⟨h.slots,h.size,⟨[],h.nodef,λ_=>rfl,List.nodup_nil,λD hD=>by cases hD⟩,Moved.refl h.base.mv.heap⟩
theorem RelI.of{S:Susp}{n:Nat}{m:Option Exit}{a a':Act}(h:RelI S n m B ι σ a w)(h':Rel ⟨B,ι,σ.H,w,n,none,false⟩ B' ι' σ' a' w'):RelI S n m B' ι' σ' a' w':=by
 obtain⟨Ds,h1,h2,_⟩:=h'.defers
 rw[h2 rfl] at h1
 exact⟨h'.slots,h'.size,h1,h.base.moved h'.mv⟩
def CodeI(P:Program)(S:Susp)(n:Nat)(code:Code)(Q:Exit->Option Exit->AState->Prop)(m:Option Exit)(σ:AState):Prop:=
 ∀B ι a w,RelI S n m B ι σ a w->code.wpIn (xH none) 0 P (λe a' w'=>∃B' ι' m' σ',Q e m' σ'/\RelI S n m' B' ι' σ' a' w') a w
section
variable {S : Susp} {n : Nat} {m : Option Exit} {Q Q' : Exit -> Option Exit -> AState -> Prop}
theorem CodeI.mono{code:Code}(h:CodeI P S n code Q m σ)(hq:∀e m σ,Q e m σ->Q' e m σ):CodeI P S n code Q' m σ:=
 λB ι a w hR=>wpIn_mono (h B ι a w hR) λ_ _ _ ⟨B',ι',m',σ',hQ,hR'⟩=>⟨B',ι',m',σ',hq _ _ _ hQ,hR'⟩
theorem CodeI.of{code:Code}{Q1:Exit->AState->Prop}(h:∀c:Ctx,c.n=n->c.rd=none->c.H0=σ.H->CodeE P c code Q1 σ)(hq:∀e σ',Q1 e σ'->Q e m σ'):CodeI P S n code Q m σ:=
 λB ι a w hR=>wpIn_mono (h ⟨B,ι,σ.H,w,n,none,false⟩ rfl rfl rfl B ι a w hR.tmp) λ_ _ _ ⟨B',ι',σ',hQ,hR'⟩=>⟨B',ι',m,σ',hq _ _ hQ,hR.of hR'⟩
def ALE(K:Option Exit->AState->Prop)(Q:Exit->Option Exit->AState->Prop):Exit->Option Exit->AState->Prop
 | .normal,m,σ=>K m σ
 |e,m,σ=>Q e m σ
def BPJ(id:Nat)(Q:Exit->Option Exit->AState->Prop):Exit->Option Exit->AState->Prop
 | .exit id',m,σ=>if id'=id then Q .normal m σ else Q (.exit id') m σ
 |e,m,σ=>Q e m σ
theorem CodeI.seq{x y:Code}(h:CodeI P S n x (ALE (CodeI P S n y Q) Q) m σ):CodeI P S n (.seq x y) Q m σ:=by
 intro B ι a w hR
 refine wpIn_seq (wpIn_mono (h B ι a w hR) λe a w hq=>?_)
 obtain⟨B',ι',m',σ',hq,hR'⟩:=hq
 cases e with
 |normal=>exact hq B' ι' a w hR'
 |_=>exact⟨B',ι',m',σ',hq,hR'⟩
theorem CodeI.cond{x:Operand}{t e:Code}{b:Bool}(hx:AX σ.sl x=.bool b)(ht:b=true->CodeI P S n t Q m σ)(he:b=false->CodeI P S n e Q m σ):CodeI P S n (.cond x t e) Q m σ:=by
 intro B ι a w hR
 have hv:=HS hR.slots x
 rw[hx] at hv
 exact wpIn_cond_split hv.d_inv.v_inv (λh=>ht h B ι a w hR) (λh=>he h B ι a w hR)
theorem CodeI.block{id:Nat}{x:Code}(h:CodeI P S n x (BPJ id Q) m σ):CodeI P S n (.block id x) Q m σ:=by
 intro B ι a w hR
 refine wpIn_block (wpIn_mono (h B ι a w hR) λe a w hq=>?_)
 obtain⟨B',ι',m',σ',hq,hR'⟩:=hq
 cases e with
 |exit id'=>
  simp only[BPJ] at hq
  simp only[Exit.inBlock]
  split
  ·rename_i he;rw[if_pos he] at hq;exact⟨B',ι',m',σ',hq,hR'⟩
  ·rename_i he;rw[if_neg he] at hq;exact⟨B',ι',m',σ',hq,hR'⟩
 |_=>exact⟨B',ι',m',σ',hq,hR'⟩
theorem CodeI.loop{x:Code}(I:Nat->AState->Prop)(k:Nat)(h0:I k σ)(round:∀k σ,I k σ->CodeI P S n x (ALE (λm' σ'=>m'=none/\∃j,j<k/\I j σ') Q) none σ):CodeI P S n (.loop x) Q none σ:=by
 intro B ι a w hR
 refine wpIn_loop_ghost (λk a w=>∃B ι σ,I k σ/\RelI S n none B ι σ a w) k ⟨B,ι,σ,h0,hR⟩ ?_
 rintro k a w ⟨B,ι,σ,hI,hR⟩
 refine wpIn_mono (round k σ hI B ι a w hR) λe a w hq=>?_
 obtain⟨B',ι',m',σ',hq,hR'⟩:=hq
 cases e with
 |normal=>obtain⟨rfl,j,hj,hI⟩:=hq;exact⟨j,hj,B',ι',σ',hI,hR'⟩
 |_=>exact⟨B',ι',m',σ',hq,hR'⟩
variable {E : List Nat}
theorem BaseI.keep{p:Nat->Bool}(hS:∀t,Sy p (S.sl1 t)=true)(h:BaseI S m B ι H w)(hB:∀b c,B b=some c->B' b=some c)(hm:Moved S.c.B0 S.c.ι0 S.c.H0 S.c.w0 B' ι' H' w)(hp:∀i,p i=true->H'.dom i/\ι' i=ι i)
  (hl:∀i o,H' i=.live o->∃j o',(ι' i).b=(ι j).b/\H j=.live o'):BaseI S m B' ι' H' w:=by
 have q:∀{b x},Quiet b x ι H w->Quiet b x ι' H' w:=λhq=>⟨hq.here,λi o hi=>by obtain⟨j,o',h1,h2⟩:=hl i o hi;rw[h1];exact hq.sep _ _ h2⟩
 exact⟨hm,λt=>VRel.keep (ι:=ι) (D:=H.dom) hp _ _ (hS t) ((h.susp t).mono hB λi hi=>⟨hi,rfl⟩),λD hD=>⟨(h.marks D hD).1,q (h.marks D hD).2⟩,h.lge,q h.lp⟩
theorem RelI.subF{fz:List Nat}{l:List (Nat×Nat)}{s:ST}{a:Act}(hE:∀i,S.c.H0.dom i->i∈E)(hS:∀t,Sy (λi=>E.contains i) (S.sl1 t)=true)(h:FF (Jv E fz l s σ))(hR:RelI S n m B ι σ a w) :
  ∃B',RelI S n m B' (λi=>ι (NC l i)) s.st a w:=by
 obtain⟨B',h1,h2,h3,h4,h5⟩:=Moved.subF hE h hR.base.mv
 exact⟨B',λt=>h2 t _ (hR.slots t),hR.size,hR.nodef,hR.base.keep hS h4 h1 (λi hi=>by
  obtain⟨h6,h7⟩:=h5 i (by simpa using hi)
  exact⟨h6,by show ι (NC l i)=ι i;rw[h7]⟩) λi o hi=>by obtain⟨o',ho⟩:=h3 i o hi;exact⟨_,o',rfl,ho⟩⟩
theorem RelI.pack{p:Pack}{a:Act}(hE:∀i,S.c.H0.dom i->i∈E)(hS:∀t,Sy (λi=>E.contains i) (S.sl1 t)=true)(hok:ASS p E (ZB p σ)=true)(hc:BG (BTP p σ))(hR:RelI S n m B ι σ a w) :
  ∃B',RelI S n m B' ι (ZB p σ).st a w:=by
 obtain⟨B',h1,h2,h3,h4,h5⟩:=Moved.pack hE hok hc hR.base.mv
 exact⟨B',λt=>h2 t _ (hR.slots t),hR.size,hR.nodef,hR.base.keep hS h4 h1 (λi hi=>⟨h5 i (by simpa using hi),rfl⟩) λi o hi=>by obtain⟨o',ho⟩:=h3 i o hi;exact⟨i,o',rfl,ho⟩⟩
abbrev YK:=List AVal->Heap->(Heap->Prop)->(Exit->Heap->Prop)->Prop
def qU(P:Program)(S:Susp)(yk:YK):Prop:=∀(as:List AVal) (H:Heap) (kn:Heap->Prop) (ks:Exit->Heap->Prop),yk as H kn ks->∀(B:Ft) (ι:Nat->Pl) (w:World) (vs:Array Value),Sv B ι H.dom as vs->BaseI S none B ι H w ->
 ∃f tmps assign body,(Instr.yield S.l vs).run P w=.ok (.round S.l f tmps assign body) w/\RoundIn (xH none) 0 P S.l f tmps assign body w λe w'=>
  ∃B' ι' H',(∀a y,VRel B ι H.dom a y->VRel B' ι' H'.dom a y)/\((e=.returned (.bool true)/\kn H'/\BaseI S none B' ι' H' w')∨∃x,e=.returned (.bool false)/\ks x H'/\BaseI S (some x) B' ι' H' w')
def kM(ops:Array Oper)(sl:Nat->AVal)(j:Nat)(want:Bool):Option Bool:=match (ops[j]?).bind (·.dst) with
 |some t=>match sl t with
  | .d (.v (.bool b))=>some (if want then b else !b)
  | .d (.v (.tuple _))=>some false
  |_=>none
 |none=>none
theorem AFW{ops:Array Oper}{sl:Nat->AVal}{o:Oper}{j:Nat}{want g:Bool}{a:Act}(hg:o.guard=some (j,want))(h:kM ops sl j want=some g)(hs:∀t,VRel B ι D (sl t) (a.tmps.getD t undef)) :
  Region.wanted o (yielded ops a.tmps)=g:=by
 unfold kM at h
 simp only[Region.wanted,hg]
 split at h
 ·rename_i t ht
  have hv:=hs t
  have hget:a.tmps.getD t undef=(a.tmps[t]?).getD undef:=by simp
  split at h
  ·rename_i b hb
   cases h
   rw[hb] at hv
   rw[(ARF (a:=a) ht).1 _ hv.d_inv.v_inv]
   cases want<;>cases b<;>rfl
  ·rename_i x hb
   cases h
   rw[hb] at hv
   have h1:=hv.d_inv.v_inv
   have:yielded ops a.tmps j=none:=by
    simp only[yielded,ht,Option.bind_some]
    rw[hget] at h1
    cases hq:a.tmps[t]? with
    |none=>rfl
    |some y=>rw[hq] at h1;simp at h1;subst h1;rfl
   rw[this];rfl
  ·cases h
 ·cases h
def AVL(P:Program)(A:AnnI)(l:Nat)(yk:YK)(mt:Bool)(r:Nat)(o:Oper)(K:Option Exit->AState->Prop)(m:Option Exit)(σ:AState):Prop:=match o.op with
 | .call ⟨.value f,args,_⟩=>match AX σ.sl f with
  | .fn (.yield l') [] []=>match m with
   |none=>cC [l'=l] (yk (args.toList.map (AX σ.sl)) σ.H (λH'=>K none ⟨Tk σ.sl o.dst (.bool true),H'⟩) (λe H'=>K (some e) ⟨Tk σ.sl o.dst (.bool false),H'⟩))
   |some _=>False
  |fv=>match ATW A.Γ r fv (args.toList.map (AX σ.sl)) σ.H with
   |some x=>if Xo σ.H r then cC x.pre (K m (σ.app o.dst x.val x.upd)) else False
   |none=>False
 |op=>match opA P mt r (AX σ.sl) σ.H op with
  |some e=>if isNone (σ.H r) then cC e.pre (K m (σ.app o.dst e.val e.upd)) else False
  |none=>False
def refG(ops:Array Oper)(sl:Nat->AVal)(j:Nat)(b:Bool):Nat->AVal:=match (ops[j]?).bind (·.dst) with
 |some t=>match sl t with
  | .d (.v (.bool _))=>Tk sl (some t) (.bool b)
  |_=>sl
 |none=>sl
theorem ANF{ops:Array Oper}{sl:Nat->AVal}{j:Nat}{want g:Bool}(h:kM ops sl j want=some g)(t':Nat){v:Value}(hv:VRel B ι D (sl t') v):VRel B ι D (refG ops sl j (if g then want else !want) t') v:=by
 unfold kM at h
 unfold refG
 split at h
 ·rename_i t ht
  simp only[ht]
  split at h
  ·rename_i b hb
   cases h
   simp only[hb]
   have e:(if (if want=true then b else !b)=true then want else !want)=b:=by cases want<;>cases b<;>rfl
   rw[e]
   by_cases he:t'=t
   ·subst he
    rw[hb] at hv
    simpa[Tk] using hv
   ·simpa[Tk,he] using hv
  ·rename_i x hb
   simp only[hb];exact hv
  ·cases h
 ·cases h
theorem BIH{b:Bool}{p q:Prop}:(bif b then p else q)=((b=true->p)/\(b=false->q)):=by cases b<;>simp
def runK(P:Program)(A:AnnI)(l:Nat)(yk:YK)(mt:Bool)(base:Nat)(ops:Array Oper)(K:Option Exit->AState->Prop):List Oper->Nat->Option Exit->AState->Prop
 |[],_,m,σ=>K m σ
 |o :: rest,k,m,σ=>if AOK A.n o then match o.guard with
   |none=>AVL P A l yk mt (base+16*k) o (runK P A l yk mt base ops K rest (k+1)) m σ
   |some (j,want)=>match kM ops σ.sl j want with
    |some g=>bif g then AVL P A l yk mt (base+16*k) o (runK P A l yk mt base ops K rest (k+1)) m ⟨refG ops σ.sl j want,σ.H⟩ else runK P A l yk mt base ops K rest (k+1) m (AState.app ⟨refG ops σ.sl j (!want),σ.H⟩ o.dst (.d (.v undef)) [])
    |none=>False
  else False
theorem StepO.bare{ops:Array Oper}{mt:Bool}{r:Nat}{o:Oper}{val:AVal}{upd:List (Nat×HCell)}{touch:List Nat}(h:StepO P mt ops r σ { o with guard:=none } val upd touch){a:Act}(hR:RelI S n m B ι σ a w)
  (hdst:∀d,o.dst=some d->d<n) {K:Act->World->Prop} {Q:Exit->Act->World->Prop} (hK:∀B' ι' a' w',RelI S n m B' ι' (σ.app o.dst val upd) a' w'->K a' w'):o.wpIn (xH none) 0 P a w K Q:=by
 have:=h.sound (Q:=Q) hR.tmp hdst (K:=K) λB' ι' a' w' hR'=>hK B' ι' a' w' (hR.of hR')
 simp only[Region.wanted,if_true] at this
 exact this
theorem ALT{A:AnnI}(hΓ:GOk P A.Γ){yk:YK}(hy:qU P S yk){mt:Bool}{r:Nat}{o:Oper}{K:Option Exit->AState->Prop}(h:AVL P A S.l yk mt r o K m σ)(hdst:∀d,o.dst=some d->d<n)
  {a:Act} (hR:RelI S n m B ι σ a w) {KW:Act->World->Prop} {Q:Exit->Act->World->Prop} (hK:∀B' ι' m' σ' a' w',K m' σ'->RelI S n m' B' ι' σ' a' w'->KW a' w'):o.wpIn (xH none) 0 P a w KW Q:=by
 unfold AVL at h
 split at h
 ·rename_i f args ats ho
  split at h
  ·rename_i l' hf
   split at h
   ·obtain⟨h1,h2⟩:=IG h
    have h1:l'=S.l:=h1
    subst h1
    have hfv:=HS hR.slots f
    rw[hf] at hfv
    have hfe:a.eval f=.func (.yield S.l) #[] #[]:=by
     generalize a.eval f=v at hfv
     cases hfv with
     |fn hx hy h1 h2=>
      rename_i xs ys
      have e1:xs=#[]:=by simpa using hx
      have e2:ys=#[]:=by simpa using hy
      subst e1;subst e2;rfl
    have hA:Sv B ι σ.H.dom (args.toList.map (AX σ.sl)) (args.map a.eval):=⟨by simp,λj x y hx hy=>by
     obtain⟨z,hz,rfl⟩:=uC hx
     rw[Array.getElem?_toList] at hz
     simp[hz] at hy
     subst hy;exact HS hR.slots z⟩
    obtain⟨fn,tmps,assign,body,hyr,hround⟩:=hy _ _ _ _ h2 B ι w _ hA hR.base
    refine⟨SR o a _,?_⟩
    rw[Oper.semAt_eq _ _ _ (by rw[ho];exact λ_ h=>by cases h)]
    have hrun:(execOp a.eval o).run P w=.ok (.round S.l fn tmps assign body) w:=by
     simp only[execOp,ho,resolve,hfe,Deferred.ofValue,invoke,Sem.run_bind,Sem.run_pure,Result.andThen_ok]
     simpa using hyr
    rw[hrun,Oper.uponIn_round]
    refine⟨(λh=>by cases h),RoundIn.mono hround λe w' hh=>?_⟩
    obtain⟨B',ι',H',ht,hh⟩:=hh
    have put:∀b m',BaseI S m' B' ι' H' w'->RelI S n m' B' ι' ⟨Tk σ.sl o.dst (.bool b),H'⟩ (a.put o.dst (.bool b)) w':=λb m' hb=>
     ⟨λt=>lD (λt=>ht _ _ (hR.slots t)) (λd hd=>by rw[hR.size];exact hdst d hd) (.d (.v _)) t,by cases o.dst<;>simp[Act.put,hR.size],by cases o.dst<;>simp[Act.put,hR.nodef],hb⟩
    rcases hh with⟨rfl,h3,h4⟩ | ⟨x,rfl,h3,h4⟩
    ·exact hK _ _ _ _ _ _ h3 (put true _ h4)
    ·exact hK _ _ _ _ _ _ h3 (put false _ h4)
   ·exact h.elim
  ·split at h
   ·rename_i x hx
    split at h
    ·rename_i hfr
     obtain⟨h1,h2⟩:=IG h
     obtain⟨g,first,caps,he,hc⟩:=bZ hΓ hx
     have mp:∀(l:List Nat),(l.map λi=>(i,σ.H i)).map (·.1)=l:=λl=>by
      induction l with
      |nil=>rfl
      |cons a l ih=>simp only[List.map_cons,ih]
     exact StepO.bare (ops:=#[]) (mt:=mt) (.call (f:=f) (args:=args) (ats:=ats) rfl ho he (hc h1) (Zi _ _) (Ls hfr)) hR hdst λB' ι' a' w' hR'=>hK _ _ _ _ _ _ h2 hR'
    ·exact h.elim
   ·exact h.elim
 ·split at h
  ·rename_i e he
   split at h
   ·rename_i hfr
    obtain⟨h1,h2⟩:=IG h
    exact StepO.bare (ops:=#[]) (mt:=mt) (.op rfl he h1 (Xy hfr)) hR hdst λB' ι' a' w' hR'=>hK _ _ _ _ _ _ h2 hR'
   ·exact h.elim
  ·exact h.elim
theorem aX{A:AnnI}(hΓ:GOk P A.Γ){yk:YK}(hy:qU P S yk)(hn:A.n=n){mt:Bool}{base:Nat}{ops:Array Oper}{K:Option Exit->AState->Prop}(hK:∀m σ,K m σ->Q .normal m σ):∀(l:List Oper) (k:Nat) (m:Option Exit) (σ:AState),runK P A S.l yk mt base ops K l k m σ ->
  ∀B ι a w,RelI S n m B ι σ a w->wpListIn (xH none) 0 P ops (λe a' w'=>∃B' ι' m' σ',Q e m' σ'/\RelI S n m' B' ι' σ' a' w') l a w
 |[],_,m,σ,h,B,ι,a,w,hR=>⟨B,ι,m,σ,hK _ _ h,hR⟩
 |o :: l,k,m,σ,h,B,ι,a,w,hR=>by
  simp only[runK] at h
  split at h
  ·rename_i hd
   have hdst:∀d,o.dst=some d->d<n:=λd h=>hn ▸ Sb hd d h
   have go:∀σ,RelI S n m B ι σ a w->AVL P A S.l yk mt (base+16*k) o (runK P A S.l yk mt base ops K l (k+1)) m σ->o.wpIn (xH none) 0 P a w (wpListIn (xH none) 0 P ops (λe a' w'=>∃B' ι' m' σ',Q e m' σ'/\RelI S n m' B' ι' σ' a' w') l) (λe a' w'=>∃B' ι' m' σ',Q e m' σ'/\RelI S n m' B' ι' σ' a' w'):=
    λσ hR h=>ALT hΓ hy h hdst hR λB' ι' m' σ' a' w' h1 h2=>aX hΓ hy hn hK l (k+1) m' σ' h1 B' ι' a' w' h2
   unfold wpListIn
   split at h
   ·rename_i hg
    simp only[Region.wanted,hg,if_true]
    exact go σ hR h
   ·rename_i j want hg
    split at h
    ·rename_i g hgd
     rw[AFW hg hgd hR.slots]
     have hR2:RelI S n m B ι ⟨refG ops σ.sl j (if g then want else !want),σ.H⟩ a w:=⟨λt=>ANF hgd t (hR.slots t),hR.size,hR.nodef,hR.base⟩
     cases g with
     |true=>simp only[if_true];exact go _ hR2 h
     |false=>
      simp only[Bool.false_eq_true,if_false]
      refine⟨SR o a _,aX hΓ hy hn hK l (k+1) m _ h B ι _ w ?_⟩
      exact⟨λt=>lD hR2.slots (λd hd=>by rw[hR.size];exact hdst d hd) (.d (.v _)) t,by cases o.dst<;>simp[Act.put,hR.size],by cases o.dst<;>simp[Act.put,hR.nodef],hR.base⟩
    ·exact h.elim
  ·exact h.elim
def AGV(md:Region.Mode)(ops:Array Oper):Nat->Nat->Array Bool->Bool
 |0,_,listed=>(Region.ready md ops listed).isEmpty
 |f+1,j,listed=>(Region.ready md ops listed==[j])&&AGV md ops f (j+1) (listed.setIfInBounds j true)
def BDQ(md:Region.Mode)(ops:Array Oper)(k:Nat):Nat->Array Bool->Bool
 |0,listed=>AGV md ops (ops.size-k) k listed
 |f+1,listed=>!(Region.ready md ops listed).isEmpty&&(Region.ready md ops listed).all λi=>Nat.blt i k&&BDQ md ops k f (listed.setIfInBounds i true)
theorem BFG{md:Region.Mode}{ops:Array Oper}{F:Fence}{n:Nat}{Q:Exit->Act->World->Prop}:∀(l:List Oper) (j:Nat) (listed:Array Bool) (a:Act) (w:World),(∀i,l[i]?=ops[j+i]?)->AGV md ops l.length j listed=true ->
  wpListIn F n P ops Q l a w->wpAnyIn F n P md ops Q l.length listed a w
 |[],j,listed,a,w,_,ht,h=>⟨by simpa[AGV] using ht,h⟩
 |o :: l,j,listed,a,w,hl,ht,h=>by
  simp only[List.length_cons,AGV,Bool.and_eq_true,beq_iff_eq] at ht
  obtain⟨h1,h2⟩:=ht
  refine⟨λh0=>by rw[h1] at h0;(cases h0),λi hi=>?_⟩
  rw[h1] at hi
  obtain rfl:=List.mem_singleton.1 hi
  have h0:ops[i]?=some o:=by simpa using (hl 0).symm
  have ih:=λa w=>BFG (Q:=Q) (F:=F) (n:=n) l (i+1) (listed.setIfInBounds i true) a w (λq=>by have:=hl (q+1);simpa[Nat.add_assoc,Nat.add_comm 1 q] using this) h2
  unfold wpListIn at h
  unfold wpOpIn
  rw[h0]
  simp only
  split at h
  ·rename_i hw
   rw[if_pos hw]
   exact Oper.wpIn_mono ih h
  ·rename_i hw
   rw[if_neg hw]
   exact⟨h.1,ih _ _ h.2⟩
theorem StepO.ext{ops ops':Array Oper}{mt:Bool}{r:Nat}{o:Oper}{val:AVal}{upd:List (Nat×HCell)}{touch:List Nat}(h:StepO P mt ops' r σ o val upd touch)(hg:∀q,o.guard=some q->ops'[q.1]?=ops[q.1]?):StepO P mt ops r σ o val upd touch:=by
 have e:∀{j:Nat} {want:Bool},o.guard=some (j,want)->DF ops σ.sl j want=DF ops' σ.sl j want:=λh=>by unfold DF;rw[hg _ h]
 cases h with
 |op a b c d=>exact .op a b c d
 |gop a b c d f=>exact .gop a (by rw[e a];exact b) c d f
 |call a b c d f g=>exact .call a b c d f g
 |inv a b c d f g i=>exact .inv a b c d f g i
 |gcall a b c d f g i j=>exact .gcall a (by rw[e a];exact b) c d f g i j
 |gcallT a b c d f g i j=>exact .gcallT a (by rw[e a];exact b) c d f g i j
 |gskip a b=>exact .gskip a (by rw[e a];exact b)
theorem BQU{l:Array Bool}{j:Nat}(h:j<l.size)(a b:Bool):l.getD j a=l.getD j b:=by simp[h]
theorem BGJ{md:Region.Mode}{ops:Array Oper}{mt:Bool}{base k:Nat}{T:vM}{K:AState->Prop}{Q:Exit->Act->World->Prop}(hk:k<=ops.size)(hlow:lowL (ops.toList.take k) 0=true)
  (hK:∀listed B ι a w σ,K σ->AGV md ops (ops.size-k) k listed=true->RelI S n none B ι σ a w->wpAnyIn (xH none) 0 P md ops Q (ops.size-k) listed a w) :
  ∀(fuel:Nat) (listed listed':Array Bool) (σ:AState),AnyE P mt md (ops.toList.take k).toArray base n T K fuel listed' σ->BDQ md ops k fuel listed=true->listed.size=ops.size->listed'.size=k ->
   (∀j,j<k->listed'.getD j true=listed.getD j true)->(∀j,k<=j->listed.getD j false=false)->∀B ι a w,RelI S n none B ι σ a w->wpAnyIn (xH none) 0 P md ops Q (fuel+(ops.size-k)) listed a w
 |0,listed,listed',σ,h,ho,_,_,_,_,B,ι,a,w,hR=>by
  rw[Nat.zero_add]
  exact hK listed B ι a w σ h.2 ho hR
 |fuel+1,listed,listed',σ,h,ho,hs,hs',h1,h2,B,ι,a,w,hR=>by
  simp only[BDQ,Bool.and_eq_true,Bool.not_eq_true',List.all_eq_true] at ho
  obtain⟨hne,hall⟩:=ho
  rw[show fuel+1+(ops.size-k)=fuel+(ops.size-k)+1 by omega]
  refine⟨λh0=>by rw[h0] at hne;(cases hne),λi hi=>?_⟩
  obtain⟨hik,hho⟩:=hall i hi
  have hik:i<k:=Nat.le_of_ble_eq_true hik
  have hget:∀j,j<k->(ops.toList.take k).toArray[j]?=ops[j]?:=λj hj=>by simp[hj]
  obtain⟨hun,o,ho,hal⟩:=mem_ready.1 hi
  have hr':i∈Region.ready md (ops.toList.take k).toArray listed':=by
   refine mem_ready.2 ⟨by rw[h1 i hik];exact hun,o,by rw[hget i hik];exact ho,λe he hb=>?_⟩
   have h3:=hal e he hb
   rcases Nat.lt_or_ge e.on k with hlt | hge
   ·rw[BQU (by omega) false true,h1 _ hlt,BQU (by omega) true false];exact h3
   ·rw[h2 _ hge] at h3;cases h3
  obtain⟨o',val,upd,touch,q1,q2,q3,_,_,q6⟩:=h.2 i hr'
  rw[hget i hik,ho] at q1
  cases q1
  unfold wpOpIn
  rw[ho]
  have hst:StepO P mt ops (base+16*i) σ o val upd touch:=q2.ext λq hq=>by
   have h4:=lR hlow (i:=i) (o:=o) (q:=q) (by rw[List.getElem?_take,if_pos hik,<-Array.getElem?_toList] at *;simpa using ho) hq
   exact hget _ (by omega)
  refine hst.sound hR.tmp q3 (K:=wpAnyIn (xH none) 0 P md ops Q (fuel+(ops.size-k)) (listed.setIfInBounds i true)) λB' ι' a' w' hR'=>?_
  refine BGJ hk hlow hK fuel _ _ _ q6 hho (by simpa using hs) (by simpa using hs') (λj hj=>?_) (λj hj=>?_) B' ι' a' w' (hR.of hR')
  ·by_cases hji:i=j
   ·subst hji
    simp[Array.getD,hs,hs',hik,show i<ops.size by omega]
   ·rw[getD_set_ne true hji,getD_set_ne true hji];exact h1 j hj
  ·rw[getD_set_ne false (by omega)];exact h2 j hj
def strS(sl:Nat->AVal)(l:List Operand)(t:Nat):AVal:=bif l.any (λx=>match x with
 | .tmp d=>Nat.beq d t
 |_=>false) then BX (sl t) else sl t
theorem CEN{sl:Nat->AVal}{l:List Operand}(h:BG (XQ (AX sl) l))(t:Nat){v:Value}(hv:VRel B ι D (sl t) v):VRel B ι D (strS sl l t) v:=by
 unfold strS
 cases hc:(l.any λx=>match x with
  | .tmp d=>Nat.beq d t
  |_=>false) with
 |false=>exact hv
 |true=>
  obtain⟨x,hx,he⟩:=List.any_eq_true.1 hc
  cases x with
  |tmp d=>
   obtain rfl:=Nat.eq_of_beq_eq_true he
   exact OC trivial (Js h _ hx) hv
  |_=>cases he
def BAL(P:Program)(A:AnnI)(l:Nat)(yk:YK)(mt:Bool)(k base:Nat)(ops:Array Oper)(K:Option Exit->AState->Prop)(σ:AState):Prop:=
 match AGN P A.Γ mt (ops.toList.take k).toArray base A.n (ops.toList.take k) 0 σ,ops[k]? with
 |some x,some y=>match y.guard with
  |some (j,want)=>match kM ops x.st.sl j want with
   |some g=>if Nat.ble k ops.size&&lowL (ops.toList.take k) 0&&Cw (ops.toList.take k)&&lexFromT .any (ops.toList.take k).toArray (vY x.tab) (ops.toList.take k).toArray.size 0 (Array.replicate k false)&&BDQ .any ops k k (Array.replicate ops.size false)&&AOK A.n y then
     cC x.pre (bif g then cC (XQ (AX x.st.sl) y.op.operands.toList) (AVL P A l yk mt (base+16*k) y (runK P A l yk mt base ops K (ops.toList.drop (k+1)) (k+1)) none ⟨refG ops (strS x.st.sl y.op.operands.toList) j want,x.st.H⟩)
      else runK P A l yk mt base ops K (ops.toList.drop (k+1)) (k+1) none (AState.app ⟨refG ops x.st.sl j (!want),x.st.H⟩ y.dst (.d (.v undef)) []))
    else False
   |none=>False
  |none=>False
 |_,_=>False
theorem BXN{ops:Array Oper}{sl sl':Nat->AVal}{j:Nat}{want g:Bool}(h:kM ops sl j want=some g)(hs:∀t,sl' t=sl t∨sl' t=BX (sl t))(t':Nat){v:Value}(hv:VRel B ι D (sl' t') v)(hv0:VRel B ι D (sl t') v):VRel B ι D (refG ops sl' j (if g then want else !want) t') v:=by
 have hsame:∀t,(ops[j]?).bind (·.dst)=some t->sl' t=sl t:=λt ht=>by
  rcases hs t with h1 | h1
  ·exact h1
  ·unfold kM at h
   rw[ht] at h
   rw[h1]
   revert h
   show (match sl t with
    | .d (.v (.bool b))=>some (if want then b else !b)
    | .d (.v (.tuple _))=>some false
    |_=>none)=some g->_
   intro h
   split at h
   ·rename_i hb;rw[hb];rfl
   ·rename_i hb;rw[hb];rfl
   ·cases h
 have h':kM ops sl' j want=some g:=by
  unfold kM at h ⊢
  cases ht:(ops[j]?).bind (·.dst) with
  |none=>rw[ht] at h;cases h
  |some t=>rw[ht] at h;show (match sl' t with
    | .d (.v (.bool b))=>some (if want then b else !b)
    | .d (.v (.tuple _))=>some false
    |_=>none)=some g;rw[hsame t ht];exact h
 exact ANF h' t' hv
theorem AUC{A:AnnI}(hΓ:GOk P A.Γ)(hm:P.follows .mixedOrders=true){yk:YK}(hy:qU P S yk)(hn:A.n=n){mt:Bool}{k base id:Nat}{ops:Array Oper}{K:Option Exit->AState->Prop}(hK:∀m σ,K m σ->Q .normal m σ)
  (h:BAL P A S.l yk mt k base ops K σ):CodeI P S n (.region id ops true) Q none σ:=by
 unfold BAL at h
 split at h
 case h_2=>exact h.elim
 rename_i x y hx hyo
 split at h
 case h_2=>exact h.elim
 rename_i j want hgd
 split at h
 case h_2=>exact h.elim
 rename_i g hgk
 split at h
 case isFalse=>exact h.elim
 rename_i hc
 simp only[Bool.and_eq_true] at hc
 obtain⟨⟨⟨⟨⟨c1,c2⟩,c3⟩,c4⟩,c5⟩,c6⟩:=hc
 have c1:=Nat.le_of_ble_eq_true c1
 obtain⟨h1,h2⟩:=IG h
 have hsz:(ops.toList.take k).toArray.size=k:=by simp;omega
 have hdst:∀d,y.dst=some d->d<n:=λd hd=>hn ▸ Sb c6 d hd
 intro B ι a w hR
 refine wpIn_region_any hm ?_
 have hl:=uY hΓ (K:=λσ'=>σ'=x.st) (ops:=(ops.toList.take k).toArray) (by simpa using c2) (by simpa using c3) (ops.toList.take k) σ x [] (by simp) (λi _ _ _ hi=>by simp at hi) (by simpa using hx) h1 rfl
 simp only[List.nil_append,List.length_nil] at hl
 have ha:=AYW (md:=.any) (ops:=(ops.toList.take k).toArray) (n:=A.n) (ops.toList.take k) 0 (Array.replicate k false) σ (by simp) (by rw[hsz] at c4;simpa[show min k ops.size=k by omega] using c4) hl
 rw[hn] at ha
 have hlen:(ops.toList.take k).length=k:=by simp;omega
 rw[hlen] at ha
 have hR0:RelI S n none B ι σ a { w with drawn:=w.drawn+1 }:=hR.of (hR.tmp.slots |> λs=>⟨s,hR.size,⟨[],hR.nodef,λ_=>rfl,List.nodup_nil,λD hD=>by cases hD⟩,Moved.drew hR.base.mv.heap _⟩)
 have:=BGJ (S:=S) (n:=n) (Q:=λe a' w'=>∃B' ι' m' σ',Q e m' σ'/\RelI S n m' B' ι' σ' a' w') (K:=λσ'=>σ'=x.st) c1 c2 (λlisted B ι a w σ' hs ht hR=>by
  subst hs
  have hdl:∀i,(ops.toList.drop k)[i]?=ops[k+i]?:=λi=>by rw[List.getElem?_drop,Array.getElem?_toList]
  have hlen2:(ops.toList.drop k).length=ops.size-k:=by simp
  rw[<-hlen2] at ht ⊢
  refine BFG (ops.toList.drop k) k listed a w hdl ht ?_
  have hcons:ops.toList.drop k=y :: ops.toList.drop (k+1):=by
   have h3:=hdl 0
   rw[Nat.add_zero,hyo] at h3
   cases hd:ops.toList.drop k with
   |nil=>rw[hd] at h3;cases h3
   |cons z l=>
    rw[hd] at h3
    simp only[List.getElem?_cons_zero,Option.some.injEq] at h3
    subst h3
    rw[<-List.tail_drop,hd,List.tail_cons]
  rw[hcons]
  unfold wpListIn
  rw[AFW hgd hgk hR.slots]
  cases g with
  |true=>
   simp only[if_true]
   obtain⟨t1,t2⟩:=IG (show cC _ _ from h2)
   have hR2:RelI S n none B ι ⟨refG ops (strS x.st.sl y.op.operands.toList) j want,x.st.H⟩ a w:=⟨λt=>by
    refine BXN (sl':=strS x.st.sl y.op.operands.toList) hgk (λt=>?_) t (CEN t1 t (hR.slots t)) (hR.slots t)
    unfold strS
    cases (y.op.operands.toList.any _) with
    |false=>exact .inl rfl
    |true=>exact .inr rfl,hR.size,hR.nodef,hR.base⟩
   exact ALT hΓ hy t2 hdst hR2 λB' ι' m' σ' a' w' q1 q2=>aX hΓ hy hn hK _ _ m' σ' q1 B' ι' a' w' q2
  |false=>
   simp only[Bool.false_eq_true,if_false]
   refine⟨SR y a _,aX hΓ hy hn hK _ _ none _ (show runK P A S.l yk mt base ops K (ops.toList.drop (k+1)) (k+1) none _ from h2) B ι _ w ?_⟩
   have hs:∀t,VRel B ι x.st.H.dom (refG ops x.st.sl j (!want) t) (a.tmps.getD t undef):=λt=>by
    have:=ANF hgk t (hR.slots t)
    simpa using this
   exact⟨λt=>lD hs (λd hd=>by rw[hR.size];exact hdst d hd) (.d (.v _)) t,by cases y.dst<;>simp[Act.put,hR.size],by cases y.dst<;>simp[Act.put,hR.nodef],hR.base⟩)
  k (Array.replicate ops.size false) (Array.replicate k false) σ ha c5 (by simp) (by simp) (λj hj=>by simp[Array.getD,hj,show j<ops.size by omega]) (λj hj=>by simp[Array.getD]) B ι a _ hR0
 rwa [show k+(ops.size-k)=ops.size by omega] at this
def utag(j:Nat):Nat:=2000000*(j+1)
def unrI(V:Nat->(Option Exit->AState->Prop)->AState->Prop):Nat->Option Exit->AState->Prop
 |0,_,_=>False
 |n+1,none,σ=>V (utag n) (unrI V n) σ
 |_+1,some _,_=>False
def vcI(P:Program)(A:AnnI)(l:Nat)(yk:YK):Code->List Nat->(Exit->Option Exit->AState->Prop)->Option Exit->AState->Prop
 | .skip,_,Q,m,σ=>Q .normal m σ
 | .label _,_,Q,m,σ=>Q .normal m σ
 | .exit id,_,Q,m,σ=>Q (.exit id) m σ
 | .ret,_,Q,m,σ=>Q .ret m σ
 | .seq a b,gs,Q,m,σ=>vcI P A l yk a gs (ALE (vcI P A l yk b gs Q) Q) m σ
 | .cond x t e,gs,Q,m,σ=>match AX σ.sl x with
  | .d (.v (.bool b))=>bif b then vcI P A l yk t gs Q m σ else vcI P A l yk e gs Q m σ
  |_=>False
 | .block id b,gs,Q,m,σ=>vcI P A l yk b gs (BPJ id Q) m σ
 | .loop b,gs,Q,m,σ=>match A.unr (vX b) with
  |k+1=>unrI (λt K σ'=>vcI P A l yk b (t :: gs) (ALE K Q) none σ') (k+1) m σ
  |0=>match m,A.loopAt gs (vX b) with
  |none,some L=>zP A.E (·.at1) σ (λs a=>s.inv a) L /\
    allS (λs=>∀a,s.inv a->vcI P A l yk b (s.meas a :: gs) (ALE (λm' σ'=>match m' with
     |none=>zP A.E (·.at2) σ' (λs' a'=>s'.inv a'/\s'.meas a'<s.meas a) L
     |some _=>False) Q) none (s.T a).st) L
  |_,_=>False
 | .region id ops draw,gs,Q,m,σ=>match draw with
  |true=>match A.yd id with
   |none=>pO P A.Γ (A.mt id) (A.base id+A.off gs) A.n ops true σ λσ'=>vN (A.pack id) A.E σ' (Q .normal m)
   |some k=>match m with
    |none=>BAL P A l yk (A.mt id) k (A.base id+A.off gs) ops (λm' σ'=>vN (A.pack id) A.E σ' (Q .normal m')) σ
    |some _=>False
  |false=>runK P A l yk (A.mt id) (A.base id+A.off gs) ops (λm' σ'=>vN (A.pack id) A.E σ' (Q .normal m')) ops.toList 0 m σ
 |_,_,_,_,_=>False
theorem BWC{A:AnnI}(hΓ:GOk P A.Γ)(hm:P.follows .mixedOrders=true){yk:YK}(hy:qU P S yk)(hn:A.n=n)(hE:∀i,S.c.H0.dom i->i∈A.E)(hS:∀t,Sy (λi=>A.E.contains i) (S.sl1 t)=true) :
  ∀(code:Code) (gs:List Nat) (Q:Exit->Option Exit->AState->Prop) (m:Option Exit) (σ:AState),vcI P A S.l yk code gs Q m σ->CodeI P S n code Q m σ:=by
 have pk:∀{id:Nat} {Q:Exit->Option Exit->AState->Prop} {m:Option Exit} {σ:AState} {B:Ft} {ι:Nat->Pl} {a:Act} {w:World},vN (A.pack id) A.E σ (Q .normal m)->RelI S n m B ι σ a w->∃B' ι' m' σ',Q .normal m' σ'/\RelI S n m' B' ι' σ' a w:=λ{id Q m σ B ι a w} h hR=>by
  unfold vN at h
  split at h
  ·exact⟨B,ι,m,σ,h,hR⟩
  ·split at h
   ·rename_i p hp hok
    obtain⟨h1,h2⟩:=IG h
    obtain⟨B',hR'⟩:=hR.pack hE hS hok h1
    exact⟨B',ι,m,_,h2,hR'⟩
   ·exact h.elim
 intro code
 induction code with
 |skip=>intro gs Q m σ h B ι a w hR;exact wpIn_skip ⟨B,ι,m,σ,h,hR⟩
 |label l=>intro gs Q m σ h B ι a w hR;exact wpIn_label ⟨B,ι,m,σ,h,hR⟩
 |exit id=>intro gs Q m σ h B ι a w hR;exact wpIn_exit ⟨B,ι,m,σ,h,hR⟩
 |ret=>intro gs Q m σ h B ι a w hR;exact wpIn_ret ⟨B,ι,m,σ,h,hR⟩
 |seq a b iha ihb=>
  intro gs Q m σ h
  refine .seq (CodeI.mono (iha gs _ m σ h) λe m σ' hq=>?_)
  cases e with
  |normal=>exact ihb gs Q m σ' hq
  |_=>exact hq
 |cond x t e iht ihe=>
  intro gs Q m σ h
  simp only[vcI] at h
  split at h
  ·rename_i b hb
   rw[BIH] at h;exact .cond hb (λhb=>iht gs Q m σ (h.1 hb)) λhb=>ihe gs Q m σ (h.2 hb)
  ·exact h.elim
 |block id b ih=>intro gs Q m σ h;exact .block (ih gs _ m σ h)
 |loop b ih=>
  intro gs Q m σ h
  simp only[vcI] at h
  split at h
  ·rename_i k hk
   cases m with
   |some x=>exact h.elim
   |none=>
   refine .loop (λk σ=>unrI (λt K σ'=>vcI P A S.l yk b (t :: gs) (ALE K Q) none σ') k none σ) (k+1) h ?_
   intro k σ' h'
   cases k with
   |zero=>exact h'.elim
   |succ k=>
    refine CodeI.mono (ih _ _ _ _ h') λe m' σ'' hq=>?_
    cases e with
    |normal=>
     simp only[ALE] at hq
     cases m' with
     |none=>exact⟨rfl,k,Nat.lt_succ_self k,hq⟩
     |some x=>cases k<;>exact hq.elim
    |_=>exact hq
  split at h
  ·rename_i L hL
   obtain⟨h0,h3⟩:=h
   obtain⟨s,hs,a,h1,h2⟩:=Jd h0
   refine .loop (λk σ=>∃l fz s a,s∈L/\FF (Jv A.E fz l (s.T a) σ)/\s.inv a/\s.meas a=k) (s.meas a) ⟨_,_,s,a,hs,h1,h2,rfl⟩ ?_
   rintro k σ' ⟨l,fz,s,a,hs,h4,h5,rfl⟩ B ι act w hR
   obtain⟨B',hR'⟩:=hR.subF hE hS h4
   refine wpIn_mono (ih _ _ _ _ (R2 h3 s hs a h5) B' _ act w hR') λe a' w' hq=>?_
   obtain⟨B2,ι2,m2,σ2,hq,hR2⟩:=hq
   refine⟨B2,ι2,m2,σ2,?_,hR2⟩
   cases e with
   |normal=>
    simp only[ALE] at hq
    cases m2 with
    |none=>obtain⟨s',q0,a',q1,q2,q3⟩:=Jd hq;exact⟨rfl,s'.meas a',q3,_,_,s',a',q0,q1,q2,rfl⟩
    |some x=>exact hq.elim
   |_=>exact hq
  ·exact h.elim
 |scope b ih=>intro gs Q m σ h;exact h.elim
 |region id ops draw=>
  intro gs Q m σ h
  cases draw with
  |true=>
   simp only[vcI] at h
   intro B ι a w hR
   split at h
   case h_2 k hk=>
    cases m with
    |some x=>exact h.elim
    |none=>
     refine wpIn_mono (AUC (id:=id) (Q:=λe m' σ'=>e=.normal/\vN (A.pack id) A.E σ' (Q .normal m')) hΓ hm hy hn (λm σ h=>⟨rfl,h⟩) h B ι a w hR) λe a' w' hq=>?_
     obtain⟨B',ι',m',σ',⟨rfl,hp⟩,hR'⟩:=hq
     exact pk hp hR'
   have h1:CodeI P S n (.region id ops true) (λe m' σ'=>e=.normal/\vN (A.pack id) A.E σ' (Q .normal m')) m σ:=
    CodeI.of (Q1:=λe σ'=>e=.normal/\vN (A.pack id) A.E σ' (Q .normal m)) (λc h1 h2 h3=>U3 (id:=id) hΓ hm (by rw[h1,<-hn];exact AES (λσ' hk=>⟨rfl,hk⟩) h)) λe σ' h=>h
   refine wpIn_mono (h1 B ι a w hR) λe a' w' hq=>?_
   obtain⟨B',ι',m',σ',⟨rfl,hp⟩,hR'⟩:=hq
   exact pk hp hR'
  |false=>
   simp only[vcI] at h
   intro B ι a w hR
   have:=wpIn_region_list (id:=id) (aX (Q:=λe m' σ'=>e=.normal/\vN (A.pack id) A.E σ' (Q .normal m')) hΓ hy hn (λm σ h=>⟨rfl,h⟩) _ _ _ _ h B ι a w hR)
   refine wpIn_mono this λe a' w' hq=>?_
   obtain⟨B',ι',m',σ',⟨rfl,hp⟩,hR'⟩:=hq
   exact pk hp hR'
 |rangeFunc=>intro gs Q m σ h;exact h.elim
 |goto=>intro gs Q m σ h;exact h.elim
 |refuse=>intro gs Q m σ h;exact h.elim
end
end Go.Sym
