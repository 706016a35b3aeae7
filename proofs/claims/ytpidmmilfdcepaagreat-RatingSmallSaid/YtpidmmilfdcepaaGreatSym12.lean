/- A condition in parts: what comes behind a cut may be reckoned apart. -/
import Derived.Test.YtpidmmilfdcepaaGreatSym11
set_option linter.unusedVariables false
set_option linter.unusedSimpArgs false
namespace Go.Sym
variable {P : Program} {B B' : Fi} {ι ι' : Nat -> Pl} {H H' : Heap} {w w' : World} {c : Ctx} {σ : AState} {Q : Exit -> AState -> Prop}
def hasS(k:Nat):Code->Bool
 | .seq x y=>Nat.beq (Le y) k||hasS k x||hasS k y
 | .cond _ t e=>hasS k t||hasS k e
 | .block _ x=>hasS k x
 | .scope x=>hasS k x
 | .loop x=>hasS k x
 |_=>false
def vcS(P:Program)(A:Ann)(S:Nat->Bool):Code->List Nat->(Exit->AState->Prop)->AState->Prop
 | .seq x y,gs,Q,σ=>match A.cutAt gs (Le y) with
  |some L=>bif S (Le y) then vcS P A S x gs (Li (λσ'=>Cy A.E (·.at1) σ' (λs a=>s.inv a) L) Q) σ
    else vcS P A S x gs (Li (λσ'=>Cy A.E (·.at1) σ' (λs a=>s.inv a) L) Q) σ/\allS (λs=>∀a,s.inv a->vcS P A S y (s.tag ++ gs) Q (s.T a).st) L
  |none=>vcS P A S x gs (Li (vcS P A S y gs Q) Q) σ
 | .cond x t e,gs,Q,σ=>match BH σ.sl x with
  | .d (.v (.bool v))=>bif v then vcS P A S t gs Q σ else vcS P A S e gs Q σ
  |_=>False
 | .block id x,gs,Q,σ=>vcS P A S x gs (AQF id Q) σ
 | .scope x,gs,Q,σ=>vcS P A S x gs (AKG Q) σ
 | .loop x,gs,Q,σ=>match A.loopAt gs (Le x) with
  |some L=>Cy A.E (·.at1) σ (λs a=>s.inv a) L /\
    allS (λs=>∀a,s.inv a->vcS P A S x (s.meas a :: (s.tag ++ gs)) (Li (λσ'=>Cy A.E (·.at2) σ' (λs' a'=>s'.inv a'/\s'.meas a'<s.meas a) L) Q) (s.T a).st) L
  |none=>False
 |x,gs,Q,σ=>vc P A x false gs Q σ
def gAnd:List (Bool×Prop)->Prop
 |[]=>True
 |(b,p) :: r=>bif b then (bif r.any (·.1) then p/\gAnd r else p) else gAnd r
theorem LL:∀{l:List (Bool×Prop)},gAnd l->∀b p,(b,p)∈l->b=true->p
 |[],_,b,p,h,_=>by cases h
 |(b0,p0) :: r,h,b,p,hm,hb=>by
  unfold gAnd at h
  cases b0 with
  |false=>
   rcases List.mem_cons.1 hm with he | hm
   ·cases he;cases hb
   ·exact LL h b p hm hb
  |true=>
   simp only[cond_true] at h
   cases hr:r.any (·.1) with
   |false=>
    rw[hr] at h
    rcases List.mem_cons.1 hm with he | hm
    ·cases he;exact h
    ·have:=List.any_eq_false.1 hr _ hm
     simp at this;rw[this] at hb;cases hb
   |true=>
    rw[hr] at h
    rcases List.mem_cons.1 hm with he | hm
    ·cases he;exact h.1
    ·exact LL h.2 b p hm hb
def eqL:List Nat->List Nat->Bool
 |[],[]=>true
 |x :: xs,y :: ys=>Nat.beq x y&&eqL xs ys
 |_,_=>false
theorem CBP:∀{x y:List Nat},eqL x y=true->x=y
 |[],[],_=>rfl
 |x :: xs,y :: ys,h=>by
  simp only[eqL,Bool.and_eq_true] at h
  rw[Nat.eq_of_beq_eq_true h.1,CBP h.2]
 |[],_ :: _,h=>by simp[eqL] at h
 |_ :: _,[],h=>by simp[eqL] at h
def nubT:List (List Nat)->List (List Nat)
 |[]=>[]
 |t :: r=>bif r.any (eqL t) then nubT r else t :: nubT r
theorem ABZ:∀{l:List (List Nat)} {t:List Nat},t∈l->t∈nubT l
 |u :: r,t,h=>by
  unfold nubT
  cases hr:r.any (eqL u) with
  |true=>
   rcases List.mem_cons.1 h with rfl | h
   ·obtain⟨v,hv,he⟩:=List.any_eq_true.1 hr
    rw[CBP he];exact ABZ hv
   ·exact ABZ h
  |false=>
   rcases List.mem_cons.1 h with rfl | h
   ·exact .head _
   ·exact .tail _ (ABZ h)
def allG(K:List Nat->Prop):List (List Nat)->Prop
 |[]=>True
 |[t]=>K t
 |t :: l=>K t/\allG K l
theorem AFD{K:List Nat->Prop}:∀{l:List (List Nat)},allG K l->∀t∈l,K t
 |[],_,t,h=>by cases h
 |[u],h,t,ht=>by simp at ht;subst ht;exact h
 |u :: v :: l,h,t,ht=>by
  rcases List.mem_cons.1 ht with rfl | ht
  ·exact h.1
  ·exact AFD (l:=v :: l) h.2 t ht
theorem BQE{K:List Nat->Prop}:∀{l:List (List Nat)},(∀t∈l,K t)->allG K l
 |[],_=>trivial
 |[t],h=>h t (by simp)
 |t :: u :: l,h=>⟨h t (by simp),BQE (l:=u :: l) λv hv=>h v (List.mem_cons_of_mem _ hv)⟩
abbrev Leaf:=List Shape->Code->List Nat->(Exit->AState->Prop)->Prop
def GY(P:Program)(A:Ann)(S:Nat->Bool)(k:Nat)(F:Leaf):Code->List Nat->(Exit->AState->Prop)->Prop
 | .seq x y,gs,Q=>match A.cutAt gs (Le y) with
  |some L=>gAnd [(Nat.beq (Le y) k,F L y gs Q),(hasS k x,GY P A S k F x gs (Li (λσ'=>Cy A.E (·.at1) σ' (λs a=>s.inv a) L) Q)),
    (hasS k y,allG (λt=>GY P A S k F y (t ++ gs) Q) (nubT (L.map (·.tag))))]
  |none=>gAnd [(hasS k x,GY P A S k F x gs (Li (vcS P A S y gs Q) Q)),(hasS k y,GY P A S k F y gs Q)]
 | .cond _ t e,gs,Q=>gAnd [(hasS k t,GY P A S k F t gs Q),(hasS k e,GY P A S k F e gs Q)]
 | .block id x,gs,Q=>GY P A S k F x gs (AQF id Q)
 | .scope x,gs,Q=>GY P A S k F x gs (AKG Q)
 | .loop x,gs,Q=>match A.loopAt gs (Le x) with
  |some L=>allS (λs=>∀a,s.inv a->GY P A S k F x (s.meas a :: (s.tag ++ gs)) (Li (λσ'=>Cy A.E (·.at2) σ' (λs' a'=>s'.inv a'/\s'.meas a'<s.meas a) L) Q)) L
  |none=>True
 |_,_,_=>True
def stdF(P:Program)(A:Ann)(S:Nat->Bool):Leaf:=λL y gs Q=>allS (λs=>∀a,s.inv a->vcS P A S y (s.tag ++ gs) Q (s.T a).st) L
theorem BPC{K:Shape->Prop}:∀{l:List Shape},(∀s∈l,K s)->allS K l
 |[],_=>trivial
 |[s],h=>h s (by simp)
 |s :: t :: l,h=>⟨h s (by simp),BPC (l:=t :: l) λu hu=>h u (List.mem_cons_of_mem _ hu)⟩
theorem AKQ:∀{l:List (Bool×Prop)},(∀b p,(b,p)∈l->b=true->p)->gAnd l
 |[],_=>trivial
 |(b,p) :: r,h=>by
  unfold gAnd
  have hr:=AKQ (l:=r) λb p hm=>h b p (List.mem_cons_of_mem _ hm)
  cases b with
  |false=>exact hr
  |true=>
   have hp:=h true p (by simp) rfl
   simp only[cond_true]
   cases r.any (·.1) with
   |false=>exact hp
   |true=>exact⟨hp,hr⟩
theorem BVP{A:Ann}{S:Nat->Bool}{k:Nat}{I:Type}(F:I->Leaf)(G:Leaf)(hFG:∀L y gs Q,A.cutAt gs k=some L->(∀i,F i L y gs Q)->G L y gs Q):∀(x:Code) (gs:List Nat) (Q:Exit->AState->Prop),(∀i,GY P A S k (F i) x gs Q)->GY P A S k G x gs Q:=by
 intro x
 induction x with
 |seq x y ihx ihy=>
  intro gs Q h
  simp only[GY] at h ⊢
  split
  ·rename_i L hL
   simp only[hL] at h
   refine AKQ λb p hm hb=>?_
   simp only[List.mem_cons,List.not_mem_nil,or_false,Prod.mk.injEq] at hm
   rcases hm with⟨h1,rfl⟩ | ⟨h1,rfl⟩ | ⟨h1,rfl⟩
   ·exact hFG _ _ _ _ (by subst h1;rw[<-Nat.eq_of_beq_eq_true hb];exact hL) λi=>LL (h i) _ _ (.head _) (h1 ▸ hb)
   ·exact ihx _ _ λi=>LL (h i) _ _ (.tail _ (.head _)) (h1 ▸ hb)
   ·refine BQE λt ht=>ihy _ _ λi=>AFD (LL (h i) _ _ (.tail _ (.tail _ (.head _))) (h1 ▸ hb)) t ht
  ·rename_i hL
   simp only[hL] at h
   refine AKQ λb p hm hb=>?_
   simp only[List.mem_cons,List.not_mem_nil,or_false,Prod.mk.injEq] at hm
   rcases hm with⟨h1,rfl⟩ | ⟨h1,rfl⟩
   ·exact ihx _ _ λi=>LL (h i) _ _ (.head _) (h1 ▸ hb)
   ·exact ihy _ _ λi=>LL (h i) _ _ (.tail _ (.head _)) (h1 ▸ hb)
 |cond c t e iht ihe=>
  intro gs Q h
  simp only[GY] at h ⊢
  refine AKQ λb p hm hb=>?_
  simp only[List.mem_cons,List.not_mem_nil,or_false,Prod.mk.injEq] at hm
  rcases hm with⟨h1,rfl⟩ | ⟨h1,rfl⟩
  ·exact iht _ _ λi=>LL (h i) _ _ (.head _) (h1 ▸ hb)
  ·exact ihe _ _ λi=>LL (h i) _ _ (.tail _ (.head _)) (h1 ▸ hb)
 |block id x ih=>intro gs Q h;exact ih _ _ h
 |scope x ih=>intro gs Q h;exact ih _ _ h
 |loop x ih=>
  intro gs Q h
  simp only[GY] at h ⊢
  split
  ·rename_i L hL
   simp only[hL] at h
   exact BPC λs hs a ha=>ih _ _ λi=>Hn (h i) s hs a ha
  ·trivial
 |_=>intro gs Q h;trivial
theorem BUD{A:Ann}{S:Nat->Bool}(hΓ:GOk P A.Γ)(hI:oU P A)(hm:P.follows .mixedOrders=true):∀(code:Code) (gs:List Nat) (Q:Exit->AState->Prop) (σ:AState) (c:Ctx),c.n=A.n->(c.rd=none/\c.mks=true/\∀i,c.H0.dom i->i∈A.E) ->
  (∀k,S k=true->hasS k code=true->GY P A S k (stdF P A S) code gs Q)->vcS P A S code gs Q σ->CodeE P c code Q σ:=by
 intro code
 induction code with
 |seq x y ihx ihy=>
  intro gs Q σ c hn hc hl h
  simp only[vcS] at h
  have hE:=hc.2.2
  split at h
  ·rename_i L hL
   simp only[GY,hL] at hl
   have hlx:∀k,S k=true->hasS k x=true->GY P A S k (stdF P A S) x gs (Li (λσ'=>Cy A.E (·.at1) σ' (λs a=>s.inv a) L) Q):=λk h1 h2=>
    LL (hl k h1 (by simp[hasS,h2])) _ _ (.tail _ (.head _)) h2
   have hly:∀s∈L,∀a,s.inv a->∀k,S k=true->hasS k y=true->GY P A S k (stdF P A S) y (s.tag ++ gs) Q:=λs hs a ha k h1 h2=>
    AFD (LL (hl k h1 (by simp[hasS,h2])) _ _ (.tail _ (.tail _ (.head _))) h2) _ (ABZ (List.mem_map.2 ⟨s,hs,rfl⟩))
   have h':vcS P A S x gs (Li (λσ'=>Cy A.E (·.at1) σ' (λs a=>s.inv a) L) Q) σ/\allS (λs=>∀a,s.inv a->vcS P A S y (s.tag ++ gs) Q (s.T a).st) L:=by
    cases hS:S (Le y) with
    |true=>
     rw[hS] at h
     exact⟨h,LL (hl _ hS (by simp[hasS])) _ _ (.head _) (by simp)⟩
    |false=>rw[hS] at h;exact h
   obtain⟨h0,h3⟩:=h'
   refine .seq (CodeE.mono (ihx gs _ σ c hn hc hlx h0) λe σ' hq=>?_)
   cases e with
   |normal=>
    obtain⟨s,hs,a,h1,h2⟩:=TA hq
    exact CodeE.subF hE h1 (ihy _ Q _ c hn hc (hly s hs a h2) (Hn h3 s hs a h2))
   |_=>exact hq
  ·rename_i hL
   simp only[GY,hL] at hl
   refine .seq (CodeE.mono (ihx gs _ σ c hn hc (λk h1 h2=>LL (hl k h1 (by simp[hasS,h2])) _ _ (.head _) h2) h) λe σ' hq=>?_)
   cases e with
   |normal=>exact ihy gs Q σ' c hn hc (λk h1 h2=>LL (hl k h1 (by simp[hasS,h2])) _ _ (.tail _ (.head _)) h2) hq
   |_=>exact hq
 |cond x t e iht ihe=>
  intro gs Q σ c hn hc hl h
  simp only[vcS] at h
  simp only[GY] at hl
  split at h
  ·rename_i v hb
   rw[BDF] at h
   exact .cond hb (λhb=>iht gs Q σ c hn hc (λk h1 h2=>LL (hl k h1 (by simp[hasS,h2])) _ _ (.head _) h2) (h.1 hb))
    λhb=>ihe gs Q σ c hn hc (λk h1 h2=>LL (hl k h1 (by simp[hasS,h2])) _ _ (.tail _ (.head _)) h2) (h.2 hb)
  ·exact h.elim
 |block id x ih=>intro gs Q σ c hn hc hl h;exact .block (ih gs _ σ c hn hc hl h)
 |scope x ih=>intro gs Q σ c hn hc hl h;exact .noGoto (ih gs _ σ c hn hc hl h)
 |loop x ih=>
  intro gs Q σ c hn hc hl h
  simp only[vcS] at h
  split at h
  ·rename_i L hL
   simp only[GY,hL] at hl
   have hE:=hc.2.2
   obtain⟨h0,h3⟩:=h
   obtain⟨s,hs,a,h1,h2⟩:=TA h0
   refine .loop (λk σ=>∃l fz s a,s∈L/\FO (Ae A.E fz l (s.T a) σ)/\s.inv a/\s.meas a=k) (s.meas a) ⟨_,_,s,a,hs,h1,h2,rfl⟩ ?_
   rintro k σ' ⟨l,fz,s,a,hs,h4,h5,rfl⟩
   refine CodeE.subF hE h4 (CodeE.mono (ih _ _ _ c hn hc (λk h1 h2=>Hn (hl k h1 h2) s hs a h5) (Hn h3 s hs a h5)) λe σ'' hq=>?_)
   cases e with
   |normal=>obtain⟨s',q0,a',q1,q2,q3⟩:=TA hq;exact⟨s'.meas a',q3,_,_,s',a',q0,q1,q2,rfl⟩
   |_=>exact hq
  ·exact h.elim
 |_=>intro gs Q σ c hn hc hl h;exact BGK hΓ hI hm _ false gs Q σ c hn (λ_=>hc) h
def endQ(P:Program)(A:Ann)(fn:Func)(val:AVal)(keep:List (Nat×HCell))(ren:List (Nat×Nat))(fz:List Nat):Exit->AState->Prop:=λe σ'=>match e with
  | .normal | .ret=>resC P fn σ' λv=>Ae A.E fz ren ⟨[(0,val)],keep⟩ ⟨λ_=>v,σ'.H⟩
  |_=>False
def BOJ(P:Program)(A:Ann)(S:Nat->Bool)(fn:Func)(code:Code)(as:List AVal)(H:Heap)(val:AVal)(keep:List (Nat×HCell))(ren:List (Nat×Nat))(fz:List Nat):Prop:=
 vcS P A S code [] (endQ P A fn val keep ren fz) ⟨yS as,H⟩
theorem FnT.of_vcS{A:Ann}{S:Nat->Bool}(hΓ:GOk P A.Γ)(hI:oU P A)(hm:P.follows .mixedOrders=true){g:FuncId}{as:List AVal}{L:List (Nat×AObj)}{val:AVal}{keep:List (Nat×HCell)}{ren:List (Nat×Nat)}{fz:List Nat}{fn:Func}{code:Code}
  (hf : P.funcs[g]? = some fn) (hname : (fn.name == "runtime.NumGoroutine") = false) (hb : fn.body = some code) (hn : A.n = fn.ntmps /\ as.length <= fn.ntmps) (hE : A.E = L.map (·.1)) (hk : nodup (keep.map (·.1)) = true)
  (hl:∀k,S k=true->hasS k code=true->GY P A S k (stdF P A S) code [] (endQ P A fn val keep ren fz))
  (h:BOJ P A S fn code as (AB L) val keep ren fz):FnT P g as (AB L) val keep:=by
 refine⟨AEP hf hname hb,λB ι w vs ha hH=>?_⟩
 refine AAY hf hb ?_
 have hE':∀i,(AB L).dom i->i∈A.E:=λi hi=>by
  rw[hE]
  unfold Heap.dom AB at hi
  cases hg:IP L i with
  |none=>exact absurd (by simp only[hg]) hi
  |some o=>exact List.mem_map.2 ⟨_,Qj hg,rfl⟩
 have hc:=BUD hΓ hI hm code [] _ _ ⟨B,ι,AB L,w,fn.ntmps,none,true⟩ hn.1.symm ⟨rfl,rfl,hE'⟩ hl h B ι _ w (AFF ha hn.2 hH)
 refine Code.wpIn_mono (λe a w' hq=>?_) hc
 obtain⟨B',ι',σ',hr,hR⟩:=hq
 have fin:(resC P fn σ' λv=>Ae A.E fz ren ⟨[(0,val)],keep⟩ ⟨λ_=>v,σ'.H⟩)->LeavesInM Fence.wide 0 P fn a.tmps (λe w'=>∃v H',e=.returned v/\Uz H' keep/\SD B ι (AB L) w H' val v w') a.defers .returning w':=λhr=>by
  refine AHL hR (ARV hr) λw2 v val' m2 h2 h3=>?_
  obtain⟨B2,q1,q2,_⟩:=Moved.subF hE' h2 m2
  refine⟨v,cP keep,rfl,dW _ _ (TI hk) (λ_ h=>h),B2,_,q1,?_⟩
  have:=q2 0 v h3
  simpa[KT] using this
 cases e with
 |normal=>exact fin hr
 |ret=>exact fin hr
 |_=>exact hr.elim
attribute [irreducible] GY vcS BOJ
end Go.Sym
namespace Go.Sym
variable {P : Program} {B B' : Fi} {ι ι' : Nat -> Pl} {H H' : Heap} {D : Nat -> Prop} {w w' : World}
def BNR:AVal->Bool
 | .d (.v _)=>true
 | .tup cs=>cs.all λc=>match c with
  | .d (.v _)=>true
  |_=>false
 |_=>false
theorem CFZ{D':Nat->Prop}{x:Value}{y:Value}(h:VRel B ι D (.d (.v x)) y):VRel B' ι' D' (.d (.v x)) y:=by
 cases h with
 |d h=>cases h;exact .d (.v _)
theorem BGR{D':Nat->Prop}{a:AVal}{y:Value}(hf:BNR a=true)(h:VRel B ι D a y):VRel B' ι' D' a y:=by
 unfold BNR at hf
 split at hf
 ·exact CFZ h
 ·rename_i cs
  cases h with
  |tup hl hh=>
   refine .tup hl λj x y hx hy=>?_
   have:=List.all_eq_true.1 hf x (List.mem_of_getElem? hx)
   split at this
   ·exact CFZ (hh j _ y hx hy)
   ·cases this
 ·cases hf
theorem FnT.lend{g:FuncId}{as xs:List AVal}{L:List (Nat×AObj)}{val:AVal}{fz:List Nat}(h:FnT P g as (AB []) val [])(hv:BNR val=true)
  (ha:frL (PN (AB L) fz) xs=as) (hok:MI (λ_=>false) as=true) (hc:DJ (frCL (PN (AB L) fz) xs)) (keep:List (Nat×HCell)) (hk:Uz (AB L) keep):FnT P g xs (AB L) val keep:=by
 refine⟨h.1,λB ι w vs hvs hH=>?_⟩
 obtain⟨B',hm,hF⟩:=WB fz hH
 have hargs:=Ca hF xs vs hc hvs.2
 have hH0:HRel B' ι (AB []) w:=⟨λi o ho=>by simp[AB,IP] at ho,λi j o o' ho=>by simp[AB,IP] at ho,λi o ho=>by simp[AB,IP] at ho,hm.heap.imm⟩
 refine Calls.mono (h.2 B' ι w vs ⟨by rw[hvs.1,<-ha,Pw],λj x y hx hy=>?_⟩ hH0) λe w' hh=>?_
 ·rw[<-ha] at hx hok
  exact VRel.keep (p:=λ_=>false) (λi hi=>by cases hi) _ _ (BBQ hok hx) (hargs j x y hx hy)
 ·obtain⟨v,H',rfl,_,B2,ι2,m,hr⟩:=hh
  have fr:∀b,b<w.heap.size->w'.heap[b]?=w.heap[b]?:=λb hb=>m.frame b hb λi o ho=>by simp[AB,IP] at ho
  have lt:∀{b:Nat} {x},w.heap[b]?=some x->b<w.heap.size:=λ{b x} hx=>by
   obtain⟨h1,_⟩:=Array.getElem?_eq_some_iff.1 hx;exact h1
  refine⟨v,AB L,rfl,hk,B,ι,⟨λ_ _ h=>h,λ_ _ h=>.inl h,λ_ h=>⟨h,rfl⟩,⟨λi o ho=>?_,hH.inj,hH.sep,λb c hb=>?_⟩,λi o ho=>.inl ⟨i,o,ho,rfl⟩,λb hb _=>fr b hb,m.size,m.calm⟩,BGR hv hr⟩
  ·have ho':=hH.obj i o ho
   have:(ι i).b<w.heap.size:=by
    cases hq:w.heap[(ι i).b]? with
    |none=>rw[hq] at ho';cases ho'
    |some x=>exact lt hq
   rw[fr _ this];exact ho'
  ·obtain⟨e,r,hq⟩:=hH.imm b c hb
   exact⟨e,r,by rw[fr _ (lt hq)];exact hq⟩
end Go.Sym
namespace Go.Sym
variable {P : Program}
def AOR(n:Nat)(get:Nat->DVal):List (Nat×AObj):=[(100,.box [.own 101 1 0 n]),(101,.row 1 n get)]
def CMC(n:Nat)(get:Nat->DVal):List (Nat×HCell):=[(100,.live (.box [.own 101 1 0 n])),(101,.live (.row 1 n get))]
theorem FnT.lendB{g:FuncId}{pre:List DVal}{n:Nat}{get g0:Nat->DVal}{val:AVal}(h:FnT P g (pre.map AVal.d ++ [.d (.list 1 1 g0 false)]) (AB []) val [])(hg:g0 0=.list 1 n get false)(hv:BNR val=true) :
  FnT P g (pre.map AVal.d ++ [.own 100 1 0 1]) (AB (AOR n get)) val (CMC n get):=by
 refine⟨h.1,λB ι w vs hvs hH=>?_⟩
 have h101:AB (AOR n get) 101=.live (.row 1 n get):=rfl
 have h100:AB (AOR n get) 100=.live (.box [.own 101 1 0 n]):=rfl
 obtain⟨c1,e1,hw1,hm1,hcap1,hsz1,hk1,hr1⟩:=Moved.freeze hH h101
 have hne:(ι 100).b≠(ι 101).b:=λhe=>by have:=hH.inj 100 101 _ _ h100 h101 he;omega
 have ho:=hH.obj 100 _ h100
 generalize hq:w.heap[(ι 100).b]?=q at ho
 cases ho with
 |box hsz hes=>
 rename_i c0 e0
 let B2:Fi:=λb=>if b=(ι 100).b then some c0 else if b=(ι 101).b then some c1 else B b
 have hB2:∀b c,B b=some c->B2 b=some c:=λb c hb=>by
  show (if b=(ι 100).b then some c0 else if b=(ι 101).b then some c1 else B b)=some c
  rw[if_neg (λhe=>by rw[he,hH.sep 100 _ h100] at hb;cases hb),if_neg (λhe=>by rw[he,hH.sep 101 _ h101] at hb;cases hb)]
  exact hb
 have b100:B2 (ι 100).b=some c0:=if_pos rfl
 have b101:B2 (ι 101).b=some c1:=by
  show (if (ι 101).b=(ι 100).b then some c0 else if (ι 101).b=(ι 101).b then some c1 else B (ι 101).b)=some c1
  rw[if_neg (λhe=>hne he.symm),if_pos rfl]
 have hH0:HRel B2 ι (AB []) w:=⟨λi o ho=>by simp[AB,IP] at ho,λi j o o' ho=>by simp[AB,IP] at ho,λi o ho=>by simp[AB,IP] at ho,λb c hb=>by
  have hb:(if b=(ι 100).b then some c0 else if b=(ι 101).b then some c1 else B b)=some c:=hb
  split at hb
  ·rename_i he;cases hb;rw[he];exact⟨e0,_,hq⟩
  ·split at hb
   ·rename_i he;cases hb;rw[he];exact⟨e1,_,hw1⟩
   ·exact hH.imm b c hb⟩
 have inner:∀y,VRel B ι (AB (AOR n get)).dom (.own 101 1 0 n) y->DRel B2 (.list 1 n get false) y:=λy hy=>by
  cases hy with
  |own hD hcap hqq=>
   by_cases h0:n=0
   ·subst h0;exact .nil (λh=>by cases h) (.inr (by simp))
   ·rw[show (0:Nat)*1=0 from rfl]
    refine .list (by omega) b101 hcap (λh=>by cases h) hk1 (by omega) λi j x y hi hx hy=>?_
    refine (hr1 i j x y hi hx ?_).mono hB2
    rw[show i*1+j=0+i*1+j by omega];exact hy
 have outer:∀y,VRel B ι (AB (AOR n get)).dom (.own 100 1 0 1) y->DRel B2 (.list 1 1 g0 false) y:=λy hy=>by
  cases hy with
  |own hD hcap hqq=>
   have ek:∀i,i<1->EOk 1 (g0 i):=λi hi=>by
    obtain rfl:i=0:=by omega
    rw[hg];exact⟨rfl,rfl⟩
   rw[show (0:Nat)*1=0 from rfl]
   refine .list (by omega) b100 hcap (λh=>by cases h) (λi hi=>ek i hi) (by rw[hsz];simp) λi j x y hi hx hy=>?_
   have:i=0:=by omega
   subst this
   rw[hg] at hx
   match j with
   |0=>cases hx;exact inner y (hes 0 _ y rfl hy)
   |j+1=>simp[DVal.cells1] at hx
 refine Calls.mono (h.2 B2 ι w vs ⟨by rw[hvs.1];simp,λj x y hx hy=>?_⟩ hH0) λe w' hh=>?_
 ·by_cases hj:j<pre.length
  ·have e1:(pre.map AVal.d ++ [AVal.own 100 1 0 1])[j]?=some x:=by
    rw[List.getElem?_append_left (by simp;exact hj)] at hx ⊢;exact hx
   have:=hvs.2 j x y e1 hy
   rw[List.getElem?_append_left (by simp;exact hj),List.getElem?_map] at hx
   cases hp:pre[j]? with
   |none=>rw[hp] at hx;cases hx
   |some d=>
    rw[hp] at hx
    cases hx
    cases this with
    |d hd=>exact .d (hd.mono hB2)
  ·rw[List.getElem?_append_right (by simp;omega)] at hx
   simp only[List.length_map] at hx
   cases hk:j-pre.length with
   |zero=>
    rw[hk] at hx;cases hx
    have e1:(pre.map AVal.d ++ [AVal.own 100 1 0 1])[j]?=some (AVal.own 100 1 0 1):=by
     rw[List.getElem?_append_right (by simp;omega)];simp[hk]
    exact .d (outer y (hvs.2 j _ y e1 hy))
   |succ k=>rw[hk] at hx;simp at hx
 ·obtain⟨v,H',rfl,_,B3,ι2,m,hr⟩:=hh
  have fr:∀b,b<w.heap.size->w'.heap[b]?=w.heap[b]?:=λb hb=>m.frame b hb λi o ho=>by simp[AB,IP] at ho
  have lt:∀{b:Nat} {x},w.heap[b]?=some x->b<w.heap.size:=λ{b x} hx=>by
   obtain⟨h1,_⟩:=Array.getElem?_eq_some_iff.1 hx;exact h1
  refine⟨v,AB (AOR n get),rfl,⟨rfl,rfl,trivial⟩,B,ι,⟨λ_ _ h=>h,λ_ _ h=>.inl h,λ_ h=>⟨h,rfl⟩,⟨λi o ho=>?_,hH.inj,hH.sep,λb c hb=>?_⟩,λi o ho=>.inl ⟨i,o,ho,rfl⟩,λb hb _=>fr b hb,m.size,m.calm⟩,BGR hv hr⟩
  ·have ho':=hH.obj i o ho
   have:(ι i).b<w.heap.size:=by
    cases hq:w.heap[(ι i).b]? with
    |none=>rw[hq] at ho';cases ho'
    |some x=>exact lt hq
   rw[fr _ this];exact ho'
  ·obtain⟨e,r,hq⟩:=hH.imm b c hb
   exact⟨e,r,by rw[fr _ (lt hq)];exact hq⟩
end Go.Sym
