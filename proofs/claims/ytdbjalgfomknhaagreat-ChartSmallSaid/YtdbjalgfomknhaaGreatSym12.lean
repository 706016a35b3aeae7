/- A condition in parts: what comes behind a cut may be reckoned apart. -/
import Derived.Test.YtdbjalgfomknhaaGreatSym11
set_option linter.unusedVariables false
set_option linter.unusedSimpArgs false
namespace Go.Sym
variable {P : Program} {B B' : Wx} {ι ι' : Nat -> Pl} {H H' : Heap} {w w' : World} {c : Ctx} {σ : AState} {Q : Exit -> AState -> Prop}
def hasS(k:Nat):Code->Bool
 | .seq x y=>Nat.beq (cB y) k||hasS k x||hasS k y
 | .cond _ t e=>hasS k t||hasS k e
 | .block _ x=>hasS k x
 | .scope x=>hasS k x
 | .loop x=>hasS k x
 |_=>false
def vcS(P:Program)(A:Ann)(S:Nat->Bool):Code->List Nat->(Exit->AState->Prop)->AState->Prop
 | .seq x y,gs,Q,σ=>match A.cutAt gs (cB y) with
  |some L=>bif S (cB y) then vcS P A S x gs (bW (λσ'=>Vo A.E (·.at1) σ' (λs a=>s.inv a) L) Q) σ
    else vcS P A S x gs (bW (λσ'=>Vo A.E (·.at1) σ' (λs a=>s.inv a) L) Q) σ/\allS (λs=>∀a,s.inv a->vcS P A S y (s.tag ++ gs) Q (s.T a).st) L
  |none=>vcS P A S x gs (bW (vcS P A S y gs Q) Q) σ
 | .cond x t e,gs,Q,σ=>match EP σ.sl x with
  | .d (.v (.bool v))=>bif v then vcS P A S t gs Q σ else vcS P A S e gs Q σ
  |_=>False
 | .block id x,gs,Q,σ=>vcS P A S x gs (AZH id Q) σ
 | .scope x,gs,Q,σ=>vcS P A S x gs (AXN Q) σ
 | .loop x,gs,Q,σ=>match A.loopAt gs (cB x) with
  |some L=>Vo A.E (·.at1) σ (λs a=>s.inv a) L /\
    allS (λs=>∀a,s.inv a->vcS P A S x (s.meas a :: (s.tag ++ gs)) (bW (λσ'=>Vo A.E (·.at2) σ' (λs' a'=>s'.inv a'/\s'.meas a'<s.meas a) L) Q) (s.T a).st) L
  |none=>False
 |x,gs,Q,σ=>vc P A x false gs Q σ
def gAnd:List (Bool×Prop)->Prop
 |[]=>True
 |(b,p) :: r=>bif b then (bif r.any (·.1) then p/\gAnd r else p) else gAnd r
theorem ZW:∀{l:List (Bool×Prop)},gAnd l->∀b p,(b,p)∈l->b=true->p
 |[],_,b,p,h,_=>by cases h
 |(b0,p0) :: r,h,b,p,hm,hb=>by
  unfold gAnd at h
  cases b0 with
  |false=>
   rcases List.mem_cons.1 hm with he | hm
   ·cases he;cases hb
   ·exact ZW h b p hm hb
  |true=>
   simp only[cond_true] at h
   cases hr:r.any (·.1) with
   |false=>
    rw[hr] at h
    rcases List.mem_cons.1 hm with he | hm
    ·cases he;exact h
    ·have:=List.any_eq_false.1 hr _ hm
     simp at this;rw[this] at hb;cases hb
   |true=>
    rw[hr] at h
    rcases List.mem_cons.1 hm with he | hm
    ·cases he;exact h.1
    ·exact ZW h.2 b p hm hb
def eqL:List Nat->List Nat->Bool
 |[],[]=>true
 |x :: xs,y :: ys=>Nat.beq x y&&eqL xs ys
 |_,_=>false
theorem BYN:∀{x y:List Nat},eqL x y=true->x=y
 |[],[],_=>rfl
 |x :: xs,y :: ys,h=>by
  simp only[eqL,Bool.and_eq_true] at h
  rw[Nat.eq_of_beq_eq_true h.1,BYN h.2]
 |[],_ :: _,h=>by simp[eqL] at h
 |_ :: _,[],h=>by simp[eqL] at h
def nubT:List (List Nat)->List (List Nat)
 |[]=>[]
 |t :: r=>bif r.any (eqL t) then nubT r else t :: nubT r
theorem AIX:∀{l:List (List Nat)} {t:List Nat},t∈l->t∈nubT l
 |u :: r,t,h=>by
  unfold nubT
  cases hr:r.any (eqL u) with
  |true=>
   rcases List.mem_cons.1 h with rfl | h
   ·obtain⟨v,hv,he⟩:=List.any_eq_true.1 hr
    rw[BYN he];exact AIX hv
   ·exact AIX h
  |false=>
   rcases List.mem_cons.1 h with rfl | h
   ·exact .head _
   ·exact .tail _ (AIX h)
def allG(K:List Nat->Prop):List (List Nat)->Prop
 |[]=>True
 |[t]=>K t
 |t :: l=>K t/\allG K l
theorem AOL{K:List Nat->Prop}:∀{l:List (List Nat)},allG K l->∀t∈l,K t
 |[],_,t,h=>by cases h
 |[u],h,t,ht=>by simp at ht;subst ht;exact h
 |u :: v :: l,h,t,ht=>by
  rcases List.mem_cons.1 ht with rfl | ht
  ·exact h.1
  ·exact AOL (l:=v :: l) h.2 t ht
theorem BVF{K:List Nat->Prop}:∀{l:List (List Nat)},(∀t∈l,K t)->allG K l
 |[],_=>trivial
 |[t],h=>h t (by simp)
 |t :: u :: l,h=>⟨h t (by simp),BVF (l:=u :: l) λv hv=>h v (List.mem_cons_of_mem _ hv)⟩
abbrev Leaf:=List Shape->Code->List Nat->(Exit->AState->Prop)->Prop
def NT(P:Program)(A:Ann)(S:Nat->Bool)(k:Nat)(F:Leaf):Code->List Nat->(Exit->AState->Prop)->Prop
 | .seq x y,gs,Q=>match A.cutAt gs (cB y) with
  |some L=>gAnd [(Nat.beq (cB y) k,F L y gs Q),(hasS k x,NT P A S k F x gs (bW (λσ'=>Vo A.E (·.at1) σ' (λs a=>s.inv a) L) Q)),
    (hasS k y,allG (λt=>NT P A S k F y (t ++ gs) Q) (nubT (L.map (·.tag))))]
  |none=>gAnd [(hasS k x,NT P A S k F x gs (bW (vcS P A S y gs Q) Q)),(hasS k y,NT P A S k F y gs Q)]
 | .cond _ t e,gs,Q=>gAnd [(hasS k t,NT P A S k F t gs Q),(hasS k e,NT P A S k F e gs Q)]
 | .block id x,gs,Q=>NT P A S k F x gs (AZH id Q)
 | .scope x,gs,Q=>NT P A S k F x gs (AXN Q)
 | .loop x,gs,Q=>match A.loopAt gs (cB x) with
  |some L=>allS (λs=>∀a,s.inv a->NT P A S k F x (s.meas a :: (s.tag ++ gs)) (bW (λσ'=>Vo A.E (·.at2) σ' (λs' a'=>s'.inv a'/\s'.meas a'<s.meas a) L) Q)) L
  |none=>True
 |_,_,_=>True
def stdF(P:Program)(A:Ann)(S:Nat->Bool):Leaf:=λL y gs Q=>allS (λs=>∀a,s.inv a->vcS P A S y (s.tag ++ gs) Q (s.T a).st) L
theorem BSJ{K:Shape->Prop}:∀{l:List Shape},(∀s∈l,K s)->allS K l
 |[],_=>trivial
 |[s],h=>h s (by simp)
 |s :: t :: l,h=>⟨h s (by simp),BSJ (l:=t :: l) λu hu=>h u (List.mem_cons_of_mem _ hu)⟩
theorem AWS:∀{l:List (Bool×Prop)},(∀b p,(b,p)∈l->b=true->p)->gAnd l
 |[],_=>trivial
 |(b,p) :: r,h=>by
  unfold gAnd
  have hr:=AWS (l:=r) λb p hm=>h b p (List.mem_cons_of_mem _ hm)
  cases b with
  |false=>exact hr
  |true=>
   have hp:=h true p (by simp) rfl
   simp only[cond_true]
   cases r.any (·.1) with
   |false=>exact hp
   |true=>exact⟨hp,hr⟩
theorem BVX{A:Ann}{S:Nat->Bool}{k:Nat}{I:Type}(F:I->Leaf)(G:Leaf)(hFG:∀L y gs Q,A.cutAt gs k=some L->(∀i,F i L y gs Q)->G L y gs Q):∀(x:Code) (gs:List Nat) (Q:Exit->AState->Prop),(∀i,NT P A S k (F i) x gs Q)->NT P A S k G x gs Q:=by
 intro x
 induction x with
 |seq x y ihx ihy=>
  intro gs Q h
  simp only[NT] at h ⊢
  split
  ·rename_i L hL
   simp only[hL] at h
   refine AWS λb p hm hb=>?_
   simp only[List.mem_cons,List.not_mem_nil,or_false,Prod.mk.injEq] at hm
   rcases hm with⟨h1,rfl⟩ | ⟨h1,rfl⟩ | ⟨h1,rfl⟩
   ·exact hFG _ _ _ _ (by subst h1;rw[<-Nat.eq_of_beq_eq_true hb];exact hL) λi=>ZW (h i) _ _ (.head _) (h1 ▸ hb)
   ·exact ihx _ _ λi=>ZW (h i) _ _ (.tail _ (.head _)) (h1 ▸ hb)
   ·refine BVF λt ht=>ihy _ _ λi=>AOL (ZW (h i) _ _ (.tail _ (.tail _ (.head _))) (h1 ▸ hb)) t ht
  ·rename_i hL
   simp only[hL] at h
   refine AWS λb p hm hb=>?_
   simp only[List.mem_cons,List.not_mem_nil,or_false,Prod.mk.injEq] at hm
   rcases hm with⟨h1,rfl⟩ | ⟨h1,rfl⟩
   ·exact ihx _ _ λi=>ZW (h i) _ _ (.head _) (h1 ▸ hb)
   ·exact ihy _ _ λi=>ZW (h i) _ _ (.tail _ (.head _)) (h1 ▸ hb)
 |cond c t e iht ihe=>
  intro gs Q h
  simp only[NT] at h ⊢
  refine AWS λb p hm hb=>?_
  simp only[List.mem_cons,List.not_mem_nil,or_false,Prod.mk.injEq] at hm
  rcases hm with⟨h1,rfl⟩ | ⟨h1,rfl⟩
  ·exact iht _ _ λi=>ZW (h i) _ _ (.head _) (h1 ▸ hb)
  ·exact ihe _ _ λi=>ZW (h i) _ _ (.tail _ (.head _)) (h1 ▸ hb)
 |block id x ih=>intro gs Q h;exact ih _ _ h
 |scope x ih=>intro gs Q h;exact ih _ _ h
 |loop x ih=>
  intro gs Q h
  simp only[NT] at h ⊢
  split
  ·rename_i L hL
   simp only[hL] at h
   exact BSJ λs hs a ha=>ih _ _ λi=>Yy (h i) s hs a ha
  ·trivial
 |_=>intro gs Q h;trivial
theorem BWW{A:Ann}{S:Nat->Bool}(hΓ:GOk P A.Γ)(hI:F1 P A)(hm:P.follows .mixedOrders=true):∀(code:Code) (gs:List Nat) (Q:Exit->AState->Prop) (σ:AState) (c:Ctx),c.n=A.n->(c.rd=none/\c.mks=true/\∀i,c.H0.dom i->i∈A.E) ->
  (∀k,S k=true->hasS k code=true->NT P A S k (stdF P A S) code gs Q)->vcS P A S code gs Q σ->CodeE P c code Q σ:=by
 intro code
 induction code with
 |seq x y ihx ihy=>
  intro gs Q σ c hn hc hl h
  simp only[vcS] at h
  have hE:=hc.2.2
  split at h
  ·rename_i L hL
   simp only[NT,hL] at hl
   have hlx:∀k,S k=true->hasS k x=true->NT P A S k (stdF P A S) x gs (bW (λσ'=>Vo A.E (·.at1) σ' (λs a=>s.inv a) L) Q):=λk h1 h2=>
    ZW (hl k h1 (by simp[hasS,h2])) _ _ (.tail _ (.head _)) h2
   have hly:∀s∈L,∀a,s.inv a->∀k,S k=true->hasS k y=true->NT P A S k (stdF P A S) y (s.tag ++ gs) Q:=λs hs a ha k h1 h2=>
    AOL (ZW (hl k h1 (by simp[hasS,h2])) _ _ (.tail _ (.tail _ (.head _))) h2) _ (AIX (List.mem_map.2 ⟨s,hs,rfl⟩))
   have h':vcS P A S x gs (bW (λσ'=>Vo A.E (·.at1) σ' (λs a=>s.inv a) L) Q) σ/\allS (λs=>∀a,s.inv a->vcS P A S y (s.tag ++ gs) Q (s.T a).st) L:=by
    cases hS:S (cB y) with
    |true=>
     rw[hS] at h
     exact⟨h,ZW (hl _ hS (by simp[hasS])) _ _ (.head _) (by simp)⟩
    |false=>rw[hS] at h;exact h
   obtain⟨h0,h3⟩:=h'
   refine .seq (CodeE.mono (ihx gs _ σ c hn hc hlx h0) λe σ' hq=>?_)
   cases e with
   |normal=>
    obtain⟨s,hs,a,h1,h2⟩:=Iy hq
    exact CodeE.subF hE h1 (ihy _ Q _ c hn hc (hly s hs a h2) (Yy h3 s hs a h2))
   |_=>exact hq
  ·rename_i hL
   simp only[NT,hL] at hl
   refine .seq (CodeE.mono (ihx gs _ σ c hn hc (λk h1 h2=>ZW (hl k h1 (by simp[hasS,h2])) _ _ (.head _) h2) h) λe σ' hq=>?_)
   cases e with
   |normal=>exact ihy gs Q σ' c hn hc (λk h1 h2=>ZW (hl k h1 (by simp[hasS,h2])) _ _ (.tail _ (.head _)) h2) hq
   |_=>exact hq
 |cond x t e iht ihe=>
  intro gs Q σ c hn hc hl h
  simp only[vcS] at h
  simp only[NT] at hl
  split at h
  ·rename_i v hb
   rw[BSA] at h
   exact .cond hb (λhb=>iht gs Q σ c hn hc (λk h1 h2=>ZW (hl k h1 (by simp[hasS,h2])) _ _ (.head _) h2) (h.1 hb))
    λhb=>ihe gs Q σ c hn hc (λk h1 h2=>ZW (hl k h1 (by simp[hasS,h2])) _ _ (.tail _ (.head _)) h2) (h.2 hb)
  ·exact h.elim
 |block id x ih=>intro gs Q σ c hn hc hl h;exact .block (ih gs _ σ c hn hc hl h)
 |scope x ih=>intro gs Q σ c hn hc hl h;exact .noGoto (ih gs _ σ c hn hc hl h)
 |loop x ih=>
  intro gs Q σ c hn hc hl h
  simp only[vcS] at h
  split at h
  ·rename_i L hL
   simp only[NT,hL] at hl
   have hE:=hc.2.2
   obtain⟨h0,h3⟩:=h
   obtain⟨s,hs,a,h1,h2⟩:=Iy h0
   refine .loop (λk σ=>∃l fz s a,s∈L/\QF (Sm A.E fz l (s.T a) σ)/\s.inv a/\s.meas a=k) (s.meas a) ⟨_,_,s,a,hs,h1,h2,rfl⟩ ?_
   rintro k σ' ⟨l,fz,s,a,hs,h4,h5,rfl⟩
   refine CodeE.subF hE h4 (CodeE.mono (ih _ _ _ c hn hc (λk h1 h2=>Yy (hl k h1 h2) s hs a h5) (Yy h3 s hs a h5)) λe σ'' hq=>?_)
   cases e with
   |normal=>obtain⟨s',q0,a',q1,q2,q3⟩:=Iy hq;exact⟨s'.meas a',q3,_,_,s',a',q0,q1,q2,rfl⟩
   |_=>exact hq
  ·exact h.elim
 |_=>intro gs Q σ c hn hc hl h;exact BMR hΓ hI hm _ false gs Q σ c hn (λ_=>hc) h
def endQ(P:Program)(A:Ann)(fn:Func)(val:AVal)(keep:List (Nat×HCell))(ren:List (Nat×Nat))(fz:List Nat):Exit->AState->Prop:=λe σ'=>match e with
  | .normal | .ret=>resC P fn σ' λv=>Sm A.E fz ren ⟨[(0,val)],keep⟩ ⟨λ_=>v,σ'.H⟩
  |_=>False
def BTC(P:Program)(A:Ann)(S:Nat->Bool)(fn:Func)(code:Code)(as:List AVal)(H:Heap)(val:AVal)(keep:List (Nat×HCell))(ren:List (Nat×Nat))(fz:List Nat):Prop:=
 vcS P A S code [] (endQ P A fn val keep ren fz) ⟨T2 as,H⟩
theorem FnT.of_vcS{A:Ann}{S:Nat->Bool}(hΓ:GOk P A.Γ)(hI:F1 P A)(hm:P.follows .mixedOrders=true){g:FuncId}{as:List AVal}{L:List (Nat×AObj)}{val:AVal}{keep:List (Nat×HCell)}{ren:List (Nat×Nat)}{fz:List Nat}{fn:Func}{code:Code}
  (hf : P.funcs[g]? = some fn) (hname : (fn.name == "runtime.NumGoroutine") = false) (hb : fn.body = some code) (hn : A.n = fn.ntmps /\ as.length <= fn.ntmps) (hE : A.E = L.map (·.1)) (hk : nodup (keep.map (·.1)) = true)
  (hl:∀k,S k=true->hasS k code=true->NT P A S k (stdF P A S) code [] (endQ P A fn val keep ren fz))
  (h:BTC P A S fn code as (AD L) val keep ren fz):FnT P g as (AD L) val keep:=by
 refine⟨ATW hf hname hb,λB ι w vs ha hH=>?_⟩
 refine AJP hf hb ?_
 have hE':∀i,(AD L).dom i->i∈A.E:=λi hi=>by
  rw[hE]
  unfold Heap.dom AD at hi
  cases hg:XH L i with
  |none=>exact absurd (by simp only[hg]) hi
  |some o=>exact List.mem_map.2 ⟨_,iL hg,rfl⟩
 have hc:=BWW hΓ hI hm code [] _ _ ⟨B,ι,AD L,w,fn.ntmps,none,true⟩ hn.1.symm ⟨rfl,rfl,hE'⟩ hl h B ι _ w (ATC ha hn.2 hH)
 refine Code.wpIn_mono (λe a w' hq=>?_) hc
 obtain⟨B',ι',σ',hr,hR⟩:=hq
 have fin:(resC P fn σ' λv=>Sm A.E fz ren ⟨[(0,val)],keep⟩ ⟨λ_=>v,σ'.H⟩)->LeavesInM Fence.wide 0 P fn a.tmps (λe w'=>∃v H',e=.returned v/\mN H' keep/\Ij B ι (AD L) w H' val v w') a.defers .returning w':=λhr=>by
  refine AVY hR (BEN hr) λw2 v val' m2 h2 h3=>?_
  obtain⟨B2,q1,q2,_⟩:=Moved.subF hE' h2 m2
  refine⟨v,uB keep,rfl,wN _ _ (Jf hk) (λ_ h=>h),B2,_,q1,?_⟩
  have:=q2 0 v h3
  simpa[ZF] using this
 cases e with
 |normal=>exact fin hr
 |ret=>exact fin hr
 |_=>exact hr.elim
attribute [irreducible] NT vcS BTC
end Go.Sym

namespace Go.Sym
variable {P : Program} {B B' : Wx} {ι ι' : Nat -> Pl} {H H' : Heap} {D : Nat -> Prop} {w w' : World}
def BZO:AVal->Bool
 | .d (.v _)=>true
 | .tup cs=>cs.all λc=>match c with
  | .d (.v _)=>true
  |_=>false
 |_=>false
theorem BYU{D':Nat->Prop}{x:Value}{y:Value}(h:VRel B ι D (.d (.v x)) y):VRel B' ι' D' (.d (.v x)) y:=by
 cases h with
 |d h=>cases h;exact .d (.v _)
theorem CET{D':Nat->Prop}{a:AVal}{y:Value}(hf:BZO a=true)(h:VRel B ι D a y):VRel B' ι' D' a y:=by
 unfold BZO at hf
 split at hf
 ·exact BYU h
 ·rename_i cs
  cases h with
  |tup hl hh=>
   refine .tup hl λj x y hx hy=>?_
   have:=List.all_eq_true.1 hf x (List.mem_of_getElem? hx)
   split at this
   ·exact BYU (hh j _ y hx hy)
   ·cases this
 ·cases hf
theorem FnT.lend{g:FuncId}{as xs:List AVal}{L:List (Nat×AObj)}{val:AVal}{fz:List Nat}(h:FnT P g as (AD []) val [])(hv:BZO val=true)
  (ha:frL (Gj (AD L) fz) xs=as) (hok:okL (λ_=>false) as=true) (hc:JS (frCL (Gj (AD L) fz) xs)) (keep:List (Nat×HCell)) (hk:mN (AD L) keep):FnT P g xs (AD L) val keep:=by
 refine⟨h.1,λB ι w vs hvs hH=>?_⟩
 obtain⟨B',hm,hF⟩:=Ml fz hH
 have hargs:=Tl hF xs vs hc hvs.2
 have hH0:HRel B' ι (AD []) w:=⟨λi o ho=>by simp[AD,XH] at ho,λi j o o' ho=>by simp[AD,XH] at ho,λi o ho=>by simp[AD,XH] at ho,hm.heap.imm⟩
 refine Calls.mono (h.2 B' ι w vs ⟨by rw[hvs.1,<-ha,hC],λj x y hx hy=>?_⟩ hH0) λe w' hh=>?_
 ·rw[<-ha] at hx hok
  exact VRel.keep (p:=λ_=>false) (λi hi=>by cases hi) _ _ (BHN hok hx) (hargs j x y hx hy)
 ·obtain⟨v,H',rfl,_,B2,ι2,m,hr⟩:=hh
  have fr:∀b,b<w.heap.size->w'.heap[b]?=w.heap[b]?:=λb hb=>m.frame b hb λi o ho=>by simp[AD,XH] at ho
  have lt:∀{b:Nat} {x},w.heap[b]?=some x->b<w.heap.size:=λ{b x} hx=>by
   obtain⟨h1,_⟩:=Array.getElem?_eq_some_iff.1 hx;exact h1
  refine⟨v,AD L,rfl,hk,B,ι,⟨λ_ _ h=>h,λ_ _ h=>.inl h,λ_ h=>⟨h,rfl⟩,⟨λi o ho=>?_,hH.inj,hH.sep,λb c hb=>?_⟩,λi o ho=>.inl ⟨i,o,ho,rfl⟩,λb hb _=>fr b hb,m.size,m.calm⟩,CET hv hr⟩
  ·have ho':=hH.obj i o ho
   have:(ι i).b<w.heap.size:=by
    cases hq:w.heap[(ι i).b]? with
    |none=>rw[hq] at ho';cases ho'
    |some x=>exact lt hq
   rw[fr _ this];exact ho'
  ·obtain⟨e,r,hq⟩:=hH.imm b c hb
   exact⟨e,r,by rw[fr _ (lt hq)];exact hq⟩
end Go.Sym

namespace Go.Sym
variable {P : Program}
end Go.Sym
