/- Guards: what stands under a guard looks only at what stands under the same. -/
import Derived.Test.YtlblbbidigejkaaGreatSym9
set_option linter.unusedVariables false
set_option linter.unusedSimpArgs false
namespace Go.Sym
theorem SS{a b:List Prop}:BG (a ++ b)↔BG a/\BG b:=by
 induction a with
 |nil=>simp[BG]
 |cons p a ih=>rw[List.cons_append,HK,HK,ih,and_assoc]
variable {P : Program} {B B' : Ft} {ι ι' : Nat -> Pl} {H H' : Heap} {D : Nat -> Prop} {w w' : World}
def BFI(o:Oper)(t:Nat):Bool:=match o.dst with
 |some d=>Nat.beq d t
 |none=>false
theorem BNP{o:Oper}{t:Nat}(h:BFI o t=true):o.dst=some t:=by
 unfold BFI at h
 split at h
 ·rename_i d hd;rw[hd,Nat.eq_of_beq_eq_true h]
 ·cases h
def Cw:List Oper->Bool
 |[]=>true
 |o :: l=>(match o.dst with
  |some d=>l.all λo'=>!BFI o' d
  |none=>true)&&Cw l
theorem zG{l:List Oper}(h:Cw l=true){i k:Nat}{o o':Oper}{t:Nat}(hik:i<k)(ho:l[i]?=some o)(ho':l[k]?=some o')(ht:o.dst=some t):o'.dst≠some t:=by
 induction l generalizing i k with
 |nil=>simp at ho
 |cons a l ih=>
  simp only[Cw,Bool.and_eq_true] at h
  cases k with
  |zero=>omega
  |succ k=>
   rw[List.getElem?_cons_succ] at ho'
   cases i with
   |zero=>
    rw[List.getElem?_cons_zero] at ho
    cases ho
    have h1:=h.1
    rw[ht] at h1
    simp only[List.all_eq_true] at h1
    have:=h1 o' (List.mem_of_getElem? ho')
    intro he
    simp[BFI,he] at this
   |succ i=>exact ih h.2 (i:=i) (k:=k) (by omega) (by rw[List.getElem?_cons_succ] at ho;exact ho) ho'
def lowL:List Oper->Nat->Bool
 |[],_=>true
 |o :: l,k=>(match o.guard with
  |some q=>Nat.blt q.1 k
  |none=>true)&&lowL l (k+1)
theorem lR:∀{l:List Oper} {k:Nat},lowL l k=true->∀{i:Nat} {o:Oper} {q:Nat×Bool},l[i]?=some o->o.guard=some q->q.1<k+i
 |[],_,_,i,o,q,h,_=>by simp at h
 |a :: l,k,h,0,o,q,ho,hq=>by
  simp only[lowL,Bool.and_eq_true] at h
  simp at ho;subst ho
  have h1:=h.1
  rw[hq] at h1
  simpa using h1
 |a :: l,k,h,i+1,o,q,ho,hq=>by
  simp only[lowL,Bool.and_eq_true] at h
  have:=lR h.2 (i:=i) (by simpa using ho) hq
  omega
def wg:List Oper->Nat->Nat->Option (Nat×Bool)
 |[],_,_=>none
 |_ :: _,0,_=>none
 |o :: l,k+1,t=>if BFI o t then o.guard else wg l k t
theorem BQX:∀{l:List Oper} {k t:Nat} {q:Nat×Bool},wg l k t=some q->∃i o,i<k/\l[i]?=some o/\o.dst=some t/\o.guard=some q
 |[],k,t,q,h=>by simp[wg] at h
 |o :: l,0,t,q,h=>by simp[wg] at h
 |o :: l,k+1,t,q,h=>by
  simp only[wg] at h
  split at h
  ·rename_i hd;exact⟨0,o,by omega,rfl,BNP hd,h⟩
  ·obtain⟨i,o',h1,h2,h3⟩:=BQX h
   exact⟨i+1,o',by omega,by simpa using h2,h3⟩
def gcov(ops:Array Oper):Nat->Nat×Bool->Nat×Bool->Bool
 |0,_,_=>false
 |f+1,q,q'=>(Nat.beq q.1 q'.1&&(q.2==q'.2))||match (ops[q.1]?).bind (·.guard) with
  |some q2=>gcov ops f q2 q'
  |none=>false
def GInv(ops:Array Oper)(sl:Nat->AVal)(k:Nat):Prop:=
 ∀i o t q,i<k->ops[i]?=some o->o.dst=some t->o.guard=some q->∃g v,sl t=.opt g v/\DF ops sl q.1 q.2=some g
theorem BKU{ops:Array Oper}{sl:Nat->AVal}{j:Nat}{want g gd:Bool}{t:Nat}{v:AVal}(ht:(ops[j]?).bind (·.dst)=some t)(hs:sl t=.opt gd v)(h:DF ops sl j want=some g)(hg:g=true):gd=true:=by
 unfold DF at h
 rw[ht] at h
 simp only[hs] at h
 split at h<;>simp_all
theorem BQB{ops:Array Oper}{sl:Nat->AVal}{j:Nat}{want g:Bool}(h:DF ops sl j want=some g):∃o t,ops[j]?=some o/\o.dst=some t:=by
 unfold DF at h
 split at h
 ·rename_i t ht
  cases hj:ops[j]? with
  |none=>rw[hj] at ht;cases ht
  |some o=>rw[hj] at ht;exact⟨o,t,rfl,ht⟩
 ·cases h
theorem AWL{ops:Array Oper}{sl:Nat->AVal}{k:Nat}(hI:GInv ops sl k)(hl:lowL ops.toList 0=true):∀(f:Nat) (q q':Nat×Bool) (g g':Bool),gcov ops f q q'=true->q.1<k->DF ops sl q.1 q.2=some g->g=true->DF ops sl q'.1 q'.2=some g'->g'=true
 |0,_,_,_,_,h,_,_,_,_=>by simp[gcov] at h
 |f+1,q,q',g,g',h,hq,h1,hg,h2=>by
  simp only[gcov,Bool.or_eq_true,Bool.and_eq_true,LC,beq_iff_eq] at h
  rcases h with⟨e1,e2⟩ | h
  ·rw[<-e1,<-e2,h1] at h2;cases h2;exact hg
  ·split at h
   ·rename_i q2 hq2
    obtain⟨o,t,ho,ht⟩:=BQB h1
    have hgq:o.guard=some q2:=by rw[ho] at hq2;exact hq2
    obtain⟨gd,v,hs,hgd⟩:=hI q.1 o t q2 hq ho ht hgq
    have:=BKU (by rw[ho];exact ht) hs h1 hg
    have hlow:=lR hl (i:=q.1) (by simpa using ho) hgq
    exact AWL hI hl f q2 q' gd g' h (by omega) hgd this h2
   ·cases h
def tagW(cv:Nat×Bool->Bool)(ops:Array Oper)(k:Nat)(c:Prop)(x:Operand)(a:AVal):List Prop:=match a with
 | .opt g _=>match x with
  | .tmp t=>match wg ops.toList k t with
   |some q=>if cv q then [] else [c->g=true]
   |none=>[c->g=true]
  |_=>[c->g=true]
 |_=>[]
theorem Q4{cv:Nat×Bool->Bool}{ops:Array Oper}{sl:Nat->AVal}{k:Nat}{c:Prop}{x:Operand}(hI:GInv ops sl k)(hcv:∀q g,cv q=true->DF ops sl q.1 q.2=some g->c->g=true)(h:BG (tagW cv ops k c x (AX sl x))):BG (Pe c (AX sl x)):=by
 generalize ha:AX sl x=a at h
 cases a with
 |opt g v=>
  simp only[tagW] at h
  split at h
  ·rename_i t
   split at h
   ·rename_i q hq
    split at h
    ·rename_i hc
     obtain⟨i,o,h1,h2,h3,h4⟩:=BQX hq
     obtain⟨g',v',h5,h6⟩:=hI i o t q h1 (by simpa using h2) h3 h4
     have:sl t=.opt g v:=ha
     rw[h5] at this;cases this
     exact λc=>hcv q _ hc h6 c
    ·exact h
   ·exact h
  ·exact h
 |_=>trivial
def cvOwn(ops:Array Oper)(k:Nat)(gd:Option (Nat×Bool))(q:Nat×Bool):Bool:=match gd with
 |some g=>gcov ops (k+1) g q
 |none=>false
def AYU(ops:Array Oper)(k:Nat)(gd:Option (Nat×Bool))(c:Operand)(want:Bool)(q:Nat×Bool):Bool:=
 (match c,(ops[q.1]?).bind (·.dst) with
  | .tmp tc,some t=>Nat.beq t tc&&(q.2==want)
  |_,_=>false)||cvOwn ops k gd q
def BRE(ops:Array Oper)(k:Nat)(sl:Nat->AVal)(o:Oper):List Prop:=match o.op,o.guard with
 | .pick c a b,gd=>match BX (AX sl c) with
  | .d (.v (.bool t))=>tagW (cvOwn ops k gd) ops k True c (AX sl c) ++ (tagW (AYU ops k gd c true) ops k (t=true) a (AX sl a) ++ tagW (AYU ops k gd c false) ops k (t=false) b (AX sl b))
  |_=>[]
 |_,none=>[]
 |op,some q=>op.operands.toList.flatMap λx=>tagW (cvOwn ops k (some q)) ops k True x (AX sl x)
def lV(sl:Nat->AVal)(o:Oper):List Prop:=match o.op,o.guard with
 | .pick c a b,_=>match BX (AX sl c) with
  | .d (.v (.bool t))=>Pe True (AX sl c) ++ (Pe (t=true) (AX sl a) ++ Pe (t=false) (AX sl b))
  |_=>[]
 |_,none=>[]
 |op,some _=>XQ (AX sl) op.operands.toList
theorem ALA{ops:Array Oper}{sl:Nat->AVal}{k:Nat}{gd:Option (Nat×Bool)}{c:Operand}{want t:Bool}(hO:∀q g,cvOwn ops k gd q=true->DF ops sl q.1 q.2=some g->g=true)(hc:BX (AX sl c)=.d (.v (.bool t)))(ht:BG (Pe True (AX sl c)))(q:Nat×Bool)(g:Bool)
  (h:AYU ops k gd c want q=true) (hg:DF ops sl q.1 q.2=some g) (hw:t=want):g=true:=by
 simp only[AYU,Bool.or_eq_true] at h
 rcases h with h | h
 ·split at h
  ·rename_i tc t' hd
   simp only[Bool.and_eq_true,LC,beq_iff_eq] at h
   obtain⟨rfl,h2⟩:=h
   unfold DF at hg
   rw[hd] at hg
   simp only[AX] at hc ht
   subst hw
   rw[h2] at hg
   obtain⟨v,hv⟩:∃v,sl t'=v:=⟨_,rfl⟩
   simp only[hv] at hc ht hg
   cases v with
   |opt gc v'=>
    have:gc=true:=ht trivial
    subst this
    simp only[BX] at hc;subst hc
    cases t<;>simp at hg<;>exact hg
   |d x=>simp only[BX] at hc;cases hc;cases t<;>simp at hg<;>exact hg
   |_=>simp only[BX] at hc;cases hc
  ·cases h
 ·exact hO q g h hg
theorem BQC{ops:Array Oper}{sl:Nat->AVal}{k:Nat}{o:Oper}(hI:GInv ops sl k)(hl:lowL ops.toList 0=true)(ho:ops[k]?=some o)(hgd:∀q,o.guard=some q->DF ops sl q.1 q.2=some true)(h:BG (BRE ops k sl o)):BG (lV sl o):=by
 have hO:∀q g,cvOwn ops k o.guard q=true->DF ops sl q.1 q.2=some g->g=true:=λq g hc hg=>by
  unfold cvOwn at hc
  split at hc
  ·rename_i q0 hq0
   have:=lR hl (i:=k) (by simpa using ho) hq0
   exact AWL hI hl _ q0 q true g hc (by omega) (hgd q0 hq0) rfl hg
  ·cases hc
 unfold BRE at h
 unfold lV
 split at h
 ·rename_i c a b ho'
  split at h
  ·rename_i t hc
   obtain⟨h1,h2⟩:=BE h
   obtain⟨h2,h3⟩:=BE h2
   have t1:=Q4 hI (λq g a b _=>hO q g a b) h1
   exact SS.2 ⟨t1,SS.2 ⟨Q4 hI (λq g a b c=>ALA hO hc t1 q g a b c) h2,Q4 hI (λq g a b c=>ALA hO hc t1 q g a b c) h3⟩⟩
  ·trivial
 ·trivial
 ·rename_i q hgn hq
  rw[hgn] at hO
  generalize o.op.operands.toList=l at h
  induction l with
  |nil=>trivial
  |cons x l ih=>
   rw[List.flatMap_cons] at h
   obtain⟨h1,h2⟩:=BE h
   show BG (Pe True (AX sl x) ++ XQ (AX sl) l)
   exact SS.2 ⟨Q4 hI (λq g a b _=>hO q g a b) h1,ih h2⟩
theorem GInv.next{ops:Array Oper}{sl:Nat->AVal}{k:Nat}{o:Oper}{v:AVal}(hI:GInv ops sl k)(hl:lowL ops.toList 0=true)(hd:Cw ops.toList=true)(ho:ops[k]?=some o)(hv:∀q,o.guard=some q->∃g v',v=.opt g v'/\DF ops sl q.1 q.2=some g)(sl':Nat->AVal)
  (hsl:∀t,sl' t=if o.dst=some t then v else sl t):GInv ops sl' (k+1):=by
 have hk:∀j want,j<k->DF ops sl' j want=DF ops sl j want:=λj want hj=>by
  unfold DF
  cases hjo:ops[j]? with
  |none=>rfl
  |some oj=>
   simp only[Option.bind_some]
   cases hdj:oj.dst with
   |none=>rfl
   |some t=>
    simp only
    rw[hsl t,if_neg (zG hd hj (by simpa using hjo) (by simpa using ho) hdj)]
 intro i o' t q hi ho' ht hq
 have hlow:=lR hl (i:=i) (by simpa using ho') hq
 rcases Nat.lt_or_ge i k with hik | hik
 ·obtain⟨g,v',h1,h2⟩:=hI i o' t q hik ho' ht hq
  refine⟨g,v',?_,by rw[hk _ _ (by omega)];exact h2⟩
  rw[hsl t,if_neg (zG hd hik (by simpa using ho') (by simpa using ho) ht)]
  exact h1
 ·have:i=k:=by omega
  subst this
  rw[ho] at ho';cases ho'
  obtain⟨g,v',h1,h2⟩:=hv q hq
  exact⟨g,v',by rw[hsl t,if_pos ht];exact h1,by rw[hk _ _ (by omega)];exact h2⟩
end Go.Sym
namespace Go.Sym
variable {P : Program} {B B' : Ft} {ι ι' : Nat -> Pl} {H H' : Heap} {D : Nat -> Prop} {w w' : World} {c : Ctx} {σ : AState} {Q : Exit -> AState -> Prop}
structure CallR where
 ids:List Nat
 val:AVal
 upd:List (Nat×HCell)
 pre:List Prop
abbrev Spec:=List AVal->Heap->Nat->Option CallR
def AH(P:Program)(g:FuncId)(s:Spec):Prop:=∀as H r x,s as H r=some x->BG x.pre->AWA P g as r (x.ids.map λi=>(i,H i)) x.val x.upd
def isNone:HCell->Bool
 | .none=>true
 |_=>false
theorem Xy{c:HCell}(h:isNone c=true):c=.none:=by cases c<;>first | rfl | cases h
def Xo(H:Heap)(r:Nat):Bool:=(List.range 16).all λi=>isNone (H (r+i))
theorem Ls{r:Nat}(h:Xo H r=true):∀i,r<=i->i<r+16->H i=.none:=λi h1 h2=>by
 simp only[Xo,List.all_eq_true,List.mem_range] at h
 have:=Xy (h (i-r) (by omega))
 rwa [show r+(i-r)=i by omega] at this
def AOK(n:Nat)(o:Oper):Bool:=match o.dst with
 |some d=>Nat.blt d n
 |none=>true
theorem Sb{n:Nat}{o:Oper}(h:AOK n o=true):∀d,o.dst=some d->d<n:=by
 intro d hd
 simpa[AOK,hd] using h
structure Stp where
 val:AVal
 upd:List (Nat×HCell)
 touch:List Nat
 pre:List Prop
def ATW(Γ:FuncId->Option Spec)(r:Nat)(f:AVal)(args:List AVal)(H:Heap):Option CallR:=match f with
 | .fn (.func g) first caps=>match Γ g with
  |some s=>s (first ++ args ++ caps) H r
  |none=>none
 |_=>none
def gopB(P:Program)(r:Nat)(ρ:Operand->AVal)(H:Heap)(g:Bool)(op:Op):Option (AVal×List Prop):=match op with
 | .pick c a b=>match BX (ρ c) with
  | .d (.v (.bool t))=>some (ANK t (BX (ρ a)) (BX (ρ b)),[])
  |_=>none
 | .buildSlice t len ps=>match VZ P r t len (ps.toList.map λp=>(p.1,BX (ρ p.2))) with
  |some ⟨_,[(_,.live (.row k n get))],_⟩=>some (.d (.list k n get true),[])
  |_=>none
 | .makeSlice t l c=>match Gl P r t (BX (ρ l)) (BX (ρ c)) with
  |some ⟨_,[(_,.live (.row k n get))],p⟩=>some (.d (.list k n get true),cU g p)
  |_=>none
 |op=>match opA P false r (λx=>BX (ρ x)) H op with
  |some ⟨v,[],p⟩=>some (v,cU g p)
  |_=>none
def CTV(P:Program)(Γ:FuncId->Option Spec)(mt:Bool)(r:Nat)(σ:AState):Op->Option Stp
 | .call ⟨.value f,args,_⟩=>match ATW Γ r (AX σ.sl f) (args.toList.map (AX σ.sl)) σ.H with
  |some x=>if Xo σ.H r then some ⟨x.val,x.upd,x.ids ++ (List.range 16).map (r + ·),x.pre⟩ else none
  |none=>none
 | .call ⟨.invoke x m,args,_⟩=>match AX σ.sl x with
  | .d (.iface t d)=>match AMW P t m with
   |some g=>match ATW Γ r (.fn (.func g) [.d d] []) (args.toList.map (AX σ.sl)) σ.H with
    |some x=>if Xo σ.H r then some ⟨x.val,x.upd,x.ids ++ (List.range 16).map (r + ·),x.pre⟩ else none
    |none=>none
   |none=>none
  |_=>none
 | .pick c a b=>match AX σ.sl c with
  | .d (.v (.bool t))=>if isNone (σ.H r) then some ⟨ANK t (BX (AX σ.sl a)) (BX (AX σ.sl b)),[],r :: We (AX σ.sl) (.pick c a b),[]⟩ else none
  |_=>none
 |op=>match opA P mt r (AX σ.sl) σ.H op with
  |some e=>if isNone (σ.H r) then some ⟨e.val,e.upd,r :: We (AX σ.sl) op,e.pre⟩ else none
  |none=>none
def stepG(P:Program)(Γ:FuncId->Option Spec)(r:Nat)(σ:AState)(g:Bool):Op->Option (AVal×List Nat×List Prop)
 | .call ⟨.value f,args,_⟩=>match ATW Γ r (BX (AX σ.sl f)) (args.toList.map λx=>BX (AX σ.sl x)) σ.H with
  |some ⟨ids,v,[],p⟩=>if Xo σ.H r then some (v,ids ++ (List.range 16).map (r + ·),cU g p) else none
  |_=>none
 |op=>match gopB P r (AX σ.sl) σ.H g op with
  |some (v,p)=>if isNone (σ.H r) then some (v,r :: We (λx=>BX (AX σ.sl x)) op,p) else none
  |none=>none
def AKW(P:Program)(Γ:FuncId->Option Spec)(mt:Bool)(ops:Array Oper)(r:Nat)(σ:AState)(o:Oper):Option Stp:=match o.guard with
 |none=>CTV P Γ mt r σ o.op
 |some (j,want)=>match DF ops σ.sl j want with
  |some g=>match stepG P Γ r σ g o.op with
   |some (v,touch,p)=>some ⟨.opt g v,[],touch,p⟩
   |none=>none
  |none=>none
theorem dZ{g:Bool}{l:List Prop}(h:g=true->BG l):BG (cU g l):=by
 cases l with
 |nil=>trivial
 |cons=>exact h
theorem zI{op:Op}(h:∀c a b,op=.pick c a b->False)(sl:Nat->AVal)(o:Oper)(ho:o.op=op)(q:Nat×Bool)(hq:o.guard=some q):lV sl o=XQ (AX sl) op.operands.toList:=by
 unfold lV
 rw[ho,hq]
 cases op<;>first | rfl | exact (h _ _ _ rfl).elim
def GOk(P:Program)(Γ:FuncId->Option Spec):Prop:=∀g s,Γ g=some s->AH P g s
theorem bZ{Γ:FuncId->Option Spec}(hΓ:GOk P Γ){r:Nat}{f:AVal}{args:List AVal}{x:CallR}(h:ATW Γ r f args H=some x):∃g first caps,f=.fn (.func g) first caps/\(BG x.pre->AWA P g (first ++ args ++ caps) r (x.ids.map λi=>(i,H i)) x.val x.upd):=by
 unfold ATW at h
 split at h
 ·rename_i g first caps
  split at h
  ·rename_i s hs
   exact⟨g,first,caps,rfl,hΓ g s hs _ _ _ _ h⟩
  ·cases h
 ·cases h
theorem Zi(l:List Nat)(H:Heap):∀p∈l.map (λi=>(i,H i)),H p.1=p.2:=λp hp=>by
 obtain⟨i,_,rfl⟩:=List.mem_map.1 hp;rfl
theorem BWD{r:Nat}{sl:Nat->AVal}{g:Bool}{o:Oper}{q:Nat×Bool}{v:AVal}{p:List Prop}(h:gopB P r (AX sl) H g o.op=some (v,p))(hq:o.guard=some q)(hp:BG p)(ht:g=true->BG (lV sl o)):∃p',gopA P r (AX sl) H g o.op=some (v,p')/\BG p':=by
 unfold gopB at h
 split at h
 ·rename_i c a b ho
  split at h
  ·rename_i t hc
   cases h
   refine⟨cU g (Pe True (AX sl c) ++ (Pe (t=true) (AX sl a) ++ Pe (t=false) (AX sl b))),by rw[ho];simp only[gopA,hc],dZ λhg=>?_⟩
   have:=ht hg
   unfold lV at this
   rw[ho,hq] at this
   simp only[hc] at this
   exact this
  ·cases h
 ·rename_i t len ps ho
  split at h
  ·rename_i hb
   cases h
   refine⟨cU g (XQ (AX sl) (Op.buildSlice t len ps).operands.toList),by rw[ho];simp only[gopA,hb],dZ λhg=>?_⟩
   have:=ht hg
   rw[zI (λ_ _ _ h=>by cases h) sl o ho _ hq] at this
   exact this
  ·cases h
 ·rename_i t l c ho
  split at h
  ·rename_i v0 r0 k n get p0 hb
   cases h
   refine⟨cU g (Pe True (AX sl l) ++ (Pe True (AX sl c) ++ p0)),by rw[ho];simp only[gopA,hb],dZ λhg=>?_⟩
   have:=ht hg
   rw[zI (λ_ _ _ h=>by cases h) sl o ho _ hq] at this
   exact SS.2 ⟨Js this l (by simp[Op.operands]),SS.2 ⟨Js this c (by simp[Op.operands]),Ak hp hg⟩⟩
  ·cases h
 ·rename_i h1 h2 h3
  split at h
  ·rename_i e1 e2 ho
   cases h
   refine⟨cU g (XQ (AX sl) o.op.operands.toList ++ e2),?_,dZ λhg=>?_⟩
   ·unfold gopA
    split
    ·rename_i c a b hop;exact (h1 c a b hop).elim
    ·rename_i t len ps hop;exact (h2 t len ps hop).elim
    ·rename_i t l c hop;exact (h3 t l c hop).elim
    ·rw[ho]
   ·have:=ht hg
    rw[zI (λc a b h=>h1 c a b h) sl o rfl _ hq] at this
    exact SS.2 ⟨this,Ak hp hg⟩
  ·cases h
theorem ALN{Γ:FuncId->Option Spec}{mt:Bool}{ops:Array Oper}{r:Nat}{o:Oper}{s:Stp}(h:AKW P Γ mt ops r σ o=some s)(q:Nat×Bool)(hq:o.guard=some q):∃g v,s.val=.opt g v/\DF ops σ.sl q.1 q.2=some g:=by
 unfold AKW at h
 rw[hq] at h
 simp only at h
 split at h
 ·rename_i g hg
  split at h
  ·cases h;exact⟨g,_,rfl,hg⟩
  ·cases h
 ·cases h
theorem dK{Γ:FuncId->Option Spec}(hΓ:GOk P Γ){mt:Bool}{ops:Array Oper}{r:Nat}{o:Oper}{s:Stp}(h:AKW P Γ mt ops r σ o=some s)(hp:BG s.pre)(ht:(∀q,o.guard=some q->DF ops σ.sl q.1 q.2=some true)->BG (lV σ.sl o)):StepO P mt ops r σ o s.val s.upd s.touch:=by
 have mp:∀(l:List Nat),(l.map λi=>(i,σ.H i)).map (·.1)=l:=λl=>by
  induction l with
  |nil=>rfl
  |cons a l ih=>simp only[List.map_cons,ih]
 have ht':∀{j want g},o.guard=some (j,want)->DF ops σ.sl j want=some g->g=true->BG (lV σ.sl o):=λhg hw hgt=>ht λq hq=>by
  rw[hg] at hq;cases hq;rw[hw,hgt]
 unfold AKW at h
 split at h
 ·rename_i hg
  unfold CTV at h
  split at h
  ·rename_i f args ats ho
   split at h
   ·rename_i x hx
    split at h
    ·rename_i hf
     cases h
     obtain⟨g,first,caps,he,hc⟩:=bZ hΓ hx
     have:=StepO.call (mt:=mt) (ops:=ops) hg ho he (hc hp) (Zi _ _) (Ls hf)
     rw[mp] at this;exact this
    ·cases h
   ·cases h
  ·rename_i y m args ats ho
   split at h
   ·rename_i t d hy
    split at h
    ·rename_i g0 hm
     split at h
     ·rename_i x hx
      split at h
      ·rename_i hf
       cases h
       obtain⟨g,first,caps,he,hc⟩:=bZ hΓ hx
       cases he
       have hc':=hc hp
       simp only[List.cons_append,List.nil_append,List.append_nil] at hc'
       have:=StepO.inv (mt:=mt) (ops:=ops) hg ho hy hm hc' (Zi _ _) (Ls hf)
       rw[mp] at this;exact this
      ·cases h
     ·cases h
    ·cases h
   ·cases h
  ·rename_i c a b ho
   split at h
   ·rename_i t hc
    split at h
    ·rename_i hf
     cases h
     have h0:=ht λq hq=>by rw[hg] at hq;cases hq
     have h1:BG (Pe (t=true) (AX σ.sl a) ++ Pe (t=false) (AX σ.sl b)):=by
      unfold lV at h0
      rw[ho,hg] at h0
      simp only[hc,BX,Pe,List.nil_append] at h0
      exact h0
     have:=StepO.op (P:=P) (mt:=mt) (ops:=ops) (r:=r) (σ:=σ) (o:=o) (e:=⟨ANK t (BX (AX σ.sl a)) (BX (AX σ.sl b)),[],Pe (t=true) (AX σ.sl a) ++ Pe (t=false) (AX σ.sl b)⟩) hg (by rw[ho];simp only[opA,hc]) h1 (Xy hf)
     rw[ho] at this;exact this
    ·cases h
   ·cases h
  ·split at h
   ·rename_i e he
    split at h
    ·rename_i hf
     cases h
     exact .op hg he hp (Xy hf)
    ·cases h
   ·cases h
 ·rename_i j want hg
  split at h
  ·rename_i g hw
   split at h
   ·rename_i v touch p hst
    cases h
    unfold stepG at hst
    split at hst
    ·rename_i f args ats ho
     split at hst
     ·rename_i ids v p hx
      split at hst
      ·rename_i hf
       cases hst
       obtain⟨g',first,caps,he,hc⟩:=bZ hΓ hx
       have:=StepO.gcall (mt:=mt) (ops:=ops) (r:=r) hg hw ho he (λh=>by
        have:=ht' hg hw h
        rw[zI (λ_ _ _ h=>by cases h) σ.sl o ho _ hg] at this
        rw[ho];exact this) (λh=>hc (Ak hp h)) (Zi _ _) (Ls hf)
       rw[mp] at this;exact this
      ·cases hst
     ·cases hst
    ·split at hst
     ·rename_i v p he
      split at hst
      ·rename_i hf
       cases hst
       obtain⟨p',h1,h2⟩:=BWD (sl:=σ.sl) (o:=o) he hg hp (ht' hg hw)
       exact .gop hg hw h1 h2 (Xy hf)
      ·cases hst
     ·cases hst
   ·cases h
  ·cases h
structure Run where
 st:AState
 pre:List Prop
 tab:List (List Nat×List Nat)
theorem R1(sl:Nat->AVal)(dst:Option Tmp)(v:AVal)(t:Nat):Tk sl dst v t=if dst=some t then v else sl t:=by
 cases dst with
 |none=>simp[Tk]
 |some d=>
  by_cases h:t=d
  ·simp[Tk,h]
  ·simp[Tk,h,Ne.symm h]
def tagC(ops:Array Oper)(k:Nat)(σ:AState)(o:Oper):List Prop:=match o.guard with
 |none=>BRE ops k σ.sl o
 |some (j,want)=>match DF ops σ.sl j want with
  |some g=>cU g (BRE ops k σ.sl o)
  |none=>[]
def AGN(P:Program)(Γ:FuncId->Option Spec)(mt:Bool)(ops:Array Oper)(base n:Nat):List Oper->Nat->AState->Option Run
 |[],_,σ=>some ⟨σ,[],[]⟩
 |o :: l,k,σ=>if AOK n o then match AKW P Γ mt ops (base+16*k) σ o with
   |some s=>match AGN P Γ mt ops base n l (k+1) (σ.app o.dst s.val s.upd) with
    |some x=>some ⟨x.st,tagC ops k σ o ++ (s.pre ++ x.pre),(s.touch,s.upd.map (·.1)) :: x.tab⟩
    |none=>none
   |none=>none
  else none
def vY(l:List (List Nat×List Nat)):vM:=λk=>l.getD k ([],[])
theorem AGP{ops:Array Oper}{k:Nat}{o:Oper}(hI:GInv ops σ.sl k)(hl:lowL ops.toList 0=true)(ho:ops[k]?=some o)(h:BG (tagC ops k σ o))(hg:∀q,o.guard=some q->DF ops σ.sl q.1 q.2=some true):BG (lV σ.sl o):=by
 refine BQC hI hl ho hg ?_
 unfold tagC at h
 split at h
 ·exact h
 ·rename_i j want hq
  have:=hg _ hq
  simp only at this
  rw[this] at h
  exact Ak h rfl
theorem uY{Γ:FuncId->Option Spec}(hΓ:GOk P Γ){mt:Bool}{ops:Array Oper}{base n:Nat}{K:AState->Prop}(hl:lowL ops.toList 0=true)(hd:Cw ops.toList=true):∀(l:List Oper) (σ:AState) (x:Run) (T0:List (List Nat×List Nat)),ops.toList.drop T0.length=l->GInv ops σ.sl T0.length->AGN P Γ mt ops base n l T0.length σ=some x->BG x.pre->K x.st ->
  LexT P mt ops base n (vY (T0 ++ x.tab)) K l T0.length σ
 |[],σ,x,T0,_,_,h,_,hK=>by simp only[AGN,Option.some.injEq] at h;subst h;exact hK
 |o :: l,σ,x,T0,hdr,hI,h,hp,hK=>by
  simp only[AGN] at h
  have ho:ops[T0.length]?=some o:=by
   have:(ops.toList.drop T0.length)[0]?=some o:=by rw[hdr];rfl
   simpa using this
  split at h
  ·rename_i hdo
   split at h
   ·rename_i s hs
    split at h
    ·rename_i y hy
     cases h
     obtain⟨hp0,hp1⟩:=BE hp
     obtain⟨hp1,hp2⟩:=BE hp1
     have hI':GInv ops (σ.app o.dst s.val s.upd).sl (T0.length+1):=hI.next hl hd ho (λq hq=>ALN hs q hq) _ (R1 _ _ _)
     have ih:=uY hΓ hl hd l _ y (T0 ++ [(s.touch,s.upd.map (·.1))]) (by
      have:=congrArg List.tail hdr
      simpa using this) (by simpa using hI') (by simpa using hy) hp2 hK
     have ht:vY (T0 ++ ((s.touch,s.upd.map (·.1)) :: y.tab)) T0.length=(s.touch,s.upd.map (·.1)):=by simp[vY]
     refine⟨s.val,s.upd,s.touch,dK hΓ hs hp1 (AGP hI hl ho hp0),Sb hdo,by rw[ht],by rw[ht],?_⟩
     simpa using ih
    ·cases h
   ·cases h
  ·cases h
theorem AVP{mt:Bool}{ops:Array Oper}{base n:Nat}{T:vM}{K:AState->Prop}:∀(l:List Oper) (k:Nat) (σ:AState),LexT P mt ops base n T K l k σ->LexE P mt ops base n K l k σ
 |[],_,_,h=>h
 |o :: l,k,σ,h=>by
  obtain⟨val,upd,touch,h1,h2,_,_,h5⟩:=h
  exact⟨val,upd,touch,h1,h2,AVP l (k+1) _ h5⟩
def pO(P:Program)(Γ:FuncId->Option Spec)(mt:Bool)(base n:Nat)(ops:Array Oper)(draw:Bool)(σ:AState)(K:AState->Prop):Prop:=
 match AGN P Γ mt ops base n ops.toList 0 σ with
 |some x=>if lowL ops.toList 0&&Cw ops.toList&&(!draw||lexFromT .any ops (vY x.tab) ops.size 0 (Array.replicate ops.size false)) then cC x.pre (K x.st) else False
 |none=>False
theorem U3{Γ:FuncId->Option Spec}(hΓ:GOk P Γ)(hm:P.follows .mixedOrders=true){mt:Bool}{base:Nat}{id:Nat}{ops:Array Oper}{draw:Bool}(h:pO P Γ mt base c.n ops draw σ (Q .normal)):CodeE P c (.region id ops draw) Q σ:=by
 unfold pO at h
 split at h
 ·rename_i x hx
  split at h
  ·rename_i hc
   simp only[Bool.and_eq_true] at hc
   obtain⟨⟨hl,hd⟩,h1⟩:=hc
   obtain⟨h2,h3⟩:=IG h
   have hl:=uY hΓ (K:=Q .normal) hl hd ops.toList σ x [] (by simp) (λi _ _ _ hi=>by simp at hi) (by simpa using hx) h2 h3
   simp only[List.nil_append,List.length_nil] at hl
   cases draw with
   |false=>exact BLE (AVP _ _ _ hl)
   |true=>exact E1 hm (by simpa using h1) hl
  ·exact h.elim
 ·exact h.elim
structure RunG where
 st:AState
 pre:List Prop
 tab:List (List Nat×List Nat)
 g:Option Bool
def BTM(P:Program)(Γ:FuncId->Option Spec)(r:Nat)(σ:AState)(as:Bool)(op:Op):Option Stp:=match op with
 | .call ⟨.value f,args,_⟩=>match ATW Γ r (BX (AX σ.sl f)) (args.toList.map λx=>BX (AX σ.sl x)) σ.H with
  |some x=>match as with
   |false=>some ⟨.opt false x.val,[],[],[]⟩
   |true=>if Xo σ.H r then some ⟨.opt true x.val,x.upd,x.ids ++ (List.range 16).map (r + ·),x.pre⟩ else none
  |none=>none
 |_=>none
def runG(P:Program)(Γ:FuncId->Option Spec)(md:Nat->Nat)(as:Bool)(ops:Array Oper)(base n:Nat):List Oper->Nat->AState->Option RunG
 |[],_,σ=>some ⟨σ,[],[],none⟩
 |o :: l,k,σ=>if AOK n o then bif Nat.beq (md k) 10 then match o.guard with
   |some (j,want)=>match DF ops σ.sl j want,BTM P Γ (base+16*k) σ as o.op with
    |some g,some s=>match runG P Γ md as ops base n l (k+1) (σ.app o.dst s.val s.upd) with
     |some ⟨st,pre,tab,none⟩=>some ⟨st,tagC ops k σ o ++ (s.pre ++ pre),(s.touch,s.upd.map (·.1)) :: tab,some g⟩
     |_=>none
    |_,_=>none
   |none=>none
  else match AKW P Γ false ops (base+16*k) σ o with
   |some s=>match runG P Γ md as ops base n l (k+1) (σ.app o.dst s.val s.upd) with
    |some x=>some ⟨x.st,tagC ops k σ o ++ (s.pre ++ x.pre),(s.touch,s.upd.map (·.1)) :: x.tab,x.g⟩
    |none=>none
   |none=>none
  else none
theorem BGB{Γ:FuncId->Option Spec}(hΓ:GOk P Γ){ops:Array Oper}{r:Nat}{o:Oper}{s:Stp}{as:Bool}{j:Nat}{want:Bool}(hg:o.guard=some (j,want))(hw:DF ops σ.sl j want=some as)(h:BTM P Γ r σ as o.op=some s)(hp:BG s.pre)(ht:as=true->BG (lV σ.sl o)):StepO P false ops r σ o s.val s.upd s.touch:=by
 have mp:∀(l:List Nat),(l.map λi=>(i,σ.H i)).map (·.1)=l:=λl=>by
  induction l with
  |nil=>rfl
  |cons a l ih=>simp only[List.map_cons,ih]
 unfold BTM at h
 split at h
 ·rename_i f args ats ho
  split at h
  ·rename_i x hx
   split at h
   ·cases h;exact .gskip hg hw
   ·split at h
    ·rename_i hf
     cases h
     obtain⟨g',first,caps,he,hc⟩:=bZ hΓ hx
     have:=StepO.gcallT (mt:=false) (ops:=ops) (r:=r) hg hw ho he (by
      have:=ht rfl
      rw[zI (λ_ _ _ h=>by cases h) σ.sl o ho _ hg] at this
      rw[ho];exact this) (hc hp) (Zi _ _) (Ls hf)
     rw[mp] at this;exact this
    ·cases h
  ·cases h
 ·cases h
theorem pX{Γ:FuncId->Option Spec}(hΓ:GOk P Γ){md:Nat->Nat}{as:Bool}{ops:Array Oper}{base n:Nat}{K:AState->Prop}(hl:lowL ops.toList 0=true)(hd:Cw ops.toList=true):∀(l:List Oper) (σ:AState) (x:RunG) (T0:List (List Nat×List Nat)),ops.toList.drop T0.length=l->GInv ops σ.sl T0.length->runG P Γ md as ops base n l T0.length σ=some x->(∀g,x.g=some g->g=as)->BG x.pre->K x.st ->
  LexT P false ops base n (vY (T0 ++ x.tab)) K l T0.length σ
 |[],σ,x,T0,_,_,h,_,_,hK=>by simp only[runG,Option.some.injEq] at h;subst h;exact hK
 |o :: l,σ,x,T0,hdr,hI,h,hga,hp,hK=>by
  simp only[runG] at h
  have ho:ops[T0.length]?=some o:=by
   have:(ops.toList.drop T0.length)[0]?=some o:=by rw[hdr];rfl
   simpa using this
  split at h
  case isFalse=>cases h
  rename_i hdo
  cases hm:Nat.beq (md T0.length) 10 with
  |true=>
   rw[hm] at h
   simp only[cond_true] at h
   split at h
   case h_2=>cases h
   rename_i j want hgd
   split at h
   case h_2=>cases h
   rename_i g s hgA hs
   split at h
   case h_2=>cases h
   rename_i st pre tab hy
   cases h
   obtain rfl:g=as:=hga g rfl
   obtain⟨hp0,hp1⟩:=BE hp
   obtain⟨hp1,hp2⟩:=BE hp1
   have hv:∃v,s.val=.opt g v:=by
    unfold BTM at hs
    split at hs
    ·split at hs
     ·split at hs
      ·cases hs;exact⟨_,rfl⟩
      ·split at hs
       ·cases hs;exact⟨_,rfl⟩
       ·cases hs
     ·cases hs
    ·cases hs
   obtain⟨v,hv⟩:=hv
   have hI':GInv ops (σ.app o.dst s.val s.upd).sl (T0.length+1):=hI.next hl hd ho (λq hq=>⟨g,v,hv,by rw[hgd] at hq;cases hq;exact hgA⟩) _ (R1 _ _ _)
   have ih:=pX hΓ hl hd l _ ⟨st,pre,tab,none⟩ (T0 ++ [(s.touch,s.upd.map (·.1))]) (by
    have:=congrArg List.tail hdr
    simpa using this) (by simpa using hI') (by simpa using hy) (λ_ h=>by cases h) hp2 hK
   have ht:vY (T0 ++ ((s.touch,s.upd.map (·.1)) :: tab)) T0.length=(s.touch,s.upd.map (·.1)):=by simp[vY]
   refine⟨s.val,s.upd,s.touch,BGB hΓ hgd hgA hs hp1 (λhgt=>AGP hI hl ho hp0 λq hq=>by rw[hgd] at hq;cases hq;rw[hgA,hgt]),Sb hdo,by rw[ht],by rw[ht],?_⟩
   simpa using ih
  |false=>
   rw[hm] at h
   simp only[cond_false] at h
   split at h
   case h_2=>cases h
   rename_i s hs
   split at h
   case h_2=>cases h
   rename_i y hy
   cases h
   obtain⟨hp0,hp1⟩:=BE hp
   obtain⟨hp1,hp2⟩:=BE hp1
   have hI':GInv ops (σ.app o.dst s.val s.upd).sl (T0.length+1):=hI.next hl hd ho (λq hq=>ALN hs q hq) _ (R1 _ _ _)
   have ih:=pX hΓ hl hd l _ y (T0 ++ [(s.touch,s.upd.map (·.1))]) (by
    have:=congrArg List.tail hdr
    simpa using this) (by simpa using hI') (by simpa using hy) hga hp2 hK
   have ht:vY (T0 ++ ((s.touch,s.upd.map (·.1)) :: y.tab)) T0.length=(s.touch,s.upd.map (·.1)):=by simp[vY]
   refine⟨s.val,s.upd,s.touch,dK hΓ hs hp1 (AGP hI hl ho hp0),Sb hdo,by rw[ht],by rw[ht],?_⟩
   simpa using ih
def BDY(P:Program)(Γ:FuncId->Option Spec)(md:Nat->Nat)(base n:Nat)(ops:Array Oper)(σ:AState)(K:AState->Prop):Prop:=
 match runG P Γ md true ops base n ops.toList 0 σ,runG P Γ md false ops base n ops.toList 0 σ with
 |some ⟨s1,p1,t1,some g1⟩,some ⟨s0,p0,t0,some g0⟩=>if lowL ops.toList 0&&Cw ops.toList&&lexFromT .any ops (vY t1) ops.size 0 (Array.replicate ops.size false)&&lexFromT .any ops (vY t0) ops.size 0 (Array.replicate ops.size false) then cC [g0=g1] (bif g1 then cC p1 (K s1) else cC p0 (K s0)) else False
 |_,_=>False
theorem AUK{Γ:FuncId->Option Spec}(hΓ:GOk P Γ)(hm:P.follows .mixedOrders=true){md:Nat->Nat}{base:Nat}{id:Nat}{ops:Array Oper}(h:BDY P Γ md base c.n ops σ (Q .normal)):CodeE P c (.region id ops true) Q σ:=by
 unfold BDY at h
 split at h
 case h_2=>exact h.elim
 rename_i s1 p1 t1 g1 s0 p0 t0 g0 h1 h0
 split at h
 case isFalse=>exact h.elim
 rename_i hc
 simp only[Bool.and_eq_true] at hc
 obtain⟨⟨⟨hl,hd⟩,l1⟩,l0⟩:=hc
 obtain⟨hgg,h⟩:=IG h
 obtain rfl:g0=g1:=hgg
 cases g0 with
 |true=>
  obtain⟨h2,h3⟩:=IG (show cC p1 (Q .normal s1) from h)
  have hx:=pX hΓ (K:=Q .normal) hl hd ops.toList σ _ [] (by simp) (λi _ _ _ hi=>by simp at hi) (by simpa using h1) (λg hg=>by cases hg;rfl) h2 h3
  simp only[List.nil_append,List.length_nil] at hx
  exact E1 hm (by simpa using l1) hx
 |false=>
  obtain⟨h2,h3⟩:=IG (show cC p0 (Q .normal s0) from h)
  have hx:=pX hΓ (K:=Q .normal) hl hd ops.toList σ _ [] (by simp) (λi _ _ _ hi=>by simp at hi) (by simpa using h0) (λg hg=>by cases hg;rfl) h2 h3
  simp only[List.nil_append,List.length_nil] at hx
  exact E1 hm (by simpa using l0) hx
end Go.Sym
namespace Go.Sym
variable {P : Program} {B B' : Ft} {ι ι' : Nat -> Pl} {H H' : Heap} {D D' : Nat -> Prop} {w w' : World} {c : Ctx} {σ : AState} {Q : Exit -> AState -> Prop}
structure Shape where
 α:Type
 dflt:α
 T:α->ST
 inv:α->Prop
 meas:α->Nat
 first:List (Nat×Nat):=[]
 again:List (Nat×Nat):=[]
 ffz:List Nat:=[]
 afz:List Nat:=[]
 /-- what the annotations within are told, behind the measure -/
 tag:List Nat:=[]
def Shape.at1(s:Shape):List (Nat×Nat)×List Nat:=(s.first,s.ffz)
def Shape.at2(s:Shape):List (Nat×Nat)×List Nat:=(s.again,s.afz)
abbrev P5:=List Shape
def zP(E:List Nat)(sel:Shape->List (Nat×Nat)×List Nat)(σ:AState)(K:(s:Shape)->s.α->Prop):List Shape->Prop
 |[]=>False
 |s :: l=>if (Jv E (sel s).2 (sel s).1 (s.T s.dflt) σ).isSome then ∃a,BSY (Jv E (sel s).2 (sel s).1 (s.T a) σ) (K s a) else zP E sel σ K l
theorem Jd{E:List Nat}{sel:Shape->List (Nat×Nat)×List Nat}{K:(s:Shape)->s.α->Prop}:∀{l:List Shape},zP E sel σ K l->∃s∈l,∃a,FF (Jv E (sel s).2 (sel s).1 (s.T a) σ)/\K s a
 |[],h=>h.elim
 |s :: l,h=>by
  unfold zP at h
  split at h
  ·obtain⟨a,h⟩:=h
   obtain⟨h1,h2⟩:=ABK h
   exact⟨s,by simp,a,h1,h2⟩
  ·obtain⟨s',h1,h2⟩:=Jd h
   exact⟨s',by simp[h1],h2⟩
def allS(K:Shape->Prop):List Shape->Prop
 |[]=>True
 |[s]=>K s
 |s :: l=>K s/\allS K l
theorem R2{K:Shape->Prop}:∀{l:List Shape},allS K l->∀s∈l,K s
 |[],_,s,h=>by cases h
 |[t],h,s,hs=>by simp at hs;subst hs;exact h
 |t :: u :: l,h,s,hs=>by
  rcases List.mem_cons.1 hs with rfl | hs
  ·exact h.1
  ·exact R2 (l:=u :: l) h.2 s hs
def vX:Code->Nat
 | .region id _ _=>id
 | .seq a _=>vX a
 | .block _ b=>vX b
 | .cond _ t _=>vX t
 | .loop b=>vX b
 | .scope b=>vX b
 | .rangeFunc _ _ a _=>vX a
 |_=>0
def BSI(Q:Exit->AState->Prop):Exit->AState->Prop
 | .goto _,_=>False
 |e,σ=>Q e σ
mutual
def frV(F:P7):AVal->AVal
 | .own id k i n=>match F id with
  |some (k2,_,get)=>if Nat.beq k k2 then .d (.list k n (λj=>get (i+j)) false) else .any
  |none=>.own id k i n
 | .agg cs=>AFV (frL F cs)
 | .tup cs=>AVB (frL F cs)
 | .fn f a b=>.fn f (frL F a) (frL F b)
 | .opt g a=>.opt g (frV F a)
 |a=>a
def frL(F:P7):List AVal->List AVal
 |[]=>[]
 |a :: r=>frV F a :: frL F r
end
mutual
def frC(F:P7):AVal->List Prop
 | .own id _ i n=>match F id with
  |some (_,m,_)=>[i+n<=m]
  |none=>[]
 | .agg cs=>frCL F cs
 | .tup cs=>frCL F cs
 | .fn _ a b=>frCL F a ++ frCL F b
 | .opt _ a=>frC F a
 |_=>[]
def frCL(F:P7):List AVal->List Prop
 |[]=>[]
 |a :: r=>frC F a ++ frCL F r
end
theorem Sp(F:P7):∀l:List AVal,(frL F l).length=l.length
 |[]=>rfl
 |a :: l=>by simp[frL,Sp F l]
theorem CFI(x:Value):vEq x x:=by
 unfold vEq;split<;>simp_all
mutual
theorem Ru:∀(x:DVal),GY x x
 | .v x=>by simp only[GY];exact CFI x
 | .agg xs=>by simp only[GY];exact ADL xs
 | .tup xs=>by simp only[GY];exact ADL xs
 | .list k n g e=>by simp only[GY];exact⟨.inl trivial,trivial,id,λi _=>Ru (g i)⟩
 | .arr k n g=>by simp only[GY];exact⟨trivial,trivial,λi _=>Ru (g i)⟩
 | .eref x c=>by simp only[GY];exact⟨trivial,Ru x⟩
 | .iface t x=>by simp only[GY];exact⟨trivial,Ru x⟩
 | .anyB=>by simp only[GY]
theorem ADL:∀(l:List DVal),Fs l l
 |[]=>trivial
 |x :: l=>⟨Ru x,ADL l⟩
end
mutual
theorem AKC{F:P7}(hF:D1 B B' ι F):∀(a:AVal) (v:Value),BG (frC F a)->VRel B ι D a v->VRel B' ι D (frV F a) v
 | .own id k i n,v,h,hv=>by
  simp only[frC] at h
  simp only[frV]
  split
  ·rename_i k2 m get hf
   simp only[hf] at h
   split
   ·rename_i hk
    have:=Nat.eq_of_beq_eq_true hk;subst this
    exact .d (AQQ hF hf rfl h (λj _=>Ru _) hv)
   ·exact .any
  ·exact hv.mono hF.1 λi hi=>⟨hi,rfl⟩
 | .agg cs,v,h,hv=>by
  simp only[frV]
  cases hv with
  |agg hl hr=>exact lS (by rw[Sp];exact hl) (Ct hF cs _ h hr)
 | .tup cs,v,h,hv=>by
  simp only[frV]
  cases hv with
  |tup hl hr=>exact AXG (by rw[Sp];exact hl) (Ct hF cs _ h hr)
 | .fn f a b,v,h,hv=>by
  simp only[frV]
  simp only[frC] at h
  obtain⟨h1,h2⟩:=BE h
  cases hv with
  |fn h3 h4 h5 h6=>exact .fn (by rw[Sp];exact h3) (by rw[Sp];exact h4) (Ct hF a _ h1 h5) (Ct hF b _ h2 h6)
 | .opt g a,v,h,hv=>by
  simp only[frV]
  cases hv with
  |opt h1 h2=>exact .opt (λhg=>AKC hF a v h (h1 hg)) h2
 | .d x,v,_,hv=>by simp only[frV];exact hv.mono hF.1 λi hi=>⟨hi,rfl⟩
 | .bptr i c,v,_,hv=>by simp only[frV];exact hv.mono hF.1 λi hi=>⟨hi,rfl⟩
 | .rptr i k e c,v,_,hv=>by simp only[frV];exact hv.mono hF.1 λi hi=>⟨hi,rfl⟩
 | .mref i,v,_,hv=>by simp only[frV];exact hv.mono hF.1 λi hi=>⟨hi,rfl⟩
 | .any,v,_,_=>by simp only[frV];exact .any
theorem Ct{F:P7}(hF:D1 B B' ι F):∀(l:List AVal) (ys:Array Value),BG (frCL F l)->(∀(j:Nat) (x:AVal) (y:Value),l[j]?=some x->ys[j]?=some y->VRel B ι D x y) ->
  ∀(j:Nat) (x:AVal) (y:Value),(frL F l)[j]?=some x->ys[j]?=some y->VRel B' ι D x y
 |[],ys,_,_,j,x,y,hx,_=>by simp[frL] at hx
 |a :: l,ys,h,hr,j,x,y,hx,hy=>by
  obtain⟨h1,h2⟩:=BE (by simpa only[frCL] using h)
  cases j with
  |zero=>
   simp only[frL,List.getElem?_cons_zero,Option.some.injEq] at hx
   subst hx
   exact AKC hF a y h1 (hr 0 a y rfl hy)
  |succ j=>
   simp only[frL,List.getElem?_cons_succ] at hx
   exact Ct hF l (ys.extract 1 ys.size) h2 (λi x y hx hy=>hr (i+1) x y (by simpa using hx) (by
    rw[Array.getElem?_extract] at hy
    split at hy
    ·rw[Nat.add_comm];exact hy
    ·cases hy)) j x y hx (by
    have hlt:=(Array.getElem?_eq_some_iff.1 hy).1
    rw[Array.getElem?_extract,if_pos (by omega),Nat.add_comm];exact hy)
end
mutual
theorem VRel.keep{p:Nat->Bool}(hp:∀i,p i=true->D' i/\ι' i=ι i):∀(a:AVal) (v:Value),Sy p a=true->VRel B ι D a v->VRel B ι' D' a v
 | .d x,v,_,hv=>.d hv.d_inv
 | .agg cs,v,h,hv=>by
  cases hv with
  |agg hl hr=>exact .agg hl λj x y hx hy=>VRel.keepL hp cs (by simpa only[Sy] using h) j x y hx (hr j x y hx hy)
 | .tup cs,v,h,hv=>by
  cases hv with
  |tup hl hr=>exact .tup hl λj x y hx hy=>VRel.keepL hp cs (by simpa only[Sy] using h) j x y hx (hr j x y hx hy)
 | .bptr i c,v,h,hv=>by cases hv;rw[<-(hp i (by simpa only[Sy] using h)).2];exact .bptr (hp i (by simpa only[Sy] using h)).1
 | .rptr i k e c,v,h,hv=>by cases hv;rw[<-(hp i (by simpa only[Sy] using h)).2];exact .rptr (hp i (by simpa only[Sy] using h)).1
 | .own i k e n,v,h,hv=>by
  cases hv with
  |own _ h1 h2=>rw[<-(hp i (by simpa only[Sy] using h)).2] at h2 ⊢;exact .own (hp i (by simpa only[Sy] using h)).1 h1 h2
 | .fn f a b,v,h,hv=>by
  simp only[Sy,Bool.and_eq_true] at h
  cases hv with
  |fn h1 h2 h3 h4=>exact .fn h1 h2 (λj x y hx hy=>VRel.keepL hp a h.1 j x y hx (h3 j x y hx hy)) λj x y hx hy=>VRel.keepL hp b h.2 j x y hx (h4 j x y hx hy)
 | .mref i,v,h,hv=>by cases hv;rw[<-(hp i (by simpa only[Sy] using h)).2];exact .mref (hp i (by simpa only[Sy] using h)).1
 | .any,v,_,_=>.any
 | .opt g a,v,h,hv=>by
  cases hv with
  |opt h1 h2=>exact .opt (λhg=>VRel.keep hp a v (by simpa only[Sy] using h) (h1 hg)) h2
theorem VRel.keepL{p:Nat->Bool}(hp:∀i,p i=true->D' i/\ι' i=ι i):∀(l:List AVal),MM p l=true->∀(j:Nat) (x:AVal) (v:Value),l[j]?=some x->VRel B ι D x v->VRel B ι' D' x v
 |[],_,j,x,v,hx,_=>by simp at hx
 |a :: l,h,0,x,v,hx,hv=>by simp at hx;subst hx;simp only[MM,Bool.and_eq_true] at h;exact VRel.keep hp a v h.1 hv
 |a :: l,h,j+1,x,v,hx,hv=>by simp only[MM,Bool.and_eq_true] at h;exact VRel.keepL hp l h.2 j x v (by simpa using hx) hv
end
structure Pack where
 sl:List Nat
 ids:List Nat
 fz:List Nat:=[]
def Lq(F:P7):HCell->HCell
 | .live (.box es)=>.live (.box (frL F es))
 | .live (.abox es m g)=>.live (.abox (frL F es) m g)
 |x=>x
def CKO(F:P7):HCell->List Prop
 | .live (.box es)=>frCL F es
 | .live (.abox es _ _)=>frCL F es
 |_=>[]
def AQF(p:Nat->Bool):HCell->Bool
 | .live o=>okO p o
 | .dead=>true
 | .none=>false
def ZB(p:Pack)(σ:AState):ST:=
 ⟨p.sl.map λt=>(t,frV (PW σ.H p.fz) (σ.sl t)),p.ids.map λi=>(i,Lq (PW σ.H p.fz) (EW σ.H p.fz i))⟩
def BTP(p:Pack)(σ:AState):List Prop:=(p.sl.flatMap λt=>frC (PW σ.H p.fz) (σ.sl t)) ++ p.ids.flatMap λi=>CKO (PW σ.H p.fz) (EW σ.H p.fz i)
def ASS(p:Pack)(E:List Nat)(s:ST):Bool:=
 s.sl.all (λx=>Sy (λi=>p.ids.contains i) x.2)&&s.H.all (λx=>AQF (λi=>p.ids.contains i) x.2)&&E.all (λi=>p.ids.contains i)&&nodup p.ids
def vN(o:Option Pack)(E:List Nat)(σ:AState)(K:AState->Prop):Prop:=match o with
 |none=>K σ
 |some p=>if ASS p E (ZB p σ) then cC (BTP p σ) (K (ZB p σ).st) else False
theorem Xu{α:Type}{f:α->List Prop}:∀{l:List α},BG (l.flatMap f)->∀x∈l,BG (f x)
 |[],_,x,hx=>by cases hx
 |a :: l,h,x,hx=>by
  rw[List.flatMap_cons] at h
  obtain⟨h1,h2⟩:=BE h
  rcases List.mem_cons.1 hx with rfl | hx
  ·exact h1
  ·exact Xu h2 x hx
theorem G8(f:Nat->AVal):∀(l:List Nat) (t:Nat),LF (l.map λt=>(t,f t)) t=.any∨(t∈l/\LF (l.map λt=>(t,f t)) t=f t)
 |[],t=>.inl rfl
 |a :: l,t=>by
  simp only[List.map_cons,LF]
  split
  ·rename_i h;subst h;exact .inr ⟨by simp,rfl⟩
  ·rcases G8 f l t with h | ⟨h1,h2⟩
   ·exact .inl h
   ·exact .inr ⟨by simp[h1],h2⟩
theorem BEX(f:Nat->HCell):∀(l:List Nat) (i:Nat),Cu (l.map λi=>(i,f i)) i=if l.contains i then some (f i) else none
 |[],i=>rfl
 |a :: l,i=>by
  simp only[List.map_cons,Cu,BEX f l,List.contains_cons]
  by_cases h:i=a
  ·subst h;simp
  ·have:(i==a)=false:=by simpa using h
   rw[if_neg h,this];simp
theorem Moved.pack{B0:Ft}{ι0:Nat->Pl}{H0:Heap}{w0:World}{p:Pack}{E:List Nat}(hE:∀i,H0.dom i->i∈E)(hok:ASS p E (ZB p σ)=true)(hc:BG (BTP p σ))(hm0:Moved B0 ι0 H0 w0 B ι σ.H w) :
  ∃B',Moved B0 ι0 H0 w0 B' ι (ZB p σ).st.H w/\(∀t v,VRel B ι σ.H.dom (σ.sl t) v->VRel B' ι (ZB p σ).st.H.dom ((ZB p σ).st.sl t) v)/\(∀i o,(ZB p σ).st.H i=.live o->∃o',σ.H i=.live o') /\
   (∀b c,B b=some c->B' b=some c)/\∀i∈E,(ZB p σ).st.H.dom i:=by
 simp only[ASS,Bool.and_eq_true,List.all_eq_true] at hok
 obtain⟨⟨⟨o1,o2⟩,o3⟩,o4⟩:=hok
 obtain⟨c1,c2⟩:=BE hc
 obtain⟨B',hk,hF⟩:=WC p.fz hm0.heap
 have hm:=hm0.trans hk
 have hcell:∀i∈p.ids,AQF (λi=>p.ids.contains i) (Lq (PW σ.H p.fz) (EW σ.H p.fz i))=true:=λi hi=>o2 _ (List.mem_map.2 ⟨i,hi,rfl⟩)
 have hH:∀i,(ZB p σ).st.H i=if p.ids.contains i then Lq (PW σ.H p.fz) (EW σ.H p.fz i) else .none:=λi=>by
  show (Cu _ i).getD .none=_
  rw[ZB,BEX];split<;>rfl
 have hdom:∀i,p.ids.contains i=true->(ZB p σ).st.H.dom i/\ι i=ι i:=λi hi=>by
  refine⟨?_,rfl⟩
  unfold Heap.dom
  rw[hH,if_pos hi]
  have:=hcell i (by simpa using hi)
  intro he;rw[he] at this;cases this
 have live:∀i o,(ZB p σ).st.H i=.live o->∃o',i∈p.ids/\EW σ.H p.fz i=.live o'/\Lq (PW σ.H p.fz) (.live o')=.live o:=λi o hi=>by
  rw[hH] at hi
  split at hi
  ·rename_i hc
   cases hq:EW σ.H p.fz i with
   |live o'=>rw[hq] at hi;exact⟨o',by simpa using hc,rfl,hi⟩
   |none=>rw[hq] at hi;cases hi
   |dead=>rw[hq] at hi;cases hi
  ·cases hi
 refine⟨B',?_,λt v hv=>?_,λi o hi=>by obtain⟨o',_,ho,_⟩:=live i o hi;exact⟨o',Sf p.fz ho⟩,hF.1,λi hi=>(hdom i (o3 i hi)).1⟩
 ·refine⟨hm.bm,hm.bn,λi hi=>?_,⟨λi o hi=>?_,λi j o o' hi hj hij=>?_,λi o hi=>?_,hm.heap.imm⟩,λi o hi=>?_,hm.frame,hm.size,hm.calm⟩
  ·exact⟨(hdom i (o3 i (hE i hi))).1,(hm.im i hi).2⟩
  ·obtain⟨o',hid,ho,he⟩:=live i o hi
   have h1:=hm0.heap.obj _ _ (Sf p.fz ho)
   generalize w.heap[(ι i).b]?=q at h1 ⊢
   have hok:=hcell i hid
   rw[ho] at hok
   cases o' with
   |box es=>
    simp only[Lq,HCell.live.injEq] at he
    subst he
    have h2:=Xu c2 i hid
    rw[ho] at h2
    cases h1 with
    |box hsz hr=>
     refine .box (by rw[Sp];exact hsz) λj x z hx hz=>?_
     exact VRel.keepL hdom _ (by simpa only[AQF,Lq,okO] using hok) j x z hx (Ct hF es _ h2 hr j x z hx hz)
   |row k n g=>
    simp only[Lq,HCell.live.injEq] at he
    subst he
    cases h1 with
    |row a b cc d=>exact .row a b cc λi j x y hi hx hy=>(d i j x y hi hx hy).mono hF.1
   |imap q z hs g st pend=>
    simp only[Lq,HCell.live.injEq] at he
    subst he
    cases h1 with
    |imap a=>exact .imap (a.mono hF.1)
   |kmap q z hs g=>
    simp only[Lq,HCell.live.injEq] at he
    subst he
    cases h1 with
    |kmap a=>exact .kmap (a.mono hF.1)
   |abox es m g=>
    simp only[Lq,HCell.live.injEq] at he
    subst he
    have h2:=Xu c2 i hid
    rw[ho] at h2
    cases h1 with
    |abox hsz hr hb=>
     refine .abox (by rw[Sp];exact hsz) (λj x z hx hz=>?_) (by rw[Sp];exact hb)
     exact VRel.keepL hdom _ (by simpa only[AQF,Lq,okO] using hok) j x z hx (Ct hF es _ h2 hr j x z hx hz)
   |nbox ds m z g=>
    simp only[Lq,HCell.live.injEq] at he
    subst he
    cases h1 with
    |nbox a b c=>exact .nbox a (λj x y hx hy=>(b j x y hx hy).mono hF.1) c
   |miter m a b c d=>
    simp only[Lq,HCell.live.injEq] at he
    subst he
    cases h1 with
    |miter hD h1 h2 h3 h4 h5=>exact .miter (hdom m (by simpa only[AQF,Lq,okO] using hok)).1 h1 h2 h3 h4 h5
  ·obtain⟨_,_,h1,_⟩:=live i o hi
   obtain⟨_,_,h2,_⟩:=live j o' hj
   exact hm.heap.inj _ _ _ _ h1 h2 hij
  ·obtain⟨_,_,h1,_⟩:=live i o hi
   exact hm.heap.sep _ _ h1
  ·obtain⟨_,_,h1,_⟩:=live i o hi
   exact hm.own _ _ h1
 ·rcases G8 (λt=>frV (PW σ.H p.fz) (σ.sl t)) p.sl t with h | ⟨h1,h2⟩
  ·show VRel _ _ _ (LF _ t) _
   rw[ZB,h];exact .any
  ·show VRel _ _ _ (LF _ t) _
   rw[ZB,h2]
   exact VRel.keep hdom _ _ (o1 _ (List.mem_map.2 ⟨t,h1,rfl⟩)) (AKC hF _ _ (Xu c1 t h1) hv)
theorem Rel.pack{p:Pack}{E:List Nat}{a:Act}(hE:∀i,c.H0.dom i->i∈E)(hok:ASS p E (ZB p σ)=true)(hc:BG (BTP p σ))(hR:Rel c B ι σ a w):∃B',Rel c B' ι (ZB p σ).st a w:=by
 obtain⟨B',h1,h2,h3,_⟩:=Moved.pack hE hok hc hR.mv
 obtain⟨Ds,d1,d0,d2,d3⟩:=hR.defers
 refine⟨B',λt=>h2 t _ (hR.slots t),hR.size,⟨Ds,d1,d0,d2,λD hD=>⟨(d3 D hD).1,(d3 D hD).2.here,λi o hi=>?_⟩⟩,h1⟩
 obtain⟨o',ho⟩:=h3 i o hi
 exact (d3 D hD).2.sep _ _ ho
theorem CodeE.noGoto{x:Code}(h:CodeE P c x (BSI Q) σ):CodeE P c (.scope x) Q σ:=by
 intro B ι a w hR
 refine R7 (Code.wpIn_mono (λe a w hq=>?_) (h B ι a w hR))
 obtain⟨B',ι',σ',hq,hR'⟩:=hq
 cases e with
 |goto l=>exact hq.elim
 |_=>exact⟨B',ι',σ',hq,hR'⟩
theorem BWQ{l:List Prop}{K K':Prop}(hK:K->K')(h:cC l K):cC l K':=by
 cases l with
 |nil=>exact hK h
 |cons=>exact⟨h.1,hK h.2⟩
theorem AES{Γ:FuncId->Option Spec}{mt:Bool}{base n:Nat}{ops:Array Oper}{draw:Bool}{K K':AState->Prop}(hK:∀σ,K σ->K' σ)(h:pO P Γ mt base n ops draw σ K):pO P Γ mt base n ops draw σ K':=by
 unfold pO at *
 split at h
 ·split at h
  ·rename_i hc;rw[if_pos hc];exact BWQ (hK _) h
  ·exact h.elim
 ·exact h
end Go.Sym
