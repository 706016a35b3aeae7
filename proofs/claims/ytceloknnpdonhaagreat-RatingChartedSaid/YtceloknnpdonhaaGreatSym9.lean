/- A list of operations, reckoned. -/
import Derived.Test.YtceloknnpdonhaaGreatSym8
set_option linter.unusedVariables false
set_option linter.unusedSimpArgs false
namespace Go.Sym
variable {P : Program} {B B' : Rr} {ι ι' : Nat -> Pl} {H H' : Heap} {D : Nat -> Prop} {w w' : World} {c : Ctx} {σ : AState} {Q : Exit -> AState -> Prop}
structure CallR where
 ids:List Nat
 val:AVal
 upd:List (Nat×HCell)
 pre:List Prop
abbrev Spec:=List AVal->Heap->Nat->Option CallR
def AM(P:Program)(g:FuncId)(s:Spec):Prop:=∀as H r x,s as H r=some x->EL x.pre->BVQ P g as r (x.ids.map λi=>(i,H i)) x.val x.upd
def isNone:HCell->Bool
 | .none=>true
 |_=>false
theorem kF{c:HCell}(h:isNone c=true):c=.none:=by cases c<;>first | rfl | cases h
def jY(H:Heap)(r:Nat):Bool:=(List.range 16).all λi=>isNone (H (r+i))
theorem Vl{r:Nat}(h:jY H r=true):∀i,r<=i->i<r+16->H i=.none:=λi h1 h2=>by
 simp only[jY,List.all_eq_true,List.mem_range] at h
 have:=kF (h (i-r) (by omega))
 rwa [show r+(i-r)=i by omega] at this
def BWW(n:Nat)(o:Oper):Bool:=match o.dst with
 |some d=>Nat.blt d n
 |none=>true
theorem qB{n:Nat}{o:Oper}(h:BWW n o=true):∀d,o.dst=some d->d<n:=by
 intro d hd
 simpa[BWW,hd] using h
structure Stp where
 val:AVal
 upd:List (Nat×HCell)
 touch:List Nat
 pre:List Prop
def BTV(Γ:FuncId->Option Spec)(r:Nat)(f:AVal)(args:List AVal)(H:Heap):Option CallR:=match f with
 | .fn (.func g) first caps=>match Γ g with
  |some s=>s (first ++ args ++ caps) H r
  |none=>none
 |_=>none
def gopB(P:Program)(r:Nat)(ρ:Operand->AVal)(H:Heap)(g:Bool)(op:Op):Option (AVal×List Prop):=match op with
 | .pick c a b=>match EK (ρ c) with
  | .d (.v (.bool t))=>some (BTK t (EK (ρ a)) (EK (ρ b)),[])
  |_=>none
 | .buildSlice t len ps=>match Dv P r t len (ps.toList.map λp=>(p.1,EK (ρ p.2))) with
  |some ⟨_,[(_,.live (.row k n get))],_⟩=>some (.d (.list k n get true),[])
  |_=>none
 | .makeSlice t l c=>match Qf P r t (EK (ρ l)) (EK (ρ c)) with
  |some ⟨_,[(_,.live (.row k n get))],p⟩=>some (.d (.list k n get true),qI g p)
  |_=>none
 |op=>match opA P false r (λx=>EK (ρ x)) H op with
  |some ⟨v,[],p⟩=>some (v,qI g p)
  |_=>none
def DMZ(P:Program)(Γ:FuncId->Option Spec)(mt:Bool)(r:Nat)(σ:AState):Op->Option Stp
 | .call ⟨.value f,args,_⟩=>match BTV Γ r (BM σ.sl f) (args.toList.map (BM σ.sl)) σ.H with
  |some x=>if jY σ.H r then some ⟨x.val,x.upd,x.ids ++ (List.range 16).map (r + ·),x.pre⟩ else none
  |none=>none
 | .call ⟨.invoke x m,args,_⟩=>match BM σ.sl x with
  | .d (.iface t d)=>match BMX P t m with
   |some g=>match BTV Γ r (.fn (.func g) [.d d] []) (args.toList.map (BM σ.sl)) σ.H with
    |some x=>if jY σ.H r then some ⟨x.val,x.upd,x.ids ++ (List.range 16).map (r + ·),x.pre⟩ else none
    |none=>none
   |none=>none
  |_=>none
 | .pick c a b=>match BM σ.sl c with
  | .d (.v (.bool t))=>if isNone (σ.H r) then some ⟨BTK t (EK (BM σ.sl a)) (EK (BM σ.sl b)),[],r :: pO (BM σ.sl) (.pick c a b),[]⟩ else none
  |_=>none
 |op=>match opA P mt r (BM σ.sl) σ.H op with
  |some e=>if isNone (σ.H r) then some ⟨e.val,e.upd,r :: pO (BM σ.sl) op,e.pre⟩ else none
  |none=>none
def stepG(P:Program)(Γ:FuncId->Option Spec)(r:Nat)(σ:AState)(g:Bool):Op->Option (AVal×List Nat×List Prop)
 | .call ⟨.value f,args,_⟩=>match BTV Γ r (EK (BM σ.sl f)) (args.toList.map λx=>EK (BM σ.sl x)) σ.H with
  |some ⟨ids,v,[],p⟩=>if jY σ.H r then some (v,ids ++ (List.range 16).map (r + ·),qI g p) else none
  |_=>none
 |op=>match gopB P r (BM σ.sl) σ.H g op with
  |some (v,p)=>if isNone (σ.H r) then some (v,r :: pO (λx=>EK (BM σ.sl x)) op,p) else none
  |none=>none
def BLU(P:Program)(Γ:FuncId->Option Spec)(mt:Bool)(ops:Array Oper)(r:Nat)(σ:AState)(o:Oper):Option Stp:=match o.guard with
 |none=>DMZ P Γ mt r σ o.op
 |some (j,want)=>match JX ops σ.sl j want with
  |some g=>match stepG P Γ r σ g o.op with
   |some (v,touch,p)=>some ⟨.opt g v,[],touch,p⟩
   |none=>none
  |none=>none
theorem qK{g:Bool}{l:List Prop}(h:g=true->EL l):EL (qI g l):=by
 cases l with
 |nil=>trivial
 |cons=>exact h
theorem AKI{op:Op}(h:∀c a b,op=.pick c a b->False)(sl:Nat->AVal)(o:Oper)(ho:o.op=op)(q:Nat×Bool)(hq:o.guard=some q):yD sl o=Jf (BM sl) op.operands.toList:=by
 unfold yD
 rw[ho,hq]
 cases op<;>first | rfl | exact (h _ _ _ rfl).elim
def GOk(P:Program)(Γ:FuncId->Option Spec):Prop:=∀g s,Γ g=some s->AM P g s
theorem nB{Γ:FuncId->Option Spec}(hΓ:GOk P Γ){r:Nat}{f:AVal}{args:List AVal}{x:CallR}(h:BTV Γ r f args H=some x):∃g first caps,f=.fn (.func g) first caps/\(EL x.pre->BVQ P g (first ++ args ++ caps) r (x.ids.map λi=>(i,H i)) x.val x.upd):=by
 unfold BTV at h
 split at h
 ·rename_i g first caps
  split at h
  ·rename_i s hs
   exact⟨g,first,caps,rfl,hΓ g s hs _ _ _ _ h⟩
  ·cases h
 ·cases h
theorem mP(l:List Nat)(H:Heap):∀p∈l.map (λi=>(i,H i)),H p.1=p.2:=λp hp=>by
 obtain⟨i,_,rfl⟩:=List.mem_map.1 hp;rfl
theorem CTD{r:Nat}{sl:Nat->AVal}{g:Bool}{o:Oper}{q:Nat×Bool}{v:AVal}{p:List Prop}(h:gopB P r (BM sl) H g o.op=some (v,p))(hq:o.guard=some q)(hp:EL p)(ht:g=true->EL (yD sl o)):∃p',gopA P r (BM sl) H g o.op=some (v,p')/\EL p':=by
 unfold gopB at h
 split at h
 ·rename_i c a b ho
  split at h
  ·rename_i t hc
   cases h
   refine⟨qI g (Zn True (BM sl c) ++ (Zn (t=true) (BM sl a) ++ Zn (t=false) (BM sl b))),by rw[ho];simp only[gopA,hc],qK λhg=>?_⟩
   have:=ht hg
   unfold yD at this
   rw[ho,hq] at this
   simp only[hc] at this
   exact this
  ·cases h
 ·rename_i t len ps ho
  split at h
  ·rename_i hb
   cases h
   refine⟨qI g (Jf (BM sl) (Op.buildSlice t len ps).operands.toList),by rw[ho];simp only[gopA,hb],qK λhg=>?_⟩
   have:=ht hg
   rw[AKI (λ_ _ _ h=>by cases h) sl o ho _ hq] at this
   exact this
  ·cases h
 ·rename_i t l c ho
  split at h
  ·rename_i v0 r0 k n get p0 hb
   cases h
   refine⟨qI g (Zn True (BM sl l) ++ (Zn True (BM sl c) ++ p0)),by rw[ho];simp only[gopA,hb],qK λhg=>?_⟩
   have:=ht hg
   rw[AKI (λ_ _ _ h=>by cases h) sl o ho _ hq] at this
   exact ZM.2 ⟨Yy this l (by simp[Op.operands]),ZM.2 ⟨Yy this c (by simp[Op.operands]),Lb hp hg⟩⟩
  ·cases h
 ·rename_i h1 h2 h3
  split at h
  ·rename_i e1 e2 ho
   cases h
   refine⟨qI g (Jf (BM sl) o.op.operands.toList ++ e2),?_,qK λhg=>?_⟩
   ·unfold gopA
    split
    ·rename_i c a b hop;exact (h1 c a b hop).elim
    ·rename_i t len ps hop;exact (h2 t len ps hop).elim
    ·rename_i t l c hop;exact (h3 t l c hop).elim
    ·rw[ho]
   ·have:=ht hg
    rw[AKI (λc a b h=>h1 c a b h) sl o rfl _ hq] at this
    exact ZM.2 ⟨this,Lb hp hg⟩
  ·cases h
theorem BLY{Γ:FuncId->Option Spec}{mt:Bool}{ops:Array Oper}{r:Nat}{o:Oper}{s:Stp}(h:BLU P Γ mt ops r σ o=some s)(q:Nat×Bool)(hq:o.guard=some q):∃g v,s.val=.opt g v/\JX ops σ.sl q.1 q.2=some g:=by
 unfold BLU at h
 rw[hq] at h
 simp only at h
 split at h
 ·rename_i g hg
  split at h
  ·cases h;exact⟨g,_,rfl,hg⟩
  ·cases h
 ·cases h
theorem sV{Γ:FuncId->Option Spec}(hΓ:GOk P Γ){mt:Bool}{ops:Array Oper}{r:Nat}{o:Oper}{s:Stp}(h:BLU P Γ mt ops r σ o=some s)(hp:EL s.pre)(ht:(∀q,o.guard=some q->JX ops σ.sl q.1 q.2=some true)->EL (yD σ.sl o)):StepO P mt ops r σ o s.val s.upd s.touch:=by
 have mp:∀(l:List Nat),(l.map λi=>(i,σ.H i)).map (·.1)=l:=λl=>by
  induction l with
  |nil=>rfl
  |cons a l ih=>simp only[List.map_cons,ih]
 have ht':∀{j want g},o.guard=some (j,want)->JX ops σ.sl j want=some g->g=true->EL (yD σ.sl o):=λhg hw hgt=>ht λq hq=>by
  rw[hg] at hq;cases hq;rw[hw,hgt]
 unfold BLU at h
 split at h
 ·rename_i hg
  unfold DMZ at h
  split at h
  ·rename_i f args ats ho
   split at h
   ·rename_i x hx
    split at h
    ·rename_i hf
     cases h
     obtain⟨g,first,caps,he,hc⟩:=nB hΓ hx
     have:=StepO.call (mt:=mt) (ops:=ops) hg ho he (hc hp) (mP _ _) (Vl hf)
     rw[mp] at this;exact this
    ·cases h
   ·cases h
  ·rename_i y m args ats ho
   split at h
   ·rename_i t d hy
    split at h
    ·rename_i g0 hm
     split at h
     ·rename_i x hx
      split at h
      ·rename_i hf
       cases h
       obtain⟨g,first,caps,he,hc⟩:=nB hΓ hx
       cases he
       have hc':=hc hp
       simp only[List.cons_append,List.nil_append,List.append_nil] at hc'
       have:=StepO.inv (mt:=mt) (ops:=ops) hg ho hy hm hc' (mP _ _) (Vl hf)
       rw[mp] at this;exact this
      ·cases h
     ·cases h
    ·cases h
   ·cases h
  ·rename_i c a b ho
   split at h
   ·rename_i t hc
    split at h
    ·rename_i hf
     cases h
     have h0:=ht λq hq=>by rw[hg] at hq;cases hq
     have h1:EL (Zn (t=true) (BM σ.sl a) ++ Zn (t=false) (BM σ.sl b)):=by
      unfold yD at h0
      rw[ho,hg] at h0
      simp only[hc,EK,Zn,List.nil_append] at h0
      exact h0
     have:=StepO.op (P:=P) (mt:=mt) (ops:=ops) (r:=r) (σ:=σ) (o:=o) (e:=⟨BTK t (EK (BM σ.sl a)) (EK (BM σ.sl b)),[],Zn (t=true) (BM σ.sl a) ++ Zn (t=false) (BM σ.sl b)⟩) hg (by rw[ho];simp only[opA,hc]) h1 (kF hf)
     rw[ho] at this;exact this
    ·cases h
   ·cases h
  ·split at h
   ·rename_i e he
    split at h
    ·rename_i hf
     cases h
     exact .op hg he hp (kF hf)
    ·cases h
   ·cases h
 ·rename_i j want hg
  split at h
  ·rename_i g hw
   split at h
   ·rename_i v touch p hst
    cases h
    unfold stepG at hst
    split at hst
    ·rename_i f args ats ho
     split at hst
     ·rename_i ids v p hx
      split at hst
      ·rename_i hf
       cases hst
       obtain⟨g',first,caps,he,hc⟩:=nB hΓ hx
       have:=StepO.gcall (mt:=mt) (ops:=ops) (r:=r) hg hw ho he (λh=>by
        have:=ht' hg hw h
        rw[AKI (λ_ _ _ h=>by cases h) σ.sl o ho _ hg] at this
        rw[ho];exact this) (λh=>hc (Lb hp h)) (mP _ _) (Vl hf)
       rw[mp] at this;exact this
      ·cases hst
     ·cases hst
    ·split at hst
     ·rename_i v p he
      split at hst
      ·rename_i hf
       cases hst
       obtain⟨p',h1,h2⟩:=CTD (sl:=σ.sl) (o:=o) he hg hp (ht' hg hw)
       exact .gop hg hw h1 h2 (kF hf)
      ·cases hst
     ·cases hst
   ·cases h
  ·cases h
structure Run where
 st:AState
 pre:List Prop
 tab:List (List Nat×List Nat)
theorem ANE(sl:Nat->AVal)(dst:Option Tmp)(v:AVal)(t:Nat):uJ sl dst v t=if dst=some t then v else sl t:=by
 cases dst with
 |none=>simp[uJ]
 |some d=>
  by_cases h:t=d
  ·simp[uJ,h]
  ·simp[uJ,h,Ne.symm h]
def tagC(ops:Array Oper)(k:Nat)(σ:AState)(o:Oper):List Prop:=match o.guard with
 |none=>CPC ops k σ.sl o
 |some (j,want)=>match JX ops σ.sl j want with
  |some g=>qI g (CPC ops k σ.sl o)
  |none=>[]
def BTJ(P:Program)(Γ:FuncId->Option Spec)(mt:Bool)(ops:Array Oper)(base n:Nat):List Oper->Nat->AState->Option Run
 |[],_,σ=>some ⟨σ,[],[]⟩
 |o :: l,k,σ=>if BWW n o then match BLU P Γ mt ops (base+16*k) σ o with
   |some s=>match BTJ P Γ mt ops base n l (k+1) (σ.app o.dst s.val s.upd) with
    |some x=>some ⟨x.st,tagC ops k σ o ++ (s.pre ++ x.pre),(s.touch,s.upd.map (·.1)) :: x.tab⟩
    |none=>none
   |none=>none
  else none
def AKJ(l:List (List Nat×List Nat)):AOK:=λk=>l.getD k ([],[])
theorem BFG{ops:Array Oper}{k:Nat}{o:Oper}(hI:GInv ops σ.sl k)(hl:lowL ops.toList 0=true)(ho:ops[k]?=some o)(h:EL (tagC ops k σ o))(hg:∀q,o.guard=some q->JX ops σ.sl q.1 q.2=some true):EL (yD σ.sl o):=by
 refine CLR hI hl ho hg ?_
 unfold tagC at h
 split at h
 ·exact h
 ·rename_i j want hq
  have:=hg _ hq
  simp only at this
  rw[this] at h
  exact Lb h rfl
theorem BCG{Γ:FuncId->Option Spec}(hΓ:GOk P Γ){mt:Bool}{ops:Array Oper}{base n:Nat}{K:AState->Prop}(hl:lowL ops.toList 0=true)(hd:Tq ops.toList=true):∀(l:List Oper) (σ:AState) (x:Run) (T0:List (List Nat×List Nat)),ops.toList.drop T0.length=l->GInv ops σ.sl T0.length->BTJ P Γ mt ops base n l T0.length σ=some x->EL x.pre->K x.st ->
  LexT P mt ops base n (AKJ (T0 ++ x.tab)) K l T0.length σ
 |[],σ,x,T0,_,_,h,_,hK=>by simp only[BTJ,Option.some.injEq] at h;subst h;exact hK
 |o :: l,σ,x,T0,hdr,hI,h,hp,hK=>by
  simp only[BTJ] at h
  have ho:ops[T0.length]?=some o:=by
   have:(ops.toList.drop T0.length)[0]?=some o:=by rw[hdr];rfl
   simpa using this
  split at h
  ·rename_i hdo
   split at h
   ·rename_i s hs
    split at h
    ·rename_i y hy
     cases h
     obtain⟨hp0,hp1⟩:=BW hp
     obtain⟨hp1,hp2⟩:=BW hp1
     have hI':GInv ops (σ.app o.dst s.val s.upd).sl (T0.length+1):=hI.next hl hd ho (λq hq=>BLY hs q hq) _ (ANE _ _ _)
     have ih:=BCG hΓ hl hd l _ y (T0 ++ [(s.touch,s.upd.map (·.1))]) (by
      have:=congrArg List.tail hdr
      simpa using this) (by simpa using hI') (by simpa using hy) hp2 hK
     have ht:AKJ (T0 ++ ((s.touch,s.upd.map (·.1)) :: y.tab)) T0.length=(s.touch,s.upd.map (·.1)):=by simp[AKJ]
     refine⟨s.val,s.upd,s.touch,sV hΓ hs hp1 (BFG hI hl ho hp0),qB hdo,by rw[ht],by rw[ht],?_⟩
     simpa using ih
    ·cases h
   ·cases h
  ·cases h
theorem BVJ{mt:Bool}{ops:Array Oper}{base n:Nat}{T:AOK}{K:AState->Prop}:∀(l:List Oper) (k:Nat) (σ:AState),LexT P mt ops base n T K l k σ->LexE P mt ops base n K l k σ
 |[],_,_,h=>h
 |o :: l,k,σ,h=>by
  obtain⟨val,upd,touch,h1,h2,_,_,h5⟩:=h
  exact⟨val,upd,touch,h1,h2,BVJ l (k+1) _ h5⟩
def J2(P:Program)(Γ:FuncId->Option Spec)(mt:Bool)(base n:Nat)(ops:Array Oper)(draw:Bool)(σ:AState)(K:AState->Prop):Prop:=
 match BTJ P Γ mt ops base n ops.toList 0 σ with
 |some x=>if lowL ops.toList 0&&Tq ops.toList&&(!draw||lexFromT .any ops (AKJ x.tab) ops.size 0 (Array.replicate ops.size false)) then zN x.pre (K x.st) else False
 |none=>False
theorem APL{Γ:FuncId->Option Spec}(hΓ:GOk P Γ)(hm:P.follows .mixedOrders=true){mt:Bool}{base:Nat}{id:Nat}{ops:Array Oper}{draw:Bool}(h:J2 P Γ mt base c.n ops draw σ (Q .normal)):CodeE P c (.region id ops draw) Q σ:=by
 unfold J2 at h
 split at h
 ·rename_i x hx
  split at h
  ·rename_i hc
   simp only[Bool.and_eq_true] at hc
   obtain⟨⟨hl,hd⟩,h1⟩:=hc
   obtain⟨h2,h3⟩:=QF h
   have hl:=BCG hΓ (K:=Q .normal) hl hd ops.toList σ x [] (by simp) (λi _ _ _ hi=>by simp at hi) (by simpa using hx) h2 h3
   simp only[List.nil_append,List.length_nil] at hl
   cases draw with
   |false=>exact CJS (BVJ _ _ _ hl)
   |true=>exact AHC hm (by simpa using h1) hl
  ·exact h.elim
 ·exact h.elim
structure RunG where
 st:AState
 pre:List Prop
 tab:List (List Nat×List Nat)
 g:Option Bool
def CPQ(P:Program)(Γ:FuncId->Option Spec)(r:Nat)(σ:AState)(as:Bool)(op:Op):Option Stp:=match op with
 | .call ⟨.value f,args,_⟩=>match BTV Γ r (EK (BM σ.sl f)) (args.toList.map λx=>EK (BM σ.sl x)) σ.H with
  |some x=>match as with
   |false=>some ⟨.opt false x.val,[],[],[]⟩
   |true=>if jY σ.H r then some ⟨.opt true x.val,x.upd,x.ids ++ (List.range 16).map (r + ·),x.pre⟩ else none
  |none=>none
 |_=>none
def runG(P:Program)(Γ:FuncId->Option Spec)(md:Nat->Nat)(as:Bool)(ops:Array Oper)(base n:Nat):List Oper->Nat->AState->Option RunG
 |[],_,σ=>some ⟨σ,[],[],none⟩
 |o :: l,k,σ=>if BWW n o then bif Nat.beq (md k) 10 then match o.guard with
   |some (j,want)=>match JX ops σ.sl j want,CPQ P Γ (base+16*k) σ as o.op with
    |some g,some s=>match runG P Γ md as ops base n l (k+1) (σ.app o.dst s.val s.upd) with
     |some ⟨st,pre,tab,none⟩=>some ⟨st,tagC ops k σ o ++ (s.pre ++ pre),(s.touch,s.upd.map (·.1)) :: tab,some g⟩
     |_=>none
    |_,_=>none
   |none=>none
  else match BLU P Γ false ops (base+16*k) σ o with
   |some s=>match runG P Γ md as ops base n l (k+1) (σ.app o.dst s.val s.upd) with
    |some x=>some ⟨x.st,tagC ops k σ o ++ (s.pre ++ x.pre),(s.touch,s.upd.map (·.1)) :: x.tab,x.g⟩
    |none=>none
   |none=>none
  else none
theorem CED{Γ:FuncId->Option Spec}(hΓ:GOk P Γ){ops:Array Oper}{r:Nat}{o:Oper}{s:Stp}{as:Bool}{j:Nat}{want:Bool}(hg:o.guard=some (j,want))(hw:JX ops σ.sl j want=some as)(h:CPQ P Γ r σ as o.op=some s)(hp:EL s.pre)(ht:as=true->EL (yD σ.sl o)):StepO P false ops r σ o s.val s.upd s.touch:=by
 have mp:∀(l:List Nat),(l.map λi=>(i,σ.H i)).map (·.1)=l:=λl=>by
  induction l with
  |nil=>rfl
  |cons a l ih=>simp only[List.map_cons,ih]
 unfold CPQ at h
 split at h
 ·rename_i f args ats ho
  split at h
  ·rename_i x hx
   split at h
   ·cases h;exact .gskip hg hw
   ·split at h
    ·rename_i hf
     cases h
     obtain⟨g',first,caps,he,hc⟩:=nB hΓ hx
     have:=StepO.gcallT (mt:=false) (ops:=ops) (r:=r) hg hw ho he (by
      have:=ht rfl
      rw[AKI (λ_ _ _ h=>by cases h) σ.sl o ho _ hg] at this
      rw[ho];exact this) (hc hp) (mP _ _) (Vl hf)
     rw[mp] at this;exact this
    ·cases h
  ·cases h
 ·cases h
theorem G6{Γ:FuncId->Option Spec}(hΓ:GOk P Γ){md:Nat->Nat}{as:Bool}{ops:Array Oper}{base n:Nat}{K:AState->Prop}(hl:lowL ops.toList 0=true)(hd:Tq ops.toList=true):∀(l:List Oper) (σ:AState) (x:RunG) (T0:List (List Nat×List Nat)),ops.toList.drop T0.length=l->GInv ops σ.sl T0.length->runG P Γ md as ops base n l T0.length σ=some x->(∀g,x.g=some g->g=as)->EL x.pre->K x.st ->
  LexT P false ops base n (AKJ (T0 ++ x.tab)) K l T0.length σ
 |[],σ,x,T0,_,_,h,_,_,hK=>by simp only[runG,Option.some.injEq] at h;subst h;exact hK
 |o :: l,σ,x,T0,hdr,hI,h,hga,hp,hK=>by
  simp only[runG] at h
  have ho:ops[T0.length]?=some o:=by
   have:(ops.toList.drop T0.length)[0]?=some o:=by rw[hdr];rfl
   simpa using this
  split at h
  case isFalse=>cases h
  rename_i hdo
  cases hm:Nat.beq (md T0.length) 10 with
  |true=>
   rw[hm] at h
   simp only[cond_true] at h
   split at h
   case h_2=>cases h
   rename_i j want hgd
   split at h
   case h_2=>cases h
   rename_i g s hgA hs
   split at h
   case h_2=>cases h
   rename_i st pre tab hy
   cases h
   obtain rfl:g=as:=hga g rfl
   obtain⟨hp0,hp1⟩:=BW hp
   obtain⟨hp1,hp2⟩:=BW hp1
   have hv:∃v,s.val=.opt g v:=by
    unfold CPQ at hs
    split at hs
    ·split at hs
     ·split at hs
      ·cases hs;exact⟨_,rfl⟩
      ·split at hs
       ·cases hs;exact⟨_,rfl⟩
       ·cases hs
     ·cases hs
    ·cases hs
   obtain⟨v,hv⟩:=hv
   have hI':GInv ops (σ.app o.dst s.val s.upd).sl (T0.length+1):=hI.next hl hd ho (λq hq=>⟨g,v,hv,by rw[hgd] at hq;cases hq;exact hgA⟩) _ (ANE _ _ _)
   have ih:=G6 hΓ hl hd l _ ⟨st,pre,tab,none⟩ (T0 ++ [(s.touch,s.upd.map (·.1))]) (by
    have:=congrArg List.tail hdr
    simpa using this) (by simpa using hI') (by simpa using hy) (λ_ h=>by cases h) hp2 hK
   have ht:AKJ (T0 ++ ((s.touch,s.upd.map (·.1)) :: tab)) T0.length=(s.touch,s.upd.map (·.1)):=by simp[AKJ]
   refine⟨s.val,s.upd,s.touch,CED hΓ hgd hgA hs hp1 (λhgt=>BFG hI hl ho hp0 λq hq=>by rw[hgd] at hq;cases hq;rw[hgA,hgt]),qB hdo,by rw[ht],by rw[ht],?_⟩
   simpa using ih
  |false=>
   rw[hm] at h
   simp only[cond_false] at h
   split at h
   case h_2=>cases h
   rename_i s hs
   split at h
   case h_2=>cases h
   rename_i y hy
   cases h
   obtain⟨hp0,hp1⟩:=BW hp
   obtain⟨hp1,hp2⟩:=BW hp1
   have hI':GInv ops (σ.app o.dst s.val s.upd).sl (T0.length+1):=hI.next hl hd ho (λq hq=>BLY hs q hq) _ (ANE _ _ _)
   have ih:=G6 hΓ hl hd l _ y (T0 ++ [(s.touch,s.upd.map (·.1))]) (by
    have:=congrArg List.tail hdr
    simpa using this) (by simpa using hI') (by simpa using hy) hga hp2 hK
   have ht:AKJ (T0 ++ ((s.touch,s.upd.map (·.1)) :: y.tab)) T0.length=(s.touch,s.upd.map (·.1)):=by simp[AKJ]
   refine⟨s.val,s.upd,s.touch,sV hΓ hs hp1 (BFG hI hl ho hp0),qB hdo,by rw[ht],by rw[ht],?_⟩
   simpa using ih
def BZI(P:Program)(Γ:FuncId->Option Spec)(md:Nat->Nat)(base n:Nat)(ops:Array Oper)(σ:AState)(K:AState->Prop):Prop:=
 match runG P Γ md true ops base n ops.toList 0 σ,runG P Γ md false ops base n ops.toList 0 σ with
 |some ⟨s1,p1,t1,some g1⟩,some ⟨s0,p0,t0,some g0⟩=>if lowL ops.toList 0&&Tq ops.toList&&lexFromT .any ops (AKJ t1) ops.size 0 (Array.replicate ops.size false)&&lexFromT .any ops (AKJ t0) ops.size 0 (Array.replicate ops.size false) then zN [g0=g1] (bif g1 then zN p1 (K s1) else zN p0 (K s0)) else False
 |_,_=>False
theorem BUV{Γ:FuncId->Option Spec}(hΓ:GOk P Γ)(hm:P.follows .mixedOrders=true){md:Nat->Nat}{base:Nat}{id:Nat}{ops:Array Oper}(h:BZI P Γ md base c.n ops σ (Q .normal)):CodeE P c (.region id ops true) Q σ:=by
 unfold BZI at h
 split at h
 case h_2=>exact h.elim
 rename_i s1 p1 t1 g1 s0 p0 t0 g0 h1 h0
 split at h
 case isFalse=>exact h.elim
 rename_i hc
 simp only[Bool.and_eq_true] at hc
 obtain⟨⟨⟨hl,hd⟩,l1⟩,l0⟩:=hc
 obtain⟨hgg,h⟩:=QF h
 obtain rfl:g0=g1:=hgg
 cases g0 with
 |true=>
  obtain⟨h2,h3⟩:=QF (show zN p1 (Q .normal s1) from h)
  have hx:=G6 hΓ (K:=Q .normal) hl hd ops.toList σ _ [] (by simp) (λi _ _ _ hi=>by simp at hi) (by simpa using h1) (λg hg=>by cases hg;rfl) h2 h3
  simp only[List.nil_append,List.length_nil] at hx
  exact AHC hm (by simpa using l1) hx
 |false=>
  obtain⟨h2,h3⟩:=QF (show zN p0 (Q .normal s0) from h)
  have hx:=G6 hΓ (K:=Q .normal) hl hd ops.toList σ _ [] (by simp) (λi _ _ _ hi=>by simp at hi) (by simpa using h0) (λg hg=>by cases hg;rfl) h2 h3
  simp only[List.nil_append,List.length_nil] at hx
  exact AHC hm (by simpa using l0) hx
end Go.Sym

namespace Go.Sym
variable {P : Program} {B B' : Rr} {ι ι' : Nat -> Pl} {H H' : Heap} {D D' : Nat -> Prop} {w w' : World} {c : Ctx} {σ : AState} {Q : Exit -> AState -> Prop}
structure Shape where
 α:Type
 dflt:α
 T:α->ST
 inv:α->Prop
 meas:α->Nat
 first:List (Nat×Nat):=[]
 again:List (Nat×Nat):=[]
 ffz:List Nat:=[]
 afz:List Nat:=[]
 /-- what the annotations within are told, behind the measure -/
 tag:List Nat:=[]
def Shape.at1(s:Shape):List (Nat×Nat)×List Nat:=(s.first,s.ffz)
def Shape.at2(s:Shape):List (Nat×Nat)×List Nat:=(s.again,s.afz)
abbrev ANZ:=List Shape
def AHM(E:List Nat)(sel:Shape->List (Nat×Nat)×List Nat)(σ:AState)(K:(s:Shape)->s.α->Prop):List Shape->Prop
 |[]=>False
 |s :: l=>if (Wo E (sel s).2 (sel s).1 (s.T s.dflt) σ).isSome then ∃a,CMR (Wo E (sel s).2 (sel s).1 (s.T a) σ) (K s a) else AHM E sel σ K l
theorem Ue{E:List Nat}{sel:Shape->List (Nat×Nat)×List Nat}{K:(s:Shape)->s.α->Prop}:∀{l:List Shape},AHM E sel σ K l->∃s∈l,∃a,JM (Wo E (sel s).2 (sel s).1 (s.T a) σ)/\K s a
 |[],h=>h.elim
 |s :: l,h=>by
  unfold AHM at h
  split at h
  ·obtain⟨a,h⟩:=h
   obtain⟨h1,h2⟩:=BAQ h
   exact⟨s,by simp,a,h1,h2⟩
  ·obtain⟨s',h1,h2⟩:=Ue h
   exact⟨s',by simp[h1],h2⟩
def allS(K:Shape->Prop):List Shape->Prop
 |[]=>True
 |[s]=>K s
 |s :: l=>K s/\allS K l
theorem ANJ{K:Shape->Prop}:∀{l:List Shape},allS K l->∀s∈l,K s
 |[],_,s,h=>by cases h
 |[t],h,s,hs=>by simp at hs;subst hs;exact h
 |t :: u :: l,h,s,hs=>by
  rcases List.mem_cons.1 hs with rfl | hs
  ·exact h.1
  ·exact ANJ (l:=u :: l) h.2 s hs
def AOQ:Code->Nat
 | .region id _ _=>id
 | .seq a _=>AOQ a
 | .block _ b=>AOQ b
 | .cond _ t _=>AOQ t
 | .loop b=>AOQ b
 | .scope b=>AOQ b
 | .rangeFunc _ _ a _=>AOQ a
 |_=>0
def CMT(Q:Exit->AState->Prop):Exit->AState->Prop
 | .goto _,_=>False
 |e,σ=>Q e σ
mutual
def frV(F:Frz):AVal->AVal
 | .own id k i n=>match F id with
  |some (k2,_,get)=>if Nat.beq k k2 then .d (.list k n (λj=>get (i+j)) false) else .any
  |none=>.own id k i n
 | .agg cs=>BTU (frL F cs)
 | .tup cs=>BWN (frL F cs)
 | .fn f a b=>.fn f (frL F a) (frL F b)
 | .opt g a=>.opt g (frV F a)
 |a=>a
def frL(F:Frz):List AVal->List AVal
 |[]=>[]
 |a :: r=>frV F a :: frL F r
end
mutual
def frC(F:Frz):AVal->List Prop
 | .own id _ i n=>match F id with
  |some (_,m,_)=>[i+n<=m]
  |none=>[]
 | .agg cs=>frCL F cs
 | .tup cs=>frCL F cs
 | .fn _ a b=>frCL F a ++ frCL F b
 | .opt _ a=>frC F a
 |_=>[]
def frCL(F:Frz):List AVal->List Prop
 |[]=>[]
 |a :: r=>frC F a ++ frCL F r
end
theorem eJ(F:Frz):∀l:List AVal,(frL F l).length=l.length
 |[]=>rfl
 |a :: l=>by simp[frL,eJ F l]
theorem DBH(x:Value):vEq x x:=by
 unfold vEq;split<;>simp_all
mutual
theorem Zf:∀(x:DVal),LU x x
 | .v x=>by simp only[LU];exact DBH x
 | .agg xs=>by simp only[LU];exact AWV xs
 | .tup xs=>by simp only[LU];exact AWV xs
 | .list k n g e=>by simp only[LU];exact⟨.inl trivial,trivial,id,λi _=>Zf (g i)⟩
 | .arr k n g=>by simp only[LU];exact⟨trivial,trivial,λi _=>Zf (g i)⟩
 | .eref x c=>by simp only[LU];exact⟨trivial,Zf x⟩
 | .iface t x=>by simp only[LU];exact⟨trivial,Zf x⟩
 | .anyB=>by simp only[LU]
theorem AWV:∀(l:List DVal),Ul l l
 |[]=>trivial
 |x :: l=>⟨Zf x,AWV l⟩
end
mutual
theorem BFS{F:Frz}(hF:AEO B B' ι F):∀(a:AVal) (v:Value),EL (frC F a)->VRel B ι D a v->VRel B' ι D (frV F a) v
 | .own id k i n,v,h,hv=>by
  simp only[frC] at h
  simp only[frV]
  split
  ·rename_i k2 m get hf
   simp only[hf] at h
   split
   ·rename_i hk
    have:=Nat.eq_of_beq_eq_true hk;subst this
    exact .d (BSR hF hf rfl h (λj _=>Zf _) hv)
   ·exact .any
  ·exact hv.mono hF.1 λi hi=>⟨hi,rfl⟩
 | .agg cs,v,h,hv=>by
  simp only[frV]
  cases hv with
  |agg hl hr=>exact ANL (by rw[eJ];exact hl) (Lu hF cs _ h hr)
 | .tup cs,v,h,hv=>by
  simp only[frV]
  cases hv with
  |tup hl hr=>exact BWM (by rw[eJ];exact hl) (Lu hF cs _ h hr)
 | .fn f a b,v,h,hv=>by
  simp only[frV]
  simp only[frC] at h
  obtain⟨h1,h2⟩:=BW h
  cases hv with
  |fn h3 h4 h5 h6=>exact .fn (by rw[eJ];exact h3) (by rw[eJ];exact h4) (Lu hF a _ h1 h5) (Lu hF b _ h2 h6)
 | .opt g a,v,h,hv=>by
  simp only[frV]
  cases hv with
  |opt h1 h2=>exact .opt (λhg=>BFS hF a v h (h1 hg)) h2
 | .d x,v,_,hv=>by simp only[frV];exact hv.mono hF.1 λi hi=>⟨hi,rfl⟩
 | .bptr i c,v,_,hv=>by simp only[frV];exact hv.mono hF.1 λi hi=>⟨hi,rfl⟩
 | .rptr i k e c,v,_,hv=>by simp only[frV];exact hv.mono hF.1 λi hi=>⟨hi,rfl⟩
 | .mref i,v,_,hv=>by simp only[frV];exact hv.mono hF.1 λi hi=>⟨hi,rfl⟩
 | .any,v,_,_=>by simp only[frV];exact .any
theorem Lu{F:Frz}(hF:AEO B B' ι F):∀(l:List AVal) (ys:Array Value),EL (frCL F l)->(∀(j:Nat) (x:AVal) (y:Value),l[j]?=some x->ys[j]?=some y->VRel B ι D x y) ->
  ∀(j:Nat) (x:AVal) (y:Value),(frL F l)[j]?=some x->ys[j]?=some y->VRel B' ι D x y
 |[],ys,_,_,j,x,y,hx,_=>by simp[frL] at hx
 |a :: l,ys,h,hr,j,x,y,hx,hy=>by
  obtain⟨h1,h2⟩:=BW (by simpa only[frCL] using h)
  cases j with
  |zero=>
   simp only[frL,List.getElem?_cons_zero,Option.some.injEq] at hx
   subst hx
   exact BFS hF a y h1 (hr 0 a y rfl hy)
  |succ j=>
   simp only[frL,List.getElem?_cons_succ] at hx
   exact Lu hF l (ys.extract 1 ys.size) h2 (λi x y hx hy=>hr (i+1) x y (by simpa using hx) (by
    rw[Array.getElem?_extract] at hy
    split at hy
    ·rw[Nat.add_comm];exact hy
    ·cases hy)) j x y hx (by
    have hlt:=(Array.getElem?_eq_some_iff.1 hy).1
    rw[Array.getElem?_extract,if_pos (by omega),Nat.add_comm];exact hy)
end
mutual
theorem VRel.keep{p:Nat->Bool}(hp:∀i,p i=true->D' i/\ι' i=ι i):∀(a:AVal) (v:Value),fM p a=true->VRel B ι D a v->VRel B ι' D' a v
 | .d x,v,_,hv=>.d hv.d_inv
 | .agg cs,v,h,hv=>by
  cases hv with
  |agg hl hr=>exact .agg hl λj x y hx hy=>VRel.keepL hp cs (by simpa only[fM] using h) j x y hx (hr j x y hx hy)
 | .tup cs,v,h,hv=>by
  cases hv with
  |tup hl hr=>exact .tup hl λj x y hx hy=>VRel.keepL hp cs (by simpa only[fM] using h) j x y hx (hr j x y hx hy)
 | .bptr i c,v,h,hv=>by cases hv;rw[<-(hp i (by simpa only[fM] using h)).2];exact .bptr (hp i (by simpa only[fM] using h)).1
 | .rptr i k e c,v,h,hv=>by cases hv;rw[<-(hp i (by simpa only[fM] using h)).2];exact .rptr (hp i (by simpa only[fM] using h)).1
 | .own i k e n,v,h,hv=>by
  cases hv with
  |own _ h1 h2=>rw[<-(hp i (by simpa only[fM] using h)).2] at h2 ⊢;exact .own (hp i (by simpa only[fM] using h)).1 h1 h2
 | .fn f a b,v,h,hv=>by
  simp only[fM,Bool.and_eq_true] at h
  cases hv with
  |fn h1 h2 h3 h4=>exact .fn h1 h2 (λj x y hx hy=>VRel.keepL hp a h.1 j x y hx (h3 j x y hx hy)) λj x y hx hy=>VRel.keepL hp b h.2 j x y hx (h4 j x y hx hy)
 | .mref i,v,h,hv=>by cases hv;rw[<-(hp i (by simpa only[fM] using h)).2];exact .mref (hp i (by simpa only[fM] using h)).1
 | .any,v,_,_=>.any
 | .opt g a,v,h,hv=>by
  cases hv with
  |opt h1 h2=>exact .opt (λhg=>VRel.keep hp a v (by simpa only[fM] using h) (h1 hg)) h2
theorem VRel.keepL{p:Nat->Bool}(hp:∀i,p i=true->D' i/\ι' i=ι i):∀(l:List AVal),RF p l=true->∀(j:Nat) (x:AVal) (v:Value),l[j]?=some x->VRel B ι D x v->VRel B ι' D' x v
 |[],_,j,x,v,hx,_=>by simp at hx
 |a :: l,h,0,x,v,hx,hv=>by simp at hx;subst hx;simp only[RF,Bool.and_eq_true] at h;exact VRel.keep hp a v h.1 hv
 |a :: l,h,j+1,x,v,hx,hv=>by simp only[RF,Bool.and_eq_true] at h;exact VRel.keepL hp l h.2 j x v (by simpa using hx) hv
end
structure Pack where
 sl:List Nat
 ids:List Nat
 fz:List Nat:=[]
def gV(F:Frz):HCell->HCell
 | .live (.box es)=>.live (.box (frL F es))
 | .live (.abox es m g)=>.live (.abox (frL F es) m g)
 |x=>x
def DFT(F:Frz):HCell->List Prop
 | .live (.box es)=>frCL F es
 | .live (.abox es _ _)=>frCL F es
 |_=>[]
def BTI(p:Nat->Bool):HCell->Bool
 | .live o=>okO p o
 | .dead=>true
 | .none=>false
def Gx(p:Pack)(σ:AState):ST:=
 ⟨p.sl.map λt=>(t,frV (WM σ.H p.fz) (σ.sl t)),p.ids.map λi=>(i,gV (WM σ.H p.fz) (IF σ.H p.fz i))⟩
def CQZ(p:Pack)(σ:AState):List Prop:=(p.sl.flatMap λt=>frC (WM σ.H p.fz) (σ.sl t)) ++ p.ids.flatMap λi=>DFT (WM σ.H p.fz) (IF σ.H p.fz i)
def BTG(p:Pack)(E:List Nat)(s:ST):Bool:=
 s.sl.all (λx=>fM (λi=>p.ids.contains i) x.2)&&s.H.all (λx=>BTI (λi=>p.ids.contains i) x.2)&&E.all (λi=>p.ids.contains i)&&nodup p.ids
def APG(o:Option Pack)(E:List Nat)(σ:AState)(K:AState->Prop):Prop:=match o with
 |none=>K σ
 |some p=>if BTG p E (Gx p σ) then zN (CQZ p σ) (K (Gx p σ).st) else False
theorem jP{α:Type}{f:α->List Prop}:∀{l:List α},EL (l.flatMap f)->∀x∈l,EL (f x)
 |[],_,x,hx=>by cases hx
 |a :: l,h,x,hx=>by
  rw[List.flatMap_cons] at h
  obtain⟨h1,h2⟩:=BW h
  rcases List.mem_cons.1 hx with rfl | hx
  ·exact h1
  ·exact jP h2 x hx
theorem ACU(f:Nat->AVal):∀(l:List Nat) (t:Nat),QK (l.map λt=>(t,f t)) t=.any∨(t∈l/\QK (l.map λt=>(t,f t)) t=f t)
 |[],t=>.inl rfl
 |a :: l,t=>by
  simp only[List.map_cons,QK]
  split
  ·rename_i h;subst h;exact .inr ⟨by simp,rfl⟩
  ·rcases ACU f l t with h | ⟨h1,h2⟩
   ·exact .inl h
   ·exact .inr ⟨by simp[h1],h2⟩
theorem CEY(f:Nat->HCell):∀(l:List Nat) (i:Nat),Lm (l.map λi=>(i,f i)) i=if l.contains i then some (f i) else none
 |[],i=>rfl
 |a :: l,i=>by
  simp only[List.map_cons,Lm,CEY f l,List.contains_cons]
  by_cases h:i=a
  ·subst h;simp
  ·have:(i==a)=false:=by simpa using h
   rw[if_neg h,this];simp
theorem Moved.pack{B0:Rr}{ι0:Nat->Pl}{H0:Heap}{w0:World}{p:Pack}{E:List Nat}(hE:∀i,H0.dom i->i∈E)(hok:BTG p E (Gx p σ)=true)(hc:EL (CQZ p σ))(hm0:Moved B0 ι0 H0 w0 B ι σ.H w) :
  ∃B',Moved B0 ι0 H0 w0 B' ι (Gx p σ).st.H w/\(∀t v,VRel B ι σ.H.dom (σ.sl t) v->VRel B' ι (Gx p σ).st.H.dom ((Gx p σ).st.sl t) v)/\(∀i o,(Gx p σ).st.H i=.live o->∃o',σ.H i=.live o') /\
   (∀b c,B b=some c->B' b=some c)/\∀i∈E,(Gx p σ).st.H.dom i:=by
 simp only[BTG,Bool.and_eq_true,List.all_eq_true] at hok
 obtain⟨⟨⟨o1,o2⟩,o3⟩,o4⟩:=hok
 obtain⟨c1,c2⟩:=BW hc
 obtain⟨B',hk,hF⟩:=Ea p.fz hm0.heap
 have hm:=hm0.trans hk
 have hcell:∀i∈p.ids,BTI (λi=>p.ids.contains i) (gV (WM σ.H p.fz) (IF σ.H p.fz i))=true:=λi hi=>o2 _ (List.mem_map.2 ⟨i,hi,rfl⟩)
 have hH:∀i,(Gx p σ).st.H i=if p.ids.contains i then gV (WM σ.H p.fz) (IF σ.H p.fz i) else .none:=λi=>by
  show (Lm _ i).getD .none=_
  rw[Gx,CEY];split<;>rfl
 have hdom:∀i,p.ids.contains i=true->(Gx p σ).st.H.dom i/\ι i=ι i:=λi hi=>by
  refine⟨?_,rfl⟩
  unfold Heap.dom
  rw[hH,if_pos hi]
  have:=hcell i (by simpa using hi)
  intro he;rw[he] at this;cases this
 have live:∀i o,(Gx p σ).st.H i=.live o->∃o',i∈p.ids/\IF σ.H p.fz i=.live o'/\gV (WM σ.H p.fz) (.live o')=.live o:=λi o hi=>by
  rw[hH] at hi
  split at hi
  ·rename_i hc
   cases hq:IF σ.H p.fz i with
   |live o'=>rw[hq] at hi;exact⟨o',by simpa using hc,rfl,hi⟩
   |none=>rw[hq] at hi;cases hi
   |dead=>rw[hq] at hi;cases hi
  ·cases hi
 refine⟨B',?_,λt v hv=>?_,λi o hi=>by obtain⟨o',_,ho,_⟩:=live i o hi;exact⟨o',Zi p.fz ho⟩,hF.1,λi hi=>(hdom i (o3 i hi)).1⟩
 ·refine⟨hm.bm,hm.bn,λi hi=>?_,⟨λi o hi=>?_,λi j o o' hi hj hij=>?_,λi o hi=>?_,hm.heap.imm⟩,λi o hi=>?_,hm.frame,hm.size,hm.calm⟩
  ·exact⟨(hdom i (o3 i (hE i hi))).1,(hm.im i hi).2⟩
  ·obtain⟨o',hid,ho,he⟩:=live i o hi
   have h1:=hm0.heap.obj _ _ (Zi p.fz ho)
   generalize w.heap[(ι i).b]?=q at h1 ⊢
   have hok:=hcell i hid
   rw[ho] at hok
   cases o' with
   |box es=>
    simp only[gV,HCell.live.injEq] at he
    subst he
    have h2:=jP c2 i hid
    rw[ho] at h2
    cases h1 with
    |box hsz hr=>
     refine .box (by rw[eJ];exact hsz) λj x z hx hz=>?_
     exact VRel.keepL hdom _ (by simpa only[BTI,gV,okO] using hok) j x z hx (Lu hF es _ h2 hr j x z hx hz)
   |row k n g=>
    simp only[gV,HCell.live.injEq] at he
    subst he
    cases h1 with
    |row a b cc d=>exact .row a b cc λi j x y hi hx hy=>(d i j x y hi hx hy).mono hF.1
   |imap q z hs g st pend=>
    simp only[gV,HCell.live.injEq] at he
    subst he
    cases h1 with
    |imap a=>exact .imap (a.mono hF.1)
   |abox es m g=>
    simp only[gV,HCell.live.injEq] at he
    subst he
    have h2:=jP c2 i hid
    rw[ho] at h2
    cases h1 with
    |abox hsz hr hb=>
     refine .abox (by rw[eJ];exact hsz) (λj x z hx hz=>?_) (by rw[eJ];exact hb)
     exact VRel.keepL hdom _ (by simpa only[BTI,gV,okO] using hok) j x z hx (Lu hF es _ h2 hr j x z hx hz)
   |miter m a b c d=>
    simp only[gV,HCell.live.injEq] at he
    subst he
    cases h1 with
    |miter hD h1 h2 h3 h4 h5=>exact .miter (hdom m (by simpa only[BTI,gV,okO] using hok)).1 h1 h2 h3 h4 h5
  ·obtain⟨_,_,h1,_⟩:=live i o hi
   obtain⟨_,_,h2,_⟩:=live j o' hj
   exact hm.heap.inj _ _ _ _ h1 h2 hij
  ·obtain⟨_,_,h1,_⟩:=live i o hi
   exact hm.heap.sep _ _ h1
  ·obtain⟨_,_,h1,_⟩:=live i o hi
   exact hm.own _ _ h1
 ·rcases ACU (λt=>frV (WM σ.H p.fz) (σ.sl t)) p.sl t with h | ⟨h1,h2⟩
  ·show VRel _ _ _ (QK _ t) _
   rw[Gx,h];exact .any
  ·show VRel _ _ _ (QK _ t) _
   rw[Gx,h2]
   exact VRel.keep hdom _ _ (o1 _ (List.mem_map.2 ⟨t,h1,rfl⟩)) (BFS hF _ _ (jP c1 t h1) hv)
theorem Rel.pack{p:Pack}{E:List Nat}{a:Act}(hE:∀i,c.H0.dom i->i∈E)(hok:BTG p E (Gx p σ)=true)(hc:EL (CQZ p σ))(hR:Rel c B ι σ a w):∃B',Rel c B' ι (Gx p σ).st a w:=by
 obtain⟨B',h1,h2,h3,_⟩:=Moved.pack hE hok hc hR.mv
 obtain⟨Ds,d1,d0,d2,d3⟩:=hR.defers
 refine⟨B',λt=>h2 t _ (hR.slots t),hR.size,⟨Ds,d1,d0,d2,λD hD=>⟨(d3 D hD).1,(d3 D hD).2.here,λi o hi=>?_⟩⟩,h1⟩
 obtain⟨o',ho⟩:=h3 i o hi
 exact (d3 D hD).2.sep _ _ ho
theorem CodeE.noGoto{x:Code}(h:CodeE P c x (CMT Q) σ):CodeE P c (.scope x) Q σ:=by
 intro B ι a w hR
 refine AOH (Code.wpIn_mono (λe a w hq=>?_) (h B ι a w hR))
 obtain⟨B',ι',σ',hq,hR'⟩:=hq
 cases e with
 |goto l=>exact hq.elim
 |_=>exact⟨B',ι',σ',hq,hR'⟩
theorem CRW{l:List Prop}{K K':Prop}(hK:K->K')(h:zN l K):zN l K':=by
 cases l with
 |nil=>exact hK h
 |cons=>exact⟨h.1,hK h.2⟩
theorem BDH{Γ:FuncId->Option Spec}{mt:Bool}{base n:Nat}{ops:Array Oper}{draw:Bool}{K K':AState->Prop}(hK:∀σ,K σ->K' σ)(h:J2 P Γ mt base n ops draw σ K):J2 P Γ mt base n ops draw σ K':=by
 unfold J2 at *
 split at h
 ·split at h
  ·rename_i hc;rw[if_pos hc];exact CRW (hK _) h
  ·exact h.elim
 ·exact h
end Go.Sym
