/- A list of operations, reckoned. -/
import Derived.Test.YtpidmmilfdcepaaGreatSym8
set_option linter.unusedVariables false
set_option linter.unusedSimpArgs false
namespace Go.Sym
variable {P : Program} {B B' : Fi} {ι ι' : Nat -> Pl} {H H' : Heap} {D : Nat -> Prop} {w w' : World} {c : Ctx} {σ : AState} {Q : Exit -> AState -> Prop}
structure CallR where
 ids:List Nat
 val:AVal
 upd:List (Nat×HCell)
 pre:List Prop
abbrev Spec:=List AVal->Heap->Nat->Option CallR
def AH(P:Program)(g:FuncId)(s:Spec):Prop:=∀as H r x,s as H r=some x->DJ x.pre->ARK P g as r (x.ids.map λi=>(i,H i)) x.val x.upd
def isNone:HCell->Bool
 | .none=>true
 |_=>false
theorem Vx{c:HCell}(h:isNone c=true):c=.none:=by cases c<;>first | rfl | cases h
def Vg(H:Heap)(r:Nat):Bool:=(List.range 16).all λi=>isNone (H (r+i))
theorem Jc{r:Nat}(h:Vg H r=true):∀i,r<=i->i<r+16->H i=.none:=λi h1 h2=>by
 simp only[Vg,List.all_eq_true,List.mem_range] at h
 have:=Vx (h (i-r) (by omega))
 rwa [show r+(i-r)=i by omega] at this
def ATF(n:Nat)(o:Oper):Bool:=match o.dst with
 |some d=>Nat.blt d n
 |none=>true
theorem Wi{n:Nat}{o:Oper}(h:ATF n o=true):∀d,o.dst=some d->d<n:=by
 intro d hd
 simpa[ATF,hd] using h
structure Stp where
 val:AVal
 upd:List (Nat×HCell)
 touch:List Nat
 pre:List Prop
def ALX(Γ:FuncId->Option Spec)(r:Nat)(f:AVal)(args:List AVal)(H:Heap):Option CallR:=match f with
 | .fn (.func g) first caps=>match Γ g with
  |some s=>s (first ++ args ++ caps) H r
  |none=>none
 |_=>none
def gopB(P:Program)(r:Nat)(ρ:Operand->AVal)(H:Heap)(g:Bool)(op:Op):Option (AVal×List Prop):=match op with
 | .pick c a b=>match CQ (ρ c) with
  | .d (.v (.bool t))=>some (ALK t (CQ (ρ a)) (CQ (ρ b)),[])
  |_=>none
 | .buildSlice t len ps=>match VU P r t len (ps.toList.map λp=>(p.1,CQ (ρ p.2))) with
  |some ⟨_,[(_,.live (.row k n get))],_⟩=>some (.d (.list k n get true),[])
  |_=>none
 | .makeSlice t l c=>match Ge P r t (CQ (ρ l)) (CQ (ρ c)) with
  |some ⟨_,[(_,.live (.row k n get))],p⟩=>some (.d (.list k n get true),bO g p)
  |_=>none
 |op=>match opA P false r (λx=>CQ (ρ x)) H op with
  |some ⟨v,[],p⟩=>some (v,bO g p)
  |_=>none
def CMV(P:Program)(Γ:FuncId->Option Spec)(mt:Bool)(r:Nat)(σ:AState):Op->Option Stp
 | .call ⟨.value f,args,_⟩=>match ALX Γ r (BH σ.sl f) (args.toList.map (BH σ.sl)) σ.H with
  |some x=>if Vg σ.H r then some ⟨x.val,x.upd,x.ids ++ (List.range 16).map (r + ·),x.pre⟩ else none
  |none=>none
 | .call ⟨.invoke x m,args,_⟩=>match BH σ.sl x with
  | .d (.iface t d)=>match AJZ P t m with
   |some g=>match ALX Γ r (.fn (.func g) [.d d] []) (args.toList.map (BH σ.sl)) σ.H with
    |some x=>if Vg σ.H r then some ⟨x.val,x.upd,x.ids ++ (List.range 16).map (r + ·),x.pre⟩ else none
    |none=>none
   |none=>none
  |_=>none
 | .pick c a b=>match BH σ.sl c with
  | .d (.v (.bool t))=>if isNone (σ.H r) then some ⟨ALK t (CQ (BH σ.sl a)) (CQ (BH σ.sl b)),[],r :: aM (BH σ.sl) (.pick c a b),[]⟩ else none
  |_=>none
 |op=>match opA P mt r (BH σ.sl) σ.H op with
  |some e=>if isNone (σ.H r) then some ⟨e.val,e.upd,r :: aM (BH σ.sl) op,e.pre⟩ else none
  |none=>none
def stepG(P:Program)(Γ:FuncId->Option Spec)(r:Nat)(σ:AState)(g:Bool):Op->Option (AVal×List Nat×List Prop)
 | .call ⟨.value f,args,_⟩=>match ALX Γ r (CQ (BH σ.sl f)) (args.toList.map λx=>CQ (BH σ.sl x)) σ.H with
  |some ⟨ids,v,[],p⟩=>if Vg σ.H r then some (v,ids ++ (List.range 16).map (r + ·),bO g p) else none
  |_=>none
 |op=>match gopB P r (BH σ.sl) σ.H g op with
  |some (v,p)=>if isNone (σ.H r) then some (v,r :: aM (λx=>CQ (BH σ.sl x)) op,p) else none
  |none=>none
def AIH(P:Program)(Γ:FuncId->Option Spec)(mt:Bool)(ops:Array Oper)(r:Nat)(σ:AState)(o:Oper):Option Stp:=match o.guard with
 |none=>CMV P Γ mt r σ o.op
 |some (j,want)=>match GC ops σ.sl j want with
  |some g=>match stepG P Γ r σ g o.op with
   |some (v,touch,p)=>some ⟨.opt g v,[],touch,p⟩
   |none=>none
  |none=>none
theorem bV{g:Bool}{l:List Prop}(h:g=true->DJ l):DJ (bO g l):=by
 cases l with
 |nil=>trivial
 |cons=>exact h
theorem uT{op:Op}(h:∀c a b,op=.pick c a b->False)(sl:Nat->AVal)(o:Oper)(ho:o.op=op)(q:Nat×Bool)(hq:o.guard=some q):jR sl o=ZX (BH sl) op.operands.toList:=by
 unfold jR
 rw[ho,hq]
 cases op<;>first | rfl | exact (h _ _ _ rfl).elim
def GOk(P:Program)(Γ:FuncId->Option Spec):Prop:=∀g s,Γ g=some s->AH P g s
theorem Xy{Γ:FuncId->Option Spec}(hΓ:GOk P Γ){r:Nat}{f:AVal}{args:List AVal}{x:CallR}(h:ALX Γ r f args H=some x):∃g first caps,f=.fn (.func g) first caps/\(DJ x.pre->ARK P g (first ++ args ++ caps) r (x.ids.map λi=>(i,H i)) x.val x.upd):=by
 unfold ALX at h
 split at h
 ·rename_i g first caps
  split at h
  ·rename_i s hs
   exact⟨g,first,caps,rfl,hΓ g s hs _ _ _ _ h⟩
  ·cases h
 ·cases h
theorem aY(l:List Nat)(H:Heap):∀p∈l.map (λi=>(i,H i)),H p.1=p.2:=λp hp=>by
 obtain⟨i,_,rfl⟩:=List.mem_map.1 hp;rfl
theorem BVG{r:Nat}{sl:Nat->AVal}{g:Bool}{o:Oper}{q:Nat×Bool}{v:AVal}{p:List Prop}(h:gopB P r (BH sl) H g o.op=some (v,p))(hq:o.guard=some q)(hp:DJ p)(ht:g=true->DJ (jR sl o)):∃p',gopA P r (BH sl) H g o.op=some (v,p')/\DJ p':=by
 unfold gopB at h
 split at h
 ·rename_i c a b ho
  split at h
  ·rename_i t hc
   cases h
   refine⟨bO g (Oi True (BH sl c) ++ (Oi (t=true) (BH sl a) ++ Oi (t=false) (BH sl b))),by rw[ho];simp only[gopA,hc],bV λhg=>?_⟩
   have:=ht hg
   unfold jR at this
   rw[ho,hq] at this
   simp only[hc] at this
   exact this
  ·cases h
 ·rename_i t len ps ho
  split at h
  ·rename_i hb
   cases h
   refine⟨bO g (ZX (BH sl) (Op.buildSlice t len ps).operands.toList),by rw[ho];simp only[gopA,hb],bV λhg=>?_⟩
   have:=ht hg
   rw[uT (λ_ _ _ h=>by cases h) sl o ho _ hq] at this
   exact this
  ·cases h
 ·rename_i t l c ho
  split at h
  ·rename_i v0 r0 k n get p0 hb
   cases h
   refine⟨bO g (Oi True (BH sl l) ++ (Oi True (BH sl c) ++ p0)),by rw[ho];simp only[gopA,hb],bV λhg=>?_⟩
   have:=ht hg
   rw[uT (λ_ _ _ h=>by cases h) sl o ho _ hq] at this
   exact SO.2 ⟨Mg this l (by simp[Op.operands]),SO.2 ⟨Mg this c (by simp[Op.operands]),Bh hp hg⟩⟩
  ·cases h
 ·rename_i h1 h2 h3
  split at h
  ·rename_i e1 e2 ho
   cases h
   refine⟨bO g (ZX (BH sl) o.op.operands.toList ++ e2),?_,bV λhg=>?_⟩
   ·unfold gopA
    split
    ·rename_i c a b hop;exact (h1 c a b hop).elim
    ·rename_i t len ps hop;exact (h2 t len ps hop).elim
    ·rename_i t l c hop;exact (h3 t l c hop).elim
    ·rw[ho]
   ·have:=ht hg
    rw[uT (λc a b h=>h1 c a b h) sl o rfl _ hq] at this
    exact SO.2 ⟨this,Bh hp hg⟩
  ·cases h
theorem AIR{Γ:FuncId->Option Spec}{mt:Bool}{ops:Array Oper}{r:Nat}{o:Oper}{s:Stp}(h:AIH P Γ mt ops r σ o=some s)(q:Nat×Bool)(hq:o.guard=some q):∃g v,s.val=.opt g v/\GC ops σ.sl q.1 q.2=some g:=by
 unfold AIH at h
 rw[hq] at h
 simp only at h
 split at h
 ·rename_i g hg
  split at h
  ·cases h;exact⟨g,_,rfl,hg⟩
  ·cases h
 ·cases h
theorem bI{Γ:FuncId->Option Spec}(hΓ:GOk P Γ){mt:Bool}{ops:Array Oper}{r:Nat}{o:Oper}{s:Stp}(h:AIH P Γ mt ops r σ o=some s)(hp:DJ s.pre)(ht:(∀q,o.guard=some q->GC ops σ.sl q.1 q.2=some true)->DJ (jR σ.sl o)):StepO P mt ops r σ o s.val s.upd s.touch:=by
 have mp:∀(l:List Nat),(l.map λi=>(i,σ.H i)).map (·.1)=l:=λl=>by
  induction l with
  |nil=>rfl
  |cons a l ih=>simp only[List.map_cons,ih]
 have ht':∀{j want g},o.guard=some (j,want)->GC ops σ.sl j want=some g->g=true->DJ (jR σ.sl o):=λhg hw hgt=>ht λq hq=>by
  rw[hg] at hq;cases hq;rw[hw,hgt]
 unfold AIH at h
 split at h
 ·rename_i hg
  unfold CMV at h
  split at h
  ·rename_i f args ats ho
   split at h
   ·rename_i x hx
    split at h
    ·rename_i hf
     cases h
     obtain⟨g,first,caps,he,hc⟩:=Xy hΓ hx
     have:=StepO.call (mt:=mt) (ops:=ops) hg ho he (hc hp) (aY _ _) (Jc hf)
     rw[mp] at this;exact this
    ·cases h
   ·cases h
  ·rename_i y m args ats ho
   split at h
   ·rename_i t d hy
    split at h
    ·rename_i g0 hm
     split at h
     ·rename_i x hx
      split at h
      ·rename_i hf
       cases h
       obtain⟨g,first,caps,he,hc⟩:=Xy hΓ hx
       cases he
       have hc':=hc hp
       simp only[List.cons_append,List.nil_append,List.append_nil] at hc'
       have:=StepO.inv (mt:=mt) (ops:=ops) hg ho hy hm hc' (aY _ _) (Jc hf)
       rw[mp] at this;exact this
      ·cases h
     ·cases h
    ·cases h
   ·cases h
  ·rename_i c a b ho
   split at h
   ·rename_i t hc
    split at h
    ·rename_i hf
     cases h
     have h0:=ht λq hq=>by rw[hg] at hq;cases hq
     have h1:DJ (Oi (t=true) (BH σ.sl a) ++ Oi (t=false) (BH σ.sl b)):=by
      unfold jR at h0
      rw[ho,hg] at h0
      simp only[hc,CQ,Oi,List.nil_append] at h0
      exact h0
     have:=StepO.op (P:=P) (mt:=mt) (ops:=ops) (r:=r) (σ:=σ) (o:=o) (e:=⟨ALK t (CQ (BH σ.sl a)) (CQ (BH σ.sl b)),[],Oi (t=true) (BH σ.sl a) ++ Oi (t=false) (BH σ.sl b)⟩) hg (by rw[ho];simp only[opA,hc]) h1 (Vx hf)
     rw[ho] at this;exact this
    ·cases h
   ·cases h
  ·split at h
   ·rename_i e he
    split at h
    ·rename_i hf
     cases h
     exact .op hg he hp (Vx hf)
    ·cases h
   ·cases h
 ·rename_i j want hg
  split at h
  ·rename_i g hw
   split at h
   ·rename_i v touch p hst
    cases h
    unfold stepG at hst
    split at hst
    ·rename_i f args ats ho
     split at hst
     ·rename_i ids v p hx
      split at hst
      ·rename_i hf
       cases hst
       obtain⟨g',first,caps,he,hc⟩:=Xy hΓ hx
       have:=StepO.gcall (mt:=mt) (ops:=ops) (r:=r) hg hw ho he (λh=>by
        have:=ht' hg hw h
        rw[uT (λ_ _ _ h=>by cases h) σ.sl o ho _ hg] at this
        rw[ho];exact this) (λh=>hc (Bh hp h)) (aY _ _) (Jc hf)
       rw[mp] at this;exact this
      ·cases hst
     ·cases hst
    ·split at hst
     ·rename_i v p he
      split at hst
      ·rename_i hf
       cases hst
       obtain⟨p',h1,h2⟩:=BVG (sl:=σ.sl) (o:=o) he hg hp (ht' hg hw)
       exact .gop hg hw h1 h2 (Vx hf)
      ·cases hst
     ·cases hst
   ·cases h
  ·cases h
structure Run where
 st:AState
 pre:List Prop
 tab:List (List Nat×List Nat)
theorem A2(sl:Nat->AVal)(dst:Option Tmp)(v:AVal)(t:Nat):dZ sl dst v t=if dst=some t then v else sl t:=by
 cases dst with
 |none=>simp[dZ]
 |some d=>
  by_cases h:t=d
  ·simp[dZ,h]
  ·simp[dZ,h,Ne.symm h]
def tagC(ops:Array Oper)(k:Nat)(σ:AState)(o:Oper):List Prop:=match o.guard with
 |none=>BOB ops k σ.sl o
 |some (j,want)=>match GC ops σ.sl j want with
  |some g=>bO g (BOB ops k σ.sl o)
  |none=>[]
def ANF(P:Program)(Γ:FuncId->Option Spec)(mt:Bool)(ops:Array Oper)(base n:Nat):List Oper->Nat->AState->Option Run
 |[],_,σ=>some ⟨σ,[],[]⟩
 |o :: l,k,σ=>if ATF n o then match AIH P Γ mt ops (base+16*k) σ o with
   |some s=>match ANF P Γ mt ops base n l (k+1) (σ.app o.dst s.val s.upd) with
    |some x=>some ⟨x.st,tagC ops k σ o ++ (s.pre ++ x.pre),(s.touch,s.upd.map (·.1)) :: x.tab⟩
    |none=>none
   |none=>none
  else none
def yH(l:List (List Nat×List Nat)):J3:=λk=>l.getD k ([],[])
theorem AFO{ops:Array Oper}{k:Nat}{o:Oper}(hI:GInv ops σ.sl k)(hl:lowL ops.toList 0=true)(ho:ops[k]?=some o)(h:DJ (tagC ops k σ o))(hg:∀q,o.guard=some q->GC ops σ.sl q.1 q.2=some true):DJ (jR σ.sl o):=by
 refine BJD hI hl ho hg ?_
 unfold tagC at h
 split at h
 ·exact h
 ·rename_i j want hq
  have:=hg _ hq
  simp only at this
  rw[this] at h
  exact Bh h rfl
theorem ADF{Γ:FuncId->Option Spec}(hΓ:GOk P Γ){mt:Bool}{ops:Array Oper}{base n:Nat}{K:AState->Prop}(hl:lowL ops.toList 0=true)(hd:Hm ops.toList=true):∀(l:List Oper) (σ:AState) (x:Run) (T0:List (List Nat×List Nat)),ops.toList.drop T0.length=l->GInv ops σ.sl T0.length->ANF P Γ mt ops base n l T0.length σ=some x->DJ x.pre->K x.st ->
  LexT P mt ops base n (yH (T0 ++ x.tab)) K l T0.length σ
 |[],σ,x,T0,_,_,h,_,hK=>by simp only[ANF,Option.some.injEq] at h;subst h;exact hK
 |o :: l,σ,x,T0,hdr,hI,h,hp,hK=>by
  simp only[ANF] at h
  have ho:ops[T0.length]?=some o:=by
   have:(ops.toList.drop T0.length)[0]?=some o:=by rw[hdr];rfl
   simpa using this
  split at h
  ·rename_i hdo
   split at h
   ·rename_i s hs
    split at h
    ·rename_i y hy
     cases h
     obtain⟨hp0,hp1⟩:=BS hp
     obtain⟨hp1,hp2⟩:=BS hp1
     have hI':GInv ops (σ.app o.dst s.val s.upd).sl (T0.length+1):=hI.next hl hd ho (λq hq=>AIR hs q hq) _ (A2 _ _ _)
     have ih:=ADF hΓ hl hd l _ y (T0 ++ [(s.touch,s.upd.map (·.1))]) (by
      have:=congrArg List.tail hdr
      simpa using this) (by simpa using hI') (by simpa using hy) hp2 hK
     have ht:yH (T0 ++ ((s.touch,s.upd.map (·.1)) :: y.tab)) T0.length=(s.touch,s.upd.map (·.1)):=by simp[yH]
     refine⟨s.val,s.upd,s.touch,bI hΓ hs hp1 (AFO hI hl ho hp0),Wi hdo,by rw[ht],by rw[ht],?_⟩
     simpa using ih
    ·cases h
   ·cases h
  ·cases h
theorem ATX{mt:Bool}{ops:Array Oper}{base n:Nat}{T:J3}{K:AState->Prop}:∀(l:List Oper) (k:Nat) (σ:AState),LexT P mt ops base n T K l k σ->LexE P mt ops base n K l k σ
 |[],_,_,h=>h
 |o :: l,k,σ,h=>by
  obtain⟨val,upd,touch,h1,h2,_,_,h5⟩:=h
  exact⟨val,upd,touch,h1,h2,ATX l (k+1) _ h5⟩
def lT(P:Program)(Γ:FuncId->Option Spec)(mt:Bool)(base n:Nat)(ops:Array Oper)(draw:Bool)(σ:AState)(K:AState->Prop):Prop:=
 match ANF P Γ mt ops base n ops.toList 0 σ with
 |some x=>if lowL ops.toList 0&&Hm ops.toList&&(!draw||lexFromT .any ops (yH x.tab) ops.size 0 (Array.replicate ops.size false)) then iM x.pre (K x.st) else False
 |none=>False
theorem J1{Γ:FuncId->Option Spec}(hΓ:GOk P Γ)(hm:P.follows .mixedOrders=true){mt:Bool}{base:Nat}{id:Nat}{ops:Array Oper}{draw:Bool}(h:lT P Γ mt base c.n ops draw σ (Q .normal)):CodeE P c (.region id ops draw) Q σ:=by
 unfold lT at h
 split at h
 ·rename_i x hx
  split at h
  ·rename_i hc
   simp only[Bool.and_eq_true] at hc
   obtain⟨⟨hl,hd⟩,h1⟩:=hc
   obtain⟨h2,h3⟩:=LJ h
   have hl:=ADF hΓ (K:=Q .normal) hl hd ops.toList σ x [] (by simp) (λi _ _ _ hi=>by simp at hi) (by simpa using hx) h2 h3
   simp only[List.nil_append,List.length_nil] at hl
   cases draw with
   |false=>exact BLF (ATX _ _ _ hl)
   |true=>exact uY hm (by simpa using h1) hl
  ·exact h.elim
 ·exact h.elim
structure RunG where
 st:AState
 pre:List Prop
 tab:List (List Nat×List Nat)
 g:Option Bool
def BPW(P:Program)(Γ:FuncId->Option Spec)(r:Nat)(σ:AState)(as:Bool)(op:Op):Option Stp:=match op with
 | .call ⟨.value f,args,_⟩=>match ALX Γ r (CQ (BH σ.sl f)) (args.toList.map λx=>CQ (BH σ.sl x)) σ.H with
  |some x=>match as with
   |false=>some ⟨.opt false x.val,[],[],[]⟩
   |true=>if Vg σ.H r then some ⟨.opt true x.val,x.upd,x.ids ++ (List.range 16).map (r + ·),x.pre⟩ else none
  |none=>none
 |_=>none
def runG(P:Program)(Γ:FuncId->Option Spec)(md:Nat->Nat)(as:Bool)(ops:Array Oper)(base n:Nat):List Oper->Nat->AState->Option RunG
 |[],_,σ=>some ⟨σ,[],[],none⟩
 |o :: l,k,σ=>if ATF n o then bif Nat.beq (md k) 10 then match o.guard with
   |some (j,want)=>match GC ops σ.sl j want,BPW P Γ (base+16*k) σ as o.op with
    |some g,some s=>match runG P Γ md as ops base n l (k+1) (σ.app o.dst s.val s.upd) with
     |some ⟨st,pre,tab,none⟩=>some ⟨st,tagC ops k σ o ++ (s.pre ++ pre),(s.touch,s.upd.map (·.1)) :: tab,some g⟩
     |_=>none
    |_,_=>none
   |none=>none
  else match AIH P Γ false ops (base+16*k) σ o with
   |some s=>match runG P Γ md as ops base n l (k+1) (σ.app o.dst s.val s.upd) with
    |some x=>some ⟨x.st,tagC ops k σ o ++ (s.pre ++ x.pre),(s.touch,s.upd.map (·.1)) :: x.tab,x.g⟩
    |none=>none
   |none=>none
  else none
theorem BDK{Γ:FuncId->Option Spec}(hΓ:GOk P Γ){ops:Array Oper}{r:Nat}{o:Oper}{s:Stp}{as:Bool}{j:Nat}{want:Bool}(hg:o.guard=some (j,want))(hw:GC ops σ.sl j want=some as)(h:BPW P Γ r σ as o.op=some s)(hp:DJ s.pre)(ht:as=true->DJ (jR σ.sl o)):StepO P false ops r σ o s.val s.upd s.touch:=by
 have mp:∀(l:List Nat),(l.map λi=>(i,σ.H i)).map (·.1)=l:=λl=>by
  induction l with
  |nil=>rfl
  |cons a l ih=>simp only[List.map_cons,ih]
 unfold BPW at h
 split at h
 ·rename_i f args ats ho
  split at h
  ·rename_i x hx
   split at h
   ·cases h;exact .gskip hg hw
   ·split at h
    ·rename_i hf
     cases h
     obtain⟨g',first,caps,he,hc⟩:=Xy hΓ hx
     have:=StepO.gcallT (mt:=false) (ops:=ops) (r:=r) hg hw ho he (by
      have:=ht rfl
      rw[uT (λ_ _ _ h=>by cases h) σ.sl o ho _ hg] at this
      rw[ho];exact this) (hc hp) (aY _ _) (Jc hf)
     rw[mp] at this;exact this
    ·cases h
  ·cases h
 ·cases h
theorem pY{Γ:FuncId->Option Spec}(hΓ:GOk P Γ){md:Nat->Nat}{as:Bool}{ops:Array Oper}{base n:Nat}{K:AState->Prop}(hl:lowL ops.toList 0=true)(hd:Hm ops.toList=true):∀(l:List Oper) (σ:AState) (x:RunG) (T0:List (List Nat×List Nat)),ops.toList.drop T0.length=l->GInv ops σ.sl T0.length->runG P Γ md as ops base n l T0.length σ=some x->(∀g,x.g=some g->g=as)->DJ x.pre->K x.st ->
  LexT P false ops base n (yH (T0 ++ x.tab)) K l T0.length σ
 |[],σ,x,T0,_,_,h,_,_,hK=>by simp only[runG,Option.some.injEq] at h;subst h;exact hK
 |o :: l,σ,x,T0,hdr,hI,h,hga,hp,hK=>by
  simp only[runG] at h
  have ho:ops[T0.length]?=some o:=by
   have:(ops.toList.drop T0.length)[0]?=some o:=by rw[hdr];rfl
   simpa using this
  split at h
  case isFalse=>cases h
  rename_i hdo
  cases hm:Nat.beq (md T0.length) 10 with
  |true=>
   rw[hm] at h
   simp only[cond_true] at h
   split at h
   case h_2=>cases h
   rename_i j want hgd
   split at h
   case h_2=>cases h
   rename_i g s hgA hs
   split at h
   case h_2=>cases h
   rename_i st pre tab hy
   cases h
   obtain rfl:g=as:=hga g rfl
   obtain⟨hp0,hp1⟩:=BS hp
   obtain⟨hp1,hp2⟩:=BS hp1
   have hv:∃v,s.val=.opt g v:=by
    unfold BPW at hs
    split at hs
    ·split at hs
     ·split at hs
      ·cases hs;exact⟨_,rfl⟩
      ·split at hs
       ·cases hs;exact⟨_,rfl⟩
       ·cases hs
     ·cases hs
    ·cases hs
   obtain⟨v,hv⟩:=hv
   have hI':GInv ops (σ.app o.dst s.val s.upd).sl (T0.length+1):=hI.next hl hd ho (λq hq=>⟨g,v,hv,by rw[hgd] at hq;cases hq;exact hgA⟩) _ (A2 _ _ _)
   have ih:=pY hΓ hl hd l _ ⟨st,pre,tab,none⟩ (T0 ++ [(s.touch,s.upd.map (·.1))]) (by
    have:=congrArg List.tail hdr
    simpa using this) (by simpa using hI') (by simpa using hy) (λ_ h=>by cases h) hp2 hK
   have ht:yH (T0 ++ ((s.touch,s.upd.map (·.1)) :: tab)) T0.length=(s.touch,s.upd.map (·.1)):=by simp[yH]
   refine⟨s.val,s.upd,s.touch,BDK hΓ hgd hgA hs hp1 (λhgt=>AFO hI hl ho hp0 λq hq=>by rw[hgd] at hq;cases hq;rw[hgA,hgt]),Wi hdo,by rw[ht],by rw[ht],?_⟩
   simpa using ih
  |false=>
   rw[hm] at h
   simp only[cond_false] at h
   split at h
   case h_2=>cases h
   rename_i s hs
   split at h
   case h_2=>cases h
   rename_i y hy
   cases h
   obtain⟨hp0,hp1⟩:=BS hp
   obtain⟨hp1,hp2⟩:=BS hp1
   have hI':GInv ops (σ.app o.dst s.val s.upd).sl (T0.length+1):=hI.next hl hd ho (λq hq=>AIR hs q hq) _ (A2 _ _ _)
   have ih:=pY hΓ hl hd l _ y (T0 ++ [(s.touch,s.upd.map (·.1))]) (by
    have:=congrArg List.tail hdr
    simpa using this) (by simpa using hI') (by simpa using hy) hga hp2 hK
   have ht:yH (T0 ++ ((s.touch,s.upd.map (·.1)) :: y.tab)) T0.length=(s.touch,s.upd.map (·.1)):=by simp[yH]
   refine⟨s.val,s.upd,s.touch,bI hΓ hs hp1 (AFO hI hl ho hp0),Wi hdo,by rw[ht],by rw[ht],?_⟩
   simpa using ih
def AVE(P:Program)(Γ:FuncId->Option Spec)(md:Nat->Nat)(base n:Nat)(ops:Array Oper)(σ:AState)(K:AState->Prop):Prop:=
 match runG P Γ md true ops base n ops.toList 0 σ,runG P Γ md false ops base n ops.toList 0 σ with
 |some ⟨s1,p1,t1,some g1⟩,some ⟨s0,p0,t0,some g0⟩=>if lowL ops.toList 0&&Hm ops.toList&&lexFromT .any ops (yH t1) ops.size 0 (Array.replicate ops.size false)&&lexFromT .any ops (yH t0) ops.size 0 (Array.replicate ops.size false) then iM [g0=g1] (bif g1 then iM p1 (K s1) else iM p0 (K s0)) else False
 |_,_=>False
theorem ARA{Γ:FuncId->Option Spec}(hΓ:GOk P Γ)(hm:P.follows .mixedOrders=true){md:Nat->Nat}{base:Nat}{id:Nat}{ops:Array Oper}(h:AVE P Γ md base c.n ops σ (Q .normal)):CodeE P c (.region id ops true) Q σ:=by
 unfold AVE at h
 split at h
 case h_2=>exact h.elim
 rename_i s1 p1 t1 g1 s0 p0 t0 g0 h1 h0
 split at h
 case isFalse=>exact h.elim
 rename_i hc
 simp only[Bool.and_eq_true] at hc
 obtain⟨⟨⟨hl,hd⟩,l1⟩,l0⟩:=hc
 obtain⟨hgg,h⟩:=LJ h
 obtain rfl:g0=g1:=hgg
 cases g0 with
 |true=>
  obtain⟨h2,h3⟩:=LJ (show iM p1 (Q .normal s1) from h)
  have hx:=pY hΓ (K:=Q .normal) hl hd ops.toList σ _ [] (by simp) (λi _ _ _ hi=>by simp at hi) (by simpa using h1) (λg hg=>by cases hg;rfl) h2 h3
  simp only[List.nil_append,List.length_nil] at hx
  exact uY hm (by simpa using l1) hx
 |false=>
  obtain⟨h2,h3⟩:=LJ (show iM p0 (Q .normal s0) from h)
  have hx:=pY hΓ (K:=Q .normal) hl hd ops.toList σ _ [] (by simp) (λi _ _ _ hi=>by simp at hi) (by simpa using h0) (λg hg=>by cases hg;rfl) h2 h3
  simp only[List.nil_append,List.length_nil] at hx
  exact uY hm (by simpa using l0) hx
end Go.Sym
namespace Go.Sym
variable {P : Program} {B B' : Fi} {ι ι' : Nat -> Pl} {H H' : Heap} {D D' : Nat -> Prop} {w w' : World} {c : Ctx} {σ : AState} {Q : Exit -> AState -> Prop}
structure Shape where
 α:Type
 dflt:α
 T:α->ST
 inv:α->Prop
 meas:α->Nat
 first:List (Nat×Nat):=[]
 again:List (Nat×Nat):=[]
 ffz:List Nat:=[]
 afz:List Nat:=[]
 /-- what the annotations within are told, behind the measure -/
 tag:List Nat:=[]
def Shape.at1(s:Shape):List (Nat×Nat)×List Nat:=(s.first,s.ffz)
def Shape.at2(s:Shape):List (Nat×Nat)×List Nat:=(s.again,s.afz)
abbrev C5:=List Shape
def Cy(E:List Nat)(sel:Shape->List (Nat×Nat)×List Nat)(σ:AState)(K:(s:Shape)->s.α->Prop):List Shape->Prop
 |[]=>False
 |s :: l=>if (Ae E (sel s).2 (sel s).1 (s.T s.dflt) σ).isSome then ∃a,BQA (Ae E (sel s).2 (sel s).1 (s.T a) σ) (K s a) else Cy E sel σ K l
theorem TA{E:List Nat}{sel:Shape->List (Nat×Nat)×List Nat}{K:(s:Shape)->s.α->Prop}:∀{l:List Shape},Cy E sel σ K l->∃s∈l,∃a,FO (Ae E (sel s).2 (sel s).1 (s.T a) σ)/\K s a
 |[],h=>h.elim
 |s :: l,h=>by
  unfold Cy at h
  split at h
  ·obtain⟨a,h⟩:=h
   obtain⟨h1,h2⟩:=Z2 h
   exact⟨s,by simp,a,h1,h2⟩
  ·obtain⟨s',h1,h2⟩:=TA h
   exact⟨s',by simp[h1],h2⟩
def allS(K:Shape->Prop):List Shape->Prop
 |[]=>True
 |[s]=>K s
 |s :: l=>K s/\allS K l
theorem Hn{K:Shape->Prop}:∀{l:List Shape},allS K l->∀s∈l,K s
 |[],_,s,h=>by cases h
 |[t],h,s,hs=>by simp at hs;subst hs;exact h
 |t :: u :: l,h,s,hs=>by
  rcases List.mem_cons.1 hs with rfl | hs
  ·exact h.1
  ·exact Hn (l:=u :: l) h.2 s hs
def Le:Code->Nat
 | .region id _ _=>id
 | .seq a _=>Le a
 | .block _ b=>Le b
 | .cond _ t _=>Le t
 | .loop b=>Le b
 | .scope b=>Le b
 | .rangeFunc _ _ a _=>Le a
 |_=>0
def AKG(Q:Exit->AState->Prop):Exit->AState->Prop
 | .goto _,_=>False
 |e,σ=>Q e σ
mutual
def frV(F:C2):AVal->AVal
 | .own id k i n=>match F id with
  |some (k2,_,get)=>if Nat.beq k k2 then .d (.list k n (λj=>get (i+j)) false) else .any
  |none=>.own id k i n
 | .agg cs=>AQG (frL F cs)
 | .tup cs=>ASM (frL F cs)
 | .fn f a b=>.fn f (frL F a) (frL F b)
 | .opt g a=>.opt g (frV F a)
 |a=>a
def frL(F:C2):List AVal->List AVal
 |[]=>[]
 |a :: r=>frV F a :: frL F r
end
mutual
def frC(F:C2):AVal->List Prop
 | .own id _ i n=>match F id with
  |some (_,m,_)=>[i+n<=m]
  |none=>[]
 | .agg cs=>frCL F cs
 | .tup cs=>frCL F cs
 | .fn _ a b=>frCL F a ++ frCL F b
 | .opt _ a=>frC F a
 |_=>[]
def frCL(F:C2):List AVal->List Prop
 |[]=>[]
 |a :: r=>frC F a ++ frCL F r
end
theorem Pw(F:C2):∀l:List AVal,(frL F l).length=l.length
 |[]=>rfl
 |a :: l=>by simp[frL,Pw F l]
theorem BVU(x:Value):vEq x x:=by
 unfold vEq;split<;>simp_all
mutual
theorem Nx:∀(x:DVal),HP x x
 | .v x=>by simp only[HP];exact BVU x
 | .agg xs=>by simp only[HP];exact N3 xs
 | .tup xs=>by simp only[HP];exact N3 xs
 | .list k n g e=>by simp only[HP];exact⟨.inl trivial,trivial,id,λi _=>Nx (g i)⟩
 | .arr k n g=>by simp only[HP];exact⟨trivial,trivial,λi _=>Nx (g i)⟩
 | .eref x c=>by simp only[HP];exact⟨trivial,Nx x⟩
 | .iface t x=>by simp only[HP];exact⟨trivial,Nx x⟩
 | .anyB=>by simp only[HP]
theorem N3:∀(l:List DVal),Hw l l
 |[]=>trivial
 |x :: l=>⟨Nx x,N3 l⟩
end
mutual
theorem AGB{F:C2}(hF:zP B B' ι F):∀(a:AVal) (v:Value),DJ (frC F a)->VRel B ι D a v->VRel B' ι D (frV F a) v
 | .own id k i n,v,h,hv=>by
  simp only[frC] at h
  simp only[frV]
  split
  ·rename_i k2 m get hf
   simp only[hf] at h
   split
   ·rename_i hk
    have:=Nat.eq_of_beq_eq_true hk;subst this
    exact .d (AOJ hF hf rfl h (λj _=>Nx _) hv)
   ·exact .any
  ·exact hv.mono hF.1 λi hi=>⟨hi,rfl⟩
 | .agg cs,v,h,hv=>by
  simp only[frV]
  cases hv with
  |agg hl hr=>exact E9 (by rw[Pw];exact hl) (Ca hF cs _ h hr)
 | .tup cs,v,h,hv=>by
  simp only[frV]
  cases hv with
  |tup hl hr=>exact ATT (by rw[Pw];exact hl) (Ca hF cs _ h hr)
 | .fn f a b,v,h,hv=>by
  simp only[frV]
  simp only[frC] at h
  obtain⟨h1,h2⟩:=BS h
  cases hv with
  |fn h3 h4 h5 h6=>exact .fn (by rw[Pw];exact h3) (by rw[Pw];exact h4) (Ca hF a _ h1 h5) (Ca hF b _ h2 h6)
 | .opt g a,v,h,hv=>by
  simp only[frV]
  cases hv with
  |opt h1 h2=>exact .opt (λhg=>AGB hF a v h (h1 hg)) h2
 | .d x,v,_,hv=>by simp only[frV];exact hv.mono hF.1 λi hi=>⟨hi,rfl⟩
 | .bptr i c,v,_,hv=>by simp only[frV];exact hv.mono hF.1 λi hi=>⟨hi,rfl⟩
 | .rptr i k e c,v,_,hv=>by simp only[frV];exact hv.mono hF.1 λi hi=>⟨hi,rfl⟩
 | .mref i,v,_,hv=>by simp only[frV];exact hv.mono hF.1 λi hi=>⟨hi,rfl⟩
 | .any,v,_,_=>by simp only[frV];exact .any
theorem Ca{F:C2}(hF:zP B B' ι F):∀(l:List AVal) (ys:Array Value),DJ (frCL F l)->(∀(j:Nat) (x:AVal) (y:Value),l[j]?=some x->ys[j]?=some y->VRel B ι D x y) ->
  ∀(j:Nat) (x:AVal) (y:Value),(frL F l)[j]?=some x->ys[j]?=some y->VRel B' ι D x y
 |[],ys,_,_,j,x,y,hx,_=>by simp[frL] at hx
 |a :: l,ys,h,hr,j,x,y,hx,hy=>by
  obtain⟨h1,h2⟩:=BS (by simpa only[frCL] using h)
  cases j with
  |zero=>
   simp only[frL,List.getElem?_cons_zero,Option.some.injEq] at hx
   subst hx
   exact AGB hF a y h1 (hr 0 a y rfl hy)
  |succ j=>
   simp only[frL,List.getElem?_cons_succ] at hx
   exact Ca hF l (ys.extract 1 ys.size) h2 (λi x y hx hy=>hr (i+1) x y (by simpa using hx) (by
    rw[Array.getElem?_extract] at hy
    split at hy
    ·rw[Nat.add_comm];exact hy
    ·cases hy)) j x y hx (by
    have hlt:=(Array.getElem?_eq_some_iff.1 hy).1
    rw[Array.getElem?_extract,if_pos (by omega),Nat.add_comm];exact hy)
end
mutual
theorem VRel.keep{p:Nat->Bool}(hp:∀i,p i=true->D' i/\ι' i=ι i):∀(a:AVal) (v:Value),Ql p a=true->VRel B ι D a v->VRel B ι' D' a v
 | .d x,v,_,hv=>.d hv.d_inv
 | .agg cs,v,h,hv=>by
  cases hv with
  |agg hl hr=>exact .agg hl λj x y hx hy=>VRel.keepL hp cs (by simpa only[Ql] using h) j x y hx (hr j x y hx hy)
 | .tup cs,v,h,hv=>by
  cases hv with
  |tup hl hr=>exact .tup hl λj x y hx hy=>VRel.keepL hp cs (by simpa only[Ql] using h) j x y hx (hr j x y hx hy)
 | .bptr i c,v,h,hv=>by cases hv;rw[<-(hp i (by simpa only[Ql] using h)).2];exact .bptr (hp i (by simpa only[Ql] using h)).1
 | .rptr i k e c,v,h,hv=>by cases hv;rw[<-(hp i (by simpa only[Ql] using h)).2];exact .rptr (hp i (by simpa only[Ql] using h)).1
 | .own i k e n,v,h,hv=>by
  cases hv with
  |own _ h1 h2=>rw[<-(hp i (by simpa only[Ql] using h)).2] at h2 ⊢;exact .own (hp i (by simpa only[Ql] using h)).1 h1 h2
 | .fn f a b,v,h,hv=>by
  simp only[Ql,Bool.and_eq_true] at h
  cases hv with
  |fn h1 h2 h3 h4=>exact .fn h1 h2 (λj x y hx hy=>VRel.keepL hp a h.1 j x y hx (h3 j x y hx hy)) λj x y hx hy=>VRel.keepL hp b h.2 j x y hx (h4 j x y hx hy)
 | .mref i,v,h,hv=>by cases hv;rw[<-(hp i (by simpa only[Ql] using h)).2];exact .mref (hp i (by simpa only[Ql] using h)).1
 | .any,v,_,_=>.any
 | .opt g a,v,h,hv=>by
  cases hv with
  |opt h1 h2=>exact .opt (λhg=>VRel.keep hp a v (by simpa only[Ql] using h) (h1 hg)) h2
theorem VRel.keepL{p:Nat->Bool}(hp:∀i,p i=true->D' i/\ι' i=ι i):∀(l:List AVal),MI p l=true->∀(j:Nat) (x:AVal) (v:Value),l[j]?=some x->VRel B ι D x v->VRel B ι' D' x v
 |[],_,j,x,v,hx,_=>by simp at hx
 |a :: l,h,0,x,v,hx,hv=>by simp at hx;subst hx;simp only[MI,Bool.and_eq_true] at h;exact VRel.keep hp a v h.1 hv
 |a :: l,h,j+1,x,v,hx,hv=>by simp only[MI,Bool.and_eq_true] at h;exact VRel.keepL hp l h.2 j x v (by simpa using hx) hv
end
structure Pack where
 sl:List Nat
 ids:List Nat
 fz:List Nat:=[]
def Rx(F:C2):HCell->HCell
 | .live (.box es)=>.live (.box (frL F es))
 | .live (.abox es m g)=>.live (.abox (frL F es) m g)
 |x=>x
def CJY(F:C2):HCell->List Prop
 | .live (.box es)=>frCL F es
 | .live (.abox es _ _)=>frCL F es
 |_=>[]
def AQN(p:Nat->Bool):HCell->Bool
 | .live o=>okO p o
 | .dead=>true
 | .none=>false
def XX(p:Pack)(σ:AState):ST:=
 ⟨p.sl.map λt=>(t,frV (PN σ.H p.fz) (σ.sl t)),p.ids.map λi=>(i,Rx (PN σ.H p.fz) (FB σ.H p.fz i))⟩
def BPF(p:Pack)(σ:AState):List Prop:=(p.sl.flatMap λt=>frC (PN σ.H p.fz) (σ.sl t)) ++ p.ids.flatMap λi=>CJY (PN σ.H p.fz) (FB σ.H p.fz i)
def APZ(p:Pack)(E:List Nat)(s:ST):Bool:=
 s.sl.all (λx=>Ql (λi=>p.ids.contains i) x.2)&&s.H.all (λx=>AQN (λi=>p.ids.contains i) x.2)&&E.all (λi=>p.ids.contains i)&&nodup p.ids
def I8(o:Option Pack)(E:List Nat)(σ:AState)(K:AState->Prop):Prop:=match o with
 |none=>K σ
 |some p=>if APZ p E (XX p σ) then iM (BPF p σ) (K (XX p σ).st) else False
theorem Vo{α:Type}{f:α->List Prop}:∀{l:List α},DJ (l.flatMap f)->∀x∈l,DJ (f x)
 |[],_,x,hx=>by cases hx
 |a :: l,h,x,hx=>by
  rw[List.flatMap_cons] at h
  obtain⟨h1,h2⟩:=BS h
  rcases List.mem_cons.1 hx with rfl | hx
  ·exact h1
  ·exact Vo h2 x hx
theorem wG(f:Nat->AVal):∀(l:List Nat) (t:Nat),KT (l.map λt=>(t,f t)) t=.any∨(t∈l/\KT (l.map λt=>(t,f t)) t=f t)
 |[],t=>.inl rfl
 |a :: l,t=>by
  simp only[List.map_cons,KT]
  split
  ·rename_i h;subst h;exact .inr ⟨by simp,rfl⟩
  ·rcases wG f l t with h | ⟨h1,h2⟩
   ·exact .inl h
   ·exact .inr ⟨by simp[h1],h2⟩
theorem BGF(f:Nat->HCell):∀(l:List Nat) (i:Nat),Bz (l.map λi=>(i,f i)) i=if l.contains i then some (f i) else none
 |[],i=>rfl
 |a :: l,i=>by
  simp only[List.map_cons,Bz,BGF f l,List.contains_cons]
  by_cases h:i=a
  ·subst h;simp
  ·have:(i==a)=false:=by simpa using h
   rw[if_neg h,this];simp
theorem Moved.pack{B0:Fi}{ι0:Nat->Pl}{H0:Heap}{w0:World}{p:Pack}{E:List Nat}(hE:∀i,H0.dom i->i∈E)(hok:APZ p E (XX p σ)=true)(hc:DJ (BPF p σ))(hm0:Moved B0 ι0 H0 w0 B ι σ.H w) :
  ∃B',Moved B0 ι0 H0 w0 B' ι (XX p σ).st.H w/\(∀t v,VRel B ι σ.H.dom (σ.sl t) v->VRel B' ι (XX p σ).st.H.dom ((XX p σ).st.sl t) v)/\(∀i o,(XX p σ).st.H i=.live o->∃o',σ.H i=.live o') /\
   (∀b c,B b=some c->B' b=some c)/\∀i∈E,(XX p σ).st.H.dom i:=by
 simp only[APZ,Bool.and_eq_true,List.all_eq_true] at hok
 obtain⟨⟨⟨o1,o2⟩,o3⟩,o4⟩:=hok
 obtain⟨c1,c2⟩:=BS hc
 obtain⟨B',hk,hF⟩:=WB p.fz hm0.heap
 have hm:=hm0.trans hk
 have hcell:∀i∈p.ids,AQN (λi=>p.ids.contains i) (Rx (PN σ.H p.fz) (FB σ.H p.fz i))=true:=λi hi=>o2 _ (List.mem_map.2 ⟨i,hi,rfl⟩)
 have hH:∀i,(XX p σ).st.H i=if p.ids.contains i then Rx (PN σ.H p.fz) (FB σ.H p.fz i) else .none:=λi=>by
  show (Bz _ i).getD .none=_
  rw[XX,BGF];split<;>rfl
 have hdom:∀i,p.ids.contains i=true->(XX p σ).st.H.dom i/\ι i=ι i:=λi hi=>by
  refine⟨?_,rfl⟩
  unfold Heap.dom
  rw[hH,if_pos hi]
  have:=hcell i (by simpa using hi)
  intro he;rw[he] at this;cases this
 have live:∀i o,(XX p σ).st.H i=.live o->∃o',i∈p.ids/\FB σ.H p.fz i=.live o'/\Rx (PN σ.H p.fz) (.live o')=.live o:=λi o hi=>by
  rw[hH] at hi
  split at hi
  ·rename_i hc
   cases hq:FB σ.H p.fz i with
   |live o'=>rw[hq] at hi;exact⟨o',by simpa using hc,rfl,hi⟩
   |none=>rw[hq] at hi;cases hi
   |dead=>rw[hq] at hi;cases hi
  ·cases hi
 refine⟨B',?_,λt v hv=>?_,λi o hi=>by obtain⟨o',_,ho,_⟩:=live i o hi;exact⟨o',Mj p.fz ho⟩,hF.1,λi hi=>(hdom i (o3 i hi)).1⟩
 ·refine⟨hm.bm,hm.bn,λi hi=>?_,⟨λi o hi=>?_,λi j o o' hi hj hij=>?_,λi o hi=>?_,hm.heap.imm⟩,λi o hi=>?_,hm.frame,hm.size,hm.calm⟩
  ·exact⟨(hdom i (o3 i (hE i hi))).1,(hm.im i hi).2⟩
  ·obtain⟨o',hid,ho,he⟩:=live i o hi
   have h1:=hm0.heap.obj _ _ (Mj p.fz ho)
   generalize w.heap[(ι i).b]?=q at h1 ⊢
   have hok:=hcell i hid
   rw[ho] at hok
   cases o' with
   |box es=>
    simp only[Rx,HCell.live.injEq] at he
    subst he
    have h2:=Vo c2 i hid
    rw[ho] at h2
    cases h1 with
    |box hsz hr=>
     refine .box (by rw[Pw];exact hsz) λj x z hx hz=>?_
     exact VRel.keepL hdom _ (by simpa only[AQN,Rx,okO] using hok) j x z hx (Ca hF es _ h2 hr j x z hx hz)
   |row k n g=>
    simp only[Rx,HCell.live.injEq] at he
    subst he
    cases h1 with
    |row a b cc d=>exact .row a b cc λi j x y hi hx hy=>(d i j x y hi hx hy).mono hF.1
   |imap q z hs g st pend=>
    simp only[Rx,HCell.live.injEq] at he
    subst he
    cases h1 with
    |imap a=>exact .imap (a.mono hF.1)
   |abox es m g=>
    simp only[Rx,HCell.live.injEq] at he
    subst he
    have h2:=Vo c2 i hid
    rw[ho] at h2
    cases h1 with
    |abox hsz hr hb=>
     refine .abox (by rw[Pw];exact hsz) (λj x z hx hz=>?_) (by rw[Pw];exact hb)
     exact VRel.keepL hdom _ (by simpa only[AQN,Rx,okO] using hok) j x z hx (Ca hF es _ h2 hr j x z hx hz)
   |miter m a b c d=>
    simp only[Rx,HCell.live.injEq] at he
    subst he
    cases h1 with
    |miter hD h1 h2 h3 h4 h5=>exact .miter (hdom m (by simpa only[AQN,Rx,okO] using hok)).1 h1 h2 h3 h4 h5
  ·obtain⟨_,_,h1,_⟩:=live i o hi
   obtain⟨_,_,h2,_⟩:=live j o' hj
   exact hm.heap.inj _ _ _ _ h1 h2 hij
  ·obtain⟨_,_,h1,_⟩:=live i o hi
   exact hm.heap.sep _ _ h1
  ·obtain⟨_,_,h1,_⟩:=live i o hi
   exact hm.own _ _ h1
 ·rcases wG (λt=>frV (PN σ.H p.fz) (σ.sl t)) p.sl t with h | ⟨h1,h2⟩
  ·show VRel _ _ _ (KT _ t) _
   rw[XX,h];exact .any
  ·show VRel _ _ _ (KT _ t) _
   rw[XX,h2]
   exact VRel.keep hdom _ _ (o1 _ (List.mem_map.2 ⟨t,h1,rfl⟩)) (AGB hF _ _ (Vo c1 t h1) hv)
theorem Rel.pack{p:Pack}{E:List Nat}{a:Act}(hE:∀i,c.H0.dom i->i∈E)(hok:APZ p E (XX p σ)=true)(hc:DJ (BPF p σ))(hR:Rel c B ι σ a w):∃B',Rel c B' ι (XX p σ).st a w:=by
 obtain⟨B',h1,h2,h3,_⟩:=Moved.pack hE hok hc hR.mv
 obtain⟨Ds,d1,d0,d2,d3⟩:=hR.defers
 refine⟨B',λt=>h2 t _ (hR.slots t),hR.size,⟨Ds,d1,d0,d2,λD hD=>⟨(d3 D hD).1,(d3 D hD).2.here,λi o hi=>?_⟩⟩,h1⟩
 obtain⟨o',ho⟩:=h3 i o hi
 exact (d3 D hD).2.sep _ _ ho
theorem CodeE.noGoto{x:Code}(h:CodeE P c x (AKG Q) σ):CodeE P c (.scope x) Q σ:=by
 intro B ι a w hR
 refine G6 (Code.wpIn_mono (λe a w hq=>?_) (h B ι a w hR))
 obtain⟨B',ι',σ',hq,hR'⟩:=hq
 cases e with
 |goto l=>exact hq.elim
 |_=>exact⟨B',ι',σ',hq,hR'⟩
theorem BUJ{l:List Prop}{K K':Prop}(hK:K->K')(h:iM l K):iM l K':=by
 cases l with
 |nil=>exact hK h
 |cons=>exact⟨h.1,hK h.2⟩
theorem ABR{Γ:FuncId->Option Spec}{mt:Bool}{base n:Nat}{ops:Array Oper}{draw:Bool}{K K':AState->Prop}(hK:∀σ,K σ->K' σ)(h:lT P Γ mt base n ops draw σ K):lT P Γ mt base n ops draw σ K':=by
 unfold lT at *
 split at h
 ·split at h
  ·rename_i hc;rw[if_pos hc];exact BUJ (hK _) h
  ·exact h.elim
 ·exact h
end Go.Sym
