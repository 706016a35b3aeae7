/- States against worlds; one step of a region. -/
import Derived.Test.YtlblbbidigejkaaGreatSym6
import Derived.OrdersIn
import Derived.TacticsIn
set_option linter.unusedVariables false
set_option linter.unusedSimpArgs false
namespace Go.Sym
variable {P : Program} {B B' : Ft} {ι ι' : Nat -> Pl} {H H' : Heap} {D : Nat -> Prop} {w w' : World}
structure Ctx where
 B0:Ft
 ι0:Nat->Pl
 H0:Heap
 w0:World
 n:Nat
 rd:Option Nat
 mks:Bool
def xH(rd:Option Nat):Fence:={ Fence.wide with round:=rd }
structure Quiet(b:Nat)(x:Obj)(ι:Nat->Pl)(H:Heap)(w:World):Prop where
 here:w.heap[b]?=some x
 sep:∀i o,H i=.live o->(ι i).b≠b
theorem Quiet.moved{b:Nat}{x:Obj}(h:Quiet b x ι H w)(m:Moved B ι H w B' ι' H' w'):Quiet b x ι' H' w':=by
 have hlt:b<w.heap.size:=(Array.getElem?_eq_some_iff.1 h.here).1
 refine⟨by rw[m.frame b hlt h.sep];exact h.here,λi o hi=>?_⟩
 rcases m.own i o hi with⟨i0,o0,h1,h2⟩ | h1
 ·rw[<-h2];exact h.sep _ _ h1
 ·omega
theorem HRel.put{b:Nat}{x:Obj}(h:HRel B ι H w)(hq:Quiet b x ι H w)(hx:∀c e fr,x≠.cells c e fr)(y:Obj):HRel B ι H (w.putObj b y):=by
 have oth:∀k,k≠b->(w.putObj b y).heap[k]?=w.heap[k]?:=λk hk=>World.putObj_heap_other hk
 refine⟨λi o hi=>?_,h.inj,h.sep,λk c hk=>?_⟩
 ·rw[oth _ (hq.sep i o hi)];exact h.obj i o hi
 ·obtain⟨e,fr,h1⟩:=h.imm k c hk
  refine⟨e,fr,?_⟩
  rw[oth];exact h1
  intro he;subst he
  rw[hq.here] at h1;cases h1;exact hx _ _ _ rfl
theorem Moved.put{b:Nat}{x:Obj}(m:Moved B ι H w B' ι' H' w')(hq:Quiet b x ι' H' w')(hx:∀c e fr,x≠.cells c e fr)(hb:w.heap.size<=b)(y:Obj):Moved B ι H w B' ι' H' (w'.putObj b y):=
 ⟨m.bm,m.bn,m.im,m.heap.put hq hx y,m.own,λk hk hno=>by rw[World.putObj_heap_other (by omega)];exact m.frame k hk hno,by rw[World.putObj_size];exact m.size,⟨m.calm.os,m.calm.tape,m.calm.output⟩⟩
theorem Quiet.put_other{b d:Nat}{x y:Obj}(h:Quiet b x ι H w)(hd:d≠b):Quiet b x ι H (w.putObj d y):=⟨by rw[World.putObj_heap_other (Ne.symm hd)];exact h.here,h.sep⟩
theorem Quiet.put_same{b:Nat}{x:Obj}(h:Quiet b x ι H w)(y:Obj):Quiet b y ι H (w.putObj b y):=⟨World.putObj_heap_same (Array.getElem?_eq_some_iff.1 h.here).1,h.sep⟩
def BAV(Ds:List Nat):List Deferred:=Ds.map λD=>{ target:=.collected D,args:=#[] }
structure Rel(c:Ctx)(B:Ft)(ι:Nat->Pl)(σ:AState)(a:Act)(w:World):Prop where
 slots:∀t,VRel B ι σ.H.dom (σ.sl t) (a.tmps.getD t undef)
 size:a.tmps.size=c.n
 defers:∃Ds:List Nat,a.defers=BAV Ds/\(c.mks=false->Ds=[])/\Ds.Nodup/\∀D∈Ds,c.w0.heap.size<=D/\Quiet D (.deferred (some [])) ι σ.H w
 mv:Moved c.B0 c.ι0 c.H0 c.w0 B ι σ.H w
def AState.app(σ:AState)(dst:Option Tmp)(v:AVal)(u:List (Nat×HCell)):AState:=⟨Tk σ.sl dst v,DV σ.H u⟩
def BCY(P:Program)(f:FuncId):Prop:=∀(args:Array Value) (w:World),(callFunc f args).run P w=.ok (.enter f args) w
theorem AIP {f : FuncId} {fn : Func} {c : Code} (hf : P.funcs[f]? = some fn) (hname : (fn.name == "runtime.NumGoroutine") = false) (hb : fn.body = some c) : BCY P f := by
 intro args w
 have h1 : fn.name ≠ "runtime.NumGoroutine" := by simpa using hname
 simp[callFunc,hf,h1,hb,mark]
def Sv(B:Ft)(ι:Nat->Pl)(D:Nat->Prop)(as:List AVal)(vs:Array Value):Prop:=
 vs.size=as.length/\∀(j:Nat) (a:AVal) (y:Value),as[j]?=some a->vs[j]?=some y->VRel B ι D a y
def CSE(P:Program)(g:FuncId)(as:List AVal)(H:Heap)(val:AVal)(upd:List (Nat×HCell)):Prop:=
 BCY P g/\∀(B:Ft) (ι:Nat->Pl) (w:World) (vs:Array Value),Sv B ι H.dom as vs->HRel B ι H w ->
  Calls P g vs w λe w'=>∃v,e=.returned v/\OZ B ι H w (DV H upd) val v w'
def AWA(P:Program)(g:FuncId)(as:List AVal)(r:Nat)(cells:List (Nat×HCell))(val:AVal)(upd:List (Nat×HCell)):Prop:=
 ∀H:Heap,(∀p∈cells,H p.1=p.2)->(∀i,r<=i->i<r+16->H i=.none)->CSE P g as H val upd
def SG:AVal->List Nat
 | .bptr id _ | .rptr id _ _ _ | .own id _ _ _ | .mref id=>[id]
 |_=>[]
def BCB:Op->Bool
 | .indexAddr .. | .fieldAddr .. | .nilCheck .. | .move .. | .assign .. | .extract .. | .field .. | .index ..=>true
 | .call ⟨.builtin .len,_,_⟩=>true
 |_=>false
def idsM:AVal->List Nat
 | .mref id=>[id]
 |_=>[]
def We(ρ:Operand->AVal)(op:Op):List Nat:=bif BCB op then op.operands.toList.flatMap λx=>idsM (ρ x) else op.operands.toList.flatMap λx=>SG (ρ x)
theorem AHC{mt:Bool}{r:Nat}{ρ ρ':Operand->AVal}{H H':Heap}(op:Op)(h:∀x∈op.operands,ρ x=ρ' x)(hH:∀id∈We ρ op,H id=H' id):opA P mt r ρ H op=opA P mt r ρ' H' op:=by
 have foot:BCB op=false->∀x∈op.operands,∀id∈SG (ρ x),H id=H' id:=λhn x hx id hid=>hH id (by unfold We;rw[hn];exact List.mem_flatMap.2 ⟨x,by simpa using hx,hid⟩)
 have footM:BCB op=true->∀x∈op.operands,∀id∈idsM (ρ x),H id=H' id:=λhn x hx id hid=>hH id (by unfold We;rw[hn];exact List.mem_flatMap.2 ⟨x,by simpa using hx,hid⟩)
 have kmp:∀(p:AVal),(∀id∈idsM p,H id=H' id)->Sa H p=Sa H' p:=by
  intro p hp
  cases p with
  |mref id=>simp only[Sa,hp id (by simp[idsM])]
  |_=>rfl
 have tm:∀(p:AVal),(∀id∈SG p,H id=H' id)->∀id∈idsM p,H id=H' id:=by
  intro p hp id hid
  cases p with
  |mref id'=>exact hp id (by simpa[SG,idsM] using hid)
  |_=>simp[idsM] at hid
 have rd:∀(p:AVal),(∀id∈SG p,H id=H' id)->wF H p=wF H' p:=by
  intro p hp
  cases p with
  |bptr id c=>simp only[wF,hp id (by simp[SG])]
  |rptr id k i c=>simp only[wF,hp id (by simp[SG])]
  |d x=>cases x<;>rfl
  |_=>rfl
 have src:∀(p:AVal),(∀id∈SG p,H id=H' id)->srcA H p=srcA H' p:=by
  intro p hp
  cases p with
  |own id k j m=>simp only[srcA,hp id (by simp[SG])]
  |d x=>cases x<;>rfl
  |_=>rfl
 have dst:∀(p:AVal),(∀id∈SG p,H id=H' id)->dstA H p=dstA H' p:=by
  intro p hp
  cases p with
  |own id k j m=>cases j<;>simp only[dstA,hp id (by simp[SG])]
  |d x=>cases x with
   |list k n g e=>cases e<;>rfl
   |_=>rfl
  |_=>rfl
 have mp:∀(p:AVal),(∀id∈SG p,H id=H' id)->dI H p=dI H' p:=by
  intro p hp
  cases p with
  |mref id=>simp only[dI,hp id (by simp[SG])]
  |_=>rfl
 have pairs:∀ps:Array (Nat×Operand),(∀x∈(ps.toList.map (·.2)),ρ x=ρ' x)->(ps.toList.map λp=>(p.1,ρ p.2))=(ps.toList.map λp=>(p.1,ρ' p.2)):=λps hp=>
  List.map_congr_left λp hm=>by rw[hp p.2 (List.mem_map.2 ⟨p,hm,rfl⟩)]
 have opt:∀q:Option Operand,(∀x∈q.toArray,ρ x=ρ' x)->q.map ρ=q.map ρ':=λq hq=>by
  cases q with
  |none=>rfl
  |some x=>simp[hq x (by simp)]
 cases op<;>simp only[Op.operands,BCB,eq_self,true_implies,reduceCtorEq,false_implies] at h foot footM<;>simp only[opA]
 case move x=>rw[h x (by simp)]
 case assign x=>rw[h x (by simp)]
 case pick c a b=>rw[h c (by simp),h a (by simp),h b (by simp)]
 case box t x=>rw[h x (by simp)]
 case build t ps=>rw[pairs ps λx hx=>h x (by simpa using hx)]
 case buildSlice t n ps=>rw[pairs ps λx hx=>h x (by simpa using hx)]
 case load t a=>
  have hr:=rd (ρ a) (foot a (by simp))
  have he:=h a (by simp)
  have:AQP P H t (ρ a)=AQP P H' t (ρ a):=by
   unfold AQP;rw[hr]
   split
   ·generalize hq:ρ a=p at *
    split
    ·rename_i id k;rw[foot a (by simp) id (by rw[hq];simp[SG])]
    ·rename_i id c;rw[rd (.bptr id c) λi hi=>foot a (by simp) i (by rw[hq];exact hi)]
    ·rfl
   ·rfl
   ·rfl
  rw[this,he]
 case store t a x=>
  have he:=h a (by simp)
  have hx:=h x (by simp)
  have hf:=foot a (by simp)
  rw[<-he,<-hx]
  generalize ρ a=p at hf
  cases p with
  |bptr id c=>
   have e:=hf id (by simp[SG])
   have q:=BFP (P:=P) (t:=t) (c:=c) (x:=ρ x) e
   unfold qG oD;rw[q];simp only[e]
  |rptr id k i c=>exact CDJ (hf id (by simp[SG]))
  |_=>rfl
 case nilCheck x=>rw[h x (by simp)]
 case lookup t m ix ok=>
  rw[h ix (by simp),<-h m (by simp)]
  have:=mp (ρ m) (foot m (by simp))
  have h2:=kmp (ρ m) (tm _ (foot m (by simp)))
  unfold eC Zg;rw[this,h2]
 case mapUpdate t m k x=>
  rw[h k (by simp),h x (by simp),<-h m (by simp)]
  have:=mp (ρ m) (foot m (by simp))
  have h2:=kmp (ρ m) (tm _ (foot m (by simp)))
  unfold P1;rw[this,h2]
 case insert t m k x=>
  rw[h k (by simp),h x (by simp),<-h m (by simp)]
  have:=mp (ρ m) (foot m (by simp))
  have h2:=kmp (ρ m) (tm _ (foot m (by simp)))
  unfold P1;rw[this,h2]
 case mapEntry t m k=>
  rw[h k (by simp),<-h m (by simp)]
  have:=mp (ρ m) (foot m (by simp))
  unfold ADX;rw[this]
 case entryStore t m s x=>
  rw[h s (by simp),h x (by simp),<-h m (by simp)]
  have:=mp (ρ m) (foot m (by simp))
  unfold cX;rw[this]
 case binOp op t x y yt=>rw[h x (by simp),h y (by simp)]
 case unOp op t x=>rw[h x (by simp)]
 case convert s d x=>rw[h x (by simp)]
 case makeInterface t x=>rw[h x (by simp)]
 case makeFunc fn first caps=>
  rw[List.map_congr_left (l:=first.toList) λx hx=>h x (by simp at hx;simp[hx]),List.map_congr_left (l:=caps.toList) λx hx=>h x (by simp at hx;simp[hx])]
 case makeSlice t l c=>rw[h l (by simp),h c (by simp)]
 case slice t x lo hi mx=>
  have e1:=opt lo λy hy=>h y (by simp at hy;simp[hy])
  have e2:=opt hi λy hy=>h y (by simp at hy;simp[hy])
  have e3:=opt mx λy hy=>h y (by simp at hy;simp[hy])
  have hf:=foot x (by simp)
  have a1:Ya P H t (ρ x)=Ya P H' t (ρ x):=by
   generalize ρ x=p at hf
   unfold Ya
   split
   ·rename_i m e id k hu;rw[hf id (by simp[SG])]
   ·rfl
  have a2:∀l q m,kX P H t (ρ x) l q m=kX P H' t (ρ x) l q m:=λl q m=>by
   generalize ρ x=p at hf
   unfold kX
   split
   ·rename_i id k n km mm hu;rw[hf id (by simp[SG])]
   ·rfl
  have a3:∀l q,lQ P H t (ρ x) l q=lQ P H' t (ρ x) l q:=λl q=>by
   generalize ρ x=p at hf
   unfold lQ
   split
   ·rename_i m e id c hu;rw[hf id (by simp[SG])]
   ·rfl
  have hx:=h x (by simp)
  rw[hx] at a1 a2 a3
  rw[hx,e1,e2,e3]
  split
  ·rfl
  ·split
   ·rw[a1]
   ·rename_i hi0 _
    rw[a3,e1]
    simp only[Option.map_some,Option.some.injEq] at e2
    rw[e2]
   ·rw[a2,e1,e2,e3]
 case fieldAddr s x f=>rw[h x (by simp)]
 case field s x f=>rw[h x (by simp)]
 case indexAddr t x ix=>rw[h x (by simp),h ix (by simp)]
 case index t x ix=>rw[h x (by simp),h ix (by simp)]
 case extract x i=>rw[h x (by simp)]
 case call c=>
  obtain⟨callee,args,ats⟩:=c
  cases callee with
  |builtin b=>
   simp only[Call.operands] at h foot footM
   simp only
   have hm:args.toList.map ρ=args.toList.map ρ':=List.map_congr_left λx hx=>h x (by simpa using hx)
   rw[<-hm]
   by_cases hb:b=.len
   ·subst hb
    unfold AEY
    have hk:∀a,args.toList.map ρ=[a]->Sa H a=Sa H' a:=λa hl=>kmp a λid hid=>by
     obtain⟨y,hy,rfl⟩:=List.mem_map.1 (show a∈args.toList.map ρ by rw[hl];simp)
     exact footM rfl y (by simpa using hy) id hid
    generalize args.toList.map ρ=l at hk
    match l with
    |[]=>rfl
    |[a]=>
     have hl:∀t,AVH P H t a=AVH P H' t a:=λt=>by unfold AVH;rw[hk a rfl]
     simp only[hl]
    |_ :: _ :: _=>rfl
   replace foot:=foot (by cases b<;>first | rfl | exact absurd rfl hb)
   have ms:∀z,z∈args.toList.map ρ->∀id∈SG z,H id=H' id:=λz hz id hid=>by
    obtain⟨y,hy,rfl⟩:=List.mem_map.1 hz
    exact foot y (by simpa using hy) id hid
   unfold AEY
   split
   ·exact absurd rfl hb
   ·rename_i a hl
    rw[hl] at ms
    have hk:=kmp a (tm a (ms a (by simp)))
    split
    ·unfold AZZ;rw[hk]
    ·rfl
   ·rename_i a k hl
    rw[hl] at ms
    have hk:=kmp a (tm a (ms a (by simp)))
    split
    ·unfold delA;rw[hk]
    ·rfl
   ·rename_i s x hl
    split
    ·rename_i t t2 ht
     rw[hl] at ms
     unfold AMJ
     rw[dst s (ms s (by simp)),src x (ms x (by simp))]
    ·rfl
   ·rename_i d x hl
    split
    ·rw[hl] at ms
     have hd:=ms d (by simp)
     rw[BGL (src x (ms x (by simp))) λid k i n e=>hd id (by subst e;simp[SG])]
    ·rfl
   ·rfl
   ·rfl
   ·rfl
  |_=>rfl
def DF(ops:Array Oper)(sl:Nat->AVal)(j:Nat)(want:Bool):Option Bool:=match (ops[j]?).bind (·.dst) with
 |some t=>match want,sl t with
  |true,.d (.v (.bool b))=>some b
  |false,.d (.v (.bool b))=>some (!b)
  |true,.opt g (.d (.v (.bool b)))=>some (g&&b)
  |false,.opt g (.d (.v (.bool b)))=>some (g&&!b)
  |_,_=>none
 |none=>none
theorem ARF{ops:Array Oper}{a:Act}{j:Nat}{t:Tmp}(ht:(ops[j]?).bind (·.dst)=some t):(∀b,a.tmps.getD t undef=.bool b->yielded ops a.tmps j=some b)/\(a.tmps.getD t undef=.tuple #[]->yielded ops a.tmps j=none):=by
 have hget:a.tmps.getD t undef=(a.tmps[t]?).getD undef:=by simp
 simp only[yielded,ht,Option.bind_some]
 refine⟨λb h=>?_,λh=>?_⟩<;>rw[hget] at h<;>cases hq:a.tmps[t]? with
  |none=>rw[hq] at h<;>first | rfl | cases h
  |some x=>rw[hq] at h;simp at h;subst h;rfl
theorem Cy{ops:Array Oper}{sl:Nat->AVal}{o:Oper}{j:Nat}{want g:Bool}{a:Act}(hg:o.guard=some (j,want))(h:DF ops sl j want=some g)(hs:∀t,VRel B ι D (sl t) (a.tmps.getD t undef)) :
  Region.wanted o (yielded ops a.tmps)=g:=by
 unfold DF at h
 simp only[Region.wanted,hg]
 split at h
 ·rename_i t ht
  have hv:=hs t
  obtain⟨y1,y2⟩:=ARF (a:=a) ht
  split at h
  ·rename_i b hb
   cases h
   rw[hb] at hv
   rw[y1 _ hv.d_inv.v_inv]
   cases g<;>rfl
  ·rename_i b hb
   cases h
   rw[hb] at hv
   rw[y1 _ hv.d_inv.v_inv]
   cases b<;>rfl
  ·rename_i g' b hb
   cases h
   rw[hb] at hv
   cases hv with
   |opt h1 h2=>
    cases g' with
    |true=>rw[y1 b (h1 rfl).d_inv.v_inv];cases b<;>rfl
    |false=>rw[y2 (h2 rfl)];rfl
  ·rename_i g' b hb
   cases h
   rw[hb] at hv
   cases hv with
   |opt h1 h2=>
    cases g' with
    |true=>rw[y1 b (h1 rfl).d_inv.v_inv];cases b<;>rfl
    |false=>rw[y2 (h2 rfl)];rfl
  ·cases h
 ·cases h
def cU(g:Bool):List Prop->List Prop
 |[]=>[]
 |l=>[g=true->BG l]
theorem Ak{g:Bool}{l:List Prop}(h:BG (cU g l))(hg:g=true):BG l:=by
 cases l with
 |nil=>trivial
 |cons p r=>exact h hg
def XQ(ρ:Operand->AVal)(l:List Operand):List Prop:=l.flatMap λx=>Pe True (ρ x)
def gopA(P:Program)(r:Nat)(ρ:Operand->AVal)(H:Heap)(g:Bool)(op:Op):Option (AVal×List Prop):=match op with
 | .pick c a b=>match BX (ρ c) with
  | .d (.v (.bool t))=>some (ANK t (BX (ρ a)) (BX (ρ b)),cU g (Pe True (ρ c) ++ (Pe (t=true) (ρ a) ++ Pe (t=false) (ρ b))))
  |_=>none
 | .buildSlice t len ps=>match VZ P r t len (ps.toList.map λp=>(p.1,BX (ρ p.2))) with
  |some ⟨_,[(_,.live (.row k n get))],_⟩=>some (.d (.list k n get true),cU g (XQ ρ (Op.buildSlice t len ps).operands.toList))
  |_=>none
 | .makeSlice t l c=>match Gl P r t (BX (ρ l)) (BX (ρ c)) with
  |some ⟨_,[(_,.live (.row k n get))],p⟩=>some (.d (.list k n get true),cU g (Pe True (ρ l) ++ (Pe True (ρ c) ++ p)))
  |_=>none
 |op=>match opA P false r (λx=>BX (ρ x)) H op with
  |some ⟨v,[],p⟩=>some (v,cU g (XQ ρ op.operands.toList ++ p))
  |_=>none
theorem arr1(u:Value)(z:Array Value):(#[u] ++ z)[0]?=some u/\(#[u] ++ z).extract 1 (#[u] ++ z).size=z:=by
 constructor
 ·rw[Array.getElem?_append_left (by simp)];rfl
 ·obtain⟨z⟩:=z
  simp
def AMW(P:Program)(t:TypeId)(name:String):Option FuncId:=match P.info? t,P.underlying t with
 |some i,some (.struct _)=>match i.methods.find? (·.name==name) with
  |some m=>match m.path.toList,m.func with
   |[],some (f,false)=>some f
   |_,_=>none
  |none=>none
 |_,_=>none
theorem BMG{t:TypeId}{name:String}{f:FuncId}(h:AMW P t name=some f)(n:Nat)(v:Value)(w:World):(method (n+1) t v name).run P w=.ok (f,v) w:=by
 unfold AMW at h
 split at h
 ·rename_i i fs hi hu
  split at h
  ·rename_i m hm
   split at h
   ·rename_i fn hp hf
    cases h
    simp[method,QU hi,hm,hp,follow,hf,receiverAt,run_underlying hu,Place.get]
   ·cases h
  ·cases h
 ·cases h
inductive StepO(P:Program)(mt:Bool)(ops:Array Oper)(r:Nat)(σ:AState)(o:Oper):AVal->List (Nat×HCell)->List Nat->Prop
 |op {e:Eff} (hg:o.guard=none) (h:opA P mt r (AX σ.sl) σ.H o.op=some e) (hp:BG e.pre) (hr:σ.H r=.none):StepO P mt ops r σ o e.val e.upd (r :: We (AX σ.sl) o.op)
 |gop {j:Nat} {want g:Bool} {v:AVal} {p:List Prop} (hg:o.guard=some (j,want)) (hw:DF ops σ.sl j want=some g) (h:gopA P r (AX σ.sl) σ.H g o.op=some (v,p)) (hp:BG p) (hr:σ.H r=.none) :
   StepO P mt ops r σ o (.opt g v) [] (r :: We (λx=>BX (AX σ.sl x)) o.op)
 |call {f:Operand} {args:Array Operand} {ats:Array TypeId} {g:FuncId} {first caps:List AVal} {cells upd:List (Nat×HCell)} {val:AVal} (hg:o.guard=none)
   (ho:o.op=.call ⟨.value f,args,ats⟩) (hf:AX σ.sl f=.fn (.func g) first caps) (hc:AWA P g (first ++ args.toList.map (AX σ.sl) ++ caps) r cells val upd)
   (hcells:∀p∈cells,σ.H p.1=p.2) (hr:∀i,r<=i->i<r+16->σ.H i=.none):StepO P mt ops r σ o val upd (cells.map (·.1) ++ (List.range 16).map (r + ·))
 |inv {x:Operand} {m:String} {args:Array Operand} {ats:Array TypeId} {t:TypeId} {d:DVal} {g:FuncId} {cells upd:List (Nat×HCell)} {val:AVal} (hg:o.guard=none)
   (ho:o.op=.call ⟨.invoke x m,args,ats⟩) (hf:AX σ.sl x=.d (.iface t d)) (hm:AMW P t m=some g) (hc:AWA P g (.d d :: args.toList.map (AX σ.sl)) r cells val upd)
   (hcells:∀p∈cells,σ.H p.1=p.2) (hr:∀i,r<=i->i<r+16->σ.H i=.none):StepO P mt ops r σ o val upd (cells.map (·.1) ++ (List.range 16).map (r + ·))
 |gcall {j:Nat} {want gd:Bool} {f:Operand} {args:Array Operand} {ats:Array TypeId} {g:FuncId} {first caps:List AVal} {cells:List (Nat×HCell)} {val:AVal} (hg:o.guard=some (j,want)) (hw:DF ops σ.sl j want=some gd)
   (ho:o.op=.call ⟨.value f,args,ats⟩) (hf:BX (AX σ.sl f)=.fn (.func g) first caps) (htags:gd=true->BG (XQ (AX σ.sl) o.op.operands.toList))
   (hc:gd=true->AWA P g (first ++ args.toList.map (λx=>BX (AX σ.sl x)) ++ caps) r cells val [])
   (hcells:∀p∈cells,σ.H p.1=p.2) (hr:∀i,r<=i->i<r+16->σ.H i=.none):StepO P mt ops r σ o (.opt gd val) [] (cells.map (·.1) ++ (List.range 16).map (r + ·))
 |gcallT {j:Nat} {want:Bool} {f:Operand} {args:Array Operand} {ats:Array TypeId} {g:FuncId} {first caps:List AVal} {cells upd:List (Nat×HCell)} {val:AVal} (hg:o.guard=some (j,want)) (hw:DF ops σ.sl j want=some true)
   (ho:o.op=.call ⟨.value f,args,ats⟩) (hf:BX (AX σ.sl f)=.fn (.func g) first caps) (htags:BG (XQ (AX σ.sl) o.op.operands.toList))
   (hc:AWA P g (first ++ args.toList.map (λx=>BX (AX σ.sl x)) ++ caps) r cells val upd)
   (hcells:∀p∈cells,σ.H p.1=p.2) (hr:∀i,r<=i->i<r+16->σ.H i=.none):StepO P mt ops r σ o (.opt true val) upd (cells.map (·.1) ++ (List.range 16).map (r + ·))
 |gskip {j:Nat} {want:Bool} {val:AVal} (hg:o.guard=some (j,want)) (hw:DF ops σ.sl j want=some false):StepO P mt ops r σ o (.opt false val) [] []
theorem Rel.app{c:Ctx}{σ:AState}{a:Act}{dst:Option Tmp}{v:AVal}{y:Value}{u:List (Nat×HCell)}(h:Rel c B ι σ a w)(hd:OZ B ι σ.H w (DV σ.H u) v y w')(hdst:∀d,dst=some d->d<c.n) :
  ∃B' ι',Rel c B' ι' (σ.app dst v u) (a.put dst y) w':=by
 obtain⟨B',ι',hm,hv⟩:=hd
 refine⟨B',ι',⟨λt=>?_,?_,?_,h.mv.trans hm⟩⟩
 ·exact lD (λt=>hm.vrel (h.slots t)) (λd hd=>by rw[h.size];exact hdst d hd) hv t
 ·cases dst<;>simp[Act.put,h.size]
 ·obtain⟨Ds,h1,h0,h2,h3⟩:=h.defers
  exact⟨Ds,by cases dst<;>simpa[Act.put] using h1,h0,h2,λD hD=>⟨(h3 D hD).1,(h3 D hD).2.moved hm⟩⟩
theorem Js{ρA:Operand->AVal}:∀{l:List Operand},BG (XQ ρA l)->∀x,x∈l->BG (Pe True (ρA x))
 |[],_,x,hx=>by cases hx
 |y :: l,h,x,hx=>by
  have h:BG (Pe True (ρA y) ++ XQ ρA l):=h
  obtain⟨h1,h2⟩:=BE h
  rcases List.mem_cons.1 hx with rfl | hx
  ·exact h1
  ·exact Js h2 x hx
theorem rP{ρ ρ':Operand->AVal}(op:Op)(h:∀x∈op.operands,ρ x=ρ' x):We ρ op=We ρ' op:=by
 unfold We
 have:∀(f:AVal->List Nat) (l:List Operand),(∀x∈l,ρ x=ρ' x)->(l.flatMap λx=>f (ρ x))=l.flatMap λx=>f (ρ' x):=by
  intro f l hl
  induction l with
  |nil=>rfl
  |cons x l ih=>rw[List.flatMap_cons,List.flatMap_cons,hl x (by simp),ih λy hy=>hl y (by simp[hy])]
 rw[this idsM _ λx hx=>h x (by simpa using hx),this SG _ λx hx=>h x (by simpa using hx)]
open Classical in
theorem BOL{r:Nat}{ρA:Operand->AVal}{ρ:Operand->Value}{o:Oper}{v:AVal}{p:List Prop}(h:gopA P r ρA H true o.op=some (v,p))(hp:BG p)(hρ:∀x,VRel B ι H.dom (ρA x) (ρ x))(hcv:∀v,ρ (.const v)=v)(hr:H r=.none)(hH:HRel B ι H w) :
  ∃y w',Runs P ρ o w y w'/\OZ B ι H w H v y w':=by
 have gen:∀{e:Eff},opA P false r (λx=>BX (ρA x)) H o.op=some e->e.upd=[]->BG e.pre->BG (XQ ρA o.op.operands.toList)->∃y w',Runs P ρ o w y w'/\OZ B ι H w H e.val y w':=by
  intro e he hu hpe ht
  let ρ':Operand->AVal:=λx=>if x∈o.op.operands then BX (ρA x) else .any
  have hc:opA P false r ρ' H o.op=some e:=by
   rw[<-he]
   exact AHC o.op (λx hx=>by show (if _ then _ else _)=_;rw[if_pos hx]) (λ_ _=>rfl)
  obtain⟨y,w',h1,h2⟩:=AWC (ρ:=ρ) hc hpe (λx=>by
   show VRel B ι H.dom (if _ then _ else _) _
   split
   ·rename_i hx;exact OC trivial (Js ht x (by simpa using hx)) (hρ x)
   ·exact .any) hcv hr hH
  rw[hu] at h2
  exact⟨y,w',h1,h2⟩
 unfold gopA at h
 split at h
 ·rename_i c a b ho
  split at h
  ·rename_i t hc
   cases h
   have hp:=Ak hp rfl
   obtain⟨hp1,hp2⟩:=BE hp
   obtain⟨hp2,hp3⟩:=BE hp2
   have:=OC trivial hp1 (hρ c)
   rw[hc] at this
   have hcv:ρ c=.bool t:=this.d_inv.v_inv
   refine⟨if t then ρ a else ρ b,w,.inl (by simp[execOp,ho,hcv,asBool]),B,ι,Moved.refl hH,?_⟩
   simp only[BEW]
   cases t
   ·exact OC rfl hp3 (hρ b)
   ·exact OC rfl hp2 (hρ a)
  ·cases h
 ·rename_i t len ps ho
  split at h
  ·rename_i v0 r0 k n get p0 hb
   cases h
   have ht:=Ak hp rfl
   obtain⟨k',n',get',y,w',he,h1,h2⟩:=vO (parts:=ps.map λx=>(x.1,ρ x.2)) hb hH (by simp) (λj a y ha hy=>by
    obtain⟨x,hx,rfl⟩:=uC ha
    rw[Array.getElem?_toList] at hx
    simp[hx] at hy
    subst hy
    have hm:x.2∈(Op.buildSlice t len ps).operands.toList:=by
     simp only[Op.operands,List.mem_map]
     exact⟨x,by simpa using Array.mem_of_getElem? hx,rfl⟩
    exact⟨rfl,OC trivial (Js ht x.2 hm) (hρ x.2)⟩)
   simp only[Eff.mk.injEq,List.cons.injEq,Prod.mk.injEq,HCell.live.injEq,AObj.row.injEq,and_true] at he
   obtain⟨_,⟨_,rfl,rfl,rfl⟩,_⟩:=he
   exact⟨y,w',.inl (by simp[execOp,ho,h1]),h2⟩
  ·cases h
 ·rename_i t l c ho
  split at h
  ·rename_i v0 r0 k n get p0 hb
   cases h
   have hp:=Ak hp rfl
   obtain⟨hp1,hp2⟩:=BE hp
   obtain⟨hp2,hp3⟩:=BE hp2
   obtain⟨k',n',get',y,w',he,h1,h2⟩:=ASY hb hp3 hH (OC trivial hp1 (hρ l)) (OC trivial hp2 (hρ c))
   simp only[Eff.mk.injEq,List.cons.injEq,Prod.mk.injEq,HCell.live.injEq,AObj.row.injEq,and_true] at he
   obtain⟨_,_,rfl,rfl,rfl⟩:=he
   exact⟨y,w',.inl (by simp[execOp,ho,h1]),h2⟩
  ·cases h
 ·split at h
  ·rename_i v0 p0 he
   cases h
   have hp:=Ak hp rfl
   obtain⟨hp1,hp2⟩:=BE hp
   exact gen he rfl hp2 hp1
  ·cases h
theorem CIX{f:Operand}{args:Array Operand}{first caps:List AVal}{ρA:Operand->AVal}{ρ:Operand->Value}{g:FuncId}(hf:VRel B ι D (.fn (.func g) first caps) (ρ f))(hargs:∀x,x∈args->VRel B ι D (ρA x) (ρ x)) :
  ∃xs ys,ρ f=.func (.func g) xs ys/\Sv B ι D (first ++ args.toList.map ρA ++ caps) (xs ++ args.map ρ ++ ys):=by
 obtain⟨xs,ys,hfe,hx,hy,h1,h2⟩:∃xs ys,ρ f=.func (.func g) xs ys/\xs.size=first.length/\ys.size=caps.length /\
   (∀(j:Nat) (x:AVal) (y:Value),first[j]?=some x->xs[j]?=some y->VRel B ι D x y)/\(∀(j:Nat) (x:AVal) (y:Value),caps[j]?=some x->ys[j]?=some y->VRel B ι D x y):=by
  generalize ρ f=v at hf
  cases hf with
  |fn hx hy h1 h2=>exact⟨_,_,rfl,hx,hy,h1,h2⟩
 refine⟨xs,ys,hfe,by simp[hx,hy],λj x y hxj hyj=>?_⟩
 have hyj':(xs.toList ++ args.toList.map ρ ++ ys.toList)[j]?=some y:=by
  rw[<-Array.getElem?_toList] at hyj;simpa using hyj
 have hl1:xs.toList.length=first.length:=by simpa using hx
 by_cases hj1:j<first.length
 ·rw[List.append_assoc,List.getElem?_append_left hj1] at hxj
  rw[List.append_assoc,List.getElem?_append_left (by omega)] at hyj'
  exact h1 j x y hxj (by simpa using hyj')
 ·by_cases hj2:j<first.length+args.size
  ·rw[List.getElem?_append_left (by simp;omega),List.getElem?_append_right (by omega)] at hxj
   rw[List.getElem?_append_left (by simp[hx];omega),List.getElem?_append_right (by omega),hl1] at hyj'
   obtain⟨q,hq,rfl⟩:=uC hxj
   obtain⟨q',hq',rfl⟩:=uC hyj'
   rw[hq] at hq';cases hq'
   exact hargs q (by rw[Array.getElem?_toList] at hq;exact Array.mem_of_getElem? hq)
  ·rw[List.getElem?_append_right (by simp;omega)] at hxj
   rw[List.getElem?_append_right (by simp[hx];omega)] at hyj'
   simp only[List.length_append,List.length_map,Array.length_toList] at hxj hyj'
   rw[hx] at hyj'
   exact h2 _ x y hxj (by simpa using hyj')
theorem Runs.not_defer{ρ:Operand->Value}{o:Oper}{y:Value}(h:Runs P ρ o w y w'):∀c,o.op≠.defer c:=by
 intro c hc
 unfold Runs execOp at h
 rw[hc] at h
 simp only[Sem.run_bind] at h
 cases hr:(resolve ρ c o.type).run P w with
 |ok d w1=>rw[hr] at h;simp at h
 |halt x w1=>rw[hr] at h;simp at h
theorem SR(o:Oper)(a:Act)(rd:Option Nat):∀f,o.about P w a.eval=some f->(xH rd).fn f:=λ_ _=>trivial
theorem StepO.sound{mt:Bool}{ops:Array Oper}{r:Nat}{σ:AState}{o:Oper}{val:AVal}{upd:List (Nat×HCell)}{touch:List Nat}(h:StepO P mt ops r σ o val upd touch)
  {c:Ctx} {a:Act} (hR:Rel c B ι σ a w) (hdst:∀d,o.dst=some d->d<c.n) {K:Act->World->Prop} {Q:Exit->Act->World->Prop}
  (hK:∀B' ι' a' w',Rel c B' ι' (σ.app o.dst val upd) a' w'->K a' w') :
  if Region.wanted o (yielded ops a.tmps) then o.wpIn (xH c.rd) 0 P a w K Q else (∀f,o.about P w a.eval=some f->(xH c.rd).fn f)/\K (a.put o.dst undef) w:=by
 have plain:∀{v:AVal} {u:List (Nat×HCell)} {y:Value} {w':World},Runs P a.eval o w y w'->OZ B ι σ.H w (DV σ.H u) v y w'->(∀B' ι' a' w',Rel c B' ι' (σ.app o.dst v u) a' w'->K a' w')->o.wpIn (xH c.rd) 0 P a w K Q:=λhrun hd hK=>by
  obtain⟨B',ι',hR'⟩:=hR.app hd hdst
  refine⟨SR o a _,?_⟩
  rw[Oper.semAt_eq _ _ _ hrun.not_defer]
  rcases hrun with hrun | ⟨hrun,rfl⟩
  ·rw[hrun];exact hK B' ι' _ _ hR'
  ·rw[hrun];exact hK B' ι' _ _ hR'
 have called:∀{f:Operand} {args:Array Operand} {ats:Array TypeId} {g:FuncId} {first caps:List AVal} {ρA:Operand->AVal} {v0 v:AVal} {u:List (Nat×HCell)},o.op=.call ⟨.value f,args,ats⟩ ->
   VRel B ι σ.H.dom (.fn (.func g) first caps) (a.eval f)->(∀x,x∈args->VRel B ι σ.H.dom (ρA x) (a.eval x))->CSE P g (first ++ args.toList.map ρA ++ caps) σ.H v0 u ->
   (∀y w',OZ B ι σ.H w (DV σ.H u) v0 y w'->OZ B ι σ.H w (DV σ.H u) v y w')->(∀B' ι' a' w',Rel c B' ι' (σ.app o.dst v u) a' w'->K a' w')->o.wpIn (xH c.rd) 0 P a w K Q:=λ{f args ats g first caps ρA v0 v u} ho hf hargs hc hval hK=>by
  obtain⟨he,hcall⟩:=hc
  obtain⟨xs,ys,hfe,hA⟩:=CIX hf hargs
  have hrun:(execOp a.eval o).run P w=.ok (.enter g (xs ++ args.map a.eval ++ ys)) w:=by
   simp only[execOp,ho,resolve,hfe,Deferred.ofValue,invoke,Sem.run_bind,Sem.run_pure,Result.andThen_ok]
   exact he _ w
  refine⟨SR o a _,?_⟩
  rw[Oper.semAt_eq _ _ _ (by rw[ho];exact λ_ h=>by cases h),hrun]
  rw[Oper.uponIn_enter]
  have h0:CallsIn (xH c.rd) (0-1) P g (xs ++ args.map a.eval ++ ys) w λe w'=>∃v,e=.returned v/\OZ B ι σ.H w (DV σ.H u) v0 v w':=callsIn_wide.2 (hcall B ι w _ hA hR.mv.heap)
  refine⟨(λh=>by cases h),CallsIn.mono h0 λe w' hh=>?_⟩
  obtain⟨v,rfl,hd⟩:=hh
  obtain⟨B',ι',hR'⟩:=hR.app (hval _ _ hd) hdst
  exact hK B' ι' _ _ hR'
 have skip:∀{v:AVal},(∀B' ι' a' w',Rel c B' ι' (σ.app o.dst (.opt false v) []) a' w'->K a' w')->K (a.put o.dst undef) w:=λhK=>by
  obtain⟨B',ι',h⟩:=hR.app (dst:=o.dst) (v:=.opt false _) (y:=undef) (u:=[]) ⟨B,ι,Moved.refl hR.mv.heap,.opt (λh=>by cases h) (λ_=>rfl)⟩ hdst
  exact hK B' ι' _ _ h
 have toOpt:∀{v:AVal} {u:List (Nat×HCell)} {y:Value} {w':World},OZ B ι σ.H w (DV σ.H u) v y w'->OZ B ι σ.H w (DV σ.H u) (.opt true v) y w':=λ⟨B',ι',hm,hv⟩=>⟨B',ι',hm,.opt (λ_=>hv) (λh=>by cases h)⟩
 cases h with
 |op hg h hp hr=>
  simp only[Region.wanted,hg,if_true]
  obtain⟨y,w',hrun,hd⟩:=AWC (ρ:=a.eval) h hp (λx=>HS hR.slots x) (λ_=>rfl) hr hR.mv.heap
  exact plain hrun hd hK
 |gop hg hw h hp hr=>
  rename_i j want g v p
  rw[Cy hg hw hR.slots]
  cases g with
  |false=>simpa using⟨SR o a _,skip hK⟩
  |true=>
   simp only[if_true]
   obtain⟨y,w',hrun,hd⟩:=BOL (ρ:=a.eval) h hp (λx=>HS hR.slots x) (λ_=>rfl) hr hR.mv.heap
   exact plain (u:=[]) hrun (toOpt (u:=[]) hd) hK
 |call hg ho hf hc hcells hr=>
  simp only[Region.wanted,hg,if_true]
  rename_i f args ats g first caps cells
  have hfv:=HS hR.slots f
  rw[hf] at hfv
  exact called ho hfv (λx _=>HS hR.slots x) (hc σ.H hcells hr) (λ_ _ h=>h) hK
 |inv hg ho hf hm hc hcells hr=>
  simp only[Region.wanted,hg,if_true]
  rename_i x m args ats t d g cells
  have hfv:=HS hR.slots x
  rw[hf] at hfv
  obtain⟨y,hy,hd⟩:∃y,a.eval x=.iface t y/\DRel B d y:=by
   generalize a.eval x=z at hfv
   cases hfv.d_inv with
   |iface h=>exact⟨_,rfl,h⟩
  obtain⟨he,hcall⟩:=hc σ.H hcells hr
  have hrun:(execOp a.eval o).run P w=.ok (.enter g (#[y] ++ args.map a.eval)) w:=by
   obtain⟨e1,e2⟩:=arr1 (a.eval x) (args.map a.eval)
   simp only[execOp,ho,resolve,invoke,Sem.run_bind,Sem.run_pure,Result.andThen_ok,e1,e2]
   rw[hy]
   simp only[callMethod,Sem.run_bind]
   obtain⟨n,hn⟩:∃n,P.types.size+Made.depth=n+1:=⟨_,(Nat.succ_pred_eq_of_pos (Nat.add_pos_right _ (by decide))).symm⟩
   simp only[run_program,Result.andThen_ok,hn,BMG hm n y w]
   exact he _ w
  have hA:Sv B ι σ.H.dom (.d d :: args.toList.map (AX σ.sl)) (#[y] ++ args.map a.eval):=by
   refine⟨by simp[Nat.add_comm],λj q v hq hv=>?_⟩
   cases j with
   |zero=>
    rw[(arr1 y (args.map a.eval)).1] at hv
    simp only[List.getElem?_cons_zero,Option.some.injEq] at hq hv;subst hq;subst hv;exact .d hd
   |succ j=>
    simp only[List.getElem?_cons_succ,List.getElem?_map,Option.map_eq_some_iff] at hq
    obtain⟨z,hz,rfl⟩:=hq
    rw[Array.getElem?_append_right (by simp)] at hv
    simp only[List.size_toArray,List.length_cons,List.length_nil,Nat.zero_add,Nat.add_sub_cancel,Array.getElem?_map,Option.map_eq_some_iff] at hv
    obtain⟨z',hz',rfl⟩:=hv
    rw[Array.getElem?_toList] at hz
    rw[hz] at hz';cases hz'
    exact HS hR.slots z
  refine⟨SR o a _,?_⟩
  rw[Oper.semAt_eq _ _ _ (by rw[ho];exact λ_ h=>by cases h),hrun]
  rw[Oper.uponIn_enter]
  have h0:CallsIn (xH c.rd) (0-1) P g (#[y] ++ args.map a.eval) w λe w'=>∃v,e=.returned v/\OZ B ι σ.H w (DV σ.H upd) val v w':=callsIn_wide.2 (hcall B ι w _ hA hR.mv.heap)
  refine⟨(λh=>by cases h),CallsIn.mono h0 λe w' hh=>?_⟩
  obtain⟨v,rfl,hd⟩:=hh
  obtain⟨B',ι',hR'⟩:=hR.app hd hdst
  exact hK B' ι' _ _ hR'
 |gcall hg hw ho hf htags hc hcells hr=>
  rename_i j want gd f args ats g first caps cells v
  rw[Cy hg hw hR.slots]
  cases gd with
  |false=>simpa using⟨SR o a _,skip hK⟩
  |true=>
   simp only[if_true]
   have ht:=Js (htags rfl)
   have hfv:=OC trivial (ht f (by rw[ho];simp[Op.operands,Call.operands])) (HS hR.slots f)
   rw[hf] at hfv
   exact called (ρA:=λx=>BX (AX σ.sl x)) ho hfv (λx hx=>OC trivial (ht x (by rw[ho];simp[Op.operands,Call.operands];exact .inr hx)) (HS hR.slots x)) (hc rfl σ.H hcells hr) (λ_ _ h=>toOpt h) hK
 |gcallT hg hw ho hf htags hc hcells hr=>
  rename_i j want f args ats g first caps cells v
  rw[Cy hg hw hR.slots]
  simp only[if_true]
  have ht:=Js htags
  have hfv:=OC trivial (ht f (by rw[ho];simp[Op.operands,Call.operands])) (HS hR.slots f)
  rw[hf] at hfv
  exact called (ρA:=λx=>BX (AX σ.sl x)) ho hfv (λx hx=>OC trivial (ht x (by rw[ho];simp[Op.operands,Call.operands];exact .inr hx)) (HS hR.slots x)) (hc σ.H hcells hr) (λ_ _ h=>toOpt h) hK
 |gskip hg hw=>
  rw[Cy hg hw hR.slots]
  simpa using⟨SR o a _,skip hK⟩
def LexE(P:Program)(mt:Bool)(ops:Array Oper)(base n:Nat)(Q:AState->Prop):List Oper->Nat->AState->Prop
 |[],_,σ=>Q σ
 |o :: l,k,σ=>∃val upd touch,StepO P mt ops (base+16*k) σ o val upd touch/\(∀d,o.dst=some d->d<n)/\LexE P mt ops base n Q l (k+1) (σ.app o.dst val upd)
def CodeE(P:Program)(c:Ctx)(code:Code)(Q:Exit->AState->Prop)(σ:AState):Prop:=
 ∀B ι a w,Rel c B ι σ a w->code.wpIn (xH c.rd) 0 P (λe a' w'=>∃B' ι' σ',Q e σ'/\Rel c B' ι' σ' a' w') a w
theorem CodeE.mono{c:Ctx}{code:Code}{Q Q':Exit->AState->Prop}{σ:AState}(h:CodeE P c code Q σ)(hq:∀e σ,Q e σ->Q' e σ):CodeE P c code Q' σ:=
 λB ι a w hR=>wpIn_mono (h B ι a w hR) λ_ _ _ ⟨B',ι',σ',hQ,hR'⟩=>⟨B',ι',σ',hq _ _ hQ,hR'⟩
theorem CJQ{mt:Bool}{ops:Array Oper}{base:Nat}{c:Ctx}{Q:Exit->AState->Prop}:∀(l:List Oper) (k:Nat) (σ:AState),LexE P mt ops base c.n (Q .normal) l k σ->∀B ι a w,Rel c B ι σ a w ->
  wpListIn (xH c.rd) 0 P ops (λe a' w'=>∃B' ι' σ',Q e σ'/\Rel c B' ι' σ' a' w') l a w
 |[],_,σ,h,B,ι,_,_,hR=>⟨B,ι,σ,h,hR⟩
 |o :: l,k,σ,h,B,ι,a,w,hR=>by
  obtain⟨val,upd,touch,hs,hd,hl⟩:=h
  exact hs.sound hR hd (λB' ι' a' w' hR'=>CJQ l (k+1) _ hl B' ι' a' w' hR')
theorem BLE{mt:Bool}{id:Nat}{ops:Array Oper}{base:Nat}{c:Ctx}{Q:Exit->AState->Prop}{σ:AState}(h:LexE P mt ops base c.n (Q .normal) ops.toList 0 σ):CodeE P c (.region id ops false) Q σ:=
 λB ι a w hR=>wpIn_region_list (CJQ ops.toList 0 σ h B ι a w hR)
end Go.Sym
namespace Go.Sym
variable {P : Program} {B B' : Ft} {ι ι' : Nat -> Pl} {H H' : Heap} {D : Nat -> Prop} {w w' : World}
theorem ALR{ops:Array Oper}{sl sl':Nat->AVal}{o:Oper}(h:∀t∈o.looksAt ops,sl' t=sl t)(x:Operand)(hx:x∈o.op.operands):AX sl' x=AX sl x:=by
 cases x with
 |tmp t=>exact h t (List.mem_append_left _ (List.mem_filterMap.2 ⟨.tmp t,by simpa using hx,rfl⟩))
 |_=>rfl
theorem Xw{ops:Array Oper}{sl sl':Nat->AVal}{o:Oper}{j:Nat}{want:Bool}(hg:o.guard=some (j,want))(h:∀t∈o.looksAt ops,sl' t=sl t):DF ops sl' j want=DF ops sl j want:=by
 unfold DF
 cases ht:(ops[j]?).bind (·.dst) with
 |none=>rfl
 |some t=>simp only;rw[h t (by simp[Oper.looksAt,hg,ht])]
theorem rV{ρ ρ':Operand->AVal}{l:List Operand}(h:∀x∈l,ρ x=ρ' x):XQ ρ l=XQ ρ' l:=by
 unfold XQ
 induction l with
 |nil=>rfl
 |cons x l ih=>rw[List.flatMap_cons,List.flatMap_cons,h x (by simp),ih λy hy=>h y (by simp[hy])]
theorem BLK{r:Nat}{ρ ρ':Operand->AVal}{H H':Heap}{g:Bool}(op:Op)(h:∀x∈op.operands,ρ x=ρ' x)(hH:∀id∈We (λx=>BX (ρ x)) op,H id=H' id):gopA P r ρ H g op=gopA P r ρ' H' g op:=by
 have hs:∀x∈op.operands,(λx=>BX (ρ x)) x=(λx=>BX (ρ' x)) x:=λx hx=>by simp only[h x hx]
 have ho:=AHC (P:=P) (mt:=false) (r:=r) op hs hH
 have ht:XQ ρ op.operands.toList=XQ ρ' op.operands.toList:=rV λx hx=>h x (by simpa using hx)
 unfold gopA
 split
 ·rename_i c a b
  rw[h c (by simp[Op.operands]),h a (by simp[Op.operands]),h b (by simp[Op.operands])]
 ·rename_i t len ps
  have:(ps.toList.map λp=>(p.1,BX (ρ p.2)))=(ps.toList.map λp=>(p.1,BX (ρ' p.2))):=List.map_congr_left λp hm=>by
   rw[h p.2 (by simp[Op.operands];exact⟨p.1,by simpa using hm⟩)]
  rw[this,ht]
 ·rename_i t l c
  rw[h l (by simp[Op.operands]),h c (by simp[Op.operands])]
 ·rw[ho,ht]
theorem StepO.local'{mt:Bool}{ops:Array Oper}{r:Nat}{σ σ':AState}{o:Oper}{val:AVal}{upd:List (Nat×HCell)}{touch:List Nat}(h:StepO P mt ops r σ o val upd touch)
  (hs:∀t∈o.looksAt ops,σ'.sl t=σ.sl t) (hH:∀id∈touch,σ'.H id=σ.H id):StepO P mt ops r σ' o val upd touch:=by
 have hev:∀x∈o.op.operands,AX σ.sl x=AX σ'.sl x:=λx hx=>(ALR hs x hx).symm
 cases h with
 |op hg h hp hr=>
  rw[rP o.op hev]
  refine .op hg ?_ hp (by rw[hH r (by simp)];exact hr)
  rw[<-h]
  exact (AHC o.op hev λid hid=>(hH id (by simp[hid])).symm).symm
 |gop hg hw h hp hr=>
  have hev':∀x∈o.op.operands,(λx=>BX (AX σ.sl x)) x=(λx=>BX (AX σ'.sl x)) x:=λx hx=>by simp only[hev x hx]
  rw[rP o.op hev']
  refine .gop hg (by rw[Xw hg hs];exact hw) ?_ hp (by rw[hH r (by simp)];exact hr)
  rw[<-h]
  exact (BLK o.op hev λid hid=>(hH id (by simp[hid])).symm).symm
 |call hg ho hf hc hcells hr=>
  rename_i f args ats g first caps cells
  have hargs:args.toList.map (AX σ'.sl)=args.toList.map (AX σ.sl):=List.map_congr_left λx hx=>(hev x (by rw[ho];simp[Op.operands,Call.operands];right;simpa using hx)).symm
  refine .call hg ho (by rw[<-hev f (by rw[ho];simp[Op.operands,Call.operands])];exact hf) (by rw[hargs];exact hc)
   (λp hp=>by rw[hH p.1 (by simp;exact .inl ⟨p.2,hp⟩)];exact hcells p hp) (λi h1 h2=>by rw[hH i (by simp;right;exact⟨i-r,by omega,by omega⟩)];exact hr i h1 h2)
 |inv hg ho hf hm hc hcells hr=>
  rename_i x m args ats t d g cells
  have hargs:args.toList.map (AX σ'.sl)=args.toList.map (AX σ.sl):=List.map_congr_left λx hx=>(hev x (by rw[ho];simp[Op.operands,Call.operands];right;simpa using hx)).symm
  refine .inv hg ho (by rw[<-hev x (by rw[ho];simp[Op.operands,Call.operands])];exact hf) hm (by rw[hargs];exact hc)
   (λp hp=>by rw[hH p.1 (by simp;exact .inl ⟨p.2,hp⟩)];exact hcells p hp) (λi h1 h2=>by rw[hH i (by simp;right;exact⟨i-r,by omega,by omega⟩)];exact hr i h1 h2)
 |gcall hg hw ho hf ht hc hcells hr=>
  rename_i j want gd f args ats g first caps cells v
  have hargs:args.toList.map (λx=>BX (AX σ'.sl x))=args.toList.map (λx=>BX (AX σ.sl x)):=List.map_congr_left λx hx=>by simp only[hev x (by rw[ho];simp[Op.operands,Call.operands];right;simpa using hx)]
  refine .gcall hg (by rw[Xw hg hs];exact hw) ho (by rw[<-hev f (by rw[ho];simp[Op.operands,Call.operands])];exact hf)
   (λh=>by rw[<-rV (ρ:=AX σ.sl) λx hx=>hev x (by simpa using hx)];exact ht h) (λh=>by rw[hargs];exact hc h)
   (λp hp=>by rw[hH p.1 (by simp;exact .inl ⟨p.2,hp⟩)];exact hcells p hp) (λi h1 h2=>by rw[hH i (by simp;right;exact⟨i-r,by omega,by omega⟩)];exact hr i h1 h2)
 |gcallT hg hw ho hf ht hc hcells hr=>
  rename_i j want f args ats g first caps cells v
  have hargs:args.toList.map (λx=>BX (AX σ'.sl x))=args.toList.map (λx=>BX (AX σ.sl x)):=List.map_congr_left λx hx=>by simp only[hev x (by rw[ho];simp[Op.operands,Call.operands];right;simpa using hx)]
  refine .gcallT hg (by rw[Xw hg hs];exact hw) ho (by rw[<-hev f (by rw[ho];simp[Op.operands,Call.operands])];exact hf)
   (by rw[<-rV (ρ:=AX σ.sl) λx hx=>hev x (by simpa using hx)];exact ht) (by rw[hargs];exact hc)
   (λp hp=>by rw[hH p.1 (by simp;exact .inl ⟨p.2,hp⟩)];exact hcells p hp) (λi h1 h2=>by rw[hH i (by simp;right;exact⟨i-r,by omega,by omega⟩)];exact hr i h1 h2)
 |gskip hg hw=>exact .gskip hg (by rw[Xw hg hs];exact hw)
end Go.Sym
