/- States against worlds; one step of a region. -/
import Derived.Test.YtpidmmilfdcepaaGreatSym5
import Derived.OrdersIn
import Derived.TacticsIn
set_option linter.unusedVariables false
set_option linter.unusedSimpArgs false
namespace Go.Sym
variable {P : Program} {B B' : Fi} {ι ι' : Nat -> Pl} {H H' : Heap} {D : Nat -> Prop} {w w' : World}
structure Ctx where
 B0:Fi
 ι0:Nat->Pl
 H0:Heap
 w0:World
 n:Nat
 rd:Option Nat
 mks:Bool
def J0(rd:Option Nat):Fence:={ Fence.wide with round:=rd }
structure Quiet(b:Nat)(x:Obj)(ι:Nat->Pl)(H:Heap)(w:World):Prop where
 here:w.heap[b]?=some x
 sep:∀i o,H i=.live o->(ι i).b≠b
theorem Quiet.moved{b:Nat}{x:Obj}(h:Quiet b x ι H w)(m:Moved B ι H w B' ι' H' w'):Quiet b x ι' H' w':=by
 have hlt:b<w.heap.size:=(Array.getElem?_eq_some_iff.1 h.here).1
 refine⟨by rw[m.frame b hlt h.sep];exact h.here,λi o hi=>?_⟩
 rcases m.own i o hi with⟨i0,o0,h1,h2⟩ | h1
 ·rw[<-h2];exact h.sep _ _ h1
 ·omega
theorem HRel.put{b:Nat}{x:Obj}(h:HRel B ι H w)(hq:Quiet b x ι H w)(hx:∀c e fr,x≠.cells c e fr)(y:Obj):HRel B ι H (w.putObj b y):=by
 have oth:∀k,k≠b->(w.putObj b y).heap[k]?=w.heap[k]?:=λk hk=>World.putObj_heap_other hk
 refine⟨λi o hi=>?_,h.inj,h.sep,λk c hk=>?_⟩
 ·rw[oth _ (hq.sep i o hi)];exact h.obj i o hi
 ·obtain⟨e,fr,h1⟩:=h.imm k c hk
  refine⟨e,fr,?_⟩
  rw[oth];exact h1
  intro he;subst he
  rw[hq.here] at h1;cases h1;exact hx _ _ _ rfl
theorem Moved.put{b:Nat}{x:Obj}(m:Moved B ι H w B' ι' H' w')(hq:Quiet b x ι' H' w')(hx:∀c e fr,x≠.cells c e fr)(hb:w.heap.size<=b)(y:Obj):Moved B ι H w B' ι' H' (w'.putObj b y):=
 ⟨m.bm,m.bn,m.im,m.heap.put hq hx y,m.own,λk hk hno=>by rw[World.putObj_heap_other (by omega)];exact m.frame k hk hno,by rw[World.putObj_size];exact m.size,⟨m.calm.os,m.calm.tape,m.calm.output⟩⟩
theorem Quiet.put_other{b d:Nat}{x y:Obj}(h:Quiet b x ι H w)(hd:d≠b):Quiet b x ι H (w.putObj d y):=⟨by rw[World.putObj_heap_other (Ne.symm hd)];exact h.here,h.sep⟩
theorem Quiet.put_same{b:Nat}{x:Obj}(h:Quiet b x ι H w)(y:Obj):Quiet b y ι H (w.putObj b y):=⟨World.putObj_heap_same (Array.getElem?_eq_some_iff.1 h.here).1,h.sep⟩
def AVB(Ds:List Nat):List Deferred:=Ds.map λD=>{ target:=.collected D,args:=#[] }
structure Rel(c:Ctx)(B:Fi)(ι:Nat->Pl)(σ:AState)(a:Act)(w:World):Prop where
 slots:∀t,VRel B ι σ.H.dom (σ.sl t) (a.tmps.getD t undef)
 size:a.tmps.size=c.n
 defers:∃Ds:List Nat,a.defers=AVB Ds/\(c.mks=false->Ds=[])/\Ds.Nodup/\∀D∈Ds,c.w0.heap.size<=D/\Quiet D (.deferred (some [])) ι σ.H w
 mv:Moved c.B0 c.ι0 c.H0 c.w0 B ι σ.H w
def AState.app(σ:AState)(dst:Option Tmp)(v:AVal)(u:List (Nat×HCell)):AState:=⟨dZ σ.sl dst v,GF σ.H u⟩
def BAE(P:Program)(f:FuncId):Prop:=∀(args:Array Value) (w:World),(callFunc f args).run P w=.ok (.enter f args) w
theorem AEP {f : FuncId} {fn : Func} {c : Code} (hf : P.funcs[f]? = some fn) (hname : (fn.name == "runtime.NumGoroutine") = false) (hb : fn.body = some c) : BAE P f := by
 intro args w
 have h1 : fn.name ≠ "runtime.NumGoroutine" := by simpa using hname
 simp[callFunc,hf,h1,hb,mark]
def Ps(B:Fi)(ι:Nat->Pl)(D:Nat->Prop)(as:List AVal)(vs:Array Value):Prop:=
 vs.size=as.length/\∀(j:Nat) (a:AVal) (y:Value),as[j]?=some a->vs[j]?=some y->VRel B ι D a y
def CNK(P:Program)(g:FuncId)(as:List AVal)(H:Heap)(val:AVal)(upd:List (Nat×HCell)):Prop:=
 BAE P g/\∀(B:Fi) (ι:Nat->Pl) (w:World) (vs:Array Value),Ps B ι H.dom as vs->HRel B ι H w ->
  Calls P g vs w λe w'=>∃v,e=.returned v/\SD B ι H w (GF H upd) val v w'
def ARK(P:Program)(g:FuncId)(as:List AVal)(r:Nat)(cells:List (Nat×HCell))(val:AVal)(upd:List (Nat×HCell)):Prop:=
 ∀H:Heap,(∀p∈cells,H p.1=p.2)->(∀i,r<=i->i<r+16->H i=.none)->CNK P g as H val upd
def TW:AVal->List Nat
 | .bptr id _ | .rptr id _ _ _ | .own id _ _ _ | .mref id=>[id]
 |_=>[]
def AXF:Op->Bool
 | .indexAddr .. | .fieldAddr .. | .nilCheck .. | .move .. | .assign .. | .extract .. | .field .. | .index ..=>true
 | .call ⟨.builtin .len,_,_⟩=>true
 |_=>false
def aM(ρ:Operand->AVal)(op:Op):List Nat:=bif AXF op then [] else op.operands.toList.flatMap λx=>TW (ρ x)
theorem AFV{mt:Bool}{r:Nat}{ρ ρ':Operand->AVal}{H H':Heap}(op:Op)(h:∀x∈op.operands,ρ x=ρ' x)(hH:∀id∈aM ρ op,H id=H' id):opA P mt r ρ H op=opA P mt r ρ' H' op:=by
 have foot:AXF op=false->∀x∈op.operands,∀id∈TW (ρ x),H id=H' id:=λhn x hx id hid=>hH id (by unfold aM;rw[hn];exact List.mem_flatMap.2 ⟨x,by simpa using hx,hid⟩)
 have rd:∀(p:AVal),(∀id∈TW p,H id=H' id)->uH H p=uH H' p:=by
  intro p hp
  cases p with
  |bptr id c=>simp only[uH,hp id (by simp[TW])]
  |rptr id k i c=>simp only[uH,hp id (by simp[TW])]
  |d x=>cases x<;>rfl
  |_=>rfl
 have src:∀(p:AVal),(∀id∈TW p,H id=H' id)->srcA H p=srcA H' p:=by
  intro p hp
  cases p with
  |own id k j m=>simp only[srcA,hp id (by simp[TW])]
  |d x=>cases x<;>rfl
  |_=>rfl
 have dst:∀(p:AVal),(∀id∈TW p,H id=H' id)->dstA H p=dstA H' p:=by
  intro p hp
  cases p with
  |own id k j m=>cases j<;>simp only[dstA,hp id (by simp[TW])]
  |d x=>cases x with
   |list k n g e=>cases e<;>rfl
   |_=>rfl
  |_=>rfl
 have mp:∀(p:AVal),(∀id∈TW p,H id=H' id)->wE H p=wE H' p:=by
  intro p hp
  cases p with
  |mref id=>simp only[wE,hp id (by simp[TW])]
  |_=>rfl
 have pairs:∀ps:Array (Nat×Operand),(∀x∈(ps.toList.map (·.2)),ρ x=ρ' x)->(ps.toList.map λp=>(p.1,ρ p.2))=(ps.toList.map λp=>(p.1,ρ' p.2)):=λps hp=>
  List.map_congr_left λp hm=>by rw[hp p.2 (List.mem_map.2 ⟨p,hm,rfl⟩)]
 have opt:∀q:Option Operand,(∀x∈q.toArray,ρ x=ρ' x)->q.map ρ=q.map ρ':=λq hq=>by
  cases q with
  |none=>rfl
  |some x=>simp[hq x (by simp)]
 cases op<;>simp only[Op.operands,AXF,eq_self,true_implies,reduceCtorEq,false_implies] at h foot<;>simp only[opA]
 case move x=>rw[h x (by simp)]
 case assign x=>rw[h x (by simp)]
 case pick c a b=>rw[h c (by simp),h a (by simp),h b (by simp)]
 case box t x=>rw[h x (by simp)]
 case build t ps=>rw[pairs ps λx hx=>h x (by simpa using hx)]
 case buildSlice t n ps=>rw[pairs ps λx hx=>h x (by simpa using hx)]
 case load t a=>
  have hr:=rd (ρ a) (foot a (by simp))
  have he:=h a (by simp)
  have:ANC P H t (ρ a)=ANC P H' t (ρ a):=by
   unfold ANC;rw[hr]
   split
   ·generalize hq:ρ a=p at *
    split
    ·rename_i id k;rw[foot a (by simp) id (by rw[hq];simp[TW])]
    ·rfl
   ·rfl
   ·rfl
  rw[this,he]
 case store t a x=>
  have he:=h a (by simp)
  have hx:=h x (by simp)
  have hf:=foot a (by simp)
  rw[<-he,<-hx]
  generalize ρ a=p at hf
  cases p with
  |bptr id c=>
   have e:=hf id (by simp[TW])
   have q:=BFQ (P:=P) (t:=t) (c:=c) (x:=ρ x) e
   unfold rE;rw[q];rfl
  |rptr id k i c=>exact CAM (hf id (by simp[TW]))
  |_=>rfl
 case nilCheck x=>rw[h x (by simp)]
 case lookup t m ix ok=>
  rw[h ix (by simp),<-h m (by simp)]
  have:=mp (ρ m) (foot m (by simp))
  unfold AKB;rw[this]
 case mapUpdate t m k x=>
  rw[h k (by simp),h x (by simp),<-h m (by simp)]
  have:=mp (ρ m) (foot m (by simp))
  unfold F2;rw[this]
 case insert t m k x=>
  rw[h k (by simp),h x (by simp),<-h m (by simp)]
  have:=mp (ρ m) (foot m (by simp))
  unfold F2;rw[this]
 case mapEntry t m k=>
  rw[h k (by simp),<-h m (by simp)]
  have:=mp (ρ m) (foot m (by simp))
  unfold AUO;rw[this]
 case entryStore t m s x=>
  rw[h s (by simp),h x (by simp),<-h m (by simp)]
  have:=mp (ρ m) (foot m (by simp))
  unfold cG;rw[this]
 case binOp op t x y yt=>rw[h x (by simp),h y (by simp)]
 case unOp op t x=>rw[h x (by simp)]
 case convert s d x=>rw[h x (by simp)]
 case makeInterface t x=>rw[h x (by simp)]
 case makeFunc fn first caps=>
  rw[List.map_congr_left (l:=first.toList) λx hx=>h x (by simp at hx;simp[hx]),List.map_congr_left (l:=caps.toList) λx hx=>h x (by simp at hx;simp[hx])]
 case makeSlice t l c=>rw[h l (by simp),h c (by simp)]
 case slice t x lo hi mx=>
  have e1:=opt lo λy hy=>h y (by simp at hy;simp[hy])
  have e2:=opt hi λy hy=>h y (by simp at hy;simp[hy])
  have e3:=opt mx λy hy=>h y (by simp at hy;simp[hy])
  have hf:=foot x (by simp)
  have a1:Vu P H t (ρ x)=Vu P H' t (ρ x):=by
   generalize ρ x=p at hf
   unfold Vu
   split
   ·rename_i m e id k hu;rw[hf id (by simp[TW])]
   ·rfl
  have a2:∀l q m,iS P H t (ρ x) l q m=iS P H' t (ρ x) l q m:=λl q m=>by
   generalize ρ x=p at hf
   unfold iS
   split
   ·rename_i id k n km mm hu;rw[hf id (by simp[TW])]
   ·rfl
  have hx:=h x (by simp)
  rw[hx] at a1 a2
  rw[hx,e1,e2,e3]
  split
  ·rfl
  ·split
   ·rw[a1]
   ·rw[a2,e1,e2,e3]
 case fieldAddr s x f=>rw[h x (by simp)]
 case field s x f=>rw[h x (by simp)]
 case indexAddr t x ix=>rw[h x (by simp),h ix (by simp)]
 case index t x ix=>rw[h x (by simp),h ix (by simp)]
 case extract x i=>rw[h x (by simp)]
 case call c=>
  obtain⟨callee,args,ats⟩:=c
  cases callee with
  |builtin b=>
   simp only[Call.operands] at h foot
   simp only
   have hm:args.toList.map ρ=args.toList.map ρ':=List.map_congr_left λx hx=>h x (by simpa using hx)
   rw[<-hm]
   by_cases hb:b=.len
   ·subst hb;unfold ACA;split<;>first | rfl | contradiction
   replace foot:=foot (by cases b<;>first | rfl | exact absurd rfl hb)
   unfold ACA
   split
   ·rfl
   ·rename_i s x hl
    split
    ·rename_i t t2 ht
     have ms:∀z,z∈args.toList.map ρ->∀id∈TW z,H id=H' id:=λz hz id hid=>by
      obtain⟨y,hy,rfl⟩:=List.mem_map.1 hz
      exact foot y (by simpa using hy) id hid
     rw[hl] at ms
     unfold AJB
     rw[dst s (ms s (by simp)),src x (ms x (by simp))]
    ·rfl
   ·rename_i d x hl
    split
    ·have ms:∀z,z∈args.toList.map ρ->∀id∈TW z,H id=H' id:=λz hz id hid=>by
      obtain⟨y,hy,rfl⟩:=List.mem_map.1 hz
      exact foot y (by simpa using hy) id hid
     rw[hl] at ms
     have hd:=ms d (by simp)
     rw[BEW (src x (ms x (by simp))) λid k i n e=>hd id (by subst e;simp[TW])]
    ·rfl
   ·rfl
   ·rfl
   ·rfl
  |_=>rfl
def GC(ops:Array Oper)(sl:Nat->AVal)(j:Nat)(want:Bool):Option Bool:=match (ops[j]?).bind (·.dst) with
 |some t=>match want,sl t with
  |true,.d (.v (.bool b))=>some b
  |false,.d (.v (.bool b))=>some (!b)
  |true,.opt g (.d (.v (.bool b)))=>some (g&&b)
  |false,.opt g (.d (.v (.bool b)))=>some (g&&!b)
  |_,_=>none
 |none=>none
theorem AKZ{ops:Array Oper}{a:Act}{j:Nat}{t:Tmp}(ht:(ops[j]?).bind (·.dst)=some t):(∀b,a.tmps.getD t undef=.bool b->yielded ops a.tmps j=some b)/\(a.tmps.getD t undef=.tuple #[]->yielded ops a.tmps j=none):=by
 have hget:a.tmps.getD t undef=(a.tmps[t]?).getD undef:=by simp
 simp only[yielded,ht,Option.bind_some]
 refine⟨λb h=>?_,λh=>?_⟩<;>rw[hget] at h<;>cases hq:a.tmps[t]? with
  |none=>rw[hq] at h<;>first | rfl | cases h
  |some x=>rw[hq] at h;simp at h;subst h;rfl
theorem Bw{ops:Array Oper}{sl:Nat->AVal}{o:Oper}{j:Nat}{want g:Bool}{a:Act}(hg:o.guard=some (j,want))(h:GC ops sl j want=some g)(hs:∀t,VRel B ι D (sl t) (a.tmps.getD t undef)) :
  Region.wanted o (yielded ops a.tmps)=g:=by
 unfold GC at h
 simp only[Region.wanted,hg]
 split at h
 ·rename_i t ht
  have hv:=hs t
  obtain⟨y1,y2⟩:=AKZ (a:=a) ht
  split at h
  ·rename_i b hb
   cases h
   rw[hb] at hv
   rw[y1 _ hv.d_inv.v_inv]
   cases g<;>rfl
  ·rename_i b hb
   cases h
   rw[hb] at hv
   rw[y1 _ hv.d_inv.v_inv]
   cases b<;>rfl
  ·rename_i g' b hb
   cases h
   rw[hb] at hv
   cases hv with
   |opt h1 h2=>
    cases g' with
    |true=>rw[y1 b (h1 rfl).d_inv.v_inv];cases b<;>rfl
    |false=>rw[y2 (h2 rfl)];rfl
  ·rename_i g' b hb
   cases h
   rw[hb] at hv
   cases hv with
   |opt h1 h2=>
    cases g' with
    |true=>rw[y1 b (h1 rfl).d_inv.v_inv];cases b<;>rfl
    |false=>rw[y2 (h2 rfl)];rfl
  ·cases h
 ·cases h
def bO(g:Bool):List Prop->List Prop
 |[]=>[]
 |l=>[g=true->DJ l]
theorem Bh{g:Bool}{l:List Prop}(h:DJ (bO g l))(hg:g=true):DJ l:=by
 cases l with
 |nil=>trivial
 |cons p r=>exact h hg
def ZX(ρ:Operand->AVal)(l:List Operand):List Prop:=l.flatMap λx=>Oi True (ρ x)
def gopA(P:Program)(r:Nat)(ρ:Operand->AVal)(H:Heap)(g:Bool)(op:Op):Option (AVal×List Prop):=match op with
 | .pick c a b=>match CQ (ρ c) with
  | .d (.v (.bool t))=>some (ALK t (CQ (ρ a)) (CQ (ρ b)),bO g (Oi True (ρ c) ++ (Oi (t=true) (ρ a) ++ Oi (t=false) (ρ b))))
  |_=>none
 | .buildSlice t len ps=>match VU P r t len (ps.toList.map λp=>(p.1,CQ (ρ p.2))) with
  |some ⟨_,[(_,.live (.row k n get))],_⟩=>some (.d (.list k n get true),bO g (ZX ρ (Op.buildSlice t len ps).operands.toList))
  |_=>none
 | .makeSlice t l c=>match Ge P r t (CQ (ρ l)) (CQ (ρ c)) with
  |some ⟨_,[(_,.live (.row k n get))],p⟩=>some (.d (.list k n get true),bO g (Oi True (ρ l) ++ (Oi True (ρ c) ++ p)))
  |_=>none
 |op=>match opA P false r (λx=>CQ (ρ x)) H op with
  |some ⟨v,[],p⟩=>some (v,bO g (ZX ρ op.operands.toList ++ p))
  |_=>none
theorem arr1(u:Value)(z:Array Value):(#[u] ++ z)[0]?=some u/\(#[u] ++ z).extract 1 (#[u] ++ z).size=z:=by
 constructor
 ·rw[Array.getElem?_append_left (by simp)];rfl
 ·obtain⟨z⟩:=z
  simp
def AJZ(P:Program)(t:TypeId)(name:String):Option FuncId:=match P.info? t,P.underlying t with
 |some i,some (.struct _)=>match i.methods.find? (·.name==name) with
  |some m=>match m.path.toList,m.func with
   |[],some (f,false)=>some f
   |_,_=>none
  |none=>none
 |_,_=>none
theorem BKB{t:TypeId}{name:String}{f:FuncId}(h:AJZ P t name=some f)(n:Nat)(v:Value)(w:World):(method (n+1) t v name).run P w=.ok (f,v) w:=by
 unfold AJZ at h
 split at h
 ·rename_i i fs hi hu
  split at h
  ·rename_i m hm
   split at h
   ·rename_i fn hp hf
    cases h
    simp[method,XH hi,hm,hp,follow,hf,receiverAt,run_underlying hu,Place.get]
   ·cases h
  ·cases h
 ·cases h
inductive StepO(P:Program)(mt:Bool)(ops:Array Oper)(r:Nat)(σ:AState)(o:Oper):AVal->List (Nat×HCell)->List Nat->Prop
 |op {e:Eff} (hg:o.guard=none) (h:opA P mt r (BH σ.sl) σ.H o.op=some e) (hp:DJ e.pre) (hr:σ.H r=.none):StepO P mt ops r σ o e.val e.upd (r :: aM (BH σ.sl) o.op)
 |gop {j:Nat} {want g:Bool} {v:AVal} {p:List Prop} (hg:o.guard=some (j,want)) (hw:GC ops σ.sl j want=some g) (h:gopA P r (BH σ.sl) σ.H g o.op=some (v,p)) (hp:DJ p) (hr:σ.H r=.none) :
   StepO P mt ops r σ o (.opt g v) [] (r :: aM (λx=>CQ (BH σ.sl x)) o.op)
 |call {f:Operand} {args:Array Operand} {ats:Array TypeId} {g:FuncId} {first caps:List AVal} {cells upd:List (Nat×HCell)} {val:AVal} (hg:o.guard=none)
   (ho:o.op=.call ⟨.value f,args,ats⟩) (hf:BH σ.sl f=.fn (.func g) first caps) (hc:ARK P g (first ++ args.toList.map (BH σ.sl) ++ caps) r cells val upd)
   (hcells:∀p∈cells,σ.H p.1=p.2) (hr:∀i,r<=i->i<r+16->σ.H i=.none):StepO P mt ops r σ o val upd (cells.map (·.1) ++ (List.range 16).map (r + ·))
 |inv {x:Operand} {m:String} {args:Array Operand} {ats:Array TypeId} {t:TypeId} {d:DVal} {g:FuncId} {cells upd:List (Nat×HCell)} {val:AVal} (hg:o.guard=none)
   (ho:o.op=.call ⟨.invoke x m,args,ats⟩) (hf:BH σ.sl x=.d (.iface t d)) (hm:AJZ P t m=some g) (hc:ARK P g (.d d :: args.toList.map (BH σ.sl)) r cells val upd)
   (hcells:∀p∈cells,σ.H p.1=p.2) (hr:∀i,r<=i->i<r+16->σ.H i=.none):StepO P mt ops r σ o val upd (cells.map (·.1) ++ (List.range 16).map (r + ·))
 |gcall {j:Nat} {want gd:Bool} {f:Operand} {args:Array Operand} {ats:Array TypeId} {g:FuncId} {first caps:List AVal} {cells:List (Nat×HCell)} {val:AVal} (hg:o.guard=some (j,want)) (hw:GC ops σ.sl j want=some gd)
   (ho:o.op=.call ⟨.value f,args,ats⟩) (hf:CQ (BH σ.sl f)=.fn (.func g) first caps) (htags:gd=true->DJ (ZX (BH σ.sl) o.op.operands.toList))
   (hc:gd=true->ARK P g (first ++ args.toList.map (λx=>CQ (BH σ.sl x)) ++ caps) r cells val [])
   (hcells:∀p∈cells,σ.H p.1=p.2) (hr:∀i,r<=i->i<r+16->σ.H i=.none):StepO P mt ops r σ o (.opt gd val) [] (cells.map (·.1) ++ (List.range 16).map (r + ·))
 |gcallT {j:Nat} {want:Bool} {f:Operand} {args:Array Operand} {ats:Array TypeId} {g:FuncId} {first caps:List AVal} {cells upd:List (Nat×HCell)} {val:AVal} (hg:o.guard=some (j,want)) (hw:GC ops σ.sl j want=some true)
   (ho:o.op=.call ⟨.value f,args,ats⟩) (hf:CQ (BH σ.sl f)=.fn (.func g) first caps) (htags:DJ (ZX (BH σ.sl) o.op.operands.toList))
   (hc:ARK P g (first ++ args.toList.map (λx=>CQ (BH σ.sl x)) ++ caps) r cells val upd)
   (hcells:∀p∈cells,σ.H p.1=p.2) (hr:∀i,r<=i->i<r+16->σ.H i=.none):StepO P mt ops r σ o (.opt true val) upd (cells.map (·.1) ++ (List.range 16).map (r + ·))
 |gskip {j:Nat} {want:Bool} {val:AVal} (hg:o.guard=some (j,want)) (hw:GC ops σ.sl j want=some false):StepO P mt ops r σ o (.opt false val) [] []
theorem Rel.app{c:Ctx}{σ:AState}{a:Act}{dst:Option Tmp}{v:AVal}{y:Value}{u:List (Nat×HCell)}(h:Rel c B ι σ a w)(hd:SD B ι σ.H w (GF σ.H u) v y w')(hdst:∀d,dst=some d->d<c.n) :
  ∃B' ι',Rel c B' ι' (σ.app dst v u) (a.put dst y) w':=by
 obtain⟨B',ι',hm,hv⟩:=hd
 refine⟨B',ι',⟨λt=>?_,?_,?_,h.mv.trans hm⟩⟩
 ·exact E6 (λt=>hm.vrel (h.slots t)) (λd hd=>by rw[h.size];exact hdst d hd) hv t
 ·cases dst<;>simp[Act.put,h.size]
 ·obtain⟨Ds,h1,h0,h2,h3⟩:=h.defers
  exact⟨Ds,by cases dst<;>simpa[Act.put] using h1,h0,h2,λD hD=>⟨(h3 D hD).1,(h3 D hD).2.moved hm⟩⟩
theorem Mg{ρA:Operand->AVal}:∀{l:List Operand},DJ (ZX ρA l)->∀x,x∈l->DJ (Oi True (ρA x))
 |[],_,x,hx=>by cases hx
 |y :: l,h,x,hx=>by
  have h:DJ (Oi True (ρA y) ++ ZX ρA l):=h
  obtain⟨h1,h2⟩:=BS h
  rcases List.mem_cons.1 hx with rfl | hx
  ·exact h1
  ·exact Mg h2 x hx
theorem ABP{ρ ρ':Operand->AVal}(op:Op)(h:∀x∈op.operands,ρ x=ρ' x):aM ρ op=aM ρ' op:=by
 unfold aM
 cases AXF op
 case true=>rfl
 show op.operands.toList.flatMap _=op.operands.toList.flatMap _
 have:∀l:List Operand,(∀x∈l,ρ x=ρ' x)->(l.flatMap λx=>TW (ρ x))=l.flatMap λx=>TW (ρ' x):=by
  intro l hl
  induction l with
  |nil=>rfl
  |cons x l ih=>rw[List.flatMap_cons,List.flatMap_cons,hl x (by simp),ih λy hy=>hl y (by simp[hy])]
 exact this _ λx hx=>h x (by simpa using hx)
open Classical in
theorem BMC{r:Nat}{ρA:Operand->AVal}{ρ:Operand->Value}{o:Oper}{v:AVal}{p:List Prop}(h:gopA P r ρA H true o.op=some (v,p))(hp:DJ p)(hρ:∀x,VRel B ι H.dom (ρA x) (ρ x))(hcv:∀v,ρ (.const v)=v)(hr:H r=.none)(hH:HRel B ι H w) :
  ∃y w',Runs P ρ o w y w'/\SD B ι H w H v y w':=by
 have gen:∀{e:Eff},opA P false r (λx=>CQ (ρA x)) H o.op=some e->e.upd=[]->DJ e.pre->DJ (ZX ρA o.op.operands.toList)->∃y w',Runs P ρ o w y w'/\SD B ι H w H e.val y w':=by
  intro e he hu hpe ht
  let ρ':Operand->AVal:=λx=>if x∈o.op.operands then CQ (ρA x) else .any
  have hc:opA P false r ρ' H o.op=some e:=by
   rw[<-he]
   exact AFV o.op (λx hx=>by show (if _ then _ else _)=_;rw[if_pos hx]) (λ_ _=>rfl)
  obtain⟨y,w',h1,h2⟩:=ATP (ρ:=ρ) hc hpe (λx=>by
   show VRel B ι H.dom (if _ then _ else _) _
   split
   ·rename_i hx;exact PZ trivial (Mg ht x (by simpa using hx)) (hρ x)
   ·exact .any) hcv hr hH
  rw[hu] at h2
  exact⟨y,w',h1,h2⟩
 unfold gopA at h
 split at h
 ·rename_i c a b ho
  split at h
  ·rename_i t hc
   cases h
   have hp:=Bh hp rfl
   obtain⟨hp1,hp2⟩:=BS hp
   obtain⟨hp2,hp3⟩:=BS hp2
   have:=PZ trivial hp1 (hρ c)
   rw[hc] at this
   have hcv:ρ c=.bool t:=this.d_inv.v_inv
   refine⟨if t then ρ a else ρ b,w,.inl (by simp[execOp,ho,hcv,asBool]),B,ι,Moved.refl hH,?_⟩
   simp only[BFJ]
   cases t
   ·exact PZ rfl hp3 (hρ b)
   ·exact PZ rfl hp2 (hρ a)
  ·cases h
 ·rename_i t len ps ho
  split at h
  ·rename_i v0 r0 k n get p0 hb
   cases h
   have ht:=Bh hp rfl
   obtain⟨k',n',get',y,w',he,h1,h2⟩:=rW (parts:=ps.map λx=>(x.1,ρ x.2)) hb hH (by simp) (λj a y ha hy=>by
    obtain⟨x,hx,rfl⟩:=nJ ha
    rw[Array.getElem?_toList] at hx
    simp[hx] at hy
    subst hy
    have hm:x.2∈(Op.buildSlice t len ps).operands.toList:=by
     simp only[Op.operands,List.mem_map]
     exact⟨x,by simpa using Array.mem_of_getElem? hx,rfl⟩
    exact⟨rfl,PZ trivial (Mg ht x.2 hm) (hρ x.2)⟩)
   simp only[Eff.mk.injEq,List.cons.injEq,Prod.mk.injEq,HCell.live.injEq,AObj.row.injEq,and_true] at he
   obtain⟨_,⟨_,rfl,rfl,rfl⟩,_⟩:=he
   exact⟨y,w',.inl (by simp[execOp,ho,h1]),h2⟩
  ·cases h
 ·rename_i t l c ho
  split at h
  ·rename_i v0 r0 k n get p0 hb
   cases h
   have hp:=Bh hp rfl
   obtain⟨hp1,hp2⟩:=BS hp
   obtain⟨hp2,hp3⟩:=BS hp2
   obtain⟨k',n',get',y,w',he,h1,h2⟩:=ALG hb hp3 hH (PZ trivial hp1 (hρ l)) (PZ trivial hp2 (hρ c))
   simp only[Eff.mk.injEq,List.cons.injEq,Prod.mk.injEq,HCell.live.injEq,AObj.row.injEq,and_true] at he
   obtain⟨_,_,rfl,rfl,rfl⟩:=he
   exact⟨y,w',.inl (by simp[execOp,ho,h1]),h2⟩
  ·cases h
 ·split at h
  ·rename_i v0 p0 he
   cases h
   have hp:=Bh hp rfl
   obtain⟨hp1,hp2⟩:=BS hp
   exact gen he rfl hp2 hp1
  ·cases h
theorem BXJ{f:Operand}{args:Array Operand}{first caps:List AVal}{ρA:Operand->AVal}{ρ:Operand->Value}{g:FuncId}(hf:VRel B ι D (.fn (.func g) first caps) (ρ f))(hargs:∀x,x∈args->VRel B ι D (ρA x) (ρ x)) :
  ∃xs ys,ρ f=.func (.func g) xs ys/\Ps B ι D (first ++ args.toList.map ρA ++ caps) (xs ++ args.map ρ ++ ys):=by
 obtain⟨xs,ys,hfe,hx,hy,h1,h2⟩:∃xs ys,ρ f=.func (.func g) xs ys/\xs.size=first.length/\ys.size=caps.length /\
   (∀(j:Nat) (x:AVal) (y:Value),first[j]?=some x->xs[j]?=some y->VRel B ι D x y)/\(∀(j:Nat) (x:AVal) (y:Value),caps[j]?=some x->ys[j]?=some y->VRel B ι D x y):=by
  generalize ρ f=v at hf
  cases hf with
  |fn hx hy h1 h2=>exact⟨_,_,rfl,hx,hy,h1,h2⟩
 refine⟨xs,ys,hfe,by simp[hx,hy],λj x y hxj hyj=>?_⟩
 have hyj':(xs.toList ++ args.toList.map ρ ++ ys.toList)[j]?=some y:=by
  rw[<-Array.getElem?_toList] at hyj;simpa using hyj
 have hl1:xs.toList.length=first.length:=by simpa using hx
 by_cases hj1:j<first.length
 ·rw[List.append_assoc,List.getElem?_append_left hj1] at hxj
  rw[List.append_assoc,List.getElem?_append_left (by omega)] at hyj'
  exact h1 j x y hxj (by simpa using hyj')
 ·by_cases hj2:j<first.length+args.size
  ·rw[List.getElem?_append_left (by simp;omega),List.getElem?_append_right (by omega)] at hxj
   rw[List.getElem?_append_left (by simp[hx];omega),List.getElem?_append_right (by omega),hl1] at hyj'
   obtain⟨q,hq,rfl⟩:=nJ hxj
   obtain⟨q',hq',rfl⟩:=nJ hyj'
   rw[hq] at hq';cases hq'
   exact hargs q (by rw[Array.getElem?_toList] at hq;exact Array.mem_of_getElem? hq)
  ·rw[List.getElem?_append_right (by simp;omega)] at hxj
   rw[List.getElem?_append_right (by simp[hx];omega)] at hyj'
   simp only[List.length_append,List.length_map,Array.length_toList] at hxj hyj'
   rw[hx] at hyj'
   exact h2 _ x y hxj (by simpa using hyj')
theorem Runs.not_defer{ρ:Operand->Value}{o:Oper}{y:Value}(h:Runs P ρ o w y w'):∀c,o.op≠.defer c:=by
 intro c hc
 unfold Runs execOp at h
 rw[hc] at h
 simp only[Sem.run_bind] at h
 cases hr:(resolve ρ c o.type).run P w with
 |ok d w1=>rw[hr] at h;simp at h
 |halt x w1=>rw[hr] at h;simp at h
theorem UL(o:Oper)(a:Act)(rd:Option Nat):∀f,o.about P w a.eval=some f->(J0 rd).fn f:=λ_ _=>trivial
theorem StepO.sound{mt:Bool}{ops:Array Oper}{r:Nat}{σ:AState}{o:Oper}{val:AVal}{upd:List (Nat×HCell)}{touch:List Nat}(h:StepO P mt ops r σ o val upd touch)
  {c:Ctx} {a:Act} (hR:Rel c B ι σ a w) (hdst:∀d,o.dst=some d->d<c.n) {K:Act->World->Prop} {Q:Exit->Act->World->Prop}
  (hK:∀B' ι' a' w',Rel c B' ι' (σ.app o.dst val upd) a' w'->K a' w') :
  if Region.wanted o (yielded ops a.tmps) then o.wpIn (J0 c.rd) 0 P a w K Q else (∀f,o.about P w a.eval=some f->(J0 c.rd).fn f)/\K (a.put o.dst undef) w:=by
 have plain:∀{v:AVal} {u:List (Nat×HCell)} {y:Value} {w':World},Runs P a.eval o w y w'->SD B ι σ.H w (GF σ.H u) v y w'->(∀B' ι' a' w',Rel c B' ι' (σ.app o.dst v u) a' w'->K a' w')->o.wpIn (J0 c.rd) 0 P a w K Q:=λhrun hd hK=>by
  obtain⟨B',ι',hR'⟩:=hR.app hd hdst
  refine⟨UL o a _,?_⟩
  rw[Oper.semAt_eq _ _ _ hrun.not_defer]
  rcases hrun with hrun | ⟨hrun,rfl⟩
  ·rw[hrun];exact hK B' ι' _ _ hR'
  ·rw[hrun];exact hK B' ι' _ _ hR'
 have called:∀{f:Operand} {args:Array Operand} {ats:Array TypeId} {g:FuncId} {first caps:List AVal} {ρA:Operand->AVal} {v0 v:AVal} {u:List (Nat×HCell)},o.op=.call ⟨.value f,args,ats⟩ ->
   VRel B ι σ.H.dom (.fn (.func g) first caps) (a.eval f)->(∀x,x∈args->VRel B ι σ.H.dom (ρA x) (a.eval x))->CNK P g (first ++ args.toList.map ρA ++ caps) σ.H v0 u ->
   (∀y w',SD B ι σ.H w (GF σ.H u) v0 y w'->SD B ι σ.H w (GF σ.H u) v y w')->(∀B' ι' a' w',Rel c B' ι' (σ.app o.dst v u) a' w'->K a' w')->o.wpIn (J0 c.rd) 0 P a w K Q:=λ{f args ats g first caps ρA v0 v u} ho hf hargs hc hval hK=>by
  obtain⟨he,hcall⟩:=hc
  obtain⟨xs,ys,hfe,hA⟩:=BXJ hf hargs
  have hrun:(execOp a.eval o).run P w=.ok (.enter g (xs ++ args.map a.eval ++ ys)) w:=by
   simp only[execOp,ho,resolve,hfe,Deferred.ofValue,invoke,Sem.run_bind,Sem.run_pure,Result.andThen_ok]
   exact he _ w
  refine⟨UL o a _,?_⟩
  rw[Oper.semAt_eq _ _ _ (by rw[ho];exact λ_ h=>by cases h),hrun]
  rw[Oper.uponIn_enter]
  have h0:CallsIn (J0 c.rd) (0-1) P g (xs ++ args.map a.eval ++ ys) w λe w'=>∃v,e=.returned v/\SD B ι σ.H w (GF σ.H u) v0 v w':=callsIn_wide.2 (hcall B ι w _ hA hR.mv.heap)
  refine⟨(λh=>by cases h),CallsIn.mono h0 λe w' hh=>?_⟩
  obtain⟨v,rfl,hd⟩:=hh
  obtain⟨B',ι',hR'⟩:=hR.app (hval _ _ hd) hdst
  exact hK B' ι' _ _ hR'
 have skip:∀{v:AVal},(∀B' ι' a' w',Rel c B' ι' (σ.app o.dst (.opt false v) []) a' w'->K a' w')->K (a.put o.dst undef) w:=λhK=>by
  obtain⟨B',ι',h⟩:=hR.app (dst:=o.dst) (v:=.opt false _) (y:=undef) (u:=[]) ⟨B,ι,Moved.refl hR.mv.heap,.opt (λh=>by cases h) (λ_=>rfl)⟩ hdst
  exact hK B' ι' _ _ h
 have toOpt:∀{v:AVal} {u:List (Nat×HCell)} {y:Value} {w':World},SD B ι σ.H w (GF σ.H u) v y w'->SD B ι σ.H w (GF σ.H u) (.opt true v) y w':=λ⟨B',ι',hm,hv⟩=>⟨B',ι',hm,.opt (λ_=>hv) (λh=>by cases h)⟩
 cases h with
 |op hg h hp hr=>
  simp only[Region.wanted,hg,if_true]
  obtain⟨y,w',hrun,hd⟩:=ATP (ρ:=a.eval) h hp (λx=>IC hR.slots x) (λ_=>rfl) hr hR.mv.heap
  exact plain hrun hd hK
 |gop hg hw h hp hr=>
  rename_i j want g v p
  rw[Bw hg hw hR.slots]
  cases g with
  |false=>simpa using⟨UL o a _,skip hK⟩
  |true=>
   simp only[if_true]
   obtain⟨y,w',hrun,hd⟩:=BMC (ρ:=a.eval) h hp (λx=>IC hR.slots x) (λ_=>rfl) hr hR.mv.heap
   exact plain (u:=[]) hrun (toOpt (u:=[]) hd) hK
 |call hg ho hf hc hcells hr=>
  simp only[Region.wanted,hg,if_true]
  rename_i f args ats g first caps cells
  have hfv:=IC hR.slots f
  rw[hf] at hfv
  exact called ho hfv (λx _=>IC hR.slots x) (hc σ.H hcells hr) (λ_ _ h=>h) hK
 |inv hg ho hf hm hc hcells hr=>
  simp only[Region.wanted,hg,if_true]
  rename_i x m args ats t d g cells
  have hfv:=IC hR.slots x
  rw[hf] at hfv
  obtain⟨y,hy,hd⟩:∃y,a.eval x=.iface t y/\DRel B d y:=by
   generalize a.eval x=z at hfv
   cases hfv.d_inv with
   |iface h=>exact⟨_,rfl,h⟩
  obtain⟨he,hcall⟩:=hc σ.H hcells hr
  have hrun:(execOp a.eval o).run P w=.ok (.enter g (#[y] ++ args.map a.eval)) w:=by
   obtain⟨e1,e2⟩:=arr1 (a.eval x) (args.map a.eval)
   simp only[execOp,ho,resolve,invoke,Sem.run_bind,Sem.run_pure,Result.andThen_ok,e1,e2]
   rw[hy]
   simp only[callMethod,Sem.run_bind]
   obtain⟨n,hn⟩:∃n,P.types.size+Made.depth=n+1:=⟨_,(Nat.succ_pred_eq_of_pos (Nat.add_pos_right _ (by decide))).symm⟩
   simp only[run_program,Result.andThen_ok,hn,BKB hm n y w]
   exact he _ w
  have hA:Ps B ι σ.H.dom (.d d :: args.toList.map (BH σ.sl)) (#[y] ++ args.map a.eval):=by
   refine⟨by simp[Nat.add_comm],λj q v hq hv=>?_⟩
   cases j with
   |zero=>
    rw[(arr1 y (args.map a.eval)).1] at hv
    simp only[List.getElem?_cons_zero,Option.some.injEq] at hq hv;subst hq;subst hv;exact .d hd
   |succ j=>
    simp only[List.getElem?_cons_succ,List.getElem?_map,Option.map_eq_some_iff] at hq
    obtain⟨z,hz,rfl⟩:=hq
    rw[Array.getElem?_append_right (by simp)] at hv
    simp only[List.size_toArray,List.length_cons,List.length_nil,Nat.zero_add,Nat.add_sub_cancel,Array.getElem?_map,Option.map_eq_some_iff] at hv
    obtain⟨z',hz',rfl⟩:=hv
    rw[Array.getElem?_toList] at hz
    rw[hz] at hz';cases hz'
    exact IC hR.slots z
  refine⟨UL o a _,?_⟩
  rw[Oper.semAt_eq _ _ _ (by rw[ho];exact λ_ h=>by cases h),hrun]
  rw[Oper.uponIn_enter]
  have h0:CallsIn (J0 c.rd) (0-1) P g (#[y] ++ args.map a.eval) w λe w'=>∃v,e=.returned v/\SD B ι σ.H w (GF σ.H upd) val v w':=callsIn_wide.2 (hcall B ι w _ hA hR.mv.heap)
  refine⟨(λh=>by cases h),CallsIn.mono h0 λe w' hh=>?_⟩
  obtain⟨v,rfl,hd⟩:=hh
  obtain⟨B',ι',hR'⟩:=hR.app hd hdst
  exact hK B' ι' _ _ hR'
 |gcall hg hw ho hf htags hc hcells hr=>
  rename_i j want gd f args ats g first caps cells v
  rw[Bw hg hw hR.slots]
  cases gd with
  |false=>simpa using⟨UL o a _,skip hK⟩
  |true=>
   simp only[if_true]
   have ht:=Mg (htags rfl)
   have hfv:=PZ trivial (ht f (by rw[ho];simp[Op.operands,Call.operands])) (IC hR.slots f)
   rw[hf] at hfv
   exact called (ρA:=λx=>CQ (BH σ.sl x)) ho hfv (λx hx=>PZ trivial (ht x (by rw[ho];simp[Op.operands,Call.operands];exact .inr hx)) (IC hR.slots x)) (hc rfl σ.H hcells hr) (λ_ _ h=>toOpt h) hK
 |gcallT hg hw ho hf htags hc hcells hr=>
  rename_i j want f args ats g first caps cells v
  rw[Bw hg hw hR.slots]
  simp only[if_true]
  have ht:=Mg htags
  have hfv:=PZ trivial (ht f (by rw[ho];simp[Op.operands,Call.operands])) (IC hR.slots f)
  rw[hf] at hfv
  exact called (ρA:=λx=>CQ (BH σ.sl x)) ho hfv (λx hx=>PZ trivial (ht x (by rw[ho];simp[Op.operands,Call.operands];exact .inr hx)) (IC hR.slots x)) (hc σ.H hcells hr) (λ_ _ h=>toOpt h) hK
 |gskip hg hw=>
  rw[Bw hg hw hR.slots]
  simpa using⟨UL o a _,skip hK⟩
def LexE(P:Program)(mt:Bool)(ops:Array Oper)(base n:Nat)(Q:AState->Prop):List Oper->Nat->AState->Prop
 |[],_,σ=>Q σ
 |o :: l,k,σ=>∃val upd touch,StepO P mt ops (base+16*k) σ o val upd touch/\(∀d,o.dst=some d->d<n)/\LexE P mt ops base n Q l (k+1) (σ.app o.dst val upd)
def CodeE(P:Program)(c:Ctx)(code:Code)(Q:Exit->AState->Prop)(σ:AState):Prop:=
 ∀B ι a w,Rel c B ι σ a w->code.wpIn (J0 c.rd) 0 P (λe a' w'=>∃B' ι' σ',Q e σ'/\Rel c B' ι' σ' a' w') a w
theorem CodeE.mono{c:Ctx}{code:Code}{Q Q':Exit->AState->Prop}{σ:AState}(h:CodeE P c code Q σ)(hq:∀e σ,Q e σ->Q' e σ):CodeE P c code Q' σ:=
 λB ι a w hR=>wpIn_mono (h B ι a w hR) λ_ _ _ ⟨B',ι',σ',hQ,hR'⟩=>⟨B',ι',σ',hq _ _ hQ,hR'⟩
theorem CGX{mt:Bool}{ops:Array Oper}{base:Nat}{c:Ctx}{Q:Exit->AState->Prop}:∀(l:List Oper) (k:Nat) (σ:AState),LexE P mt ops base c.n (Q .normal) l k σ->∀B ι a w,Rel c B ι σ a w ->
  wpListIn (J0 c.rd) 0 P ops (λe a' w'=>∃B' ι' σ',Q e σ'/\Rel c B' ι' σ' a' w') l a w
 |[],_,σ,h,B,ι,_,_,hR=>⟨B,ι,σ,h,hR⟩
 |o :: l,k,σ,h,B,ι,a,w,hR=>by
  obtain⟨val,upd,touch,hs,hd,hl⟩:=h
  exact hs.sound hR hd (λB' ι' a' w' hR'=>CGX l (k+1) _ hl B' ι' a' w' hR')
theorem BLF{mt:Bool}{id:Nat}{ops:Array Oper}{base:Nat}{c:Ctx}{Q:Exit->AState->Prop}{σ:AState}(h:LexE P mt ops base c.n (Q .normal) ops.toList 0 σ):CodeE P c (.region id ops false) Q σ:=
 λB ι a w hR=>wpIn_region_list (CGX ops.toList 0 σ h B ι a w hR)
end Go.Sym
namespace Go.Sym
variable {P : Program} {B B' : Fi} {ι ι' : Nat -> Pl} {H H' : Heap} {D : Nat -> Prop} {w w' : World}
theorem BGW{ops:Array Oper}{sl sl':Nat->AVal}{o:Oper}(h:∀t∈o.looksAt ops,sl' t=sl t)(x:Operand)(hx:x∈o.op.operands):BH sl' x=BH sl x:=by
 cases x with
 |tmp t=>exact h t (List.mem_append_left _ (List.mem_filterMap.2 ⟨.tmp t,by simpa using hx,rfl⟩))
 |_=>rfl
theorem Vm{ops:Array Oper}{sl sl':Nat->AVal}{o:Oper}{j:Nat}{want:Bool}(hg:o.guard=some (j,want))(h:∀t∈o.looksAt ops,sl' t=sl t):GC ops sl' j want=GC ops sl j want:=by
 unfold GC
 cases ht:(ops[j]?).bind (·.dst) with
 |none=>rfl
 |some t=>simp only;rw[h t (by simp[Oper.looksAt,hg,ht])]
theorem kG{ρ ρ':Operand->AVal}{l:List Operand}(h:∀x∈l,ρ x=ρ' x):ZX ρ l=ZX ρ' l:=by
 unfold ZX
 induction l with
 |nil=>rfl
 |cons x l ih=>rw[List.flatMap_cons,List.flatMap_cons,h x (by simp),ih λy hy=>h y (by simp[hy])]
theorem BLD{r:Nat}{ρ ρ':Operand->AVal}{H H':Heap}{g:Bool}(op:Op)(h:∀x∈op.operands,ρ x=ρ' x)(hH:∀id∈aM (λx=>CQ (ρ x)) op,H id=H' id):gopA P r ρ H g op=gopA P r ρ' H' g op:=by
 have hs:∀x∈op.operands,(λx=>CQ (ρ x)) x=(λx=>CQ (ρ' x)) x:=λx hx=>by simp only[h x hx]
 have ho:=AFV (P:=P) (mt:=false) (r:=r) op hs hH
 have ht:ZX ρ op.operands.toList=ZX ρ' op.operands.toList:=kG λx hx=>h x (by simpa using hx)
 unfold gopA
 split
 ·rename_i c a b
  rw[h c (by simp[Op.operands]),h a (by simp[Op.operands]),h b (by simp[Op.operands])]
 ·rename_i t len ps
  have:(ps.toList.map λp=>(p.1,CQ (ρ p.2)))=(ps.toList.map λp=>(p.1,CQ (ρ' p.2))):=List.map_congr_left λp hm=>by
   rw[h p.2 (by simp[Op.operands];exact⟨p.1,by simpa using hm⟩)]
  rw[this,ht]
 ·rename_i t l c
  rw[h l (by simp[Op.operands]),h c (by simp[Op.operands])]
 ·rw[ho,ht]
theorem StepO.local'{mt:Bool}{ops:Array Oper}{r:Nat}{σ σ':AState}{o:Oper}{val:AVal}{upd:List (Nat×HCell)}{touch:List Nat}(h:StepO P mt ops r σ o val upd touch)
  (hs:∀t∈o.looksAt ops,σ'.sl t=σ.sl t) (hH:∀id∈touch,σ'.H id=σ.H id):StepO P mt ops r σ' o val upd touch:=by
 have hev:∀x∈o.op.operands,BH σ.sl x=BH σ'.sl x:=λx hx=>(BGW hs x hx).symm
 cases h with
 |op hg h hp hr=>
  rw[ABP o.op hev]
  refine .op hg ?_ hp (by rw[hH r (by simp)];exact hr)
  rw[<-h]
  exact (AFV o.op hev λid hid=>(hH id (by simp[hid])).symm).symm
 |gop hg hw h hp hr=>
  have hev':∀x∈o.op.operands,(λx=>CQ (BH σ.sl x)) x=(λx=>CQ (BH σ'.sl x)) x:=λx hx=>by simp only[hev x hx]
  rw[ABP o.op hev']
  refine .gop hg (by rw[Vm hg hs];exact hw) ?_ hp (by rw[hH r (by simp)];exact hr)
  rw[<-h]
  exact (BLD o.op hev λid hid=>(hH id (by simp[hid])).symm).symm
 |call hg ho hf hc hcells hr=>
  rename_i f args ats g first caps cells
  have hargs:args.toList.map (BH σ'.sl)=args.toList.map (BH σ.sl):=List.map_congr_left λx hx=>(hev x (by rw[ho];simp[Op.operands,Call.operands];right;simpa using hx)).symm
  refine .call hg ho (by rw[<-hev f (by rw[ho];simp[Op.operands,Call.operands])];exact hf) (by rw[hargs];exact hc)
   (λp hp=>by rw[hH p.1 (by simp;exact .inl ⟨p.2,hp⟩)];exact hcells p hp) (λi h1 h2=>by rw[hH i (by simp;right;exact⟨i-r,by omega,by omega⟩)];exact hr i h1 h2)
 |inv hg ho hf hm hc hcells hr=>
  rename_i x m args ats t d g cells
  have hargs:args.toList.map (BH σ'.sl)=args.toList.map (BH σ.sl):=List.map_congr_left λx hx=>(hev x (by rw[ho];simp[Op.operands,Call.operands];right;simpa using hx)).symm
  refine .inv hg ho (by rw[<-hev x (by rw[ho];simp[Op.operands,Call.operands])];exact hf) hm (by rw[hargs];exact hc)
   (λp hp=>by rw[hH p.1 (by simp;exact .inl ⟨p.2,hp⟩)];exact hcells p hp) (λi h1 h2=>by rw[hH i (by simp;right;exact⟨i-r,by omega,by omega⟩)];exact hr i h1 h2)
 |gcall hg hw ho hf ht hc hcells hr=>
  rename_i j want gd f args ats g first caps cells v
  have hargs:args.toList.map (λx=>CQ (BH σ'.sl x))=args.toList.map (λx=>CQ (BH σ.sl x)):=List.map_congr_left λx hx=>by simp only[hev x (by rw[ho];simp[Op.operands,Call.operands];right;simpa using hx)]
  refine .gcall hg (by rw[Vm hg hs];exact hw) ho (by rw[<-hev f (by rw[ho];simp[Op.operands,Call.operands])];exact hf)
   (λh=>by rw[<-kG (ρ:=BH σ.sl) λx hx=>hev x (by simpa using hx)];exact ht h) (λh=>by rw[hargs];exact hc h)
   (λp hp=>by rw[hH p.1 (by simp;exact .inl ⟨p.2,hp⟩)];exact hcells p hp) (λi h1 h2=>by rw[hH i (by simp;right;exact⟨i-r,by omega,by omega⟩)];exact hr i h1 h2)
 |gcallT hg hw ho hf ht hc hcells hr=>
  rename_i j want f args ats g first caps cells v
  have hargs:args.toList.map (λx=>CQ (BH σ'.sl x))=args.toList.map (λx=>CQ (BH σ.sl x)):=List.map_congr_left λx hx=>by simp only[hev x (by rw[ho];simp[Op.operands,Call.operands];right;simpa using hx)]
  refine .gcallT hg (by rw[Vm hg hs];exact hw) ho (by rw[<-hev f (by rw[ho];simp[Op.operands,Call.operands])];exact hf)
   (by rw[<-kG (ρ:=BH σ.sl) λx hx=>hev x (by simpa using hx)];exact ht) (by rw[hargs];exact hc)
   (λp hp=>by rw[hH p.1 (by simp;exact .inl ⟨p.2,hp⟩)];exact hcells p hp) (λi h1 h2=>by rw[hH i (by simp;right;exact⟨i-r,by omega,by omega⟩)];exact hr i h1 h2)
 |gskip hg hw=>exact .gskip hg (by rw[Vm hg hs];exact hw)
end Go.Sym
namespace Go.Sym
variable {P : Program} {B B' : Fi} {ι ι' : Nat -> Pl} {H H' : Heap} {D : Nat -> Prop} {w w' : World}
abbrev J3:=Nat->List Nat×List Nat
section
variable {mt : Bool} {ops : Array Oper} {base n : Nat} {T : J3} {md : Region.Mode}
def StepT(P:Program)(mt:Bool)(ops:Array Oper)(base n:Nat)(T:J3)(i:Nat)(K:AState->Prop)(σ:AState):Prop:=
 ∃o val upd touch,ops[i]?=some o/\StepO P mt ops (base+16*i) σ o val upd touch/\(∀d,o.dst=some d->d<n)/\touch=(T i).1/\upd.map (·.1)=(T i).2/\K (σ.app o.dst val upd)
theorem StepT.mono{i:Nat}{K K':AState->Prop}{σ:AState}(hK:∀σ,K σ->K' σ)(h:StepT P mt ops base n T i K σ):StepT P mt ops base n T i K' σ:=by
 obtain⟨o,val,upd,touch,h1,h2,h3,h4,h5,h6⟩:=h
 exact⟨o,val,upd,touch,h1,h2,h3,h4,h5,hK _ h6⟩
def AnyE(P:Program)(mt:Bool)(md:Region.Mode)(ops:Array Oper)(base n:Nat)(T:J3)(Q:AState->Prop):Nat->Array Bool->AState->Prop
 |0,listed,σ=>Region.ready md ops listed=[]/\Q σ
 |fuel+1,listed,σ=>(Region.ready md ops listed=[]->Q σ)/\∀i∈Region.ready md ops listed,StepT P mt ops base n T i (AnyE P mt md ops base n T Q fuel (listed.setIfInBounds i true)) σ
theorem CFN{c:Ctx}{Q:Exit->AState->Prop}:∀(fuel:Nat) (listed:Array Bool) (σ:AState),AnyE P mt md ops base c.n T (Q .normal) fuel listed σ->∀B ι a w,Rel c B ι σ a w ->
  wpAnyIn (J0 c.rd) 0 P md ops (λe a' w'=>∃B' ι' σ',Q e σ'/\Rel c B' ι' σ' a' w') fuel listed a w
 |0,_,σ,h,B,ι,_,_,hR=>⟨h.1,B,ι,σ,h.2,hR⟩
 |fuel+1,listed,σ,h,B,ι,a,w,hR=>by
  refine⟨λh0=>⟨B,ι,σ,h.1 h0,hR⟩,λi hi=>?_⟩
  obtain⟨o,val,upd,touch,h1,h2,h3,_,_,h6⟩:=h.2 i hi
  unfold wpOpIn
  rw[h1]
  exact h2.sound hR h3 λB' ι' a' w' hR'=>CFN fuel _ _ h6 B' ι' a' w' hR'
def disj(a b:List Nat):Bool:=a.all λx=>!b.contains x
theorem AEY{a b:List Nat}(h:disj a b=true):∀x,x∈a->x∉b:=by
 intro x hx hb
 simp only[disj,List.all_eq_true,Bool.not_eq_true'] at h
 have:=h x hx
 simp[hb] at this
def AHY(T:J3)(i j:Nat):Bool:=disj (T i).2 (T j).1&&disj (T j).2 (T i).1&&disj (T i).2 (T j).2
theorem Ga:∀(u:List (Nat×HCell)) (H:Heap) (x:Nat),x∉u.map (·.1)->GF H u x=H x
 |[],_,_,_=>rfl
 |(i,c) :: u,H,x,h=>by
  simp only[List.map_cons,List.mem_cons,not_or] at h
  simp only[GF]
  rw[Ga u _ x h.2,JX _ _ h.1]
theorem BUO(H:Heap){i j:Nat}(a b:HCell)(h:i≠j):FL (FL H i a) j b=FL (FL H j b) i a:=by
 funext x;unfold FL;split<;>split<;>first | rfl | (exfalso;omega)
theorem BGP:∀(u:List (Nat×HCell)) (H:Heap) (i:Nat) (c:HCell),i∉u.map (·.1)->GF (FL H i c) u=FL (GF H u) i c
 |[],_,_,_,_=>rfl
 |(j,d) :: u,H,i,c,h=>by
  simp only[List.map_cons,List.mem_cons,not_or] at h
  simp only[GF]
  rw[BUO _ _ _ h.1,BGP u _ i c h.2]
theorem ASI:∀(u v:List (Nat×HCell)) (H:Heap),(∀x,x∈u.map (·.1)->x∉v.map (·.1))->GF (GF H u) v=GF (GF H v) u
 |[],_,_,_=>rfl
 |(i,c) :: u,v,H,h=>by
  simp only[GF]
  rw[ASI u v _ λx hx=>h x (by simp at hx ⊢;exact .inr hx),BGP v H i c (h i (by simp))]
theorem CEF{σ:AState}{d1 d2:Option Tmp}{v1 v2:AVal}{u1 u2:List (Nat×HCell)}(hd:∀d,d1=some d->d2≠some d)(hu:∀x,x∈u1.map (·.1)->x∉u2.map (·.1)) :
  (σ.app d1 v1 u1).app d2 v2 u2=(σ.app d2 v2 u2).app d1 v1 u1:=by
 simp only[AState.app,AState.mk.injEq]
 refine⟨?_,ASI u1 u2 σ.H hu⟩
 cases d1 with
 |none=>rfl
 |some a=>cases d2 with
  |none=>rfl
  |some b=>
   have:a≠b:=λe=>hd a rfl (e ▸ rfl)
   funext t
   simp only[dZ]
   by_cases h1:t=a
   ·have h2:t≠b:=λe=>this (h1.symm.trans e)
    rw[if_neg h2,if_pos h1,if_pos h1]
   ·rw[if_neg h1,if_neg h1]
theorem StepT.swap{i j:Nat}{oi oj:Oper}(hoj:ops[j]?=some oj)(hap:oi.apart ops oj=true)(hin:AHY T i j=true){σ:AState}{vi:AVal}{ui:List (Nat×HCell)}{ti:List Nat}
  (hi:StepO P mt ops (base+16*i) σ oi vi ui ti) (hti:ti=(T i).1) (hui:ui.map (·.1)=(T i).2) {K:AState->Prop} (h:StepT P mt ops base n T j K (σ.app oi.dst vi ui)) :
  StepT P mt ops base n T j (λσ'=>StepO P mt ops (base+16*i) σ' oi vi ui ti/\K (σ'.app oi.dst vi ui)) σ:=by
 obtain⟨o,val,upd,touch,h1,h2,h3,h4,h5,h6⟩:=h
 rw[hoj] at h1;cases h1
 obtain⟨a1,a2,a3⟩:=Oper.apart_spec hap
 simp only[AHY,Bool.and_eq_true] at hin
 obtain⟨⟨d1,d2⟩,d3⟩:=hin
 have d1:=AEY d1;have d2:=AEY d2;have d3:=AEY d3
 have put_ne:∀(sl:Nat->AVal) (dst:Option Tmp) (v:AVal) (t:Tmp),(∀d,dst=some d->t≠d)->dZ sl dst v t=sl t:=λsl dst v t h=>by
  cases dst with
  |none=>rfl
  |some d=>simp[dZ,h d rfl]
 refine⟨oj,val,upd,touch,hoj,h2.local' (λt ht=>?_) (λid hid=>?_),h3,h4,h5,?_,?_⟩
 ·exact (put_ne _ _ _ _ λd hd e=>a1 d hd (e ▸ ht)).symm
 ·exact (Ga _ _ _ λhm=>d1 id (hui ▸ hm) (h4 ▸ hid)).symm
 ·refine hi.local' (λt ht=>?_) (λid hid=>?_)
  ·exact put_ne _ _ _ _ λd hd e=>a3 d hd (e ▸ ht)
  ·exact Ga _ _ _ λhm=>d2 id (h5 ▸ hm) (hti ▸ hid)
 ·rw[<-CEF a2 (λx hx=>by rw[hui] at hx;rw[h5];exact d3 x hx)]
  exact h6
theorem ASU{Q:AState->Prop}{i:Nat}{oi:Oper}(hoi:ops[i]?=some oi){vi:AVal}{ui:List (Nat×HCell)}{ti:List Nat}(hti:ti=(T i).1)(hui:ui.map (·.1)=(T i).2)(hdi:∀d,oi.dst=some d->d<n){dep:Nat->Bool}
  (hdep:∀j oj,ops[j]?=some oj->dep j=true->∃e,e∈oj.after/\Region.binds md e=true/\(e.on=i∨dep e.on=true)) :
  ∀(fuel:Nat) (listed:Array Bool) (σ:AState),
   (∀j oj,ops[j]?=some oj->j≠i->listed.getD j true=false->(∀e∈oj.after,Region.binds md e=true->e.on≠i)->dep j=false->oi.apart ops oj=true/\AHY T i j=true) ->
   (∀j,dep j=true->listed.getD j true=false) ->
   i∈Region.ready md ops listed->StepO P mt ops (base+16*i) σ oi vi ui ti ->
   AnyE P mt md ops base n T Q fuel (listed.setIfInBounds i true) (σ.app oi.dst vi ui)->AnyE P mt md ops base n T Q (fuel+1) listed σ:=by
 intro fuel
 induction fuel with
 |zero=>
  intro listed σ _ _ hr hy h
  refine⟨λh0=>(by rw[h0] at hr;cases hr),λj hj=>?_⟩
  by_cases hji:j=i
  ·subst hji;exact⟨oi,vi,ui,ti,hoi,hy,hdi,hti,hui,h⟩
  ·have:=ready_mono hj hji
   rw[h.1] at this
   cases this
 |succ fuel ih=>
  intro listed σ hfree hun0 hr hy h
  refine⟨λh0=>(by rw[h0] at hr;cases hr),λj hj=>?_⟩
  by_cases hji:j=i
  ·subst hji;exact⟨oi,vi,ui,ti,hoi,hy,hdi,hti,hui,h⟩
  ·have h1:=h.2 j (ready_mono hj hji)
   obtain⟨hjun,oj,hoj,hall⟩:=mem_ready.1 hj
   have hnot:∀e∈oj.after,Region.binds md e=true->e.on≠i:=λe he hb heq=>by
    have h1:=hall e he hb
    have h0:=(mem_ready.1 hr).1
    rw[heq] at h1
    rcases Nat.lt_or_ge i listed.size with h' | h'
    ·simp[h'] at h0 h1;rw[h0] at h1;cases h1
    ·simp[Array.getElem?_eq_none h'] at h1
   have hlist:∀k,listed.getD k true=false->listed.getD k false=true->False:=λk hk h1=>by
    rcases Nat.lt_or_ge k listed.size with h' | h'
    ·simp[h'] at hk h1;rw[hk] at h1;cases h1
    ·simp[Array.getElem?_eq_none h'] at h1
   have hdj:dep j=false:=by
    cases hd:dep j with
    |false=>rfl
    |true=>
     obtain⟨e,he,hb,h1⟩:=hdep j oj hoj hd
     rcases h1 with h1 | h1
     ·exact absurd h1 (hnot e he hb)
     ·exact (hlist _ (hun0 _ h1) (hall e he hb)).elim
   obtain⟨f1,f2⟩:=hfree j oj hoj hji hjun hnot hdj
   have h2:=StepT.swap hoj f1 f2 hy hti hui h1
   have hfree':∀k ok,ops[k]?=some ok->k≠i->(listed.setIfInBounds j true).getD k true=false->(∀e∈ok.after,Region.binds md e=true->e.on≠i)->dep k=false->oi.apart ops ok=true/\AHY T i k=true:=λk ok hk hki hun hno hdk=>by
    refine hfree k ok hk hki ?_ hno hdk
    by_cases hjk:j=k
    ·subst hjk;exact hjun
    ·rw[getD_set_ne true hjk] at hun;exact hun
   have hun':∀k,dep k=true->(listed.setIfInBounds j true).getD k true=false:=λk hk=>by
    have hjk:j≠k:=λhe=>by rw[he,hk] at hdj;cases hdj
    rw[getD_set_ne true hjk];exact hun0 k hk
   refine StepT.mono (λσ' h3=>ih (listed.setIfInBounds j true) σ' hfree' hun' (ready_mono hr (Ne.symm hji)) h3.1 ?_) h2
   rw[Array.setIfInBounds_comm _ _ hji]
   exact h3.2
def CCG(md:Region.Mode)(ops:Array Oper)(T:J3)(listed:Array Bool)(i:Nat):Bool:=
 match ops[i]? with
 |none=>false
 |some oi=>(List.range ops.size).all λj=>j==i||listed.getD j true||match ops[j]? with
   |some oj=>oj.after.any (λe=>Region.binds md e&&e.on==i)||(oi.apart ops oj&&AHY T i j)
   |none=>true
theorem BNF{i:Nat}{oi:Oper}{listed:Array Bool}(hi:ops[i]?=some oi)(h:CCG md ops T listed i=true)(j:Nat)(oj:Oper)
  (hj:ops[j]?=some oj) (hne:j≠i) (hun:listed.getD j true=false) (hno:∀e∈oj.after,Region.binds md e=true->e.on≠i):oi.apart ops oj=true/\AHY T i j=true:=by
 simp only[CCG,hi,List.all_eq_true,List.mem_range] at h
 have h1:=h j (Array.getElem?_eq_some_iff.1 hj).1
 simp only[hj,Bool.or_eq_true,beq_iff_eq,hne,false_or,hun,Bool.false_eq_true,Bool.and_eq_true] at h1
 rcases h1 with h1 | h1
 ·obtain⟨e,he,hb⟩:=Array.any_eq_true'.1 h1
  simp only[Bool.and_eq_true,beq_iff_eq] at hb
  exact absurd hb.2 (hno e he hb.1)
 ·exact h1
def behind(md:Region.Mode)(ops:Array Oper)(i:Nat):Nat->Nat->Bool
 |0,_=>false
 |k+1,j=>match ops[j]? with
  |some oj=>oj.after.any λe=>Region.binds md e&&(e.on==i||behind md ops i k e.on)
  |none=>false
def freeD(md:Region.Mode)(ops:Array Oper)(T:J3)(listed:Array Bool)(i:Nat):Bool:=
 match ops[i]? with
 |none=>false
 |some oi=>!listed.getD i true&&((List.range ops.size).all λj=>!listed.getD j true||match ops[j]? with
   |some oj=>oj.after.all λe=>!Region.binds md e||listed.getD e.on true
   |none=>true)&&(List.range ops.size).all λj=>j==i||listed.getD j true||match ops[j]? with
   |some oj=>(oi.apart ops oj&&AHY T i j)||behind md ops i 6 j
   |none=>true
theorem BMN{i:Nat}{oi:Oper}{listed:Array Bool}(hi:ops[i]?=some oi)(h:freeD md ops T listed i=true):∃dep:Nat->Bool,
  (∀j oj,ops[j]?=some oj->j≠i->listed.getD j true=false->(∀e∈oj.after,Region.binds md e=true->e.on≠i)->dep j=false->oi.apart ops oj=true/\AHY T i j=true) /\
  (∀j,dep j=true->listed.getD j true=false) /\
  ∀j oj,ops[j]?=some oj->dep j=true->∃e,e∈oj.after/\Region.binds md e=true/\(e.on=i∨dep e.on=true):=by
 classical
 simp only[freeD,hi,Bool.and_eq_true,List.all_eq_true,List.mem_range,Bool.not_eq_true'] at h
 obtain⟨⟨h0,h1⟩,h2⟩:=h
 have step:∀k j oj,ops[j]?=some oj->behind md ops i (k+1) j=true->∃e,e∈oj.after/\Region.binds md e=true/\(e.on=i∨behind md ops i k e.on=true):=λk j oj hj hb=>by
  simp only[behind,hj] at hb
  obtain⟨e,he,hb⟩:=Array.any_eq_true'.1 hb
  simp only[Bool.and_eq_true,Bool.or_eq_true,beq_iff_eq] at hb
  exact⟨e,he,hb.1,hb.2⟩
 have un:∀k j,behind md ops i k j=true->listed.getD j true=false:=by
  intro k
  induction k with
  |zero=>intro j hb;cases hb
  |succ k ih=>
   intro j hb
   cases hj:ops[j]? with
   |none=>simp only[behind,hj] at hb;cases hb
   |some oj=>
    obtain⟨e,he,hbi,hor⟩:=step k j oj hj hb
    cases hl:listed.getD j true with
    |false=>rfl
    |true=>
     have h3:=h1 j (Array.getElem?_eq_some_iff.1 hj).1
     rw[hl,hj] at h3
     simp only[Bool.not_true,Bool.false_or] at h3
     have h4:=Array.all_eq_true'.1 h3 e he
     rw[hbi] at h4
     simp only[Bool.not_true,Bool.false_or] at h4
     rcases hor with hor | hor
     ·rw[hor,h0] at h4;cases h4
     ·rw[ih _ hor] at h4;cases h4
 refine⟨λj=>decide (∃k,behind md ops i k j=true),λj oj hj hne hun _ hd=>?_,λj hd=>?_,λj oj hj hd=>?_⟩
 ·have h3:=h2 j (Array.getElem?_eq_some_iff.1 hj).1
  rw[hun,hj] at h3
  simp only[Bool.or_eq_true,beq_iff_eq,hne,false_or,Bool.false_eq_true,Bool.and_eq_true] at h3
  rcases h3 with h3 | h3
  ·exact h3
  ·exact absurd ⟨6,h3⟩ (of_decide_eq_false hd)
 ·obtain⟨k,hk⟩:=of_decide_eq_true hd
  exact un k j hk
 ·obtain⟨k,hk⟩:=of_decide_eq_true hd
  cases k with
  |zero=>cases hk
  |succ k=>
   obtain⟨e,he,hb,hor⟩:=step k j oj hj hk
   exact⟨e,he,hb,hor.imp id λh=>decide_eq_true ⟨k,h⟩⟩
def lexFromT(md:Region.Mode)(ops:Array Oper)(T:J3):Nat->Nat->Array Bool->Bool
 |0,_,listed=>(Region.ready md ops listed).isEmpty
 |fuel+1,k,listed=>(Region.ready md ops listed).contains k&&(CCG md ops T listed k||freeD md ops T listed k)&&lexFromT md ops T fuel (k+1) (listed.setIfInBounds k true)
def LexT(P:Program)(mt:Bool)(ops:Array Oper)(base n:Nat)(T:J3)(Q:AState->Prop):List Oper->Nat->AState->Prop
 |[],_,σ=>Q σ
 |o :: l,k,σ=>∃val upd touch,StepO P mt ops (base+16*k) σ o val upd touch/\(∀d,o.dst=some d->d<n)/\touch=(T k).1/\upd.map (·.1)=(T k).2/\LexT P mt ops base n T Q l (k+1) (σ.app o.dst val upd)
theorem BRQ{Q:AState->Prop}:∀(l:List Oper) (k:Nat) (listed:Array Bool) (σ:AState),(∀j,l[j]?=ops[k+j]?)->lexFromT md ops T l.length k listed=true->LexT P mt ops base n T Q l k σ ->
  AnyE P mt md ops base n T Q l.length listed σ
 |[],_,_,_,_,hB,h=>⟨by simpa[lexFromT] using hB,h⟩
 |o :: l,k,listed,σ,hl,hB,h=>by
  have h0:ops[k]?=some o:=by simpa using (hl 0).symm
  simp only[List.length_cons,lexFromT,Bool.and_eq_true] at hB
  obtain⟨⟨hr,hf⟩,hB'⟩:=hB
  obtain⟨val,upd,touch,h1,h2,h3,h4,h5⟩:=h
  rw[Bool.or_eq_true] at hf
  have hrest:=(BRQ l (k+1) _ _ (λj=>by have:=hl (j+1);simpa[Nat.add_assoc,Nat.add_comm 1 j] using this) hB' h5)
  rcases hf with hf | hf
  ·exact ASU h0 h3 h4 h2 (dep:=λ_=>false) (λ_ _ _ h=>by cases h) l.length listed σ (λj oj hj hne hun hno _=>BNF h0 hf j oj hj hne hun hno) (λ_ h=>by cases h) (by simpa using hr) h1 hrest
  ·obtain⟨dep,f1,f2,f3⟩:=BMN h0 hf
   exact ASU h0 h3 h4 h2 (dep:=dep) f3 l.length listed σ f1 f2 (by simpa using hr) h1 hrest
theorem uY{id:Nat}{c:Ctx}{Q:Exit->AState->Prop}{σ:AState}(hm:P.follows .mixedOrders=true)(hB:lexFromT .any ops T ops.size 0 (Array.replicate ops.size false)=true)
  (h:LexT P mt ops base c.n T (Q .normal) ops.toList 0 σ):CodeE P c (.region id ops true) Q σ:=by
 intro B ι a w hR
 refine wpIn_region_any hm ?_
 have hl:=BRQ (md:=.any) ops.toList 0 (Array.replicate ops.size false) σ (by simp) (by simpa using hB) h
 have hR':Rel c B ι σ a { w with drawn:=w.drawn+1 }:=⟨hR.slots,hR.size,let ⟨Ds,h1,h0,h2,h3⟩:=hR.defers;⟨Ds,h1,h0,h2,λD hD=>⟨(h3 D hD).1,(h3 D hD).2.moved (Moved.drew hR.mv.heap _)⟩⟩,hR.mv.trans (Moved.drew hR.mv.heap _)⟩
 have:=CFN (Q:=Q) ops.toList.length _ σ hl B ι a _ hR'
 simpa using this
end
end Go.Sym
