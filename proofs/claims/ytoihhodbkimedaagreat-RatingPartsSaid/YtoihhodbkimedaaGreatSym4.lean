/- Maps from integers. -/
import Derived.Test.YtoihhodbkimedaaGreatSym3
import Derived.RangeFuncRecord
import Derived.WalkSpells
set_option linter.unusedVariables false
set_option linter.unusedSimpArgs false
namespace Go.Sym
variable {P : Program} {B B' : Jk} {ι ι' : Nat -> Pl} {H H' : Heap} {D : Nat -> Prop} {w w' : World}
def ANT(P:Program)(t:TypeId):Option (IntKind×Value):=match P.underlying t with
 |some (.map k e)=>match P.underlying k,(P.info? e).bind (·.zero) with
  |some (.int q),some z=>some (q,z)
  |_,_=>none
 |_=>none
theorem kP{t:TypeId}{q:IntKind}{z:Value}(h:ANT P t=some (q,z)):∃k e,P.underlying t=some (.map k e)/\P.underlying k=some (.int q)/\∀w:World,(zeroValue e).run P w=.ok z w:=by
 unfold ANT at h
 split at h
 ·rename_i k e hu
  split at h
  ·rename_i q' z' hk hz
   cases h
   refine⟨k,e,hu,hk,λw=>?_⟩
   cases hi:P.info? e with
   |none=>simp[hi] at hz
   |some i=>
    simp only[hi,Option.bind_some] at hz
    simp[zeroValue,Th hi,hz]
  ·cases h
 ·cases h
theorem VB{k:TypeId}{q:IntKind}(hk:P.underlying k=some (.int q))(b:Bool)(v:Value)(w:World):∀n:Nat,0<n->(Instr.checkKey b n k v).run P w=.ok () w
 |0,h=>by omega
 |n+1,_=>by
  unfold Instr.checkKey
  simp only[Sem.run_bind,run_underlying hk,Result.andThen_ok]
  cases v<;>rfl
def AJX(n:Int):List MapEntry->Nat->Option (Nat×Value)
 |[],_=>none
 |e :: es,i=>match e.key with
  | .int _ m=>if n=m then some (i,e.val) else AJX n es (i+1)
  |_=>none
theorem AJV{q q':IntKind}{n:Int}:∀(es:List MapEntry) (i:Nat),(∀e∈es,∃m,e.key=.int q m)->Instr.findNow (.int q') (.int q n) es i=some (AJX n es i)
 |[],_,_=>rfl
 |e :: es,i,h=>by
  obtain⟨m,hm⟩:=h e (by simp)
  unfold Instr.findNow AJX
  rw[hm]
  simp only[Instr.sameNow,if_true]
  by_cases hnm:n=m
  ·subst hnm;simp
  ·have:(n==m)=false:=by simpa using hnm
   simp only[this,if_neg hnm]
   exact AJV es (i+1) λe he=>h e (by simp[he])
theorem APA{n:Int}{q:IntKind}:∀(es:List MapEntry) (i:Nat),(∀e∈es,∃m,e.key=.int q m)->(∀e∈es,e.key≠.int q n)->AJX n es i=none
 |[],_,_,_=>rfl
 |e :: es,i,h,hn=>by
  obtain⟨m,hm⟩:=h e (by simp)
  have h1:n≠m:=λhe=>hn e (by simp) (by rw[hm,he])
  unfold AJX
  rw[hm]
  simp only[if_neg h1]
  exact APA es (i+1) (λe he=>h e (by simp[he])) λe he=>hn e (by simp[he])
theorem ANF{n:Int}{q:IntKind}:∀(es:List MapEntry) (i:Nat),(∀e∈es,∃m,e.key=.int q m)->∀(j:Nat) (e:MapEntry),es[j]?=some e->e.key=.int q n->∃j' e',AJX n es i=some (i+j',e'.val)/\es[j']?=some e'/\e'.key=.int q n
 |[],_,_,j,e,hj,_=>by simp at hj
 |a :: es,i,h,j,e,hj,hk=>by
  obtain⟨m,hm⟩:=h a (by simp)
  unfold AJX
  rw[hm]
  by_cases h1:n=m
  ·subst h1
   exact⟨0,a,by simp,rfl,hm⟩
  ·simp only[if_neg h1]
   cases j with
   |zero=>simp at hj;subst hj;rw[hm] at hk;cases hk;exact (h1 rfl).elim
   |succ j=>
    obtain⟨j',e',h2,h3,h4⟩:=ANF es (i+1) (λe he=>h e (by simp[he])) j e (by simpa using hj) hk
    exact⟨j'+1,e',by rw[h2];simp[Nat.add_assoc,Nat.add_comm 1],by simpa using h3,h4⟩
theorem MapIs.intKeys{q:IntKind}{z:Value}{has:Int->Bool}{get:Int->DVal}{st:Int->Int}{es:Array MapEntry}{clock:Nat}(h:MapIs B q z has get st es clock):∀e∈es.toList,∃m,e.key=.int q m:=λe he=>by
 obtain⟨i,hi⟩:=List.mem_iff_getElem?.1 he
 rw[Array.getElem?_toList] at hi
 obtain⟨n,hn,_⟩:=h.keys i e hi
 exact⟨n,hn⟩
theorem MapIs.find{q q':IntKind}{z:Value}{has:Int->Bool}{get:Int->DVal}{st:Int->Int}{es:Array MapEntry}{clock:Nat}(h:MapIs B q z has get st es clock){k:TypeId}(hk:P.underlying k=some (.int q'))(n:Int)(w:World) :
  (has n=false/\(Instr.findKey k (.int q n) es.toList).run P w=.ok none w) ∨
  (has n=true/\∃i e,es[i]?=some e/\e.key=.int q n/\(e.born:Int)=st n/\DRel B (get n) e.val/\(Instr.findKey k (.int q n) es.toList).run P w=.ok (some (i,e.val)) w):=by
 have hrun:∀r,AJX n es.toList 0=r->(Instr.findKey k (.int q n) es.toList).run P w=.ok r w:=λr hr=>by
  unfold Instr.findKey
  simp only[Sem.run_bind,run_underlying hk,Result.andThen_ok,AJV es.toList 0 h.intKeys,hr,Sem.run_pure]
 cases hn:has n with
 |false=>
  refine .inl ⟨rfl,hrun _ (APA (q:=q) _ _ h.intKeys λe he hke=>?_)⟩
  obtain⟨i,hi⟩:=List.mem_iff_getElem?.1 he
  rw[Array.getElem?_toList] at hi
  obtain⟨m,h1,h2,_⟩:=h.keys i e hi
  rw[h1] at hke
  cases hke
  rw[hn] at h2;cases h2
 |true=>
  obtain⟨i,e,hi,hke⟩:=h.met n hn
  obtain⟨j,e',h1,h2,h3⟩:=ANF (q:=q) es.toList 0 h.intKeys i e (by simpa using hi) hke
  rw[Array.getElem?_toList] at h2
  obtain⟨m,h4,h5,h6,h7,h8⟩:=h.keys j e' h2
  rw[h3] at h4
  cases h4
  exact .inr ⟨rfl,j,e',h2,h3,h7,h8,hrun _ (by rw[h1];simp)⟩
theorem YH{r:Nat}{es:Array MapEntry}{clock:Nat}(h:w.heap[r]?=some (.map es clock)):(getObj r).run P w=.ok (.map es clock) w:=by simp[getObj,Sem.run,h]
theorem Zb{r:Nat}{es:Array MapEntry}{clock:Nat}(o:Obj)(h:w.heap[r]?=some (.map es clock)):(setObj r o).run P w=.ok () (w.putObj r o):=by simp[setObj,Sem.run,h,World.putObj]
theorem Moved.turn(h:HRel B ι H w){id:Nat}{o0 o:AObj}(hid:H id=.live o0){x:Obj}(ho:ORel B ι (IV H id (.live o)).dom (ι id).cap o (some x)):Moved B ι H w B ι (IV H id (.live o)) (w.putObj (ι id).b x):=by
 have hlt:=Mm h hid
 have dm:∀i,H.dom i->(IV H id (.live o)).dom i/\ι i=ι i:=λi hi=>⟨by
  unfold Heap.dom IV;split
  ·simp
  ·exact hi,rfl⟩
 have live:∀i o2,IV H id (.live o) i=.live o2->(i=id/\o2=o)∨(i≠id/\H i=.live o2):=λi o2 hi=>by
  by_cases hii:i=id
  ·subst hii;rw[NF] at hi;cases hi;exact .inl ⟨rfl,rfl⟩
  ·rw[MQ _ _ hii] at hi;exact .inr ⟨hii,hi⟩
 have old:∀i o2,IV H id (.live o) i=.live o2->∃o3,H i=.live o3:=λi o2 hi=>by
  rcases live i o2 hi with⟨rfl,rfl⟩ | ⟨_,h2⟩
  ·exact⟨_,hid⟩
  ·exact⟨_,h2⟩
 have oth:∀b,b≠(ι id).b->(w.putObj (ι id).b x).heap[b]?=w.heap[b]?:=λb hb=>World.putObj_heap_other hb
 refine⟨λ_ _ h=>h,λ_ _ h=>.inl h,dm,⟨λi o2 hi=>?_,λi j o1 o2 hi hj hij=>?_,λi o2 hi=>?_,λb c hb=>?_⟩,λi o2 hi=>?_,λb hb hno=>oth b (λhe=>hno id _ hid he.symm),by rw[World.putObj_size];exact Nat.le_refl _,⟨rfl,rfl,rfl⟩⟩
 ·rcases live i o2 hi with⟨rfl,rfl⟩ | ⟨h1,h2⟩
  ·rw[World.putObj_heap_same hlt];exact ho
  ·rw[oth _ (λhe=>h1 (h.inj _ _ _ _ h2 hid he))]
   exact (h.obj i o2 h2).mono (λ_ _ h=>h) dm
 ·obtain⟨_,h1⟩:=old i o1 hi
  obtain⟨_,h2⟩:=old j o2 hj
  exact h.inj _ _ _ _ h1 h2 hij
 ·obtain⟨_,h1⟩:=old i o2 hi
  exact h.sep _ _ h1
 ·have:b≠(ι id).b:=λhe=>by rw[he,h.sep id _ hid] at hb;cases hb
  rw[oth b this];exact h.imm b c hb
 ·obtain⟨o3,h1⟩:=old i o2 hi
  exact .inl ⟨i,o3,h1,rfl⟩
def API(P:Program)(r:Nat)(t:TypeId):Option Eff:=match ANT P t with
 |some (q,z)=>some ⟨.mref r,[(r,.live (.imap q z (λ_=>false) (λ_=>ofV z) (λ_=>0) none))],[]⟩
 |none=>none
theorem AQI{r:Nat}{t:TypeId}{e:Eff}(h:API P r t=some e)(hr:H r=.none)(hH:HRel B ι H w):∃y w',(Instr.makeMap t none).run P w=.ok y w'/\Bx B ι H w (KP H e.upd) e.val y w':=by
 unfold API at h
 split at h
 ·rename_i q z hm
  cases h
  refine⟨.map (some w.heap.size),w.alloc (.map #[] 0),by simp[Instr.makeMap],B,_,Moved.new hH hr (q:=0) (.imap ⟨λi e he=>by simp at he,λn _=>⟨AXV z,rfl⟩,λn hn=>by simp at hn,λi j e e' he=>by simp at he⟩),?_⟩
  have:=VRel.mref (B:=B) (ι:=yH ι r ⟨w.heap.size,0⟩) (D:=(IV H r (.live (.imap q z (λ_=>false) (λ_=>ofV z) (λ_=>0) none))).dom) (id:=r) (by unfold Heap.dom;rw[NF];simp)
  rw[LU] at this
  exact this
 ·cases h
def yV(H:Heap):AVal->Option (Nat×IntKind×Value×(Int->Bool)×(Int->DVal)×(Int->Int)×Option Int)
 | .mref id=>match H id with
  | .live (.imap q z has get st pend)=>some (id,q,z,has,get,st,pend)
  |_=>none
 |_=>none
theorem aL{m:AVal}{v:Value}{id:Nat}{q:IntKind}{z:Value}{has:Int->Bool}{get:Int->DVal}{st:Int->Int}{pend:Option Int}(h:yV H m=some (id,q,z,has,get,st,pend))(hv:VRel B ι H.dom m v)(hH:HRel B ι H w) :
  H id=.live (.imap q z has get st pend)/\v=.map (some (ι id).b)/\∃es clock,w.heap[(ι id).b]?=some (.map es clock)/\MapIs B q z has get st es clock:=by
 unfold yV at h
 split at h
 ·rename_i id'
  split at h
  ·rename_i q' z' has' get' st' pend' hid
   cases h
   cases hv
   have ho:=hH.obj _ _ hid
   generalize hq:w.heap[(ι id).b]?=x at ho
   cases ho with
   |imap hm=>exact⟨hid,rfl,_,_,rfl,hm⟩
  ·cases h
 ·cases h
def keyA(q:IntKind):AVal->Option Int
 | .d (.v (.int k n))=>if k=q then some n else none
 |_=>none
theorem lE{q:IntKind}{a:AVal}{n:Int}{v:Value}(h:keyA q a=some n)(hv:VRel B ι D a v):v=.int q n:=by
 unfold keyA at h
 split at h
 ·split at h
  ·rename_i hk;subst hk;cases h;cases hv.d_inv;rfl
  ·cases h
 ·cases h
def ALL(P:Program)(H:Heap)(t:TypeId)(m ix:AVal)(ok:Bool):Option (AVal×List Prop):=match ANT P t,yV H m with
 |some (q,z),some (_,q',z',has,get,_,_)=>match keyA q ix with
  |some n=>if q=q' then some (if ok then .d (.tup [get n,.bool (has n)]) else .d (get n),[z=z']) else none
  |none=>none
 |_,_=>none
theorem ASP{t:TypeId}{m ix x:AVal}{ok:Bool}{vm vi:Value}{pre:List Prop}(h:ALL P H t m ix ok=some (x,pre))(hp:FT pre)(hvm:VRel B ι H.dom m vm)(hvi:VRel B ι H.dom ix vi)(hH:HRel B ι H w) :
  ∃y,(Instr.lookup t vm vi ok).run P w=.ok y w/\VRel B ι H.dom x y:=by
 unfold ALL at h
 split at h
 case h_2=>cases h
 rename_i q z id q' z' has get st pend ht hm
 split at h
 case h_2=>cases h
 rename_i n hn
 split at h
 case isFalse=>cases h
 rename_i hq
 subst hq
 cases h
 have hp:z=z':=hp
 subst hp
 obtain⟨k,e,hu,hk,hz⟩:=kP ht
 obtain⟨hid,rfl,es,clock,hb,hM⟩:=aL hm hvm hH
 have:=lE hn hvi;subst this
 have fin:∀(v:Value) (b:Bool),DRel B (get n) v->has n=b->VRel B ι H.dom (if ok then .d (.tup [get n,.bool (has n)]) else .d (get n)) (if ok then .tuple #[v,.bool b] else v):=λv b hv hb=>by
  cases ok with
  |false=>exact .d hv
  |true=>
   refine .d (.tup rfl λj x y hx hy=>?_)
   match j with
   |0=>simp at hx hy;subst hx;subst hy;exact hv
   |1=>simp at hx hy;subst hx;subst hy;rw[hb];exact .v _
   |j+2=>simp at hx
 rcases hM.find hk n w with⟨h1,h2⟩ | ⟨h1,i,en,_,_,_,h5,h6⟩
 ·refine⟨_,?_,fin z false (hM.miss n h1).1 h1⟩
  unfold Instr.lookup
  simp only[Sem.run_bind,run_underlying hu,Result.andThen_ok,YH hb,Sem.run_pure,VB hk _ _ _ 10000 (by omega),h2,hz w]
 ·refine⟨_,?_,fin en.val true h5 h1⟩
  unfold Instr.lookup
  simp only[Sem.run_bind,run_underlying hu,Result.andThen_ok,YH hb,Sem.run_pure,VB hk _ _ _ 10000 (by omega),h6]
def CCX(P:Program)(H:Heap)(t:TypeId)(m ix:AVal):Option (Bool×DVal×Value×List Prop):=match ANT P t,yV H m with
 |some (q,z),some (_,q',z',has,get,_,_)=>match keyA q ix with
  |some n=>if q=q' then some (has n,get n,z,[z=z']) else none
  |none=>none
 |_,_=>none
theorem BDU{t:TypeId}{m ix:AVal}{b:Bool}{d:DVal}{z:Value}{vm vi:Value}{pre:List Prop}(h:CCX P H t m ix=some (b,d,z,pre))(hp:FT pre)(hvm:VRel B ι H.dom m vm)(hvi:VRel B ι H.dom ix vi)(hH:HRel B ι H w) :
  ∃v,(Instr.lookup t vm vi true).run P w=.ok (.tuple #[v,.bool b]) w/\(b=true->DRel B d v)/\(b=false->v=z):=by
 unfold CCX at h
 split at h
 case h_2=>cases h
 rename_i q z id q' z' has get st pend ht hm
 split at h
 case h_2=>cases h
 rename_i n hn
 split at h
 case isFalse=>cases h
 rename_i hq
 subst hq
 cases h
 have hp:z=z':=hp
 subst hp
 obtain⟨k,e,hu,hk,hz⟩:=kP ht
 obtain⟨hid,rfl,es,clock,hb,hM⟩:=aL hm hvm hH
 have:=lE hn hvi;subst this
 rcases hM.find hk n w with⟨h1,h2⟩ | ⟨h1,i,en,_,_,_,h5,h6⟩
 ·rw[h1]
  refine⟨z,?_,(λh=>by cases h),λ_=>rfl⟩
  unfold Instr.lookup
  simp only[Sem.run_bind,run_underlying hu,Result.andThen_ok,YH hb,Sem.run_pure,VB hk _ _ _ 10000 (by omega),h2,hz w]
  rfl
 ·rw[h1]
  refine⟨en.val,?_,λ_=>h5,λh=>by cases h⟩
  unfold Instr.lookup
  simp only[Sem.run_bind,run_underlying hu,Result.andThen_ok,YH hb,Sem.run_pure,VB hk _ _ _ 10000 (by omega),h6]
  rfl
theorem AYU(j:IntKind)(a:Int):∀n:Nat,Instr.sameBits n (.int j a) (.int j a)=true
 |0=>by simp[Instr.sameBits]
 |n+1=>by simp[Instr.sameBits]
theorem ACG(q:IntKind)(n:Int)(w:World):(Instr.keyThatStays (.int q n) (.int q n)).run P w=.ok (.int q n) w:=by
 simp[Instr.keyThatStays,AYU]
def yE(has:Int->Bool)(st:Int->Int)(n:Int):Int->Int:=λj=>bif has n then st j else bif (has j||decide (j=n)) then st j else st j+1
def ZS(has:Int->Bool)(n:Int):Int->Bool:=λj=>decide (j=n)||has j
def AKL(get:Int->DVal)(n:Int)(x:DVal):Int->DVal:=λj=>sA (decide (j=n)) x (get j)
theorem iN(get:Int->DVal)(n:Int)(x:DVal):AKL get n x=λj=>bif decide (j=n) then x else get j:=by
 funext j;simp only[AKL,Ah]
theorem MapIs.push{q:IntKind}{z:Value}{has:Int->Bool}{get:Int->DVal}{st:Int->Int}{es:Array MapEntry}{clock:Nat}(h:MapIs B q z has get st es clock){n:Int}(hn:has n=false){x:DVal}{v:Value}(hx:DRel B x v) :
  MapIs B q z (ZS has n) (AKL get n x) (yE has st n) (es.push { key:=.int q n,val:=v,born:=clock }) (clock+1):=by
 have look:∀(i:Nat) (e:MapEntry),(es.push { key:=.int q n,val:=v,born:=clock })[i]?=some e->(i=es.size/\e={ key:=.int q n,val:=v,born:=clock })∨es[i]?=some e:=λi e he=>by
  rw[Array.getElem?_push] at he
  split at he
  ·rename_i hi;cases he;exact .inl ⟨hi,rfl⟩
  ·exact .inr he
 have ne:∀m,has m=true->m≠n:=λm hm he=>by rw[he,hn] at hm;cases hm
 refine⟨λi e he=>?_,λm hm=>?_,λm hm=>?_,λi j e e' hi hj hij=>?_⟩
 ·rcases look i e he with⟨_,rfl⟩ | he
  ·exact⟨n,rfl,by simp[ZS],Nat.lt_succ_self _,by simp[yE,hn,(h.miss n hn).2],by simpa[iN] using hx⟩
  ·obtain⟨m,h1,h2,h3,h4,h5⟩:=h.keys i e he
   exact⟨m,h1,by simp[ZS,h2],by omega,by simp[yE,hn,h2,h4],by simpa[iN,ne m h2] using h5⟩
 ·simp only[ZS,Bool.or_eq_false_iff,decide_eq_false_iff_not] at hm
  obtain⟨h1,h2⟩:=h.miss m hm.2
  exact⟨by simpa[iN,hm.1] using h1,by simp[yE,hn,hm.2,hm.1,h2]⟩
 ·by_cases hmn:m=n
  ·subst hmn;exact⟨es.size,{ key:=.int q m,val:=v,born:=clock },by simp,rfl⟩
  ·simp only[ZS,hmn,decide_false,Bool.false_or] at hm
   obtain⟨i,e,hi,hk⟩:=h.met m hm
   exact⟨i,e,by rw[Array.getElem?_push,if_neg (by have:=(Array.getElem?_eq_some_iff.1 hi).1;omega)];exact hi,hk⟩
 ·rcases look i e hi with⟨hi1,rfl⟩ | hi1<;>rcases look j e' hj with⟨hj1,rfl⟩ | hj1
  ·omega
  ·exfalso
   obtain⟨m,h1,h2,h3,_⟩:=h.keys j e' hj1
   rcases hij with hij | hij
   ·rw[h1] at hij;injection hij with _ hmn;exact ne m h2 hmn.symm
   ·simp only at hij;omega
  ·exfalso
   obtain⟨m,h1,h2,h3,_⟩:=h.keys i e hi1
   rcases hij with hij | hij
   ·rw[h1] at hij;injection hij with _ hmn;exact ne m h2 hmn
   ·simp only at hij;omega
  ·exact h.once i j e e' hi1 hj1 hij
theorem MapIs.modify{q:IntKind}{z:Value}{has:Int->Bool}{get:Int->DVal}{st:Int->Int}{es:Array MapEntry}{clock:Nat}(h:MapIs B q z has get st es clock){n:Int}{i:Nat}{e0:MapEntry}(hi:es[i]?=some e0)(hk:e0.key=.int q n)(hn:has n=true){x:DVal}{v:Value}(hx:DRel B x v) :
  MapIs B q z (ZS has n) (AKL get n x) (yE has st n) (es.modify i λe=>{ e with key:=.int q n,val:=v }) clock:=by
 have look:∀(j:Nat) (e:MapEntry),(es.modify i λe=>{ e with key:=.int q n,val:=v })[j]?=some e->(j=i/\e={ e0 with key:=.int q n,val:=v })∨(j≠i/\es[j]?=some e):=λj e he=>by
  rw[Array.getElem?_modify] at he
  split at he
  ·rename_i hij;subst hij;rw[hi] at he;simp at he;exact .inl ⟨rfl,he.symm⟩
  ·rename_i hij;exact .inr ⟨Ne.symm hij,he⟩
 have hasE:∀m,ZS has n m=has m:=λm=>by
  by_cases hm:m=n
  ·subst hm;simp[ZS,hn]
  ·simp[ZS,hm]
 have stE:∀m,yE has st n m=st m:=λm=>by simp[yE,hn]
 obtain⟨m0,a1,a2,a3,a4,_⟩:=h.keys i e0 hi
 rw[hk] at a1;cases a1
 have same:∀(j:Nat) (e:MapEntry),es[j]?=some e->e.key=.int q n->j=i:=λj e hj hke=>h.once j i e e0 hj hi (.inl (by rw[hke,hk]))
 refine⟨λj e he=>?_,λm hm=>?_,λm hm=>?_,λj l e e' hj hl hjl=>?_⟩
 ·rcases look j e he with⟨_,rfl⟩ | ⟨hj,he⟩
  ·exact⟨n,rfl,by rw[hasE];exact hn,a3,by rw[stE];exact a4,by simpa[iN] using hx⟩
  ·obtain⟨m,h1,h2,h3,h4,h5⟩:=h.keys j e he
   have hmn:m≠n:=λhmn=>hj (same j e he (by rw[h1,hmn]))
   exact⟨m,h1,by rw[hasE];exact h2,h3,by rw[stE];exact h4,by simpa[iN,hmn] using h5⟩
 ·rw[hasE] at hm
  obtain⟨h1,h2⟩:=h.miss m hm
  have hmn:m≠n:=λhe=>by rw[he,hn] at hm;cases hm
  exact⟨by simpa[iN,hmn] using h1,by rw[stE];exact h2⟩
 ·rw[hasE] at hm
  obtain⟨j,e,hj,hke⟩:=h.met m hm
  by_cases hji:j=i
  ·subst hji
   rw[hi] at hj;cases hj
   rw[hk] at hke;cases hke
   exact⟨j,_,by rw[Array.getElem?_modify,if_pos rfl,hi];rfl,rfl⟩
  ·exact⟨j,e,by rw[Array.getElem?_modify,if_neg (Ne.symm hji)];exact hj,hke⟩
 ·rcases look j e hj with⟨hj1,rfl⟩ | ⟨hj1,hj2⟩<;>rcases look l e' hl with⟨hl1,rfl⟩ | ⟨hl1,hl2⟩
  ·omega
  ·exact absurd (h.once i l e0 e' hi hl2 (by rw[hk];exact hjl)).symm hl1
  ·exact absurd (h.once j i e e0 hj2 hi (by rw[hk];exact hjl)) hj1
  ·exact h.once j l e e' hj2 hl2 hjl
theorem MapIs.store{q:IntKind}{z:Value}{has:Int->Bool}{get:Int->DVal}{st:Int->Int}{es:Array MapEntry}{clock:Nat}(h:MapIs B q z has get st es clock){n:Int}{i:Nat}{e0:MapEntry}(hi:es[i]?=some e0)(hk:e0.key=.int q n){x:DVal}{v:Value}(hx:DRel B x v) :
  MapIs B q z has (AKL get n x) st (es.modify i λe=>{ e with val:=v }) clock:=by
 obtain⟨m0,a1,hn,_⟩:=h.keys i e0 hi
 rw[hk] at a1;cases a1
 have h1:=h.modify hi hk hn hx
 have e1:(es.modify i λe=>{ e with key:=.int q n,val:=v })=es.modify i λe=>{ e with val:=v }:=by
  apply Array.ext_getElem?
  intro j
  rw[Array.getElem?_modify,Array.getElem?_modify]
  split
  ·rename_i hij;subst hij;rw[hi];simp only[Option.map_some,Option.some.injEq];rw[<-hk]
  ·rfl
 have e2:ZS has n=has:=by
  funext m
  by_cases hm:m=n
  ·subst hm;simp[ZS,hn]
  ·simp[ZS,hm]
 have e3:yE has st n=st:=by funext m;simp[yE,hn]
 rw[e1,e2,e3] at h1
 exact h1
def xN(P:Program)(H:Heap)(t:TypeId)(m k v:AVal):Option Eff:=match ANT P t,yV H m,v with
 |some (q,_),some (id,q',z,has,get,st,none),.d x=>match keyA q k with
  |some n=>if q=q' then some ⟨.d (.v undef),[(id,.live (.imap q z (ZS has n) (AKL get n x) (yE has st n) none))],[]⟩ else none
  |none=>none
 |_,_,_=>none
theorem yY{t:TypeId}{m k v:AVal}{vm vk vv:Value}{e:Eff}(h:xN P H t m k v=some e)(hH:HRel B ι H w)(hm:VRel B ι H.dom m vm)(hk:VRel B ι H.dom k vk)(hv:VRel B ι H.dom v vv) :
  ∃w',(Instr.mapUpdate t vm vk vv).run P w=.ok () w'/\Bx B ι H w (KP H e.upd) e.val undef w':=by
 unfold xN at h
 split at h
 case h_2=>cases h
 rename_i q z0 id q' z has get st x ht hma
 split at h
 case h_2=>cases h
 rename_i n hn
 split at h
 case isFalse=>cases h
 rename_i hq
 subst hq
 cases h
 obtain⟨kt,el,hu,hkt,_⟩:=kP ht
 obtain⟨hid,rfl,es,clock,hb,hM⟩:=aL hma hm hH
 have:=lE hn hk;subst this
 rcases hM.find hkt n w with⟨h1,h2⟩ | ⟨h1,i,en,h3,h4,_,_,h6⟩
 ·refine⟨_,?_,B,ι,Moved.turn hH hid (.imap (hM.push h1 hv.d_inv)),.d (.v _)⟩
  unfold Instr.mapUpdate
  simp only[Sem.run_bind,run_underlying hu,Result.andThen_ok,YH hb,VB hkt _ _ _ 10000 (by omega),h2,Zb _ hb]
 ·refine⟨_,?_,B,ι,Moved.turn hH hid (.imap (hM.modify h3 h4 h1 hv.d_inv)),.d (.v _)⟩
  unfold Instr.mapUpdate
  simp only[Sem.run_bind,run_underlying hu,Result.andThen_ok,YH hb,VB hkt _ _ _ 10000 (by omega),h6,h3,Option.map_some,Option.getD_some,h4,ACG,Zb _ hb]
def AXJ(P:Program)(H:Heap)(t:TypeId)(m k:AVal):Option Eff:=match ANT P t,yV H m with
 |some (q,z0),some (id,q',z,has,get,st,none)=>match keyA q k with
  |some n=>if q=q' then some ⟨.d (.tup [get n,.int (st n)]),[(id,.live (.imap q z (ZS has n) (AKL get n (get n)) (yE has st n) (some n)))],[z0=z]⟩ else none
  |none=>none
 |_,_=>none
theorem BAL{t:TypeId}{m k:AVal}{vm vk:Value}{e:Eff}(h:AXJ P H t m k=some e)(hp:FT e.pre)(hH:HRel B ι H w)(hm:VRel B ι H.dom m vm)(hk:VRel B ι H.dom k vk) :
  ∃y w',(Instr.mapEntry t vm vk).run P w=.ok y w'/\Bx B ι H w (KP H e.upd) e.val y w':=by
 unfold AXJ at h
 split at h
 case h_2=>cases h
 rename_i q z0 id q' z has get st ht hma
 split at h
 case h_2=>cases h
 rename_i n hn
 split at h
 case isFalse=>cases h
 rename_i hq
 subst hq
 cases h
 have hp:z0=z:=hp
 subst hp
 obtain⟨kt,el,hu,hkt,hz⟩:=kP ht
 obtain⟨hid,rfl,es,clock,hb,hM⟩:=aL hma hm hH
 have:=lE hn hk;subst this
 have pair:∀(v:Value) (s:Int),DRel B (get n) v->s=st n->DRel B (.tup [get n,.int (st n)]) (.tuple #[v,.int .i64 s]):=λv s hv hs=>.tup rfl λj x y hx hy=>by
  match j with
  |0=>simp at hx hy;subst hx;subst hy;exact hv
  |1=>simp at hx hy;subst hx;subst hy;rw[hs];exact .v _
  |j+2=>simp at hx
 rcases hM.find hkt n w with⟨h1,h2⟩ | ⟨h1,i,en,h3,h4,h5,h7,h6⟩
 ·refine⟨.tuple #[z0,goInt clock],_,?_,B,ι,Moved.turn hH hid (.imap (hM.push h1 (hM.miss n h1).1)),.d (pair z0 clock (hM.miss n h1).1 (hM.miss n h1).2.symm)⟩
  unfold Instr.mapEntry
  simp only[Sem.run_bind,run_underlying hu,Result.andThen_ok,YH hb,VB hkt _ _ _ 10000 (by omega),h2,hz w,Zb _ hb,Sem.run_pure]
 ·have e1:(es.modify i λe=>{ e with key:=.int q n })=es.modify i λe=>{ e with key:=.int q n,val:=en.val }:=by
   apply Array.ext_getElem?
   intro j
   rw[Array.getElem?_modify,Array.getElem?_modify]
   split
   ·rename_i hij;subst hij;rw[h3];rfl
   ·rfl
  refine⟨.tuple #[en.val,goInt en.born],_,?_,B,ι,Moved.turn hH hid (.imap (hM.modify h3 h4 h1 h7)),.d (pair en.val en.born h7 h5)⟩
  unfold Instr.mapEntry
  simp only[Sem.run_bind,run_underlying hu,Result.andThen_ok,YH hb,VB hkt _ _ _ 10000 (by omega),h6,h3,Option.map_some,Option.getD_some,h4,ACG,Zb _ hb,Sem.run_pure,e1]
def bW(H:Heap)(m s v:AVal):Option Eff:=match yV H m,s,v with
 |some (id,q,z,has,get,st,some n),.d (.v (.int _ j)),.d x=>some ⟨.d (.v undef),[(id,.live (.imap q z has (AKL get n x) st none))],[has n=true,j=st n]⟩
 |_,_,_=>none
theorem ABI{t:TypeId}{m s v:AVal}{vm vs vv:Value}{e:Eff}(h:bW H m s v=some e)(hp:FT e.pre)(hH:HRel B ι H w)(hm:VRel B ι H.dom m vm)(hs:VRel B ι H.dom s vs)(hv:VRel B ι H.dom v vv) :
  ∃w',(Instr.entryStore t vm vs vv).run P w=.ok () w'/\Bx B ι H w (KP H e.upd) e.val undef w':=by
 unfold bW at h
 split at h
 case h_2=>cases h
 rename_i id q z has get st n k j x hma
 cases h
 obtain⟨p1,p2⟩:has n=true/\j=st n:=hp
 subst p2
 obtain⟨hid,rfl,es,clock,hb,hM⟩:=aL hma hm hH
 obtain rfl:vs=.int k (st n):=by cases hs.d_inv;rfl
 obtain⟨i,e0,hi,hke⟩:=hM.met n p1
 obtain⟨m0,a1,_,_,a4,_⟩:=hM.keys i e0 hi
 rw[hke] at a1;cases a1
 have hfind:es.findIdx? (λe=>(e.born:Int)==st n)=some i:=by
  have hlt:=(Array.getElem?_eq_some_iff.1 hi).1
  have hei:es[i]=e0:=by have:=hi;rw[Array.getElem?_eq_getElem hlt] at this;simpa using this
  refine Array.findIdx?_eq_some_iff_getElem.2 ⟨hlt,by simp[hei,a4],λl hl=>?_⟩
  have hll:l<es.size:=by omega
  simp only[beq_iff_eq]
  intro he
  have:=hM.once l i es[l] e0 (by simp[hll]) hi (.inr (by rw[<-a4] at he;exact_mod_cast he))
  omega
 refine⟨_,?_,B,ι,Moved.turn hH hid (.imap (hM.store hi hke hv.d_inv)),.d (.v _)⟩
 unfold Instr.entryStore
 simp only[Sem.run_bind,Result.andThen_ok,YH hb,asInt,asIntOf,Sem.run_pure,hfind,Zb _ hb]
end Go.Sym

namespace Go.Sym
variable {P : Program} {B B' : Jk} {ι ι' : Nat -> Pl} {H H' : Heap} {D : Nat -> Prop} {w w' : World}
def BAK:Operand->Bool
 | .const (.slice none _ _)=>true
 |_=>false
def nilA:AVal->Option (Bool×List Prop)
 | .own _ _ _ _=>some (false,[])
 | .d (.v (.slice none _ _))=>some (true,[])
 | .d (.v (.slice (some _) _ _))=>some (false,[])
 | .d (.list _ n _ _)=>some (false,[0<n])
 |_=>none
theorem mN{a:AVal}{b:Bool}{pre:List Prop}{v:Value}(h:nilA a=some (b,pre))(hp:FT pre)(hv:VRel B ι D a v):∃base n cap,v=.slice base n cap/\base.isNone=b:=by
 unfold nilA at h
 split at h
 ·cases h;cases hv;exact⟨_,_,_,rfl,rfl⟩
 ·cases h;cases hv.d_inv;exact⟨_,_,_,rfl,rfl⟩
 ·cases h;cases hv.d_inv;exact⟨_,_,_,rfl,rfl⟩
 ·cases h
  have hp:0<_:=hp
  cases hv.d_inv with
  |nil=>omega
  |list=>exact⟨_,_,_,rfl,rfl⟩
 ·cases h
def AYH(P:Program)(op:BinOp)(t:TypeId)(a:AVal):Option (Bool×List Prop):=match P.underlying t,op,nilA a with
 |some (.slice _),.eql,some (b,p)=>some (b,p)
 |some (.slice _),.neq,some (b,p)=>some (!b,p)
 |_,_,_=>none
theorem AZX{op:BinOp}{t:TypeId}{a:AVal}{b:Bool}{pre:List Prop}{v:Value}{n' c':Nat}(h:AYH P op t a=some (b,pre))(hp:FT pre)(hv:VRel B ι D a v)(w:World) :
  (binOp op t v (.slice none n' c')).run P w=.ok (.bool b) w:=by
 unfold AYH at h
 split at h
 ·rename_i e b' p hu hn
  cases h
  obtain⟨base,n,cap,rfl,rfl⟩:=mN hn hp hv
  exact Lib.run_eql_slice_nil w t e base n cap n' c' hu
 ·rename_i e b' p hu hn
  cases h
  obtain⟨base,n,cap,rfl,rfl⟩:=mN hn hp hv
  exact run_neq_slice_nil_any w t e base n cap n' c' hu
 ·cases h
def BGZ(P:Program)(op:BinOp)(t:TypeId):AVal->Bool
 | .d (.list k n _ _)=>Nat.beq k 0&&match P.underlying t,op with
  |some (.slice _),.eql | some (.slice _),.neq=>true
  |_,_=>false
 |_=>false
theorem AXZ{op:BinOp}{t:TypeId}{a:AVal}{v:Value}{n' c':Nat}(h:BGZ P op t a=true)(hv:VRel B ι D a v)(w:World) :
  ∃base n cap,v=.slice base n cap/\∃b,(binOp op t v (.slice none n' c')).run P w=.ok (.bool b) w:=by
 unfold BGZ at h
 split at h
 ·rename_i k n get ex
  obtain⟨base,n,cap,rfl⟩:∃base n cap,v=.slice base n cap:=by
   cases hv with
   |d hd=>cases hd<;>exact⟨_,_,_,rfl⟩
  rw[Bool.and_eq_true] at h
  obtain⟨_,h⟩:=h
  refine⟨base,n,cap,rfl,?_⟩
  split at h
  ·rename_i hu;exact⟨_,Lib.run_eql_slice_nil w t _ base n cap n' c' hu⟩
  ·rename_i hu;exact⟨_,run_neq_slice_nil_any w t _ base n cap n' c' hu⟩
  ·cases h
 ·cases h
def Wj(P:Program)(H:Heap)(t:TypeId)(x:AVal):Option AVal:=match P.underlying t,x with
 |some (.array m e),.rptr id k 0 0=>match H id with
  | .live (.row k' n _)=>if k==k'&&m==n&&szT P e==some k then some (.own id k 0 n) else none
  |_=>none
 |_,_=>none
theorem AKU{t:TypeId}{x q:AVal}{v:Value}(h:Wj P H t x=some q)(hv:VRel B ι H.dom x v)(hH:HRel B ι H w):∃y,(Instr.sliceAt t v none none none).run P w=.ok y w/\VRel B ι H.dom q y:=by
 unfold Wj at h
 split at h
 ·rename_i m e id k hu
  split at h
  ·rename_i k' n get hid
   split at h
   ·rename_i hc
    cases h
    simp only[Bool.and_eq_true,beq_iff_eq] at hc
    obtain⟨⟨rfl,rfl⟩,hs⟩:=hc
    have ho:=hH.obj _ _ hid
    generalize w.heap[(ι id).b]?=qq at ho
    cases hv
    rename_i hD
    cases ho with
    |row hkk hn hsz hrel=>
     refine⟨.slice (some ⟨(ι id).b,0*k,none⟩) m m,?_,.own hD (Nat.le_refl _) (by omega)⟩
     have hs':(sizeOf e).run P w=.ok k w:=LF (by unfold szT at hs;simpa using hs) w
     simp[Instr.sliceAt,run_underlying hu,Instr.sureAddr,Instr.sliceBounds,hs',Se]
   ·cases h
  ·cases h
 ·cases h
def iE(P:Program)(H:Heap)(t:TypeId)(x:AVal)(lo hi mx:Option AVal):Option Eff:=match P.underlying t,x,mx with
 |some (.slice e),.own id k 0 n,some (.d (.v (.int _ m)))=>match H id,tB 0 lo,hi with
  | .live (.row k' n' get),some l,some (.d (.v (.int _ h)))=>if szT P e==some k&&k==k' then
    some ⟨.d (.list k (h.toNat-l.toNat) (λi=>get (l.toNat+i)) true),[(id,.dead)],[0<=l/\l<=h/\h=m/\h<=n/\n<=n']⟩ else none
  |_,_,_=>none
 |_,_,_=>none
theorem ANN{t:TypeId}{x:AVal}{lo hi mx:Option AVal}{e:Eff}{v:Value}{lov hiv mxv:Option Value}(h:iE P H t x lo hi mx=some e)(hp:FT e.pre)(hv:VRel B ι H.dom x v)(hH:HRel B ι H w)
  (hlo:∀x,lo=some x->∃y,lov=some y/\VRel B ι H.dom x y) (hlo0:lo=none->lov=none) (hhi:∀x,hi=some x->∃y,hiv=some y/\VRel B ι H.dom x y) (hmx:∀x,mx=some x->∃y,mxv=some y/\VRel B ι H.dom x y) :
  ∃y,(Instr.sliceAt t v lov hiv mxv).run P w=.ok y w/\Bx B ι H w (KP H e.upd) e.val y w:=by
 unfold iE at h
 split at h
 case h_2=>cases h
 rename_i el id k n km m hu
 split at h
 case h_2=>cases h
 rename_i k' n' get l kh hh hid hl
 split at h
 case isFalse=>cases h
 rename_i hc
 simp only[Bool.and_eq_true,beq_iff_eq] at hc
 obtain⟨hs,rfl⟩:=hc
 cases h
 obtain⟨p1,p2,rfl,p3,p4⟩:=hp
 have b1:=YQ hl hlo hlo0
 obtain⟨y2,rfl,hy2⟩:=hhi _ rfl
 obtain⟨y3,rfl,hy3⟩:=hmx _ rfl
 obtain rfl:y2=.int kh hh:=by cases hy2.d_inv;rfl
 obtain rfl:y3=.int km hh:=by cases hy3.d_inv;rfl
 have hs':(sizeOf el).run P w=.ok k w:=LF (by unfold szT at hs;simpa using hs) w
 obtain⟨c,ty,h1,h2,h3,h4,h5,h6⟩:=Moved.freeze hH hid
 cases hv
 rename_i cap hD hq hcap
 have hB:(λb=>if b=(ι id).b then some c else B b) (ι id).b=some c:=by simp
 have hd:DRel (λb=>if b=(ι id).b then some c else B b) (.list k n get false) (.slice (some ⟨(ι id).b,0*k,none⟩) n cap):=by
  rcases Nat.eq_zero_or_pos n with h0 | h0
  ·subst h0;exact .nil (λh=>by cases h) (.inr (by simp))
  ·have e1:n*k<=n'*k:=Nat.mul_le_mul_right k p4
   have e2:n'*k<=(ι id).cap*k:=Nat.mul_le_mul_right k h3
   exact .list h0 hB hcap (λh=>by cases h) (λi hi=>h5 i (by omega)) (by omega) λi j x y hi hx hy=>(h6 i j x y (by omega) hx (by simpa using hy)).mono h2.bm
 have hsub:=ASC (l:=l.toNat) (h:=hh.toNat) (m:=hh.toNat) hd (by omega) (by omega) (by omega) (by omega)
 refine⟨_,by simp only[Instr.sliceAt,Sem.run_bind,run_underlying hu,Result.andThen_ok,Instr.slice,AJN b1 p1 p2 p3 hcap,hs',Sem.run_pure];rfl,_,ι,h2,?_⟩
 have e1:decide (hh.toNat=hh.toNat)=true:=by simp
 rw[e1] at hsub
 exact .d hsub
def BOH(P:Program)(H:Heap)(t:TypeId)(d x:AVal):Option Eff:=match P.underlying t,d,srcA H x with
 |some (.slice e),.own id k 0 n,some (k2,m,PN,p2)=>match H id with
  | .live (.row k' n' get)=>if szT P e==some k&&k==k'&&!(idsTopC x).contains id&&Nat.blt 0 k then
    some ⟨.int ((min m n:Nat):Int),[(id,.live (.row k n' λj=>sA (decide (j<min m n)) (PN j) (get j)))],[p2/\(0<m->k2=k),n<=n']⟩ else none
  |_=>none
 |_,_,_=>none
where
 idsTopC:AVal->List Nat
  | .own id _ _ _=>[id]
  |_=>[]
theorem BEC{t ty:TypeId}{ats:Array TypeId}{d x:AVal}{vd vx:Value}{e:Eff}(h:BOH P H t d x=some e)(hp:FT e.pre)(h0:ats[0]?=some t)(hd:VRel B ι H.dom d vd)(hx:VRel B ι H.dom x vx)(hH:HRel B ι H w) :
  ∃y w',(Builtin.copy_ ats ty #[vd,vx]).run P w=.ok y w'/\Bx B ι H w (KP H e.upd) e.val y w':=by
 unfold BOH at h
 split at h
 case h_2=>cases h
 rename_i el id k n k2 m PN p2 hu hsrc
 split at h
 case h_2=>cases h
 rename_i k' n' get hid
 split at h
 case isFalse=>cases h
 rename_i hc
 simp only[Bool.and_eq_true,beq_iff_eq,Nat.blt_eq] at hc
 obtain⟨⟨⟨hs,rfl⟩,hdisj⟩,hk0⟩:=hc
 cases h
 obtain⟨⟨p2,p3⟩,p4⟩:(p2/\(0<m->k2=k))/\n<=n':=hp
 obtain⟨base,cap2,news,hS⟩:=zM hsrc p2 hx hH
 have hs':(sizeOf el).run P w=.ok k w:=LF (by unfold szT at hs;simpa using hs) w
 have ho:=hH.obj _ _ hid
 generalize hq:w.heap[(ι id).b]?=qq at ho
 cases hd
 rename_i cap hD hcap hcq
 cases ho with
 |row hkk hn hsz hrel=>
  rename_i c ety
  have hlen:news.length=m*k:=by
   rcases Nat.eq_zero_or_pos m with h | h
   ·subst h;simpa using hS.len
   ·rw[hS.len,p3 h]
  -- the cells that are copied
  have hmk:min m n*k<=m*k:=Nat.mul_le_mul_right k (Nat.min_le_left _ _)
  have hnk:min m n*k<=n*k:=Nat.mul_le_mul_right k (Nat.min_le_right _ _)
  have hn1:n*k<=n'*k:=Nat.mul_le_mul_right k p4
  have hn2:n'*k<=(ι id).cap*k:=Nat.mul_le_mul_right k hn
  have hfirst:(Builtin.firstCells k (min m n) vx).run P w=.ok (news.take (min m n*k)).toArray w:=by
   rw[hS.val]
   cases base with
   |none=>
    have hm:m=0:=by
     rcases Nat.eq_zero_or_pos m with h | h
     ·exact h
     ·obtain⟨b,o,hb⟩:=hS.some h;cases hb
    subst hm
    simp[Builtin.firstCells]
   |some a=>
    have hl:=run_loadCells (P:=P) w a (min m n*k) (λj=>news.getD j undef) (λj hj=>by
     have hj':j<news.length:=by omega
     rw[hS.cells a rfl j news[j] (by simp[hj'])]
     simp[hj'])
    have e1:(List.range (min m n*k)).map (λj=>news.getD j undef)=news.take (min m n*k):=by
     apply List.ext_getElem?
     intro j
     rw[List.getElem?_map,List.getElem?_take]
     by_cases hj:j<min m n*k
     ·have hj':j<news.length:=by omega
      simp[hj,hj']
     ·simp[hj]
    rw[e1] at hl
    exact hl
  have hone:∀u∈news.take (min m n*k),u.oneCell'=true:=λu hu=>by
   obtain⟨j,hj⟩:=List.mem_iff_getElem?.1 hu
   have hjl:=(List.getElem?_eq_some_iff.1 hj).1
   simp only[List.length_take] at hjl
   rw[List.getElem?_take,if_pos (by omega)] at hj
   have hm:0<m:=by
    rcases Nat.eq_zero_or_pos m with h | h
    ·subst h;simp at hlen;simp[hlen] at hj
    ·exact h
   have hk2:=p3 hm
   subst hk2
   have hjj:j / k2*k2+j % k2=j:=by rw[Nat.mul_comm];exact Nat.div_add_mod j k2
   have hi:j / k2<m:=by rw[Nat.div_lt_iff_lt_mul hk0];omega
   have hmod:j % k2<k2:=Nat.mod_lt _ hk0
   have hlt:j % k2<(PN (j / k2)).cells1.length:=by rw[(hS.ok _ hi).len];exact hmod
   have:=hS.rel (j / k2) (j % k2) (PN (j / k2)).cells1[j % k2] u hi (by simp) (by rw[hjj];exact hj)
   exact Ss (B:=B) (ι:=λ_=>⟨0,0⟩) (D:=λ_=>True) (YY (hS.ok _ hi).one _ (List.getElem_mem hlt)) (.d this)
  have hstore:=pX (P:=P) (o:=0) (vs:=news.take (min m n*k)) hq (by simp only[List.length_take];omega) hone
  refine⟨.int .i64 ((min m n:Nat):Int),w.setRow (ι id).b (c.toList.take 0 ++ news.take (min m n*k) ++ c.toList.drop (0+(news.take (min m n*k)).length)).toArray,?_,?_⟩
  ·have hlen2:(Builtin.lenOf vx).run P w=.ok m w:=by rw[hS.val];rfl
   unfold Builtin.copy_
   simp only[h0,List.getElem?_toArray,List.getElem?_cons_zero,List.getElem?_cons_succ,Sem.run_bind,run_underlying hu,Result.andThen_ok,hlen2,hs']
   rw[show Nat.min m n=min m n from rfl,hfirst]
   simp only[Result.andThen_ok,show (0:Nat)*k=0 by simp,hstore,Sem.run_pure,goInt]
  ·have hrow:ORel B ι H.dom (ι id).cap (.row k n' λj=>sA (decide (j<min m n)) (PN j) (get j))
     (some (.cells (c.toList.take 0 ++ news.take (min m n*k) ++ c.toList.drop (0+(news.take (min m n*k)).length)).toArray ety (0,0))):=by
    have hl:(news.take (min m n*k)).length=min m n*k:=by simp only[List.length_take];omega
    refine .row (λi hi=>?_) hn (by simp only[List.size_toArray,List.length_append,List.length_take,List.length_drop,Array.length_toList];omega) λi j x y hi hx hy=>?_
    ·rw[Ah]
     by_cases h:i<min m n
     ·have hm:i<m:=by omega
      simp only[h,decide_true,cond_true]
      have:=hS.ok i hm
      rw[p3 (by omega)] at this;exact this
     ·simp only[h,decide_false,cond_false];exact hkk i hi
    ·rw[Ah] at hx
     rw[List.getElem?_toArray,hl] at hy
     rw[VI hl (by simp only[Array.length_toList];omega)] at hy
     have hlt:=(List.getElem?_eq_some_iff.1 hx).1
     by_cases h:i<min m n
     ·have hm:i<m:=by omega
      simp only[h,decide_true,cond_true] at hx hlt
      have hk2:=p3 (by omega)
      subst hk2
      rw[(hS.ok i hm).len] at hlt
      have e1:(i+1)*k2<=min m n*k2:=Nat.mul_le_mul_right k2 h
      have e2:(i+1)*k2=i*k2+k2:=Nat.succ_mul i k2
      rw[if_pos (by omega),List.getElem?_take,if_pos (by omega)] at hy
      exact hS.rel i j x y hm hx (by simpa using hy)
     ·simp only[h,decide_false,cond_false] at hx hlt
      have e1:min m n*k<=i*k:=Nat.mul_le_mul_right k (by omega)
      rw[if_neg (by omega)] at hy
      exact hrel i j x y hi hx (by simpa using hy)
   obtain⟨B',ι',m1,_⟩:=vD hH hid hq hrow
   exact⟨B',ι',m1,.d (.v _)⟩
end Go.Sym
