/- Maps from integers. -/
import Derived.Test.YtbmlgdlbffmjjaaGreatSym4
import Derived.RangeFuncRecord
set_option linter.unusedVariables false
set_option linter.unusedSimpArgs false
namespace Go.Sym
variable {P : Program} {B B' : Kb} {ι ι' : Nat -> Pl} {H H' : Heap} {D : Nat -> Prop} {w w' : World}
def intT(P:Program)(t:TypeId):Bool:=match P.underlying t with
 |some (.int .i64)=>true
 |_=>false
theorem AMS{t:TypeId}(h:intT P t=true):P.underlying t=some (.int .i64):=by
 unfold intT at h;split at h
 ·assumption
 ·cases h
def AMM(P:Program)(k:TypeId):Bool:=match P.underlying k with
 |some (.struct fs)=>match fs.toList with
  | [f, g] => intT P f.type && intT P g.type && Nat.beq f.offset 0 && Nat.beq g.offset 1 && f.name != "_" && g.name != "_" && !P.stoodInHeld k
  |_=>false
 |_=>false
theorem zJ {k : TypeId} (h : AMM P k = true) : ∃ f g : Field, P.underlying k = some (.struct #[f, g]) /\ P.underlying f.type = some (.int .i64) /\ P.underlying g.type = some (.int .i64) /\ f.offset = 0 /\ g.offset = 1 /\ f.name ≠ "_" /\ g.name ≠ "_" /\ P.stoodInHeld k = false := by
 unfold AMM at h
 split at h
 ·rename_i fs hu
  split at h
  ·rename_i f g hl
   simp only[Bool.and_eq_true,bne_iff_ne,Bool.not_eq_true'] at h
   obtain⟨⟨⟨⟨⟨⟨h1,h2⟩,h3⟩,h4⟩,h5⟩,h6⟩,h7⟩:=h
   have:fs=#[f,g]:=by
    have:=congrArg List.toArray hl
    simpa using this
   subst this
   exact⟨f,g,hu,AMS h1,AMS h2,Nat.eq_of_beq_eq_true h3,Nat.eq_of_beq_eq_true h4,h5,h6,h7⟩
  ·cases h
 ·cases h
def keyT(P:Program)(q:KeyK)(k:TypeId):Prop:=match q with
 | .int q=>P.underlying k=some (.int q)
 | .pair=>AMM P k=true
def BVA(P:Program)(k:TypeId):Option KeyK:=match P.underlying k with
 |some (.int q)=>some (.int q)
 |_=>if AMM P k then some .pair else none
theorem BCD{k:TypeId}{q:KeyK}(h:BVA P k=some q):keyT P q k:=by
 unfold BVA at h;split at h
 ·cases h;assumption
 ·split at h
  ·cases h;assumption
  ·cases h
def rL(P:Program)(t:TypeId):Option (KeyK×Value):=match P.underlying t with
 |some (.map k e)=>match BVA P k,(P.info? e).bind (·.zero) with
  |some q,some z=>some (q,z)
  |_,_=>none
 |_=>none
theorem Gr{t:TypeId}{q:KeyK}{z:Value}(h:rL P t=some (q,z)):∃k e,P.underlying t=some (.map k e)/\keyT P q k/\∀w:World,(zeroValue e).run P w=.ok z w:=by
 unfold rL at h
 split at h
 ·rename_i k e hu
  split at h
  ·rename_i q' z' hk hz
   cases h
   refine⟨k,e,hu,BCD hk,λw=>?_⟩
   cases hi:P.info? e with
   |none=>simp[hi] at hz
   |some i=>
    simp only[hi,Option.bind_some] at hz
    simp[zeroValue,TW hi,hz]
  ·cases h
 ·cases h
theorem pY{k:TypeId}{q:IntKind}(hk:P.underlying k=some (.int q))(b:Bool)(v:Value)(w:World):∀n:Nat,0<n->(Instr.checkKey b n k v).run P w=.ok () w
 |0,h=>by omega
 |n+1,_=>by
  unfold Instr.checkKey
  simp only[Sem.run_bind,run_underlying hk,Result.andThen_ok]
  cases v<;>rfl
theorem hG{k:TypeId}{q:IntKind}(hk:P.underlying k=some (.int q)){cs:Array Value}{o:Nat}{v:Value}(h:cs[o]?=some v)(w:World):(part k cs o).run P w=.ok v w:=by
 simp[part,Vr hk,Od,h]
theorem LW{k:TypeId}{q:KeyK}(hk:keyT P q k)(b:Bool)(m:Int)(w:World)(n:Nat)(hn:1<n):(Instr.checkKey b n k (q.val m)).run P w=.ok () w:=by
 cases q with
 |int q=>exact pY hk b _ w n (by omega)
 |pair=>
  obtain⟨f,g,hu,hf,hg,of,og,nf,ng,_⟩:=zJ hk
  obtain⟨n,rfl⟩:∃j,n=j+1:=⟨n-1,by omega⟩
  unfold Instr.checkKey
  simp only[Sem.run_bind,run_underlying hu,Result.andThen_ok,KeyK.val]
  simp[hG hf,hG hg,of,og,nf,ng,pY hf b _ w n (by omega),pY hg b _ w n (by omega)]
def BKA:KeyK->Value->Option Int
 | .int _,.int _ m=>some m
 | .pair,.agg cs=>match cs.toList with
  |[.int _ a,.int _ b]=>some (a*4294967296+b)
  |_=>none
 |_,_=>none
theorem bO(q:KeyK)(n:Int):BKA q (q.val n)=some n:=by
 cases q with
 |int q=>rfl
 |pair=>simp only[KeyK.val,BKA,Option.some.injEq];omega
def rJ(q:KeyK)(n:Int):List MapEntry->Nat->Option (Nat×Value)
 |[],_=>none
 |e :: es,i=>match BKA q e.key with
  |some m=>if n=m then some (i,e.val) else rJ q n es (i+1)
  |none=>none
theorem AAR{q q':IntKind}{n:Int}:∀(es:List MapEntry) (i:Nat),(∀e∈es,∃m,e.key=(KeyK.int q).val m)->Instr.findNow (.int q') (.int q n) es i=some (rJ (.int q) n es i)
 |[],_,_=>rfl
 |e :: es,i,h=>by
  obtain⟨m,hm⟩:=h e (by simp)
  unfold Instr.findNow rJ
  rw[hm,bO]
  simp only[KeyK.val,Instr.sameNow,if_true]
  by_cases hnm:n=m
  ·subst hnm;simp
  ·have:(n==m)=false:=by simpa using hnm
   simp only[this,if_neg hnm]
   exact AAR es (i+1) λe he=>h e (by simp[he])
theorem K6{t:TypeId}(hk:P.underlying t=some (.int .i64))(a b:Int)(n:Nat)(w:World):(Op.equalIn (n+1) t (.int .i64 a) (.int .i64 b)).run P w=.ok (a==b) w:=by
 simp[Op.equalIn,run_underlying hk]
theorem ALQ{k:TypeId}(hk:AMM P k=true)(n m:Int)(w:World):(Op.equal k (KeyK.pair.val n) (KeyK.pair.val m)).run P w=.ok (decide (n=m)) w:=by
 obtain⟨f,g,hu,hf,hg,of,og,nf,ng,hs⟩:=zJ hk
 have hfs:P.fieldsOf k=#[f,g]:=by simp[Program.fieldsOf,hu]
 have e:Op.equal k (KeyK.pair.val n) (KeyK.pair.val m)=Op.equalIn (9998+1+1) k (KeyK.pair.val n) (KeyK.pair.val m):=rfl
 rw[e,KeyK.val,KeyK.val,run_equalIn_struct w _ k _ _ (by rw[hfs];exact hu) hs,hfs]
 simp only[Op.eqFields,if_pos nf,if_pos ng,of,og,Sem.run_bind]
 have p1:∀(x:Int) w,(part f.type #[.int .i64 (x / 4294967296),.int .i64 (x % 4294967296)] 0).run P w=.ok (.int .i64 (x / 4294967296)) w:=λx w=>hG hf (by simp) w
 have p2:∀(x:Int) w,(part g.type #[.int .i64 (x / 4294967296),.int .i64 (x % 4294967296)] 1).run P w=.ok (.int .i64 (x % 4294967296)) w:=λx w=>hG hg (by simp) w
 simp only[p1,Result.andThen_ok,K6 hf,Sem.run_ite,Sem.run_bind,p2,K6 hg,Sem.run_pure]
 have:decide (n=m)=((n / 4294967296==m / 4294967296)&&(n % 4294967296==m % 4294967296)):=by
  by_cases h:n=m
  ·subst h;simp
  ·rw[decide_eq_false h];symm
   rw[Bool.and_eq_false_iff]
   by_cases h1:n / 4294967296=m / 4294967296
   ·right;simp only[beq_eq_false_iff_ne,ne_eq];omega
   ·left;simp[h1]
 rw[this]
 cases (n / 4294967296==m / 4294967296)<;>cases (n % 4294967296==m % 4294967296)<;>simp
theorem wB{k:TypeId}(hk:AMM P k=true)(n:Int)(w:World):∀(es:List MapEntry) (i:Nat),(∀e∈es,∃m,e.key=KeyK.pair.val m)->(Instr.findAsking k (KeyK.pair.val n) es i).run P w=.ok (rJ .pair n es i) w
 |[],_,_=>by simp[Instr.findAsking,rJ]
 |e :: es,i,h=>by
  obtain⟨m,hm⟩:=h e (by simp)
  unfold Instr.findAsking rJ
  rw[hm,bO]
  simp only[Sem.run_bind,ALQ hk,Result.andThen_ok,Sem.run_ite]
  by_cases hnm:n=m
  ·subst hnm;simp
  ·simp only[decide_eq_false hnm,if_neg hnm]
   have:=wB hk n w es (i+1) λe he=>h e (by simp[he])
   simpa using this
theorem ABJ{k:TypeId}{q:KeyK}(hk:keyT P q k)(n:Int)(es:List MapEntry)(h:∀e∈es,∃m,e.key=q.val m)(w:World):(Instr.findKey k (q.val n) es).run P w=.ok (rJ q n es 0) w:=by
 cases q with
 |int q=>
  unfold Instr.findKey
  have hk:P.underlying k=some (.int q):=hk
  simp only[KeyK.val,Sem.run_bind,run_underlying hk,Result.andThen_ok,AAR es 0 h,Sem.run_pure]
 |pair=>
  obtain⟨f,g,hu,_⟩:=zJ hk
  unfold Instr.findKey
  simp only[Sem.run_bind,run_underlying hu,Result.andThen_ok]
  cases es with
  |nil=>simp[Instr.findNow,rJ]
  |cons e es=>
   obtain⟨m,hm⟩:=h e (by simp)
   have:Instr.findNow (.struct #[f,g]) (KeyK.pair.val n) (e :: es) 0=none:=by
    unfold Instr.findNow;rw[hm];simp only[KeyK.val,Instr.sameNow]
   rw[this]
   exact wB hk n w _ 0 h
theorem AKG{n:Int}{q:KeyK}:∀(es:List MapEntry) (i:Nat),(∀e∈es,∃m,e.key=q.val m)->(∀e∈es,e.key≠q.val n)->rJ q n es i=none
 |[],_,_,_=>rfl
 |e :: es,i,h,hn=>by
  obtain⟨m,hm⟩:=h e (by simp)
  have h1:n≠m:=λhe=>hn e (by simp) (by rw[hm,he])
  unfold rJ
  rw[hm,bO]
  simp only[if_neg h1]
  exact AKG es (i+1) (λe he=>h e (by simp[he])) λe he=>hn e (by simp[he])
theorem AKT{n:Int}{q:KeyK}:∀(es:List MapEntry) (i:Nat),(∀e∈es,∃m,e.key=q.val m)->∀(j:Nat) (e:MapEntry),es[j]?=some e->e.key=q.val n->∃j' e',rJ q n es i=some (i+j',e'.val)/\es[j']?=some e'/\e'.key=q.val n
 |[],_,_,j,e,hj,_=>by simp at hj
 |a :: es,i,h,j,e,hj,hk=>by
  obtain⟨m,hm⟩:=h a (by simp)
  unfold rJ
  rw[hm,bO]
  by_cases h1:n=m
  ·subst h1
   exact⟨0,a,by simp,rfl,hm⟩
  ·simp only[if_neg h1]
   cases j with
   |zero=>simp at hj;subst hj;rw[hm] at hk;exact (h1 (KeyK.val_inj hk).symm).elim
   |succ j=>
    obtain⟨j',e',h2,h3,h4⟩:=AKT es (i+1) (λe he=>h e (by simp[he])) j e (by simpa using hj) hk
    exact⟨j'+1,e',by rw[h2];simp[Nat.add_assoc,Nat.add_comm 1],by simpa using h3,h4⟩
theorem AVI{q:KeyK}{es:Array MapEntry}(h:∀(i:Nat) (e:MapEntry),es[i]?=some e->∃m,e.key=q.val m){k:TypeId}(hk:keyT P q k)(n:Int)(w:World) :
  ((∀(i:Nat) (e:MapEntry),es[i]?=some e->e.key≠q.val n)->(Instr.findKey k (q.val n) es.toList).run P w=.ok none w) /\
  (∀(i:Nat) (e:MapEntry),es[i]?=some e->e.key=q.val n->∃i e,es[i]?=some e/\e.key=q.val n/\(Instr.findKey k (q.val n) es.toList).run P w=.ok (some (i,e.val)) w):=by
 have h':∀e∈es.toList,∃m,e.key=q.val m:=λe he=>by
  obtain⟨i,hi⟩:=List.mem_iff_getElem?.1 he
  rw[Array.getElem?_toList] at hi
  exact h i e hi
 refine⟨λhn=>?_,λi e hi hke=>?_⟩
 ·rw[ABJ hk n _ h' w,AKG es.toList 0 h' λe he=>?_]
  obtain⟨i,hi⟩:=List.mem_iff_getElem?.1 he
  rw[Array.getElem?_toList] at hi
  exact hn i e hi
 ·obtain⟨j,e',h1,h2,h3⟩:=AKT es.toList 0 h' i e (by simpa using hi) hke
  rw[Array.getElem?_toList] at h2
  exact⟨j,e',h2,h3,by rw[ABJ hk n _ h' w,h1];simp⟩
theorem MapIs.find{q:KeyK}{z:Value}{has:Int->Bool}{get:Int->DVal}{st:Int->Int}{es:Array MapEntry}{clock:Nat}(h:MapIs B q z has get st es clock){k:TypeId}(hk:keyT P q k)(n:Int)(w:World) :
  (has n=false/\(Instr.findKey k (q.val n) es.toList).run P w=.ok none w) ∨
  (has n=true/\∃i e,es[i]?=some e/\e.key=q.val n/\(e.born:Int)=st n/\DRel B (get n) e.val/\(Instr.findKey k (q.val n) es.toList).run P w=.ok (some (i,e.val)) w):=by
 have hg:=AVI (P:=P) (es:=es) (λi e hi=>by obtain⟨m,h1,_⟩:=h.keys i e hi;exact⟨m,h1⟩) hk n w
 cases hn:has n with
 |false=>
  refine .inl ⟨rfl,hg.1 λi e hi hke=>?_⟩
  obtain⟨m,h1,h2,_⟩:=h.keys i e hi
  rw[h1] at hke
  rw[KeyK.val_inj hke,hn] at h2;cases h2
 |true=>
  obtain⟨i,e,hi,hke⟩:=h.met n hn
  obtain⟨j,e',h1,h2,h3⟩:=hg.2 i e hi hke
  obtain⟨m,h4,h5,h6,h7,h8⟩:=h.keys j e' h1
  rw[h2] at h4
  cases KeyK.val_inj h4
  exact .inr ⟨rfl,j,e',h1,h2,h7,h8,h3⟩
theorem KMapIs.find{q:KeyK}{z:Value}{has:Int->Bool}{get:Int->DVal}{es:Array MapEntry}(h:KMapIs B q z has get es){k:TypeId}(hk:keyT P q k)(n:Int)(w:World) :
  (has n=false/\(Instr.findKey k (q.val n) es.toList).run P w=.ok none w) ∨
  (has n=true/\∃i e,es[i]?=some e/\e.key=q.val n/\DRel B (get n) e.val/\(Instr.findKey k (q.val n) es.toList).run P w=.ok (some (i,e.val)) w):=by
 have hg:=AVI (P:=P) (es:=es) (λi e hi=>by obtain⟨m,h1,_⟩:=h.keys i e hi;exact⟨m,h1⟩) hk n w
 cases hn:has n with
 |false=>
  refine .inl ⟨rfl,hg.1 λi e hi hke=>?_⟩
  obtain⟨m,h1,h2,_⟩:=h.keys i e hi
  rw[h1] at hke
  rw[KeyK.val_inj hke,hn] at h2;cases h2
 |true=>
  obtain⟨i,e,hi,hke⟩:=h.met n hn
  obtain⟨j,e',h1,h2,h3⟩:=hg.2 i e hi hke
  obtain⟨m,h4,h5,h8⟩:=h.keys j e' h1
  rw[h2] at h4
  cases KeyK.val_inj h4
  exact .inr ⟨rfl,j,e',h1,h2,h8,h3⟩
theorem D7{p:Prop}{r:List Prop}:CR (p :: r)↔p/\CR r:=by
 cases r with
 |nil=>simp[CR]
 |cons q r=>rfl
theorem KU{r:Nat}{es:Array MapEntry}{clock:Nat}(h:w.heap[r]?=some (.map es clock)):(getObj r).run P w=.ok (.map es clock) w:=by simp[getObj,Sem.run,h]
theorem WP{r:Nat}{es:Array MapEntry}{clock:Nat}(o:Obj)(h:w.heap[r]?=some (.map es clock)):(setObj r o).run P w=.ok () (w.putObj r o):=by simp[setObj,Sem.run,h,World.putObj]
theorem Moved.turn(h:HRel B ι H w){id:Nat}{o0 o:AObj}(hid:H id=.live o0){x:Obj}(ho:ORel B ι (GN H id (.live o)).dom (ι id).cap o (some x)):Moved B ι H w B ι (GN H id (.live o)) (w.putObj (ι id).b x):=by
 have hlt:=Nw h hid
 have dm:∀i,H.dom i->(GN H id (.live o)).dom i/\ι i=ι i:=λi hi=>⟨by
  unfold Heap.dom GN;split
  ·simp
  ·exact hi,rfl⟩
 have live:∀i o2,GN H id (.live o) i=.live o2->(i=id/\o2=o)∨(i≠id/\H i=.live o2):=λi o2 hi=>by
  by_cases hii:i=id
  ·subst hii;rw[KN] at hi;cases hi;exact .inl ⟨rfl,rfl⟩
  ·rw[KH _ _ hii] at hi;exact .inr ⟨hii,hi⟩
 have old:∀i o2,GN H id (.live o) i=.live o2->∃o3,H i=.live o3:=λi o2 hi=>by
  rcases live i o2 hi with⟨rfl,rfl⟩ | ⟨_,h2⟩
  ·exact⟨_,hid⟩
  ·exact⟨_,h2⟩
 have oth:∀b,b≠(ι id).b->(w.putObj (ι id).b x).heap[b]?=w.heap[b]?:=λb hb=>World.putObj_heap_other hb
 refine⟨λ_ _ h=>h,λ_ _ h=>.inl h,dm,⟨λi o2 hi=>?_,λi j o1 o2 hi hj hij=>?_,λi o2 hi=>?_,λb c hb=>?_⟩,λi o2 hi=>?_,λb hb hno=>oth b (λhe=>hno id _ hid he.symm),by rw[World.putObj_size];exact Nat.le_refl _,⟨rfl,rfl,rfl⟩⟩
 ·rcases live i o2 hi with⟨rfl,rfl⟩ | ⟨h1,h2⟩
  ·rw[World.putObj_heap_same hlt];exact ho
  ·rw[oth _ (λhe=>h1 (h.inj _ _ _ _ h2 hid he))]
   exact (h.obj i o2 h2).mono (λ_ _ h=>h) dm
 ·obtain⟨_,h1⟩:=old i o1 hi
  obtain⟨_,h2⟩:=old j o2 hj
  exact h.inj _ _ _ _ h1 h2 hij
 ·obtain⟨_,h1⟩:=old i o2 hi
  exact h.sep _ _ h1
 ·have:b≠(ι id).b:=λhe=>by rw[he,h.sep id _ hid] at hb;cases hb
  rw[oth b this];exact h.imm b c hb
 ·obtain⟨o3,h1⟩:=old i o2 hi
  exact .inl ⟨i,o3,h1,rfl⟩
def AFJ(P:Program)(mt:Bool)(r:Nat)(t:TypeId):Option Eff:=match rL P t with
 |some (q,z)=>bif mt then some ⟨.mref r,[(r,.live (.kmap q z (λ_=>false) λ_=>ofV z))],[]⟩ else some ⟨.mref r,[(r,.live (.imap q z (λ_=>false) (λ_=>ofV z) (λ_=>0) none))],[]⟩
 |none=>none
theorem AGG{mt:Bool}{r:Nat}{t:TypeId}{e:Eff}(h:AFJ P mt r t=some e)(hr:H r=.none)(hH:HRel B ι H w):∃y w',(Instr.makeMap t none).run P w=.ok y w'/\RY B ι H w (GA H e.upd) e.val y w':=by
 unfold AFJ at h
 split at h
 ·rename_i q z hm
  cases mt with
  |true=>
   cases h
   refine⟨.map (some w.heap.size),w.alloc (.map #[] 0),by simp[Instr.makeMap],B,_,Moved.new hH hr (q:=0) (.kmap ⟨λi e he=>by simp at he,λn _=>oF z,λn hn=>by simp at hn,λi j e e' he=>by simp at he⟩),?_⟩
   have:=VRel.mref (B:=B) (ι:=Wj ι r ⟨w.heap.size,0⟩) (D:=(GN H r (.live (.kmap q z (λ_=>false) λ_=>ofV z))).dom) (id:=r) (by unfold Heap.dom;rw[KN];simp)
   rw[GW] at this
   exact this
  |false=>
   cases h
   refine⟨.map (some w.heap.size),w.alloc (.map #[] 0),by simp[Instr.makeMap],B,_,Moved.new hH hr (q:=0) (.imap ⟨λi e he=>by simp at he,λn _=>⟨oF z,rfl⟩,λn hn=>by simp at hn,λi j e e' he=>by simp at he⟩),?_⟩
   have:=VRel.mref (B:=B) (ι:=Wj ι r ⟨w.heap.size,0⟩) (D:=(GN H r (.live (.imap q z (λ_=>false) (λ_=>ofV z) (λ_=>0) none))).dom) (id:=r) (by unfold Heap.dom;rw[KN];simp)
   rw[GW] at this
   exact this
 ·cases h
def gS(H:Heap):AVal->Option (Nat×KeyK×Value×(Int->Bool)×(Int->DVal)×(Int->Int)×Option Int)
 | .mref id=>match H id with
  | .live (.imap q z has get st pend)=>some (id,q,z,has,get,st,pend)
  |_=>none
 |_=>none
theorem eS{m:AVal}{v:Value}{id:Nat}{q:KeyK}{z:Value}{has:Int->Bool}{get:Int->DVal}{st:Int->Int}{pend:Option Int}(h:gS H m=some (id,q,z,has,get,st,pend))(hv:VRel B ι H.dom m v)(hH:HRel B ι H w) :
  H id=.live (.imap q z has get st pend)/\v=.map (some (ι id).b)/\∃es clock,w.heap[(ι id).b]?=some (.map es clock)/\MapIs B q z has get st es clock:=by
 unfold gS at h
 split at h
 ·rename_i id'
  split at h
  ·rename_i q' z' has' get' st' pend' hid
   cases h
   cases hv
   have ho:=hH.obj _ _ hid
   generalize hq:w.heap[(ι id).b]?=x at ho
   cases ho with
   |imap hm=>exact⟨hid,rfl,_,_,rfl,hm⟩
  ·cases h
 ·cases h
def Vj(H:Heap):AVal->Option (Nat×KeyK×Value×(Int->Bool)×(Int->DVal))
 | .mref id=>match H id with
  | .live (.kmap q z has get)=>some (id,q,z,has,get)
  |_=>none
 |_=>none
theorem Wa{m:AVal}{v:Value}{id:Nat}{q:KeyK}{z:Value}{has:Int->Bool}{get:Int->DVal}(h:Vj H m=some (id,q,z,has,get))(hv:VRel B ι H.dom m v)(hH:HRel B ι H w) :
  H id=.live (.kmap q z has get)/\v=.map (some (ι id).b)/\∃es clock,w.heap[(ι id).b]?=some (.map es clock)/\KMapIs B q z has get es:=by
 unfold Vj at h
 split at h
 ·rename_i id'
  split at h
  ·rename_i q' z' has' get' hid
   cases h
   cases hv
   have ho:=hH.obj _ _ hid
   generalize hq:w.heap[(ι id).b]?=x at ho
   cases ho with
   |kmap hm=>exact⟨hid,rfl,_,_,rfl,hm⟩
  ·cases h
 ·cases h
def cH(H:Heap)(m:AVal):Option (KeyK×Value×(Int->Bool)×(Int->DVal)):=match gS H m with
 |some (_,q,z,has,get,_,_)=>some (q,z,has,get)
 |none=>match Vj H m with
  |some (_,q,z,has,get)=>some (q,z,has,get)
  |none=>none
theorem Z9{m:AVal}{v:Value}{q:KeyK}{z:Value}{has:Int->Bool}{get:Int->DVal}(h:cH H m=some (q,z,has,get))(hv:VRel B ι H.dom m v)(hH:HRel B ι H w) :
  ∃b es clock,v=.map (some b)/\w.heap[b]?=some (.map es clock)/\∀{k:TypeId} (_:keyT P q k) (n:Int),
   (has n=false/\DRel B (get n) z/\(Instr.findKey k (q.val n) es.toList).run P w=.ok none w) ∨
   (has n=true/\∃i e,es[i]?=some e/\DRel B (get n) e.val/\(Instr.findKey k (q.val n) es.toList).run P w=.ok (some (i,e.val)) w):=by
 unfold cH at h
 split at h
 ·rename_i id q' z' has' get' st pend hm
  cases h
  obtain⟨hid,rfl,es,clock,hb,hM⟩:=eS hm hv hH
  refine⟨_,es,clock,rfl,hb,λhk n=>?_⟩
  rcases hM.find hk n w with⟨h1,h2⟩ | ⟨h1,i,en,h3,_,_,h5,h6⟩
  ·exact .inl ⟨h1,(hM.miss n h1).1,h2⟩
  ·exact .inr ⟨h1,i,en,h3,h5,h6⟩
 ·split at h
  ·rename_i id q' z' has' get' hm
   cases h
   obtain⟨hid,rfl,es,clock,hb,hM⟩:=Wa hm hv hH
   refine⟨_,es,clock,rfl,hb,λhk n=>?_⟩
   rcases hM.find hk n w with⟨h1,h2⟩ | ⟨h1,i,en,h3,_,h5,h6⟩
   ·exact .inl ⟨h1,hM.miss n h1,h2⟩
   ·exact .inr ⟨h1,i,en,h3,h5,h6⟩
  ·cases h
def keyA(q:KeyK)(a:AVal):Option (Int×List Prop):=match q with
 | .int q=>match a with
  | .d (.v (.int k n))=>if k=q then some (n,[]) else none
  |_=>none
 | .pair=>match a with
  | .d (.agg [.v (.int .i64 a),.v (.int .i64 b)])=>some (a*4294967296+b,[0<=b,b<4294967296])
  |_=>none
theorem Ur{q:KeyK}{a:AVal}{n:Int}{pre:List Prop}{v:Value}(h:keyA q a=some (n,pre))(hp:CR pre)(hv:VRel B ι D a v):v=q.val n:=by
 unfold keyA at h
 split at h
 ·split at h
  ·split at h
   ·rename_i hk;subst hk;cases h;cases hv.d_inv;rfl
   ·cases h
  ·cases h
 ·split at h
  ·rename_i a b
   cases h
   obtain⟨h1,h2⟩:0<=b/\b<4294967296:=hp
   cases hv.d_inv with
   |agg hl hr=>
    rename_i ys
    obtain⟨y0,y1,rfl⟩:∃y0 y1,ys=#[y0,y1]:=by
     match ys,hl with
     |⟨[y0,y1]⟩,_=>exact⟨y0,y1,rfl⟩
    have e0:=hr 0 _ y0 rfl rfl
    have e1:=hr 1 _ y1 rfl rfl
    cases e0;cases e1
    simp only[KeyK.val,Value.agg.injEq,Array.mk.injEq,List.cons.injEq,Value.int.injEq,true_and,and_true]
    omega
  ·cases h
def hP(P:Program)(H:Heap)(t:TypeId)(m ix:AVal)(ok:Bool):Option (AVal×List Prop):=match rL P t,cH H m with
 |some (q,z),some (q',z',has,get)=>match keyA q ix with
  |some (n,p)=>if q=q' then some (if ok then .d (.tup [get n,.bool (has n)]) else .d (get n),(z=z') :: p) else none
  |none=>none
 |_,_=>none
theorem ALR{t:TypeId}{m ix x:AVal}{ok:Bool}{vm vi:Value}{pre:List Prop}(h:hP P H t m ix ok=some (x,pre))(hp:CR pre)(hvm:VRel B ι H.dom m vm)(hvi:VRel B ι H.dom ix vi)(hH:HRel B ι H w) :
  ∃y,(Instr.lookup t vm vi ok).run P w=.ok y w/\VRel B ι H.dom x y:=by
 unfold hP at h
 split at h
 case h_2=>cases h
 rename_i q z q' z' has get ht hm
 split at h
 case h_2=>cases h
 rename_i n p hn
 split at h
 case isFalse=>cases h
 rename_i hq
 subst hq
 cases h
 obtain⟨hp,hp2⟩:=D7.1 hp
 subst hp
 obtain⟨k,e,hu,hk,hz⟩:=Gr ht
 obtain⟨b,es,clock,rfl,hb,hM⟩:=Z9 (P:=P) hm hvm hH
 have:=Ur hn hp2 hvi;subst this
 have fin:∀(v:Value) (b:Bool),DRel B (get n) v->has n=b->VRel B ι H.dom (if ok then .d (.tup [get n,.bool (has n)]) else .d (get n)) (if ok then .tuple #[v,.bool b] else v):=λv b hv hb=>by
  cases ok with
  |false=>exact .d hv
  |true=>
   refine .d (.tup rfl λj x y hx hy=>?_)
   match j with
   |0=>simp at hx hy;subst hx;subst hy;exact hv
   |1=>simp at hx hy;subst hx;subst hy;rw[hb];exact .v _
   |j+2=>simp at hx
 rcases hM hk n with⟨h1,h0,h2⟩ | ⟨h1,i,en,_,h5,h6⟩
 ·refine⟨_,?_,fin z false h0 h1⟩
  unfold Instr.lookup
  simp only[Sem.run_bind,run_underlying hu,Result.andThen_ok,KU hb,Sem.run_pure,LW hk _ _ _ 10000 (by omega),h2,hz w]
 ·refine⟨_,?_,fin en.val true h5 h1⟩
  unfold Instr.lookup
  simp only[Sem.run_bind,run_underlying hu,Result.andThen_ok,KU hb,Sem.run_pure,LW hk _ _ _ 10000 (by omega),h6]
def BRA(P:Program)(H:Heap)(t:TypeId)(m ix:AVal):Option (Bool×DVal×Value×List Prop):=match rL P t,cH H m with
 |some (q,z),some (q',z',has,get)=>match keyA q ix with
  |some (n,p)=>if q=q' then some (has n,get n,z,(z=z') :: p) else none
  |none=>none
 |_,_=>none
theorem AXW{t:TypeId}{m ix:AVal}{b:Bool}{d:DVal}{z:Value}{vm vi:Value}{pre:List Prop}(h:BRA P H t m ix=some (b,d,z,pre))(hp:CR pre)(hvm:VRel B ι H.dom m vm)(hvi:VRel B ι H.dom ix vi)(hH:HRel B ι H w) :
  ∃v,(Instr.lookup t vm vi true).run P w=.ok (.tuple #[v,.bool b]) w/\(b=true->DRel B d v)/\(b=false->v=z):=by
 unfold BRA at h
 split at h
 case h_2=>cases h
 rename_i q z q' z' has get ht hm
 split at h
 case h_2=>cases h
 rename_i n p hn
 split at h
 case isFalse=>cases h
 rename_i hq
 subst hq
 cases h
 obtain⟨hp,hp2⟩:=D7.1 hp
 subst hp
 obtain⟨k,e,hu,hk,hz⟩:=Gr ht
 obtain⟨b,es,clock,rfl,hb,hM⟩:=Z9 (P:=P) hm hvm hH
 have:=Ur hn hp2 hvi;subst this
 rcases hM hk n with⟨h1,_,h2⟩ | ⟨h1,i,en,_,h5,h6⟩
 ·rw[h1]
  refine⟨z,?_,(λh=>by cases h),λ_=>rfl⟩
  unfold Instr.lookup
  simp only[Sem.run_bind,run_underlying hu,Result.andThen_ok,KU hb,Sem.run_pure,LW hk _ _ _ 10000 (by omega),h2,hz w]
  rfl
 ·rw[h1]
  refine⟨en.val,?_,λ_=>h5,λh=>by cases h⟩
  unfold Instr.lookup
  simp only[Sem.run_bind,run_underlying hu,Result.andThen_ok,KU hb,Sem.run_pure,LW hk _ _ _ 10000 (by omega),h6]
  rfl
theorem AUU(j:IntKind)(a:Int):∀n:Nat,Instr.sameBits n (.int j a) (.int j a)=true
 |0=>by simp[Instr.sameBits]
 |n+1=>by simp[Instr.sameBits]
theorem nJ(q:KeyK)(n:Int)(w:World):(Instr.keyThatStays (q.val n) (q.val n)).run P w=.ok (q.val n) w:=by
 have:Instr.sameBits 10000 (q.val n) (q.val n)=true:=by
  cases q with
  |int q=>exact AUU _ _ _
  |pair=>simp[KeyK.val,Instr.sameBits]
 simp[Instr.keyThatStays,this]
def tY(has:Int->Bool)(st:Int->Int)(n:Int):Int->Int:=λj=>bif has n then st j else bif (has j||decide (j=n)) then st j else st j+1
def QD(has:Int->Bool)(n:Int):Int->Bool:=λj=>decide (j=n)||has j
def rD(get:Int->DVal)(n:Int)(x:DVal):Int->DVal:=λj=>lN (decide (j=n)) x (get j)
theorem NP(get:Int->DVal)(n:Int)(x:DVal):rD get n x=λj=>bif decide (j=n) then x else get j:=by
 funext j;simp only[rD,VO]
theorem MapIs.push{q:KeyK}{z:Value}{has:Int->Bool}{get:Int->DVal}{st:Int->Int}{es:Array MapEntry}{clock:Nat}(h:MapIs B q z has get st es clock){n:Int}(hn:has n=false){x:DVal}{v:Value}(hx:DRel B x v) :
  MapIs B q z (QD has n) (rD get n x) (tY has st n) (es.push { key:=q.val n,val:=v,born:=clock }) (clock+1):=by
 have look:∀(i:Nat) (e:MapEntry),(es.push { key:=q.val n,val:=v,born:=clock })[i]?=some e->(i=es.size/\e={ key:=q.val n,val:=v,born:=clock })∨es[i]?=some e:=λi e he=>by
  rw[Array.getElem?_push] at he
  split at he
  ·rename_i hi;cases he;exact .inl ⟨hi,rfl⟩
  ·exact .inr he
 have ne:∀m,has m=true->m≠n:=λm hm he=>by rw[he,hn] at hm;cases hm
 refine⟨λi e he=>?_,λm hm=>?_,λm hm=>?_,λi j e e' hi hj hij=>?_⟩
 ·rcases look i e he with⟨_,rfl⟩ | he
  ·exact⟨n,rfl,by simp[QD],Nat.lt_succ_self _,by simp[tY,hn,(h.miss n hn).2],by simpa[NP] using hx⟩
  ·obtain⟨m,h1,h2,h3,h4,h5⟩:=h.keys i e he
   exact⟨m,h1,by simp[QD,h2],by omega,by simp[tY,hn,h2,h4],by simpa[NP,ne m h2] using h5⟩
 ·simp only[QD,Bool.or_eq_false_iff,decide_eq_false_iff_not] at hm
  obtain⟨h1,h2⟩:=h.miss m hm.2
  exact⟨by simpa[NP,hm.1] using h1,by simp[tY,hn,hm.2,hm.1,h2]⟩
 ·by_cases hmn:m=n
  ·subst hmn;exact⟨es.size,{ key:=q.val m,val:=v,born:=clock },by simp,rfl⟩
  ·simp only[QD,hmn,decide_false,Bool.false_or] at hm
   obtain⟨i,e,hi,hk⟩:=h.met m hm
   exact⟨i,e,by rw[Array.getElem?_push,if_neg (by have:=(Array.getElem?_eq_some_iff.1 hi).1;omega)];exact hi,hk⟩
 ·rcases look i e hi with⟨hi1,rfl⟩ | hi1<;>rcases look j e' hj with⟨hj1,rfl⟩ | hj1
  ·omega
  ·exfalso
   obtain⟨m,h1,h2,h3,_⟩:=h.keys j e' hj1
   rcases hij with hij | hij
   ·rw[h1] at hij;exact ne m h2 (KeyK.val_inj hij).symm
   ·simp only at hij;omega
  ·exfalso
   obtain⟨m,h1,h2,h3,_⟩:=h.keys i e hi1
   rcases hij with hij | hij
   ·rw[h1] at hij;exact ne m h2 (KeyK.val_inj hij)
   ·simp only at hij;omega
  ·exact h.once i j e e' hi1 hj1 hij
theorem MapIs.modify{q:KeyK}{z:Value}{has:Int->Bool}{get:Int->DVal}{st:Int->Int}{es:Array MapEntry}{clock:Nat}(h:MapIs B q z has get st es clock){n:Int}{i:Nat}{e0:MapEntry}(hi:es[i]?=some e0)(hk:e0.key=q.val n)(hn:has n=true){x:DVal}{v:Value}(hx:DRel B x v) :
  MapIs B q z (QD has n) (rD get n x) (tY has st n) (es.modify i λe=>{ e with key:=q.val n,val:=v }) clock:=by
 have look:∀(j:Nat) (e:MapEntry),(es.modify i λe=>{ e with key:=q.val n,val:=v })[j]?=some e->(j=i/\e={ e0 with key:=q.val n,val:=v })∨(j≠i/\es[j]?=some e):=λj e he=>by
  rw[Array.getElem?_modify] at he
  split at he
  ·rename_i hij;subst hij;rw[hi] at he;simp at he;exact .inl ⟨rfl,he.symm⟩
  ·rename_i hij;exact .inr ⟨Ne.symm hij,he⟩
 have hasE:∀m,QD has n m=has m:=λm=>by
  by_cases hm:m=n
  ·subst hm;simp[QD,hn]
  ·simp[QD,hm]
 have stE:∀m,tY has st n m=st m:=λm=>by simp[tY,hn]
 obtain⟨m0,a1,a2,a3,a4,_⟩:=h.keys i e0 hi
 rw[hk] at a1;cases KeyK.val_inj a1
 have same:∀(j:Nat) (e:MapEntry),es[j]?=some e->e.key=q.val n->j=i:=λj e hj hke=>h.once j i e e0 hj hi (.inl (by rw[hke,hk]))
 refine⟨λj e he=>?_,λm hm=>?_,λm hm=>?_,λj l e e' hj hl hjl=>?_⟩
 ·rcases look j e he with⟨_,rfl⟩ | ⟨hj,he⟩
  ·exact⟨n,rfl,by rw[hasE];exact hn,a3,by rw[stE];exact a4,by simpa[NP] using hx⟩
  ·obtain⟨m,h1,h2,h3,h4,h5⟩:=h.keys j e he
   have hmn:m≠n:=λhmn=>hj (same j e he (by rw[h1,hmn]))
   exact⟨m,h1,by rw[hasE];exact h2,h3,by rw[stE];exact h4,by simpa[NP,hmn] using h5⟩
 ·rw[hasE] at hm
  obtain⟨h1,h2⟩:=h.miss m hm
  have hmn:m≠n:=λhe=>by rw[he,hn] at hm;cases hm
  exact⟨by simpa[NP,hmn] using h1,by rw[stE];exact h2⟩
 ·rw[hasE] at hm
  obtain⟨j,e,hj,hke⟩:=h.met m hm
  by_cases hji:j=i
  ·subst hji
   rw[hi] at hj;cases hj
   rw[hk] at hke;cases KeyK.val_inj hke
   exact⟨j,_,by rw[Array.getElem?_modify,if_pos rfl,hi];rfl,rfl⟩
  ·exact⟨j,e,by rw[Array.getElem?_modify,if_neg (Ne.symm hji)];exact hj,hke⟩
 ·rcases look j e hj with⟨hj1,rfl⟩ | ⟨hj1,hj2⟩<;>rcases look l e' hl with⟨hl1,rfl⟩ | ⟨hl1,hl2⟩
  ·omega
  ·exact absurd (h.once i l e0 e' hi hl2 (by rw[hk];exact hjl)).symm hl1
  ·exact absurd (h.once j i e e0 hj2 hi (by rw[hk];exact hjl)) hj1
  ·exact h.once j l e e' hj2 hl2 hjl
theorem MapIs.store{q:KeyK}{z:Value}{has:Int->Bool}{get:Int->DVal}{st:Int->Int}{es:Array MapEntry}{clock:Nat}(h:MapIs B q z has get st es clock){n:Int}{i:Nat}{e0:MapEntry}(hi:es[i]?=some e0)(hk:e0.key=q.val n){x:DVal}{v:Value}(hx:DRel B x v) :
  MapIs B q z has (rD get n x) st (es.modify i λe=>{ e with val:=v }) clock:=by
 obtain⟨m0,a1,hn,_⟩:=h.keys i e0 hi
 rw[hk] at a1;cases KeyK.val_inj a1
 have h1:=h.modify hi hk hn hx
 have e1:(es.modify i λe=>{ e with key:=q.val n,val:=v })=es.modify i λe=>{ e with val:=v }:=by
  apply Array.ext_getElem?
  intro j
  rw[Array.getElem?_modify,Array.getElem?_modify]
  split
  ·rename_i hij;subst hij;rw[hi];simp only[Option.map_some,Option.some.injEq];rw[<-hk]
  ·rfl
 have e2:QD has n=has:=by
  funext m
  by_cases hm:m=n
  ·subst hm;simp[QD,hn]
  ·simp[QD,hm]
 have e3:tY has st n=st:=by funext m;simp[tY,hn]
 rw[e1,e2,e3] at h1
 exact h1
theorem KMapIs.push{q:KeyK}{z:Value}{has:Int->Bool}{get:Int->DVal}{es:Array MapEntry}(clock:Nat)(h:KMapIs B q z has get es){n:Int}(hn:has n=false){x:DVal}{v:Value}(hx:DRel B x v) :
  KMapIs B q z (QD has n) (rD get n x) (es.push { key:=q.val n,val:=v,born:=clock }):=by
 have look:∀(i:Nat) (e:MapEntry),(es.push { key:=q.val n,val:=v,born:=clock })[i]?=some e->(i=es.size/\e={ key:=q.val n,val:=v,born:=clock })∨es[i]?=some e:=λi e he=>by
  rw[Array.getElem?_push] at he
  split at he
  ·rename_i hi;cases he;exact .inl ⟨hi,rfl⟩
  ·exact .inr he
 have ne:∀m,has m=true->m≠n:=λm hm he=>by rw[he,hn] at hm;cases hm
 refine⟨λi e he=>?_,λm hm=>?_,λm hm=>?_,λi j e e' hi hj hij=>?_⟩
 ·rcases look i e he with⟨_,rfl⟩ | he
  ·exact⟨n,rfl,by simp[QD],by simpa[NP] using hx⟩
  ·obtain⟨m,h1,h2,h5⟩:=h.keys i e he
   exact⟨m,h1,by simp[QD,h2],by simpa[NP,ne m h2] using h5⟩
 ·simp only[QD,Bool.or_eq_false_iff,decide_eq_false_iff_not] at hm
  have h1:=h.miss m hm.2
  simpa[NP,hm.1] using h1
 ·by_cases hmn:m=n
  ·subst hmn;exact⟨es.size,{ key:=q.val m,val:=v,born:=clock },by simp,rfl⟩
  ·simp only[QD,hmn,decide_false,Bool.false_or] at hm
   obtain⟨i,e,hi,hk⟩:=h.met m hm
   exact⟨i,e,by rw[Array.getElem?_push,if_neg (by have:=(Array.getElem?_eq_some_iff.1 hi).1;omega)];exact hi,hk⟩
 ·rcases look i e hi with⟨hi1,rfl⟩ | hi1<;>rcases look j e' hj with⟨hj1,rfl⟩ | hj1
  ·omega
  ·exfalso
   obtain⟨m,h1,h2,_⟩:=h.keys j e' hj1
   rw[h1] at hij;exact ne m h2 (KeyK.val_inj hij).symm
  ·exfalso
   obtain⟨m,h1,h2,_⟩:=h.keys i e hi1
   rw[h1] at hij;exact ne m h2 (KeyK.val_inj hij)
  ·exact h.once i j e e' hi1 hj1 hij
theorem KMapIs.modify{q:KeyK}{z:Value}{has:Int->Bool}{get:Int->DVal}{es:Array MapEntry}(h:KMapIs B q z has get es){n:Int}{i:Nat}{e0:MapEntry}(hi:es[i]?=some e0)(hk:e0.key=q.val n)(hn:has n=true){x:DVal}{v:Value}(hx:DRel B x v) :
  KMapIs B q z (QD has n) (rD get n x) (es.modify i λe=>{ e with key:=q.val n,val:=v }):=by
 have look:∀(j:Nat) (e:MapEntry),(es.modify i λe=>{ e with key:=q.val n,val:=v })[j]?=some e->(j=i/\e={ e0 with key:=q.val n,val:=v })∨(j≠i/\es[j]?=some e):=λj e he=>by
  rw[Array.getElem?_modify] at he
  split at he
  ·rename_i hij;subst hij;rw[hi] at he;simp at he;exact .inl ⟨rfl,he.symm⟩
  ·rename_i hij;exact .inr ⟨Ne.symm hij,he⟩
 have hasE:∀m,QD has n m=has m:=λm=>by
  by_cases hm:m=n
  ·subst hm;simp[QD,hn]
  ·simp[QD,hm]
 have same:∀(j:Nat) (e:MapEntry),es[j]?=some e->e.key=q.val n->j=i:=λj e hj hke=>h.once j i e e0 hj hi (by rw[hke,hk])
 refine⟨λj e he=>?_,λm hm=>?_,λm hm=>?_,λj l e e' hj hl hjl=>?_⟩
 ·rcases look j e he with⟨_,rfl⟩ | ⟨hj,he⟩
  ·exact⟨n,rfl,by rw[hasE];exact hn,by simpa[NP] using hx⟩
  ·obtain⟨m,h1,h2,h5⟩:=h.keys j e he
   have hmn:m≠n:=λhmn=>hj (same j e he (by rw[h1,hmn]))
   exact⟨m,h1,by rw[hasE];exact h2,by simpa[NP,hmn] using h5⟩
 ·rw[hasE] at hm
  have h1:=h.miss m hm
  have hmn:m≠n:=λhe=>by rw[he,hn] at hm;cases hm
  simpa[NP,hmn] using h1
 ·rw[hasE] at hm
  obtain⟨j,e,hj,hke⟩:=h.met m hm
  by_cases hji:j=i
  ·subst hji
   rw[hi] at hj;cases hj
   rw[hk] at hke;cases KeyK.val_inj hke
   exact⟨j,_,by rw[Array.getElem?_modify,if_pos rfl,hi];rfl,rfl⟩
  ·exact⟨j,e,by rw[Array.getElem?_modify,if_neg (Ne.symm hji)];exact hj,hke⟩
 ·rcases look j e hj with⟨hj1,rfl⟩ | ⟨hj1,hj2⟩<;>rcases look l e' hl with⟨hl1,rfl⟩ | ⟨hl1,hl2⟩
  ·omega
  ·exact absurd (h.once i l e0 e' hi hl2 (by rw[hk];exact hjl)).symm hl1
  ·exact absurd (h.once j i e e0 hj2 hi (by rw[hk];exact hjl)) hj1
  ·exact h.once j l e e' hj2 hl2 hjl
def wR(P:Program)(H:Heap)(t:TypeId)(m k v:AVal):Option Eff:=match rL P t,v with
 |some (q,_),.d x=>match gS H m with
  |some (id,q',z,has,get,st,none)=>match keyA q k with
   |some (n,p)=>if q=q' then some ⟨.d (.v undef),[(id,.live (.imap q z (QD has n) (rD get n x) (tY has st n) none))],p⟩ else none
   |none=>none
  |some _=>none
  |none=>match Vj H m with
   |some (id,q',z,has,get)=>match keyA q k with
    |some (n,p)=>if q=q' then some ⟨.d (.v undef),[(id,.live (.kmap q z (QD has n) (rD get n x)))],p⟩ else none
    |none=>none
   |none=>none
 |_,_=>none
theorem yH{t:TypeId}{m k v:AVal}{vm vk vv:Value}{e:Eff}(h:wR P H t m k v=some e)(hp:CR e.pre)(hH:HRel B ι H w)(hm:VRel B ι H.dom m vm)(hk:VRel B ι H.dom k vk)(hv:VRel B ι H.dom v vv) :
  ∃w',(Instr.mapUpdate t vm vk vv).run P w=.ok () w'/\RY B ι H w (GA H e.upd) e.val undef w':=by
 unfold wR at h
 split at h
 case h_2=>cases h
 rename_i q z0 x ht
 obtain⟨kt,el,hu,hkt,_⟩:=Gr ht
 split at h
 ·rename_i id q' z has get st hma
  split at h
  case h_2=>cases h
  rename_i n p hn
  split at h
  case isFalse=>cases h
  rename_i hq
  subst hq
  cases h
  obtain⟨hid,rfl,es,clock,hb,hM⟩:=eS hma hm hH
  have:=Ur hn hp hk;subst this
  rcases hM.find hkt n w with⟨h1,h2⟩ | ⟨h1,i,en,h3,h4,_,_,h6⟩
  ·refine⟨_,?_,B,ι,Moved.turn hH hid (.imap (hM.push h1 hv.d_inv)),.d (.v _)⟩
   unfold Instr.mapUpdate
   simp only[Sem.run_bind,run_underlying hu,Result.andThen_ok,KU hb,LW hkt _ _ _ 10000 (by omega),h2,WP _ hb]
  ·refine⟨_,?_,B,ι,Moved.turn hH hid (.imap (hM.modify h3 h4 h1 hv.d_inv)),.d (.v _)⟩
   unfold Instr.mapUpdate
   simp only[Sem.run_bind,run_underlying hu,Result.andThen_ok,KU hb,LW hkt _ _ _ 10000 (by omega),h6,h3,Option.map_some,Option.getD_some,h4,nJ,WP _ hb]
 ·cases h
 ·split at h
  case h_2=>cases h
  rename_i id q' z has get hma
  split at h
  case h_2=>cases h
  rename_i n p hn
  split at h
  case isFalse=>cases h
  rename_i hq
  subst hq
  cases h
  obtain⟨hid,rfl,es,clock,hb,hM⟩:=Wa hma hm hH
  have:=Ur hn hp hk;subst this
  rcases hM.find hkt n w with⟨h1,h2⟩ | ⟨h1,i,en,h3,h4,_,h6⟩
  ·refine⟨_,?_,B,ι,Moved.turn hH hid (.kmap (clock:=clock+1) (hM.push clock h1 hv.d_inv)),.d (.v _)⟩
   unfold Instr.mapUpdate
   simp only[Sem.run_bind,run_underlying hu,Result.andThen_ok,KU hb,LW hkt _ _ _ 10000 (by omega),h2,WP _ hb]
  ·refine⟨_,?_,B,ι,Moved.turn hH hid (.kmap (clock:=clock) (hM.modify h3 h4 h1 hv.d_inv)),.d (.v _)⟩
   unfold Instr.mapUpdate
   simp only[Sem.run_bind,run_underlying hu,Result.andThen_ok,KU hb,LW hkt _ _ _ 10000 (by omega),h6,h3,Option.map_some,Option.getD_some,h4,nJ,WP _ hb]
def D6(P:Program)(H:Heap)(t:TypeId)(m k:AVal):Option Eff:=match rL P t,gS H m with
 |some (q,z0),some (id,q',z,has,get,st,none)=>match keyA q k with
  |some (n,p)=>if q=q' then some ⟨.d (.tup [get n,.int (st n)]),[(id,.live (.imap q z (QD has n) get (tY has st n) (some n)))],(z0=z) :: p⟩ else none
  |none=>none
 |_,_=>none
theorem AXS(get:Int->DVal)(n:Int):rD get n (get n)=get:=by
 rw[NP];funext j
 by_cases h:j=n
 ·subst h;simp
 ·simp[h]
theorem ATW{t:TypeId}{m k:AVal}{vm vk:Value}{e:Eff}(h:D6 P H t m k=some e)(hp:CR e.pre)(hH:HRel B ι H w)(hm:VRel B ι H.dom m vm)(hk:VRel B ι H.dom k vk) :
  ∃y w',(Instr.mapEntry t vm vk).run P w=.ok y w'/\RY B ι H w (GA H e.upd) e.val y w':=by
 unfold D6 at h
 split at h
 case h_2=>cases h
 rename_i q z0 id q' z has get st ht hma
 split at h
 case h_2=>cases h
 rename_i n p hn
 split at h
 case isFalse=>cases h
 rename_i hq
 subst hq
 cases h
 obtain⟨hp,hp2⟩:=D7.1 hp
 have hp:z0=z:=hp
 subst hp
 obtain⟨kt,el,hu,hkt,hz⟩:=Gr ht
 obtain⟨hid,rfl,es,clock,hb,hM⟩:=eS hma hm hH
 have:=Ur hn hp2 hk;subst this
 have pair:∀(v:Value) (s:Int),DRel B (get n) v->s=st n->DRel B (.tup [get n,.int (st n)]) (.tuple #[v,.int .i64 s]):=λv s hv hs=>.tup rfl λj x y hx hy=>by
  match j with
  |0=>simp at hx hy;subst hx;subst hy;exact hv
  |1=>simp at hx hy;subst hx;subst hy;rw[hs];exact .v _
  |j+2=>simp at hx
 rcases hM.find hkt n w with⟨h1,h2⟩ | ⟨h1,i,en,h3,h4,h5,h7,h6⟩
 ·refine⟨.tuple #[z0,goInt clock],_,?_,B,ι,Moved.turn hH hid (.imap (AXS get n ▸ hM.push h1 (hM.miss n h1).1)),.d (pair z0 clock (hM.miss n h1).1 (hM.miss n h1).2.symm)⟩
  unfold Instr.mapEntry
  simp only[Sem.run_bind,run_underlying hu,Result.andThen_ok,KU hb,LW hkt _ _ _ 10000 (by omega),h2,hz w,WP _ hb,Sem.run_pure]
 ·have e1:(es.modify i λe=>{ e with key:=q.val n })=es.modify i λe=>{ e with key:=q.val n,val:=en.val }:=by
   apply Array.ext_getElem?
   intro j
   rw[Array.getElem?_modify,Array.getElem?_modify]
   split
   ·rename_i hij;subst hij;rw[h3];rfl
   ·rfl
  refine⟨.tuple #[en.val,goInt en.born],_,?_,B,ι,Moved.turn hH hid (.imap (AXS get n ▸ hM.modify h3 h4 h1 h7)),.d (pair en.val en.born h7 h5)⟩
  unfold Instr.mapEntry
  simp only[Sem.run_bind,run_underlying hu,Result.andThen_ok,KU hb,LW hkt _ _ _ 10000 (by omega),h6,h3,Option.map_some,Option.getD_some,h4,nJ,WP _ hb,Sem.run_pure,e1]
def iA(H:Heap)(m s v:AVal):Option Eff:=match gS H m,s,v with
 |some (id,q,z,has,get,st,some n),.d (.v (.int _ j)),.d x=>some ⟨.d (.v undef),[(id,.live (.imap q z has (rD get n x) st none))],[has n=true,j=st n]⟩
 |_,_,_=>none
theorem D9{t:TypeId}{m s v:AVal}{vm vs vv:Value}{e:Eff}(h:iA H m s v=some e)(hp:CR e.pre)(hH:HRel B ι H w)(hm:VRel B ι H.dom m vm)(hs:VRel B ι H.dom s vs)(hv:VRel B ι H.dom v vv) :
  ∃w',(Instr.entryStore t vm vs vv).run P w=.ok () w'/\RY B ι H w (GA H e.upd) e.val undef w':=by
 unfold iA at h
 split at h
 case h_2=>cases h
 rename_i id q z has get st n k j x hma
 cases h
 obtain⟨p1,p2⟩:has n=true/\j=st n:=hp
 subst p2
 obtain⟨hid,rfl,es,clock,hb,hM⟩:=eS hma hm hH
 obtain rfl:vs=.int k (st n):=by cases hs.d_inv;rfl
 obtain⟨i,e0,hi,hke⟩:=hM.met n p1
 obtain⟨m0,a1,_,_,a4,_⟩:=hM.keys i e0 hi
 rw[hke] at a1;cases KeyK.val_inj a1
 have hfind:es.findIdx? (λe=>(e.born:Int)==st n)=some i:=by
  have hlt:=(Array.getElem?_eq_some_iff.1 hi).1
  have hei:es[i]=e0:=by have:=hi;rw[Array.getElem?_eq_getElem hlt] at this;simpa using this
  refine Array.findIdx?_eq_some_iff_getElem.2 ⟨hlt,by simp[hei,a4],λl hl=>?_⟩
  have hll:l<es.size:=by omega
  simp only[beq_iff_eq]
  intro he
  have:=hM.once l i es[l] e0 (by simp[hll]) hi (.inr (by rw[<-a4] at he;exact_mod_cast he))
  omega
 refine⟨_,?_,B,ι,Moved.turn hH hid (.imap (hM.store hi hke hv.d_inv)),.d (.v _)⟩
 unfold Instr.entryStore
 simp only[Sem.run_bind,Result.andThen_ok,KU hb,asInt,asIntOf,Sem.run_pure,hfind,WP _ hb]
def ARV(P:Program)(H:Heap)(t:TypeId)(m:AVal):Option Eff:=match rL P t,Vj H m with
 |some (q,z0),some (id,q',z,_,_)=>if q=q' then some ⟨.d (.v (.tuple #[])),[(id,.live (.kmap q z (λ_=>false) λ_=>ofV z))],[]⟩ else none
 |_,_=>none
theorem ARI{t ty:TypeId}{ats:Array TypeId}{m:AVal}{vm:Value}{e:Eff}(h:ARV P H t m=some e)(h0:ats[0]?=some t)(hH:HRel B ι H w)(hm:VRel B ι H.dom m vm) :
  ∃y w',(Builtin.clear_ ats ty #[vm]).run P w=.ok y w'/\RY B ι H w (GA H e.upd) e.val y w':=by
 unfold ARV at h
 split at h
 case h_2=>cases h
 rename_i q z0 id q' z has get ht hma
 split at h
 case isFalse=>cases h
 rename_i hq
 subst hq
 cases h
 obtain⟨kt,el,hu,hkt,_⟩:=Gr ht
 obtain⟨hid,rfl,es,clock,hb,hM⟩:=Wa hma hm hH
 refine⟨_,_,?_,B,ι,Moved.turn hH hid (.kmap (clock:=clock) (es:=#[]) ⟨λi e he=>by simp at he,λn _=>oF z,λn hn=>by simp at hn,λi j e e' he=>by simp at he⟩),.d (.v _)⟩
 unfold Builtin.clear_
 simp[h0,run_underlying hu,KU hb,WP _ hb]
def delA(P:Program)(H:Heap)(t:TypeId)(m k:AVal):Option Eff:=match rL P t,Vj H m with
 |some (q,z0),some (id,q',z,has,get)=>match keyA q k with
  |some (n,p)=>if q=q' then some ⟨.d (.v (.tuple #[])),[(id,.live (.kmap q z (λj=>!decide (j=n)&&has j) (rD get n (ofV z))))],p⟩ else none
  |none=>none
 |_,_=>none
theorem S5{es:Array MapEntry}{i:Nat}(hi:i<es.size)(j:Nat):(es.eraseIdxIfInBounds i)[j]?=if j<i then es[j]? else es[j+1]?:=by
 simp only[Array.eraseIdxIfInBounds,hi,dif_pos]
 rw[Array.getElem?_eraseIdx]
theorem AZZ{t ty:TypeId}{ats:Array TypeId}{m k:AVal}{vm vk:Value}{e:Eff}(h:delA P H t m k=some e)(hp:CR e.pre)(h0:ats[0]?=some t)(hH:HRel B ι H w)(hm:VRel B ι H.dom m vm)(hk:VRel B ι H.dom k vk) :
  ∃y w',(Builtin.delete_ ats ty #[vm,vk]).run P w=.ok y w'/\RY B ι H w (GA H e.upd) e.val y w':=by
 unfold delA at h
 split at h
 case h_2=>cases h
 rename_i q z0 id q' z has get ht hma
 split at h
 case h_2=>cases h
 rename_i n p hn
 split at h
 case isFalse=>cases h
 rename_i hq
 subst hq
 cases h
 obtain⟨kt,el,hu,hkt,_⟩:=Gr ht
 obtain⟨hid,rfl,es,clock,hb,hM⟩:=Wa hma hm hH
 have:=Ur hn hp hk;subst this
 rcases hM.find hkt n w with⟨h1,h2⟩ | ⟨h1,i,en,h3,h4,_,h6⟩
 ·refine⟨.tuple #[],_,?_,B,ι,Moved.turn hH hid (.kmap (clock:=clock) (es:=es) ⟨λi e he=>?_,λm hm=>?_,λm hm=>?_,hM.once⟩),.d (.v _)⟩
  ·unfold Builtin.delete_
   simp[h0,run_underlying hu,KU hb,WP _ hb,LW hkt _ _ _ 10000 (by omega),h2]
  ·obtain⟨m,a1,a2,a3⟩:=hM.keys i e he
   have hmn:m≠n:=λhe=>by rw[he,h1] at a2;cases a2
   exact⟨m,a1,by simp[hmn,a2],by simpa[NP,hmn] using a3⟩
  ·by_cases hmn:m=n
   ·subst hmn;simpa[NP] using oF z
   ·simp only[hmn,decide_false,Bool.not_false,Bool.true_and] at hm
    simpa[NP,hmn] using hM.miss m hm
  ·simp only[Bool.and_eq_true] at hm
   exact hM.met m hm.2
 ·have hlt:=(Array.getElem?_eq_some_iff.1 h3).1
  have look:∀(j:Nat) (e:MapEntry),(es.eraseIdxIfInBounds i)[j]?=some e->∃j',j'≠i/\es[j']?=some e/\j'=if j<i then j else j+1:=λj e he=>by
   rw[S5 hlt] at he
   split at he
   ·exact⟨j,by omega,he,by simp[*]⟩
   ·exact⟨j+1,by omega,he,by simp[*]⟩
  refine⟨.tuple #[],_,?_,B,ι,Moved.turn hH hid (.kmap (clock:=clock) (es:=es.eraseIdxIfInBounds i) ⟨λj e he=>?_,λm hm=>?_,λm hm=>?_,λa b e e' ha hb' hab=>?_⟩),.d (.v _)⟩
  ·unfold Builtin.delete_
   simp[h0,run_underlying hu,KU hb,WP _ hb,LW hkt _ _ _ 10000 (by omega),h6]
  ·obtain⟨j',hj,he,_⟩:=look j e he
   obtain⟨m,a1,a2,a3⟩:=hM.keys j' e he
   have hmn:m≠n:=λhmn=>hj (hM.once j' i e en he h3 (by rw[a1,h4,hmn]))
   exact⟨m,a1,by simp[hmn,a2],by simpa[NP,hmn] using a3⟩
  ·by_cases hmn:m=n
   ·subst hmn;simpa[NP] using oF z
   ·simp only[hmn,decide_false,Bool.not_false,Bool.true_and] at hm
    simpa[NP,hmn] using hM.miss m hm
  ·simp only[Bool.and_eq_true,Bool.not_eq_true',decide_eq_false_iff_not] at hm
   obtain⟨j,e,hj,hke⟩:=hM.met m hm.2
   have hji:j≠i:=λhji=>by
    subst hji;rw[h3] at hj;cases hj
    rw[h4] at hke;exact hm.1 (KeyK.val_inj hke).symm
   by_cases hl:j<i
   ·exact⟨j,e,by rw[S5 hlt,if_pos hl];exact hj,hke⟩
   ·exact⟨j-1,e,by rw[S5 hlt,if_neg (by omega),show j-1+1=j by omega];exact hj,hke⟩
  ·obtain⟨a',_,ha,ea⟩:=look a e ha
   obtain⟨b',_,hb,eb⟩:=look b e' hb'
   have:=hM.once a' b' e e' ha hb hab
   split at ea<;>split at eb<;>omega
def cntB(has:Int->Bool):Nat->Nat
 |0=>0
 |m+1=>cntB has m+bif has m then 1 else 0
theorem BLZ(has:Int->Bool)(m:Nat):cntB has m=(((List.range m).map λ(i:Nat)=>(i:Int)).filter has).length:=by
 induction m with
 |zero=>rfl
 |succ m ih=>
  rw[cntB,ih,List.range_succ,List.map_append,List.filter_append,List.length_append]
  cases h:has m<;>simp[h]
def AMK(P:Program)(H:Heap)(t:TypeId)(m:AVal):Option Eff:=match rL P t,Vj H m with
 |some (q,_),some (_,q',_,has,_)=>if q=q' then some ⟨.int (cntB has 64),[],[∀n,has n=true->0<=n/\n<64]⟩ else none
 |_,_=>none
theorem KMapIs.size{q:KeyK}{z:Value}{has:Int->Bool}{get:Int->DVal}{es:Array MapEntry}(h:KMapIs B q z has get es)(hb:∀n,has n=true->0<=n/\n<64):es.size=cntB has 64:=by
 let f:MapEntry->Int:=λe=>(BKA q e.key).getD 0
 have hf:∀(i:Nat) (e:MapEntry),es[i]?=some e->e.key=q.val (f e)/\has (f e)=true:=λi e he=>by
  obtain⟨n,h1,h2,_⟩:=h.keys i e he
  have:f e=n:=by simp only[f,h1,bO,Option.getD_some]
  rw[this];exact⟨h1,h2⟩
 have hnd:(es.toList.map f).Nodup:=by
  show List.Pairwise _ _
  rw[List.pairwise_iff_getElem]
  intro i j hi hj hij he
  simp only[List.length_map,Array.length_toList] at hi hj
  simp only[List.getElem_map,Array.getElem_toList] at he
  have h1:=hf i es[i] (by simp[hi])
  have h2:=hf j es[j] (by simp[hj])
  have:=h.once i j es[i] es[j] (by simp[hi]) (by simp[hj]) (by rw[h1.1,h2.1,he])
  omega
 have hnd2:(((List.range 64).map λ(i:Nat)=>(i:Int)).filter has).Nodup:=by
  refine List.Pairwise.filter _ ?_
  decide
 rw[BLZ,<-Array.length_toList,<-List.length_map (f:=f)]
 refine ((List.perm_ext_iff_of_nodup hnd hnd2).2 λn=>?_).length_eq
 constructor
 ·intro hm
  obtain⟨e,he,rfl⟩:=List.mem_map.1 hm
  obtain⟨i,hi⟩:=List.mem_iff_getElem?.1 he
  rw[Array.getElem?_toList] at hi
  obtain⟨h1,h2⟩:=hf i e hi
  obtain⟨h3,h4⟩:=hb _ h2
  exact List.mem_filter.2 ⟨List.mem_map.2 ⟨(f e).toNat,List.mem_range.2 (by omega),by omega⟩,h2⟩
 ·intro hm
  obtain⟨_,h2⟩:=List.mem_filter.1 hm
  obtain⟨i,e,hi,hk⟩:=h.met n h2
  refine List.mem_map.2 ⟨e,List.mem_iff_getElem?.2 ⟨i,by rw[Array.getElem?_toList];exact hi⟩,?_⟩
  simp only[f,hk,bO,Option.getD_some]
theorem AZH{t ty:TypeId}{ats:Array TypeId}{m:AVal}{vm:Value}{e:Eff}(h:AMK P H t m=some e)(hp:CR e.pre)(h0:ats[0]?=some t)(hH:HRel B ι H w)(hm:VRel B ι H.dom m vm) :
  ∃y,(Builtin.len_ ats ty #[vm]).run P w=.ok y w/\e.upd=[]/\VRel B ι H.dom e.val y:=by
 unfold AMK at h
 split at h
 case h_2=>cases h
 rename_i q z0 id q' z has get ht hma
 split at h
 case isFalse=>cases h
 rename_i hq
 subst hq
 cases h
 obtain⟨kt,el,hu,hkt,_⟩:=Gr ht
 obtain⟨hid,rfl,es,clock,hb,hM⟩:=Wa hma hm hH
 refine⟨goInt es.size,?_,rfl,?_⟩
 ·unfold Builtin.len_
  simp[h0,run_underlying hu,KU hb]
 ·have:es.size=cntB has 64:=hM.size hp
  rw[goInt,this];exact .d (.v _)
end Go.Sym
