/- Maps from integers. -/
import Derived.Test.YtlblbbidigejkaaGreatSym4
import Derived.RangeFuncRecord
set_option linter.unusedVariables false
set_option linter.unusedSimpArgs false
namespace Go.Sym
variable {P : Program} {B B' : Ft} {ι ι' : Nat -> Pl} {H H' : Heap} {D : Nat -> Prop} {w w' : World}
def intT(P:Program)(t:TypeId):Bool:=match P.underlying t with
 |some (.int .i64)=>true
 |_=>false
theorem AVZ{t:TypeId}(h:intT P t=true):P.underlying t=some (.int .i64):=by
 unfold intT at h;split at h
 ·assumption
 ·cases h
def AVF(P:Program)(k:TypeId):Bool:=match P.underlying k with
 |some (.struct fs)=>match fs.toList with
  | [f, g] => intT P f.type && intT P g.type && Nat.beq f.offset 0 && Nat.beq g.offset 1 && f.name != "_" && g.name != "_" && !P.stoodInHeld k
  |_=>false
 |_=>false
theorem Y2 {k : TypeId} (h : AVF P k = true) : ∃ f g : Field, P.underlying k = some (.struct #[f, g]) /\ P.underlying f.type = some (.int .i64) /\ P.underlying g.type = some (.int .i64) /\ f.offset = 0 /\ g.offset = 1 /\ f.name ≠ "_" /\ g.name ≠ "_" /\ P.stoodInHeld k = false := by
 unfold AVF at h
 split at h
 ·rename_i fs hu
  split at h
  ·rename_i f g hl
   simp only[Bool.and_eq_true,bne_iff_ne,Bool.not_eq_true'] at h
   obtain⟨⟨⟨⟨⟨⟨h1,h2⟩,h3⟩,h4⟩,h5⟩,h6⟩,h7⟩:=h
   have:fs=#[f,g]:=by
    have:=congrArg List.toArray hl
    simpa using this
   subst this
   exact⟨f,g,hu,AVZ h1,AVZ h2,Nat.eq_of_beq_eq_true h3,Nat.eq_of_beq_eq_true h4,h5,h6,h7⟩
  ·cases h
 ·cases h
def keyT(P:Program)(q:KeyK)(k:TypeId):Prop:=match q with
 | .int q=>P.underlying k=some (.int q)
 | .pair=>AVF P k=true
def CJE(P:Program)(k:TypeId):Option KeyK:=match P.underlying k with
 |some (.int q)=>some (.int q)
 |_=>if AVF P k then some .pair else none
theorem BOJ{k:TypeId}{q:KeyK}(h:CJE P k=some q):keyT P q k:=by
 unfold CJE at h;split at h
 ·cases h;assumption
 ·split at h
  ·cases h;assumption
  ·cases h
def vT(P:Program)(t:TypeId):Option (KeyK×Value):=match P.underlying t with
 |some (.map k e)=>match CJE P k,(P.info? e).bind (·.zero) with
  |some q,some z=>some (q,z)
  |_,_=>none
 |_=>none
theorem Bb{t:TypeId}{q:KeyK}{z:Value}(h:vT P t=some (q,z)):∃k e,P.underlying t=some (.map k e)/\keyT P q k/\∀w:World,(zeroValue e).run P w=.ok z w:=by
 unfold vT at h
 split at h
 ·rename_i k e hu
  split at h
  ·rename_i q' z' hk hz
   cases h
   refine⟨k,e,hu,BOJ hk,λw=>?_⟩
   cases hi:P.info? e with
   |none=>simp[hi] at hz
   |some i=>
    simp only[hi,Option.bind_some] at hz
    simp[zeroValue,QU hi,hz]
  ·cases h
 ·cases h
theorem qS{k:TypeId}{q:IntKind}(hk:P.underlying k=some (.int q))(b:Bool)(v:Value)(w:World):∀n:Nat,0<n->(Instr.checkKey b n k v).run P w=.ok () w
 |0,h=>by omega
 |n+1,_=>by
  unfold Instr.checkKey
  simp only[Sem.run_bind,run_underlying hk,Result.andThen_ok]
  cases v<;>rfl
theorem dQ{k:TypeId}{q:IntKind}(hk:P.underlying k=some (.int q)){cs:Array Value}{o:Nat}{v:Value}(h:cs[o]?=some v)(w:World):(part k cs o).run P w=.ok v w:=by
 simp[part,Su hk,Kn,h]
theorem IY{k:TypeId}{q:KeyK}(hk:keyT P q k)(b:Bool)(m:Int)(w:World)(n:Nat)(hn:1<n):(Instr.checkKey b n k (q.val m)).run P w=.ok () w:=by
 cases q with
 |int q=>exact qS hk b _ w n (by omega)
 |pair=>
  obtain⟨f,g,hu,hf,hg,of,og,nf,ng,_⟩:=Y2 hk
  obtain⟨n,rfl⟩:∃j,n=j+1:=⟨n-1,by omega⟩
  unfold Instr.checkKey
  simp only[Sem.run_bind,run_underlying hu,Result.andThen_ok,KeyK.val]
  simp[dQ hf,dQ hg,of,og,nf,ng,qS hf b _ w n (by omega),qS hg b _ w n (by omega)]
def BSR:KeyK->Value->Option Int
 | .int _,.int _ m=>some m
 | .pair,.agg cs=>match cs.toList with
  |[.int _ a,.int _ b]=>some (a*4294967296+b)
  |_=>none
 |_,_=>none
theorem Xx(q:KeyK)(n:Int):BSR q (q.val n)=some n:=by
 cases q with
 |int q=>rfl
 |pair=>simp only[KeyK.val,BSR,Option.some.injEq];omega
def vH(q:KeyK)(n:Int):List MapEntry->Nat->Option (Nat×Value)
 |[],_=>none
 |e :: es,i=>match BSR q e.key with
  |some m=>if n=m then some (i,e.val) else vH q n es (i+1)
  |none=>none
theorem AKX{q q':IntKind}{n:Int}:∀(es:List MapEntry) (i:Nat),(∀e∈es,∃m,e.key=(KeyK.int q).val m)->Instr.findNow (.int q') (.int q n) es i=some (vH (.int q) n es i)
 |[],_,_=>rfl
 |e :: es,i,h=>by
  obtain⟨m,hm⟩:=h e (by simp)
  unfold Instr.findNow vH
  rw[hm,Xx]
  simp only[KeyK.val,Instr.sameNow,if_true]
  by_cases hnm:n=m
  ·subst hnm;simp
  ·have:(n==m)=false:=by simpa using hnm
   simp only[this,if_neg hnm]
   exact AKX es (i+1) λe he=>h e (by simp[he])
theorem AEC{t:TypeId}(hk:P.underlying t=some (.int .i64))(a b:Int)(n:Nat)(w:World):(Op.equalIn (n+1) t (.int .i64 a) (.int .i64 b)).run P w=.ok (a==b) w:=by
 simp[Op.equalIn,run_underlying hk]
theorem AUG{k:TypeId}(hk:AVF P k=true)(n m:Int)(w:World):(Op.equal k (KeyK.pair.val n) (KeyK.pair.val m)).run P w=.ok (decide (n=m)) w:=by
 obtain⟨f,g,hu,hf,hg,of,og,nf,ng,hs⟩:=Y2 hk
 have hfs:P.fieldsOf k=#[f,g]:=by simp[Program.fieldsOf,hu]
 have e:Op.equal k (KeyK.pair.val n) (KeyK.pair.val m)=Op.equalIn (9998+1+1) k (KeyK.pair.val n) (KeyK.pair.val m):=rfl
 rw[e,KeyK.val,KeyK.val,run_equalIn_struct w _ k _ _ (by rw[hfs];exact hu) hs,hfs]
 simp only[Op.eqFields,if_pos nf,if_pos ng,of,og,Sem.run_bind]
 have p1:∀(x:Int) w,(part f.type #[.int .i64 (x / 4294967296),.int .i64 (x % 4294967296)] 0).run P w=.ok (.int .i64 (x / 4294967296)) w:=λx w=>dQ hf (by simp) w
 have p2:∀(x:Int) w,(part g.type #[.int .i64 (x / 4294967296),.int .i64 (x % 4294967296)] 1).run P w=.ok (.int .i64 (x % 4294967296)) w:=λx w=>dQ hg (by simp) w
 simp only[p1,Result.andThen_ok,AEC hf,Sem.run_ite,Sem.run_bind,p2,AEC hg,Sem.run_pure]
 have:decide (n=m)=((n / 4294967296==m / 4294967296)&&(n % 4294967296==m % 4294967296)):=by
  by_cases h:n=m
  ·subst h;simp
  ·rw[decide_eq_false h];symm
   rw[Bool.and_eq_false_iff]
   by_cases h1:n / 4294967296=m / 4294967296
   ·right;simp only[beq_eq_false_iff_ne,ne_eq];omega
   ·left;simp[h1]
 rw[this]
 cases (n / 4294967296==m / 4294967296)<;>cases (n % 4294967296==m % 4294967296)<;>simp
theorem xG{k:TypeId}(hk:AVF P k=true)(n:Int)(w:World):∀(es:List MapEntry) (i:Nat),(∀e∈es,∃m,e.key=KeyK.pair.val m)->(Instr.findAsking k (KeyK.pair.val n) es i).run P w=.ok (vH .pair n es i) w
 |[],_,_=>by simp[Instr.findAsking,vH]
 |e :: es,i,h=>by
  obtain⟨m,hm⟩:=h e (by simp)
  unfold Instr.findAsking vH
  rw[hm,Xx]
  simp only[Sem.run_bind,AUG hk,Result.andThen_ok,Sem.run_ite]
  by_cases hnm:n=m
  ·subst hnm;simp
  ·simp only[decide_eq_false hnm,if_neg hnm]
   have:=xG hk n w es (i+1) λe he=>h e (by simp[he])
   simpa using this
theorem ALM{k:TypeId}{q:KeyK}(hk:keyT P q k)(n:Int)(es:List MapEntry)(h:∀e∈es,∃m,e.key=q.val m)(w:World):(Instr.findKey k (q.val n) es).run P w=.ok (vH q n es 0) w:=by
 cases q with
 |int q=>
  unfold Instr.findKey
  have hk:P.underlying k=some (.int q):=hk
  simp only[KeyK.val,Sem.run_bind,run_underlying hk,Result.andThen_ok,AKX es 0 h,Sem.run_pure]
 |pair=>
  obtain⟨f,g,hu,_⟩:=Y2 hk
  unfold Instr.findKey
  simp only[Sem.run_bind,run_underlying hu,Result.andThen_ok]
  cases es with
  |nil=>simp[Instr.findNow,vH]
  |cons e es=>
   obtain⟨m,hm⟩:=h e (by simp)
   have:Instr.findNow (.struct #[f,g]) (KeyK.pair.val n) (e :: es) 0=none:=by
    unfold Instr.findNow;rw[hm];simp only[KeyK.val,Instr.sameNow]
   rw[this]
   exact xG hk n w _ 0 h
theorem ARU{n:Int}{q:KeyK}:∀(es:List MapEntry) (i:Nat),(∀e∈es,∃m,e.key=q.val m)->(∀e∈es,e.key≠q.val n)->vH q n es i=none
 |[],_,_,_=>rfl
 |e :: es,i,h,hn=>by
  obtain⟨m,hm⟩:=h e (by simp)
  have h1:n≠m:=λhe=>hn e (by simp) (by rw[hm,he])
  unfold vH
  rw[hm,Xx]
  simp only[if_neg h1]
  exact ARU es (i+1) (λe he=>h e (by simp[he])) λe he=>hn e (by simp[he])
theorem ATU{n:Int}{q:KeyK}:∀(es:List MapEntry) (i:Nat),(∀e∈es,∃m,e.key=q.val m)->∀(j:Nat) (e:MapEntry),es[j]?=some e->e.key=q.val n->∃j' e',vH q n es i=some (i+j',e'.val)/\es[j']?=some e'/\e'.key=q.val n
 |[],_,_,j,e,hj,_=>by simp at hj
 |a :: es,i,h,j,e,hj,hk=>by
  obtain⟨m,hm⟩:=h a (by simp)
  unfold vH
  rw[hm,Xx]
  by_cases h1:n=m
  ·subst h1
   exact⟨0,a,by simp,rfl,hm⟩
  ·simp only[if_neg h1]
   cases j with
   |zero=>simp at hj;subst hj;rw[hm] at hk;exact (h1 (KeyK.val_inj hk).symm).elim
   |succ j=>
    obtain⟨j',e',h2,h3,h4⟩:=ATU es (i+1) (λe he=>h e (by simp[he])) j e (by simpa using hj) hk
    exact⟨j'+1,e',by rw[h2];simp[Nat.add_assoc,Nat.add_comm 1],by simpa using h3,h4⟩
theorem BIX{q:KeyK}{es:Array MapEntry}(h:∀(i:Nat) (e:MapEntry),es[i]?=some e->∃m,e.key=q.val m){k:TypeId}(hk:keyT P q k)(n:Int)(w:World) :
  ((∀(i:Nat) (e:MapEntry),es[i]?=some e->e.key≠q.val n)->(Instr.findKey k (q.val n) es.toList).run P w=.ok none w) /\
  (∀(i:Nat) (e:MapEntry),es[i]?=some e->e.key=q.val n->∃i e,es[i]?=some e/\e.key=q.val n/\(Instr.findKey k (q.val n) es.toList).run P w=.ok (some (i,e.val)) w):=by
 have h':∀e∈es.toList,∃m,e.key=q.val m:=λe he=>by
  obtain⟨i,hi⟩:=List.mem_iff_getElem?.1 he
  rw[Array.getElem?_toList] at hi
  exact h i e hi
 refine⟨λhn=>?_,λi e hi hke=>?_⟩
 ·rw[ALM hk n _ h' w,ARU es.toList 0 h' λe he=>?_]
  obtain⟨i,hi⟩:=List.mem_iff_getElem?.1 he
  rw[Array.getElem?_toList] at hi
  exact hn i e hi
 ·obtain⟨j,e',h1,h2,h3⟩:=ATU es.toList 0 h' i e (by simpa using hi) hke
  rw[Array.getElem?_toList] at h2
  exact⟨j,e',h2,h3,by rw[ALM hk n _ h' w,h1];simp⟩
theorem MapIs.find{q:KeyK}{z:Value}{has:Int->Bool}{get:Int->DVal}{st:Int->Int}{es:Array MapEntry}{clock:Nat}(h:MapIs B q z has get st es clock){k:TypeId}(hk:keyT P q k)(n:Int)(w:World) :
  (has n=false/\(Instr.findKey k (q.val n) es.toList).run P w=.ok none w) ∨
  (has n=true/\∃i e,es[i]?=some e/\e.key=q.val n/\(e.born:Int)=st n/\DRel B (get n) e.val/\(Instr.findKey k (q.val n) es.toList).run P w=.ok (some (i,e.val)) w):=by
 have hg:=BIX (P:=P) (es:=es) (λi e hi=>by obtain⟨m,h1,_⟩:=h.keys i e hi;exact⟨m,h1⟩) hk n w
 cases hn:has n with
 |false=>
  refine .inl ⟨rfl,hg.1 λi e hi hke=>?_⟩
  obtain⟨m,h1,h2,_⟩:=h.keys i e hi
  rw[h1] at hke
  rw[KeyK.val_inj hke,hn] at h2;cases h2
 |true=>
  obtain⟨i,e,hi,hke⟩:=h.met n hn
  obtain⟨j,e',h1,h2,h3⟩:=hg.2 i e hi hke
  obtain⟨m,h4,h5,h6,h7,h8⟩:=h.keys j e' h1
  rw[h2] at h4
  cases KeyK.val_inj h4
  exact .inr ⟨rfl,j,e',h1,h2,h7,h8,h3⟩
theorem KMapIs.find{q:KeyK}{z:Value}{has:Int->Bool}{get:Int->DVal}{es:Array MapEntry}(h:KMapIs B q z has get es){k:TypeId}(hk:keyT P q k)(n:Int)(w:World) :
  (has n=false/\(Instr.findKey k (q.val n) es.toList).run P w=.ok none w) ∨
  (has n=true/\∃i e,es[i]?=some e/\e.key=q.val n/\DRel B (get n) e.val/\(Instr.findKey k (q.val n) es.toList).run P w=.ok (some (i,e.val)) w):=by
 have hg:=BIX (P:=P) (es:=es) (λi e hi=>by obtain⟨m,h1,_⟩:=h.keys i e hi;exact⟨m,h1⟩) hk n w
 cases hn:has n with
 |false=>
  refine .inl ⟨rfl,hg.1 λi e hi hke=>?_⟩
  obtain⟨m,h1,h2,_⟩:=h.keys i e hi
  rw[h1] at hke
  rw[KeyK.val_inj hke,hn] at h2;cases h2
 |true=>
  obtain⟨i,e,hi,hke⟩:=h.met n hn
  obtain⟨j,e',h1,h2,h3⟩:=hg.2 i e hi hke
  obtain⟨m,h4,h5,h8⟩:=h.keys j e' h1
  rw[h2] at h4
  cases KeyK.val_inj h4
  exact .inr ⟨rfl,j,e',h1,h2,h8,h3⟩
theorem ABD{p:Prop}{r:List Prop}:BG (p :: r)↔p/\BG r:=by
 cases r with
 |nil=>simp[BG]
 |cons q r=>rfl
theorem HU{r:Nat}{es:Array MapEntry}{clock:Nat}(h:w.heap[r]?=some (.map es clock)):(getObj r).run P w=.ok (.map es clock) w:=by simp[getObj,Sem.run,h]
theorem UA{r:Nat}{es:Array MapEntry}{clock:Nat}(o:Obj)(h:w.heap[r]?=some (.map es clock)):(setObj r o).run P w=.ok () (w.putObj r o):=by simp[setObj,Sem.run,h,World.putObj]
theorem Moved.turn(h:HRel B ι H w){id:Nat}{o0 o:AObj}(hid:H id=.live o0){x:Obj}(ho:ORel B ι (EC H id (.live o)).dom (ι id).cap o (some x)):Moved B ι H w B ι (EC H id (.live o)) (w.putObj (ι id).b x):=by
 have hlt:=Mz h hid
 have dm:∀i,H.dom i->(EC H id (.live o)).dom i/\ι i=ι i:=λi hi=>⟨by
  unfold Heap.dom EC;split
  ·simp
  ·exact hi,rfl⟩
 have live:∀i o2,EC H id (.live o) i=.live o2->(i=id/\o2=o)∨(i≠id/\H i=.live o2):=λi o2 hi=>by
  by_cases hii:i=id
  ·subst hii;rw[HM] at hi;cases hi;exact .inl ⟨rfl,rfl⟩
  ·rw[HL _ _ hii] at hi;exact .inr ⟨hii,hi⟩
 have old:∀i o2,EC H id (.live o) i=.live o2->∃o3,H i=.live o3:=λi o2 hi=>by
  rcases live i o2 hi with⟨rfl,rfl⟩ | ⟨_,h2⟩
  ·exact⟨_,hid⟩
  ·exact⟨_,h2⟩
 have oth:∀b,b≠(ι id).b->(w.putObj (ι id).b x).heap[b]?=w.heap[b]?:=λb hb=>World.putObj_heap_other hb
 refine⟨λ_ _ h=>h,λ_ _ h=>.inl h,dm,⟨λi o2 hi=>?_,λi j o1 o2 hi hj hij=>?_,λi o2 hi=>?_,λb c hb=>?_⟩,λi o2 hi=>?_,λb hb hno=>oth b (λhe=>hno id _ hid he.symm),by rw[World.putObj_size];exact Nat.le_refl _,⟨rfl,rfl,rfl⟩⟩
 ·rcases live i o2 hi with⟨rfl,rfl⟩ | ⟨h1,h2⟩
  ·rw[World.putObj_heap_same hlt];exact ho
  ·rw[oth _ (λhe=>h1 (h.inj _ _ _ _ h2 hid he))]
   exact (h.obj i o2 h2).mono (λ_ _ h=>h) dm
 ·obtain⟨_,h1⟩:=old i o1 hi
  obtain⟨_,h2⟩:=old j o2 hj
  exact h.inj _ _ _ _ h1 h2 hij
 ·obtain⟨_,h1⟩:=old i o2 hi
  exact h.sep _ _ h1
 ·have:b≠(ι id).b:=λhe=>by rw[he,h.sep id _ hid] at hb;cases hb
  rw[oth b this];exact h.imm b c hb
 ·obtain⟨o3,h1⟩:=old i o2 hi
  exact .inl ⟨i,o3,h1,rfl⟩
def AST(P:Program)(mt:Bool)(r:Nat)(t:TypeId):Option Eff:=match vT P t with
 |some (q,z)=>bif mt then some ⟨.mref r,[(r,.live (.kmap q z (λ_=>false) λ_=>ofV z))],[]⟩ else some ⟨.mref r,[(r,.live (.imap q z (λ_=>false) (λ_=>ofV z) (λ_=>0) none))],[]⟩
 |none=>none
theorem APM{mt:Bool}{r:Nat}{t:TypeId}{e:Eff}(h:AST P mt r t=some e)(hr:H r=.none)(hH:HRel B ι H w):∃y w',(Instr.makeMap t none).run P w=.ok y w'/\OZ B ι H w (DV H e.upd) e.val y w':=by
 unfold AST at h
 split at h
 ·rename_i q z hm
  cases mt with
  |true=>
   cases h
   refine⟨.map (some w.heap.size),w.alloc (.map #[] 0),by simp[Instr.makeMap],B,_,Moved.new hH hr (q:=0) (.kmap ⟨λi e he=>by simp at he,λn _=>nZ z,λn hn=>by simp at hn,λi j e e' he=>by simp at he⟩),?_⟩
   have:=VRel.mref (B:=B) (ι:=Tj ι r ⟨w.heap.size,0⟩) (D:=(EC H r (.live (.kmap q z (λ_=>false) λ_=>ofV z))).dom) (id:=r) (by unfold Heap.dom;rw[HM];simp)
   rw[EI] at this
   exact this
  |false=>
   cases h
   refine⟨.map (some w.heap.size),w.alloc (.map #[] 0),by simp[Instr.makeMap],B,_,Moved.new hH hr (q:=0) (.imap ⟨λi e he=>by simp at he,λn _=>⟨nZ z,rfl⟩,λn hn=>by simp at hn,λi j e e' he=>by simp at he⟩),?_⟩
   have:=VRel.mref (B:=B) (ι:=Tj ι r ⟨w.heap.size,0⟩) (D:=(EC H r (.live (.imap q z (λ_=>false) (λ_=>ofV z) (λ_=>0) none))).dom) (id:=r) (by unfold Heap.dom;rw[HM];simp)
   rw[EI] at this
   exact this
 ·cases h
def dI(H:Heap):AVal->Option (Nat×KeyK×Value×(Int->Bool)×(Int->DVal)×(Int->Int)×Option Int)
 | .mref id=>match H id with
  | .live (.imap q z has get st pend)=>some (id,q,z,has,get,st,pend)
  |_=>none
 |_=>none
theorem bB{m:AVal}{v:Value}{id:Nat}{q:KeyK}{z:Value}{has:Int->Bool}{get:Int->DVal}{st:Int->Int}{pend:Option Int}(h:dI H m=some (id,q,z,has,get,st,pend))(hv:VRel B ι H.dom m v)(hH:HRel B ι H w) :
  H id=.live (.imap q z has get st pend)/\v=.map (some (ι id).b)/\∃es clock,w.heap[(ι id).b]?=some (.map es clock)/\MapIs B q z has get st es clock:=by
 unfold dI at h
 split at h
 ·rename_i id'
  split at h
  ·rename_i q' z' has' get' st' pend' hid
   cases h
   cases hv
   have ho:=hH.obj _ _ hid
   generalize hq:w.heap[(ι id).b]?=x at ho
   cases ho with
   |imap hm=>exact⟨hid,rfl,_,_,rfl,hm⟩
  ·cases h
 ·cases h
def Sa(H:Heap):AVal->Option (Nat×KeyK×Value×(Int->Bool)×(Int->DVal))
 | .mref id=>match H id with
  | .live (.kmap q z has get)=>some (id,q,z,has,get)
  |_=>none
 |_=>none
theorem Ta{m:AVal}{v:Value}{id:Nat}{q:KeyK}{z:Value}{has:Int->Bool}{get:Int->DVal}(h:Sa H m=some (id,q,z,has,get))(hv:VRel B ι H.dom m v)(hH:HRel B ι H w) :
  H id=.live (.kmap q z has get)/\v=.map (some (ι id).b)/\∃es clock,w.heap[(ι id).b]?=some (.map es clock)/\KMapIs B q z has get es:=by
 unfold Sa at h
 split at h
 ·rename_i id'
  split at h
  ·rename_i q' z' has' get' hid
   cases h
   cases hv
   have ho:=hH.obj _ _ hid
   generalize hq:w.heap[(ι id).b]?=x at ho
   cases ho with
   |kmap hm=>exact⟨hid,rfl,_,_,rfl,hm⟩
  ·cases h
 ·cases h
def Zg(H:Heap)(m:AVal):Option (KeyK×Value×(Int->Bool)×(Int->DVal)):=match dI H m with
 |some (_,q,z,has,get,_,_)=>some (q,z,has,get)
 |none=>match Sa H m with
  |some (_,q,z,has,get)=>some (q,z,has,get)
  |none=>none
theorem ALP{m:AVal}{v:Value}{q:KeyK}{z:Value}{has:Int->Bool}{get:Int->DVal}(h:Zg H m=some (q,z,has,get))(hv:VRel B ι H.dom m v)(hH:HRel B ι H w) :
  ∃b es clock,v=.map (some b)/\w.heap[b]?=some (.map es clock)/\∀{k:TypeId} (_:keyT P q k) (n:Int),
   (has n=false/\DRel B (get n) z/\(Instr.findKey k (q.val n) es.toList).run P w=.ok none w) ∨
   (has n=true/\∃i e,es[i]?=some e/\DRel B (get n) e.val/\(Instr.findKey k (q.val n) es.toList).run P w=.ok (some (i,e.val)) w):=by
 unfold Zg at h
 split at h
 ·rename_i id q' z' has' get' st pend hm
  cases h
  obtain⟨hid,rfl,es,clock,hb,hM⟩:=bB hm hv hH
  refine⟨_,es,clock,rfl,hb,λhk n=>?_⟩
  rcases hM.find hk n w with⟨h1,h2⟩ | ⟨h1,i,en,h3,_,_,h5,h6⟩
  ·exact .inl ⟨h1,(hM.miss n h1).1,h2⟩
  ·exact .inr ⟨h1,i,en,h3,h5,h6⟩
 ·split at h
  ·rename_i id q' z' has' get' hm
   cases h
   obtain⟨hid,rfl,es,clock,hb,hM⟩:=Ta hm hv hH
   refine⟨_,es,clock,rfl,hb,λhk n=>?_⟩
   rcases hM.find hk n w with⟨h1,h2⟩ | ⟨h1,i,en,h3,_,h5,h6⟩
   ·exact .inl ⟨h1,hM.miss n h1,h2⟩
   ·exact .inr ⟨h1,i,en,h3,h5,h6⟩
  ·cases h
def keyA(q:KeyK)(a:AVal):Option (Int×List Prop):=match q with
 | .int q=>match a with
  | .d (.v (.int k n))=>if k=q then some (n,[]) else none
  |_=>none
 | .pair=>match a with
  | .d (.agg [.v (.int .i64 a),.v (.int .i64 b)])=>some (a*4294967296+b,[0<=b,b<4294967296])
  |_=>none
theorem Rv{q:KeyK}{a:AVal}{n:Int}{pre:List Prop}{v:Value}(h:keyA q a=some (n,pre))(hp:BG pre)(hv:VRel B ι D a v):v=q.val n:=by
 unfold keyA at h
 split at h
 ·split at h
  ·split at h
   ·rename_i hk;subst hk;cases h;cases hv.d_inv;rfl
   ·cases h
  ·cases h
 ·split at h
  ·rename_i a b
   cases h
   obtain⟨h1,h2⟩:0<=b/\b<4294967296:=hp
   cases hv.d_inv with
   |agg hl hr=>
    rename_i ys
    obtain⟨y0,y1,rfl⟩:∃y0 y1,ys=#[y0,y1]:=by
     match ys,hl with
     |⟨[y0,y1]⟩,_=>exact⟨y0,y1,rfl⟩
    have e0:=hr 0 _ y0 rfl rfl
    have e1:=hr 1 _ y1 rfl rfl
    cases e0;cases e1
    simp only[KeyK.val,Value.agg.injEq,Array.mk.injEq,List.cons.injEq,Value.int.injEq,true_and,and_true]
    omega
  ·cases h
def eC(P:Program)(H:Heap)(t:TypeId)(m ix:AVal)(ok:Bool):Option (AVal×List Prop):=match vT P t,Zg H m with
 |some (q,z),some (q',z',has,get)=>match keyA q ix with
  |some (n,p)=>if q=q' then some (if ok then .d (.tup [get n,.bool (has n)]) else .d (get n),(z=z') :: p) else none
  |none=>none
 |_,_=>none
theorem AUF{t:TypeId}{m ix x:AVal}{ok:Bool}{vm vi:Value}{pre:List Prop}(h:eC P H t m ix ok=some (x,pre))(hp:BG pre)(hvm:VRel B ι H.dom m vm)(hvi:VRel B ι H.dom ix vi)(hH:HRel B ι H w) :
  ∃y,(Instr.lookup t vm vi ok).run P w=.ok y w/\VRel B ι H.dom x y:=by
 unfold eC at h
 split at h
 case h_2=>cases h
 rename_i q z q' z' has get ht hm
 split at h
 case h_2=>cases h
 rename_i n p hn
 split at h
 case isFalse=>cases h
 rename_i hq
 subst hq
 cases h
 obtain⟨hp,hp2⟩:=ABD.1 hp
 subst hp
 obtain⟨k,e,hu,hk,hz⟩:=Bb ht
 obtain⟨b,es,clock,rfl,hb,hM⟩:=ALP (P:=P) hm hvm hH
 have:=Rv hn hp2 hvi;subst this
 have fin:∀(v:Value) (b:Bool),DRel B (get n) v->has n=b->VRel B ι H.dom (if ok then .d (.tup [get n,.bool (has n)]) else .d (get n)) (if ok then .tuple #[v,.bool b] else v):=λv b hv hb=>by
  cases ok with
  |false=>exact .d hv
  |true=>
   refine .d (.tup rfl λj x y hx hy=>?_)
   match j with
   |0=>simp at hx hy;subst hx;subst hy;exact hv
   |1=>simp at hx hy;subst hx;subst hy;rw[hb];exact .v _
   |j+2=>simp at hx
 rcases hM hk n with⟨h1,h0,h2⟩ | ⟨h1,i,en,_,h5,h6⟩
 ·refine⟨_,?_,fin z false h0 h1⟩
  unfold Instr.lookup
  simp only[Sem.run_bind,run_underlying hu,Result.andThen_ok,HU hb,Sem.run_pure,IY hk _ _ _ 10000 (by omega),h2,hz w]
 ·refine⟨_,?_,fin en.val true h5 h1⟩
  unfold Instr.lookup
  simp only[Sem.run_bind,run_underlying hu,Result.andThen_ok,HU hb,Sem.run_pure,IY hk _ _ _ 10000 (by omega),h6]
def CHY(P:Program)(H:Heap)(t:TypeId)(m ix:AVal):Option (Bool×DVal×Value×List Prop):=match vT P t,Zg H m with
 |some (q,z),some (q',z',has,get)=>match keyA q ix with
  |some (n,p)=>if q=q' then some (has n,get n,z,(z=z') :: p) else none
  |none=>none
 |_,_=>none
theorem BFM{t:TypeId}{m ix:AVal}{b:Bool}{d:DVal}{z:Value}{vm vi:Value}{pre:List Prop}(h:CHY P H t m ix=some (b,d,z,pre))(hp:BG pre)(hvm:VRel B ι H.dom m vm)(hvi:VRel B ι H.dom ix vi)(hH:HRel B ι H w) :
  ∃v,(Instr.lookup t vm vi true).run P w=.ok (.tuple #[v,.bool b]) w/\(b=true->DRel B d v)/\(b=false->v=z):=by
 unfold CHY at h
 split at h
 case h_2=>cases h
 rename_i q z q' z' has get ht hm
 split at h
 case h_2=>cases h
 rename_i n p hn
 split at h
 case isFalse=>cases h
 rename_i hq
 subst hq
 cases h
 obtain⟨hp,hp2⟩:=ABD.1 hp
 subst hp
 obtain⟨k,e,hu,hk,hz⟩:=Bb ht
 obtain⟨b,es,clock,rfl,hb,hM⟩:=ALP (P:=P) hm hvm hH
 have:=Rv hn hp2 hvi;subst this
 rcases hM hk n with⟨h1,_,h2⟩ | ⟨h1,i,en,_,h5,h6⟩
 ·rw[h1]
  refine⟨z,?_,(λh=>by cases h),λ_=>rfl⟩
  unfold Instr.lookup
  simp only[Sem.run_bind,run_underlying hu,Result.andThen_ok,HU hb,Sem.run_pure,IY hk _ _ _ 10000 (by omega),h2,hz w]
  rfl
 ·rw[h1]
  refine⟨en.val,?_,λ_=>h5,λh=>by cases h⟩
  unfold Instr.lookup
  simp only[Sem.run_bind,run_underlying hu,Result.andThen_ok,HU hb,Sem.run_pure,IY hk _ _ _ 10000 (by omega),h6]
  rfl
theorem BCQ(j:IntKind)(a:Int):∀n:Nat,Instr.sameBits n (.int j a) (.int j a)=true
 |0=>by simp[Instr.sameBits]
 |n+1=>by simp[Instr.sameBits]
theorem uW(q:KeyK)(n:Int)(w:World):(Instr.keyThatStays (q.val n) (q.val n)).run P w=.ok (q.val n) w:=by
 have:Instr.sameBits 10000 (q.val n) (q.val n)=true:=by
  cases q with
  |int q=>exact BCQ _ _ _
  |pair=>simp[KeyK.val,Instr.sameBits]
 simp[Instr.keyThatStays,this]
def kP(has:Int->Bool)(st:Int->Int)(n:Int):Int->Int:=λj=>bif has n then st j else bif (has j||decide (j=n)) then st j else st j+1
def KE(has:Int->Bool)(n:Int):Int->Bool:=λj=>decide (j=n)||has j
def vF(get:Int->DVal)(n:Int)(x:DVal):Int->DVal:=λj=>jB (decide (j=n)) x (get j)
theorem LB(get:Int->DVal)(n:Int)(x:DVal):vF get n x=λj=>bif decide (j=n) then x else get j:=by
 funext j;simp only[vF,SU]
theorem MapIs.push{q:KeyK}{z:Value}{has:Int->Bool}{get:Int->DVal}{st:Int->Int}{es:Array MapEntry}{clock:Nat}(h:MapIs B q z has get st es clock){n:Int}(hn:has n=false){x:DVal}{v:Value}(hx:DRel B x v) :
  MapIs B q z (KE has n) (vF get n x) (kP has st n) (es.push { key:=q.val n,val:=v,born:=clock }) (clock+1):=by
 have look:∀(i:Nat) (e:MapEntry),(es.push { key:=q.val n,val:=v,born:=clock })[i]?=some e->(i=es.size/\e={ key:=q.val n,val:=v,born:=clock })∨es[i]?=some e:=λi e he=>by
  rw[Array.getElem?_push] at he
  split at he
  ·rename_i hi;cases he;exact .inl ⟨hi,rfl⟩
  ·exact .inr he
 have ne:∀m,has m=true->m≠n:=λm hm he=>by rw[he,hn] at hm;cases hm
 refine⟨λi e he=>?_,λm hm=>?_,λm hm=>?_,λi j e e' hi hj hij=>?_⟩
 ·rcases look i e he with⟨_,rfl⟩ | he
  ·exact⟨n,rfl,by simp[KE],Nat.lt_succ_self _,by simp[kP,hn,(h.miss n hn).2],by simpa[LB] using hx⟩
  ·obtain⟨m,h1,h2,h3,h4,h5⟩:=h.keys i e he
   exact⟨m,h1,by simp[KE,h2],by omega,by simp[kP,hn,h2,h4],by simpa[LB,ne m h2] using h5⟩
 ·simp only[KE,Bool.or_eq_false_iff,decide_eq_false_iff_not] at hm
  obtain⟨h1,h2⟩:=h.miss m hm.2
  exact⟨by simpa[LB,hm.1] using h1,by simp[kP,hn,hm.2,hm.1,h2]⟩
 ·by_cases hmn:m=n
  ·subst hmn;exact⟨es.size,{ key:=q.val m,val:=v,born:=clock },by simp,rfl⟩
  ·simp only[KE,hmn,decide_false,Bool.false_or] at hm
   obtain⟨i,e,hi,hk⟩:=h.met m hm
   exact⟨i,e,by rw[Array.getElem?_push,if_neg (by have:=(Array.getElem?_eq_some_iff.1 hi).1;omega)];exact hi,hk⟩
 ·rcases look i e hi with⟨hi1,rfl⟩ | hi1<;>rcases look j e' hj with⟨hj1,rfl⟩ | hj1
  ·omega
  ·exfalso
   obtain⟨m,h1,h2,h3,_⟩:=h.keys j e' hj1
   rcases hij with hij | hij
   ·rw[h1] at hij;exact ne m h2 (KeyK.val_inj hij).symm
   ·simp only at hij;omega
  ·exfalso
   obtain⟨m,h1,h2,h3,_⟩:=h.keys i e hi1
   rcases hij with hij | hij
   ·rw[h1] at hij;exact ne m h2 (KeyK.val_inj hij)
   ·simp only at hij;omega
  ·exact h.once i j e e' hi1 hj1 hij
theorem MapIs.modify{q:KeyK}{z:Value}{has:Int->Bool}{get:Int->DVal}{st:Int->Int}{es:Array MapEntry}{clock:Nat}(h:MapIs B q z has get st es clock){n:Int}{i:Nat}{e0:MapEntry}(hi:es[i]?=some e0)(hk:e0.key=q.val n)(hn:has n=true){x:DVal}{v:Value}(hx:DRel B x v) :
  MapIs B q z (KE has n) (vF get n x) (kP has st n) (es.modify i λe=>{ e with key:=q.val n,val:=v }) clock:=by
 have look:∀(j:Nat) (e:MapEntry),(es.modify i λe=>{ e with key:=q.val n,val:=v })[j]?=some e->(j=i/\e={ e0 with key:=q.val n,val:=v })∨(j≠i/\es[j]?=some e):=λj e he=>by
  rw[Array.getElem?_modify] at he
  split at he
  ·rename_i hij;subst hij;rw[hi] at he;simp at he;exact .inl ⟨rfl,he.symm⟩
  ·rename_i hij;exact .inr ⟨Ne.symm hij,he⟩
 have hasE:∀m,KE has n m=has m:=λm=>by
  by_cases hm:m=n
  ·subst hm;simp[KE,hn]
  ·simp[KE,hm]
 have stE:∀m,kP has st n m=st m:=λm=>by simp[kP,hn]
 obtain⟨m0,a1,a2,a3,a4,_⟩:=h.keys i e0 hi
 rw[hk] at a1;cases KeyK.val_inj a1
 have same:∀(j:Nat) (e:MapEntry),es[j]?=some e->e.key=q.val n->j=i:=λj e hj hke=>h.once j i e e0 hj hi (.inl (by rw[hke,hk]))
 refine⟨λj e he=>?_,λm hm=>?_,λm hm=>?_,λj l e e' hj hl hjl=>?_⟩
 ·rcases look j e he with⟨_,rfl⟩ | ⟨hj,he⟩
  ·exact⟨n,rfl,by rw[hasE];exact hn,a3,by rw[stE];exact a4,by simpa[LB] using hx⟩
  ·obtain⟨m,h1,h2,h3,h4,h5⟩:=h.keys j e he
   have hmn:m≠n:=λhmn=>hj (same j e he (by rw[h1,hmn]))
   exact⟨m,h1,by rw[hasE];exact h2,h3,by rw[stE];exact h4,by simpa[LB,hmn] using h5⟩
 ·rw[hasE] at hm
  obtain⟨h1,h2⟩:=h.miss m hm
  have hmn:m≠n:=λhe=>by rw[he,hn] at hm;cases hm
  exact⟨by simpa[LB,hmn] using h1,by rw[stE];exact h2⟩
 ·rw[hasE] at hm
  obtain⟨j,e,hj,hke⟩:=h.met m hm
  by_cases hji:j=i
  ·subst hji
   rw[hi] at hj;cases hj
   rw[hk] at hke;cases KeyK.val_inj hke
   exact⟨j,_,by rw[Array.getElem?_modify,if_pos rfl,hi];rfl,rfl⟩
  ·exact⟨j,e,by rw[Array.getElem?_modify,if_neg (Ne.symm hji)];exact hj,hke⟩
 ·rcases look j e hj with⟨hj1,rfl⟩ | ⟨hj1,hj2⟩<;>rcases look l e' hl with⟨hl1,rfl⟩ | ⟨hl1,hl2⟩
  ·omega
  ·exact absurd (h.once i l e0 e' hi hl2 (by rw[hk];exact hjl)).symm hl1
  ·exact absurd (h.once j i e e0 hj2 hi (by rw[hk];exact hjl)) hj1
  ·exact h.once j l e e' hj2 hl2 hjl
theorem MapIs.store{q:KeyK}{z:Value}{has:Int->Bool}{get:Int->DVal}{st:Int->Int}{es:Array MapEntry}{clock:Nat}(h:MapIs B q z has get st es clock){n:Int}{i:Nat}{e0:MapEntry}(hi:es[i]?=some e0)(hk:e0.key=q.val n){x:DVal}{v:Value}(hx:DRel B x v) :
  MapIs B q z has (vF get n x) st (es.modify i λe=>{ e with val:=v }) clock:=by
 obtain⟨m0,a1,hn,_⟩:=h.keys i e0 hi
 rw[hk] at a1;cases KeyK.val_inj a1
 have h1:=h.modify hi hk hn hx
 have e1:(es.modify i λe=>{ e with key:=q.val n,val:=v })=es.modify i λe=>{ e with val:=v }:=by
  apply Array.ext_getElem?
  intro j
  rw[Array.getElem?_modify,Array.getElem?_modify]
  split
  ·rename_i hij;subst hij;rw[hi];simp only[Option.map_some,Option.some.injEq];rw[<-hk]
  ·rfl
 have e2:KE has n=has:=by
  funext m
  by_cases hm:m=n
  ·subst hm;simp[KE,hn]
  ·simp[KE,hm]
 have e3:kP has st n=st:=by funext m;simp[kP,hn]
 rw[e1,e2,e3] at h1
 exact h1
theorem KMapIs.push{q:KeyK}{z:Value}{has:Int->Bool}{get:Int->DVal}{es:Array MapEntry}(clock:Nat)(h:KMapIs B q z has get es){n:Int}(hn:has n=false){x:DVal}{v:Value}(hx:DRel B x v) :
  KMapIs B q z (KE has n) (vF get n x) (es.push { key:=q.val n,val:=v,born:=clock }):=by
 have look:∀(i:Nat) (e:MapEntry),(es.push { key:=q.val n,val:=v,born:=clock })[i]?=some e->(i=es.size/\e={ key:=q.val n,val:=v,born:=clock })∨es[i]?=some e:=λi e he=>by
  rw[Array.getElem?_push] at he
  split at he
  ·rename_i hi;cases he;exact .inl ⟨hi,rfl⟩
  ·exact .inr he
 have ne:∀m,has m=true->m≠n:=λm hm he=>by rw[he,hn] at hm;cases hm
 refine⟨λi e he=>?_,λm hm=>?_,λm hm=>?_,λi j e e' hi hj hij=>?_⟩
 ·rcases look i e he with⟨_,rfl⟩ | he
  ·exact⟨n,rfl,by simp[KE],by simpa[LB] using hx⟩
  ·obtain⟨m,h1,h2,h5⟩:=h.keys i e he
   exact⟨m,h1,by simp[KE,h2],by simpa[LB,ne m h2] using h5⟩
 ·simp only[KE,Bool.or_eq_false_iff,decide_eq_false_iff_not] at hm
  have h1:=h.miss m hm.2
  simpa[LB,hm.1] using h1
 ·by_cases hmn:m=n
  ·subst hmn;exact⟨es.size,{ key:=q.val m,val:=v,born:=clock },by simp,rfl⟩
  ·simp only[KE,hmn,decide_false,Bool.false_or] at hm
   obtain⟨i,e,hi,hk⟩:=h.met m hm
   exact⟨i,e,by rw[Array.getElem?_push,if_neg (by have:=(Array.getElem?_eq_some_iff.1 hi).1;omega)];exact hi,hk⟩
 ·rcases look i e hi with⟨hi1,rfl⟩ | hi1<;>rcases look j e' hj with⟨hj1,rfl⟩ | hj1
  ·omega
  ·exfalso
   obtain⟨m,h1,h2,_⟩:=h.keys j e' hj1
   rw[h1] at hij;exact ne m h2 (KeyK.val_inj hij).symm
  ·exfalso
   obtain⟨m,h1,h2,_⟩:=h.keys i e hi1
   rw[h1] at hij;exact ne m h2 (KeyK.val_inj hij)
  ·exact h.once i j e e' hi1 hj1 hij
theorem KMapIs.modify{q:KeyK}{z:Value}{has:Int->Bool}{get:Int->DVal}{es:Array MapEntry}(h:KMapIs B q z has get es){n:Int}{i:Nat}{e0:MapEntry}(hi:es[i]?=some e0)(hk:e0.key=q.val n)(hn:has n=true){x:DVal}{v:Value}(hx:DRel B x v) :
  KMapIs B q z (KE has n) (vF get n x) (es.modify i λe=>{ e with key:=q.val n,val:=v }):=by
 have look:∀(j:Nat) (e:MapEntry),(es.modify i λe=>{ e with key:=q.val n,val:=v })[j]?=some e->(j=i/\e={ e0 with key:=q.val n,val:=v })∨(j≠i/\es[j]?=some e):=λj e he=>by
  rw[Array.getElem?_modify] at he
  split at he
  ·rename_i hij;subst hij;rw[hi] at he;simp at he;exact .inl ⟨rfl,he.symm⟩
  ·rename_i hij;exact .inr ⟨Ne.symm hij,he⟩
 have hasE:∀m,KE has n m=has m:=λm=>by
  by_cases hm:m=n
  ·subst hm;simp[KE,hn]
  ·simp[KE,hm]
 have same:∀(j:Nat) (e:MapEntry),es[j]?=some e->e.key=q.val n->j=i:=λj e hj hke=>h.once j i e e0 hj hi (by rw[hke,hk])
 refine⟨λj e he=>?_,λm hm=>?_,λm hm=>?_,λj l e e' hj hl hjl=>?_⟩
 ·rcases look j e he with⟨_,rfl⟩ | ⟨hj,he⟩
  ·exact⟨n,rfl,by rw[hasE];exact hn,by simpa[LB] using hx⟩
  ·obtain⟨m,h1,h2,h5⟩:=h.keys j e he
   have hmn:m≠n:=λhmn=>hj (same j e he (by rw[h1,hmn]))
   exact⟨m,h1,by rw[hasE];exact h2,by simpa[LB,hmn] using h5⟩
 ·rw[hasE] at hm
  have h1:=h.miss m hm
  have hmn:m≠n:=λhe=>by rw[he,hn] at hm;cases hm
  simpa[LB,hmn] using h1
 ·rw[hasE] at hm
  obtain⟨j,e,hj,hke⟩:=h.met m hm
  by_cases hji:j=i
  ·subst hji
   rw[hi] at hj;cases hj
   rw[hk] at hke;cases KeyK.val_inj hke
   exact⟨j,_,by rw[Array.getElem?_modify,if_pos rfl,hi];rfl,rfl⟩
  ·exact⟨j,e,by rw[Array.getElem?_modify,if_neg (Ne.symm hji)];exact hj,hke⟩
 ·rcases look j e hj with⟨hj1,rfl⟩ | ⟨hj1,hj2⟩<;>rcases look l e' hl with⟨hl1,rfl⟩ | ⟨hl1,hl2⟩
  ·omega
  ·exact absurd (h.once i l e0 e' hi hl2 (by rw[hk];exact hjl)).symm hl1
  ·exact absurd (h.once j i e e0 hj2 hi (by rw[hk];exact hjl)) hj1
  ·exact h.once j l e e' hj2 hl2 hjl
def P1(P:Program)(H:Heap)(t:TypeId)(m k v:AVal):Option Eff:=match vT P t,v with
 |some (q,_),.d x=>match dI H m with
  |some (id,q',z,has,get,st,none)=>match keyA q k with
   |some (n,p)=>if q=q' then some ⟨.d (.v undef),[(id,.live (.imap q z (KE has n) (vF get n x) (kP has st n) none))],p⟩ else none
   |none=>none
  |some _=>none
  |none=>match Sa H m with
   |some (id,q',z,has,get)=>match keyA q k with
    |some (n,p)=>if q=q' then some ⟨.d (.v undef),[(id,.live (.kmap q z (KE has n) (vF get n x)))],p⟩ else none
    |none=>none
   |none=>none
 |_,_=>none
theorem S8{t:TypeId}{m k v:AVal}{vm vk vv:Value}{e:Eff}(h:P1 P H t m k v=some e)(hp:BG e.pre)(hH:HRel B ι H w)(hm:VRel B ι H.dom m vm)(hk:VRel B ι H.dom k vk)(hv:VRel B ι H.dom v vv) :
  ∃w',(Instr.mapUpdate t vm vk vv).run P w=.ok () w'/\OZ B ι H w (DV H e.upd) e.val undef w':=by
 unfold P1 at h
 split at h
 case h_2=>cases h
 rename_i q z0 x ht
 obtain⟨kt,el,hu,hkt,_⟩:=Bb ht
 split at h
 ·rename_i id q' z has get st hma
  split at h
  case h_2=>cases h
  rename_i n p hn
  split at h
  case isFalse=>cases h
  rename_i hq
  subst hq
  cases h
  obtain⟨hid,rfl,es,clock,hb,hM⟩:=bB hma hm hH
  have:=Rv hn hp hk;subst this
  rcases hM.find hkt n w with⟨h1,h2⟩ | ⟨h1,i,en,h3,h4,_,_,h6⟩
  ·refine⟨_,?_,B,ι,Moved.turn hH hid (.imap (hM.push h1 hv.d_inv)),.d (.v _)⟩
   unfold Instr.mapUpdate
   simp only[Sem.run_bind,run_underlying hu,Result.andThen_ok,HU hb,IY hkt _ _ _ 10000 (by omega),h2,UA _ hb]
  ·refine⟨_,?_,B,ι,Moved.turn hH hid (.imap (hM.modify h3 h4 h1 hv.d_inv)),.d (.v _)⟩
   unfold Instr.mapUpdate
   simp only[Sem.run_bind,run_underlying hu,Result.andThen_ok,HU hb,IY hkt _ _ _ 10000 (by omega),h6,h3,Option.map_some,Option.getD_some,h4,uW,UA _ hb]
 ·cases h
 ·split at h
  case h_2=>cases h
  rename_i id q' z has get hma
  split at h
  case h_2=>cases h
  rename_i n p hn
  split at h
  case isFalse=>cases h
  rename_i hq
  subst hq
  cases h
  obtain⟨hid,rfl,es,clock,hb,hM⟩:=Ta hma hm hH
  have:=Rv hn hp hk;subst this
  rcases hM.find hkt n w with⟨h1,h2⟩ | ⟨h1,i,en,h3,h4,_,h6⟩
  ·refine⟨_,?_,B,ι,Moved.turn hH hid (.kmap (clock:=clock+1) (hM.push clock h1 hv.d_inv)),.d (.v _)⟩
   unfold Instr.mapUpdate
   simp only[Sem.run_bind,run_underlying hu,Result.andThen_ok,HU hb,IY hkt _ _ _ 10000 (by omega),h2,UA _ hb]
  ·refine⟨_,?_,B,ι,Moved.turn hH hid (.kmap (clock:=clock) (hM.modify h3 h4 h1 hv.d_inv)),.d (.v _)⟩
   unfold Instr.mapUpdate
   simp only[Sem.run_bind,run_underlying hu,Result.andThen_ok,HU hb,IY hkt _ _ _ 10000 (by omega),h6,h3,Option.map_some,Option.getD_some,h4,uW,UA _ hb]
def ADX(P:Program)(H:Heap)(t:TypeId)(m k:AVal):Option Eff:=match vT P t,dI H m with
 |some (q,z0),some (id,q',z,has,get,st,none)=>match keyA q k with
  |some (n,p)=>if q=q' then some ⟨.d (.tup [get n,.int (st n)]),[(id,.live (.imap q z (KE has n) get (kP has st n) (some n)))],(z0=z) :: p⟩ else none
  |none=>none
 |_,_=>none
theorem BEL(get:Int->DVal)(n:Int):vF get n (get n)=get:=by
 rw[LB];funext j
 by_cases h:j=n
 ·subst h;simp
 ·simp[h]
theorem BBL{t:TypeId}{m k:AVal}{vm vk:Value}{e:Eff}(h:ADX P H t m k=some e)(hp:BG e.pre)(hH:HRel B ι H w)(hm:VRel B ι H.dom m vm)(hk:VRel B ι H.dom k vk) :
  ∃y w',(Instr.mapEntry t vm vk).run P w=.ok y w'/\OZ B ι H w (DV H e.upd) e.val y w':=by
 unfold ADX at h
 split at h
 case h_2=>cases h
 rename_i q z0 id q' z has get st ht hma
 split at h
 case h_2=>cases h
 rename_i n p hn
 split at h
 case isFalse=>cases h
 rename_i hq
 subst hq
 cases h
 obtain⟨hp,hp2⟩:=ABD.1 hp
 have hp:z0=z:=hp
 subst hp
 obtain⟨kt,el,hu,hkt,hz⟩:=Bb ht
 obtain⟨hid,rfl,es,clock,hb,hM⟩:=bB hma hm hH
 have:=Rv hn hp2 hk;subst this
 have pair:∀(v:Value) (s:Int),DRel B (get n) v->s=st n->DRel B (.tup [get n,.int (st n)]) (.tuple #[v,.int .i64 s]):=λv s hv hs=>.tup rfl λj x y hx hy=>by
  match j with
  |0=>simp at hx hy;subst hx;subst hy;exact hv
  |1=>simp at hx hy;subst hx;subst hy;rw[hs];exact .v _
  |j+2=>simp at hx
 rcases hM.find hkt n w with⟨h1,h2⟩ | ⟨h1,i,en,h3,h4,h5,h7,h6⟩
 ·refine⟨.tuple #[z0,goInt clock],_,?_,B,ι,Moved.turn hH hid (.imap (BEL get n ▸ hM.push h1 (hM.miss n h1).1)),.d (pair z0 clock (hM.miss n h1).1 (hM.miss n h1).2.symm)⟩
  unfold Instr.mapEntry
  simp only[Sem.run_bind,run_underlying hu,Result.andThen_ok,HU hb,IY hkt _ _ _ 10000 (by omega),h2,hz w,UA _ hb,Sem.run_pure]
 ·have e1:(es.modify i λe=>{ e with key:=q.val n })=es.modify i λe=>{ e with key:=q.val n,val:=en.val }:=by
   apply Array.ext_getElem?
   intro j
   rw[Array.getElem?_modify,Array.getElem?_modify]
   split
   ·rename_i hij;subst hij;rw[h3];rfl
   ·rfl
  refine⟨.tuple #[en.val,goInt en.born],_,?_,B,ι,Moved.turn hH hid (.imap (BEL get n ▸ hM.modify h3 h4 h1 h7)),.d (pair en.val en.born h7 h5)⟩
  unfold Instr.mapEntry
  simp only[Sem.run_bind,run_underlying hu,Result.andThen_ok,HU hb,IY hkt _ _ _ 10000 (by omega),h6,h3,Option.map_some,Option.getD_some,h4,uW,UA _ hb,Sem.run_pure,e1]
def cX(H:Heap)(m s v:AVal):Option Eff:=match dI H m,s,v with
 |some (id,q,z,has,get,st,some n),.d (.v (.int _ j)),.d x=>some ⟨.d (.v undef),[(id,.live (.imap q z has (vF get n x) st none))],[has n=true,j=st n]⟩
 |_,_,_=>none
theorem AEF{t:TypeId}{m s v:AVal}{vm vs vv:Value}{e:Eff}(h:cX H m s v=some e)(hp:BG e.pre)(hH:HRel B ι H w)(hm:VRel B ι H.dom m vm)(hs:VRel B ι H.dom s vs)(hv:VRel B ι H.dom v vv) :
  ∃w',(Instr.entryStore t vm vs vv).run P w=.ok () w'/\OZ B ι H w (DV H e.upd) e.val undef w':=by
 unfold cX at h
 split at h
 case h_2=>cases h
 rename_i id q z has get st n k j x hma
 cases h
 obtain⟨p1,p2⟩:has n=true/\j=st n:=hp
 subst p2
 obtain⟨hid,rfl,es,clock,hb,hM⟩:=bB hma hm hH
 obtain rfl:vs=.int k (st n):=by cases hs.d_inv;rfl
 obtain⟨i,e0,hi,hke⟩:=hM.met n p1
 obtain⟨m0,a1,_,_,a4,_⟩:=hM.keys i e0 hi
 rw[hke] at a1;cases KeyK.val_inj a1
 have hfind:es.findIdx? (λe=>(e.born:Int)==st n)=some i:=by
  have hlt:=(Array.getElem?_eq_some_iff.1 hi).1
  have hei:es[i]=e0:=by have:=hi;rw[Array.getElem?_eq_getElem hlt] at this;simpa using this
  refine Array.findIdx?_eq_some_iff_getElem.2 ⟨hlt,by simp[hei,a4],λl hl=>?_⟩
  have hll:l<es.size:=by omega
  simp only[beq_iff_eq]
  intro he
  have:=hM.once l i es[l] e0 (by simp[hll]) hi (.inr (by rw[<-a4] at he;exact_mod_cast he))
  omega
 refine⟨_,?_,B,ι,Moved.turn hH hid (.imap (hM.store hi hke hv.d_inv)),.d (.v _)⟩
 unfold Instr.entryStore
 simp only[Sem.run_bind,Result.andThen_ok,HU hb,asInt,asIntOf,Sem.run_pure,hfind,UA _ hb]
def AZZ(P:Program)(H:Heap)(t:TypeId)(m:AVal):Option Eff:=match vT P t,Sa H m with
 |some (q,z0),some (id,q',z,_,_)=>if q=q' then some ⟨.d (.v (.tuple #[])),[(id,.live (.kmap q z (λ_=>false) λ_=>ofV z))],[]⟩ else none
 |_,_=>none
theorem BEI{t ty:TypeId}{ats:Array TypeId}{m:AVal}{vm:Value}{e:Eff}(h:AZZ P H t m=some e)(h0:ats[0]?=some t)(hH:HRel B ι H w)(hm:VRel B ι H.dom m vm) :
  ∃y w',(Builtin.clear_ ats ty #[vm]).run P w=.ok y w'/\OZ B ι H w (DV H e.upd) e.val y w':=by
 unfold AZZ at h
 split at h
 case h_2=>cases h
 rename_i q z0 id q' z has get ht hma
 split at h
 case isFalse=>cases h
 rename_i hq
 subst hq
 cases h
 obtain⟨kt,el,hu,hkt,_⟩:=Bb ht
 obtain⟨hid,rfl,es,clock,hb,hM⟩:=Ta hma hm hH
 refine⟨_,_,?_,B,ι,Moved.turn hH hid (.kmap (clock:=clock) (es:=#[]) ⟨λi e he=>by simp at he,λn _=>nZ z,λn hn=>by simp at hn,λi j e e' he=>by simp at he⟩),.d (.v _)⟩
 unfold Builtin.clear_
 simp[h0,run_underlying hu,HU hb,UA _ hb]
def delA(P:Program)(H:Heap)(t:TypeId)(m k:AVal):Option Eff:=match vT P t,Sa H m with
 |some (q,z0),some (id,q',z,has,get)=>match keyA q k with
  |some (n,p)=>if q=q' then some ⟨.d (.v (.tuple #[])),[(id,.live (.kmap q z (λj=>!decide (j=n)&&has j) (vF get n (ofV z))))],p⟩ else none
  |none=>none
 |_,_=>none
theorem AGS{es:Array MapEntry}{i:Nat}(hi:i<es.size)(j:Nat):(es.eraseIdxIfInBounds i)[j]?=if j<i then es[j]? else es[j+1]?:=by
 simp only[Array.eraseIdxIfInBounds,hi,dif_pos]
 rw[Array.getElem?_eraseIdx]
theorem BMC{t ty:TypeId}{ats:Array TypeId}{m k:AVal}{vm vk:Value}{e:Eff}(h:delA P H t m k=some e)(hp:BG e.pre)(h0:ats[0]?=some t)(hH:HRel B ι H w)(hm:VRel B ι H.dom m vm)(hk:VRel B ι H.dom k vk) :
  ∃y w',(Builtin.delete_ ats ty #[vm,vk]).run P w=.ok y w'/\OZ B ι H w (DV H e.upd) e.val y w':=by
 unfold delA at h
 split at h
 case h_2=>cases h
 rename_i q z0 id q' z has get ht hma
 split at h
 case h_2=>cases h
 rename_i n p hn
 split at h
 case isFalse=>cases h
 rename_i hq
 subst hq
 cases h
 obtain⟨kt,el,hu,hkt,_⟩:=Bb ht
 obtain⟨hid,rfl,es,clock,hb,hM⟩:=Ta hma hm hH
 have:=Rv hn hp hk;subst this
 rcases hM.find hkt n w with⟨h1,h2⟩ | ⟨h1,i,en,h3,h4,_,h6⟩
 ·refine⟨.tuple #[],_,?_,B,ι,Moved.turn hH hid (.kmap (clock:=clock) (es:=es) ⟨λi e he=>?_,λm hm=>?_,λm hm=>?_,hM.once⟩),.d (.v _)⟩
  ·unfold Builtin.delete_
   simp[h0,run_underlying hu,HU hb,UA _ hb,IY hkt _ _ _ 10000 (by omega),h2]
  ·obtain⟨m,a1,a2,a3⟩:=hM.keys i e he
   have hmn:m≠n:=λhe=>by rw[he,h1] at a2;cases a2
   exact⟨m,a1,by simp[hmn,a2],by simpa[LB,hmn] using a3⟩
  ·by_cases hmn:m=n
   ·subst hmn;simpa[LB] using nZ z
   ·simp only[hmn,decide_false,Bool.not_false,Bool.true_and] at hm
    simpa[LB,hmn] using hM.miss m hm
  ·simp only[Bool.and_eq_true] at hm
   exact hM.met m hm.2
 ·have hlt:=(Array.getElem?_eq_some_iff.1 h3).1
  have look:∀(j:Nat) (e:MapEntry),(es.eraseIdxIfInBounds i)[j]?=some e->∃j',j'≠i/\es[j']?=some e/\j'=if j<i then j else j+1:=λj e he=>by
   rw[AGS hlt] at he
   split at he
   ·exact⟨j,by omega,he,by simp[*]⟩
   ·exact⟨j+1,by omega,he,by simp[*]⟩
  refine⟨.tuple #[],_,?_,B,ι,Moved.turn hH hid (.kmap (clock:=clock) (es:=es.eraseIdxIfInBounds i) ⟨λj e he=>?_,λm hm=>?_,λm hm=>?_,λa b e e' ha hb' hab=>?_⟩),.d (.v _)⟩
  ·unfold Builtin.delete_
   simp[h0,run_underlying hu,HU hb,UA _ hb,IY hkt _ _ _ 10000 (by omega),h6]
  ·obtain⟨j',hj,he,_⟩:=look j e he
   obtain⟨m,a1,a2,a3⟩:=hM.keys j' e he
   have hmn:m≠n:=λhmn=>hj (hM.once j' i e en he h3 (by rw[a1,h4,hmn]))
   exact⟨m,a1,by simp[hmn,a2],by simpa[LB,hmn] using a3⟩
  ·by_cases hmn:m=n
   ·subst hmn;simpa[LB] using nZ z
   ·simp only[hmn,decide_false,Bool.not_false,Bool.true_and] at hm
    simpa[LB,hmn] using hM.miss m hm
  ·simp only[Bool.and_eq_true,Bool.not_eq_true',decide_eq_false_iff_not] at hm
   obtain⟨j,e,hj,hke⟩:=hM.met m hm.2
   have hji:j≠i:=λhji=>by
    subst hji;rw[h3] at hj;cases hj
    rw[h4] at hke;exact hm.1 (KeyK.val_inj hke).symm
   by_cases hl:j<i
   ·exact⟨j,e,by rw[AGS hlt,if_pos hl];exact hj,hke⟩
   ·exact⟨j-1,e,by rw[AGS hlt,if_neg (by omega),show j-1+1=j by omega];exact hj,hke⟩
  ·obtain⟨a',_,ha,ea⟩:=look a e ha
   obtain⟨b',_,hb,eb⟩:=look b e' hb'
   have:=hM.once a' b' e e' ha hb hab
   split at ea<;>split at eb<;>omega
def cntB(has:Int->Bool):Nat->Nat
 |0=>0
 |m+1=>cntB has m+bif has m then 1 else 0
theorem BXB(has:Int->Bool)(m:Nat):cntB has m=(((List.range m).map λ(i:Nat)=>(i:Int)).filter has).length:=by
 induction m with
 |zero=>rfl
 |succ m ih=>
  rw[cntB,ih,List.range_succ,List.map_append,List.filter_append,List.length_append]
  cases h:has m<;>simp[h]
def AVH(P:Program)(H:Heap)(t:TypeId)(m:AVal):Option Eff:=match vT P t,Sa H m with
 |some (q,_),some (_,q',_,has,_)=>if q=q' then some ⟨.int (cntB has 64),[],[∀n,has n=true->0<=n/\n<64]⟩ else none
 |_,_=>none
theorem KMapIs.size{q:KeyK}{z:Value}{has:Int->Bool}{get:Int->DVal}{es:Array MapEntry}(h:KMapIs B q z has get es)(hb:∀n,has n=true->0<=n/\n<64):es.size=cntB has 64:=by
 let f:MapEntry->Int:=λe=>(BSR q e.key).getD 0
 have hf:∀(i:Nat) (e:MapEntry),es[i]?=some e->e.key=q.val (f e)/\has (f e)=true:=λi e he=>by
  obtain⟨n,h1,h2,_⟩:=h.keys i e he
  have:f e=n:=by simp only[f,h1,Xx,Option.getD_some]
  rw[this];exact⟨h1,h2⟩
 have hnd:(es.toList.map f).Nodup:=by
  show List.Pairwise _ _
  rw[List.pairwise_iff_getElem]
  intro i j hi hj hij he
  simp only[List.length_map,Array.length_toList] at hi hj
  simp only[List.getElem_map,Array.getElem_toList] at he
  have h1:=hf i es[i] (by simp[hi])
  have h2:=hf j es[j] (by simp[hj])
  have:=h.once i j es[i] es[j] (by simp[hi]) (by simp[hj]) (by rw[h1.1,h2.1,he])
  omega
 have hnd2:(((List.range 64).map λ(i:Nat)=>(i:Int)).filter has).Nodup:=by
  refine List.Pairwise.filter _ ?_
  decide
 rw[BXB,<-Array.length_toList,<-List.length_map (f:=f)]
 refine ((List.perm_ext_iff_of_nodup hnd hnd2).2 λn=>?_).length_eq
 constructor
 ·intro hm
  obtain⟨e,he,rfl⟩:=List.mem_map.1 hm
  obtain⟨i,hi⟩:=List.mem_iff_getElem?.1 he
  rw[Array.getElem?_toList] at hi
  obtain⟨h1,h2⟩:=hf i e hi
  obtain⟨h3,h4⟩:=hb _ h2
  exact List.mem_filter.2 ⟨List.mem_map.2 ⟨(f e).toNat,List.mem_range.2 (by omega),by omega⟩,h2⟩
 ·intro hm
  obtain⟨_,h2⟩:=List.mem_filter.1 hm
  obtain⟨i,e,hi,hk⟩:=h.met n h2
  refine List.mem_map.2 ⟨e,List.mem_iff_getElem?.2 ⟨i,by rw[Array.getElem?_toList];exact hi⟩,?_⟩
  simp only[f,hk,Xx,Option.getD_some]
theorem BHT{t ty:TypeId}{ats:Array TypeId}{m:AVal}{vm:Value}{e:Eff}(h:AVH P H t m=some e)(hp:BG e.pre)(h0:ats[0]?=some t)(hH:HRel B ι H w)(hm:VRel B ι H.dom m vm) :
  ∃y,(Builtin.len_ ats ty #[vm]).run P w=.ok y w/\e.upd=[]/\VRel B ι H.dom e.val y:=by
 unfold AVH at h
 split at h
 case h_2=>cases h
 rename_i q z0 id q' z has get ht hma
 split at h
 case isFalse=>cases h
 rename_i hq
 subst hq
 cases h
 obtain⟨kt,el,hu,hkt,_⟩:=Bb ht
 obtain⟨hid,rfl,es,clock,hb,hM⟩:=Ta hma hm hH
 refine⟨goInt es.size,?_,rfl,?_⟩
 ·unfold Builtin.len_
  simp[h0,run_underlying hu,HU hb]
 ·have:es.size=cntB has 64:=hM.size hp
  rw[goInt,this];exact .d (.v _)
end Go.Sym
