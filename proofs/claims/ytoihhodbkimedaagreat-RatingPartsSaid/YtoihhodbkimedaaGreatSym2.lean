/- Operations that make or write memory. -/
import Derived.Test.YtoihhodbkimedaaGreatSym1
import Derived.Laws.AppendOwn
set_option linter.unusedVariables false
set_option linter.unusedSimpArgs false
namespace Go.Sym
variable {P : Program} {B B' : Jk} {ι ι' : Nat -> Pl} {H H' : Heap} {w w' : World}
structure Eff where
 val:AVal
 upd:List (Nat×HCell)
 pre:List Prop
def KP(H:Heap):List (Nat×HCell)->Heap
 |[]=>H
 |(i,c) :: r=>KP (IV H i c) r
def Bx(B:Jk)(ι:Nat->Pl)(H:Heap)(w:World)(H':Heap)(v:AVal)(y:Value)(w':World):Prop:=
 ∃B' ι',Moved B ι H w B' ι' H' w'/\VRel B' ι' H'.dom v y
def AVal.one:AVal->Bool
 | .d (.v (.agg _)) | .d (.v (.tuple _)) | .d (.agg _) | .d (.tup _) | .d (.arr ..) | .agg _ | .tup _ | .any | .opt ..=>false
 |_=>true
theorem Ss{D:Nat->Prop}{a:AVal}{y:Value}(h:a.one=true)(hv:VRel B ι D a y):y.oneCell'=true:=by
 cases hv with
 |d hd=>cases hd with
  |v=>cases y<;>first | rfl | simp[AVal.one] at h
  |_=>first | rfl | simp[AVal.one] at h
 |_=>first | rfl | simp[AVal.one] at h
theorem Q9(t:TypeId)(v:Value)(w:World):(newVar t v).run P w=.ok ⟨w.heap.size,0,none⟩ (w.alloc (.cells v.cells t)):=by
 simp[newVar,newRow]
theorem ALS{H:Heap}{r:Nat}(o:AObj):(IV H r (.live o)).dom r:=by unfold Heap.dom;rw[NF];simp
theorem BTF{H:Heap}{r:Nat}{b:Pl}{c:HCell}(hr:H r=.none):∀i,H.dom i->(IV H r c).dom i/\yH ι r b i=ι i:=λi hi=>by
 have hne:i≠r:=λhe=>hi (he ▸ hr)
 exact⟨by unfold Heap.dom;rw[MQ _ _ hne];exact hi,Sj _ _ hne⟩
theorem BMW{r:Nat}(hr:H r=.none)(hH:HRel B ι H w){es:List AVal}{cs:Array Value}(t:TypeId)(hsz:cs.size=es.length)
  (h:∀(j:Nat) (x:AVal) (y:Value),es[j]?=some x->cs[j]?=some y->VRel B ι H.dom x y) :
  Bx B ι H w (IV H r (.live (.box es))) (.bptr r 0) (.pointer (some ⟨w.heap.size,0,none⟩)) (w.alloc (.cells cs t)):=by
 refine⟨B,yH ι r ⟨w.heap.size,0⟩,Moved.new hH hr (.box hsz λj x y hx hy=>(h j x y hx hy).mono (λ_ _ h=>h) (BTF hr)),?_⟩
 have:=VRel.bptr (B:=B) (ι:=yH ι r ⟨w.heap.size,0⟩) (D:=(IV H r (.live (.box es))).dom) (id:=r) (c:=0) (ALS _)
 rw[LU] at this;exact this
theorem wS{r:Nat}(hr:H r=.none)(hH:HRel B ι H w){k n:Nat}(q:Nat){get:Nat->DVal}{cs:Array Value}(t:TypeId)(hk:∀i,i<n->EOk k (get i))(hq:n<=q)(hsz:q*k<=cs.size)
  (h:∀(i j:Nat) (x:DVal) (y:Value),i<n->(get i).cells1[j]?=some x->cs[i*k+j]?=some y->DRel B x y) :
  ∃B' ι',Moved B ι H w B' ι' (IV H r (.live (.row k n get))) (w.alloc (.cells cs t))/\(IV H r (.live (.row k n get))).dom r/\ι' r=⟨w.heap.size,q⟩:=
 ⟨B,yH ι r ⟨w.heap.size,q⟩,Moved.new hH hr (.row hk hq hsz h),ALS _,LU _ _ _⟩
def BHD(P:Program)(r:Nat)(t:TypeId):Option Eff:=match P.underlying t,(P.info? t).bind (·.zero) with
 |some (.array m e),some z=>match (P.info? e).bind (·.zero) with
  |some ze=>if HJ (ofV ze).cells1 then some ⟨.rptr r ze.cells.size 0 0,[(r,.live (.row ze.cells.size m λ_=>ofV ze))],[z.cells.toList=(List.replicate m ze.cells.toList).flatten]⟩ else none
  |none=>none
 |some _,some z=>some ⟨.bptr r 0,[(r,.live (.box (z.cells.toList.map λx=>.d (G8 x))))],[]⟩
 |_,_=>none
theorem uE{t:TypeId}{z:Value}(h:(P.info? t).bind (·.zero)=some z)(w:World):(zeroValue t).run P w=.ok z w:=by
 cases hi:P.info? t with
 |none=>simp[hi] at h
 |some i=>simp[hi] at h;simp[zeroValue,Th hi,h]
theorem Y8(v:Value)(j:Nat)(x:DVal)(y:Value)(hx:(ofV v).cells1[j]?=some x)(hy:v.cells[j]?=some y):DRel B x y:=by
 unfold ofV at hx
 split at hx
 ·simp only[DVal.cells1,List.getElem?_map,Option.map_eq_some_iff] at hx
  obtain⟨z,hz,rfl⟩:=hx
  rw[Array.getElem?_toList] at hz
  simp only[Value.cells] at hy
  rw[hz] at hy;cases hy
  exact Hu _
 ·cases j with
  |zero=>simp[DVal.cells1] at hx;simp[Value.cells] at hy;subst hx;subst hy;exact .nil (λ_=>rfl) (.inl rfl)
  |succ j=>simp[DVal.cells1] at hx
 ·rename_i h1 h2
  cases j with
  |zero=>
   simp[DVal.cells1] at hx
   subst hx
   cases v<;>simp[Value.cells] at hy<;>first | (subst hy;exact .v _) | exact absurd rfl (h1 _)
  |succ j=>simp[DVal.cells1] at hx
theorem XI(v:Value):(ofV v).cells1.length=v.cells.size:=by
 unfold ofV
 split
 ·simp[DVal.cells1,Value.cells]
 ·rfl
 ·rename_i h1 h2
  cases v<;>simp[DVal.cells1,Value.cells]<;>exact absurd rfl (h1 _)
theorem KY{α:Type}{k:Nat}{l:List α}(hk:l.length=k):∀(n i j:Nat),i<n->j<k->(List.replicate n l).flatten[i*k+j]?=l[j]?
 |0,i,j,h,_=>by omega
 |n+1,0,j,_,hj=>by
  rw[List.replicate_succ,List.flatten_cons,List.getElem?_append_left (by omega)];simp
 |n+1,i+1,j,h,hj=>by
  have:(i+1)*k=i*k+k:=Nat.succ_mul i k
  rw[List.replicate_succ,List.flatten_cons,List.getElem?_append_right (by omega),show (i+1)*k+j-l.length=i*k+j by omega]
  exact KY hk n i j (by omega) hj
theorem AWV{r:Nat}{t:TypeId}{e:Eff}(h:BHD P r t=some e)(hp:FT e.pre)(hr:H r=.none)(hH:HRel B ι H w) :
  ∃y w',(Instr.alloc t true (.tuple #[])).run P w=.ok y w'/\Bx B ι H w (KP H e.upd) e.val y w':=by
 unfold BHD at h
 split at h
 ·rename_i m el z hu hz
  split at h
  ·rename_i ze hze
   split at h
   case isFalse=>cases h
   rename_i hone
   cases h
   have hp':z.cells.toList=(List.replicate m ze.cells.toList).flatten:=hp
   refine⟨_,_,by simp[Instr.alloc,uE hz,Q9];exact⟨rfl,rfl⟩,?_⟩
   obtain⟨B',ι',h1,h2,h3⟩:=wS (k:=ze.cells.size) (n:=m) (get:=λ_=>ofV ze) (cs:=z.cells) hr hH m t (λi _=>⟨XI ze,hone⟩) (Nat.le_refl _)
    (by have:=congrArg List.length hp';simp at this;omega) (λi j x y hi hx hy=>by
     have hlt:=(List.getElem?_eq_some_iff.1 hx).1
     rw[XI] at hlt
     rw[<-Array.getElem?_toList,hp',KY (by simp) m i j hi (by simpa using hlt),Array.getElem?_toList] at hy
     exact Y8 ze j x y hx hy)
   refine⟨B',ι',h1,?_⟩
   have:=VRel.rptr (B:=B') (ι:=ι') (D:=(IV H r (.live (.row ze.cells.size m λ_=>ofV ze))).dom) (k:=ze.cells.size) (i:=0) (c:=0) h2
   rw[h3,show 0*_+0=0 by simp] at this;exact this
  ·cases h
 ·rename_i d z _ hu hz
  cases h
  refine⟨_,_,by simp[Instr.alloc,uE hz,Q9];exact⟨rfl,rfl⟩,?_⟩
  exact BMW hr hH t (by simp) λj x y hx hy=>by
   simp only[List.getElem?_map,Option.map_eq_some_iff] at hx
   obtain⟨u,hu,rfl⟩:=hx
   rw[Array.getElem?_toList] at hu
   rw[hu] at hy;cases hy
   exact .d (Hu _)
 ·cases h
def boxA(r:Nat)(x:AVal):Option Eff:=match x with
 | .d (.arr k n get)=>some ⟨.rptr r k 0 0,[(r,.live (.row k n get))],[]⟩
 |x=>if x.noAgg then some ⟨.bptr r 0,[(r,.live (.box x.cells))],[]⟩ else none
theorem BKA{r:Nat}{t:TypeId}{x:AVal}{v:Value}{e:Eff}(h:boxA r x=some e)(hr:H r=.none)(hH:HRel B ι H w)(hv:VRel B ι H.dom x v) :
  ∃y w',(Instr.box t v).run P w=.ok y w'/\Bx B ι H w (KP H e.upd) e.val y w':=by
 refine⟨.pointer (some ⟨w.heap.size,0,none⟩),w.alloc (.cells v.cells t),by simp[Instr.box,Q9],?_⟩
 unfold boxA at h
 split at h
 ·rename_i k n get
  cases h
  cases hv.d_inv with
  |arr hl hk hrel=>
   rename_i ys
   obtain⟨B',ι',h1,h2,h3⟩:=wS (cs:=ys) hr hH n t hk (Nat.le_refl _) (by omega) hrel
   refine⟨B',ι',h1,?_⟩
   have:=VRel.rptr (B:=B') (ι:=ι') (D:=(IV H r (.live (.row k n get))).dom) (k:=k) (i:=0) (c:=0) h2
   rw[h3,show 0*_+0=0 by simp] at this;exact this
 ·split at h
  ·rename_i hn
   cases h
   obtain⟨h1,h2⟩:=I4 hv hn
   exact BMW hr hH t h1 h2
  ·cases h
theorem pX{b o:Nat}{cs:Array Value}{e:TypeId}{vs:List Value}(hq:w.heap[b]?=some (.cells cs e (0,0)))(hl:o+vs.length<=cs.size)(h1:∀v∈vs,v.oneCell'=true) :
  (storeCells ⟨b,o,none⟩ vs).run P w=.ok () (w.setRow b (cs.toList.take o ++ vs ++ cs.toList.drop (o+vs.length)).toArray):=by
 have:=run_storeCells_at (P:=P) b o e vs 0 cs w hq (by simpa using hl) h1
 simpa using this
theorem nO{t:TypeId}{n b o:Nat}{cs:Array Value}{e:TypeId}{v:Value}(hn:(P.info? t).map (·.size)=some n)(hs:v.cells.size=n)(hq:w.heap[b]?=some (.cells cs e (0,0)))(hl:o+n<=cs.size)
  (h1:∀u∈v.cells.toList,u.oneCell'=true) :
  (Instr.storeAt t (.pointer (some ⟨b,o,none⟩)) v).run P w=.ok () (w.setRow b (cs.toList.take o ++ v.cells.toList ++ cs.toList.drop (o+n)).toArray):=by
 have:=pX (P:=P) (vs:=v.cells.toList) hq (by simpa[hs] using hl) h1
 simp[Instr.storeAt,Instr.sureAddr,storeVar,LF hn,hs,this]
def AWX(c:Bool):DVal->DVal->DVal
 | .v (.int k x),.v (.int k' y)=>if k=k' then .v (.int k (cond c x y)) else cond c (.v (.int k x)) (.v (.int k' y))
 | .v (.bool x),.v (.bool y)=>.v (.bool (cond c x y))
 |a,b=>cond c a b
theorem AVD(c:Bool)(a b:DVal):AWX c a b=cond c a b:=by
 unfold AWX;split
 ·split
  ·rename_i h;subst h;cases c<;>rfl
  ·rfl
 ·cases c<;>rfl
 ·rfl
def oT(c:Bool):List DVal->List DVal->Option (List DVal)
 |[],[]=>some []
 |a :: r,b :: s=>match oT c r s with
  |some l=>some (AWX c a b :: l)
  |none=>none
 |_,_=>none
theorem AMW(c:Bool):∀{l m r:List DVal},oT c l m=some r->r=cond c l m
 |[],[],r,h=>by simp[oT] at h;subst h;cases c<;>rfl
 |a :: l,b :: m,r,h=>by
  simp only[oT] at h
  split at h
  ·rename_i q hq
   cases h
   rw[AMW c hq,AVD];cases c<;>rfl
  ·cases h
 |[],_ :: _,_,h=>by simp[oT] at h
 |_ :: _,[],_,h=>by simp[oT] at h
def BIT(c:Bool)(a b:DVal):DVal:=match a,b with
 | .agg l,.agg m=>match oT c l m with
  |some r=>.agg r
  |none=>cond c a b
 |a,b=>AWX c a b
theorem BSC(c:Bool)(a b:DVal):BIT c a b=cond c a b:=by
 unfold BIT;split
 ·split
  ·rename_i h;rw[AMW c h];cases c<;>rfl
  ·rfl
 ·exact AVD c a b
def BAN(c:Bool):DVal->DVal->DVal
 | .v (.int k x),.v (.int k' y)=>if k=k' then .v (.int k (cond c x y)) else cond c (.v (.int k x)) (.v (.int k' y))
 | .v (.bool x),.v (.bool y)=>.v (.bool (cond c x y))
 | .list k n g e,.list k' n' g' e'=>if k=k' then .list k (cond c n n') (λi=>BIT c (g i) (g' i)) (cond c e e') else cond c (.list k n g e) (.list k' n' g' e')
 |a,b=>cond c a b
theorem ATG(c:Bool)(a b:DVal):BAN c a b=cond c a b:=by
 unfold BAN;split
 ·split
  ·rename_i h;subst h;cases c<;>rfl
  ·rfl
 ·cases c<;>rfl
 ·split
  ·rename_i h;subst h
   simp only[BSC]
   cases c<;>rfl
  ·rfl
 ·rfl
def R4(c:Bool):List DVal->List DVal->Option (List DVal)
 |[],[]=>some []
 |a :: r,b :: s=>match R4 c r s with
  |some l=>some (BAN c a b :: l)
  |none=>none
 |_,_=>none
theorem AUK(c:Bool):∀{l m r:List DVal},R4 c l m=some r->r=cond c l m
 |[],[],r,h=>by simp[R4] at h;subst h;cases c<;>rfl
 |a :: l,b :: m,r,h=>by
  simp only[R4] at h
  split at h
  ·rename_i q hq
   cases h
   rw[AUK c hq,ATG];cases c<;>rfl
  ·cases h
 |[],_ :: _,_,h=>by simp[R4] at h
 |_ :: _,[],_,h=>by simp[R4] at h
def sA(c:Bool)(a b:DVal):DVal:=match a,b with
 | .agg l,.agg m=>match R4 c l m with
  |some r=>.agg r
  |none=>cond c a b
 |a,b=>BAN c a b
theorem Ah(c:Bool)(a b:DVal):sA c a b=cond c a b:=by
 unfold sA;split
 ·split
  ·rename_i h;rw[AUK c h];cases c<;>rfl
  ·rfl
 ·exact ATG c a b
def AYN(x:DVal)(c:Nat)(ds:List DVal):DVal:=match x with
 | .agg l=>.agg (l.take c ++ ds ++ l.drop (c+ds.length))
 |x=>match c,ds with
  |0,[d]=>d
  |_,_=>x
theorem ANY(x:DVal)(c:Nat)(ds:List DVal)(h1:∀d,d∈ds->d.cells1=[d])(hc:c+ds.length<=x.cells1.length) :
  (AYN x c ds).cells1=x.cells1.take c ++ ds ++ x.cells1.drop (c+ds.length):=by
 have other:∀x:DVal,x.cells1=[x]->c+ds.length<=1->(match c,ds with | 0,[d]=>d | _,_=>x).cells1=[x].take c ++ ds ++ [x].drop (c+ds.length):=by
  intro x hx hc
  match c,ds,hc with
  |0,[],_=>simpa using hx
  |0,[d],_=>simpa using h1 d (by simp)
  |0,_ :: _ :: _,h=>simp at h
  |1,[],_=>simpa using hx
  |1,_ :: _,h=>simp at h;omega
  |c+2,_,h=>omega
 cases x with
 |agg l=>rfl
 |_=>exact other _ rfl hc
theorem VM:∀{ds:List DVal},HJ ds=true->∀d,d∈ds->d.cells1=[d]
 |[],_,d,h=>by simp at h
 |x :: r,h,d,hd=>by
  cases x with
  |v y=>cases y<;>simp only[HJ,Bool.false_eq_true] at h<;>(rcases List.mem_cons.1 hd with rfl | hd;rfl;exact VM (ds:=r) h d hd)
  |list a b c e=>rcases List.mem_cons.1 hd with rfl | hd;rfl;exact VM (ds:=r) h d hd
  |eref a b=>rcases List.mem_cons.1 hd with rfl | hd;rfl;exact VM (ds:=r) h d hd
  |iface a b=>rcases List.mem_cons.1 hd with rfl | hd;rfl;exact VM (ds:=r) h d hd
  |anyB=>rcases List.mem_cons.1 hd with rfl | hd;rfl;exact VM (ds:=r) h d hd
  |_=>simp[HJ] at h
theorem YY:∀{ds:List DVal},HJ ds=true->∀d,d∈ds->(AVal.d d).one=true
 |[],_,d,h=>by simp at h
 |x :: r,h,d,hd=>by
  cases x with
  |v y=>cases y<;>simp only[HJ,Bool.false_eq_true] at h<;>(rcases List.mem_cons.1 hd with rfl | hd;rfl;exact YY (ds:=r) h d hd)
  |list a b c e=>rcases List.mem_cons.1 hd with rfl | hd;rfl;exact YY (ds:=r) h d hd
  |eref a b=>rcases List.mem_cons.1 hd with rfl | hd;rfl;exact YY (ds:=r) h d hd
  |iface a b=>rcases List.mem_cons.1 hd with rfl | hd;rfl;exact YY (ds:=r) h d hd
  |anyB=>rcases List.mem_cons.1 hd with rfl | hd;rfl;exact YY (ds:=r) h d hd
  |_=>simp[HJ] at h
theorem ARW:∀{ds:List DVal},HJ ds=true↔∀d,d∈ds->HJ [d]=true
 |[]=>by simp[HJ]
 |x :: r=>by
  have key:HJ (x :: r)=true↔HJ [x]=true/\HJ r=true:=by
   cases x with
   |v y=>cases y<;>simp[HJ]
   |_=>simp[HJ]
  rw[key,ARW (ds:=r)]
  simp
theorem ASQ{l m:List DVal}{c n:Nat}(hl:HJ l=true)(hm:HJ m=true):HJ (l.take c ++ m ++ l.drop n)=true:=by
 rw[ARW] at *
 intro d hd
 simp only[List.mem_append] at hd
 rcases hd with (hd | hd) | hd
 ·exact hl d (List.mem_of_mem_take hd)
 ·exact hm d hd
 ·exact hl d (List.mem_of_mem_drop hd)
def AFZ(P:Program)(H:Heap)(t:TypeId)(p x:AVal):Option Eff:=
 match p,P.underlying t,(P.info? t).map (·.size) with
 | .bptr id c,some _,some n=>match H id with
  | .live (.box es)=>if x.noAgg&&x.cells.length==n&&x.cells.all AVal.one&&Nat.ble (c+n) es.length then
    some ⟨.d (.v undef),[(id,.live (.box (es.take c ++ x.cells ++ es.drop (c+n))))],[]⟩ else none
  |_=>none
 | .rptr id k i c,some (.array _ _),some n=>match i,c,H id,x with
  |0,0,.live (.row k' m _),.d (.arr k2 m2 get2)=>if k==k'&&k==k2&&m==m2&&n==m*k then
    some ⟨.d (.v undef),[(id,.live (.row k m get2))],[]⟩ else none
  |_,_,_,_=>none
 | .rptr id k i c,some _,some n=>match H id,x with
  | .live (.row k' m get),.d x=>if k==k'&&x.cells1.length==n&&HJ x.cells1&&Nat.ble (c+n) k then
    some ⟨.d (.v undef),[(id,.live (.row k m λj=>sA (decide (j=i)) (if n=k then x else AYN (get i) c x.cells1) (get j)))],[i<m]⟩ else none
  |_,_=>none
 |_,_,_=>none
theorem vD{id:Nat}{o o':AObj}(hH:HRel B ι H w)(hid:H id=.live o){cs cs':Array Value}{t:TypeId}(hq:w.heap[(ι id).b]?=some (.cells cs t (0,0)))
  (ho:ORel B ι H.dom (ι id).cap o' (some (.cells cs' t (0,0)))):Bx B ι H w (IV H id (.live o')) (.d (.v undef)) undef (w.setRow (ι id).b cs'):=by
 refine⟨B,ι,Moved.write hH hid (by simp) (λb hb=>setRow_other w (ι id).b b cs' hb) ?_,.d (.v _)⟩
 rw[setRow_heap w (ι id).b cs cs' t (0,0) hq];exact ho
theorem VI{α:Type}{l m:List α}{c n:Nat}(hm:m.length=n)(hc:c+n<=l.length)(j:Nat) :
  (l.take c ++ m ++ l.drop (c+n))[j]?=if c<=j/\j<c+n then m[j-c]? else l[j]?:=by
 have h1:(l.take c).length=c:=by simp;omega
 by_cases hj:j<c
 ·rw[List.append_assoc,List.getElem?_append_left (by omega),List.getElem?_take,if_pos hj,if_neg (by omega)]
 ·by_cases hj2:j<c+n
  ·rw[List.getElem?_append_left (by simp[h1,hm];omega),List.getElem?_append_right (by omega),if_pos (by omega),h1]
  ·rw[List.getElem?_append_right (by simp[h1,hm];omega),if_neg (by omega),List.getElem?_drop]
   congr 1
   simp[h1,hm];omega
theorem AZS{t:TypeId}{p x:AVal}{v u:Value}{e:Eff}(h:AFZ P H t p x=some e)(hp:FT e.pre)(hH:HRel B ι H w)(hv:VRel B ι H.dom p v)(hx:VRel B ι H.dom x u) :
  ∃w',(Instr.storeAt t v u).run P w=.ok () w'/\Bx B ι H w (KP H e.upd) e.val undef w':=by
 unfold AFZ at h
 split at h
 ·rename_i id c d n hu hn
  split at h
  ·rename_i es hid
   split at h
   ·rename_i hc
    cases h
    simp only[Bool.and_eq_true,beq_iff_eq,Nat.ble_eq,List.all_eq_true] at hc
    obtain⟨⟨⟨hna,hlen⟩,hone⟩,hle⟩:=hc
    cases hv
    obtain⟨h1,h2⟩:=I4 hx hna
    have ho:=hH.obj _ _ hid
    generalize hq:w.heap[(ι id).b]?=q at ho
    cases ho with
    |box hsz hrel=>
     rename_i cs te
     have h1':∀z∈u.cells.toList,z.oneCell'=true:=λz hz=>by
      obtain⟨j,hj,rfl⟩:=List.getElem_of_mem hz
      have hj':j<x.cells.length:=by rw[<-h1];simpa using hj
      exact Ss (hone _ (List.getElem_mem hj')) (h2 j x.cells[j] _ (by simp) (by simp at hj;simp[hj]))
     refine⟨_,nO hn (by rw[h1,hlen]) hq (by omega) h1',vD hH hid hq (.box (by simp;omega) λj a y ha hy=>?_)⟩
     rw[VI hlen hle] at ha
     rw[List.getElem?_toArray,VI (by simpa[hlen] using h1) (by simpa[hsz] using hle)] at hy
     split at ha
     ·rename_i hj
      rw[if_pos hj] at hy
      exact h2 _ _ _ ha (by simpa using hy)
     ·rename_i hj
      rw[if_neg hj] at hy
      exact hrel _ _ _ ha (by simpa using hy)
   ·cases h
  ·cases h
 ·rename_i id k i0 c0 m0 el n hu hn
  split at h
  ·rename_i k' m get k2 m2 get2 hid
   split at h
   ·rename_i hc
    cases h
    simp only[Bool.and_eq_true,beq_iff_eq] at hc
    obtain⟨⟨⟨rfl,rfl⟩,rfl⟩,rfl⟩:=hc
    cases hv
    have ho:=hH.obj _ _ hid
    generalize hq:w.heap[(ι id).b]?=q at ho
    cases ho with
    |row hk hnq hsz' hrel=>
     have hsz:=Nat.le_trans (Nat.mul_le_mul_right _ hnq) hsz'
     rename_i cs te
     cases hx.d_inv with
     |arr hl hk2 hrel2=>
      rename_i ys
      have h1':∀z∈(Value.agg ys).cells.toList,z.oneCell'=true:=λz hz=>by
       obtain⟨j,hj,rfl⟩:=List.getElem_of_mem hz
       simp only[Value.cells,Array.length_toList] at hj
       have hk0:0<k:=Nat.pos_of_ne_zero (by rintro rfl;rw[Nat.mul_zero] at hl;omega)
       have hi:j / k<m:=by rw[Nat.div_lt_iff_lt_mul hk0];omega
       have hm:j % k<k:=Nat.mod_lt _ hk0
       have hjj:j / k*k+j % k=j:=by rw[Nat.mul_comm];exact Nat.div_add_mod j k
       have hlt:j % k<(get2 (j / k)).cells1.length:=by rw[(hk2 _ hi).len];exact hm
       have:=hrel2 (j / k) (j % k) (get2 (j / k)).cells1[j % k] ys[j] hi (by simp) (by rw[hjj];simp[hj])
       exact Ss (B:=B) (ι:=ι) (D:=H.dom) (YY (hk2 _ hi).one _ (List.getElem_mem hlt)) (.d (by simpa[Value.cells] using this))
      have e0:0*k+0=0:=by simp
      rw[e0]
      refine⟨_,nO hn (by simpa[Value.cells] using hl) hq (by omega) h1',vD hH hid hq (.row hk2 hnq (by simp[Value.cells,hl];omega) λi j a y hi ha hy=>?_)⟩
      have hlt:=(List.getElem?_eq_some_iff.1 ha).1
      rw[(hk2 i hi).len] at hlt
      have h2:(i+1)*k<=m*k:=Nat.mul_le_mul_right k hi
      have h3:(i+1)*k=i*k+k:=Nat.succ_mul i k
      rw[List.getElem?_toArray,VI (by simpa[Value.cells] using hl) (by simpa using hsz),if_pos (by omega)] at hy
      exact hrel2 i j a y hi ha (by simpa[Value.cells] using hy)
   ·cases h
  ·cases h
 ·rename_i id k i c d n _ hu hn
  split at h
  ·rename_i k' m get x hid
   split at h
   ·rename_i hc
    cases h
    simp only[Bool.and_eq_true,beq_iff_eq,Nat.ble_eq] at hc
    obtain⟨⟨⟨rfl,hlen⟩,hone⟩,hle⟩:=hc
    have hi:i<m:=hp
    cases hv
    have ho:=hH.obj _ _ hid
    generalize hq:w.heap[(ι id).b]?=q at ho
    cases ho with
    |row hk hnq hsz' hrel=>
     have hsz:=Nat.le_trans (Nat.mul_le_mul_right _ hnq) hsz'
     rename_i cs te
     have hxx:u.cells.size=n/\∀(j:Nat) (a:DVal) (z:Value),x.cells1[j]?=some a->u.cells[j]?=some z->DRel B a z:=by
      cases hx.d_inv with
      |v=>cases u<;>simp[DVal.cells1] at hlen<;>first
        |(refine⟨by simp[Value.cells,hlen],λj a z ha hz=>?_⟩;cases j with
          |zero=>simp[DVal.cells1,Value.cells] at ha hz;subst ha;subst hz;exact .v _
          |succ j=>simp[DVal.cells1] at ha)
        |simp[DVal.cells1,HJ] at hone
      |agg hl hr=>exact⟨by simpa[Value.cells,DVal.cells1,<-hlen] using hl,hr⟩
      |tup hl hr=>simp[DVal.cells1,HJ] at hone
      |arr _ _ _=>simp[DVal.cells1,HJ] at hone
      |nil a b=>exact⟨by simpa[Value.cells,DVal.cells1] using hlen,λj a z ha hz=>by
        cases j with
        |zero=>simp[DVal.cells1,Value.cells] at ha hz;subst ha;subst hz;exact .nil ‹_› ‹_›
        |succ j=>simp[DVal.cells1] at ha⟩
      |list a b c e f g h=>exact⟨by simpa[Value.cells,DVal.cells1] using hlen,λj a z ha hz=>by
        cases j with
        |zero=>simp[DVal.cells1,Value.cells] at ha hz;subst ha;subst hz;exact .list ‹_› ‹_› ‹_› ‹_› ‹_› ‹_› ‹_›
        |succ j=>simp[DVal.cells1] at ha⟩
      |eref a b c=>exact⟨by simpa[Value.cells,DVal.cells1] using hlen,λj a z ha hz=>by
        cases j with
        |zero=>simp[DVal.cells1,Value.cells] at ha hz;subst ha;subst hz;exact .eref ‹_› ‹_› ‹_›
        |succ j=>simp[DVal.cells1] at ha⟩
      |iface a=>exact⟨by simpa[Value.cells,DVal.cells1] using hlen,λj a z ha hz=>by
        cases j with
        |zero=>simp[DVal.cells1,Value.cells] at ha hz;subst ha;subst hz;exact .iface ‹_›
        |succ j=>simp[DVal.cells1] at ha⟩
      |anyB=>exact⟨by simpa[Value.cells,DVal.cells1] using hlen,λj a z ha hz=>by
        cases j with
        |zero=>simp[DVal.cells1,Value.cells] at ha hz;subst ha;subst hz;exact .anyB
        |succ j=>simp[DVal.cells1] at ha⟩
     obtain⟨h1,h2⟩:=hxx
     have h1':∀z∈u.cells.toList,z.oneCell'=true:=λz hz=>by
      obtain⟨j,hj,rfl⟩:=List.getElem_of_mem hz
      have hj':j<x.cells1.length:=by rw[hlen,<-h1];simpa using hj
      exact Ss (B:=B) (ι:=ι) (D:=H.dom) (YY hone _ (List.getElem_mem hj')) (.d (h2 j x.cells1[j] _ (by simp) (by simp at hj;simp[hj])))
     have h3:(i+1)*k<=m*k:=Nat.mul_le_mul_right k hi
     have h4:(i+1)*k=i*k+k:=Nat.succ_mul i k
     have hnew:(if n=k then x else AYN (get i) c x.cells1).cells1=(get i).cells1.take c ++ x.cells1 ++ (get i).cells1.drop (c+n):=by
      split
      ·rename_i hnk
       have:c=0:=by omega
       subst this
       have hki:=(hk i hi).len
       simp[hnk,<-hki]
      ·rw[ANY _ _ _ (VM hone) (by rw[(hk i hi).len,hlen];exact hle),hlen]
     refine⟨_,nO hn h1 hq (by omega) h1',vD hH hid hq (.row (λj hj=>?_) hnq (by simp;omega) λj l a y hj ha hy=>?_)⟩
     ·simp only[Ah]
      by_cases hji:j=i
      ·subst hji
       simp only[decide_true,cond_true]
       refine⟨?_,?_⟩
       ·rw[hnew];simp[(hk j hj).len,hlen];omega
       ·rw[hnew];exact ASQ (hk j hj).one hone
      ·simp only[hji,decide_false,cond_false];exact hk j hj
     ·simp only[Ah] at ha
      rw[List.getElem?_toArray,VI (by simpa using h1) (by simp;omega)] at hy
      by_cases hji:j=i
      ·subst hji
       simp only[decide_true,cond_true,hnew] at ha
       rw[VI hlen (by rw[(hk j hj).len];exact hle)] at ha
       split at ha
       ·rename_i hl
        rw[if_pos (by omega),show j*k+l-(j*k+c)=l-c by omega] at hy
        exact h2 _ _ _ ha (by simpa using hy)
       ·rename_i hl
        have hlt:=(List.getElem?_eq_some_iff.1 ha).1
        rw[(hk j hj).len] at hlt
        rw[if_neg (by omega)] at hy
        exact hrel _ _ _ _ hj ha (by simpa using hy)
      ·simp only[hji,decide_false,cond_false] at ha
       have hlt:=(List.getElem?_eq_some_iff.1 ha).1
       rw[(hk j hj).len] at hlt
       have:¬ (i*k+c<=j*k+l/\j*k+l<i*k+c+n):=by
        rcases Nat.lt_or_gt_of_ne hji with hlt2 | hgt
        ·have h5:(j+1)*k<=i*k:=Nat.mul_le_mul_right k hlt2
         have h6:(j+1)*k=j*k+k:=Nat.succ_mul j k
         omega
        ·have h5:(i+1)*k<=j*k:=Nat.mul_le_mul_right k hgt
         omega
       rw[if_neg this] at hy
       exact hrel _ _ _ _ hj ha (by simpa using hy)
   ·cases h
  ·cases h
 ·cases h
end Go.Sym

namespace Go.Sym
variable {P : Program} {B B' : Jk} {ι ι' : Nat -> Pl} {H H' : Heap} {D : Nat -> Prop} {w w' : World}
theorem BBP:∀(vs:List Value) (n off:Nat) (cs:Array Value),off+n+vs.length<=cs.size ->
  (vs.zipIdx n).foldl (λcs (x:Value×Nat)=>cs.setIfInBounds (off+x.2) x.1) cs=(cs.toList.take (off+n) ++ vs ++ cs.toList.drop (off+n+vs.length)).toArray
 |[],n,off,cs,_=>by simp
 |v :: vs,n,off,cs,h=>by
  simp only[List.zipIdx_cons,List.foldl_cons]
  rw[BBP vs (n+1) off _ (by simp at h ⊢;omega)]
  congr 1
  apply List.ext_getElem?
  intro j
  have h1:off+(n+1)+vs.length<=(cs.setIfInBounds (off+n) v).toList.length:=by simp at h ⊢;omega
  have h2:off+n+(v :: vs).length<=cs.toList.length:=by simpa using h
  rw[VI rfl h1,VI rfl h2]
  simp only[Array.toList_setIfInBounds,List.length_cons,List.getElem?_set]
  by_cases hj:j=off+n
  ·subst hj
   rw[if_neg (by omega),if_pos rfl,if_pos (by simp at h;simp;omega),if_pos (by omega)]
   simp
  ·by_cases hj2:off+(n+1)<=j/\j<off+(n+1)+vs.length
   ·rw[if_pos hj2,if_pos (by omega)]
    obtain⟨q,hq⟩:∃q,j-(off+n)=q+1:=⟨j-(off+n)-1,by omega⟩
    rw[hq,show j-(off+(n+1))=q by omega];rfl
   ·rw[if_neg hj2,if_neg (λe=>hj e.symm),if_neg (by omega)]
def zF(place:Nat->Option (Nat×Nat))(l:List AVal):List (Nat×AVal)->Option (List AVal)
 |[]=>some l
 |(i,a) :: rest=>match place i with
  |some (off,size)=>if a.noAgg&&a.cells.length==size&&Nat.ble (off+size) l.length then zF place (l.take off ++ a.cells ++ l.drop (off+size)) rest else none
  |none=>none
theorem So{place:Nat->Option (Nat×Nat)}:∀{pa:List (Nat×AVal)} {pv:List (Nat×Value)} {l r:List AVal} {cs:Array Value},zF place l pa=some r->pv.length=pa.length ->
  (∀(j:Nat) (x:Nat×AVal) (y:Nat×Value),pa[j]?=some x->pv[j]?=some y->x.1=y.1/\VRel B ι D x.2 y.2)->cs.size=l.length ->
  (∀(j:Nat) (x:AVal) (y:Value),l[j]?=some x->cs[j]?=some y->VRel B ι D x y) ->
  ∃ys,Instr.fill place cs pv=some ys/\ys.size=r.length/\∀(j:Nat) (x:AVal) (y:Value),r[j]?=some x->ys[j]?=some y->VRel B ι D x y
 |[],pv,l,r,cs,h,hl,_,hsz,hr=>by
  have:pv=[]:=by simpa using hl
  subst this
  simp only[zF,Option.some.injEq] at h;subst h
  exact⟨cs,rfl,hsz,hr⟩
 |(i,a) :: pa,pv,l,r,cs,h,hl,hp,hsz,hr=>by
  cases pv with
  |nil=>simp at hl
  |cons y pv=>
   obtain⟨i',v⟩:=y
   obtain⟨rfl,hv⟩:=hp 0 (i,a) (i',v) rfl rfl
   simp only[zF] at h
   split at h
   ·rename_i off size hpl
    split at h
    ·rename_i hc
     simp only[Bool.and_eq_true,beq_iff_eq,Nat.ble_eq] at hc
     obtain⟨⟨hna,hlen⟩,hle⟩:=hc
     obtain⟨h1,h2⟩:=I4 hv hna
     have hvs:v.cells.size=size:=by rw[h1,hlen]
     have key:=BBP v.cells.toList 0 off cs (by simp;omega)
     simp only[Nat.add_zero] at key
     have hf:Instr.fill place cs ((i,v) :: pv)=Instr.fill place (cs.toList.take off ++ v.cells.toList ++ cs.toList.drop (off+size)).toArray pv:=by
      simp only[Instr.fill,hpl]
      rw[if_neg (by simp only[Bool.or_eq_true,decide_eq_true_eq];omega)]
      congr 1
      rw[<-Array.foldl_toList,Array.toList_zipIdx,key]
      simp[hvs]
     rw[hf]
     refine So h (by simpa using hl) (λj x y hx hy=>hp (j+1) x y hx hy) (by simp;omega) λj x y hx hy=>?_
     rw[VI hlen hle] at hx
     rw[List.getElem?_toArray,VI (by simpa using hvs) (by simpa[hsz] using hle)] at hy
     split at hx
     ·rename_i hj
      rw[if_pos hj] at hy
      exact h2 _ _ _ hx (by simpa using hy)
     ·rename_i hj
      rw[if_neg hj] at hy
      exact hr _ _ _ hx (by simpa using hy)
    ·cases h
   ·cases h
theorem xK{place:Nat->Option (Nat×Nat)}:∀{pa:List (Nat×AVal)} {l r:List AVal},zF place l pa=some r->r.length=l.length
 |[],l,r,h=>by simp only[zF,Option.some.injEq] at h;rw[h]
 |(i,a) :: pa,l,r,h=>by
  simp only[zF] at h
  split at h
  ·split at h
   ·rename_i hc
    simp only[Bool.and_eq_true,beq_iff_eq,Nat.ble_eq] at hc
    rw[xK h];simp;omega
   ·cases h
  ·cases h
def BFL(P:Program)(t:TypeId)(pa:List (Nat×AVal)):Option (AVal×List Prop):=match P.underlying t,(P.info? t).bind (·.zero) with
 |some (.struct fields),some z=>match fields.toList.mapM (λf=>(P.info? f.type).map λi=>(f.offset,i.size)) with
  |some places=>match zF (places[·]?) (z.cells.toList.map λx=>.d (G8 x)) pa with
   |some r=>some (AOI r,[])
   |none=>none
  |none=>none
 |some (.array m e),some z=>match pa,(P.info? e).bind (·.zero) with
  |[],some ze=>if HJ (ofV ze).cells1 then some (.d (.arr ze.cells.size m λ_=>ofV ze),[z.cells.toList=(List.replicate m ze.cells.toList).flatten]) else none
  |_,_=>none
 |_,_=>none
theorem AWS{t:TypeId}{pa:List (Nat×AVal)}{parts:Array (Nat×Value)}{a:AVal}{pre:List Prop}(h:BFL P t pa=some (a,pre))(hpre:FT pre)(hl:parts.size=pa.length)
  (hp:∀(j:Nat) (x:Nat×AVal) (y:Nat×Value),pa[j]?=some x->parts[j]?=some y->x.1=y.1/\VRel B ι D x.2 y.2) (w:World) :
  ∃y,(Instr.build t parts).run P w=.ok y w/\VRel B ι D a y:=by
 unfold BFL at h
 split at h
 ·rename_i fields z hu hz
  split at h
  ·rename_i places hpl
   split at h
   ·rename_i r hf
    cases h
    obtain⟨ys,h1,h2,h3⟩:=So (pv:=parts.toList) (cs:=z.cells) hf (by simpa using hl) (λj x y hx hy=>hp j x y hx (by simpa using hy)) (by simp) (λj x y hx hy=>by
     simp only[List.getElem?_map,Option.map_eq_some_iff] at hx
     obtain⟨u,hu,rfl⟩:=hx
     rw[Array.getElem?_toList] at hu
     rw[hu] at hy;cases hy
     exact .d (Hu _))
    refine⟨.agg ys,run_build (P:=P) w t parts ys ?_,wA h2 h3⟩
    unfold Program.built
    cases hi:P.info? t with
    |none=>simp[hi] at hz
    |some it=>
     simp[hi] at hz
     simp only[hu,hz,hpl]
     simpa using h1
   ·cases h
  ·cases h
 ·rename_i m e z hu hz
  split at h
  ·rename_i ze hze
   split at h
   case isFalse=>cases h
   rename_i hone
   cases h
   have hp':z.cells.toList=(List.replicate m ze.cells.toList).flatten:=hpre
   have:parts=#[]:=by simpa using hl
   subst this
   refine⟨.agg z.cells,run_build (P:=P) w t #[] z.cells ?_,.d (.arr ?_ ?_ ?_)⟩
   ·unfold Program.built
    cases hi:P.info? t with
    |none=>simp[hi] at hz
    |some it=>
     simp[hi] at hz
     cases hie:P.info? e with
     |none=>simp[hie] at hze
     |some ie=>simp[hu,hz,hie,Instr.fill]
   ·have:=congrArg List.length hp';simp at this;omega
   ·exact λi _=>⟨XI ze,hone⟩
   ·intro i j x y hi hx hy
    have hlt:=(List.getElem?_eq_some_iff.1 hx).1
    rw[XI] at hlt
    rw[<-Array.getElem?_toList,hp',KY (by simp) m i j hi (by simpa using hlt),Array.getElem?_toList] at hy
    exact Y8 ze j x y hx hy
  ·cases h
 ·cases h
def BIH(ds:List DVal):DVal:=match ds with
 |[d]=>d
 |ds=>.agg ds
theorem AST{ds:List DVal}(h:HJ ds=true):(BIH ds).cells1=ds:=by
 unfold BIH;split
 ·exact VM h _ (by simp)
 ·rfl
def AQV(k:Nat):Nat->List AVal->Option (List DVal)
 |0,_=>some []
 |n+1,l=>match allD (l.take k),AQV k n (l.drop k) with
  |some ds,some es=>if ds.length==k&&HJ ds then some (BIH ds :: es) else none
  |_,_=>none
theorem kU{k:Nat}:∀{n:Nat} {l:List AVal} {es:List DVal},AQV k n l=some es->es.length=n/\∀(i:Nat) (e:DVal),es[i]?=some e ->
  EOk k e/\∀(j:Nat) (x:DVal),e.cells1[j]?=some x->l[i*k+j]?=some (.d x)
 |0,_,es,h=>by simp[AQV] at h;subst h;simp
 |n+1,l,es,h=>by
  simp only[AQV] at h
  split at h
  ·rename_i ds es' hd he
   split at h
   ·rename_i hc
    cases h
    simp only[Bool.and_eq_true,beq_iff_eq] at hc
    obtain⟨h1,h2⟩:=kU he
    refine⟨by simp[h1],λi e hie=>?_⟩
    have hdl:=xG hd
    cases i with
    |zero=>
     simp at hie;subst hie
     have hcc:=AST hc.2
     refine⟨⟨by rw[hcc];exact hc.1,by rw[hcc];exact hc.2⟩,λj x hx=>?_⟩
     rw[hcc] at hx
     have hj:=(List.getElem?_eq_some_iff.1 hx).1
     have:(l.take k)[j]?=some (.d x):=by rw[hdl];simp[hx]
     rw[List.getElem?_take,if_pos (by omega)] at this
     simpa using this
    |succ i=>
     simp at hie
     obtain⟨h3,h4⟩:=h2 i e hie
     refine⟨h3,λj x hx=>?_⟩
     have:=h4 j x hx
     rw[List.getElem?_drop] at this
     rw[Nat.succ_mul,show i*k+k+j=k+(i*k+j) by omega]
     exact this
   ·cases h
  ·cases h
def AAY:List DVal->Nat->DVal
 |[],_=>default
 |[x],_=>x
 |x :: y :: r,i=>sA (decide (i=0)) x (AAY (y :: r) (i-1))
theorem AAX:∀(es:List DVal) (i:Nat),i<es.length->AAY es i=es.getD i default
 |[],i,h=>by simp at h
 |[x],i,h=>by
  have:i=0:=by simpa using h
  subst this;rfl
 |x :: y :: r,0,_=>by simp[AAY,Ah]
 |x :: y :: r,i+1,h=>by
  have:=AAX (y :: r) i (by simpa using h)
  simp[AAY,Ah,this]
def XW(P:Program)(r:Nat)(t:TypeId)(len:Nat)(pa:List (Nat×AVal)):Option Eff:=match P.underlying t with
 |some (.slice e)=>match (P.info? e).map (·.size),(P.info? e).bind (·.zero) with
  |some k,some z=>
   if Nat.ble (len*k) 4096&&Nat.blt 0 k&&z.cells.size==k then
    match zF (λi=>some (i*k,k)) (List.replicate len (z.cells.toList.map λx=>AVal.d (G8 x))).flatten pa with
    |some l=>match AQV k len l with
     |some es=>some ⟨.own r k 0 len,[(r,.live (.row k len (AAY es)))],[]⟩
     |none=>none
    |none=>none
   else none
  |_,_=>none
 |_=>none
theorem ACT(z:Array Value)(n k:Nat)(hk:z.size=k)(h0:0<k):((Array.range (n*k)).map λi=>z[i % z.size]!).toList=(List.replicate n z.toList).flatten:=by
 apply List.ext_getElem?
 intro j
 by_cases hj:j<n*k
 ·have hi:j / k<n:=by rw[Nat.div_lt_iff_lt_mul h0];omega
  have hm:j % k<k:=Nat.mod_lt _ h0
  have hjj:j / k*k+j % k=j:=by rw[Nat.mul_comm];exact Nat.div_add_mod j k
  have:=KY (l:=z.toList) (k:=k) (by simpa using hk) n (j / k) (j % k) hi hm
  rw[hjj] at this
  rw[this]
  simp[hj,hk,hm]
 ·rw[List.getElem?_eq_none (by simp;omega),List.getElem?_eq_none (by simp[hk];omega)]
theorem ACF{r:Nat}{t:TypeId}{len:Nat}{pa:List (Nat×AVal)}{parts:Array (Nat×Value)}{e:Eff}(h:XW P r t len pa=some e)(hr:H r=.none)(hH:HRel B ι H w)
  (hl:parts.size=pa.length) (hp:∀(j:Nat) (x:Nat×AVal) (y:Nat×Value),pa[j]?=some x->parts[j]?=some y->x.1=y.1/\VRel B ι H.dom x.2 y.2) :
  ∃y w',(Instr.buildSlice t len parts).run P w=.ok y w'/\Bx B ι H w (KP H e.upd) e.val y w':=by
 unfold XW at h
 split at h
 ·rename_i el hu
  split at h
  ·rename_i k z hk hz
   split at h
   ·rename_i hc
    simp only[Bool.and_eq_true,beq_iff_eq,Nat.ble_eq,Nat.blt_eq] at hc
    obtain⟨⟨hc1,hc2⟩,hc3⟩:=hc
    split at h
    ·rename_i l hf
     split at h
     ·rename_i es he
      cases h
      obtain⟨ys,h1,h2,h3⟩:=So (pv:=parts.toList) (cs:=(Array.range (len*k)).map λi=>z.cells[i % z.cells.size]!) hf (by simpa using hl) (λj x y hx hy=>hp j x y hx (by simpa using hy))
       (by simp[hc3]) (λj x y hx hy=>by
        rw[<-Array.getElem?_toList,ACT z.cells len k hc3 hc2] at hy
        have hlt:=(List.getElem?_eq_some_iff.1 hx).1
        simp[hc3] at hlt
        have hi:j / k<len:=by rw[Nat.div_lt_iff_lt_mul hc2];omega
        have hm:j % k<k:=Nat.mod_lt _ hc2
        have hjj:j / k*k+j % k=j:=by rw[Nat.mul_comm];exact Nat.div_add_mod j k
        rw[<-hjj,KY (by simp[hc3]) len _ _ hi hm] at hx
        rw[<-hjj,KY (by simp[hc3]) len _ _ hi hm] at hy
        simp only[List.getElem?_map,Option.map_eq_some_iff] at hx
        obtain⟨u,hu,rfl⟩:=hx
        rw[hu] at hy;cases hy
        exact .d (Hu _))
      obtain⟨hn,hes⟩:=kU he
      have hlen:l.length=len*k:=by rw[xK hf];simp[hc3]
      have hnz:¬ len*k>2 ^ 24:=by omega
      have hkz:(sizeOf el).run P w=.ok k w:=LF hk w
      refine⟨.slice (some ⟨w.heap.size,0,none⟩) len len,w.alloc (.cells ys el),?_,?_⟩
      ·have e1:∀zz:Array Value,(len*k=0∨zz=z.cells)->Instr.fill (λi=>some (i*k,k)) (Array.map (λi=>zz[i % zz.size]!) (Array.range (len*k))) parts.toList=some ys:=by
        rintro zz (h0 | rfl)
        ·rw[h0] at h1 ⊢
         rw[show Array.range 0=#[] from rfl,Array.map_empty] at h1 ⊢;exact h1
        ·exact h1
       by_cases h0:len*k=0
       ·have h1':=e1 #[] (.inl h0)
        rw[h0] at h1'
        simp[Instr.buildSlice,run_underlying hu,hkz,h0,newRow]
        simp at h1'
        simp[h1']
       ·simp only[Instr.buildSlice,Sem.run_bind,run_underlying hu,Result.andThen_ok,hkz,if_neg hnz,if_neg h0,Sem.run_pure,uE hz,h1,newRow,run_newObj]
        simp
      ·obtain⟨B',ι',m1,m2,m3⟩:=wS (k:=k) (n:=len) (get:=AAY es) (cs:=ys) hr hH len el
        (λi hi=>by
         have:es[i]?=some es[i]:=by simp[hn,hi]
         have h5:=(hes i _ this).1
         rw[AAX es i (by omega)]
         simpa[List.getD,this] using h5) (Nat.le_refl _) (by omega) (λi j x y hi hx hy=>by
         have:es[i]?=some es[i]:=by simp[hn,hi]
         refine (h3 (i*k+j) (.d x) y ((hes i _ this).2 j x ?_) hy).d_inv
         rw[AAX es i (by omega)] at hx
         simpa[List.getD,this] using hx)
       refine⟨B',ι',m1,?_⟩
       have:=VRel.own (B:=B') (ι:=ι') (D:=(IV H r (.live (.row k len (AAY es)))).dom) (k:=k) (i:=0) (n:=len) (cap:=len) m2 (Nat.le_refl _) (by rw[m3];simp)
       rw[m3,show 0*k=0 by simp] at this;exact this
     ·cases h
    ·cases h
   ·cases h
  ·cases h
 ·cases h
def ADI(P:Program)(r:Nat)(t:TypeId)(len:Nat)(pa:List (Nat×AVal)):Option Eff:=match P.underlying t with
 |some (.slice e)=>match (P.info? e).map (·.size),(P.info? e).bind (·.zero) with
  |some k,some z=>
   if Nat.ble (len*k) 4096&&Nat.blt 0 k&&z.cells.size==k then
    match zF (λi=>some (i*k,k)) (List.replicate len (z.cells.toList.map λx=>AVal.d (G8 x))).flatten pa with
    |some l=>some ⟨.own r k 0 len,[(r,.live (.box l))],[]⟩
    |none=>none
   else none
  |_,_=>none
 |_=>none
theorem AKV{r:Nat}{t:TypeId}{len:Nat}{pa:List (Nat×AVal)}{parts:Array (Nat×Value)}{e:Eff}(h:ADI P r t len pa=some e)(hr:H r=.none)(hH:HRel B ι H w)
  (hl:parts.size=pa.length) (hp:∀(j:Nat) (x:Nat×AVal) (y:Nat×Value),pa[j]?=some x->parts[j]?=some y->x.1=y.1/\VRel B ι H.dom x.2 y.2) :
  ∃y w',(Instr.buildSlice t len parts).run P w=.ok y w'/\Bx B ι H w (KP H e.upd) e.val y w':=by
 unfold ADI at h
 split at h
 ·rename_i el hu
  split at h
  ·rename_i k z hk hz
   split at h
   ·rename_i hc
    simp only[Bool.and_eq_true,beq_iff_eq,Nat.ble_eq,Nat.blt_eq] at hc
    obtain⟨⟨hc1,hc2⟩,hc3⟩:=hc
    split at h
    ·rename_i l hf
     cases h
     obtain⟨ys,h1,h2,h3⟩:=So (pv:=parts.toList) (cs:=(Array.range (len*k)).map λi=>z.cells[i % z.cells.size]!) hf (by simpa using hl) (λj x y hx hy=>hp j x y hx (by simpa using hy))
      (by simp[hc3]) (λj x y hx hy=>by
       rw[<-Array.getElem?_toList,ACT z.cells len k hc3 hc2] at hy
       have hlt:=(List.getElem?_eq_some_iff.1 hx).1
       simp[hc3] at hlt
       have hi:j / k<len:=by rw[Nat.div_lt_iff_lt_mul hc2];omega
       have hm:j % k<k:=Nat.mod_lt _ hc2
       have hjj:j / k*k+j % k=j:=by rw[Nat.mul_comm];exact Nat.div_add_mod j k
       rw[<-hjj,KY (by simp[hc3]) len _ _ hi hm] at hx
       rw[<-hjj,KY (by simp[hc3]) len _ _ hi hm] at hy
       simp only[List.getElem?_map,Option.map_eq_some_iff] at hx
       obtain⟨u,hu,rfl⟩:=hx
       rw[hu] at hy;cases hy
       exact .d (Hu _))
     have hlen:l.length=len*k:=by rw[xK hf];simp[hc3]
     have hnz:¬ len*k>2 ^ 24:=by omega
     have hkz:(sizeOf el).run P w=.ok k w:=LF hk w
     refine⟨.slice (some ⟨w.heap.size,0,none⟩) len len,w.alloc (.cells ys el),?_,?_⟩
     ·have e1:∀zz:Array Value,(len*k=0∨zz=z.cells)->Instr.fill (λi=>some (i*k,k)) (Array.map (λi=>zz[i % zz.size]!) (Array.range (len*k))) parts.toList=some ys:=by
       rintro zz (h0 | rfl)
       ·rw[h0] at h1 ⊢
        rw[show Array.range 0=#[] from rfl,Array.map_empty] at h1 ⊢;exact h1
       ·exact h1
      by_cases h0:len*k=0
      ·have h1':=e1 #[] (.inl h0)
       rw[h0] at h1'
       simp[Instr.buildSlice,run_underlying hu,hkz,h0,newRow]
       simp at h1'
       simp[h1']
      ·simp only[Instr.buildSlice,Sem.run_bind,run_underlying hu,Result.andThen_ok,hkz,if_neg hnz,if_neg h0,Sem.run_pure,uE hz,h1,newRow,run_newObj]
       simp
     ·refine⟨B,yH ι r ⟨w.heap.size,len⟩,Moved.new hH hr (.box (by omega) λj x y hx hy=>(h3 j x y hx hy).mono (λ_ _ h=>h) (BTF hr)),?_⟩
      have:=VRel.own (B:=B) (ι:=yH ι r ⟨w.heap.size,len⟩) (D:=(IV H r (.live (.box l))).dom) (id:=r) (k:=k) (i:=0) (n:=len) (cap:=len) (ALS _) (Nat.le_refl _) (by rw[LU];simp)
      rw[LU,show 0*k=0 by simp] at this;exact this
    ·cases h
   ·cases h
  ·cases h
 ·cases h
theorem qG{r:Nat}{t:TypeId}{len:Nat}{pa:List (Nat×AVal)}{parts:Array (Nat×Value)}{e:Eff}(h:XW P r t len pa=some e)(hH:HRel B ι H w)
  (hl:parts.size=pa.length) (hp:∀(j:Nat) (x:Nat×AVal) (y:Nat×Value),pa[j]?=some x->parts[j]?=some y->x.1=y.1/\VRel B ι H.dom x.2 y.2) :
  ∃k n get y w',e=⟨.own r k 0 n,[(r,.live (.row k n get))],[]⟩/\(Instr.buildSlice t len parts).run P w=.ok y w'/\Bx B ι H w H (.d (.list k n get true)) y w':=by
 unfold XW at h
 split at h
 ·rename_i el hu
  split at h
  ·rename_i k z hk hz
   split at h
   ·rename_i hc
    simp only[Bool.and_eq_true,beq_iff_eq,Nat.ble_eq,Nat.blt_eq] at hc
    obtain⟨⟨hc1,hc2⟩,hc3⟩:=hc
    split at h
    ·rename_i l hf
     split at h
     ·rename_i es he
      cases h
      obtain⟨ys,h1,h2,h3⟩:=So (pv:=parts.toList) (cs:=(Array.range (len*k)).map λi=>z.cells[i % z.cells.size]!) hf (by simpa using hl) (λj x y hx hy=>hp j x y hx (by simpa using hy))
       (by simp[hc3]) (λj x y hx hy=>by
        rw[<-Array.getElem?_toList,ACT z.cells len k hc3 hc2] at hy
        have hlt:=(List.getElem?_eq_some_iff.1 hx).1
        simp[hc3] at hlt
        have hi:j / k<len:=by rw[Nat.div_lt_iff_lt_mul hc2];omega
        have hm:j % k<k:=Nat.mod_lt _ hc2
        have hjj:j / k*k+j % k=j:=by rw[Nat.mul_comm];exact Nat.div_add_mod j k
        rw[<-hjj,KY (by simp[hc3]) len _ _ hi hm] at hx
        rw[<-hjj,KY (by simp[hc3]) len _ _ hi hm] at hy
        simp only[List.getElem?_map,Option.map_eq_some_iff] at hx
        obtain⟨u,hu,rfl⟩:=hx
        rw[hu] at hy;cases hy
        exact .d (Hu _))
      obtain⟨hn,hes⟩:=kU he
      have hlen:l.length=len*k:=by rw[xK hf];simp[hc3]
      have hnz:¬ len*k>2 ^ 24:=by omega
      have hkz:(sizeOf el).run P w=.ok k w:=LF hk w
      refine⟨k,len,AAY es,.slice (some ⟨w.heap.size,0,none⟩) len len,w.alloc (.cells ys el),rfl,?_,?_⟩
      ·have e1:∀zz:Array Value,(len*k=0∨zz=z.cells)->Instr.fill (λi=>some (i*k,k)) (Array.map (λi=>zz[i % zz.size]!) (Array.range (len*k))) parts.toList=some ys:=by
        rintro zz (h0 | rfl)
        ·rw[h0] at h1 ⊢
         rw[show Array.range 0=#[] from rfl,Array.map_empty] at h1 ⊢;exact h1
        ·exact h1
       by_cases h0:len*k=0
       ·have h1':=e1 #[] (.inl h0)
        rw[h0] at h1'
        simp[Instr.buildSlice,run_underlying hu,hkz,h0,newRow]
        simp at h1'
        simp[h1']
       ·simp only[Instr.buildSlice,Sem.run_bind,run_underlying hu,Result.andThen_ok,hkz,if_neg hnz,if_neg h0,Sem.run_pure,uE hz,h1,newRow,run_newObj]
        simp
      ·have hget:∀i,i<len->es[i]?=some (AAY es i):=λi hi=>by
        have:es[i]?=some es[i]:=by simp[hn,hi]
        rw[AAX es i (by omega),List.getD_eq_getElem?_getD,this];rfl
       refine⟨_,ι,Moved.newImm hH ys el,.d ?_⟩
       rcases Nat.eq_zero_or_pos len with h0 | h0
       ·subst h0;exact .nil (λ_=>rfl) (.inl rfl)
       ·refine .list (c:=ys) h0 (by simp) (Nat.le_refl _) (λ_=>rfl) (λi hi=>(hes i _ (hget i hi)).1) (by omega) λi j x y hi hx hy=>?_
        rw[Nat.zero_add] at hy
        exact ((h3 (i*k+j) (.d x) y ((hes i _ (hget i hi)).2 j x hx) hy).d_inv).mono (Moved.newImm hH ys el).bm
     ·cases h
    ·cases h
   ·cases h
  ·cases h
 ·cases h
end Go.Sym

namespace Go.Sym
variable {P : Program} {B B' : Jk} {ι ι' : Nat -> Pl} {H H' : Heap} {D : Nat -> Prop} {w w' : World}
def srcA(H:Heap):AVal->Option (Nat×Nat×(Nat->DVal)×Prop)
 | .own id k j m=>match H id with
  | .live (.row k' n get)=>if k==k' then some (k,m,λi=>get (j+i),j+m<=n) else none
  |_=>none
 | .d (.list k m get _)=>some (k,m,get,True)
 |_=>none
structure Src(B:Jk)(w:World)(k m:Nat)(get:Nat->DVal)(v:Value)(base:Option Addr)(cap:Nat)(news:List Value):Prop where
 val:v=.slice base m cap
 len:news.length=m*k
 some:0<m->∃b o,base=some ⟨b,o,none⟩
 cells:∀a,base=Option.some a->∀(j:Nat) (u:Value),news[j]?=Option.some u->w.cell? (a.add j)=Option.some u
 rel:∀(i j:Nat) (x:DVal) (y:Value),i<m->(get i).cells1[j]?=Option.some x->news[i*k+j]?=Option.some y->DRel B x y
 ok:∀i,i<m->EOk k (get i)
theorem Hc{α:Type}{l:List α}{o n j:Nat}(hj:j<n):((l.drop o).take n)[j]?=l[o+j]?:=by
 rw[List.getElem?_take,if_pos hj,List.getElem?_drop]
theorem zM{x:AVal}{k m:Nat}{get:Nat->DVal}{pre:Prop}{v:Value}(h:srcA H x=some (k,m,get,pre))(hp:pre)(hv:VRel B ι H.dom x v)(hH:HRel B ι H w) :
  ∃base cap news,Src B w k m get v base cap news:=by
 have hadd:∀b o j,(⟨b,o,none⟩:Addr).add j=⟨b,o+j,none⟩:=λb o j=>Se b o j
 unfold srcA at h
 split at h
 ·rename_i id k0 j m0
  split at h
  ·rename_i k' n get0 hid
   split at h
   ·rename_i hk
    have hk:k0=k':=by simpa using hk
    subst hk
    simp only[Option.some.injEq,Prod.mk.injEq] at h
    obtain⟨rfl,rfl,rfl,rfl⟩:=h
    cases hv
    rename_i cap hD hcap hq
    have ho:=hH.obj _ _ hid
    generalize hq':w.heap[(ι id).b]?=q at ho
    cases ho with
    |row hkk hn hsz hrel=>
     rename_i c e
     have h1:(j+m0)*k0<=n*k0:=Nat.mul_le_mul_right k0 hp
     have h2:n*k0<=(ι id).cap*k0:=Nat.mul_le_mul_right k0 hn
     have h3:(j+m0)*k0=j*k0+m0*k0:=Nat.add_mul j m0 k0
     refine⟨_,_,(c.toList.drop (j*k0)).take (m0*k0),rfl,by simp;omega,λ_=>⟨_,_,rfl⟩,?_,?_,λi hi=>hkk _ (by omega)⟩
     ·rintro a ha l u hu
      cases ha
      rw[hadd,VC hq']
      have hl:=(List.getElem?_eq_some_iff.1 hu).1
      simp at hl
      rw[Hc (by omega)] at hu
      simpa using hu
     ·intro i l x y hi hx hy
      have hlt:=(List.getElem?_eq_some_iff.1 hx).1
      rw[(hkk (j+i) (by omega)).len] at hlt
      have h4:(i+1)*k0<=m0*k0:=Nat.mul_le_mul_right k0 hi
      have h5:(i+1)*k0=i*k0+k0:=Nat.succ_mul i k0
      have h6:(j+i)*k0=j*k0+i*k0:=Nat.add_mul j i k0
      rw[Hc (by omega)] at hy
      refine hrel (j+i) l x y (by omega) hx ?_
      rw[h6,Nat.add_assoc];simpa using hy
   ·cases h
  ·cases h
 ·rename_i k0 m0 get0 ex
  simp only[Option.some.injEq,Prod.mk.injEq] at h
  obtain⟨rfl,rfl,rfl,rfl⟩:=h
  cases hv with
  |d hd=>
   cases hd with
   |nil hex hbase=>
    exact⟨_,_,[],rfl,by simp,λh=>absurd h (Nat.lt_irrefl 0),λ_ _ _ _ h=>by simp at h,λ_ _ _ _ h=>absurd h (Nat.not_lt_zero _),λ_ h=>absurd h (Nat.not_lt_zero _)⟩
   |list hn hb hcap hex hkk hsz hrel=>
    rename_i b off cap c
    obtain⟨e,fr,hq⟩:=hH.imm _ _ hb
    refine⟨_,_,(c.toList.drop off).take (m0*k0),rfl,by simp;omega,λ_=>⟨_,_,rfl⟩,?_,?_,hkk⟩
    ·rintro a ha l u hu
     cases ha
     rw[hadd,VC hq]
     have hl:=(List.getElem?_eq_some_iff.1 hu).1
     simp at hl
     rw[Hc (by omega)] at hu
     simpa using hu
    ·intro i l x y hi hx hy
     have hlt:=(List.getElem?_eq_some_iff.1 hx).1
     rw[(hkk i hi).len] at hlt
     have h4:(i+1)*k0<=m0*k0:=Nat.mul_le_mul_right k0 hi
     have h5:(i+1)*k0=i*k0+k0:=Nat.succ_mul i k0
     rw[Hc (by omega)] at hy
     refine hrel i l x y hi hx ?_
     rw[Nat.add_assoc];simpa using hy
 ·cases h
theorem CGR{k m:Nat}{get:Nat->DVal}{v:Value}{base:Option Addr}{cap:Nat}{news:List Value}(h:Src B w k m get v base cap news)(hk:0<k):∀u∈news,u.oneCell'=true:=by
 intro u hu
 obtain⟨j,hj,rfl⟩:=List.getElem_of_mem hu
 have hl:=h.len
 have hi:j / k<m:=by rw[Nat.div_lt_iff_lt_mul hk];omega
 have hm:j % k<k:=Nat.mod_lt _ hk
 have hjj:j / k*k+j % k=j:=by rw[Nat.mul_comm];exact Nat.div_add_mod j k
 have hlt:j % k<(get (j / k)).cells1.length:=by rw[(h.ok _ hi).len];exact hm
 have:=h.rel (j / k) (j % k) (get (j / k)).cells1[j % k] news[j] hi (by simp) (by rw[hjj];simp)
 exact Ss (B:=B) (ι:=λ_=>⟨0,0⟩) (D:=λ_=>True) (YY (h.ok _ hi).one _ (List.getElem_mem hlt)) (.d this)
def catD(n:Nat)(get PN:Nat->DVal):Nat->DVal:=λi=>sA (decide (i<n)) (get i) (PN (i-n))
theorem ANX{k n m:Nat}{get PN:Nat->DVal}{olds news:List Value}(ho:olds.length=n*k)(hok1:∀i,i<n->EOk k (get i))(hok2:∀i,i<m->EOk k (PN i))
  (h1:∀(i j:Nat) (x:DVal) (y:Value),i<n->(get i).cells1[j]?=some x->olds[i*k+j]?=some y->DRel B x y)
  (h2:∀(i j:Nat) (x:DVal) (y:Value),i<m->(PN i).cells1[j]?=some x->news[i*k+j]?=some y->DRel B x y) (rest:List Value) (hn:news.length=m*k) :
  (∀i,i<n+m->EOk k (catD n get PN i)) /\
   ∀(i j:Nat) (x:DVal) (y:Value),i<n+m->(catD n get PN i).cells1[j]?=some x->(olds ++ news ++ rest)[i*k+j]?=some y->DRel B x y:=by
 have hok:∀i,i<n+m->EOk k (catD n get PN i):=λi hi=>by
  unfold catD;rw[Ah]
  by_cases h:i<n
  ·simp only[h,decide_true,cond_true];exact hok1 i h
  ·simp only[h,decide_false,cond_false];exact hok2 _ (by omega)
 refine⟨hok,λi j x y hi hx hy=>?_⟩
 have hlt:=(List.getElem?_eq_some_iff.1 hx).1
 rw[(hok i hi).len] at hlt
 unfold catD at hx;rw[Ah] at hx
 by_cases h:i<n
 ·simp only[h,decide_true,cond_true] at hx
  have h3:(i+1)*k<=n*k:=Nat.mul_le_mul_right k h
  have h4:(i+1)*k=i*k+k:=Nat.succ_mul i k
  rw[List.append_assoc,List.getElem?_append_left (by omega)] at hy
  exact h1 i j x y h hx hy
 ·simp only[h,decide_false,cond_false] at hx
  obtain⟨q,rfl⟩:∃q,i=n+q:=⟨i-n,by omega⟩
  have hq:q<m:=by omega
  have h3:(q+1)*k<=m*k:=Nat.mul_le_mul_right k hq
  have h4:(q+1)*k=q*k+k:=Nat.succ_mul q k
  have h5:(n+q)*k=n*k+q*k:=Nat.add_mul n q k
  rw[List.getElem?_append_left (by simp;omega),List.getElem?_append_right (by omega),show (n+q)*k+j-olds.length=q*k+j by omega] at hy
  rw[show n+q-n=q by omega] at hx
  exact h2 q j x y hq hx hy
def dstA(H:Heap):AVal->Option (Option Nat×Nat×Nat×(Nat->DVal)×Prop)
 | .d (.list k n get true)=>some (none,k,n,get,True)
 | .own id k 0 n=>match H id with
  | .live (.row k' n' get)=>if k==k' then some (some id,k,n,get,n=n') else none
  |_=>none
 |_=>none
def AAT(P:Program)(H:Heap)(r:Nat)(mt:Bool)(t t2:TypeId)(s x:AVal):Option Eff:=
 if t==t2 then match P.underlying t with
  |some (.slice e)=>match (P.info? e).map (·.size),(P.info? e).map (·.bytes),(P.info? e).bind (·.zero),dstA H s,srcA H x with
   |some k,some bytes,some z,some (oid,k1,n,get,p1),some (k2,m,PN,p2)=>
    if (oid.isNone||k1==k)&&Nat.blt 0 k&&z.cells.size==k then
     some ⟨if mt then .own r k 0 (n+m) else .d (.list k (n+m) (catD n get PN) (Nat.beq m 0&&oid.isNone)),
      (match oid with | some id=>[(id,HCell.dead)] | none=>[]) ++ (if mt then [(r,HCell.live (.row k (n+m) (catD n get PN)))] else []),
      [(p1/\(0<n->k1=k))/\(p2/\(0<m->k2=k))/\((mt&&oid.isNone)=true->0<m)/\n+m<=9223372036854775807/\(n+m)*bytes<=140737488355328]⟩
    else none
   |_,_,_,_,_=>none
  |_=>none
 else none
theorem AQY{t ty e:TypeId}{i:TypeInfo}{z:Value}(ht:P.underlying t=some (.slice e))(hi:P.info? e=some i)(hz:i.zero=some z){k n m cap c2:Nat}(hk:i.size=k)
  {base base2:Option Addr} {olds news:List Value} (hlo:olds.length=n*k) (ho:∀a,base=some a->∀(j:Nat) (u:Value),olds[j]?=some u->w.cell? (a.add j)=some u) (hb0:0<n->base≠none)
  (hcap:n<=cap) (hb1:base=none->cap=0) (hln:news.length=m*k) (hn:∀a,base2=some a->∀(j:Nat) (u:Value),news[j]?=some u->w.cell? (a.add j)=some u) (hb2:0<m->base2≠none)
  (h63:n+m<=9223372036854775807) (hby:(n+m)*i.bytes<=140737488355328) :
  (m=0/\(Builtin.append_ #[t,t] ty #[.slice base n cap,.slice base2 m c2]).run P w=.ok (.slice base n cap) w) ∨
  (0<m/\n+m<=cap) ∨
  (0<m/\∃q,n+m<=q/\(Builtin.append_ #[t,t] ty #[.slice base n cap,.slice base2 m c2]).run P w =
   .ok (.slice (some ⟨w.heap.size,0,none⟩) (n+m) q) (w.drew.alloc (.cells (olds ++ news ++ (Builtin.zeroCells z.cells (q-(n+m))).toList).toArray e))):=by
 subst hk
 rcases Nat.eq_zero_or_pos m with rfl | hm
 ·left
  refine⟨rfl,?_⟩
  cases base with
  |none=>cases base2<;>simp[Builtin.append_,run_underlying ht,sizeOf,typeInfo,hi,Builtin.lenOf,hcap,Builtin.firstCells,loadCells,loadCellsFrom]
  |some a=>cases base2<;>simp[Builtin.append_,run_underlying ht,sizeOf,typeInfo,hi,Builtin.lenOf,hcap,Builtin.firstCells,loadCells,loadCellsFrom,storeCells]
 ·right
  by_cases hroom:n+m<=cap
  ·exact .inl ⟨hm,hroom⟩
  ·right
   refine⟨hm,?_⟩
   obtain⟨a2,ha2⟩:=Option.ne_none_iff_exists'.1 (hb2 hm)
   subst ha2
   cases base with
   |none=>
    have hc:=hb1 rfl
    have hn0:n=0:=by omega
    subst hn0;subst hc
    have hol:olds=[]:=by simpa using hlo
    subst hol
    have:=run_append_nil (P:=P) w t ty e i z ht hi hz a2 m c2 news hln (hn a2 rfl) hm (by omega) (by simp at hby;omega)
    refine⟨grownCap w m 0 e,by simpa using grownCap_ge w m 0 e,?_⟩
    simp only[Nat.zero_add,List.nil_append]
    rw[this]
    congr 2
    simp
   |some a=>
    have:=run_append_grow (P:=P) w t ty e i z ht hi hz a n cap olds hlo (ho a rfl) a2 m c2 news hln (hn a2 rfl) (by omega) (by omega) (growslice_fits (by omega) hby)
    refine⟨grownCap w (n+m) cap e,grownCap_ge _ _ _ _,?_⟩
    rw[this]
    congr 2
    simp
end Go.Sym
