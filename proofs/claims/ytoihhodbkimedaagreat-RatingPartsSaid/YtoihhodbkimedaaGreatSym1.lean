/- Abstract values, abstract heaps, and what it means that they stand for a world. -/
import Derived.Orders
import Derived.Laws.Sem
import Derived.Laws.Entries
import Derived.Laws.Cells
import Derived.Laws.Tables
import Derived.Laws.CopyRow
import Derived.Laws.World
set_option linter.unusedVariables false
set_option linter.unusedSimpArgs false
namespace Go.Sym
inductive DVal where
 |v (x:Value)
 |agg (ds:List DVal)
 |tup (ds:List DVal)
 |list (k n:Nat) (get:Nat->DVal) (ex:Bool)
 |eref (d:DVal) (c:Nat)
 |arr (k n:Nat) (get:Nat->DVal)
 |iface (t:TypeId) (d:DVal)
 |anyB
 deriving Inhabited
def DVal.cells1:DVal->List DVal
 | .agg ds=>ds
 |d=>[d]
def HJ:List DVal->Bool
 |[]=>true
 | .v (.agg _) :: _ | .v (.tuple _) :: _ | .agg _ :: _ | .tup _ :: _ | .arr .. :: _=>false
 |_ :: r=>HJ r
structure EOk(k:Nat)(d:DVal):Prop where
 len:d.cells1.length=k
 one:HJ d.cells1=true
def DVal.cells:DVal->List DVal
 | .agg ds=>ds
 | .arr _ n get=>(List.range n).flatMap λj=>(get j).cells1
 |d=>[d]
@[reducible] def DVal.int (n:Int):DVal:=.v (.int .i64 n)
@[reducible] def DVal.bool (b:Bool):DVal:=.v (.bool b)
def FT:List Prop->Prop
 |[]=>True
 |[p]=>p
 |p :: r=>p/\FT r
abbrev Jk:=Nat->Option (Array Value)
inductive DRel(B:Jk):DVal->Value->Prop
 |v (x:Value):DRel B (.v x) x
 |agg {ds:List DVal} {ys:Array Value} (hl:ys.size=ds.length) (h:∀(j:Nat) (x:DVal) (y:Value),ds[j]?=some x->ys[j]?=some y->DRel B x y):DRel B (.agg ds) (.agg ys)
 |tup {ds:List DVal} {ys:Array Value} (hl:ys.size=ds.length) (h:∀(j:Nat) (x:DVal) (y:Value),ds[j]?=some x->ys[j]?=some y->DRel B x y):DRel B (.tup ds) (.tuple ys)
 |nil {k:Nat} {get:Nat->DVal} {ex:Bool} {base:Option Addr} {cap:Nat} (hex:ex=true->cap=0) (hbase:cap=0∨base≠none):DRel B (.list k 0 get ex) (.slice base 0 cap)
 |list {k n:Nat} {get:Nat->DVal} {ex:Bool} {b off cap:Nat} {c:Array Value} (hn:0<n) (hb:B b=some c) (hcap:n<=cap) (hex:ex=true->cap=n)
   (hk:∀i:Nat,i<n->EOk k (get i)) (hsz:off+n*k<=c.size)
   (h:∀(i j:Nat) (x:DVal) (y:Value),i<n->(get i).cells1[j]?=some x->c[off+i*k+j]?=some y->DRel B x y):DRel B (.list k n get ex) (.slice (some ⟨b,off,none⟩) n cap)
 |eref {d:DVal} {c0 b off:Nat} {c:Array Value} (hb:B b=some c) (hsz:off+d.cells1.length<=c.size)
   (h:∀(j:Nat) (x:DVal) (y:Value),d.cells1[j]?=some x->c[off+j]?=some y->DRel B x y):DRel B (.eref d c0) (.pointer (some ⟨b,off+c0,none⟩))
 |arr {k n:Nat} {get:Nat->DVal} {ys:Array Value} (hl:ys.size=n*k) (hk:∀i:Nat,i<n->EOk k (get i))
   (h:∀(i j:Nat) (x:DVal) (y:Value),i<n->(get i).cells1[j]?=some x->ys[i*k+j]?=some y->DRel B x y):DRel B (.arr k n get) (.agg ys)
 |iface {t:TypeId} {d:DVal} {y:Value} (h:DRel B d y):DRel B (.iface t d) (.iface t y)
 |anyB {b:Bool}:DRel B .anyB (.bool b)
theorem DRel.mono{B B':Jk}(hB:∀b c,B b=some c->B' b=some c){d:DVal}{y:Value}(h:DRel B d y):DRel B' d y:=by
 induction h with
 |v x=>exact .v x
 |agg hl _ ih=>exact .agg hl ih
 |tup hl _ ih=>exact .tup hl ih
 |nil hex hbase=>exact .nil hex hbase
 |list hn hb hcap hex hk hsz _ ih=>exact .list hn (hB _ _ hb) hcap hex hk hsz ih
 |eref hb hsz _ ih=>exact .eref (hB _ _ hb) hsz ih
 |arr hl hk _ ih=>exact .arr hl hk ih
 |iface _ ih=>exact .iface ih
 |anyB=>exact .anyB
structure Pl where
 b:Nat
 cap:Nat
inductive AVal where
 |d (x:DVal)
 |agg (cs:List AVal)
 |tup (cs:List AVal)
 |bptr (id c:Nat)
 |rptr (id k i c:Nat)
 |own (id k i n:Nat)
 |fn (f:Fn) (first caps:List AVal)
 |mref (id:Nat)
 |any
 |opt (g:Bool) (a:AVal)
 deriving Inhabited
def AVal.cells:AVal->List AVal
 | .d x=>x.cells.map .d
 | .agg cs=>cs
 |a=>[a]
@[reducible] def AVal.int (n:Int):AVal:=.d (.v (.int .i64 n))
@[reducible] def AVal.bool (b:Bool):AVal:=.d (.v (.bool b))
inductive VRel(B:Jk)(ι:Nat->Pl)(D:Nat->Prop):AVal->Value->Prop
 |d {x:DVal} {y:Value} (h:DRel B x y):VRel B ι D (.d x) y
 |agg {cs:List AVal} {ys:Array Value} (hl:ys.size=cs.length) (h:∀(j:Nat) (x:AVal) (y:Value),cs[j]?=some x->ys[j]?=some y->VRel B ι D x y):VRel B ι D (.agg cs) (.agg ys)
 |tup {cs:List AVal} {ys:Array Value} (hl:ys.size=cs.length) (h:∀(j:Nat) (x:AVal) (y:Value),cs[j]?=some x->ys[j]?=some y->VRel B ι D x y):VRel B ι D (.tup cs) (.tuple ys)
 |bptr {id c:Nat} (hD:D id):VRel B ι D (.bptr id c) (.pointer (some ⟨(ι id).b,c,none⟩))
 |rptr {id k i c:Nat} (hD:D id):VRel B ι D (.rptr id k i c) (.pointer (some ⟨(ι id).b,i*k+c,none⟩))
 |own {id k i n cap:Nat} (hD:D id) (hcap:n<=cap) (hq:i+cap<=(ι id).cap):VRel B ι D (.own id k i n) (.slice (some ⟨(ι id).b,i*k,none⟩) n cap)
 |fn {f:Fn} {first caps:List AVal} {xs ys:Array Value} (hx:xs.size=first.length) (hy:ys.size=caps.length)
   (h1:∀(j:Nat) (x:AVal) (y:Value),first[j]?=some x->xs[j]?=some y->VRel B ι D x y) (h2:∀(j:Nat) (x:AVal) (y:Value),caps[j]?=some x->ys[j]?=some y->VRel B ι D x y) :
   VRel B ι D (.fn f first caps) (.func f xs ys)
 |mref {id:Nat} (hD:D id):VRel B ι D (.mref id) (.map (some (ι id).b))
 |any {y:Value}:VRel B ι D .any y
 |opt {g:Bool} {a:AVal} {y:Value} (ht:g=true->VRel B ι D a y) (hf:g=false->y=.tuple #[]):VRel B ι D (.opt g a) y
theorem VRel.mono{B B':Jk}{ι ι':Nat->Pl}{D D':Nat->Prop}(hB:∀b c,B b=some c->B' b=some c)(hι:∀i,D i->D' i/\ι' i=ι i)
  {a:AVal} {y:Value} (h:VRel B ι D a y):VRel B' ι' D' a y:=by
 induction h with
 |d h=>exact .d (h.mono hB)
 |agg hl _ ih=>exact .agg hl ih
 |tup hl _ ih=>exact .tup hl ih
 |bptr hD=>rw[<-(hι _ hD).2];exact .bptr (hι _ hD).1
 |rptr hD=>rw[<-(hι _ hD).2];exact .rptr (hι _ hD).1
 |own hD hcap hq=>rw[<-(hι _ hD).2] at hq ⊢;exact .own (hι _ hD).1 hcap hq
 |fn hx hy _ _ ih1 ih2=>exact .fn hx hy ih1 ih2
 |mref hD=>rw[<-(hι _ hD).2];exact .mref (hι _ hD).1
 |any=>exact .any
 |opt _ hf ih=>exact .opt ih hf
inductive AObj where
 |row (k n:Nat) (get:Nat->DVal)
 |box (es:List AVal)
 |imap (q:IntKind) (z:Value) (has:Int->Bool) (get:Int->DVal) (st:Int->Int) (pend:Option Int)
 deriving Inhabited
structure MapIs(B:Jk)(q:IntKind)(z:Value)(has:Int->Bool)(get:Int->DVal)(st:Int->Int)(es:Array MapEntry)(clock:Nat):Prop where
 keys:∀(i:Nat) (e:MapEntry),es[i]?=some e->∃n,e.key=.int q n/\has n=true/\e.born<clock/\(e.born:Int)=st n/\DRel B (get n) e.val
 miss:∀n:Int,has n=false->DRel B (get n) z/\st n=clock
 met:∀n:Int,has n=true->∃(i:Nat) (e:MapEntry),es[i]?=some e/\e.key=.int q n
 once:∀(i j:Nat) (e e':MapEntry),es[i]?=some e->es[j]?=some e'->(e.key=e'.key∨e.born=e'.born)->i=j
inductive ORel(B:Jk)(ι:Nat->Pl)(D:Nat->Prop)(q:Nat):AObj->Option Obj->Prop
 |row {k n:Nat} {get:Nat->DVal} {c:Array Value} {e:TypeId} (hk:∀i:Nat,i<n->EOk k (get i)) (hn:n<=q) (hsz:q*k<=c.size)
   (h:∀(i j:Nat) (x:DVal) (y:Value),i<n->(get i).cells1[j]?=some x->c[i*k+j]?=some y->DRel B x y):ORel B ι D q (.row k n get) (some (.cells c e (0,0)))
 |box {es:List AVal} {c:Array Value} {e:TypeId} (hsz:c.size=es.length) (h:∀(j:Nat) (x:AVal) (y:Value),es[j]?=some x->c[j]?=some y->VRel B ι D x y) :
   ORel B ι D q (.box es) (some (.cells c e (0,0)))
 |imap {kd:IntKind} {z:Value} {has:Int->Bool} {get:Int->DVal} {st:Int->Int} {pend:Option Int} {es:Array MapEntry} {clock:Nat} (h:MapIs B kd z has get st es clock):ORel B ι D q (.imap kd z has get st pend) (some (.map es clock))
theorem MapIs.mono{B B':Jk}(hB:∀b c,B b=some c->B' b=some c){q z has get st es clock}(h:MapIs B q z has get st es clock):MapIs B' q z has get st es clock:=
 ⟨λi e he=>let ⟨n,h1,h2,h3,h4,h5⟩:=h.keys i e he;⟨n,h1,h2,h3,h4,h5.mono hB⟩,λn hn=>⟨(h.miss n hn).1.mono hB,(h.miss n hn).2⟩,h.met,h.once⟩
theorem ORel.mono{B B':Jk}{ι ι':Nat->Pl}{D D':Nat->Prop}(hB:∀b c,B b=some c->B' b=some c)(hι:∀i,D i->D' i/\ι' i=ι i)
  {q:Nat} {a:AObj} {y:Option Obj} (h:ORel B ι D q a y):ORel B' ι' D' q a y:=by
 cases h with
 |row hk hn hsz h=>exact .row hk hn hsz λi j x y hi hx hy=>(h i j x y hi hx hy).mono hB
 |box hsz h=>exact .box hsz λj x y hx hy=>(h j x y hx hy).mono hB hι
 |imap h=>exact .imap (h.mono hB)
inductive HCell where
 |none
 |dead
 |live (o:AObj)
 deriving Inhabited
abbrev Heap:=Nat->HCell
def Heap.dom(H:Heap)(i:Nat):Prop:=H i≠.none
structure AState where
 sl:Nat->AVal
 H:Heap
structure HRel(B:Jk)(ι:Nat->Pl)(H:Heap)(w:World):Prop where
 obj:∀i o,H i=.live o->ORel B ι H.dom (ι i).cap o (w.heap[(ι i).b]?)
 inj:∀i j o o',H i=.live o->H j=.live o'->(ι i).b=(ι j).b->i=j
 sep:∀i o,H i=.live o->B (ι i).b=Option.none
 imm:∀b c,B b=some c->∃e fr,w.heap[b]?=some (.cells c e fr)
end Go.Sym

namespace Go.Sym
variable {P : Program} {B : Jk} {ι : Nat -> Pl} {D : Nat -> Prop} {H : Heap} {w : World}
theorem Th{t:TypeId}{i:TypeInfo}(h:P.info? t=some i)(w:World):(typeInfo t).run P w=.ok i w:=by
 simp[typeInfo,h]
theorem LF{t:TypeId}{n:Nat}(h:(P.info? t).map (·.size)=some n)(w:World):(sizeOf t).run P w=.ok n w:=by
 cases hi:P.info? t with
 |none=>simp[hi] at h
 |some i=>simp[hi] at h;simp[sizeOf,Th hi,h]
def Nf:TypeDesc->Bool
 | .struct _ | .array _ _=>true
 |_=>false
theorem Wg{t:TypeId}{d:TypeDesc}(h:P.underlying t=some d)(w:World):(isAgg t).run P w=.ok (Nf d) w:=by
 unfold isAgg
 rw[Sem.run_bind,run_underlying h w]
 cases d<;>rfl
def G8:Value->DVal
 | .slice none 0 0=>.list 0 0 (λ_=>default) true
 |x=>.v x
def ofV:Value->DVal
 | .agg ys=>.agg (ys.toList.map G8)
 | .slice none 0 0=>.list 0 0 (λ_=>default) true
 |x=>.v x
theorem Hu(x:Value):DRel B (G8 x) x:=by
 unfold G8;split
 ·exact .nil (λ_=>rfl) (.inl rfl)
 ·exact .v _
theorem AXV(x:Value):DRel B (ofV x) x:=by
 unfold ofV;split
 ·rename_i ys
  refine .agg (by simp) λj x y hx hy=>?_
  simp only[List.getElem?_map,Option.map_eq_some_iff] at hx
  obtain⟨z,hz,rfl⟩:=hx
  rw[Array.getElem?_toList] at hz
  rw[hz] at hy;cases hy
  exact Hu _
 ·exact .nil (λ_=>rfl) (.inl rfl)
 ·exact .v _
def CO(sl:Nat->AVal):Operand->AVal
 | .tmp t=>sl t
 | .const v=>.d (ofV v)
 | .global g=>.d (.v (.pointer (some ⟨g,0,none⟩)))
 | .func f=>.fn (.func f) [] []
theorem OT{sl:Nat->AVal}{a:Act}(h:∀t,VRel B ι D (sl t) (a.tmps.getD t undef))(x:Operand):VRel B ι D (CO sl x) (a.eval x):=by
 cases x with
 |tmp t=>exact h t
 |const v=>exact .d (AXV v)
 |global g=>exact .d (.v _)
 |func f=>exact .fn rfl rfl (λj x y hx _=>by simp at hx) (λj x y hx _=>by simp at hx)
def allD:List AVal->Option (List DVal)
 |[]=>some []
 | .d x :: r=>match allD r with
  |some ds=>some (x :: ds)
  |none=>none
 |_ :: _=>none
theorem xG:∀{l:List AVal} {ds:List DVal},allD l=some ds->l=ds.map .d
 |[],ds,h=>by simp[allD] at h;simp[h]
 |a :: r,ds,h=>by
  cases a<;>simp only[allD] at h<;>try exact absurd h (by simp)
  split at h
  ·rename_i ds' hr
   cases h
   simp[xG hr]
  ·cases h
def AOI(l:List AVal):AVal:=match allD l with
 |some ds=>.d (.agg ds)
 |none=>.agg l
def ASU(l:List AVal):AVal:=match allD l with
 |some ds=>.d (.tup ds)
 |none=>.tup l
theorem VRel.d_inv{x:DVal}{y:Value}(h:VRel B ι D (.d x) y):DRel B x y:=by cases h;assumption
theorem wA{l:List AVal}{ys:Array Value}(hl:ys.size=l.length)(h:∀(j:Nat) (x:AVal) (y:Value),l[j]?=some x->ys[j]?=some y->VRel B ι D x y):VRel B ι D (AOI l) (.agg ys):=by
 unfold AOI;split
 ·rename_i ds hd
  have:=xG hd
  subst this
  refine .d (.agg (by simpa using hl) λj x y hx hy=>(h j (.d x) y (by simp[hx]) hy).d_inv)
 ·exact .agg hl h
theorem ATF{l:List AVal}{ys:Array Value}(hl:ys.size=l.length)(h:∀(j:Nat) (x:AVal) (y:Value),l[j]?=some x->ys[j]?=some y->VRel B ι D x y):VRel B ι D (ASU l) (.tuple ys):=by
 unfold ASU;split
 ·rename_i ds hd
  have:=xG hd
  subst this
  refine .d (.tup (by simpa using hl) λj x y hx hy=>(h j (.d x) y (by simp[hx]) hy).d_inv)
 ·exact .tup hl h
theorem sQ{α:Type}{k:Nat}(f:Nat->List α):∀(n:Nat),(∀i,i<n->(f i).length=k)->((List.range n).flatMap f).length=n*k
 |0,_=>by simp
 |n+1,hk=>by
  rw[List.range_succ,List.flatMap_append,List.length_append,sQ f n (λi hi=>hk i (by omega))];simp[hk n (by omega),Nat.succ_mul]
theorem AKP{α:Type}{k:Nat}(f:Nat->List α):∀(n:Nat),(∀i,i<n->(f i).length=k)->∀(j:Nat) (x:α),((List.range n).flatMap f)[j]?=some x->∃i c,i<n/\c<k/\j=i*k+c/\(f i)[c]?=some x
 |0,_,j,x,h=>by simp at h
 |n+1,hk,j,x,h=>by
  have hlen:((List.range n).flatMap f).length=n*k:=sQ f n (λi hi=>hk i (by omega))
  rw[List.range_succ,List.flatMap_append] at h
  by_cases hj:j<n*k
  ·rw[List.getElem?_append_left (by omega)] at h
   obtain⟨i,c,h1,h2,h3,h4⟩:=AKP f n (λi hi=>hk i (by omega)) j x h
   exact⟨i,c,by omega,h2,h3,h4⟩
  ·rw[List.getElem?_append_right (by omega)] at h
   simp only[List.flatMap_cons,List.flatMap_nil,List.append_nil] at h
   have:=(List.getElem?_eq_some_iff.1 h).1
   rw[hk n (by omega)] at this
   exact⟨n,j-n*k,by omega,by omega,by omega,by rw[<-hlen];exact h⟩
theorem A6{d:DVal}{y:Value}(h:DRel B d y)(hd:∀x,d≠.v (.agg x)):y.cells.size=d.cells.length/\∀(j:Nat) (x:DVal) (z:Value),d.cells[j]?=some x->y.cells[j]?=some z->DRel B x z:=by
 have one:∀(d:DVal) (y:Value),DRel B d y->d.cells=[d]->y.cells=#[y]->y.cells.size=d.cells.length/\∀(j:Nat) (x:DVal) (z:Value),d.cells[j]?=some x->y.cells[j]?=some z->DRel B x z:=by
  intro d y h h1 h2
  rw[h1,h2]
  refine⟨rfl,λj x z hx hz=>?_⟩
  cases j with
  |zero=>simp at hx hz;subst hx;subst hz;exact h
  |succ j=>simp at hx
 cases h with
 |v=>
  cases y<;>first | exact one _ _ (.v _) rfl rfl | exact absurd rfl (hd _)
 |agg hl h=>exact⟨by simpa[Value.cells,DVal.cells] using hl,h⟩
 |tup hl h=>exact one _ _ (.tup hl h) rfl rfl
 |nil h1 h2=>exact one _ _ (.nil h1 h2) rfl rfl
 |list a b c d e f g=>exact one _ _ (.list a b c d e f g) rfl rfl
 |eref a b c=>exact one _ _ (.eref a b c) rfl rfl
 |iface a=>exact one _ _ (.iface a) rfl rfl
 |anyB=>exact one _ _ .anyB rfl rfl
 |arr hl hk h=>
  rename_i k n get ys
  refine⟨?_,λj x z hx hz=>?_⟩
  ·rw[show (Value.agg ys).cells=ys from rfl,hl]
   exact (sQ _ n λi hi=>(hk i hi).len).symm
  ·obtain⟨i,c,hi,hc,rfl,hx2⟩:=AKP (k:=k) _ n (λi hi=>(hk i hi).len) j x hx
   exact h i c x z hi hx2 hz
def DVal.noAgg:DVal->Bool
 | .v (.agg _)=>false
 |_=>true
def AVal.noAgg:AVal->Bool
 | .d x=>x.noAgg
 | .any | .opt ..=>false
 |_=>true
theorem I4{a:AVal}{y:Value}(h:VRel B ι D a y)(hd:a.noAgg=true):y.cells.size=a.cells.length/\∀(j:Nat) (x:AVal) (z:Value),a.cells[j]?=some x->y.cells[j]?=some z->VRel B ι D x z:=by
 have one:∀(a:AVal) (y:Value),VRel B ι D a y->a.cells=[a]->y.cells=#[y]->y.cells.size=a.cells.length/\∀(j:Nat) (x:AVal) (z:Value),a.cells[j]?=some x->y.cells[j]?=some z->VRel B ι D x z:=by
  intro a y h h1 h2
  rw[h1,h2]
  refine⟨rfl,λj x z hx hz=>?_⟩
  cases j with
  |zero=>simp at hx hz;subst hx;subst hz;exact h
  |succ j=>simp at hx
 cases h with
 |d h=>
  rename_i x
  have hx:∀z,x≠.v (.agg z):=by rintro z rfl;simp[AVal.noAgg,DVal.noAgg] at hd
  obtain⟨h1,h2⟩:=A6 h hx
  refine⟨by simpa[AVal.cells] using h1,λj x z hx hz=>?_⟩
  simp only[AVal.cells,List.getElem?_map,Option.map_eq_some_iff] at hx
  obtain⟨x',hx',rfl⟩:=hx
  exact .d (h2 j x' z hx' hz)
 |agg hl h=>exact⟨by simpa[Value.cells,AVal.cells] using hl,h⟩
 |tup hl h=>exact one _ _ (.tup hl h) rfl rfl
 |bptr h=>exact one _ _ (.bptr h) rfl rfl
 |rptr h=>exact one _ _ (.rptr h) rfl rfl
 |own h1 h2 h3=>exact one _ _ (.own h1 h2 h3) rfl rfl
 |fn a b c d=>exact one _ _ (.fn a b c d) rfl rfl
 |mref h=>exact one _ _ (.mref h) rfl rfl
 |any=>simp[AVal.noAgg] at hd
 |opt=>simp[AVal.noAgg] at hd
def rJ(H:Heap):AVal->Option (List AVal×List Prop)
 | .bptr id c=>match H id with
  | .live (.box es)=>some (es.drop c,[])
  |_=>none
 | .rptr id k i c=>match H id with
  | .live (.row k' n get)=>if k==k' then some (((get i).cells1.drop c).map .d,[i<n]) else none
  | .live (.box es)=>some (es.drop (i*k+c),[])
  |_=>none
 | .d (.eref d c)=>some ((d.cells1.drop c).map .d,[])
 |_=>none
theorem VC{b o:Nat}{c:Array Value}{e:TypeId}{fr:Nat×Nat}(h:w.heap[b]?=some (.cells c e fr)):w.cell? ⟨b,o,none⟩=c[o]?:=by
 simp[World.cell?,h]
theorem AKQ{p:AVal}{v:Value}{l:List AVal}{pre:List Prop}(h:rJ H p=some (l,pre))(hp:FT pre)(hv:VRel B ι H.dom p v)(hH:HRel B ι H w) :
  ∃b o,v=.pointer (some ⟨b,o,none⟩)/\∀(j:Nat) (x:AVal),l[j]?=some x->∃y,w.cell? ⟨b,o+j,none⟩=some y/\VRel B ι H.dom x y:=by
 cases hv with
 |bptr hD=>
  rename_i id c
  simp only[rJ] at h
  split at h
  ·rename_i es hid
   cases h
   have ho:=hH.obj _ _ hid
   generalize hq:w.heap[(ι id).b]?=q at ho
   cases ho with
   |box hsz hrel=>
    refine⟨_,_,rfl,λj x hx=>?_⟩
    rw[List.getElem?_drop] at hx
    have hlt:=(List.getElem?_eq_some_iff.1 hx).1
    rw[VC hq]
    rename_i cs e
    have hlt':c+j<cs.size:=by omega
    exact⟨cs[c+j],by simp[hlt'],hrel _ _ _ hx (by simp[hlt'])⟩
  ·cases h
 |rptr hD=>
  rename_i id k i c
  simp only[rJ] at h
  split at h
  ·rename_i k' n get hid
   split at h
   ·rename_i hk
    cases h
    have hk:k=k':=by simpa using hk
    subst hk
    have ho:=hH.obj _ _ hid
    generalize hq:w.heap[(ι id).b]?=q at ho
    cases ho with
    |row hkk hnq hsz' hrel=>
     have hsz:=Nat.le_trans (Nat.mul_le_mul_right _ hnq) hsz'
     rename_i cs e
     refine⟨_,_,rfl,λj x hx=>?_⟩
     simp only[List.getElem?_map,List.getElem?_drop,Option.map_eq_some_iff] at hx
     obtain⟨x',hx',rfl⟩:=hx
     have hlt:=(List.getElem?_eq_some_iff.1 hx').1
     rw[(hkk i hp).len] at hlt
     have h2:(i+1)*k<=n*k:=Nat.mul_le_mul_right k hp
     have h3:(i+1)*k=i*k+k:=Nat.succ_mul i k
     rw[VC hq]
     have hlt':i*k+(c+j)<cs.size:=by omega
     rw[Nat.add_assoc]
     exact⟨cs[i*k+(c+j)],by simp[hlt'],.d (hrel i (c+j) _ _ hp hx' (by simp[hlt']))⟩
   ·cases h
  ·rename_i es hid
   cases h
   have ho:=hH.obj _ _ hid
   generalize hq:w.heap[(ι id).b]?=q at ho
   cases ho with
   |box hsz hrel=>
    refine⟨_,_,rfl,λj x hx=>?_⟩
    rw[List.getElem?_drop] at hx
    have hlt:=(List.getElem?_eq_some_iff.1 hx).1
    rw[VC hq]
    rename_i cs e
    have hlt':i*k+c+j<cs.size:=by omega
    exact⟨cs[i*k+c+j],by simp[hlt'],hrel _ _ _ hx (by simp[hlt'])⟩
  ·cases h
 |d hd=>
  cases hd with
  |eref hb hsz hrel=>
   rename_i d c0 b off c
   simp only[rJ,Option.some.injEq,Prod.mk.injEq] at h
   obtain⟨rfl,rfl⟩:=h
   obtain⟨e,fr,hq⟩:=hH.imm _ _ hb
   refine⟨_,_,rfl,λj x hx=>?_⟩
   simp only[List.getElem?_map,List.getElem?_drop,Option.map_eq_some_iff] at hx
   obtain⟨x',hx',rfl⟩:=hx
   have hlt:=(List.getElem?_eq_some_iff.1 hx').1
   rw[VC hq,Nat.add_assoc]
   have hlt':off+(c0+j)<c.size:=by omega
   exact⟨c[off+(c0+j)],by simp[hlt'],.d (hrel (c0+j) _ _ hx' (by simp[hlt']))⟩
  |_=>simp[rJ] at h
 |_=>simp[rJ] at h
def ANV(P:Program)(H:Heap)(t:TypeId)(p:AVal):Option (AVal×List Prop):=
 match P.underlying t,(P.info? t).map (·.size) with
 |some (.array m e),some n=>match p with
  | .rptr id k 0 0=>match H id with
   | .live (.row k' n' get)=>if k==k'&&m==n'&&n==m*k&&(P.info? e).map (·.size)==some k then some (.d (.arr k m get),[]) else none
   |_=>none
  |_=>none
 |some d,some n=>match rJ H p with
  |some (l,pre)=>if Nf d then (if l.length<n then none else some (AOI (l.take n),pre)) else match l with
   |x :: _=>some (x,pre)
   |[]=>none
  |none=>none
 |_,_=>none
theorem AWZ{b o n:Nat}{l:List AVal}(hn:n<=l.length)(h:∀(j:Nat) (x:AVal),l[j]?=some x->∃y,w.cell? ⟨b,o+j,none⟩=some y/\VRel B ι D x y) :
  ∃ys:Array Value,(loadCells ⟨b,o,none⟩ n).run P w=.ok ys w/\ys.size=(l.take n).length/\∀(j:Nat) (x:AVal) (y:Value),(l.take n)[j]?=some x->ys[j]?=some y->VRel B ι D x y:=by
 have hadd:∀j,(⟨b,o,none⟩:Addr).add j=⟨b,o+j,none⟩:=λj=>by unfold Addr.add;split<;>simp_all
 refine⟨((List.range n).map λj=>(w.cell? ⟨b,o+j,none⟩).getD undef).toArray,?_,by simp[hn],λj x y hx hy=>?_⟩
 ·refine run_loadCells (P:=P) w _ n _ λj hj=>?_
  obtain⟨y,hy,_⟩:=h j l[j] (by simp)
  rw[hadd,hy];rfl
 ·have hj:j<n:=by
   have:=(List.getElem?_eq_some_iff.1 hx).1
   simp at this;omega
  obtain⟨y',hy',hr⟩:=h j x (by rw[List.getElem?_take] at hx;simpa[hj] using hx)
  simp[hj,hy'] at hy
  subst hy;exact hr
theorem AKM{t:TypeId}{p x:AVal}{v:Value}{pre:List Prop}(h:ANV P H t p=some (x,pre))(hp:FT pre)(hv:VRel B ι H.dom p v)(hH:HRel B ι H w) :
  ∃y,(Instr.loadAt t v).run P w=.ok y w/\VRel B ι H.dom x y:=by
 have aggcase:∀(d:TypeDesc) (n:Nat) (l:List AVal) (b o:Nat),P.underlying t=some d->Nf d=true->(P.info? t).map (·.size)=some n->v=.pointer (some ⟨b,o,none⟩) ->
   ¬ l.length<n->(∀(j:Nat) (x:AVal),l[j]?=some x->∃y,w.cell? ⟨b,o+j,none⟩=some y/\VRel B ι H.dom x y) ->
   ∃y,(Instr.loadAt t v).run P w=.ok y w/\VRel B ι H.dom (AOI (l.take n)) y:=by
  intro d n l b o hd hr hn hv hl hc
  subst hv
  obtain⟨ys,h1,h2,h3⟩:=AWZ (P:=P) (n:=n) (by omega) hc
  exact⟨.agg ys,by simp[Instr.loadAt,Instr.sureAddr,loadVar,Wg hd,hr,LF hn,h1],wA h2 h3⟩
 unfold ANV at h
 split at h
 ·rename_i m e n hd hn
  split at h
  ·rename_i id k
   split at h
   ·rename_i k' n' get hid
    split at h
    ·rename_i hk
     cases h
     simp only[Bool.and_eq_true,beq_iff_eq] at hk
     obtain⟨⟨⟨rfl,rfl⟩,rfl⟩,_⟩:=hk
     have ho:=hH.obj _ _ hid
     generalize hq:w.heap[(ι id).b]?=q at ho
     cases hv
     cases ho with
     |row hkk hnq hsz' hrel=>
      have hsz:=Nat.le_trans (Nat.mul_le_mul_right _ hnq) hsz'
      rename_i cs e'
      have hadd:∀j,(⟨(ι id).b,0,none⟩:Addr).add j=⟨(ι id).b,j,none⟩:=λj=>by unfold Addr.add;split<;>simp_all
      have hl:=run_loadCells (P:=P) w ⟨(ι id).b,0,none⟩ (m*k) (λj=>cs.getD j undef) (λj hj=>by
       rw[hadd,VC hq]
       have:j<cs.size:=by omega
       simp[this])
      have h0:0*k+0=0:=by simp
      refine⟨.agg ((List.range (m*k)).map λj=>cs.getD j undef).toArray,?_,.d (.arr (by simp) hkk λi j x y hi hx hy=>?_)⟩
      ·rw[h0];simp[Instr.loadAt,Instr.sureAddr,loadVar,Wg hd,Nf,LF hn,hl]
      ·have hlt:=(List.getElem?_eq_some_iff.1 hx).1
       rw[(hkk i hi).len] at hlt
       have h2:(i+1)*k<=m*k:=Nat.mul_le_mul_right k hi
       have h3:(i+1)*k=i*k+k:=Nat.succ_mul i k
       have hlt':i*k+j<cs.size:=by omega
       have hlt2:i*k+j<m*k:=by omega
       simp[hlt',hlt2] at hy
       exact hrel i j x y hi hx (by simp[hlt',hy])
    ·cases h
   ·cases h
  ·cases h
 ·rename_i d n _ hd hn
  split at h
  ·rename_i l pre' hr
   split at h
   ·rename_i hrow
    split at h
    ·cases h
    ·rename_i hl
     cases h
     obtain⟨b,o,hv',hc⟩:=AKQ hr hp hv hH
     exact aggcase _ n l b o hd hrow hn hv' hl hc
   ·rename_i hrow
    split at h
    ·rename_i y l'
     cases h
     obtain⟨b,o,rfl,hc⟩:=AKQ hr hp hv hH
     obtain⟨z,hz,hrel⟩:=hc 0 x (by simp)
     refine⟨z,?_,hrel⟩
     simp only[Nat.add_zero] at hz
     simp[Instr.loadAt,Instr.sureAddr,loadVar,Wg hd,hrow,hz]
    ·cases h
  ·cases h
 ·cases h
end Go.Sym

namespace Go.Sym
variable {P : Program} {B : Jk} {ι : Nat -> Pl} {D : Nat -> Prop} {H : Heap} {w : World}
theorem Se(b o j:Nat):(⟨b,o,none⟩:Addr).add j=⟨b,o+j,none⟩:=by unfold Addr.add;split<;>simp_all
def binV(P:Program)(op:BinOp)(t:TypeId):Value->Value->Option (Value×List Prop)
 | .int k a,.int k' b=>
  if k=k' then
   match op with
   | .add=>some (.int k (k.wrap (a+b)),[])
   | .sub=>some (.int k (k.wrap (a-b)),[])
   | .mul=>some (.int k (k.wrap (a*b)),[])
   | .quo=>some (.int k (k.wrap (a.tdiv b)),[b≠0])
   | .rem=>some (.int k (a.tmod b),[b≠0])
   | .eql=>some (.bool (a==b),[])
   | .neq=>some (.bool (a != b),[])
   | .lss=>some (.bool (decide (a<b)),[])
   | .leq=>some (.bool (decide (a<=b)),[])
   | .gtr=>some (.bool (decide (a>b)),[])
   | .geq=>some (.bool (decide (a>=b)),[])
   | .shr=>some (.int k (a / 2 ^ b.toNat),[0<=b/\b<=k.bits])
   |_=>none
  else none
 | .bool a,.bool b=>match op,P.underlying t with
  | .eql,some .bool=>some (.bool (a==b),[])
  | .neq,some .bool=>some (.bool (!(a==b)),[])
  |_,_=>none
 | .string a,.string b=>match op with
  | .add=>some (.string (a ++ b),[((a.size+b.size:Nat):Int)<=IntKind.i64.max])
  | .eql=>some (.bool (a.toList==b.toList),[])
  | .neq=>some (.bool (!(a.toList==b.toList)),[])
  | .lss=>some (.bool (Op.bytesLess a.toList b.toList),[])
  |_=>none
 |_,_=>none
theorem uW{t:TypeId}(hu:P.underlying t=some .bool)(a b:Bool)(w:World):(Op.equal t (.bool a) (.bool b)).run P w=.ok (a==b) w:=by
 have e:Op.equal t (.bool a) (.bool b)=Op.equalIn (9999+1) t (.bool a) (.bool b):=rfl
 rw[e,Op.equalIn]
 simp[run_underlying hu]
theorem ARR(t:TypeId)(a b:Bool):binOp .eql t (.bool a) (.bool b)=(do pure (.bool (<-Op.equal t (.bool a) (.bool b)))):=rfl
theorem AQP(t:TypeId)(a b:Bool):binOp .neq t (.bool a) (.bool b)=(do pure (.bool (!(<-Op.equal t (.bool a) (.bool b))))):=rfl
theorem BIE{op:BinOp}{t:TypeId}{x y:Operand}{a b v:Value}{pre:List Prop}(h:binV P op t a b=some (v,pre))(hp:FT pre)(w:World) :
  (do eqGuard op t x y a b;binOp op t a b:Sem Value).run P w=.ok v w:=by
 unfold binV at h
 split at h
 ·rename_i k a k' b
  split at h
  ·rename_i hk
   subst hk
   cases op<;>simp only[Option.some.injEq,Prod.mk.injEq,reduceCtorEq] at h<;>obtain⟨rfl,rfl⟩:=h <;>
    first
    |(have hs:0<=b/\b<=k.bits:=hp
      have e:=shift_shr k k a b hs.1 hs.2
      show (do eqGuard .shr t x y (.int k a) (.int k b);Op.shift .shr k a k b:Sem Value).run P w=_
      rw[e];rfl)
    |simp_all [FT,eqGuard,binOp,Op.intArith,Op.intDiv,Op.intCmp]
  ·cases h
 ·rename_i a b
  split at h
  ·rename_i hu
   cases h
   simp[eqGuard,ARR,uW hu]
  ·rename_i hu
   cases h
   simp[eqGuard,AQP,uW hu]
  ·cases h
 ·rename_i a b
  cases op<;>simp only[Option.some.injEq,Prod.mk.injEq,reduceCtorEq] at h<;>obtain⟨rfl,rfl⟩:=h <;>
   simp[eqGuard,binOp,Op.stringOp]
  have e:IntKind.i64.max=9223372036854775807:=rfl
  have hp':((a.size+b.size:Nat):Int)<=IntKind.i64.max:=hp
  omega
 ·cases h
def unV(op:UnOp):Value->Option Value
 | .int k n=>match op with
  | .neg=>some (.int k (k.wrap (0-n)))
  |_=>none
 | .bool b=>match op with
  | .not=>some (.bool !b)
  |_=>none
 |_=>none
theorem BRX{op:UnOp}{a v:Value}(h:unV op a=some v)(w:World):(Op.unary op a).run P w=.ok v w:=by
 unfold unV at h
 split at h
 ·cases op<;>simp only[Option.some.injEq,reduceCtorEq] at h
  subst h;simp[Op.unary,Op.intArith]
 ·cases op<;>simp only[Option.some.injEq,reduceCtorEq] at h
  subst h;simp[Op.unary]
 ·cases h
def ASH(b:Bool)(u v:AVal):AVal:=match u,v with
 | .d (.v (.bool x)),.d (.v (.bool y))=>.d (.v (.bool (cond b x y)))
 |u,v=>cond b u v
theorem BBR(b:Bool)(u v:AVal):ASH b u v=cond b u v:=by
 unfold ASH;split
 ·cases b<;>rfl
 ·rfl
def Z7(n:Nat):AVal->Option AVal
 | .bptr id c=>some (.bptr id (c+n))
 | .rptr id k i c=>some (.rptr id k i (c+n))
 | .d (.eref d c)=>some (.d (.eref d (c+n)))
 |_=>none
theorem AVP{n:Nat}{p q:AVal}{v:Value}(h:Z7 n p=some q)(hv:VRel B ι D p v) :
  ∃b o,v=.pointer (some ⟨b,o,none⟩)/\VRel B ι D q (.pointer (some ⟨b,o+n,none⟩)):=by
 cases hv with
 |bptr hD=>simp only[Z7,Option.some.injEq] at h;subst h;exact⟨_,_,rfl,.bptr hD⟩
 |rptr hD=>simp only[Z7,Option.some.injEq] at h;subst h;exact⟨_,_,rfl,by rw[Nat.add_assoc];exact .rptr hD⟩
 |d hd=>
  cases hd with
  |eref hb hsz hrel=>simp only[Z7,Option.some.injEq] at h;subst h;exact⟨_,_,rfl,by rw[Nat.add_assoc];exact .d (.eref hb hsz hrel)⟩
  |_=>simp[Z7] at h
 |_=>simp[Z7] at h
def ALA(P:Program)(s:TypeId)(f:Nat):Option Field:=match P.underlying s with
 |some (.struct fields)=>fields[f]?
 |_=>none
def G2(P:Program)(s:TypeId)(f:Nat)(p:AVal):Option AVal:=match ALA P s f with
 |some fd=>match (P.info? fd.type).map (·.size) with
  |some (_+1)=>Z7 fd.offset p
  |_=>none
 |none=>none
theorem AAE{s:TypeId}{f:Nat}{fd:Field}(h:ALA P s f=some fd):∃fields,P.underlying s=some (.struct fields)/\fields[f]?=some fd:=by
 unfold ALA at h;split at h
 ·exact⟨_,by assumption,h⟩
 ·cases h
theorem AGD{s:TypeId}{f:Nat}{p q:AVal}{v:Value}(h:G2 P s f p=some q)(hv:VRel B ι D p v) :
  ∃y,(Instr.fieldAt s v f).run P w=.ok y w/\VRel B ι D q y:=by
 unfold G2 at h
 split at h
 ·rename_i fd hf
  split at h
  ·rename_i n hn
   obtain⟨fields,hu,hfd⟩:=AAE hf
   obtain⟨b,o,rfl,hq⟩:=AVP h hv
   refine⟨_,?_,hq⟩
   simp[Instr.fieldAt,run_underlying hu,hfd,Instr.sureAddr,fieldPlace,LF hn,Se]
  ·cases h
 ·cases h
def iZ:AVal->Option (List AVal)
 | .d (.agg ds)=>some (ds.map .d)
 | .agg cs=>some cs
 |_=>none
theorem AMS{a:AVal}{l:List AVal}{v:Value}(h:iZ a=some l)(hv:VRel B ι D a v) :
  ∃ys,v=.agg ys/\ys.size=l.length/\∀(j:Nat) (x:AVal) (y:Value),l[j]?=some x->ys[j]?=some y->VRel B ι D x y:=by
 cases hv with
 |agg hl hr=>simp only[iZ,Option.some.injEq] at h;subst h;exact⟨_,rfl,hl,hr⟩
 |d hd=>
  cases hd with
  |agg hl hr=>
   simp only[iZ,Option.some.injEq] at h;subst h
   refine⟨_,rfl,by simpa using hl,λj x y hx hy=>?_⟩
   simp only[List.getElem?_map,Option.map_eq_some_iff] at hx
   obtain⟨x',hx',rfl⟩:=hx
   exact .d (hr j x' y hx' hy)
  |_=>simp[iZ] at h
 |_=>simp[iZ] at h
def CAL(P:Program)(t:TypeId)(l:List AVal)(off:Nat):Option AVal:=match P.underlying t,(P.info? t).map (·.size) with
 |some d,some n=>if Nf d then (if l.length<off+n then none else some (AOI ((l.drop off).take n))) else l[off]?
 |_,_=>none
theorem BDR{t:TypeId}{l:List AVal}{ys:Array Value}{off:Nat}{q:AVal}(h:CAL P t l off=some q)(hl:ys.size=l.length)
  (hr:∀(j:Nat) (x:AVal) (y:Value),l[j]?=some x->ys[j]?=some y->VRel B ι D x y) (w:World):∃y,(part t ys off).run P w=.ok y w/\VRel B ι D q y:=by
 unfold CAL at h
 split at h
 ·rename_i d n hu hn
  split at h
  ·rename_i hrow
   split at h
   ·cases h
   ·rename_i hlt
    cases h
    refine⟨.agg (ys.extract off (off+n)),by simp[part,Wg hu,hrow,LF hn],wA (by simp;omega) λj x y hx hy=>?_⟩
    rw[List.getElem?_take] at hx
    split at hx
    ·rename_i hj
     rw[List.getElem?_drop] at hx
     have hlt2:=(List.getElem?_eq_some_iff.1 hx).1
     have:(ys.extract off (off+n))[j]?=ys[off+j]?:=by
      rw[Array.getElem?_extract];simp;omega
     rw[this] at hy
     exact hr _ _ _ hx hy
    ·cases hx
  ·rename_i hrow
   have hlt:=(List.getElem?_eq_some_iff.1 h).1
   have hy:ys[off]?=some ys[off]:=by simp[hl,hlt]
   refine⟨ys[off],by simp[part,Wg hu,hrow,hy],hr _ _ _ h hy⟩
 ·cases h
def BGK(P:Program)(s:TypeId)(f:Nat)(a:AVal):Option AVal:=match ALA P s f,iZ a with
 |some fd,some l=>CAL P fd.type l fd.offset
 |_,_=>none
theorem AVU{s:TypeId}{f:Nat}{a q:AVal}{v:Value}(h:BGK P s f a=some q)(hv:VRel B ι D a v)(w:World) :
  ∃y,(Instr.field s v f).run P w=.ok y w/\VRel B ι D q y:=by
 unfold BGK at h
 split at h
 ·rename_i fd l hf hl
  obtain⟨fields,hu,hfd⟩:=AAE hf
  obtain⟨ys,rfl,h1,h2⟩:=AMS hl hv
  obtain⟨y,h3,h4⟩:=BDR h h1 h2 w
  exact⟨y,by simp[Instr.field,run_underlying hu,hfd,asAgg,h3],h4⟩
 ·cases h
def intA:AVal->Option (IntKind×Int)
 | .d (.v (.int k n))=>some (k,n)
 |_=>none
theorem Nr{a:AVal}{k:IntKind}{n:Int}{v:Value}(h:intA a=some (k,n))(hv:VRel B ι D a v):v=.int k n:=by
 unfold intA at h
 split at h
 ·cases h;cases hv.d_inv;rfl
 ·cases h
def I6(P:Program)(t:TypeId)(x ix:AVal):Option (AVal×List Prop):=match intA ix,P.underlying t with
 |some (_,j),some (.slice e)=>match x,(P.info? e).map (·.size) with
  | .own id k i n,some k'=>if k==k' then some (.rptr id k (i+j.toNat) 0,[0<=j/\j<n]) else none
  | .d (.list k n get _),some k'=>if k==k' then some (.d (.eref (get j.toNat) 0),[0<=j/\j<n]) else none
  |_,_=>none
 |some (_,j),some (.array m e)=>match x,(P.info? e).map (·.size) with
  | .rptr id k 0 0,some k'=>if k==k' then some (.rptr id k j.toNat 0,[0<=j/\j<m]) else none
  | .bptr id c,some k'=>some (.bptr id (c+j.toNat*k'),[0<=j/\j<m])
  |_,_=>none
 |_,_=>none
theorem AFX{t:TypeId}{x ix q:AVal}{u v:Value}{pre:List Prop}(h:I6 P t x ix=some (q,pre))(hp:FT pre)(hu:VRel B ι D x u)(hv:VRel B ι D ix v)(w:World) :
  ∃y,(Instr.indexAt t u v).run P w=.ok y w/\VRel B ι D q y:=by
 unfold I6 at h
 split at h
 ·rename_i k0 j e hi ht
  have:=Nr hi hv;subst this
  split at h
  ·rename_i id k i n k' hs
   split at h
   ·rename_i hk
    have hk:k=k':=by simpa using hk
    subst hk;cases h
    cases hu
    rename_i hD hcap hq
    refine⟨.pointer (some ⟨(ι id).b,(i+j.toNat)*k,none⟩),?_,by simpa using VRel.rptr (B:=B) (ι:=ι) (k:=k) (i:=i+j.toNat) (c:=0) hD⟩
    have hp':0<=j/\j<(n:Int):=hp
    simp[Instr.indexAt,asIntOf,run_underlying ht,LF hs,hp',Se,Nat.add_mul]
   ·cases h
  ·rename_i k n get ex k' hs
   split at h
   ·rename_i hk
    have hk:k=k':=by simpa using hk
    subst hk;cases h
    have hp':0<=j/\j<(n:Int):=hp
    cases hu with
    |d hd=>
     cases hd with
     |nil=>omega
     |list hn hb hcap hex hkk hsz hrel=>
      rename_i b off cap c
      have hj:j.toNat<n:=by omega
      refine⟨.pointer (some ⟨b,off+j.toNat*k,none⟩),?_,.d (DRel.eref (off:=off+j.toNat*k) (c0:=0) hb ?_ ?_)⟩
      ·simp[Instr.indexAt,asIntOf,run_underlying ht,LF hs,hp',Se]
      ·rw[(hkk _ hj).len]
       have h2:(j.toNat+1)*k<=n*k:=Nat.mul_le_mul_right k hj
       have h3:(j.toNat+1)*k=j.toNat*k+k:=Nat.succ_mul j.toNat k
       omega
      ·intro l x y hx hy
       exact hrel j.toNat l x y hj hx hy
   ·cases h
  ·cases h
 ·rename_i k0 j m e hi ht
  have:=Nr hi hv;subst this
  split at h
  ·rename_i id k k' hs
   split at h
   ·rename_i hk
    have hk:k=k':=by simpa using hk
    subst hk;cases h
    cases hu
    rename_i hD
    have hp':0<=j/\j<(m:Int):=hp
    refine⟨.pointer (some ⟨(ι id).b,j.toNat*k,none⟩),?_,by simpa using VRel.rptr (B:=B) (ι:=ι) (k:=k) (i:=j.toNat) (c:=0) hD⟩
    simp[Instr.indexAt,asIntOf,run_underlying ht,LF hs,hp',Se,Instr.sureAddr]
   ·cases h
  ·rename_i id c k' hs
   cases h
   cases hu
   rename_i hD
   have hp':0<=j/\j<(m:Int):=hp
   refine⟨.pointer (some ⟨(ι id).b,c+j.toNat*k',none⟩),?_,.bptr hD⟩
   simp[Instr.indexAt,asIntOf,run_underlying ht,LF hs,hp',Se,Instr.sureAddr]
  ·cases h
 ·cases h
def APN(a:AVal)(i:Nat):Option AVal:=match a with
 | .tup cs=>cs[i]?
 | .d (.tup ds)=>(ds[i]?).map .d
 |_=>none
theorem AOT{a q:AVal}{i:Nat}{v:Value}(h:APN a i=some q)(hv:VRel B ι D a v)(w:World) :
  ∃y,(Instr.extract v i).run P w=.ok y w/\VRel B ι D q y:=by
 unfold APN at h
 split at h
 ·cases hv with
  |tup hl hr=>
   rename_i cs ys
   have hlt:=(List.getElem?_eq_some_iff.1 h).1
   have hy:ys[i]?=some ys[i]:=by simp[hl,hlt]
   exact⟨ys[i],by simp[Instr.extract,hy],hr _ _ _ h hy⟩
 ·rename_i ds
  cases hv with
  |d hd=>
   cases hd with
   |tup hl hr=>
    rename_i ys
    simp only[Option.map_eq_some_iff] at h
    obtain⟨x,hx,rfl⟩:=h
    have hlt:=(List.getElem?_eq_some_iff.1 hx).1
    have hy:ys[i]?=some ys[i]:=by simp[hl,hlt]
    exact⟨ys[i],by simp[Instr.extract,hy],.d (hr _ _ _ hx hy)⟩
 ·cases h
def lenA(P:Program)(t:TypeId)(a:AVal):Option AVal:=match P.underlying t,a with
 |some (.slice _),.own _ _ _ n=>some (.int n)
 |some (.slice _),.d (.list _ n _ _)=>some (.int n)
 |some .string,.d (.v (.string s))=>some (.int s.size)
 |some (.array n _),_=>some (.int n)
 |_,_=>none
theorem BIY{t ty:TypeId}{ats:Array TypeId}{a q:AVal}{v:Value}(h:lenA P t a=some q)(hv:VRel B ι D a v)(h0:ats[0]?=some t)(w:World) :
  ∃y,(Builtin.len_ ats ty #[v]).run P w=.ok y w/\VRel B ι D q y:=by
 unfold lenA at h
 split at h<;>simp only[Option.some.injEq,reduceCtorEq] at h<;>subst h
 ·rename_i hu
  cases hv
  exact⟨_,by simp[Builtin.len_,h0,run_underlying hu,goInt],.d (.v _)⟩
 ·rename_i hu
  cases hv with
  |d hd=>cases hd<;>exact⟨_,by simp[Builtin.len_,h0,run_underlying hu,goInt],.d (.v _)⟩
 ·rename_i hu
  cases hv with
  |d hd=>cases hd;exact⟨_,by simp[Builtin.len_,h0,run_underlying hu,goInt],.d (.v _)⟩
 ·rename_i n e hu
  exact⟨.int .i64 n,by cases v<;>simp[Builtin.len_,h0,run_underlying hu,goInt],.d (.v _)⟩
def foldA(f:Int->Int->Int):List AVal->Option AVal
 | .d (.v (.int k x)) :: rest=>(go k x rest)
 |_=>none
where
 go (k:IntKind) (x:Int):List AVal->Option AVal
  |[]=>some (.d (.v (.int k x)))
  | .d (.v (.int _ y)) :: rest=>go k (f x y) rest
  |_=>none
def qQ(x y:Int):Int:=if y>x then y else x
def minI(x y:Int):Int:=if y<x then y else x
theorem Zl{g:Value->Value->Sem Value}{f:Int->Int->Int}(hg:∀(k k':IntKind) (x y:Int),g (.int k x) (.int k' y)=pure (.int k (f x y)))(w:World) :
  ∀(l:List AVal) (k:IntKind) (x:Int) (vs:List Value) (q:AVal),foldA.go f k x l=some q->vs.length=l.length ->
   (∀(j:Nat) (a:AVal) (y:Value),l[j]?=some a->vs[j]?=some y->VRel B ι D a y)->∃y,(vs.foldlM g (.int k x)).run P w=.ok y w/\VRel B ι D q y
 |[],k,x,vs,q,h,hl,_=>by
  simp only[foldA.go,Option.some.injEq] at h;subst h
  have:vs=[]:=by simpa using hl
  subst this
  exact⟨_,by simp,.d (.v _)⟩
 |a :: l,k,x,vs,q,h,hl,hr=>by
  cases vs with
  |nil=>simp at hl
  |cons y vs=>
   have h0:=hr 0 a y rfl rfl
   unfold foldA.go at h
   split at h
   ·rename_i he;cases he
   ·rename_i k' z rest he
    simp only[List.cons.injEq] at he
    obtain⟨rfl,rfl⟩:=he
    cases h0.d_inv
    obtain⟨y,h1,h2⟩:=Zl hg w l k (f x z) vs q h (by simpa using hl) (λj a y ha hy=>hr (j+1) a y (by simpa using ha) (by simpa using hy))
    exact⟨y,by simp[List.foldlM_cons,hg,h1],h2⟩
   ·cases h
theorem AKS{ats:Array TypeId}{ty:TypeId}{l:List AVal}{vs:Array Value}{q:AVal}(h:foldA qQ l=some q)(hl:vs.size=l.length)
  (hr:∀(j:Nat) (a:AVal) (y:Value),l[j]?=some a->vs[j]?=some y->VRel B ι D a y) (w:World):∃y,(Builtin.max_ ats ty vs).run P w=.ok y w/\VRel B ι D q y:=by
 obtain⟨vs⟩:=vs
 cases l with
 |nil=>simp[foldA] at h
 |cons a l=>
  cases vs with
  |nil=>simp at hl
  |cons y vs=>
   have h0:=hr 0 a y rfl rfl
   unfold foldA at h
   split at h
   ·rename_i k x rest he
    simp only[List.cons.injEq] at he
    obtain⟨rfl,rfl⟩:=he
    cases h0.d_inv
    obtain⟨y,h1,h2⟩:=Zl (P:=P) (g:=Builtin.max2) (λ_ _ _ _=>rfl) w l k x vs q h (by simpa using hl) (λj a y ha hy=>hr (j+1) a y (by simpa using ha) (by simpa using hy))
    exact⟨y,by simpa[Builtin.max_] using h1,h2⟩
   ·cases h
theorem AKT{ats:Array TypeId}{ty:TypeId}{l:List AVal}{vs:Array Value}{q:AVal}(h:foldA minI l=some q)(hl:vs.size=l.length)
  (hr:∀(j:Nat) (a:AVal) (y:Value),l[j]?=some a->vs[j]?=some y->VRel B ι D a y) (w:World):∃y,(Builtin.min_ ats ty vs).run P w=.ok y w/\VRel B ι D q y:=by
 obtain⟨vs⟩:=vs
 cases l with
 |nil=>simp[foldA] at h
 |cons a l=>
  cases vs with
  |nil=>simp at hl
  |cons y vs=>
   have h0:=hr 0 a y rfl rfl
   unfold foldA at h
   split at h
   ·rename_i k x rest he
    simp only[List.cons.injEq] at he
    obtain⟨rfl,rfl⟩:=he
    cases h0.d_inv
    obtain⟨y,h1,h2⟩:=Zl (P:=P) (g:=Builtin.min2) (λ_ _ _ _=>rfl) w l k x vs q h (by simpa using hl) (λj a y ha hy=>hr (j+1) a y (by simpa using ha) (by simpa using hy))
    exact⟨y,by simpa[Builtin.min_] using h1,h2⟩
   ·cases h
end Go.Sym

namespace Go.Sym
variable {P : Program}
structure Calm(w w':World):Prop where
 os:w'.os=w.os
 tape:w'.tape=w.tape
 output:w'.output=w.output
theorem Calm.trans{w w' w'':World}(h:Calm w w')(k:Calm w' w''):Calm w w'':=⟨k.os.trans h.os,k.tape.trans h.tape,k.output.trans h.output⟩
structure Moved(B:Jk)(ι:Nat->Pl)(H:Heap)(w:World)(B':Jk)(ι':Nat->Pl)(H':Heap)(w':World):Prop where
 bm:∀b c,B b=some c->B' b=some c
 bn:∀b c,B' b=some c->B b=some c∨w.heap.size<=b∨∃i o,H i=.live o/\(ι i).b=b
 im:∀i,H.dom i->H'.dom i/\ι' i=ι i
 heap:HRel B' ι' H' w'
 own:∀i o,H' i=.live o->(∃i0 o0,H i0=.live o0/\(ι i0).b=(ι' i).b)∨w.heap.size<=(ι' i).b
 frame:∀b,b<w.heap.size->(∀i o,H i=.live o->(ι i).b≠b)->w'.heap[b]?=w.heap[b]?
 size:w.heap.size<=w'.heap.size
 calm:Calm w w'
variable {B B' B'' : Jk} {ι ι' ι'' : Nat -> Pl} {H H' H'' : Heap} {w w' w'' : World}
theorem Moved.vrel(h:Moved B ι H w B' ι' H' w'){a:AVal}{y:Value}(hv:VRel B ι H.dom a y):VRel B' ι' H'.dom a y:=hv.mono h.bm h.im
theorem Moved.refl(h:HRel B ι H w):Moved B ι H w B ι H w:=
 ⟨λ_ _ h=>h,λ_ _ h=>.inl h,λ_ h=>⟨h,rfl⟩,h,λi o h=>.inl ⟨i,o,h,rfl⟩,λ_ _ _=>rfl,Nat.le_refl _,⟨rfl,rfl,rfl⟩⟩
theorem Moved.trans(h:Moved B ι H w B' ι' H' w')(h':Moved B' ι' H' w' B'' ι'' H'' w''):Moved B ι H w B'' ι'' H'' w'' where
 bm b c hb:=h'.bm b c (h.bm b c hb)
 bn b c hb:=by
  rcases h'.bn b c hb with h1 | h1 | ⟨i,o,h1,h2⟩
  ·exact h.bn b c h1
  ·exact .inr (.inl (Nat.le_trans h.size h1))
  ·rcases h.own i o h1 with⟨i0,o0,h3,h4⟩ | h3
   ·exact .inr (.inr ⟨i0,o0,h3,h4.trans h2⟩)
   ·exact .inr (.inl (h2 ▸ h3))
 im i hi:=⟨(h'.im i (h.im i hi).1).1,by rw[(h'.im i (h.im i hi).1).2,(h.im i hi).2]⟩
 heap:=h'.heap
 own i o hi:=by
  rcases h'.own i o hi with⟨i1,o1,h1,e1⟩ | hle
  ·rw[<-e1];exact h.own i1 o1 h1
  ·exact .inr (Nat.le_trans h.size hle)
 frame b hb hno:=by
  rw[h'.frame b (Nat.lt_of_lt_of_le hb h.size) ?_,h.frame b hb hno]
  intro i o hi
  rcases h.own i o hi with⟨i1,o1,h1,e1⟩ | hle
  ·rw[<-e1];exact hno i1 o1 h1
  ·omega
 size:=Nat.le_trans h.size h'.size
 calm:=h.calm.trans h'.calm
def IV(H:Heap)(i:Nat)(c:HCell):Heap:=λj=>if j=i then c else H j
theorem NF(H:Heap)(i:Nat)(c:HCell):IV H i c i=c:=by simp[IV]
theorem MQ(H:Heap){i j:Nat}(c:HCell)(h:j≠i):IV H i c j=H j:=by simp[IV,h]
theorem Mm(h:HRel B ι H w){i:Nat}{o:AObj}(hi:H i=.live o):(ι i).b<w.heap.size:=by
 have:=h.obj i o hi
 cases hq:w.heap[(ι i).b]? with
 |none=>rw[hq] at this;cases this
 |some x=>exact (Array.getElem?_eq_some_iff.1 hq).1
theorem BAH(h:HRel B ι H w){b:Nat}{c:Array Value}(hb:B b=some c):b<w.heap.size:=by
 obtain⟨e,fr,hq⟩:=h.imm b c hb
 exact (Array.getElem?_eq_some_iff.1 hq).1
theorem Aj{o:Obj}{b:Nat}(h:b<w.heap.size):(w.alloc o).heap[b]?=w.heap[b]?:=by
 show (w.heap.push o)[b]?=w.heap[b]?
 rw[Array.getElem?_push,if_neg (by omega)]
theorem Sg(o:Obj):(w.alloc o).heap[w.heap.size]?=some o:=by
 show (w.heap.push o)[w.heap.size]?=some o
 simp
def yH(ι:Nat->Pl)(r:Nat)(b:Pl):Nat->Pl:=λj=>if j=r then b else ι j
theorem LU(ι:Nat->Pl)(r:Nat)(b:Pl):yH ι r b r=b:=by simp[yH]
theorem Sj(ι:Nat->Pl){r j:Nat}(b:Pl)(h:j≠r):yH ι r b j=ι j:=by simp[yH,h]
theorem Moved.new(h:HRel B ι H w){r:Nat}(hr:H r=.none){o:AObj}{x:Obj}{q:Nat}
  (ho:ORel B (yH ι r ⟨w.heap.size,q⟩) (IV H r (.live o)).dom q o (some x)) :
  Moved B ι H w B (yH ι r ⟨w.heap.size,q⟩) (IV H r (.live o)) (w.alloc x):=by
 have hne:∀i,H.dom i->i≠r:=λi hi he=>hi (he ▸ hr)
 have im:∀i,H.dom i->(IV H r (.live o)).dom i/\(yH ι r ⟨w.heap.size,q⟩) i=ι i:=λi hi=>
  ⟨by unfold Heap.dom;rw[MQ _ _ (hne i hi)];exact hi,Sj _ _ (hne i hi)⟩
 have live:∀i o',IV H r (.live o) i=.live o'->i=r∨H i=.live o':=λi o' hi=>by
  by_cases hir:i=r
  ·exact .inl hir
  ·rw[MQ _ _ hir] at hi;exact .inr hi
 refine⟨λ_ _ h=>h,λ_ _ h=>.inl h,im,⟨?_,?_,?_,?_⟩,?_,?_,by simp,⟨rfl,rfl,rfl⟩⟩
 ·intro i o' hi
  rcases live i o' hi with rfl | hi'
  ·rw[NF] at hi;cases hi
   rw[LU,Sg];exact ho
  ·have hd:H.dom i:=by unfold Heap.dom;rw[hi'];simp
   rw[(im i hd).2,Aj (Mm h hi')]
   exact (h.obj i o' hi').mono (λ_ _ h=>h) im
 ·intro i j o1 o2 hi hj hij
  rcases live i o1 hi with rfl | hi'<;>rcases live j o2 hj with rfl | hj'
  ·rfl
  ·have hd:H.dom j:=by unfold Heap.dom;rw[hj'];simp
   rw[(im j hd).2] at hij
   rw[LU] at hij
   have:=Mm h hj'
   simp only at hij
   omega
  ·have hd:H.dom i:=by unfold Heap.dom;rw[hi'];simp
   rw[(im i hd).2] at hij
   rw[LU] at hij
   have:=Mm h hi'
   simp only at hij
   omega
  ·have hd:H.dom i:=by unfold Heap.dom;rw[hi'];simp
   have hd':H.dom j:=by unfold Heap.dom;rw[hj'];simp
   rw[(im i hd).2,(im j hd').2] at hij
   exact h.inj i j o1 o2 hi' hj' hij
 ·intro i o' hi
  rcases live i o' hi with rfl | hi'
  ·rw[LU]
   cases hb:B w.heap.size with
   |none=>rfl
   |some c=>have:=BAH h hb;omega
  ·have hd:H.dom i:=by unfold Heap.dom;rw[hi'];simp
   rw[(im i hd).2];exact h.sep i o' hi'
 ·intro b c hb
  obtain⟨e,fr,hq⟩:=h.imm b c hb
  exact⟨e,fr,by rw[Aj (BAH h hb)];exact hq⟩
 ·intro i o' hi
  rcases live i o' hi with rfl | hi'
  ·right;rw[LU];exact Nat.le_refl _
  ·have hd:H.dom i:=by unfold Heap.dom;rw[hi'];simp
   exact .inl ⟨i,o',hi',by rw[(im i hd).2]⟩
 ·intro b hb _
  exact Aj hb
theorem Moved.newImm(h:HRel B ι H w)(c:Array Value)(e:TypeId) :
  Moved B ι H w (λb=>if b=w.heap.size then some c else B b) ι H (w.alloc (.cells c e)):=by
 have bm:∀b x,B b=some x->(if b=w.heap.size then some c else B b)=some x:=λb x hb=>by
  have:=BAH h hb
  rw[if_neg (by omega)];exact hb
 refine⟨bm,λb x hb=>by
  split at hb
  ·rename_i he;exact .inr (.inl (by omega))
  ·exact .inl hb,λ_ h=>⟨h,rfl⟩,⟨?_,h.inj,?_,?_⟩,λi o h=>.inl ⟨i,o,h,rfl⟩,λb hb _=>Aj hb,by simp,⟨rfl,rfl,rfl⟩⟩
 ·intro i o hi
  rw[Aj (Mm h hi)]
  exact (h.obj i o hi).mono bm λ_ h=>⟨h,rfl⟩
 ·intro i o hi
  have:=Mm h hi
  show (if (ι i).b=w.heap.size then some c else B (ι i).b)=none
  rw[if_neg (by omega)];exact h.sep i o hi
 ·intro b x hb
  split at hb
  ·cases hb
   rename_i hbs;subst hbs
   exact⟨e,(0,0),Sg _⟩
  ·obtain⟨e,fr,hq⟩:=h.imm b x hb
   exact⟨e,fr,by rw[Aj (BAH h hb)];exact hq⟩
theorem Moved.write(h:HRel B ι H w){id:Nat}{o o':AObj}(hid:H id=.live o){w':World}(hs:w'.heap.size=w.heap.size)(hoth:∀b,b≠(ι id).b->w'.heap[b]?=w.heap[b]?)
  (ho:ORel B ι H.dom (ι id).cap o' (w'.heap[(ι id).b]?)) (hc:Calm w w':=by exact⟨rfl,rfl,rfl⟩):Moved B ι H w B ι (IV H id (.live o')) w':=by
 have dm:∀i,H.dom i->(IV H id (.live o')).dom i/\ι i=ι i:=λi hi=>⟨by
  unfold Heap.dom IV;split
  ·simp
  ·exact hi,rfl⟩
 have live:∀i o2,IV H id (.live o') i=.live o2->∃o3,H i=.live o3:=λi o2 hi=>by
  by_cases hii:i=id
  ·exact⟨o,hii ▸ hid⟩
  ·rw[MQ _ _ hii] at hi;exact⟨_,hi⟩
 refine⟨λ_ _ h=>h,λ_ _ h=>.inl h,dm,⟨?_,?_,?_,?_⟩,λi o2 hi=>.inl (let ⟨o3,h3⟩:=live i o2 hi;⟨i,o3,h3,rfl⟩),?_,by omega,hc⟩
 ·intro i o2 hi
  by_cases hii:i=id
  ·subst hii
   rw[NF] at hi;cases hi
   exact ho.mono (λ_ _ h=>h) dm
  ·rw[MQ _ _ hii] at hi
   rw[hoth _ (λhe=>hii (h.inj _ _ _ _ hi hid he))]
   exact (h.obj i o2 hi).mono (λ_ _ h=>h) dm
 ·intro i j o1 o2 hi hj hij
  obtain⟨o3,h3⟩:=live i o1 hi
  obtain⟨o4,h4⟩:=live j o2 hj
  exact h.inj i j _ _ h3 h4 hij
 ·intro i o2 hi
  obtain⟨o3,h3⟩:=live i o2 hi
  exact h.sep i _ h3
 ·intro b c hb
  have:b≠(ι id).b:=λhe=>by rw[he,h.sep id _ hid] at hb;cases hb
  rw[hoth b this]
  exact h.imm b c hb
 ·intro b _ hno
  exact hoth b (λhe=>hno id _ hid he.symm)
theorem Moved.drop(h:HRel B ι H w)(id:Nat)(hd:H.dom id):Moved B ι H w B ι (IV H id .dead) w:=by
 have dm:∀i,H.dom i->(IV H id .dead).dom i/\ι i=ι i:=λi hi=>⟨by
  unfold Heap.dom IV;split
  ·simp
  ·exact hi,rfl⟩
 have live:∀i o2,IV H id .dead i=.live o2->H i=.live o2:=λi o2 hi=>by
  by_cases hii:i=id
  ·subst hii;rw[NF] at hi;cases hi
  ·rw[MQ _ _ hii] at hi;exact hi
 exact⟨λ_ _ h=>h,λ_ _ h=>.inl h,dm,⟨λi o hi=>(h.obj i o (live i o hi)).mono (λ_ _ h=>h) dm,λi j o1 o2 hi hj=>h.inj i j o1 o2 (live _ _ hi) (live _ _ hj),
  λi o hi=>h.sep i o (live _ _ hi),h.imm⟩,λi o hi=>.inl ⟨i,o,live _ _ hi,rfl⟩,λ_ _ _=>rfl,Nat.le_refl _,⟨rfl,rfl,rfl⟩⟩
theorem Moved.freeze(h:HRel B ι H w){id k n:Nat}{get:Nat->DVal}(hid:H id=.live (.row k n get)) :
  ∃c e,w.heap[(ι id).b]?=some (.cells c e (0,0))/\Moved B ι H w (λb=>if b=(ι id).b then some c else B b) ι (IV H id .dead) w /\
   n<=(ι id).cap/\(ι id).cap*k<=c.size/\(∀i,i<n->EOk k (get i))/\∀(i j:Nat) (x:DVal) (y:Value),i<n->(get i).cells1[j]?=some x->c[i*k+j]?=some y->DRel B x y:=by
 have ho:=h.obj _ _ hid
 generalize hq:w.heap[(ι id).b]?=q at ho
 cases ho with
 |row hk hn hsz hrel=>
  rename_i c e
  refine⟨c,e,rfl,?_,hn,hsz,hk,hrel⟩
  have bm:∀b x,B b=some x->(if b=(ι id).b then some c else B b)=some x:=λb x hb=>by
   split
   ·rename_i he;rw[he,h.sep id _ hid] at hb;cases hb
   ·exact hb
  have dm:∀i,H.dom i->(IV H id .dead).dom i/\ι i=ι i:=λi hi=>⟨by
   unfold Heap.dom IV;split
   ·simp
   ·exact hi,rfl⟩
  have live:∀i o2,IV H id .dead i=.live o2->i≠id/\H i=.live o2:=λi o2 hi=>by
   by_cases hii:i=id
   ·subst hii;rw[NF] at hi;cases hi
   ·rw[MQ _ _ hii] at hi;exact⟨hii,hi⟩
  refine⟨bm,λb x hb=>by
   split at hb
   ·rename_i he;exact .inr (.inr ⟨id,_,hid,he.symm⟩)
   ·exact .inl hb,dm,⟨λi o hi=>(h.obj i o (live i o hi).2).mono bm dm,λi j o1 o2 hi hj=>h.inj i j o1 o2 (live _ _ hi).2 (live _ _ hj).2,?_,?_⟩,
   λi o hi=>.inl ⟨i,o,(live _ _ hi).2,rfl⟩,λ_ _ _=>rfl,Nat.le_refl _,⟨rfl,rfl,rfl⟩⟩
  ·intro i o hi
   obtain⟨h1,h2⟩:=live i o hi
   show (if (ι i).b=(ι id).b then some c else B (ι i).b)=none
   rw[if_neg (λhe=>h1 (h.inj _ _ _ _ h2 hid he))]
   exact h.sep i o h2
  ·intro b x hb
   split at hb
   ·rename_i he;cases hb;subst he
    exact⟨e,(0,0),hq⟩
   ·exact h.imm b x hb
theorem Moved.drew(h:HRel B ι H w)(n:Nat):Moved B ι H w B ι H { w with drawn:=n }:=
 ⟨λ_ _ h=>h,λ_ _ h=>.inl h,λ_ h=>⟨h,rfl⟩,⟨h.obj,h.inj,h.sep,h.imm⟩,λi o h=>.inl ⟨i,o,h,rfl⟩,λ_ _ _=>rfl,Nat.le_refl _,⟨rfl,rfl,rfl⟩⟩
def fY(sl:Nat->AVal)(dst:Option Tmp)(v:AVal):Nat->AVal:=match dst with
 |some d=>λt=>if t=d then v else sl t
 |none=>sl
theorem vO{sl:Nat->AVal}{a:Act}{B:Jk}{ι:Nat->Pl}{D:Nat->Prop}(h:∀t,VRel B ι D (sl t) (a.tmps.getD t undef)){dst:Option Tmp}(hd:∀d,dst=some d->d<a.tmps.size)
  {v:AVal} {y:Value} (hv:VRel B ι D v y) (t:Nat):VRel B ι D (fY sl dst v t) ((a.put dst y).tmps.getD t undef):=by
 cases dst with
 |none=>exact h t
 |some d=>
  have:=hd d rfl
  simp only[fY,Act.put]
  split
  ·rename_i he;subst he
   simp[this];exact hv
  ·rename_i he
   have:=h t
   simp only[Array.getD_eq_getD_getElem?] at this ⊢
   rw[Array.getElem?_setIfInBounds_ne (λh=>he h.symm)]
   exact this
end Go.Sym
