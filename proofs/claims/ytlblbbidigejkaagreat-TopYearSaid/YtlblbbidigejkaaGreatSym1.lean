/- Abstract values, abstract heaps, and what it means that they stand for a world. -/
import Derived.Orders
import Derived.Laws.Sem
import Derived.Laws.Entries
import Derived.Laws.Cells
import Derived.Laws.Tables
set_option linter.unusedVariables false
set_option linter.unusedSimpArgs false
namespace Go.Sym
inductive DVal where
 |v (x:Value)
 |agg (ds:List DVal)
 |tup (ds:List DVal)
 |list (k n:Nat) (get:Nat->DVal) (ex:Bool)
 |eref (d:DVal) (c:Nat)
 |arr (k n:Nat) (get:Nat->DVal)
 |iface (t:TypeId) (d:DVal)
 |anyB
 deriving Inhabited
def DVal.cells1:DVal->List DVal
 | .agg ds=>ds
 |d=>[d]
def EY:List DVal->Bool
 |[]=>true
 | .v (.agg _) :: _ | .v (.tuple _) :: _ | .agg _ :: _ | .tup _ :: _ | .arr .. :: _=>false
 |_ :: r=>EY r
structure EOk(k:Nat)(d:DVal):Prop where
 len:d.cells1.length=k
 one:EY d.cells1=true
def DVal.cells:DVal->List DVal
 | .agg ds=>ds
 | .arr _ n get=>(List.range n).flatMap λj=>(get j).cells1
 |d=>[d]
@[reducible] def DVal.int (n:Int):DVal:=.v (.int .i64 n)
@[reducible] def DVal.bool (b:Bool):DVal:=.v (.bool b)
def BG:List Prop->Prop
 |[]=>True
 |[p]=>p
 |p :: r=>p/\BG r
abbrev Ft:=Nat->Option (Array Value)
inductive DRel(B:Ft):DVal->Value->Prop
 |v (x:Value):DRel B (.v x) x
 |agg {ds:List DVal} {ys:Array Value} (hl:ys.size=ds.length) (h:∀(j:Nat) (x:DVal) (y:Value),ds[j]?=some x->ys[j]?=some y->DRel B x y):DRel B (.agg ds) (.agg ys)
 |tup {ds:List DVal} {ys:Array Value} (hl:ys.size=ds.length) (h:∀(j:Nat) (x:DVal) (y:Value),ds[j]?=some x->ys[j]?=some y->DRel B x y):DRel B (.tup ds) (.tuple ys)
 |nil {k:Nat} {get:Nat->DVal} {ex:Bool} {base:Option Addr} {cap:Nat} (hex:ex=true->cap=0) (hbase:cap=0∨base≠none):DRel B (.list k 0 get ex) (.slice base 0 cap)
 |list {k n:Nat} {get:Nat->DVal} {ex:Bool} {b off cap:Nat} {c:Array Value} (hn:0<n) (hb:B b=some c) (hcap:n<=cap) (hex:ex=true->cap=n)
   (hk:∀i:Nat,i<n->EOk k (get i)) (hsz:off+n*k<=c.size)
   (h:∀(i j:Nat) (x:DVal) (y:Value),i<n->(get i).cells1[j]?=some x->c[off+i*k+j]?=some y->DRel B x y):DRel B (.list k n get ex) (.slice (some ⟨b,off,none⟩) n cap)
 |eref {d:DVal} {c0 b off:Nat} {c:Array Value} (hb:B b=some c) (hsz:off+d.cells1.length<=c.size)
   (h:∀(j:Nat) (x:DVal) (y:Value),d.cells1[j]?=some x->c[off+j]?=some y->DRel B x y):DRel B (.eref d c0) (.pointer (some ⟨b,off+c0,none⟩))
 |arr {k n:Nat} {get:Nat->DVal} {ys:Array Value} (hl:ys.size=n*k) (hk:∀i:Nat,i<n->EOk k (get i))
   (h:∀(i j:Nat) (x:DVal) (y:Value),i<n->(get i).cells1[j]?=some x->ys[i*k+j]?=some y->DRel B x y):DRel B (.arr k n get) (.agg ys)
 |iface {t:TypeId} {d:DVal} {y:Value} (h:DRel B d y):DRel B (.iface t d) (.iface t y)
 |anyB {b:Bool}:DRel B .anyB (.bool b)
theorem DRel.mono{B B':Ft}(hB:∀b c,B b=some c->B' b=some c){d:DVal}{y:Value}(h:DRel B d y):DRel B' d y:=by
 induction h with
 |v x=>exact .v x
 |agg hl _ ih=>exact .agg hl ih
 |tup hl _ ih=>exact .tup hl ih
 |nil hex hbase=>exact .nil hex hbase
 |list hn hb hcap hex hk hsz _ ih=>exact .list hn (hB _ _ hb) hcap hex hk hsz ih
 |eref hb hsz _ ih=>exact .eref (hB _ _ hb) hsz ih
 |arr hl hk _ ih=>exact .arr hl hk ih
 |iface _ ih=>exact .iface ih
 |anyB=>exact .anyB
inductive KeyK where
 |int (q:IntKind)
 |pair
 deriving DecidableEq
def KeyK.val:KeyK->Int->Value
 | .int q,n=>.int q n
 | .pair,n=>.agg #[.int .i64 (n / 4294967296),.int .i64 (n % 4294967296)]
theorem KeyK.val_inj{q:KeyK}{n m:Int}(h:q.val n=q.val m):n=m:=by
 cases q with
 |int q=>cases h;rfl
 |pair=>
  simp only[KeyK.val,Value.agg.injEq,Array.mk.injEq,List.cons.injEq,Value.int.injEq,true_and,and_true] at h
  omega
structure Pl where
 b:Nat
 cap:Nat
inductive AVal where
 |d (x:DVal)
 |agg (cs:List AVal)
 |tup (cs:List AVal)
 |bptr (id c:Nat)
 |rptr (id k i c:Nat)
 |own (id k i n:Nat)
 |fn (f:Fn) (first caps:List AVal)
 |mref (id:Nat)
 |any
 |opt (g:Bool) (a:AVal)
 deriving Inhabited
def AVal.cells:AVal->List AVal
 | .d x=>x.cells.map .d
 | .agg cs=>cs
 |a=>[a]
@[reducible] def AVal.int (n:Int):AVal:=.d (.v (.int .i64 n))
@[reducible] def AVal.bool (b:Bool):AVal:=.d (.v (.bool b))
inductive VRel(B:Ft)(ι:Nat->Pl)(D:Nat->Prop):AVal->Value->Prop
 |d {x:DVal} {y:Value} (h:DRel B x y):VRel B ι D (.d x) y
 |agg {cs:List AVal} {ys:Array Value} (hl:ys.size=cs.length) (h:∀(j:Nat) (x:AVal) (y:Value),cs[j]?=some x->ys[j]?=some y->VRel B ι D x y):VRel B ι D (.agg cs) (.agg ys)
 |tup {cs:List AVal} {ys:Array Value} (hl:ys.size=cs.length) (h:∀(j:Nat) (x:AVal) (y:Value),cs[j]?=some x->ys[j]?=some y->VRel B ι D x y):VRel B ι D (.tup cs) (.tuple ys)
 |bptr {id c:Nat} (hD:D id):VRel B ι D (.bptr id c) (.pointer (some ⟨(ι id).b,c,none⟩))
 |rptr {id k i c:Nat} (hD:D id):VRel B ι D (.rptr id k i c) (.pointer (some ⟨(ι id).b,i*k+c,none⟩))
 |own {id k i n cap:Nat} (hD:D id) (hcap:n<=cap) (hq:i+cap<=(ι id).cap):VRel B ι D (.own id k i n) (.slice (some ⟨(ι id).b,i*k,none⟩) n cap)
 |fn {f:Fn} {first caps:List AVal} {xs ys:Array Value} (hx:xs.size=first.length) (hy:ys.size=caps.length)
   (h1:∀(j:Nat) (x:AVal) (y:Value),first[j]?=some x->xs[j]?=some y->VRel B ι D x y) (h2:∀(j:Nat) (x:AVal) (y:Value),caps[j]?=some x->ys[j]?=some y->VRel B ι D x y) :
   VRel B ι D (.fn f first caps) (.func f xs ys)
 |mref {id:Nat} (hD:D id):VRel B ι D (.mref id) (.map (some (ι id).b))
 |any {y:Value}:VRel B ι D .any y
 |opt {g:Bool} {a:AVal} {y:Value} (ht:g=true->VRel B ι D a y) (hf:g=false->y=.tuple #[]):VRel B ι D (.opt g a) y
theorem VRel.mono{B B':Ft}{ι ι':Nat->Pl}{D D':Nat->Prop}(hB:∀b c,B b=some c->B' b=some c)(hι:∀i,D i->D' i/\ι' i=ι i)
  {a:AVal} {y:Value} (h:VRel B ι D a y):VRel B' ι' D' a y:=by
 induction h with
 |d h=>exact .d (h.mono hB)
 |agg hl _ ih=>exact .agg hl ih
 |tup hl _ ih=>exact .tup hl ih
 |bptr hD=>rw[<-(hι _ hD).2];exact .bptr (hι _ hD).1
 |rptr hD=>rw[<-(hι _ hD).2];exact .rptr (hι _ hD).1
 |own hD hcap hq=>rw[<-(hι _ hD).2] at hq ⊢;exact .own (hι _ hD).1 hcap hq
 |fn hx hy _ _ ih1 ih2=>exact .fn hx hy ih1 ih2
 |mref hD=>rw[<-(hι _ hD).2];exact .mref (hι _ hD).1
 |any=>exact .any
 |opt _ hf ih=>exact .opt ih hf
inductive AObj where
 |row (k n:Nat) (get:Nat->DVal)
 |box (es:List AVal)
 |imap (q:KeyK) (z:Value) (has:Int->Bool) (get:Int->DVal) (st:Int->Int) (pend:Option Int)
 |kmap (q:KeyK) (z:Value) (has:Int->Bool) (get:Int->DVal)
 |abox (es:List AVal) (m:Nat) (get:Nat->Bool)
 |nbox (ds:List DVal) (m z:Nat) (get:Nat->Int)
 |miter (m:Nat) (hs:Int->Bool) (st:Int->Int) (seen:Int->Bool) (cur:Option Int)
 deriving Inhabited
structure MapIs(B:Ft)(q:KeyK)(z:Value)(has:Int->Bool)(get:Int->DVal)(st:Int->Int)(es:Array MapEntry)(clock:Nat):Prop where
 keys:∀(i:Nat) (e:MapEntry),es[i]?=some e->∃n,e.key=q.val n/\has n=true/\e.born<clock/\(e.born:Int)=st n/\DRel B (get n) e.val
 miss:∀n:Int,has n=false->DRel B (get n) z/\st n=clock
 met:∀n:Int,has n=true->∃(i:Nat) (e:MapEntry),es[i]?=some e/\e.key=q.val n
 once:∀(i j:Nat) (e e':MapEntry),es[i]?=some e->es[j]?=some e'->(e.key=e'.key∨e.born=e'.born)->i=j
structure KMapIs(B:Ft)(q:KeyK)(z:Value)(has:Int->Bool)(get:Int->DVal)(es:Array MapEntry):Prop where
 keys:∀(i:Nat) (e:MapEntry),es[i]?=some e->∃n,e.key=q.val n/\has n=true/\DRel B (get n) e.val
 miss:∀n:Int,has n=false->DRel B (get n) z
 met:∀n:Int,has n=true->∃(i:Nat) (e:MapEntry),es[i]?=some e/\e.key=q.val n
 once:∀(i j:Nat) (e e':MapEntry),es[i]?=some e->es[j]?=some e'->e.key=e'.key->i=j
inductive ORel(B:Ft)(ι:Nat->Pl)(D:Nat->Prop)(q:Nat):AObj->Option Obj->Prop
 |row {k n:Nat} {get:Nat->DVal} {c:Array Value} {e:TypeId} (hk:∀i:Nat,i<n->EOk k (get i)) (hn:n<=q) (hsz:q*k<=c.size)
   (h:∀(i j:Nat) (x:DVal) (y:Value),i<n->(get i).cells1[j]?=some x->c[i*k+j]?=some y->DRel B x y):ORel B ι D q (.row k n get) (some (.cells c e (0,0)))
 |box {es:List AVal} {c:Array Value} {e:TypeId} (hsz:c.size=es.length) (h:∀(j:Nat) (x:AVal) (y:Value),es[j]?=some x->c[j]?=some y->VRel B ι D x y) :
   ORel B ι D q (.box es) (some (.cells c e (0,0)))
 |imap {kd:KeyK} {z:Value} {has:Int->Bool} {get:Int->DVal} {st:Int->Int} {pend:Option Int} {es:Array MapEntry} {clock:Nat} (h:MapIs B kd z has get st es clock):ORel B ι D q (.imap kd z has get st pend) (some (.map es clock))
 |kmap {kd:KeyK} {z:Value} {has:Int->Bool} {get:Int->DVal} {es:Array MapEntry} {clock:Nat} (h:KMapIs B kd z has get es):ORel B ι D q (.kmap kd z has get) (some (.map es clock))
 |abox {es:List AVal} {m:Nat} {get:Nat->Bool} {c:Array Value} {e:TypeId} (hsz:c.size=es.length+m) (h:∀(j:Nat) (x:AVal) (y:Value),es[j]?=some x->c[j]?=some y->VRel B ι D x y)
   (hb:∀j:Nat,j<m->c[es.length+j]?=some (.bool (get j))):ORel B ι D q (.abox es m get) (some (.cells c e (0,0)))
 |nbox {ds:List DVal} {m z:Nat} {get:Nat->Int} {c:Array Value} {e:TypeId} (hsz:c.size=ds.length+m+z) (h:∀(j:Nat) (x:DVal) (y:Value),ds[j]?=some x->c[j]?=some y->DRel B x y)
   (hb:∀j:Nat,ds.length<=j->j<ds.length+m->c[j]?=some (.int .i64 (get j))):ORel B ι D q (.nbox ds m z get) (some (.cells c e (0,0)))
 |miter {m:Nat} {hs:Int->Bool} {st:Int->Int} {seen:Int->Bool} {cur:Option Int} {since stepped:Nat} {sn:Array Nat} (hD:D m) (h1:since<=stepped) (h2:∀n:Int,(hs n=true->st n<since)/\(hs n=false->(since:Int)<=st n)) (h3:∀n:Int,seen n=true->hs n=true)
   (h4:∀k:Nat,sn.contains k=true↔∃n:Int,seen n=true/\st n=k)
   (h5:∀k:Int,cur=some k->hs k=true/\(∀n:Int,hs n=false->st n=stepped)/\∃(sn':Array Nat) (b:Nat),sn=sn'.push b/\st k=b):ORel B ι D q (.miter m hs st seen cur) (some (.mapIter (some (ι m).b) since sn stepped))
theorem MapIs.mono{B B':Ft}(hB:∀b c,B b=some c->B' b=some c){q z has get st es clock}(h:MapIs B q z has get st es clock):MapIs B' q z has get st es clock:=
 ⟨λi e he=>let ⟨n,h1,h2,h3,h4,h5⟩:=h.keys i e he;⟨n,h1,h2,h3,h4,h5.mono hB⟩,λn hn=>⟨(h.miss n hn).1.mono hB,(h.miss n hn).2⟩,h.met,h.once⟩
theorem KMapIs.mono{B B':Ft}(hB:∀b c,B b=some c->B' b=some c){q z has get es}(h:KMapIs B q z has get es):KMapIs B' q z has get es:=
 ⟨λi e he=>let ⟨n,h1,h2,h5⟩:=h.keys i e he;⟨n,h1,h2,h5.mono hB⟩,λn hn=>(h.miss n hn).mono hB,h.met,h.once⟩
theorem ORel.mono{B B':Ft}{ι ι':Nat->Pl}{D D':Nat->Prop}(hB:∀b c,B b=some c->B' b=some c)(hι:∀i,D i->D' i/\ι' i=ι i)
  {q:Nat} {a:AObj} {y:Option Obj} (h:ORel B ι D q a y):ORel B' ι' D' q a y:=by
 cases h with
 |row hk hn hsz h=>exact .row hk hn hsz λi j x y hi hx hy=>(h i j x y hi hx hy).mono hB
 |box hsz h=>exact .box hsz λj x y hx hy=>(h j x y hx hy).mono hB hι
 |imap h=>exact .imap (h.mono hB)
 |kmap h=>exact .kmap (h.mono hB)
 |abox hsz h hb=>exact .abox hsz (λj x y hx hy=>(h j x y hx hy).mono hB hι) hb
 |nbox hsz h hb=>exact .nbox hsz (λj x y hx hy=>(h j x y hx hy).mono hB) hb
 |miter hD h1 h2 h3 h4 h5=>rw[<-(hι _ hD).2];exact .miter (hι _ hD).1 h1 h2 h3 h4 h5
inductive HCell where
 |none
 |dead
 |live (o:AObj)
 deriving Inhabited
abbrev Heap:=Nat->HCell
def Heap.dom(H:Heap)(i:Nat):Prop:=H i≠.none
structure AState where
 sl:Nat->AVal
 H:Heap
structure HRel(B:Ft)(ι:Nat->Pl)(H:Heap)(w:World):Prop where
 obj:∀i o,H i=.live o->ORel B ι H.dom (ι i).cap o (w.heap[(ι i).b]?)
 inj:∀i j o o',H i=.live o->H j=.live o'->(ι i).b=(ι j).b->i=j
 sep:∀i o,H i=.live o->B (ι i).b=Option.none
 imm:∀b c,B b=some c->∃e fr,w.heap[b]?=some (.cells c e fr)
end Go.Sym
namespace Go.Sym
variable {P : Program} {B : Ft} {ι : Nat -> Pl} {D : Nat -> Prop} {H : Heap} {w : World}
theorem QU{t:TypeId}{i:TypeInfo}(h:P.info? t=some i)(w:World):(typeInfo t).run P w=.ok i w:=by
 simp[typeInfo,h]
theorem EH{t:TypeId}{n:Nat}(h:(P.info? t).map (·.size)=some n)(w:World):(sizeOf t).run P w=.ok n w:=by
 cases hi:P.info? t with
 |none=>simp[hi] at h
 |some i=>simp[hi] at h;simp[sizeOf,QU hi,h]
def Kn:TypeDesc->Bool
 | .struct _ | .array _ _=>true
 |_=>false
theorem Su{t:TypeId}{d:TypeDesc}(h:P.underlying t=some d)(w:World):(isAgg t).run P w=.ok (Kn d) w:=by
 unfold isAgg
 rw[Sem.run_bind,run_underlying h w]
 cases d<;>rfl
def Ux:Value->DVal
 | .slice none 0 0=>.list 0 0 (λ_=>default) true
 |x=>.v x
def ofV:Value->DVal
 | .agg ys=>.agg (ys.toList.map Ux)
 | .slice none 0 0=>.list 0 0 (λ_=>default) true
 |x=>.v x
theorem TX(x:Value):DRel B (Ux x) x:=by
 unfold Ux;split
 ·exact .nil (λ_=>rfl) (.inl rfl)
 ·exact .v _
theorem nZ(x:Value):DRel B (ofV x) x:=by
 unfold ofV;split
 ·rename_i ys
  refine .agg (by simp) λj x y hx hy=>?_
  simp only[List.getElem?_map,Option.map_eq_some_iff] at hx
  obtain⟨z,hz,rfl⟩:=hx
  rw[Array.getElem?_toList] at hz
  rw[hz] at hy;cases hy
  exact TX _
 ·exact .nil (λ_=>rfl) (.inl rfl)
 ·exact .v _
def AX(sl:Nat->AVal):Operand->AVal
 | .tmp t=>sl t
 | .const v=>.d (ofV v)
 | .global g=>.d (.v (.pointer (some ⟨g,0,none⟩)))
 | .func f=>.fn (.func f) [] []
theorem HS{sl:Nat->AVal}{a:Act}(h:∀t,VRel B ι D (sl t) (a.tmps.getD t undef))(x:Operand):VRel B ι D (AX sl x) (a.eval x):=by
 cases x with
 |tmp t=>exact h t
 |const v=>exact .d (nZ v)
 |global g=>exact .d (.v _)
 |func f=>exact .fn rfl rfl (λj x y hx _=>by simp at hx) (λj x y hx _=>by simp at hx)
def allD:List AVal->Option (List DVal)
 |[]=>some []
 | .d x :: r=>match allD r with
  |some ds=>some (x :: ds)
  |none=>none
 |_ :: _=>none
theorem P6:∀{l:List AVal} {ds:List DVal},allD l=some ds->l=ds.map .d
 |[],ds,h=>by simp[allD] at h;simp[h]
 |a :: r,ds,h=>by
  cases a<;>simp only[allD] at h<;>try exact absurd h (by simp)
  split at h
  ·rename_i ds' hr
   cases h
   simp[P6 hr]
  ·cases h
def AFV(l:List AVal):AVal:=match allD l with
 |some ds=>.d (.agg ds)
 |none=>.agg l
def AVB(l:List AVal):AVal:=match allD l with
 |some ds=>.d (.tup ds)
 |none=>.tup l
theorem VRel.d_inv{x:DVal}{y:Value}(h:VRel B ι D (.d x) y):DRel B x y:=by cases h;assumption
theorem lS{l:List AVal}{ys:Array Value}(hl:ys.size=l.length)(h:∀(j:Nat) (x:AVal) (y:Value),l[j]?=some x->ys[j]?=some y->VRel B ι D x y):VRel B ι D (AFV l) (.agg ys):=by
 unfold AFV;split
 ·rename_i ds hd
  have:=P6 hd
  subst this
  refine .d (.agg (by simpa using hl) λj x y hx hy=>(h j (.d x) y (by simp[hx]) hy).d_inv)
 ·exact .agg hl h
theorem AXG{l:List AVal}{ys:Array Value}(hl:ys.size=l.length)(h:∀(j:Nat) (x:AVal) (y:Value),l[j]?=some x->ys[j]?=some y->VRel B ι D x y):VRel B ι D (AVB l) (.tuple ys):=by
 unfold AVB;split
 ·rename_i ds hd
  have:=P6 hd
  subst this
  refine .d (.tup (by simpa using hl) λj x y hx hy=>(h j (.d x) y (by simp[hx]) hy).d_inv)
 ·exact .tup hl h
theorem A3{α:Type}{k:Nat}(f:Nat->List α):∀(n:Nat),(∀i,i<n->(f i).length=k)->((List.range n).flatMap f).length=n*k
 |0,_=>by simp
 |n+1,hk=>by
  rw[List.range_succ,List.flatMap_append,List.length_append,A3 f n (λi hi=>hk i (by omega))];simp[hk n (by omega),Nat.succ_mul]
theorem AMC{α:Type}{k:Nat}(f:Nat->List α):∀(n:Nat),(∀i,i<n->(f i).length=k)->∀(j:Nat) (x:α),((List.range n).flatMap f)[j]?=some x->∃i c,i<n/\c<k/\j=i*k+c/\(f i)[c]?=some x
 |0,_,j,x,h=>by simp at h
 |n+1,hk,j,x,h=>by
  have hlen:((List.range n).flatMap f).length=n*k:=A3 f n (λi hi=>hk i (by omega))
  rw[List.range_succ,List.flatMap_append] at h
  by_cases hj:j<n*k
  ·rw[List.getElem?_append_left (by omega)] at h
   obtain⟨i,c,h1,h2,h3,h4⟩:=AMC f n (λi hi=>hk i (by omega)) j x h
   exact⟨i,c,by omega,h2,h3,h4⟩
  ·rw[List.getElem?_append_right (by omega)] at h
   simp only[List.flatMap_cons,List.flatMap_nil,List.append_nil] at h
   have:=(List.getElem?_eq_some_iff.1 h).1
   rw[hk n (by omega)] at this
   exact⟨n,j-n*k,by omega,by omega,by omega,by rw[<-hlen];exact h⟩
theorem ADD{d:DVal}{y:Value}(h:DRel B d y)(hd:∀x,d≠.v (.agg x)):y.cells.size=d.cells.length/\∀(j:Nat) (x:DVal) (z:Value),d.cells[j]?=some x->y.cells[j]?=some z->DRel B x z:=by
 have one:∀(d:DVal) (y:Value),DRel B d y->d.cells=[d]->y.cells=#[y]->y.cells.size=d.cells.length/\∀(j:Nat) (x:DVal) (z:Value),d.cells[j]?=some x->y.cells[j]?=some z->DRel B x z:=by
  intro d y h h1 h2
  rw[h1,h2]
  refine⟨rfl,λj x z hx hz=>?_⟩
  cases j with
  |zero=>simp at hx hz;subst hx;subst hz;exact h
  |succ j=>simp at hx
 cases h with
 |v=>
  cases y<;>first | exact one _ _ (.v _) rfl rfl | exact absurd rfl (hd _)
 |agg hl h=>exact⟨by simpa[Value.cells,DVal.cells] using hl,h⟩
 |tup hl h=>exact one _ _ (.tup hl h) rfl rfl
 |nil h1 h2=>exact one _ _ (.nil h1 h2) rfl rfl
 |list a b c d e f g=>exact one _ _ (.list a b c d e f g) rfl rfl
 |eref a b c=>exact one _ _ (.eref a b c) rfl rfl
 |iface a=>exact one _ _ (.iface a) rfl rfl
 |anyB=>exact one _ _ .anyB rfl rfl
 |arr hl hk h=>
  rename_i k n get ys
  refine⟨?_,λj x z hx hz=>?_⟩
  ·rw[show (Value.agg ys).cells=ys from rfl,hl]
   exact (A3 _ n λi hi=>(hk i hi).len).symm
  ·obtain⟨i,c,hi,hc,rfl,hx2⟩:=AMC (k:=k) _ n (λi hi=>(hk i hi).len) j x hx
   exact h i c x z hi hx2 hz
def DVal.noAgg:DVal->Bool
 | .v (.agg _)=>false
 |_=>true
def AVal.noAgg:AVal->Bool
 | .d x=>x.noAgg
 | .any | .opt ..=>false
 |_=>true
theorem sX{a:AVal}{y:Value}(h:VRel B ι D a y)(hd:a.noAgg=true):y.cells.size=a.cells.length/\∀(j:Nat) (x:AVal) (z:Value),a.cells[j]?=some x->y.cells[j]?=some z->VRel B ι D x z:=by
 have one:∀(a:AVal) (y:Value),VRel B ι D a y->a.cells=[a]->y.cells=#[y]->y.cells.size=a.cells.length/\∀(j:Nat) (x:AVal) (z:Value),a.cells[j]?=some x->y.cells[j]?=some z->VRel B ι D x z:=by
  intro a y h h1 h2
  rw[h1,h2]
  refine⟨rfl,λj x z hx hz=>?_⟩
  cases j with
  |zero=>simp at hx hz;subst hx;subst hz;exact h
  |succ j=>simp at hx
 cases h with
 |d h=>
  rename_i x
  have hx:∀z,x≠.v (.agg z):=by rintro z rfl;simp[AVal.noAgg,DVal.noAgg] at hd
  obtain⟨h1,h2⟩:=ADD h hx
  refine⟨by simpa[AVal.cells] using h1,λj x z hx hz=>?_⟩
  simp only[AVal.cells,List.getElem?_map,Option.map_eq_some_iff] at hx
  obtain⟨x',hx',rfl⟩:=hx
  exact .d (h2 j x' z hx' hz)
 |agg hl h=>exact⟨by simpa[Value.cells,AVal.cells] using hl,h⟩
 |tup hl h=>exact one _ _ (.tup hl h) rfl rfl
 |bptr h=>exact one _ _ (.bptr h) rfl rfl
 |rptr h=>exact one _ _ (.rptr h) rfl rfl
 |own h1 h2 h3=>exact one _ _ (.own h1 h2 h3) rfl rfl
 |fn a b c d=>exact one _ _ (.fn a b c d) rfl rfl
 |mref h=>exact one _ _ (.mref h) rfl rfl
 |any=>simp[AVal.noAgg] at hd
 |opt=>simp[AVal.noAgg] at hd
def wF(H:Heap):AVal->Option (List AVal×List Prop)
 | .bptr id c=>match H id with
  | .live (.box es)=>some (es.drop c,[])
  | .live (.abox es _ _)=>some (es.drop c,[])
  | .live (.nbox ds _ _ _)=>some ((ds.drop c).map .d,[])
  |_=>none
 | .rptr id k i c=>match H id with
  | .live (.row k' n get)=>if k==k' then some (((get i).cells1.drop c).map .d,[i<n]) else none
  | .live (.box es)=>some (es.drop (i*k+c),[])
  | .live (.abox es m get)=>if Nat.beq k 1&&Nat.beq c es.length then some ([.d (.v (.bool (get i)))],[i<m]) else none
  | .live (.nbox ds m _ get)=>if Nat.beq k 1 then some ([.d (.v (.int .i64 (get (i+c))))],[ds.length<=i+c/\i+c<ds.length+m]) else none
  |_=>none
 | .d (.eref d c)=>some ((d.cells1.drop c).map .d,[])
 |_=>none
theorem IZ{b o:Nat}{c:Array Value}{e:TypeId}{fr:Nat×Nat}(h:w.heap[b]?=some (.cells c e fr)):w.cell? ⟨b,o,none⟩=c[o]?:=by
 simp[World.cell?,h]
theorem F2{p:AVal}{v:Value}{l:List AVal}{pre:List Prop}(h:wF H p=some (l,pre))(hp:BG pre)(hv:VRel B ι H.dom p v)(hH:HRel B ι H w) :
  ∃b o,v=.pointer (some ⟨b,o,none⟩)/\∀(j:Nat) (x:AVal),l[j]?=some x->∃y,w.cell? ⟨b,o+j,none⟩=some y/\VRel B ι H.dom x y:=by
 cases hv with
 |bptr hD=>
  rename_i id c
  simp only[wF] at h
  split at h
  ·rename_i es hid
   cases h
   have ho:=hH.obj _ _ hid
   generalize hq:w.heap[(ι id).b]?=q at ho
   cases ho with
   |box hsz hrel=>
    refine⟨_,_,rfl,λj x hx=>?_⟩
    rw[List.getElem?_drop] at hx
    have hlt:=(List.getElem?_eq_some_iff.1 hx).1
    rw[IZ hq]
    rename_i cs e
    have hlt':c+j<cs.size:=by omega
    exact⟨cs[c+j],by simp[hlt'],hrel _ _ _ hx (by simp[hlt'])⟩
  ·rename_i es m get hid
   cases h
   have ho:=hH.obj _ _ hid
   generalize hq:w.heap[(ι id).b]?=q at ho
   cases ho with
   |abox hsz hrel hb=>
    refine⟨_,_,rfl,λj x hx=>?_⟩
    rw[List.getElem?_drop] at hx
    have hlt:=(List.getElem?_eq_some_iff.1 hx).1
    rw[IZ hq]
    rename_i cs e
    have hlt':c+j<cs.size:=by omega
    exact⟨cs[c+j],by simp[hlt'],hrel _ _ _ hx (by simp[hlt'])⟩
  ·rename_i ds m z get hid
   cases h
   have ho:=hH.obj _ _ hid
   generalize hq:w.heap[(ι id).b]?=q at ho
   cases ho with
   |nbox hsz hrel hb=>
    refine⟨_,_,rfl,λj x hx=>?_⟩
    simp only[List.getElem?_map,List.getElem?_drop,Option.map_eq_some_iff] at hx
    obtain⟨x',hx',rfl⟩:=hx
    have hlt:=(List.getElem?_eq_some_iff.1 hx').1
    rw[IZ hq]
    rename_i cs e
    have hlt':c+j<cs.size:=by omega
    exact⟨cs[c+j],by simp[hlt'],.d (hrel _ _ _ hx' (by simp[hlt']))⟩
  ·cases h
 |rptr hD=>
  rename_i id k i c
  simp only[wF] at h
  split at h
  ·rename_i k' n get hid
   split at h
   ·rename_i hk
    cases h
    have hk:k=k':=by simpa using hk
    subst hk
    have ho:=hH.obj _ _ hid
    generalize hq:w.heap[(ι id).b]?=q at ho
    cases ho with
    |row hkk hnq hsz' hrel=>
     have hsz:=Nat.le_trans (Nat.mul_le_mul_right _ hnq) hsz'
     rename_i cs e
     refine⟨_,_,rfl,λj x hx=>?_⟩
     simp only[List.getElem?_map,List.getElem?_drop,Option.map_eq_some_iff] at hx
     obtain⟨x',hx',rfl⟩:=hx
     have hlt:=(List.getElem?_eq_some_iff.1 hx').1
     rw[(hkk i hp).len] at hlt
     have h2:(i+1)*k<=n*k:=Nat.mul_le_mul_right k hp
     have h3:(i+1)*k=i*k+k:=Nat.succ_mul i k
     rw[IZ hq]
     have hlt':i*k+(c+j)<cs.size:=by omega
     rw[Nat.add_assoc]
     exact⟨cs[i*k+(c+j)],by simp[hlt'],.d (hrel i (c+j) _ _ hp hx' (by simp[hlt']))⟩
   ·cases h
  ·rename_i es hid
   cases h
   have ho:=hH.obj _ _ hid
   generalize hq:w.heap[(ι id).b]?=q at ho
   cases ho with
   |box hsz hrel=>
    refine⟨_,_,rfl,λj x hx=>?_⟩
    rw[List.getElem?_drop] at hx
    have hlt:=(List.getElem?_eq_some_iff.1 hx).1
    rw[IZ hq]
    rename_i cs e
    have hlt':i*k+c+j<cs.size:=by omega
    exact⟨cs[i*k+c+j],by simp[hlt'],hrel _ _ _ hx (by simp[hlt'])⟩
  ·rename_i es m get hid
   split at h
   ·rename_i hk
    cases h
    simp only[Bool.and_eq_true] at hk
    obtain rfl:=Nat.eq_of_beq_eq_true hk.1
    obtain rfl:=Nat.eq_of_beq_eq_true hk.2
    have ho:=hH.obj _ _ hid
    generalize hq:w.heap[(ι id).b]?=q at ho
    cases ho with
    |abox hsz hrel hb=>
     refine⟨_,_,rfl,λj x hx=>?_⟩
     obtain⟨rfl,rfl⟩:j=0/\AVal.d (.v (.bool (get i)))=x:=by
      cases j with
      |zero=>simpa using hx
      |succ j=>simp at hx
     rw[IZ hq,show i*1+es.length+0=es.length+i by omega]
     exact⟨_,hb i hp,.d (.v _)⟩
   ·cases h
  ·rename_i ds m z get hid
   split at h
   ·rename_i hk
    cases h
    obtain rfl:=Nat.eq_of_beq_eq_true hk
    have ho:=hH.obj _ _ hid
    generalize hq:w.heap[(ι id).b]?=q at ho
    cases ho with
    |nbox hsz hrel hb=>
     refine⟨_,_,rfl,λj x hx=>?_⟩
     obtain⟨rfl,rfl⟩:j=0/\AVal.d (.v (.int .i64 (get (i+c))))=x:=by
      cases j with
      |zero=>simpa using hx
      |succ j=>simp at hx
     rw[IZ hq,show i*1+c+0=i+c by omega]
     exact⟨_,hb (i+c) hp.1 hp.2,.d (.v _)⟩
   ·cases h
  ·cases h
 |d hd=>
  cases hd with
  |eref hb hsz hrel=>
   rename_i d c0 b off c
   simp only[wF,Option.some.injEq,Prod.mk.injEq] at h
   obtain⟨rfl,rfl⟩:=h
   obtain⟨e,fr,hq⟩:=hH.imm _ _ hb
   refine⟨_,_,rfl,λj x hx=>?_⟩
   simp only[List.getElem?_map,List.getElem?_drop,Option.map_eq_some_iff] at hx
   obtain⟨x',hx',rfl⟩:=hx
   have hlt:=(List.getElem?_eq_some_iff.1 hx').1
   rw[IZ hq,Nat.add_assoc]
   have hlt':off+(c0+j)<c.size:=by omega
   exact⟨c[off+(c0+j)],by simp[hlt'],.d (hrel (c0+j) _ _ hx' (by simp[hlt']))⟩
  |_=>simp[wF] at h
 |_=>simp[wF] at h
def AQP(P:Program)(H:Heap)(t:TypeId)(p:AVal):Option (AVal×List Prop):=
 match P.underlying t,(P.info? t).map (·.size) with
 |some (.array m e),some n=>match p with
  | .rptr id k 0 0=>match H id with
   | .live (.row k' n' get)=>if k==k'&&m==n'&&n==m*k&&(P.info? e).map (·.size)==some k then some (.d (.arr k m get),[]) else none
   |_=>none
  | .bptr id c=>match wF H (.bptr id c) with
   |some (l,pre)=>if l.length<n then none else some (AFV (l.take n),pre)
   |none=>none
  |_=>none
 |some d,some n=>match wF H p with
  |some (l,pre)=>if Kn d then (if l.length<n then none else some (AFV (l.take n),pre)) else match l with
   |x :: _=>some (x,pre)
   |[]=>none
  |none=>none
 |_,_=>none
theorem BDT{b o n:Nat}{l:List AVal}(hn:n<=l.length)(h:∀(j:Nat) (x:AVal),l[j]?=some x->∃y,w.cell? ⟨b,o+j,none⟩=some y/\VRel B ι D x y) :
  ∃ys:Array Value,(loadCells ⟨b,o,none⟩ n).run P w=.ok ys w/\ys.size=(l.take n).length/\∀(j:Nat) (x:AVal) (y:Value),(l.take n)[j]?=some x->ys[j]?=some y->VRel B ι D x y:=by
 have hadd:∀j,(⟨b,o,none⟩:Addr).add j=⟨b,o+j,none⟩:=λj=>by unfold Addr.add;split<;>simp_all
 refine⟨((List.range n).map λj=>(w.cell? ⟨b,o+j,none⟩).getD undef).toArray,?_,by simp[hn],λj x y hx hy=>?_⟩
 ·refine run_loadCells (P:=P) w _ n _ λj hj=>?_
  obtain⟨y,hy,_⟩:=h j l[j] (by simp)
  rw[hadd,hy];rfl
 ·have hj:j<n:=by
   have:=(List.getElem?_eq_some_iff.1 hx).1
   simp at this;omega
  obtain⟨y',hy',hr⟩:=h j x (by rw[List.getElem?_take] at hx;simpa[hj] using hx)
  simp[hj,hy'] at hy
  subst hy;exact hr
theorem ALY{t:TypeId}{p x:AVal}{v:Value}{pre:List Prop}(h:AQP P H t p=some (x,pre))(hp:BG pre)(hv:VRel B ι H.dom p v)(hH:HRel B ι H w) :
  ∃y,(Instr.loadAt t v).run P w=.ok y w/\VRel B ι H.dom x y:=by
 have aggcase:∀(d:TypeDesc) (n:Nat) (l:List AVal) (b o:Nat),P.underlying t=some d->Kn d=true->(P.info? t).map (·.size)=some n->v=.pointer (some ⟨b,o,none⟩) ->
   ¬ l.length<n->(∀(j:Nat) (x:AVal),l[j]?=some x->∃y,w.cell? ⟨b,o+j,none⟩=some y/\VRel B ι H.dom x y) ->
   ∃y,(Instr.loadAt t v).run P w=.ok y w/\VRel B ι H.dom (AFV (l.take n)) y:=by
  intro d n l b o hd hr hn hv hl hc
  subst hv
  obtain⟨ys,h1,h2,h3⟩:=BDT (P:=P) (n:=n) (by omega) hc
  exact⟨.agg ys,by simp[Instr.loadAt,Instr.sureAddr,loadVar,Su hd,hr,EH hn,h1],lS h2 h3⟩
 unfold AQP at h
 split at h
 ·rename_i m e n hd hn
  split at h
  ·rename_i id k
   split at h
   ·rename_i k' n' get hid
    split at h
    ·rename_i hk
     cases h
     simp only[Bool.and_eq_true,beq_iff_eq] at hk
     obtain⟨⟨⟨rfl,rfl⟩,rfl⟩,_⟩:=hk
     have ho:=hH.obj _ _ hid
     generalize hq:w.heap[(ι id).b]?=q at ho
     cases hv
     cases ho with
     |row hkk hnq hsz' hrel=>
      have hsz:=Nat.le_trans (Nat.mul_le_mul_right _ hnq) hsz'
      rename_i cs e'
      have hadd:∀j,(⟨(ι id).b,0,none⟩:Addr).add j=⟨(ι id).b,j,none⟩:=λj=>by unfold Addr.add;split<;>simp_all
      have hl:=run_loadCells (P:=P) w ⟨(ι id).b,0,none⟩ (m*k) (λj=>cs.getD j undef) (λj hj=>by
       rw[hadd,IZ hq]
       have:j<cs.size:=by omega
       simp[this])
      have h0:0*k+0=0:=by simp
      refine⟨.agg ((List.range (m*k)).map λj=>cs.getD j undef).toArray,?_,.d (.arr (by simp) hkk λi j x y hi hx hy=>?_)⟩
      ·rw[h0];simp[Instr.loadAt,Instr.sureAddr,loadVar,Su hd,Kn,EH hn,hl]
      ·have hlt:=(List.getElem?_eq_some_iff.1 hx).1
       rw[(hkk i hi).len] at hlt
       have h2:(i+1)*k<=m*k:=Nat.mul_le_mul_right k hi
       have h3:(i+1)*k=i*k+k:=Nat.succ_mul i k
       have hlt':i*k+j<cs.size:=by omega
       have hlt2:i*k+j<m*k:=by omega
       simp[hlt',hlt2] at hy
       exact hrel i j x y hi hx (by simp[hlt',hy])
    ·cases h
   ·cases h
  ·split at h
   ·rename_i l pre' hr
    split at h
    ·cases h
    ·rename_i hl
     cases h
     obtain⟨b,o,hv',hc⟩:=F2 hr hp hv hH
     exact aggcase _ n l b o hd rfl hn hv' hl hc
   ·cases h
  ·cases h
 ·rename_i d n _ hd hn
  split at h
  ·rename_i l pre' hr
   split at h
   ·rename_i hrow
    split at h
    ·cases h
    ·rename_i hl
     cases h
     obtain⟨b,o,hv',hc⟩:=F2 hr hp hv hH
     exact aggcase _ n l b o hd hrow hn hv' hl hc
   ·rename_i hrow
    split at h
    ·rename_i y l'
     cases h
     obtain⟨b,o,rfl,hc⟩:=F2 hr hp hv hH
     obtain⟨z,hz,hrel⟩:=hc 0 x (by simp)
     refine⟨z,?_,hrel⟩
     simp only[Nat.add_zero] at hz
     simp[Instr.loadAt,Instr.sureAddr,loadVar,Su hd,hrow,hz]
    ·cases h
  ·cases h
 ·cases h
end Go.Sym
namespace Go.Sym
variable {P : Program} {B : Ft} {ι : Nat -> Pl} {D : Nat -> Prop} {H : Heap} {w : World}
theorem WQ(b o j:Nat):(⟨b,o,none⟩:Addr).add j=⟨b,o+j,none⟩:=by unfold Addr.add;split<;>simp_all
def andI(k:IntKind)(a b:Int):Int:=k.wrap (BitVec.ofInt k.bits a &&& BitVec.ofInt k.bits b).toNat
def xorI(k:IntKind)(a b:Int):Int:=k.wrap (BitVec.ofInt k.bits a ^^^ BitVec.ofInt k.bits b).toNat
def binV(P:Program)(op:BinOp)(t:TypeId):Value->Value->Option (Value×List Prop)
 | .int k a,.int k' b=>
  if k=k' then
   match op with
   | .add=>some (.int k (k.wrap (a+b)),[])
   | .sub=>some (.int k (k.wrap (a-b)),[])
   | .mul=>some (.int k (k.wrap (a*b)),[])
   | .quo=>some (.int k (k.wrap (a.tdiv b)),[b≠0])
   | .rem=>some (.int k (a.tmod b),[b≠0])
   | .eql=>some (.bool (a==b),[])
   | .neq=>some (.bool (a != b),[])
   | .lss=>some (.bool (decide (a<b)),[])
   | .leq=>some (.bool (decide (a<=b)),[])
   | .gtr=>some (.bool (decide (a>b)),[])
   | .geq=>some (.bool (decide (a>=b)),[])
   | .shr=>some (.int k (a / 2 ^ b.toNat),[0<=b/\b<=k.bits])
   | .and=>some (.int k (andI k a b),[])
   | .xor=>some (.int k (xorI k a b),[])
   | .shl=>some (.int k (k.wrap (a*2 ^ b.toNat)),[0<=b/\b<=k.bits])
   |_=>none
  else match op with
   | .shl=>some (.int k (k.wrap (a*2 ^ b.toNat)),[0<=b/\b<=k.bits])
   |_=>none
 | .bool a,.bool b=>match op,P.underlying t with
  | .eql,some .bool=>some (.bool (a==b),[])
  | .neq,some .bool=>some (.bool (!(a==b)),[])
  |_,_=>none
 | .string a,.string b=>match op with
  | .add=>some (.string (a ++ b),[((a.size+b.size:Nat):Int)<=IntKind.i64.max])
  | .eql=>some (.bool (a.toList==b.toList),[])
  | .neq=>some (.bool (!(a.toList==b.toList)),[])
  | .lss=>some (.bool (Op.bytesLess a.toList b.toList),[])
  |_=>none
 |_,_=>none
theorem xO{t:TypeId}(hu:P.underlying t=some .bool)(a b:Bool)(w:World):(Op.equal t (.bool a) (.bool b)).run P w=.ok (a==b) w:=by
 have e:Op.equal t (.bool a) (.bool b)=Op.equalIn (9999+1) t (.bool a) (.bool b):=rfl
 rw[e,Op.equalIn]
 simp[run_underlying hu]
theorem APS(t:TypeId)(a b:Bool):binOp .eql t (.bool a) (.bool b)=(do pure (.bool (<-Op.equal t (.bool a) (.bool b)))):=rfl
theorem AOB(t:TypeId)(a b:Bool):binOp .neq t (.bool a) (.bool b)=(do pure (.bool (!(<-Op.equal t (.bool a) (.bool b))))):=rfl
theorem BKO{op:BinOp}{t:TypeId}{x y:Operand}{a b v:Value}{pre:List Prop}(h:binV P op t a b=some (v,pre))(hp:BG pre)(w:World) :
  (do eqGuard op t x y a b;binOp op t a b:Sem Value).run P w=.ok v w:=by
 unfold binV at h
 split at h
 ·rename_i k a k' b
  split at h
  ·rename_i hk
   subst hk
   cases op<;>simp only[Option.some.injEq,Prod.mk.injEq,reduceCtorEq] at h<;>obtain⟨rfl,rfl⟩:=h <;>
    first
    |(have hs:0<=b/\b<=k.bits:=hp
      have e:=shift_shr k k a b hs.1 hs.2
      show (do eqGuard .shr t x y (.int k a) (.int k b);Op.shift .shr k a k b:Sem Value).run P w=_
      rw[e];rfl)
    |(have hs:0<=b/\b<=k.bits:=hp
      have e:=shift_shl k k a b hs.1 hs.2
      show (do eqGuard .shl t x y (.int k a) (.int k b);Op.shift .shl k a k b:Sem Value).run P w=_
      rw[e];rfl)
    |(simp_all [BG,eqGuard,binOp,Op.intArith,Op.intDiv,Op.intCmp];done)
    |(simp[eqGuard,binOp];rfl)
  ·cases op<;>simp only[Option.some.injEq,Prod.mk.injEq,reduceCtorEq] at h
   obtain⟨rfl,rfl⟩:=h
   have hs:0<=b/\b<=k.bits:=hp
   have e:=shift_shl k k' a b hs.1 hs.2
   show (do eqGuard .shl t x y (.int k a) (.int k' b);Op.shift .shl k a k' b:Sem Value).run P w=_
   rw[e];rfl
 ·rename_i a b
  split at h
  ·rename_i hu
   cases h
   simp[eqGuard,APS,xO hu]
  ·rename_i hu
   cases h
   simp[eqGuard,AOB,xO hu]
  ·cases h
 ·rename_i a b
  cases op<;>simp only[Option.some.injEq,Prod.mk.injEq,reduceCtorEq] at h<;>obtain⟨rfl,rfl⟩:=h <;>
   simp[eqGuard,binOp,Op.stringOp]
  have e:IntKind.i64.max=9223372036854775807:=rfl
  have hp':((a.size+b.size:Nat):Int)<=IntKind.i64.max:=hp
  omega
 ·cases h
def unV(op:UnOp):Value->Option Value
 | .int k n=>match op with
  | .neg=>some (.int k (k.wrap (0-n)))
  |_=>none
 | .bool b=>match op with
  | .not=>some (.bool !b)
  |_=>none
 |_=>none
theorem BXQ{op:UnOp}{a v:Value}(h:unV op a=some v)(w:World):(Op.unary op a).run P w=.ok v w:=by
 unfold unV at h
 split at h
 ·cases op<;>simp only[Option.some.injEq,reduceCtorEq] at h
  subst h;simp[Op.unary,Op.intArith]
 ·cases op<;>simp only[Option.some.injEq,reduceCtorEq] at h
  subst h;simp[Op.unary]
 ·cases h
def ANK(b:Bool)(u v:AVal):AVal:=match u,v with
 | .d (.v (.bool x)),.d (.v (.bool y))=>.d (.v (.bool (cond b x y)))
 |u,v=>cond b u v
theorem BEW(b:Bool)(u v:AVal):ANK b u v=cond b u v:=by
 unfold ANK;split
 ·cases b<;>rfl
 ·rfl
def ACI(n:Nat):AVal->Option AVal
 | .bptr id c=>some (.bptr id (c+n))
 | .rptr id k i c=>some (.rptr id k i (c+n))
 | .d (.eref d c)=>some (.d (.eref d (c+n)))
 |_=>none
theorem BAA{n:Nat}{p q:AVal}{v:Value}(h:ACI n p=some q)(hv:VRel B ι D p v) :
  ∃b o,v=.pointer (some ⟨b,o,none⟩)/\VRel B ι D q (.pointer (some ⟨b,o+n,none⟩)):=by
 cases hv with
 |bptr hD=>simp only[ACI,Option.some.injEq] at h;subst h;exact⟨_,_,rfl,.bptr hD⟩
 |rptr hD=>simp only[ACI,Option.some.injEq] at h;subst h;exact⟨_,_,rfl,by rw[Nat.add_assoc];exact .rptr hD⟩
 |d hd=>
  cases hd with
  |eref hb hsz hrel=>simp only[ACI,Option.some.injEq] at h;subst h;exact⟨_,_,rfl,by rw[Nat.add_assoc];exact .d (.eref hb hsz hrel)⟩
  |_=>simp[ACI] at h
 |_=>simp[ACI] at h
def AMS(P:Program)(s:TypeId)(f:Nat):Option Field:=match P.underlying s with
 |some (.struct fields)=>fields[f]?
 |_=>none
def ABF(P:Program)(s:TypeId)(f:Nat)(p:AVal):Option AVal:=match AMS P s f with
 |some fd=>match (P.info? fd.type).map (·.size) with
  |some (_+1)=>ACI fd.offset p
  |_=>none
 |none=>none
theorem AFY{s:TypeId}{f:Nat}{fd:Field}(h:AMS P s f=some fd):∃fields,P.underlying s=some (.struct fields)/\fields[f]?=some fd:=by
 unfold AMS at h;split at h
 ·exact⟨_,by assumption,h⟩
 ·cases h
theorem AJF{s:TypeId}{f:Nat}{p q:AVal}{v:Value}(h:ABF P s f p=some q)(hv:VRel B ι D p v) :
  ∃y,(Instr.fieldAt s v f).run P w=.ok y w/\VRel B ι D q y:=by
 unfold ABF at h
 split at h
 ·rename_i fd hf
  split at h
  ·rename_i n hn
   obtain⟨fields,hu,hfd⟩:=AFY hf
   obtain⟨b,o,rfl,hq⟩:=BAA h hv
   refine⟨_,?_,hq⟩
   simp[Instr.fieldAt,run_underlying hu,hfd,Instr.sureAddr,fieldPlace,EH hn,WQ]
  ·cases h
 ·cases h
def kZ:AVal->Option (List AVal)
 | .d (.agg ds)=>some (ds.map .d)
 | .agg cs=>some cs
 |_=>none
theorem ASN{a:AVal}{l:List AVal}{v:Value}(h:kZ a=some l)(hv:VRel B ι D a v) :
  ∃ys,v=.agg ys/\ys.size=l.length/\∀(j:Nat) (x:AVal) (y:Value),l[j]?=some x->ys[j]?=some y->VRel B ι D x y:=by
 cases hv with
 |agg hl hr=>simp only[kZ,Option.some.injEq] at h;subst h;exact⟨_,rfl,hl,hr⟩
 |d hd=>
  cases hd with
  |agg hl hr=>
   simp only[kZ,Option.some.injEq] at h;subst h
   refine⟨_,rfl,by simpa using hl,λj x y hx hy=>?_⟩
   simp only[List.getElem?_map,Option.map_eq_some_iff] at hx
   obtain⟨x',hx',rfl⟩:=hx
   exact .d (hr j x' y hx' hy)
  |_=>simp[kZ] at h
 |_=>simp[kZ] at h
def CFD(P:Program)(t:TypeId)(l:List AVal)(off:Nat):Option AVal:=match P.underlying t,(P.info? t).map (·.size) with
 |some d,some n=>if Kn d then (if l.length<off+n then none else some (AFV ((l.drop off).take n))) else l[off]?
 |_,_=>none
theorem BHG{t:TypeId}{l:List AVal}{ys:Array Value}{off:Nat}{q:AVal}(h:CFD P t l off=some q)(hl:ys.size=l.length)
  (hr:∀(j:Nat) (x:AVal) (y:Value),l[j]?=some x->ys[j]?=some y->VRel B ι D x y) (w:World):∃y,(part t ys off).run P w=.ok y w/\VRel B ι D q y:=by
 unfold CFD at h
 split at h
 ·rename_i d n hu hn
  split at h
  ·rename_i hrow
   split at h
   ·cases h
   ·rename_i hlt
    cases h
    refine⟨.agg (ys.extract off (off+n)),by simp[part,Su hu,hrow,EH hn],lS (by simp;omega) λj x y hx hy=>?_⟩
    rw[List.getElem?_take] at hx
    split at hx
    ·rename_i hj
     rw[List.getElem?_drop] at hx
     have hlt2:=(List.getElem?_eq_some_iff.1 hx).1
     have:(ys.extract off (off+n))[j]?=ys[off+j]?:=by
      rw[Array.getElem?_extract];simp;omega
     rw[this] at hy
     exact hr _ _ _ hx hy
    ·cases hx
  ·rename_i hrow
   have hlt:=(List.getElem?_eq_some_iff.1 h).1
   have hy:ys[off]?=some ys[off]:=by simp[hl,hlt]
   refine⟨ys[off],by simp[part,Su hu,hrow,hy],hr _ _ _ h hy⟩
 ·cases h
def BJB(P:Program)(s:TypeId)(f:Nat)(a:AVal):Option AVal:=match AMS P s f,kZ a with
 |some fd,some l=>CFD P fd.type l fd.offset
 |_,_=>none
theorem BAG{s:TypeId}{f:Nat}{a q:AVal}{v:Value}(h:BJB P s f a=some q)(hv:VRel B ι D a v)(w:World) :
  ∃y,(Instr.field s v f).run P w=.ok y w/\VRel B ι D q y:=by
 unfold BJB at h
 split at h
 ·rename_i fd l hf hl
  obtain⟨fields,hu,hfd⟩:=AFY hf
  obtain⟨ys,rfl,h1,h2⟩:=ASN hl hv
  obtain⟨y,h3,h4⟩:=BHG h h1 h2 w
  exact⟨y,by simp[Instr.field,run_underlying hu,hfd,asAgg,h3],h4⟩
 ·cases h
def intA:AVal->Option (IntKind×Int)
 | .d (.v (.int k n))=>some (k,n)
 |_=>none
theorem UB{a:AVal}{k:IntKind}{n:Int}{v:Value}(h:intA a=some (k,n))(hv:VRel B ι D a v):v=.int k n:=by
 unfold intA at h
 split at h
 ·cases h;cases hv.d_inv;rfl
 ·cases h
def ADH(P:Program)(t:TypeId)(x ix:AVal):Option (AVal×List Prop):=match intA ix,P.underlying t with
 |some (_,j),some (.slice e)=>match x,(P.info? e).map (·.size) with
  | .own id k i n,some k'=>if k==k' then some (.rptr id k (i+j.toNat) 0,[0<=j/\j<n]) else none
  | .d (.list k n get _),some k'=>if k==k' then some (.d (.eref (get j.toNat) 0),[0<=j/\j<n]) else none
  |_,_=>none
 |some (_,j),some (.array m e)=>match x,(P.info? e).map (·.size) with
  | .rptr id k i c,some k'=>if Nat.ble 13 k&&Nat.blt k' k then some (bif Nat.beq k' 1 then .rptr id 1 j.toNat (c+i*k) else .bptr id (c+i*k+j.toNat*k'),[0<=j/\j<m]) else match i,c with
   |0,0=>if k==k' then some (.rptr id k j.toNat 0,[0<=j/\j<m]) else none
   |_,_=>none
  | .bptr id c,some k'=>if Nat.beq k' 1 then some (.rptr id 1 j.toNat c,[0<=j/\j<m]) else if Nat.ble 13 k' then some (.rptr id k' j.toNat c,[0<=j/\j<m]) else some (.bptr id (c+j.toNat*k'),[0<=j/\j<m])
  |_,_=>none
 |_,_=>none
theorem AGL{t:TypeId}{x ix q:AVal}{u v:Value}{pre:List Prop}(h:ADH P t x ix=some (q,pre))(hp:BG pre)(hu:VRel B ι D x u)(hv:VRel B ι D ix v)(w:World) :
  ∃y,(Instr.indexAt t u v).run P w=.ok y w/\VRel B ι D q y:=by
 unfold ADH at h
 split at h
 ·rename_i k0 j e hi ht
  have:=UB hi hv;subst this
  split at h
  ·rename_i id k i n k' hs
   split at h
   ·rename_i hk
    have hk:k=k':=by simpa using hk
    subst hk;cases h
    cases hu
    rename_i hD hcap hq
    refine⟨.pointer (some ⟨(ι id).b,(i+j.toNat)*k,none⟩),?_,by simpa using VRel.rptr (B:=B) (ι:=ι) (k:=k) (i:=i+j.toNat) (c:=0) hD⟩
    have hp':0<=j/\j<(n:Int):=hp
    simp[Instr.indexAt,asIntOf,run_underlying ht,EH hs,hp',WQ,Nat.add_mul]
   ·cases h
  ·rename_i k n get ex k' hs
   split at h
   ·rename_i hk
    have hk:k=k':=by simpa using hk
    subst hk;cases h
    have hp':0<=j/\j<(n:Int):=hp
    cases hu with
    |d hd=>
     cases hd with
     |nil=>omega
     |list hn hb hcap hex hkk hsz hrel=>
      rename_i b off cap c
      have hj:j.toNat<n:=by omega
      refine⟨.pointer (some ⟨b,off+j.toNat*k,none⟩),?_,.d (DRel.eref (off:=off+j.toNat*k) (c0:=0) hb ?_ ?_)⟩
      ·simp[Instr.indexAt,asIntOf,run_underlying ht,EH hs,hp',WQ]
      ·rw[(hkk _ hj).len]
       have h2:(j.toNat+1)*k<=n*k:=Nat.mul_le_mul_right k hj
       have h3:(j.toNat+1)*k=j.toNat*k+k:=Nat.succ_mul j.toNat k
       omega
      ·intro l x y hx hy
       exact hrel j.toNat l x y hj hx hy
   ·cases h
  ·cases h
 ·rename_i k0 j m e hi ht
  have:=UB hi hv;subst this
  split at h
  ·rename_i id k i c k' hs
   split at h
   ·cases h
    cases hu
    rename_i hD
    have hp':0<=j/\j<(m:Int):=hp
    cases hk:Nat.beq k' 1 with
    |true=>
     obtain rfl:=Nat.eq_of_beq_eq_true hk
     refine⟨.pointer (some ⟨(ι id).b,j.toNat*1+(c+i*k),none⟩),?_,.rptr hD⟩
     simp[Instr.indexAt,asIntOf,run_underlying ht,EH hs,hp',WQ,Instr.sureAddr,Nat.add_comm]
    |false=>
     refine⟨.pointer (some ⟨(ι id).b,c+i*k+j.toNat*k',none⟩),?_,.bptr hD⟩
     simp[Instr.indexAt,asIntOf,run_underlying ht,EH hs,hp',WQ,Instr.sureAddr,Nat.add_comm]
   ·split at h
    ·split at h
     ·rename_i hk
      have hk:k=k':=by simpa using hk
      subst hk;cases h
      cases hu
      rename_i hD
      have hp':0<=j/\j<(m:Int):=hp
      refine⟨.pointer (some ⟨(ι id).b,j.toNat*k,none⟩),?_,by simpa using VRel.rptr (B:=B) (ι:=ι) (k:=k) (i:=j.toNat) (c:=0) hD⟩
      simp[Instr.indexAt,asIntOf,run_underlying ht,EH hs,hp',WQ,Instr.sureAddr]
     ·cases h
    ·cases h
  ·rename_i id c k' hs
   split at h
   ·rename_i hk
    obtain rfl:=Nat.eq_of_beq_eq_true hk
    cases h
    cases hu
    rename_i hD
    have hp':0<=j/\j<(m:Int):=hp
    refine⟨.pointer (some ⟨(ι id).b,j.toNat*1+c,none⟩),?_,.rptr hD⟩
    simp[Instr.indexAt,asIntOf,run_underlying ht,EH hs,hp',WQ,Instr.sureAddr,Nat.add_comm]
   ·split at h
    ·cases h
     cases hu
     rename_i hD
     have hp':0<=j/\j<(m:Int):=hp
     refine⟨.pointer (some ⟨(ι id).b,j.toNat*k'+c,none⟩),?_,.rptr hD⟩
     simp[Instr.indexAt,asIntOf,run_underlying ht,EH hs,hp',WQ,Instr.sureAddr,Nat.add_comm]
    cases h
    cases hu
    rename_i hD
    have hp':0<=j/\j<(m:Int):=hp
    refine⟨.pointer (some ⟨(ι id).b,c+j.toNat*k',none⟩),?_,.bptr hD⟩
    simp[Instr.indexAt,asIntOf,run_underlying ht,EH hs,hp',WQ,Instr.sureAddr]
  ·cases h
 ·cases h
def ASP(a:AVal)(i:Nat):Option AVal:=match a with
 | .tup cs=>cs[i]?
 | .d (.tup ds)=>(ds[i]?).map .d
 |_=>none
theorem ASR{a q:AVal}{i:Nat}{v:Value}(h:ASP a i=some q)(hv:VRel B ι D a v)(w:World) :
  ∃y,(Instr.extract v i).run P w=.ok y w/\VRel B ι D q y:=by
 unfold ASP at h
 split at h
 ·cases hv with
  |tup hl hr=>
   rename_i cs ys
   have hlt:=(List.getElem?_eq_some_iff.1 h).1
   have hy:ys[i]?=some ys[i]:=by simp[hl,hlt]
   exact⟨ys[i],by simp[Instr.extract,hy],hr _ _ _ h hy⟩
 ·rename_i ds
  cases hv with
  |d hd=>
   cases hd with
   |tup hl hr=>
    rename_i ys
    simp only[Option.map_eq_some_iff] at h
    obtain⟨x,hx,rfl⟩:=h
    have hlt:=(List.getElem?_eq_some_iff.1 hx).1
    have hy:ys[i]?=some ys[i]:=by simp[hl,hlt]
    exact⟨ys[i],by simp[Instr.extract,hy],.d (hr _ _ _ hx hy)⟩
 ·cases h
def lenA(P:Program)(t:TypeId)(a:AVal):Option AVal:=match P.underlying t,a with
 |some (.slice _),.own _ _ _ n=>some (.int n)
 |some (.slice _),.d (.list _ n _ _)=>some (.int n)
 |some .string,.d (.v (.string s))=>some (.int s.size)
 |some (.array n _),_=>some (.int n)
 |_,_=>none
theorem BLI{t ty:TypeId}{ats:Array TypeId}{a q:AVal}{v:Value}(h:lenA P t a=some q)(hv:VRel B ι D a v)(h0:ats[0]?=some t)(w:World) :
  ∃y,(Builtin.len_ ats ty #[v]).run P w=.ok y w/\VRel B ι D q y:=by
 unfold lenA at h
 split at h<;>simp only[Option.some.injEq,reduceCtorEq] at h<;>subst h
 ·rename_i hu
  cases hv
  exact⟨_,by simp[Builtin.len_,h0,run_underlying hu,goInt],.d (.v _)⟩
 ·rename_i hu
  cases hv with
  |d hd=>cases hd<;>exact⟨_,by simp[Builtin.len_,h0,run_underlying hu,goInt],.d (.v _)⟩
 ·rename_i hu
  cases hv with
  |d hd=>cases hd;exact⟨_,by simp[Builtin.len_,h0,run_underlying hu,goInt],.d (.v _)⟩
 ·rename_i n e hu
  exact⟨.int .i64 n,by cases v<;>simp[Builtin.len_,h0,run_underlying hu,goInt],.d (.v _)⟩
def foldA(f:Int->Int->Int):List AVal->Option AVal
 | .d (.v (.int k x)) :: rest=>(go k x rest)
 |_=>none
where
 go (k:IntKind) (x:Int):List AVal->Option AVal
  |[]=>some (.d (.v (.int k x)))
  | .d (.v (.int _ y)) :: rest=>go k (f x y) rest
  |_=>none
def EU(x y:Int):Int:=if y>x then y else x
def IF(x y:Int):Int:=if y<x then y else x
theorem bF{g:Value->Value->Sem Value}{f:Int->Int->Int}(hg:∀(k k':IntKind) (x y:Int),g (.int k x) (.int k' y)=pure (.int k (f x y)))(w:World) :
  ∀(l:List AVal) (k:IntKind) (x:Int) (vs:List Value) (q:AVal),foldA.go f k x l=some q->vs.length=l.length ->
   (∀(j:Nat) (a:AVal) (y:Value),l[j]?=some a->vs[j]?=some y->VRel B ι D a y)->∃y,(vs.foldlM g (.int k x)).run P w=.ok y w/\VRel B ι D q y
 |[],k,x,vs,q,h,hl,_=>by
  simp only[foldA.go,Option.some.injEq] at h;subst h
  have:vs=[]:=by simpa using hl
  subst this
  exact⟨_,by simp,.d (.v _)⟩
 |a :: l,k,x,vs,q,h,hl,hr=>by
  cases vs with
  |nil=>simp at hl
  |cons y vs=>
   have h0:=hr 0 a y rfl rfl
   unfold foldA.go at h
   split at h
   ·rename_i he;cases he
   ·rename_i k' z rest he
    simp only[List.cons.injEq] at he
    obtain⟨rfl,rfl⟩:=he
    cases h0.d_inv
    obtain⟨y,h1,h2⟩:=bF hg w l k (f x z) vs q h (by simpa using hl) (λj a y ha hy=>hr (j+1) a y (by simpa using ha) (by simpa using hy))
    exact⟨y,by simp[List.foldlM_cons,hg,h1],h2⟩
   ·cases h
theorem AMI{ats:Array TypeId}{ty:TypeId}{l:List AVal}{vs:Array Value}{q:AVal}(h:foldA EU l=some q)(hl:vs.size=l.length)
  (hr:∀(j:Nat) (a:AVal) (y:Value),l[j]?=some a->vs[j]?=some y->VRel B ι D a y) (w:World):∃y,(Builtin.max_ ats ty vs).run P w=.ok y w/\VRel B ι D q y:=by
 obtain⟨vs⟩:=vs
 cases l with
 |nil=>simp[foldA] at h
 |cons a l=>
  cases vs with
  |nil=>simp at hl
  |cons y vs=>
   have h0:=hr 0 a y rfl rfl
   unfold foldA at h
   split at h
   ·rename_i k x rest he
    simp only[List.cons.injEq] at he
    obtain⟨rfl,rfl⟩:=he
    cases h0.d_inv
    obtain⟨y,h1,h2⟩:=bF (P:=P) (g:=Builtin.max2) (λ_ _ _ _=>rfl) w l k x vs q h (by simpa using hl) (λj a y ha hy=>hr (j+1) a y (by simpa using ha) (by simpa using hy))
    exact⟨y,by simpa[Builtin.max_] using h1,h2⟩
   ·cases h
theorem AMF{ats:Array TypeId}{ty:TypeId}{l:List AVal}{vs:Array Value}{q:AVal}(h:foldA IF l=some q)(hl:vs.size=l.length)
  (hr:∀(j:Nat) (a:AVal) (y:Value),l[j]?=some a->vs[j]?=some y->VRel B ι D a y) (w:World):∃y,(Builtin.min_ ats ty vs).run P w=.ok y w/\VRel B ι D q y:=by
 obtain⟨vs⟩:=vs
 cases l with
 |nil=>simp[foldA] at h
 |cons a l=>
  cases vs with
  |nil=>simp at hl
  |cons y vs=>
   have h0:=hr 0 a y rfl rfl
   unfold foldA at h
   split at h
   ·rename_i k x rest he
    simp only[List.cons.injEq] at he
    obtain⟨rfl,rfl⟩:=he
    cases h0.d_inv
    obtain⟨y,h1,h2⟩:=bF (P:=P) (g:=Builtin.min2) (λ_ _ _ _=>rfl) w l k x vs q h (by simpa using hl) (λj a y ha hy=>hr (j+1) a y (by simpa using ha) (by simpa using hy))
    exact⟨y,by simpa[Builtin.min_] using h1,h2⟩
   ·cases h
end Go.Sym
