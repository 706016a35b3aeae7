/- How the heap moves: new objects, stores, what is given up, what is frozen. -/
import Derived.Test.YtlblbbidigejkaaGreatSym1
import Derived.Laws.CopyRow
import Derived.Laws.World
set_option linter.unusedVariables false
set_option linter.unusedSimpArgs false
namespace Go.Sym
variable {P : Program}
structure Calm(w w':World):Prop where
 os:w'.os=w.os
 tape:w'.tape=w.tape
 output:w'.output=w.output
theorem Calm.trans{w w' w'':World}(h:Calm w w')(k:Calm w' w''):Calm w w'':=⟨k.os.trans h.os,k.tape.trans h.tape,k.output.trans h.output⟩
structure Moved(B:Ft)(ι:Nat->Pl)(H:Heap)(w:World)(B':Ft)(ι':Nat->Pl)(H':Heap)(w':World):Prop where
 bm:∀b c,B b=some c->B' b=some c
 bn:∀b c,B' b=some c->B b=some c∨w.heap.size<=b∨∃i o,H i=.live o/\(ι i).b=b
 im:∀i,H.dom i->H'.dom i/\ι' i=ι i
 heap:HRel B' ι' H' w'
 own:∀i o,H' i=.live o->(∃i0 o0,H i0=.live o0/\(ι i0).b=(ι' i).b)∨w.heap.size<=(ι' i).b
 frame:∀b,b<w.heap.size->(∀i o,H i=.live o->(ι i).b≠b)->w'.heap[b]?=w.heap[b]?
 size:w.heap.size<=w'.heap.size
 calm:Calm w w'
variable {B B' B'' : Ft} {ι ι' ι'' : Nat -> Pl} {H H' H'' : Heap} {w w' w'' : World}
theorem Moved.vrel(h:Moved B ι H w B' ι' H' w'){a:AVal}{y:Value}(hv:VRel B ι H.dom a y):VRel B' ι' H'.dom a y:=hv.mono h.bm h.im
theorem Moved.refl(h:HRel B ι H w):Moved B ι H w B ι H w:=
 ⟨λ_ _ h=>h,λ_ _ h=>.inl h,λ_ h=>⟨h,rfl⟩,h,λi o h=>.inl ⟨i,o,h,rfl⟩,λ_ _ _=>rfl,Nat.le_refl _,⟨rfl,rfl,rfl⟩⟩
theorem Moved.trans(h:Moved B ι H w B' ι' H' w')(h':Moved B' ι' H' w' B'' ι'' H'' w''):Moved B ι H w B'' ι'' H'' w'' where
 bm b c hb:=h'.bm b c (h.bm b c hb)
 bn b c hb:=by
  rcases h'.bn b c hb with h1 | h1 | ⟨i,o,h1,h2⟩
  ·exact h.bn b c h1
  ·exact .inr (.inl (Nat.le_trans h.size h1))
  ·rcases h.own i o h1 with⟨i0,o0,h3,h4⟩ | h3
   ·exact .inr (.inr ⟨i0,o0,h3,h4.trans h2⟩)
   ·exact .inr (.inl (h2 ▸ h3))
 im i hi:=⟨(h'.im i (h.im i hi).1).1,by rw[(h'.im i (h.im i hi).1).2,(h.im i hi).2]⟩
 heap:=h'.heap
 own i o hi:=by
  rcases h'.own i o hi with⟨i1,o1,h1,e1⟩ | hle
  ·rw[<-e1];exact h.own i1 o1 h1
  ·exact .inr (Nat.le_trans h.size hle)
 frame b hb hno:=by
  rw[h'.frame b (Nat.lt_of_lt_of_le hb h.size) ?_,h.frame b hb hno]
  intro i o hi
  rcases h.own i o hi with⟨i1,o1,h1,e1⟩ | hle
  ·rw[<-e1];exact hno i1 o1 h1
  ·omega
 size:=Nat.le_trans h.size h'.size
 calm:=h.calm.trans h'.calm
def EC(H:Heap)(i:Nat)(c:HCell):Heap:=λj=>if j=i then c else H j
theorem HM(H:Heap)(i:Nat)(c:HCell):EC H i c i=c:=by simp[EC]
theorem HL(H:Heap){i j:Nat}(c:HCell)(h:j≠i):EC H i c j=H j:=by simp[EC,h]
theorem Mz(h:HRel B ι H w){i:Nat}{o:AObj}(hi:H i=.live o):(ι i).b<w.heap.size:=by
 have:=h.obj i o hi
 cases hq:w.heap[(ι i).b]? with
 |none=>rw[hq] at this;cases this
 |some x=>exact (Array.getElem?_eq_some_iff.1 hq).1
theorem BBN(h:HRel B ι H w){b:Nat}{c:Array Value}(hb:B b=some c):b<w.heap.size:=by
 obtain⟨e,fr,hq⟩:=h.imm b c hb
 exact (Array.getElem?_eq_some_iff.1 hq).1
theorem YH{o:Obj}{b:Nat}(h:b<w.heap.size):(w.alloc o).heap[b]?=w.heap[b]?:=by
 show (w.heap.push o)[b]?=w.heap[b]?
 rw[Array.getElem?_push,if_neg (by omega)]
theorem So(o:Obj):(w.alloc o).heap[w.heap.size]?=some o:=by
 show (w.heap.push o)[w.heap.size]?=some o
 simp
def Tj(ι:Nat->Pl)(r:Nat)(b:Pl):Nat->Pl:=λj=>if j=r then b else ι j
theorem EI(ι:Nat->Pl)(r:Nat)(b:Pl):Tj ι r b r=b:=by simp[Tj]
theorem Jx(ι:Nat->Pl){r j:Nat}(b:Pl)(h:j≠r):Tj ι r b j=ι j:=by simp[Tj,h]
theorem Moved.new(h:HRel B ι H w){r:Nat}(hr:H r=.none){o:AObj}{x:Obj}{q:Nat}
  (ho:ORel B (Tj ι r ⟨w.heap.size,q⟩) (EC H r (.live o)).dom q o (some x)) :
  Moved B ι H w B (Tj ι r ⟨w.heap.size,q⟩) (EC H r (.live o)) (w.alloc x):=by
 have hne:∀i,H.dom i->i≠r:=λi hi he=>hi (he ▸ hr)
 have im:∀i,H.dom i->(EC H r (.live o)).dom i/\(Tj ι r ⟨w.heap.size,q⟩) i=ι i:=λi hi=>
  ⟨by unfold Heap.dom;rw[HL _ _ (hne i hi)];exact hi,Jx _ _ (hne i hi)⟩
 have live:∀i o',EC H r (.live o) i=.live o'->i=r∨H i=.live o':=λi o' hi=>by
  by_cases hir:i=r
  ·exact .inl hir
  ·rw[HL _ _ hir] at hi;exact .inr hi
 refine⟨λ_ _ h=>h,λ_ _ h=>.inl h,im,⟨?_,?_,?_,?_⟩,?_,?_,by simp,⟨rfl,rfl,rfl⟩⟩
 ·intro i o' hi
  rcases live i o' hi with rfl | hi'
  ·rw[HM] at hi;cases hi
   rw[EI,So];exact ho
  ·have hd:H.dom i:=by unfold Heap.dom;rw[hi'];simp
   rw[(im i hd).2,YH (Mz h hi')]
   exact (h.obj i o' hi').mono (λ_ _ h=>h) im
 ·intro i j o1 o2 hi hj hij
  rcases live i o1 hi with rfl | hi'<;>rcases live j o2 hj with rfl | hj'
  ·rfl
  ·have hd:H.dom j:=by unfold Heap.dom;rw[hj'];simp
   rw[(im j hd).2] at hij
   rw[EI] at hij
   have:=Mz h hj'
   simp only at hij
   omega
  ·have hd:H.dom i:=by unfold Heap.dom;rw[hi'];simp
   rw[(im i hd).2] at hij
   rw[EI] at hij
   have:=Mz h hi'
   simp only at hij
   omega
  ·have hd:H.dom i:=by unfold Heap.dom;rw[hi'];simp
   have hd':H.dom j:=by unfold Heap.dom;rw[hj'];simp
   rw[(im i hd).2,(im j hd').2] at hij
   exact h.inj i j o1 o2 hi' hj' hij
 ·intro i o' hi
  rcases live i o' hi with rfl | hi'
  ·rw[EI]
   cases hb:B w.heap.size with
   |none=>rfl
   |some c=>have:=BBN h hb;omega
  ·have hd:H.dom i:=by unfold Heap.dom;rw[hi'];simp
   rw[(im i hd).2];exact h.sep i o' hi'
 ·intro b c hb
  obtain⟨e,fr,hq⟩:=h.imm b c hb
  exact⟨e,fr,by rw[YH (BBN h hb)];exact hq⟩
 ·intro i o' hi
  rcases live i o' hi with rfl | hi'
  ·right;rw[EI];exact Nat.le_refl _
  ·have hd:H.dom i:=by unfold Heap.dom;rw[hi'];simp
   exact .inl ⟨i,o',hi',by rw[(im i hd).2]⟩
 ·intro b hb _
  exact YH hb
theorem Moved.newImm(h:HRel B ι H w)(c:Array Value)(e:TypeId) :
  Moved B ι H w (λb=>if b=w.heap.size then some c else B b) ι H (w.alloc (.cells c e)):=by
 have bm:∀b x,B b=some x->(if b=w.heap.size then some c else B b)=some x:=λb x hb=>by
  have:=BBN h hb
  rw[if_neg (by omega)];exact hb
 refine⟨bm,λb x hb=>by
  split at hb
  ·rename_i he;exact .inr (.inl (by omega))
  ·exact .inl hb,λ_ h=>⟨h,rfl⟩,⟨?_,h.inj,?_,?_⟩,λi o h=>.inl ⟨i,o,h,rfl⟩,λb hb _=>YH hb,by simp,⟨rfl,rfl,rfl⟩⟩
 ·intro i o hi
  rw[YH (Mz h hi)]
  exact (h.obj i o hi).mono bm λ_ h=>⟨h,rfl⟩
 ·intro i o hi
  have:=Mz h hi
  show (if (ι i).b=w.heap.size then some c else B (ι i).b)=none
  rw[if_neg (by omega)];exact h.sep i o hi
 ·intro b x hb
  split at hb
  ·cases hb
   rename_i hbs;subst hbs
   exact⟨e,(0,0),So _⟩
  ·obtain⟨e,fr,hq⟩:=h.imm b x hb
   exact⟨e,fr,by rw[YH (BBN h hb)];exact hq⟩
theorem Moved.write(h:HRel B ι H w){id:Nat}{o o':AObj}(hid:H id=.live o){w':World}(hs:w'.heap.size=w.heap.size)(hoth:∀b,b≠(ι id).b->w'.heap[b]?=w.heap[b]?)
  (ho:ORel B ι H.dom (ι id).cap o' (w'.heap[(ι id).b]?)) (hc:Calm w w':=by exact⟨rfl,rfl,rfl⟩):Moved B ι H w B ι (EC H id (.live o')) w':=by
 have dm:∀i,H.dom i->(EC H id (.live o')).dom i/\ι i=ι i:=λi hi=>⟨by
  unfold Heap.dom EC;split
  ·simp
  ·exact hi,rfl⟩
 have live:∀i o2,EC H id (.live o') i=.live o2->∃o3,H i=.live o3:=λi o2 hi=>by
  by_cases hii:i=id
  ·exact⟨o,hii ▸ hid⟩
  ·rw[HL _ _ hii] at hi;exact⟨_,hi⟩
 refine⟨λ_ _ h=>h,λ_ _ h=>.inl h,dm,⟨?_,?_,?_,?_⟩,λi o2 hi=>.inl (let ⟨o3,h3⟩:=live i o2 hi;⟨i,o3,h3,rfl⟩),?_,by omega,hc⟩
 ·intro i o2 hi
  by_cases hii:i=id
  ·subst hii
   rw[HM] at hi;cases hi
   exact ho.mono (λ_ _ h=>h) dm
  ·rw[HL _ _ hii] at hi
   rw[hoth _ (λhe=>hii (h.inj _ _ _ _ hi hid he))]
   exact (h.obj i o2 hi).mono (λ_ _ h=>h) dm
 ·intro i j o1 o2 hi hj hij
  obtain⟨o3,h3⟩:=live i o1 hi
  obtain⟨o4,h4⟩:=live j o2 hj
  exact h.inj i j _ _ h3 h4 hij
 ·intro i o2 hi
  obtain⟨o3,h3⟩:=live i o2 hi
  exact h.sep i _ h3
 ·intro b c hb
  have:b≠(ι id).b:=λhe=>by rw[he,h.sep id _ hid] at hb;cases hb
  rw[hoth b this]
  exact h.imm b c hb
 ·intro b _ hno
  exact hoth b (λhe=>hno id _ hid he.symm)
theorem Moved.drop(h:HRel B ι H w)(id:Nat)(hd:H.dom id):Moved B ι H w B ι (EC H id .dead) w:=by
 have dm:∀i,H.dom i->(EC H id .dead).dom i/\ι i=ι i:=λi hi=>⟨by
  unfold Heap.dom EC;split
  ·simp
  ·exact hi,rfl⟩
 have live:∀i o2,EC H id .dead i=.live o2->H i=.live o2:=λi o2 hi=>by
  by_cases hii:i=id
  ·subst hii;rw[HM] at hi;cases hi
  ·rw[HL _ _ hii] at hi;exact hi
 exact⟨λ_ _ h=>h,λ_ _ h=>.inl h,dm,⟨λi o hi=>(h.obj i o (live i o hi)).mono (λ_ _ h=>h) dm,λi j o1 o2 hi hj=>h.inj i j o1 o2 (live _ _ hi) (live _ _ hj),
  λi o hi=>h.sep i o (live _ _ hi),h.imm⟩,λi o hi=>.inl ⟨i,o,live _ _ hi,rfl⟩,λ_ _ _=>rfl,Nat.le_refl _,⟨rfl,rfl,rfl⟩⟩
theorem Moved.freeze(h:HRel B ι H w){id k n:Nat}{get:Nat->DVal}(hid:H id=.live (.row k n get)) :
  ∃c e,w.heap[(ι id).b]?=some (.cells c e (0,0))/\Moved B ι H w (λb=>if b=(ι id).b then some c else B b) ι (EC H id .dead) w /\
   n<=(ι id).cap/\(ι id).cap*k<=c.size/\(∀i,i<n->EOk k (get i))/\∀(i j:Nat) (x:DVal) (y:Value),i<n->(get i).cells1[j]?=some x->c[i*k+j]?=some y->DRel B x y:=by
 have ho:=h.obj _ _ hid
 generalize hq:w.heap[(ι id).b]?=q at ho
 cases ho with
 |row hk hn hsz hrel=>
  rename_i c e
  refine⟨c,e,rfl,?_,hn,hsz,hk,hrel⟩
  have bm:∀b x,B b=some x->(if b=(ι id).b then some c else B b)=some x:=λb x hb=>by
   split
   ·rename_i he;rw[he,h.sep id _ hid] at hb;cases hb
   ·exact hb
  have dm:∀i,H.dom i->(EC H id .dead).dom i/\ι i=ι i:=λi hi=>⟨by
   unfold Heap.dom EC;split
   ·simp
   ·exact hi,rfl⟩
  have live:∀i o2,EC H id .dead i=.live o2->i≠id/\H i=.live o2:=λi o2 hi=>by
   by_cases hii:i=id
   ·subst hii;rw[HM] at hi;cases hi
   ·rw[HL _ _ hii] at hi;exact⟨hii,hi⟩
  refine⟨bm,λb x hb=>by
   split at hb
   ·rename_i he;exact .inr (.inr ⟨id,_,hid,he.symm⟩)
   ·exact .inl hb,dm,⟨λi o hi=>(h.obj i o (live i o hi).2).mono bm dm,λi j o1 o2 hi hj=>h.inj i j o1 o2 (live _ _ hi).2 (live _ _ hj).2,?_,?_⟩,
   λi o hi=>.inl ⟨i,o,(live _ _ hi).2,rfl⟩,λ_ _ _=>rfl,Nat.le_refl _,⟨rfl,rfl,rfl⟩⟩
  ·intro i o hi
   obtain⟨h1,h2⟩:=live i o hi
   show (if (ι i).b=(ι id).b then some c else B (ι i).b)=none
   rw[if_neg (λhe=>h1 (h.inj _ _ _ _ h2 hid he))]
   exact h.sep i o h2
  ·intro b x hb
   split at hb
   ·rename_i he;cases hb;subst he
    exact⟨e,(0,0),hq⟩
   ·exact h.imm b x hb
theorem Moved.drew(h:HRel B ι H w)(n:Nat):Moved B ι H w B ι H { w with drawn:=n }:=
 ⟨λ_ _ h=>h,λ_ _ h=>.inl h,λ_ h=>⟨h,rfl⟩,⟨h.obj,h.inj,h.sep,h.imm⟩,λi o h=>.inl ⟨i,o,h,rfl⟩,λ_ _ _=>rfl,Nat.le_refl _,⟨rfl,rfl,rfl⟩⟩
def Tk(sl:Nat->AVal)(dst:Option Tmp)(v:AVal):Nat->AVal:=match dst with
 |some d=>λt=>if t=d then v else sl t
 |none=>sl
theorem lD{sl:Nat->AVal}{a:Act}{B:Ft}{ι:Nat->Pl}{D:Nat->Prop}(h:∀t,VRel B ι D (sl t) (a.tmps.getD t undef)){dst:Option Tmp}(hd:∀d,dst=some d->d<a.tmps.size)
  {v:AVal} {y:Value} (hv:VRel B ι D v y) (t:Nat):VRel B ι D (Tk sl dst v t) ((a.put dst y).tmps.getD t undef):=by
 cases dst with
 |none=>exact h t
 |some d=>
  have:=hd d rfl
  simp only[Tk,Act.put]
  split
  ·rename_i he;subst he
   simp[this];exact hv
  ·rename_i he
   have:=h t
   simp only[Array.getD_eq_getD_getElem?] at this ⊢
   rw[Array.getElem?_setIfInBounds_ne (λh=>he h.symm)]
   exact this
end Go.Sym
namespace Go.Sym
variable {P : Program} {B B' : Ft} {ι ι' : Nat -> Pl} {H H' : Heap} {w w' : World}
structure Eff where
 val:AVal
 upd:List (Nat×HCell)
 pre:List Prop
def DV(H:Heap):List (Nat×HCell)->Heap
 |[]=>H
 |(i,c) :: r=>DV (EC H i c) r
def OZ(B:Ft)(ι:Nat->Pl)(H:Heap)(w:World)(H':Heap)(v:AVal)(y:Value)(w':World):Prop:=
 ∃B' ι',Moved B ι H w B' ι' H' w'/\VRel B' ι' H'.dom v y
def AVal.one:AVal->Bool
 | .d (.v (.agg _)) | .d (.v (.tuple _)) | .d (.agg _) | .d (.tup _) | .d (.arr ..) | .agg _ | .tup _ | .any | .opt ..=>false
 |_=>true
theorem Bc{D:Nat->Prop}{a:AVal}{y:Value}(h:a.one=true)(hv:VRel B ι D a y):y.oneCell'=true:=by
 cases hv with
 |d hd=>cases hd with
  |v=>cases y<;>first | rfl | simp[AVal.one] at h
  |_=>first | rfl | simp[AVal.one] at h
 |_=>first | rfl | simp[AVal.one] at h
theorem nM(t:TypeId)(v:Value)(w:World):(newVar t v).run P w=.ok ⟨w.heap.size,0,none⟩ (w.alloc (.cells v.cells t)):=by
 simp[newVar,newRow]
theorem dW{H:Heap}{r:Nat}(o:AObj):(EC H r (.live o)).dom r:=by unfold Heap.dom;rw[HM];simp
theorem BMW{H:Heap}{r:Nat}{b:Pl}{c:HCell}(hr:H r=.none):∀i,H.dom i->(EC H r c).dom i/\Tj ι r b i=ι i:=λi hi=>by
 have hne:i≠r:=λhe=>hi (he ▸ hr)
 exact⟨by unfold Heap.dom;rw[HL _ _ hne];exact hi,Jx _ _ hne⟩
theorem BBE{r:Nat}(hr:H r=.none)(hH:HRel B ι H w){es:List AVal}{cs:Array Value}(t:TypeId)(hsz:cs.size=es.length)
  (h:∀(j:Nat) (x:AVal) (y:Value),es[j]?=some x->cs[j]?=some y->VRel B ι H.dom x y) :
  OZ B ι H w (EC H r (.live (.box es))) (.bptr r 0) (.pointer (some ⟨w.heap.size,0,none⟩)) (w.alloc (.cells cs t)):=by
 refine⟨B,Tj ι r ⟨w.heap.size,0⟩,Moved.new hH hr (.box hsz λj x y hx hy=>(h j x y hx hy).mono (λ_ _ h=>h) (BMW hr)),?_⟩
 have:=VRel.bptr (B:=B) (ι:=Tj ι r ⟨w.heap.size,0⟩) (D:=(EC H r (.live (.box es))).dom) (id:=r) (c:=0) (dW _)
 rw[EI] at this;exact this
theorem Q8{r:Nat}(hr:H r=.none)(hH:HRel B ι H w){k n:Nat}(q:Nat){get:Nat->DVal}{cs:Array Value}(t:TypeId)(hk:∀i,i<n->EOk k (get i))(hq:n<=q)(hsz:q*k<=cs.size)
  (h:∀(i j:Nat) (x:DVal) (y:Value),i<n->(get i).cells1[j]?=some x->cs[i*k+j]?=some y->DRel B x y) :
  ∃B' ι',Moved B ι H w B' ι' (EC H r (.live (.row k n get))) (w.alloc (.cells cs t))/\(EC H r (.live (.row k n get))).dom r/\ι' r=⟨w.heap.size,q⟩:=
 ⟨B,Tj ι r ⟨w.heap.size,q⟩,Moved.new hH hr (.row hk hq hsz h),dW _,EI _ _ _⟩
def CTC(z:Value):Bool:=match z.cells.toList with
 | .nilFunc :: _=>true
 |_=>false
def BJC(P:Program)(r:Nat)(t:TypeId):Option Eff:=match P.underlying t,(P.info? t).bind (·.zero) with
 |some (.array m e),some z=>bif CTC z then some ⟨.bptr r 0,[(r,.live (.box (z.cells.toList.map λx=>.d (Ux x))))],[]⟩ else match (P.info? e).bind (·.zero) with
  |some ze=>if EY (ofV ze).cells1 then some ⟨.rptr r ze.cells.size 0 0,[(r,.live (.row ze.cells.size m λ_=>ofV ze))],[z.cells.toList=(List.replicate m ze.cells.toList).flatten]⟩ else none
  |none=>none
 |some _,some z=>some ⟨.bptr r 0,[(r,.live (.box (z.cells.toList.map λx=>.d (Ux x))))],[]⟩
 |_,_=>none
theorem lI{t:TypeId}{z:Value}(h:(P.info? t).bind (·.zero)=some z)(w:World):(zeroValue t).run P w=.ok z w:=by
 cases hi:P.info? t with
 |none=>simp[hi] at h
 |some i=>simp[hi] at h;simp[zeroValue,QU hi,h]
theorem oX(v:Value)(j:Nat)(x:DVal)(y:Value)(hx:(ofV v).cells1[j]?=some x)(hy:v.cells[j]?=some y):DRel B x y:=by
 unfold ofV at hx
 split at hx
 ·simp only[DVal.cells1,List.getElem?_map,Option.map_eq_some_iff] at hx
  obtain⟨z,hz,rfl⟩:=hx
  rw[Array.getElem?_toList] at hz
  simp only[Value.cells] at hy
  rw[hz] at hy;cases hy
  exact TX _
 ·cases j with
  |zero=>simp[DVal.cells1] at hx;simp[Value.cells] at hy;subst hx;subst hy;exact .nil (λ_=>rfl) (.inl rfl)
  |succ j=>simp[DVal.cells1] at hx
 ·rename_i h1 h2
  cases j with
  |zero=>
   simp[DVal.cells1] at hx
   subst hx
   cases v<;>simp[Value.cells] at hy<;>first | (subst hy;exact .v _) | exact absurd rfl (h1 _)
  |succ j=>simp[DVal.cells1] at hx
theorem NQ(v:Value):(ofV v).cells1.length=v.cells.size:=by
 unfold ofV
 split
 ·simp[DVal.cells1,Value.cells]
 ·rfl
 ·rename_i h1 h2
  cases v<;>simp[DVal.cells1,Value.cells]<;>exact absurd rfl (h1 _)
theorem FN{α:Type}{k:Nat}{l:List α}(hk:l.length=k):∀(n i j:Nat),i<n->j<k->(List.replicate n l).flatten[i*k+j]?=l[j]?
 |0,i,j,h,_=>by omega
 |n+1,0,j,_,hj=>by
  rw[List.replicate_succ,List.flatten_cons,List.getElem?_append_left (by omega)];simp
 |n+1,i+1,j,h,hj=>by
  have:(i+1)*k=i*k+k:=Nat.succ_mul i k
  rw[List.replicate_succ,List.flatten_cons,List.getElem?_append_right (by omega),show (i+1)*k+j-l.length=i*k+j by omega]
  exact FN hk n i j (by omega) hj
theorem AYD{r:Nat}{t:TypeId}{e:Eff}(h:BJC P r t=some e)(hp:BG e.pre)(hr:H r=.none)(hH:HRel B ι H w) :
  ∃y w',(Instr.alloc t true (.tuple #[])).run P w=.ok y w'/\OZ B ι H w (DV H e.upd) e.val y w':=by
 have gen:∀{z:Value},(P.info? t).bind (·.zero)=some z->some (⟨.bptr r 0,[(r,.live (.box (z.cells.toList.map λx=>.d (Ux x))))],[]⟩:Eff)=some e->∃y w',(Instr.alloc t true (.tuple #[])).run P w=.ok y w'/\OZ B ι H w (DV H e.upd) e.val y w':=λ{z} hz h=>by
  cases h
  refine⟨_,_,by simp[Instr.alloc,lI hz,nM];exact⟨rfl,rfl⟩,?_⟩
  exact BBE hr hH t (by simp) λj x y hx hy=>by
   simp only[List.getElem?_map,Option.map_eq_some_iff] at hx
   obtain⟨u,hu,rfl⟩:=hx
   rw[Array.getElem?_toList] at hu
   rw[hu] at hy;cases hy
   exact .d (TX _)
 unfold BJC at h
 split at h
 ·rename_i m el z hu hz
  cases hfn:CTC z with
  |true=>rw[hfn] at h;exact gen hz h
  |false=>
  rw[hfn] at h
  simp only[cond_false] at h
  split at h
  ·rename_i ze hze
   split at h
   case isFalse=>cases h
   rename_i hone
   cases h
   have hp':z.cells.toList=(List.replicate m ze.cells.toList).flatten:=hp
   refine⟨_,_,by simp[Instr.alloc,lI hz,nM];exact⟨rfl,rfl⟩,?_⟩
   obtain⟨B',ι',h1,h2,h3⟩:=Q8 (k:=ze.cells.size) (n:=m) (get:=λ_=>ofV ze) (cs:=z.cells) hr hH m t (λi _=>⟨NQ ze,hone⟩) (Nat.le_refl _)
    (by have:=congrArg List.length hp';simp at this;omega) (λi j x y hi hx hy=>by
     have hlt:=(List.getElem?_eq_some_iff.1 hx).1
     rw[NQ] at hlt
     rw[<-Array.getElem?_toList,hp',FN (by simp) m i j hi (by simpa using hlt),Array.getElem?_toList] at hy
     exact oX ze j x y hx hy)
   refine⟨B',ι',h1,?_⟩
   have:=VRel.rptr (B:=B') (ι:=ι') (D:=(EC H r (.live (.row ze.cells.size m λ_=>ofV ze))).dom) (k:=ze.cells.size) (i:=0) (c:=0) h2
   rw[h3,show 0*_+0=0 by simp] at this;exact this
  ·cases h
 ·rename_i d z _ hu hz
  cases h
  refine⟨_,_,by simp[Instr.alloc,lI hz,nM];exact⟨rfl,rfl⟩,?_⟩
  exact BBE hr hH t (by simp) λj x y hx hy=>by
   simp only[List.getElem?_map,Option.map_eq_some_iff] at hx
   obtain⟨u,hu,rfl⟩:=hx
   rw[Array.getElem?_toList] at hu
   rw[hu] at hy;cases hy
   exact .d (TX _)
 ·cases h
def splF:List AVal->List AVal×Nat
 |[]=>([],0)
 |a :: r=>match splF r with
  |([],n)=>match a with
   | .d (.v (.bool false))=>([],n+1)
   |a=>([a],n)
  |(b :: p,n)=>(a :: b :: p,n)
theorem BQK:∀(l:List AVal),l=(splF l).1 ++ List.replicate (splF l).2 (.d (.v (.bool false)))
 |[]=>rfl
 |a :: r=>by
  have h:=BQK r
  unfold splF
  split
  ·rename_i n hr
   rw[hr] at h
   split
   ·simp only[List.nil_append] at h ⊢;rw[List.replicate_succ,<-h]
   ·simp only[List.nil_append] at h;rw[h];simp
  ·rename_i b p n hr
   rw[hr] at h
   conv=>lhs;rw[h]
   rfl
def zerL:Nat->List AVal->Option Nat
 |0,l=>some l.length
 |m+1,.d (.v (.int .i64 0)) :: l=>zerL m l
 |_,_=>none
theorem AUU:∀(m:Nat) (l:List AVal) (z:Nat),zerL m l=some z->l.length=m+z/\∀j,j<m->l[j]?=some (.d (.v (.int .i64 0)))
 |0,l,z,h=>by simp only[zerL,Option.some.injEq] at h;exact⟨by omega,λj hj=>by omega⟩
 |m+1,l,z,h=>by
  unfold zerL at h
  split at h
  ·rename_i he;cases he
  ·rename_i m' l' he
   cases he
   obtain⟨h1,h2⟩:=AUU m _ z h
   refine⟨by simp;omega,λj hj=>?_⟩
   cases j with
   |zero=>rfl
   |succ j=>simpa using h2 j (by omega)
  ·cases h
def nOf(m:Nat):List AVal->Option (DVal×DVal×Nat×Nat)
 | .d a :: .d b :: l=>(zerL m l).map λz=>(a,b,m,z)
 |_=>none
theorem CBN{m0 m:Nat}{l:List AVal}{a b:DVal}{z:Nat}(h:nOf m0 l=some (a,b,m,z)):l.length=2+m+z/\l[0]?=some (.d a)/\l[1]?=some (.d b)/\∀j,2<=j->j<2+m->l[j]?=some (.d (.v (.int .i64 0))):=by
 unfold nOf at h
 split at h
 ·rename_i a' b' l'
  rw[Option.map_eq_some_iff] at h
  obtain⟨z',hz,h⟩:=h
  cases h
  obtain⟨h1,h2⟩:=AUU _ _ _ hz
  refine⟨by simp;omega,rfl,rfl,λj h3 h4=>?_⟩
  obtain⟨i,rfl⟩:∃i,j=i+2:=⟨j-2,by omega⟩
  simpa using h2 i (by omega)
 ·cases h
def boxA(r:Nat)(x:AVal):Option Eff:=match x with
 | .d (.arr k n get)=>some ⟨.rptr r k 0 0,[(r,.live (.row k n get))],[]⟩
 |x=>if x.noAgg then some (match (bif Nat.ble 400 x.cells.length then nOf 169 x.cells else bif Nat.beq x.cells.length 14 then nOf 12 x.cells else none) with
  |some (a,b,m,z)=>⟨.bptr r 0,[(r,.live (.nbox [a,b] m z λ_=>0))],[]⟩
  |none=>bif (Nat.ble 40 x.cells.length&&Nat.ble 40 (splF x.cells).2) then⟨.bptr r 0,[(r,.live (.abox (splF x.cells).1 (splF x.cells).2 λ_=>false))],[]⟩ else⟨.bptr r 0,[(r,.live (.box x.cells))],[]⟩) else none
theorem BPW{r:Nat}{t:TypeId}{x:AVal}{v:Value}{e:Eff}(h:boxA r x=some e)(hr:H r=.none)(hH:HRel B ι H w)(hv:VRel B ι H.dom x v) :
  ∃y w',(Instr.box t v).run P w=.ok y w'/\OZ B ι H w (DV H e.upd) e.val y w':=by
 refine⟨.pointer (some ⟨w.heap.size,0,none⟩),w.alloc (.cells v.cells t),by simp[Instr.box,nM],?_⟩
 unfold boxA at h
 split at h
 ·rename_i k n get
  cases h
  cases hv.d_inv with
  |arr hl hk hrel=>
   rename_i ys
   obtain⟨B',ι',h1,h2,h3⟩:=Q8 (cs:=ys) hr hH n t hk (Nat.le_refl _) (by omega) hrel
   refine⟨B',ι',h1,?_⟩
   have:=VRel.rptr (B:=B') (ι:=ι') (D:=(EC H r (.live (.row k n get))).dom) (k:=k) (i:=0) (c:=0) h2
   rw[h3,show 0*_+0=0 by simp] at this;exact this
 ·split at h
  ·rename_i hn
   obtain⟨h1,h2⟩:=sX hv hn
   cases hnb:(bif Nat.ble 400 x.cells.length then nOf 169 x.cells else bif Nat.beq x.cells.length 14 then nOf 12 x.cells else none) with
   |some y=>
    obtain⟨a,b,m,z⟩:=y
    rw[hnb] at h;cases h
    obtain⟨m0,hn⟩:∃m0,nOf m0 x.cells=some (a,b,m,z):=by
     cases hq:Nat.ble 400 x.cells.length with
     |true=>rw[hq] at hnb;exact⟨_,hnb⟩
     |false=>
      rw[hq] at hnb
      cases hq2:Nat.beq x.cells.length 14 with
      |true=>rw[hq2] at hnb;exact⟨_,hnb⟩
      |false=>rw[hq2] at hnb;cases hnb
    obtain⟨n1,n2,n3,n4⟩:=CBN hn
    have get:∀(j:Nat) (d:DVal),x.cells[j]?=some (.d d)->∀y,v.cells[j]?=some y->DRel B d y:=λj d hd y hy=>(h2 j _ y hd hy).d_inv
    refine⟨B,Tj ι r ⟨w.heap.size,0⟩,Moved.new hH hr (.nbox (by rw[h1,n1];simp) (λj d y hd hy=>?_) λj hj1 hj2=>?_),?_⟩
    ·match j,hd with
     |0,hd=>cases hd;exact get 0 _ n2 y hy
     |1,hd=>cases hd;exact get 1 _ n3 y hy
     |j+2,hd=>simp at hd
    ·simp only[List.length_cons,List.length_nil] at hj1 hj2
     have hlt:j<v.cells.size:=by rw[h1,n1];omega
     have:=get j _ (n4 j (by omega) (by omega)) v.cells[j] (by simp[hlt])
     rw[Array.getElem?_eq_getElem hlt]
     generalize v.cells[j]=q at this
     cases this with
     |v=>rfl
    ·have:=VRel.bptr (B:=B) (ι:=Tj ι r ⟨w.heap.size,0⟩) (D:=(EC H r (.live (.nbox [a,b] m z λ_=>0))).dom) (id:=r) (c:=0) (dW _)
     rw[EI] at this;exact this
   |none=>
   rw[hnb] at h
   simp only at h
   cases hc:(Nat.ble 40 x.cells.length&&Nat.ble 40 (splF x.cells).2) with
   |false=>rw[hc] at h;cases h;exact BBE hr hH t h1 h2
   |true=>
    rw[hc] at h;cases h
    have e:=BQK x.cells
    generalize (splF x.cells).1=p at e ⊢
    generalize (splF x.cells).2=m at e ⊢
    refine⟨B,Tj ι r ⟨w.heap.size,0⟩,Moved.new hH hr (.abox (by rw[h1,e];simp) (λj a y ha hy=>(h2 j a y (by rw[e,List.getElem?_append_left (List.getElem?_eq_some_iff.1 ha).1];exact ha) hy).mono (λ_ _ h=>h) (BMW hr)) λj hj=>?_),?_⟩
    ·have hlt:p.length+j<v.cells.size:=by rw[h1,e];simp;omega
     have:=h2 (p.length+j) (.d (.v (.bool false))) v.cells[p.length+j] (by rw[e,List.getElem?_append_right (by omega)];simp[hj]) (by simp[hlt])
     rw[Array.getElem?_eq_getElem hlt]
     generalize v.cells[p.length+j]=z at this
     cases this.d_inv with
     |v=>rfl
    ·have:=VRel.bptr (B:=B) (ι:=Tj ι r ⟨w.heap.size,0⟩) (D:=(EC H r (.live (.abox p m λ_=>false))).dom) (id:=r) (c:=0) (dW _)
     rw[EI] at this;exact this
  ·cases h
theorem Us{b o:Nat}{cs:Array Value}{e:TypeId}{vs:List Value}(hq:w.heap[b]?=some (.cells cs e (0,0)))(hl:o+vs.length<=cs.size)(h1:∀v∈vs,v.oneCell'=true) :
  (storeCells ⟨b,o,none⟩ vs).run P w=.ok () (w.setRow b (cs.toList.take o ++ vs ++ cs.toList.drop (o+vs.length)).toArray):=by
 have:=run_storeCells_at (P:=P) b o e vs 0 cs w hq (by simpa using hl) h1
 simpa using this
theorem Cx{t:TypeId}{n b o:Nat}{cs:Array Value}{e:TypeId}{v:Value}(hn:(P.info? t).map (·.size)=some n)(hs:v.cells.size=n)(hq:w.heap[b]?=some (.cells cs e (0,0)))(hl:o+n<=cs.size)
  (h1:∀u∈v.cells.toList,u.oneCell'=true) :
  (Instr.storeAt t (.pointer (some ⟨b,o,none⟩)) v).run P w=.ok () (w.setRow b (cs.toList.take o ++ v.cells.toList ++ cs.toList.drop (o+n)).toArray):=by
 have:=Us (P:=P) (vs:=v.cells.toList) hq (by simpa[hs] using hl) h1
 simp[Instr.storeAt,Instr.sureAddr,storeVar,EH hn,hs,this]
def BCZ(c:Bool):DVal->DVal->DVal
 | .v (.int k x),.v (.int k' y)=>if k=k' then .v (.int k (cond c x y)) else cond c (.v (.int k x)) (.v (.int k' y))
 | .v (.bool x),.v (.bool y)=>.v (.bool (cond c x y))
 |a,b=>cond c a b
theorem AXE(c:Bool)(a b:DVal):BCZ c a b=cond c a b:=by
 unfold BCZ;split
 ·split
  ·rename_i h;subst h;cases c<;>rfl
  ·rfl
 ·cases c<;>rfl
 ·rfl
def qQ(c:Bool):List DVal->List DVal->Option (List DVal)
 |[],[]=>some []
 |a :: r,b :: s=>match qQ c r s with
  |some l=>some (BCZ c a b :: l)
  |none=>none
 |_,_=>none
theorem ANQ(c:Bool):∀{l m r:List DVal},qQ c l m=some r->r=cond c l m
 |[],[],r,h=>by simp[qQ] at h;subst h;cases c<;>rfl
 |a :: l,b :: m,r,h=>by
  simp only[qQ] at h
  split at h
  ·rename_i q hq
   cases h
   rw[ANQ c hq,AXE];cases c<;>rfl
  ·cases h
 |[],_ :: _,_,h=>by simp[qQ] at h
 |_ :: _,[],_,h=>by simp[qQ] at h
def BKK(c:Bool)(a b:DVal):DVal:=match a,b with
 | .agg l,.agg m=>match qQ c l m with
  |some r=>.agg r
  |none=>cond c a b
 |a,b=>BCZ c a b
theorem BXP(c:Bool)(a b:DVal):BKK c a b=cond c a b:=by
 unfold BKK;split
 ·split
  ·rename_i h;rw[ANQ c h];cases c<;>rfl
  ·rfl
 ·exact AXE c a b
def AZF(c:Bool):DVal->DVal->DVal
 | .v (.int k x),.v (.int k' y)=>if k=k' then .v (.int k (cond c x y)) else cond c (.v (.int k x)) (.v (.int k' y))
 | .v (.bool x),.v (.bool y)=>.v (.bool (cond c x y))
 | .list k n g e,.list k' n' g' e'=>if k=k' then .list k (cond c n n') (λi=>BKK c (g i) (g' i)) (cond c e e') else cond c (.list k n g e) (.list k' n' g' e')
 |a,b=>cond c a b
theorem AVS(c:Bool)(a b:DVal):AZF c a b=cond c a b:=by
 unfold AZF;split
 ·split
  ·rename_i h;subst h;cases c<;>rfl
  ·rfl
 ·cases c<;>rfl
 ·split
  ·rename_i h;subst h
   simp only[BXP]
   cases c<;>rfl
  ·rfl
 ·rfl
def ADC(c:Bool):List DVal->List DVal->Option (List DVal)
 |[],[]=>some []
 |a :: r,b :: s=>match ADC c r s with
  |some l=>some (AZF c a b :: l)
  |none=>none
 |_,_=>none
theorem AUN(c:Bool):∀{l m r:List DVal},ADC c l m=some r->r=cond c l m
 |[],[],r,h=>by simp[ADC] at h;subst h;cases c<;>rfl
 |a :: l,b :: m,r,h=>by
  simp only[ADC] at h
  split at h
  ·rename_i q hq
   cases h
   rw[AUN c hq,AVS];cases c<;>rfl
  ·cases h
 |[],_ :: _,_,h=>by simp[ADC] at h
 |_ :: _,[],_,h=>by simp[ADC] at h
def jB(c:Bool)(a b:DVal):DVal:=match a,b with
 | .agg l,.agg m=>match ADC c l m with
  |some r=>.agg r
  |none=>cond c a b
 |a,b=>AZF c a b
theorem SU(c:Bool)(a b:DVal):jB c a b=cond c a b:=by
 unfold jB;split
 ·split
  ·rename_i h;rw[AUN c h];cases c<;>rfl
  ·rfl
 ·exact AVS c a b
def BCS(x:DVal)(c:Nat)(ds:List DVal):DVal:=match x with
 | .agg l=>.agg (l.take c ++ ds ++ l.drop (c+ds.length))
 |x=>match c,ds with
  |0,[d]=>d
  |_,_=>x
theorem ATO(x:DVal)(c:Nat)(ds:List DVal)(h1:∀d,d∈ds->d.cells1=[d])(hc:c+ds.length<=x.cells1.length) :
  (BCS x c ds).cells1=x.cells1.take c ++ ds ++ x.cells1.drop (c+ds.length):=by
 have other:∀x:DVal,x.cells1=[x]->c+ds.length<=1->(match c,ds with | 0,[d]=>d | _,_=>x).cells1=[x].take c ++ ds ++ [x].drop (c+ds.length):=by
  intro x hx hc
  match c,ds,hc with
  |0,[],_=>simpa using hx
  |0,[d],_=>simpa using h1 d (by simp)
  |0,_ :: _ :: _,h=>simp at h
  |1,[],_=>simpa using hx
  |1,_ :: _,h=>simp at h;omega
  |c+2,_,h=>omega
 cases x with
 |agg l=>rfl
 |_=>exact other _ rfl hc
theorem UG:∀{ds:List DVal},EY ds=true->∀d,d∈ds->d.cells1=[d]
 |[],_,d,h=>by simp at h
 |x :: r,h,d,hd=>by
  cases x with
  |v y=>cases y<;>simp only[EY,Bool.false_eq_true] at h<;>(rcases List.mem_cons.1 hd with rfl | hd;rfl;exact UG (ds:=r) h d hd)
  |list a b c e=>rcases List.mem_cons.1 hd with rfl | hd;rfl;exact UG (ds:=r) h d hd
  |eref a b=>rcases List.mem_cons.1 hd with rfl | hd;rfl;exact UG (ds:=r) h d hd
  |iface a b=>rcases List.mem_cons.1 hd with rfl | hd;rfl;exact UG (ds:=r) h d hd
  |anyB=>rcases List.mem_cons.1 hd with rfl | hd;rfl;exact UG (ds:=r) h d hd
  |_=>simp[EY] at h
theorem UJ:∀{ds:List DVal},EY ds=true->∀d,d∈ds->(AVal.d d).one=true
 |[],_,d,h=>by simp at h
 |x :: r,h,d,hd=>by
  cases x with
  |v y=>cases y<;>simp only[EY,Bool.false_eq_true] at h<;>(rcases List.mem_cons.1 hd with rfl | hd;rfl;exact UJ (ds:=r) h d hd)
  |list a b c e=>rcases List.mem_cons.1 hd with rfl | hd;rfl;exact UJ (ds:=r) h d hd
  |eref a b=>rcases List.mem_cons.1 hd with rfl | hd;rfl;exact UJ (ds:=r) h d hd
  |iface a b=>rcases List.mem_cons.1 hd with rfl | hd;rfl;exact UJ (ds:=r) h d hd
  |anyB=>rcases List.mem_cons.1 hd with rfl | hd;rfl;exact UJ (ds:=r) h d hd
  |_=>simp[EY] at h
theorem ARR:∀{ds:List DVal},EY ds=true↔∀d,d∈ds->EY [d]=true
 |[]=>by simp[EY]
 |x :: r=>by
  have key:EY (x :: r)=true↔EY [x]=true/\EY r=true:=by
   cases x with
   |v y=>cases y<;>simp[EY]
   |_=>simp[EY]
  rw[key,ARR (ds:=r)]
  simp
theorem AUJ{l m:List DVal}{c n:Nat}(hl:EY l=true)(hm:EY m=true):EY (l.take c ++ m ++ l.drop n)=true:=by
 rw[ARR] at *
 intro d hd
 simp only[List.mem_append] at hd
 rcases hd with (hd | hd) | hd
 ·exact hl d (List.mem_of_mem_take hd)
 ·exact hm d hd
 ·exact hl d (List.mem_of_mem_drop hd)
def Gd(P:Program)(H:Heap)(t:TypeId)(p x:AVal):Option Eff:=
 match p,P.underlying t,(P.info? t).map (·.size) with
 | .bptr id c,some _,some n=>match H id with
  | .live (.box es)=>if x.noAgg&&x.cells.length==n&&x.cells.all AVal.one&&Nat.ble (c+n) es.length then
    some ⟨.d (.v undef),[(id,.live (.box (es.take c ++ x.cells ++ es.drop (c+n))))],[]⟩ else none
  |_=>none
 | .rptr id k i c,some (.array _ _),some n=>match i,c,H id,x with
  |0,0,.live (.row k' m _),.d (.arr k2 m2 get2)=>if k==k'&&k==k2&&m==m2&&n==m*k then
    some ⟨.d (.v undef),[(id,.live (.row k m get2))],[]⟩ else none
  |_,_,_,_=>none
 | .rptr id k i c,some _,some n=>match H id,x with
  | .live (.row k' m get),.d x=>if k==k'&&x.cells1.length==n&&EY x.cells1&&Nat.ble (c+n) k then
    some ⟨.d (.v undef),[(id,.live (.row k m λj=>jB (decide (j=i)) (if n=k then x else BCS (get i) c x.cells1) (get j)))],[i<m]⟩ else none
  |_,_=>none
 |_,_,_=>none
theorem Jl{id:Nat}{o o':AObj}(hH:HRel B ι H w)(hid:H id=.live o){cs cs':Array Value}{t:TypeId}(hq:w.heap[(ι id).b]?=some (.cells cs t (0,0)))
  (ho:ORel B ι H.dom (ι id).cap o' (some (.cells cs' t (0,0)))):OZ B ι H w (EC H id (.live o')) (.d (.v undef)) undef (w.setRow (ι id).b cs'):=by
 refine⟨B,ι,Moved.write hH hid (by simp) (λb hb=>setRow_other w (ι id).b b cs' hb) ?_,.d (.v _)⟩
 rw[setRow_heap w (ι id).b cs cs' t (0,0) hq];exact ho
theorem HA{α:Type}{l m:List α}{c n:Nat}(hm:m.length=n)(hc:c+n<=l.length)(j:Nat) :
  (l.take c ++ m ++ l.drop (c+n))[j]?=if c<=j/\j<c+n then m[j-c]? else l[j]?:=by
 have h1:(l.take c).length=c:=by simp;omega
 by_cases hj:j<c
 ·rw[List.append_assoc,List.getElem?_append_left (by omega),List.getElem?_take,if_pos hj,if_neg (by omega)]
 ·by_cases hj2:j<c+n
  ·rw[List.getElem?_append_left (by simp[h1,hm];omega),List.getElem?_append_right (by omega),if_pos (by omega),h1]
  ·rw[List.getElem?_append_right (by simp[h1,hm];omega),if_neg (by omega),List.getElem?_drop]
   congr 1
   simp[h1,hm];omega
theorem V0{t:TypeId}{p x:AVal}{v u:Value}{e:Eff}(h:Gd P H t p x=some e)(hp:BG e.pre)(hH:HRel B ι H w)(hv:VRel B ι H.dom p v)(hx:VRel B ι H.dom x u) :
  ∃w',(Instr.storeAt t v u).run P w=.ok () w'/\OZ B ι H w (DV H e.upd) e.val undef w':=by
 unfold Gd at h
 split at h
 ·rename_i id c d n hu hn
  split at h
  ·rename_i es hid
   split at h
   ·rename_i hc
    cases h
    simp only[Bool.and_eq_true,beq_iff_eq,Nat.ble_eq,List.all_eq_true] at hc
    obtain⟨⟨⟨hna,hlen⟩,hone⟩,hle⟩:=hc
    cases hv
    obtain⟨h1,h2⟩:=sX hx hna
    have ho:=hH.obj _ _ hid
    generalize hq:w.heap[(ι id).b]?=q at ho
    cases ho with
    |box hsz hrel=>
     rename_i cs te
     have h1':∀z∈u.cells.toList,z.oneCell'=true:=λz hz=>by
      obtain⟨j,hj,rfl⟩:=List.getElem_of_mem hz
      have hj':j<x.cells.length:=by rw[<-h1];simpa using hj
      exact Bc (hone _ (List.getElem_mem hj')) (h2 j x.cells[j] _ (by simp) (by simp at hj;simp[hj]))
     refine⟨_,Cx hn (by rw[h1,hlen]) hq (by omega) h1',Jl hH hid hq (.box (by simp;omega) λj a y ha hy=>?_)⟩
     rw[HA hlen hle] at ha
     rw[List.getElem?_toArray,HA (by simpa[hlen] using h1) (by simpa[hsz] using hle)] at hy
     split at ha
     ·rename_i hj
      rw[if_pos hj] at hy
      exact h2 _ _ _ ha (by simpa using hy)
     ·rename_i hj
      rw[if_neg hj] at hy
      exact hrel _ _ _ ha (by simpa using hy)
   ·cases h
  ·cases h
 ·rename_i id k i0 c0 m0 el n hu hn
  split at h
  ·rename_i k' m get k2 m2 get2 hid
   split at h
   ·rename_i hc
    cases h
    simp only[Bool.and_eq_true,beq_iff_eq] at hc
    obtain⟨⟨⟨rfl,rfl⟩,rfl⟩,rfl⟩:=hc
    cases hv
    have ho:=hH.obj _ _ hid
    generalize hq:w.heap[(ι id).b]?=q at ho
    cases ho with
    |row hk hnq hsz' hrel=>
     have hsz:=Nat.le_trans (Nat.mul_le_mul_right _ hnq) hsz'
     rename_i cs te
     cases hx.d_inv with
     |arr hl hk2 hrel2=>
      rename_i ys
      have h1':∀z∈(Value.agg ys).cells.toList,z.oneCell'=true:=λz hz=>by
       obtain⟨j,hj,rfl⟩:=List.getElem_of_mem hz
       simp only[Value.cells,Array.length_toList] at hj
       have hk0:0<k:=Nat.pos_of_ne_zero (by rintro rfl;rw[Nat.mul_zero] at hl;omega)
       have hi:j / k<m:=by rw[Nat.div_lt_iff_lt_mul hk0];omega
       have hm:j % k<k:=Nat.mod_lt _ hk0
       have hjj:j / k*k+j % k=j:=by rw[Nat.mul_comm];exact Nat.div_add_mod j k
       have hlt:j % k<(get2 (j / k)).cells1.length:=by rw[(hk2 _ hi).len];exact hm
       have:=hrel2 (j / k) (j % k) (get2 (j / k)).cells1[j % k] ys[j] hi (by simp) (by rw[hjj];simp[hj])
       exact Bc (B:=B) (ι:=ι) (D:=H.dom) (UJ (hk2 _ hi).one _ (List.getElem_mem hlt)) (.d (by simpa[Value.cells] using this))
      have e0:0*k+0=0:=by simp
      rw[e0]
      refine⟨_,Cx hn (by simpa[Value.cells] using hl) hq (by omega) h1',Jl hH hid hq (.row hk2 hnq (by simp[Value.cells,hl];omega) λi j a y hi ha hy=>?_)⟩
      have hlt:=(List.getElem?_eq_some_iff.1 ha).1
      rw[(hk2 i hi).len] at hlt
      have h2:(i+1)*k<=m*k:=Nat.mul_le_mul_right k hi
      have h3:(i+1)*k=i*k+k:=Nat.succ_mul i k
      rw[List.getElem?_toArray,HA (by simpa[Value.cells] using hl) (by simpa using hsz),if_pos (by omega)] at hy
      exact hrel2 i j a y hi ha (by simpa[Value.cells] using hy)
   ·cases h
  ·cases h
 ·rename_i id k i c d n _ hu hn
  split at h
  ·rename_i k' m get x hid
   split at h
   ·rename_i hc
    cases h
    simp only[Bool.and_eq_true,beq_iff_eq,Nat.ble_eq] at hc
    obtain⟨⟨⟨rfl,hlen⟩,hone⟩,hle⟩:=hc
    have hi:i<m:=hp
    cases hv
    have ho:=hH.obj _ _ hid
    generalize hq:w.heap[(ι id).b]?=q at ho
    cases ho with
    |row hk hnq hsz' hrel=>
     have hsz:=Nat.le_trans (Nat.mul_le_mul_right _ hnq) hsz'
     rename_i cs te
     have hxx:u.cells.size=n/\∀(j:Nat) (a:DVal) (z:Value),x.cells1[j]?=some a->u.cells[j]?=some z->DRel B a z:=by
      cases hx.d_inv with
      |v=>cases u<;>simp[DVal.cells1] at hlen<;>first
        |(refine⟨by simp[Value.cells,hlen],λj a z ha hz=>?_⟩;cases j with
          |zero=>simp[DVal.cells1,Value.cells] at ha hz;subst ha;subst hz;exact .v _
          |succ j=>simp[DVal.cells1] at ha)
        |simp[DVal.cells1,EY] at hone
      |agg hl hr=>exact⟨by simpa[Value.cells,DVal.cells1,<-hlen] using hl,hr⟩
      |tup hl hr=>simp[DVal.cells1,EY] at hone
      |arr _ _ _=>simp[DVal.cells1,EY] at hone
      |nil a b=>exact⟨by simpa[Value.cells,DVal.cells1] using hlen,λj a z ha hz=>by
        cases j with
        |zero=>simp[DVal.cells1,Value.cells] at ha hz;subst ha;subst hz;exact .nil ‹_› ‹_›
        |succ j=>simp[DVal.cells1] at ha⟩
      |list a b c e f g h=>exact⟨by simpa[Value.cells,DVal.cells1] using hlen,λj a z ha hz=>by
        cases j with
        |zero=>simp[DVal.cells1,Value.cells] at ha hz;subst ha;subst hz;exact .list ‹_› ‹_› ‹_› ‹_› ‹_› ‹_› ‹_›
        |succ j=>simp[DVal.cells1] at ha⟩
      |eref a b c=>exact⟨by simpa[Value.cells,DVal.cells1] using hlen,λj a z ha hz=>by
        cases j with
        |zero=>simp[DVal.cells1,Value.cells] at ha hz;subst ha;subst hz;exact .eref ‹_› ‹_› ‹_›
        |succ j=>simp[DVal.cells1] at ha⟩
      |iface a=>exact⟨by simpa[Value.cells,DVal.cells1] using hlen,λj a z ha hz=>by
        cases j with
        |zero=>simp[DVal.cells1,Value.cells] at ha hz;subst ha;subst hz;exact .iface ‹_›
        |succ j=>simp[DVal.cells1] at ha⟩
      |anyB=>exact⟨by simpa[Value.cells,DVal.cells1] using hlen,λj a z ha hz=>by
        cases j with
        |zero=>simp[DVal.cells1,Value.cells] at ha hz;subst ha;subst hz;exact .anyB
        |succ j=>simp[DVal.cells1] at ha⟩
     obtain⟨h1,h2⟩:=hxx
     have h1':∀z∈u.cells.toList,z.oneCell'=true:=λz hz=>by
      obtain⟨j,hj,rfl⟩:=List.getElem_of_mem hz
      have hj':j<x.cells1.length:=by rw[hlen,<-h1];simpa using hj
      exact Bc (B:=B) (ι:=ι) (D:=H.dom) (UJ hone _ (List.getElem_mem hj')) (.d (h2 j x.cells1[j] _ (by simp) (by simp at hj;simp[hj])))
     have h3:(i+1)*k<=m*k:=Nat.mul_le_mul_right k hi
     have h4:(i+1)*k=i*k+k:=Nat.succ_mul i k
     have hnew:(if n=k then x else BCS (get i) c x.cells1).cells1=(get i).cells1.take c ++ x.cells1 ++ (get i).cells1.drop (c+n):=by
      split
      ·rename_i hnk
       have:c=0:=by omega
       subst this
       have hki:=(hk i hi).len
       simp[hnk,<-hki]
      ·rw[ATO _ _ _ (UG hone) (by rw[(hk i hi).len,hlen];exact hle),hlen]
     refine⟨_,Cx hn h1 hq (by omega) h1',Jl hH hid hq (.row (λj hj=>?_) hnq (by simp;omega) λj l a y hj ha hy=>?_)⟩
     ·simp only[SU]
      by_cases hji:j=i
      ·subst hji
       simp only[decide_true,cond_true]
       refine⟨?_,?_⟩
       ·rw[hnew];simp[(hk j hj).len,hlen];omega
       ·rw[hnew];exact AUJ (hk j hj).one hone
      ·simp only[hji,decide_false,cond_false];exact hk j hj
     ·simp only[SU] at ha
      rw[List.getElem?_toArray,HA (by simpa using h1) (by simp;omega)] at hy
      by_cases hji:j=i
      ·subst hji
       simp only[decide_true,cond_true,hnew] at ha
       rw[HA hlen (by rw[(hk j hj).len];exact hle)] at ha
       split at ha
       ·rename_i hl
        rw[if_pos (by omega),show j*k+l-(j*k+c)=l-c by omega] at hy
        exact h2 _ _ _ ha (by simpa using hy)
       ·rename_i hl
        have hlt:=(List.getElem?_eq_some_iff.1 ha).1
        rw[(hk j hj).len] at hlt
        rw[if_neg (by omega)] at hy
        exact hrel _ _ _ _ hj ha (by simpa using hy)
      ·simp only[hji,decide_false,cond_false] at ha
       have hlt:=(List.getElem?_eq_some_iff.1 ha).1
       rw[(hk j hj).len] at hlt
       have:¬ (i*k+c<=j*k+l/\j*k+l<i*k+c+n):=by
        rcases Nat.lt_or_gt_of_ne hji with hlt2 | hgt
        ·have h5:(j+1)*k<=i*k:=Nat.mul_le_mul_right k hlt2
         have h6:(j+1)*k=j*k+k:=Nat.succ_mul j k
         omega
        ·have h5:(i+1)*k<=j*k:=Nat.mul_le_mul_right k hgt
         omega
       rw[if_neg this] at hy
       exact hrel _ _ _ _ hj ha (by simpa using hy)
   ·cases h
  ·cases h
 ·cases h
def oD(P:Program)(H:Heap)(t:TypeId)(p x:AVal):Option Eff:=match p with
 | .rptr id k i c=>match H id with
  | .live (.box _)=>Gd P H t (.bptr id (i*k+c)) x
  | .live (.abox es m get)=>match x,(P.info? t).map (·.size) with
   | .d (.v (.bool b)),some n=>if Nat.beq k 1&&Nat.beq c es.length&&Nat.beq n 1 then
     some ⟨.d (.v undef),[(id,.live (.abox es m λj=>bif decide (j=i) then b else get j))],[i<m]⟩ else none
   |_,_=>none
  | .live (.nbox ds m z get)=>match x,(P.info? t).map (·.size) with
   | .d (.v (.int .i64 b)),some n=>if Nat.beq k 1&&Nat.beq n 1 then
     some ⟨.d (.v undef),[(id,.live (.nbox ds m z λj=>bif Nat.beq j (i+c) then b else get j))],[ds.length<=i+c/\i+c<ds.length+m]⟩ else none
   |_,_=>none
  |_=>none
 | .bptr id c=>match H id,(P.info? t).map (·.size) with
  | .live (.nbox ds m z get),some n=>if x.noAgg&&Nat.beq x.cells.length n&&x.cells.all AVal.one then
    some ⟨.d (.v undef),[(id,.live (.nbox ds m z get))],[ds.length+m<=c/\c+n<=ds.length+m+z]⟩ else none
  |_,_=>none
 |_=>none
def qG(P:Program)(H:Heap)(t:TypeId)(p x:AVal):Option Eff:=match Gd P H t p x with
 |some e=>some e
 |none=>oD P H t p x
theorem ALC{t:TypeId}{p x:AVal}{e:Eff}(h:Gd P H t p x=some e):e.val=.d (.v undef):=by
 unfold Gd at h
 split at h<;>(try (split at h))<;>(try (split at h))<;>first | (cases h;rfl) | cases h
theorem BNM{t:TypeId}{p x:AVal}{e:Eff}(h:qG P H t p x=some e):e.val=.d (.v undef):=by
 unfold qG at h
 split at h
 ·rename_i e' he;cases h;exact ALC he
 ·unfold oD at h
  split at h
  ·split at h
   ·exact ALC h
   ·split at h
    ·split at h
     ·cases h;rfl
     ·cases h
    ·cases h
   ·split at h
    ·split at h
     ·cases h;rfl
     ·cases h
    ·cases h
   ·cases h
  ·split at h
   ·split at h
    ·cases h;rfl
    ·cases h
   ·cases h
  ·cases h
theorem BFP{H H':Heap}{t:TypeId}{id c:Nat}{x:AVal}(e:H id=H' id):Gd P H t (.bptr id c) x=Gd P H' t (.bptr id c) x:=by
 unfold Gd
 generalize P.underlying t=u
 generalize (P.info? t).map (·.size)=s
 cases u with
 |none=>rfl
 |some d=>cases s with
  |none=>rfl
  |some n=>simp only[e]
theorem CDJ{H H':Heap}{t:TypeId}{id k i c:Nat}{x:AVal}(e:H id=H' id):qG P H t (.rptr id k i c) x=qG P H' t (.rptr id k i c) x:=by
 have h0:Gd P H t (.rptr id k i c) x=Gd P H' t (.rptr id k i c) x:=by
  unfold Gd
  generalize P.underlying t=u
  generalize (P.info? t).map (·.size)=s
  cases u with
  |none=>cases i<;>cases c<;>rfl
  |some d=>cases s with
   |none=>cases d<;>cases i<;>cases c<;>rfl
   |some n=>cases d<;>cases i<;>cases c<;>simp only[e]
 have h1:oD P H t (.rptr id k i c) x=oD P H' t (.rptr id k i c) x:=by
  have h2:=BFP (P:=P) (t:=t) (c:=i*k+c) (x:=x) e
  unfold oD
  simp only
  rw[e]
  cases H' id with
  |live o=>cases o<;>first | exact h2 | rfl
  |_=>rfl
 unfold qG;rw[h0,h1]
theorem BBH{t:TypeId}{p x:AVal}{v u:Value}{e:Eff}(h:qG P H t p x=some e)(hp:BG e.pre)(hH:HRel B ι H w)(hv:VRel B ι H.dom p v)(hx:VRel B ι H.dom x u) :
  ∃w',(Instr.storeAt t v u).run P w=.ok () w'/\OZ B ι H w (DV H e.upd) e.val undef w':=by
 unfold qG at h
 split at h
 ·rename_i e' he;cases h;exact V0 he hp hH hv hx
 ·unfold oD at h
  split at h
  case h_3=>cases h
  case h_2=>
   rename_i id c _
   split at h
   case h_2=>cases h
   rename_i ds m z get n hid hn
   split at h
   case isFalse=>cases h
   rename_i hc
   cases h
   simp only[Bool.and_eq_true,List.all_eq_true] at hc
   obtain⟨⟨hna,hlen⟩,hone⟩:=hc
   have hlen:=Nat.eq_of_beq_eq_true hlen
   obtain⟨p1,p2⟩:=hp
   cases hv
   obtain⟨h1,h2⟩:=sX hx hna
   have ho:=hH.obj _ _ hid
   generalize hq:w.heap[(ι id).b]?=q at ho
   cases ho with
   |nbox hsz hrel hb=>
    rename_i cs te
    have h1':∀z∈u.cells.toList,z.oneCell'=true:=λz hz=>by
     obtain⟨j,hj,rfl⟩:=List.getElem_of_mem hz
     have hj':j<x.cells.length:=by rw[<-h1];simpa using hj
     exact Bc (hone _ (List.getElem_mem hj')) (h2 j x.cells[j] _ (by simp) (by simp at hj;simp[hj]))
    have hl:c+n<=cs.size:=by omega
    have hsu:u.cells.toList.length=n:=by simpa[hlen] using h1
    refine⟨_,Cx hn (by rw[h1,hlen]) hq hl h1',Jl hH hid hq (.nbox (by simp[hsu];omega) (λj a y ha hy=>?_) λj hj1 hj2=>?_)⟩
    ·have hlt:=(List.getElem?_eq_some_iff.1 ha).1
     rw[List.getElem?_toArray,HA hsu (by simpa using hl),if_neg (by omega)] at hy
     exact hrel _ _ _ ha (by simpa using hy)
    ·rw[List.getElem?_toArray,HA hsu (by simpa using hl),if_neg (by omega)]
     simpa using hb j hj1 hj2
  rename_i id k i c _
  split at h
  ·refine V0 h hp hH ?_ hx
   cases hv with
   |rptr hD=>exact .bptr hD
  ·rename_i es m get hid
   split at h
   case h_2=>cases h
   rename_i b n hn hst
   split at h
   case isFalse=>cases h
   rename_i hc
   simp only[Bool.and_eq_true] at hc
   obtain⟨⟨hk,hc⟩,h1⟩:=hc
   obtain rfl:=Nat.eq_of_beq_eq_true hk
   obtain rfl:=Nat.eq_of_beq_eq_true hc
   obtain rfl:=Nat.eq_of_beq_eq_true h1
   cases h
   have hi:i<m:=hp
   obtain rfl:u=.bool b:=by cases hx.d_inv;rfl
   cases hv
   have ho:=hH.obj _ _ hid
   generalize hq:w.heap[(ι id).b]?=q at ho
   cases ho with
   |abox hsz hrel hb=>
    rename_i cs te
    have hl:i*1+es.length+1<=cs.size:=by omega
    refine⟨_,Cx hn rfl hq hl (λz hz=>by simp[Value.cells] at hz;subst hz;rfl),Jl hH hid hq (.abox (by simp[Value.cells];omega) (λj a y ha hy=>?_) λj hj=>?_)⟩
    ·have hlt:=(List.getElem?_eq_some_iff.1 ha).1
     rw[List.getElem?_toArray,HA (by simp[Value.cells]) (by simpa using hl),if_neg (by omega)] at hy
     exact hrel _ _ _ ha (by simpa using hy)
    ·rw[List.getElem?_toArray,HA (by simp[Value.cells]) (by simpa using hl)]
     by_cases e:j=i
     ·subst e
      rw[if_pos (by omega),show es.length+j-(j*1+es.length)=0 by omega]
      simp[Value.cells]
     ·rw[if_neg (by omega),decide_eq_false e]
      simpa using hb j hj
  ·rename_i ds m z get hid
   split at h
   case h_2=>cases h
   rename_i b n hn hst
   split at h
   case isFalse=>cases h
   rename_i hc
   simp only[Bool.and_eq_true] at hc
   obtain⟨hk,h1⟩:=hc
   obtain rfl:=Nat.eq_of_beq_eq_true hk
   obtain rfl:=Nat.eq_of_beq_eq_true h1
   cases h
   obtain⟨p1,p2⟩:=hp
   obtain rfl:u=.int .i64 b:=by cases hx.d_inv;rfl
   cases hv
   have ho:=hH.obj _ _ hid
   generalize hq:w.heap[(ι id).b]?=q at ho
   cases ho with
   |nbox hsz hrel hb=>
    rename_i cs te
    have hl:i*1+c+1<=cs.size:=by omega
    refine⟨_,Cx hn rfl hq hl (λz hz=>by simp[Value.cells] at hz;subst hz;rfl),Jl hH hid hq (.nbox (by simp[Value.cells];omega) (λj a y ha hy=>?_) λj hj1 hj2=>?_)⟩
    ·have hlt:=(List.getElem?_eq_some_iff.1 ha).1
     rw[List.getElem?_toArray,HA (by simp[Value.cells]) (by simpa using hl),if_neg (by omega)] at hy
     exact hrel _ _ _ ha (by simpa using hy)
    ·rw[List.getElem?_toArray,HA (by simp[Value.cells]) (by simpa using hl)]
     by_cases e:j=i+c
     ·subst e
      rw[if_pos (by omega),show i+c-(i*1+c)=0 by omega]
      simp[Value.cells]
     ·rw[if_neg (by omega),show Nat.beq j (i+c)=false from Bool.eq_false_iff.2 λh=>e (Nat.eq_of_beq_eq_true h)]
      simpa using hb j hj1 hj2
  ·cases h
end Go.Sym
