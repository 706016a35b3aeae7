/- Literals, slices, append. -/
import Derived.Test.YtlblbbidigejkaaGreatSym2
import Derived.Laws.AppendOwn
set_option linter.unusedVariables false
set_option linter.unusedSimpArgs false
namespace Go.Sym
variable {P : Program} {B B' : Ft} {ι ι' : Nat -> Pl} {H H' : Heap} {D : Nat -> Prop} {w w' : World}
theorem BFB:∀(vs:List Value) (n off:Nat) (cs:Array Value),off+n+vs.length<=cs.size ->
  (vs.zipIdx n).foldl (λcs (x:Value×Nat)=>cs.setIfInBounds (off+x.2) x.1) cs=(cs.toList.take (off+n) ++ vs ++ cs.toList.drop (off+n+vs.length)).toArray
 |[],n,off,cs,_=>by simp
 |v :: vs,n,off,cs,h=>by
  simp only[List.zipIdx_cons,List.foldl_cons]
  rw[BFB vs (n+1) off _ (by simp at h ⊢;omega)]
  congr 1
  apply List.ext_getElem?
  intro j
  have h1:off+(n+1)+vs.length<=(cs.setIfInBounds (off+n) v).toList.length:=by simp at h ⊢;omega
  have h2:off+n+(v :: vs).length<=cs.toList.length:=by simpa using h
  rw[HA rfl h1,HA rfl h2]
  simp only[Array.toList_setIfInBounds,List.length_cons,List.getElem?_set]
  by_cases hj:j=off+n
  ·subst hj
   rw[if_neg (by omega),if_pos rfl,if_pos (by simp at h;simp;omega),if_pos (by omega)]
   simp
  ·by_cases hj2:off+(n+1)<=j/\j<off+(n+1)+vs.length
   ·rw[if_pos hj2,if_pos (by omega)]
    obtain⟨q,hq⟩:∃q,j-(off+n)=q+1:=⟨j-(off+n)-1,by omega⟩
    rw[hq,show j-(off+(n+1))=q by omega];rfl
   ·rw[if_neg hj2,if_neg (λe=>hj e.symm),if_neg (by omega)]
def K9(place:Nat->Option (Nat×Nat))(l:List AVal):List (Nat×AVal)->Option (List AVal)
 |[]=>some l
 |(i,a) :: rest=>match place i with
  |some (off,size)=>if a.noAgg&&a.cells.length==size&&Nat.ble (off+size) l.length then K9 place (l.take off ++ a.cells ++ l.drop (off+size)) rest else none
  |none=>none
theorem Jf{place:Nat->Option (Nat×Nat)}:∀{pa:List (Nat×AVal)} {pv:List (Nat×Value)} {l r:List AVal} {cs:Array Value},K9 place l pa=some r->pv.length=pa.length ->
  (∀(j:Nat) (x:Nat×AVal) (y:Nat×Value),pa[j]?=some x->pv[j]?=some y->x.1=y.1/\VRel B ι D x.2 y.2)->cs.size=l.length ->
  (∀(j:Nat) (x:AVal) (y:Value),l[j]?=some x->cs[j]?=some y->VRel B ι D x y) ->
  ∃ys,Instr.fill place cs pv=some ys/\ys.size=r.length/\∀(j:Nat) (x:AVal) (y:Value),r[j]?=some x->ys[j]?=some y->VRel B ι D x y
 |[],pv,l,r,cs,h,hl,_,hsz,hr=>by
  have:pv=[]:=by simpa using hl
  subst this
  simp only[K9,Option.some.injEq] at h;subst h
  exact⟨cs,rfl,hsz,hr⟩
 |(i,a) :: pa,pv,l,r,cs,h,hl,hp,hsz,hr=>by
  cases pv with
  |nil=>simp at hl
  |cons y pv=>
   obtain⟨i',v⟩:=y
   obtain⟨rfl,hv⟩:=hp 0 (i,a) (i',v) rfl rfl
   simp only[K9] at h
   split at h
   ·rename_i off size hpl
    split at h
    ·rename_i hc
     simp only[Bool.and_eq_true,beq_iff_eq,Nat.ble_eq] at hc
     obtain⟨⟨hna,hlen⟩,hle⟩:=hc
     obtain⟨h1,h2⟩:=sX hv hna
     have hvs:v.cells.size=size:=by rw[h1,hlen]
     have key:=BFB v.cells.toList 0 off cs (by simp;omega)
     simp only[Nat.add_zero] at key
     have hf:Instr.fill place cs ((i,v) :: pv)=Instr.fill place (cs.toList.take off ++ v.cells.toList ++ cs.toList.drop (off+size)).toArray pv:=by
      simp only[Instr.fill,hpl]
      rw[if_neg (by simp only[Bool.or_eq_true,decide_eq_true_eq];omega)]
      congr 1
      rw[<-Array.foldl_toList,Array.toList_zipIdx,key]
      simp[hvs]
     rw[hf]
     refine Jf h (by simpa using hl) (λj x y hx hy=>hp (j+1) x y hx hy) (by simp;omega) λj x y hx hy=>?_
     rw[HA hlen hle] at hx
     rw[List.getElem?_toArray,HA (by simpa using hvs) (by simpa[hsz] using hle)] at hy
     split at hx
     ·rename_i hj
      rw[if_pos hj] at hy
      exact h2 _ _ _ hx (by simpa using hy)
     ·rename_i hj
      rw[if_neg hj] at hy
      exact hr _ _ _ hx (by simpa using hy)
    ·cases h
   ·cases h
theorem Q0{place:Nat->Option (Nat×Nat)}:∀{pa:List (Nat×AVal)} {l r:List AVal},K9 place l pa=some r->r.length=l.length
 |[],l,r,h=>by simp only[K9,Option.some.injEq] at h;rw[h]
 |(i,a) :: pa,l,r,h=>by
  simp only[K9] at h
  split at h
  ·split at h
   ·rename_i hc
    simp only[Bool.and_eq_true,beq_iff_eq,Nat.ble_eq] at hc
    rw[Q0 h];simp;omega
   ·cases h
  ·cases h
def BOR(P:Program)(t:TypeId)(pa:List (Nat×AVal)):Option (AVal×List Prop):=match P.underlying t,(P.info? t).bind (·.zero) with
 |some (.struct fields),some z=>match fields.toList.mapM (λf=>(P.info? f.type).map λi=>(f.offset,i.size)) with
  |some places=>match K9 (places[·]?) (z.cells.toList.map λx=>.d (Ux x)) pa with
   |some r=>some (AFV r,[])
   |none=>none
  |none=>none
 |some (.array m e),some z=>match pa,(P.info? e).bind (·.zero) with
  |[],some ze=>if EY (ofV ze).cells1 then some (.d (.arr ze.cells.size m λ_=>ofV ze),[z.cells.toList=(List.replicate m ze.cells.toList).flatten]) else none
  |q :: pa,_=>match (P.info? e).map (·.size) with
   |some k=>match K9 (λi=>some (i*k,k)) (z.cells.toList.map λx=>.d (Ux x)) (q :: pa) with
    |some r=>some (AFV r,[])
    |none=>none
   |none=>none
  |_,_=>none
 |_,_=>none
theorem BDX{t:TypeId}{pa:List (Nat×AVal)}{parts:Array (Nat×Value)}{a:AVal}{pre:List Prop}(h:BOR P t pa=some (a,pre))(hpre:BG pre)(hl:parts.size=pa.length)
  (hp:∀(j:Nat) (x:Nat×AVal) (y:Nat×Value),pa[j]?=some x->parts[j]?=some y->x.1=y.1/\VRel B ι D x.2 y.2) (w:World) :
  ∃y,(Instr.build t parts).run P w=.ok y w/\VRel B ι D a y:=by
 unfold BOR at h
 split at h
 ·rename_i fields z hu hz
  split at h
  ·rename_i places hpl
   split at h
   ·rename_i r hf
    cases h
    obtain⟨ys,h1,h2,h3⟩:=Jf (pv:=parts.toList) (cs:=z.cells) hf (by simpa using hl) (λj x y hx hy=>hp j x y hx (by simpa using hy)) (by simp) (λj x y hx hy=>by
     simp only[List.getElem?_map,Option.map_eq_some_iff] at hx
     obtain⟨u,hu,rfl⟩:=hx
     rw[Array.getElem?_toList] at hu
     rw[hu] at hy;cases hy
     exact .d (TX _))
    refine⟨.agg ys,run_build (P:=P) w t parts ys ?_,lS h2 h3⟩
    unfold Program.built
    cases hi:P.info? t with
    |none=>simp[hi] at hz
    |some it=>
     simp[hi] at hz
     simp only[hu,hz,hpl]
     simpa using h1
   ·cases h
  ·cases h
 ·rename_i m e z hu hz
  split at h
  ·rename_i ze hze
   split at h
   case isFalse=>cases h
   rename_i hone
   cases h
   have hp':z.cells.toList=(List.replicate m ze.cells.toList).flatten:=hpre
   have:parts=#[]:=by simpa using hl
   subst this
   refine⟨.agg z.cells,run_build (P:=P) w t #[] z.cells ?_,.d (.arr ?_ ?_ ?_)⟩
   ·unfold Program.built
    cases hi:P.info? t with
    |none=>simp[hi] at hz
    |some it=>
     simp[hi] at hz
     cases hie:P.info? e with
     |none=>simp[hie] at hze
     |some ie=>simp[hu,hz,hie,Instr.fill]
   ·have:=congrArg List.length hp';simp at this;omega
   ·exact λi _=>⟨NQ ze,hone⟩
   ·intro i j x y hi hx hy
    have hlt:=(List.getElem?_eq_some_iff.1 hx).1
    rw[NQ] at hlt
    rw[<-Array.getElem?_toList,hp',FN (by simp) m i j hi (by simpa using hlt),Array.getElem?_toList] at hy
    exact oX ze j x y hx hy
  ·rename_i q pa _
   split at h
   ·rename_i k hk
    split at h
    ·rename_i r hf
     cases h
     obtain⟨ys,h1,h2,h3⟩:=Jf (pv:=parts.toList) (cs:=z.cells) hf (by simpa using hl) (λj x y hx hy=>hp j x y hx (by simpa using hy)) (by simp) (λj x y hx hy=>by
      simp only[List.getElem?_map,Option.map_eq_some_iff] at hx
      obtain⟨u,hu,rfl⟩:=hx
      rw[Array.getElem?_toList] at hu
      rw[hu] at hy;cases hy
      exact .d (TX _))
     refine⟨.agg ys,run_build (P:=P) w t parts ys ?_,lS h2 h3⟩
     unfold Program.built
     cases hi:P.info? t with
     |none=>simp[hi] at hz
     |some it=>
      simp[hi] at hz
      cases hie:P.info? e with
      |none=>simp[hie] at hk
      |some ie=>
       simp[hie] at hk
       subst hk
       simp only[hu,hz,hie]
       simpa using h1
    ·cases h
   ·cases h
  ·cases h
 ·cases h
def BKW(ds:List DVal):DVal:=match ds with
 |[d]=>d
 |ds=>.agg ds
theorem AUI{ds:List DVal}(h:EY ds=true):(BKW ds).cells1=ds:=by
 unfold BKW;split
 ·exact UG h _ (by simp)
 ·rfl
def AOM(k:Nat):Nat->List AVal->Option (List DVal)
 |0,_=>some []
 |n+1,l=>match allD (l.take k),AOM k n (l.drop k) with
  |some ds,some es=>if ds.length==k&&EY ds then some (BKW ds :: es) else none
  |_,_=>none
theorem nE{k:Nat}:∀{n:Nat} {l:List AVal} {es:List DVal},AOM k n l=some es->es.length=n/\∀(i:Nat) (e:DVal),es[i]?=some e ->
  EOk k e/\∀(j:Nat) (x:DVal),e.cells1[j]?=some x->l[i*k+j]?=some (.d x)
 |0,_,es,h=>by simp[AOM] at h;subst h;simp
 |n+1,l,es,h=>by
  simp only[AOM] at h
  split at h
  ·rename_i ds es' hd he
   split at h
   ·rename_i hc
    cases h
    simp only[Bool.and_eq_true,beq_iff_eq] at hc
    obtain⟨h1,h2⟩:=nE he
    refine⟨by simp[h1],λi e hie=>?_⟩
    have hdl:=P6 hd
    cases i with
    |zero=>
     simp at hie;subst hie
     have hcc:=AUI hc.2
     refine⟨⟨by rw[hcc];exact hc.1,by rw[hcc];exact hc.2⟩,λj x hx=>?_⟩
     rw[hcc] at hx
     have hj:=(List.getElem?_eq_some_iff.1 hx).1
     have:(l.take k)[j]?=some (.d x):=by rw[hdl];simp[hx]
     rw[List.getElem?_take,if_pos (by omega)] at this
     simpa using this
    |succ i=>
     simp at hie
     obtain⟨h3,h4⟩:=h2 i e hie
     refine⟨h3,λj x hx=>?_⟩
     have:=h4 j x hx
     rw[List.getElem?_drop] at this
     rw[Nat.succ_mul,show i*k+k+j=k+(i*k+j) by omega]
     exact this
   ·cases h
  ·cases h
def AGC:List DVal->Nat->DVal
 |[],_=>default
 |[x],_=>x
 |x :: y :: r,i=>jB (decide (i=0)) x (AGC (y :: r) (i-1))
theorem AEJ:∀(es:List DVal) (i:Nat),i<es.length->AGC es i=es.getD i default
 |[],i,h=>by simp at h
 |[x],i,h=>by
  have:i=0:=by simpa using h
  subst this;rfl
 |x :: y :: r,0,_=>by simp[AGC,SU]
 |x :: y :: r,i+1,h=>by
  have:=AEJ (y :: r) i (by simpa using h)
  simp[AGC,SU,this]
def VZ(P:Program)(r:Nat)(t:TypeId)(len:Nat)(pa:List (Nat×AVal)):Option Eff:=match P.underlying t with
 |some (.slice e)=>match (P.info? e).map (·.size),(P.info? e).bind (·.zero) with
  |some k,some z=>
   if Nat.ble (len*k) 4096&&Nat.blt 0 k&&z.cells.size==k then
    match K9 (λi=>some (i*k,k)) (List.replicate len (z.cells.toList.map λx=>AVal.d (Ux x))).flatten pa with
    |some l=>match AOM k len l with
     |some es=>some ⟨.own r k 0 len,[(r,.live (.row k len (AGC es)))],[]⟩
     |none=>none
    |none=>none
   else none
  |_,_=>none
 |_=>none
theorem lG(z:Array Value)(n k:Nat)(hk:z.size=k)(h0:0<k):((Array.range (n*k)).map λi=>z[i % z.size]!).toList=(List.replicate n z.toList).flatten:=by
 apply List.ext_getElem?
 intro j
 by_cases hj:j<n*k
 ·have hi:j / k<n:=by rw[Nat.div_lt_iff_lt_mul h0];omega
  have hm:j % k<k:=Nat.mod_lt _ h0
  have hjj:j / k*k+j % k=j:=by rw[Nat.mul_comm];exact Nat.div_add_mod j k
  have:=FN (l:=z.toList) (k:=k) (by simpa using hk) n (j / k) (j % k) hi hm
  rw[hjj] at this
  rw[this]
  simp[hj,hk,hm]
 ·rw[List.getElem?_eq_none (by simp;omega),List.getElem?_eq_none (by simp[hk];omega)]
theorem AFZ{r:Nat}{t:TypeId}{len:Nat}{pa:List (Nat×AVal)}{parts:Array (Nat×Value)}{e:Eff}(h:VZ P r t len pa=some e)(hr:H r=.none)(hH:HRel B ι H w)
  (hl:parts.size=pa.length) (hp:∀(j:Nat) (x:Nat×AVal) (y:Nat×Value),pa[j]?=some x->parts[j]?=some y->x.1=y.1/\VRel B ι H.dom x.2 y.2) :
  ∃y w',(Instr.buildSlice t len parts).run P w=.ok y w'/\OZ B ι H w (DV H e.upd) e.val y w':=by
 unfold VZ at h
 split at h
 ·rename_i el hu
  split at h
  ·rename_i k z hk hz
   split at h
   ·rename_i hc
    simp only[Bool.and_eq_true,beq_iff_eq,Nat.ble_eq,Nat.blt_eq] at hc
    obtain⟨⟨hc1,hc2⟩,hc3⟩:=hc
    split at h
    ·rename_i l hf
     split at h
     ·rename_i es he
      cases h
      obtain⟨ys,h1,h2,h3⟩:=Jf (pv:=parts.toList) (cs:=(Array.range (len*k)).map λi=>z.cells[i % z.cells.size]!) hf (by simpa using hl) (λj x y hx hy=>hp j x y hx (by simpa using hy))
       (by simp[hc3]) (λj x y hx hy=>by
        rw[<-Array.getElem?_toList,lG z.cells len k hc3 hc2] at hy
        have hlt:=(List.getElem?_eq_some_iff.1 hx).1
        simp[hc3] at hlt
        have hi:j / k<len:=by rw[Nat.div_lt_iff_lt_mul hc2];omega
        have hm:j % k<k:=Nat.mod_lt _ hc2
        have hjj:j / k*k+j % k=j:=by rw[Nat.mul_comm];exact Nat.div_add_mod j k
        rw[<-hjj,FN (by simp[hc3]) len _ _ hi hm] at hx
        rw[<-hjj,FN (by simp[hc3]) len _ _ hi hm] at hy
        simp only[List.getElem?_map,Option.map_eq_some_iff] at hx
        obtain⟨u,hu,rfl⟩:=hx
        rw[hu] at hy;cases hy
        exact .d (TX _))
      obtain⟨hn,hes⟩:=nE he
      have hlen:l.length=len*k:=by rw[Q0 hf];simp[hc3]
      have hnz:¬ len*k>2 ^ 24:=by omega
      have hkz:(sizeOf el).run P w=.ok k w:=EH hk w
      refine⟨.slice (some ⟨w.heap.size,0,none⟩) len len,w.alloc (.cells ys el),?_,?_⟩
      ·have e1:∀zz:Array Value,(len*k=0∨zz=z.cells)->Instr.fill (λi=>some (i*k,k)) (Array.map (λi=>zz[i % zz.size]!) (Array.range (len*k))) parts.toList=some ys:=by
        rintro zz (h0 | rfl)
        ·rw[h0] at h1 ⊢
         rw[show Array.range 0=#[] from rfl,Array.map_empty] at h1 ⊢;exact h1
        ·exact h1
       by_cases h0:len*k=0
       ·have h1':=e1 #[] (.inl h0)
        rw[h0] at h1'
        simp[Instr.buildSlice,run_underlying hu,hkz,h0,newRow]
        simp at h1'
        simp[h1']
       ·simp only[Instr.buildSlice,Sem.run_bind,run_underlying hu,Result.andThen_ok,hkz,if_neg hnz,if_neg h0,Sem.run_pure,lI hz,h1,newRow,run_newObj]
        simp
      ·obtain⟨B',ι',m1,m2,m3⟩:=Q8 (k:=k) (n:=len) (get:=AGC es) (cs:=ys) hr hH len el
        (λi hi=>by
         have:es[i]?=some es[i]:=by simp[hn,hi]
         have h5:=(hes i _ this).1
         rw[AEJ es i (by omega)]
         simpa[List.getD,this] using h5) (Nat.le_refl _) (by omega) (λi j x y hi hx hy=>by
         have:es[i]?=some es[i]:=by simp[hn,hi]
         refine (h3 (i*k+j) (.d x) y ((hes i _ this).2 j x ?_) hy).d_inv
         rw[AEJ es i (by omega)] at hx
         simpa[List.getD,this] using hx)
       refine⟨B',ι',m1,?_⟩
       have:=VRel.own (B:=B') (ι:=ι') (D:=(EC H r (.live (.row k len (AGC es)))).dom) (k:=k) (i:=0) (n:=len) (cap:=len) m2 (Nat.le_refl _) (by rw[m3];simp)
       rw[m3,show 0*k=0 by simp] at this;exact this
     ·cases h
    ·cases h
   ·cases h
  ·cases h
 ·cases h
def AKG(P:Program)(r:Nat)(t:TypeId)(len:Nat)(pa:List (Nat×AVal)):Option Eff:=match P.underlying t with
 |some (.slice e)=>match (P.info? e).map (·.size),(P.info? e).bind (·.zero) with
  |some k,some z=>
   if Nat.ble (len*k) 4096&&Nat.blt 0 k&&z.cells.size==k then
    match K9 (λi=>some (i*k,k)) (List.replicate len (z.cells.toList.map λx=>AVal.d (Ux x))).flatten pa with
    |some l=>some ⟨.own r k 0 len,[(r,.live (.box l))],[]⟩
    |none=>none
   else none
  |_,_=>none
 |_=>none
theorem AMG{r:Nat}{t:TypeId}{len:Nat}{pa:List (Nat×AVal)}{parts:Array (Nat×Value)}{e:Eff}(h:AKG P r t len pa=some e)(hr:H r=.none)(hH:HRel B ι H w)
  (hl:parts.size=pa.length) (hp:∀(j:Nat) (x:Nat×AVal) (y:Nat×Value),pa[j]?=some x->parts[j]?=some y->x.1=y.1/\VRel B ι H.dom x.2 y.2) :
  ∃y w',(Instr.buildSlice t len parts).run P w=.ok y w'/\OZ B ι H w (DV H e.upd) e.val y w':=by
 unfold AKG at h
 split at h
 ·rename_i el hu
  split at h
  ·rename_i k z hk hz
   split at h
   ·rename_i hc
    simp only[Bool.and_eq_true,beq_iff_eq,Nat.ble_eq,Nat.blt_eq] at hc
    obtain⟨⟨hc1,hc2⟩,hc3⟩:=hc
    split at h
    ·rename_i l hf
     cases h
     obtain⟨ys,h1,h2,h3⟩:=Jf (pv:=parts.toList) (cs:=(Array.range (len*k)).map λi=>z.cells[i % z.cells.size]!) hf (by simpa using hl) (λj x y hx hy=>hp j x y hx (by simpa using hy))
      (by simp[hc3]) (λj x y hx hy=>by
       rw[<-Array.getElem?_toList,lG z.cells len k hc3 hc2] at hy
       have hlt:=(List.getElem?_eq_some_iff.1 hx).1
       simp[hc3] at hlt
       have hi:j / k<len:=by rw[Nat.div_lt_iff_lt_mul hc2];omega
       have hm:j % k<k:=Nat.mod_lt _ hc2
       have hjj:j / k*k+j % k=j:=by rw[Nat.mul_comm];exact Nat.div_add_mod j k
       rw[<-hjj,FN (by simp[hc3]) len _ _ hi hm] at hx
       rw[<-hjj,FN (by simp[hc3]) len _ _ hi hm] at hy
       simp only[List.getElem?_map,Option.map_eq_some_iff] at hx
       obtain⟨u,hu,rfl⟩:=hx
       rw[hu] at hy;cases hy
       exact .d (TX _))
     have hlen:l.length=len*k:=by rw[Q0 hf];simp[hc3]
     have hnz:¬ len*k>2 ^ 24:=by omega
     have hkz:(sizeOf el).run P w=.ok k w:=EH hk w
     refine⟨.slice (some ⟨w.heap.size,0,none⟩) len len,w.alloc (.cells ys el),?_,?_⟩
     ·have e1:∀zz:Array Value,(len*k=0∨zz=z.cells)->Instr.fill (λi=>some (i*k,k)) (Array.map (λi=>zz[i % zz.size]!) (Array.range (len*k))) parts.toList=some ys:=by
       rintro zz (h0 | rfl)
       ·rw[h0] at h1 ⊢
        rw[show Array.range 0=#[] from rfl,Array.map_empty] at h1 ⊢;exact h1
       ·exact h1
      by_cases h0:len*k=0
      ·have h1':=e1 #[] (.inl h0)
       rw[h0] at h1'
       simp[Instr.buildSlice,run_underlying hu,hkz,h0,newRow]
       simp at h1'
       simp[h1']
      ·simp only[Instr.buildSlice,Sem.run_bind,run_underlying hu,Result.andThen_ok,hkz,if_neg hnz,if_neg h0,Sem.run_pure,lI hz,h1,newRow,run_newObj]
       simp
     ·refine⟨B,Tj ι r ⟨w.heap.size,len⟩,Moved.new hH hr (.box (by omega) λj x y hx hy=>(h3 j x y hx hy).mono (λ_ _ h=>h) (BMW hr)),?_⟩
      have:=VRel.own (B:=B) (ι:=Tj ι r ⟨w.heap.size,len⟩) (D:=(EC H r (.live (.box l))).dom) (id:=r) (k:=k) (i:=0) (n:=len) (cap:=len) (dW _) (Nat.le_refl _) (by rw[EI];simp)
      rw[EI,show 0*k=0 by simp] at this;exact this
    ·cases h
   ·cases h
  ·cases h
 ·cases h
theorem vO{r:Nat}{t:TypeId}{len:Nat}{pa:List (Nat×AVal)}{parts:Array (Nat×Value)}{e:Eff}(h:VZ P r t len pa=some e)(hH:HRel B ι H w)
  (hl:parts.size=pa.length) (hp:∀(j:Nat) (x:Nat×AVal) (y:Nat×Value),pa[j]?=some x->parts[j]?=some y->x.1=y.1/\VRel B ι H.dom x.2 y.2) :
  ∃k n get y w',e=⟨.own r k 0 n,[(r,.live (.row k n get))],[]⟩/\(Instr.buildSlice t len parts).run P w=.ok y w'/\OZ B ι H w H (.d (.list k n get true)) y w':=by
 unfold VZ at h
 split at h
 ·rename_i el hu
  split at h
  ·rename_i k z hk hz
   split at h
   ·rename_i hc
    simp only[Bool.and_eq_true,beq_iff_eq,Nat.ble_eq,Nat.blt_eq] at hc
    obtain⟨⟨hc1,hc2⟩,hc3⟩:=hc
    split at h
    ·rename_i l hf
     split at h
     ·rename_i es he
      cases h
      obtain⟨ys,h1,h2,h3⟩:=Jf (pv:=parts.toList) (cs:=(Array.range (len*k)).map λi=>z.cells[i % z.cells.size]!) hf (by simpa using hl) (λj x y hx hy=>hp j x y hx (by simpa using hy))
       (by simp[hc3]) (λj x y hx hy=>by
        rw[<-Array.getElem?_toList,lG z.cells len k hc3 hc2] at hy
        have hlt:=(List.getElem?_eq_some_iff.1 hx).1
        simp[hc3] at hlt
        have hi:j / k<len:=by rw[Nat.div_lt_iff_lt_mul hc2];omega
        have hm:j % k<k:=Nat.mod_lt _ hc2
        have hjj:j / k*k+j % k=j:=by rw[Nat.mul_comm];exact Nat.div_add_mod j k
        rw[<-hjj,FN (by simp[hc3]) len _ _ hi hm] at hx
        rw[<-hjj,FN (by simp[hc3]) len _ _ hi hm] at hy
        simp only[List.getElem?_map,Option.map_eq_some_iff] at hx
        obtain⟨u,hu,rfl⟩:=hx
        rw[hu] at hy;cases hy
        exact .d (TX _))
      obtain⟨hn,hes⟩:=nE he
      have hlen:l.length=len*k:=by rw[Q0 hf];simp[hc3]
      have hnz:¬ len*k>2 ^ 24:=by omega
      have hkz:(sizeOf el).run P w=.ok k w:=EH hk w
      refine⟨k,len,AGC es,.slice (some ⟨w.heap.size,0,none⟩) len len,w.alloc (.cells ys el),rfl,?_,?_⟩
      ·have e1:∀zz:Array Value,(len*k=0∨zz=z.cells)->Instr.fill (λi=>some (i*k,k)) (Array.map (λi=>zz[i % zz.size]!) (Array.range (len*k))) parts.toList=some ys:=by
        rintro zz (h0 | rfl)
        ·rw[h0] at h1 ⊢
         rw[show Array.range 0=#[] from rfl,Array.map_empty] at h1 ⊢;exact h1
        ·exact h1
       by_cases h0:len*k=0
       ·have h1':=e1 #[] (.inl h0)
        rw[h0] at h1'
        simp[Instr.buildSlice,run_underlying hu,hkz,h0,newRow]
        simp at h1'
        simp[h1']
       ·simp only[Instr.buildSlice,Sem.run_bind,run_underlying hu,Result.andThen_ok,hkz,if_neg hnz,if_neg h0,Sem.run_pure,lI hz,h1,newRow,run_newObj]
        simp
      ·have hget:∀i,i<len->es[i]?=some (AGC es i):=λi hi=>by
        have:es[i]?=some es[i]:=by simp[hn,hi]
        rw[AEJ es i (by omega),List.getD_eq_getElem?_getD,this];rfl
       refine⟨_,ι,Moved.newImm hH ys el,.d ?_⟩
       rcases Nat.eq_zero_or_pos len with h0 | h0
       ·subst h0;exact .nil (λ_=>rfl) (.inl rfl)
       ·refine .list (c:=ys) h0 (by simp) (Nat.le_refl _) (λ_=>rfl) (λi hi=>(hes i _ (hget i hi)).1) (by omega) λi j x y hi hx hy=>?_
        rw[Nat.zero_add] at hy
        exact ((h3 (i*k+j) (.d x) y ((hes i _ (hget i hi)).2 j x hx) hy).d_inv).mono (Moved.newImm hH ys el).bm
     ·cases h
    ·cases h
   ·cases h
  ·cases h
 ·cases h
end Go.Sym
namespace Go.Sym
variable {P : Program} {B B' : Ft} {ι ι' : Nat -> Pl} {H H' : Heap} {D : Nat -> Prop} {w w' : World}
def srcA(H:Heap):AVal->Option (Nat×Nat×(Nat->DVal)×Prop)
 | .own id k j m=>match H id with
  | .live (.row k' n get)=>if k==k' then some (k,m,λi=>get (j+i),j+m<=n) else none
  |_=>none
 | .d (.list k m get _)=>some (k,m,get,True)
 |_=>none
structure Src(B:Ft)(w:World)(k m:Nat)(get:Nat->DVal)(v:Value)(base:Option Addr)(cap:Nat)(news:List Value):Prop where
 val:v=.slice base m cap
 len:news.length=m*k
 some:0<m->∃b o,base=some ⟨b,o,none⟩
 cells:∀a,base=Option.some a->∀(j:Nat) (u:Value),news[j]?=Option.some u->w.cell? (a.add j)=Option.some u
 rel:∀(i j:Nat) (x:DVal) (y:Value),i<m->(get i).cells1[j]?=Option.some x->news[i*k+j]?=Option.some y->DRel B x y
 ok:∀i,i<m->EOk k (get i)
theorem Fx{α:Type}{l:List α}{o n j:Nat}(hj:j<n):((l.drop o).take n)[j]?=l[o+j]?:=by
 rw[List.getElem?_take,if_pos hj,List.getElem?_drop]
theorem oK{x:AVal}{k m:Nat}{get:Nat->DVal}{pre:Prop}{v:Value}(h:srcA H x=some (k,m,get,pre))(hp:pre)(hv:VRel B ι H.dom x v)(hH:HRel B ι H w) :
  ∃base cap news,Src B w k m get v base cap news:=by
 have hadd:∀b o j,(⟨b,o,none⟩:Addr).add j=⟨b,o+j,none⟩:=λb o j=>WQ b o j
 unfold srcA at h
 split at h
 ·rename_i id k0 j m0
  split at h
  ·rename_i k' n get0 hid
   split at h
   ·rename_i hk
    have hk:k0=k':=by simpa using hk
    subst hk
    simp only[Option.some.injEq,Prod.mk.injEq] at h
    obtain⟨rfl,rfl,rfl,rfl⟩:=h
    cases hv
    rename_i cap hD hcap hq
    have ho:=hH.obj _ _ hid
    generalize hq':w.heap[(ι id).b]?=q at ho
    cases ho with
    |row hkk hn hsz hrel=>
     rename_i c e
     have h1:(j+m0)*k0<=n*k0:=Nat.mul_le_mul_right k0 hp
     have h2:n*k0<=(ι id).cap*k0:=Nat.mul_le_mul_right k0 hn
     have h3:(j+m0)*k0=j*k0+m0*k0:=Nat.add_mul j m0 k0
     refine⟨_,_,(c.toList.drop (j*k0)).take (m0*k0),rfl,by simp;omega,λ_=>⟨_,_,rfl⟩,?_,?_,λi hi=>hkk _ (by omega)⟩
     ·rintro a ha l u hu
      cases ha
      rw[hadd,IZ hq']
      have hl:=(List.getElem?_eq_some_iff.1 hu).1
      simp at hl
      rw[Fx (by omega)] at hu
      simpa using hu
     ·intro i l x y hi hx hy
      have hlt:=(List.getElem?_eq_some_iff.1 hx).1
      rw[(hkk (j+i) (by omega)).len] at hlt
      have h4:(i+1)*k0<=m0*k0:=Nat.mul_le_mul_right k0 hi
      have h5:(i+1)*k0=i*k0+k0:=Nat.succ_mul i k0
      have h6:(j+i)*k0=j*k0+i*k0:=Nat.add_mul j i k0
      rw[Fx (by omega)] at hy
      refine hrel (j+i) l x y (by omega) hx ?_
      rw[h6,Nat.add_assoc];simpa using hy
   ·cases h
  ·cases h
 ·rename_i k0 m0 get0 ex
  simp only[Option.some.injEq,Prod.mk.injEq] at h
  obtain⟨rfl,rfl,rfl,rfl⟩:=h
  cases hv with
  |d hd=>
   cases hd with
   |nil hex hbase=>
    exact⟨_,_,[],rfl,by simp,λh=>absurd h (Nat.lt_irrefl 0),λ_ _ _ _ h=>by simp at h,λ_ _ _ _ h=>absurd h (Nat.not_lt_zero _),λ_ h=>absurd h (Nat.not_lt_zero _)⟩
   |list hn hb hcap hex hkk hsz hrel=>
    rename_i b off cap c
    obtain⟨e,fr,hq⟩:=hH.imm _ _ hb
    refine⟨_,_,(c.toList.drop off).take (m0*k0),rfl,by simp;omega,λ_=>⟨_,_,rfl⟩,?_,?_,hkk⟩
    ·rintro a ha l u hu
     cases ha
     rw[hadd,IZ hq]
     have hl:=(List.getElem?_eq_some_iff.1 hu).1
     simp at hl
     rw[Fx (by omega)] at hu
     simpa using hu
    ·intro i l x y hi hx hy
     have hlt:=(List.getElem?_eq_some_iff.1 hx).1
     rw[(hkk i hi).len] at hlt
     have h4:(i+1)*k0<=m0*k0:=Nat.mul_le_mul_right k0 hi
     have h5:(i+1)*k0=i*k0+k0:=Nat.succ_mul i k0
     rw[Fx (by omega)] at hy
     refine hrel i l x y hi hx ?_
     rw[Nat.add_assoc];simpa using hy
 ·cases h
theorem COI{k m:Nat}{get:Nat->DVal}{v:Value}{base:Option Addr}{cap:Nat}{news:List Value}(h:Src B w k m get v base cap news)(hk:0<k):∀u∈news,u.oneCell'=true:=by
 intro u hu
 obtain⟨j,hj,rfl⟩:=List.getElem_of_mem hu
 have hl:=h.len
 have hi:j / k<m:=by rw[Nat.div_lt_iff_lt_mul hk];omega
 have hm:j % k<k:=Nat.mod_lt _ hk
 have hjj:j / k*k+j % k=j:=by rw[Nat.mul_comm];exact Nat.div_add_mod j k
 have hlt:j % k<(get (j / k)).cells1.length:=by rw[(h.ok _ hi).len];exact hm
 have:=h.rel (j / k) (j % k) (get (j / k)).cells1[j % k] news[j] hi (by simp) (by rw[hjj];simp)
 exact Bc (B:=B) (ι:=λ_=>⟨0,0⟩) (D:=λ_=>True) (UJ (h.ok _ hi).one _ (List.getElem_mem hlt)) (.d this)
def catD(n:Nat)(get LF:Nat->DVal):Nat->DVal:=λi=>jB (decide (i<n)) (get i) (LF (i-n))
theorem ARG{k n m:Nat}{get LF:Nat->DVal}{olds news:List Value}(ho:olds.length=n*k)(hok1:∀i,i<n->EOk k (get i))(hok2:∀i,i<m->EOk k (LF i))
  (h1:∀(i j:Nat) (x:DVal) (y:Value),i<n->(get i).cells1[j]?=some x->olds[i*k+j]?=some y->DRel B x y)
  (h2:∀(i j:Nat) (x:DVal) (y:Value),i<m->(LF i).cells1[j]?=some x->news[i*k+j]?=some y->DRel B x y) (rest:List Value) (hn:news.length=m*k) :
  (∀i,i<n+m->EOk k (catD n get LF i)) /\
   ∀(i j:Nat) (x:DVal) (y:Value),i<n+m->(catD n get LF i).cells1[j]?=some x->(olds ++ news ++ rest)[i*k+j]?=some y->DRel B x y:=by
 have hok:∀i,i<n+m->EOk k (catD n get LF i):=λi hi=>by
  unfold catD;rw[SU]
  by_cases h:i<n
  ·simp only[h,decide_true,cond_true];exact hok1 i h
  ·simp only[h,decide_false,cond_false];exact hok2 _ (by omega)
 refine⟨hok,λi j x y hi hx hy=>?_⟩
 have hlt:=(List.getElem?_eq_some_iff.1 hx).1
 rw[(hok i hi).len] at hlt
 unfold catD at hx;rw[SU] at hx
 by_cases h:i<n
 ·simp only[h,decide_true,cond_true] at hx
  have h3:(i+1)*k<=n*k:=Nat.mul_le_mul_right k h
  have h4:(i+1)*k=i*k+k:=Nat.succ_mul i k
  rw[List.append_assoc,List.getElem?_append_left (by omega)] at hy
  exact h1 i j x y h hx hy
 ·simp only[h,decide_false,cond_false] at hx
  obtain⟨q,rfl⟩:∃q,i=n+q:=⟨i-n,by omega⟩
  have hq:q<m:=by omega
  have h3:(q+1)*k<=m*k:=Nat.mul_le_mul_right k hq
  have h4:(q+1)*k=q*k+k:=Nat.succ_mul q k
  have h5:(n+q)*k=n*k+q*k:=Nat.add_mul n q k
  rw[List.getElem?_append_left (by simp;omega),List.getElem?_append_right (by omega),show (n+q)*k+j-olds.length=q*k+j by omega] at hy
  rw[show n+q-n=q by omega] at hx
  exact h2 q j x y hq hx hy
def dstA(H:Heap):AVal->Option (Option Nat×Nat×Nat×(Nat->DVal)×Prop)
 | .d (.list k n get true)=>some (none,k,n,get,True)
 | .own id k 0 n=>match H id with
  | .live (.row k' n' get)=>if k==k' then some (some id,k,n,get,n=n') else none
  |_=>none
 |_=>none
def AMJ(P:Program)(H:Heap)(r:Nat)(mt:Bool)(t t2:TypeId)(s x:AVal):Option Eff:=
 if t==t2 then match P.underlying t with
  |some (.slice e)=>match (P.info? e).map (·.size),(P.info? e).map (·.bytes),(P.info? e).bind (·.zero),dstA H s,srcA H x with
   |some k,some bytes,some z,some (oid,k1,n,get,p1),some (k2,m,LF,p2)=>
    if (oid.isNone||k1==k)&&Nat.blt 0 k&&z.cells.size==k then
     some ⟨if mt then .own r k 0 (n+m) else .d (.list k (n+m) (catD n get LF) (Nat.beq m 0&&oid.isNone)),
      (match oid with | some id=>[(id,HCell.dead)] | none=>[]) ++ (if mt then [(r,HCell.live (.row k (n+m) (catD n get LF)))] else []),
      [(p1/\(0<n->k1=k))/\(p2/\(0<m->k2=k))/\((mt&&oid.isNone)=true->0<m)/\n+m<=9223372036854775807/\(n+m)*bytes<=140737488355328]⟩
    else none
   |_,_,_,_,_=>none
  |_=>none
 else none
theorem ATT{t ty e:TypeId}{i:TypeInfo}{z:Value}(ht:P.underlying t=some (.slice e))(hi:P.info? e=some i)(hz:i.zero=some z){k n m cap c2:Nat}(hk:i.size=k)
  {base base2:Option Addr} {olds news:List Value} (hlo:olds.length=n*k) (ho:∀a,base=some a->∀(j:Nat) (u:Value),olds[j]?=some u->w.cell? (a.add j)=some u) (hb0:0<n->base≠none)
  (hcap:n<=cap) (hb1:base=none->cap=0) (hln:news.length=m*k) (hn:∀a,base2=some a->∀(j:Nat) (u:Value),news[j]?=some u->w.cell? (a.add j)=some u) (hb2:0<m->base2≠none)
  (h63:n+m<=9223372036854775807) (hby:(n+m)*i.bytes<=140737488355328) :
  (m=0/\(Builtin.append_ #[t,t] ty #[.slice base n cap,.slice base2 m c2]).run P w=.ok (.slice base n cap) w) ∨
  (0<m/\n+m<=cap) ∨
  (0<m/\∃q,n+m<=q/\(Builtin.append_ #[t,t] ty #[.slice base n cap,.slice base2 m c2]).run P w =
   .ok (.slice (some ⟨w.heap.size,0,none⟩) (n+m) q) (w.drew.alloc (.cells (olds ++ news ++ (Builtin.zeroCells z.cells (q-(n+m))).toList).toArray e))):=by
 subst hk
 rcases Nat.eq_zero_or_pos m with rfl | hm
 ·left
  refine⟨rfl,?_⟩
  cases base with
  |none=>cases base2<;>simp[Builtin.append_,run_underlying ht,sizeOf,typeInfo,hi,Builtin.lenOf,hcap,Builtin.firstCells,loadCells,loadCellsFrom]
  |some a=>cases base2<;>simp[Builtin.append_,run_underlying ht,sizeOf,typeInfo,hi,Builtin.lenOf,hcap,Builtin.firstCells,loadCells,loadCellsFrom,storeCells]
 ·right
  by_cases hroom:n+m<=cap
  ·exact .inl ⟨hm,hroom⟩
  ·right
   refine⟨hm,?_⟩
   obtain⟨a2,ha2⟩:=Option.ne_none_iff_exists'.1 (hb2 hm)
   subst ha2
   cases base with
   |none=>
    have hc:=hb1 rfl
    have hn0:n=0:=by omega
    subst hn0;subst hc
    have hol:olds=[]:=by simpa using hlo
    subst hol
    have:=run_append_nil (P:=P) w t ty e i z ht hi hz a2 m c2 news hln (hn a2 rfl) hm (by omega) (by simp at hby;omega)
    refine⟨grownCap w m 0 e,by simpa using grownCap_ge w m 0 e,?_⟩
    simp only[Nat.zero_add,List.nil_append]
    rw[this]
    congr 2
    simp
   |some a=>
    have:=run_append_grow (P:=P) w t ty e i z ht hi hz a n cap olds hlo (ho a rfl) a2 m c2 news hln (hn a2 rfl) (by omega) (by omega) (growslice_fits (by omega) hby)
    refine⟨grownCap w (n+m) cap e,grownCap_ge _ _ _ _,?_⟩
    rw[this]
    congr 2
    simp
end Go.Sym
namespace Go.Sym
variable {P : Program} {B B' : Ft} {ι ι' : Nat -> Pl} {H H' : Heap} {D : Nat -> Prop} {w w' : World}
theorem AHR(H:Heap)(i:Nat)(a b:HCell):EC (EC H i a) i b=EC H i b:=by
 funext j;unfold EC;split<;>rfl
theorem Moved.rename(h:HRel B ι H w){id r:Nat}{o:AObj}(hid:H id=.live o)(hr:H r=.none) :
  Moved B ι H w B (Tj ι r (ι id)) (EC (EC H id .dead) r (.live o)) w:=by
 have hne:id≠r:=λe=>by rw[e,hr] at hid;cases hid
 have hdr:∀i,H.dom i->i≠r:=λi hi he=>hi (he ▸ hr)
 have im:∀i,H.dom i->(EC (EC H id .dead) r (.live o)).dom i/\Tj ι r (ι id) i=ι i:=λi hi=>⟨by
  unfold Heap.dom;rw[HL _ _ (hdr i hi)]
  unfold EC;split
  ·simp
  ·exact hi,Jx _ _ (hdr i hi)⟩
 have live:∀i o',EC (EC H id .dead) r (.live o) i=.live o'->(i=r/\o'=o)∨(i≠r/\i≠id/\H i=.live o'):=λi o' hi=>by
  by_cases hir:i=r
  ·subst hir;rw[HM] at hi;cases hi;exact .inl ⟨rfl,rfl⟩
  ·rw[HL _ _ hir] at hi
   by_cases hii:i=id
   ·subst hii;rw[HM] at hi;cases hi
   ·rw[HL _ _ hii] at hi;exact .inr ⟨hir,hii,hi⟩
 refine⟨λ_ _ h=>h,λ_ _ h=>.inl h,im,⟨?_,?_,?_,h.imm⟩,?_,λ_ _ _=>rfl,Nat.le_refl _,⟨rfl,rfl,rfl⟩⟩
 ·intro i o' hi
  rcases live i o' hi with⟨rfl,rfl⟩ | ⟨h1,_,h3⟩
  ·rw[EI];exact (h.obj _ _ hid).mono (λ_ _ h=>h) im
  ·rw[Jx _ _ h1];exact (h.obj _ _ h3).mono (λ_ _ h=>h) im
 ·intro i j o1 o2 hi hj hij
  rcases live i o1 hi with⟨rfl,rfl⟩ | ⟨h1,h2,h3⟩<;>rcases live j o2 hj with⟨rfl,rfl⟩ | ⟨h4,h5,h6⟩
  ·rfl
  ·rw[EI,Jx _ _ h4] at hij
   exact absurd (h.inj _ _ _ _ hid h6 hij).symm h5
  ·rw[EI,Jx _ _ h1] at hij
   exact absurd (h.inj _ _ _ _ h3 hid hij) h2
  ·rw[Jx _ _ h1,Jx _ _ h4] at hij
   exact h.inj _ _ _ _ h3 h6 hij
 ·intro i o' hi
  rcases live i o' hi with⟨rfl,rfl⟩ | ⟨h1,h2,h3⟩
  ·rw[EI];exact h.sep _ _ hid
  ·rw[Jx _ _ h1];exact h.sep _ _ h3
 ·intro i o' hi
  rcases live i o' hi with⟨rfl,rfl⟩ | ⟨h1,h2,h3⟩
  ·exact .inl ⟨id,_,hid,by rw[EI]⟩
  ·exact .inl ⟨i,_,h3,by rw[Jx _ _ h1]⟩
theorem Q5{n:Nat}{get LF:Nat->DVal}{i:Nat}(h:i<n):catD n get LF i=get i:=by
 unfold catD;rw[SU];simp[h]
theorem BWF{s:AVal}{k n:Nat}{get:Nat->DVal}{p:Prop}(h:dstA H s=some (none,k,n,get,p)):s=.d (.list k n get true):=by
 unfold dstA at h
 split at h
 ·simp only[Option.some.injEq,Prod.mk.injEq,true_and] at h
  obtain⟨rfl,rfl,rfl,_⟩:=h;rfl
 ·split at h
  ·split at h<;>simp at h
  ·cases h
 ·cases h
theorem BWG{s:AVal}{id k n:Nat}{get:Nat->DVal}{p:Prop}(h:dstA H s=some (some id,k,n,get,p))(hp:p):s=.own id k 0 n/\H id=.live (.row k n get):=by
 unfold dstA at h
 split at h
 ·simp at h
 ·split at h
  ·split at h
   ·rename_i hk
    simp only[Option.some.injEq,Prod.mk.injEq] at h
    obtain⟨rfl,rfl,rfl,rfl,rfl⟩:=h
    have hk:=eq_of_beq hk
    have hp:_=_:=hp
    subst hk;subst hp
    exact⟨rfl,by assumption⟩
   ·cases h
  ·cases h
 ·cases h
theorem AHI{t ty e te:TypeId}{i:TypeInfo}(ht:P.underlying t=some (.slice e))(hi:P.info? e=some i){g sLen sCap:Nat}{cur:Array Value}(hg:w.heap[g]?=some (.cells cur te (0,0)))
  {a:Addr} {m c:Nat} {news:List Value} (hl:news.length=m*i.size) (hnews:∀(j:Nat) (u:Value),news[j]?=some u->w.cell? (a.add j)=some u) (h1:∀u∈news,u.oneCell'=true)
  (hroom:sLen+m<=sCap) (hfit:sLen*i.size+news.length<=cur.size) :
  (Builtin.append_ #[t,t] ty #[.slice (some ⟨g,0,none⟩) sLen sCap,.slice (some a) m c]).run P w =
   .ok (.slice (some ⟨g,0,none⟩) (sLen+m) sCap) (w.setRow g (cur.toList.take (sLen*i.size) ++ news ++ cur.toList.drop (sLen*i.size+news.length)).toArray):=by
 have hf:=run_firstCells_some (P:=P) w i.size m a m c news hl hnews
 have hst:=run_storeCells_at P g (sLen*i.size) te news 0 cur w hg (by simpa using hfit) h1
 simp only[Nat.add_zero] at hst
 simp[Builtin.append_,run_underlying ht,sizeOf,typeInfo,hi,Builtin.lenOf,hroom,hf,Addr.add_lit,hst]
theorem Xq{v:AVal}{y:Value}(hm:Moved B ι H w B' ι' H' w')(hv:VRel B' ι' H'.dom v y):OZ B ι H w H' v y w':=⟨B',ι',hm,hv⟩
theorem AUE{r:Nat}{mt:Bool}{t t2 ty:TypeId}{s x:AVal}{sv xv:Value}{e:Eff}(h:AMJ P H r mt t t2 s x=some e)(hp:BG e.pre)(hr:H r=.none)(hH:HRel B ι H w)
  (hs:VRel B ι H.dom s sv) (hx:VRel B ι H.dom x xv):∃y w',(Builtin.append_ #[t,t2] ty #[sv,xv]).run P w=.ok y w'/\OZ B ι H w (DV H e.upd) e.val y w':=by
 unfold AMJ at h
 split at h
 case isFalse=>cases h
 rename_i htt
 have htt:=eq_of_beq htt
 subst htt
 split at h
 case h_2=>cases h
 rename_i el hu
 split at h
 case h_2=>cases h
 rename_i k bytes z oid k1 n get p1 k2 m LF p2 hk hby hz hd hsrc
 split at h
 case isFalse=>cases h
 rename_i hc
 simp only[Bool.and_eq_true,Bool.or_eq_true,beq_iff_eq,Nat.blt_eq] at hc
 obtain⟨⟨hkk,hk0⟩,hzk⟩:=hc
 cases h
 obtain⟨⟨hp1,hk1⟩,⟨hp2,hk2⟩,hmt',h63,hb⟩:=hp
 have hmt:mt=true->oid=none->0<m:=λh1 h2=>hmt' (by rw[h1,h2];rfl)
 obtain⟨i,hi⟩:∃i,P.info? el=some i:=by
  cases hi:P.info? el with
  |none=>simp[hi] at hk
  |some i=>exact⟨i,rfl⟩
 simp only[hi,Option.map_some,Option.some.injEq,Option.bind_some] at hk hby hz
 subst hby
 obtain⟨base2,c2,news,src⟩:=oK hsrc hp2 hx hH
 have hxv:=src.val
 subst hxv
 have hnl:news.length=m*k:=by
  rw[src.len]
  rcases Nat.eq_zero_or_pos m with h0 | h0
  ·simp[h0]
  ·rw[hk2 h0]
 have hokS:∀i,i<m->EOk k (LF i):=λi hi=>by rw[<-hk2 (by omega)];exact src.ok i hi
 have hrelS:∀(i j:Nat) (x:DVal) (y:Value),i<m->(LF i).cells1[j]?=some x->news[i*k+j]?=some y->DRel B x y:=λi j x y hi hx hy=>by
  rw[<-hk2 (by omega)] at hy;exact src.rel i j x y hi hx hy
 have hb2:0<m->base2≠none:=λh0=>by obtain⟨b,o,rfl⟩:=src.some h0;simp
 have hone:∀u∈news,u.oneCell'=true:=λu hu=>by
  have h0:0<m:=by
   rcases Nat.eq_zero_or_pos m with h0 | h0
   ·subst h0;simp at hnl;subst hnl;simp at hu
   ·exact h0
  exact COI src (by rw[hk2 h0];exact hk0) u hu
 have hadd:∀b o j,(⟨b,o,none⟩:Addr).add j=⟨b,o+j,none⟩:=λb o j=>WQ b o j
 have hmul:∀q,n+m<=q->n*k+m*k<=q*k:=λq hq=>by rw[<-Nat.add_mul];exact Nat.mul_le_mul_right k hq
 cases oid with
 |none=>
  have hsd:=BWF hd
  subst hsd
  -- the slice's cells
  obtain⟨base,cap,olds,hsv,hlo,ho,hb0,hcap,hb1,hok1,hrel1⟩:∃(base:Option Addr) (cap:Nat) (olds:List Value),sv=.slice base n cap/\olds.length=n*k /\
    (∀a,base=some a->∀(j:Nat) (u:Value),olds[j]?=some u->w.cell? (a.add j)=some u)/\(0<n->base≠none)/\cap=n/\(base=none->cap=0)/\(∀i,i<n->EOk k (get i)) /\
    (∀(i j:Nat) (x:DVal) (y:Value),i<n->(get i).cells1[j]?=some x->olds[i*k+j]?=some y->DRel B x y):=by
   have hss:srcA H (.d (.list k1 n get true))=some (k1,n,get,True):=rfl
   obtain⟨base,cap,olds,so⟩:=oK hss trivial hs hH
   have hcap:cap=n:=by
    have:=so.val;subst this
    cases hs.d_inv with
    |nil h1 h2=>exact h1 rfl
    |list _ _ _ h1 _ _ _=>exact h1 rfl
   refine⟨base,cap,olds,so.val,?_,so.cells,λh0=>by obtain⟨b,o,rfl⟩:=so.some h0;simp,hcap,λhb=>?_,λi hi=>by rw[<-hk1 (by omega)];exact so.ok i hi,
    λi j x y hi hx hy=>by rw[<-hk1 (by omega)] at hy;exact so.rel i j x y hi hx hy⟩
   ·rw[so.len]
    rcases Nat.eq_zero_or_pos n with h0 | h0
    ·simp[h0]
    ·rw[hk1 h0]
   ·rcases Nat.eq_zero_or_pos n with h0 | h0
    ·omega
    ·obtain⟨b,o,hbo⟩:=so.some h0;rw[hbo] at hb;cases hb
  subst hsv
  rcases ATT (P:=P) (ty:=ty) (m:=m) (c2:=c2) hu hi hz hk hlo ho hb0 (by omega) hb1 hnl src.cells hb2 h63 hb with⟨h0,hrun⟩ | ⟨h0,h1⟩ | ⟨h0,q,hq,hrun⟩
  ·subst h0
   cases mt with
   |true=>exact absurd (hmt rfl rfl) (Nat.lt_irrefl 0)
   |false=>
    refine⟨_,_,hrun,Xq (Moved.refl hH) ?_⟩
    simp only[Bool.false_eq_true,if_false,List.append_nil,Nat.add_zero]
    refine .d ?_
    rcases Nat.eq_zero_or_pos n with hn | hn
    ·subst hn
     exact .nil (λ_=>hcap) (.inl hcap)
    ·cases hs.d_inv with
     |nil _ _=>omega
     |list a b c d hke f g=>
      have:k1=k:=hk1 hn
      subst this
      exact .list hn b c (λ_=>hcap) (λi hi=>by rw[Q5 hi];exact hke i hi) f λi j x y hi hx hy=>by rw[Q5 hi] at hx;exact g i j x y hi hx hy
  ·omega
  ·obtain⟨hok,hrel⟩:=ARG (B:=B) (n:=n) (m:=m) hlo hok1 hokS hrel1 hrelS (Builtin.zeroCells z.cells (q-(n+m))).toList hnl
   have hHd:HRel B ι H w.drew:=(Moved.drew hH _).heap
   have hsz:q*k<=(olds ++ news ++ (Builtin.zeroCells z.cells (q-(n+m))).toList).toArray.size:=by
    simp[size_zeroCells,hlo,hnl,hzk]
    rw[<-Nat.add_mul,<-Nat.add_mul];exact Nat.mul_le_mul_right k (by omega)
   cases mt with
   |true=>
    refine⟨_,_,hrun,?_⟩
    obtain⟨B1,ι1,m1,m2,m3⟩:=Q8 (w:=w.drew) hr hHd q el hok hq hsz (λi j x y hi hx hy=>hrel i j x y hi hx (by simpa using hy))
    refine Xq ((Moved.drew hH _).trans m1) ?_
    have:=VRel.own (B:=B1) (ι:=ι1) (k:=k) (i:=0) (n:=n+m) (cap:=q) m2 hq (by rw[m3];simp)
    rw[m3,show 0*k=0 by simp] at this;exact this
   |false=>
    refine⟨_,_,hrun,Xq ((Moved.drew hH _).trans (Moved.newImm hHd _ el)) (.d (.list (c:=(olds ++ news ++ (Builtin.zeroCells z.cells (q-(n+m))).toList).toArray) (by omega) ?_ hq (λhh=>by
     rw[Bool.and_eq_true] at hh
     have:=Nat.eq_of_beq_eq_true hh.1
     omega) hok ?_ ?_))⟩
    ·simp
    ·have:=hmul q hq
     rw[<-Nat.add_mul] at this;omega
    ·exact λi j x y hi hx hy=>(hrel i j x y hi hx (by simpa using hy)).mono (Moved.newImm hHd _ el).bm
 |some id=>
  obtain⟨hse,hid⟩:=BWG hd hp1
  subst hse
  have hkk:k1=k:=by simpa using hkk
  subst hkk
  cases hs
  rename_i cap hD hq hcap
  simp only[Nat.zero_mul] at ⊢
  have hq:cap<=(ι id).cap:=by omega
  have hne:id≠r:=λe=>by rw[e,hr] at hid;cases hid
  obtain⟨c,te,hcells,_,hncap,hcsz,hok1,hrel1⟩:=Moved.freeze hH hid
  have hncap2:n*k1<=(ι id).cap*k1:=Nat.mul_le_mul_right k1 hncap
  have hlo:(c.toList.take (n*k1)).length=n*k1:=by simp;omega
  have ho:∀a,(some (⟨(ι id).b,0,none⟩:Addr))=some a->∀(j:Nat) (u:Value),(c.toList.take (n*k1))[j]?=some u->w.cell? (a.add j)=some u:=by
   rintro a ha j u hu
   cases ha
   rw[hadd,IZ hcells,Nat.zero_add]
   rw[List.getElem?_take] at hu
   split at hu
   ·simpa using hu
   ·cases hu
  have hrelo:∀(i j:Nat) (x:DVal) (y:Value),i<n->(get i).cells1[j]?=some x->(c.toList.take (n*k1))[i*k1+j]?=some y->DRel B x y:=λi j x y hi hx hy=>by
   have hlt:=(List.getElem?_eq_some_iff.1 hx).1
   rw[(hok1 i hi).len] at hlt
   have h3:(i+1)*k1<=n*k1:=Nat.mul_le_mul_right k1 hi
   have h4:(i+1)*k1=i*k1+k1:=Nat.succ_mul i k1
   rw[List.getElem?_take,if_pos (by omega)] at hy
   exact hrel1 i j x y hi hx (by simpa using hy)
  have own_rename:∀(ι2:Nat->Pl) (B2:Ft) (o:AObj) (q:Nat),(ι2 r)=ι id->n+m<=q->q<=(ι id).cap ->
    VRel B2 ι2 (EC (EC H id .dead) r (.live o)).dom (.own r k1 0 (n+m)) (.slice (some ⟨(ι id).b,0,none⟩) (n+m) q):=λι2 B2 o q h1 h2 h3=>by
   have:=VRel.own (B:=B2) (ι:=ι2) (D:=(EC (EC H id .dead) r (.live o)).dom) (id:=r) (k:=k1) (i:=0) (n:=n+m) (cap:=q) (dW _) h2 (by rw[h1];omega)
   rw[h1,show 0*k1=0 by simp] at this;exact this
  rcases ATT (P:=P) (ty:=ty) (m:=m) (c2:=c2) hu hi hz hk hlo ho (λ_=>by simp) hcap (λh=>by cases h) hnl src.cells hb2 h63 hb with⟨h0,hrun⟩ | ⟨h0,hroom⟩ | ⟨h0,q,hq2,hrun⟩
  ·-- nothing is appended
   subst h0
   refine⟨_,_,hrun,?_⟩
   cases mt with
   |true=>
    have hm0:=Moved.write (w':=w) hH hid (o':=.row k1 (n+0) (catD n get LF)) rfl (λ_ _=>rfl) (by
     rw[hcells]
     exact .row (λi hi=>by rw[Q5 (show i<n from hi)];exact hok1 i hi) hncap hcsz λi j x y hi hx hy=>by rw[Q5 (show i<n from hi)] at hx;exact hrel1 i j x y hi hx hy)
    have hm1:=Moved.rename hm0.heap (HM _ _ _) (by rw[HL _ _ hne.symm];exact hr)
    have:=hm0.trans hm1
    rw[AHR] at this
    exact Xq this (own_rename _ _ _ _ (EI _ _ _) hcap (by omega))
   |false=>
    obtain⟨c',te',hc',hfr,_,_,_,_⟩:=Moved.freeze hH hid
    rw[hcells] at hc';cases hc'
    refine Xq hfr (.d ?_)
    simp only[Nat.add_zero]
    rcases Nat.eq_zero_or_pos n with hn | hn
    ·subst hn
     exact .nil (by simp) (.inr (by simp))
    ·exact .list (c:=c) hn (by simp) hcap (by simp) (λi hi=>by rw[Q5 hi];exact hok1 i hi) (by omega) λi j x y hi hx hy=>by
      rw[Q5 hi] at hx
      rw[Nat.zero_add] at hy
      exact (hrel1 i j x y hi hx hy).mono hfr.bm
  ·-- there is room
   have hcapk:cap*k1<=(ι id).cap*k1:=Nat.mul_le_mul_right k1 hq
   have hmk:=hmul cap hroom
   obtain⟨a2,ha2⟩:=Option.ne_none_iff_exists'.1 (hb2 h0)
   subst ha2
   have hrun:=AHI (P:=P) (w:=w) (ty:=ty) (c:=c2) hu hi (sLen:=n) (sCap:=cap) hcells (a:=a2) (m:=m) (news:=news) (by rw[hk];exact hnl) (src.cells a2 rfl) hone hroom (by rw[hk,hnl];omega)
   rw[hk,hnl] at hrun
   obtain⟨hok,hrel⟩:=ARG (B:=B) (n:=n) (m:=m) hlo hok1 hokS hrelo hrelS (c.toList.drop (n*k1+m*k1)) hnl
   have horel:ORel B ι H.dom (ι id).cap (.row k1 (n+m) (catD n get LF)) ((w.setRow (ι id).b (c.toList.take (n*k1) ++ news ++ c.toList.drop (n*k1+m*k1)).toArray).heap[(ι id).b]?):=by
    rw[setRow_heap w _ _ _ te (0,0) hcells]
    exact .row hok (by omega) (by simp[hnl];omega) λi j x y hi hx hy=>hrel i j x y hi hx (by simpa using hy)
   have hmw:=Moved.write hH hid (by simp) (λb hb=>setRow_other w (ι id).b b _ hb) horel
   refine⟨_,_,hrun,?_⟩
   cases mt with
   |true=>
    have hm1:=Moved.rename hmw.heap (HM _ _ _) (by rw[HL _ _ hne.symm];exact hr)
    have:=hmw.trans hm1
    rw[AHR] at this
    exact Xq this (own_rename _ _ _ _ (EI _ _ _) hroom (by omega))
   |false=>
    obtain⟨c',te',hc',hfr,_,_,_,_⟩:=Moved.freeze hmw.heap (HM _ _ _)
    rw[setRow_heap w _ _ _ te (0,0) hcells] at hc';cases hc'
    have hmf:=hmw.trans hfr
    rw[AHR] at hmf
    refine Xq hmf (.d (.list (c:=(c.toList.take (n*k1) ++ news ++ c.toList.drop (n*k1+m*k1)).toArray) (by omega) (by simp) hroom (by simp) hok (by simp[hnl,Nat.add_mul];omega) ?_))
    exact λi j x y hi hx hy=>(hrel i j x y hi hx (by simpa using hy)).mono hmf.bm
  ·-- a new row
   obtain⟨hok,hrel⟩:=ARG (B:=B) (n:=n) (m:=m) hlo hok1 hokS hrelo hrelS (Builtin.zeroCells z.cells (q-(n+m))).toList hnl
   have hHd:HRel B ι H w.drew:=(Moved.drew hH _).heap
   have hmd:=Moved.drop hHd id hD
   have hrd:EC H id .dead r=.none:=by rw[HL _ _ hne.symm];exact hr
   have hsz:q*k1<=(c.toList.take (n*k1) ++ news ++ (Builtin.zeroCells z.cells (q-(n+m))).toList).toArray.size:=by
    simp only[List.size_toArray,List.length_append,hlo,hnl,Array.length_toList,size_zeroCells,hzk]
    rw[<-Nat.add_mul,<-Nat.add_mul];exact Nat.mul_le_mul_right k1 (by omega)
   cases mt with
   |true=>
    refine⟨_,_,hrun,?_⟩
    obtain⟨B1,ι1,m1,m2,m3⟩:=Q8 (w:=w.drew) hrd hmd.heap q el hok hq2 hsz (λi j x y hi hx hy=>hrel i j x y hi hx (by simpa using hy))
    refine Xq (((Moved.drew hH _).trans hmd).trans m1) ?_
    have:=VRel.own (B:=B1) (ι:=ι1) (k:=k1) (i:=0) (n:=n+m) (cap:=q) m2 hq2 (by rw[m3];simp)
    rw[m3,show 0*k1=0 by simp] at this;exact this
   |false=>
    refine⟨_,_,hrun,Xq (((Moved.drew hH _).trans hmd).trans (Moved.newImm hmd.heap _ el)) (.d (.list (c:=(c.toList.take (n*k1) ++ news ++ (Builtin.zeroCells z.cells (q-(n+m))).toList).toArray) (by omega) ?_ hq2 (by simp) hok ?_ ?_))⟩
    ·simp
    ·have:=hmul q hq2
     rw[<-Nat.add_mul] at this;omega
    ·exact λi j x y hi hx hy=>(hrel i j x y hi hx (by simpa using hy)).mono (Moved.newImm hmd.heap _ el).bm
end Go.Sym
