/- copy; slices of arrays; slices with a third index; comparisons with nil. -/
import Derived.Test.YtlblbbidigejkaaGreatSym5
import Derived.WalkSpells
set_option linter.unusedVariables false
set_option linter.unusedSimpArgs false
namespace Go.Sym
variable {P : Program} {B B' : Ft} {ι ι' : Nat -> Pl} {H H' : Heap} {D : Nat -> Prop} {w w' : World}
def BAY:Operand->Bool
 | .const (.slice none _ _)=>true
 |_=>false
def nilA:AVal->Option (Bool×List Prop)
 | .own _ _ _ _=>some (false,[])
 | .d (.v (.slice none _ _))=>some (true,[])
 | .d (.v (.slice (some _) _ _))=>some (false,[])
 | .d (.list _ n _ _)=>some (false,[0<n])
 |_=>none
theorem rW{a:AVal}{b:Bool}{pre:List Prop}{v:Value}(h:nilA a=some (b,pre))(hp:BG pre)(hv:VRel B ι D a v):∃base n cap,v=.slice base n cap/\base.isNone=b:=by
 unfold nilA at h
 split at h
 ·cases h;cases hv;exact⟨_,_,_,rfl,rfl⟩
 ·cases h;cases hv.d_inv;exact⟨_,_,_,rfl,rfl⟩
 ·cases h;cases hv.d_inv;exact⟨_,_,_,rfl,rfl⟩
 ·cases h
  have hp:0<_:=hp
  cases hv.d_inv with
  |nil=>omega
  |list=>exact⟨_,_,_,rfl,rfl⟩
 ·cases h
def BCH(P:Program)(op:BinOp)(t:TypeId)(a:AVal):Option (Bool×List Prop):=match P.underlying t,op,nilA a with
 |some (.slice _),.eql,some (b,p)=>some (b,p)
 |some (.slice _),.neq,some (b,p)=>some (!b,p)
 |_,_,_=>none
theorem AYP{op:BinOp}{t:TypeId}{a:AVal}{b:Bool}{pre:List Prop}{v:Value}{n' c':Nat}(h:BCH P op t a=some (b,pre))(hp:BG pre)(hv:VRel B ι D a v)(w:World) :
  (binOp op t v (.slice none n' c')).run P w=.ok (.bool b) w:=by
 unfold BCH at h
 split at h
 ·rename_i e b' p hu hn
  cases h
  obtain⟨base,n,cap,rfl,rfl⟩:=rW hn hp hv
  exact Lib.run_eql_slice_nil w t e base n cap n' c' hu
 ·rename_i e b' p hu hn
  cases h
  obtain⟨base,n,cap,rfl,rfl⟩:=rW hn hp hv
  exact run_neq_slice_nil_any w t e base n cap n' c' hu
 ·cases h
def BKE(P:Program)(op:BinOp)(t:TypeId):AVal->Bool
 | .d (.list k n _ _)=>Nat.beq k 0&&match P.underlying t,op with
  |some (.slice _),.eql | some (.slice _),.neq=>true
  |_,_=>false
 |_=>false
theorem AYN{op:BinOp}{t:TypeId}{a:AVal}{v:Value}{n' c':Nat}(h:BKE P op t a=true)(hv:VRel B ι D a v)(w:World) :
  ∃base n cap,v=.slice base n cap/\∃b,(binOp op t v (.slice none n' c')).run P w=.ok (.bool b) w:=by
 unfold BKE at h
 split at h
 ·rename_i k n get ex
  obtain⟨base,n,cap,rfl⟩:∃base n cap,v=.slice base n cap:=by
   cases hv with
   |d hd=>cases hd<;>exact⟨_,_,_,rfl⟩
  rw[Bool.and_eq_true] at h
  obtain⟨_,h⟩:=h
  refine⟨base,n,cap,rfl,?_⟩
  split at h
  ·rename_i hu;exact⟨_,Lib.run_eql_slice_nil w t _ base n cap n' c' hu⟩
  ·rename_i hu;exact⟨_,run_neq_slice_nil_any w t _ base n cap n' c' hu⟩
  ·cases h
 ·cases h
def Ya(P:Program)(H:Heap)(t:TypeId)(x:AVal):Option AVal:=match P.underlying t,x with
 |some (.array m e),.rptr id k 0 0=>match H id with
  | .live (.row k' n _)=>if k==k'&&m==n&&szT P e==some k then some (.own id k 0 n) else none
  |_=>none
 |_,_=>none
theorem AMH{t:TypeId}{x q:AVal}{v:Value}(h:Ya P H t x=some q)(hv:VRel B ι H.dom x v)(hH:HRel B ι H w):∃y,(Instr.sliceAt t v none none none).run P w=.ok y w/\VRel B ι H.dom q y:=by
 unfold Ya at h
 split at h
 ·rename_i m e id k hu
  split at h
  ·rename_i k' n get hid
   split at h
   ·rename_i hc
    cases h
    simp only[Bool.and_eq_true,beq_iff_eq] at hc
    obtain⟨⟨rfl,rfl⟩,hs⟩:=hc
    have ho:=hH.obj _ _ hid
    generalize w.heap[(ι id).b]?=qq at ho
    cases hv
    rename_i hD
    cases ho with
    |row hkk hn hsz hrel=>
     refine⟨.slice (some ⟨(ι id).b,0*k,none⟩) m m,?_,.own hD (Nat.le_refl _) (by omega)⟩
     have hs':(sizeOf e).run P w=.ok k w:=EH (by unfold szT at hs;simpa using hs) w
     simp[Instr.sliceAt,run_underlying hu,Instr.sureAddr,Instr.sliceBounds,hs',WQ]
   ·cases h
  ·cases h
 ·cases h
theorem Moved.freezeO(h:HRel B ι H w){id:Nat}{o:AObj}(hid:H id=.live o){c:Array Value}{e:TypeId}(hq:w.heap[(ι id).b]?=some (.cells c e (0,0))):Moved B ι H w (λb=>if b=(ι id).b then some c else B b) ι (EC H id .dead) w:=by
 have bm:∀b x,B b=some x->(if b=(ι id).b then some c else B b)=some x:=λb x hb=>by
  split
  ·rename_i he;rw[he,h.sep id _ hid] at hb;cases hb
  ·exact hb
 have dm:∀i,H.dom i->(EC H id .dead).dom i/\ι i=ι i:=λi hi=>⟨by
  unfold Heap.dom EC;split
  ·simp
  ·exact hi,rfl⟩
 have live:∀i o2,EC H id .dead i=.live o2->i≠id/\H i=.live o2:=λi o2 hi=>by
  by_cases hii:i=id
  ·subst hii;rw[HM] at hi;cases hi
  ·rw[HL _ _ hii] at hi;exact⟨hii,hi⟩
 refine⟨bm,λb x hb=>by
  split at hb
  ·rename_i he;exact .inr (.inr ⟨id,_,hid,he.symm⟩)
  ·exact .inl hb,dm,⟨λi o hi=>(h.obj i o (live i o hi).2).mono bm dm,λi j o1 o2 hi hj=>h.inj i j o1 o2 (live _ _ hi).2 (live _ _ hj).2,λi o hi=>?_,λb x hb=>?_⟩,
  λi o hi=>.inl ⟨i,o,(live _ _ hi).2,rfl⟩,λ_ _ _=>rfl,Nat.le_refl _,⟨rfl,rfl,rfl⟩⟩
 ·obtain⟨h1,h2⟩:=live i o hi
  show (if (ι i).b=(ι id).b then some c else B (ι i).b)=none
  rw[if_neg λhe=>h1 (h.inj _ _ _ _ h2 hid he)]
  exact h.sep _ _ h2
 ·split at hb
  ·rename_i he;cases hb;rw[he];exact⟨e,(0,0),hq⟩
  ·exact h.imm b x hb
def lQ(P:Program)(H:Heap)(t:TypeId)(x:AVal)(lo hi:Option AVal):Option Eff:=match P.underlying t,x,lo with
 |some (.array m e),.bptr id c,none=>match H id,hi with
  | .live (.nbox ds m' z get),some (.d (.v (.int _ h)))=>if szT P e==some 1 then
    some ⟨.d (.list 1 h.toNat (λi=>.v (.int .i64 (get (c+i)))) false),[(id,.dead)],[0<h/\h<=m/\ds.length<=c/\c+h.toNat<=ds.length+m']⟩ else none
  |_,_=>none
 |_,_,_=>none
theorem ASC{t:TypeId}{x:AVal}{lo hi:Option AVal}{e:Eff}{v:Value}{lov hiv:Option Value}(h:lQ P H t x lo hi=some e)(hp:BG e.pre)(hv:VRel B ι H.dom x v)(hH:HRel B ι H w)
  (hlo0:lo=none->lov=none) (hhi:∀x,hi=some x->∃y,hiv=some y/\VRel B ι H.dom x y) :
  ∃y,(Instr.sliceAt t v lov hiv none).run P w=.ok y w/\OZ B ι H w (DV H e.upd) e.val y w:=by
 unfold lQ at h
 split at h
 case h_2=>cases h
 rename_i m el id c hu
 split at h
 case h_2=>cases h
 rename_i ds m' z get kh hh hid
 split at h
 case isFalse=>cases h
 rename_i hs
 cases h
 obtain⟨p1,p2,p3,p4⟩:=hp
 obtain rfl:=hlo0 rfl
 obtain⟨y2,rfl,hy2⟩:=hhi _ rfl
 obtain rfl:y2=.int kh hh:=by cases hy2.d_inv;rfl
 have hs':(sizeOf el).run P w=.ok 1 w:=EH (by unfold szT at hs;simpa using hs) w
 cases hv
 have ho:=hH.obj _ _ hid
 generalize hq:w.heap[(ι id).b]?=q at ho
 cases ho with
 |nbox hsz hrel hb=>
  rename_i cs ty
  have e2:0<=hh:=by omega
  have e3:max hh 0=hh:=by omega
  have b2:(Instr.sliceBounds false m m none (some (.int kh hh)) none).run P w=.ok (0,hh.toNat,m) w:=by simp[Instr.sliceBounds,Instr.sliceBound,asIntOf, *]
  refine⟨.slice (some ⟨(ι id).b,c,none⟩) hh.toNat m,?_,_,ι,Moved.freezeO hH hid hq,.d ?_⟩
  ·simp only[Instr.sliceAt,Sem.run_bind,run_underlying hu,Result.andThen_ok,Instr.sureAddr,Sem.run_pure,b2,hs']
   simp[WQ]
  ·refine .list (by omega) (c:=cs) (by simp) (by omega) (λh=>by cases h) (λi _=>⟨rfl,rfl⟩) (by omega) λi j x y hi hx hy=>?_
   cases j with
   |succ j=>simp[DVal.cells1] at hx
   |zero=>
    simp only[DVal.cells1,List.getElem?_cons_zero,Option.some.injEq] at hx
    subst hx
    rw[show c+i*1+0=c+i by omega,hb (c+i) (by omega) (by omega)] at hy
    cases hy
    exact .v _
def kX(P:Program)(H:Heap)(t:TypeId)(x:AVal)(lo hi mx:Option AVal):Option Eff:=match P.underlying t,x,mx with
 |some (.slice e),.own id k 0 n,some (.d (.v (.int _ m)))=>match H id,zO 0 lo,hi with
  | .live (.row k' n' get),some l,some (.d (.v (.int _ h)))=>if szT P e==some k&&k==k' then
    some ⟨.d (.list k (h.toNat-l.toNat) (λi=>get (l.toNat+i)) true),[(id,.dead)],[0<=l/\l<=h/\h=m/\h<=n/\n<=n']⟩ else none
  |_,_,_=>none
 |_,_,_=>none
theorem AOQ{t:TypeId}{x:AVal}{lo hi mx:Option AVal}{e:Eff}{v:Value}{lov hiv mxv:Option Value}(h:kX P H t x lo hi mx=some e)(hp:BG e.pre)(hv:VRel B ι H.dom x v)(hH:HRel B ι H w)
  (hlo:∀x,lo=some x->∃y,lov=some y/\VRel B ι H.dom x y) (hlo0:lo=none->lov=none) (hhi:∀x,hi=some x->∃y,hiv=some y/\VRel B ι H.dom x y) (hmx:∀x,mx=some x->∃y,mxv=some y/\VRel B ι H.dom x y) :
  ∃y,(Instr.sliceAt t v lov hiv mxv).run P w=.ok y w/\OZ B ι H w (DV H e.upd) e.val y w:=by
 unfold kX at h
 split at h
 case h_2=>cases h
 rename_i el id k n km m hu
 split at h
 case h_2=>cases h
 rename_i k' n' get l kh hh hid hl
 split at h
 case isFalse=>cases h
 rename_i hc
 simp only[Bool.and_eq_true,beq_iff_eq] at hc
 obtain⟨hs,rfl⟩:=hc
 cases h
 obtain⟨p1,p2,rfl,p3,p4⟩:=hp
 have b1:=WT hl hlo hlo0
 obtain⟨y2,rfl,hy2⟩:=hhi _ rfl
 obtain⟨y3,rfl,hy3⟩:=hmx _ rfl
 obtain rfl:y2=.int kh hh:=by cases hy2.d_inv;rfl
 obtain rfl:y3=.int km hh:=by cases hy3.d_inv;rfl
 have hs':(sizeOf el).run P w=.ok k w:=EH (by unfold szT at hs;simpa using hs) w
 obtain⟨c,ty,h1,h2,h3,h4,h5,h6⟩:=Moved.freeze hH hid
 cases hv
 rename_i cap hD hq hcap
 have hB:(λb=>if b=(ι id).b then some c else B b) (ι id).b=some c:=by simp
 have hd:DRel (λb=>if b=(ι id).b then some c else B b) (.list k n get false) (.slice (some ⟨(ι id).b,0*k,none⟩) n cap):=by
  rcases Nat.eq_zero_or_pos n with h0 | h0
  ·subst h0;exact .nil (λh=>by cases h) (.inr (by simp))
  ·have e1:n*k<=n'*k:=Nat.mul_le_mul_right k p4
   have e2:n'*k<=(ι id).cap*k:=Nat.mul_le_mul_right k h3
   exact .list h0 hB hcap (λh=>by cases h) (λi hi=>h5 i (by omega)) (by omega) λi j x y hi hx hy=>(h6 i j x y (by omega) hx (by simpa using hy)).mono h2.bm
 have hsub:=ATD (l:=l.toNat) (h:=hh.toNat) (m:=hh.toNat) hd (by omega) (by omega) (by omega) (by omega)
 refine⟨_,by simp only[Instr.sliceAt,Sem.run_bind,run_underlying hu,Result.andThen_ok,Instr.slice,ALQ b1 p1 p2 p3 hcap,hs',Sem.run_pure];rfl,_,ι,h2,?_⟩
 have e1:decide (hh.toNat=hh.toNat)=true:=by simp
 rw[e1] at hsub
 exact .d hsub
def AJY(P:Program)(H:Heap)(t:TypeId)(d x:AVal):Option Eff:=match P.underlying t,d,srcA H x with
 |some (.slice e),.own id k 0 n,some (k2,m,LF,p2)=>match H id with
  | .live (.row k' n' get)=>if szT P e==some k&&k==k'&&!(idsTopC x).contains id&&Nat.blt 0 k then
    some ⟨.int ((min m n:Nat):Int),[(id,.live (.row k n' λj=>jB (decide (j<min m n)) (LF j) (get j)))],[p2/\(0<m->k2=k),n<=n']⟩ else none
  |_=>none
 |_,_,_=>none
where
 idsTopC:AVal->List Nat
  | .own id _ _ _=>[id]
  |_=>[]
theorem AXU{t ty:TypeId}{ats:Array TypeId}{d x:AVal}{vd vx:Value}{e:Eff}(h:AJY P H t d x=some e)(hp:BG e.pre)(h0:ats[0]?=some t)(hd:VRel B ι H.dom d vd)(hx:VRel B ι H.dom x vx)(hH:HRel B ι H w) :
  ∃y w',(Builtin.copy_ ats ty #[vd,vx]).run P w=.ok y w'/\OZ B ι H w (DV H e.upd) e.val y w':=by
 unfold AJY at h
 split at h
 case h_2=>cases h
 rename_i el id k n k2 m LF p2 hu hsrc
 split at h
 case h_2=>cases h
 rename_i k' n' get hid
 split at h
 case isFalse=>cases h
 rename_i hc
 simp only[Bool.and_eq_true,beq_iff_eq,Nat.blt_eq] at hc
 obtain⟨⟨⟨hs,rfl⟩,hdisj⟩,hk0⟩:=hc
 cases h
 obtain⟨⟨p2,p3⟩,p4⟩:(p2/\(0<m->k2=k))/\n<=n':=hp
 obtain⟨base,cap2,news,hS⟩:=oK hsrc p2 hx hH
 have hs':(sizeOf el).run P w=.ok k w:=EH (by unfold szT at hs;simpa using hs) w
 have ho:=hH.obj _ _ hid
 generalize hq:w.heap[(ι id).b]?=qq at ho
 cases hd
 rename_i cap hD hcap hcq
 cases ho with
 |row hkk hn hsz hrel=>
  rename_i c ety
  have hlen:news.length=m*k:=by
   rcases Nat.eq_zero_or_pos m with h | h
   ·subst h;simpa using hS.len
   ·rw[hS.len,p3 h]
  -- the cells that are copied
  have hmk:min m n*k<=m*k:=Nat.mul_le_mul_right k (Nat.min_le_left _ _)
  have hnk:min m n*k<=n*k:=Nat.mul_le_mul_right k (Nat.min_le_right _ _)
  have hn1:n*k<=n'*k:=Nat.mul_le_mul_right k p4
  have hn2:n'*k<=(ι id).cap*k:=Nat.mul_le_mul_right k hn
  have hfirst:(Builtin.firstCells k (min m n) vx).run P w=.ok (news.take (min m n*k)).toArray w:=by
   rw[hS.val]
   cases base with
   |none=>
    have hm:m=0:=by
     rcases Nat.eq_zero_or_pos m with h | h
     ·exact h
     ·obtain⟨b,o,hb⟩:=hS.some h;cases hb
    subst hm
    simp[Builtin.firstCells]
   |some a=>
    have hl:=run_loadCells (P:=P) w a (min m n*k) (λj=>news.getD j undef) (λj hj=>by
     have hj':j<news.length:=by omega
     rw[hS.cells a rfl j news[j] (by simp[hj'])]
     simp[hj'])
    have e1:(List.range (min m n*k)).map (λj=>news.getD j undef)=news.take (min m n*k):=by
     apply List.ext_getElem?
     intro j
     rw[List.getElem?_map,List.getElem?_take]
     by_cases hj:j<min m n*k
     ·have hj':j<news.length:=by omega
      simp[hj,hj']
     ·simp[hj]
    rw[e1] at hl
    exact hl
  have hone:∀u∈news.take (min m n*k),u.oneCell'=true:=λu hu=>by
   obtain⟨j,hj⟩:=List.mem_iff_getElem?.1 hu
   have hjl:=(List.getElem?_eq_some_iff.1 hj).1
   simp only[List.length_take] at hjl
   rw[List.getElem?_take,if_pos (by omega)] at hj
   have hm:0<m:=by
    rcases Nat.eq_zero_or_pos m with h | h
    ·subst h;simp at hlen;simp[hlen] at hj
    ·exact h
   have hk2:=p3 hm
   subst hk2
   have hjj:j / k2*k2+j % k2=j:=by rw[Nat.mul_comm];exact Nat.div_add_mod j k2
   have hi:j / k2<m:=by rw[Nat.div_lt_iff_lt_mul hk0];omega
   have hmod:j % k2<k2:=Nat.mod_lt _ hk0
   have hlt:j % k2<(LF (j / k2)).cells1.length:=by rw[(hS.ok _ hi).len];exact hmod
   have:=hS.rel (j / k2) (j % k2) (LF (j / k2)).cells1[j % k2] u hi (by simp) (by rw[hjj];exact hj)
   exact Bc (B:=B) (ι:=λ_=>⟨0,0⟩) (D:=λ_=>True) (UJ (hS.ok _ hi).one _ (List.getElem_mem hlt)) (.d this)
  have hstore:=Us (P:=P) (o:=0) (vs:=news.take (min m n*k)) hq (by simp only[List.length_take];omega) hone
  refine⟨.int .i64 ((min m n:Nat):Int),w.setRow (ι id).b (c.toList.take 0 ++ news.take (min m n*k) ++ c.toList.drop (0+(news.take (min m n*k)).length)).toArray,?_,?_⟩
  ·have hlen2:(Builtin.lenOf vx).run P w=.ok m w:=by rw[hS.val];rfl
   unfold Builtin.copy_
   simp only[h0,List.getElem?_toArray,List.getElem?_cons_zero,List.getElem?_cons_succ,Sem.run_bind,run_underlying hu,Result.andThen_ok,hlen2,hs']
   rw[show Nat.min m n=min m n from rfl,hfirst]
   simp only[Result.andThen_ok,show (0:Nat)*k=0 by simp,hstore,Sem.run_pure,goInt]
  ·have hrow:ORel B ι H.dom (ι id).cap (.row k n' λj=>jB (decide (j<min m n)) (LF j) (get j))
     (some (.cells (c.toList.take 0 ++ news.take (min m n*k) ++ c.toList.drop (0+(news.take (min m n*k)).length)).toArray ety (0,0))):=by
    have hl:(news.take (min m n*k)).length=min m n*k:=by simp only[List.length_take];omega
    refine .row (λi hi=>?_) hn (by simp only[List.size_toArray,List.length_append,List.length_take,List.length_drop,Array.length_toList];omega) λi j x y hi hx hy=>?_
    ·rw[SU]
     by_cases h:i<min m n
     ·have hm:i<m:=by omega
      simp only[h,decide_true,cond_true]
      have:=hS.ok i hm
      rw[p3 (by omega)] at this;exact this
     ·simp only[h,decide_false,cond_false];exact hkk i hi
    ·rw[SU] at hx
     rw[List.getElem?_toArray,hl] at hy
     rw[HA hl (by simp only[Array.length_toList];omega)] at hy
     have hlt:=(List.getElem?_eq_some_iff.1 hx).1
     by_cases h:i<min m n
     ·have hm:i<m:=by omega
      simp only[h,decide_true,cond_true] at hx hlt
      have hk2:=p3 (by omega)
      subst hk2
      rw[(hS.ok i hm).len] at hlt
      have e1:(i+1)*k2<=min m n*k2:=Nat.mul_le_mul_right k2 h
      have e2:(i+1)*k2=i*k2+k2:=Nat.succ_mul i k2
      rw[if_pos (by omega),List.getElem?_take,if_pos (by omega)] at hy
      exact hS.rel i j x y hm hx (by simpa using hy)
     ·simp only[h,decide_false,cond_false] at hx hlt
      have e1:min m n*k<=i*k:=Nat.mul_le_mul_right k (by omega)
      rw[if_neg (by omega)] at hy
      exact hrel i j x y hi hx (by simpa using hy)
   obtain⟨B',ι',m1,_⟩:=Jl hH hid hq hrow
   exact⟨B',ι',m1,.d (.v _)⟩
def AVC(P:Program)(H:Heap)(t:TypeId)(d x:AVal):Option Eff:=match P.underlying t,d,srcA H x with
 |some (.slice e),.own id k i n,some (k2,m,LF,p2)=>match H id with
  | .live (.row k' n' get)=>if szT P e==some k&&k==k'&&Nat.blt 0 k then
    some ⟨.int ((min m n:Nat):Int),[(id,.live (.row k n' λj=>jB (decide (i<=j)&&decide (j<i+min m n)) (LF (j-i)) (get j)))],[p2/\(0<m->k2=k),i+n<=n']⟩ else none
  |_=>none
 |_,_,_=>none
theorem BHJ{t ty:TypeId}{ats:Array TypeId}{d x:AVal}{vd vx:Value}{e:Eff}(h:AVC P H t d x=some e)(hp:BG e.pre)(h0:ats[0]?=some t)(hd:VRel B ι H.dom d vd)(hx:VRel B ι H.dom x vx)(hH:HRel B ι H w) :
  ∃y w',(Builtin.copy_ ats ty #[vd,vx]).run P w=.ok y w'/\OZ B ι H w (DV H e.upd) e.val y w':=by
 unfold AVC at h
 split at h
 case h_2=>cases h
 rename_i el id k i0 n k2 m LF p2 hu hsrc
 split at h
 case h_2=>cases h
 rename_i k' n' get hid
 split at h
 case isFalse=>cases h
 rename_i hc
 simp only[Bool.and_eq_true,beq_iff_eq,Nat.blt_eq] at hc
 obtain⟨⟨hs,rfl⟩,hk0⟩:=hc
 cases h
 obtain⟨⟨p2,p3⟩,p4⟩:(p2/\(0<m->k2=k))/\i0+n<=n':=hp
 obtain⟨base,cap2,news,hS⟩:=oK hsrc p2 hx hH
 have hs':(sizeOf el).run P w=.ok k w:=EH (by unfold szT at hs;simpa using hs) w
 have ho:=hH.obj _ _ hid
 generalize hq:w.heap[(ι id).b]?=qq at ho
 cases hd
 rename_i cap hD hcap hcq
 cases ho with
 |row hkk hn hsz hrel=>
  rename_i c ety
  have hlen:news.length=m*k:=by
   rcases Nat.eq_zero_or_pos m with h | h
   ·subst h;simpa using hS.len
   ·rw[hS.len,p3 h]
  -- the cells that are copied
  have hmk:min m n*k<=m*k:=Nat.mul_le_mul_right k (Nat.min_le_left _ _)
  have hnk:min m n*k<=n*k:=Nat.mul_le_mul_right k (Nat.min_le_right _ _)
  have hn1:(i0+n)*k<=n'*k:=Nat.mul_le_mul_right k p4
  have hn3:(i0+n)*k=i0*k+n*k:=Nat.add_mul i0 n k
  have hn2:n'*k<=(ι id).cap*k:=Nat.mul_le_mul_right k hn
  have hfirst:(Builtin.firstCells k (min m n) vx).run P w=.ok (news.take (min m n*k)).toArray w:=by
   rw[hS.val]
   cases base with
   |none=>
    have hm:m=0:=by
     rcases Nat.eq_zero_or_pos m with h | h
     ·exact h
     ·obtain⟨b,o,hb⟩:=hS.some h;cases hb
    subst hm
    simp[Builtin.firstCells]
   |some a=>
    have hl:=run_loadCells (P:=P) w a (min m n*k) (λj=>news.getD j undef) (λj hj=>by
     have hj':j<news.length:=by omega
     rw[hS.cells a rfl j news[j] (by simp[hj'])]
     simp[hj'])
    have e1:(List.range (min m n*k)).map (λj=>news.getD j undef)=news.take (min m n*k):=by
     apply List.ext_getElem?
     intro j
     rw[List.getElem?_map,List.getElem?_take]
     by_cases hj:j<min m n*k
     ·have hj':j<news.length:=by omega
      simp[hj,hj']
     ·simp[hj]
    rw[e1] at hl
    exact hl
  have hone:∀u∈news.take (min m n*k),u.oneCell'=true:=λu hu=>by
   obtain⟨j,hj⟩:=List.mem_iff_getElem?.1 hu
   have hjl:=(List.getElem?_eq_some_iff.1 hj).1
   simp only[List.length_take] at hjl
   rw[List.getElem?_take,if_pos (by omega)] at hj
   have hm:0<m:=by
    rcases Nat.eq_zero_or_pos m with h | h
    ·subst h;simp at hlen;simp[hlen] at hj
    ·exact h
   have hk2:=p3 hm
   subst hk2
   have hjj:j / k2*k2+j % k2=j:=by rw[Nat.mul_comm];exact Nat.div_add_mod j k2
   have hi:j / k2<m:=by rw[Nat.div_lt_iff_lt_mul hk0];omega
   have hmod:j % k2<k2:=Nat.mod_lt _ hk0
   have hlt:j % k2<(LF (j / k2)).cells1.length:=by rw[(hS.ok _ hi).len];exact hmod
   have:=hS.rel (j / k2) (j % k2) (LF (j / k2)).cells1[j % k2] u hi (by simp) (by rw[hjj];exact hj)
   exact Bc (B:=B) (ι:=λ_=>⟨0,0⟩) (D:=λ_=>True) (UJ (hS.ok _ hi).one _ (List.getElem_mem hlt)) (.d this)
  have hstore:=Us (P:=P) (o:=i0*k) (vs:=news.take (min m n*k)) hq (by simp only[List.length_take];omega) hone
  refine⟨.int .i64 ((min m n:Nat):Int),w.setRow (ι id).b (c.toList.take (i0*k) ++ news.take (min m n*k) ++ c.toList.drop (i0*k+(news.take (min m n*k)).length)).toArray,?_,?_⟩
  ·have hlen2:(Builtin.lenOf vx).run P w=.ok m w:=by rw[hS.val];rfl
   unfold Builtin.copy_
   simp only[h0,List.getElem?_toArray,List.getElem?_cons_zero,List.getElem?_cons_succ,Sem.run_bind,run_underlying hu,Result.andThen_ok,hlen2,hs']
   rw[show Nat.min m n=min m n from rfl,hfirst]
   simp only[Result.andThen_ok,hstore,Sem.run_pure,goInt]
  ·have hrow:ORel B ι H.dom (ι id).cap (.row k n' λj=>jB (decide (i0<=j)&&decide (j<i0+min m n)) (LF (j-i0)) (get j))
     (some (.cells (c.toList.take (i0*k) ++ news.take (min m n*k) ++ c.toList.drop (i0*k+(news.take (min m n*k)).length)).toArray ety (0,0))):=by
    have hl:(news.take (min m n*k)).length=min m n*k:=by simp only[List.length_take];omega
    refine .row (λi hi=>?_) hn (by simp only[List.size_toArray,List.length_append,List.length_take,List.length_drop,Array.length_toList];omega) λi j x y hi hx hy=>?_
    ·rw[SU]
     by_cases h:i0<=i/\i<i0+min m n
     ·have hm:i-i0<m:=by omega
      simp only[h.1,h.2,decide_true,Bool.and_self,cond_true]
      have:=hS.ok (i-i0) hm
      rw[p3 (by omega)] at this;exact this
     ·have hf:(decide (i0<=i)&&decide (i<i0+min m n))=false:=by
       rw[Bool.and_eq_false_iff,decide_eq_false_iff_not,decide_eq_false_iff_not];omega
      rw[hf];exact hkk i hi
    ·rw[SU] at hx
     rw[List.getElem?_toArray,hl] at hy
     rw[HA hl (by simp only[Array.length_toList];omega)] at hy
     have hlt:=(List.getElem?_eq_some_iff.1 hx).1
     by_cases h:i0<=i/\i<i0+min m n
     ·have hm:i-i0<m:=by omega
      simp only[h.1,h.2,decide_true,Bool.and_self,cond_true] at hx hlt
      have hk2:=p3 (by omega)
      subst hk2
      rw[(hS.ok _ hm).len] at hlt
      have e1:(i-i0+1)*k2<=min m n*k2:=Nat.mul_le_mul_right k2 (by omega)
      have e2:(i-i0+1)*k2=(i-i0)*k2+k2:=Nat.succ_mul _ k2
      have e3:i*k2=i0*k2+(i-i0)*k2:=by rw[<-Nat.add_mul];congr 1;omega
      rw[if_pos (by omega),show i*k2+j-i0*k2=(i-i0)*k2+j by omega,List.getElem?_take,if_pos (by omega)] at hy
      exact hS.rel (i-i0) j x y hm hx hy
     ·have hf:(decide (i0<=i)&&decide (i<i0+min m n))=false:=by
       rw[Bool.and_eq_false_iff,decide_eq_false_iff_not,decide_eq_false_iff_not];omega
      rw[hf] at hx hlt
      rw[show (cond false (LF (i-i0)) (get i))=get i from rfl,(hkk i hi).len] at hlt
      have hd:i<i0∨i0+min m n<=i:=by omega
      have e4:(i0+min m n)*k=i0*k+min m n*k:=Nat.add_mul i0 _ k
      have e5:(i+1)*k=i*k+k:=Nat.succ_mul i k
      rw[if_neg (by
       rcases hd with h1 | h1
       ·have:=Nat.mul_le_mul_right k (show i+1<=i0 by omega);omega
       ·have:=Nat.mul_le_mul_right k h1;omega)] at hy
      exact hrel i j x y hi hx (by simpa using hy)
   obtain⟨B',ι',m1,_⟩:=Jl hH hid hq hrow
   exact⟨B',ι',m1,.d (.v _)⟩
def BUN:AVal->AVal->Bool
 | .own i _ _ _,.own j _ _ _=>Nat.beq i j
 |_,_=>false
def AWS(P:Program)(H:Heap)(t:TypeId)(d x:AVal):Option Eff:=bif BUN d x then AVC P H t d x else AJY P H t d x
theorem BGU{t ty:TypeId}{ats:Array TypeId}{d x:AVal}{vd vx:Value}{e:Eff}(h:AWS P H t d x=some e)(hp:BG e.pre)(h0:ats[0]?=some t)(hd:VRel B ι H.dom d vd)(hx:VRel B ι H.dom x vx)(hH:HRel B ι H w) :
  ∃y w',(Builtin.copy_ ats ty #[vd,vx]).run P w=.ok y w'/\OZ B ι H w (DV H e.upd) e.val y w':=by
 unfold AWS at h
 cases hs:BUN d x with
 |true=>rw[hs] at h;exact BHJ h hp h0 hd hx hH
 |false=>rw[hs] at h;exact AXU h hp h0 hd hx hH
theorem BGL{t:TypeId}{d x:AVal}(hs:srcA H x=srcA H' x)(hd:∀id k i n,d=.own id k i n->H id=H' id):AWS P H t d x=AWS P H' t d x:=by
 have h0:AJY P H t d x=AJY P H' t d x:=by
  unfold AJY;rw[hs];split
  ·rw[hd _ _ _ _ rfl]
  ·rfl
 have h1:AVC P H t d x=AVC P H' t d x:=by
  unfold AVC;rw[hs];split
  ·rw[hd _ _ _ _ rfl]
  ·rfl
 unfold AWS;rw[h0,h1]
end Go.Sym
namespace Go.Sym
variable {P : Program} {B B' : Ft} {ι ι' : Nat -> Pl} {H H' : Heap} {D : Nat -> Prop} {w w' : World}
def Eff.of(r:Option (AVal×List Prop)):Option Eff:=match r with
 |some (a,p)=>some ⟨a,[],p⟩
 |none=>none
def Eff.one(r:Option AVal):Option Eff:=match r with
 |some a=>some ⟨a,[],[]⟩
 |none=>none
def CIB:AVal->Bool
 | .bptr .. | .rptr .. | .d (.eref ..)=>true
 |_=>false
def AEY(P:Program)(mt:Bool)(r:Nat)(H:Heap)(b:Builtin)(ats:Array TypeId)(args:List AVal):Option Eff:=match b,args with
 | .len,[a]=>match ats[0]? with
  |some t=>match lenA P t a with
   |some q=>some ⟨q,[],[]⟩
   |none=>AVH P H t a
  |none=>none
 | .clear,[a]=>match ats[0]? with
  |some t=>AZZ P H t a
  |none=>none
 | .delete,[a,k]=>match ats[0]? with
  |some t=>delA P H t a k
  |none=>none
 | .append,[s,x]=>match ats.toList with
  |[t,t2]=>AMJ P H r mt t t2 s x
  |_=>none
 | .copy,[d,x]=>match ats[0]? with
  |some t=>AWS P H t d x
  |none=>none
 | .min,l=>Eff.one (foldA IF l)
 | .max,l=>Eff.one (foldA EU l)
 |_,_=>none
def BX:AVal->AVal
 | .opt _ v=>v
 |v=>v
def Pe(c:Prop):AVal->List Prop
 | .opt g _=>[c->g=true]
 |_=>[]
theorem OC{c:Prop}{a:AVal}{y:Value}(hc:c)(h:BG (Pe c a))(hv:VRel B ι D a y):VRel B ι D (BX a) y:=by
 cases hv with
 |opt h1 h2=>exact h1 (h hc)
 |d h=>exact .d h
 |agg a b=>exact .agg a b
 |tup a b=>exact .tup a b
 |bptr a=>exact .bptr a
 |rptr a=>exact .rptr a
 |own a b c=>exact .own a b c
 |fn a b c d=>exact .fn a b c d
 |mref a=>exact .mref a
 |any=>exact .any
theorem HK{p:Prop}{r:List Prop}:BG (p :: r)↔p/\BG r:=by
 cases r with
 |nil=>simp[BG]
 |cons q r=>rfl
theorem BE:∀{a b:List Prop},BG (a ++ b)->BG a/\BG b
 |[],b,h=>⟨trivial,h⟩
 |p :: a,b,h=>by
  have h:BG (p :: (a ++ b)):=h
  rw[HK] at h
  obtain⟨h1,h2⟩:=BE h.2
  exact⟨HK.2 ⟨h.1,h1⟩,h2⟩
def opA(P:Program)(mt:Bool)(r:Nat)(ρ:Operand->AVal)(H:Heap):Op->Option Eff
 | .move x | .assign x=>some ⟨ρ x,[],[]⟩
 | .pick c a b=>match ρ c with
  | .d (.v (.bool t))=>some ⟨ANK t (BX (ρ a)) (BX (ρ b)),[],Pe (t=true) (ρ a) ++ Pe (t=false) (ρ b)⟩
  |_=>none
 | .alloc t=>BJC P r t
 | .box _ x=>boxA r (ρ x)
 | .build t ps=>Eff.of (BOR P t (ps.toList.map λp=>(p.1,ρ p.2)))
 | .buildSlice t len ps=>match VZ P r t len (ps.toList.map λp=>(p.1,ρ p.2)) with
  |some e=>some e
  |none=>AKG P r t len (ps.toList.map λp=>(p.1,ρ p.2))
 | .load t a=>Eff.of (AQP P H t (ρ a))
 | .store t a x=>qG P H t (ρ a) (ρ x)
 | .nilCheck x=>if CIB (ρ x) then some ⟨ρ x,[],[]⟩ else none
 | .binOp op t x y _=>if BAY y then (if BKE P op t (ρ x) then some ⟨.d .anyB,[],[]⟩ else Eff.of ((BCH P op t (ρ x)).map λ(b,p)=>(.bool b,p))) else match ρ x,ρ y with
  | .d (.v a),.d (.v b)=>match binV P op t a b with
   |some (v,p)=>some ⟨.d (.v v),[],p⟩
   |none=>none
  |a,b=>match op,eqA P t a b with
   | .eql,some r=>some ⟨.bool r,[],[]⟩
   | .neq,some r=>some ⟨.bool (!r),[],[]⟩
   |_,_=>none
 | .unOp op _ x=>match ρ x with
  | .d (.v a)=>match unV op a with
   |some v=>some ⟨.d (.v v),[],[]⟩
   |none=>none
  |_=>none
 | .convert s d x=>Eff.one (ARY P s d (ρ x))
 | .makeInterface t x=>match ρ x with
  | .d a=>if P.concrete t then some ⟨.d (.iface t a),[],[]⟩ else none
  |_=>none
 | .makeFunc fn first caps=>some ⟨.fn fn (first.toList.map ρ) (caps.toList.map ρ),[],[]⟩
 | .makeSlice t l c=>bif mt then ASG P r t (ρ l) (ρ c) else Gl P r t (ρ l) (ρ c)
 | .slice t x lo hi mx=>match BJZ P t (ρ x) (lo.map ρ) (hi.map ρ) (mx.map ρ) with
  |some (a,p)=>some ⟨a,[],p⟩
  |none=>match lo,hi,mx with
   |none,none,none=>Eff.one (Ya P H t (ρ x))
   |lo,some hi,none=>lQ P H t (ρ x) (lo.map ρ) (some (ρ hi))
   |lo,hi,mx=>kX P H t (ρ x) (lo.map ρ) (hi.map ρ) (mx.map ρ)
 | .makeMap t h=>match h with
  |none=>AST P mt r t
  |some _=>none
 | .lookup t m ix ok=>Eff.of (eC P H t (ρ m) (ρ ix) ok)
 | .mapUpdate t m k x=>P1 P H t (ρ m) (ρ k) (ρ x)
 | .insert t m k x=>P1 P H t (ρ m) (ρ k) (ρ x)
 | .mapEntry t m k=>ADX P H t (ρ m) (ρ k)
 | .entryStore _ m s x=>cX H (ρ m) (ρ s) (ρ x)
 | .fieldAddr s x f=>Eff.one (ABF P s f (ρ x))
 | .field s x f=>Eff.one (BJB P s f (ρ x))
 | .indexAddr t x ix=>Eff.of (ADH P t (ρ x) (ρ ix))
 | .index t x ix=>Eff.of (BPR P t (ρ x) (ρ ix))
 | .extract x i=>Eff.one (ASP (ρ x) i)
 | .call c=>match c.callee with
  | .builtin b=>AEY P mt r H b c.argTypes (c.args.toList.map ρ)
  |_=>none
 |_=>none
def Runs(P:Program)(ρ:Operand->Value)(o:Oper)(w:World)(y:Value)(w':World):Prop:=
 (execOp ρ o).run P w=.ok (.value y) w'∨((execOp ρ o).run P w=.ok .skip w'/\y=undef)
theorem DRel.v_inv{x y:Value}(h:DRel B (.v x) y):y=x:=by cases h;rfl
theorem CN(hH:HRel B ι H w){a:AVal}{y:Value}(h:VRel B ι H.dom a y):OZ B ι H w (DV H []) a y w:=⟨B,ι,Moved.refl hH,h⟩
theorem uC{α β:Type}{f:α->β}{l:List α}{j:Nat}{y:β}(h:(l.map f)[j]?=some y):∃x,l[j]?=some x/\f x=y:=by
 simpa[List.getElem?_map,Option.map_eq_some_iff] using h
theorem AWC{mt:Bool}{r:Nat}{ρA:Operand->AVal}{ρ:Operand->Value}{o:Oper}{e:Eff}(h:opA P mt r ρA H o.op=some e)(hp:BG e.pre)(hρ:∀x,VRel B ι H.dom (ρA x) (ρ x))(hcv:∀v,ρ (.const v)=v)(hr:H r=.none)(hH:HRel B ι H w) :
  ∃y w',Runs P ρ o w y w'/\OZ B ι H w (DV H e.upd) e.val y w':=by
 obtain⟨dst,op,type,pos,after,guard⟩:=o
 simp only at h
 have val:∀{s:Sem Value} {y:Value} {w':World},s.run P w=.ok y w'->(do pure (Next.value (<-s)):Sem Next).run P w=.ok (.value y) w':=λhs=>by simp[hs]
 have maps:∀(l:Array Operand),(l.map ρ).size=(l.toList.map ρA).length/\∀(j:Nat) (a:AVal) (y:Value),(l.toList.map ρA)[j]?=some a->(l.map ρ)[j]?=some y->VRel B ι H.dom a y:=λl=>
  ⟨by simp,λj a y ha hy=>by
   obtain⟨x,hx,rfl⟩:=uC ha
   rw[Array.getElem?_toList] at hx
   simp[hx] at hy
   subst hy;exact hρ x⟩
 have pmaps:∀(l:Array (Nat×Operand)),(l.map λx=>(x.1,ρ x.2)).size=(l.toList.map λp=>(p.1,ρA p.2)).length/\∀(j:Nat) (a:Nat×AVal) (y:Nat×Value),(l.toList.map λp=>(p.1,ρA p.2))[j]?=some a->(l.map λx=>(x.1,ρ x.2))[j]?=some y->a.1=y.1/\VRel B ι H.dom a.2 y.2:=λl=>
  ⟨by simp,λj a y ha hy=>by
   obtain⟨x,hx,rfl⟩:=uC ha
   rw[Array.getElem?_toList] at hx
   simp[hx] at hy
   subst hy;exact⟨rfl,hρ x.2⟩⟩
 cases op<;>simp only[opA] at h<;>try (cases h;done)
 case move x=>cases h;exact⟨ρ x,w,.inl rfl,CN hH (hρ x)⟩
 case assign x=>cases h;exact⟨ρ x,w,.inl rfl,CN hH (hρ x)⟩
 case pick c a b=>
  split at h
  ·rename_i t hc
   cases h
   have:=hρ c
   rw[hc] at this
   have hcv:ρ c=.bool t:=this.d_inv.v_inv
   refine⟨if t then ρ a else ρ b,w,.inl (by simp[execOp,hcv,asBool]),CN hH ?_⟩
   simp only[BEW]
   obtain⟨hp1,hp2⟩:=BE hp
   cases t
   ·exact OC rfl hp2 (hρ b)
   ·exact OC rfl hp1 (hρ a)
  ·cases h
 case alloc t=>
  obtain⟨y,w',h1,h2⟩:=AYD h hp hr hH
  exact⟨y,w',.inl (val h1),h2⟩
 case box t x=>
  obtain⟨y,w',h1,h2⟩:=BPW (P:=P) (t:=t) h hr hH (hρ x)
  exact⟨y,w',.inl (val h1),h2⟩
 case build t ps=>
  unfold Eff.of at h;split at h
  ·rename_i a p hb
   cases h
   obtain⟨y,h1,h2⟩:=BDX hb hp (pmaps ps).1 (pmaps ps).2 w
   exact⟨y,w,.inl (val h1),CN hH h2⟩
  ·cases h
 case buildSlice t len ps=>
  split at h
  ·rename_i e0 hb
   cases h
   obtain⟨y,w',h1,h2⟩:=AFZ hb hr hH (pmaps ps).1 (pmaps ps).2
   exact⟨y,w',.inl (val h1),h2⟩
  ·obtain⟨y,w',h1,h2⟩:=AMG h hr hH (pmaps ps).1 (pmaps ps).2
   exact⟨y,w',.inl (val h1),h2⟩
 case load t a=>
  unfold Eff.of at h;split at h
  ·rename_i x p hb
   cases h
   obtain⟨y,h1,h2⟩:=ALY hb hp (hρ a) hH
   exact⟨y,w,.inl (val h1),CN hH h2⟩
  ·cases h
 case store t a x=>
  obtain⟨w',h1,h2⟩:=BBH h hp hH (hρ a) (hρ x)
  refine⟨undef,w',.inr ⟨by simp[execOp,h1],rfl⟩,?_⟩
  have:e.val=.d (.v undef):=BNM h
  rw[this] at h2 ⊢;exact h2
 case nilCheck x=>
  split at h
  ·rename_i hx
   cases h
   refine⟨ρ x,w,.inl ?_,CN hH (hρ x)⟩
   have hv:=hρ x
   generalize ρA x=a at hv hx
   have:∃b,ρ x=.pointer (some b):=by
    generalize ρ x=v at hv
    cases hv with
    |bptr=>exact⟨_,rfl⟩
    |rptr=>exact⟨_,rfl⟩
    |d hd=>cases hd<;>simp[CIB] at hx;exact⟨_,rfl⟩
    |_=>simp[CIB] at hx
   obtain⟨b,hb⟩:=this
   simp[execOp,hb]
  ·cases h
 case binOp op t x y yt=>
  split at h
  ·rename_i hy
   obtain⟨n',c',hyv⟩:∃n' c',ρ y=.slice none n' c':=by
    cases y with
    |const v=>
     rw[hcv]
     cases v with
     |slice base n c=>
      cases base with
      |none=>exact⟨n,c,rfl⟩
      |some a=>simp[BAY] at hy
     |_=>simp[BAY] at hy
    |_=>simp[BAY] at hy
   split at h
   ·rename_i hna
    cases h
    obtain⟨base,n,c,hx,b,h1⟩:=AYN (n':=n') (c':=c') hna (hρ x) w
    have hg:(eqGuard op t x y (ρ x) (ρ y)).run P w=.ok () w:=by
     rw[hx,hyv]
     unfold eqGuard
     split<;>rfl
    refine⟨.bool b,w,.inl ?_,CN hH (.d .anyB)⟩
    rw[show execOp ρ ⟨dst,.binOp op t x y yt,type,pos,after,guard⟩=(do pure (.value (<-(do eqGuard op t x y (ρ x) (ρ y);binOp op t (ρ x) (ρ y))))) from rfl]
    rw[hyv] at hg ⊢
    simp only[Sem.run_bind,hg,h1,Result.andThen_ok,Sem.run_pure]
   unfold Eff.of at h;split at h
   ·rename_i a p hb
    cases h
    rw[Option.map_eq_some_iff] at hb
    obtain⟨⟨b,p'⟩,hb,he⟩:=hb
    cases he
    obtain⟨base,n,c,hx⟩:∃base n c,ρ x=.slice base n c:=by
     unfold BCH at hb
     split at hb
     ·rename_i hn _;cases hb;obtain⟨base,n,c,h1,_⟩:=rW hn hp (hρ x);exact⟨base,n,c,h1⟩
     ·rename_i hn _;cases hb;obtain⟨base,n,c,h1,_⟩:=rW hn hp (hρ x);exact⟨base,n,c,h1⟩
     ·cases hb
    have h1:=AYP (n':=n') (c':=c') hb hp (hρ x) w
    have hg:(eqGuard op t x y (ρ x) (ρ y)).run P w=.ok () w:=by
     rw[hx,hyv]
     unfold eqGuard
     split<;>rfl
    refine⟨.bool b,w,.inl ?_,CN hH (.d (.v _))⟩
    rw[show execOp ρ ⟨dst,.binOp op t x y yt,type,pos,after,guard⟩=(do pure (.value (<-(do eqGuard op t x y (ρ x) (ρ y);binOp op t (ρ x) (ρ y))))) from rfl]
    rw[hyv] at hg ⊢
    simp only[Sem.run_bind,hg,h1,Result.andThen_ok,Sem.run_pure]
   ·cases h
  split at h
  ·rename_i a b ha hb
   split at h
   ·rename_i v p hv
    cases h
    have h1:=hρ x;have h2:=hρ y
    rw[ha] at h1;rw[hb] at h2
    have h1:ρ x=a:=h1.d_inv.v_inv
    have h2:ρ y=b:=h2.d_inv.v_inv
    have:=BKO (x:=x) (y:=y) hv hp w
    exact⟨v,w,.inl (by rw[show execOp ρ ⟨dst,.binOp op t x y yt,type,pos,after,guard⟩=(do pure (.value (<-(do eqGuard op t x y (ρ x) (ρ y);binOp op t (ρ x) (ρ y))))) from rfl,h1,h2];exact val this),CN hH (.d (.v _))⟩
   ·cases h
  ·split at h
   ·rename_i r heq
    cases h
    obtain⟨⟨a,b,ha,hb⟩,hg,he⟩:=AWE heq (hρ x) (hρ y)
    refine⟨.bool r,w,.inl ?_,CN hH (.d (.v _))⟩
    rw[ha,hb] at he
    have h3:binOp .eql t (.agg a) (.agg b)=(do pure (.bool (<-Op.equal t (.agg a) (.agg b)))):=rfl
    simp[execOp,ha,hb,eqGuard,hg,h3,he]
   ·rename_i r heq
    cases h
    obtain⟨⟨a,b,ha,hb⟩,hg,he⟩:=AWE heq (hρ x) (hρ y)
    refine⟨.bool (!r),w,.inl ?_,CN hH (.d (.v _))⟩
    rw[ha,hb] at he
    have h3:binOp .neq t (.agg a) (.agg b)=(do pure (.bool (!(<-Op.equal t (.agg a) (.agg b))))):=rfl
    simp[execOp,ha,hb,eqGuard,hg,h3,he]
   ·cases h
 case unOp op t x=>
  split at h
  ·rename_i a ha
   split at h
   ·rename_i v hv
    cases h
    have h1:=hρ x
    rw[ha] at h1
    have h1:ρ x=a:=h1.d_inv.v_inv
    refine⟨v,w,.inl ?_,CN hH (.d (.v _))⟩
    have:=BXQ (P:=P) hv w
    simp[execOp,h1,this]
   ·cases h
  ·cases h
 case convert s d x=>
  unfold Eff.one at h;split at h
  ·rename_i a ha
   cases h
   obtain⟨y,h1,h2⟩:=ARQ ha (hρ x) w
   exact⟨y,w,.inl (val h1),CN hH h2⟩
  ·cases h
 case makeInterface t x=>
  split at h
  ·rename_i d hx
   split at h
   ·rename_i hc
    cases h
    have hv:=hρ x
    rw[hx] at hv
    exact⟨_,w,.inl (val (run_makeInterface w t (ρ x) hc)),CN hH (.d (.iface hv.d_inv))⟩
   ·cases h
  ·cases h
 case makeFunc fn first caps=>
  cases h
  refine⟨.func fn (first.map ρ) (caps.map ρ),w,.inl (by simp[execOp,Instr.makeFunc]),CN hH (.fn (maps first).1 (maps caps).1 (maps first).2 (maps caps).2)⟩
 case makeSlice t l c=>
  cases mt with
  |true=>
   obtain⟨y,w',h1,h2⟩:=AOA h hp hr hH (hρ l) (hρ c)
   exact⟨y,w',.inl (val h1),h2⟩
  |false=>
   obtain⟨y,w',h1,h2⟩:=AJP h hp hr hH (hρ l) (hρ c)
   exact⟨y,w',.inl (val h1),h2⟩
 case slice t x lo hi mx=>
  have opt:∀(q:Option Operand),(∀a,q.map ρA=some a->∃y,q.map ρ=some y/\VRel B ι H.dom a y)/\(q.map ρA=none->q.map ρ=none):=λq=>by
   cases q with
   |none=>exact⟨λ_ h=>(by cases h),λ_=>rfl⟩
   |some x=>exact⟨λa h=>(by cases h;exact⟨_,rfl,hρ x⟩),λh=>(by cases h)⟩
  split at h
  ·rename_i a p hb
   cases h
   obtain⟨y,h1,h2⟩:=BDE hb hp (hρ x) (opt lo).1 (opt lo).2 (opt hi).1 (opt hi).2 (opt mx).1 (opt mx).2 w
   exact⟨y,w,.inl (val h1),CN hH h2⟩
  ·split at h
   ·unfold Eff.one at h;split at h
    ·rename_i a hb
     cases h
     obtain⟨y,h1,h2⟩:=AMH hb (hρ x) hH
     exact⟨y,w,.inl (val h1),CN hH h2⟩
    ·cases h
   ·rename_i hi0 _
    obtain⟨y,h1,h2⟩:=ASC h hp (hρ x) hH (opt lo).2 (opt (some hi0)).1
    exact⟨y,w,.inl (val h1),h2⟩
   ·obtain⟨y,h1,h2⟩:=AOQ h hp (hρ x) hH (opt lo).1 (opt lo).2 (opt hi).1 (opt mx).1
    exact⟨y,w,.inl (val h1),h2⟩
 case makeMap t r'=>
  split at h
  ·obtain⟨y,w',h1,h2⟩:=APM h hr hH
   exact⟨y,w',.inl (val h1),h2⟩
  ·cases h
 case lookup t m ix ok=>
  unfold Eff.of at h;split at h
  ·rename_i a p hb
   cases h
   obtain⟨y,h1,h2⟩:=AUF hb hp (hρ m) (hρ ix) hH
   exact⟨y,w,.inl (val h1),CN hH h2⟩
  ·cases h
 case mapUpdate t m k x=>
  obtain⟨w',h1,h2⟩:=S8 h hp hH (hρ m) (hρ k) (hρ x)
  exact⟨undef,w',.inr ⟨by simp[execOp,h1],rfl⟩,h2⟩
 case insert t m k x=>
  obtain⟨w',h1,h2⟩:=S8 h hp hH (hρ m) (hρ k) (hρ x)
  exact⟨undef,w',.inr ⟨by simp[execOp,h1],rfl⟩,h2⟩
 case mapEntry t m k=>
  obtain⟨y,w',h1,h2⟩:=BBL h hp hH (hρ m) (hρ k)
  exact⟨y,w',.inl (val h1),h2⟩
 case entryStore t m s x=>
  obtain⟨w',h1,h2⟩:=AEF (P:=P) (t:=t) h hp hH (hρ m) (hρ s) (hρ x)
  exact⟨undef,w',.inr ⟨by simp[execOp,h1],rfl⟩,h2⟩
 case fieldAddr s x f=>
  unfold Eff.one at h;split at h
  ·rename_i a ha
   cases h
   obtain⟨y,h1,h2⟩:=AJF (w:=w) ha (hρ x)
   exact⟨y,w,.inl (val h1),CN hH h2⟩
  ·cases h
 case field s x f=>
  unfold Eff.one at h;split at h
  ·rename_i a ha
   cases h
   obtain⟨y,h1,h2⟩:=BAG ha (hρ x) w
   exact⟨y,w,.inl (val h1),CN hH h2⟩
  ·cases h
 case indexAddr t x ix=>
  unfold Eff.of at h;split at h
  ·rename_i a p hb
   cases h
   obtain⟨y,h1,h2⟩:=AGL hb hp (hρ x) (hρ ix) w
   exact⟨y,w,.inl (val h1),CN hH h2⟩
  ·cases h
 case index t x ix=>
  unfold Eff.of at h;split at h
  ·rename_i a p hb
   cases h
   obtain⟨y,h1,h2⟩:=AZG hb hp (hρ x) (hρ ix) w
   exact⟨y,w,.inl (val h1),CN hH h2⟩
  ·cases h
 case extract x i=>
  unfold Eff.one at h;split at h
  ·rename_i a ha
   cases h
   obtain⟨y,h1,h2⟩:=ASR ha (hρ x) w
   exact⟨y,w,.inl (val h1),CN hH h2⟩
  ·cases h
 case call c=>
  split at h
  ·rename_i b hb
   obtain⟨callee,args,ats⟩:=c
   simp only at hb h
   subst hb
   have hex:∀{s:Sem Value} {y:Value} {w':World},builtin b ats type (args.map λ| .const _=>true | _=>false) (args.map ρ)=(do pure (.value (<-s)))->s.run P w=.ok y w' ->
     Runs P ρ ⟨dst,.call ⟨.builtin b,args,ats⟩,type,pos,after,guard⟩ w y w':=λh1 h2=>.inl (by
    rw[show execOp ρ ⟨dst,.call ⟨.builtin b,args,ats⟩,type,pos,after,guard⟩=builtin b ats type (args.map λ| .const _=>true | _=>false) (args.map ρ) from rfl,h1];exact val h2)
   have hm:=maps args
   unfold AEY at h
   split at h
   ·rename_i a hl
    split at h
    ·rename_i t ht
     rw[hl] at hm
     have hsz:(args.map ρ).size=1:=by simpa using hm.1
     obtain⟨v,hv⟩:∃v,args.map ρ=#[v]:=by
      generalize args.map ρ=l at hsz
      match l,hsz with
      |⟨[v]⟩,_=>exact⟨v,rfl⟩
     have hva:=hm.2 0 a v rfl (by rw[hv];rfl)
     split at h
     ·rename_i q hq
      cases h
      obtain⟨y,h1,h2⟩:=BLI (P:=P) (ty:=type) hq hva ht w
      exact⟨y,w,hex (s:=Builtin.len_ ats type (args.map ρ)) rfl (by rw[hv];exact h1),CN hH h2⟩
     ·obtain⟨y,h1,h2,h3⟩:=BHT (P:=P) (ty:=type) h hp ht hH hva
      refine⟨y,w,hex (s:=Builtin.len_ ats type (args.map ρ)) rfl (by rw[hv];exact h1),?_⟩
      rw[h2];exact CN hH h3
    ·cases h
   ·rename_i a hl
    split at h
    ·rename_i t ht
     rw[hl] at hm
     have hsz:(args.map ρ).size=1:=by simpa using hm.1
     obtain⟨v,hv⟩:∃v,args.map ρ=#[v]:=by
      generalize args.map ρ=l at hsz
      match l,hsz with
      |⟨[v]⟩,_=>exact⟨v,rfl⟩
     have hva:=hm.2 0 a v rfl (by rw[hv];rfl)
     obtain⟨y,w',h1,h2⟩:=BEI (P:=P) (ty:=type) h ht hH hva
     exact⟨y,w',hex (s:=Builtin.clear_ ats type (args.map ρ)) rfl (by rw[hv];exact h1),h2⟩
    ·cases h
   ·rename_i a k hl
    split at h
    ·rename_i t ht
     rw[hl] at hm
     have hsz:(args.map ρ).size=2:=by simpa using hm.1
     obtain⟨v,u,hv⟩:∃v u,args.map ρ=#[v,u]:=by
      generalize args.map ρ=l at hsz
      match l,hsz with
      |⟨[v,u]⟩,_=>exact⟨v,u,rfl⟩
     have hva:=hm.2 0 a v rfl (by rw[hv];rfl)
     have hvb:=hm.2 1 k u rfl (by rw[hv];rfl)
     obtain⟨y,w',h1,h2⟩:=BMC (P:=P) (ty:=type) h hp ht hH hva hvb
     exact⟨y,w',hex (s:=Builtin.delete_ ats type (args.map ρ)) rfl (by rw[hv];exact h1),h2⟩
    ·cases h
   ·rename_i s x hl
    split at h
    ·rename_i t t2 ht
     rw[hl] at hm
     have hsz:(args.map ρ).size=2:=by simpa using hm.1
     obtain⟨v,u,hv⟩:∃v u,args.map ρ=#[v,u]:=by
      generalize args.map ρ=l at hsz
      match l,hsz with
      |⟨[v,u]⟩,_=>exact⟨v,u,rfl⟩
     have hva:=hm.2 0 s v rfl (by rw[hv];rfl)
     have hvb:=hm.2 1 x u rfl (by rw[hv];rfl)
     have hats:ats=#[t,t2]:=by
      have:=congrArg List.toArray ht
      simpa using this
     obtain⟨y,w',h1,h2⟩:=AUE (ty:=type) h hp hr hH hva hvb
     exact⟨y,w',hex (s:=Builtin.append_ ats type (args.map ρ)) rfl (by rw[hv,hats];exact h1),h2⟩
    ·cases h
   ·rename_i d x hl
    split at h
    ·rename_i t ht
     rw[hl] at hm
     have hsz:(args.map ρ).size=2:=by simpa using hm.1
     obtain⟨v,u,hv⟩:∃v u,args.map ρ=#[v,u]:=by
      generalize args.map ρ=l at hsz
      match l,hsz with
      |⟨[v,u]⟩,_=>exact⟨v,u,rfl⟩
     have hva:=hm.2 0 d v rfl (by rw[hv];rfl)
     have hvb:=hm.2 1 x u rfl (by rw[hv];rfl)
     obtain⟨y,w',h1,h2⟩:=BGU (ty:=type) h hp ht hva hvb hH
     exact⟨y,w',hex (s:=Builtin.copy_ ats type (args.map ρ)) rfl (by rw[hv];exact h1),h2⟩
    ·cases h
   ·unfold Eff.one at h;split at h
    ·rename_i q hq
     cases h
     obtain⟨y,h1,h2⟩:=AMF (P:=P) (ats:=ats) (ty:=type) hq hm.1 hm.2 w
     exact⟨y,w,hex (s:=Builtin.min_ ats type (args.map ρ)) rfl h1,CN hH h2⟩
    ·cases h
   ·unfold Eff.one at h;split at h
    ·rename_i q hq
     cases h
     obtain⟨y,h1,h2⟩:=AMI (P:=P) (ats:=ats) (ty:=type) hq hm.1 hm.2 w
     exact⟨y,w,hex (s:=Builtin.max_ ats type (args.map ρ)) rfl h1,CN hH h2⟩
    ·cases h
   ·cases h
  ·cases h
end Go.Sym
