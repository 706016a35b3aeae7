/- Slice expressions, make, index, conversions, comparisons of structs. -/
import Derived.Test.YtpidmmilfdcepaaGreatSym3
import Derived.Laws.StructEq
import Derived.ChangeKeysEq
import Derived.RangeFuncRecord
set_option linter.unusedVariables false
set_option linter.unusedSimpArgs false
namespace Go.Sym
variable {P : Program} {B B' : Fi} {ι ι' : Nat -> Pl} {H H' : Heap} {D : Nat -> Prop} {w w' : World}
def szT(P:Program)(t:TypeId):Option Nat:=(P.info? t).map λi=>i.size
def xY(d:Int):Option AVal->Option Int
 |none=>some d
 |some (.d (.v (.int _ n)))=>some n
 |some _=>none
theorem WE{d n:Int}{a:Option AVal}{v:Option Value}(h:xY d a=some n)(hv:∀x,a=some x->∃y,v=some y/\VRel B ι D x y)(hn:a=none->v=none) :
  (v=none/\n=d)∨∃k,v=some (.int k n):=by
 cases a with
 |none=>simp only[xY,Option.some.injEq] at h;exact .inl ⟨hn rfl,h.symm⟩
 |some x=>
  obtain⟨y,rfl,hy⟩:=hv x rfl
  unfold xY at h
  split at h
  ·rename_i h0;cases h0
  ·rename_i h0;cases h0;cases h;cases hy.d_inv;exact .inr ⟨_,rfl⟩
  ·cases h
def BHF(P:Program)(t:TypeId)(x:AVal)(lo hi mx:Option AVal):Option (AVal×List Prop):=
 match P.underlying t,x with
 |some (.slice e),.d (.list k n get _)=>
  if szT P e==some k then match xY 0 lo,xY n hi,mx with
   |some l,some h,none=>some (.d (.list k (h.toNat-l.toNat) (λi=>get (l.toNat+i)) false),[0<=l/\l<=h/\h<=n])
   |some l,some h,some (.d (.v (.int _ m)))=>if hi.isSome then some (.d (.list k (h.toNat-l.toNat) (λi=>get (l.toNat+i)) true),[0<=l/\l<=h/\h=m/\h<=n]) else none
   |_,_,_=>none
  else none
 |some (.slice e),.own id k i n=>
  if szT P e==some k then match xY 0 lo,xY n hi,mx with
   |some l,some h,none=>some (.own id k (i+l.toNat) (h.toNat-l.toNat),[0<=l/\l<=h/\h<=n/\(l=0∨l<h)])
   |_,_,_=>none
  else none
 |_,_=>none
theorem ALL{lo hi:Option Value}{l h:Int}{n cap:Nat}(h1:(lo=none/\l=0)∨∃k,lo=some (.int k l))(h2:(hi=none/\h=n)∨∃k,hi=some (.int k h))(hl:0<=l)(hlh:l<=h)(hn:h<=n)(hc:n<=cap)(w:World) :
  (Instr.sliceBounds true n cap lo hi none).run P w=.ok (l.toNat,h.toNat,cap) w:=by
 have e1:h<=(cap:Int):=by omega
 have e2:0<=h:=by omega
 have e3:max h 0=h:=by omega
 rcases h1 with⟨rfl,rfl⟩ | ⟨k1,rfl⟩<;>rcases h2 with⟨rfl,rfl⟩ | ⟨k2,rfl⟩<;>simp[Instr.sliceBounds,Instr.sliceBound,asIntOf, *]
theorem AHT{lo:Option Value}{k k3:IntKind}{l h:Int}{n cap:Nat}(h1:(lo=none/\l=0)∨∃k,lo=some (.int k l))(hl:0<=l)(hlh:l<=h)(hn:h<=n)(hc:n<=cap)(w:World) :
  (Instr.sliceBounds true n cap lo (some (.int k h)) (some (.int k3 h))).run P w=.ok (l.toNat,h.toNat,h.toNat) w:=by
 have e1:h<=(cap:Int):=by omega
 have e2:0<=h:=by omega
 have e3:max h 0=h:=by omega
 rcases h1 with⟨rfl,rfl⟩ | ⟨k1,rfl⟩<;>simp[Instr.sliceBounds,Instr.sliceBound,asIntOf, *]
theorem AMI{k n l h:Nat}{get:Nat->DVal}{ex:Bool}{base:Option Addr}{cap m:Nat}(hd:DRel B (.list k n get ex) (.slice base n cap))(hlh:l<=h)(hn:h<=n)(hm:h<=m)(hmc:m<=cap) :
  DRel B (.list k (h-l) (λi=>get (l+i)) (decide (m=h))) (.slice (if m=l then base else base.map (·.add (l*k))) (h-l) (m-l)):=by
 rcases Nat.eq_zero_or_pos (h-l) with h0 | h0
 ·rw[h0]
  refine .nil (λhx=>by simp at hx;omega) ?_
  by_cases hml:m=l
  ·exact .inl (by omega)
  ·right
   rw[if_neg hml]
   cases hd with
   |nil _ hb=>
    rcases hb with hb | hb
    ·omega
    ·cases base with
     |none=>exact absurd rfl hb
     |some a=>simp
   |list=>simp
 ·cases hd with
  |nil=>omega
  |list hn0 hb hcap hex hk hsz hrel=>
   rename_i b off c
   rw[if_neg (by omega)]
   simp only[Option.map_some,Jz]
   have h1:h*k<=n*k:=Nat.mul_le_mul_right k hn
   have h2:(h-l)*k+l*k=h*k:=by rw[<-Nat.add_mul];congr 1;omega
   refine .list h0 hb (by omega) (λhx=>by simp at hx;omega) (λi hi=>hk _ (by omega)) (by omega) λi j x y hi hx hy=>?_
   refine hrel (l+i) j x y (by omega) hx ?_
   rw[Nat.add_mul,show off+(l*k+i*k)+j=off+l*k+i*k+j by omega];exact hy
theorem DRel.weak{k n:Nat}{get:Nat->DVal}{ex:Bool}{y:Value}(h:DRel B (.list k n get ex) y):DRel B (.list k n get false) y:=by
 cases h with
 |nil a b=>exact .nil (by simp) b
 |list a b c d e f g=>exact .list a b c (by simp) e f g
theorem AWW{t:TypeId}{x:AVal}{lo hi mx:Option AVal}{q:AVal}{pre:List Prop}{v:Value}{lov hiv mxv:Option Value}(h:BHF P t x lo hi mx=some (q,pre))(hp:DJ pre)(hv:VRel B ι D x v)
  (hlo:∀a,lo=some a->∃y,lov=some y/\VRel B ι D a y) (hlo0:lo=none->lov=none) (hhi:∀a,hi=some a->∃y,hiv=some y/\VRel B ι D a y) (hhi0:hi=none->hiv=none)
  (hmx:∀a,mx=some a->∃y,mxv=some y/\VRel B ι D a y) (hmx0:mx=none->mxv=none) (w:World) :
  ∃y,(Instr.sliceAt t v lov hiv mxv).run P w=.ok y w/\VRel B ι D q y:=by
 unfold BHF at h
 split at h
 ·rename_i e k n get ex hu
  split at h
  case isFalse=>cases h
  rename_i hs
  have hs:(P.info? e).map (λi=>i.size)=some k:=eq_of_beq hs
  obtain⟨base,cap,rfl⟩:∃base cap,v=.slice base n cap:=by
   cases hv.d_inv<;>exact⟨_,_,rfl⟩
  have hnc:n<=cap:=by cases hv.d_inv<;>omega
  split at h
  ·rename_i l hh hl hhh
   cases h
   obtain⟨p1,p2,p3⟩:=hp
   have b1:=WE hl hlo hlo0
   have b2:=WE hhh hhi hhi0
   have hm0:=hmx0 rfl
   subst hm0
   refine⟨_,by simp only[Instr.sliceAt,Sem.run_bind,run_underlying hu,Result.andThen_ok,Instr.slice,ALL b1 b2 p1 p2 p3 hnc,HH hs,Sem.run_pure];rfl,.d ?_⟩
   have:=AMI (l:=l.toNat) (h:=hh.toNat) (m:=cap) hv.d_inv (by omega) (by omega) (by omega) (Nat.le_refl _)
   exact DRel.weak this
  ·rename_i l hh k3 m hl hhh
   split at h
   case isFalse=>cases h
   rename_i hsome
   cases h
   obtain⟨p1,p2,rfl,p3⟩:=hp
   have b1:=WE hl hlo hlo0
   have b2:=WE hhh hhi hhi0
   obtain⟨a,rfl⟩:=Option.isSome_iff_exists.1 hsome
   obtain⟨y,hy,_⟩:=hhi a rfl
   rcases b2 with⟨b2,_⟩ | ⟨k4,b2⟩
   ·rw[hy] at b2;cases b2
   subst b2
   obtain⟨y3,hy3,hy3r⟩:=hmx _ rfl
   subst hy3
   cases hy3r.d_inv
   refine⟨_,by simp only[Instr.sliceAt,Sem.run_bind,run_underlying hu,Result.andThen_ok,Instr.slice,AHT b1 p1 p2 p3 hnc,HH hs,Sem.run_pure];rfl,.d ?_⟩
   have:=AMI (l:=l.toNat) (h:=hh.toNat) (m:=hh.toNat) hv.d_inv (by omega) (by omega) (Nat.le_refl _) (by omega)
   simpa using this
  ·cases h
 ·rename_i e id k i n hu
  split at h
  case isFalse=>cases h
  rename_i hs
  have hs:(P.info? e).map (λi=>i.size)=some k:=eq_of_beq hs
  split at h
  ·rename_i l hh hl hhh
   cases h
   obtain⟨p1,p2,p3,p4⟩:=hp
   have b1:=WE hl hlo hlo0
   have b2:=WE hhh hhi hhi0
   have hm0:=hmx0 rfl
   subst hm0
   cases hv
   rename_i cap hD hq hcap
   refine⟨_,by simp only[Instr.sliceAt,Sem.run_bind,run_underlying hu,Result.andThen_ok,Instr.slice,ALL b1 b2 p1 p2 p3 hcap,HH hs,Sem.run_pure];rfl,?_⟩
   have:=VRel.own (B:=B) (ι:=ι) (D:=D) (id:=id) (k:=k) (i:=i+l.toNat) (n:=hh.toNat-l.toNat) (cap:=cap-l.toNat) hD (by omega) (by omega)
   have e1:(if cap=l.toNat then (some (⟨(ι id).b,i*k,none⟩:Addr)) else (some (⟨(ι id).b,i*k,none⟩:Addr)).map (·.add (l.toNat*k)))=some ⟨(ι id).b,(i+l.toNat)*k,none⟩:=by
    split
    ·have:l.toNat=0:=by omega
     simp[this]
    ·simp[Jz,Nat.add_mul]
   rw[e1];exact this
  ·cases h
 ·cases h
def Ge(P:Program)(r:Nat)(t:TypeId)(len cap:AVal):Option Eff:=match P.underlying t,intA len,intA cap with
 |some (.slice e),some (_,n),some (_,c)=>match (P.info? e).map (λi=>(i.size,i.bytes)),(P.info? e).bind (·.zero) with
  |some (k,bytes),some z=>if z.cells.size==k&&GE (ofV z).cells1&&Nat.blt 0 k then
   some ⟨.own r k 0 n.toNat,[(r,.live (.row k n.toNat λ_=>ofV z))],[0<=n/\n=c/\n<=9223372036854775807/\bytes*n<=281474976710656]⟩ else none
  |_,_=>none
 |_,_,_=>none
theorem AJG{n:Int}(h0:0<=n)(h1:n<=9223372036854775807):IntKind.i64.wrap n=n:=by
 simp only[IntKind.wrap,IntKind.bits,IntKind.signed]
 have:n % (2 ^ 64:Int)=n:=Int.emod_eq_of_lt h0 (by omega)
 simp only[this]
 rw[if_neg (by simp;omega)]
theorem AFC{r:Nat}{t:TypeId}{len cap:AVal}{vl vc:Value}{e:Eff}(h:Ge P r t len cap=some e)(hp:DJ e.pre)(hr:H r=.none)(hH:HRel B ι H w)(hl:VRel B ι D len vl)(hc:VRel B ι D cap vc) :
  ∃y w',(Instr.makeSlice t vl vc).run P w=.ok y w'/\SD B ι H w (GF H e.upd) e.val y w':=by
 unfold Ge at h
 split at h
 case h_2=>cases h
 rename_i el k0 n k00 c hu hil hic
 have:=Ap hil hl;subst this
 have:=Ap hic hc;subst this
 split at h
 case h_2=>cases h
 rename_i k bytes z hi hz
 split at h
 case isFalse=>cases h
 rename_i hcc
 simp only[Bool.and_eq_true,beq_iff_eq,Nat.blt_eq] at hcc
 obtain⟨⟨hzk,hone⟩,hk0⟩:=hcc
 cases h
 obtain⟨p1,rfl,p2,p3⟩:=hp
 obtain⟨i,hii⟩:∃i,P.info? el=some i:=by
  cases hii:P.info? el with
  |none=>simp[hii] at hi
  |some i=>exact⟨i,rfl⟩
 simp only[hii,Option.map_some,Option.some.injEq,Prod.mk.injEq,Option.bind_some] at hi hz
 obtain⟨rfl,rfl⟩:=hi
 obtain⟨m,rfl⟩:=Int.eq_ofNat_of_zero_le p1
 have e1:¬ ((m:Int)<0):=by omega
 have e2:¬ (281474976710656<(i.bytes:Int)*(m:Int)):=by omega
 have hzz:(zeroValue el).run P w=.ok z w:=by simp[zeroValue,XH hii,hz]
 have hsz:(sizeOf el).run P w=.ok i.size w:=by simp[sizeOf,XH hii]
 have hrow:=zJ z.cells m i.size hzk hk0
 refine⟨.slice (some ⟨w.heap.size,0,none⟩) m m,w.alloc (.cells ((Array.range (m*i.size)).map λj=>z.cells[j % z.cells.size]!) el),?_,?_⟩
 ·by_cases hm:m*i.size=0
  ·simp[Instr.makeSlice,run_underlying hu,asInt,asIntOf,XH hii,AJG p1 p2,e1,e2,hsz,hm,newRow]
   rw[show Array.range 0=#[] from rfl,Array.map_empty,Array.map_empty]
  ·simp[Instr.makeSlice,run_underlying hu,asInt,asIntOf,XH hii,AJG p1 p2,e1,e2,hsz,hm,newRow,hzz]
 ·obtain⟨B',ι',m1,m2,m3⟩:=C0 (k:=i.size) (n:=m) (get:=λ_=>ofV z) (cs:=(Array.range (m*i.size)).map λj=>z.cells[j % z.cells.size]!) hr hH m el
   (λj _=>⟨by rw[NG,hzk],hone⟩) (Nat.le_refl _) (by simp) (λj l x y hj hx hy=>by
    have hlt:=(List.getElem?_eq_some_iff.1 hx).1
    rw[NG,hzk] at hlt
    rw[<-Array.getElem?_toList,hrow,HN (by simpa using hzk) m j l hj hlt,Array.getElem?_toList] at hy
    exact qX z l x y hx hy)
  refine⟨B',ι',m1,?_⟩
  have:=VRel.own (B:=B') (ι:=ι') (D:=(FL H r (.live (.row i.size m λ_=>ofV z))).dom) (k:=i.size) (i:=0) (n:=m) (cap:=m) m2 (Nat.le_refl _) (by rw[m3];simp)
  rw[m3,show 0*i.size=0 by simp] at this;exact this
theorem ALG{r:Nat}{t:TypeId}{len cap:AVal}{vl vc:Value}{e:Eff}(h:Ge P r t len cap=some e)(hp:DJ e.pre)(hH:HRel B ι H w)(hl:VRel B ι D len vl)(hc:VRel B ι D cap vc) :
  ∃k n get y w',e=⟨.own r k 0 n,[(r,.live (.row k n get))],e.pre⟩/\(Instr.makeSlice t vl vc).run P w=.ok y w'/\SD B ι H w H (.d (.list k n get true)) y w':=by
 unfold Ge at h
 split at h
 case h_2=>cases h
 rename_i el k0 n k00 c hu hil hic
 have:=Ap hil hl;subst this
 have:=Ap hic hc;subst this
 split at h
 case h_2=>cases h
 rename_i k bytes z hi hz
 split at h
 case isFalse=>cases h
 rename_i hcc
 simp only[Bool.and_eq_true,beq_iff_eq,Nat.blt_eq] at hcc
 obtain⟨⟨hzk,hone⟩,hk0⟩:=hcc
 cases h
 obtain⟨p1,rfl,p2,p3⟩:=hp
 obtain⟨i,hii⟩:∃i,P.info? el=some i:=by
  cases hii:P.info? el with
  |none=>simp[hii] at hi
  |some i=>exact⟨i,rfl⟩
 simp only[hii,Option.map_some,Option.some.injEq,Prod.mk.injEq,Option.bind_some] at hi hz
 obtain⟨rfl,rfl⟩:=hi
 obtain⟨m,rfl⟩:=Int.eq_ofNat_of_zero_le p1
 have e1:¬ ((m:Int)<0):=by omega
 have e2:¬ (281474976710656<(i.bytes:Int)*(m:Int)):=by omega
 have hzz:(zeroValue el).run P w=.ok z w:=by simp[zeroValue,XH hii,hz]
 have hsz:(sizeOf el).run P w=.ok i.size w:=by simp[sizeOf,XH hii]
 have hrow:=zJ z.cells m i.size hzk hk0
 refine⟨i.size,m,λ_=>ofV z,.slice (some ⟨w.heap.size,0,none⟩) m m,w.alloc (.cells ((Array.range (m*i.size)).map λj=>z.cells[j % z.cells.size]!) el),rfl,?_,?_⟩
 ·by_cases hm:m*i.size=0
  ·simp[Instr.makeSlice,run_underlying hu,asInt,asIntOf,XH hii,AJG p1 p2,e1,e2,hsz,hm,newRow]
   rw[show Array.range 0=#[] from rfl,Array.map_empty,Array.map_empty]
  ·simp[Instr.makeSlice,run_underlying hu,asInt,asIntOf,XH hii,AJG p1 p2,e1,e2,hsz,hm,newRow,hzz]
 ·refine⟨_,ι,Moved.newImm hH ((Array.range (m*i.size)).map λj=>z.cells[j % z.cells.size]!) el,.d ?_⟩
  by_cases hm:m=0
  ·subst hm;exact .nil (λ_=>rfl) (.inl rfl)
  ·refine .list (by omega) (c:=(Array.range (m*i.size)).map λj=>z.cells[j % z.cells.size]!) (if_pos rfl) (Nat.le_refl _) (λ_=>rfl) (λj _=>⟨by rw[NG,hzk],hone⟩) (by simp) (λj l x y hj hx hy=>?_)
   have hlt:=(List.getElem?_eq_some_iff.1 hx).1
   rw[NG,hzk] at hlt
   rw[Nat.zero_add,<-Array.getElem?_toList,hrow,HN (by simpa using hzk) m j l hj hlt,Array.getElem?_toList] at hy
   exact qX z l x y hx hy
def BKH(P:Program)(t:TypeId)(x ix:AVal):Option (AVal×List Prop):=match intA ix,P.underlying t with
 |some (_,j),some (.array m e)=>match x,P.underlying e,szT P e with
  | .d (.arr k n get),some d,some k'=>match (get j.toNat) with
   | .agg ds=>if Lo d&&k==k'&&m==n then some (.d (.agg ds),[0<=j/\j<m]) else none
   |q=>if !Lo d&&k==1&&k'==1&&m==n then some (.d q,[0<=j/\j<m]) else none
  |_,_,_=>none
 |some (_,j),some .string=>match x with
  | .d (.v (.string s))=>some (.d (.v (.int .u8 (s.data.toList.getD j.toNat 0).toNat)),[0<=j/\j<s.size])
  |_=>none
 |_,_=>none
theorem BFM{k n:Nat}{get:Nat->DVal}{ys:Array Value}(h:DRel B (.arr k n get) (.agg ys)){j:Nat}(hj:j<n) :
  j*k+k<=ys.size/\(get j).cells1.length=k/\∀(l:Nat) (x:DVal) (y:Value),(get j).cells1[l]?=some x->ys[j*k+l]?=some y->DRel B x y:=by
 cases h with
 |arr hl hk hr=>
  have h1:(j+1)*k<=n*k:=Nat.mul_le_mul_right k hj
  have h2:(j+1)*k=j*k+k:=Nat.succ_mul j k
  exact⟨by omega,(hk j hj).len,λl x y hx hy=>hr j l x y hj hx hy⟩
theorem AYX{t:TypeId}{x ix q:AVal}{u v:Value}{pre:List Prop}(h:BKH P t x ix=some (q,pre))(hp:DJ pre)(hu:VRel B ι D x u)(hv:VRel B ι D ix v)(w:World) :
  ∃y,(Instr.index t u v).run P w=.ok y w/\VRel B ι D q y:=by
 unfold BKH at h
 split at h
 ·rename_i k0 j m e hi ht
  have:=Ap hi hv;subst this
  split at h
  ·rename_i k n get d k' hd hs
   have hs:(P.info? e).map (λi=>i.size)=some k':=hs
   split at h
   ·rename_i ds hg
    split at h
    case isFalse=>cases h
    rename_i hc
    simp only[Bool.and_eq_true,beq_iff_eq] at hc
    obtain⟨⟨hrow,rfl⟩,rfl⟩:=hc
    cases h
    have hp':0<=j/\j<(m:Int):=hp
    obtain⟨ys,rfl⟩:∃ys,u=.agg ys:=by cases hu.d_inv;exact⟨_,rfl⟩
    obtain⟨h1,h2,h3⟩:=BFM hu.d_inv (j:=j.toNat) (by omega)
    rw[hg] at h2 h3
    refine⟨.agg (ys.extract (j.toNat*k) (j.toNat*k+k)),by simp[Instr.index,asIntOf,run_underlying ht,hp',HH hs,part,Vb hd,hrow],.d (.agg (by simp[DVal.cells1] at h2;simp;omega) λl x y hx hy=>?_)⟩
    have hlt:=(List.getElem?_eq_some_iff.1 hx).1
    simp only[DVal.cells1] at h2
    refine h3 l x y hx ?_
    rw[Array.getElem?_extract] at hy
    split at hy
    ·exact hy
    ·cases hy
   ·rename_i q' hg
    split at h
    case isFalse=>cases h
    rename_i hc
    simp only[Bool.and_eq_true,beq_iff_eq,Bool.not_eq_true'] at hc
    obtain⟨⟨⟨hrow,rfl⟩,rfl⟩,rfl⟩:=hc
    cases h
    have hp':0<=j/\j<(m:Int):=hp
    obtain⟨ys,rfl⟩:∃ys,u=.agg ys:=by cases hu.d_inv;exact⟨_,rfl⟩
    obtain⟨h1,h2,h3⟩:=BFM hu.d_inv (j:=j.toNat) (by omega)
    have hq:(get j.toNat).cells1=[get j.toNat]:=by
     generalize get j.toNat=g at *
     cases g<;>first | rfl | exact absurd rfl (hg _)
    have hj:j.toNat<ys.size:=by omega
    refine⟨ys[j.toNat],by simp[Instr.index,asIntOf,run_underlying ht,hp',HH hs,part,Vb hd,hrow,hj],.d ?_⟩
    exact h3 0 (get j.toNat) _ (by simp[hq]) (by simp[hj])
  ·cases h
 ·rename_i k0 j hi ht
  have:=Ap hi hv;subst this
  split at h
  ·rename_i s
   cases h
   have hp':0<=j/\j<(s.size:Int):=hp
   cases hu.d_inv
   have hj:j.toNat<s.size:=by omega
   have hb:s[j.toNat]?=some s[j.toNat]:=by simp[hj]
   have hd:(s.data.toList.getD j.toNat 0)=s[j.toNat]:=by
    rw[List.getD_eq_getElem?_getD,Array.getElem?_toList]
    have:s.data[j.toNat]?=some s[j.toNat]:=by
     rw[Array.getElem?_eq_getElem (by simpa using hj)];rfl
    rw[this];rfl
   exact⟨.int .u8 s[j.toNat].toNat,by simp[Instr.index,asIntOf,run_underlying ht,hp'],by rw[hd];exact .d (.v _)⟩
  ·cases h
 ·cases h
def AOD(P:Program)(s d:TypeId)(x:AVal):Option AVal:=match P.underlying s,P.underlying d,x with
 |some (.int _),some (.int k),.d (.v (.int _ n))=>some (.d (.v (.int k (k.wrap n))))
 |some .string,some .string,.d (.v (.string b))=>some (.d (.v (.string b)))
 |_,_,_=>none
theorem ALI{s d:TypeId}{x q:AVal}{v:Value}(h:AOD P s d x=some q)(hv:VRel B ι D x v)(w:World):∃y,(convert s d v).run P w=.ok y w/\VRel B ι D q y:=by
 unfold AOD at h
 split at h
 ·rename_i hs hd
  cases h
  cases hv.d_inv
  exact⟨_,by simp[convert,run_underlying hs,run_underlying hd,Conv.intToInt],.d (.v _)⟩
 ·rename_i hs hd
  cases h
  cases hv.d_inv
  exact⟨_,by simp[convert,run_underlying hs,run_underlying hd],.d (.v _)⟩
 ·cases h
end Go.Sym
namespace Go.Sym
variable {P : Program} {B B' : Fi} {ι ι' : Nat -> Pl} {H H' : Heap} {D : Nat -> Prop} {w w' : World}
def eqS(x y:Value)(d:TypeDesc):Option Bool:=match d,x,y with
 | .int _,.int k a,.int k' b=>if k=k' then some (a==b) else none
 | .bool,.bool a,.bool b=>some (a==b)
 | .string,.string a,.string b=>some (a.toList==b.toList)
 |_,_,_=>none
def eqFs(P:Program)(go:TypeId->List DVal->List DVal->Option Bool)(xs ys:List DVal):List Field->Option Bool
 |[]=>some true
 | f :: fs => if f.name ≠ "_" then match szT P f.type with
   |some n=>if xs.length<f.offset+n||ys.length<f.offset+n then none else
    match go f.type ((xs.drop f.offset).take n) ((ys.drop f.offset).take n),eqFs P go xs ys fs with
    |some a,some b=>some (a&&b)
    |_,_=>none
   |none=>none
  else eqFs P go xs ys fs
def eqIs(go:List DVal->List DVal->Option Bool)(c:Nat)(xs ys:List DVal):List Nat->Option Bool
 |[]=>some true
 |i :: is=>if xs.length<i*c+c||ys.length<i*c+c then none else
  match go ((xs.drop (i*c)).take c) ((ys.drop (i*c)).take c),eqIs go c xs ys is with
  |some a,some b=>some (a&&b)
  |_,_=>none
def eqD(P:Program):Nat->TypeId->List DVal->List DVal->Option Bool
 |0,_,_,_=>none
 |d+1,t,xs,ys=>match P.underlying t with
  |some (.struct fs)=>if P.stoodInHeld t then none else eqFs P (eqD P d) xs ys fs.toList
  |some (.array n e)=>match szT P e with
   |some c=>eqIs (eqD P d e) c xs ys (List.range n)
   |none=>none
  |some dd=>match xs,ys with
   |[.v x],[.v y]=>eqS x y dd
   |_,_=>none
  |none=>none
def mU(P:Program)(B:Fi)(t:TypeId)(xs:List DVal)(v:Value):Prop:=match P.underlying t with
 |some d=>if Lo d then ∃ys,v=.agg ys/\ys.size=xs.length/\∀(j:Nat) (x:DVal) (y:Value),xs[j]?=some x->ys[j]?=some y->DRel B x y
  else ∃x,xs=[x]/\DRel B x v
 |none=>False
theorem lE{t:TypeId}{xs:List DVal}{ys:Array Value}{off n:Nat}(hn:szT P t=some n){d:TypeDesc}(hu:P.underlying t=some d)(h1:Lo d=true∨n=1)(hl:ys.size=xs.length)(hoff:off+n<=xs.length)
  (hr:∀(j:Nat) (x:DVal) (y:Value),xs[j]?=some x->ys[j]?=some y->DRel B x y) (w:World) :
  ∃v,(part t ys off).run P w=.ok v w/\mU P B t ((xs.drop off).take n) v:=by
 have hs:=HH (P:=P) hn w
 unfold mU
 rw[hu]
 by_cases hrow:Lo d=true
 ·refine⟨.agg (ys.extract off (off+n)),by simp[part,Vb hu,hrow,hs],?_⟩
  simp only[hrow,if_true]
  refine⟨_,rfl,by simp;omega,λj x y hx hy=>?_⟩
  have hlt:=(List.getElem?_eq_some_iff.1 hx).1
  simp at hlt
  rw[Fa (by omega)] at hx
  rw[Array.getElem?_extract] at hy
  split at hy
  ·exact hr _ _ _ hx hy
  ·cases hy
 ·have h1:n=1:=by rcases h1 with h | h;exact absurd h hrow;exact h
  subst h1
  have hlt:off<ys.size:=by omega
  refine⟨ys[off],by simp[part,Vb hu,hrow,hlt],?_⟩
  simp only[hrow]
  refine⟨xs[off],?_,hr off _ _ (by simp) (by simp[hlt])⟩
  rw[List.drop_eq_getElem_cons (by omega)];rfl
theorem BUL{x y:Value}{t:TypeId}{d:TypeDesc}{r:Bool}(hu:P.underlying t=some d)(h:eqS x y d=some r)(n:Nat)(w:World):(Op.equalIn (n+1) t x y).run P w=.ok r w:=by
 unfold eqS at h
 split at h
 ·split at h
  ·rename_i hk;subst hk;cases h;simp[Op.equalIn,run_underlying hu]
  ·cases h
 ·cases h;simp[Op.equalIn,run_underlying hu]
 ·cases h;simp[Op.equalIn,run_underlying hu];exact beq_toListBytes _ _
 ·cases h
def oneT(P:Program)(t:TypeId):Bool:=match P.underlying t,szT P t with
 |some d,some n=>Lo d||n==1
 |_,_=>false
def allT(P:Program):Nat->TypeId->Bool
 |0,_=>false
 |d+1,t=>oneT P t&&match P.underlying t with
  | some (.struct fs) => fs.toList.all λ f => f.name == "_" || allT P d f.type
  |some (.array _ e)=>allT P d e
  |_=>true
theorem ASL{t:TypeId}(h:oneT P t=true):∃d n,P.underlying t=some d/\szT P t=some n/\(Lo d=true∨n=1):=by
 unfold oneT at h
 split at h
 ·rename_i d n h1 h2
  exact⟨d,n,h1,h2,by simpa using h⟩
 ·cases h
theorem AGQ:∀(d:Nat) {t:TypeId} {xs ys:List DVal} {u v:Value} {r:Bool} (n:Nat),d<=n->allT P d t=true->eqD P d t xs ys=some r->mU P B t xs u->mU P B t ys v->∀w,(Op.equalIn n t u v).run P w=.ok r w
 |0,_,_,_,_,_,_,_,_,_,h,_,_,_=>by simp[eqD] at h
 |d+1,t,xs,ys,u,v,r,n,hn,ha,h,hx,hy,w=>by
  obtain⟨n,rfl⟩:∃m,n=m+1:=⟨n-1,by omega⟩
  simp only[allT,Bool.and_eq_true] at ha
  obtain⟨ha1,ha2⟩:=ha
  unfold eqD at h
  unfold mU at hx hy
  split at h
  ·rename_i fs hu
   rw[hu] at hx hy ha2
   simp only[Lo,if_true] at hx hy
   obtain⟨xa,rfl,hxl,hxr⟩:=hx
   obtain⟨ya,rfl,hyl,hyr⟩:=hy
   split at h
   ·cases h
   ·rename_i hst
    have hf:P.fieldsOf t=fs:=by simp[Program.fieldsOf,hu]
    rw[run_equalIn_struct w n t xa ya (by rw[hf];exact hu) (by simpa using hst),hf]
    simp only[List.all_eq_true,Bool.or_eq_true,beq_iff_eq] at ha2
    generalize fs.toList=l at h ha2
    clear hu hf
    induction l generalizing r with
    |nil=>simp only[eqFs,Option.some.injEq] at h;subst h;simp[Op.eqFields]
    |cons f l ih=>
     simp only[eqFs] at h
     simp only[Op.eqFields]
     split at h
     ·rename_i hname
      rw[if_pos hname]
      have haf:allT P d f.type=true:=(ha2 f (by simp)).resolve_left hname
      split at h
      ·rename_i m hm
       split at h
       ·cases h
       ·rename_i hlen
        simp only[Bool.or_eq_true,decide_eq_true_eq,not_or,Nat.not_lt] at hlen
        split at h
        ·rename_i a b hga hgb
         cases h
         have hoT:oneT P f.type=true:=by
          cases d with
          |zero=>simp[allT] at haf
          |succ d=>simp only[allT,Bool.and_eq_true] at haf;exact haf.1
         obtain⟨dd,m',h1,h2,h3⟩:=ASL hoT
         rw[hm] at h2;cases h2
         obtain⟨pu,hpu,hpuc⟩:=lE (B:=B) hm h1 h3 hxl hlen.1 hxr w
         obtain⟨pv,hpv,hpvc⟩:=lE (B:=B) hm h1 h3 hyl hlen.2 hyr w
         have he:=AGQ d n (by omega) haf hga hpuc hpvc w
         have hi:=ih _ hgb (λg hg=>ha2 g (by simp[hg]))
         simp only[Sem.run_bind,hpu,hpv,he,Result.andThen_ok,Sem.run_ite]
         cases a
         ·simp
         ·simpa using hi
        ·cases h
      ·cases h
     ·rename_i hname
      rw[if_neg hname]
      exact ih _ h (λg hg=>ha2 g (by simp[hg]))
  ·rename_i m e hu
   rw[hu] at hx hy ha2
   simp only[Lo,if_true] at hx hy
   obtain⟨xa,rfl,hxl,hxr⟩:=hx
   obtain⟨ya,rfl,hyl,hyr⟩:=hy
   split at h
   ·rename_i c hc
    obtain⟨i,hi,rfl⟩:∃i,P.info? e=some i/\i.size=c:=by
     unfold szT at hc
     cases hi:P.info? e with
     |none=>simp[hi] at hc
     |some i=>simp[hi] at hc;exact⟨i,rfl,hc⟩
    have hce:P.cellsOf e=i.size:=by simp[Program.cellsOf,hi]
    rw[run_equalIn_array w n xa ya hu hi,hce]
    simp only at ha2
    generalize List.range m=l at h
    clear hu
    induction l generalizing r with
    |nil=>simp only[eqIs,Option.some.injEq] at h;subst h;simp[Op.eqItems]
    |cons j l ih=>
     simp only[eqIs] at h
     simp only[Op.eqItems]
     split at h
     ·cases h
     ·rename_i hlen
      simp only[Bool.or_eq_true,decide_eq_true_eq,not_or,Nat.not_lt] at hlen
      split at h
      ·rename_i a b hga hgb
       cases h
       have hoT:oneT P e=true:=by
        cases d with
        |zero=>simp[allT] at ha2
        |succ d=>simp only[allT,Bool.and_eq_true] at ha2;exact ha2.1
       obtain⟨dd,m',h1,h2,h3⟩:=ASL hoT
       rw[hc] at h2;cases h2
       obtain⟨pu,hpu,hpuc⟩:=lE (B:=B) hc h1 h3 hxl hlen.1 hxr w
       obtain⟨pv,hpv,hpvc⟩:=lE (B:=B) hc h1 h3 hyl hlen.2 hyr w
       have he:=AGQ d n (by omega) ha2 hga hpuc hpvc w
       have hi2:=ih _ hgb
       simp only[Sem.run_bind,hpu,hpv,he,Result.andThen_ok,Sem.run_ite]
       cases a
       ·simp
       ·simpa using hi2
      ·cases h
   ·cases h
  ·rename_i dd hne1 hne2 hu
   rw[hu] at hx hy
   have hrow:Lo dd=false:=by
    cases dd<;>first | rfl | exact absurd rfl (hne1 _) | exact absurd rfl (hne2 _ _)
   simp only[hrow] at hx hy
   obtain⟨a,rfl,ha⟩:=hx
   obtain⟨b,rfl,hb⟩:=hy
   split at h
   ·rename_i x y hxx hyy
    simp only[List.cons.injEq,and_true] at hxx hyy
    subst hxx;subst hyy
    cases ha;cases hb
    exact BUL hu h n w
   ·cases h
  ·cases h
def eqA(P:Program)(t:TypeId)(x y:AVal):Option Bool:=match x,y,P.underlying t with
 | .d (.agg l),.d (.agg m),some d=>if Lo d&&!P.eqGuardType P.depth t&&allT P 6 t then eqD P 6 t l m else none
 | .d (.arr k n g),.d (.arr k' n' g'),some d=>if Lo d&&!P.eqGuardType P.depth t&&allT P 6 t then eqD P 6 t (DVal.arr k n g).cells (DVal.arr k' n' g').cells else none
 |_,_,_=>none
theorem ASY{t:TypeId}{x y:AVal}{u v:Value}{r:Bool}(h:eqA P t x y=some r)(hx:VRel B ι D x u)(hy:VRel B ι D y v) :
  (∃a b,u=.agg a/\v=.agg b)/\P.eqGuardType P.depth t=false/\∀w,(Op.equal t u v).run P w=.ok r w:=by
 have key:∀(l m:List DVal) (d:TypeDesc) (a b:Array Value),P.underlying t=some d->Lo d=true->allT P 6 t=true->eqD P 6 t l m=some r->a.size=l.length->b.size=m.length ->
   (∀(j:Nat) (x:DVal) (y:Value),l[j]?=some x->a[j]?=some y->DRel B x y)->(∀(j:Nat) (x:DVal) (y:Value),m[j]?=some x->b[j]?=some y->DRel B x y) ->
   ∀w,(Op.equal t (.agg a) (.agg b)).run P w=.ok r w:=by
  intro l m d a b hu hrow hal he hl hm hr1 hr2 w
  refine AGQ (B:=B) 6 Op.maxDepth (by decide) hal he ?_ ?_ w
  ·unfold mU;rw[hu];simp only[hrow,if_true];exact⟨_,rfl,hl,hr1⟩
  ·unfold mU;rw[hu];simp only[hrow,if_true];exact⟨_,rfl,hm,hr2⟩
 unfold eqA at h
 split at h
 ·rename_i l m d hu
  split at h
  case isFalse=>cases h
  rename_i hc
  simp only[Bool.and_eq_true,Bool.not_eq_true'] at hc
  obtain⟨⟨hrow,hg⟩,hal⟩:=hc
  cases hx.d_inv
  rename_i a hl hr1
  cases hy.d_inv
  rename_i b hm hr2
  exact⟨⟨_,_,rfl,rfl⟩,hg,key l m d a b hu hrow hal h hl hm hr1 hr2⟩
 ·rename_i k n g k' n' g' d hu
  split at h
  case isFalse=>cases h
  rename_i hc
  simp only[Bool.and_eq_true,Bool.not_eq_true'] at hc
  obtain⟨⟨hrow,hg⟩,hal⟩:=hc
  have hx':=hx.d_inv
  have hy':=hy.d_inv
  obtain⟨a,rfl⟩:∃a,u=.agg a:=by cases hx';exact⟨_,rfl⟩
  obtain⟨b,rfl⟩:∃a,v=.agg a:=by cases hy';exact⟨_,rfl⟩
  obtain⟨h1,h2⟩:=Q4 hx' (by simp)
  obtain⟨h3,h4⟩:=Q4 hy' (by simp)
  exact⟨⟨_,_,rfl,rfl⟩,hg,key _ _ d a b hu hrow hal h h1 h3 h2 h4⟩
 ·cases h
end Go.Sym
namespace Go.Sym
variable {P : Program} {B B' : Fi} {ι ι' : Nat -> Pl} {H H' : Heap} {D : Nat -> Prop} {w w' : World}
def AIL(P:Program)(t:TypeId):Option (IntKind×Value):=match P.underlying t with
 |some (.map k e)=>match P.underlying k,(P.info? e).bind (·.zero) with
  |some (.int q),some z=>some (q,z)
  |_,_=>none
 |_=>none
theorem Xs{t:TypeId}{q:IntKind}{z:Value}(h:AIL P t=some (q,z)):∃k e,P.underlying t=some (.map k e)/\P.underlying k=some (.int q)/\∀w:World,(zeroValue e).run P w=.ok z w:=by
 unfold AIL at h
 split at h
 ·rename_i k e hu
  split at h
  ·rename_i q' z' hk hz
   cases h
   refine⟨k,e,hu,hk,λw=>?_⟩
   cases hi:P.info? e with
   |none=>simp[hi] at hz
   |some i=>
    simp only[hi,Option.bind_some] at hz
    simp[zeroValue,XH hi,hz]
  ·cases h
 ·cases h
theorem SY{k:TypeId}{q:IntKind}(hk:P.underlying k=some (.int q))(b:Bool)(v:Value)(w:World):∀n:Nat,0<n->(Instr.checkKey b n k v).run P w=.ok () w
 |0,h=>by omega
 |n+1,_=>by
  unfold Instr.checkKey
  simp only[Sem.run_bind,run_underlying hk,Result.andThen_ok]
  cases v<;>rfl
def AIT(n:Int):List MapEntry->Nat->Option (Nat×Value)
 |[],_=>none
 |e :: es,i=>match e.key with
  | .int _ m=>if n=m then some (i,e.val) else AIT n es (i+1)
  |_=>none
theorem AIF{q q':IntKind}{n:Int}:∀(es:List MapEntry) (i:Nat),(∀e∈es,∃m,e.key=.int q m)->Instr.findNow (.int q') (.int q n) es i=some (AIT n es i)
 |[],_,_=>rfl
 |e :: es,i,h=>by
  obtain⟨m,hm⟩:=h e (by simp)
  unfold Instr.findNow AIT
  rw[hm]
  simp only[Instr.sameNow,if_true]
  by_cases hnm:n=m
  ·subst hnm;simp
  ·have:(n==m)=false:=by simpa using hnm
   simp only[this,if_neg hnm]
   exact AIF es (i+1) λe he=>h e (by simp[he])
theorem AMD{n:Int}{q:IntKind}:∀(es:List MapEntry) (i:Nat),(∀e∈es,∃m,e.key=.int q m)->(∀e∈es,e.key≠.int q n)->AIT n es i=none
 |[],_,_,_=>rfl
 |e :: es,i,h,hn=>by
  obtain⟨m,hm⟩:=h e (by simp)
  have h1:n≠m:=λhe=>hn e (by simp) (by rw[hm,he])
  unfold AIT
  rw[hm]
  simp only[if_neg h1]
  exact AMD es (i+1) (λe he=>h e (by simp[he])) λe he=>hn e (by simp[he])
theorem APD{n:Int}{q:IntKind}:∀(es:List MapEntry) (i:Nat),(∀e∈es,∃m,e.key=.int q m)->∀(j:Nat) (e:MapEntry),es[j]?=some e->e.key=.int q n->∃j' e',AIT n es i=some (i+j',e'.val)/\es[j']?=some e'/\e'.key=.int q n
 |[],_,_,j,e,hj,_=>by simp at hj
 |a :: es,i,h,j,e,hj,hk=>by
  obtain⟨m,hm⟩:=h a (by simp)
  unfold AIT
  rw[hm]
  by_cases h1:n=m
  ·subst h1
   exact⟨0,a,by simp,rfl,hm⟩
  ·simp only[if_neg h1]
   cases j with
   |zero=>simp at hj;subst hj;rw[hm] at hk;cases hk;exact (h1 rfl).elim
   |succ j=>
    obtain⟨j',e',h2,h3,h4⟩:=APD es (i+1) (λe he=>h e (by simp[he])) j e (by simpa using hj) hk
    exact⟨j'+1,e',by rw[h2];simp[Nat.add_assoc,Nat.add_comm 1],by simpa using h3,h4⟩
theorem MapIs.intKeys{q:IntKind}{z:Value}{has:Int->Bool}{get:Int->DVal}{st:Int->Int}{es:Array MapEntry}{clock:Nat}(h:MapIs B q z has get st es clock):∀e∈es.toList,∃m,e.key=.int q m:=λe he=>by
 obtain⟨i,hi⟩:=List.mem_iff_getElem?.1 he
 rw[Array.getElem?_toList] at hi
 obtain⟨n,hn,_⟩:=h.keys i e hi
 exact⟨n,hn⟩
theorem MapIs.find{q q':IntKind}{z:Value}{has:Int->Bool}{get:Int->DVal}{st:Int->Int}{es:Array MapEntry}{clock:Nat}(h:MapIs B q z has get st es clock){k:TypeId}(hk:P.underlying k=some (.int q'))(n:Int)(w:World) :
  (has n=false/\(Instr.findKey k (.int q n) es.toList).run P w=.ok none w) ∨
  (has n=true/\∃i e,es[i]?=some e/\e.key=.int q n/\(e.born:Int)=st n/\DRel B (get n) e.val/\(Instr.findKey k (.int q n) es.toList).run P w=.ok (some (i,e.val)) w):=by
 have hrun:∀r,AIT n es.toList 0=r->(Instr.findKey k (.int q n) es.toList).run P w=.ok r w:=λr hr=>by
  unfold Instr.findKey
  simp only[Sem.run_bind,run_underlying hk,Result.andThen_ok,AIF es.toList 0 h.intKeys,hr,Sem.run_pure]
 cases hn:has n with
 |false=>
  refine .inl ⟨rfl,hrun _ (AMD (q:=q) _ _ h.intKeys λe he hke=>?_)⟩
  obtain⟨i,hi⟩:=List.mem_iff_getElem?.1 he
  rw[Array.getElem?_toList] at hi
  obtain⟨m,h1,h2,_⟩:=h.keys i e hi
  rw[h1] at hke
  cases hke
  rw[hn] at h2;cases h2
 |true=>
  obtain⟨i,e,hi,hke⟩:=h.met n hn
  obtain⟨j,e',h1,h2,h3⟩:=APD (q:=q) es.toList 0 h.intKeys i e (by simpa using hi) hke
  rw[Array.getElem?_toList] at h2
  obtain⟨m,h4,h5,h6,h7,h8⟩:=h.keys j e' h2
  rw[h3] at h4
  cases h4
  exact .inr ⟨rfl,j,e',h2,h3,h7,h8,hrun _ (by rw[h1];simp)⟩
theorem TE{r:Nat}{es:Array MapEntry}{clock:Nat}(h:w.heap[r]?=some (.map es clock)):(getObj r).run P w=.ok (.map es clock) w:=by simp[getObj,Sem.run,h]
theorem Yu{r:Nat}{es:Array MapEntry}{clock:Nat}(o:Obj)(h:w.heap[r]?=some (.map es clock)):(setObj r o).run P w=.ok () (w.putObj r o):=by simp[setObj,Sem.run,h,World.putObj]
theorem Moved.turn(h:HRel B ι H w){id:Nat}{o0 o:AObj}(hid:H id=.live o0){x:Obj}(ho:ORel B ι (FL H id (.live o)).dom (ι id).cap o (some x)):Moved B ι H w B ι (FL H id (.live o)) (w.putObj (ι id).b x):=by
 have hlt:=Jj h hid
 have dm:∀i,H.dom i->(FL H id (.live o)).dom i/\ι i=ι i:=λi hi=>⟨by
  unfold Heap.dom FL;split
  ·simp
  ·exact hi,rfl⟩
 have live:∀i o2,FL H id (.live o) i=.live o2->(i=id/\o2=o)∨(i≠id/\H i=.live o2):=λi o2 hi=>by
  by_cases hii:i=id
  ·subst hii;rw[LF] at hi;cases hi;exact .inl ⟨rfl,rfl⟩
  ·rw[JX _ _ hii] at hi;exact .inr ⟨hii,hi⟩
 have old:∀i o2,FL H id (.live o) i=.live o2->∃o3,H i=.live o3:=λi o2 hi=>by
  rcases live i o2 hi with⟨rfl,rfl⟩ | ⟨_,h2⟩
  ·exact⟨_,hid⟩
  ·exact⟨_,h2⟩
 have oth:∀b,b≠(ι id).b->(w.putObj (ι id).b x).heap[b]?=w.heap[b]?:=λb hb=>World.putObj_heap_other hb
 refine⟨λ_ _ h=>h,λ_ _ h=>.inl h,dm,⟨λi o2 hi=>?_,λi j o1 o2 hi hj hij=>?_,λi o2 hi=>?_,λb c hb=>?_⟩,λi o2 hi=>?_,λb hb hno=>oth b (λhe=>hno id _ hid he.symm),by rw[World.putObj_size];exact Nat.le_refl _,⟨rfl,rfl,rfl⟩⟩
 ·rcases live i o2 hi with⟨rfl,rfl⟩ | ⟨h1,h2⟩
  ·rw[World.putObj_heap_same hlt];exact ho
  ·rw[oth _ (λhe=>h1 (h.inj _ _ _ _ h2 hid he))]
   exact (h.obj i o2 h2).mono (λ_ _ h=>h) dm
 ·obtain⟨_,h1⟩:=old i o1 hi
  obtain⟨_,h2⟩:=old j o2 hj
  exact h.inj _ _ _ _ h1 h2 hij
 ·obtain⟨_,h1⟩:=old i o2 hi
  exact h.sep _ _ h1
 ·have:b≠(ι id).b:=λhe=>by rw[he,h.sep id _ hid] at hb;cases hb
  rw[oth b this];exact h.imm b c hb
 ·obtain⟨o3,h1⟩:=old i o2 hi
  exact .inl ⟨i,o3,h1,rfl⟩
def AOE(P:Program)(r:Nat)(t:TypeId):Option Eff:=match AIL P t with
 |some (q,z)=>some ⟨.mref r,[(r,.live (.imap q z (λ_=>false) (λ_=>ofV z) (λ_=>0) none))],[]⟩
 |none=>none
theorem ANY{r:Nat}{t:TypeId}{e:Eff}(h:AOE P r t=some e)(hr:H r=.none)(hH:HRel B ι H w):∃y w',(Instr.makeMap t none).run P w=.ok y w'/\SD B ι H w (GF H e.upd) e.val y w':=by
 unfold AOE at h
 split at h
 ·rename_i q z hm
  cases h
  refine⟨.map (some w.heap.size),w.alloc (.map #[] 0),by simp[Instr.makeMap],B,_,Moved.new hH hr (q:=0) (.imap ⟨λi e he=>by simp at he,λn _=>⟨AYH z,rfl⟩,λn hn=>by simp at hn,λi j e e' he=>by simp at he⟩),?_⟩
  have:=VRel.mref (B:=B) (ι:=dD ι r ⟨w.heap.size,0⟩) (D:=(FL H r (.live (.imap q z (λ_=>false) (λ_=>ofV z) (λ_=>0) none))).dom) (id:=r) (by unfold Heap.dom;rw[LF];simp)
  rw[HT] at this
  exact this
 ·cases h
def wE(H:Heap):AVal->Option (Nat×IntKind×Value×(Int->Bool)×(Int->DVal)×(Int->Int)×Option Int)
 | .mref id=>match H id with
  | .live (.imap q z has get st pend)=>some (id,q,z,has,get,st,pend)
  |_=>none
 |_=>none
theorem Nc{m:AVal}{v:Value}{id:Nat}{q:IntKind}{z:Value}{has:Int->Bool}{get:Int->DVal}{st:Int->Int}{pend:Option Int}(h:wE H m=some (id,q,z,has,get,st,pend))(hv:VRel B ι H.dom m v)(hH:HRel B ι H w) :
  H id=.live (.imap q z has get st pend)/\v=.map (some (ι id).b)/\∃es clock,w.heap[(ι id).b]?=some (.map es clock)/\MapIs B q z has get st es clock:=by
 unfold wE at h
 split at h
 ·rename_i id'
  split at h
  ·rename_i q' z' has' get' st' pend' hid
   cases h
   cases hv
   have ho:=hH.obj _ _ hid
   generalize hq:w.heap[(ι id).b]?=x at ho
   cases ho with
   |imap hm=>exact⟨hid,rfl,_,_,rfl,hm⟩
  ·cases h
 ·cases h
def keyA(q:IntKind):AVal->Option Int
 | .d (.v (.int k n))=>if k=q then some n else none
 |_=>none
theorem mD{q:IntKind}{a:AVal}{n:Int}{v:Value}(h:keyA q a=some n)(hv:VRel B ι D a v):v=.int q n:=by
 unfold keyA at h
 split at h
 ·split at h
  ·rename_i hk;subst hk;cases h;cases hv.d_inv;rfl
  ·cases h
 ·cases h
def AKB(P:Program)(H:Heap)(t:TypeId)(m ix:AVal)(ok:Bool):Option (AVal×List Prop):=match AIL P t,wE H m with
 |some (q,z),some (_,q',z',has,get,_,_)=>match keyA q ix with
  |some n=>if q=q' then some (if ok then .d (.tup [get n,.bool (has n)]) else .d (get n),[z=z']) else none
  |none=>none
 |_,_=>none
theorem AQZ{t:TypeId}{m ix x:AVal}{ok:Bool}{vm vi:Value}{pre:List Prop}(h:AKB P H t m ix ok=some (x,pre))(hp:DJ pre)(hvm:VRel B ι H.dom m vm)(hvi:VRel B ι H.dom ix vi)(hH:HRel B ι H w) :
  ∃y,(Instr.lookup t vm vi ok).run P w=.ok y w/\VRel B ι H.dom x y:=by
 unfold AKB at h
 split at h
 case h_2=>cases h
 rename_i q z id q' z' has get st pend ht hm
 split at h
 case h_2=>cases h
 rename_i n hn
 split at h
 case isFalse=>cases h
 rename_i hq
 subst hq
 cases h
 have hp:z=z':=hp
 subst hp
 obtain⟨k,e,hu,hk,hz⟩:=Xs ht
 obtain⟨hid,rfl,es,clock,hb,hM⟩:=Nc hm hvm hH
 have:=mD hn hvi;subst this
 have fin:∀(v:Value) (b:Bool),DRel B (get n) v->has n=b->VRel B ι H.dom (if ok then .d (.tup [get n,.bool (has n)]) else .d (get n)) (if ok then .tuple #[v,.bool b] else v):=λv b hv hb=>by
  cases ok with
  |false=>exact .d hv
  |true=>
   refine .d (.tup rfl λj x y hx hy=>?_)
   match j with
   |0=>simp at hx hy;subst hx;subst hy;exact hv
   |1=>simp at hx hy;subst hx;subst hy;rw[hb];exact .v _
   |j+2=>simp at hx
 rcases hM.find hk n w with⟨h1,h2⟩ | ⟨h1,i,en,_,_,_,h5,h6⟩
 ·refine⟨_,?_,fin z false (hM.miss n h1).1 h1⟩
  unfold Instr.lookup
  simp only[Sem.run_bind,run_underlying hu,Result.andThen_ok,TE hb,Sem.run_pure,SY hk _ _ _ 10000 (by omega),h2,hz w]
 ·refine⟨_,?_,fin en.val true h5 h1⟩
  unfold Instr.lookup
  simp only[Sem.run_bind,run_underlying hu,Result.andThen_ok,TE hb,Sem.run_pure,SY hk _ _ _ 10000 (by omega),h6]
def CDB(P:Program)(H:Heap)(t:TypeId)(m ix:AVal):Option (Bool×DVal×Value×List Prop):=match AIL P t,wE H m with
 |some (q,z),some (_,q',z',has,get,_,_)=>match keyA q ix with
  |some n=>if q=q' then some (has n,get n,z,[z=z']) else none
  |none=>none
 |_,_=>none
theorem BGJ{t:TypeId}{m ix:AVal}{b:Bool}{d:DVal}{z:Value}{vm vi:Value}{pre:List Prop}(h:CDB P H t m ix=some (b,d,z,pre))(hp:DJ pre)(hvm:VRel B ι H.dom m vm)(hvi:VRel B ι H.dom ix vi)(hH:HRel B ι H w) :
  ∃v,(Instr.lookup t vm vi true).run P w=.ok (.tuple #[v,.bool b]) w/\(b=true->DRel B d v)/\(b=false->v=z):=by
 unfold CDB at h
 split at h
 case h_2=>cases h
 rename_i q z id q' z' has get st pend ht hm
 split at h
 case h_2=>cases h
 rename_i n hn
 split at h
 case isFalse=>cases h
 rename_i hq
 subst hq
 cases h
 have hp:z=z':=hp
 subst hp
 obtain⟨k,e,hu,hk,hz⟩:=Xs ht
 obtain⟨hid,rfl,es,clock,hb,hM⟩:=Nc hm hvm hH
 have:=mD hn hvi;subst this
 rcases hM.find hk n w with⟨h1,h2⟩ | ⟨h1,i,en,_,_,_,h5,h6⟩
 ·rw[h1]
  refine⟨z,?_,(λh=>by cases h),λ_=>rfl⟩
  unfold Instr.lookup
  simp only[Sem.run_bind,run_underlying hu,Result.andThen_ok,TE hb,Sem.run_pure,SY hk _ _ _ 10000 (by omega),h2,hz w]
  rfl
 ·rw[h1]
  refine⟨en.val,?_,λ_=>h5,λh=>by cases h⟩
  unfold Instr.lookup
  simp only[Sem.run_bind,run_underlying hu,Result.andThen_ok,TE hb,Sem.run_pure,SY hk _ _ _ 10000 (by omega),h6]
  rfl
theorem AWR(j:IntKind)(a:Int):∀n:Nat,Instr.sameBits n (.int j a) (.int j a)=true
 |0=>by simp[Instr.sameBits]
 |n+1=>by simp[Instr.sameBits]
theorem ADG(q:IntKind)(n:Int)(w:World):(Instr.keyThatStays (.int q n) (.int q n)).run P w=.ok (.int q n) w:=by
 simp[Instr.keyThatStays,AWR]
def xG(has:Int->Bool)(st:Int->Int)(n:Int):Int->Int:=λj=>bif has n then st j else bif (has j||decide (j=n)) then st j else st j+1
def WA(has:Int->Bool)(n:Int):Int->Bool:=λj=>decide (j=n)||has j
def AHE(get:Int->DVal)(n:Int)(x:DVal):Int->DVal:=λj=>eD (decide (j=n)) x (get j)
theorem iV(get:Int->DVal)(n:Int)(x:DVal):AHE get n x=λj=>bif decide (j=n) then x else get j:=by
 funext j;simp only[AHE,SN]
theorem MapIs.push{q:IntKind}{z:Value}{has:Int->Bool}{get:Int->DVal}{st:Int->Int}{es:Array MapEntry}{clock:Nat}(h:MapIs B q z has get st es clock){n:Int}(hn:has n=false){x:DVal}{v:Value}(hx:DRel B x v) :
  MapIs B q z (WA has n) (AHE get n x) (xG has st n) (es.push { key:=.int q n,val:=v,born:=clock }) (clock+1):=by
 have look:∀(i:Nat) (e:MapEntry),(es.push { key:=.int q n,val:=v,born:=clock })[i]?=some e->(i=es.size/\e={ key:=.int q n,val:=v,born:=clock })∨es[i]?=some e:=λi e he=>by
  rw[Array.getElem?_push] at he
  split at he
  ·rename_i hi;cases he;exact .inl ⟨hi,rfl⟩
  ·exact .inr he
 have ne:∀m,has m=true->m≠n:=λm hm he=>by rw[he,hn] at hm;cases hm
 refine⟨λi e he=>?_,λm hm=>?_,λm hm=>?_,λi j e e' hi hj hij=>?_⟩
 ·rcases look i e he with⟨_,rfl⟩ | he
  ·exact⟨n,rfl,by simp[WA],Nat.lt_succ_self _,by simp[xG,hn,(h.miss n hn).2],by simpa[iV] using hx⟩
  ·obtain⟨m,h1,h2,h3,h4,h5⟩:=h.keys i e he
   exact⟨m,h1,by simp[WA,h2],by omega,by simp[xG,hn,h2,h4],by simpa[iV,ne m h2] using h5⟩
 ·simp only[WA,Bool.or_eq_false_iff,decide_eq_false_iff_not] at hm
  obtain⟨h1,h2⟩:=h.miss m hm.2
  exact⟨by simpa[iV,hm.1] using h1,by simp[xG,hn,hm.2,hm.1,h2]⟩
 ·by_cases hmn:m=n
  ·subst hmn;exact⟨es.size,{ key:=.int q m,val:=v,born:=clock },by simp,rfl⟩
  ·simp only[WA,hmn,decide_false,Bool.false_or] at hm
   obtain⟨i,e,hi,hk⟩:=h.met m hm
   exact⟨i,e,by rw[Array.getElem?_push,if_neg (by have:=(Array.getElem?_eq_some_iff.1 hi).1;omega)];exact hi,hk⟩
 ·rcases look i e hi with⟨hi1,rfl⟩ | hi1<;>rcases look j e' hj with⟨hj1,rfl⟩ | hj1
  ·omega
  ·exfalso
   obtain⟨m,h1,h2,h3,_⟩:=h.keys j e' hj1
   rcases hij with hij | hij
   ·rw[h1] at hij;injection hij with _ hmn;exact ne m h2 hmn.symm
   ·simp only at hij;omega
  ·exfalso
   obtain⟨m,h1,h2,h3,_⟩:=h.keys i e hi1
   rcases hij with hij | hij
   ·rw[h1] at hij;injection hij with _ hmn;exact ne m h2 hmn
   ·simp only at hij;omega
  ·exact h.once i j e e' hi1 hj1 hij
theorem MapIs.modify{q:IntKind}{z:Value}{has:Int->Bool}{get:Int->DVal}{st:Int->Int}{es:Array MapEntry}{clock:Nat}(h:MapIs B q z has get st es clock){n:Int}{i:Nat}{e0:MapEntry}(hi:es[i]?=some e0)(hk:e0.key=.int q n)(hn:has n=true){x:DVal}{v:Value}(hx:DRel B x v) :
  MapIs B q z (WA has n) (AHE get n x) (xG has st n) (es.modify i λe=>{ e with key:=.int q n,val:=v }) clock:=by
 have look:∀(j:Nat) (e:MapEntry),(es.modify i λe=>{ e with key:=.int q n,val:=v })[j]?=some e->(j=i/\e={ e0 with key:=.int q n,val:=v })∨(j≠i/\es[j]?=some e):=λj e he=>by
  rw[Array.getElem?_modify] at he
  split at he
  ·rename_i hij;subst hij;rw[hi] at he;simp at he;exact .inl ⟨rfl,he.symm⟩
  ·rename_i hij;exact .inr ⟨Ne.symm hij,he⟩
 have Uo:∀m,WA has n m=has m:=λm=>by
  by_cases hm:m=n
  ·subst hm;simp[WA,hn]
  ·simp[WA,hm]
 have stE:∀m,xG has st n m=st m:=λm=>by simp[xG,hn]
 obtain⟨m0,a1,a2,a3,a4,_⟩:=h.keys i e0 hi
 rw[hk] at a1;cases a1
 have same:∀(j:Nat) (e:MapEntry),es[j]?=some e->e.key=.int q n->j=i:=λj e hj hke=>h.once j i e e0 hj hi (.inl (by rw[hke,hk]))
 refine⟨λj e he=>?_,λm hm=>?_,λm hm=>?_,λj l e e' hj hl hjl=>?_⟩
 ·rcases look j e he with⟨_,rfl⟩ | ⟨hj,he⟩
  ·exact⟨n,rfl,by rw[Uo];exact hn,a3,by rw[stE];exact a4,by simpa[iV] using hx⟩
  ·obtain⟨m,h1,h2,h3,h4,h5⟩:=h.keys j e he
   have hmn:m≠n:=λhmn=>hj (same j e he (by rw[h1,hmn]))
   exact⟨m,h1,by rw[Uo];exact h2,h3,by rw[stE];exact h4,by simpa[iV,hmn] using h5⟩
 ·rw[Uo] at hm
  obtain⟨h1,h2⟩:=h.miss m hm
  have hmn:m≠n:=λhe=>by rw[he,hn] at hm;cases hm
  exact⟨by simpa[iV,hmn] using h1,by rw[stE];exact h2⟩
 ·rw[Uo] at hm
  obtain⟨j,e,hj,hke⟩:=h.met m hm
  by_cases hji:j=i
  ·subst hji
   rw[hi] at hj;cases hj
   rw[hk] at hke;cases hke
   exact⟨j,_,by rw[Array.getElem?_modify,if_pos rfl,hi];rfl,rfl⟩
  ·exact⟨j,e,by rw[Array.getElem?_modify,if_neg (Ne.symm hji)];exact hj,hke⟩
 ·rcases look j e hj with⟨hj1,rfl⟩ | ⟨hj1,hj2⟩<;>rcases look l e' hl with⟨hl1,rfl⟩ | ⟨hl1,hl2⟩
  ·omega
  ·exact absurd (h.once i l e0 e' hi hl2 (by rw[hk];exact hjl)).symm hl1
  ·exact absurd (h.once j i e e0 hj2 hi (by rw[hk];exact hjl)) hj1
  ·exact h.once j l e e' hj2 hl2 hjl
theorem MapIs.store{q:IntKind}{z:Value}{has:Int->Bool}{get:Int->DVal}{st:Int->Int}{es:Array MapEntry}{clock:Nat}(h:MapIs B q z has get st es clock){n:Int}{i:Nat}{e0:MapEntry}(hi:es[i]?=some e0)(hk:e0.key=.int q n){x:DVal}{v:Value}(hx:DRel B x v) :
  MapIs B q z has (AHE get n x) st (es.modify i λe=>{ e with val:=v }) clock:=by
 obtain⟨m0,a1,hn,_⟩:=h.keys i e0 hi
 rw[hk] at a1;cases a1
 have h1:=h.modify hi hk hn hx
 have e1:(es.modify i λe=>{ e with key:=.int q n,val:=v })=es.modify i λe=>{ e with val:=v }:=by
  apply Array.ext_getElem?
  intro j
  rw[Array.getElem?_modify,Array.getElem?_modify]
  split
  ·rename_i hij;subst hij;rw[hi];simp only[Option.map_some,Option.some.injEq];rw[<-hk]
  ·rfl
 have e2:WA has n=has:=by
  funext m
  by_cases hm:m=n
  ·subst hm;simp[WA,hn]
  ·simp[WA,hm]
 have e3:xG has st n=st:=by funext m;simp[xG,hn]
 rw[e1,e2,e3] at h1
 exact h1
def F2(P:Program)(H:Heap)(t:TypeId)(m k v:AVal):Option Eff:=match AIL P t,wE H m,v with
 |some (q,_),some (id,q',z,has,get,st,none),.d x=>match keyA q k with
  |some n=>if q=q' then some ⟨.d (.v undef),[(id,.live (.imap q z (WA has n) (AHE get n x) (xG has st n) none))],[]⟩ else none
  |none=>none
 |_,_,_=>none
theorem J6{t:TypeId}{m k v:AVal}{vm vk vv:Value}{e:Eff}(h:F2 P H t m k v=some e)(hH:HRel B ι H w)(hm:VRel B ι H.dom m vm)(hk:VRel B ι H.dom k vk)(hv:VRel B ι H.dom v vv) :
  ∃w',(Instr.mapUpdate t vm vk vv).run P w=.ok () w'/\SD B ι H w (GF H e.upd) e.val undef w':=by
 unfold F2 at h
 split at h
 case h_2=>cases h
 rename_i q z0 id q' z has get st x ht hma
 split at h
 case h_2=>cases h
 rename_i n hn
 split at h
 case isFalse=>cases h
 rename_i hq
 subst hq
 cases h
 obtain⟨kt,el,hu,hkt,_⟩:=Xs ht
 obtain⟨hid,rfl,es,clock,hb,hM⟩:=Nc hma hm hH
 have:=mD hn hk;subst this
 rcases hM.find hkt n w with⟨h1,h2⟩ | ⟨h1,i,en,h3,h4,_,_,h6⟩
 ·refine⟨_,?_,B,ι,Moved.turn hH hid (.imap (hM.push h1 hv.d_inv)),.d (.v _)⟩
  unfold Instr.mapUpdate
  simp only[Sem.run_bind,run_underlying hu,Result.andThen_ok,TE hb,SY hkt _ _ _ 10000 (by omega),h2,Yu _ hb]
 ·refine⟨_,?_,B,ι,Moved.turn hH hid (.imap (hM.modify h3 h4 h1 hv.d_inv)),.d (.v _)⟩
  unfold Instr.mapUpdate
  simp only[Sem.run_bind,run_underlying hu,Result.andThen_ok,TE hb,SY hkt _ _ _ 10000 (by omega),h6,h3,Option.map_some,Option.getD_some,h4,ADG,Yu _ hb]
def AUO(P:Program)(H:Heap)(t:TypeId)(m k:AVal):Option Eff:=match AIL P t,wE H m with
 |some (q,z0),some (id,q',z,has,get,st,none)=>match keyA q k with
  |some n=>if q=q' then some ⟨.d (.tup [get n,.int (st n)]),[(id,.live (.imap q z (WA has n) (AHE get n (get n)) (xG has st n) (some n)))],[z0=z]⟩ else none
  |none=>none
 |_,_=>none
theorem AWL{t:TypeId}{m k:AVal}{vm vk:Value}{e:Eff}(h:AUO P H t m k=some e)(hp:DJ e.pre)(hH:HRel B ι H w)(hm:VRel B ι H.dom m vm)(hk:VRel B ι H.dom k vk) :
  ∃y w',(Instr.mapEntry t vm vk).run P w=.ok y w'/\SD B ι H w (GF H e.upd) e.val y w':=by
 unfold AUO at h
 split at h
 case h_2=>cases h
 rename_i q z0 id q' z has get st ht hma
 split at h
 case h_2=>cases h
 rename_i n hn
 split at h
 case isFalse=>cases h
 rename_i hq
 subst hq
 cases h
 have hp:z0=z:=hp
 subst hp
 obtain⟨kt,el,hu,hkt,hz⟩:=Xs ht
 obtain⟨hid,rfl,es,clock,hb,hM⟩:=Nc hma hm hH
 have:=mD hn hk;subst this
 have pair:∀(v:Value) (s:Int),DRel B (get n) v->s=st n->DRel B (.tup [get n,.int (st n)]) (.tuple #[v,.int .i64 s]):=λv s hv hs=>.tup rfl λj x y hx hy=>by
  match j with
  |0=>simp at hx hy;subst hx;subst hy;exact hv
  |1=>simp at hx hy;subst hx;subst hy;rw[hs];exact .v _
  |j+2=>simp at hx
 rcases hM.find hkt n w with⟨h1,h2⟩ | ⟨h1,i,en,h3,h4,h5,h7,h6⟩
 ·refine⟨.tuple #[z0,goInt clock],_,?_,B,ι,Moved.turn hH hid (.imap (hM.push h1 (hM.miss n h1).1)),.d (pair z0 clock (hM.miss n h1).1 (hM.miss n h1).2.symm)⟩
  unfold Instr.mapEntry
  simp only[Sem.run_bind,run_underlying hu,Result.andThen_ok,TE hb,SY hkt _ _ _ 10000 (by omega),h2,hz w,Yu _ hb,Sem.run_pure]
 ·have e1:(es.modify i λe=>{ e with key:=.int q n })=es.modify i λe=>{ e with key:=.int q n,val:=en.val }:=by
   apply Array.ext_getElem?
   intro j
   rw[Array.getElem?_modify,Array.getElem?_modify]
   split
   ·rename_i hij;subst hij;rw[h3];rfl
   ·rfl
  refine⟨.tuple #[en.val,goInt en.born],_,?_,B,ι,Moved.turn hH hid (.imap (hM.modify h3 h4 h1 h7)),.d (pair en.val en.born h7 h5)⟩
  unfold Instr.mapEntry
  simp only[Sem.run_bind,run_underlying hu,Result.andThen_ok,TE hb,SY hkt _ _ _ 10000 (by omega),h6,h3,Option.map_some,Option.getD_some,h4,ADG,Yu _ hb,Sem.run_pure,e1]
def cG(H:Heap)(m s v:AVal):Option Eff:=match wE H m,s,v with
 |some (id,q,z,has,get,st,some n),.d (.v (.int _ j)),.d x=>some ⟨.d (.v undef),[(id,.live (.imap q z has (AHE get n x) st none))],[has n=true,j=st n]⟩
 |_,_,_=>none
theorem ACW{t:TypeId}{m s v:AVal}{vm vs vv:Value}{e:Eff}(h:cG H m s v=some e)(hp:DJ e.pre)(hH:HRel B ι H w)(hm:VRel B ι H.dom m vm)(hs:VRel B ι H.dom s vs)(hv:VRel B ι H.dom v vv) :
  ∃w',(Instr.entryStore t vm vs vv).run P w=.ok () w'/\SD B ι H w (GF H e.upd) e.val undef w':=by
 unfold cG at h
 split at h
 case h_2=>cases h
 rename_i id q z has get st n k j x hma
 cases h
 obtain⟨p1,p2⟩:has n=true/\j=st n:=hp
 subst p2
 obtain⟨hid,rfl,es,clock,hb,hM⟩:=Nc hma hm hH
 obtain rfl:vs=.int k (st n):=by cases hs.d_inv;rfl
 obtain⟨i,e0,hi,hke⟩:=hM.met n p1
 obtain⟨m0,a1,_,_,a4,_⟩:=hM.keys i e0 hi
 rw[hke] at a1;cases a1
 have hfind:es.findIdx? (λe=>(e.born:Int)==st n)=some i:=by
  have hlt:=(Array.getElem?_eq_some_iff.1 hi).1
  have hei:es[i]=e0:=by have:=hi;rw[Array.getElem?_eq_getElem hlt] at this;simpa using this
  refine Array.findIdx?_eq_some_iff_getElem.2 ⟨hlt,by simp[hei,a4],λl hl=>?_⟩
  have hll:l<es.size:=by omega
  simp only[beq_iff_eq]
  intro he
  have:=hM.once l i es[l] e0 (by simp[hll]) hi (.inr (by rw[<-a4] at he;exact_mod_cast he))
  omega
 refine⟨_,?_,B,ι,Moved.turn hH hid (.imap (hM.store hi hke hv.d_inv)),.d (.v _)⟩
 unfold Instr.entryStore
 simp only[Sem.run_bind,Result.andThen_ok,TE hb,asInt,asIntOf,Sem.run_pure,hfind,Yu _ hb]
end Go.Sym
