/- Slice expressions, make, index, conversions, comparisons of structs. -/
import Derived.Test.YtlblbbidigejkaaGreatSym3
import Derived.Laws.StructEq
import Derived.ChangeKeysEq
set_option linter.unusedVariables false
set_option linter.unusedSimpArgs false
namespace Go.Sym
variable {P : Program} {B B' : Ft} {ι ι' : Nat -> Pl} {H H' : Heap} {D : Nat -> Prop} {w w' : World}
def szT(P:Program)(t:TypeId):Option Nat:=(P.info? t).map λi=>i.size
def zO(d:Int):Option AVal->Option Int
 |none=>some d
 |some (.d (.v (.int _ n)))=>some n
 |some _=>none
theorem WT{d n:Int}{a:Option AVal}{v:Option Value}(h:zO d a=some n)(hv:∀x,a=some x->∃y,v=some y/\VRel B ι D x y)(hn:a=none->v=none) :
  (v=none/\n=d)∨∃k,v=some (.int k n):=by
 cases a with
 |none=>simp only[zO,Option.some.injEq] at h;exact .inl ⟨hn rfl,h.symm⟩
 |some x=>
  obtain⟨y,rfl,hy⟩:=hv x rfl
  unfold zO at h
  split at h
  ·rename_i h0;cases h0
  ·rename_i h0;cases h0;cases h;cases hy.d_inv;exact .inr ⟨_,rfl⟩
  ·cases h
def BJZ(P:Program)(t:TypeId)(x:AVal)(lo hi mx:Option AVal):Option (AVal×List Prop):=
 match P.underlying t,x with
 |some (.slice e),.d (.list k n get _)=>
  if szT P e==some k then match zO 0 lo,zO n hi,mx with
   |some l,some h,none=>some (.d (.list k (h.toNat-l.toNat) (λi=>get (l.toNat+i)) false),[0<=l/\l<=h/\h<=n])
   |some l,some h,some (.d (.v (.int _ m)))=>if hi.isSome then some (.d (.list k (h.toNat-l.toNat) (λi=>get (l.toNat+i)) true),[0<=l/\l<=h/\h=m/\h<=n]) else none
   |_,_,_=>none
  else none
 |some (.slice e),.own id k i n=>
  if szT P e==some k then match zO 0 lo,zO n hi,mx with
   |some l,some h,none=>some (.own id k (i+l.toNat) (h.toNat-l.toNat),[0<=l/\l<=h/\h<=n/\(l=0∨l<h)])
   |_,_,_=>none
  else none
 |_,_=>none
theorem ARH{lo hi:Option Value}{l h:Int}{n cap:Nat}(h1:(lo=none/\l=0)∨∃k,lo=some (.int k l))(h2:(hi=none/\h=n)∨∃k,hi=some (.int k h))(hl:0<=l)(hlh:l<=h)(hn:h<=n)(hc:n<=cap)(w:World) :
  (Instr.sliceBounds true n cap lo hi none).run P w=.ok (l.toNat,h.toNat,cap) w:=by
 have e1:h<=(cap:Int):=by omega
 have e2:0<=h:=by omega
 have e3:max h 0=h:=by omega
 rcases h1 with⟨rfl,rfl⟩ | ⟨k1,rfl⟩<;>rcases h2 with⟨rfl,rfl⟩ | ⟨k2,rfl⟩<;>simp[Instr.sliceBounds,Instr.sliceBound,asIntOf, *]
theorem ALQ{lo:Option Value}{k k3:IntKind}{l h:Int}{n cap:Nat}(h1:(lo=none/\l=0)∨∃k,lo=some (.int k l))(hl:0<=l)(hlh:l<=h)(hn:h<=n)(hc:n<=cap)(w:World) :
  (Instr.sliceBounds true n cap lo (some (.int k h)) (some (.int k3 h))).run P w=.ok (l.toNat,h.toNat,h.toNat) w:=by
 have e1:h<=(cap:Int):=by omega
 have e2:0<=h:=by omega
 have e3:max h 0=h:=by omega
 rcases h1 with⟨rfl,rfl⟩ | ⟨k1,rfl⟩<;>simp[Instr.sliceBounds,Instr.sliceBound,asIntOf, *]
theorem ATD{k n l h:Nat}{get:Nat->DVal}{ex:Bool}{base:Option Addr}{cap m:Nat}(hd:DRel B (.list k n get ex) (.slice base n cap))(hlh:l<=h)(hn:h<=n)(hm:h<=m)(hmc:m<=cap) :
  DRel B (.list k (h-l) (λi=>get (l+i)) (decide (m=h))) (.slice (if m=l then base else base.map (·.add (l*k))) (h-l) (m-l)):=by
 rcases Nat.eq_zero_or_pos (h-l) with h0 | h0
 ·rw[h0]
  refine .nil (λhx=>by simp at hx;omega) ?_
  by_cases hml:m=l
  ·exact .inl (by omega)
  ·right
   rw[if_neg hml]
   cases hd with
   |nil _ hb=>
    rcases hb with hb | hb
    ·omega
    ·cases base with
     |none=>exact absurd rfl hb
     |some a=>simp
   |list=>simp
 ·cases hd with
  |nil=>omega
  |list hn0 hb hcap hex hk hsz hrel=>
   rename_i b off c
   rw[if_neg (by omega)]
   simp only[Option.map_some,WQ]
   have h1:h*k<=n*k:=Nat.mul_le_mul_right k hn
   have h2:(h-l)*k+l*k=h*k:=by rw[<-Nat.add_mul];congr 1;omega
   refine .list h0 hb (by omega) (λhx=>by simp at hx;omega) (λi hi=>hk _ (by omega)) (by omega) λi j x y hi hx hy=>?_
   refine hrel (l+i) j x y (by omega) hx ?_
   rw[Nat.add_mul,show off+(l*k+i*k)+j=off+l*k+i*k+j by omega];exact hy
theorem DRel.weak{k n:Nat}{get:Nat->DVal}{ex:Bool}{y:Value}(h:DRel B (.list k n get ex) y):DRel B (.list k n get false) y:=by
 cases h with
 |nil a b=>exact .nil (by simp) b
 |list a b c d e f g=>exact .list a b c (by simp) e f g
theorem BDE{t:TypeId}{x:AVal}{lo hi mx:Option AVal}{q:AVal}{pre:List Prop}{v:Value}{lov hiv mxv:Option Value}(h:BJZ P t x lo hi mx=some (q,pre))(hp:BG pre)(hv:VRel B ι D x v)
  (hlo:∀a,lo=some a->∃y,lov=some y/\VRel B ι D a y) (hlo0:lo=none->lov=none) (hhi:∀a,hi=some a->∃y,hiv=some y/\VRel B ι D a y) (hhi0:hi=none->hiv=none)
  (hmx:∀a,mx=some a->∃y,mxv=some y/\VRel B ι D a y) (hmx0:mx=none->mxv=none) (w:World) :
  ∃y,(Instr.sliceAt t v lov hiv mxv).run P w=.ok y w/\VRel B ι D q y:=by
 unfold BJZ at h
 split at h
 ·rename_i e k n get ex hu
  split at h
  case isFalse=>cases h
  rename_i hs
  have hs:(P.info? e).map (λi=>i.size)=some k:=eq_of_beq hs
  obtain⟨base,cap,rfl⟩:∃base cap,v=.slice base n cap:=by
   cases hv.d_inv<;>exact⟨_,_,rfl⟩
  have hnc:n<=cap:=by cases hv.d_inv<;>omega
  split at h
  ·rename_i l hh hl hhh
   cases h
   obtain⟨p1,p2,p3⟩:=hp
   have b1:=WT hl hlo hlo0
   have b2:=WT hhh hhi hhi0
   have hm0:=hmx0 rfl
   subst hm0
   refine⟨_,by simp only[Instr.sliceAt,Sem.run_bind,run_underlying hu,Result.andThen_ok,Instr.slice,ARH b1 b2 p1 p2 p3 hnc,EH hs,Sem.run_pure];rfl,.d ?_⟩
   have:=ATD (l:=l.toNat) (h:=hh.toNat) (m:=cap) hv.d_inv (by omega) (by omega) (by omega) (Nat.le_refl _)
   exact DRel.weak this
  ·rename_i l hh k3 m hl hhh
   split at h
   case isFalse=>cases h
   rename_i hsome
   cases h
   obtain⟨p1,p2,rfl,p3⟩:=hp
   have b1:=WT hl hlo hlo0
   have b2:=WT hhh hhi hhi0
   obtain⟨a,rfl⟩:=Option.isSome_iff_exists.1 hsome
   obtain⟨y,hy,_⟩:=hhi a rfl
   rcases b2 with⟨b2,_⟩ | ⟨k4,b2⟩
   ·rw[hy] at b2;cases b2
   subst b2
   obtain⟨y3,hy3,hy3r⟩:=hmx _ rfl
   subst hy3
   cases hy3r.d_inv
   refine⟨_,by simp only[Instr.sliceAt,Sem.run_bind,run_underlying hu,Result.andThen_ok,Instr.slice,ALQ b1 p1 p2 p3 hnc,EH hs,Sem.run_pure];rfl,.d ?_⟩
   have:=ATD (l:=l.toNat) (h:=hh.toNat) (m:=hh.toNat) hv.d_inv (by omega) (by omega) (Nat.le_refl _) (by omega)
   simpa using this
  ·cases h
 ·rename_i e id k i n hu
  split at h
  case isFalse=>cases h
  rename_i hs
  have hs:(P.info? e).map (λi=>i.size)=some k:=eq_of_beq hs
  split at h
  ·rename_i l hh hl hhh
   cases h
   obtain⟨p1,p2,p3,p4⟩:=hp
   have b1:=WT hl hlo hlo0
   have b2:=WT hhh hhi hhi0
   have hm0:=hmx0 rfl
   subst hm0
   cases hv
   rename_i cap hD hq hcap
   refine⟨_,by simp only[Instr.sliceAt,Sem.run_bind,run_underlying hu,Result.andThen_ok,Instr.slice,ARH b1 b2 p1 p2 p3 hcap,EH hs,Sem.run_pure];rfl,?_⟩
   have:=VRel.own (B:=B) (ι:=ι) (D:=D) (id:=id) (k:=k) (i:=i+l.toNat) (n:=hh.toNat-l.toNat) (cap:=cap-l.toNat) hD (by omega) (by omega)
   have e1:(if cap=l.toNat then (some (⟨(ι id).b,i*k,none⟩:Addr)) else (some (⟨(ι id).b,i*k,none⟩:Addr)).map (·.add (l.toNat*k)))=some ⟨(ι id).b,(i+l.toNat)*k,none⟩:=by
    split
    ·have:l.toNat=0:=by omega
     simp[this]
    ·simp[WQ,Nat.add_mul]
   rw[e1];exact this
  ·cases h
 ·cases h
def Gl(P:Program)(r:Nat)(t:TypeId)(len cap:AVal):Option Eff:=match P.underlying t,intA len,intA cap with
 |some (.slice e),some (_,n),some (_,c)=>match (P.info? e).map (λi=>(i.size,i.bytes)),(P.info? e).bind (·.zero) with
  |some (k,bytes),some z=>if z.cells.size==k&&EY (ofV z).cells1&&Nat.blt 0 k then
   some ⟨.own r k 0 n.toNat,[(r,.live (.row k n.toNat λ_=>ofV z))],[0<=n/\n=c/\n<=9223372036854775807/\bytes*n<=281474976710656]⟩ else none
  |_,_=>none
 |_,_,_=>none
theorem AEL{n:Int}(h0:0<=n)(h1:n<=9223372036854775807):IntKind.i64.wrap n=n:=by
 simp only[IntKind.wrap,IntKind.bits,IntKind.signed]
 have:n % (2 ^ 64:Int)=n:=Int.emod_eq_of_lt h0 (by omega)
 simp only[this]
 rw[if_neg (by simp;omega)]
theorem AJP{r:Nat}{t:TypeId}{len cap:AVal}{vl vc:Value}{e:Eff}(h:Gl P r t len cap=some e)(hp:BG e.pre)(hr:H r=.none)(hH:HRel B ι H w)(hl:VRel B ι D len vl)(hc:VRel B ι D cap vc) :
  ∃y w',(Instr.makeSlice t vl vc).run P w=.ok y w'/\OZ B ι H w (DV H e.upd) e.val y w':=by
 unfold Gl at h
 split at h
 case h_2=>cases h
 rename_i el k0 n k00 c hu hil hic
 have:=UB hil hl;subst this
 have:=UB hic hc;subst this
 split at h
 case h_2=>cases h
 rename_i k bytes z hi hz
 split at h
 case isFalse=>cases h
 rename_i hcc
 simp only[Bool.and_eq_true,beq_iff_eq,Nat.blt_eq] at hcc
 obtain⟨⟨hzk,hone⟩,hk0⟩:=hcc
 cases h
 obtain⟨p1,rfl,p2,p3⟩:=hp
 obtain⟨i,hii⟩:∃i,P.info? el=some i:=by
  cases hii:P.info? el with
  |none=>simp[hii] at hi
  |some i=>exact⟨i,rfl⟩
 simp only[hii,Option.map_some,Option.some.injEq,Prod.mk.injEq,Option.bind_some] at hi hz
 obtain⟨rfl,rfl⟩:=hi
 obtain⟨m,rfl⟩:=Int.eq_ofNat_of_zero_le p1
 have e1:¬ ((m:Int)<0):=by omega
 have e2:¬ (281474976710656<(i.bytes:Int)*(m:Int)):=by omega
 have hzz:(zeroValue el).run P w=.ok z w:=by simp[zeroValue,QU hii,hz]
 have hsz:(sizeOf el).run P w=.ok i.size w:=by simp[sizeOf,QU hii]
 have hrow:=lG z.cells m i.size hzk hk0
 refine⟨.slice (some ⟨w.heap.size,0,none⟩) m m,w.alloc (.cells ((Array.range (m*i.size)).map λj=>z.cells[j % z.cells.size]!) el),?_,?_⟩
 ·by_cases hm:m*i.size=0
  ·simp[Instr.makeSlice,run_underlying hu,asInt,asIntOf,QU hii,AEL p1 p2,e1,e2,hsz,hm,newRow]
   rw[show Array.range 0=#[] from rfl,Array.map_empty,Array.map_empty]
  ·simp[Instr.makeSlice,run_underlying hu,asInt,asIntOf,QU hii,AEL p1 p2,e1,e2,hsz,hm,newRow,hzz]
 ·obtain⟨B',ι',m1,m2,m3⟩:=Q8 (k:=i.size) (n:=m) (get:=λ_=>ofV z) (cs:=(Array.range (m*i.size)).map λj=>z.cells[j % z.cells.size]!) hr hH m el
   (λj _=>⟨by rw[NQ,hzk],hone⟩) (Nat.le_refl _) (by simp) (λj l x y hj hx hy=>by
    have hlt:=(List.getElem?_eq_some_iff.1 hx).1
    rw[NQ,hzk] at hlt
    rw[<-Array.getElem?_toList,hrow,FN (by simpa using hzk) m j l hj hlt,Array.getElem?_toList] at hy
    exact oX z l x y hx hy)
  refine⟨B',ι',m1,?_⟩
  have:=VRel.own (B:=B') (ι:=ι') (D:=(EC H r (.live (.row i.size m λ_=>ofV z))).dom) (k:=i.size) (i:=0) (n:=m) (cap:=m) m2 (Nat.le_refl _) (by rw[m3];simp)
  rw[m3,show 0*i.size=0 by simp] at this;exact this
def ASG(P:Program)(r:Nat)(t:TypeId)(len cap:AVal):Option Eff:=match P.underlying t,intA len,intA cap with
 |some (.slice e),some (_,n),some (_,c)=>match (P.info? e).map (λi=>(i.size,i.bytes)),(P.info? e).bind (·.zero) with
  |some (k,bytes),some z=>if z.cells.size==k&&Nat.beq k 1 then
   some ⟨.own r 1 0 n.toNat,[(r,.live (.box (List.replicate n.toNat (.d (Ux (z.cells.getD 0 undef))))))],[0<n/\n=c/\n<=9223372036854775807/\bytes*n<=281474976710656]⟩ else none
  |_,_=>none
 |_,_,_=>none
theorem AOA{r:Nat}{t:TypeId}{len cap:AVal}{vl vc:Value}{e:Eff}(h:ASG P r t len cap=some e)(hp:BG e.pre)(hr:H r=.none)(hH:HRel B ι H w)(hl:VRel B ι D len vl)(hc:VRel B ι D cap vc) :
  ∃y w',(Instr.makeSlice t vl vc).run P w=.ok y w'/\OZ B ι H w (DV H e.upd) e.val y w':=by
 unfold ASG at h
 split at h
 case h_2=>cases h
 rename_i el k0 n k00 c hu hil hic
 have:=UB hil hl;subst this
 have:=UB hic hc;subst this
 split at h
 case h_2=>cases h
 rename_i k bytes z hi hz
 split at h
 case isFalse=>cases h
 rename_i hcc
 simp only[Bool.and_eq_true,beq_iff_eq] at hcc
 obtain⟨hzk,hk1⟩:=hcc
 obtain rfl:=Nat.eq_of_beq_eq_true hk1
 cases h
 obtain⟨p0,rfl,p2,p3⟩:=hp
 have p1:0<=n:=by omega
 obtain⟨i,hii⟩:∃i,P.info? el=some i:=by
  cases hii:P.info? el with
  |none=>simp[hii] at hi
  |some i=>exact⟨i,rfl⟩
 simp only[hii,Option.map_some,Option.some.injEq,Prod.mk.injEq,Option.bind_some] at hi hz
 obtain⟨hi1,rfl⟩:=hi
 obtain⟨m,rfl⟩:=Int.eq_ofNat_of_zero_le p1
 have e1:¬ ((m:Int)<0):=by omega
 have e2:¬ (281474976710656<(i.bytes:Int)*(m:Int)):=by omega
 have hzz:(zeroValue el).run P w=.ok z w:=by simp[zeroValue,QU hii,hz]
 have hsz:(sizeOf el).run P w=.ok 1 w:=by simp[sizeOf,QU hii,hi1]
 have hrow:=lG z.cells m 1 hzk (by omega)
 refine⟨.slice (some ⟨w.heap.size,0,none⟩) m m,w.alloc (.cells ((Array.range (m*1)).map λj=>z.cells[j % z.cells.size]!) el),?_,?_⟩
 ·simp[Instr.makeSlice,run_underlying hu,asInt,asIntOf,QU hii,AEL p1 p2,e1,e2,hsz,show ¬ m=0 by omega,newRow,hzz]
 ·refine⟨B,Tj ι r ⟨w.heap.size,m⟩,Moved.new hH hr (.box (by simp) λj x y hx hy=>?_),?_⟩
  ·simp only[Int.toNat_natCast] at hx
   have hlt:=(List.getElem?_eq_some_iff.1 hx).1
   simp only[List.length_replicate] at hlt
   rw[<-Array.getElem?_toList,hrow] at hy
   have h1:=FN (l:=z.cells.toList) (k:=1) (by simpa using hzk) m j 0 hlt (by omega)
   rw[show j*1+0=j by omega] at h1
   rw[h1,Array.getElem?_toList] at hy
   simp only[List.getElem?_replicate,hlt,if_true,Option.some.injEq] at hx
   subst hx
   rw[show z.cells.getD 0 undef=y by simp[Array.getD_eq_getD_getElem?,hy]]
   exact .d (TX _)
  ·have:=VRel.own (B:=B) (ι:=Tj ι r ⟨w.heap.size,m⟩) (D:=(EC H r (.live (.box (List.replicate m (.d (Ux (z.cells.getD 0 undef))))))).dom) (id:=r) (k:=1) (i:=0) (n:=m) (cap:=m) (dW _) (Nat.le_refl _) (by rw[EI];simp)
   rw[EI,show 0*1=0 by simp] at this;exact this
theorem ASY{r:Nat}{t:TypeId}{len cap:AVal}{vl vc:Value}{e:Eff}(h:Gl P r t len cap=some e)(hp:BG e.pre)(hH:HRel B ι H w)(hl:VRel B ι D len vl)(hc:VRel B ι D cap vc) :
  ∃k n get y w',e=⟨.own r k 0 n,[(r,.live (.row k n get))],e.pre⟩/\(Instr.makeSlice t vl vc).run P w=.ok y w'/\OZ B ι H w H (.d (.list k n get true)) y w':=by
 unfold Gl at h
 split at h
 case h_2=>cases h
 rename_i el k0 n k00 c hu hil hic
 have:=UB hil hl;subst this
 have:=UB hic hc;subst this
 split at h
 case h_2=>cases h
 rename_i k bytes z hi hz
 split at h
 case isFalse=>cases h
 rename_i hcc
 simp only[Bool.and_eq_true,beq_iff_eq,Nat.blt_eq] at hcc
 obtain⟨⟨hzk,hone⟩,hk0⟩:=hcc
 cases h
 obtain⟨p1,rfl,p2,p3⟩:=hp
 obtain⟨i,hii⟩:∃i,P.info? el=some i:=by
  cases hii:P.info? el with
  |none=>simp[hii] at hi
  |some i=>exact⟨i,rfl⟩
 simp only[hii,Option.map_some,Option.some.injEq,Prod.mk.injEq,Option.bind_some] at hi hz
 obtain⟨rfl,rfl⟩:=hi
 obtain⟨m,rfl⟩:=Int.eq_ofNat_of_zero_le p1
 have e1:¬ ((m:Int)<0):=by omega
 have e2:¬ (281474976710656<(i.bytes:Int)*(m:Int)):=by omega
 have hzz:(zeroValue el).run P w=.ok z w:=by simp[zeroValue,QU hii,hz]
 have hsz:(sizeOf el).run P w=.ok i.size w:=by simp[sizeOf,QU hii]
 have hrow:=lG z.cells m i.size hzk hk0
 refine⟨i.size,m,λ_=>ofV z,.slice (some ⟨w.heap.size,0,none⟩) m m,w.alloc (.cells ((Array.range (m*i.size)).map λj=>z.cells[j % z.cells.size]!) el),rfl,?_,?_⟩
 ·by_cases hm:m*i.size=0
  ·simp[Instr.makeSlice,run_underlying hu,asInt,asIntOf,QU hii,AEL p1 p2,e1,e2,hsz,hm,newRow]
   rw[show Array.range 0=#[] from rfl,Array.map_empty,Array.map_empty]
  ·simp[Instr.makeSlice,run_underlying hu,asInt,asIntOf,QU hii,AEL p1 p2,e1,e2,hsz,hm,newRow,hzz]
 ·refine⟨_,ι,Moved.newImm hH ((Array.range (m*i.size)).map λj=>z.cells[j % z.cells.size]!) el,.d ?_⟩
  by_cases hm:m=0
  ·subst hm;exact .nil (λ_=>rfl) (.inl rfl)
  ·refine .list (by omega) (c:=(Array.range (m*i.size)).map λj=>z.cells[j % z.cells.size]!) (if_pos rfl) (Nat.le_refl _) (λ_=>rfl) (λj _=>⟨by rw[NQ,hzk],hone⟩) (by simp) (λj l x y hj hx hy=>?_)
   have hlt:=(List.getElem?_eq_some_iff.1 hx).1
   rw[NQ,hzk] at hlt
   rw[Nat.zero_add,<-Array.getElem?_toList,hrow,FN (by simpa using hzk) m j l hj hlt,Array.getElem?_toList] at hy
   exact oX z l x y hx hy
def BPR(P:Program)(t:TypeId)(x ix:AVal):Option (AVal×List Prop):=match intA ix,P.underlying t with
 |some (_,j),some (.array m e)=>match x,P.underlying e,szT P e with
  | .d (.arr k n get),some d,some k'=>match (get j.toNat) with
   | .agg ds=>if Kn d&&k==k'&&m==n then some (.d (.agg ds),[0<=j/\j<m]) else none
   |q=>if !Kn d&&k==1&&k'==1&&m==n then some (.d q,[0<=j/\j<m]) else none
  |_,_,_=>none
 |some (_,j),some .string=>match x with
  | .d (.v (.string s))=>some (.d (.v (.int .u8 (s.data.toList.getD j.toNat 0).toNat)),[0<=j/\j<s.size])
  |_=>none
 |_,_=>none
theorem BHD{k n:Nat}{get:Nat->DVal}{ys:Array Value}(h:DRel B (.arr k n get) (.agg ys)){j:Nat}(hj:j<n) :
  j*k+k<=ys.size/\(get j).cells1.length=k/\∀(l:Nat) (x:DVal) (y:Value),(get j).cells1[l]?=some x->ys[j*k+l]?=some y->DRel B x y:=by
 cases h with
 |arr hl hk hr=>
  have h1:(j+1)*k<=n*k:=Nat.mul_le_mul_right k hj
  have h2:(j+1)*k=j*k+k:=Nat.succ_mul j k
  exact⟨by omega,(hk j hj).len,λl x y hx hy=>hr j l x y hj hx hy⟩
theorem AZG{t:TypeId}{x ix q:AVal}{u v:Value}{pre:List Prop}(h:BPR P t x ix=some (q,pre))(hp:BG pre)(hu:VRel B ι D x u)(hv:VRel B ι D ix v)(w:World) :
  ∃y,(Instr.index t u v).run P w=.ok y w/\VRel B ι D q y:=by
 unfold BPR at h
 split at h
 ·rename_i k0 j m e hi ht
  have:=UB hi hv;subst this
  split at h
  ·rename_i k n get d k' hd hs
   have hs:(P.info? e).map (λi=>i.size)=some k':=hs
   split at h
   ·rename_i ds hg
    split at h
    case isFalse=>cases h
    rename_i hc
    simp only[Bool.and_eq_true,beq_iff_eq] at hc
    obtain⟨⟨hrow,rfl⟩,rfl⟩:=hc
    cases h
    have hp':0<=j/\j<(m:Int):=hp
    obtain⟨ys,rfl⟩:∃ys,u=.agg ys:=by cases hu.d_inv;exact⟨_,rfl⟩
    obtain⟨h1,h2,h3⟩:=BHD hu.d_inv (j:=j.toNat) (by omega)
    rw[hg] at h2 h3
    refine⟨.agg (ys.extract (j.toNat*k) (j.toNat*k+k)),by simp[Instr.index,asIntOf,run_underlying ht,hp',EH hs,part,Su hd,hrow],.d (.agg (by simp[DVal.cells1] at h2;simp;omega) λl x y hx hy=>?_)⟩
    have hlt:=(List.getElem?_eq_some_iff.1 hx).1
    simp only[DVal.cells1] at h2
    refine h3 l x y hx ?_
    rw[Array.getElem?_extract] at hy
    split at hy
    ·exact hy
    ·cases hy
   ·rename_i q' hg
    split at h
    case isFalse=>cases h
    rename_i hc
    simp only[Bool.and_eq_true,beq_iff_eq,Bool.not_eq_true'] at hc
    obtain⟨⟨⟨hrow,rfl⟩,rfl⟩,rfl⟩:=hc
    cases h
    have hp':0<=j/\j<(m:Int):=hp
    obtain⟨ys,rfl⟩:∃ys,u=.agg ys:=by cases hu.d_inv;exact⟨_,rfl⟩
    obtain⟨h1,h2,h3⟩:=BHD hu.d_inv (j:=j.toNat) (by omega)
    have hq:(get j.toNat).cells1=[get j.toNat]:=by
     generalize get j.toNat=g at *
     cases g<;>first | rfl | exact absurd rfl (hg _)
    have hj:j.toNat<ys.size:=by omega
    refine⟨ys[j.toNat],by simp[Instr.index,asIntOf,run_underlying ht,hp',EH hs,part,Su hd,hrow,hj],.d ?_⟩
    exact h3 0 (get j.toNat) _ (by simp[hq]) (by simp[hj])
  ·cases h
 ·rename_i k0 j hi ht
  have:=UB hi hv;subst this
  split at h
  ·rename_i s
   cases h
   have hp':0<=j/\j<(s.size:Int):=hp
   cases hu.d_inv
   have hj:j.toNat<s.size:=by omega
   have hb:s[j.toNat]?=some s[j.toNat]:=by simp[hj]
   have hd:(s.data.toList.getD j.toNat 0)=s[j.toNat]:=by
    rw[List.getD_eq_getElem?_getD,Array.getElem?_toList]
    have:s.data[j.toNat]?=some s[j.toNat]:=by
     rw[Array.getElem?_eq_getElem (by simpa using hj)];rfl
    rw[this];rfl
   exact⟨.int .u8 s[j.toNat].toNat,by simp[Instr.index,asIntOf,run_underlying ht,hp'],by rw[hd];exact .d (.v _)⟩
  ·cases h
 ·cases h
def ARY(P:Program)(s d:TypeId)(x:AVal):Option AVal:=match P.underlying s,P.underlying d,x with
 |some (.int _),some (.int k),.d (.v (.int _ n))=>some (.d (.v (.int k (k.wrap n))))
 |some .string,some .string,.d (.v (.string b))=>some (.d (.v (.string b)))
 |_,_,_=>none
theorem ARQ{s d:TypeId}{x q:AVal}{v:Value}(h:ARY P s d x=some q)(hv:VRel B ι D x v)(w:World):∃y,(convert s d v).run P w=.ok y w/\VRel B ι D q y:=by
 unfold ARY at h
 split at h
 ·rename_i hs hd
  cases h
  cases hv.d_inv
  exact⟨_,by simp[convert,run_underlying hs,run_underlying hd,Conv.intToInt],.d (.v _)⟩
 ·rename_i hs hd
  cases h
  cases hv.d_inv
  exact⟨_,by simp[convert,run_underlying hs,run_underlying hd],.d (.v _)⟩
 ·cases h
end Go.Sym
namespace Go.Sym
variable {P : Program} {B B' : Ft} {ι ι' : Nat -> Pl} {H H' : Heap} {D : Nat -> Prop} {w w' : World}
def eqS(x y:Value)(d:TypeDesc):Option Bool:=match d,x,y with
 | .int _,.int k a,.int k' b=>if k=k' then some (a==b) else none
 | .bool,.bool a,.bool b=>some (a==b)
 | .string,.string a,.string b=>some (a.toList==b.toList)
 |_,_,_=>none
def eqFs(P:Program)(go:TypeId->List DVal->List DVal->Option Bool)(xs ys:List DVal):List Field->Option Bool
 |[]=>some true
 | f :: fs => if f.name ≠ "_" then match szT P f.type with
   |some n=>if xs.length<f.offset+n||ys.length<f.offset+n then none else
    match go f.type ((xs.drop f.offset).take n) ((ys.drop f.offset).take n),eqFs P go xs ys fs with
    |some a,some b=>some (a&&b)
    |_,_=>none
   |none=>none
  else eqFs P go xs ys fs
def eqIs(go:List DVal->List DVal->Option Bool)(c:Nat)(xs ys:List DVal):List Nat->Option Bool
 |[]=>some true
 |i :: is=>if xs.length<i*c+c||ys.length<i*c+c then none else
  match go ((xs.drop (i*c)).take c) ((ys.drop (i*c)).take c),eqIs go c xs ys is with
  |some a,some b=>some (a&&b)
  |_,_=>none
def eqD(P:Program):Nat->TypeId->List DVal->List DVal->Option Bool
 |0,_,_,_=>none
 |d+1,t,xs,ys=>match P.underlying t with
  |some (.struct fs)=>if P.stoodInHeld t then none else eqFs P (eqD P d) xs ys fs.toList
  |some (.array n e)=>match szT P e with
   |some c=>eqIs (eqD P d e) c xs ys (List.range n)
   |none=>none
  |some dd=>match xs,ys with
   |[.v x],[.v y]=>eqS x y dd
   |_,_=>none
  |none=>none
def rF(P:Program)(B:Ft)(t:TypeId)(xs:List DVal)(v:Value):Prop:=match P.underlying t with
 |some d=>if Kn d then ∃ys,v=.agg ys/\ys.size=xs.length/\∀(j:Nat) (x:DVal) (y:Value),xs[j]?=some x->ys[j]?=some y->DRel B x y
  else ∃x,xs=[x]/\DRel B x v
 |none=>False
theorem mX{t:TypeId}{xs:List DVal}{ys:Array Value}{off n:Nat}(hn:szT P t=some n){d:TypeDesc}(hu:P.underlying t=some d)(h1:Kn d=true∨n=1)(hl:ys.size=xs.length)(hoff:off+n<=xs.length)
  (hr:∀(j:Nat) (x:DVal) (y:Value),xs[j]?=some x->ys[j]?=some y->DRel B x y) (w:World) :
  ∃v,(part t ys off).run P w=.ok v w/\rF P B t ((xs.drop off).take n) v:=by
 have hs:=EH (P:=P) hn w
 unfold rF
 rw[hu]
 by_cases hrow:Kn d=true
 ·refine⟨.agg (ys.extract off (off+n)),by simp[part,Su hu,hrow,hs],?_⟩
  simp only[hrow,if_true]
  refine⟨_,rfl,by simp;omega,λj x y hx hy=>?_⟩
  have hlt:=(List.getElem?_eq_some_iff.1 hx).1
  simp at hlt
  rw[Fx (by omega)] at hx
  rw[Array.getElem?_extract] at hy
  split at hy
  ·exact hr _ _ _ hx hy
  ·cases hy
 ·have h1:n=1:=by rcases h1 with h | h;exact absurd h hrow;exact h
  subst h1
  have hlt:off<ys.size:=by omega
  refine⟨ys[off],by simp[part,Su hu,hrow,hlt],?_⟩
  simp only[hrow]
  refine⟨xs[off],?_,hr off _ _ (by simp) (by simp[hlt])⟩
  rw[List.drop_eq_getElem_cons (by omega)];rfl
theorem BWS{x y:Value}{t:TypeId}{d:TypeDesc}{r:Bool}(hu:P.underlying t=some d)(h:eqS x y d=some r)(n:Nat)(w:World):(Op.equalIn (n+1) t x y).run P w=.ok r w:=by
 unfold eqS at h
 split at h
 ·split at h
  ·rename_i hk;subst hk;cases h;simp[Op.equalIn,run_underlying hu]
  ·cases h
 ·cases h;simp[Op.equalIn,run_underlying hu]
 ·cases h;simp[Op.equalIn,run_underlying hu];exact beq_toListBytes _ _
 ·cases h
def oneT(P:Program)(t:TypeId):Bool:=match P.underlying t,szT P t with
 |some d,some n=>Kn d||n==1
 |_,_=>false
def allT(P:Program):Nat->TypeId->Bool
 |0,_=>false
 |d+1,t=>oneT P t&&match P.underlying t with
  | some (.struct fs) => fs.toList.all λ f => f.name == "_" || allT P d f.type
  |some (.array _ e)=>allT P d e
  |_=>true
theorem AVR{t:TypeId}(h:oneT P t=true):∃d n,P.underlying t=some d/\szT P t=some n/\(Kn d=true∨n=1):=by
 unfold oneT at h
 split at h
 ·rename_i d n h1 h2
  exact⟨d,n,h1,h2,by simpa using h⟩
 ·cases h
theorem AGR:∀(d:Nat) {t:TypeId} {xs ys:List DVal} {u v:Value} {r:Bool} (n:Nat),d<=n->allT P d t=true->eqD P d t xs ys=some r->rF P B t xs u->rF P B t ys v->∀w,(Op.equalIn n t u v).run P w=.ok r w
 |0,_,_,_,_,_,_,_,_,_,h,_,_,_=>by simp[eqD] at h
 |d+1,t,xs,ys,u,v,r,n,hn,ha,h,hx,hy,w=>by
  obtain⟨n,rfl⟩:∃m,n=m+1:=⟨n-1,by omega⟩
  simp only[allT,Bool.and_eq_true] at ha
  obtain⟨ha1,ha2⟩:=ha
  unfold eqD at h
  unfold rF at hx hy
  split at h
  ·rename_i fs hu
   rw[hu] at hx hy ha2
   simp only[Kn,if_true] at hx hy
   obtain⟨xa,rfl,hxl,hxr⟩:=hx
   obtain⟨ya,rfl,hyl,hyr⟩:=hy
   split at h
   ·cases h
   ·rename_i hst
    have hf:P.fieldsOf t=fs:=by simp[Program.fieldsOf,hu]
    rw[run_equalIn_struct w n t xa ya (by rw[hf];exact hu) (by simpa using hst),hf]
    simp only[List.all_eq_true,Bool.or_eq_true,beq_iff_eq] at ha2
    generalize fs.toList=l at h ha2
    clear hu hf
    induction l generalizing r with
    |nil=>simp only[eqFs,Option.some.injEq] at h;subst h;simp[Op.eqFields]
    |cons f l ih=>
     simp only[eqFs] at h
     simp only[Op.eqFields]
     split at h
     ·rename_i hname
      rw[if_pos hname]
      have haf:allT P d f.type=true:=(ha2 f (by simp)).resolve_left hname
      split at h
      ·rename_i m hm
       split at h
       ·cases h
       ·rename_i hlen
        simp only[Bool.or_eq_true,decide_eq_true_eq,not_or,Nat.not_lt] at hlen
        split at h
        ·rename_i a b hga hgb
         cases h
         have hoT:oneT P f.type=true:=by
          cases d with
          |zero=>simp[allT] at haf
          |succ d=>simp only[allT,Bool.and_eq_true] at haf;exact haf.1
         obtain⟨dd,m',h1,h2,h3⟩:=AVR hoT
         rw[hm] at h2;cases h2
         obtain⟨pu,hpu,hpuc⟩:=mX (B:=B) hm h1 h3 hxl hlen.1 hxr w
         obtain⟨pv,hpv,hpvc⟩:=mX (B:=B) hm h1 h3 hyl hlen.2 hyr w
         have he:=AGR d n (by omega) haf hga hpuc hpvc w
         have hi:=ih _ hgb (λg hg=>ha2 g (by simp[hg]))
         simp only[Sem.run_bind,hpu,hpv,he,Result.andThen_ok,Sem.run_ite]
         cases a
         ·simp
         ·simpa using hi
        ·cases h
      ·cases h
     ·rename_i hname
      rw[if_neg hname]
      exact ih _ h (λg hg=>ha2 g (by simp[hg]))
  ·rename_i m e hu
   rw[hu] at hx hy ha2
   simp only[Kn,if_true] at hx hy
   obtain⟨xa,rfl,hxl,hxr⟩:=hx
   obtain⟨ya,rfl,hyl,hyr⟩:=hy
   split at h
   ·rename_i c hc
    obtain⟨i,hi,rfl⟩:∃i,P.info? e=some i/\i.size=c:=by
     unfold szT at hc
     cases hi:P.info? e with
     |none=>simp[hi] at hc
     |some i=>simp[hi] at hc;exact⟨i,rfl,hc⟩
    have hce:P.cellsOf e=i.size:=by simp[Program.cellsOf,hi]
    rw[run_equalIn_array w n xa ya hu hi,hce]
    simp only at ha2
    generalize List.range m=l at h
    clear hu
    induction l generalizing r with
    |nil=>simp only[eqIs,Option.some.injEq] at h;subst h;simp[Op.eqItems]
    |cons j l ih=>
     simp only[eqIs] at h
     simp only[Op.eqItems]
     split at h
     ·cases h
     ·rename_i hlen
      simp only[Bool.or_eq_true,decide_eq_true_eq,not_or,Nat.not_lt] at hlen
      split at h
      ·rename_i a b hga hgb
       cases h
       have hoT:oneT P e=true:=by
        cases d with
        |zero=>simp[allT] at ha2
        |succ d=>simp only[allT,Bool.and_eq_true] at ha2;exact ha2.1
       obtain⟨dd,m',h1,h2,h3⟩:=AVR hoT
       rw[hc] at h2;cases h2
       obtain⟨pu,hpu,hpuc⟩:=mX (B:=B) hc h1 h3 hxl hlen.1 hxr w
       obtain⟨pv,hpv,hpvc⟩:=mX (B:=B) hc h1 h3 hyl hlen.2 hyr w
       have he:=AGR d n (by omega) ha2 hga hpuc hpvc w
       have hi2:=ih _ hgb
       simp only[Sem.run_bind,hpu,hpv,he,Result.andThen_ok,Sem.run_ite]
       cases a
       ·simp
       ·simpa using hi2
      ·cases h
   ·cases h
  ·rename_i dd hne1 hne2 hu
   rw[hu] at hx hy
   have hrow:Kn dd=false:=by
    cases dd<;>first | rfl | exact absurd rfl (hne1 _) | exact absurd rfl (hne2 _ _)
   simp only[hrow] at hx hy
   obtain⟨a,rfl,ha⟩:=hx
   obtain⟨b,rfl,hb⟩:=hy
   split at h
   ·rename_i x y hxx hyy
    simp only[List.cons.injEq,and_true] at hxx hyy
    subst hxx;subst hyy
    cases ha;cases hb
    exact BWS hu h n w
   ·cases h
  ·cases h
def eqA(P:Program)(t:TypeId)(x y:AVal):Option Bool:=match x,y,P.underlying t with
 | .d (.agg l),.d (.agg m),some d=>if Kn d&&!P.eqGuardType P.depth t&&allT P 6 t then eqD P 6 t l m else none
 | .d (.arr k n g),.d (.arr k' n' g'),some d=>if Kn d&&!P.eqGuardType P.depth t&&allT P 6 t then eqD P 6 t (DVal.arr k n g).cells (DVal.arr k' n' g').cells else none
 |_,_,_=>none
theorem AWE{t:TypeId}{x y:AVal}{u v:Value}{r:Bool}(h:eqA P t x y=some r)(hx:VRel B ι D x u)(hy:VRel B ι D y v) :
  (∃a b,u=.agg a/\v=.agg b)/\P.eqGuardType P.depth t=false/\∀w,(Op.equal t u v).run P w=.ok r w:=by
 have key:∀(l m:List DVal) (d:TypeDesc) (a b:Array Value),P.underlying t=some d->Kn d=true->allT P 6 t=true->eqD P 6 t l m=some r->a.size=l.length->b.size=m.length ->
   (∀(j:Nat) (x:DVal) (y:Value),l[j]?=some x->a[j]?=some y->DRel B x y)->(∀(j:Nat) (x:DVal) (y:Value),m[j]?=some x->b[j]?=some y->DRel B x y) ->
   ∀w,(Op.equal t (.agg a) (.agg b)).run P w=.ok r w:=by
  intro l m d a b hu hrow hal he hl hm hr1 hr2 w
  refine AGR (B:=B) 6 Op.maxDepth (by decide) hal he ?_ ?_ w
  ·unfold rF;rw[hu];simp only[hrow,if_true];exact⟨_,rfl,hl,hr1⟩
  ·unfold rF;rw[hu];simp only[hrow,if_true];exact⟨_,rfl,hm,hr2⟩
 unfold eqA at h
 split at h
 ·rename_i l m d hu
  split at h
  case isFalse=>cases h
  rename_i hc
  simp only[Bool.and_eq_true,Bool.not_eq_true'] at hc
  obtain⟨⟨hrow,hg⟩,hal⟩:=hc
  cases hx.d_inv
  rename_i a hl hr1
  cases hy.d_inv
  rename_i b hm hr2
  exact⟨⟨_,_,rfl,rfl⟩,hg,key l m d a b hu hrow hal h hl hm hr1 hr2⟩
 ·rename_i k n g k' n' g' d hu
  split at h
  case isFalse=>cases h
  rename_i hc
  simp only[Bool.and_eq_true,Bool.not_eq_true'] at hc
  obtain⟨⟨hrow,hg⟩,hal⟩:=hc
  have hx':=hx.d_inv
  have hy':=hy.d_inv
  obtain⟨a,rfl⟩:∃a,u=.agg a:=by cases hx';exact⟨_,rfl⟩
  obtain⟨b,rfl⟩:∃a,v=.agg a:=by cases hy';exact⟨_,rfl⟩
  obtain⟨h1,h2⟩:=ADD hx' (by simp)
  obtain⟨h3,h4⟩:=ADD hy' (by simp)
  exact⟨⟨_,_,rfl,rfl⟩,hg,key _ _ d a b hu hrow hal h h1 h3 h2 h4⟩
 ·cases h
end Go.Sym
