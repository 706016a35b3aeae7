/- One operation: all together. -/
import Derived.Test.YtoihhodbkimedaaGreatSym4
import Derived.OrdersIn
import Derived.TacticsIn
import Derived.RangeFuncRecord
set_option linter.unusedVariables false
set_option linter.unusedSimpArgs false
namespace Go.Sym
variable {P : Program} {B B' : Jk} {ι ι' : Nat -> Pl} {H H' : Heap} {D : Nat -> Prop} {w w' : World}
def Eff.of(r:Option (AVal×List Prop)):Option Eff:=match r with
 |some (a,p)=>some ⟨a,[],p⟩
 |none=>none
def Eff.one(r:Option AVal):Option Eff:=match r with
 |some a=>some ⟨a,[],[]⟩
 |none=>none
def BUO:AVal->Bool
 | .bptr .. | .rptr .. | .d (.eref ..)=>true
 |_=>false
def ABJ(P:Program)(mt:Bool)(r:Nat)(H:Heap)(b:Builtin)(ats:Array TypeId)(args:List AVal):Option Eff:=match b,args with
 | .len,[a]=>match ats[0]? with
  |some t=>Eff.one (lenA P t a)
  |none=>none
 | .append,[s,x]=>match ats.toList with
  |[t,t2]=>AAT P H r mt t t2 s x
  |_=>none
 | .copy,[d,x]=>match ats[0]? with
  |some t=>BOH P H t d x
  |none=>none
 | .min,l=>Eff.one (foldA minI l)
 | .max,l=>Eff.one (foldA qQ l)
 |_,_=>none
def GW:AVal->AVal
 | .opt _ v=>v
 |v=>v
def Xc(c:Prop):AVal->List Prop
 | .opt g _=>[c->g=true]
 |_=>[]
theorem Dy{c:Prop}{a:AVal}{y:Value}(hc:c)(h:FT (Xc c a))(hv:VRel B ι D a y):VRel B ι D (GW a) y:=by
 cases hv with
 |opt h1 h2=>exact h1 (h hc)
 |d h=>exact .d h
 |agg a b=>exact .agg a b
 |tup a b=>exact .tup a b
 |bptr a=>exact .bptr a
 |rptr a=>exact .rptr a
 |own a b c=>exact .own a b c
 |fn a b c d=>exact .fn a b c d
 |mref a=>exact .mref a
 |any=>exact .any
theorem PU{p:Prop}{r:List Prop}:FT (p :: r)↔p/\FT r:=by
 cases r with
 |nil=>simp[FT]
 |cons q r=>rfl
theorem DI:∀{a b:List Prop},FT (a ++ b)->FT a/\FT b
 |[],b,h=>⟨trivial,h⟩
 |p :: a,b,h=>by
  have h:FT (p :: (a ++ b)):=h
  rw[PU] at h
  obtain⟨h1,h2⟩:=DI h.2
  exact⟨PU.2 ⟨h.1,h1⟩,h2⟩
def opA(P:Program)(mt:Bool)(r:Nat)(ρ:Operand->AVal)(H:Heap):Op->Option Eff
 | .move x | .assign x=>some ⟨ρ x,[],[]⟩
 | .pick c a b=>match ρ c with
  | .d (.v (.bool t))=>some ⟨ASH t (GW (ρ a)) (GW (ρ b)),[],Xc (t=true) (ρ a) ++ Xc (t=false) (ρ b)⟩
  |_=>none
 | .alloc t=>BHD P r t
 | .box _ x=>boxA r (ρ x)
 | .build t ps=>Eff.of (BFL P t (ps.toList.map λp=>(p.1,ρ p.2)))
 | .buildSlice t len ps=>match XW P r t len (ps.toList.map λp=>(p.1,ρ p.2)) with
  |some e=>some e
  |none=>ADI P r t len (ps.toList.map λp=>(p.1,ρ p.2))
 | .load t a=>Eff.of (ANV P H t (ρ a))
 | .store t a x=>AFZ P H t (ρ a) (ρ x)
 | .nilCheck x=>if BUO (ρ x) then some ⟨ρ x,[],[]⟩ else none
 | .binOp op t x y _=>if BAK y then (if BGZ P op t (ρ x) then some ⟨.d .anyB,[],[]⟩ else Eff.of ((AYH P op t (ρ x)).map λ(b,p)=>(.bool b,p))) else match ρ x,ρ y with
  | .d (.v a),.d (.v b)=>match binV P op t a b with
   |some (v,p)=>some ⟨.d (.v v),[],p⟩
   |none=>none
  |a,b=>match op,eqA P t a b with
   | .eql,some r=>some ⟨.bool r,[],[]⟩
   | .neq,some r=>some ⟨.bool (!r),[],[]⟩
   |_,_=>none
 | .unOp op _ x=>match ρ x with
  | .d (.v a)=>match unV op a with
   |some v=>some ⟨.d (.v v),[],[]⟩
   |none=>none
  |_=>none
 | .convert s d x=>Eff.one (ARJ P s d (ρ x))
 | .makeInterface t x=>match ρ x with
  | .d a=>if P.concrete t then some ⟨.d (.iface t a),[],[]⟩ else none
  |_=>none
 | .makeFunc fn first caps=>some ⟨.fn fn (first.toList.map ρ) (caps.toList.map ρ),[],[]⟩
 | .makeSlice t l c=>I9 P r t (ρ l) (ρ c)
 | .slice t x lo hi mx=>match BIN P t (ρ x) (lo.map ρ) (hi.map ρ) (mx.map ρ) with
  |some (a,p)=>some ⟨a,[],p⟩
  |none=>match lo,hi,mx with
   |none,none,none=>Eff.one (Wj P H t (ρ x))
   |lo,hi,mx=>iE P H t (ρ x) (lo.map ρ) (hi.map ρ) (mx.map ρ)
 | .makeMap t h=>match h with
  |none=>API P r t
  |some _=>none
 | .lookup t m ix ok=>Eff.of (ALL P H t (ρ m) (ρ ix) ok)
 | .mapUpdate t m k x=>xN P H t (ρ m) (ρ k) (ρ x)
 | .insert t m k x=>xN P H t (ρ m) (ρ k) (ρ x)
 | .mapEntry t m k=>AXJ P H t (ρ m) (ρ k)
 | .entryStore _ m s x=>bW H (ρ m) (ρ s) (ρ x)
 | .fieldAddr s x f=>Eff.one (G2 P s f (ρ x))
 | .field s x f=>Eff.one (BGK P s f (ρ x))
 | .indexAddr t x ix=>Eff.of (I6 P t (ρ x) (ρ ix))
 | .index t x ix=>Eff.of (BGM P t (ρ x) (ρ ix))
 | .extract x i=>Eff.one (APN (ρ x) i)
 | .call c=>match c.callee with
  | .builtin b=>ABJ P mt r H b c.argTypes (c.args.toList.map ρ)
  |_=>none
 |_=>none
def Runs(P:Program)(ρ:Operand->Value)(o:Oper)(w:World)(y:Value)(w':World):Prop:=
 (execOp ρ o).run P w=.ok (.value y) w'∨((execOp ρ o).run P w=.ok .skip w'/\y=undef)
theorem DRel.v_inv{x y:Value}(h:DRel B (.v x) y):y=x:=by cases h;rfl
theorem FG(hH:HRel B ι H w){a:AVal}{y:Value}(h:VRel B ι H.dom a y):Bx B ι H w (KP H []) a y w:=⟨B,ι,Moved.refl hH,h⟩
theorem mO{α β:Type}{f:α->β}{l:List α}{j:Nat}{y:β}(h:(l.map f)[j]?=some y):∃x,l[j]?=some x/\f x=y:=by
 simpa[List.getElem?_map,Option.map_eq_some_iff] using h
theorem AUC{mt:Bool}{r:Nat}{ρA:Operand->AVal}{ρ:Operand->Value}{o:Oper}{e:Eff}(h:opA P mt r ρA H o.op=some e)(hp:FT e.pre)(hρ:∀x,VRel B ι H.dom (ρA x) (ρ x))(hcv:∀v,ρ (.const v)=v)(hr:H r=.none)(hH:HRel B ι H w) :
  ∃y w',Runs P ρ o w y w'/\Bx B ι H w (KP H e.upd) e.val y w':=by
 obtain⟨dst,op,type,pos,after,guard⟩:=o
 simp only at h
 have val:∀{s:Sem Value} {y:Value} {w':World},s.run P w=.ok y w'->(do pure (Next.value (<-s)):Sem Next).run P w=.ok (.value y) w':=λhs=>by simp[hs]
 have maps:∀(l:Array Operand),(l.map ρ).size=(l.toList.map ρA).length/\∀(j:Nat) (a:AVal) (y:Value),(l.toList.map ρA)[j]?=some a->(l.map ρ)[j]?=some y->VRel B ι H.dom a y:=λl=>
  ⟨by simp,λj a y ha hy=>by
   obtain⟨x,hx,rfl⟩:=mO ha
   rw[Array.getElem?_toList] at hx
   simp[hx] at hy
   subst hy;exact hρ x⟩
 have pmaps:∀(l:Array (Nat×Operand)),(l.map λx=>(x.1,ρ x.2)).size=(l.toList.map λp=>(p.1,ρA p.2)).length/\∀(j:Nat) (a:Nat×AVal) (y:Nat×Value),(l.toList.map λp=>(p.1,ρA p.2))[j]?=some a->(l.map λx=>(x.1,ρ x.2))[j]?=some y->a.1=y.1/\VRel B ι H.dom a.2 y.2:=λl=>
  ⟨by simp,λj a y ha hy=>by
   obtain⟨x,hx,rfl⟩:=mO ha
   rw[Array.getElem?_toList] at hx
   simp[hx] at hy
   subst hy;exact⟨rfl,hρ x.2⟩⟩
 cases op<;>simp only[opA] at h<;>try (cases h;done)
 case move x=>cases h;exact⟨ρ x,w,.inl rfl,FG hH (hρ x)⟩
 case assign x=>cases h;exact⟨ρ x,w,.inl rfl,FG hH (hρ x)⟩
 case pick c a b=>
  split at h
  ·rename_i t hc
   cases h
   have:=hρ c
   rw[hc] at this
   have hcv:ρ c=.bool t:=this.d_inv.v_inv
   refine⟨if t then ρ a else ρ b,w,.inl (by simp[execOp,hcv,asBool]),FG hH ?_⟩
   simp only[BBR]
   obtain⟨hp1,hp2⟩:=DI hp
   cases t
   ·exact Dy rfl hp2 (hρ b)
   ·exact Dy rfl hp1 (hρ a)
  ·cases h
 case alloc t=>
  obtain⟨y,w',h1,h2⟩:=AWV h hp hr hH
  exact⟨y,w',.inl (val h1),h2⟩
 case box t x=>
  obtain⟨y,w',h1,h2⟩:=BKA (P:=P) (t:=t) h hr hH (hρ x)
  exact⟨y,w',.inl (val h1),h2⟩
 case build t ps=>
  unfold Eff.of at h;split at h
  ·rename_i a p hb
   cases h
   obtain⟨y,h1,h2⟩:=AWS hb hp (pmaps ps).1 (pmaps ps).2 w
   exact⟨y,w,.inl (val h1),FG hH h2⟩
  ·cases h
 case buildSlice t len ps=>
  split at h
  ·rename_i e0 hb
   cases h
   obtain⟨y,w',h1,h2⟩:=ACF hb hr hH (pmaps ps).1 (pmaps ps).2
   exact⟨y,w',.inl (val h1),h2⟩
  ·obtain⟨y,w',h1,h2⟩:=AKV h hr hH (pmaps ps).1 (pmaps ps).2
   exact⟨y,w',.inl (val h1),h2⟩
 case load t a=>
  unfold Eff.of at h;split at h
  ·rename_i x p hb
   cases h
   obtain⟨y,h1,h2⟩:=AKM hb hp (hρ a) hH
   exact⟨y,w,.inl (val h1),FG hH h2⟩
  ·cases h
 case store t a x=>
  obtain⟨w',h1,h2⟩:=AZS h hp hH (hρ a) (hρ x)
  refine⟨undef,w',.inr ⟨by simp[execOp,h1],rfl⟩,?_⟩
  have:e.val=.d (.v undef):=by
   unfold AFZ at h
   split at h<;>(try (split at h))<;>(try (split at h))<;>first | (cases h;rfl) | cases h
  rw[this] at h2 ⊢;exact h2
 case nilCheck x=>
  split at h
  ·rename_i hx
   cases h
   refine⟨ρ x,w,.inl ?_,FG hH (hρ x)⟩
   have hv:=hρ x
   generalize ρA x=a at hv hx
   have:∃b,ρ x=.pointer (some b):=by
    generalize ρ x=v at hv
    cases hv with
    |bptr=>exact⟨_,rfl⟩
    |rptr=>exact⟨_,rfl⟩
    |d hd=>cases hd<;>simp[BUO] at hx;exact⟨_,rfl⟩
    |_=>simp[BUO] at hx
   obtain⟨b,hb⟩:=this
   simp[execOp,hb]
  ·cases h
 case binOp op t x y yt=>
  split at h
  ·rename_i hy
   obtain⟨n',c',hyv⟩:∃n' c',ρ y=.slice none n' c':=by
    cases y with
    |const v=>
     rw[hcv]
     cases v with
     |slice base n c=>
      cases base with
      |none=>exact⟨n,c,rfl⟩
      |some a=>simp[BAK] at hy
     |_=>simp[BAK] at hy
    |_=>simp[BAK] at hy
   split at h
   ·rename_i hna
    cases h
    obtain⟨base,n,c,hx,b,h1⟩:=AXZ (n':=n') (c':=c') hna (hρ x) w
    have hg:(eqGuard op t x y (ρ x) (ρ y)).run P w=.ok () w:=by
     rw[hx,hyv]
     unfold eqGuard
     split<;>rfl
    refine⟨.bool b,w,.inl ?_,FG hH (.d .anyB)⟩
    rw[show execOp ρ ⟨dst,.binOp op t x y yt,type,pos,after,guard⟩=(do pure (.value (<-(do eqGuard op t x y (ρ x) (ρ y);binOp op t (ρ x) (ρ y))))) from rfl]
    rw[hyv] at hg ⊢
    simp only[Sem.run_bind,hg,h1,Result.andThen_ok,Sem.run_pure]
   unfold Eff.of at h;split at h
   ·rename_i a p hb
    cases h
    rw[Option.map_eq_some_iff] at hb
    obtain⟨⟨b,p'⟩,hb,he⟩:=hb
    cases he
    obtain⟨base,n,c,hx⟩:∃base n c,ρ x=.slice base n c:=by
     unfold AYH at hb
     split at hb
     ·rename_i hn _;cases hb;obtain⟨base,n,c,h1,_⟩:=mN hn hp (hρ x);exact⟨base,n,c,h1⟩
     ·rename_i hn _;cases hb;obtain⟨base,n,c,h1,_⟩:=mN hn hp (hρ x);exact⟨base,n,c,h1⟩
     ·cases hb
    have h1:=AZX (n':=n') (c':=c') hb hp (hρ x) w
    have hg:(eqGuard op t x y (ρ x) (ρ y)).run P w=.ok () w:=by
     rw[hx,hyv]
     unfold eqGuard
     split<;>rfl
    refine⟨.bool b,w,.inl ?_,FG hH (.d (.v _))⟩
    rw[show execOp ρ ⟨dst,.binOp op t x y yt,type,pos,after,guard⟩=(do pure (.value (<-(do eqGuard op t x y (ρ x) (ρ y);binOp op t (ρ x) (ρ y))))) from rfl]
    rw[hyv] at hg ⊢
    simp only[Sem.run_bind,hg,h1,Result.andThen_ok,Sem.run_pure]
   ·cases h
  split at h
  ·rename_i a b ha hb
   split at h
   ·rename_i v p hv
    cases h
    have h1:=hρ x;have h2:=hρ y
    rw[ha] at h1;rw[hb] at h2
    have h1:ρ x=a:=h1.d_inv.v_inv
    have h2:ρ y=b:=h2.d_inv.v_inv
    have:=BIE (x:=x) (y:=y) hv hp w
    exact⟨v,w,.inl (by rw[show execOp ρ ⟨dst,.binOp op t x y yt,type,pos,after,guard⟩=(do pure (.value (<-(do eqGuard op t x y (ρ x) (ρ y);binOp op t (ρ x) (ρ y))))) from rfl,h1,h2];exact val this),FG hH (.d (.v _))⟩
   ·cases h
  ·split at h
   ·rename_i r heq
    cases h
    obtain⟨⟨a,b,ha,hb⟩,hg,he⟩:=AUW heq (hρ x) (hρ y)
    refine⟨.bool r,w,.inl ?_,FG hH (.d (.v _))⟩
    rw[ha,hb] at he
    have h3:binOp .eql t (.agg a) (.agg b)=(do pure (.bool (<-Op.equal t (.agg a) (.agg b)))):=rfl
    simp[execOp,ha,hb,eqGuard,hg,h3,he]
   ·rename_i r heq
    cases h
    obtain⟨⟨a,b,ha,hb⟩,hg,he⟩:=AUW heq (hρ x) (hρ y)
    refine⟨.bool (!r),w,.inl ?_,FG hH (.d (.v _))⟩
    rw[ha,hb] at he
    have h3:binOp .neq t (.agg a) (.agg b)=(do pure (.bool (!(<-Op.equal t (.agg a) (.agg b))))):=rfl
    simp[execOp,ha,hb,eqGuard,hg,h3,he]
   ·cases h
 case unOp op t x=>
  split at h
  ·rename_i a ha
   split at h
   ·rename_i v hv
    cases h
    have h1:=hρ x
    rw[ha] at h1
    have h1:ρ x=a:=h1.d_inv.v_inv
    refine⟨v,w,.inl ?_,FG hH (.d (.v _))⟩
    have:=BRX (P:=P) hv w
    simp[execOp,h1,this]
   ·cases h
  ·cases h
 case convert s d x=>
  unfold Eff.one at h;split at h
  ·rename_i a ha
   cases h
   obtain⟨y,h1,h2⟩:=ARQ ha (hρ x) w
   exact⟨y,w,.inl (val h1),FG hH h2⟩
  ·cases h
 case makeInterface t x=>
  split at h
  ·rename_i d hx
   split at h
   ·rename_i hc
    cases h
    have hv:=hρ x
    rw[hx] at hv
    exact⟨_,w,.inl (val (run_makeInterface w t (ρ x) hc)),FG hH (.d (.iface hv.d_inv))⟩
   ·cases h
  ·cases h
 case makeFunc fn first caps=>
  cases h
  refine⟨.func fn (first.map ρ) (caps.map ρ),w,.inl (by simp[execOp,Instr.makeFunc]),FG hH (.fn (maps first).1 (maps caps).1 (maps first).2 (maps caps).2)⟩
 case makeSlice t l c=>
  obtain⟨y,w',h1,h2⟩:=AJG h hp hr hH (hρ l) (hρ c)
  exact⟨y,w',.inl (val h1),h2⟩
 case slice t x lo hi mx=>
  have opt:∀(q:Option Operand),(∀a,q.map ρA=some a->∃y,q.map ρ=some y/\VRel B ι H.dom a y)/\(q.map ρA=none->q.map ρ=none):=λq=>by
   cases q with
   |none=>exact⟨λ_ h=>(by cases h),λ_=>rfl⟩
   |some x=>exact⟨λa h=>(by cases h;exact⟨_,rfl,hρ x⟩),λh=>(by cases h)⟩
  split at h
  ·rename_i a p hb
   cases h
   obtain⟨y,h1,h2⟩:=AZR hb hp (hρ x) (opt lo).1 (opt lo).2 (opt hi).1 (opt hi).2 (opt mx).1 (opt mx).2 w
   exact⟨y,w,.inl (val h1),FG hH h2⟩
  ·split at h
   ·unfold Eff.one at h;split at h
    ·rename_i a hb
     cases h
     obtain⟨y,h1,h2⟩:=AKU hb (hρ x) hH
     exact⟨y,w,.inl (val h1),FG hH h2⟩
    ·cases h
   ·obtain⟨y,h1,h2⟩:=ANN h hp (hρ x) hH (opt lo).1 (opt lo).2 (opt hi).1 (opt mx).1
    exact⟨y,w,.inl (val h1),h2⟩
 case makeMap t r'=>
  split at h
  ·obtain⟨y,w',h1,h2⟩:=AQI h hr hH
   exact⟨y,w',.inl (val h1),h2⟩
  ·cases h
 case lookup t m ix ok=>
  unfold Eff.of at h;split at h
  ·rename_i a p hb
   cases h
   obtain⟨y,h1,h2⟩:=ASP hb hp (hρ m) (hρ ix) hH
   exact⟨y,w,.inl (val h1),FG hH h2⟩
  ·cases h
 case mapUpdate t m k x=>
  obtain⟨w',h1,h2⟩:=yY h hH (hρ m) (hρ k) (hρ x)
  exact⟨undef,w',.inr ⟨by simp[execOp,h1],rfl⟩,h2⟩
 case insert t m k x=>
  obtain⟨w',h1,h2⟩:=yY h hH (hρ m) (hρ k) (hρ x)
  exact⟨undef,w',.inr ⟨by simp[execOp,h1],rfl⟩,h2⟩
 case mapEntry t m k=>
  obtain⟨y,w',h1,h2⟩:=BAL h hp hH (hρ m) (hρ k)
  exact⟨y,w',.inl (val h1),h2⟩
 case entryStore t m s x=>
  obtain⟨w',h1,h2⟩:=ABI (P:=P) (t:=t) h hp hH (hρ m) (hρ s) (hρ x)
  exact⟨undef,w',.inr ⟨by simp[execOp,h1],rfl⟩,h2⟩
 case fieldAddr s x f=>
  unfold Eff.one at h;split at h
  ·rename_i a ha
   cases h
   obtain⟨y,h1,h2⟩:=AGD (w:=w) ha (hρ x)
   exact⟨y,w,.inl (val h1),FG hH h2⟩
  ·cases h
 case field s x f=>
  unfold Eff.one at h;split at h
  ·rename_i a ha
   cases h
   obtain⟨y,h1,h2⟩:=AVU ha (hρ x) w
   exact⟨y,w,.inl (val h1),FG hH h2⟩
  ·cases h
 case indexAddr t x ix=>
  unfold Eff.of at h;split at h
  ·rename_i a p hb
   cases h
   obtain⟨y,h1,h2⟩:=AFX hb hp (hρ x) (hρ ix) w
   exact⟨y,w,.inl (val h1),FG hH h2⟩
  ·cases h
 case index t x ix=>
  unfold Eff.of at h;split at h
  ·rename_i a p hb
   cases h
   obtain⟨y,h1,h2⟩:=BBH hb hp (hρ x) (hρ ix) w
   exact⟨y,w,.inl (val h1),FG hH h2⟩
  ·cases h
 case extract x i=>
  unfold Eff.one at h;split at h
  ·rename_i a ha
   cases h
   obtain⟨y,h1,h2⟩:=AOT ha (hρ x) w
   exact⟨y,w,.inl (val h1),FG hH h2⟩
  ·cases h
 case call c=>
  split at h
  ·rename_i b hb
   obtain⟨callee,args,ats⟩:=c
   simp only at hb h
   subst hb
   have hex:∀{s:Sem Value} {y:Value} {w':World},builtin b ats type (args.map λ| .const _=>true | _=>false) (args.map ρ)=(do pure (.value (<-s)))->s.run P w=.ok y w' ->
     Runs P ρ ⟨dst,.call ⟨.builtin b,args,ats⟩,type,pos,after,guard⟩ w y w':=λh1 h2=>.inl (by
    rw[show execOp ρ ⟨dst,.call ⟨.builtin b,args,ats⟩,type,pos,after,guard⟩=builtin b ats type (args.map λ| .const _=>true | _=>false) (args.map ρ) from rfl,h1];exact val h2)
   have hm:=maps args
   unfold ABJ at h
   split at h
   ·rename_i a hl
    split at h
    ·rename_i t ht
     unfold Eff.one at h;split at h
     ·rename_i q hq
      cases h
      rw[hl] at hm
      have hsz:(args.map ρ).size=1:=by simpa using hm.1
      obtain⟨v,hv⟩:∃v,args.map ρ=#[v]:=by
       generalize args.map ρ=l at hsz
       match l,hsz with
       |⟨[v]⟩,_=>exact⟨v,rfl⟩
      have hva:=hm.2 0 a v rfl (by rw[hv];rfl)
      obtain⟨y,h1,h2⟩:=BIY (P:=P) (ty:=type) hq hva ht w
      refine⟨y,w,hex (s:=Builtin.len_ ats type (args.map ρ)) rfl (by rw[hv];exact h1),FG hH h2⟩
     ·cases h
    ·cases h
   ·rename_i s x hl
    split at h
    ·rename_i t t2 ht
     rw[hl] at hm
     have hsz:(args.map ρ).size=2:=by simpa using hm.1
     obtain⟨v,u,hv⟩:∃v u,args.map ρ=#[v,u]:=by
      generalize args.map ρ=l at hsz
      match l,hsz with
      |⟨[v,u]⟩,_=>exact⟨v,u,rfl⟩
     have hva:=hm.2 0 s v rfl (by rw[hv];rfl)
     have hvb:=hm.2 1 x u rfl (by rw[hv];rfl)
     have hats:ats=#[t,t2]:=by
      have:=congrArg List.toArray ht
      simpa using this
     obtain⟨y,w',h1,h2⟩:=ASO (ty:=type) h hp hr hH hva hvb
     exact⟨y,w',hex (s:=Builtin.append_ ats type (args.map ρ)) rfl (by rw[hv,hats];exact h1),h2⟩
    ·cases h
   ·rename_i d x hl
    split at h
    ·rename_i t ht
     rw[hl] at hm
     have hsz:(args.map ρ).size=2:=by simpa using hm.1
     obtain⟨v,u,hv⟩:∃v u,args.map ρ=#[v,u]:=by
      generalize args.map ρ=l at hsz
      match l,hsz with
      |⟨[v,u]⟩,_=>exact⟨v,u,rfl⟩
     have hva:=hm.2 0 d v rfl (by rw[hv];rfl)
     have hvb:=hm.2 1 x u rfl (by rw[hv];rfl)
     obtain⟨y,w',h1,h2⟩:=BEC (ty:=type) h hp ht hva hvb hH
     exact⟨y,w',hex (s:=Builtin.copy_ ats type (args.map ρ)) rfl (by rw[hv];exact h1),h2⟩
    ·cases h
   ·unfold Eff.one at h;split at h
    ·rename_i q hq
     cases h
     obtain⟨y,h1,h2⟩:=AKT (P:=P) (ats:=ats) (ty:=type) hq hm.1 hm.2 w
     exact⟨y,w,hex (s:=Builtin.min_ ats type (args.map ρ)) rfl h1,FG hH h2⟩
    ·cases h
   ·unfold Eff.one at h;split at h
    ·rename_i q hq
     cases h
     obtain⟨y,h1,h2⟩:=AKS (P:=P) (ats:=ats) (ty:=type) hq hm.1 hm.2 w
     exact⟨y,w,hex (s:=Builtin.max_ ats type (args.map ρ)) rfl h1,FG hH h2⟩
    ·cases h
   ·cases h
  ·cases h
end Go.Sym

namespace Go.Sym
variable {P : Program} {B B' : Jk} {ι ι' : Nat -> Pl} {H H' : Heap} {D : Nat -> Prop} {w w' : World}
structure Ctx where
 B0:Jk
 ι0:Nat->Pl
 H0:Heap
 w0:World
 n:Nat
 rd:Option Nat
 mks:Bool
def fen(rd:Option Nat):Fence:={ Fence.wide with round:=rd }
structure Quiet(b:Nat)(x:Obj)(ι:Nat->Pl)(H:Heap)(w:World):Prop where
 here:w.heap[b]?=some x
 sep:∀i o,H i=.live o->(ι i).b≠b
theorem Quiet.moved{b:Nat}{x:Obj}(h:Quiet b x ι H w)(m:Moved B ι H w B' ι' H' w'):Quiet b x ι' H' w':=by
 have hlt:b<w.heap.size:=(Array.getElem?_eq_some_iff.1 h.here).1
 refine⟨by rw[m.frame b hlt h.sep];exact h.here,λi o hi=>?_⟩
 rcases m.own i o hi with⟨i0,o0,h1,h2⟩ | h1
 ·rw[<-h2];exact h.sep _ _ h1
 ·omega
theorem HRel.put{b:Nat}{x:Obj}(h:HRel B ι H w)(hq:Quiet b x ι H w)(hx:∀c e fr,x≠.cells c e fr)(y:Obj):HRel B ι H (w.putObj b y):=by
 have oth:∀k,k≠b->(w.putObj b y).heap[k]?=w.heap[k]?:=λk hk=>World.putObj_heap_other hk
 refine⟨λi o hi=>?_,h.inj,h.sep,λk c hk=>?_⟩
 ·rw[oth _ (hq.sep i o hi)];exact h.obj i o hi
 ·obtain⟨e,fr,h1⟩:=h.imm k c hk
  refine⟨e,fr,?_⟩
  rw[oth];exact h1
  intro he;subst he
  rw[hq.here] at h1;cases h1;exact hx _ _ _ rfl
theorem Moved.put{b:Nat}{x:Obj}(m:Moved B ι H w B' ι' H' w')(hq:Quiet b x ι' H' w')(hx:∀c e fr,x≠.cells c e fr)(hb:w.heap.size<=b)(y:Obj):Moved B ι H w B' ι' H' (w'.putObj b y):=
 ⟨m.bm,m.bn,m.im,m.heap.put hq hx y,m.own,λk hk hno=>by rw[World.putObj_heap_other (by omega)];exact m.frame k hk hno,by rw[World.putObj_size];exact m.size,⟨m.calm.os,m.calm.tape,m.calm.output⟩⟩
theorem Quiet.put_other{b d:Nat}{x y:Obj}(h:Quiet b x ι H w)(hd:d≠b):Quiet b x ι H (w.putObj d y):=⟨by rw[World.putObj_heap_other (Ne.symm hd)];exact h.here,h.sep⟩
theorem Quiet.put_same{b:Nat}{x:Obj}(h:Quiet b x ι H w)(y:Obj):Quiet b y ι H (w.putObj b y):=⟨World.putObj_heap_same (Array.getElem?_eq_some_iff.1 h.here).1,h.sep⟩
def AYA(Ds:List Nat):List Deferred:=Ds.map λD=>{ target:=.collected D,args:=#[] }
structure Rel(c:Ctx)(B:Jk)(ι:Nat->Pl)(σ:AState)(a:Act)(w:World):Prop where
 slots:∀t,VRel B ι σ.H.dom (σ.sl t) (a.tmps.getD t undef)
 size:a.tmps.size=c.n
 defers:∃Ds:List Nat,a.defers=AYA Ds/\(c.mks=false->Ds=[])/\Ds.Nodup/\∀D∈Ds,c.w0.heap.size<=D/\Quiet D (.deferred (some [])) ι σ.H w
 mv:Moved c.B0 c.ι0 c.H0 c.w0 B ι σ.H w
def AState.app(σ:AState)(dst:Option Tmp)(v:AVal)(u:List (Nat×HCell)):AState:=⟨fY σ.sl dst v,KP σ.H u⟩
def AWF(P:Program)(f:FuncId):Prop:=∀(args:Array Value) (w:World),(callFunc f args).run P w=.ok (.enter f args) w
theorem ATO {f : FuncId} {fn : Func} {c : Code} (hf : P.funcs[f]? = some fn) (hname : (fn.name == "runtime.NumGoroutine") = false) (hb : fn.body = some c) : AWF P f := by
 intro args w
 have h1 : fn.name ≠ "runtime.NumGoroutine" := by simpa using hname
 simp[callFunc,hf,h1,hb,mark]
def Sf(B:Jk)(ι:Nat->Pl)(D:Nat->Prop)(as:List AVal)(vs:Array Value):Prop:=
 vs.size=as.length/\∀(j:Nat) (a:AVal) (y:Value),as[j]?=some a->vs[j]?=some y->VRel B ι D a y
def CKK(P:Program)(g:FuncId)(as:List AVal)(H:Heap)(val:AVal)(upd:List (Nat×HCell)):Prop:=
 AWF P g/\∀(B:Jk) (ι:Nat->Pl) (w:World) (vs:Array Value),Sf B ι H.dom as vs->HRel B ι H w ->
  Calls P g vs w λe w'=>∃v,e=.returned v/\Bx B ι H w (KP H upd) val v w'
def BCF(P:Program)(g:FuncId)(as:List AVal)(r:Nat)(cells:List (Nat×HCell))(val:AVal)(upd:List (Nat×HCell)):Prop:=
 ∀H:Heap,(∀p∈cells,H p.1=p.2)->(∀i,r<=i->i<r+16->H i=.none)->CKK P g as H val upd
def VK:AVal->List Nat
 | .bptr id _ | .rptr id _ _ _ | .own id _ _ _ | .mref id=>[id]
 |_=>[]
def AZM:Op->Bool
 | .indexAddr .. | .fieldAddr .. | .nilCheck .. | .move .. | .assign .. | .extract .. | .field .. | .index ..=>true
 | .call ⟨.builtin .len,_,_⟩=>true
 |_=>false
def Zf(ρ:Operand->AVal)(op:Op):List Nat:=bif AZM op then [] else op.operands.toList.flatMap λx=>VK (ρ x)
theorem AFD{mt:Bool}{r:Nat}{ρ ρ':Operand->AVal}{H H':Heap}(op:Op)(h:∀x∈op.operands,ρ x=ρ' x)(hH:∀id∈Zf ρ op,H id=H' id):opA P mt r ρ H op=opA P mt r ρ' H' op:=by
 have foot:AZM op=false->∀x∈op.operands,∀id∈VK (ρ x),H id=H' id:=λhn x hx id hid=>hH id (by unfold Zf;rw[hn];exact List.mem_flatMap.2 ⟨x,by simpa using hx,hid⟩)
 have rd:∀(p:AVal),(∀id∈VK p,H id=H' id)->rJ H p=rJ H' p:=by
  intro p hp
  cases p with
  |bptr id c=>simp only[rJ,hp id (by simp[VK])]
  |rptr id k i c=>simp only[rJ,hp id (by simp[VK])]
  |d x=>cases x<;>rfl
  |_=>rfl
 have src:∀(p:AVal),(∀id∈VK p,H id=H' id)->srcA H p=srcA H' p:=by
  intro p hp
  cases p with
  |own id k j m=>simp only[srcA,hp id (by simp[VK])]
  |d x=>cases x<;>rfl
  |_=>rfl
 have dst:∀(p:AVal),(∀id∈VK p,H id=H' id)->dstA H p=dstA H' p:=by
  intro p hp
  cases p with
  |own id k j m=>cases j<;>simp only[dstA,hp id (by simp[VK])]
  |d x=>cases x with
   |list k n g e=>cases e<;>rfl
   |_=>rfl
  |_=>rfl
 have mp:∀(p:AVal),(∀id∈VK p,H id=H' id)->yV H p=yV H' p:=by
  intro p hp
  cases p with
  |mref id=>simp only[yV,hp id (by simp[VK])]
  |_=>rfl
 have pairs:∀ps:Array (Nat×Operand),(∀x∈(ps.toList.map (·.2)),ρ x=ρ' x)->(ps.toList.map λp=>(p.1,ρ p.2))=(ps.toList.map λp=>(p.1,ρ' p.2)):=λps hp=>
  List.map_congr_left λp hm=>by rw[hp p.2 (List.mem_map.2 ⟨p,hm,rfl⟩)]
 have opt:∀q:Option Operand,(∀x∈q.toArray,ρ x=ρ' x)->q.map ρ=q.map ρ':=λq hq=>by
  cases q with
  |none=>rfl
  |some x=>simp[hq x (by simp)]
 cases op<;>simp only[Op.operands,AZM,eq_self,true_implies,reduceCtorEq,false_implies] at h foot<;>simp only[opA]
 case move x=>rw[h x (by simp)]
 case assign x=>rw[h x (by simp)]
 case pick c a b=>rw[h c (by simp),h a (by simp),h b (by simp)]
 case box t x=>rw[h x (by simp)]
 case build t ps=>rw[pairs ps λx hx=>h x (by simpa using hx)]
 case buildSlice t n ps=>rw[pairs ps λx hx=>h x (by simpa using hx)]
 case load t a=>
  have hr:=rd (ρ a) (foot a (by simp))
  have he:=h a (by simp)
  have:ANV P H t (ρ a)=ANV P H' t (ρ a):=by
   unfold ANV;rw[hr]
   split
   ·generalize hq:ρ a=p at *
    split
    ·rename_i id k;rw[foot a (by simp) id (by rw[hq];simp[VK])]
    ·rfl
   ·rfl
   ·rfl
  rw[this,he]
 case store t a x=>
  have he:=h a (by simp)
  have hx:=h x (by simp)
  have hf:=foot a (by simp)
  rw[<-he,<-hx]
  generalize ρ a=p at hf
  cases p with
  |bptr id c=>
   have e:=hf id (by simp[VK])
   unfold AFZ
   generalize P.underlying t=u
   generalize (P.info? t).map (·.size)=s
   cases u with
   |none=>rfl
   |some d=>cases s with
    |none=>rfl
    |some n=>simp only[e]
  |rptr id k i c=>
   have e:=hf id (by simp[VK])
   unfold AFZ
   generalize P.underlying t=u
   generalize (P.info? t).map (·.size)=s
   cases u with
   |none=>cases i<;>cases c<;>rfl
   |some d=>cases s with
    |none=>cases d<;>cases i<;>cases c<;>rfl
    |some n=>cases d<;>cases i<;>cases c<;>simp only[e]
  |_=>rfl
 case nilCheck x=>rw[h x (by simp)]
 case lookup t m ix ok=>
  rw[h ix (by simp),<-h m (by simp)]
  have:=mp (ρ m) (foot m (by simp))
  unfold ALL;rw[this]
 case mapUpdate t m k x=>
  rw[h k (by simp),h x (by simp),<-h m (by simp)]
  have:=mp (ρ m) (foot m (by simp))
  unfold xN;rw[this]
 case insert t m k x=>
  rw[h k (by simp),h x (by simp),<-h m (by simp)]
  have:=mp (ρ m) (foot m (by simp))
  unfold xN;rw[this]
 case mapEntry t m k=>
  rw[h k (by simp),<-h m (by simp)]
  have:=mp (ρ m) (foot m (by simp))
  unfold AXJ;rw[this]
 case entryStore t m s x=>
  rw[h s (by simp),h x (by simp),<-h m (by simp)]
  have:=mp (ρ m) (foot m (by simp))
  unfold bW;rw[this]
 case binOp op t x y yt=>rw[h x (by simp),h y (by simp)]
 case unOp op t x=>rw[h x (by simp)]
 case convert s d x=>rw[h x (by simp)]
 case makeInterface t x=>rw[h x (by simp)]
 case makeFunc fn first caps=>
  rw[List.map_congr_left (l:=first.toList) λx hx=>h x (by simp at hx;simp[hx]),List.map_congr_left (l:=caps.toList) λx hx=>h x (by simp at hx;simp[hx])]
 case makeSlice t l c=>rw[h l (by simp),h c (by simp)]
 case slice t x lo hi mx=>
  have e1:=opt lo λy hy=>h y (by simp at hy;simp[hy])
  have e2:=opt hi λy hy=>h y (by simp at hy;simp[hy])
  have e3:=opt mx λy hy=>h y (by simp at hy;simp[hy])
  have hf:=foot x (by simp)
  have a1:Wj P H t (ρ x)=Wj P H' t (ρ x):=by
   generalize ρ x=p at hf
   unfold Wj
   split
   ·rename_i m e id k hu;rw[hf id (by simp[VK])]
   ·rfl
  have a2:∀l q m,iE P H t (ρ x) l q m=iE P H' t (ρ x) l q m:=λl q m=>by
   generalize ρ x=p at hf
   unfold iE
   split
   ·rename_i id k n km mm hu;rw[hf id (by simp[VK])]
   ·rfl
  have hx:=h x (by simp)
  rw[hx] at a1 a2
  rw[hx,e1,e2,e3]
  split
  ·rfl
  ·split
   ·rw[a1]
   ·rw[a2,e1,e2,e3]
 case fieldAddr s x f=>rw[h x (by simp)]
 case field s x f=>rw[h x (by simp)]
 case indexAddr t x ix=>rw[h x (by simp),h ix (by simp)]
 case index t x ix=>rw[h x (by simp),h ix (by simp)]
 case extract x i=>rw[h x (by simp)]
 case call c=>
  obtain⟨callee,args,ats⟩:=c
  cases callee with
  |builtin b=>
   simp only[Call.operands] at h foot
   simp only
   have hm:args.toList.map ρ=args.toList.map ρ':=List.map_congr_left λx hx=>h x (by simpa using hx)
   rw[<-hm]
   by_cases hb:b=.len
   ·subst hb;unfold ABJ;split<;>first | rfl | contradiction
   replace foot:=foot (by cases b<;>first | rfl | exact absurd rfl hb)
   unfold ABJ
   split
   ·rfl
   ·rename_i s x hl
    split
    ·rename_i t t2 ht
     have ms:∀z,z∈args.toList.map ρ->∀id∈VK z,H id=H' id:=λz hz id hid=>by
      obtain⟨y,hy,rfl⟩:=List.mem_map.1 hz
      exact foot y (by simpa using hy) id hid
     rw[hl] at ms
     unfold AAT
     rw[dst s (ms s (by simp)),src x (ms x (by simp))]
    ·rfl
   ·rename_i d x hl
    split
    ·have ms:∀z,z∈args.toList.map ρ->∀id∈VK z,H id=H' id:=λz hz id hid=>by
      obtain⟨y,hy,rfl⟩:=List.mem_map.1 hz
      exact foot y (by simpa using hy) id hid
     rw[hl] at ms
     have hd:=ms d (by simp)
     unfold BOH
     rw[src x (ms x (by simp))]
     split
     ·rename_i e id k n k2 m PN p2 hu hs;rw[hd id (by simp[VK])]
     ·rfl
    ·rfl
   ·rfl
   ·rfl
   ·rfl
  |_=>rfl
def MB(ops:Array Oper)(sl:Nat->AVal)(j:Nat)(want:Bool):Option Bool:=match (ops[j]?).bind (·.dst) with
 |some t=>match want,sl t with
  |true,.d (.v (.bool b))=>some b
  |false,.d (.v (.bool b))=>some (!b)
  |true,.opt g (.d (.v (.bool b)))=>some (g&&b)
  |false,.opt g (.d (.v (.bool b)))=>some (g&&!b)
  |_,_=>none
 |none=>none
theorem ARG{ops:Array Oper}{a:Act}{j:Nat}{t:Tmp}(ht:(ops[j]?).bind (·.dst)=some t):(∀b,a.tmps.getD t undef=.bool b->yielded ops a.tmps j=some b)/\(a.tmps.getD t undef=.tuple #[]->yielded ops a.tmps j=none):=by
 have hget:a.tmps.getD t undef=(a.tmps[t]?).getD undef:=by simp
 simp only[yielded,ht,Option.bind_some]
 refine⟨λb h=>?_,λh=>?_⟩<;>rw[hget] at h<;>cases hq:a.tmps[t]? with
  |none=>rw[hq] at h<;>first | rfl | cases h
  |some x=>rw[hq] at h;simp at h;subst h;rfl
theorem AAL{ops:Array Oper}{sl:Nat->AVal}{o:Oper}{j:Nat}{want g:Bool}{a:Act}(hg:o.guard=some (j,want))(h:MB ops sl j want=some g)(hs:∀t,VRel B ι D (sl t) (a.tmps.getD t undef)) :
  Region.wanted o (yielded ops a.tmps)=g:=by
 unfold MB at h
 simp only[Region.wanted,hg]
 split at h
 ·rename_i t ht
  have hv:=hs t
  obtain⟨y1,y2⟩:=ARG (a:=a) ht
  split at h
  ·rename_i b hb
   cases h
   rw[hb] at hv
   rw[y1 _ hv.d_inv.v_inv]
   cases g<;>rfl
  ·rename_i b hb
   cases h
   rw[hb] at hv
   rw[y1 _ hv.d_inv.v_inv]
   cases b<;>rfl
  ·rename_i g' b hb
   cases h
   rw[hb] at hv
   cases hv with
   |opt h1 h2=>
    cases g' with
    |true=>rw[y1 b (h1 rfl).d_inv.v_inv];cases b<;>rfl
    |false=>rw[y2 (h2 rfl)];rfl
  ·rename_i g' b hb
   cases h
   rw[hb] at hv
   cases hv with
   |opt h1 h2=>
    cases g' with
    |true=>rw[y1 b (h1 rfl).d_inv.v_inv];cases b<;>rfl
    |false=>rw[y2 (h2 rfl)];rfl
  ·cases h
 ·cases h
def rO(g:Bool):List Prop->List Prop
 |[]=>[]
 |l=>[g=true->FT l]
theorem Qk{g:Bool}{l:List Prop}(h:FT (rO g l))(hg:g=true):FT l:=by
 cases l with
 |nil=>trivial
 |cons p r=>exact h hg
def Gq(ρ:Operand->AVal)(l:List Operand):List Prop:=l.flatMap λx=>Xc True (ρ x)
def gopA(P:Program)(r:Nat)(ρ:Operand->AVal)(H:Heap)(g:Bool)(op:Op):Option (AVal×List Prop):=match op with
 | .pick c a b=>match GW (ρ c) with
  | .d (.v (.bool t))=>some (ASH t (GW (ρ a)) (GW (ρ b)),rO g (Xc True (ρ c) ++ (Xc (t=true) (ρ a) ++ Xc (t=false) (ρ b))))
  |_=>none
 | .buildSlice t len ps=>match XW P r t len (ps.toList.map λp=>(p.1,GW (ρ p.2))) with
  |some ⟨_,[(_,.live (.row k n get))],_⟩=>some (.d (.list k n get true),rO g (Gq ρ (Op.buildSlice t len ps).operands.toList))
  |_=>none
 |op=>match opA P false r (λx=>GW (ρ x)) H op with
  |some ⟨v,[],p⟩=>some (v,rO g (Gq ρ op.operands.toList ++ p))
  |_=>none
theorem arr1(u:Value)(z:Array Value):(#[u] ++ z)[0]?=some u/\(#[u] ++ z).extract 1 (#[u] ++ z).size=z:=by
 constructor
 ·rw[Array.getElem?_append_left (by simp)];rfl
 ·obtain⟨z⟩:=z
  simp
def AMA(P:Program)(t:TypeId)(name:String):Option FuncId:=match P.info? t,P.underlying t with
 |some i,some (.struct _)=>match i.methods.find? (·.name==name) with
  |some m=>match m.path.toList,m.func with
   |[],some (f,false)=>some f
   |_,_=>none
  |none=>none
 |_,_=>none
theorem BHV{t:TypeId}{name:String}{f:FuncId}(h:AMA P t name=some f)(n:Nat)(v:Value)(w:World):(method (n+1) t v name).run P w=.ok (f,v) w:=by
 unfold AMA at h
 split at h
 ·rename_i i fs hi hu
  split at h
  ·rename_i m hm
   split at h
   ·rename_i fn hp hf
    cases h
    simp[method,Th hi,hm,hp,follow,hf,receiverAt,run_underlying hu,Place.get]
   ·cases h
  ·cases h
 ·cases h
inductive StepO(P:Program)(mt:Bool)(ops:Array Oper)(r:Nat)(σ:AState)(o:Oper):AVal->List (Nat×HCell)->List Nat->Prop
 |op {e:Eff} (hg:o.guard=none) (h:opA P mt r (CO σ.sl) σ.H o.op=some e) (hp:FT e.pre) (hr:σ.H r=.none):StepO P mt ops r σ o e.val e.upd (r :: Zf (CO σ.sl) o.op)
 |gop {j:Nat} {want g:Bool} {v:AVal} {p:List Prop} (hg:o.guard=some (j,want)) (hw:MB ops σ.sl j want=some g) (h:gopA P r (CO σ.sl) σ.H g o.op=some (v,p)) (hp:FT p) (hr:σ.H r=.none) :
   StepO P mt ops r σ o (.opt g v) [] (r :: Zf (λx=>GW (CO σ.sl x)) o.op)
 |call {f:Operand} {args:Array Operand} {ats:Array TypeId} {g:FuncId} {first caps:List AVal} {cells upd:List (Nat×HCell)} {val:AVal} (hg:o.guard=none)
   (ho:o.op=.call ⟨.value f,args,ats⟩) (hf:CO σ.sl f=.fn (.func g) first caps) (hc:BCF P g (first ++ args.toList.map (CO σ.sl) ++ caps) r cells val upd)
   (hcells:∀p∈cells,σ.H p.1=p.2) (hr:∀i,r<=i->i<r+16->σ.H i=.none):StepO P mt ops r σ o val upd (cells.map (·.1) ++ (List.range 16).map (r + ·))
 |inv {x:Operand} {m:String} {args:Array Operand} {ats:Array TypeId} {t:TypeId} {d:DVal} {g:FuncId} {cells upd:List (Nat×HCell)} {val:AVal} (hg:o.guard=none)
   (ho:o.op=.call ⟨.invoke x m,args,ats⟩) (hf:CO σ.sl x=.d (.iface t d)) (hm:AMA P t m=some g) (hc:BCF P g (.d d :: args.toList.map (CO σ.sl)) r cells val upd)
   (hcells:∀p∈cells,σ.H p.1=p.2) (hr:∀i,r<=i->i<r+16->σ.H i=.none):StepO P mt ops r σ o val upd (cells.map (·.1) ++ (List.range 16).map (r + ·))
 |gcall {j:Nat} {want gd:Bool} {f:Operand} {args:Array Operand} {ats:Array TypeId} {g:FuncId} {first caps:List AVal} {cells:List (Nat×HCell)} {val:AVal} (hg:o.guard=some (j,want)) (hw:MB ops σ.sl j want=some gd)
   (ho:o.op=.call ⟨.value f,args,ats⟩) (hf:GW (CO σ.sl f)=.fn (.func g) first caps) (htags:gd=true->FT (Gq (CO σ.sl) o.op.operands.toList))
   (hc:gd=true->BCF P g (first ++ args.toList.map (λx=>GW (CO σ.sl x)) ++ caps) r cells val [])
   (hcells:∀p∈cells,σ.H p.1=p.2) (hr:∀i,r<=i->i<r+16->σ.H i=.none):StepO P mt ops r σ o (.opt gd val) [] (cells.map (·.1) ++ (List.range 16).map (r + ·))
theorem Rel.app{c:Ctx}{σ:AState}{a:Act}{dst:Option Tmp}{v:AVal}{y:Value}{u:List (Nat×HCell)}(h:Rel c B ι σ a w)(hd:Bx B ι σ.H w (KP σ.H u) v y w')(hdst:∀d,dst=some d->d<c.n) :
  ∃B' ι',Rel c B' ι' (σ.app dst v u) (a.put dst y) w':=by
 obtain⟨B',ι',hm,hv⟩:=hd
 refine⟨B',ι',⟨λt=>?_,?_,?_,h.mv.trans hm⟩⟩
 ·exact vO (λt=>hm.vrel (h.slots t)) (λd hd=>by rw[h.size];exact hdst d hd) hv t
 ·cases dst<;>simp[Act.put,h.size]
 ·obtain⟨Ds,h1,h0,h2,h3⟩:=h.defers
  exact⟨Ds,by cases dst<;>simpa[Act.put] using h1,h0,h2,λD hD=>⟨(h3 D hD).1,(h3 D hD).2.moved hm⟩⟩
theorem wY{ρA:Operand->AVal}:∀{l:List Operand},FT (Gq ρA l)->∀x,x∈l->FT (Xc True (ρA x))
 |[],_,x,hx=>by cases hx
 |y :: l,h,x,hx=>by
  have h:FT (Xc True (ρA y) ++ Gq ρA l):=h
  obtain⟨h1,h2⟩:=DI h
  rcases List.mem_cons.1 hx with rfl | hx
  ·exact h1
  ·exact wY h2 x hx
theorem ABG{ρ ρ':Operand->AVal}(op:Op)(h:∀x∈op.operands,ρ x=ρ' x):Zf ρ op=Zf ρ' op:=by
 unfold Zf
 cases AZM op
 case true=>rfl
 show op.operands.toList.flatMap _=op.operands.toList.flatMap _
 have:∀l:List Operand,(∀x∈l,ρ x=ρ' x)->(l.flatMap λx=>VK (ρ x))=l.flatMap λx=>VK (ρ' x):=by
  intro l hl
  induction l with
  |nil=>rfl
  |cons x l ih=>rw[List.flatMap_cons,List.flatMap_cons,hl x (by simp),ih λy hy=>hl y (by simp[hy])]
 exact this _ λx hx=>h x (by simpa using hx)
open Classical in
theorem BKD{r:Nat}{ρA:Operand->AVal}{ρ:Operand->Value}{o:Oper}{v:AVal}{p:List Prop}(h:gopA P r ρA H true o.op=some (v,p))(hp:FT p)(hρ:∀x,VRel B ι H.dom (ρA x) (ρ x))(hcv:∀v,ρ (.const v)=v)(hr:H r=.none)(hH:HRel B ι H w) :
  ∃y w',Runs P ρ o w y w'/\Bx B ι H w H v y w':=by
 have gen:∀{e:Eff},opA P false r (λx=>GW (ρA x)) H o.op=some e->e.upd=[]->FT e.pre->FT (Gq ρA o.op.operands.toList)->∃y w',Runs P ρ o w y w'/\Bx B ι H w H e.val y w':=by
  intro e he hu hpe ht
  let ρ':Operand->AVal:=λx=>if x∈o.op.operands then GW (ρA x) else .any
  have hc:opA P false r ρ' H o.op=some e:=by
   rw[<-he]
   exact AFD o.op (λx hx=>by show (if _ then _ else _)=_;rw[if_pos hx]) (λ_ _=>rfl)
  obtain⟨y,w',h1,h2⟩:=AUC (ρ:=ρ) hc hpe (λx=>by
   show VRel B ι H.dom (if _ then _ else _) _
   split
   ·rename_i hx;exact Dy trivial (wY ht x (by simpa using hx)) (hρ x)
   ·exact .any) hcv hr hH
  rw[hu] at h2
  exact⟨y,w',h1,h2⟩
 unfold gopA at h
 split at h
 ·rename_i c a b ho
  split at h
  ·rename_i t hc
   cases h
   have hp:=Qk hp rfl
   obtain⟨hp1,hp2⟩:=DI hp
   obtain⟨hp2,hp3⟩:=DI hp2
   have:=Dy trivial hp1 (hρ c)
   rw[hc] at this
   have hcv:ρ c=.bool t:=this.d_inv.v_inv
   refine⟨if t then ρ a else ρ b,w,.inl (by simp[execOp,ho,hcv,asBool]),B,ι,Moved.refl hH,?_⟩
   simp only[BBR]
   cases t
   ·exact Dy rfl hp3 (hρ b)
   ·exact Dy rfl hp2 (hρ a)
  ·cases h
 ·rename_i t len ps ho
  split at h
  ·rename_i v0 r0 k n get p0 hb
   cases h
   have ht:=Qk hp rfl
   obtain⟨k',n',get',y,w',he,h1,h2⟩:=qG (parts:=ps.map λx=>(x.1,ρ x.2)) hb hH (by simp) (λj a y ha hy=>by
    obtain⟨x,hx,rfl⟩:=mO ha
    rw[Array.getElem?_toList] at hx
    simp[hx] at hy
    subst hy
    have hm:x.2∈(Op.buildSlice t len ps).operands.toList:=by
     simp only[Op.operands,List.mem_map]
     exact⟨x,by simpa using Array.mem_of_getElem? hx,rfl⟩
    exact⟨rfl,Dy trivial (wY ht x.2 hm) (hρ x.2)⟩)
   simp only[Eff.mk.injEq,List.cons.injEq,Prod.mk.injEq,HCell.live.injEq,AObj.row.injEq,and_true] at he
   obtain⟨_,⟨_,rfl,rfl,rfl⟩,_⟩:=he
   exact⟨y,w',.inl (by simp[execOp,ho,h1]),h2⟩
  ·cases h
 ·split at h
  ·rename_i v0 p0 he
   cases h
   have hp:=Qk hp rfl
   obtain⟨hp1,hp2⟩:=DI hp
   exact gen he rfl hp2 hp1
  ·cases h
theorem BYB{f:Operand}{args:Array Operand}{first caps:List AVal}{ρA:Operand->AVal}{ρ:Operand->Value}{g:FuncId}(hf:VRel B ι D (.fn (.func g) first caps) (ρ f))(hargs:∀x,x∈args->VRel B ι D (ρA x) (ρ x)) :
  ∃xs ys,ρ f=.func (.func g) xs ys/\Sf B ι D (first ++ args.toList.map ρA ++ caps) (xs ++ args.map ρ ++ ys):=by
 obtain⟨xs,ys,hfe,hx,hy,h1,h2⟩:∃xs ys,ρ f=.func (.func g) xs ys/\xs.size=first.length/\ys.size=caps.length /\
   (∀(j:Nat) (x:AVal) (y:Value),first[j]?=some x->xs[j]?=some y->VRel B ι D x y)/\(∀(j:Nat) (x:AVal) (y:Value),caps[j]?=some x->ys[j]?=some y->VRel B ι D x y):=by
  generalize ρ f=v at hf
  cases hf with
  |fn hx hy h1 h2=>exact⟨_,_,rfl,hx,hy,h1,h2⟩
 refine⟨xs,ys,hfe,by simp[hx,hy],λj x y hxj hyj=>?_⟩
 have hyj':(xs.toList ++ args.toList.map ρ ++ ys.toList)[j]?=some y:=by
  rw[<-Array.getElem?_toList] at hyj;simpa using hyj
 have hl1:xs.toList.length=first.length:=by simpa using hx
 by_cases hj1:j<first.length
 ·rw[List.append_assoc,List.getElem?_append_left hj1] at hxj
  rw[List.append_assoc,List.getElem?_append_left (by omega)] at hyj'
  exact h1 j x y hxj (by simpa using hyj')
 ·by_cases hj2:j<first.length+args.size
  ·rw[List.getElem?_append_left (by simp;omega),List.getElem?_append_right (by omega)] at hxj
   rw[List.getElem?_append_left (by simp[hx];omega),List.getElem?_append_right (by omega),hl1] at hyj'
   obtain⟨q,hq,rfl⟩:=mO hxj
   obtain⟨q',hq',rfl⟩:=mO hyj'
   rw[hq] at hq';cases hq'
   exact hargs q (by rw[Array.getElem?_toList] at hq;exact Array.mem_of_getElem? hq)
  ·rw[List.getElem?_append_right (by simp;omega)] at hxj
   rw[List.getElem?_append_right (by simp[hx];omega)] at hyj'
   simp only[List.length_append,List.length_map,Array.length_toList] at hxj hyj'
   rw[hx] at hyj'
   exact h2 _ x y hxj (by simpa using hyj')
theorem Runs.not_defer{ρ:Operand->Value}{o:Oper}{y:Value}(h:Runs P ρ o w y w'):∀c,o.op≠.defer c:=by
 intro c hc
 unfold Runs execOp at h
 rw[hc] at h
 simp only[Sem.run_bind] at h
 cases hr:(resolve ρ c o.type).run P w with
 |ok d w1=>rw[hr] at h;simp at h
 |halt x w1=>rw[hr] at h;simp at h
theorem Jx(o:Oper)(a:Act)(rd:Option Nat):∀f,o.about P w a.eval=some f->(fen rd).fn f:=λ_ _=>trivial
theorem StepO.sound{mt:Bool}{ops:Array Oper}{r:Nat}{σ:AState}{o:Oper}{val:AVal}{upd:List (Nat×HCell)}{touch:List Nat}(h:StepO P mt ops r σ o val upd touch)
  {c:Ctx} {a:Act} (hR:Rel c B ι σ a w) (hdst:∀d,o.dst=some d->d<c.n) {K:Act->World->Prop} {Q:Exit->Act->World->Prop}
  (hK:∀B' ι' a' w',Rel c B' ι' (σ.app o.dst val upd) a' w'->K a' w') :
  if Region.wanted o (yielded ops a.tmps) then o.wpIn (fen c.rd) 0 P a w K Q else (∀f,o.about P w a.eval=some f->(fen c.rd).fn f)/\K (a.put o.dst undef) w:=by
 have plain:∀{v:AVal} {u:List (Nat×HCell)} {y:Value} {w':World},Runs P a.eval o w y w'->Bx B ι σ.H w (KP σ.H u) v y w'->(∀B' ι' a' w',Rel c B' ι' (σ.app o.dst v u) a' w'->K a' w')->o.wpIn (fen c.rd) 0 P a w K Q:=λhrun hd hK=>by
  obtain⟨B',ι',hR'⟩:=hR.app hd hdst
  refine⟨Jx o a _,?_⟩
  rw[Oper.semAt_eq _ _ _ hrun.not_defer]
  rcases hrun with hrun | ⟨hrun,rfl⟩
  ·rw[hrun];exact hK B' ι' _ _ hR'
  ·rw[hrun];exact hK B' ι' _ _ hR'
 have called:∀{f:Operand} {args:Array Operand} {ats:Array TypeId} {g:FuncId} {first caps:List AVal} {ρA:Operand->AVal} {v0 v:AVal} {u:List (Nat×HCell)},o.op=.call ⟨.value f,args,ats⟩ ->
   VRel B ι σ.H.dom (.fn (.func g) first caps) (a.eval f)->(∀x,x∈args->VRel B ι σ.H.dom (ρA x) (a.eval x))->CKK P g (first ++ args.toList.map ρA ++ caps) σ.H v0 u ->
   (∀y w',Bx B ι σ.H w (KP σ.H u) v0 y w'->Bx B ι σ.H w (KP σ.H u) v y w')->(∀B' ι' a' w',Rel c B' ι' (σ.app o.dst v u) a' w'->K a' w')->o.wpIn (fen c.rd) 0 P a w K Q:=λ{f args ats g first caps ρA v0 v u} ho hf hargs hc hval hK=>by
  obtain⟨he,hcall⟩:=hc
  obtain⟨xs,ys,hfe,hA⟩:=BYB hf hargs
  have hrun:(execOp a.eval o).run P w=.ok (.enter g (xs ++ args.map a.eval ++ ys)) w:=by
   simp only[execOp,ho,resolve,hfe,Deferred.ofValue,invoke,Sem.run_bind,Sem.run_pure,Result.andThen_ok]
   exact he _ w
  refine⟨Jx o a _,?_⟩
  rw[Oper.semAt_eq _ _ _ (by rw[ho];exact λ_ h=>by cases h),hrun]
  rw[Oper.uponIn_enter]
  have h0:CallsIn (fen c.rd) (0-1) P g (xs ++ args.map a.eval ++ ys) w λe w'=>∃v,e=.returned v/\Bx B ι σ.H w (KP σ.H u) v0 v w':=callsIn_wide.2 (hcall B ι w _ hA hR.mv.heap)
  refine⟨(λh=>by cases h),CallsIn.mono h0 λe w' hh=>?_⟩
  obtain⟨v,rfl,hd⟩:=hh
  obtain⟨B',ι',hR'⟩:=hR.app (hval _ _ hd) hdst
  exact hK B' ι' _ _ hR'
 have skip:∀{v:AVal},(∀B' ι' a' w',Rel c B' ι' (σ.app o.dst (.opt false v) []) a' w'->K a' w')->K (a.put o.dst undef) w:=λhK=>by
  obtain⟨B',ι',h⟩:=hR.app (dst:=o.dst) (v:=.opt false _) (y:=undef) (u:=[]) ⟨B,ι,Moved.refl hR.mv.heap,.opt (λh=>by cases h) (λ_=>rfl)⟩ hdst
  exact hK B' ι' _ _ h
 have toOpt:∀{v:AVal} {u:List (Nat×HCell)} {y:Value} {w':World},Bx B ι σ.H w (KP σ.H u) v y w'->Bx B ι σ.H w (KP σ.H u) (.opt true v) y w':=λ⟨B',ι',hm,hv⟩=>⟨B',ι',hm,.opt (λ_=>hv) (λh=>by cases h)⟩
 cases h with
 |op hg h hp hr=>
  simp only[Region.wanted,hg,if_true]
  obtain⟨y,w',hrun,hd⟩:=AUC (ρ:=a.eval) h hp (λx=>OT hR.slots x) (λ_=>rfl) hr hR.mv.heap
  exact plain hrun hd hK
 |gop hg hw h hp hr=>
  rename_i j want g v p
  rw[AAL hg hw hR.slots]
  cases g with
  |false=>simpa using⟨Jx o a _,skip hK⟩
  |true=>
   simp only[if_true]
   obtain⟨y,w',hrun,hd⟩:=BKD (ρ:=a.eval) h hp (λx=>OT hR.slots x) (λ_=>rfl) hr hR.mv.heap
   exact plain (u:=[]) hrun (toOpt (u:=[]) hd) hK
 |call hg ho hf hc hcells hr=>
  simp only[Region.wanted,hg,if_true]
  rename_i f args ats g first caps cells
  have hfv:=OT hR.slots f
  rw[hf] at hfv
  exact called ho hfv (λx _=>OT hR.slots x) (hc σ.H hcells hr) (λ_ _ h=>h) hK
 |inv hg ho hf hm hc hcells hr=>
  simp only[Region.wanted,hg,if_true]
  rename_i x m args ats t d g cells
  have hfv:=OT hR.slots x
  rw[hf] at hfv
  obtain⟨y,hy,hd⟩:∃y,a.eval x=.iface t y/\DRel B d y:=by
   generalize a.eval x=z at hfv
   cases hfv.d_inv with
   |iface h=>exact⟨_,rfl,h⟩
  obtain⟨he,hcall⟩:=hc σ.H hcells hr
  have hrun:(execOp a.eval o).run P w=.ok (.enter g (#[y] ++ args.map a.eval)) w:=by
   obtain⟨e1,e2⟩:=arr1 (a.eval x) (args.map a.eval)
   simp only[execOp,ho,resolve,invoke,Sem.run_bind,Sem.run_pure,Result.andThen_ok,e1,e2]
   rw[hy]
   simp only[callMethod,Sem.run_bind]
   obtain⟨n,hn⟩:∃n,P.types.size+Made.depth=n+1:=⟨_,(Nat.succ_pred_eq_of_pos (Nat.add_pos_right _ (by decide))).symm⟩
   simp only[run_program,Result.andThen_ok,hn,BHV hm n y w]
   exact he _ w
  have hA:Sf B ι σ.H.dom (.d d :: args.toList.map (CO σ.sl)) (#[y] ++ args.map a.eval):=by
   refine⟨by simp[Nat.add_comm],λj q v hq hv=>?_⟩
   cases j with
   |zero=>
    rw[(arr1 y (args.map a.eval)).1] at hv
    simp only[List.getElem?_cons_zero,Option.some.injEq] at hq hv;subst hq;subst hv;exact .d hd
   |succ j=>
    simp only[List.getElem?_cons_succ,List.getElem?_map,Option.map_eq_some_iff] at hq
    obtain⟨z,hz,rfl⟩:=hq
    rw[Array.getElem?_append_right (by simp)] at hv
    simp only[List.size_toArray,List.length_cons,List.length_nil,Nat.zero_add,Nat.add_sub_cancel,Array.getElem?_map,Option.map_eq_some_iff] at hv
    obtain⟨z',hz',rfl⟩:=hv
    rw[Array.getElem?_toList] at hz
    rw[hz] at hz';cases hz'
    exact OT hR.slots z
  refine⟨Jx o a _,?_⟩
  rw[Oper.semAt_eq _ _ _ (by rw[ho];exact λ_ h=>by cases h),hrun]
  rw[Oper.uponIn_enter]
  have h0:CallsIn (fen c.rd) (0-1) P g (#[y] ++ args.map a.eval) w λe w'=>∃v,e=.returned v/\Bx B ι σ.H w (KP σ.H upd) val v w':=callsIn_wide.2 (hcall B ι w _ hA hR.mv.heap)
  refine⟨(λh=>by cases h),CallsIn.mono h0 λe w' hh=>?_⟩
  obtain⟨v,rfl,hd⟩:=hh
  obtain⟨B',ι',hR'⟩:=hR.app hd hdst
  exact hK B' ι' _ _ hR'
 |gcall hg hw ho hf htags hc hcells hr=>
  rename_i j want gd f args ats g first caps cells v
  rw[AAL hg hw hR.slots]
  cases gd with
  |false=>simpa using⟨Jx o a _,skip hK⟩
  |true=>
   simp only[if_true]
   have ht:=wY (htags rfl)
   have hfv:=Dy trivial (ht f (by rw[ho];simp[Op.operands,Call.operands])) (OT hR.slots f)
   rw[hf] at hfv
   exact called (ρA:=λx=>GW (CO σ.sl x)) ho hfv (λx hx=>Dy trivial (ht x (by rw[ho];simp[Op.operands,Call.operands];exact .inr hx)) (OT hR.slots x)) (hc rfl σ.H hcells hr) (λ_ _ h=>toOpt h) hK
def LexE(P:Program)(mt:Bool)(ops:Array Oper)(base n:Nat)(Q:AState->Prop):List Oper->Nat->AState->Prop
 |[],_,σ=>Q σ
 |o :: l,k,σ=>∃val upd touch,StepO P mt ops (base+16*k) σ o val upd touch/\(∀d,o.dst=some d->d<n)/\LexE P mt ops base n Q l (k+1) (σ.app o.dst val upd)
def CodeE(P:Program)(c:Ctx)(code:Code)(Q:Exit->AState->Prop)(σ:AState):Prop:=
 ∀B ι a w,Rel c B ι σ a w->code.wpIn (fen c.rd) 0 P (λe a' w'=>∃B' ι' σ',Q e σ'/\Rel c B' ι' σ' a' w') a w
theorem CodeE.mono{c:Ctx}{code:Code}{Q Q':Exit->AState->Prop}{σ:AState}(h:CodeE P c code Q σ)(hq:∀e σ,Q e σ->Q' e σ):CodeE P c code Q' σ:=
 λB ι a w hR=>wpIn_mono (h B ι a w hR) λ_ _ _ ⟨B',ι',σ',hQ,hR'⟩=>⟨B',ι',σ',hq _ _ hQ,hR'⟩
theorem BWM{mt:Bool}{ops:Array Oper}{base:Nat}{c:Ctx}{Q:Exit->AState->Prop}:∀(l:List Oper) (k:Nat) (σ:AState),LexE P mt ops base c.n (Q .normal) l k σ->∀B ι a w,Rel c B ι σ a w ->
  wpListIn (fen c.rd) 0 P ops (λe a' w'=>∃B' ι' σ',Q e σ'/\Rel c B' ι' σ' a' w') l a w
 |[],_,σ,h,B,ι,_,_,hR=>⟨B,ι,σ,h,hR⟩
 |o :: l,k,σ,h,B,ι,a,w,hR=>by
  obtain⟨val,upd,touch,hs,hd,hl⟩:=h
  exact hs.sound hR hd (λB' ι' a' w' hR'=>BWM l (k+1) _ hl B' ι' a' w' hR')
theorem BIL{mt:Bool}{id:Nat}{ops:Array Oper}{base:Nat}{c:Ctx}{Q:Exit->AState->Prop}{σ:AState}(h:LexE P mt ops base c.n (Q .normal) ops.toList 0 σ):CodeE P c (.region id ops false) Q σ:=
 λB ι a w hR=>wpIn_region_list (BWM ops.toList 0 σ h B ι a w hR)
end Go.Sym

namespace Go.Sym
variable {P : Program} {B B' : Jk} {ι ι' : Nat -> Pl} {H H' : Heap} {D : Nat -> Prop} {w w' : World}
theorem BCN{ops:Array Oper}{sl sl':Nat->AVal}{o:Oper}(h:∀t∈o.looksAt ops,sl' t=sl t)(x:Operand)(hx:x∈o.op.operands):CO sl' x=CO sl x:=by
 cases x with
 |tmp t=>exact h t (List.mem_append_left _ (List.mem_filterMap.2 ⟨.tmp t,by simpa using hx,rfl⟩))
 |_=>rfl
theorem ACY{ops:Array Oper}{sl sl':Nat->AVal}{o:Oper}{j:Nat}{want:Bool}(hg:o.guard=some (j,want))(h:∀t∈o.looksAt ops,sl' t=sl t):MB ops sl' j want=MB ops sl j want:=by
 unfold MB
 cases ht:(ops[j]?).bind (·.dst) with
 |none=>rfl
 |some t=>simp only;rw[h t (by simp[Oper.looksAt,hg,ht])]
theorem ABN{ρ ρ':Operand->AVal}{l:List Operand}(h:∀x∈l,ρ x=ρ' x):Gq ρ l=Gq ρ' l:=by
 unfold Gq
 induction l with
 |nil=>rfl
 |cons x l ih=>rw[List.flatMap_cons,List.flatMap_cons,h x (by simp),ih λy hy=>h y (by simp[hy])]
theorem BHC{r:Nat}{ρ ρ':Operand->AVal}{H H':Heap}{g:Bool}(op:Op)(h:∀x∈op.operands,ρ x=ρ' x)(hH:∀id∈Zf (λx=>GW (ρ x)) op,H id=H' id):gopA P r ρ H g op=gopA P r ρ' H' g op:=by
 have hs:∀x∈op.operands,(λx=>GW (ρ x)) x=(λx=>GW (ρ' x)) x:=λx hx=>by simp only[h x hx]
 have ho:=AFD (P:=P) (mt:=false) (r:=r) op hs hH
 have ht:Gq ρ op.operands.toList=Gq ρ' op.operands.toList:=ABN λx hx=>h x (by simpa using hx)
 unfold gopA
 split
 ·rename_i c a b
  rw[h c (by simp[Op.operands]),h a (by simp[Op.operands]),h b (by simp[Op.operands])]
 ·rename_i t len ps
  have:(ps.toList.map λp=>(p.1,GW (ρ p.2)))=(ps.toList.map λp=>(p.1,GW (ρ' p.2))):=List.map_congr_left λp hm=>by
   rw[h p.2 (by simp[Op.operands];exact⟨p.1,by simpa using hm⟩)]
  rw[this,ht]
 ·rw[ho,ht]
theorem StepO.local'{mt:Bool}{ops:Array Oper}{r:Nat}{σ σ':AState}{o:Oper}{val:AVal}{upd:List (Nat×HCell)}{touch:List Nat}(h:StepO P mt ops r σ o val upd touch)
  (hs:∀t∈o.looksAt ops,σ'.sl t=σ.sl t) (hH:∀id∈touch,σ'.H id=σ.H id):StepO P mt ops r σ' o val upd touch:=by
 have hev:∀x∈o.op.operands,CO σ.sl x=CO σ'.sl x:=λx hx=>(BCN hs x hx).symm
 cases h with
 |op hg h hp hr=>
  rw[ABG o.op hev]
  refine .op hg ?_ hp (by rw[hH r (by simp)];exact hr)
  rw[<-h]
  exact (AFD o.op hev λid hid=>(hH id (by simp[hid])).symm).symm
 |gop hg hw h hp hr=>
  have hev':∀x∈o.op.operands,(λx=>GW (CO σ.sl x)) x=(λx=>GW (CO σ'.sl x)) x:=λx hx=>by simp only[hev x hx]
  rw[ABG o.op hev']
  refine .gop hg (by rw[ACY hg hs];exact hw) ?_ hp (by rw[hH r (by simp)];exact hr)
  rw[<-h]
  exact (BHC o.op hev λid hid=>(hH id (by simp[hid])).symm).symm
 |call hg ho hf hc hcells hr=>
  rename_i f args ats g first caps cells
  have hargs:args.toList.map (CO σ'.sl)=args.toList.map (CO σ.sl):=List.map_congr_left λx hx=>(hev x (by rw[ho];simp[Op.operands,Call.operands];right;simpa using hx)).symm
  refine .call hg ho (by rw[<-hev f (by rw[ho];simp[Op.operands,Call.operands])];exact hf) (by rw[hargs];exact hc)
   (λp hp=>by rw[hH p.1 (by simp;exact .inl ⟨p.2,hp⟩)];exact hcells p hp) (λi h1 h2=>by rw[hH i (by simp;right;exact⟨i-r,by omega,by omega⟩)];exact hr i h1 h2)
 |inv hg ho hf hm hc hcells hr=>
  rename_i x m args ats t d g cells
  have hargs:args.toList.map (CO σ'.sl)=args.toList.map (CO σ.sl):=List.map_congr_left λx hx=>(hev x (by rw[ho];simp[Op.operands,Call.operands];right;simpa using hx)).symm
  refine .inv hg ho (by rw[<-hev x (by rw[ho];simp[Op.operands,Call.operands])];exact hf) hm (by rw[hargs];exact hc)
   (λp hp=>by rw[hH p.1 (by simp;exact .inl ⟨p.2,hp⟩)];exact hcells p hp) (λi h1 h2=>by rw[hH i (by simp;right;exact⟨i-r,by omega,by omega⟩)];exact hr i h1 h2)
 |gcall hg hw ho hf ht hc hcells hr=>
  rename_i j want gd f args ats g first caps cells v
  have hargs:args.toList.map (λx=>GW (CO σ'.sl x))=args.toList.map (λx=>GW (CO σ.sl x)):=List.map_congr_left λx hx=>by simp only[hev x (by rw[ho];simp[Op.operands,Call.operands];right;simpa using hx)]
  refine .gcall hg (by rw[ACY hg hs];exact hw) ho (by rw[<-hev f (by rw[ho];simp[Op.operands,Call.operands])];exact hf)
   (λh=>by rw[<-ABN (ρ:=CO σ.sl) λx hx=>hev x (by simpa using hx)];exact ht h) (λh=>by rw[hargs];exact hc h)
   (λp hp=>by rw[hH p.1 (by simp;exact .inl ⟨p.2,hp⟩)];exact hcells p hp) (λi h1 h2=>by rw[hH i (by simp;right;exact⟨i-r,by omega,by omega⟩)];exact hr i h1 h2)
end Go.Sym
