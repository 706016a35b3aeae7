/- A region whose appends are told apart, one by one. -/
import Derived.Test.YtoihhodbkimedaaGreatSym8
set_option linter.unusedVariables false
set_option linter.unusedSimpArgs false
namespace Go.Sym
variable {P : Program} {B B' : Jk} {ι ι' : Nat -> Pl} {H H' : Heap} {D : Nat -> Prop} {w w' : World} {c : Ctx} {σ : AState} {Q : Exit -> AState -> Prop}
theorem Rel.frz{a:Act}{id kk n n2:Nat}{get:Nat->DVal}{dst:Option Tmp}(h:Rel c B ι σ a w)(hid:σ.H id=.live (.row kk n2 get))(hv:∀d,dst=some d->σ.sl d=.own id kk 0 n)(hn:n=n2) :
  ∃B',Rel c B' ι ⟨fY σ.sl dst (.d (.list kk n get false)),IV σ.H id .dead⟩ a w:=by
 obtain⟨B',hm,hF⟩:=YA [id] h.mv.heap
 have hk:HK σ.H [id]=IV σ.H id .dead:=by simp only[HK,hid]
 rw[hk] at hm
 have hf:SA σ.H [id] id=some (kk,n2,get):=by simp[SA,hid]
 refine⟨B',⟨λt=>?_,h.size,?_,h.mv.trans hm⟩⟩
 ·simp only[ALV]
  split
  ·rename_i hd
   have:=h.slots t
   rw[hv t hd] at this
   exact .d (ANZ hF hf rfl (by omega) (λj _=>by rw[Nat.zero_add];exact Pn _) this)
  ·exact hm.vrel (h.slots t)
 ·obtain⟨Ds,h1,h0,h2,h3⟩:=h.defers
  exact⟨Ds,h1,h0,h2,λD hD=>⟨(h3 D hD).1,(h3 D hD).2.moved hm⟩⟩
def BDQ(P:Program)(Γ:FuncId->Option Spec)(mt:Bool)(ops:Array Oper)(r:Nat)(o:Oper)(σ:AState)(K:AState->Prop):Prop:=match APC P Γ mt ops r σ o with
 |some s=>andK (qI σ.sl o ++ s.pre) (K (σ.app o.dst s.val s.upd))
 |none=>False
def CMK(P:Program)(Γ:FuncId->Option Spec)(ops:Array Oper)(r:Nat)(o:Oper)(σ:AState)(K:AState->Prop):Prop:=match APC P Γ true ops r σ o with
 |some s=>match o.dst,s.val with
  |some d,.own id kk 0 n=>match KP σ.H s.upd id with
   | .live (.row k2 n2 get)=>if Nat.beq kk k2 then andK (qI σ.sl o ++ (s.pre ++ [n=n2])) (K ⟨fY σ.sl (some d) (.d (.list kk n get false)),IV (KP σ.H s.upd) id .dead⟩) else False
   |_=>False
  |_,_=>False
 |none=>False
def CLI(P:Program)(r:Nat)(o:Oper)(σ:AState)(K:AState->Prop):Prop:=match o.op with
 | .lookup t m ix true=>match CCX P σ.H t (CO σ.sl m) (CO σ.sl ix) with
  |some (b,d,z,p)=>andK p (bif b then K (σ.app o.dst (.d (.tup [d,.bool true])) []) else K (σ.app o.dst (.d (.tup [ofV z,.bool false])) []))
  |none=>False
 |_=>False
def CLR(P:Program)(r:Nat)(o:Oper)(σ:AState)(K:AState->Prop):Prop:=match o.op with
 | .buildSlice t len ps=>match XW P r t len (ps.toList.map λp=>(p.1,CO σ.sl p.2)) with
  |some ⟨_,[(_,.live (.row k n get))],_⟩=>K (σ.app o.dst (.d (.list k n get true)) [])
  |_=>False
 |_=>False
def runM(P:Program)(Γ:FuncId->Option Spec)(md:Nat->Nat)(ops:Array Oper)(base n:Nat)(K:AState->Prop):List Oper->Nat->AState->Prop
 |[],_,σ=>K σ
 |o :: l,k,σ=>if BDY n o&&o.guard.isNone then match md k with
   |0=>BDQ P Γ false ops (base+16*k) o σ (runM P Γ md ops base n K l (k+1))
   |1=>BDQ P Γ true ops (base+16*k) o σ (runM P Γ md ops base n K l (k+1))
   |3=>CLI P (base+16*k) o σ (runM P Γ md ops base n K l (k+1))
   |4=>CLR P (base+16*k) o σ (runM P Γ md ops base n K l (k+1))
   |_=>CMK P Γ ops (base+16*k) o σ (runM P Γ md ops base n K l (k+1))
  else False
theorem BEU{Γ:FuncId->Option Spec}(hΓ:GOk P Γ){mt:Bool}{ops:Array Oper}{r:Nat}{o:Oper}{K:AState->Prop}(h:BDQ P Γ mt ops r o σ K):∃s:Stp,StepO P mt ops r σ o s.val s.upd s.touch/\K (σ.app o.dst s.val s.upd):=by
 unfold BDQ at h
 split at h
 ·rename_i s hs
  obtain⟨h1,h2⟩:=WX h
  obtain⟨h3,h4⟩:=DI h1
  exact⟨s,tA hΓ hs h4 λ_=>h3,h2⟩
 ·exact h.elim
theorem Rel.plain{ops:Array Oper}{o:Oper}{a:Act}{v:AVal}{y:Value}{w':World}{K:Act->World->Prop}{Q:Exit->Act->World->Prop}(h:Rel c B ι σ a w)(hg:o.guard=none)(hdst:∀d,o.dst=some d->d<c.n)(hrun:Runs P a.eval o w y w')(hd:Bx B ι σ.H w (KP σ.H []) v y w')
  (hK:∀B' ι' a' w',Rel c B' ι' (σ.app o.dst v []) a' w'->K a' w'):if Region.wanted o (yielded ops a.tmps) then o.wpIn (fen c.rd) 0 P a w K Q else (∀f,o.about P w a.eval=some f->(fen c.rd).fn f)/\K (a.put o.dst undef) w:=by
 simp only[Region.wanted,hg,if_true]
 obtain⟨B',ι',hR'⟩:=h.app hd hdst
 refine⟨Jx o a _,?_⟩
 rw[Oper.semAt_eq _ _ _ hrun.not_defer]
 rcases hrun with hrun | ⟨hrun,rfl⟩
 ·rw[hrun];exact hK B' ι' _ _ hR'
 ·rw[hrun];exact hK B' ι' _ _ hR'
theorem Rf{Γ:FuncId->Option Spec}(hΓ:GOk P Γ){md:Nat->Nat}{ops:Array Oper}{base:Nat}:∀(l:List Oper) (k:Nat) (σ:AState),runM P Γ md ops base c.n (Q .normal) l k σ->∀B ι a w,Rel c B ι σ a w ->
  wpListIn (fen c.rd) 0 P ops (λe a' w'=>∃B' ι' σ',Q e σ'/\Rel c B' ι' σ' a' w') l a w
 |[],_,σ,h,B,ι,_,_,hR=>⟨B,ι,σ,h,hR⟩
 |o :: l,k,σ,h,B,ι,a,w,hR=>by
  unfold runM at h
  split at h
  case isFalse=>exact h.elim
  rename_i hc
  simp only[Bool.and_eq_true] at hc
  have hd:=S9 hc.1
  have hg:o.guard=none:=by
   cases hq:o.guard with
   |none=>rfl
   |some q=>rw[hq] at hc;exact absurd hc.2 (by simp)
  have step:∀{mt:Bool},BDQ P Γ mt ops (base+16*k) o σ (runM P Γ md ops base c.n (Q .normal) l (k+1))->wpListIn (fen c.rd) 0 P ops (λe a' w'=>∃B' ι' σ',Q e σ'/\Rel c B' ι' σ' a' w') (o :: l) a w:=λh=>by
   obtain⟨s,h1,h2⟩:=BEU hΓ h
   exact h1.sound hR hd λB' ι' a' w' hR'=>Rf hΓ l (k+1) _ h2 B' ι' a' w' hR'
  split at h
  ·exact step h
  ·exact step h
  ·unfold CLI at h
   split at h
   case h_2=>exact h.elim
   rename_i t m ix ho
   split at h
   case h_2=>exact h.elim
   rename_i b d z p hl
   obtain⟨hp,h⟩:=WX h
   obtain⟨v,hrun,h1,h2⟩:=BDU hl hp (OT hR.slots m) (OT hR.slots ix) hR.mv.heap
   have hr:Runs P a.eval o w (.tuple #[v,.bool b]) w:=.inl (by simp only[execOp,ho,Sem.run_bind,hrun,Result.andThen_ok,Sem.run_pure])
   cases b with
   |true=>
    refine hR.plain hg hd hr ⟨B,ι,Moved.refl hR.mv.heap,.d (.tup rfl λj x y hx hy=>?_)⟩ λB' ι' a' w' hR'=>Rf hΓ l (k+1) _ h B' ι' a' w' hR'
    match j with
    |0=>simp at hx hy;subst hx;subst hy;exact h1 rfl
    |1=>simp at hx hy;subst hx;subst hy;exact .v _
    |j+2=>simp at hx
   |false=>
    refine hR.plain hg hd hr ⟨B,ι,Moved.refl hR.mv.heap,.d (.tup rfl λj x y hx hy=>?_)⟩ λB' ι' a' w' hR'=>Rf hΓ l (k+1) _ h B' ι' a' w' hR'
    match j with
    |0=>simp at hx hy;subst hx;subst hy;rw[h2 rfl];exact AXV z
    |1=>simp at hx hy;subst hx;subst hy;exact .v _
    |j+2=>simp at hx
  ·unfold CLR at h
   split at h
   case h_2=>exact h.elim
   rename_i t len ps ho
   split at h
   case h_2=>exact h.elim
   rename_i v0 r0 kk n get p0 hb
   obtain⟨k',n',get',y,w',he,h1,h2⟩:=qG (parts:=ps.map λx=>(x.1,a.eval x.2)) hb hR.mv.heap (by simp) (λj x y hx hy=>by
    obtain⟨z,hz,rfl⟩:=mO hx
    rw[Array.getElem?_toList] at hz
    simp[hz] at hy
    subst hy
    exact⟨rfl,OT hR.slots z.2⟩)
   simp only[Eff.mk.injEq,List.cons.injEq,Prod.mk.injEq,HCell.live.injEq,AObj.row.injEq,and_true] at he
   obtain⟨_,⟨_,rfl,rfl,rfl⟩,_⟩:=he
   exact hR.plain hg hd (.inl (by simp[execOp,ho,h1])) h2 λB' ι' a' w' hR'=>Rf hΓ l (k+1) _ h B' ι' a' w' hR'
  ·unfold CMK at h
   split at h
   case h_2=>exact h.elim
   rename_i s hs
   split at h
   case h_2=>exact h.elim
   rename_i d id kk n hdst hval
   split at h
   case h_2=>exact h.elim
   rename_i k2 n2 get hid
   split at h
   case isFalse=>exact h.elim
   rename_i hkk
   rw[MT] at hkk
   subst hkk
   obtain⟨h1,h2⟩:=WX h
   obtain⟨h3,h4⟩:=DI h1
   obtain⟨h5,h6⟩:=DI h4
   have st:=tA hΓ hs h5 λ_=>h3
   refine st.sound hR hd λB' ι' a' w' hR'=>?_
   obtain⟨B2,hR2⟩:=hR'.frz (dst:=some d) (n:=n) (get:=get) (id:=id) hid (λd' hd'=>by
    cases hd'
    simp only[AState.app,ALV,hdst,if_true];exact hval) h6
   have e:(⟨fY (σ.app o.dst s.val s.upd).sl (some d) (.d (.list kk n get false)),IV (σ.app o.dst s.val s.upd).H id .dead⟩:AState)=⟨fY σ.sl (some d) (.d (.list kk n get false)),IV (KP σ.H s.upd) id .dead⟩:=by
    simp only[AState.app,hdst]
    congr 1
    funext t
    simp only[ALV]
    split<;>rfl
   rw[e] at hR2
   exact Rf hΓ l (k+1) _ h2 B2 ι' a' w' hR2
theorem ASS{Γ:FuncId->Option Spec}(hΓ:GOk P Γ){md:Nat->Nat}{ops:Array Oper}{base id:Nat}(h:runM P Γ md ops base c.n (Q .normal) ops.toList 0 σ):CodeE P c (.region id ops false) Q σ:=
 λB ι a w hR=>wpIn_region_list (Rf hΓ ops.toList 0 σ h B ι a w hR)
end Go.Sym

namespace Go.Sym
variable {P : Program} {B B' : Jk} {ι ι' : Nat -> Pl} {H H' : Heap} {D : Nat -> Prop} {w w' : World}
structure Ctr where
 α:Type
 xs:α->List AVal
 L:α->List (Nat×AObj):=λ_=>[]
 val:α->AVal
 keep:α->List (Nat×HCell):=λ_=>[]
 pre:α->List Prop:=λ_=>[]
 /-- names whose objects the caller goes on to know as before -/
 ro:List Nat:=[]
def CUC(P:Program)(g:FuncId)(C:Ctr):Prop:=∀a,FT (C.pre a)->FnT P g (C.xs a) (AD (C.L a)) (C.val a) (C.keep a)
def AJH(F:xE)(ρ:Nat->Nat)(p:Nat->Bool)(H:Heap):List (Nat×AObj)->Option (List Prop)
 |[]=>some []
 |(i,o) :: r=>qU (AKO F ρ p (.live o) (H (ρ i))) (AJH F ρ p H r)
theorem L7{F:xE}{ρ:Nat->Nat}{p:Nat->Bool}{H:Heap}:∀{l:List (Nat×AObj)},IM (AJH F ρ p H l)->∀i o,(i,o)∈l->∃o',H (ρ i)=.live o'/\IM (jB F ρ p o o')
 |[],_,i,o,h=>by cases h
 |(j,x) :: r,h,i,o,hm=>by
  obtain⟨h1,h2⟩:=KE h
  rcases List.mem_cons.1 hm with hm | hm
  ·cases hm
   cases hq:H (ρ j) with
   |live o'=>rw[hq] at h1;exact⟨o',rfl,h1⟩
   |none=>rw[hq] at h1;simp only[AKO] at h1;exact h1.elim
   |dead=>rw[hq] at h1;simp only[AKO] at h1;exact h1.elim
  ·exact L7 h2 i o hm
def AMP:HCell->Bool
 | .live (.row _ _ _)=>true
 |_=>false
def noF:xE:=λ_=>none
def AGZ(H:Heap)(ρ:Nat->Nat)(L:List (Nat×AObj))(ro:List Nat):List (Nat×HCell)->Option (List Prop)
 |[]=>some []
 |(i,c) :: r=>if ro.contains i then match H (ρ i),c with
   | .live o',.live o=>if (MA L i).isSome then qU (jB noF (λj=>j) (λj=>L.any λx=>Nat.beq (ρ x.1) j) o' (renO ρ o)) (AGZ H ρ L ro r) else none
   |_,_=>none
  else AGZ H ρ L ro r
theorem U9{H:Heap}{ρ:Nat->Nat}{L:List (Nat×AObj)}{ro:List Nat}:∀{l:List (Nat×HCell)},IM (AGZ H ρ L ro l)->∀i c,(i,c)∈l->i∈ro->∃o' o,H (ρ i)=.live o'/\c=.live o/\(MA L i).isSome=true/\IM (jB noF (λj=>j) (λj=>L.any λx=>Nat.beq (ρ x.1) j) o' (renO ρ o))
 |[],_,i,c,h,_=>by cases h
 |(j,x) :: r,h,i,c,hm,hi=>by
  simp only[AGZ] at h
  rcases List.mem_cons.1 hm with hm1 | hm1
  ·cases hm1
   rw[if_pos (by simpa using hi)] at h
   split at h
   ·rename_i o' o h1
    split at h
    ·rename_i h2
     exact⟨o',o,h1,rfl,h2,(KE h).1⟩
    ·exact h.elim
   ·exact h.elim
  ·split at h
   ·split at h
    ·split at h
     ·exact U9 (KE h).2 i c hm1 hi
     ·exact h.elim
    ·exact h.elim
   ·exact U9 h i c hm1 hi
theorem Moved.weakH{H1 H2:Heap}(m:Moved B ι H w B' ι' H1 w')(hd:∀i,H2.dom i↔H1.dom i)(ho:∀i o,H2 i=.live o->∃o1,H1 i=.live o1/\∀x,ORel B' ι' H1.dom (ι' i).cap o1 x->ORel B' ι' H2.dom (ι' i).cap o x):Moved B ι H w B' ι' H2 w':=by
 refine⟨m.bm,m.bn,λi hi=>⟨(hd i).2 (m.im i hi).1,(m.im i hi).2⟩,⟨λi o hi=>?_,λi j o o' hi hj h=>?_,λi o hi=>?_,m.heap.imm⟩,λi o hi=>?_,m.frame,m.size,m.calm⟩
 ·obtain⟨o1,h1,h2⟩:=ho i o hi
  exact h2 _ (m.heap.obj i o1 h1)
 ·obtain⟨o1,h1,_⟩:=ho i o hi
  obtain⟨o2,h2,_⟩:=ho j o' hj
  exact m.heap.inj i j o1 o2 h1 h2 h
 ·obtain⟨o1,h1,_⟩:=ho i o hi
  exact m.heap.sep i o1 h1
 ·obtain⟨o1,h1,_⟩:=ho i o hi
  exact m.own i o1 h1
def Ctr.keepW(C:Ctr)(a:C.α):List (Nat×HCell):=(C.keep a).filter λx=>!C.ro.contains x.1
def Ctr.spec(C:Ctr)(dec:List AVal->Heap->Option (C.α×List (Nat×Nat)×List Nat)):Spec:=λxs H r=>match dec xs H with
 |none=>none
 |some (a,l,fz)=>if AKD (C.xs a) (C.L a) (C.val a) (C.keep a) (λi=>if (MA (C.L a) i).isSome then OI l i else r+i) r&&nodup fz&&fz.all (λi=>AMP (H i)) then
   match qU (TR (SA H fz) (λi=>if (MA (C.L a) i).isSome then OI l i else r+i) (λi=>(MA (C.L a) i).isSome) (C.xs a) xs)
     (qU (AJH (SA H fz) (λi=>if (MA (C.L a) i).isSome then OI l i else r+i) (λi=>(MA (C.L a) i).isSome) (HK H fz) (C.L a))
      (AGZ (HK H fz) (λi=>if (MA (C.L a) i).isSome then OI l i else r+i) (C.L a) C.ro (C.keep a))) with
   |some p=>some ⟨fz ++ (C.L a).map λx=>OI l x.1,Wt (λi=>if (MA (C.L a) i).isSome then OI l i else r+i) (C.val a),(fz.map λi=>(i,.dead)) ++ Np (λi=>if (MA (C.L a) i).isSome then OI l i else r+i) (C.keepW a),p ++ C.pre a⟩
   |none=>none
  else none
theorem AJR:∀(u v:List (Nat×HCell)) (H:Heap),KP H (u ++ v)=KP (KP H u) v
 |[],_,_=>rfl
 |(i,c) :: u,v,H=>by simp only[List.cons_append,KP];exact AJR u v _
theorem F7:∀(fz:List Nat) (H:Heap),fz.Nodup->(∀i∈fz,AMP (H i)=true)->KP H (fz.map λi=>(i,.dead))=HK H fz
 |[],_,_,_=>rfl
 |i :: r,H,hn,hr=>by
  have h1:=hr i (by simp)
  simp only[List.map_cons,KP,HK]
  have hn':=List.nodup_cons.1 hn
  have h2:∀j∈r,AMP (IV H i .dead j)=true:=λj hj=>by
   rw[MQ _ _ (show j≠i from λhe=>hn'.1 (he ▸ hj))]
   exact hr j (by simp[hj])
  cases hq:H i with
  |live o=>cases o with
   |row=>simp only;exact F7 r _ hn'.2 h2
   |_=>rw[hq] at h1;cases h1
  |_=>rw[hq] at h1;cases h1
theorem Ta:∀(ids:List Nat) {H:Heap} {i:Nat},H i=.none->HK H ids i=.none
 |[],_,_,h=>h
 |id :: r,H,i,h=>by
  simp only[HK]
  cases hq:H id with
  |live o=>cases o with
   |row=>
    simp only
    refine Ta r ?_
    rw[MQ]
    ·exact h
    ·intro he;rw[he,hq] at h;cases h
   |_=>exact Ta r h
  |_=>exact Ta r h
theorem AJS{fz:List Nat}(h:∀i∈fz,H' i=H i):SA H' fz=SA H fz:=by
 funext i
 unfold SA
 split
 ·rename_i hi;rw[h i (by simpa using hi)]
 ·rfl
theorem uS:∀(fz:List Nat) {H H':Heap} (i:Nat),fz.Nodup->(∀j∈fz,H' j=H j)->(i∉fz->H' i=H i)->HK H' fz i=HK H fz i
 |[],_,_,i,_,_,h=>h (by simp)
 |j :: r,H,H',i,hn,hf,h=>by
  have hn':=List.nodup_cons.1 hn
  have e:=hf j (by simp)
  simp only[HK,e]
  have go:∀(K K':Heap),(∀k∈r,K' k=K k)->(i∉r->K' i=K i)->HK K' r i=HK K r i:=λK K' h1 h2=>uS r i hn'.2 h1 h2
  have up:∀x,HK (IV H' j x) r i=HK (IV H j x) r i:=λx=>by
   refine go _ _ (λk hk=>?_) (λhi=>?_)
   ·have hne:k≠j:=λhe=>hn'.1 (he ▸ hk)
    rw[MQ _ _ hne,MQ _ _ hne];exact hf k (by simp[hk])
   ·by_cases he:i=j
    ·subst he;rw[NF,NF]
    ·rw[MQ _ _ he,MQ _ _ he];exact h (by simp[he,hi])
  have same:HK H' r i=HK H r i:=go _ _ (λk hk=>hf k (by simp[hk])) λhi=>by
   by_cases he:i=j
   ·subst he;exact e
   ·exact h (by simp[he,hi])
  cases H j with
  |live o=>cases o with
   |row=>exact up _
   |_=>exact same
  |_=>exact same
theorem Ctr.spec_ok{C:Ctr}{g:FuncId}(h:CUC P g C)(dec:List AVal->Heap->Option (C.α×List (Nat×Nat)×List Nat)):AJ P g (C.spec dec):=by
 intro xs H r x hx hp
 unfold Ctr.spec at hx
 split at hx
 ·cases hx
 ·rename_i a l fz hd
  generalize hρ:(λi=>if (MA (C.L a) i).isSome then OI l i else r+i)=ρ at hx
  have hρL:∀i o,MA (C.L a) i=some o->ρ i=OI l i:=λi o ho=>by rw[<-hρ];simp[ho]
  split at hx
  ·rename_i hok
   simp only[Bool.and_eq_true,List.all_eq_true] at hok
   obtain⟨⟨ok1,ok2⟩,ok3⟩:=hok
   have hnd:=YG ok2
   split at hx
   ·rename_i p hc
    cases hx
    obtain⟨hp1,hp2⟩:=DI hp
    have hc':IM (qU (TR (SA H fz) ρ (λi=>(MA (C.L a) i).isSome) (C.xs a) xs) (qU (AJH (SA H fz) ρ (λi=>(MA (C.L a) i).isSome) (HK H fz) (C.L a)) (AGZ (HK H fz) ρ (C.L a) C.ro (C.keep a)))):=by rw[hc];exact hp1
    obtain⟨h1,h2⟩:=KE hc'
    obtain⟨h2,hro⟩:=KE h2
    have hfn:=h a hp2
    intro H' hcells hfresh
    have hfz:∀i∈fz,H' i=H i:=λi hi=>hcells (i,H i) (List.mem_map.2 ⟨i,by simp[hi],rfl⟩)
    have hL:∀i o,MA (C.L a) i=some o->H' (ρ i)=H (ρ i):=λi o ho=>by
     have hm:=Zg ho
     rw[hρL i o ho]
     exact hcells (OI l i,H (OI l i)) (List.mem_map.2 ⟨OI l i,List.mem_append_right _ (List.mem_map.2 ⟨(i,o),hm,rfl⟩),rfl⟩)
    refine⟨hfn.1,λB ι w vs ha hH=>?_⟩
    obtain⟨B',hk,hF⟩:=YA fz hH
    rw[AJS hfz] at hF
    have hdom:∀i,(MA (C.L a) i).isSome=true->(AD (C.L a)).dom i:=λi hi=>by
     unfold Heap.dom AD
     obtain⟨o,ho⟩:=Option.isSome_iff_exists.1 hi
     rw[ho];simp
    have hcall:=FnT.at hfn ρ r ok1 (HK H' fz) (λi h3 h4=>Ta fz (hfresh i h3 h4)) hk.heap (vs:=vs)
     ⟨by rw[ha.1,Ch h1],λj x y hx hy=>by
      obtain⟨x',hx',hs⟩:=Ca h1 hx
      exact Sm hF hdom _ _ _ hs (ha.2 j _ y hx' hy)⟩
     (λi o ho=>by
      obtain⟨o',h3,h4⟩:=L7 h2 i o (Zg ho)
      rw[<-uS (H:=H) (H':=H') fz (ρ i) hnd hfz λ_=>hL i o ho] at h3
      exact⟨⟨o',h3⟩,dA hF hdom h4 (hH.obj _ _ (Ox fz h3))⟩)
    refine Calls.mono hcall λe w' hh=>?_
    obtain⟨v,rfl,B2,ι2,h3,h4⟩:=hh
    rw[AJR,F7 fz H' hnd λi hi=>by rw[hfz i hi];exact ok3 i hi]
    -- what the caller knows of the objects that are only read
    have hK:HK H' fz=HK H' fz:=rfl
    have hemb:=ok1
    simp only[AKD,Bool.and_eq_true,List.all_eq_true] at hemb
    obtain⟨⟨⟨⟨⟨_,_⟩,e3⟩,e4⟩,_⟩,e6⟩:=hemb
    have hnk:=YG e6
    have hnw:((C.keepW a).map λx=>ρ x.1).Nodup:=(List.Sublist.map (λx:Nat×HCell=>ρ x.1) List.filter_sublist).nodup hnk
    have in1:∀i c,(i,c)∈C.keep a->KP (HK H' fz) (Np ρ (C.keep a)) (ρ i)=renC ρ c:=λi c hi=>We _ hnk hi
    have in2:∀i c,(i,c)∈C.keep a->¬ i∈C.ro->KP (HK H' fz) (Np ρ (C.keepW a)) (ρ i)=renC ρ c:=λi c hi hn=>We _ hnw (List.mem_filter.2 ⟨hi,by simpa using hn⟩)
    have out1:∀j,(∀i c,(i,c)∈C.keep a->ρ i≠j)->KP (HK H' fz) (Np ρ (C.keep a)) j=HK H' fz j:=λj hj=>Jh _ _ _ (by
     rw[ASB];intro hm
     obtain⟨⟨i,c⟩,q1,q2⟩:=List.mem_map.1 hm
     exact hj i c q1 q2)
    have out2:∀j,(∀i c,(i,c)∈C.keep a->¬ i∈C.ro->ρ i≠j)->KP (HK H' fz) (Np ρ (C.keepW a)) j=HK H' fz j:=λj hj=>Jh _ _ _ (by
     rw[ASB];intro hm
     obtain⟨⟨i,c⟩,q1,q2⟩:=List.mem_map.1 hm
     obtain⟨q3,q4⟩:=List.mem_filter.1 q1
     exact hj i c q3 (by simpa using q4) q2)
    have inro:∀i c,(i,c)∈C.keep a->i∈C.ro->∃o' o,HK H' fz (ρ i)=.live o'/\c=.live o/\KP (HK H' fz) (Np ρ (C.keepW a)) (ρ i)=.live o'/\IM (jB noF (λj=>j) (λj=>(C.L a).any λx=>Nat.beq (ρ x.1) j) o' (renO ρ o)):=λi c hi hr=>by
     obtain⟨o',o,q1,q2,q3,q4⟩:=U9 hro i c hi hr
     obtain⟨oL,hoL⟩:=Option.isSome_iff_exists.1 q3
     have q5:HK H' fz (ρ i)=.live o':=by rw[uS (H:=H) (H':=H') fz (ρ i) hnd hfz λ_=>hL i oL hoL];exact q1
     refine⟨o',o,q5,q2,?_,q4⟩
     rw[out2]
     ·exact q5
     ·intro i' c' hi' hn' he
      exact hn' ((P0 hnk hi' hi he).1 ▸ hr)
    have caseJ:∀j,(∃i c,(i,c)∈C.keep a/\ρ i=j)∨(∀i c,(i,c)∈C.keep a->ρ i≠j):=λj=>by
     by_cases hj:∃i c,(i,c)∈C.keep a/\ρ i=j
     ·exact .inl hj
     ·exact .inr λi c h1 h2=>hj ⟨i,c,h1,h2⟩
    have DP:∀j,(KP (HK H' fz) (Np ρ (C.keepW a))).dom j↔(KP (HK H' fz) (Np ρ (C.keep a))).dom j:=λj=>by
     rcases caseJ j with⟨i,c,hi,rfl⟩ | hn
     ·have hcn:renC ρ c≠.none:=by
       have:=(e4 (i,c) hi).1.1
       cases c<;>simp[renC,AAN] at this ⊢
      by_cases hr:i∈C.ro
      ·obtain⟨o',o,_,q2,q3,_⟩:=inro i c hi hr
       unfold Heap.dom;rw[q3,in1 i c hi];simp[hcn]
      ·unfold Heap.dom;rw[in1 i c hi,in2 i c hi hr]
     ·unfold Heap.dom;rw[out1 j hn,out2 j λi c hi _=>hn i c hi]
    have hF2:uT B2 B2 ι2 noF:=⟨λ_ _ h=>h,λid k m get h=>by cases h⟩
    have hpd:∀j,((C.L a).any λx=>Nat.beq (ρ x.1) j)=true->(KP (HK H' fz) (Np ρ (C.keepW a))).dom j:=λj hj=>by
     obtain⟨⟨i,o⟩,q1,q2⟩:=List.any_eq_true.1 hj
     have q2:ρ i=j:=Nat.eq_of_beq_eq_true q2
     obtain⟨c,hcm⟩:=Option.isSome_iff_exists.1 (by
      have:=e3 (i,o) q1
      exact this.1)
     rw[DP,<-q2]
     unfold Heap.dom;rw[in1 i c (Ae hcm)]
     have:=(e4 (i,c) (Ae hcm)).1.1
     cases c<;>simp[renC,AAN] at this ⊢
    have h3':Moved B' ι (HK H' fz) w B2 ι2 (KP (HK H' fz) (Np ρ (C.keepW a))) w':=by
     refine h3.weakH DP λj o hj=>?_
     rcases caseJ j with⟨i,c,hi,rfl⟩ | hn
     ·by_cases hr:i∈C.ro
      ·obtain⟨o',o2,_,q2,q3,q4⟩:=inro i c hi hr
       rw[q3] at hj
       cases hj
       refine⟨renO ρ o2,by rw[in1 i c hi,q2];rfl,λx hx=>dA (ι:=ι2) (ρ:=λj=>j) hF2 hpd q4 hx⟩
      ·rw[in2 i c hi hr] at hj
       exact⟨o,by rw[in1 i c hi];exact hj,λx hx=>hx.mono (λ_ _ h=>h) λi hi=>⟨(DP i).2 hi,rfl⟩⟩
     ·rw[out2 j λi c hi _=>hn i c hi] at hj
      exact⟨o,by rw[out1 j hn];exact hj,λx hx=>hx.mono (λ_ _ h=>h) λi hi=>⟨(DP i).2 hi,rfl⟩⟩
    exact⟨v,rfl,B2,ι2,hk.trans h3',h4.mono (λ_ _ h=>h) λi hi=>⟨(DP i).2 hi,rfl⟩⟩
   ·cases hx
  ·cases hx
def look:List (FuncId×Spec)->FuncId->Option Spec
 |[],_=>none
 |(g,s) :: r,f=>if Nat.beq g f then some s else look r f
theorem AE:GOk P (look []):=λ_ _ h=>by cases h
theorem AC{f:FuncId}{t:Spec}{r:List (FuncId×Spec)}(h:AJ P f t)(hr:GOk P (look r)):GOk P (look ((f,t) :: r)):=λg s hs=>by
 simp only[look] at hs
 split at hs
 ·rename_i he
  cases hs
  have:=Nat.eq_of_beq_eq_true he
  subst this
  exact h
 ·exact hr g s hs
end Go.Sym
