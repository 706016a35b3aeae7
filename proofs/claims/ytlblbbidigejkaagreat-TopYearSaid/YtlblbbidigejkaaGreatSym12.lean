/- A region whose appends are told apart, one by one. -/
import Derived.Test.YtlblbbidigejkaaGreatSym11
import Derived.Maps.RangeRun
set_option linter.unusedVariables false
set_option linter.unusedSimpArgs false
namespace Go.Sym
variable {P : Program} {B B' : Ft} {ι ι' : Nat -> Pl} {H H' : Heap} {D : Nat -> Prop} {w w' : World} {c : Ctx} {σ : AState} {Q : Exit -> AState -> Prop}
theorem Rel.frz{a:Act}{id kk n n2:Nat}{get:Nat->DVal}{dst:Option Tmp}(h:Rel c B ι σ a w)(hid:σ.H id=.live (.row kk n2 get))(hv:∀d,dst=some d->σ.sl d=.own id kk 0 n)(hn:n=n2) :
  ∃B',Rel c B' ι ⟨Tk σ.sl dst (.d (.list kk n get false)),EC σ.H id .dead⟩ a w:=by
 obtain⟨B',hm,hF⟩:=WC [id] h.mv.heap
 have hk:EW σ.H [id]=EC σ.H id .dead:=by simp only[EW,hid]
 rw[hk] at hm
 have hf:PW σ.H [id] id=some (kk,n2,get):=by simp[PW,hid]
 refine⟨B',⟨λt=>?_,h.size,?_,h.mv.trans hm⟩⟩
 ·simp only[R1]
  split
  ·rename_i hd
   have:=h.slots t
   rw[hv t hd] at this
   exact .d (AQQ hF hf rfl (by omega) (λj _=>by rw[Nat.zero_add];exact Ru _) this)
  ·exact hm.vrel (h.slots t)
 ·obtain⟨Ds,h1,h0,h2,h3⟩:=h.defers
  exact⟨Ds,h1,h0,h2,λD hD=>⟨(h3 D hD).1,(h3 D hD).2.moved hm⟩⟩
def AEU(P:Program)(Γ:FuncId->Option Spec)(mt:Bool)(ops:Array Oper)(r:Nat)(o:Oper)(σ:AState)(K:AState->Prop):Prop:=match AKW P Γ mt ops r σ o with
 |some s=>cC (lV σ.sl o ++ s.pre) (K (σ.app o.dst s.val s.upd))
 |none=>False
def CSZ(P:Program)(Γ:FuncId->Option Spec)(ops:Array Oper)(r:Nat)(o:Oper)(σ:AState)(K:AState->Prop):Prop:=match AKW P Γ true ops r σ o with
 |some s=>match o.dst,s.val with
  |some d,.own id kk 0 n=>match DV σ.H s.upd id with
   | .live (.row k2 n2 get)=>if Nat.beq kk k2 then cC (lV σ.sl o ++ (s.pre ++ [n=n2])) (K ⟨Tk σ.sl (some d) (.d (.list kk n get false)),EC (DV σ.H s.upd) id .dead⟩) else False
   |_=>False
  |_,_=>False
 |none=>False
def CSS(P:Program)(r:Nat)(o:Oper)(σ:AState)(K:AState->Prop):Prop:=match o.op with
 | .lookup t m ix true=>match CHY P σ.H t (AX σ.sl m) (AX σ.sl ix) with
  |some (b,d,z,p)=>cC p (bif b then K (σ.app o.dst (.d (.tup [d,.bool true])) []) else K (σ.app o.dst (.d (.tup [ofV z,.bool false])) []))
  |none=>False
 |_=>False
def CSQ(P:Program)(r:Nat)(o:Oper)(σ:AState)(K:AState->Prop):Prop:=match o.op with
 | .buildSlice t len ps=>match VZ P r t len (ps.toList.map λp=>(p.1,AX σ.sl p.2)) with
  |some ⟨_,[(_,.live (.row k n get))],_⟩=>K (σ.app o.dst (.d (.list k n get true)) [])
  |_=>False
 |_=>False
def BNY(P:Program)(r:Nat)(o:Oper)(σ:AState)(K:AState->Prop):Prop:=match o.op with
 | .range t m=>match vT P t,dI σ.H (AX σ.sl m),σ.H r with
  |some _,some (id,_,_,has,_,st,none),.none=>K (σ.app o.dst (.bptr r 0) [(r,.live (.miter id has st (λ_=>false) none))])
  |_,_,_=>False
 |_=>False
def CAB(o:Oper)(σ:AState)(K:AState->Prop):Prop:=match o.op with
 | .next it false=>match AX σ.sl it with
  | .bptr id 0=>match σ.H id with
   | .live (.miter m hs st seen _)=>match σ.H m with
    | .live (.imap (.int q) _ has get st' none)=>(∀n,hs n=has n)/\(∀n,st n=st' n)/\((∀n,has n=true->seen n=true)->K (σ.app o.dst (.d (.tup [.v (.bool false)])) [])) /\
      ∀k,has k=true->seen k=false->K (σ.app o.dst (.d (.tup [.v (.bool true),.v (.int q k),get k])) [(id,.live (.miter m hs st (λj=>decide (j=k)||seen j) (some k)))])
    |_=>False
   |_=>False
  |_=>False
 |_=>False
def CER(o:Oper)(σ:AState)(K:AState->Prop):Prop:=match o.op with
 | .entry it=>match AX σ.sl it with
  | .bptr id 0=>match σ.H id with
   | .live (.miter m hs st _ (some k))=>match σ.H m with
    | .live (.imap (.int q) _ has get st' none)=>(∀n,hs n=has n)/\(∀n,st n=st' n)/\K (σ.app o.dst (.d (.tup [.v (.int q k),get k])) [])
    |_=>False
   |_=>False
  |_=>False
 |_=>False
def refA(ops:Array Oper)(sl:Nat->AVal)(j:Nat)(b:Bool):Nat->AVal:=match (ops[j]?).bind (·.dst) with
 |some t=>match sl t with
  | .d (.v (.bool _))=>Tk sl (some t) (.bool b)
  |_=>sl
 |none=>sl
theorem AOV(ops:Array Oper)(sl:Nat->AVal)(j:Nat)(b:Bool):refA ops sl j b=sl∨∃t b1,(ops[j]?).bind (·.dst)=some t/\sl t=.d (.v (.bool b1))/\refA ops sl j b=Tk sl (some t) (.bool b):=by
 unfold refA
 split
 ·rename_i t ht
  split
  ·rename_i b1 hb;exact .inr ⟨t,b1,ht,hb,rfl⟩
  ·exact .inl rfl
 ·exact .inl rfl
theorem BFS{ops:Array Oper}{sl:Nat->AVal}{j:Nat}{want g:Bool}(h:DF ops sl j want=some g)(t':Nat){v:Value}(hv:VRel B ι D (sl t') v):VRel B ι D (refA ops sl j (if g then want else !want) t') v:=by
 rcases AOV ops sl j (if g then want else !want) with e | ⟨t,b1,ht,hb,e⟩
 ·rw[e];exact hv
 ·rw[e]
  unfold DF at h
  rw[ht] at h
  simp only[hb] at h
  by_cases he:t'=t
  ·subst he
   rw[hb] at hv
   have e2:(if g=true then want else !want)=b1:=by
    cases want<;>simp only[Option.some.injEq] at h<;>subst h<;>cases b1<;>rfl
   rw[e2]
   simpa[Tk] using hv
  ·simpa[Tk,he] using hv
theorem APV{ops:Array Oper}{sl:Nat->AVal}{j:Nat}{want g:Bool}(h:DF ops sl j want=some g):DF ops (refA ops sl j (if g then want else !want)) j want=some g:=by
 rcases AOV ops sl j (if g then want else !want) with e | ⟨t,b1,ht,hb,e⟩
 ·rw[e];exact h
 ·rw[e]
  unfold DF
  rw[ht]
  simp only[Tk,if_true]
  cases want<;>cases g<;>rfl
def lJ(P:Program)(Γ:FuncId->Option Spec)(md:Nat->Nat)(ops:Array Oper)(base n:Nat)(K:AState->Prop):List Oper->Nat->AState->Prop
 |[],_,σ=>K σ
 |o :: l,k,σ=>if AOK n o then match o.guard with
   |none=>match md k with
    |0=>AEU P Γ false ops (base+16*k) o σ (lJ P Γ md ops base n K l (k+1))
    |1=>AEU P Γ true ops (base+16*k) o σ (lJ P Γ md ops base n K l (k+1))
    |3=>CSS P (base+16*k) o σ (lJ P Γ md ops base n K l (k+1))
    |4=>CSQ P (base+16*k) o σ (lJ P Γ md ops base n K l (k+1))
    |5=>BNY P (base+16*k) o σ (lJ P Γ md ops base n K l (k+1))
    |6=>CAB o σ (lJ P Γ md ops base n K l (k+1))
    |7=>CER o σ (lJ P Γ md ops base n K l (k+1))
    |_=>CSZ P Γ ops (base+16*k) o σ (lJ P Γ md ops base n K l (k+1))
   |some (j,want)=>match DF ops σ.sl j want with
    |some g=>match md k with
     |8=>cC [g=true] (AEU P Γ false ops (base+16*k) { o with guard:=none } σ (lJ P Γ md ops base n K l (k+1)))
     |9=>cC [g=false] (lJ P Γ md ops base n K l (k+1) (σ.app o.dst (.opt false (.d (.v (.bool false)))) []))
     |10=>bif g then AEU P Γ false ops (base+16*k) { o with guard:=none } ⟨refA ops σ.sl j want,σ.H⟩ (lJ P Γ md ops base n K l (k+1)) else lJ P Γ md ops base n K l (k+1) (AState.app ⟨refA ops σ.sl j (!want),σ.H⟩ o.dst (.opt false (.d (.v (.bool false)))) [])
     |_=>AEU P Γ false ops (base+16*k) o σ (lJ P Γ md ops base n K l (k+1))
    |none=>False
  else False
theorem ALV{Γ:FuncId->Option Spec}(hΓ:GOk P Γ){mt:Bool}{ops:Array Oper}{r:Nat}{o:Oper}{K:AState->Prop}(h:AEU P Γ mt ops r o σ K):∃s:Stp,StepO P mt ops r σ o s.val s.upd s.touch/\K (σ.app o.dst s.val s.upd):=by
 unfold AEU at h
 split at h
 ·rename_i s hs
  obtain⟨h1,h2⟩:=IG h
  obtain⟨h3,h4⟩:=BE h1
  exact⟨s,dK hΓ hs h4 λ_=>h3,h2⟩
 ·exact h.elim
theorem Rel.plain{ops:Array Oper}{o:Oper}{a:Act}{v:AVal}{y:Value}{w':World}{K:Act->World->Prop}{Q:Exit->Act->World->Prop}(h:Rel c B ι σ a w)(hg:o.guard=none)(hdst:∀d,o.dst=some d->d<c.n)(hrun:Runs P a.eval o w y w')(hd:OZ B ι σ.H w (DV σ.H []) v y w')
  (hK:∀B' ι' a' w',Rel c B' ι' (σ.app o.dst v []) a' w'->K a' w'):if Region.wanted o (yielded ops a.tmps) then o.wpIn (xH c.rd) 0 P a w K Q else (∀f,o.about P w a.eval=some f->(xH c.rd).fn f)/\K (a.put o.dst undef) w:=by
 simp only[Region.wanted,hg,if_true]
 obtain⟨B',ι',hR'⟩:=h.app hd hdst
 refine⟨SR o a _,?_⟩
 rw[Oper.semAt_eq _ _ _ hrun.not_defer]
 rcases hrun with hrun | ⟨hrun,rfl⟩
 ·rw[hrun];exact hK B' ι' _ _ hR'
 ·rw[hrun];exact hK B' ι' _ _ hR'
theorem Rel.plainU{ops:Array Oper}{o:Oper}{a:Act}{v:AVal}{y:Value}{w':World}{u:List (Nat×HCell)}{K:Act->World->Prop}{Q:Exit->Act->World->Prop}(h:Rel c B ι σ a w)(hg:o.guard=none)(hdst:∀d,o.dst=some d->d<c.n)(hrun:Runs P a.eval o w y w')(hd:OZ B ι σ.H w (DV σ.H u) v y w')
  (hK:∀B' ι' a' w',Rel c B' ι' (σ.app o.dst v u) a' w'->K a' w'):if Region.wanted o (yielded ops a.tmps) then o.wpIn (xH c.rd) 0 P a w K Q else (∀f,o.about P w a.eval=some f->(xH c.rd).fn f)/\K (a.put o.dst undef) w:=by
 simp only[Region.wanted,hg,if_true]
 obtain⟨B',ι',hR'⟩:=h.app hd hdst
 refine⟨SR o a _,?_⟩
 rw[Oper.semAt_eq _ _ _ hrun.not_defer]
 rcases hrun with hrun | ⟨hrun,rfl⟩
 ·rw[hrun];exact hK B' ι' _ _ hR'
 ·rw[hrun];exact hK B' ι' _ _ hR'
theorem CQZ{D:Nat->Prop}{id:Nat}{v:Value}(h:VRel B ι D (.bptr id 0) v):v=.pointer (some ⟨(ι id).b,0,none⟩):=by cases h;rfl
theorem MapIs.free{q:KeyK}{z:Value}{hs:Int->Bool}{get:Int->DVal}{st:Int->Int}{es:Array MapEntry}{clock:Nat}(hM:MapIs B q z hs get st es clock):∃M,hs M=false:=by
 have bound:∀l:List MapEntry,(∀e∈l,∃n,e.key=q.val n)->∃M:Int,∀e∈l,∀n,e.key=q.val n->n<M:=by
  intro l
  induction l with
  |nil=>intro _;exact⟨0,λe he=>by cases he⟩
  |cons x l ih=>
   intro hl
   obtain⟨M,hM⟩:=ih λe he=>hl e (List.mem_cons_of_mem _ he)
   obtain⟨n,hn⟩:=hl x (by simp)
   refine⟨max M (n+1),λe he n' hn'=>?_⟩
   rcases List.mem_cons.1 he with rfl | he
   ·rw[hn] at hn';cases KeyK.val_inj hn';omega
   ·have:=hM e he n' hn';omega
 obtain⟨M,hM'⟩:=bound es.toList λe he=>by
  obtain⟨i,hi⟩:=List.mem_iff_getElem?.1 he
  rw[Array.getElem?_toList] at hi
  obtain⟨n,hn,_⟩:=hM.keys i e hi
  exact⟨n,hn⟩
 refine⟨M,?_⟩
 cases hc:hs M with
 |false=>rfl
 |true=>
  obtain⟨i',e',k1,k2⟩:=hM.met M hc
  have:=hM' e' (by simpa using Array.mem_of_getElem? k1) M k2
  omega
theorem BED{r:Nat}{o:Oper}{K:AState->Prop}{a:Act}(h:BNY P r o σ K)(hR:Rel c B ι σ a w):∃y w' v u,Runs P a.eval o w y w'/\OZ B ι σ.H w (DV σ.H u) v y w'/\K (σ.app o.dst v u):=by
 unfold BNY at h
 split at h
 case h_2=>exact h.elim
 rename_i t m ho
 split at h
 case h_2=>exact h.elim
 rename_i qz id q z has get st ht hm hr
 obtain⟨k,e,hu,_,_⟩:=Bb ht
 obtain⟨hid,hv,es,clock,hb,hM⟩:=bB hm (HS hR.slots m) hR.mv.heap
 have hd:σ.H.dom id:=by unfold Heap.dom;rw[hid];simp
 have hlt:∀n,has n=true->st n<clock:=λn hn=>by
  obtain⟨i,e,h1,h2⟩:=hM.met n hn
  obtain⟨n',h3,_,h5,h6,_⟩:=hM.keys i e h1
  rw[h2] at h3;cases KeyK.val_inj h3
  omega
 have hne:id≠r:=λhe=>by rw[he,hr] at hid;cases hid
 refine⟨.pointer (some ⟨w.heap.size,0,none⟩),w.alloc (.mapIter (some (ι id).b) clock #[] clock),.bptr r 0,[(r,.live (.miter id has st (λ_=>false) none))],.inl ?_,⟨B,Tj ι r ⟨w.heap.size,0⟩,Moved.new hR.mv.heap hr (q:=0) ?_,?_⟩,h⟩
 ·simp[execOp,ho,hv,Instr.range,run_underlying hu,HU hb,newObj,Sem.run]
 ·have:=ORel.miter (B:=B) (ι:=Tj ι r ⟨w.heap.size,0⟩) (D:=(EC σ.H r (.live (.miter id has st (λ_=>false) none))).dom) (q:=0) (m:=id) (hs:=has) (st:=st) (seen:=λ_=>false) (cur:=none) (since:=clock) (stepped:=clock) (sn:=#[])
   (by unfold Heap.dom;rw[HL _ _ hne];exact hd) (Nat.le_refl _) (λn=>⟨hlt n,λhn=>by rw[(hM.miss n hn).2];exact Int.le_refl _⟩) (λn hn=>by cases hn) (λk=>by simp) (λk hk=>by cases hk)
  rw[Jx _ _ hne] at this;exact this
 ·have:=VRel.bptr (B:=B) (ι:=Tj ι r ⟨w.heap.size,0⟩) (D:=(EC σ.H r (.live (.miter id has st (λ_=>false) none))).dom) (id:=r) (c:=0) (dW _)
  rw[EI] at this;exact this
theorem AWR{id m:Nat}{hs:Int->Bool}{st:Int->Int}{seen:Int->Bool}{cur:Option Int}(hid:σ.H id=.live (.miter m hs st seen cur))(hH:HRel B ι σ.H w):∃since stepped sn,w.heap[(ι id).b]?=some (.mapIter (some (ι m).b) since sn stepped)/\σ.H.dom m/\since<=stepped/\(∀n:Int,(hs n=true->st n<since)/\(hs n=false->(since:Int)<=st n)) /\
  (∀n:Int,seen n=true->hs n=true)/\(∀k:Nat,sn.contains k=true↔∃n:Int,seen n=true/\st n=k)/\∀k:Int,cur=some k->hs k=true/\(∀n:Int,hs n=false->st n=stepped)/\∃(sn':Array Nat) (b:Nat),sn=sn'.push b/\st k=b:=by
 have ho:=hH.obj _ _ hid
 generalize hq:w.heap[(ι id).b]?=x at ho
 cases ho with
 |miter hD h1 h2 h3 h4 h5=>exact⟨_,_,_,rfl,hD,h1,h2,h3,h4,h5⟩
theorem BGF{o:Oper}{K:AState->Prop}{a:Act}(h:CAB o σ K)(hR:Rel c B ι σ a w):∃y w' v u,Runs P a.eval o w y w'/\OZ B ι σ.H w (DV σ.H u) v y w'/\K (σ.app o.dst v u):=by
 unfold CAB at h
 split at h
 case h_2=>exact h.elim
 rename_i it ho
 split at h
 case h_2=>exact h.elim
 rename_i id hit
 split at h
 case h_2=>exact h.elim
 rename_i m hs st seen cur hid
 split at h
 case h_2=>exact h.elim
 rename_i q z has get st' hmm
 obtain⟨e1,e2,hK1,hK2⟩:=h
 obtain rfl:hs=has:=funext e1
 obtain rfl:st=st':=funext e2
 have hv:=HS hR.slots it
 rw[hit] at hv
 have hv:=CQZ hv
 have hH:=hR.mv.heap
 obtain⟨since,stepped,sn,hi,hD,s1,s2,s3,s4,s5⟩:=AWR hid hH
 have hob:=hH.obj _ _ hmm
 generalize hq:w.heap[(ι m).b]?=x at hob
 cases hob with
 |imap hM=>
 rename_i es clock
 have hold:∀x∈es.toList,x.born<since:=λx hx=>by
  obtain⟨i,hi,rfl⟩:=List.getElem_of_mem hx
  obtain⟨n,_,h2,_,h4,_⟩:=hM.keys i es[i] (by simp at hi;simp[hi])
  have:=(s2 n).1 h2
  simp only[Array.getElem_toList];omega
 rcases run_next_at (P:=P) w o.type (ι id).b (ι m).b since stepped sn es clock hi hq hold s1 with⟨h0,hrun⟩ | ⟨e,he,w1,hw1,hrun⟩
 ·refine⟨.tuple #[.bool false],w,_,[],.inl (by simp[execOp,ho,hv,hrun,Result.andThen]),⟨B,ι,Moved.refl hH,.d (.tup rfl λj x y hx hy=>?_)⟩,hK1 λn hn=>?_⟩
  ·match j with
   |0=>simp at hx hy;subst hx;subst hy;exact .v _
   |j+1=>simp at hx
  ·obtain⟨i,e,h1,h2⟩:=hM.met n hn
   obtain⟨n',h3,_,_,h6,_⟩:=hM.keys i e h1
   rw[h2] at h3;cases h3
   have hc:sn.contains e.born=true:=by
    cases hc:sn.contains e.born with
    |true=>rfl
    |false=>
     have:e∈leftOf es sn:=by
      unfold leftOf
      rw[Array.mem_filter]
      exact⟨Array.mem_of_getElem? h1,by rw[hc];rfl⟩
     have:=Array.size_pos_of_mem this
     omega
   obtain⟨n',g1,g2⟩:=(s4 e.born).1 hc
   obtain⟨i',e',k1,k2⟩:=hM.met n' (s3 n' g1)
   obtain⟨n2,k3,_,_,k6,_⟩:=hM.keys i' e' k1
   rw[k2] at k3;cases k3
   have:=hM.once i i' e e' h1 k1 (.inr (by omega))
   subst this
   rw[h1] at k1;cases k1
   rw[h2] at k2;cases k2
   exact g1
 ·have hem:e∈es.toList/\sn.contains e.born=false:=by
   unfold leftOf at he
   simp only[Array.toList_filter,List.mem_filter,Bool.not_eq_true'] at he
   exact he
  obtain⟨i,hi',hei⟩:=List.getElem_of_mem hem.1
  have h1:es[i]?=some e:=by rw[<-hei];simp at hi';simp[hi']
  obtain⟨k,h2,h3,h4,h5,h6⟩:=hM.keys i e h1
  have hsk:seen k=false:=by
   cases hc:seen k with
   |false=>rfl
   |true=>rw[(s4 e.born).2 ⟨k,hc,h5.symm⟩] at hem;exact absurd hem.2 (by simp)
  have mv1:Moved B ι σ.H w B ι σ.H w1:=by
   rcases hw1 with rfl | rfl
   ·exact Moved.refl hH
   ·exact Moved.drew hH _
  refine⟨.tuple #[.bool true,e.key,e.val],_,_,_,.inl (by simp[execOp,ho,hv,hrun,Result.andThen];rfl),?_,hK2 k h3 hsk⟩
  have ht:=Moved.turn (o:=.miter m hs st (λj=>decide (j=k)||seen j) (some k)) mv1.heap hid (x:=.mapIter (some (ι m).b) since (sn.push e.born) clock) (.miter (by
    unfold Heap.dom EC;split
    ·simp
    ·exact hD) (by
    obtain⟨M,hM0⟩:=hM.free
    have:=(s2 M).2 hM0
    have:=(hM.miss M hM0).2
    omega) s2 (λn hn=>by
    simp only[Bool.or_eq_true,decide_eq_true_eq] at hn
    rcases hn with rfl | hn
    ·exact h3
    ·exact s3 n hn) (λb=>by
    rw[Array.contains_push]
    simp only[Bool.or_eq_true,beq_iff_eq,s4 b,decide_eq_true_eq]
    constructor
    ·rintro (⟨n,g1,g2⟩ | rfl)
     ·exact⟨n,.inr g1,g2⟩
     ·exact⟨k,.inl rfl,h5.symm⟩
    ·rintro⟨n,rfl | g1,g2⟩
     ·right;omega
     ·exact .inl ⟨n,g1,g2⟩) λk' hk'=>by
    cases hk'
    exact⟨h3,λn hn=>(hM.miss n hn).2,sn,e.born,rfl,h5.symm⟩)
  refine⟨B,ι,mv1.trans ht,.d (.tup rfl λj x y hx hy=>?_)⟩
  match j with
  |0=>simp at hx hy;subst hx;subst hy;exact .v _
  |1=>simp at hx hy;subst hx;subst hy;rw[h2];exact .v _
  |2=>simp at hx hy;subst hx;subst hy;exact h6
  |j+3=>simp at hx
theorem BIE{o:Oper}{K:AState->Prop}{a:Act}(h:CER o σ K)(hR:Rel c B ι σ a w):∃y w' v u,Runs P a.eval o w y w'/\OZ B ι σ.H w (DV σ.H u) v y w'/\K (σ.app o.dst v u):=by
 unfold CER at h
 split at h
 case h_2=>exact h.elim
 rename_i it ho
 split at h
 case h_2=>exact h.elim
 rename_i id hit
 split at h
 case h_2=>exact h.elim
 rename_i m hs st seen k hid
 split at h
 case h_2=>exact h.elim
 rename_i q z has get st' hmm
 obtain⟨e1,e2,hK⟩:=h
 obtain rfl:hs=has:=funext e1
 obtain rfl:st=st':=funext e2
 have hv:=HS hR.slots it
 rw[hit] at hv
 have hv:=CQZ hv
 have hH:=hR.mv.heap
 obtain⟨since,stepped,sn,hi,hD,s1,s2,s3,s4,s5⟩:=AWR hid hH
 obtain⟨h3,hmiss,sn',b,rfl,hb⟩:=s5 k rfl
 have hob:=hH.obj _ _ hmm
 generalize hq:w.heap[(ι m).b]?=x at hob
 cases hob with
 |imap hM=>
 rename_i es clock
 obtain⟨i,e,h1,h2⟩:=hM.met k h3
 obtain⟨n',g1,_,_,h5,h6⟩:=hM.keys i e h1
 rw[h2] at g1;cases g1
 have hcl:stepped=clock:=by
  obtain⟨M,hno⟩:=hM.free
  have a1:=hmiss M hno
  have a2:=(hM.miss M hno).2
  omega
 subst hcl
 obtain rfl:b=e.born:=by omega
 have hnd:(es.toList.map (·.born)).Nodup:=by
  rw[List.nodup_iff_pairwise_ne,List.pairwise_map,List.pairwise_iff_getElem]
  intro i j hi hj hij he
  have:=hM.once i j es[i] es[j] (by simp at hi;simp[hi]) (by simp at hj;simp[hj]) (.inr (by simpa using he))
  omega
 have hrun:=run_entry_at (P:=P) w (ι id).b (ι m).b since sn' es stepped e hi hq (by simpa using Array.mem_of_getElem? h1) hnd
 refine⟨.tuple #[e.key,e.val],w,_,[],.inl (by simp[execOp,ho,hv,hrun,Result.andThen]),⟨B,ι,Moved.refl hH,.d (.tup rfl λj x y hx hy=>?_)⟩,hK⟩
 match j with
 |0=>simp at hx hy;subst hx;subst hy;rw[h2];exact .v _
 |1=>simp at hx hy;subst hx;subst hy;exact h6
 |j+2=>simp at hx
theorem RG{Γ:FuncId->Option Spec}(hΓ:GOk P Γ){md:Nat->Nat}{ops:Array Oper}{base:Nat}:∀(l:List Oper) (k:Nat) (σ:AState),lJ P Γ md ops base c.n (Q .normal) l k σ->∀B ι a w,Rel c B ι σ a w ->
  wpListIn (xH c.rd) 0 P ops (λe a' w'=>∃B' ι' σ',Q e σ'/\Rel c B' ι' σ' a' w') l a w
 |[],_,σ,h,B,ι,_,_,hR=>⟨B,ι,σ,h,hR⟩
 |o :: l,k,σ,h,B,ι,a,w,hR=>by
  unfold lJ at h
  split at h
  case isFalse=>exact h.elim
  rename_i hc
  have hd:=Sb hc
  have step:∀{mt:Bool},AEU P Γ mt ops (base+16*k) o σ (lJ P Γ md ops base c.n (Q .normal) l (k+1))->wpListIn (xH c.rd) 0 P ops (λe a' w'=>∃B' ι' σ',Q e σ'/\Rel c B' ι' σ' a' w') (o :: l) a w:=λh=>by
   obtain⟨s,h1,h2⟩:=ALV hΓ h
   exact h1.sound hR hd λB' ι' a' w' hR'=>RG hΓ l (k+1) _ h2 B' ι' a' w' hR'
  have met:∀{σ:AState},Rel c B ι σ a w->∀{j:Nat} {want:Bool},o.guard=some (j,want)->DF ops σ.sl j want=some true->AEU P Γ false ops (base+16*k) { o with guard:=none } σ (lJ P Γ md ops base c.n (Q .normal) l (k+1))->wpListIn (xH c.rd) 0 P ops (λe a' w'=>∃B' ι' σ',Q e σ'/\Rel c B' ι' σ' a' w') (o :: l) a w:=λ{σ} hR {j} {want} hgd hgA hk=>by
   obtain⟨s,h1,h2⟩:=ALV hΓ hk
   have hw:=Cy hgd hgA hR.slots
   unfold wpListIn
   show if Region.wanted o (yielded ops a.tmps) then _ else _
   rw[hw]
   have:=h1.sound (Q:=(λe a' w'=>∃B' ι' σ',Q e σ'/\Rel c B' ι' σ' a' w')) hR hd λB' ι' a' w' hR'=>RG hΓ l (k+1) _ h2 B' ι' a' w' hR'
   simp only[Region.wanted,if_true] at this
   rw[if_pos rfl]
   exact this
  have unmet:∀{σ:AState},Rel c B ι σ a w->∀{j:Nat} {want:Bool},o.guard=some (j,want)->DF ops σ.sl j want=some false->lJ P Γ md ops base c.n (Q .normal) l (k+1) (σ.app o.dst (.opt false (.d (.v (.bool false)))) [])->wpListIn (xH c.rd) 0 P ops (λe a' w'=>∃B' ι' σ',Q e σ'/\Rel c B' ι' σ' a' w') (o :: l) a w:=λ{σ} hR {j} {want} hgd hgA hk=>by
   have hw:=Cy hgd hgA hR.slots
   unfold wpListIn
   show if Region.wanted o (yielded ops a.tmps) then _ else _
   rw[hw,if_neg (by simp)]
   obtain⟨B',ι',hR'⟩:=hR.app (dst:=o.dst) (v:=.opt false (.d (.v (.bool false)))) (y:=undef) (u:=[]) ⟨B,ι,Moved.refl hR.mv.heap,.opt (λh=>by cases h) (λ_=>rfl)⟩ hd
   exact⟨SR o a _,RG hΓ l (k+1) _ hk B' ι' _ _ hR'⟩
  split at h
  case h_2=>
   rename_i j want hgd
   split at h
   case h_2=>exact h.elim
   rename_i g hgA
   split at h
   ·obtain⟨hgt,hk⟩:=IG h
    have hgt:g=true:=hgt
    subst hgt
    exact met hR hgd hgA hk
   ·obtain⟨hgt,hk⟩:=IG h
    have hgt:g=false:=hgt
    subst hgt
    exact unmet hR hgd hgA hk
   ·cases g with
    |true=>exact met (σ:=⟨refA ops σ.sl j want,σ.H⟩) ⟨λt=>BFS (g:=true) hgA t (hR.slots t),hR.size,hR.defers,hR.mv⟩ hgd (APV (g:=true) hgA) h
    |false=>exact unmet (σ:=⟨refA ops σ.sl j (!want),σ.H⟩) ⟨λt=>BFS (g:=false) hgA t (hR.slots t),hR.size,hR.defers,hR.mv⟩ hgd (APV (g:=false) hgA) h
   ·exact step h
  rename_i hg
  split at h
  ·exact step h
  ·exact step h
  ·unfold CSS at h
   split at h
   case h_2=>exact h.elim
   rename_i t m ix ho
   split at h
   case h_2=>exact h.elim
   rename_i b d z p hl
   obtain⟨hp,h⟩:=IG h
   obtain⟨v,hrun,h1,h2⟩:=BFM hl hp (HS hR.slots m) (HS hR.slots ix) hR.mv.heap
   have hr:Runs P a.eval o w (.tuple #[v,.bool b]) w:=.inl (by simp only[execOp,ho,Sem.run_bind,hrun,Result.andThen_ok,Sem.run_pure])
   cases b with
   |true=>
    refine hR.plain hg hd hr ⟨B,ι,Moved.refl hR.mv.heap,.d (.tup rfl λj x y hx hy=>?_)⟩ λB' ι' a' w' hR'=>RG hΓ l (k+1) _ h B' ι' a' w' hR'
    match j with
    |0=>simp at hx hy;subst hx;subst hy;exact h1 rfl
    |1=>simp at hx hy;subst hx;subst hy;exact .v _
    |j+2=>simp at hx
   |false=>
    refine hR.plain hg hd hr ⟨B,ι,Moved.refl hR.mv.heap,.d (.tup rfl λj x y hx hy=>?_)⟩ λB' ι' a' w' hR'=>RG hΓ l (k+1) _ h B' ι' a' w' hR'
    match j with
    |0=>simp at hx hy;subst hx;subst hy;rw[h2 rfl];exact nZ z
    |1=>simp at hx hy;subst hx;subst hy;exact .v _
    |j+2=>simp at hx
  ·unfold CSQ at h
   split at h
   case h_2=>exact h.elim
   rename_i t len ps ho
   split at h
   case h_2=>exact h.elim
   rename_i v0 r0 kk n get p0 hb
   obtain⟨k',n',get',y,w',he,h1,h2⟩:=vO (parts:=ps.map λx=>(x.1,a.eval x.2)) hb hR.mv.heap (by simp) (λj x y hx hy=>by
    obtain⟨z,hz,rfl⟩:=uC hx
    rw[Array.getElem?_toList] at hz
    simp[hz] at hy
    subst hy
    exact⟨rfl,HS hR.slots z.2⟩)
   simp only[Eff.mk.injEq,List.cons.injEq,Prod.mk.injEq,HCell.live.injEq,AObj.row.injEq,and_true] at he
   obtain⟨_,⟨_,rfl,rfl,rfl⟩,_⟩:=he
   exact hR.plain hg hd (.inl (by simp[execOp,ho,h1])) h2 λB' ι' a' w' hR'=>RG hΓ l (k+1) _ h B' ι' a' w' hR'
  ·obtain⟨y,w1,v,u,h1,h2,h3⟩:=BED h hR
   exact hR.plainU hg hd h1 h2 λB' ι' a' w' hR'=>RG hΓ l (k+1) _ h3 B' ι' a' w' hR'
  ·obtain⟨y,w1,v,u,h1,h2,h3⟩:=BGF h hR
   exact hR.plainU hg hd h1 h2 λB' ι' a' w' hR'=>RG hΓ l (k+1) _ h3 B' ι' a' w' hR'
  ·obtain⟨y,w1,v,u,h1,h2,h3⟩:=BIE h hR
   exact hR.plainU hg hd h1 h2 λB' ι' a' w' hR'=>RG hΓ l (k+1) _ h3 B' ι' a' w' hR'
  ·unfold CSZ at h
   split at h
   case h_2=>exact h.elim
   rename_i s hs
   split at h
   case h_2=>exact h.elim
   rename_i d id kk n hdst hval
   split at h
   case h_2=>exact h.elim
   rename_i k2 n2 get hid
   split at h
   case isFalse=>exact h.elim
   rename_i hkk
   rw[LC] at hkk
   subst hkk
   obtain⟨h1,h2⟩:=IG h
   obtain⟨h3,h4⟩:=BE h1
   obtain⟨h5,h6⟩:=BE h4
   have st:=dK hΓ hs h5 λ_=>h3
   refine st.sound hR hd λB' ι' a' w' hR'=>?_
   obtain⟨B2,hR2⟩:=hR'.frz (dst:=some d) (n:=n) (get:=get) (id:=id) hid (λd' hd'=>by
    cases hd'
    simp only[AState.app,R1,hdst,if_true];exact hval) h6
   have e:(⟨Tk (σ.app o.dst s.val s.upd).sl (some d) (.d (.list kk n get false)),EC (σ.app o.dst s.val s.upd).H id .dead⟩:AState)=⟨Tk σ.sl (some d) (.d (.list kk n get false)),EC (DV σ.H s.upd) id .dead⟩:=by
    simp only[AState.app,hdst]
    congr 1
    funext t
    simp only[R1]
    split<;>rfl
   rw[e] at hR2
   exact RG hΓ l (k+1) _ h2 B2 ι' a' w' hR2
theorem AUD{Γ:FuncId->Option Spec}(hΓ:GOk P Γ){md:Nat->Nat}{ops:Array Oper}{base id:Nat}(h:lJ P Γ md ops base c.n (Q .normal) ops.toList 0 σ):CodeE P c (.region id ops false) Q σ:=
 λB ι a w hR=>wpIn_region_list (RG hΓ ops.toList 0 σ h B ι a w hR)
end Go.Sym
namespace Go.Sym
variable {P : Program} {B B' : Ft} {ι ι' : Nat -> Pl} {H H' : Heap} {D : Nat -> Prop} {w w' : World}
structure Ctr where
 α:Type
 xs:α->List AVal
 L:α->List (Nat×AObj):=λ_=>[]
 val:α->AVal
 keep:α->List (Nat×HCell):=λ_=>[]
 pre:α->List Prop:=λ_=>[]
 /-- names whose objects the caller goes on to know as before -/
 ro:List Nat:=[]
def CYW(P:Program)(g:FuncId)(C:Ctr):Prop:=∀a,BG (C.pre a)->FnT P g (C.xs a) (AC (C.L a)) (C.val a) (C.keep a)
def AGH(F:P7)(ρ:Nat->Nat)(p:Nat->Bool)(H:Heap):List (Nat×AObj)->Option (List Prop)
 |[]=>some []
 |(i,o) :: r=>lL (AKV F ρ p (.live o) (H (ρ i))) (AGH F ρ p H r)
theorem ADF{F:P7}{ρ:Nat->Nat}{p:Nat->Bool}{H:Heap}:∀{l:List (Nat×AObj)},FF (AGH F ρ p H l)->∀i o,(i,o)∈l->∃o',H (ρ i)=.live o'/\FF (Nr F ρ p o o')
 |[],_,i,o,h=>by cases h
 |(j,x) :: r,h,i,o,hm=>by
  obtain⟨h1,h2⟩:=FO h
  rcases List.mem_cons.1 hm with hm | hm
  ·cases hm
   cases hq:H (ρ j) with
   |live o'=>rw[hq] at h1;exact⟨o',rfl,h1⟩
   |none=>rw[hq] at h1;simp only[AKV] at h1;exact h1.elim
   |dead=>rw[hq] at h1;simp only[AKV] at h1;exact h1.elim
  ·exact ADF h2 i o hm
def AQZ:HCell->Bool
 | .live (.row _ _ _)=>true
 |_=>false
def noF:P7:=λ_=>none
def AHO(H:Heap)(ρ:Nat->Nat)(L:List (Nat×AObj))(ro:List Nat):List (Nat×HCell)->Option (List Prop)
 |[]=>some []
 |(i,c) :: r=>if ro.contains i then match H (ρ i),c with
   | .live o',.live o=>if (JS L i).isSome then lL (Nr noF (λj=>j) (λj=>L.any λx=>Nat.beq (ρ x.1) j) o' (renO ρ o)) (AHO H ρ L ro r) else none
   |_,_=>none
  else AHO H ρ L ro r
theorem AAO{H:Heap}{ρ:Nat->Nat}{L:List (Nat×AObj)}{ro:List Nat}:∀{l:List (Nat×HCell)},FF (AHO H ρ L ro l)->∀i c,(i,c)∈l->i∈ro->∃o' o,H (ρ i)=.live o'/\c=.live o/\(JS L i).isSome=true/\FF (Nr noF (λj=>j) (λj=>L.any λx=>Nat.beq (ρ x.1) j) o' (renO ρ o))
 |[],_,i,c,h,_=>by cases h
 |(j,x) :: r,h,i,c,hm,hi=>by
  simp only[AHO] at h
  rcases List.mem_cons.1 hm with hm1 | hm1
  ·cases hm1
   rw[if_pos (by simpa using hi)] at h
   split at h
   ·rename_i o' o h1
    split at h
    ·rename_i h2
     exact⟨o',o,h1,rfl,h2,(FO h).1⟩
    ·exact h.elim
   ·exact h.elim
  ·split at h
   ·split at h
    ·split at h
     ·exact AAO (FO h).2 i c hm1 hi
     ·exact h.elim
    ·exact h.elim
   ·exact AAO h i c hm1 hi
theorem Moved.weakH{H1 H2:Heap}(m:Moved B ι H w B' ι' H1 w')(hd:∀i,H2.dom i↔H1.dom i)(ho:∀i o,H2 i=.live o->∃o1,H1 i=.live o1/\∀x,ORel B' ι' H1.dom (ι' i).cap o1 x->ORel B' ι' H2.dom (ι' i).cap o x):Moved B ι H w B' ι' H2 w':=by
 refine⟨m.bm,m.bn,λi hi=>⟨(hd i).2 (m.im i hi).1,(m.im i hi).2⟩,⟨λi o hi=>?_,λi j o o' hi hj h=>?_,λi o hi=>?_,m.heap.imm⟩,λi o hi=>?_,m.frame,m.size,m.calm⟩
 ·obtain⟨o1,h1,h2⟩:=ho i o hi
  exact h2 _ (m.heap.obj i o1 h1)
 ·obtain⟨o1,h1,_⟩:=ho i o hi
  obtain⟨o2,h2,_⟩:=ho j o' hj
  exact m.heap.inj i j o1 o2 h1 h2 h
 ·obtain⟨o1,h1,_⟩:=ho i o hi
  exact m.heap.sep i o1 h1
 ·obtain⟨o1,h1,_⟩:=ho i o hi
  exact m.own i o1 h1
def Ctr.keepW(C:Ctr)(a:C.α):List (Nat×HCell):=(C.keep a).filter λx=>!C.ro.contains x.1
def Ctr.spec(C:Ctr)(dec:List AVal->Heap->Option (C.α×List (Nat×Nat)×List Nat)):Spec:=λxs H r=>match dec xs H with
 |none=>none
 |some (a,l,fz)=>if ALS (C.xs a) (C.L a) (C.val a) (C.keep a) (λi=>if (JS (C.L a) i).isSome then NC l i else r+i) r&&nodup fz&&fz.all (λi=>AQZ (H i)) then
   match lL (PD (PW H fz) (λi=>if (JS (C.L a) i).isSome then NC l i else r+i) (λi=>(JS (C.L a) i).isSome) (C.xs a) xs)
     (lL (AGH (PW H fz) (λi=>if (JS (C.L a) i).isSome then NC l i else r+i) (λi=>(JS (C.L a) i).isSome) (EW H fz) (C.L a))
      (AHO (EW H fz) (λi=>if (JS (C.L a) i).isSome then NC l i else r+i) (C.L a) C.ro (C.keep a))) with
   |some p=>some ⟨fz ++ (C.L a).map λx=>NC l x.1,bQ (λi=>if (JS (C.L a) i).isSome then NC l i else r+i) (C.val a),(fz.map λi=>(i,.dead)) ++ Qo (λi=>if (JS (C.L a) i).isSome then NC l i else r+i) (C.keepW a),p ++ C.pre a⟩
   |none=>none
  else none
theorem ALJ:∀(u v:List (Nat×HCell)) (H:Heap),DV H (u ++ v)=DV (DV H u) v
 |[],_,_=>rfl
 |(i,c) :: u,v,H=>by simp only[List.cons_append,DV];exact ALJ u v _
theorem ADI:∀(fz:List Nat) (H:Heap),fz.Nodup->(∀i∈fz,AQZ (H i)=true)->DV H (fz.map λi=>(i,.dead))=EW H fz
 |[],_,_,_=>rfl
 |i :: r,H,hn,hr=>by
  have h1:=hr i (by simp)
  simp only[List.map_cons,DV,EW]
  have hn':=List.nodup_cons.1 hn
  have h2:∀j∈r,AQZ (EC H i .dead j)=true:=λj hj=>by
   rw[HL _ _ (show j≠i from λhe=>hn'.1 (he ▸ hj))]
   exact hr j (by simp[hj])
  cases hq:H i with
  |live o=>cases o with
   |row=>simp only;exact ADI r _ hn'.2 h2
   |_=>rw[hq] at h1;cases h1
  |_=>rw[hq] at h1;cases h1
theorem Tp:∀(ids:List Nat) {H:Heap} {i:Nat},H i=.none->EW H ids i=.none
 |[],_,_,h=>h
 |id :: r,H,i,h=>by
  simp only[EW]
  cases hq:H id with
  |live o=>cases o with
   |row=>
    simp only
    refine Tp r ?_
    rw[HL]
    ·exact h
    ·intro he;rw[he,hq] at h;cases h
   |_=>exact Tp r h
  |_=>exact Tp r h
theorem AKU{fz:List Nat}(h:∀i∈fz,H' i=H i):PW H' fz=PW H fz:=by
 funext i
 unfold PW
 split
 ·rename_i hi;rw[h i (by simpa using hi)]
 ·rfl
theorem H8:∀(fz:List Nat) {H H':Heap} (i:Nat),fz.Nodup->(∀j∈fz,H' j=H j)->(i∉fz->H' i=H i)->EW H' fz i=EW H fz i
 |[],_,_,i,_,_,h=>h (by simp)
 |j :: r,H,H',i,hn,hf,h=>by
  have hn':=List.nodup_cons.1 hn
  have e:=hf j (by simp)
  simp only[EW,e]
  have go:∀(K K':Heap),(∀k∈r,K' k=K k)->(i∉r->K' i=K i)->EW K' r i=EW K r i:=λK K' h1 h2=>H8 r i hn'.2 h1 h2
  have up:∀x,EW (EC H' j x) r i=EW (EC H j x) r i:=λx=>by
   refine go _ _ (λk hk=>?_) (λhi=>?_)
   ·have hne:k≠j:=λhe=>hn'.1 (he ▸ hk)
    rw[HL _ _ hne,HL _ _ hne];exact hf k (by simp[hk])
   ·by_cases he:i=j
    ·subst he;rw[HM,HM]
    ·rw[HL _ _ he,HL _ _ he];exact h (by simp[he,hi])
  have same:EW H' r i=EW H r i:=go _ _ (λk hk=>hf k (by simp[hk])) λhi=>by
   by_cases he:i=j
   ·subst he;exact e
   ·exact h (by simp[he,hi])
  cases H j with
  |live o=>cases o with
   |row=>exact up _
   |_=>exact same
  |_=>exact same
theorem Ctr.spec_ok{C:Ctr}{g:FuncId}(h:CYW P g C)(dec:List AVal->Heap->Option (C.α×List (Nat×Nat)×List Nat)):AH P g (C.spec dec):=by
 intro xs H r x hx hp
 unfold Ctr.spec at hx
 split at hx
 ·cases hx
 ·rename_i a l fz hd
  generalize hρ:(λi=>if (JS (C.L a) i).isSome then NC l i else r+i)=ρ at hx
  have hρL:∀i o,JS (C.L a) i=some o->ρ i=NC l i:=λi o ho=>by rw[<-hρ];simp[ho]
  split at hx
  ·rename_i hok
   simp only[Bool.and_eq_true,List.all_eq_true] at hok
   obtain⟨⟨ok1,ok2⟩,ok3⟩:=hok
   have hnd:=XJ ok2
   split at hx
   ·rename_i p hc
    cases hx
    obtain⟨hp1,hp2⟩:=BE hp
    have hc':FF (lL (PD (PW H fz) ρ (λi=>(JS (C.L a) i).isSome) (C.xs a) xs) (lL (AGH (PW H fz) ρ (λi=>(JS (C.L a) i).isSome) (EW H fz) (C.L a)) (AHO (EW H fz) ρ (C.L a) C.ro (C.keep a)))):=by rw[hc];exact hp1
    obtain⟨h1,h2⟩:=FO hc'
    obtain⟨h2,hro⟩:=FO h2
    have hfn:=h a hp2
    intro H' hcells hfresh
    have hfz:∀i∈fz,H' i=H i:=λi hi=>hcells (i,H i) (List.mem_map.2 ⟨i,by simp[hi],rfl⟩)
    have hL:∀i o,JS (C.L a) i=some o->H' (ρ i)=H (ρ i):=λi o ho=>by
     have hm:=Zq ho
     rw[hρL i o ho]
     exact hcells (NC l i,H (NC l i)) (List.mem_map.2 ⟨NC l i,List.mem_append_right _ (List.mem_map.2 ⟨(i,o),hm,rfl⟩),rfl⟩)
    refine⟨hfn.1,λB ι w vs ha hH=>?_⟩
    obtain⟨B',hk,hF⟩:=WC fz hH
    rw[AKU hfz] at hF
    have hdom:∀i,(JS (C.L a) i).isSome=true->(AC (C.L a)).dom i:=λi hi=>by
     unfold Heap.dom AC
     obtain⟨o,ho⟩:=Option.isSome_iff_exists.1 hi
     rw[ho];simp
    have hcall:=FnT.at hfn ρ r ok1 (EW H' fz) (λi h3 h4=>Tp fz (hfresh i h3 h4)) hk.heap (vs:=vs)
     ⟨by rw[ha.1,TR h1],λj x y hx hy=>by
      obtain⟨x',hx',hs⟩:=XV h1 hx
      exact Te hF hdom _ _ _ hs (ha.2 j _ y hx' hy)⟩
     (λi o ho=>by
      obtain⟨o',h3,h4⟩:=ADF h2 i o (Zq ho)
      rw[<-H8 (H:=H) (H':=H') fz (ρ i) hnd hfz λ_=>hL i o ho] at h3
      exact⟨⟨o',h3⟩,cZ hF hdom h4 (hH.obj _ _ (Sf fz h3))⟩)
    refine Calls.mono hcall λe w' hh=>?_
    obtain⟨v,rfl,B2,ι2,h3,h4⟩:=hh
    rw[ALJ,ADI fz H' hnd λi hi=>by rw[hfz i hi];exact ok3 i hi]
    -- what the caller knows of the objects that are only read
    have hK:EW H' fz=EW H' fz:=rfl
    have hemb:=ok1
    simp only[ALS,Bool.and_eq_true,List.all_eq_true] at hemb
    obtain⟨⟨⟨⟨⟨_,_⟩,e3⟩,e4⟩,_⟩,e6⟩:=hemb
    have hnk:=XJ e6
    have hnw:((C.keepW a).map λx=>ρ x.1).Nodup:=(List.Sublist.map (λx:Nat×HCell=>ρ x.1) List.filter_sublist).nodup hnk
    have in1:∀i c,(i,c)∈C.keep a->DV (EW H' fz) (Qo ρ (C.keep a)) (ρ i)=renC ρ c:=λi c hi=>Xp _ hnk hi
    have in2:∀i c,(i,c)∈C.keep a->¬ i∈C.ro->DV (EW H' fz) (Qo ρ (C.keepW a)) (ρ i)=renC ρ c:=λi c hi hn=>Xp _ hnw (List.mem_filter.2 ⟨hi,by simpa using hn⟩)
    have out1:∀j,(∀i c,(i,c)∈C.keep a->ρ i≠j)->DV (EW H' fz) (Qo ρ (C.keep a)) j=EW H' fz j:=λj hj=>Gx _ _ _ (by
     rw[ATM];intro hm
     obtain⟨⟨i,c⟩,q1,q2⟩:=List.mem_map.1 hm
     exact hj i c q1 q2)
    have out2:∀j,(∀i c,(i,c)∈C.keep a->¬ i∈C.ro->ρ i≠j)->DV (EW H' fz) (Qo ρ (C.keepW a)) j=EW H' fz j:=λj hj=>Gx _ _ _ (by
     rw[ATM];intro hm
     obtain⟨⟨i,c⟩,q1,q2⟩:=List.mem_map.1 hm
     obtain⟨q3,q4⟩:=List.mem_filter.1 q1
     exact hj i c q3 (by simpa using q4) q2)
    have inro:∀i c,(i,c)∈C.keep a->i∈C.ro->∃o' o,EW H' fz (ρ i)=.live o'/\c=.live o/\DV (EW H' fz) (Qo ρ (C.keepW a)) (ρ i)=.live o'/\FF (Nr noF (λj=>j) (λj=>(C.L a).any λx=>Nat.beq (ρ x.1) j) o' (renO ρ o)):=λi c hi hr=>by
     obtain⟨o',o,q1,q2,q3,q4⟩:=AAO hro i c hi hr
     obtain⟨oL,hoL⟩:=Option.isSome_iff_exists.1 q3
     have q5:EW H' fz (ρ i)=.live o':=by rw[H8 (H:=H) (H':=H') fz (ρ i) hnd hfz λ_=>hL i oL hoL];exact q1
     refine⟨o',o,q5,q2,?_,q4⟩
     rw[out2]
     ·exact q5
     ·intro i' c' hi' hn' he
      exact hn' ((AAH hnk hi' hi he).1 ▸ hr)
    have caseJ:∀j,(∃i c,(i,c)∈C.keep a/\ρ i=j)∨(∀i c,(i,c)∈C.keep a->ρ i≠j):=λj=>by
     by_cases hj:∃i c,(i,c)∈C.keep a/\ρ i=j
     ·exact .inl hj
     ·exact .inr λi c h1 h2=>hj ⟨i,c,h1,h2⟩
    have hd12:∀j,(DV (EW H' fz) (Qo ρ (C.keepW a))).dom j↔(DV (EW H' fz) (Qo ρ (C.keep a))).dom j:=λj=>by
     rcases caseJ j with⟨i,c,hi,rfl⟩ | hn
     ·have hcn:renC ρ c≠.none:=by
       have:=(e4 (i,c) hi).1.1
       cases c<;>simp[renC,AEN] at this ⊢
      by_cases hr:i∈C.ro
      ·obtain⟨o',o,_,q2,q3,_⟩:=inro i c hi hr
       unfold Heap.dom;rw[q3,in1 i c hi];simp[hcn]
      ·unfold Heap.dom;rw[in1 i c hi,in2 i c hi hr]
     ·unfold Heap.dom;rw[out1 j hn,out2 j λi c hi _=>hn i c hi]
    have hF2:D1 B2 B2 ι2 noF:=⟨λ_ _ h=>h,λid k m get h=>by cases h⟩
    have hpd:∀j,((C.L a).any λx=>Nat.beq (ρ x.1) j)=true->(DV (EW H' fz) (Qo ρ (C.keepW a))).dom j:=λj hj=>by
     obtain⟨⟨i,o⟩,q1,q2⟩:=List.any_eq_true.1 hj
     have q2:ρ i=j:=Nat.eq_of_beq_eq_true q2
     obtain⟨c,hcm⟩:=Option.isSome_iff_exists.1 (by
      have:=e3 (i,o) q1
      exact this.1)
     rw[hd12,<-q2]
     unfold Heap.dom;rw[in1 i c (YD hcm)]
     have:=(e4 (i,c) (YD hcm)).1.1
     cases c<;>simp[renC,AEN] at this ⊢
    have h3':Moved B' ι (EW H' fz) w B2 ι2 (DV (EW H' fz) (Qo ρ (C.keepW a))) w':=by
     refine h3.weakH hd12 λj o hj=>?_
     rcases caseJ j with⟨i,c,hi,rfl⟩ | hn
     ·by_cases hr:i∈C.ro
      ·obtain⟨o',o2,_,q2,q3,q4⟩:=inro i c hi hr
       rw[q3] at hj
       cases hj
       refine⟨renO ρ o2,by rw[in1 i c hi,q2];rfl,λx hx=>cZ (ι:=ι2) (ρ:=λj=>j) hF2 hpd q4 hx⟩
      ·rw[in2 i c hi hr] at hj
       exact⟨o,by rw[in1 i c hi];exact hj,λx hx=>hx.mono (λ_ _ h=>h) λi hi=>⟨(hd12 i).2 hi,rfl⟩⟩
     ·rw[out2 j λi c hi _=>hn i c hi] at hj
      exact⟨o,by rw[out1 j hn];exact hj,λx hx=>hx.mono (λ_ _ h=>h) λi hi=>⟨(hd12 i).2 hi,rfl⟩⟩
    exact⟨v,rfl,B2,ι2,hk.trans h3',h4.mono (λ_ _ h=>h) λi hi=>⟨(hd12 i).2 hi,rfl⟩⟩
   ·cases hx
  ·cases hx
def look:List (FuncId×Spec)->FuncId->Option Spec
 |[],_=>none
 |(g,s) :: r,f=>if Nat.beq g f then some s else look r f
theorem AD:GOk P (look []):=λ_ _ h=>by cases h
theorem AA{f:FuncId}{t:Spec}{r:List (FuncId×Spec)}(h:AH P f t)(hr:GOk P (look r)):GOk P (look ((f,t) :: r)):=λg s hs=>by
 simp only[look] at hs
 split at hs
 ·rename_i he
  cases hs
  have:=Nat.eq_of_beq_eq_true he
  subst this
  exact h
 ·exact hr g s hs
end Go.Sym
