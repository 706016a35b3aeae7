/- A region that draws its order: one walk in the order of the text serves every order. -/
import Derived.Test.YtlblbbidigejkaaGreatSym7
import Derived.Sort.LoopGhostIn
import Derived.Scope
set_option linter.unusedVariables false
set_option linter.unusedSimpArgs false
namespace Go.Sym
variable {P : Program} {B B' : Ft} {ι ι' : Nat -> Pl} {H H' : Heap} {D : Nat -> Prop} {w w' : World}
abbrev vM:=Nat->List Nat×List Nat
section
variable {mt : Bool} {ops : Array Oper} {base n : Nat} {T : vM} {md : Region.Mode}
def StepT(P:Program)(mt:Bool)(ops:Array Oper)(base n:Nat)(T:vM)(i:Nat)(K:AState->Prop)(σ:AState):Prop:=
 ∃o val upd touch,ops[i]?=some o/\StepO P mt ops (base+16*i) σ o val upd touch/\(∀d,o.dst=some d->d<n)/\touch=(T i).1/\upd.map (·.1)=(T i).2/\K (σ.app o.dst val upd)
theorem StepT.mono{i:Nat}{K K':AState->Prop}{σ:AState}(hK:∀σ,K σ->K' σ)(h:StepT P mt ops base n T i K σ):StepT P mt ops base n T i K' σ:=by
 obtain⟨o,val,upd,touch,h1,h2,h3,h4,h5,h6⟩:=h
 exact⟨o,val,upd,touch,h1,h2,h3,h4,h5,hK _ h6⟩
def AnyE(P:Program)(mt:Bool)(md:Region.Mode)(ops:Array Oper)(base n:Nat)(T:vM)(Q:AState->Prop):Nat->Array Bool->AState->Prop
 |0,listed,σ=>Region.ready md ops listed=[]/\Q σ
 |fuel+1,listed,σ=>(Region.ready md ops listed=[]->Q σ)/\∀i∈Region.ready md ops listed,StepT P mt ops base n T i (AnyE P mt md ops base n T Q fuel (listed.setIfInBounds i true)) σ
theorem CHT{c:Ctx}{Q:Exit->AState->Prop}:∀(fuel:Nat) (listed:Array Bool) (σ:AState),AnyE P mt md ops base c.n T (Q .normal) fuel listed σ->∀B ι a w,Rel c B ι σ a w ->
  wpAnyIn (xH c.rd) 0 P md ops (λe a' w'=>∃B' ι' σ',Q e σ'/\Rel c B' ι' σ' a' w') fuel listed a w
 |0,_,σ,h,B,ι,_,_,hR=>⟨h.1,B,ι,σ,h.2,hR⟩
 |fuel+1,listed,σ,h,B,ι,a,w,hR=>by
  refine⟨λh0=>⟨B,ι,σ,h.1 h0,hR⟩,λi hi=>?_⟩
  obtain⟨o,val,upd,touch,h1,h2,h3,_,_,h6⟩:=h.2 i hi
  unfold wpOpIn
  rw[h1]
  exact h2.sound hR h3 λB' ι' a' w' hR'=>CHT fuel _ _ h6 B' ι' a' w' hR'
def disj(a b:List Nat):Bool:=a.all λx=>!b.contains x
theorem AGI{a b:List Nat}(h:disj a b=true):∀x,x∈a->x∉b:=by
 intro x hx hb
 simp only[disj,List.all_eq_true,Bool.not_eq_true'] at h
 have:=h x hx
 simp[hb] at this
def CUG(T:vM)(i j:Nat):Bool:=disj (T i).2 (T j).1&&disj (T j).2 (T i).1&&disj (T i).2 (T j).2
def exX(ops:Array Oper)(i j:Nat):Bool:=match ops[i]?,ops[j]? with
 |some ⟨_,.lookup _ _ _ false,_,_,_,none⟩,some ⟨_,.mapEntry _ _ _,_,_,_,none⟩=>true
 |_,_=>false
def xN(ops:Array Oper)(T:vM)(i j:Nat):Bool:=CUG T i j||(exX ops i j&&disj (T i).2 (T j).1&&disj (T i).2 (T j).2)
theorem Gx:∀(u:List (Nat×HCell)) (H:Heap) (x:Nat),x∉u.map (·.1)->DV H u x=H x
 |[],_,_,_=>rfl
 |(i,c) :: u,H,x,h=>by
  simp only[List.map_cons,List.mem_cons,not_or] at h
  simp only[DV]
  rw[Gx u _ x h.2,HL _ _ h.1]
theorem BXE(H:Heap){i j:Nat}(a b:HCell)(h:i≠j):EC (EC H i a) j b=EC (EC H j b) i a:=by
 funext x;unfold EC;split<;>split<;>first | rfl | (exfalso;omega)
theorem BHC:∀(u:List (Nat×HCell)) (H:Heap) (i:Nat) (c:HCell),i∉u.map (·.1)->DV (EC H i c) u=EC (DV H u) i c
 |[],_,_,_,_=>rfl
 |(j,d) :: u,H,i,c,h=>by
  simp only[List.map_cons,List.mem_cons,not_or] at h
  simp only[DV]
  rw[BXE _ _ _ h.1,BHC u _ i c h.2]
theorem AWM:∀(u v:List (Nat×HCell)) (H:Heap),(∀x,x∈u.map (·.1)->x∉v.map (·.1))->DV (DV H u) v=DV (DV H v) u
 |[],_,_,_=>rfl
 |(i,c) :: u,v,H,h=>by
  simp only[DV]
  rw[AWM u v _ λx hx=>h x (by simp at hx ⊢;exact .inr hx),BHC v H i c (h i (by simp))]
theorem CBP{σ:AState}{d1 d2:Option Tmp}{v1 v2:AVal}{u1 u2:List (Nat×HCell)}(hd:∀d,d1=some d->d2≠some d)(hu:∀x,x∈u1.map (·.1)->x∉u2.map (·.1)) :
  (σ.app d1 v1 u1).app d2 v2 u2=(σ.app d2 v2 u2).app d1 v1 u1:=by
 simp only[AState.app,AState.mk.injEq]
 refine⟨?_,AWM u1 u2 σ.H hu⟩
 cases d1 with
 |none=>rfl
 |some a=>cases d2 with
  |none=>rfl
  |some b=>
   have:a≠b:=λe=>hd a rfl (e ▸ rfl)
   funext t
   simp only[Tk]
   by_cases h1:t=a
   ·have h2:t≠b:=λe=>this (h1.symm.trans e)
    rw[if_neg h2,if_pos h1,if_pos h1]
   ·rw[if_neg h1,if_neg h1]
theorem BMQ{H:Heap}{t t':TypeId}{m m' ix k:AVal}{e:Eff}(h:ADX P H t' m' k=some e):eC P (DV H e.upd) t m ix false=eC P H t m ix false:=by
 unfold ADX at h
 split at h
 case h_2=>cases h
 rename_i q z0 id q' z has get st ht hm
 split at h
 case h_2=>cases h
 rename_i n p hn
 split at h
 case isFalse=>cases h
 cases h
 have hid:H id=.live (.imap q' z has get st none):=by
  unfold dI at hm
  split at hm
  ·split at hm
   ·cases hm;assumption
   ·cases hm
  ·cases hm
 unfold eC
 have hl:(Zg (DV H [(id,.live (.imap q z (KE has n) get (kP has st n) (some n)))]) m=Zg H m)∨(Zg (DV H [(id,.live (.imap q z (KE has n) get (kP has st n) (some n)))]) m=some (q,z,KE has n,get)/\Zg H m=some (q',z,has,get)):=by
  cases m with
  |mref i=>
   by_cases hi:i=id
   ·subst hi
    right
    simp only[Zg,dI,DV,HM,hid,and_self]
   ·left
    simp only[Zg,dI,Sa,DV,HL _ _ hi]
  |_=>left;rfl
 rename_i hq
 subst hq
 rcases hl with hl | ⟨h1,h2⟩
 ·rw[hl]
 ·rw[h1,h2];cases vT P t<;>rfl
theorem StepO.swapX{mt:Bool}{ops:Array Oper}{r r':Nat}{σ:AState}{oi oj:Oper}{vi vj:AVal}{ui uj:List (Nat×HCell)}{ti tj:List Nat}{i j:Nat}(h1:ops[i]?=some oi)(h2:ops[j]?=some oj)(hx:exX ops i j=true)
  (hi:StepO P mt ops r σ oi vi ui ti) (hj:StepO P mt ops r' σ oj vj uj tj) (hs:∀t∈oi.looksAt ops,(σ.app oj.dst vj uj).sl t=σ.sl t):StepO P mt ops r (σ.app oj.dst vj uj) oi vi ui ti:=by
 unfold exX at hx
 rw[h1,h2] at hx
 split at hx
 case h_2=>cases hx
 rename_i d t m ix ty pos af d' t' m' k ty' pos' af' e1 e2
 simp only[Option.some.injEq] at e1 e2
 subst e1;subst e2
 have hev:∀x∈(Op.lookup t m ix false).operands,AX σ.sl x=AX (σ.app d' vj uj).sl x:=λx hx=>(ALR hs x hx).symm
 cases hj with
 |op hgj hej hpj hrj=>
  rename_i e
  cases hi with
  |op hgi hei hpi hri=>
   rw[rP _ hev]
   have hid:(DV σ.H e.upd) r=.none:=by
    simp only[opA] at hej
    unfold ADX at hej
    split at hej
    case h_2=>cases hej
    rename_i q z0 id q' z has get st ht hm
    split at hej
    case h_2=>cases hej
    split at hej
    case isFalse=>cases hej
    cases hej
    unfold dI at hm
    split at hm
    ·split at hm
     ·rename_i hl
      cases hm
      simp only[DV]
      rw[HL _ _ (λhe=>by rw[he,hl] at hri;cases hri)]
      exact hri
     ·cases hm
    ·cases hm
   refine .op hgi ?_ hpi hid
   rw[<-hei]
   simp only[opA] at hej ⊢
   show Eff.of (eC P (DV σ.H e.upd) t _ _ false)=_
   rw[BMQ hej,<-hev m (by simp[Op.operands]),<-hev ix (by simp[Op.operands])]
  |gop hg _ _ _ _=>cases hg
  |call _ ho _ _ _ _=>cases ho
  |inv _ ho _ _ _ _ _=>cases ho
  |gcall hg _ _ _ _ _ _ _=>cases hg
  |gcallT hg _ _ _ _ _ _ _=>cases hg
  |gskip hg _=>cases hg
 |gop hg _ _ _ _=>cases hg
 |call _ ho _ _ _ _=>cases ho
 |inv _ ho _ _ _ _ _=>cases ho
 |gcall hg _ _ _ _ _ _ _=>cases hg
 |gcallT hg _ _ _ _ _ _ _=>cases hg
 |gskip hg _=>cases hg
theorem StepT.swap{i j:Nat}{oi oj:Oper}(hoi:ops[i]?=some oi)(hoj:ops[j]?=some oj)(hap:oi.apart ops oj=true)(hin:xN ops T i j=true){σ:AState}{vi:AVal}{ui:List (Nat×HCell)}{ti:List Nat}
  (hi:StepO P mt ops (base+16*i) σ oi vi ui ti) (hti:ti=(T i).1) (hui:ui.map (·.1)=(T i).2) {K:AState->Prop} (h:StepT P mt ops base n T j K (σ.app oi.dst vi ui)) :
  StepT P mt ops base n T j (λσ'=>StepO P mt ops (base+16*i) σ' oi vi ui ti/\K (σ'.app oi.dst vi ui)) σ:=by
 obtain⟨o,val,upd,touch,h1,h2,h3,h4,h5,h6⟩:=h
 rw[hoj] at h1;cases h1
 obtain⟨a1,a2,a3⟩:=Oper.apart_spec hap
 have hin:disj (T i).2 (T j).1=true/\(disj (T j).2 (T i).1=true∨exX ops i j=true)/\disj (T i).2 (T j).2=true:=by
  simp only[xN,CUG,Bool.or_eq_true,Bool.and_eq_true] at hin
  rcases hin with⟨⟨d1,d2⟩,d3⟩ | ⟨⟨d2,d1⟩,d3⟩
  ·exact⟨d1,.inl d2,d3⟩
  ·exact⟨d1,.inr d2,d3⟩
 obtain⟨d1,d2,d3⟩:=hin
 have d1:=AGI d1;have d3:=AGI d3
 have put_ne:∀(sl:Nat->AVal) (dst:Option Tmp) (v:AVal) (t:Tmp),(∀d,dst=some d->t≠d)->Tk sl dst v t=sl t:=λsl dst v t h=>by
  cases dst with
  |none=>rfl
  |some d=>simp[Tk,h d rfl]
 have hj':StepO P mt ops (base+16*j) σ oj val upd touch:=h2.local' (λt ht=>(put_ne _ _ _ _ λd hd e=>a1 d hd (e ▸ ht)).symm) (λid hid=>(Gx _ _ _ λhm=>d1 id (hui ▸ hm) (h4 ▸ hid)).symm)
 refine⟨oj,val,upd,touch,hoj,hj',h3,h4,h5,?_,?_⟩
 ·rcases d2 with d2 | d2
  ·have d2:=AGI d2
   refine hi.local' (λt ht=>?_) (λid hid=>?_)
   ·exact put_ne _ _ _ _ λd hd e=>a3 d hd (e ▸ ht)
   ·exact Gx _ _ _ λhm=>d2 id (h5 ▸ hm) (hti ▸ hid)
  ·exact StepO.swapX hoi hoj d2 hi hj' λt ht=>put_ne _ _ _ _ λd hd e=>a3 d hd (e ▸ ht)
 ·rw[<-CBP a2 (λx hx=>by rw[hui] at hx;rw[h5];exact d3 x hx)]
  exact h6
theorem AUV{Q:AState->Prop}{i:Nat}{oi:Oper}(hoi:ops[i]?=some oi){vi:AVal}{ui:List (Nat×HCell)}{ti:List Nat}(hti:ti=(T i).1)(hui:ui.map (·.1)=(T i).2)(hdi:∀d,oi.dst=some d->d<n){dep:Nat->Bool}
  (hdep:∀j oj,ops[j]?=some oj->dep j=true->∃e,e∈oj.after/\Region.binds md e=true/\(e.on=i∨dep e.on=true)) :
  ∀(fuel:Nat) (listed:Array Bool) (σ:AState),
   (∀j oj,ops[j]?=some oj->j≠i->listed.getD j true=false->(∀e∈oj.after,Region.binds md e=true->e.on≠i)->dep j=false->oi.apart ops oj=true/\xN ops T i j=true) ->
   (∀j,dep j=true->listed.getD j true=false) ->
   i∈Region.ready md ops listed->StepO P mt ops (base+16*i) σ oi vi ui ti ->
   AnyE P mt md ops base n T Q fuel (listed.setIfInBounds i true) (σ.app oi.dst vi ui)->AnyE P mt md ops base n T Q (fuel+1) listed σ:=by
 intro fuel
 induction fuel with
 |zero=>
  intro listed σ _ _ hr hy h
  refine⟨λh0=>(by rw[h0] at hr;cases hr),λj hj=>?_⟩
  by_cases hji:j=i
  ·subst hji;exact⟨oi,vi,ui,ti,hoi,hy,hdi,hti,hui,h⟩
  ·have:=ready_mono hj hji
   rw[h.1] at this
   cases this
 |succ fuel ih=>
  intro listed σ hfree hun0 hr hy h
  refine⟨λh0=>(by rw[h0] at hr;cases hr),λj hj=>?_⟩
  by_cases hji:j=i
  ·subst hji;exact⟨oi,vi,ui,ti,hoi,hy,hdi,hti,hui,h⟩
  ·have h1:=h.2 j (ready_mono hj hji)
   obtain⟨hjun,oj,hoj,hall⟩:=mem_ready.1 hj
   have hnot:∀e∈oj.after,Region.binds md e=true->e.on≠i:=λe he hb heq=>by
    have h1:=hall e he hb
    have h0:=(mem_ready.1 hr).1
    rw[heq] at h1
    rcases Nat.lt_or_ge i listed.size with h' | h'
    ·simp[h'] at h0 h1;rw[h0] at h1;cases h1
    ·simp[Array.getElem?_eq_none h'] at h1
   have hlist:∀k,listed.getD k true=false->listed.getD k false=true->False:=λk hk h1=>by
    rcases Nat.lt_or_ge k listed.size with h' | h'
    ·simp[h'] at hk h1;rw[hk] at h1;cases h1
    ·simp[Array.getElem?_eq_none h'] at h1
   have hdj:dep j=false:=by
    cases hd:dep j with
    |false=>rfl
    |true=>
     obtain⟨e,he,hb,h1⟩:=hdep j oj hoj hd
     rcases h1 with h1 | h1
     ·exact absurd h1 (hnot e he hb)
     ·exact (hlist _ (hun0 _ h1) (hall e he hb)).elim
   obtain⟨f1,f2⟩:=hfree j oj hoj hji hjun hnot hdj
   have h2:=StepT.swap hoi hoj f1 f2 hy hti hui h1
   have hfree':∀k ok,ops[k]?=some ok->k≠i->(listed.setIfInBounds j true).getD k true=false->(∀e∈ok.after,Region.binds md e=true->e.on≠i)->dep k=false->oi.apart ops ok=true/\xN ops T i k=true:=λk ok hk hki hun hno hdk=>by
    refine hfree k ok hk hki ?_ hno hdk
    by_cases hjk:j=k
    ·subst hjk;exact hjun
    ·rw[getD_set_ne true hjk] at hun;exact hun
   have hun':∀k,dep k=true->(listed.setIfInBounds j true).getD k true=false:=λk hk=>by
    have hjk:j≠k:=λhe=>by rw[he,hk] at hdj;cases hdj
    rw[getD_set_ne true hjk];exact hun0 k hk
   refine StepT.mono (λσ' h3=>ih (listed.setIfInBounds j true) σ' hfree' hun' (ready_mono hr (Ne.symm hji)) h3.1 ?_) h2
   rw[Array.setIfInBounds_comm _ _ hji]
   exact h3.2
def CJD(md:Region.Mode)(ops:Array Oper)(T:vM)(listed:Array Bool)(i:Nat):Bool:=
 match ops[i]? with
 |none=>false
 |some oi=>(List.range ops.size).all λj=>j==i||listed.getD j true||match ops[j]? with
   |some oj=>oj.after.any (λe=>Region.binds md e&&e.on==i)||(oi.apart ops oj&&xN ops T i j)
   |none=>true
theorem BLP{i:Nat}{oi:Oper}{listed:Array Bool}(hi:ops[i]?=some oi)(h:CJD md ops T listed i=true)(j:Nat)(oj:Oper)
  (hj:ops[j]?=some oj) (hne:j≠i) (hun:listed.getD j true=false) (hno:∀e∈oj.after,Region.binds md e=true->e.on≠i):oi.apart ops oj=true/\xN ops T i j=true:=by
 simp only[CJD,hi,List.all_eq_true,List.mem_range] at h
 have h1:=h j (Array.getElem?_eq_some_iff.1 hj).1
 simp only[hj,Bool.or_eq_true,beq_iff_eq,hne,false_or,hun,Bool.false_eq_true,Bool.and_eq_true] at h1
 rcases h1 with h1 | h1
 ·obtain⟨e,he,hb⟩:=Array.any_eq_true'.1 h1
  simp only[Bool.and_eq_true,beq_iff_eq] at hb
  exact absurd hb.2 (hno e he hb.1)
 ·exact h1
def behind(md:Region.Mode)(ops:Array Oper)(i:Nat):Nat->Nat->Bool
 |0,_=>false
 |k+1,j=>match ops[j]? with
  |some oj=>oj.after.any λe=>Region.binds md e&&(e.on==i||behind md ops i k e.on)
  |none=>false
def freeD(md:Region.Mode)(ops:Array Oper)(T:vM)(listed:Array Bool)(i:Nat):Bool:=
 match ops[i]? with
 |none=>false
 |some oi=>!listed.getD i true&&((List.range ops.size).all λj=>!listed.getD j true||match ops[j]? with
   |some oj=>oj.after.all λe=>!Region.binds md e||listed.getD e.on true
   |none=>true)&&(List.range ops.size).all λj=>j==i||listed.getD j true||match ops[j]? with
   |some oj=>(oi.apart ops oj&&xN ops T i j)||behind md ops i 6 j
   |none=>true
theorem BLD{i:Nat}{oi:Oper}{listed:Array Bool}(hi:ops[i]?=some oi)(h:freeD md ops T listed i=true):∃dep:Nat->Bool,
  (∀j oj,ops[j]?=some oj->j≠i->listed.getD j true=false->(∀e∈oj.after,Region.binds md e=true->e.on≠i)->dep j=false->oi.apart ops oj=true/\xN ops T i j=true) /\
  (∀j,dep j=true->listed.getD j true=false) /\
  ∀j oj,ops[j]?=some oj->dep j=true->∃e,e∈oj.after/\Region.binds md e=true/\(e.on=i∨dep e.on=true):=by
 classical
 simp only[freeD,hi,Bool.and_eq_true,List.all_eq_true,List.mem_range,Bool.not_eq_true'] at h
 obtain⟨⟨h0,h1⟩,h2⟩:=h
 have step:∀k j oj,ops[j]?=some oj->behind md ops i (k+1) j=true->∃e,e∈oj.after/\Region.binds md e=true/\(e.on=i∨behind md ops i k e.on=true):=λk j oj hj hb=>by
  simp only[behind,hj] at hb
  obtain⟨e,he,hb⟩:=Array.any_eq_true'.1 hb
  simp only[Bool.and_eq_true,Bool.or_eq_true,beq_iff_eq] at hb
  exact⟨e,he,hb.1,hb.2⟩
 have un:∀k j,behind md ops i k j=true->listed.getD j true=false:=by
  intro k
  induction k with
  |zero=>intro j hb;cases hb
  |succ k ih=>
   intro j hb
   cases hj:ops[j]? with
   |none=>simp only[behind,hj] at hb;cases hb
   |some oj=>
    obtain⟨e,he,hbi,hor⟩:=step k j oj hj hb
    cases hl:listed.getD j true with
    |false=>rfl
    |true=>
     have h3:=h1 j (Array.getElem?_eq_some_iff.1 hj).1
     rw[hl,hj] at h3
     simp only[Bool.not_true,Bool.false_or] at h3
     have h4:=Array.all_eq_true'.1 h3 e he
     rw[hbi] at h4
     simp only[Bool.not_true,Bool.false_or] at h4
     rcases hor with hor | hor
     ·rw[hor,h0] at h4;cases h4
     ·rw[ih _ hor] at h4;cases h4
 refine⟨λj=>decide (∃k,behind md ops i k j=true),λj oj hj hne hun _ hd=>?_,λj hd=>?_,λj oj hj hd=>?_⟩
 ·have h3:=h2 j (Array.getElem?_eq_some_iff.1 hj).1
  rw[hun,hj] at h3
  simp only[Bool.or_eq_true,beq_iff_eq,hne,false_or,Bool.false_eq_true,Bool.and_eq_true] at h3
  rcases h3 with h3 | h3
  ·exact h3
  ·exact absurd ⟨6,h3⟩ (of_decide_eq_false hd)
 ·obtain⟨k,hk⟩:=of_decide_eq_true hd
  exact un k j hk
 ·obtain⟨k,hk⟩:=of_decide_eq_true hd
  cases k with
  |zero=>cases hk
  |succ k=>
   obtain⟨e,he,hb,hor⟩:=step k j oj hj hk
   exact⟨e,he,hb,hor.imp id λh=>decide_eq_true ⟨k,h⟩⟩
def lexFromT(md:Region.Mode)(ops:Array Oper)(T:vM):Nat->Nat->Array Bool->Bool
 |0,_,listed=>(Region.ready md ops listed).isEmpty
 |fuel+1,k,listed=>(Region.ready md ops listed).contains k&&(CJD md ops T listed k||freeD md ops T listed k)&&lexFromT md ops T fuel (k+1) (listed.setIfInBounds k true)
def LexT(P:Program)(mt:Bool)(ops:Array Oper)(base n:Nat)(T:vM)(Q:AState->Prop):List Oper->Nat->AState->Prop
 |[],_,σ=>Q σ
 |o :: l,k,σ=>∃val upd touch,StepO P mt ops (base+16*k) σ o val upd touch/\(∀d,o.dst=some d->d<n)/\touch=(T k).1/\upd.map (·.1)=(T k).2/\LexT P mt ops base n T Q l (k+1) (σ.app o.dst val upd)
theorem AYW{Q:AState->Prop}:∀(l:List Oper) (k:Nat) (listed:Array Bool) (σ:AState),(∀j,l[j]?=ops[k+j]?)->lexFromT md ops T l.length k listed=true->LexT P mt ops base n T Q l k σ ->
  AnyE P mt md ops base n T Q l.length listed σ
 |[],_,_,_,_,hB,h=>⟨by simpa[lexFromT] using hB,h⟩
 |o :: l,k,listed,σ,hl,hB,h=>by
  have h0:ops[k]?=some o:=by simpa using (hl 0).symm
  simp only[List.length_cons,lexFromT,Bool.and_eq_true] at hB
  obtain⟨⟨hr,hf⟩,hB'⟩:=hB
  obtain⟨val,upd,touch,h1,h2,h3,h4,h5⟩:=h
  rw[Bool.or_eq_true] at hf
  have hrest:=(AYW l (k+1) _ _ (λj=>by have:=hl (j+1);simpa[Nat.add_assoc,Nat.add_comm 1 j] using this) hB' h5)
  rcases hf with hf | hf
  ·exact AUV h0 h3 h4 h2 (dep:=λ_=>false) (λ_ _ _ h=>by cases h) l.length listed σ (λj oj hj hne hun hno _=>BLP h0 hf j oj hj hne hun hno) (λ_ h=>by cases h) (by simpa using hr) h1 hrest
  ·obtain⟨dep,f1,f2,f3⟩:=BLD h0 hf
   exact AUV h0 h3 h4 h2 (dep:=dep) f3 l.length listed σ f1 f2 (by simpa using hr) h1 hrest
theorem E1{id:Nat}{c:Ctx}{Q:Exit->AState->Prop}{σ:AState}(hm:P.follows .mixedOrders=true)(hB:lexFromT .any ops T ops.size 0 (Array.replicate ops.size false)=true)
  (h:LexT P mt ops base c.n T (Q .normal) ops.toList 0 σ):CodeE P c (.region id ops true) Q σ:=by
 intro B ι a w hR
 refine wpIn_region_any hm ?_
 have hl:=AYW (md:=.any) ops.toList 0 (Array.replicate ops.size false) σ (by simp) (by simpa using hB) h
 have hR':Rel c B ι σ a { w with drawn:=w.drawn+1 }:=⟨hR.slots,hR.size,let ⟨Ds,h1,h0,h2,h3⟩:=hR.defers;⟨Ds,h1,h0,h2,λD hD=>⟨(h3 D hD).1,(h3 D hD).2.moved (Moved.drew hR.mv.heap _)⟩⟩,hR.mv.trans (Moved.drew hR.mv.heap _)⟩
 have:=CHT (Q:=Q) ops.toList.length _ σ hl B ι a _ hR'
 simpa using this
end
end Go.Sym
namespace Go.Sym
variable {P : Program} {B B' : Ft} {ι ι' : Nat -> Pl} {H H' : Heap} {D : Nat -> Prop} {w w' : World} {c : Ctx} {σ : AState} {Q : Exit -> AState -> Prop}
def zZ(K:AState->Prop)(Q:Exit->AState->Prop):Exit->AState->Prop
 | .normal,σ=>K σ
 |e,σ=>Q e σ
def BJH(id:Nat)(Q:Exit->AState->Prop):Exit->AState->Prop
 | .exit id',σ=>if id'=id then Q .normal σ else Q (.exit id') σ
 |e,σ=>Q e σ
theorem CodeE.seq{x y:Code}(h:CodeE P c x (zZ (CodeE P c y Q) Q) σ):CodeE P c (.seq x y) Q σ:=by
 intro B ι a w hR
 refine wpIn_seq (Code.wpIn_mono (λe a w hq=>?_) (h B ι a w hR))
 obtain⟨B',ι',σ',hq,hR'⟩:=hq
 cases e with
 |normal=>exact hq B' ι' a w hR'
 |_=>exact⟨B',ι',σ',hq,hR'⟩
theorem CodeE.skip(h:Q .normal σ):CodeE P c .skip Q σ:=λB ι _ _ hR=>wpIn_skip ⟨B,ι,σ,h,hR⟩
theorem CodeE.label{l:Nat}(h:Q .normal σ):CodeE P c (.label l) Q σ:=λB ι _ _ hR=>wpIn_label ⟨B,ι,σ,h,hR⟩
theorem CodeE.exit{id:Nat}(h:Q (.exit id) σ):CodeE P c (.exit id) Q σ:=λB ι _ _ hR=>wpIn_exit ⟨B,ι,σ,h,hR⟩
theorem CodeE.ret(h:Q .ret σ):CodeE P c .ret Q σ:=λB ι _ _ hR=>wpIn_ret ⟨B,ι,σ,h,hR⟩
theorem CodeE.cond{x:Operand}{t e:Code}{b:Bool}(hx:AX σ.sl x=.bool b)(ht:b=true->CodeE P c t Q σ)(he:b=false->CodeE P c e Q σ):CodeE P c (.cond x t e) Q σ:=by
 intro B ι a w hR
 have hv:=HS hR.slots x
 rw[hx] at hv
 exact wpIn_cond_split hv.d_inv.v_inv (λh=>ht h B ι a w hR) (λh=>he h B ι a w hR)
theorem CodeE.condAny{x:Operand}{t e:Code}(hx:AX σ.sl x=.d .anyB)(ht:CodeE P c t Q σ)(he:CodeE P c e Q σ):CodeE P c (.cond x t e) Q σ:=by
 intro B ι a w hR
 have hv:=HS hR.slots x
 rw[hx] at hv
 obtain⟨b,hb⟩:∃b,a.eval x=.bool b:=by
  generalize a.eval x=y at hv
  cases hv.d_inv;exact⟨_,rfl⟩
 exact wpIn_cond_split hb (λ_=>ht B ι a w hR) (λ_=>he B ι a w hR)
theorem CodeE.block{id:Nat}{x:Code}(h:CodeE P c x (BJH id Q) σ):CodeE P c (.block id x) Q σ:=by
 intro B ι a w hR
 refine wpIn_block (Code.wpIn_mono (λe a w hq=>?_) (h B ι a w hR))
 obtain⟨B',ι',σ',hq,hR'⟩:=hq
 cases e with
 |exit id'=>
  simp only[BJH] at hq
  simp only[Exit.inBlock]
  split
  ·rename_i he;rw[if_pos he] at hq;exact⟨B',ι',σ',hq,hR'⟩
  ·rename_i he;rw[if_neg he] at hq;exact⟨B',ι',σ',hq,hR'⟩
 |_=>exact⟨B',ι',σ',hq,hR'⟩
theorem CodeE.loop{x:Code}(I:Nat->AState->Prop)(n:Nat)(h0:I n σ)(round:∀n σ,I n σ->CodeE P c x (zZ (λσ'=>∃k,k<n/\I k σ') Q) σ):CodeE P c (.loop x) Q σ:=by
 intro B ι a w hR
 refine wpIn_loop_ghost (λn a w=>∃B ι σ,I n σ/\Rel c B ι σ a w) n ⟨B,ι,σ,h0,hR⟩ ?_
 rintro n a w ⟨B,ι,σ,hI,hR⟩
 refine Code.wpIn_mono (λe a w hq=>?_) (round n σ hI B ι a w hR)
 obtain⟨B',ι',σ',hq,hR'⟩:=hq
 cases e with
 |normal=>obtain⟨k,hk,hI⟩:=hq;exact⟨k,hk,B',ι',σ',hI,hR'⟩
 |_=>exact⟨B',ι',σ',hq,hR'⟩
theorem Jp{b:Frame}{a:Act}{k:List Item}{cs:List Frame}{x:Code}:step P (lone (b.atR a (.code (.scope x) :: k)) cs w)=.next (lone (b.atR a (.code x :: .inScope x :: k)) cs w):=
 step_lone_go (by simp[stepG,stepG.exec,Frame.atR])
theorem AUH{b:Frame}{a:Act}{k:List Item}{cs:List Frame}{x:Code}:step P (lone (b.atR a (.inScope x :: k)) cs w)=.next (lone (b.atR a k) cs w):=
 step_lone_go (by simp[stepG,stepG.exec,Frame.atR])
theorem R7{F:Fence}{n:Nat}{x:Code}{Q:Exit->Act->World->Prop}{a:Act}(h:x.wpIn F n P (Exit.noGoto Q) a w):(Code.scope x).wpIn F n P Q a w:=by
 intro b k cs hro hb hr
 have h0:(lone (b.atR a (.code (.scope x) :: k)) cs w).fenced P F:=fenced_calm hb hr rfl
 obtain⟨e,a₁,w₁,hq,harr⟩:=h b (.inScope x :: k) cs hro hb hr
 have hx:∀id,exitTo id (.inScope x :: k)=exitTo id k:=λid=>by simp[exitTo]
 cases e with
 |normal=>exact⟨.normal,a₁,w₁,hq,.head h0 Jp (StepsIn.trans harr (.one (fenced_calm hb hr rfl) AUH))⟩
 |exit id=>
  exact⟨.exit id,a₁,w₁,hq,λk' hk=>.head h0 Jp (harr.1 k' (by rw[hx];exact hk)),
   λhr' hk=>let ⟨k₁,h1,h2⟩:=harr.2 hr' (by rw[hx];exact hk);⟨k₁,h1,.head h0 Jp h2⟩⟩
 |goto l=>exact hq.elim
 |ret=>exact⟨_,a₁,w₁,hq,.of_steps (.one h0 Jp) harr⟩
 |panic ch=>exact⟨_,a₁,w₁,hq,.of_steps (.one h0 Jp) harr⟩
 |outgrown=>exact⟨_,a₁,w₁,hq,.of_steps (.one h0 Jp) harr⟩
def dP(H:Heap):List (Nat×HCell)->Prop
 |[]=>True
 |(i,x) :: r=>H i=x/\dP H r
end Go.Sym
namespace Go.Sym
variable {P : Program} {B B' : Ft} {ι ι' : Nat -> Pl} {H H' : Heap} {D : Nat -> Prop} {w w' : World} {c : Ctx} {σ : AState} {Q : Exit -> AState -> Prop}
def FnT(P:Program)(g:FuncId)(as:List AVal)(H:Heap)(val:AVal)(keep:List (Nat×HCell)):Prop:=
 BCY P g/\∀(B:Ft) (ι:Nat->Pl) (w:World) (vs:Array Value),Sv B ι H.dom as vs->HRel B ι H w ->
  Calls P g vs w λe w'=>∃v H',e=.returned v/\dP H' keep/\OZ B ι H w H' val v w'
def resOne(P:Program)(σ:AState):ResultVar->Option (AVal×List Prop)
 | .tmp t=>some (σ.sl t,[])
 | .cell a t=>if isAddr (σ.sl a) then AQP P σ.H t (σ.sl a) else none
where
 isAddr:AVal->Bool
  | .bptr .. | .rptr .. | .d (.eref ..)=>true
  |_=>false
def AHQ(P:Program)(σ:AState):List ResultVar->Option (List AVal×List Prop)
 |[]=>some ([],[])
 |r :: l=>match resOne P σ r,AHQ P σ l with
  |some (a,p),some (as,q)=>some (a :: as,p ++ q)
  |_,_=>none
def resP(P:Program)(fn:Func)(σ:AState)(K:AVal->Prop):Prop:=match AHQ P σ fn.results.toList with
 |some ([a],p)=>BG p/\K a
 |some (as,p)=>BG p/\K (AVB as)
 |none=>False
theorem CFK{a:AVal}{v:Value}(h:resOne.isAddr a=true)(hv:VRel B ι D a v):∃b,v=.pointer (some b):=by
 cases hv with
 |bptr=>exact⟨_,rfl⟩
 |rptr=>exact⟨_,rfl⟩
 |d hd=>cases hd<;>simp[resOne.isAddr] at h;exact⟨_,rfl⟩
 |_=>simp[resOne.isAddr] at h
def AYX(tmps:Array Value):ResultVar->Sem Value
 | .tmp t=>pure (tmps.getD t undef)
 | .cell x t=>do loadVar t (<-asAddr (tmps.getD x undef))
theorem ASB(fn:Func)(tmps:Array Value):results fn tmps=(do let vs <-fn.results.mapM (AYX tmps);pure (if h:vs.size=1 then vs[0] else .tuple vs)):=rfl
theorem oS{a:Act}(hs:∀t,VRel B ι σ.H.dom (σ.sl t) (a.tmps.getD t undef))(hH:HRel B ι σ.H w):∀(l:List ResultVar) (as:List AVal) (p:List Prop),AHQ P σ l=some (as,p)->BG p ->
  ∃vs:List Value,(l.mapM (AYX a.tmps)).run P w=.ok vs w/\vs.length=as.length /\
   ∀(j:Nat) (x:AVal) (y:Value),as[j]?=some x->vs[j]?=some y->VRel B ι σ.H.dom x y
 |[],as,p,h,_=>by simp only[AHQ,Option.some.injEq,Prod.mk.injEq] at h;obtain⟨rfl,_⟩:=h;exact⟨[],by simp,rfl,λj x y hx _=>by simp at hx⟩
 |r :: l,as,p,h,hp=>by
  simp only[AHQ] at h
  split at h
  ·rename_i x p1 as' p2 h1 h2
   simp only[Option.some.injEq,Prod.mk.injEq] at h
   obtain⟨rfl,rfl⟩:=h
   obtain⟨vs,h3,h4,h5⟩:=oS hs hH l as' p2 h2 (BE hp).2
   obtain⟨v,hv,hvr⟩:∃v,(AYX a.tmps r).run P w=.ok v w/\VRel B ι σ.H.dom x v:=by
    cases r with
    |tmp t=>simp only[resOne,Option.some.injEq,Prod.mk.injEq] at h1;obtain⟨rfl,_⟩:=h1;exact⟨_,rfl,hs t⟩
    |cell b t=>
     simp only[resOne] at h1
     split at h1
     ·rename_i hadd
      obtain⟨y,hy,hr⟩:=ALY h1 (BE hp).1 (hs b) hH
      obtain⟨ad,had⟩:=CFK hadd (hs b)
      refine⟨y,?_,hr⟩
      show ((do loadVar t (<-asAddr (a.tmps.getD b undef)):Sem Value)).run P w=_
      rw[had] at hy ⊢
      simpa[Instr.loadAt,Instr.sureAddr,asAddr] using hy
     ·cases h1
   refine⟨v :: vs,by rw[List.mapM_cons];simp only[Sem.run_bind,hv,h3,Result.andThen_ok,Sem.run_pure],by simp[h4],λj x y hx hy=>?_⟩
   cases j with
   |zero=>simp at hx hy;subst hx;subst hy;exact hvr
   |succ j=>exact h5 j x y (by simpa using hx) (by simpa using hy)
  ·cases h
theorem AUB{fn:Func}{a:Act}{K:AVal->Prop}(hs:∀t,VRel B ι σ.H.dom (σ.sl t) (a.tmps.getD t undef))(hH:HRel B ι σ.H w)(h:resP P fn σ K) :
  ∃v val,(results fn a.tmps).run P w=.ok v w/\K val/\VRel B ι σ.H.dom val v:=by
 have run:∀vs:List Value,(fn.results.toList.mapM (AYX a.tmps)).run P w=.ok vs w ->
   (results fn a.tmps).run P w=.ok (if h:vs.toArray.size=1 then vs.toArray[0] else .tuple vs.toArray) w:=λvs h=>by
  rw[ASB,Array.mapM_eq_mapM_toList]
  simp only[Sem.run_bind,Sem.run_map,h,Result.andThen_ok,Sem.run_pure]
 unfold resP at h
 split at h
 ·rename_i x p hr
  obtain⟨vs,h1,h2,h3⟩:=oS hs hH _ _ _ hr h.1
  obtain⟨v,rfl⟩:∃v,vs=[v]:=by
   match vs,h2 with
   |[v],_=>exact⟨v,rfl⟩
  exact⟨v,x,by rw[run _ h1];simp,h.2,h3 0 x v rfl rfl⟩
 ·rename_i as p hne hr
  obtain⟨vs,h1,h2,h3⟩:=oS hs hH _ _ _ hr h.1
  refine⟨.tuple vs.toArray,AVB as,?_,h.2,AXG (by simpa using h2) λj x y hx hy=>h3 j x y hx (by simpa using hy)⟩
  rw[run _ h1,dif_neg]
  intro h1'
  have:as.length=1:=by rw[<-h2];simpa using h1'
  match as,this with
  |[x],_=>exact hne x rfl
 ·exact h.elim
def turn:List Nat->World->World
 |[],w=>w
 |D :: r,w=>turn r (w.putObj D (.deferred none))
theorem BWB{fn:Func}{tmps:Array Value}{R:Ending->World->Prop}:∀(Ds:List Nat) (w:World),Ds.Nodup->(∀D∈Ds,w.heap[D]?=some (.deferred (some []))) ->
  (∃v,(results fn tmps).run P (turn Ds w)=.ok v (turn Ds w)/\R (.returned v) (turn Ds w))->LeavesInM Fence.wide 0 P fn tmps R (BAV Ds) .returning w
 |[],w,_,_,h=>h
 |D :: r,w,hn,hD,h=>by
  refine⟨by simp,.inl ⟨D,w.putObj D (.deferred none),rfl,run_takeDeferred (hD D (by simp)),BWB r _ (List.nodup_cons.1 hn).2 (λE hE=>?_) h⟩⟩
  have hne:E≠D:=λhe=>(List.nodup_cons.1 hn).1 (he ▸ hE)
  rw[World.putObj_heap_other hne]
  exact hD E (by simp[hE])
theorem ANR:∀(Ds:List Nat) (w':World),Ds.Nodup->(∀D∈Ds,w.heap.size<=D/\Quiet D (.deferred (some [])) ι' H' w')->Moved B ι H w B' ι' H' w'->Moved B ι H w B' ι' H' (turn Ds w')
 |[],_,_,_,m=>m
 |D :: r,w',hn,hD,m=>by
  obtain⟨h1,h2⟩:=hD D (by simp)
  refine ANR r _ (List.nodup_cons.1 hn).2 (λE hE=>?_) (m.put h2 (λ_ _ _ h=>by cases h) h1 _)
  obtain⟨h3,h4⟩:=hD E (by simp[hE])
  exact⟨h3,h4.put_other (λhe=>(List.nodup_cons.1 hn).1 (he ▸ hE))⟩
theorem BFT{fn:Func}{a:Act}{K:AVal->Prop}{R:Ending->World->Prop}(hR:Rel c B ι σ a w)(h:resP P fn σ K)
  (hpost:∀w' v val,Moved c.B0 c.ι0 c.H0 c.w0 B ι σ.H w'->K val->VRel B ι σ.H.dom val v->R (.returned v) w'):LeavesInM Fence.wide 0 P fn a.tmps R a.defers .returning w:=by
 obtain⟨Ds,h1,_,h2,h3⟩:=hR.defers
 rw[h1]
 have m:=ANR Ds w h2 h3 hR.mv
 obtain⟨v,val,h4,h5,h6⟩:=AUB hR.slots m.heap h
 exact BWB Ds w h2 (λD hD=>(h3 D hD).2.here) ⟨v,h4,hpost _ _ _ m h5 h6⟩
theorem AXR{f:FuncId}{fn:Func}{code:Code}{args:Array Value}{R:Ending->World->Prop}(hf:P.funcs[f]?=some fn)(hb:fn.body=some code)
  (h:code.wpIn (xH none) 0 P (bodyPostM Fence.wide 0 P fn R) { tmps:=args ++ Array.replicate (fn.ntmps-args.size) undef,defers:=[] } w):Calls P f args w R:=
 callsIn_wide.1 (callsIn_of_wp_marks (F:=Fence.wide) (n:=0) hf hb trivial h)
def ACC(as:List AVal):Nat->AVal:=λt=>as.getD t (.d (.v undef))
theorem AWB{as:List AVal}{vs:Array Value}{n:Nat}{mk:Bool}(ha:Sv B ι H.dom as vs)(hn:as.length<=n)(hH:HRel B ι H w):Rel ⟨B,ι,H,w,n,none,mk⟩ B ι ⟨ACC as,H⟩ { tmps:=vs ++ Array.replicate (n-vs.size) undef,defers:=[] } w:=by
 refine⟨λt=>?_,?_,⟨[],rfl,λ_=>rfl,List.nodup_nil,λD hD=>by cases hD⟩,Moved.refl hH⟩
 ·simp only[ACC]
  have hl:=ha.1
  by_cases ht:t<as.length
  ·have:=ha.2 t as[t] vs[t] (by simp) (by simp[hl,ht])
   rw[List.getD_eq_getElem?_getD,List.getElem?_eq_getElem ht]
   have e1:(vs ++ Array.replicate (n-vs.size) undef).getD t undef=vs[t]:=by
    simp[Array.getElem?_append,hl,ht]
   rw[e1];exact this
  ·rw[List.getD_eq_getElem?_getD,List.getElem?_eq_none (by omega)]
   have e1:(vs ++ Array.replicate (n-vs.size) undef).getD t undef=undef:=by
    simp only[Array.getD_eq_getD_getElem?,Array.getElem?_append]
    rw[if_neg (by omega)]
    simp only[Array.getElem?_replicate]
    split<;>rfl
   rw[e1];exact .d (.v _)
 ·have:=ha.1
  simp[this];omega
end Go.Sym
namespace Go.Sym
variable {P : Program} {B B' : Ft} {ι ι' : Nat -> Pl} {H H' : Heap} {D : Nat -> Prop} {w w' : World}
mutual
def bQ(ρ:Nat->Nat):AVal->AVal
 | .d x=>.d x
 | .agg cs=>.agg (renL ρ cs)
 | .tup cs=>.tup (renL ρ cs)
 | .bptr id c=>.bptr (ρ id) c
 | .rptr id k i c=>.rptr (ρ id) k i c
 | .own id k i n=>.own (ρ id) k i n
 | .fn f a b=>.fn f (renL ρ a) (renL ρ b)
 | .mref id=>.mref (ρ id)
 | .any=>.any
 | .opt g a=>.opt g (bQ ρ a)
def renL(ρ:Nat->Nat):List AVal->List AVal
 |[]=>[]
 |a :: r=>bQ ρ a :: renL ρ r
end
mutual
def Sy(p:Nat->Bool):AVal->Bool
 | .d _=>true
 | .agg cs=>MM p cs
 | .tup cs=>MM p cs
 | .bptr id _=>p id
 | .rptr id _ _ _=>p id
 | .own id _ _ _=>p id
 | .fn _ a b=>MM p a&&MM p b
 | .mref id=>p id
 | .any=>true
 | .opt _ a=>Sy p a
def MM(p:Nat->Bool):List AVal->Bool
 |[]=>true
 |a :: r=>Sy p a&&MM p r
end
theorem Yr(ρ:Nat->Nat):∀(l:List AVal) (j:Nat),(renL ρ l)[j]?=(l[j]?).map (bQ ρ)
 |[],j=>by simp[renL]
 |a :: l,0=>by simp[renL]
 |a :: l,j+1=>by simp[renL,Yr ρ l j]
theorem Td(ρ:Nat->Nat):∀l:List AVal,(renL ρ l).length=l.length
 |[]=>rfl
 |a :: l=>by simp[renL,Td ρ l]
theorem BBQ{p:Nat->Bool}:∀{l:List AVal} {j:Nat} {a:AVal},MM p l=true->l[j]?=some a->Sy p a=true
 |[],j,a,_,h=>by simp at h
 |b :: l,0,a,hok,h=>by simp at h;subst h;simp only[MM,Bool.and_eq_true] at hok;exact hok.1
 |b :: l,j+1,a,hok,h=>by simp only[MM,Bool.and_eq_true] at hok;exact BBQ hok.2 (by simpa using h)
mutual
theorem BNG{ρ:Nat->Nat}{p:Nat->Bool}{D':Nat->Prop}(hp:∀i,p i=true->D (ρ i)/\ι (ρ i)=ι' i):∀(a:AVal) (y:Value),VRel B ι' D' a y->Sy p a=true->VRel B ι D (bQ ρ a) y
 | .d x,y,h,_=>by simp only[bQ];exact .d h.d_inv
 | .agg cs,y,h,ok=>by
  simp only[bQ];simp only[Sy] at ok
  cases h with
  |agg hl hr=>
   exact .agg (by rw[hl,Td]) λj x y hx hy=>by
    rw[Yr,Option.map_eq_some_iff] at hx
    obtain⟨x',hx',rfl⟩:=hx
    exact pK hp cs ok j x' y hx' (hr j x' y hx' hy)
 | .tup cs,y,h,ok=>by
  simp only[bQ];simp only[Sy] at ok
  cases h with
  |tup hl hr=>
   exact .tup (by rw[hl,Td]) λj x y hx hy=>by
    rw[Yr,Option.map_eq_some_iff] at hx
    obtain⟨x',hx',rfl⟩:=hx
    exact pK hp cs ok j x' y hx' (hr j x' y hx' hy)
 | .bptr id c,y,h,ok=>by simp only[bQ];cases h;rw[<-(hp id (by simpa[Sy] using ok)).2];exact .bptr (hp id (by simpa[Sy] using ok)).1
 | .rptr id k i c,y,h,ok=>by simp only[bQ];cases h;rw[<-(hp id (by simpa[Sy] using ok)).2];exact .rptr (hp id (by simpa[Sy] using ok)).1
 | .own id k i n,y,h,ok=>by
  simp only[bQ]
  cases h with
  |own h1 h2 h3=>rw[<-(hp id (by simpa[Sy] using ok)).2] at h3 ⊢;exact .own (hp id (by simpa[Sy] using ok)).1 h2 h3
 | .fn f u v,y,h,ok=>by
  simp only[bQ];simp only[Sy,Bool.and_eq_true] at ok
  cases h with
  |fn h1 h2 h3 h4=>
   exact .fn (by rw[h1,Td]) (by rw[h2,Td])
    (λj x y hx hy=>by
     rw[Yr,Option.map_eq_some_iff] at hx
     obtain⟨x',hx',rfl⟩:=hx
     exact pK hp u ok.1 j x' y hx' (h3 j x' y hx' hy))
    λj x y hx hy=>by
     rw[Yr,Option.map_eq_some_iff] at hx
     obtain⟨x',hx',rfl⟩:=hx
     exact pK hp v ok.2 j x' y hx' (h4 j x' y hx' hy)
 | .mref id,y,h,ok=>by simp only[bQ];cases h;rw[<-(hp id (by simpa[Sy] using ok)).2];exact .mref (hp id (by simpa[Sy] using ok)).1
 | .any,y,_,_=>by simp only[bQ];exact .any
 | .opt g a,y,h,ok=>by
  simp only[bQ];simp only[Sy] at ok
  cases h with
  |opt h1 h2=>exact .opt (λhg=>BNG hp a y (h1 hg) ok) h2
theorem pK{ρ:Nat->Nat}{p:Nat->Bool}{D':Nat->Prop}(hp:∀i,p i=true->D (ρ i)/\ι (ρ i)=ι' i):∀(l:List AVal),MM p l=true->∀(j:Nat) (x:AVal) (y:Value),l[j]?=some x->VRel B ι' D' x y->VRel B ι D (bQ ρ x) y
 |[],_,j,x,y,hx,_=>by simp at hx
 |a :: l,ok,0,x,y,hx,h=>by
  simp at hx;subst hx;simp only[MM,Bool.and_eq_true] at ok
  exact BNG hp a y h ok.1
 |a :: l,ok,j+1,x,y,hx,h=>by
  simp only[MM,Bool.and_eq_true] at ok
  exact pK hp l ok.2 j x y (by simpa using hx) h
end
def renO(ρ:Nat->Nat):AObj->AObj
 | .box es=>.box (renL ρ es)
 | .abox es m g=>.abox (renL ρ es) m g
 | .miter m a b c d=>.miter (ρ m) a b c d
 |o=>o
def okO(p:Nat->Bool):AObj->Bool
 | .box es=>MM p es
 | .abox es _ _=>MM p es
 | .miter m _ _ _ _=>p m
 |_=>true
theorem COY{ρ:Nat->Nat}{p:Nat->Bool}{D':Nat->Prop}(hp:∀i,p i=true->D (ρ i)/\ι (ρ i)=ι' i){q:Nat}{o:AObj}{x:Option Obj}(h:ORel B ι' D' q o x)(ok:okO p o=true):ORel B ι D q (renO ρ o) x:=by
 cases o with
 |box es=>
  simp only[renO]
  cases h with
  |box hsz hr=>
   exact .box (by rw[hsz,Td]) λj a y ha hy=>by
    rw[Yr,Option.map_eq_some_iff] at ha
    obtain⟨x',hx',rfl⟩:=ha
    exact pK hp es ok j x' y hx' (hr j x' y hx' hy)
 |row k n get=>simp only[renO];cases h with | row a b c d=>exact .row a b c d
 |imap k z has get st pend=>simp only[renO];cases h with | imap a=>exact .imap a
 |kmap k z has get=>simp only[renO];cases h with | kmap a=>exact .kmap a
 |abox es m g=>
  simp only[renO]
  cases h with
  |abox hsz hr hb=>
   exact .abox (by rw[hsz,Td]) (λj a y ha hy=>by
    rw[Yr,Option.map_eq_some_iff] at ha
    obtain⟨x',hx',rfl⟩:=ha
    exact pK hp es ok j x' y hx' (hr j x' y hx' hy)) (by rw[Td];exact hb)
 |nbox ds m z g=>simp only[renO];cases h with | nbox a b c=>exact .nbox a b c
 |miter m a b c d=>simp only[renO];cases h with | miter hD h1 h2 h3 h4 h5=>rw[<-(hp m ok).2];exact .miter (hp m ok).1 h1 h2 h3 h4 h5
end Go.Sym
namespace Go.Sym
variable {P : Program} {B B' : Ft} {ι ι' : Nat -> Pl} {H H' : Heap} {D : Nat -> Prop} {w w' : World}
def JS:List (Nat×AObj)->Nat->Option AObj
 |[],_=>none
 |(j,o) :: r,i=>if i=j then some o else JS r i
def AC(L:List (Nat×AObj)):Heap:=λi=>match JS L i with
 |some o=>.live o
 |none=>.none
def Cu:List (Nat×HCell)->Nat->Option HCell
 |[],_=>none
 |(j,c) :: r,i=>if i=j then some c else Cu r i
def renC(ρ:Nat->Nat):HCell->HCell
 | .live o=>.live (renO ρ o)
 |c=>c
def Qo(ρ:Nat->Nat):List (Nat×HCell)->List (Nat×HCell)
 |[]=>[]
 |(i,c) :: r=>(ρ i,renC ρ c) :: Qo ρ r
def cellsOf(ρ:Nat->Nat):List (Nat×AObj)->List (Nat×HCell)
 |[]=>[]
 |(i,o) :: r=>(ρ i,.live (renO ρ o)) :: cellsOf ρ r
def nodup:List Nat->Bool
 |[]=>true
 |a :: r=>!r.contains a&&nodup r
def AEN:HCell->Bool
 | .none=>false
 |_=>true
def MK(p:Nat->Bool):HCell->Bool
 | .live o=>okO p o
 |_=>true
def ALS(as:List AVal)(L:List (Nat×AObj))(val:AVal)(keep:List (Nat×HCell))(ρ:Nat->Nat)(r:Nat):Bool:=
 MM (λi=>(JS L i).isSome) as&&L.all (λx=>okO (λi=>(JS L i).isSome) x.2)&&L.all (λx=>(Cu keep x.1).isSome&&!(Nat.ble r (ρ x.1)&&Nat.blt (ρ x.1) (r+16))) &&
 keep.all (λx=>AEN x.2&&MK (λi=>(Cu keep i).isSome) x.2&&((JS L x.1).isSome||(Nat.ble r (ρ x.1)&&Nat.blt (ρ x.1) (r+16)))) &&
 Sy (λi=>(Cu keep i).isSome) val&&nodup (keep.map λx=>ρ x.1)
theorem YD:∀{l:List (Nat×HCell)} {i:Nat} {c:HCell},Cu l i=some c->(i,c)∈l
 |[],i,c,h=>by simp[Cu] at h
 |(j,d) :: r,i,c,h=>by
  simp only[Cu] at h
  split at h
  ·rename_i e;cases h;subst e;simp
  ·exact List.mem_cons_of_mem _ (YD h)
theorem Zq:∀{l:List (Nat×AObj)} {i:Nat} {o:AObj},JS l i=some o->(i,o)∈l
 |[],i,c,h=>by simp[JS] at h
 |(j,d) :: r,i,c,h=>by
  simp only[JS] at h
  split at h
  ·rename_i e;cases h;subst e;simp
  ·exact List.mem_cons_of_mem _ (Zq h)
theorem APX:∀{l:List (Nat×HCell)} {i:Nat} {c:HCell},(i,c)∈l->∃c',Cu l i=some c'
 |(j,d) :: r,i,c,h=>by
  simp only[Cu]
  split
  ·exact⟨_,rfl⟩
  ·rename_i hne
   rcases List.mem_cons.1 h with h | h
   ·cases h;exact absurd rfl hne
   ·exact APX h
theorem XJ:∀{l:List Nat},nodup l=true->l.Nodup
 |[],_=>List.nodup_nil
 |a :: r,h=>by
  simp only[nodup,Bool.and_eq_true,Bool.not_eq_true'] at h
  refine List.nodup_cons.2 ⟨λhm=>?_,XJ h.2⟩
  have:=h.1
  simp[hm] at this
theorem AAH{ρ:Nat->Nat}{keep:List (Nat×HCell)}(hn:(keep.map λx=>ρ x.1).Nodup){i j:Nat}{c d:HCell}(hi:(i,c)∈keep)(hj:(j,d)∈keep)(h:ρ i=ρ j):i=j/\c=d:=by
 induction keep with
 |nil=>cases hi
 |cons x r ih=>
  simp only[List.map_cons,List.nodup_cons] at hn
  rcases List.mem_cons.1 hi with e1 | hi<;>rcases List.mem_cons.1 hj with e2 | hj
  ·rw[<-e1] at e2;cases e2;exact⟨rfl,rfl⟩
  ·rw[<-e1] at hn;exact absurd (List.mem_map.2 ⟨_,hj,h.symm⟩) hn.1
  ·rw[<-e2] at hn;exact absurd (List.mem_map.2 ⟨_,hi,h⟩) hn.1
  ·exact ih hn.2 hi hj
theorem AKN:∀{keep:List (Nat×HCell)} {H:Heap},dP H keep->∀{i:Nat} {c:HCell},(i,c)∈keep->H i=c
 |[],_,_,i,c,h=>by cases h
 |(j,d) :: r,H,h,i,c,hm=>by
  rcases List.mem_cons.1 hm with hm | hm
  ·cases hm;exact h.1
  ·exact AKN h.2 hm
theorem Xp{ρ:Nat->Nat}:∀{keep:List (Nat×HCell)} (H:Heap),(keep.map λx=>ρ x.1).Nodup->∀{i:Nat} {c:HCell},(i,c)∈keep->DV H (Qo ρ keep) (ρ i)=renC ρ c
 |[],_,_,i,c,h=>by cases h
 |(j,d) :: r,H,hn,i,c,h=>by
  simp only[List.map_cons,List.nodup_cons] at hn
  simp only[Qo,DV]
  rcases List.mem_cons.1 h with h | h
  ·cases h
   rw[Gx]
   ·exact HM _ _ _
   ·intro hm
    have:∀l:List (Nat×HCell),(Qo ρ l).map (·.1)=l.map λx=>ρ x.1:=λl=>by
     induction l with
     |nil=>rfl
     |cons x l ih=>simp[Qo,ih]
    rw[this] at hm
    exact hn.1 hm
  ·exact Xp _ hn.2 h
theorem ATM(ρ:Nat->Nat)(l:List (Nat×HCell)):(Qo ρ l).map (·.1)=l.map λx=>ρ x.1:=by
 induction l with
 |nil=>rfl
 |cons x l ih=>simp[Qo,ih]
open Classical in
theorem BGS{as:List AVal}{L:List (Nat×AObj)}{val:AVal}{keep:List (Nat×HCell)}(ρ:Nat->Nat)(r:Nat)(ok:ALS as L val keep ρ r=true)(H:Heap)(hfresh:∀i,r<=i->i<r+16->H i=.none)
  (hH:HRel B ι H w) (hobj:∀i o,JS L i=some o->(∃o',H (ρ i)=.live o')/\ORel B (λi=>ι (ρ i)) (AC L).dom (ι (ρ i)).cap o (w.heap[(ι (ρ i)).b]?)) :
  HRel B (λi=>ι (ρ i)) (AC L) w/\∀v w',(∃H',dP H' keep/\OZ B (λi=>ι (ρ i)) (AC L) w H' val v w')->OZ B ι H w (DV H (Qo ρ keep)) (bQ ρ val) v w':=by
 simp only[ALS,Bool.and_eq_true,List.all_eq_true] at ok
 obtain⟨⟨⟨⟨⟨ok1,ok2⟩,ok3⟩,ok4⟩,ok5⟩,ok6⟩:=ok
 have hnd:=XJ ok6
 have hcells:∀i o,JS L i=some o->∃o',H (ρ i)=.live o'/\True:=λi o hi=>(hobj i o hi).1.imp λ_ h=>⟨h,trivial⟩
 have dU:∀i o,AC L i=.live o↔JS L i=some o:=λi o=>by
  unfold AC;cases hg:JS L i<;>simp
 have hdom:∀i,(JS L i).isSome=true->(AC L).dom i:=λi hi=>by
  unfold Heap.dom AC
  obtain⟨o,ho⟩:=Option.isSome_iff_exists.1 hi
  rw[ho];simp
 have LK:∀i o,JS L i=some o->∃c,(i,c)∈keep/\¬ (r<=ρ i/\ρ i<r+16):=λi o hi=>by
  have:=ok3 (i,o) (Zq hi)
  simp only[Bool.not_eq_true',Bool.and_eq_false_iff] at this
  obtain⟨h1,h2⟩:=this
  obtain⟨c,hc⟩:=Option.isSome_iff_exists.1 h1
  refine⟨c,YD hc,λh3=>?_⟩
  rcases h2 with h2 | h2
  ·have:Nat.ble r (ρ i)=true:=by simpa using h3.1
   rw[this] at h2;cases h2
  ·have:Nat.blt (ρ i) (r+16)=true:=by simpa using h3.2
   rw[this] at h2;cases h2
 have Kspec:∀i c,(i,c)∈keep->AEN c=true/\MK (λi=>(Cu keep i).isSome) c=true/\((∃o,JS L i=some o)∨(r<=ρ i/\ρ i<r+16)):=λi c hi=>by
  have:=ok4 (i,c) hi
  simp only[Bool.and_eq_true,Bool.or_eq_true,Nat.ble_eq,Nat.blt_eq] at this
  exact⟨this.1.1,this.1.2,this.2.imp (λh=>Option.isSome_iff_exists.1 h) id⟩
 -- the callee's side
 have hH':HRel B (λi=>ι (ρ i)) (AC L) w:=by
  refine⟨λi o hi=>?_,λi j o o' hi hj hij=>?_,λi o hi=>?_,hH.imm⟩
  ·have hg:=(dU i o).1 hi
   exact (hobj i o hg).2
  ·have h1:=(dU i o).1 hi
   have h2:=(dU j o').1 hj
   obtain⟨c1,k1,_⟩:=LK i o h1
   obtain⟨c2,k2,_⟩:=LK j o' h2
   exact (AAH hnd k1 k2 (hH.inj _ _ _ _ (hcells i o h1).choose_spec.1 (hcells j o' h2).choose_spec.1 hij)).1
  ·exact hH.sep _ _ (hcells i o ((dU i o).1 hi)).choose_spec.1
 refine⟨hH',?_⟩
 rintro v w' ⟨H',hk,B',ι',hm,hv⟩
 -- the caller's
 let ι2:Nat->Pl:=λj=>if hj:∃i c,(i,c)∈keep/\JS L i=none/\ρ i=j then ι' (Classical.choose hj) else ι j
 have Hfresh:∀i c,(i,c)∈keep->JS L i=none->H (ρ i)=.none:=λi c hi hn=>by
  rcases (Kspec i c hi).2.2 with⟨o,ho⟩ | hr
  ·rw[ho] at hn;cases hn
  ·exact hfresh _ hr.1 hr.2
 have ι2_old:∀j,H.dom j->ι2 j=ι j:=λj hj=>by
  show (if hj:_ then _ else _)=_
  rw[dif_neg]
  rintro⟨i,c,h1,h2,rfl⟩
  exact hj (Hfresh i c h1 h2)
 have ι2_new:∀i c,(i,c)∈keep->JS L i=none->ι2 (ρ i)=ι' i:=λi c h1 h2=>by
  have hex:∃i' c',(i',c')∈keep/\JS L i'=none/\ρ i'=ρ i:=⟨i,c,h1,h2,rfl⟩
  show (if hj:_ then _ else _)=_
  rw[dif_pos hex]
  obtain⟨c',h3,_,h5⟩:=Classical.choose_spec hex
  rw[(AAH hnd h3 h1 h5).1]
 have key:∀i c,(i,c)∈keep->ι2 (ρ i)=ι' i:=λi c hi=>by
  cases hg:JS L i with
  |none=>exact ι2_new i c hi hg
  |some o=>
   obtain⟨_,hl,_⟩:=hcells i o hg
   rw[ι2_old _ (by unfold Heap.dom;rw[hl];simp)]
   exact ((hm.im i (hdom i (by simp[hg]))).2).symm
 have inK:∀i c,(i,c)∈keep->DV H (Qo ρ keep) (ρ i)=renC ρ c:=λi c hi=>Xp H hnd hi
 have notK:∀j,(∀i c,(i,c)∈keep->ρ i≠j)->DV H (Qo ρ keep) j=H j:=λj hj=>Gx _ _ _ (by
  rw[ATM]
  intro hmem
  obtain⟨⟨i,c⟩,h1,h2⟩:=List.mem_map.1 hmem
  exact hj i c h1 h2)
 have domK:∀i c,(i,c)∈keep->(DV H (Qo ρ keep)).dom (ρ i):=λi c hi=>by
  unfold Heap.dom;rw[inK i c hi]
  have:=(Kspec i c hi).1
  cases c<;>simp[renC,AEN] at this ⊢
 have up:∀i,(Cu keep i).isSome=true->(DV H (Qo ρ keep)).dom (ρ i)/\ι2 (ρ i)=ι' i:=λi hi=>by
  obtain⟨c,hc⟩:=Option.isSome_iff_exists.1 hi
  exact⟨domK i c (YD hc),key i c (YD hc)⟩
 have cases':∀j,(∃i c,(i,c)∈keep/\ρ i=j)∨(∀i c,(i,c)∈keep->ρ i≠j):=λj=>by
  by_cases hj:∃i c,(i,c)∈keep/\ρ i=j
  ·exact .inl hj
  ·exact .inr λi c h1 h2=>hj ⟨i,c,h1,h2⟩
 have im:∀j,H.dom j->(DV H (Qo ρ keep)).dom j/\ι2 j=ι j:=λj hj=>⟨by
  rcases cases' j with⟨i,c,h1,rfl⟩ | hn
  ·exact domK i c h1
  ·unfold Heap.dom;rw[notK j hn];exact hj,ι2_old j hj⟩
 have apart:∀j o,H j=.live o->(∀i c,(i,c)∈keep->ρ i≠j)->∀i o',AC L i=.live o'->(ι (ρ i)).b≠(ι j).b:=λj o hj hn i o' hi he=>by
  have hg:=(dU i o').1 hi
  obtain⟨c,hc,_⟩:=LK i o' hg
  exact hn i c hc (hH.inj _ _ _ _ (hcells i o' hg).choose_spec.1 hj he)
 have liveK:∀i c o,(i,c)∈keep->DV H (Qo ρ keep) (ρ i)=.live o->∃o',c=.live o'/\o=renO ρ o'/\H' i=.live o':=λi c o hi hl=>by
  rw[inK i c hi] at hl
  cases c with
  |live o'=>simp only[renC,HCell.live.injEq] at hl;exact⟨o',rfl,hl.symm,AKN hk hi⟩
  |none=>cases hl
  |dead=>cases hl
 refine⟨B',ι2,⟨hm.bm,?_,im,⟨?_,?_,?_,hm.heap.imm⟩,?_,?_,hm.size,hm.calm⟩,?_⟩
 ·intro b c hb
  rcases hm.bn b c hb with h1 | h1 | ⟨i,o,h1,h2⟩
  ·exact .inl h1
  ·exact .inr (.inl h1)
  ·exact .inr (.inr ⟨ρ i,_,(hcells i o ((dU i o).1 h1)).choose_spec.1,h2⟩)
 ·intro j o hj
  rcases cases' j with⟨i,c,h1,rfl⟩ | hn
  ·obtain⟨o',rfl,rfl,hl⟩:=liveK i c o h1 hj
   rw[key i _ h1]
   exact COY up (hm.heap.obj i o' hl) (Kspec i _ h1).2.1
  ·rw[notK j hn] at hj
   have hd:H.dom j:=by unfold Heap.dom;rw[hj];simp
   rw[ι2_old j hd,hm.frame _ (Mz hH hj) (apart j o hj hn)]
   exact (hH.obj j o hj).mono hm.bm im
 ·intro i j o1 o2 hi hj hij
  have BUC:∀a c j o o',(a,c)∈keep->DV H (Qo ρ keep) (ρ a)=.live o->(∀i c,(i,c)∈keep->ρ i≠j)->H j=.live o'->(ι2 (ρ a)).b≠(ι2 j).b:=λa c j o o' h1 h2 hn hj he=>by
   obtain⟨o3,rfl,rfl,hl⟩:=liveK a c o h1 h2
   have hd:H.dom j:=by unfold Heap.dom;rw[hj];simp
   rw[key a _ h1,ι2_old j hd] at he
   rcases hm.own a o3 hl with⟨i0,o0,h3,h4⟩ | h3
   ·exact apart j o' hj hn i0 o0 h3 (h4.trans he)
   ·have:=Mz hH hj
    omega
  rcases cases' i with⟨a,c,h1,rfl⟩ | hn1<;>rcases cases' j with⟨b,d,h2,rfl⟩ | hn2
  ·obtain⟨o3,rfl,rfl,hl1⟩:=liveK a c o1 h1 hi
   obtain⟨o4,rfl,rfl,hl2⟩:=liveK b d o2 h2 hj
   rw[key a _ h1,key b _ h2] at hij
   rw[hm.heap.inj a b _ _ hl1 hl2 hij]
  ·rw[notK j hn2] at hj
   exact absurd hij (BUC a c j o1 o2 h1 hi hn2 hj)
  ·rw[notK i hn1] at hi
   exact absurd hij.symm (BUC b d i o2 o1 h2 hj hn1 hi)
  ·rw[notK i hn1] at hi;rw[notK j hn2] at hj
   have hd1:H.dom i:=by unfold Heap.dom;rw[hi];simp
   have hd2:H.dom j:=by unfold Heap.dom;rw[hj];simp
   rw[ι2_old i hd1,ι2_old j hd2] at hij
   exact hH.inj i j _ _ hi hj hij
 ·intro j o hj
  rcases cases' j with⟨i,c,h1,rfl⟩ | hn
  ·obtain⟨o',rfl,rfl,hl⟩:=liveK i c o h1 hj
   rw[key i _ h1];exact hm.heap.sep i o' hl
  ·rw[notK j hn] at hj
   have hd:H.dom j:=by unfold Heap.dom;rw[hj];simp
   rw[ι2_old j hd]
   cases hb:B' (ι j).b with
   |none=>rfl
   |some x=>
    exfalso
    rcases hm.bn _ _ hb with h1 | h1 | ⟨i,o',h1,h2⟩
    ·rw[hH.sep j o hj] at h1;cases h1
    ·have:=Mz hH hj;omega
    ·exact apart j o hj hn i o' h1 h2
 ·intro j o hj
  rcases cases' j with⟨i,c,h1,rfl⟩ | hn
  ·obtain⟨o',rfl,rfl,hl⟩:=liveK i c o h1 hj
   rw[key i _ h1]
   rcases hm.own i o' hl with⟨i0,o0,h3,h4⟩ | h3
   ·exact .inl ⟨ρ i0,_,(hcells i0 o0 ((dU i0 o0).1 h3)).choose_spec.1,h4⟩
   ·exact .inr h3
  ·rw[notK j hn] at hj
   have hd:H.dom j:=by unfold Heap.dom;rw[hj];simp
   exact .inl ⟨j,o,hj,by rw[ι2_old j hd]⟩
 ·intro b hb hno
  exact hm.frame b hb λi o hi=>hno (ρ i) _ (hcells i o ((dU i o).1 hi)).choose_spec.1
 ·exact BNG up val v hv ok5
theorem FnT.at{g:FuncId}{as:List AVal}{L:List (Nat×AObj)}{val:AVal}{keep:List (Nat×HCell)}(h:FnT P g as (AC L) val keep)(ρ:Nat->Nat)(r:Nat)(ok:ALS as L val keep ρ r=true)(H:Heap)(hfresh:∀i,r<=i->i<r+16->H i=.none)
  {vs:Array Value} (hH:HRel B ι H w) (ha':Sv B (λi=>ι (ρ i)) (AC L).dom as vs) (hobj:∀i o,JS L i=some o->(∃o',H (ρ i)=.live o')/\ORel B (λi=>ι (ρ i)) (AC L).dom (ι (ρ i)).cap o (w.heap[(ι (ρ i)).b]?)) :
  Calls P g vs w λe w'=>∃v,e=.returned v/\OZ B ι H w (DV H (Qo ρ keep)) (bQ ρ val) v w':=by
 obtain⟨hH',fr⟩:=BGS ρ r ok H hfresh hH hobj
 refine Calls.mono (h.2 B _ w vs ha' hH') ?_
 rintro e w' ⟨v,H',rfl,hk,hd⟩
 exact⟨v,rfl,fr v w' ⟨H',hk,hd⟩⟩
end Go.Sym
