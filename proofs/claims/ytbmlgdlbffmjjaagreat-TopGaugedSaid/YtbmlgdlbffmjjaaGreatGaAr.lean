/- Arguments that came in, as data; and what a call that owns nothing leaves. -/
import Derived.Test.YtbmlgdlbffmjjaaGreatGaY
import Derived.Test.YtbmlgdlbffmjjaaGreatRows
import Derived.WalkKit
import Derived.ProofKit
import Derived.OpenShut
import Derived.ShutString
import Derived.ChangeOld
import Derived.Below
import Derived.ChangeArms
set_option linter.unusedVariables false
set_option linter.unusedSimpArgs false
set_option maxRecDepth 100000
namespace Go.Bal
open Go Go.Sym Go.Proofs Go.ChangeShapes Go.WideShapes Go.RowKit
theorem BQZ{α:Type}[Inhabited α](f:Nat->α){n i:Nat}(h:i<n):gD ((List.range n).map f) i=f i:=by
 simp[gD,List.getD_eq_getElem?_getD,h]
def J1(w:World):Kb:=λb=>match w.heap[b]? with
 |some (.cells c _ _)=>some c
 |_=>none
theorem BRU(w:World)(ι:Nat->Pl):HRel (J1 w) ι (AC []) w:=by
 refine⟨λi o h=>by simp[AC,MP] at h,λi j o o' h=>by simp[AC,MP] at h,λi o h=>by simp[AC,MP] at h,λb c h=>?_⟩
 unfold J1 at h
 split at h
 ·rename_i c' e fr hc
  cases h
  exact⟨e,fr,hc⟩
 ·cases h
theorem AVJ{w:World}{b off:Nat}{v:Value}(h:w.cell? ⟨b,off,none⟩=some v):∃c,J1 w b=some c/\c[off]?=some v:=by
 unfold World.cell? at h
 simp only at h
 split at h
 ·rename_i c e fr hc
  simp only[Option.isSome_none,Bool.false_eq_true,↓reduceIte] at h
  exact⟨c,by unfold J1;rw[hc],h⟩
 ·cases h
section
variable {X : Type} {enc : TypeId × Value -> X} {P : Program} {w : World} {base : Nat} {spare : Nat -> Bool} {held : Bool}
def BTF(X:Type)(enc:TypeId×Value->X)(P:Program)(w:World)(base:Nat)(spare:Nat->Bool)(held:Bool)(e:TypeId)(k:Nat){α:Type}(en:α->DVal):Prop:=
 P.cellsOf e=k/\∀(fuel:Nat) (cs:List Value) (x:DataW X×List MemPlace),DataW.trod enc P w base spare held fuel e cs=some x->cs.length=k->∃d:α,(en d).cells1=cs.map DVal.v/\HO (en d).cells1=true
theorem CAI{α:Type}[Inhabited α]{t e:TypeId}{k:Nat}{en:α->DVal}(hk:0<k)(ht:P.underlying t=some (.slice e))(he:BTF X enc P w base spare held e k en){fuel:Nat}{v:Value}{x:DataW X×List MemPlace}
  (h:DataW.trod enc P w base spare held fuel t [v]=some x):∃l:List α,DRel (J1 w) (lst k l.length λi=>en (gD l i)) v:=by
 rcases DataW.trod_slice ht h with⟨h0,_⟩ | ⟨a,len,cap,elems,rest,n,_,hv,_,hb,hl,hm,hlen,hel,_⟩
 ·cases h0
  exact⟨[],.nil (λh=>by cases h) (.inl rfl)⟩
 ·cases hv
  by_cases h0:len=0
  ·subst h0
   exact⟨[],.nil (λh=>by cases h) (.inr (by simp))⟩
  obtain⟨hck,hE⟩:=he
  have each:∀i,∃(d:α) (cs:List Value),i<len->w.cells? base (a.add (i*k)) k=some cs/\(en d).cells1=cs.map DVal.v/\HO (en d).cells1=true:=by
   intro i
   by_cases hi:i<len
   ·have h1:=hel i hi
    have h2:elems[i]?=some (elems[i]'(by omega)):=List.getElem?_eq_getElem (by omega)
    rw[h2,Option.bind_eq_some_iff] at h1
    obtain⟨cs,h3,h4⟩:=h1
    rw[hck] at h3
    obtain⟨d,h5⟩:=hE n cs _ h4 (World.cells?_some h3).2.1
    exact⟨d,cs,λ_=>⟨h3,h5⟩⟩
   ·exact⟨default,[],λh=>absurd h hi⟩
  have cell:∀i j,i<len->j<k->∃y,(en (Classical.choose (each i))).cells1[j]?=some (.v y)/\w.cell? ((a.add (i*k)).add j)=some y:=by
   intro i j hi hj
   obtain⟨cs,hcs⟩:=Classical.choose_spec (each i)
   obtain⟨h1,h2,_⟩:=hcs hi
   obtain⟨_,h3,h4⟩:=World.cells?_some h1
   have h5:cs[j]?=some (cs[j]'(by omega)):=List.getElem?_eq_getElem (by omega)
   refine⟨cs[j]'(by omega),?_,?_⟩
   ·rw[h2,List.getElem?_map,h5];rfl
   ·rw[h4 j hj,h5]
  have hspot:a.spot=none:=by
   obtain⟨y,_,h1⟩:=cell 0 0 (by omega) hk
   have:=World.cell?_spot h1
   simpa[Addr.add] using this
  obtain⟨b,off,spot⟩:=a
  simp only at hspot
  subst hspot
  have cell':∀i j,i<len->j<k->∃y,(en (Classical.choose (each i))).cells1[j]?=some (.v y)/\w.cell? ⟨b,off+i*k+j,none⟩=some y:=by
   intro i j hi hj
   obtain⟨y,h1,h2⟩:=cell i j hi hj
   refine⟨y,h1,?_⟩
   have:((Addr.mk b off none).add (i*k)).add j=⟨b,off+i*k+j,none⟩:=by
    unfold Addr.add
    split<;>split<;>simp_all
   rw[<-this];exact h2
  obtain⟨y0,_,hc0⟩:=cell' 0 0 (by omega) hk
  obtain⟨c,hB,_⟩:=AVJ hc0
  have at':∀i j,i<len->j<k->∃y,(en (Classical.choose (each i))).cells1[j]?=some (.v y)/\c[off+i*k+j]?=some y:=by
   intro i j hi hj
   obtain⟨y,h1,h2⟩:=cell' i j hi hj
   obtain⟨c',h3,h4⟩:=AVJ h2
   rw[hB] at h3;cases h3
   exact⟨y,h1,h4⟩
  have hg:∀i,i<len->gD ((List.range len).map λi=>Classical.choose (each i)) i=Classical.choose (each i):=λi hi=>BQZ _ hi
  have hll:((List.range len).map λi=>Classical.choose (each i)).length=len:=by simp
  refine⟨(List.range len).map λi=>Classical.choose (each i),?_⟩
  rw[hll]
  have e1:∀i,i<len->(en (Classical.choose (each i))).cells1.length=k:=by
   intro i hi
   obtain⟨cs,hcs⟩:=Classical.choose_spec (each i)
   obtain⟨h1,h2,_⟩:=hcs hi
   rw[h2,List.length_map];exact (World.cells?_some h1).2.1
  refine DRel.list (by omega) hB hl (λh=>by cases h) (λi hi=>?_) ?_ (λi j x y hi hx hy=>?_)
  ·rw[hg i hi]
   obtain⟨cs,hcs⟩:=Classical.choose_spec (each i)
   exact⟨e1 i hi,(hcs hi).2.2⟩
  ·obtain⟨y,_,h1⟩:=at' (len-1) (k-1) (by omega) (by omega)
   have h2:=(Array.getElem?_eq_some_iff.1 h1).1
   have h3:len*k=(len-1)*k+k:=by
    obtain⟨m,rfl⟩:∃m,len=m+1:=⟨len-1,by omega⟩
    rw[Nat.add_sub_cancel,Nat.succ_mul]
   omega
  ·rw[hg i hi] at hx
   have hj:j<k:=by
    have:=(List.getElem?_eq_some_iff.1 hx).1
    have:=e1 i hi
    omega
   obtain⟨z,h1,h2⟩:=at' i j hi hj
   rw[h1] at hx;rw[h2] at hy
   cases hx;cases hy
   exact .v _
end
section
variable {X : Type} {enc : TypeId × Value -> X} {w : World} {base : Nat} {spare : Nat -> Bool} {held : Bool}
abbrev Byt:={ n:Int // 0<=n/\n<=255 }
instance : Inhabited Byt := ⟨⟨0, by decide, by decide⟩⟩
theorem BMY:BTF X enc Try.prog w base spare held 5 1 (λb:Byt=>.v (.int .u8 b.val)):=by
 refine⟨by kernel_rfl,λfuel cs x h hl=>?_⟩
 obtain⟨n,rfl,_,hw⟩:=DataW.trod_int Tryz.underlying5 h
 have hw:(decide (IntKind.u8.min<=n)&&decide (n<=IntKind.u8.max))=true:=hw
 simp only[Bool.and_eq_true,decide_eq_true_eq] at hw
 have e1:IntKind.u8.min=0:=rfl
 have e2:IntKind.u8.max=255:=rfl
 exact⟨⟨n,by omega,by omega⟩,rfl,rfl⟩
theorem V8{v:Value}{d:DataW X}{ps:List MemPlace}{r:Go.Reach}{b0:Nat}(hv:Value.okWide Try.prog w r b0 22 v)(h:DataW.Trod enc Try.prog w base spare held 22 v d ps):∃l:List Int,okBy l/\DRel (J1 w) (eBys l) v:=by
 obtain⟨a,len,cap,rfl⟩:=okWide_slice Tryz.underlying22 hv
 obtain⟨fuel,hf⟩:=h
 obtain⟨l,hl⟩:=CAI (by omega) Tryz.underlying22 BMY hf
 have hg:∀i,gD (l.map Subtype.val) i=(gD l i).val:=λi=>by
  simp only[gD,List.getD_eq_getElem?_getD,List.getElem?_map]
  cases l[i]?<;>rfl
 refine⟨l.map Subtype.val,λi hi=>by rw[hg];exact (gD l i).2,?_⟩
 unfold eBys
 rw[List.length_map]
 have e:(λi=>DVal.v (.int .u8 (gD (l.map Subtype.val) i)))=λi=>DVal.v (.int .u8 (gD l i).val):=by funext i;rw[hg]
 rw[e];exact hl
theorem CFS{v:Value}{d:DataW X}{ps:List MemPlace}{r:Go.Reach}{b0:Nat}(hv:Value.okWide Try.prog w r b0 23 v)(h:DataW.Trod enc Try.prog w base spare held 23 v d ps):∃n:Int,(0<=n/\n<=65535)/\DRel (J1 w) (.v (.int .u16 n)) v:=by
 obtain⟨m,rfl⟩:=okWide_int Tryz.underlying23 hv
 obtain⟨fuel,hf⟩:=h
 obtain⟨n,e,_,hw⟩:=DataW.trod_int Tryz.underlying23 hf
 have e:[Value.int .u16 m]=[.int .u16 n]:=e
 cases e
 have hw:(decide (IntKind.u16.min<=m)&&decide (m<=IntKind.u16.max))=true:=hw
 simp only[Bool.and_eq_true,decide_eq_true_eq] at hw
 have e1:IntKind.u16.min=0:=rfl
 have e2:IntKind.u16.max=65535:=rfl
 exact⟨m,⟨by omega,by omega⟩,.v _⟩
end
theorem BKQ{g:FuncId}{xs:List AVal}(hg:FnT Try.prog g xs (AC []) (.bool true) []){w:World}{vs:Array Value}(hl:vs.size=xs.length)
  (hx:∀(j:Nat) (a:AVal) (y:Value),xs[j]?=some a->vs[j]?=some y->∃d,a=.d d/\DRel (J1 w) d y) :
  Calls Try.prog g vs w λe w'=>e=.returned (.bool true)/\Below w.heap.size w w':=by
 refine (hg.2 (J1 w) (λ_=>⟨0,0⟩) w vs ⟨hl,λj a y ha hy=>?_⟩ (BRU w _)).mono λe w' ⟨v,H',he,_,B',ι',hm,hv⟩=>?_
 ·obtain⟨d,rfl,hd⟩:=hx j a y ha hy
  exact .d hd
 ·subst he
  cases hv with
  |d hd=>
   cases hd
   exact⟨rfl,hm.calm.os,hm.calm.tape,hm.calm.output,hm.size,λk hk=>hm.frame k hk λi o h=>by simp[AC,MP] at h⟩
end Go.Bal
