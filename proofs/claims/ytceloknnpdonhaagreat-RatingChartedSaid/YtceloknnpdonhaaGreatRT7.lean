/- Package rating: ratings that pass (no program in sight). -/
import Derived.Test.YtceloknnpdonhaaGreatRT3
import Derived.Test.YtceloknnpdonhaaGreatRatZ
import Derived.Test.YtceloknnpdonhaaGreatRatU
import Derived.Test.YtceloknnpdonhaaGreatRows
import Derived.WalkKit
import Derived.ProofKit
import Derived.OpenShut
import Derived.ShutString
import Derived.ChangeOld
import Derived.Below
import Derived.ChangeArms
set_option linter.unusedVariables false
set_option linter.unusedSimpArgs false
namespace Go.Bal
open Go Go.Sym Go.Proofs
structure RtOk(g:List Gau)(r:Rtg):Prop where
 chk:GN g=0
 asc:asc r.b
 brk:∀x∈r.b,1<=x/\x<=2000
 few:r.b.length<=24
 lines:r.l.length=r.b.length+1
 rise:∀x∈r.l,RF x
 pass:∀i,i<=r.b.length->(TK (gD r.l i)).passes (ZW g r.b i)
theorem RtOk.chkR{g:List Gau}{r:Rtg}(h:RtOk g r):RG r=0:=by
 unfold RG
 rw[CPV h.asc h.brk h.few,h.lines,List.all_eq_true.2 λx hx=>gS.2 (h.rise x hx)]
 simp
theorem RtOk.thru{g:List Gau}{r:Rtg}(h:RtOk g r):Thru g r.b:=
 ⟨(eY h.chk).1,(eY h.chk).2,h.asc,h.brk,h.few,λi hi=>⟨_,h.rise _ (HI (by rw[h.lines];omega)),h.pass i hi⟩⟩
theorem RtOk.passes{g:List Gau}{r:Rtg}(h:RtOk g r):X7 ⟨g,r⟩=0/\Y0 ⟨g,r⟩=[]:=by
 have e:X7 ⟨g,r⟩=0:=by
  show (bif GN g==0 then RG r else GN g)=0
  rw[h.chk,h.chkR];rfl
 refine⟨e,?_⟩
 unfold Y0;rw[e]
 show pasK ⟨g,r⟩ g.length=[]
 unfold pasK
 rw[List.map_eq_nil_iff,List.filter_eq_nil_iff]
 intro i hi hc
 have hi:=List.mem_range.1 hi
 have hle:=BEN r.b (gD g i).st
 have hp:=h.pass (Uo r.b (gD g i).st) hle _ (AKQ.2 ⟨HI hi,rfl⟩)
 have ho:RF (gD r.l (Uo r.b (gD g i).st)):=h.rise _ (HI (by rw[h.lines];omega))
 have hc:(!LL (gD r.l (Uo r.b (gD g i).st)) (gD g i))=true:=hc
 rw[(AND ho).2 hp] at hc;cases hc
theorem RtOk.at{g:List Gau}{r:Rtg}(h:RtOk g r){t:Int}(ht:0<=t/\t<=2000):atE ⟨r,t⟩=0/\okR (atM ⟨r,t⟩)/\Ym (Dp ⟨g,r.b,t⟩).lo (atM ⟨r,t⟩)/\Ym (atM ⟨r,t⟩) (Dp ⟨g,r.b,t⟩).hi:=by
 have e:atE ⟨r,t⟩=0:=by
  show (bif RG r==0 then (bif Sx t 0 2000 then 0 else 4) else RG r)=0
  rw[h.chkR,show Sx t 0 2000=true by unfold Sx;simpa using ht];rfl
 have hle:=BEN r.b t
 have ho:RF (gD r.l (Uo r.b t)):=h.rise _ (HI (by rw[h.lines];omega))
 have e2:atM ⟨r,t⟩=OT (gD r.l (Uo r.b t)) t:=by unfold atM;rw[e];rfl
 have hp:=h.pass _ hle
 have hT:=h.thru
 obtain⟨i1,i2,i3⟩:=hT.in hle ht
 rw[e2,(hT.flow ht).2]
 refine⟨e,LM ho,?_,?_⟩
 ·exact (BCF ho i1.1.1).2 (CKV (ANH hT.ok) ht (RE ho) hp)
 ·exact (BNQ ho i2.1.1).2 (CVU (ANH hT.ok) ht (RE ho) hp)
theorem Thru.sound{g:List Gau}{b:List Int}(h:Thru g b){t:Int}(ht:0<=t/\t<=2000):Pf ⟨g,b,t⟩=0/\okR (Dp ⟨g,b,t⟩).lo/\okR (Dp ⟨g,b,t⟩).hi/\sndM (Dp ⟨g,b,t⟩)=true:=by
 obtain⟨h1,h2⟩:=h.flow ht
 obtain⟨i1,i2,i3⟩:=h.in (BEN b t) ht
 rw[h2]
 exact⟨h1,i1,i2,DOX i1 i2 i3⟩
theorem DKJ(v:Int){n:Int}(h:1<=n/\n<=1000000):0<=sU v n/\sU v n<n:=by
 unfold sU
 rw[if_neg (by omega)]
 have h1:-n<v.tmod n:=Int.lt_tmod_of_pos v (by omega)
 have h2:v.tmod n<n:=Int.tmod_lt_of_pos v (by omega)
 split
 ·unfold wr;rw[JC (by omega) (by omega)];omega
 ·omega
end Go.Bal

namespace Go.Bal
open Go Go.Sym Go.Proofs
theorem CTW(g:List Gau):ZW g [] (0:Nat)=g:=by
 unfold ZW Ys ZE
 exact List.filter_eq_self.2 λx _=>rfl
theorem CYU{g:List Gau}{y:Ln}(hc:GN g=0)(h:RF y)(hp:(TK y).passes g):RtOk g ⟨[],[y]⟩:=
 ⟨hc,.nil,λx hx=>(by cases hx),Nat.zero_le _,rfl,λx hx=>by rw[List.mem_singleton.1 hx];exact h,λi hi=>by
  have:i=0:=by have hi:i<=0:=hi;omega
  subst this
  show (TK y).passes (ZW g [] (0:Nat))
  rw[CTW];exact hp⟩
end Go.Bal

namespace Go.Bal
open Go Go.Sym Go.Proofs
theorem BQZ{y:Ln}(h:RF y):RG ⟨[],[y]⟩=0:=by
 unfold RG
 have e1:Cb []=0:=rfl
 rw[e1,List.all_eq_true.2 (λx hx=>by rw[List.mem_singleton.1 hx];exact gS.2 h)]
 rfl
theorem CZW{y:Ln}(h:RF y){t:Int}(ht:0<=t/\t<=2000):atE ⟨⟨[],[y]⟩,t⟩=0/\atM ⟨⟨[],[y]⟩,t⟩=OT y t:=by
 have e:atE ⟨⟨[],[y]⟩,t⟩=0:=by
  show (bif RG ⟨[],[y]⟩==0 then (bif Sx t 0 2000 then 0 else 4) else RG ⟨[],[y]⟩)=0
  rw[BQZ h,show Sx t 0 2000=true by unfold Sx;simpa using ht];rfl
 refine⟨e,?_⟩
 unfold atM;rw[e];rfl
theorem BWZ{y:Ln}(h:RF y){s t:Int}(hst:s<=t):Ym (OT y s) (OT y t):=by
 have ho:=RE h
 rw[BCF h (LM h).1.1]
 rw[BNQ h (Fx ho.1)]
 refine ANY ho.1 ho.1 (Int.mul_le_mul_of_nonneg_right ?_ (Int.le_of_lt ho.1))
 unfold Rl.num
 have:=Int.mul_le_mul_of_nonneg_left hst ho.2
 omega
theorem CUS{g:List Gau}{y:Ln}(hc:GN g=0)(h:RF y)(hp:(TK y).passes g){s t:Int}(hs:0<=s/\s<=2000)(ht:0<=t/\t<=2000) :
  (Pf ⟨g,[],s⟩=0/\okR (Dp ⟨g,[],s⟩).lo/\okR (Dp ⟨g,[],s⟩).hi/\sndM (Dp ⟨g,[],s⟩)=true)/\atE ⟨⟨[],[y]⟩,t⟩=0/\okR (atM ⟨⟨[],[y]⟩,t⟩)/\(s<=t->Ym (Dp ⟨g,[],s⟩).lo (atM ⟨⟨[],[y]⟩,t⟩))/\(t<=s->Ym (atM ⟨⟨[],[y]⟩,t⟩) (Dp ⟨g,[],s⟩).hi):=by
 have hR:=CYU hc h hp
 have hT:=hR.thru
 obtain⟨f1,f2,f3,f4⟩:=hT.sound (t:=s) hs
 obtain⟨a1,a2,a3,a4⟩:=hR.at (t:=s) hs
 obtain⟨b1,b2,_,_⟩:=hR.at (t:=t) ht
 have ea:=(CZW h hs).2
 have eb:=(CZW h ht).2
 refine⟨⟨f1,f2,f3,f4⟩,b1,b2,λq=>?_,λq=>?_⟩
 ·have m:=BWZ h q
  rw[<-ea,<-eb] at m
  exact QI (Int.le_of_lt f2.1.1) a2.1.1 (Int.le_of_lt b2.1.1) a3 m
 ·have m:=BWZ h q
  rw[<-ea,<-eb] at m
  exact QI (Int.le_of_lt b2.1.1) a2.1.1 (Int.le_of_lt f3.1.1) m a4
theorem DHN{x:Gau}{y:Ln}(hx:Oy x)(h:RF y):X7 ⟨[x],⟨[],[y]⟩⟩=0/\(Y0 ⟨[x],⟨[],[y]⟩⟩=[]↔LL y x=true):=by
 have hc:GN [x]=0:=BAV ⟨by simp,by simp⟩ λg hg=>by rw[List.mem_singleton.1 hg];exact hx
 have e:X7 ⟨[x],⟨[],[y]⟩⟩=0:=by
  show (bif GN [x]==0 then RG ⟨[],[y]⟩ else GN [x])=0
  rw[hc,BQZ h];rfl
 refine⟨e,?_⟩
 unfold Y0;rw[e]
 show pasK ⟨[x],⟨[],[y]⟩⟩ 1=[]↔_
 unfold pasK
 rw[List.map_eq_nil_iff,List.filter_eq_nil_iff]
 have en:notP ⟨[x],⟨[],[y]⟩⟩ 0=!LL y x:=rfl
 constructor
 ·intro q
  have:=q 0 (List.mem_range.2 Nat.one_pos)
  rw[en] at this
  cases hq:LL y x with
  |true=>rfl
  |false=>rw[hq] at this;exact (this rfl).elim
 ·intro q i hi hcn
  obtain rfl:i=0:=by have:=List.mem_range.1 hi;omega
  rw[en,q] at hcn;cases hcn
theorem CXC{l:List Gau}{y:Ln}(h:RF y):(TK y).passes (l.filter (LL y)):=λg hg=>(AND h).1 (List.mem_filter.1 hg).2
end Go.Bal

set_option maxRecDepth 100000
namespace Go.Bal
open Go Go.Sym Go.Proofs Go.ChangeShapes Go.WideShapes Go.RowKit
theorem CXE{α:Type}[Inhabited α](f:Nat->α){n i:Nat}(h:i<n):gD ((List.range n).map f) i=f i:=by
 simp[gD,List.getD_eq_getElem?_getD,h]
def BBQ(w:World):Rr:=λb=>match w.heap[b]? with
 |some (.cells c _ _)=>some c
 |_=>none
theorem CZS(w:World)(ι:Nat->Pl):HRel (BBQ w) ι (AF []) w:=by
 refine⟨λi o h=>by simp[AF,OY] at h,λi j o o' h=>by simp[AF,OY] at h,λi o h=>by simp[AF,OY] at h,λb c h=>?_⟩
 unfold BBQ at h
 split at h
 ·rename_i c' e fr hc
  cases h
  exact⟨e,fr,hc⟩
 ·cases h
theorem CGZ{w:World}{b off:Nat}{v:Value}(h:w.cell? ⟨b,off,none⟩=some v):∃c,BBQ w b=some c/\c[off]?=some v:=by
 unfold World.cell? at h
 simp only at h
 split at h
 ·rename_i c e fr hc
  simp only[Option.isSome_none,Bool.false_eq_true,↓reduceIte] at h
  exact⟨c,by unfold BBQ;rw[hc],h⟩
 ·cases h
section
variable {X : Type} {enc : TypeId × Value -> X} {P : Program} {w : World} {base : Nat} {spare : Nat -> Bool} {held : Bool}
def DEN(X:Type)(enc:TypeId×Value->X)(P:Program)(w:World)(base:Nat)(spare:Nat->Bool)(held:Bool)(e:TypeId)(k:Nat){α:Type}(en:α->DVal):Prop:=
 P.cellsOf e=k/\∀(fuel:Nat) (cs:List Value) (x:DataW X×List MemPlace),DataW.trod enc P w base spare held fuel e cs=some x->cs.length=k->∃d:α,(en d).cells1=cs.map DVal.v/\IV (en d).cells1=true
theorem DKL{α:Type}[Inhabited α]{t e:TypeId}{k:Nat}{en:α->DVal}(hk:0<k)(ht:P.underlying t=some (.slice e))(he:DEN X enc P w base spare held e k en){fuel:Nat}{v:Value}{x:DataW X×List MemPlace}
  (h:DataW.trod enc P w base spare held fuel t [v]=some x):∃l:List α,DRel (BBQ w) (lst k l.length λi=>en (gD l i)) v:=by
 rcases DataW.trod_slice ht h with⟨h0,_⟩ | ⟨a,len,cap,elems,rest,n,_,hv,_,hb,hl,hm,hlen,hel,_⟩
 ·cases h0
  exact⟨[],.nil (λh=>by cases h) (.inl rfl)⟩
 ·cases hv
  by_cases h0:len=0
  ·subst h0
   exact⟨[],.nil (λh=>by cases h) (.inr (by simp))⟩
  obtain⟨hck,hE⟩:=he
  have each:∀i,∃(d:α) (cs:List Value),i<len->w.cells? base (a.add (i*k)) k=some cs/\(en d).cells1=cs.map DVal.v/\IV (en d).cells1=true:=by
   intro i
   by_cases hi:i<len
   ·have h1:=hel i hi
    have h2:elems[i]?=some (elems[i]'(by omega)):=List.getElem?_eq_getElem (by omega)
    rw[h2,Option.bind_eq_some_iff] at h1
    obtain⟨cs,h3,h4⟩:=h1
    rw[hck] at h3
    obtain⟨d,h5⟩:=hE n cs _ h4 (World.cells?_some h3).2.1
    exact⟨d,cs,λ_=>⟨h3,h5⟩⟩
   ·exact⟨default,[],λh=>absurd h hi⟩
  have cell:∀i j,i<len->j<k->∃y,(en (Classical.choose (each i))).cells1[j]?=some (.v y)/\w.cell? ((a.add (i*k)).add j)=some y:=by
   intro i j hi hj
   obtain⟨cs,hcs⟩:=Classical.choose_spec (each i)
   obtain⟨h1,h2,_⟩:=hcs hi
   obtain⟨_,h3,h4⟩:=World.cells?_some h1
   have h5:cs[j]?=some (cs[j]'(by omega)):=List.getElem?_eq_getElem (by omega)
   refine⟨cs[j]'(by omega),?_,?_⟩
   ·rw[h2,List.getElem?_map,h5];rfl
   ·rw[h4 j hj,h5]
  have hspot:a.spot=none:=by
   obtain⟨y,_,h1⟩:=cell 0 0 (by omega) hk
   have:=World.cell?_spot h1
   simpa[Addr.add] using this
  obtain⟨b,off,spot⟩:=a
  simp only at hspot
  subst hspot
  have cell':∀i j,i<len->j<k->∃y,(en (Classical.choose (each i))).cells1[j]?=some (.v y)/\w.cell? ⟨b,off+i*k+j,none⟩=some y:=by
   intro i j hi hj
   obtain⟨y,h1,h2⟩:=cell i j hi hj
   refine⟨y,h1,?_⟩
   have:((Addr.mk b off none).add (i*k)).add j=⟨b,off+i*k+j,none⟩:=by
    unfold Addr.add
    split<;>split<;>simp_all
   rw[<-this];exact h2
  obtain⟨y0,_,hc0⟩:=cell' 0 0 (by omega) hk
  obtain⟨c,hB,_⟩:=CGZ hc0
  have at':∀i j,i<len->j<k->∃y,(en (Classical.choose (each i))).cells1[j]?=some (.v y)/\c[off+i*k+j]?=some y:=by
   intro i j hi hj
   obtain⟨y,h1,h2⟩:=cell' i j hi hj
   obtain⟨c',h3,h4⟩:=CGZ h2
   rw[hB] at h3;cases h3
   exact⟨y,h1,h4⟩
  have hg:∀i,i<len->gD ((List.range len).map λi=>Classical.choose (each i)) i=Classical.choose (each i):=λi hi=>CXE _ hi
  have hll:((List.range len).map λi=>Classical.choose (each i)).length=len:=by simp
  refine⟨(List.range len).map λi=>Classical.choose (each i),?_⟩
  rw[hll]
  have e1:∀i,i<len->(en (Classical.choose (each i))).cells1.length=k:=by
   intro i hi
   obtain⟨cs,hcs⟩:=Classical.choose_spec (each i)
   obtain⟨h1,h2,_⟩:=hcs hi
   rw[h2,List.length_map];exact (World.cells?_some h1).2.1
  refine DRel.list (by omega) hB hl (λh=>by cases h) (λi hi=>?_) ?_ (λi j x y hi hx hy=>?_)
  ·rw[hg i hi]
   obtain⟨cs,hcs⟩:=Classical.choose_spec (each i)
   exact⟨e1 i hi,(hcs hi).2.2⟩
  ·obtain⟨y,_,h1⟩:=at' (len-1) (k-1) (by omega) (by omega)
   have h2:=(Array.getElem?_eq_some_iff.1 h1).1
   have h3:len*k=(len-1)*k+k:=by
    obtain⟨m,rfl⟩:∃m,len=m+1:=⟨len-1,by omega⟩
    rw[Nat.add_sub_cancel,Nat.succ_mul]
   omega
  ·rw[hg i hi] at hx
   have hj:j<k:=by
    have:=(List.getElem?_eq_some_iff.1 hx).1
    have:=e1 i hi
    omega
   obtain⟨z,h1,h2⟩:=at' i j hi hj
   rw[h1] at hx;rw[h2] at hy
   cases hx;cases hy
   exact .v _
end
def okBy(bs:List Int):Prop:=∀i,i<bs.length->0<=gD bs i/\gD bs i<=255
section
variable {X : Type} {enc : TypeId × Value -> X} {w : World} {base : Nat} {spare : Nat -> Bool} {held : Bool}
abbrev Byt:={ n:Int // 0<=n/\n<=255 }
instance : Inhabited Byt := ⟨⟨0, by decide, by decide⟩⟩
theorem CRP:DEN X enc Try.prog w base spare held 5 1 (λb:Byt=>.v (.int .u8 b.val)):=by
 refine⟨by kernel_rfl,λfuel cs x h hl=>?_⟩
 obtain⟨n,rfl,_,hw⟩:=DataW.trod_int Tryz.underlying5 h
 have hw:(decide (IntKind.u8.min<=n)&&decide (n<=IntKind.u8.max))=true:=hw
 simp only[Bool.and_eq_true,decide_eq_true_eq] at hw
 have e1:IntKind.u8.min=0:=rfl
 have e2:IntKind.u8.max=255:=rfl
 exact⟨⟨n,by omega,by omega⟩,rfl,rfl⟩
theorem BWG{v:Value}{d:DataW X}{ps:List MemPlace}{r:Go.Reach}{b0:Nat}(hv:Value.okWide Try.prog w r b0 22 v)(h:DataW.Trod enc Try.prog w base spare held 22 v d ps):∃l:List Int,okBy l/\DRel (BBQ w) (eBys l) v:=by
 obtain⟨a,len,cap,rfl⟩:=okWide_slice Tryz.underlying22 hv
 obtain⟨fuel,hf⟩:=h
 obtain⟨l,hl⟩:=DKL (by omega) Tryz.underlying22 CRP hf
 have hg:∀i,gD (l.map Subtype.val) i=(gD l i).val:=λi=>by
  simp only[gD,List.getD_eq_getElem?_getD,List.getElem?_map]
  cases l[i]?<;>rfl
 refine⟨l.map Subtype.val,λi hi=>by rw[hg];exact (gD l i).2,?_⟩
 unfold eBys
 rw[List.length_map]
 have e:(λi=>DVal.v (.int .u8 (gD (l.map Subtype.val) i)))=λi=>DVal.v (.int .u8 (gD l i).val):=by funext i;rw[hg]
 rw[e];exact hl
theorem DJX{v:Value}{d:DataW X}{ps:List MemPlace}{r:Go.Reach}{b0:Nat}(hv:Value.okWide Try.prog w r b0 3 v)(h:DataW.Trod enc Try.prog w base spare held 3 v d ps):∃n:Int,(-9223372036854775808<=n/\n<=9223372036854775807)/\DRel (BBQ w) (.v (.int .i64 n)) v:=by
 obtain⟨m,rfl⟩:=okWide_int Tryz.underlying3 hv
 obtain⟨fuel,hf⟩:=h
 obtain⟨n,e,_,hw⟩:=DataW.trod_int Tryz.underlying3 hf
 have e:[Value.int .i64 m]=[.int .i64 n]:=e
 cases e
 have hw:(decide (IntKind.i64.min<=m)&&decide (m<=IntKind.i64.max))=true:=hw
 simp only[Bool.and_eq_true,decide_eq_true_eq] at hw
 have e1:IntKind.i64.min=-9223372036854775808:=rfl
 have e2:IntKind.i64.max=9223372036854775807:=rfl
 exact⟨m,⟨by omega,by omega⟩,.v _⟩
end
theorem CTN{g:FuncId}{xs:List AVal}(hg:FnT Try.prog g xs (AF []) (.bool true) []){w:World}{vs:Array Value}(hl:vs.size=xs.length)
  (hx:∀(j:Nat) (a:AVal) (y:Value),xs[j]?=some a->vs[j]?=some y->∃d,a=.d d/\DRel (BBQ w) d y) :
  Calls Try.prog g vs w λe w'=>e=.returned (.bool true)/\Below w.heap.size w w':=by
 refine (hg.2 (BBQ w) (λ_=>⟨0,0⟩) w vs ⟨hl,λj a y ha hy=>?_⟩ (CZS w _)).mono λe w' ⟨v,H',he,_,B',ι',hm,hv⟩=>?_
 ·obtain⟨d,rfl,hd⟩:=hx j a y ha hy
  exact .d hd
 ·subst he
  cases hv with
  |d hd=>
   cases hd
   exact⟨rfl,hm.calm.os,hm.calm.tape,hm.calm.output,hm.size,λk hk=>hm.frame k hk λi o h=>by simp[AF,OY] at h⟩
end Go.Bal
