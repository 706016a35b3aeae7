/- Package rating: the fewest parts (no program in sight). -/
import Derived.Test.YtbmlgdlbffmjjaaGreatRT2
import Derived.Test.YtbmlgdlbffmjjaaGreatGaK
set_option linter.unusedVariables false
set_option linter.unusedSimpArgs false
namespace Go.Bal
open Go Go.Sym Go.Proofs
def Can(s:List Gau):Prop:=∃x,PO x/\(QQ x).passes s
theorem Can.mono{s t:List Gau}(h:Can t)(hs:∀g∈s,g∈t):Can s:=by
 obtain⟨x,h1,h2⟩:=h
 exact⟨x,h1,λg hg=>h2 g (hs g hg)⟩
theorem ACB{s:List Gau}(hs:∀g∈s,Ht g):((NA s).2=true↔Can s)/\((NA s).2=true->PO (NA s).1/\(QQ (NA s).1).passes s):=by
 unfold NA
 by_cases h0:s.length=0
 ·rw[if_pos h0]
  have hn:=List.eq_nil_of_length_eq_zero h0
  have ho:PO (UC ⟨0,0⟩):=pS ⟨Int.le_refl _,by show (0:Int)<=2000;omega,Int.le_refl _,by show (0:Int)<=200000;omega⟩
  subst hn
  exact⟨⟨λ_=>⟨_,ho,λg hg=>by cases hg⟩,λ_=>rfl⟩,λ_=>⟨ho,λg hg=>by cases hg⟩⟩
 ·rw[if_neg h0]
  have hne:s≠[]:=λh=>h0 (by rw[h];rfl)
  cases hf:(Rj s).find? (Ru s) with
  |some x=>
   have h1:=List.find?_some hf
   have h2:=BJD hs x (List.mem_of_find?_eq_some hf)
   have h3:=(ACO h2).1 h1
   exact⟨⟨λ_=>⟨x,h2,h3⟩,λ_=>rfl⟩,λ_=>⟨h2,h3⟩⟩
  |none=>
   refine⟨⟨λh=>(by cases h),λh=>?_⟩,λh=>(by cases h)⟩
   obtain⟨x,h1,h2⟩:=h
   exfalso
   have:=BZX hs (LD h1) h2 hne
   refine this (List.filter_eq_nil_iff.2 λy hy=>?_)
   have:=List.find?_eq_none.1 hf y hy
   exact this
def gauO(g:List Gau)(i:Nat):Gau:=gD g (gD (AW g) i).toNat
def N9(g:List Gau)(i:Nat):Int:=QF g (gD (AW g) i)
theorem mZ{g:List Gau}{i j:Nat}(h:i<=j)(hj:j<g.length):N9 g i<=N9 g j:=by
 by_cases he:i=j
 ·rw[he];exact Int.le_refl _
 ·have:=BAE (QF g) (iotI g.length) i j (by omega) (by rw[bD];omega)
  exact this
theorem mU{g:List Gau}{i:Nat}(h:i<g.length):gauO g i∈g:=by
 have:=zP h
 exact MF (by omega)
theorem ADW{g:List Gau}{x:Gau}(h:x∈g):∃i,i<g.length/\gauO g i=x:=by
 obtain⟨j,hj,rfl⟩:=oX h
 have h1:(j:Int)∈iotI g.length:=List.mem_map.2 ⟨j,List.mem_range.2 hj,rfl⟩
 have h2:=(AKZ g).mem_iff.2 h1
 obtain⟨i,hi,he⟩:=oX h2
 exact⟨i,by rw[CB] at hi;exact hi,by unfold gauO;rw[he];rfl⟩
theorem AGM{g:List Gau}{a b:Nat}(hb:b<=g.length){x:Gau}:x∈O1 g (AW g) a b↔∃i,a<=i/\i<b/\gauO g i=x:=by
 have hl:((AW g).take b).length=b:=by rw[List.length_take,CB];omega
 unfold O1 pkM
 rw[List.mem_map]
 show (∃y,y∈(((AW g).take b).drop a)/\_)↔_
 constructor
 ·rintro⟨y,hy,rfl⟩
  obtain⟨i,hi,rfl⟩:=oX hy
  rw[List.length_drop,hl] at hi
  refine⟨a+i,by omega,by omega,?_⟩
  unfold gauO
  rw[bF]
  simp[gD,List.getD_eq_getElem?_getD,List.getElem?_take,show a+i<b by omega]
 ·rintro⟨i,h1,h2,rfl⟩
  refine⟨gD (((AW g).take b).drop a) (i-a),MF (by rw[List.length_drop,hl];omega),?_⟩
  unfold gauO
  rw[bF,show a+(i-a)=i by omega]
  simp[gD,List.getD_eq_getElem?_getD,List.getElem?_take,h2]
theorem APF{g:List Gau}(h:∀x∈g,Ht x){a b:Nat}(hb:b<=g.length):∀x∈O1 g (AW g) a b,Ht x:=λx hx=>by
 obtain⟨i,_,h2,rfl⟩:=(AGM hb).1 hx
 exact h _ (mU (by omega))
def bdO(g:List Gau)(t:Nat):Prop:=∀i j,i<t->t<=j->j<g.length->N9 g i<N9 g j
theorem BHY{g:List Gau}{t:Nat}:∀(n k:Nat),t<=k->k+n=g.length->(∀j,t<=j->j<k->N9 g j=N9 g t)->(∀j,t<=j->j<C0 g (AW g) t n k->N9 g j=N9 g t)/\(C0 g (AW g) t n k<g.length->N9 g (C0 g (AW g) t n k)≠N9 g t)
 |0,k,_,hk,h=>⟨h,λhc=>by have:k<g.length:=hc;omega⟩
 |n+1,k,ht,hk,h=>by
  by_cases hc:QF g (gD (AW g) k)=QF g (gD (AW g) t)
  ·have e:C0 g (AW g) t (n+1) k=C0 g (AW g) t n (k+1):=by
    conv=>lhs;unfold C0
    rw[show (QF g (gD (AW g) k)==QF g (gD (AW g) t))=true by rw[hc];simp];rfl
   rw[e]
   exact BHY n (k+1) (by omega) (by omega) (λj a b=>by
    by_cases hj:j=k
    ·rw[hj];exact hc
    ·exact h j a (by omega))
  ·have e:C0 g (AW g) t (n+1) k=k:=by
    unfold C0
    rw[show (QF g (gD (AW g) k)==QF g (gD (AW g) t))=false by simpa using hc];rfl
   rw[e]
   exact⟨h,λ_=>hc⟩
theorem BZJ{g:List Gau}{t:Nat}(h:t<g.length):bdO g (Vq g (AW g) t)/\∀j,t<=j->j<Vq g (AW g) t->N9 g j=N9 g t:=by
 obtain⟨h1,h2⟩:=ABI h
 have hs:=BHY (g:=g) (t:=t) (g.length-t) t (Nat.le_refl _) (by omega) (λj a b=>by omega)
 have e:C0 g (AW g) t (g.length-t) t=Vq g (AW g) t:=by unfold Vq;rw[CB]
 rw[e] at hs
 refine⟨λi j hi hj hj2=>?_,hs.1⟩
 have h3:=hs.2 (by omega)
 have h4:N9 g t<=N9 g (Vq g (AW g) t):=mZ (by omega) (by omega)
 have h5:=mZ hj hj2
 have h6:N9 g i<=N9 g t:=by
  by_cases hit:i<=t
  ·exact mZ hit h
  ·rw[hs.1 i (by omega) hi];exact Int.le_refl _
 omega
structure PartsO(g:List Gau)(P:List Nat)(b:List Int)(l:List Ln)(k:List (List Int)):Prop where
 lenP:P.length=b.length+1
 lenl:l.length=b.length
 lenk:k.length=b.length
 zero:gD P 0=0
 up:∀i,i<b.length->gD P i<gD P (i+1)/\gD P (i+1)<g.length/\bdO g (gD P (i+1))/\gD b i=N9 g (gD P (i+1))
 line:∀i,i<b.length->PO (gD l i)/\∀j,gD P i<=j->j<gD P (i+1)->(QQ (gD l i)).pass (gauO g j)
 bad:∀i,i<b.length->¬Can (O1 g (AW g) (gD P i) (Vq g (AW g) (gD P (i+1))))
 knot:∀i,i<b.length->gD k i=bC ⟨g,((AW g).take (Vq g (AW g) (gD P (i+1)))).drop (gD P i)⟩
def oneS(g:List Gau)(t:Nat):Prop:=∀j,j<t->Can (g.filter λx=>x.st==N9 g j)
structure StO(g:List Gau)(P:List Nat)(s:FS):Prop where
 parts:PartsO g P s.b s.l s.k
 last:gD P s.b.length=s.fr
 le:s.fr<=s.to/\s.to<=g.length
 bd:bdO g s.to
 line:PO s.ln/\∀j,s.fr<=j->j<s.to->(QQ s.ln).pass (gauO g j)
 one:oneS g s.to
theorem Ke{α:Type}[Inhabited α](l:List α)(x:α)(i:Nat):gD (l ++ [x]) i=if i<l.length then gD l i else if i=l.length then x else default:=by
 rw[wV]
 split
 ·rfl
 ·split
  ·rename_i h1 h2;rw[h2,Nat.sub_self];rfl
  ·rename_i h1 h2
   obtain⟨m,hm⟩:∃m,i-l.length=m+1:=⟨i-l.length-1,by omega⟩
   rw[hm];rfl
theorem StO.go{g:List Gau}{P:List Nat}{s:FS}(h:StO g P s)(ho:∀x∈g,Ht x)(ht:s.to<g.length)(hq:(NA (O1 g (AW g) s.to (Vq g (AW g) s.to))).2=true)(hr:(NA (O1 g (AW g) s.fr (Vq g (AW g) s.to))).2=true):StO g P (goF g (AW g) s):=by
 obtain⟨n1,n2⟩:=ABI ht
 obtain⟨b1,b2⟩:=BZJ ht
 have hl:=(ACB (APF ho n2 (a:=s.fr))).2 hr
 have hq2:=(ACB (APF ho n2 (a:=s.to))).1.1 hq
 refine⟨h.parts,h.last,⟨by show s.fr<=Vq _ _ _;have:=h.le;omega,n2⟩,b1,⟨hl.1,λj a c=>hl.2 _ ((AGM n2).2 ⟨j,a,c,rfl⟩)⟩,λj hj=>?_⟩
 have hj:j<Vq g (AW g) s.to:=hj
 by_cases hjt:j<s.to
 ·exact h.one j hjt
 ·rw[b2 j (by omega) hj]
  refine hq2.mono λx hx=>?_
  obtain⟨hx1,hx2⟩:=List.mem_filter.1 hx
  obtain⟨i,hi,rfl⟩:=ADW hx1
  have hx2:N9 g i=N9 g s.to:=eq_of_beq hx2
  refine (AGM n2).2 ⟨i,?_,?_,rfl⟩
  ·refine Classical.byContradiction λhc=>?_
   have:=h.bd i s.to (by omega) (Nat.le_refl _) ht;omega
  ·refine Classical.byContradiction λhc=>?_
   have:=b1 s.to i (by omega) (by omega) hi;omega
theorem StO.brk{g:List Gau}{P:List Nat}{s:FS}(h:StO g P s)(ho:∀x∈g,Ht x)(ht:s.to<g.length)(hq:(NA (O1 g (AW g) s.to (Vq g (AW g) s.to))).2=true)(hr:(NA (O1 g (AW g) s.fr (Vq g (AW g) s.to))).2=false):StO g (P ++ [s.to]) (uJ g (AW g) s):=by
 obtain⟨n1,n2⟩:=ABI ht
 have hne:s.fr≠s.to:=λhe=>by rw[he,hq] at hr;cases hr
 have hbad:¬Can (O1 g (AW g) s.fr (Vq g (AW g) s.to)):=λhc=>by
  rw[(ACB (APF ho n2 (a:=s.fr))).1.2 hc] at hr;cases hr
 have hle:=h.le
 obtain⟨p1,p2,p3,p4,p5,p6,p7,p8⟩:=h.parts
 have hlast:=h.last
 have eP:∀i,i<=s.b.length->gD (P ++ [s.to]) i=gD P i:=λi hi=>by rw[Ke,if_pos (by omega)]
 have eP2:gD (P ++ [s.to]) (s.b.length+1)=s.to:=by rw[Ke,if_neg (by omega),if_pos (by omega)]
 have eb:∀i,i<s.b.length->gD (s.b ++ [QF g (gD (AW g) s.to)]) i=gD s.b i:=λi hi=>by rw[Ke,if_pos hi]
 have eb2:gD (s.b ++ [QF g (gD (AW g) s.to)]) s.b.length=N9 g s.to:=by rw[Ke,if_neg (by omega),if_pos rfl];rfl
 have el:∀i,i<s.b.length->gD (s.l ++ [s.ln]) i=gD s.l i:=λi hi=>by rw[Ke,if_pos (by omega)]
 have el2:gD (s.l ++ [s.ln]) s.b.length=s.ln:=by rw[Ke,if_neg (by omega),if_pos (by omega)]
 have ek:∀(z:List Int) i,i<s.b.length->gD (s.k ++ [z]) i=gD s.k i:=λz i hi=>by rw[Ke,if_pos (by omega)]
 have ek2:∀z:List Int,gD (s.k ++ [z]) s.b.length=z:=λz=>by rw[Ke,if_neg (by omega),if_pos (by omega)]
 have elen:(s.b ++ [QF g (gD (AW g) s.to)]).length=s.b.length+1:=by simp
 refine⟨⟨?_,?_,?_,?_,?_,?_,?_,?_⟩,?_,⟨Nat.le_refl _,hle.2⟩,h.bd,⟨h.line.1,λj a c=>by have a:s.to<=j:=a;have c:j<s.to:=c;omega⟩,h.one⟩
 ·show (P ++ [s.to]).length=(s.b ++ [_]).length+1;rw[elen];simp;omega
 ·show (s.l ++ [s.ln]).length=(s.b ++ [_]).length;rw[elen];simp;omega
 ·show (s.k ++ [_]).length=(s.b ++ [_]).length;rw[elen];simp;omega
 ·rw[eP 0 (Nat.zero_le _)];exact p4
 ·intro i hi
  have hi:i<s.b.length+1:=by have hi:i<(s.b ++ [_]).length:=hi;rw[elen] at hi;exact hi
  show gD (P ++ [s.to]) i<gD (P ++ [s.to]) (i+1)/\gD (P ++ [s.to]) (i+1)<g.length/\bdO g (gD (P ++ [s.to]) (i+1))/\gD (s.b ++ [QF g (gD (AW g) s.to)]) i=N9 g (gD (P ++ [s.to]) (i+1))
  by_cases hl:i<s.b.length
  ·rw[eP i (by omega),eP (i+1) (by omega),eb i hl];exact p5 i hl
  ·have:i=s.b.length:=by omega
   subst this
   rw[eP _ (Nat.le_refl _),eP2,eb2,hlast]
   exact⟨by omega,ht,h.bd,rfl⟩
 ·intro i hi
  have hi:i<s.b.length+1:=by have hi:i<(s.b ++ [_]).length:=hi;rw[elen] at hi;exact hi
  show PO (gD (s.l ++ [s.ln]) i)/\∀j,gD (P ++ [s.to]) i<=j->j<gD (P ++ [s.to]) (i+1)->(QQ (gD (s.l ++ [s.ln]) i)).pass (gauO g j)
  by_cases hl:i<s.b.length
  ·rw[eP i (by omega),eP (i+1) (by omega),el i hl];exact p6 i hl
  ·have:i=s.b.length:=by omega
   subst this
   rw[eP _ (Nat.le_refl _),eP2,el2,hlast]
   exact h.line
 ·intro i hi
  have hi:i<s.b.length+1:=by have hi:i<(s.b ++ [_]).length:=hi;rw[elen] at hi;exact hi
  by_cases hl:i<s.b.length
  ·rw[eP i (by omega),eP (i+1) (by omega)];exact p7 i hl
  ·have:i=s.b.length:=by omega
   subst this
   rw[eP _ (Nat.le_refl _),eP2,hlast]
   exact hbad
 ·intro i hi
  have hi:i<s.b.length+1:=by have hi:i<(s.b ++ [_]).length:=hi;rw[elen] at hi;exact hi
  show gD (s.k ++ [_]) i=_
  by_cases hl:i<s.b.length
  ·rw[eP i (by omega),eP (i+1) (by omega),ek _ i hl];exact p8 i hl
  ·have:i=s.b.length:=by omega
   subst this
   rw[eP _ (Nat.le_refl _),eP2,hlast,ek2]
 ·show gD (P ++ [s.to]) (s.b ++ [_]).length=s.to
  rw[elen];exact eP2
theorem ASO{g:List Gau}(ho:∀x∈g,Ht x):∀(n:Nat) (s:FS) (P:List Nat),StO g P s->rG (AW g) s+1<=n->((gH g (AW g) n s).e=6/\∃i,i<g.length/\¬Can (g.filter λx=>x.st==N9 g i))∨((gH g (AW g) n s).e=0/\∃P ln,StO g P ⟨gD P (gH g (AW g) n s).r.b.length,g.length,ln,(gH g (AW g) n s).r.b,(gH g (AW g) n s).r.l.dropLast,(gH g (AW g) n s).k⟩/\(gH g (AW g) n s).r.l=(gH g (AW g) n s).r.l.dropLast ++ [ln])
 |0,s,P,_,h=>by omega
 |n+1,s,P,h,hm=>by
  rw[BDE]
  have hle:=h.le
  by_cases ht:s.to<g.length
  ·rw[decide_eq_true (show s.to<(AW g).length by rw[CB];exact ht)]
   obtain⟨n1,n2⟩:=ABI ht
   obtain⟨b1,b2⟩:=BZJ ht
   have hms:rG (AW g) s=2*(g.length-s.to)+(if s.fr<s.to then 1 else 0):=by unfold rG;rw[CB]
   cases hq:(NA (O1 g (AW g) s.to (Vq g (AW g) s.to))).2 with
   |false=>
    refine .inl ⟨rfl,s.to,ht,λhc=>?_⟩
    have:Can (O1 g (AW g) s.to (Vq g (AW g) s.to)):=hc.mono λx hx=>by
     obtain⟨i,a,c,rfl⟩:=(AGM n2).1 hx
     refine List.mem_filter.2 ⟨mU (by omega),?_⟩
     exact beq_iff_eq.2 (b2 i a c)
    rw[(ACB (APF ho n2 (a:=s.to))).1.2 this] at hq;cases hq
   |true=>
    cases hr:(NA (O1 g (AW g) s.fr (Vq g (AW g) s.to))).2 with
    |true=>
     exact ASO ho n (goF g (AW g) s) P (h.go ho ht hq hr) (by
      have:rG (AW g) (goF g (AW g) s)<rG (AW g) s:=by unfold rG goF;rw[CB];simp only[];split<;>split<;>omega
      omega)
    |false=>
     have hne:s.fr≠s.to:=λhe=>by rw[he,hq] at hr;cases hr
     exact ASO ho n (uJ g (AW g) s) (P ++ [s.to]) (h.brk ho ht hq hr) (by
      have:rG (AW g) (uJ g (AW g) s)<rG (AW g) s:=by unfold rG uJ;rw[CB];simp only[Nat.lt_irrefl,if_false];rw[if_pos (by omega)];omega
      omega)
  ·rw[decide_eq_false (show ¬s.to<(AW g).length by rw[CB];exact ht)]
   have e:s.to=g.length:=by omega
   refine .inr ⟨rfl,P,s.ln,?_,?_⟩
   ·show StO g P ⟨gD P s.b.length,g.length,s.ln,s.b,(s.l ++ [s.ln]).dropLast,s.k⟩
    rw[List.dropLast_concat,h.last,<-e]
    exact h
   ·show s.l ++ [s.ln]=(s.l ++ [s.ln]).dropLast ++ [s.ln]
    rw[List.dropLast_concat]
end Go.Bal

namespace Go.Bal
open Go Go.Sym Go.Proofs
def BTT(g:List Gau)(b:List Int)(i:Nat):List Gau:=g.filter λx=>(decide (i=0)||decide (gD b (i-1)<=x.st))&&decide (x.st<=gD b i)
theorem U7{g:List Gau}{b:List Int}{i:Nat}{x:Gau}:x∈BTT g b i↔x∈g/\(i≠0->gD b (i-1)<=x.st)/\x.st<=gD b i:=by
 unfold BTT
 rw[List.mem_filter,Bool.and_eq_true,Bool.or_eq_true,decide_eq_true_eq,decide_eq_true_eq,decide_eq_true_eq]
 constructor
 ·rintro⟨h1,h2,h3⟩;exact⟨h1,λh=>h2.resolve_left h,h3⟩
 ·rintro⟨h1,h2,h3⟩
  refine⟨h1,?_,h3⟩
  by_cases h:i=0
  ·exact .inl h
  ·exact .inr (h2 h)
structure Few(g:List Gau)(b:List Int)(l:List Ln)(k:List (List Int)):Prop where
 lenl:l.length=b.length+1
 lenk:k.length=b.length
 asc:asc b
 brk:∀x∈b,1<=x/\x<=2000
 few:b.length<=24
 pass:∀i,i<=b.length->PO (gD l i)/\(QQ (gD l i)).passes (PW g b i)
 bad:∀i,i<b.length->¬Can (BTT g b i)
 rise:∀x∈l,PO x
 parts:∃P:List Nat,PartsO g P b l.dropLast k
 one:∀x∈g,Can (g.filter λy=>y.st==x.st)
theorem N5{g:List Gau}{P:List Nat}{b:List Int}{l:List Ln}{k:List (List Int)}(h:PartsO g P b l k):∀(j i:Nat),i<j->j<=b.length->gD P i<gD P j
 |0,i,h1,_=>by omega
 |j+1,i,h1,h2=>by
  have:=(h.up j (by omega)).1
  by_cases he:i=j
  ·rw[he];exact this
  ·have:=N5 h j i (by omega) (by omega);omega
theorem AZG{g:List Gau}{P:List Nat}{b:List Int}{l:List Ln}{k:List (List Int)}(h:PartsO g P b l k):∀(m i:Nat),m<=b.length->∃j,j<=m/\gD P j<=i/\(j<m->i<gD P (j+1))
 |0,i,_=>⟨0,Nat.le_refl _,by rw[h.zero];omega,λh=>by omega⟩
 |m+1,i,hm=>by
  by_cases hc:gD P (m+1)<=i
  ·exact⟨m+1,Nat.le_refl _,hc,λh=>by omega⟩
  ·obtain⟨j,h1,h2,h3⟩:=AZG h m i (by omega)
   refine⟨j,by omega,h2,λ_=>?_⟩
   by_cases hj:j<m
   ·exact h3 hj
   ·have:j=m:=by omega
    rw[this];omega
theorem BKO{g:List Gau}{P:List Nat}{b:List Int}{l:List Ln}{k:List (List Int)}(h:PartsO g P b l k){i j:Nat}(hi:i<g.length)(hj:j<=b.length)(h1:gD P j<=i)(h2:j<b.length->i<gD P (j+1)):Vx b (N9 g i)=j:=by
 unfold Vx
 refine I5 hj (λq hq=>decide_eq_true ?_) (λq hq hq2=>decide_eq_false ?_)
 ·obtain⟨a1,a2,a3,a4⟩:=h.up q (by omega)
  rw[a4]
  refine mZ ?_ hi
  by_cases he:q+1=j
  ·rw[he];exact h1
  ·have:=N5 h j (q+1) (by omega) hj;omega
 ·obtain⟨a1,a2,a3,a4⟩:=h.up q hq2
  rw[a4]
  have h3:=h2 (by omega)
  have h4:i<gD P (q+1):=by
   by_cases he:j=q
   ·rw[<-he];exact h3
   ·have:=N5 h (q+1) (j+1) (by omega) (by omega);omega
  have:=a3 i (gD P (q+1)) h4 (Nat.le_refl _) a2
  omega
theorem CMJ{g:List Gau}(hc:IH g=0):((ZK g).e=6/\∃x∈g,¬Can (g.filter λy=>y.st==x.st))∨((ZK g).e=0/\Few g (ZK g).r.b (ZK g).r.l (ZK g).k):=by
 obtain⟨⟨hn1,hn2⟩,ho⟩:=Vs hc
 have e:ZK g=gH g (AW g) (2*g.length+2) ini0:=by unfold ZK;rw[hc];rfl
 have h0:StO g [0] ini0:=⟨⟨rfl,rfl,rfl,rfl,λi hi=>by have:i<0:=hi;omega,λi hi=>by have:i<0:=hi;omega,λi hi=>by have:i<0:=hi;omega,λi hi=>by have:i<0:=hi;omega⟩,rfl,⟨Nat.le_refl _,Nat.zero_le _⟩,λi j hi=>by have:i<0:=hi;omega,⟨pS ⟨Int.le_refl _,by show (0:Int)<=2000;omega,Int.le_refl _,by show (0:Int)<=200000;omega⟩,λj _ hj=>by have:j<0:=hj;omega⟩,λj hj=>by have:j<0:=hj;omega⟩
 have hr:=ASO ho (2*g.length+2) ini0 [0] h0 (by unfold rG ini0;rw[CB];simp)
 rw[<-e] at hr
 rcases hr with⟨h1,i,hi,h2⟩ | ⟨h1,P,ln,hS,hl⟩
 ·exact .inl ⟨h1,gauO g i,mU hi,h2⟩
 ·refine .inr ⟨h1,?_⟩
  generalize hb:(ZK g).r.b=b at *
  generalize hk:(ZK g).k=k at *
  generalize hdl:(ZK g).r.l=L at *
  generalize hd:L.dropLast=d at *
  have hp:PartsO g P b d k:=hS.parts
  have hle:gD P b.length<=g.length:=hS.le.1
  have hln:PO ln/\∀j,gD P b.length<=j->j<g.length->(QQ ln).pass (gauO g j):=hS.line
  have hlen:L.length=b.length+1:=by rw[hl,List.length_append,hp.lenl];rfl
  have hgd:∀i,i<b.length->gD L i=gD d i:=λi hi=>by rw[hl,Ke,if_pos (by rw[hp.lenl];exact hi)]
  have hgl:gD L b.length=ln:=by rw[hl,Ke,if_neg (by rw[hp.lenl];omega),if_pos hp.lenl.symm]
  have bval:∀i,i<b.length->1<=gD b i/\gD b i<=2000:=λi hi=>by
   obtain⟨a1,a2,a3,a4⟩:=hp.up i hi
   have h3:=a3 0 (gD P (i+1)) (by omega) (Nat.le_refl _) a2
   have h4:=ho _ (mU (g:=g) (i:=0) (by omega))
   have h5:=ho _ (mU a2)
   have h6:0<=N9 g 0:=h4.1
   have h7:N9 g (gD P (i+1))<=2000:=h5.2.1
   rw[a4];omega
  have mlt:b.length<g.length∨b.length=0:=by
   by_cases hz:b.length=0
   ·exact .inr hz
   ·have key:∀j,j<=b.length->j<=gD P j:=λj=>by
     induction j with
     |zero=>exact λ_=>Nat.zero_le _
     |succ j ih=>exact λhj=>by have:=ih (by omega);have:=(hp.up j (by omega)).1;omega
    have:=key b.length (Nat.le_refl _)
    have h9:=(hp.up (b.length-1) (by omega)).2.1
    rw[show b.length-1+1=b.length by omega] at h9
    exact .inl (by omega)
  have hpass:∀i,i<=b.length->PO (gD L i)/\(QQ (gD L i)).passes (PW g b i):=λi hi=>by
   refine⟨?_,λx hx=>?_⟩
   ·by_cases hl2:i<b.length
    ·rw[hgd i hl2];exact (hp.line i hl2).1
    ·rw[show i=b.length by omega,hgl];exact hln.1
   ·obtain⟨hx1,hx2⟩:=Kl.1 hx
    obtain⟨j,hj,rfl⟩:=ADW hx1
    obtain⟨q,q1,q2,q3⟩:=AZG hp b.length j (Nat.le_refl _)
    have:=BKO hp hj q1 q2 q3
    have hx2:(Vx b (N9 g j):Int)=i:=hx2
    have hqi:q=i:=by omega
    subst hqi
    by_cases hl2:q<b.length
    ·rw[hgd q hl2];exact (hp.line q hl2).2 j q2 (q3 hl2)
    ·have hqb:q=b.length:=by omega
     rw[hqb,hgl];exact hln.2 j (hqb ▸ q2) hj
  refine⟨hlen,hp.lenk,?_,λx hx=>by obtain⟨i,hi,rfl⟩:=oX hx;exact bval i hi,by omega,hpass,λi hi hcan=>?_,λx hx=>?_,⟨P,hd ▸ hp⟩,λx hx=>?_⟩
  ·refine List.pairwise_iff_getElem.2 λi j hi hj hij=>?_
   obtain⟨a1,a2,a3,a4⟩:=hp.up i hi
   obtain⟨c1,c2,c3,c4⟩:=hp.up j hj
   have e1:b[i]=gD b i:=by simp[gD,List.getD_eq_getElem?_getD,hi]
   have e2:b[j]=gD b j:=by simp[gD,List.getD_eq_getElem?_getD,hj]
   rw[e1,e2,a4,c4]
   exact c3 _ _ (N5 hp (j+1) (i+1) (by omega) (by omega)) (Nat.le_refl _) c2
  ·obtain⟨a1,a2,a3,a4⟩:=hp.up i hi
   obtain⟨n1,n2⟩:=ABI a2
   obtain⟨b1,b2⟩:=BZJ a2
   refine hp.bad i hi (hcan.mono λx hx=>?_)
   obtain⟨j,j1,j2,rfl⟩:=(AGM n2).1 hx
   refine U7.2 ⟨mU (by omega),λh0=>?_,?_⟩
   ·have e2:=(hp.up (i-1) (by omega)).2.2.2
    rw[show i-1+1=i by omega] at e2
    rw[e2]
    exact mZ j1 (by omega)
   ·show N9 g j<=_
    rw[a4]
    by_cases hj:j<=gD P (i+1)
    ·exact mZ hj a2
    ·rw[b2 j (by omega) j2];exact Int.le_refl _
  ·obtain⟨i,hi,rfl⟩:=oX hx
   exact (hpass i (by omega)).1
  ·obtain⟨j,hj,rfl⟩:=ADW hx
   exact hS.one j hj
theorem ALC(b:List Int){t u:Int}(h:t<=u):Vx b t<=Vx b u:=List.countP_mono_left λx _ hx=>by
 rw[decide_eq_true_eq] at *;omega
theorem Few.least{g:List Gau}{b:List Int}{l:List Ln}{k:List (List Int)}(h:Few g b l k){c:List Int}(hc:∀i:Nat,i<=c.length->Can (PW g c i)):b.length<=c.length:=by
 have key:∀i,i<b.length->i+1<=Vx c (gD b i):=λi=>by
  induction i with
  |zero=>
   intro hi
   refine Classical.byContradiction λhz=>?_
   refine h.bad 0 hi ((hc 0 (Nat.zero_le _)).mono λx hx=>?_)
   obtain⟨h1,_,h3⟩:=U7.1 hx
   have:=ALC c h3
   exact Kl.2 ⟨h1,by omega⟩
  |succ i ih=>
   intro hi
   have h0:=ih (by omega)
   refine Classical.byContradiction λhz=>?_
   refine h.bad (i+1) hi ((hc (i+1) (by have:=pP c (gD b i);omega)).mono λx hx=>?_)
   obtain⟨h1,h2,h3⟩:=U7.1 hx
   have h2:=h2 (by omega)
   rw[show i+1-1=i by omega] at h2
   have a1:=ALC c h2
   have a2:=ALC c h3
   exact Kl.2 ⟨h1,by omega⟩
 by_cases hz:b.length=0
 ·omega
 ·have:=key (b.length-1) (by omega)
  have:=pP c (gD b (b.length-1))
  omega
theorem BOZ{g:List Gau}(hc:IH g=0){c:List Int}(h:∀i:Nat,i<=c.length->Can (PW g c i)):(ZK g).e=0/\Few g (ZK g).r.b (ZK g).r.l (ZK g).k/\(ZK g).r.b.length<=c.length:=by
 rcases CMJ hc with⟨_,x,hx,hn⟩ | ⟨h1,h2⟩
 ·exfalso
  refine hn ((h (Vx c x.st) (pP _ _)).mono λy hy=>?_)
  obtain⟨y1,y2⟩:=List.mem_filter.1 hy
  have y2:=eq_of_beq y2
  exact Kl.2 ⟨y1,by rw[y2]⟩
 ·exact⟨h1,h2,h2.least h⟩
theorem Few.thru{g:List Gau}{b:List Int}{l:List Ln}{k:List (List Int)}(h:Few g b l k)(hc:IH g=0):Thru g b:=
 ⟨(Vs hc).1,(Vs hc).2,h.asc,h.brk,h.few,λi hi=>⟨_,(h.pass i hi).1,(h.pass i hi).2⟩⟩
end Go.Bal

namespace Go.Bal
open Go Go.Sym Go.Proofs
structure RtOk(g:List Gau)(r:Rtg):Prop where
 chk:IH g=0
 asc:asc r.b
 brk:∀x∈r.b,1<=x/\x<=2000
 few:r.b.length<=24
 lines:r.l.length=r.b.length+1
 rise:∀x∈r.l,PO x
 pass:∀i,i<=r.b.length->(QQ (gD r.l i)).passes (PW g r.b i)
theorem RtOk.chkR{g:List Gau}{r:Rtg}(h:RtOk g r):Hr r=0:=by
 unfold Hr
 rw[BFY h.asc h.brk h.few,h.lines,List.all_eq_true.2 λx hx=>dG.2 (h.rise x hx)]
 simp
theorem RtOk.thru{g:List Gau}{r:Rtg}(h:RtOk g r):Thru g r.b:=
 ⟨(Vs h.chk).1,(Vs h.chk).2,h.asc,h.brk,h.few,λi hi=>⟨_,h.rise _ (MF (by rw[h.lines];omega)),h.pass i hi⟩⟩
theorem RtOk.passes{g:List Gau}{r:Rtg}(h:RtOk g r):xW ⟨g,r⟩=0/\sH ⟨g,r⟩=[]:=by
 have e:xW ⟨g,r⟩=0:=by
  show (bif IH g==0 then Hr r else IH g)=0
  rw[h.chk,h.chkR];rfl
 refine⟨e,?_⟩
 unfold sH;rw[e]
 show pasK ⟨g,r⟩ g.length=[]
 unfold pasK
 rw[List.map_eq_nil_iff,List.filter_eq_nil_iff]
 intro i hi hc
 have hi:=List.mem_range.1 hi
 have hle:=pP r.b (gD g i).st
 have hp:=h.pass (Vx r.b (gD g i).st) hle _ (Kl.2 ⟨MF hi,rfl⟩)
 have ho:PO (gD r.l (Vx r.b (gD g i).st)):=h.rise _ (MF (by rw[h.lines];omega))
 have hc:(!WE (gD r.l (Vx r.b (gD g i).st)) (gD g i))=true:=hc
 rw[(Q2 ho).2 hp] at hc;cases hc
theorem RtOk.at{g:List Gau}{r:Rtg}(h:RtOk g r){t:Int}(ht:0<=t/\t<=2000):atE ⟨r,t⟩=0/\uM (atM ⟨r,t⟩)/\Nk (SZ ⟨g,r.b,t⟩).lo (atM ⟨r,t⟩)/\Nk (atM ⟨r,t⟩) (SZ ⟨g,r.b,t⟩).hi:=by
 have e:atE ⟨r,t⟩=0:=by
  show (bif Hr r==0 then (bif MN t 0 2000 then 0 else 4) else Hr r)=0
  rw[h.chkR,show MN t 0 2000=true by unfold MN;simpa using ht];rfl
 have hle:=pP r.b t
 have ho:PO (gD r.l (Vx r.b t)):=h.rise _ (MF (by rw[h.lines];omega))
 have e2:atM ⟨r,t⟩=LZ (gD r.l (Vx r.b t)) t:=by unfold atM;rw[e];rfl
 have hp:=h.pass _ hle
 have hT:=h.thru
 obtain⟨i1,i2,i3⟩:=hT.in hle ht
 rw[e2,(hT.flow ht).2]
 refine⟨e,KR ho,?_,?_⟩
 ·exact (M8 ho i1.1.1).2 (AFL (Vo hT.ok) ht (LD ho) hp)
 ·exact (ACI ho i2.1.1).2 (AQO (Vo hT.ok) ht (LD ho) hp)
end Go.Bal

namespace Go.Bal
open Go Go.Sym Go.Proofs
theorem AMU(g:List Gau):PW g [] (0:Nat)=g:=by
 unfold PW aE Ca
 exact List.filter_eq_self.2 λx _=>rfl
theorem BTA{g:List Gau}{y:Ln}(hc:IH g=0)(h:PO y)(hp:(QQ y).passes g):RtOk g ⟨[],[y]⟩:=
 ⟨hc,.nil,λx hx=>(by cases hx),Nat.zero_le _,rfl,λx hx=>by rw[List.mem_singleton.1 hx];exact h,λi hi=>by
  have:i=0:=by have hi:i<=0:=hi;omega
  subst this
  show (QQ y).passes (PW g [] (0:Nat))
  rw[AMU];exact hp⟩
end Go.Bal

namespace Go.Bal
open Go Go.Sym Go.Proofs
theorem CFW{s u:List Gau}{t:Int}(hs:∀g∈s,Ht g)(hu:∀g∈u,Ht g)(ht:0<=t/\t<=2000)(hp:∀y,PO y->(QQ y).passes u->(QQ y).passes s)(hne:Nn u t≠[]):Nk (qD s t).lo (qD u t).lo/\Nk (qD u t).hi (qD s t).hi:=by
 obtain⟨⟨z,oz,pz,ez⟩,y,oy,py,ey⟩:=sK hu hne
 have h1:=AFL hs ht (LD oz) (hp z oz pz)
 have h2:=AQO hs ht (LD oy) (hp y oy py)
 have hn:Nn s t≠[]:=AIK hs ht (LD oz) (hp z oz pz)
 obtain⟨i1,i2,_⟩:=BQP hs ht hn
 rw[ez,ey]
 exact⟨(M8 oz i1.1.1).2 h1,(ACI oy i2.1.1).2 h2⟩
structure Wid(g w:List Gau):Prop where
 len:w.length=g.length
 at_:∀i,i<g.length->(gD w i).st=(gD g i).st/\(gD w i).lo<=(gD g i).lo/\(gD g i).hi<=(gD w i).hi
theorem Wid.pass{g w:List Gau}(h:Wid g w)(b:List Int)(k:Int){y:Ln}(hy:PO y)(hp:(QQ y).passes (PW g b k)):(QQ y).passes (PW w b k):=λx hx=>by
 obtain⟨h1,h2⟩:=Kl.1 hx
 obtain⟨i,hi,rfl⟩:=oX h1
 rw[h.len] at hi
 obtain⟨a1,a2,a3⟩:=h.at_ i hi
 obtain⟨p1,p2⟩:=hp (gD g i) (Kl.2 ⟨MF hi,by rw[<-a1];exact h2⟩)
 have hw:=(LD hy).1
 unfold Rl.pass
 rw[a1]
 exact⟨Int.le_trans (Int.mul_le_mul_of_nonneg_right a2 (Int.le_of_lt hw)) p1,Int.le_trans p2 (Int.mul_le_mul_of_nonneg_right a3 (Int.le_of_lt hw))⟩
theorem Wid.thru{g w:List Gau}(h:Wid g w)(ho:∀x∈w,Ht x){b:List Int}(hT:Thru g b):Thru w b:=
 ⟨by rw[h.len];exact hT.len,ho,hT.asc,hT.brk,hT.few,λk hk=>by
  obtain⟨x,h1,h2⟩:=hT.thru k hk
  exact⟨x,h1,h.pass b k h1 h2⟩⟩
theorem BMM{g w:List Gau}{b:List Int}(hT:Thru g b)(h:Wid g w)(ho:∀x∈w,Ht x){t:Int}(ht:0<=t/\t<=2000):Nk (SZ ⟨w,b,t⟩).lo (SZ ⟨g,b,t⟩).lo/\Nk (SZ ⟨g,b,t⟩).hi (SZ ⟨w,b,t⟩).hi:=by
 rw[(hT.flow ht).2,((h.thru ho hT).flow ht).2]
 exact CFW (Vo ho) (Vo hT.ok) ht (λy oy hy=>h.pass b _ oy hy) (hT.ne (pP _ _) ht)
end Go.Bal
