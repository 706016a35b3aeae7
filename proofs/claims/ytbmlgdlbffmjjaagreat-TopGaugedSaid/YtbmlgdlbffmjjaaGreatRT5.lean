/- Package rating: the fewest parts (no program in sight). -/
import Derived.Test.YtbmlgdlbffmjjaaGreatRT2
import Derived.Test.YtbmlgdlbffmjjaaGreatGaK
set_option linter.unusedVariables false
set_option linter.unusedSimpArgs false
namespace Go.Bal
open Go Go.Sym Go.Proofs
def Can(s:List Gau):Prop:=∃x,PT x/\(QJ x).passes s
theorem Can.mono{s t:List Gau}(h:Can t)(hs:∀g∈s,g∈t):Can s:=by
 obtain⟨x,h1,h2⟩:=h
 exact⟨x,h1,λg hg=>h2 g (hs g hg)⟩
theorem ACD{s:List Gau}(hs:∀g∈s,Ho g):((NX s).2=true↔Can s)/\((NX s).2=true->PT (NX s).1/\(QJ (NX s).1).passes s):=by
 unfold NX
 by_cases h0:s.length=0
 ·rw[if_pos h0]
  have hn:=List.eq_nil_of_length_eq_zero h0
  have ho:PT (TG ⟨0,0⟩):=oR ⟨Int.le_refl _,by show (0:Int)<=2000;omega,Int.le_refl _,by show (0:Int)<=200000;omega⟩
  subst hn
  exact⟨⟨λ_=>⟨_,ho,λg hg=>by cases hg⟩,λ_=>rfl⟩,λ_=>⟨ho,λg hg=>by cases hg⟩⟩
 ·rw[if_neg h0]
  have hne:s≠[]:=λh=>h0 (by rw[h];rfl)
  cases hf:(Rr s).find? (Rp s) with
  |some x=>
   have h1:=List.find?_some hf
   have h2:=BJN hs x (List.mem_of_find?_eq_some hf)
   have h3:=(ADG h2).1 h1
   exact⟨⟨λ_=>⟨x,h2,h3⟩,λ_=>rfl⟩,λ_=>⟨h2,h3⟩⟩
  |none=>
   refine⟨⟨λh=>(by cases h),λh=>?_⟩,λh=>(by cases h)⟩
   obtain⟨x,h1,h2⟩:=h
   exfalso
   have:=BUD hs (KX h1) h2 hne
   refine this (List.filter_eq_nil_iff.2 λy hy=>?_)
   have:=List.find?_eq_none.1 hf y hy
   exact this
def gauO(g:List Gau)(i:Nat):Gau:=gD g (gD (AW g) i).toNat
def O1(g:List Gau)(i:Nat):Int:=PX g (gD (AW g) i)
theorem lW{g:List Gau}{i j:Nat}(h:i<=j)(hj:j<g.length):O1 g i<=O1 g j:=by
 by_cases he:i=j
 ·rw[he];exact Int.le_refl _
 ·have:=BCD (PX g) (iotI g.length) i j (by omega) (by rw[bJ];omega)
  exact this
theorem lX{g:List Gau}{i:Nat}(h:i<g.length):gauO g i∈g:=by
 have:=A9 h
 exact MH (by omega)
theorem AJT{g:List Gau}{x:Gau}(h:x∈g):∃i,i<g.length/\gauO g i=x:=by
 obtain⟨j,hj,rfl⟩:=pK h
 have h1:(j:Int)∈iotI g.length:=List.mem_map.2 ⟨j,List.mem_range.2 hj,rfl⟩
 have h2:=(AGJ g).mem_iff.2 h1
 obtain⟨i,hi,he⟩:=pK h2
 exact⟨i,by rw[CB] at hi;exact hi,by unfold gauO;rw[he];rfl⟩
theorem AGL{g:List Gau}{a b:Nat}(hb:b<=g.length){x:Gau}:x∈O0 g (AW g) a b↔∃i,a<=i/\i<b/\gauO g i=x:=by
 have hl:((AW g).take b).length=b:=by rw[List.length_take,CB];omega
 unfold O0 pkM
 rw[List.mem_map]
 show (∃y,y∈(((AW g).take b).drop a)/\_)↔_
 constructor
 ·rintro⟨y,hy,rfl⟩
  obtain⟨i,hi,rfl⟩:=pK hy
  rw[List.length_drop,hl] at hi
  refine⟨a+i,by omega,by omega,?_⟩
  unfold gauO
  rw[bD]
  simp[gD,List.getD_eq_getElem?_getD,List.getElem?_take,show a+i<b by omega]
 ·rintro⟨i,h1,h2,rfl⟩
  refine⟨gD (((AW g).take b).drop a) (i-a),MH (by rw[List.length_drop,hl];omega),?_⟩
  unfold gauO
  rw[bD,show a+(i-a)=i by omega]
  simp[gD,List.getD_eq_getElem?_getD,List.getElem?_take,h2]
theorem AUR{g:List Gau}(h:∀x∈g,Ho x){a b:Nat}(hb:b<=g.length):∀x∈O0 g (AW g) a b,Ho x:=λx hx=>by
 obtain⟨i,_,h2,rfl⟩:=(AGL hb).1 hx
 exact h _ (lX (by omega))
def bdO(g:List Gau)(t:Nat):Prop:=∀i j,i<t->t<=j->j<g.length->O1 g i<O1 g j
theorem BJY{g:List Gau}{t:Nat}:∀(n k:Nat),t<=k->k+n=g.length->(∀j,t<=j->j<k->O1 g j=O1 g t)->(∀j,t<=j->j<zM g (AW g) t n k->O1 g j=O1 g t)/\(zM g (AW g) t n k<g.length->O1 g (zM g (AW g) t n k)≠O1 g t)
 |0,k,_,hk,h=>⟨h,λhc=>by have:k<g.length:=hc;omega⟩
 |n+1,k,ht,hk,h=>by
  by_cases hc:PX g (gD (AW g) k)=PX g (gD (AW g) t)
  ·have e:zM g (AW g) t (n+1) k=zM g (AW g) t n (k+1):=by
    conv=>lhs;unfold zM
    rw[show (PX g (gD (AW g) k)==PX g (gD (AW g) t))=true by rw[hc];simp];rfl
   rw[e]
   exact BJY n (k+1) (by omega) (by omega) (λj a b=>by
    by_cases hj:j=k
    ·rw[hj];exact hc
    ·exact h j a (by omega))
  ·have e:zM g (AW g) t (n+1) k=k:=by
    unfold zM
    rw[show (PX g (gD (AW g) k)==PX g (gD (AW g) t))=false by simpa using hc];rfl
   rw[e]
   exact⟨h,λ_=>hc⟩
theorem BPH{g:List Gau}{t:Nat}(h:t<g.length):bdO g (Vr g (AW g) t)/\∀j,t<=j->j<Vr g (AW g) t->O1 g j=O1 g t:=by
 obtain⟨h1,h2⟩:=ABO h
 have hs:=BJY (g:=g) (t:=t) (g.length-t) t (Nat.le_refl _) (by omega) (λj a b=>by omega)
 have e:zM g (AW g) t (g.length-t) t=Vr g (AW g) t:=by unfold Vr;rw[CB]
 rw[e] at hs
 refine⟨λi j hi hj hj2=>?_,hs.1⟩
 have h3:=hs.2 (by omega)
 have h4:O1 g t<=O1 g (Vr g (AW g) t):=lW (by omega) (by omega)
 have h5:=lW hj hj2
 have h6:O1 g i<=O1 g t:=by
  by_cases hit:i<=t
  ·exact lW hit h
  ·rw[hs.1 i (by omega) hi];exact Int.le_refl _
 omega
structure PartsO(g:List Gau)(P:List Nat)(b:List Int)(l:List Ln)(k:List (List Int)):Prop where
 lenP:P.length=b.length+1
 lenl:l.length=b.length
 lenk:k.length=b.length
 zero:gD P 0=0
 up:∀i,i<b.length->gD P i<gD P (i+1)/\gD P (i+1)<g.length/\bdO g (gD P (i+1))/\gD b i=O1 g (gD P (i+1))
 line:∀i,i<b.length->PT (gD l i)/\∀j,gD P i<=j->j<gD P (i+1)->(QJ (gD l i)).pass (gauO g j)
 bad:∀i,i<b.length->¬Can (O0 g (AW g) (gD P i) (Vr g (AW g) (gD P (i+1))))
 knot:∀i,i<b.length->gD k i=bH ⟨g,((AW g).take (Vr g (AW g) (gD P (i+1)))).drop (gD P i)⟩
def oneS(g:List Gau)(t:Nat):Prop:=∀j,j<t->Can (g.filter λx=>x.st==O1 g j)
structure StO(g:List Gau)(P:List Nat)(s:FS):Prop where
 parts:PartsO g P s.b s.l s.k
 last:gD P s.b.length=s.fr
 le:s.fr<=s.to/\s.to<=g.length
 bd:bdO g s.to
 line:PT s.ln/\∀j,s.fr<=j->j<s.to->(QJ s.ln).pass (gauO g j)
 one:oneS g s.to
theorem Kh{α:Type}[Inhabited α](l:List α)(x:α)(i:Nat):gD (l ++ [x]) i=if i<l.length then gD l i else if i=l.length then x else default:=by
 rw[xP]
 split
 ·rfl
 ·split
  ·rename_i h1 h2;rw[h2,Nat.sub_self];rfl
  ·rename_i h1 h2
   obtain⟨m,hm⟩:∃m,i-l.length=m+1:=⟨i-l.length-1,by omega⟩
   rw[hm];rfl
theorem StO.go{g:List Gau}{P:List Nat}{s:FS}(h:StO g P s)(ho:∀x∈g,Ho x)(ht:s.to<g.length)(hq:(NX (O0 g (AW g) s.to (Vr g (AW g) s.to))).2=true)(hr:(NX (O0 g (AW g) s.fr (Vr g (AW g) s.to))).2=true):StO g P (goF g (AW g) s):=by
 obtain⟨n1,n2⟩:=ABO ht
 obtain⟨b1,b2⟩:=BPH ht
 have hl:=(ACD (AUR ho n2 (a:=s.fr))).2 hr
 have hq2:=(ACD (AUR ho n2 (a:=s.to))).1.1 hq
 refine⟨h.parts,h.last,⟨by show s.fr<=Vr _ _ _;have:=h.le;omega,n2⟩,b1,⟨hl.1,λj a c=>hl.2 _ ((AGL n2).2 ⟨j,a,c,rfl⟩)⟩,λj hj=>?_⟩
 have hj:j<Vr g (AW g) s.to:=hj
 by_cases hjt:j<s.to
 ·exact h.one j hjt
 ·rw[b2 j (by omega) hj]
  refine hq2.mono λx hx=>?_
  obtain⟨hx1,hx2⟩:=List.mem_filter.1 hx
  obtain⟨i,hi,rfl⟩:=AJT hx1
  have hx2:O1 g i=O1 g s.to:=eq_of_beq hx2
  refine (AGL n2).2 ⟨i,?_,?_,rfl⟩
  ·refine Classical.byContradiction λhc=>?_
   have:=h.bd i s.to (by omega) (Nat.le_refl _) ht;omega
  ·refine Classical.byContradiction λhc=>?_
   have:=b1 s.to i (by omega) (by omega) hi;omega
theorem StO.brk{g:List Gau}{P:List Nat}{s:FS}(h:StO g P s)(ho:∀x∈g,Ho x)(ht:s.to<g.length)(hq:(NX (O0 g (AW g) s.to (Vr g (AW g) s.to))).2=true)(hr:(NX (O0 g (AW g) s.fr (Vr g (AW g) s.to))).2=false):StO g (P ++ [s.to]) (vT g (AW g) s):=by
 obtain⟨n1,n2⟩:=ABO ht
 have hne:s.fr≠s.to:=λhe=>by rw[he,hq] at hr;cases hr
 have hbad:¬Can (O0 g (AW g) s.fr (Vr g (AW g) s.to)):=λhc=>by
  rw[(ACD (AUR ho n2 (a:=s.fr))).1.2 hc] at hr;cases hr
 have hle:=h.le
 obtain⟨p1,p2,p3,p4,p5,p6,p7,p8⟩:=h.parts
 have hlast:=h.last
 have eP:∀i,i<=s.b.length->gD (P ++ [s.to]) i=gD P i:=λi hi=>by rw[Kh,if_pos (by omega)]
 have eP2:gD (P ++ [s.to]) (s.b.length+1)=s.to:=by rw[Kh,if_neg (by omega),if_pos (by omega)]
 have eb:∀i,i<s.b.length->gD (s.b ++ [PX g (gD (AW g) s.to)]) i=gD s.b i:=λi hi=>by rw[Kh,if_pos hi]
 have eb2:gD (s.b ++ [PX g (gD (AW g) s.to)]) s.b.length=O1 g s.to:=by rw[Kh,if_neg (by omega),if_pos rfl];rfl
 have el:∀i,i<s.b.length->gD (s.l ++ [s.ln]) i=gD s.l i:=λi hi=>by rw[Kh,if_pos (by omega)]
 have el2:gD (s.l ++ [s.ln]) s.b.length=s.ln:=by rw[Kh,if_neg (by omega),if_pos (by omega)]
 have ek:∀(z:List Int) i,i<s.b.length->gD (s.k ++ [z]) i=gD s.k i:=λz i hi=>by rw[Kh,if_pos (by omega)]
 have ek2:∀z:List Int,gD (s.k ++ [z]) s.b.length=z:=λz=>by rw[Kh,if_neg (by omega),if_pos (by omega)]
 have elen:(s.b ++ [PX g (gD (AW g) s.to)]).length=s.b.length+1:=by simp
 refine⟨⟨?_,?_,?_,?_,?_,?_,?_,?_⟩,?_,⟨Nat.le_refl _,hle.2⟩,h.bd,⟨h.line.1,λj a c=>by have a:s.to<=j:=a;have c:j<s.to:=c;omega⟩,h.one⟩
 ·show (P ++ [s.to]).length=(s.b ++ [_]).length+1;rw[elen];simp;omega
 ·show (s.l ++ [s.ln]).length=(s.b ++ [_]).length;rw[elen];simp;omega
 ·show (s.k ++ [_]).length=(s.b ++ [_]).length;rw[elen];simp;omega
 ·rw[eP 0 (Nat.zero_le _)];exact p4
 ·intro i hi
  have hi:i<s.b.length+1:=by have hi:i<(s.b ++ [_]).length:=hi;rw[elen] at hi;exact hi
  show gD (P ++ [s.to]) i<gD (P ++ [s.to]) (i+1)/\gD (P ++ [s.to]) (i+1)<g.length/\bdO g (gD (P ++ [s.to]) (i+1))/\gD (s.b ++ [PX g (gD (AW g) s.to)]) i=O1 g (gD (P ++ [s.to]) (i+1))
  by_cases hl:i<s.b.length
  ·rw[eP i (by omega),eP (i+1) (by omega),eb i hl];exact p5 i hl
  ·have:i=s.b.length:=by omega
   subst this
   rw[eP _ (Nat.le_refl _),eP2,eb2,hlast]
   exact⟨by omega,ht,h.bd,rfl⟩
 ·intro i hi
  have hi:i<s.b.length+1:=by have hi:i<(s.b ++ [_]).length:=hi;rw[elen] at hi;exact hi
  show PT (gD (s.l ++ [s.ln]) i)/\∀j,gD (P ++ [s.to]) i<=j->j<gD (P ++ [s.to]) (i+1)->(QJ (gD (s.l ++ [s.ln]) i)).pass (gauO g j)
  by_cases hl:i<s.b.length
  ·rw[eP i (by omega),eP (i+1) (by omega),el i hl];exact p6 i hl
  ·have:i=s.b.length:=by omega
   subst this
   rw[eP _ (Nat.le_refl _),eP2,el2,hlast]
   exact h.line
 ·intro i hi
  have hi:i<s.b.length+1:=by have hi:i<(s.b ++ [_]).length:=hi;rw[elen] at hi;exact hi
  by_cases hl:i<s.b.length
  ·rw[eP i (by omega),eP (i+1) (by omega)];exact p7 i hl
  ·have:i=s.b.length:=by omega
   subst this
   rw[eP _ (Nat.le_refl _),eP2,hlast]
   exact hbad
 ·intro i hi
  have hi:i<s.b.length+1:=by have hi:i<(s.b ++ [_]).length:=hi;rw[elen] at hi;exact hi
  show gD (s.k ++ [_]) i=_
  by_cases hl:i<s.b.length
  ·rw[eP i (by omega),eP (i+1) (by omega),ek _ i hl];exact p8 i hl
  ·have:i=s.b.length:=by omega
   subst this
   rw[eP _ (Nat.le_refl _),eP2,hlast,ek2]
 ·show gD (P ++ [s.to]) (s.b ++ [_]).length=s.to
  rw[elen];exact eP2
theorem APU{g:List Gau}(ho:∀x∈g,Ho x):∀(n:Nat) (s:FS) (P:List Nat),StO g P s->rR (AW g) s+1<=n->((gI g (AW g) n s).e=6/\∃i,i<g.length/\¬Can (g.filter λx=>x.st==O1 g i))∨((gI g (AW g) n s).e=0/\∃P ln,StO g P ⟨gD P (gI g (AW g) n s).r.b.length,g.length,ln,(gI g (AW g) n s).r.b,(gI g (AW g) n s).r.l.dropLast,(gI g (AW g) n s).k⟩/\(gI g (AW g) n s).r.l=(gI g (AW g) n s).r.l.dropLast ++ [ln])
 |0,s,P,_,h=>by omega
 |n+1,s,P,h,hm=>by
  rw[BEO]
  have hle:=h.le
  by_cases ht:s.to<g.length
  ·rw[decide_eq_true (show s.to<(AW g).length by rw[CB];exact ht)]
   obtain⟨n1,n2⟩:=ABO ht
   obtain⟨b1,b2⟩:=BPH ht
   have hms:rR (AW g) s=2*(g.length-s.to)+(if s.fr<s.to then 1 else 0):=by unfold rR;rw[CB]
   cases hq:(NX (O0 g (AW g) s.to (Vr g (AW g) s.to))).2 with
   |false=>
    refine .inl ⟨rfl,s.to,ht,λhc=>?_⟩
    have:Can (O0 g (AW g) s.to (Vr g (AW g) s.to)):=hc.mono λx hx=>by
     obtain⟨i,a,c,rfl⟩:=(AGL n2).1 hx
     refine List.mem_filter.2 ⟨lX (by omega),?_⟩
     exact beq_iff_eq.2 (b2 i a c)
    rw[(ACD (AUR ho n2 (a:=s.to))).1.2 this] at hq;cases hq
   |true=>
    cases hr:(NX (O0 g (AW g) s.fr (Vr g (AW g) s.to))).2 with
    |true=>
     exact APU ho n (goF g (AW g) s) P (h.go ho ht hq hr) (by
      have:rR (AW g) (goF g (AW g) s)<rR (AW g) s:=by unfold rR goF;rw[CB];simp only[];split<;>split<;>omega
      omega)
    |false=>
     have hne:s.fr≠s.to:=λhe=>by rw[he,hq] at hr;cases hr
     exact APU ho n (vT g (AW g) s) (P ++ [s.to]) (h.brk ho ht hq hr) (by
      have:rR (AW g) (vT g (AW g) s)<rR (AW g) s:=by unfold rR vT;rw[CB];simp only[Nat.lt_irrefl,if_false];rw[if_pos (by omega)];omega
      omega)
  ·rw[decide_eq_false (show ¬s.to<(AW g).length by rw[CB];exact ht)]
   have e:s.to=g.length:=by omega
   refine .inr ⟨rfl,P,s.ln,?_,?_⟩
   ·show StO g P ⟨gD P s.b.length,g.length,s.ln,s.b,(s.l ++ [s.ln]).dropLast,s.k⟩
    rw[List.dropLast_concat,h.last,<-e]
    exact h
   ·show s.l ++ [s.ln]=(s.l ++ [s.ln]).dropLast ++ [s.ln]
    rw[List.dropLast_concat]
end Go.Bal

namespace Go.Bal
open Go Go.Sym Go.Proofs
def BUS(g:List Gau)(b:List Int)(i:Nat):List Gau:=g.filter λx=>(decide (i=0)||decide (gD b (i-1)<=x.st))&&decide (x.st<=gD b i)
theorem V5{g:List Gau}{b:List Int}{i:Nat}{x:Gau}:x∈BUS g b i↔x∈g/\(i≠0->gD b (i-1)<=x.st)/\x.st<=gD b i:=by
 unfold BUS
 rw[List.mem_filter,Bool.and_eq_true,Bool.or_eq_true,decide_eq_true_eq,decide_eq_true_eq,decide_eq_true_eq]
 constructor
 ·rintro⟨h1,h2,h3⟩;exact⟨h1,λh=>h2.resolve_left h,h3⟩
 ·rintro⟨h1,h2,h3⟩
  refine⟨h1,?_,h3⟩
  by_cases h:i=0
  ·exact .inl h
  ·exact .inr (h2 h)
structure Few(g:List Gau)(b:List Int)(l:List Ln)(k:List (List Int)):Prop where
 lenl:l.length=b.length+1
 lenk:k.length=b.length
 asc:asc b
 brk:∀x∈b,1<=x/\x<=2000
 few:b.length<=24
 pass:∀i,i<=b.length->PT (gD l i)/\(QJ (gD l i)).passes (QD g b i)
 bad:∀i,i<b.length->¬Can (BUS g b i)
 rise:∀x∈l,PT x
 parts:∃P:List Nat,PartsO g P b l.dropLast k
 one:∀x∈g,Can (g.filter λy=>y.st==x.st)
theorem K3{g:List Gau}{P:List Nat}{b:List Int}{l:List Ln}{k:List (List Int)}(h:PartsO g P b l k):∀(j i:Nat),i<j->j<=b.length->gD P i<gD P j
 |0,i,h1,_=>by omega
 |j+1,i,h1,h2=>by
  have:=(h.up j (by omega)).1
  by_cases he:i=j
  ·rw[he];exact this
  ·have:=K3 h j i (by omega) (by omega);omega
theorem AXM{g:List Gau}{P:List Nat}{b:List Int}{l:List Ln}{k:List (List Int)}(h:PartsO g P b l k):∀(m i:Nat),m<=b.length->∃j,j<=m/\gD P j<=i/\(j<m->i<gD P (j+1))
 |0,i,_=>⟨0,Nat.le_refl _,by rw[h.zero];omega,λh=>by omega⟩
 |m+1,i,hm=>by
  by_cases hc:gD P (m+1)<=i
  ·exact⟨m+1,Nat.le_refl _,hc,λh=>by omega⟩
  ·obtain⟨j,h1,h2,h3⟩:=AXM h m i (by omega)
   refine⟨j,by omega,h2,λ_=>?_⟩
   by_cases hj:j<m
   ·exact h3 hj
   ·have:j=m:=by omega
    rw[this];omega
theorem BKZ{g:List Gau}{P:List Nat}{b:List Int}{l:List Ln}{k:List (List Int)}(h:PartsO g P b l k){i j:Nat}(hi:i<g.length)(hj:j<=b.length)(h1:gD P j<=i)(h2:j<b.length->i<gD P (j+1)):Vs b (O1 g i)=j:=by
 unfold Vs
 refine M8 hj (λq hq=>decide_eq_true ?_) (λq hq hq2=>decide_eq_false ?_)
 ·obtain⟨a1,a2,a3,a4⟩:=h.up q (by omega)
  rw[a4]
  refine lW ?_ hi
  by_cases he:q+1=j
  ·rw[he];exact h1
  ·have:=K3 h j (q+1) (by omega) hj;omega
 ·obtain⟨a1,a2,a3,a4⟩:=h.up q hq2
  rw[a4]
  have h3:=h2 (by omega)
  have h4:i<gD P (q+1):=by
   by_cases he:j=q
   ·rw[<-he];exact h3
   ·have:=K3 h (q+1) (j+1) (by omega) (by omega);omega
  have:=a3 i (gD P (q+1)) h4 (Nat.le_refl _) a2
  omega
theorem CMA{g:List Gau}(hc:IH g=0):((ZL g).e=6/\∃x∈g,¬Can (g.filter λy=>y.st==x.st))∨((ZL g).e=0/\Few g (ZL g).r.b (ZL g).r.l (ZL g).k):=by
 obtain⟨⟨hn1,hn2⟩,ho⟩:=Vz hc
 have e:ZL g=gI g (AW g) (2*g.length+2) ini0:=by unfold ZL;rw[hc];rfl
 have h0:StO g [0] ini0:=⟨⟨rfl,rfl,rfl,rfl,λi hi=>by have:i<0:=hi;omega,λi hi=>by have:i<0:=hi;omega,λi hi=>by have:i<0:=hi;omega,λi hi=>by have:i<0:=hi;omega⟩,rfl,⟨Nat.le_refl _,Nat.zero_le _⟩,λi j hi=>by have:i<0:=hi;omega,⟨oR ⟨Int.le_refl _,by show (0:Int)<=2000;omega,Int.le_refl _,by show (0:Int)<=200000;omega⟩,λj _ hj=>by have:j<0:=hj;omega⟩,λj hj=>by have:j<0:=hj;omega⟩
 have hr:=APU ho (2*g.length+2) ini0 [0] h0 (by unfold rR ini0;rw[CB];simp)
 rw[<-e] at hr
 rcases hr with⟨h1,i,hi,h2⟩ | ⟨h1,P,ln,hS,hl⟩
 ·exact .inl ⟨h1,gauO g i,lX hi,h2⟩
 ·refine .inr ⟨h1,?_⟩
  generalize hb:(ZL g).r.b=b at *
  generalize hk:(ZL g).k=k at *
  generalize hdl:(ZL g).r.l=L at *
  generalize hd:L.dropLast=d at *
  have hp:PartsO g P b d k:=hS.parts
  have hle:gD P b.length<=g.length:=hS.le.1
  have hln:PT ln/\∀j,gD P b.length<=j->j<g.length->(QJ ln).pass (gauO g j):=hS.line
  have hlen:L.length=b.length+1:=by rw[hl,List.length_append,hp.lenl];rfl
  have hgd:∀i,i<b.length->gD L i=gD d i:=λi hi=>by rw[hl,Kh,if_pos (by rw[hp.lenl];exact hi)]
  have hgl:gD L b.length=ln:=by rw[hl,Kh,if_neg (by rw[hp.lenl];omega),if_pos hp.lenl.symm]
  have bval:∀i,i<b.length->1<=gD b i/\gD b i<=2000:=λi hi=>by
   obtain⟨a1,a2,a3,a4⟩:=hp.up i hi
   have h3:=a3 0 (gD P (i+1)) (by omega) (Nat.le_refl _) a2
   have h4:=ho _ (lX (g:=g) (i:=0) (by omega))
   have h5:=ho _ (lX a2)
   have h6:0<=O1 g 0:=h4.1
   have h7:O1 g (gD P (i+1))<=2000:=h5.2.1
   rw[a4];omega
  have mlt:b.length<g.length∨b.length=0:=by
   by_cases hz:b.length=0
   ·exact .inr hz
   ·have key:∀j,j<=b.length->j<=gD P j:=λj=>by
     induction j with
     |zero=>exact λ_=>Nat.zero_le _
     |succ j ih=>exact λhj=>by have:=ih (by omega);have:=(hp.up j (by omega)).1;omega
    have:=key b.length (Nat.le_refl _)
    have h9:=(hp.up (b.length-1) (by omega)).2.1
    rw[show b.length-1+1=b.length by omega] at h9
    exact .inl (by omega)
  have hpass:∀i,i<=b.length->PT (gD L i)/\(QJ (gD L i)).passes (QD g b i):=λi hi=>by
   refine⟨?_,λx hx=>?_⟩
   ·by_cases hl2:i<b.length
    ·rw[hgd i hl2];exact (hp.line i hl2).1
    ·rw[show i=b.length by omega,hgl];exact hln.1
   ·obtain⟨hx1,hx2⟩:=Jz.1 hx
    obtain⟨j,hj,rfl⟩:=AJT hx1
    obtain⟨q,q1,q2,q3⟩:=AXM hp b.length j (Nat.le_refl _)
    have:=BKZ hp hj q1 q2 q3
    have hx2:(Vs b (O1 g j):Int)=i:=hx2
    have hqi:q=i:=by omega
    subst hqi
    by_cases hl2:q<b.length
    ·rw[hgd q hl2];exact (hp.line q hl2).2 j q2 (q3 hl2)
    ·have hqb:q=b.length:=by omega
     rw[hqb,hgl];exact hln.2 j (hqb ▸ q2) hj
  refine⟨hlen,hp.lenk,?_,λx hx=>by obtain⟨i,hi,rfl⟩:=pK hx;exact bval i hi,by omega,hpass,λi hi hcan=>?_,λx hx=>?_,⟨P,hd ▸ hp⟩,λx hx=>?_⟩
  ·refine List.pairwise_iff_getElem.2 λi j hi hj hij=>?_
   obtain⟨a1,a2,a3,a4⟩:=hp.up i hi
   obtain⟨c1,c2,c3,c4⟩:=hp.up j hj
   have e1:b[i]=gD b i:=by simp[gD,List.getD_eq_getElem?_getD,hi]
   have e2:b[j]=gD b j:=by simp[gD,List.getD_eq_getElem?_getD,hj]
   rw[e1,e2,a4,c4]
   exact c3 _ _ (K3 hp (j+1) (i+1) (by omega) (by omega)) (Nat.le_refl _) c2
  ·obtain⟨a1,a2,a3,a4⟩:=hp.up i hi
   obtain⟨n1,n2⟩:=ABO a2
   obtain⟨b1,b2⟩:=BPH a2
   refine hp.bad i hi (hcan.mono λx hx=>?_)
   obtain⟨j,j1,j2,rfl⟩:=(AGL n2).1 hx
   refine V5.2 ⟨lX (by omega),λh0=>?_,?_⟩
   ·have e2:=(hp.up (i-1) (by omega)).2.2.2
    rw[show i-1+1=i by omega] at e2
    rw[e2]
    exact lW j1 (by omega)
   ·show O1 g j<=_
    rw[a4]
    by_cases hj:j<=gD P (i+1)
    ·exact lW hj a2
    ·rw[b2 j (by omega) j2];exact Int.le_refl _
  ·obtain⟨i,hi,rfl⟩:=pK hx
   exact (hpass i (by omega)).1
  ·obtain⟨j,hj,rfl⟩:=AJT hx
   exact hS.one j hj
theorem AFB(b:List Int){t u:Int}(h:t<=u):Vs b t<=Vs b u:=List.countP_mono_left λx _ hx=>by
 rw[decide_eq_true_eq] at *;omega
theorem Few.least{g:List Gau}{b:List Int}{l:List Ln}{k:List (List Int)}(h:Few g b l k){c:List Int}(hc:∀i:Nat,i<=c.length->Can (QD g c i)):b.length<=c.length:=by
 have key:∀i,i<b.length->i+1<=Vs c (gD b i):=λi=>by
  induction i with
  |zero=>
   intro hi
   refine Classical.byContradiction λhz=>?_
   refine h.bad 0 hi ((hc 0 (Nat.zero_le _)).mono λx hx=>?_)
   obtain⟨h1,_,h3⟩:=V5.1 hx
   have:=AFB c h3
   exact Jz.2 ⟨h1,by omega⟩
  |succ i ih=>
   intro hi
   have h0:=ih (by omega)
   refine Classical.byContradiction λhz=>?_
   refine h.bad (i+1) hi ((hc (i+1) (by have:=nJ c (gD b i);omega)).mono λx hx=>?_)
   obtain⟨h1,h2,h3⟩:=V5.1 hx
   have h2:=h2 (by omega)
   rw[show i+1-1=i by omega] at h2
   have a1:=AFB c h2
   have a2:=AFB c h3
   exact Jz.2 ⟨h1,by omega⟩
 by_cases hz:b.length=0
 ·omega
 ·have:=key (b.length-1) (by omega)
  have:=nJ c (gD b (b.length-1))
  omega
theorem BST{g:List Gau}(hc:IH g=0){c:List Int}(h:∀i:Nat,i<=c.length->Can (QD g c i)):(ZL g).e=0/\Few g (ZL g).r.b (ZL g).r.l (ZL g).k/\(ZL g).r.b.length<=c.length:=by
 rcases CMA hc with⟨_,x,hx,hn⟩ | ⟨h1,h2⟩
 ·exfalso
  refine hn ((h (Vs c x.st) (nJ _ _)).mono λy hy=>?_)
  obtain⟨y1,y2⟩:=List.mem_filter.1 hy
  have y2:=eq_of_beq y2
  exact Jz.2 ⟨y1,by rw[y2]⟩
 ·exact⟨h1,h2,h2.least h⟩
theorem Few.thru{g:List Gau}{b:List Int}{l:List Ln}{k:List (List Int)}(h:Few g b l k)(hc:IH g=0):Thru g b:=
 ⟨(Vz hc).1,(Vz hc).2,h.asc,h.brk,h.few,λi hi=>⟨_,(h.pass i hi).1,(h.pass i hi).2⟩⟩
end Go.Bal

namespace Go.Bal
open Go Go.Sym Go.Proofs
structure RtOk(g:List Gau)(r:Rtg):Prop where
 chk:IH g=0
 asc:asc r.b
 brk:∀x∈r.b,1<=x/\x<=2000
 few:r.b.length<=24
 lines:r.l.length=r.b.length+1
 rise:∀x∈r.l,PT x
 pass:∀i,i<=r.b.length->(QJ (gD r.l i)).passes (QD g r.b i)
theorem RtOk.chkR{g:List Gau}{r:Rtg}(h:RtOk g r):Hq r=0:=by
 unfold Hq
 rw[BIY h.asc h.brk h.few,h.lines,List.all_eq_true.2 λx hx=>cP.2 (h.rise x hx)]
 simp
theorem RtOk.thru{g:List Gau}{r:Rtg}(h:RtOk g r):Thru g r.b:=
 ⟨(Vz h.chk).1,(Vz h.chk).2,h.asc,h.brk,h.few,λi hi=>⟨_,h.rise _ (MH (by rw[h.lines];omega)),h.pass i hi⟩⟩
theorem RtOk.passes{g:List Gau}{r:Rtg}(h:RtOk g r):yB ⟨g,r⟩=0/\sM ⟨g,r⟩=[]:=by
 have e:yB ⟨g,r⟩=0:=by
  show (bif IH g==0 then Hq r else IH g)=0
  rw[h.chk,h.chkR];rfl
 refine⟨e,?_⟩
 unfold sM;rw[e]
 show pasK ⟨g,r⟩ g.length=[]
 unfold pasK
 rw[List.map_eq_nil_iff,List.filter_eq_nil_iff]
 intro i hi hc
 have hi:=List.mem_range.1 hi
 have hle:=nJ r.b (gD g i).st
 have hp:=h.pass (Vs r.b (gD g i).st) hle _ (Jz.2 ⟨MH hi,rfl⟩)
 have ho:PT (gD r.l (Vs r.b (gD g i).st)):=h.rise _ (MH (by rw[h.lines];omega))
 have hc:(!VW (gD r.l (Vs r.b (gD g i).st)) (gD g i))=true:=hc
 rw[(Z3 ho).2 hp] at hc;cases hc
theorem RtOk.at{g:List Gau}{r:Rtg}(h:RtOk g r){t:Int}(ht:0<=t/\t<=2000):atE ⟨r,t⟩=0/\tN (atM ⟨r,t⟩)/\Nk (TA ⟨g,r.b,t⟩).lo (atM ⟨r,t⟩)/\Nk (atM ⟨r,t⟩) (TA ⟨g,r.b,t⟩).hi:=by
 have e:atE ⟨r,t⟩=0:=by
  show (bif Hq r==0 then (bif MN t 0 2000 then 0 else 4) else Hq r)=0
  rw[h.chkR,show MN t 0 2000=true by unfold MN;simpa using ht];rfl
 have hle:=nJ r.b t
 have ho:PT (gD r.l (Vs r.b t)):=h.rise _ (MH (by rw[h.lines];omega))
 have e2:atM ⟨r,t⟩=MB (gD r.l (Vs r.b t)) t:=by unfold atM;rw[e];rfl
 have hp:=h.pass _ hle
 have hT:=h.thru
 obtain⟨i1,i2,i3⟩:=hT.in hle ht
 rw[e2,(hT.flow ht).2]
 refine⟨e,KR ho,?_,?_⟩
 ·exact (K4 ho i1.1.1).2 (AGC (Vn hT.ok) ht (KX ho) hp)
 ·exact (ADO ho i2.1.1).2 (APV (Vn hT.ok) ht (KX ho) hp)
end Go.Bal

namespace Go.Bal
open Go Go.Sym Go.Proofs
theorem AMN(g:List Gau):QD g [] (0:Nat)=g:=by
 unfold QD Zt Ce
 exact List.filter_eq_self.2 λx _=>rfl
theorem BYW{g:List Gau}{y:Ln}(hc:IH g=0)(h:PT y)(hp:(QJ y).passes g):RtOk g ⟨[],[y]⟩:=
 ⟨hc,.nil,λx hx=>(by cases hx),Nat.zero_le _,rfl,λx hx=>by rw[List.mem_singleton.1 hx];exact h,λi hi=>by
  have:i=0:=by have hi:i<=0:=hi;omega
  subst this
  show (QJ y).passes (QD g [] (0:Nat))
  rw[AMN];exact hp⟩
end Go.Bal

namespace Go.Bal
open Go Go.Sym Go.Proofs
theorem CBZ{s u:List Gau}{t:Int}(hs:∀g∈s,Ho g)(hu:∀g∈u,Ho g)(ht:0<=t/\t<=2000)(hp:∀y,PT y->(QJ y).passes u->(QJ y).passes s)(hne:No u t≠[]):Nk (oM s t).lo (oM u t).lo/\Nk (oM u t).hi (oM s t).hi:=by
 obtain⟨⟨z,oz,pz,ez⟩,y,oy,py,ey⟩:=sN hu hne
 have h1:=AGC hs ht (KX oz) (hp z oz pz)
 have h2:=APV hs ht (KX oy) (hp y oy py)
 have hn:No s t≠[]:=ALC hs ht (KX oz) (hp z oz pz)
 obtain⟨i1,i2,_⟩:=BVP hs ht hn
 rw[ez,ey]
 exact⟨(K4 oz i1.1.1).2 h1,(ADO oy i2.1.1).2 h2⟩
structure Wid(g w:List Gau):Prop where
 len:w.length=g.length
 at_:∀i,i<g.length->(gD w i).st=(gD g i).st/\(gD w i).lo<=(gD g i).lo/\(gD g i).hi<=(gD w i).hi
theorem Wid.pass{g w:List Gau}(h:Wid g w)(b:List Int)(k:Int){y:Ln}(hy:PT y)(hp:(QJ y).passes (QD g b k)):(QJ y).passes (QD w b k):=λx hx=>by
 obtain⟨h1,h2⟩:=Jz.1 hx
 obtain⟨i,hi,rfl⟩:=pK h1
 rw[h.len] at hi
 obtain⟨a1,a2,a3⟩:=h.at_ i hi
 obtain⟨p1,p2⟩:=hp (gD g i) (Jz.2 ⟨MH hi,by rw[<-a1];exact h2⟩)
 have hw:=(KX hy).1
 unfold Rl.pass
 rw[a1]
 exact⟨Int.le_trans (Int.mul_le_mul_of_nonneg_right a2 (Int.le_of_lt hw)) p1,Int.le_trans p2 (Int.mul_le_mul_of_nonneg_right a3 (Int.le_of_lt hw))⟩
theorem Wid.thru{g w:List Gau}(h:Wid g w)(ho:∀x∈w,Ho x){b:List Int}(hT:Thru g b):Thru w b:=
 ⟨by rw[h.len];exact hT.len,ho,hT.asc,hT.brk,hT.few,λk hk=>by
  obtain⟨x,h1,h2⟩:=hT.thru k hk
  exact⟨x,h1,h.pass b k h1 h2⟩⟩
theorem BLY{g w:List Gau}{b:List Int}(hT:Thru g b)(h:Wid g w)(ho:∀x∈w,Ho x){t:Int}(ht:0<=t/\t<=2000):Nk (TA ⟨w,b,t⟩).lo (TA ⟨g,b,t⟩).lo/\Nk (TA ⟨g,b,t⟩).hi (TA ⟨w,b,t⟩).hi:=by
 rw[(hT.flow ht).2,((h.thru ho hT).flow ht).2]
 exact CBZ (Vn ho) (Vn hT.ok) ht (λy oy hy=>h.pass b _ oy hy) (hT.ne (nJ _ _) ht)
end Go.Bal
