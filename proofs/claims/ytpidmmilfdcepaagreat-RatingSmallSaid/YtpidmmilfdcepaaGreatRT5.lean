/- Package rating: the fewest parts (no program in sight). -/
import Derived.Test.YtpidmmilfdcepaaGreatRatU
set_option linter.unusedVariables false
set_option linter.unusedSimpArgs false
namespace Go.Bal
open Go Go.Sym Go.Proofs
def Can(s:List Gau):Prop:=∃x,MI x/\(HM x).passes s
theorem Can.mono{s t:List Gau}(h:Can t)(hs:∀g∈s,g∈t):Can s:=by
 obtain⟨x,h1,h2⟩:=h
 exact⟨x,h1,λg hg=>h2 g (hs g hg)⟩
theorem bR{s:List Gau}(hs:∀g∈s,IT g):((EV s).2=true↔Can s)/\((EV s).2=true->MI (EV s).1/\(HM (EV s).1).passes s):=by
 unfold EV
 by_cases h0:s.length=0
 ·rw[if_pos h0]
  have hn:=List.eq_nil_of_length_eq_zero h0
  have ho:MI (QB ⟨0,0⟩):=eG ⟨Int.le_refl _,by show (0:Int)<=2000;omega,Int.le_refl _,by show (0:Int)<=200000;omega⟩
  subst hn
  exact⟨⟨λ_=>⟨_,ho,λg hg=>by cases hg⟩,λ_=>rfl⟩,λ_=>⟨ho,λg hg=>by cases hg⟩⟩
 ·rw[if_neg h0]
  have hne:s≠[]:=λh=>h0 (by rw[h];rfl)
  cases hf:(Lf s).find? (Lh s) with
  |some x=>
   have h1:=List.find?_some hf
   have h2:=BNZ hs x (List.mem_of_find?_eq_some hf)
   have h3:=(AJT h2).1 h1
   exact⟨⟨λ_=>⟨x,h2,h3⟩,λ_=>rfl⟩,λ_=>⟨h2,h3⟩⟩
  |none=>
   refine⟨⟨λh=>(by cases h),λh=>?_⟩,λh=>(by cases h)⟩
   obtain⟨x,h1,h2⟩:=h
   exfalso
   have:=CCS hs (EM h1) h2 hne
   refine this (List.filter_eq_nil_iff.2 λy hy=>?_)
   have:=List.find?_eq_none.1 hf y hy
   exact this
def Ih(g:List Gau)(i:Nat):Gau:=gD g (gD (AM g) i).toNat
def jD(g:List Gau)(i:Nat):Int:=LM g (gD (AM g) i)
theorem En{g:List Gau}{i j:Nat}(h:i<=j)(hj:j<g.length):jD g i<=jD g j:=by
 by_cases he:i=j
 ·rw[he];exact Int.le_refl _
 ·have:=APN (LM g) (Il g.length) i j (by omega) (by rw[UK];omega)
  exact this
theorem Ei{g:List Gau}{i:Nat}(h:i<g.length):Ih g i∈g:=by
 have:=Ug h
 exact BU (by omega)
theorem AMF{g:List Gau}{x:Gau}(h:x∈g):∃i,i<g.length/\Ih g i=x:=by
 obtain⟨j,hj,rfl⟩:=JP h
 have h1:(j:Int)∈Il g.length:=List.mem_map.2 ⟨j,List.mem_range.2 hj,rfl⟩
 have h2:=(ALY g).mem_iff.2 h1
 obtain⟨i,hi,he⟩:=JP h2
 exact⟨i,by rw[BW] at hi;exact hi,by unfold Ih;rw[he];rfl⟩
theorem yD{g:List Gau}{a b:Nat}(hb:b<=g.length){x:Gau}:x∈L7 g (AM g) a b↔∃i,a<=i/\i<b/\Ih g i=x:=by
 have hl:((AM g).take b).length=b:=by rw[List.length_take,BW];omega
 unfold L7 pkM
 rw[List.mem_map]
 show (∃y,y∈(((AM g).take b).drop a)/\_)↔_
 constructor
 ·rintro⟨y,hy,rfl⟩
  obtain⟨i,hi,rfl⟩:=JP hy
  rw[List.length_drop,hl] at hi
  refine⟨a+i,by omega,by omega,?_⟩
  unfold Ih
  rw[Pp]
  simp[gD,List.getD_eq_getElem?_getD,List.getElem?_take,show a+i<b by omega]
 ·rintro⟨i,h1,h2,rfl⟩
  refine⟨gD (((AM g).take b).drop a) (i-a),BU (by rw[List.length_drop,hl];omega),?_⟩
  unfold Ih
  rw[Pp,show a+(i-a)=i by omega]
  simp[gD,List.getD_eq_getElem?_getD,List.getElem?_take,h2]
theorem APJ{g:List Gau}(h:∀x∈g,IT x){a b:Nat}(hb:b<=g.length):∀x∈L7 g (AM g) a b,IT x:=λx hx=>by
 obtain⟨i,_,h2,rfl⟩:=(yD hb).1 hx
 exact h _ (Ei (by omega))
def bdO(g:List Gau)(t:Nat):Prop:=∀i j,i<t->t<=j->j<g.length->jD g i<jD g j
theorem BPP{g:List Gau}{t:Nat}:∀(n k:Nat),t<=k->k+n=g.length->(∀j,t<=j->j<k->jD g j=jD g t)->(∀j,t<=j->j<R2 g (AM g) t n k->jD g j=jD g t)/\(R2 g (AM g) t n k<g.length->jD g (R2 g (AM g) t n k)≠jD g t)
 |0,k,_,hk,h=>⟨h,λhc=>by have:k<g.length:=hc;omega⟩
 |n+1,k,ht,hk,h=>by
  by_cases hc:LM g (gD (AM g) k)=LM g (gD (AM g) t)
  ·have e:R2 g (AM g) t (n+1) k=R2 g (AM g) t n (k+1):=by
    conv=>lhs;unfold R2
    rw[show (LM g (gD (AM g) k)==LM g (gD (AM g) t))=true by rw[hc];simp];rfl
   rw[e]
   exact BPP n (k+1) (by omega) (by omega) (λj a b=>by
    by_cases hj:j=k
    ·rw[hj];exact hc
    ·exact h j a (by omega))
  ·have e:R2 g (AM g) t (n+1) k=k:=by
    unfold R2
    rw[show (LM g (gD (AM g) k)==LM g (gD (AM g) t))=false by simpa using hc];rfl
   rw[e]
   exact⟨h,λ_=>hc⟩
theorem BPT{g:List Gau}{t:Nat}(h:t<g.length):bdO g (Kw g (AM g) t)/\∀j,t<=j->j<Kw g (AM g) t->jD g j=jD g t:=by
 obtain⟨h1,h2⟩:=AAI h
 have hs:=BPP (g:=g) (t:=t) (g.length-t) t (Nat.le_refl _) (by omega) (λj a b=>by omega)
 have e:R2 g (AM g) t (g.length-t) t=Kw g (AM g) t:=by unfold Kw;rw[BW]
 rw[e] at hs
 refine⟨λi j hi hj hj2=>?_,hs.1⟩
 have h3:=hs.2 (by omega)
 have h4:jD g t<=jD g (Kw g (AM g) t):=En (by omega) (by omega)
 have h5:=En hj hj2
 have h6:jD g i<=jD g t:=by
  by_cases hit:i<=t
  ·exact En hit h
  ·rw[hs.1 i (by omega) hi];exact Int.le_refl _
 omega
structure PartsO(g:List Gau)(P:List Nat)(b:List Int)(l:List Ln)(k:List (List Int)):Prop where
 lenP:P.length=b.length+1
 lenl:l.length=b.length
 lenk:k.length=b.length
 zero:gD P 0=0
 up:∀i,i<b.length->gD P i<gD P (i+1)/\gD P (i+1)<g.length/\bdO g (gD P (i+1))/\gD b i=jD g (gD P (i+1))
 line:∀i,i<b.length->MI (gD l i)/\∀j,gD P i<=j->j<gD P (i+1)->(HM (gD l i)).pass (Ih g j)
 bad:∀i,i<b.length->¬Can (L7 g (AM g) (gD P i) (Kw g (AM g) (gD P (i+1))))
 knot:∀i,i<b.length->gD k i=Vp ⟨g,((AM g).take (Kw g (AM g) (gD P (i+1)))).drop (gD P i)⟩
def oneS(g:List Gau)(t:Nat):Prop:=∀j,j<t->Can (g.filter λx=>x.st==jD g j)
structure StO(g:List Gau)(P:List Nat)(s:FS):Prop where
 parts:PartsO g P s.b s.l s.k
 last:gD P s.b.length=s.fr
 le:s.fr<=s.to/\s.to<=g.length
 bd:bdO g s.to
 line:MI s.ln/\∀j,s.fr<=j->j<s.to->(HM s.ln).pass (Ih g j)
 one:oneS g s.to
theorem Er{α:Type}[Inhabited α](l:List α)(x:α)(i:Nat):gD (l ++ [x]) i=if i<l.length then gD l i else if i=l.length then x else default:=by
 rw[jC]
 split
 ·rfl
 ·split
  ·rename_i h1 h2;rw[h2,Nat.sub_self];rfl
  ·rename_i h1 h2
   obtain⟨m,hm⟩:∃m,i-l.length=m+1:=⟨i-l.length-1,by omega⟩
   rw[hm];rfl
theorem StO.go{g:List Gau}{P:List Nat}{s:FS}(h:StO g P s)(ho:∀x∈g,IT x)(ht:s.to<g.length)(hq:(EV (L7 g (AM g) s.to (Kw g (AM g) s.to))).2=true)(hr:(EV (L7 g (AM g) s.fr (Kw g (AM g) s.to))).2=true):StO g P (goF g (AM g) s):=by
 obtain⟨n1,n2⟩:=AAI ht
 obtain⟨b1,b2⟩:=BPT ht
 have hl:=(bR (APJ ho n2 (a:=s.fr))).2 hr
 have hq2:=(bR (APJ ho n2 (a:=s.to))).1.1 hq
 refine⟨h.parts,h.last,⟨by show s.fr<=Kw _ _ _;have:=h.le;omega,n2⟩,b1,⟨hl.1,λj a c=>hl.2 _ ((yD n2).2 ⟨j,a,c,rfl⟩)⟩,λj hj=>?_⟩
 have hj:j<Kw g (AM g) s.to:=hj
 by_cases hjt:j<s.to
 ·exact h.one j hjt
 ·rw[b2 j (by omega) hj]
  refine hq2.mono λx hx=>?_
  obtain⟨hx1,hx2⟩:=List.mem_filter.1 hx
  obtain⟨i,hi,rfl⟩:=AMF hx1
  have hx2:jD g i=jD g s.to:=eq_of_beq hx2
  refine (yD n2).2 ⟨i,?_,?_,rfl⟩
  ·refine Classical.byContradiction λhc=>?_
   have:=h.bd i s.to (by omega) (Nat.le_refl _) ht;omega
  ·refine Classical.byContradiction λhc=>?_
   have:=b1 s.to i (by omega) (by omega) hi;omega
theorem StO.brk{g:List Gau}{P:List Nat}{s:FS}(h:StO g P s)(ho:∀x∈g,IT x)(ht:s.to<g.length)(hq:(EV (L7 g (AM g) s.to (Kw g (AM g) s.to))).2=true)(hr:(EV (L7 g (AM g) s.fr (Kw g (AM g) s.to))).2=false):StO g (P ++ [s.to]) (zQ g (AM g) s):=by
 obtain⟨n1,n2⟩:=AAI ht
 have hne:s.fr≠s.to:=λhe=>by rw[he,hq] at hr;cases hr
 have hbad:¬Can (L7 g (AM g) s.fr (Kw g (AM g) s.to)):=λhc=>by
  rw[(bR (APJ ho n2 (a:=s.fr))).1.2 hc] at hr;cases hr
 have hle:=h.le
 obtain⟨p1,p2,p3,p4,p5,p6,p7,p8⟩:=h.parts
 have hlast:=h.last
 have eP:∀i,i<=s.b.length->gD (P ++ [s.to]) i=gD P i:=λi hi=>by rw[Er,if_pos (by omega)]
 have eP2:gD (P ++ [s.to]) (s.b.length+1)=s.to:=by rw[Er,if_neg (by omega),if_pos (by omega)]
 have eb:∀i,i<s.b.length->gD (s.b ++ [LM g (gD (AM g) s.to)]) i=gD s.b i:=λi hi=>by rw[Er,if_pos hi]
 have eb2:gD (s.b ++ [LM g (gD (AM g) s.to)]) s.b.length=jD g s.to:=by rw[Er,if_neg (by omega),if_pos rfl];rfl
 have el:∀i,i<s.b.length->gD (s.l ++ [s.ln]) i=gD s.l i:=λi hi=>by rw[Er,if_pos (by omega)]
 have el2:gD (s.l ++ [s.ln]) s.b.length=s.ln:=by rw[Er,if_neg (by omega),if_pos (by omega)]
 have ek:∀(z:List Int) i,i<s.b.length->gD (s.k ++ [z]) i=gD s.k i:=λz i hi=>by rw[Er,if_pos (by omega)]
 have ek2:∀z:List Int,gD (s.k ++ [z]) s.b.length=z:=λz=>by rw[Er,if_neg (by omega),if_pos (by omega)]
 have elen:(s.b ++ [LM g (gD (AM g) s.to)]).length=s.b.length+1:=by simp
 refine⟨⟨?_,?_,?_,?_,?_,?_,?_,?_⟩,?_,⟨Nat.le_refl _,hle.2⟩,h.bd,⟨h.line.1,λj a c=>by have a:s.to<=j:=a;have c:j<s.to:=c;omega⟩,h.one⟩
 ·show (P ++ [s.to]).length=(s.b ++ [_]).length+1;rw[elen];simp;omega
 ·show (s.l ++ [s.ln]).length=(s.b ++ [_]).length;rw[elen];simp;omega
 ·show (s.k ++ [_]).length=(s.b ++ [_]).length;rw[elen];simp;omega
 ·rw[eP 0 (Nat.zero_le _)];exact p4
 ·intro i hi
  have hi:i<s.b.length+1:=by have hi:i<(s.b ++ [_]).length:=hi;rw[elen] at hi;exact hi
  show gD (P ++ [s.to]) i<gD (P ++ [s.to]) (i+1)/\gD (P ++ [s.to]) (i+1)<g.length/\bdO g (gD (P ++ [s.to]) (i+1))/\gD (s.b ++ [LM g (gD (AM g) s.to)]) i=jD g (gD (P ++ [s.to]) (i+1))
  by_cases hl:i<s.b.length
  ·rw[eP i (by omega),eP (i+1) (by omega),eb i hl];exact p5 i hl
  ·have:i=s.b.length:=by omega
   subst this
   rw[eP _ (Nat.le_refl _),eP2,eb2,hlast]
   exact⟨by omega,ht,h.bd,rfl⟩
 ·intro i hi
  have hi:i<s.b.length+1:=by have hi:i<(s.b ++ [_]).length:=hi;rw[elen] at hi;exact hi
  show MI (gD (s.l ++ [s.ln]) i)/\∀j,gD (P ++ [s.to]) i<=j->j<gD (P ++ [s.to]) (i+1)->(HM (gD (s.l ++ [s.ln]) i)).pass (Ih g j)
  by_cases hl:i<s.b.length
  ·rw[eP i (by omega),eP (i+1) (by omega),el i hl];exact p6 i hl
  ·have:i=s.b.length:=by omega
   subst this
   rw[eP _ (Nat.le_refl _),eP2,el2,hlast]
   exact h.line
 ·intro i hi
  have hi:i<s.b.length+1:=by have hi:i<(s.b ++ [_]).length:=hi;rw[elen] at hi;exact hi
  by_cases hl:i<s.b.length
  ·rw[eP i (by omega),eP (i+1) (by omega)];exact p7 i hl
  ·have:i=s.b.length:=by omega
   subst this
   rw[eP _ (Nat.le_refl _),eP2,hlast]
   exact hbad
 ·intro i hi
  have hi:i<s.b.length+1:=by have hi:i<(s.b ++ [_]).length:=hi;rw[elen] at hi;exact hi
  show gD (s.k ++ [_]) i=_
  by_cases hl:i<s.b.length
  ·rw[eP i (by omega),eP (i+1) (by omega),ek _ i hl];exact p8 i hl
  ·have:i=s.b.length:=by omega
   subst this
   rw[eP _ (Nat.le_refl _),eP2,hlast,ek2]
 ·show gD (P ++ [s.to]) (s.b ++ [_]).length=s.to
  rw[elen];exact eP2
theorem BCJ{g:List Gau}(ho:∀x∈g,IT x):∀(n:Nat) (s:FS) (P:List Nat),StO g P s->sF (AM g) s+1<=n->((Qi g (AM g) n s).e=6/\∃i,i<g.length/\¬Can (g.filter λx=>x.st==jD g i))∨((Qi g (AM g) n s).e=0/\∃P ln,StO g P ⟨gD P (Qi g (AM g) n s).r.b.length,g.length,ln,(Qi g (AM g) n s).r.b,(Qi g (AM g) n s).r.l.dropLast,(Qi g (AM g) n s).k⟩/\(Qi g (AM g) n s).r.l=(Qi g (AM g) n s).r.l.dropLast ++ [ln])
 |0,s,P,_,h=>by omega
 |n+1,s,P,h,hm=>by
  rw[BJZ]
  have hle:=h.le
  by_cases ht:s.to<g.length
  ·rw[decide_eq_true (show s.to<(AM g).length by rw[BW];exact ht)]
   obtain⟨n1,n2⟩:=AAI ht
   obtain⟨b1,b2⟩:=BPT ht
   have hms:sF (AM g) s=2*(g.length-s.to)+(if s.fr<s.to then 1 else 0):=by unfold sF;rw[BW]
   cases hq:(EV (L7 g (AM g) s.to (Kw g (AM g) s.to))).2 with
   |false=>
    refine .inl ⟨rfl,s.to,ht,λhc=>?_⟩
    have:Can (L7 g (AM g) s.to (Kw g (AM g) s.to)):=hc.mono λx hx=>by
     obtain⟨i,a,c,rfl⟩:=(yD n2).1 hx
     refine List.mem_filter.2 ⟨Ei (by omega),?_⟩
     exact beq_iff_eq.2 (b2 i a c)
    rw[(bR (APJ ho n2 (a:=s.to))).1.2 this] at hq;cases hq
   |true=>
    cases hr:(EV (L7 g (AM g) s.fr (Kw g (AM g) s.to))).2 with
    |true=>
     exact BCJ ho n (goF g (AM g) s) P (h.go ho ht hq hr) (by
      have:sF (AM g) (goF g (AM g) s)<sF (AM g) s:=by unfold sF goF;rw[BW];simp only[];split<;>split<;>omega
      omega)
    |false=>
     have hne:s.fr≠s.to:=λhe=>by rw[he,hq] at hr;cases hr
     exact BCJ ho n (zQ g (AM g) s) (P ++ [s.to]) (h.brk ho ht hq hr) (by
      have:sF (AM g) (zQ g (AM g) s)<sF (AM g) s:=by unfold sF zQ;rw[BW];simp only[Nat.lt_irrefl,if_false];rw[if_pos (by omega)];omega
      omega)
  ·rw[decide_eq_false (show ¬s.to<(AM g).length by rw[BW];exact ht)]
   have e:s.to=g.length:=by omega
   refine .inr ⟨rfl,P,s.ln,?_,?_⟩
   ·show StO g P ⟨gD P s.b.length,g.length,s.ln,s.b,(s.l ++ [s.ln]).dropLast,s.k⟩
    rw[List.dropLast_concat,h.last,<-e]
    exact h
   ·show s.l ++ [s.ln]=(s.l ++ [s.ln]).dropLast ++ [s.ln]
    rw[List.dropLast_concat]
def CDQ(g:List Gau)(b:List Int)(i:Nat):List Gau:=g.filter λx=>(decide (i=0)||decide (gD b (i-1)<=x.st))&&decide (x.st<=gD b i)
theorem AHC{g:List Gau}{b:List Int}{i:Nat}{x:Gau}:x∈CDQ g b i↔x∈g/\(i≠0->gD b (i-1)<=x.st)/\x.st<=gD b i:=by
 unfold CDQ
 rw[List.mem_filter,Bool.and_eq_true,Bool.or_eq_true,decide_eq_true_eq,decide_eq_true_eq,decide_eq_true_eq]
 constructor
 ·rintro⟨h1,h2,h3⟩;exact⟨h1,λh=>h2.resolve_left h,h3⟩
 ·rintro⟨h1,h2,h3⟩
  refine⟨h1,?_,h3⟩
  by_cases h:i=0
  ·exact .inl h
  ·exact .inr (h2 h)
structure Few(g:List Gau)(b:List Int)(l:List Ln)(k:List (List Int)):Prop where
 lenl:l.length=b.length+1
 lenk:k.length=b.length
 asc:asc b
 brk:∀x∈b,1<=x/\x<=2000
 few:b.length<=24
 pass:∀i,i<=b.length->MI (gD l i)/\(HM (gD l i)).passes (CV g b i)
 bad:∀i,i<b.length->¬Can (CDQ g b i)
 rise:∀x∈l,MI x
 parts:∃P:List Nat,PartsO g P b l.dropLast k
 one:∀x∈g,Can (g.filter λy=>y.st==x.st)
theorem AAZ{g:List Gau}{P:List Nat}{b:List Int}{l:List Ln}{k:List (List Int)}(h:PartsO g P b l k):∀(j i:Nat),i<j->j<=b.length->gD P i<gD P j
 |0,i,h1,_=>by omega
 |j+1,i,h1,h2=>by
  have:=(h.up j (by omega)).1
  by_cases he:i=j
  ·rw[he];exact this
  ·have:=AAZ h j i (by omega) (by omega);omega
theorem BDH{g:List Gau}{P:List Nat}{b:List Int}{l:List Ln}{k:List (List Int)}(h:PartsO g P b l k):∀(m i:Nat),m<=b.length->∃j,j<=m/\gD P j<=i/\(j<m->i<gD P (j+1))
 |0,i,_=>⟨0,Nat.le_refl _,by rw[h.zero];omega,λh=>by omega⟩
 |m+1,i,hm=>by
  by_cases hc:gD P (m+1)<=i
  ·exact⟨m+1,Nat.le_refl _,hc,λh=>by omega⟩
  ·obtain⟨j,h1,h2,h3⟩:=BDH h m i (by omega)
   refine⟨j,by omega,h2,λ_=>?_⟩
   by_cases hj:j<m
   ·exact h3 hj
   ·have:j=m:=by omega
    rw[this];omega
theorem BVD{g:List Gau}{P:List Nat}{b:List Int}{l:List Ln}{k:List (List Int)}(h:PartsO g P b l k){i j:Nat}(hi:i<g.length)(hj:j<=b.length)(h1:gD P j<=i)(h2:j<b.length->i<gD P (j+1)):KB b (jD g i)=j:=by
 unfold KB
 refine iL hj (λq hq=>decide_eq_true ?_) (λq hq hq2=>decide_eq_false ?_)
 ·obtain⟨a1,a2,a3,a4⟩:=h.up q (by omega)
  rw[a4]
  refine En ?_ hi
  by_cases he:q+1=j
  ·rw[he];exact h1
  ·have:=AAZ h j (q+1) (by omega) hj;omega
 ·obtain⟨a1,a2,a3,a4⟩:=h.up q hq2
  rw[a4]
  have h3:=h2 (by omega)
  have h4:i<gD P (q+1):=by
   by_cases he:j=q
   ·rw[<-he];exact h3
   ·have:=AAZ h (q+1) (j+1) (by omega) (by omega);omega
  have:=a3 i (gD P (q+1)) h4 (Nat.le_refl _) a2
  omega
theorem BZW{g:List Gau}(hc:AL g=0):((FT g).e=6/\∃x∈g,¬Can (g.filter λy=>y.st==x.st))∨((FT g).e=0/\Few g (FT g).r.b (FT g).r.l (FT g).k):=by
 obtain⟨⟨hn1,hn2⟩,ho⟩:=JU hc
 have e:FT g=Qi g (AM g) (2*g.length+2) ini0:=by unfold FT;rw[hc];rfl
 have h0:StO g [0] ini0:=⟨⟨rfl,rfl,rfl,rfl,λi hi=>by have:i<0:=hi;omega,λi hi=>by have:i<0:=hi;omega,λi hi=>by have:i<0:=hi;omega,λi hi=>by have:i<0:=hi;omega⟩,rfl,⟨Nat.le_refl _,Nat.zero_le _⟩,λi j hi=>by have:i<0:=hi;omega,⟨eG ⟨Int.le_refl _,by show (0:Int)<=2000;omega,Int.le_refl _,by show (0:Int)<=200000;omega⟩,λj _ hj=>by have:j<0:=hj;omega⟩,λj hj=>by have:j<0:=hj;omega⟩
 have hr:=BCJ ho (2*g.length+2) ini0 [0] h0 (by unfold sF ini0;rw[BW];simp)
 rw[<-e] at hr
 rcases hr with⟨h1,i,hi,h2⟩ | ⟨h1,P,ln,hS,hl⟩
 ·exact .inl ⟨h1,Ih g i,Ei hi,h2⟩
 ·refine .inr ⟨h1,?_⟩
  generalize hb:(FT g).r.b=b at *
  generalize hk:(FT g).k=k at *
  generalize hdl:(FT g).r.l=L at *
  generalize hd:L.dropLast=d at *
  have hp:PartsO g P b d k:=hS.parts
  have hle:gD P b.length<=g.length:=hS.le.1
  have hln:MI ln/\∀j,gD P b.length<=j->j<g.length->(HM ln).pass (Ih g j):=hS.line
  have hlen:L.length=b.length+1:=by rw[hl,List.length_append,hp.lenl];rfl
  have hgd:∀i,i<b.length->gD L i=gD d i:=λi hi=>by rw[hl,Er,if_pos (by rw[hp.lenl];exact hi)]
  have hgl:gD L b.length=ln:=by rw[hl,Er,if_neg (by rw[hp.lenl];omega),if_pos hp.lenl.symm]
  have bval:∀i,i<b.length->1<=gD b i/\gD b i<=2000:=λi hi=>by
   obtain⟨a1,a2,a3,a4⟩:=hp.up i hi
   have h3:=a3 0 (gD P (i+1)) (by omega) (Nat.le_refl _) a2
   have h4:=ho _ (Ei (g:=g) (i:=0) (by omega))
   have h5:=ho _ (Ei a2)
   have h6:0<=jD g 0:=h4.1
   have h7:jD g (gD P (i+1))<=2000:=h5.2.1
   rw[a4];omega
  have mlt:b.length<g.length∨b.length=0:=by
   by_cases hz:b.length=0
   ·exact .inr hz
   ·have key:∀j,j<=b.length->j<=gD P j:=λj=>by
     induction j with
     |zero=>exact λ_=>Nat.zero_le _
     |succ j ih=>exact λhj=>by have:=ih (by omega);have:=(hp.up j (by omega)).1;omega
    have:=key b.length (Nat.le_refl _)
    have h9:=(hp.up (b.length-1) (by omega)).2.1
    rw[show b.length-1+1=b.length by omega] at h9
    exact .inl (by omega)
  have hpass:∀i,i<=b.length->MI (gD L i)/\(HM (gD L i)).passes (CV g b i):=λi hi=>by
   refine⟨?_,λx hx=>?_⟩
   ·by_cases hl2:i<b.length
    ·rw[hgd i hl2];exact (hp.line i hl2).1
    ·rw[show i=b.length by omega,hgl];exact hln.1
   ·obtain⟨hx1,hx2⟩:=Iw.1 hx
    obtain⟨j,hj,rfl⟩:=AMF hx1
    obtain⟨q,q1,q2,q3⟩:=BDH hp b.length j (Nat.le_refl _)
    have:=BVD hp hj q1 q2 q3
    have hx2:(KB b (jD g j):Int)=i:=hx2
    have hqi:q=i:=by omega
    subst hqi
    by_cases hl2:q<b.length
    ·rw[hgd q hl2];exact (hp.line q hl2).2 j q2 (q3 hl2)
    ·have hqb:q=b.length:=by omega
     rw[hqb,hgl];exact hln.2 j (hqb ▸ q2) hj
  refine⟨hlen,hp.lenk,?_,λx hx=>by obtain⟨i,hi,rfl⟩:=JP hx;exact bval i hi,by omega,hpass,λi hi hcan=>?_,λx hx=>?_,⟨P,hd ▸ hp⟩,λx hx=>?_⟩
  ·refine List.pairwise_iff_getElem.2 λi j hi hj hij=>?_
   obtain⟨a1,a2,a3,a4⟩:=hp.up i hi
   obtain⟨c1,c2,c3,c4⟩:=hp.up j hj
   have e1:b[i]=gD b i:=by simp[gD,List.getD_eq_getElem?_getD,hi]
   have e2:b[j]=gD b j:=by simp[gD,List.getD_eq_getElem?_getD,hj]
   rw[e1,e2,a4,c4]
   exact c3 _ _ (AAZ hp (j+1) (i+1) (by omega) (by omega)) (Nat.le_refl _) c2
  ·obtain⟨a1,a2,a3,a4⟩:=hp.up i hi
   obtain⟨n1,n2⟩:=AAI a2
   obtain⟨b1,b2⟩:=BPT a2
   refine hp.bad i hi (hcan.mono λx hx=>?_)
   obtain⟨j,j1,j2,rfl⟩:=(yD n2).1 hx
   refine AHC.2 ⟨Ei (by omega),λh0=>?_,?_⟩
   ·have e2:=(hp.up (i-1) (by omega)).2.2.2
    rw[show i-1+1=i by omega] at e2
    rw[e2]
    exact En j1 (by omega)
   ·show jD g j<=_
    rw[a4]
    by_cases hj:j<=gD P (i+1)
    ·exact En hj a2
    ·rw[b2 j (by omega) j2];exact Int.le_refl _
  ·obtain⟨i,hi,rfl⟩:=JP hx
   exact (hpass i (by omega)).1
  ·obtain⟨j,hj,rfl⟩:=AMF hx
   exact hS.one j hj
theorem ANO(b:List Int){t u:Int}(h:t<=u):KB b t<=KB b u:=List.countP_mono_left λx _ hx=>by
 rw[decide_eq_true_eq] at *;omega
theorem Few.least{g:List Gau}{b:List Int}{l:List Ln}{k:List (List Int)}(h:Few g b l k){c:List Int}(hc:∀i:Nat,i<=c.length->Can (CV g c i)):b.length<=c.length:=by
 have key:∀i,i<b.length->i+1<=KB c (gD b i):=λi=>by
  induction i with
  |zero=>
   intro hi
   refine Classical.byContradiction λhz=>?_
   refine h.bad 0 hi ((hc 0 (Nat.zero_le _)).mono λx hx=>?_)
   obtain⟨h1,_,h3⟩:=AHC.1 hx
   have:=ANO c h3
   exact Iw.2 ⟨h1,by omega⟩
  |succ i ih=>
   intro hi
   have h0:=ih (by omega)
   refine Classical.byContradiction λhz=>?_
   refine h.bad (i+1) hi ((hc (i+1) (by have:=L0 c (gD b i);omega)).mono λx hx=>?_)
   obtain⟨h1,h2,h3⟩:=AHC.1 hx
   have h2:=h2 (by omega)
   rw[show i+1-1=i by omega] at h2
   have a1:=ANO c h2
   have a2:=ANO c h3
   exact Iw.2 ⟨h1,by omega⟩
 by_cases hz:b.length=0
 ·omega
 ·have:=key (b.length-1) (by omega)
  have:=L0 c (gD b (b.length-1))
  omega
theorem Few.thru{g:List Gau}{b:List Int}{l:List Ln}{k:List (List Int)}(h:Few g b l k)(hc:AL g=0):Thru g b:=
 ⟨(JU hc).1,(JU hc).2,h.asc,h.brk,h.few,λi hi=>⟨_,(h.pass i hi).1,(h.pass i hi).2⟩⟩
theorem Thru.can{g:List Gau}{b:List Int}(h:Thru g b):∀i:Nat,i<=b.length->Can (CV g b i):=h.thru
def lowR(r:Rt):Prop:=0<r.d/\Nat.gcd r.n.natAbs r.d.natAbs=1
theorem BTV{n d:Int}(h:0<d):lowR (El n d):=by
 refine⟨(U4 h).1,?_⟩
 have hp:0<Nat.gcd n.natAbs d.natAbs:=Nat.gcd_pos_of_pos_right _ (by omega)
 show Nat.gcd (n.tdiv (Nat.gcd n.natAbs d.natAbs:Nat)).natAbs (d.tdiv (Nat.gcd n.natAbs d.natAbs:Nat)).natAbs=1
 rw[Int.natAbs_tdiv,Int.natAbs_tdiv]
 show Nat.gcd (n.natAbs / Nat.gcd n.natAbs d.natAbs) (d.natAbs / Nat.gcd n.natAbs d.natAbs)=1
 rw[Nat.gcd_div (Nat.gcd_dvd_left _ _) (Nat.gcd_dvd_right _ _)]
 exact Nat.div_self hp
theorem BES{x:Ln}{t:Int}(h:MI x):lowR (JF x t):=by
 unfold JF Cf
 split
 ·exact⟨Int.one_pos,rfl⟩
 ·split
  ·exact⟨Int.one_pos,rfl⟩
  ·rw[AJU];exact BTV (EM h).1
theorem CSE{a b:Rt}(ha:lowR a)(hb:lowR b)(h:a.n*b.d=b.n*a.d):a=b:=by
 obtain⟨a1,a2⟩:=ha
 obtain⟨b1,b2⟩:=hb
 have h2:a.n.natAbs*b.d.natAbs=b.n.natAbs*a.d.natAbs:=by
  rw[<-Int.natAbs_mul,<-Int.natAbs_mul,h]
 have d1:a.d.natAbs∣b.d.natAbs:=by
  have:a.d.natAbs∣b.d.natAbs*a.n.natAbs:=⟨b.n.natAbs,by rw[Nat.mul_comm,h2,Nat.mul_comm]⟩
  exact Nat.Coprime.dvd_of_dvd_mul_right (Nat.Coprime.symm a2) this
 have d2:b.d.natAbs∣a.d.natAbs:=by
  have:b.d.natAbs∣a.d.natAbs*b.n.natAbs:=⟨a.n.natAbs,by rw[Nat.mul_comm,<-h2,Nat.mul_comm]⟩
  exact Nat.Coprime.dvd_of_dvd_mul_right (Nat.Coprime.symm b2) this
 have hd:a.d=b.d:=by have:=Nat.dvd_antisymm d1 d2;omega
 have hn:a.n=b.n:=by
  rw[hd] at h
  exact Int.eq_of_mul_eq_mul_right (by omega) h
 cases a;cases b;simp_all
theorem AXC{a b:Rt}(ha:lowR a)(hb:lowR b)(h1:XE a b)(h2:XE b a):a=b:=CSE ha hb (Int.le_antisymm h1 h2)
theorem AZB{s:List Gau}{t:Int}(hs:∀g∈s,IT g)(h:PX s t≠[]):lowR (RP s t).lo/\lowR (RP s t).hi:=by
 obtain⟨⟨z,oz,pz,ez⟩,y,oy,py,ey⟩:=Ay hs h
 rw[ez,ey];exact⟨BES oz,BES oy⟩
theorem CDU{a b:Bnd}(h1:a.lo=b.lo)(h2:a.hi=b.hi):a=b:=by cases a;cases b;simp_all
theorem BXW{s u:List Gau}{t v:Int}(hs:∀g∈s,IT g)(hu:∀g∈u,IT g)(ht:0<=t/\t<=2000)(hv:0<=v/\v<=2000)(f1:∀f:Rl,f.ok->f.passes s->∃g:Rl,g.ok/\g.passes u/\g.num v=f.num t/\g.w=f.w)(f2:∀f:Rl,f.ok->f.passes u->∃g:Rl,g.ok/\g.passes s/\g.num t=f.num v/\g.w=f.w)(hne:PX s t≠[]):PX u v≠[]/\RP u v=RP s t:=by
 obtain⟨⟨z,oz,pz,ez⟩,y,oy,py,ey⟩:=Ay hs hne
 obtain⟨gz,g1,g2,g3,g4⟩:=f1 _ (EM oz) pz
 obtain⟨gy,k1,k2,k3,k4⟩:=f1 _ (EM oy) py
 have hne2:PX u v≠[]:=nH hu hv g1 g2
 obtain⟨⟨z',oz',pz',ez'⟩,y',oy',py',ey'⟩:=Ay hu hne2
 obtain⟨hz,l1,l2,l3,l4⟩:=f2 _ (EM oz') pz'
 obtain⟨hy,m1,m2,m3,m4⟩:=f2 _ (EM oy') py'
 have cl:∀{f g:Rl} {a b:Int},g.num b=f.num a->g.w=f.w->FG g b=FG f a:=λ{f g a b} e1 e2=>by unfold FG;rw[e1,e2]
 have i1:=K2 hs ht hne
 have i2:=K2 hu hv hne2
 have w1:=AZB hs hne
 have w2:=AZB hu hne2
 refine⟨hne2,CDU (AXC w2.1 w1.1 ?_ ?_) (AXC w2.2 w1.2 ?_ ?_)⟩
 ·have:=APY hu hv g1 g2
  rw[cl g3 g4] at this
  rw[ez];exact (A7 oz i2.1.1.1).2 this
 ·have:=APY hs ht l1 l2
  rw[cl l3 l4] at this
  rw[ez'];exact (A7 oz' i1.1.1.1).2 this
 ·have:=AYT hs ht m1 m2
  rw[cl m3 m4] at this
  rw[ey'];exact (AAP oy' i1.2.1.1.1).2 this
 ·have:=AYT hu hv k1 k2
  rw[cl k3 k4] at this
  rw[ey];exact (AAP oy i2.2.1.1.1).2 this
theorem BNK{s:List Gau}(hs:∀g∈s,IT g){f:Rl}(hf:f.ok)(hp:f.passes s):Can s:=by
 by_cases hne:s=[]
 ·subst hne
  have ho:MI (QB ⟨0,0⟩):=eG ⟨Int.le_refl _,by show (0:Int)<=2000;omega,Int.le_refl _,by show (0:Int)<=200000;omega⟩
  exact⟨_,ho,λg hg=>by cases hg⟩
 ·obtain⟨g,hg,h1,_⟩:=ALO hf hp hne
  obtain⟨y,_,y2,y3,_⟩:=A9 hs (J7 hg) hf.1 hf.2 h1
  exact⟨y,y2,y3⟩
def cmb(a b c d:Int)(f g h k:Rl):Rl:=⟨a*f.p+b*g.p+c*h.p+d*k.p,a*f.q+b*g.q+c*h.q+d*k.q,a*f.w+b*g.w+c*h.w+d*k.w⟩
theorem AJJ(a b c d:Int)(f g h k:Rl)(u:Int):(cmb a b c d f g h k).num u=a*f.num u+b*g.num u+c*h.num u+d*k.num u:=by unfold cmb Rl.num;grind
theorem C1{a:Int}{f:Rl}{s:Gau}(ha:0<=a)(h:a=0∨f.pass s):s.lo*(a*f.w)<=a*f.num s.st/\a*f.num s.st<=s.hi*(a*f.w):=by
 rcases h with rfl | ⟨h1,h2⟩
 ·simp
 ·have a1:=Int.mul_le_mul_of_nonneg_left h1 ha
  have a2:=Int.mul_le_mul_of_nonneg_left h2 ha
  have e1:a*(s.lo*f.w)=s.lo*(a*f.w):=by grind
  have e2:a*(s.hi*f.w)=s.hi*(a*f.w):=by grind
  omega
theorem Ek{a b c d:Int}{f g h k:Rl}{s:List Gau}(p:0<=a/\0<=b/\0<=c/\0<=d)(h1:a=0∨f.passes s)(h2:b=0∨g.passes s)(h3:c=0∨h.passes s)(h4:d=0∨k.passes s):(cmb a b c d f g h k).passes s:=λx hx=>by
 have q1:=C1 p.1 (h1.imp id λh=>h x hx)
 have q2:=C1 p.2.1 (h2.imp id λh=>h x hx)
 have q3:=C1 p.2.2.1 (h3.imp id λh=>h x hx)
 have q4:=C1 p.2.2.2 (h4.imp id λh=>h x hx)
 unfold Rl.pass
 rw[AJJ]
 show x.lo*(a*f.w+b*g.w+c*h.w+d*k.w)<=_/\_<=x.hi*(a*f.w+b*g.w+c*h.w+d*k.w)
 have e1:x.lo*(a*f.w+b*g.w+c*h.w+d*k.w)=x.lo*(a*f.w)+x.lo*(b*g.w)+x.lo*(c*h.w)+x.lo*(d*k.w):=by grind
 have e2:x.hi*(a*f.w+b*g.w+c*h.w+d*k.w)=x.hi*(a*f.w)+x.hi*(b*g.w)+x.hi*(c*h.w)+x.hi*(d*k.w):=by grind
 omega
theorem rel3(a b c d e f:Int):∃x y z:Int,¬(x=0/\y=0/\z=0)/\x*a+y*c+z*e=0/\x*b+y*d+z*f=0:=by
 by_cases h:c*f-d*e=0/\e*b-f*a=0/\a*d-b*c=0
 ·obtain⟨h1,h2,h3⟩:=h
  by_cases ha:a=0
  ·by_cases hb:b=0
   ·exact⟨1,0,0,by omega,by rw[ha];omega,by rw[hb];omega⟩
   ·exact⟨d,-b,0,by omega,by grind,by grind⟩
  ·exact⟨c,-a,0,by omega,by grind,by grind⟩
 ·exact⟨c*f-d*e,e*b-f*a,a*d-b*c,h,by grind,by grind⟩
theorem rel4(f g h k:Rl)(hw:0<f.w):∃a b c d:Int,¬(a=0/\b=0/\c=0/\d=0)/\cmb a b c d f g h k=⟨0,0,0⟩:=by
 obtain⟨x,y,z,h1,h2,h3⟩:=rel3 (f.w*g.p-g.w*f.p) (f.w*g.q-g.w*f.q) (f.w*h.p-h.w*f.p) (f.w*h.q-h.w*f.q) (f.w*k.p-k.w*f.p) (f.w*k.q-k.w*f.q)
 refine⟨-(x*g.w+y*h.w+z*k.w),f.w*x,f.w*y,f.w*z,λ⟨_,b1,b2,b3⟩=>h1 ?_,?_⟩
 ·have hn:f.w≠0:=by omega
  exact⟨(Int.mul_eq_zero.1 b1).resolve_left hn,(Int.mul_eq_zero.1 b2).resolve_left hn,(Int.mul_eq_zero.1 b3).resolve_left hn⟩
 ·unfold cmb
  refine (Rl.mk.injEq _ _ _ _ _ _).mpr ⟨?_,?_,?_⟩
  ·grind
  ·grind
  ·grind
def C6(c:Int):Int:=if 0<c then c else 0
def neI(c:Int):Int:=if c<0 then -c else 0
theorem pneg(c:Int):c=C6 c-neI c/\0<=C6 c/\0<=neI c/\(c<=0->C6 c=0)/\(0<=c->neI c=0)/\(0<c->0<C6 c)/\(c<0->0<neI c):=by
 unfold C6 neI
 split<;>split<;>omega
theorem A1(c p:Int):c*p=C6 c*p-neI c*p:=by
 rw[<-Int.sub_mul,<-(pneg c).1]
theorem ARO{a b c d:Int}{f g h k:Rl}(e:cmb a b c d f g h k=⟨0,0,0⟩):cmb (C6 a) (C6 b) (C6 c) (C6 d) f g h k=cmb (neI a) (neI b) (neI c) (neI d) f g h k:=by
 unfold cmb at e ⊢
 obtain⟨e1,e2,e3⟩:=(Rl.mk.injEq _ _ _ _ _ _).mp e
 rw[A1 a,A1 b,A1 c,A1 d] at e1 e2 e3
 exact (Rl.mk.injEq _ _ _ _ _ _).mpr ⟨by omega,by omega,by omega⟩
theorem ADY{a b c d:Int}{f g h k:Rl}(p:0<=a/\0<=b/\0<=c/\0<=d)(q:0<a∨0<b∨0<c∨0<d)(hf:f.ok)(hg:g.ok)(hh:h.ok)(hk:k.ok):(cmb a b c d f g h k).ok:=by
 obtain⟨p1,p2,p3,p4⟩:=p
 have a1:=Int.mul_nonneg p1 (Int.le_of_lt hf.1)
 have a2:=Int.mul_nonneg p2 (Int.le_of_lt hg.1)
 have a3:=Int.mul_nonneg p3 (Int.le_of_lt hh.1)
 have a4:=Int.mul_nonneg p4 (Int.le_of_lt hk.1)
 have b1:=Int.mul_nonneg p1 hf.2
 have b2:=Int.mul_nonneg p2 hg.2
 have b3:=Int.mul_nonneg p3 hh.2
 have b4:=Int.mul_nonneg p4 hk.2
 refine⟨?_,by show 0<=a*f.q+b*g.q+c*h.q+d*k.q;omega⟩
 show 0<a*f.w+b*g.w+c*h.w+d*k.w
 rcases q with q | q | q | q
 ·have:=Int.mul_pos q hf.1;omega
 ·have:=Int.mul_pos q hg.1;omega
 ·have:=Int.mul_pos q hh.1;omega
 ·have:=Int.mul_pos q hk.1;omega
theorem CWM{A B C D:List Gau}{f g h k:Rl}(hf:f.ok)(hg:g.ok)(hh:h.ok)(hk:k.ok)(f2:f.passes B)(f3:f.passes C)(f4:f.passes D)(g1:g.passes A)(g3:g.passes C)(g4:g.passes D)(h1:h.passes A)(h2:h.passes B)(h4:h.passes D)(k1:k.passes A)(k2:k.passes B)(k3:k.passes C):∃x:Rl,x.ok/\x.passes A/\x.passes B/\x.passes C/\x.passes D:=by
 obtain⟨a,b,c,d,hn,e⟩:=rel4 f g h k hf.1
 have e:=ARO e
 obtain⟨_,pa,na,pa0,na0,pa1,na1⟩:=pneg a
 obtain⟨_,pb,nb,pb0,nb0,pb1,nb1⟩:=pneg b
 obtain⟨_,pc,nc,pc0,nc0,pc1,nc1⟩:=pneg c
 obtain⟨_,pd,nd,pd0,nd0,pd1,nd1⟩:=pneg d
 have P:0<=C6 a/\0<=C6 b/\0<=C6 c/\0<=C6 d:=⟨pa,pb,pc,pd⟩
 have N:0<=neI a/\0<=neI b/\0<=neI c/\0<=neI d:=⟨na,nb,nc,nd⟩
 refine⟨cmb (C6 a) (C6 b) (C6 c) (C6 d) f g h k,?_,?_,?_,?_,?_⟩
 ·by_cases hq:0<C6 a∨0<C6 b∨0<C6 c∨0<C6 d
  ·exact ADY P hq hf hg hh hk
  ·rw[e]
   refine ADY N ?_ hf hg hh hk
   have z1:¬0<a:=λh=>hq (.inl (pa1 h))
   have z2:¬0<b:=λh=>hq (.inr (.inl (pb1 h)))
   have z3:¬0<c:=λh=>hq (.inr (.inr (.inl (pc1 h))))
   have z4:¬0<d:=λh=>hq (.inr (.inr (.inr (pd1 h))))
   by_cases y1:a<0
   ·exact .inl (na1 y1)
   ·by_cases y2:b<0
    ·exact .inr (.inl (nb1 y2))
    ·by_cases y3:c<0
     ·exact .inr (.inr (.inl (nc1 y3)))
     ·exact .inr (.inr (.inr (nd1 (by omega))))
 ·by_cases hc:a<=0
  ·exact Ek P (.inl (pa0 hc)) (.inr g1) (.inr h1) (.inr k1)
  ·rw[e];exact Ek N (.inl (na0 (by omega))) (.inr g1) (.inr h1) (.inr k1)
 ·by_cases hc:b<=0
  ·exact Ek P (.inr f2) (.inl (pb0 hc)) (.inr h2) (.inr k2)
  ·rw[e];exact Ek N (.inr f2) (.inl (nb0 (by omega))) (.inr h2) (.inr k2)
 ·by_cases hc:c<=0
  ·exact Ek P (.inr f3) (.inr g3) (.inl (pc0 hc)) (.inr k3)
  ·rw[e];exact Ek N (.inr f3) (.inr g3) (.inl (nc0 (by omega))) (.inr k3)
 ·by_cases hc:d<=0
  ·exact Ek P (.inr f4) (.inr g4) (.inr h4) (.inl (pd0 hc))
  ·rw[e];exact Ek N (.inr f4) (.inr g4) (.inr h4) (.inl (nd0 (by omega)))
theorem ZO{f:Rl}{s t:List Gau}:f.passes (s ++ t)↔f.passes s/\f.passes t:=
 ⟨λh=>⟨λx hx=>h x (List.mem_append.2 (.inl hx)),λx hx=>h x (List.mem_append.2 (.inr hx))⟩,λh x hx=>(List.mem_append.1 hx).elim (h.1 x) (h.2 x)⟩
theorem AOI:∀(n:Nat) (L:List (List Gau)),L.length=n->(∀A B C,A∈L->B∈L->C∈L->∃x:Rl,x.ok/\x.passes A/\x.passes B/\x.passes C)->∃x:Rl,x.ok/\∀A∈L,x.passes A
 |_,[],_,_=>⟨⟨0,0,1⟩,⟨Int.one_pos,Int.le_refl _⟩,λA hA=>by cases hA⟩
 |_,[A],_,h=>by
  obtain⟨x,h1,h2,_⟩:=h A A A (by simp) (by simp) (by simp)
  exact⟨x,h1,λX hX=>by rw[List.mem_singleton.1 hX];exact h2⟩
 |0,A :: B :: R,hl,_=>by simp at hl
 |n+1,A :: B :: R,hl,h=>by
  have mA:A∈A :: B :: R:=by simp
  have mB:B∈A :: B :: R:=by simp
  have q:∀Y Z,Y∈A :: B :: R->Z∈A :: B :: R->∃x:Rl,x.ok/\x.passes A/\x.passes B/\x.passes Y/\x.passes Z:=λY Z hY hZ=>by
   obtain⟨f,hf,f2,f3,f4⟩:=h B Y Z mB hY hZ
   obtain⟨g,hg,g1,g3,g4⟩:=h A Y Z mA hY hZ
   obtain⟨h',hh,h1,h2,h4⟩:=h A B Z mA mB hZ
   obtain⟨k,hk,k1,k2,k3⟩:=h A B Y mA mB hY
   exact CWM hf hg hh hk f2 f3 f4 g1 g3 g4 h1 h2 h4 k1 k2 k3
  have up:∀X,X∈R->X∈A :: B :: R:=λX hX=>List.mem_cons_of_mem _ (List.mem_cons_of_mem _ hX)
  obtain⟨x,h1,h2⟩:=AOI n ((A ++ B) :: R) (by simp at hl ⊢;omega) λX Y Z hX hY hZ=>by
   rcases List.mem_cons.1 hX with rfl | hX<;>rcases List.mem_cons.1 hY with rfl | hY<;>rcases List.mem_cons.1 hZ with rfl | hZ
   ·obtain⟨x,a1,a2,a3,_⟩:=q A A mA mA
    have:=ZO.2 ⟨a2,a3⟩
    exact⟨x,a1,this,this,this⟩
   ·obtain⟨x,a1,a2,a3,a4,_⟩:=q Z Z (up Z hZ) (up Z hZ)
    have:=ZO.2 ⟨a2,a3⟩
    exact⟨x,a1,this,this,a4⟩
   ·obtain⟨x,a1,a2,a3,a4,_⟩:=q Y Y (up Y hY) (up Y hY)
    have:=ZO.2 ⟨a2,a3⟩
    exact⟨x,a1,this,a4,this⟩
   ·obtain⟨x,a1,a2,a3,a4,a5⟩:=q Y Z (up Y hY) (up Z hZ)
    exact⟨x,a1,ZO.2 ⟨a2,a3⟩,a4,a5⟩
   ·obtain⟨x,a1,a2,a3,a4,_⟩:=q X X (up X hX) (up X hX)
    have:=ZO.2 ⟨a2,a3⟩
    exact⟨x,a1,a4,this,this⟩
   ·obtain⟨x,a1,a2,a3,a4,a5⟩:=q X Z (up X hX) (up Z hZ)
    exact⟨x,a1,a4,ZO.2 ⟨a2,a3⟩,a5⟩
   ·obtain⟨x,a1,a2,a3,a4,a5⟩:=q X Y (up X hX) (up Y hY)
    exact⟨x,a1,a4,a5,ZO.2 ⟨a2,a3⟩⟩
   ·exact h X Y Z (up X hX) (up Y hY) (up Z hZ)
  refine⟨x,h1,λX hX=>?_⟩
  obtain⟨a1,a2⟩:=ZO.1 (h2 (A ++ B) (by simp))
  rcases List.mem_cons.1 hX with rfl | hX
  ·exact a1
  ·rcases List.mem_cons.1 hX with rfl | hX
   ·exact a2
   ·exact h2 X (List.mem_cons_of_mem _ hX)
theorem CZI{s:List Gau}(ho:∀g∈s,IT g)(h:∀a b c,a∈s->b∈s->c∈s->Can [a,b,c]):Can s:=by
 obtain⟨x,h1,h2⟩:=AOI _ (s.map λg=>[g]) rfl λA B C hA hB hC=>by
  obtain⟨a,ha,rfl⟩:=List.mem_map.1 hA
  obtain⟨b,hb,rfl⟩:=List.mem_map.1 hB
  obtain⟨c,hc,rfl⟩:=List.mem_map.1 hC
  obtain⟨y,y1,y2⟩:=h a b c ha hb hc
  exact⟨HM y,EM y1,λg hg=>y2 g (by simp_all),λg hg=>y2 g (by simp_all),λg hg=>y2 g (by simp_all)⟩
 exact BNK ho h1 λg hg=>h2 [g] (List.mem_map.2 ⟨g,hg,rfl⟩) g (by simp)
end Go.Bal
