/- Package rating: what the sort returns (no program in sight). -/
import Derived.Test.YtbmlgdlbffmjjaaGreatRatS
set_option linter.unusedVariables false
set_option linter.unusedSimpArgs false
namespace Go.Bal
open Go Go.Sym Go.Proofs
theorem BPD{α:Type}[Inhabited α]{l m:List α}(h:l.length=m.length)(h2:∀i,i<l.length->gD l i=gD m i):l=m:=by
 apply List.ext_getElem h
 intro i h3 h4
 have:=h2 i h3
 simpa[gD,List.getD_eq_getElem?_getD,h3,h4] using this
theorem CSO{l:List Int}{j:Nat}(h:j+1<l.length):l=l.take j ++ (gD l j :: gD l (j+1) :: l.drop (j+2))/\swL l j=l.take j ++ (gD l (j+1) :: gD l j :: l.drop (j+2)):=by
 have e:l.drop j=gD l j :: gD l (j+1) :: l.drop (j+2):=by
  rw[AHS (show j<l.length by omega),AHS (show j+1<l.length from h)]
 refine⟨by rw[<-e,List.take_append_drop],?_⟩
 apply BPD
 ·rw[ALJ];simp;omega
 ·intro i hi
  rw[ALJ] at hi
  rw[AIF h,wV]
  have hl:(l.take j).length=j:=by simp;omega
  by_cases h1:i<j
  ·rw[if_pos (by rw[hl];exact h1),decide_eq_false (show ¬i=j by omega),decide_eq_false (show ¬i=j+1 by omega)]
   simp[gD,List.getD_eq_getElem?_getD,List.getElem?_take,h1]
  ·rw[if_neg (by rw[hl];exact h1),hl]
   by_cases h2:i=j
   ·subst h2;simp;rfl
   ·by_cases h3:i=j+1
    ·subst h3;rw[decide_eq_false h2,decide_eq_true rfl,show j+1-j=1 by omega];rfl
    ·rw[decide_eq_false h2,decide_eq_false h3]
     obtain⟨m,rfl⟩:∃m,i=j+2+m:=⟨i-j-2,by omega⟩
     rw[show j+2+m-j=m+2 by omega]
     show gD l (j+2+m)=gD (l.drop (j+2)) m
     rw[bF]
theorem CCV{l:List Int}{j:Nat}(h:j+1<l.length):(swL l j).Perm l:=by
 obtain⟨h1,h2⟩:=CSO h
 rw[h2]
 conv=>rhs;rw[h1]
 exact List.Perm.append_left _ (List.Perm.swap _ _ _)
theorem U0{key:Int->Int}:∀(j:Nat) (l:List Int),j<l.length->(E6 key j l).Perm l
 |0,l,_=>List.Perm.refl _
 |j+1,l,h=>by
  unfold E6
  cases decide (kW (key (gD l (j+1))) (key (gD l j))<0)
  ·exact List.Perm.refl _
  ·exact (U0 j _ (by rw[ALJ];omega)).trans (CCV h)
theorem AYZ{key:Int->Int}:∀(n i:Nat) (l:List Int),i+n<=l.length->(stR key n i l).Perm l
 |0,_,l,_=>List.Perm.refl _
 |n+1,i,l,h=>by
  unfold stR
  have hp:=U0 (key:=key) i l (by omega)
  exact (AYZ n (i+1) _ (by rw[hp.length_eq];omega)).trans hp
theorem BWP(key:Int->Int)(l:List Int):(stM key l).Perm l:=by
 unfold stM
 by_cases h:l.length=0
 ·rw[h];exact List.Perm.refl _
 ·exact AYZ _ _ _ (by omega)
theorem BQF{a b:Int}:kW a b<0↔a<b:=by
 unfold kW
 by_cases h:a<b
 ·simp[h]
 ·by_cases h2:b<a
  ·simp[h,h2]
  ·simp[h,h2]
def CRL(key:Int->Int)(i j:Nat)(l:List Int):Prop:=(∀p q,p<q->q<=i->p≠j->q≠j->key (gD l p)<=key (gD l q))/\∀q,j<q->q<=i->key (gD l j)<=key (gD l q)
def upS(key:Int->Int)(i:Nat)(l:List Int):Prop:=∀p q,p<q->q<=i->key (gD l p)<=key (gD l q)
theorem ABC{key:Int->Int}{i:Nat}:∀(j:Nat) (l:List Int),j<=i->i<l.length->CRL key i j l->upS key i (E6 key j l)
 |0,l,_,hl,h=>λp q h1 h2=>by
  show key (gD l p)<=key (gD l q)
  by_cases hp:p=0
  ·subst hp;exact h.2 q h1 h2
  ·exact h.1 p q h1 h2 hp (by omega)
 |j+1,l,hj,hl,h=>by
  unfold E6
  by_cases hc:key (gD l (j+1))<key (gD l j)
  ·rw[decide_eq_true (BQF.2 hc)]
   refine ABC j (swL l j) (by omega) (by rw[ALJ];omega) ⟨λp q h1 h2 h3 h4=>?_,λq h1 h2=>?_⟩
   ·rw[AIF (by omega),AIF (by omega),decide_eq_false h3,decide_eq_false h4]
    by_cases hp:p=j+1
    ·subst hp
     rw[decide_eq_true rfl,decide_eq_false (show ¬q=j+1 by omega)]
     exact h.1 j q (by omega) h2 (by omega) (by omega)
    ·by_cases hq:q=j+1
     ·subst hq
      rw[decide_eq_true rfl,decide_eq_false hp]
      exact h.1 p j (by omega) (by omega) hp (by omega)
     ·rw[decide_eq_false hp,decide_eq_false hq]
      exact h.1 p q h1 h2 hp hq
   ·rw[AIF (by omega),AIF (by omega),decide_eq_true rfl,decide_eq_false (show ¬q=j by omega)]
    by_cases hq:q=j+1
    ·subst hq;rw[decide_eq_true rfl];exact Int.le_of_lt hc
    ·rw[decide_eq_false hq];exact h.2 q (by omega) h2
  ·rw[decide_eq_false (λhx=>hc (BQF.1 hx))]
   intro p q h1 h2
   show key (gD l p)<=key (gD l q)
   by_cases hp:p=j+1
   ·subst hp;exact h.2 q h1 h2
   ·by_cases hq:q=j+1
    ·subst hq
     by_cases hpj:p=j
     ·subst hpj;omega
     ·have:=h.1 p j (by omega) (by omega) hp (by omega);omega
    ·exact h.1 p q h1 h2 hp hq
theorem AGF{key:Int->Int}:∀(n i:Nat) (l:List Int),1<=i->i+n=l.length->upS key (i-1) l->upS key (l.length-1) (stR key n i l)
 |0,i,l,h1,h2,h=>by
  rw[show l.length-1=i-1 by omega];exact h
 |n+1,i,l,h1,h2,h=>by
  unfold stR
  have hp:=U0 (key:=key) i l (by omega)
  have:=AGF (key:=key) n (i+1) (E6 key i l) (by omega) (by rw[hp.length_eq];omega) (ABC i l (Nat.le_refl _) (by omega) ⟨λp q a b c d=>h p q a (by omega),λq a b=>by omega⟩)
  rw[hp.length_eq] at this;exact this
theorem BAE(key:Int->Int)(l:List Int):upS key (l.length-1) (stM key l):=by
 unfold stM
 by_cases h:l.length=0
 ·intro p q h1 h2;omega
 ·exact AGF _ 1 l (Nat.le_refl _) (by omega) (λp q a b=>by omega)
end Go.Bal
