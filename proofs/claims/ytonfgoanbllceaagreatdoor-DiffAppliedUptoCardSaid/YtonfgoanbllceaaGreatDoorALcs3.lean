/-
 PL: the way's cost, told from the front: the reference's table row by row comes to the same.
-/
import Derived.Test.YtonfgoanbllceaaGreatDoorALcs2
set_option linter.unusedVariables false
set_option linter.unusedSimpArgs false
namespace Go.Am.Lcs
section
variable {α:Type} {same:α→α→Bool}
theorem CN(x:α)(a b:List α):cost same (x::a) b≤cost same a b+1:=by
 have h1:=ot same (x::a) b
 have h2:=ot same a b
 have h3:=Fq same x a b
 simp only[List.length_cons]at h1
 omega
theorem CO(y:α)(a b:List α):cost same a (y::b)≤cost same a b+1:=by
 have h1:=ot same a (y::b)
 have h2:=ot same a b
 have h3:=Ft same y a b
 simp only[List.length_cons]at h1
 omega
def dp(sm:Nat→Nat→Bool):Nat→Nat→Nat
 |0,k=>k
 |i+1,0=>i+1
 |i+1,k+1=>bif sm i k then min (min (dp sm i (k+1)+1) (dp sm (i+1) k+1)) (dp sm i k)else min (dp sm i (k+1)+1) (dp sm (i+1) k+1)
theorem xP(sm:Nat→Nat→Bool)(i k:Nat):dp sm (i+1) (k+1)=bif sm i k then min (min (dp sm i (k+1)+1) (dp sm (i+1) k+1)) (dp sm i k)else min (dp sm i (k+1)+1) (dp sm (i+1) k+1):=by
 rw[dp]
theorem xO(sm:Nat→Nat→Bool)(k:Nat):dp sm 0 k=k:=by rw[dp]
theorem AH(sm:Nat→Nat→Bool)(i:Nat):dp sm i 0=i:=by cases i<;>rw[dp]
theorem Jv(sm:Nat→Nat→Bool)(i k:Nat):dp sm (i+1) k≤dp sm i k+1:=by
 cases k with
 |zero=>rw[AH,AH];omega
 |succ k=>rw[xP];cases sm i k<;>simp only[cond_true,cond_false]<;>omega
theorem Fx(sm:Nat→Nat→Bool)(i k:Nat):dp sm i (k+1)≤dp sm i k+1:=by
 cases i with
 |zero=>rw[xO,xO];omega
 |succ i=>rw[xP];cases sm i k<;>simp only[cond_true,cond_false]<;>omega
theorem Jp(sm:Nat→Nat→Bool):∀i k,dp sm i k≤i+k
 |0,k=>by rw[xO];omega
 |i+1,k=>by have h1:=Jp sm i k;have h2:=Jv sm i k;omega
theorem zp{sm:Nat→Nat→Bool}{a b:List α}(hs:∀(i k:Nat) (hi:i<a.length) (hk:k<b.length),sm i k=same a[i] b[k]):∀i k,i≤a.length→k≤b.length→cost same a b≤dp sm i k+cost same (a.drop i) (b.drop k)
 |0,0,_,_=>by rw[xO];simp
 |0,k+1,h1,h2=>by
  have ih:=zp hs 0 k h1 (by omega)
  rw[xO]at ih⊢
  have e:b.drop k=b[k]::b.drop (k+1):=List.drop_eq_getElem_cons (by omega)
  rw[e]at ih
  have:=CO (same:=same) b[k] (a.drop 0) (b.drop (k+1))
  omega
 |i+1,0,h1,h2=>by
  have ih:=zp hs i 0 (by omega) h2
  rw[AH]at ih⊢
  have e:a.drop i=a[i]::a.drop (i+1):=List.drop_eq_getElem_cons (by omega)
  rw[e]at ih
  have:=CN (same:=same) a[i] (a.drop (i+1)) (b.drop 0)
  omega
 |i+1,k+1,h1,h2=>by
  have ih1:=zp hs i (k+1) (by omega) h2
  have ih2:=zp hs (i+1) k h1 (by omega)
  have ih3:=zp hs i k (by omega) (by omega)
  have ea:a.drop i=a[i]::a.drop (i+1):=List.drop_eq_getElem_cons (by omega)
  have eb:b.drop k=b[k]::b.drop (k+1):=List.drop_eq_getElem_cons (by omega)
  have l1:=CN (same:=same) a[i] (a.drop (i+1)) (b.drop (k+1))
  have l2:=CO (same:=same) b[k] (a.drop (i+1)) (b.drop (k+1))
  rw[ea]at ih1
  rw[eb]at ih2
  rw[ea,eb]at ih3
  rw[xP]
  cases h:sm i k
  ·simp only[cond_false];omega
  ·have:=sM same (show same a[i] b[k]=true by rw[←hs i k (by omega) (by omega),h]) (a.drop (i+1)) (b.drop (k+1))
   simp only[cond_true];omega
theorem xR{sm:Nat→Nat→Bool}{a b:List α}(hs:∀(i k:Nat) (hi:i<a.length) (hk:k<b.length),sm i k=same a[i] b[k]):∀(j i k:Nat),i≤a.length→k≤b.length→a.length-i+(b.length-k)=j→dp sm a.length b.length≤dp sm i k+cost same (a.drop i) (b.drop k)
 |0,i,k,h1,h2,h3=>by
  have e1:i=a.length:=by omega
  have e2:k=b.length:=by omega
  subst e1 e2
  omega
 |j+1,i,k,h1,h2,h3=>by
  by_cases hi:i<a.length
  ·have ea:a.drop i=a[i]::a.drop (i+1):=List.drop_eq_getElem_cons hi
   have ih1:=xR hs j (i+1) k (by omega) h2 (by omega)
   have d1:=Jv sm i k
   by_cases hk:k<b.length
   ·have eb:b.drop k=b[k]::b.drop (k+1):=List.drop_eq_getElem_cons hk
    have ih2:=xR hs j i (k+1) h1 (by omega) (by omega)
    have d2:=Fx sm i k
    cases h:same a[i] b[k]
    ·rw[ea,eb]
     by_cases hc:lcs same (a[i]::a.drop (i+1)) (b.drop (k+1))≤lcs same (a.drop (i+1)) (b[k]::b.drop (k+1))
     ·rw[xH same h hc, ←eb];omega
     ·rw[Aw same h hc, ←ea];omega
    ·have ih3:dp sm a.length b.length≤dp sm (i+1) (k+1)+cost same (a.drop (i+1)) (b.drop (k+1)):=by
      cases j with
      |zero=>omega
      |succ j=>exact xR hs j (i+1) (k+1) (by omega) (by omega) (by omega)
     have d3:dp sm (i+1) (k+1)≤dp sm i k:=by rw[xP,hs i k hi hk,h];simp only[cond_true];omega
     rw[ea,eb,sM same h]
     omega
   ·have eb:b.drop k=[]:=List.drop_eq_nil_of_le (by omega)
    rw[eb,nE]at ih1⊢
    rw[List.length_drop]at ih1⊢
    omega
  ·have ea:a.drop i=[]:=List.drop_eq_nil_of_le (by omega)
   have ih2:=xR hs j i (k+1) h1 (by omega) (by omega)
   have d2:=Fx sm i k
   rw[ea,iw]at ih2⊢
   rw[List.length_drop]at ih2⊢
   omega
theorem Jr{sm:Nat→Nat→Bool}{a b:List α}(hs:∀(i k:Nat) (hi:i<a.length) (hk:k<b.length),sm i k=same a[i] b[k]):dp sm a.length b.length=cost same a b:=by
 have h1:=zp hs a.length b.length (Nat.le_refl _) (Nat.le_refl _)
 have h2:=xR hs _ 0 0 (Nat.zero_le _) (Nat.zero_le _) rfl
 rw[List.drop_eq_nil_of_le (Nat.le_refl _),List.drop_eq_nil_of_le (Nat.le_refl _),iw]at h1
 rw[xO]at h2
 simp only[List.drop_zero,List.length_nil]at h1 h2
 omega
end
end Go.Am.Lcs
