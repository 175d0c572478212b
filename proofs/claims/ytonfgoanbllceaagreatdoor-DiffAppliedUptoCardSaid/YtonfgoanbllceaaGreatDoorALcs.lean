/-
 PL: the longest common part of two lists, and what the way from one to the other costs. No program in sight.
-/
set_option linter.unusedVariables false
set_option linter.unusedSimpArgs false
namespace Go.Am.Lcs
section
variable {α:Type} (same:α→α→Bool)
def Js(x:α)(f:List α→Nat):List α→Nat
 | []=>0
 |y::b=>bif same x y then max (max (f (y::b)) (Js x f b)) (f b+1)else max (f (y::b)) (Js x f b)
def lcs:List α→List α→Nat
 | []=>fun _=>0
 |x::a=>Js same x (lcs a)
theorem gF(b:List α):lcs same [] b=0:=rfl
theorem gG(a:List α):lcs same a []=0:=by cases a<;>rfl
theorem fY(x y:α)(a b:List α):lcs same (x::a) (y::b)=bif same x y then max (max (lcs same a (y::b)) (lcs same (x::a) b)) (lcs same a b+1)else max (lcs same a (y::b)) (lcs same (x::a) b):=rfl
theorem Fq(x:α)(a b:List α):lcs same a b≤lcs same (x::a) b:=by
 cases b with
 |nil=>rw[gG];omega
 |cons y b=>
  rw[fY]
  cases same x y<;>simp only[cond_true,cond_false]<;>omega
theorem Ft(y:α)(a b:List α):lcs same a b≤lcs same a (y::b):=by
 cases a with
 |nil=>rw[gF];omega
 |cons x a=>
  rw[fY]
  cases same x y<;>simp only[cond_true,cond_false]<;>omega
theorem sT:∀a b:List α,lcs same a b≤b.length
 | [],b=>by rw[gF];omega
 | _::_,[]=>by rw[gG];omega
 |x::a,y::b=>by
  have h1:=sT a (y::b)
  have h2:=sT (x::a) b
  have h3:=sT a b
  rw[fY]
  simp only[List.length_cons]at*
  cases same x y<;>simp only[cond_true,cond_false]<;>omega
termination_by a b=>a.length+b.length
theorem qx:∀(a b:List α),(∀x,lcs same (x::a) b≤lcs same a b+1)∧(∀y,lcs same a (y::b)≤lcs same a b+1)
 | [],[]=>⟨fun x=>by rw[gG];omega,fun y=>by rw[gF];omega⟩
 | [],z::b=>⟨fun x=>by
   have ih:=(qx [] b).1 x
   rw[fY,gF,gF]at*
   cases same x z<;>simp only[cond_true,cond_false]<;>omega,fun y=>by rw[gF];omega⟩
 |w::a,[]=>⟨fun x=>by rw[gG];omega,fun y=>by
  have ih:=(qx a []).2 y
  rw[fY,gG,gG]at*
  cases same w y<;>simp only[cond_true,cond_false]<;>omega⟩
 |w::a,z::b=>by
  have h1:=qx (w::a) b
  have h2:=qx a (z::b)
  have e:=fY same w z a b
  have m1:=Ft same z (w::a) b
  have m2:=Fq same w a (z::b)
  constructor
  ·intro x
   have i1:=h1.1 x
   rw[fY same x z (w::a) b]
   cases same x z<;>simp only[cond_true,cond_false]<;>omega
  ·intro y
   have i2:=h2.2 y
   rw[fY same w y a (z::b)]
   cases same w y<;>simp only[cond_true,cond_false]<;>omega
termination_by a b=>a.length+b.length
theorem Lc{x y:α}(h:same x y=true)(a b:List α):lcs same (x::a) (y::b)=lcs same a b+1:=by
 have h1:=(qx same a b).1 x
 have h2:=(qx same a b).2 y
 rw[fY,h]
 simp only[cond_true]
 omega
theorem Jt{x y:α}(h:same x y=false)(a b:List α):lcs same (x::a) (y::b)=max (lcs same a (y::b)) (lcs same (x::a) b):=by
 rw[fY,h]
 rfl
def cost:List α→List α→Nat
 | [],b=>b.length
 |x::a,[]=>(x::a).length
 |x::a,y::b=>bif same x y then cost a b else bif decide (lcs same (x::a) b≤lcs same a (y::b))then cost a (y::b)+1 else cost (x::a) b+1
termination_by a b=>a.length+b.length
theorem ot:∀a b:List α,cost same a b+2*lcs same a b=a.length+b.length
 | [],b=>by unfold cost;rw[gF];simp
 |x::a,[]=>by unfold cost;rw[gG];simp
 |x::a,y::b=>by
  have h1:=ot a b
  have h2:=ot a (y::b)
  have h3:=ot (x::a) b
  unfold cost
  simp only[List.length_cons]at*
  cases h:same x y
  ·rw[Jt same h]
   simp only[cond_false]
   by_cases hc:lcs same (x::a) b≤lcs same a (y::b)
   ·rw[decide_eq_true hc]
    simp only[cond_true]
    omega
   ·rw[decide_eq_false hc]
    simp only[cond_false]
    omega
  ·rw[Lc same h]
   simp only[cond_true]
   omega
termination_by a b=>a.length+b.length
end
def tb(n m:Nat)(f:Nat→Nat→Int):List (List Int):=(List.range (n+1)).map fun i=>(List.range (m+1)).map (f i)
theorem iJ(n m:Nat)(f:Nat→Nat→Int):(tb n m f).length=n+1:=by simp[tb]
theorem Bx{n m:Nat}{f:Nat→Nat→Int}{i:Nat}(h:i≤n){d:List Int}:(tb n m f).getD i d=(List.range (m+1)).map (f i):=by
 simp[tb,List.getD_eq_getElem?_getD,List.getElem?_map,List.getElem?_range (show i<n+1 by omega)]
theorem LN{n m:Nat}{f:Nat→Nat→Int}{i k:Nat}(h:i≤n)(hk:k≤m){d:List Int}{e:Int}:((tb n m f).getD i d).getD k e=f i k:=by
 rw[Bx h]
 simp[List.getD_eq_getElem?_getD,List.getElem?_map,List.getElem?_range (show k<m+1 by omega)]
theorem Jf{n m:Nat}{f:Nat→Nat→Int}{i:Nat}(h:i≤n){d:List Int}:((tb n m f).getD i d).length=m+1:=by
 rw[Bx h];simp
theorem sw{n m:Nat}{f g:Nat→Nat→Int}(h:∀i k,i≤n→k≤m→f i k=g i k):tb n m f=tb n m g:=by
 unfold tb
 refine List.map_congr_left fun i hi=>List.map_congr_left fun k hk=>h i k ?_ ?_
 ·have:=List.mem_range.1 hi;omega
 ·have:=List.mem_range.1 hk;omega
theorem Px{n m:Nat}{f:Nat→Nat→Int}{i k:Nat}(h:i≤n){d:List Int}{v:Int}:(tb n m f).set i (((tb n m f).getD i d).set k v)=tb n m fun i' k'=>if i'=i∧k'=k then v else f i' k':=by
 rw[Bx h]
 refine List.ext_getElem (by simp[tb]) fun x h1 h2=>?_
 rw[List.getElem_set]
 by_cases hx:i=x
 ·subst hx
  rw[if_pos rfl]
  refine List.ext_getElem (by simp[tb]) fun y h3 h4=>?_
  rw[List.getElem_set]
  simp only[tb,List.getElem_map,List.getElem_range,true_and]
  by_cases hy:k=y
  ·subst hy;simp
  ·rw[if_neg hy,if_neg (fun e=>hy e.symm)]
 ·rw[if_neg hx]
  simp only[tb,List.getElem_map,List.getElem_range]
  refine List.map_congr_left fun y _=>?_
  rw[if_neg (fun e=>hx e.1.symm)]
section
variable {α:Type} (same:α→α→Bool) (a b:List α)
def lc(i k:Nat):Int:=((lcs same (a.drop i) (b.drop k):Nat):Int)
def tab:List (List Int):=tb a.length b.length (lc same a b)
def pf(i k:Nat):Nat→Nat→Int:=fun i' k'=>if i<i'∨(i'=i∧k≤k')then lc same a b i' k' else 0
def Ov(i k:Nat):List (List Int):=tb a.length b.length (pf same a b i k)
theorem Fu{i k j:Nat}:pf same a b i k (i+1) j=lc same a b (i+1) j:=by unfold pf;rw[if_pos (by omega)]
theorem Fv{i k:Nat}:pf same a b i k i k=lc same a b i k:=by unfold pf;rw[if_pos (by omega)]
theorem Ld{i k:Nat}(h:a.length≤i):lc same a b i k=0:=by unfold lc;rw[List.drop_eq_nil_of_le h,gF];rfl
theorem Le{i k:Nat}(h:b.length≤k):lc same a b i k=0:=by unfold lc;rw[List.drop_eq_nil_of_le h,gG];rfl
theorem CJ(i k:Nat):0≤lc same a b i k:=Int.natCast_nonneg _
theorem Qx(i k:Nat):lc same a b i k≤b.length:=by
 unfold lc
 have:=sT same (a.drop i) (b.drop k)
 rw[List.length_drop]at this
 omega
theorem Ju{i k:Nat}(hi:i<a.length)(hk:k<b.length):lc same a b i k=bif same a[i] b[k]then max (max (lc same a b (i+1) k) (lc same a b i (k+1))) (lc same a b (i+1) (k+1)+1)else max (lc same a b (i+1) k) (lc same a b i (k+1)):=by
 have e1:=List.drop_eq_getElem_cons hi
 have e2:=List.drop_eq_getElem_cons hk
 unfold lc
 have h:=fY same a[i] b[k] (a.drop (i+1)) (b.drop (k+1))
 rw[←e1, ←e2]at h
 rw[h]
 cases same a[i] b[k]
 ·simp only[cond_false];omega
 ·simp only[cond_true];omega
theorem CK:Ov same a b a.length 0=List.replicate (a.length+1) (List.replicate (b.length+1) 0):=by
 have:Ov same a b a.length 0=tb a.length b.length fun _ _=>0:=sw fun i k hi hk=>by
  unfold pf
  split
  ·exact Ld same a b (by omega)
  ·rfl
 rw[this]
 simp[tb,List.map_const']
theorem CM{i:Nat}:Ov same a b (i+1) 0=Ov same a b i b.length:=sw fun i' k hi hk=>by
 unfold pf
 by_cases h:i<i'
 ·rw[if_pos (by omega),if_pos (by omega)]
 ·rw[if_neg (by omega)]
  split
  ·exact(Le same a b (by omega)).symm
  ·rfl
theorem Fw:Ov same a b 0 0=tab same a b:=sw fun i' k hi hk=>by
 unfold pf
 rw[if_pos (by omega)]
theorem KC{i k:Nat}(hi:i<a.length){M:List (List Int)}{v:Int}(hM:M=tb a.length b.length fun i' k'=>if i<i'∨(i'=i∧k+1≤k')then lc same a b i' k' else if i'=i∧k'=k then v else 0)(hv:v=lc same a b i k):M=Ov same a b i k:=by
 rw[hM]
 refine sw fun i' k' _ _=>?_
 unfold pf
 by_cases h:i<i'∨(i'=i∧k+1≤k')
 ·rw[if_pos h,if_pos (by omega)]
 ·rw[if_neg h]
  by_cases h2:i'=i∧k'=k
  ·rw[if_pos h2,if_pos (by omega),hv,h2.1,h2.2]
  ·rw[if_neg h2,if_neg (by omega)]
end
end Go.Am.Lcs
