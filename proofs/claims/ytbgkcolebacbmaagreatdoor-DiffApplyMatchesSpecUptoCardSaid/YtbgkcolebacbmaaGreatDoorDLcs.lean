/-
 PL: the longest common part of two lists, and what the way from one to the other costs. No program in sight.
-/
set_option linter.unusedVariables false
set_option linter.unusedSimpArgs false
namespace Go.Am.Lcs
section
variable {α:Type} (same:α→α→Bool)
def GP(x:α)(f:List α→Nat):List α→Nat
 | []=>0
 |y::b=>bif same x y then max (max (f (y::b)) (GP x f b)) (f b+1)else max (f (y::b)) (GP x f b)
def lcs:List α→List α→Nat
 | []=>fun _=>0
 |x::a=>GP same x (lcs a)
theorem AH(b:List α):lcs same [] b=0:=rfl
theorem AJ(a:List α):lcs same a []=0:=by cases a<;>rfl
theorem Du(x y:α)(a b:List α):lcs same (x::a) (y::b)=bif same x y then max (max (lcs same a (y::b)) (lcs same (x::a) b)) (lcs same a b+1)else max (lcs same a (y::b)) (lcs same (x::a) b):=rfl
theorem rW:∀a b:List α,lcs same a b≤b.length
 | [],b=>by rw[AH];omega
 | _::_,[]=>by rw[AJ];omega
 |x::a,y::b=>by
  have h1:=rW a (y::b)
  have h2:=rW (x::a) b
  have h3:=rW a b
  rw[Du]
  simp only[List.length_cons]at*
  cases same x y<;>simp only[cond_true,cond_false]<;>omega
termination_by a b=>a.length+b.length
end
def tb(n m:Nat)(f:Nat→Nat→Int):List (List Int):=(List.range (n+1)).map fun i=>(List.range (m+1)).map (f i)
theorem ji(n m:Nat)(f:Nat→Nat→Int):(tb n m f).length=n+1:=by simp[tb]
theorem Ga{n m:Nat}{f:Nat→Nat→Int}{i:Nat}(h:i≤n){d:List Int}:(tb n m f).getD i d=(List.range (m+1)).map (f i):=by
 simp[tb,List.getD_eq_getElem?_getD,List.getElem?_map,List.getElem?_range (show i<n+1 by omega)]
theorem rK{n m:Nat}{f g:Nat→Nat→Int}(h:∀i k,i≤n→k≤m→f i k=g i k):tb n m f=tb n m g:=by
 unfold tb
 refine List.map_congr_left fun i hi=>List.map_congr_left fun k hk=>h i k ?_ ?_
 ·have:=List.mem_range.1 hi;omega
 ·have:=List.mem_range.1 hk;omega
theorem Nd{n m:Nat}{f:Nat→Nat→Int}{i k:Nat}(h:i≤n){d:List Int}{v:Int}:(tb n m f).set i (((tb n m f).getD i d).set k v)=tb n m fun i' k'=>if i'=i∧k'=k then v else f i' k':=by
 rw[Ga h]
 refine List.ext_getElem (by simp[tb]) fun x h1 h2=>?_
 rw[List.getElem_set]
 by_cases hx:i=x
 ·subst hx
  rw[if_pos rfl]
  refine List.ext_getElem (by simp[tb]) fun y h3 h4=>?_
  rw[List.getElem_set]
  simp only[tb,List.getElem_map,List.getElem_range,true_and]
  by_cases hy:k=y
  ·subst hy;simp
  ·rw[if_neg hy,if_neg (fun e=>hy e.symm)]
 ·rw[if_neg hx]
  simp only[tb,List.getElem_map,List.getElem_range]
  refine List.map_congr_left fun y _=>?_
  rw[if_neg (fun e=>hx e.1.symm)]
section
variable {α:Type} (same:α→α→Bool) (a b:List α)
def lc(i k:Nat):Int:=((lcs same (a.drop i) (b.drop k):Nat):Int)
def tab:List (List Int):=tb a.length b.length (lc same a b)
def pf(i k:Nat):Nat→Nat→Int:=fun i' k'=>if i<i'∨(i'=i∧k≤k')then lc same a b i' k' else 0
def Me(i k:Nat):List (List Int):=tb a.length b.length (pf same a b i k)
theorem Dv{i k j:Nat}:pf same a b i k (i+1) j=lc same a b (i+1) j:=by unfold pf;rw[if_pos (by omega)]
theorem Dw{i k:Nat}:pf same a b i k i k=lc same a b i k:=by unfold pf;rw[if_pos (by omega)]
theorem Jf{i k:Nat}(h:a.length≤i):lc same a b i k=0:=by unfold lc;rw[List.drop_eq_nil_of_le h,AH];rfl
theorem Jg{i k:Nat}(h:b.length≤k):lc same a b i k=0:=by unfold lc;rw[List.drop_eq_nil_of_le h,AJ];rfl
theorem AK(i k:Nat):0≤lc same a b i k:=Int.natCast_nonneg _
theorem Oe(i k:Nat):lc same a b i k≤b.length:=by
 unfold lc
 have:=rW same (a.drop i) (b.drop k)
 rw[List.length_drop]at this
 omega
theorem GQ{i k:Nat}(hi:i<a.length)(hk:k<b.length):lc same a b i k=bif same a[i] b[k]then max (max (lc same a b (i+1) k) (lc same a b i (k+1))) (lc same a b (i+1) (k+1)+1)else max (lc same a b (i+1) k) (lc same a b i (k+1)):=by
 have e1:=List.drop_eq_getElem_cons hi
 have e2:=List.drop_eq_getElem_cons hk
 unfold lc
 have h:=Du same a[i] b[k] (a.drop (i+1)) (b.drop (k+1))
 rw[←e1, ←e2]at h
 rw[h]
 cases same a[i] b[k]
 ·simp only[cond_false];omega
 ·simp only[cond_true];omega
theorem AL:Me same a b a.length 0=List.replicate (a.length+1) (List.replicate (b.length+1) 0):=by
 have:Me same a b a.length 0=tb a.length b.length fun _ _=>0:=rK fun i k hi hk=>by
  unfold pf
  split
  ·exact Jf same a b (by omega)
  ·rfl
 rw[this]
 simp[tb,List.map_const']
theorem AO{i:Nat}:Me same a b (i+1) 0=Me same a b i b.length:=rK fun i' k hi hk=>by
 unfold pf
 by_cases h:i<i'
 ·rw[if_pos (by omega),if_pos (by omega)]
 ·rw[if_neg (by omega)]
  split
  ·exact(Jg same a b (by omega)).symm
  ·rfl
theorem Dx:Me same a b 0 0=tab same a b:=rK fun i' k hi hk=>by
 unfold pf
 rw[if_pos (by omega)]
theorem Iw{i k:Nat}(hi:i<a.length){M:List (List Int)}{v:Int}(hM:M=tb a.length b.length fun i' k'=>if i<i'∨(i'=i∧k+1≤k')then lc same a b i' k' else if i'=i∧k'=k then v else 0)(hv:v=lc same a b i k):M=Me same a b i k:=by
 rw[hM]
 refine rK fun i' k' _ _=>?_
 unfold pf
 by_cases h:i<i'∨(i'=i∧k+1≤k')
 ·rw[if_pos h,if_pos (by omega)]
 ·rw[if_neg h]
  by_cases h2:i'=i∧k'=k
  ·rw[if_pos h2,if_pos (by omega),hv,h2.1,h2.2]
  ·rw[if_neg h2,if_neg (by omega)]
end
end Go.Am.Lcs
