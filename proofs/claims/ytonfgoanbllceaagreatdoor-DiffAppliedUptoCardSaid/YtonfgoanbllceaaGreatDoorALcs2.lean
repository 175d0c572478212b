/-
 PL: more of the longest common part: the cost step by step; lists whose elements compare alike.
-/
import Derived.Test.YtonfgoanbllceaaGreatDoorALcs
set_option linter.unusedVariables false
set_option linter.unusedSimpArgs false
namespace Go.Am.Lcs
section
variable {α:Type} (same:α→α→Bool)
theorem iw(b:List α):cost same [] b=b.length:=by unfold cost;rfl
theorem nE(a:List α):cost same a []=a.length:=by cases a<;>(unfold cost;rfl)
theorem sM{x y:α}(h:same x y=true)(a b:List α):cost same (x::a) (y::b)=cost same a b:=by
 rw[cost,h];rfl
theorem xH{x y:α}(h:same x y=false){a b:List α}(hc:lcs same (x::a) b≤lcs same a (y::b)):cost same (x::a) (y::b)=cost same a (y::b)+1:=by
 rw[cost,h,decide_eq_true hc];rfl
theorem Aw{x y:α}(h:same x y=false){a b:List α}(hc:¬lcs same (x::a) b≤lcs same a (y::b)):cost same (x::a) (y::b)=cost same (x::a) b+1:=by
 rw[cost,h,decide_eq_false hc];rfl
end
section
variable {α:Type}
theorem sU{s t:α→α→Bool}:∀(a b:List α),(∀x∈a,∀y∈b,s x y=t x y)→lcs s a b=lcs t a b
 | [],b,_=>by rw[gF,gF]
 | _::_,[],_=>by rw[gG,gG]
 |x::a,y::b,h=>by
  rw[fY,fY,h x (List.mem_cons_self ..) y (List.mem_cons_self ..),sU a (y::b) fun u hu v hv=>h u (List.mem_cons_of_mem _ hu) v hv,
   sU (x::a) b fun u hu v hv=>h u hu v (List.mem_cons_of_mem _ hv),sU a b fun u hu v hv=>h u (List.mem_cons_of_mem _ hu) v (List.mem_cons_of_mem _ hv)]
termination_by a b=>a.length+b.length
theorem Cj{s t:α→α→Bool}{a b:List α}(h:∀x∈a,∀y∈b,s x y=t x y):tab s a b=tab t a b:=by
 unfold tab
 congr 1
 funext i k
 unfold lc
 rw[sU _ _ fun x hx y hy=>h x (List.mem_of_mem_drop hx) y (List.mem_of_mem_drop hy)]
end
end Go.Am.Lcs
