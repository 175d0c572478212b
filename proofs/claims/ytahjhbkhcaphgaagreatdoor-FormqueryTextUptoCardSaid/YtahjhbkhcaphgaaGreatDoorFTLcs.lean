/-
 PL: the longest common part of two lists, and what the way from one to the other costs. No program in sight.
-/
set_option linter.unusedVariables false
set_option linter.unusedSimpArgs false
namespace Go.Am.Lcs
section
variable {α:Type} (same:α→α→Bool)
def Bd(x:α)(f:List α→Nat):List α→Nat
 | []=>0
 |y::b=>bif same x y then max (max (f (y::b)) (Bd x f b)) (f b+1)else max (f (y::b)) (Bd x f b)
def lcs:List α→List α→Nat
 | []=>fun _=>0
 |x::a=>Bd same x (lcs a)
end
def tb(n m:Nat)(f:Nat→Nat→Int):List (List Int):=(List.range (n+1)).map fun i=>(List.range (m+1)).map (f i)
section
variable {α:Type} (same:α→α→Bool) (a b:List α)
def lc(i k:Nat):Int:=((lcs same (a.drop i) (b.drop k):Nat):Int)
def tab:List (List Int):=tb a.length b.length (lc same a b)
end
end Go.Am.Lcs
