/-
 PL: the longest common part of two lists, and what the way from one to the other costs. No program in sight.
-/
set_option linter.unusedVariables false
set_option linter.unusedSimpArgs false
namespace Go.Am.Lcs
section
variable {α : Type} (same : α → α → Bool)
def AH (x : α) (f : List α → Nat) : List α → Nat
 | [] => 0
 | y :: b => bif same x y then max (max (f (y :: b)) (AH x f b)) (f b + 1) else max (f (y :: b)) (AH x f b)
def lcs : List α → List α → Nat
 | [] => fun _ => 0
 | x :: a => AH same x (lcs a)
theorem Q5 (b : List α) : lcs same [] b = 0 := rfl
theorem O6 (a : List α) : lcs same a [] = 0 := by cases a <;> rfl
theorem S0 (x y : α) (a b : List α) : lcs same (x :: a) (y :: b) = bif same x y then max (max (lcs same a (y :: b)) (lcs same (x :: a) b)) (lcs same a b + 1) else max (lcs same a (y :: b)) (lcs same (x :: a) b) := rfl
theorem xS (x : α) (a b : List α) : lcs same a b ≤ lcs same (x :: a) b := by
 cases b with
 | nil => rw [O6]; omega
 | cons y b =>
  rw [S0]
  cases same x y <;> simp only [cond_true, cond_false] <;> omega
theorem xT (y : α) (a b : List α) : lcs same a b ≤ lcs same a (y :: b) := by
 cases a with
 | nil => rw [Q5]; omega
 | cons x a =>
  rw [S0]
  cases same x y <;> simp only [cond_true, cond_false] <;> omega
theorem jC : ∀ a b : List α, lcs same a b ≤ b.length
 | [], b => by rw [Q5]; omega
 | _ :: _, [] => by rw [O6]; omega
 | x :: a, y :: b => by
  have h1 := jC a (y :: b)
  have h2 := jC (x :: a) b
  have h3 := jC a b
  rw [S0]
  simp only [List.length_cons] at *
  cases same x y <;> simp only [cond_true, cond_false] <;> omega
termination_by a b => a.length + b.length
theorem mh : ∀ a b : List α, lcs same a b ≤ a.length
 | [], b => by rw [Q5]; omega
 | _ :: _, [] => by rw [O6]; omega
 | x :: a, y :: b => by
  have h1 := mh a (y :: b)
  have h2 := mh (x :: a) b
  have h3 := mh a b
  rw [S0]
  simp only [List.length_cons] at *
  cases same x y <;> simp only [cond_true, cond_false] <;> omega
termination_by a b => a.length + b.length
theorem kq : ∀ (a b : List α), (∀ x, lcs same (x :: a) b ≤ lcs same a b + 1) ∧ (∀ y, lcs same a (y :: b) ≤ lcs same a b + 1)
 | [], [] => ⟨fun x => by rw [O6]; omega, fun y => by rw [Q5]; omega⟩
 | [], z :: b => ⟨fun x => by
   have ih := (kq [] b).1 x
   rw [S0, Q5, Q5] at *
   cases same x z <;> simp only [cond_true, cond_false] <;> omega, fun y => by rw [Q5]; omega⟩
 | w :: a, [] => ⟨fun x => by rw [O6]; omega, fun y => by
   have ih := (kq a []).2 y
   rw [S0, O6, O6] at *
   cases same w y <;> simp only [cond_true, cond_false] <;> omega⟩
 | w :: a, z :: b => by
  have h1 := kq (w :: a) b
  have h2 := kq a (z :: b)
  have e := S0 same w z a b
  have m1 := xT same z (w :: a) b
  have m2 := xS same w a (z :: b)
  constructor
  ·intro x
   have i1 := h1.1 x
   rw [S0 same x z (w :: a) b]
   cases same x z <;> simp only [cond_true, cond_false] <;> omega
  ·intro y
   have i2 := h2.2 y
   rw [S0 same w y a (z :: b)]
   cases same w y <;> simp only [cond_true, cond_false] <;> omega
termination_by a b => a.length + b.length
theorem xU {x y : α} (h : same x y = true) (a b : List α) : lcs same (x :: a) (y :: b) = lcs same a b + 1 := by
 have h1 := (kq same a b).1 x
 have h2 := (kq same a b).2 y
 rw [S0, h]
 simp only [cond_true]
 omega
theorem AJ {x y : α} (h : same x y = false) (a b : List α) : lcs same (x :: a) (y :: b) = max (lcs same a (y :: b)) (lcs same (x :: a) b) := by
 rw [S0, h]
 rfl
theorem oH (hs : ∀ x y, same x y = same y x) : ∀ a b : List α, lcs same a b = lcs same b a
 | [], b => by rw [Q5, O6]
 | _ :: _, [] => by rw [Q5, O6]
 | x :: a, y :: b => by
  have h1 := oH hs a (y :: b)
  have h2 := oH hs (x :: a) b
  have h3 := oH hs a b
  rw [S0, S0, hs y x, h1, h2, h3]
  cases same x y <;> simp only [cond_true, cond_false] <;> omega
termination_by a b => a.length + b.length
theorem aS (ht : ∀ x y z, same x y = true → same y z = true → same x z = true) : ∀ a b c : List α, lcs same a b + lcs same b c ≤ b.length + lcs same a c
 | [], b, c => by
  have := mh same b c
  rw [Q5]; omega
 | _ :: _, [], c => by rw [O6, Q5]; omega
 | x :: a, y :: b, [] => by
  have := jC same (x :: a) (y :: b)
  rw [O6, O6]; omega
 | x :: a, y :: b, z :: c => by
  have i1 := aS ht a (y :: b) (z :: c)
  have i2 := aS ht (x :: a) (y :: b) c
  have i3 := aS ht (x :: a) b (z :: c)
  have i4 := aS ht a b (z :: c)
  have i5 := aS ht (x :: a) b c
  have i6 := aS ht a b c
  have e1 := S0 same x y a b
  have e2 := S0 same y z b c
  have m1 := xS same x a (z :: c)
  have m2 := xT same z (x :: a) c
  have hxz : same x y = true → same y z = true → lcs same (x :: a) (z :: c) = lcs same a c + 1 := fun h1 h2 => xU same (ht x y z h1 h2) a c
  simp only [List.length_cons] at *
  cases h1 : same x y <;> cases h2 : same y z <;> simp only [h1, h2, cond_true, cond_false, forall_const, true_implies, false_implies, reduceCtorEq] at e1 e2 hxz <;> omega
termination_by a b c => a.length + b.length + c.length
def cost : List α → List α → Nat
 | [], b => b.length
 | x :: a, [] => (x :: a).length
 | x :: a, y :: b => bif same x y then cost a b else bif decide (lcs same (x :: a) b ≤ lcs same a (y :: b)) then cost a (y :: b) + 1 else cost (x :: a) b + 1
termination_by a b => a.length + b.length
theorem gJ : ∀ a b : List α, cost same a b + 2 * lcs same a b = a.length + b.length
 | [], b => by unfold cost; rw [Q5]; simp
 | x :: a, [] => by unfold cost; rw [O6]; simp
 | x :: a, y :: b => by
  have h1 := gJ a b
  have h2 := gJ a (y :: b)
  have h3 := gJ (x :: a) b
  unfold cost
  simp only [List.length_cons] at *
  cases h : same x y
  ·rw [AJ same h]
   simp only [cond_false]
   by_cases hc : lcs same (x :: a) b ≤ lcs same a (y :: b)
   ·rw [decide_eq_true hc]
    simp only [cond_true]
    omega
   ·rw [decide_eq_false hc]
    simp only [cond_false]
    omega
  ·rw [xU same h]
   simp only [cond_true]
   omega
termination_by a b => a.length + b.length
theorem uc (hs : ∀ x y, same x y = same y x) (a b : List α) : cost same a b = cost same b a := by
 have h1 := gJ same a b
 have h2 := gJ same b a
 have h3 := oH same hs a b
 omega
theorem me (ht : ∀ x y z, same x y = true → same y z = true → same x z = true) (a b c : List α) : cost same a c ≤ cost same a b + cost same b c := by
 have h1 := gJ same a b
 have h2 := gJ same b c
 have h3 := gJ same a c
 have h4 := aS same ht a b c
 omega
end
def tb (n m : Nat) (f : Nat → Nat → Int) : List (List Int) := (List.range (n + 1)).map fun i => (List.range (m + 1)).map (f i)
theorem cV (n m : Nat) (f : Nat → Nat → Int) : (tb n m f).length = n + 1 := by simp [tb]
theorem tQ {n m : Nat} {f : Nat → Nat → Int} {i : Nat} (h : i ≤ n) {d : List Int} : (tb n m f).getD i d = (List.range (m + 1)).map (f i) := by
 simp [tb, List.getD_eq_getElem?_getD, List.getElem?_map, List.getElem?_range (show i < n + 1 by omega)]
theorem CV {n m : Nat} {f : Nat → Nat → Int} {i k : Nat} (h : i ≤ n) (hk : k ≤ m) {d : List Int} {e : Int} : ((tb n m f).getD i d).getD k e = f i k := by
 rw [tQ h]
 simp [List.getD_eq_getElem?_getD, List.getElem?_map, List.getElem?_range (show k < m + 1 by omega)]
theorem AK {n m : Nat} {f : Nat → Nat → Int} {i : Nat} (h : i ≤ n) {d : List Int} : ((tb n m f).getD i d).length = m + 1 := by
 rw [tQ h]; simp
theorem lW {n m : Nat} {f g : Nat → Nat → Int} (h : ∀ i k, i ≤ n → k ≤ m → f i k = g i k) : tb n m f = tb n m g := by
 unfold tb
 refine List.map_congr_left fun i hi => List.map_congr_left fun k hk => h i k ?_ ?_
 ·have := List.mem_range.1 hi; omega
 ·have := List.mem_range.1 hk; omega
theorem FI {n m : Nat} {f : Nat → Nat → Int} {i k : Nat} (h : i ≤ n) {d : List Int} {v : Int} : (tb n m f).set i (((tb n m f).getD i d).set k v) = tb n m fun i' k' => if i' = i ∧ k' = k then v else f i' k' := by
 rw [tQ h]
 refine List.ext_getElem (by simp [tb]) fun x h1 h2 => ?_
 rw [List.getElem_set]
 by_cases hx : i = x
 ·subst hx
  rw [if_pos rfl]
  refine List.ext_getElem (by simp [tb]) fun y h3 h4 => ?_
  rw [List.getElem_set]
  simp only [tb, List.getElem_map, List.getElem_range, true_and]
  by_cases hy : k = y
  ·subst hy; simp
  ·rw [if_neg hy, if_neg (fun e => hy e.symm)]
 ·rw [if_neg hx]
  simp only [tb, List.getElem_map, List.getElem_range]
  refine List.map_congr_left fun y _ => ?_
  rw [if_neg (fun e => hx e.1.symm)]
section
variable {α : Type} (same : α → α → Bool) (a b : List α)
def lc (i k : Nat) : Int := ((lcs same (a.drop i) (b.drop k) : Nat) : Int)
def tab : List (List Int) := tb a.length b.length (lc same a b)
def pf (i k : Nat) : Nat → Nat → Int := fun i' k' => if i < i' ∨ (i' = i ∧ k ≤ k') then lc same a b i' k' else 0
def EC (i k : Nat) : List (List Int) := tb a.length b.length (pf same a b i k)
theorem xV {i k j : Nat} : pf same a b i k (i + 1) j = lc same a b (i + 1) j := by unfold pf; rw [if_pos (by omega)]
theorem xW {i k : Nat} : pf same a b i k i k = lc same a b i k := by unfold pf; rw [if_pos (by omega)]
theorem Cr {i k : Nat} (h : a.length ≤ i) : lc same a b i k = 0 := by unfold lc; rw [List.drop_eq_nil_of_le h, Q5]; rfl
theorem Ct {i k : Nat} (h : b.length ≤ k) : lc same a b i k = 0 := by unfold lc; rw [List.drop_eq_nil_of_le h, O6]; rfl
theorem uo (i k : Nat) : 0 ≤ lc same a b i k := Int.natCast_nonneg _
theorem Gm (i k : Nat) : lc same a b i k ≤ b.length := by
 unfold lc
 have := jC same (a.drop i) (b.drop k)
 rw [List.length_drop] at this
 omega
theorem AL {i k : Nat} (hi : i < a.length) (hk : k < b.length) : lc same a b i k = bif same a[i] b[k] then max (max (lc same a b (i + 1) k) (lc same a b i (k + 1))) (lc same a b (i + 1) (k + 1) + 1) else max (lc same a b (i + 1) k) (lc same a b i (k + 1)) := by
 have e1 := List.drop_eq_getElem_cons hi
 have e2 := List.drop_eq_getElem_cons hk
 unfold lc
 have h := S0 same a[i] b[k] (a.drop (i + 1)) (b.drop (k + 1))
 rw [← e1, ← e2] at h
 rw [h]
 cases same a[i] b[k]
 ·simp only [cond_false]; omega
 ·simp only [cond_true]; omega
theorem uq : EC same a b a.length 0 = List.replicate (a.length + 1) (List.replicate (b.length + 1) 0) := by
 have : EC same a b a.length 0 = tb a.length b.length fun _ _ => 0 := lW fun i k hi hk => by
  unfold pf
  split
  ·exact Cr same a b (by omega)
  ·rfl
 rw [this]
 simp [tb, List.map_const']
theorem ur {i : Nat} : EC same a b (i + 1) 0 = EC same a b i b.length := lW fun i' k hi hk => by
 unfold pf
 by_cases h : i < i'
 ·rw [if_pos (by omega), if_pos (by omega)]
 ·rw [if_neg (by omega)]
  split
  ·exact (Ct same a b (by omega)).symm
  ·rfl
theorem xX : EC same a b 0 0 = tab same a b := lW fun i' k hi hk => by
 unfold pf
 rw [if_pos (by omega)]
theorem Cl {i k : Nat} (hi : i < a.length) {M : List (List Int)} {v : Int} (hM : M = tb a.length b.length fun i' k' => if i < i' ∨ (i' = i ∧ k + 1 ≤ k') then lc same a b i' k' else if i' = i ∧ k' = k then v else 0) (hv : v = lc same a b i k) : M = EC same a b i k := by
 rw [hM]
 refine lW fun i' k' _ _ => ?_
 unfold pf
 by_cases h : i < i' ∨ (i' = i ∧ k + 1 ≤ k')
 ·rw [if_pos h, if_pos (by omega)]
 ·rw [if_neg h]
  by_cases h2 : i' = i ∧ k' = k
  ·rw [if_pos h2, if_pos (by omega), hv, h2.1, h2.2]
  ·rw [if_neg h2, if_neg (by omega)]
end
end Go.Am.Lcs
