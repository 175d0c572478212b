/-
  PL, part 8 (printed by gen_open.py): the types of the arguments, one by one.
-/
import Derived.KernelRfl
import Derived.Test.YtaohdfpcdfbnlaaDoorRead
set_option linter.unusedVariables false
set_option linter.unusedSimpArgs false
namespace Go.Proofs.YtaohdfpcdfbnlaaDoor
open Go Go.Am

theorem cellsOf32 : Tryd.prog.cellsOf 32 = 5 := by kernel_rfl
theorem cellsOf25 : Tryd.prog.cellsOf 25 = 2 := by kernel_rfl
theorem cellsOf22 : Tryd.prog.cellsOf 22 = 1 := by kernel_rfl
theorem cellsOf107 : Tryd.prog.cellsOf 107 = 2 := by kernel_rfl
theorem cellsOf9 : Tryd.prog.cellsOf 9 = 1 := by kernel_rfl
theorem cellsOf37 : Tryd.prog.cellsOf 37 = 1 := by kernel_rfl
theorem cellsOf3 : Tryd.prog.cellsOf 3 = 1 := by kernel_rfl
theorem open107 {H : Type} (enc : TypeId × Value → H) (w : World) : ∀ n, Opens enc Tryd.prog w 107 ApiType.cells (fun _ => True) n := by
  intro n
  induction n with
  | zero => exact Opens.zero
  | succ n ih =>
    intro m hm cs x h hb
    have hl := struct_len Tryd.underlying107 h
    rw [cellsOf107] at hl
    obtain ⟨v0, r0, x0⟩ := struct_field (n := n) (e := 9) (o := 0) (z := 1) Tryd.underlying107 h hm hb 0 _ rfl ⟨rfl, rfl⟩ cellsOf9 (opens_str Tryd.underlying9)
    obtain ⟨v1, r1, x1⟩ := struct_field (n := n) (e := 37) (o := 1) (z := 1) Tryd.underlying107 h hm hb 1 _ rfl ⟨rfl, rfl⟩ cellsOf37 ((opens_slice (b := 8) Tryd.underlying37 cellsOf3 (by decide) (by decide) (by decide) (fun v => by first | rfl | (cases v; rfl)) (opens_int Tryd.underlying3)).le (Nat.le_succ _))
    have key : Rd w (cs.drop 0) _ := (rd_cons r0 (by first | rfl | (cases v0; rfl)) (rd_cons r1 (by first | rfl | (cases v1; rfl)) (rd_end hl)))
    refine ⟨ApiType.mk v0 v1, ?_, ?_⟩
    · rw [List.drop_zero] at key
      first | exact key | (rw [ApiType.cells_eq]; exact key)
    · trivial
theorem cellsOf23 : Tryd.prog.cellsOf 23 = 1 := by kernel_rfl
theorem cellsOf69 : Tryd.prog.cellsOf 69 = 3 := by kernel_rfl
theorem open69 {H : Type} (enc : TypeId × Value → H) (w : World) : ∀ n, Opens enc Tryd.prog w 69 ApiFeat.cells (fun _ => True) n := by
  intro n
  induction n with
  | zero => exact Opens.zero
  | succ n ih =>
    intro m hm cs x h hb
    have hl := struct_len Tryd.underlying69 h
    rw [cellsOf69] at hl
    obtain ⟨v0, r0, x0⟩ := struct_field (n := n) (e := 9) (o := 0) (z := 1) Tryd.underlying69 h hm hb 0 _ rfl ⟨rfl, rfl⟩ cellsOf9 (opens_str Tryd.underlying9)
    obtain ⟨v1, r1, x1⟩ := struct_field (n := n) (e := 3) (o := 1) (z := 1) Tryd.underlying69 h hm hb 1 _ rfl ⟨rfl, rfl⟩ cellsOf3 (opens_int Tryd.underlying3)
    obtain ⟨v2, r2, x2⟩ := struct_field (n := n) (e := 3) (o := 2) (z := 1) Tryd.underlying69 h hm hb 2 _ rfl ⟨rfl, rfl⟩ cellsOf3 (opens_int Tryd.underlying3)
    have key : Rd w (cs.drop 0) _ := (rd_cons r0 (by first | rfl | (cases v0; rfl)) (rd_cons r1 (by first | rfl | (cases v1; rfl)) (rd_cons r2 (by first | rfl | (cases v2; rfl)) (rd_end hl))))
    refine ⟨ApiFeat.mk v0 v1 v2, ?_, ?_⟩
    · rw [List.drop_zero] at key
      first | exact key | (rw [ApiFeat.cells_eq]; exact key)
    · trivial
theorem open25 {H : Type} (enc : TypeId × Value → H) (w : World) : ∀ n, Opens enc Tryd.prog w 25 ApiHierarchy.cells (fun _ => True) n := by
  intro n
  induction n with
  | zero => exact Opens.zero
  | succ n ih =>
    intro m hm cs x h hb
    have hl := struct_len Tryd.underlying25 h
    rw [cellsOf25] at hl
    obtain ⟨v0, r0, x0⟩ := struct_field (n := n) (e := 22) (o := 0) (z := 1) Tryd.underlying25 h hm hb 0 _ rfl ⟨rfl, rfl⟩ cellsOf22 ((opens_slice (b := 40) Tryd.underlying22 cellsOf107 (by decide) (by decide) (by decide) (fun v => by first | rfl | (cases v; rfl)) (open107 enc w n)).le (Nat.le_succ _))
    obtain ⟨v1, r1, x1⟩ := struct_field (n := n) (e := 23) (o := 1) (z := 1) Tryd.underlying25 h hm hb 1 _ rfl ⟨rfl, rfl⟩ cellsOf23 ((opens_slice (b := 32) Tryd.underlying23 cellsOf69 (by decide) (by decide) (by decide) (fun v => by first | rfl | (cases v; rfl)) (open69 enc w n)).le (Nat.le_succ _))
    have key : Rd w (cs.drop 0) _ := (rd_cons r0 (by first | rfl | (cases v0; rfl)) (rd_cons r1 (by first | rfl | (cases v1; rfl)) (rd_end hl)))
    refine ⟨ApiHierarchy.mk v0 v1, ?_, ?_⟩
    · rw [List.drop_zero] at key
      first | exact key | (rw [ApiHierarchy.cells_eq]; exact key)
    · trivial
theorem cellsOf26 : Tryd.prog.cellsOf 26 = 1 := by kernel_rfl
theorem cellsOf76 : Tryd.prog.cellsOf 76 = 10 := by kernel_rfl
theorem cellsOf30 : Tryd.prog.cellsOf 30 = 1 := by kernel_rfl
theorem cellsOf28 : Tryd.prog.cellsOf 28 = 1 := by kernel_rfl
theorem cellsOf102 : Tryd.prog.cellsOf 102 = 2 := by kernel_rfl
theorem cellsOf100 : Tryd.prog.cellsOf 100 = 1 := by kernel_rfl
theorem cellsOf109 : Tryd.prog.cellsOf 109 = 2 := by kernel_rfl
theorem open109 {H : Type} (enc : TypeId × Value → H) (w : World) : ∀ n, Opens enc Tryd.prog w 109 ApiLink.cells (fun _ => True) n := by
  intro n
  induction n with
  | zero => exact Opens.zero
  | succ n ih =>
    intro m hm cs x h hb
    have hl := struct_len Tryd.underlying109 h
    rw [cellsOf109] at hl
    obtain ⟨v0, r0, x0⟩ := struct_field (n := n) (e := 3) (o := 0) (z := 1) Tryd.underlying109 h hm hb 0 _ rfl ⟨rfl, rfl⟩ cellsOf3 (opens_int Tryd.underlying3)
    obtain ⟨v1, r1, x1⟩ := struct_field (n := n) (e := 3) (o := 1) (z := 1) Tryd.underlying109 h hm hb 1 _ rfl ⟨rfl, rfl⟩ cellsOf3 (opens_int Tryd.underlying3)
    have key : Rd w (cs.drop 0) _ := (rd_cons r0 (by first | rfl | (cases v0; rfl)) (rd_cons r1 (by first | rfl | (cases v1; rfl)) (rd_end hl)))
    refine ⟨ApiLink.mk v0 v1, ?_, ?_⟩
    · rw [List.drop_zero] at key
      first | exact key | (rw [ApiLink.cells_eq]; exact key)
    · trivial
theorem open102 {H : Type} (enc : TypeId × Value → H) (w : World) : ∀ n, Opens enc Tryd.prog w 102 ApiNode.cells (fun _ => True) n := by
  intro n
  induction n with
  | zero => exact Opens.zero
  | succ n ih =>
    intro m hm cs x h hb
    have hl := struct_len Tryd.underlying102 h
    rw [cellsOf102] at hl
    obtain ⟨v0, r0, x0⟩ := struct_field (n := n) (e := 3) (o := 0) (z := 1) Tryd.underlying102 h hm hb 0 _ rfl ⟨rfl, rfl⟩ cellsOf3 (opens_int Tryd.underlying3)
    obtain ⟨v1, r1, x1⟩ := struct_field (n := n) (e := 100) (o := 1) (z := 1) Tryd.underlying102 h hm hb 1 _ rfl ⟨rfl, rfl⟩ cellsOf100 ((opens_slice (b := 16) Tryd.underlying100 cellsOf109 (by decide) (by decide) (by decide) (fun v => by first | rfl | (cases v; rfl)) (open109 enc w n)).le (Nat.le_succ _))
    have key : Rd w (cs.drop 0) _ := (rd_cons r0 (by first | rfl | (cases v0; rfl)) (rd_cons r1 (by first | rfl | (cases v1; rfl)) (rd_end hl)))
    refine ⟨ApiNode.mk v0 v1, ?_, ?_⟩
    · rw [List.drop_zero] at key
      first | exact key | (rw [ApiNode.cells_eq]; exact key)
    · trivial
theorem open30 {H : Type} (enc : TypeId × Value → H) (w : World) : ∀ n, Opens enc Tryd.prog w 30 ApiGraph.cells (fun _ => True) n := by
  intro n
  induction n with
  | zero => exact Opens.zero
  | succ n ih =>
    intro m hm cs x h hb
    have hl := struct_len Tryd.underlying30 h
    rw [cellsOf30] at hl
    obtain ⟨v0, r0, x0⟩ := struct_field (n := n) (e := 28) (o := 0) (z := 1) Tryd.underlying30 h hm hb 0 _ rfl ⟨rfl, rfl⟩ cellsOf28 ((opens_slice (b := 32) Tryd.underlying28 cellsOf102 (by decide) (by decide) (by decide) (fun v => by first | rfl | (cases v; rfl)) (open102 enc w n)).le (Nat.le_succ _))
    have key : Rd w (cs.drop 0) _ := (rd_cons r0 (by first | rfl | (cases v0; rfl)) (rd_end hl))
    refine ⟨ApiGraph.mk v0, ?_, ?_⟩
    · rw [List.drop_zero] at key
      first | exact key | (rw [ApiGraph.cells_eq]; exact key)
    · trivial
theorem cellsOf73 : Tryd.prog.cellsOf 73 = 6 := by kernel_rfl
theorem cellsOf63 : Tryd.prog.cellsOf 63 = 2 := by kernel_rfl
theorem cellsOf61 : Tryd.prog.cellsOf 61 = 1 := by kernel_rfl
theorem open63 {H : Type} (enc : TypeId × Value → H) (w : World) : ∀ n, Opens enc Tryd.prog w 63 ApiSimple.cells (fun _ => True) n := by
  intro n
  induction n with
  | zero => exact Opens.zero
  | succ n ih =>
    intro m hm cs x h hb
    have hl := struct_len Tryd.underlying63 h
    rw [cellsOf63] at hl
    obtain ⟨v0, r0, x0⟩ := struct_field (n := n) (e := 9) (o := 0) (z := 1) Tryd.underlying63 h hm hb 0 _ rfl ⟨rfl, rfl⟩ cellsOf9 (opens_str Tryd.underlying9)
    obtain ⟨v1, r1, x1⟩ := struct_field (n := n) (e := 61) (o := 1) (z := 1) Tryd.underlying63 h hm hb 1 _ rfl ⟨rfl, rfl⟩ cellsOf61 ((opens_slice (b := 40) Tryd.underlying61 cellsOf63 (by decide) (by decide) (by decide) (fun v => by first | rfl | (cases v; rfl)) ih).le (Nat.le_succ _))
    have key : Rd w (cs.drop 0) _ := (rd_cons r0 (by first | rfl | (cases v0; rfl)) (rd_cons r1 (by first | rfl | (cases v1; rfl)) (rd_end hl)))
    refine ⟨ApiSimple.mk v0 v1, ?_, ?_⟩
    · rw [List.drop_zero] at key
      first | exact key | (rw [ApiSimple.cells_eq]; exact key)
    · trivial
theorem cellsOf70 : Tryd.prog.cellsOf 70 = 1 := by kernel_rfl
theorem open73 {H : Type} (enc : TypeId × Value → H) (w : World) : ∀ n, Opens enc Tryd.prog w 73 ApiTerm.cells (fun _ => True) n := by
  intro n
  induction n with
  | zero => exact Opens.zero
  | succ n ih =>
    intro m hm cs x h hb
    have hl := struct_len Tryd.underlying73 h
    rw [cellsOf73] at hl
    obtain ⟨v0, r0, x0⟩ := struct_field (n := n) (e := 3) (o := 0) (z := 1) Tryd.underlying73 h hm hb 0 _ rfl ⟨rfl, rfl⟩ cellsOf3 (opens_int Tryd.underlying3)
    obtain ⟨v1, r1, x1⟩ := struct_field (n := n) (e := 9) (o := 1) (z := 1) Tryd.underlying73 h hm hb 1 _ rfl ⟨rfl, rfl⟩ cellsOf9 (opens_str Tryd.underlying9)
    obtain ⟨v2, r2, x2⟩ := struct_field (n := n) (e := 3) (o := 2) (z := 1) Tryd.underlying73 h hm hb 2 _ rfl ⟨rfl, rfl⟩ cellsOf3 (opens_int Tryd.underlying3)
    obtain ⟨v3, r3, x3⟩ := struct_field (n := n) (e := 63) (o := 3) (z := 2) Tryd.underlying73 h hm hb 3 _ rfl ⟨rfl, rfl⟩ cellsOf63 (open63 enc w n)
    obtain ⟨v4, r4, x4⟩ := struct_field (n := n) (e := 70) (o := 5) (z := 1) Tryd.underlying73 h hm hb 4 _ rfl ⟨rfl, rfl⟩ cellsOf70 ((opens_slice (b := 96) Tryd.underlying70 cellsOf73 (by decide) (by decide) (by decide) (fun v => by first | rfl | (cases v; rfl)) ih).le (Nat.le_succ _))
    have key : Rd w (cs.drop 0) _ := (rd_cons r0 (by first | rfl | (cases v0; rfl)) (rd_cons r1 (by first | rfl | (cases v1; rfl)) (rd_cons r2 (by first | rfl | (cases v2; rfl)) (rd_cons r3 (by first | rfl | (cases v3; rfl)) (rd_cons r4 (by first | rfl | (cases v4; rfl)) (rd_end hl))))))
    refine ⟨ApiTerm.mk v0 v1 v2 v3 v4, ?_, ?_⟩
    · rw [List.drop_zero] at key
      first | exact key | (rw [ApiTerm.cells_eq]; exact key) | (simp only [ApiSimple.cells_eq] at key; exact key) | (rw [ApiTerm.cells_eq]; simp only [ApiSimple.cells_eq] at key; exact key)
    · trivial
theorem open76 {H : Type} (enc : TypeId × Value → H) (w : World) : ∀ n, Opens enc Tryd.prog w 76 ApiRule.cells (fun _ => True) n := by
  intro n
  induction n with
  | zero => exact Opens.zero
  | succ n ih =>
    intro m hm cs x h hb
    have hl := struct_len Tryd.underlying76 h
    rw [cellsOf76] at hl
    obtain ⟨v0, r0, x0⟩ := struct_field (n := n) (e := 9) (o := 0) (z := 1) Tryd.underlying76 h hm hb 0 _ rfl ⟨rfl, rfl⟩ cellsOf9 (opens_str Tryd.underlying9)
    obtain ⟨v1, r1, x1⟩ := struct_field (n := n) (e := 30) (o := 1) (z := 1) Tryd.underlying76 h hm hb 1 _ rfl ⟨rfl, rfl⟩ cellsOf30 (open30 enc w n)
    obtain ⟨v2, r2, x2⟩ := struct_field (n := n) (e := 3) (o := 2) (z := 1) Tryd.underlying76 h hm hb 2 _ rfl ⟨rfl, rfl⟩ cellsOf3 (opens_int Tryd.underlying3)
    obtain ⟨v3, r3, x3⟩ := struct_field (n := n) (e := 3) (o := 3) (z := 1) Tryd.underlying76 h hm hb 3 _ rfl ⟨rfl, rfl⟩ cellsOf3 (opens_int Tryd.underlying3)
    obtain ⟨v4, r4, x4⟩ := struct_field (n := n) (e := 73) (o := 4) (z := 6) Tryd.underlying76 h hm hb 4 _ rfl ⟨rfl, rfl⟩ cellsOf73 (open73 enc w n)
    have key : Rd w (cs.drop 0) _ := (rd_cons r0 (by first | rfl | (cases v0; rfl)) (rd_cons r1 (by first | rfl | (cases v1; rfl)) (rd_cons r2 (by first | rfl | (cases v2; rfl)) (rd_cons r3 (by first | rfl | (cases v3; rfl)) (rd_cons r4 (by first | rfl | (cases v4; rfl)) (rd_end hl))))))
    refine ⟨ApiRule.mk v0 v1 v2 v3 v4, ?_, ?_⟩
    · rw [List.drop_zero] at key
      first | exact key | (rw [ApiRule.cells_eq]; exact key) | (simp only [ApiGraph.cells_eq, ApiTerm.cells_eq] at key; exact key) | (rw [ApiRule.cells_eq]; simp only [ApiGraph.cells_eq, ApiTerm.cells_eq] at key; exact key)
    · trivial
theorem cellsOf27 : Tryd.prog.cellsOf 27 = 1 := by kernel_rfl
theorem cellsOf79 : Tryd.prog.cellsOf 79 = 9 := by kernel_rfl
theorem open79 {H : Type} (enc : TypeId × Value → H) (w : World) : ∀ n, Opens enc Tryd.prog w 79 ApiLex.cells (fun v => v.word.length ≤ 1048576) n := by
  intro n
  induction n with
  | zero => exact Opens.zero
  | succ n ih =>
    intro m hm cs x h hb
    have hl := struct_len Tryd.underlying79 h
    rw [cellsOf79] at hl
    obtain ⟨v0, r0, x0⟩ := struct_field (n := n) (e := 9) (o := 0) (z := 1) Tryd.underlying79 h hm hb 0 _ rfl ⟨rfl, rfl⟩ cellsOf9 (opens_str Tryd.underlying9)
    obtain ⟨v1, r1, x1⟩ := struct_field (n := n) (e := 30) (o := 1) (z := 1) Tryd.underlying79 h hm hb 1 _ rfl ⟨rfl, rfl⟩ cellsOf30 (open30 enc w n)
    obtain ⟨v2, r2, x2⟩ := struct_field (n := n) (e := 3) (o := 2) (z := 1) Tryd.underlying79 h hm hb 2 _ rfl ⟨rfl, rfl⟩ cellsOf3 (opens_int Tryd.underlying3)
    obtain ⟨v3, r3, x3⟩ := struct_field (n := n) (e := 73) (o := 3) (z := 6) Tryd.underlying79 h hm hb 3 _ rfl ⟨rfl, rfl⟩ cellsOf73 (open73 enc w n)
    have key : Rd w (cs.drop 0) _ := (rd_cons r0 (by first | rfl | (cases v0; rfl)) (rd_cons r1 (by first | rfl | (cases v1; rfl)) (rd_cons r2 (by first | rfl | (cases v2; rfl)) (rd_cons r3 (by first | rfl | (cases v3; rfl)) (rd_end hl)))))
    refine ⟨ApiLex.mk v0 v1 v2 v3, ?_, ?_⟩
    · rw [List.drop_zero] at key
      first | exact key | (rw [ApiLex.cells_eq]; exact key) | (simp only [ApiGraph.cells_eq, ApiTerm.cells_eq] at key; exact key) | (rw [ApiLex.cells_eq]; simp only [ApiGraph.cells_eq, ApiTerm.cells_eq] at key; exact key)
    · exact x0
theorem open32 {H : Type} (enc : TypeId × Value → H) (w : World) : ∀ n, Opens enc Tryd.prog w 32 ApiGrammar.cells (fun v => ∀ y ∈ v.lexes, y.word.length ≤ 1048576) n := by
  intro n
  induction n with
  | zero => exact Opens.zero
  | succ n ih =>
    intro m hm cs x h hb
    have hl := struct_len Tryd.underlying32 h
    rw [cellsOf32] at hl
    obtain ⟨v0, r0, x0⟩ := struct_field (n := n) (e := 25) (o := 0) (z := 2) Tryd.underlying32 h hm hb 0 _ rfl ⟨rfl, rfl⟩ cellsOf25 (open25 enc w n)
    obtain ⟨v1, r1, x1⟩ := struct_field (n := n) (e := 26) (o := 2) (z := 1) Tryd.underlying32 h hm hb 1 _ rfl ⟨rfl, rfl⟩ cellsOf26 ((opens_slice (b := 152) Tryd.underlying26 cellsOf76 (by decide) (by decide) (by decide) (fun v => by first | rfl | (cases v; rfl)) (open76 enc w n)).le (Nat.le_succ _))
    obtain ⟨v2, r2, x2⟩ := struct_field (n := n) (e := 27) (o := 3) (z := 1) Tryd.underlying32 h hm hb 2 _ rfl ⟨rfl, rfl⟩ cellsOf27 ((opens_slice (b := 144) Tryd.underlying27 cellsOf79 (by decide) (by decide) (by decide) (fun v => by first | rfl | (cases v; rfl)) (open79 enc w n)).le (Nat.le_succ _))
    obtain ⟨v3, r3, x3⟩ := struct_field (n := n) (e := 30) (o := 4) (z := 1) Tryd.underlying32 h hm hb 3 _ rfl ⟨rfl, rfl⟩ cellsOf30 (open30 enc w n)
    have key : Rd w (cs.drop 0) _ := (rd_cons r0 (by first | rfl | (cases v0; rfl)) (rd_cons r1 (by first | rfl | (cases v1; rfl)) (rd_cons r2 (by first | rfl | (cases v2; rfl)) (rd_cons r3 (by first | rfl | (cases v3; rfl)) (rd_end hl)))))
    refine ⟨ApiGrammar.mk v0 v1 v2 v3, ?_, ?_⟩
    · rw [List.drop_zero] at key
      first | exact key | (rw [ApiGrammar.cells_eq]; exact key) | (simp only [ApiHierarchy.cells_eq, ApiGraph.cells_eq] at key; exact key) | (rw [ApiGrammar.cells_eq]; simp only [ApiHierarchy.cells_eq, ApiGraph.cells_eq] at key; exact key)
    · exact x2.2
theorem cellsOf36 : Tryd.prog.cellsOf 36 = 3 := by kernel_rfl
theorem cellsOf33 : Tryd.prog.cellsOf 33 = 1 := by kernel_rfl
theorem open36 {H : Type} (enc : TypeId × Value → H) (w : World) : ∀ n, Opens enc Tryd.prog w 36 ApiTree.cells (fun _ => True) n := by
  intro n
  induction n with
  | zero => exact Opens.zero
  | succ n ih =>
    intro m hm cs x h hb
    have hl := struct_len Tryd.underlying36 h
    rw [cellsOf36] at hl
    obtain ⟨v0, r0, x0⟩ := struct_field (n := n) (e := 3) (o := 0) (z := 1) Tryd.underlying36 h hm hb 0 _ rfl ⟨rfl, rfl⟩ cellsOf3 (opens_int Tryd.underlying3)
    obtain ⟨v1, r1, x1⟩ := struct_field (n := n) (e := 3) (o := 1) (z := 1) Tryd.underlying36 h hm hb 1 _ rfl ⟨rfl, rfl⟩ cellsOf3 (opens_int Tryd.underlying3)
    obtain ⟨v2, r2, x2⟩ := struct_field (n := n) (e := 33) (o := 2) (z := 1) Tryd.underlying36 h hm hb 2 _ rfl ⟨rfl, rfl⟩ cellsOf33 ((opens_slice (b := 40) Tryd.underlying33 cellsOf36 (by decide) (by decide) (by decide) (fun v => by first | rfl | (cases v; rfl)) ih).le (Nat.le_succ _))
    have key : Rd w (cs.drop 0) _ := (rd_cons r0 (by first | rfl | (cases v0; rfl)) (rd_cons r1 (by first | rfl | (cases v1; rfl)) (rd_cons r2 (by first | rfl | (cases v2; rfl)) (rd_end hl))))
    refine ⟨ApiTree.mk v0 v1 v2, ?_, ?_⟩
    · rw [List.drop_zero] at key
      first | exact key | (rw [ApiTree.cells_eq]; exact key)
    · trivial
theorem cellsOf39 : Tryd.prog.cellsOf 39 = 2 := by kernel_rfl
theorem open39 {H : Type} (enc : TypeId × Value → H) (w : World) : ∀ n, Opens enc Tryd.prog w 39 ApiCounts.cells (fun _ => True) n := by
  intro n
  induction n with
  | zero => exact Opens.zero
  | succ n ih =>
    intro m hm cs x h hb
    have hl := struct_len Tryd.underlying39 h
    rw [cellsOf39] at hl
    obtain ⟨v0, r0, x0⟩ := struct_field (n := n) (e := 37) (o := 0) (z := 1) Tryd.underlying39 h hm hb 0 _ rfl ⟨rfl, rfl⟩ cellsOf37 ((opens_slice (b := 8) Tryd.underlying37 cellsOf3 (by decide) (by decide) (by decide) (fun v => by first | rfl | (cases v; rfl)) (opens_int Tryd.underlying3)).le (Nat.le_succ _))
    obtain ⟨v1, r1, x1⟩ := struct_field (n := n) (e := 37) (o := 1) (z := 1) Tryd.underlying39 h hm hb 1 _ rfl ⟨rfl, rfl⟩ cellsOf37 ((opens_slice (b := 8) Tryd.underlying37 cellsOf3 (by decide) (by decide) (by decide) (fun v => by first | rfl | (cases v; rfl)) (opens_int Tryd.underlying3)).le (Nat.le_succ _))
    have key : Rd w (cs.drop 0) _ := (rd_cons r0 (by first | rfl | (cases v0; rfl)) (rd_cons r1 (by first | rfl | (cases v1; rfl)) (rd_end hl)))
    refine ⟨ApiCounts.mk v0 v1, ?_, ?_⟩
    · rw [List.drop_zero] at key
      first | exact key | (rw [ApiCounts.cells_eq]; exact key)
    · trivial
theorem openTrees {H : Type} (enc : TypeId × Value → H) (w : World) (n : Nat) : Opens enc Tryd.prog w 33 (fun l => [.sl false 3 40 (rows ApiTree.cells l)]) (fun l => l.length ≤ 1048576 ∧ ∀ y ∈ l, True) n := ((opens_slice (b := 40) Tryd.underlying33 cellsOf36 (by decide) (by decide) (by decide) (fun v => by first | rfl | (cases v; rfl)) (open36 enc w n)).le (Nat.le_succ _))

end Go.Proofs.YtaohdfpcdfbnlaaDoor

