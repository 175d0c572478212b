import Derived.KernelRfl
import Derived.Test.YtaohdfpcdfbnlaaGreatDoorRead
import Derived.Test.YtaohdfpcdfbnlaaGreatDoorDiff2
set_option linter.unusedVariables false
set_option linter.unusedSimpArgs false
namespace Go.Proofs.YtaohdfpcdfbnlaaGreatDoor
open Go Go.Am
theorem Ax : Tryz.prog.cellsOf 32 = 5 := by kernel_rfl
theorem tZ : Tryz.prog.cellsOf 25 = 2 := by kernel_rfl
theorem Ay : Tryz.prog.cellsOf 22 = 1 := by kernel_rfl
theorem qT : Tryz.prog.cellsOf 121 = 2 := by kernel_rfl
theorem kf : Tryz.prog.cellsOf 9 = 1 := by kernel_rfl
theorem Az : Tryz.prog.cellsOf 88 = 1 := by kernel_rfl
theorem dj : Tryz.prog.cellsOf 3 = 1 := by kernel_rfl
theorem DR {H : Type} (enc : TypeId × Value → H) (w : World) : ∀ n, Opens enc Tryz.prog w 121 w7.cells (fun _ => True) n := by
 intro n
 induction n with
 | zero => exact Opens.zero
 | succ n ih =>
  intro m hm cs x h hb
  have hl := X1 Tryz.underlying121 h
  rw [qT] at hl
  obtain ⟨v0, r0, x0⟩ := D3 (n := n) (e := 9) (o := 0) (z := 1) Tryz.underlying121 h hm hb 0 _ rfl ⟨rfl, rfl⟩ kf (hY Tryz.underlying9)
  obtain ⟨v1, r1, x1⟩ := D3 (n := n) (e := 88) (o := 1) (z := 1) Tryz.underlying121 h hm hb 1 _ rfl ⟨rfl, rfl⟩ Az ((Y9 (b := 8) Tryz.underlying88 dj (by decide) (by decide) (by decide) (fun v => by first | rfl | (cases v; rfl)) (aW Tryz.underlying3)).le (Nat.le_succ _))
  have key : Rd w (cs.drop 0) _ := (K5 r0 (by first | rfl | (cases v0; rfl)) (K5 r1 (by first | rfl | (cases v1; rfl)) (jI hl)))
  refine ⟨w7.mk v0 v1, ?_, ?_⟩
  ·rw [List.drop_zero] at key
   first | exact key | (rw [w7.E1]; exact key)
  ·trivial
theorem AA : Tryz.prog.cellsOf 23 = 1 := by kernel_rfl
theorem uc : Tryz.prog.cellsOf 90 = 3 := by kernel_rfl
theorem Gg {H : Type} (enc : TypeId × Value → H) (w : World) : ∀ n, Opens enc Tryz.prog w 90 x9.cells (fun _ => True) n := by
 intro n
 induction n with
 | zero => exact Opens.zero
 | succ n ih =>
  intro m hm cs x h hb
  have hl := X1 Tryz.underlying90 h
  rw [uc] at hl
  obtain ⟨v0, r0, x0⟩ := D3 (n := n) (e := 9) (o := 0) (z := 1) Tryz.underlying90 h hm hb 0 _ rfl ⟨rfl, rfl⟩ kf (hY Tryz.underlying9)
  obtain ⟨v1, r1, x1⟩ := D3 (n := n) (e := 3) (o := 1) (z := 1) Tryz.underlying90 h hm hb 1 _ rfl ⟨rfl, rfl⟩ dj (aW Tryz.underlying3)
  obtain ⟨v2, r2, x2⟩ := D3 (n := n) (e := 3) (o := 2) (z := 1) Tryz.underlying90 h hm hb 2 _ rfl ⟨rfl, rfl⟩ dj (aW Tryz.underlying3)
  have key : Rd w (cs.drop 0) _ := (K5 r0 (by first | rfl | (cases v0; rfl)) (K5 r1 (by first | rfl | (cases v1; rfl)) (K5 r2 (by first | rfl | (cases v2; rfl)) (jI hl))))
  refine ⟨x9.mk v0 v1 v2, ?_, ?_⟩
  ·rw [List.drop_zero] at key
   first | exact key | (rw [x9.E1]; exact key)
  ·trivial
theorem Gh {H : Type} (enc : TypeId × Value → H) (w : World) : ∀ n, Opens enc Tryz.prog w 25 w4.cells (fun v => v.types.length ≤ 1048576) n := by
 intro n
 induction n with
 | zero => exact Opens.zero
 | succ n ih =>
  intro m hm cs x h hb
  have hl := X1 Tryz.underlying25 h
  rw [tZ] at hl
  obtain ⟨v0, r0, x0⟩ := D3 (n := n) (e := 22) (o := 0) (z := 1) Tryz.underlying25 h hm hb 0 _ rfl ⟨rfl, rfl⟩ Ay ((Y9 (b := 40) Tryz.underlying22 qT (by decide) (by decide) (by decide) (fun v => by first | rfl | (cases v; rfl)) (DR enc w n)).le (Nat.le_succ _))
  obtain ⟨v1, r1, x1⟩ := D3 (n := n) (e := 23) (o := 1) (z := 1) Tryz.underlying25 h hm hb 1 _ rfl ⟨rfl, rfl⟩ AA ((Y9 (b := 32) Tryz.underlying23 uc (by decide) (by decide) (by decide) (fun v => by first | rfl | (cases v; rfl)) (Gg enc w n)).le (Nat.le_succ _))
  have key : Rd w (cs.drop 0) _ := (K5 r0 (by first | rfl | (cases v0; rfl)) (K5 r1 (by first | rfl | (cases v1; rfl)) (jI hl)))
  refine ⟨w4.mk v0 v1, ?_, ?_⟩
  ·rw [List.drop_zero] at key
   first | exact key | (rw [w4.E1]; exact key)
  ·exact x0.1
theorem AB : Tryz.prog.cellsOf 26 = 1 := by kernel_rfl
theorem ud : Tryz.prog.cellsOf 66 = 10 := by kernel_rfl
theorem lX : Tryz.prog.cellsOf 30 = 1 := by kernel_rfl
theorem AE : Tryz.prog.cellsOf 28 = 1 := by kernel_rfl
theorem qU : Tryz.prog.cellsOf 130 = 2 := by kernel_rfl
theorem yF : Tryz.prog.cellsOf 128 = 1 := by kernel_rfl
theorem qV : Tryz.prog.cellsOf 133 = 2 := by kernel_rfl
theorem DS {H : Type} (enc : TypeId × Value → H) (w : World) : ∀ n, Opens enc Tryz.prog w 133 D8.cells (fun _ => True) n := by
 intro n
 induction n with
 | zero => exact Opens.zero
 | succ n ih =>
  intro m hm cs x h hb
  have hl := X1 Tryz.underlying133 h
  rw [qV] at hl
  obtain ⟨v0, r0, x0⟩ := D3 (n := n) (e := 3) (o := 0) (z := 1) Tryz.underlying133 h hm hb 0 _ rfl ⟨rfl, rfl⟩ dj (aW Tryz.underlying3)
  obtain ⟨v1, r1, x1⟩ := D3 (n := n) (e := 3) (o := 1) (z := 1) Tryz.underlying133 h hm hb 1 _ rfl ⟨rfl, rfl⟩ dj (aW Tryz.underlying3)
  have key : Rd w (cs.drop 0) _ := (K5 r0 (by first | rfl | (cases v0; rfl)) (K5 r1 (by first | rfl | (cases v1; rfl)) (jI hl)))
  refine ⟨D8.mk v0 v1, ?_, ?_⟩
  ·rw [List.drop_zero] at key
   first | exact key | (rw [D8.E1]; exact key)
  ·trivial
theorem DT {H : Type} (enc : TypeId × Value → H) (w : World) : ∀ n, Opens enc Tryz.prog w 130 w8.cells (fun _ => True) n := by
 intro n
 induction n with
 | zero => exact Opens.zero
 | succ n ih =>
  intro m hm cs x h hb
  have hl := X1 Tryz.underlying130 h
  rw [qU] at hl
  obtain ⟨v0, r0, x0⟩ := D3 (n := n) (e := 3) (o := 0) (z := 1) Tryz.underlying130 h hm hb 0 _ rfl ⟨rfl, rfl⟩ dj (aW Tryz.underlying3)
  obtain ⟨v1, r1, x1⟩ := D3 (n := n) (e := 128) (o := 1) (z := 1) Tryz.underlying130 h hm hb 1 _ rfl ⟨rfl, rfl⟩ yF ((Y9 (b := 16) Tryz.underlying128 qV (by decide) (by decide) (by decide) (fun v => by first | rfl | (cases v; rfl)) (DS enc w n)).le (Nat.le_succ _))
  have key : Rd w (cs.drop 0) _ := (K5 r0 (by first | rfl | (cases v0; rfl)) (K5 r1 (by first | rfl | (cases v1; rfl)) (jI hl)))
  refine ⟨w8.mk v0 v1, ?_, ?_⟩
  ·rw [List.drop_zero] at key
   first | exact key | (rw [w8.E1]; exact key)
  ·trivial
theorem AF {H : Type} (enc : TypeId × Value → H) (w : World) : ∀ n, Opens enc Tryz.prog w 30 y5.cells (fun v => v.nodes.length ≤ 1048576) n := by
 intro n
 induction n with
 | zero => exact Opens.zero
 | succ n ih =>
  intro m hm cs x h hb
  have hl := X1 Tryz.underlying30 h
  rw [lX] at hl
  obtain ⟨v0, r0, x0⟩ := D3 (n := n) (e := 28) (o := 0) (z := 1) Tryz.underlying30 h hm hb 0 _ rfl ⟨rfl, rfl⟩ AE ((Y9 (b := 32) Tryz.underlying28 qU (by decide) (by decide) (by decide) (fun v => by first | rfl | (cases v; rfl)) (DT enc w n)).le (Nat.le_succ _))
  have key : Rd w (cs.drop 0) _ := (K5 r0 (by first | rfl | (cases v0; rfl)) (jI hl))
  refine ⟨y5.mk v0, ?_, ?_⟩
  ·rw [List.drop_zero] at key
   first | exact key | (rw [y5.E1]; exact key)
  ·exact x0.1
theorem lY : Tryz.prog.cellsOf 64 = 6 := by kernel_rfl
theorem pO : Tryz.prog.cellsOf 61 = 2 := by kernel_rfl
theorem AG : Tryz.prog.cellsOf 59 = 1 := by kernel_rfl
theorem Gi {H : Type} (enc : TypeId × Value → H) (w : World) : ∀ n, Opens enc Tryz.prog w 61 u0.cells (pI) n := by
 intro n
 induction n with
 | zero => exact Opens.zero
 | succ n ih =>
  intro m hm cs x h hb
  have hl := X1 Tryz.underlying61 h
  rw [pO] at hl
  obtain ⟨v0, r0, x0⟩ := D3 (n := n) (e := 9) (o := 0) (z := 1) Tryz.underlying61 h hm hb 0 _ rfl ⟨rfl, rfl⟩ kf (hY Tryz.underlying9)
  obtain ⟨v1, r1, x1⟩ := D3 (n := n) (e := 59) (o := 1) (z := 1) Tryz.underlying61 h hm hb 1 _ rfl ⟨rfl, rfl⟩ AG ((Y9 (b := 40) Tryz.underlying59 pO (by decide) (by decide) (by decide) (fun v => by first | rfl | (cases v; rfl)) ih).le (Nat.le_succ _))
  have key : Rd w (cs.drop 0) _ := (K5 r0 (by first | rfl | (cases v0; rfl)) (K5 r1 (by first | rfl | (cases v1; rfl)) (jI hl)))
  refine ⟨u0.mk v0 v1, ?_, ?_⟩
  ·rw [List.drop_zero] at key
   first | exact key | (rw [u0.E1]; exact key)
  ·exact .mk _ x1.1 (fun k hk => x1.2 _ (get_mem hk))
theorem AH : Tryz.prog.cellsOf 62 = 1 := by kernel_rfl
theorem CP {H : Type} (enc : TypeId × Value → H) (w : World) : ∀ n, Opens enc Tryz.prog w 64 w5.cells (yw) n := by
 intro n
 induction n with
 | zero => exact Opens.zero
 | succ n ih =>
  intro m hm cs x h hb
  have hl := X1 Tryz.underlying64 h
  rw [lY] at hl
  obtain ⟨v0, r0, x0⟩ := D3 (n := n) (e := 3) (o := 0) (z := 1) Tryz.underlying64 h hm hb 0 _ rfl ⟨rfl, rfl⟩ dj (aW Tryz.underlying3)
  obtain ⟨v1, r1, x1⟩ := D3 (n := n) (e := 9) (o := 1) (z := 1) Tryz.underlying64 h hm hb 1 _ rfl ⟨rfl, rfl⟩ kf (hY Tryz.underlying9)
  obtain ⟨v2, r2, x2⟩ := D3 (n := n) (e := 3) (o := 2) (z := 1) Tryz.underlying64 h hm hb 2 _ rfl ⟨rfl, rfl⟩ dj (aW Tryz.underlying3)
  obtain ⟨v3, r3, x3⟩ := D3 (n := n) (e := 61) (o := 3) (z := 2) Tryz.underlying64 h hm hb 3 _ rfl ⟨rfl, rfl⟩ pO (Gi enc w n)
  obtain ⟨v4, r4, x4⟩ := D3 (n := n) (e := 62) (o := 5) (z := 1) Tryz.underlying64 h hm hb 4 _ rfl ⟨rfl, rfl⟩ AH ((Y9 (b := 96) Tryz.underlying62 lY (by decide) (by decide) (by decide) (fun v => by first | rfl | (cases v; rfl)) ih).le (Nat.le_succ _))
  have key : Rd w (cs.drop 0) _ := (K5 r0 (by first | rfl | (cases v0; rfl)) (K5 r1 (by first | rfl | (cases v1; rfl)) (K5 r2 (by first | rfl | (cases v2; rfl)) (K5 r3 (by first | rfl | (cases v3; rfl)) (K5 r4 (by first | rfl | (cases v4; rfl)) (jI hl))))))
  refine ⟨w5.mk v0 v1 v2 v3 v4, ?_, ?_⟩
  ·rw [List.drop_zero] at key
   first | exact key | (rw [w5.E1]; exact key) | (simp only [u0.E1] at key; exact key) | (rw [w5.E1]; simp only [u0.E1] at key; exact key)
  ·exact .mk _ x3 x4.1 (fun k hk => x4.2 _ (get_mem hk))
theorem Gj {H : Type} (enc : TypeId × Value → H) (w : World) : ∀ n, Opens enc Tryz.prog w 66 u6.cells (Cg) n := by
 intro n
 induction n with
 | zero => exact Opens.zero
 | succ n ih =>
  intro m hm cs x h hb
  have hl := X1 Tryz.underlying66 h
  rw [ud] at hl
  obtain ⟨v0, r0, x0⟩ := D3 (n := n) (e := 9) (o := 0) (z := 1) Tryz.underlying66 h hm hb 0 _ rfl ⟨rfl, rfl⟩ kf (hY Tryz.underlying9)
  obtain ⟨v1, r1, x1⟩ := D3 (n := n) (e := 30) (o := 1) (z := 1) Tryz.underlying66 h hm hb 1 _ rfl ⟨rfl, rfl⟩ lX (AF enc w n)
  obtain ⟨v2, r2, x2⟩ := D3 (n := n) (e := 3) (o := 2) (z := 1) Tryz.underlying66 h hm hb 2 _ rfl ⟨rfl, rfl⟩ dj (aW Tryz.underlying3)
  obtain ⟨v3, r3, x3⟩ := D3 (n := n) (e := 3) (o := 3) (z := 1) Tryz.underlying66 h hm hb 3 _ rfl ⟨rfl, rfl⟩ dj (aW Tryz.underlying3)
  obtain ⟨v4, r4, x4⟩ := D3 (n := n) (e := 64) (o := 4) (z := 6) Tryz.underlying66 h hm hb 4 _ rfl ⟨rfl, rfl⟩ lY (CP enc w n)
  have key : Rd w (cs.drop 0) _ := (K5 r0 (by first | rfl | (cases v0; rfl)) (K5 r1 (by first | rfl | (cases v1; rfl)) (K5 r2 (by first | rfl | (cases v2; rfl)) (K5 r3 (by first | rfl | (cases v3; rfl)) (K5 r4 (by first | rfl | (cases v4; rfl)) (jI hl))))))
  refine ⟨u6.mk v0 v1 v2 v3 v4, ?_, ?_⟩
  ·rw [List.drop_zero] at key
   first | exact key | (rw [u6.E1]; exact key) | (simp only [y5.E1, w5.E1] at key; exact key) | (rw [u6.E1]; simp only [y5.E1, w5.E1] at key; exact key)
  ·exact ⟨x1, x4⟩
theorem AJ : Tryz.prog.cellsOf 27 = 1 := by kernel_rfl
theorem uf : Tryz.prog.cellsOf 76 = 9 := by kernel_rfl
theorem Gk {H : Type} (enc : TypeId × Value → H) (w : World) : ∀ n, Opens enc Tryz.prog w 76 w9.cells (GZ) n := by
 intro n
 induction n with
 | zero => exact Opens.zero
 | succ n ih =>
  intro m hm cs x h hb
  have hl := X1 Tryz.underlying76 h
  rw [uf] at hl
  obtain ⟨v0, r0, x0⟩ := D3 (n := n) (e := 9) (o := 0) (z := 1) Tryz.underlying76 h hm hb 0 _ rfl ⟨rfl, rfl⟩ kf (hY Tryz.underlying9)
  obtain ⟨v1, r1, x1⟩ := D3 (n := n) (e := 30) (o := 1) (z := 1) Tryz.underlying76 h hm hb 1 _ rfl ⟨rfl, rfl⟩ lX (AF enc w n)
  obtain ⟨v2, r2, x2⟩ := D3 (n := n) (e := 3) (o := 2) (z := 1) Tryz.underlying76 h hm hb 2 _ rfl ⟨rfl, rfl⟩ dj (aW Tryz.underlying3)
  obtain ⟨v3, r3, x3⟩ := D3 (n := n) (e := 64) (o := 3) (z := 6) Tryz.underlying76 h hm hb 3 _ rfl ⟨rfl, rfl⟩ lY (CP enc w n)
  have key : Rd w (cs.drop 0) _ := (K5 r0 (by first | rfl | (cases v0; rfl)) (K5 r1 (by first | rfl | (cases v1; rfl)) (K5 r2 (by first | rfl | (cases v2; rfl)) (K5 r3 (by first | rfl | (cases v3; rfl)) (jI hl)))))
  refine ⟨w9.mk v0 v1 v2 v3, ?_, ?_⟩
  ·rw [List.drop_zero] at key
   first | exact key | (rw [w9.E1]; exact key) | (simp only [y5.E1, w5.E1] at key; exact key) | (rw [w9.E1]; simp only [y5.E1, w5.E1] at key; exact key)
  ·exact ⟨x0, x1, x3⟩
theorem CM {H : Type} (enc : TypeId × Value → H) (w : World) : ∀ n, Opens enc Tryz.prog w 32 x7.cells (yx) n := by
 intro n
 induction n with
 | zero => exact Opens.zero
 | succ n ih =>
  intro m hm cs x h hb
  have hl := X1 Tryz.underlying32 h
  rw [Ax] at hl
  obtain ⟨v0, r0, x0⟩ := D3 (n := n) (e := 25) (o := 0) (z := 2) Tryz.underlying32 h hm hb 0 _ rfl ⟨rfl, rfl⟩ tZ (Gh enc w n)
  obtain ⟨v1, r1, x1⟩ := D3 (n := n) (e := 26) (o := 2) (z := 1) Tryz.underlying32 h hm hb 1 _ rfl ⟨rfl, rfl⟩ AB ((Y9 (b := 152) Tryz.underlying26 ud (by decide) (by decide) (by decide) (fun v => by first | rfl | (cases v; rfl)) (Gj enc w n)).le (Nat.le_succ _))
  obtain ⟨v2, r2, x2⟩ := D3 (n := n) (e := 27) (o := 3) (z := 1) Tryz.underlying32 h hm hb 2 _ rfl ⟨rfl, rfl⟩ AJ ((Y9 (b := 144) Tryz.underlying27 uf (by decide) (by decide) (by decide) (fun v => by first | rfl | (cases v; rfl)) (Gk enc w n)).le (Nat.le_succ _))
  obtain ⟨v3, r3, x3⟩ := D3 (n := n) (e := 30) (o := 4) (z := 1) Tryz.underlying32 h hm hb 3 _ rfl ⟨rfl, rfl⟩ lX (AF enc w n)
  have key : Rd w (cs.drop 0) _ := (K5 r0 (by first | rfl | (cases v0; rfl)) (K5 r1 (by first | rfl | (cases v1; rfl)) (K5 r2 (by first | rfl | (cases v2; rfl)) (K5 r3 (by first | rfl | (cases v3; rfl)) (jI hl)))))
  refine ⟨x7.mk v0 v1 v2 v3, ?_, ?_⟩
  ·rw [List.drop_zero] at key
   first | exact key | (rw [x7.E1]; exact key) | (simp only [w4.E1, y5.E1] at key; exact key) | (rw [x7.E1]; simp only [w4.E1, y5.E1] at key; exact key)
  ·exact ⟨x0, x3, x1.2, x2.2⟩
end Go.Proofs.YtaohdfpcdfbnlaaGreatDoor
