import Derived.KernelRfl
import Derived.Test.YtaohdfpcdfbnlaaGreatDoorRead
import Derived.Test.YtaohdfpcdfbnlaaGreatDoorDiff2
set_option linter.unusedVariables false
set_option linter.unusedSimpArgs false
namespace Go.Proofs.YtaohdfpcdfbnlaaGreatDoor
open Go Go.Am
theorem AO : Tryz.prog.cellsOf 32 = 5 := by kernel_rfl
theorem uD : Tryz.prog.cellsOf 25 = 2 := by kernel_rfl
theorem AP : Tryz.prog.cellsOf 22 = 1 := by kernel_rfl
theorem rz : Tryz.prog.cellsOf 121 = 2 := by kernel_rfl
theorem ku : Tryz.prog.cellsOf 9 = 1 := by kernel_rfl
theorem AU : Tryz.prog.cellsOf 88 = 1 := by kernel_rfl
theorem dy : Tryz.prog.cellsOf 3 = 1 := by kernel_rfl
theorem DX {H : Type} (enc : TypeId × Value → H) (w : World) : ∀ n, Opens enc Tryz.prog w 121 w7.cells (fun _ => True) n := by
 intro n
 induction n with
 | zero => exact Opens.zero
 | succ n ih =>
  intro m hm cs x h hb
  have hl := X7 Tryz.underlying121 h
  rw [rz] at hl
  obtain ⟨v0, r0, x0⟩ := D3 (n := n) (e := 9) (o := 0) (z := 1) Tryz.underlying121 h hm hb 0 _ rfl ⟨rfl, rfl⟩ ku (iB Tryz.underlying9)
  obtain ⟨v1, r1, x1⟩ := D3 (n := n) (e := 88) (o := 1) (z := 1) Tryz.underlying121 h hm hb 1 _ rfl ⟨rfl, rfl⟩ AU ((Z5 (b := 8) Tryz.underlying88 dy (by decide) (by decide) (by decide) (fun v => by first | rfl | (cases v; rfl)) (aZ Tryz.underlying3)).le (Nat.le_succ _))
  have key : Rd w (cs.drop 0) _ := (K6 r0 (by first | rfl | (cases v0; rfl)) (K6 r1 (by first | rfl | (cases v1; rfl)) (jQ hl)))
  refine ⟨w7.mk v0 v1, ?_, ?_⟩
  ·rw [List.drop_zero] at key
   first | exact key | (rw [w7.E1]; exact key)
  ·trivial
theorem AV : Tryz.prog.cellsOf 23 = 1 := by kernel_rfl
theorem uE : Tryz.prog.cellsOf 90 = 3 := by kernel_rfl
theorem Gq {H : Type} (enc : TypeId × Value → H) (w : World) : ∀ n, Opens enc Tryz.prog w 90 x9.cells (fun _ => True) n := by
 intro n
 induction n with
 | zero => exact Opens.zero
 | succ n ih =>
  intro m hm cs x h hb
  have hl := X7 Tryz.underlying90 h
  rw [uE] at hl
  obtain ⟨v0, r0, x0⟩ := D3 (n := n) (e := 9) (o := 0) (z := 1) Tryz.underlying90 h hm hb 0 _ rfl ⟨rfl, rfl⟩ ku (iB Tryz.underlying9)
  obtain ⟨v1, r1, x1⟩ := D3 (n := n) (e := 3) (o := 1) (z := 1) Tryz.underlying90 h hm hb 1 _ rfl ⟨rfl, rfl⟩ dy (aZ Tryz.underlying3)
  obtain ⟨v2, r2, x2⟩ := D3 (n := n) (e := 3) (o := 2) (z := 1) Tryz.underlying90 h hm hb 2 _ rfl ⟨rfl, rfl⟩ dy (aZ Tryz.underlying3)
  have key : Rd w (cs.drop 0) _ := (K6 r0 (by first | rfl | (cases v0; rfl)) (K6 r1 (by first | rfl | (cases v1; rfl)) (K6 r2 (by first | rfl | (cases v2; rfl)) (jQ hl))))
  refine ⟨x9.mk v0 v1 v2, ?_, ?_⟩
  ·rw [List.drop_zero] at key
   first | exact key | (rw [x9.E1]; exact key)
  ·trivial
theorem Gr {H : Type} (enc : TypeId × Value → H) (w : World) : ∀ n, Opens enc Tryz.prog w 25 w4.cells (fun v => v.types.length ≤ 1048576) n := by
 intro n
 induction n with
 | zero => exact Opens.zero
 | succ n ih =>
  intro m hm cs x h hb
  have hl := X7 Tryz.underlying25 h
  rw [uD] at hl
  obtain ⟨v0, r0, x0⟩ := D3 (n := n) (e := 22) (o := 0) (z := 1) Tryz.underlying25 h hm hb 0 _ rfl ⟨rfl, rfl⟩ AP ((Z5 (b := 40) Tryz.underlying22 rz (by decide) (by decide) (by decide) (fun v => by first | rfl | (cases v; rfl)) (DX enc w n)).le (Nat.le_succ _))
  obtain ⟨v1, r1, x1⟩ := D3 (n := n) (e := 23) (o := 1) (z := 1) Tryz.underlying25 h hm hb 1 _ rfl ⟨rfl, rfl⟩ AV ((Z5 (b := 32) Tryz.underlying23 uE (by decide) (by decide) (by decide) (fun v => by first | rfl | (cases v; rfl)) (Gq enc w n)).le (Nat.le_succ _))
  have key : Rd w (cs.drop 0) _ := (K6 r0 (by first | rfl | (cases v0; rfl)) (K6 r1 (by first | rfl | (cases v1; rfl)) (jQ hl)))
  refine ⟨w4.mk v0 v1, ?_, ?_⟩
  ·rw [List.drop_zero] at key
   first | exact key | (rw [w4.E1]; exact key)
  ·exact x0.1
theorem AW : Tryz.prog.cellsOf 26 = 1 := by kernel_rfl
theorem uF : Tryz.prog.cellsOf 66 = 10 := by kernel_rfl
theorem mq : Tryz.prog.cellsOf 30 = 1 := by kernel_rfl
theorem AX : Tryz.prog.cellsOf 28 = 1 := by kernel_rfl
theorem rA : Tryz.prog.cellsOf 130 = 2 := by kernel_rfl
theorem yS : Tryz.prog.cellsOf 128 = 1 := by kernel_rfl
theorem rB : Tryz.prog.cellsOf 133 = 2 := by kernel_rfl
theorem DY {H : Type} (enc : TypeId × Value → H) (w : World) : ∀ n, Opens enc Tryz.prog w 133 D8.cells (fun _ => True) n := by
 intro n
 induction n with
 | zero => exact Opens.zero
 | succ n ih =>
  intro m hm cs x h hb
  have hl := X7 Tryz.underlying133 h
  rw [rB] at hl
  obtain ⟨v0, r0, x0⟩ := D3 (n := n) (e := 3) (o := 0) (z := 1) Tryz.underlying133 h hm hb 0 _ rfl ⟨rfl, rfl⟩ dy (aZ Tryz.underlying3)
  obtain ⟨v1, r1, x1⟩ := D3 (n := n) (e := 3) (o := 1) (z := 1) Tryz.underlying133 h hm hb 1 _ rfl ⟨rfl, rfl⟩ dy (aZ Tryz.underlying3)
  have key : Rd w (cs.drop 0) _ := (K6 r0 (by first | rfl | (cases v0; rfl)) (K6 r1 (by first | rfl | (cases v1; rfl)) (jQ hl)))
  refine ⟨D8.mk v0 v1, ?_, ?_⟩
  ·rw [List.drop_zero] at key
   first | exact key | (rw [D8.E1]; exact key)
  ·trivial
theorem DZ {H : Type} (enc : TypeId × Value → H) (w : World) : ∀ n, Opens enc Tryz.prog w 130 w8.cells (fun _ => True) n := by
 intro n
 induction n with
 | zero => exact Opens.zero
 | succ n ih =>
  intro m hm cs x h hb
  have hl := X7 Tryz.underlying130 h
  rw [rA] at hl
  obtain ⟨v0, r0, x0⟩ := D3 (n := n) (e := 3) (o := 0) (z := 1) Tryz.underlying130 h hm hb 0 _ rfl ⟨rfl, rfl⟩ dy (aZ Tryz.underlying3)
  obtain ⟨v1, r1, x1⟩ := D3 (n := n) (e := 128) (o := 1) (z := 1) Tryz.underlying130 h hm hb 1 _ rfl ⟨rfl, rfl⟩ yS ((Z5 (b := 16) Tryz.underlying128 rB (by decide) (by decide) (by decide) (fun v => by first | rfl | (cases v; rfl)) (DY enc w n)).le (Nat.le_succ _))
  have key : Rd w (cs.drop 0) _ := (K6 r0 (by first | rfl | (cases v0; rfl)) (K6 r1 (by first | rfl | (cases v1; rfl)) (jQ hl)))
  refine ⟨w8.mk v0 v1, ?_, ?_⟩
  ·rw [List.drop_zero] at key
   first | exact key | (rw [w8.E1]; exact key)
  ·trivial
theorem AY {H : Type} (enc : TypeId × Value → H) (w : World) : ∀ n, Opens enc Tryz.prog w 30 y5.cells (fun v => v.nodes.length ≤ 1048576) n := by
 intro n
 induction n with
 | zero => exact Opens.zero
 | succ n ih =>
  intro m hm cs x h hb
  have hl := X7 Tryz.underlying30 h
  rw [mq] at hl
  obtain ⟨v0, r0, x0⟩ := D3 (n := n) (e := 28) (o := 0) (z := 1) Tryz.underlying30 h hm hb 0 _ rfl ⟨rfl, rfl⟩ AX ((Z5 (b := 32) Tryz.underlying28 rA (by decide) (by decide) (by decide) (fun v => by first | rfl | (cases v; rfl)) (DZ enc w n)).le (Nat.le_succ _))
  have key : Rd w (cs.drop 0) _ := (K6 r0 (by first | rfl | (cases v0; rfl)) (jQ hl))
  refine ⟨y5.mk v0, ?_, ?_⟩
  ·rw [List.drop_zero] at key
   first | exact key | (rw [y5.E1]; exact key)
  ·exact x0.1
theorem mw : Tryz.prog.cellsOf 64 = 6 := by kernel_rfl
theorem pW : Tryz.prog.cellsOf 61 = 2 := by kernel_rfl
theorem AZ : Tryz.prog.cellsOf 59 = 1 := by kernel_rfl
theorem Gs {H : Type} (enc : TypeId × Value → H) (w : World) : ∀ n, Opens enc Tryz.prog w 61 u0.cells (pR) n := by
 intro n
 induction n with
 | zero => exact Opens.zero
 | succ n ih =>
  intro m hm cs x h hb
  have hl := X7 Tryz.underlying61 h
  rw [pW] at hl
  obtain ⟨v0, r0, x0⟩ := D3 (n := n) (e := 9) (o := 0) (z := 1) Tryz.underlying61 h hm hb 0 _ rfl ⟨rfl, rfl⟩ ku (iB Tryz.underlying9)
  obtain ⟨v1, r1, x1⟩ := D3 (n := n) (e := 59) (o := 1) (z := 1) Tryz.underlying61 h hm hb 1 _ rfl ⟨rfl, rfl⟩ AZ ((Z5 (b := 40) Tryz.underlying59 pW (by decide) (by decide) (by decide) (fun v => by first | rfl | (cases v; rfl)) ih).le (Nat.le_succ _))
  have key : Rd w (cs.drop 0) _ := (K6 r0 (by first | rfl | (cases v0; rfl)) (K6 r1 (by first | rfl | (cases v1; rfl)) (jQ hl)))
  refine ⟨u0.mk v0 v1, ?_, ?_⟩
  ·rw [List.drop_zero] at key
   first | exact key | (rw [u0.E1]; exact key)
  ·exact .mk _ x1.1 (fun k hk => x1.2 _ (get_mem hk))
theorem Ba : Tryz.prog.cellsOf 62 = 1 := by kernel_rfl
theorem CW {H : Type} (enc : TypeId × Value → H) (w : World) : ∀ n, Opens enc Tryz.prog w 64 w5.cells (yM) n := by
 intro n
 induction n with
 | zero => exact Opens.zero
 | succ n ih =>
  intro m hm cs x h hb
  have hl := X7 Tryz.underlying64 h
  rw [mw] at hl
  obtain ⟨v0, r0, x0⟩ := D3 (n := n) (e := 3) (o := 0) (z := 1) Tryz.underlying64 h hm hb 0 _ rfl ⟨rfl, rfl⟩ dy (aZ Tryz.underlying3)
  obtain ⟨v1, r1, x1⟩ := D3 (n := n) (e := 9) (o := 1) (z := 1) Tryz.underlying64 h hm hb 1 _ rfl ⟨rfl, rfl⟩ ku (iB Tryz.underlying9)
  obtain ⟨v2, r2, x2⟩ := D3 (n := n) (e := 3) (o := 2) (z := 1) Tryz.underlying64 h hm hb 2 _ rfl ⟨rfl, rfl⟩ dy (aZ Tryz.underlying3)
  obtain ⟨v3, r3, x3⟩ := D3 (n := n) (e := 61) (o := 3) (z := 2) Tryz.underlying64 h hm hb 3 _ rfl ⟨rfl, rfl⟩ pW (Gs enc w n)
  obtain ⟨v4, r4, x4⟩ := D3 (n := n) (e := 62) (o := 5) (z := 1) Tryz.underlying64 h hm hb 4 _ rfl ⟨rfl, rfl⟩ Ba ((Z5 (b := 96) Tryz.underlying62 mw (by decide) (by decide) (by decide) (fun v => by first | rfl | (cases v; rfl)) ih).le (Nat.le_succ _))
  have key : Rd w (cs.drop 0) _ := (K6 r0 (by first | rfl | (cases v0; rfl)) (K6 r1 (by first | rfl | (cases v1; rfl)) (K6 r2 (by first | rfl | (cases v2; rfl)) (K6 r3 (by first | rfl | (cases v3; rfl)) (K6 r4 (by first | rfl | (cases v4; rfl)) (jQ hl))))))
  refine ⟨w5.mk v0 v1 v2 v3 v4, ?_, ?_⟩
  ·rw [List.drop_zero] at key
   first | exact key | (rw [w5.E1]; exact key) | (simp only [u0.E1] at key; exact key) | (rw [w5.E1]; simp only [u0.E1] at key; exact key)
  ·exact .mk _ x3 x4.1 (fun k hk => x4.2 _ (get_mem hk))
theorem Gt {H : Type} (enc : TypeId × Value → H) (w : World) : ∀ n, Opens enc Tryz.prog w 66 u6.cells (Cp) n := by
 intro n
 induction n with
 | zero => exact Opens.zero
 | succ n ih =>
  intro m hm cs x h hb
  have hl := X7 Tryz.underlying66 h
  rw [uF] at hl
  obtain ⟨v0, r0, x0⟩ := D3 (n := n) (e := 9) (o := 0) (z := 1) Tryz.underlying66 h hm hb 0 _ rfl ⟨rfl, rfl⟩ ku (iB Tryz.underlying9)
  obtain ⟨v1, r1, x1⟩ := D3 (n := n) (e := 30) (o := 1) (z := 1) Tryz.underlying66 h hm hb 1 _ rfl ⟨rfl, rfl⟩ mq (AY enc w n)
  obtain ⟨v2, r2, x2⟩ := D3 (n := n) (e := 3) (o := 2) (z := 1) Tryz.underlying66 h hm hb 2 _ rfl ⟨rfl, rfl⟩ dy (aZ Tryz.underlying3)
  obtain ⟨v3, r3, x3⟩ := D3 (n := n) (e := 3) (o := 3) (z := 1) Tryz.underlying66 h hm hb 3 _ rfl ⟨rfl, rfl⟩ dy (aZ Tryz.underlying3)
  obtain ⟨v4, r4, x4⟩ := D3 (n := n) (e := 64) (o := 4) (z := 6) Tryz.underlying66 h hm hb 4 _ rfl ⟨rfl, rfl⟩ mw (CW enc w n)
  have key : Rd w (cs.drop 0) _ := (K6 r0 (by first | rfl | (cases v0; rfl)) (K6 r1 (by first | rfl | (cases v1; rfl)) (K6 r2 (by first | rfl | (cases v2; rfl)) (K6 r3 (by first | rfl | (cases v3; rfl)) (K6 r4 (by first | rfl | (cases v4; rfl)) (jQ hl))))))
  refine ⟨u6.mk v0 v1 v2 v3 v4, ?_, ?_⟩
  ·rw [List.drop_zero] at key
   first | exact key | (rw [u6.E1]; exact key) | (simp only [y5.E1, w5.E1] at key; exact key) | (rw [u6.E1]; simp only [y5.E1, w5.E1] at key; exact key)
  ·exact ⟨x1, x4⟩
theorem Bb : Tryz.prog.cellsOf 27 = 1 := by kernel_rfl
theorem uG : Tryz.prog.cellsOf 76 = 9 := by kernel_rfl
theorem Gu {H : Type} (enc : TypeId × Value → H) (w : World) : ∀ n, Opens enc Tryz.prog w 76 w9.cells (Hq) n := by
 intro n
 induction n with
 | zero => exact Opens.zero
 | succ n ih =>
  intro m hm cs x h hb
  have hl := X7 Tryz.underlying76 h
  rw [uG] at hl
  obtain ⟨v0, r0, x0⟩ := D3 (n := n) (e := 9) (o := 0) (z := 1) Tryz.underlying76 h hm hb 0 _ rfl ⟨rfl, rfl⟩ ku (iB Tryz.underlying9)
  obtain ⟨v1, r1, x1⟩ := D3 (n := n) (e := 30) (o := 1) (z := 1) Tryz.underlying76 h hm hb 1 _ rfl ⟨rfl, rfl⟩ mq (AY enc w n)
  obtain ⟨v2, r2, x2⟩ := D3 (n := n) (e := 3) (o := 2) (z := 1) Tryz.underlying76 h hm hb 2 _ rfl ⟨rfl, rfl⟩ dy (aZ Tryz.underlying3)
  obtain ⟨v3, r3, x3⟩ := D3 (n := n) (e := 64) (o := 3) (z := 6) Tryz.underlying76 h hm hb 3 _ rfl ⟨rfl, rfl⟩ mw (CW enc w n)
  have key : Rd w (cs.drop 0) _ := (K6 r0 (by first | rfl | (cases v0; rfl)) (K6 r1 (by first | rfl | (cases v1; rfl)) (K6 r2 (by first | rfl | (cases v2; rfl)) (K6 r3 (by first | rfl | (cases v3; rfl)) (jQ hl)))))
  refine ⟨w9.mk v0 v1 v2 v3, ?_, ?_⟩
  ·rw [List.drop_zero] at key
   first | exact key | (rw [w9.E1]; exact key) | (simp only [y5.E1, w5.E1] at key; exact key) | (rw [w9.E1]; simp only [y5.E1, w5.E1] at key; exact key)
  ·exact ⟨x0, x1, x3⟩
theorem tT {H : Type} (enc : TypeId × Value → H) (w : World) : ∀ n, Opens enc Tryz.prog w 32 x5.cells (sC) n := by
 intro n
 induction n with
 | zero => exact Opens.zero
 | succ n ih =>
  intro m hm cs x h hb
  have hl := X7 Tryz.underlying32 h
  rw [AO] at hl
  obtain ⟨v0, r0, x0⟩ := D3 (n := n) (e := 25) (o := 0) (z := 2) Tryz.underlying32 h hm hb 0 _ rfl ⟨rfl, rfl⟩ uD (Gr enc w n)
  obtain ⟨v1, r1, x1⟩ := D3 (n := n) (e := 26) (o := 2) (z := 1) Tryz.underlying32 h hm hb 1 _ rfl ⟨rfl, rfl⟩ AW ((Z5 (b := 152) Tryz.underlying26 uF (by decide) (by decide) (by decide) (fun v => by first | rfl | (cases v; rfl)) (Gt enc w n)).le (Nat.le_succ _))
  obtain ⟨v2, r2, x2⟩ := D3 (n := n) (e := 27) (o := 3) (z := 1) Tryz.underlying32 h hm hb 2 _ rfl ⟨rfl, rfl⟩ Bb ((Z5 (b := 144) Tryz.underlying27 uG (by decide) (by decide) (by decide) (fun v => by first | rfl | (cases v; rfl)) (Gu enc w n)).le (Nat.le_succ _))
  obtain ⟨v3, r3, x3⟩ := D3 (n := n) (e := 30) (o := 4) (z := 1) Tryz.underlying32 h hm hb 3 _ rfl ⟨rfl, rfl⟩ mq (AY enc w n)
  have key : Rd w (cs.drop 0) _ := (K6 r0 (by first | rfl | (cases v0; rfl)) (K6 r1 (by first | rfl | (cases v1; rfl)) (K6 r2 (by first | rfl | (cases v2; rfl)) (K6 r3 (by first | rfl | (cases v3; rfl)) (jQ hl)))))
  refine ⟨x5.mk v0 v1 v2 v3, ?_, ?_⟩
  ·rw [List.drop_zero] at key
   first | exact key | (rw [x5.E1]; exact key) | (simp only [w4.E1, y5.E1] at key; exact key) | (rw [x5.E1]; simp only [w4.E1, y5.E1] at key; exact key)
  ·exact ⟨x0, x3, x1.2, x2.2⟩
end Go.Proofs.YtaohdfpcdfbnlaaGreatDoor
