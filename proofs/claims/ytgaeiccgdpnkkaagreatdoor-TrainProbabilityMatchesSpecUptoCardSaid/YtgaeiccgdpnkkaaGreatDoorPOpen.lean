import Derived.KernelRfl
import Derived.Test.YtgaeiccgdpnkkaaGreatDoorPRead
import Derived.Test.YtgaeiccgdpnkkaaGreatDoorPLaw2
set_option linter.unusedVariables false
set_option linter.unusedSimpArgs false
namespace Go.Proofs.YtgaeiccgdpnkkaaGreatDoor
open Go Go.Am
theorem p3h : Tryz.prog.cellsOf 32 = 5 := by kernel_rfl
theorem i8s : Tryz.prog.cellsOf 25 = 2 := by kernel_rfl
theorem p3i : Tryz.prog.cellsOf 22 = 1 := by kernel_rfl
theorem i6n : Tryz.prog.cellsOf 204 = 2 := by kernel_rfl
theorem i0V : Tryz.prog.cellsOf 9 = 1 := by kernel_rfl
theorem i5l : Tryz.prog.cellsOf 60 = 1 := by kernel_rfl
theorem d4z : Tryz.prog.cellsOf 3 = 1 := by kernel_rfl
theorem p6R {H : Type} (enc : TypeId × Value → H) (w : World) : ∀ n, Opens enc Tryz.prog w 204 Yl.cells (fun _ => True) n := by
 intro n
 induction n with
 | zero => exact Opens.zero
 | succ n ih =>
  intro m hm cs x h hb
  have hl := d3d Tryz.underlying204 h
  rw [i6n] at hl
  obtain ⟨v0, r0, x0⟩ := YP (n := n) (e := 9) (o := 0) (z := 1) Tryz.underlying204 h hm hb 0 _ rfl ⟨rfl, rfl⟩ i0V (d9x Tryz.underlying9)
  obtain ⟨v1, r1, x1⟩ := YP (n := n) (e := 60) (o := 1) (z := 1) Tryz.underlying204 h hm hb 1 _ rfl ⟨rfl, rfl⟩ i5l ((d2K (b := 8) Tryz.underlying60 d4z (by decide) (by decide) (by decide) (fun v => by first | rfl | (cases v; rfl)) (d3n Tryz.underlying3)).le (Nat.le_succ _))
  have key : Rd w (cs.drop 0) _ := (d0r r0 (by first | rfl | (cases v0; rfl)) (d0r r1 (by first | rfl | (cases v1; rfl)) (d9y hl)))
  refine ⟨Yl.mk v0 v1, ?_, ?_⟩
  ·rw [List.drop_zero] at key
   first | exact key | (rw [Yl.YW]; exact key)
  ·trivial
theorem p3j : Tryz.prog.cellsOf 23 = 1 := by kernel_rfl
theorem i6o : Tryz.prog.cellsOf 183 = 3 := by kernel_rfl
theorem p6S {H : Type} (enc : TypeId × Value → H) (w : World) : ∀ n, Opens enc Tryz.prog w 183 Yw.cells (fun _ => True) n := by
 intro n
 induction n with
 | zero => exact Opens.zero
 | succ n ih =>
  intro m hm cs x h hb
  have hl := d3d Tryz.underlying183 h
  rw [i6o] at hl
  obtain ⟨v0, r0, x0⟩ := YP (n := n) (e := 9) (o := 0) (z := 1) Tryz.underlying183 h hm hb 0 _ rfl ⟨rfl, rfl⟩ i0V (d9x Tryz.underlying9)
  obtain ⟨v1, r1, x1⟩ := YP (n := n) (e := 3) (o := 1) (z := 1) Tryz.underlying183 h hm hb 1 _ rfl ⟨rfl, rfl⟩ d4z (d3n Tryz.underlying3)
  obtain ⟨v2, r2, x2⟩ := YP (n := n) (e := 3) (o := 2) (z := 1) Tryz.underlying183 h hm hb 2 _ rfl ⟨rfl, rfl⟩ d4z (d3n Tryz.underlying3)
  have key : Rd w (cs.drop 0) _ := (d0r r0 (by first | rfl | (cases v0; rfl)) (d0r r1 (by first | rfl | (cases v1; rfl)) (d0r r2 (by first | rfl | (cases v2; rfl)) (d9y hl))))
  refine ⟨Yw.mk v0 v1 v2, ?_, ?_⟩
  ·rw [List.drop_zero] at key
   first | exact key | (rw [Yw.YW]; exact key)
  ·trivial
theorem p9w {H : Type} (enc : TypeId × Value → H) (w : World) : ∀ n, Opens enc Tryz.prog w 25 Yo.cells (p6L) n := by
 intro n
 induction n with
 | zero => exact Opens.zero
 | succ n ih =>
  intro m hm cs x h hb
  have hl := d3d Tryz.underlying25 h
  rw [i8s] at hl
  obtain ⟨v0, r0, x0⟩ := YP (n := n) (e := 22) (o := 0) (z := 1) Tryz.underlying25 h hm hb 0 _ rfl ⟨rfl, rfl⟩ p3i ((d2K (b := 40) Tryz.underlying22 i6n (by decide) (by decide) (by decide) (fun v => by first | rfl | (cases v; rfl)) (p6R enc w n)).le (Nat.le_succ _))
  obtain ⟨v1, r1, x1⟩ := YP (n := n) (e := 23) (o := 1) (z := 1) Tryz.underlying25 h hm hb 1 _ rfl ⟨rfl, rfl⟩ p3j ((d2K (b := 32) Tryz.underlying23 i6o (by decide) (by decide) (by decide) (fun v => by first | rfl | (cases v; rfl)) (p6S enc w n)).le (Nat.le_succ _))
  have key : Rd w (cs.drop 0) _ := (d0r r0 (by first | rfl | (cases v0; rfl)) (d0r r1 (by first | rfl | (cases v1; rfl)) (d9y hl)))
  refine ⟨Yo.mk v0 v1, ?_, ?_⟩
  ·rw [List.drop_zero] at key
   first | exact key | (rw [Yo.YW]; exact key)
  ·exact ⟨x0.1⟩
theorem p3k : Tryz.prog.cellsOf 26 = 1 := by kernel_rfl
theorem i6p : Tryz.prog.cellsOf 124 = 10 := by kernel_rfl
theorem i2u : Tryz.prog.cellsOf 30 = 1 := by kernel_rfl
theorem p3l : Tryz.prog.cellsOf 28 = 1 := by kernel_rfl
theorem i6q : Tryz.prog.cellsOf 163 = 2 := by kernel_rfl
theorem p1n : Tryz.prog.cellsOf 161 = 1 := by kernel_rfl
theorem i6r : Tryz.prog.cellsOf 212 = 2 := by kernel_rfl
theorem p6T {H : Type} (enc : TypeId × Value → H) (w : World) : ∀ n, Opens enc Tryz.prog w 212 Zh.cells (fun _ => True) n := by
 intro n
 induction n with
 | zero => exact Opens.zero
 | succ n ih =>
  intro m hm cs x h hb
  have hl := d3d Tryz.underlying212 h
  rw [i6r] at hl
  obtain ⟨v0, r0, x0⟩ := YP (n := n) (e := 3) (o := 0) (z := 1) Tryz.underlying212 h hm hb 0 _ rfl ⟨rfl, rfl⟩ d4z (d3n Tryz.underlying3)
  obtain ⟨v1, r1, x1⟩ := YP (n := n) (e := 3) (o := 1) (z := 1) Tryz.underlying212 h hm hb 1 _ rfl ⟨rfl, rfl⟩ d4z (d3n Tryz.underlying3)
  have key : Rd w (cs.drop 0) _ := (d0r r0 (by first | rfl | (cases v0; rfl)) (d0r r1 (by first | rfl | (cases v1; rfl)) (d9y hl)))
  refine ⟨Zh.mk v0 v1, ?_, ?_⟩
  ·rw [List.drop_zero] at key
   first | exact key | (rw [Zh.YW]; exact key)
  ·trivial
theorem p6U {H : Type} (enc : TypeId × Value → H) (w : World) : ∀ n, Opens enc Tryz.prog w 163 Yq.cells (fun v => v.links.length ≤ 1048576) n := by
 intro n
 induction n with
 | zero => exact Opens.zero
 | succ n ih =>
  intro m hm cs x h hb
  have hl := d3d Tryz.underlying163 h
  rw [i6q] at hl
  obtain ⟨v0, r0, x0⟩ := YP (n := n) (e := 3) (o := 0) (z := 1) Tryz.underlying163 h hm hb 0 _ rfl ⟨rfl, rfl⟩ d4z (d3n Tryz.underlying3)
  obtain ⟨v1, r1, x1⟩ := YP (n := n) (e := 161) (o := 1) (z := 1) Tryz.underlying163 h hm hb 1 _ rfl ⟨rfl, rfl⟩ p1n ((d2K (b := 16) Tryz.underlying161 i6r (by decide) (by decide) (by decide) (fun v => by first | rfl | (cases v; rfl)) (p6T enc w n)).le (Nat.le_succ _))
  have key : Rd w (cs.drop 0) _ := (d0r r0 (by first | rfl | (cases v0; rfl)) (d0r r1 (by first | rfl | (cases v1; rfl)) (d9y hl)))
  refine ⟨Yq.mk v0 v1, ?_, ?_⟩
  ·rw [List.drop_zero] at key
   first | exact key | (rw [Yq.YW]; exact key)
  ·exact x1.1
theorem p3m {H : Type} (enc : TypeId × Value → H) (w : World) : ∀ n, Opens enc Tryz.prog w 30 Yz.cells (i6m) n := by
 intro n
 induction n with
 | zero => exact Opens.zero
 | succ n ih =>
  intro m hm cs x h hb
  have hl := d3d Tryz.underlying30 h
  rw [i2u] at hl
  obtain ⟨v0, r0, x0⟩ := YP (n := n) (e := 28) (o := 0) (z := 1) Tryz.underlying30 h hm hb 0 _ rfl ⟨rfl, rfl⟩ p3l ((d2K (b := 32) Tryz.underlying28 i6q (by decide) (by decide) (by decide) (fun v => by first | rfl | (cases v; rfl)) (p6U enc w n)).le (Nat.le_succ _))
  have key : Rd w (cs.drop 0) _ := (d0r r0 (by first | rfl | (cases v0; rfl)) (d9y hl))
  refine ⟨Yz.mk v0, ?_, ?_⟩
  ·rw [List.drop_zero] at key
   first | exact key | (rw [Yz.YW]; exact key)
  ·exact ⟨x0.1, x0.2⟩
theorem i0W : Tryz.prog.cellsOf 122 = 6 := by kernel_rfl
theorem i3h : Tryz.prog.cellsOf 119 = 2 := by kernel_rfl
theorem p1o : Tryz.prog.cellsOf 117 = 1 := by kernel_rfl
theorem p6V {H : Type} (enc : TypeId × Value → H) (w : World) : ∀ n, Opens enc Tryz.prog w 119 Ye.cells (i7h) n := by
 intro n
 induction n with
 | zero => exact Opens.zero
 | succ n ih =>
  intro m hm cs x h hb
  have hl := d3d Tryz.underlying119 h
  rw [i3h] at hl
  obtain ⟨v0, r0, x0⟩ := YP (n := n) (e := 9) (o := 0) (z := 1) Tryz.underlying119 h hm hb 0 _ rfl ⟨rfl, rfl⟩ i0V (d9x Tryz.underlying9)
  obtain ⟨v1, r1, x1⟩ := YP (n := n) (e := 117) (o := 1) (z := 1) Tryz.underlying119 h hm hb 1 _ rfl ⟨rfl, rfl⟩ p1o ((d2K (b := 40) Tryz.underlying117 i3h (by decide) (by decide) (by decide) (fun v => by first | rfl | (cases v; rfl)) ih).le (Nat.le_succ _))
  have key : Rd w (cs.drop 0) _ := (d0r r0 (by first | rfl | (cases v0; rfl)) (d0r r1 (by first | rfl | (cases v1; rfl)) (d9y hl)))
  refine ⟨Ye.mk v0 v1, ?_, ?_⟩
  ·rw [List.drop_zero] at key
   first | exact key | (rw [Ye.YW]; exact key)
  ·exact .mk _ x1.1 (fun k hk => x1.2 _ (get_mem hk))
theorem p1p : Tryz.prog.cellsOf 120 = 1 := by kernel_rfl
theorem p3n {H : Type} (enc : TypeId × Value → H) (w : World) : ∀ n, Opens enc Tryz.prog w 122 Yh.cells (p2W) n := by
 intro n
 induction n with
 | zero => exact Opens.zero
 | succ n ih =>
  intro m hm cs x h hb
  have hl := d3d Tryz.underlying122 h
  rw [i0W] at hl
  obtain ⟨v0, r0, x0⟩ := YP (n := n) (e := 3) (o := 0) (z := 1) Tryz.underlying122 h hm hb 0 _ rfl ⟨rfl, rfl⟩ d4z (d3n Tryz.underlying3)
  obtain ⟨v1, r1, x1⟩ := YP (n := n) (e := 9) (o := 1) (z := 1) Tryz.underlying122 h hm hb 1 _ rfl ⟨rfl, rfl⟩ i0V (d9x Tryz.underlying9)
  obtain ⟨v2, r2, x2⟩ := YP (n := n) (e := 3) (o := 2) (z := 1) Tryz.underlying122 h hm hb 2 _ rfl ⟨rfl, rfl⟩ d4z (d3n Tryz.underlying3)
  obtain ⟨v3, r3, x3⟩ := YP (n := n) (e := 119) (o := 3) (z := 2) Tryz.underlying122 h hm hb 3 _ rfl ⟨rfl, rfl⟩ i3h (p6V enc w n)
  obtain ⟨v4, r4, x4⟩ := YP (n := n) (e := 120) (o := 5) (z := 1) Tryz.underlying122 h hm hb 4 _ rfl ⟨rfl, rfl⟩ p1p ((d2K (b := 96) Tryz.underlying120 i0W (by decide) (by decide) (by decide) (fun v => by first | rfl | (cases v; rfl)) ih).le (Nat.le_succ _))
  have key : Rd w (cs.drop 0) _ := (d0r r0 (by first | rfl | (cases v0; rfl)) (d0r r1 (by first | rfl | (cases v1; rfl)) (d0r r2 (by first | rfl | (cases v2; rfl)) (d0r r3 (by first | rfl | (cases v3; rfl)) (d0r r4 (by first | rfl | (cases v4; rfl)) (d9y hl))))))
  refine ⟨Yh.mk v0 v1 v2 v3 v4, ?_, ?_⟩
  ·rw [List.drop_zero] at key
   first | exact key | (rw [Yh.YW]; exact key) | (simp only [Ye.YW] at key; exact key) | (rw [Yh.YW]; simp only [Ye.YW] at key; exact key)
  ·exact .mk _ x3 x4.1 (fun k hk => x4.2 _ (get_mem hk))
theorem p6W {H : Type} (enc : TypeId × Value → H) (w : World) : ∀ n, Opens enc Tryz.prog w 124 Yi.cells (p6K) n := by
 intro n
 induction n with
 | zero => exact Opens.zero
 | succ n ih =>
  intro m hm cs x h hb
  have hl := d3d Tryz.underlying124 h
  rw [i6p] at hl
  obtain ⟨v0, r0, x0⟩ := YP (n := n) (e := 9) (o := 0) (z := 1) Tryz.underlying124 h hm hb 0 _ rfl ⟨rfl, rfl⟩ i0V (d9x Tryz.underlying9)
  obtain ⟨v1, r1, x1⟩ := YP (n := n) (e := 30) (o := 1) (z := 1) Tryz.underlying124 h hm hb 1 _ rfl ⟨rfl, rfl⟩ i2u (p3m enc w n)
  obtain ⟨v2, r2, x2⟩ := YP (n := n) (e := 3) (o := 2) (z := 1) Tryz.underlying124 h hm hb 2 _ rfl ⟨rfl, rfl⟩ d4z (d3n Tryz.underlying3)
  obtain ⟨v3, r3, x3⟩ := YP (n := n) (e := 3) (o := 3) (z := 1) Tryz.underlying124 h hm hb 3 _ rfl ⟨rfl, rfl⟩ d4z (d3n Tryz.underlying3)
  obtain ⟨v4, r4, x4⟩ := YP (n := n) (e := 122) (o := 4) (z := 6) Tryz.underlying124 h hm hb 4 _ rfl ⟨rfl, rfl⟩ i0W (p3n enc w n)
  have key : Rd w (cs.drop 0) _ := (d0r r0 (by first | rfl | (cases v0; rfl)) (d0r r1 (by first | rfl | (cases v1; rfl)) (d0r r2 (by first | rfl | (cases v2; rfl)) (d0r r3 (by first | rfl | (cases v3; rfl)) (d0r r4 (by first | rfl | (cases v4; rfl)) (d9y hl))))))
  refine ⟨Yi.mk v0 v1 v2 v3 v4, ?_, ?_⟩
  ·rw [List.drop_zero] at key
   first | exact key | (rw [Yi.YW]; exact key) | (simp only [Yz.YW, Yh.YW] at key; exact key) | (rw [Yi.YW]; simp only [Yz.YW, Yh.YW] at key; exact key)
  ·exact ⟨x1, x4⟩
theorem p3o : Tryz.prog.cellsOf 27 = 1 := by kernel_rfl
theorem i6s : Tryz.prog.cellsOf 132 = 9 := by kernel_rfl
theorem p6X {H : Type} (enc : TypeId × Value → H) (w : World) : ∀ n, Opens enc Tryz.prog w 132 YT.cells (r1h) n := by
 intro n
 induction n with
 | zero => exact Opens.zero
 | succ n ih =>
  intro m hm cs x h hb
  have hl := d3d Tryz.underlying132 h
  rw [i6s] at hl
  obtain ⟨v0, r0, x0⟩ := YP (n := n) (e := 9) (o := 0) (z := 1) Tryz.underlying132 h hm hb 0 _ rfl ⟨rfl, rfl⟩ i0V (d9x Tryz.underlying9)
  obtain ⟨v1, r1, x1⟩ := YP (n := n) (e := 30) (o := 1) (z := 1) Tryz.underlying132 h hm hb 1 _ rfl ⟨rfl, rfl⟩ i2u (p3m enc w n)
  obtain ⟨v2, r2, x2⟩ := YP (n := n) (e := 3) (o := 2) (z := 1) Tryz.underlying132 h hm hb 2 _ rfl ⟨rfl, rfl⟩ d4z (d3n Tryz.underlying3)
  obtain ⟨v3, r3, x3⟩ := YP (n := n) (e := 122) (o := 3) (z := 6) Tryz.underlying132 h hm hb 3 _ rfl ⟨rfl, rfl⟩ i0W (p3n enc w n)
  have key : Rd w (cs.drop 0) _ := (d0r r0 (by first | rfl | (cases v0; rfl)) (d0r r1 (by first | rfl | (cases v1; rfl)) (d0r r2 (by first | rfl | (cases v2; rfl)) (d0r r3 (by first | rfl | (cases v3; rfl)) (d9y hl)))))
  refine ⟨YT.mk v0 v1 v2 v3, ?_, ?_⟩
  ·rw [List.drop_zero] at key
   first | exact key | (rw [YT.YW]; exact key) | (simp only [Yz.YW, Yh.YW] at key; exact key) | (rw [YT.YW]; simp only [Yz.YW, Yh.YW] at key; exact key)
  ·exact ⟨x0, x1, x3⟩
theorem p8T {H : Type} (enc : TypeId × Value → H) (w : World) : ∀ n, Opens enc Tryz.prog w 32 Yn.cells (p6M) n := by
 intro n
 induction n with
 | zero => exact Opens.zero
 | succ n ih =>
  intro m hm cs x h hb
  have hl := d3d Tryz.underlying32 h
  rw [p3h] at hl
  obtain ⟨v0, r0, x0⟩ := YP (n := n) (e := 25) (o := 0) (z := 2) Tryz.underlying32 h hm hb 0 _ rfl ⟨rfl, rfl⟩ i8s (p9w enc w n)
  obtain ⟨v1, r1, x1⟩ := YP (n := n) (e := 26) (o := 2) (z := 1) Tryz.underlying32 h hm hb 1 _ rfl ⟨rfl, rfl⟩ p3k ((d2K (b := 152) Tryz.underlying26 i6p (by decide) (by decide) (by decide) (fun v => by first | rfl | (cases v; rfl)) (p6W enc w n)).le (Nat.le_succ _))
  obtain ⟨v2, r2, x2⟩ := YP (n := n) (e := 27) (o := 3) (z := 1) Tryz.underlying32 h hm hb 2 _ rfl ⟨rfl, rfl⟩ p3o ((d2K (b := 144) Tryz.underlying27 i6s (by decide) (by decide) (by decide) (fun v => by first | rfl | (cases v; rfl)) (p6X enc w n)).le (Nat.le_succ _))
  obtain ⟨v3, r3, x3⟩ := YP (n := n) (e := 30) (o := 4) (z := 1) Tryz.underlying32 h hm hb 3 _ rfl ⟨rfl, rfl⟩ i2u (p3m enc w n)
  have key : Rd w (cs.drop 0) _ := (d0r r0 (by first | rfl | (cases v0; rfl)) (d0r r1 (by first | rfl | (cases v1; rfl)) (d0r r2 (by first | rfl | (cases v2; rfl)) (d0r r3 (by first | rfl | (cases v3; rfl)) (d9y hl)))))
  refine ⟨Yn.mk v0 v1 v2 v3, ?_, ?_⟩
  ·rw [List.drop_zero] at key
   first | exact key | (rw [Yn.YW]; exact key) | (simp only [Yo.YW, Yz.YW] at key; exact key) | (rw [Yn.YW]; simp only [Yo.YW, Yz.YW] at key; exact key)
  ·exact ⟨x0, x1.1, x2.1, x1.2, x2.2, x3⟩
theorem i8t : Tryz.prog.cellsOf 67 = 3 := by kernel_rfl
theorem p3p : Tryz.prog.cellsOf 59 = 1 := by kernel_rfl
theorem p8V {H : Type} (enc : TypeId × Value → H) (w : World) : ∀ n, Opens enc Tryz.prog w 67 Yr.cells (fun _ => True) n := by
 intro n
 induction n with
 | zero => exact Opens.zero
 | succ n ih =>
  intro m hm cs x h hb
  have hl := d3d Tryz.underlying67 h
  rw [i8t] at hl
  obtain ⟨v0, r0, x0⟩ := YP (n := n) (e := 3) (o := 0) (z := 1) Tryz.underlying67 h hm hb 0 _ rfl ⟨rfl, rfl⟩ d4z (d3n Tryz.underlying3)
  obtain ⟨v1, r1, x1⟩ := YP (n := n) (e := 3) (o := 1) (z := 1) Tryz.underlying67 h hm hb 1 _ rfl ⟨rfl, rfl⟩ d4z (d3n Tryz.underlying3)
  obtain ⟨v2, r2, x2⟩ := YP (n := n) (e := 59) (o := 2) (z := 1) Tryz.underlying67 h hm hb 2 _ rfl ⟨rfl, rfl⟩ p3p ((d2K (b := 40) Tryz.underlying59 i8t (by decide) (by decide) (by decide) (fun v => by first | rfl | (cases v; rfl)) ih).le (Nat.le_succ _))
  have key : Rd w (cs.drop 0) _ := (d0r r0 (by first | rfl | (cases v0; rfl)) (d0r r1 (by first | rfl | (cases v1; rfl)) (d0r r2 (by first | rfl | (cases v2; rfl)) (d9y hl))))
  refine ⟨Yr.mk v0 v1 v2, ?_, ?_⟩
  ·rw [List.drop_zero] at key
   first | exact key | (rw [Yr.YW]; exact key)
  ·trivial
theorem p3q : Tryz.prog.cellsOf 62 = 2 := by kernel_rfl
theorem p8U {H : Type} (enc : TypeId × Value → H) (w : World) : ∀ n, Opens enc Tryz.prog w 62 YH.cells (fun _ => True) n := by
 intro n
 induction n with
 | zero => exact Opens.zero
 | succ n ih =>
  intro m hm cs x h hb
  have hl := d3d Tryz.underlying62 h
  rw [p3q] at hl
  obtain ⟨v0, r0, x0⟩ := YP (n := n) (e := 60) (o := 0) (z := 1) Tryz.underlying62 h hm hb 0 _ rfl ⟨rfl, rfl⟩ i5l ((d2K (b := 8) Tryz.underlying60 d4z (by decide) (by decide) (by decide) (fun v => by first | rfl | (cases v; rfl)) (d3n Tryz.underlying3)).le (Nat.le_succ _))
  obtain ⟨v1, r1, x1⟩ := YP (n := n) (e := 60) (o := 1) (z := 1) Tryz.underlying62 h hm hb 1 _ rfl ⟨rfl, rfl⟩ i5l ((d2K (b := 8) Tryz.underlying60 d4z (by decide) (by decide) (by decide) (fun v => by first | rfl | (cases v; rfl)) (d3n Tryz.underlying3)).le (Nat.le_succ _))
  have key : Rd w (cs.drop 0) _ := (d0r r0 (by first | rfl | (cases v0; rfl)) (d0r r1 (by first | rfl | (cases v1; rfl)) (d9y hl)))
  refine ⟨YH.mk v0 v1, ?_, ?_⟩
  ·rw [List.drop_zero] at key
   first | exact key | (rw [YH.YW]; exact key)
  ·trivial
end Go.Proofs.YtgaeiccgdpnkkaaGreatDoor
