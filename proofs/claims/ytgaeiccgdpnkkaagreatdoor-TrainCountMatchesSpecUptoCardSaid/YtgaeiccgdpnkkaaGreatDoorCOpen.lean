import Derived.KernelRfl
import Derived.Test.YtgaeiccgdpnkkaaGreatDoorCRead
import Derived.Test.YtgaeiccgdpnkkaaGreatDoorCLaw2
set_option linter.unusedVariables false
set_option linter.unusedSimpArgs false
namespace Go.Proofs.YtgaeiccgdpnkkaaGreatDoor
open Go Go.Am
theorem p1y : Tryz.prog.cellsOf 32 = 5 := by kernel_rfl
theorem i6P : Tryz.prog.cellsOf 25 = 2 := by kernel_rfl
theorem p1z : Tryz.prog.cellsOf 22 = 1 := by kernel_rfl
theorem i4N : Tryz.prog.cellsOf 204 = 2 := by kernel_rfl
theorem d9L : Tryz.prog.cellsOf 9 = 1 := by kernel_rfl
theorem p1A : Tryz.prog.cellsOf 60 = 1 := by kernel_rfl
theorem d4D : Tryz.prog.cellsOf 3 = 1 := by kernel_rfl
theorem p4U {H : Type} (enc : TypeId × Value → H) (w : World) : ∀ n, Opens enc Tryz.prog w 204 Yj.cells (fun _ => True) n := by
 intro n
 induction n with
 | zero => exact Opens.zero
 | succ n ih =>
  intro m hm cs x h hb
  have hl := d2O Tryz.underlying204 h
  rw [i4N] at hl
  obtain ⟨v0, r0, x0⟩ := YO (n := n) (e := 9) (o := 0) (z := 1) Tryz.underlying204 h hm hb 0 _ rfl ⟨rfl, rfl⟩ d9L (d8f Tryz.underlying9)
  obtain ⟨v1, r1, x1⟩ := YO (n := n) (e := 60) (o := 1) (z := 1) Tryz.underlying204 h hm hb 1 _ rfl ⟨rfl, rfl⟩ p1A ((d2o (b := 8) Tryz.underlying60 d4D (by decide) (by decide) (by decide) (fun v => by first | rfl | (cases v; rfl)) (d3u Tryz.underlying3)).le (Nat.le_succ _))
  have key : Rd w (cs.drop 0) _ := (d0n r0 (by first | rfl | (cases v0; rfl)) (d0n r1 (by first | rfl | (cases v1; rfl)) (d8S hl)))
  refine ⟨Yj.mk v0 v1, ?_, ?_⟩
  ·rw [List.drop_zero] at key
   first | exact key | (rw [Yj.YV]; exact key)
  ·trivial
theorem p1B : Tryz.prog.cellsOf 23 = 1 := by kernel_rfl
theorem i4O : Tryz.prog.cellsOf 183 = 3 := by kernel_rfl
theorem p4V {H : Type} (enc : TypeId × Value → H) (w : World) : ∀ n, Opens enc Tryz.prog w 183 Yt.cells (fun _ => True) n := by
 intro n
 induction n with
 | zero => exact Opens.zero
 | succ n ih =>
  intro m hm cs x h hb
  have hl := d2O Tryz.underlying183 h
  rw [i4O] at hl
  obtain ⟨v0, r0, x0⟩ := YO (n := n) (e := 9) (o := 0) (z := 1) Tryz.underlying183 h hm hb 0 _ rfl ⟨rfl, rfl⟩ d9L (d8f Tryz.underlying9)
  obtain ⟨v1, r1, x1⟩ := YO (n := n) (e := 3) (o := 1) (z := 1) Tryz.underlying183 h hm hb 1 _ rfl ⟨rfl, rfl⟩ d4D (d3u Tryz.underlying3)
  obtain ⟨v2, r2, x2⟩ := YO (n := n) (e := 3) (o := 2) (z := 1) Tryz.underlying183 h hm hb 2 _ rfl ⟨rfl, rfl⟩ d4D (d3u Tryz.underlying3)
  have key : Rd w (cs.drop 0) _ := (d0n r0 (by first | rfl | (cases v0; rfl)) (d0n r1 (by first | rfl | (cases v1; rfl)) (d0n r2 (by first | rfl | (cases v2; rfl)) (d8S hl))))
  refine ⟨Yt.mk v0 v1 v2, ?_, ?_⟩
  ·rw [List.drop_zero] at key
   first | exact key | (rw [Yt.YV]; exact key)
  ·trivial
theorem p7r {H : Type} (enc : TypeId × Value → H) (w : World) : ∀ n, Opens enc Tryz.prog w 25 Ym.cells (p4R) n := by
 intro n
 induction n with
 | zero => exact Opens.zero
 | succ n ih =>
  intro m hm cs x h hb
  have hl := d2O Tryz.underlying25 h
  rw [i6P] at hl
  obtain ⟨v0, r0, x0⟩ := YO (n := n) (e := 22) (o := 0) (z := 1) Tryz.underlying25 h hm hb 0 _ rfl ⟨rfl, rfl⟩ p1z ((d2o (b := 40) Tryz.underlying22 i4N (by decide) (by decide) (by decide) (fun v => by first | rfl | (cases v; rfl)) (p4U enc w n)).le (Nat.le_succ _))
  obtain ⟨v1, r1, x1⟩ := YO (n := n) (e := 23) (o := 1) (z := 1) Tryz.underlying25 h hm hb 1 _ rfl ⟨rfl, rfl⟩ p1B ((d2o (b := 32) Tryz.underlying23 i4O (by decide) (by decide) (by decide) (fun v => by first | rfl | (cases v; rfl)) (p4V enc w n)).le (Nat.le_succ _))
  have key : Rd w (cs.drop 0) _ := (d0n r0 (by first | rfl | (cases v0; rfl)) (d0n r1 (by first | rfl | (cases v1; rfl)) (d8S hl)))
  refine ⟨Ym.mk v0 v1, ?_, ?_⟩
  ·rw [List.drop_zero] at key
   first | exact key | (rw [Ym.YV]; exact key)
  ·exact ⟨x0.1⟩
theorem p1C : Tryz.prog.cellsOf 26 = 1 := by kernel_rfl
theorem i4P : Tryz.prog.cellsOf 124 = 10 := by kernel_rfl
theorem i1f : Tryz.prog.cellsOf 30 = 1 := by kernel_rfl
theorem p1D : Tryz.prog.cellsOf 28 = 1 := by kernel_rfl
theorem i4Q : Tryz.prog.cellsOf 163 = 2 := by kernel_rfl
theorem i9H : Tryz.prog.cellsOf 161 = 1 := by kernel_rfl
theorem i4R : Tryz.prog.cellsOf 212 = 2 := by kernel_rfl
theorem p4W {H : Type} (enc : TypeId × Value → H) (w : World) : ∀ n, Opens enc Tryz.prog w 212 Zh.cells (fun _ => True) n := by
 intro n
 induction n with
 | zero => exact Opens.zero
 | succ n ih =>
  intro m hm cs x h hb
  have hl := d2O Tryz.underlying212 h
  rw [i4R] at hl
  obtain ⟨v0, r0, x0⟩ := YO (n := n) (e := 3) (o := 0) (z := 1) Tryz.underlying212 h hm hb 0 _ rfl ⟨rfl, rfl⟩ d4D (d3u Tryz.underlying3)
  obtain ⟨v1, r1, x1⟩ := YO (n := n) (e := 3) (o := 1) (z := 1) Tryz.underlying212 h hm hb 1 _ rfl ⟨rfl, rfl⟩ d4D (d3u Tryz.underlying3)
  have key : Rd w (cs.drop 0) _ := (d0n r0 (by first | rfl | (cases v0; rfl)) (d0n r1 (by first | rfl | (cases v1; rfl)) (d8S hl)))
  refine ⟨Zh.mk v0 v1, ?_, ?_⟩
  ·rw [List.drop_zero] at key
   first | exact key | (rw [Zh.YV]; exact key)
  ·trivial
theorem p4X {H : Type} (enc : TypeId × Value → H) (w : World) : ∀ n, Opens enc Tryz.prog w 163 Yo.cells (fun v => v.links.length ≤ 1048576) n := by
 intro n
 induction n with
 | zero => exact Opens.zero
 | succ n ih =>
  intro m hm cs x h hb
  have hl := d2O Tryz.underlying163 h
  rw [i4Q] at hl
  obtain ⟨v0, r0, x0⟩ := YO (n := n) (e := 3) (o := 0) (z := 1) Tryz.underlying163 h hm hb 0 _ rfl ⟨rfl, rfl⟩ d4D (d3u Tryz.underlying3)
  obtain ⟨v1, r1, x1⟩ := YO (n := n) (e := 161) (o := 1) (z := 1) Tryz.underlying163 h hm hb 1 _ rfl ⟨rfl, rfl⟩ i9H ((d2o (b := 16) Tryz.underlying161 i4R (by decide) (by decide) (by decide) (fun v => by first | rfl | (cases v; rfl)) (p4W enc w n)).le (Nat.le_succ _))
  have key : Rd w (cs.drop 0) _ := (d0n r0 (by first | rfl | (cases v0; rfl)) (d0n r1 (by first | rfl | (cases v1; rfl)) (d8S hl)))
  refine ⟨Yo.mk v0 v1, ?_, ?_⟩
  ·rw [List.drop_zero] at key
   first | exact key | (rw [Yo.YV]; exact key)
  ·exact x1.1
theorem p1E {H : Type} (enc : TypeId × Value → H) (w : World) : ∀ n, Opens enc Tryz.prog w 30 Yx.cells (i4K) n := by
 intro n
 induction n with
 | zero => exact Opens.zero
 | succ n ih =>
  intro m hm cs x h hb
  have hl := d2O Tryz.underlying30 h
  rw [i1f] at hl
  obtain ⟨v0, r0, x0⟩ := YO (n := n) (e := 28) (o := 0) (z := 1) Tryz.underlying30 h hm hb 0 _ rfl ⟨rfl, rfl⟩ p1D ((d2o (b := 32) Tryz.underlying28 i4Q (by decide) (by decide) (by decide) (fun v => by first | rfl | (cases v; rfl)) (p4X enc w n)).le (Nat.le_succ _))
  have key : Rd w (cs.drop 0) _ := (d0n r0 (by first | rfl | (cases v0; rfl)) (d8S hl))
  refine ⟨Yx.mk v0, ?_, ?_⟩
  ·rw [List.drop_zero] at key
   first | exact key | (rw [Yx.YV]; exact key)
  ·exact ⟨x0.1, x0.2⟩
theorem d9M : Tryz.prog.cellsOf 122 = 6 := by kernel_rfl
theorem i1U : Tryz.prog.cellsOf 119 = 2 := by kernel_rfl
theorem i9I : Tryz.prog.cellsOf 117 = 1 := by kernel_rfl
theorem p4Y {H : Type} (enc : TypeId × Value → H) (w : World) : ∀ n, Opens enc Tryz.prog w 119 Ye.cells (i5J) n := by
 intro n
 induction n with
 | zero => exact Opens.zero
 | succ n ih =>
  intro m hm cs x h hb
  have hl := d2O Tryz.underlying119 h
  rw [i1U] at hl
  obtain ⟨v0, r0, x0⟩ := YO (n := n) (e := 9) (o := 0) (z := 1) Tryz.underlying119 h hm hb 0 _ rfl ⟨rfl, rfl⟩ d9L (d8f Tryz.underlying9)
  obtain ⟨v1, r1, x1⟩ := YO (n := n) (e := 117) (o := 1) (z := 1) Tryz.underlying119 h hm hb 1 _ rfl ⟨rfl, rfl⟩ i9I ((d2o (b := 40) Tryz.underlying117 i1U (by decide) (by decide) (by decide) (fun v => by first | rfl | (cases v; rfl)) ih).le (Nat.le_succ _))
  have key : Rd w (cs.drop 0) _ := (d0n r0 (by first | rfl | (cases v0; rfl)) (d0n r1 (by first | rfl | (cases v1; rfl)) (d8S hl)))
  refine ⟨Ye.mk v0 v1, ?_, ?_⟩
  ·rw [List.drop_zero] at key
   first | exact key | (rw [Ye.YV]; exact key)
  ·exact .mk _ x1.1 (fun k hk => x1.2 _ (get_mem hk))
theorem i9J : Tryz.prog.cellsOf 120 = 1 := by kernel_rfl
theorem p1F {H : Type} (enc : TypeId × Value → H) (w : World) : ∀ n, Opens enc Tryz.prog w 122 Yg.cells (p1s) n := by
 intro n
 induction n with
 | zero => exact Opens.zero
 | succ n ih =>
  intro m hm cs x h hb
  have hl := d2O Tryz.underlying122 h
  rw [d9M] at hl
  obtain ⟨v0, r0, x0⟩ := YO (n := n) (e := 3) (o := 0) (z := 1) Tryz.underlying122 h hm hb 0 _ rfl ⟨rfl, rfl⟩ d4D (d3u Tryz.underlying3)
  obtain ⟨v1, r1, x1⟩ := YO (n := n) (e := 9) (o := 1) (z := 1) Tryz.underlying122 h hm hb 1 _ rfl ⟨rfl, rfl⟩ d9L (d8f Tryz.underlying9)
  obtain ⟨v2, r2, x2⟩ := YO (n := n) (e := 3) (o := 2) (z := 1) Tryz.underlying122 h hm hb 2 _ rfl ⟨rfl, rfl⟩ d4D (d3u Tryz.underlying3)
  obtain ⟨v3, r3, x3⟩ := YO (n := n) (e := 119) (o := 3) (z := 2) Tryz.underlying122 h hm hb 3 _ rfl ⟨rfl, rfl⟩ i1U (p4Y enc w n)
  obtain ⟨v4, r4, x4⟩ := YO (n := n) (e := 120) (o := 5) (z := 1) Tryz.underlying122 h hm hb 4 _ rfl ⟨rfl, rfl⟩ i9J ((d2o (b := 96) Tryz.underlying120 d9M (by decide) (by decide) (by decide) (fun v => by first | rfl | (cases v; rfl)) ih).le (Nat.le_succ _))
  have key : Rd w (cs.drop 0) _ := (d0n r0 (by first | rfl | (cases v0; rfl)) (d0n r1 (by first | rfl | (cases v1; rfl)) (d0n r2 (by first | rfl | (cases v2; rfl)) (d0n r3 (by first | rfl | (cases v3; rfl)) (d0n r4 (by first | rfl | (cases v4; rfl)) (d8S hl))))))
  refine ⟨Yg.mk v0 v1 v2 v3 v4, ?_, ?_⟩
  ·rw [List.drop_zero] at key
   first | exact key | (rw [Yg.YV]; exact key) | (simp only [Ye.YV] at key; exact key) | (rw [Yg.YV]; simp only [Ye.YV] at key; exact key)
  ·exact .mk _ x3 x4.1 (fun k hk => x4.2 _ (get_mem hk))
theorem p4Z {H : Type} (enc : TypeId × Value → H) (w : World) : ∀ n, Opens enc Tryz.prog w 124 Yh.cells (p4Q) n := by
 intro n
 induction n with
 | zero => exact Opens.zero
 | succ n ih =>
  intro m hm cs x h hb
  have hl := d2O Tryz.underlying124 h
  rw [i4P] at hl
  obtain ⟨v0, r0, x0⟩ := YO (n := n) (e := 9) (o := 0) (z := 1) Tryz.underlying124 h hm hb 0 _ rfl ⟨rfl, rfl⟩ d9L (d8f Tryz.underlying9)
  obtain ⟨v1, r1, x1⟩ := YO (n := n) (e := 30) (o := 1) (z := 1) Tryz.underlying124 h hm hb 1 _ rfl ⟨rfl, rfl⟩ i1f (p1E enc w n)
  obtain ⟨v2, r2, x2⟩ := YO (n := n) (e := 3) (o := 2) (z := 1) Tryz.underlying124 h hm hb 2 _ rfl ⟨rfl, rfl⟩ d4D (d3u Tryz.underlying3)
  obtain ⟨v3, r3, x3⟩ := YO (n := n) (e := 3) (o := 3) (z := 1) Tryz.underlying124 h hm hb 3 _ rfl ⟨rfl, rfl⟩ d4D (d3u Tryz.underlying3)
  obtain ⟨v4, r4, x4⟩ := YO (n := n) (e := 122) (o := 4) (z := 6) Tryz.underlying124 h hm hb 4 _ rfl ⟨rfl, rfl⟩ d9M (p1F enc w n)
  have key : Rd w (cs.drop 0) _ := (d0n r0 (by first | rfl | (cases v0; rfl)) (d0n r1 (by first | rfl | (cases v1; rfl)) (d0n r2 (by first | rfl | (cases v2; rfl)) (d0n r3 (by first | rfl | (cases v3; rfl)) (d0n r4 (by first | rfl | (cases v4; rfl)) (d8S hl))))))
  refine ⟨Yh.mk v0 v1 v2 v3 v4, ?_, ?_⟩
  ·rw [List.drop_zero] at key
   first | exact key | (rw [Yh.YV]; exact key) | (simp only [Yx.YV, Yg.YV] at key; exact key) | (rw [Yh.YV]; simp only [Yx.YV, Yg.YV] at key; exact key)
  ·exact ⟨x1, x4⟩
theorem p1G : Tryz.prog.cellsOf 27 = 1 := by kernel_rfl
theorem i4S : Tryz.prog.cellsOf 132 = 9 := by kernel_rfl
theorem p5a {H : Type} (enc : TypeId × Value → H) (w : World) : ∀ n, Opens enc Tryz.prog w 132 YR.cells (p9a) n := by
 intro n
 induction n with
 | zero => exact Opens.zero
 | succ n ih =>
  intro m hm cs x h hb
  have hl := d2O Tryz.underlying132 h
  rw [i4S] at hl
  obtain ⟨v0, r0, x0⟩ := YO (n := n) (e := 9) (o := 0) (z := 1) Tryz.underlying132 h hm hb 0 _ rfl ⟨rfl, rfl⟩ d9L (d8f Tryz.underlying9)
  obtain ⟨v1, r1, x1⟩ := YO (n := n) (e := 30) (o := 1) (z := 1) Tryz.underlying132 h hm hb 1 _ rfl ⟨rfl, rfl⟩ i1f (p1E enc w n)
  obtain ⟨v2, r2, x2⟩ := YO (n := n) (e := 3) (o := 2) (z := 1) Tryz.underlying132 h hm hb 2 _ rfl ⟨rfl, rfl⟩ d4D (d3u Tryz.underlying3)
  obtain ⟨v3, r3, x3⟩ := YO (n := n) (e := 122) (o := 3) (z := 6) Tryz.underlying132 h hm hb 3 _ rfl ⟨rfl, rfl⟩ d9M (p1F enc w n)
  have key : Rd w (cs.drop 0) _ := (d0n r0 (by first | rfl | (cases v0; rfl)) (d0n r1 (by first | rfl | (cases v1; rfl)) (d0n r2 (by first | rfl | (cases v2; rfl)) (d0n r3 (by first | rfl | (cases v3; rfl)) (d8S hl)))))
  refine ⟨YR.mk v0 v1 v2 v3, ?_, ?_⟩
  ·rw [List.drop_zero] at key
   first | exact key | (rw [YR.YV]; exact key) | (simp only [Yx.YV, Yg.YV] at key; exact key) | (rw [YR.YV]; simp only [Yx.YV, Yg.YV] at key; exact key)
  ·exact ⟨x0, x1, x3⟩
theorem p6W {H : Type} (enc : TypeId × Value → H) (w : World) : ∀ n, Opens enc Tryz.prog w 32 Yq.cells (p4S) n := by
 intro n
 induction n with
 | zero => exact Opens.zero
 | succ n ih =>
  intro m hm cs x h hb
  have hl := d2O Tryz.underlying32 h
  rw [p1y] at hl
  obtain ⟨v0, r0, x0⟩ := YO (n := n) (e := 25) (o := 0) (z := 2) Tryz.underlying32 h hm hb 0 _ rfl ⟨rfl, rfl⟩ i6P (p7r enc w n)
  obtain ⟨v1, r1, x1⟩ := YO (n := n) (e := 26) (o := 2) (z := 1) Tryz.underlying32 h hm hb 1 _ rfl ⟨rfl, rfl⟩ p1C ((d2o (b := 152) Tryz.underlying26 i4P (by decide) (by decide) (by decide) (fun v => by first | rfl | (cases v; rfl)) (p4Z enc w n)).le (Nat.le_succ _))
  obtain ⟨v2, r2, x2⟩ := YO (n := n) (e := 27) (o := 3) (z := 1) Tryz.underlying32 h hm hb 2 _ rfl ⟨rfl, rfl⟩ p1G ((d2o (b := 144) Tryz.underlying27 i4S (by decide) (by decide) (by decide) (fun v => by first | rfl | (cases v; rfl)) (p5a enc w n)).le (Nat.le_succ _))
  obtain ⟨v3, r3, x3⟩ := YO (n := n) (e := 30) (o := 4) (z := 1) Tryz.underlying32 h hm hb 3 _ rfl ⟨rfl, rfl⟩ i1f (p1E enc w n)
  have key : Rd w (cs.drop 0) _ := (d0n r0 (by first | rfl | (cases v0; rfl)) (d0n r1 (by first | rfl | (cases v1; rfl)) (d0n r2 (by first | rfl | (cases v2; rfl)) (d0n r3 (by first | rfl | (cases v3; rfl)) (d8S hl)))))
  refine ⟨Yq.mk v0 v1 v2 v3, ?_, ?_⟩
  ·rw [List.drop_zero] at key
   first | exact key | (rw [Yq.YV]; exact key) | (simp only [Ym.YV, Yx.YV] at key; exact key) | (rw [Yq.YV]; simp only [Ym.YV, Yx.YV] at key; exact key)
  ·exact ⟨x0, x1.1, x2.1, x1.2, x2.2, x3⟩
theorem i3o : Tryz.prog.cellsOf 67 = 3 := by kernel_rfl
theorem p1H : Tryz.prog.cellsOf 59 = 1 := by kernel_rfl
theorem p6X {H : Type} (enc : TypeId × Value → H) (w : World) : ∀ n, Opens enc Tryz.prog w 67 Yl.cells (fun _ => True) n := by
 intro n
 induction n with
 | zero => exact Opens.zero
 | succ n ih =>
  intro m hm cs x h hb
  have hl := d2O Tryz.underlying67 h
  rw [i3o] at hl
  obtain ⟨v0, r0, x0⟩ := YO (n := n) (e := 3) (o := 0) (z := 1) Tryz.underlying67 h hm hb 0 _ rfl ⟨rfl, rfl⟩ d4D (d3u Tryz.underlying3)
  obtain ⟨v1, r1, x1⟩ := YO (n := n) (e := 3) (o := 1) (z := 1) Tryz.underlying67 h hm hb 1 _ rfl ⟨rfl, rfl⟩ d4D (d3u Tryz.underlying3)
  obtain ⟨v2, r2, x2⟩ := YO (n := n) (e := 59) (o := 2) (z := 1) Tryz.underlying67 h hm hb 2 _ rfl ⟨rfl, rfl⟩ p1H ((d2o (b := 40) Tryz.underlying59 i3o (by decide) (by decide) (by decide) (fun v => by first | rfl | (cases v; rfl)) ih).le (Nat.le_succ _))
  have key : Rd w (cs.drop 0) _ := (d0n r0 (by first | rfl | (cases v0; rfl)) (d0n r1 (by first | rfl | (cases v1; rfl)) (d0n r2 (by first | rfl | (cases v2; rfl)) (d8S hl))))
  refine ⟨Yl.mk v0 v1 v2, ?_, ?_⟩
  ·rw [List.drop_zero] at key
   first | exact key | (rw [Yl.YV]; exact key)
  ·trivial
end Go.Proofs.YtgaeiccgdpnkkaaGreatDoor
