import Derived.KernelRfl
import Derived.Test.YtgaeiccgdpnkkaaGreatDoorWRead
import Derived.Test.YtgaeiccgdpnkkaaGreatDoorWLaw2
set_option linter.unusedVariables false
set_option linter.unusedSimpArgs false
namespace Go.Proofs.YtgaeiccgdpnkkaaGreatDoor
open Go Go.Am
theorem p1b : Tryz.prog.cellsOf 32 = 5 := by kernel_rfl
theorem i6q : Tryz.prog.cellsOf 25 = 2 := by kernel_rfl
theorem p1c : Tryz.prog.cellsOf 22 = 1 := by kernel_rfl
theorem i4m : Tryz.prog.cellsOf 204 = 2 := by kernel_rfl
theorem d9f : Tryz.prog.cellsOf 9 = 1 := by kernel_rfl
theorem i3l : Tryz.prog.cellsOf 60 = 1 := by kernel_rfl
theorem d3L : Tryz.prog.cellsOf 3 = 1 := by kernel_rfl
theorem p4C {H : Type} (enc : TypeId × Value → H) (w : World) : ∀ n, Opens enc Tryz.prog w 204 WT.cells (fun _ => True) n := by
 intro n
 induction n with
 | zero => exact Opens.zero
 | succ n ih =>
  intro m hm cs x h hb
  have hl := d1S Tryz.underlying204 h
  rw [i4m] at hl
  obtain ⟨v0, r0, x0⟩ := XB (n := n) (e := 9) (o := 0) (z := 1) Tryz.underlying204 h hm hb 0 _ rfl ⟨rfl, rfl⟩ d9f (d7F Tryz.underlying9)
  obtain ⟨v1, r1, x1⟩ := XB (n := n) (e := 60) (o := 1) (z := 1) Tryz.underlying204 h hm hb 1 _ rfl ⟨rfl, rfl⟩ i3l ((d1C (b := 8) Tryz.underlying60 d3L (by decide) (by decide) (by decide) (fun v => by first | rfl | (cases v; rfl)) (d2z Tryz.underlying3)).le (Nat.le_succ _))
  have key : Rd w (cs.drop 0) _ := (Ze r0 (by first | rfl | (cases v0; rfl)) (Ze r1 (by first | rfl | (cases v1; rfl)) (d8l hl)))
  refine ⟨WT.mk v0 v1, ?_, ?_⟩
  ·rw [List.drop_zero] at key
   first | exact key | (rw [WT.XF]; exact key)
  ·trivial
theorem p1d : Tryz.prog.cellsOf 23 = 1 := by kernel_rfl
theorem i4n : Tryz.prog.cellsOf 183 = 3 := by kernel_rfl
theorem p4D {H : Type} (enc : TypeId × Value → H) (w : World) : ∀ n, Opens enc Tryz.prog w 183 Xf.cells (fun _ => True) n := by
 intro n
 induction n with
 | zero => exact Opens.zero
 | succ n ih =>
  intro m hm cs x h hb
  have hl := d1S Tryz.underlying183 h
  rw [i4n] at hl
  obtain ⟨v0, r0, x0⟩ := XB (n := n) (e := 9) (o := 0) (z := 1) Tryz.underlying183 h hm hb 0 _ rfl ⟨rfl, rfl⟩ d9f (d7F Tryz.underlying9)
  obtain ⟨v1, r1, x1⟩ := XB (n := n) (e := 3) (o := 1) (z := 1) Tryz.underlying183 h hm hb 1 _ rfl ⟨rfl, rfl⟩ d3L (d2z Tryz.underlying3)
  obtain ⟨v2, r2, x2⟩ := XB (n := n) (e := 3) (o := 2) (z := 1) Tryz.underlying183 h hm hb 2 _ rfl ⟨rfl, rfl⟩ d3L (d2z Tryz.underlying3)
  have key : Rd w (cs.drop 0) _ := (Ze r0 (by first | rfl | (cases v0; rfl)) (Ze r1 (by first | rfl | (cases v1; rfl)) (Ze r2 (by first | rfl | (cases v2; rfl)) (d8l hl))))
  refine ⟨Xf.mk v0 v1 v2, ?_, ?_⟩
  ·rw [List.drop_zero] at key
   first | exact key | (rw [Xf.XF]; exact key)
  ·trivial
theorem p7e {H : Type} (enc : TypeId × Value → H) (w : World) : ∀ n, Opens enc Tryz.prog w 25 WU.cells (p4z) n := by
 intro n
 induction n with
 | zero => exact Opens.zero
 | succ n ih =>
  intro m hm cs x h hb
  have hl := d1S Tryz.underlying25 h
  rw [i6q] at hl
  obtain ⟨v0, r0, x0⟩ := XB (n := n) (e := 22) (o := 0) (z := 1) Tryz.underlying25 h hm hb 0 _ rfl ⟨rfl, rfl⟩ p1c ((d1C (b := 40) Tryz.underlying22 i4m (by decide) (by decide) (by decide) (fun v => by first | rfl | (cases v; rfl)) (p4C enc w n)).le (Nat.le_succ _))
  obtain ⟨v1, r1, x1⟩ := XB (n := n) (e := 23) (o := 1) (z := 1) Tryz.underlying25 h hm hb 1 _ rfl ⟨rfl, rfl⟩ p1d ((d1C (b := 32) Tryz.underlying23 i4n (by decide) (by decide) (by decide) (fun v => by first | rfl | (cases v; rfl)) (p4D enc w n)).le (Nat.le_succ _))
  have key : Rd w (cs.drop 0) _ := (Ze r0 (by first | rfl | (cases v0; rfl)) (Ze r1 (by first | rfl | (cases v1; rfl)) (d8l hl)))
  refine ⟨WU.mk v0 v1, ?_, ?_⟩
  ·rw [List.drop_zero] at key
   first | exact key | (rw [WU.XF]; exact key)
  ·exact ⟨x0.1⟩
theorem p1e : Tryz.prog.cellsOf 26 = 1 := by kernel_rfl
theorem i4o : Tryz.prog.cellsOf 124 = 10 := by kernel_rfl
theorem i0z : Tryz.prog.cellsOf 30 = 1 := by kernel_rfl
theorem p1f : Tryz.prog.cellsOf 28 = 1 := by kernel_rfl
theorem i4p : Tryz.prog.cellsOf 163 = 2 := by kernel_rfl
theorem i9k : Tryz.prog.cellsOf 161 = 1 := by kernel_rfl
theorem i4q : Tryz.prog.cellsOf 212 = 2 := by kernel_rfl
theorem p4E {H : Type} (enc : TypeId × Value → H) (w : World) : ∀ n, Opens enc Tryz.prog w 212 XL.cells (fun _ => True) n := by
 intro n
 induction n with
 | zero => exact Opens.zero
 | succ n ih =>
  intro m hm cs x h hb
  have hl := d1S Tryz.underlying212 h
  rw [i4q] at hl
  obtain ⟨v0, r0, x0⟩ := XB (n := n) (e := 3) (o := 0) (z := 1) Tryz.underlying212 h hm hb 0 _ rfl ⟨rfl, rfl⟩ d3L (d2z Tryz.underlying3)
  obtain ⟨v1, r1, x1⟩ := XB (n := n) (e := 3) (o := 1) (z := 1) Tryz.underlying212 h hm hb 1 _ rfl ⟨rfl, rfl⟩ d3L (d2z Tryz.underlying3)
  have key : Rd w (cs.drop 0) _ := (Ze r0 (by first | rfl | (cases v0; rfl)) (Ze r1 (by first | rfl | (cases v1; rfl)) (d8l hl)))
  refine ⟨XL.mk v0 v1, ?_, ?_⟩
  ·rw [List.drop_zero] at key
   first | exact key | (rw [XL.XF]; exact key)
  ·trivial
theorem p4F {H : Type} (enc : TypeId × Value → H) (w : World) : ∀ n, Opens enc Tryz.prog w 163 WX.cells (fun v => v.links.length ≤ 1048576) n := by
 intro n
 induction n with
 | zero => exact Opens.zero
 | succ n ih =>
  intro m hm cs x h hb
  have hl := d1S Tryz.underlying163 h
  rw [i4p] at hl
  obtain ⟨v0, r0, x0⟩ := XB (n := n) (e := 3) (o := 0) (z := 1) Tryz.underlying163 h hm hb 0 _ rfl ⟨rfl, rfl⟩ d3L (d2z Tryz.underlying3)
  obtain ⟨v1, r1, x1⟩ := XB (n := n) (e := 161) (o := 1) (z := 1) Tryz.underlying163 h hm hb 1 _ rfl ⟨rfl, rfl⟩ i9k ((d1C (b := 16) Tryz.underlying161 i4q (by decide) (by decide) (by decide) (fun v => by first | rfl | (cases v; rfl)) (p4E enc w n)).le (Nat.le_succ _))
  have key : Rd w (cs.drop 0) _ := (Ze r0 (by first | rfl | (cases v0; rfl)) (Ze r1 (by first | rfl | (cases v1; rfl)) (d8l hl)))
  refine ⟨WX.mk v0 v1, ?_, ?_⟩
  ·rw [List.drop_zero] at key
   first | exact key | (rw [WX.XF]; exact key)
  ·exact x1.1
theorem p1g {H : Type} (enc : TypeId × Value → H) (w : World) : ∀ n, Opens enc Tryz.prog w 30 Xg.cells (i4l) n := by
 intro n
 induction n with
 | zero => exact Opens.zero
 | succ n ih =>
  intro m hm cs x h hb
  have hl := d1S Tryz.underlying30 h
  rw [i0z] at hl
  obtain ⟨v0, r0, x0⟩ := XB (n := n) (e := 28) (o := 0) (z := 1) Tryz.underlying30 h hm hb 0 _ rfl ⟨rfl, rfl⟩ p1f ((d1C (b := 32) Tryz.underlying28 i4p (by decide) (by decide) (by decide) (fun v => by first | rfl | (cases v; rfl)) (p4F enc w n)).le (Nat.le_succ _))
  have key : Rd w (cs.drop 0) _ := (Ze r0 (by first | rfl | (cases v0; rfl)) (d8l hl))
  refine ⟨Xg.mk v0, ?_, ?_⟩
  ·rw [List.drop_zero] at key
   first | exact key | (rw [Xg.XF]; exact key)
  ·exact ⟨x0.1, x0.2⟩
theorem d9g : Tryz.prog.cellsOf 122 = 6 := by kernel_rfl
theorem i1n : Tryz.prog.cellsOf 119 = 2 := by kernel_rfl
theorem i9l : Tryz.prog.cellsOf 117 = 1 := by kernel_rfl
theorem p4G {H : Type} (enc : TypeId × Value → H) (w : World) : ∀ n, Opens enc Tryz.prog w 119 WK.cells (i5f) n := by
 intro n
 induction n with
 | zero => exact Opens.zero
 | succ n ih =>
  intro m hm cs x h hb
  have hl := d1S Tryz.underlying119 h
  rw [i1n] at hl
  obtain ⟨v0, r0, x0⟩ := XB (n := n) (e := 9) (o := 0) (z := 1) Tryz.underlying119 h hm hb 0 _ rfl ⟨rfl, rfl⟩ d9f (d7F Tryz.underlying9)
  obtain ⟨v1, r1, x1⟩ := XB (n := n) (e := 117) (o := 1) (z := 1) Tryz.underlying119 h hm hb 1 _ rfl ⟨rfl, rfl⟩ i9l ((d1C (b := 40) Tryz.underlying117 i1n (by decide) (by decide) (by decide) (fun v => by first | rfl | (cases v; rfl)) ih).le (Nat.le_succ _))
  have key : Rd w (cs.drop 0) _ := (Ze r0 (by first | rfl | (cases v0; rfl)) (Ze r1 (by first | rfl | (cases v1; rfl)) (d8l hl)))
  refine ⟨WK.mk v0 v1, ?_, ?_⟩
  ·rw [List.drop_zero] at key
   first | exact key | (rw [WK.XF]; exact key)
  ·exact .mk _ x1.1 (fun k hk => x1.2 _ (get_mem hk))
theorem i9m : Tryz.prog.cellsOf 120 = 1 := by kernel_rfl
theorem p1h {H : Type} (enc : TypeId × Value → H) (w : World) : ∀ n, Opens enc Tryz.prog w 122 WO.cells (p0T) n := by
 intro n
 induction n with
 | zero => exact Opens.zero
 | succ n ih =>
  intro m hm cs x h hb
  have hl := d1S Tryz.underlying122 h
  rw [d9g] at hl
  obtain ⟨v0, r0, x0⟩ := XB (n := n) (e := 3) (o := 0) (z := 1) Tryz.underlying122 h hm hb 0 _ rfl ⟨rfl, rfl⟩ d3L (d2z Tryz.underlying3)
  obtain ⟨v1, r1, x1⟩ := XB (n := n) (e := 9) (o := 1) (z := 1) Tryz.underlying122 h hm hb 1 _ rfl ⟨rfl, rfl⟩ d9f (d7F Tryz.underlying9)
  obtain ⟨v2, r2, x2⟩ := XB (n := n) (e := 3) (o := 2) (z := 1) Tryz.underlying122 h hm hb 2 _ rfl ⟨rfl, rfl⟩ d3L (d2z Tryz.underlying3)
  obtain ⟨v3, r3, x3⟩ := XB (n := n) (e := 119) (o := 3) (z := 2) Tryz.underlying122 h hm hb 3 _ rfl ⟨rfl, rfl⟩ i1n (p4G enc w n)
  obtain ⟨v4, r4, x4⟩ := XB (n := n) (e := 120) (o := 5) (z := 1) Tryz.underlying122 h hm hb 4 _ rfl ⟨rfl, rfl⟩ i9m ((d1C (b := 96) Tryz.underlying120 d9g (by decide) (by decide) (by decide) (fun v => by first | rfl | (cases v; rfl)) ih).le (Nat.le_succ _))
  have key : Rd w (cs.drop 0) _ := (Ze r0 (by first | rfl | (cases v0; rfl)) (Ze r1 (by first | rfl | (cases v1; rfl)) (Ze r2 (by first | rfl | (cases v2; rfl)) (Ze r3 (by first | rfl | (cases v3; rfl)) (Ze r4 (by first | rfl | (cases v4; rfl)) (d8l hl))))))
  refine ⟨WO.mk v0 v1 v2 v3 v4, ?_, ?_⟩
  ·rw [List.drop_zero] at key
   first | exact key | (rw [WO.XF]; exact key) | (simp only [WK.XF] at key; exact key) | (rw [WO.XF]; simp only [WK.XF] at key; exact key)
  ·exact .mk _ x3 x4.1 (fun k hk => x4.2 _ (get_mem hk))
theorem p4H {H : Type} (enc : TypeId × Value → H) (w : World) : ∀ n, Opens enc Tryz.prog w 124 WQ.cells (p4y) n := by
 intro n
 induction n with
 | zero => exact Opens.zero
 | succ n ih =>
  intro m hm cs x h hb
  have hl := d1S Tryz.underlying124 h
  rw [i4o] at hl
  obtain ⟨v0, r0, x0⟩ := XB (n := n) (e := 9) (o := 0) (z := 1) Tryz.underlying124 h hm hb 0 _ rfl ⟨rfl, rfl⟩ d9f (d7F Tryz.underlying9)
  obtain ⟨v1, r1, x1⟩ := XB (n := n) (e := 30) (o := 1) (z := 1) Tryz.underlying124 h hm hb 1 _ rfl ⟨rfl, rfl⟩ i0z (p1g enc w n)
  obtain ⟨v2, r2, x2⟩ := XB (n := n) (e := 3) (o := 2) (z := 1) Tryz.underlying124 h hm hb 2 _ rfl ⟨rfl, rfl⟩ d3L (d2z Tryz.underlying3)
  obtain ⟨v3, r3, x3⟩ := XB (n := n) (e := 3) (o := 3) (z := 1) Tryz.underlying124 h hm hb 3 _ rfl ⟨rfl, rfl⟩ d3L (d2z Tryz.underlying3)
  obtain ⟨v4, r4, x4⟩ := XB (n := n) (e := 122) (o := 4) (z := 6) Tryz.underlying124 h hm hb 4 _ rfl ⟨rfl, rfl⟩ d9g (p1h enc w n)
  have key : Rd w (cs.drop 0) _ := (Ze r0 (by first | rfl | (cases v0; rfl)) (Ze r1 (by first | rfl | (cases v1; rfl)) (Ze r2 (by first | rfl | (cases v2; rfl)) (Ze r3 (by first | rfl | (cases v3; rfl)) (Ze r4 (by first | rfl | (cases v4; rfl)) (d8l hl))))))
  refine ⟨WQ.mk v0 v1 v2 v3 v4, ?_, ?_⟩
  ·rw [List.drop_zero] at key
   first | exact key | (rw [WQ.XF]; exact key) | (simp only [Xg.XF, WO.XF] at key; exact key) | (rw [WQ.XF]; simp only [Xg.XF, WO.XF] at key; exact key)
  ·exact ⟨x1, x4⟩
theorem p1i : Tryz.prog.cellsOf 27 = 1 := by kernel_rfl
theorem i4r : Tryz.prog.cellsOf 132 = 9 := by kernel_rfl
theorem p4I {H : Type} (enc : TypeId × Value → H) (w : World) : ∀ n, Opens enc Tryz.prog w 132 XE.cells (p8O) n := by
 intro n
 induction n with
 | zero => exact Opens.zero
 | succ n ih =>
  intro m hm cs x h hb
  have hl := d1S Tryz.underlying132 h
  rw [i4r] at hl
  obtain ⟨v0, r0, x0⟩ := XB (n := n) (e := 9) (o := 0) (z := 1) Tryz.underlying132 h hm hb 0 _ rfl ⟨rfl, rfl⟩ d9f (d7F Tryz.underlying9)
  obtain ⟨v1, r1, x1⟩ := XB (n := n) (e := 30) (o := 1) (z := 1) Tryz.underlying132 h hm hb 1 _ rfl ⟨rfl, rfl⟩ i0z (p1g enc w n)
  obtain ⟨v2, r2, x2⟩ := XB (n := n) (e := 3) (o := 2) (z := 1) Tryz.underlying132 h hm hb 2 _ rfl ⟨rfl, rfl⟩ d3L (d2z Tryz.underlying3)
  obtain ⟨v3, r3, x3⟩ := XB (n := n) (e := 122) (o := 3) (z := 6) Tryz.underlying132 h hm hb 3 _ rfl ⟨rfl, rfl⟩ d9g (p1h enc w n)
  have key : Rd w (cs.drop 0) _ := (Ze r0 (by first | rfl | (cases v0; rfl)) (Ze r1 (by first | rfl | (cases v1; rfl)) (Ze r2 (by first | rfl | (cases v2; rfl)) (Ze r3 (by first | rfl | (cases v3; rfl)) (d8l hl)))))
  refine ⟨XE.mk v0 v1 v2 v3, ?_, ?_⟩
  ·rw [List.drop_zero] at key
   first | exact key | (rw [XE.XF]; exact key) | (simp only [Xg.XF, WO.XF] at key; exact key) | (rw [XE.XF]; simp only [Xg.XF, WO.XF] at key; exact key)
  ·exact ⟨x0, x1, x3⟩
theorem p6D {H : Type} (enc : TypeId × Value → H) (w : World) : ∀ n, Opens enc Tryz.prog w 32 Xa.cells (p4A) n := by
 intro n
 induction n with
 | zero => exact Opens.zero
 | succ n ih =>
  intro m hm cs x h hb
  have hl := d1S Tryz.underlying32 h
  rw [p1b] at hl
  obtain ⟨v0, r0, x0⟩ := XB (n := n) (e := 25) (o := 0) (z := 2) Tryz.underlying32 h hm hb 0 _ rfl ⟨rfl, rfl⟩ i6q (p7e enc w n)
  obtain ⟨v1, r1, x1⟩ := XB (n := n) (e := 26) (o := 2) (z := 1) Tryz.underlying32 h hm hb 1 _ rfl ⟨rfl, rfl⟩ p1e ((d1C (b := 152) Tryz.underlying26 i4o (by decide) (by decide) (by decide) (fun v => by first | rfl | (cases v; rfl)) (p4H enc w n)).le (Nat.le_succ _))
  obtain ⟨v2, r2, x2⟩ := XB (n := n) (e := 27) (o := 3) (z := 1) Tryz.underlying32 h hm hb 2 _ rfl ⟨rfl, rfl⟩ p1i ((d1C (b := 144) Tryz.underlying27 i4r (by decide) (by decide) (by decide) (fun v => by first | rfl | (cases v; rfl)) (p4I enc w n)).le (Nat.le_succ _))
  obtain ⟨v3, r3, x3⟩ := XB (n := n) (e := 30) (o := 4) (z := 1) Tryz.underlying32 h hm hb 3 _ rfl ⟨rfl, rfl⟩ i0z (p1g enc w n)
  have key : Rd w (cs.drop 0) _ := (Ze r0 (by first | rfl | (cases v0; rfl)) (Ze r1 (by first | rfl | (cases v1; rfl)) (Ze r2 (by first | rfl | (cases v2; rfl)) (Ze r3 (by first | rfl | (cases v3; rfl)) (d8l hl)))))
  refine ⟨Xa.mk v0 v1 v2 v3, ?_, ?_⟩
  ·rw [List.drop_zero] at key
   first | exact key | (rw [Xa.XF]; exact key) | (simp only [WU.XF, Xg.XF] at key; exact key) | (rw [Xa.XF]; simp only [WU.XF, Xg.XF] at key; exact key)
  ·exact ⟨x0, x1.1, x2.1, x1.2, x2.2, x3⟩
theorem p1j : Tryz.prog.cellsOf 62 = 2 := by kernel_rfl
theorem p6E {H : Type} (enc : TypeId × Value → H) (w : World) : ∀ n, Opens enc Tryz.prog w 62 Xt.cells (fun _ => True) n := by
 intro n
 induction n with
 | zero => exact Opens.zero
 | succ n ih =>
  intro m hm cs x h hb
  have hl := d1S Tryz.underlying62 h
  rw [p1j] at hl
  obtain ⟨v0, r0, x0⟩ := XB (n := n) (e := 60) (o := 0) (z := 1) Tryz.underlying62 h hm hb 0 _ rfl ⟨rfl, rfl⟩ i3l ((d1C (b := 8) Tryz.underlying60 d3L (by decide) (by decide) (by decide) (fun v => by first | rfl | (cases v; rfl)) (d2z Tryz.underlying3)).le (Nat.le_succ _))
  obtain ⟨v1, r1, x1⟩ := XB (n := n) (e := 60) (o := 1) (z := 1) Tryz.underlying62 h hm hb 1 _ rfl ⟨rfl, rfl⟩ i3l ((d1C (b := 8) Tryz.underlying60 d3L (by decide) (by decide) (by decide) (fun v => by first | rfl | (cases v; rfl)) (d2z Tryz.underlying3)).le (Nat.le_succ _))
  have key : Rd w (cs.drop 0) _ := (Ze r0 (by first | rfl | (cases v0; rfl)) (Ze r1 (by first | rfl | (cases v1; rfl)) (d8l hl)))
  refine ⟨Xt.mk v0 v1, ?_, ?_⟩
  ·rw [List.drop_zero] at key
   first | exact key | (rw [Xt.XF]; exact key)
  ·trivial
end Go.Proofs.YtgaeiccgdpnkkaaGreatDoor
