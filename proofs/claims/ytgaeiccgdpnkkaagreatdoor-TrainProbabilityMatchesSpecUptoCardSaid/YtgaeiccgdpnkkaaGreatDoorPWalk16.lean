import Derived.Test.YtgaeiccgdpnkkaaGreatDoorPWalk15
set_option linter.unusedVariables false
set_option linter.unusedSimpArgs false
set_option maxHeartbeats 2000000
set_option maxRecDepth 100000
namespace Go.Proofs.YtgaeiccgdpnkkaaGreatDoor
open Go Go.Am
theorem i7m (n : Nat) (a0 : Yn) (l0 : (List Yr)) (r : YH × Yg) (h : i3f n a0 l0 = some r) : ∀ (st : St) (o0 q0 : Nat) (hnd : [o0].Nodup) (d7g : Am.look st o0 = some (.arr q0 3 40 (rows Yr.cells l0))), Am.Spec Tryz.prog gl 27 [.agg [.sl false 2 40 (rows Yl.cells a0.hierarchy.types), .sl false 3 32 (rows Yw.cells a0.hierarchy.YL), .sl false 10 152 (rows Yi.cells a0.rules), .sl false 9 144 (rows YT.cells a0.Yy), .sl false 2 32 (rows Yq.cells a0.start.nodes)], .ref true o0 q0 0 l0.length] st (fun d st' => d = .tup [.agg [.sl false 1 8 (rows Zj r.1.rules), .sl false 1 8 (rows Zj r.1.Yy)], .agg [.int .i64 r.2.code, .int .i64 r.2.index]] ∧ st' = puts st []) := by
 intro st o0 q0 hnd d7g
 unfold i3f at h
 have ho0 := d2c d7g
 have fx := idf ho0
 refine fb 58 [.cell 4 62, .cell 5 41] [0, 1, 2, 4, 5, 6, 7, 8, 9, 10, 11, 16, 21, 34, 35, 36, 37, 46] Tryz.func27 fun hsc => ?_
 refine i0b (s' := (d2n st [(o0, (.arr q0 3 40 (rows Yr.cells l0)))])) (d0t (by simp [d7g])) ?_
 refine cl h (d8Q n _) fun v1 h => ?_
 refine cd h (fun hc h => ?_) fun hc h => ?_
 ·refine rs ?_
  refine dw [1, 2] 0 ?_
  try refine ⟨by (simp <;> omega), ?_⟩
  refine rr ?_
  exact fuo (.tup [.agg [.sl false 1 8 (rows Zj []), .sl false 1 8 (rows Zj [])], .agg [.int .i64 v1.code, .int .i64 v1.index]]) (.tup _ _ (.cons _ _ _ _ (.agg _ _ (.cons _ _ _ _ (.YU _ _ _ (by decide)) (.cons _ _ _ _ (.YU _ _ _ (by decide)) .nil))) (.cons _ _ _ _ .s .nil)) rfl) h hsc (hr := by rintro rfl; exact ⟨rfl, d0t (by simp [d7g])⟩)
 ·refine cd h (fun hc h => ?_) fun hc h => ?_
  ·refine cl h (d5C _ _) fun v2 h => ?_
   refine rr ?_
   exact fuo (.tup [.agg [.sl false 1 8 (rows Zj []), .sl false 1 8 (rows Zj [])], .agg [.int .i64 v2.code, .int .i64 v2.index]]) (.tup _ _ (.cons _ _ _ _ (.agg _ _ (.cons _ _ _ _ (.YU _ _ _ (by decide)) (.cons _ _ _ _ (.YU _ _ _ (by decide)) .nil))) (.cons _ _ _ _ .s .nil)) rfl) h hsc (hr := by rintro rfl; exact ⟨rfl, d0t (by simp [d7g])⟩)
  ·refine rn ?_
   obtain ⟨fx, h⟩ := ck fx h
   have fy := (show List.replicate a0.rules.length [.int .i64 0] = rows Zj (List.replicate a0.rules.length (default : Int)) from d8J (E := Zj) _ default)
   obtain ⟨fx, h⟩ := ck fx h
   have fy := fa fy (show List.replicate a0.Yy.length [.int .i64 0] = rows Zj (List.replicate a0.Yy.length (default : Int)) from d8J (E := Zj) _ default)
   refine dwy [] 3 ?_
   obtain ⟨fx, h⟩ := ck fx h
   refine rn ?_
   refine rng (body := d9S n a0 l0) (kk := d9T) (n := l0.length) (s0 := ((List.replicate a0.rules.length (default : Int)), (List.replicate a0.Yy.length (default : Int))))
    (fun (gs0 : Nat × Nat) (k0 : Nat) (s0 : (List Int) × (List Int)) => [(2, .ptr st.length 0 0 0), (4, .ptr (st.length + 1) 0 0 0), (5, .ptr (st.length + 2) 0 0 0), (7, .ptr (st.length + 6) 0 0 0), (8, .ptr (st.length + 7) 0 0 0), (34, .ref true o0 q0 0 l0.length), (35, .int .i64 (↑l0.length : Int)), (36, .int .i64 (↑k0 : Int))])
    (fun (gs0 : Nat × Nat) (k0 : Nat) (s0 : (List Int) × (List Int)) => (d2n st [(o0, (.arr q0 3 40 (rows Yr.cells l0)))]) ++ [some (.arr 0 5 0 [[.sl false 2 40 (rows Yl.cells a0.hierarchy.types), .sl false 3 32 (rows Yw.cells a0.hierarchy.YL), .sl false 10 152 (rows Yi.cells a0.rules), .sl false 9 144 (rows YT.cells a0.Yy), .sl false 2 32 (rows Yq.cells a0.start.nodes)]]), some (.arr 0 2 0 [[.YU, .YU]]), some (.arr 0 2 0 [[.int .i64 0, .int .i64 0]]), none, some (.arr gs0.1 1 8 (rows Zj s0.1)), some (.arr gs0.2 1 8 (rows Zj s0.2)), some (.arr 0 2 0 [[.ref true (st.length + 4) gs0.1 0 s0.1.length, .ref true (st.length + 5) gs0.2 0 s0.2.length]]), some (.arr 0 1 0 [[.fn 79 [] [.ptr (st.length + 6) 0 0 0, .ptr (st.length + 7) 0 0 0]]])])
    (fun (gt0 : Nat × Nat) (t0 : (List Int) × (List Int)) => [(4, .ptr (st.length + 1) 0 0 0), (5, .ptr (st.length + 2) 0 0 0), (7, .ptr (st.length + 6) 0 0 0)])
    (fun (gt0 : Nat × Nat) (t0 : (List Int) × (List Int)) => (d2n st [(o0, (.arr q0 3 40 (rows Yr.cells l0)))]) ++ [none, some (.arr 0 2 0 [[.YU, .YU]]), some (.arr 0 2 0 [[.int .i64 0, .int .i64 0]]), none, some (.arr gt0.1 1 8 (rows Zj t0.1)), some (.arr gt0.2 1 8 (rows Zj t0.2)), some (.arr 0 2 0 [[.ref true (st.length + 4) gt0.1 0 t0.1.length, .ref true (st.length + 5) gt0.2 0 t0.2.length]])])
    (0, 0) fx fx.2 h (bu hsc (hu := (.lv (.lv (.lv (.dead _ _ _ (.lv (.lv (.live _ _ _ _ (.arr _ _ _ _ _ (.cons _ _ _ _ (.cons _ _ _ _ (i7M (by first | (simp; done) | simp [Fr.get])) (.cons _ _ _ _ (i7M (by first | (simp; done) | simp [Fr.get])) .nil)) (.same _))) (.lv (.nil _)))))))))))
    (fun gs0 k0 s0 b0 fx h hx0 => ?_) (fun gs0 s0 => ?_) (fun gt0 t0 fr1 st1 h hb => ?_)
   ·unfold d9S at h
    refine ct ?_
    refine r0 ?_
    refine r0 ?_
    have fy := (show (rows Yr.cells l0).getD k0 [] = Yr.cells (get l0 k0) from d9f (E := Yr.cells) (l := l0) (k := k0) (by first | omega | (simp; omega)))
    have fy := fa fy (show k0 < l0.length from by first | omega | (simp; omega))
    refine r1 ?_
    refine cl h (i2v n _ _) fun v17 h => ?_
    refine cd h (fun hc h => ?_) fun hc h => ?_
    ·refine cl h (d5C _ _) fun v18 h => ?_
     refine ra ?_
     cases h
     refine Za ?_; have h := congrArg some (hx0 _ rfl)
     refine rr ?_
     exact fuo (.tup [.agg [.sl false 1 8 (rows Zj []), .sl false 1 8 (rows Zj [])], .agg [.int .i64 v18.code, .int .i64 v18.index]]) (.tup _ _ (.cons _ _ _ _ (.agg _ _ (.cons _ _ _ _ (.YU _ _ _ (by decide)) (.cons _ _ _ _ (.YU _ _ _ (by decide)) .nil))) (.cons _ _ _ _ .s .nil)) rfl) h hsc (hr := by rintro rfl; exact ⟨rfl, d0t (by simp [d7g])⟩)
    ·refine rn ?_
     obtain ⟨v19, hv19, h⟩ := Zg h
     refine (i5L n _ _ _ _ hv19 _ _ _ _ _ gs0.1 gs0.2 (by simp) (d1Z.trans rfl) (d1Z.trans rfl) (d1Z.trans rfl) (d1Z.trans rfl)).mono ?_
     rintro d1 st1 ⟨rfl, rfl⟩
     refine rn ?_
     cases h
     exact d6b (gs0.1, gs0.2) (bu hsc)
   ·refine cf ?_
    refine d5I ?_; simp only [go_sem, fx]
    exact ⟨(gs0.1, gs0.2), (bu hsc)⟩
   ·try simp only [go_sem, fx]
    unfold d9T at h
    refine d1F hb ?_
    refine rr ?_
    exact fuo (.tup [.agg [.sl false 1 8 (rows Zj t0.1), .sl false 1 8 (rows Zj t0.2)], .agg [.int .i64 0, .int .i64 0]]) (.tup _ _ (.cons _ _ _ _ (.agg _ _ (.cons _ _ _ _ (.ref _ _ _ _ _ _ _ _ _ (i2c.trans rfl) i2e (by decide) (i5z _) (by simp only [go_sem])) (.cons _ _ _ _ (.ref _ _ _ _ _ _ _ _ _ (i2c.trans rfl) i2e (by decide) (i5z _) (by simp only [go_sem])) .nil))) (.cons _ _ _ _ .s .nil)) rfl) h hsc (hr := by rintro rfl; exact ⟨rfl, d0t (by simp [d7g])⟩)
theorem i7n (n : Nat) (a0 : Yn) (a1 : YH) (r : Yg) (h : d9v n a0 a1 = some r) : Pure Tryz.prog gl 82 [.agg [.sl false 2 40 (rows Yl.cells a0.hierarchy.types), .sl false 3 32 (rows Yw.cells a0.hierarchy.YL), .sl false 10 152 (rows Yi.cells a0.rules), .sl false 9 144 (rows YT.cells a0.Yy), .sl false 2 32 (rows Yq.cells a0.start.nodes)], .agg [.sl false 1 8 (rows Zj a1.rules), .sl false 1 8 (rows Zj a1.Yy)]] (.agg [.int .i64 r.code, .int .i64 r.index]) := by
 intro st
 unfold d9v at h
 have fx := trivial
 refine fb 72 [.cell 4 41] [0, 1, 2, 3, 4, 5, 6, 7, 8, 9, 14, 24, 25, 26, 27, 28, 29, 30, 31, 34, 35, 36, 37, 44, 45, 46, 51, 52, 53, 54, 61, 62, 63] Tryz.func82 fun hsc => ?_
 refine cl h (d8Q n _) fun v1 h => ?_
 refine cd h (fun hc h => ?_) fun hc h => ?_
 ·exact rt
 ·refine cd h (fun hc h => ?_) fun hc h => ?_
  ·refine cl h (d5C _ _) fun v2 h => ?_
   exact rt
  ·refine aln 34 fun hl0 => ?_
   refine rng (body := d6K a1) (kk := d6L a1) (n := a1.rules.length) (s0 := ())
    (fun (gs0 : Unit) (k0 : Nat) (s0 : Unit) => [(3, .ptr (st.length + 1) 0 0 0), (4, .ptr (st.length + 2) 0 0 0), (34, .sl false 1 8 (rows Zj a1.rules)), (35, .int .i64 (↑a1.rules.length : Int)), (36, .int .i64 (↑k0 : Int))])
    (fun (gs0 : Unit) (k0 : Nat) (s0 : Unit) => st ++ [none, some (.arr 0 2 0 [[.sl false 1 8 (rows Zj a1.rules), .sl false 1 8 (rows Zj a1.Yy)]]), some (.arr 0 2 0 [[.int .i64 0, .int .i64 0]])])
    (fun (gt0 : Unit) (t0 : Unit) => [(3, .ptr (st.length + 1) 0 0 0), (4, .ptr (st.length + 2) 0 0 0)])
    (fun (gt0 : Unit) (t0 : Unit) => st ++ [none, some (.arr 0 2 0 [[.sl false 1 8 (rows Zj a1.rules), .sl false 1 8 (rows Zj a1.Yy)]]), some (.arr 0 2 0 [[.int .i64 0, .int .i64 0]])])
    () fx hl0 h (bm hsc)
    (fun gs0 k0 s0 b0 fx h hx0 => ?_) (fun gs0 s0 => ?_) (fun gt0 t0 fr1 st1 h hb => ?_)
   ·unfold d6K at h
    refine ct ?_
    refine cd h (fun hc h => ?_) fun hc h => ?_
    ·refine cl h (d5C _ _) fun v4 h => ?_
     refine ra ?_
     cases h
     refine Za ?_; have h := congrArg some (hx0 _ rfl)
     exact rt
    ·refine rn ?_
     cases h
     exact d6b () (bm hsc)
   ·refine cf ?_
    refine d5I ?_; simp only [go_sem, fx]
    exact ⟨(), (bm hsc)⟩
   ·try simp only [go_sem, fx]
    unfold d6L at h
    refine d1F hb ?_
    refine aln 51 fun hl1 => ?_
    refine rng (body := d7N a1) (kk := d9U) (n := a1.Yy.length) (s0 := ())
     (fun (gs1 : Unit) (k1 : Nat) (s1 : Unit) => [(3, .ptr (st.length + 1) 0 0 0), (4, .ptr (st.length + 2) 0 0 0), (51, .sl false 1 8 (rows Zj a1.Yy)), (52, .int .i64 (↑a1.Yy.length : Int)), (53, .int .i64 (↑k1 : Int))])
     (fun (gs1 : Unit) (k1 : Nat) (s1 : Unit) => st ++ [none, some (.arr 0 2 0 [[.sl false 1 8 (rows Zj a1.rules), .sl false 1 8 (rows Zj a1.Yy)]]), some (.arr 0 2 0 [[.int .i64 0, .int .i64 0]])])
     (fun (gt1 : Unit) (t1 : Unit) => [(4, .ptr (st.length + 2) 0 0 0)])
     (fun (gt1 : Unit) (t1 : Unit) => st ++ [none, none, some (.arr 0 2 0 [[.int .i64 0, .int .i64 0]])])
     () fx hl1 h (bm hsc)
     (fun gs1 k1 s1 b1 fx h hx1 => ?_) (fun gs1 s1 => ?_) (fun gt1 t1 fr1 st1 h hb => ?_)
    ·unfold d7N at h
     refine ct ?_
     refine cd h (fun hc h => ?_) fun hc h => ?_
     ·refine cl h (d5C _ _) fun v6 h => ?_
      refine ra ?_
      cases h
      refine Za ?_; have h := congrArg some (hx1 _ rfl)
      exact rt
     ·refine rn ?_
      cases h
      exact d6b () (bm hsc)
    ·refine cf ?_
     refine d5I ?_; simp only [go_sem, fx]
     exact ⟨(), (bm hsc)⟩
    ·try simp only [go_sem, fx]
     unfold d9U at h
     refine d1F hb ?_
     exact rt
theorem d8s (a0 : Int) (r : Int) (h : d6F a0 = some r) : Pure Tryz.prog gl 155 [.int .i64 a0] (.int .u64 r) := by
 intro st
 unfold d6F at h
 have fx := trivial
 refine fb 12 [.tmp 2] [0, 2, 4] Tryz.func155 fun hsc => ?_
 refine cd h (fun hc h => ?_) fun hc h => ?_
 ·exact rt
 ·exact rt
theorem i0X (n : Nat) (a0 : Int) (a1 : Int) (r : Int) (h : d8m n a0 a1 = some r) : Pure Tryz.prog gl 154 [.int .u64 a0, .int .u64 a1] (.int .u64 r) := by
 intro st
 unfold d8m at h
 have fx := trivial
 refine fb 12 [.tmp 4] [0, 1, 4, 6] Tryz.func154 fun hsc => ?_
 refine rn ?_
 refine Zt (body := i0U) (kk := i3g) (n := n) (s0 := (a0, a1))
  (fun (gs0 : Unit) (s0 : Int × Int) => [(0, .int .u64 s0.1), (1, .int .u64 s0.2)])
  (fun (gs0 : Unit) (s0 : Int × Int) => st)
  (fun (gt0 : Unit) (t0 : Int) => [(0, .int .u64 t0)])
  (fun (gt0 : Unit) (t0 : Int) => st)
  () h (d6c hsc)
  (fun gs0 s0 b0 h hx0 => ?_) (fun gt0 t0 fr1 st1 h hb => ?_)
 ·unfold i0U at h
  refine cd h (fun hc h => ?_) fun hc h => ?_
  ·refine rn ?_
   obtain ⟨fx, h⟩ := ck fx h
   refine dw [] 0 ?_
   cases h
   exact ZE () (d6c hsc)
  ·refine rn ?_
   cases h
   exact d0V () (d6c hsc)
 ·try simp only [go_sem, fx]
  unfold i3g at h
  refine d1F hb ?_
  exact rt
theorem i8v (a0 : Bool) (a1 : Int) (a2 : Int) (r : Ym × Yg) (h : i4V a0 a1 a2 = some r) : Pure Tryz.prog gl 161 [.bool a0, .int .u64 a1, .int .u64 a2] (.tup [.agg [.int .i64 r.1.num, .int .i64 r.1.den], .agg [.int .i64 r.2.code, .int .i64 r.2.index]]) := by
 intro st
 unfold i4V at h
 have fx := trivial
 refine fb 29 [.cell 6 71, .cell 7 41] [0, 1, 2, 6, 7, 8, 12, 13, 14, 22] Tryz.func161 fun hsc => ?_
 refine cd h (fun hc h => ?_) fun hc h => ?_
 ·exact rt
 ·refine cd h (fun hc h => ?_) fun hc h => ?_
  ·exact rt
  ·exact rt
theorem i9H (n : Nat) (a0 : Int) (a1 : Int) (r : Ym × Yg) (h : i2o n a0 a1 = some r) : Pure Tryz.prog gl 146 [.int .i64 a0, .int .i64 a1] (.tup [.agg [.int .i64 r.1.num, .int .i64 r.1.den], .agg [.int .i64 r.2.code, .int .i64 r.2.index]]) := by
 intro st
 unfold i2o at h
 have fx := trivial
 refine fb 34 [.cell 4 71, .cell 5 41] [0, 1, 4, 5, 6, 7, 8, 10] Tryz.func146 fun hsc => ?_
 refine cd h (fun hc h => ?_) fun hc h => ?_
 ·exact rt
 ·refine cl h (d8s _) fun v1 h => ?_
  refine cl h (d8s _) fun v2 h => ?_
  refine cl h (i0X n _ _) fun v3 h => ?_
  refine rn ?_
  obtain ⟨fx, h⟩ := ck fx h
  obtain ⟨fx, h⟩ := ck fx h
  refine dw [] 0 ?_
  obtain ⟨v7, hv7, h⟩ := Zg h
  refine Yt (i8v _ _ _ _ hv7) ?_
  try simp only [go_sem, fx]
  exact rt
theorem i0e (n : Nat) (a1 : (List Int)) (l0 : (List Int)) (l2 : (List Int)) (r : (List Ym)) (h : d5A n a1 l0 l2 = some r) : ∀ (st : St) (o0 o1 o2 q0 q2 : Nat) (hnd : [o0, o1, o2].Nodup) (d7g : Am.look st o0 = some (.arr q0 1 8 (rows Zj l0))) (i1p : Am.look st o1 = some (.arr 0 1 0 [[.ref true o2 q2 0 l2.length]])) (i6u : Am.look st o2 = some (.arr q2 1 8 (rows Zj l2))), Am.Spec Tryz.prog gl 145 [.ref false o0 q0 0 l0.length, .sl false 1 8 (rows Zj a1), .ptr o1 0 0 0] st (fun d st' => d = .sl false 2 16 (rows Ym.cells r) ∧ st' = puts st []) := by
 intro st o0 o1 o2 q0 q2 hnd d7g i1p i6u
 unfold d5A at h
 have ho0 := d2c d7g
 have ho1 := d2c i1p
 have ho2 := d2c i6u
 have fx := fa (fa (fa (idf ho0) (idf ho1)) (idf ho2)) (nd3 hnd)
 refine fb 41 [.tmp 5] [0, 1, 2, 5, 6, 7, 8, 9, 10, 11, 12, 13, 22] Tryz.func145 fun hsc => ?_
 refine i0b (s' := (d2n st [(o0, (.arr q0 1 8 (rows Zj l0))), (o1, (.arr 0 1 0 [[.ref true o2 q2 0 l2.length]])), (o2, (.arr q2 1 8 (rows Zj l2)))])) (d0t (by simp [d7g, i1p, i6u])) ?_
 refine r0 ?_
 refine r0 ?_
 refine r0 ?_
 (repeat apply sq_)
 refine i2b 2 16 ?_
 try simp only [List.append_assoc, List.cons_append, List.nil_append]
 refine d1F (F := [(1, .sl false 1 8 (rows Zj a1)), (2, .ptr o1 0 0 0), (6, .ref false st.length 0 0 0), (10, .ref false o0 q0 0 l0.length), (11, .int .i64 (↑l0.length : Int)), (12, .int .i64 0)]) (T := (d2n st [(o0, (.arr q0 1 8 (rows Zj l0))), (o1, (.arr 0 1 0 [[.ref true o2 q2 0 l2.length]])), (o2, (.arr q2 1 8 (rows Zj l2)))]) ++ [some (.arr 0 2 16 (rows Ym.cells []))]) (p5h (by simp) (i1z hsc (by simp <;> omega)) (.lv (.nil _)) (by simp <;> omega) ⟨.s, .s, .nref _ _ _ _ _ _ (i6f.trans rfl), .s, .s, .s, trivial⟩ (by simp <;> omega)) ?_
 obtain ⟨fx, h⟩ := ck fx h
 (repeat apply sq_)
 refine rng (body := d5Z n l0 l2 a1) (kk := d7y) (n := l0.length) (s0 := [])
  (fun (gs0 : Nat) (k0 : Nat) (s0 : (List Ym)) => [(1, .sl false 1 8 (rows Zj a1)), (2, .ptr o1 0 0 0), (6, .ref false st.length gs0 0 s0.length), (10, .ref false o0 q0 0 l0.length), (11, .int .i64 (↑l0.length : Int)), (12, .int .i64 (↑k0 : Int))])
  (fun (gs0 : Nat) (k0 : Nat) (s0 : (List Ym)) => (d2n st [(o0, (.arr q0 1 8 (rows Zj l0))), (o1, (.arr 0 1 0 [[.ref true o2 q2 0 l2.length]])), (o2, (.arr q2 1 8 (rows Zj l2)))]) ++ [some (.arr gs0 2 16 (rows Ym.cells s0))])
  (fun (gt0 : Nat) (t0 : (List Ym)) => [(6, .ref false st.length gt0 0 t0.length)])
  (fun (gt0 : Nat) (t0 : (List Ym)) => (d2n st [(o0, (.arr q0 1 8 (rows Zj l0))), (o1, (.arr 0 1 0 [[.ref true o2 q2 0 l2.length]])), (o2, (.arr q2 1 8 (rows Zj l2)))]) ++ [some (.arr gt0 2 16 (rows Ym.cells t0))])
  0 fx fx.2 h (bu hsc)
  (fun gs0 k0 s0 b0 fx h hx0 => ?_) (fun gs0 s0 => ?_) (fun gt0 t0 fr1 st1 h hb => ?_)
 ·unfold d5Z at h
  refine ct ?_
  refine r0 ?_
  refine r0 ?_
  have fy := (show (rows Zj l0).getD k0 [] = Zj (get l0 k0) from d9f (E := Zj) (l := l0) (k := k0) (by first | omega | (simp; omega)))
  have fy := fa fy (show k0 < l0.length from by first | omega | (simp; omega))
  refine r1 ?_
  refine r0 ?_
  obtain ⟨fx, h⟩ := ck fx h
  have fy := (show (rows Zj l2).getD ((get l0 k0).toNat) [] = Zj (get l2 ((get l0 k0).toNat)) from d9f (E := Zj) (l := l2) (k := (get l0 k0).toNat) (by first | omega | (simp; omega)))
  have fy := fa fy (show (get l0 k0).toNat < l2.length from by first | omega | (simp; omega))
  refine r1 ?_
  refine cd h (fun hc h => ?_) fun hc h => ?_
  ·refine rs ?_
   obtain ⟨fx, h⟩ := ck fx h
   have fy := (show (rows Zj l2).getD ((get l0 k0).toNat) [] = Zj (get l2 ((get l0 k0).toNat)) from d9f (E := Zj) (l := l2) (k := (get l0 k0).toNat) (by first | omega | (simp; omega)))
   have fy := fa fy (show (get l0 k0).toNat < l2.length from by first | omega | (simp; omega))
   refine dwy [] 0 ?_
   obtain ⟨v33, hv33, h⟩ := Zg h
   refine Yt (i9H n _ _ _ hv33) ?_
   try simp only [go_sem, fx, fy]
   obtain ⟨c35, r2c, h⟩ := i1k h
   have fy := (show rows Ym.cells s0 ++ [[.int .i64 v33.1.num, .int .i64 v33.1.den]] = rows Ym.cells c35 from by rw [r2c]; first | exact d5W (E := Ym.cells) s0 [v33.1] | simp only [go_sem, rows, List.map_append, List.map_cons, List.map_nil])
   have fy := fa fy (show s0.length + 1 = c35.length from by rw [r2c]; simp)
   obtain ⟨fx, h⟩ := ck fx h
   refine r1 ?_
   refine rn ?_
   cases h
   exact d6b (gs0 + 1) (bu hsc)
  ·refine r0 ?_
   obtain ⟨c41, r2d, h⟩ := i1k h
   have fy := (show rows Ym.cells s0 ++ [[.int .i64 0, .int .i64 1]] = rows Ym.cells c41 from by rw [r2d]; first | exact d5W (E := Ym.cells) s0 [(Ym.mk 0 1)] | simp only [go_sem, rows, List.map_append, List.map_cons, List.map_nil])
   have fy := fa fy (show s0.length + 1 = c41.length from by rw [r2d]; simp)
   obtain ⟨fx, h⟩ := ck fx h
   refine r1 ?_
   refine rn ?_
   cases h
   exact d6b (gs0 + 1) (bu hsc)
 ·refine cf ?_
  refine d5I ?_; simp only [go_sem, fx]
  exact ⟨gs0, (bu hsc)⟩
 ·try simp only [go_sem, fx]
  unfold d7y at h
  refine d1F hb ?_
  refine rr ?_
  exact fuo (.sl false 2 16 (rows Ym.cells t0)) (.ref _ _ _ _ _ _ _ _ _ (i6f.trans rfl) p0X (by decide) (i5z _) (by simp only [go_sem])) h hsc (hr := by rintro rfl; exact ⟨rfl, d0t (by simp [d7g, i1p, i6u])⟩)
theorem i5n (n : Nat) (a0 : Yn) (a1 : YH) (r : (List Ym) × (List Ym)) (h : d7p n a0 a1 = some r) : Pure Tryz.prog gl 83 [.agg [.sl false 2 40 (rows Yl.cells a0.hierarchy.types), .sl false 3 32 (rows Yw.cells a0.hierarchy.YL), .sl false 10 152 (rows Yi.cells a0.rules), .sl false 9 144 (rows YT.cells a0.Yy), .sl false 2 32 (rows Yq.cells a0.start.nodes)], .agg [.sl false 1 8 (rows Zj a1.rules), .sl false 1 8 (rows Zj a1.Yy)]] (.tup [.sl false 2 16 (rows Ym.cells r.1), .sl false 2 16 (rows Ym.cells r.2)]) := by
 intro st
 unfold d7p at h
 have fx := trivial
 refine fb 95 [.tmp 4, .tmp 5] [0, 1, 2, 3, 4, 5, 6, 7, 8, 9, 10, 11, 12, 13, 14, 15, 22, 23, 24, 25, 55, 56, 57, 58] Tryz.func83 fun hsc => ?_
 refine r0 ?_
 obtain ⟨fx, h⟩ := ck fx h
 have fy := (show List.replicate a0.hierarchy.types.length [.int .i64 0] = rows Zj (List.replicate a0.hierarchy.types.length (default : Int)) from d8J (E := Zj) _ default)
 refine r1 ?_
 refine r0 ?_
 refine r0 ?_
 (repeat apply sq_)
 refine i2b 1 8 ?_
 try simp only [List.append_assoc, List.cons_append, List.nil_append]
 refine d1F (F := [(2, .ptr st.length 0 0 0), (3, .ptr (st.length + 1) 0 0 0), (6, .ptr (st.length + 3) 0 0 0), (7, .ref false (st.length + 4) 0 0 0), (8, .YU), (22, .sl false 10 152 (rows Yi.cells a0.rules)), (23, .int .i64 (↑a0.rules.length : Int)), (24, .int .i64 0)]) (T := st ++ [some (.arr 0 5 0 [[.sl false 2 40 (rows Yl.cells a0.hierarchy.types), .sl false 3 32 (rows Yw.cells a0.hierarchy.YL), .sl false 10 152 (rows Yi.cells a0.rules), .sl false 9 144 (rows YT.cells a0.Yy), .sl false 2 32 (rows Yq.cells a0.start.nodes)]]), some (.arr 0 2 0 [[.sl false 1 8 (rows Zj a1.rules), .sl false 1 8 (rows Zj a1.Yy)]]), some (.arr 0 1 8 (rows Zj (List.replicate a0.hierarchy.types.length (default : Int)))), some (.arr 0 1 0 [[.ref true (st.length + 2) 0 0 a0.hierarchy.types.length]]), some (.arr 0 1 8 (rows Zj []))]) (i9j hsc (.lv (.lv (.lv (.lv (.lv (.nil _)))))) (by simp) ⟨.s, .s, .s, .nref _ _ _ _ _ _ (i2z.trans rfl), .s, .s, .s, .s, trivial⟩ (by simp)) ?_
 refine aln 22 fun hl0 => ?_
 refine rng (body := d6G n a0 a1) (kk := d6H n a0 a1) (n := a0.rules.length) (s0 := ((List.replicate a0.hierarchy.types.length (default : Int)), []))
  (fun (gs0 : Nat × Nat) (k0 : Nat) (s0 : (List Int) × (List Int)) => [(2, .ptr st.length 0 0 0), (3, .ptr (st.length + 1) 0 0 0), (6, .ptr (st.length + 3) 0 0 0), (7, .ref false (st.length + 4) gs0.2 0 s0.2.length), (8, .YU), (22, .sl false 10 152 (rows Yi.cells a0.rules)), (23, .int .i64 (↑a0.rules.length : Int)), (24, .int .i64 (↑k0 : Int))])
  (fun (gs0 : Nat × Nat) (k0 : Nat) (s0 : (List Int) × (List Int)) => st ++ [some (.arr 0 5 0 [[.sl false 2 40 (rows Yl.cells a0.hierarchy.types), .sl false 3 32 (rows Yw.cells a0.hierarchy.YL), .sl false 10 152 (rows Yi.cells a0.rules), .sl false 9 144 (rows YT.cells a0.Yy), .sl false 2 32 (rows Yq.cells a0.start.nodes)]]), some (.arr 0 2 0 [[.sl false 1 8 (rows Zj a1.rules), .sl false 1 8 (rows Zj a1.Yy)]]), some (.arr gs0.1 1 8 (rows Zj s0.1)), some (.arr 0 1 0 [[.ref true (st.length + 2) gs0.1 0 s0.1.length]]), some (.arr gs0.2 1 8 (rows Zj s0.2))])
  (fun (gt0 : Nat × Nat) (t0 : (List Int) × (List Int)) => [(2, .ptr st.length 0 0 0), (3, .ptr (st.length + 1) 0 0 0), (6, .ptr (st.length + 3) 0 0 0), (7, .ref false (st.length + 4) gt0.2 0 t0.2.length), (8, .YU)])
  (fun (gt0 : Nat × Nat) (t0 : (List Int) × (List Int)) => st ++ [some (.arr 0 5 0 [[.sl false 2 40 (rows Yl.cells a0.hierarchy.types), .sl false 3 32 (rows Yw.cells a0.hierarchy.YL), .sl false 10 152 (rows Yi.cells a0.rules), .sl false 9 144 (rows YT.cells a0.Yy), .sl false 2 32 (rows Yq.cells a0.start.nodes)]]), some (.arr 0 2 0 [[.sl false 1 8 (rows Zj a1.rules), .sl false 1 8 (rows Zj a1.Yy)]]), some (.arr gt0.1 1 8 (rows Zj t0.1)), some (.arr 0 1 0 [[.ref true (st.length + 2) gt0.1 0 t0.1.length]]), some (.arr gt0.2 1 8 (rows Zj t0.2))])
  (0, 0) fx hl0 h (bm hsc (hu := (.lv (.lv (.lv (.live _ _ _ _ (.arr _ _ _ _ _ (.cons _ _ _ _ (.cons _ _ _ _ (i7M (by first | (simp; done) | simp [Fr.get])) .nil) (.same _))) (.lv (.nil _))))))))
  (fun gs0 k0 s0 b0 fx h hx0 => ?_) (fun gs0 s0 => ?_) (fun gt0 t0 fr1 st1 h hb => ?_)
 ·unfold d6G at h
  refine ct ?_
  refine rn ?_
  refine dw [] 0 ?_
  obtain ⟨v23, hv23, h⟩ := Zg h
  refine Yt (i1q n _ _ _ _ hv23) ?_
  obtain ⟨fx, h⟩ := ck fx h
  try simp only [go_sem, fx]
  obtain ⟨c27, r2e, h⟩ := i1k h
  have fy := (show rows Zj s0.2 ++ [[.int .i64 ((get ((get a0.rules k0).graph.nodes) v23.toNat).type)]] = rows Zj c27 from by rw [r2e]; first | exact d5W (E := Zj) s0.2 [(get ((get a0.rules k0).graph.nodes) v23.toNat).type] | simp only [go_sem, rows, List.map_append, List.map_cons, List.map_nil])
  have fy := fa fy (show s0.2.length + 1 = c27.length from by rw [r2e]; simp)
  obtain ⟨fx, h⟩ := ck fx h
  refine r1 ?_
  refine rs ?_
  obtain ⟨fx, h⟩ := ck fx h
  have fy := (show (rows Zj s0.1).getD (((get ((get a0.rules k0).graph.nodes) v23.toNat).type).toNat) [] = Zj (get s0.1 (((get ((get a0.rules k0).graph.nodes) v23.toNat).type).toNat)) from d9f (E := Zj) (l := s0.1) (k := ((get ((get a0.rules k0).graph.nodes) v23.toNat).type).toNat) (by first | omega | (simp; omega)))
  have fy := fa fy (show ((get ((get a0.rules k0).graph.nodes) v23.toNat).type).toNat < s0.1.length from by first | omega | (simp; omega))
  obtain ⟨fx, h⟩ := ck fx h
  have fy := fa fy (show (rows Zj s0.1).getD (((get ((get a0.rules k0).graph.nodes) v23.toNat).type).toNat) [] = Zj (get s0.1 (((get ((get a0.rules k0).graph.nodes) v23.toNat).type).toNat)) from d9f (E := Zj) (l := s0.1) (k := ((get ((get a0.rules k0).graph.nodes) v23.toNat).type).toNat) (by first | omega | (simp; omega)))
  have fy := fa fy (show ((get ((get a0.rules k0).graph.nodes) v23.toNat).type).toNat < s0.1.length from by first | omega | (simp; omega))
  obtain ⟨c39, r2f, h⟩ := i1k h
  have fy := fa fy (show (rows Zj s0.1).set (((get ((get a0.rules k0).graph.nodes) v23.toNat).type).toNat) [.int .i64 (wr .i64 ((get s0.1 (((get ((get a0.rules k0).graph.nodes) v23.toNat).type).toNat)) + (get a1.rules k0)))] = rows Zj c39 from by rw [r2f]; first | exact i7L (E := Zj) _ _ _ | simp only [go_sem, rows, List.map_set])
  refine dwy [] 0 ?_
  have e41 : D.ref true (st.length + 2) gs0.1 0 s0.1.length = D.ref true (st.length + 2) gs0.1 0 c39.length := by simp [r2f]
  simp only [e41]
  refine rn ?_
  cases h
  exact d6b (gs0.1, (gs0.2 + 1)) (bm hsc)
 ·refine cf ?_
  refine d5I ?_; simp only [go_sem, fx]
  exact ⟨(gs0.1, gs0.2), (bm hsc)⟩
 ·try simp only [go_sem, fx]
  unfold d6H at h
  refine d1F hb ?_
  refine r0 ?_
  (repeat apply sq_)
  refine i2b 1 8 ?_
  try simp only [List.append_assoc, List.cons_append, List.nil_append]
  refine d1F (F := [(3, .ptr (st.length + 1) 0 0 0), (6, .ptr (st.length + 3) 0 0 0), (7, .ref false (st.length + 4) gt0.2 0 t0.2.length), (8, .ref false (st.length + 5) 0 0 0), (55, .sl false 9 144 (rows YT.cells a0.Yy)), (56, .int .i64 (↑a0.Yy.length : Int)), (57, .int .i64 0)]) (T := st ++ [some (.arr 0 5 0 [[.sl false 2 40 (rows Yl.cells a0.hierarchy.types), .sl false 3 32 (rows Yw.cells a0.hierarchy.YL), .sl false 10 152 (rows Yi.cells a0.rules), .sl false 9 144 (rows YT.cells a0.Yy), .sl false 2 32 (rows Yq.cells a0.start.nodes)]]), some (.arr 0 2 0 [[.sl false 1 8 (rows Zj a1.rules), .sl false 1 8 (rows Zj a1.Yy)]]), some (.arr gt0.1 1 8 (rows Zj t0.1)), some (.arr 0 1 0 [[.ref true (st.length + 2) gt0.1 0 t0.1.length]]), some (.arr gt0.2 1 8 (rows Zj t0.2)), some (.arr 0 1 8 (rows Zj []))]) (i9j hsc (.lv (.lv (.lv (.lv (.lv (.lv (.nil _))))))) (by simp) ⟨.s, .s, .s, .nref _ _ _ _ _ _ (i2z.trans rfl), .s, .s, .s, trivial⟩ (by simp)) ?_
  refine aln 55 fun hl1 => ?_
  refine rng (body := d6I a0 a1) (kk := d6J n a1 t0) (n := a0.Yy.length) (s0 := (t0.1, []))
   (fun (gs1 : Nat × Nat) (k1 : Nat) (s1 : (List Int) × (List Int)) => [(3, .ptr (st.length + 1) 0 0 0), (6, .ptr (st.length + 3) 0 0 0), (7, .ref false (st.length + 4) gt0.2 0 t0.2.length), (8, .ref false (st.length + 5) gs1.2 0 s1.2.length), (55, .sl false 9 144 (rows YT.cells a0.Yy)), (56, .int .i64 (↑a0.Yy.length : Int)), (57, .int .i64 (↑k1 : Int))])
   (fun (gs1 : Nat × Nat) (k1 : Nat) (s1 : (List Int) × (List Int)) => st ++ [none, some (.arr 0 2 0 [[.sl false 1 8 (rows Zj a1.rules), .sl false 1 8 (rows Zj a1.Yy)]]), some (.arr gs1.1 1 8 (rows Zj s1.1)), some (.arr 0 1 0 [[.ref true (st.length + 2) gs1.1 0 s1.1.length]]), some (.arr gt0.2 1 8 (rows Zj t0.2)), some (.arr gs1.2 1 8 (rows Zj s1.2))])
   (fun (gt1 : Nat × Nat) (t1 : (List Int) × (List Int)) => [(3, .ptr (st.length + 1) 0 0 0), (6, .ptr (st.length + 3) 0 0 0), (7, .ref false (st.length + 4) gt0.2 0 t0.2.length), (8, .ref false (st.length + 5) gt1.2 0 t1.2.length)])
   (fun (gt1 : Nat × Nat) (t1 : (List Int) × (List Int)) => st ++ [none, some (.arr 0 2 0 [[.sl false 1 8 (rows Zj a1.rules), .sl false 1 8 (rows Zj a1.Yy)]]), some (.arr gt1.1 1 8 (rows Zj t1.1)), some (.arr 0 1 0 [[.ref true (st.length + 2) gt1.1 0 t1.1.length]]), some (.arr gt0.2 1 8 (rows Zj t0.2)), some (.arr gt1.2 1 8 (rows Zj t1.2))])
   (gt0.1, 0) fx hl1 h (bm hsc)
   (fun gs1 k1 s1 b1 fx h hx1 => ?_) (fun gs1 s1 => ?_) (fun gt1 t1 fr1 st1 h hb => ?_)
  ·unfold d6I at h
   refine ct ?_
   obtain ⟨fx, h⟩ := ck fx h
   refine r0 ?_
   refine r0 ?_
   refine r0 ?_
   refine r0 ?_
   obtain ⟨c61, r2g, h⟩ := i1k h
   have fy := (show rows Zj s1.2 ++ [[.int .i64 ((get ((get a0.Yy k1).graph.nodes) 0).type)]] = rows Zj c61 from by rw [r2g]; first | exact d5W (E := Zj) s1.2 [(get ((get a0.Yy k1).graph.nodes) 0).type] | simp only [go_sem, rows, List.map_append, List.map_cons, List.map_nil])
   have fy := fa fy (show s1.2.length + 1 = c61.length from by rw [r2g]; simp)
   obtain ⟨fx, h⟩ := ck fx h
   refine r1 ?_
   refine rs ?_
   obtain ⟨fx, h⟩ := ck fx h
   have fy := (show (rows Zj s1.1).getD (((get ((get a0.Yy k1).graph.nodes) 0).type).toNat) [] = Zj (get s1.1 (((get ((get a0.Yy k1).graph.nodes) 0).type).toNat)) from d9f (E := Zj) (l := s1.1) (k := ((get ((get a0.Yy k1).graph.nodes) 0).type).toNat) (by first | omega | (simp; omega)))
   have fy := fa fy (show ((get ((get a0.Yy k1).graph.nodes) 0).type).toNat < s1.1.length from by first | omega | (simp; omega))
   obtain ⟨fx, h⟩ := ck fx h
   have fy := fa fy (show (rows Zj s1.1).getD (((get ((get a0.Yy k1).graph.nodes) 0).type).toNat) [] = Zj (get s1.1 (((get ((get a0.Yy k1).graph.nodes) 0).type).toNat)) from d9f (E := Zj) (l := s1.1) (k := ((get ((get a0.Yy k1).graph.nodes) 0).type).toNat) (by first | omega | (simp; omega)))
   have fy := fa fy (show ((get ((get a0.Yy k1).graph.nodes) 0).type).toNat < s1.1.length from by first | omega | (simp; omega))
   obtain ⟨c73, r2h, h⟩ := i1k h
   have fy := fa fy (show (rows Zj s1.1).set (((get ((get a0.Yy k1).graph.nodes) 0).type).toNat) [.int .i64 (wr .i64 ((get s1.1 (((get ((get a0.Yy k1).graph.nodes) 0).type).toNat)) + (get a1.Yy k1)))] = rows Zj c73 from by rw [r2h]; first | exact i7L (E := Zj) _ _ _ | simp only [go_sem, rows, List.map_set])
   refine dwy [] 0 ?_
   have e75 : D.ref true (st.length + 2) gs1.1 0 s1.1.length = D.ref true (st.length + 2) gs1.1 0 c73.length := by simp [r2h]
   simp only [e75]
   refine rn ?_
   cases h
   exact d6b (gs1.1, (gs1.2 + 1)) (bm hsc)
  ·refine cf ?_
   refine d5I ?_; simp only [go_sem, fx]
   exact ⟨(gs1.1, gs1.2), (bm hsc)⟩
  ·try simp only [go_sem, fx]
   unfold d6J at h
   refine d1F hb ?_
   refine rn ?_
   refine dw [4, 8, 9] 0 ?_
   obtain ⟨v76, hv76, h⟩ := Zg h
   refine i3q [(st.length + 4), (st.length + 3), (st.length + 2)] (fun st2 h2 => (i0e n _ _ _ _ hv76 st2 _ _ _ gt0.2 gt1.1 (by simp) ((h2 _ (by simp)).trans (d2H.trans rfl)) ((h2 _ (by simp)).trans (d2H.trans rfl)) ((h2 _ (by simp)).trans (d2H.trans rfl)))) (by simp) (by simp only [List.mem_cons, List.not_mem_nil, or_false, forall_eq_or_imp, forall_eq]; exact ⟨⟨by first | omega | (simp <;> omega), _, (d2H.trans rfl), Ob.noConfusion⟩, ⟨by first | omega | (simp <;> omega), _, (d2H.trans rfl), Ob.noConfusion⟩, ⟨by first | omega | (simp <;> omega), _, (d2H.trans rfl), Ob.noConfusion⟩⟩) (by simp) ?_
   try simp only [go_sem, fx]
   obtain ⟨v77, hv77, h⟩ := Zg h
   refine i3q [(st.length + 5), (st.length + 3), (st.length + 2)] (fun st2 h2 => (i0e n _ _ _ _ hv77 st2 _ _ _ gt1.2 gt1.1 (by simp) ((h2 _ (by simp)).trans (d2H.trans rfl)) ((h2 _ (by simp)).trans (d2H.trans rfl)) ((h2 _ (by simp)).trans (d2H.trans rfl)))) (by simp) (by simp only [List.mem_cons, List.not_mem_nil, or_false, forall_eq_or_imp, forall_eq]; exact ⟨⟨by first | omega | (simp <;> omega), _, (d2H.trans rfl), Ob.noConfusion⟩, ⟨by first | omega | (simp <;> omega), _, (d2H.trans rfl), Ob.noConfusion⟩, ⟨by first | omega | (simp <;> omega), _, (d2H.trans rfl), Ob.noConfusion⟩⟩) (by simp) ?_
   try simp only [go_sem, fx]
   try refine ⟨by (simp <;> omega), ?_⟩
   exact rt
end Go.Proofs.YtgaeiccgdpnkkaaGreatDoor
