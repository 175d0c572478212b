import Derived.Test.YtgaeiccgdpnkkaaGreatDoorPWalk2
set_option linter.unusedVariables false
set_option linter.unusedSimpArgs false
set_option maxHeartbeats 2000000
set_option maxRecDepth 100000
namespace Go.Proofs.YtgaeiccgdpnkkaaGreatDoor
open Go Go.Am
theorem d9d (n : Nat) (a0 : Yo) (a1 : YB) (a2 : Yz) (r : Yg) (h : d6d n a0 a1 a2 = some r) : Pure Tryz.prog gl 119 [.agg [.sl false 2 40 (rows Yl.cells a0.types), .sl false 3 32 (rows Yw.cells a0.YL)], .agg [.sl false 1 8 (rows d3L a1.up), .sl false 1 8 (rows d3L a1.down)], .agg [.sl false 2 32 (rows Yq.cells a2.nodes)]] (.agg [.int .i64 r.code, .int .i64 r.index]) := by
 intro st
 unfold d6d at h
 have fx := trivial
 refine fb 74 [.cell 6 41] [0, 1, 2, 3, 4, 5, 6, 7, 8, 9, 11, 12, 13, 19, 22, 23, 24, 25, 30, 31, 32, 33, 50, 51, 52, 53, 54, 55, 56, 57, 58, 59, 60, 61, 62, 70] Tryz.func119 fun hsc => ?_
 refine cl h (i7o _ _) fun v1 h => ?_
 refine cd h (fun hc h => ?_) fun hc h => ?_
 ·exact rt
 ·refine aln 22 fun hl0 => ?_
  refine rng (body := d6Z a2 a0 a1) (kk := d7c n a2) (n := a2.nodes.length) (s0 := ())
   (fun (gs0 : Unit) (k0 : Nat) (s0 : Unit) => [(3, .ptr st.length 0 0 0), (4, .ptr (st.length + 1) 0 0 0), (5, .ptr (st.length + 2) 0 0 0), (6, .ptr (st.length + 3) 0 0 0), (22, .sl false 2 32 (rows Yq.cells a2.nodes)), (23, .int .i64 (↑a2.nodes.length : Int)), (24, .int .i64 (↑k0 : Int))])
   (fun (gs0 : Unit) (k0 : Nat) (s0 : Unit) => st ++ [some (.arr 0 2 0 [[.sl false 2 40 (rows Yl.cells a0.types), .sl false 3 32 (rows Yw.cells a0.YL)]]), some (.arr 0 2 0 [[.sl false 1 8 (rows d3L a1.up), .sl false 1 8 (rows d3L a1.down)]]), some (.arr 0 1 0 [[.sl false 2 32 (rows Yq.cells a2.nodes)]]), some (.arr 0 2 0 [[.int .i64 0, .int .i64 0]])])
   (fun (gt0 : Unit) (t0 : Unit) => [(5, .ptr (st.length + 2) 0 0 0), (6, .ptr (st.length + 3) 0 0 0)])
   (fun (gt0 : Unit) (t0 : Unit) => st ++ [none, none, some (.arr 0 1 0 [[.sl false 2 32 (rows Yq.cells a2.nodes)]]), some (.arr 0 2 0 [[.int .i64 0, .int .i64 0]])])
   () fx hl0 h (bm hsc)
   (fun gs0 k0 s0 b0 fx h hx0 => ?_) (fun gs0 s0 => ?_) (fun gt0 t0 fr1 st1 h hb => ?_)
  ·unfold d6Z at h
   refine ct ?_
   refine aln 30 fun hl2 => ?_
   refine rng (body := d7a a2 k0 a0 a1) (kk := d7b) (n := ((get a2.nodes k0).links).length) (s0 := ())
    (fun (gs2 : Unit) (k2 : Nat) (s2 : Unit) => [(3, .ptr st.length 0 0 0), (4, .ptr (st.length + 1) 0 0 0), (5, .ptr (st.length + 2) 0 0 0), (6, .ptr (st.length + 3) 0 0 0), (8, .int .i64 (↑k0 : Int)), (9, .ptr (st.length + 4) 0 0 0), (22, .sl false 2 32 (rows Yq.cells a2.nodes)), (23, .int .i64 (↑a2.nodes.length : Int)), (24, .int .i64 (↑k0 : Int)), (30, .sl false 2 16 (rows Zh.cells ((get a2.nodes k0).links))), (31, .int .i64 (↑(((get a2.nodes k0).links).length) : Int)), (32, .int .i64 (↑k2 : Int))])
    (fun (gs2 : Unit) (k2 : Nat) (s2 : Unit) => st ++ [some (.arr 0 2 0 [[.sl false 2 40 (rows Yl.cells a0.types), .sl false 3 32 (rows Yw.cells a0.YL)]]), some (.arr 0 2 0 [[.sl false 1 8 (rows d3L a1.up), .sl false 1 8 (rows d3L a1.down)]]), some (.arr 0 1 0 [[.sl false 2 32 (rows Yq.cells a2.nodes)]]), some (.arr 0 2 0 [[.int .i64 0, .int .i64 0]]), some (.arr 0 2 0 [[.int .i64 ((get a2.nodes k0).type), .sl false 2 16 (rows Zh.cells ((get a2.nodes k0).links))]])])
    (fun (gt2 : Unit) (t2 : Unit) => [(3, .ptr st.length 0 0 0), (4, .ptr (st.length + 1) 0 0 0), (5, .ptr (st.length + 2) 0 0 0), (6, .ptr (st.length + 3) 0 0 0), (22, .sl false 2 32 (rows Yq.cells a2.nodes)), (23, .int .i64 (↑a2.nodes.length : Int)), (24, .int .i64 (↑k0 : Int))])
    (fun (gt2 : Unit) (t2 : Unit) => st ++ [some (.arr 0 2 0 [[.sl false 2 40 (rows Yl.cells a0.types), .sl false 3 32 (rows Yw.cells a0.YL)]]), some (.arr 0 2 0 [[.sl false 1 8 (rows d3L a1.up), .sl false 1 8 (rows d3L a1.down)]]), some (.arr 0 1 0 [[.sl false 2 32 (rows Yq.cells a2.nodes)]]), some (.arr 0 2 0 [[.int .i64 0, .int .i64 0]])])
    () fx hl2 h (bm hsc)
    (fun gs2 k2 s2 b2 fx h hx2 => ?_) (fun gs2 s2 => ?_) (fun gt2 t2 fr1 st1 h hb => ?_)
   ·unfold d7a at h
    refine ct ?_
    obtain ⟨fx, h⟩ := ck fx h
    refine rn ?_
    refine dw [] 0 ?_
    obtain ⟨v28, hv28, h⟩ := Zg h
    refine Yt (d7E _ _ _ _ hv28) ?_
    obtain ⟨fx, h⟩ := ck fx h
    try simp only [go_sem, fx]
    obtain ⟨v32, hv32, h⟩ := Zg h
    refine d6z (fun hG => (d7E _ _ _ _ (i5y hv32 (by simpa using hG)))) ?_
    try simp only [go_sem, fx]
    refine cd h (fun hc h => ?_) fun hc h => ?_
    ·refine cl h (d5D _ _) fun v33 h => ?_
     refine ra ?_
     cases h
     refine Za ?_; obtain rfl := hx2 _ rfl; try simp only [go_sem, fx]
     refine Za ?_; have h := congrArg some (hx0 _ rfl)
     exact rt
    ·refine rn ?_
     cases h
     exact d6b () (bm hsc)
   ·refine cf ?_
    refine d5I ?_; simp only [go_sem, fx]
    exact ⟨(), (bm hsc)⟩
   ·try simp only [go_sem, fx]
    unfold d7b at h
    refine d1F hb ?_
    refine rn ?_
    cases h
    exact d6b () (bm hsc)
  ·refine cf ?_
   refine d5I ?_; simp only [go_sem, fx]
   exact ⟨(), (bm hsc)⟩
  ·try simp only [go_sem, fx]
   unfold d7c at h
   refine d1F hb ?_
   refine cl h (i3j n _) fun v34 h => ?_
   refine cd h (fun hc h => ?_) fun hc h => ?_
   ·refine cl h (d5D _ _) fun v35 h => ?_
    exact rt
   ·exact rt
theorem i1s (a0 : Int) (r : Bool) (h : d9R a0 = some r) : Pure Tryz.prog gl 224 [.int .i64 a0] (.bool r) := by
 intro st
 unfold d9R at h
 have fx := trivial
 refine fb 6 [.tmp 2] [0, 2] Tryz.func224 fun hsc => ?_
 exact rt
theorem i3E (a0 : Int) (a1 : Int) (r : Int) (h : d6C a0 a1 = some r) : Pure Tryz.prog gl 190 [.int .i64 a0, .int .i64 a1] (.int .i64 r) := by
 intro st
 unfold d6C at h
 have fx := trivial
 refine fb 20 [.tmp 4] [0, 1, 4, 5, 6, 11, 12, 13, 16, 19] Tryz.func190 fun hsc => ?_
 refine cl h (i1s _) fun v1 h => ?_
 refine cl h (i1s _) fun v2 h => ?_
 refine cd h (fun hc h => ?_) fun hc h => ?_
 ·refine cd h (fun hc h => ?_) fun hc h => ?_
  ·exact rt
  ·exact rt
 ·refine cd h (fun hc h => ?_) fun hc h => ?_
  ·exact rt
  ·refine cd h (fun hc h => ?_) fun hc h => ?_
   ·exact rt
   ·refine cd h (fun hc h => ?_) fun hc h => ?_
    ·exact rt
    ·exact rt
theorem i0D (a0 : Zh) (a1 : Int) (r : Int) (h : d6p a0 a1 = some r) : Pure Tryz.prog gl 189 [.agg [.int .i64 a0.d6N, .int .i64 a0.to_], .int .i64 a1] (.int .i64 r) := by
 intro st
 unfold d6p at h
 have fx := trivial
 refine fb 9 [.tmp 4] [0, 1, 2, 4] Tryz.func189 fun hsc => ?_
 refine cl h (i3E _ _) fun v1 h => ?_
 exact rt
theorem d4F (n : Nat) (a0 : (List Zh)) (a1 : Int) (r : Int × Bool) (h : Zm n a0 a1 = some r) : Pure Tryz.prog gl 188 [.sl false 2 16 (rows Zh.cells a0), .int .i64 a1, .fn 189 [] []] (.tup [.int .i64 r.1, .bool r.2]) := by
 intro st
 unfold Zm at h
 have fx := trivial
 refine fb 49 [.tmp 6, .tmp 7] [0, 1, 2, 6, 7, 8, 9, 10, 11, 17, 31, 40, 41, 42, 43, 44, 45, 46, 47] Tryz.func188 fun hsc => ?_
 refine rn ?_
 refine Zt (body := Zu a0 a1) (kk := Zv a0 a1) (n := n) (s0 := ((↑a0.length : Int), 0))
  (fun (gs0 : Unit) (s0 : Int × Int) => [(0, .sl false 2 16 (rows Zh.cells a0)), (1, .int .i64 a1), (2, .fn 189 [] []), (8, .int .i64 (↑a0.length : Int)), (9, .int .i64 s0.2), (10, .int .i64 s0.1)])
  (fun (gs0 : Unit) (s0 : Int × Int) => st)
  (fun (gt0 : Unit) (t0 : Int) => [(0, .sl false 2 16 (rows Zh.cells a0)), (1, .int .i64 a1), (2, .fn 189 [] []), (8, .int .i64 (↑a0.length : Int)), (9, .int .i64 t0)])
  (fun (gt0 : Unit) (t0 : Int) => st)
  () h (d6c hsc)
  (fun gs0 s0 b0 h hx0 => ?_) (fun gt0 t0 fr1 st1 h hb => ?_)
 ·unfold Zu at h
  refine cd h (fun hc h => ?_) fun hc h => ?_
  ·obtain ⟨fx, h⟩ := ck fx h
   refine cl h (i0D _ _) fun v6 h => ?_
   refine cd h (fun hc h => ?_) fun hc h => ?_
   ·refine rn ?_
    cases h
    exact ZE () (d6c hsc)
   ·refine rn ?_
    cases h
    exact ZE () (d6c hsc)
  ·refine rn ?_
   cases h
   exact d0V () (d6c hsc)
 ·try simp only [go_sem, fx]
  unfold Zv at h
  refine d1F hb ?_
  obtain ⟨fx, h⟩ := ck fx h
  refine rn ?_
  obtain ⟨v10, hv10, h⟩ := Zg h
  refine d8Z (fun hG => (i0D _ _ _ (i5y hv10 (by simpa using hG)))) ?_
  exact rt
theorem i1q (n : Nat) (a0 : Yz) (a1 : Int) (a2 : Int) (r : Int) (h : d6e n a0 a1 a2 = some r) : Pure Tryz.prog gl 144 [.agg [.sl false 2 32 (rows Yq.cells a0.nodes)], .int .i64 a1, .int .i64 a2] (.int .i64 r) := by
 intro st
 unfold d6e at h
 have fx := trivial
 refine fb 32 [.tmp 6] [0, 1, 2, 3, 6, 7, 8, 21] Tryz.func144 fun hsc => ?_
 obtain ⟨fx, h⟩ := ck fx h
 refine cl h (d4F n _ _) fun v3 h => ?_
 refine cd h (fun hc h => ?_) fun hc h => ?_
 ·exact rt
 ·obtain ⟨fx, h⟩ := ck fx h
  exact rt
theorem i3F (n : Nat) (a0 : Yz) (a1 : Int) (r : Bool) (h : d4r n a0 a1 = some r) : Pure Tryz.prog gl 174 [.agg [.sl false 2 32 (rows Yq.cells a0.nodes)], .int .i64 a1] (.bool r) := by
 intro st
 unfold d4r at h
 have fx := trivial
 refine fb 18 [.tmp 4] [0, 1, 2, 4, 5, 6, 7, 16] Tryz.func174 fun hsc => ?_
 refine rn ?_
 refine rng (body := d2I n a0 a1) (kk := d5X) (n := 4) (s0 := ())
  (fun (gs0 : Unit) (k0 : Nat) (s0 : Unit) => [(1, .int .i64 a1), (2, .ptr st.length 0 0 0), (6, .int .i64 (↑k0 : Int))])
  (fun (gs0 : Unit) (k0 : Nat) (s0 : Unit) => st ++ [some (.arr 0 1 0 [[.sl false 2 32 (rows Yq.cells a0.nodes)]])])
  (fun (gt0 : Unit) (t0 : Unit) => [])
  (fun (gt0 : Unit) (t0 : Unit) => st)
  () fx (by decide) h (bm hsc)
  (fun gs0 k0 s0 b0 fx h hx0 => ?_) (fun gs0 s0 => ?_) (fun gt0 t0 fr1 st1 h hb => ?_)
 ·unfold d2I at h
  have fx := fa fx (show (↑k0 : Int) < 4 by omega)
  refine ct ?_
  refine cl h (i1q n _ _ _) fun v1 h => ?_
  refine cd h (fun hc h => ?_) fun hc h => ?_
  ·refine ra ?_
   cases h
   refine Za ?_; have h := congrArg some (hx0 _ rfl)
   exact rt
  ·refine rn ?_
   cases h
   exact d6b () (bm hsc)
 ·refine cf ?_
  refine d5I ?_; simp only [go_sem, fx]
  exact ⟨(), (bm0 hsc)⟩
 ·try simp only [go_sem, fx]
  unfold d5X at h
  refine d1F hb ?_
  exact rt
theorem d0k (a0 : Int) (d0m : Int) (r : Yg) (h : d0d a0 d0m = some r) : ∀ (st : St) (o0 : Nat) (hnd : [o0].Nodup) (d7g : Am.look st o0 = some (.arr 0 1 0 [[.int .i64 d0m]])), Am.Spec Tryz.prog gl 212 [.int .i64 a0, .ptr o0 0 0 0] st (fun d st' => d = .agg [.int .i64 r.code, .int .i64 r.index] ∧ st' = puts st []) := by
 intro st o0 hnd d7g
 unfold d0d at h
 have ho0 := d2c d7g
 have fx := idf ho0
 refine fb 7 [.cell 3 41] [0, 1, 3] Tryz.func212 fun hsc => ?_
 refine i0b (s' := (d2n st [(o0, (.arr 0 1 0 [[.int .i64 d0m]]))])) (d0t (by simp [d7g])) ?_
 refine rr ?_
 exact fuo (.agg [.int .i64 a0, .int .i64 d0m]) (.same _) h hsc (hr := by rintro rfl; exact ⟨rfl, d0t (by simp [d7g])⟩)
theorem i2w : ∀ (n : Nat) (a0 : Ye) (a1 : Int) (d0m : Int) (r : Int × Int) (h : d3g n a0 a1 d0m = some r), ∀ (st : St) (o0 o1 : Nat) (hnd : [o0, o1].Nodup) (d7g : Am.look st o0 = some (.arr 0 1 0 [[.int .i64 d0m]])) (i1p : Am.look st o1 = some (.arr 0 1 0 [[.fn 236 [] [.ptr o0 0 0 0, .ptr o1 0 0 0]]])), Am.Spec Tryz.prog gl 236 [.agg [.str a0.base, .sl false 2 40 (rows Ye.cells a0.args)], .int .i64 a1, .ptr o0 0 0 0, .ptr o1 0 0 0] st (fun d st' => d = .int .i64 r.1 ∧ st' = puts st [(o0, (.arr 0 1 0 [[.int .i64 r.2]])), (o1, (.arr 0 1 0 [[.fn 236 [] [.ptr o0 0 0 0, .ptr o1 0 0 0]]]))]) := by
 intro n
 induction n with
 | zero => intro a0 a1 d0m r h; cases h
 | succ n ih =>
  intro a0 a1 d0m r h st o0 o1 hnd d7g i1p
  unfold d3g at h
  have ho0 := d2c d7g
  have ho1 := d2c i1p
  have fx := fa (fa (idf ho0) (idf ho1)) (nd2 hnd)
  refine fb 62 [.tmp 6] [0, 1, 2, 3, 4, 6, 7, 9, 10, 16, 17, 18, 23, 24, 25, 29, 30, 31, 32, 35, 36, 37, 38, 39, 40, 41, 42, 43, 45, 47, 48, 49, 50, 59] Tryz.func236 fun hsc => ?_
  refine i0b (s' := (d2n st [(o0, (.arr 0 1 0 [[.int .i64 d0m]])), (o1, (.arr 0 1 0 [[.fn 236 [] [.ptr o0 0 0 0, .ptr o1 0 0 0]]]))])) (d0t (by simp [d7g, i1p])) ?_
  refine cd h (fun hc h => ?_) fun hc h => ?_
  ·refine rr ?_
   exact fuo (.int .i64 1) (.same _) h hsc
  ·refine cd h (fun hc h => ?_) fun hc h => ?_
   ·refine rr ?_
    exact fuo (.int .i64 5) (.same _) h hsc
   ·refine aln 47 fun hl0 => ?_
    refine rng (body := d4X (d3g n) a0 a1) (kk := d4Y) (n := a0.args.length) (s0 := (wr .i64 (d0m + 1)))
     (fun (gs0 : Unit) (k0 : Nat) (s0 : Int) => [(1, .int .i64 a1), (3, .ptr o1 0 0 0), (47, .sl false 2 40 (rows Ye.cells a0.args)), (48, .int .i64 (↑a0.args.length : Int)), (49, .int .i64 (↑k0 : Int))])
     (fun (gs0 : Unit) (k0 : Nat) (s0 : Int) => (d2n st [(o0, (.arr 0 1 0 [[.int .i64 s0]])), (o1, (.arr 0 1 0 [[.fn 236 [] [.ptr o0 0 0 0, .ptr o1 0 0 0]]]))]))
     (fun (gt0 : Unit) (t0 : Int) => [])
     (fun (gt0 : Unit) (t0 : Int) => (d2n st [(o0, (.arr 0 1 0 [[.int .i64 t0]])), (o1, (.arr 0 1 0 [[.fn 236 [] [.ptr o0 0 0 0, .ptr o1 0 0 0]]]))]))
     () fx hl0 h (bu0 hsc)
     (fun gs0 k0 s0 b0 fx h hx0 => ?_) (fun gs0 s0 => ?_) (fun gt0 t0 fr1 st1 h hb => ?_)
    ·unfold d4X at h
     refine ct ?_
     refine rn ?_
     obtain ⟨v2, hv2, h⟩ := Zg h
     refine (ih _ _ _ _ hv2 _ _ _ hnd (by simp only [go_sem, fx]) (by simp only [go_sem, fx])).mono ?_
     rintro d1 st1 ⟨rfl, rfl⟩
     refine cd h (fun hc h => ?_) fun hc h => ?_
     ·refine ra ?_
      cases h
      refine Za ?_; have h := congrArg some (hx0 _ rfl)
      refine rr ?_
      exact fuo (.int .i64 v2.1) (.same _) h hsc
     ·refine rn ?_
      cases h
      exact d6b () (bu0 hsc)
    ·refine cf ?_
     refine d5I ?_; simp only [go_sem, fx]
     exact ⟨(), (r0N hsc)⟩
    ·try simp only [go_sem, fx]
     unfold d4Y at h
     refine d1F hb ?_
     refine rr ?_
     exact fus (.int .i64 0) (.same _) h hsc
theorem d9E (n : Nat) (a0 : Ye) (r : Yg) (h : d4J n a0 = some r) : Pure Tryz.prog gl 213 [.agg [.str a0.base, .sl false 2 40 (rows Ye.cells a0.args)]] (.agg [.int .i64 r.code, .int .i64 r.index]) := by
 intro st
 unfold d4J at h
 have fx := trivial
 refine fb 10 [.cell 2 41] [0, 1, 2, 3, 4] Tryz.func213 fun hsc => ?_
 refine rn ?_
 obtain ⟨v1, hv1, h⟩ := Zg h
 refine (i2w n _ _ _ _ hv1 _ _ _ (by simp) (d2H.trans rfl) (d2H.trans rfl)).mono ?_
 rintro d1 st1 ⟨rfl, rfl⟩
 exact rt
theorem i5o (a0 : Ye) (r : Bool) (h : i0R a0 = some r) : Pure Tryz.prog gl 214 [.agg [.str a0.base, .sl false 2 40 (rows Ye.cells a0.args)]] (.bool r) := by
 intro st
 unfold i0R at h
 have fx := trivial
 refine fb 12 [.tmp 2] [0, 1, 2, 7, 8, 9, 10] Tryz.func214 fun hsc => ?_
 exact rt
theorem i3G : ∀ (n : Nat) (a0 : Yh) (a1 : Int) (a2 : Int) (d0m : Int) (r : Yg × Int) (h : d3K n a0 a1 a2 d0m = some r), ∀ (st : St) (o0 o1 : Nat) (hnd : [o0, o1].Nodup) (d7g : Am.look st o0 = some (.arr 0 1 0 [[.int .i64 d0m]])) (i1p : Am.look st o1 = some (.arr 0 1 0 [[.fn 211 [] [.ptr o0 0 0 0, .ptr o1 0 0 0]]])), Am.Spec Tryz.prog gl 211 [.agg [.int .i64 a0.kind, .str a0.name, .int .i64 a0.index, .str a0.type.base, .sl false 2 40 (rows Ye.cells a0.type.args), .sl false 6 96 (rows Yh.cells a0.args)], .int .i64 a1, .int .i64 a2, .ptr o0 0 0 0, .ptr o1 0 0 0] st (fun d st' => d = .agg [.int .i64 r.1.code, .int .i64 r.1.index] ∧ st' = puts st [(o0, (.arr 0 1 0 [[.int .i64 r.2]])), (o1, (.arr 0 1 0 [[.fn 211 [] [.ptr o0 0 0 0, .ptr o1 0 0 0]]]))]) := by
 intro n
 induction n with
 | zero => intro a0 a1 a2 d0m r h; cases h
 | succ n ih =>
  intro a0 a1 a2 d0m r h st o0 o1 hnd d7g i1p
  unfold d3K at h
  have ho0 := d2c d7g
  have ho1 := d2c i1p
  have fx := fa (fa (idf ho0) (idf ho1)) (nd2 hnd)
  refine fb 166 [.cell 8 41] [0, 1, 2, 3, 4, 5, 8, 9, 10, 11, 19, 20, 21, 25, 28, 34, 35, 36, 37, 38, 44, 51, 54, 60, 61, 62, 63, 66, 67, 68, 69, 70, 77, 78, 79, 80, 81, 84, 90, 91, 92, 95, 96, 97, 98, 99, 106, 119, 125, 126, 127, 130, 131, 132, 133, 136, 137, 138, 139, 140, 154] Tryz.func211 fun hsc => ?_
  refine i0b (s' := (d2n st [(o0, (.arr 0 1 0 [[.int .i64 d0m]])), (o1, (.arr 0 1 0 [[.fn 211 [] [.ptr o0 0 0 0, .ptr o1 0 0 0]]]))])) (d0t (by simp [d7g, i1p])) ?_
  refine cd h (fun hc h => ?_) fun hc h => ?_
  ·refine rn ?_
   obtain ⟨v1, hv1, h⟩ := Zg h
   refine (d0k _ _ _ hv1 _ _ (by simp) (d1Z.trans rfl)).mono ?_
   rintro d1 st1 ⟨rfl, rfl⟩
   refine rr ?_
   exact fuo (.agg [.int .i64 v1.code, .int .i64 v1.index]) (.same _) h hsc
  ·refine cd h (fun hc h => ?_) fun hc h => ?_
   ·refine cd h (fun hc h => ?_) fun hc h => ?_
    ·refine rn ?_
     obtain ⟨v2, hv2, h⟩ := Zg h
     refine (d0k _ _ _ hv2 _ _ (by simp) (d1Z.trans rfl)).mono ?_
     rintro d1 st1 ⟨rfl, rfl⟩
     refine rr ?_
     exact fuo (.agg [.int .i64 v2.code, .int .i64 v2.index]) (.same _) h hsc
    ·refine cl h (d9V _) fun v3 h => ?_
     refine cd h (fun hc h => ?_) fun hc h => ?_
     ·refine rn ?_
      obtain ⟨v4, hv4, h⟩ := Zg h
      refine (d0k _ _ _ hv4 _ _ (by simp) (d1Z.trans rfl)).mono ?_
      rintro d1 st1 ⟨rfl, rfl⟩
      refine rr ?_
      exact fuo (.agg [.int .i64 v4.code, .int .i64 v4.index]) (.same _) h hsc
     ·refine cl h (d9E n _) fun v5 h => ?_
      refine cd h (fun hc h => ?_) fun hc h => ?_
      ·refine rn ?_
       obtain ⟨v6, hv6, h⟩ := Zg h
       refine (d0k _ _ _ hv6 _ _ (by simp) (d1Z.trans rfl)).mono ?_
       rintro d1 st1 ⟨rfl, rfl⟩
       refine rr ?_
       exact fuo (.agg [.int .i64 v6.code, .int .i64 v6.index]) (.same _) h hsc
      ·refine rr ?_
       exact fuo (.agg [.int .i64 0, .int .i64 0]) (.same _) h hsc
   ·refine cd h (fun hc h => ?_) fun hc h => ?_
    ·refine rn ?_
     obtain ⟨v7, hv7, h⟩ := Zg h
     refine d8Z (fun hG => (i5o _ _ (i5y hv7 (by simpa using hG)))) ?_
     refine cd h (fun hc h => ?_) fun hc h => ?_
     ·refine rn ?_
      obtain ⟨v8, hv8, h⟩ := Zg h
      refine (d0k _ _ _ hv8 _ _ (by simp) (d1Z.trans rfl)).mono ?_
      rintro d1 st1 ⟨rfl, rfl⟩
      refine rr ?_
      exact fuo (.agg [.int .i64 v8.code, .int .i64 v8.index]) (.same _) h hsc
     ·refine cd h (fun hc h => ?_) fun hc h => ?_
      ·refine rn ?_
       obtain ⟨v9, hv9, h⟩ := Zg h
       refine (d0k _ _ _ hv9 _ _ (by simp) (d1Z.trans rfl)).mono ?_
       rintro d1 st1 ⟨rfl, rfl⟩
       refine rr ?_
       exact fuo (.agg [.int .i64 v9.code, .int .i64 v9.index]) (.same _) h hsc
      ·refine rr ?_
       exact fuo (.agg [.int .i64 0, .int .i64 0]) (.same _) h hsc
    ·refine cd h (fun hc h => ?_) fun hc h => ?_
     ·refine cd h (fun hc h => ?_) fun hc h => ?_
      ·refine rn ?_
       obtain ⟨v10, hv10, h⟩ := Zg h
       refine (d0k _ _ _ hv10 _ _ (by simp) (d1Z.trans rfl)).mono ?_
       rintro d1 st1 ⟨rfl, rfl⟩
       refine rr ?_
       exact fuo (.agg [.int .i64 v10.code, .int .i64 v10.index]) (.same _) h hsc
      ·refine cl h (d9E n _) fun v11 h => ?_
       refine cd h (fun hc h => ?_) fun hc h => ?_
       ·refine rn ?_
        obtain ⟨v12, hv12, h⟩ := Zg h
        refine (d0k _ _ _ hv12 _ _ (by simp) (d1Z.trans rfl)).mono ?_
        rintro d1 st1 ⟨rfl, rfl⟩
        refine rr ?_
        exact fuo (.agg [.int .i64 v12.code, .int .i64 v12.index]) (.same _) h hsc
       ·refine rn ?_
        obtain ⟨fx, h⟩ := ck fx h
        refine dw [9] 0 ?_
        obtain ⟨v14, hv14, h⟩ := Zg h
        refine i3q [o0, o1] (fun st2 h2 => (ih _ _ _ _ _ hv14 st2 _ _ hnd ((h2 _ (by simp)).trans (by simp only [go_sem, fx])) ((h2 _ (by simp)).trans (by simp only [go_sem, fx])))) (by simp) (by simp only [List.mem_cons, List.not_mem_nil, or_false, forall_eq_or_imp, forall_eq]; exact ⟨⟨by first | omega | (simp <;> omega), _, (by simp only [go_sem, fx] <;> rfl), Ob.noConfusion⟩, ⟨by first | omega | (simp <;> omega), _, (by simp only [go_sem, fx] <;> rfl), Ob.noConfusion⟩⟩) (by simp) ?_
        try simp only [go_sem, fx]
        try refine ⟨by (simp <;> omega), ?_⟩
        refine rr ?_
        exact fuo (.agg [.int .i64 v14.1.code, .int .i64 v14.1.index]) (.same _) h hsc
     ·refine cd h (fun hc h => ?_) fun hc h => ?_
      ·refine rn ?_
       obtain ⟨v15, hv15, h⟩ := Zg h
       refine d8Z (fun hG => (i5o _ _ (i5y hv15 (by simpa using hG)))) ?_
       refine cd h (fun hc h => ?_) fun hc h => ?_
       ·refine rn ?_
        obtain ⟨v16, hv16, h⟩ := Zg h
        refine (d0k _ _ _ hv16 _ _ (by simp) (d1Z.trans rfl)).mono ?_
        rintro d1 st1 ⟨rfl, rfl⟩
        refine rr ?_
        exact fuo (.agg [.int .i64 v16.code, .int .i64 v16.index]) (.same _) h hsc
       ·refine rn ?_
        obtain ⟨fx, h⟩ := ck fx h
        refine dw [8] 1 ?_
        obtain ⟨v18, hv18, h⟩ := Zg h
        refine i3q [o0, o1] (fun st2 h2 => (ih _ _ _ _ _ hv18 st2 _ _ hnd ((h2 _ (by simp)).trans (by simp only [go_sem, fx])) ((h2 _ (by simp)).trans (by simp only [go_sem, fx])))) (by simp) (by simp only [List.mem_cons, List.not_mem_nil, or_false, forall_eq_or_imp, forall_eq]; exact ⟨⟨by first | omega | (simp <;> omega), _, (by simp only [go_sem, fx] <;> rfl), Ob.noConfusion⟩, ⟨by first | omega | (simp <;> omega), _, (by simp only [go_sem, fx] <;> rfl), Ob.noConfusion⟩⟩) (by simp) ?_
        try simp only [go_sem, fx]
        try refine ⟨by (simp <;> omega), ?_⟩
        refine cd h (fun hc h => ?_) fun hc h => ?_
        ·refine rr ?_
         exact fuo (.agg [.int .i64 v18.1.code, .int .i64 v18.1.index]) (.same _) h hsc
        ·refine rn ?_
         obtain ⟨fx, h⟩ := ck fx h
         refine dw [8] 0 ?_
         obtain ⟨v20, hv20, h⟩ := Zg h
         refine i3q [o0, o1] (fun st2 h2 => (ih _ _ _ _ _ hv20 st2 _ _ hnd ((h2 _ (by simp)).trans (by simp only [go_sem, fx])) ((h2 _ (by simp)).trans (by simp only [go_sem, fx])))) (by simp) (by simp only [List.mem_cons, List.not_mem_nil, or_false, forall_eq_or_imp, forall_eq]; exact ⟨⟨by first | omega | (simp <;> omega), _, (by simp only [go_sem, fx] <;> rfl), Ob.noConfusion⟩, ⟨by first | omega | (simp <;> omega), _, (by simp only [go_sem, fx] <;> rfl), Ob.noConfusion⟩⟩) (by simp) ?_
         try simp only [go_sem, fx]
         try refine ⟨by (simp <;> omega), ?_⟩
         refine rr ?_
         exact fuo (.agg [.int .i64 v20.1.code, .int .i64 v20.1.index]) (.same _) h hsc
      ·refine rn ?_
       obtain ⟨v21, hv21, h⟩ := Zg h
       refine (d0k _ _ _ hv21 _ _ (by simp) (d1Z.trans rfl)).mono ?_
       rintro d1 st1 ⟨rfl, rfl⟩
       refine rr ?_
       exact fuo (.agg [.int .i64 v21.code, .int .i64 v21.index]) (.same _) h hsc
theorem i2x : ∀ (n : Nat) (a0 : Ye) (a1 : Ye) (r : Bool) (h : d4i n a0 a1 = some r), Pure Tryz.prog gl 237 [.agg [.str a0.base, .sl false 2 40 (rows Ye.cells a0.args)], .agg [.str a1.base, .sl false 2 40 (rows Ye.cells a1.args)]] (.bool r) := by
 intro n
 induction n with
 | zero => intro a0 a1 r h; cases h
 | succ n ih =>
  intro a0 a1 r h st
  unfold d4i at h
  have fx := trivial
  refine fb 39 [.tmp 4] [0, 1, 2, 3, 4, 5, 12, 13, 14, 15, 16, 17, 18, 19, 22, 23, 24, 37] Tryz.func237 fun hsc => ?_
  refine cd h (fun hc h => ?_) fun hc h => ?_
  ·exact rt
  ·obtain ⟨fx, h⟩ := ck fx h
   refine rn ?_
   refine rng (body := d7L (d4i n) a1 a0) (kk := d7M) (n := a0.args.length) (s0 := ())
    (fun (gs0 : Unit) (k0 : Nat) (s0 : Unit) => [(2, .ptr st.length 0 0 0), (3, .ptr (st.length + 1) 0 0 0), (22, .int .i64 (↑a0.args.length : Int)), (23, .int .i64 (↑k0 : Int))])
    (fun (gs0 : Unit) (k0 : Nat) (s0 : Unit) => st ++ [some (.arr 0 2 0 [[.str a0.base, .sl false 2 40 (rows Ye.cells a0.args)]]), some (.arr 0 2 0 [[.str a1.base, .sl false 2 40 (rows Ye.cells a1.args)]])])
    (fun (gt0 : Unit) (t0 : Unit) => [])
    (fun (gt0 : Unit) (t0 : Unit) => st)
    () fx fx.2 h (bm hsc)
    (fun gs0 k0 s0 b0 fx h hx0 => ?_) (fun gs0 s0 => ?_) (fun gt0 t0 fr1 st1 h hb => ?_)
   ·unfold d7L at h
    refine ct ?_
    refine rn ?_
    obtain ⟨fx, h⟩ := ck fx h
    refine dw [] 0 ?_
    obtain ⟨v3, hv3, h⟩ := Zg h
    refine Yt (ih _ _ _ hv3) ?_
    try simp only [go_sem, fx]
    refine cd h (fun hc h => ?_) fun hc h => ?_
    ·refine ra ?_
     cases h
     refine Za ?_; have h := congrArg some (hx0 _ rfl)
     exact rt
    ·refine rn ?_
     cases h
     exact d6b () (bm hsc)
   ·refine cf ?_
    refine d5I ?_; simp only [go_sem, fx]
    exact ⟨(), (bm0 hsc)⟩
   ·try simp only [go_sem, fx]
    unfold d7M at h
    refine d1F hb ?_
    exact rt
end Go.Proofs.YtgaeiccgdpnkkaaGreatDoor
