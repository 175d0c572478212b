import Derived.Test.YtgaeiccgdpnkkaaGreatDoorPWalk13
set_option linter.unusedVariables false
set_option linter.unusedSimpArgs false
set_option maxHeartbeats 2000000
set_option maxRecDepth 100000
namespace Go.Proofs.YtgaeiccgdpnkkaaGreatDoor
open Go Go.Am
theorem d4p (n : Nat) (a0 : Yh) (r : Yg) (h : ZR n a0 = some r) : Pure Tryz.prog gl 137 [.agg [.int .i64 a0.kind, .str a0.name, .int .i64 a0.index, .str a0.type.base, .sl false 2 40 (rows Ye.cells a0.type.args), .sl false 6 96 (rows Yh.cells a0.args)]] (.agg [.int .i64 r.code, .int .i64 r.index]) := by
 intro st
 unfold ZR at h
 have fx := trivial
 refine fb 5 [.cell 2 41] [0, 1, 2] Tryz.func137 fun hsc => ?_
 refine cl h (d8q n _) fun v1 h => ?_
 exact rt
theorem d8r (n : Nat) (a0 : Yo) (a1 : Yi) (r : Int) (h : d1v n a0 a1 = some r) : Pure Tryz.prog gl 75 [.agg [.sl false 2 40 (rows Yl.cells a0.types), .sl false 3 32 (rows Yw.cells a0.YL)], .agg [.str a1.name, .sl false 2 32 (rows Yq.cells a1.graph.nodes), .int .i64 a1.kids, .int .i64 a1.weight, .int .i64 a1.meaning.kind, .str a1.meaning.name, .int .i64 a1.meaning.index, .str a1.meaning.type.base, .sl false 2 40 (rows Ye.cells a1.meaning.type.args), .sl false 6 96 (rows Yh.cells a1.meaning.args)]] (.int .i64 r) := by
 intro st
 unfold d1v at h
 have fx := trivial
 refine fb 52 [.tmp 4] [0, 1, 2, 3, 4, 5, 6, 11, 12, 13, 16, 17, 18, 21, 22, 23, 24, 31, 34, 35, 46] Tryz.func75 fun hsc => ?_
 refine cd h (fun hc h => ?_) fun hc h => ?_
 ·exact rt
 ·refine cl h (d2M n _ _) fun v1 h => ?_
  refine cd h (fun hc h => ?_) fun hc h => ?_
  ·exact rt
  ·refine rn ?_
   refine rng (body := Zz a1) (kk := d1T n a1) (n := 4) (s0 := ())
    (fun (gs0 : Unit) (k0 : Nat) (s0 : Unit) => [(3, .ptr (st.length + 1) 0 0 0), (34, .int .i64 (↑k0 : Int))])
    (fun (gs0 : Unit) (k0 : Nat) (s0 : Unit) => st ++ [none, some (.arr 0 10 0 [[.str a1.name, .sl false 2 32 (rows Yq.cells a1.graph.nodes), .int .i64 a1.kids, .int .i64 a1.weight, .int .i64 a1.meaning.kind, .str a1.meaning.name, .int .i64 a1.meaning.index, .str a1.meaning.type.base, .sl false 2 40 (rows Ye.cells a1.meaning.type.args), .sl false 6 96 (rows Yh.cells a1.meaning.args)]])])
    (fun (gt0 : Unit) (t0 : Unit) => [(3, .ptr (st.length + 1) 0 0 0)])
    (fun (gt0 : Unit) (t0 : Unit) => st ++ [none, some (.arr 0 10 0 [[.str a1.name, .sl false 2 32 (rows Yq.cells a1.graph.nodes), .int .i64 a1.kids, .int .i64 a1.weight, .int .i64 a1.meaning.kind, .str a1.meaning.name, .int .i64 a1.meaning.index, .str a1.meaning.type.base, .sl false 2 40 (rows Ye.cells a1.meaning.type.args), .sl false 6 96 (rows Yh.cells a1.meaning.args)]])])
    () fx (by decide) h (bm hsc)
    (fun gs0 k0 s0 b0 fx h hx0 => ?_) (fun gs0 s0 => ?_) (fun gt0 t0 fr1 st1 h hb => ?_)
   ·unfold Zz at h
    have fx := fa fx (show (↑k0 : Int) < 4 by omega)
    refine ct ?_
    refine rn ?_
    refine dw [] 0 ?_
    obtain ⟨v2, hv2, h⟩ := Zg h
    refine Yt (d6q _ _ _ _ hv2) ?_
    try simp only [go_sem, fx]
    refine cd h (fun hc h => ?_) fun hc h => ?_
    ·refine ra ?_
     cases h
     refine Za ?_; have h := congrArg some (hx0 _ rfl)
     exact rt
    ·refine rn ?_
     cases h
     exact d6b () (bm hsc)
   ·refine cf ?_
    refine d5I ?_; simp only [go_sem, fx]
    exact ⟨(), (bm hsc)⟩
   ·try simp only [go_sem, fx]
    unfold d1T at h
    refine d1F hb ?_
    refine cl h (d4p n _) fun v3 h => ?_
    exact rt
theorem d7Q (n : Nat) (a0 : Bs) (r : Int) (h : d0X n a0 = some r) : Pure Tryz.prog gl 186 [.str a0] (.int .i64 r) := by
 intro st
 unfold d0X at h
 have fx := trivial
 refine fb 86 [.tmp 2] [0, 2, 3, 4, 5, 6, 7, 10, 13, 17, 18, 23, 27, 28, 33, 37, 38, 46, 49, 57, 58, 59, 60, 61, 74, 75, 78, 79, 80, 81, 82, 83, 84] Tryz.func186 fun hsc => ?_
 obtain ⟨fx, h⟩ := ck fx h
 refine cd h (fun hc h => ?_) fun hc h => ?_
 ·exact rt
 ·refine rn ?_
  refine d6o (Ze n a0) r (fun (gj0 : Unit) (j0 : Int × Int × Int) => [(0, .str a0), (4, .int .i64 j0.1), (5, .int .i64 j0.2.1), (6, .int .i64 j0.2.2)]) (fun (gj0 : Unit) (j0 : Int × Int × Int) => st) (fun gj0 j0 fr1 st1 h hb => ?_) (fun hj0 => ?_)
  ·try simp only [go_sem, fx]
   unfold Ze at h
   refine d1F hb ?_
   refine cd h (fun hc h => ?_) fun hc h => ?_
   ·exact rt
   ·refine rn ?_
    refine Zt (body := YX j0 a0) (kk := d1E j0) (n := n) (s0 := (j0.2.2, 1))
     (fun (gs1 : Unit) (s1 : Int × Int) => [(0, .str a0), (4, .int .i64 j0.1), (5, .int .i64 j0.2.1), (6, .int .i64 s1.1), (7, .int .i64 s1.2)])
     (fun (gs1 : Unit) (s1 : Int × Int) => st)
     (fun (gt1 : Unit) (t1 : Int) => [(4, .int .i64 j0.1), (5, .int .i64 j0.2.1), (6, .int .i64 t1)])
     (fun (gt1 : Unit) (t1 : Int) => st)
     () h (d6c hsc)
     (fun gs1 s1 b1 h hx1 => ?_) (fun gt1 t1 fr1 st1 h hb => ?_)
    ·unfold YX at h
     refine cd h (fun hc h => ?_) fun hc h => ?_
     ·obtain ⟨fx, h⟩ := ck fx h
      refine cd h (fun hc h => ?_) fun hc h => ?_
      ·refine ra ?_
       cases h
       refine d4e ?_; have h := congrArg some (hx1 _ rfl)
       exact rt
      ·refine rn ?_
       cases h
       exact ZE () (d6c hsc)
     ·refine rn ?_
      cases h
      exact d0V () (d6c hsc)
    ·try simp only [go_sem, fx]
     unfold d1E at h
     refine d1F hb ?_
     refine cd h (fun hc h => ?_) fun hc h => ?_
     ·exact rt
     ·exact rt
  ·refine cd h (fun hc h => ?_) fun hc h => ?_
   ·refine r0 ?_
    refine hj0 () _ _ _ h ?_; exact (d6c hsc)
   ·refine cd h (fun hc h => ?_) fun hc h => ?_
    ·refine r0 ?_
     refine hj0 () _ _ _ h ?_; exact (d6c hsc)
    ·refine cd h (fun hc h => ?_) fun hc h => ?_
     ·refine r0 ?_
      refine hj0 () _ _ _ h ?_; exact (d6c hsc)
     ·exact rt
theorem i0g (n : Nat) (a0 : Bs) (r : Bool) (h : d3k n a0 = some r) : Pure Tryz.prog gl 138 [.str a0] (.bool r) := by
 intro st
 unfold d3k at h
 have fx := trivial
 refine fb 68 [.tmp 2] [0, 2, 3, 5, 6, 7, 9, 10, 11, 18, 19, 22, 23, 26, 27, 30, 31, 34, 35, 38, 39, 42, 43, 46, 47, 48, 52, 53, 54, 58, 64] Tryz.func138 fun hsc => ?_
 refine rn ?_
 refine Zt (body := d3t a0) (kk := d3u n a0) (n := n) (s0 := (0, 0))
  (fun (gs0 : Unit) (s0 : Nat × Int) => [(0, .str a0), (3, .int .i64 s0.2), (9, .it st.length)])
  (fun (gs0 : Unit) (s0 : Nat × Int) => st ++ [some (.sit a0 s0.1)])
  (fun (gt0 : Unit) (t0 : Int) => [(0, .str a0), (3, .int .i64 t0)])
  (fun (gt0 : Unit) (t0 : Int) => st)
  () h (bm hsc)
  (fun gs0 s0 b0 h hx0 => ?_) (fun gt0 t0 fr1 st1 h hb => ?_)
 ·unfold d3t at h
  refine cd h (fun hc h => ?_) fun hc h => ?_
  ·obtain ⟨fx, h⟩ := ck fx h
   refine cd h (fun hc h => ?_) fun hc h => ?_
   ·refine ra ?_
    cases h
    refine d4e ?_; have h := congrArg some (hx0 _ rfl)
    exact rt
   ·refine rn ?_
    cases h
    exact ZE () (bm hsc)
  ·refine rn ?_
   cases h
   exact d0V () (bm0 hsc)
 ·try simp only [go_sem, fx]
  unfold d3u at h
  refine d1F hb ?_
  refine cd h (fun hc h => ?_) fun hc h => ?_
  ·exact rt
  ·refine rn ?_
   refine Zt (body := d3v n a0) (kk := d4P) (n := n) (s0 := 0)
    (fun (gs1 : Unit) (s1 : Int) => [(0, .str a0), (6, .int .i64 s1)])
    (fun (gs1 : Unit) (s1 : Int) => st)
    (fun (gt1 : Unit) (t1 : Unit) => [])
    (fun (gt1 : Unit) (t1 : Unit) => st)
    () h (d6c hsc)
    (fun gs1 s1 b1 h hx1 => ?_) (fun gt1 t1 fr1 st1 h hb => ?_)
   ·unfold d3v at h
    refine cd h (fun hc h => ?_) fun hc h => ?_
    ·obtain ⟨fx, h⟩ := ck fx h
     refine cl h (d7Q n _) fun v8 h => ?_
     refine cd h (fun hc h => ?_) fun hc h => ?_
     ·refine ra ?_
      cases h
      refine d4e ?_; have h := congrArg some (hx1 _ rfl)
      exact rt
     ·refine rn ?_
      cases h
      exact ZE () (d6c hsc)
    ·refine rn ?_
     cases h
     exact d0V () (d6c hsc)
   ·try simp only [go_sem, fx]
    unfold d4P at h
    refine d1F hb ?_
    exact rt
theorem d8B (n : Nat) (a0 : Yo) (a1 : YT) (r : Int) (h : d1U n a0 a1 = some r) : Pure Tryz.prog gl 76 [.agg [.sl false 2 40 (rows Yl.cells a0.types), .sl false 3 32 (rows Yw.cells a0.YL)], .agg [.str a1.word, .sl false 2 32 (rows Yq.cells a1.graph.nodes), .int .i64 a1.weight, .int .i64 a1.meaning.kind, .str a1.meaning.name, .int .i64 a1.meaning.index, .str a1.meaning.type.base, .sl false 2 40 (rows Ye.cells a1.meaning.type.args), .sl false 6 96 (rows Yh.cells a1.meaning.args)]] (.int .i64 r) := by
 intro st
 unfold d1U at h
 have fx := trivial
 refine fb 31 [.tmp 4] [0, 1, 2, 3, 4, 5, 9, 14, 15, 16, 17, 24] Tryz.func76 fun hsc => ?_
 refine cl h (i0g n _) fun v1 h => ?_
 refine cd h (fun hc h => ?_) fun hc h => ?_
 ·exact rt
 ·refine cd h (fun hc h => ?_) fun hc h => ?_
  ·exact rt
  ·refine cl h (d2M n _ _) fun v2 h => ?_
   refine cd h (fun hc h => ?_) fun hc h => ?_
   ·exact rt
   ·refine cl h (d4p n _) fun v3 h => ?_
    exact rt
theorem d7r (n : Nat) (a0 : Yn) (r : Yg) (h : d0E n a0 = some r) : Pure Tryz.prog gl 24 [.agg [.sl false 2 40 (rows Yl.cells a0.hierarchy.types), .sl false 3 32 (rows Yw.cells a0.hierarchy.YL), .sl false 10 152 (rows Yi.cells a0.rules), .sl false 9 144 (rows YT.cells a0.Yy), .sl false 2 32 (rows Yq.cells a0.start.nodes)]] (.agg [.int .i64 r.code, .int .i64 r.index]) := by
 intro st
 unfold d0E at h
 have fx := trivial
 refine fb 108 [.cell 2 41] [0, 1, 2, 3, 4, 5, 7, 8, 9, 10, 11, 12, 18, 24, 31, 32, 33, 34, 35, 38, 39, 40, 41, 48, 54, 55, 56, 57, 64, 73, 79, 80, 81, 82, 91, 103] Tryz.func24 fun hsc => ?_
 refine cl h (d6P n _) fun v1 h => ?_
 refine cd h (fun hc h => ?_) fun hc h => ?_
 ·exact rt
 ·refine cd h (fun hc h => ?_) fun hc h => ?_
  ·exact rt
  ·refine cd h (fun hc h => ?_) fun hc h => ?_
   ·exact rt
   ·refine aln 38 fun hl0 => ?_
    refine rng (body := d0L n a0) (kk := d0N n a0) (n := a0.rules.length) (s0 := ())
     (fun (gs0 : Unit) (k0 : Nat) (s0 : Unit) => [(1, .ptr st.length 0 0 0), (2, .ptr (st.length + 1) 0 0 0), (38, .sl false 10 152 (rows Yi.cells a0.rules)), (39, .int .i64 (↑a0.rules.length : Int)), (40, .int .i64 (↑k0 : Int))])
     (fun (gs0 : Unit) (k0 : Nat) (s0 : Unit) => st ++ [some (.arr 0 5 0 [[.sl false 2 40 (rows Yl.cells a0.hierarchy.types), .sl false 3 32 (rows Yw.cells a0.hierarchy.YL), .sl false 10 152 (rows Yi.cells a0.rules), .sl false 9 144 (rows YT.cells a0.Yy), .sl false 2 32 (rows Yq.cells a0.start.nodes)]]), some (.arr 0 2 0 [[.int .i64 0, .int .i64 0]])])
     (fun (gt0 : Unit) (t0 : Unit) => [(1, .ptr st.length 0 0 0), (2, .ptr (st.length + 1) 0 0 0)])
     (fun (gt0 : Unit) (t0 : Unit) => st ++ [some (.arr 0 5 0 [[.sl false 2 40 (rows Yl.cells a0.hierarchy.types), .sl false 3 32 (rows Yw.cells a0.hierarchy.YL), .sl false 10 152 (rows Yi.cells a0.rules), .sl false 9 144 (rows YT.cells a0.Yy), .sl false 2 32 (rows Yq.cells a0.start.nodes)]]), some (.arr 0 2 0 [[.int .i64 0, .int .i64 0]])])
     () fx hl0 h (bm hsc)
     (fun gs0 k0 s0 b0 fx h hx0 => ?_) (fun gs0 s0 => ?_) (fun gt0 t0 fr1 st1 h hb => ?_)
    ·unfold d0L at h
     refine ct ?_
     refine cl h (d4Q _) fun v2 h => ?_
     refine cd h (fun hc h => ?_) fun hc h => ?_
     ·refine ra ?_
      cases h
      refine Za ?_; have h := congrArg some (hx0 _ rfl)
      exact rt
     ·obtain ⟨fx, h⟩ := ck fx h
      refine aln 54 fun hl1 => ?_
      refine rng (body := ZV a0 k0) (kk := d0M n a0 k0) (n := (a0.rules.take k0).length) (s0 := ())
       (fun (gs1 : Unit) (k1 : Nat) (s1 : Unit) => [(1, .ptr st.length 0 0 0), (2, .ptr (st.length + 1) 0 0 0), (4, .int .i64 (↑k0 : Int)), (5, .ptr (st.length + 2) 0 0 0), (38, .sl false 10 152 (rows Yi.cells a0.rules)), (39, .int .i64 (↑a0.rules.length : Int)), (40, .int .i64 (↑k0 : Int)), (54, .sl false 10 152 (rows Yi.cells (a0.rules.take k0))), (55, .int .i64 (↑((a0.rules.take k0).length) : Int)), (56, .int .i64 (↑k1 : Int))])
       (fun (gs1 : Unit) (k1 : Nat) (s1 : Unit) => st ++ [some (.arr 0 5 0 [[.sl false 2 40 (rows Yl.cells a0.hierarchy.types), .sl false 3 32 (rows Yw.cells a0.hierarchy.YL), .sl false 10 152 (rows Yi.cells a0.rules), .sl false 9 144 (rows YT.cells a0.Yy), .sl false 2 32 (rows Yq.cells a0.start.nodes)]]), some (.arr 0 2 0 [[.int .i64 0, .int .i64 0]]), some (.arr 0 10 0 [[.str ((get a0.rules k0).name), .sl false 2 32 (rows Yq.cells ((get a0.rules k0).graph.nodes)), .int .i64 ((get a0.rules k0).kids), .int .i64 ((get a0.rules k0).weight), .int .i64 ((get a0.rules k0).meaning.kind), .str ((get a0.rules k0).meaning.name), .int .i64 ((get a0.rules k0).meaning.index), .str ((get a0.rules k0).meaning.type.base), .sl false 2 40 (rows Ye.cells ((get a0.rules k0).meaning.type.args)), .sl false 6 96 (rows Yh.cells ((get a0.rules k0).meaning.args))]])])
       (fun (gt1 : Unit) (t1 : Unit) => [(1, .ptr st.length 0 0 0), (2, .ptr (st.length + 1) 0 0 0), (4, .int .i64 (↑k0 : Int)), (5, .ptr (st.length + 2) 0 0 0), (38, .sl false 10 152 (rows Yi.cells a0.rules)), (39, .int .i64 (↑a0.rules.length : Int)), (40, .int .i64 (↑k0 : Int))])
       (fun (gt1 : Unit) (t1 : Unit) => st ++ [some (.arr 0 5 0 [[.sl false 2 40 (rows Yl.cells a0.hierarchy.types), .sl false 3 32 (rows Yw.cells a0.hierarchy.YL), .sl false 10 152 (rows Yi.cells a0.rules), .sl false 9 144 (rows YT.cells a0.Yy), .sl false 2 32 (rows Yq.cells a0.start.nodes)]]), some (.arr 0 2 0 [[.int .i64 0, .int .i64 0]]), some (.arr 0 10 0 [[.str ((get a0.rules k0).name), .sl false 2 32 (rows Yq.cells ((get a0.rules k0).graph.nodes)), .int .i64 ((get a0.rules k0).kids), .int .i64 ((get a0.rules k0).weight), .int .i64 ((get a0.rules k0).meaning.kind), .str ((get a0.rules k0).meaning.name), .int .i64 ((get a0.rules k0).meaning.index), .str ((get a0.rules k0).meaning.type.base), .sl false 2 40 (rows Ye.cells ((get a0.rules k0).meaning.type.args)), .sl false 6 96 (rows Yh.cells ((get a0.rules k0).meaning.args))]])])
       () fx hl1 h (bm hsc)
       (fun gs1 k1 s1 b1 fx h hx1 => ?_) (fun gs1 s1 => ?_) (fun gt1 t1 fr1 st1 h hb => ?_)
      ·unfold ZV at h
       refine ct ?_
       refine cd h (fun hc h => ?_) fun hc h => ?_
       ·refine ra ?_
        cases h
        refine Za ?_; obtain rfl := hx1 _ rfl; try simp only [go_sem, fx]
        refine Za ?_; have h := congrArg some (hx0 _ rfl)
        exact rt
       ·refine rn ?_
        cases h
        exact d6b () (bm hsc)
      ·refine cf ?_
       refine d5I ?_; simp only [go_sem, fx]
       exact ⟨(), (bm hsc)⟩
      ·try simp only [go_sem, fx]
       unfold d0M at h
       refine d1F hb ?_
       refine cl h (d8r n _ _) fun v5 h => ?_
       refine cd h (fun hc h => ?_) fun hc h => ?_
       ·refine ra ?_
        cases h
        refine Za ?_; have h := congrArg some (hx0 _ rfl)
        exact rt
       ·refine rn ?_
        cases h
        exact d6b () (bm hsc)
    ·refine cf ?_
     refine d5I ?_; simp only [go_sem, fx]
     exact ⟨(), (bm hsc)⟩
    ·try simp only [go_sem, fx]
     unfold d0N at h
     refine d1F hb ?_
     refine aln 79 fun hl2 => ?_
     refine rng (body := d0O n a0) (kk := d0P n a0) (n := a0.Yy.length) (s0 := ())
      (fun (gs2 : Unit) (k2 : Nat) (s2 : Unit) => [(1, .ptr st.length 0 0 0), (2, .ptr (st.length + 1) 0 0 0), (79, .sl false 9 144 (rows YT.cells a0.Yy)), (80, .int .i64 (↑a0.Yy.length : Int)), (81, .int .i64 (↑k2 : Int))])
      (fun (gs2 : Unit) (k2 : Nat) (s2 : Unit) => st ++ [some (.arr 0 5 0 [[.sl false 2 40 (rows Yl.cells a0.hierarchy.types), .sl false 3 32 (rows Yw.cells a0.hierarchy.YL), .sl false 10 152 (rows Yi.cells a0.rules), .sl false 9 144 (rows YT.cells a0.Yy), .sl false 2 32 (rows Yq.cells a0.start.nodes)]]), some (.arr 0 2 0 [[.int .i64 0, .int .i64 0]])])
      (fun (gt2 : Unit) (t2 : Unit) => [(1, .ptr st.length 0 0 0), (2, .ptr (st.length + 1) 0 0 0)])
      (fun (gt2 : Unit) (t2 : Unit) => st ++ [some (.arr 0 5 0 [[.sl false 2 40 (rows Yl.cells a0.hierarchy.types), .sl false 3 32 (rows Yw.cells a0.hierarchy.YL), .sl false 10 152 (rows Yi.cells a0.rules), .sl false 9 144 (rows YT.cells a0.Yy), .sl false 2 32 (rows Yq.cells a0.start.nodes)]]), some (.arr 0 2 0 [[.int .i64 0, .int .i64 0]])])
      () fx hl2 h (bm hsc)
      (fun gs2 k2 s2 b2 fx h hx2 => ?_) (fun gs2 s2 => ?_) (fun gt2 t2 fr1 st1 h hb => ?_)
     ·unfold d0O at h
      refine ct ?_
      refine cl h (d8B n _ _) fun v6 h => ?_
      refine cd h (fun hc h => ?_) fun hc h => ?_
      ·refine ra ?_
       cases h
       refine Za ?_; have h := congrArg some (hx2 _ rfl)
       exact rt
      ·refine rn ?_
       cases h
       exact d6b () (bm hsc)
     ·refine cf ?_
      refine d5I ?_; simp only [go_sem, fx]
      exact ⟨(), (bm hsc)⟩
     ·try simp only [go_sem, fx]
      unfold d0P at h
      refine d1F hb ?_
      refine cl h (d2M n _ _) fun v7 h => ?_
      refine cd h (fun hc h => ?_) fun hc h => ?_
      ·exact rt
      ·exact rt
end Go.Proofs.YtgaeiccgdpnkkaaGreatDoor
