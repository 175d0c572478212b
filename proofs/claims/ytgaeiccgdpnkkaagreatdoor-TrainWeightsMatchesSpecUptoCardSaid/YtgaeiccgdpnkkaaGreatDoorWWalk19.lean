import Derived.Test.YtgaeiccgdpnkkaaGreatDoorWWalk18
set_option linter.unusedVariables false
set_option linter.unusedSimpArgs false
set_option maxHeartbeats 2000000
set_option maxRecDepth 100000
namespace Go.Proofs.YtgaeiccgdpnkkaaGreatDoor
open Go Go.Am
theorem d3W (n : Nat) (a0 : WL) (a1 : WL) (r : WL) (h : Zo n a0 a1 = some r) : Pure Tryz.prog gl 198 [.agg [.int .u64 a0.hi, .int .u64 a0.lo], .agg [.int .u64 a1.hi, .int .u64 a1.lo]] (.agg [.int .u64 r.hi, .int .u64 r.lo]) := by
 intro st
 unfold Zo at h
 have fx := trivial
 refine fb 49 [.cell 4 232] [0, 1, 2, 3, 4, 5, 6, 7, 8, 12, 18, 40] Tryz.func198 fun hsc => ?_
 refine rn ?_
 refine XV (body := YK a1 a0) (kk := d2g) (n := n) (s0 := (0, 0, 0, 0, 127))
  (fun (gs0 : Unit) (s0 : Int × Int × Int × Int × Int) => [(2, .ptr st.length 0 0 0), (3, .ptr (st.length + 1) 0 0 0), (4, .ptr (st.length + 2) 0 0 0), (5, .ptr (st.length + 3) 0 0 0), (6, .ptr (st.length + 4) 0 0 0), (7, .int .i64 s0.2.2.2.2)])
  (fun (gs0 : Unit) (s0 : Int × Int × Int × Int × Int) => st ++ [some (.arr 0 2 0 [[.int .u64 a0.hi, .int .u64 a0.lo]]), some (.arr 0 2 0 [[.int .u64 a1.hi, .int .u64 a1.lo]]), some (.arr 0 2 0 [[.int .u64 0, .int .u64 0]]), some (.arr 0 2 0 [[.int .u64 s0.1, .int .u64 s0.2.1]]), some (.arr 0 2 0 [[.int .u64 s0.2.2.1, .int .u64 s0.2.2.2.1]])])
  (fun (gt0 : Unit) (t0 : Int × Int) => [(4, .ptr (st.length + 2) 0 0 0), (5, .ptr (st.length + 3) 0 0 0)])
  (fun (gt0 : Unit) (t0 : Int × Int) => st ++ [none, none, some (.arr 0 2 0 [[.int .u64 0, .int .u64 0]]), some (.arr 0 2 0 [[.int .u64 t0.1, .int .u64 t0.2]])])
  () h (bm hsc)
  (fun gs0 s0 b0 h hx0 => ?_) (fun gt0 t0 fr1 st1 h hb => ?_)
 ·unfold YK at h
  refine cd h (fun hc h => ?_) fun hc h => ?_
  ·refine cl h (d1D _) fun v6 h => ?_
   refine rn ?_
   refine d6p (YL s0 v6 a1) b0 (fun (gj2 : Unit) (j2 : Int) => [(2, .ptr st.length 0 0 0), (3, .ptr (st.length + 1) 0 0 0), (4, .ptr (st.length + 2) 0 0 0), (5, .ptr (st.length + 3) 0 0 0), (6, .ptr (st.length + 4) 0 0 0), (7, .int .i64 s0.2.2.2.2), (8, .int .u64 j2)]) (fun (gj2 : Unit) (j2 : Int) => st ++ [some (.arr 0 2 0 [[.int .u64 a0.hi, .int .u64 a0.lo]]), some (.arr 0 2 0 [[.int .u64 a1.hi, .int .u64 a1.lo]]), some (.arr 0 2 0 [[.int .u64 0, .int .u64 0]]), some (.arr 0 2 0 [[.int .u64 s0.1, .int .u64 s0.2.1]]), some (.arr 0 2 0 [[.int .u64 v6.hi, .int .u64 v6.lo]])]) (fun gj2 j2 fr1 st1 h hb => ?_) (fun hj2 => ?_)
   ·try simp only [go_sem, fx]
    unfold YL at h
    refine d0s hb ?_
    refine cl h (d1D _) fun v9 h => ?_
    refine cl h (d0u _ _) fun v10 h => ?_
    refine cd h (fun hc h => ?_) fun hc h => ?_
    ·refine cl h (d2i _ _) fun v11 h => ?_
     refine rn ?_
     cases h
     exact Yg () (bm hsc)
    ·refine rn ?_
     cases h
     exact Yg () (bm hsc)
   ·refine cd h (fun hc h => ?_) fun hc h => ?_
    ·obtain ⟨fx, h⟩ := ck fx h
     refine r0 ?_
     refine hj2 () _ _ _ h ?_; exact (bm hsc)
    ·obtain ⟨fx, h⟩ := ck fx h
     refine r0 ?_
     refine hj2 () _ _ _ h ?_; exact (bm hsc)
  ·refine rn ?_
   cases h
   exact Zq () (bm hsc)
 ·try simp only [go_sem, fx]
  unfold d2g at h
  refine d0s hb ?_
  exact rt
theorem d7K (n : Nat) (a0 : Bool) (a1 : WL) (a2 : WL) (r : WZ × WM) (h : d0T n a0 a1 a2 = some r) : Pure Tryz.prog gl 151 [.bool a0, .agg [.int .u64 a1.hi, .int .u64 a1.lo], .agg [.int .u64 a2.hi, .int .u64 a2.lo]] (.tup [.agg [.int .i64 r.1.num, .int .i64 r.1.den], .agg [.int .i64 r.2.code, .int .i64 r.2.index]]) := by
 intro st
 unfold d0T at h
 have fx := trivial
 refine fb 45 [.cell 6 71, .cell 7 41] [0, 1, 2, 4, 5, 6, 7, 8, 9, 10, 25, 26, 27, 28, 38] Tryz.func151 fun hsc => ?_
 refine cl h (d7n n _ _) fun v1 h => ?_
 refine rn ?_
 refine dw [] 0 ?_
 obtain ⟨v2, hv2, h⟩ := XT h
 refine Xe (d3W n _ _ _ hv2) ?_
 try simp only [go_sem, fx]
 obtain ⟨v3, hv3, h⟩ := XT h
 refine Xe (d3W n _ _ _ hv3) ?_
 try simp only [go_sem, fx]
 refine cl h (d0u _ _) fun v4 h => ?_
 refine rn ?_
 obtain ⟨v5, hv5, h⟩ := XT h
 refine d7h (fun hG => (d0u _ _ _ (i3x hv5 (by simpa using hG)))) ?_
 refine cd h (fun hc h => ?_) fun hc h => ?_
 ·exact rt
 ·refine cd h (fun hc h => ?_) fun hc h => ?_
  ·exact rt
  ·exact rt
theorem d6L (n : Nat) (a0 : Int) (a1 : Int) (r : WZ × WM) (h : d0n n a0 a1 = some r) : Pure Tryz.prog gl 86 [.int .i64 a0, .int .i64 a1] (.tup [.agg [.int .i64 r.1.num, .int .i64 r.1.den], .agg [.int .i64 r.2.code, .int .i64 r.2.index]]) := by
 intro st
 unfold d0n at h
 have fx := trivial
 refine fb 24 [.cell 4 71, .cell 5 41] [0, 1, 4, 5, 7] Tryz.func86 fun hsc => ?_
 refine cd h (fun hc h => ?_) fun hc h => ?_
 ·exact rt
 ·refine cl h (d5b _) fun v1 h => ?_
  refine cl h (d5b _) fun v2 h => ?_
  refine cl h (d7K n _ _ _) fun v3 h => ?_
  exact rt
theorem d3X (n : Nat) (a0 : Xa) (a1 : Xt) (a2 : Int) (a3 : Int) (r : WZ) (h : Yq n a0 a1 a2 a3 = some r) : Pure Tryz.prog gl 34 [.agg [.sl false 2 40 (rows WT.cells a0.hierarchy.types), .sl false 3 32 (rows Xf.cells a0.hierarchy.Xw), .sl false 10 152 (rows WQ.cells a0.rules), .sl false 9 144 (rows XE.cells a0.Xj), .sl false 2 32 (rows WX.cells a0.start.nodes)], .agg [.sl false 1 8 (rows XM a1.rules), .sl false 1 8 (rows XM a1.Xj)], .int .i64 a2, .int .i64 a3] (.agg [.int .i64 r.num, .int .i64 r.den]) := by
 intro st
 unfold Yq at h
 have fx := trivial
 refine fb 80 [.cell 8 71] [0, 1, 2, 3, 4, 5, 8, 9, 10, 11, 12, 13, 14, 24, 31, 43, 50, 59, 71] Tryz.func34 fun hsc => ?_
 refine cl h (d2h _ _ _) fun v1 h => ?_
 refine rn ?_
 refine XV (body := ZA a0 v1 a1) (kk := ZB n a0 v1 a1 a2 a3) (n := n) (s0 := (0, 0))
  (fun (gs0 : Unit) (s0 : Int × Int) => [(2, .int .i64 a2), (3, .int .i64 a3), (4, .ptr st.length 0 0 0), (5, .ptr (st.length + 1) 0 0 0), (8, .ptr (st.length + 2) 0 0 0), (9, .int .i64 v1), (10, .int .i64 s0.1), (12, .int .i64 s0.2)])
  (fun (gs0 : Unit) (s0 : Int × Int) => st ++ [some (.arr 0 5 0 [[.sl false 2 40 (rows WT.cells a0.hierarchy.types), .sl false 3 32 (rows Xf.cells a0.hierarchy.Xw), .sl false 10 152 (rows WQ.cells a0.rules), .sl false 9 144 (rows XE.cells a0.Xj), .sl false 2 32 (rows WX.cells a0.start.nodes)]]), some (.arr 0 2 0 [[.sl false 1 8 (rows XM a1.rules), .sl false 1 8 (rows XM a1.Xj)]]), some (.arr 0 2 0 [[.int .i64 0, .int .i64 0]])])
  (fun (gt0 : Unit) (t0 : Int) => [(2, .int .i64 a2), (3, .int .i64 a3), (4, .ptr st.length 0 0 0), (5, .ptr (st.length + 1) 0 0 0), (8, .ptr (st.length + 2) 0 0 0), (9, .int .i64 v1), (10, .int .i64 t0)])
  (fun (gt0 : Unit) (t0 : Int) => st ++ [some (.arr 0 5 0 [[.sl false 2 40 (rows WT.cells a0.hierarchy.types), .sl false 3 32 (rows Xf.cells a0.hierarchy.Xw), .sl false 10 152 (rows WQ.cells a0.rules), .sl false 9 144 (rows XE.cells a0.Xj), .sl false 2 32 (rows WX.cells a0.start.nodes)]]), some (.arr 0 2 0 [[.sl false 1 8 (rows XM a1.rules), .sl false 1 8 (rows XM a1.Xj)]]), some (.arr 0 2 0 [[.int .i64 0, .int .i64 0]])])
  () h (bm hsc)
  (fun gs0 s0 b0 h hx0 => ?_) (fun gt0 t0 fr1 st1 h hb => ?_)
 ·unfold ZA at h
  refine cd h (fun hc h => ?_) fun hc h => ?_
  ·refine cl h (d2h _ _ _) fun v4 h => ?_
   refine cd h (fun hc h => ?_) fun hc h => ?_
   ·obtain ⟨fx, h⟩ := ck fx h
    refine rn ?_
    cases h
    exact Yg () (bm hsc)
   ·refine rn ?_
    cases h
    exact Yg () (bm hsc)
  ·refine rn ?_
   cases h
   exact Zq () (bm hsc)
 ·try simp only [go_sem, fx]
  unfold ZB at h
  refine d0s hb ?_
  refine rn ?_
  refine XV (body := d0M a0 v1 a1) (kk := d0N n a2 a1 a3) (n := n) (s0 := (t0, 0))
   (fun (gs1 : Unit) (s1 : Int × Int) => [(2, .int .i64 a2), (3, .int .i64 a3), (4, .ptr st.length 0 0 0), (5, .ptr (st.length + 1) 0 0 0), (8, .ptr (st.length + 2) 0 0 0), (9, .int .i64 v1), (10, .int .i64 s1.1), (13, .int .i64 s1.2)])
   (fun (gs1 : Unit) (s1 : Int × Int) => st ++ [some (.arr 0 5 0 [[.sl false 2 40 (rows WT.cells a0.hierarchy.types), .sl false 3 32 (rows Xf.cells a0.hierarchy.Xw), .sl false 10 152 (rows WQ.cells a0.rules), .sl false 9 144 (rows XE.cells a0.Xj), .sl false 2 32 (rows WX.cells a0.start.nodes)]]), some (.arr 0 2 0 [[.sl false 1 8 (rows XM a1.rules), .sl false 1 8 (rows XM a1.Xj)]]), some (.arr 0 2 0 [[.int .i64 0, .int .i64 0]])])
   (fun (gt1 : Unit) (t1 : Int) => [(2, .int .i64 a2), (3, .int .i64 a3), (5, .ptr (st.length + 1) 0 0 0), (8, .ptr (st.length + 2) 0 0 0), (10, .int .i64 t1)])
   (fun (gt1 : Unit) (t1 : Int) => st ++ [none, some (.arr 0 2 0 [[.sl false 1 8 (rows XM a1.rules), .sl false 1 8 (rows XM a1.Xj)]]), some (.arr 0 2 0 [[.int .i64 0, .int .i64 0]])])
   () h (bm hsc)
   (fun gs1 s1 b1 h hx1 => ?_) (fun gt1 t1 fr1 st1 h hb => ?_)
  ·unfold d0M at h
   refine cd h (fun hc h => ?_) fun hc h => ?_
   ·refine cl h (d2h _ _ _) fun v9 h => ?_
    refine cd h (fun hc h => ?_) fun hc h => ?_
    ·obtain ⟨fx, h⟩ := ck fx h
     refine rn ?_
     cases h
     exact Yg () (bm hsc)
    ·refine rn ?_
     cases h
     exact Yg () (bm hsc)
   ·refine rn ?_
    cases h
    exact Zq () (bm hsc)
  ·try simp only [go_sem, fx]
   unfold d0N at h
   refine d0s hb ?_
   refine rn ?_
   refine d6p (YM n t1) r (fun (gj2 : Unit) (j2 : Int) => [(8, .ptr (st.length + 2) 0 0 0), (10, .int .i64 t1), (11, .int .i64 j2)]) (fun (gj2 : Unit) (j2 : Int) => st ++ [none, none, some (.arr 0 2 0 [[.int .i64 0, .int .i64 0]])]) (fun gj2 j2 fr1 st1 h hb => ?_) (fun hj2 => ?_)
   ·try simp only [go_sem, fx]
    unfold YM at h
    refine d0s hb ?_
    refine cd h (fun hc h => ?_) fun hc h => ?_
    ·exact rt
    ·refine cl h (d6L n _ _) fun v16 h => ?_
     exact rt
   ·refine cd h (fun hc h => ?_) fun hc h => ?_
    ·obtain ⟨fx, h⟩ := ck fx h
     refine r0 ?_
     refine hj2 () _ _ _ h ?_; exact (bm hsc)
    ·obtain ⟨fx, h⟩ := ck fx h
     refine r0 ?_
     refine hj2 () _ _ _ h ?_; exact (bm hsc)
theorem i1p (n : Nat) (a0 : Xa) (a1 : Xt) (r : (List WZ) × (List WZ) × WM) (h : d3V n a0 a1 = some r) : Pure Tryz.prog gl 33 [.agg [.sl false 2 40 (rows WT.cells a0.hierarchy.types), .sl false 3 32 (rows Xf.cells a0.hierarchy.Xw), .sl false 10 152 (rows WQ.cells a0.rules), .sl false 9 144 (rows XE.cells a0.Xj), .sl false 2 32 (rows WX.cells a0.start.nodes)], .agg [.sl false 1 8 (rows XM a1.rules), .sl false 1 8 (rows XM a1.Xj)]] (.tup [.sl false 2 16 (rows WZ.cells r.1), .sl false 2 16 (rows WZ.cells r.2.1), .agg [.int .i64 r.2.2.code, .int .i64 r.2.2.index]]) := by
 intro st
 unfold d3V at h
 have fx := trivial
 refine fb 26 [.tmp 4, .tmp 5, .cell 6 41] [0, 1, 2, 3, 4, 5, 6, 7, 8, 9, 15] Tryz.func33 fun hsc => ?_
 refine cl h (i0B n _ _) fun v1 h => ?_
 refine cd h (fun hc h => ?_) fun hc h => ?_
 ·refine rs ?_
  refine dw [] 0 ?_
  refine rr ?_
  exact fo (.tup [.sl false 2 16 (rows WZ.cells []), .sl false 2 16 (rows WZ.cells []), .agg [.int .i64 v1.code, .int .i64 v1.index]]) (.tup _ _ (.cons _ _ _ _ (.XC _ _ _ (by decide)) (.cons _ _ _ _ (.XC _ _ _ (by decide)) (.cons _ _ _ _ .s .nil))) rfl) h hsc
 ·refine cl h (d8J n _ _) fun v2 h => ?_
  exact rt
end Go.Proofs.YtgaeiccgdpnkkaaGreatDoor
