import Derived.Test.YtgaeiccgdpnkkaaGreatDoorCWalk17
set_option linter.unusedVariables false
set_option linter.unusedSimpArgs false
set_option maxHeartbeats 2000000
set_option maxRecDepth 100000
namespace Go.Proofs.YtgaeiccgdpnkkaaGreatDoor
open Go Go.Am
theorem d7m (n : Nat) (a0 : Yq) (a1 : Yl) (r : Yf) (h : ZI n a0 a1 = some r) : Pure Tryz.prog gl 28 [.agg [.sl false 2 40 (rows Yj.cells a0.hierarchy.types), .sl false 3 32 (rows Yt.cells a0.hierarchy.YI), .sl false 10 152 (rows Yh.cells a0.rules), .sl false 9 144 (rows YR.cells a0.YK), .sl false 2 32 (rows Yo.cells a0.start.nodes)], .agg [.int .i64 a1.rule, .int .i64 a1.lex, .sl false 3 40 (rows Yl.cells a1.kids)]] (.agg [.int .i64 r.code, .int .i64 r.index]) := by
 intro st
 unfold ZI at h
 have fx := trivial
 refine fb 20 [.cell 4 41] [0, 1, 2, 3, 4, 5, 6, 7, 15, 16, 17] Tryz.func28 fun hsc => ?_
 refine rn ?_
 obtain ⟨v1, hv1, h⟩ := Zp h
 refine (d8X n _ _ _ _ _ _ _ hv1 _ _ _ (by simp) (d1J.trans rfl) (d1J.trans rfl)).mono ?_
 rintro d1 st1 ⟨rfl, rfl⟩
 refine cd h (fun hc h => ?_) fun hc h => ?_
 ·exact rt
 ·exact rt
theorem d7O : ∀ (n : Nat) (a0 : Yl) (a1 : Int) (a2 : Int) (r : Int) (h : Zo n a0 a1 a2 = some r), Pure Tryz.prog gl 29 [.agg [.int .i64 a0.rule, .int .i64 a0.lex, .sl false 3 40 (rows Yl.cells a0.kids)], .int .i64 a1, .int .i64 a2] (.int .i64 r) := by
 intro n
 induction n with
 | zero => intro a0 a1 a2 r h; cases h
 | succ n ih =>
  intro a0 a1 a2 r h st
  unfold Zo at h
  have fx := trivial
  refine fb 41 [.tmp 6] [0, 1, 2, 3, 6, 7, 8, 14, 15, 16, 17, 18, 19, 20, 21, 22, 27] Tryz.func29 fun hsc => ?_
  refine rn ?_
  refine d5D (ZW (Zo n) n a0 a1 a2) r (fun (gj0 : Unit) (j0 : Int) => [(1, .int .i64 a1), (2, .int .i64 a2), (3, .ptr st.length 0 0 0), (7, .int .i64 j0)]) (fun (gj0 : Unit) (j0 : Int) => st ++ [some (.arr 0 3 0 [[.int .i64 a0.rule, .int .i64 a0.lex, .sl false 3 40 (rows Yl.cells a0.kids)]])]) (fun gj0 j0 fr1 st1 h hb => ?_) (fun hj0 => ?_)
  ·try simp only [go_sem, fx]
   unfold ZW at h
   refine d1w hb ?_
   refine rn ?_
   refine ZQ (body := d1H (Zo n) a0 a1 a2) (kk := d3d) (n := n) (s0 := (j0, 0))
    (fun (gs1 : Unit) (s1 : Int × Int) => [(1, .int .i64 a1), (2, .int .i64 a2), (3, .ptr st.length 0 0 0), (7, .int .i64 s1.1), (8, .int .i64 s1.2)])
    (fun (gs1 : Unit) (s1 : Int × Int) => st ++ [some (.arr 0 3 0 [[.int .i64 a0.rule, .int .i64 a0.lex, .sl false 3 40 (rows Yl.cells a0.kids)]])])
    (fun (gt1 : Unit) (t1 : Int) => [(7, .int .i64 t1)])
    (fun (gt1 : Unit) (t1 : Int) => st)
    () h (bm hsc)
    (fun gs1 s1 b1 h hx1 => ?_) (fun gt1 t1 fr1 st1 h hb => ?_)
   ·unfold d1H at h
    refine cd h (fun hc h => ?_) fun hc h => ?_
    ·obtain ⟨fx, h⟩ := ck fx h
     refine cl h (ih _ _ _) fun v5 h => ?_
     refine rn ?_
     cases h
     exact d0g () (bm hsc)
    ·refine rn ?_
     cases h
     exact d1U () (bm0 hsc)
   ·try simp only [go_sem, fx]
    unfold d3d at h
    refine d1w hb ?_
    exact rt
  ·refine cd h (fun hc h => ?_) fun hc h => ?_
   ·refine r0 ?_
    refine hj0 () _ _ _ h ?_; exact (bm hsc)
   ·refine r0 ?_
    refine hj0 () _ _ _ h ?_; exact (bm hsc)
theorem d4l (n : Nat) (a0 : Yq) (a1 : (List Yl)) (r : Bool) (h : ZM n a0 a1 = some r) : Pure Tryz.prog gl 5 [.agg [.sl false 2 40 (rows Yj.cells a0.hierarchy.types), .sl false 3 32 (rows Yt.cells a0.hierarchy.YI), .sl false 10 152 (rows Yh.cells a0.rules), .sl false 9 144 (rows YR.cells a0.YK), .sl false 2 32 (rows Yo.cells a0.start.nodes)], .sl false 3 40 (rows Yl.cells a1)] (.bool r) := by
 intro st
 unfold ZM at h
 have fx := trivial
 refine fb 158 [.tmp 4] [0, 1, 2, 4, 5, 6, 7, 8, 9, 10, 11, 12, 13, 14, 16, 29, 30, 31, 32, 39, 40, 41, 42, 53, 60, 65, 66, 67, 68, 71, 72, 73, 74, 80, 81, 82, 83, 84, 85, 86, 89, 90, 91, 92, 93, 94, 95, 96, 105, 113, 122, 137, 138, 139, 140, 141, 142, 143, 146, 147, 148, 149, 150, 151, 152, 153, 154, 155, 156, 157] Tryz.func5 fun hsc => ?_
 refine cl h (d6H n) fun v1 h => ?_
 refine cd h (fun hc h => ?_) fun hc h => ?_
 ·exact rt
 ·refine cl h (i3O n _ _) fun v2 h => ?_
  refine cl h (d6i n _) fun v3 h => ?_
  refine rn ?_
  refine d5D (YU n a1 a0 v2) r (fun (gj0 : Unit) (j0 : Int × Int) => [(1, .sl false 3 40 (rows Yl.cells a1)), (2, .ptr st.length 0 0 0), (5, .ptr (st.length + 1) 0 0 0), (6, .ptr (st.length + 2) 0 0 0), (7, .ptr (st.length + 3) 0 0 0)]) (fun (gj0 : Unit) (j0 : Int × Int) => st ++ [some (.arr 0 5 0 [[.sl false 2 40 (rows Yj.cells a0.hierarchy.types), .sl false 3 32 (rows Yt.cells a0.hierarchy.YI), .sl false 10 152 (rows Yh.cells a0.rules), .sl false 9 144 (rows YR.cells a0.YK), .sl false 2 32 (rows Yo.cells a0.start.nodes)]]), some (.arr 0 2 0 [[.sl false 1 8 (rows Zg v2.1.rules), .sl false 1 8 (rows Zg v2.1.YK)]]), some (.arr 0 2 0 [[.int .i64 v2.2.code, .int .i64 v2.2.index]]), some (.arr 0 2 0 [[.int .i64 j0.1, .int .i64 j0.2]])]) (fun gj0 j0 fr1 st1 h hb => ?_) (fun hj0 => ?_)
  ·try simp only [go_sem, fx]
   unfold YU at h
   refine d1w hb ?_
   refine rn ?_
   refine ZQ (body := Zb n a1 a0) (kk := Zc n v2 a0 a1) (n := n) (s0 := (j0.1, j0.2, 0))
    (fun (gs1 : Unit) (s1 : Int × Int × Int) => [(1, .sl false 3 40 (rows Yl.cells a1)), (2, .ptr st.length 0 0 0), (5, .ptr (st.length + 1) 0 0 0), (6, .ptr (st.length + 2) 0 0 0), (7, .ptr (st.length + 3) 0 0 0), (8, .int .i64 s1.2.2)])
    (fun (gs1 : Unit) (s1 : Int × Int × Int) => st ++ [some (.arr 0 5 0 [[.sl false 2 40 (rows Yj.cells a0.hierarchy.types), .sl false 3 32 (rows Yt.cells a0.hierarchy.YI), .sl false 10 152 (rows Yh.cells a0.rules), .sl false 9 144 (rows YR.cells a0.YK), .sl false 2 32 (rows Yo.cells a0.start.nodes)]]), some (.arr 0 2 0 [[.sl false 1 8 (rows Zg v2.1.rules), .sl false 1 8 (rows Zg v2.1.YK)]]), some (.arr 0 2 0 [[.int .i64 v2.2.code, .int .i64 v2.2.index]]), some (.arr 0 2 0 [[.int .i64 s1.1, .int .i64 s1.2.1]])])
    (fun (gt1 : Unit) (t1 : Int × Int) => [(1, .sl false 3 40 (rows Yl.cells a1)), (2, .ptr st.length 0 0 0), (5, .ptr (st.length + 1) 0 0 0), (6, .ptr (st.length + 2) 0 0 0), (7, .ptr (st.length + 3) 0 0 0)])
    (fun (gt1 : Unit) (t1 : Int × Int) => st ++ [some (.arr 0 5 0 [[.sl false 2 40 (rows Yj.cells a0.hierarchy.types), .sl false 3 32 (rows Yt.cells a0.hierarchy.YI), .sl false 10 152 (rows Yh.cells a0.rules), .sl false 9 144 (rows YR.cells a0.YK), .sl false 2 32 (rows Yo.cells a0.start.nodes)]]), some (.arr 0 2 0 [[.sl false 1 8 (rows Zg v2.1.rules), .sl false 1 8 (rows Zg v2.1.YK)]]), some (.arr 0 2 0 [[.int .i64 v2.2.code, .int .i64 v2.2.index]]), some (.arr 0 2 0 [[.int .i64 t1.1, .int .i64 t1.2]])])
    () h (bm hsc)
    (fun gs1 s1 b1 h hx1 => ?_) (fun gt1 t1 fr1 st1 h hb => ?_)
   ·unfold Zb at h
    refine cd h (fun hc h => ?_) fun hc h => ?_
    ·refine rn ?_
     obtain ⟨fx, h⟩ := ck fx h
     refine dw [] 1 ?_
     obtain ⟨v8, hv8, h⟩ := Zp h
     refine Yv (d7m n _ _ _ hv8) ?_
     try simp only [go_sem, fx]
     refine cd h (fun hc h => ?_) fun hc h => ?_
     ·refine rn ?_
      cases h
      exact d0g () (bm hsc)
     ·refine rn ?_
      cases h
      exact d0g () (bm hsc)
    ·refine rn ?_
     cases h
     exact d1U () (bm hsc)
   ·try simp only [go_sem, fx]
    unfold Zc at h
    refine d1w hb ?_
    refine cd h (fun hc h => ?_) fun hc h => ?_
    ·exact rt
    ·refine cd h (fun hc h => ?_) fun hc h => ?_
     ·exact rt
     ·refine rn ?_
      refine ZQ (body := ZA n a0 a1 v2) (kk := d0m) (n := n) (s0 := 0)
       (fun (gs2 : Unit) (s2 : Int) => [(1, .sl false 3 40 (rows Yl.cells a1)), (2, .ptr st.length 0 0 0), (5, .ptr (st.length + 1) 0 0 0), (10, .int .i64 s2)])
       (fun (gs2 : Unit) (s2 : Int) => st ++ [some (.arr 0 5 0 [[.sl false 2 40 (rows Yj.cells a0.hierarchy.types), .sl false 3 32 (rows Yt.cells a0.hierarchy.YI), .sl false 10 152 (rows Yh.cells a0.rules), .sl false 9 144 (rows YR.cells a0.YK), .sl false 2 32 (rows Yo.cells a0.start.nodes)]]), some (.arr 0 2 0 [[.sl false 1 8 (rows Zg v2.1.rules), .sl false 1 8 (rows Zg v2.1.YK)]])])
       (fun (gt2 : Unit) (t2 : Unit) => [])
       (fun (gt2 : Unit) (t2 : Unit) => st)
       () h (bm hsc)
       (fun gs2 s2 b2 h hx2 => ?_) (fun gt2 t2 fr1 st1 h hb => ?_)
      ·unfold ZA at h
       refine cd h (fun hc h => ?_) fun hc h => ?_
       ·refine rn ?_
        refine d5D (Zd n a1 v2 s2) b2 (fun (gj5 : Unit) (j5 : Int × Int) => [(1, .sl false 3 40 (rows Yl.cells a1)), (2, .ptr st.length 0 0 0), (5, .ptr (st.length + 1) 0 0 0), (10, .int .i64 s2), (11, .int .i64 j5.1), (12, .int .i64 j5.2)]) (fun (gj5 : Unit) (j5 : Int × Int) => st ++ [some (.arr 0 5 0 [[.sl false 2 40 (rows Yj.cells a0.hierarchy.types), .sl false 3 32 (rows Yt.cells a0.hierarchy.YI), .sl false 10 152 (rows Yh.cells a0.rules), .sl false 9 144 (rows YR.cells a0.YK), .sl false 2 32 (rows Yo.cells a0.start.nodes)]]), some (.arr 0 2 0 [[.sl false 1 8 (rows Zg v2.1.rules), .sl false 1 8 (rows Zg v2.1.YK)]])]) (fun gj5 j5 fr1 st1 h hb => ?_) (fun hj5 => ?_)
        ·try simp only [go_sem, fx]
         unfold Zd at h
         refine d1w hb ?_
         refine rn ?_
         refine ZQ (body := Zn n a1 j5) (kk := Zz j5 v2 s2) (n := n) (s0 := (0, 0))
          (fun (gs6 : Unit) (s6 : Int × Int) => [(1, .sl false 3 40 (rows Yl.cells a1)), (2, .ptr st.length 0 0 0), (5, .ptr (st.length + 1) 0 0 0), (10, .int .i64 s2), (11, .int .i64 j5.1), (12, .int .i64 j5.2), (13, .int .i64 s6.1), (14, .int .i64 s6.2)])
          (fun (gs6 : Unit) (s6 : Int × Int) => st ++ [some (.arr 0 5 0 [[.sl false 2 40 (rows Yj.cells a0.hierarchy.types), .sl false 3 32 (rows Yt.cells a0.hierarchy.YI), .sl false 10 152 (rows Yh.cells a0.rules), .sl false 9 144 (rows YR.cells a0.YK), .sl false 2 32 (rows Yo.cells a0.start.nodes)]]), some (.arr 0 2 0 [[.sl false 1 8 (rows Zg v2.1.rules), .sl false 1 8 (rows Zg v2.1.YK)]])])
          (fun (gt6 : Unit) (t6 : Int) => [(1, .sl false 3 40 (rows Yl.cells a1)), (2, .ptr st.length 0 0 0), (5, .ptr (st.length + 1) 0 0 0), (10, .int .i64 s2), (11, .int .i64 j5.1), (12, .int .i64 j5.2), (13, .int .i64 t6)])
          (fun (gt6 : Unit) (t6 : Int) => st ++ [some (.arr 0 5 0 [[.sl false 2 40 (rows Yj.cells a0.hierarchy.types), .sl false 3 32 (rows Yt.cells a0.hierarchy.YI), .sl false 10 152 (rows Yh.cells a0.rules), .sl false 9 144 (rows YR.cells a0.YK), .sl false 2 32 (rows Yo.cells a0.start.nodes)]]), some (.arr 0 2 0 [[.sl false 1 8 (rows Zg v2.1.rules), .sl false 1 8 (rows Zg v2.1.YK)]])])
          () h (bm hsc)
          (fun gs6 s6 b6 h hx6 => ?_) (fun gt6 t6 fr1 st1 h hb => ?_)
         ·unfold Zn at h
          refine cd h (fun hc h => ?_) fun hc h => ?_
          ·obtain ⟨fx, h⟩ := ck fx h
           refine cl h (d7O n _ _ _) fun v24 h => ?_
           refine rn ?_
           cases h
           exact d0g () (bm hsc)
          ·refine rn ?_
           cases h
           exact d1U () (bm hsc)
         ·try simp only [go_sem, fx]
          unfold Zz at h
          refine d1w hb ?_
          obtain ⟨fx, h⟩ := ck fx h
          obtain ⟨fx, h⟩ := ck fx h
          refine cd h (fun hc h => ?_) fun hc h => ?_
          ·refine ra ?_
           cases h
           refine d3x ?_; have h := congrArg some (hx2 _ rfl)
           exact rt
          ·refine rn ?_
           cases h
           exact d0g () (bm hsc)
        ·refine cd h (fun hc h => ?_) fun hc h => ?_
         ·refine rs ?_
          refine dw [] 0 ?_
          refine hj5 () _ _ _ h ?_; exact (bm hsc)
         ·refine r0 ?_
          refine hj5 () _ _ _ h ?_; exact (bm hsc)
       ·refine rn ?_
        cases h
        exact d1U () (bm0 hsc)
      ·try simp only [go_sem, fx]
       unfold d0m at h
       refine d1w hb ?_
       exact rt
  ·refine cd h (fun hc h => ?_) fun hc h => ?_
   ·refine r0 ?_
    refine hj0 () _ _ _ h ?_; exact (bm hsc)
   ·refine r0 ?_
    refine hj0 () _ _ _ h ?_; exact (bm hsc)
end Go.Proofs.YtgaeiccgdpnkkaaGreatDoor
