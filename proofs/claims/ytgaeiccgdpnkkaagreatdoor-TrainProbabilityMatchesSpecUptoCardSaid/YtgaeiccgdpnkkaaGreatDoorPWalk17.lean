import Derived.Test.YtgaeiccgdpnkkaaGreatDoorPWalk16
set_option linter.unusedVariables false
set_option linter.unusedSimpArgs false
set_option maxHeartbeats 2000000
set_option maxRecDepth 100000
namespace Go.Proofs.YtgaeiccgdpnkkaaGreatDoor
open Go Go.Am
theorem i3w (n : Nat) (a0 : Ym) (a1 : Int) (r : Yg) (h : d9w n a0 a1 = some r) : Pure Tryz.prog gl 88 [.agg [.int .i64 a0.num, .int .i64 a0.den], .int .i64 a1] (.agg [.int .i64 r.code, .int .i64 r.index]) := by
 intro st
 unfold d9w at h
 have fx := trivial
 refine fb 36 [.cell 4 41] [0, 1, 2, 4, 9, 10, 11, 14, 15, 16, 19, 20, 21, 22, 32] Tryz.func88 fun hsc => ?_
 refine cd h (fun hc h => ?_) fun hc h => ?_
 ·exact rt
 ·refine rn ?_
  refine dw [] 0 ?_
  obtain ⟨v1, hv1, h⟩ := Zg h
  refine Yt (d8s _ _ hv1) ?_
  try simp only [go_sem, fx]
  obtain ⟨v2, hv2, h⟩ := Zg h
  refine Yt (i0X n _ _ _ hv2) ?_
  try simp only [go_sem, fx]
  refine cd h (fun hc h => ?_) fun hc h => ?_
  ·exact rt
  ·exact rt
theorem i9I (n : Nat) (a0 : Ym) (a1 : Ym) (r : Yg) (h : i2r n a0 a1 = some r) : Pure Tryz.prog gl 191 [.agg [.int .i64 a0.num, .int .i64 a0.den], .agg [.int .i64 a1.num, .int .i64 a1.den]] (.agg [.int .i64 r.code, .int .i64 r.index]) := by
 intro st
 unfold i2r at h
 have fx := trivial
 refine fb 14 [.cell 4 41] [0, 1, 2, 3, 4, 5, 10] Tryz.func191 fun hsc => ?_
 refine cl h (i3w n _ _) fun v1 h => ?_
 refine cd h (fun hc h => ?_) fun hc h => ?_
 ·exact rt
 ·refine cl h (i3w n _ _) fun v2 h => ?_
  exact rt
theorem i3D (a0 : Int) (a1 : Int) (r : Int × Int) (h : d6M a0 a1 = some r) : Pure Tryz.prog gl 156 [.int .u64 a0, .int .u64 a1] (.tup [.int .u64 r.1, .int .u64 r.2]) := by
 intro st
 unfold d6M at h
 have fx := trivial
 refine fb 51 [.tmp 4, .tmp 5] [0, 1, 4, 5, 6, 7, 8, 9, 10, 11, 12, 13] Tryz.func156 fun hsc => ?_
 exact rt
theorem i1r (a0 : Int) (a1 : Int) (r : Int × Bool) (h : d6V a0 a1 = some r) : Pure Tryz.prog gl 160 [.int .u64 a0, .int .u64 a1] (.tup [.int .u64 r.1, .bool r.2]) := by
 intro st
 unfold d6V at h
 have fx := trivial
 refine fb 21 [.tmp 4, .tmp 5] [0, 1, 4, 5, 6, 7, 18, 19] Tryz.func160 fun hsc => ?_
 refine cl h (i3D _ _) fun v1 h => ?_
 exact rt
theorem i8w (n : Nat) (a0 : Ym) (a1 : Ym) (r : Ym × Yg) (h : i2s n a0 a1 = some r) : Pure Tryz.prog gl 192 [.agg [.int .i64 a0.num, .int .i64 a0.den], .agg [.int .i64 a1.num, .int .i64 a1.den]] (.tup [.agg [.int .i64 r.1.num, .int .i64 r.1.den], .agg [.int .i64 r.2.code, .int .i64 r.2.index]]) := by
 intro st
 unfold i2s at h
 have fx := trivial
 refine fb 78 [.cell 4 71, .cell 5 41] [0, 1, 2, 3, 4, 5, 6, 7, 8, 9, 10, 11, 12, 13, 14, 15, 57, 58, 59, 70, 71] Tryz.func192 fun hsc => ?_
 refine rn ?_
 refine dw [] 0 ?_
 obtain ⟨v1, hv1, h⟩ := Zg h
 refine Yt (d8s _ _ hv1) ?_
 try simp only [go_sem, fx]
 obtain ⟨v2, hv2, h⟩ := Zg h
 refine Yt (d8s _ _ hv2) ?_
 try simp only [go_sem, fx]
 refine cl h (i0X n _ _) fun v3 h => ?_
 refine cl h (i0X n _ _) fun v4 h => ?_
 refine rn ?_
 obtain ⟨fx, h⟩ := ck fx h
 obtain ⟨fx, h⟩ := ck fx h
 refine dw [] 0 ?_
 obtain ⟨v9, hv9, h⟩ := Zg h
 refine Yt (i1r _ _ _ hv9) ?_
 try simp only [go_sem, fx]
 refine rs ?_
 obtain ⟨fx, h⟩ := ck fx h
 obtain ⟨fx, h⟩ := ck fx h
 refine dw [] 0 ?_
 obtain ⟨v12, hv12, h⟩ := Zg h
 refine Yt (i1r _ _ _ hv12) ?_
 try simp only [go_sem, fx]
 refine cd h (fun hc h => ?_) fun hc h => ?_
 ·exact rt
 ·refine cl h (i8v _ _ _) fun v13 h => ?_
  exact rt
theorem p1q (n : Nat) (a0 : Ym) (a1 : Ym) (r : Ym × Yg) (h : i5i n a0 a1 = some r) : Pure Tryz.prog gl 148 [.agg [.int .i64 a0.num, .int .i64 a0.den], .agg [.int .i64 a1.num, .int .i64 a1.den]] (.tup [.agg [.int .i64 r.1.num, .int .i64 r.1.den], .agg [.int .i64 r.2.code, .int .i64 r.2.index]]) := by
 intro st
 unfold i5i at h
 have fx := trivial
 refine fb 20 [.cell 4 71, .cell 5 41] [0, 1, 2, 3, 4, 5, 6, 12] Tryz.func148 fun hsc => ?_
 refine cl h (i9I n _ _) fun v1 h => ?_
 refine cd h (fun hc h => ?_) fun hc h => ?_
 ·refine rs ?_
  refine dw [1, 2] 0 ?_
  try refine ⟨by (simp <;> omega), ?_⟩
  exact rt
 ·refine cl h (i8w n _ _) fun v2 h => ?_
  exact rt
theorem i1b : ∀ (n : Nat) (a0 : Yr) (d0m : (List Ym)) (d5B : (List Ym)) (i3R : Int) (p1t : Int) (r : Bool × Int × Int) (h : d0j n a0 d0m d5B i3R p1t = some r), ∀ (st : St) (o0 o1 o2 o3 : Nat) (hnd : [o0, o1, o2, o3].Nodup) (d7g : Am.look st o0 = some (.arr 0 1 0 [[.sl false 2 16 (rows Ym.cells d0m)]])) (i1p : Am.look st o1 = some (.arr 0 1 0 [[.sl false 2 16 (rows Ym.cells d5B)]])) (i6u : Am.look st o2 = some (.arr 0 2 0 [[.int .i64 i3R, .int .i64 p1t]])) (p3t : Am.look st o3 = some (.arr 0 1 0 [[.fn 147 [] [.ptr o0 0 0 0, .ptr o1 0 0 0, .ptr o2 0 0 0, .ptr o3 0 0 0]]])), Am.Spec Tryz.prog gl 147 [.agg [.int .i64 a0.rule, .int .i64 a0.lex, .sl false 3 40 (rows Yr.cells a0.kids)], .ptr o0 0 0 0, .ptr o1 0 0 0, .ptr o2 0 0 0, .ptr o3 0 0 0] st (fun d st' => d = .bool r.1 ∧ st' = puts st [(o0, (.arr 0 1 0 [[.sl false 2 16 (rows Ym.cells d0m)]])), (o1, (.arr 0 1 0 [[.sl false 2 16 (rows Ym.cells d5B)]])), (o2, (.arr 0 2 0 [[.int .i64 r.2.1, .int .i64 r.2.2]])), (o3, (.arr 0 1 0 [[.fn 147 [] [.ptr o0 0 0 0, .ptr o1 0 0 0, .ptr o2 0 0 0, .ptr o3 0 0 0]]]))]) := by
 intro n
 induction n with
 | zero => intro a0 d0m d5B i3R p1t r h; cases h
 | succ n ih =>
  intro a0 d0m d5B i3R p1t r h st o0 o1 o2 o3 hnd d7g i1p i6u p3t
  unfold d0j at h
  have ho0 := d2c d7g
  have ho1 := d2c i1p
  have ho2 := d2c i6u
  have ho3 := d2c p3t
  have fx := fa (fa (fa (fa (idf ho0) (idf ho1)) (idf ho2)) (idf ho3)) (nd4 hnd)
  refine fb 45 [.tmp 6] [0, 1, 2, 3, 4, 5, 6, 7, 8, 10, 13, 32, 34, 35, 36, 37, 43] Tryz.func147 fun hsc => ?_
  refine i0b (s' := (d2n st [(o0, (.arr 0 1 0 [[.sl false 2 16 (rows Ym.cells d0m)]])), (o1, (.arr 0 1 0 [[.sl false 2 16 (rows Ym.cells d5B)]])), (o2, (.arr 0 2 0 [[.int .i64 i3R, .int .i64 p1t]])), (o3, (.arr 0 1 0 [[.fn 147 [] [.ptr o0 0 0 0, .ptr o1 0 0 0, .ptr o2 0 0 0, .ptr o3 0 0 0]]]))])) (d0t (by simp [d7g, i1p, i6u, p3t])) ?_
  refine rn ?_
  refine d6o (d2a (d0j n) n i3R p1t a0 d0m d5B) r (fun (gj0 : Unit) (j0 : Int × Int) => [(3, .ptr o2 0 0 0), (4, .ptr o3 0 0 0), (5, .ptr st.length 0 0 0), (7, .ptr (st.length + 1) 0 0 0)]) (fun (gj0 : Unit) (j0 : Int × Int) => (d2n st [(o0, (.arr 0 1 0 [[.sl false 2 16 (rows Ym.cells d0m)]])), (o1, (.arr 0 1 0 [[.sl false 2 16 (rows Ym.cells d5B)]])), (o2, (.arr 0 2 0 [[.int .i64 i3R, .int .i64 p1t]])), (o3, (.arr 0 1 0 [[.fn 147 [] [.ptr o0 0 0 0, .ptr o1 0 0 0, .ptr o2 0 0 0, .ptr o3 0 0 0]]]))]) ++ [some (.arr 0 3 0 [[.int .i64 a0.rule, .int .i64 a0.lex, .sl false 3 40 (rows Yr.cells a0.kids)]]), some (.arr 0 2 0 [[.int .i64 j0.1, .int .i64 j0.2]])]) (fun gj0 j0 fr1 st1 h hb => ?_) (fun hj0 => ?_)
  ·try simp only [go_sem, fx]
   unfold d2a at h
   refine d1F hb ?_
   refine cl h (p1q n _ _) fun v5 h => ?_
   refine cd h (fun hc h => ?_) fun hc h => ?_
   ·refine rr ?_
    exact fuo (.bool false) (.same _) h hsc
   ·refine aln 34 fun hl1 => ?_
    refine rng (body := d4a (d0j n) a0 d0m d5B) (kk := d5G) (n := a0.kids.length) (s0 := (v5.1.num, v5.1.den))
     (fun (gs1 : Unit) (k1 : Nat) (s1 : Int × Int) => [(4, .ptr o3 0 0 0), (34, .sl false 3 40 (rows Yr.cells a0.kids)), (35, .int .i64 (↑a0.kids.length : Int)), (36, .int .i64 (↑k1 : Int))])
     (fun (gs1 : Unit) (k1 : Nat) (s1 : Int × Int) => (d2n st [(o0, (.arr 0 1 0 [[.sl false 2 16 (rows Ym.cells d0m)]])), (o1, (.arr 0 1 0 [[.sl false 2 16 (rows Ym.cells d5B)]])), (o2, (.arr 0 2 0 [[.int .i64 s1.1, .int .i64 s1.2]])), (o3, (.arr 0 1 0 [[.fn 147 [] [.ptr o0 0 0 0, .ptr o1 0 0 0, .ptr o2 0 0 0, .ptr o3 0 0 0]]]))]))
     (fun (gt1 : Unit) (t1 : Int × Int) => [])
     (fun (gt1 : Unit) (t1 : Int × Int) => (d2n st [(o0, (.arr 0 1 0 [[.sl false 2 16 (rows Ym.cells d0m)]])), (o1, (.arr 0 1 0 [[.sl false 2 16 (rows Ym.cells d5B)]])), (o2, (.arr 0 2 0 [[.int .i64 t1.1, .int .i64 t1.2]])), (o3, (.arr 0 1 0 [[.fn 147 [] [.ptr o0 0 0 0, .ptr o1 0 0 0, .ptr o2 0 0 0, .ptr o3 0 0 0]]]))]))
     () fx hl1 h (bu0 hsc)
     (fun gs1 k1 s1 b1 fx h hx1 => ?_) (fun gs1 s1 => ?_) (fun gt1 t1 fr1 st1 h hb => ?_)
    ·unfold d4a at h
     refine ct ?_
     refine rn ?_
     obtain ⟨v7, hv7, h⟩ := Zg h
     refine (ih _ _ _ _ _ _ hv7 _ _ _ _ _ hnd (by simp only [go_sem, fx]) (by simp only [go_sem, fx]) (by simp only [go_sem, fx]) (by simp only [go_sem, fx])).mono ?_
     rintro d1 st1 ⟨rfl, rfl⟩
     refine cd h (fun hc h => ?_) fun hc h => ?_
     ·refine ra ?_
      cases h
      refine Za ?_; have h := congrArg some (hx1 _ rfl)
      refine rr ?_
      exact fuo (.bool false) (.same _) h hsc
     ·refine rn ?_
      cases h
      exact d6b () (bu0 hsc)
    ·refine cf ?_
     refine d5I ?_; simp only [go_sem, fx]
     exact ⟨(), (r0N hsc)⟩
    ·try simp only [go_sem, fx]
     unfold d5G at h
     refine d1F hb ?_
     refine rr ?_
     exact fus (.bool true) (.same _) h hsc
  ·refine cd h (fun hc h => ?_) fun hc h => ?_
   ·obtain ⟨fx, h⟩ := ck fx h
    refine r0 ?_
    refine hj0 () _ _ _ h ?_; exact (bu hsc)
   ·obtain ⟨fx, h⟩ := ck fx h
    refine r0 ?_
    refine hj0 () _ _ _ h ?_; exact (bu hsc)
theorem i0B (n : Nat) (a0 : (List Ym)) (a1 : (List Ym)) (a2 : Yr) (r : Ym × Bool) (h : d5e n a0 a1 a2 = some r) : Pure Tryz.prog gl 84 [.sl false 2 16 (rows Ym.cells a0), .sl false 2 16 (rows Ym.cells a1), .agg [.int .i64 a2.rule, .int .i64 a2.lex, .sl false 3 40 (rows Yr.cells a2.kids)]] (.tup [.agg [.int .i64 r.1.num, .int .i64 r.1.den], .bool r.2]) := by
 intro st
 unfold d5e at h
 have fx := trivial
 refine fb 18 [.cell 6 71, .tmp 7] [0, 1, 2, 3, 4, 5, 6, 7, 8, 9, 15] Tryz.func84 fun hsc => ?_
 refine rn ?_
 obtain ⟨v1, hv1, h⟩ := Zg h
 refine (i1b n _ _ _ _ _ _ hv1 _ _ _ _ _ (by simp) (d2H.trans rfl) (i4u.trans rfl) (d2H.trans rfl) (d2H.trans rfl)).mono ?_
 rintro d1 st1 ⟨rfl, rfl⟩
 refine cd h (fun hc h => ?_) fun hc h => ?_
 ·exact rt
 ·exact rt
theorem d8t (n : Nat) (a0 : Yn) (a1 : YH) (a2 : Yr) (r : Ym × Yg) (h : d2J n a0 a1 a2 = some r) : Pure Tryz.prog gl 30 [.agg [.sl false 2 40 (rows Yl.cells a0.hierarchy.types), .sl false 3 32 (rows Yw.cells a0.hierarchy.YL), .sl false 10 152 (rows Yi.cells a0.rules), .sl false 9 144 (rows YT.cells a0.Yy), .sl false 2 32 (rows Yq.cells a0.start.nodes)], .agg [.sl false 1 8 (rows Zj a1.rules), .sl false 1 8 (rows Zj a1.Yy)], .agg [.int .i64 a2.rule, .int .i64 a2.lex, .sl false 3 40 (rows Yr.cells a2.kids)]] (.tup [.agg [.int .i64 r.1.num, .int .i64 r.1.den], .agg [.int .i64 r.2.code, .int .i64 r.2.index]]) := by
 intro st
 unfold d2J at h
 have fx := trivial
 refine fb 49 [.cell 6 71, .cell 7 41] [0, 1, 2, 3, 4, 5, 6, 7, 8, 9, 10, 11, 12, 13, 19, 27, 44] Tryz.func30 fun hsc => ?_
 refine cl h (i7n n _ _) fun v1 h => ?_
 refine cd h (fun hc h => ?_) fun hc h => ?_
 ·refine rs ?_
  refine dw [1, 2] 0 ?_
  try refine ⟨by (simp <;> omega), ?_⟩
  exact rt
 ·refine cl h (i2v n _ _) fun v2 h => ?_
  refine cd h (fun hc h => ?_) fun hc h => ?_
  ·refine rs ?_
   refine dw [1, 2] 0 ?_
   try refine ⟨by (simp <;> omega), ?_⟩
   exact rt
  ·refine cl h (i5n n _ _) fun v3 h => ?_
   refine cl h (i0B n _ _ _) fun v4 h => ?_
   refine cd h (fun hc h => ?_) fun hc h => ?_
   ·refine cl h (d5C _ _) fun v5 h => ?_
    exact rt
   ·exact rt
theorem d7R (n : Nat) (r : Bool) (h : d1f n  = some r) : Pure Tryz.prog gl 26 [] (.bool r) := by
 intro st
 unfold d1f at h
 have fx := trivial
 refine fb 71 [.tmp 0] [0, 1, 2, 3, 4, 5, 24, 25, 26, 27, 30, 31, 32, 33, 36, 37, 38, 39, 40, 43, 44, 45, 46, 47, 50, 51, 52, 53, 54, 55, 67, 68, 69] Tryz.func26 fun hsc => ?_
 refine cl h (d9z n) fun v1 h => ?_
 refine r0 ?_
 (repeat apply sq_)
 refine d1F (F := [(1, .ptr st.length 0 0 0), (2, .ptr (st.length + 3) 0 0 0)]) (T := st ++ [some (.arr 0 5 0 [[.sl false 2 40 (rows Yl.cells v1.hierarchy.types), .sl false 3 32 (rows Yw.cells v1.hierarchy.YL), .sl false 10 152 (rows Yi.cells v1.rules), .sl false 9 144 (rows YT.cells v1.Yy), .sl false 2 32 (rows Yq.cells v1.start.nodes)]]), some (.arr 0 3 40 (rows Yr.cells [(Yr.mk (-1) 9 [])])), some (.arr 0 3 40 [[.int .i64 (-1), .int .i64 19, .YU], [.int .i64 2, .int .i64 0, .ref true (st.length + 1) 0 0 1]]), some (.arr 0 3 0 [[.int .i64 0, .int .i64 0, .ref true (st.length + 2) 0 0 2]])]) (i9j hsc (.lv (.live _ _ _ _ (.arr _ _ _ _ _ (.cons _ _ _ _ (.cons _ _ _ _ .s (.cons _ _ _ _ .s (.cons _ _ _ _ (.YU _ _ _ (by decide)) .nil))) .nil)) (.lv (.lv (.nil _))))) (by simp) ⟨.s, .s, trivial⟩ (by simp)) ?_
 (repeat apply sq_)
 refine d1F (F := [(1, .ptr st.length 0 0 0), (2, .ptr (st.length + 3) 0 0 0)]) (T := st ++ [some (.arr 0 5 0 [[.sl false 2 40 (rows Yl.cells v1.hierarchy.types), .sl false 3 32 (rows Yw.cells v1.hierarchy.YL), .sl false 10 152 (rows Yi.cells v1.rules), .sl false 9 144 (rows YT.cells v1.Yy), .sl false 2 32 (rows Yq.cells v1.start.nodes)]]), none, some (.arr 0 3 40 (rows Yr.cells [(Yr.mk (-1) 19 []), (Yr.mk 2 0 [(Yr.mk (-1) 9 [])])])), some (.arr 0 3 0 [[.int .i64 0, .int .i64 0, .ref true (st.length + 2) 0 0 2]])]) (i9j hsc (.lv (.dead _ _ _ (.live _ _ _ _ (.arr _ _ _ _ _ (.cons _ _ _ _ (.cons _ _ _ _ .s (.cons _ _ _ _ .s (.cons _ _ _ _ (.YU _ _ _ (by decide)) .nil))) (.cons _ _ _ _ (.cons _ _ _ _ .s (.cons _ _ _ _ .s (.cons _ _ _ _ (.ref _ _ _ _ _ _ _ _ _ (i2z.trans rfl) (d2H.trans rfl) (by decide) (i5z _) (by first | (simp only [go_sem]; done) | simp only [go_sem, Yr.d6Y])) .nil))) .nil))) (.lv (.nil _))))) (by simp) ⟨.s, .s, trivial⟩ (by simp)) ?_
 (repeat apply sq_)
 refine d1F (F := [(1, .ptr st.length 0 0 0), (2, .ptr (st.length + 3) 0 0 0)]) (T := st ++ [some (.arr 0 5 0 [[.sl false 2 40 (rows Yl.cells v1.hierarchy.types), .sl false 3 32 (rows Yw.cells v1.hierarchy.YL), .sl false 10 152 (rows Yi.cells v1.rules), .sl false 9 144 (rows YT.cells v1.Yy), .sl false 2 32 (rows Yq.cells v1.start.nodes)]]), none, none, some (.arr 0 3 0 [[.int .i64 0, .int .i64 0, .sl false 3 40 (rows Yr.cells [(Yr.mk (-1) 19 []), (Yr.mk 2 0 [(Yr.mk (-1) 9 [])])])]])]) (i9j hsc (.lv (.dead _ _ _ (.dead _ _ _ (.live _ _ _ _ (.arr _ _ _ _ _ (.cons _ _ _ _ (.cons _ _ _ _ .s (.cons _ _ _ _ .s (.cons _ _ _ _ (.ref _ _ _ _ _ _ _ _ _ (i2z.trans rfl) (d2H.trans rfl) (by decide) (i5z _) (by first | (simp only [go_sem]; done) | simp only [go_sem, Yr.d6Y])) .nil))) (.same _))) (.nil _))))) (by simp) ⟨.s, .s, trivial⟩ (by simp)) ?_
 refine rn ?_
 obtain ⟨v5, hv5, h⟩ := Zg h
 refine (i7m n _ _ _ hv5 _ _ 0 (by simp) (d2H.trans rfl)).mono ?_
 rintro d1 st1 ⟨rfl, rfl⟩
 obtain ⟨fx, h⟩ := ck fx h
 obtain ⟨fx, h⟩ := ck fx h
 obtain ⟨fx, h⟩ := ck fx h
 refine cd h (fun hc h => ?_) fun hc h => ?_
 ·exact rt
 ·refine cl h (d8t n _ _ _) fun v12 h => ?_
  exact rt
theorem i0h : ∀ (n : Nat) (a0 : Yn) (a1 : Yr) (a2 : Int) (a3 : Int) (d0m : Int) (d5B : Int) (r : Yg × Int × Int) (h : Zf n a0 a1 a2 a3 d0m d5B = some r), ∀ (st : St) (o0 o1 : Nat) (hnd : [o0, o1].Nodup) (d7g : Am.look st o0 = some (.arr 0 1 0 [[.int .i64 d0m]])) (i1p : Am.look st o1 = some (.arr 0 1 0 [[.int .i64 d5B]])), Am.Spec Tryz.prog gl 81 [.agg [.sl false 2 40 (rows Yl.cells a0.hierarchy.types), .sl false 3 32 (rows Yw.cells a0.hierarchy.YL), .sl false 10 152 (rows Yi.cells a0.rules), .sl false 9 144 (rows YT.cells a0.Yy), .sl false 2 32 (rows Yq.cells a0.start.nodes)], .agg [.int .i64 a1.rule, .int .i64 a1.lex, .sl false 3 40 (rows Yr.cells a1.kids)], .int .i64 a2, .int .i64 a3, .ptr o0 0 0 0, .ptr o1 0 0 0] st (fun d st' => d = .agg [.int .i64 r.1.code, .int .i64 r.1.index] ∧ st' = puts st [(o0, (.arr 0 1 0 [[.int .i64 r.2.1]])), (o1, (.arr 0 1 0 [[.int .i64 r.2.2]]))]) := by
 intro n
 induction n with
 | zero => intro a0 a1 a2 a3 d0m d5B r h; cases h
 | succ n ih =>
  intro a0 a1 a2 a3 d0m d5B r h st o0 o1 hnd d7g i1p
  unfold Zf at h
  have ho0 := d2c d7g
  have ho1 := d2c i1p
  have fx := fa (fa (idf ho0) (idf ho1)) (nd2 hnd)
  refine fb 129 [.cell 12 41] [0, 1, 2, 3, 4, 5, 6, 7, 12, 13, 14, 16, 17, 30, 31, 32, 39, 40, 41, 42, 43, 44, 47, 48, 49, 50, 51, 52, 53, 54, 55, 56, 57, 58, 59, 60, 61, 62, 63, 70, 71, 72, 73, 78, 90, 94, 98, 102, 109, 110, 111, 112, 125] Tryz.func81 fun hsc => ?_
  refine i0b (s' := (d2n st [(o0, (.arr 0 1 0 [[.int .i64 d0m]])), (o1, (.arr 0 1 0 [[.int .i64 d5B]]))])) (d0t (by simp [d7g, i1p])) ?_
  refine cd h (fun hc h => ?_) fun hc h => ?_
  ·refine rr ?_
   exact fuo (.agg [.int .i64 1, .int .i64 d0m]) (.same _) h hsc
  ·refine cd h (fun hc h => ?_) fun hc h => ?_
   ·refine rr ?_
    exact fuo (.agg [.int .i64 3, .int .i64 d0m]) (.same _) h hsc
   ·refine cd h (fun hc h => ?_) fun hc h => ?_
    ·refine rr ?_
     exact fuo (.agg [.int .i64 5, .int .i64 d0m]) (.same _) h hsc
    ·refine rn ?_
     refine d6o (d0R (Zf n) a1 d0m d5B a0 a2 a3) r (fun (gj0 : Unit) (j0 : Int) => [(2, .int .i64 a2), (3, .int .i64 a3), (4, .ptr o0 0 0 0), (5, .ptr o1 0 0 0), (6, .ptr st.length 0 0 0), (7, .ptr (st.length + 1) 0 0 0), (12, .ptr (st.length + 2) 0 0 0), (13, .int .i64 d0m), (14, .int .i64 j0)]) (fun (gj0 : Unit) (j0 : Int) => (d2n st [(o0, (.arr 0 1 0 [[.int .i64 (wr .i64 (d0m + 1))]])), (o1, (.arr 0 1 0 [[.int .i64 d5B]]))]) ++ [some (.arr 0 5 0 [[.sl false 2 40 (rows Yl.cells a0.hierarchy.types), .sl false 3 32 (rows Yw.cells a0.hierarchy.YL), .sl false 10 152 (rows Yi.cells a0.rules), .sl false 9 144 (rows YT.cells a0.Yy), .sl false 2 32 (rows Yq.cells a0.start.nodes)]]), some (.arr 0 3 0 [[.int .i64 a1.rule, .int .i64 a1.lex, .sl false 3 40 (rows Yr.cells a1.kids)]]), some (.arr 0 2 0 [[.int .i64 0, .int .i64 0]])]) (fun gj0 j0 fr1 st1 h hb => ?_) (fun hj0 => ?_)
     ·try simp only [go_sem, fx]
      unfold d0R at h
      refine d1F hb ?_
      refine cd h (fun hc h => ?_) fun hc h => ?_
      ·refine rr ?_
       exact fuo (.agg [.int .i64 9, .int .i64 d0m]) (.same _) h hsc
      ·refine rn ?_
       refine d6o (d0o (Zf n) d0m d5B j0 a0 a1 a2) r (fun (gj1 : Unit) (j1 : Int) => [(2, .int .i64 a2), (3, .int .i64 j1), (4, .ptr o0 0 0 0), (5, .ptr o1 0 0 0), (6, .ptr st.length 0 0 0), (7, .ptr (st.length + 1) 0 0 0), (12, .ptr (st.length + 2) 0 0 0), (13, .int .i64 d0m), (14, .int .i64 j0)]) (fun (gj1 : Unit) (j1 : Int) => (d2n st [(o0, (.arr 0 1 0 [[.int .i64 (wr .i64 (d0m + 1))]])), (o1, (.arr 0 1 0 [[.int .i64 d5B]]))]) ++ [some (.arr 0 5 0 [[.sl false 2 40 (rows Yl.cells a0.hierarchy.types), .sl false 3 32 (rows Yw.cells a0.hierarchy.YL), .sl false 10 152 (rows Yi.cells a0.rules), .sl false 9 144 (rows YT.cells a0.Yy), .sl false 2 32 (rows Yq.cells a0.start.nodes)]]), some (.arr 0 3 0 [[.int .i64 a1.rule, .int .i64 a1.lex, .sl false 3 40 (rows Yr.cells a1.kids)]]), some (.arr 0 2 0 [[.int .i64 0, .int .i64 0]])]) (fun gj1 j1 fr1 st1 h hb => ?_) (fun hj1 => ?_)
       ·try simp only [go_sem, fx]
        unfold d0o at h
        refine d1F hb ?_
        refine cd h (fun hc h => ?_) fun hc h => ?_
        ·refine rr ?_
         exact fuo (.agg [.int .i64 14, .int .i64 d0m]) (.same _) h hsc
        ·refine rn ?_
         refine d6o (d0S (Zf n) a0 a1 a2 j1 d0m) r (fun (gj2 : Unit) (j2 : Int) => [(2, .int .i64 a2), (3, .int .i64 j1), (4, .ptr o0 0 0 0), (5, .ptr o1 0 0 0), (6, .ptr st.length 0 0 0), (7, .ptr (st.length + 1) 0 0 0), (12, .ptr (st.length + 2) 0 0 0)]) (fun (gj2 : Unit) (j2 : Int) => (d2n st [(o0, (.arr 0 1 0 [[.int .i64 (wr .i64 (d0m + 1))]])), (o1, (.arr 0 1 0 [[.int .i64 j2]]))]) ++ [some (.arr 0 5 0 [[.sl false 2 40 (rows Yl.cells a0.hierarchy.types), .sl false 3 32 (rows Yw.cells a0.hierarchy.YL), .sl false 10 152 (rows Yi.cells a0.rules), .sl false 9 144 (rows YT.cells a0.Yy), .sl false 2 32 (rows Yq.cells a0.start.nodes)]]), some (.arr 0 3 0 [[.int .i64 a1.rule, .int .i64 a1.lex, .sl false 3 40 (rows Yr.cells a1.kids)]]), some (.arr 0 2 0 [[.int .i64 0, .int .i64 0]])]) (fun gj2 j2 fr1 st1 h hb => ?_) (fun hj2 => ?_)
         ·try simp only [go_sem, fx]
          unfold d0S at h
          refine d1F hb ?_
          refine aln 109 fun hl3 => ?_
          refine rng (body := d2g (Zf n) a0 a1 a2 j1) (kk := d3w) (n := a1.kids.length) (s0 := ((wr .i64 (d0m + 1)), j2))
           (fun (gs3 : Unit) (k3 : Nat) (s3 : Int × Int) => [(2, .int .i64 a2), (3, .int .i64 j1), (4, .ptr o0 0 0 0), (5, .ptr o1 0 0 0), (6, .ptr st.length 0 0 0), (12, .ptr (st.length + 2) 0 0 0), (109, .sl false 3 40 (rows Yr.cells a1.kids)), (110, .int .i64 (↑a1.kids.length : Int)), (111, .int .i64 (↑k3 : Int))])
           (fun (gs3 : Unit) (k3 : Nat) (s3 : Int × Int) => (d2n st [(o0, (.arr 0 1 0 [[.int .i64 s3.1]])), (o1, (.arr 0 1 0 [[.int .i64 s3.2]]))]) ++ [some (.arr 0 5 0 [[.sl false 2 40 (rows Yl.cells a0.hierarchy.types), .sl false 3 32 (rows Yw.cells a0.hierarchy.YL), .sl false 10 152 (rows Yi.cells a0.rules), .sl false 9 144 (rows YT.cells a0.Yy), .sl false 2 32 (rows Yq.cells a0.start.nodes)]]), none, some (.arr 0 2 0 [[.int .i64 0, .int .i64 0]])])
           (fun (gt3 : Unit) (t3 : Int × Int) => [(12, .ptr (st.length + 2) 0 0 0)])
           (fun (gt3 : Unit) (t3 : Int × Int) => (d2n st [(o0, (.arr 0 1 0 [[.int .i64 t3.1]])), (o1, (.arr 0 1 0 [[.int .i64 t3.2]]))]) ++ [none, none, some (.arr 0 2 0 [[.int .i64 0, .int .i64 0]])])
           () fx hl3 h (bu hsc)
           (fun gs3 k3 s3 b3 fx h hx3 => ?_) (fun gs3 s3 => ?_) (fun gt3 t3 fr1 st1 h hb => ?_)
          ·unfold d2g at h
           refine ct ?_
           refine rn ?_
           obtain ⟨v4, hv4, h⟩ := Zg h
           refine (ih _ _ _ _ _ _ _ hv4 _ _ _ hnd (by simp only [go_sem, fx]) (by simp only [go_sem, fx])).mono ?_
           rintro d1 st1 ⟨rfl, rfl⟩
           refine cd h (fun hc h => ?_) fun hc h => ?_
           ·refine ra ?_
            cases h
            refine Za ?_; have h := congrArg some (hx3 _ rfl)
            refine rr ?_
            exact fuo (.agg [.int .i64 v4.1.code, .int .i64 v4.1.index]) (.same _) h hsc
           ·refine rn ?_
            cases h
            exact d6b () (bu hsc)
          ·refine cf ?_
           refine d5I ?_; simp only [go_sem, fx]
           exact ⟨(), (bu hsc)⟩
          ·try simp only [go_sem, fx]
           unfold d3w at h
           refine d1F hb ?_
           refine rr ?_
           exact fuo (.agg [.int .i64 0, .int .i64 0]) (.same _) h hsc
         ·refine cd h (fun hc h => ?_) fun hc h => ?_
          ·refine r0 ?_
           refine hj2 () _ _ _ h ?_; exact (bu hsc)
          ·refine r0 ?_
           refine hj2 () _ _ _ h ?_; exact (bu hsc)
       ·refine cd h (fun hc h => ?_) fun hc h => ?_
        ·refine r0 ?_
         refine hj1 () _ _ _ h ?_; exact (bu hsc)
        ·refine r0 ?_
         refine hj1 () _ _ _ h ?_; exact (bu hsc)
     ·refine cd h (fun hc h => ?_) fun hc h => ?_
      ·obtain ⟨fx, h⟩ := ck fx h
       refine r0 ?_
       refine hj0 () _ _ _ h ?_; exact (bu hsc)
      ·refine r0 ?_
       refine hj0 () _ _ _ h ?_; exact (bu hsc)
end Go.Proofs.YtgaeiccgdpnkkaaGreatDoor
