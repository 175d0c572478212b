import Derived.Test.YtgaeiccgdpnkkaaGreatDoorCWalk16
set_option linter.unusedVariables false
set_option linter.unusedSimpArgs false
set_option maxHeartbeats 2000000
set_option maxRecDepth 100000
namespace Go.Proofs.YtgaeiccgdpnkkaaGreatDoor
open Go Go.Am
theorem i2h (n : Nat) (a0 : Yz) (a1 : Int) (r : Yf) (h : i1e n a0 a1 = some r) : Pure Tryz.prog gl 88 [.agg [.int .i64 a0.num, .int .i64 a0.den], .int .i64 a1] (.agg [.int .i64 r.code, .int .i64 r.index]) := by
 intro st
 unfold i1e at h
 have fx := trivial
 refine fb 36 [.cell 4 41] [0, 1, 2, 4, 9, 10, 11, 14, 15, 16, 19, 20, 21, 22, 32] Tryz.func88 fun hsc => ?_
 refine cd h (fun hc h => ?_) fun hc h => ?_
 ·exact rt
 ·refine rn ?_
  refine dw [] 0 ?_
  obtain ⟨v1, hv1, h⟩ := Zp h
  refine Yv (d7l _ _ hv1) ?_
  try simp only [go_sem, fx]
  obtain ⟨v2, hv2, h⟩ := Zp h
  refine Yv (d9N n _ _ _ hv2) ?_
  try simp only [go_sem, fx]
  refine cd h (fun hc h => ?_) fun hc h => ?_
  ·exact rt
  ·exact rt
theorem i8e (n : Nat) (a0 : Yz) (a1 : Yz) (r : Yf) (h : i5M n a0 a1 = some r) : Pure Tryz.prog gl 191 [.agg [.int .i64 a0.num, .int .i64 a0.den], .agg [.int .i64 a1.num, .int .i64 a1.den]] (.agg [.int .i64 r.code, .int .i64 r.index]) := by
 intro st
 unfold i5M at h
 have fx := trivial
 refine fb 14 [.cell 4 41] [0, 1, 2, 3, 4, 5, 10] Tryz.func191 fun hsc => ?_
 refine cl h (i2h n _ _) fun v1 h => ?_
 refine cd h (fun hc h => ?_) fun hc h => ?_
 ·exact rt
 ·refine cl h (i2h n _ _) fun v2 h => ?_
  exact rt
theorem i2q (a0 : Int) (a1 : Int) (r : Int × Int) (h : d8G a0 a1 = some r) : Pure Tryz.prog gl 156 [.int .u64 a0, .int .u64 a1] (.tup [.int .u64 r.1, .int .u64 r.2]) := by
 intro st
 unfold d8G at h
 have fx := trivial
 refine fb 51 [.tmp 4, .tmp 5] [0, 1, 4, 5, 6, 7, 8, 9, 10, 11, 12, 13] Tryz.func156 fun hsc => ?_
 exact rt
theorem i0g (a0 : Int) (a1 : Int) (r : Int × Bool) (h : d8H a0 a1 = some r) : Pure Tryz.prog gl 160 [.int .u64 a0, .int .u64 a1] (.tup [.int .u64 r.1, .bool r.2]) := by
 intro st
 unfold d8H at h
 have fx := trivial
 refine fb 21 [.tmp 4, .tmp 5] [0, 1, 4, 5, 6, 7, 18, 19] Tryz.func160 fun hsc => ?_
 refine cl h (i2q _ _) fun v1 h => ?_
 exact rt
theorem i6S (n : Nat) (a0 : Yz) (a1 : Yz) (r : Yz × Yf) (h : i3L n a0 a1 = some r) : Pure Tryz.prog gl 192 [.agg [.int .i64 a0.num, .int .i64 a0.den], .agg [.int .i64 a1.num, .int .i64 a1.den]] (.tup [.agg [.int .i64 r.1.num, .int .i64 r.1.den], .agg [.int .i64 r.2.code, .int .i64 r.2.index]]) := by
 intro st
 unfold i3L at h
 have fx := trivial
 refine fb 78 [.cell 4 71, .cell 5 41] [0, 1, 2, 3, 4, 5, 6, 7, 8, 9, 10, 11, 12, 13, 14, 15, 57, 58, 59, 70, 71] Tryz.func192 fun hsc => ?_
 refine rn ?_
 refine dw [] 0 ?_
 obtain ⟨v1, hv1, h⟩ := Zp h
 refine Yv (d7l _ _ hv1) ?_
 try simp only [go_sem, fx]
 obtain ⟨v2, hv2, h⟩ := Zp h
 refine Yv (d7l _ _ hv2) ?_
 try simp only [go_sem, fx]
 refine cl h (d9N n _ _) fun v3 h => ?_
 refine cl h (d9N n _ _) fun v4 h => ?_
 refine rn ?_
 obtain ⟨fx, h⟩ := ck fx h
 obtain ⟨fx, h⟩ := ck fx h
 refine dw [] 0 ?_
 obtain ⟨v9, hv9, h⟩ := Zp h
 refine Yv (i0g _ _ _ hv9) ?_
 try simp only [go_sem, fx]
 refine rs ?_
 obtain ⟨fx, h⟩ := ck fx h
 obtain ⟨fx, h⟩ := ck fx h
 refine dw [] 0 ?_
 obtain ⟨v12, hv12, h⟩ := Zp h
 refine Yv (i0g _ _ _ hv12) ?_
 try simp only [go_sem, fx]
 refine cd h (fun hc h => ?_) fun hc h => ?_
 ·exact rt
 ·refine cl h (i6R _ _ _) fun v13 h => ?_
  exact rt
theorem i9K (n : Nat) (a0 : Yz) (a1 : Yz) (r : Yz × Yf) (h : i8c n a0 a1 = some r) : Pure Tryz.prog gl 148 [.agg [.int .i64 a0.num, .int .i64 a0.den], .agg [.int .i64 a1.num, .int .i64 a1.den]] (.tup [.agg [.int .i64 r.1.num, .int .i64 r.1.den], .agg [.int .i64 r.2.code, .int .i64 r.2.index]]) := by
 intro st
 unfold i8c at h
 have fx := trivial
 refine fb 20 [.cell 4 71, .cell 5 41] [0, 1, 2, 3, 4, 5, 6, 12] Tryz.func148 fun hsc => ?_
 refine cl h (i8e n _ _) fun v1 h => ?_
 refine cd h (fun hc h => ?_) fun hc h => ?_
 ·refine rs ?_
  refine dw [1, 2] 0 ?_
  try refine ⟨by (simp <;> omega), ?_⟩
  exact rt
 ·refine cl h (i6S n _ _) fun v2 h => ?_
  exact rt
theorem d9Q : ∀ (n : Nat) (a0 : Yl) (d0a : (List Yz)) (d4C : (List Yz)) (i2D : Int) (i9N : Int) (r : Bool × Int × Int) (h : d1E n a0 d0a d4C i2D i9N = some r), ∀ (st : St) (o0 o1 o2 o3 : Nat) (hnd : [o0, o1, o2, o3].Nodup) (d5V : Am.look st o0 = some (.arr 0 1 0 [[.sl false 2 16 (rows Yz.cells d0a)]])) (i0d : Am.look st o1 = some (.arr 0 1 0 [[.sl false 2 16 (rows Yz.cells d4C)]])) (i4U : Am.look st o2 = some (.arr 0 2 0 [[.int .i64 i2D, .int .i64 i9N]])) (p1K : Am.look st o3 = some (.arr 0 1 0 [[.fn 147 [] [.ptr o0 0 0 0, .ptr o1 0 0 0, .ptr o2 0 0 0, .ptr o3 0 0 0]]])), Am.Spec Tryz.prog gl 147 [.agg [.int .i64 a0.rule, .int .i64 a0.lex, .sl false 3 40 (rows Yl.cells a0.kids)], .ptr o0 0 0 0, .ptr o1 0 0 0, .ptr o2 0 0 0, .ptr o3 0 0 0] st (fun d st' => d = .bool r.1 ∧ st' = puts st [(o0, (.arr 0 1 0 [[.sl false 2 16 (rows Yz.cells d0a)]])), (o1, (.arr 0 1 0 [[.sl false 2 16 (rows Yz.cells d4C)]])), (o2, (.arr 0 2 0 [[.int .i64 r.2.1, .int .i64 r.2.2]])), (o3, (.arr 0 1 0 [[.fn 147 [] [.ptr o0 0 0 0, .ptr o1 0 0 0, .ptr o2 0 0 0, .ptr o3 0 0 0]]]))]) := by
 intro n
 induction n with
 | zero => intro a0 d0a d4C i2D i9N r h; cases h
 | succ n ih =>
  intro a0 d0a d4C i2D i9N r h st o0 o1 o2 o3 hnd d5V i0d i4U p1K
  unfold d1E at h
  have ho0 := d1v d5V
  have ho1 := d1v i0d
  have ho2 := d1v i4U
  have ho3 := d1v p1K
  have fx := fa (fa (fa (fa (idf ho0) (idf ho1)) (idf ho2)) (idf ho3)) (nd4 hnd)
  refine fb 45 [.tmp 6] [0, 1, 2, 3, 4, 5, 6, 7, 8, 10, 13, 32, 34, 35, 36, 37, 43] Tryz.func147 fun hsc => ?_
  refine d8P (s' := (d1F st [(o0, (.arr 0 1 0 [[.sl false 2 16 (rows Yz.cells d0a)]])), (o1, (.arr 0 1 0 [[.sl false 2 16 (rows Yz.cells d4C)]])), (o2, (.arr 0 2 0 [[.int .i64 i2D, .int .i64 i9N]])), (o3, (.arr 0 1 0 [[.fn 147 [] [.ptr o0 0 0 0, .ptr o1 0 0 0, .ptr o2 0 0 0, .ptr o3 0 0 0]]]))])) (d0d (by simp [d5V, i0d, i4U, p1K])) ?_
  refine rn ?_
  refine d5D (d3j (d1E n) n i2D i9N a0 d0a d4C) r (fun (gj0 : Unit) (j0 : Int × Int) => [(3, .ptr o2 0 0 0), (4, .ptr o3 0 0 0), (5, .ptr st.length 0 0 0), (7, .ptr (st.length + 1) 0 0 0)]) (fun (gj0 : Unit) (j0 : Int × Int) => (d1F st [(o0, (.arr 0 1 0 [[.sl false 2 16 (rows Yz.cells d0a)]])), (o1, (.arr 0 1 0 [[.sl false 2 16 (rows Yz.cells d4C)]])), (o2, (.arr 0 2 0 [[.int .i64 i2D, .int .i64 i9N]])), (o3, (.arr 0 1 0 [[.fn 147 [] [.ptr o0 0 0 0, .ptr o1 0 0 0, .ptr o2 0 0 0, .ptr o3 0 0 0]]]))]) ++ [some (.arr 0 3 0 [[.int .i64 a0.rule, .int .i64 a0.lex, .sl false 3 40 (rows Yl.cells a0.kids)]]), some (.arr 0 2 0 [[.int .i64 j0.1, .int .i64 j0.2]])]) (fun gj0 j0 fr1 st1 h hb => ?_) (fun hj0 => ?_)
  ·try simp only [go_sem, fx]
   unfold d3j at h
   refine d1w hb ?_
   refine cl h (i9K n _ _) fun v5 h => ?_
   refine cd h (fun hc h => ?_) fun hc h => ?_
   ·refine rr ?_
    exact fuo (.bool false) (.same _) h hsc
   ·refine aln 34 fun hl1 => ?_
    refine rng (body := d4G (d1E n) a0 d0a d4C) (kk := d4H) (n := a0.kids.length) (s0 := (v5.1.num, v5.1.den))
     (fun (gs1 : Unit) (k1 : Nat) (s1 : Int × Int) => [(4, .ptr o3 0 0 0), (34, .sl false 3 40 (rows Yl.cells a0.kids)), (35, .int .i64 (↑a0.kids.length : Int)), (36, .int .i64 (↑k1 : Int))])
     (fun (gs1 : Unit) (k1 : Nat) (s1 : Int × Int) => (d1F st [(o0, (.arr 0 1 0 [[.sl false 2 16 (rows Yz.cells d0a)]])), (o1, (.arr 0 1 0 [[.sl false 2 16 (rows Yz.cells d4C)]])), (o2, (.arr 0 2 0 [[.int .i64 s1.1, .int .i64 s1.2]])), (o3, (.arr 0 1 0 [[.fn 147 [] [.ptr o0 0 0 0, .ptr o1 0 0 0, .ptr o2 0 0 0, .ptr o3 0 0 0]]]))]))
     (fun (gt1 : Unit) (t1 : Int × Int) => [])
     (fun (gt1 : Unit) (t1 : Int × Int) => (d1F st [(o0, (.arr 0 1 0 [[.sl false 2 16 (rows Yz.cells d0a)]])), (o1, (.arr 0 1 0 [[.sl false 2 16 (rows Yz.cells d4C)]])), (o2, (.arr 0 2 0 [[.int .i64 t1.1, .int .i64 t1.2]])), (o3, (.arr 0 1 0 [[.fn 147 [] [.ptr o0 0 0 0, .ptr o1 0 0 0, .ptr o2 0 0 0, .ptr o3 0 0 0]]]))]))
     () fx hl1 h (bu0 hsc)
     (fun gs1 k1 s1 b1 fx h hx1 => ?_) (fun gs1 s1 => ?_) (fun gt1 t1 fr1 st1 h hb => ?_)
    ·unfold d4G at h
     refine ct ?_
     refine rn ?_
     obtain ⟨v7, hv7, h⟩ := Zp h
     refine (ih _ _ _ _ _ _ hv7 _ _ _ _ _ hnd (by simp only [go_sem, fx]) (by simp only [go_sem, fx]) (by simp only [go_sem, fx]) (by simp only [go_sem, fx])).mono ?_
     rintro d1 st1 ⟨rfl, rfl⟩
     refine cd h (fun hc h => ?_) fun hc h => ?_
     ·refine ra ?_
      cases h
      refine YX ?_; have h := congrArg some (hx1 _ rfl)
      refine rr ?_
      exact fuo (.bool false) (.same _) h hsc
     ·refine rn ?_
      cases h
      exact d4S () (bu0 hsc)
    ·refine cf ?_
     refine d4I ?_; simp only [go_sem, fx]
     exact ⟨(), (p8G hsc)⟩
    ·try simp only [go_sem, fx]
     unfold d4H at h
     refine d1w hb ?_
     refine rr ?_
     exact fus (.bool true) (.same _) h hsc
  ·refine cd h (fun hc h => ?_) fun hc h => ?_
   ·obtain ⟨fx, h⟩ := ck fx h
    refine r0 ?_
    refine hj0 () _ _ _ h ?_; exact (bu hsc)
   ·obtain ⟨fx, h⟩ := ck fx h
    refine r0 ?_
    refine hj0 () _ _ _ h ?_; exact (bu hsc)
theorem d9s (n : Nat) (a0 : (List Yz)) (a1 : (List Yz)) (a2 : Yl) (r : Yz × Bool) (h : d5w n a0 a1 a2 = some r) : Pure Tryz.prog gl 84 [.sl false 2 16 (rows Yz.cells a0), .sl false 2 16 (rows Yz.cells a1), .agg [.int .i64 a2.rule, .int .i64 a2.lex, .sl false 3 40 (rows Yl.cells a2.kids)]] (.tup [.agg [.int .i64 r.1.num, .int .i64 r.1.den], .bool r.2]) := by
 intro st
 unfold d5w at h
 have fx := trivial
 refine fb 18 [.cell 6 71, .tmp 7] [0, 1, 2, 3, 4, 5, 6, 7, 8, 9, 15] Tryz.func84 fun hsc => ?_
 refine rn ?_
 obtain ⟨v1, hv1, h⟩ := Zp h
 refine (d9Q n _ _ _ _ _ _ hv1 _ _ _ _ _ (by simp) (d1J.trans rfl) (i3g.trans rfl) (d1J.trans rfl) (d1J.trans rfl)).mono ?_
 rintro d1 st1 ⟨rfl, rfl⟩
 refine cd h (fun hc h => ?_) fun hc h => ?_
 ·exact rt
 ·exact rt
theorem i0t (n : Nat) (a0 : Yq) (a1 : YS) (a2 : Yl) (r : Yz × Yf) (h : d6r n a0 a1 a2 = some r) : Pure Tryz.prog gl 30 [.agg [.sl false 2 40 (rows Yj.cells a0.hierarchy.types), .sl false 3 32 (rows Yt.cells a0.hierarchy.YI), .sl false 10 152 (rows Yh.cells a0.rules), .sl false 9 144 (rows YR.cells a0.YK), .sl false 2 32 (rows Yo.cells a0.start.nodes)], .agg [.sl false 1 8 (rows Zg a1.rules), .sl false 1 8 (rows Zg a1.YK)], .agg [.int .i64 a2.rule, .int .i64 a2.lex, .sl false 3 40 (rows Yl.cells a2.kids)]] (.tup [.agg [.int .i64 r.1.num, .int .i64 r.1.den], .agg [.int .i64 r.2.code, .int .i64 r.2.index]]) := by
 intro st
 unfold d6r at h
 have fx := trivial
 refine fb 49 [.cell 6 71, .cell 7 41] [0, 1, 2, 3, 4, 5, 6, 7, 8, 9, 10, 11, 12, 13, 19, 27, 44] Tryz.func30 fun hsc => ?_
 refine cl h (i5O n _ _) fun v1 h => ?_
 refine cd h (fun hc h => ?_) fun hc h => ?_
 ·refine rs ?_
  refine dw [1, 2] 0 ?_
  try refine ⟨by (simp <;> omega), ?_⟩
  exact rt
 ·refine cl h (d8K n _ _) fun v2 h => ?_
  refine cd h (fun hc h => ?_) fun hc h => ?_
  ·refine rs ?_
   refine dw [1, 2] 0 ?_
   try refine ⟨by (simp <;> omega), ?_⟩
   exact rt
  ·refine cl h (i3N n _ _) fun v3 h => ?_
   refine cl h (d9s n _ _ _) fun v4 h => ?_
   refine cd h (fun hc h => ?_) fun hc h => ?_
   ·refine cl h (d2X _ _) fun v5 h => ?_
    exact rt
   ·exact rt
theorem d6H (n : Nat) (r : Bool) (h : d0F n  = some r) : Pure Tryz.prog gl 26 [] (.bool r) := by
 intro st
 unfold d0F at h
 have fx := trivial
 refine fb 71 [.tmp 0] [0, 1, 2, 3, 4, 5, 24, 25, 26, 27, 30, 31, 32, 33, 36, 37, 38, 39, 40, 43, 44, 45, 46, 47, 50, 51, 52, 53, 54, 55, 67, 68, 69] Tryz.func26 fun hsc => ?_
 refine cl h (d8g n) fun v1 h => ?_
 refine r0 ?_
 (repeat apply sq_)
 refine d1w (F := [(1, .ptr st.length 0 0 0), (2, .ptr (st.length + 3) 0 0 0)]) (T := st ++ [some (.arr 0 5 0 [[.sl false 2 40 (rows Yj.cells v1.hierarchy.types), .sl false 3 32 (rows Yt.cells v1.hierarchy.YI), .sl false 10 152 (rows Yh.cells v1.rules), .sl false 9 144 (rows YR.cells v1.YK), .sl false 2 32 (rows Yo.cells v1.start.nodes)]]), some (.arr 0 3 40 (rows Yl.cells [(Yl.mk (-1) 9 [])])), some (.arr 0 3 40 [[.int .i64 (-1), .int .i64 19, .YP], [.int .i64 2, .int .i64 0, .ref true (st.length + 1) 0 0 1]]), some (.arr 0 3 0 [[.int .i64 0, .int .i64 0, .ref true (st.length + 2) 0 0 2]])]) (i7G hsc (.lv (.live _ _ _ _ (.arr _ _ _ _ _ (.cons _ _ _ _ (.cons _ _ _ _ .s (.cons _ _ _ _ .s (.cons _ _ _ _ (.YP _ _ _ (by decide)) .nil))) .nil)) (.lv (.lv (.nil _))))) (by simp) ⟨.s, .s, trivial⟩ (by simp)) ?_
 (repeat apply sq_)
 refine d1w (F := [(1, .ptr st.length 0 0 0), (2, .ptr (st.length + 3) 0 0 0)]) (T := st ++ [some (.arr 0 5 0 [[.sl false 2 40 (rows Yj.cells v1.hierarchy.types), .sl false 3 32 (rows Yt.cells v1.hierarchy.YI), .sl false 10 152 (rows Yh.cells v1.rules), .sl false 9 144 (rows YR.cells v1.YK), .sl false 2 32 (rows Yo.cells v1.start.nodes)]]), none, some (.arr 0 3 40 (rows Yl.cells [(Yl.mk (-1) 19 []), (Yl.mk 2 0 [(Yl.mk (-1) 9 [])])])), some (.arr 0 3 0 [[.int .i64 0, .int .i64 0, .ref true (st.length + 2) 0 0 2]])]) (i7G hsc (.lv (.dead _ _ _ (.live _ _ _ _ (.arr _ _ _ _ _ (.cons _ _ _ _ (.cons _ _ _ _ .s (.cons _ _ _ _ .s (.cons _ _ _ _ (.YP _ _ _ (by decide)) .nil))) (.cons _ _ _ _ (.cons _ _ _ _ .s (.cons _ _ _ _ .s (.cons _ _ _ _ (.ref _ _ _ _ _ _ _ _ _ (i0w.trans rfl) (d1J.trans rfl) (by decide) (i3j _) (by first | (simp only [go_sem]; done) | simp only [go_sem, Yl.d5O])) .nil))) .nil))) (.lv (.nil _))))) (by simp) ⟨.s, .s, trivial⟩ (by simp)) ?_
 (repeat apply sq_)
 refine d1w (F := [(1, .ptr st.length 0 0 0), (2, .ptr (st.length + 3) 0 0 0)]) (T := st ++ [some (.arr 0 5 0 [[.sl false 2 40 (rows Yj.cells v1.hierarchy.types), .sl false 3 32 (rows Yt.cells v1.hierarchy.YI), .sl false 10 152 (rows Yh.cells v1.rules), .sl false 9 144 (rows YR.cells v1.YK), .sl false 2 32 (rows Yo.cells v1.start.nodes)]]), none, none, some (.arr 0 3 0 [[.int .i64 0, .int .i64 0, .sl false 3 40 (rows Yl.cells [(Yl.mk (-1) 19 []), (Yl.mk 2 0 [(Yl.mk (-1) 9 [])])])]])]) (i7G hsc (.lv (.dead _ _ _ (.dead _ _ _ (.live _ _ _ _ (.arr _ _ _ _ _ (.cons _ _ _ _ (.cons _ _ _ _ .s (.cons _ _ _ _ .s (.cons _ _ _ _ (.ref _ _ _ _ _ _ _ _ _ (i0w.trans rfl) (d1J.trans rfl) (by decide) (i3j _) (by first | (simp only [go_sem]; done) | simp only [go_sem, Yl.d5O])) .nil))) (.same _))) (.nil _))))) (by simp) ⟨.s, .s, trivial⟩ (by simp)) ?_
 refine rn ?_
 obtain ⟨v5, hv5, h⟩ := Zp h
 refine (i5N n _ _ _ hv5 _ _ 0 (by simp) (d1J.trans rfl)).mono ?_
 rintro d1 st1 ⟨rfl, rfl⟩
 obtain ⟨fx, h⟩ := ck fx h
 obtain ⟨fx, h⟩ := ck fx h
 obtain ⟨fx, h⟩ := ck fx h
 refine cd h (fun hc h => ?_) fun hc h => ?_
 ·exact rt
 ·refine cl h (i0t n _ _ _) fun v12 h => ?_
  exact rt
theorem i3O (n : Nat) (a0 : Yq) (a1 : (List Yl)) (r : YS × Yf) (h : d5h n a0 a1 = some r) : Pure Tryz.prog gl 27 [.agg [.sl false 2 40 (rows Yj.cells a0.hierarchy.types), .sl false 3 32 (rows Yt.cells a0.hierarchy.YI), .sl false 10 152 (rows Yh.cells a0.rules), .sl false 9 144 (rows YR.cells a0.YK), .sl false 2 32 (rows Yo.cells a0.start.nodes)], .sl false 3 40 (rows Yl.cells a1)] (.tup [.agg [.sl false 1 8 (rows Zg r.1.rules), .sl false 1 8 (rows Zg r.1.YK)], .agg [.int .i64 r.2.code, .int .i64 r.2.index]]) := by
 intro st
 unfold d5h at h
 have fx := trivial
 refine fb 58 [.cell 4 62, .cell 5 41] [0, 1, 2, 4, 5, 6, 7, 8, 9, 10, 11, 16, 21, 34, 35, 36, 37, 46] Tryz.func27 fun hsc => ?_
 refine cl h (d5x n _) fun v1 h => ?_
 refine cd h (fun hc h => ?_) fun hc h => ?_
 ·refine rs ?_
  refine dw [1, 2] 0 ?_
  try refine ⟨by (simp <;> omega), ?_⟩
  refine rr ?_
  exact fo (.tup [.agg [.sl false 1 8 (rows Zg []), .sl false 1 8 (rows Zg [])], .agg [.int .i64 v1.code, .int .i64 v1.index]]) (.tup _ _ (.cons _ _ _ _ (.agg _ _ (.cons _ _ _ _ (.YP _ _ _ (by decide)) (.cons _ _ _ _ (.YP _ _ _ (by decide)) .nil))) (.cons _ _ _ _ .s .nil)) rfl) h hsc
 ·refine cd h (fun hc h => ?_) fun hc h => ?_
  ·refine cl h (d2X _ _) fun v2 h => ?_
   refine rr ?_
   exact fo (.tup [.agg [.sl false 1 8 (rows Zg []), .sl false 1 8 (rows Zg [])], .agg [.int .i64 v2.code, .int .i64 v2.index]]) (.tup _ _ (.cons _ _ _ _ (.agg _ _ (.cons _ _ _ _ (.YP _ _ _ (by decide)) (.cons _ _ _ _ (.YP _ _ _ (by decide)) .nil))) (.cons _ _ _ _ .s .nil)) rfl) h hsc
  ·refine rn ?_
   obtain ⟨fx, h⟩ := ck fx h
   have fy := (show List.replicate a0.rules.length [.int .i64 0] = rows Zg (List.replicate a0.rules.length (default : Int)) from d5N (E := Zg) _ default)
   obtain ⟨fx, h⟩ := ck fx h
   have fy := fa fy (show List.replicate a0.YK.length [.int .i64 0] = rows Zg (List.replicate a0.YK.length (default : Int)) from d5N (E := Zg) _ default)
   refine dwy [] 3 ?_
   refine aln 34 fun hl0 => ?_
   refine rng (body := d4n n a0 a1) (kk := d5v) (n := a1.length) (s0 := ((List.replicate a0.rules.length (default : Int)), (List.replicate a0.YK.length (default : Int))))
    (fun (gs0 : Nat × Nat) (k0 : Nat) (s0 : (List Int) × (List Int)) => [(2, .ptr st.length 0 0 0), (4, .ptr (st.length + 1) 0 0 0), (5, .ptr (st.length + 2) 0 0 0), (7, .ptr (st.length + 6) 0 0 0), (8, .ptr (st.length + 7) 0 0 0), (34, .sl false 3 40 (rows Yl.cells a1)), (35, .int .i64 (↑a1.length : Int)), (36, .int .i64 (↑k0 : Int))])
    (fun (gs0 : Nat × Nat) (k0 : Nat) (s0 : (List Int) × (List Int)) => st ++ [some (.arr 0 5 0 [[.sl false 2 40 (rows Yj.cells a0.hierarchy.types), .sl false 3 32 (rows Yt.cells a0.hierarchy.YI), .sl false 10 152 (rows Yh.cells a0.rules), .sl false 9 144 (rows YR.cells a0.YK), .sl false 2 32 (rows Yo.cells a0.start.nodes)]]), some (.arr 0 2 0 [[.YP, .YP]]), some (.arr 0 2 0 [[.int .i64 0, .int .i64 0]]), none, some (.arr gs0.1 1 8 (rows Zg s0.1)), some (.arr gs0.2 1 8 (rows Zg s0.2)), some (.arr 0 2 0 [[.ref true (st.length + 4) gs0.1 0 s0.1.length, .ref true (st.length + 5) gs0.2 0 s0.2.length]]), some (.arr 0 1 0 [[.fn 79 [] [.ptr (st.length + 6) 0 0 0, .ptr (st.length + 7) 0 0 0]]])])
    (fun (gt0 : Nat × Nat) (t0 : (List Int) × (List Int)) => [(4, .ptr (st.length + 1) 0 0 0), (5, .ptr (st.length + 2) 0 0 0), (7, .ptr (st.length + 6) 0 0 0)])
    (fun (gt0 : Nat × Nat) (t0 : (List Int) × (List Int)) => st ++ [none, some (.arr 0 2 0 [[.YP, .YP]]), some (.arr 0 2 0 [[.int .i64 0, .int .i64 0]]), none, some (.arr gt0.1 1 8 (rows Zg t0.1)), some (.arr gt0.2 1 8 (rows Zg t0.2)), some (.arr 0 2 0 [[.ref true (st.length + 4) gt0.1 0 t0.1.length, .ref true (st.length + 5) gt0.2 0 t0.2.length]])])
    (0, 0) fx hl0 h (bm hsc (hu := (.lv (.lv (.lv (.dead _ _ _ (.lv (.lv (.live _ _ _ _ (.arr _ _ _ _ _ (.cons _ _ _ _ (.cons _ _ _ _ (i3Z (by first | (simp; done) | simp [Fr.get])) (.cons _ _ _ _ (i3Z (by first | (simp; done) | simp [Fr.get])) .nil)) (.same _))) (.lv (.nil _)))))))))))
    (fun gs0 k0 s0 b0 fx h hx0 => ?_) (fun gs0 s0 => ?_) (fun gt0 t0 fr1 st1 h hb => ?_)
   ·unfold d4n at h
    refine ct ?_
    refine cl h (d8K n _ _) fun v12 h => ?_
    refine cd h (fun hc h => ?_) fun hc h => ?_
    ·refine cl h (d2X _ _) fun v13 h => ?_
     refine ra ?_
     cases h
     refine YX ?_; have h := congrArg some (hx0 _ rfl)
     refine rr ?_
     exact fo (.tup [.agg [.sl false 1 8 (rows Zg []), .sl false 1 8 (rows Zg [])], .agg [.int .i64 v13.code, .int .i64 v13.index]]) (.tup _ _ (.cons _ _ _ _ (.agg _ _ (.cons _ _ _ _ (.YP _ _ _ (by decide)) (.cons _ _ _ _ (.YP _ _ _ (by decide)) .nil))) (.cons _ _ _ _ .s .nil)) rfl) h hsc
    ·refine rn ?_
     obtain ⟨v14, hv14, h⟩ := Zp h
     refine (i0e n _ _ _ _ hv14 _ _ _ _ _ gs0.1 gs0.2 (by simp) (d1J.trans rfl) (d1J.trans rfl) (d1J.trans rfl) (d1J.trans rfl)).mono ?_
     rintro d1 st1 ⟨rfl, rfl⟩
     refine rn ?_
     cases h
     exact d4S (gs0.1, gs0.2) (bm hsc)
   ·refine cf ?_
    refine d4I ?_; simp only [go_sem, fx]
    exact ⟨(gs0.1, gs0.2), (bm hsc)⟩
   ·try simp only [go_sem, fx]
    unfold d5v at h
    refine d1w hb ?_
    refine rr ?_
    exact fo (.tup [.agg [.sl false 1 8 (rows Zg t0.1), .sl false 1 8 (rows Zg t0.2)], .agg [.int .i64 0, .int .i64 0]]) (.tup _ _ (.cons _ _ _ _ (.agg _ _ (.cons _ _ _ _ (.ref _ _ _ _ _ _ _ _ _ (i0w.trans rfl) i6V (by decide) (i3j _) (by simp only [go_sem])) (.cons _ _ _ _ (.ref _ _ _ _ _ _ _ _ _ (i0w.trans rfl) i6V (by decide) (i3j _) (by simp only [go_sem])) .nil))) (.cons _ _ _ _ .s .nil)) rfl) h hsc
theorem d8X : ∀ (n : Nat) (a0 : Yq) (a1 : Yl) (a2 : Int) (a3 : Int) (d0a : Int) (d4C : Int) (r : Yf × Int × Int) (h : Zf n a0 a1 a2 a3 d0a d4C = some r), ∀ (st : St) (o0 o1 : Nat) (hnd : [o0, o1].Nodup) (d5V : Am.look st o0 = some (.arr 0 1 0 [[.int .i64 d0a]])) (i0d : Am.look st o1 = some (.arr 0 1 0 [[.int .i64 d4C]])), Am.Spec Tryz.prog gl 81 [.agg [.sl false 2 40 (rows Yj.cells a0.hierarchy.types), .sl false 3 32 (rows Yt.cells a0.hierarchy.YI), .sl false 10 152 (rows Yh.cells a0.rules), .sl false 9 144 (rows YR.cells a0.YK), .sl false 2 32 (rows Yo.cells a0.start.nodes)], .agg [.int .i64 a1.rule, .int .i64 a1.lex, .sl false 3 40 (rows Yl.cells a1.kids)], .int .i64 a2, .int .i64 a3, .ptr o0 0 0 0, .ptr o1 0 0 0] st (fun d st' => d = .agg [.int .i64 r.1.code, .int .i64 r.1.index] ∧ st' = puts st [(o0, (.arr 0 1 0 [[.int .i64 r.2.1]])), (o1, (.arr 0 1 0 [[.int .i64 r.2.2]]))]) := by
 intro n
 induction n with
 | zero => intro a0 a1 a2 a3 d0a d4C r h; cases h
 | succ n ih =>
  intro a0 a1 a2 a3 d0a d4C r h st o0 o1 hnd d5V i0d
  unfold Zf at h
  have ho0 := d1v d5V
  have ho1 := d1v i0d
  have fx := fa (fa (idf ho0) (idf ho1)) (nd2 hnd)
  refine fb 129 [.cell 12 41] [0, 1, 2, 3, 4, 5, 6, 7, 12, 13, 14, 16, 17, 30, 31, 32, 39, 40, 41, 42, 43, 44, 47, 48, 49, 50, 51, 52, 53, 54, 55, 56, 57, 58, 59, 60, 61, 62, 63, 70, 71, 72, 73, 78, 90, 94, 98, 102, 109, 110, 111, 112, 125] Tryz.func81 fun hsc => ?_
  refine d8P (s' := (d1F st [(o0, (.arr 0 1 0 [[.int .i64 d0a]])), (o1, (.arr 0 1 0 [[.int .i64 d4C]]))])) (d0d (by simp [d5V, i0d])) ?_
  refine cd h (fun hc h => ?_) fun hc h => ?_
  ·refine rr ?_
   exact fuo (.agg [.int .i64 1, .int .i64 d0a]) (.same _) h hsc
  ·refine cd h (fun hc h => ?_) fun hc h => ?_
   ·refine rr ?_
    exact fuo (.agg [.int .i64 3, .int .i64 d0a]) (.same _) h hsc
   ·refine cd h (fun hc h => ?_) fun hc h => ?_
    ·refine rr ?_
     exact fuo (.agg [.int .i64 5, .int .i64 d0a]) (.same _) h hsc
    ·refine rn ?_
     refine d5D (d0y (Zf n) a1 d0a d4C a0 a2 a3) r (fun (gj0 : Unit) (j0 : Int) => [(2, .int .i64 a2), (3, .int .i64 a3), (4, .ptr o0 0 0 0), (5, .ptr o1 0 0 0), (6, .ptr st.length 0 0 0), (7, .ptr (st.length + 1) 0 0 0), (12, .ptr (st.length + 2) 0 0 0), (13, .int .i64 d0a), (14, .int .i64 j0)]) (fun (gj0 : Unit) (j0 : Int) => (d1F st [(o0, (.arr 0 1 0 [[.int .i64 (wr .i64 (d0a + 1))]])), (o1, (.arr 0 1 0 [[.int .i64 d4C]]))]) ++ [some (.arr 0 5 0 [[.sl false 2 40 (rows Yj.cells a0.hierarchy.types), .sl false 3 32 (rows Yt.cells a0.hierarchy.YI), .sl false 10 152 (rows Yh.cells a0.rules), .sl false 9 144 (rows YR.cells a0.YK), .sl false 2 32 (rows Yo.cells a0.start.nodes)]]), some (.arr 0 3 0 [[.int .i64 a1.rule, .int .i64 a1.lex, .sl false 3 40 (rows Yl.cells a1.kids)]]), some (.arr 0 2 0 [[.int .i64 0, .int .i64 0]])]) (fun gj0 j0 fr1 st1 h hb => ?_) (fun hj0 => ?_)
     ·try simp only [go_sem, fx]
      unfold d0y at h
      refine d1w hb ?_
      refine cd h (fun hc h => ?_) fun hc h => ?_
      ·refine rr ?_
       exact fuo (.agg [.int .i64 9, .int .i64 d0a]) (.same _) h hsc
      ·refine rn ?_
       refine d5D (d0b (Zf n) d0a d4C j0 a0 a1 a2) r (fun (gj1 : Unit) (j1 : Int) => [(2, .int .i64 a2), (3, .int .i64 j1), (4, .ptr o0 0 0 0), (5, .ptr o1 0 0 0), (6, .ptr st.length 0 0 0), (7, .ptr (st.length + 1) 0 0 0), (12, .ptr (st.length + 2) 0 0 0), (13, .int .i64 d0a), (14, .int .i64 j0)]) (fun (gj1 : Unit) (j1 : Int) => (d1F st [(o0, (.arr 0 1 0 [[.int .i64 (wr .i64 (d0a + 1))]])), (o1, (.arr 0 1 0 [[.int .i64 d4C]]))]) ++ [some (.arr 0 5 0 [[.sl false 2 40 (rows Yj.cells a0.hierarchy.types), .sl false 3 32 (rows Yt.cells a0.hierarchy.YI), .sl false 10 152 (rows Yh.cells a0.rules), .sl false 9 144 (rows YR.cells a0.YK), .sl false 2 32 (rows Yo.cells a0.start.nodes)]]), some (.arr 0 3 0 [[.int .i64 a1.rule, .int .i64 a1.lex, .sl false 3 40 (rows Yl.cells a1.kids)]]), some (.arr 0 2 0 [[.int .i64 0, .int .i64 0]])]) (fun gj1 j1 fr1 st1 h hb => ?_) (fun hj1 => ?_)
       ·try simp only [go_sem, fx]
        unfold d0b at h
        refine d1w hb ?_
        refine cd h (fun hc h => ?_) fun hc h => ?_
        ·refine rr ?_
         exact fuo (.agg [.int .i64 14, .int .i64 d0a]) (.same _) h hsc
        ·refine rn ?_
         refine d5D (d0z (Zf n) a0 a1 a2 j1 d0a) r (fun (gj2 : Unit) (j2 : Int) => [(2, .int .i64 a2), (3, .int .i64 j1), (4, .ptr o0 0 0 0), (5, .ptr o1 0 0 0), (6, .ptr st.length 0 0 0), (7, .ptr (st.length + 1) 0 0 0), (12, .ptr (st.length + 2) 0 0 0)]) (fun (gj2 : Unit) (j2 : Int) => (d1F st [(o0, (.arr 0 1 0 [[.int .i64 (wr .i64 (d0a + 1))]])), (o1, (.arr 0 1 0 [[.int .i64 j2]]))]) ++ [some (.arr 0 5 0 [[.sl false 2 40 (rows Yj.cells a0.hierarchy.types), .sl false 3 32 (rows Yt.cells a0.hierarchy.YI), .sl false 10 152 (rows Yh.cells a0.rules), .sl false 9 144 (rows YR.cells a0.YK), .sl false 2 32 (rows Yo.cells a0.start.nodes)]]), some (.arr 0 3 0 [[.int .i64 a1.rule, .int .i64 a1.lex, .sl false 3 40 (rows Yl.cells a1.kids)]]), some (.arr 0 2 0 [[.int .i64 0, .int .i64 0]])]) (fun gj2 j2 fr1 st1 h hb => ?_) (fun hj2 => ?_)
         ·try simp only [go_sem, fx]
          unfold d0z at h
          refine d1w hb ?_
          refine aln 109 fun hl3 => ?_
          refine rng (body := d1y (Zf n) a0 a1 a2 j1) (kk := d2G) (n := a1.kids.length) (s0 := ((wr .i64 (d0a + 1)), j2))
           (fun (gs3 : Unit) (k3 : Nat) (s3 : Int × Int) => [(2, .int .i64 a2), (3, .int .i64 j1), (4, .ptr o0 0 0 0), (5, .ptr o1 0 0 0), (6, .ptr st.length 0 0 0), (12, .ptr (st.length + 2) 0 0 0), (109, .sl false 3 40 (rows Yl.cells a1.kids)), (110, .int .i64 (↑a1.kids.length : Int)), (111, .int .i64 (↑k3 : Int))])
           (fun (gs3 : Unit) (k3 : Nat) (s3 : Int × Int) => (d1F st [(o0, (.arr 0 1 0 [[.int .i64 s3.1]])), (o1, (.arr 0 1 0 [[.int .i64 s3.2]]))]) ++ [some (.arr 0 5 0 [[.sl false 2 40 (rows Yj.cells a0.hierarchy.types), .sl false 3 32 (rows Yt.cells a0.hierarchy.YI), .sl false 10 152 (rows Yh.cells a0.rules), .sl false 9 144 (rows YR.cells a0.YK), .sl false 2 32 (rows Yo.cells a0.start.nodes)]]), none, some (.arr 0 2 0 [[.int .i64 0, .int .i64 0]])])
           (fun (gt3 : Unit) (t3 : Int × Int) => [(12, .ptr (st.length + 2) 0 0 0)])
           (fun (gt3 : Unit) (t3 : Int × Int) => (d1F st [(o0, (.arr 0 1 0 [[.int .i64 t3.1]])), (o1, (.arr 0 1 0 [[.int .i64 t3.2]]))]) ++ [none, none, some (.arr 0 2 0 [[.int .i64 0, .int .i64 0]])])
           () fx hl3 h (bu hsc)
           (fun gs3 k3 s3 b3 fx h hx3 => ?_) (fun gs3 s3 => ?_) (fun gt3 t3 fr1 st1 h hb => ?_)
          ·unfold d1y at h
           refine ct ?_
           refine rn ?_
           obtain ⟨v4, hv4, h⟩ := Zp h
           refine (ih _ _ _ _ _ _ _ hv4 _ _ _ hnd (by simp only [go_sem, fx]) (by simp only [go_sem, fx])).mono ?_
           rintro d1 st1 ⟨rfl, rfl⟩
           refine cd h (fun hc h => ?_) fun hc h => ?_
           ·refine ra ?_
            cases h
            refine YX ?_; have h := congrArg some (hx3 _ rfl)
            refine rr ?_
            exact fuo (.agg [.int .i64 v4.1.code, .int .i64 v4.1.index]) (.same _) h hsc
           ·refine rn ?_
            cases h
            exact d4S () (bu hsc)
          ·refine cf ?_
           refine d4I ?_; simp only [go_sem, fx]
           exact ⟨(), (bu hsc)⟩
          ·try simp only [go_sem, fx]
           unfold d2G at h
           refine d1w hb ?_
           refine rr ?_
           exact fuo (.agg [.int .i64 0, .int .i64 0]) (.same _) h hsc
         ·refine cd h (fun hc h => ?_) fun hc h => ?_
          ·refine r0 ?_
           refine hj2 () _ _ _ h ?_; exact (bu hsc)
          ·refine r0 ?_
           refine hj2 () _ _ _ h ?_; exact (bu hsc)
       ·refine cd h (fun hc h => ?_) fun hc h => ?_
        ·refine r0 ?_
         refine hj1 () _ _ _ h ?_; exact (bu hsc)
        ·refine r0 ?_
         refine hj1 () _ _ _ h ?_; exact (bu hsc)
     ·refine cd h (fun hc h => ?_) fun hc h => ?_
      ·obtain ⟨fx, h⟩ := ck fx h
       refine r0 ?_
       refine hj0 () _ _ _ h ?_; exact (bu hsc)
      ·refine r0 ?_
       refine hj0 () _ _ _ h ?_; exact (bu hsc)
end Go.Proofs.YtgaeiccgdpnkkaaGreatDoor
