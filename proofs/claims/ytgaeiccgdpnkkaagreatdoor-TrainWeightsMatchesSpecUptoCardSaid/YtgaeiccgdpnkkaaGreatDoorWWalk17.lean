import Derived.Test.YtgaeiccgdpnkkaaGreatDoorWWalk16
set_option linter.unusedVariables false
set_option linter.unusedSimpArgs false
set_option maxHeartbeats 2000000
set_option maxRecDepth 100000
namespace Go.Proofs.YtgaeiccgdpnkkaaGreatDoor
open Go Go.Am
theorem i1B (n : Nat) (a0 : WZ) (a1 : Int) (r : WM) (h : i0y n a0 a1 = some r) : Pure Tryz.prog gl 88 [.agg [.int .i64 a0.num, .int .i64 a0.den], .int .i64 a1] (.agg [.int .i64 r.code, .int .i64 r.index]) := by
 intro st
 unfold i0y at h
 have fx := trivial
 refine fb 36 [.cell 4 41] [0, 1, 2, 4, 9, 10, 11, 14, 15, 16, 19, 20, 21, 22, 32] Tryz.func88 fun hsc => ?_
 refine cd h (fun hc h => ?_) fun hc h => ?_
 ·exact rt
 ·refine rn ?_
  refine dw [] 0 ?_
  obtain ⟨v1, hv1, h⟩ := XT h
  refine Xe (d6D _ _ hv1) ?_
  try simp only [go_sem, fx]
  obtain ⟨v2, hv2, h⟩ := XT h
  refine Xe (d9h n _ _ _ hv2) ?_
  try simp only [go_sem, fx]
  refine cd h (fun hc h => ?_) fun hc h => ?_
  ·exact rt
  ·exact rt
theorem i7F (n : Nat) (a0 : WZ) (a1 : WZ) (r : WM) (h : i5l n a0 a1 = some r) : Pure Tryz.prog gl 191 [.agg [.int .i64 a0.num, .int .i64 a0.den], .agg [.int .i64 a1.num, .int .i64 a1.den]] (.agg [.int .i64 r.code, .int .i64 r.index]) := by
 intro st
 unfold i5l at h
 have fx := trivial
 refine fb 14 [.cell 4 41] [0, 1, 2, 3, 4, 5, 10] Tryz.func191 fun hsc => ?_
 refine cl h (i1B n _ _) fun v1 h => ?_
 refine cd h (fun hc h => ?_) fun hc h => ?_
 ·exact rt
 ·refine cl h (i1B n _ _) fun v2 h => ?_
  exact rt
theorem i1I (a0 : Int) (a1 : Int) (r : Int × Int) (h : d8b a0 a1 = some r) : Pure Tryz.prog gl 156 [.int .u64 a0, .int .u64 a1] (.tup [.int .u64 r.1, .int .u64 r.2]) := by
 intro st
 unfold d8b at h
 have fx := trivial
 refine fb 51 [.tmp 4, .tmp 5] [0, 1, 4, 5, 6, 7, 8, 9, 10, 11, 12, 13] Tryz.func156 fun hsc => ?_
 exact rt
theorem d9y (a0 : Int) (a1 : Int) (r : Int × Bool) (h : d8c a0 a1 = some r) : Pure Tryz.prog gl 160 [.int .u64 a0, .int .u64 a1] (.tup [.int .u64 r.1, .bool r.2]) := by
 intro st
 unfold d8c at h
 have fx := trivial
 refine fb 21 [.tmp 4, .tmp 5] [0, 1, 4, 5, 6, 7, 18, 19] Tryz.func160 fun hsc => ?_
 refine cl h (i1I _ _) fun v1 h => ?_
 exact rt
theorem i6t (n : Nat) (a0 : WZ) (a1 : WZ) (r : WZ × WM) (h : i3k n a0 a1 = some r) : Pure Tryz.prog gl 192 [.agg [.int .i64 a0.num, .int .i64 a0.den], .agg [.int .i64 a1.num, .int .i64 a1.den]] (.tup [.agg [.int .i64 r.1.num, .int .i64 r.1.den], .agg [.int .i64 r.2.code, .int .i64 r.2.index]]) := by
 intro st
 unfold i3k at h
 have fx := trivial
 refine fb 78 [.cell 4 71, .cell 5 41] [0, 1, 2, 3, 4, 5, 6, 7, 8, 9, 10, 11, 12, 13, 14, 15, 57, 58, 59, 70, 71] Tryz.func192 fun hsc => ?_
 refine rn ?_
 refine dw [] 0 ?_
 obtain ⟨v1, hv1, h⟩ := XT h
 refine Xe (d6D _ _ hv1) ?_
 try simp only [go_sem, fx]
 obtain ⟨v2, hv2, h⟩ := XT h
 refine Xe (d6D _ _ hv2) ?_
 try simp only [go_sem, fx]
 refine cl h (d9h n _ _) fun v3 h => ?_
 refine cl h (d9h n _ _) fun v4 h => ?_
 refine rn ?_
 obtain ⟨fx, h⟩ := ck fx h
 obtain ⟨fx, h⟩ := ck fx h
 refine dw [] 0 ?_
 obtain ⟨v9, hv9, h⟩ := XT h
 refine Xe (d9y _ _ _ hv9) ?_
 try simp only [go_sem, fx]
 refine rs ?_
 obtain ⟨fx, h⟩ := ck fx h
 obtain ⟨fx, h⟩ := ck fx h
 refine dw [] 0 ?_
 obtain ⟨v12, hv12, h⟩ := XT h
 refine Xe (d9y _ _ _ hv12) ?_
 try simp only [go_sem, fx]
 refine cd h (fun hc h => ?_) fun hc h => ?_
 ·exact rt
 ·refine cl h (i6s _ _ _) fun v13 h => ?_
  exact rt
theorem i9n (n : Nat) (a0 : WZ) (a1 : WZ) (r : WZ × WM) (h : i7D n a0 a1 = some r) : Pure Tryz.prog gl 148 [.agg [.int .i64 a0.num, .int .i64 a0.den], .agg [.int .i64 a1.num, .int .i64 a1.den]] (.tup [.agg [.int .i64 r.1.num, .int .i64 r.1.den], .agg [.int .i64 r.2.code, .int .i64 r.2.index]]) := by
 intro st
 unfold i7D at h
 have fx := trivial
 refine fb 20 [.cell 4 71, .cell 5 41] [0, 1, 2, 3, 4, 5, 6, 12] Tryz.func148 fun hsc => ?_
 refine cl h (i7F n _ _) fun v1 h => ?_
 refine cd h (fun hc h => ?_) fun hc h => ?_
 ·refine rs ?_
  refine dw [1, 2] 0 ?_
  try refine ⟨by (simp <;> omega), ?_⟩
  exact rt
 ·refine cl h (i6t n _ _) fun v2 h => ?_
  exact rt
theorem d9k : ∀ (n : Nat) (a0 : Xn) (d0F : (List WZ)) (d6I : (List WZ)) (i1U : Int) (i9q : Int) (r : Bool × Int × Int) (h : d0E n a0 d0F d6I i1U i9q = some r), ∀ (st : St) (o0 o1 o2 o3 : Nat) (hnd : [o0, o1, o2, o3].Nodup) (d5O : Am.look st o0 = some (.arr 0 1 0 [[.sl false 2 16 (rows WZ.cells d0F)]])) (i0G : Am.look st o1 = some (.arr 0 1 0 [[.sl false 2 16 (rows WZ.cells d6I)]])) (i4t : Am.look st o2 = some (.arr 0 2 0 [[.int .i64 i1U, .int .i64 i9q]])) (p1m : Am.look st o3 = some (.arr 0 1 0 [[.fn 147 [] [.ptr o0 0 0 0, .ptr o1 0 0 0, .ptr o2 0 0 0, .ptr o3 0 0 0]]])), Am.Spec Tryz.prog gl 147 [.agg [.int .i64 a0.rule, .int .i64 a0.lex, .sl false 3 40 (rows Xn.cells a0.kids)], .ptr o0 0 0 0, .ptr o1 0 0 0, .ptr o2 0 0 0, .ptr o3 0 0 0] st (fun d st' => d = .bool r.1 ∧ st' = puts st [(o0, (.arr 0 1 0 [[.sl false 2 16 (rows WZ.cells d0F)]])), (o1, (.arr 0 1 0 [[.sl false 2 16 (rows WZ.cells d6I)]])), (o2, (.arr 0 2 0 [[.int .i64 r.2.1, .int .i64 r.2.2]])), (o3, (.arr 0 1 0 [[.fn 147 [] [.ptr o0 0 0 0, .ptr o1 0 0 0, .ptr o2 0 0 0, .ptr o3 0 0 0]]]))]) := by
 intro n
 induction n with
 | zero => intro a0 d0F d6I i1U i9q r h; cases h
 | succ n ih =>
  intro a0 d0F d6I i1U i9q r h st o0 o1 o2 o3 hnd d5O i0G i4t p1m
  unfold d0E at h
  have ho0 := d0Q d5O
  have ho1 := d0Q i0G
  have ho2 := d0Q i4t
  have ho3 := d0Q p1m
  have fx := fa (fa (fa (fa (idf ho0) (idf ho1)) (idf ho2)) (idf ho3)) (nd4 hnd)
  refine fb 45 [.tmp 6] [0, 1, 2, 3, 4, 5, 6, 7, 8, 10, 13, 32, 34, 35, 36, 37, 43] Tryz.func147 fun hsc => ?_
  refine d8B (s' := (d1a st [(o0, (.arr 0 1 0 [[.sl false 2 16 (rows WZ.cells d0F)]])), (o1, (.arr 0 1 0 [[.sl false 2 16 (rows WZ.cells d6I)]])), (o2, (.arr 0 2 0 [[.int .i64 i1U, .int .i64 i9q]])), (o3, (.arr 0 1 0 [[.fn 147 [] [.ptr o0 0 0 0, .ptr o1 0 0 0, .ptr o2 0 0 0, .ptr o3 0 0 0]]]))])) (YZ (by simp [d5O, i0G, i4t, p1m])) ?_
  refine rn ?_
  refine d6p (d2o (d0E n) n i1U i9q a0 d0F d6I) r (fun (gj0 : Unit) (j0 : Int × Int) => [(3, .ptr o2 0 0 0), (4, .ptr o3 0 0 0), (5, .ptr st.length 0 0 0), (7, .ptr (st.length + 1) 0 0 0)]) (fun (gj0 : Unit) (j0 : Int × Int) => (d1a st [(o0, (.arr 0 1 0 [[.sl false 2 16 (rows WZ.cells d0F)]])), (o1, (.arr 0 1 0 [[.sl false 2 16 (rows WZ.cells d6I)]])), (o2, (.arr 0 2 0 [[.int .i64 i1U, .int .i64 i9q]])), (o3, (.arr 0 1 0 [[.fn 147 [] [.ptr o0 0 0 0, .ptr o1 0 0 0, .ptr o2 0 0 0, .ptr o3 0 0 0]]]))]) ++ [some (.arr 0 3 0 [[.int .i64 a0.rule, .int .i64 a0.lex, .sl false 3 40 (rows Xn.cells a0.kids)]]), some (.arr 0 2 0 [[.int .i64 j0.1, .int .i64 j0.2]])]) (fun gj0 j0 fr1 st1 h hb => ?_) (fun hj0 => ?_)
  ·try simp only [go_sem, fx]
   unfold d2o at h
   refine d0s hb ?_
   refine cl h (i9n n _ _) fun v5 h => ?_
   refine cd h (fun hc h => ?_) fun hc h => ?_
   ·refine rr ?_
    exact fuo (.bool false) (.same _) h hsc
   ·refine aln 34 fun hl1 => ?_
    refine rng (body := d3P (d0E n) a0 d0F d6I) (kk := d3Q) (n := a0.kids.length) (s0 := (v5.1.num, v5.1.den))
     (fun (gs1 : Unit) (k1 : Nat) (s1 : Int × Int) => [(4, .ptr o3 0 0 0), (34, .sl false 3 40 (rows Xn.cells a0.kids)), (35, .int .i64 (↑a0.kids.length : Int)), (36, .int .i64 (↑k1 : Int))])
     (fun (gs1 : Unit) (k1 : Nat) (s1 : Int × Int) => (d1a st [(o0, (.arr 0 1 0 [[.sl false 2 16 (rows WZ.cells d0F)]])), (o1, (.arr 0 1 0 [[.sl false 2 16 (rows WZ.cells d6I)]])), (o2, (.arr 0 2 0 [[.int .i64 s1.1, .int .i64 s1.2]])), (o3, (.arr 0 1 0 [[.fn 147 [] [.ptr o0 0 0 0, .ptr o1 0 0 0, .ptr o2 0 0 0, .ptr o3 0 0 0]]]))]))
     (fun (gt1 : Unit) (t1 : Int × Int) => [])
     (fun (gt1 : Unit) (t1 : Int × Int) => (d1a st [(o0, (.arr 0 1 0 [[.sl false 2 16 (rows WZ.cells d0F)]])), (o1, (.arr 0 1 0 [[.sl false 2 16 (rows WZ.cells d6I)]])), (o2, (.arr 0 2 0 [[.int .i64 t1.1, .int .i64 t1.2]])), (o3, (.arr 0 1 0 [[.fn 147 [] [.ptr o0 0 0 0, .ptr o1 0 0 0, .ptr o2 0 0 0, .ptr o3 0 0 0]]]))]))
     () fx hl1 h (bu0 hsc)
     (fun gs1 k1 s1 b1 fx h hx1 => ?_) (fun gs1 s1 => ?_) (fun gt1 t1 fr1 st1 h hb => ?_)
    ·unfold d3P at h
     refine ct ?_
     refine rn ?_
     obtain ⟨v7, hv7, h⟩ := XT h
     refine (ih _ _ _ _ _ _ hv7 _ _ _ _ _ hnd (by simp only [go_sem, fx]) (by simp only [go_sem, fx]) (by simp only [go_sem, fx]) (by simp only [go_sem, fx])).mono ?_
     rintro d1 st1 ⟨rfl, rfl⟩
     refine cd h (fun hc h => ?_) fun hc h => ?_
     ·refine ra ?_
      cases h
      refine XI ?_; have h := congrArg some (hx1 _ rfl)
      refine rr ?_
      exact fuo (.bool false) (.same _) h hsc
     ·refine rn ?_
      cases h
      exact d4u () (bu0 hsc)
    ·refine cf ?_
     refine d4b ?_; simp only [go_sem, fx]
     exact ⟨(), (p8u hsc)⟩
    ·try simp only [go_sem, fx]
     unfold d3Q at h
     refine d0s hb ?_
     refine rr ?_
     exact fus (.bool true) (.same _) h hsc
  ·refine cd h (fun hc h => ?_) fun hc h => ?_
   ·obtain ⟨fx, h⟩ := ck fx h
    refine r0 ?_
    refine hj0 () _ _ _ h ?_; exact (bu hsc)
   ·obtain ⟨fx, h⟩ := ck fx h
    refine r0 ?_
    refine hj0 () _ _ _ h ?_; exact (bu hsc)
theorem d8K (n : Nat) (a0 : (List WZ)) (a1 : (List WZ)) (a2 : Xn) (r : WZ × Bool) (h : d4S n a0 a1 a2 = some r) : Pure Tryz.prog gl 84 [.sl false 2 16 (rows WZ.cells a0), .sl false 2 16 (rows WZ.cells a1), .agg [.int .i64 a2.rule, .int .i64 a2.lex, .sl false 3 40 (rows Xn.cells a2.kids)]] (.tup [.agg [.int .i64 r.1.num, .int .i64 r.1.den], .bool r.2]) := by
 intro st
 unfold d4S at h
 have fx := trivial
 refine fb 18 [.cell 6 71, .tmp 7] [0, 1, 2, 3, 4, 5, 6, 7, 8, 9, 15] Tryz.func84 fun hsc => ?_
 refine rn ?_
 obtain ⟨v1, hv1, h⟩ := XT h
 refine (d9k n _ _ _ _ _ _ hv1 _ _ _ _ _ (by simp) (d1e.trans rfl) (i2x.trans rfl) (d1e.trans rfl) (d1e.trans rfl)).mono ?_
 rintro d1 st1 ⟨rfl, rfl⟩
 refine cd h (fun hc h => ?_) fun hc h => ?_
 ·exact rt
 ·exact rt
theorem d9M (n : Nat) (a0 : Xa) (a1 : Xt) (a2 : Xn) (r : WZ × WM) (h : d5J n a0 a1 a2 = some r) : Pure Tryz.prog gl 30 [.agg [.sl false 2 40 (rows WT.cells a0.hierarchy.types), .sl false 3 32 (rows Xf.cells a0.hierarchy.Xw), .sl false 10 152 (rows WQ.cells a0.rules), .sl false 9 144 (rows XE.cells a0.Xj), .sl false 2 32 (rows WX.cells a0.start.nodes)], .agg [.sl false 1 8 (rows XM a1.rules), .sl false 1 8 (rows XM a1.Xj)], .agg [.int .i64 a2.rule, .int .i64 a2.lex, .sl false 3 40 (rows Xn.cells a2.kids)]] (.tup [.agg [.int .i64 r.1.num, .int .i64 r.1.den], .agg [.int .i64 r.2.code, .int .i64 r.2.index]]) := by
 intro st
 unfold d5J at h
 have fx := trivial
 refine fb 49 [.cell 6 71, .cell 7 41] [0, 1, 2, 3, 4, 5, 6, 7, 8, 9, 10, 11, 12, 13, 19, 27, 44] Tryz.func30 fun hsc => ?_
 refine cl h (i0B n _ _) fun v1 h => ?_
 refine cd h (fun hc h => ?_) fun hc h => ?_
 ·refine rs ?_
  refine dw [1, 2] 0 ?_
  try refine ⟨by (simp <;> omega), ?_⟩
  exact rt
 ·refine cl h (i0A n _ _) fun v2 h => ?_
  refine cd h (fun hc h => ?_) fun hc h => ?_
  ·refine rs ?_
   refine dw [1, 2] 0 ?_
   try refine ⟨by (simp <;> omega), ?_⟩
   exact rt
  ·refine cl h (d8J n _ _) fun v3 h => ?_
   refine cl h (d8K n _ _ _) fun v4 h => ?_
   refine cd h (fun hc h => ?_) fun hc h => ?_
   ·refine cl h (d3M _ _) fun v5 h => ?_
    exact rt
   ·exact rt
theorem d6d (n : Nat) (r : Bool) (h : Zz n  = some r) : Pure Tryz.prog gl 26 [] (.bool r) := by
 intro st
 unfold Zz at h
 have fx := trivial
 refine fb 71 [.tmp 0] [0, 1, 2, 3, 4, 5, 24, 25, 26, 27, 30, 31, 32, 33, 36, 37, 38, 39, 40, 43, 44, 45, 46, 47, 50, 51, 52, 53, 54, 55, 67, 68, 69] Tryz.func26 fun hsc => ?_
 refine cl h (d7G n) fun v1 h => ?_
 refine r0 ?_
 (repeat apply sq_)
 refine d0s (F := [(1, .ptr st.length 0 0 0), (2, .ptr (st.length + 3) 0 0 0)]) (T := st ++ [some (.arr 0 5 0 [[.sl false 2 40 (rows WT.cells v1.hierarchy.types), .sl false 3 32 (rows Xf.cells v1.hierarchy.Xw), .sl false 10 152 (rows WQ.cells v1.rules), .sl false 9 144 (rows XE.cells v1.Xj), .sl false 2 32 (rows WX.cells v1.start.nodes)]]), some (.arr 0 3 40 (rows Xn.cells [(Xn.mk (-1) 9 [])])), some (.arr 0 3 40 [[.int .i64 (-1), .int .i64 19, .XC], [.int .i64 2, .int .i64 0, .ref true (st.length + 1) 0 0 1]]), some (.arr 0 3 0 [[.int .i64 0, .int .i64 0, .ref true (st.length + 2) 0 0 2]])]) (i7f hsc (.lv (.live _ _ _ _ (.arr _ _ _ _ _ (.cons _ _ _ _ (.cons _ _ _ _ .s (.cons _ _ _ _ .s (.cons _ _ _ _ (.XC _ _ _ (by decide)) .nil))) .nil)) (.lv (.lv (.nil _))))) (by simp) ⟨.s, .s, trivial⟩ (by simp)) ?_
 (repeat apply sq_)
 refine d0s (F := [(1, .ptr st.length 0 0 0), (2, .ptr (st.length + 3) 0 0 0)]) (T := st ++ [some (.arr 0 5 0 [[.sl false 2 40 (rows WT.cells v1.hierarchy.types), .sl false 3 32 (rows Xf.cells v1.hierarchy.Xw), .sl false 10 152 (rows WQ.cells v1.rules), .sl false 9 144 (rows XE.cells v1.Xj), .sl false 2 32 (rows WX.cells v1.start.nodes)]]), none, some (.arr 0 3 40 (rows Xn.cells [(Xn.mk (-1) 19 []), (Xn.mk 2 0 [(Xn.mk (-1) 9 [])])])), some (.arr 0 3 0 [[.int .i64 0, .int .i64 0, .ref true (st.length + 2) 0 0 2]])]) (i7f hsc (.lv (.dead _ _ _ (.live _ _ _ _ (.arr _ _ _ _ _ (.cons _ _ _ _ (.cons _ _ _ _ .s (.cons _ _ _ _ .s (.cons _ _ _ _ (.XC _ _ _ (by decide)) .nil))) (.cons _ _ _ _ (.cons _ _ _ _ .s (.cons _ _ _ _ .s (.cons _ _ _ _ (.ref _ _ _ _ _ _ _ _ _ (i0F.trans rfl) (d1e.trans rfl) (by decide) (i3y _) (by first | (simp only [go_sem]; done) | simp only [go_sem, Xn.d5i])) .nil))) .nil))) (.lv (.nil _))))) (by simp) ⟨.s, .s, trivial⟩ (by simp)) ?_
 (repeat apply sq_)
 refine d0s (F := [(1, .ptr st.length 0 0 0), (2, .ptr (st.length + 3) 0 0 0)]) (T := st ++ [some (.arr 0 5 0 [[.sl false 2 40 (rows WT.cells v1.hierarchy.types), .sl false 3 32 (rows Xf.cells v1.hierarchy.Xw), .sl false 10 152 (rows WQ.cells v1.rules), .sl false 9 144 (rows XE.cells v1.Xj), .sl false 2 32 (rows WX.cells v1.start.nodes)]]), none, none, some (.arr 0 3 0 [[.int .i64 0, .int .i64 0, .sl false 3 40 (rows Xn.cells [(Xn.mk (-1) 19 []), (Xn.mk 2 0 [(Xn.mk (-1) 9 [])])])]])]) (i7f hsc (.lv (.dead _ _ _ (.dead _ _ _ (.live _ _ _ _ (.arr _ _ _ _ _ (.cons _ _ _ _ (.cons _ _ _ _ .s (.cons _ _ _ _ .s (.cons _ _ _ _ (.ref _ _ _ _ _ _ _ _ _ (i0F.trans rfl) (d1e.trans rfl) (by decide) (i3y _) (by first | (simp only [go_sem]; done) | simp only [go_sem, Xn.d5i])) .nil))) (.same _))) (.nil _))))) (by simp) ⟨.s, .s, trivial⟩ (by simp)) ?_
 refine rn ?_
 obtain ⟨v5, hv5, h⟩ := XT h
 refine (i5m n _ _ _ hv5 _ _ 0 (by simp) (d1e.trans rfl)).mono ?_
 rintro d1 st1 ⟨rfl, rfl⟩
 obtain ⟨fx, h⟩ := ck fx h
 obtain ⟨fx, h⟩ := ck fx h
 obtain ⟨fx, h⟩ := ck fx h
 refine cd h (fun hc h => ?_) fun hc h => ?_
 ·exact rt
 ·refine cl h (d9M n _ _ _) fun v12 h => ?_
  exact rt
end Go.Proofs.YtgaeiccgdpnkkaaGreatDoor
