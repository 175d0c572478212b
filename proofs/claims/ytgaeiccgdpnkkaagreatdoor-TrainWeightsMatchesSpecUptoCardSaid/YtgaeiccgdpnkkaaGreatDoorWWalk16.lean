import Derived.Test.YtgaeiccgdpnkkaaGreatDoorWWalk15
set_option linter.unusedVariables false
set_option linter.unusedSimpArgs false
set_option maxHeartbeats 2000000
set_option maxRecDepth 100000
namespace Go.Proofs.YtgaeiccgdpnkkaaGreatDoor
open Go Go.Am
theorem i5m (n : Nat) (a0 : Xa) (l0 : (List Xn)) (r : Xt × WM) (h : i1l n a0 l0 = some r) : ∀ (st : St) (o0 q0 : Nat) (hnd : [o0].Nodup) (d5O : Am.look st o0 = some (.arr q0 3 40 (rows Xn.cells l0))), Am.Spec Tryz.prog gl 27 [.agg [.sl false 2 40 (rows WT.cells a0.hierarchy.types), .sl false 3 32 (rows Xf.cells a0.hierarchy.Xw), .sl false 10 152 (rows WQ.cells a0.rules), .sl false 9 144 (rows XE.cells a0.Xj), .sl false 2 32 (rows WX.cells a0.start.nodes)], .ref true o0 q0 0 l0.length] st (fun d st' => d = .tup [.agg [.sl false 1 8 (rows XM r.1.rules), .sl false 1 8 (rows XM r.1.Xj)], .agg [.int .i64 r.2.code, .int .i64 r.2.index]] ∧ st' = puts st []) := by
 intro st o0 q0 hnd d5O
 unfold i1l at h
 have ho0 := d0Q d5O
 have fx := idf ho0
 refine fb 58 [.cell 4 62, .cell 5 41] [0, 1, 2, 4, 5, 6, 7, 8, 9, 10, 11, 16, 21, 34, 35, 36, 37, 46] Tryz.func27 fun hsc => ?_
 refine d8B (s' := (d1a st [(o0, (.arr q0 3 40 (rows Xn.cells l0)))])) (YZ (by simp [d5O])) ?_
 refine cl h (d6Y n _) fun v1 h => ?_
 refine cd h (fun hc h => ?_) fun hc h => ?_
 ·refine rs ?_
  refine dw [1, 2] 0 ?_
  try refine ⟨by (simp <;> omega), ?_⟩
  refine rr ?_
  exact fuo (.tup [.agg [.sl false 1 8 (rows XM []), .sl false 1 8 (rows XM [])], .agg [.int .i64 v1.code, .int .i64 v1.index]]) (.tup _ _ (.cons _ _ _ _ (.agg _ _ (.cons _ _ _ _ (.XC _ _ _ (by decide)) (.cons _ _ _ _ (.XC _ _ _ (by decide)) .nil))) (.cons _ _ _ _ .s .nil)) rfl) h hsc (hr := by rintro rfl; exact ⟨rfl, YZ (by simp [d5O])⟩)
 ·refine cd h (fun hc h => ?_) fun hc h => ?_
  ·refine cl h (d3M _ _) fun v2 h => ?_
   refine rr ?_
   exact fuo (.tup [.agg [.sl false 1 8 (rows XM []), .sl false 1 8 (rows XM [])], .agg [.int .i64 v2.code, .int .i64 v2.index]]) (.tup _ _ (.cons _ _ _ _ (.agg _ _ (.cons _ _ _ _ (.XC _ _ _ (by decide)) (.cons _ _ _ _ (.XC _ _ _ (by decide)) .nil))) (.cons _ _ _ _ .s .nil)) rfl) h hsc (hr := by rintro rfl; exact ⟨rfl, YZ (by simp [d5O])⟩)
  ·refine rn ?_
   obtain ⟨fx, h⟩ := ck fx h
   have fy := (show List.replicate a0.rules.length [.int .i64 0] = rows XM (List.replicate a0.rules.length (default : Int)) from d6R (E := XM) _ default)
   obtain ⟨fx, h⟩ := ck fx h
   have fy := fa fy (show List.replicate a0.Xj.length [.int .i64 0] = rows XM (List.replicate a0.Xj.length (default : Int)) from d6R (E := XM) _ default)
   refine dwy [] 3 ?_
   obtain ⟨fx, h⟩ := ck fx h
   refine rn ?_
   refine rng (body := d7Y n a0 l0) (kk := d7Z) (n := l0.length) (s0 := ((List.replicate a0.rules.length (default : Int)), (List.replicate a0.Xj.length (default : Int))))
    (fun (gs0 : Nat × Nat) (k0 : Nat) (s0 : (List Int) × (List Int)) => [(2, .ptr st.length 0 0 0), (4, .ptr (st.length + 1) 0 0 0), (5, .ptr (st.length + 2) 0 0 0), (7, .ptr (st.length + 6) 0 0 0), (8, .ptr (st.length + 7) 0 0 0), (34, .ref true o0 q0 0 l0.length), (35, .int .i64 (↑l0.length : Int)), (36, .int .i64 (↑k0 : Int))])
    (fun (gs0 : Nat × Nat) (k0 : Nat) (s0 : (List Int) × (List Int)) => (d1a st [(o0, (.arr q0 3 40 (rows Xn.cells l0)))]) ++ [some (.arr 0 5 0 [[.sl false 2 40 (rows WT.cells a0.hierarchy.types), .sl false 3 32 (rows Xf.cells a0.hierarchy.Xw), .sl false 10 152 (rows WQ.cells a0.rules), .sl false 9 144 (rows XE.cells a0.Xj), .sl false 2 32 (rows WX.cells a0.start.nodes)]]), some (.arr 0 2 0 [[.XC, .XC]]), some (.arr 0 2 0 [[.int .i64 0, .int .i64 0]]), none, some (.arr gs0.1 1 8 (rows XM s0.1)), some (.arr gs0.2 1 8 (rows XM s0.2)), some (.arr 0 2 0 [[.ref true (st.length + 4) gs0.1 0 s0.1.length, .ref true (st.length + 5) gs0.2 0 s0.2.length]]), some (.arr 0 1 0 [[.fn 79 [] [.ptr (st.length + 6) 0 0 0, .ptr (st.length + 7) 0 0 0]]])])
    (fun (gt0 : Nat × Nat) (t0 : (List Int) × (List Int)) => [(4, .ptr (st.length + 1) 0 0 0), (5, .ptr (st.length + 2) 0 0 0), (7, .ptr (st.length + 6) 0 0 0)])
    (fun (gt0 : Nat × Nat) (t0 : (List Int) × (List Int)) => (d1a st [(o0, (.arr q0 3 40 (rows Xn.cells l0)))]) ++ [none, some (.arr 0 2 0 [[.XC, .XC]]), some (.arr 0 2 0 [[.int .i64 0, .int .i64 0]]), none, some (.arr gt0.1 1 8 (rows XM t0.1)), some (.arr gt0.2 1 8 (rows XM t0.2)), some (.arr 0 2 0 [[.ref true (st.length + 4) gt0.1 0 t0.1.length, .ref true (st.length + 5) gt0.2 0 t0.2.length]])])
    (0, 0) fx fx.2 h (bu hsc (hu := (.lv (.lv (.lv (.dead _ _ _ (.lv (.lv (.live _ _ _ _ (.arr _ _ _ _ _ (.cons _ _ _ _ (.cons _ _ _ _ (i5L (by first | (simp; done) | simp [Fr.get])) (.cons _ _ _ _ (i5L (by first | (simp; done) | simp [Fr.get])) .nil)) (.same _))) (.lv (.nil _)))))))))))
    (fun gs0 k0 s0 b0 fx h hx0 => ?_) (fun gs0 s0 => ?_) (fun gt0 t0 fr1 st1 h hb => ?_)
   ·unfold d7Y at h
    refine ct ?_
    refine r0 ?_
    refine r0 ?_
    have fy := (show (rows Xn.cells l0).getD k0 [] = Xn.cells (get l0 k0) from d7q (E := Xn.cells) (l := l0) (k := k0) (by first | omega | (simp; omega)))
    have fy := fa fy (show k0 < l0.length from by first | omega | (simp; omega))
    refine r1 ?_
    refine cl h (i0A n _ _) fun v17 h => ?_
    refine cd h (fun hc h => ?_) fun hc h => ?_
    ·refine cl h (d3M _ _) fun v18 h => ?_
     refine ra ?_
     cases h
     refine XI ?_; have h := congrArg some (hx0 _ rfl)
     refine rr ?_
     exact fuo (.tup [.agg [.sl false 1 8 (rows XM []), .sl false 1 8 (rows XM [])], .agg [.int .i64 v18.code, .int .i64 v18.index]]) (.tup _ _ (.cons _ _ _ _ (.agg _ _ (.cons _ _ _ _ (.XC _ _ _ (by decide)) (.cons _ _ _ _ (.XC _ _ _ (by decide)) .nil))) (.cons _ _ _ _ .s .nil)) rfl) h hsc (hr := by rintro rfl; exact ⟨rfl, YZ (by simp [d5O])⟩)
    ·refine rn ?_
     obtain ⟨v19, hv19, h⟩ := XT h
     refine (i3K n _ _ _ _ hv19 _ _ _ _ _ gs0.1 gs0.2 (by simp) (d0p.trans rfl) (d0p.trans rfl) (d0p.trans rfl) (d0p.trans rfl)).mono ?_
     rintro d1 st1 ⟨rfl, rfl⟩
     refine rn ?_
     cases h
     exact d4u (gs0.1, gs0.2) (bu hsc)
   ·refine cf ?_
    refine d4b ?_; simp only [go_sem, fx]
    exact ⟨(gs0.1, gs0.2), (bu hsc)⟩
   ·try simp only [go_sem, fx]
    unfold d7Z at h
    refine d0s hb ?_
    refine rr ?_
    exact fuo (.tup [.agg [.sl false 1 8 (rows XM t0.1), .sl false 1 8 (rows XM t0.2)], .agg [.int .i64 0, .int .i64 0]]) (.tup _ _ (.cons _ _ _ _ (.agg _ _ (.cons _ _ _ _ (.ref _ _ _ _ _ _ _ _ _ (i0i.trans rfl) i0k (by decide) (i3y _) (by simp only [go_sem])) (.cons _ _ _ _ (.ref _ _ _ _ _ _ _ _ _ (i0i.trans rfl) i0k (by decide) (i3y _) (by simp only [go_sem])) .nil))) (.cons _ _ _ _ .s .nil)) rfl) h hsc (hr := by rintro rfl; exact ⟨rfl, YZ (by simp [d5O])⟩)
theorem i0B (n : Nat) (a0 : Xa) (a1 : Xt) (r : WM) (h : d6g n a0 a1 = some r) : Pure Tryz.prog gl 82 [.agg [.sl false 2 40 (rows WT.cells a0.hierarchy.types), .sl false 3 32 (rows Xf.cells a0.hierarchy.Xw), .sl false 10 152 (rows WQ.cells a0.rules), .sl false 9 144 (rows XE.cells a0.Xj), .sl false 2 32 (rows WX.cells a0.start.nodes)], .agg [.sl false 1 8 (rows XM a1.rules), .sl false 1 8 (rows XM a1.Xj)]] (.agg [.int .i64 r.code, .int .i64 r.index]) := by
 intro st
 unfold d6g at h
 have fx := trivial
 refine fb 72 [.cell 4 41] [0, 1, 2, 3, 4, 5, 6, 7, 8, 9, 14, 24, 25, 26, 27, 28, 29, 30, 31, 34, 35, 36, 37, 44, 45, 46, 51, 52, 53, 54, 61, 62, 63] Tryz.func82 fun hsc => ?_
 refine cl h (d6Y n _) fun v1 h => ?_
 refine cd h (fun hc h => ?_) fun hc h => ?_
 ·exact rt
 ·refine cd h (fun hc h => ?_) fun hc h => ?_
  ·refine cl h (d3M _ _) fun v2 h => ?_
   exact rt
  ·refine aln 34 fun hl0 => ?_
   refine rng (body := d4Q a1) (kk := d4R a1) (n := a1.rules.length) (s0 := ())
    (fun (gs0 : Unit) (k0 : Nat) (s0 : Unit) => [(3, .ptr (st.length + 1) 0 0 0), (4, .ptr (st.length + 2) 0 0 0), (34, .sl false 1 8 (rows XM a1.rules)), (35, .int .i64 (↑a1.rules.length : Int)), (36, .int .i64 (↑k0 : Int))])
    (fun (gs0 : Unit) (k0 : Nat) (s0 : Unit) => st ++ [none, some (.arr 0 2 0 [[.sl false 1 8 (rows XM a1.rules), .sl false 1 8 (rows XM a1.Xj)]]), some (.arr 0 2 0 [[.int .i64 0, .int .i64 0]])])
    (fun (gt0 : Unit) (t0 : Unit) => [(3, .ptr (st.length + 1) 0 0 0), (4, .ptr (st.length + 2) 0 0 0)])
    (fun (gt0 : Unit) (t0 : Unit) => st ++ [none, some (.arr 0 2 0 [[.sl false 1 8 (rows XM a1.rules), .sl false 1 8 (rows XM a1.Xj)]]), some (.arr 0 2 0 [[.int .i64 0, .int .i64 0]])])
    () fx hl0 h (bm hsc)
    (fun gs0 k0 s0 b0 fx h hx0 => ?_) (fun gs0 s0 => ?_) (fun gt0 t0 fr1 st1 h hb => ?_)
   ·unfold d4Q at h
    refine ct ?_
    refine cd h (fun hc h => ?_) fun hc h => ?_
    ·refine cl h (d3M _ _) fun v4 h => ?_
     refine ra ?_
     cases h
     refine XI ?_; have h := congrArg some (hx0 _ rfl)
     exact rt
    ·refine rn ?_
     cases h
     exact d4u () (bm hsc)
   ·refine cf ?_
    refine d4b ?_; simp only [go_sem, fx]
    exact ⟨(), (bm hsc)⟩
   ·try simp only [go_sem, fx]
    unfold d4R at h
    refine d0s hb ?_
    refine aln 51 fun hl1 => ?_
    refine rng (body := d5Z a1) (kk := d8a) (n := a1.Xj.length) (s0 := ())
     (fun (gs1 : Unit) (k1 : Nat) (s1 : Unit) => [(3, .ptr (st.length + 1) 0 0 0), (4, .ptr (st.length + 2) 0 0 0), (51, .sl false 1 8 (rows XM a1.Xj)), (52, .int .i64 (↑a1.Xj.length : Int)), (53, .int .i64 (↑k1 : Int))])
     (fun (gs1 : Unit) (k1 : Nat) (s1 : Unit) => st ++ [none, some (.arr 0 2 0 [[.sl false 1 8 (rows XM a1.rules), .sl false 1 8 (rows XM a1.Xj)]]), some (.arr 0 2 0 [[.int .i64 0, .int .i64 0]])])
     (fun (gt1 : Unit) (t1 : Unit) => [(4, .ptr (st.length + 2) 0 0 0)])
     (fun (gt1 : Unit) (t1 : Unit) => st ++ [none, none, some (.arr 0 2 0 [[.int .i64 0, .int .i64 0]])])
     () fx hl1 h (bm hsc)
     (fun gs1 k1 s1 b1 fx h hx1 => ?_) (fun gs1 s1 => ?_) (fun gt1 t1 fr1 st1 h hb => ?_)
    ·unfold d5Z at h
     refine ct ?_
     refine cd h (fun hc h => ?_) fun hc h => ?_
     ·refine cl h (d3M _ _) fun v6 h => ?_
      refine ra ?_
      cases h
      refine XI ?_; have h := congrArg some (hx1 _ rfl)
      exact rt
     ·refine rn ?_
      cases h
      exact d4u () (bm hsc)
    ·refine cf ?_
     refine d4b ?_; simp only [go_sem, fx]
     exact ⟨(), (bm hsc)⟩
    ·try simp only [go_sem, fx]
     unfold d8a at h
     refine d0s hb ?_
     exact rt
theorem d6D (a0 : Int) (r : Int) (h : d5Y a0 = some r) : Pure Tryz.prog gl 155 [.int .i64 a0] (.int .u64 r) := by
 intro st
 unfold d5Y at h
 have fx := trivial
 refine fb 12 [.tmp 2] [0, 2, 4] Tryz.func155 fun hsc => ?_
 refine cd h (fun hc h => ?_) fun hc h => ?_
 ·exact rt
 ·exact rt
theorem d9h (n : Nat) (a0 : Int) (a1 : Int) (r : Int) (h : d8I n a0 a1 = some r) : Pure Tryz.prog gl 154 [.int .u64 a0, .int .u64 a1] (.int .u64 r) := by
 intro st
 unfold d8I at h
 have fx := trivial
 refine fb 12 [.tmp 4] [0, 1, 4, 6] Tryz.func154 fun hsc => ?_
 refine rn ?_
 refine XV (body := d9d) (kk := i1m) (n := n) (s0 := (a0, a1))
  (fun (gs0 : Unit) (s0 : Int × Int) => [(0, .int .u64 s0.1), (1, .int .u64 s0.2)])
  (fun (gs0 : Unit) (s0 : Int × Int) => st)
  (fun (gt0 : Unit) (t0 : Int) => [(0, .int .u64 t0)])
  (fun (gt0 : Unit) (t0 : Int) => st)
  () h (d4i hsc)
  (fun gs0 s0 b0 h hx0 => ?_) (fun gt0 t0 fr1 st1 h hb => ?_)
 ·unfold d9d at h
  refine cd h (fun hc h => ?_) fun hc h => ?_
  ·refine rn ?_
   obtain ⟨fx, h⟩ := ck fx h
   refine dw [] 0 ?_
   cases h
   exact Yg () (d4i hsc)
  ·refine rn ?_
   cases h
   exact Zq () (d4i hsc)
 ·try simp only [go_sem, fx]
  unfold i1m at h
  refine d0s hb ?_
  exact rt
theorem i6s (a0 : Bool) (a1 : Int) (a2 : Int) (r : WZ × WM) (h : i6m a0 a1 a2 = some r) : Pure Tryz.prog gl 161 [.bool a0, .int .u64 a1, .int .u64 a2] (.tup [.agg [.int .i64 r.1.num, .int .i64 r.1.den], .agg [.int .i64 r.2.code, .int .i64 r.2.index]]) := by
 intro st
 unfold i6m at h
 have fx := trivial
 refine fb 29 [.cell 6 71, .cell 7 41] [0, 1, 2, 6, 7, 8, 12, 13, 14, 22] Tryz.func161 fun hsc => ?_
 refine cd h (fun hc h => ?_) fun hc h => ?_
 ·exact rt
 ·refine cd h (fun hc h => ?_) fun hc h => ?_
  ·exact rt
  ·exact rt
theorem i7E (n : Nat) (a0 : Int) (a1 : Int) (r : WZ × WM) (h : i0x n a0 a1 = some r) : Pure Tryz.prog gl 146 [.int .i64 a0, .int .i64 a1] (.tup [.agg [.int .i64 r.1.num, .int .i64 r.1.den], .agg [.int .i64 r.2.code, .int .i64 r.2.index]]) := by
 intro st
 unfold i0x at h
 have fx := trivial
 refine fb 34 [.cell 4 71, .cell 5 41] [0, 1, 4, 5, 6, 7, 8, 10] Tryz.func146 fun hsc => ?_
 refine cd h (fun hc h => ?_) fun hc h => ?_
 ·exact rt
 ·refine cl h (d6D _) fun v1 h => ?_
  refine cl h (d6D _) fun v2 h => ?_
  refine cl h (d9h n _ _) fun v3 h => ?_
  refine rn ?_
  obtain ⟨fx, h⟩ := ck fx h
  obtain ⟨fx, h⟩ := ck fx h
  refine dw [] 0 ?_
  obtain ⟨v7, hv7, h⟩ := XT h
  refine Xe (i6s _ _ _ _ hv7) ?_
  try simp only [go_sem, fx]
  exact rt
theorem d8m (n : Nat) (a1 : (List Int)) (l0 : (List Int)) (l2 : (List Int)) (r : (List WZ)) (h : d3K n a1 l0 l2 = some r) : ∀ (st : St) (o0 o1 o2 q0 q2 : Nat) (hnd : [o0, o1, o2].Nodup) (d5O : Am.look st o0 = some (.arr q0 1 8 (rows XM l0))) (i0G : Am.look st o1 = some (.arr 0 1 0 [[.ref true o2 q2 0 l2.length]])) (i4t : Am.look st o2 = some (.arr q2 1 8 (rows XM l2))), Am.Spec Tryz.prog gl 145 [.ref false o0 q0 0 l0.length, .sl false 1 8 (rows XM a1), .ptr o1 0 0 0] st (fun d st' => d = .sl false 2 16 (rows WZ.cells r) ∧ st' = puts st []) := by
 intro st o0 o1 o2 q0 q2 hnd d5O i0G i4t
 unfold d3K at h
 have ho0 := d0Q d5O
 have ho1 := d0Q i0G
 have ho2 := d0Q i4t
 have fx := fa (fa (fa (idf ho0) (idf ho1)) (idf ho2)) (nd3 hnd)
 refine fb 41 [.tmp 5] [0, 1, 2, 5, 6, 7, 8, 9, 10, 11, 12, 13, 22] Tryz.func145 fun hsc => ?_
 refine d8B (s' := (d1a st [(o0, (.arr q0 1 8 (rows XM l0))), (o1, (.arr 0 1 0 [[.ref true o2 q2 0 l2.length]])), (o2, (.arr q2 1 8 (rows XM l2)))])) (YZ (by simp [d5O, i0G, i4t])) ?_
 refine r0 ?_
 refine r0 ?_
 refine r0 ?_
 (repeat apply sq_)
 refine i0h 2 16 ?_
 try simp only [List.append_assoc, List.cons_append, List.nil_append]
 refine d0s (F := [(1, .sl false 1 8 (rows XM a1)), (2, .ptr o1 0 0 0), (6, .ref false st.length 0 0 0), (10, .ref false o0 q0 0 l0.length), (11, .int .i64 (↑l0.length : Int)), (12, .int .i64 0)]) (T := (d1a st [(o0, (.arr q0 1 8 (rows XM l0))), (o1, (.arr 0 1 0 [[.ref true o2 q2 0 l2.length]])), (o2, (.arr q2 1 8 (rows XM l2)))]) ++ [some (.arr 0 2 16 (rows WZ.cells []))]) (p2X (by simp) (d9G hsc (by simp <;> omega)) (.lv (.nil _)) (by simp <;> omega) ⟨.s, .s, .nref _ _ _ _ _ _ (i4e.trans rfl), .s, .s, .s, trivial⟩ (by simp <;> omega)) ?_
 obtain ⟨fx, h⟩ := ck fx h
 (repeat apply sq_)
 refine rng (body := d4g n l0 l2 a1) (kk := d5I) (n := l0.length) (s0 := [])
  (fun (gs0 : Nat) (k0 : Nat) (s0 : (List WZ)) => [(1, .sl false 1 8 (rows XM a1)), (2, .ptr o1 0 0 0), (6, .ref false st.length gs0 0 s0.length), (10, .ref false o0 q0 0 l0.length), (11, .int .i64 (↑l0.length : Int)), (12, .int .i64 (↑k0 : Int))])
  (fun (gs0 : Nat) (k0 : Nat) (s0 : (List WZ)) => (d1a st [(o0, (.arr q0 1 8 (rows XM l0))), (o1, (.arr 0 1 0 [[.ref true o2 q2 0 l2.length]])), (o2, (.arr q2 1 8 (rows XM l2)))]) ++ [some (.arr gs0 2 16 (rows WZ.cells s0))])
  (fun (gt0 : Nat) (t0 : (List WZ)) => [(6, .ref false st.length gt0 0 t0.length)])
  (fun (gt0 : Nat) (t0 : (List WZ)) => (d1a st [(o0, (.arr q0 1 8 (rows XM l0))), (o1, (.arr 0 1 0 [[.ref true o2 q2 0 l2.length]])), (o2, (.arr q2 1 8 (rows XM l2)))]) ++ [some (.arr gt0 2 16 (rows WZ.cells t0))])
  0 fx fx.2 h (bu hsc)
  (fun gs0 k0 s0 b0 fx h hx0 => ?_) (fun gs0 s0 => ?_) (fun gt0 t0 fr1 st1 h hb => ?_)
 ·unfold d4g at h
  refine ct ?_
  refine r0 ?_
  refine r0 ?_
  have fy := (show (rows XM l0).getD k0 [] = XM (get l0 k0) from d7q (E := XM) (l := l0) (k := k0) (by first | omega | (simp; omega)))
  have fy := fa fy (show k0 < l0.length from by first | omega | (simp; omega))
  refine r1 ?_
  refine r0 ?_
  obtain ⟨fx, h⟩ := ck fx h
  have fy := (show (rows XM l2).getD ((get l0 k0).toNat) [] = XM (get l2 ((get l0 k0).toNat)) from d7q (E := XM) (l := l2) (k := (get l0 k0).toNat) (by first | omega | (simp; omega)))
  have fy := fa fy (show (get l0 k0).toNat < l2.length from by first | omega | (simp; omega))
  refine r1 ?_
  refine cd h (fun hc h => ?_) fun hc h => ?_
  ·refine rs ?_
   obtain ⟨fx, h⟩ := ck fx h
   have fy := (show (rows XM l2).getD ((get l0 k0).toNat) [] = XM (get l2 ((get l0 k0).toNat)) from d7q (E := XM) (l := l2) (k := (get l0 k0).toNat) (by first | omega | (simp; omega)))
   have fy := fa fy (show (get l0 k0).toNat < l2.length from by first | omega | (simp; omega))
   refine dwy [] 0 ?_
   obtain ⟨v33, hv33, h⟩ := XT h
   refine Xe (i7E n _ _ _ hv33) ?_
   try simp only [go_sem, fx, fy]
   obtain ⟨c35, p9L, h⟩ := d9t h
   have fy := (show rows WZ.cells s0 ++ [[.int .i64 v33.1.num, .int .i64 v33.1.den]] = rows WZ.cells c35 from by rw [p9L]; first | exact d4c (E := WZ.cells) s0 [v33.1] | simp only [go_sem, rows, List.map_append, List.map_cons, List.map_nil])
   have fy := fa fy (show s0.length + 1 = c35.length from by rw [p9L]; simp)
   obtain ⟨fx, h⟩ := ck fx h
   refine r1 ?_
   refine rn ?_
   cases h
   exact d4u (gs0 + 1) (bu hsc)
  ·refine r0 ?_
   obtain ⟨c41, p9M, h⟩ := d9t h
   have fy := (show rows WZ.cells s0 ++ [[.int .i64 0, .int .i64 1]] = rows WZ.cells c41 from by rw [p9M]; first | exact d4c (E := WZ.cells) s0 [(WZ.mk 0 1)] | simp only [go_sem, rows, List.map_append, List.map_cons, List.map_nil])
   have fy := fa fy (show s0.length + 1 = c41.length from by rw [p9M]; simp)
   obtain ⟨fx, h⟩ := ck fx h
   refine r1 ?_
   refine rn ?_
   cases h
   exact d4u (gs0 + 1) (bu hsc)
 ·refine cf ?_
  refine d4b ?_; simp only [go_sem, fx]
  exact ⟨gs0, (bu hsc)⟩
 ·try simp only [go_sem, fx]
  unfold d5I at h
  refine d0s hb ?_
  refine rr ?_
  exact fuo (.sl false 2 16 (rows WZ.cells t0)) (.ref _ _ _ _ _ _ _ _ _ (i4e.trans rfl) i8V (by decide) (i3y _) (by simp only [go_sem])) h hsc (hr := by rintro rfl; exact ⟨rfl, YZ (by simp [d5O, i0G, i4t])⟩)
theorem d8J (n : Nat) (a0 : Xa) (a1 : Xt) (r : (List WZ) × (List WZ)) (h : d4w n a0 a1 = some r) : Pure Tryz.prog gl 83 [.agg [.sl false 2 40 (rows WT.cells a0.hierarchy.types), .sl false 3 32 (rows Xf.cells a0.hierarchy.Xw), .sl false 10 152 (rows WQ.cells a0.rules), .sl false 9 144 (rows XE.cells a0.Xj), .sl false 2 32 (rows WX.cells a0.start.nodes)], .agg [.sl false 1 8 (rows XM a1.rules), .sl false 1 8 (rows XM a1.Xj)]] (.tup [.sl false 2 16 (rows WZ.cells r.1), .sl false 2 16 (rows WZ.cells r.2)]) := by
 intro st
 unfold d4w at h
 have fx := trivial
 refine fb 95 [.tmp 4, .tmp 5] [0, 1, 2, 3, 4, 5, 6, 7, 8, 9, 10, 11, 12, 13, 14, 15, 22, 23, 24, 25, 55, 56, 57, 58] Tryz.func83 fun hsc => ?_
 refine r0 ?_
 obtain ⟨fx, h⟩ := ck fx h
 have fy := (show List.replicate a0.hierarchy.types.length [.int .i64 0] = rows XM (List.replicate a0.hierarchy.types.length (default : Int)) from d6R (E := XM) _ default)
 refine r1 ?_
 refine r0 ?_
 refine r0 ?_
 (repeat apply sq_)
 refine i0h 1 8 ?_
 try simp only [List.append_assoc, List.cons_append, List.nil_append]
 refine d0s (F := [(2, .ptr st.length 0 0 0), (3, .ptr (st.length + 1) 0 0 0), (6, .ptr (st.length + 3) 0 0 0), (7, .ref false (st.length + 4) 0 0 0), (8, .XC), (22, .sl false 10 152 (rows WQ.cells a0.rules)), (23, .int .i64 (↑a0.rules.length : Int)), (24, .int .i64 0)]) (T := st ++ [some (.arr 0 5 0 [[.sl false 2 40 (rows WT.cells a0.hierarchy.types), .sl false 3 32 (rows Xf.cells a0.hierarchy.Xw), .sl false 10 152 (rows WQ.cells a0.rules), .sl false 9 144 (rows XE.cells a0.Xj), .sl false 2 32 (rows WX.cells a0.start.nodes)]]), some (.arr 0 2 0 [[.sl false 1 8 (rows XM a1.rules), .sl false 1 8 (rows XM a1.Xj)]]), some (.arr 0 1 8 (rows XM (List.replicate a0.hierarchy.types.length (default : Int)))), some (.arr 0 1 0 [[.ref true (st.length + 2) 0 0 a0.hierarchy.types.length]]), some (.arr 0 1 8 (rows XM []))]) (i7f hsc (.lv (.lv (.lv (.lv (.lv (.nil _)))))) (by simp) ⟨.s, .s, .s, .nref _ _ _ _ _ _ (i0F.trans rfl), .s, .s, .s, .s, trivial⟩ (by simp)) ?_
 refine aln 22 fun hl0 => ?_
 refine rng (body := d4M n a0 a1) (kk := d4N n a0 a1) (n := a0.rules.length) (s0 := ((List.replicate a0.hierarchy.types.length (default : Int)), []))
  (fun (gs0 : Nat × Nat) (k0 : Nat) (s0 : (List Int) × (List Int)) => [(2, .ptr st.length 0 0 0), (3, .ptr (st.length + 1) 0 0 0), (6, .ptr (st.length + 3) 0 0 0), (7, .ref false (st.length + 4) gs0.2 0 s0.2.length), (8, .XC), (22, .sl false 10 152 (rows WQ.cells a0.rules)), (23, .int .i64 (↑a0.rules.length : Int)), (24, .int .i64 (↑k0 : Int))])
  (fun (gs0 : Nat × Nat) (k0 : Nat) (s0 : (List Int) × (List Int)) => st ++ [some (.arr 0 5 0 [[.sl false 2 40 (rows WT.cells a0.hierarchy.types), .sl false 3 32 (rows Xf.cells a0.hierarchy.Xw), .sl false 10 152 (rows WQ.cells a0.rules), .sl false 9 144 (rows XE.cells a0.Xj), .sl false 2 32 (rows WX.cells a0.start.nodes)]]), some (.arr 0 2 0 [[.sl false 1 8 (rows XM a1.rules), .sl false 1 8 (rows XM a1.Xj)]]), some (.arr gs0.1 1 8 (rows XM s0.1)), some (.arr 0 1 0 [[.ref true (st.length + 2) gs0.1 0 s0.1.length]]), some (.arr gs0.2 1 8 (rows XM s0.2))])
  (fun (gt0 : Nat × Nat) (t0 : (List Int) × (List Int)) => [(2, .ptr st.length 0 0 0), (3, .ptr (st.length + 1) 0 0 0), (6, .ptr (st.length + 3) 0 0 0), (7, .ref false (st.length + 4) gt0.2 0 t0.2.length), (8, .XC)])
  (fun (gt0 : Nat × Nat) (t0 : (List Int) × (List Int)) => st ++ [some (.arr 0 5 0 [[.sl false 2 40 (rows WT.cells a0.hierarchy.types), .sl false 3 32 (rows Xf.cells a0.hierarchy.Xw), .sl false 10 152 (rows WQ.cells a0.rules), .sl false 9 144 (rows XE.cells a0.Xj), .sl false 2 32 (rows WX.cells a0.start.nodes)]]), some (.arr 0 2 0 [[.sl false 1 8 (rows XM a1.rules), .sl false 1 8 (rows XM a1.Xj)]]), some (.arr gt0.1 1 8 (rows XM t0.1)), some (.arr 0 1 0 [[.ref true (st.length + 2) gt0.1 0 t0.1.length]]), some (.arr gt0.2 1 8 (rows XM t0.2))])
  (0, 0) fx hl0 h (bm hsc (hu := (.lv (.lv (.lv (.live _ _ _ _ (.arr _ _ _ _ _ (.cons _ _ _ _ (.cons _ _ _ _ (i5L (by first | (simp; done) | simp [Fr.get])) .nil) (.same _))) (.lv (.nil _))))))))
  (fun gs0 k0 s0 b0 fx h hx0 => ?_) (fun gs0 s0 => ?_) (fun gt0 t0 fr1 st1 h hb => ?_)
 ·unfold d4M at h
  refine ct ?_
  refine rn ?_
  refine dw [] 0 ?_
  obtain ⟨v23, hv23, h⟩ := XT h
  refine Xe (d9x n _ _ _ _ hv23) ?_
  obtain ⟨fx, h⟩ := ck fx h
  try simp only [go_sem, fx]
  obtain ⟨c27, p9N, h⟩ := d9t h
  have fy := (show rows XM s0.2 ++ [[.int .i64 ((get ((get a0.rules k0).graph.nodes) v23.toNat).type)]] = rows XM c27 from by rw [p9N]; first | exact d4c (E := XM) s0.2 [(get ((get a0.rules k0).graph.nodes) v23.toNat).type] | simp only [go_sem, rows, List.map_append, List.map_cons, List.map_nil])
  have fy := fa fy (show s0.2.length + 1 = c27.length from by rw [p9N]; simp)
  obtain ⟨fx, h⟩ := ck fx h
  refine r1 ?_
  refine rs ?_
  obtain ⟨fx, h⟩ := ck fx h
  have fy := (show (rows XM s0.1).getD (((get ((get a0.rules k0).graph.nodes) v23.toNat).type).toNat) [] = XM (get s0.1 (((get ((get a0.rules k0).graph.nodes) v23.toNat).type).toNat)) from d7q (E := XM) (l := s0.1) (k := ((get ((get a0.rules k0).graph.nodes) v23.toNat).type).toNat) (by first | omega | (simp; omega)))
  have fy := fa fy (show ((get ((get a0.rules k0).graph.nodes) v23.toNat).type).toNat < s0.1.length from by first | omega | (simp; omega))
  obtain ⟨fx, h⟩ := ck fx h
  have fy := fa fy (show (rows XM s0.1).getD (((get ((get a0.rules k0).graph.nodes) v23.toNat).type).toNat) [] = XM (get s0.1 (((get ((get a0.rules k0).graph.nodes) v23.toNat).type).toNat)) from d7q (E := XM) (l := s0.1) (k := ((get ((get a0.rules k0).graph.nodes) v23.toNat).type).toNat) (by first | omega | (simp; omega)))
  have fy := fa fy (show ((get ((get a0.rules k0).graph.nodes) v23.toNat).type).toNat < s0.1.length from by first | omega | (simp; omega))
  obtain ⟨c39, p9O, h⟩ := d9t h
  have fy := fa fy (show (rows XM s0.1).set (((get ((get a0.rules k0).graph.nodes) v23.toNat).type).toNat) [.int .i64 (wr .i64 ((get s0.1 (((get ((get a0.rules k0).graph.nodes) v23.toNat).type).toNat)) + (get a1.rules k0)))] = rows XM c39 from by rw [p9O]; first | exact i5K (E := XM) _ _ _ | simp only [go_sem, rows, List.map_set])
  refine dwy [] 0 ?_
  have e41 : D.ref true (st.length + 2) gs0.1 0 s0.1.length = D.ref true (st.length + 2) gs0.1 0 c39.length := by simp [p9O]
  simp only [e41]
  refine rn ?_
  cases h
  exact d4u (gs0.1, (gs0.2 + 1)) (bm hsc)
 ·refine cf ?_
  refine d4b ?_; simp only [go_sem, fx]
  exact ⟨(gs0.1, gs0.2), (bm hsc)⟩
 ·try simp only [go_sem, fx]
  unfold d4N at h
  refine d0s hb ?_
  refine r0 ?_
  (repeat apply sq_)
  refine i0h 1 8 ?_
  try simp only [List.append_assoc, List.cons_append, List.nil_append]
  refine d0s (F := [(3, .ptr (st.length + 1) 0 0 0), (6, .ptr (st.length + 3) 0 0 0), (7, .ref false (st.length + 4) gt0.2 0 t0.2.length), (8, .ref false (st.length + 5) 0 0 0), (55, .sl false 9 144 (rows XE.cells a0.Xj)), (56, .int .i64 (↑a0.Xj.length : Int)), (57, .int .i64 0)]) (T := st ++ [some (.arr 0 5 0 [[.sl false 2 40 (rows WT.cells a0.hierarchy.types), .sl false 3 32 (rows Xf.cells a0.hierarchy.Xw), .sl false 10 152 (rows WQ.cells a0.rules), .sl false 9 144 (rows XE.cells a0.Xj), .sl false 2 32 (rows WX.cells a0.start.nodes)]]), some (.arr 0 2 0 [[.sl false 1 8 (rows XM a1.rules), .sl false 1 8 (rows XM a1.Xj)]]), some (.arr gt0.1 1 8 (rows XM t0.1)), some (.arr 0 1 0 [[.ref true (st.length + 2) gt0.1 0 t0.1.length]]), some (.arr gt0.2 1 8 (rows XM t0.2)), some (.arr 0 1 8 (rows XM []))]) (i7f hsc (.lv (.lv (.lv (.lv (.lv (.lv (.nil _))))))) (by simp) ⟨.s, .s, .s, .nref _ _ _ _ _ _ (i0F.trans rfl), .s, .s, .s, trivial⟩ (by simp)) ?_
  refine aln 55 fun hl1 => ?_
  refine rng (body := d4O a0 a1) (kk := d4P n a1 t0) (n := a0.Xj.length) (s0 := (t0.1, []))
   (fun (gs1 : Nat × Nat) (k1 : Nat) (s1 : (List Int) × (List Int)) => [(3, .ptr (st.length + 1) 0 0 0), (6, .ptr (st.length + 3) 0 0 0), (7, .ref false (st.length + 4) gt0.2 0 t0.2.length), (8, .ref false (st.length + 5) gs1.2 0 s1.2.length), (55, .sl false 9 144 (rows XE.cells a0.Xj)), (56, .int .i64 (↑a0.Xj.length : Int)), (57, .int .i64 (↑k1 : Int))])
   (fun (gs1 : Nat × Nat) (k1 : Nat) (s1 : (List Int) × (List Int)) => st ++ [none, some (.arr 0 2 0 [[.sl false 1 8 (rows XM a1.rules), .sl false 1 8 (rows XM a1.Xj)]]), some (.arr gs1.1 1 8 (rows XM s1.1)), some (.arr 0 1 0 [[.ref true (st.length + 2) gs1.1 0 s1.1.length]]), some (.arr gt0.2 1 8 (rows XM t0.2)), some (.arr gs1.2 1 8 (rows XM s1.2))])
   (fun (gt1 : Nat × Nat) (t1 : (List Int) × (List Int)) => [(3, .ptr (st.length + 1) 0 0 0), (6, .ptr (st.length + 3) 0 0 0), (7, .ref false (st.length + 4) gt0.2 0 t0.2.length), (8, .ref false (st.length + 5) gt1.2 0 t1.2.length)])
   (fun (gt1 : Nat × Nat) (t1 : (List Int) × (List Int)) => st ++ [none, some (.arr 0 2 0 [[.sl false 1 8 (rows XM a1.rules), .sl false 1 8 (rows XM a1.Xj)]]), some (.arr gt1.1 1 8 (rows XM t1.1)), some (.arr 0 1 0 [[.ref true (st.length + 2) gt1.1 0 t1.1.length]]), some (.arr gt0.2 1 8 (rows XM t0.2)), some (.arr gt1.2 1 8 (rows XM t1.2))])
   (gt0.1, 0) fx hl1 h (bm hsc)
   (fun gs1 k1 s1 b1 fx h hx1 => ?_) (fun gs1 s1 => ?_) (fun gt1 t1 fr1 st1 h hb => ?_)
  ·unfold d4O at h
   refine ct ?_
   obtain ⟨fx, h⟩ := ck fx h
   refine r0 ?_
   refine r0 ?_
   refine r0 ?_
   refine r0 ?_
   obtain ⟨c61, p9P, h⟩ := d9t h
   have fy := (show rows XM s1.2 ++ [[.int .i64 ((get ((get a0.Xj k1).graph.nodes) 0).type)]] = rows XM c61 from by rw [p9P]; first | exact d4c (E := XM) s1.2 [(get ((get a0.Xj k1).graph.nodes) 0).type] | simp only [go_sem, rows, List.map_append, List.map_cons, List.map_nil])
   have fy := fa fy (show s1.2.length + 1 = c61.length from by rw [p9P]; simp)
   obtain ⟨fx, h⟩ := ck fx h
   refine r1 ?_
   refine rs ?_
   obtain ⟨fx, h⟩ := ck fx h
   have fy := (show (rows XM s1.1).getD (((get ((get a0.Xj k1).graph.nodes) 0).type).toNat) [] = XM (get s1.1 (((get ((get a0.Xj k1).graph.nodes) 0).type).toNat)) from d7q (E := XM) (l := s1.1) (k := ((get ((get a0.Xj k1).graph.nodes) 0).type).toNat) (by first | omega | (simp; omega)))
   have fy := fa fy (show ((get ((get a0.Xj k1).graph.nodes) 0).type).toNat < s1.1.length from by first | omega | (simp; omega))
   obtain ⟨fx, h⟩ := ck fx h
   have fy := fa fy (show (rows XM s1.1).getD (((get ((get a0.Xj k1).graph.nodes) 0).type).toNat) [] = XM (get s1.1 (((get ((get a0.Xj k1).graph.nodes) 0).type).toNat)) from d7q (E := XM) (l := s1.1) (k := ((get ((get a0.Xj k1).graph.nodes) 0).type).toNat) (by first | omega | (simp; omega)))
   have fy := fa fy (show ((get ((get a0.Xj k1).graph.nodes) 0).type).toNat < s1.1.length from by first | omega | (simp; omega))
   obtain ⟨c73, p9Q, h⟩ := d9t h
   have fy := fa fy (show (rows XM s1.1).set (((get ((get a0.Xj k1).graph.nodes) 0).type).toNat) [.int .i64 (wr .i64 ((get s1.1 (((get ((get a0.Xj k1).graph.nodes) 0).type).toNat)) + (get a1.Xj k1)))] = rows XM c73 from by rw [p9Q]; first | exact i5K (E := XM) _ _ _ | simp only [go_sem, rows, List.map_set])
   refine dwy [] 0 ?_
   have e75 : D.ref true (st.length + 2) gs1.1 0 s1.1.length = D.ref true (st.length + 2) gs1.1 0 c73.length := by simp [p9Q]
   simp only [e75]
   refine rn ?_
   cases h
   exact d4u (gs1.1, (gs1.2 + 1)) (bm hsc)
  ·refine cf ?_
   refine d4b ?_; simp only [go_sem, fx]
   exact ⟨(gs1.1, gs1.2), (bm hsc)⟩
  ·try simp only [go_sem, fx]
   unfold d4P at h
   refine d0s hb ?_
   refine rn ?_
   refine dw [4, 8, 9] 0 ?_
   obtain ⟨v76, hv76, h⟩ := XT h
   refine i1x [(st.length + 4), (st.length + 3), (st.length + 2)] (fun st2 h2 => (d8m n _ _ _ _ hv76 st2 _ _ _ gt0.2 gt1.1 (by simp) ((h2 _ (by simp)).trans (d1e.trans rfl)) ((h2 _ (by simp)).trans (d1e.trans rfl)) ((h2 _ (by simp)).trans (d1e.trans rfl)))) (by simp) (by simp only [List.mem_cons, List.not_mem_nil, or_false, forall_eq_or_imp, forall_eq]; exact ⟨⟨by first | omega | (simp <;> omega), _, (d1e.trans rfl), Ob.noConfusion⟩, ⟨by first | omega | (simp <;> omega), _, (d1e.trans rfl), Ob.noConfusion⟩, ⟨by first | omega | (simp <;> omega), _, (d1e.trans rfl), Ob.noConfusion⟩⟩) (by simp) ?_
   try simp only [go_sem, fx]
   obtain ⟨v77, hv77, h⟩ := XT h
   refine i1x [(st.length + 5), (st.length + 3), (st.length + 2)] (fun st2 h2 => (d8m n _ _ _ _ hv77 st2 _ _ _ gt1.2 gt1.1 (by simp) ((h2 _ (by simp)).trans (d1e.trans rfl)) ((h2 _ (by simp)).trans (d1e.trans rfl)) ((h2 _ (by simp)).trans (d1e.trans rfl)))) (by simp) (by simp only [List.mem_cons, List.not_mem_nil, or_false, forall_eq_or_imp, forall_eq]; exact ⟨⟨by first | omega | (simp <;> omega), _, (d1e.trans rfl), Ob.noConfusion⟩, ⟨by first | omega | (simp <;> omega), _, (d1e.trans rfl), Ob.noConfusion⟩, ⟨by first | omega | (simp <;> omega), _, (d1e.trans rfl), Ob.noConfusion⟩⟩) (by simp) ?_
   try simp only [go_sem, fx]
   try refine ⟨by (simp <;> omega), ?_⟩
   exact rt
end Go.Proofs.YtgaeiccgdpnkkaaGreatDoor
