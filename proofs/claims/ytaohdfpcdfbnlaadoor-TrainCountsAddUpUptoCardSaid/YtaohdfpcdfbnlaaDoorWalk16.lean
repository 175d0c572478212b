/-
  Each Go function of this part does what its plain Lean function says.
-/
import Derived.Test.YtaohdfpcdfbnlaaDoorBase
import Derived.Test.YtaohdfpcdfbnlaaDoorHand
import Derived.Test.YtaohdfpcdfbnlaaDoorMirrors
import Derived.Test.YtaohdfpcdfbnlaaDoorWalk15
set_option linter.unusedVariables false
set_option linter.unusedSimpArgs false
namespace Go.Proofs.YtaohdfpcdfbnlaaDoor
open Go Go.Am

set_option maxHeartbeats 2000000 in
set_option maxRecDepth 100000 in
theorem ok_glosswrightlaw8TrainCountsAddUp (n : Nat) (a0 : ApiGrammar) (a1 : (List ApiTree)) (a2 : (List ApiTree)) (r : Bool) (h : glosswrightlaw8TrainCountsAddUp n a0 a1 a2 = some r) : Pure Tryd.prog gl 3 [.agg [.sl false 2 40 (rows ApiType.cells a0.hierarchy.types), .sl false 3 32 (rows ApiFeat.cells a0.hierarchy.feats), .sl false 10 152 (rows ApiRule.cells a0.rules), .sl false 9 144 (rows ApiLex.cells a0.lexes), .sl false 2 32 (rows ApiNode.cells a0.start.nodes)], .sl false 3 40 (rows ApiTree.cells a1), .sl false 3 40 (rows ApiTree.cells a2)] (.bool r) := by
  intro st
  unfold glosswrightlaw8TrainCountsAddUp at h
  refine spec_gl0 ?_; refine spec_fb (N := 160) (rs := [.tmp 6]) (keep := [0, 1, 2, 3, 6, 7, 8, 9, 10, 11, 12, 13, 14, 15, 16, 17, 19, 24, 37, 69, 70, 71, 74, 75, 76, 77, 86, 87, 88, 89, 90, 91, 92, 95, 96, 97, 98, 99, 100, 101, 104, 105, 106, 107, 108, 109, 110, 111, 116, 135, 140, 159]) Tryd.func3 rfl rfl rfl (by kernel_rfl) rfl fun hsc => ?_
  (repeat refine awp_seq ?_); refine ev_region ?_; simp only [go_sem]
  (repeat refine awp_seq ?_); refine ev_region ?_; simp only [go_sem]
  obtain ⟨v1, hv1, h⟩ := bind_some h
  refine (pure_gl1 (ok_glosswrightlaw8TrainReady n _ hv1)).to ?_
  try simp only [go_sem]
  (repeat refine awp_seq ?_); refine awp_cond (by rfl) (fun hc => ?_) fun hc => ?_
  · replace h := cond_t h (by first | exact hc | simpa using hc)
    (repeat refine awp_seq ?_); refine ev_region ?_; simp only [go_sem]
    (repeat refine awp_seq ?_); refine awp_ret ?_
    try simp only [go_sem]
    have hr := Option.some.inj h
    refine finb_of ?_; simp only [go_sem]
    exact fin_old' (d' := .bool false) hsc (.same _) (by simp) ⟨by subst hr; rfl, rfl⟩
  · replace h := cond_f h (by first | exact hc | simpa using hc)
    refine awp_skip ?_; try simp only [go_sem]
    (repeat refine awp_seq ?_); refine ev_region ?_; simp only [go_sem]
    (repeat refine awp_seq ?_); refine ev_region ?_; simp only [go_sem]
    (repeat refine awp_seq ?_); refine awp_while (body := glosswrightlaw8TrainCountsAddUp_b0 a1) (kk := glosswrightlaw8TrainCountsAddUp_a0 n a2 a0 a1) (n := n) (s0 := ([], 0))
      (fun (gs0 : Nat) (s0 : (List ApiTree) × Int) => [(1, .sl false 3 40 (rows ApiTree.cells a1)), (2, .sl false 3 40 (rows ApiTree.cells a2)), (3, .ptr st.length 0 0 0), (7, .ref false (st.length + 1) gs0 0 s0.1.length), (8, .int .i64 s0.2)])
      (fun (gs0 : Nat) (s0 : (List ApiTree) × Int) => st ++ [some (.arr 0 5 0 [[.sl false 2 40 (rows ApiType.cells a0.hierarchy.types), .sl false 3 32 (rows ApiFeat.cells a0.hierarchy.feats), .sl false 10 152 (rows ApiRule.cells a0.rules), .sl false 9 144 (rows ApiLex.cells a0.lexes), .sl false 2 32 (rows ApiNode.cells a0.start.nodes)]]), some (.arr gs0 3 40 (rows ApiTree.cells s0.1))])
      (fun (gt0 : Nat) (t0 : (List ApiTree)) => [(1, .sl false 3 40 (rows ApiTree.cells a1)), (2, .sl false 3 40 (rows ApiTree.cells a2)), (3, .ptr st.length 0 0 0), (7, .ref false (st.length + 1) gt0 0 t0.length)])
      (fun (gt0 : Nat) (t0 : (List ApiTree)) => st ++ [some (.arr 0 5 0 [[.sl false 2 40 (rows ApiType.cells a0.hierarchy.types), .sl false 3 32 (rows ApiFeat.cells a0.hierarchy.feats), .sl false 10 152 (rows ApiRule.cells a0.rules), .sl false 9 144 (rows ApiLex.cells a0.lexes), .sl false 2 32 (rows ApiNode.cells a0.start.nodes)]]), some (.arr gt0 3 40 (rows ApiTree.cells t0))])
      0 h (bks_mk hsc (.live _ _ _ _ (.same _) (.live _ _ _ _ (.same _) (.nil _))) (by simp) ⟨.same _, .same _, .same _, .rfull _ _ _ _, .same _, trivial⟩ (by simp))
      (fun gs0 s0 b0 h hx0 => ?_) (fun gt0 t0 fr1 st1 h hb => ?_)
    · unfold glosswrightlaw8TrainCountsAddUp_b0 at h
      (repeat refine awp_seq ?_); refine ev_region ?_; simp only [go_sem]
      (repeat refine awp_seq ?_); refine awp_cond (by rfl) (fun hc => ?_) fun hc => ?_
      · replace h := cond_t h (by first | exact hc | simpa using hc)
        refine awp_skip ?_; try simp only [go_sem]
        (repeat refine awp_seq ?_); refine awp_block ?_
        obtain ⟨⟨f17, f18⟩, h⟩ := chk_some h
        have e19 : (40 ≤ top) = True := by simp [top]
        obtain ⟨c20, hc20, h⟩ := let_some h
        have e21 : rows ApiTree.cells s0.1 ++ [[.int .i64 ((get a1 s0.2.toNat).rule), .int .i64 ((get a1 s0.2.toNat).lex), .sl false 3 40 (rows ApiTree.cells ((get a1 s0.2.toNat).kids))]] = rows ApiTree.cells c20 := by rw [hc20]; first | exact rows_app (E := ApiTree.cells) s0.1 [(get a1 s0.2.toNat)] | simp only [go_sem, rows, List.map_append, List.map_cons, List.map_nil]
        have e22 : s0.1.length + 1 = c20.length := by rw [hc20]; simp
        obtain ⟨⟨f23, f24⟩, h⟩ := chk_some h
        (repeat refine awp_seq ?_); refine ev_region ?_; simp only [go_sem, f17, f18, f23, f24, e19, e21, e22]
        (repeat refine awp_seq ?_); refine ev_region ?_; simp only [go_sem, f17, f18, f23, f24]
        cases h
        exact pbw_nxt (gs0 + 1) (bks_mk hsc (.live _ _ _ _ (.same _) (.live _ _ _ _ (.same _) (.nil _))) (by simp) ⟨.same _, .same _, .same _, .same _, .same _, trivial⟩ (by simp))
      · replace h := cond_f h (by first | exact hc | simpa using hc)
        (repeat refine awp_seq ?_); refine awp_exit ?_; try simp only [go_sem]
        cases h
        exact pbw_brk gs0 (bks_mk hsc (.live _ _ _ _ (.same _) (.live _ _ _ _ (.same _) (.nil _))) (by simp) ⟨.same _, .same _, .same _, .same _, trivial⟩ (by simp))
    · try simp only [go_sem]
      unfold glosswrightlaw8TrainCountsAddUp_a0 at h
      refine awp_bks hb ?_
      (repeat refine awp_seq ?_); refine ev_region ?_; simp only [go_sem]
      (repeat refine awp_seq ?_); refine awp_while (body := glosswrightlaw8TrainCountsAddUp_b1 a2) (kk := glosswrightlaw8TrainCountsAddUp_a1 n a0 a1 a2) (n := n) (s0 := (t0, 0))
        (fun (gs1 : Nat) (s1 : (List ApiTree) × Int) => [(1, .sl false 3 40 (rows ApiTree.cells a1)), (2, .sl false 3 40 (rows ApiTree.cells a2)), (3, .ptr st.length 0 0 0), (7, .ref false (st.length + 1) gs1 0 s1.1.length), (9, .int .i64 s1.2)])
        (fun (gs1 : Nat) (s1 : (List ApiTree) × Int) => st ++ [some (.arr 0 5 0 [[.sl false 2 40 (rows ApiType.cells a0.hierarchy.types), .sl false 3 32 (rows ApiFeat.cells a0.hierarchy.feats), .sl false 10 152 (rows ApiRule.cells a0.rules), .sl false 9 144 (rows ApiLex.cells a0.lexes), .sl false 2 32 (rows ApiNode.cells a0.start.nodes)]]), some (.arr gs1 3 40 (rows ApiTree.cells s1.1))])
        (fun (gt1 : Nat) (t1 : (List ApiTree)) => [(1, .sl false 3 40 (rows ApiTree.cells a1)), (2, .sl false 3 40 (rows ApiTree.cells a2)), (3, .ptr st.length 0 0 0), (7, .ref false (st.length + 1) gt1 0 t1.length)])
        (fun (gt1 : Nat) (t1 : (List ApiTree)) => st ++ [some (.arr 0 5 0 [[.sl false 2 40 (rows ApiType.cells a0.hierarchy.types), .sl false 3 32 (rows ApiFeat.cells a0.hierarchy.feats), .sl false 10 152 (rows ApiRule.cells a0.rules), .sl false 9 144 (rows ApiLex.cells a0.lexes), .sl false 2 32 (rows ApiNode.cells a0.start.nodes)]]), some (.arr gt1 3 40 (rows ApiTree.cells t1))])
        gt0 h (bks_mk hsc (.live _ _ _ _ (.same _) (.live _ _ _ _ (.same _) (.nil _))) (by simp) ⟨.same _, .same _, .same _, .same _, .same _, trivial⟩ (by simp))
        (fun gs1 s1 b1 h hx1 => ?_) (fun gt1 t1 fr1 st1 h hb => ?_)
      · unfold glosswrightlaw8TrainCountsAddUp_b1 at h
        (repeat refine awp_seq ?_); refine ev_region ?_; simp only [go_sem]
        (repeat refine awp_seq ?_); refine awp_cond (by rfl) (fun hc => ?_) fun hc => ?_
        · replace h := cond_t h (by first | exact hc | simpa using hc)
          refine awp_skip ?_; try simp only [go_sem]
          (repeat refine awp_seq ?_); refine awp_block ?_
          obtain ⟨⟨f32, f33⟩, h⟩ := chk_some h
          have e34 : (40 ≤ top) = True := by simp [top]
          obtain ⟨c35, hc35, h⟩ := let_some h
          have e36 : rows ApiTree.cells s1.1 ++ [[.int .i64 ((get a2 s1.2.toNat).rule), .int .i64 ((get a2 s1.2.toNat).lex), .sl false 3 40 (rows ApiTree.cells ((get a2 s1.2.toNat).kids))]] = rows ApiTree.cells c35 := by rw [hc35]; first | exact rows_app (E := ApiTree.cells) s1.1 [(get a2 s1.2.toNat)] | simp only [go_sem, rows, List.map_append, List.map_cons, List.map_nil]
          have e37 : s1.1.length + 1 = c35.length := by rw [hc35]; simp
          obtain ⟨⟨f38, f39⟩, h⟩ := chk_some h
          (repeat refine awp_seq ?_); refine ev_region ?_; simp only [go_sem, f32, f33, f38, f39, e34, e36, e37]
          (repeat refine awp_seq ?_); refine ev_region ?_; simp only [go_sem, f32, f33, f38, f39]
          cases h
          exact pbw_nxt (gs1 + 1) (bks_mk hsc (.live _ _ _ _ (.same _) (.live _ _ _ _ (.same _) (.nil _))) (by simp) ⟨.same _, .same _, .same _, .same _, .same _, trivial⟩ (by simp))
        · replace h := cond_f h (by first | exact hc | simpa using hc)
          (repeat refine awp_seq ?_); refine awp_exit ?_; try simp only [go_sem]
          cases h
          exact pbw_brk gs1 (bks_mk hsc (.live _ _ _ _ (.same _) (.live _ _ _ _ (.same _) (.nil _))) (by simp) ⟨.same _, .same _, .same _, .same _, trivial⟩ (by simp))
      · try simp only [go_sem]
        unfold glosswrightlaw8TrainCountsAddUp_a1 at h
        refine awp_bks hb ?_
        (repeat refine awp_seq ?_); refine ev_region ?_; simp only [go_sem]
        obtain ⟨v40, hv40, h⟩ := bind_some h
        refine (pure_gl1 (ok_trainCount_2 n _ _ _ hv40)).to ?_
        try simp only [go_sem]
        (repeat refine awp_seq ?_); refine ev_region ?_; simp only [go_sem]
        obtain ⟨v41, hv41, h⟩ := bind_some h
        refine (pure_gl1 (ok_trainCount_2 n _ _ _ hv41)).to ?_
        try simp only [go_sem]
        (repeat refine awp_seq ?_); refine ev_region ?_; simp only [go_sem]
        obtain ⟨v42, hv42, h⟩ := bind_some h
        refine (spec_gl1 (ok_trainCount_3 n _ _ _ hv42 _ _ gt1 (by simp) (look_new.trans rfl))).mono ?_
        rintro d1 st1 ⟨rfl, rfl⟩
        try simp only [go_sem]
        (repeat refine awp_seq ?_); refine ev_region ?_; simp only [go_sem]
        (repeat refine awp_seq ?_); refine awp_cond (by rfl) (fun hc => ?_) fun hc => ?_
        · replace h := cond_t h (by first | exact hc | simpa using hc)
          (repeat refine awp_seq ?_); refine ev_region ?_; simp only [go_sem]
          (repeat refine awp_seq ?_); refine awp_ret ?_
          try simp only [go_sem]
          have hr := Option.some.inj h
          refine finb_of ?_; simp only [go_sem]
          exact fin_old' (d' := .bool true) hsc (.same _) (by simp) ⟨by subst hr; rfl, rfl⟩
        · replace h := cond_f h (by first | exact hc | simpa using hc)
          refine awp_skip ?_; try simp only [go_sem]
          (repeat refine awp_seq ?_); refine ev_region ?_; simp only [go_sem]
          (repeat refine awp_seq ?_); refine awp_cond (by rfl) (fun hc => ?_) fun hc => ?_
          · replace h := cond_t h (by first | exact hc | simpa using hc)
            (repeat refine awp_seq ?_); refine ev_region ?_; simp only [go_sem]
            (repeat refine awp_seq ?_); refine awp_ret ?_
            try simp only [go_sem]
            have hr := Option.some.inj h
            refine finb_of ?_; simp only [go_sem]
            exact fin_old' (d' := .bool false) hsc (.same _) (by simp) ⟨by subst hr; rfl, rfl⟩
          · replace h := cond_f h (by first | exact hc | simpa using hc)
            refine awp_skip ?_; try simp only [go_sem]
            (repeat refine awp_seq ?_); refine ev_region ?_; simp only [go_sem]
            (repeat refine awp_seq ?_); refine awp_while (body := glosswrightlaw8TrainCountsAddUp_b2 v42 v40 v41) (kk := glosswrightlaw8TrainCountsAddUp_a2 n v42 v40 v41) (n := n) (s0 := 0)
              (fun (gs2 : Unit) (s2 : Int) => [(10, .ptr (st.length + 2) 0 0 0), (12, .ptr (st.length + 4) 0 0 0), (14, .ptr (st.length + 6) 0 0 0), (16, .int .i64 s2)])
              (fun (gs2 : Unit) (s2 : Int) => st ++ [none, none, some (.arr 0 2 0 [[.sl false 1 8 (rows i64c v40.1.rules), .sl false 1 8 (rows i64c v40.1.lexes)]]), none, some (.arr 0 2 0 [[.sl false 1 8 (rows i64c v41.1.rules), .sl false 1 8 (rows i64c v41.1.lexes)]]), none, some (.arr 0 2 0 [[.sl false 1 8 (rows i64c v42.1.rules), .sl false 1 8 (rows i64c v42.1.lexes)]])])
              (fun (gt2 : Unit) (t2 : Unit) => [(10, .ptr (st.length + 2) 0 0 0), (12, .ptr (st.length + 4) 0 0 0), (14, .ptr (st.length + 6) 0 0 0)])
              (fun (gt2 : Unit) (t2 : Unit) => st ++ [none, none, some (.arr 0 2 0 [[.sl false 1 8 (rows i64c v40.1.rules), .sl false 1 8 (rows i64c v40.1.lexes)]]), none, some (.arr 0 2 0 [[.sl false 1 8 (rows i64c v41.1.rules), .sl false 1 8 (rows i64c v41.1.lexes)]]), none, some (.arr 0 2 0 [[.sl false 1 8 (rows i64c v42.1.rules), .sl false 1 8 (rows i64c v42.1.lexes)]])])
              () h (bks_mk hsc (.dead _ _ _ (.dead _ _ _ (.live _ _ _ _ (.same _) (.dead _ _ _ (.live _ _ _ _ (.same _) (.dead _ _ _ (.live _ _ _ _ (.same _) (.nil _)))))))) (by simp) ⟨.same _, .same _, .same _, .same _, trivial⟩ (by simp))
              (fun gs2 s2 b2 h hx2 => ?_) (fun gt2 t2 fr1 st1 h hb => ?_)
            · unfold glosswrightlaw8TrainCountsAddUp_b2 at h
              (repeat refine awp_seq ?_); refine ev_region ?_; simp only [go_sem]
              (repeat refine awp_seq ?_); refine awp_cond (by rfl) (fun hc => ?_) fun hc => ?_
              · replace h := cond_t h (by first | exact hc | simpa using hc)
                refine awp_skip ?_; try simp only [go_sem]
                (repeat refine awp_seq ?_); refine awp_block ?_
                obtain ⟨⟨f46, f47⟩, h⟩ := chk_some h
                obtain ⟨f48, h⟩ := chk_some h
                obtain ⟨f49, h⟩ := chk_some h
                (repeat refine awp_seq ?_); refine ev_draw_region [] 0 follows (by kernel_rfl) (by rfl) ?_; simp only [go_sem, List.replicate_succ, List.replicate_zero, f46, f47, f48, f49]
                (repeat refine awp_seq ?_); refine awp_cond (by rfl) (fun hc => ?_) fun hc => ?_
                · replace h := cond_t h (by first | exact hc | simpa using hc)
                  (repeat refine awp_seq ?_); refine ev_region ?_; simp only [go_sem, f46, f47, f48, f49]
                  (repeat refine awp_seq ?_); refine awp_ret ?_
                  try simp only [go_sem, f46, f47, f48, f49]
                  obtain rfl := Option.some.inj h
                  refine pbw_ret ?_; have hr := hx2 _ rfl; try simp only [go_sem, f46, f47, f48, f49]
                  refine finb_of ?_; simp only [go_sem, f46, f47, f48, f49]
                  exact fin_old' (d' := .bool false) hsc (.same _) (by simp) ⟨by subst hr; rfl, rfl⟩
                · replace h := cond_f h (by first | exact hc | simpa using hc)
                  refine awp_skip ?_; try simp only [go_sem, f46, f47, f48, f49]
                  (repeat refine awp_seq ?_); refine ev_region ?_; simp only [go_sem, f46, f47, f48, f49]
                  cases h
                  exact pbw_nxt () (bks_mk hsc (.dead _ _ _ (.dead _ _ _ (.live _ _ _ _ (.same _) (.dead _ _ _ (.live _ _ _ _ (.same _) (.dead _ _ _ (.live _ _ _ _ (.same _) (.nil _)))))))) (by simp) ⟨.same _, .same _, .same _, .same _, trivial⟩ (by simp))
              · replace h := cond_f h (by first | exact hc | simpa using hc)
                (repeat refine awp_seq ?_); refine awp_exit ?_; try simp only [go_sem]
                cases h
                exact pbw_brk () (bks_mk hsc (.dead _ _ _ (.dead _ _ _ (.live _ _ _ _ (.same _) (.dead _ _ _ (.live _ _ _ _ (.same _) (.dead _ _ _ (.live _ _ _ _ (.same _) (.nil _)))))))) (by simp) ⟨.same _, .same _, .same _, trivial⟩ (by simp))
            · try simp only [go_sem]
              unfold glosswrightlaw8TrainCountsAddUp_a2 at h
              refine awp_bks hb ?_
              (repeat refine awp_seq ?_); refine ev_region ?_; simp only [go_sem]
              (repeat refine awp_seq ?_); refine awp_while (body := glosswrightlaw8TrainCountsAddUp_b3 v42 v40 v41) (kk := glosswrightlaw8TrainCountsAddUp_a3) (n := n) (s0 := 0)
                (fun (gs3 : Unit) (s3 : Int) => [(10, .ptr (st.length + 2) 0 0 0), (12, .ptr (st.length + 4) 0 0 0), (14, .ptr (st.length + 6) 0 0 0), (17, .int .i64 s3)])
                (fun (gs3 : Unit) (s3 : Int) => st ++ [none, none, some (.arr 0 2 0 [[.sl false 1 8 (rows i64c v40.1.rules), .sl false 1 8 (rows i64c v40.1.lexes)]]), none, some (.arr 0 2 0 [[.sl false 1 8 (rows i64c v41.1.rules), .sl false 1 8 (rows i64c v41.1.lexes)]]), none, some (.arr 0 2 0 [[.sl false 1 8 (rows i64c v42.1.rules), .sl false 1 8 (rows i64c v42.1.lexes)]])])
                (fun (gt3 : Unit) (t3 : Unit) => [])
                (fun (gt3 : Unit) (t3 : Unit) => st)
                () h (bks_mk hsc (.dead _ _ _ (.dead _ _ _ (.live _ _ _ _ (.same _) (.dead _ _ _ (.live _ _ _ _ (.same _) (.dead _ _ _ (.live _ _ _ _ (.same _) (.nil _)))))))) (by simp) ⟨.same _, .same _, .same _, .same _, trivial⟩ (by simp))
                (fun gs3 s3 b3 h hx3 => ?_) (fun gt3 t3 fr1 st1 h hb => ?_)
              · unfold glosswrightlaw8TrainCountsAddUp_b3 at h
                (repeat refine awp_seq ?_); refine ev_region ?_; simp only [go_sem]
                (repeat refine awp_seq ?_); refine awp_cond (by rfl) (fun hc => ?_) fun hc => ?_
                · replace h := cond_t h (by first | exact hc | simpa using hc)
                  refine awp_skip ?_; try simp only [go_sem]
                  (repeat refine awp_seq ?_); refine awp_block ?_
                  obtain ⟨⟨f53, f54⟩, h⟩ := chk_some h
                  obtain ⟨f55, h⟩ := chk_some h
                  obtain ⟨f56, h⟩ := chk_some h
                  (repeat refine awp_seq ?_); refine ev_draw_region [] 0 follows (by kernel_rfl) (by rfl) ?_; simp only [go_sem, List.replicate_succ, List.replicate_zero, f53, f54, f55, f56]
                  (repeat refine awp_seq ?_); refine awp_cond (by rfl) (fun hc => ?_) fun hc => ?_
                  · replace h := cond_t h (by first | exact hc | simpa using hc)
                    (repeat refine awp_seq ?_); refine ev_region ?_; simp only [go_sem, f53, f54, f55, f56]
                    (repeat refine awp_seq ?_); refine awp_ret ?_
                    try simp only [go_sem, f53, f54, f55, f56]
                    obtain rfl := Option.some.inj h
                    refine pbw_ret ?_; have hr := hx3 _ rfl; try simp only [go_sem, f53, f54, f55, f56]
                    refine finb_of ?_; simp only [go_sem, f53, f54, f55, f56]
                    exact fin_old' (d' := .bool false) hsc (.same _) (by simp) ⟨by subst hr; rfl, rfl⟩
                  · replace h := cond_f h (by first | exact hc | simpa using hc)
                    refine awp_skip ?_; try simp only [go_sem, f53, f54, f55, f56]
                    (repeat refine awp_seq ?_); refine ev_region ?_; simp only [go_sem, f53, f54, f55, f56]
                    cases h
                    exact pbw_nxt () (bks_mk hsc (.dead _ _ _ (.dead _ _ _ (.live _ _ _ _ (.same _) (.dead _ _ _ (.live _ _ _ _ (.same _) (.dead _ _ _ (.live _ _ _ _ (.same _) (.nil _)))))))) (by simp) ⟨.same _, .same _, .same _, .same _, trivial⟩ (by simp))
                · replace h := cond_f h (by first | exact hc | simpa using hc)
                  (repeat refine awp_seq ?_); refine awp_exit ?_; try simp only [go_sem]
                  cases h
                  exact pbw_brk () (bks_mk0 hsc trivial (by simp))
              · try simp only [go_sem]
                unfold glosswrightlaw8TrainCountsAddUp_a3 at h
                refine awp_bks hb ?_
                (repeat refine awp_seq ?_); refine ev_region ?_; simp only [go_sem]
                (repeat refine awp_seq ?_); refine awp_ret ?_
                try simp only [go_sem]
                have hr := Option.some.inj h
                refine finb_of ?_; simp only [go_sem]
                exact fin_same' (d' := .bool true) hsc (.same _) (by simp) ⟨by subst hr; rfl, rfl⟩

end Go.Proofs.YtaohdfpcdfbnlaaDoor

