/-
  Each Go function of this part does what its plain Lean function says.
-/
import Derived.Test.YtaohdfpcdfbnlaaDoorBase
import Derived.Test.YtaohdfpcdfbnlaaDoorHand
import Derived.Test.YtaohdfpcdfbnlaaDoorMirrors
import Derived.Test.YtaohdfpcdfbnlaaDoorHand2
import Derived.Test.YtaohdfpcdfbnlaaDoorWalk2
import Derived.Test.YtaohdfpcdfbnlaaDoorWalk3
import Derived.Test.YtaohdfpcdfbnlaaDoorWalk4
import Derived.Test.YtaohdfpcdfbnlaaDoorWalk7
import Derived.Test.YtaohdfpcdfbnlaaDoorWalk8
set_option linter.unusedVariables false
set_option linter.unusedSimpArgs false
namespace Go.Proofs.YtaohdfpcdfbnlaaDoor
open Go Go.Am

set_option maxHeartbeats 2000000 in
set_option maxRecDepth 100000 in
theorem ok_stringsShouldUseASCIISet (a0 : Int) (r : Bool) (h : stringsShouldUseASCIISet a0 = some r) : Pure Tryd.prog gl 79 [.int .i64 a0] (.bool r) := by
  intro st
  unfold stringsShouldUseASCIISet at h
  refine spec_fb (N := 5) (rs := [.tmp 2]) (keep := [0, 2]) Tryd.func79 rfl rfl rfl (by kernel_rfl) rfl fun hsc => ?_
  (repeat refine awp_seq ?_); refine ev_region ?_; simp only [go_sem]
  (repeat refine awp_seq ?_); refine ev_region ?_; simp only [go_sem]
  (repeat refine awp_seq ?_); refine awp_ret ?_
  try simp only [go_sem]
  have hr := Option.some.inj h
  refine finb_of ?_; simp only [go_sem]
  exact fin_same' (d' := .bool (decide (8 < a0))) hsc (.same _) (by simp) ⟨by subst hr; rfl, rfl⟩

set_option maxHeartbeats 2000000 in
set_option maxRecDepth 100000 in
theorem ok_stringsIndexAnyS (n : Nat) (a0 : Bs) (a1 : Bs) (r : Int) (h : stringsIndexAnyS n a0 a1 = some r) : Pure Tryd.prog gl 76 [.str a0, .str a1] (.int .i64 r) := by
  intro st
  unfold stringsIndexAnyS at h
  refine spec_fb (N := 55) (rs := [.tmp 4]) (keep := [0, 1, 4, 5, 6, 7, 8, 9, 10, 12, 15, 20, 26, 32, 36, 42, 45, 46, 47, 53]) Tryd.func76 rfl rfl rfl (by kernel_rfl) rfl fun hsc => ?_
  (repeat refine awp_seq ?_); refine ev_region ?_; simp only [go_sem]
  (repeat refine awp_seq ?_); refine ev_region ?_; simp only [go_sem]
  (repeat refine awp_seq ?_); refine awp_cond (by rfl) (fun hc => ?_) fun hc => ?_
  · replace h := cond_t h (by first | exact hc | simpa using hc)
    (repeat refine awp_seq ?_); refine ev_region ?_; simp only [go_sem]
    (repeat refine awp_seq ?_); refine awp_ret ?_
    try simp only [go_sem]
    have hr := Option.some.inj h
    refine finb_of ?_; simp only [go_sem]
    exact fin_same' (d' := .int .i64 (-1)) hsc (.same _) (by simp) ⟨by subst hr; rfl, rfl⟩
  · replace h := cond_f h (by first | exact hc | simpa using hc)
    refine awp_skip ?_; try simp only [go_sem]
    (repeat refine awp_seq ?_); refine ev_region ?_; simp only [go_sem]
    (repeat refine awp_seq ?_); refine awp_cond (by rfl) (fun hc => ?_) fun hc => ?_
    · replace h := cond_t h (by first | exact hc | simpa using hc)
      obtain ⟨f1, h⟩ := chk_some h
      (repeat refine awp_seq ?_); refine ev_region ?_; simp only [go_sem, f1]
      (repeat refine awp_seq ?_); refine ev_region ?_; simp only [go_sem, f1]
      (repeat refine awp_seq ?_); refine awp_jn (stringsIndexAnyS_j0 n a0) r (fun (gj0 : Unit) (j0 : Int) => [(0, .str a0), (5, .int .i32 j0)]) (fun (gj0 : Unit) (j0 : Int) => st) (fun gj0 j0 fr1 st1 h hb => ?_) (fun hj0 => ?_)
      · try simp only [go_sem, f1]
        unfold stringsIndexAnyS_j0 at h
        refine awp_bks hb ?_
        (repeat refine awp_seq ?_); refine ev_region ?_; simp only [go_sem, f1]
        obtain ⟨v2, hv2, h⟩ := bind_some h
        refine ((ok_stringsIndexRune n _ _ _ hv2)).to ?_
        try simp only [go_sem, f1]
        (repeat refine awp_seq ?_); refine awp_ret ?_
        try simp only [go_sem, f1]
        have hr := Option.some.inj h
        refine finb_of ?_; simp only [go_sem, f1]
        exact fin_same' (d' := .int .i64 v2) hsc (.same _) (by simp) ⟨by subst hr; rfl, rfl⟩
      · (repeat refine awp_seq ?_); refine awp_cond (by rfl) (fun hc => ?_) fun hc => ?_
        · replace h := cond_t h (by first | exact hc | simpa using hc)
          (repeat refine awp_seq ?_); refine ev_region ?_; simp only [go_sem, f1]
          exact hj0 () _ _ _ h (bks_mk00 hsc ⟨.same _, .same _, trivial⟩ (by simp))
        · replace h := cond_f h (by first | exact hc | simpa using hc)
          refine awp_skip ?_; try simp only [go_sem, f1]
          exact hj0 () _ _ _ h (bks_mk00 hsc ⟨.same _, .same _, trivial⟩ (by simp))
    · replace h := cond_f h (by first | exact hc | simpa using hc)
      refine awp_skip ?_; try simp only [go_sem]
      (repeat refine awp_seq ?_); refine ev_region ?_; simp only [go_sem]
      obtain ⟨v3, hv3, h⟩ := bind_some h
      refine ((ok_stringsShouldUseASCIISet _ _ hv3)).to ?_
      try simp only [go_sem]
      (repeat refine awp_seq ?_); refine awp_jn (stringsIndexAnyS_j1 n a0 a1) r (fun (gj1 : Unit) (j1 : Unit) => [(0, .str a0), (1, .str a1)]) (fun (gj1 : Unit) (j1 : Unit) => st) (fun gj1 j1 fr1 st1 h hb => ?_) (fun hj1 => ?_)
      · try simp only [go_sem]
        unfold stringsIndexAnyS_j1 at h
        refine awp_bks hb ?_
        (repeat refine awp_seq ?_); refine ev_region ?_; simp only [go_sem]
        (repeat refine awp_seq ?_); refine awp_while (body := stringsIndexAnyS_b2 n a0 a1) (kk := stringsIndexAnyS_a2) (n := n) (s0 := 0)
          (fun (gs2 : Unit) (s2 : Nat) => [(1, .str a1), (45, .it st.length)])
          (fun (gs2 : Unit) (s2 : Nat) => st ++ [some (.sit a0 s2)])
          (fun (gt2 : Unit) (t2 : Unit) => [])
          (fun (gt2 : Unit) (t2 : Unit) => st)
          () h (bks_mk hsc (.live _ _ _ _ (.same _) (.nil _)) (by simp) ⟨.same _, .same _, trivial⟩ (by simp))
          (fun gs2 s2 b2 h hx2 => ?_) (fun gt2 t2 fr1 st1 h hb => ?_)
        · unfold stringsIndexAnyS_b2 at h
          (repeat refine awp_seq ?_); refine ev_region ?_; simp only [go_sem]
          (repeat refine awp_seq ?_); refine awp_cond (by rfl) (fun hc => ?_) fun hc => ?_
          · replace h := cond_t h (by first | exact hc | simpa using hc)
            refine awp_skip ?_; try simp only [go_sem]
            (repeat refine awp_seq ?_); refine awp_block ?_
            obtain ⟨f6, h⟩ := chk_some h
            (repeat refine awp_seq ?_); refine ev_region ?_; simp only [go_sem, f6]
            (repeat refine awp_seq ?_); refine ev_region ?_; simp only [go_sem, f6]
            obtain ⟨v7, hv7, h⟩ := bind_some h
            refine ((ok_stringsIndexRune n _ _ _ hv7)).to ?_
            try simp only [go_sem, f6]
            (repeat refine awp_seq ?_); refine awp_cond (by rfl) (fun hc => ?_) fun hc => ?_
            · replace h := cond_t h (by first | exact hc | simpa using hc)
              (repeat refine awp_seq ?_); refine ev_region ?_; simp only [go_sem, f6]
              (repeat refine awp_seq ?_); refine awp_ret ?_
              try simp only [go_sem, f6]
              obtain rfl := Option.some.inj h
              refine pbw_ret ?_; have hr := hx2 _ rfl; try simp only [go_sem, f6]
              refine finb_of ?_; simp only [go_sem, f6]
              exact fin_old' (d' := .int .i64 (↑s2 : Int)) hsc (.same _) (by simp) ⟨by subst hr; rfl, rfl⟩
            · replace h := cond_f h (by first | exact hc | simpa using hc)
              refine awp_skip ?_; try simp only [go_sem, f6]
              cases h
              exact pbw_nxt () (bks_mk hsc (.live _ _ _ _ (.same _) (.nil _)) (by simp) ⟨.same _, .same _, trivial⟩ (by simp))
          · replace h := cond_f h (by first | exact hc | simpa using hc)
            (repeat refine awp_seq ?_); refine awp_exit ?_; try simp only [go_sem]
            cases h
            exact pbw_brk () (bks_mk0 hsc trivial (by simp))
        · try simp only [go_sem]
          unfold stringsIndexAnyS_a2 at h
          refine awp_bks hb ?_
          (repeat refine awp_seq ?_); refine ev_region ?_; simp only [go_sem]
          (repeat refine awp_seq ?_); refine awp_ret ?_
          try simp only [go_sem]
          have hr := Option.some.inj h
          refine finb_of ?_; simp only [go_sem]
          exact fin_same' (d' := .int .i64 (-1)) hsc (.same _) (by simp) ⟨by subst hr; rfl, rfl⟩
      · (repeat refine awp_seq ?_); refine awp_cond (by rfl) (fun hc => ?_) fun hc => ?_
        · replace h := cond_t h (by first | exact hc | simpa using hc)
          cases h
        · replace h := cond_f h (by first | exact hc | simpa using hc)
          refine awp_skip ?_; try simp only [go_sem]
          exact hj1 () _ _ _ h (bks_mk00 hsc ⟨.same _, .same _, trivial⟩ (by simp))

theorem ok_stringsIndexAny (n : Nat) (a0 : Bs) (a1 : Bs) (r : Int) (h : stringsIndexAny n a0 a1 = some r) : Pure Tryd.prog gl 76 [.str a0, .str a1] (.int .i64 r) := by
  unfold stringsIndexAny at h
  cases hc : decide (8 < a0.length) with
  | true =>
    rw [hc] at h
    obtain ⟨hp, h⟩ := chk_some h
    cases h
    exact indexAny_long a0 a1 hp.1 (of_decide_eq_true hc) hp.2.1 hp.2.2.1 hp.2.2.2
  | false =>
    rw [hc] at h
    exact ok_stringsIndexAnyS n a0 a1 r h

set_option maxHeartbeats 2000000 in
set_option maxRecDepth 100000 in
theorem ok_stringsContainsAny (n : Nat) (a0 : Bs) (a1 : Bs) (r : Bool) (h : stringsContainsAny n a0 a1 = some r) : Pure Tryd.prog gl 68 [.str a0, .str a1] (.bool r) := by
  intro st
  unfold stringsContainsAny at h
  refine spec_fb (N := 9) (rs := [.tmp 4]) (keep := [0, 1, 4]) Tryd.func68 rfl rfl rfl (by kernel_rfl) rfl fun hsc => ?_
  (repeat refine awp_seq ?_); refine ev_region ?_; simp only [go_sem]
  (repeat refine awp_seq ?_); refine ev_region ?_; simp only [go_sem]
  obtain ⟨v1, hv1, h⟩ := bind_some h
  refine ((ok_stringsIndexAny n _ _ _ hv1)).to ?_
  try simp only [go_sem]
  (repeat refine awp_seq ?_); refine awp_ret ?_
  try simp only [go_sem]
  have hr := Option.some.inj h
  refine finb_of ?_; simp only [go_sem]
  exact fin_same' (d' := .bool (decide (0 ≤ v1))) hsc (.same _) (by simp) ⟨by subst hr; rfl, rfl⟩

set_option maxHeartbeats 2000000 in
set_option maxRecDepth 100000 in
theorem ok_lexruleWord (n : Nat) (a0 : Bs) (r : Bool) (h : lexruleWord n a0 = some r) : Pure Tryd.prog gl 47 [.str a0] (.bool r) := by
  intro st
  unfold lexruleWord at h
  refine spec_fb (N := 21) (rs := [.tmp 2]) (keep := [0, 2, 3, 9, 10, 13, 14, 17, 18, 19]) Tryd.func47 rfl rfl rfl (by kernel_rfl) rfl fun hsc => ?_
  (repeat refine awp_seq ?_); refine ev_region ?_; simp only [go_sem]
  (repeat refine awp_seq ?_); refine ev_region ?_; simp only [go_sem]
  obtain ⟨v1, hv1, h⟩ := bind_some h
  refine ((ok_unicodeUtf8RuneCountInString n _ _ hv1)).to ?_
  try simp only [go_sem]
  (repeat refine awp_seq ?_); refine ev_region ?_; simp only [go_sem]
  obtain ⟨v2, hv2, h⟩ := bind_some h
  refine gc_pure (fun hG => (ok_unicodeUtf8ValidString n _ _ (gd_t hv2 (by simpa using hG)))) ?_
  try simp only [go_sem]
  obtain ⟨v3, hv3, h⟩ := bind_some h
  refine gc_pure (fun hG => (ok_stringsContainsAny n _ _ _ (gd_t hv3 (by simpa using hG)))) ?_
  try simp only [go_sem]
  (repeat refine awp_seq ?_); refine awp_ret ?_
  try simp only [go_sem]
  have hr := Option.some.inj h
  refine finb_of ?_; simp only [go_sem]
  exact fin_same' (d' := .bool (bif (bif (bif (decide (1 ≤ v1)) then (decide (v1 ≤ 30)) else false) then v2 else false) then (!v3) else false)) hsc (.same _) (by simp) ⟨by subst hr; rfl, rfl⟩

set_option maxHeartbeats 2000000 in
set_option maxRecDepth 100000 in
theorem ok_lexruleEntry (n : Nat) (a0 : ApiHierarchy) (a1 : HierarchyTable) (a2 : ApiLex) (r : Int) (h : lexruleEntry n a0 a1 a2 = some r) : Pure Tryd.prog gl 33 [.agg [.sl false 2 40 (rows ApiType.cells a0.types), .sl false 3 32 (rows ApiFeat.cells a0.feats)], .agg [.sl false 1 8 (rows u64c a1.up), .sl false 1 8 (rows u64c a1.down)], .agg [.str a2.word, .sl false 2 32 (rows ApiNode.cells a2.graph.nodes), .int .i64 a2.weight, .int .i64 a2.meaning.kind, .str a2.meaning.name, .int .i64 a2.meaning.index, .str a2.meaning.type.base, .sl false 2 40 (rows ApiSimple.cells a2.meaning.type.args), .sl false 6 96 (rows ApiTerm.cells a2.meaning.args)]] (.int .i64 r) := by
  intro st
  unfold lexruleEntry at h
  refine spec_fb (N := 34) (rs := [.tmp 6]) (keep := [0, 1, 2, 3, 4, 5, 6, 7, 11, 16, 17, 18, 19, 27]) Tryd.func33 rfl rfl rfl (by kernel_rfl) rfl fun hsc => ?_
  (repeat refine awp_seq ?_); refine ev_region ?_; simp only [go_sem]
  (repeat refine awp_seq ?_); refine ev_region ?_; simp only [go_sem]
  obtain ⟨v1, hv1, h⟩ := bind_some h
  refine ((ok_lexruleWord n _ _ hv1)).to ?_
  try simp only [go_sem]
  (repeat refine awp_seq ?_); refine awp_cond (by rfl) (fun hc => ?_) fun hc => ?_
  · replace h := cond_t h (by first | exact hc | simpa using hc)
    (repeat refine awp_seq ?_); refine ev_region ?_; simp only [go_sem]
    (repeat refine awp_seq ?_); refine awp_ret ?_
    try simp only [go_sem]
    have hr := Option.some.inj h
    refine finb_of ?_; simp only [go_sem]
    exact fin_old' (d' := .int .i64 10) hsc (.same _) (by simp) ⟨by subst hr; rfl, rfl⟩
  · replace h := cond_f h (by first | exact hc | simpa using hc)
    refine awp_skip ?_; try simp only [go_sem]
    (repeat refine awp_seq ?_); refine ev_region ?_; simp only [go_sem]
    (repeat refine awp_seq ?_); refine awp_cond (by rfl) (fun hc => ?_) fun hc => ?_
    · replace h := cond_t h (by first | exact hc | simpa using hc)
      (repeat refine awp_seq ?_); refine ev_region ?_; simp only [go_sem]
      (repeat refine awp_seq ?_); refine awp_ret ?_
      try simp only [go_sem]
      have hr := Option.some.inj h
      refine finb_of ?_; simp only [go_sem]
      exact fin_old' (d' := .int .i64 3) hsc (.same _) (by simp) ⟨by subst hr; rfl, rfl⟩
    · replace h := cond_f h (by first | exact hc | simpa using hc)
      refine awp_skip ?_; try simp only [go_sem]
      (repeat refine awp_seq ?_); refine ev_region ?_; simp only [go_sem]
      obtain ⟨v2, hv2, h⟩ := bind_some h
      refine ((ok_graphWithin n _ _ _ _ hv2)).to ?_
      try simp only [go_sem]
      (repeat refine awp_seq ?_); refine ev_region ?_; simp only [go_sem]
      (repeat refine awp_seq ?_); refine awp_cond (by rfl) (fun hc => ?_) fun hc => ?_
      · replace h := cond_t h (by first | exact hc | simpa using hc)
        (repeat refine awp_seq ?_); refine ev_region ?_; simp only [go_sem]
        (repeat refine awp_seq ?_); refine awp_ret ?_
        try simp only [go_sem]
        have hr := Option.some.inj h
        refine finb_of ?_; simp only [go_sem]
        exact fin_old' (d' := .int .i64 v2.code) hsc (.same _) (by simp) ⟨by subst hr; rfl, rfl⟩
      · replace h := cond_f h (by first | exact hc | simpa using hc)
        refine awp_skip ?_; try simp only [go_sem]
        (repeat refine awp_seq ?_); refine ev_region ?_; simp only [go_sem]
        obtain ⟨v3, hv3, h⟩ := bind_some h
        refine ((ok_termValidate n _ _ hv3)).to ?_
        try simp only [go_sem]
        (repeat refine awp_seq ?_); refine awp_ret ?_
        try simp only [go_sem]
        have hr := Option.some.inj h
        refine finb_of ?_; simp only [go_sem]
        exact fin_old' (d' := .int .i64 v3.code) hsc (.same _) (by simp) ⟨by subst hr; rfl, rfl⟩

set_option maxHeartbeats 2000000 in
set_option maxRecDepth 100000 in
theorem ok_grammarValidate (n : Nat) (a0 : ApiGrammar) (r : ApiFault) (h : grammarValidate n a0 = some r) : Pure Tryd.prog gl 10 [.agg [.sl false 2 40 (rows ApiType.cells a0.hierarchy.types), .sl false 3 32 (rows ApiFeat.cells a0.hierarchy.feats), .sl false 10 152 (rows ApiRule.cells a0.rules), .sl false 9 144 (rows ApiLex.cells a0.lexes), .sl false 2 32 (rows ApiNode.cells a0.start.nodes)]] (.agg [.int .i64 r.code, .int .i64 r.index]) := by
  intro st
  unfold grammarValidate at h
  refine spec_fb (N := 112) (rs := [.cell 2 41]) (keep := [0, 1, 2, 3, 4, 5, 6, 7, 8, 10, 11, 12, 13, 14, 15, 22, 27, 34, 35, 36, 37, 38, 45, 46, 47, 48, 55, 65, 77, 83, 84, 85, 86, 95, 107]) Tryd.func10 rfl rfl rfl (by kernel_rfl) rfl fun hsc => ?_
  (repeat refine awp_seq ?_); refine ev_region ?_; simp only [go_sem]
  (repeat refine awp_seq ?_); refine ev_region ?_; simp only [go_sem]
  (repeat refine awp_seq ?_); refine ev_region ?_; simp only [go_sem]
  obtain ⟨v1, hv1, h⟩ := bind_some h
  refine ((ok_hierarchyValidate _ _ hv1)).to ?_
  try simp only [go_sem]
  (repeat refine awp_seq ?_); refine ev_region ?_; simp only [go_sem]
  (repeat refine awp_seq ?_); refine awp_cond (by rfl) (fun hc => ?_) fun hc => ?_
  · replace h := cond_t h (by first | exact hc | simpa using hc)
    (repeat refine awp_seq ?_); refine ev_region ?_; simp only [go_sem]
    (repeat refine awp_seq ?_); refine awp_ret ?_
    try simp only [go_sem]
    have hr := Option.some.inj h
    refine finb_of ?_; simp only [go_sem]
    exact fin_old' (d' := .agg [.int .i64 v1.code, .int .i64 v1.index]) hsc (.same _) (by simp) ⟨by subst hr; rfl, rfl⟩
  · replace h := cond_f h (by first | exact hc | simpa using hc)
    refine awp_skip ?_; try simp only [go_sem]
    (repeat refine awp_seq ?_); refine ev_region ?_; simp only [go_sem]
    (repeat refine awp_seq ?_); refine awp_cond (by rfl) (fun hc => ?_) fun hc => ?_
    · replace h := cond_t h (by first | exact hc | simpa using hc)
      (repeat refine awp_seq ?_); refine ev_region ?_; simp only [go_sem]
      obtain ⟨v2, hv2, h⟩ := bind_some h
      refine ((ok_grammarFault _ _ _ hv2)).to ?_
      try simp only [go_sem]
      (repeat refine awp_seq ?_); refine awp_ret ?_
      try simp only [go_sem]
      have hr := Option.some.inj h
      refine finb_of ?_; simp only [go_sem]
      exact fin_old' (d' := .agg [.int .i64 v2.code, .int .i64 v2.index]) hsc (.same _) (by simp) ⟨by subst hr; rfl, rfl⟩
    · replace h := cond_f h (by first | exact hc | simpa using hc)
      refine awp_skip ?_; try simp only [go_sem]
      (repeat refine awp_seq ?_); refine ev_region ?_; simp only [go_sem]
      (repeat refine awp_seq ?_); refine awp_cond (by rfl) (fun hc => ?_) fun hc => ?_
      · replace h := cond_t h (by first | exact hc | simpa using hc)
        (repeat refine awp_seq ?_); refine ev_region ?_; simp only [go_sem]
        obtain ⟨v3, hv3, h⟩ := bind_some h
        refine ((ok_grammarFault _ _ _ hv3)).to ?_
        try simp only [go_sem]
        (repeat refine awp_seq ?_); refine awp_ret ?_
        try simp only [go_sem]
        have hr := Option.some.inj h
        refine finb_of ?_; simp only [go_sem]
        exact fin_old' (d' := .agg [.int .i64 v3.code, .int .i64 v3.index]) hsc (.same _) (by simp) ⟨by subst hr; rfl, rfl⟩
      · replace h := cond_f h (by first | exact hc | simpa using hc)
        refine awp_skip ?_; try simp only [go_sem]
        (repeat refine awp_seq ?_); refine ev_region ?_; simp only [go_sem]
        obtain ⟨v4, hv4, h⟩ := bind_some h
        refine ((ok_hierarchyTables _ _ hv4)).to ?_
        try simp only [go_sem]
        (repeat refine awp_seq ?_); refine ev_region ?_; simp only [go_sem]
        (repeat refine awp_seq ?_); refine ev_region ?_; simp only [go_sem]
        (repeat refine awp_seq ?_); refine awp_len (t := 45) rfl fun hl0 => ?_
        simp only [rows_len] at hl0
        (repeat refine awp_seq ?_); refine awp_range (body := grammarValidate_b0 n a0 v4) (kk := grammarValidate_a0 n a0 v4) (n := a0.rules.length) (s0 := [])
          (fun (gs0 : Unit) (k0 : Nat) (s0 : (List (Bs × Int))) => [(1, .ptr st.length 0 0 0), (2, .ptr (st.length + 1) 0 0 0), (3, .ptr (st.length + 2) 0 0 0), (5, .ptr (st.length + 4) 0 0 0), (6, .mp (st.length + 5)), (45, .sl false 10 152 (rows ApiRule.cells a0.rules)), (46, .int .i64 (↑a0.rules.length : Int)), (47, .int .i64 (↑k0 : Int))])
          (fun (gs0 : Unit) (k0 : Nat) (s0 : (List (Bs × Int))) => st ++ [some (.arr 0 5 0 [[.sl false 2 40 (rows ApiType.cells a0.hierarchy.types), .sl false 3 32 (rows ApiFeat.cells a0.hierarchy.feats), .sl false 10 152 (rows ApiRule.cells a0.rules), .sl false 9 144 (rows ApiLex.cells a0.lexes), .sl false 2 32 (rows ApiNode.cells a0.start.nodes)]]), some (.arr 0 2 0 [[.int .i64 0, .int .i64 0]]), some (.arr 0 2 0 [[.sl false 2 40 (rows ApiType.cells a0.hierarchy.types), .sl false 3 32 (rows ApiFeat.cells a0.hierarchy.feats)]]), none, some (.arr 0 2 0 [[.sl false 1 8 (rows u64c v4.up), .sl false 1 8 (rows u64c v4.down)]]), some (.mps false (mrw i64c s0))])
          (fun (gt0 : Unit) (t0 : (List (Bs × Int))) => [(1, .ptr st.length 0 0 0), (2, .ptr (st.length + 1) 0 0 0), (3, .ptr (st.length + 2) 0 0 0), (5, .ptr (st.length + 4) 0 0 0)])
          (fun (gt0 : Unit) (t0 : (List (Bs × Int))) => st ++ [some (.arr 0 5 0 [[.sl false 2 40 (rows ApiType.cells a0.hierarchy.types), .sl false 3 32 (rows ApiFeat.cells a0.hierarchy.feats), .sl false 10 152 (rows ApiRule.cells a0.rules), .sl false 9 144 (rows ApiLex.cells a0.lexes), .sl false 2 32 (rows ApiNode.cells a0.start.nodes)]]), some (.arr 0 2 0 [[.int .i64 0, .int .i64 0]]), some (.arr 0 2 0 [[.sl false 2 40 (rows ApiType.cells a0.hierarchy.types), .sl false 3 32 (rows ApiFeat.cells a0.hierarchy.feats)]]), none, some (.arr 0 2 0 [[.sl false 1 8 (rows u64c v4.up), .sl false 1 8 (rows u64c v4.down)]])])
          () h (bks_mk hsc (.live _ _ _ _ (.same _) (.live _ _ _ _ (.same _) (.live _ _ _ _ (.same _) (.dead _ _ _ (.live _ _ _ _ (.same _) (.live _ _ _ _ (.same _) (.nil _))))))) (by simp) ⟨.same _, .same _, .same _, .same _, .same _, .same _, .same _, .same _, trivial⟩ (by simp))
          (fun gs0 k0 s0 b0 hk0 h hx0 => ?_) (fun gs0 s0 => ?_) (fun gt0 t0 fr1 st1 h hb => ?_)
        · unfold grammarValidate_b0 at h
          have hw0 : wr .i64 ((↑k0 : Int) + 1) = (↑(k0 + 1) : Int) := wr_succ hk0 hl0 (by decide)
          (repeat refine awp_seq ?_); refine ev_region ?_; simp only [go_sem]
          (repeat refine awp_seq ?_); refine awp_cond (by rfl) (fun hc => ?_) fun hc => ?_
          · refine awp_skip ?_; try simp only [go_sem]
            (repeat refine awp_seq ?_); refine awp_block ?_
            (repeat refine awp_seq ?_); refine ev_region ?_; simp only [go_sem, hk0, hw0]
            (repeat refine awp_seq ?_); refine ev_region ?_; simp only [go_sem, hk0, hw0]
            obtain ⟨v12, hv12, h⟩ := bind_some h
            refine ((ok_termName _ _ hv12)).to ?_
            try simp only [go_sem, hk0, hw0]
            (repeat refine awp_seq ?_); refine awp_cond (by rfl) (fun hc => ?_) fun hc => ?_
            · replace h := cond_t h (by first | exact hc | simpa using hc)
              (repeat refine awp_seq ?_); refine ev_region ?_; simp only [go_sem, hk0, hw0]
              obtain ⟨v13, hv13, h⟩ := bind_some h
              refine ((ok_grammarFault _ _ _ hv13)).to ?_
              try simp only [go_sem, hk0, hw0]
              (repeat refine awp_seq ?_); refine awp_ret ?_
              try simp only [go_sem, hk0, hw0]
              obtain rfl := Option.some.inj h
              refine pbr_ret ?_; have hr := hx0 _ rfl; try simp only [go_sem, hk0, hw0]
              refine finb_of ?_; simp only [go_sem, hk0, hw0]
              exact fin_old' (d' := .agg [.int .i64 v13.code, .int .i64 v13.index]) hsc (.same _) (by simp) ⟨by subst hr; rfl, rfl⟩
            · replace h := cond_f h (by first | exact hc | simpa using hc)
              refine awp_skip ?_; try simp only [go_sem, hk0, hw0]
              (repeat refine awp_seq ?_); refine ev_region ?_; simp only [go_sem, hk0, hw0]
              (repeat refine awp_seq ?_); refine ev_region ?_; simp only [go_sem, hk0, hw0]
              (repeat refine awp_seq ?_); refine awp_cond (by rfl) (fun hc => ?_) fun hc => ?_
              · replace h := cond_t h (by first | exact hc | simpa using hc)
                (repeat refine awp_seq ?_); refine ev_region ?_; simp only [go_sem, hk0, hw0]
                obtain ⟨v14, hv14, h⟩ := bind_some h
                refine ((ok_grammarFault _ _ _ hv14)).to ?_
                try simp only [go_sem, hk0, hw0]
                (repeat refine awp_seq ?_); refine awp_ret ?_
                try simp only [go_sem, hk0, hw0]
                obtain rfl := Option.some.inj h
                refine pbr_ret ?_; have hr := hx0 _ rfl; try simp only [go_sem, hk0, hw0]
                refine finb_of ?_; simp only [go_sem, hk0, hw0]
                exact fin_old' (d' := .agg [.int .i64 v14.code, .int .i64 v14.index]) hsc (.same _) (by simp) ⟨by subst hr; rfl, rfl⟩
              · replace h := cond_f h (by first | exact hc | simpa using hc)
                refine awp_skip ?_; try simp only [go_sem, hk0, hw0]
                obtain ⟨c15, hc15, h⟩ := let_some h
                have e16 : assocSet ((get a0.rules k0).name) [.int .i64 (↑k0 : Int)] (mrw i64c s0) = mrw i64c c15 := by rw [hc15]; exact mrw_set (E := i64c) _ _ _
                (repeat refine awp_seq ?_); refine ev_region ?_; simp only [go_sem, hk0, hw0, e16]
                (repeat refine awp_seq ?_); refine ev_region ?_; simp only [go_sem, hk0, hw0]
                obtain ⟨v17, hv17, h⟩ := bind_some h
                refine ((ok_grammarRule n _ _ _ _ hv17)).to ?_
                try simp only [go_sem, hk0, hw0]
                (repeat refine awp_seq ?_); refine ev_region ?_; simp only [go_sem, hk0, hw0]
                (repeat refine awp_seq ?_); refine awp_cond (by rfl) (fun hc => ?_) fun hc => ?_
                · replace h := cond_t h (by first | exact hc | simpa using hc)
                  (repeat refine awp_seq ?_); refine ev_region ?_; simp only [go_sem, hk0, hw0]
                  obtain ⟨v18, hv18, h⟩ := bind_some h
                  refine ((ok_grammarFault _ _ _ hv18)).to ?_
                  try simp only [go_sem, hk0, hw0]
                  (repeat refine awp_seq ?_); refine awp_ret ?_
                  try simp only [go_sem, hk0, hw0]
                  obtain rfl := Option.some.inj h
                  refine pbr_ret ?_; have hr := hx0 _ rfl; try simp only [go_sem, hk0, hw0]
                  refine finb_of ?_; simp only [go_sem, hk0, hw0]
                  exact fin_old' (d' := .agg [.int .i64 v18.code, .int .i64 v18.index]) hsc (.same _) (by simp) ⟨by subst hr; rfl, rfl⟩
                · replace h := cond_f h (by first | exact hc | simpa using hc)
                  refine awp_skip ?_; try simp only [go_sem, hk0, hw0]
                  (repeat refine awp_seq ?_); refine ev_region ?_; simp only [go_sem, hk0, hw0]
                  cases h
                  exact pbr_nxt () (bks_mk hsc (.live _ _ _ _ (.same _) (.live _ _ _ _ (.same _) (.live _ _ _ _ (.same _) (.dead _ _ _ (.live _ _ _ _ (.same _) (.live _ _ _ _ (.same _) (.nil _))))))) (by simp) ⟨.same _, .same _, .same _, .same _, .same _, .same _, .same _, .same _, trivial⟩ (by simp))
          · exfalso; have hc := of_decide_eq_false hc; omega
        · (repeat refine awp_seq ?_); refine ev_region ?_; simp only [go_sem]
          (repeat refine awp_seq ?_); refine awp_cond (by rfl) (fun hc => ?_) fun hc => ?_
          · exfalso; first | exact Bool.noConfusion hc | (have hc := of_decide_eq_true hc; omega)
          · refine awp_exit ?_; simp only [go_sem]
            exact ⟨(), (bks_mk hsc (.live _ _ _ _ (.same _) (.live _ _ _ _ (.same _) (.live _ _ _ _ (.same _) (.dead _ _ _ (.live _ _ _ _ (.same _) (.nil _)))))) (by simp) ⟨.same _, .same _, .same _, .same _, trivial⟩ (by simp))⟩
        · try simp only [go_sem]
          unfold grammarValidate_a0 at h
          refine awp_bks hb ?_
          (repeat refine awp_seq ?_); refine ev_region ?_; simp only [go_sem]
          (repeat refine awp_seq ?_); refine awp_len (t := 83) rfl fun hl1 => ?_
          simp only [rows_len] at hl1
          (repeat refine awp_seq ?_); refine awp_range (body := grammarValidate_b1 n a0 v4) (kk := grammarValidate_a1 n a0 v4) (n := a0.lexes.length) (s0 := ())
            (fun (gs1 : Unit) (k1 : Nat) (s1 : Unit) => [(1, .ptr st.length 0 0 0), (2, .ptr (st.length + 1) 0 0 0), (3, .ptr (st.length + 2) 0 0 0), (5, .ptr (st.length + 4) 0 0 0), (83, .sl false 9 144 (rows ApiLex.cells a0.lexes)), (84, .int .i64 (↑a0.lexes.length : Int)), (85, .int .i64 (↑k1 : Int))])
            (fun (gs1 : Unit) (k1 : Nat) (s1 : Unit) => st ++ [some (.arr 0 5 0 [[.sl false 2 40 (rows ApiType.cells a0.hierarchy.types), .sl false 3 32 (rows ApiFeat.cells a0.hierarchy.feats), .sl false 10 152 (rows ApiRule.cells a0.rules), .sl false 9 144 (rows ApiLex.cells a0.lexes), .sl false 2 32 (rows ApiNode.cells a0.start.nodes)]]), some (.arr 0 2 0 [[.int .i64 0, .int .i64 0]]), some (.arr 0 2 0 [[.sl false 2 40 (rows ApiType.cells a0.hierarchy.types), .sl false 3 32 (rows ApiFeat.cells a0.hierarchy.feats)]]), none, some (.arr 0 2 0 [[.sl false 1 8 (rows u64c v4.up), .sl false 1 8 (rows u64c v4.down)]])])
            (fun (gt1 : Unit) (t1 : Unit) => [(1, .ptr st.length 0 0 0), (2, .ptr (st.length + 1) 0 0 0), (3, .ptr (st.length + 2) 0 0 0), (5, .ptr (st.length + 4) 0 0 0)])
            (fun (gt1 : Unit) (t1 : Unit) => st ++ [some (.arr 0 5 0 [[.sl false 2 40 (rows ApiType.cells a0.hierarchy.types), .sl false 3 32 (rows ApiFeat.cells a0.hierarchy.feats), .sl false 10 152 (rows ApiRule.cells a0.rules), .sl false 9 144 (rows ApiLex.cells a0.lexes), .sl false 2 32 (rows ApiNode.cells a0.start.nodes)]]), some (.arr 0 2 0 [[.int .i64 0, .int .i64 0]]), some (.arr 0 2 0 [[.sl false 2 40 (rows ApiType.cells a0.hierarchy.types), .sl false 3 32 (rows ApiFeat.cells a0.hierarchy.feats)]]), none, some (.arr 0 2 0 [[.sl false 1 8 (rows u64c v4.up), .sl false 1 8 (rows u64c v4.down)]])])
            () h (bks_mk hsc (.live _ _ _ _ (.same _) (.live _ _ _ _ (.same _) (.live _ _ _ _ (.same _) (.dead _ _ _ (.live _ _ _ _ (.same _) (.nil _)))))) (by simp) ⟨.same _, .same _, .same _, .same _, .same _, .same _, .same _, trivial⟩ (by simp))
            (fun gs1 k1 s1 b1 hk1 h hx1 => ?_) (fun gs1 s1 => ?_) (fun gt1 t1 fr1 st1 h hb => ?_)
          · unfold grammarValidate_b1 at h
            have hw1 : wr .i64 ((↑k1 : Int) + 1) = (↑(k1 + 1) : Int) := wr_succ hk1 hl1 (by decide)
            (repeat refine awp_seq ?_); refine ev_region ?_; simp only [go_sem]
            (repeat refine awp_seq ?_); refine awp_cond (by rfl) (fun hc => ?_) fun hc => ?_
            · refine awp_skip ?_; try simp only [go_sem]
              (repeat refine awp_seq ?_); refine awp_block ?_
              (repeat refine awp_seq ?_); refine ev_region ?_; simp only [go_sem, hk1, hw1]
              (repeat refine awp_seq ?_); refine ev_region ?_; simp only [go_sem, hk1, hw1]
              obtain ⟨v19, hv19, h⟩ := bind_some h
              refine ((ok_lexruleEntry n _ _ _ _ hv19)).to ?_
              try simp only [go_sem, hk1, hw1]
              (repeat refine awp_seq ?_); refine ev_region ?_; simp only [go_sem, hk1, hw1]
              (repeat refine awp_seq ?_); refine awp_cond (by rfl) (fun hc => ?_) fun hc => ?_
              · replace h := cond_t h (by first | exact hc | simpa using hc)
                (repeat refine awp_seq ?_); refine ev_region ?_; simp only [go_sem, hk1, hw1]
                obtain ⟨v20, hv20, h⟩ := bind_some h
                refine ((ok_grammarFault _ _ _ hv20)).to ?_
                try simp only [go_sem, hk1, hw1]
                (repeat refine awp_seq ?_); refine awp_ret ?_
                try simp only [go_sem, hk1, hw1]
                obtain rfl := Option.some.inj h
                refine pbr_ret ?_; have hr := hx1 _ rfl; try simp only [go_sem, hk1, hw1]
                refine finb_of ?_; simp only [go_sem, hk1, hw1]
                exact fin_old' (d' := .agg [.int .i64 v20.code, .int .i64 v20.index]) hsc (.same _) (by simp) ⟨by subst hr; rfl, rfl⟩
              · replace h := cond_f h (by first | exact hc | simpa using hc)
                refine awp_skip ?_; try simp only [go_sem, hk1, hw1]
                (repeat refine awp_seq ?_); refine ev_region ?_; simp only [go_sem, hk1, hw1]
                cases h
                exact pbr_nxt () (bks_mk hsc (.live _ _ _ _ (.same _) (.live _ _ _ _ (.same _) (.live _ _ _ _ (.same _) (.dead _ _ _ (.live _ _ _ _ (.same _) (.nil _)))))) (by simp) ⟨.same _, .same _, .same _, .same _, .same _, .same _, .same _, trivial⟩ (by simp))
            · exfalso; have hc := of_decide_eq_false hc; omega
          · (repeat refine awp_seq ?_); refine ev_region ?_; simp only [go_sem]
            (repeat refine awp_seq ?_); refine awp_cond (by rfl) (fun hc => ?_) fun hc => ?_
            · exfalso; first | exact Bool.noConfusion hc | (have hc := of_decide_eq_true hc; omega)
            · refine awp_exit ?_; simp only [go_sem]
              exact ⟨(), (bks_mk hsc (.live _ _ _ _ (.same _) (.live _ _ _ _ (.same _) (.live _ _ _ _ (.same _) (.dead _ _ _ (.live _ _ _ _ (.same _) (.nil _)))))) (by simp) ⟨.same _, .same _, .same _, .same _, trivial⟩ (by simp))⟩
          · try simp only [go_sem]
            unfold grammarValidate_a1 at h
            refine awp_bks hb ?_
            (repeat refine awp_seq ?_); refine ev_region ?_; simp only [go_sem]
            obtain ⟨v21, hv21, h⟩ := bind_some h
            refine ((ok_graphWithin n _ _ _ _ hv21)).to ?_
            try simp only [go_sem]
            (repeat refine awp_seq ?_); refine ev_region ?_; simp only [go_sem]
            (repeat refine awp_seq ?_); refine awp_cond (by rfl) (fun hc => ?_) fun hc => ?_
            · replace h := cond_t h (by first | exact hc | simpa using hc)
              (repeat refine awp_seq ?_); refine ev_region ?_; simp only [go_sem]
              obtain ⟨v22, hv22, h⟩ := bind_some h
              refine ((ok_grammarFault _ _ _ hv22)).to ?_
              try simp only [go_sem]
              (repeat refine awp_seq ?_); refine awp_ret ?_
              try simp only [go_sem]
              have hr := Option.some.inj h
              refine finb_of ?_; simp only [go_sem]
              exact fin_old' (d' := .agg [.int .i64 v22.code, .int .i64 v22.index]) hsc (.same _) (by simp) ⟨by subst hr; rfl, rfl⟩
            · replace h := cond_f h (by first | exact hc | simpa using hc)
              refine awp_skip ?_; try simp only [go_sem]
              (repeat refine awp_seq ?_); refine ev_region ?_; simp only [go_sem]
              (repeat refine awp_seq ?_); refine awp_ret ?_
              try simp only [go_sem]
              have hr := Option.some.inj h
              refine finb_of ?_; simp only [go_sem]
              exact fin_old' (d' := .agg [.int .i64 0, .int .i64 0]) hsc (.same _) (by simp) ⟨by subst hr; rfl, rfl⟩


end Go.Proofs.YtaohdfpcdfbnlaaDoor

