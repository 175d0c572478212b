/-
  Each Go function of this part does what its plain Lean function says.
-/
import Derived.Test.YtaohdfpcdfbnlaaDoorBase
import Derived.Test.YtaohdfpcdfbnlaaDoorHand
import Derived.Test.YtaohdfpcdfbnlaaDoorMirrors
set_option linter.unusedVariables false
set_option linter.unusedSimpArgs false
namespace Go.Proofs.YtaohdfpcdfbnlaaDoor
open Go Go.Am

set_option maxHeartbeats 2000000 in
set_option maxRecDepth 100000 in
theorem ok_unicodeUtf8RuneCountInString (n : Nat) (a0 : Bs) (r : Int) (h : unicodeUtf8RuneCountInString n a0 = some r) : Pure Tryd.prog gl 66 [.str a0] (.int .i64 r) := by
  intro st
  unfold unicodeUtf8RuneCountInString at h
  refine spec_fb (N := 10) (rs := [.tmp 2]) (keep := [0, 2, 4, 6]) Tryd.func66 rfl rfl rfl (by kernel_rfl) rfl fun hsc => ?_
  (repeat refine awp_seq ?_); refine ev_region ?_; simp only [go_sem]
  (repeat refine awp_seq ?_); refine ev_region ?_; simp only [go_sem]
  (repeat refine awp_seq ?_); refine awp_while (body := unicodeUtf8RuneCountInString_b0 a0) (kk := unicodeUtf8RuneCountInString_a0) (n := n) (s0 := (0, 0))
    (fun (gs0 : Unit) (s0 : Nat × Int) => [(2, .int .i64 s0.2), (4, .it st.length)])
    (fun (gs0 : Unit) (s0 : Nat × Int) => st ++ [some (.sit a0 s0.1)])
    (fun (gt0 : Unit) (t0 : Int) => [(2, .int .i64 t0)])
    (fun (gt0 : Unit) (t0 : Int) => st)
    () h (bks_mk hsc (.live _ _ _ _ (.same _) (.nil _)) (by simp) ⟨.same _, .same _, trivial⟩ (by simp))
    (fun gs0 s0 b0 h hx0 => ?_) (fun gt0 t0 fr1 st1 h hb => ?_)
  · unfold unicodeUtf8RuneCountInString_b0 at h
    (repeat refine awp_seq ?_); refine ev_region ?_; simp only [go_sem]
    (repeat refine awp_seq ?_); refine awp_cond (by rfl) (fun hc => ?_) fun hc => ?_
    · replace h := cond_t h (by first | exact hc | simpa using hc)
      refine awp_skip ?_; try simp only [go_sem]
      (repeat refine awp_seq ?_); refine awp_block ?_
      (repeat refine awp_seq ?_); refine ev_region ?_; simp only [go_sem]
      cases h
      exact pbw_nxt () (bks_mk hsc (.live _ _ _ _ (.same _) (.nil _)) (by simp) ⟨.same _, .same _, trivial⟩ (by simp))
    · replace h := cond_f h (by first | exact hc | simpa using hc)
      (repeat refine awp_seq ?_); refine awp_exit ?_; try simp only [go_sem]
      cases h
      exact pbw_brk () (bks_mk0 hsc ⟨.same _, trivial⟩ (by simp))
  · try simp only [go_sem]
    unfold unicodeUtf8RuneCountInString_a0 at h
    refine awp_bks hb ?_
    (repeat refine awp_seq ?_); refine ev_region ?_; simp only [go_sem]
    (repeat refine awp_seq ?_); refine awp_ret ?_
    try simp only [go_sem]
    have hr := Option.some.inj h
    refine finb_of ?_; simp only [go_sem]
    exact fin_same' (d' := .int .i64 t0) hsc (.same _) (by simp) ⟨by subst hr; rfl, rfl⟩

set_option maxHeartbeats 2000000 in
set_option maxRecDepth 100000 in
theorem ok_unicodeUtf8WordString (a0 : Bs) (r : Int) (h : unicodeUtf8WordString a0 = some r) : Pure Tryd.prog gl 75 [.str a0] (.int .u64 r) := by
  intro st
  unfold unicodeUtf8WordString at h
  refine spec_fb (N := 59) (rs := [.tmp 2]) (keep := [0, 2]) Tryd.func75 rfl rfl rfl (by kernel_rfl) rfl fun hsc => ?_
  (repeat refine awp_seq ?_); refine ev_region ?_; simp only [go_sem]
  (repeat refine awp_seq ?_); refine awp_cond (by rfl) (fun hc => ?_) fun hc => ?_
  · replace h := cond_t h (by first | exact hc | simpa using hc)
    obtain ⟨f1, h⟩ := chk_some h
    obtain ⟨f2, h⟩ := chk_some h
    obtain ⟨f3, h⟩ := chk_some h
    obtain ⟨f4, h⟩ := chk_some h
    (repeat refine awp_seq ?_); refine ev_draw_region [] 0 follows (by kernel_rfl) (by rfl) ?_; simp only [go_sem, List.replicate_succ, List.replicate_zero, f1, f2, f3, f4]
    (repeat refine awp_seq ?_); refine awp_ret ?_
    try simp only [go_sem, f1, f2, f3, f4]
    have hr := Option.some.inj h
    refine finb_of ?_; simp only [go_sem, f1, f2, f3, f4]
    exact fin_same' (d' := .int .u64 (bitop .or .u64 (bitop .or .u64 (bitop .or .u64 (wr .u64 (byteAt a0 0)) (wr .u64 ((wr .u64 (byteAt a0 1)) * 2 ^ (min 8 64)))) (wr .u64 ((wr .u64 (byteAt a0 2)) * 2 ^ (min 16 64)))) (wr .u64 ((wr .u64 (byteAt a0 3)) * 2 ^ (min 24 64))))) hsc (.same _) (by simp) ⟨by subst hr; rfl, rfl⟩
  · replace h := cond_f h (by first | exact hc | simpa using hc)
    refine awp_skip ?_; try simp only [go_sem]
    obtain ⟨f5, h⟩ := chk_some h
    obtain ⟨f6, h⟩ := chk_some h
    obtain ⟨f7, h⟩ := chk_some h
    obtain ⟨f8, h⟩ := chk_some h
    obtain ⟨f9, h⟩ := chk_some h
    obtain ⟨f10, h⟩ := chk_some h
    obtain ⟨f11, h⟩ := chk_some h
    obtain ⟨f12, h⟩ := chk_some h
    (repeat refine awp_seq ?_); refine ev_draw_region [] 0 follows (by kernel_rfl) (by rfl) ?_; simp only [go_sem, List.replicate_succ, List.replicate_zero, f5, f6, f7, f8, f9, f10, f11, f12]
    (repeat refine awp_seq ?_); refine awp_ret ?_
    try simp only [go_sem, f5, f6, f7, f8, f9, f10, f11, f12]
    have hr := Option.some.inj h
    refine finb_of ?_; simp only [go_sem, f5, f6, f7, f8, f9, f10, f11, f12]
    exact fin_same' (d' := .int .u64 (bitop .or .u64 (bitop .or .u64 (bitop .or .u64 (bitop .or .u64 (bitop .or .u64 (bitop .or .u64 (bitop .or .u64 (wr .u64 (byteAt a0 0)) (wr .u64 ((wr .u64 (byteAt a0 1)) * 2 ^ (min 8 64)))) (wr .u64 ((wr .u64 (byteAt a0 2)) * 2 ^ (min 16 64)))) (wr .u64 ((wr .u64 (byteAt a0 3)) * 2 ^ (min 24 64)))) (wr .u64 ((wr .u64 (byteAt a0 4)) * 2 ^ (min 32 64)))) (wr .u64 ((wr .u64 (byteAt a0 5)) * 2 ^ (min 40 64)))) (wr .u64 ((wr .u64 (byteAt a0 6)) * 2 ^ (min 48 64)))) (wr .u64 ((wr .u64 (byteAt a0 7)) * 2 ^ (min 56 64))))) hsc (.same _) (by simp) ⟨by subst hr; rfl, rfl⟩

set_option maxHeartbeats 2000000 in
set_option maxRecDepth 100000 in
theorem ok_unicodeUtf8ValidString (n : Nat) (a0 : Bs) (r : Bool) (h : unicodeUtf8ValidString n a0 = some r) : Pure Tryd.prog gl 67 [.str a0] (.bool r) := by
  intro st
  unfold unicodeUtf8ValidString at h
  refine spec_fb (N := 169) (rs := [.tmp 2]) (keep := [0, 2, 3, 4, 5, 6, 9, 13, 20, 21, 22, 23, 24, 31, 32, 33, 34, 35, 36, 37, 38, 39, 46, 47, 48, 49, 50, 51, 52, 53, 54, 55, 56, 57, 58, 59, 60, 61, 62, 75, 76, 82, 83, 84, 85, 86, 89, 90, 91, 92, 93, 94, 97, 103, 104, 105, 106, 107, 110, 111, 112, 113, 114, 117, 118, 119, 122, 123, 124, 125, 128, 134, 135, 136, 137, 138, 141, 142, 143, 144, 145, 148, 149, 150, 153, 154, 155, 158, 159, 160, 163, 164, 165, 166]) Tryd.func67 rfl rfl rfl (by kernel_rfl) rfl fun hsc => ?_
  (repeat refine awp_seq ?_); refine ev_region ?_; simp only [go_sem]
  (repeat refine awp_seq ?_); refine awp_while (body := unicodeUtf8ValidString_b0 n) (kk := unicodeUtf8ValidString_a0) (n := n) (s0 := a0)
    (fun (gs0 : Unit) (s0 : Bs) => [(0, .str s0)])
    (fun (gs0 : Unit) (s0 : Bs) => st)
    (fun (gt0 : Unit) (t0 : Unit) => [])
    (fun (gt0 : Unit) (t0 : Unit) => st)
    () h (bks_mk00 hsc ⟨.same _, trivial⟩ (by simp))
    (fun gs0 s0 b0 h hx0 => ?_) (fun gt0 t0 fr1 st1 h hb => ?_)
  · unfold unicodeUtf8ValidString_b0 at h
    (repeat refine awp_seq ?_); refine ev_region ?_; simp only [go_sem]
    (repeat refine awp_seq ?_); refine awp_cond (by rfl) (fun hc => ?_) fun hc => ?_
    · replace h := cond_t h (by first | exact hc | simpa using hc)
      refine awp_skip ?_; try simp only [go_sem]
      (repeat refine awp_seq ?_); refine awp_block ?_
      obtain ⟨f75, h⟩ := chk_some h
      (repeat refine awp_seq ?_); refine ev_region ?_; simp only [go_sem, f75]
      (repeat refine awp_seq ?_); refine ev_region ?_; simp only [go_sem, f75]
      (repeat refine awp_seq ?_); refine awp_cond (by rfl) (fun hc => ?_) fun hc => ?_
      · replace h := cond_t h (by first | exact hc | simpa using hc)
        obtain ⟨⟨f76, f77⟩, h⟩ := chk_some h
        (repeat refine awp_seq ?_); refine ev_region ?_; simp only [go_sem, f75, f76, f77]
        (repeat refine awp_seq ?_); refine ev_region ?_; simp only [go_sem, f75, f76, f77]
        obtain ⟨v78, hv78, h⟩ := bind_some h
        refine gc_pure (fun hG => (ok_unicodeUtf8WordString _ _ (gd_t hv78 (by simpa using hG)))) ?_
        try simp only [go_sem, f75, f76, f77]
        (repeat refine awp_seq ?_); refine awp_jn (unicodeUtf8ValidString_j3) b0 (fun (gj3 : Unit) (j3 : Bs) => [(0, .str j3)]) (fun (gj3 : Unit) (j3 : Bs) => st) (fun gj3 j3 fr1 st1 h hb => ?_) (fun hj3 => ?_)
        · try simp only [go_sem, f75, f76, f77]
          unfold unicodeUtf8ValidString_j3 at h
          refine awp_bks hb ?_
          (repeat refine awp_seq ?_); refine awp_exit ?_; try simp only [go_sem, f75, f76, f77]
          cases h
          exact pbw_nxt () (bks_mk00 hsc ⟨.same _, trivial⟩ (by simp))
        · (repeat refine awp_seq ?_); refine awp_cond (by rfl) (fun hc => ?_) fun hc => ?_
          · replace h := cond_t h (by first | exact hc | simpa using hc)
            obtain ⟨⟨f79, f80⟩, h⟩ := chk_some h
            (repeat refine awp_seq ?_); refine ev_region ?_; simp only [go_sem, f75, f76, f77, f79, f80]
            (repeat refine awp_seq ?_); refine ev_draw_region [] 0 follows (by kernel_rfl) (by rfl) ?_; simp only [go_sem, List.replicate_succ, List.replicate_zero, f75, f76, f77, f79, f80]
            obtain ⟨v81, hv81, h⟩ := bind_some h
            refine dgc_pure (fun hG => (ok_unicodeUtf8WordString _ _ (gd_t hv81 (by simpa using hG)))) ?_
            obtain ⟨f83, h⟩ := chk_some h
            try simp only [go_sem, f75, f76, f77, f79, f80, f83]
            obtain ⟨v84, hv84, h⟩ := bind_some h
            refine dgc_pure (fun hG => (ok_unicodeUtf8WordString _ _ (gd_t hv84 (by simpa using hG)))) ?_
            try simp only [go_sem, f75, f76, f77, f79, f80, f83]
            (repeat refine awp_seq ?_); refine awp_cond (by rfl) (fun hc => ?_) fun hc => ?_
            · replace h := cond_t h (by first | exact hc | simpa using hc)
              obtain ⟨⟨f85, f86⟩, h⟩ := chk_some h
              (repeat refine awp_seq ?_); refine ev_region ?_; simp only [go_sem, f75, f76, f77, f79, f80, f83, f85, f86]
              (repeat refine awp_seq ?_); refine awp_while (body := unicodeUtf8ValidString_b4) (kk := unicodeUtf8ValidString_a4) (n := n) (s0 := (((s0.drop 1).drop 8).drop 16))
                (fun (gs4 : Unit) (s4 : Bs) => [(0, .str s4)])
                (fun (gs4 : Unit) (s4 : Bs) => st)
                (fun (gt4 : Unit) (t4 : Bs) => [(0, .str t4)])
                (fun (gt4 : Unit) (t4 : Bs) => st)
                () h (bks_mk00 hsc ⟨.same _, trivial⟩ (by simp))
                (fun gs4 s4 b4 h hx4 => ?_) (fun gt4 t4 fr1 st1 h hb => ?_)
              · unfold unicodeUtf8ValidString_b4 at h
                (repeat refine awp_seq ?_); refine ev_draw_region [] 0 follows (by kernel_rfl) (by rfl) ?_; simp only [go_sem, List.replicate_succ, List.replicate_zero, f75, f76, f77, f79, f80, f83, f85, f86]
                obtain ⟨v100, hv100, h⟩ := bind_some h
                refine dgc_pure (fun hG => (ok_unicodeUtf8WordString _ _ (gd_t hv100 (by simpa using hG)))) ?_
                obtain ⟨f102, h⟩ := chk_some h
                try simp only [go_sem, f75, f76, f77, f79, f80, f83, f85, f86, f102]
                obtain ⟨v103, hv103, h⟩ := bind_some h
                refine dgc_pure (fun hG => (ok_unicodeUtf8WordString _ _ (gd_t hv103 (by simpa using hG)))) ?_
                obtain ⟨f105, h⟩ := chk_some h
                try simp only [go_sem, f75, f76, f77, f79, f80, f83, f85, f86, f102, f105]
                obtain ⟨v106, hv106, h⟩ := bind_some h
                refine dgc_pure (fun hG => (ok_unicodeUtf8WordString _ _ (gd_t hv106 (by simpa using hG)))) ?_
                obtain ⟨⟨f108, f109⟩, h⟩ := chk_some h
                try simp only [go_sem, f75, f76, f77, f79, f80, f83, f85, f86, f102, f105, f108, f109]
                obtain ⟨v110, hv110, h⟩ := bind_some h
                refine dgc_pure (fun hG => (ok_unicodeUtf8WordString _ _ (gd_t hv110 (by simpa using hG)))) ?_
                try simp only [go_sem, f75, f76, f77, f79, f80, f83, f85, f86, f102, f105, f108, f109]
                (repeat refine awp_seq ?_); refine awp_cond (by rfl) (fun hc => ?_) fun hc => ?_
                · replace h := cond_t h (by first | exact hc | simpa using hc)
                  refine awp_skip ?_; try simp only [go_sem, f75, f76, f77, f79, f80, f83, f85, f86, f102, f105, f108, f109]
                  (repeat refine awp_seq ?_); refine awp_block ?_
                  obtain ⟨⟨f111, f112⟩, h⟩ := chk_some h
                  (repeat refine awp_seq ?_); refine ev_region ?_; simp only [go_sem, f75, f76, f77, f79, f80, f83, f85, f86, f102, f105, f108, f109, f111, f112]
                  cases h
                  exact pbw_nxt () (bks_mk00 hsc ⟨.same _, trivial⟩ (by simp))
                · replace h := cond_f h (by first | exact hc | simpa using hc)
                  (repeat refine awp_seq ?_); refine awp_exit ?_; try simp only [go_sem, f75, f76, f77, f79, f80, f83, f85, f86, f102, f105, f108, f109]
                  cases h
                  exact pbw_brk () (bks_mk00 hsc ⟨.same _, trivial⟩ (by simp))
              · try simp only [go_sem, f75, f76, f77, f79, f80, f83, f85, f86]
                unfold unicodeUtf8ValidString_a4 at h
                exact hj3 () _ _ _ h (hb.trans (bks_mk00 hsc ⟨.same _, trivial⟩ (by simp)))
            · replace h := cond_f h (by first | exact hc | simpa using hc)
              refine awp_skip ?_; try simp only [go_sem, f75, f76, f77, f79, f80, f83]
              exact hj3 () _ _ _ h (bks_mk00 hsc ⟨.same _, trivial⟩ (by simp))
          · replace h := cond_f h (by first | exact hc | simpa using hc)
            refine awp_skip ?_; try simp only [go_sem, f75, f76, f77]
            exact hj3 () _ _ _ h (bks_mk00 hsc ⟨.same _, trivial⟩ (by simp))
      · replace h := cond_f h (by first | exact hc | simpa using hc)
        refine awp_skip ?_; try simp only [go_sem, f75]
        obtain ⟨⟨f113, f114⟩, h⟩ := chk_some h
        have e115 : Am.rowAt (gcells u8c tab1) ((byteAt s0 0).toNat) 1 = u8c (get tab1 ((byteAt s0 0).toNat)) := rowAt_row (fun _ => rfl) (show _ < tab1.length by rw [tab1_len]; first | omega | (simp; omega))
        (repeat refine awp_seq ?_); refine ev_region ?_; simp only [go_sem, f75, f113, f114, e115]
        (repeat refine awp_seq ?_); refine ev_region ?_; simp only [go_sem, f75, f113, f114]
        obtain ⟨⟨f116, f117⟩, h⟩ := chk_some h
        have e118 : Am.rowAt (gcells Utf8AcceptRange.cells tab2) ((Int.fdiv (get tab1 ((byteAt s0 0).toNat)) (2 ^ (min 4 8))).toNat) 2 = Utf8AcceptRange.cells (get tab2 ((Int.fdiv (get tab1 ((byteAt s0 0).toNat)) (2 ^ (min 4 8))).toNat)) := rowAt_row (fun _ => rfl) (show _ < tab2.length by rw [tab2_len]; first | omega | (simp; omega))
        (repeat refine awp_seq ?_); refine ev_region ?_; simp only [go_sem, f75, f113, f114, f116, f117, e118]
        (repeat refine awp_seq ?_); refine ev_region ?_; simp only [go_sem, f75, f113, f114, f116, f117]
        (repeat refine awp_seq ?_); refine awp_block ?_
        (repeat refine awp_seq ?_); refine ev_region ?_; simp only [go_sem, f75, f113, f114, f116, f117]
        (repeat refine awp_seq ?_); refine awp_cond (by rfl) (fun hc => ?_) fun hc => ?_
        · replace h := cond_t h (by first | exact hc | simpa using hc)
          obtain ⟨f120, h⟩ := chk_some h
          obtain ⟨f122, h⟩ := chk_some h
          (repeat refine awp_seq ?_); refine ev_draw_region [] 0 follows (by kernel_rfl) (by rfl) ?_; simp only [go_sem, List.replicate_succ, List.replicate_zero, f75, f113, f114, f116, f117, f120, f122]
          (repeat refine awp_seq ?_); refine awp_cond (by rfl) (fun hc => ?_) fun hc => ?_
          · replace h := cond_t h (by first | exact hc | simpa using hc)
            (repeat refine awp_seq ?_); refine ev_region ?_; simp only [go_sem, f75, f113, f114, f116, f117, f120, f122]
            (repeat refine awp_seq ?_); refine awp_ret ?_
            try simp only [go_sem, f75, f113, f114, f116, f117, f120, f122]
            obtain rfl := Option.some.inj h
            refine pbw_ret ?_; have hr := hx0 _ rfl; try simp only [go_sem, f75, f113, f114, f116, f117, f120, f122]
            refine finb_of ?_; simp only [go_sem, f75, f113, f114, f116, f117, f120, f122]
            exact fin_old' (d' := .bool false) hsc (.same _) (by simp) ⟨by subst hr; rfl, rfl⟩
          · replace h := cond_f h (by first | exact hc | simpa using hc)
            refine awp_skip ?_; try simp only [go_sem, f75, f113, f114, f116, f117, f120, f122]
            obtain ⟨⟨f123, f124⟩, h⟩ := chk_some h
            (repeat refine awp_seq ?_); refine ev_region ?_; simp only [go_sem, f75, f113, f114, f116, f117, f120, f122, f123, f124]
            cases h
            exact pbw_nxt () (bks_mk0 hsc ⟨.same _, trivial⟩ (by simp))
        · replace h := cond_f h (by first | exact hc | simpa using hc)
          (repeat refine awp_seq ?_); refine ev_region ?_; simp only [go_sem, f75, f113, f114, f116, f117]
          (repeat refine awp_seq ?_); refine awp_cond (by rfl) (fun hc => ?_) fun hc => ?_
          · replace h := cond_t h (by first | exact hc | simpa using hc)
            obtain ⟨f126, h⟩ := chk_some h
            obtain ⟨f128, h⟩ := chk_some h
            obtain ⟨f130, h⟩ := chk_some h
            obtain ⟨f132, h⟩ := chk_some h
            (repeat refine awp_seq ?_); refine ev_draw_region [] 0 follows (by kernel_rfl) (by rfl) ?_; simp only [go_sem, List.replicate_succ, List.replicate_zero, f75, f113, f114, f116, f117, f126, f128, f130, f132]
            (repeat refine awp_seq ?_); refine awp_cond (by rfl) (fun hc => ?_) fun hc => ?_
            · replace h := cond_t h (by first | exact hc | simpa using hc)
              (repeat refine awp_seq ?_); refine ev_region ?_; simp only [go_sem, f75, f113, f114, f116, f117, f126, f128, f130, f132]
              (repeat refine awp_seq ?_); refine awp_ret ?_
              try simp only [go_sem, f75, f113, f114, f116, f117, f126, f128, f130, f132]
              obtain rfl := Option.some.inj h
              refine pbw_ret ?_; have hr := hx0 _ rfl; try simp only [go_sem, f75, f113, f114, f116, f117, f126, f128, f130, f132]
              refine finb_of ?_; simp only [go_sem, f75, f113, f114, f116, f117, f126, f128, f130, f132]
              exact fin_old' (d' := .bool false) hsc (.same _) (by simp) ⟨by subst hr; rfl, rfl⟩
            · replace h := cond_f h (by first | exact hc | simpa using hc)
              refine awp_skip ?_; try simp only [go_sem, f75, f113, f114, f116, f117, f126, f128, f130, f132]
              obtain ⟨⟨f133, f134⟩, h⟩ := chk_some h
              (repeat refine awp_seq ?_); refine ev_region ?_; simp only [go_sem, f75, f113, f114, f116, f117, f126, f128, f130, f132, f133, f134]
              cases h
              exact pbw_nxt () (bks_mk0 hsc ⟨.same _, trivial⟩ (by simp))
          · replace h := cond_f h (by first | exact hc | simpa using hc)
            (repeat refine awp_seq ?_); refine ev_region ?_; simp only [go_sem, f75, f113, f114, f116, f117]
            (repeat refine awp_seq ?_); refine awp_cond (by rfl) (fun hc => ?_) fun hc => ?_
            · replace h := cond_t h (by first | exact hc | simpa using hc)
              obtain ⟨f136, h⟩ := chk_some h
              obtain ⟨f138, h⟩ := chk_some h
              obtain ⟨f140, h⟩ := chk_some h
              obtain ⟨f142, h⟩ := chk_some h
              obtain ⟨f144, h⟩ := chk_some h
              obtain ⟨f146, h⟩ := chk_some h
              (repeat refine awp_seq ?_); refine ev_draw_region [] 0 follows (by kernel_rfl) (by rfl) ?_; simp only [go_sem, List.replicate_succ, List.replicate_zero, f75, f113, f114, f116, f117, f136, f138, f140, f142, f144, f146]
              (repeat refine awp_seq ?_); refine awp_cond (by rfl) (fun hc => ?_) fun hc => ?_
              · replace h := cond_t h (by first | exact hc | simpa using hc)
                (repeat refine awp_seq ?_); refine ev_region ?_; simp only [go_sem, f75, f113, f114, f116, f117, f136, f138, f140, f142, f144, f146]
                (repeat refine awp_seq ?_); refine awp_ret ?_
                try simp only [go_sem, f75, f113, f114, f116, f117, f136, f138, f140, f142, f144, f146]
                obtain rfl := Option.some.inj h
                refine pbw_ret ?_; have hr := hx0 _ rfl; try simp only [go_sem, f75, f113, f114, f116, f117, f136, f138, f140, f142, f144, f146]
                refine finb_of ?_; simp only [go_sem, f75, f113, f114, f116, f117, f136, f138, f140, f142, f144, f146]
                exact fin_old' (d' := .bool false) hsc (.same _) (by simp) ⟨by subst hr; rfl, rfl⟩
              · replace h := cond_f h (by first | exact hc | simpa using hc)
                refine awp_skip ?_; try simp only [go_sem, f75, f113, f114, f116, f117, f136, f138, f140, f142, f144, f146]
                obtain ⟨⟨f147, f148⟩, h⟩ := chk_some h
                (repeat refine awp_seq ?_); refine ev_region ?_; simp only [go_sem, f75, f113, f114, f116, f117, f136, f138, f140, f142, f144, f146, f147, f148]
                cases h
                exact pbw_nxt () (bks_mk0 hsc ⟨.same _, trivial⟩ (by simp))
            · replace h := cond_f h (by first | exact hc | simpa using hc)
              (repeat refine awp_seq ?_); refine ev_region ?_; simp only [go_sem, f75, f113, f114, f116, f117]
              (repeat refine awp_seq ?_); refine awp_ret ?_
              try simp only [go_sem, f75, f113, f114, f116, f117]
              obtain rfl := Option.some.inj h
              refine pbw_ret ?_; have hr := hx0 _ rfl; try simp only [go_sem, f75, f113, f114, f116, f117]
              refine finb_of ?_; simp only [go_sem, f75, f113, f114, f116, f117]
              exact fin_old' (d' := .bool false) hsc (.same _) (by simp) ⟨by subst hr; rfl, rfl⟩
    · replace h := cond_f h (by first | exact hc | simpa using hc)
      (repeat refine awp_seq ?_); refine awp_exit ?_; try simp only [go_sem]
      cases h
      exact pbw_brk () (bks_mk00 hsc trivial (by simp))
  · try simp only [go_sem]
    unfold unicodeUtf8ValidString_a0 at h
    refine awp_bks hb ?_
    (repeat refine awp_seq ?_); refine ev_region ?_; simp only [go_sem]
    (repeat refine awp_seq ?_); refine awp_ret ?_
    try simp only [go_sem]
    have hr := Option.some.inj h
    refine finb_of ?_; simp only [go_sem]
    exact fin_same' (d' := .bool true) hsc (.same _) (by simp) ⟨by subst hr; rfl, rfl⟩

set_option maxHeartbeats 2000000 in
set_option maxRecDepth 100000 in
theorem ok_stringsIndexByte (a0 : Bs) (a1 : Int) (r : Int) (h : stringsIndexByte a0 a1 = some r) : Pure Tryd.prog gl 82 [.str a0, .int .u8 a1] (.int .i64 r) := by
  intro st
  unfold stringsIndexByte at h
  refine spec_fb (N := 8) (rs := [.tmp 4]) (keep := [0, 1, 4]) Tryd.func82 rfl rfl rfl (by kernel_rfl) rfl fun hsc => ?_
  (repeat refine awp_seq ?_); refine ev_region ?_; simp only [go_sem]
  (repeat refine awp_seq ?_); refine ev_region ?_; simp only [go_sem]
  obtain ⟨v1, hv1, h⟩ := bind_some h
  refine ((ok_indexByte _ _ _ hv1)).to ?_
  try simp only [go_sem]
  (repeat refine awp_seq ?_); refine awp_ret ?_
  try simp only [go_sem]
  have hr := Option.some.inj h
  refine finb_of ?_; simp only [go_sem]
  exact fin_same' (d' := .int .i64 v1) hsc (.same _) (by simp) ⟨by subst hr; rfl, rfl⟩

set_option maxHeartbeats 2000000 in
set_option maxRecDepth 100000 in
theorem ok_unicodeUtf8ValidRune (a0 : Int) (r : Bool) (h : unicodeUtf8ValidRune a0 = some r) : Pure Tryd.prog gl 83 [.int .i32 a0] (.bool r) := by
  intro st
  unfold unicodeUtf8ValidRune at h
  refine spec_fb (N := 17) (rs := [.tmp 2]) (keep := [0, 2, 3, 7, 8, 10, 14, 15]) Tryd.func83 rfl rfl rfl (by kernel_rfl) rfl fun hsc => ?_
  (repeat refine awp_seq ?_); refine ev_region ?_; simp only [go_sem]
  (repeat refine awp_seq ?_); refine awp_block ?_
  (repeat refine awp_seq ?_); refine ev_region ?_; simp only [go_sem]
  (repeat refine awp_seq ?_); refine awp_cond (by rfl) (fun hc => ?_) fun hc => ?_
  · replace h := cond_t h (by first | exact hc | simpa using hc)
    (repeat refine awp_seq ?_); refine ev_region ?_; simp only [go_sem]
    (repeat refine awp_seq ?_); refine awp_ret ?_
    try simp only [go_sem]
    have hr := Option.some.inj h
    refine finb_of ?_; simp only [go_sem]
    exact fin_same' (d' := .bool true) hsc (.same _) (by simp) ⟨by subst hr; rfl, rfl⟩
  · replace h := cond_f h (by first | exact hc | simpa using hc)
    (repeat refine awp_seq ?_); refine ev_region ?_; simp only [go_sem]
    (repeat refine awp_seq ?_); refine awp_cond (by rfl) (fun hc => ?_) fun hc => ?_
    · replace h := cond_t h (by first | exact hc | simpa using hc)
      (repeat refine awp_seq ?_); refine ev_region ?_; simp only [go_sem]
      (repeat refine awp_seq ?_); refine awp_ret ?_
      try simp only [go_sem]
      have hr := Option.some.inj h
      refine finb_of ?_; simp only [go_sem]
      exact fin_same' (d' := .bool true) hsc (.same _) (by simp) ⟨by subst hr; rfl, rfl⟩
    · replace h := cond_f h (by first | exact hc | simpa using hc)
      refine awp_skip ?_; try simp only [go_sem]
      (repeat refine awp_seq ?_); refine ev_region ?_; simp only [go_sem]
      (repeat refine awp_seq ?_); refine awp_ret ?_
      try simp only [go_sem]
      have hr := Option.some.inj h
      refine finb_of ?_; simp only [go_sem]
      exact fin_same' (d' := .bool false) hsc (.same _) (by simp) ⟨by subst hr; rfl, rfl⟩

set_option maxHeartbeats 2000000 in
set_option maxRecDepth 100000 in
theorem ok_stringsIndexRune (n : Nat) (a0 : Bs) (a1 : Int) (r : Int) (h : stringsIndexRune n a0 a1 = some r) : Pure Tryd.prog gl 78 [.str a0, .int .i32 a1] (.int .i64 r) := by
  intro st
  unfold stringsIndexRune at h
  refine spec_fb (N := 187) (rs := [.tmp 4]) (keep := [0, 1, 4, 5, 6, 7, 8, 9, 10, 11, 12, 13, 14, 15, 16, 26, 33, 43, 51, 64, 73, 74, 75, 76, 79, 80, 81, 82, 85, 86, 87, 88, 89, 90, 91, 92, 93, 94, 95, 96, 97, 98, 108, 124, 133, 134, 135, 136, 137, 138, 139, 143, 156, 160, 164, 165, 171, 175, 176, 177, 181, 183]) Tryd.func78 rfl rfl rfl (by kernel_rfl) rfl fun hsc => ?_
  (repeat refine awp_seq ?_); refine ev_region ?_; simp only [go_sem]
  (repeat refine awp_seq ?_); refine awp_block ?_
  (repeat refine awp_seq ?_); refine ev_region ?_; simp only [go_sem]
  (repeat refine awp_seq ?_); refine awp_cond (by rfl) (fun hc => ?_) fun hc => ?_
  · replace h := cond_t h (by first | exact hc | simpa using hc)
    (repeat refine awp_seq ?_); refine ev_region ?_; simp only [go_sem]
    obtain ⟨v1, hv1, h⟩ := bind_some h
    refine ((ok_stringsIndexByte _ _ _ hv1)).to ?_
    try simp only [go_sem]
    (repeat refine awp_seq ?_); refine awp_ret ?_
    try simp only [go_sem]
    have hr := Option.some.inj h
    refine finb_of ?_; simp only [go_sem]
    exact fin_same' (d' := .int .i64 v1) hsc (.same _) (by simp) ⟨by subst hr; rfl, rfl⟩
  · replace h := cond_f h (by first | exact hc | simpa using hc)
    (repeat refine awp_seq ?_); refine ev_region ?_; simp only [go_sem]
    (repeat refine awp_seq ?_); refine awp_cond (by rfl) (fun hc => ?_) fun hc => ?_
    · replace h := cond_t h (by first | exact hc | simpa using hc)
      (repeat refine awp_seq ?_); refine ev_region ?_; simp only [go_sem]
      (repeat refine awp_seq ?_); refine awp_while (body := stringsIndexRune_b0 a0) (kk := stringsIndexRune_a0) (n := n) (s0 := 0)
        (fun (gs0 : Unit) (s0 : Nat) => [(175, .it st.length)])
        (fun (gs0 : Unit) (s0 : Nat) => st ++ [some (.sit a0 s0)])
        (fun (gt0 : Unit) (t0 : Unit) => [])
        (fun (gt0 : Unit) (t0 : Unit) => st)
        () h (bks_mk hsc (.live _ _ _ _ (.same _) (.nil _)) (by simp) ⟨.same _, trivial⟩ (by simp))
        (fun gs0 s0 b0 h hx0 => ?_) (fun gt0 t0 fr1 st1 h hb => ?_)
      · unfold stringsIndexRune_b0 at h
        (repeat refine awp_seq ?_); refine ev_region ?_; simp only [go_sem]
        (repeat refine awp_seq ?_); refine awp_cond (by rfl) (fun hc => ?_) fun hc => ?_
        · replace h := cond_t h (by first | exact hc | simpa using hc)
          refine awp_skip ?_; try simp only [go_sem]
          (repeat refine awp_seq ?_); refine awp_block ?_
          obtain ⟨f3, h⟩ := chk_some h
          (repeat refine awp_seq ?_); refine ev_region ?_; simp only [go_sem, f3]
          (repeat refine awp_seq ?_); refine ev_region ?_; simp only [go_sem, f3]
          (repeat refine awp_seq ?_); refine awp_cond (by rfl) (fun hc => ?_) fun hc => ?_
          · replace h := cond_t h (by first | exact hc | simpa using hc)
            (repeat refine awp_seq ?_); refine ev_region ?_; simp only [go_sem, f3]
            (repeat refine awp_seq ?_); refine awp_ret ?_
            try simp only [go_sem, f3]
            obtain rfl := Option.some.inj h
            refine pbw_ret ?_; have hr := hx0 _ rfl; try simp only [go_sem, f3]
            refine finb_of ?_; simp only [go_sem, f3]
            exact fin_old' (d' := .int .i64 (↑s0 : Int)) hsc (.same _) (by simp) ⟨by subst hr; rfl, rfl⟩
          · replace h := cond_f h (by first | exact hc | simpa using hc)
            refine awp_skip ?_; try simp only [go_sem, f3]
            cases h
            exact pbw_nxt () (bks_mk hsc (.live _ _ _ _ (.same _) (.nil _)) (by simp) ⟨.same _, trivial⟩ (by simp))
        · replace h := cond_f h (by first | exact hc | simpa using hc)
          (repeat refine awp_seq ?_); refine awp_exit ?_; try simp only [go_sem]
          cases h
          exact pbw_brk () (bks_mk0 hsc trivial (by simp))
      · try simp only [go_sem]
        unfold stringsIndexRune_a0 at h
        refine awp_bks hb ?_
        (repeat refine awp_seq ?_); refine ev_region ?_; simp only [go_sem]
        (repeat refine awp_seq ?_); refine awp_ret ?_
        try simp only [go_sem]
        have hr := Option.some.inj h
        refine finb_of ?_; simp only [go_sem]
        exact fin_same' (d' := .int .i64 (-1)) hsc (.same _) (by simp) ⟨by subst hr; rfl, rfl⟩
    · replace h := cond_f h (by first | exact hc | simpa using hc)
      (repeat refine awp_seq ?_); refine ev_region ?_; simp only [go_sem]
      obtain ⟨v4, hv4, h⟩ := bind_some h
      refine ((ok_unicodeUtf8ValidRune _ _ hv4)).to ?_
      try simp only [go_sem]
      (repeat refine awp_seq ?_); refine awp_cond (by rfl) (fun hc => ?_) fun hc => ?_
      · replace h := cond_t h (by first | exact hc | simpa using hc)
        (repeat refine awp_seq ?_); refine ev_region ?_; simp only [go_sem]
        (repeat refine awp_seq ?_); refine awp_ret ?_
        try simp only [go_sem]
        have hr := Option.some.inj h
        refine finb_of ?_; simp only [go_sem]
        exact fin_same' (d' := .int .i64 (-1)) hsc (.same _) (by simp) ⟨by subst hr; rfl, rfl⟩
      · replace h := cond_f h (by first | exact hc | simpa using hc)
        (repeat refine awp_seq ?_); refine awp_scope ?_
        (repeat refine awp_seq ?_); refine ev_region ?_; simp only [go_sem]
        (repeat refine awp_seq ?_); refine ev_region ?_; simp only [go_sem]
        (repeat refine awp_seq ?_); refine ev_region ?_; simp only [go_sem]
        (repeat refine awp_seq ?_); refine ev_region ?_; simp only [go_sem]
        (repeat refine awp_seq ?_); refine awp_while (body := stringsIndexRune_b1 n a1 a0) (kk := stringsIndexRune_a1) (n := n) (s0 := ())
          (fun (gs1 : Unit) (s1 : Unit) => [(0, .str a0), (7, .str (runeStr a1)), (8, .int .i64 (wr .i64 ((↑((runeStr a1).length) : Int) - 1))), (9, .int .i64 (wr .i64 ((↑((runeStr a1).length) : Int) - 1)))])
          (fun (gs1 : Unit) (s1 : Unit) => st)
          (fun (gt1 : Unit) (t1 : Unit) => [])
          (fun (gt1 : Unit) (t1 : Unit) => st)
          () h (bks_mk00 hsc ⟨.same _, .same _, .same _, .same _, trivial⟩ (by simp))
          (fun gs1 s1 b1 h hx1 => ?_) (fun gt1 t1 fr1 st1 h hb => ?_)
        · unfold stringsIndexRune_b1 at h
          (repeat refine awp_seq ?_); refine ev_region ?_; simp only [go_sem]
          (repeat refine awp_seq ?_); refine awp_cond (by rfl) (fun hc => ?_) fun hc => ?_
          · replace h := cond_t h (by first | exact hc | simpa using hc)
            refine awp_skip ?_; try simp only [go_sem]
            (repeat refine awp_seq ?_); refine awp_block ?_
            (repeat refine awp_seq ?_); refine awp_scope ?_
            obtain ⟨⟨f5, f6⟩, h⟩ := chk_some h
            obtain ⟨f7, h⟩ := chk_some h
            (repeat refine awp_seq ?_); refine ev_draw_region [] 0 follows (by kernel_rfl) (by rfl) ?_; simp only [go_sem, List.replicate_succ, List.replicate_zero, f5, f6, f7]
            (repeat refine awp_seq ?_); refine awp_jn (stringsIndexRune_j2 n a1 a0) b1 (fun (gj2 : Unit) (j2 : Int) => [(0, .str a0), (7, .str (runeStr a1)), (8, .int .i64 (wr .i64 ((↑((runeStr a1).length) : Int) - 1))), (9, .int .i64 j2)]) (fun (gj2 : Unit) (j2 : Int) => st) (fun gj2 j2 fr1 st1 h hb => ?_) (fun hj2 => ?_)
            · try simp only [go_sem, f5, f6, f7]
              unfold stringsIndexRune_j2 at h
              refine awp_bks hb ?_
              (repeat refine awp_seq ?_); refine ev_region ?_; simp only [go_sem, f5, f6, f7]
              (repeat refine awp_seq ?_); refine awp_while (body := stringsIndexRune_b3 a1 j2 a0) (kk := stringsIndexRune_a3 j2 a1) (n := n) (s0 := 1)
                (fun (gs3 : Unit) (s3 : Int) => [(0, .str a0), (7, .str (runeStr a1)), (8, .int .i64 (wr .i64 ((↑((runeStr a1).length) : Int) - 1))), (9, .int .i64 j2), (12, .int .i64 s3)])
                (fun (gs3 : Unit) (s3 : Int) => st)
                (fun (gt3 : Unit) (t3 : Unit) => [(8, .int .i64 (wr .i64 ((↑((runeStr a1).length) : Int) - 1))), (9, .int .i64 j2)])
                (fun (gt3 : Unit) (t3 : Unit) => st)
                () h (bks_mk00 hsc ⟨.same _, .same _, .same _, .same _, .same _, trivial⟩ (by simp))
                (fun gs3 s3 b3 h hx3 => ?_) (fun gt3 t3 fr1 st1 h hb => ?_)
              · unfold stringsIndexRune_b3 at h
                (repeat refine awp_seq ?_); refine ev_region ?_; simp only [go_sem, f5, f6, f7]
                (repeat refine awp_seq ?_); refine awp_cond (by rfl) (fun hc => ?_) fun hc => ?_
                · replace h := cond_t h (by first | exact hc | simpa using hc)
                  refine awp_skip ?_; try simp only [go_sem, f5, f6, f7]
                  (repeat refine awp_seq ?_); refine awp_block ?_
                  obtain ⟨⟨f15, f16⟩, h⟩ := chk_some h
                  obtain ⟨⟨f17, f18⟩, h⟩ := chk_some h
                  (repeat refine awp_seq ?_); refine ev_draw_region [] 0 follows (by kernel_rfl) (by rfl) ?_; simp only [go_sem, List.replicate_succ, List.replicate_zero, f5, f6, f7, f15, f16, f17, f18]
                  (repeat refine awp_seq ?_); refine awp_cond (by rfl) (fun hc => ?_) fun hc => ?_
                  · replace h := cond_t h (by first | exact hc | simpa using hc)
                    cases h
                  · replace h := cond_f h (by first | exact hc | simpa using hc)
                    refine awp_skip ?_; try simp only [go_sem, f5, f6, f7, f15, f16, f17, f18]
                    (repeat refine awp_seq ?_); refine ev_region ?_; simp only [go_sem, f5, f6, f7, f15, f16, f17, f18]
                    cases h
                    exact pbw_nxt () (bks_mk00 hsc ⟨.same _, .same _, .same _, .same _, .same _, trivial⟩ (by simp))
                · replace h := cond_f h (by first | exact hc | simpa using hc)
                  (repeat refine awp_seq ?_); refine awp_exit ?_; try simp only [go_sem, f5, f6, f7]
                  cases h
                  exact pbw_brk () (bks_mk00 hsc ⟨.same _, .same _, trivial⟩ (by simp))
              · try simp only [go_sem, f5, f6, f7]
                unfold stringsIndexRune_a3 at h
                refine awp_bks hb ?_
                (repeat refine awp_seq ?_); refine ev_region ?_; simp only [go_sem, f5, f6, f7]
                (repeat refine awp_seq ?_); refine awp_ret ?_
                try simp only [go_sem, f5, f6, f7]
                obtain rfl := Option.some.inj h
                refine pbw_ret ?_; have hr := hx1 _ rfl; try simp only [go_sem, f5, f6, f7]
                refine finb_of ?_; simp only [go_sem, f5, f6, f7]
                exact fin_same' (d' := .int .i64 (wr .i64 (j2 - (wr .i64 ((↑((runeStr a1).length) : Int) - 1))))) hsc (.same _) (by simp) ⟨by subst hr; rfl, rfl⟩
            · (repeat refine awp_seq ?_); refine awp_cond (by rfl) (fun hc => ?_) fun hc => ?_
              · replace h := cond_t h (by first | exact hc | simpa using hc)
                obtain ⟨⟨f8, f9⟩, h⟩ := chk_some h
                (repeat refine awp_seq ?_); refine ev_draw_region [] 0 follows (by kernel_rfl) (by rfl) ?_; simp only [go_sem, List.replicate_succ, List.replicate_zero, f5, f6, f7, f8, f9]
                obtain ⟨v10, hv10, h⟩ := bind_some h
                refine dc_pure (ok_stringsIndexByte _ _ _ hv10) ?_
                try simp only [go_sem, f5, f6, f7, f8, f9]
                (repeat refine awp_seq ?_); refine ev_region ?_; simp only [go_sem, f5, f6, f7, f8, f9]
                (repeat refine awp_seq ?_); refine awp_cond (by rfl) (fun hc => ?_) fun hc => ?_
                · replace h := cond_t h (by first | exact hc | simpa using hc)
                  (repeat refine awp_seq ?_); refine ev_region ?_; simp only [go_sem, f5, f6, f7, f8, f9]
                  (repeat refine awp_seq ?_); refine awp_ret ?_
                  try simp only [go_sem, f5, f6, f7, f8, f9]
                  obtain rfl := Option.some.inj h
                  refine pbw_ret ?_; have hr := hx1 _ rfl; try simp only [go_sem, f5, f6, f7, f8, f9]
                  refine finb_of ?_; simp only [go_sem, f5, f6, f7, f8, f9]
                  exact fin_same' (d' := .int .i64 (-1)) hsc (.same _) (by simp) ⟨by subst hr; rfl, rfl⟩
                · replace h := cond_f h (by first | exact hc | simpa using hc)
                  refine awp_skip ?_; try simp only [go_sem, f5, f6, f7, f8, f9]
                  (repeat refine awp_seq ?_); refine ev_region ?_; simp only [go_sem, f5, f6, f7, f8, f9]
                  exact hj2 () _ _ _ h (bks_mk00 hsc ⟨.same _, .same _, .same _, .same _, trivial⟩ (by simp))
              · replace h := cond_f h (by first | exact hc | simpa using hc)
                refine awp_skip ?_; try simp only [go_sem, f5, f6, f7]
                exact hj2 () _ _ _ h (bks_mk00 hsc ⟨.same _, .same _, .same _, .same _, trivial⟩ (by simp))
          · replace h := cond_f h (by first | exact hc | simpa using hc)
            (repeat refine awp_seq ?_); refine awp_exit ?_; try simp only [go_sem]
            cases h
            exact pbw_brk () (bks_mk00 hsc trivial (by simp))
        · try simp only [go_sem]
          unfold stringsIndexRune_a1 at h
          refine awp_bks hb ?_
          (repeat refine awp_seq ?_); refine ev_region ?_; simp only [go_sem]
          (repeat refine awp_seq ?_); refine awp_ret ?_
          try simp only [go_sem]
          have hr := Option.some.inj h
          refine finb_of ?_; simp only [go_sem]
          exact fin_same' (d' := .int .i64 (-1)) hsc (.same _) (by simp) ⟨by subst hr; rfl, rfl⟩


end Go.Proofs.YtaohdfpcdfbnlaaDoor

