import Derived.Test.YtaohdfpcdfbnlaaGreatDoorBase
import Derived.Test.YtaohdfpcdfbnlaaGreatDoorHand
import Derived.Test.YtaohdfpcdfbnlaaGreatDoorMirrors
import Derived.Test.YtaohdfpcdfbnlaaGreatDoorWalk2
import Derived.Test.YtaohdfpcdfbnlaaGreatDoorWalk5
set_option linter.unusedVariables false
set_option linter.unusedSimpArgs false
set_option maxHeartbeats 2000000
set_option maxRecDepth 100000
namespace Go.Proofs.YtaohdfpcdfbnlaaGreatDoor
open Go Go.Am
theorem iG (n : Nat) (a0 : u0) (r : y7) (h : ao n a0 = some r) : Pure Tryz.prog gl 83 [.agg [.str a0.base, .sl false 2 40 (rows u0.cells a0.args)]] (.agg [.int .i64 r.code, .int .i64 r.index]) := by
 intro st
 unfold ao at h
 refine O4 (N := 10) (rs := [.cell 2 41]) (keep := [0, 1, 2, 3, 4]) Tryz.func83 rfl rfl rfl (by kernel_rfl) rfl fun hsc => ?_
 (repeat apply sq_); apply er_; simp only [go_sem]
 (repeat apply sq_); apply er_; simp only [go_sem]
 (repeat apply sq_); apply er_; simp only [go_sem]
 (repeat apply sq_); apply er_; simp only [go_sem]
 (repeat apply sq_); apply er_; simp only [go_sem]
 obtain ⟨v1, hv1, h⟩ := C6 h
 refine (mG n _ _ _ _ hv1 _ _ _ (by simp) (Y0.trans rfl) (Y0.trans rfl)).mono ?_
 rintro d1 st1 ⟨rfl, rfl⟩
 try simp only [go_sem]
 (repeat apply sq_); refine E3 ?_
 try simp only [go_sem]
 have hr := Option.some.inj h
 refine E4 ?_; simp only [go_sem]
 exact y3 (d' := .agg [.int .i64 v1.1, .int .i64 0]) hsc (.same _) (by simp) ⟨by subst hr; rfl, rfl⟩
theorem qo (a0 : u0) (r : Bool) (h : mo a0 = some r) : Pure Tryz.prog gl 84 [.agg [.str a0.base, .sl false 2 40 (rows u0.cells a0.args)]] (.bool r) := by
 intro st
 unfold mo at h
 refine O4 (N := 12) (rs := [.tmp 2]) (keep := [0, 1, 2, 7, 8, 9, 10]) Tryz.func84 rfl rfl rfl (by kernel_rfl) rfl fun hsc => ?_
 (repeat apply sq_); apply er_; simp only [go_sem]
 (repeat apply sq_); apply er_; simp only [go_sem]
 (repeat apply sq_); refine E3 ?_
 try simp only [go_sem]
 have hr := Option.some.inj h
 refine E4 ?_; simp only [go_sem]
 exact y3 (d' := .bool (bif (decide (a0.base = [])) then (decide ((↑a0.args.length : Int) = 0)) else false)) hsc (.same _) (by simp) ⟨by subst hr; rfl, rfl⟩
theorem oo : ∀ (n : Nat) (a0 : w5) (a1 : Int) (a2 : Int) (dF : Int) (r : y7 × Int) (h : T8 n a0 a1 a2 dF = some r), ∀ (st : St) (o0 o1 : Nat) (hnd : [o0, o1].Nodup) (ji : Am.look st o0 = some (.arr 0 1 0 [[.int .i64 dF]])) (Bj : Am.look st o1 = some (.arr 0 1 0 [[.fn 81 [] [.ptr o0 0 0 0, .ptr o1 0 0 0]]])), Am.Spec Tryz.prog gl 81 [.agg [.int .i64 a0.kind, .str a0.name, .int .i64 a0.index, .str a0.type.base, .sl false 2 40 (rows u0.cells a0.type.args), .sl false 6 96 (rows w5.cells a0.args)], .int .i64 a1, .int .i64 a2, .ptr o0 0 0 0, .ptr o1 0 0 0] st (fun d st' => d = .agg [.int .i64 r.1.code, .int .i64 r.1.index] ∧ st' = puts st [(o0, (.arr 0 1 0 [[.int .i64 r.2]])), (o1, (.arr 0 1 0 [[.fn 81 [] [.ptr o0 0 0 0, .ptr o1 0 0 0]]]))]) := by
 intro n
 induction n with
 | zero => intro a0 a1 a2 dF r h; cases h
 | succ n ih =>
  intro a0 a1 a2 dF r h st o0 o1 hnd ji Bj
  unfold T8 at h
  have ho0 := fP ji
  have ho1 := fP Bj
  have CY := hnd
  simp only [List.nodup_cons, List.mem_cons, List.not_mem_nil, or_false, not_or, not_false_eq_true, List.nodup_nil, and_true] at CY
  have uZ := CY
  have D5 : (o0 = o1) = False := eq_false uZ
  have D6 : (o1 = o0) = False := eq_false (fun e => uZ e.symm)
  refine O4 (N := 166) (rs := [.cell 8 41]) (keep := [0, 1, 2, 3, 4, 5, 8, 9, 10, 11, 19, 20, 21, 25, 28, 34, 35, 36, 37, 38, 44, 51, 54, 60, 61, 62, 63, 66, 67, 68, 69, 70, 77, 78, 79, 80, 81, 84, 90, 91, 92, 95, 96, 97, 98, 99, 106, 119, 125, 126, 127, 130, 131, 132, 133, 136, 137, 138, 139, 140, 154]) Tryz.func81 rfl rfl rfl (by kernel_rfl) rfl fun hsc => ?_
  refine pO (s' := (gu st [(o0, (.arr 0 1 0 [[.int .i64 dF]])), (o1, (.arr 0 1 0 [[.fn 81 [] [.ptr o0 0 0 0, .ptr o1 0 0 0]]]))])) (L7 (by simp [ji, Bj])) ?_
  (repeat apply sq_); apply er_; simp only [go_sem, C4 ho0, x7 ho0, C2 ho0, x6 ho0, C4 ho1, x7 ho1, C2 ho1, x6 ho1, D5, D6]
  (repeat apply sq_); apply er_; simp only [go_sem, C4 ho0, x7 ho0, C2 ho0, x6 ho0, C4 ho1, x7 ho1, C2 ho1, x6 ho1, D5, D6]
  (repeat apply sq_); apply er_; simp only [go_sem, C4 ho0, x7 ho0, C2 ho0, x6 ho0, C4 ho1, x7 ho1, C2 ho1, x6 ho1, D5, D6]
  (repeat apply sq_); apply er_; simp only [go_sem, C4 ho0, x7 ho0, C2 ho0, x6 ho0, C4 ho1, x7 ho1, C2 ho1, x6 ho1, D5, D6]
  (repeat apply sq_); apply er_; simp only [go_sem, C4 ho0, x7 ho0, C2 ho0, x6 ho0, C4 ho1, x7 ho1, C2 ho1, x6 ho1, D5, D6]
  (repeat apply sq_); refine D4 (by rfl) (fun hc => ?_) fun hc => ?_
  ·replace h := B0 h (by first | exact hc | simpa using hc)
   (repeat apply sq_); apply er_; simp only [go_sem, C4 ho0, x7 ho0, C2 ho0, x6 ho0, C4 ho1, x7 ho1, C2 ho1, x6 ho1, D5, D6]
   obtain ⟨v1, hv1, h⟩ := C6 h
   refine (J0 _ _ _ hv1 _ _ (by simp) (S9.trans rfl)).mono ?_
   rintro d1 st1 ⟨rfl, rfl⟩
   try simp only [go_sem, C4 ho0, x7 ho0, C2 ho0, x6 ho0, C4 ho1, x7 ho1, C2 ho1, x6 ho1, D5, D6]
   (repeat apply sq_); refine E3 ?_
   try simp only [go_sem, C4 ho0, x7 ho0, C2 ho0, x6 ho0, C4 ho1, x7 ho1, C2 ho1, x6 ho1, D5, D6]
   have hr := Option.some.inj h
   refine E4 ?_; simp only [go_sem, C4 ho0, x7 ho0, C2 ho0, x6 ho0, C4 ho1, x7 ho1, C2 ho1, x6 ho1, D5, D6]
   exact J2 (d' := .agg [.int .i64 v1.code, .int .i64 v1.index]) (by simp) (G2 hsc (by simp <;> omega)) (.same _) (by simp <;> omega) ⟨by subst hr; rfl, by subst hr; rfl⟩
  ·replace h := B1 h (by first | exact hc | simpa using hc)
   refine E6 ?_; try simp only [go_sem, C4 ho0, x7 ho0, C2 ho0, x6 ho0, C4 ho1, x7 ho1, C2 ho1, x6 ho1, D5, D6]
   (repeat apply sq_); apply er_; simp only [go_sem, C4 ho0, x7 ho0, C2 ho0, x6 ho0, C4 ho1, x7 ho1, C2 ho1, x6 ho1, D5, D6]
   (repeat apply sq_); refine U8 ?_
   (repeat apply sq_); apply er_; simp only [go_sem, C4 ho0, x7 ho0, C2 ho0, x6 ho0, C4 ho1, x7 ho1, C2 ho1, x6 ho1, D5, D6]
   (repeat apply sq_); refine D4 (by rfl) (fun hc => ?_) fun hc => ?_
   ·replace h := B0 h (by first | exact hc | simpa using hc)
    (repeat apply sq_); apply er_; simp only [go_sem, C4 ho0, x7 ho0, C2 ho0, x6 ho0, C4 ho1, x7 ho1, C2 ho1, x6 ho1, D5, D6]
    (repeat apply sq_); refine D4 (by rfl) (fun hc => ?_) fun hc => ?_
    ·replace h := B0 h (by first | exact hc | simpa using hc)
     (repeat apply sq_); apply er_; simp only [go_sem, C4 ho0, x7 ho0, C2 ho0, x6 ho0, C4 ho1, x7 ho1, C2 ho1, x6 ho1, D5, D6]
     obtain ⟨v2, hv2, h⟩ := C6 h
     refine (J0 _ _ _ hv2 _ _ (by simp) (S9.trans rfl)).mono ?_
     rintro d1 st1 ⟨rfl, rfl⟩
     try simp only [go_sem, C4 ho0, x7 ho0, C2 ho0, x6 ho0, C4 ho1, x7 ho1, C2 ho1, x6 ho1, D5, D6]
     (repeat apply sq_); refine E3 ?_
     try simp only [go_sem, C4 ho0, x7 ho0, C2 ho0, x6 ho0, C4 ho1, x7 ho1, C2 ho1, x6 ho1, D5, D6]
     have hr := Option.some.inj h
     refine E4 ?_; simp only [go_sem, C4 ho0, x7 ho0, C2 ho0, x6 ho0, C4 ho1, x7 ho1, C2 ho1, x6 ho1, D5, D6]
     exact J2 (d' := .agg [.int .i64 v2.code, .int .i64 v2.index]) (by simp) (G2 hsc (by simp <;> omega)) (.same _) (by simp <;> omega) ⟨by subst hr; rfl, by subst hr; rfl⟩
    ·replace h := B1 h (by first | exact hc | simpa using hc)
     refine E6 ?_; try simp only [go_sem, C4 ho0, x7 ho0, C2 ho0, x6 ho0, C4 ho1, x7 ho1, C2 ho1, x6 ho1, D5, D6]
     (repeat apply sq_); apply er_; simp only [go_sem, C4 ho0, x7 ho0, C2 ho0, x6 ho0, C4 ho1, x7 ho1, C2 ho1, x6 ho1, D5, D6]
     obtain ⟨v3, hv3, h⟩ := C6 h
     refine ((iY _ _ hv3)).to ?_
     try simp only [go_sem, C4 ho0, x7 ho0, C2 ho0, x6 ho0, C4 ho1, x7 ho1, C2 ho1, x6 ho1, D5, D6]
     (repeat apply sq_); refine D4 (by rfl) (fun hc => ?_) fun hc => ?_
     ·replace h := B0 h (by first | exact hc | simpa using hc)
      (repeat apply sq_); apply er_; simp only [go_sem, C4 ho0, x7 ho0, C2 ho0, x6 ho0, C4 ho1, x7 ho1, C2 ho1, x6 ho1, D5, D6]
      obtain ⟨v4, hv4, h⟩ := C6 h
      refine (J0 _ _ _ hv4 _ _ (by simp) (S9.trans rfl)).mono ?_
      rintro d1 st1 ⟨rfl, rfl⟩
      try simp only [go_sem, C4 ho0, x7 ho0, C2 ho0, x6 ho0, C4 ho1, x7 ho1, C2 ho1, x6 ho1, D5, D6]
      (repeat apply sq_); refine E3 ?_
      try simp only [go_sem, C4 ho0, x7 ho0, C2 ho0, x6 ho0, C4 ho1, x7 ho1, C2 ho1, x6 ho1, D5, D6]
      have hr := Option.some.inj h
      refine E4 ?_; simp only [go_sem, C4 ho0, x7 ho0, C2 ho0, x6 ho0, C4 ho1, x7 ho1, C2 ho1, x6 ho1, D5, D6]
      exact J2 (d' := .agg [.int .i64 v4.code, .int .i64 v4.index]) (by simp) (G2 hsc (by simp <;> omega)) (.same _) (by simp <;> omega) ⟨by subst hr; rfl, by subst hr; rfl⟩
     ·replace h := B1 h (by first | exact hc | simpa using hc)
      refine E6 ?_; try simp only [go_sem, C4 ho0, x7 ho0, C2 ho0, x6 ho0, C4 ho1, x7 ho1, C2 ho1, x6 ho1, D5, D6]
      (repeat apply sq_); apply er_; simp only [go_sem, C4 ho0, x7 ho0, C2 ho0, x6 ho0, C4 ho1, x7 ho1, C2 ho1, x6 ho1, D5, D6]
      obtain ⟨v5, hv5, h⟩ := C6 h
      refine ((iG n _ _ hv5)).to ?_
      try simp only [go_sem, C4 ho0, x7 ho0, C2 ho0, x6 ho0, C4 ho1, x7 ho1, C2 ho1, x6 ho1, D5, D6]
      (repeat apply sq_); refine D4 (by rfl) (fun hc => ?_) fun hc => ?_
      ·replace h := B0 h (by first | exact hc | simpa using hc)
       (repeat apply sq_); apply er_; simp only [go_sem, C4 ho0, x7 ho0, C2 ho0, x6 ho0, C4 ho1, x7 ho1, C2 ho1, x6 ho1, D5, D6]
       obtain ⟨v6, hv6, h⟩ := C6 h
       refine (J0 _ _ _ hv6 _ _ (by simp) (S9.trans rfl)).mono ?_
       rintro d1 st1 ⟨rfl, rfl⟩
       try simp only [go_sem, C4 ho0, x7 ho0, C2 ho0, x6 ho0, C4 ho1, x7 ho1, C2 ho1, x6 ho1, D5, D6]
       (repeat apply sq_); refine E3 ?_
       try simp only [go_sem, C4 ho0, x7 ho0, C2 ho0, x6 ho0, C4 ho1, x7 ho1, C2 ho1, x6 ho1, D5, D6]
       have hr := Option.some.inj h
       refine E4 ?_; simp only [go_sem, C4 ho0, x7 ho0, C2 ho0, x6 ho0, C4 ho1, x7 ho1, C2 ho1, x6 ho1, D5, D6]
       exact J2 (d' := .agg [.int .i64 v6.code, .int .i64 v6.index]) (by simp) (G2 hsc (by simp <;> omega)) (.same _) (by simp <;> omega) ⟨by subst hr; rfl, by subst hr; rfl⟩
      ·replace h := B1 h (by first | exact hc | simpa using hc)
       refine E6 ?_; try simp only [go_sem, C4 ho0, x7 ho0, C2 ho0, x6 ho0, C4 ho1, x7 ho1, C2 ho1, x6 ho1, D5, D6]
       (repeat apply sq_); apply er_; simp only [go_sem, C4 ho0, x7 ho0, C2 ho0, x6 ho0, C4 ho1, x7 ho1, C2 ho1, x6 ho1, D5, D6]
       (repeat apply sq_); refine E3 ?_
       try simp only [go_sem, C4 ho0, x7 ho0, C2 ho0, x6 ho0, C4 ho1, x7 ho1, C2 ho1, x6 ho1, D5, D6]
       have hr := Option.some.inj h
       refine E4 ?_; simp only [go_sem, C4 ho0, x7 ho0, C2 ho0, x6 ho0, C4 ho1, x7 ho1, C2 ho1, x6 ho1, D5, D6]
       exact J2 (d' := .agg [.int .i64 0, .int .i64 0]) (by simp) (G2 hsc (by simp <;> omega)) (.same _) (by simp <;> omega) ⟨by subst hr; rfl, by subst hr; rfl⟩
   ·replace h := B1 h (by first | exact hc | simpa using hc)
    (repeat apply sq_); apply er_; simp only [go_sem, C4 ho0, x7 ho0, C2 ho0, x6 ho0, C4 ho1, x7 ho1, C2 ho1, x6 ho1, D5, D6]
    (repeat apply sq_); refine D4 (by rfl) (fun hc => ?_) fun hc => ?_
    ·replace h := B0 h (by first | exact hc | simpa using hc)
     (repeat apply sq_); apply er_; simp only [go_sem, C4 ho0, x7 ho0, C2 ho0, x6 ho0, C4 ho1, x7 ho1, C2 ho1, x6 ho1, D5, D6]
     obtain ⟨v7, hv7, h⟩ := C6 h
     refine M6 (fun hG => (qo _ _ (iu hv7 (by simpa using hG)))) ?_
     try simp only [go_sem, C4 ho0, x7 ho0, C2 ho0, x6 ho0, C4 ho1, x7 ho1, C2 ho1, x6 ho1, D5, D6]
     (repeat apply sq_); refine D4 (by rfl) (fun hc => ?_) fun hc => ?_
     ·replace h := B0 h (by first | exact hc | simpa using hc)
      (repeat apply sq_); apply er_; simp only [go_sem, C4 ho0, x7 ho0, C2 ho0, x6 ho0, C4 ho1, x7 ho1, C2 ho1, x6 ho1, D5, D6]
      obtain ⟨v8, hv8, h⟩ := C6 h
      refine (J0 _ _ _ hv8 _ _ (by simp) (S9.trans rfl)).mono ?_
      rintro d1 st1 ⟨rfl, rfl⟩
      try simp only [go_sem, C4 ho0, x7 ho0, C2 ho0, x6 ho0, C4 ho1, x7 ho1, C2 ho1, x6 ho1, D5, D6]
      (repeat apply sq_); refine E3 ?_
      try simp only [go_sem, C4 ho0, x7 ho0, C2 ho0, x6 ho0, C4 ho1, x7 ho1, C2 ho1, x6 ho1, D5, D6]
      have hr := Option.some.inj h
      refine E4 ?_; simp only [go_sem, C4 ho0, x7 ho0, C2 ho0, x6 ho0, C4 ho1, x7 ho1, C2 ho1, x6 ho1, D5, D6]
      exact J2 (d' := .agg [.int .i64 v8.code, .int .i64 v8.index]) (by simp) (G2 hsc (by simp <;> omega)) (.same _) (by simp <;> omega) ⟨by subst hr; rfl, by subst hr; rfl⟩
     ·replace h := B1 h (by first | exact hc | simpa using hc)
      refine E6 ?_; try simp only [go_sem, C4 ho0, x7 ho0, C2 ho0, x6 ho0, C4 ho1, x7 ho1, C2 ho1, x6 ho1, D5, D6]
      (repeat apply sq_); apply er_; simp only [go_sem, C4 ho0, x7 ho0, C2 ho0, x6 ho0, C4 ho1, x7 ho1, C2 ho1, x6 ho1, D5, D6]
      (repeat apply sq_); refine D4 (by rfl) (fun hc => ?_) fun hc => ?_
      ·replace h := B0 h (by first | exact hc | simpa using hc)
       (repeat apply sq_); apply er_; simp only [go_sem, C4 ho0, x7 ho0, C2 ho0, x6 ho0, C4 ho1, x7 ho1, C2 ho1, x6 ho1, D5, D6]
       obtain ⟨v9, hv9, h⟩ := C6 h
       refine (J0 _ _ _ hv9 _ _ (by simp) (S9.trans rfl)).mono ?_
       rintro d1 st1 ⟨rfl, rfl⟩
       try simp only [go_sem, C4 ho0, x7 ho0, C2 ho0, x6 ho0, C4 ho1, x7 ho1, C2 ho1, x6 ho1, D5, D6]
       (repeat apply sq_); refine E3 ?_
       try simp only [go_sem, C4 ho0, x7 ho0, C2 ho0, x6 ho0, C4 ho1, x7 ho1, C2 ho1, x6 ho1, D5, D6]
       have hr := Option.some.inj h
       refine E4 ?_; simp only [go_sem, C4 ho0, x7 ho0, C2 ho0, x6 ho0, C4 ho1, x7 ho1, C2 ho1, x6 ho1, D5, D6]
       exact J2 (d' := .agg [.int .i64 v9.code, .int .i64 v9.index]) (by simp) (G2 hsc (by simp <;> omega)) (.same _) (by simp <;> omega) ⟨by subst hr; rfl, by subst hr; rfl⟩
      ·replace h := B1 h (by first | exact hc | simpa using hc)
       refine E6 ?_; try simp only [go_sem, C4 ho0, x7 ho0, C2 ho0, x6 ho0, C4 ho1, x7 ho1, C2 ho1, x6 ho1, D5, D6]
       (repeat apply sq_); apply er_; simp only [go_sem, C4 ho0, x7 ho0, C2 ho0, x6 ho0, C4 ho1, x7 ho1, C2 ho1, x6 ho1, D5, D6]
       (repeat apply sq_); refine E3 ?_
       try simp only [go_sem, C4 ho0, x7 ho0, C2 ho0, x6 ho0, C4 ho1, x7 ho1, C2 ho1, x6 ho1, D5, D6]
       have hr := Option.some.inj h
       refine E4 ?_; simp only [go_sem, C4 ho0, x7 ho0, C2 ho0, x6 ho0, C4 ho1, x7 ho1, C2 ho1, x6 ho1, D5, D6]
       exact J2 (d' := .agg [.int .i64 0, .int .i64 0]) (by simp) (G2 hsc (by simp <;> omega)) (.same _) (by simp <;> omega) ⟨by subst hr; rfl, by subst hr; rfl⟩
    ·replace h := B1 h (by first | exact hc | simpa using hc)
     (repeat apply sq_); apply er_; simp only [go_sem, C4 ho0, x7 ho0, C2 ho0, x6 ho0, C4 ho1, x7 ho1, C2 ho1, x6 ho1, D5, D6]
     (repeat apply sq_); refine D4 (by rfl) (fun hc => ?_) fun hc => ?_
     ·replace h := B0 h (by first | exact hc | simpa using hc)
      (repeat apply sq_); apply er_; simp only [go_sem, C4 ho0, x7 ho0, C2 ho0, x6 ho0, C4 ho1, x7 ho1, C2 ho1, x6 ho1, D5, D6]
      (repeat apply sq_); refine D4 (by rfl) (fun hc => ?_) fun hc => ?_
      ·replace h := B0 h (by first | exact hc | simpa using hc)
       (repeat apply sq_); apply er_; simp only [go_sem, C4 ho0, x7 ho0, C2 ho0, x6 ho0, C4 ho1, x7 ho1, C2 ho1, x6 ho1, D5, D6]
       obtain ⟨v10, hv10, h⟩ := C6 h
       refine (J0 _ _ _ hv10 _ _ (by simp) (S9.trans rfl)).mono ?_
       rintro d1 st1 ⟨rfl, rfl⟩
       try simp only [go_sem, C4 ho0, x7 ho0, C2 ho0, x6 ho0, C4 ho1, x7 ho1, C2 ho1, x6 ho1, D5, D6]
       (repeat apply sq_); refine E3 ?_
       try simp only [go_sem, C4 ho0, x7 ho0, C2 ho0, x6 ho0, C4 ho1, x7 ho1, C2 ho1, x6 ho1, D5, D6]
       have hr := Option.some.inj h
       refine E4 ?_; simp only [go_sem, C4 ho0, x7 ho0, C2 ho0, x6 ho0, C4 ho1, x7 ho1, C2 ho1, x6 ho1, D5, D6]
       exact J2 (d' := .agg [.int .i64 v10.code, .int .i64 v10.index]) (by simp) (G2 hsc (by simp <;> omega)) (.same _) (by simp <;> omega) ⟨by subst hr; rfl, by subst hr; rfl⟩
      ·replace h := B1 h (by first | exact hc | simpa using hc)
       refine E6 ?_; try simp only [go_sem, C4 ho0, x7 ho0, C2 ho0, x6 ho0, C4 ho1, x7 ho1, C2 ho1, x6 ho1, D5, D6]
       (repeat apply sq_); apply er_; simp only [go_sem, C4 ho0, x7 ho0, C2 ho0, x6 ho0, C4 ho1, x7 ho1, C2 ho1, x6 ho1, D5, D6]
       obtain ⟨v11, hv11, h⟩ := C6 h
       refine ((iG n _ _ hv11)).to ?_
       try simp only [go_sem, C4 ho0, x7 ho0, C2 ho0, x6 ho0, C4 ho1, x7 ho1, C2 ho1, x6 ho1, D5, D6]
       (repeat apply sq_); refine D4 (by rfl) (fun hc => ?_) fun hc => ?_
       ·replace h := B0 h (by first | exact hc | simpa using hc)
        (repeat apply sq_); apply er_; simp only [go_sem, C4 ho0, x7 ho0, C2 ho0, x6 ho0, C4 ho1, x7 ho1, C2 ho1, x6 ho1, D5, D6]
        obtain ⟨v12, hv12, h⟩ := C6 h
        refine (J0 _ _ _ hv12 _ _ (by simp) (S9.trans rfl)).mono ?_
        rintro d1 st1 ⟨rfl, rfl⟩
        try simp only [go_sem, C4 ho0, x7 ho0, C2 ho0, x6 ho0, C4 ho1, x7 ho1, C2 ho1, x6 ho1, D5, D6]
        (repeat apply sq_); refine E3 ?_
        try simp only [go_sem, C4 ho0, x7 ho0, C2 ho0, x6 ho0, C4 ho1, x7 ho1, C2 ho1, x6 ho1, D5, D6]
        have hr := Option.some.inj h
        refine E4 ?_; simp only [go_sem, C4 ho0, x7 ho0, C2 ho0, x6 ho0, C4 ho1, x7 ho1, C2 ho1, x6 ho1, D5, D6]
        exact J2 (d' := .agg [.int .i64 v12.code, .int .i64 v12.index]) (by simp) (G2 hsc (by simp <;> omega)) (.same _) (by simp <;> omega) ⟨by subst hr; rfl, by subst hr; rfl⟩
       ·replace h := B1 h (by first | exact hc | simpa using hc)
        refine E6 ?_; try simp only [go_sem, C4 ho0, x7 ho0, C2 ho0, x6 ho0, C4 ho1, x7 ho1, C2 ho1, x6 ho1, D5, D6]
        obtain ⟨f13, h⟩ := G1 h
        (repeat apply sq_); refine ak [9] 0 follows (by kernel_rfl) (by rfl) ?_; simp only [go_sem, List.replicate_succ, List.replicate_zero, C4 ho0, x7 ho0, C2 ho0, x6 ho0, C4 ho1, x7 ho1, C2 ho1, x6 ho1, D5, D6, f13]
        obtain ⟨v14, hv14, h⟩ := C6 h
        refine rj [o0, o1] (fun st2 h2 => (ih _ _ _ _ _ hv14 st2 _ _ hnd ((h2 _ (by simp)).trans (by simp only [go_sem, C4 ho0, x7 ho0, C2 ho0, x6 ho0, C4 ho1, x7 ho1, C2 ho1, x6 ho1, D5, D6, f13])) ((h2 _ (by simp)).trans (by simp only [go_sem, C4 ho0, x7 ho0, C2 ho0, x6 ho0, C4 ho1, x7 ho1, C2 ho1, x6 ho1, D5, D6, f13])))) (by simp) (by simp only [List.mem_cons, List.not_mem_nil, or_false, forall_eq_or_imp, forall_eq]; exact ⟨⟨by first | omega | (simp <;> omega), _, (by simp only [go_sem, C4 ho0, x7 ho0, C2 ho0, x6 ho0, C4 ho1, x7 ho1, C2 ho1, x6 ho1, D5, D6, f13] <;> rfl), Ob.noConfusion⟩, ⟨by first | omega | (simp <;> omega), _, (by simp only [go_sem, C4 ho0, x7 ho0, C2 ho0, x6 ho0, C4 ho1, x7 ho1, C2 ho1, x6 ho1, D5, D6, f13] <;> rfl), Ob.noConfusion⟩⟩) (by simp) ?_
        try simp only [go_sem, C4 ho0, x7 ho0, C2 ho0, x6 ho0, C4 ho1, x7 ho1, C2 ho1, x6 ho1, D5, D6, f13]
        try refine ⟨by (simp <;> omega), ?_⟩
        (repeat apply sq_); refine E3 ?_
        try simp only [go_sem, C4 ho0, x7 ho0, C2 ho0, x6 ho0, C4 ho1, x7 ho1, C2 ho1, x6 ho1, D5, D6, f13]
        have hr := Option.some.inj h
        refine E4 ?_; simp only [go_sem, C4 ho0, x7 ho0, C2 ho0, x6 ho0, C4 ho1, x7 ho1, C2 ho1, x6 ho1, D5, D6, f13]
        exact J2 (d' := .agg [.int .i64 v14.1.code, .int .i64 v14.1.index]) (by simp) (G2 hsc (by simp <;> omega)) (.same _) (by simp <;> omega) ⟨by subst hr; rfl, by subst hr; rfl⟩
     ·replace h := B1 h (by first | exact hc | simpa using hc)
      (repeat apply sq_); apply er_; simp only [go_sem, C4 ho0, x7 ho0, C2 ho0, x6 ho0, C4 ho1, x7 ho1, C2 ho1, x6 ho1, D5, D6]
      (repeat apply sq_); refine D4 (by rfl) (fun hc => ?_) fun hc => ?_
      ·replace h := B0 h (by first | exact hc | simpa using hc)
       (repeat apply sq_); apply er_; simp only [go_sem, C4 ho0, x7 ho0, C2 ho0, x6 ho0, C4 ho1, x7 ho1, C2 ho1, x6 ho1, D5, D6]
       obtain ⟨v15, hv15, h⟩ := C6 h
       refine M6 (fun hG => (qo _ _ (iu hv15 (by simpa using hG)))) ?_
       try simp only [go_sem, C4 ho0, x7 ho0, C2 ho0, x6 ho0, C4 ho1, x7 ho1, C2 ho1, x6 ho1, D5, D6]
       (repeat apply sq_); refine D4 (by rfl) (fun hc => ?_) fun hc => ?_
       ·replace h := B0 h (by first | exact hc | simpa using hc)
        (repeat apply sq_); apply er_; simp only [go_sem, C4 ho0, x7 ho0, C2 ho0, x6 ho0, C4 ho1, x7 ho1, C2 ho1, x6 ho1, D5, D6]
        obtain ⟨v16, hv16, h⟩ := C6 h
        refine (J0 _ _ _ hv16 _ _ (by simp) (S9.trans rfl)).mono ?_
        rintro d1 st1 ⟨rfl, rfl⟩
        try simp only [go_sem, C4 ho0, x7 ho0, C2 ho0, x6 ho0, C4 ho1, x7 ho1, C2 ho1, x6 ho1, D5, D6]
        (repeat apply sq_); refine E3 ?_
        try simp only [go_sem, C4 ho0, x7 ho0, C2 ho0, x6 ho0, C4 ho1, x7 ho1, C2 ho1, x6 ho1, D5, D6]
        have hr := Option.some.inj h
        refine E4 ?_; simp only [go_sem, C4 ho0, x7 ho0, C2 ho0, x6 ho0, C4 ho1, x7 ho1, C2 ho1, x6 ho1, D5, D6]
        exact J2 (d' := .agg [.int .i64 v16.code, .int .i64 v16.index]) (by simp) (G2 hsc (by simp <;> omega)) (.same _) (by simp <;> omega) ⟨by subst hr; rfl, by subst hr; rfl⟩
       ·replace h := B1 h (by first | exact hc | simpa using hc)
        refine E6 ?_; try simp only [go_sem, C4 ho0, x7 ho0, C2 ho0, x6 ho0, C4 ho1, x7 ho1, C2 ho1, x6 ho1, D5, D6]
        obtain ⟨f17, h⟩ := G1 h
        (repeat apply sq_); refine ak [8] 1 follows (by kernel_rfl) (by rfl) ?_; simp only [go_sem, List.replicate_succ, List.replicate_zero, C4 ho0, x7 ho0, C2 ho0, x6 ho0, C4 ho1, x7 ho1, C2 ho1, x6 ho1, D5, D6, f17]
        obtain ⟨v18, hv18, h⟩ := C6 h
        refine rj [o0, o1] (fun st2 h2 => (ih _ _ _ _ _ hv18 st2 _ _ hnd ((h2 _ (by simp)).trans (by simp only [go_sem, C4 ho0, x7 ho0, C2 ho0, x6 ho0, C4 ho1, x7 ho1, C2 ho1, x6 ho1, D5, D6, f17])) ((h2 _ (by simp)).trans (by simp only [go_sem, C4 ho0, x7 ho0, C2 ho0, x6 ho0, C4 ho1, x7 ho1, C2 ho1, x6 ho1, D5, D6, f17])))) (by simp) (by simp only [List.mem_cons, List.not_mem_nil, or_false, forall_eq_or_imp, forall_eq]; exact ⟨⟨by first | omega | (simp <;> omega), _, (by simp only [go_sem, C4 ho0, x7 ho0, C2 ho0, x6 ho0, C4 ho1, x7 ho1, C2 ho1, x6 ho1, D5, D6, f17] <;> rfl), Ob.noConfusion⟩, ⟨by first | omega | (simp <;> omega), _, (by simp only [go_sem, C4 ho0, x7 ho0, C2 ho0, x6 ho0, C4 ho1, x7 ho1, C2 ho1, x6 ho1, D5, D6, f17] <;> rfl), Ob.noConfusion⟩⟩) (by simp) ?_
        try simp only [go_sem, C4 ho0, x7 ho0, C2 ho0, x6 ho0, C4 ho1, x7 ho1, C2 ho1, x6 ho1, D5, D6, f17]
        try refine ⟨by (simp <;> omega), ?_⟩
        (repeat apply sq_); apply er_; simp only [go_sem, C4 ho0, x7 ho0, C2 ho0, x6 ho0, C4 ho1, x7 ho1, C2 ho1, x6 ho1, D5, D6, f17]
        (repeat apply sq_); refine D4 (by rfl) (fun hc => ?_) fun hc => ?_
        ·replace h := B0 h (by first | exact hc | simpa using hc)
         (repeat apply sq_); apply er_; simp only [go_sem, C4 ho0, x7 ho0, C2 ho0, x6 ho0, C4 ho1, x7 ho1, C2 ho1, x6 ho1, D5, D6, f17]
         (repeat apply sq_); refine E3 ?_
         try simp only [go_sem, C4 ho0, x7 ho0, C2 ho0, x6 ho0, C4 ho1, x7 ho1, C2 ho1, x6 ho1, D5, D6, f17]
         have hr := Option.some.inj h
         refine E4 ?_; simp only [go_sem, C4 ho0, x7 ho0, C2 ho0, x6 ho0, C4 ho1, x7 ho1, C2 ho1, x6 ho1, D5, D6, f17]
         exact J2 (d' := .agg [.int .i64 v18.1.code, .int .i64 v18.1.index]) (by simp) (G2 hsc (by simp <;> omega)) (.same _) (by simp <;> omega) ⟨by subst hr; rfl, by subst hr; rfl⟩
        ·replace h := B1 h (by first | exact hc | simpa using hc)
         refine E6 ?_; try simp only [go_sem, C4 ho0, x7 ho0, C2 ho0, x6 ho0, C4 ho1, x7 ho1, C2 ho1, x6 ho1, D5, D6, f17]
         obtain ⟨f19, h⟩ := G1 h
         (repeat apply sq_); refine ak [8] 0 follows (by kernel_rfl) (by rfl) ?_; simp only [go_sem, List.replicate_succ, List.replicate_zero, C4 ho0, x7 ho0, C2 ho0, x6 ho0, C4 ho1, x7 ho1, C2 ho1, x6 ho1, D5, D6, f17, f19]
         obtain ⟨v20, hv20, h⟩ := C6 h
         refine rj [o0, o1] (fun st2 h2 => (ih _ _ _ _ _ hv20 st2 _ _ hnd ((h2 _ (by simp)).trans (by simp only [go_sem, C4 ho0, x7 ho0, C2 ho0, x6 ho0, C4 ho1, x7 ho1, C2 ho1, x6 ho1, D5, D6, f17, f19])) ((h2 _ (by simp)).trans (by simp only [go_sem, C4 ho0, x7 ho0, C2 ho0, x6 ho0, C4 ho1, x7 ho1, C2 ho1, x6 ho1, D5, D6, f17, f19])))) (by simp) (by simp only [List.mem_cons, List.not_mem_nil, or_false, forall_eq_or_imp, forall_eq]; exact ⟨⟨by first | omega | (simp <;> omega), _, (by simp only [go_sem, C4 ho0, x7 ho0, C2 ho0, x6 ho0, C4 ho1, x7 ho1, C2 ho1, x6 ho1, D5, D6, f17, f19] <;> rfl), Ob.noConfusion⟩, ⟨by first | omega | (simp <;> omega), _, (by simp only [go_sem, C4 ho0, x7 ho0, C2 ho0, x6 ho0, C4 ho1, x7 ho1, C2 ho1, x6 ho1, D5, D6, f17, f19] <;> rfl), Ob.noConfusion⟩⟩) (by simp) ?_
         try simp only [go_sem, C4 ho0, x7 ho0, C2 ho0, x6 ho0, C4 ho1, x7 ho1, C2 ho1, x6 ho1, D5, D6, f17, f19]
         try refine ⟨by (simp <;> omega), ?_⟩
         (repeat apply sq_); refine E3 ?_
         try simp only [go_sem, C4 ho0, x7 ho0, C2 ho0, x6 ho0, C4 ho1, x7 ho1, C2 ho1, x6 ho1, D5, D6, f17, f19]
         have hr := Option.some.inj h
         refine E4 ?_; simp only [go_sem, C4 ho0, x7 ho0, C2 ho0, x6 ho0, C4 ho1, x7 ho1, C2 ho1, x6 ho1, D5, D6, f17, f19]
         exact J2 (d' := .agg [.int .i64 v20.1.code, .int .i64 v20.1.index]) (by simp) (G2 hsc (by simp <;> omega)) (.same _) (by simp <;> omega) ⟨by subst hr; rfl, by subst hr; rfl⟩
      ·replace h := B1 h (by first | exact hc | simpa using hc)
       (repeat apply sq_); apply er_; simp only [go_sem, C4 ho0, x7 ho0, C2 ho0, x6 ho0, C4 ho1, x7 ho1, C2 ho1, x6 ho1, D5, D6]
       obtain ⟨v21, hv21, h⟩ := C6 h
       refine (J0 _ _ _ hv21 _ _ (by simp) (S9.trans rfl)).mono ?_
       rintro d1 st1 ⟨rfl, rfl⟩
       try simp only [go_sem, C4 ho0, x7 ho0, C2 ho0, x6 ho0, C4 ho1, x7 ho1, C2 ho1, x6 ho1, D5, D6]
       (repeat apply sq_); refine E3 ?_
       try simp only [go_sem, C4 ho0, x7 ho0, C2 ho0, x6 ho0, C4 ho1, x7 ho1, C2 ho1, x6 ho1, D5, D6]
       have hr := Option.some.inj h
       refine E4 ?_; simp only [go_sem, C4 ho0, x7 ho0, C2 ho0, x6 ho0, C4 ho1, x7 ho1, C2 ho1, x6 ho1, D5, D6]
       exact J2 (d' := .agg [.int .i64 v21.code, .int .i64 v21.index]) (by simp) (G2 hsc (by simp <;> omega)) (.same _) (by simp <;> omega) ⟨by subst hr; rfl, by subst hr; rfl⟩
end Go.Proofs.YtaohdfpcdfbnlaaGreatDoor
