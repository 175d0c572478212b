import Derived.Test.YtaohdfpcdfbnlaaGreatDoorBase
import Derived.Test.YtaohdfpcdfbnlaaGreatDoorHand
import Derived.Test.YtaohdfpcdfbnlaaGreatDoorMirrors
set_option linter.unusedVariables false
set_option linter.unusedSimpArgs false
set_option maxHeartbeats 2000000
set_option maxRecDepth 100000
namespace Go.Proofs.YtaohdfpcdfbnlaaGreatDoor
open Go Go.Am
theorem kS (a0 : Int) (r : Bool) (h : iT a0 = some r) : Pure Tryz.prog gl 98 [.int .i64 a0] (.bool r) := by
 intro st
 unfold iT at h
 refine O4 (N := 6) (rs := [.tmp 2]) (keep := [0, 2]) Tryz.func98 rfl rfl rfl (by kernel_rfl) rfl fun hsc => ?_
 (repeat apply sq_); apply er_; simp only [go_sem]
 (repeat apply sq_); apply er_; simp only [go_sem]
 (repeat apply sq_); refine E3 ?_
 try simp only [go_sem]
 have hr := Option.some.inj h
 refine E4 ?_; simp only [go_sem]
 exact B9 (d' := .bool false) hsc (.same _) (by simp) ⟨by subst hr; rfl, rfl⟩
theorem oh (a0 : Int) (a1 : Int) (r : Int) (h : dg a0 a1 = some r) : Pure Tryz.prog gl 93 [.int .i64 a0, .int .i64 a1] (.int .i64 r) := by
 intro st
 unfold dg at h
 refine O4 (N := 20) (rs := [.tmp 4]) (keep := [0, 1, 4, 5, 6, 11, 12, 13, 16, 19]) Tryz.func93 rfl rfl rfl (by kernel_rfl) rfl fun hsc => ?_
 (repeat apply sq_); apply er_; simp only [go_sem]
 (repeat apply sq_); apply er_; simp only [go_sem]
 obtain ⟨v1, hv1, h⟩ := C6 h
 refine ((kS _ _ hv1)).to ?_
 try simp only [go_sem]
 (repeat apply sq_); apply er_; simp only [go_sem]
 obtain ⟨v2, hv2, h⟩ := C6 h
 refine ((kS _ _ hv2)).to ?_
 try simp only [go_sem]
 (repeat apply sq_); apply er_; simp only [go_sem]
 (repeat apply sq_); refine D4 (by rfl) (fun hc => ?_) fun hc => ?_
 ·replace h := B0 h (by first | exact hc | simpa using hc)
  (repeat apply sq_); apply er_; simp only [go_sem]
  (repeat apply sq_); refine D4 (by rfl) (fun hc => ?_) fun hc => ?_
  ·replace h := B0 h (by first | exact hc | simpa using hc)
   (repeat apply sq_); apply er_; simp only [go_sem]
   (repeat apply sq_); refine E3 ?_
   try simp only [go_sem]
   have hr := Option.some.inj h
   refine E4 ?_; simp only [go_sem]
   exact B9 (d' := .int .i64 0) hsc (.same _) (by simp) ⟨by subst hr; rfl, rfl⟩
  ·replace h := B1 h (by first | exact hc | simpa using hc)
   refine E6 ?_; try simp only [go_sem]
   (repeat apply sq_); apply er_; simp only [go_sem]
   (repeat apply sq_); refine E3 ?_
   try simp only [go_sem]
   have hr := Option.some.inj h
   refine E4 ?_; simp only [go_sem]
   exact B9 (d' := .int .i64 (-1)) hsc (.same _) (by simp) ⟨by subst hr; rfl, rfl⟩
 ·replace h := B1 h (by first | exact hc | simpa using hc)
  refine E6 ?_; try simp only [go_sem]
  (repeat apply sq_); apply er_; simp only [go_sem]
  (repeat apply sq_); refine D4 (by rfl) (fun hc => ?_) fun hc => ?_
  ·replace h := B0 h (by first | exact hc | simpa using hc)
   (repeat apply sq_); apply er_; simp only [go_sem]
   (repeat apply sq_); refine E3 ?_
   try simp only [go_sem]
   have hr := Option.some.inj h
   refine E4 ?_; simp only [go_sem]
   exact B9 (d' := .int .i64 1) hsc (.same _) (by simp) ⟨by subst hr; rfl, rfl⟩
  ·replace h := B1 h (by first | exact hc | simpa using hc)
   refine E6 ?_; try simp only [go_sem]
   (repeat apply sq_); apply er_; simp only [go_sem]
   (repeat apply sq_); refine D4 (by rfl) (fun hc => ?_) fun hc => ?_
   ·replace h := B0 h (by first | exact hc | simpa using hc)
    (repeat apply sq_); apply er_; simp only [go_sem]
    (repeat apply sq_); refine E3 ?_
    try simp only [go_sem]
    have hr := Option.some.inj h
    refine E4 ?_; simp only [go_sem]
    exact B9 (d' := .int .i64 (-1)) hsc (.same _) (by simp) ⟨by subst hr; rfl, rfl⟩
   ·replace h := B1 h (by first | exact hc | simpa using hc)
    refine E6 ?_; try simp only [go_sem]
    (repeat apply sq_); apply er_; simp only [go_sem]
    (repeat apply sq_); refine D4 (by rfl) (fun hc => ?_) fun hc => ?_
    ·replace h := B0 h (by first | exact hc | simpa using hc)
     (repeat apply sq_); apply er_; simp only [go_sem]
     (repeat apply sq_); refine E3 ?_
     try simp only [go_sem]
     have hr := Option.some.inj h
     refine E4 ?_; simp only [go_sem]
     exact B9 (d' := .int .i64 1) hsc (.same _) (by simp) ⟨by subst hr; rfl, rfl⟩
    ·replace h := B1 h (by first | exact hc | simpa using hc)
     refine E6 ?_; try simp only [go_sem]
     (repeat apply sq_); apply er_; simp only [go_sem]
     (repeat apply sq_); refine E3 ?_
     try simp only [go_sem]
     have hr := Option.some.inj h
     refine E4 ?_; simp only [go_sem]
     exact B9 (d' := .int .i64 0) hsc (.same _) (by simp) ⟨by subst hr; rfl, rfl⟩
theorem jX (a0 : D8) (a1 : Int) (r : Int) (h : cK a0 a1 = some r) : Pure Tryz.prog gl 92 [.agg [.int .i64 a0.nZ, .int .i64 a0.to_], .int .i64 a1] (.int .i64 r) := by
 intro st
 unfold cK at h
 refine O4 (N := 9) (rs := [.tmp 4]) (keep := [0, 1, 2, 4]) Tryz.func92 rfl rfl rfl (by kernel_rfl) rfl fun hsc => ?_
 (repeat apply sq_); apply er_; simp only [go_sem]
 (repeat apply sq_); apply er_; simp only [go_sem]
 obtain ⟨v1, hv1, h⟩ := C6 h
 refine ((oh _ _ _ hv1)).to ?_
 try simp only [go_sem]
 (repeat apply sq_); refine E3 ?_
 try simp only [go_sem]
 have hr := Option.some.inj h
 refine E4 ?_; simp only [go_sem]
 exact y3 (d' := .int .i64 v1) hsc (.same _) (by simp) ⟨by subst hr; rfl, rfl⟩
theorem ah (n : Nat) (a0 : (List D8)) (a1 : Int) (r : Int × Bool) (h : E7 n a0 a1 = some r) : Pure Tryz.prog gl 91 [.sl false 2 16 (rows D8.cells a0), .int .i64 a1, .fn 92 [] []] (.tup [.int .i64 r.1, .bool r.2]) := by
 intro st
 unfold E7 at h
 refine O4 (N := 49) (rs := [.tmp 6, .tmp 7]) (keep := [0, 1, 2, 6, 7, 8, 9, 10, 11, 17, 31, 40, 41, 42, 43, 44, 45, 46, 47]) Tryz.func91 rfl rfl rfl (by kernel_rfl) rfl fun hsc => ?_
 (repeat apply sq_); apply er_; simp only [go_sem]
 (repeat apply sq_); apply er_; simp only [go_sem]
 (repeat apply sq_); apply er_; simp only [go_sem]
 (repeat apply sq_); refine O5 (body := F7 a0 a1) (kk := F8 a0 a1) (n := n) (s0 := ((↑a0.length : Int), 0))
  (fun (gs0 : Unit) (s0 : Int × Int) => [(0, .sl false 2 16 (rows D8.cells a0)), (1, .int .i64 a1), (2, .fn 92 [] []), (8, .int .i64 (↑a0.length : Int)), (9, .int .i64 s0.2), (10, .int .i64 s0.1)])
  (fun (gs0 : Unit) (s0 : Int × Int) => st)
  (fun (gt0 : Unit) (t0 : Int) => [(0, .sl false 2 16 (rows D8.cells a0)), (1, .int .i64 a1), (2, .fn 92 [] []), (8, .int .i64 (↑a0.length : Int)), (9, .int .i64 t0)])
  (fun (gt0 : Unit) (t0 : Int) => st)
  () h (D9 hsc ⟨.s, .s, .s, .s, .s, .s, trivial⟩ (by simp))
  (fun gs0 s0 b0 h hx0 => ?_) (fun gt0 t0 fr1 st1 h hb => ?_)
 ·unfold F7 at h
  (repeat apply sq_); apply er_; simp only [go_sem]
  (repeat apply sq_); refine D4 (by rfl) (fun hc => ?_) fun hc => ?_
  ·replace h := B0 h (by first | exact hc | simpa using hc)
   refine E6 ?_; try simp only [go_sem]
   (repeat apply sq_); refine U8 ?_
   (repeat apply sq_); apply er_; simp only [go_sem]
   obtain ⟨⟨f4, f5⟩, h⟩ := G1 h
   (repeat apply sq_); apply er_; simp only [go_sem, f4, f5]
   obtain ⟨v6, hv6, h⟩ := C6 h
   refine ((jX _ _ _ hv6)).to ?_
   try simp only [go_sem, f4, f5]
   (repeat apply sq_); refine D4 (by rfl) (fun hc => ?_) fun hc => ?_
   ·replace h := B0 h (by first | exact hc | simpa using hc)
    (repeat apply sq_); apply er_; simp only [go_sem, f4, f5]
    cases h
    exact U4 () (D9 hsc ⟨.s, .s, .s, .s, .s, .s, trivial⟩ (by simp))
   ·replace h := B1 h (by first | exact hc | simpa using hc)
    (repeat apply sq_); apply er_; simp only [go_sem, f4, f5]
    cases h
    exact U4 () (D9 hsc ⟨.s, .s, .s, .s, .s, .s, trivial⟩ (by simp))
  ·replace h := B1 h (by first | exact hc | simpa using hc)
   (repeat apply sq_); refine Y2 ?_; try simp only [go_sem]
   cases h
   exact bL () (D9 hsc ⟨.s, .s, .s, .s, .s, trivial⟩ (by simp))
 ·try simp only [go_sem]
  unfold F8 at h
  refine L6 hb ?_
  obtain ⟨⟨f8, f9⟩, h⟩ := G1 h
  (repeat apply sq_); apply er_; simp only [go_sem, f8, f9]
  obtain ⟨v10, hv10, h⟩ := C6 h
  refine M6 (fun hG => (jX _ _ _ (iu hv10 (by simpa using hG)))) ?_
  try simp only [go_sem, f8, f9]
  (repeat apply sq_); refine E3 ?_
  try simp only [go_sem, f8, f9]
  have hr := Option.some.inj h
  refine E4 ?_; simp only [go_sem, f8, f9]
  exact B9 (d' := .tup [.int .i64 t0, .bool (bif (decide (t0 < (↑a0.length : Int))) then (decide (v10 = 0)) else false)]) hsc (.same _) (by simp) ⟨by subst hr; rfl, rfl⟩
theorem qH (n : Nat) (a0 : y5) (a1 : Int) (a2 : Int) (r : Int) (h : fT n a0 a1 a2 = some r) : Pure Tryz.prog gl 80 [.agg [.sl false 2 32 (rows w8.cells a0.nodes)], .int .i64 a1, .int .i64 a2] (.int .i64 r) := by
 intro st
 unfold fT at h
 refine O4 (N := 32) (rs := [.tmp 6]) (keep := [0, 1, 2, 3, 6, 7, 8, 21]) Tryz.func80 rfl rfl rfl (by kernel_rfl) rfl fun hsc => ?_
 (repeat apply sq_); apply er_; simp only [go_sem]
 obtain ⟨⟨f1, f2⟩, h⟩ := G1 h
 (repeat apply sq_); apply er_; simp only [go_sem, f1, f2]
 obtain ⟨v3, hv3, h⟩ := C6 h
 refine ((ah n _ _ _ hv3)).to ?_
 try simp only [go_sem, f1, f2]
 (repeat apply sq_); apply er_; simp only [go_sem, f1, f2]
 (repeat apply sq_); refine D4 (by rfl) (fun hc => ?_) fun hc => ?_
 ·replace h := B0 h (by first | exact hc | simpa using hc)
  (repeat apply sq_); apply er_; simp only [go_sem, f1, f2]
  (repeat apply sq_); refine E3 ?_
  try simp only [go_sem, f1, f2]
  have hr := Option.some.inj h
  refine E4 ?_; simp only [go_sem, f1, f2]
  exact y3 (d' := .int .i64 (-1)) hsc (.same _) (by simp) ⟨by subst hr; rfl, rfl⟩
 ·replace h := B1 h (by first | exact hc | simpa using hc)
  refine E6 ?_; try simp only [go_sem, f1, f2]
  obtain ⟨⟨f4, f5⟩, h⟩ := G1 h
  (repeat apply sq_); apply er_; simp only [go_sem, f1, f2, f4, f5]
  (repeat apply sq_); refine E3 ?_
  try simp only [go_sem, f1, f2, f4, f5]
  have hr := Option.some.inj h
  refine E4 ?_; simp only [go_sem, f1, f2, f4, f5]
  exact y3 (d' := .int .i64 ((get ((get a0.nodes a1.toNat).links) v3.1.toNat).to_)) hsc (.same _) (by simp) ⟨by subst hr; rfl, rfl⟩
theorem om (n : Nat) (a0 : y5) (a1 : Int) (r : Bool) (h : dh n a0 a1 = some r) : Pure Tryz.prog gl 68 [.agg [.sl false 2 32 (rows w8.cells a0.nodes)], .int .i64 a1] (.bool r) := by
 intro st
 unfold dh at h
 refine O4 (N := 18) (rs := [.tmp 4]) (keep := [0, 1, 2, 4, 5, 6, 7, 16]) Tryz.func68 rfl rfl rfl (by kernel_rfl) rfl fun hsc => ?_
 (repeat apply sq_); apply er_; simp only [go_sem]
 (repeat apply sq_); apply er_; simp only [go_sem]
 (repeat apply sq_); refine arg_ (body := cj n a0 a1) (kk := eN) (n := 4) (s0 := ())
  (fun (gs0 : Unit) (k0 : Nat) (s0 : Unit) => [(1, .int .i64 a1), (2, .ptr st.length 0 0 0), (6, .int .i64 (↑k0 : Int))])
  (fun (gs0 : Unit) (k0 : Nat) (s0 : Unit) => st ++ [some (.arr 0 1 0 [[.sl false 2 32 (rows w8.cells a0.nodes)]])])
  (fun (gt0 : Unit) (t0 : Unit) => [])
  (fun (gt0 : Unit) (t0 : Unit) => st)
  () h (G0 hsc (.lv (.nil _)) (by simp) ⟨.s, .s, .s, trivial⟩ (by simp))
  (fun gs0 k0 s0 b0 hk0 h hx0 => ?_) (fun gs0 s0 => ?_) (fun gt0 t0 fr1 st1 h hb => ?_)
 ·unfold cj at h
  have hw0 : wr .i64 ((↑k0 : Int) + 1) = (↑(k0 + 1) : Int) := kP (by omega)
  have hj0 : (↑k0 : Int) < 4 := by omega
  (repeat apply sq_); apply er_; simp only [go_sem]
  (repeat apply sq_); refine D4 (by rfl) (fun hc => ?_) fun hc => ?_
  ·refine E6 ?_; try simp only [go_sem]
   (repeat apply sq_); refine U8 ?_
   (repeat apply sq_); apply er_; simp only [go_sem, hk0, hw0, hj0]
   (repeat apply sq_); apply er_; simp only [go_sem, hk0, hw0, hj0]
   obtain ⟨v1, hv1, h⟩ := C6 h
   refine ((qH n _ _ _ _ hv1)).to ?_
   try simp only [go_sem, hk0, hw0, hj0]
   (repeat apply sq_); refine D4 (by rfl) (fun hc => ?_) fun hc => ?_
   ·replace h := B0 h (by first | exact hc | simpa using hc)
    (repeat apply sq_); apply er_; simp only [go_sem, hk0, hw0, hj0]
    (repeat apply sq_); refine E3 ?_
    try simp only [go_sem, hk0, hw0, hj0]
    obtain rfl := Option.some.inj h
    refine F9 ?_; have hr := hx0 _ rfl; try simp only [go_sem, hk0, hw0, hj0]
    refine E4 ?_; simp only [go_sem, hk0, hw0, hj0]
    exact y3 (d' := .bool false) hsc (.same _) (by simp) ⟨by subst hr; rfl, rfl⟩
   ·replace h := B1 h (by first | exact hc | simpa using hc)
    refine E6 ?_; try simp only [go_sem, hk0, hw0, hj0]
    (repeat apply sq_); apply er_; simp only [go_sem, hk0, hw0, hj0]
    cases h
    exact bK () (G0 hsc (.lv (.nil _)) (by simp) ⟨.s, .s, .s, trivial⟩ (by simp))
  ·exfalso; have hc := of_decide_eq_false hc; omega
 ·(repeat apply sq_); apply er_; simp only [go_sem]
  (repeat apply sq_); refine D4 (by rfl) (fun hc => ?_) fun hc => ?_
  ·exfalso; first | exact Bool.noConfusion hc | (have hc := of_decide_eq_true hc; omega)
  ·refine Y2 ?_; simp only [go_sem]
   exact ⟨(), (aO hsc trivial (by simp))⟩
 ·try simp only [go_sem]
  unfold eN at h
  refine L6 hb ?_
  (repeat apply sq_); apply er_; simp only [go_sem]
  (repeat apply sq_); refine E3 ?_
  try simp only [go_sem]
  have hr := Option.some.inj h
  refine E4 ?_; simp only [go_sem]
  exact B9 (d' := .bool true) hsc (.same _) (by simp) ⟨by subst hr; rfl, rfl⟩
theorem J0 (a0 : Int) (dF : Int) (r : y7) (h : I0 a0 dF = some r) : ∀ (st : St) (o0 : Nat) (hnd : [o0].Nodup) (ji : Am.look st o0 = some (.arr 0 1 0 [[.int .i64 dF]])), Am.Spec Tryz.prog gl 82 [.int .i64 a0, .ptr o0 0 0 0] st (fun d st' => d = .agg [.int .i64 r.code, .int .i64 r.index] ∧ st' = puts st []) := by
 intro st o0 hnd ji
 unfold I0 at h
 have ho0 := fP ji
 refine O4 (N := 7) (rs := [.cell 3 41]) (keep := [0, 1, 3]) Tryz.func82 rfl rfl rfl (by kernel_rfl) rfl fun hsc => ?_
 refine pO (s' := (gu st [(o0, (.arr 0 1 0 [[.int .i64 dF]]))])) (L7 (by simp [ji])) ?_
 (repeat apply sq_); apply er_; simp only [go_sem, C4 ho0, x7 ho0, C2 ho0, x6 ho0]
 (repeat apply sq_); apply er_; simp only [go_sem, C4 ho0, x7 ho0, C2 ho0, x6 ho0]
 (repeat apply sq_); refine E3 ?_
 try simp only [go_sem, C4 ho0, x7 ho0, C2 ho0, x6 ho0]
 have hr := Option.some.inj h
 refine E4 ?_; simp only [go_sem, C4 ho0, x7 ho0, C2 ho0, x6 ho0]
 exact J2 (d' := .agg [.int .i64 a0, .int .i64 dF]) (by simp) (G2 hsc (by simp <;> omega)) (.same _) (by simp <;> omega) ⟨by subst hr; rfl, by exact L7 (by simp [ji])⟩
theorem mG : ∀ (n : Nat) (a0 : u0) (a1 : Int) (dF : Int) (r : Int × Int) (h : Q8 n a0 a1 dF = some r), ∀ (st : St) (o0 o1 : Nat) (hnd : [o0, o1].Nodup) (ji : Am.look st o0 = some (.arr 0 1 0 [[.int .i64 dF]])) (Bj : Am.look st o1 = some (.arr 0 1 0 [[.fn 94 [] [.ptr o0 0 0 0, .ptr o1 0 0 0]]])), Am.Spec Tryz.prog gl 94 [.agg [.str a0.base, .sl false 2 40 (rows u0.cells a0.args)], .int .i64 a1, .ptr o0 0 0 0, .ptr o1 0 0 0] st (fun d st' => d = .int .i64 r.1 ∧ st' = puts st [(o0, (.arr 0 1 0 [[.int .i64 r.2]])), (o1, (.arr 0 1 0 [[.fn 94 [] [.ptr o0 0 0 0, .ptr o1 0 0 0]]]))]) := by
 intro n
 induction n with
 | zero => intro a0 a1 dF r h; cases h
 | succ n ih =>
  intro a0 a1 dF r h st o0 o1 hnd ji Bj
  unfold Q8 at h
  have ho0 := fP ji
  have ho1 := fP Bj
  have CY := hnd
  simp only [List.nodup_cons, List.mem_cons, List.not_mem_nil, or_false, not_or, not_false_eq_true, List.nodup_nil, and_true] at CY
  have uZ := CY
  have D5 : (o0 = o1) = False := eq_false uZ
  have D6 : (o1 = o0) = False := eq_false (fun e => uZ e.symm)
  refine O4 (N := 62) (rs := [.tmp 6]) (keep := [0, 1, 2, 3, 4, 6, 7, 9, 10, 16, 17, 18, 23, 24, 25, 29, 30, 31, 32, 35, 36, 37, 38, 39, 40, 41, 42, 43, 45, 47, 48, 49, 50, 59]) Tryz.func94 rfl rfl rfl (by kernel_rfl) rfl fun hsc => ?_
  refine pO (s' := (gu st [(o0, (.arr 0 1 0 [[.int .i64 dF]])), (o1, (.arr 0 1 0 [[.fn 94 [] [.ptr o0 0 0 0, .ptr o1 0 0 0]]]))])) (L7 (by simp [ji, Bj])) ?_
  (repeat apply sq_); apply er_; simp only [go_sem, C4 ho0, x7 ho0, C2 ho0, x6 ho0, C4 ho1, x7 ho1, C2 ho1, x6 ho1, D5, D6]
  (repeat apply sq_); apply er_; simp only [go_sem, C4 ho0, x7 ho0, C2 ho0, x6 ho0, C4 ho1, x7 ho1, C2 ho1, x6 ho1, D5, D6]
  (repeat apply sq_); apply er_; simp only [go_sem, C4 ho0, x7 ho0, C2 ho0, x6 ho0, C4 ho1, x7 ho1, C2 ho1, x6 ho1, D5, D6]
  (repeat apply sq_); refine D4 (by rfl) (fun hc => ?_) fun hc => ?_
  ·replace h := B0 h (by first | exact hc | simpa using hc)
   (repeat apply sq_); apply er_; simp only [go_sem, C4 ho0, x7 ho0, C2 ho0, x6 ho0, C4 ho1, x7 ho1, C2 ho1, x6 ho1, D5, D6]
   (repeat apply sq_); refine E3 ?_
   try simp only [go_sem, C4 ho0, x7 ho0, C2 ho0, x6 ho0, C4 ho1, x7 ho1, C2 ho1, x6 ho1, D5, D6]
   have hr := Option.some.inj h
   refine E4 ?_; simp only [go_sem, C4 ho0, x7 ho0, C2 ho0, x6 ho0, C4 ho1, x7 ho1, C2 ho1, x6 ho1, D5, D6]
   exact J2 (d' := .int .i64 1) (by simp) (G2 hsc (by simp <;> omega)) (.same _) (by simp <;> omega) ⟨by subst hr; rfl, by subst hr; rfl⟩
  ·replace h := B1 h (by first | exact hc | simpa using hc)
   refine E6 ?_; try simp only [go_sem, C4 ho0, x7 ho0, C2 ho0, x6 ho0, C4 ho1, x7 ho1, C2 ho1, x6 ho1, D5, D6]
   (repeat apply sq_); apply er_; simp only [go_sem, C4 ho0, x7 ho0, C2 ho0, x6 ho0, C4 ho1, x7 ho1, C2 ho1, x6 ho1, D5, D6]
   (repeat apply sq_); apply er_; simp only [go_sem, C4 ho0, x7 ho0, C2 ho0, x6 ho0, C4 ho1, x7 ho1, C2 ho1, x6 ho1, D5, D6]
   (repeat apply sq_); refine D4 (by rfl) (fun hc => ?_) fun hc => ?_
   ·replace h := B0 h (by first | exact hc | simpa using hc)
    (repeat apply sq_); apply er_; simp only [go_sem, C4 ho0, x7 ho0, C2 ho0, x6 ho0, C4 ho1, x7 ho1, C2 ho1, x6 ho1, D5, D6]
    (repeat apply sq_); refine E3 ?_
    try simp only [go_sem, C4 ho0, x7 ho0, C2 ho0, x6 ho0, C4 ho1, x7 ho1, C2 ho1, x6 ho1, D5, D6]
    have hr := Option.some.inj h
    refine E4 ?_; simp only [go_sem, C4 ho0, x7 ho0, C2 ho0, x6 ho0, C4 ho1, x7 ho1, C2 ho1, x6 ho1, D5, D6]
    exact J2 (d' := .int .i64 5) (by simp) (G2 hsc (by simp <;> omega)) (.same _) (by simp <;> omega) ⟨by subst hr; rfl, by subst hr; rfl⟩
   ·replace h := B1 h (by first | exact hc | simpa using hc)
    refine E6 ?_; try simp only [go_sem, C4 ho0, x7 ho0, C2 ho0, x6 ho0, C4 ho1, x7 ho1, C2 ho1, x6 ho1, D5, D6]
    (repeat apply sq_); apply er_; simp only [go_sem, C4 ho0, x7 ho0, C2 ho0, x6 ho0, C4 ho1, x7 ho1, C2 ho1, x6 ho1, D5, D6]
    (repeat apply sq_); refine fG (t := 47) rfl fun hl0 => ?_
    simp only [eF] at hl0
    (repeat apply sq_); refine arg_ (body := aD (Q8 n) a0 a1) (kk := dj) (n := a0.args.length) (s0 := (wr .i64 (dF + 1)))
     (fun (gs0 : Unit) (k0 : Nat) (s0 : Int) => [(1, .int .i64 a1), (3, .ptr o1 0 0 0), (47, .sl false 2 40 (rows u0.cells a0.args)), (48, .int .i64 (↑a0.args.length : Int)), (49, .int .i64 (↑k0 : Int))])
     (fun (gs0 : Unit) (k0 : Nat) (s0 : Int) => (gu st [(o0, (.arr 0 1 0 [[.int .i64 s0]])), (o1, (.arr 0 1 0 [[.fn 94 [] [.ptr o0 0 0 0, .ptr o1 0 0 0]]]))]))
     (fun (gt0 : Unit) (t0 : Int) => [])
     (fun (gt0 : Unit) (t0 : Int) => (gu st [(o0, (.arr 0 1 0 [[.int .i64 t0]])), (o1, (.arr 0 1 0 [[.fn 94 [] [.ptr o0 0 0 0, .ptr o1 0 0 0]]]))]))
     () h (Al (by simp) (G2 hsc (by simp <;> omega)) ⟨.s, .s, .s, .s, .s, trivial⟩ (by simp <;> omega))
     (fun gs0 k0 s0 b0 hk0 h hx0 => ?_) (fun gs0 s0 => ?_) (fun gt0 t0 fr1 st1 h hb => ?_)
    ·unfold aD at h
     have hw0 : wr .i64 ((↑k0 : Int) + 1) = (↑(k0 + 1) : Int) := gy hk0 hl0 (by decide)
     (repeat apply sq_); apply er_; simp only [go_sem, C4 ho0, x7 ho0, C2 ho0, x6 ho0, C4 ho1, x7 ho1, C2 ho1, x6 ho1, D5, D6]
     (repeat apply sq_); refine D4 (by rfl) (fun hc => ?_) fun hc => ?_
     ·refine E6 ?_; try simp only [go_sem, C4 ho0, x7 ho0, C2 ho0, x6 ho0, C4 ho1, x7 ho1, C2 ho1, x6 ho1, D5, D6]
      (repeat apply sq_); refine U8 ?_
      (repeat apply sq_); apply er_; simp only [go_sem, C4 ho0, x7 ho0, C2 ho0, x6 ho0, C4 ho1, x7 ho1, C2 ho1, x6 ho1, D5, D6, hk0, hw0]
      (repeat apply sq_); apply er_; simp only [go_sem, C4 ho0, x7 ho0, C2 ho0, x6 ho0, C4 ho1, x7 ho1, C2 ho1, x6 ho1, D5, D6, hk0, hw0]
      obtain ⟨v2, hv2, h⟩ := C6 h
      refine (ih _ _ _ _ hv2 _ _ _ hnd (by simp only [go_sem, C4 ho0, x7 ho0, C2 ho0, x6 ho0, C4 ho1, x7 ho1, C2 ho1, x6 ho1, D5, D6, hk0, hw0]) (by simp only [go_sem, C4 ho0, x7 ho0, C2 ho0, x6 ho0, C4 ho1, x7 ho1, C2 ho1, x6 ho1, D5, D6, hk0, hw0])).mono ?_
      rintro d1 st1 ⟨rfl, rfl⟩
      try simp only [go_sem, C4 ho0, x7 ho0, C2 ho0, x6 ho0, C4 ho1, x7 ho1, C2 ho1, x6 ho1, D5, D6, hk0, hw0]
      (repeat apply sq_); apply er_; simp only [go_sem, C4 ho0, x7 ho0, C2 ho0, x6 ho0, C4 ho1, x7 ho1, C2 ho1, x6 ho1, D5, D6, hk0, hw0]
      (repeat apply sq_); refine D4 (by rfl) (fun hc => ?_) fun hc => ?_
      ·replace h := B0 h (by first | exact hc | simpa using hc)
       (repeat apply sq_); apply er_; simp only [go_sem, C4 ho0, x7 ho0, C2 ho0, x6 ho0, C4 ho1, x7 ho1, C2 ho1, x6 ho1, D5, D6, hk0, hw0]
       (repeat apply sq_); refine E3 ?_
       try simp only [go_sem, C4 ho0, x7 ho0, C2 ho0, x6 ho0, C4 ho1, x7 ho1, C2 ho1, x6 ho1, D5, D6, hk0, hw0]
       obtain rfl := Option.some.inj h
       refine F9 ?_; have hr := hx0 _ rfl; try simp only [go_sem, C4 ho0, x7 ho0, C2 ho0, x6 ho0, C4 ho1, x7 ho1, C2 ho1, x6 ho1, D5, D6, hk0, hw0]
       refine E4 ?_; simp only [go_sem, C4 ho0, x7 ho0, C2 ho0, x6 ho0, C4 ho1, x7 ho1, C2 ho1, x6 ho1, D5, D6, hk0, hw0]
       exact J2 (d' := .int .i64 v2.1) (by simp) (G2 hsc (by simp <;> omega)) (.same _) (by simp <;> omega) ⟨by subst hr; rfl, by subst hr; rfl⟩
      ·replace h := B1 h (by first | exact hc | simpa using hc)
       refine E6 ?_; try simp only [go_sem, C4 ho0, x7 ho0, C2 ho0, x6 ho0, C4 ho1, x7 ho1, C2 ho1, x6 ho1, D5, D6, hk0, hw0]
       (repeat apply sq_); apply er_; simp only [go_sem, C4 ho0, x7 ho0, C2 ho0, x6 ho0, C4 ho1, x7 ho1, C2 ho1, x6 ho1, D5, D6, hk0, hw0]
       cases h
       exact bK () (Al (by simp) (G2 hsc (by simp <;> omega)) ⟨.s, .s, .s, .s, .s, trivial⟩ (by simp <;> omega))
     ·exfalso; have hc := of_decide_eq_false hc; omega
    ·(repeat apply sq_); apply er_; simp only [go_sem, C4 ho0, x7 ho0, C2 ho0, x6 ho0, C4 ho1, x7 ho1, C2 ho1, x6 ho1, D5, D6]
     (repeat apply sq_); refine D4 (by rfl) (fun hc => ?_) fun hc => ?_
     ·exfalso; first | exact Bool.noConfusion hc | (have hc := of_decide_eq_true hc; omega)
     ·refine Y2 ?_; simp only [go_sem, C4 ho0, x7 ho0, C2 ho0, x6 ho0, C4 ho1, x7 ho1, C2 ho1, x6 ho1, D5, D6]
      exact ⟨(), (Cj (by simp) (G2 hsc (by simp <;> omega)) trivial (by simp <;> omega))⟩
    ·try simp only [go_sem, C4 ho0, x7 ho0, C2 ho0, x6 ho0, C4 ho1, x7 ho1, C2 ho1, x6 ho1, D5, D6]
     unfold dj at h
     refine L6 hb ?_
     (repeat apply sq_); apply er_; simp only [go_sem, C4 ho0, x7 ho0, C2 ho0, x6 ho0, C4 ho1, x7 ho1, C2 ho1, x6 ho1, D5, D6]
     (repeat apply sq_); refine E3 ?_
     try simp only [go_sem, C4 ho0, x7 ho0, C2 ho0, x6 ho0, C4 ho1, x7 ho1, C2 ho1, x6 ho1, D5, D6]
     have hr := Option.some.inj h
     refine E4 ?_; simp only [go_sem, C4 ho0, x7 ho0, C2 ho0, x6 ho0, C4 ho1, x7 ho1, C2 ho1, x6 ho1, D5, D6]
     exact Ao (d' := .int .i64 0) (by simp) (G2 hsc (by simp <;> omega)) (.same _) (by simp <;> omega) ⟨by subst hr; rfl, by subst hr; rfl⟩
end Go.Proofs.YtaohdfpcdfbnlaaGreatDoor
