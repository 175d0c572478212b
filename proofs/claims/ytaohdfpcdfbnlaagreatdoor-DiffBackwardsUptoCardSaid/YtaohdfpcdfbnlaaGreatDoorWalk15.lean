import Derived.Test.YtaohdfpcdfbnlaaGreatDoorBase
import Derived.Test.YtaohdfpcdfbnlaaGreatDoorHand
import Derived.Test.YtaohdfpcdfbnlaaGreatDoorMirrors
set_option linter.unusedVariables false
set_option linter.unusedSimpArgs false
set_option maxHeartbeats 2000000
set_option maxRecDepth 100000
namespace Go.Proofs.YtaohdfpcdfbnlaaGreatDoor
open Go Go.Am
theorem eD (a0 : Int) (a1 : Int) (r : y7) (h : fZ a0 a1 = some r) : Pure Tryz.prog gl 36 [.int .i64 a0, .int .i64 a1] (.agg [.int .i64 r.code, .int .i64 r.index]) := by
 intro st
 unfold fZ at h
 refine O4 (N := 8) (rs := [.cell 4 41]) (keep := [0, 1, 4]) Tryz.func36 rfl rfl rfl (by kernel_rfl) rfl fun hsc => ?_
 (repeat apply sq_); apply er_; simp only [go_sem]
 (repeat apply sq_); apply er_; simp only [go_sem]
 (repeat apply sq_); refine E3 ?_
 try simp only [go_sem]
 have hr := Option.some.inj h
 refine E4 ?_; simp only [go_sem]
 exact y3 (d' := .agg [.int .i64 a0, .int .i64 a1]) hsc (.same _) (by simp) ⟨by subst hr; rfl, rfl⟩
theorem mF (a0 : Int) (a1 : Int) (a2 : Int) (r : Bool) (h : fH a0 a1 a2 = some r) : Pure Tryz.prog gl 61 [.int .i64 a0, .int .i64 a1, .int .i64 a2] (.bool r) := by
 intro st
 unfold fH at h
 refine O4 (N := 25) (rs := [.tmp 6]) (keep := [0, 1, 2, 6, 10, 11, 14, 15, 18, 19, 22, 23]) Tryz.func61 rfl rfl rfl (by kernel_rfl) rfl fun hsc => ?_
 (repeat apply sq_); apply er_; simp only [go_sem]
 (repeat apply sq_); apply er_; simp only [go_sem]
 (repeat apply sq_); refine E3 ?_
 try simp only [go_sem]
 have hr := Option.some.inj h
 refine E4 ?_; simp only [go_sem]
 exact B9 (d' := .bool (bif (bif (bif (bif (decide (a0 < 0)) then true else (decide (a1 < 0))) then true else (decide (100 < a0))) then true else (decide (100 < a1))) then true else (decide (100 < a2)))) hsc (.same _) (by simp) ⟨by subst hr; rfl, rfl⟩
theorem nU (a0 : C5) (r : y7) (h : iz a0 = some r) : Pure Tryz.prog gl 22 [.agg [.sl false 2 48 (rows w4.cells a0.hierarchy), .sl false 1 24 (rows y5.cells a0.start), .sl false 3 40 (rows y8.cells a0.rules), .sl false 3 40 (rows B6.cells a0.D0)]] (.agg [.int .i64 r.code, .int .i64 r.index]) := by
 intro st
 unfold iz at h
 refine O4 (N := 76) (rs := [.cell 2 41]) (keep := [0, 1, 2, 3, 4, 5, 6, 7, 13, 14, 15, 16, 19, 20, 21, 22, 25, 26, 27, 28, 29, 32, 33, 34, 35, 47, 52, 53, 54, 55, 67]) Tryz.func22 rfl rfl rfl (by kernel_rfl) rfl fun hsc => ?_
 (repeat apply sq_); apply er_; simp only [go_sem]
 (repeat apply sq_); apply er_; simp only [go_sem]
 (repeat apply sq_); refine D4 (by rfl) (fun hc => ?_) fun hc => ?_
 ·replace h := B0 h (by first | exact hc | simpa using hc)
  (repeat apply sq_); apply er_; simp only [go_sem]
  obtain ⟨v1, hv1, h⟩ := C6 h
  refine ((eD _ _ _ hv1)).to ?_
  try simp only [go_sem]
  (repeat apply sq_); refine E3 ?_
  try simp only [go_sem]
  have hr := Option.some.inj h
  refine E4 ?_; simp only [go_sem]
  exact y3 (d' := .agg [.int .i64 v1.code, .int .i64 v1.index]) hsc (.same _) (by simp) ⟨by subst hr; rfl, rfl⟩
 ·replace h := B1 h (by first | exact hc | simpa using hc)
  refine E6 ?_; try simp only [go_sem]
  (repeat apply sq_); apply er_; simp only [go_sem]
  (repeat apply sq_); apply er_; simp only [go_sem]
  (repeat apply sq_); refine fG (t := 32) rfl fun hl0 => ?_
  simp only [eF] at hl0
  (repeat apply sq_); refine arg_ (body := gG a0) (kk := gH a0) (n := a0.rules.length) (s0 := ())
   (fun (gs0 : Unit) (k0 : Nat) (s0 : Unit) => [(1, .ptr st.length 0 0 0), (2, .ptr (st.length + 1) 0 0 0), (3, .fn 61 [] []), (32, .sl false 3 40 (rows y8.cells a0.rules)), (33, .int .i64 (↑a0.rules.length : Int)), (34, .int .i64 (↑k0 : Int))])
   (fun (gs0 : Unit) (k0 : Nat) (s0 : Unit) => st ++ [some (.arr 0 4 0 [[.sl false 2 48 (rows w4.cells a0.hierarchy), .sl false 1 24 (rows y5.cells a0.start), .sl false 3 40 (rows y8.cells a0.rules), .sl false 3 40 (rows B6.cells a0.D0)]]), some (.arr 0 2 0 [[.int .i64 0, .int .i64 0]])])
   (fun (gt0 : Unit) (t0 : Unit) => [(1, .ptr st.length 0 0 0), (2, .ptr (st.length + 1) 0 0 0), (3, .fn 61 [] [])])
   (fun (gt0 : Unit) (t0 : Unit) => st ++ [some (.arr 0 4 0 [[.sl false 2 48 (rows w4.cells a0.hierarchy), .sl false 1 24 (rows y5.cells a0.start), .sl false 3 40 (rows y8.cells a0.rules), .sl false 3 40 (rows B6.cells a0.D0)]]), some (.arr 0 2 0 [[.int .i64 0, .int .i64 0]])])
   () h (G0 hsc (.lv (.lv (.nil _))) (by simp) ⟨.s, .s, .s, .s, .s, .s, trivial⟩ (by simp))
   (fun gs0 k0 s0 b0 hk0 h hx0 => ?_) (fun gs0 s0 => ?_) (fun gt0 t0 fr1 st1 h hb => ?_)
  ·unfold gG at h
   have hw0 : wr .i64 ((↑k0 : Int) + 1) = (↑(k0 + 1) : Int) := gy hk0 hl0 (by decide)
   (repeat apply sq_); apply er_; simp only [go_sem]
   (repeat apply sq_); refine D4 (by rfl) (fun hc => ?_) fun hc => ?_
   ·refine E6 ?_; try simp only [go_sem]
    (repeat apply sq_); refine U8 ?_
    (repeat apply sq_); apply er_; simp only [go_sem, hk0, hw0]
    (repeat apply sq_); apply er_; simp only [go_sem, hk0, hw0]
    obtain ⟨v2, hv2, h⟩ := C6 h
    refine ((mF _ _ _ _ hv2)).to ?_
    try simp only [go_sem, hk0, hw0]
    (repeat apply sq_); refine D4 (by rfl) (fun hc => ?_) fun hc => ?_
    ·replace h := B0 h (by first | exact hc | simpa using hc)
     (repeat apply sq_); apply er_; simp only [go_sem, hk0, hw0]
     obtain ⟨v3, hv3, h⟩ := C6 h
     refine ((eD _ _ _ hv3)).to ?_
     try simp only [go_sem, hk0, hw0]
     (repeat apply sq_); refine E3 ?_
     try simp only [go_sem, hk0, hw0]
     obtain rfl := Option.some.inj h
     refine F9 ?_; have hr := hx0 _ rfl; try simp only [go_sem, hk0, hw0]
     refine E4 ?_; simp only [go_sem, hk0, hw0]
     exact y3 (d' := .agg [.int .i64 v3.code, .int .i64 v3.index]) hsc (.same _) (by simp) ⟨by subst hr; rfl, rfl⟩
    ·replace h := B1 h (by first | exact hc | simpa using hc)
     refine E6 ?_; try simp only [go_sem, hk0, hw0]
     (repeat apply sq_); apply er_; simp only [go_sem, hk0, hw0]
     cases h
     exact bK () (G0 hsc (.lv (.lv (.nil _))) (by simp) ⟨.s, .s, .s, .s, .s, .s, trivial⟩ (by simp))
   ·exfalso; have hc := of_decide_eq_false hc; omega
  ·(repeat apply sq_); apply er_; simp only [go_sem]
   (repeat apply sq_); refine D4 (by rfl) (fun hc => ?_) fun hc => ?_
   ·exfalso; first | exact Bool.noConfusion hc | (have hc := of_decide_eq_true hc; omega)
   ·refine Y2 ?_; simp only [go_sem]
    exact ⟨(), (G0 hsc (.lv (.lv (.nil _))) (by simp) ⟨.s, .s, .s, trivial⟩ (by simp))⟩
  ·try simp only [go_sem]
   unfold gH at h
   refine L6 hb ?_
   (repeat apply sq_); apply er_; simp only [go_sem]
   (repeat apply sq_); refine fG (t := 52) rfl fun hl1 => ?_
   simp only [eF] at hl1
   (repeat apply sq_); refine arg_ (body := gI a0) (kk := jD) (n := a0.D0.length) (s0 := ())
    (fun (gs1 : Unit) (k1 : Nat) (s1 : Unit) => [(1, .ptr st.length 0 0 0), (2, .ptr (st.length + 1) 0 0 0), (3, .fn 61 [] []), (52, .sl false 3 40 (rows B6.cells a0.D0)), (53, .int .i64 (↑a0.D0.length : Int)), (54, .int .i64 (↑k1 : Int))])
    (fun (gs1 : Unit) (k1 : Nat) (s1 : Unit) => st ++ [some (.arr 0 4 0 [[.sl false 2 48 (rows w4.cells a0.hierarchy), .sl false 1 24 (rows y5.cells a0.start), .sl false 3 40 (rows y8.cells a0.rules), .sl false 3 40 (rows B6.cells a0.D0)]]), some (.arr 0 2 0 [[.int .i64 0, .int .i64 0]])])
    (fun (gt1 : Unit) (t1 : Unit) => [(2, .ptr (st.length + 1) 0 0 0)])
    (fun (gt1 : Unit) (t1 : Unit) => st ++ [none, some (.arr 0 2 0 [[.int .i64 0, .int .i64 0]])])
    () h (G0 hsc (.lv (.lv (.nil _))) (by simp) ⟨.s, .s, .s, .s, .s, .s, trivial⟩ (by simp))
    (fun gs1 k1 s1 b1 hk1 h hx1 => ?_) (fun gs1 s1 => ?_) (fun gt1 t1 fr1 st1 h hb => ?_)
   ·unfold gI at h
    have hw1 : wr .i64 ((↑k1 : Int) + 1) = (↑(k1 + 1) : Int) := gy hk1 hl1 (by decide)
    (repeat apply sq_); apply er_; simp only [go_sem]
    (repeat apply sq_); refine D4 (by rfl) (fun hc => ?_) fun hc => ?_
    ·refine E6 ?_; try simp only [go_sem]
     (repeat apply sq_); refine U8 ?_
     (repeat apply sq_); apply er_; simp only [go_sem, hk1, hw1]
     (repeat apply sq_); apply er_; simp only [go_sem, hk1, hw1]
     obtain ⟨v4, hv4, h⟩ := C6 h
     refine ((mF _ _ _ _ hv4)).to ?_
     try simp only [go_sem, hk1, hw1]
     (repeat apply sq_); refine D4 (by rfl) (fun hc => ?_) fun hc => ?_
     ·replace h := B0 h (by first | exact hc | simpa using hc)
      (repeat apply sq_); apply er_; simp only [go_sem, hk1, hw1]
      obtain ⟨v5, hv5, h⟩ := C6 h
      refine ((eD _ _ _ hv5)).to ?_
      try simp only [go_sem, hk1, hw1]
      (repeat apply sq_); refine E3 ?_
      try simp only [go_sem, hk1, hw1]
      obtain rfl := Option.some.inj h
      refine F9 ?_; have hr := hx1 _ rfl; try simp only [go_sem, hk1, hw1]
      refine E4 ?_; simp only [go_sem, hk1, hw1]
      exact y3 (d' := .agg [.int .i64 v5.code, .int .i64 v5.index]) hsc (.same _) (by simp) ⟨by subst hr; rfl, rfl⟩
     ·replace h := B1 h (by first | exact hc | simpa using hc)
      refine E6 ?_; try simp only [go_sem, hk1, hw1]
      (repeat apply sq_); apply er_; simp only [go_sem, hk1, hw1]
      cases h
      exact bK () (G0 hsc (.lv (.lv (.nil _))) (by simp) ⟨.s, .s, .s, .s, .s, .s, trivial⟩ (by simp))
    ·exfalso; have hc := of_decide_eq_false hc; omega
   ·(repeat apply sq_); apply er_; simp only [go_sem]
    (repeat apply sq_); refine D4 (by rfl) (fun hc => ?_) fun hc => ?_
    ·exfalso; first | exact Bool.noConfusion hc | (have hc := of_decide_eq_true hc; omega)
    ·refine Y2 ?_; simp only [go_sem]
     exact ⟨(), (G0 hsc (.dead _ _ _ (.lv (.nil _))) (by simp) ⟨.s, trivial⟩ (by simp))⟩
   ·try simp only [go_sem]
    unfold jD at h
    refine L6 hb ?_
    (repeat apply sq_); apply er_; simp only [go_sem]
    (repeat apply sq_); refine E3 ?_
    try simp only [go_sem]
    have hr := Option.some.inj h
    refine E4 ?_; simp only [go_sem]
    exact y3 (d' := .agg [.int .i64 0, .int .i64 0]) hsc (.same _) (by simp) ⟨by subst hr; rfl, rfl⟩
theorem dP (a0 : C5) (r : Int × y7) (h : dS a0 = some r) : Pure Tryz.prog gl 7 [.agg [.sl false 2 48 (rows w4.cells a0.hierarchy), .sl false 1 24 (rows y5.cells a0.start), .sl false 3 40 (rows y8.cells a0.rules), .sl false 3 40 (rows B6.cells a0.D0)]] (.tup [.int .i64 r.1, .agg [.int .i64 r.2.code, .int .i64 r.2.index]]) := by
 intro st
 unfold dS at h
 refine O4 (N := 57) (rs := [.tmp 2, .cell 3 41]) (keep := [0, 1, 2, 3, 4, 5, 7, 9, 14, 24, 25, 26, 27, 40, 41, 42, 43]) Tryz.func7 rfl rfl rfl (by kernel_rfl) rfl fun hsc => ?_
 (repeat apply sq_); apply er_; simp only [go_sem]
 (repeat apply sq_); apply er_; simp only [go_sem]
 obtain ⟨v1, hv1, h⟩ := C6 h
 refine ((nU _ _ hv1)).to ?_
 try simp only [go_sem]
 (repeat apply sq_); apply er_; simp only [go_sem]
 (repeat apply sq_); refine D4 (by rfl) (fun hc => ?_) fun hc => ?_
 ·replace h := B0 h (by first | exact hc | simpa using hc)
  (repeat apply sq_); refine ak [] 0 follows (by kernel_rfl) (by rfl) ?_; simp only [go_sem, List.replicate_succ, List.replicate_zero]
  (repeat apply sq_); refine E3 ?_
  try simp only [go_sem]
  have hr := Option.some.inj h
  refine E4 ?_; simp only [go_sem]
  exact y3 (d' := .tup [.int .i64 0, .agg [.int .i64 v1.code, .int .i64 v1.index]]) hsc (.same _) (by simp) ⟨by subst hr; rfl, rfl⟩
 ·replace h := B1 h (by first | exact hc | simpa using hc)
  refine E6 ?_; try simp only [go_sem]
  (repeat apply sq_); apply er_; simp only [go_sem]
  (repeat apply sq_); apply er_; simp only [go_sem]
  (repeat apply sq_); refine fG (t := 24) rfl fun hl0 => ?_
  simp only [eF] at hl0
  (repeat apply sq_); refine arg_ (body := iP a0) (kk := iQ a0) (n := a0.rules.length) (s0 := (wr .i64 ((↑a0.hierarchy.length : Int) + (↑a0.start.length : Int))))
   (fun (gs0 : Unit) (k0 : Nat) (s0 : Int) => [(1, .ptr st.length 0 0 0), (3, .ptr (st.length + 1) 0 0 0), (5, .int .i64 s0), (24, .sl false 3 40 (rows y8.cells a0.rules)), (25, .int .i64 (↑a0.rules.length : Int)), (26, .int .i64 (↑k0 : Int))])
   (fun (gs0 : Unit) (k0 : Nat) (s0 : Int) => st ++ [some (.arr 0 4 0 [[.sl false 2 48 (rows w4.cells a0.hierarchy), .sl false 1 24 (rows y5.cells a0.start), .sl false 3 40 (rows y8.cells a0.rules), .sl false 3 40 (rows B6.cells a0.D0)]]), some (.arr 0 2 0 [[.int .i64 0, .int .i64 0]])])
   (fun (gt0 : Unit) (t0 : Int) => [(1, .ptr st.length 0 0 0), (3, .ptr (st.length + 1) 0 0 0), (5, .int .i64 t0)])
   (fun (gt0 : Unit) (t0 : Int) => st ++ [some (.arr 0 4 0 [[.sl false 2 48 (rows w4.cells a0.hierarchy), .sl false 1 24 (rows y5.cells a0.start), .sl false 3 40 (rows y8.cells a0.rules), .sl false 3 40 (rows B6.cells a0.D0)]]), some (.arr 0 2 0 [[.int .i64 0, .int .i64 0]])])
   () h (G0 hsc (.lv (.lv (.nil _))) (by simp) ⟨.s, .s, .s, .s, .s, .s, trivial⟩ (by simp))
   (fun gs0 k0 s0 b0 hk0 h hx0 => ?_) (fun gs0 s0 => ?_) (fun gt0 t0 fr1 st1 h hb => ?_)
  ·unfold iP at h
   have hw0 : wr .i64 ((↑k0 : Int) + 1) = (↑(k0 + 1) : Int) := gy hk0 hl0 (by decide)
   (repeat apply sq_); apply er_; simp only [go_sem]
   (repeat apply sq_); refine D4 (by rfl) (fun hc => ?_) fun hc => ?_
   ·refine E6 ?_; try simp only [go_sem]
    (repeat apply sq_); refine U8 ?_
    (repeat apply sq_); apply er_; simp only [go_sem, hk0, hw0]
    (repeat apply sq_); apply er_; simp only [go_sem, hk0, hw0]
    (repeat apply sq_); apply er_; simp only [go_sem, hk0, hw0]
    cases h
    exact bK () (G0 hsc (.lv (.lv (.nil _))) (by simp) ⟨.s, .s, .s, .s, .s, .s, trivial⟩ (by simp))
   ·exfalso; have hc := of_decide_eq_false hc; omega
  ·(repeat apply sq_); apply er_; simp only [go_sem]
   (repeat apply sq_); refine D4 (by rfl) (fun hc => ?_) fun hc => ?_
   ·exfalso; first | exact Bool.noConfusion hc | (have hc := of_decide_eq_true hc; omega)
   ·refine Y2 ?_; simp only [go_sem]
    exact ⟨(), (G0 hsc (.lv (.lv (.nil _))) (by simp) ⟨.s, .s, .s, trivial⟩ (by simp))⟩
  ·try simp only [go_sem]
   unfold iQ at h
   refine L6 hb ?_
   (repeat apply sq_); apply er_; simp only [go_sem]
   (repeat apply sq_); refine fG (t := 40) rfl fun hl1 => ?_
   simp only [eF] at hl1
   (repeat apply sq_); refine arg_ (body := iR a0) (kk := lf) (n := a0.D0.length) (s0 := t0)
    (fun (gs1 : Unit) (k1 : Nat) (s1 : Int) => [(3, .ptr (st.length + 1) 0 0 0), (5, .int .i64 s1), (40, .sl false 3 40 (rows B6.cells a0.D0)), (41, .int .i64 (↑a0.D0.length : Int)), (42, .int .i64 (↑k1 : Int))])
    (fun (gs1 : Unit) (k1 : Nat) (s1 : Int) => st ++ [none, some (.arr 0 2 0 [[.int .i64 0, .int .i64 0]])])
    (fun (gt1 : Unit) (t1 : Int) => [(3, .ptr (st.length + 1) 0 0 0), (5, .int .i64 t1)])
    (fun (gt1 : Unit) (t1 : Int) => st ++ [none, some (.arr 0 2 0 [[.int .i64 0, .int .i64 0]])])
    () h (G0 hsc (.dead _ _ _ (.lv (.nil _))) (by simp) ⟨.s, .s, .s, .s, .s, trivial⟩ (by simp))
    (fun gs1 k1 s1 b1 hk1 h hx1 => ?_) (fun gs1 s1 => ?_) (fun gt1 t1 fr1 st1 h hb => ?_)
   ·unfold iR at h
    have hw1 : wr .i64 ((↑k1 : Int) + 1) = (↑(k1 + 1) : Int) := gy hk1 hl1 (by decide)
    (repeat apply sq_); apply er_; simp only [go_sem]
    (repeat apply sq_); refine D4 (by rfl) (fun hc => ?_) fun hc => ?_
    ·refine E6 ?_; try simp only [go_sem]
     (repeat apply sq_); refine U8 ?_
     (repeat apply sq_); apply er_; simp only [go_sem, hk1, hw1]
     (repeat apply sq_); apply er_; simp only [go_sem, hk1, hw1]
     (repeat apply sq_); apply er_; simp only [go_sem, hk1, hw1]
     cases h
     exact bK () (G0 hsc (.dead _ _ _ (.lv (.nil _))) (by simp) ⟨.s, .s, .s, .s, .s, trivial⟩ (by simp))
    ·exfalso; have hc := of_decide_eq_false hc; omega
   ·(repeat apply sq_); apply er_; simp only [go_sem]
    (repeat apply sq_); refine D4 (by rfl) (fun hc => ?_) fun hc => ?_
    ·exfalso; first | exact Bool.noConfusion hc | (have hc := of_decide_eq_true hc; omega)
    ·refine Y2 ?_; simp only [go_sem]
     exact ⟨(), (G0 hsc (.dead _ _ _ (.lv (.nil _))) (by simp) ⟨.s, .s, trivial⟩ (by simp))⟩
   ·try simp only [go_sem]
    unfold lf at h
    refine L6 hb ?_
    (repeat apply sq_); apply er_; simp only [go_sem]
    (repeat apply sq_); refine E3 ?_
    try simp only [go_sem]
    have hr := Option.some.inj h
    refine E4 ?_; simp only [go_sem]
    exact y3 (d' := .tup [.int .i64 t1, .agg [.int .i64 0, .int .i64 0]]) hsc (.same _) (by simp) ⟨by subst hr; rfl, rfl⟩
theorem kF (a0 : (List u6)) (l0 : (List u7)) (r : (List u6) × Bool) (h : dO a0 l0 = some r) : ∀ (st : St) (o0 q0 : Nat) (hnd : [o0].Nodup) (ji : Am.look st o0 = some (.arr q0 3 40 (rows u7.cells l0))), Am.Spec Tryz.prog gl 34 [.sl false 10 152 (rows u6.cells a0), .ref false o0 q0 0 l0.length] st (fun d st' => d = .tup [.sl false 10 152 (rows u6.cells r.1), .bool r.2] ∧ st' = puts st []) := by
 intro st o0 q0 hnd ji
 unfold dO at h
 have ho0 := fP ji
 refine O4 (N := 52) (rs := [.tmp 4, .tmp 5]) (keep := [0, 1, 4, 5, 6, 7, 9, 10, 11, 12, 13, 25]) Tryz.func34 rfl rfl rfl (by kernel_rfl) rfl fun hsc => ?_
 refine pO (s' := (gu st [(o0, (.arr q0 3 40 (rows u7.cells l0)))])) (L7 (by simp [ji])) ?_
 (repeat apply sq_); apply er_; simp only [go_sem, C4 ho0, x7 ho0, C2 ho0, x6 ho0]
 (repeat apply sq_); apply er_; simp only [go_sem, C4 ho0, x7 ho0, C2 ho0, x6 ho0]
 (repeat apply sq_); apply er_; simp only [go_sem, C4 ho0, x7 ho0, C2 ho0, x6 ho0]
 (repeat apply sq_); apply er_; simp only [go_sem, C4 ho0, x7 ho0, C2 ho0, x6 ho0]
 (repeat apply sq_); refine Z7 10 152 ?_
 try simp only [List.append_assoc, List.cons_append, List.nil_append]
 refine L6 (F := [(0, .sl false 10 152 (rows u6.cells a0)), (6, .ref false st.length 0 0 0), (7, .int .i64 0), (10, .ref false o0 q0 0 l0.length), (11, .int .i64 (↑l0.length : Int)), (12, .int .i64 0)]) (T := (gu st [(o0, (.arr q0 3 40 (rows u7.cells l0)))]) ++ [some (.arr 0 10 152 (rows u6.cells []))]) (nN (by simp) (G2 hsc (by simp <;> omega)) (.lv (.nil _)) (by simp <;> omega) ⟨.s, .nref _ _ _ _ _ _ (ko.trans rfl), .s, .s, .s, .s, trivial⟩ (by simp <;> omega)) ?_
 obtain ⟨f1, h⟩ := G1 h
 (repeat apply sq_); refine arg_ (body := bP a0 l0) (kk := bQ a0) (n := l0.length) (s0 := ([], 0))
  (fun (gs0 : Nat) (k0 : Nat) (s0 : (List u6) × Int) => [(0, .sl false 10 152 (rows u6.cells a0)), (6, .ref false st.length gs0 0 s0.1.length), (7, .int .i64 s0.2), (10, .ref false o0 q0 0 l0.length), (11, .int .i64 (↑l0.length : Int)), (12, .int .i64 (↑k0 : Int))])
  (fun (gs0 : Nat) (k0 : Nat) (s0 : (List u6) × Int) => (gu st [(o0, (.arr q0 3 40 (rows u7.cells l0)))]) ++ [some (.arr gs0 10 152 (rows u6.cells s0.1))])
  (fun (gt0 : Nat) (t0 : (List u6) × Int) => [(0, .sl false 10 152 (rows u6.cells a0)), (6, .ref false st.length gt0 0 t0.1.length), (7, .int .i64 t0.2)])
  (fun (gt0 : Nat) (t0 : (List u6) × Int) => (gu st [(o0, (.arr q0 3 40 (rows u7.cells l0)))]) ++ [some (.arr gt0 10 152 (rows u6.cells t0.1))])
  0 h (nN (by simp) (G2 hsc (by simp <;> omega)) (.lv (.nil _)) (by simp <;> omega) ⟨.s, .s, .s, .s, .s, .s, trivial⟩ (by simp <;> omega))
  (fun gs0 k0 s0 b0 hk0 h hx0 => ?_) (fun gs0 s0 => ?_) (fun gt0 t0 fr1 st1 h hb => ?_)
 ·unfold bP at h
  have hw0 : wr .i64 ((↑k0 : Int) + 1) = (↑(k0 + 1) : Int) := nY hk0 f1
  (repeat apply sq_); apply er_; simp only [go_sem, C4 ho0, x7 ho0, C2 ho0, x6 ho0, f1]
  (repeat apply sq_); refine D4 (by rfl) (fun hc => ?_) fun hc => ?_
  ·refine E6 ?_; try simp only [go_sem, C4 ho0, x7 ho0, C2 ho0, x6 ho0, f1]
   (repeat apply sq_); refine U8 ?_
   have e18 : (rows u7.cells l0).getD k0 [] = u7.cells (get l0 k0) := vn (E := u7.cells) (l := l0) (k := k0) (by first | omega | (simp; omega))
   have e19 : k0 < l0.length := by first | omega | (simp; omega)
   (repeat apply sq_); apply er_; simp only [go_sem, C4 ho0, x7 ho0, C2 ho0, x6 ho0, f1, hk0, hw0, e18, e19]
   (repeat apply sq_); apply er_; simp only [go_sem, C4 ho0, x7 ho0, C2 ho0, x6 ho0, f1, hk0, hw0]
   (repeat apply sq_); refine D4 (by rfl) (fun hc => ?_) fun hc => ?_
   ·replace h := B0 h (by first | exact hc | simpa using hc)
    (repeat apply sq_); apply er_; simp only [go_sem, C4 ho0, x7 ho0, C2 ho0, x6 ho0, f1, hk0, hw0]
    (repeat apply sq_); refine E3 ?_
    try simp only [go_sem, C4 ho0, x7 ho0, C2 ho0, x6 ho0, f1, hk0, hw0]
    obtain rfl := Option.some.inj h
    refine F9 ?_; have hr := hx0 _ rfl; try simp only [go_sem, C4 ho0, x7 ho0, C2 ho0, x6 ho0, f1, hk0, hw0]
    refine E4 ?_; simp only [go_sem, C4 ho0, x7 ho0, C2 ho0, x6 ho0, f1, hk0, hw0]
    exact J2 (d' := .tup [.sl false 10 152 (rows u6.cells []), .bool false]) (by simp) (G2 hsc (by simp <;> omega)) (.tup _ _ (.cons _ _ _ _ (.B4 _ _ _ (by decide)) (.cons _ _ _ _ .s .nil)) rfl) (by simp <;> omega) ⟨by subst hr; rfl, by exact L7 (by simp [ji])⟩
   ·replace h := B1 h (by first | exact hc | simpa using hc)
    refine E6 ?_; try simp only [go_sem, C4 ho0, x7 ho0, C2 ho0, x6 ho0, f1, hk0, hw0]
    obtain ⟨⟨f20, f21, f22, f23⟩, h⟩ := G1 h
    obtain ⟨c24, GH, h⟩ := lD h
    have e25 : rows u6.cells s0.1 ++ rows u6.cells ((a0.drop s0.2.toNat).take ((wr .i64 (s0.2 + ((get l0 k0).keep))).toNat - s0.2.toNat)) = rows u6.cells c24 := by rw [GH]; first | exact L5 (E := u6.cells) s0.1 ((a0.drop s0.2.toNat).take ((wr .i64 (s0.2 + ((get l0 k0).keep))).toNat - s0.2.toNat)) | simp only [go_sem, rows, List.map_append, List.map_cons, List.map_nil]
    have e26 : s0.1.length + ((a0.drop s0.2.toNat).take ((wr .i64 (s0.2 + ((get l0 k0).keep))).toNat - s0.2.toNat)).length = c24.length := by rw [GH]; simp
    obtain ⟨⟨f27, f28⟩, h⟩ := G1 h
    (repeat apply sq_); apply er_; simp only [go_sem, C4 ho0, x7 ho0, C2 ho0, x6 ho0, f1, hk0, hw0, f20, f21, f22, f23, f27, f28, e25, e26]
    obtain ⟨c29, GI, h⟩ := lD h
    have e30 : rows u6.cells c24 ++ rows u6.cells ((get l0 k0).put) = rows u6.cells c29 := by rw [GI]; first | exact L5 (E := u6.cells) c24 ((get l0 k0).put) | simp only [go_sem, rows, List.map_append, List.map_cons, List.map_nil]
    have e31 : c24.length + ((get l0 k0).put).length = c29.length := by rw [GI]; simp
    obtain ⟨⟨f32, f33⟩, h⟩ := G1 h
    (repeat apply sq_); apply er_; simp only [go_sem, C4 ho0, x7 ho0, C2 ho0, x6 ho0, f1, hk0, hw0, f20, f21, f22, f23, f27, f28, f32, f33, e30, e31]
    (repeat apply sq_); apply er_; simp only [go_sem, C4 ho0, x7 ho0, C2 ho0, x6 ho0, f1, hk0, hw0, f20, f21, f22, f23, f27, f28, f32, f33]
    (repeat apply sq_); apply er_; simp only [go_sem, C4 ho0, x7 ho0, C2 ho0, x6 ho0, f1, hk0, hw0, f20, f21, f22, f23, f27, f28, f32, f33]
    cases h
    exact bK ((gs0 + 1) + 1) (nN (by simp) (G2 hsc (by simp <;> omega)) (.lv (.nil _)) (by simp <;> omega) ⟨.s, .s, .s, .s, .s, .s, trivial⟩ (by simp <;> omega))
  ·exfalso; have hc := of_decide_eq_false hc; omega
 ·(repeat apply sq_); apply er_; simp only [go_sem, C4 ho0, x7 ho0, C2 ho0, x6 ho0, f1]
  (repeat apply sq_); refine D4 (by rfl) (fun hc => ?_) fun hc => ?_
  ·exfalso; first | exact Bool.noConfusion hc | (have hc := of_decide_eq_true hc; omega)
  ·refine Y2 ?_; simp only [go_sem, C4 ho0, x7 ho0, C2 ho0, x6 ho0, f1]
   exact ⟨gs0, (nN (by simp) (G2 hsc (by simp <;> omega)) (.lv (.nil _)) (by simp <;> omega) ⟨.s, .s, .s, trivial⟩ (by simp <;> omega))⟩
 ·try simp only [go_sem, C4 ho0, x7 ho0, C2 ho0, x6 ho0, f1]
  unfold bQ at h
  refine L6 hb ?_
  (repeat apply sq_); apply er_; simp only [go_sem, C4 ho0, x7 ho0, C2 ho0, x6 ho0, f1]
  (repeat apply sq_); refine E3 ?_
  try simp only [go_sem, C4 ho0, x7 ho0, C2 ho0, x6 ho0, f1]
  have hr := Option.some.inj h
  refine E4 ?_; simp only [go_sem, C4 ho0, x7 ho0, C2 ho0, x6 ho0, f1]
  exact J2 (d' := .tup [.sl false 10 152 (rows u6.cells t0.1), .bool (decide (t0.2 = (↑a0.length : Int)))]) (by simp) (G2 hsc (by simp <;> omega)) (.tup _ _ (.cons _ _ _ _ (.ref _ _ _ _ _ _ _ _ _ (ko.trans rfl) qZ (by decide) (kB _) (by simp only [go_sem])) (.cons _ _ _ _ .s .nil)) rfl) (by simp <;> omega) ⟨by subst hr; rfl, by exact L7 (by simp [ji])⟩
end Go.Proofs.YtaohdfpcdfbnlaaGreatDoor
