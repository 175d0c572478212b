import Derived.Test.YtaohdfpcdfbnlaaGreatDoorBase
import Derived.Test.YtaohdfpcdfbnlaaGreatDoorHand
import Derived.Test.YtaohdfpcdfbnlaaGreatDoorMirrors
import Derived.Test.YtaohdfpcdfbnlaaGreatDoorWalk2
set_option linter.unusedVariables false
set_option linter.unusedSimpArgs false
set_option maxHeartbeats 2000000
set_option maxRecDepth 100000
namespace Go.Proofs.YtaohdfpcdfbnlaaGreatDoor
open Go Go.Am
theorem gA (a0 : Int) (r : Int) (h : L1 a0 = some r) : Pure Tryz.prog gl 79 [.int .u64 a0] (.int .i64 r) := by
 intro st
 unfold L1 at h
 refine O4 (N := 14) (rs := [.tmp 2]) (keep := [0, 2, 4]) Tryz.func79 rfl rfl rfl (by kernel_rfl) rfl fun hsc => ?_
 (repeat apply sq_); apply er_; simp only [go_sem]
 (repeat apply sq_); apply er_; simp only [go_sem]
 (repeat apply sq_); refine D4 (by rfl) (fun hc => ?_) fun hc => ?_
 ·replace h := B0 h (by first | exact hc | simpa using hc)
  (repeat apply sq_); apply er_; simp only [go_sem]
  (repeat apply sq_); refine E3 ?_
  try simp only [go_sem]
  have hr := Option.some.inj h
  refine E4 ?_; simp only [go_sem]
  exact B9 (d' := .int .i64 64) hsc (.same _) (by simp) ⟨by subst hr; rfl, rfl⟩
 ·replace h := B1 h (by first | exact hc | simpa using hc)
  refine E6 ?_; try simp only [go_sem]
  obtain ⟨⟨f1, f2⟩, h⟩ := G1 h
  have e3 : Am.rowAt (bS u8c Ax) ((Int.fdiv (wr .u64 ((M1 .and .u64 a0 (wr .u64 (0 - a0))) * 285870213051353865)) (2 ^ (min 58 64))).toNat) 1 = u8c (get Ax ((Int.fdiv (wr .u64 ((M1 .and .u64 a0 (wr .u64 (0 - a0))) * 285870213051353865)) (2 ^ (min 58 64))).toNat)) := pK (fun _ => rfl) (show _ < Ax.length by rw [Co]; first | omega | (simp; omega))
  (repeat apply sq_); apply er_; simp only [go_sem, f1, f2, e3]
  (repeat apply sq_); refine E3 ?_
  try simp only [go_sem, f1, f2]
  have hr := Option.some.inj h
  refine E4 ?_; simp only [go_sem, f1, f2]
  exact B9 (d' := .int .i64 (wr .i64 (get Ax ((Int.fdiv (wr .u64 ((M1 .and .u64 a0 (wr .u64 (0 - a0))) * 285870213051353865)) (2 ^ (min 58 64))).toNat)))) hsc (.same _) (by simp) ⟨by subst hr; rfl, rfl⟩
theorem jW (a0 : A9) (a1 : Int) (a2 : Int) (r : Int × Bool × Bool) (h : T7 a0 a1 a2 = some r) : Pure Tryz.prog gl 67 [.agg [.sl false 1 8 (rows U2 a0.up), .sl false 1 8 (rows U2 a0.down)], .int .i64 a1, .int .i64 a2] (.tup [.int .i64 r.1, .bool r.2.1, .bool r.2.2]) := by
 intro st
 unfold T7 at h
 refine O4 (N := 33) (rs := [.tmp 6, .tmp 7, .tmp 8]) (keep := [0, 1, 2, 3, 6, 7, 8, 9, 22, 31]) Tryz.func67 rfl rfl rfl (by kernel_rfl) rfl fun hsc => ?_
 (repeat apply sq_); apply er_; simp only [go_sem]
 obtain ⟨⟨f1, f2⟩, h⟩ := G1 h
 obtain ⟨⟨f3, f4⟩, h⟩ := G1 h
 (repeat apply sq_); refine ak [] 0 follows (by kernel_rfl) (by rfl) ?_; simp only [go_sem, List.replicate_succ, List.replicate_zero, f1, f2, f3, f4]
 (repeat apply sq_); apply er_; simp only [go_sem, f1, f2, f3, f4]
 (repeat apply sq_); refine D4 (by rfl) (fun hc => ?_) fun hc => ?_
 ·replace h := B0 h (by first | exact hc | simpa using hc)
  (repeat apply sq_); apply er_; simp only [go_sem, f1, f2, f3, f4]
  (repeat apply sq_); refine E3 ?_
  try simp only [go_sem, f1, f2, f3, f4]
  have hr := Option.some.inj h
  refine E4 ?_; simp only [go_sem, f1, f2, f3, f4]
  exact y3 (d' := .tup [.int .i64 0, .bool false, .bool false]) hsc (.same _) (by simp) ⟨by subst hr; rfl, rfl⟩
 ·replace h := B1 h (by first | exact hc | simpa using hc)
  refine E6 ?_; try simp only [go_sem, f1, f2, f3, f4]
  (repeat apply sq_); apply er_; simp only [go_sem, f1, f2, f3, f4]
  obtain ⟨v5, hv5, h⟩ := C6 h
  refine ((gA _ _ hv5)).to ?_
  try simp only [go_sem, f1, f2, f3, f4]
  obtain ⟨⟨f6, f7⟩, h⟩ := G1 h
  (repeat apply sq_); apply er_; simp only [go_sem, f1, f2, f3, f4, f6, f7]
  (repeat apply sq_); refine D4 (by rfl) (fun hc => ?_) fun hc => ?_
  ·replace h := B0 h (by first | exact hc | simpa using hc)
   (repeat apply sq_); apply er_; simp only [go_sem, f1, f2, f3, f4, f6, f7]
   (repeat apply sq_); refine E3 ?_
   try simp only [go_sem, f1, f2, f3, f4, f6, f7]
   have hr := Option.some.inj h
   refine E4 ?_; simp only [go_sem, f1, f2, f3, f4, f6, f7]
   exact y3 (d' := .tup [.int .i64 0, .bool false, .bool true]) hsc (.same _) (by simp) ⟨by subst hr; rfl, rfl⟩
  ·replace h := B1 h (by first | exact hc | simpa using hc)
   refine E6 ?_; try simp only [go_sem, f1, f2, f3, f4, f6, f7]
   (repeat apply sq_); apply er_; simp only [go_sem, f1, f2, f3, f4, f6, f7]
   (repeat apply sq_); refine E3 ?_
   try simp only [go_sem, f1, f2, f3, f4, f6, f7]
   have hr := Option.some.inj h
   refine E4 ?_; simp only [go_sem, f1, f2, f3, f4, f6, f7]
   exact y3 (d' := .tup [.int .i64 v5, .bool true, .bool false]) hsc (.same _) (by simp) ⟨by subst hr; rfl, rfl⟩
theorem kG (a0 : w4) (r : y7) (h : W6 a0 = some r) : Pure Tryz.prog gl 42 [.agg [.sl false 2 40 (rows w7.cells a0.types), .sl false 3 32 (rows x9.cells a0.C9)]] (.agg [.int .i64 r.code, .int .i64 r.index]) := by
 intro st
 unfold W6 at h
 refine O4 (N := 122) (rs := [.cell 2 41]) (keep := [0, 1, 2, 3, 4, 5, 6, 9, 10, 11, 12, 14, 20, 21, 22, 23, 26, 27, 28, 29, 30, 37, 44, 45, 46, 48, 49, 50, 60, 67, 68, 69, 70, 77, 87, 98, 99, 100, 101, 102, 103, 106, 107, 108, 111, 112, 113, 114, 115, 116, 117]) Tryz.func42 rfl rfl rfl (by kernel_rfl) rfl fun hsc => ?_
 (repeat apply sq_); apply er_; simp only [go_sem]
 (repeat apply sq_); apply er_; simp only [go_sem]
 (repeat apply sq_); refine D4 (by rfl) (fun hc => ?_) fun hc => ?_
 ·replace h := B0 h (by first | exact hc | simpa using hc)
  (repeat apply sq_); apply er_; simp only [go_sem]
  obtain ⟨v1, hv1, h⟩ := C6 h
  refine ((H7 _ _ _ hv1)).to ?_
  try simp only [go_sem]
  (repeat apply sq_); refine E3 ?_
  try simp only [go_sem]
  have hr := Option.some.inj h
  refine E4 ?_; simp only [go_sem]
  exact y3 (d' := .agg [.int .i64 v1.code, .int .i64 v1.index]) hsc (.same _) (by simp) ⟨by subst hr; rfl, rfl⟩
 ·replace h := B1 h (by first | exact hc | simpa using hc)
  refine E6 ?_; try simp only [go_sem]
  (repeat apply sq_); apply er_; simp only [go_sem]
  obtain ⟨v2, hv2, h⟩ := C6 h
  refine ((nE _ _ hv2)).to ?_
  try simp only [go_sem]
  (repeat apply sq_); apply er_; simp only [go_sem]
  (repeat apply sq_); refine D4 (by rfl) (fun hc => ?_) fun hc => ?_
  ·replace h := B0 h (by first | exact hc | simpa using hc)
   (repeat apply sq_); apply er_; simp only [go_sem]
   (repeat apply sq_); refine E3 ?_
   try simp only [go_sem]
   have hr := Option.some.inj h
   refine E4 ?_; simp only [go_sem]
   exact y3 (d' := .agg [.int .i64 v2.code, .int .i64 v2.index]) hsc (.same _) (by simp) ⟨by subst hr; rfl, rfl⟩
  ·replace h := B1 h (by first | exact hc | simpa using hc)
   refine E6 ?_; try simp only [go_sem]
   (repeat apply sq_); apply er_; simp only [go_sem]
   obtain ⟨v3, hv3, h⟩ := C6 h
   refine ((gM _ _ hv3)).to ?_
   try simp only [go_sem]
   (repeat apply sq_); apply er_; simp only [go_sem]
   obtain ⟨f4, h⟩ := G1 h
   (repeat apply sq_); refine arg_ (body := V3 v3) (kk := V6 a0) (n := a0.types.length) (s0 := ())
    (fun (gs0 : Unit) (k0 : Nat) (s0 : Unit) => [(1, .ptr st.length 0 0 0), (2, .ptr (st.length + 1) 0 0 0), (4, .ptr (st.length + 3) 0 0 0), (44, .int .i64 (↑a0.types.length : Int)), (45, .int .i64 (↑k0 : Int))])
    (fun (gs0 : Unit) (k0 : Nat) (s0 : Unit) => st ++ [some (.arr 0 2 0 [[.sl false 2 40 (rows w7.cells a0.types), .sl false 3 32 (rows x9.cells a0.C9)]]), some (.arr 0 2 0 [[.int .i64 0, .int .i64 0]]), none, some (.arr 0 2 0 [[.sl false 1 8 (rows U2 v3.up), .sl false 1 8 (rows U2 v3.down)]])])
    (fun (gt0 : Unit) (t0 : Unit) => [(1, .ptr st.length 0 0 0), (2, .ptr (st.length + 1) 0 0 0)])
    (fun (gt0 : Unit) (t0 : Unit) => st ++ [some (.arr 0 2 0 [[.sl false 2 40 (rows w7.cells a0.types), .sl false 3 32 (rows x9.cells a0.C9)]]), some (.arr 0 2 0 [[.int .i64 0, .int .i64 0]])])
    () h (G0 hsc (.lv (.lv (.dead _ _ _ (.lv (.nil _))))) (by simp) ⟨.s, .s, .s, .s, .s, trivial⟩ (by simp))
    (fun gs0 k0 s0 b0 hk0 h hx0 => ?_) (fun gs0 s0 => ?_) (fun gt0 t0 fr1 st1 h hb => ?_)
   ·unfold V3 at h
    have hw0 : wr .i64 ((↑k0 : Int) + 1) = (↑(k0 + 1) : Int) := nY hk0 f4
    (repeat apply sq_); apply er_; simp only [go_sem, f4]
    (repeat apply sq_); refine D4 (by rfl) (fun hc => ?_) fun hc => ?_
    ·refine E6 ?_; try simp only [go_sem, f4]
     (repeat apply sq_); refine U8 ?_
     (repeat apply sq_); apply er_; simp only [go_sem, f4, hk0, hw0]
     (repeat apply sq_); apply er_; simp only [go_sem, f4, hk0, hw0]
     obtain ⟨f5, h⟩ := G1 h
     (repeat apply sq_); refine arg_ (body := V2 v3 k0) (kk := bM) (n := k0) (s0 := ())
      (fun (gs1 : Unit) (k1 : Nat) (s1 : Unit) => [(1, .ptr st.length 0 0 0), (2, .ptr (st.length + 1) 0 0 0), (4, .ptr (st.length + 3) 0 0 0), (5, .int .i64 (↑k0 : Int)), (44, .int .i64 (↑a0.types.length : Int)), (45, .int .i64 (↑k0 : Int)), (48, .int .i64 (↑k0 : Int)), (49, .int .i64 (↑k1 : Int))])
      (fun (gs1 : Unit) (k1 : Nat) (s1 : Unit) => st ++ [some (.arr 0 2 0 [[.sl false 2 40 (rows w7.cells a0.types), .sl false 3 32 (rows x9.cells a0.C9)]]), some (.arr 0 2 0 [[.int .i64 0, .int .i64 0]]), none, some (.arr 0 2 0 [[.sl false 1 8 (rows U2 v3.up), .sl false 1 8 (rows U2 v3.down)]])])
      (fun (gt1 : Unit) (t1 : Unit) => [(1, .ptr st.length 0 0 0), (2, .ptr (st.length + 1) 0 0 0), (4, .ptr (st.length + 3) 0 0 0), (44, .int .i64 (↑a0.types.length : Int)), (45, .int .i64 (↑k0 : Int))])
      (fun (gt1 : Unit) (t1 : Unit) => st ++ [some (.arr 0 2 0 [[.sl false 2 40 (rows w7.cells a0.types), .sl false 3 32 (rows x9.cells a0.C9)]]), some (.arr 0 2 0 [[.int .i64 0, .int .i64 0]]), none, some (.arr 0 2 0 [[.sl false 1 8 (rows U2 v3.up), .sl false 1 8 (rows U2 v3.down)]])])
      () h (G0 hsc (.lv (.lv (.dead _ _ _ (.lv (.nil _))))) (by simp) ⟨.s, .s, .s, .s, .s, .s, .s, .s, trivial⟩ (by simp))
      (fun gs1 k1 s1 b1 hk1 h hx1 => ?_) (fun gs1 s1 => ?_) (fun gt1 t1 fr1 st1 h hb => ?_)
     ·unfold V2 at h
      have hw1 : wr .i64 ((↑k1 : Int) + 1) = (↑(k1 + 1) : Int) := nY hk1 f5
      (repeat apply sq_); apply er_; simp only [go_sem, f4, hk0, hw0, f5]
      (repeat apply sq_); refine D4 (by rfl) (fun hc => ?_) fun hc => ?_
      ·refine E6 ?_; try simp only [go_sem, f4, hk0, hw0, f5]
       (repeat apply sq_); refine U8 ?_
       (repeat apply sq_); apply er_; simp only [go_sem, f4, hk0, hw0, f5, hk1, hw1]
       (repeat apply sq_); apply er_; simp only [go_sem, f4, hk0, hw0, f5, hk1, hw1]
       obtain ⟨v6, hv6, h⟩ := C6 h
       refine ((jW _ _ _ _ hv6)).to ?_
       try simp only [go_sem, f4, hk0, hw0, f5, hk1, hw1]
       (repeat apply sq_); apply er_; simp only [go_sem, f4, hk0, hw0, f5, hk1, hw1]
       (repeat apply sq_); refine D4 (by rfl) (fun hc => ?_) fun hc => ?_
       ·replace h := B0 h (by first | exact hc | simpa using hc)
        (repeat apply sq_); apply er_; simp only [go_sem, f4, hk0, hw0, f5, hk1, hw1]
        obtain ⟨v7, hv7, h⟩ := C6 h
        refine ((H7 _ _ _ hv7)).to ?_
        try simp only [go_sem, f4, hk0, hw0, f5, hk1, hw1]
        (repeat apply sq_); refine E3 ?_
        try simp only [go_sem, f4, hk0, hw0, f5, hk1, hw1]
        obtain rfl := Option.some.inj h
        refine F9 ?_; obtain rfl := hx1 _ rfl; try simp only [go_sem, f4, hk0, hw0, f5, hk1, hw1]
        refine F9 ?_; have hr := hx0 _ rfl; try simp only [go_sem, f4, hk0, hw0, f5, hk1, hw1]
        refine E4 ?_; simp only [go_sem, f4, hk0, hw0, f5, hk1, hw1]
        exact y3 (d' := .agg [.int .i64 v7.code, .int .i64 v7.index]) hsc (.same _) (by simp) ⟨by subst hr; rfl, rfl⟩
       ·replace h := B1 h (by first | exact hc | simpa using hc)
        refine E6 ?_; try simp only [go_sem, f4, hk0, hw0, f5, hk1, hw1]
        (repeat apply sq_); apply er_; simp only [go_sem, f4, hk0, hw0, f5, hk1, hw1]
        cases h
        exact bK () (G0 hsc (.lv (.lv (.dead _ _ _ (.lv (.nil _))))) (by simp) ⟨.s, .s, .s, .s, .s, .s, .s, .s, trivial⟩ (by simp))
      ·exfalso; have hc := of_decide_eq_false hc; omega
     ·(repeat apply sq_); apply er_; simp only [go_sem, f4, hk0, hw0, f5]
      (repeat apply sq_); refine D4 (by rfl) (fun hc => ?_) fun hc => ?_
      ·exfalso; first | exact Bool.noConfusion hc | (have hc := of_decide_eq_true hc; omega)
      ·refine Y2 ?_; simp only [go_sem, f4, hk0, hw0, f5]
       exact ⟨(), (G0 hsc (.lv (.lv (.dead _ _ _ (.lv (.nil _))))) (by simp) ⟨.s, .s, .s, .s, .s, trivial⟩ (by simp))⟩
     ·try simp only [go_sem, f4, hk0, hw0, f5]
      unfold bM at h
      refine L6 hb ?_
      (repeat apply sq_); apply er_; simp only [go_sem, f4, hk0, hw0, f5]
      cases h
      exact bK () (G0 hsc (.lv (.lv (.dead _ _ _ (.lv (.nil _))))) (by simp) ⟨.s, .s, .s, .s, .s, trivial⟩ (by simp))
    ·exfalso; have hc := of_decide_eq_false hc; omega
   ·(repeat apply sq_); apply er_; simp only [go_sem, f4]
    (repeat apply sq_); refine D4 (by rfl) (fun hc => ?_) fun hc => ?_
    ·exfalso; first | exact Bool.noConfusion hc | (have hc := of_decide_eq_true hc; omega)
    ·refine Y2 ?_; simp only [go_sem, f4]
     exact ⟨(), (G0 hsc (.lv (.lv (.nil _))) (by simp) ⟨.s, .s, trivial⟩ (by simp))⟩
   ·try simp only [go_sem, f4]
    unfold V6 at h
    refine L6 hb ?_
    (repeat apply sq_); apply er_; simp only [go_sem, f4]
    (repeat apply sq_); apply er_; simp only [go_sem, f4]
    (repeat apply sq_); refine fG (t := 67) rfl fun hl2 => ?_
    simp only [eF] at hl2
    (repeat apply sq_); refine arg_ (body := V4 a0) (kk := V5) (n := a0.C9.length) (s0 := [])
     (fun (gs2 : Unit) (k2 : Nat) (s2 : (List (Bs × Int))) => [(1, .ptr st.length 0 0 0), (2, .ptr (st.length + 1) 0 0 0), (10, .mp (st.length + 2)), (67, .sl false 3 32 (rows x9.cells a0.C9)), (68, .int .i64 (↑a0.C9.length : Int)), (69, .int .i64 (↑k2 : Int))])
     (fun (gs2 : Unit) (k2 : Nat) (s2 : (List (Bs × Int))) => st ++ [some (.arr 0 2 0 [[.sl false 2 40 (rows w7.cells a0.types), .sl false 3 32 (rows x9.cells a0.C9)]]), some (.arr 0 2 0 [[.int .i64 0, .int .i64 0]]), some (.mps false (mrw O1 s2))])
     (fun (gt2 : Unit) (t2 : (List (Bs × Int))) => [(2, .ptr (st.length + 1) 0 0 0)])
     (fun (gt2 : Unit) (t2 : (List (Bs × Int))) => st ++ [none, some (.arr 0 2 0 [[.int .i64 0, .int .i64 0]])])
     () h (G0 hsc (.lv (.lv (.lv (.nil _)))) (by simp) ⟨.s, .s, .s, .s, .s, .s, trivial⟩ (by simp))
     (fun gs2 k2 s2 b2 hk2 h hx2 => ?_) (fun gs2 s2 => ?_) (fun gt2 t2 fr1 st1 h hb => ?_)
    ·unfold V4 at h
     have hw2 : wr .i64 ((↑k2 : Int) + 1) = (↑(k2 + 1) : Int) := gy hk2 hl2 (by decide)
     (repeat apply sq_); apply er_; simp only [go_sem, f4]
     (repeat apply sq_); refine D4 (by rfl) (fun hc => ?_) fun hc => ?_
     ·refine E6 ?_; try simp only [go_sem, f4]
      (repeat apply sq_); refine U8 ?_
      (repeat apply sq_); apply er_; simp only [go_sem, f4, hk2, hw2]
      (repeat apply sq_); apply er_; simp only [go_sem, f4, hk2, hw2]
      obtain ⟨v14, hv14, h⟩ := C6 h
      refine ((iY _ _ hv14)).to ?_
      try simp only [go_sem, f4, hk2, hw2]
      (repeat apply sq_); refine D4 (by rfl) (fun hc => ?_) fun hc => ?_
      ·replace h := B0 h (by first | exact hc | simpa using hc)
       (repeat apply sq_); apply er_; simp only [go_sem, f4, hk2, hw2]
       obtain ⟨v15, hv15, h⟩ := C6 h
       refine ((H7 _ _ _ hv15)).to ?_
       try simp only [go_sem, f4, hk2, hw2]
       (repeat apply sq_); refine E3 ?_
       try simp only [go_sem, f4, hk2, hw2]
       obtain rfl := Option.some.inj h
       refine F9 ?_; have hr := hx2 _ rfl; try simp only [go_sem, f4, hk2, hw2]
       refine E4 ?_; simp only [go_sem, f4, hk2, hw2]
       exact y3 (d' := .agg [.int .i64 v15.code, .int .i64 v15.index]) hsc (.same _) (by simp) ⟨by subst hr; rfl, rfl⟩
      ·replace h := B1 h (by first | exact hc | simpa using hc)
       refine E6 ?_; try simp only [go_sem, f4, hk2, hw2]
       (repeat apply sq_); apply er_; simp only [go_sem, f4, hk2, hw2]
       (repeat apply sq_); apply er_; simp only [go_sem, f4, hk2, hw2]
       (repeat apply sq_); refine D4 (by rfl) (fun hc => ?_) fun hc => ?_
       ·replace h := B0 h (by first | exact hc | simpa using hc)
        (repeat apply sq_); apply er_; simp only [go_sem, f4, hk2, hw2]
        obtain ⟨v16, hv16, h⟩ := C6 h
        refine ((H7 _ _ _ hv16)).to ?_
        try simp only [go_sem, f4, hk2, hw2]
        (repeat apply sq_); refine E3 ?_
        try simp only [go_sem, f4, hk2, hw2]
        obtain rfl := Option.some.inj h
        refine F9 ?_; have hr := hx2 _ rfl; try simp only [go_sem, f4, hk2, hw2]
        refine E4 ?_; simp only [go_sem, f4, hk2, hw2]
        exact y3 (d' := .agg [.int .i64 v16.code, .int .i64 v16.index]) hsc (.same _) (by simp) ⟨by subst hr; rfl, rfl⟩
       ·replace h := B1 h (by first | exact hc | simpa using hc)
        refine E6 ?_; try simp only [go_sem, f4, hk2, hw2]
        obtain ⟨c17, MA, h⟩ := lD h
        have e18 : K1 ((get a0.C9 k2).name) [.int .i64 (↑k2 : Int)] (mrw O1 s2) = mrw O1 c17 := by rw [MA]; exact wu (E := O1) _ _ _
        (repeat apply sq_); apply er_; simp only [go_sem, f4, hk2, hw2, e18]
        (repeat apply sq_); apply er_; simp only [go_sem, f4, hk2, hw2]
        (repeat apply sq_); refine D4 (by rfl) (fun hc => ?_) fun hc => ?_
        ·replace h := B0 h (by first | exact hc | simpa using hc)
         (repeat apply sq_); apply er_; simp only [go_sem, f4, hk2, hw2]
         obtain ⟨v19, hv19, h⟩ := C6 h
         refine ((H7 _ _ _ hv19)).to ?_
         try simp only [go_sem, f4, hk2, hw2]
         (repeat apply sq_); refine E3 ?_
         try simp only [go_sem, f4, hk2, hw2]
         obtain rfl := Option.some.inj h
         refine F9 ?_; have hr := hx2 _ rfl; try simp only [go_sem, f4, hk2, hw2]
         refine E4 ?_; simp only [go_sem, f4, hk2, hw2]
         exact y3 (d' := .agg [.int .i64 v19.code, .int .i64 v19.index]) hsc (.same _) (by simp) ⟨by subst hr; rfl, rfl⟩
        ·replace h := B1 h (by first | exact hc | simpa using hc)
         refine E6 ?_; try simp only [go_sem, f4, hk2, hw2]
         (repeat apply sq_); apply er_; simp only [go_sem, f4, hk2, hw2]
         cases h
         exact bK () (G0 hsc (.lv (.lv (.lv (.nil _)))) (by simp) ⟨.s, .s, .s, .s, .s, .s, trivial⟩ (by simp))
     ·exfalso; have hc := of_decide_eq_false hc; omega
    ·(repeat apply sq_); apply er_; simp only [go_sem, f4]
     (repeat apply sq_); refine D4 (by rfl) (fun hc => ?_) fun hc => ?_
     ·exfalso; first | exact Bool.noConfusion hc | (have hc := of_decide_eq_true hc; omega)
     ·refine Y2 ?_; simp only [go_sem, f4]
      exact ⟨(), (G0 hsc (.dead _ _ _ (.lv (.nil _))) (by simp) ⟨.s, trivial⟩ (by simp))⟩
    ·try simp only [go_sem, f4]
     unfold V5 at h
     refine L6 hb ?_
     (repeat apply sq_); apply er_; simp only [go_sem, f4]
     (repeat apply sq_); refine E3 ?_
     try simp only [go_sem, f4]
     have hr := Option.some.inj h
     refine E4 ?_; simp only [go_sem, f4]
     exact y3 (d' := .agg [.int .i64 0, .int .i64 0]) hsc (.same _) (by simp) ⟨by subst hr; rfl, rfl⟩
theorem R9 (a0 : Int) (a1 : Int) (r : y7) (h : P7 a0 a1 = some r) : Pure Tryz.prog gl 43 [.int .i64 a0, .int .i64 a1] (.agg [.int .i64 r.code, .int .i64 r.index]) := by
 intro st
 unfold P7 at h
 refine O4 (N := 8) (rs := [.cell 4 41]) (keep := [0, 1, 4]) Tryz.func43 rfl rfl rfl (by kernel_rfl) rfl fun hsc => ?_
 (repeat apply sq_); apply er_; simp only [go_sem]
 (repeat apply sq_); apply er_; simp only [go_sem]
 (repeat apply sq_); refine E3 ?_
 try simp only [go_sem]
 have hr := Option.some.inj h
 refine E4 ?_; simp only [go_sem]
 exact y3 (d' := .agg [.int .i64 a0, .int .i64 a1]) hsc (.same _) (by simp) ⟨by subst hr; rfl, rfl⟩
theorem bH (a0 : Int) (a1 : Int) (r : y7) (h : bw a0 a1 = some r) : Pure Tryz.prog gl 73 [.int .i64 a0, .int .i64 a1] (.agg [.int .i64 r.code, .int .i64 r.index]) := by
 intro st
 unfold bw at h
 refine O4 (N := 8) (rs := [.cell 4 41]) (keep := [0, 1, 4]) Tryz.func73 rfl rfl rfl (by kernel_rfl) rfl fun hsc => ?_
 (repeat apply sq_); apply er_; simp only [go_sem]
 (repeat apply sq_); apply er_; simp only [go_sem]
 (repeat apply sq_); refine E3 ?_
 try simp only [go_sem]
 have hr := Option.some.inj h
 refine E4 ?_; simp only [go_sem]
 exact y3 (d' := .agg [.int .i64 a0, .int .i64 a1]) hsc (.same _) (by simp) ⟨by subst hr; rfl, rfl⟩
theorem sT (a0 : w4) (a1 : y5) (r : y7) (h : iA a0 a1 = some r) : Pure Tryz.prog gl 71 [.agg [.sl false 2 40 (rows w7.cells a0.types), .sl false 3 32 (rows x9.cells a0.C9)], .agg [.sl false 2 32 (rows w8.cells a1.nodes)]] (.agg [.int .i64 r.code, .int .i64 r.index]) := by
 intro st
 unfold iA at h
 refine O4 (N := 86) (rs := [.cell 4 41]) (keep := [0, 1, 2, 3, 4, 5, 6, 7, 9, 15, 16, 17, 18, 19, 22, 23, 24, 25, 33, 34, 35, 36, 37, 38, 39, 43, 44, 45, 46, 53, 54, 55, 56, 57, 58, 61, 62, 63, 66, 67, 68, 69, 70, 71, 72, 78]) Tryz.func71 rfl rfl rfl (by kernel_rfl) rfl fun hsc => ?_
 (repeat apply sq_); apply er_; simp only [go_sem]
 (repeat apply sq_); apply er_; simp only [go_sem]
 (repeat apply sq_); refine D4 (by rfl) (fun hc => ?_) fun hc => ?_
 ·replace h := B0 h (by first | exact hc | simpa using hc)
  (repeat apply sq_); apply er_; simp only [go_sem]
  obtain ⟨v1, hv1, h⟩ := C6 h
  refine ((bH _ _ _ hv1)).to ?_
  try simp only [go_sem]
  (repeat apply sq_); refine E3 ?_
  try simp only [go_sem]
  have hr := Option.some.inj h
  refine E4 ?_; simp only [go_sem]
  exact y3 (d' := .agg [.int .i64 v1.code, .int .i64 v1.index]) hsc (.same _) (by simp) ⟨by subst hr; rfl, rfl⟩
 ·replace h := B1 h (by first | exact hc | simpa using hc)
  refine E6 ?_; try simp only [go_sem]
  (repeat apply sq_); apply er_; simp only [go_sem]
  (repeat apply sq_); refine fG (t := 22) rfl fun hl0 => ?_
  simp only [eF] at hl0
  (repeat apply sq_); refine arg_ (body := fz a1 a0) (kk := fA) (n := a1.nodes.length) (s0 := ())
   (fun (gs0 : Unit) (k0 : Nat) (s0 : Unit) => [(2, .ptr st.length 0 0 0), (3, .ptr (st.length + 1) 0 0 0), (4, .ptr (st.length + 2) 0 0 0), (22, .sl false 2 32 (rows w8.cells a1.nodes)), (23, .int .i64 (↑a1.nodes.length : Int)), (24, .int .i64 (↑k0 : Int))])
   (fun (gs0 : Unit) (k0 : Nat) (s0 : Unit) => st ++ [some (.arr 0 2 0 [[.sl false 2 40 (rows w7.cells a0.types), .sl false 3 32 (rows x9.cells a0.C9)]]), some (.arr 0 1 0 [[.sl false 2 32 (rows w8.cells a1.nodes)]]), some (.arr 0 2 0 [[.int .i64 0, .int .i64 0]])])
   (fun (gt0 : Unit) (t0 : Unit) => [(4, .ptr (st.length + 2) 0 0 0)])
   (fun (gt0 : Unit) (t0 : Unit) => st ++ [none, none, some (.arr 0 2 0 [[.int .i64 0, .int .i64 0]])])
   () h (G0 hsc (.lv (.lv (.lv (.nil _)))) (by simp) ⟨.s, .s, .s, .s, .s, .s, trivial⟩ (by simp))
   (fun gs0 k0 s0 b0 hk0 h hx0 => ?_) (fun gs0 s0 => ?_) (fun gt0 t0 fr1 st1 h hb => ?_)
  ·unfold fz at h
   have hw0 : wr .i64 ((↑k0 : Int) + 1) = (↑(k0 + 1) : Int) := gy hk0 hl0 (by decide)
   (repeat apply sq_); apply er_; simp only [go_sem]
   (repeat apply sq_); refine D4 (by rfl) (fun hc => ?_) fun hc => ?_
   ·refine E6 ?_; try simp only [go_sem]
    (repeat apply sq_); refine U8 ?_
    (repeat apply sq_); apply er_; simp only [go_sem, hk0, hw0]
    (repeat apply sq_); apply er_; simp only [go_sem, hk0, hw0]
    (repeat apply sq_); refine D4 (by rfl) (fun hc => ?_) fun hc => ?_
    ·replace h := B0 h (by first | exact hc | simpa using hc)
     (repeat apply sq_); apply er_; simp only [go_sem, hk0, hw0]
     obtain ⟨v7, hv7, h⟩ := C6 h
     refine ((bH _ _ _ hv7)).to ?_
     try simp only [go_sem, hk0, hw0]
     (repeat apply sq_); refine E3 ?_
     try simp only [go_sem, hk0, hw0]
     obtain rfl := Option.some.inj h
     refine F9 ?_; have hr := hx0 _ rfl; try simp only [go_sem, hk0, hw0]
     refine E4 ?_; simp only [go_sem, hk0, hw0]
     exact y3 (d' := .agg [.int .i64 v7.code, .int .i64 v7.index]) hsc (.same _) (by simp) ⟨by subst hr; rfl, rfl⟩
    ·replace h := B1 h (by first | exact hc | simpa using hc)
     refine E6 ?_; try simp only [go_sem, hk0, hw0]
     (repeat apply sq_); apply er_; simp only [go_sem, hk0, hw0]
     (repeat apply sq_); apply er_; simp only [go_sem, hk0, hw0]
     (repeat apply sq_); refine fG (t := 43) rfl fun hl2 => ?_
     simp only [eF] at hl2
     (repeat apply sq_); refine arg_ (body := fu a1 k0 a0) (kk := fy) (n := ((get a1.nodes k0).links).length) (s0 := -1)
      (fun (gs2 : Unit) (k2 : Nat) (s2 : Int) => [(2, .ptr st.length 0 0 0), (3, .ptr (st.length + 1) 0 0 0), (4, .ptr (st.length + 2) 0 0 0), (5, .int .i64 (↑k0 : Int)), (7, .int .i64 s2), (22, .sl false 2 32 (rows w8.cells a1.nodes)), (23, .int .i64 (↑a1.nodes.length : Int)), (24, .int .i64 (↑k0 : Int)), (43, .sl false 2 16 (rows D8.cells ((get a1.nodes k0).links))), (44, .int .i64 (↑(((get a1.nodes k0).links).length) : Int)), (45, .int .i64 (↑k2 : Int))])
      (fun (gs2 : Unit) (k2 : Nat) (s2 : Int) => st ++ [some (.arr 0 2 0 [[.sl false 2 40 (rows w7.cells a0.types), .sl false 3 32 (rows x9.cells a0.C9)]]), some (.arr 0 1 0 [[.sl false 2 32 (rows w8.cells a1.nodes)]]), some (.arr 0 2 0 [[.int .i64 0, .int .i64 0]])])
      (fun (gt2 : Unit) (t2 : Int) => [(2, .ptr st.length 0 0 0), (3, .ptr (st.length + 1) 0 0 0), (4, .ptr (st.length + 2) 0 0 0), (22, .sl false 2 32 (rows w8.cells a1.nodes)), (23, .int .i64 (↑a1.nodes.length : Int)), (24, .int .i64 (↑k0 : Int))])
      (fun (gt2 : Unit) (t2 : Int) => st ++ [some (.arr 0 2 0 [[.sl false 2 40 (rows w7.cells a0.types), .sl false 3 32 (rows x9.cells a0.C9)]]), some (.arr 0 1 0 [[.sl false 2 32 (rows w8.cells a1.nodes)]]), some (.arr 0 2 0 [[.int .i64 0, .int .i64 0]])])
      () h (G0 hsc (.lv (.lv (.lv (.nil _)))) (by simp) ⟨.s, .s, .s, .s, .s, .s, .s, .s, .s, .s, .s, trivial⟩ (by simp))
      (fun gs2 k2 s2 b2 hk2 h hx2 => ?_) (fun gs2 s2 => ?_) (fun gt2 t2 fr1 st1 h hb => ?_)
     ·unfold fu at h
      have hw2 : wr .i64 ((↑k2 : Int) + 1) = (↑(k2 + 1) : Int) := gy hk2 hl2 (by decide)
      (repeat apply sq_); apply er_; simp only [go_sem, hk0, hw0]
      (repeat apply sq_); refine D4 (by rfl) (fun hc => ?_) fun hc => ?_
      ·refine E6 ?_; try simp only [go_sem, hk0, hw0]
       (repeat apply sq_); refine U8 ?_
       (repeat apply sq_); apply er_; simp only [go_sem, hk0, hw0, hk2, hw2]
       (repeat apply sq_); apply er_; simp only [go_sem, hk0, hw0, hk2, hw2]
       (repeat apply sq_); refine D4 (by rfl) (fun hc => ?_) fun hc => ?_
       ·replace h := B0 h (by first | exact hc | simpa using hc)
        (repeat apply sq_); apply er_; simp only [go_sem, hk0, hw0, hk2, hw2]
        obtain ⟨v10, hv10, h⟩ := C6 h
        refine ((bH _ _ _ hv10)).to ?_
        try simp only [go_sem, hk0, hw0, hk2, hw2]
        (repeat apply sq_); refine E3 ?_
        try simp only [go_sem, hk0, hw0, hk2, hw2]
        obtain rfl := Option.some.inj h
        refine F9 ?_; obtain rfl := hx2 _ rfl; try simp only [go_sem, hk0, hw0, hk2, hw2]
        refine F9 ?_; have hr := hx0 _ rfl; try simp only [go_sem, hk0, hw0, hk2, hw2]
        refine E4 ?_; simp only [go_sem, hk0, hw0, hk2, hw2]
        exact y3 (d' := .agg [.int .i64 v10.code, .int .i64 v10.index]) hsc (.same _) (by simp) ⟨by subst hr; rfl, rfl⟩
       ·replace h := B1 h (by first | exact hc | simpa using hc)
        refine E6 ?_; try simp only [go_sem, hk0, hw0, hk2, hw2]
        (repeat apply sq_); apply er_; simp only [go_sem, hk0, hw0, hk2, hw2]
        (repeat apply sq_); refine D4 (by rfl) (fun hc => ?_) fun hc => ?_
        ·replace h := B0 h (by first | exact hc | simpa using hc)
         (repeat apply sq_); apply er_; simp only [go_sem, hk0, hw0, hk2, hw2]
         obtain ⟨v11, hv11, h⟩ := C6 h
         refine ((bH _ _ _ hv11)).to ?_
         try simp only [go_sem, hk0, hw0, hk2, hw2]
         (repeat apply sq_); refine E3 ?_
         try simp only [go_sem, hk0, hw0, hk2, hw2]
         obtain rfl := Option.some.inj h
         refine F9 ?_; obtain rfl := hx2 _ rfl; try simp only [go_sem, hk0, hw0, hk2, hw2]
         refine F9 ?_; have hr := hx0 _ rfl; try simp only [go_sem, hk0, hw0, hk2, hw2]
         refine E4 ?_; simp only [go_sem, hk0, hw0, hk2, hw2]
         exact y3 (d' := .agg [.int .i64 v11.code, .int .i64 v11.index]) hsc (.same _) (by simp) ⟨by subst hr; rfl, rfl⟩
        ·replace h := B1 h (by first | exact hc | simpa using hc)
         refine E6 ?_; try simp only [go_sem, hk0, hw0, hk2, hw2]
         (repeat apply sq_); apply er_; simp only [go_sem, hk0, hw0, hk2, hw2]
         (repeat apply sq_); apply er_; simp only [go_sem, hk0, hw0, hk2, hw2]
         cases h
         exact bK () (G0 hsc (.lv (.lv (.lv (.nil _)))) (by simp) ⟨.s, .s, .s, .s, .s, .s, .s, .s, .s, .s, .s, trivial⟩ (by simp))
      ·exfalso; have hc := of_decide_eq_false hc; omega
     ·(repeat apply sq_); apply er_; simp only [go_sem, hk0, hw0]
      (repeat apply sq_); refine D4 (by rfl) (fun hc => ?_) fun hc => ?_
      ·exfalso; first | exact Bool.noConfusion hc | (have hc := of_decide_eq_true hc; omega)
      ·refine Y2 ?_; simp only [go_sem, hk0, hw0]
       exact ⟨(), (G0 hsc (.lv (.lv (.lv (.nil _)))) (by simp) ⟨.s, .s, .s, .s, .s, .s, trivial⟩ (by simp))⟩
     ·try simp only [go_sem, hk0, hw0]
      unfold fy at h
      refine L6 hb ?_
      (repeat apply sq_); apply er_; simp only [go_sem, hk0, hw0]
      cases h
      exact bK () (G0 hsc (.lv (.lv (.lv (.nil _)))) (by simp) ⟨.s, .s, .s, .s, .s, .s, trivial⟩ (by simp))
   ·exfalso; have hc := of_decide_eq_false hc; omega
  ·(repeat apply sq_); apply er_; simp only [go_sem]
   (repeat apply sq_); refine D4 (by rfl) (fun hc => ?_) fun hc => ?_
   ·exfalso; first | exact Bool.noConfusion hc | (have hc := of_decide_eq_true hc; omega)
   ·refine Y2 ?_; simp only [go_sem]
    exact ⟨(), (G0 hsc (.dead _ _ _ (.dead _ _ _ (.lv (.nil _)))) (by simp) ⟨.s, trivial⟩ (by simp))⟩
  ·try simp only [go_sem]
   unfold fA at h
   refine L6 hb ?_
   (repeat apply sq_); apply er_; simp only [go_sem]
   (repeat apply sq_); refine E3 ?_
   try simp only [go_sem]
   have hr := Option.some.inj h
   refine E4 ?_; simp only [go_sem]
   exact y3 (d' := .agg [.int .i64 0, .int .i64 0]) hsc (.same _) (by simp) ⟨by subst hr; rfl, rfl⟩
end Go.Proofs.YtaohdfpcdfbnlaaGreatDoor
