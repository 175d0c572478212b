import Derived.Test.YtaohdfpcdfbnlaaGreatDoorBase
import Derived.Test.YtaohdfpcdfbnlaaGreatDoorHand
import Derived.Test.YtaohdfpcdfbnlaaGreatDoorMirrors
set_option linter.unusedVariables false
set_option linter.unusedSimpArgs false
set_option maxHeartbeats 2000000
set_option maxRecDepth 100000
namespace Go.Proofs.YtaohdfpcdfbnlaaGreatDoor
open Go Go.Am
theorem H7 (a0 : Int) (a1 : Int) (r : y7) (h : H9 a0 a1 = some r) : Pure Tryz.prog gl 65 [.int .i64 a0, .int .i64 a1] (.agg [.int .i64 r.code, .int .i64 r.index]) := by
 intro st
 unfold H9 at h
 refine O4 (N := 8) (rs := [.cell 4 41]) (keep := [0, 1, 4]) Tryz.func65 rfl rfl rfl (by kernel_rfl) rfl fun hsc => ?_
 (repeat apply sq_); apply er_; simp only [go_sem]
 (repeat apply sq_); apply er_; simp only [go_sem]
 (repeat apply sq_); refine E3 ?_
 try simp only [go_sem]
 have hr := Option.some.inj h
 refine E4 ?_; simp only [go_sem]
 exact y3 (d' := .agg [.int .i64 a0, .int .i64 a1]) hsc (.same _) (by simp) ⟨by subst hr; rfl, rfl⟩
theorem iY (a0 : Bs) (r : Bool) (h : termName a0 = some r) : Pure Tryz.prog gl 45 [.str a0] (.bool r) := by
 intro st
 unfold termName at h
 refine O4 (N := 55) (rs := [.tmp 2]) (keep := [0, 2, 3, 4, 9, 10, 11, 14, 15, 16, 19, 20, 21, 22, 24, 25, 26, 34, 35, 38, 39, 40, 41, 42, 43, 46, 47, 50, 51, 53]) Tryz.func45 rfl rfl rfl (by kernel_rfl) rfl fun hsc => ?_
 (repeat apply sq_); apply er_; simp only [go_sem]
 obtain ⟨f2, h⟩ := G1 h
 obtain ⟨f4, h⟩ := G1 h
 (repeat apply sq_); apply er_; simp only [go_sem, f2, f4]
 (repeat apply sq_); refine D4 (by rfl) (fun hc => ?_) fun hc => ?_
 ·replace h := B0 h (by first | exact hc | simpa using hc)
  (repeat apply sq_); apply er_; simp only [go_sem, f2, f4]
  (repeat apply sq_); refine E3 ?_
  try simp only [go_sem, f2, f4]
  have hr := Option.some.inj h
  refine E4 ?_; simp only [go_sem, f2, f4]
  exact B9 (d' := .bool false) hsc (.same _) (by simp) ⟨by subst hr; rfl, rfl⟩
 ·replace h := B1 h (by first | exact hc | simpa using hc)
  refine E6 ?_; try simp only [go_sem, f2, f4]
  (repeat apply sq_); apply er_; simp only [go_sem, f2, f4]
  obtain ⟨f5, h⟩ := G1 h
  (repeat apply sq_); refine arg_ (body := iS a0) (kk := ld) (n := a0.length) (s0 := ())
   (fun (gs0 : Unit) (k0 : Nat) (s0 : Unit) => [(0, .str a0), (24, .int .i64 (↑a0.length : Int)), (25, .int .i64 (↑k0 : Int))])
   (fun (gs0 : Unit) (k0 : Nat) (s0 : Unit) => st)
   (fun (gt0 : Unit) (t0 : Unit) => [])
   (fun (gt0 : Unit) (t0 : Unit) => st)
   () h (D9 hsc ⟨.s, .s, .s, trivial⟩ (by simp))
   (fun gs0 k0 s0 b0 hk0 h hx0 => ?_) (fun gs0 s0 => ?_) (fun gt0 t0 fr1 st1 h hb => ?_)
  ·unfold iS at h
   have hw0 : wr .i64 ((↑k0 : Int) + 1) = (↑(k0 + 1) : Int) := nY hk0 f5
   (repeat apply sq_); apply er_; simp only [go_sem, f2, f4, f5]
   (repeat apply sq_); refine D4 (by rfl) (fun hc => ?_) fun hc => ?_
   ·refine E6 ?_; try simp only [go_sem, f2, f4, f5]
    (repeat apply sq_); refine U8 ?_
    (repeat apply sq_); apply er_; simp only [go_sem, f2, f4, f5, hk0, hw0]
    (repeat apply sq_); apply er_; simp only [go_sem, f2, f4, f5, hk0, hw0]
    (repeat apply sq_); apply er_; simp only [go_sem, f2, f4, f5, hk0, hw0]
    (repeat apply sq_); refine D4 (by rfl) (fun hc => ?_) fun hc => ?_
    ·replace h := B0 h (by first | exact hc | simpa using hc)
     (repeat apply sq_); apply er_; simp only [go_sem, f2, f4, f5, hk0, hw0]
     (repeat apply sq_); refine E3 ?_
     try simp only [go_sem, f2, f4, f5, hk0, hw0]
     obtain rfl := Option.some.inj h
     refine F9 ?_; have hr := hx0 _ rfl; try simp only [go_sem, f2, f4, f5, hk0, hw0]
     refine E4 ?_; simp only [go_sem, f2, f4, f5, hk0, hw0]
     exact B9 (d' := .bool false) hsc (.same _) (by simp) ⟨by subst hr; rfl, rfl⟩
    ·replace h := B1 h (by first | exact hc | simpa using hc)
     refine E6 ?_; try simp only [go_sem, f2, f4, f5, hk0, hw0]
     (repeat apply sq_); apply er_; simp only [go_sem, f2, f4, f5, hk0, hw0]
     cases h
     exact bK () (D9 hsc ⟨.s, .s, .s, trivial⟩ (by simp))
   ·exfalso; have hc := of_decide_eq_false hc; omega
  ·(repeat apply sq_); apply er_; simp only [go_sem, f2, f4, f5]
   (repeat apply sq_); refine D4 (by rfl) (fun hc => ?_) fun hc => ?_
   ·exfalso; first | exact Bool.noConfusion hc | (have hc := of_decide_eq_true hc; omega)
   ·refine Y2 ?_; simp only [go_sem, f2, f4, f5]
    exact ⟨(), (D9 hsc trivial (by simp))⟩
  ·try simp only [go_sem, f2, f4, f5]
   unfold ld at h
   refine L6 hb ?_
   (repeat apply sq_); apply er_; simp only [go_sem, f2, f4, f5]
   (repeat apply sq_); refine E3 ?_
   try simp only [go_sem, f2, f4, f5]
   have hr := Option.some.inj h
   refine E4 ?_; simp only [go_sem, f2, f4, f5]
   exact B9 (d' := .bool true) hsc (.same _) (by simp) ⟨by subst hr; rfl, rfl⟩
theorem nE (a0 : (List w7)) (r : y7) (h : bV a0 = some r) : Pure Tryz.prog gl 66 [.sl false 2 40 (rows w7.cells a0)] (.agg [.int .i64 r.code, .int .i64 r.index]) := by
 intro st
 unfold bV at h
 refine O4 (N := 82) (rs := [.cell 2 41]) (keep := [0, 2, 3, 4, 5, 7, 8, 10, 15, 16, 17, 18, 21, 22, 23, 24, 31, 41, 54, 58, 59, 60, 61, 67, 68, 69, 70, 75]) Tryz.func66 rfl rfl rfl (by kernel_rfl) rfl fun hsc => ?_
 (repeat apply sq_); apply er_; simp only [go_sem]
 (repeat apply sq_); apply er_; simp only [go_sem]
 (repeat apply sq_); refine D4 (by rfl) (fun hc => ?_) fun hc => ?_
 ·replace h := B0 h (by first | exact hc | simpa using hc)
  (repeat apply sq_); apply er_; simp only [go_sem]
  obtain ⟨v1, hv1, h⟩ := C6 h
  refine ((H7 _ _ _ hv1)).to ?_
  try simp only [go_sem]
  (repeat apply sq_); refine E3 ?_
  try simp only [go_sem]
  have hr := Option.some.inj h
  refine E4 ?_; simp only [go_sem]
  exact y3 (d' := .agg [.int .i64 v1.code, .int .i64 v1.index]) hsc (.same _) (by simp) ⟨by subst hr; rfl, rfl⟩
 ·replace h := B1 h (by first | exact hc | simpa using hc)
  refine E6 ?_; try simp only [go_sem]
  (repeat apply sq_); apply er_; simp only [go_sem]
  (repeat apply sq_); apply er_; simp only [go_sem]
  (repeat apply sq_); refine fG (t := 21) rfl fun hl0 => ?_
  simp only [eF] at hl0
  (repeat apply sq_); refine arg_ (body := br a0) (kk := dK) (n := a0.length) (s0 := [])
   (fun (gs0 : Unit) (k0 : Nat) (s0 : (List (Bs × Int))) => [(2, .ptr st.length 0 0 0), (3, .mp (st.length + 1)), (21, .sl false 2 40 (rows w7.cells a0)), (22, .int .i64 (↑a0.length : Int)), (23, .int .i64 (↑k0 : Int))])
   (fun (gs0 : Unit) (k0 : Nat) (s0 : (List (Bs × Int))) => st ++ [some (.arr 0 2 0 [[.int .i64 0, .int .i64 0]]), some (.mps false (mrw O1 s0))])
   (fun (gt0 : Unit) (t0 : (List (Bs × Int))) => [(2, .ptr st.length 0 0 0)])
   (fun (gt0 : Unit) (t0 : (List (Bs × Int))) => st ++ [some (.arr 0 2 0 [[.int .i64 0, .int .i64 0]])])
   () h (G0 hsc (.lv (.lv (.nil _))) (by simp) ⟨.s, .s, .s, .s, .s, trivial⟩ (by simp))
   (fun gs0 k0 s0 b0 hk0 h hx0 => ?_) (fun gs0 s0 => ?_) (fun gt0 t0 fr1 st1 h hb => ?_)
  ·unfold br at h
   have hw0 : wr .i64 ((↑k0 : Int) + 1) = (↑(k0 + 1) : Int) := gy hk0 hl0 (by decide)
   (repeat apply sq_); apply er_; simp only [go_sem]
   (repeat apply sq_); refine D4 (by rfl) (fun hc => ?_) fun hc => ?_
   ·refine E6 ?_; try simp only [go_sem]
    (repeat apply sq_); refine U8 ?_
    (repeat apply sq_); apply er_; simp only [go_sem, hk0, hw0]
    (repeat apply sq_); apply er_; simp only [go_sem, hk0, hw0]
    obtain ⟨v12, hv12, h⟩ := C6 h
    refine ((iY _ _ hv12)).to ?_
    try simp only [go_sem, hk0, hw0]
    (repeat apply sq_); refine D4 (by rfl) (fun hc => ?_) fun hc => ?_
    ·replace h := B0 h (by first | exact hc | simpa using hc)
     (repeat apply sq_); apply er_; simp only [go_sem, hk0, hw0]
     obtain ⟨v13, hv13, h⟩ := C6 h
     refine ((H7 _ _ _ hv13)).to ?_
     try simp only [go_sem, hk0, hw0]
     (repeat apply sq_); refine E3 ?_
     try simp only [go_sem, hk0, hw0]
     obtain rfl := Option.some.inj h
     refine F9 ?_; have hr := hx0 _ rfl; try simp only [go_sem, hk0, hw0]
     refine E4 ?_; simp only [go_sem, hk0, hw0]
     exact y3 (d' := .agg [.int .i64 v13.code, .int .i64 v13.index]) hsc (.same _) (by simp) ⟨by subst hr; rfl, rfl⟩
    ·replace h := B1 h (by first | exact hc | simpa using hc)
     refine E6 ?_; try simp only [go_sem, hk0, hw0]
     (repeat apply sq_); apply er_; simp only [go_sem, hk0, hw0]
     (repeat apply sq_); apply er_; simp only [go_sem, hk0, hw0]
     (repeat apply sq_); refine D4 (by rfl) (fun hc => ?_) fun hc => ?_
     ·replace h := B0 h (by first | exact hc | simpa using hc)
      (repeat apply sq_); apply er_; simp only [go_sem, hk0, hw0]
      obtain ⟨v14, hv14, h⟩ := C6 h
      refine ((H7 _ _ _ hv14)).to ?_
      try simp only [go_sem, hk0, hw0]
      (repeat apply sq_); refine E3 ?_
      try simp only [go_sem, hk0, hw0]
      obtain rfl := Option.some.inj h
      refine F9 ?_; have hr := hx0 _ rfl; try simp only [go_sem, hk0, hw0]
      refine E4 ?_; simp only [go_sem, hk0, hw0]
      exact y3 (d' := .agg [.int .i64 v14.code, .int .i64 v14.index]) hsc (.same _) (by simp) ⟨by subst hr; rfl, rfl⟩
     ·replace h := B1 h (by first | exact hc | simpa using hc)
      refine E6 ?_; try simp only [go_sem, hk0, hw0]
      obtain ⟨c15, IC, h⟩ := lD h
      have e16 : K1 ((get a0 k0).name) [.int .i64 (↑k0 : Int)] (mrw O1 s0) = mrw O1 c15 := by rw [IC]; exact wu (E := O1) _ _ _
      (repeat apply sq_); apply er_; simp only [go_sem, hk0, hw0, e16]
      (repeat apply sq_); apply er_; simp only [go_sem, hk0, hw0]
      (repeat apply sq_); refine D4 (by rfl) (fun hc => ?_) fun hc => ?_
      ·replace h := B0 h (by first | exact hc | simpa using hc)
       (repeat apply sq_); apply er_; simp only [go_sem, hk0, hw0]
       obtain ⟨v17, hv17, h⟩ := C6 h
       refine ((H7 _ _ _ hv17)).to ?_
       try simp only [go_sem, hk0, hw0]
       (repeat apply sq_); refine E3 ?_
       try simp only [go_sem, hk0, hw0]
       obtain rfl := Option.some.inj h
       refine F9 ?_; have hr := hx0 _ rfl; try simp only [go_sem, hk0, hw0]
       refine E4 ?_; simp only [go_sem, hk0, hw0]
       exact y3 (d' := .agg [.int .i64 v17.code, .int .i64 v17.index]) hsc (.same _) (by simp) ⟨by subst hr; rfl, rfl⟩
      ·replace h := B1 h (by first | exact hc | simpa using hc)
       refine E6 ?_; try simp only [go_sem, hk0, hw0]
       (repeat apply sq_); apply er_; simp only [go_sem, hk0, hw0]
       (repeat apply sq_); apply er_; simp only [go_sem, hk0, hw0]
       (repeat apply sq_); refine fG (t := 58) rfl fun hl2 => ?_
       simp only [eF] at hl2
       (repeat apply sq_); refine arg_ (body := bp a0 k0) (kk := bq c15) (n := ((get a0 k0).parents).length) (s0 := -1)
        (fun (gs2 : Unit) (k2 : Nat) (s2 : Int) => [(2, .ptr st.length 0 0 0), (3, .mp (st.length + 1)), (4, .int .i64 (↑k0 : Int)), (8, .int .i64 s2), (21, .sl false 2 40 (rows w7.cells a0)), (22, .int .i64 (↑a0.length : Int)), (23, .int .i64 (↑k0 : Int)), (58, .sl false 1 8 (rows O1 ((get a0 k0).parents))), (59, .int .i64 (↑(((get a0 k0).parents).length) : Int)), (60, .int .i64 (↑k2 : Int))])
        (fun (gs2 : Unit) (k2 : Nat) (s2 : Int) => st ++ [some (.arr 0 2 0 [[.int .i64 0, .int .i64 0]]), some (.mps false (mrw O1 c15))])
        (fun (gt2 : Unit) (t2 : Int) => [(2, .ptr st.length 0 0 0), (3, .mp (st.length + 1)), (21, .sl false 2 40 (rows w7.cells a0)), (22, .int .i64 (↑a0.length : Int)), (23, .int .i64 (↑k0 : Int))])
        (fun (gt2 : Unit) (t2 : Int) => st ++ [some (.arr 0 2 0 [[.int .i64 0, .int .i64 0]]), some (.mps false (mrw O1 c15))])
        () h (G0 hsc (.lv (.lv (.nil _))) (by simp) ⟨.s, .s, .s, .s, .s, .s, .s, .s, .s, .s, trivial⟩ (by simp))
        (fun gs2 k2 s2 b2 hk2 h hx2 => ?_) (fun gs2 s2 => ?_) (fun gt2 t2 fr1 st1 h hb => ?_)
       ·unfold bp at h
        have hw2 : wr .i64 ((↑k2 : Int) + 1) = (↑(k2 + 1) : Int) := gy hk2 hl2 (by decide)
        (repeat apply sq_); apply er_; simp only [go_sem, hk0, hw0]
        (repeat apply sq_); refine D4 (by rfl) (fun hc => ?_) fun hc => ?_
        ·refine E6 ?_; try simp only [go_sem, hk0, hw0]
         (repeat apply sq_); refine U8 ?_
         (repeat apply sq_); apply er_; simp only [go_sem, hk0, hw0, hk2, hw2]
         (repeat apply sq_); apply er_; simp only [go_sem, hk0, hw0, hk2, hw2]
         (repeat apply sq_); refine D4 (by rfl) (fun hc => ?_) fun hc => ?_
         ·replace h := B0 h (by first | exact hc | simpa using hc)
          (repeat apply sq_); apply er_; simp only [go_sem, hk0, hw0, hk2, hw2]
          obtain ⟨v20, hv20, h⟩ := C6 h
          refine ((H7 _ _ _ hv20)).to ?_
          try simp only [go_sem, hk0, hw0, hk2, hw2]
          (repeat apply sq_); refine E3 ?_
          try simp only [go_sem, hk0, hw0, hk2, hw2]
          obtain rfl := Option.some.inj h
          refine F9 ?_; obtain rfl := hx2 _ rfl; try simp only [go_sem, hk0, hw0, hk2, hw2]
          refine F9 ?_; have hr := hx0 _ rfl; try simp only [go_sem, hk0, hw0, hk2, hw2]
          refine E4 ?_; simp only [go_sem, hk0, hw0, hk2, hw2]
          exact y3 (d' := .agg [.int .i64 v20.code, .int .i64 v20.index]) hsc (.same _) (by simp) ⟨by subst hr; rfl, rfl⟩
         ·replace h := B1 h (by first | exact hc | simpa using hc)
          refine E6 ?_; try simp only [go_sem, hk0, hw0, hk2, hw2]
          (repeat apply sq_); apply er_; simp only [go_sem, hk0, hw0, hk2, hw2]
          (repeat apply sq_); refine D4 (by rfl) (fun hc => ?_) fun hc => ?_
          ·replace h := B0 h (by first | exact hc | simpa using hc)
           (repeat apply sq_); apply er_; simp only [go_sem, hk0, hw0, hk2, hw2]
           obtain ⟨v21, hv21, h⟩ := C6 h
           refine ((H7 _ _ _ hv21)).to ?_
           try simp only [go_sem, hk0, hw0, hk2, hw2]
           (repeat apply sq_); refine E3 ?_
           try simp only [go_sem, hk0, hw0, hk2, hw2]
           obtain rfl := Option.some.inj h
           refine F9 ?_; obtain rfl := hx2 _ rfl; try simp only [go_sem, hk0, hw0, hk2, hw2]
           refine F9 ?_; have hr := hx0 _ rfl; try simp only [go_sem, hk0, hw0, hk2, hw2]
           refine E4 ?_; simp only [go_sem, hk0, hw0, hk2, hw2]
           exact y3 (d' := .agg [.int .i64 v21.code, .int .i64 v21.index]) hsc (.same _) (by simp) ⟨by subst hr; rfl, rfl⟩
          ·replace h := B1 h (by first | exact hc | simpa using hc)
           refine E6 ?_; try simp only [go_sem, hk0, hw0, hk2, hw2]
           (repeat apply sq_); apply er_; simp only [go_sem, hk0, hw0, hk2, hw2]
           (repeat apply sq_); apply er_; simp only [go_sem, hk0, hw0, hk2, hw2]
           cases h
           exact bK () (G0 hsc (.lv (.lv (.nil _))) (by simp) ⟨.s, .s, .s, .s, .s, .s, .s, .s, .s, .s, trivial⟩ (by simp))
        ·exfalso; have hc := of_decide_eq_false hc; omega
       ·(repeat apply sq_); apply er_; simp only [go_sem, hk0, hw0]
        (repeat apply sq_); refine D4 (by rfl) (fun hc => ?_) fun hc => ?_
        ·exfalso; first | exact Bool.noConfusion hc | (have hc := of_decide_eq_true hc; omega)
        ·refine Y2 ?_; simp only [go_sem, hk0, hw0]
         exact ⟨(), (G0 hsc (.lv (.lv (.nil _))) (by simp) ⟨.s, .s, .s, .s, .s, trivial⟩ (by simp))⟩
       ·try simp only [go_sem, hk0, hw0]
        unfold bq at h
        refine L6 hb ?_
        (repeat apply sq_); apply er_; simp only [go_sem, hk0, hw0]
        cases h
        exact bK () (G0 hsc (.lv (.lv (.nil _))) (by simp) ⟨.s, .s, .s, .s, .s, trivial⟩ (by simp))
   ·exfalso; have hc := of_decide_eq_false hc; omega
  ·(repeat apply sq_); apply er_; simp only [go_sem]
   (repeat apply sq_); refine D4 (by rfl) (fun hc => ?_) fun hc => ?_
   ·exfalso; first | exact Bool.noConfusion hc | (have hc := of_decide_eq_true hc; omega)
   ·refine Y2 ?_; simp only [go_sem]
    exact ⟨(), (G0 hsc (.lv (.nil _)) (by simp) ⟨.s, trivial⟩ (by simp))⟩
  ·try simp only [go_sem]
   unfold dK at h
   refine L6 hb ?_
   (repeat apply sq_); apply er_; simp only [go_sem]
   (repeat apply sq_); refine E3 ?_
   try simp only [go_sem]
   have hr := Option.some.inj h
   refine E4 ?_; simp only [go_sem]
   exact y3 (d' := .agg [.int .i64 0, .int .i64 0]) hsc (.same _) (by simp) ⟨by subst hr; rfl, rfl⟩
theorem gM (a0 : (List w7)) (r : A9) (h : W5 a0 = some r) : Pure Tryz.prog gl 44 [.sl false 2 40 (rows w7.cells a0)] (.agg [.sl false 1 8 (rows U2 r.up), .sl false 1 8 (rows U2 r.down)]) := by
 intro st
 unfold W5 at h
 refine O4 (N := 75) (rs := [.cell 2 111]) (keep := [0, 2, 3, 4, 5, 7, 8, 16, 17, 18, 19, 30, 31, 32, 33, 50, 51, 52, 62]) Tryz.func44 rfl rfl rfl (by kernel_rfl) rfl fun hsc => ?_
 (repeat apply sq_); apply er_; simp only [go_sem]
 obtain ⟨⟨f1, f2⟩, h⟩ := G1 h
 have e3 : List.replicate a0.length [.int .u64 0] = rows U2 (List.replicate a0.length (default : Int)) := sj (E := U2) _ default
 have e4 : List.replicate a0.length [.int .u64 0] = rows U2 (List.replicate a0.length (default : Int)) := sj (E := U2) _ default
 (repeat apply sq_); refine ak [] 3 follows (by kernel_rfl) (by rfl) ?_; simp only [go_sem, List.replicate_succ, List.replicate_zero, f1, f2, e3, e4]
 (repeat apply sq_); apply er_; simp only [go_sem, f1, f2]
 (repeat apply sq_); refine fG (t := 0) rfl fun hl0 => ?_
 simp only [eF] at hl0
 (repeat apply sq_); refine arg_ (body := aB a0) (kk := aC) (n := a0.length) (s0 := ((List.replicate a0.length (default : Int)), (List.replicate a0.length (default : Int))))
  (fun (gs0 : Nat × Nat) (k0 : Nat) (s0 : (List Int) × (List Int)) => [(0, .sl false 2 40 (rows w7.cells a0)), (2, .ptr st.length 0 0 0), (3, .ptr (st.length + 3) 0 0 0), (16, .sl false 2 40 (rows w7.cells a0)), (17, .int .i64 (↑a0.length : Int)), (18, .int .i64 (↑k0 : Int))])
  (fun (gs0 : Nat × Nat) (k0 : Nat) (s0 : (List Int) × (List Int)) => st ++ [some (.arr 0 2 0 [[.B4, .B4]]), some (.arr gs0.1 1 8 (rows U2 s0.1)), some (.arr gs0.2 1 8 (rows U2 s0.2)), some (.arr 0 2 0 [[.ref true (st.length + 1) gs0.1 0 s0.1.length, .ref true (st.length + 2) gs0.2 0 s0.2.length]])])
  (fun (gt0 : Nat × Nat) (t0 : (List Int) × (List Int)) => [(2, .ptr st.length 0 0 0), (3, .ptr (st.length + 3) 0 0 0)])
  (fun (gt0 : Nat × Nat) (t0 : (List Int) × (List Int)) => st ++ [some (.arr 0 2 0 [[.B4, .B4]]), some (.arr gt0.1 1 8 (rows U2 t0.1)), some (.arr gt0.2 1 8 (rows U2 t0.2)), some (.arr 0 2 0 [[.ref true (st.length + 1) gt0.1 0 t0.1.length, .ref true (st.length + 2) gt0.2 0 t0.2.length]])])
  (0, 0) h (G0 hsc (.lv (.lv (.lv (.live _ _ _ _ (.arr _ _ _ _ _ (.cons _ _ _ _ (.cons _ _ _ _ (jh (by first | (simp; done) | simp [Fr.get])) (.cons _ _ _ _ (jh (by first | (simp; done) | simp [Fr.get])) .nil)) (.same _))) (.nil _))))) (by simp) ⟨.s, .s, .s, .s, .s, .s, trivial⟩ (by simp))
  (fun gs0 k0 s0 b0 hk0 h hx0 => ?_) (fun gs0 s0 => ?_) (fun gt0 t0 fr1 st1 h hb => ?_)
 ·unfold aB at h
  have hw0 : wr .i64 ((↑k0 : Int) + 1) = (↑(k0 + 1) : Int) := gy hk0 hl0 (by decide)
  (repeat apply sq_); apply er_; simp only [go_sem, f1, f2]
  (repeat apply sq_); refine D4 (by rfl) (fun hc => ?_) fun hc => ?_
  ·refine E6 ?_; try simp only [go_sem, f1, f2]
   (repeat apply sq_); refine U8 ?_
   (repeat apply sq_); apply er_; simp only [go_sem, f1, f2, hk0, hw0]
   obtain ⟨f58, h⟩ := G1 h
   obtain ⟨f59, h⟩ := G1 h
   have e60 : (rows U2 s0.1).getD k0 [] = U2 (get s0.1 k0) := vn (E := U2) (l := s0.1) (k := k0) (by first | omega | (simp; omega))
   have e61 : k0 < s0.1.length := by first | omega | (simp; omega)
   obtain ⟨c62, Ju, h⟩ := lD h
   have e63 : (rows U2 s0.1).set k0 [.int .u64 (wr .u64 (1 * 2 ^ (min k0 64)))] = rows U2 c62 := by rw [Ju]; first | exact Ey (E := U2) _ _ _ | simp only [go_sem, rows, List.map_set]
   (repeat apply sq_); refine ak [] 0 follows (by kernel_rfl) (by rfl) ?_; simp only [go_sem, List.replicate_succ, List.replicate_zero, f1, f2, hk0, hw0, f58, f59, e60, e61, e63]
   have e64 : D.ref true (st.length + 1) gs0.1 0 s0.1.length = D.ref true (st.length + 1) gs0.1 0 c62.length := by simp [Ju]
   simp only [e64]
   (repeat apply sq_); apply er_; simp only [go_sem, f1, f2, hk0, hw0, f58, f59]
   (repeat apply sq_); refine fG (t := 30) rfl fun hl3 => ?_
   simp only [eF] at hl3
   (repeat apply sq_); refine arg_ (body := au k0 a0) (kk := aA k0 a0 s0) (n := ((get a0 k0).parents).length) (s0 := c62)
    (fun (gs3 : Nat) (k3 : Nat) (s3 : (List Int)) => [(0, .sl false 2 40 (rows w7.cells a0)), (2, .ptr st.length 0 0 0), (3, .ptr (st.length + 3) 0 0 0), (4, .int .i64 (↑k0 : Int)), (16, .sl false 2 40 (rows w7.cells a0)), (17, .int .i64 (↑a0.length : Int)), (18, .int .i64 (↑k0 : Int)), (30, .sl false 1 8 (rows O1 ((get a0 k0).parents))), (31, .int .i64 (↑(((get a0 k0).parents).length) : Int)), (32, .int .i64 (↑k3 : Int))])
    (fun (gs3 : Nat) (k3 : Nat) (s3 : (List Int)) => st ++ [some (.arr 0 2 0 [[.B4, .B4]]), some (.arr gs3 1 8 (rows U2 s3)), some (.arr gs0.2 1 8 (rows U2 s0.2)), some (.arr 0 2 0 [[.ref true (st.length + 1) gs3 0 s3.length, .ref true (st.length + 2) gs0.2 0 s0.2.length]])])
    (fun (gt3 : Nat) (t3 : (List Int)) => [(0, .sl false 2 40 (rows w7.cells a0)), (2, .ptr st.length 0 0 0), (3, .ptr (st.length + 3) 0 0 0), (4, .int .i64 (↑k0 : Int)), (16, .sl false 2 40 (rows w7.cells a0)), (17, .int .i64 (↑a0.length : Int)), (18, .int .i64 (↑k0 : Int))])
    (fun (gt3 : Nat) (t3 : (List Int)) => st ++ [some (.arr 0 2 0 [[.B4, .B4]]), some (.arr gt3 1 8 (rows U2 t3)), some (.arr gs0.2 1 8 (rows U2 s0.2)), some (.arr 0 2 0 [[.ref true (st.length + 1) gt3 0 t3.length, .ref true (st.length + 2) gs0.2 0 s0.2.length]])])
    gs0.1 h (G0 hsc (.lv (.lv (.lv (.lv (.nil _))))) (by simp) ⟨.s, .s, .s, .s, .s, .s, .s, .s, .s, .s, trivial⟩ (by simp))
    (fun gs3 k3 s3 b3 hk3 h hx3 => ?_) (fun gs3 s3 => ?_) (fun gt3 t3 fr1 st1 h hb => ?_)
   ·unfold au at h
    have hw3 : wr .i64 ((↑k3 : Int) + 1) = (↑(k3 + 1) : Int) := gy hk3 hl3 (by decide)
    (repeat apply sq_); apply er_; simp only [go_sem, f1, f2, hk0, hw0, f58, f59]
    (repeat apply sq_); refine D4 (by rfl) (fun hc => ?_) fun hc => ?_
    ·refine E6 ?_; try simp only [go_sem, f1, f2, hk0, hw0, f58, f59]
     (repeat apply sq_); refine U8 ?_
     (repeat apply sq_); apply er_; simp only [go_sem, f1, f2, hk0, hw0, f58, f59, hk3, hw3]
     obtain ⟨f77, h⟩ := G1 h
     have e78 : (rows U2 s3).getD k0 [] = U2 (get s3 k0) := vn (E := U2) (l := s3) (k := k0) (by first | omega | (simp; omega))
     have e79 : k0 < s3.length := by first | omega | (simp; omega)
     obtain ⟨⟨f80, f81⟩, h⟩ := G1 h
     have e82 : (rows U2 s3).getD ((get ((get a0 k0).parents) k3).toNat) [] = U2 (get s3 ((get ((get a0 k0).parents) k3).toNat)) := vn (E := U2) (l := s3) (k := (get ((get a0 k0).parents) k3).toNat) (by first | omega | (simp; omega))
     have e83 : (get ((get a0 k0).parents) k3).toNat < s3.length := by first | omega | (simp; omega)
     have e84 : (rows U2 s3).getD k0 [] = U2 (get s3 k0) := vn (E := U2) (l := s3) (k := k0) (by first | omega | (simp; omega))
     have e85 : k0 < s3.length := by first | omega | (simp; omega)
     obtain ⟨c86, Jv, h⟩ := lD h
     have e87 : (rows U2 s3).set k0 [.int .u64 (M1 .or .u64 (get s3 k0) (get s3 ((get ((get a0 k0).parents) k3).toNat)))] = rows U2 c86 := by rw [Jv]; first | exact Ey (E := U2) _ _ _ | simp only [go_sem, rows, List.map_set]
     (repeat apply sq_); refine ak [] 0 follows (by kernel_rfl) (by rfl) ?_; simp only [go_sem, List.replicate_succ, List.replicate_zero, f1, f2, hk0, hw0, f58, f59, hk3, hw3, f77, f80, f81, e78, e79, e82, e83, e84, e85, e87]
     have e88 : D.ref true (st.length + 1) gs3 0 s3.length = D.ref true (st.length + 1) gs3 0 c86.length := by simp [Jv]
     simp only [e88]
     (repeat apply sq_); apply er_; simp only [go_sem, f1, f2, hk0, hw0, f58, f59, hk3, hw3, f77, f80, f81]
     cases h
     exact bK gs3 (G0 hsc (.lv (.lv (.lv (.lv (.nil _))))) (by simp) ⟨.s, .s, .s, .s, .s, .s, .s, .s, .s, .s, trivial⟩ (by simp))
    ·exfalso; have hc := of_decide_eq_false hc; omega
   ·(repeat apply sq_); apply er_; simp only [go_sem, f1, f2, hk0, hw0, f58, f59]
    (repeat apply sq_); refine D4 (by rfl) (fun hc => ?_) fun hc => ?_
    ·exfalso; first | exact Bool.noConfusion hc | (have hc := of_decide_eq_true hc; omega)
    ·refine Y2 ?_; simp only [go_sem, f1, f2, hk0, hw0, f58, f59]
     exact ⟨gs3, (G0 hsc (.lv (.lv (.lv (.lv (.nil _))))) (by simp) ⟨.s, .s, .s, .s, .s, .s, .s, trivial⟩ (by simp))⟩
   ·try simp only [go_sem, f1, f2, hk0, hw0, f58, f59]
    unfold aA at h
    refine L6 hb ?_
    (repeat apply sq_); apply er_; simp only [go_sem, f1, f2, hk0, hw0, f58, f59]
    (repeat apply sq_); refine fG (t := 0) rfl fun hl4 => ?_
    simp only [eF] at hl4
    (repeat apply sq_); refine arg_ (body := av k0 t3) (kk := ay t3) (n := a0.length) (s0 := s0.2)
     (fun (gs4 : Nat) (k4 : Nat) (s4 : (List Int)) => [(0, .sl false 2 40 (rows w7.cells a0)), (2, .ptr st.length 0 0 0), (3, .ptr (st.length + 3) 0 0 0), (4, .int .i64 (↑k0 : Int)), (16, .sl false 2 40 (rows w7.cells a0)), (17, .int .i64 (↑a0.length : Int)), (18, .int .i64 (↑k0 : Int)), (50, .int .i64 (↑a0.length : Int)), (51, .int .i64 (↑k4 : Int))])
     (fun (gs4 : Nat) (k4 : Nat) (s4 : (List Int)) => st ++ [some (.arr 0 2 0 [[.B4, .B4]]), some (.arr gt3 1 8 (rows U2 t3)), some (.arr gs4 1 8 (rows U2 s4)), some (.arr 0 2 0 [[.ref true (st.length + 1) gt3 0 t3.length, .ref true (st.length + 2) gs4 0 s4.length]])])
     (fun (gt4 : Nat) (t4 : (List Int)) => [(0, .sl false 2 40 (rows w7.cells a0)), (2, .ptr st.length 0 0 0), (3, .ptr (st.length + 3) 0 0 0), (16, .sl false 2 40 (rows w7.cells a0)), (17, .int .i64 (↑a0.length : Int)), (18, .int .i64 (↑k0 : Int))])
     (fun (gt4 : Nat) (t4 : (List Int)) => st ++ [some (.arr 0 2 0 [[.B4, .B4]]), some (.arr gt3 1 8 (rows U2 t3)), some (.arr gt4 1 8 (rows U2 t4)), some (.arr 0 2 0 [[.ref true (st.length + 1) gt3 0 t3.length, .ref true (st.length + 2) gt4 0 t4.length]])])
     gs0.2 h (G0 hsc (.lv (.lv (.lv (.lv (.nil _))))) (by simp) ⟨.s, .s, .s, .s, .s, .s, .s, .s, .s, trivial⟩ (by simp))
     (fun gs4 k4 s4 b4 hk4 h hx4 => ?_) (fun gs4 s4 => ?_) (fun gt4 t4 fr1 st1 h hb => ?_)
    ·unfold av at h
     have hw4 : wr .i64 ((↑k4 : Int) + 1) = (↑(k4 + 1) : Int) := gy hk4 hl4 (by decide)
     (repeat apply sq_); apply er_; simp only [go_sem, f1, f2, hk0, hw0, f58, f59]
     (repeat apply sq_); refine D4 (by rfl) (fun hc => ?_) fun hc => ?_
     ·refine E6 ?_; try simp only [go_sem, f1, f2, hk0, hw0, f58, f59]
      (repeat apply sq_); refine U8 ?_
      (repeat apply sq_); apply er_; simp only [go_sem, f1, f2, hk0, hw0, f58, f59, hk4, hw4]
      obtain ⟨f101, h⟩ := G1 h
      have e102 : (rows U2 t3).getD k0 [] = U2 (get t3 k0) := vn (E := U2) (l := t3) (k := k0) (by first | omega | (simp; omega))
      have e103 : k0 < t3.length := by first | omega | (simp; omega)
      obtain ⟨f104, h⟩ := G1 h
      (repeat apply sq_); apply er_; simp only [go_sem, f1, f2, hk0, hw0, f58, f59, hk4, hw4, f101, f104, e102, e103]
      (repeat apply sq_); refine D4 (by rfl) (fun hc => ?_) fun hc => ?_
      ·replace h := B0 h (by first | exact hc | simpa using hc)
       obtain ⟨f105, h⟩ := G1 h
       have e106 : (rows U2 s4).getD k4 [] = U2 (get s4 k4) := vn (E := U2) (l := s4) (k := k4) (by first | omega | (simp; omega))
       have e107 : k4 < s4.length := by first | omega | (simp; omega)
       have e108 : (rows U2 s4).getD k4 [] = U2 (get s4 k4) := vn (E := U2) (l := s4) (k := k4) (by first | omega | (simp; omega))
       have e109 : k4 < s4.length := by first | omega | (simp; omega)
       obtain ⟨c110, GJ, h⟩ := lD h
       have e111 : (rows U2 s4).set k4 [.int .u64 (M1 .or .u64 (get s4 k4) (wr .u64 (1 * 2 ^ (min k0 64))))] = rows U2 c110 := by rw [GJ]; first | exact Ey (E := U2) _ _ _ | simp only [go_sem, rows, List.map_set]
       (repeat apply sq_); refine ak [] 0 follows (by kernel_rfl) (by rfl) ?_; simp only [go_sem, List.replicate_succ, List.replicate_zero, f1, f2, hk0, hw0, f58, f59, hk4, hw4, f101, f104, f105, e106, e107, e108, e109, e111]
       have e112 : D.ref true (st.length + 2) gs4 0 s4.length = D.ref true (st.length + 2) gs4 0 c110.length := by simp [GJ]
       simp only [e112]
       (repeat apply sq_); apply er_; simp only [go_sem, f1, f2, hk0, hw0, f58, f59, hk4, hw4, f101, f104, f105]
       cases h
       exact bK gs4 (G0 hsc (.lv (.lv (.lv (.lv (.nil _))))) (by simp) ⟨.s, .s, .s, .s, .s, .s, .s, .s, .s, trivial⟩ (by simp))
      ·replace h := B1 h (by first | exact hc | simpa using hc)
       refine E6 ?_; try simp only [go_sem, f1, f2, hk0, hw0, f58, f59, hk4, hw4, f101, f104]
       (repeat apply sq_); apply er_; simp only [go_sem, f1, f2, hk0, hw0, f58, f59, hk4, hw4, f101, f104]
       cases h
       exact bK gs4 (G0 hsc (.lv (.lv (.lv (.lv (.nil _))))) (by simp) ⟨.s, .s, .s, .s, .s, .s, .s, .s, .s, trivial⟩ (by simp))
     ·exfalso; have hc := of_decide_eq_false hc; omega
    ·(repeat apply sq_); apply er_; simp only [go_sem, f1, f2, hk0, hw0, f58, f59]
     (repeat apply sq_); refine D4 (by rfl) (fun hc => ?_) fun hc => ?_
     ·exfalso; first | exact Bool.noConfusion hc | (have hc := of_decide_eq_true hc; omega)
     ·refine Y2 ?_; simp only [go_sem, f1, f2, hk0, hw0, f58, f59]
      exact ⟨gs4, (G0 hsc (.lv (.lv (.lv (.lv (.nil _))))) (by simp) ⟨.s, .s, .s, .s, .s, .s, trivial⟩ (by simp))⟩
    ·try simp only [go_sem, f1, f2, hk0, hw0, f58, f59]
     unfold ay at h
     refine L6 hb ?_
     (repeat apply sq_); apply er_; simp only [go_sem, f1, f2, hk0, hw0, f58, f59]
     cases h
     exact bK (gt3, gt4) (G0 hsc (.lv (.lv (.lv (.lv (.nil _))))) (by simp) ⟨.s, .s, .s, .s, .s, .s, trivial⟩ (by simp))
  ·exfalso; have hc := of_decide_eq_false hc; omega
 ·(repeat apply sq_); apply er_; simp only [go_sem, f1, f2]
  (repeat apply sq_); refine D4 (by rfl) (fun hc => ?_) fun hc => ?_
  ·exfalso; first | exact Bool.noConfusion hc | (have hc := of_decide_eq_true hc; omega)
  ·refine Y2 ?_; simp only [go_sem, f1, f2]
   exact ⟨(gs0.1, gs0.2), (G0 hsc (.lv (.lv (.lv (.lv (.nil _))))) (by simp) ⟨.s, .s, trivial⟩ (by simp))⟩
 ·try simp only [go_sem, f1, f2]
  unfold aC at h
  refine L6 hb ?_
  (repeat apply sq_); apply er_; simp only [go_sem, f1, f2]
  (repeat apply sq_); refine E3 ?_
  try simp only [go_sem, f1, f2]
  have hr := Option.some.inj h
  refine E4 ?_; simp only [go_sem, f1, f2]
  exact y3 (d' := .agg [.sl false 1 8 (rows U2 t0.1), .sl false 1 8 (rows U2 t0.2)]) hsc (.agg _ _ (.cons _ _ _ _ (.ref _ _ _ _ _ _ _ _ _ (dH.trans rfl) oD (by decide) (kB _) (by simp only [go_sem])) (.cons _ _ _ _ (.ref _ _ _ _ _ _ _ _ _ (dH.trans rfl) oD (by decide) (kB _) (by simp only [go_sem])) .nil))) (by simp) ⟨by subst hr; rfl, rfl⟩
end Go.Proofs.YtaohdfpcdfbnlaaGreatDoor
