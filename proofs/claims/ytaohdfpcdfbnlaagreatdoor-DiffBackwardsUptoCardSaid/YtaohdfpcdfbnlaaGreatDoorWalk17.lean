import Derived.Test.YtaohdfpcdfbnlaaGreatDoorBase
import Derived.Test.YtaohdfpcdfbnlaaGreatDoorHand
import Derived.Test.YtaohdfpcdfbnlaaGreatDoorMirrors
import Derived.Test.YtaohdfpcdfbnlaaGreatDoorWalk10
set_option linter.unusedVariables false
set_option linter.unusedSimpArgs false
set_option maxHeartbeats 2000000
set_option maxRecDepth 100000
namespace Go.Proofs.YtaohdfpcdfbnlaaGreatDoor
open Go Go.Am
theorem iD (a0 : (List w7)) (a1 : (List w7)) (r : Bool) (h : aW a0 a1 = some r) : Pure Tryz.prog gl 62 [.sl false 2 40 (rows w7.cells a0), .sl false 2 40 (rows w7.cells a1)] (.bool r) := by
 intro st
 unfold aW at h
 refine O4 (N := 42) (rs := [.tmp 4]) (keep := [0, 1, 4, 5, 10, 12, 13, 14, 28, 29, 30, 31, 32, 33, 34, 35, 36, 37, 38, 39, 40]) Tryz.func62 rfl rfl rfl (by kernel_rfl) rfl fun hsc => ?_
 (repeat apply sq_); apply er_; simp only [go_sem]
 (repeat apply sq_); apply er_; simp only [go_sem]
 (repeat apply sq_); refine D4 (by rfl) (fun hc => ?_) fun hc => ?_
 ·replace h := B0 h (by first | exact hc | simpa using hc)
  (repeat apply sq_); apply er_; simp only [go_sem]
  (repeat apply sq_); refine E3 ?_
  try simp only [go_sem]
  have hr := Option.some.inj h
  refine E4 ?_; simp only [go_sem]
  exact B9 (d' := .bool false) hsc (.same _) (by simp) ⟨by subst hr; rfl, rfl⟩
 ·replace h := B1 h (by first | exact hc | simpa using hc)
  refine E6 ?_; try simp only [go_sem]
  (repeat apply sq_); apply er_; simp only [go_sem]
  (repeat apply sq_); refine fG (t := 0) rfl fun hl0 => ?_
  simp only [eF] at hl0
  (repeat apply sq_); refine arg_ (body := W8 a1 a0) (kk := W9) (n := a0.length) (s0 := ())
   (fun (gs0 : Unit) (k0 : Nat) (s0 : Unit) => [(0, .sl false 2 40 (rows w7.cells a0)), (1, .sl false 2 40 (rows w7.cells a1)), (12, .int .i64 (↑a0.length : Int)), (13, .int .i64 (↑k0 : Int))])
   (fun (gs0 : Unit) (k0 : Nat) (s0 : Unit) => st)
   (fun (gt0 : Unit) (t0 : Unit) => [])
   (fun (gt0 : Unit) (t0 : Unit) => st)
   () h (D9 hsc ⟨.s, .s, .s, .s, trivial⟩ (by simp))
   (fun gs0 k0 s0 b0 hk0 h hx0 => ?_) (fun gs0 s0 => ?_) (fun gt0 t0 fr1 st1 h hb => ?_)
  ·unfold W8 at h
   have hw0 : wr .i64 ((↑k0 : Int) + 1) = (↑(k0 + 1) : Int) := gy hk0 hl0 (by decide)
   (repeat apply sq_); apply er_; simp only [go_sem]
   (repeat apply sq_); refine D4 (by rfl) (fun hc => ?_) fun hc => ?_
   ·refine E6 ?_; try simp only [go_sem]
    (repeat apply sq_); refine U8 ?_
    (repeat apply sq_); apply er_; simp only [go_sem, hk0, hw0]
    obtain ⟨f3, h⟩ := G1 h
    (repeat apply sq_); refine ak [] 0 follows (by kernel_rfl) (by rfl) ?_; simp only [go_sem, List.replicate_succ, List.replicate_zero, hk0, hw0, f3]
    obtain ⟨v4, hv4, h⟩ := C6 h
    refine Y3 (fun hG => (eW _ _ _ (iu hv4 (by simpa using hG)))) ?_
    try simp only [go_sem, hk0, hw0, f3]
    (repeat apply sq_); refine D4 (by rfl) (fun hc => ?_) fun hc => ?_
    ·replace h := B0 h (by first | exact hc | simpa using hc)
     (repeat apply sq_); apply er_; simp only [go_sem, hk0, hw0, f3]
     (repeat apply sq_); refine E3 ?_
     try simp only [go_sem, hk0, hw0, f3]
     obtain rfl := Option.some.inj h
     refine F9 ?_; have hr := hx0 _ rfl; try simp only [go_sem, hk0, hw0, f3]
     refine E4 ?_; simp only [go_sem, hk0, hw0, f3]
     exact B9 (d' := .bool false) hsc (.same _) (by simp) ⟨by subst hr; rfl, rfl⟩
    ·replace h := B1 h (by first | exact hc | simpa using hc)
     refine E6 ?_; try simp only [go_sem, hk0, hw0, f3]
     (repeat apply sq_); apply er_; simp only [go_sem, hk0, hw0, f3]
     cases h
     exact bK () (D9 hsc ⟨.s, .s, .s, .s, trivial⟩ (by simp))
   ·exfalso; have hc := of_decide_eq_false hc; omega
  ·(repeat apply sq_); apply er_; simp only [go_sem]
   (repeat apply sq_); refine D4 (by rfl) (fun hc => ?_) fun hc => ?_
   ·exfalso; first | exact Bool.noConfusion hc | (have hc := of_decide_eq_true hc; omega)
   ·refine Y2 ?_; simp only [go_sem]
    exact ⟨(), (D9 hsc trivial (by simp))⟩
  ·try simp only [go_sem]
   unfold W9 at h
   refine L6 hb ?_
   (repeat apply sq_); apply er_; simp only [go_sem]
   (repeat apply sq_); refine E3 ?_
   try simp only [go_sem]
   have hr := Option.some.inj h
   refine E4 ?_; simp only [go_sem]
   exact B9 (d' := .bool true) hsc (.same _) (by simp) ⟨by subst hr; rfl, rfl⟩
theorem eE (a0 : w4) (a1 : w4) (r : Bool) (h : R5 a0 a1 = some r) : Pure Tryz.prog gl 38 [.agg [.sl false 2 40 (rows w7.cells a0.types), .sl false 3 32 (rows x9.cells a0.C9)], .agg [.sl false 2 40 (rows w7.cells a1.types), .sl false 3 32 (rows x9.cells a1.C9)]] (.bool r) := by
 intro st
 unfold R5 at h
 refine O4 (N := 17) (rs := [.tmp 4]) (keep := [0, 1, 2, 3, 4, 11, 12, 13, 14, 15]) Tryz.func38 rfl rfl rfl (by kernel_rfl) rfl fun hsc => ?_
 (repeat apply sq_); apply er_; simp only [go_sem]
 (repeat apply sq_); apply er_; simp only [go_sem]
 obtain ⟨v1, hv1, h⟩ := C6 h
 refine ((iD _ _ _ hv1)).to ?_
 try simp only [go_sem]
 obtain ⟨v2, hv2, h⟩ := C6 h
 refine M6 (fun hG => (aL _ _ _ (iu hv2 (by simpa using hG)))) ?_
 try simp only [go_sem]
 (repeat apply sq_); refine E3 ?_
 try simp only [go_sem]
 have hr := Option.some.inj h
 refine E4 ?_; simp only [go_sem]
 exact y3 (d' := .bool (bif v1 then v2 else false)) hsc (.same _) (by simp) ⟨by subst hr; rfl, rfl⟩
theorem X9 (a0 : y5) (a1 : y5) (r : Bool) (h : N2 a0 a1 = some r) : Pure Tryz.prog gl 41 [.agg [.sl false 2 32 (rows w8.cells a0.nodes)], .agg [.sl false 2 32 (rows w8.cells a1.nodes)]] (.bool r) := by
 intro st
 unfold N2 at h
 refine O4 (N := 49) (rs := [.tmp 4]) (keep := [0, 1, 2, 3, 4, 5, 12, 15, 16, 17, 33, 34, 35, 36, 37, 38, 39, 40, 41, 42, 43, 44, 45, 46, 47]) Tryz.func41 rfl rfl rfl (by kernel_rfl) rfl fun hsc => ?_
 (repeat apply sq_); apply er_; simp only [go_sem]
 (repeat apply sq_); apply er_; simp only [go_sem]
 (repeat apply sq_); refine D4 (by rfl) (fun hc => ?_) fun hc => ?_
 ·replace h := B0 h (by first | exact hc | simpa using hc)
  (repeat apply sq_); apply er_; simp only [go_sem]
  (repeat apply sq_); refine E3 ?_
  try simp only [go_sem]
  have hr := Option.some.inj h
  refine E4 ?_; simp only [go_sem]
  exact y3 (d' := .bool false) hsc (.same _) (by simp) ⟨by subst hr; rfl, rfl⟩
 ·replace h := B1 h (by first | exact hc | simpa using hc)
  refine E6 ?_; try simp only [go_sem]
  (repeat apply sq_); apply er_; simp only [go_sem]
  obtain ⟨f1, h⟩ := G1 h
  (repeat apply sq_); refine arg_ (body := X0 a1 a0) (kk := X1) (n := a0.nodes.length) (s0 := ())
   (fun (gs0 : Unit) (k0 : Nat) (s0 : Unit) => [(2, .ptr st.length 0 0 0), (3, .ptr (st.length + 1) 0 0 0), (15, .int .i64 (↑a0.nodes.length : Int)), (16, .int .i64 (↑k0 : Int))])
   (fun (gs0 : Unit) (k0 : Nat) (s0 : Unit) => st ++ [some (.arr 0 1 0 [[.sl false 2 32 (rows w8.cells a0.nodes)]]), some (.arr 0 1 0 [[.sl false 2 32 (rows w8.cells a1.nodes)]])])
   (fun (gt0 : Unit) (t0 : Unit) => [])
   (fun (gt0 : Unit) (t0 : Unit) => st)
   () h (G0 hsc (.lv (.lv (.nil _))) (by simp) ⟨.s, .s, .s, .s, trivial⟩ (by simp))
   (fun gs0 k0 s0 b0 hk0 h hx0 => ?_) (fun gs0 s0 => ?_) (fun gt0 t0 fr1 st1 h hb => ?_)
  ·unfold X0 at h
   have hw0 : wr .i64 ((↑k0 : Int) + 1) = (↑(k0 + 1) : Int) := nY hk0 f1
   (repeat apply sq_); apply er_; simp only [go_sem, f1]
   (repeat apply sq_); refine D4 (by rfl) (fun hc => ?_) fun hc => ?_
   ·refine E6 ?_; try simp only [go_sem, f1]
    (repeat apply sq_); refine U8 ?_
    (repeat apply sq_); apply er_; simp only [go_sem, f1, hk0, hw0]
    obtain ⟨f4, h⟩ := G1 h
    (repeat apply sq_); refine ak [] 0 follows (by kernel_rfl) (by rfl) ?_; simp only [go_sem, List.replicate_succ, List.replicate_zero, f1, hk0, hw0, f4]
    obtain ⟨v5, hv5, h⟩ := C6 h
    refine Y3 (fun hG => (aM _ _ _ (iu hv5 (by simpa using hG)))) ?_
    try simp only [go_sem, f1, hk0, hw0, f4]
    (repeat apply sq_); refine D4 (by rfl) (fun hc => ?_) fun hc => ?_
    ·replace h := B0 h (by first | exact hc | simpa using hc)
     (repeat apply sq_); apply er_; simp only [go_sem, f1, hk0, hw0, f4]
     (repeat apply sq_); refine E3 ?_
     try simp only [go_sem, f1, hk0, hw0, f4]
     obtain rfl := Option.some.inj h
     refine F9 ?_; have hr := hx0 _ rfl; try simp only [go_sem, f1, hk0, hw0, f4]
     refine E4 ?_; simp only [go_sem, f1, hk0, hw0, f4]
     exact y3 (d' := .bool false) hsc (.same _) (by simp) ⟨by subst hr; rfl, rfl⟩
    ·replace h := B1 h (by first | exact hc | simpa using hc)
     refine E6 ?_; try simp only [go_sem, f1, hk0, hw0, f4]
     (repeat apply sq_); apply er_; simp only [go_sem, f1, hk0, hw0, f4]
     cases h
     exact bK () (G0 hsc (.lv (.lv (.nil _))) (by simp) ⟨.s, .s, .s, .s, trivial⟩ (by simp))
   ·exfalso; have hc := of_decide_eq_false hc; omega
  ·(repeat apply sq_); apply er_; simp only [go_sem, f1]
   (repeat apply sq_); refine D4 (by rfl) (fun hc => ?_) fun hc => ?_
   ·exfalso; first | exact Bool.noConfusion hc | (have hc := of_decide_eq_true hc; omega)
   ·refine Y2 ?_; simp only [go_sem, f1]
    exact ⟨(), (aO hsc trivial (by simp))⟩
  ·try simp only [go_sem, f1]
   unfold X1 at h
   refine L6 hb ?_
   (repeat apply sq_); apply er_; simp only [go_sem, f1]
   (repeat apply sq_); refine E3 ?_
   try simp only [go_sem, f1]
   have hr := Option.some.inj h
   refine E4 ?_; simp only [go_sem, f1]
   exact B9 (d' := .bool true) hsc (.same _) (by simp) ⟨by subst hr; rfl, rfl⟩
theorem eU : ∀ (n : Nat) (a0 : u0) (a1 : u0) (r : Bool) (h : K0 n a0 a1 = some r), Pure Tryz.prog gl 78 [.agg [.str a0.base, .sl false 2 40 (rows u0.cells a0.args)], .agg [.str a1.base, .sl false 2 40 (rows u0.cells a1.args)]] (.bool r) := by
 intro n
 induction n with
 | zero => intro a0 a1 r h; cases h
 | succ n ih =>
  intro a0 a1 r h st
  unfold K0 at h
  refine O4 (N := 39) (rs := [.tmp 4]) (keep := [0, 1, 2, 3, 4, 5, 12, 13, 14, 15, 16, 17, 18, 19, 22, 23, 24, 37]) Tryz.func78 rfl rfl rfl (by kernel_rfl) rfl fun hsc => ?_
  (repeat apply sq_); apply er_; simp only [go_sem]
  (repeat apply sq_); apply er_; simp only [go_sem]
  (repeat apply sq_); refine D4 (by rfl) (fun hc => ?_) fun hc => ?_
  ·replace h := B0 h (by first | exact hc | simpa using hc)
   (repeat apply sq_); apply er_; simp only [go_sem]
   (repeat apply sq_); refine E3 ?_
   try simp only [go_sem]
   have hr := Option.some.inj h
   refine E4 ?_; simp only [go_sem]
   exact y3 (d' := .bool false) hsc (.same _) (by simp) ⟨by subst hr; rfl, rfl⟩
  ·replace h := B1 h (by first | exact hc | simpa using hc)
   refine E6 ?_; try simp only [go_sem]
   (repeat apply sq_); apply er_; simp only [go_sem]
   obtain ⟨f1, h⟩ := G1 h
   (repeat apply sq_); refine arg_ (body := N7 (K0 n) a1 a0) (kk := N8) (n := a0.args.length) (s0 := ())
    (fun (gs0 : Unit) (k0 : Nat) (s0 : Unit) => [(2, .ptr st.length 0 0 0), (3, .ptr (st.length + 1) 0 0 0), (22, .int .i64 (↑a0.args.length : Int)), (23, .int .i64 (↑k0 : Int))])
    (fun (gs0 : Unit) (k0 : Nat) (s0 : Unit) => st ++ [some (.arr 0 2 0 [[.str a0.base, .sl false 2 40 (rows u0.cells a0.args)]]), some (.arr 0 2 0 [[.str a1.base, .sl false 2 40 (rows u0.cells a1.args)]])])
    (fun (gt0 : Unit) (t0 : Unit) => [])
    (fun (gt0 : Unit) (t0 : Unit) => st)
    () h (G0 hsc (.lv (.lv (.nil _))) (by simp) ⟨.s, .s, .s, .s, trivial⟩ (by simp))
    (fun gs0 k0 s0 b0 hk0 h hx0 => ?_) (fun gs0 s0 => ?_) (fun gt0 t0 fr1 st1 h hb => ?_)
   ·unfold N7 at h
    have hw0 : wr .i64 ((↑k0 : Int) + 1) = (↑(k0 + 1) : Int) := nY hk0 f1
    (repeat apply sq_); apply er_; simp only [go_sem, f1]
    (repeat apply sq_); refine D4 (by rfl) (fun hc => ?_) fun hc => ?_
    ·refine E6 ?_; try simp only [go_sem, f1]
     (repeat apply sq_); refine U8 ?_
     (repeat apply sq_); apply er_; simp only [go_sem, f1, hk0, hw0]
     obtain ⟨f2, h⟩ := G1 h
     (repeat apply sq_); refine ak [] 0 follows (by kernel_rfl) (by rfl) ?_; simp only [go_sem, List.replicate_succ, List.replicate_zero, f1, hk0, hw0, f2]
     obtain ⟨v3, hv3, h⟩ := C6 h
     refine A0 (ih _ _ _ hv3) ?_
     try simp only [go_sem, f1, hk0, hw0, f2]
     (repeat apply sq_); refine D4 (by rfl) (fun hc => ?_) fun hc => ?_
     ·replace h := B0 h (by first | exact hc | simpa using hc)
      (repeat apply sq_); apply er_; simp only [go_sem, f1, hk0, hw0, f2]
      (repeat apply sq_); refine E3 ?_
      try simp only [go_sem, f1, hk0, hw0, f2]
      obtain rfl := Option.some.inj h
      refine F9 ?_; have hr := hx0 _ rfl; try simp only [go_sem, f1, hk0, hw0, f2]
      refine E4 ?_; simp only [go_sem, f1, hk0, hw0, f2]
      exact y3 (d' := .bool false) hsc (.same _) (by simp) ⟨by subst hr; rfl, rfl⟩
     ·replace h := B1 h (by first | exact hc | simpa using hc)
      refine E6 ?_; try simp only [go_sem, f1, hk0, hw0, f2]
      (repeat apply sq_); apply er_; simp only [go_sem, f1, hk0, hw0, f2]
      cases h
      exact bK () (G0 hsc (.lv (.lv (.nil _))) (by simp) ⟨.s, .s, .s, .s, trivial⟩ (by simp))
    ·exfalso; have hc := of_decide_eq_false hc; omega
   ·(repeat apply sq_); apply er_; simp only [go_sem, f1]
    (repeat apply sq_); refine D4 (by rfl) (fun hc => ?_) fun hc => ?_
    ·exfalso; first | exact Bool.noConfusion hc | (have hc := of_decide_eq_true hc; omega)
    ·refine Y2 ?_; simp only [go_sem, f1]
     exact ⟨(), (aO hsc trivial (by simp))⟩
   ·try simp only [go_sem, f1]
    unfold N8 at h
    refine L6 hb ?_
    (repeat apply sq_); apply er_; simp only [go_sem, f1]
    (repeat apply sq_); refine E3 ?_
    try simp only [go_sem, f1]
    have hr := Option.some.inj h
    refine E4 ?_; simp only [go_sem, f1]
    exact B9 (d' := .bool true) hsc (.same _) (by simp) ⟨by subst hr; rfl, rfl⟩
theorem bg : ∀ (n : Nat) (a0 : w5) (a1 : w5) (r : Bool) (h : J4 n a0 a1 = some r), Pure Tryz.prog gl 63 [.agg [.int .i64 a0.kind, .str a0.name, .int .i64 a0.index, .str a0.type.base, .sl false 2 40 (rows u0.cells a0.type.args), .sl false 6 96 (rows w5.cells a0.args)], .agg [.int .i64 a1.kind, .str a1.name, .int .i64 a1.index, .str a1.type.base, .sl false 2 40 (rows u0.cells a1.type.args), .sl false 6 96 (rows w5.cells a1.args)]] (.bool r) := by
 intro n
 induction n with
 | zero => intro a0 a1 r h; cases h
 | succ n ih =>
  intro a0 a1 r h st
  unfold J4 at h
  refine O4 (N := 61) (rs := [.tmp 4]) (keep := [0, 1, 2, 3, 4, 5, 12, 13, 14, 15, 16, 19, 20, 21, 22, 23, 26, 27, 28, 29, 30, 31, 34, 35, 36, 37, 38, 39, 40, 41, 44, 45, 46, 59]) Tryz.func63 rfl rfl rfl (by kernel_rfl) rfl fun hsc => ?_
  (repeat apply sq_); apply er_; simp only [go_sem]
  (repeat apply sq_); apply er_; simp only [go_sem]
  obtain ⟨v1, hv1, h⟩ := C6 h
  refine M6 (fun hG => (eU n _ _ _ (iu hv1 (by simpa using hG)))) ?_
  try simp only [go_sem]
  (repeat apply sq_); refine D4 (by rfl) (fun hc => ?_) fun hc => ?_
  ·replace h := B0 h (by first | exact hc | simpa using hc)
   (repeat apply sq_); apply er_; simp only [go_sem]
   (repeat apply sq_); refine E3 ?_
   try simp only [go_sem]
   have hr := Option.some.inj h
   refine E4 ?_; simp only [go_sem]
   exact y3 (d' := .bool false) hsc (.same _) (by simp) ⟨by subst hr; rfl, rfl⟩
  ·replace h := B1 h (by first | exact hc | simpa using hc)
   refine E6 ?_; try simp only [go_sem]
   (repeat apply sq_); apply er_; simp only [go_sem]
   obtain ⟨f2, h⟩ := G1 h
   (repeat apply sq_); refine arg_ (body := R6 (J4 n) a1 a0) (kk := R7) (n := a0.args.length) (s0 := ())
    (fun (gs0 : Unit) (k0 : Nat) (s0 : Unit) => [(2, .ptr st.length 0 0 0), (3, .ptr (st.length + 1) 0 0 0), (44, .int .i64 (↑a0.args.length : Int)), (45, .int .i64 (↑k0 : Int))])
    (fun (gs0 : Unit) (k0 : Nat) (s0 : Unit) => st ++ [some (.arr 0 6 0 [[.int .i64 a0.kind, .str a0.name, .int .i64 a0.index, .str a0.type.base, .sl false 2 40 (rows u0.cells a0.type.args), .sl false 6 96 (rows w5.cells a0.args)]]), some (.arr 0 6 0 [[.int .i64 a1.kind, .str a1.name, .int .i64 a1.index, .str a1.type.base, .sl false 2 40 (rows u0.cells a1.type.args), .sl false 6 96 (rows w5.cells a1.args)]])])
    (fun (gt0 : Unit) (t0 : Unit) => [])
    (fun (gt0 : Unit) (t0 : Unit) => st)
    () h (G0 hsc (.lv (.lv (.nil _))) (by simp) ⟨.s, .s, .s, .s, trivial⟩ (by simp))
    (fun gs0 k0 s0 b0 hk0 h hx0 => ?_) (fun gs0 s0 => ?_) (fun gt0 t0 fr1 st1 h hb => ?_)
   ·unfold R6 at h
    have hw0 : wr .i64 ((↑k0 : Int) + 1) = (↑(k0 + 1) : Int) := nY hk0 f2
    (repeat apply sq_); apply er_; simp only [go_sem, f2]
    (repeat apply sq_); refine D4 (by rfl) (fun hc => ?_) fun hc => ?_
    ·refine E6 ?_; try simp only [go_sem, f2]
     (repeat apply sq_); refine U8 ?_
     (repeat apply sq_); apply er_; simp only [go_sem, f2, hk0, hw0]
     obtain ⟨f3, h⟩ := G1 h
     (repeat apply sq_); refine ak [] 0 follows (by kernel_rfl) (by rfl) ?_; simp only [go_sem, List.replicate_succ, List.replicate_zero, f2, hk0, hw0, f3]
     obtain ⟨v4, hv4, h⟩ := C6 h
     refine A0 (ih _ _ _ hv4) ?_
     try simp only [go_sem, f2, hk0, hw0, f3]
     (repeat apply sq_); refine D4 (by rfl) (fun hc => ?_) fun hc => ?_
     ·replace h := B0 h (by first | exact hc | simpa using hc)
      (repeat apply sq_); apply er_; simp only [go_sem, f2, hk0, hw0, f3]
      (repeat apply sq_); refine E3 ?_
      try simp only [go_sem, f2, hk0, hw0, f3]
      obtain rfl := Option.some.inj h
      refine F9 ?_; have hr := hx0 _ rfl; try simp only [go_sem, f2, hk0, hw0, f3]
      refine E4 ?_; simp only [go_sem, f2, hk0, hw0, f3]
      exact y3 (d' := .bool false) hsc (.same _) (by simp) ⟨by subst hr; rfl, rfl⟩
     ·replace h := B1 h (by first | exact hc | simpa using hc)
      refine E6 ?_; try simp only [go_sem, f2, hk0, hw0, f3]
      (repeat apply sq_); apply er_; simp only [go_sem, f2, hk0, hw0, f3]
      cases h
      exact bK () (G0 hsc (.lv (.lv (.nil _))) (by simp) ⟨.s, .s, .s, .s, trivial⟩ (by simp))
    ·exfalso; have hc := of_decide_eq_false hc; omega
   ·(repeat apply sq_); apply er_; simp only [go_sem, f2]
    (repeat apply sq_); refine D4 (by rfl) (fun hc => ?_) fun hc => ?_
    ·exfalso; first | exact Bool.noConfusion hc | (have hc := of_decide_eq_true hc; omega)
    ·refine Y2 ?_; simp only [go_sem, f2]
     exact ⟨(), (aO hsc trivial (by simp))⟩
   ·try simp only [go_sem, f2]
    unfold R7 at h
    refine L6 hb ?_
    (repeat apply sq_); apply er_; simp only [go_sem, f2]
    (repeat apply sq_); refine E3 ?_
    try simp only [go_sem, f2]
    have hr := Option.some.inj h
    refine E4 ?_; simp only [go_sem, f2]
    exact B9 (d' := .bool true) hsc (.same _) (by simp) ⟨by subst hr; rfl, rfl⟩
theorem iE (n : Nat) (a0 : (List u6)) (a1 : (List u6)) (r : Bool) (h : aX n a0 a1 = some r) : Pure Tryz.prog gl 39 [.sl false 10 152 (rows u6.cells a0), .sl false 10 152 (rows u6.cells a1)] (.bool r) := by
 intro st
 unfold aX at h
 refine O4 (N := 62) (rs := [.tmp 4]) (keep := [0, 1, 4, 5, 6, 7, 12, 14, 15, 16, 32, 33, 34, 35, 36, 39, 40, 41, 42, 43, 46, 47, 48, 49, 50, 51, 54, 55, 56, 57, 58, 59, 60]) Tryz.func39 rfl rfl rfl (by kernel_rfl) rfl fun hsc => ?_
 (repeat apply sq_); apply er_; simp only [go_sem]
 (repeat apply sq_); apply er_; simp only [go_sem]
 (repeat apply sq_); refine D4 (by rfl) (fun hc => ?_) fun hc => ?_
 ·replace h := B0 h (by first | exact hc | simpa using hc)
  (repeat apply sq_); apply er_; simp only [go_sem]
  (repeat apply sq_); refine E3 ?_
  try simp only [go_sem]
  have hr := Option.some.inj h
  refine E4 ?_; simp only [go_sem]
  exact B9 (d' := .bool false) hsc (.same _) (by simp) ⟨by subst hr; rfl, rfl⟩
 ·replace h := B1 h (by first | exact hc | simpa using hc)
  refine E6 ?_; try simp only [go_sem]
  (repeat apply sq_); apply er_; simp only [go_sem]
  (repeat apply sq_); refine fG (t := 0) rfl fun hl0 => ?_
  simp only [eF] at hl0
  (repeat apply sq_); refine arg_ (body := X2 n a1 a0) (kk := X3) (n := a0.length) (s0 := ())
   (fun (gs0 : Unit) (k0 : Nat) (s0 : Unit) => [(0, .sl false 10 152 (rows u6.cells a0)), (1, .sl false 10 152 (rows u6.cells a1)), (14, .int .i64 (↑a0.length : Int)), (15, .int .i64 (↑k0 : Int))])
   (fun (gs0 : Unit) (k0 : Nat) (s0 : Unit) => st)
   (fun (gt0 : Unit) (t0 : Unit) => [])
   (fun (gt0 : Unit) (t0 : Unit) => st)
   () h (D9 hsc ⟨.s, .s, .s, .s, trivial⟩ (by simp))
   (fun gs0 k0 s0 b0 hk0 h hx0 => ?_) (fun gs0 s0 => ?_) (fun gt0 t0 fr1 st1 h hb => ?_)
  ·unfold X2 at h
   have hw0 : wr .i64 ((↑k0 : Int) + 1) = (↑(k0 + 1) : Int) := gy hk0 hl0 (by decide)
   (repeat apply sq_); apply er_; simp only [go_sem]
   (repeat apply sq_); refine D4 (by rfl) (fun hc => ?_) fun hc => ?_
   ·refine E6 ?_; try simp only [go_sem]
    (repeat apply sq_); refine U8 ?_
    (repeat apply sq_); apply er_; simp only [go_sem, hk0, hw0]
    obtain ⟨f4, h⟩ := G1 h
    (repeat apply sq_); refine ak [6, 7, 10] 2 follows (by kernel_rfl) (by rfl) ?_; simp only [go_sem, List.replicate_succ, List.replicate_zero, hk0, hw0, f4]
    try refine ⟨by (simp <;> omega), ?_⟩
    (repeat apply sq_); apply er_; simp only [go_sem, hk0, hw0, f4]
    obtain ⟨v5, hv5, h⟩ := C6 h
    refine M6 (fun hG => (X9 _ _ _ (iu hv5 (by simpa using hG)))) ?_
    try simp only [go_sem, hk0, hw0, f4]
    obtain ⟨v6, hv6, h⟩ := C6 h
    refine M6 (fun hG => (bg n _ _ _ (iu hv6 (by simpa using hG)))) ?_
    try simp only [go_sem, hk0, hw0, f4]
    (repeat apply sq_); refine D4 (by rfl) (fun hc => ?_) fun hc => ?_
    ·replace h := B0 h (by first | exact hc | simpa using hc)
     (repeat apply sq_); apply er_; simp only [go_sem, hk0, hw0, f4]
     (repeat apply sq_); refine E3 ?_
     try simp only [go_sem, hk0, hw0, f4]
     obtain rfl := Option.some.inj h
     refine F9 ?_; have hr := hx0 _ rfl; try simp only [go_sem, hk0, hw0, f4]
     refine E4 ?_; simp only [go_sem, hk0, hw0, f4]
     exact y3 (d' := .bool false) hsc (.same _) (by simp) ⟨by subst hr; rfl, rfl⟩
    ·replace h := B1 h (by first | exact hc | simpa using hc)
     refine E6 ?_; try simp only [go_sem, hk0, hw0, f4]
     (repeat apply sq_); apply er_; simp only [go_sem, hk0, hw0, f4]
     cases h
     exact bK () (aO hsc ⟨.s, .s, .s, .s, trivial⟩ (by simp))
   ·exfalso; have hc := of_decide_eq_false hc; omega
  ·(repeat apply sq_); apply er_; simp only [go_sem]
   (repeat apply sq_); refine D4 (by rfl) (fun hc => ?_) fun hc => ?_
   ·exfalso; first | exact Bool.noConfusion hc | (have hc := of_decide_eq_true hc; omega)
   ·refine Y2 ?_; simp only [go_sem]
    exact ⟨(), (D9 hsc trivial (by simp))⟩
  ·try simp only [go_sem]
   unfold X3 at h
   refine L6 hb ?_
   (repeat apply sq_); apply er_; simp only [go_sem]
   (repeat apply sq_); refine E3 ?_
   try simp only [go_sem]
   have hr := Option.some.inj h
   refine E4 ?_; simp only [go_sem]
   exact B9 (d' := .bool true) hsc (.same _) (by simp) ⟨by subst hr; rfl, rfl⟩
theorem jj (n : Nat) (a0 : w9) (a1 : w9) (r : Bool) (h : cG n a0 a1 = some r) : Pure Tryz.prog gl 64 [.agg [.str a0.word, .sl false 2 32 (rows w8.cells a0.graph.nodes), .int .i64 a0.weight, .int .i64 a0.meaning.kind, .str a0.meaning.name, .int .i64 a0.meaning.index, .str a0.meaning.type.base, .sl false 2 40 (rows u0.cells a0.meaning.type.args), .sl false 6 96 (rows w5.cells a0.meaning.args)], .agg [.str a1.word, .sl false 2 32 (rows w8.cells a1.graph.nodes), .int .i64 a1.weight, .int .i64 a1.meaning.kind, .str a1.meaning.name, .int .i64 a1.meaning.index, .str a1.meaning.type.base, .sl false 2 40 (rows u0.cells a1.meaning.type.args), .sl false 6 96 (rows w5.cells a1.meaning.args)]] (.bool r) := by
 intro st
 unfold cG at h
 refine O4 (N := 31) (rs := [.tmp 4]) (keep := [0, 1, 2, 3, 4, 11, 12, 13, 14, 15, 18, 19, 20, 21, 22, 25, 26, 27, 28, 29]) Tryz.func64 rfl rfl rfl (by kernel_rfl) rfl fun hsc => ?_
 (repeat apply sq_); apply er_; simp only [go_sem]
 (repeat apply sq_); apply er_; simp only [go_sem]
 obtain ⟨v1, hv1, h⟩ := C6 h
 refine M6 (fun hG => (X9 _ _ _ (iu hv1 (by simpa using hG)))) ?_
 try simp only [go_sem]
 obtain ⟨v2, hv2, h⟩ := C6 h
 refine M6 (fun hG => (bg n _ _ _ (iu hv2 (by simpa using hG)))) ?_
 try simp only [go_sem]
 (repeat apply sq_); refine E3 ?_
 try simp only [go_sem]
 have hr := Option.some.inj h
 refine E4 ?_; simp only [go_sem]
 exact y3 (d' := .bool (bif (bif (bif (decide (a0.word = a1.word)) then (decide (a0.weight = a1.weight)) else false) then v1 else false) then v2 else false)) hsc (.same _) (by simp) ⟨by subst hr; rfl, rfl⟩
end Go.Proofs.YtaohdfpcdfbnlaaGreatDoor
