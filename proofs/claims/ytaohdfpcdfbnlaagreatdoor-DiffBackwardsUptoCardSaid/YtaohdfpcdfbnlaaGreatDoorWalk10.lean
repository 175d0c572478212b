import Derived.Test.YtaohdfpcdfbnlaaGreatDoorBase
import Derived.Test.YtaohdfpcdfbnlaaGreatDoorHand
import Derived.Test.YtaohdfpcdfbnlaaGreatDoorMirrors
set_option linter.unusedVariables false
set_option linter.unusedSimpArgs false
set_option maxHeartbeats 2000000
set_option maxRecDepth 100000
namespace Go.Proofs.YtaohdfpcdfbnlaaGreatDoor
open Go Go.Am
theorem eW (a0 : (List Int)) (a1 : (List Int)) (r : Bool) (h : P9 a0 a1 = some r) : Pure Tryz.prog gl 51 [.sl false 1 8 (rows O1 a0), .sl false 1 8 (rows O1 a1)] (.bool r) := by
 intro st
 unfold P9 at h
 refine O4 (N := 26) (rs := [.tmp 4]) (keep := [0, 1, 4, 5, 10, 12, 13, 14, 24]) Tryz.func51 rfl rfl rfl (by kernel_rfl) rfl fun hsc => ?_
 (repeat apply sq_); apply er_; simp only [go_sem]
 (repeat apply sq_); apply er_; simp only [go_sem]
 (repeat apply sq_); refine D4 (by rfl) (fun hc => ?_) fun hc => ?_
 ·replace h := B0 h (by first | exact hc | simpa using hc)
  (repeat apply sq_); apply er_; simp only [go_sem]
  (repeat apply sq_); refine E3 ?_
  try simp only [go_sem]
  have hr := Option.some.inj h
  refine E4 ?_; simp only [go_sem]
  exact B9 (d' := .bool false) hsc (.same _) (by simp) ⟨by subst hr; rfl, rfl⟩
 ·replace h := B1 h (by first | exact hc | simpa using hc)
  refine E6 ?_; try simp only [go_sem]
  (repeat apply sq_); apply er_; simp only [go_sem]
  (repeat apply sq_); refine fG (t := 0) rfl fun hl0 => ?_
  simp only [eF] at hl0
  (repeat apply sq_); refine arg_ (body := bN a1 a0) (kk := bO) (n := a0.length) (s0 := ())
   (fun (gs0 : Unit) (k0 : Nat) (s0 : Unit) => [(0, .sl false 1 8 (rows O1 a0)), (1, .sl false 1 8 (rows O1 a1)), (12, .int .i64 (↑a0.length : Int)), (13, .int .i64 (↑k0 : Int))])
   (fun (gs0 : Unit) (k0 : Nat) (s0 : Unit) => st)
   (fun (gt0 : Unit) (t0 : Unit) => [])
   (fun (gt0 : Unit) (t0 : Unit) => st)
   () h (D9 hsc ⟨.s, .s, .s, .s, trivial⟩ (by simp))
   (fun gs0 k0 s0 b0 hk0 h hx0 => ?_) (fun gs0 s0 => ?_) (fun gt0 t0 fr1 st1 h hb => ?_)
  ·unfold bN at h
   have hw0 : wr .i64 ((↑k0 : Int) + 1) = (↑(k0 + 1) : Int) := gy hk0 hl0 (by decide)
   (repeat apply sq_); apply er_; simp only [go_sem]
   (repeat apply sq_); refine D4 (by rfl) (fun hc => ?_) fun hc => ?_
   ·refine E6 ?_; try simp only [go_sem]
    (repeat apply sq_); refine U8 ?_
    (repeat apply sq_); apply er_; simp only [go_sem, hk0, hw0]
    obtain ⟨f1, h⟩ := G1 h
    (repeat apply sq_); refine ak [] 0 follows (by kernel_rfl) (by rfl) ?_; simp only [go_sem, List.replicate_succ, List.replicate_zero, hk0, hw0, f1]
    (repeat apply sq_); refine D4 (by rfl) (fun hc => ?_) fun hc => ?_
    ·replace h := B0 h (by first | exact hc | simpa using hc)
     (repeat apply sq_); apply er_; simp only [go_sem, hk0, hw0, f1]
     (repeat apply sq_); refine E3 ?_
     try simp only [go_sem, hk0, hw0, f1]
     obtain rfl := Option.some.inj h
     refine F9 ?_; have hr := hx0 _ rfl; try simp only [go_sem, hk0, hw0, f1]
     refine E4 ?_; simp only [go_sem, hk0, hw0, f1]
     exact B9 (d' := .bool false) hsc (.same _) (by simp) ⟨by subst hr; rfl, rfl⟩
    ·replace h := B1 h (by first | exact hc | simpa using hc)
     refine E6 ?_; try simp only [go_sem, hk0, hw0, f1]
     (repeat apply sq_); apply er_; simp only [go_sem, hk0, hw0, f1]
     cases h
     exact bK () (D9 hsc ⟨.s, .s, .s, .s, trivial⟩ (by simp))
   ·exfalso; have hc := of_decide_eq_false hc; omega
  ·(repeat apply sq_); apply er_; simp only [go_sem]
   (repeat apply sq_); refine D4 (by rfl) (fun hc => ?_) fun hc => ?_
   ·exfalso; first | exact Bool.noConfusion hc | (have hc := of_decide_eq_true hc; omega)
   ·refine Y2 ?_; simp only [go_sem]
    exact ⟨(), (D9 hsc trivial (by simp))⟩
  ·try simp only [go_sem]
   unfold bO at h
   refine L6 hb ?_
   (repeat apply sq_); apply er_; simp only [go_sem]
   (repeat apply sq_); refine E3 ?_
   try simp only [go_sem]
   have hr := Option.some.inj h
   refine E4 ?_; simp only [go_sem]
   exact B9 (d' := .bool true) hsc (.same _) (by simp) ⟨by subst hr; rfl, rfl⟩
theorem jT (a0 : w7) (a1 : w7) (r : Bool) (h : T4 a0 a1 = some r) : Pure Tryz.prog gl 50 [.agg [.str a0.name, .sl false 1 8 (rows O1 a0.parents)], .agg [.str a1.name, .sl false 1 8 (rows O1 a1.parents)]] (.bool r) := by
 intro st
 unfold T4 at h
 refine O4 (N := 17) (rs := [.tmp 4]) (keep := [0, 1, 2, 3, 4, 11, 12, 13, 14, 15]) Tryz.func50 rfl rfl rfl (by kernel_rfl) rfl fun hsc => ?_
 (repeat apply sq_); apply er_; simp only [go_sem]
 (repeat apply sq_); apply er_; simp only [go_sem]
 obtain ⟨v1, hv1, h⟩ := C6 h
 refine M6 (fun hG => (eW _ _ _ (iu hv1 (by simpa using hG)))) ?_
 try simp only [go_sem]
 (repeat apply sq_); refine E3 ?_
 try simp only [go_sem]
 have hr := Option.some.inj h
 refine E4 ?_; simp only [go_sem]
 exact y3 (d' := .bool (bif (decide (a0.name = a1.name)) then v1 else false)) hsc (.same _) (by simp) ⟨by subst hr; rfl, rfl⟩
theorem U9 (a0 : (List w7)) (a1 : (List w7)) (r : Bool) (h : F3 a0 a1 = some r) : Pure Tryz.prog gl 49 [.sl false 2 40 (rows w7.cells a0), .sl false 2 40 (rows w7.cells a1), .fn 50 [] []] (.bool r) := by
 intro st
 unfold F3 at h
 refine O4 (N := 32) (rs := [.tmp 6]) (keep := [0, 1, 2, 6, 7, 8, 9, 14, 15, 16, 17, 18, 30]) Tryz.func49 rfl rfl rfl (by kernel_rfl) rfl fun hsc => ?_
 (repeat apply sq_); apply er_; simp only [go_sem]
 (repeat apply sq_); apply er_; simp only [go_sem]
 (repeat apply sq_); refine D4 (by rfl) (fun hc => ?_) fun hc => ?_
 ·replace h := B0 h (by first | exact hc | simpa using hc)
  (repeat apply sq_); apply er_; simp only [go_sem]
  (repeat apply sq_); refine E3 ?_
  try simp only [go_sem]
  have hr := Option.some.inj h
  refine E4 ?_; simp only [go_sem]
  exact B9 (d' := .bool false) hsc (.same _) (by simp) ⟨by subst hr; rfl, rfl⟩
 ·replace h := B1 h (by first | exact hc | simpa using hc)
  refine E6 ?_; try simp only [go_sem]
  (repeat apply sq_); apply er_; simp only [go_sem]
  (repeat apply sq_); refine fG (t := 15) rfl fun hl0 => ?_
  simp only [eF] at hl0
  (repeat apply sq_); refine arg_ (body := G3 a1 a0) (kk := G4) (n := a0.length) (s0 := ())
   (fun (gs0 : Unit) (k0 : Nat) (s0 : Unit) => [(1, .sl false 2 40 (rows w7.cells a1)), (2, .fn 50 [] []), (15, .sl false 2 40 (rows w7.cells a0)), (16, .int .i64 (↑a0.length : Int)), (17, .int .i64 (↑k0 : Int))])
   (fun (gs0 : Unit) (k0 : Nat) (s0 : Unit) => st)
   (fun (gt0 : Unit) (t0 : Unit) => [])
   (fun (gt0 : Unit) (t0 : Unit) => st)
   () h (D9 hsc ⟨.s, .s, .s, .s, .s, trivial⟩ (by simp))
   (fun gs0 k0 s0 b0 hk0 h hx0 => ?_) (fun gs0 s0 => ?_) (fun gt0 t0 fr1 st1 h hb => ?_)
  ·unfold G3 at h
   have hw0 : wr .i64 ((↑k0 : Int) + 1) = (↑(k0 + 1) : Int) := gy hk0 hl0 (by decide)
   (repeat apply sq_); apply er_; simp only [go_sem]
   (repeat apply sq_); refine D4 (by rfl) (fun hc => ?_) fun hc => ?_
   ·refine E6 ?_; try simp only [go_sem]
    (repeat apply sq_); refine U8 ?_
    (repeat apply sq_); apply er_; simp only [go_sem, hk0, hw0]
    obtain ⟨f1, h⟩ := G1 h
    (repeat apply sq_); apply er_; simp only [go_sem, hk0, hw0, f1]
    (repeat apply sq_); apply er_; simp only [go_sem, hk0, hw0, f1]
    obtain ⟨v2, hv2, h⟩ := C6 h
    refine ((jT _ _ _ hv2)).to ?_
    try simp only [go_sem, hk0, hw0, f1]
    (repeat apply sq_); refine D4 (by rfl) (fun hc => ?_) fun hc => ?_
    ·replace h := B0 h (by first | exact hc | simpa using hc)
     (repeat apply sq_); apply er_; simp only [go_sem, hk0, hw0, f1]
     (repeat apply sq_); refine E3 ?_
     try simp only [go_sem, hk0, hw0, f1]
     obtain rfl := Option.some.inj h
     refine F9 ?_; have hr := hx0 _ rfl; try simp only [go_sem, hk0, hw0, f1]
     refine E4 ?_; simp only [go_sem, hk0, hw0, f1]
     exact y3 (d' := .bool false) hsc (.same _) (by simp) ⟨by subst hr; rfl, rfl⟩
    ·replace h := B1 h (by first | exact hc | simpa using hc)
     refine E6 ?_; try simp only [go_sem, hk0, hw0, f1]
     (repeat apply sq_); apply er_; simp only [go_sem, hk0, hw0, f1]
     cases h
     exact bK () (aO hsc ⟨.s, .s, .s, .s, .s, trivial⟩ (by simp))
   ·exfalso; have hc := of_decide_eq_false hc; omega
  ·(repeat apply sq_); apply er_; simp only [go_sem]
   (repeat apply sq_); refine D4 (by rfl) (fun hc => ?_) fun hc => ?_
   ·exfalso; first | exact Bool.noConfusion hc | (have hc := of_decide_eq_true hc; omega)
   ·refine Y2 ?_; simp only [go_sem]
    exact ⟨(), (D9 hsc trivial (by simp))⟩
  ·try simp only [go_sem]
   unfold G4 at h
   refine L6 hb ?_
   (repeat apply sq_); apply er_; simp only [go_sem]
   (repeat apply sq_); refine E3 ?_
   try simp only [go_sem]
   have hr := Option.some.inj h
   refine E4 ?_; simp only [go_sem]
   exact B9 (d' := .bool true) hsc (.same _) (by simp) ⟨by subst hr; rfl, rfl⟩
theorem aL (a0 : (List x9)) (a1 : (List x9)) (r : Bool) (h : I7 a0 a1 = some r) : Pure Tryz.prog gl 52 [.sl false 3 32 (rows x9.cells a0), .sl false 3 32 (rows x9.cells a1)] (.bool r) := by
 intro st
 unfold I7 at h
 refine O4 (N := 26) (rs := [.tmp 4]) (keep := [0, 1, 4, 5, 10, 12, 13, 14, 24]) Tryz.func52 rfl rfl rfl (by kernel_rfl) rfl fun hsc => ?_
 (repeat apply sq_); apply er_; simp only [go_sem]
 (repeat apply sq_); apply er_; simp only [go_sem]
 (repeat apply sq_); refine D4 (by rfl) (fun hc => ?_) fun hc => ?_
 ·replace h := B0 h (by first | exact hc | simpa using hc)
  (repeat apply sq_); apply er_; simp only [go_sem]
  (repeat apply sq_); refine E3 ?_
  try simp only [go_sem]
  have hr := Option.some.inj h
  refine E4 ?_; simp only [go_sem]
  exact B9 (d' := .bool false) hsc (.same _) (by simp) ⟨by subst hr; rfl, rfl⟩
 ·replace h := B1 h (by first | exact hc | simpa using hc)
  refine E6 ?_; try simp only [go_sem]
  (repeat apply sq_); apply er_; simp only [go_sem]
  (repeat apply sq_); refine fG (t := 0) rfl fun hl0 => ?_
  simp only [eF] at hl0
  (repeat apply sq_); refine arg_ (body := O9 a1 a0) (kk := P0) (n := a0.length) (s0 := ())
   (fun (gs0 : Unit) (k0 : Nat) (s0 : Unit) => [(0, .sl false 3 32 (rows x9.cells a0)), (1, .sl false 3 32 (rows x9.cells a1)), (12, .int .i64 (↑a0.length : Int)), (13, .int .i64 (↑k0 : Int))])
   (fun (gs0 : Unit) (k0 : Nat) (s0 : Unit) => st)
   (fun (gt0 : Unit) (t0 : Unit) => [])
   (fun (gt0 : Unit) (t0 : Unit) => st)
   () h (D9 hsc ⟨.s, .s, .s, .s, trivial⟩ (by simp))
   (fun gs0 k0 s0 b0 hk0 h hx0 => ?_) (fun gs0 s0 => ?_) (fun gt0 t0 fr1 st1 h hb => ?_)
  ·unfold O9 at h
   have hw0 : wr .i64 ((↑k0 : Int) + 1) = (↑(k0 + 1) : Int) := gy hk0 hl0 (by decide)
   (repeat apply sq_); apply er_; simp only [go_sem]
   (repeat apply sq_); refine D4 (by rfl) (fun hc => ?_) fun hc => ?_
   ·refine E6 ?_; try simp only [go_sem]
    (repeat apply sq_); refine U8 ?_
    (repeat apply sq_); apply er_; simp only [go_sem, hk0, hw0]
    obtain ⟨f1, h⟩ := G1 h
    (repeat apply sq_); refine ak [] 0 follows (by kernel_rfl) (by rfl) ?_; simp only [go_sem, List.replicate_succ, List.replicate_zero, hk0, hw0, f1]
    (repeat apply sq_); refine D4 (by rfl) (fun hc => ?_) fun hc => ?_
    ·replace h := B0 h (by first | exact hc | simpa using hc)
     (repeat apply sq_); apply er_; simp only [go_sem, hk0, hw0, f1]
     (repeat apply sq_); refine E3 ?_
     try simp only [go_sem, hk0, hw0, f1]
     obtain rfl := Option.some.inj h
     refine F9 ?_; have hr := hx0 _ rfl; try simp only [go_sem, hk0, hw0, f1]
     refine E4 ?_; simp only [go_sem, hk0, hw0, f1]
     exact B9 (d' := .bool false) hsc (.same _) (by simp) ⟨by subst hr; rfl, rfl⟩
    ·replace h := B1 h (by first | exact hc | simpa using hc)
     refine E6 ?_; try simp only [go_sem, hk0, hw0, f1]
     (repeat apply sq_); apply er_; simp only [go_sem, hk0, hw0, f1]
     cases h
     exact bK () (D9 hsc ⟨.s, .s, .s, .s, trivial⟩ (by simp))
   ·exfalso; have hc := of_decide_eq_false hc; omega
  ·(repeat apply sq_); apply er_; simp only [go_sem]
   (repeat apply sq_); refine D4 (by rfl) (fun hc => ?_) fun hc => ?_
   ·exfalso; first | exact Bool.noConfusion hc | (have hc := of_decide_eq_true hc; omega)
   ·refine Y2 ?_; simp only [go_sem]
    exact ⟨(), (D9 hsc trivial (by simp))⟩
  ·try simp only [go_sem]
   unfold P0 at h
   refine L6 hb ?_
   (repeat apply sq_); apply er_; simp only [go_sem]
   (repeat apply sq_); refine E3 ?_
   try simp only [go_sem]
   have hr := Option.some.inj h
   refine E4 ?_; simp only [go_sem]
   exact B9 (d' := .bool true) hsc (.same _) (by simp) ⟨by subst hr; rfl, rfl⟩
theorem kD (a0 : w4) (a1 : w4) (r : Bool) (h : W1 a0 a1 = some r) : Pure Tryz.prog gl 12 [.agg [.sl false 2 40 (rows w7.cells a0.types), .sl false 3 32 (rows x9.cells a0.C9)], .agg [.sl false 2 40 (rows w7.cells a1.types), .sl false 3 32 (rows x9.cells a1.C9)]] (.bool r) := by
 intro st
 unfold W1 at h
 refine O4 (N := 17) (rs := [.tmp 4]) (keep := [0, 1, 2, 3, 4, 11, 12, 13, 14, 15]) Tryz.func12 rfl rfl rfl (by kernel_rfl) rfl fun hsc => ?_
 (repeat apply sq_); apply er_; simp only [go_sem]
 (repeat apply sq_); apply er_; simp only [go_sem]
 obtain ⟨v1, hv1, h⟩ := C6 h
 refine ((U9 _ _ _ hv1)).to ?_
 try simp only [go_sem]
 obtain ⟨v2, hv2, h⟩ := C6 h
 refine M6 (fun hG => (aL _ _ _ (iu hv2 (by simpa using hG)))) ?_
 try simp only [go_sem]
 (repeat apply sq_); refine E3 ?_
 try simp only [go_sem]
 have hr := Option.some.inj h
 refine E4 ?_; simp only [go_sem]
 exact y3 (d' := .bool (bif v1 then v2 else false)) hsc (.same _) (by simp) ⟨by subst hr; rfl, rfl⟩
theorem fC (a0 : (List x9)) (r : (List x9)) (h : U6 a0 = some r) : Pure Tryz.prog gl 53 [.sl false 3 32 (rows x9.cells a0)] (.sl false 3 32 (rows x9.cells r)) := by
 intro st
 refine oG ?_
 unfold U6 at h
 have hr := Option.some.inj h
 subst hr
 refine O4 (N := 8) (rs := [.tmp 2]) (keep := [0, 2, 4]) Tryz.func53 rfl rfl rfl (by kernel_rfl) rfl fun hsc => ?_
 refine fG (t := 0) rfl fun hl => ?_
 (repeat apply sq_); apply er_; simp only [go_sem]
 (repeat apply sq_); refine pJ rfl ⟨90, by rw [Kc]⟩ (by omega) (by omega) fun c hcn => ?_
 simp only [go_sem]
 (repeat apply sq_); refine D4 (by rfl) (fun hc => ?_) fun hc => ?_
 ·(repeat apply sq_); apply er_; simp only [go_sem]
  refine E3 ?_
  try simp only [go_sem]
  have GD := hcn hc
  rw [GD]
  refine E4 ?_; simp only [go_sem]
  exact B9 hsc (.B4 _ _ _ (by decide)) (by simp) ⟨rfl, rfl⟩
 ·refine E6 ?_; try simp only [go_sem]
  (repeat apply sq_); apply er_; simp only [go_sem]
  simp only [eF] at hl
  refine ⟨⟨by omega, by simp only [top] at *; omega⟩, ?_⟩
  refine E3 ?_
  try simp only [go_sem]
  refine E4 ?_; simp only [go_sem]
  exact y3 hsc (.ref _ _ _ _ _ _ _ _ _ (dH.trans rfl) oD (by decide) (kB a0) (by simp only [go_sem])) (by simp) ⟨rfl, rfl⟩
theorem kE (a0 : (List Int)) (r : (List Int)) (h : dL a0 = some r) : Pure Tryz.prog gl 54 [.sl false 1 8 (rows O1 a0)] (.sl false 1 8 (rows O1 r)) := by
 intro st
 refine oG ?_
 unfold dL at h
 have hr := Option.some.inj h
 subst hr
 refine O4 (N := 8) (rs := [.tmp 2]) (keep := [0, 2, 4]) Tryz.func54 rfl rfl rfl (by kernel_rfl) rfl fun hsc => ?_
 refine fG (t := 0) rfl fun hl => ?_
 (repeat apply sq_); apply er_; simp only [go_sem]
 (repeat apply sq_); refine pJ rfl ⟨3, by rw [Kd]⟩ (by omega) (by omega) fun c hcn => ?_
 simp only [go_sem]
 (repeat apply sq_); refine D4 (by rfl) (fun hc => ?_) fun hc => ?_
 ·(repeat apply sq_); apply er_; simp only [go_sem]
  refine E3 ?_
  try simp only [go_sem]
  have GD := hcn hc
  rw [GD]
  refine E4 ?_; simp only [go_sem]
  exact B9 hsc (.B4 _ _ _ (by decide)) (by simp) ⟨rfl, rfl⟩
 ·refine E6 ?_; try simp only [go_sem]
  (repeat apply sq_); apply er_; simp only [go_sem]
  simp only [eF] at hl
  refine ⟨⟨by omega, by simp only [top] at *; omega⟩, ?_⟩
  refine E3 ?_
  try simp only [go_sem]
  refine E4 ?_; simp only [go_sem]
  exact y3 hsc (.ref _ _ _ _ _ _ _ _ _ (dH.trans rfl) oD (by decide) (kB a0) (by simp only [go_sem])) (by simp) ⟨rfl, rfl⟩
theorem eC (a0 : w4) (r : w4) (h : N4 a0 = some r) : Pure Tryz.prog gl 13 [.agg [.sl false 2 40 (rows w7.cells a0.types), .sl false 3 32 (rows x9.cells a0.C9)]] (.agg [.sl false 2 40 (rows w7.cells r.types), .sl false 3 32 (rows x9.cells r.C9)]) := by
 intro st
 unfold N4 at h
 refine O4 (N := 30) (rs := [.cell 2 25]) (keep := [0, 1, 2, 3, 5, 11, 12, 13, 14]) Tryz.func13 rfl rfl rfl (by kernel_rfl) rfl fun hsc => ?_
 (repeat apply sq_); apply er_; simp only [go_sem]
 (repeat apply sq_); apply er_; simp only [go_sem]
 obtain ⟨v1, hv1, h⟩ := C6 h
 refine ((fC _ _ hv1)).to ?_
 try simp only [go_sem]
 (repeat apply sq_); apply er_; simp only [go_sem]
 (repeat apply sq_); refine Z7 2 40 ?_
 try simp only [List.append_assoc, List.cons_append, List.nil_append]
 refine L6 (F := [(2, .ptr (st.length + 1) 0 0 0), (3, .ptr (st.length + 2) 0 0 0), (11, .sl false 2 40 (rows w7.cells a0.types)), (12, .int .i64 (↑a0.types.length : Int)), (13, .int .i64 0)]) (T := st ++ [some (.arr 0 2 0 [[.sl false 2 40 (rows w7.cells a0.types), .sl false 3 32 (rows x9.cells a0.C9)]]), some (.arr 0 2 0 [[.B4, .B4]]), some (.arr 0 2 0 [[.ref false (st.length + 3) 0 0 0, .sl false 3 32 (rows x9.cells v1)]]), some (.arr 0 2 40 (rows w7.cells []))]) (G0 hsc (.lv (.lv (.live _ _ _ _ (.arr _ _ _ _ _ (.cons _ _ _ _ (.cons _ _ _ _ (.nref _ _ _ _ _ _ (dH.trans rfl)) (.cons _ _ _ _ .s .nil)) (.same _))) (.lv (.nil _))))) (by simp) ⟨.s, .s, .s, .s, .s, trivial⟩ (by simp)) ?_
 (repeat apply sq_); refine fG (t := 11) rfl fun hl0 => ?_
 simp only [eF] at hl0
 (repeat apply sq_); refine arg_ (body := aT a0) (kk := aU v1) (n := a0.types.length) (s0 := [])
  (fun (gs0 : Nat) (k0 : Nat) (s0 : (List w7)) => [(2, .ptr (st.length + 1) 0 0 0), (3, .ptr (st.length + 2) 0 0 0), (11, .sl false 2 40 (rows w7.cells a0.types)), (12, .int .i64 (↑a0.types.length : Int)), (13, .int .i64 (↑k0 : Int))])
  (fun (gs0 : Nat) (k0 : Nat) (s0 : (List w7)) => st ++ [none, some (.arr 0 2 0 [[.B4, .B4]]), some (.arr 0 2 0 [[.ref false (st.length + 3) gs0 0 s0.length, .sl false 3 32 (rows x9.cells v1)]]), some (.arr gs0 2 40 (rows w7.cells s0))])
  (fun (gt0 : Nat) (t0 : (List w7)) => [(2, .ptr (st.length + 1) 0 0 0), (3, .ptr (st.length + 2) 0 0 0)])
  (fun (gt0 : Nat) (t0 : (List w7)) => st ++ [none, some (.arr 0 2 0 [[.B4, .B4]]), some (.arr 0 2 0 [[.ref false (st.length + 3) gt0 0 t0.length, .sl false 3 32 (rows x9.cells v1)]]), some (.arr gt0 2 40 (rows w7.cells t0))])
  0 h (G0 hsc (.dead _ _ _ (.lv (.lv (.lv (.nil _))))) (by simp) ⟨.s, .s, .s, .s, .s, trivial⟩ (by simp))
  (fun gs0 k0 s0 b0 hk0 h hx0 => ?_) (fun gs0 s0 => ?_) (fun gt0 t0 fr1 st1 h hb => ?_)
 ·unfold aT at h
  have hw0 : wr .i64 ((↑k0 : Int) + 1) = (↑(k0 + 1) : Int) := gy hk0 hl0 (by decide)
  (repeat apply sq_); apply er_; simp only [go_sem]
  (repeat apply sq_); refine D4 (by rfl) (fun hc => ?_) fun hc => ?_
  ·refine E6 ?_; try simp only [go_sem]
   (repeat apply sq_); refine U8 ?_
   (repeat apply sq_); apply er_; simp only [go_sem, hk0, hw0]
   (repeat apply sq_); refine ak [] 2 follows (by kernel_rfl) (by rfl) ?_; simp only [go_sem, List.replicate_succ, List.replicate_zero, hk0, hw0]
   obtain ⟨v9, hv9, h⟩ := C6 h
   refine A0 (kE _ _ hv9) ?_
   have e10 : (40 ≤ top) = True := by simp [top]
   obtain ⟨c11, GF, h⟩ := lD h
   have e12 : rows w7.cells s0 ++ [[.str ((get a0.types k0).name), .sl false 1 8 (rows O1 v9)]] = rows w7.cells c11 := by rw [GF]; first | exact L5 (E := w7.cells) s0 [(w7.mk ((get a0.types k0).name) v9)] | simp only [go_sem, rows, List.map_append, List.map_cons, List.map_nil]
   have e13 : s0.length + 1 = c11.length := by rw [GF]; simp
   obtain ⟨⟨f14, f15⟩, h⟩ := G1 h
   try simp only [go_sem, hk0, hw0, f14, f15, e10, e12, e13]
   (repeat apply sq_); apply er_; simp only [go_sem, hk0, hw0, f14, f15]
   cases h
   exact bK (gs0 + 1) (G0 hsc (.dead _ _ _ (.lv (.lv (.lv (.nil _))))) (by simp) ⟨.s, .s, .s, .s, .s, trivial⟩ (by simp))
  ·exfalso; have hc := of_decide_eq_false hc; omega
 ·(repeat apply sq_); apply er_; simp only [go_sem]
  (repeat apply sq_); refine D4 (by rfl) (fun hc => ?_) fun hc => ?_
  ·exfalso; first | exact Bool.noConfusion hc | (have hc := of_decide_eq_true hc; omega)
  ·refine Y2 ?_; simp only [go_sem]
   exact ⟨gs0, (G0 hsc (.dead _ _ _ (.lv (.lv (.lv (.nil _))))) (by simp) ⟨.s, .s, trivial⟩ (by simp))⟩
 ·try simp only [go_sem]
  unfold aU at h
  refine L6 hb ?_
  (repeat apply sq_); apply er_; simp only [go_sem]
  (repeat apply sq_); refine E3 ?_
  try simp only [go_sem]
  have hr := Option.some.inj h
  refine E4 ?_; simp only [go_sem]
  exact y3 (d' := .agg [.sl false 2 40 (rows w7.cells t0), .sl false 3 32 (rows x9.cells v1)]) hsc (.agg _ _ (.cons _ _ _ _ (.ref _ _ _ _ _ _ _ _ _ (dH.trans rfl) oD (by decide) (kB _) (by simp only [go_sem])) (.cons _ _ _ _ .s .nil))) (by simp) ⟨by subst hr; rfl, rfl⟩
theorem aM (a0 : (List D8)) (a1 : (List D8)) (r : Bool) (h : I8 a0 a1 = some r) : Pure Tryz.prog gl 57 [.sl false 2 16 (rows D8.cells a0), .sl false 2 16 (rows D8.cells a1)] (.bool r) := by
 intro st
 unfold I8 at h
 refine O4 (N := 26) (rs := [.tmp 4]) (keep := [0, 1, 4, 5, 10, 12, 13, 14, 24]) Tryz.func57 rfl rfl rfl (by kernel_rfl) rfl fun hsc => ?_
 (repeat apply sq_); apply er_; simp only [go_sem]
 (repeat apply sq_); apply er_; simp only [go_sem]
 (repeat apply sq_); refine D4 (by rfl) (fun hc => ?_) fun hc => ?_
 ·replace h := B0 h (by first | exact hc | simpa using hc)
  (repeat apply sq_); apply er_; simp only [go_sem]
  (repeat apply sq_); refine E3 ?_
  try simp only [go_sem]
  have hr := Option.some.inj h
  refine E4 ?_; simp only [go_sem]
  exact B9 (d' := .bool false) hsc (.same _) (by simp) ⟨by subst hr; rfl, rfl⟩
 ·replace h := B1 h (by first | exact hc | simpa using hc)
  refine E6 ?_; try simp only [go_sem]
  (repeat apply sq_); apply er_; simp only [go_sem]
  (repeat apply sq_); refine fG (t := 0) rfl fun hl0 => ?_
  simp only [eF] at hl0
  (repeat apply sq_); refine arg_ (body := P1 a1 a0) (kk := P2) (n := a0.length) (s0 := ())
   (fun (gs0 : Unit) (k0 : Nat) (s0 : Unit) => [(0, .sl false 2 16 (rows D8.cells a0)), (1, .sl false 2 16 (rows D8.cells a1)), (12, .int .i64 (↑a0.length : Int)), (13, .int .i64 (↑k0 : Int))])
   (fun (gs0 : Unit) (k0 : Nat) (s0 : Unit) => st)
   (fun (gt0 : Unit) (t0 : Unit) => [])
   (fun (gt0 : Unit) (t0 : Unit) => st)
   () h (D9 hsc ⟨.s, .s, .s, .s, trivial⟩ (by simp))
   (fun gs0 k0 s0 b0 hk0 h hx0 => ?_) (fun gs0 s0 => ?_) (fun gt0 t0 fr1 st1 h hb => ?_)
  ·unfold P1 at h
   have hw0 : wr .i64 ((↑k0 : Int) + 1) = (↑(k0 + 1) : Int) := gy hk0 hl0 (by decide)
   (repeat apply sq_); apply er_; simp only [go_sem]
   (repeat apply sq_); refine D4 (by rfl) (fun hc => ?_) fun hc => ?_
   ·refine E6 ?_; try simp only [go_sem]
    (repeat apply sq_); refine U8 ?_
    (repeat apply sq_); apply er_; simp only [go_sem, hk0, hw0]
    obtain ⟨f1, h⟩ := G1 h
    (repeat apply sq_); refine ak [] 0 follows (by kernel_rfl) (by rfl) ?_; simp only [go_sem, List.replicate_succ, List.replicate_zero, hk0, hw0, f1]
    (repeat apply sq_); refine D4 (by rfl) (fun hc => ?_) fun hc => ?_
    ·replace h := B0 h (by first | exact hc | simpa using hc)
     (repeat apply sq_); apply er_; simp only [go_sem, hk0, hw0, f1]
     (repeat apply sq_); refine E3 ?_
     try simp only [go_sem, hk0, hw0, f1]
     obtain rfl := Option.some.inj h
     refine F9 ?_; have hr := hx0 _ rfl; try simp only [go_sem, hk0, hw0, f1]
     refine E4 ?_; simp only [go_sem, hk0, hw0, f1]
     exact B9 (d' := .bool false) hsc (.same _) (by simp) ⟨by subst hr; rfl, rfl⟩
    ·replace h := B1 h (by first | exact hc | simpa using hc)
     refine E6 ?_; try simp only [go_sem, hk0, hw0, f1]
     (repeat apply sq_); apply er_; simp only [go_sem, hk0, hw0, f1]
     cases h
     exact bK () (D9 hsc ⟨.s, .s, .s, .s, trivial⟩ (by simp))
   ·exfalso; have hc := of_decide_eq_false hc; omega
  ·(repeat apply sq_); apply er_; simp only [go_sem]
   (repeat apply sq_); refine D4 (by rfl) (fun hc => ?_) fun hc => ?_
   ·exfalso; first | exact Bool.noConfusion hc | (have hc := of_decide_eq_true hc; omega)
   ·refine Y2 ?_; simp only [go_sem]
    exact ⟨(), (D9 hsc trivial (by simp))⟩
  ·try simp only [go_sem]
   unfold P2 at h
   refine L6 hb ?_
   (repeat apply sq_); apply er_; simp only [go_sem]
   (repeat apply sq_); refine E3 ?_
   try simp only [go_sem]
   have hr := Option.some.inj h
   refine E4 ?_; simp only [go_sem]
   exact B9 (d' := .bool true) hsc (.same _) (by simp) ⟨by subst hr; rfl, rfl⟩
end Go.Proofs.YtaohdfpcdfbnlaaGreatDoor
