import Derived.Test.YtaohdfpcdfbnlaaGreatDoorBase
import Derived.Test.YtaohdfpcdfbnlaaGreatDoorHand
import Derived.Test.YtaohdfpcdfbnlaaGreatDoorMirrors
import Derived.Test.YtaohdfpcdfbnlaaGreatDoorWalk1
import Derived.Test.YtaohdfpcdfbnlaaGreatDoorWalk14
import Derived.Test.YtaohdfpcdfbnlaaGreatDoorWalk15
import Derived.Test.YtaohdfpcdfbnlaaGreatDoorWalk16
import Derived.Test.YtaohdfpcdfbnlaaGreatDoorWalk17
set_option linter.unusedVariables false
set_option linter.unusedSimpArgs false
set_option maxHeartbeats 2000000
set_option maxRecDepth 100000
namespace Go.Proofs.YtaohdfpcdfbnlaaGreatDoor
open Go Go.Am
theorem iF (n : Nat) (a0 : (List w9)) (a1 : (List w9)) (r : Bool) (h : aY n a0 a1 = some r) : Pure Tryz.prog gl 40 [.sl false 9 144 (rows w9.cells a0), .sl false 9 144 (rows w9.cells a1)] (.bool r) := by
 intro st
 unfold aY at h
 refine O4 (N := 27) (rs := [.tmp 4]) (keep := [0, 1, 4, 5, 10, 12, 13, 14, 25]) Tryz.func40 rfl rfl rfl (by kernel_rfl) rfl fun hsc => ?_
 (repeat apply sq_); apply er_; simp only [go_sem]
 (repeat apply sq_); apply er_; simp only [go_sem]
 (repeat apply sq_); refine D4 (by rfl) (fun hc => ?_) fun hc => ?_
 ·replace h := B0 h (by first | exact hc | simpa using hc)
  (repeat apply sq_); apply er_; simp only [go_sem]
  (repeat apply sq_); refine E3 ?_
  try simp only [go_sem]
  have hr := Option.some.inj h
  refine E4 ?_; simp only [go_sem]
  exact B9 (d' := .bool false) hsc (.same _) (by simp) ⟨by subst hr; rfl, rfl⟩
 ·replace h := B1 h (by first | exact hc | simpa using hc)
  refine E6 ?_; try simp only [go_sem]
  (repeat apply sq_); apply er_; simp only [go_sem]
  (repeat apply sq_); refine fG (t := 0) rfl fun hl0 => ?_
  simp only [eF] at hl0
  (repeat apply sq_); refine arg_ (body := X4 n a1 a0) (kk := X5) (n := a0.length) (s0 := ())
   (fun (gs0 : Unit) (k0 : Nat) (s0 : Unit) => [(0, .sl false 9 144 (rows w9.cells a0)), (1, .sl false 9 144 (rows w9.cells a1)), (12, .int .i64 (↑a0.length : Int)), (13, .int .i64 (↑k0 : Int))])
   (fun (gs0 : Unit) (k0 : Nat) (s0 : Unit) => st)
   (fun (gt0 : Unit) (t0 : Unit) => [])
   (fun (gt0 : Unit) (t0 : Unit) => st)
   () h (D9 hsc ⟨.s, .s, .s, .s, trivial⟩ (by simp))
   (fun gs0 k0 s0 b0 hk0 h hx0 => ?_) (fun gs0 s0 => ?_) (fun gt0 t0 fr1 st1 h hb => ?_)
  ·unfold X4 at h
   have hw0 : wr .i64 ((↑k0 : Int) + 1) = (↑(k0 + 1) : Int) := gy hk0 hl0 (by decide)
   (repeat apply sq_); apply er_; simp only [go_sem]
   (repeat apply sq_); refine D4 (by rfl) (fun hc => ?_) fun hc => ?_
   ·refine E6 ?_; try simp only [go_sem]
    (repeat apply sq_); refine U8 ?_
    (repeat apply sq_); apply er_; simp only [go_sem, hk0, hw0]
    obtain ⟨f1, h⟩ := G1 h
    (repeat apply sq_); refine ak [] 0 follows (by kernel_rfl) (by rfl) ?_; simp only [go_sem, List.replicate_succ, List.replicate_zero, hk0, hw0, f1]
    obtain ⟨v2, hv2, h⟩ := C6 h
    refine A0 (jj n _ _ _ hv2) ?_
    try simp only [go_sem, hk0, hw0, f1]
    (repeat apply sq_); refine D4 (by rfl) (fun hc => ?_) fun hc => ?_
    ·replace h := B0 h (by first | exact hc | simpa using hc)
     (repeat apply sq_); apply er_; simp only [go_sem, hk0, hw0, f1]
     (repeat apply sq_); refine E3 ?_
     try simp only [go_sem, hk0, hw0, f1]
     obtain rfl := Option.some.inj h
     refine F9 ?_; have hr := hx0 _ rfl; try simp only [go_sem, hk0, hw0, f1]
     refine E4 ?_; simp only [go_sem, hk0, hw0, f1]
     exact B9 (d' := .bool false) hsc (.same _) (by simp) ⟨by subst hr; rfl, rfl⟩
    ·replace h := B1 h (by first | exact hc | simpa using hc)
     refine E6 ?_; try simp only [go_sem, hk0, hw0, f1]
     (repeat apply sq_); apply er_; simp only [go_sem, hk0, hw0, f1]
     cases h
     exact bK () (D9 hsc ⟨.s, .s, .s, .s, trivial⟩ (by simp))
   ·exfalso; have hc := of_decide_eq_false hc; omega
  ·(repeat apply sq_); apply er_; simp only [go_sem]
   (repeat apply sq_); refine D4 (by rfl) (fun hc => ?_) fun hc => ?_
   ·exfalso; first | exact Bool.noConfusion hc | (have hc := of_decide_eq_true hc; omega)
   ·refine Y2 ?_; simp only [go_sem]
    exact ⟨(), (D9 hsc trivial (by simp))⟩
  ·try simp only [go_sem]
   unfold X5 at h
   refine L6 hb ?_
   (repeat apply sq_); apply er_; simp only [go_sem]
   (repeat apply sq_); refine E3 ?_
   try simp only [go_sem]
   have hr := Option.some.inj h
   refine E4 ?_; simp only [go_sem]
   exact B9 (d' := .bool true) hsc (.same _) (by simp) ⟨by subst hr; rfl, rfl⟩
theorem gi (n : Nat) (a0 : x5) (a1 : x5) (r : Bool) (h : X6 n a0 a1 = some r) : Pure Tryz.prog gl 10 [.agg [.sl false 2 40 (rows w7.cells a0.hierarchy.types), .sl false 3 32 (rows x9.cells a0.hierarchy.C9), .sl false 10 152 (rows u6.cells a0.rules), .sl false 9 144 (rows w9.cells a0.D0), .sl false 2 32 (rows w8.cells a0.start.nodes)], .agg [.sl false 2 40 (rows w7.cells a1.hierarchy.types), .sl false 3 32 (rows x9.cells a1.hierarchy.C9), .sl false 10 152 (rows u6.cells a1.rules), .sl false 9 144 (rows w9.cells a1.D0), .sl false 2 32 (rows w8.cells a1.start.nodes)]] (.bool r) := by
 intro st
 unfold X6 at h
 refine O4 (N := 31) (rs := [.tmp 4]) (keep := [0, 1, 2, 3, 4, 11, 12, 13, 14, 15, 18, 19, 20, 21, 22, 25, 26, 27, 28, 29]) Tryz.func10 rfl rfl rfl (by kernel_rfl) rfl fun hsc => ?_
 (repeat apply sq_); apply er_; simp only [go_sem]
 (repeat apply sq_); apply er_; simp only [go_sem]
 obtain ⟨v1, hv1, h⟩ := C6 h
 refine ((eE _ _ _ hv1)).to ?_
 try simp only [go_sem]
 obtain ⟨v2, hv2, h⟩ := C6 h
 refine M6 (fun hG => (iE n _ _ _ (iu hv2 (by simpa using hG)))) ?_
 try simp only [go_sem]
 obtain ⟨v3, hv3, h⟩ := C6 h
 refine M6 (fun hG => (iF n _ _ _ (iu hv3 (by simpa using hG)))) ?_
 try simp only [go_sem]
 obtain ⟨v4, hv4, h⟩ := C6 h
 refine M6 (fun hG => (X9 _ _ _ (iu hv4 (by simpa using hG)))) ?_
 try simp only [go_sem]
 (repeat apply sq_); refine E3 ?_
 try simp only [go_sem]
 have hr := Option.some.inj h
 refine E4 ?_; simp only [go_sem]
 exact y3 (d' := .bool (bif (bif (bif v1 then v2 else false) then v3 else false) then v4 else false)) hsc (.same _) (by simp) ⟨by subst hr; rfl, rfl⟩
theorem bh (n : Nat) (r : Bool) (h : J5 n  = some r) : Pure Tryz.prog gl 5 [] (.bool r) := by
 intro st
 unfold J5 at h
 refine O4 (N := 54) (rs := [.tmp 0]) (keep := [0, 1, 2, 3, 4, 5, 6, 7, 8, 36, 37, 38, 41, 42, 45, 46, 47, 50, 51, 52]) Tryz.func5 rfl rfl rfl (by kernel_rfl) rfl fun hsc => ?_
 (repeat apply sq_); apply er_; simp only [go_sem]
 (repeat apply sq_); apply er_; simp only [go_sem]
 obtain ⟨v1, hv1, h⟩ := C6 h
 refine ((cO n _ hv1)).to ?_
 try simp only [go_sem]
 (repeat apply sq_); apply er_; simp only [go_sem]
 obtain ⟨v2, hv2, h⟩ := C6 h
 refine ((cO n _ hv2)).to ?_
 try simp only [go_sem]
 obtain ⟨⟨f3, f4⟩, h⟩ := G1 h
 (repeat apply sq_); apply er_; simp only [go_sem, f3, f4]
 (repeat apply sq_); apply er_; simp only [go_sem, f3, f4]
 obtain ⟨v5, hv5, h⟩ := C6 h
 refine ((X8 n _ _ _ hv5)).to ?_
 try simp only [go_sem, f3, f4]
 (repeat apply sq_); apply er_; simp only [go_sem, f3, f4]
 obtain ⟨v6, hv6, h⟩ := C6 h
 refine ((dP _ _ hv6)).to ?_
 try simp only [go_sem, f3, f4]
 (repeat apply sq_); apply er_; simp only [go_sem, f3, f4]
 obtain ⟨v7, hv7, h⟩ := C6 h
 refine ((vg n _ _ _ hv7)).to ?_
 try simp only [go_sem, f3, f4]
 (repeat apply sq_); apply er_; simp only [go_sem, f3, f4]
 obtain ⟨v8, hv8, h⟩ := C6 h
 refine M6 (fun hG => (gi n _ _ _ (iu hv8 (by simpa using hG)))) ?_
 try simp only [go_sem, f3, f4]
 (repeat apply sq_); refine E3 ?_
 try simp only [go_sem, f3, f4]
 have hr := Option.some.inj h
 refine E4 ?_; simp only [go_sem, f3, f4]
 exact y3 (d' := .bool (bif (bif (bif (bif (decide (v5.2.code = 0)) then (decide (v6.2.code = 0)) else false) then (decide (v6.1 = 1)) else false) then (decide (v7.2.code = 0)) else false) then v8 else false)) hsc (.same _) (by simp) ⟨by subst hr; rfl, rfl⟩
theorem dJ (n : Nat) (a0 : x5) (a1 : x5) (r : Bool) (h : K9 n a0 a1 = some r) : Pure Tryz.prog gl 3 [.agg [.sl false 2 40 (rows w7.cells a0.hierarchy.types), .sl false 3 32 (rows x9.cells a0.hierarchy.C9), .sl false 10 152 (rows u6.cells a0.rules), .sl false 9 144 (rows w9.cells a0.D0), .sl false 2 32 (rows w8.cells a0.start.nodes)], .agg [.sl false 2 40 (rows w7.cells a1.hierarchy.types), .sl false 3 32 (rows x9.cells a1.hierarchy.C9), .sl false 10 152 (rows u6.cells a1.rules), .sl false 9 144 (rows w9.cells a1.D0), .sl false 2 32 (rows w8.cells a1.start.nodes)]] (.bool r) := by
 intro st
 unfold K9 at h
 refine O4 (N := 56) (rs := [.tmp 4]) (keep := [0, 1, 2, 3, 4, 5, 6, 7, 8, 9, 10, 12, 29, 30, 31, 32, 47, 48, 49, 52, 53, 54]) Tryz.func3 rfl rfl rfl (by kernel_rfl) rfl fun hsc => ?_
 (repeat apply sq_); apply er_; simp only [go_sem]
 (repeat apply sq_); apply er_; simp only [go_sem]
 obtain ⟨v1, hv1, h⟩ := C6 h
 refine ((bh n _ hv1)).to ?_
 try simp only [go_sem]
 (repeat apply sq_); refine D4 (by rfl) (fun hc => ?_) fun hc => ?_
 ·replace h := B0 h (by first | exact hc | simpa using hc)
  (repeat apply sq_); apply er_; simp only [go_sem]
  (repeat apply sq_); refine E3 ?_
  try simp only [go_sem]
  have hr := Option.some.inj h
  refine E4 ?_; simp only [go_sem]
  exact y3 (d' := .bool false) hsc (.same _) (by simp) ⟨by subst hr; rfl, rfl⟩
 ·replace h := B1 h (by first | exact hc | simpa using hc)
  refine E6 ?_; try simp only [go_sem]
  (repeat apply sq_); apply er_; simp only [go_sem]
  obtain ⟨v2, hv2, h⟩ := C6 h
  refine ((X8 n _ _ _ hv2)).to ?_
  try simp only [go_sem]
  (repeat apply sq_); apply er_; simp only [go_sem]
  obtain ⟨v3, hv3, h⟩ := C6 h
  refine ((X8 n _ _ _ hv3)).to ?_
  try simp only [go_sem]
  (repeat apply sq_); apply er_; simp only [go_sem]
  (repeat apply sq_); refine D4 (by rfl) (fun hc => ?_) fun hc => ?_
  ·replace h := B0 h (by first | exact hc | simpa using hc)
   (repeat apply sq_); apply er_; simp only [go_sem]
   (repeat apply sq_); refine E3 ?_
   try simp only [go_sem]
   have hr := Option.some.inj h
   refine E4 ?_; simp only [go_sem]
   exact y3 (d' := .bool true) hsc (.same _) (by simp) ⟨by subst hr; rfl, rfl⟩
  ·replace h := B1 h (by first | exact hc | simpa using hc)
   refine E6 ?_; try simp only [go_sem]
   (repeat apply sq_); apply er_; simp only [go_sem]
   obtain ⟨v4, hv4, h⟩ := C6 h
   refine ((dP _ _ hv4)).to ?_
   try simp only [go_sem]
   (repeat apply sq_); apply er_; simp only [go_sem]
   obtain ⟨v5, hv5, h⟩ := C6 h
   refine ((dP _ _ hv5)).to ?_
   try simp only [go_sem]
   (repeat apply sq_); apply er_; simp only [go_sem]
   (repeat apply sq_); refine E3 ?_
   try simp only [go_sem]
   have hr := Option.some.inj h
   refine E4 ?_; simp only [go_sem]
   exact y3 (d' := .bool (bif (bif (decide (v4.2.code = 0)) then (decide (v5.2.code = 0)) else false) then (decide (v4.1 = v5.1)) else false)) hsc (.same _) (by simp) ⟨by subst hr; rfl, rfl⟩
theorem ep (n : Nat) (a0 : x5) (a1 : x5) (a2 : x5) (r : Bool) (h : L0 n a0 a1 a2 = some r) : Pure Tryz.prog gl 4 [.agg [.sl false 2 40 (rows w7.cells a0.hierarchy.types), .sl false 3 32 (rows x9.cells a0.hierarchy.C9), .sl false 10 152 (rows u6.cells a0.rules), .sl false 9 144 (rows w9.cells a0.D0), .sl false 2 32 (rows w8.cells a0.start.nodes)], .agg [.sl false 2 40 (rows w7.cells a1.hierarchy.types), .sl false 3 32 (rows x9.cells a1.hierarchy.C9), .sl false 10 152 (rows u6.cells a1.rules), .sl false 9 144 (rows w9.cells a1.D0), .sl false 2 32 (rows w8.cells a1.start.nodes)], .agg [.sl false 2 40 (rows w7.cells a2.hierarchy.types), .sl false 3 32 (rows x9.cells a2.hierarchy.C9), .sl false 10 152 (rows u6.cells a2.rules), .sl false 9 144 (rows w9.cells a2.D0), .sl false 2 32 (rows w8.cells a2.start.nodes)]] (.bool r) := by
 intro st
 unfold L0 at h
 refine O4 (N := 84) (rs := [.tmp 6]) (keep := [0, 1, 2, 3, 4, 5, 6, 7, 8, 9, 10, 11, 12, 13, 14, 15, 17, 40, 41, 42, 45, 46, 47, 48, 68, 69, 70, 73, 74, 75, 78, 79, 80, 81, 82]) Tryz.func4 rfl rfl rfl (by kernel_rfl) rfl fun hsc => ?_
 (repeat apply sq_); apply er_; simp only [go_sem]
 (repeat apply sq_); apply er_; simp only [go_sem]
 obtain ⟨v1, hv1, h⟩ := C6 h
 refine ((bh n _ hv1)).to ?_
 try simp only [go_sem]
 (repeat apply sq_); refine D4 (by rfl) (fun hc => ?_) fun hc => ?_
 ·replace h := B0 h (by first | exact hc | simpa using hc)
  (repeat apply sq_); apply er_; simp only [go_sem]
  (repeat apply sq_); refine E3 ?_
  try simp only [go_sem]
  have hr := Option.some.inj h
  refine E4 ?_; simp only [go_sem]
  exact y3 (d' := .bool false) hsc (.same _) (by simp) ⟨by subst hr; rfl, rfl⟩
 ·replace h := B1 h (by first | exact hc | simpa using hc)
  refine E6 ?_; try simp only [go_sem]
  (repeat apply sq_); apply er_; simp only [go_sem]
  obtain ⟨v2, hv2, h⟩ := C6 h
  refine ((X8 n _ _ _ hv2)).to ?_
  try simp only [go_sem]
  (repeat apply sq_); apply er_; simp only [go_sem]
  obtain ⟨v3, hv3, h⟩ := C6 h
  refine ((X8 n _ _ _ hv3)).to ?_
  try simp only [go_sem]
  (repeat apply sq_); apply er_; simp only [go_sem]
  obtain ⟨v4, hv4, h⟩ := C6 h
  refine ((X8 n _ _ _ hv4)).to ?_
  try simp only [go_sem]
  (repeat apply sq_); apply er_; simp only [go_sem]
  (repeat apply sq_); refine D4 (by rfl) (fun hc => ?_) fun hc => ?_
  ·replace h := B0 h (by first | exact hc | simpa using hc)
   (repeat apply sq_); apply er_; simp only [go_sem]
   (repeat apply sq_); refine E3 ?_
   try simp only [go_sem]
   have hr := Option.some.inj h
   refine E4 ?_; simp only [go_sem]
   exact y3 (d' := .bool true) hsc (.same _) (by simp) ⟨by subst hr; rfl, rfl⟩
  ·replace h := B1 h (by first | exact hc | simpa using hc)
   refine E6 ?_; try simp only [go_sem]
   (repeat apply sq_); apply er_; simp only [go_sem]
   obtain ⟨v5, hv5, h⟩ := C6 h
   refine ((dP _ _ hv5)).to ?_
   try simp only [go_sem]
   (repeat apply sq_); apply er_; simp only [go_sem]
   obtain ⟨v6, hv6, h⟩ := C6 h
   refine ((dP _ _ hv6)).to ?_
   try simp only [go_sem]
   (repeat apply sq_); apply er_; simp only [go_sem]
   obtain ⟨v7, hv7, h⟩ := C6 h
   refine ((dP _ _ hv7)).to ?_
   try simp only [go_sem]
   (repeat apply sq_); apply er_; simp only [go_sem]
   (repeat apply sq_); refine E3 ?_
   try simp only [go_sem]
   have hr := Option.some.inj h
   refine E4 ?_; simp only [go_sem]
   exact y3 (d' := .bool (bif (bif (bif (decide (v5.2.code = 0)) then (decide (v6.2.code = 0)) else false) then (decide (v7.2.code = 0)) else false) then (decide (v7.1 ≤ (wr .i64 (v5.1 + v6.1)))) else false)) hsc (.same _) (by simp) ⟨by subst hr; rfl, rfl⟩
end Go.Proofs.YtaohdfpcdfbnlaaGreatDoor
