import Derived.Test.YtaohdfpcdfbnlaaGreatDoorBase
import Derived.Test.YtaohdfpcdfbnlaaGreatDoorHand
import Derived.Test.YtaohdfpcdfbnlaaGreatDoorMirrors
set_option linter.unusedVariables false
set_option linter.unusedSimpArgs false
set_option maxHeartbeats 2000000
set_option maxRecDepth 100000
namespace Go.Proofs.YtaohdfpcdfbnlaaGreatDoor
open Go Go.Am
theorem dQ (n : Nat) (a0 : Bs) (r : Int) (h : J3 n a0 = some r) : Pure Tryz.prog gl 86 [.str a0] (.int .i64 r) := by
 intro st
 unfold J3 at h
 refine O4 (N := 10) (rs := [.tmp 2]) (keep := [0, 2, 4, 6]) Tryz.func86 rfl rfl rfl (by kernel_rfl) rfl fun hsc => ?_
 (repeat apply sq_); apply er_; simp only [go_sem]
 (repeat apply sq_); apply er_; simp only [go_sem]
 (repeat apply sq_); refine O5 (body := J7 a0) (kk := M0) (n := n) (s0 := (0, 0))
  (fun (gs0 : Unit) (s0 : Nat × Int) => [(2, .int .i64 s0.2), (4, .it st.length)])
  (fun (gs0 : Unit) (s0 : Nat × Int) => st ++ [some (.sit a0 s0.1)])
  (fun (gt0 : Unit) (t0 : Int) => [(2, .int .i64 t0)])
  (fun (gt0 : Unit) (t0 : Int) => st)
  () h (G0 hsc (.lv (.nil _)) (by simp) ⟨.s, .s, trivial⟩ (by simp))
  (fun gs0 s0 b0 h hx0 => ?_) (fun gt0 t0 fr1 st1 h hb => ?_)
 ·unfold J7 at h
  (repeat apply sq_); apply er_; simp only [go_sem]
  (repeat apply sq_); refine D4 (by rfl) (fun hc => ?_) fun hc => ?_
  ·replace h := B0 h (by first | exact hc | simpa using hc)
   refine E6 ?_; try simp only [go_sem]
   (repeat apply sq_); refine U8 ?_
   (repeat apply sq_); apply er_; simp only [go_sem]
   cases h
   exact U4 () (G0 hsc (.lv (.nil _)) (by simp) ⟨.s, .s, trivial⟩ (by simp))
  ·replace h := B1 h (by first | exact hc | simpa using hc)
   (repeat apply sq_); refine Y2 ?_; try simp only [go_sem]
   cases h
   exact bL () (aO hsc ⟨.s, trivial⟩ (by simp))
 ·try simp only [go_sem]
  unfold M0 at h
  refine L6 hb ?_
  (repeat apply sq_); apply er_; simp only [go_sem]
  (repeat apply sq_); refine E3 ?_
  try simp only [go_sem]
  have hr := Option.some.inj h
  refine E4 ?_; simp only [go_sem]
  exact B9 (d' := .int .i64 t0) hsc (.same _) (by simp) ⟨by subst hr; rfl, rfl⟩
theorem H8 (a0 : Bs) (r : Int) (h : E8 a0 = some r) : Pure Tryz.prog gl 96 [.str a0] (.int .u64 r) := by
 intro st
 unfold E8 at h
 refine O4 (N := 59) (rs := [.tmp 2]) (keep := [0, 2]) Tryz.func96 rfl rfl rfl (by kernel_rfl) rfl fun hsc => ?_
 (repeat apply sq_); apply er_; simp only [go_sem]
 (repeat apply sq_); refine D4 (by rfl) (fun hc => ?_) fun hc => ?_
 ·replace h := B0 h (by first | exact hc | simpa using hc)
  obtain ⟨f1, h⟩ := G1 h
  obtain ⟨f2, h⟩ := G1 h
  obtain ⟨f3, h⟩ := G1 h
  obtain ⟨f4, h⟩ := G1 h
  (repeat apply sq_); refine ak [] 0 follows (by kernel_rfl) (by rfl) ?_; simp only [go_sem, List.replicate_succ, List.replicate_zero, f1, f2, f3, f4]
  (repeat apply sq_); refine E3 ?_
  try simp only [go_sem, f1, f2, f3, f4]
  have hr := Option.some.inj h
  refine E4 ?_; simp only [go_sem, f1, f2, f3, f4]
  exact B9 (d' := .int .u64 (M1 .or .u64 (M1 .or .u64 (M1 .or .u64 (wr .u64 (C7 a0 0)) (wr .u64 ((wr .u64 (C7 a0 1)) * 2 ^ (min 8 64)))) (wr .u64 ((wr .u64 (C7 a0 2)) * 2 ^ (min 16 64)))) (wr .u64 ((wr .u64 (C7 a0 3)) * 2 ^ (min 24 64))))) hsc (.same _) (by simp) ⟨by subst hr; rfl, rfl⟩
 ·replace h := B1 h (by first | exact hc | simpa using hc)
  refine E6 ?_; try simp only [go_sem]
  obtain ⟨f5, h⟩ := G1 h
  obtain ⟨f6, h⟩ := G1 h
  obtain ⟨f7, h⟩ := G1 h
  obtain ⟨f8, h⟩ := G1 h
  obtain ⟨f9, h⟩ := G1 h
  obtain ⟨f10, h⟩ := G1 h
  obtain ⟨f11, h⟩ := G1 h
  obtain ⟨f12, h⟩ := G1 h
  (repeat apply sq_); refine ak [] 0 follows (by kernel_rfl) (by rfl) ?_; simp only [go_sem, List.replicate_succ, List.replicate_zero, f5, f6, f7, f8, f9, f10, f11, f12]
  (repeat apply sq_); refine E3 ?_
  try simp only [go_sem, f5, f6, f7, f8, f9, f10, f11, f12]
  have hr := Option.some.inj h
  refine E4 ?_; simp only [go_sem, f5, f6, f7, f8, f9, f10, f11, f12]
  exact B9 (d' := .int .u64 (M1 .or .u64 (M1 .or .u64 (M1 .or .u64 (M1 .or .u64 (M1 .or .u64 (M1 .or .u64 (M1 .or .u64 (wr .u64 (C7 a0 0)) (wr .u64 ((wr .u64 (C7 a0 1)) * 2 ^ (min 8 64)))) (wr .u64 ((wr .u64 (C7 a0 2)) * 2 ^ (min 16 64)))) (wr .u64 ((wr .u64 (C7 a0 3)) * 2 ^ (min 24 64)))) (wr .u64 ((wr .u64 (C7 a0 4)) * 2 ^ (min 32 64)))) (wr .u64 ((wr .u64 (C7 a0 5)) * 2 ^ (min 40 64)))) (wr .u64 ((wr .u64 (C7 a0 6)) * 2 ^ (min 48 64)))) (wr .u64 ((wr .u64 (C7 a0 7)) * 2 ^ (min 56 64))))) hsc (.same _) (by simp) ⟨by subst hr; rfl, rfl⟩
theorem gZ (n : Nat) (a0 : Bs) (r : Bool) (h : L8 n a0 = some r) : Pure Tryz.prog gl 87 [.str a0] (.bool r) := by
 intro st
 unfold L8 at h
 refine O4 (N := 169) (rs := [.tmp 2]) (keep := [0, 2, 3, 4, 5, 6, 9, 13, 20, 21, 22, 23, 24, 31, 32, 33, 34, 35, 36, 37, 38, 39, 46, 47, 48, 49, 50, 51, 52, 53, 54, 55, 56, 57, 58, 59, 60, 61, 62, 75, 76, 82, 83, 84, 85, 86, 89, 90, 91, 92, 93, 94, 97, 103, 104, 105, 106, 107, 110, 111, 112, 113, 114, 117, 118, 119, 122, 123, 124, 125, 128, 134, 135, 136, 137, 138, 141, 142, 143, 144, 145, 148, 149, 150, 153, 154, 155, 158, 159, 160, 163, 164, 165, 166]) Tryz.func87 rfl rfl rfl (by kernel_rfl) rfl fun hsc => ?_
 (repeat apply sq_); apply er_; simp only [go_sem]
 (repeat apply sq_); refine O5 (body := K5 n) (kk := U5) (n := n) (s0 := a0)
  (fun (gs0 : Unit) (s0 : Bs) => [(0, .str s0)])
  (fun (gs0 : Unit) (s0 : Bs) => st)
  (fun (gt0 : Unit) (t0 : Unit) => [])
  (fun (gt0 : Unit) (t0 : Unit) => st)
  () h (D9 hsc ⟨.s, trivial⟩ (by simp))
  (fun gs0 s0 b0 h hx0 => ?_) (fun gt0 t0 fr1 st1 h hb => ?_)
 ·unfold K5 at h
  (repeat apply sq_); apply er_; simp only [go_sem]
  (repeat apply sq_); refine D4 (by rfl) (fun hc => ?_) fun hc => ?_
  ·replace h := B0 h (by first | exact hc | simpa using hc)
   refine E6 ?_; try simp only [go_sem]
   (repeat apply sq_); refine U8 ?_
   obtain ⟨f75, h⟩ := G1 h
   (repeat apply sq_); apply er_; simp only [go_sem, f75]
   (repeat apply sq_); apply er_; simp only [go_sem, f75]
   (repeat apply sq_); refine D4 (by rfl) (fun hc => ?_) fun hc => ?_
   ·replace h := B0 h (by first | exact hc | simpa using hc)
    obtain ⟨⟨f76, f77⟩, h⟩ := G1 h
    (repeat apply sq_); apply er_; simp only [go_sem, f75, f76, f77]
    (repeat apply sq_); apply er_; simp only [go_sem, f75, f76, f77]
    obtain ⟨v78, hv78, h⟩ := C6 h
    refine M6 (fun hG => (H8 _ _ (iu hv78 (by simpa using hG)))) ?_
    try simp only [go_sem, f75, f76, f77]
    (repeat apply sq_); refine pN (I9) b0 (fun (gj3 : Unit) (j3 : Bs) => [(0, .str j3)]) (fun (gj3 : Unit) (j3 : Bs) => st) (fun gj3 j3 fr1 st1 h hb => ?_) (fun hj3 => ?_)
    ·try simp only [go_sem, f75, f76, f77]
     unfold I9 at h
     refine L6 hb ?_
     (repeat apply sq_); refine Y2 ?_; try simp only [go_sem, f75, f76, f77]
     cases h
     exact U4 () (D9 hsc ⟨.s, trivial⟩ (by simp))
    ·(repeat apply sq_); refine D4 (by rfl) (fun hc => ?_) fun hc => ?_
     ·replace h := B0 h (by first | exact hc | simpa using hc)
      obtain ⟨⟨f79, f80⟩, h⟩ := G1 h
      (repeat apply sq_); apply er_; simp only [go_sem, f75, f76, f77, f79, f80]
      (repeat apply sq_); refine ak [] 0 follows (by kernel_rfl) (by rfl) ?_; simp only [go_sem, List.replicate_succ, List.replicate_zero, f75, f76, f77, f79, f80]
      obtain ⟨v81, hv81, h⟩ := C6 h
      refine Y3 (fun hG => (H8 _ _ (iu hv81 (by simpa using hG)))) ?_
      obtain ⟨f83, h⟩ := G1 h
      try simp only [go_sem, f75, f76, f77, f79, f80, f83]
      obtain ⟨v84, hv84, h⟩ := C6 h
      refine Y3 (fun hG => (H8 _ _ (iu hv84 (by simpa using hG)))) ?_
      try simp only [go_sem, f75, f76, f77, f79, f80, f83]
      (repeat apply sq_); refine D4 (by rfl) (fun hc => ?_) fun hc => ?_
      ·replace h := B0 h (by first | exact hc | simpa using hc)
       obtain ⟨⟨f85, f86⟩, h⟩ := G1 h
       (repeat apply sq_); apply er_; simp only [go_sem, f75, f76, f77, f79, f80, f83, f85, f86]
       (repeat apply sq_); refine O5 (body := K4) (kk := M4) (n := n) (s0 := (((s0.drop 1).drop 8).drop 16))
        (fun (gs4 : Unit) (s4 : Bs) => [(0, .str s4)])
        (fun (gs4 : Unit) (s4 : Bs) => st)
        (fun (gt4 : Unit) (t4 : Bs) => [(0, .str t4)])
        (fun (gt4 : Unit) (t4 : Bs) => st)
        () h (D9 hsc ⟨.s, trivial⟩ (by simp))
        (fun gs4 s4 b4 h hx4 => ?_) (fun gt4 t4 fr1 st1 h hb => ?_)
       ·unfold K4 at h
        (repeat apply sq_); refine ak [] 0 follows (by kernel_rfl) (by rfl) ?_; simp only [go_sem, List.replicate_succ, List.replicate_zero, f75, f76, f77, f79, f80, f83, f85, f86]
        obtain ⟨v100, hv100, h⟩ := C6 h
        refine Y3 (fun hG => (H8 _ _ (iu hv100 (by simpa using hG)))) ?_
        obtain ⟨f102, h⟩ := G1 h
        try simp only [go_sem, f75, f76, f77, f79, f80, f83, f85, f86, f102]
        obtain ⟨v103, hv103, h⟩ := C6 h
        refine Y3 (fun hG => (H8 _ _ (iu hv103 (by simpa using hG)))) ?_
        obtain ⟨f105, h⟩ := G1 h
        try simp only [go_sem, f75, f76, f77, f79, f80, f83, f85, f86, f102, f105]
        obtain ⟨v106, hv106, h⟩ := C6 h
        refine Y3 (fun hG => (H8 _ _ (iu hv106 (by simpa using hG)))) ?_
        obtain ⟨⟨f108, f109⟩, h⟩ := G1 h
        try simp only [go_sem, f75, f76, f77, f79, f80, f83, f85, f86, f102, f105, f108, f109]
        obtain ⟨v110, hv110, h⟩ := C6 h
        refine Y3 (fun hG => (H8 _ _ (iu hv110 (by simpa using hG)))) ?_
        try simp only [go_sem, f75, f76, f77, f79, f80, f83, f85, f86, f102, f105, f108, f109]
        (repeat apply sq_); refine D4 (by rfl) (fun hc => ?_) fun hc => ?_
        ·replace h := B0 h (by first | exact hc | simpa using hc)
         refine E6 ?_; try simp only [go_sem, f75, f76, f77, f79, f80, f83, f85, f86, f102, f105, f108, f109]
         (repeat apply sq_); refine U8 ?_
         obtain ⟨⟨f111, f112⟩, h⟩ := G1 h
         (repeat apply sq_); apply er_; simp only [go_sem, f75, f76, f77, f79, f80, f83, f85, f86, f102, f105, f108, f109, f111, f112]
         cases h
         exact U4 () (D9 hsc ⟨.s, trivial⟩ (by simp))
        ·replace h := B1 h (by first | exact hc | simpa using hc)
         (repeat apply sq_); refine Y2 ?_; try simp only [go_sem, f75, f76, f77, f79, f80, f83, f85, f86, f102, f105, f108, f109]
         cases h
         exact bL () (D9 hsc ⟨.s, trivial⟩ (by simp))
       ·try simp only [go_sem, f75, f76, f77, f79, f80, f83, f85, f86]
        unfold M4 at h
        exact hj3 () _ _ _ h (hb.trans (D9 hsc ⟨.s, trivial⟩ (by simp)))
      ·replace h := B1 h (by first | exact hc | simpa using hc)
       refine E6 ?_; try simp only [go_sem, f75, f76, f77, f79, f80, f83]
       exact hj3 () _ _ _ h (D9 hsc ⟨.s, trivial⟩ (by simp))
     ·replace h := B1 h (by first | exact hc | simpa using hc)
      refine E6 ?_; try simp only [go_sem, f75, f76, f77]
      exact hj3 () _ _ _ h (D9 hsc ⟨.s, trivial⟩ (by simp))
   ·replace h := B1 h (by first | exact hc | simpa using hc)
    refine E6 ?_; try simp only [go_sem, f75]
    obtain ⟨⟨f113, f114⟩, h⟩ := G1 h
    have e115 : Am.rowAt (bS u8c gF) ((C7 s0 0).toNat) 1 = u8c (get gF ((C7 s0 0).toNat)) := pK (fun _ => rfl) (show _ < gF.length by rw [xM]; first | omega | (simp; omega))
    (repeat apply sq_); apply er_; simp only [go_sem, f75, f113, f114, e115]
    (repeat apply sq_); apply er_; simp only [go_sem, f75, f113, f114]
    obtain ⟨⟨f116, f117⟩, h⟩ := G1 h
    have e118 : Am.rowAt (bS B7.cells lX) ((Int.fdiv (get gF ((C7 s0 0).toNat)) (2 ^ (min 4 8))).toNat) 2 = B7.cells (get lX ((Int.fdiv (get gF ((C7 s0 0).toNat)) (2 ^ (min 4 8))).toNat)) := pK (fun _ => rfl) (show _ < lX.length by rw [xO]; first | omega | (simp; omega))
    (repeat apply sq_); apply er_; simp only [go_sem, f75, f113, f114, f116, f117, e118]
    (repeat apply sq_); apply er_; simp only [go_sem, f75, f113, f114, f116, f117]
    (repeat apply sq_); refine U8 ?_
    (repeat apply sq_); apply er_; simp only [go_sem, f75, f113, f114, f116, f117]
    (repeat apply sq_); refine D4 (by rfl) (fun hc => ?_) fun hc => ?_
    ·replace h := B0 h (by first | exact hc | simpa using hc)
     obtain ⟨f120, h⟩ := G1 h
     obtain ⟨f122, h⟩ := G1 h
     (repeat apply sq_); refine ak [] 0 follows (by kernel_rfl) (by rfl) ?_; simp only [go_sem, List.replicate_succ, List.replicate_zero, f75, f113, f114, f116, f117, f120, f122]
     (repeat apply sq_); refine D4 (by rfl) (fun hc => ?_) fun hc => ?_
     ·replace h := B0 h (by first | exact hc | simpa using hc)
      (repeat apply sq_); apply er_; simp only [go_sem, f75, f113, f114, f116, f117, f120, f122]
      (repeat apply sq_); refine E3 ?_
      try simp only [go_sem, f75, f113, f114, f116, f117, f120, f122]
      obtain rfl := Option.some.inj h
      refine jy ?_; have hr := hx0 _ rfl; try simp only [go_sem, f75, f113, f114, f116, f117, f120, f122]
      refine E4 ?_; simp only [go_sem, f75, f113, f114, f116, f117, f120, f122]
      exact y3 (d' := .bool false) hsc (.same _) (by simp) ⟨by subst hr; rfl, rfl⟩
     ·replace h := B1 h (by first | exact hc | simpa using hc)
      refine E6 ?_; try simp only [go_sem, f75, f113, f114, f116, f117, f120, f122]
      obtain ⟨⟨f123, f124⟩, h⟩ := G1 h
      (repeat apply sq_); apply er_; simp only [go_sem, f75, f113, f114, f116, f117, f120, f122, f123, f124]
      cases h
      exact U4 () (aO hsc ⟨.s, trivial⟩ (by simp))
    ·replace h := B1 h (by first | exact hc | simpa using hc)
     (repeat apply sq_); apply er_; simp only [go_sem, f75, f113, f114, f116, f117]
     (repeat apply sq_); refine D4 (by rfl) (fun hc => ?_) fun hc => ?_
     ·replace h := B0 h (by first | exact hc | simpa using hc)
      obtain ⟨f126, h⟩ := G1 h
      obtain ⟨f128, h⟩ := G1 h
      obtain ⟨f130, h⟩ := G1 h
      obtain ⟨f132, h⟩ := G1 h
      (repeat apply sq_); refine ak [] 0 follows (by kernel_rfl) (by rfl) ?_; simp only [go_sem, List.replicate_succ, List.replicate_zero, f75, f113, f114, f116, f117, f126, f128, f130, f132]
      (repeat apply sq_); refine D4 (by rfl) (fun hc => ?_) fun hc => ?_
      ·replace h := B0 h (by first | exact hc | simpa using hc)
       (repeat apply sq_); apply er_; simp only [go_sem, f75, f113, f114, f116, f117, f126, f128, f130, f132]
       (repeat apply sq_); refine E3 ?_
       try simp only [go_sem, f75, f113, f114, f116, f117, f126, f128, f130, f132]
       obtain rfl := Option.some.inj h
       refine jy ?_; have hr := hx0 _ rfl; try simp only [go_sem, f75, f113, f114, f116, f117, f126, f128, f130, f132]
       refine E4 ?_; simp only [go_sem, f75, f113, f114, f116, f117, f126, f128, f130, f132]
       exact y3 (d' := .bool false) hsc (.same _) (by simp) ⟨by subst hr; rfl, rfl⟩
      ·replace h := B1 h (by first | exact hc | simpa using hc)
       refine E6 ?_; try simp only [go_sem, f75, f113, f114, f116, f117, f126, f128, f130, f132]
       obtain ⟨⟨f133, f134⟩, h⟩ := G1 h
       (repeat apply sq_); apply er_; simp only [go_sem, f75, f113, f114, f116, f117, f126, f128, f130, f132, f133, f134]
       cases h
       exact U4 () (aO hsc ⟨.s, trivial⟩ (by simp))
     ·replace h := B1 h (by first | exact hc | simpa using hc)
      (repeat apply sq_); apply er_; simp only [go_sem, f75, f113, f114, f116, f117]
      (repeat apply sq_); refine D4 (by rfl) (fun hc => ?_) fun hc => ?_
      ·replace h := B0 h (by first | exact hc | simpa using hc)
       obtain ⟨f136, h⟩ := G1 h
       obtain ⟨f138, h⟩ := G1 h
       obtain ⟨f140, h⟩ := G1 h
       obtain ⟨f142, h⟩ := G1 h
       obtain ⟨f144, h⟩ := G1 h
       obtain ⟨f146, h⟩ := G1 h
       (repeat apply sq_); refine ak [] 0 follows (by kernel_rfl) (by rfl) ?_; simp only [go_sem, List.replicate_succ, List.replicate_zero, f75, f113, f114, f116, f117, f136, f138, f140, f142, f144, f146]
       (repeat apply sq_); refine D4 (by rfl) (fun hc => ?_) fun hc => ?_
       ·replace h := B0 h (by first | exact hc | simpa using hc)
        (repeat apply sq_); apply er_; simp only [go_sem, f75, f113, f114, f116, f117, f136, f138, f140, f142, f144, f146]
        (repeat apply sq_); refine E3 ?_
        try simp only [go_sem, f75, f113, f114, f116, f117, f136, f138, f140, f142, f144, f146]
        obtain rfl := Option.some.inj h
        refine jy ?_; have hr := hx0 _ rfl; try simp only [go_sem, f75, f113, f114, f116, f117, f136, f138, f140, f142, f144, f146]
        refine E4 ?_; simp only [go_sem, f75, f113, f114, f116, f117, f136, f138, f140, f142, f144, f146]
        exact y3 (d' := .bool false) hsc (.same _) (by simp) ⟨by subst hr; rfl, rfl⟩
       ·replace h := B1 h (by first | exact hc | simpa using hc)
        refine E6 ?_; try simp only [go_sem, f75, f113, f114, f116, f117, f136, f138, f140, f142, f144, f146]
        obtain ⟨⟨f147, f148⟩, h⟩ := G1 h
        (repeat apply sq_); apply er_; simp only [go_sem, f75, f113, f114, f116, f117, f136, f138, f140, f142, f144, f146, f147, f148]
        cases h
        exact U4 () (aO hsc ⟨.s, trivial⟩ (by simp))
      ·replace h := B1 h (by first | exact hc | simpa using hc)
       (repeat apply sq_); apply er_; simp only [go_sem, f75, f113, f114, f116, f117]
       (repeat apply sq_); refine E3 ?_
       try simp only [go_sem, f75, f113, f114, f116, f117]
       obtain rfl := Option.some.inj h
       refine jy ?_; have hr := hx0 _ rfl; try simp only [go_sem, f75, f113, f114, f116, f117]
       refine E4 ?_; simp only [go_sem, f75, f113, f114, f116, f117]
       exact y3 (d' := .bool false) hsc (.same _) (by simp) ⟨by subst hr; rfl, rfl⟩
  ·replace h := B1 h (by first | exact hc | simpa using hc)
   (repeat apply sq_); refine Y2 ?_; try simp only [go_sem]
   cases h
   exact bL () (D9 hsc trivial (by simp))
 ·try simp only [go_sem]
  unfold U5 at h
  refine L6 hb ?_
  (repeat apply sq_); apply er_; simp only [go_sem]
  (repeat apply sq_); refine E3 ?_
  try simp only [go_sem]
  have hr := Option.some.inj h
  refine E4 ?_; simp only [go_sem]
  exact B9 (d' := .bool true) hsc (.same _) (by simp) ⟨by subst hr; rfl, rfl⟩
theorem gj (a0 : Bs) (a1 : Int) (r : Int) (h : Z8 a0 a1 = some r) : Pure Tryz.prog gl 103 [.str a0, .int .u8 a1] (.int .i64 r) := by
 intro st
 unfold Z8 at h
 refine O4 (N := 8) (rs := [.tmp 4]) (keep := [0, 1, 4]) Tryz.func103 rfl rfl rfl (by kernel_rfl) rfl fun hsc => ?_
 (repeat apply sq_); apply er_; simp only [go_sem]
 (repeat apply sq_); apply er_; simp only [go_sem]
 obtain ⟨v1, hv1, h⟩ := C6 h
 refine ((uj _ _ _ hv1)).to ?_
 try simp only [go_sem]
 (repeat apply sq_); refine E3 ?_
 try simp only [go_sem]
 have hr := Option.some.inj h
 refine E4 ?_; simp only [go_sem]
 exact B9 (d' := .int .i64 v1) hsc (.same _) (by simp) ⟨by subst hr; rfl, rfl⟩
theorem iZ (a0 : Int) (r : Bool) (h : V7 a0 = some r) : Pure Tryz.prog gl 104 [.int .i32 a0] (.bool r) := by
 intro st
 unfold V7 at h
 refine O4 (N := 17) (rs := [.tmp 2]) (keep := [0, 2, 3, 7, 8, 10, 14, 15]) Tryz.func104 rfl rfl rfl (by kernel_rfl) rfl fun hsc => ?_
 (repeat apply sq_); apply er_; simp only [go_sem]
 (repeat apply sq_); refine U8 ?_
 (repeat apply sq_); apply er_; simp only [go_sem]
 (repeat apply sq_); refine D4 (by rfl) (fun hc => ?_) fun hc => ?_
 ·replace h := B0 h (by first | exact hc | simpa using hc)
  (repeat apply sq_); apply er_; simp only [go_sem]
  (repeat apply sq_); refine E3 ?_
  try simp only [go_sem]
  have hr := Option.some.inj h
  refine E4 ?_; simp only [go_sem]
  exact B9 (d' := .bool true) hsc (.same _) (by simp) ⟨by subst hr; rfl, rfl⟩
 ·replace h := B1 h (by first | exact hc | simpa using hc)
  (repeat apply sq_); apply er_; simp only [go_sem]
  (repeat apply sq_); refine D4 (by rfl) (fun hc => ?_) fun hc => ?_
  ·replace h := B0 h (by first | exact hc | simpa using hc)
   (repeat apply sq_); apply er_; simp only [go_sem]
   (repeat apply sq_); refine E3 ?_
   try simp only [go_sem]
   have hr := Option.some.inj h
   refine E4 ?_; simp only [go_sem]
   exact B9 (d' := .bool true) hsc (.same _) (by simp) ⟨by subst hr; rfl, rfl⟩
  ·replace h := B1 h (by first | exact hc | simpa using hc)
   refine E6 ?_; try simp only [go_sem]
   (repeat apply sq_); apply er_; simp only [go_sem]
   (repeat apply sq_); refine E3 ?_
   try simp only [go_sem]
   have hr := Option.some.inj h
   refine E4 ?_; simp only [go_sem]
   exact B9 (d' := .bool false) hsc (.same _) (by simp) ⟨by subst hr; rfl, rfl⟩
theorem gn (n : Nat) (a0 : Bs) (a1 : Int) (r : Int) (h : T2 n a0 a1 = some r) : Pure Tryz.prog gl 99 [.str a0, .int .i32 a1] (.int .i64 r) := by
 intro st
 unfold T2 at h
 refine O4 (N := 187) (rs := [.tmp 4]) (keep := [0, 1, 4, 5, 6, 7, 8, 9, 10, 11, 12, 13, 14, 15, 16, 26, 33, 43, 51, 64, 73, 74, 75, 76, 79, 80, 81, 82, 85, 86, 87, 88, 89, 90, 91, 92, 93, 94, 95, 96, 97, 98, 108, 124, 133, 134, 135, 136, 137, 138, 139, 143, 156, 160, 164, 165, 171, 175, 176, 177, 181, 183]) Tryz.func99 rfl rfl rfl (by kernel_rfl) rfl fun hsc => ?_
 (repeat apply sq_); apply er_; simp only [go_sem]
 (repeat apply sq_); refine U8 ?_
 (repeat apply sq_); apply er_; simp only [go_sem]
 (repeat apply sq_); refine D4 (by rfl) (fun hc => ?_) fun hc => ?_
 ·replace h := B0 h (by first | exact hc | simpa using hc)
  (repeat apply sq_); apply er_; simp only [go_sem]
  obtain ⟨v1, hv1, h⟩ := C6 h
  refine ((gj _ _ _ hv1)).to ?_
  try simp only [go_sem]
  (repeat apply sq_); refine E3 ?_
  try simp only [go_sem]
  have hr := Option.some.inj h
  refine E4 ?_; simp only [go_sem]
  exact B9 (d' := .int .i64 v1) hsc (.same _) (by simp) ⟨by subst hr; rfl, rfl⟩
 ·replace h := B1 h (by first | exact hc | simpa using hc)
  (repeat apply sq_); apply er_; simp only [go_sem]
  (repeat apply sq_); refine D4 (by rfl) (fun hc => ?_) fun hc => ?_
  ·replace h := B0 h (by first | exact hc | simpa using hc)
   (repeat apply sq_); apply er_; simp only [go_sem]
   (repeat apply sq_); refine O5 (body := Y6 a0) (kk := cw) (n := n) (s0 := 0)
    (fun (gs0 : Unit) (s0 : Nat) => [(175, .it st.length)])
    (fun (gs0 : Unit) (s0 : Nat) => st ++ [some (.sit a0 s0)])
    (fun (gt0 : Unit) (t0 : Unit) => [])
    (fun (gt0 : Unit) (t0 : Unit) => st)
    () h (G0 hsc (.lv (.nil _)) (by simp) ⟨.s, trivial⟩ (by simp))
    (fun gs0 s0 b0 h hx0 => ?_) (fun gt0 t0 fr1 st1 h hb => ?_)
   ·unfold Y6 at h
    (repeat apply sq_); apply er_; simp only [go_sem]
    (repeat apply sq_); refine D4 (by rfl) (fun hc => ?_) fun hc => ?_
    ·replace h := B0 h (by first | exact hc | simpa using hc)
     refine E6 ?_; try simp only [go_sem]
     (repeat apply sq_); refine U8 ?_
     obtain ⟨f3, h⟩ := G1 h
     (repeat apply sq_); apply er_; simp only [go_sem, f3]
     (repeat apply sq_); apply er_; simp only [go_sem, f3]
     (repeat apply sq_); refine D4 (by rfl) (fun hc => ?_) fun hc => ?_
     ·replace h := B0 h (by first | exact hc | simpa using hc)
      (repeat apply sq_); apply er_; simp only [go_sem, f3]
      (repeat apply sq_); refine E3 ?_
      try simp only [go_sem, f3]
      obtain rfl := Option.some.inj h
      refine jy ?_; have hr := hx0 _ rfl; try simp only [go_sem, f3]
      refine E4 ?_; simp only [go_sem, f3]
      exact y3 (d' := .int .i64 (↑s0 : Int)) hsc (.same _) (by simp) ⟨by subst hr; rfl, rfl⟩
     ·replace h := B1 h (by first | exact hc | simpa using hc)
      refine E6 ?_; try simp only [go_sem, f3]
      cases h
      exact U4 () (G0 hsc (.lv (.nil _)) (by simp) ⟨.s, trivial⟩ (by simp))
    ·replace h := B1 h (by first | exact hc | simpa using hc)
     (repeat apply sq_); refine Y2 ?_; try simp only [go_sem]
     cases h
     exact bL () (aO hsc trivial (by simp))
   ·try simp only [go_sem]
    unfold cw at h
    refine L6 hb ?_
    (repeat apply sq_); apply er_; simp only [go_sem]
    (repeat apply sq_); refine E3 ?_
    try simp only [go_sem]
    have hr := Option.some.inj h
    refine E4 ?_; simp only [go_sem]
    exact B9 (d' := .int .i64 (-1)) hsc (.same _) (by simp) ⟨by subst hr; rfl, rfl⟩
  ·replace h := B1 h (by first | exact hc | simpa using hc)
   (repeat apply sq_); apply er_; simp only [go_sem]
   obtain ⟨v4, hv4, h⟩ := C6 h
   refine ((iZ _ _ hv4)).to ?_
   try simp only [go_sem]
   (repeat apply sq_); refine D4 (by rfl) (fun hc => ?_) fun hc => ?_
   ·replace h := B0 h (by first | exact hc | simpa using hc)
    (repeat apply sq_); apply er_; simp only [go_sem]
    (repeat apply sq_); refine E3 ?_
    try simp only [go_sem]
    have hr := Option.some.inj h
    refine E4 ?_; simp only [go_sem]
    exact B9 (d' := .int .i64 (-1)) hsc (.same _) (by simp) ⟨by subst hr; rfl, rfl⟩
   ·replace h := B1 h (by first | exact hc | simpa using hc)
    (repeat apply sq_); refine tL ?_
    (repeat apply sq_); apply er_; simp only [go_sem]
    (repeat apply sq_); apply er_; simp only [go_sem]
    (repeat apply sq_); apply er_; simp only [go_sem]
    (repeat apply sq_); apply er_; simp only [go_sem]
    (repeat apply sq_); refine O5 (body := R0 n a1 a0) (kk := cB) (n := n) (s0 := ())
     (fun (gs1 : Unit) (s1 : Unit) => [(0, .str a0), (7, .str (I3 a1)), (8, .int .i64 (wr .i64 ((↑((I3 a1).length) : Int) - 1))), (9, .int .i64 (wr .i64 ((↑((I3 a1).length) : Int) - 1)))])
     (fun (gs1 : Unit) (s1 : Unit) => st)
     (fun (gt1 : Unit) (t1 : Unit) => [])
     (fun (gt1 : Unit) (t1 : Unit) => st)
     () h (D9 hsc ⟨.s, .s, .s, .s, trivial⟩ (by simp))
     (fun gs1 s1 b1 h hx1 => ?_) (fun gt1 t1 fr1 st1 h hb => ?_)
    ·unfold R0 at h
     (repeat apply sq_); apply er_; simp only [go_sem]
     (repeat apply sq_); refine D4 (by rfl) (fun hc => ?_) fun hc => ?_
     ·replace h := B0 h (by first | exact hc | simpa using hc)
      refine E6 ?_; try simp only [go_sem]
      (repeat apply sq_); refine U8 ?_
      (repeat apply sq_); refine tL ?_
      obtain ⟨⟨f5, f6⟩, h⟩ := G1 h
      obtain ⟨f7, h⟩ := G1 h
      (repeat apply sq_); refine ak [] 0 follows (by kernel_rfl) (by rfl) ?_; simp only [go_sem, List.replicate_succ, List.replicate_zero, f5, f6, f7]
      (repeat apply sq_); refine pN (Y7 n a1 a0) b1 (fun (gj2 : Unit) (j2 : Int) => [(0, .str a0), (7, .str (I3 a1)), (8, .int .i64 (wr .i64 ((↑((I3 a1).length) : Int) - 1))), (9, .int .i64 j2)]) (fun (gj2 : Unit) (j2 : Int) => st) (fun gj2 j2 fr1 st1 h hb => ?_) (fun hj2 => ?_)
      ·try simp only [go_sem, f5, f6, f7]
       unfold Y7 at h
       refine L6 hb ?_
       (repeat apply sq_); apply er_; simp only [go_sem, f5, f6, f7]
       (repeat apply sq_); refine O5 (body := cx a1 j2 a0) (kk := cA j2 a1) (n := n) (s0 := 1)
        (fun (gs3 : Unit) (s3 : Int) => [(0, .str a0), (7, .str (I3 a1)), (8, .int .i64 (wr .i64 ((↑((I3 a1).length) : Int) - 1))), (9, .int .i64 j2), (12, .int .i64 s3)])
        (fun (gs3 : Unit) (s3 : Int) => st)
        (fun (gt3 : Unit) (t3 : Unit) => [(8, .int .i64 (wr .i64 ((↑((I3 a1).length) : Int) - 1))), (9, .int .i64 j2)])
        (fun (gt3 : Unit) (t3 : Unit) => st)
        () h (D9 hsc ⟨.s, .s, .s, .s, .s, trivial⟩ (by simp))
        (fun gs3 s3 b3 h hx3 => ?_) (fun gt3 t3 fr1 st1 h hb => ?_)
       ·unfold cx at h
        (repeat apply sq_); apply er_; simp only [go_sem, f5, f6, f7]
        (repeat apply sq_); refine D4 (by rfl) (fun hc => ?_) fun hc => ?_
        ·replace h := B0 h (by first | exact hc | simpa using hc)
         refine E6 ?_; try simp only [go_sem, f5, f6, f7]
         (repeat apply sq_); refine U8 ?_
         obtain ⟨⟨f15, f16⟩, h⟩ := G1 h
         obtain ⟨⟨f17, f18⟩, h⟩ := G1 h
         (repeat apply sq_); refine ak [] 0 follows (by kernel_rfl) (by rfl) ?_; simp only [go_sem, List.replicate_succ, List.replicate_zero, f5, f6, f7, f15, f16, f17, f18]
         (repeat apply sq_); refine D4 (by rfl) (fun hc => ?_) fun hc => ?_
         ·replace h := B0 h (by first | exact hc | simpa using hc)
          cases h
         ·replace h := B1 h (by first | exact hc | simpa using hc)
          refine E6 ?_; try simp only [go_sem, f5, f6, f7, f15, f16, f17, f18]
          (repeat apply sq_); apply er_; simp only [go_sem, f5, f6, f7, f15, f16, f17, f18]
          cases h
          exact U4 () (D9 hsc ⟨.s, .s, .s, .s, .s, trivial⟩ (by simp))
        ·replace h := B1 h (by first | exact hc | simpa using hc)
         (repeat apply sq_); refine Y2 ?_; try simp only [go_sem, f5, f6, f7]
         cases h
         exact bL () (D9 hsc ⟨.s, .s, trivial⟩ (by simp))
       ·try simp only [go_sem, f5, f6, f7]
        unfold cA at h
        refine L6 hb ?_
        (repeat apply sq_); apply er_; simp only [go_sem, f5, f6, f7]
        (repeat apply sq_); refine E3 ?_
        try simp only [go_sem, f5, f6, f7]
        obtain rfl := Option.some.inj h
        refine jy ?_; have hr := hx1 _ rfl; try simp only [go_sem, f5, f6, f7]
        refine E4 ?_; simp only [go_sem, f5, f6, f7]
        exact B9 (d' := .int .i64 (wr .i64 (j2 - (wr .i64 ((↑((I3 a1).length) : Int) - 1))))) hsc (.same _) (by simp) ⟨by subst hr; rfl, rfl⟩
      ·(repeat apply sq_); refine D4 (by rfl) (fun hc => ?_) fun hc => ?_
       ·replace h := B0 h (by first | exact hc | simpa using hc)
        obtain ⟨⟨f8, f9⟩, h⟩ := G1 h
        (repeat apply sq_); refine ak [] 0 follows (by kernel_rfl) (by rfl) ?_; simp only [go_sem, List.replicate_succ, List.replicate_zero, f5, f6, f7, f8, f9]
        obtain ⟨v10, hv10, h⟩ := C6 h
        refine A0 (gj _ _ _ hv10) ?_
        try simp only [go_sem, f5, f6, f7, f8, f9]
        (repeat apply sq_); apply er_; simp only [go_sem, f5, f6, f7, f8, f9]
        (repeat apply sq_); refine D4 (by rfl) (fun hc => ?_) fun hc => ?_
        ·replace h := B0 h (by first | exact hc | simpa using hc)
         (repeat apply sq_); apply er_; simp only [go_sem, f5, f6, f7, f8, f9]
         (repeat apply sq_); refine E3 ?_
         try simp only [go_sem, f5, f6, f7, f8, f9]
         obtain rfl := Option.some.inj h
         refine jy ?_; have hr := hx1 _ rfl; try simp only [go_sem, f5, f6, f7, f8, f9]
         refine E4 ?_; simp only [go_sem, f5, f6, f7, f8, f9]
         exact B9 (d' := .int .i64 (-1)) hsc (.same _) (by simp) ⟨by subst hr; rfl, rfl⟩
        ·replace h := B1 h (by first | exact hc | simpa using hc)
         refine E6 ?_; try simp only [go_sem, f5, f6, f7, f8, f9]
         (repeat apply sq_); apply er_; simp only [go_sem, f5, f6, f7, f8, f9]
         exact hj2 () _ _ _ h (D9 hsc ⟨.s, .s, .s, .s, trivial⟩ (by simp))
       ·replace h := B1 h (by first | exact hc | simpa using hc)
        refine E6 ?_; try simp only [go_sem, f5, f6, f7]
        exact hj2 () _ _ _ h (D9 hsc ⟨.s, .s, .s, .s, trivial⟩ (by simp))
     ·replace h := B1 h (by first | exact hc | simpa using hc)
      (repeat apply sq_); refine Y2 ?_; try simp only [go_sem]
      cases h
      exact bL () (D9 hsc trivial (by simp))
    ·try simp only [go_sem]
     unfold cB at h
     refine L6 hb ?_
     (repeat apply sq_); apply er_; simp only [go_sem]
     (repeat apply sq_); refine E3 ?_
     try simp only [go_sem]
     have hr := Option.some.inj h
     refine E4 ?_; simp only [go_sem]
     exact B9 (d' := .int .i64 (-1)) hsc (.same _) (by simp) ⟨by subst hr; rfl, rfl⟩
end Go.Proofs.YtaohdfpcdfbnlaaGreatDoor
