import Derived.Test.YtaohdfpcdfbnlaaGreatDoorBase
import Derived.Test.YtaohdfpcdfbnlaaGreatDoorHand
import Derived.Test.YtaohdfpcdfbnlaaGreatDoorMirrors
import Derived.Test.YtaohdfpcdfbnlaaGreatDoorHand2
import Derived.Test.YtaohdfpcdfbnlaaGreatDoorWalk2
import Derived.Test.YtaohdfpcdfbnlaaGreatDoorWalk3
import Derived.Test.YtaohdfpcdfbnlaaGreatDoorWalk4
import Derived.Test.YtaohdfpcdfbnlaaGreatDoorWalk7
import Derived.Test.YtaohdfpcdfbnlaaGreatDoorWalk8
set_option linter.unusedVariables false
set_option linter.unusedSimpArgs false
set_option maxHeartbeats 2000000
set_option maxRecDepth 100000
namespace Go.Proofs.YtaohdfpcdfbnlaaGreatDoor
open Go Go.Am
theorem gq (a0 : Int) (r : Bool) (h : W7 a0 = some r) : Pure Tryz.prog gl 100 [.int .i64 a0] (.bool r) := by
 intro st
 unfold W7 at h
 refine O4 (N := 5) (rs := [.tmp 2]) (keep := [0, 2]) Tryz.func100 rfl rfl rfl (by kernel_rfl) rfl fun hsc => ?_
 (repeat apply sq_); apply er_; simp only [go_sem]
 (repeat apply sq_); apply er_; simp only [go_sem]
 (repeat apply sq_); refine E3 ?_
 try simp only [go_sem]
 have hr := Option.some.inj h
 refine E4 ?_; simp only [go_sem]
 exact B9 (d' := .bool (decide (8 < a0))) hsc (.same _) (by simp) ⟨by subst hr; rfl, rfl⟩
theorem lB (n : Nat) (a0 : Bs) (a1 : Bs) (r : Int) (h : ck n a0 a1 = some r) : Pure Tryz.prog gl 97 [.str a0, .str a1] (.int .i64 r) := by
 intro st
 unfold ck at h
 refine O4 (N := 55) (rs := [.tmp 4]) (keep := [0, 1, 4, 5, 6, 7, 8, 9, 10, 12, 15, 20, 26, 32, 36, 42, 45, 46, 47, 53]) Tryz.func97 rfl rfl rfl (by kernel_rfl) rfl fun hsc => ?_
 (repeat apply sq_); apply er_; simp only [go_sem]
 (repeat apply sq_); apply er_; simp only [go_sem]
 (repeat apply sq_); refine D4 (by rfl) (fun hc => ?_) fun hc => ?_
 ·replace h := B0 h (by first | exact hc | simpa using hc)
  (repeat apply sq_); apply er_; simp only [go_sem]
  (repeat apply sq_); refine E3 ?_
  try simp only [go_sem]
  have hr := Option.some.inj h
  refine E4 ?_; simp only [go_sem]
  exact B9 (d' := .int .i64 (-1)) hsc (.same _) (by simp) ⟨by subst hr; rfl, rfl⟩
 ·replace h := B1 h (by first | exact hc | simpa using hc)
  refine E6 ?_; try simp only [go_sem]
  (repeat apply sq_); apply er_; simp only [go_sem]
  (repeat apply sq_); refine D4 (by rfl) (fun hc => ?_) fun hc => ?_
  ·replace h := B0 h (by first | exact hc | simpa using hc)
   obtain ⟨f1, h⟩ := G1 h
   (repeat apply sq_); apply er_; simp only [go_sem, f1]
   (repeat apply sq_); apply er_; simp only [go_sem, f1]
   (repeat apply sq_); refine pN (Y8 n a0) r (fun (gj0 : Unit) (j0 : Int) => [(0, .str a0), (5, .int .i32 j0)]) (fun (gj0 : Unit) (j0 : Int) => st) (fun gj0 j0 fr1 st1 h hb => ?_) (fun hj0 => ?_)
   ·try simp only [go_sem, f1]
    unfold Y8 at h
    refine L6 hb ?_
    (repeat apply sq_); apply er_; simp only [go_sem, f1]
    obtain ⟨v2, hv2, h⟩ := C6 h
    refine ((gn n _ _ _ hv2)).to ?_
    try simp only [go_sem, f1]
    (repeat apply sq_); refine E3 ?_
    try simp only [go_sem, f1]
    have hr := Option.some.inj h
    refine E4 ?_; simp only [go_sem, f1]
    exact B9 (d' := .int .i64 v2) hsc (.same _) (by simp) ⟨by subst hr; rfl, rfl⟩
   ·(repeat apply sq_); refine D4 (by rfl) (fun hc => ?_) fun hc => ?_
    ·replace h := B0 h (by first | exact hc | simpa using hc)
     (repeat apply sq_); apply er_; simp only [go_sem, f1]
     exact hj0 () _ _ _ h (D9 hsc ⟨.s, .s, trivial⟩ (by simp))
    ·replace h := B1 h (by first | exact hc | simpa using hc)
     refine E6 ?_; try simp only [go_sem, f1]
     exact hj0 () _ _ _ h (D9 hsc ⟨.s, .s, trivial⟩ (by simp))
  ·replace h := B1 h (by first | exact hc | simpa using hc)
   refine E6 ?_; try simp only [go_sem]
   (repeat apply sq_); apply er_; simp only [go_sem]
   obtain ⟨v3, hv3, h⟩ := C6 h
   refine ((gq _ _ hv3)).to ?_
   try simp only [go_sem]
   (repeat apply sq_); refine pN (Z0 n a0 a1) r (fun (gj1 : Unit) (j1 : Unit) => [(0, .str a0), (1, .str a1)]) (fun (gj1 : Unit) (j1 : Unit) => st) (fun gj1 j1 fr1 st1 h hb => ?_) (fun hj1 => ?_)
   ·try simp only [go_sem]
    unfold Z0 at h
    refine L6 hb ?_
    (repeat apply sq_); apply er_; simp only [go_sem]
    (repeat apply sq_); refine O5 (body := Y9 n a0 a1) (kk := cC) (n := n) (s0 := 0)
     (fun (gs2 : Unit) (s2 : Nat) => [(1, .str a1), (45, .it st.length)])
     (fun (gs2 : Unit) (s2 : Nat) => st ++ [some (.sit a0 s2)])
     (fun (gt2 : Unit) (t2 : Unit) => [])
     (fun (gt2 : Unit) (t2 : Unit) => st)
     () h (G0 hsc (.lv (.nil _)) (by simp) ⟨.s, .s, trivial⟩ (by simp))
     (fun gs2 s2 b2 h hx2 => ?_) (fun gt2 t2 fr1 st1 h hb => ?_)
    ·unfold Y9 at h
     (repeat apply sq_); apply er_; simp only [go_sem]
     (repeat apply sq_); refine D4 (by rfl) (fun hc => ?_) fun hc => ?_
     ·replace h := B0 h (by first | exact hc | simpa using hc)
      refine E6 ?_; try simp only [go_sem]
      (repeat apply sq_); refine U8 ?_
      obtain ⟨f6, h⟩ := G1 h
      (repeat apply sq_); apply er_; simp only [go_sem, f6]
      (repeat apply sq_); apply er_; simp only [go_sem, f6]
      obtain ⟨v7, hv7, h⟩ := C6 h
      refine ((gn n _ _ _ hv7)).to ?_
      try simp only [go_sem, f6]
      (repeat apply sq_); refine D4 (by rfl) (fun hc => ?_) fun hc => ?_
      ·replace h := B0 h (by first | exact hc | simpa using hc)
       (repeat apply sq_); apply er_; simp only [go_sem, f6]
       (repeat apply sq_); refine E3 ?_
       try simp only [go_sem, f6]
       obtain rfl := Option.some.inj h
       refine jy ?_; have hr := hx2 _ rfl; try simp only [go_sem, f6]
       refine E4 ?_; simp only [go_sem, f6]
       exact y3 (d' := .int .i64 (↑s2 : Int)) hsc (.same _) (by simp) ⟨by subst hr; rfl, rfl⟩
      ·replace h := B1 h (by first | exact hc | simpa using hc)
       refine E6 ?_; try simp only [go_sem, f6]
       cases h
       exact U4 () (G0 hsc (.lv (.nil _)) (by simp) ⟨.s, .s, trivial⟩ (by simp))
     ·replace h := B1 h (by first | exact hc | simpa using hc)
      (repeat apply sq_); refine Y2 ?_; try simp only [go_sem]
      cases h
      exact bL () (aO hsc trivial (by simp))
    ·try simp only [go_sem]
     unfold cC at h
     refine L6 hb ?_
     (repeat apply sq_); apply er_; simp only [go_sem]
     (repeat apply sq_); refine E3 ?_
     try simp only [go_sem]
     have hr := Option.some.inj h
     refine E4 ?_; simp only [go_sem]
     exact B9 (d' := .int .i64 (-1)) hsc (.same _) (by simp) ⟨by subst hr; rfl, rfl⟩
   ·(repeat apply sq_); refine D4 (by rfl) (fun hc => ?_) fun hc => ?_
    ·replace h := B0 h (by first | exact hc | simpa using hc)
     cases h
    ·replace h := B1 h (by first | exact hc | simpa using hc)
     refine E6 ?_; try simp only [go_sem]
     exact hj1 () _ _ _ h (D9 hsc ⟨.s, .s, trivial⟩ (by simp))
theorem mI (n : Nat) (a0 : Bs) (a1 : Bs) (r : Int) (h : dn n a0 a1 = some r) : Pure Tryz.prog gl 97 [.str a0, .str a1] (.int .i64 r) := by
 unfold dn at h
 cases hc : decide (8 < a0.length) with
 | true =>
  rw [hc] at h
  obtain ⟨hp, h⟩ := G1 h
  cases h
  exact sG a0 a1 hp.1 (of_decide_eq_true hc) hp.2.1 hp.2.2.1 hp.2.2.2
 | false =>
  rw [hc] at h
  exact lB n a0 a1 r h
theorem jZ (n : Nat) (a0 : Bs) (a1 : Bs) (r : Bool) (h : T9 n a0 a1 = some r) : Pure Tryz.prog gl 88 [.str a0, .str a1] (.bool r) := by
 intro st
 unfold T9 at h
 refine O4 (N := 9) (rs := [.tmp 4]) (keep := [0, 1, 4]) Tryz.func88 rfl rfl rfl (by kernel_rfl) rfl fun hsc => ?_
 (repeat apply sq_); apply er_; simp only [go_sem]
 (repeat apply sq_); apply er_; simp only [go_sem]
 obtain ⟨v1, hv1, h⟩ := C6 h
 refine ((mI n _ _ _ hv1)).to ?_
 try simp only [go_sem]
 (repeat apply sq_); refine E3 ?_
 try simp only [go_sem]
 have hr := Option.some.inj h
 refine E4 ?_; simp only [go_sem]
 exact B9 (d' := .bool (decide (0 ≤ v1))) hsc (.same _) (by simp) ⟨by subst hr; rfl, rfl⟩
theorem qK (n : Nat) (a0 : Bs) (r : Bool) (h : fV n a0 = some r) : Pure Tryz.prog gl 70 [.str a0] (.bool r) := by
 intro st
 unfold fV at h
 refine O4 (N := 21) (rs := [.tmp 2]) (keep := [0, 2, 3, 9, 10, 13, 14, 17, 18, 19]) Tryz.func70 rfl rfl rfl (by kernel_rfl) rfl fun hsc => ?_
 (repeat apply sq_); apply er_; simp only [go_sem]
 (repeat apply sq_); apply er_; simp only [go_sem]
 obtain ⟨v1, hv1, h⟩ := C6 h
 refine ((dQ n _ _ hv1)).to ?_
 try simp only [go_sem]
 (repeat apply sq_); apply er_; simp only [go_sem]
 obtain ⟨v2, hv2, h⟩ := C6 h
 refine M6 (fun hG => (gZ n _ _ (iu hv2 (by simpa using hG)))) ?_
 try simp only [go_sem]
 obtain ⟨v3, hv3, h⟩ := C6 h
 refine M6 (fun hG => (jZ n _ _ _ (iu hv3 (by simpa using hG)))) ?_
 try simp only [go_sem]
 (repeat apply sq_); refine E3 ?_
 try simp only [go_sem]
 have hr := Option.some.inj h
 refine E4 ?_; simp only [go_sem]
 exact B9 (d' := .bool (bif (bif (bif (decide (1 ≤ v1)) then (decide (v1 ≤ 30)) else false) then v2 else false) then (!v3) else false)) hsc (.same _) (by simp) ⟨by subst hr; rfl, rfl⟩
theorem qp (n : Nat) (a0 : w4) (a1 : A9) (a2 : w9) (r : Int) (h : eA n a0 a1 a2 = some r) : Pure Tryz.prog gl 47 [.agg [.sl false 2 40 (rows w7.cells a0.types), .sl false 3 32 (rows x9.cells a0.C9)], .agg [.sl false 1 8 (rows U2 a1.up), .sl false 1 8 (rows U2 a1.down)], .agg [.str a2.word, .sl false 2 32 (rows w8.cells a2.graph.nodes), .int .i64 a2.weight, .int .i64 a2.meaning.kind, .str a2.meaning.name, .int .i64 a2.meaning.index, .str a2.meaning.type.base, .sl false 2 40 (rows u0.cells a2.meaning.type.args), .sl false 6 96 (rows w5.cells a2.meaning.args)]] (.int .i64 r) := by
 intro st
 unfold eA at h
 refine O4 (N := 34) (rs := [.tmp 6]) (keep := [0, 1, 2, 3, 4, 5, 6, 7, 11, 16, 17, 18, 19, 27]) Tryz.func47 rfl rfl rfl (by kernel_rfl) rfl fun hsc => ?_
 (repeat apply sq_); apply er_; simp only [go_sem]
 (repeat apply sq_); apply er_; simp only [go_sem]
 obtain ⟨v1, hv1, h⟩ := C6 h
 refine ((qK n _ _ hv1)).to ?_
 try simp only [go_sem]
 (repeat apply sq_); refine D4 (by rfl) (fun hc => ?_) fun hc => ?_
 ·replace h := B0 h (by first | exact hc | simpa using hc)
  (repeat apply sq_); apply er_; simp only [go_sem]
  (repeat apply sq_); refine E3 ?_
  try simp only [go_sem]
  have hr := Option.some.inj h
  refine E4 ?_; simp only [go_sem]
  exact y3 (d' := .int .i64 10) hsc (.same _) (by simp) ⟨by subst hr; rfl, rfl⟩
 ·replace h := B1 h (by first | exact hc | simpa using hc)
  refine E6 ?_; try simp only [go_sem]
  (repeat apply sq_); apply er_; simp only [go_sem]
  (repeat apply sq_); refine D4 (by rfl) (fun hc => ?_) fun hc => ?_
  ·replace h := B0 h (by first | exact hc | simpa using hc)
   (repeat apply sq_); apply er_; simp only [go_sem]
   (repeat apply sq_); refine E3 ?_
   try simp only [go_sem]
   have hr := Option.some.inj h
   refine E4 ?_; simp only [go_sem]
   exact y3 (d' := .int .i64 3) hsc (.same _) (by simp) ⟨by subst hr; rfl, rfl⟩
  ·replace h := B1 h (by first | exact hc | simpa using hc)
   refine E6 ?_; try simp only [go_sem]
   (repeat apply sq_); apply er_; simp only [go_sem]
   obtain ⟨v2, hv2, h⟩ := C6 h
   refine ((gY n _ _ _ _ hv2)).to ?_
   try simp only [go_sem]
   (repeat apply sq_); apply er_; simp only [go_sem]
   (repeat apply sq_); refine D4 (by rfl) (fun hc => ?_) fun hc => ?_
   ·replace h := B0 h (by first | exact hc | simpa using hc)
    (repeat apply sq_); apply er_; simp only [go_sem]
    (repeat apply sq_); refine E3 ?_
    try simp only [go_sem]
    have hr := Option.some.inj h
    refine E4 ?_; simp only [go_sem]
    exact y3 (d' := .int .i64 v2.code) hsc (.same _) (by simp) ⟨by subst hr; rfl, rfl⟩
   ·replace h := B1 h (by first | exact hc | simpa using hc)
    refine E6 ?_; try simp only [go_sem]
    (repeat apply sq_); apply er_; simp only [go_sem]
    obtain ⟨v3, hv3, h⟩ := C6 h
    refine ((jY n _ _ hv3)).to ?_
    try simp only [go_sem]
    (repeat apply sq_); refine E3 ?_
    try simp only [go_sem]
    have hr := Option.some.inj h
    refine E4 ?_; simp only [go_sem]
    exact y3 (d' := .int .i64 v3.code) hsc (.same _) (by simp) ⟨by subst hr; rfl, rfl⟩
theorem dA (n : Nat) (a0 : x5) (r : y7) (h : R2 n a0 = some r) : Pure Tryz.prog gl 11 [.agg [.sl false 2 40 (rows w7.cells a0.hierarchy.types), .sl false 3 32 (rows x9.cells a0.hierarchy.C9), .sl false 10 152 (rows u6.cells a0.rules), .sl false 9 144 (rows w9.cells a0.D0), .sl false 2 32 (rows w8.cells a0.start.nodes)]] (.agg [.int .i64 r.code, .int .i64 r.index]) := by
 intro st
 unfold R2 at h
 refine O4 (N := 112) (rs := [.cell 2 41]) (keep := [0, 1, 2, 3, 4, 5, 6, 7, 8, 10, 11, 12, 13, 14, 15, 22, 27, 34, 35, 36, 37, 38, 45, 46, 47, 48, 55, 65, 77, 83, 84, 85, 86, 95, 107]) Tryz.func11 rfl rfl rfl (by kernel_rfl) rfl fun hsc => ?_
 (repeat apply sq_); apply er_; simp only [go_sem]
 (repeat apply sq_); apply er_; simp only [go_sem]
 (repeat apply sq_); apply er_; simp only [go_sem]
 obtain ⟨v1, hv1, h⟩ := C6 h
 refine ((kG _ _ hv1)).to ?_
 try simp only [go_sem]
 (repeat apply sq_); apply er_; simp only [go_sem]
 (repeat apply sq_); refine D4 (by rfl) (fun hc => ?_) fun hc => ?_
 ·replace h := B0 h (by first | exact hc | simpa using hc)
  (repeat apply sq_); apply er_; simp only [go_sem]
  (repeat apply sq_); refine E3 ?_
  try simp only [go_sem]
  have hr := Option.some.inj h
  refine E4 ?_; simp only [go_sem]
  exact y3 (d' := .agg [.int .i64 v1.code, .int .i64 v1.index]) hsc (.same _) (by simp) ⟨by subst hr; rfl, rfl⟩
 ·replace h := B1 h (by first | exact hc | simpa using hc)
  refine E6 ?_; try simp only [go_sem]
  (repeat apply sq_); apply er_; simp only [go_sem]
  (repeat apply sq_); refine D4 (by rfl) (fun hc => ?_) fun hc => ?_
  ·replace h := B0 h (by first | exact hc | simpa using hc)
   (repeat apply sq_); apply er_; simp only [go_sem]
   obtain ⟨v2, hv2, h⟩ := C6 h
   refine ((R9 _ _ _ hv2)).to ?_
   try simp only [go_sem]
   (repeat apply sq_); refine E3 ?_
   try simp only [go_sem]
   have hr := Option.some.inj h
   refine E4 ?_; simp only [go_sem]
   exact y3 (d' := .agg [.int .i64 v2.code, .int .i64 v2.index]) hsc (.same _) (by simp) ⟨by subst hr; rfl, rfl⟩
  ·replace h := B1 h (by first | exact hc | simpa using hc)
   refine E6 ?_; try simp only [go_sem]
   (repeat apply sq_); apply er_; simp only [go_sem]
   (repeat apply sq_); refine D4 (by rfl) (fun hc => ?_) fun hc => ?_
   ·replace h := B0 h (by first | exact hc | simpa using hc)
    (repeat apply sq_); apply er_; simp only [go_sem]
    obtain ⟨v3, hv3, h⟩ := C6 h
    refine ((R9 _ _ _ hv3)).to ?_
    try simp only [go_sem]
    (repeat apply sq_); refine E3 ?_
    try simp only [go_sem]
    have hr := Option.some.inj h
    refine E4 ?_; simp only [go_sem]
    exact y3 (d' := .agg [.int .i64 v3.code, .int .i64 v3.index]) hsc (.same _) (by simp) ⟨by subst hr; rfl, rfl⟩
   ·replace h := B1 h (by first | exact hc | simpa using hc)
    refine E6 ?_; try simp only [go_sem]
    (repeat apply sq_); apply er_; simp only [go_sem]
    obtain ⟨v4, hv4, h⟩ := C6 h
    refine ((gM _ _ hv4)).to ?_
    try simp only [go_sem]
    (repeat apply sq_); apply er_; simp only [go_sem]
    (repeat apply sq_); apply er_; simp only [go_sem]
    (repeat apply sq_); refine fG (t := 45) rfl fun hl0 => ?_
    simp only [eF] at hl0
    (repeat apply sq_); refine arg_ (body := aE n a0 v4) (kk := aH n a0 v4) (n := a0.rules.length) (s0 := [])
     (fun (gs0 : Unit) (k0 : Nat) (s0 : (List (Bs × Int))) => [(1, .ptr st.length 0 0 0), (2, .ptr (st.length + 1) 0 0 0), (3, .ptr (st.length + 2) 0 0 0), (5, .ptr (st.length + 4) 0 0 0), (6, .mp (st.length + 5)), (45, .sl false 10 152 (rows u6.cells a0.rules)), (46, .int .i64 (↑a0.rules.length : Int)), (47, .int .i64 (↑k0 : Int))])
     (fun (gs0 : Unit) (k0 : Nat) (s0 : (List (Bs × Int))) => st ++ [some (.arr 0 5 0 [[.sl false 2 40 (rows w7.cells a0.hierarchy.types), .sl false 3 32 (rows x9.cells a0.hierarchy.C9), .sl false 10 152 (rows u6.cells a0.rules), .sl false 9 144 (rows w9.cells a0.D0), .sl false 2 32 (rows w8.cells a0.start.nodes)]]), some (.arr 0 2 0 [[.int .i64 0, .int .i64 0]]), some (.arr 0 2 0 [[.sl false 2 40 (rows w7.cells a0.hierarchy.types), .sl false 3 32 (rows x9.cells a0.hierarchy.C9)]]), none, some (.arr 0 2 0 [[.sl false 1 8 (rows U2 v4.up), .sl false 1 8 (rows U2 v4.down)]]), some (.mps false (mrw O1 s0))])
     (fun (gt0 : Unit) (t0 : (List (Bs × Int))) => [(1, .ptr st.length 0 0 0), (2, .ptr (st.length + 1) 0 0 0), (3, .ptr (st.length + 2) 0 0 0), (5, .ptr (st.length + 4) 0 0 0)])
     (fun (gt0 : Unit) (t0 : (List (Bs × Int))) => st ++ [some (.arr 0 5 0 [[.sl false 2 40 (rows w7.cells a0.hierarchy.types), .sl false 3 32 (rows x9.cells a0.hierarchy.C9), .sl false 10 152 (rows u6.cells a0.rules), .sl false 9 144 (rows w9.cells a0.D0), .sl false 2 32 (rows w8.cells a0.start.nodes)]]), some (.arr 0 2 0 [[.int .i64 0, .int .i64 0]]), some (.arr 0 2 0 [[.sl false 2 40 (rows w7.cells a0.hierarchy.types), .sl false 3 32 (rows x9.cells a0.hierarchy.C9)]]), none, some (.arr 0 2 0 [[.sl false 1 8 (rows U2 v4.up), .sl false 1 8 (rows U2 v4.down)]])])
     () h (G0 hsc (.lv (.lv (.lv (.dead _ _ _ (.lv (.lv (.nil _))))))) (by simp) ⟨.s, .s, .s, .s, .s, .s, .s, .s, trivial⟩ (by simp))
     (fun gs0 k0 s0 b0 hk0 h hx0 => ?_) (fun gs0 s0 => ?_) (fun gt0 t0 fr1 st1 h hb => ?_)
    ·unfold aE at h
     have hw0 : wr .i64 ((↑k0 : Int) + 1) = (↑(k0 + 1) : Int) := gy hk0 hl0 (by decide)
     (repeat apply sq_); apply er_; simp only [go_sem]
     (repeat apply sq_); refine D4 (by rfl) (fun hc => ?_) fun hc => ?_
     ·refine E6 ?_; try simp only [go_sem]
      (repeat apply sq_); refine U8 ?_
      (repeat apply sq_); apply er_; simp only [go_sem, hk0, hw0]
      (repeat apply sq_); apply er_; simp only [go_sem, hk0, hw0]
      obtain ⟨v12, hv12, h⟩ := C6 h
      refine ((iY _ _ hv12)).to ?_
      try simp only [go_sem, hk0, hw0]
      (repeat apply sq_); refine D4 (by rfl) (fun hc => ?_) fun hc => ?_
      ·replace h := B0 h (by first | exact hc | simpa using hc)
       (repeat apply sq_); apply er_; simp only [go_sem, hk0, hw0]
       obtain ⟨v13, hv13, h⟩ := C6 h
       refine ((R9 _ _ _ hv13)).to ?_
       try simp only [go_sem, hk0, hw0]
       (repeat apply sq_); refine E3 ?_
       try simp only [go_sem, hk0, hw0]
       obtain rfl := Option.some.inj h
       refine F9 ?_; have hr := hx0 _ rfl; try simp only [go_sem, hk0, hw0]
       refine E4 ?_; simp only [go_sem, hk0, hw0]
       exact y3 (d' := .agg [.int .i64 v13.code, .int .i64 v13.index]) hsc (.same _) (by simp) ⟨by subst hr; rfl, rfl⟩
      ·replace h := B1 h (by first | exact hc | simpa using hc)
       refine E6 ?_; try simp only [go_sem, hk0, hw0]
       (repeat apply sq_); apply er_; simp only [go_sem, hk0, hw0]
       (repeat apply sq_); apply er_; simp only [go_sem, hk0, hw0]
       (repeat apply sq_); refine D4 (by rfl) (fun hc => ?_) fun hc => ?_
       ·replace h := B0 h (by first | exact hc | simpa using hc)
        (repeat apply sq_); apply er_; simp only [go_sem, hk0, hw0]
        obtain ⟨v14, hv14, h⟩ := C6 h
        refine ((R9 _ _ _ hv14)).to ?_
        try simp only [go_sem, hk0, hw0]
        (repeat apply sq_); refine E3 ?_
        try simp only [go_sem, hk0, hw0]
        obtain rfl := Option.some.inj h
        refine F9 ?_; have hr := hx0 _ rfl; try simp only [go_sem, hk0, hw0]
        refine E4 ?_; simp only [go_sem, hk0, hw0]
        exact y3 (d' := .agg [.int .i64 v14.code, .int .i64 v14.index]) hsc (.same _) (by simp) ⟨by subst hr; rfl, rfl⟩
       ·replace h := B1 h (by first | exact hc | simpa using hc)
        refine E6 ?_; try simp only [go_sem, hk0, hw0]
        obtain ⟨c15, IC, h⟩ := lD h
        have e16 : K1 ((get a0.rules k0).name) [.int .i64 (↑k0 : Int)] (mrw O1 s0) = mrw O1 c15 := by rw [IC]; exact wu (E := O1) _ _ _
        (repeat apply sq_); apply er_; simp only [go_sem, hk0, hw0, e16]
        (repeat apply sq_); apply er_; simp only [go_sem, hk0, hw0]
        obtain ⟨v17, hv17, h⟩ := C6 h
        refine ((qJ n _ _ _ _ hv17)).to ?_
        try simp only [go_sem, hk0, hw0]
        (repeat apply sq_); apply er_; simp only [go_sem, hk0, hw0]
        (repeat apply sq_); refine D4 (by rfl) (fun hc => ?_) fun hc => ?_
        ·replace h := B0 h (by first | exact hc | simpa using hc)
         (repeat apply sq_); apply er_; simp only [go_sem, hk0, hw0]
         obtain ⟨v18, hv18, h⟩ := C6 h
         refine ((R9 _ _ _ hv18)).to ?_
         try simp only [go_sem, hk0, hw0]
         (repeat apply sq_); refine E3 ?_
         try simp only [go_sem, hk0, hw0]
         obtain rfl := Option.some.inj h
         refine F9 ?_; have hr := hx0 _ rfl; try simp only [go_sem, hk0, hw0]
         refine E4 ?_; simp only [go_sem, hk0, hw0]
         exact y3 (d' := .agg [.int .i64 v18.code, .int .i64 v18.index]) hsc (.same _) (by simp) ⟨by subst hr; rfl, rfl⟩
        ·replace h := B1 h (by first | exact hc | simpa using hc)
         refine E6 ?_; try simp only [go_sem, hk0, hw0]
         (repeat apply sq_); apply er_; simp only [go_sem, hk0, hw0]
         cases h
         exact bK () (G0 hsc (.lv (.lv (.lv (.dead _ _ _ (.lv (.lv (.nil _))))))) (by simp) ⟨.s, .s, .s, .s, .s, .s, .s, .s, trivial⟩ (by simp))
     ·exfalso; have hc := of_decide_eq_false hc; omega
    ·(repeat apply sq_); apply er_; simp only [go_sem]
     (repeat apply sq_); refine D4 (by rfl) (fun hc => ?_) fun hc => ?_
     ·exfalso; first | exact Bool.noConfusion hc | (have hc := of_decide_eq_true hc; omega)
     ·refine Y2 ?_; simp only [go_sem]
      exact ⟨(), (G0 hsc (.lv (.lv (.lv (.dead _ _ _ (.lv (.nil _)))))) (by simp) ⟨.s, .s, .s, .s, trivial⟩ (by simp))⟩
    ·try simp only [go_sem]
     unfold aH at h
     refine L6 hb ?_
     (repeat apply sq_); apply er_; simp only [go_sem]
     (repeat apply sq_); refine fG (t := 83) rfl fun hl1 => ?_
     simp only [eF] at hl1
     (repeat apply sq_); refine arg_ (body := aF n a0 v4) (kk := aG n a0 v4) (n := a0.D0.length) (s0 := ())
      (fun (gs1 : Unit) (k1 : Nat) (s1 : Unit) => [(1, .ptr st.length 0 0 0), (2, .ptr (st.length + 1) 0 0 0), (3, .ptr (st.length + 2) 0 0 0), (5, .ptr (st.length + 4) 0 0 0), (83, .sl false 9 144 (rows w9.cells a0.D0)), (84, .int .i64 (↑a0.D0.length : Int)), (85, .int .i64 (↑k1 : Int))])
      (fun (gs1 : Unit) (k1 : Nat) (s1 : Unit) => st ++ [some (.arr 0 5 0 [[.sl false 2 40 (rows w7.cells a0.hierarchy.types), .sl false 3 32 (rows x9.cells a0.hierarchy.C9), .sl false 10 152 (rows u6.cells a0.rules), .sl false 9 144 (rows w9.cells a0.D0), .sl false 2 32 (rows w8.cells a0.start.nodes)]]), some (.arr 0 2 0 [[.int .i64 0, .int .i64 0]]), some (.arr 0 2 0 [[.sl false 2 40 (rows w7.cells a0.hierarchy.types), .sl false 3 32 (rows x9.cells a0.hierarchy.C9)]]), none, some (.arr 0 2 0 [[.sl false 1 8 (rows U2 v4.up), .sl false 1 8 (rows U2 v4.down)]])])
      (fun (gt1 : Unit) (t1 : Unit) => [(1, .ptr st.length 0 0 0), (2, .ptr (st.length + 1) 0 0 0), (3, .ptr (st.length + 2) 0 0 0), (5, .ptr (st.length + 4) 0 0 0)])
      (fun (gt1 : Unit) (t1 : Unit) => st ++ [some (.arr 0 5 0 [[.sl false 2 40 (rows w7.cells a0.hierarchy.types), .sl false 3 32 (rows x9.cells a0.hierarchy.C9), .sl false 10 152 (rows u6.cells a0.rules), .sl false 9 144 (rows w9.cells a0.D0), .sl false 2 32 (rows w8.cells a0.start.nodes)]]), some (.arr 0 2 0 [[.int .i64 0, .int .i64 0]]), some (.arr 0 2 0 [[.sl false 2 40 (rows w7.cells a0.hierarchy.types), .sl false 3 32 (rows x9.cells a0.hierarchy.C9)]]), none, some (.arr 0 2 0 [[.sl false 1 8 (rows U2 v4.up), .sl false 1 8 (rows U2 v4.down)]])])
      () h (G0 hsc (.lv (.lv (.lv (.dead _ _ _ (.lv (.nil _)))))) (by simp) ⟨.s, .s, .s, .s, .s, .s, .s, trivial⟩ (by simp))
      (fun gs1 k1 s1 b1 hk1 h hx1 => ?_) (fun gs1 s1 => ?_) (fun gt1 t1 fr1 st1 h hb => ?_)
     ·unfold aF at h
      have hw1 : wr .i64 ((↑k1 : Int) + 1) = (↑(k1 + 1) : Int) := gy hk1 hl1 (by decide)
      (repeat apply sq_); apply er_; simp only [go_sem]
      (repeat apply sq_); refine D4 (by rfl) (fun hc => ?_) fun hc => ?_
      ·refine E6 ?_; try simp only [go_sem]
       (repeat apply sq_); refine U8 ?_
       (repeat apply sq_); apply er_; simp only [go_sem, hk1, hw1]
       (repeat apply sq_); apply er_; simp only [go_sem, hk1, hw1]
       obtain ⟨v19, hv19, h⟩ := C6 h
       refine ((qp n _ _ _ _ hv19)).to ?_
       try simp only [go_sem, hk1, hw1]
       (repeat apply sq_); apply er_; simp only [go_sem, hk1, hw1]
       (repeat apply sq_); refine D4 (by rfl) (fun hc => ?_) fun hc => ?_
       ·replace h := B0 h (by first | exact hc | simpa using hc)
        (repeat apply sq_); apply er_; simp only [go_sem, hk1, hw1]
        obtain ⟨v20, hv20, h⟩ := C6 h
        refine ((R9 _ _ _ hv20)).to ?_
        try simp only [go_sem, hk1, hw1]
        (repeat apply sq_); refine E3 ?_
        try simp only [go_sem, hk1, hw1]
        obtain rfl := Option.some.inj h
        refine F9 ?_; have hr := hx1 _ rfl; try simp only [go_sem, hk1, hw1]
        refine E4 ?_; simp only [go_sem, hk1, hw1]
        exact y3 (d' := .agg [.int .i64 v20.code, .int .i64 v20.index]) hsc (.same _) (by simp) ⟨by subst hr; rfl, rfl⟩
       ·replace h := B1 h (by first | exact hc | simpa using hc)
        refine E6 ?_; try simp only [go_sem, hk1, hw1]
        (repeat apply sq_); apply er_; simp only [go_sem, hk1, hw1]
        cases h
        exact bK () (G0 hsc (.lv (.lv (.lv (.dead _ _ _ (.lv (.nil _)))))) (by simp) ⟨.s, .s, .s, .s, .s, .s, .s, trivial⟩ (by simp))
      ·exfalso; have hc := of_decide_eq_false hc; omega
     ·(repeat apply sq_); apply er_; simp only [go_sem]
      (repeat apply sq_); refine D4 (by rfl) (fun hc => ?_) fun hc => ?_
      ·exfalso; first | exact Bool.noConfusion hc | (have hc := of_decide_eq_true hc; omega)
      ·refine Y2 ?_; simp only [go_sem]
       exact ⟨(), (G0 hsc (.lv (.lv (.lv (.dead _ _ _ (.lv (.nil _)))))) (by simp) ⟨.s, .s, .s, .s, trivial⟩ (by simp))⟩
     ·try simp only [go_sem]
      unfold aG at h
      refine L6 hb ?_
      (repeat apply sq_); apply er_; simp only [go_sem]
      obtain ⟨v21, hv21, h⟩ := C6 h
      refine ((gY n _ _ _ _ hv21)).to ?_
      try simp only [go_sem]
      (repeat apply sq_); apply er_; simp only [go_sem]
      (repeat apply sq_); refine D4 (by rfl) (fun hc => ?_) fun hc => ?_
      ·replace h := B0 h (by first | exact hc | simpa using hc)
       (repeat apply sq_); apply er_; simp only [go_sem]
       obtain ⟨v22, hv22, h⟩ := C6 h
       refine ((R9 _ _ _ hv22)).to ?_
       try simp only [go_sem]
       (repeat apply sq_); refine E3 ?_
       try simp only [go_sem]
       have hr := Option.some.inj h
       refine E4 ?_; simp only [go_sem]
       exact y3 (d' := .agg [.int .i64 v22.code, .int .i64 v22.index]) hsc (.same _) (by simp) ⟨by subst hr; rfl, rfl⟩
      ·replace h := B1 h (by first | exact hc | simpa using hc)
       refine E6 ?_; try simp only [go_sem]
       (repeat apply sq_); apply er_; simp only [go_sem]
       (repeat apply sq_); refine E3 ?_
       try simp only [go_sem]
       have hr := Option.some.inj h
       refine E4 ?_; simp only [go_sem]
       exact y3 (d' := .agg [.int .i64 0, .int .i64 0]) hsc (.same _) (by simp) ⟨by subst hr; rfl, rfl⟩
end Go.Proofs.YtaohdfpcdfbnlaaGreatDoor
