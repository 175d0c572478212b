import Derived.Test.YtaohdfpcdfbnlaaGreatDoorBase
import Derived.Test.YtaohdfpcdfbnlaaGreatDoorHand
import Derived.Test.YtaohdfpcdfbnlaaGreatDoorMirrors
import Derived.Test.YtaohdfpcdfbnlaaGreatDoorHand2
import Derived.Test.YtaohdfpcdfbnlaaGreatDoorWalk2
import Derived.Test.YtaohdfpcdfbnlaaGreatDoorWalk3
import Derived.Test.YtaohdfpcdfbnlaaGreatDoorWalk4
import Derived.Test.YtaohdfpcdfbnlaaGreatDoorWalk7
import Derived.Test.YtaohdfpcdfbnlaaGreatDoorWalk8
set_option linter.unusedVariables false
set_option linter.unusedSimpArgs false
set_option maxHeartbeats 2000000
set_option maxRecDepth 100000
namespace Go.Proofs.YtaohdfpcdfbnlaaGreatDoor
open Go Go.Am
theorem fY (a0 : Int) (r : Bool) (h : W1 a0 = some r) : Pure Tryz.prog gl 100 [.int .i64 a0] (.bool r) := by
 intro st
 unfold W1 at h
 refine O4 (N := 5) (rs := [.tmp 2]) (keep := [0, 2]) Tryz.func100 rfl rfl rfl (by kernel_rfl) rfl fun hsc => ?_
 (repeat apply sq_); apply er_; simp only [go_sem]
 (repeat apply sq_); apply er_; simp only [go_sem]
 (repeat apply sq_); refine E3 ?_
 try simp only [go_sem]
 have hr := Option.some.inj h
 refine E4 ?_; simp only [go_sem]
 exact B9 (d' := .bool (decide (8 < a0))) hsc (.same _) (by simp) ⟨by subst hr; rfl, rfl⟩
theorem kZ (n : Nat) (a0 : Bs) (a1 : Bs) (r : Int) (h : bW n a0 a1 = some r) : Pure Tryz.prog gl 97 [.str a0, .str a1] (.int .i64 r) := by
 intro st
 unfold bW at h
 refine O4 (N := 55) (rs := [.tmp 4]) (keep := [0, 1, 4, 5, 6, 7, 8, 9, 10, 12, 15, 20, 26, 32, 36, 42, 45, 46, 47, 53]) Tryz.func97 rfl rfl rfl (by kernel_rfl) rfl fun hsc => ?_
 (repeat apply sq_); apply er_; simp only [go_sem]
 (repeat apply sq_); apply er_; simp only [go_sem]
 (repeat apply sq_); refine D4 (by rfl) (fun hc => ?_) fun hc => ?_
 ·replace h := B0 h (by first | exact hc | simpa using hc)
  (repeat apply sq_); apply er_; simp only [go_sem]
  (repeat apply sq_); refine E3 ?_
  try simp only [go_sem]
  have hr := Option.some.inj h
  refine E4 ?_; simp only [go_sem]
  exact B9 (d' := .int .i64 (-1)) hsc (.same _) (by simp) ⟨by subst hr; rfl, rfl⟩
 ·replace h := B1 h (by first | exact hc | simpa using hc)
  refine E8 ?_; try simp only [go_sem]
  (repeat apply sq_); apply er_; simp only [go_sem]
  (repeat apply sq_); refine D4 (by rfl) (fun hc => ?_) fun hc => ?_
  ·replace h := B0 h (by first | exact hc | simpa using hc)
   obtain ⟨f1, h⟩ := G1 h
   (repeat apply sq_); apply er_; simp only [go_sem, f1]
   (repeat apply sq_); apply er_; simp only [go_sem, f1]
   (repeat apply sq_); refine pC (Y3 n a0) r (fun (gj0 : Unit) (j0 : Int) => [(0, .str a0), (5, .int .i32 j0)]) (fun (gj0 : Unit) (j0 : Int) => st) (fun gj0 j0 fr1 st1 h hb => ?_) (fun hj0 => ?_)
   ·try simp only [go_sem, f1]
    unfold Y3 at h
    refine L5 hb ?_
    (repeat apply sq_); apply er_; simp only [go_sem, f1]
    obtain ⟨v2, hv2, h⟩ := C7 h
    refine ((fX n _ _ _ hv2)).to ?_
    try simp only [go_sem, f1]
    (repeat apply sq_); refine E3 ?_
    try simp only [go_sem, f1]
    have hr := Option.some.inj h
    refine E4 ?_; simp only [go_sem, f1]
    exact B9 (d' := .int .i64 v2) hsc (.same _) (by simp) ⟨by subst hr; rfl, rfl⟩
   ·(repeat apply sq_); refine D4 (by rfl) (fun hc => ?_) fun hc => ?_
    ·replace h := B0 h (by first | exact hc | simpa using hc)
     (repeat apply sq_); apply er_; simp only [go_sem, f1]
     exact hj0 () _ _ _ h (D9 hsc ⟨.s, .s, trivial⟩ (by simp))
    ·replace h := B1 h (by first | exact hc | simpa using hc)
     refine E8 ?_; try simp only [go_sem, f1]
     exact hj0 () _ _ _ h (D9 hsc ⟨.s, .s, trivial⟩ (by simp))
  ·replace h := B1 h (by first | exact hc | simpa using hc)
   refine E8 ?_; try simp only [go_sem]
   (repeat apply sq_); apply er_; simp only [go_sem]
   obtain ⟨v3, hv3, h⟩ := C7 h
   refine ((fY _ _ hv3)).to ?_
   try simp only [go_sem]
   (repeat apply sq_); refine pC (Y5 n a0 a1) r (fun (gj1 : Unit) (j1 : Unit) => [(0, .str a0), (1, .str a1)]) (fun (gj1 : Unit) (j1 : Unit) => st) (fun gj1 j1 fr1 st1 h hb => ?_) (fun hj1 => ?_)
   ·try simp only [go_sem]
    unfold Y5 at h
    refine L5 hb ?_
    (repeat apply sq_); apply er_; simp only [go_sem]
    (repeat apply sq_); refine O1 (body := Y4 n a0 a1) (kk := ct) (n := n) (s0 := 0)
     (fun (gs2 : Unit) (s2 : Nat) => [(1, .str a1), (45, .it st.length)])
     (fun (gs2 : Unit) (s2 : Nat) => st ++ [some (.sit a0 s2)])
     (fun (gt2 : Unit) (t2 : Unit) => [])
     (fun (gt2 : Unit) (t2 : Unit) => st)
     () h (G0 hsc (.lv (.nil _)) (by simp) ⟨.s, .s, trivial⟩ (by simp))
     (fun gs2 s2 b2 h hx2 => ?_) (fun gt2 t2 fr1 st1 h hb => ?_)
    ·unfold Y4 at h
     (repeat apply sq_); apply er_; simp only [go_sem]
     (repeat apply sq_); refine D4 (by rfl) (fun hc => ?_) fun hc => ?_
     ·replace h := B0 h (by first | exact hc | simpa using hc)
      refine E8 ?_; try simp only [go_sem]
      (repeat apply sq_); refine U3 ?_
      obtain ⟨f6, h⟩ := G1 h
      (repeat apply sq_); apply er_; simp only [go_sem, f6]
      (repeat apply sq_); apply er_; simp only [go_sem, f6]
      obtain ⟨v7, hv7, h⟩ := C7 h
      refine ((fX n _ _ _ hv7)).to ?_
      try simp only [go_sem, f6]
      (repeat apply sq_); refine D4 (by rfl) (fun hc => ?_) fun hc => ?_
      ·replace h := B0 h (by first | exact hc | simpa using hc)
       (repeat apply sq_); apply er_; simp only [go_sem, f6]
       (repeat apply sq_); refine E3 ?_
       try simp only [go_sem, f6]
       obtain rfl := Option.some.inj h
       refine jq ?_; have hr := hx2 _ rfl; try simp only [go_sem, f6]
       refine E4 ?_; simp only [go_sem, f6]
       exact y3 (d' := .int .i64 (↑s2 : Int)) hsc (.same _) (by simp) ⟨by subst hr; rfl, rfl⟩
      ·replace h := B1 h (by first | exact hc | simpa using hc)
       refine E8 ?_; try simp only [go_sem, f6]
       cases h
       exact T9 () (G0 hsc (.lv (.nil _)) (by simp) ⟨.s, .s, trivial⟩ (by simp))
     ·replace h := B1 h (by first | exact hc | simpa using hc)
      (repeat apply sq_); refine X6 ?_; try simp only [go_sem]
      cases h
      exact bF () (aL hsc trivial (by simp))
    ·try simp only [go_sem]
     unfold ct at h
     refine L5 hb ?_
     (repeat apply sq_); apply er_; simp only [go_sem]
     (repeat apply sq_); refine E3 ?_
     try simp only [go_sem]
     have hr := Option.some.inj h
     refine E4 ?_; simp only [go_sem]
     exact B9 (d' := .int .i64 (-1)) hsc (.same _) (by simp) ⟨by subst hr; rfl, rfl⟩
   ·(repeat apply sq_); refine D4 (by rfl) (fun hc => ?_) fun hc => ?_
    ·replace h := B0 h (by first | exact hc | simpa using hc)
     cases h
    ·replace h := B1 h (by first | exact hc | simpa using hc)
     refine E8 ?_; try simp only [go_sem]
     exact hj1 () _ _ _ h (D9 hsc ⟨.s, .s, trivial⟩ (by simp))
theorem mz (n : Nat) (a0 : Bs) (a1 : Bs) (r : Int) (h : cZ n a0 a1 = some r) : Pure Tryz.prog gl 97 [.str a0, .str a1] (.int .i64 r) := by
 unfold cZ at h
 cases hc : decide (8 < a0.length) with
 | true =>
  rw [hc] at h
  obtain ⟨hp, h⟩ := G1 h
  cases h
  exact rY a0 a1 hp.1 (of_decide_eq_true hc) hp.2.1 hp.2.2.1 hp.2.2.2
 | false =>
  rw [hc] at h
  exact kZ n a0 a1 r h
theorem jR (n : Nat) (a0 : Bs) (a1 : Bs) (r : Bool) (h : T4 n a0 a1 = some r) : Pure Tryz.prog gl 88 [.str a0, .str a1] (.bool r) := by
 intro st
 unfold T4 at h
 refine O4 (N := 9) (rs := [.tmp 4]) (keep := [0, 1, 4]) Tryz.func88 rfl rfl rfl (by kernel_rfl) rfl fun hsc => ?_
 (repeat apply sq_); apply er_; simp only [go_sem]
 (repeat apply sq_); apply er_; simp only [go_sem]
 obtain ⟨v1, hv1, h⟩ := C7 h
 refine ((mz n _ _ _ hv1)).to ?_
 try simp only [go_sem]
 (repeat apply sq_); refine E3 ?_
 try simp only [go_sem]
 have hr := Option.some.inj h
 refine E4 ?_; simp only [go_sem]
 exact B9 (d' := .bool (decide (0 ≤ v1))) hsc (.same _) (by simp) ⟨by subst hr; rfl, rfl⟩
theorem qB (n : Nat) (a0 : Bs) (r : Bool) (h : fL n a0 = some r) : Pure Tryz.prog gl 70 [.str a0] (.bool r) := by
 intro st
 unfold fL at h
 refine O4 (N := 21) (rs := [.tmp 2]) (keep := [0, 2, 3, 9, 10, 13, 14, 17, 18, 19]) Tryz.func70 rfl rfl rfl (by kernel_rfl) rfl fun hsc => ?_
 (repeat apply sq_); apply er_; simp only [go_sem]
 (repeat apply sq_); apply er_; simp only [go_sem]
 obtain ⟨v1, hv1, h⟩ := C7 h
 refine ((dJ n _ _ hv1)).to ?_
 try simp only [go_sem]
 (repeat apply sq_); apply er_; simp only [go_sem]
 obtain ⟨v2, hv2, h⟩ := C7 h
 refine M5 (fun hG => (gQ n _ _ (gZ hv2 (by simpa using hG)))) ?_
 try simp only [go_sem]
 obtain ⟨v3, hv3, h⟩ := C7 h
 refine M5 (fun hG => (jR n _ _ _ (gZ hv3 (by simpa using hG)))) ?_
 try simp only [go_sem]
 (repeat apply sq_); refine E3 ?_
 try simp only [go_sem]
 have hr := Option.some.inj h
 refine E4 ?_; simp only [go_sem]
 exact B9 (d' := .bool (bif (bif (bif (decide (1 ≤ v1)) then (decide (v1 ≤ 30)) else false) then v2 else false) then (!v3) else false)) hsc (.same _) (by simp) ⟨by subst hr; rfl, rfl⟩
theorem qe (n : Nat) (a0 : w4) (a1 : A9) (a2 : w9) (r : Int) (h : dR n a0 a1 a2 = some r) : Pure Tryz.prog gl 47 [.agg [.sl false 2 40 (rows w7.cells a0.types), .sl false 3 32 (rows x9.cells a0.C9)], .agg [.sl false 1 8 (rows T7 a1.up), .sl false 1 8 (rows T7 a1.down)], .agg [.str a2.word, .sl false 2 32 (rows w8.cells a2.graph.nodes), .int .i64 a2.weight, .int .i64 a2.meaning.kind, .str a2.meaning.name, .int .i64 a2.meaning.index, .str a2.meaning.type.base, .sl false 2 40 (rows u0.cells a2.meaning.type.args), .sl false 6 96 (rows w5.cells a2.meaning.args)]] (.int .i64 r) := by
 intro st
 unfold dR at h
 refine O4 (N := 34) (rs := [.tmp 6]) (keep := [0, 1, 2, 3, 4, 5, 6, 7, 11, 16, 17, 18, 19, 27]) Tryz.func47 rfl rfl rfl (by kernel_rfl) rfl fun hsc => ?_
 (repeat apply sq_); apply er_; simp only [go_sem]
 (repeat apply sq_); apply er_; simp only [go_sem]
 obtain ⟨v1, hv1, h⟩ := C7 h
 refine ((qB n _ _ hv1)).to ?_
 try simp only [go_sem]
 (repeat apply sq_); refine D4 (by rfl) (fun hc => ?_) fun hc => ?_
 ·replace h := B0 h (by first | exact hc | simpa using hc)
  (repeat apply sq_); apply er_; simp only [go_sem]
  (repeat apply sq_); refine E3 ?_
  try simp only [go_sem]
  have hr := Option.some.inj h
  refine E4 ?_; simp only [go_sem]
  exact y3 (d' := .int .i64 10) hsc (.same _) (by simp) ⟨by subst hr; rfl, rfl⟩
 ·replace h := B1 h (by first | exact hc | simpa using hc)
  refine E8 ?_; try simp only [go_sem]
  (repeat apply sq_); apply er_; simp only [go_sem]
  (repeat apply sq_); refine D4 (by rfl) (fun hc => ?_) fun hc => ?_
  ·replace h := B0 h (by first | exact hc | simpa using hc)
   (repeat apply sq_); apply er_; simp only [go_sem]
   (repeat apply sq_); refine E3 ?_
   try simp only [go_sem]
   have hr := Option.some.inj h
   refine E4 ?_; simp only [go_sem]
   exact y3 (d' := .int .i64 3) hsc (.same _) (by simp) ⟨by subst hr; rfl, rfl⟩
  ·replace h := B1 h (by first | exact hc | simpa using hc)
   refine E8 ?_; try simp only [go_sem]
   (repeat apply sq_); apply er_; simp only [go_sem]
   obtain ⟨v2, hv2, h⟩ := C7 h
   refine ((gP n _ _ _ _ hv2)).to ?_
   try simp only [go_sem]
   (repeat apply sq_); apply er_; simp only [go_sem]
   (repeat apply sq_); refine D4 (by rfl) (fun hc => ?_) fun hc => ?_
   ·replace h := B0 h (by first | exact hc | simpa using hc)
    (repeat apply sq_); apply er_; simp only [go_sem]
    (repeat apply sq_); refine E3 ?_
    try simp only [go_sem]
    have hr := Option.some.inj h
    refine E4 ?_; simp only [go_sem]
    exact y3 (d' := .int .i64 v2.code) hsc (.same _) (by simp) ⟨by subst hr; rfl, rfl⟩
   ·replace h := B1 h (by first | exact hc | simpa using hc)
    refine E8 ?_; try simp only [go_sem]
    (repeat apply sq_); apply er_; simp only [go_sem]
    obtain ⟨v3, hv3, h⟩ := C7 h
    refine ((jQ n _ _ hv3)).to ?_
    try simp only [go_sem]
    (repeat apply sq_); refine E3 ?_
    try simp only [go_sem]
    have hr := Option.some.inj h
    refine E4 ?_; simp only [go_sem]
    exact y3 (d' := .int .i64 v3.code) hsc (.same _) (by simp) ⟨by subst hr; rfl, rfl⟩
theorem dn (n : Nat) (a0 : x7) (r : y7) (h : Q6 n a0 = some r) : Pure Tryz.prog gl 11 [.agg [.sl false 2 40 (rows w7.cells a0.hierarchy.types), .sl false 3 32 (rows x9.cells a0.hierarchy.C9), .sl false 10 152 (rows u6.cells a0.rules), .sl false 9 144 (rows w9.cells a0.D0), .sl false 2 32 (rows w8.cells a0.start.nodes)]] (.agg [.int .i64 r.code, .int .i64 r.index]) := by
 intro st
 unfold Q6 at h
 refine O4 (N := 112) (rs := [.cell 2 41]) (keep := [0, 1, 2, 3, 4, 5, 6, 7, 8, 10, 11, 12, 13, 14, 15, 22, 27, 34, 35, 36, 37, 38, 45, 46, 47, 48, 55, 65, 77, 83, 84, 85, 86, 95, 107]) Tryz.func11 rfl rfl rfl (by kernel_rfl) rfl fun hsc => ?_
 (repeat apply sq_); apply er_; simp only [go_sem]
 (repeat apply sq_); apply er_; simp only [go_sem]
 (repeat apply sq_); apply er_; simp only [go_sem]
 obtain ⟨v1, hv1, h⟩ := C7 h
 refine ((kr _ _ hv1)).to ?_
 try simp only [go_sem]
 (repeat apply sq_); apply er_; simp only [go_sem]
 (repeat apply sq_); refine D4 (by rfl) (fun hc => ?_) fun hc => ?_
 ·replace h := B0 h (by first | exact hc | simpa using hc)
  (repeat apply sq_); apply er_; simp only [go_sem]
  (repeat apply sq_); refine E3 ?_
  try simp only [go_sem]
  have hr := Option.some.inj h
  refine E4 ?_; simp only [go_sem]
  exact y3 (d' := .agg [.int .i64 v1.code, .int .i64 v1.index]) hsc (.same _) (by simp) ⟨by subst hr; rfl, rfl⟩
 ·replace h := B1 h (by first | exact hc | simpa using hc)
  refine E8 ?_; try simp only [go_sem]
  (repeat apply sq_); apply er_; simp only [go_sem]
  (repeat apply sq_); refine D4 (by rfl) (fun hc => ?_) fun hc => ?_
  ·replace h := B0 h (by first | exact hc | simpa using hc)
   (repeat apply sq_); apply er_; simp only [go_sem]
   obtain ⟨v2, hv2, h⟩ := C7 h
   refine ((R4 _ _ _ hv2)).to ?_
   try simp only [go_sem]
   (repeat apply sq_); refine E3 ?_
   try simp only [go_sem]
   have hr := Option.some.inj h
   refine E4 ?_; simp only [go_sem]
   exact y3 (d' := .agg [.int .i64 v2.code, .int .i64 v2.index]) hsc (.same _) (by simp) ⟨by subst hr; rfl, rfl⟩
  ·replace h := B1 h (by first | exact hc | simpa using hc)
   refine E8 ?_; try simp only [go_sem]
   (repeat apply sq_); apply er_; simp only [go_sem]
   (repeat apply sq_); refine D4 (by rfl) (fun hc => ?_) fun hc => ?_
   ·replace h := B0 h (by first | exact hc | simpa using hc)
    (repeat apply sq_); apply er_; simp only [go_sem]
    obtain ⟨v3, hv3, h⟩ := C7 h
    refine ((R4 _ _ _ hv3)).to ?_
    try simp only [go_sem]
    (repeat apply sq_); refine E3 ?_
    try simp only [go_sem]
    have hr := Option.some.inj h
    refine E4 ?_; simp only [go_sem]
    exact y3 (d' := .agg [.int .i64 v3.code, .int .i64 v3.index]) hsc (.same _) (by simp) ⟨by subst hr; rfl, rfl⟩
   ·replace h := B1 h (by first | exact hc | simpa using hc)
    refine E8 ?_; try simp only [go_sem]
    (repeat apply sq_); apply er_; simp only [go_sem]
    obtain ⟨v4, hv4, h⟩ := C7 h
    refine ((gD _ _ hv4)).to ?_
    try simp only [go_sem]
    (repeat apply sq_); apply er_; simp only [go_sem]
    (repeat apply sq_); apply er_; simp only [go_sem]
    (repeat apply sq_); refine ft (t := 45) rfl fun hl0 => ?_
    simp only [dX] at hl0
    (repeat apply sq_); refine arg_ (body := aB n a0 v4) (kk := aE n a0 v4) (n := a0.rules.length) (s0 := [])
     (fun (gs0 : Unit) (k0 : Nat) (s0 : (List (Bs × Int))) => [(1, .ptr st.length 0 0 0), (2, .ptr (st.length + 1) 0 0 0), (3, .ptr (st.length + 2) 0 0 0), (5, .ptr (st.length + 4) 0 0 0), (6, .mp (st.length + 5)), (45, .sl false 10 152 (rows u6.cells a0.rules)), (46, .int .i64 (↑a0.rules.length : Int)), (47, .int .i64 (↑k0 : Int))])
     (fun (gs0 : Unit) (k0 : Nat) (s0 : (List (Bs × Int))) => st ++ [some (.arr 0 5 0 [[.sl false 2 40 (rows w7.cells a0.hierarchy.types), .sl false 3 32 (rows x9.cells a0.hierarchy.C9), .sl false 10 152 (rows u6.cells a0.rules), .sl false 9 144 (rows w9.cells a0.D0), .sl false 2 32 (rows w8.cells a0.start.nodes)]]), some (.arr 0 2 0 [[.int .i64 0, .int .i64 0]]), some (.arr 0 2 0 [[.sl false 2 40 (rows w7.cells a0.hierarchy.types), .sl false 3 32 (rows x9.cells a0.hierarchy.C9)]]), none, some (.arr 0 2 0 [[.sl false 1 8 (rows T7 v4.up), .sl false 1 8 (rows T7 v4.down)]]), some (.mps false (mrw N8 s0))])
     (fun (gt0 : Unit) (t0 : (List (Bs × Int))) => [(1, .ptr st.length 0 0 0), (2, .ptr (st.length + 1) 0 0 0), (3, .ptr (st.length + 2) 0 0 0), (5, .ptr (st.length + 4) 0 0 0)])
     (fun (gt0 : Unit) (t0 : (List (Bs × Int))) => st ++ [some (.arr 0 5 0 [[.sl false 2 40 (rows w7.cells a0.hierarchy.types), .sl false 3 32 (rows x9.cells a0.hierarchy.C9), .sl false 10 152 (rows u6.cells a0.rules), .sl false 9 144 (rows w9.cells a0.D0), .sl false 2 32 (rows w8.cells a0.start.nodes)]]), some (.arr 0 2 0 [[.int .i64 0, .int .i64 0]]), some (.arr 0 2 0 [[.sl false 2 40 (rows w7.cells a0.hierarchy.types), .sl false 3 32 (rows x9.cells a0.hierarchy.C9)]]), none, some (.arr 0 2 0 [[.sl false 1 8 (rows T7 v4.up), .sl false 1 8 (rows T7 v4.down)]])])
     () h (G0 hsc (.lv (.lv (.lv (.dead _ _ _ (.lv (.lv (.nil _))))))) (by simp) ⟨.s, .s, .s, .s, .s, .s, .s, .s, trivial⟩ (by simp))
     (fun gs0 k0 s0 b0 hk0 h hx0 => ?_) (fun gs0 s0 => ?_) (fun gt0 t0 fr1 st1 h hb => ?_)
    ·unfold aB at h
     have hw0 : wr .i64 ((↑k0 : Int) + 1) = (↑(k0 + 1) : Int) := ga hk0 hl0 (by decide)
     (repeat apply sq_); apply er_; simp only [go_sem]
     (repeat apply sq_); refine D4 (by rfl) (fun hc => ?_) fun hc => ?_
     ·refine E8 ?_; try simp only [go_sem]
      (repeat apply sq_); refine U3 ?_
      (repeat apply sq_); apply er_; simp only [go_sem, hk0, hw0]
      (repeat apply sq_); apply er_; simp only [go_sem, hk0, hw0]
      obtain ⟨v12, hv12, h⟩ := C7 h
      refine ((iP _ _ hv12)).to ?_
      try simp only [go_sem, hk0, hw0]
      (repeat apply sq_); refine D4 (by rfl) (fun hc => ?_) fun hc => ?_
      ·replace h := B0 h (by first | exact hc | simpa using hc)
       (repeat apply sq_); apply er_; simp only [go_sem, hk0, hw0]
       obtain ⟨v13, hv13, h⟩ := C7 h
       refine ((R4 _ _ _ hv13)).to ?_
       try simp only [go_sem, hk0, hw0]
       (repeat apply sq_); refine E3 ?_
       try simp only [go_sem, hk0, hw0]
       obtain rfl := Option.some.inj h
       refine F9 ?_; have hr := hx0 _ rfl; try simp only [go_sem, hk0, hw0]
       refine E4 ?_; simp only [go_sem, hk0, hw0]
       exact y3 (d' := .agg [.int .i64 v13.code, .int .i64 v13.index]) hsc (.same _) (by simp) ⟨by subst hr; rfl, rfl⟩
      ·replace h := B1 h (by first | exact hc | simpa using hc)
       refine E8 ?_; try simp only [go_sem, hk0, hw0]
       (repeat apply sq_); apply er_; simp only [go_sem, hk0, hw0]
       (repeat apply sq_); apply er_; simp only [go_sem, hk0, hw0]
       (repeat apply sq_); refine D4 (by rfl) (fun hc => ?_) fun hc => ?_
       ·replace h := B0 h (by first | exact hc | simpa using hc)
        (repeat apply sq_); apply er_; simp only [go_sem, hk0, hw0]
        obtain ⟨v14, hv14, h⟩ := C7 h
        refine ((R4 _ _ _ hv14)).to ?_
        try simp only [go_sem, hk0, hw0]
        (repeat apply sq_); refine E3 ?_
        try simp only [go_sem, hk0, hw0]
        obtain rfl := Option.some.inj h
        refine F9 ?_; have hr := hx0 _ rfl; try simp only [go_sem, hk0, hw0]
        refine E4 ?_; simp only [go_sem, hk0, hw0]
        exact y3 (d' := .agg [.int .i64 v14.code, .int .i64 v14.index]) hsc (.same _) (by simp) ⟨by subst hr; rfl, rfl⟩
       ·replace h := B1 h (by first | exact hc | simpa using hc)
        refine E8 ?_; try simp only [go_sem, hk0, hw0]
        obtain ⟨c15, Iu, h⟩ := lf h
        have e16 : K0 ((get a0.rules k0).name) [.int .i64 (↑k0 : Int)] (mrw N8 s0) = mrw N8 c15 := by rw [Iu]; exact vR (E := N8) _ _ _
        (repeat apply sq_); apply er_; simp only [go_sem, hk0, hw0, e16]
        (repeat apply sq_); apply er_; simp only [go_sem, hk0, hw0]
        obtain ⟨v17, hv17, h⟩ := C7 h
        refine ((qA n _ _ _ _ hv17)).to ?_
        try simp only [go_sem, hk0, hw0]
        (repeat apply sq_); apply er_; simp only [go_sem, hk0, hw0]
        (repeat apply sq_); refine D4 (by rfl) (fun hc => ?_) fun hc => ?_
        ·replace h := B0 h (by first | exact hc | simpa using hc)
         (repeat apply sq_); apply er_; simp only [go_sem, hk0, hw0]
         obtain ⟨v18, hv18, h⟩ := C7 h
         refine ((R4 _ _ _ hv18)).to ?_
         try simp only [go_sem, hk0, hw0]
         (repeat apply sq_); refine E3 ?_
         try simp only [go_sem, hk0, hw0]
         obtain rfl := Option.some.inj h
         refine F9 ?_; have hr := hx0 _ rfl; try simp only [go_sem, hk0, hw0]
         refine E4 ?_; simp only [go_sem, hk0, hw0]
         exact y3 (d' := .agg [.int .i64 v18.code, .int .i64 v18.index]) hsc (.same _) (by simp) ⟨by subst hr; rfl, rfl⟩
        ·replace h := B1 h (by first | exact hc | simpa using hc)
         refine E8 ?_; try simp only [go_sem, hk0, hw0]
         (repeat apply sq_); apply er_; simp only [go_sem, hk0, hw0]
         cases h
         exact bE () (G0 hsc (.lv (.lv (.lv (.dead _ _ _ (.lv (.lv (.nil _))))))) (by simp) ⟨.s, .s, .s, .s, .s, .s, .s, .s, trivial⟩ (by simp))
     ·exfalso; have hc := of_decide_eq_false hc; omega
    ·(repeat apply sq_); apply er_; simp only [go_sem]
     (repeat apply sq_); refine D4 (by rfl) (fun hc => ?_) fun hc => ?_
     ·exfalso; first | exact Bool.noConfusion hc | (have hc := of_decide_eq_true hc; omega)
     ·refine X6 ?_; simp only [go_sem]
      exact ⟨(), (G0 hsc (.lv (.lv (.lv (.dead _ _ _ (.lv (.nil _)))))) (by simp) ⟨.s, .s, .s, .s, trivial⟩ (by simp))⟩
    ·try simp only [go_sem]
     unfold aE at h
     refine L5 hb ?_
     (repeat apply sq_); apply er_; simp only [go_sem]
     (repeat apply sq_); refine ft (t := 83) rfl fun hl1 => ?_
     simp only [dX] at hl1
     (repeat apply sq_); refine arg_ (body := aC n a0 v4) (kk := aD n a0 v4) (n := a0.D0.length) (s0 := ())
      (fun (gs1 : Unit) (k1 : Nat) (s1 : Unit) => [(1, .ptr st.length 0 0 0), (2, .ptr (st.length + 1) 0 0 0), (3, .ptr (st.length + 2) 0 0 0), (5, .ptr (st.length + 4) 0 0 0), (83, .sl false 9 144 (rows w9.cells a0.D0)), (84, .int .i64 (↑a0.D0.length : Int)), (85, .int .i64 (↑k1 : Int))])
      (fun (gs1 : Unit) (k1 : Nat) (s1 : Unit) => st ++ [some (.arr 0 5 0 [[.sl false 2 40 (rows w7.cells a0.hierarchy.types), .sl false 3 32 (rows x9.cells a0.hierarchy.C9), .sl false 10 152 (rows u6.cells a0.rules), .sl false 9 144 (rows w9.cells a0.D0), .sl false 2 32 (rows w8.cells a0.start.nodes)]]), some (.arr 0 2 0 [[.int .i64 0, .int .i64 0]]), some (.arr 0 2 0 [[.sl false 2 40 (rows w7.cells a0.hierarchy.types), .sl false 3 32 (rows x9.cells a0.hierarchy.C9)]]), none, some (.arr 0 2 0 [[.sl false 1 8 (rows T7 v4.up), .sl false 1 8 (rows T7 v4.down)]])])
      (fun (gt1 : Unit) (t1 : Unit) => [(1, .ptr st.length 0 0 0), (2, .ptr (st.length + 1) 0 0 0), (3, .ptr (st.length + 2) 0 0 0), (5, .ptr (st.length + 4) 0 0 0)])
      (fun (gt1 : Unit) (t1 : Unit) => st ++ [some (.arr 0 5 0 [[.sl false 2 40 (rows w7.cells a0.hierarchy.types), .sl false 3 32 (rows x9.cells a0.hierarchy.C9), .sl false 10 152 (rows u6.cells a0.rules), .sl false 9 144 (rows w9.cells a0.D0), .sl false 2 32 (rows w8.cells a0.start.nodes)]]), some (.arr 0 2 0 [[.int .i64 0, .int .i64 0]]), some (.arr 0 2 0 [[.sl false 2 40 (rows w7.cells a0.hierarchy.types), .sl false 3 32 (rows x9.cells a0.hierarchy.C9)]]), none, some (.arr 0 2 0 [[.sl false 1 8 (rows T7 v4.up), .sl false 1 8 (rows T7 v4.down)]])])
      () h (G0 hsc (.lv (.lv (.lv (.dead _ _ _ (.lv (.nil _)))))) (by simp) ⟨.s, .s, .s, .s, .s, .s, .s, trivial⟩ (by simp))
      (fun gs1 k1 s1 b1 hk1 h hx1 => ?_) (fun gs1 s1 => ?_) (fun gt1 t1 fr1 st1 h hb => ?_)
     ·unfold aC at h
      have hw1 : wr .i64 ((↑k1 : Int) + 1) = (↑(k1 + 1) : Int) := ga hk1 hl1 (by decide)
      (repeat apply sq_); apply er_; simp only [go_sem]
      (repeat apply sq_); refine D4 (by rfl) (fun hc => ?_) fun hc => ?_
      ·refine E8 ?_; try simp only [go_sem]
       (repeat apply sq_); refine U3 ?_
       (repeat apply sq_); apply er_; simp only [go_sem, hk1, hw1]
       (repeat apply sq_); apply er_; simp only [go_sem, hk1, hw1]
       obtain ⟨v19, hv19, h⟩ := C7 h
       refine ((qe n _ _ _ _ hv19)).to ?_
       try simp only [go_sem, hk1, hw1]
       (repeat apply sq_); apply er_; simp only [go_sem, hk1, hw1]
       (repeat apply sq_); refine D4 (by rfl) (fun hc => ?_) fun hc => ?_
       ·replace h := B0 h (by first | exact hc | simpa using hc)
        (repeat apply sq_); apply er_; simp only [go_sem, hk1, hw1]
        obtain ⟨v20, hv20, h⟩ := C7 h
        refine ((R4 _ _ _ hv20)).to ?_
        try simp only [go_sem, hk1, hw1]
        (repeat apply sq_); refine E3 ?_
        try simp only [go_sem, hk1, hw1]
        obtain rfl := Option.some.inj h
        refine F9 ?_; have hr := hx1 _ rfl; try simp only [go_sem, hk1, hw1]
        refine E4 ?_; simp only [go_sem, hk1, hw1]
        exact y3 (d' := .agg [.int .i64 v20.code, .int .i64 v20.index]) hsc (.same _) (by simp) ⟨by subst hr; rfl, rfl⟩
       ·replace h := B1 h (by first | exact hc | simpa using hc)
        refine E8 ?_; try simp only [go_sem, hk1, hw1]
        (repeat apply sq_); apply er_; simp only [go_sem, hk1, hw1]
        cases h
        exact bE () (G0 hsc (.lv (.lv (.lv (.dead _ _ _ (.lv (.nil _)))))) (by simp) ⟨.s, .s, .s, .s, .s, .s, .s, trivial⟩ (by simp))
      ·exfalso; have hc := of_decide_eq_false hc; omega
     ·(repeat apply sq_); apply er_; simp only [go_sem]
      (repeat apply sq_); refine D4 (by rfl) (fun hc => ?_) fun hc => ?_
      ·exfalso; first | exact Bool.noConfusion hc | (have hc := of_decide_eq_true hc; omega)
      ·refine X6 ?_; simp only [go_sem]
       exact ⟨(), (G0 hsc (.lv (.lv (.lv (.dead _ _ _ (.lv (.nil _)))))) (by simp) ⟨.s, .s, .s, .s, trivial⟩ (by simp))⟩
     ·try simp only [go_sem]
      unfold aD at h
      refine L5 hb ?_
      (repeat apply sq_); apply er_; simp only [go_sem]
      obtain ⟨v21, hv21, h⟩ := C7 h
      refine ((gP n _ _ _ _ hv21)).to ?_
      try simp only [go_sem]
      (repeat apply sq_); apply er_; simp only [go_sem]
      (repeat apply sq_); refine D4 (by rfl) (fun hc => ?_) fun hc => ?_
      ·replace h := B0 h (by first | exact hc | simpa using hc)
       (repeat apply sq_); apply er_; simp only [go_sem]
       obtain ⟨v22, hv22, h⟩ := C7 h
       refine ((R4 _ _ _ hv22)).to ?_
       try simp only [go_sem]
       (repeat apply sq_); refine E3 ?_
       try simp only [go_sem]
       have hr := Option.some.inj h
       refine E4 ?_; simp only [go_sem]
       exact y3 (d' := .agg [.int .i64 v22.code, .int .i64 v22.index]) hsc (.same _) (by simp) ⟨by subst hr; rfl, rfl⟩
      ·replace h := B1 h (by first | exact hc | simpa using hc)
       refine E8 ?_; try simp only [go_sem]
       (repeat apply sq_); apply er_; simp only [go_sem]
       (repeat apply sq_); refine E3 ?_
       try simp only [go_sem]
       have hr := Option.some.inj h
       refine E4 ?_; simp only [go_sem]
       exact y3 (d' := .agg [.int .i64 0, .int .i64 0]) hsc (.same _) (by simp) ⟨by subst hr; rfl, rfl⟩
end Go.Proofs.YtaohdfpcdfbnlaaGreatDoor
