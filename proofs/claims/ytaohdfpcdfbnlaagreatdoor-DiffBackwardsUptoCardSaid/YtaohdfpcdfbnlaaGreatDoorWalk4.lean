import Derived.Test.YtaohdfpcdfbnlaaGreatDoorBase
import Derived.Test.YtaohdfpcdfbnlaaGreatDoorHand
import Derived.Test.YtaohdfpcdfbnlaaGreatDoorMirrors
import Derived.Test.YtaohdfpcdfbnlaaGreatDoorWalk3
set_option linter.unusedVariables false
set_option linter.unusedSimpArgs false
set_option maxHeartbeats 2000000
set_option maxRecDepth 100000
namespace Go.Proofs.YtaohdfpcdfbnlaaGreatDoor
open Go Go.Am
theorem eX (a0 : A9) (a1 : Int) (a2 : Int) (r : Bool) (h : Q0 a0 a1 a2 = some r) : Pure Tryz.prog gl 72 [.agg [.sl false 1 8 (rows U2 a0.up), .sl false 1 8 (rows U2 a0.down)], .int .i64 a1, .int .i64 a2] (.bool r) := by
 intro st
 unfold Q0 at h
 refine O4 (N := 16) (rs := [.tmp 6]) (keep := [0, 1, 2, 3, 6]) Tryz.func72 rfl rfl rfl (by kernel_rfl) rfl fun hsc => ?_
 (repeat apply sq_); apply er_; simp only [go_sem]
 obtain ⟨⟨f1, f2⟩, h⟩ := G1 h
 obtain ⟨f3, h⟩ := G1 h
 (repeat apply sq_); apply er_; simp only [go_sem, f1, f2, f3]
 (repeat apply sq_); refine E3 ?_
 try simp only [go_sem, f1, f2, f3]
 have hr := Option.some.inj h
 refine E4 ?_; simp only [go_sem, f1, f2, f3]
 exact y3 (d' := .bool (decide ((M1 .and .u64 (Int.fdiv (get a0.up a1.toNat) (2 ^ (min a2.toNat 64))) 1) = 1))) hsc (.same _) (by simp) ⟨by subst hr; rfl, rfl⟩
theorem jk (a0 : (List Bool)) (a1 : Bool) (r : Int) (h : Q7 a0 a1 = some r) : Pure Tryz.prog gl 89 [.sl false 1 1 (rows dB a0), .bool a1] (.int .i64 r) := by
 intro st
 unfold Q7 at h
 refine O4 (N := 19) (rs := [.tmp 4]) (keep := [0, 1, 4, 5, 7, 8, 9, 16]) Tryz.func89 rfl rfl rfl (by kernel_rfl) rfl fun hsc => ?_
 (repeat apply sq_); apply er_; simp only [go_sem]
 (repeat apply sq_); apply er_; simp only [go_sem]
 (repeat apply sq_); refine fG (t := 0) rfl fun hl0 => ?_
 simp only [eF] at hl0
 (repeat apply sq_); refine arg_ (body := S1 a1 a0) (kk := aq) (n := a0.length) (s0 := ())
  (fun (gs0 : Unit) (k0 : Nat) (s0 : Unit) => [(0, .sl false 1 1 (rows dB a0)), (1, .bool a1), (7, .int .i64 (↑a0.length : Int)), (8, .int .i64 (↑k0 : Int))])
  (fun (gs0 : Unit) (k0 : Nat) (s0 : Unit) => st)
  (fun (gt0 : Unit) (t0 : Unit) => [])
  (fun (gt0 : Unit) (t0 : Unit) => st)
  () h (D9 hsc ⟨.s, .s, .s, .s, trivial⟩ (by simp))
  (fun gs0 k0 s0 b0 hk0 h hx0 => ?_) (fun gs0 s0 => ?_) (fun gt0 t0 fr1 st1 h hb => ?_)
 ·unfold S1 at h
  have hw0 : wr .i64 ((↑k0 : Int) + 1) = (↑(k0 + 1) : Int) := gy hk0 hl0 (by decide)
  (repeat apply sq_); apply er_; simp only [go_sem]
  (repeat apply sq_); refine D4 (by rfl) (fun hc => ?_) fun hc => ?_
  ·refine E6 ?_; try simp only [go_sem]
   (repeat apply sq_); refine U8 ?_
   (repeat apply sq_); apply er_; simp only [go_sem, hk0, hw0]
   (repeat apply sq_); apply er_; simp only [go_sem, hk0, hw0]
   (repeat apply sq_); refine D4 (by rfl) (fun hc => ?_) fun hc => ?_
   ·replace h := B0 h (by first | exact hc | simpa using hc)
    (repeat apply sq_); apply er_; simp only [go_sem, hk0, hw0]
    (repeat apply sq_); refine E3 ?_
    try simp only [go_sem, hk0, hw0]
    obtain rfl := Option.some.inj h
    refine F9 ?_; have hr := hx0 _ rfl; try simp only [go_sem, hk0, hw0]
    refine E4 ?_; simp only [go_sem, hk0, hw0]
    exact B9 (d' := .int .i64 (↑k0 : Int)) hsc (.same _) (by simp) ⟨by subst hr; rfl, rfl⟩
   ·replace h := B1 h (by first | exact hc | simpa using hc)
    refine E6 ?_; try simp only [go_sem, hk0, hw0]
    (repeat apply sq_); apply er_; simp only [go_sem, hk0, hw0]
    cases h
    exact bK () (D9 hsc ⟨.s, .s, .s, .s, trivial⟩ (by simp))
  ·exfalso; have hc := of_decide_eq_false hc; omega
 ·(repeat apply sq_); apply er_; simp only [go_sem]
  (repeat apply sq_); refine D4 (by rfl) (fun hc => ?_) fun hc => ?_
  ·exfalso; first | exact Bool.noConfusion hc | (have hc := of_decide_eq_true hc; omega)
  ·refine Y2 ?_; simp only [go_sem]
   exact ⟨(), (D9 hsc trivial (by simp))⟩
 ·try simp only [go_sem]
  unfold aq at h
  refine L6 hb ?_
  (repeat apply sq_); apply er_; simp only [go_sem]
  (repeat apply sq_); refine E3 ?_
  try simp only [go_sem]
  have hr := Option.some.inj h
  refine E4 ?_; simp only [go_sem]
  exact B9 (d' := .int .i64 (-1)) hsc (.same _) (by simp) ⟨by subst hr; rfl, rfl⟩
theorem nF (n : Nat) (a0 : y5) (r : Int) (h : bW n a0 = some r) : Pure Tryz.prog gl 74 [.agg [.sl false 2 32 (rows w8.cells a0.nodes)]] (.int .i64 r) := by
 intro st
 unfold bW at h
 refine oG ?_; refine O4 (N := 58) (rs := [.tmp 2]) (keep := [0, 1, 2, 3, 4, 5, 7, 17, 34, 35, 36, 37, 45]) Tryz.func74 rfl rfl rfl (by kernel_rfl) rfl fun hsc => ?_
 (repeat apply sq_); apply er_; simp only [go_sem]
 obtain ⟨⟨f1, f2⟩, h⟩ := G1 h
 have e3 : List.replicate a0.nodes.length [.bool false] = rows dB (List.replicate a0.nodes.length (default : Bool)) := sj (E := dB) _ default
 (repeat apply sq_); apply er_; simp only [go_sem, f1, f2, e3]
 obtain ⟨f4, h⟩ := G1 h
 have e5 : (rows dB (List.replicate a0.nodes.length (default : Bool))).getD 0 [] = dB (get (List.replicate a0.nodes.length (default : Bool)) 0) := vn (E := dB) (l := (List.replicate a0.nodes.length (default : Bool))) (k := 0) (by first | omega | (simp; omega))
 have e6 : 0 < a0.nodes.length := by first | omega | (simp; omega)
 obtain ⟨c7, hc7, h⟩ := lD h
 have e8 : (rows dB (List.replicate a0.nodes.length (default : Bool))).set 0 [.bool true] = rows dB c7 := by rw [hc7]; first | exact Ey (E := dB) _ _ _ | simp only [go_sem, rows, List.map_set]
 (repeat apply sq_); apply er_; simp only [go_sem, f1, f2, f4, e5, e6, e8]
 have e9 : D.ref true (st.length + 1) 0 0 a0.nodes.length = D.ref true (st.length + 1) 0 0 c7.length := by simp [hc7]
 simp only [e9]
 have e10 : (8 ≤ top) = True := by simp [top]
 (repeat apply sq_); apply er_; simp only [go_sem, f1, f2, f4, e10]
 (repeat apply sq_); refine O5 (body := bB a0) (kk := bC) (n := n) (s0 := (c7, [0], 1))
  (fun (gs0 : Nat × Nat) (s0 : (List Bool) × (List Int) × Nat) => [(1, .ptr st.length 0 0 0), (3, .ref true (st.length + 1) gs0.1 0 s0.1.length), (4, .ref false (st.length + 2) gs0.2 0 s0.2.2)])
  (fun (gs0 : Nat × Nat) (s0 : (List Bool) × (List Int) × Nat) => st ++ [some (.arr 0 1 0 [[.sl false 2 32 (rows w8.cells a0.nodes)]]), some (.arr gs0.1 1 1 (rows dB s0.1)), some (.arr gs0.2 1 8 (rows O1 s0.2.1))])
  (fun (gt0 : Nat) (t0 : (List Bool)) => [(3, .ref true (st.length + 1) gt0 0 t0.length)])
  (fun (gt0 : Nat) (t0 : (List Bool)) => st ++ [none, some (.arr gt0 1 1 (rows dB t0))])
  (0, 0) h (G0 hsc (.lv (.lv (.lv (.nil _)))) (by simp) ⟨.s, .s, .DE _ _ _ _, trivial⟩ (by simp))
  (fun gs0 s0 b0 h hx0 => ?_) (fun gt0 t0 fr1 st1 h hb => ?_)
 ·unfold bB at h
  (repeat apply sq_); apply er_; simp only [go_sem, f1, f2, f4]
  (repeat apply sq_); refine D4 (by rfl) (fun hc => ?_) fun hc => ?_
  ·replace h := B0 h (by first | exact hc | simpa using hc)
   refine E6 ?_; try simp only [go_sem, f1, f2, f4]
   (repeat apply sq_); refine U8 ?_
   obtain ⟨f49, h⟩ := G1 h
   obtain ⟨⟨f50, f51⟩, h⟩ := G1 h
   have e52 : (rows O1 s0.2.1).getD ((wr .i64 ((↑s0.2.2 : Int) - 1)).toNat) [] = O1 (get s0.2.1 ((wr .i64 ((↑s0.2.2 : Int) - 1)).toNat)) := vn (E := O1) (l := s0.2.1) (k := (wr .i64 ((↑s0.2.2 : Int) - 1)).toNat) (by first | omega | (simp; omega))
   have e53 : (wr .i64 ((↑s0.2.2 : Int) - 1)).toNat < s0.2.1.length := by first | omega | (simp; omega)
   (repeat apply sq_); apply er_; simp only [go_sem, f1, f2, f4, f49, f50, f51, e52, e53]
   obtain ⟨f54, h⟩ := G1 h
   (repeat apply sq_); apply er_; simp only [go_sem, f1, f2, f4, f49, f50, f51, f54]
   obtain ⟨⟨f55, f56⟩, h⟩ := G1 h
   (repeat apply sq_); apply er_; simp only [go_sem, f1, f2, f4, f49, f50, f51, f54, f55, f56]
   (repeat apply sq_); refine fG (t := 34) rfl fun hl2 => ?_
   simp only [eF] at hl2
   (repeat apply sq_); refine arg_ (body := bx a0 s0) (kk := bA) (n := ((get a0.nodes ((get s0.2.1 ((wr .i64 ((↑s0.2.2 : Int) - 1)).toNat)).toNat)).links).length) (s0 := (s0.1, s0.2.1, (wr .i64 ((↑s0.2.2 : Int) - 1)).toNat))
    (fun (gs2 : Nat × Nat) (k2 : Nat) (s2 : (List Bool) × (List Int) × Nat) => [(1, .ptr st.length 0 0 0), (3, .ref true (st.length + 1) gs2.1 0 s2.1.length), (4, .ref false (st.length + 2) gs2.2 0 s2.2.2), (34, .sl false 2 16 (rows D8.cells ((get a0.nodes ((get s0.2.1 ((wr .i64 ((↑s0.2.2 : Int) - 1)).toNat)).toNat)).links))), (35, .int .i64 (↑(((get a0.nodes ((get s0.2.1 ((wr .i64 ((↑s0.2.2 : Int) - 1)).toNat)).toNat)).links).length) : Int)), (36, .int .i64 (↑k2 : Int))])
    (fun (gs2 : Nat × Nat) (k2 : Nat) (s2 : (List Bool) × (List Int) × Nat) => st ++ [some (.arr 0 1 0 [[.sl false 2 32 (rows w8.cells a0.nodes)]]), some (.arr gs2.1 1 1 (rows dB s2.1)), some (.arr gs2.2 1 8 (rows O1 s2.2.1))])
    (fun (gt2 : Nat × Nat) (t2 : (List Bool) × (List Int) × Nat) => [(1, .ptr st.length 0 0 0), (3, .ref true (st.length + 1) gt2.1 0 t2.1.length), (4, .ref false (st.length + 2) gt2.2 0 t2.2.2)])
    (fun (gt2 : Nat × Nat) (t2 : (List Bool) × (List Int) × Nat) => st ++ [some (.arr 0 1 0 [[.sl false 2 32 (rows w8.cells a0.nodes)]]), some (.arr gt2.1 1 1 (rows dB t2.1)), some (.arr gt2.2 1 8 (rows O1 t2.2.1))])
    (gs0.1, gs0.2) h (G0 hsc (.lv (.lv (.lv (.nil _)))) (by simp) ⟨.s, .s, .s, .s, .s, .s, trivial⟩ (by simp))
    (fun gs2 k2 s2 b2 hk2 h hx2 => ?_) (fun gs2 s2 => ?_) (fun gt2 t2 fr1 st1 h hb => ?_)
   ·unfold bx at h
    have hw2 : wr .i64 ((↑k2 : Int) + 1) = (↑(k2 + 1) : Int) := gy hk2 hl2 (by decide)
    (repeat apply sq_); apply er_; simp only [go_sem, f1, f2, f4, f49, f50, f51, f54, f55, f56]
    (repeat apply sq_); refine D4 (by rfl) (fun hc => ?_) fun hc => ?_
    ·refine E6 ?_; try simp only [go_sem, f1, f2, f4, f49, f50, f51, f54, f55, f56]
     (repeat apply sq_); refine U8 ?_
     (repeat apply sq_); apply er_; simp only [go_sem, f1, f2, f4, f49, f50, f51, f54, f55, f56, hk2, hw2]
     obtain ⟨⟨f73, f74⟩, h⟩ := G1 h
     have e75 : (rows dB s2.1).getD (((get ((get a0.nodes ((get s0.2.1 ((wr .i64 ((↑s0.2.2 : Int) - 1)).toNat)).toNat)).links) k2).to_).toNat) [] = dB (get s2.1 (((get ((get a0.nodes ((get s0.2.1 ((wr .i64 ((↑s0.2.2 : Int) - 1)).toNat)).toNat)).links) k2).to_).toNat)) := vn (E := dB) (l := s2.1) (k := ((get ((get a0.nodes ((get s0.2.1 ((wr .i64 ((↑s0.2.2 : Int) - 1)).toNat)).toNat)).links) k2).to_).toNat) (by first | omega | (simp; omega))
     have e76 : ((get ((get a0.nodes ((get s0.2.1 ((wr .i64 ((↑s0.2.2 : Int) - 1)).toNat)).toNat)).links) k2).to_).toNat < s2.1.length := by first | omega | (simp; omega)
     (repeat apply sq_); apply er_; simp only [go_sem, f1, f2, f4, f49, f50, f51, f54, f55, f56, hk2, hw2, f73, f74, e75, e76]
     (repeat apply sq_); refine D4 (by rfl) (fun hc => ?_) fun hc => ?_
     ·replace h := B0 h (by first | exact hc | simpa using hc)
      have e77 : (rows dB s2.1).getD (((get ((get a0.nodes ((get s0.2.1 ((wr .i64 ((↑s0.2.2 : Int) - 1)).toNat)).toNat)).links) k2).to_).toNat) [] = dB (get s2.1 (((get ((get a0.nodes ((get s0.2.1 ((wr .i64 ((↑s0.2.2 : Int) - 1)).toNat)).toNat)).links) k2).to_).toNat)) := vn (E := dB) (l := s2.1) (k := ((get ((get a0.nodes ((get s0.2.1 ((wr .i64 ((↑s0.2.2 : Int) - 1)).toNat)).toNat)).links) k2).to_).toNat) (by first | omega | (simp; omega))
      have e78 : ((get ((get a0.nodes ((get s0.2.1 ((wr .i64 ((↑s0.2.2 : Int) - 1)).toNat)).toNat)).links) k2).to_).toNat < s2.1.length := by first | omega | (simp; omega)
      obtain ⟨c79, Jw, h⟩ := lD h
      have e80 : (rows dB s2.1).set (((get ((get a0.nodes ((get s0.2.1 ((wr .i64 ((↑s0.2.2 : Int) - 1)).toNat)).toNat)).links) k2).to_).toNat) [.bool true] = rows dB c79 := by rw [Jw]; first | exact Ey (E := dB) _ _ _ | simp only [go_sem, rows, List.map_set]
      (repeat apply sq_); apply er_; simp only [go_sem, f1, f2, f4, f49, f50, f51, f54, f55, f56, hk2, hw2, f73, f74, e77, e78, e80]
      have e81 : D.ref true (st.length + 1) gs2.1 0 s2.1.length = D.ref true (st.length + 1) gs2.1 0 c79.length := by simp [Jw]
      simp only [e81]
      have e82 : (8 ≤ top) = True := by simp [top]
      obtain ⟨f83, h⟩ := G1 h
      obtain ⟨c84, Jx, h⟩ := lD h
      have e85 : rows O1 (s2.2.1.take s2.2.2) ++ [[.int .i64 ((get ((get a0.nodes ((get s0.2.1 ((wr .i64 ((↑s0.2.2 : Int) - 1)).toNat)).toNat)).links) k2).to_)]] = rows O1 c84 := by rw [Jx]; first | exact L5 (E := O1) (s2.2.1.take s2.2.2) [(get ((get a0.nodes ((get s0.2.1 ((wr .i64 ((↑s0.2.2 : Int) - 1)).toNat)).toNat)).links) k2).to_] | simp only [go_sem, rows, List.map_append, List.map_cons, List.map_nil]
      have e86 : s2.2.2 + 1 = c84.length := by rw [Jx]; simp <;> omega
      obtain ⟨⟨f87, f88⟩, h⟩ := G1 h
      (repeat apply sq_); apply er_; simp only [go_sem, f1, f2, f4, f49, f50, f51, f54, f55, f56, hk2, hw2, f73, f74, f83, f87, f88, e82, e85, e86]
      (repeat apply sq_); apply er_; simp only [go_sem, f1, f2, f4, f49, f50, f51, f54, f55, f56, hk2, hw2, f73, f74, f83, f87, f88]
      cases h
      exact bK (gs2.1, (gs2.2 + 1)) (G0 hsc (.lv (.lv (.lv (.nil _)))) (by simp) ⟨.s, .s, .s, .s, .s, .s, trivial⟩ (by simp))
     ·replace h := B1 h (by first | exact hc | simpa using hc)
      refine E6 ?_; try simp only [go_sem, f1, f2, f4, f49, f50, f51, f54, f55, f56, hk2, hw2, f73, f74]
      (repeat apply sq_); apply er_; simp only [go_sem, f1, f2, f4, f49, f50, f51, f54, f55, f56, hk2, hw2, f73, f74]
      cases h
      exact bK (gs2.1, gs2.2) (G0 hsc (.lv (.lv (.lv (.nil _)))) (by simp) ⟨.s, .s, .s, .s, .s, .s, trivial⟩ (by simp))
    ·exfalso; have hc := of_decide_eq_false hc; omega
   ·(repeat apply sq_); apply er_; simp only [go_sem, f1, f2, f4, f49, f50, f51, f54, f55, f56]
    (repeat apply sq_); refine D4 (by rfl) (fun hc => ?_) fun hc => ?_
    ·exfalso; first | exact Bool.noConfusion hc | (have hc := of_decide_eq_true hc; omega)
    ·refine Y2 ?_; simp only [go_sem, f1, f2, f4, f49, f50, f51, f54, f55, f56]
     exact ⟨(gs2.1, gs2.2), (G0 hsc (.lv (.lv (.lv (.nil _)))) (by simp) ⟨.s, .s, .s, trivial⟩ (by simp))⟩
   ·try simp only [go_sem, f1, f2, f4, f49, f50, f51, f54, f55, f56]
    unfold bA at h
    cases h
    exact U4 (gt2.1, gt2.2) (hb.trans (G0 hsc (.lv (.lv (.lv (.nil _)))) (by simp) ⟨.s, .s, .s, trivial⟩ (by simp)))
  ·replace h := B1 h (by first | exact hc | simpa using hc)
   (repeat apply sq_); refine Y2 ?_; try simp only [go_sem, f1, f2, f4]
   cases h
   exact bL gs0.1 (G0 hsc (.dead _ _ _ (.lv (.nil _))) (by simp) ⟨.s, trivial⟩ (by simp))
 ·try simp only [go_sem, f1, f2, f4]
  unfold bC at h
  refine L6 hb ?_
  (repeat apply sq_); apply er_; simp only [go_sem, f1, f2, f4]
  obtain ⟨v89, hv89, h⟩ := C6 h
  refine Cm ?_; refine ((jk _ _ _ hv89).borrow (args := [.ref true (st.length + 1) gt0 0 t0.length, .bool false]) (.cons _ _ _ _ (.ref _ _ _ _ _ _ _ _ _ (dH.trans rfl) Ap (by decide) (kB _) (by simp only [go_sem])) (.cons _ _ _ _ .s .nil)) (by simp) rfl ) ?_
  try simp only [go_sem, f1, f2, f4]
  (repeat apply sq_); refine E3 ?_
  try simp only [go_sem, f1, f2, f4]
  have hr := Option.some.inj h
  refine E4 ?_; simp only [go_sem, f1, f2, f4]
  exact y3 (d' := .int .i64 v89) hsc (.same _) (by simp) ⟨by subst hr; rfl, rfl⟩
theorem gY (n : Nat) (a0 : w4) (a1 : A9) (a2 : y5) (r : y7) (h : cu n a0 a1 a2 = some r) : Pure Tryz.prog gl 48 [.agg [.sl false 2 40 (rows w7.cells a0.types), .sl false 3 32 (rows x9.cells a0.C9)], .agg [.sl false 1 8 (rows U2 a1.up), .sl false 1 8 (rows U2 a1.down)], .agg [.sl false 2 32 (rows w8.cells a2.nodes)]] (.agg [.int .i64 r.code, .int .i64 r.index]) := by
 intro st
 unfold cu at h
 refine O4 (N := 74) (rs := [.cell 6 41]) (keep := [0, 1, 2, 3, 4, 5, 6, 7, 8, 9, 11, 12, 13, 19, 22, 23, 24, 25, 30, 31, 32, 33, 50, 51, 52, 53, 54, 55, 56, 57, 58, 59, 60, 61, 62, 70]) Tryz.func48 rfl rfl rfl (by kernel_rfl) rfl fun hsc => ?_
 (repeat apply sq_); apply er_; simp only [go_sem]
 (repeat apply sq_); apply er_; simp only [go_sem]
 obtain ⟨v1, hv1, h⟩ := C6 h
 refine ((sT _ _ _ hv1)).to ?_
 try simp only [go_sem]
 (repeat apply sq_); apply er_; simp only [go_sem]
 (repeat apply sq_); refine D4 (by rfl) (fun hc => ?_) fun hc => ?_
 ·replace h := B0 h (by first | exact hc | simpa using hc)
  (repeat apply sq_); apply er_; simp only [go_sem]
  (repeat apply sq_); refine E3 ?_
  try simp only [go_sem]
  have hr := Option.some.inj h
  refine E4 ?_; simp only [go_sem]
  exact y3 (d' := .agg [.int .i64 v1.code, .int .i64 v1.index]) hsc (.same _) (by simp) ⟨by subst hr; rfl, rfl⟩
 ·replace h := B1 h (by first | exact hc | simpa using hc)
  refine E6 ?_; try simp only [go_sem]
  (repeat apply sq_); apply er_; simp only [go_sem]
  (repeat apply sq_); refine fG (t := 22) rfl fun hl0 => ?_
  simp only [eF] at hl0
  (repeat apply sq_); refine arg_ (body := dV a2 a0 a1) (kk := dW n a2) (n := a2.nodes.length) (s0 := ())
   (fun (gs0 : Unit) (k0 : Nat) (s0 : Unit) => [(3, .ptr st.length 0 0 0), (4, .ptr (st.length + 1) 0 0 0), (5, .ptr (st.length + 2) 0 0 0), (6, .ptr (st.length + 3) 0 0 0), (22, .sl false 2 32 (rows w8.cells a2.nodes)), (23, .int .i64 (↑a2.nodes.length : Int)), (24, .int .i64 (↑k0 : Int))])
   (fun (gs0 : Unit) (k0 : Nat) (s0 : Unit) => st ++ [some (.arr 0 2 0 [[.sl false 2 40 (rows w7.cells a0.types), .sl false 3 32 (rows x9.cells a0.C9)]]), some (.arr 0 2 0 [[.sl false 1 8 (rows U2 a1.up), .sl false 1 8 (rows U2 a1.down)]]), some (.arr 0 1 0 [[.sl false 2 32 (rows w8.cells a2.nodes)]]), some (.arr 0 2 0 [[.int .i64 0, .int .i64 0]])])
   (fun (gt0 : Unit) (t0 : Unit) => [(5, .ptr (st.length + 2) 0 0 0), (6, .ptr (st.length + 3) 0 0 0)])
   (fun (gt0 : Unit) (t0 : Unit) => st ++ [none, none, some (.arr 0 1 0 [[.sl false 2 32 (rows w8.cells a2.nodes)]]), some (.arr 0 2 0 [[.int .i64 0, .int .i64 0]])])
   () h (G0 hsc (.lv (.lv (.lv (.lv (.nil _))))) (by simp) ⟨.s, .s, .s, .s, .s, .s, .s, trivial⟩ (by simp))
   (fun gs0 k0 s0 b0 hk0 h hx0 => ?_) (fun gs0 s0 => ?_) (fun gt0 t0 fr1 st1 h hb => ?_)
  ·unfold dV at h
   have hw0 : wr .i64 ((↑k0 : Int) + 1) = (↑(k0 + 1) : Int) := gy hk0 hl0 (by decide)
   (repeat apply sq_); apply er_; simp only [go_sem]
   (repeat apply sq_); refine D4 (by rfl) (fun hc => ?_) fun hc => ?_
   ·refine E6 ?_; try simp only [go_sem]
    (repeat apply sq_); refine U8 ?_
    (repeat apply sq_); apply er_; simp only [go_sem, hk0, hw0]
    (repeat apply sq_); apply er_; simp only [go_sem, hk0, hw0]
    (repeat apply sq_); refine fG (t := 30) rfl fun hl2 => ?_
    simp only [eF] at hl2
    (repeat apply sq_); refine arg_ (body := dU a2 k0 a0 a1) (kk := gU) (n := ((get a2.nodes k0).links).length) (s0 := ())
     (fun (gs2 : Unit) (k2 : Nat) (s2 : Unit) => [(3, .ptr st.length 0 0 0), (4, .ptr (st.length + 1) 0 0 0), (5, .ptr (st.length + 2) 0 0 0), (6, .ptr (st.length + 3) 0 0 0), (8, .int .i64 (↑k0 : Int)), (9, .ptr (st.length + 4) 0 0 0), (22, .sl false 2 32 (rows w8.cells a2.nodes)), (23, .int .i64 (↑a2.nodes.length : Int)), (24, .int .i64 (↑k0 : Int)), (30, .sl false 2 16 (rows D8.cells ((get a2.nodes k0).links))), (31, .int .i64 (↑(((get a2.nodes k0).links).length) : Int)), (32, .int .i64 (↑k2 : Int))])
     (fun (gs2 : Unit) (k2 : Nat) (s2 : Unit) => st ++ [some (.arr 0 2 0 [[.sl false 2 40 (rows w7.cells a0.types), .sl false 3 32 (rows x9.cells a0.C9)]]), some (.arr 0 2 0 [[.sl false 1 8 (rows U2 a1.up), .sl false 1 8 (rows U2 a1.down)]]), some (.arr 0 1 0 [[.sl false 2 32 (rows w8.cells a2.nodes)]]), some (.arr 0 2 0 [[.int .i64 0, .int .i64 0]]), some (.arr 0 2 0 [[.int .i64 ((get a2.nodes k0).type), .sl false 2 16 (rows D8.cells ((get a2.nodes k0).links))]])])
     (fun (gt2 : Unit) (t2 : Unit) => [(3, .ptr st.length 0 0 0), (4, .ptr (st.length + 1) 0 0 0), (5, .ptr (st.length + 2) 0 0 0), (6, .ptr (st.length + 3) 0 0 0), (22, .sl false 2 32 (rows w8.cells a2.nodes)), (23, .int .i64 (↑a2.nodes.length : Int)), (24, .int .i64 (↑k0 : Int))])
     (fun (gt2 : Unit) (t2 : Unit) => st ++ [some (.arr 0 2 0 [[.sl false 2 40 (rows w7.cells a0.types), .sl false 3 32 (rows x9.cells a0.C9)]]), some (.arr 0 2 0 [[.sl false 1 8 (rows U2 a1.up), .sl false 1 8 (rows U2 a1.down)]]), some (.arr 0 1 0 [[.sl false 2 32 (rows w8.cells a2.nodes)]]), some (.arr 0 2 0 [[.int .i64 0, .int .i64 0]])])
     () h (G0 hsc (.lv (.lv (.lv (.lv (.lv (.nil _)))))) (by simp) ⟨.s, .s, .s, .s, .s, .s, .s, .s, .s, .s, .s, .s, trivial⟩ (by simp))
     (fun gs2 k2 s2 b2 hk2 h hx2 => ?_) (fun gs2 s2 => ?_) (fun gt2 t2 fr1 st1 h hb => ?_)
    ·unfold dU at h
     have hw2 : wr .i64 ((↑k2 : Int) + 1) = (↑(k2 + 1) : Int) := gy hk2 hl2 (by decide)
     (repeat apply sq_); apply er_; simp only [go_sem, hk0, hw0]
     (repeat apply sq_); refine D4 (by rfl) (fun hc => ?_) fun hc => ?_
     ·refine E6 ?_; try simp only [go_sem, hk0, hw0]
      (repeat apply sq_); refine U8 ?_
      (repeat apply sq_); apply er_; simp only [go_sem, hk0, hw0, hk2, hw2]
      obtain ⟨⟨f26, f27⟩, h⟩ := G1 h
      (repeat apply sq_); apply er_; simp only [go_sem, hk0, hw0, hk2, hw2, f26, f27]
      (repeat apply sq_); refine ak [] 0 follows (by kernel_rfl) (by rfl) ?_; simp only [go_sem, List.replicate_succ, List.replicate_zero, hk0, hw0, hk2, hw2, f26, f27]
      obtain ⟨v28, hv28, h⟩ := C6 h
      refine A0 (eX _ _ _ _ hv28) ?_
      obtain ⟨⟨f30, f31⟩, h⟩ := G1 h
      try simp only [go_sem, hk0, hw0, hk2, hw2, f26, f27, f30, f31]
      obtain ⟨v32, hv32, h⟩ := C6 h
      refine Y3 (fun hG => (eX _ _ _ _ (iu hv32 (by simpa using hG)))) ?_
      try simp only [go_sem, hk0, hw0, hk2, hw2, f26, f27, f30, f31]
      (repeat apply sq_); refine D4 (by rfl) (fun hc => ?_) fun hc => ?_
      ·replace h := B0 h (by first | exact hc | simpa using hc)
       (repeat apply sq_); apply er_; simp only [go_sem, hk0, hw0, hk2, hw2, f26, f27, f30, f31]
       obtain ⟨v33, hv33, h⟩ := C6 h
       refine ((bH _ _ _ hv33)).to ?_
       try simp only [go_sem, hk0, hw0, hk2, hw2, f26, f27, f30, f31]
       (repeat apply sq_); refine E3 ?_
       try simp only [go_sem, hk0, hw0, hk2, hw2, f26, f27, f30, f31]
       obtain rfl := Option.some.inj h
       refine F9 ?_; obtain rfl := hx2 _ rfl; try simp only [go_sem, hk0, hw0, hk2, hw2, f26, f27, f30, f31]
       refine F9 ?_; have hr := hx0 _ rfl; try simp only [go_sem, hk0, hw0, hk2, hw2, f26, f27, f30, f31]
       refine E4 ?_; simp only [go_sem, hk0, hw0, hk2, hw2, f26, f27, f30, f31]
       exact y3 (d' := .agg [.int .i64 v33.code, .int .i64 v33.index]) hsc (.same _) (by simp) ⟨by subst hr; rfl, rfl⟩
      ·replace h := B1 h (by first | exact hc | simpa using hc)
       refine E6 ?_; try simp only [go_sem, hk0, hw0, hk2, hw2, f26, f27, f30, f31]
       (repeat apply sq_); apply er_; simp only [go_sem, hk0, hw0, hk2, hw2, f26, f27, f30, f31]
       cases h
       exact bK () (G0 hsc (.lv (.lv (.lv (.lv (.lv (.nil _)))))) (by simp) ⟨.s, .s, .s, .s, .s, .s, .s, .s, .s, .s, .s, .s, trivial⟩ (by simp))
     ·exfalso; have hc := of_decide_eq_false hc; omega
    ·(repeat apply sq_); apply er_; simp only [go_sem, hk0, hw0]
     (repeat apply sq_); refine D4 (by rfl) (fun hc => ?_) fun hc => ?_
     ·exfalso; first | exact Bool.noConfusion hc | (have hc := of_decide_eq_true hc; omega)
     ·refine Y2 ?_; simp only [go_sem, hk0, hw0]
      exact ⟨(), (G0 hsc (.lv (.lv (.lv (.lv (.nil _))))) (by simp) ⟨.s, .s, .s, .s, .s, .s, .s, trivial⟩ (by simp))⟩
    ·try simp only [go_sem, hk0, hw0]
     unfold gU at h
     refine L6 hb ?_
     (repeat apply sq_); apply er_; simp only [go_sem, hk0, hw0]
     cases h
     exact bK () (G0 hsc (.lv (.lv (.lv (.lv (.nil _))))) (by simp) ⟨.s, .s, .s, .s, .s, .s, .s, trivial⟩ (by simp))
   ·exfalso; have hc := of_decide_eq_false hc; omega
  ·(repeat apply sq_); apply er_; simp only [go_sem]
   (repeat apply sq_); refine D4 (by rfl) (fun hc => ?_) fun hc => ?_
   ·exfalso; first | exact Bool.noConfusion hc | (have hc := of_decide_eq_true hc; omega)
   ·refine Y2 ?_; simp only [go_sem]
    exact ⟨(), (G0 hsc (.dead _ _ _ (.dead _ _ _ (.lv (.lv (.nil _))))) (by simp) ⟨.s, .s, trivial⟩ (by simp))⟩
  ·try simp only [go_sem]
   unfold dW at h
   refine L6 hb ?_
   (repeat apply sq_); apply er_; simp only [go_sem]
   obtain ⟨v34, hv34, h⟩ := C6 h
   refine ((nF n _ _ hv34)).to ?_
   try simp only [go_sem]
   (repeat apply sq_); apply er_; simp only [go_sem]
   (repeat apply sq_); refine D4 (by rfl) (fun hc => ?_) fun hc => ?_
   ·replace h := B0 h (by first | exact hc | simpa using hc)
    (repeat apply sq_); apply er_; simp only [go_sem]
    obtain ⟨v35, hv35, h⟩ := C6 h
    refine ((bH _ _ _ hv35)).to ?_
    try simp only [go_sem]
    (repeat apply sq_); refine E3 ?_
    try simp only [go_sem]
    have hr := Option.some.inj h
    refine E4 ?_; simp only [go_sem]
    exact y3 (d' := .agg [.int .i64 v35.code, .int .i64 v35.index]) hsc (.same _) (by simp) ⟨by subst hr; rfl, rfl⟩
   ·replace h := B1 h (by first | exact hc | simpa using hc)
    refine E6 ?_; try simp only [go_sem]
    (repeat apply sq_); apply er_; simp only [go_sem]
    (repeat apply sq_); refine E3 ?_
    try simp only [go_sem]
    have hr := Option.some.inj h
    refine E4 ?_; simp only [go_sem]
    exact y3 (d' := .agg [.int .i64 0, .int .i64 0]) hsc (.same _) (by simp) ⟨by subst hr; rfl, rfl⟩
end Go.Proofs.YtaohdfpcdfbnlaaGreatDoor
