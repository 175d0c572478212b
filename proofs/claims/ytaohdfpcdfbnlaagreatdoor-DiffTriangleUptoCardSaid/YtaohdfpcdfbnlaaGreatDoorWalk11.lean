import Derived.Test.YtaohdfpcdfbnlaaGreatDoorBase
import Derived.Test.YtaohdfpcdfbnlaaGreatDoorHand
import Derived.Test.YtaohdfpcdfbnlaaGreatDoorMirrors
import Derived.Test.YtaohdfpcdfbnlaaGreatDoorWalk10
set_option linter.unusedVariables false
set_option linter.unusedSimpArgs false
set_option maxHeartbeats 2000000
set_option maxRecDepth 100000
namespace Go.Proofs.YtaohdfpcdfbnlaaGreatDoor
open Go Go.Am
theorem nB (a0 : w8) (a1 : w8) (r : Bool) (h : bU a0 a1 = some r) : Pure Tryz.prog gl 56 [.agg [.int .i64 a0.type, .sl false 2 16 (rows D8.cells a0.links)], .agg [.int .i64 a1.type, .sl false 2 16 (rows D8.cells a1.links)]] (.bool r) := by
 intro st
 unfold bU at h
 refine O4 (N := 17) (rs := [.tmp 4]) (keep := [0, 1, 2, 3, 4, 11, 12, 13, 14, 15]) Tryz.func56 rfl rfl rfl (by kernel_rfl) rfl fun hsc => ?_
 (repeat apply sq_); apply er_; simp only [go_sem]
 (repeat apply sq_); apply er_; simp only [go_sem]
 obtain ⟨v1, hv1, h⟩ := C6 h
 refine M6 (fun hG => (aM _ _ _ (iu hv1 (by simpa using hG)))) ?_
 try simp only [go_sem]
 (repeat apply sq_); refine E3 ?_
 try simp only [go_sem]
 have hr := Option.some.inj h
 refine E4 ?_; simp only [go_sem]
 exact y3 (d' := .bool (bif (decide (a0.type = a1.type)) then v1 else false)) hsc (.same _) (by simp) ⟨by subst hr; rfl, rfl⟩
theorem V0 (a0 : (List w8)) (a1 : (List w8)) (r : Bool) (h : F4 a0 a1 = some r) : Pure Tryz.prog gl 55 [.sl false 2 32 (rows w8.cells a0), .sl false 2 32 (rows w8.cells a1), .fn 56 [] []] (.bool r) := by
 intro st
 unfold F4 at h
 refine O4 (N := 32) (rs := [.tmp 6]) (keep := [0, 1, 2, 6, 7, 8, 9, 14, 15, 16, 17, 18, 30]) Tryz.func55 rfl rfl rfl (by kernel_rfl) rfl fun hsc => ?_
 (repeat apply sq_); apply er_; simp only [go_sem]
 (repeat apply sq_); apply er_; simp only [go_sem]
 (repeat apply sq_); refine D4 (by rfl) (fun hc => ?_) fun hc => ?_
 ·replace h := B0 h (by first | exact hc | simpa using hc)
  (repeat apply sq_); apply er_; simp only [go_sem]
  (repeat apply sq_); refine E3 ?_
  try simp only [go_sem]
  have hr := Option.some.inj h
  refine E4 ?_; simp only [go_sem]
  exact B9 (d' := .bool false) hsc (.same _) (by simp) ⟨by subst hr; rfl, rfl⟩
 ·replace h := B1 h (by first | exact hc | simpa using hc)
  refine E6 ?_; try simp only [go_sem]
  (repeat apply sq_); apply er_; simp only [go_sem]
  (repeat apply sq_); refine fG (t := 15) rfl fun hl0 => ?_
  simp only [eF] at hl0
  (repeat apply sq_); refine arg_ (body := G5 a1 a0) (kk := G6) (n := a0.length) (s0 := ())
   (fun (gs0 : Unit) (k0 : Nat) (s0 : Unit) => [(1, .sl false 2 32 (rows w8.cells a1)), (2, .fn 56 [] []), (15, .sl false 2 32 (rows w8.cells a0)), (16, .int .i64 (↑a0.length : Int)), (17, .int .i64 (↑k0 : Int))])
   (fun (gs0 : Unit) (k0 : Nat) (s0 : Unit) => st)
   (fun (gt0 : Unit) (t0 : Unit) => [])
   (fun (gt0 : Unit) (t0 : Unit) => st)
   () h (D9 hsc ⟨.s, .s, .s, .s, .s, trivial⟩ (by simp))
   (fun gs0 k0 s0 b0 hk0 h hx0 => ?_) (fun gs0 s0 => ?_) (fun gt0 t0 fr1 st1 h hb => ?_)
  ·unfold G5 at h
   have hw0 : wr .i64 ((↑k0 : Int) + 1) = (↑(k0 + 1) : Int) := gy hk0 hl0 (by decide)
   (repeat apply sq_); apply er_; simp only [go_sem]
   (repeat apply sq_); refine D4 (by rfl) (fun hc => ?_) fun hc => ?_
   ·refine E6 ?_; try simp only [go_sem]
    (repeat apply sq_); refine U8 ?_
    (repeat apply sq_); apply er_; simp only [go_sem, hk0, hw0]
    obtain ⟨f1, h⟩ := G1 h
    (repeat apply sq_); apply er_; simp only [go_sem, hk0, hw0, f1]
    (repeat apply sq_); apply er_; simp only [go_sem, hk0, hw0, f1]
    obtain ⟨v2, hv2, h⟩ := C6 h
    refine ((nB _ _ _ hv2)).to ?_
    try simp only [go_sem, hk0, hw0, f1]
    (repeat apply sq_); refine D4 (by rfl) (fun hc => ?_) fun hc => ?_
    ·replace h := B0 h (by first | exact hc | simpa using hc)
     (repeat apply sq_); apply er_; simp only [go_sem, hk0, hw0, f1]
     (repeat apply sq_); refine E3 ?_
     try simp only [go_sem, hk0, hw0, f1]
     obtain rfl := Option.some.inj h
     refine F9 ?_; have hr := hx0 _ rfl; try simp only [go_sem, hk0, hw0, f1]
     refine E4 ?_; simp only [go_sem, hk0, hw0, f1]
     exact y3 (d' := .bool false) hsc (.same _) (by simp) ⟨by subst hr; rfl, rfl⟩
    ·replace h := B1 h (by first | exact hc | simpa using hc)
     refine E6 ?_; try simp only [go_sem, hk0, hw0, f1]
     (repeat apply sq_); apply er_; simp only [go_sem, hk0, hw0, f1]
     cases h
     exact bK () (aO hsc ⟨.s, .s, .s, .s, .s, trivial⟩ (by simp))
   ·exfalso; have hc := of_decide_eq_false hc; omega
  ·(repeat apply sq_); apply er_; simp only [go_sem]
   (repeat apply sq_); refine D4 (by rfl) (fun hc => ?_) fun hc => ?_
   ·exfalso; first | exact Bool.noConfusion hc | (have hc := of_decide_eq_true hc; omega)
   ·refine Y2 ?_; simp only [go_sem]
    exact ⟨(), (D9 hsc trivial (by simp))⟩
  ·try simp only [go_sem]
   unfold G6 at h
   refine L6 hb ?_
   (repeat apply sq_); apply er_; simp only [go_sem]
   (repeat apply sq_); refine E3 ?_
   try simp only [go_sem]
   have hr := Option.some.inj h
   refine E4 ?_; simp only [go_sem]
   exact B9 (d' := .bool true) hsc (.same _) (by simp) ⟨by subst hr; rfl, rfl⟩
theorem eS (a0 : y5) (a1 : y5) (r : Bool) (h : Y4 a0 a1 = some r) : Pure Tryz.prog gl 14 [.agg [.sl false 2 32 (rows w8.cells a0.nodes)], .agg [.sl false 2 32 (rows w8.cells a1.nodes)]] (.bool r) := by
 intro st
 unfold Y4 at h
 refine O4 (N := 10) (rs := [.tmp 4]) (keep := [0, 1, 2, 3, 4]) Tryz.func14 rfl rfl rfl (by kernel_rfl) rfl fun hsc => ?_
 (repeat apply sq_); apply er_; simp only [go_sem]
 (repeat apply sq_); apply er_; simp only [go_sem]
 obtain ⟨v1, hv1, h⟩ := C6 h
 refine ((V0 _ _ _ hv1)).to ?_
 try simp only [go_sem]
 (repeat apply sq_); refine E3 ?_
 try simp only [go_sem]
 have hr := Option.some.inj h
 refine E4 ?_; simp only [go_sem]
 exact y3 (d' := .bool v1) hsc (.same _) (by simp) ⟨by subst hr; rfl, rfl⟩
theorem fD (a0 : (List D8)) (r : (List D8)) (h : U7 a0 = some r) : Pure Tryz.prog gl 58 [.sl false 2 16 (rows D8.cells a0)] (.sl false 2 16 (rows D8.cells r)) := by
 intro st
 refine oG ?_
 unfold U7 at h
 have hr := Option.some.inj h
 subst hr
 refine O4 (N := 8) (rs := [.tmp 2]) (keep := [0, 2, 4]) Tryz.func58 rfl rfl rfl (by kernel_rfl) rfl fun hsc => ?_
 refine fG (t := 0) rfl fun hl => ?_
 (repeat apply sq_); apply er_; simp only [go_sem]
 (repeat apply sq_); refine pJ rfl ⟨133, by rw [Iv]⟩ (by omega) (by omega) fun c hcn => ?_
 simp only [go_sem]
 (repeat apply sq_); refine D4 (by rfl) (fun hc => ?_) fun hc => ?_
 ·(repeat apply sq_); apply er_; simp only [go_sem]
  refine E3 ?_
  try simp only [go_sem]
  have GD := hcn hc
  rw [GD]
  refine E4 ?_; simp only [go_sem]
  exact B9 hsc (.B4 _ _ _ (by decide)) (by simp) ⟨rfl, rfl⟩
 ·refine E6 ?_; try simp only [go_sem]
  (repeat apply sq_); apply er_; simp only [go_sem]
  simp only [eF] at hl
  refine ⟨⟨by omega, by simp only [top] at *; omega⟩, ?_⟩
  refine E3 ?_
  try simp only [go_sem]
  refine E4 ?_; simp only [go_sem]
  exact y3 hsc (.ref _ _ _ _ _ _ _ _ _ (dH.trans rfl) oD (by decide) (kB a0) (by simp only [go_sem])) (by simp) ⟨rfl, rfl⟩
theorem bG (a0 : y5) (r : y5) (h : P5 a0 = some r) : Pure Tryz.prog gl 15 [.agg [.sl false 2 32 (rows w8.cells a0.nodes)]] (.agg [.sl false 2 32 (rows w8.cells r.nodes)]) := by
 intro st
 unfold P5 at h
 refine O4 (N := 27) (rs := [.cell 2 30]) (keep := [0, 1, 2, 3, 5, 8, 9, 10, 11]) Tryz.func15 rfl rfl rfl (by kernel_rfl) rfl fun hsc => ?_
 (repeat apply sq_); apply er_; simp only [go_sem]
 (repeat apply sq_); apply er_; simp only [go_sem]
 (repeat apply sq_); apply er_; simp only [go_sem]
 (repeat apply sq_); refine Z7 2 32 ?_
 try simp only [List.append_assoc, List.cons_append, List.nil_append]
 refine L6 (F := [(2, .ptr (st.length + 1) 0 0 0), (3, .ptr (st.length + 2) 0 0 0), (8, .sl false 2 32 (rows w8.cells a0.nodes)), (9, .int .i64 (↑a0.nodes.length : Int)), (10, .int .i64 0)]) (T := st ++ [some (.arr 0 1 0 [[.sl false 2 32 (rows w8.cells a0.nodes)]]), some (.arr 0 1 0 [[.B4]]), some (.arr 0 1 0 [[.ref false (st.length + 3) 0 0 0]]), some (.arr 0 2 32 (rows w8.cells []))]) (G0 hsc (.lv (.lv (.live _ _ _ _ (.arr _ _ _ _ _ (.cons _ _ _ _ (.cons _ _ _ _ (.nref _ _ _ _ _ _ (dH.trans rfl)) .nil) (.same _))) (.lv (.nil _))))) (by simp) ⟨.s, .s, .s, .s, .s, trivial⟩ (by simp)) ?_
 (repeat apply sq_); refine fG (t := 8) rfl fun hl0 => ?_
 simp only [eF] at hl0
 (repeat apply sq_); refine arg_ (body := dM a0) (kk := dN) (n := a0.nodes.length) (s0 := [])
  (fun (gs0 : Nat) (k0 : Nat) (s0 : (List w8)) => [(2, .ptr (st.length + 1) 0 0 0), (3, .ptr (st.length + 2) 0 0 0), (8, .sl false 2 32 (rows w8.cells a0.nodes)), (9, .int .i64 (↑a0.nodes.length : Int)), (10, .int .i64 (↑k0 : Int))])
  (fun (gs0 : Nat) (k0 : Nat) (s0 : (List w8)) => st ++ [none, some (.arr 0 1 0 [[.B4]]), some (.arr 0 1 0 [[.ref false (st.length + 3) gs0 0 s0.length]]), some (.arr gs0 2 32 (rows w8.cells s0))])
  (fun (gt0 : Nat) (t0 : (List w8)) => [(2, .ptr (st.length + 1) 0 0 0), (3, .ptr (st.length + 2) 0 0 0)])
  (fun (gt0 : Nat) (t0 : (List w8)) => st ++ [none, some (.arr 0 1 0 [[.B4]]), some (.arr 0 1 0 [[.ref false (st.length + 3) gt0 0 t0.length]]), some (.arr gt0 2 32 (rows w8.cells t0))])
  0 h (G0 hsc (.dead _ _ _ (.lv (.lv (.lv (.nil _))))) (by simp) ⟨.s, .s, .s, .s, .s, trivial⟩ (by simp))
  (fun gs0 k0 s0 b0 hk0 h hx0 => ?_) (fun gs0 s0 => ?_) (fun gt0 t0 fr1 st1 h hb => ?_)
 ·unfold dM at h
  have hw0 : wr .i64 ((↑k0 : Int) + 1) = (↑(k0 + 1) : Int) := gy hk0 hl0 (by decide)
  (repeat apply sq_); apply er_; simp only [go_sem]
  (repeat apply sq_); refine D4 (by rfl) (fun hc => ?_) fun hc => ?_
  ·refine E6 ?_; try simp only [go_sem]
   (repeat apply sq_); refine U8 ?_
   (repeat apply sq_); apply er_; simp only [go_sem, hk0, hw0]
   (repeat apply sq_); refine ak [] 2 follows (by kernel_rfl) (by rfl) ?_; simp only [go_sem, List.replicate_succ, List.replicate_zero, hk0, hw0]
   obtain ⟨v8, hv8, h⟩ := C6 h
   refine A0 (fD _ _ hv8) ?_
   have e9 : (32 ≤ top) = True := by simp [top]
   obtain ⟨c10, CZ, h⟩ := lD h
   have e11 : rows w8.cells s0 ++ [[.int .i64 ((get a0.nodes k0).type), .sl false 2 16 (rows D8.cells v8)]] = rows w8.cells c10 := by rw [CZ]; first | exact L5 (E := w8.cells) s0 [(w8.mk ((get a0.nodes k0).type) v8)] | simp only [go_sem, rows, List.map_append, List.map_cons, List.map_nil]
   have e12 : s0.length + 1 = c10.length := by rw [CZ]; simp
   obtain ⟨⟨f13, f14⟩, h⟩ := G1 h
   try simp only [go_sem, hk0, hw0, f13, f14, e9, e11, e12]
   (repeat apply sq_); apply er_; simp only [go_sem, hk0, hw0, f13, f14]
   cases h
   exact bK (gs0 + 1) (G0 hsc (.dead _ _ _ (.lv (.lv (.lv (.nil _))))) (by simp) ⟨.s, .s, .s, .s, .s, trivial⟩ (by simp))
  ·exfalso; have hc := of_decide_eq_false hc; omega
 ·(repeat apply sq_); apply er_; simp only [go_sem]
  (repeat apply sq_); refine D4 (by rfl) (fun hc => ?_) fun hc => ?_
  ·exfalso; first | exact Bool.noConfusion hc | (have hc := of_decide_eq_true hc; omega)
  ·refine Y2 ?_; simp only [go_sem]
   exact ⟨gs0, (G0 hsc (.dead _ _ _ (.lv (.lv (.lv (.nil _))))) (by simp) ⟨.s, .s, trivial⟩ (by simp))⟩
 ·try simp only [go_sem]
  unfold dN at h
  refine L6 hb ?_
  (repeat apply sq_); apply er_; simp only [go_sem]
  (repeat apply sq_); refine E3 ?_
  try simp only [go_sem]
  have hr := Option.some.inj h
  refine E4 ?_; simp only [go_sem]
  exact y3 (d' := .agg [.sl false 2 32 (rows w8.cells t0)]) hsc (.agg _ _ (.cons _ _ _ _ (.ref _ _ _ _ _ _ _ _ _ (dH.trans rfl) oD (by decide) (kB _) (by simp only [go_sem])) .nil)) (by simp) ⟨by subst hr; rfl, rfl⟩
theorem O7 (L2 : (u0) → (u0) → Option (Bool)) (lx : ∀ (a0 : u0) (a1 : u0) (r : Bool) (h : L2 a0 a1 = some r), Pure Tryz.prog gl 75 [.agg [.str a0.base, .sl false 2 40 (rows u0.cells a0.args)], .agg [.str a1.base, .sl false 2 40 (rows u0.cells a1.args)]] (.bool r)) (a0 : (List u0)) (a1 : (List u0)) (r : Bool) (h : E2 L2 a0 a1 = some r) : Pure Tryz.prog gl 90 [.sl false 2 40 (rows u0.cells a0), .sl false 2 40 (rows u0.cells a1), .fn 75 [] []] (.bool r) := by
 intro st
 unfold E2 at h
 refine O4 (N := 32) (rs := [.tmp 6]) (keep := [0, 1, 2, 6, 7, 8, 9, 14, 15, 16, 17, 18, 30]) Tryz.func90 rfl rfl rfl (by kernel_rfl) rfl fun hsc => ?_
 (repeat apply sq_); apply er_; simp only [go_sem]
 (repeat apply sq_); apply er_; simp only [go_sem]
 (repeat apply sq_); refine D4 (by rfl) (fun hc => ?_) fun hc => ?_
 ·replace h := B0 h (by first | exact hc | simpa using hc)
  (repeat apply sq_); apply er_; simp only [go_sem]
  (repeat apply sq_); refine E3 ?_
  try simp only [go_sem]
  have hr := Option.some.inj h
  refine E4 ?_; simp only [go_sem]
  exact B9 (d' := .bool false) hsc (.same _) (by simp) ⟨by subst hr; rfl, rfl⟩
 ·replace h := B1 h (by first | exact hc | simpa using hc)
  refine E6 ?_; try simp only [go_sem]
  (repeat apply sq_); apply er_; simp only [go_sem]
  (repeat apply sq_); refine fG (t := 15) rfl fun hl0 => ?_
  simp only [eF] at hl0
  (repeat apply sq_); refine arg_ (body := F1 L2 a1 a0) (kk := F2) (n := a0.length) (s0 := ())
   (fun (gs0 : Unit) (k0 : Nat) (s0 : Unit) => [(1, .sl false 2 40 (rows u0.cells a1)), (2, .fn 75 [] []), (15, .sl false 2 40 (rows u0.cells a0)), (16, .int .i64 (↑a0.length : Int)), (17, .int .i64 (↑k0 : Int))])
   (fun (gs0 : Unit) (k0 : Nat) (s0 : Unit) => st)
   (fun (gt0 : Unit) (t0 : Unit) => [])
   (fun (gt0 : Unit) (t0 : Unit) => st)
   () h (D9 hsc ⟨.s, .s, .s, .s, .s, trivial⟩ (by simp))
   (fun gs0 k0 s0 b0 hk0 h hx0 => ?_) (fun gs0 s0 => ?_) (fun gt0 t0 fr1 st1 h hb => ?_)
  ·unfold F1 at h
   have hw0 : wr .i64 ((↑k0 : Int) + 1) = (↑(k0 + 1) : Int) := gy hk0 hl0 (by decide)
   (repeat apply sq_); apply er_; simp only [go_sem]
   (repeat apply sq_); refine D4 (by rfl) (fun hc => ?_) fun hc => ?_
   ·refine E6 ?_; try simp only [go_sem]
    (repeat apply sq_); refine U8 ?_
    (repeat apply sq_); apply er_; simp only [go_sem, hk0, hw0]
    obtain ⟨f1, h⟩ := G1 h
    (repeat apply sq_); apply er_; simp only [go_sem, hk0, hw0, f1]
    (repeat apply sq_); apply er_; simp only [go_sem, hk0, hw0, f1]
    obtain ⟨v2, hv2, h⟩ := C6 h
    refine ((lx _ _ _ hv2)).to ?_
    try simp only [go_sem, hk0, hw0, f1]
    (repeat apply sq_); refine D4 (by rfl) (fun hc => ?_) fun hc => ?_
    ·replace h := B0 h (by first | exact hc | simpa using hc)
     (repeat apply sq_); apply er_; simp only [go_sem, hk0, hw0, f1]
     (repeat apply sq_); refine E3 ?_
     try simp only [go_sem, hk0, hw0, f1]
     obtain rfl := Option.some.inj h
     refine F9 ?_; have hr := hx0 _ rfl; try simp only [go_sem, hk0, hw0, f1]
     refine E4 ?_; simp only [go_sem, hk0, hw0, f1]
     exact y3 (d' := .bool false) hsc (.same _) (by simp) ⟨by subst hr; rfl, rfl⟩
    ·replace h := B1 h (by first | exact hc | simpa using hc)
     refine E6 ?_; try simp only [go_sem, hk0, hw0, f1]
     (repeat apply sq_); apply er_; simp only [go_sem, hk0, hw0, f1]
     cases h
     exact bK () (aO hsc ⟨.s, .s, .s, .s, .s, trivial⟩ (by simp))
   ·exfalso; have hc := of_decide_eq_false hc; omega
  ·(repeat apply sq_); apply er_; simp only [go_sem]
   (repeat apply sq_); refine D4 (by rfl) (fun hc => ?_) fun hc => ?_
   ·exfalso; first | exact Bool.noConfusion hc | (have hc := of_decide_eq_true hc; omega)
   ·refine Y2 ?_; simp only [go_sem]
    exact ⟨(), (D9 hsc trivial (by simp))⟩
  ·try simp only [go_sem]
   unfold F2 at h
   refine L6 hb ?_
   (repeat apply sq_); apply er_; simp only [go_sem]
   (repeat apply sq_); refine E3 ?_
   try simp only [go_sem]
   have hr := Option.some.inj h
   refine E4 ?_; simp only [go_sem]
   exact B9 (d' := .bool true) hsc (.same _) (by simp) ⟨by subst hr; rfl, rfl⟩
theorem nC : ∀ (n : Nat) (a0 : u0) (a1 : u0) (r : Bool) (h : P4 n a0 a1 = some r), Pure Tryz.prog gl 75 [.agg [.str a0.base, .sl false 2 40 (rows u0.cells a0.args)], .agg [.str a1.base, .sl false 2 40 (rows u0.cells a1.args)]] (.bool r) := by
 intro n
 induction n with
 | zero => intro a0 a1 r h; cases h
 | succ n ih =>
  intro a0 a1 r h st
  unfold P4 at h
  refine O4 (N := 17) (rs := [.tmp 4]) (keep := [0, 1, 2, 3, 4, 11, 12, 13, 14, 15]) Tryz.func75 rfl rfl rfl (by kernel_rfl) rfl fun hsc => ?_
  (repeat apply sq_); apply er_; simp only [go_sem]
  (repeat apply sq_); apply er_; simp only [go_sem]
  obtain ⟨v1, hv1, h⟩ := C6 h
  refine M6 (fun hG => (O7 (P4 n) ih _ _ _ (iu hv1 (by simpa using hG)))) ?_
  try simp only [go_sem]
  (repeat apply sq_); refine E3 ?_
  try simp only [go_sem]
  have hr := Option.some.inj h
  refine E4 ?_; simp only [go_sem]
  exact y3 (d' := .bool (bif (decide (a0.base = a1.base)) then v1 else false)) hsc (.same _) (by simp) ⟨by subst hr; rfl, rfl⟩
theorem V1 (N6 : (w5) → (w5) → Option (Bool)) (nD : ∀ (a0 : w5) (a1 : w5) (r : Bool) (h : N6 a0 a1 = some r), Pure Tryz.prog gl 59 [.agg [.int .i64 a0.kind, .str a0.name, .int .i64 a0.index, .str a0.type.base, .sl false 2 40 (rows u0.cells a0.type.args), .sl false 6 96 (rows w5.cells a0.args)], .agg [.int .i64 a1.kind, .str a1.name, .int .i64 a1.index, .str a1.type.base, .sl false 2 40 (rows u0.cells a1.type.args), .sl false 6 96 (rows w5.cells a1.args)]] (.bool r)) (a0 : (List w5)) (a1 : (List w5)) (r : Bool) (h : F5 N6 a0 a1 = some r) : Pure Tryz.prog gl 76 [.sl false 6 96 (rows w5.cells a0), .sl false 6 96 (rows w5.cells a1), .fn 59 [] []] (.bool r) := by
 intro st
 unfold F5 at h
 refine O4 (N := 32) (rs := [.tmp 6]) (keep := [0, 1, 2, 6, 7, 8, 9, 14, 15, 16, 17, 18, 30]) Tryz.func76 rfl rfl rfl (by kernel_rfl) rfl fun hsc => ?_
 (repeat apply sq_); apply er_; simp only [go_sem]
 (repeat apply sq_); apply er_; simp only [go_sem]
 (repeat apply sq_); refine D4 (by rfl) (fun hc => ?_) fun hc => ?_
 ·replace h := B0 h (by first | exact hc | simpa using hc)
  (repeat apply sq_); apply er_; simp only [go_sem]
  (repeat apply sq_); refine E3 ?_
  try simp only [go_sem]
  have hr := Option.some.inj h
  refine E4 ?_; simp only [go_sem]
  exact B9 (d' := .bool false) hsc (.same _) (by simp) ⟨by subst hr; rfl, rfl⟩
 ·replace h := B1 h (by first | exact hc | simpa using hc)
  refine E6 ?_; try simp only [go_sem]
  (repeat apply sq_); apply er_; simp only [go_sem]
  (repeat apply sq_); refine fG (t := 15) rfl fun hl0 => ?_
  simp only [eF] at hl0
  (repeat apply sq_); refine arg_ (body := G7 N6 a1 a0) (kk := G8) (n := a0.length) (s0 := ())
   (fun (gs0 : Unit) (k0 : Nat) (s0 : Unit) => [(1, .sl false 6 96 (rows w5.cells a1)), (2, .fn 59 [] []), (15, .sl false 6 96 (rows w5.cells a0)), (16, .int .i64 (↑a0.length : Int)), (17, .int .i64 (↑k0 : Int))])
   (fun (gs0 : Unit) (k0 : Nat) (s0 : Unit) => st)
   (fun (gt0 : Unit) (t0 : Unit) => [])
   (fun (gt0 : Unit) (t0 : Unit) => st)
   () h (D9 hsc ⟨.s, .s, .s, .s, .s, trivial⟩ (by simp))
   (fun gs0 k0 s0 b0 hk0 h hx0 => ?_) (fun gs0 s0 => ?_) (fun gt0 t0 fr1 st1 h hb => ?_)
  ·unfold G7 at h
   have hw0 : wr .i64 ((↑k0 : Int) + 1) = (↑(k0 + 1) : Int) := gy hk0 hl0 (by decide)
   (repeat apply sq_); apply er_; simp only [go_sem]
   (repeat apply sq_); refine D4 (by rfl) (fun hc => ?_) fun hc => ?_
   ·refine E6 ?_; try simp only [go_sem]
    (repeat apply sq_); refine U8 ?_
    (repeat apply sq_); apply er_; simp only [go_sem, hk0, hw0]
    obtain ⟨f1, h⟩ := G1 h
    (repeat apply sq_); apply er_; simp only [go_sem, hk0, hw0, f1]
    (repeat apply sq_); apply er_; simp only [go_sem, hk0, hw0, f1]
    obtain ⟨v2, hv2, h⟩ := C6 h
    refine ((nD _ _ _ hv2)).to ?_
    try simp only [go_sem, hk0, hw0, f1]
    (repeat apply sq_); refine D4 (by rfl) (fun hc => ?_) fun hc => ?_
    ·replace h := B0 h (by first | exact hc | simpa using hc)
     (repeat apply sq_); apply er_; simp only [go_sem, hk0, hw0, f1]
     (repeat apply sq_); refine E3 ?_
     try simp only [go_sem, hk0, hw0, f1]
     obtain rfl := Option.some.inj h
     refine F9 ?_; have hr := hx0 _ rfl; try simp only [go_sem, hk0, hw0, f1]
     refine E4 ?_; simp only [go_sem, hk0, hw0, f1]
     exact y3 (d' := .bool false) hsc (.same _) (by simp) ⟨by subst hr; rfl, rfl⟩
    ·replace h := B1 h (by first | exact hc | simpa using hc)
     refine E6 ?_; try simp only [go_sem, hk0, hw0, f1]
     (repeat apply sq_); apply er_; simp only [go_sem, hk0, hw0, f1]
     cases h
     exact bK () (aO hsc ⟨.s, .s, .s, .s, .s, trivial⟩ (by simp))
   ·exfalso; have hc := of_decide_eq_false hc; omega
  ·(repeat apply sq_); apply er_; simp only [go_sem]
   (repeat apply sq_); refine D4 (by rfl) (fun hc => ?_) fun hc => ?_
   ·exfalso; first | exact Bool.noConfusion hc | (have hc := of_decide_eq_true hc; omega)
   ·refine Y2 ?_; simp only [go_sem]
    exact ⟨(), (D9 hsc trivial (by simp))⟩
  ·try simp only [go_sem]
   unfold G8 at h
   refine L6 hb ?_
   (repeat apply sq_); apply er_; simp only [go_sem]
   (repeat apply sq_); refine E3 ?_
   try simp only [go_sem]
   have hr := Option.some.inj h
   refine E4 ?_; simp only [go_sem]
   exact B9 (d' := .bool true) hsc (.same _) (by simp) ⟨by subst hr; rfl, rfl⟩
theorem jU : ∀ (n : Nat) (a0 : w5) (a1 : w5) (r : Bool) (h : T5 n a0 a1 = some r), Pure Tryz.prog gl 59 [.agg [.int .i64 a0.kind, .str a0.name, .int .i64 a0.index, .str a0.type.base, .sl false 2 40 (rows u0.cells a0.type.args), .sl false 6 96 (rows w5.cells a0.args)], .agg [.int .i64 a1.kind, .str a1.name, .int .i64 a1.index, .str a1.type.base, .sl false 2 40 (rows u0.cells a1.type.args), .sl false 6 96 (rows w5.cells a1.args)]] (.bool r) := by
 intro n
 induction n with
 | zero => intro a0 a1 r h; cases h
 | succ n ih =>
  intro a0 a1 r h st
  unfold T5 at h
  refine O4 (N := 38) (rs := [.tmp 4]) (keep := [0, 1, 2, 3, 4, 11, 12, 13, 14, 15, 18, 19, 20, 21, 22, 25, 26, 27, 28, 29, 32, 33, 34, 35, 36]) Tryz.func59 rfl rfl rfl (by kernel_rfl) rfl fun hsc => ?_
  (repeat apply sq_); apply er_; simp only [go_sem]
  (repeat apply sq_); apply er_; simp only [go_sem]
  obtain ⟨v1, hv1, h⟩ := C6 h
  refine M6 (fun hG => (nC n _ _ _ (iu hv1 (by simpa using hG)))) ?_
  try simp only [go_sem]
  obtain ⟨v2, hv2, h⟩ := C6 h
  refine M6 (fun hG => (V1 (T5 n) ih _ _ _ (iu hv2 (by simpa using hG)))) ?_
  try simp only [go_sem]
  (repeat apply sq_); refine E3 ?_
  try simp only [go_sem]
  have hr := Option.some.inj h
  refine E4 ?_; simp only [go_sem]
  exact y3 (d' := .bool (bif (bif (bif (bif (decide (a0.kind = a1.kind)) then (decide (a0.name = a1.name)) else false) then (decide (a0.index = a1.index)) else false) then v1 else false) then v2 else false)) hsc (.same _) (by simp) ⟨by subst hr; rfl, rfl⟩
end Go.Proofs.YtaohdfpcdfbnlaaGreatDoor
