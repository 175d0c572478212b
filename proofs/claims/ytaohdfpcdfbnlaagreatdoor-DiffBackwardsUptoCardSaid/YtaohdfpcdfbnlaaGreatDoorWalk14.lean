import Derived.Test.YtaohdfpcdfbnlaaGreatDoorBase
import Derived.Test.YtaohdfpcdfbnlaaGreatDoorHand
import Derived.Test.YtaohdfpcdfbnlaaGreatDoorMirrors
import Derived.Test.YtaohdfpcdfbnlaaGreatDoorWalk10
import Derived.Test.YtaohdfpcdfbnlaaGreatDoorWalk11
import Derived.Test.YtaohdfpcdfbnlaaGreatDoorWalk12
import Derived.Test.YtaohdfpcdfbnlaaGreatDoorWalk13
import Derived.Test.YtaohdfpcdfbnlaaGreatDoorWalk9
set_option linter.unusedVariables false
set_option linter.unusedSimpArgs false
set_option maxHeartbeats 2000000
set_option maxRecDepth 100000
namespace Go.Proofs.YtaohdfpcdfbnlaaGreatDoor
open Go Go.Am
theorem jV (n : Nat) (a0 : w9) (r : w9) (h : aP n a0 = some r) : Pure Tryz.prog gl 21 [.agg [.str a0.word, .sl false 2 32 (rows w8.cells a0.graph.nodes), .int .i64 a0.weight, .int .i64 a0.meaning.kind, .str a0.meaning.name, .int .i64 a0.meaning.index, .str a0.meaning.type.base, .sl false 2 40 (rows u0.cells a0.meaning.type.args), .sl false 6 96 (rows w5.cells a0.meaning.args)]] (.agg [.str r.word, .sl false 2 32 (rows w8.cells r.graph.nodes), .int .i64 r.weight, .int .i64 r.meaning.kind, .str r.meaning.name, .int .i64 r.meaning.index, .str r.meaning.type.base, .sl false 2 40 (rows u0.cells r.meaning.type.args), .sl false 6 96 (rows w5.cells r.meaning.args)]) := by
 intro st
 unfold aP at h
 refine O4 (N := 14) (rs := [.cell 2 76]) (keep := [0, 1, 2]) Tryz.func21 rfl rfl rfl (by kernel_rfl) rfl fun hsc => ?_
 (repeat apply sq_); apply er_; simp only [go_sem]
 (repeat apply sq_); refine ak [] 0 follows (by kernel_rfl) (by rfl) ?_; simp only [go_sem, List.replicate_succ, List.replicate_zero]
 obtain ⟨v1, hv1, h⟩ := C6 h
 refine A0 (bG _ _ hv1) ?_
 try simp only [go_sem]
 obtain ⟨v2, hv2, h⟩ := C6 h
 refine A0 (jf n _ _ hv2) ?_
 try simp only [go_sem]
 (repeat apply sq_); refine E3 ?_
 try simp only [go_sem]
 have hr := Option.some.inj h
 refine E4 ?_; simp only [go_sem]
 exact y3 (d' := .agg [.str a0.word, .sl false 2 32 (rows w8.cells v1.nodes), .int .i64 a0.weight, .int .i64 v2.kind, .str v2.name, .int .i64 v2.index, .str v2.type.base, .sl false 2 40 (rows u0.cells v2.type.args), .sl false 6 96 (rows w5.cells v2.args)]) hsc (.same _) (by simp) ⟨by subst hr; rfl, rfl⟩
theorem X8 (n : Nat) (a0 : x5) (a1 : x5) (r : C5 × y7) (h : P6 n a0 a1 = some r) : Pure Tryz.prog gl 6 [.agg [.sl false 2 40 (rows w7.cells a0.hierarchy.types), .sl false 3 32 (rows x9.cells a0.hierarchy.C9), .sl false 10 152 (rows u6.cells a0.rules), .sl false 9 144 (rows w9.cells a0.D0), .sl false 2 32 (rows w8.cells a0.start.nodes)], .agg [.sl false 2 40 (rows w7.cells a1.hierarchy.types), .sl false 3 32 (rows x9.cells a1.hierarchy.C9), .sl false 10 152 (rows u6.cells a1.rules), .sl false 9 144 (rows w9.cells a1.D0), .sl false 2 32 (rows w8.cells a1.start.nodes)]] (.tup [.agg [.sl false 2 48 (rows w4.cells r.1.hierarchy), .sl false 1 24 (rows y5.cells r.1.start), .sl false 3 40 (rows y8.cells r.1.rules), .sl false 3 40 (rows B6.cells r.1.D0)], .agg [.int .i64 r.2.code, .int .i64 r.2.index]]) := by
 intro st
 unfold P6 at h
 refine O4 (N := 134) (rs := [.cell 4 39, .cell 5 41]) (keep := [0, 1, 2, 3, 4, 5, 7, 8, 9, 11, 12, 14, 16, 17, 19, 22, 23, 24, 25, 32, 41, 52, 62, 63, 64, 65, 74, 75, 76, 77, 99, 100, 101, 102, 111, 112, 113, 114]) Tryz.func6 rfl rfl rfl (by kernel_rfl) rfl fun hsc => ?_
 (repeat apply sq_); apply er_; simp only [go_sem]
 have e1 : (240 ≤ top) = True := by simp [top]
 (repeat apply sq_); apply er_; simp only [go_sem, e1]
 (repeat apply sq_); refine arg_ (body := cY n a0 a1) (kk := dc n a0 a1) (n := 2) (s0 := ())
  (fun (gs0 : Unit) (k0 : Nat) (s0 : Unit) => [(2, .ptr st.length 0 0 0), (3, .ptr (st.length + 1) 0 0 0), (4, .ptr (st.length + 2) 0 0 0), (5, .ptr (st.length + 3) 0 0 0), (22, .ref true (st.length + 4) 0 0 2), (23, .int .i64 2), (24, .int .i64 (↑k0 : Int))])
  (fun (gs0 : Unit) (k0 : Nat) (s0 : Unit) => st ++ [some (.arr 0 5 0 [[.sl false 2 40 (rows w7.cells a0.hierarchy.types), .sl false 3 32 (rows x9.cells a0.hierarchy.C9), .sl false 10 152 (rows u6.cells a0.rules), .sl false 9 144 (rows w9.cells a0.D0), .sl false 2 32 (rows w8.cells a0.start.nodes)]]), some (.arr 0 5 0 [[.sl false 2 40 (rows w7.cells a1.hierarchy.types), .sl false 3 32 (rows x9.cells a1.hierarchy.C9), .sl false 10 152 (rows u6.cells a1.rules), .sl false 9 144 (rows w9.cells a1.D0), .sl false 2 32 (rows w8.cells a1.start.nodes)]]), some (.arr 0 4 0 [[.B4, .B4, .B4, .B4]]), some (.arr 0 2 0 [[.int .i64 0, .int .i64 0]]), some (.arr 0 5 120 (rows x5.cells [a0, a1]))])
  (fun (gt0 : Unit) (t0 : Unit) => [(2, .ptr st.length 0 0 0), (3, .ptr (st.length + 1) 0 0 0), (4, .ptr (st.length + 2) 0 0 0), (5, .ptr (st.length + 3) 0 0 0)])
  (fun (gt0 : Unit) (t0 : Unit) => st ++ [some (.arr 0 5 0 [[.sl false 2 40 (rows w7.cells a0.hierarchy.types), .sl false 3 32 (rows x9.cells a0.hierarchy.C9), .sl false 10 152 (rows u6.cells a0.rules), .sl false 9 144 (rows w9.cells a0.D0), .sl false 2 32 (rows w8.cells a0.start.nodes)]]), some (.arr 0 5 0 [[.sl false 2 40 (rows w7.cells a1.hierarchy.types), .sl false 3 32 (rows x9.cells a1.hierarchy.C9), .sl false 10 152 (rows u6.cells a1.rules), .sl false 9 144 (rows w9.cells a1.D0), .sl false 2 32 (rows w8.cells a1.start.nodes)]]), some (.arr 0 4 0 [[.B4, .B4, .B4, .B4]]), some (.arr 0 2 0 [[.int .i64 0, .int .i64 0]])])
  () h (G0 hsc (.lv (.lv (.lv (.lv (.lv (.nil _)))))) (by simp) ⟨.s, .s, .s, .s, .s, .s, .s, trivial⟩ (by simp))
  (fun gs0 k0 s0 b0 hk0 h hx0 => ?_) (fun gs0 s0 => ?_) (fun gt0 t0 fr1 st1 h hb => ?_)
 ·unfold cY at h
  have hw0 : wr .i64 ((↑k0 : Int) + 1) = (↑(k0 + 1) : Int) := kP (by omega)
  have hj0 : (↑k0 : Int) < 2 := by omega
  (repeat apply sq_); apply er_; simp only [go_sem]
  (repeat apply sq_); refine D4 (by rfl) (fun hc => ?_) fun hc => ?_
  ·refine E6 ?_; try simp only [go_sem]
   (repeat apply sq_); refine U8 ?_
   have e2 : (rows x5.cells [a0, a1]).getD k0 [] = x5.cells (get [a0, a1] k0) := vn (E := x5.cells) (l := [a0, a1]) (k := k0) (by first | omega | (simp; omega))
   have e3 : k0 < 2 := by first | omega | (simp; omega)
   (repeat apply sq_); apply er_; simp only [go_sem, hk0, hw0, hj0, e2, e3]
   (repeat apply sq_); apply er_; simp only [go_sem, hk0, hw0, hj0]
   obtain ⟨v4, hv4, h⟩ := C6 h
   refine ((dA n _ _ hv4)).to ?_
   try simp only [go_sem, hk0, hw0, hj0]
   (repeat apply sq_); apply er_; simp only [go_sem, hk0, hw0, hj0]
   (repeat apply sq_); refine D4 (by rfl) (fun hc => ?_) fun hc => ?_
   ·replace h := B0 h (by first | exact hc | simpa using hc)
    (repeat apply sq_); refine ak [1, 2] 0 follows (by kernel_rfl) (by rfl) ?_; simp only [go_sem, List.replicate_succ, List.replicate_zero, hk0, hw0, hj0]
    try refine ⟨by (simp <;> omega), ?_⟩
    (repeat apply sq_); refine E3 ?_
    try simp only [go_sem, hk0, hw0, hj0]
    obtain rfl := Option.some.inj h
    refine F9 ?_; have hr := hx0 _ rfl; try simp only [go_sem, hk0, hw0, hj0]
    refine E4 ?_; simp only [go_sem, hk0, hw0, hj0]
    exact y3 (d' := .tup [.agg [.sl false 2 48 (rows w4.cells []), .sl false 1 24 (rows y5.cells []), .sl false 3 40 (rows y8.cells []), .sl false 3 40 (rows B6.cells [])], .agg [.int .i64 v4.code, .int .i64 v4.index]]) hsc (.tup _ _ (.cons _ _ _ _ (.agg _ _ (.cons _ _ _ _ (.B4 _ _ _ (by decide)) (.cons _ _ _ _ (.B4 _ _ _ (by decide)) (.cons _ _ _ _ (.B4 _ _ _ (by decide)) (.cons _ _ _ _ (.B4 _ _ _ (by decide)) .nil))))) (.cons _ _ _ _ .s .nil)) rfl) (by simp) ⟨by subst hr; rfl, rfl⟩
   ·replace h := B1 h (by first | exact hc | simpa using hc)
    refine E6 ?_; try simp only [go_sem, hk0, hw0, hj0]
    (repeat apply sq_); apply er_; simp only [go_sem, hk0, hw0, hj0]
    cases h
    exact bK () (G0 hsc (.lv (.lv (.lv (.lv (.lv (.nil _)))))) (by simp) ⟨.s, .s, .s, .s, .s, .s, .s, trivial⟩ (by simp))
  ·exfalso; have hc := of_decide_eq_false hc; omega
 ·(repeat apply sq_); apply er_; simp only [go_sem]
  (repeat apply sq_); refine D4 (by rfl) (fun hc => ?_) fun hc => ?_
  ·exfalso; first | exact Bool.noConfusion hc | (have hc := of_decide_eq_true hc; omega)
  ·refine Y2 ?_; simp only [go_sem]
   exact ⟨(), (G0 hsc (.lv (.lv (.lv (.lv (.nil _))))) (by simp) ⟨.s, .s, .s, .s, trivial⟩ (by simp))⟩
 ·try simp only [go_sem]
  unfold dc at h
  refine L6 hb ?_
  (repeat apply sq_); apply er_; simp only [go_sem]
  (repeat apply sq_); apply er_; simp only [go_sem]
  obtain ⟨v5, hv5, h⟩ := C6 h
  refine ((kD _ _ _ hv5)).to ?_
  try simp only [go_sem]
  (repeat apply sq_); refine Z7 2 48 ?_
  try simp only [List.append_assoc, List.cons_append, List.nil_append]
  refine L6 (F := [(2, .ptr st.length 0 0 0), (3, .ptr (st.length + 1) 0 0 0), (4, .ptr (st.length + 2) 0 0 0), (5, .ptr (st.length + 3) 0 0 0), (9, .ptr (st.length + 4) 0 0 0), (41, .bool (!v5))]) (T := st ++ [some (.arr 0 5 0 [[.sl false 2 40 (rows w7.cells a0.hierarchy.types), .sl false 3 32 (rows x9.cells a0.hierarchy.C9), .sl false 10 152 (rows u6.cells a0.rules), .sl false 9 144 (rows w9.cells a0.D0), .sl false 2 32 (rows w8.cells a0.start.nodes)]]), some (.arr 0 5 0 [[.sl false 2 40 (rows w7.cells a1.hierarchy.types), .sl false 3 32 (rows x9.cells a1.hierarchy.C9), .sl false 10 152 (rows u6.cells a1.rules), .sl false 9 144 (rows w9.cells a1.D0), .sl false 2 32 (rows w8.cells a1.start.nodes)]]), some (.arr 0 4 0 [[.B4, .B4, .B4, .B4]]), some (.arr 0 2 0 [[.int .i64 0, .int .i64 0]]), some (.arr 0 4 0 [[.ref false (st.length + 5) 0 0 0, .B4, .B4, .B4]]), some (.arr 0 2 48 (rows w4.cells []))]) (G0 hsc (.lv (.lv (.lv (.lv (.live _ _ _ _ (.arr _ _ _ _ _ (.cons _ _ _ _ (.cons _ _ _ _ (.nref _ _ _ _ _ _ (dH.trans rfl)) (.cons _ _ _ _ .s (.cons _ _ _ _ .s (.cons _ _ _ _ .s .nil)))) (.same _))) (.lv (.nil _))))))) (by simp) ⟨.s, .s, .s, .s, .s, .s, trivial⟩ (by simp)) ?_
  (repeat apply sq_); refine pN (W3 n a0 a1) r (fun (gj1 : Unit) (j1 : (List w4)) => [(2, .ptr st.length 0 0 0), (3, .ptr (st.length + 1) 0 0 0), (4, .ptr (st.length + 2) 0 0 0), (5, .ptr (st.length + 3) 0 0 0), (9, .ptr (st.length + 4) 0 0 0)]) (fun (gj1 : Unit) (j1 : (List w4)) => st ++ [some (.arr 0 5 0 [[.sl false 2 40 (rows w7.cells a0.hierarchy.types), .sl false 3 32 (rows x9.cells a0.hierarchy.C9), .sl false 10 152 (rows u6.cells a0.rules), .sl false 9 144 (rows w9.cells a0.D0), .sl false 2 32 (rows w8.cells a0.start.nodes)]]), some (.arr 0 5 0 [[.sl false 2 40 (rows w7.cells a1.hierarchy.types), .sl false 3 32 (rows x9.cells a1.hierarchy.C9), .sl false 10 152 (rows u6.cells a1.rules), .sl false 9 144 (rows w9.cells a1.D0), .sl false 2 32 (rows w8.cells a1.start.nodes)]]), some (.arr 0 4 0 [[.B4, .B4, .B4, .B4]]), some (.arr 0 2 0 [[.int .i64 0, .int .i64 0]]), some (.arr 0 4 0 [[.sl false 2 48 (rows w4.cells j1), .B4, .B4, .B4]])]) (fun gj1 j1 fr1 st1 h hb => ?_) (fun hj1 => ?_)
  ·try simp only [go_sem]
   unfold W3 at h
   refine L6 hb ?_
   (repeat apply sq_); apply er_; simp only [go_sem]
   obtain ⟨v8, hv8, h⟩ := C6 h
   refine ((eS _ _ _ hv8)).to ?_
   try simp only [go_sem]
   (repeat apply sq_); refine Z7 1 24 ?_
   try simp only [List.append_assoc, List.cons_append, List.nil_append]
   refine L6 (F := [(2, .ptr st.length 0 0 0), (3, .ptr (st.length + 1) 0 0 0), (4, .ptr (st.length + 2) 0 0 0), (5, .ptr (st.length + 3) 0 0 0), (9, .ptr (st.length + 4) 0 0 0), (52, .bool (!v8))]) (T := st ++ [some (.arr 0 5 0 [[.sl false 2 40 (rows w7.cells a0.hierarchy.types), .sl false 3 32 (rows x9.cells a0.hierarchy.C9), .sl false 10 152 (rows u6.cells a0.rules), .sl false 9 144 (rows w9.cells a0.D0), .sl false 2 32 (rows w8.cells a0.start.nodes)]]), some (.arr 0 5 0 [[.sl false 2 40 (rows w7.cells a1.hierarchy.types), .sl false 3 32 (rows x9.cells a1.hierarchy.C9), .sl false 10 152 (rows u6.cells a1.rules), .sl false 9 144 (rows w9.cells a1.D0), .sl false 2 32 (rows w8.cells a1.start.nodes)]]), some (.arr 0 4 0 [[.B4, .B4, .B4, .B4]]), some (.arr 0 2 0 [[.int .i64 0, .int .i64 0]]), some (.arr 0 4 0 [[.sl false 2 48 (rows w4.cells j1), .ref false (st.length + 5) 0 0 0, .B4, .B4]]), some (.arr 0 1 24 (rows y5.cells []))]) (G0 hsc (.lv (.lv (.lv (.lv (.live _ _ _ _ (.arr _ _ _ _ _ (.cons _ _ _ _ (.cons _ _ _ _ .s (.cons _ _ _ _ (.nref _ _ _ _ _ _ (dH.trans rfl)) (.cons _ _ _ _ .s (.cons _ _ _ _ .s .nil)))) (.same _))) (.lv (.nil _))))))) (by simp) ⟨.s, .s, .s, .s, .s, .s, trivial⟩ (by simp)) ?_
   (repeat apply sq_); refine pN (W2 n a0 a1 j1) r (fun (gj2 : Unit) (j2 : (List y5)) => [(2, .ptr st.length 0 0 0), (3, .ptr (st.length + 1) 0 0 0), (4, .ptr (st.length + 2) 0 0 0), (5, .ptr (st.length + 3) 0 0 0), (9, .ptr (st.length + 4) 0 0 0)]) (fun (gj2 : Unit) (j2 : (List y5)) => st ++ [some (.arr 0 5 0 [[.sl false 2 40 (rows w7.cells a0.hierarchy.types), .sl false 3 32 (rows x9.cells a0.hierarchy.C9), .sl false 10 152 (rows u6.cells a0.rules), .sl false 9 144 (rows w9.cells a0.D0), .sl false 2 32 (rows w8.cells a0.start.nodes)]]), some (.arr 0 5 0 [[.sl false 2 40 (rows w7.cells a1.hierarchy.types), .sl false 3 32 (rows x9.cells a1.hierarchy.C9), .sl false 10 152 (rows u6.cells a1.rules), .sl false 9 144 (rows w9.cells a1.D0), .sl false 2 32 (rows w8.cells a1.start.nodes)]]), some (.arr 0 4 0 [[.B4, .B4, .B4, .B4]]), some (.arr 0 2 0 [[.int .i64 0, .int .i64 0]]), some (.arr 0 4 0 [[.sl false 2 48 (rows w4.cells j1), .sl false 1 24 (rows y5.cells j2), .B4, .B4]])]) (fun gj2 j2 fr1 st1 h hb => ?_) (fun hj2 => ?_)
   ·try simp only [go_sem]
    unfold W2 at h
    refine L6 hb ?_
    (repeat apply sq_); apply er_; simp only [go_sem]
    obtain ⟨v11, hv11, h⟩ := C6 h
    refine ((ly n _ _ _ hv11)).to ?_
    try simp only [go_sem]
    (repeat apply sq_); refine Z7 3 40 ?_
    try simp only [List.append_assoc, List.cons_append, List.nil_append]
    refine L6 (F := [(2, .ptr st.length 0 0 0), (3, .ptr (st.length + 1) 0 0 0), (4, .ptr (st.length + 2) 0 0 0), (5, .ptr (st.length + 3) 0 0 0), (9, .ptr (st.length + 4) 0 0 0), (62, .sl false 3 40 (rows u7.cells v11)), (63, .int .i64 (↑v11.length : Int)), (64, .int .i64 0)]) (T := st ++ [some (.arr 0 5 0 [[.sl false 2 40 (rows w7.cells a0.hierarchy.types), .sl false 3 32 (rows x9.cells a0.hierarchy.C9), .sl false 10 152 (rows u6.cells a0.rules), .sl false 9 144 (rows w9.cells a0.D0), .sl false 2 32 (rows w8.cells a0.start.nodes)]]), some (.arr 0 5 0 [[.sl false 2 40 (rows w7.cells a1.hierarchy.types), .sl false 3 32 (rows x9.cells a1.hierarchy.C9), .sl false 10 152 (rows u6.cells a1.rules), .sl false 9 144 (rows w9.cells a1.D0), .sl false 2 32 (rows w8.cells a1.start.nodes)]]), some (.arr 0 4 0 [[.B4, .B4, .B4, .B4]]), some (.arr 0 2 0 [[.int .i64 0, .int .i64 0]]), some (.arr 0 4 0 [[.sl false 2 48 (rows w4.cells j1), .sl false 1 24 (rows y5.cells j2), .ref false (st.length + 5) 0 0 0, .B4]]), some (.arr 0 3 40 (rows y8.cells []))]) (G0 hsc (.lv (.lv (.lv (.lv (.live _ _ _ _ (.arr _ _ _ _ _ (.cons _ _ _ _ (.cons _ _ _ _ .s (.cons _ _ _ _ .s (.cons _ _ _ _ (.nref _ _ _ _ _ _ (dH.trans rfl)) (.cons _ _ _ _ .s .nil)))) (.same _))) (.lv (.nil _))))))) (by simp) ⟨.s, .s, .s, .s, .s, .s, .s, .s, trivial⟩ (by simp)) ?_
    (repeat apply sq_); refine fG (t := 62) rfl fun hl3 => ?_
    simp only [eF] at hl3
    (repeat apply sq_); refine arg_ (body := aQ n v11) (kk := cZ n a0 a1 j1 j2) (n := v11.length) (s0 := [])
     (fun (gs3 : Nat) (k3 : Nat) (s3 : (List y8)) => [(2, .ptr st.length 0 0 0), (3, .ptr (st.length + 1) 0 0 0), (4, .ptr (st.length + 2) 0 0 0), (5, .ptr (st.length + 3) 0 0 0), (9, .ptr (st.length + 4) 0 0 0), (62, .sl false 3 40 (rows u7.cells v11)), (63, .int .i64 (↑v11.length : Int)), (64, .int .i64 (↑k3 : Int))])
     (fun (gs3 : Nat) (k3 : Nat) (s3 : (List y8)) => st ++ [some (.arr 0 5 0 [[.sl false 2 40 (rows w7.cells a0.hierarchy.types), .sl false 3 32 (rows x9.cells a0.hierarchy.C9), .sl false 10 152 (rows u6.cells a0.rules), .sl false 9 144 (rows w9.cells a0.D0), .sl false 2 32 (rows w8.cells a0.start.nodes)]]), some (.arr 0 5 0 [[.sl false 2 40 (rows w7.cells a1.hierarchy.types), .sl false 3 32 (rows x9.cells a1.hierarchy.C9), .sl false 10 152 (rows u6.cells a1.rules), .sl false 9 144 (rows w9.cells a1.D0), .sl false 2 32 (rows w8.cells a1.start.nodes)]]), some (.arr 0 4 0 [[.B4, .B4, .B4, .B4]]), some (.arr 0 2 0 [[.int .i64 0, .int .i64 0]]), some (.arr 0 4 0 [[.sl false 2 48 (rows w4.cells j1), .sl false 1 24 (rows y5.cells j2), .ref false (st.length + 5) gs3 0 s3.length, .B4]]), some (.arr gs3 3 40 (rows y8.cells s3))])
     (fun (gt3 : Nat) (t3 : (List y8)) => [(2, .ptr st.length 0 0 0), (3, .ptr (st.length + 1) 0 0 0), (4, .ptr (st.length + 2) 0 0 0), (5, .ptr (st.length + 3) 0 0 0), (9, .ptr (st.length + 4) 0 0 0)])
     (fun (gt3 : Nat) (t3 : (List y8)) => st ++ [some (.arr 0 5 0 [[.sl false 2 40 (rows w7.cells a0.hierarchy.types), .sl false 3 32 (rows x9.cells a0.hierarchy.C9), .sl false 10 152 (rows u6.cells a0.rules), .sl false 9 144 (rows w9.cells a0.D0), .sl false 2 32 (rows w8.cells a0.start.nodes)]]), some (.arr 0 5 0 [[.sl false 2 40 (rows w7.cells a1.hierarchy.types), .sl false 3 32 (rows x9.cells a1.hierarchy.C9), .sl false 10 152 (rows u6.cells a1.rules), .sl false 9 144 (rows w9.cells a1.D0), .sl false 2 32 (rows w8.cells a1.start.nodes)]]), some (.arr 0 4 0 [[.B4, .B4, .B4, .B4]]), some (.arr 0 2 0 [[.int .i64 0, .int .i64 0]]), some (.arr 0 4 0 [[.sl false 2 48 (rows w4.cells j1), .sl false 1 24 (rows y5.cells j2), .ref false (st.length + 5) gt3 0 t3.length, .B4]]), some (.arr gt3 3 40 (rows y8.cells t3))])
     0 h (G0 hsc (.lv (.lv (.lv (.lv (.lv (.lv (.nil _))))))) (by simp) ⟨.s, .s, .s, .s, .s, .s, .s, .s, trivial⟩ (by simp))
     (fun gs3 k3 s3 b3 hk3 h hx3 => ?_) (fun gs3 s3 => ?_) (fun gt3 t3 fr1 st1 h hb => ?_)
    ·unfold aQ at h
     have hw3 : wr .i64 ((↑k3 : Int) + 1) = (↑(k3 + 1) : Int) := gy hk3 hl3 (by decide)
     (repeat apply sq_); apply er_; simp only [go_sem]
     (repeat apply sq_); refine D4 (by rfl) (fun hc => ?_) fun hc => ?_
     ·refine E6 ?_; try simp only [go_sem]
      (repeat apply sq_); refine U8 ?_
      (repeat apply sq_); apply er_; simp only [go_sem, hk3, hw3]
      (repeat apply sq_); apply er_; simp only [go_sem, hk3, hw3]
      (repeat apply sq_); apply er_; simp only [go_sem, hk3, hw3]
      (repeat apply sq_); refine Z7 10 152 ?_
      try simp only [List.append_assoc, List.cons_append, List.nil_append]
      refine L6 (F := [(2, .ptr st.length 0 0 0), (3, .ptr (st.length + 1) 0 0 0), (4, .ptr (st.length + 2) 0 0 0), (5, .ptr (st.length + 3) 0 0 0), (9, .ptr (st.length + 4) 0 0 0), (12, .ptr (st.length + 7) 0 0 0), (62, .sl false 3 40 (rows u7.cells v11)), (63, .int .i64 (↑v11.length : Int)), (64, .int .i64 (↑k3 : Int)), (74, .sl false 10 152 (rows u6.cells ((get v11 k3).put))), (75, .int .i64 (↑(((get v11 k3).put).length) : Int)), (76, .int .i64 0)]) (T := st ++ [some (.arr 0 5 0 [[.sl false 2 40 (rows w7.cells a0.hierarchy.types), .sl false 3 32 (rows x9.cells a0.hierarchy.C9), .sl false 10 152 (rows u6.cells a0.rules), .sl false 9 144 (rows w9.cells a0.D0), .sl false 2 32 (rows w8.cells a0.start.nodes)]]), some (.arr 0 5 0 [[.sl false 2 40 (rows w7.cells a1.hierarchy.types), .sl false 3 32 (rows x9.cells a1.hierarchy.C9), .sl false 10 152 (rows u6.cells a1.rules), .sl false 9 144 (rows w9.cells a1.D0), .sl false 2 32 (rows w8.cells a1.start.nodes)]]), some (.arr 0 4 0 [[.B4, .B4, .B4, .B4]]), some (.arr 0 2 0 [[.int .i64 0, .int .i64 0]]), some (.arr 0 4 0 [[.sl false 2 48 (rows w4.cells j1), .sl false 1 24 (rows y5.cells j2), .ref false (st.length + 5) gs3 0 s3.length, .B4]]), some (.arr gs3 3 40 (rows y8.cells s3)), some (.arr 0 3 0 [[.int .i64 ((get v11 k3).keep), .int .i64 ((get v11 k3).drop), .sl false 10 152 (rows u6.cells ((get v11 k3).put))]]), some (.arr 0 3 0 [[.int .i64 ((get v11 k3).keep), .int .i64 ((get v11 k3).drop), .ref false (st.length + 8) 0 0 0]]), some (.arr 0 10 152 (rows u6.cells []))]) (G0 hsc (.lv (.lv (.lv (.lv (.lv (.lv (.lv (.live _ _ _ _ (.arr _ _ _ _ _ (.cons _ _ _ _ (.cons _ _ _ _ .s (.cons _ _ _ _ .s (.cons _ _ _ _ (.nref _ _ _ _ _ _ (dH.trans rfl)) .nil))) (.same _))) (.lv (.nil _)))))))))) (by simp) ⟨.s, .s, .s, .s, .s, .s, .s, .s, .s, .s, .s, .s, trivial⟩ (by simp)) ?_
      (repeat apply sq_); refine fG (t := 74) rfl fun hl5 => ?_
      simp only [eF] at hl5
      (repeat apply sq_); refine arg_ (body := fW n v11 k3) (kk := cW s3 v11 k3) (n := ((get v11 k3).put).length) (s0 := [])
       (fun (gs5 : Nat) (k5 : Nat) (s5 : (List u6)) => [(2, .ptr st.length 0 0 0), (3, .ptr (st.length + 1) 0 0 0), (4, .ptr (st.length + 2) 0 0 0), (5, .ptr (st.length + 3) 0 0 0), (9, .ptr (st.length + 4) 0 0 0), (12, .ptr (st.length + 7) 0 0 0), (62, .sl false 3 40 (rows u7.cells v11)), (63, .int .i64 (↑v11.length : Int)), (64, .int .i64 (↑k3 : Int)), (74, .sl false 10 152 (rows u6.cells ((get v11 k3).put))), (75, .int .i64 (↑(((get v11 k3).put).length) : Int)), (76, .int .i64 (↑k5 : Int))])
       (fun (gs5 : Nat) (k5 : Nat) (s5 : (List u6)) => st ++ [some (.arr 0 5 0 [[.sl false 2 40 (rows w7.cells a0.hierarchy.types), .sl false 3 32 (rows x9.cells a0.hierarchy.C9), .sl false 10 152 (rows u6.cells a0.rules), .sl false 9 144 (rows w9.cells a0.D0), .sl false 2 32 (rows w8.cells a0.start.nodes)]]), some (.arr 0 5 0 [[.sl false 2 40 (rows w7.cells a1.hierarchy.types), .sl false 3 32 (rows x9.cells a1.hierarchy.C9), .sl false 10 152 (rows u6.cells a1.rules), .sl false 9 144 (rows w9.cells a1.D0), .sl false 2 32 (rows w8.cells a1.start.nodes)]]), some (.arr 0 4 0 [[.B4, .B4, .B4, .B4]]), some (.arr 0 2 0 [[.int .i64 0, .int .i64 0]]), some (.arr 0 4 0 [[.sl false 2 48 (rows w4.cells j1), .sl false 1 24 (rows y5.cells j2), .ref false (st.length + 5) gs3 0 s3.length, .B4]]), some (.arr gs3 3 40 (rows y8.cells s3)), none, some (.arr 0 3 0 [[.int .i64 ((get v11 k3).keep), .int .i64 ((get v11 k3).drop), .ref false (st.length + 8) gs5 0 s5.length]]), some (.arr gs5 10 152 (rows u6.cells s5))])
       (fun (gt5 : Nat) (t5 : (List u6)) => [(2, .ptr st.length 0 0 0), (3, .ptr (st.length + 1) 0 0 0), (4, .ptr (st.length + 2) 0 0 0), (5, .ptr (st.length + 3) 0 0 0), (9, .ptr (st.length + 4) 0 0 0), (12, .ptr (st.length + 7) 0 0 0), (62, .sl false 3 40 (rows u7.cells v11)), (63, .int .i64 (↑v11.length : Int)), (64, .int .i64 (↑k3 : Int))])
       (fun (gt5 : Nat) (t5 : (List u6)) => st ++ [some (.arr 0 5 0 [[.sl false 2 40 (rows w7.cells a0.hierarchy.types), .sl false 3 32 (rows x9.cells a0.hierarchy.C9), .sl false 10 152 (rows u6.cells a0.rules), .sl false 9 144 (rows w9.cells a0.D0), .sl false 2 32 (rows w8.cells a0.start.nodes)]]), some (.arr 0 5 0 [[.sl false 2 40 (rows w7.cells a1.hierarchy.types), .sl false 3 32 (rows x9.cells a1.hierarchy.C9), .sl false 10 152 (rows u6.cells a1.rules), .sl false 9 144 (rows w9.cells a1.D0), .sl false 2 32 (rows w8.cells a1.start.nodes)]]), some (.arr 0 4 0 [[.B4, .B4, .B4, .B4]]), some (.arr 0 2 0 [[.int .i64 0, .int .i64 0]]), some (.arr 0 4 0 [[.sl false 2 48 (rows w4.cells j1), .sl false 1 24 (rows y5.cells j2), .ref false (st.length + 5) gs3 0 s3.length, .B4]]), some (.arr gs3 3 40 (rows y8.cells s3)), none, some (.arr 0 3 0 [[.int .i64 ((get v11 k3).keep), .int .i64 ((get v11 k3).drop), .ref false (st.length + 8) gt5 0 t5.length]]), some (.arr gt5 10 152 (rows u6.cells t5))])
       0 h (G0 hsc (.lv (.lv (.lv (.lv (.lv (.lv (.dead _ _ _ (.lv (.lv (.nil _)))))))))) (by simp) ⟨.s, .s, .s, .s, .s, .s, .s, .s, .s, .s, .s, .s, trivial⟩ (by simp))
       (fun gs5 k5 s5 b5 hk5 h hx5 => ?_) (fun gs5 s5 => ?_) (fun gt5 t5 fr1 st1 h hb => ?_)
      ·unfold fW at h
       have hw5 : wr .i64 ((↑k5 : Int) + 1) = (↑(k5 + 1) : Int) := gy hk5 hl5 (by decide)
       (repeat apply sq_); apply er_; simp only [go_sem, hk3, hw3]
       (repeat apply sq_); refine D4 (by rfl) (fun hc => ?_) fun hc => ?_
       ·refine E6 ?_; try simp only [go_sem, hk3, hw3]
        (repeat apply sq_); refine U8 ?_
        (repeat apply sq_); apply er_; simp only [go_sem, hk3, hw3, hk5, hw5]
        (repeat apply sq_); refine ak [] 2 follows (by kernel_rfl) (by rfl) ?_; simp only [go_sem, List.replicate_succ, List.replicate_zero, hk3, hw3, hk5, hw5]
        obtain ⟨v35, hv35, h⟩ := C6 h
        refine A0 (jg n _ _ hv35) ?_
        have e36 : (152 ≤ top) = True := by simp [top]
        obtain ⟨c37, Jp, h⟩ := lD h
        have e38 : rows u6.cells s5 ++ [[.str v35.name, .sl false 2 32 (rows w8.cells v35.graph.nodes), .int .i64 v35.kids, .int .i64 v35.weight, .int .i64 v35.meaning.kind, .str v35.meaning.name, .int .i64 v35.meaning.index, .str v35.meaning.type.base, .sl false 2 40 (rows u0.cells v35.meaning.type.args), .sl false 6 96 (rows w5.cells v35.meaning.args)]] = rows u6.cells c37 := by rw [Jp]; first | exact L5 (E := u6.cells) s5 [v35] | simp only [go_sem, rows, List.map_append, List.map_cons, List.map_nil]
        have e39 : s5.length + 1 = c37.length := by rw [Jp]; simp
        obtain ⟨⟨f40, f41⟩, h⟩ := G1 h
        try simp only [go_sem, hk3, hw3, hk5, hw5, f40, f41, e36, e38, e39]
        (repeat apply sq_); apply er_; simp only [go_sem, hk3, hw3, hk5, hw5, f40, f41]
        cases h
        exact bK (gs5 + 1) (G0 hsc (.lv (.lv (.lv (.lv (.lv (.lv (.dead _ _ _ (.lv (.lv (.nil _)))))))))) (by simp) ⟨.s, .s, .s, .s, .s, .s, .s, .s, .s, .s, .s, .s, trivial⟩ (by simp))
       ·exfalso; have hc := of_decide_eq_false hc; omega
      ·(repeat apply sq_); apply er_; simp only [go_sem, hk3, hw3]
       (repeat apply sq_); refine D4 (by rfl) (fun hc => ?_) fun hc => ?_
       ·exfalso; first | exact Bool.noConfusion hc | (have hc := of_decide_eq_true hc; omega)
       ·refine Y2 ?_; simp only [go_sem, hk3, hw3]
        exact ⟨gs5, (G0 hsc (.lv (.lv (.lv (.lv (.lv (.lv (.dead _ _ _ (.lv (.lv (.nil _)))))))))) (by simp) ⟨.s, .s, .s, .s, .s, .s, .s, .s, .s, trivial⟩ (by simp))⟩
      ·try simp only [go_sem, hk3, hw3]
       unfold cW at h
       refine L6 hb ?_
       have e42 : (40 ≤ top) = True := by simp [top]
       obtain ⟨⟨f43, f44⟩, h⟩ := G1 h
       (repeat apply sq_); apply er_; simp only [go_sem, hk3, hw3, f43, f44, e42]
       (repeat apply sq_); apply er_; simp only [go_sem, hk3, hw3, f43, f44]
       cases h
       exact bK (gs3 + 1) (G0 hsc (.lv (.lv (.lv (.lv (.live _ _ _ _ (.arr _ _ _ _ _ (.cons _ _ _ _ (.cons _ _ _ _ .s (.cons _ _ _ _ .s (.cons _ _ _ _ (jh (by first | (simp; done) | simp [Fr.get])) (.cons _ _ _ _ .s .nil)))) (.same _))) (.live _ _ _ _ (.arr _ _ _ _ _ (dI (.cons _ _ _ _ (.cons _ _ _ _ .s (.cons _ _ _ _ .s (.cons _ _ _ _ (.ref _ _ _ _ _ _ _ _ _ (dH.trans rfl) (bT (by first | decide | simp)) (by decide) (kB _) (by simp only [go_sem])) .nil))) .nil))) (.nil _))))))) (by simp) ⟨.s, .s, .s, .s, .s, .s, .s, .s, trivial⟩ (by simp))
     ·exfalso; have hc := of_decide_eq_false hc; omega
    ·(repeat apply sq_); apply er_; simp only [go_sem]
     (repeat apply sq_); refine D4 (by rfl) (fun hc => ?_) fun hc => ?_
     ·exfalso; first | exact Bool.noConfusion hc | (have hc := of_decide_eq_true hc; omega)
     ·refine Y2 ?_; simp only [go_sem]
      exact ⟨gs3, (G0 hsc (.lv (.lv (.lv (.lv (.lv (.lv (.nil _))))))) (by simp) ⟨.s, .s, .s, .s, .s, trivial⟩ (by simp))⟩
    ·try simp only [go_sem]
     unfold cZ at h
     refine L6 hb ?_
     (repeat apply sq_); apply er_; simp only [go_sem]
     obtain ⟨v45, hv45, h⟩ := C6 h
     refine ((mE n _ _ _ hv45)).to ?_
     try simp only [go_sem]
     (repeat apply sq_); refine Z7 3 40 ?_
     try simp only [List.append_assoc, List.cons_append, List.nil_append]
     refine L6 (F := [(4, .ptr (st.length + 2) 0 0 0), (5, .ptr (st.length + 3) 0 0 0), (9, .ptr (st.length + 4) 0 0 0), (99, .sl false 3 40 (rows u9.cells v45)), (100, .int .i64 (↑v45.length : Int)), (101, .int .i64 0)]) (T := st ++ [some (.arr 0 5 0 [[.sl false 2 40 (rows w7.cells a0.hierarchy.types), .sl false 3 32 (rows x9.cells a0.hierarchy.C9), .sl false 10 152 (rows u6.cells a0.rules), .sl false 9 144 (rows w9.cells a0.D0), .sl false 2 32 (rows w8.cells a0.start.nodes)]]), some (.arr 0 5 0 [[.sl false 2 40 (rows w7.cells a1.hierarchy.types), .sl false 3 32 (rows x9.cells a1.hierarchy.C9), .sl false 10 152 (rows u6.cells a1.rules), .sl false 9 144 (rows w9.cells a1.D0), .sl false 2 32 (rows w8.cells a1.start.nodes)]]), some (.arr 0 4 0 [[.B4, .B4, .B4, .B4]]), some (.arr 0 2 0 [[.int .i64 0, .int .i64 0]]), some (.arr 0 4 0 [[.sl false 2 48 (rows w4.cells j1), .sl false 1 24 (rows y5.cells j2), .ref false (st.length + 5) gt3 0 t3.length, .ref false (st.length + 6) 0 0 0]]), some (.arr gt3 3 40 (rows y8.cells t3)), some (.arr 0 3 40 (rows B6.cells []))]) (G0 hsc (.lv (.lv (.lv (.lv (.live _ _ _ _ (.arr _ _ _ _ _ (.cons _ _ _ _ (.cons _ _ _ _ .s (.cons _ _ _ _ .s (.cons _ _ _ _ .s (.cons _ _ _ _ (.nref _ _ _ _ _ _ (dH.trans rfl)) .nil)))) (.same _))) (.lv (.lv (.nil _)))))))) (by simp) ⟨.s, .s, .s, .s, .s, .s, trivial⟩ (by simp)) ?_
     (repeat apply sq_); refine fG (t := 99) rfl fun hl6 => ?_
     simp only [eF] at hl6
     (repeat apply sq_); refine arg_ (body := aR n v45) (kk := fY j1 j2 t3) (n := v45.length) (s0 := [])
      (fun (gs6 : Nat) (k6 : Nat) (s6 : (List B6)) => [(4, .ptr (st.length + 2) 0 0 0), (5, .ptr (st.length + 3) 0 0 0), (9, .ptr (st.length + 4) 0 0 0), (99, .sl false 3 40 (rows u9.cells v45)), (100, .int .i64 (↑v45.length : Int)), (101, .int .i64 (↑k6 : Int))])
      (fun (gs6 : Nat) (k6 : Nat) (s6 : (List B6)) => st ++ [none, none, some (.arr 0 4 0 [[.B4, .B4, .B4, .B4]]), some (.arr 0 2 0 [[.int .i64 0, .int .i64 0]]), some (.arr 0 4 0 [[.sl false 2 48 (rows w4.cells j1), .sl false 1 24 (rows y5.cells j2), .ref false (st.length + 5) gt3 0 t3.length, .ref false (st.length + 6) gs6 0 s6.length]]), some (.arr gt3 3 40 (rows y8.cells t3)), some (.arr gs6 3 40 (rows B6.cells s6))])
      (fun (gt6 : Nat) (t6 : (List B6)) => [(4, .ptr (st.length + 2) 0 0 0), (5, .ptr (st.length + 3) 0 0 0), (9, .ptr (st.length + 4) 0 0 0)])
      (fun (gt6 : Nat) (t6 : (List B6)) => st ++ [none, none, some (.arr 0 4 0 [[.B4, .B4, .B4, .B4]]), some (.arr 0 2 0 [[.int .i64 0, .int .i64 0]]), some (.arr 0 4 0 [[.sl false 2 48 (rows w4.cells j1), .sl false 1 24 (rows y5.cells j2), .ref false (st.length + 5) gt3 0 t3.length, .ref false (st.length + 6) gt6 0 t6.length]]), some (.arr gt3 3 40 (rows y8.cells t3)), some (.arr gt6 3 40 (rows B6.cells t6))])
      0 h (G0 hsc (.dead _ _ _ (.dead _ _ _ (.lv (.lv (.lv (.lv (.lv (.nil _)))))))) (by simp) ⟨.s, .s, .s, .s, .s, .s, trivial⟩ (by simp))
      (fun gs6 k6 s6 b6 hk6 h hx6 => ?_) (fun gs6 s6 => ?_) (fun gt6 t6 fr1 st1 h hb => ?_)
     ·unfold aR at h
      have hw6 : wr .i64 ((↑k6 : Int) + 1) = (↑(k6 + 1) : Int) := gy hk6 hl6 (by decide)
      (repeat apply sq_); apply er_; simp only [go_sem]
      (repeat apply sq_); refine D4 (by rfl) (fun hc => ?_) fun hc => ?_
      ·refine E6 ?_; try simp only [go_sem]
       (repeat apply sq_); refine U8 ?_
       (repeat apply sq_); apply er_; simp only [go_sem, hk6, hw6]
       (repeat apply sq_); apply er_; simp only [go_sem, hk6, hw6]
       (repeat apply sq_); apply er_; simp only [go_sem, hk6, hw6]
       (repeat apply sq_); refine Z7 9 144 ?_
       try simp only [List.append_assoc, List.cons_append, List.nil_append]
       refine L6 (F := [(4, .ptr (st.length + 2) 0 0 0), (5, .ptr (st.length + 3) 0 0 0), (9, .ptr (st.length + 4) 0 0 0), (17, .ptr (st.length + 8) 0 0 0), (99, .sl false 3 40 (rows u9.cells v45)), (100, .int .i64 (↑v45.length : Int)), (101, .int .i64 (↑k6 : Int)), (111, .sl false 9 144 (rows w9.cells ((get v45 k6).put))), (112, .int .i64 (↑(((get v45 k6).put).length) : Int)), (113, .int .i64 0)]) (T := st ++ [none, none, some (.arr 0 4 0 [[.B4, .B4, .B4, .B4]]), some (.arr 0 2 0 [[.int .i64 0, .int .i64 0]]), some (.arr 0 4 0 [[.sl false 2 48 (rows w4.cells j1), .sl false 1 24 (rows y5.cells j2), .ref false (st.length + 5) gt3 0 t3.length, .ref false (st.length + 6) gs6 0 s6.length]]), some (.arr gt3 3 40 (rows y8.cells t3)), some (.arr gs6 3 40 (rows B6.cells s6)), some (.arr 0 3 0 [[.int .i64 ((get v45 k6).keep), .int .i64 ((get v45 k6).drop), .sl false 9 144 (rows w9.cells ((get v45 k6).put))]]), some (.arr 0 3 0 [[.int .i64 ((get v45 k6).keep), .int .i64 ((get v45 k6).drop), .ref false (st.length + 9) 0 0 0]]), some (.arr 0 9 144 (rows w9.cells []))]) (G0 hsc (.dead _ _ _ (.dead _ _ _ (.lv (.lv (.lv (.lv (.lv (.lv (.live _ _ _ _ (.arr _ _ _ _ _ (.cons _ _ _ _ (.cons _ _ _ _ .s (.cons _ _ _ _ .s (.cons _ _ _ _ (.nref _ _ _ _ _ _ (dH.trans rfl)) .nil))) (.same _))) (.lv (.nil _))))))))))) (by simp) ⟨.s, .s, .s, .s, .s, .s, .s, .s, .s, .s, trivial⟩ (by simp)) ?_
       (repeat apply sq_); refine fG (t := 111) rfl fun hl8 => ?_
       simp only [eF] at hl8
       (repeat apply sq_); refine arg_ (body := fX n v45 k6) (kk := cX s6 v45 k6) (n := ((get v45 k6).put).length) (s0 := [])
        (fun (gs8 : Nat) (k8 : Nat) (s8 : (List w9)) => [(4, .ptr (st.length + 2) 0 0 0), (5, .ptr (st.length + 3) 0 0 0), (9, .ptr (st.length + 4) 0 0 0), (17, .ptr (st.length + 8) 0 0 0), (99, .sl false 3 40 (rows u9.cells v45)), (100, .int .i64 (↑v45.length : Int)), (101, .int .i64 (↑k6 : Int)), (111, .sl false 9 144 (rows w9.cells ((get v45 k6).put))), (112, .int .i64 (↑(((get v45 k6).put).length) : Int)), (113, .int .i64 (↑k8 : Int))])
        (fun (gs8 : Nat) (k8 : Nat) (s8 : (List w9)) => st ++ [none, none, some (.arr 0 4 0 [[.B4, .B4, .B4, .B4]]), some (.arr 0 2 0 [[.int .i64 0, .int .i64 0]]), some (.arr 0 4 0 [[.sl false 2 48 (rows w4.cells j1), .sl false 1 24 (rows y5.cells j2), .ref false (st.length + 5) gt3 0 t3.length, .ref false (st.length + 6) gs6 0 s6.length]]), some (.arr gt3 3 40 (rows y8.cells t3)), some (.arr gs6 3 40 (rows B6.cells s6)), none, some (.arr 0 3 0 [[.int .i64 ((get v45 k6).keep), .int .i64 ((get v45 k6).drop), .ref false (st.length + 9) gs8 0 s8.length]]), some (.arr gs8 9 144 (rows w9.cells s8))])
        (fun (gt8 : Nat) (t8 : (List w9)) => [(4, .ptr (st.length + 2) 0 0 0), (5, .ptr (st.length + 3) 0 0 0), (9, .ptr (st.length + 4) 0 0 0), (17, .ptr (st.length + 8) 0 0 0), (99, .sl false 3 40 (rows u9.cells v45)), (100, .int .i64 (↑v45.length : Int)), (101, .int .i64 (↑k6 : Int))])
        (fun (gt8 : Nat) (t8 : (List w9)) => st ++ [none, none, some (.arr 0 4 0 [[.B4, .B4, .B4, .B4]]), some (.arr 0 2 0 [[.int .i64 0, .int .i64 0]]), some (.arr 0 4 0 [[.sl false 2 48 (rows w4.cells j1), .sl false 1 24 (rows y5.cells j2), .ref false (st.length + 5) gt3 0 t3.length, .ref false (st.length + 6) gs6 0 s6.length]]), some (.arr gt3 3 40 (rows y8.cells t3)), some (.arr gs6 3 40 (rows B6.cells s6)), none, some (.arr 0 3 0 [[.int .i64 ((get v45 k6).keep), .int .i64 ((get v45 k6).drop), .ref false (st.length + 9) gt8 0 t8.length]]), some (.arr gt8 9 144 (rows w9.cells t8))])
        0 h (G0 hsc (.dead _ _ _ (.dead _ _ _ (.lv (.lv (.lv (.lv (.lv (.dead _ _ _ (.lv (.lv (.nil _))))))))))) (by simp) ⟨.s, .s, .s, .s, .s, .s, .s, .s, .s, .s, trivial⟩ (by simp))
        (fun gs8 k8 s8 b8 hk8 h hx8 => ?_) (fun gs8 s8 => ?_) (fun gt8 t8 fr1 st1 h hb => ?_)
       ·unfold fX at h
        have hw8 : wr .i64 ((↑k8 : Int) + 1) = (↑(k8 + 1) : Int) := gy hk8 hl8 (by decide)
        (repeat apply sq_); apply er_; simp only [go_sem, hk6, hw6]
        (repeat apply sq_); refine D4 (by rfl) (fun hc => ?_) fun hc => ?_
        ·refine E6 ?_; try simp only [go_sem, hk6, hw6]
         (repeat apply sq_); refine U8 ?_
         (repeat apply sq_); apply er_; simp only [go_sem, hk6, hw6, hk8, hw8]
         (repeat apply sq_); refine ak [] 2 follows (by kernel_rfl) (by rfl) ?_; simp only [go_sem, List.replicate_succ, List.replicate_zero, hk6, hw6, hk8, hw8]
         obtain ⟨v69, hv69, h⟩ := C6 h
         refine A0 (jV n _ _ hv69) ?_
         have e70 : (144 ≤ top) = True := by simp [top]
         obtain ⟨c71, Jq, h⟩ := lD h
         have e72 : rows w9.cells s8 ++ [[.str v69.word, .sl false 2 32 (rows w8.cells v69.graph.nodes), .int .i64 v69.weight, .int .i64 v69.meaning.kind, .str v69.meaning.name, .int .i64 v69.meaning.index, .str v69.meaning.type.base, .sl false 2 40 (rows u0.cells v69.meaning.type.args), .sl false 6 96 (rows w5.cells v69.meaning.args)]] = rows w9.cells c71 := by rw [Jq]; first | exact L5 (E := w9.cells) s8 [v69] | simp only [go_sem, rows, List.map_append, List.map_cons, List.map_nil]
         have e73 : s8.length + 1 = c71.length := by rw [Jq]; simp
         obtain ⟨⟨f74, f75⟩, h⟩ := G1 h
         try simp only [go_sem, hk6, hw6, hk8, hw8, f74, f75, e70, e72, e73]
         (repeat apply sq_); apply er_; simp only [go_sem, hk6, hw6, hk8, hw8, f74, f75]
         cases h
         exact bK (gs8 + 1) (G0 hsc (.dead _ _ _ (.dead _ _ _ (.lv (.lv (.lv (.lv (.lv (.dead _ _ _ (.lv (.lv (.nil _))))))))))) (by simp) ⟨.s, .s, .s, .s, .s, .s, .s, .s, .s, .s, trivial⟩ (by simp))
        ·exfalso; have hc := of_decide_eq_false hc; omega
       ·(repeat apply sq_); apply er_; simp only [go_sem, hk6, hw6]
        (repeat apply sq_); refine D4 (by rfl) (fun hc => ?_) fun hc => ?_
        ·exfalso; first | exact Bool.noConfusion hc | (have hc := of_decide_eq_true hc; omega)
        ·refine Y2 ?_; simp only [go_sem, hk6, hw6]
         exact ⟨gs8, (G0 hsc (.dead _ _ _ (.dead _ _ _ (.lv (.lv (.lv (.lv (.lv (.dead _ _ _ (.lv (.lv (.nil _))))))))))) (by simp) ⟨.s, .s, .s, .s, .s, .s, .s, trivial⟩ (by simp))⟩
       ·try simp only [go_sem, hk6, hw6]
        unfold cX at h
        refine L6 hb ?_
        have e76 : (40 ≤ top) = True := by simp [top]
        obtain ⟨⟨f77, f78⟩, h⟩ := G1 h
        (repeat apply sq_); apply er_; simp only [go_sem, hk6, hw6, f77, f78, e76]
        (repeat apply sq_); apply er_; simp only [go_sem, hk6, hw6, f77, f78]
        cases h
        exact bK (gs6 + 1) (G0 hsc (.dead _ _ _ (.dead _ _ _ (.lv (.lv (.live _ _ _ _ (.arr _ _ _ _ _ (.cons _ _ _ _ (.cons _ _ _ _ .s (.cons _ _ _ _ .s (.cons _ _ _ _ .s (.cons _ _ _ _ (jh (by first | (simp; done) | simp [Fr.get])) .nil)))) (.same _))) (.lv (.live _ _ _ _ (.arr _ _ _ _ _ (dI (.cons _ _ _ _ (.cons _ _ _ _ .s (.cons _ _ _ _ .s (.cons _ _ _ _ (.ref _ _ _ _ _ _ _ _ _ (dH.trans rfl) (bT (by first | decide | simp)) (by decide) (kB _) (by simp only [go_sem])) .nil))) .nil))) (.nil _)))))))) (by simp) ⟨.s, .s, .s, .s, .s, .s, trivial⟩ (by simp))
      ·exfalso; have hc := of_decide_eq_false hc; omega
     ·(repeat apply sq_); apply er_; simp only [go_sem]
      (repeat apply sq_); refine D4 (by rfl) (fun hc => ?_) fun hc => ?_
      ·exfalso; first | exact Bool.noConfusion hc | (have hc := of_decide_eq_true hc; omega)
      ·refine Y2 ?_; simp only [go_sem]
       exact ⟨gs6, (G0 hsc (.dead _ _ _ (.dead _ _ _ (.lv (.lv (.lv (.lv (.lv (.nil _)))))))) (by simp) ⟨.s, .s, .s, trivial⟩ (by simp))⟩
     ·try simp only [go_sem]
      unfold fY at h
      refine L6 hb ?_
      (repeat apply sq_); apply er_; simp only [go_sem]
      (repeat apply sq_); refine E3 ?_
      try simp only [go_sem]
      have hr := Option.some.inj h
      refine E4 ?_; simp only [go_sem]
      exact y3 (d' := .tup [.agg [.sl false 2 48 (rows w4.cells j1), .sl false 1 24 (rows y5.cells j2), .sl false 3 40 (rows y8.cells t3), .sl false 3 40 (rows B6.cells t6)], .agg [.int .i64 0, .int .i64 0]]) hsc (.tup _ _ (.cons _ _ _ _ (.agg _ _ (.cons _ _ _ _ .s (.cons _ _ _ _ .s (.cons _ _ _ _ (.ref _ _ _ _ _ _ _ _ _ (dH.trans rfl) oD (by decide) (kB _) (by simp only [go_sem])) (.cons _ _ _ _ (.ref _ _ _ _ _ _ _ _ _ (dH.trans rfl) oD (by decide) (kB _) (by simp only [go_sem])) .nil))))) (.cons _ _ _ _ .s .nil)) rfl) (by simp) ⟨by subst hr; rfl, rfl⟩
   ·(repeat apply sq_); refine D4 (by rfl) (fun hc => ?_) fun hc => ?_
    ·replace h := B0 h (by first | exact hc | simpa using hc)
     (repeat apply sq_); apply er_; simp only [go_sem]
     obtain ⟨v9, hv9, h⟩ := C6 h
     refine ((bG _ _ hv9)).to ?_
     have e10 : (24 ≤ top) = True := by simp [top]
     try simp only [go_sem, e10]
     exact hj2 () _ _ _ h (G0 hsc (.lv (.lv (.lv (.lv (.live _ _ _ _ (.arr _ _ _ _ _ (.cons _ _ _ _ (.cons _ _ _ _ .s (.cons _ _ _ _ (.ref _ _ _ _ _ _ _ _ _ (dH.trans rfl) (bT (by first | decide | simp)) (by decide) (by simp [Imm, D.imm]) (by simp only [go_sem, rows, List.map_cons, List.map_nil])) (.cons _ _ _ _ .s (.cons _ _ _ _ .s .nil)))) (.same _))) (.nil _)))))) (by simp) ⟨.s, .s, .s, .s, .s, trivial⟩ (by simp))
    ·replace h := B1 h (by first | exact hc | simpa using hc)
     refine E6 ?_; try simp only [go_sem]
     exact hj2 () _ _ _ h (G0 hsc (.lv (.lv (.lv (.lv (.live _ _ _ _ (.arr _ _ _ _ _ (.cons _ _ _ _ (.cons _ _ _ _ .s (.cons _ _ _ _ (.ref _ _ _ _ _ _ _ _ _ (dH.trans rfl) (bT (by first | decide | simp)) (by decide) (kB _) (by simp only [go_sem, xG])) (.cons _ _ _ _ .s (.cons _ _ _ _ .s .nil)))) (.same _))) (.nil _)))))) (by simp) ⟨.s, .s, .s, .s, .s, trivial⟩ (by simp))
  ·(repeat apply sq_); refine D4 (by rfl) (fun hc => ?_) fun hc => ?_
   ·replace h := B0 h (by first | exact hc | simpa using hc)
    (repeat apply sq_); apply er_; simp only [go_sem]
    obtain ⟨v6, hv6, h⟩ := C6 h
    refine ((eC _ _ hv6)).to ?_
    have e7 : (48 ≤ top) = True := by simp [top]
    try simp only [go_sem, e7]
    exact hj1 () _ _ _ h (G0 hsc (.lv (.lv (.lv (.lv (.live _ _ _ _ (.arr _ _ _ _ _ (.cons _ _ _ _ (.cons _ _ _ _ (.ref _ _ _ _ _ _ _ _ _ (dH.trans rfl) (bT (by first | decide | simp)) (by decide) (by simp [Imm, D.imm]) (by simp only [go_sem, rows, List.map_cons, List.map_nil])) (.cons _ _ _ _ .s (.cons _ _ _ _ .s (.cons _ _ _ _ .s .nil)))) (.same _))) (.nil _)))))) (by simp) ⟨.s, .s, .s, .s, .s, trivial⟩ (by simp))
   ·replace h := B1 h (by first | exact hc | simpa using hc)
    refine E6 ?_; try simp only [go_sem]
    exact hj1 () _ _ _ h (G0 hsc (.lv (.lv (.lv (.lv (.live _ _ _ _ (.arr _ _ _ _ _ (.cons _ _ _ _ (.cons _ _ _ _ (.ref _ _ _ _ _ _ _ _ _ (dH.trans rfl) (bT (by first | decide | simp)) (by decide) (kB _) (by simp only [go_sem, xG])) (.cons _ _ _ _ .s (.cons _ _ _ _ .s (.cons _ _ _ _ .s .nil)))) (.same _))) (.nil _)))))) (by simp) ⟨.s, .s, .s, .s, .s, trivial⟩ (by simp))
end Go.Proofs.YtaohdfpcdfbnlaaGreatDoor
