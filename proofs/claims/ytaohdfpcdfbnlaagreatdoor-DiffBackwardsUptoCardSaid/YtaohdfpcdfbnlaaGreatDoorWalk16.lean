import Derived.Test.YtaohdfpcdfbnlaaGreatDoorBase
import Derived.Test.YtaohdfpcdfbnlaaGreatDoorHand
import Derived.Test.YtaohdfpcdfbnlaaGreatDoorMirrors
import Derived.Test.YtaohdfpcdfbnlaaGreatDoorWalk10
import Derived.Test.YtaohdfpcdfbnlaaGreatDoorWalk11
import Derived.Test.YtaohdfpcdfbnlaaGreatDoorWalk13
import Derived.Test.YtaohdfpcdfbnlaaGreatDoorWalk9
import Derived.Test.YtaohdfpcdfbnlaaGreatDoorWalk14
import Derived.Test.YtaohdfpcdfbnlaaGreatDoorWalk15
set_option linter.unusedVariables false
set_option linter.unusedSimpArgs false
set_option maxHeartbeats 2000000
set_option maxRecDepth 100000
namespace Go.Proofs.YtaohdfpcdfbnlaaGreatDoor
open Go Go.Am
theorem lA (a0 : (List w9)) (l0 : (List u9)) (r : (List w9) × Bool) (h : eR a0 l0 = some r) : ∀ (st : St) (o0 q0 : Nat) (hnd : [o0].Nodup) (ji : Am.look st o0 = some (.arr q0 3 40 (rows u9.cells l0))), Am.Spec Tryz.prog gl 35 [.sl false 9 144 (rows w9.cells a0), .ref false o0 q0 0 l0.length] st (fun d st' => d = .tup [.sl false 9 144 (rows w9.cells r.1), .bool r.2] ∧ st' = puts st []) := by
 intro st o0 q0 hnd ji
 unfold eR at h
 have ho0 := fP ji
 refine O4 (N := 52) (rs := [.tmp 4, .tmp 5]) (keep := [0, 1, 4, 5, 6, 7, 9, 10, 11, 12, 13, 25]) Tryz.func35 rfl rfl rfl (by kernel_rfl) rfl fun hsc => ?_
 refine pO (s' := (gu st [(o0, (.arr q0 3 40 (rows u9.cells l0)))])) (L7 (by simp [ji])) ?_
 (repeat apply sq_); apply er_; simp only [go_sem, C4 ho0, x7 ho0, C2 ho0, x6 ho0]
 (repeat apply sq_); apply er_; simp only [go_sem, C4 ho0, x7 ho0, C2 ho0, x6 ho0]
 (repeat apply sq_); apply er_; simp only [go_sem, C4 ho0, x7 ho0, C2 ho0, x6 ho0]
 (repeat apply sq_); apply er_; simp only [go_sem, C4 ho0, x7 ho0, C2 ho0, x6 ho0]
 (repeat apply sq_); refine Z7 9 144 ?_
 try simp only [List.append_assoc, List.cons_append, List.nil_append]
 refine L6 (F := [(0, .sl false 9 144 (rows w9.cells a0)), (6, .ref false st.length 0 0 0), (7, .int .i64 0), (10, .ref false o0 q0 0 l0.length), (11, .int .i64 (↑l0.length : Int)), (12, .int .i64 0)]) (T := (gu st [(o0, (.arr q0 3 40 (rows u9.cells l0)))]) ++ [some (.arr 0 9 144 (rows w9.cells []))]) (nN (by simp) (G2 hsc (by simp <;> omega)) (.lv (.nil _)) (by simp <;> omega) ⟨.s, .nref _ _ _ _ _ _ (ko.trans rfl), .s, .s, .s, .s, trivial⟩ (by simp <;> omega)) ?_
 obtain ⟨f1, h⟩ := G1 h
 (repeat apply sq_); refine arg_ (body := cE a0 l0) (kk := cF a0) (n := l0.length) (s0 := ([], 0))
  (fun (gs0 : Nat) (k0 : Nat) (s0 : (List w9) × Int) => [(0, .sl false 9 144 (rows w9.cells a0)), (6, .ref false st.length gs0 0 s0.1.length), (7, .int .i64 s0.2), (10, .ref false o0 q0 0 l0.length), (11, .int .i64 (↑l0.length : Int)), (12, .int .i64 (↑k0 : Int))])
  (fun (gs0 : Nat) (k0 : Nat) (s0 : (List w9) × Int) => (gu st [(o0, (.arr q0 3 40 (rows u9.cells l0)))]) ++ [some (.arr gs0 9 144 (rows w9.cells s0.1))])
  (fun (gt0 : Nat) (t0 : (List w9) × Int) => [(0, .sl false 9 144 (rows w9.cells a0)), (6, .ref false st.length gt0 0 t0.1.length), (7, .int .i64 t0.2)])
  (fun (gt0 : Nat) (t0 : (List w9) × Int) => (gu st [(o0, (.arr q0 3 40 (rows u9.cells l0)))]) ++ [some (.arr gt0 9 144 (rows w9.cells t0.1))])
  0 h (nN (by simp) (G2 hsc (by simp <;> omega)) (.lv (.nil _)) (by simp <;> omega) ⟨.s, .s, .s, .s, .s, .s, trivial⟩ (by simp <;> omega))
  (fun gs0 k0 s0 b0 hk0 h hx0 => ?_) (fun gs0 s0 => ?_) (fun gt0 t0 fr1 st1 h hb => ?_)
 ·unfold cE at h
  have hw0 : wr .i64 ((↑k0 : Int) + 1) = (↑(k0 + 1) : Int) := nY hk0 f1
  (repeat apply sq_); apply er_; simp only [go_sem, C4 ho0, x7 ho0, C2 ho0, x6 ho0, f1]
  (repeat apply sq_); refine D4 (by rfl) (fun hc => ?_) fun hc => ?_
  ·refine E6 ?_; try simp only [go_sem, C4 ho0, x7 ho0, C2 ho0, x6 ho0, f1]
   (repeat apply sq_); refine U8 ?_
   have e18 : (rows u9.cells l0).getD k0 [] = u9.cells (get l0 k0) := vn (E := u9.cells) (l := l0) (k := k0) (by first | omega | (simp; omega))
   have e19 : k0 < l0.length := by first | omega | (simp; omega)
   (repeat apply sq_); apply er_; simp only [go_sem, C4 ho0, x7 ho0, C2 ho0, x6 ho0, f1, hk0, hw0, e18, e19]
   (repeat apply sq_); apply er_; simp only [go_sem, C4 ho0, x7 ho0, C2 ho0, x6 ho0, f1, hk0, hw0]
   (repeat apply sq_); refine D4 (by rfl) (fun hc => ?_) fun hc => ?_
   ·replace h := B0 h (by first | exact hc | simpa using hc)
    (repeat apply sq_); apply er_; simp only [go_sem, C4 ho0, x7 ho0, C2 ho0, x6 ho0, f1, hk0, hw0]
    (repeat apply sq_); refine E3 ?_
    try simp only [go_sem, C4 ho0, x7 ho0, C2 ho0, x6 ho0, f1, hk0, hw0]
    obtain rfl := Option.some.inj h
    refine F9 ?_; have hr := hx0 _ rfl; try simp only [go_sem, C4 ho0, x7 ho0, C2 ho0, x6 ho0, f1, hk0, hw0]
    refine E4 ?_; simp only [go_sem, C4 ho0, x7 ho0, C2 ho0, x6 ho0, f1, hk0, hw0]
    exact J2 (d' := .tup [.sl false 9 144 (rows w9.cells []), .bool false]) (by simp) (G2 hsc (by simp <;> omega)) (.tup _ _ (.cons _ _ _ _ (.B4 _ _ _ (by decide)) (.cons _ _ _ _ .s .nil)) rfl) (by simp <;> omega) ⟨by subst hr; rfl, by exact L7 (by simp [ji])⟩
   ·replace h := B1 h (by first | exact hc | simpa using hc)
    refine E6 ?_; try simp only [go_sem, C4 ho0, x7 ho0, C2 ho0, x6 ho0, f1, hk0, hw0]
    obtain ⟨⟨f20, f21, f22, f23⟩, h⟩ := G1 h
    obtain ⟨c24, GH, h⟩ := lD h
    have e25 : rows w9.cells s0.1 ++ rows w9.cells ((a0.drop s0.2.toNat).take ((wr .i64 (s0.2 + ((get l0 k0).keep))).toNat - s0.2.toNat)) = rows w9.cells c24 := by rw [GH]; first | exact L5 (E := w9.cells) s0.1 ((a0.drop s0.2.toNat).take ((wr .i64 (s0.2 + ((get l0 k0).keep))).toNat - s0.2.toNat)) | simp only [go_sem, rows, List.map_append, List.map_cons, List.map_nil]
    have e26 : s0.1.length + ((a0.drop s0.2.toNat).take ((wr .i64 (s0.2 + ((get l0 k0).keep))).toNat - s0.2.toNat)).length = c24.length := by rw [GH]; simp
    obtain ⟨⟨f27, f28⟩, h⟩ := G1 h
    (repeat apply sq_); apply er_; simp only [go_sem, C4 ho0, x7 ho0, C2 ho0, x6 ho0, f1, hk0, hw0, f20, f21, f22, f23, f27, f28, e25, e26]
    obtain ⟨c29, GI, h⟩ := lD h
    have e30 : rows w9.cells c24 ++ rows w9.cells ((get l0 k0).put) = rows w9.cells c29 := by rw [GI]; first | exact L5 (E := w9.cells) c24 ((get l0 k0).put) | simp only [go_sem, rows, List.map_append, List.map_cons, List.map_nil]
    have e31 : c24.length + ((get l0 k0).put).length = c29.length := by rw [GI]; simp
    obtain ⟨⟨f32, f33⟩, h⟩ := G1 h
    (repeat apply sq_); apply er_; simp only [go_sem, C4 ho0, x7 ho0, C2 ho0, x6 ho0, f1, hk0, hw0, f20, f21, f22, f23, f27, f28, f32, f33, e30, e31]
    (repeat apply sq_); apply er_; simp only [go_sem, C4 ho0, x7 ho0, C2 ho0, x6 ho0, f1, hk0, hw0, f20, f21, f22, f23, f27, f28, f32, f33]
    (repeat apply sq_); apply er_; simp only [go_sem, C4 ho0, x7 ho0, C2 ho0, x6 ho0, f1, hk0, hw0, f20, f21, f22, f23, f27, f28, f32, f33]
    cases h
    exact bK ((gs0 + 1) + 1) (nN (by simp) (G2 hsc (by simp <;> omega)) (.lv (.nil _)) (by simp <;> omega) ⟨.s, .s, .s, .s, .s, .s, trivial⟩ (by simp <;> omega))
  ·exfalso; have hc := of_decide_eq_false hc; omega
 ·(repeat apply sq_); apply er_; simp only [go_sem, C4 ho0, x7 ho0, C2 ho0, x6 ho0, f1]
  (repeat apply sq_); refine D4 (by rfl) (fun hc => ?_) fun hc => ?_
  ·exfalso; first | exact Bool.noConfusion hc | (have hc := of_decide_eq_true hc; omega)
  ·refine Y2 ?_; simp only [go_sem, C4 ho0, x7 ho0, C2 ho0, x6 ho0, f1]
   exact ⟨gs0, (nN (by simp) (G2 hsc (by simp <;> omega)) (.lv (.nil _)) (by simp <;> omega) ⟨.s, .s, .s, trivial⟩ (by simp <;> omega))⟩
 ·try simp only [go_sem, C4 ho0, x7 ho0, C2 ho0, x6 ho0, f1]
  unfold cF at h
  refine L6 hb ?_
  (repeat apply sq_); apply er_; simp only [go_sem, C4 ho0, x7 ho0, C2 ho0, x6 ho0, f1]
  (repeat apply sq_); refine E3 ?_
  try simp only [go_sem, C4 ho0, x7 ho0, C2 ho0, x6 ho0, f1]
  have hr := Option.some.inj h
  refine E4 ?_; simp only [go_sem, C4 ho0, x7 ho0, C2 ho0, x6 ho0, f1]
  exact J2 (d' := .tup [.sl false 9 144 (rows w9.cells t0.1), .bool (decide (t0.2 = (↑a0.length : Int)))]) (by simp) (G2 hsc (by simp <;> omega)) (.tup _ _ (.cons _ _ _ _ (.ref _ _ _ _ _ _ _ _ _ (ko.trans rfl) qZ (by decide) (kB _) (by simp only [go_sem])) (.cons _ _ _ _ .s .nil)) rfl) (by simp <;> omega) ⟨by subst hr; rfl, by exact L7 (by simp [ji])⟩
theorem vd (n : Nat) (a0 : x5) (r : x5) (h : pU n a0 = some r) : Pure Tryz.prog gl 37 [.agg [.sl false 2 40 (rows w7.cells a0.hierarchy.types), .sl false 3 32 (rows x9.cells a0.hierarchy.C9), .sl false 10 152 (rows u6.cells a0.rules), .sl false 9 144 (rows w9.cells a0.D0), .sl false 2 32 (rows w8.cells a0.start.nodes)]] (.agg [.sl false 2 40 (rows w7.cells r.hierarchy.types), .sl false 3 32 (rows x9.cells r.hierarchy.C9), .sl false 10 152 (rows u6.cells r.rules), .sl false 9 144 (rows w9.cells r.D0), .sl false 2 32 (rows w8.cells r.start.nodes)]) := by
 intro st
 unfold pU at h
 refine O4 (N := 46) (rs := [.cell 2 32]) (keep := [0, 1, 2, 3, 5, 7, 16, 17, 18, 19, 31, 32, 33, 34]) Tryz.func37 rfl rfl rfl (by kernel_rfl) rfl fun hsc => ?_
 (repeat apply sq_); apply er_; simp only [go_sem]
 (repeat apply sq_); refine ak [] 1 follows (by kernel_rfl) (by rfl) ?_; simp only [go_sem, List.replicate_succ, List.replicate_zero]
 obtain ⟨v1, hv1, h⟩ := C6 h
 refine A0 (eC _ _ hv1) ?_
 try simp only [go_sem]
 obtain ⟨v2, hv2, h⟩ := C6 h
 refine A0 (bG _ _ hv2) ?_
 try simp only [go_sem]
 (repeat apply sq_); apply er_; simp only [go_sem]
 (repeat apply sq_); refine Z7 10 152 ?_
 try simp only [List.append_assoc, List.cons_append, List.nil_append]
 refine L6 (F := [(1, .ptr st.length 0 0 0), (2, .ptr (st.length + 1) 0 0 0), (3, .ptr (st.length + 2) 0 0 0), (16, .sl false 10 152 (rows u6.cells a0.rules)), (17, .int .i64 (↑a0.rules.length : Int)), (18, .int .i64 0)]) (T := st ++ [some (.arr 0 5 0 [[.sl false 2 40 (rows w7.cells a0.hierarchy.types), .sl false 3 32 (rows x9.cells a0.hierarchy.C9), .sl false 10 152 (rows u6.cells a0.rules), .sl false 9 144 (rows w9.cells a0.D0), .sl false 2 32 (rows w8.cells a0.start.nodes)]]), some (.arr 0 5 0 [[.B4, .B4, .B4, .B4, .B4]]), some (.arr 0 5 0 [[.sl false 2 40 (rows w7.cells v1.types), .sl false 3 32 (rows x9.cells v1.C9), .ref false (st.length + 3) 0 0 0, .B4, .sl false 2 32 (rows w8.cells v2.nodes)]]), some (.arr 0 10 152 (rows u6.cells []))]) (G0 hsc (.lv (.lv (.live _ _ _ _ (.arr _ _ _ _ _ (.cons _ _ _ _ (.cons _ _ _ _ .s (.cons _ _ _ _ .s (.cons _ _ _ _ (.nref _ _ _ _ _ _ (dH.trans rfl)) (.cons _ _ _ _ .s (.cons _ _ _ _ .s .nil))))) (.same _))) (.lv (.nil _))))) (by simp) ⟨.s, .s, .s, .s, .s, .s, trivial⟩ (by simp)) ?_
 (repeat apply sq_); refine fG (t := 16) rfl fun hl0 => ?_
 simp only [eF] at hl0
 (repeat apply sq_); refine arg_ (body := jE n a0) (kk := jH n a0 v1 v2) (n := a0.rules.length) (s0 := [])
  (fun (gs0 : Nat) (k0 : Nat) (s0 : (List u6)) => [(1, .ptr st.length 0 0 0), (2, .ptr (st.length + 1) 0 0 0), (3, .ptr (st.length + 2) 0 0 0), (16, .sl false 10 152 (rows u6.cells a0.rules)), (17, .int .i64 (↑a0.rules.length : Int)), (18, .int .i64 (↑k0 : Int))])
  (fun (gs0 : Nat) (k0 : Nat) (s0 : (List u6)) => st ++ [some (.arr 0 5 0 [[.sl false 2 40 (rows w7.cells a0.hierarchy.types), .sl false 3 32 (rows x9.cells a0.hierarchy.C9), .sl false 10 152 (rows u6.cells a0.rules), .sl false 9 144 (rows w9.cells a0.D0), .sl false 2 32 (rows w8.cells a0.start.nodes)]]), some (.arr 0 5 0 [[.B4, .B4, .B4, .B4, .B4]]), some (.arr 0 5 0 [[.sl false 2 40 (rows w7.cells v1.types), .sl false 3 32 (rows x9.cells v1.C9), .ref false (st.length + 3) gs0 0 s0.length, .B4, .sl false 2 32 (rows w8.cells v2.nodes)]]), some (.arr gs0 10 152 (rows u6.cells s0))])
  (fun (gt0 : Nat) (t0 : (List u6)) => [(1, .ptr st.length 0 0 0), (2, .ptr (st.length + 1) 0 0 0), (3, .ptr (st.length + 2) 0 0 0)])
  (fun (gt0 : Nat) (t0 : (List u6)) => st ++ [some (.arr 0 5 0 [[.sl false 2 40 (rows w7.cells a0.hierarchy.types), .sl false 3 32 (rows x9.cells a0.hierarchy.C9), .sl false 10 152 (rows u6.cells a0.rules), .sl false 9 144 (rows w9.cells a0.D0), .sl false 2 32 (rows w8.cells a0.start.nodes)]]), some (.arr 0 5 0 [[.B4, .B4, .B4, .B4, .B4]]), some (.arr 0 5 0 [[.sl false 2 40 (rows w7.cells v1.types), .sl false 3 32 (rows x9.cells v1.C9), .ref false (st.length + 3) gt0 0 t0.length, .B4, .sl false 2 32 (rows w8.cells v2.nodes)]]), some (.arr gt0 10 152 (rows u6.cells t0))])
  0 h (G0 hsc (.lv (.lv (.lv (.lv (.nil _))))) (by simp) ⟨.s, .s, .s, .s, .s, .s, trivial⟩ (by simp))
  (fun gs0 k0 s0 b0 hk0 h hx0 => ?_) (fun gs0 s0 => ?_) (fun gt0 t0 fr1 st1 h hb => ?_)
 ·unfold jE at h
  have hw0 : wr .i64 ((↑k0 : Int) + 1) = (↑(k0 + 1) : Int) := gy hk0 hl0 (by decide)
  (repeat apply sq_); apply er_; simp only [go_sem]
  (repeat apply sq_); refine D4 (by rfl) (fun hc => ?_) fun hc => ?_
  ·refine E6 ?_; try simp only [go_sem]
   (repeat apply sq_); refine U8 ?_
   (repeat apply sq_); apply er_; simp only [go_sem, hk0, hw0]
   (repeat apply sq_); refine ak [] 2 follows (by kernel_rfl) (by rfl) ?_; simp only [go_sem, List.replicate_succ, List.replicate_zero, hk0, hw0]
   obtain ⟨v10, hv10, h⟩ := C6 h
   refine A0 (jg n _ _ hv10) ?_
   have e11 : (152 ≤ top) = True := by simp [top]
   obtain ⟨c12, Jr, h⟩ := lD h
   have e13 : rows u6.cells s0 ++ [[.str v10.name, .sl false 2 32 (rows w8.cells v10.graph.nodes), .int .i64 v10.kids, .int .i64 v10.weight, .int .i64 v10.meaning.kind, .str v10.meaning.name, .int .i64 v10.meaning.index, .str v10.meaning.type.base, .sl false 2 40 (rows u0.cells v10.meaning.type.args), .sl false 6 96 (rows w5.cells v10.meaning.args)]] = rows u6.cells c12 := by rw [Jr]; first | exact L5 (E := u6.cells) s0 [v10] | simp only [go_sem, rows, List.map_append, List.map_cons, List.map_nil]
   have e14 : s0.length + 1 = c12.length := by rw [Jr]; simp
   obtain ⟨⟨f15, f16⟩, h⟩ := G1 h
   try simp only [go_sem, hk0, hw0, f15, f16, e11, e13, e14]
   (repeat apply sq_); apply er_; simp only [go_sem, hk0, hw0, f15, f16]
   cases h
   exact bK (gs0 + 1) (G0 hsc (.lv (.lv (.lv (.lv (.nil _))))) (by simp) ⟨.s, .s, .s, .s, .s, .s, trivial⟩ (by simp))
  ·exfalso; have hc := of_decide_eq_false hc; omega
 ·(repeat apply sq_); apply er_; simp only [go_sem]
  (repeat apply sq_); refine D4 (by rfl) (fun hc => ?_) fun hc => ?_
  ·exfalso; first | exact Bool.noConfusion hc | (have hc := of_decide_eq_true hc; omega)
  ·refine Y2 ?_; simp only [go_sem]
   exact ⟨gs0, (G0 hsc (.lv (.lv (.lv (.lv (.nil _))))) (by simp) ⟨.s, .s, .s, trivial⟩ (by simp))⟩
 ·try simp only [go_sem]
  unfold jH at h
  refine L6 hb ?_
  (repeat apply sq_); apply er_; simp only [go_sem]
  (repeat apply sq_); refine Z7 9 144 ?_
  try simp only [List.append_assoc, List.cons_append, List.nil_append]
  refine L6 (F := [(2, .ptr (st.length + 1) 0 0 0), (3, .ptr (st.length + 2) 0 0 0), (31, .sl false 9 144 (rows w9.cells a0.D0)), (32, .int .i64 (↑a0.D0.length : Int)), (33, .int .i64 0)]) (T := st ++ [some (.arr 0 5 0 [[.sl false 2 40 (rows w7.cells a0.hierarchy.types), .sl false 3 32 (rows x9.cells a0.hierarchy.C9), .sl false 10 152 (rows u6.cells a0.rules), .sl false 9 144 (rows w9.cells a0.D0), .sl false 2 32 (rows w8.cells a0.start.nodes)]]), some (.arr 0 5 0 [[.B4, .B4, .B4, .B4, .B4]]), some (.arr 0 5 0 [[.sl false 2 40 (rows w7.cells v1.types), .sl false 3 32 (rows x9.cells v1.C9), .ref false (st.length + 3) gt0 0 t0.length, .ref false (st.length + 4) 0 0 0, .sl false 2 32 (rows w8.cells v2.nodes)]]), some (.arr gt0 10 152 (rows u6.cells t0)), some (.arr 0 9 144 (rows w9.cells []))]) (G0 hsc (.lv (.lv (.live _ _ _ _ (.arr _ _ _ _ _ (.cons _ _ _ _ (.cons _ _ _ _ .s (.cons _ _ _ _ .s (.cons _ _ _ _ .s (.cons _ _ _ _ (.nref _ _ _ _ _ _ (dH.trans rfl)) (.cons _ _ _ _ .s .nil))))) (.same _))) (.lv (.lv (.nil _)))))) (by simp) ⟨.s, .s, .s, .s, .s, trivial⟩ (by simp)) ?_
  (repeat apply sq_); refine fG (t := 31) rfl fun hl1 => ?_
  simp only [eF] at hl1
  (repeat apply sq_); refine arg_ (body := jF n a0) (kk := jG v1 t0 v2) (n := a0.D0.length) (s0 := [])
   (fun (gs1 : Nat) (k1 : Nat) (s1 : (List w9)) => [(2, .ptr (st.length + 1) 0 0 0), (3, .ptr (st.length + 2) 0 0 0), (31, .sl false 9 144 (rows w9.cells a0.D0)), (32, .int .i64 (↑a0.D0.length : Int)), (33, .int .i64 (↑k1 : Int))])
   (fun (gs1 : Nat) (k1 : Nat) (s1 : (List w9)) => st ++ [none, some (.arr 0 5 0 [[.B4, .B4, .B4, .B4, .B4]]), some (.arr 0 5 0 [[.sl false 2 40 (rows w7.cells v1.types), .sl false 3 32 (rows x9.cells v1.C9), .ref false (st.length + 3) gt0 0 t0.length, .ref false (st.length + 4) gs1 0 s1.length, .sl false 2 32 (rows w8.cells v2.nodes)]]), some (.arr gt0 10 152 (rows u6.cells t0)), some (.arr gs1 9 144 (rows w9.cells s1))])
   (fun (gt1 : Nat) (t1 : (List w9)) => [(2, .ptr (st.length + 1) 0 0 0), (3, .ptr (st.length + 2) 0 0 0)])
   (fun (gt1 : Nat) (t1 : (List w9)) => st ++ [none, some (.arr 0 5 0 [[.B4, .B4, .B4, .B4, .B4]]), some (.arr 0 5 0 [[.sl false 2 40 (rows w7.cells v1.types), .sl false 3 32 (rows x9.cells v1.C9), .ref false (st.length + 3) gt0 0 t0.length, .ref false (st.length + 4) gt1 0 t1.length, .sl false 2 32 (rows w8.cells v2.nodes)]]), some (.arr gt0 10 152 (rows u6.cells t0)), some (.arr gt1 9 144 (rows w9.cells t1))])
   0 h (G0 hsc (.dead _ _ _ (.lv (.lv (.lv (.lv (.nil _)))))) (by simp) ⟨.s, .s, .s, .s, .s, trivial⟩ (by simp))
   (fun gs1 k1 s1 b1 hk1 h hx1 => ?_) (fun gs1 s1 => ?_) (fun gt1 t1 fr1 st1 h hb => ?_)
  ·unfold jF at h
   have hw1 : wr .i64 ((↑k1 : Int) + 1) = (↑(k1 + 1) : Int) := gy hk1 hl1 (by decide)
   (repeat apply sq_); apply er_; simp only [go_sem]
   (repeat apply sq_); refine D4 (by rfl) (fun hc => ?_) fun hc => ?_
   ·refine E6 ?_; try simp only [go_sem]
    (repeat apply sq_); refine U8 ?_
    (repeat apply sq_); apply er_; simp only [go_sem, hk1, hw1]
    (repeat apply sq_); refine ak [] 2 follows (by kernel_rfl) (by rfl) ?_; simp only [go_sem, List.replicate_succ, List.replicate_zero, hk1, hw1]
    obtain ⟨v24, hv24, h⟩ := C6 h
    refine A0 (jV n _ _ hv24) ?_
    have e25 : (144 ≤ top) = True := by simp [top]
    obtain ⟨c26, Js, h⟩ := lD h
    have e27 : rows w9.cells s1 ++ [[.str v24.word, .sl false 2 32 (rows w8.cells v24.graph.nodes), .int .i64 v24.weight, .int .i64 v24.meaning.kind, .str v24.meaning.name, .int .i64 v24.meaning.index, .str v24.meaning.type.base, .sl false 2 40 (rows u0.cells v24.meaning.type.args), .sl false 6 96 (rows w5.cells v24.meaning.args)]] = rows w9.cells c26 := by rw [Js]; first | exact L5 (E := w9.cells) s1 [v24] | simp only [go_sem, rows, List.map_append, List.map_cons, List.map_nil]
    have e28 : s1.length + 1 = c26.length := by rw [Js]; simp
    obtain ⟨⟨f29, f30⟩, h⟩ := G1 h
    try simp only [go_sem, hk1, hw1, f29, f30, e25, e27, e28]
    (repeat apply sq_); apply er_; simp only [go_sem, hk1, hw1, f29, f30]
    cases h
    exact bK (gs1 + 1) (G0 hsc (.dead _ _ _ (.lv (.lv (.lv (.lv (.nil _)))))) (by simp) ⟨.s, .s, .s, .s, .s, trivial⟩ (by simp))
   ·exfalso; have hc := of_decide_eq_false hc; omega
  ·(repeat apply sq_); apply er_; simp only [go_sem]
   (repeat apply sq_); refine D4 (by rfl) (fun hc => ?_) fun hc => ?_
   ·exfalso; first | exact Bool.noConfusion hc | (have hc := of_decide_eq_true hc; omega)
   ·refine Y2 ?_; simp only [go_sem]
    exact ⟨gs1, (G0 hsc (.dead _ _ _ (.lv (.lv (.lv (.lv (.nil _)))))) (by simp) ⟨.s, .s, trivial⟩ (by simp))⟩
  ·try simp only [go_sem]
   unfold jG at h
   refine L6 hb ?_
   (repeat apply sq_); apply er_; simp only [go_sem]
   (repeat apply sq_); refine E3 ?_
   try simp only [go_sem]
   have hr := Option.some.inj h
   refine E4 ?_; simp only [go_sem]
   exact y3 (d' := .agg [.sl false 2 40 (rows w7.cells v1.types), .sl false 3 32 (rows x9.cells v1.C9), .sl false 10 152 (rows u6.cells t0), .sl false 9 144 (rows w9.cells t1), .sl false 2 32 (rows w8.cells v2.nodes)]) hsc (.agg _ _ (.cons _ _ _ _ .s (.cons _ _ _ _ .s (.cons _ _ _ _ (.ref _ _ _ _ _ _ _ _ _ (dH.trans rfl) oD (by decide) (kB _) (by simp only [go_sem])) (.cons _ _ _ _ (.ref _ _ _ _ _ _ _ _ _ (dH.trans rfl) oD (by decide) (kB _) (by simp only [go_sem])) (.cons _ _ _ _ .s .nil)))))) (by simp) ⟨by subst hr; rfl, rfl⟩
theorem vg (n : Nat) (a0 : x5) (a1 : C5) (r : x5 × y7) (h : pV n a0 a1 = some r) : Pure Tryz.prog gl 9 [.agg [.sl false 2 40 (rows w7.cells a0.hierarchy.types), .sl false 3 32 (rows x9.cells a0.hierarchy.C9), .sl false 10 152 (rows u6.cells a0.rules), .sl false 9 144 (rows w9.cells a0.D0), .sl false 2 32 (rows w8.cells a0.start.nodes)], .agg [.sl false 2 48 (rows w4.cells a1.hierarchy), .sl false 1 24 (rows y5.cells a1.start), .sl false 3 40 (rows y8.cells a1.rules), .sl false 3 40 (rows B6.cells a1.D0)]] (.tup [.agg [.sl false 2 40 (rows w7.cells r.1.hierarchy.types), .sl false 3 32 (rows x9.cells r.1.hierarchy.C9), .sl false 10 152 (rows u6.cells r.1.rules), .sl false 9 144 (rows w9.cells r.1.D0), .sl false 2 32 (rows w8.cells r.1.start.nodes)], .agg [.int .i64 r.2.code, .int .i64 r.2.index]]) := by
 intro st
 unfold pV at h
 refine O4 (N := 129) (rs := [.cell 4 32, .cell 5 41]) (keep := [0, 1, 2, 3, 4, 5, 6, 7, 8, 10, 11, 13, 14, 16, 18, 19, 20, 21, 26, 33, 37, 38, 39, 40, 55, 56, 57, 58, 74, 75, 76, 77, 84, 85, 86, 87, 112, 113, 114, 121]) Tryz.func9 rfl rfl rfl (by kernel_rfl) rfl fun hsc => ?_
 (repeat apply sq_); apply er_; simp only [go_sem]
 (repeat apply sq_); apply er_; simp only [go_sem]
 obtain ⟨v1, hv1, h⟩ := C6 h
 refine ((dA n _ _ hv1)).to ?_
 try simp only [go_sem]
 (repeat apply sq_); apply er_; simp only [go_sem]
 (repeat apply sq_); refine D4 (by rfl) (fun hc => ?_) fun hc => ?_
 ·replace h := B0 h (by first | exact hc | simpa using hc)
  (repeat apply sq_); refine ak [1, 2] 0 follows (by kernel_rfl) (by rfl) ?_; simp only [go_sem, List.replicate_succ, List.replicate_zero]
  try refine ⟨by (simp <;> omega), ?_⟩
  (repeat apply sq_); refine E3 ?_
  try simp only [go_sem]
  have hr := Option.some.inj h
  refine E4 ?_; simp only [go_sem]
  exact y3 (d' := .tup [.agg [.sl false 2 40 (rows w7.cells []), .sl false 3 32 (rows x9.cells []), .sl false 10 152 (rows u6.cells []), .sl false 9 144 (rows w9.cells []), .sl false 2 32 (rows w8.cells [])], .agg [.int .i64 v1.code, .int .i64 v1.index]]) hsc (.tup _ _ (.cons _ _ _ _ (.agg _ _ (.cons _ _ _ _ (.B4 _ _ _ (by decide)) (.cons _ _ _ _ (.B4 _ _ _ (by decide)) (.cons _ _ _ _ (.B4 _ _ _ (by decide)) (.cons _ _ _ _ (.B4 _ _ _ (by decide)) (.cons _ _ _ _ (.B4 _ _ _ (by decide)) .nil)))))) (.cons _ _ _ _ .s .nil)) rfl) (by simp) ⟨by subst hr; rfl, rfl⟩
 ·replace h := B1 h (by first | exact hc | simpa using hc)
  refine E6 ?_; try simp only [go_sem]
  (repeat apply sq_); apply er_; simp only [go_sem]
  obtain ⟨v2, hv2, h⟩ := C6 h
  refine ((nU _ _ hv2)).to ?_
  try simp only [go_sem]
  (repeat apply sq_); apply er_; simp only [go_sem]
  (repeat apply sq_); refine D4 (by rfl) (fun hc => ?_) fun hc => ?_
  ·replace h := B0 h (by first | exact hc | simpa using hc)
   (repeat apply sq_); refine ak [1, 2] 0 follows (by kernel_rfl) (by rfl) ?_; simp only [go_sem, List.replicate_succ, List.replicate_zero]
   try refine ⟨by (simp <;> omega), ?_⟩
   (repeat apply sq_); refine E3 ?_
   try simp only [go_sem]
   have hr := Option.some.inj h
   refine E4 ?_; simp only [go_sem]
   exact y3 (d' := .tup [.agg [.sl false 2 40 (rows w7.cells []), .sl false 3 32 (rows x9.cells []), .sl false 10 152 (rows u6.cells []), .sl false 9 144 (rows w9.cells []), .sl false 2 32 (rows w8.cells [])], .agg [.int .i64 v2.code, .int .i64 v2.index]]) hsc (.tup _ _ (.cons _ _ _ _ (.agg _ _ (.cons _ _ _ _ (.B4 _ _ _ (by decide)) (.cons _ _ _ _ (.B4 _ _ _ (by decide)) (.cons _ _ _ _ (.B4 _ _ _ (by decide)) (.cons _ _ _ _ (.B4 _ _ _ (by decide)) (.cons _ _ _ _ (.B4 _ _ _ (by decide)) .nil)))))) (.cons _ _ _ _ .s .nil)) rfl) (by simp) ⟨by subst hr; rfl, rfl⟩
  ·replace h := B1 h (by first | exact hc | simpa using hc)
   refine E6 ?_; try simp only [go_sem]
   (repeat apply sq_); apply er_; simp only [go_sem]
   (repeat apply sq_); apply er_; simp only [go_sem]
   (repeat apply sq_); refine Z7 3 40 ?_
   try simp only [List.append_assoc, List.cons_append, List.nil_append]
   refine L6 (F := [(2, .ptr st.length 0 0 0), (3, .ptr (st.length + 1) 0 0 0), (4, .ptr (st.length + 2) 0 0 0), (5, .ptr (st.length + 3) 0 0 0), (8, .ref false (st.length + 6) 0 0 0), (37, .sl false 3 40 (rows y8.cells a1.rules)), (38, .int .i64 (↑a1.rules.length : Int)), (39, .int .i64 0)]) (T := st ++ [some (.arr 0 5 0 [[.sl false 2 40 (rows w7.cells a0.hierarchy.types), .sl false 3 32 (rows x9.cells a0.hierarchy.C9), .sl false 10 152 (rows u6.cells a0.rules), .sl false 9 144 (rows w9.cells a0.D0), .sl false 2 32 (rows w8.cells a0.start.nodes)]]), some (.arr 0 4 0 [[.sl false 2 48 (rows w4.cells a1.hierarchy), .sl false 1 24 (rows y5.cells a1.start), .sl false 3 40 (rows y8.cells a1.rules), .sl false 3 40 (rows B6.cells a1.D0)]]), some (.arr 0 5 0 [[.B4, .B4, .B4, .B4, .B4]]), some (.arr 0 2 0 [[.int .i64 0, .int .i64 0]]), some (.arr 0 2 0 [[.int .i64 v1.code, .int .i64 v1.index]]), some (.arr 0 2 0 [[.int .i64 v2.code, .int .i64 v2.index]]), some (.arr 0 3 40 (rows u7.cells []))]) (G0 hsc (.lv (.lv (.lv (.lv (.lv (.lv (.lv (.nil _)))))))) (by simp) ⟨.s, .s, .s, .s, .nref _ _ _ _ _ _ (dH.trans rfl), .s, .s, .s, trivial⟩ (by simp)) ?_
   (repeat apply sq_); refine fG (t := 37) rfl fun hl0 => ?_
   simp only [eF] at hl0
   (repeat apply sq_); refine arg_ (body := jI a1) (kk := jP n a1 a0) (n := a1.rules.length) (s0 := [])
    (fun (gs0 : Nat) (k0 : Nat) (s0 : (List u7)) => [(2, .ptr st.length 0 0 0), (3, .ptr (st.length + 1) 0 0 0), (4, .ptr (st.length + 2) 0 0 0), (5, .ptr (st.length + 3) 0 0 0), (8, .ref false (st.length + 6) gs0 0 s0.length), (37, .sl false 3 40 (rows y8.cells a1.rules)), (38, .int .i64 (↑a1.rules.length : Int)), (39, .int .i64 (↑k0 : Int))])
    (fun (gs0 : Nat) (k0 : Nat) (s0 : (List u7)) => st ++ [some (.arr 0 5 0 [[.sl false 2 40 (rows w7.cells a0.hierarchy.types), .sl false 3 32 (rows x9.cells a0.hierarchy.C9), .sl false 10 152 (rows u6.cells a0.rules), .sl false 9 144 (rows w9.cells a0.D0), .sl false 2 32 (rows w8.cells a0.start.nodes)]]), some (.arr 0 4 0 [[.sl false 2 48 (rows w4.cells a1.hierarchy), .sl false 1 24 (rows y5.cells a1.start), .sl false 3 40 (rows y8.cells a1.rules), .sl false 3 40 (rows B6.cells a1.D0)]]), some (.arr 0 5 0 [[.B4, .B4, .B4, .B4, .B4]]), some (.arr 0 2 0 [[.int .i64 0, .int .i64 0]]), none, none, some (.arr gs0 3 40 (rows u7.cells s0))])
    (fun (gt0 : Nat) (t0 : (List u7)) => [(2, .ptr st.length 0 0 0), (3, .ptr (st.length + 1) 0 0 0), (4, .ptr (st.length + 2) 0 0 0), (5, .ptr (st.length + 3) 0 0 0), (8, .ref false (st.length + 6) gt0 0 t0.length)])
    (fun (gt0 : Nat) (t0 : (List u7)) => st ++ [some (.arr 0 5 0 [[.sl false 2 40 (rows w7.cells a0.hierarchy.types), .sl false 3 32 (rows x9.cells a0.hierarchy.C9), .sl false 10 152 (rows u6.cells a0.rules), .sl false 9 144 (rows w9.cells a0.D0), .sl false 2 32 (rows w8.cells a0.start.nodes)]]), some (.arr 0 4 0 [[.sl false 2 48 (rows w4.cells a1.hierarchy), .sl false 1 24 (rows y5.cells a1.start), .sl false 3 40 (rows y8.cells a1.rules), .sl false 3 40 (rows B6.cells a1.D0)]]), some (.arr 0 5 0 [[.B4, .B4, .B4, .B4, .B4]]), some (.arr 0 2 0 [[.int .i64 0, .int .i64 0]]), none, none, some (.arr gt0 3 40 (rows u7.cells t0))])
    0 h (G0 hsc (.lv (.lv (.lv (.lv (.dead _ _ _ (.dead _ _ _ (.lv (.nil _)))))))) (by simp) ⟨.s, .s, .s, .s, .s, .s, .s, .s, trivial⟩ (by simp))
    (fun gs0 k0 s0 b0 hk0 h hx0 => ?_) (fun gs0 s0 => ?_) (fun gt0 t0 fr1 st1 h hb => ?_)
   ·unfold jI at h
    have hw0 : wr .i64 ((↑k0 : Int) + 1) = (↑(k0 + 1) : Int) := gy hk0 hl0 (by decide)
    (repeat apply sq_); apply er_; simp only [go_sem]
    (repeat apply sq_); refine D4 (by rfl) (fun hc => ?_) fun hc => ?_
    ·refine E6 ?_; try simp only [go_sem]
     (repeat apply sq_); refine U8 ?_
     (repeat apply sq_); apply er_; simp only [go_sem, hk0, hw0]
     have e9 : (40 ≤ top) = True := by simp [top]
     obtain ⟨c10, CZ, h⟩ := lD h
     have e11 : rows u7.cells s0 ++ [[.int .i64 ((get a1.rules k0).keep), .int .i64 ((get a1.rules k0).drop), .sl false 10 152 (rows u6.cells ((get a1.rules k0).put))]] = rows u7.cells c10 := by rw [CZ]; first | exact L5 (E := u7.cells) s0 [(u7.mk ((get a1.rules k0).keep) ((get a1.rules k0).drop) ((get a1.rules k0).put))] | simp only [go_sem, rows, List.map_append, List.map_cons, List.map_nil]
     have e12 : s0.length + 1 = c10.length := by rw [CZ]; simp
     obtain ⟨⟨f13, f14⟩, h⟩ := G1 h
     (repeat apply sq_); apply er_; simp only [go_sem, hk0, hw0, f13, f14, e9, e11, e12]
     (repeat apply sq_); apply er_; simp only [go_sem, hk0, hw0, f13, f14]
     cases h
     exact bK (gs0 + 1) (G0 hsc (.lv (.lv (.lv (.lv (.dead _ _ _ (.dead _ _ _ (.lv (.nil _)))))))) (by simp) ⟨.s, .s, .s, .s, .s, .s, .s, .s, trivial⟩ (by simp))
    ·exfalso; have hc := of_decide_eq_false hc; omega
   ·(repeat apply sq_); apply er_; simp only [go_sem]
    (repeat apply sq_); refine D4 (by rfl) (fun hc => ?_) fun hc => ?_
    ·exfalso; first | exact Bool.noConfusion hc | (have hc := of_decide_eq_true hc; omega)
    ·refine Y2 ?_; simp only [go_sem]
     exact ⟨gs0, (G0 hsc (.lv (.lv (.lv (.lv (.dead _ _ _ (.dead _ _ _ (.lv (.nil _)))))))) (by simp) ⟨.s, .s, .s, .s, .s, trivial⟩ (by simp))⟩
   ·try simp only [go_sem]
    unfold jP at h
    refine L6 hb ?_
    (repeat apply sq_); apply er_; simp only [go_sem]
    (repeat apply sq_); apply er_; simp only [go_sem]
    (repeat apply sq_); refine Z7 3 40 ?_
    try simp only [List.append_assoc, List.cons_append, List.nil_append]
    refine L6 (F := [(2, .ptr st.length 0 0 0), (3, .ptr (st.length + 1) 0 0 0), (4, .ptr (st.length + 2) 0 0 0), (5, .ptr (st.length + 3) 0 0 0), (8, .ref false (st.length + 6) gt0 0 t0.length), (11, .ref false (st.length + 7) 0 0 0), (55, .sl false 3 40 (rows B6.cells a1.D0)), (56, .int .i64 (↑a1.D0.length : Int)), (57, .int .i64 0)]) (T := st ++ [some (.arr 0 5 0 [[.sl false 2 40 (rows w7.cells a0.hierarchy.types), .sl false 3 32 (rows x9.cells a0.hierarchy.C9), .sl false 10 152 (rows u6.cells a0.rules), .sl false 9 144 (rows w9.cells a0.D0), .sl false 2 32 (rows w8.cells a0.start.nodes)]]), some (.arr 0 4 0 [[.sl false 2 48 (rows w4.cells a1.hierarchy), .sl false 1 24 (rows y5.cells a1.start), .sl false 3 40 (rows y8.cells a1.rules), .sl false 3 40 (rows B6.cells a1.D0)]]), some (.arr 0 5 0 [[.B4, .B4, .B4, .B4, .B4]]), some (.arr 0 2 0 [[.int .i64 0, .int .i64 0]]), none, none, some (.arr gt0 3 40 (rows u7.cells t0)), some (.arr 0 3 40 (rows u9.cells []))]) (G0 hsc (.lv (.lv (.lv (.lv (.dead _ _ _ (.dead _ _ _ (.lv (.lv (.nil _))))))))) (by simp) ⟨.s, .s, .s, .s, .s, .nref _ _ _ _ _ _ (dH.trans rfl), .s, .s, .s, trivial⟩ (by simp)) ?_
    (repeat apply sq_); refine fG (t := 55) rfl fun hl1 => ?_
    simp only [eF] at hl1
    (repeat apply sq_); refine arg_ (body := jJ a1) (kk := jO n a1 a0 t0) (n := a1.D0.length) (s0 := [])
     (fun (gs1 : Nat) (k1 : Nat) (s1 : (List u9)) => [(2, .ptr st.length 0 0 0), (3, .ptr (st.length + 1) 0 0 0), (4, .ptr (st.length + 2) 0 0 0), (5, .ptr (st.length + 3) 0 0 0), (8, .ref false (st.length + 6) gt0 0 t0.length), (11, .ref false (st.length + 7) gs1 0 s1.length), (55, .sl false 3 40 (rows B6.cells a1.D0)), (56, .int .i64 (↑a1.D0.length : Int)), (57, .int .i64 (↑k1 : Int))])
     (fun (gs1 : Nat) (k1 : Nat) (s1 : (List u9)) => st ++ [some (.arr 0 5 0 [[.sl false 2 40 (rows w7.cells a0.hierarchy.types), .sl false 3 32 (rows x9.cells a0.hierarchy.C9), .sl false 10 152 (rows u6.cells a0.rules), .sl false 9 144 (rows w9.cells a0.D0), .sl false 2 32 (rows w8.cells a0.start.nodes)]]), some (.arr 0 4 0 [[.sl false 2 48 (rows w4.cells a1.hierarchy), .sl false 1 24 (rows y5.cells a1.start), .sl false 3 40 (rows y8.cells a1.rules), .sl false 3 40 (rows B6.cells a1.D0)]]), some (.arr 0 5 0 [[.B4, .B4, .B4, .B4, .B4]]), some (.arr 0 2 0 [[.int .i64 0, .int .i64 0]]), none, none, some (.arr gt0 3 40 (rows u7.cells t0)), some (.arr gs1 3 40 (rows u9.cells s1))])
     (fun (gt1 : Nat) (t1 : (List u9)) => [(2, .ptr st.length 0 0 0), (3, .ptr (st.length + 1) 0 0 0), (4, .ptr (st.length + 2) 0 0 0), (5, .ptr (st.length + 3) 0 0 0), (8, .ref false (st.length + 6) gt0 0 t0.length), (11, .ref false (st.length + 7) gt1 0 t1.length)])
     (fun (gt1 : Nat) (t1 : (List u9)) => st ++ [some (.arr 0 5 0 [[.sl false 2 40 (rows w7.cells a0.hierarchy.types), .sl false 3 32 (rows x9.cells a0.hierarchy.C9), .sl false 10 152 (rows u6.cells a0.rules), .sl false 9 144 (rows w9.cells a0.D0), .sl false 2 32 (rows w8.cells a0.start.nodes)]]), some (.arr 0 4 0 [[.sl false 2 48 (rows w4.cells a1.hierarchy), .sl false 1 24 (rows y5.cells a1.start), .sl false 3 40 (rows y8.cells a1.rules), .sl false 3 40 (rows B6.cells a1.D0)]]), some (.arr 0 5 0 [[.B4, .B4, .B4, .B4, .B4]]), some (.arr 0 2 0 [[.int .i64 0, .int .i64 0]]), none, none, some (.arr gt0 3 40 (rows u7.cells t0)), some (.arr gt1 3 40 (rows u9.cells t1))])
     0 h (G0 hsc (.lv (.lv (.lv (.lv (.dead _ _ _ (.dead _ _ _ (.lv (.lv (.nil _))))))))) (by simp) ⟨.s, .s, .s, .s, .s, .s, .s, .s, .s, trivial⟩ (by simp))
     (fun gs1 k1 s1 b1 hk1 h hx1 => ?_) (fun gs1 s1 => ?_) (fun gt1 t1 fr1 st1 h hb => ?_)
    ·unfold jJ at h
     have hw1 : wr .i64 ((↑k1 : Int) + 1) = (↑(k1 + 1) : Int) := gy hk1 hl1 (by decide)
     (repeat apply sq_); apply er_; simp only [go_sem]
     (repeat apply sq_); refine D4 (by rfl) (fun hc => ?_) fun hc => ?_
     ·refine E6 ?_; try simp only [go_sem]
      (repeat apply sq_); refine U8 ?_
      (repeat apply sq_); apply er_; simp only [go_sem, hk1, hw1]
      have e21 : (40 ≤ top) = True := by simp [top]
      obtain ⟨c22, Jt, h⟩ := lD h
      have e23 : rows u9.cells s1 ++ [[.int .i64 ((get a1.D0 k1).keep), .int .i64 ((get a1.D0 k1).drop), .sl false 9 144 (rows w9.cells ((get a1.D0 k1).put))]] = rows u9.cells c22 := by rw [Jt]; first | exact L5 (E := u9.cells) s1 [(u9.mk ((get a1.D0 k1).keep) ((get a1.D0 k1).drop) ((get a1.D0 k1).put))] | simp only [go_sem, rows, List.map_append, List.map_cons, List.map_nil]
      have e24 : s1.length + 1 = c22.length := by rw [Jt]; simp
      obtain ⟨⟨f25, f26⟩, h⟩ := G1 h
      (repeat apply sq_); apply er_; simp only [go_sem, hk1, hw1, f25, f26, e21, e23, e24]
      (repeat apply sq_); apply er_; simp only [go_sem, hk1, hw1, f25, f26]
      cases h
      exact bK (gs1 + 1) (G0 hsc (.lv (.lv (.lv (.lv (.dead _ _ _ (.dead _ _ _ (.lv (.lv (.nil _))))))))) (by simp) ⟨.s, .s, .s, .s, .s, .s, .s, .s, .s, trivial⟩ (by simp))
     ·exfalso; have hc := of_decide_eq_false hc; omega
    ·(repeat apply sq_); apply er_; simp only [go_sem]
     (repeat apply sq_); refine D4 (by rfl) (fun hc => ?_) fun hc => ?_
     ·exfalso; first | exact Bool.noConfusion hc | (have hc := of_decide_eq_true hc; omega)
     ·refine Y2 ?_; simp only [go_sem]
      exact ⟨gs1, (G0 hsc (.lv (.lv (.lv (.lv (.dead _ _ _ (.dead _ _ _ (.lv (.lv (.nil _))))))))) (by simp) ⟨.s, .s, .s, .s, .s, .s, trivial⟩ (by simp))⟩
    ·try simp only [go_sem]
     unfold jO at h
     refine L6 hb ?_
     (repeat apply sq_); apply er_; simp only [go_sem]
     (repeat apply sq_); apply er_; simp only [go_sem]
     (repeat apply sq_); refine fG (t := 74) rfl fun hl2 => ?_
     simp only [eF] at hl2
     (repeat apply sq_); refine arg_ (body := jK a1) (kk := jN n a1 a0 t0 t1) (n := a1.hierarchy.length) (s0 := (a0.hierarchy.types, a0.hierarchy.C9))
      (fun (gs2 : Unit) (k2 : Nat) (s2 : (List w7) × (List x9)) => [(2, .ptr st.length 0 0 0), (3, .ptr (st.length + 1) 0 0 0), (4, .ptr (st.length + 2) 0 0 0), (5, .ptr (st.length + 3) 0 0 0), (8, .ref false (st.length + 6) gt0 0 t0.length), (11, .ref false (st.length + 7) gt1 0 t1.length), (14, .ptr (st.length + 8) 0 0 0), (74, .sl false 2 48 (rows w4.cells a1.hierarchy)), (75, .int .i64 (↑a1.hierarchy.length : Int)), (76, .int .i64 (↑k2 : Int))])
      (fun (gs2 : Unit) (k2 : Nat) (s2 : (List w7) × (List x9)) => st ++ [some (.arr 0 5 0 [[.sl false 2 40 (rows w7.cells a0.hierarchy.types), .sl false 3 32 (rows x9.cells a0.hierarchy.C9), .sl false 10 152 (rows u6.cells a0.rules), .sl false 9 144 (rows w9.cells a0.D0), .sl false 2 32 (rows w8.cells a0.start.nodes)]]), some (.arr 0 4 0 [[.sl false 2 48 (rows w4.cells a1.hierarchy), .sl false 1 24 (rows y5.cells a1.start), .sl false 3 40 (rows y8.cells a1.rules), .sl false 3 40 (rows B6.cells a1.D0)]]), some (.arr 0 5 0 [[.B4, .B4, .B4, .B4, .B4]]), some (.arr 0 2 0 [[.int .i64 0, .int .i64 0]]), none, none, some (.arr gt0 3 40 (rows u7.cells t0)), some (.arr gt1 3 40 (rows u9.cells t1)), some (.arr 0 5 0 [[.sl false 2 40 (rows w7.cells s2.1), .sl false 3 32 (rows x9.cells s2.2), .sl false 10 152 (rows u6.cells a0.rules), .sl false 9 144 (rows w9.cells a0.D0), .sl false 2 32 (rows w8.cells a0.start.nodes)]])])
      (fun (gt2 : Unit) (t2 : (List w7) × (List x9)) => [(2, .ptr st.length 0 0 0), (3, .ptr (st.length + 1) 0 0 0), (4, .ptr (st.length + 2) 0 0 0), (5, .ptr (st.length + 3) 0 0 0), (8, .ref false (st.length + 6) gt0 0 t0.length), (11, .ref false (st.length + 7) gt1 0 t1.length), (14, .ptr (st.length + 8) 0 0 0)])
      (fun (gt2 : Unit) (t2 : (List w7) × (List x9)) => st ++ [some (.arr 0 5 0 [[.sl false 2 40 (rows w7.cells a0.hierarchy.types), .sl false 3 32 (rows x9.cells a0.hierarchy.C9), .sl false 10 152 (rows u6.cells a0.rules), .sl false 9 144 (rows w9.cells a0.D0), .sl false 2 32 (rows w8.cells a0.start.nodes)]]), some (.arr 0 4 0 [[.sl false 2 48 (rows w4.cells a1.hierarchy), .sl false 1 24 (rows y5.cells a1.start), .sl false 3 40 (rows y8.cells a1.rules), .sl false 3 40 (rows B6.cells a1.D0)]]), some (.arr 0 5 0 [[.B4, .B4, .B4, .B4, .B4]]), some (.arr 0 2 0 [[.int .i64 0, .int .i64 0]]), none, none, some (.arr gt0 3 40 (rows u7.cells t0)), some (.arr gt1 3 40 (rows u9.cells t1)), some (.arr 0 5 0 [[.sl false 2 40 (rows w7.cells t2.1), .sl false 3 32 (rows x9.cells t2.2), .sl false 10 152 (rows u6.cells a0.rules), .sl false 9 144 (rows w9.cells a0.D0), .sl false 2 32 (rows w8.cells a0.start.nodes)]])])
      () h (G0 hsc (.lv (.lv (.lv (.lv (.dead _ _ _ (.dead _ _ _ (.lv (.lv (.lv (.nil _)))))))))) (by simp) ⟨.s, .s, .s, .s, .s, .s, .s, .s, .s, .s, trivial⟩ (by simp))
      (fun gs2 k2 s2 b2 hk2 h hx2 => ?_) (fun gs2 s2 => ?_) (fun gt2 t2 fr1 st1 h hb => ?_)
     ·unfold jK at h
      have hw2 : wr .i64 ((↑k2 : Int) + 1) = (↑(k2 + 1) : Int) := gy hk2 hl2 (by decide)
      (repeat apply sq_); apply er_; simp only [go_sem]
      (repeat apply sq_); refine D4 (by rfl) (fun hc => ?_) fun hc => ?_
      ·refine E6 ?_; try simp only [go_sem]
       (repeat apply sq_); refine U8 ?_
       (repeat apply sq_); apply er_; simp only [go_sem, hk2, hw2]
       (repeat apply sq_); apply er_; simp only [go_sem, hk2, hw2]
       (repeat apply sq_); apply er_; simp only [go_sem, hk2, hw2]
       cases h
       exact bK () (G0 hsc (.lv (.lv (.lv (.lv (.dead _ _ _ (.dead _ _ _ (.lv (.lv (.lv (.nil _)))))))))) (by simp) ⟨.s, .s, .s, .s, .s, .s, .s, .s, .s, .s, trivial⟩ (by simp))
      ·exfalso; have hc := of_decide_eq_false hc; omega
     ·(repeat apply sq_); apply er_; simp only [go_sem]
      (repeat apply sq_); refine D4 (by rfl) (fun hc => ?_) fun hc => ?_
      ·exfalso; first | exact Bool.noConfusion hc | (have hc := of_decide_eq_true hc; omega)
      ·refine Y2 ?_; simp only [go_sem]
       exact ⟨(), (G0 hsc (.lv (.lv (.lv (.lv (.dead _ _ _ (.dead _ _ _ (.lv (.lv (.lv (.nil _)))))))))) (by simp) ⟨.s, .s, .s, .s, .s, .s, .s, trivial⟩ (by simp))⟩
     ·try simp only [go_sem]
      unfold jN at h
      refine L6 hb ?_
      (repeat apply sq_); apply er_; simp only [go_sem]
      (repeat apply sq_); refine fG (t := 84) rfl fun hl3 => ?_
      simp only [eF] at hl3
      (repeat apply sq_); refine arg_ (body := jL a1) (kk := jM n a0 t0 t1 t2) (n := a1.start.length) (s0 := a0.start.nodes)
       (fun (gs3 : Unit) (k3 : Nat) (s3 : (List w8)) => [(2, .ptr st.length 0 0 0), (4, .ptr (st.length + 2) 0 0 0), (5, .ptr (st.length + 3) 0 0 0), (8, .ref false (st.length + 6) gt0 0 t0.length), (11, .ref false (st.length + 7) gt1 0 t1.length), (14, .ptr (st.length + 8) 0 0 0), (84, .sl false 1 24 (rows y5.cells a1.start)), (85, .int .i64 (↑a1.start.length : Int)), (86, .int .i64 (↑k3 : Int))])
       (fun (gs3 : Unit) (k3 : Nat) (s3 : (List w8)) => st ++ [some (.arr 0 5 0 [[.sl false 2 40 (rows w7.cells a0.hierarchy.types), .sl false 3 32 (rows x9.cells a0.hierarchy.C9), .sl false 10 152 (rows u6.cells a0.rules), .sl false 9 144 (rows w9.cells a0.D0), .sl false 2 32 (rows w8.cells a0.start.nodes)]]), none, some (.arr 0 5 0 [[.B4, .B4, .B4, .B4, .B4]]), some (.arr 0 2 0 [[.int .i64 0, .int .i64 0]]), none, none, some (.arr gt0 3 40 (rows u7.cells t0)), some (.arr gt1 3 40 (rows u9.cells t1)), some (.arr 0 5 0 [[.sl false 2 40 (rows w7.cells t2.1), .sl false 3 32 (rows x9.cells t2.2), .sl false 10 152 (rows u6.cells a0.rules), .sl false 9 144 (rows w9.cells a0.D0), .sl false 2 32 (rows w8.cells s3)]])])
       (fun (gt3 : Unit) (t3 : (List w8)) => [(2, .ptr st.length 0 0 0), (4, .ptr (st.length + 2) 0 0 0), (5, .ptr (st.length + 3) 0 0 0), (8, .ref false (st.length + 6) gt0 0 t0.length), (11, .ref false (st.length + 7) gt1 0 t1.length), (14, .ptr (st.length + 8) 0 0 0)])
       (fun (gt3 : Unit) (t3 : (List w8)) => st ++ [some (.arr 0 5 0 [[.sl false 2 40 (rows w7.cells a0.hierarchy.types), .sl false 3 32 (rows x9.cells a0.hierarchy.C9), .sl false 10 152 (rows u6.cells a0.rules), .sl false 9 144 (rows w9.cells a0.D0), .sl false 2 32 (rows w8.cells a0.start.nodes)]]), none, some (.arr 0 5 0 [[.B4, .B4, .B4, .B4, .B4]]), some (.arr 0 2 0 [[.int .i64 0, .int .i64 0]]), none, none, some (.arr gt0 3 40 (rows u7.cells t0)), some (.arr gt1 3 40 (rows u9.cells t1)), some (.arr 0 5 0 [[.sl false 2 40 (rows w7.cells t2.1), .sl false 3 32 (rows x9.cells t2.2), .sl false 10 152 (rows u6.cells a0.rules), .sl false 9 144 (rows w9.cells a0.D0), .sl false 2 32 (rows w8.cells t3)]])])
       () h (G0 hsc (.lv (.dead _ _ _ (.lv (.lv (.dead _ _ _ (.dead _ _ _ (.lv (.lv (.lv (.nil _)))))))))) (by simp) ⟨.s, .s, .s, .s, .s, .s, .s, .s, .s, trivial⟩ (by simp))
       (fun gs3 k3 s3 b3 hk3 h hx3 => ?_) (fun gs3 s3 => ?_) (fun gt3 t3 fr1 st1 h hb => ?_)
      ·unfold jL at h
       have hw3 : wr .i64 ((↑k3 : Int) + 1) = (↑(k3 + 1) : Int) := gy hk3 hl3 (by decide)
       (repeat apply sq_); apply er_; simp only [go_sem]
       (repeat apply sq_); refine D4 (by rfl) (fun hc => ?_) fun hc => ?_
       ·refine E6 ?_; try simp only [go_sem]
        (repeat apply sq_); refine U8 ?_
        (repeat apply sq_); apply er_; simp only [go_sem, hk3, hw3]
        (repeat apply sq_); apply er_; simp only [go_sem, hk3, hw3]
        (repeat apply sq_); apply er_; simp only [go_sem, hk3, hw3]
        cases h
        exact bK () (G0 hsc (.lv (.dead _ _ _ (.lv (.lv (.dead _ _ _ (.dead _ _ _ (.lv (.lv (.lv (.nil _)))))))))) (by simp) ⟨.s, .s, .s, .s, .s, .s, .s, .s, .s, trivial⟩ (by simp))
       ·exfalso; have hc := of_decide_eq_false hc; omega
      ·(repeat apply sq_); apply er_; simp only [go_sem]
       (repeat apply sq_); refine D4 (by rfl) (fun hc => ?_) fun hc => ?_
       ·exfalso; first | exact Bool.noConfusion hc | (have hc := of_decide_eq_true hc; omega)
       ·refine Y2 ?_; simp only [go_sem]
        exact ⟨(), (G0 hsc (.lv (.dead _ _ _ (.lv (.lv (.dead _ _ _ (.dead _ _ _ (.lv (.lv (.lv (.nil _)))))))))) (by simp) ⟨.s, .s, .s, .s, .s, .s, trivial⟩ (by simp))⟩
      ·try simp only [go_sem]
       unfold jM at h
       refine L6 hb ?_
       (repeat apply sq_); apply er_; simp only [go_sem]
       (repeat apply sq_); apply er_; simp only [go_sem]
       obtain ⟨v27, hv27, h⟩ := C6 h
       refine (kF _ _ _ hv27 _ _ gt0 (by simp) (Y0.trans rfl)).mono ?_
       rintro d1 st1 ⟨rfl, rfl⟩
       try simp only [go_sem]
       (repeat apply sq_); apply er_; simp only [go_sem]
       obtain ⟨v28, hv28, h⟩ := C6 h
       refine (lA _ _ _ hv28 _ _ gt1 (by simp) (Y0.trans rfl)).mono ?_
       rintro d1 st1 ⟨rfl, rfl⟩
       try simp only [go_sem]
       (repeat apply sq_); apply er_; simp only [go_sem]
       (repeat apply sq_); refine D4 (by rfl) (fun hc => ?_) fun hc => ?_
       ·replace h := B0 h (by first | exact hc | simpa using hc)
        (repeat apply sq_); apply er_; simp only [go_sem]
        obtain ⟨v29, hv29, h⟩ := C6 h
        refine ((eD _ _ _ hv29)).to ?_
        try simp only [go_sem]
        (repeat apply sq_); refine E3 ?_
        try simp only [go_sem]
        have hr := Option.some.inj h
        refine E4 ?_; simp only [go_sem]
        exact y3 (d' := .tup [.agg [.sl false 2 40 (rows w7.cells []), .sl false 3 32 (rows x9.cells []), .sl false 10 152 (rows u6.cells []), .sl false 9 144 (rows w9.cells []), .sl false 2 32 (rows w8.cells [])], .agg [.int .i64 v29.code, .int .i64 v29.index]]) hsc (.tup _ _ (.cons _ _ _ _ (.agg _ _ (.cons _ _ _ _ (.B4 _ _ _ (by decide)) (.cons _ _ _ _ (.B4 _ _ _ (by decide)) (.cons _ _ _ _ (.B4 _ _ _ (by decide)) (.cons _ _ _ _ (.B4 _ _ _ (by decide)) (.cons _ _ _ _ (.B4 _ _ _ (by decide)) .nil)))))) (.cons _ _ _ _ .s .nil)) rfl) (by simp) ⟨by subst hr; rfl, rfl⟩
       ·replace h := B1 h (by first | exact hc | simpa using hc)
        refine E6 ?_; try simp only [go_sem]
        (repeat apply sq_); apply er_; simp only [go_sem]
        obtain ⟨v30, hv30, h⟩ := C6 h
        refine ((dA n _ _ hv30)).to ?_
        try simp only [go_sem]
        (repeat apply sq_); apply er_; simp only [go_sem]
        (repeat apply sq_); refine D4 (by rfl) (fun hc => ?_) fun hc => ?_
        ·replace h := B0 h (by first | exact hc | simpa using hc)
         (repeat apply sq_); apply er_; simp only [go_sem]
         obtain ⟨v31, hv31, h⟩ := C6 h
         refine ((eD _ _ _ hv31)).to ?_
         try simp only [go_sem]
         (repeat apply sq_); refine E3 ?_
         try simp only [go_sem]
         have hr := Option.some.inj h
         refine E4 ?_; simp only [go_sem]
         exact y3 (d' := .tup [.agg [.sl false 2 40 (rows w7.cells []), .sl false 3 32 (rows x9.cells []), .sl false 10 152 (rows u6.cells []), .sl false 9 144 (rows w9.cells []), .sl false 2 32 (rows w8.cells [])], .agg [.int .i64 v31.code, .int .i64 v31.index]]) hsc (.tup _ _ (.cons _ _ _ _ (.agg _ _ (.cons _ _ _ _ (.B4 _ _ _ (by decide)) (.cons _ _ _ _ (.B4 _ _ _ (by decide)) (.cons _ _ _ _ (.B4 _ _ _ (by decide)) (.cons _ _ _ _ (.B4 _ _ _ (by decide)) (.cons _ _ _ _ (.B4 _ _ _ (by decide)) .nil)))))) (.cons _ _ _ _ .s .nil)) rfl) (by simp) ⟨by subst hr; rfl, rfl⟩
        ·replace h := B1 h (by first | exact hc | simpa using hc)
         refine E6 ?_; try simp only [go_sem]
         (repeat apply sq_); apply er_; simp only [go_sem]
         obtain ⟨v32, hv32, h⟩ := C6 h
         refine ((vd n _ _ hv32)).to ?_
         try simp only [go_sem]
         (repeat apply sq_); refine E3 ?_
         try simp only [go_sem]
         have hr := Option.some.inj h
         refine E4 ?_; simp only [go_sem]
         exact y3 (d' := .tup [.agg [.sl false 2 40 (rows w7.cells v32.hierarchy.types), .sl false 3 32 (rows x9.cells v32.hierarchy.C9), .sl false 10 152 (rows u6.cells v32.rules), .sl false 9 144 (rows w9.cells v32.D0), .sl false 2 32 (rows w8.cells v32.start.nodes)], .agg [.int .i64 0, .int .i64 0]]) hsc (.same _) (by simp) ⟨by subst hr; rfl, rfl⟩
end Go.Proofs.YtaohdfpcdfbnlaaGreatDoor
