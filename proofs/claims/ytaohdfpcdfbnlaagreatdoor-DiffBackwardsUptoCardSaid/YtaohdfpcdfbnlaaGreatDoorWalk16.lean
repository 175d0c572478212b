import Derived.Test.YtaohdfpcdfbnlaaGreatDoorBase
import Derived.Test.YtaohdfpcdfbnlaaGreatDoorHand
import Derived.Test.YtaohdfpcdfbnlaaGreatDoorMirrors
import Derived.Test.YtaohdfpcdfbnlaaGreatDoorWalk10
import Derived.Test.YtaohdfpcdfbnlaaGreatDoorWalk11
import Derived.Test.YtaohdfpcdfbnlaaGreatDoorWalk13
import Derived.Test.YtaohdfpcdfbnlaaGreatDoorWalk9
import Derived.Test.YtaohdfpcdfbnlaaGreatDoorWalk14
import Derived.Test.YtaohdfpcdfbnlaaGreatDoorWalk15
set_option linter.unusedVariables false
set_option linter.unusedSimpArgs false
set_option maxHeartbeats 2000000
set_option maxRecDepth 100000
namespace Go.Proofs.YtaohdfpcdfbnlaaGreatDoor
open Go Go.Am
theorem kY (a0 : (List w9)) (l0 : (List u9)) (r : (List w9) × Bool) (h : eG a0 l0 = some r) : ∀ (st : St) (o0 q0 : Nat) (hnd : [o0].Nodup) (iX : Am.look st o0 = some (.arr q0 3 40 (rows u9.cells l0))), Am.Spec Tryz.prog gl 35 [.sl false 9 144 (rows w9.cells a0), .ref false o0 q0 0 l0.length] st (fun d st' => d = .tup [.sl false 9 144 (rows w9.cells r.1), .bool r.2] ∧ st' = puts st []) := by
 intro st o0 q0 hnd iX
 unfold eG at h
 have ho0 := fH iX
 refine O4 (N := 52) (rs := [.tmp 4, .tmp 5]) (keep := [0, 1, 4, 5, 6, 7, 9, 10, 11, 12, 13, 25]) Tryz.func35 rfl rfl rfl (by kernel_rfl) rfl fun hsc => ?_
 refine pD (s' := (fZ st [(o0, (.arr q0 3 40 (rows u9.cells l0)))])) (L6 (by simp [iX])) ?_
 (repeat apply sq_); apply er_; simp only [go_sem, C4 ho0, x6 ho0, C2 ho0, x5 ho0]
 (repeat apply sq_); apply er_; simp only [go_sem, C4 ho0, x6 ho0, C2 ho0, x5 ho0]
 (repeat apply sq_); apply er_; simp only [go_sem, C4 ho0, x6 ho0, C2 ho0, x5 ho0]
 (repeat apply sq_); apply er_; simp only [go_sem, C4 ho0, x6 ho0, C2 ho0, x5 ho0]
 (repeat apply sq_); refine Z1 9 144 ?_
 try simp only [List.append_assoc, List.cons_append, List.nil_append]
 refine L5 (F := [(0, .sl false 9 144 (rows w9.cells a0)), (6, .ref false st.length 0 0 0), (7, .int .i64 0), (10, .ref false o0 q0 0 l0.length), (11, .int .i64 (↑l0.length : Int)), (12, .int .i64 0)]) (T := (fZ st [(o0, (.arr q0 3 40 (rows u9.cells l0)))]) ++ [some (.arr 0 9 144 (rows w9.cells []))]) (nE (by simp) (G2 hsc (by simp <;> omega)) (.lv (.nil _)) (by simp <;> omega) ⟨.s, .nref _ _ _ _ _ _ (kc.trans rfl), .s, .s, .s, .s, trivial⟩ (by simp <;> omega)) ?_
 obtain ⟨f1, h⟩ := G1 h
 (repeat apply sq_); refine arg_ (body := cw a0 l0) (kk := cx a0) (n := l0.length) (s0 := ([], 0))
  (fun (gs0 : Nat) (k0 : Nat) (s0 : (List w9) × Int) => [(0, .sl false 9 144 (rows w9.cells a0)), (6, .ref false st.length gs0 0 s0.1.length), (7, .int .i64 s0.2), (10, .ref false o0 q0 0 l0.length), (11, .int .i64 (↑l0.length : Int)), (12, .int .i64 (↑k0 : Int))])
  (fun (gs0 : Nat) (k0 : Nat) (s0 : (List w9) × Int) => (fZ st [(o0, (.arr q0 3 40 (rows u9.cells l0)))]) ++ [some (.arr gs0 9 144 (rows w9.cells s0.1))])
  (fun (gt0 : Nat) (t0 : (List w9) × Int) => [(0, .sl false 9 144 (rows w9.cells a0)), (6, .ref false st.length gt0 0 t0.1.length), (7, .int .i64 t0.2)])
  (fun (gt0 : Nat) (t0 : (List w9) × Int) => (fZ st [(o0, (.arr q0 3 40 (rows u9.cells l0)))]) ++ [some (.arr gt0 9 144 (rows w9.cells t0.1))])
  0 h (nE (by simp) (G2 hsc (by simp <;> omega)) (.lv (.nil _)) (by simp <;> omega) ⟨.s, .s, .s, .s, .s, .s, trivial⟩ (by simp <;> omega))
  (fun gs0 k0 s0 b0 hk0 h hx0 => ?_) (fun gs0 s0 => ?_) (fun gt0 t0 fr1 st1 h hb => ?_)
 ·unfold cw at h
  have hw0 : wr .i64 ((↑k0 : Int) + 1) = (↑(k0 + 1) : Int) := nN hk0 f1
  (repeat apply sq_); apply er_; simp only [go_sem, C4 ho0, x6 ho0, C2 ho0, x5 ho0, f1]
  (repeat apply sq_); refine D4 (by rfl) (fun hc => ?_) fun hc => ?_
  ·refine E8 ?_; try simp only [go_sem, C4 ho0, x6 ho0, C2 ho0, x5 ho0, f1]
   (repeat apply sq_); refine U3 ?_
   have e18 : (rows u9.cells l0).getD k0 [] = u9.cells (get l0 k0) := uO (E := u9.cells) (l := l0) (k := k0) (by first | omega | (simp; omega))
   have e19 : k0 < l0.length := by first | omega | (simp; omega)
   (repeat apply sq_); apply er_; simp only [go_sem, C4 ho0, x6 ho0, C2 ho0, x5 ho0, f1, hk0, hw0, e18, e19]
   (repeat apply sq_); apply er_; simp only [go_sem, C4 ho0, x6 ho0, C2 ho0, x5 ho0, f1, hk0, hw0]
   (repeat apply sq_); refine D4 (by rfl) (fun hc => ?_) fun hc => ?_
   ·replace h := B0 h (by first | exact hc | simpa using hc)
    (repeat apply sq_); apply er_; simp only [go_sem, C4 ho0, x6 ho0, C2 ho0, x5 ho0, f1, hk0, hw0]
    (repeat apply sq_); refine E3 ?_
    try simp only [go_sem, C4 ho0, x6 ho0, C2 ho0, x5 ho0, f1, hk0, hw0]
    obtain rfl := Option.some.inj h
    refine F9 ?_; have hr := hx0 _ rfl; try simp only [go_sem, C4 ho0, x6 ho0, C2 ho0, x5 ho0, f1, hk0, hw0]
    refine E4 ?_; simp only [go_sem, C4 ho0, x6 ho0, C2 ho0, x5 ho0, f1, hk0, hw0]
    exact J2 (d' := .tup [.sl false 9 144 (rows w9.cells []), .bool false]) (by simp) (G2 hsc (by simp <;> omega)) (.tup _ _ (.cons _ _ _ _ (.B4 _ _ _ (by decide)) (.cons _ _ _ _ .s .nil)) rfl) (by simp <;> omega) ⟨by subst hr; rfl, by exact L6 (by simp [iX])⟩
   ·replace h := B1 h (by first | exact hc | simpa using hc)
    refine E8 ?_; try simp only [go_sem, C4 ho0, x6 ho0, C2 ho0, x5 ho0, f1, hk0, hw0]
    obtain ⟨⟨f20, f21, f22, f23⟩, h⟩ := G1 h
    obtain ⟨c24, Gw, h⟩ := lf h
    have e25 : rows w9.cells s0.1 ++ rows w9.cells ((a0.drop s0.2.toNat).take ((wr .i64 (s0.2 + ((get l0 k0).keep))).toNat - s0.2.toNat)) = rows w9.cells c24 := by rw [Gw]; first | exact L4 (E := w9.cells) s0.1 ((a0.drop s0.2.toNat).take ((wr .i64 (s0.2 + ((get l0 k0).keep))).toNat - s0.2.toNat)) | simp only [go_sem, rows, List.map_append, List.map_cons, List.map_nil]
    have e26 : s0.1.length + ((a0.drop s0.2.toNat).take ((wr .i64 (s0.2 + ((get l0 k0).keep))).toNat - s0.2.toNat)).length = c24.length := by rw [Gw]; simp
    obtain ⟨⟨f27, f28⟩, h⟩ := G1 h
    (repeat apply sq_); apply er_; simp only [go_sem, C4 ho0, x6 ho0, C2 ho0, x5 ho0, f1, hk0, hw0, f20, f21, f22, f23, f27, f28, e25, e26]
    obtain ⟨c29, Gx, h⟩ := lf h
    have e30 : rows w9.cells c24 ++ rows w9.cells ((get l0 k0).put) = rows w9.cells c29 := by rw [Gx]; first | exact L4 (E := w9.cells) c24 ((get l0 k0).put) | simp only [go_sem, rows, List.map_append, List.map_cons, List.map_nil]
    have e31 : c24.length + ((get l0 k0).put).length = c29.length := by rw [Gx]; simp
    obtain ⟨⟨f32, f33⟩, h⟩ := G1 h
    (repeat apply sq_); apply er_; simp only [go_sem, C4 ho0, x6 ho0, C2 ho0, x5 ho0, f1, hk0, hw0, f20, f21, f22, f23, f27, f28, f32, f33, e30, e31]
    (repeat apply sq_); apply er_; simp only [go_sem, C4 ho0, x6 ho0, C2 ho0, x5 ho0, f1, hk0, hw0, f20, f21, f22, f23, f27, f28, f32, f33]
    (repeat apply sq_); apply er_; simp only [go_sem, C4 ho0, x6 ho0, C2 ho0, x5 ho0, f1, hk0, hw0, f20, f21, f22, f23, f27, f28, f32, f33]
    cases h
    exact bE ((gs0 + 1) + 1) (nE (by simp) (G2 hsc (by simp <;> omega)) (.lv (.nil _)) (by simp <;> omega) ⟨.s, .s, .s, .s, .s, .s, trivial⟩ (by simp <;> omega))
  ·exfalso; have hc := of_decide_eq_false hc; omega
 ·(repeat apply sq_); apply er_; simp only [go_sem, C4 ho0, x6 ho0, C2 ho0, x5 ho0, f1]
  (repeat apply sq_); refine D4 (by rfl) (fun hc => ?_) fun hc => ?_
  ·exfalso; first | exact Bool.noConfusion hc | (have hc := of_decide_eq_true hc; omega)
  ·refine X6 ?_; simp only [go_sem, C4 ho0, x6 ho0, C2 ho0, x5 ho0, f1]
   exact ⟨gs0, (nE (by simp) (G2 hsc (by simp <;> omega)) (.lv (.nil _)) (by simp <;> omega) ⟨.s, .s, .s, trivial⟩ (by simp <;> omega))⟩
 ·try simp only [go_sem, C4 ho0, x6 ho0, C2 ho0, x5 ho0, f1]
  unfold cx at h
  refine L5 hb ?_
  (repeat apply sq_); apply er_; simp only [go_sem, C4 ho0, x6 ho0, C2 ho0, x5 ho0, f1]
  (repeat apply sq_); refine E3 ?_
  try simp only [go_sem, C4 ho0, x6 ho0, C2 ho0, x5 ho0, f1]
  have hr := Option.some.inj h
  refine E4 ?_; simp only [go_sem, C4 ho0, x6 ho0, C2 ho0, x5 ho0, f1]
  exact J2 (d' := .tup [.sl false 9 144 (rows w9.cells t0.1), .bool (decide (t0.2 = (↑a0.length : Int)))]) (by simp) (G2 hsc (by simp <;> omega)) (.tup _ _ (.cons _ _ _ _ (.ref _ _ _ _ _ _ _ _ _ (kc.trans rfl) qQ (by decide) (kh _) (by simp only [go_sem])) (.cons _ _ _ _ .s .nil)) rfl) (by simp <;> omega) ⟨by subst hr; rfl, by exact L6 (by simp [iX])⟩
theorem uL (n : Nat) (a0 : x7) (r : x7) (h : pL n a0 = some r) : Pure Tryz.prog gl 37 [.agg [.sl false 2 40 (rows w7.cells a0.hierarchy.types), .sl false 3 32 (rows x9.cells a0.hierarchy.C9), .sl false 10 152 (rows u6.cells a0.rules), .sl false 9 144 (rows w9.cells a0.D0), .sl false 2 32 (rows w8.cells a0.start.nodes)]] (.agg [.sl false 2 40 (rows w7.cells r.hierarchy.types), .sl false 3 32 (rows x9.cells r.hierarchy.C9), .sl false 10 152 (rows u6.cells r.rules), .sl false 9 144 (rows w9.cells r.D0), .sl false 2 32 (rows w8.cells r.start.nodes)]) := by
 intro st
 unfold pL at h
 refine O4 (N := 46) (rs := [.cell 2 32]) (keep := [0, 1, 2, 3, 5, 7, 16, 17, 18, 19, 31, 32, 33, 34]) Tryz.func37 rfl rfl rfl (by kernel_rfl) rfl fun hsc => ?_
 (repeat apply sq_); apply er_; simp only [go_sem]
 (repeat apply sq_); refine Z9 [] 1 follows (by kernel_rfl) (by rfl) ?_; simp only [go_sem, List.replicate_succ, List.replicate_zero]
 obtain ⟨v1, hv1, h⟩ := C7 h
 refine A0 (dU _ _ hv1) ?_
 try simp only [go_sem]
 obtain ⟨v2, hv2, h⟩ := C7 h
 refine A0 (bA _ _ hv2) ?_
 try simp only [go_sem]
 (repeat apply sq_); apply er_; simp only [go_sem]
 (repeat apply sq_); refine Z1 10 152 ?_
 try simp only [List.append_assoc, List.cons_append, List.nil_append]
 refine L5 (F := [(1, .ptr st.length 0 0 0), (2, .ptr (st.length + 1) 0 0 0), (3, .ptr (st.length + 2) 0 0 0), (16, .sl false 10 152 (rows u6.cells a0.rules)), (17, .int .i64 (↑a0.rules.length : Int)), (18, .int .i64 0)]) (T := st ++ [some (.arr 0 5 0 [[.sl false 2 40 (rows w7.cells a0.hierarchy.types), .sl false 3 32 (rows x9.cells a0.hierarchy.C9), .sl false 10 152 (rows u6.cells a0.rules), .sl false 9 144 (rows w9.cells a0.D0), .sl false 2 32 (rows w8.cells a0.start.nodes)]]), some (.arr 0 5 0 [[.B4, .B4, .B4, .B4, .B4]]), some (.arr 0 5 0 [[.sl false 2 40 (rows w7.cells v1.types), .sl false 3 32 (rows x9.cells v1.C9), .ref false (st.length + 3) 0 0 0, .B4, .sl false 2 32 (rows w8.cells v2.nodes)]]), some (.arr 0 10 152 (rows u6.cells []))]) (G0 hsc (.lv (.lv (.live _ _ _ _ (.arr _ _ _ _ _ (.cons _ _ _ _ (.cons _ _ _ _ .s (.cons _ _ _ _ .s (.cons _ _ _ _ (.nref _ _ _ _ _ _ (dz.trans rfl)) (.cons _ _ _ _ .s (.cons _ _ _ _ .s .nil))))) (.same _))) (.lv (.nil _))))) (by simp) ⟨.s, .s, .s, .s, .s, .s, trivial⟩ (by simp)) ?_
 (repeat apply sq_); refine ft (t := 16) rfl fun hl0 => ?_
 simp only [dX] at hl0
 (repeat apply sq_); refine arg_ (body := jw n a0) (kk := jz n a0 v1 v2) (n := a0.rules.length) (s0 := [])
  (fun (gs0 : Nat) (k0 : Nat) (s0 : (List u6)) => [(1, .ptr st.length 0 0 0), (2, .ptr (st.length + 1) 0 0 0), (3, .ptr (st.length + 2) 0 0 0), (16, .sl false 10 152 (rows u6.cells a0.rules)), (17, .int .i64 (↑a0.rules.length : Int)), (18, .int .i64 (↑k0 : Int))])
  (fun (gs0 : Nat) (k0 : Nat) (s0 : (List u6)) => st ++ [some (.arr 0 5 0 [[.sl false 2 40 (rows w7.cells a0.hierarchy.types), .sl false 3 32 (rows x9.cells a0.hierarchy.C9), .sl false 10 152 (rows u6.cells a0.rules), .sl false 9 144 (rows w9.cells a0.D0), .sl false 2 32 (rows w8.cells a0.start.nodes)]]), some (.arr 0 5 0 [[.B4, .B4, .B4, .B4, .B4]]), some (.arr 0 5 0 [[.sl false 2 40 (rows w7.cells v1.types), .sl false 3 32 (rows x9.cells v1.C9), .ref false (st.length + 3) gs0 0 s0.length, .B4, .sl false 2 32 (rows w8.cells v2.nodes)]]), some (.arr gs0 10 152 (rows u6.cells s0))])
  (fun (gt0 : Nat) (t0 : (List u6)) => [(1, .ptr st.length 0 0 0), (2, .ptr (st.length + 1) 0 0 0), (3, .ptr (st.length + 2) 0 0 0)])
  (fun (gt0 : Nat) (t0 : (List u6)) => st ++ [some (.arr 0 5 0 [[.sl false 2 40 (rows w7.cells a0.hierarchy.types), .sl false 3 32 (rows x9.cells a0.hierarchy.C9), .sl false 10 152 (rows u6.cells a0.rules), .sl false 9 144 (rows w9.cells a0.D0), .sl false 2 32 (rows w8.cells a0.start.nodes)]]), some (.arr 0 5 0 [[.B4, .B4, .B4, .B4, .B4]]), some (.arr 0 5 0 [[.sl false 2 40 (rows w7.cells v1.types), .sl false 3 32 (rows x9.cells v1.C9), .ref false (st.length + 3) gt0 0 t0.length, .B4, .sl false 2 32 (rows w8.cells v2.nodes)]]), some (.arr gt0 10 152 (rows u6.cells t0))])
  0 h (G0 hsc (.lv (.lv (.lv (.lv (.nil _))))) (by simp) ⟨.s, .s, .s, .s, .s, .s, trivial⟩ (by simp))
  (fun gs0 k0 s0 b0 hk0 h hx0 => ?_) (fun gs0 s0 => ?_) (fun gt0 t0 fr1 st1 h hb => ?_)
 ·unfold jw at h
  have hw0 : wr .i64 ((↑k0 : Int) + 1) = (↑(k0 + 1) : Int) := ga hk0 hl0 (by decide)
  (repeat apply sq_); apply er_; simp only [go_sem]
  (repeat apply sq_); refine D4 (by rfl) (fun hc => ?_) fun hc => ?_
  ·refine E8 ?_; try simp only [go_sem]
   (repeat apply sq_); refine U3 ?_
   (repeat apply sq_); apply er_; simp only [go_sem, hk0, hw0]
   (repeat apply sq_); refine Z9 [] 2 follows (by kernel_rfl) (by rfl) ?_; simp only [go_sem, List.replicate_succ, List.replicate_zero, hk0, hw0]
   obtain ⟨v10, hv10, h⟩ := C7 h
   refine A0 (iV n _ _ hv10) ?_
   have e11 : (152 ≤ top) = True := by simp [top]
   obtain ⟨c12, Ji, h⟩ := lf h
   have e13 : rows u6.cells s0 ++ [[.str v10.name, .sl false 2 32 (rows w8.cells v10.graph.nodes), .int .i64 v10.kids, .int .i64 v10.weight, .int .i64 v10.meaning.kind, .str v10.meaning.name, .int .i64 v10.meaning.index, .str v10.meaning.type.base, .sl false 2 40 (rows u0.cells v10.meaning.type.args), .sl false 6 96 (rows w5.cells v10.meaning.args)]] = rows u6.cells c12 := by rw [Ji]; first | exact L4 (E := u6.cells) s0 [v10] | simp only [go_sem, rows, List.map_append, List.map_cons, List.map_nil]
   have e14 : s0.length + 1 = c12.length := by rw [Ji]; simp
   obtain ⟨⟨f15, f16⟩, h⟩ := G1 h
   try simp only [go_sem, hk0, hw0, f15, f16, e11, e13, e14]
   (repeat apply sq_); apply er_; simp only [go_sem, hk0, hw0, f15, f16]
   cases h
   exact bE (gs0 + 1) (G0 hsc (.lv (.lv (.lv (.lv (.nil _))))) (by simp) ⟨.s, .s, .s, .s, .s, .s, trivial⟩ (by simp))
  ·exfalso; have hc := of_decide_eq_false hc; omega
 ·(repeat apply sq_); apply er_; simp only [go_sem]
  (repeat apply sq_); refine D4 (by rfl) (fun hc => ?_) fun hc => ?_
  ·exfalso; first | exact Bool.noConfusion hc | (have hc := of_decide_eq_true hc; omega)
  ·refine X6 ?_; simp only [go_sem]
   exact ⟨gs0, (G0 hsc (.lv (.lv (.lv (.lv (.nil _))))) (by simp) ⟨.s, .s, .s, trivial⟩ (by simp))⟩
 ·try simp only [go_sem]
  unfold jz at h
  refine L5 hb ?_
  (repeat apply sq_); apply er_; simp only [go_sem]
  (repeat apply sq_); refine Z1 9 144 ?_
  try simp only [List.append_assoc, List.cons_append, List.nil_append]
  refine L5 (F := [(2, .ptr (st.length + 1) 0 0 0), (3, .ptr (st.length + 2) 0 0 0), (31, .sl false 9 144 (rows w9.cells a0.D0)), (32, .int .i64 (↑a0.D0.length : Int)), (33, .int .i64 0)]) (T := st ++ [some (.arr 0 5 0 [[.sl false 2 40 (rows w7.cells a0.hierarchy.types), .sl false 3 32 (rows x9.cells a0.hierarchy.C9), .sl false 10 152 (rows u6.cells a0.rules), .sl false 9 144 (rows w9.cells a0.D0), .sl false 2 32 (rows w8.cells a0.start.nodes)]]), some (.arr 0 5 0 [[.B4, .B4, .B4, .B4, .B4]]), some (.arr 0 5 0 [[.sl false 2 40 (rows w7.cells v1.types), .sl false 3 32 (rows x9.cells v1.C9), .ref false (st.length + 3) gt0 0 t0.length, .ref false (st.length + 4) 0 0 0, .sl false 2 32 (rows w8.cells v2.nodes)]]), some (.arr gt0 10 152 (rows u6.cells t0)), some (.arr 0 9 144 (rows w9.cells []))]) (G0 hsc (.lv (.lv (.live _ _ _ _ (.arr _ _ _ _ _ (.cons _ _ _ _ (.cons _ _ _ _ .s (.cons _ _ _ _ .s (.cons _ _ _ _ .s (.cons _ _ _ _ (.nref _ _ _ _ _ _ (dz.trans rfl)) (.cons _ _ _ _ .s .nil))))) (.same _))) (.lv (.lv (.nil _)))))) (by simp) ⟨.s, .s, .s, .s, .s, trivial⟩ (by simp)) ?_
  (repeat apply sq_); refine ft (t := 31) rfl fun hl1 => ?_
  simp only [dX] at hl1
  (repeat apply sq_); refine arg_ (body := jx n a0) (kk := jy v1 t0 v2) (n := a0.D0.length) (s0 := [])
   (fun (gs1 : Nat) (k1 : Nat) (s1 : (List w9)) => [(2, .ptr (st.length + 1) 0 0 0), (3, .ptr (st.length + 2) 0 0 0), (31, .sl false 9 144 (rows w9.cells a0.D0)), (32, .int .i64 (↑a0.D0.length : Int)), (33, .int .i64 (↑k1 : Int))])
   (fun (gs1 : Nat) (k1 : Nat) (s1 : (List w9)) => st ++ [none, some (.arr 0 5 0 [[.B4, .B4, .B4, .B4, .B4]]), some (.arr 0 5 0 [[.sl false 2 40 (rows w7.cells v1.types), .sl false 3 32 (rows x9.cells v1.C9), .ref false (st.length + 3) gt0 0 t0.length, .ref false (st.length + 4) gs1 0 s1.length, .sl false 2 32 (rows w8.cells v2.nodes)]]), some (.arr gt0 10 152 (rows u6.cells t0)), some (.arr gs1 9 144 (rows w9.cells s1))])
   (fun (gt1 : Nat) (t1 : (List w9)) => [(2, .ptr (st.length + 1) 0 0 0), (3, .ptr (st.length + 2) 0 0 0)])
   (fun (gt1 : Nat) (t1 : (List w9)) => st ++ [none, some (.arr 0 5 0 [[.B4, .B4, .B4, .B4, .B4]]), some (.arr 0 5 0 [[.sl false 2 40 (rows w7.cells v1.types), .sl false 3 32 (rows x9.cells v1.C9), .ref false (st.length + 3) gt0 0 t0.length, .ref false (st.length + 4) gt1 0 t1.length, .sl false 2 32 (rows w8.cells v2.nodes)]]), some (.arr gt0 10 152 (rows u6.cells t0)), some (.arr gt1 9 144 (rows w9.cells t1))])
   0 h (G0 hsc (.dead _ _ _ (.lv (.lv (.lv (.lv (.nil _)))))) (by simp) ⟨.s, .s, .s, .s, .s, trivial⟩ (by simp))
   (fun gs1 k1 s1 b1 hk1 h hx1 => ?_) (fun gs1 s1 => ?_) (fun gt1 t1 fr1 st1 h hb => ?_)
  ·unfold jx at h
   have hw1 : wr .i64 ((↑k1 : Int) + 1) = (↑(k1 + 1) : Int) := ga hk1 hl1 (by decide)
   (repeat apply sq_); apply er_; simp only [go_sem]
   (repeat apply sq_); refine D4 (by rfl) (fun hc => ?_) fun hc => ?_
   ·refine E8 ?_; try simp only [go_sem]
    (repeat apply sq_); refine U3 ?_
    (repeat apply sq_); apply er_; simp only [go_sem, hk1, hw1]
    (repeat apply sq_); refine Z9 [] 2 follows (by kernel_rfl) (by rfl) ?_; simp only [go_sem, List.replicate_succ, List.replicate_zero, hk1, hw1]
    obtain ⟨v24, hv24, h⟩ := C7 h
    refine A0 (jN n _ _ hv24) ?_
    have e25 : (144 ≤ top) = True := by simp [top]
    obtain ⟨c26, Jj, h⟩ := lf h
    have e27 : rows w9.cells s1 ++ [[.str v24.word, .sl false 2 32 (rows w8.cells v24.graph.nodes), .int .i64 v24.weight, .int .i64 v24.meaning.kind, .str v24.meaning.name, .int .i64 v24.meaning.index, .str v24.meaning.type.base, .sl false 2 40 (rows u0.cells v24.meaning.type.args), .sl false 6 96 (rows w5.cells v24.meaning.args)]] = rows w9.cells c26 := by rw [Jj]; first | exact L4 (E := w9.cells) s1 [v24] | simp only [go_sem, rows, List.map_append, List.map_cons, List.map_nil]
    have e28 : s1.length + 1 = c26.length := by rw [Jj]; simp
    obtain ⟨⟨f29, f30⟩, h⟩ := G1 h
    try simp only [go_sem, hk1, hw1, f29, f30, e25, e27, e28]
    (repeat apply sq_); apply er_; simp only [go_sem, hk1, hw1, f29, f30]
    cases h
    exact bE (gs1 + 1) (G0 hsc (.dead _ _ _ (.lv (.lv (.lv (.lv (.nil _)))))) (by simp) ⟨.s, .s, .s, .s, .s, trivial⟩ (by simp))
   ·exfalso; have hc := of_decide_eq_false hc; omega
  ·(repeat apply sq_); apply er_; simp only [go_sem]
   (repeat apply sq_); refine D4 (by rfl) (fun hc => ?_) fun hc => ?_
   ·exfalso; first | exact Bool.noConfusion hc | (have hc := of_decide_eq_true hc; omega)
   ·refine X6 ?_; simp only [go_sem]
    exact ⟨gs1, (G0 hsc (.dead _ _ _ (.lv (.lv (.lv (.lv (.nil _)))))) (by simp) ⟨.s, .s, trivial⟩ (by simp))⟩
  ·try simp only [go_sem]
   unfold jy at h
   refine L5 hb ?_
   (repeat apply sq_); apply er_; simp only [go_sem]
   (repeat apply sq_); refine E3 ?_
   try simp only [go_sem]
   have hr := Option.some.inj h
   refine E4 ?_; simp only [go_sem]
   exact y3 (d' := .agg [.sl false 2 40 (rows w7.cells v1.types), .sl false 3 32 (rows x9.cells v1.C9), .sl false 10 152 (rows u6.cells t0), .sl false 9 144 (rows w9.cells t1), .sl false 2 32 (rows w8.cells v2.nodes)]) hsc (.agg _ _ (.cons _ _ _ _ .s (.cons _ _ _ _ .s (.cons _ _ _ _ (.ref _ _ _ _ _ _ _ _ _ (dz.trans rfl) og (by decide) (kh _) (by simp only [go_sem])) (.cons _ _ _ _ (.ref _ _ _ _ _ _ _ _ _ (dz.trans rfl) og (by decide) (kh _) (by simp only [go_sem])) (.cons _ _ _ _ .s .nil)))))) (by simp) ⟨by subst hr; rfl, rfl⟩
theorem uM (n : Nat) (a0 : x7) (a1 : C5) (r : x7 × y7) (h : pN n a0 a1 = some r) : Pure Tryz.prog gl 9 [.agg [.sl false 2 40 (rows w7.cells a0.hierarchy.types), .sl false 3 32 (rows x9.cells a0.hierarchy.C9), .sl false 10 152 (rows u6.cells a0.rules), .sl false 9 144 (rows w9.cells a0.D0), .sl false 2 32 (rows w8.cells a0.start.nodes)], .agg [.sl false 2 48 (rows w4.cells a1.hierarchy), .sl false 1 24 (rows y5.cells a1.start), .sl false 3 40 (rows y8.cells a1.rules), .sl false 3 40 (rows B6.cells a1.D0)]] (.tup [.agg [.sl false 2 40 (rows w7.cells r.1.hierarchy.types), .sl false 3 32 (rows x9.cells r.1.hierarchy.C9), .sl false 10 152 (rows u6.cells r.1.rules), .sl false 9 144 (rows w9.cells r.1.D0), .sl false 2 32 (rows w8.cells r.1.start.nodes)], .agg [.int .i64 r.2.code, .int .i64 r.2.index]]) := by
 intro st
 unfold pN at h
 refine O4 (N := 129) (rs := [.cell 4 32, .cell 5 41]) (keep := [0, 1, 2, 3, 4, 5, 6, 7, 8, 10, 11, 13, 14, 16, 18, 19, 20, 21, 26, 33, 37, 38, 39, 40, 55, 56, 57, 58, 74, 75, 76, 77, 84, 85, 86, 87, 112, 113, 114, 121]) Tryz.func9 rfl rfl rfl (by kernel_rfl) rfl fun hsc => ?_
 (repeat apply sq_); apply er_; simp only [go_sem]
 (repeat apply sq_); apply er_; simp only [go_sem]
 obtain ⟨v1, hv1, h⟩ := C7 h
 refine ((dn n _ _ hv1)).to ?_
 try simp only [go_sem]
 (repeat apply sq_); apply er_; simp only [go_sem]
 (repeat apply sq_); refine D4 (by rfl) (fun hc => ?_) fun hc => ?_
 ·replace h := B0 h (by first | exact hc | simpa using hc)
  (repeat apply sq_); refine Z9 [1, 2] 0 follows (by kernel_rfl) (by rfl) ?_; simp only [go_sem, List.replicate_succ, List.replicate_zero]
  try refine ⟨by (simp <;> omega), ?_⟩
  (repeat apply sq_); refine E3 ?_
  try simp only [go_sem]
  have hr := Option.some.inj h
  refine E4 ?_; simp only [go_sem]
  exact y3 (d' := .tup [.agg [.sl false 2 40 (rows w7.cells []), .sl false 3 32 (rows x9.cells []), .sl false 10 152 (rows u6.cells []), .sl false 9 144 (rows w9.cells []), .sl false 2 32 (rows w8.cells [])], .agg [.int .i64 v1.code, .int .i64 v1.index]]) hsc (.tup _ _ (.cons _ _ _ _ (.agg _ _ (.cons _ _ _ _ (.B4 _ _ _ (by decide)) (.cons _ _ _ _ (.B4 _ _ _ (by decide)) (.cons _ _ _ _ (.B4 _ _ _ (by decide)) (.cons _ _ _ _ (.B4 _ _ _ (by decide)) (.cons _ _ _ _ (.B4 _ _ _ (by decide)) .nil)))))) (.cons _ _ _ _ .s .nil)) rfl) (by simp) ⟨by subst hr; rfl, rfl⟩
 ·replace h := B1 h (by first | exact hc | simpa using hc)
  refine E8 ?_; try simp only [go_sem]
  (repeat apply sq_); apply er_; simp only [go_sem]
  obtain ⟨v2, hv2, h⟩ := C7 h
  refine ((nJ _ _ hv2)).to ?_
  try simp only [go_sem]
  (repeat apply sq_); apply er_; simp only [go_sem]
  (repeat apply sq_); refine D4 (by rfl) (fun hc => ?_) fun hc => ?_
  ·replace h := B0 h (by first | exact hc | simpa using hc)
   (repeat apply sq_); refine Z9 [1, 2] 0 follows (by kernel_rfl) (by rfl) ?_; simp only [go_sem, List.replicate_succ, List.replicate_zero]
   try refine ⟨by (simp <;> omega), ?_⟩
   (repeat apply sq_); refine E3 ?_
   try simp only [go_sem]
   have hr := Option.some.inj h
   refine E4 ?_; simp only [go_sem]
   exact y3 (d' := .tup [.agg [.sl false 2 40 (rows w7.cells []), .sl false 3 32 (rows x9.cells []), .sl false 10 152 (rows u6.cells []), .sl false 9 144 (rows w9.cells []), .sl false 2 32 (rows w8.cells [])], .agg [.int .i64 v2.code, .int .i64 v2.index]]) hsc (.tup _ _ (.cons _ _ _ _ (.agg _ _ (.cons _ _ _ _ (.B4 _ _ _ (by decide)) (.cons _ _ _ _ (.B4 _ _ _ (by decide)) (.cons _ _ _ _ (.B4 _ _ _ (by decide)) (.cons _ _ _ _ (.B4 _ _ _ (by decide)) (.cons _ _ _ _ (.B4 _ _ _ (by decide)) .nil)))))) (.cons _ _ _ _ .s .nil)) rfl) (by simp) ⟨by subst hr; rfl, rfl⟩
  ·replace h := B1 h (by first | exact hc | simpa using hc)
   refine E8 ?_; try simp only [go_sem]
   (repeat apply sq_); apply er_; simp only [go_sem]
   (repeat apply sq_); apply er_; simp only [go_sem]
   (repeat apply sq_); refine Z1 3 40 ?_
   try simp only [List.append_assoc, List.cons_append, List.nil_append]
   refine L5 (F := [(2, .ptr st.length 0 0 0), (3, .ptr (st.length + 1) 0 0 0), (4, .ptr (st.length + 2) 0 0 0), (5, .ptr (st.length + 3) 0 0 0), (8, .ref false (st.length + 6) 0 0 0), (37, .sl false 3 40 (rows y8.cells a1.rules)), (38, .int .i64 (↑a1.rules.length : Int)), (39, .int .i64 0)]) (T := st ++ [some (.arr 0 5 0 [[.sl false 2 40 (rows w7.cells a0.hierarchy.types), .sl false 3 32 (rows x9.cells a0.hierarchy.C9), .sl false 10 152 (rows u6.cells a0.rules), .sl false 9 144 (rows w9.cells a0.D0), .sl false 2 32 (rows w8.cells a0.start.nodes)]]), some (.arr 0 4 0 [[.sl false 2 48 (rows w4.cells a1.hierarchy), .sl false 1 24 (rows y5.cells a1.start), .sl false 3 40 (rows y8.cells a1.rules), .sl false 3 40 (rows B6.cells a1.D0)]]), some (.arr 0 5 0 [[.B4, .B4, .B4, .B4, .B4]]), some (.arr 0 2 0 [[.int .i64 0, .int .i64 0]]), some (.arr 0 2 0 [[.int .i64 v1.code, .int .i64 v1.index]]), some (.arr 0 2 0 [[.int .i64 v2.code, .int .i64 v2.index]]), some (.arr 0 3 40 (rows u7.cells []))]) (G0 hsc (.lv (.lv (.lv (.lv (.lv (.lv (.lv (.nil _)))))))) (by simp) ⟨.s, .s, .s, .s, .nref _ _ _ _ _ _ (dz.trans rfl), .s, .s, .s, trivial⟩ (by simp)) ?_
   (repeat apply sq_); refine ft (t := 37) rfl fun hl0 => ?_
   simp only [dX] at hl0
   (repeat apply sq_); refine arg_ (body := jA a1) (kk := jH n a1 a0) (n := a1.rules.length) (s0 := [])
    (fun (gs0 : Nat) (k0 : Nat) (s0 : (List u7)) => [(2, .ptr st.length 0 0 0), (3, .ptr (st.length + 1) 0 0 0), (4, .ptr (st.length + 2) 0 0 0), (5, .ptr (st.length + 3) 0 0 0), (8, .ref false (st.length + 6) gs0 0 s0.length), (37, .sl false 3 40 (rows y8.cells a1.rules)), (38, .int .i64 (↑a1.rules.length : Int)), (39, .int .i64 (↑k0 : Int))])
    (fun (gs0 : Nat) (k0 : Nat) (s0 : (List u7)) => st ++ [some (.arr 0 5 0 [[.sl false 2 40 (rows w7.cells a0.hierarchy.types), .sl false 3 32 (rows x9.cells a0.hierarchy.C9), .sl false 10 152 (rows u6.cells a0.rules), .sl false 9 144 (rows w9.cells a0.D0), .sl false 2 32 (rows w8.cells a0.start.nodes)]]), some (.arr 0 4 0 [[.sl false 2 48 (rows w4.cells a1.hierarchy), .sl false 1 24 (rows y5.cells a1.start), .sl false 3 40 (rows y8.cells a1.rules), .sl false 3 40 (rows B6.cells a1.D0)]]), some (.arr 0 5 0 [[.B4, .B4, .B4, .B4, .B4]]), some (.arr 0 2 0 [[.int .i64 0, .int .i64 0]]), none, none, some (.arr gs0 3 40 (rows u7.cells s0))])
    (fun (gt0 : Nat) (t0 : (List u7)) => [(2, .ptr st.length 0 0 0), (3, .ptr (st.length + 1) 0 0 0), (4, .ptr (st.length + 2) 0 0 0), (5, .ptr (st.length + 3) 0 0 0), (8, .ref false (st.length + 6) gt0 0 t0.length)])
    (fun (gt0 : Nat) (t0 : (List u7)) => st ++ [some (.arr 0 5 0 [[.sl false 2 40 (rows w7.cells a0.hierarchy.types), .sl false 3 32 (rows x9.cells a0.hierarchy.C9), .sl false 10 152 (rows u6.cells a0.rules), .sl false 9 144 (rows w9.cells a0.D0), .sl false 2 32 (rows w8.cells a0.start.nodes)]]), some (.arr 0 4 0 [[.sl false 2 48 (rows w4.cells a1.hierarchy), .sl false 1 24 (rows y5.cells a1.start), .sl false 3 40 (rows y8.cells a1.rules), .sl false 3 40 (rows B6.cells a1.D0)]]), some (.arr 0 5 0 [[.B4, .B4, .B4, .B4, .B4]]), some (.arr 0 2 0 [[.int .i64 0, .int .i64 0]]), none, none, some (.arr gt0 3 40 (rows u7.cells t0))])
    0 h (G0 hsc (.lv (.lv (.lv (.lv (.dead _ _ _ (.dead _ _ _ (.lv (.nil _)))))))) (by simp) ⟨.s, .s, .s, .s, .s, .s, .s, .s, trivial⟩ (by simp))
    (fun gs0 k0 s0 b0 hk0 h hx0 => ?_) (fun gs0 s0 => ?_) (fun gt0 t0 fr1 st1 h hb => ?_)
   ·unfold jA at h
    have hw0 : wr .i64 ((↑k0 : Int) + 1) = (↑(k0 + 1) : Int) := ga hk0 hl0 (by decide)
    (repeat apply sq_); apply er_; simp only [go_sem]
    (repeat apply sq_); refine D4 (by rfl) (fun hc => ?_) fun hc => ?_
    ·refine E8 ?_; try simp only [go_sem]
     (repeat apply sq_); refine U3 ?_
     (repeat apply sq_); apply er_; simp only [go_sem, hk0, hw0]
     have e9 : (40 ≤ top) = True := by simp [top]
     obtain ⟨c10, CT, h⟩ := lf h
     have e11 : rows u7.cells s0 ++ [[.int .i64 ((get a1.rules k0).keep), .int .i64 ((get a1.rules k0).drop), .sl false 10 152 (rows u6.cells ((get a1.rules k0).put))]] = rows u7.cells c10 := by rw [CT]; first | exact L4 (E := u7.cells) s0 [(u7.mk ((get a1.rules k0).keep) ((get a1.rules k0).drop) ((get a1.rules k0).put))] | simp only [go_sem, rows, List.map_append, List.map_cons, List.map_nil]
     have e12 : s0.length + 1 = c10.length := by rw [CT]; simp
     obtain ⟨⟨f13, f14⟩, h⟩ := G1 h
     (repeat apply sq_); apply er_; simp only [go_sem, hk0, hw0, f13, f14, e9, e11, e12]
     (repeat apply sq_); apply er_; simp only [go_sem, hk0, hw0, f13, f14]
     cases h
     exact bE (gs0 + 1) (G0 hsc (.lv (.lv (.lv (.lv (.dead _ _ _ (.dead _ _ _ (.lv (.nil _)))))))) (by simp) ⟨.s, .s, .s, .s, .s, .s, .s, .s, trivial⟩ (by simp))
    ·exfalso; have hc := of_decide_eq_false hc; omega
   ·(repeat apply sq_); apply er_; simp only [go_sem]
    (repeat apply sq_); refine D4 (by rfl) (fun hc => ?_) fun hc => ?_
    ·exfalso; first | exact Bool.noConfusion hc | (have hc := of_decide_eq_true hc; omega)
    ·refine X6 ?_; simp only [go_sem]
     exact ⟨gs0, (G0 hsc (.lv (.lv (.lv (.lv (.dead _ _ _ (.dead _ _ _ (.lv (.nil _)))))))) (by simp) ⟨.s, .s, .s, .s, .s, trivial⟩ (by simp))⟩
   ·try simp only [go_sem]
    unfold jH at h
    refine L5 hb ?_
    (repeat apply sq_); apply er_; simp only [go_sem]
    (repeat apply sq_); apply er_; simp only [go_sem]
    (repeat apply sq_); refine Z1 3 40 ?_
    try simp only [List.append_assoc, List.cons_append, List.nil_append]
    refine L5 (F := [(2, .ptr st.length 0 0 0), (3, .ptr (st.length + 1) 0 0 0), (4, .ptr (st.length + 2) 0 0 0), (5, .ptr (st.length + 3) 0 0 0), (8, .ref false (st.length + 6) gt0 0 t0.length), (11, .ref false (st.length + 7) 0 0 0), (55, .sl false 3 40 (rows B6.cells a1.D0)), (56, .int .i64 (↑a1.D0.length : Int)), (57, .int .i64 0)]) (T := st ++ [some (.arr 0 5 0 [[.sl false 2 40 (rows w7.cells a0.hierarchy.types), .sl false 3 32 (rows x9.cells a0.hierarchy.C9), .sl false 10 152 (rows u6.cells a0.rules), .sl false 9 144 (rows w9.cells a0.D0), .sl false 2 32 (rows w8.cells a0.start.nodes)]]), some (.arr 0 4 0 [[.sl false 2 48 (rows w4.cells a1.hierarchy), .sl false 1 24 (rows y5.cells a1.start), .sl false 3 40 (rows y8.cells a1.rules), .sl false 3 40 (rows B6.cells a1.D0)]]), some (.arr 0 5 0 [[.B4, .B4, .B4, .B4, .B4]]), some (.arr 0 2 0 [[.int .i64 0, .int .i64 0]]), none, none, some (.arr gt0 3 40 (rows u7.cells t0)), some (.arr 0 3 40 (rows u9.cells []))]) (G0 hsc (.lv (.lv (.lv (.lv (.dead _ _ _ (.dead _ _ _ (.lv (.lv (.nil _))))))))) (by simp) ⟨.s, .s, .s, .s, .s, .nref _ _ _ _ _ _ (dz.trans rfl), .s, .s, .s, trivial⟩ (by simp)) ?_
    (repeat apply sq_); refine ft (t := 55) rfl fun hl1 => ?_
    simp only [dX] at hl1
    (repeat apply sq_); refine arg_ (body := jB a1) (kk := jG n a1 a0 t0) (n := a1.D0.length) (s0 := [])
     (fun (gs1 : Nat) (k1 : Nat) (s1 : (List u9)) => [(2, .ptr st.length 0 0 0), (3, .ptr (st.length + 1) 0 0 0), (4, .ptr (st.length + 2) 0 0 0), (5, .ptr (st.length + 3) 0 0 0), (8, .ref false (st.length + 6) gt0 0 t0.length), (11, .ref false (st.length + 7) gs1 0 s1.length), (55, .sl false 3 40 (rows B6.cells a1.D0)), (56, .int .i64 (↑a1.D0.length : Int)), (57, .int .i64 (↑k1 : Int))])
     (fun (gs1 : Nat) (k1 : Nat) (s1 : (List u9)) => st ++ [some (.arr 0 5 0 [[.sl false 2 40 (rows w7.cells a0.hierarchy.types), .sl false 3 32 (rows x9.cells a0.hierarchy.C9), .sl false 10 152 (rows u6.cells a0.rules), .sl false 9 144 (rows w9.cells a0.D0), .sl false 2 32 (rows w8.cells a0.start.nodes)]]), some (.arr 0 4 0 [[.sl false 2 48 (rows w4.cells a1.hierarchy), .sl false 1 24 (rows y5.cells a1.start), .sl false 3 40 (rows y8.cells a1.rules), .sl false 3 40 (rows B6.cells a1.D0)]]), some (.arr 0 5 0 [[.B4, .B4, .B4, .B4, .B4]]), some (.arr 0 2 0 [[.int .i64 0, .int .i64 0]]), none, none, some (.arr gt0 3 40 (rows u7.cells t0)), some (.arr gs1 3 40 (rows u9.cells s1))])
     (fun (gt1 : Nat) (t1 : (List u9)) => [(2, .ptr st.length 0 0 0), (3, .ptr (st.length + 1) 0 0 0), (4, .ptr (st.length + 2) 0 0 0), (5, .ptr (st.length + 3) 0 0 0), (8, .ref false (st.length + 6) gt0 0 t0.length), (11, .ref false (st.length + 7) gt1 0 t1.length)])
     (fun (gt1 : Nat) (t1 : (List u9)) => st ++ [some (.arr 0 5 0 [[.sl false 2 40 (rows w7.cells a0.hierarchy.types), .sl false 3 32 (rows x9.cells a0.hierarchy.C9), .sl false 10 152 (rows u6.cells a0.rules), .sl false 9 144 (rows w9.cells a0.D0), .sl false 2 32 (rows w8.cells a0.start.nodes)]]), some (.arr 0 4 0 [[.sl false 2 48 (rows w4.cells a1.hierarchy), .sl false 1 24 (rows y5.cells a1.start), .sl false 3 40 (rows y8.cells a1.rules), .sl false 3 40 (rows B6.cells a1.D0)]]), some (.arr 0 5 0 [[.B4, .B4, .B4, .B4, .B4]]), some (.arr 0 2 0 [[.int .i64 0, .int .i64 0]]), none, none, some (.arr gt0 3 40 (rows u7.cells t0)), some (.arr gt1 3 40 (rows u9.cells t1))])
     0 h (G0 hsc (.lv (.lv (.lv (.lv (.dead _ _ _ (.dead _ _ _ (.lv (.lv (.nil _))))))))) (by simp) ⟨.s, .s, .s, .s, .s, .s, .s, .s, .s, trivial⟩ (by simp))
     (fun gs1 k1 s1 b1 hk1 h hx1 => ?_) (fun gs1 s1 => ?_) (fun gt1 t1 fr1 st1 h hb => ?_)
    ·unfold jB at h
     have hw1 : wr .i64 ((↑k1 : Int) + 1) = (↑(k1 + 1) : Int) := ga hk1 hl1 (by decide)
     (repeat apply sq_); apply er_; simp only [go_sem]
     (repeat apply sq_); refine D4 (by rfl) (fun hc => ?_) fun hc => ?_
     ·refine E8 ?_; try simp only [go_sem]
      (repeat apply sq_); refine U3 ?_
      (repeat apply sq_); apply er_; simp only [go_sem, hk1, hw1]
      have e21 : (40 ≤ top) = True := by simp [top]
      obtain ⟨c22, Jk, h⟩ := lf h
      have e23 : rows u9.cells s1 ++ [[.int .i64 ((get a1.D0 k1).keep), .int .i64 ((get a1.D0 k1).drop), .sl false 9 144 (rows w9.cells ((get a1.D0 k1).put))]] = rows u9.cells c22 := by rw [Jk]; first | exact L4 (E := u9.cells) s1 [(u9.mk ((get a1.D0 k1).keep) ((get a1.D0 k1).drop) ((get a1.D0 k1).put))] | simp only [go_sem, rows, List.map_append, List.map_cons, List.map_nil]
      have e24 : s1.length + 1 = c22.length := by rw [Jk]; simp
      obtain ⟨⟨f25, f26⟩, h⟩ := G1 h
      (repeat apply sq_); apply er_; simp only [go_sem, hk1, hw1, f25, f26, e21, e23, e24]
      (repeat apply sq_); apply er_; simp only [go_sem, hk1, hw1, f25, f26]
      cases h
      exact bE (gs1 + 1) (G0 hsc (.lv (.lv (.lv (.lv (.dead _ _ _ (.dead _ _ _ (.lv (.lv (.nil _))))))))) (by simp) ⟨.s, .s, .s, .s, .s, .s, .s, .s, .s, trivial⟩ (by simp))
     ·exfalso; have hc := of_decide_eq_false hc; omega
    ·(repeat apply sq_); apply er_; simp only [go_sem]
     (repeat apply sq_); refine D4 (by rfl) (fun hc => ?_) fun hc => ?_
     ·exfalso; first | exact Bool.noConfusion hc | (have hc := of_decide_eq_true hc; omega)
     ·refine X6 ?_; simp only [go_sem]
      exact ⟨gs1, (G0 hsc (.lv (.lv (.lv (.lv (.dead _ _ _ (.dead _ _ _ (.lv (.lv (.nil _))))))))) (by simp) ⟨.s, .s, .s, .s, .s, .s, trivial⟩ (by simp))⟩
    ·try simp only [go_sem]
     unfold jG at h
     refine L5 hb ?_
     (repeat apply sq_); apply er_; simp only [go_sem]
     (repeat apply sq_); apply er_; simp only [go_sem]
     (repeat apply sq_); refine ft (t := 74) rfl fun hl2 => ?_
     simp only [dX] at hl2
     (repeat apply sq_); refine arg_ (body := jC a1) (kk := jF n a1 a0 t0 t1) (n := a1.hierarchy.length) (s0 := (a0.hierarchy.types, a0.hierarchy.C9))
      (fun (gs2 : Unit) (k2 : Nat) (s2 : (List w7) × (List x9)) => [(2, .ptr st.length 0 0 0), (3, .ptr (st.length + 1) 0 0 0), (4, .ptr (st.length + 2) 0 0 0), (5, .ptr (st.length + 3) 0 0 0), (8, .ref false (st.length + 6) gt0 0 t0.length), (11, .ref false (st.length + 7) gt1 0 t1.length), (14, .ptr (st.length + 8) 0 0 0), (74, .sl false 2 48 (rows w4.cells a1.hierarchy)), (75, .int .i64 (↑a1.hierarchy.length : Int)), (76, .int .i64 (↑k2 : Int))])
      (fun (gs2 : Unit) (k2 : Nat) (s2 : (List w7) × (List x9)) => st ++ [some (.arr 0 5 0 [[.sl false 2 40 (rows w7.cells a0.hierarchy.types), .sl false 3 32 (rows x9.cells a0.hierarchy.C9), .sl false 10 152 (rows u6.cells a0.rules), .sl false 9 144 (rows w9.cells a0.D0), .sl false 2 32 (rows w8.cells a0.start.nodes)]]), some (.arr 0 4 0 [[.sl false 2 48 (rows w4.cells a1.hierarchy), .sl false 1 24 (rows y5.cells a1.start), .sl false 3 40 (rows y8.cells a1.rules), .sl false 3 40 (rows B6.cells a1.D0)]]), some (.arr 0 5 0 [[.B4, .B4, .B4, .B4, .B4]]), some (.arr 0 2 0 [[.int .i64 0, .int .i64 0]]), none, none, some (.arr gt0 3 40 (rows u7.cells t0)), some (.arr gt1 3 40 (rows u9.cells t1)), some (.arr 0 5 0 [[.sl false 2 40 (rows w7.cells s2.1), .sl false 3 32 (rows x9.cells s2.2), .sl false 10 152 (rows u6.cells a0.rules), .sl false 9 144 (rows w9.cells a0.D0), .sl false 2 32 (rows w8.cells a0.start.nodes)]])])
      (fun (gt2 : Unit) (t2 : (List w7) × (List x9)) => [(2, .ptr st.length 0 0 0), (3, .ptr (st.length + 1) 0 0 0), (4, .ptr (st.length + 2) 0 0 0), (5, .ptr (st.length + 3) 0 0 0), (8, .ref false (st.length + 6) gt0 0 t0.length), (11, .ref false (st.length + 7) gt1 0 t1.length), (14, .ptr (st.length + 8) 0 0 0)])
      (fun (gt2 : Unit) (t2 : (List w7) × (List x9)) => st ++ [some (.arr 0 5 0 [[.sl false 2 40 (rows w7.cells a0.hierarchy.types), .sl false 3 32 (rows x9.cells a0.hierarchy.C9), .sl false 10 152 (rows u6.cells a0.rules), .sl false 9 144 (rows w9.cells a0.D0), .sl false 2 32 (rows w8.cells a0.start.nodes)]]), some (.arr 0 4 0 [[.sl false 2 48 (rows w4.cells a1.hierarchy), .sl false 1 24 (rows y5.cells a1.start), .sl false 3 40 (rows y8.cells a1.rules), .sl false 3 40 (rows B6.cells a1.D0)]]), some (.arr 0 5 0 [[.B4, .B4, .B4, .B4, .B4]]), some (.arr 0 2 0 [[.int .i64 0, .int .i64 0]]), none, none, some (.arr gt0 3 40 (rows u7.cells t0)), some (.arr gt1 3 40 (rows u9.cells t1)), some (.arr 0 5 0 [[.sl false 2 40 (rows w7.cells t2.1), .sl false 3 32 (rows x9.cells t2.2), .sl false 10 152 (rows u6.cells a0.rules), .sl false 9 144 (rows w9.cells a0.D0), .sl false 2 32 (rows w8.cells a0.start.nodes)]])])
      () h (G0 hsc (.lv (.lv (.lv (.lv (.dead _ _ _ (.dead _ _ _ (.lv (.lv (.lv (.nil _)))))))))) (by simp) ⟨.s, .s, .s, .s, .s, .s, .s, .s, .s, .s, trivial⟩ (by simp))
      (fun gs2 k2 s2 b2 hk2 h hx2 => ?_) (fun gs2 s2 => ?_) (fun gt2 t2 fr1 st1 h hb => ?_)
     ·unfold jC at h
      have hw2 : wr .i64 ((↑k2 : Int) + 1) = (↑(k2 + 1) : Int) := ga hk2 hl2 (by decide)
      (repeat apply sq_); apply er_; simp only [go_sem]
      (repeat apply sq_); refine D4 (by rfl) (fun hc => ?_) fun hc => ?_
      ·refine E8 ?_; try simp only [go_sem]
       (repeat apply sq_); refine U3 ?_
       (repeat apply sq_); apply er_; simp only [go_sem, hk2, hw2]
       (repeat apply sq_); apply er_; simp only [go_sem, hk2, hw2]
       (repeat apply sq_); apply er_; simp only [go_sem, hk2, hw2]
       cases h
       exact bE () (G0 hsc (.lv (.lv (.lv (.lv (.dead _ _ _ (.dead _ _ _ (.lv (.lv (.lv (.nil _)))))))))) (by simp) ⟨.s, .s, .s, .s, .s, .s, .s, .s, .s, .s, trivial⟩ (by simp))
      ·exfalso; have hc := of_decide_eq_false hc; omega
     ·(repeat apply sq_); apply er_; simp only [go_sem]
      (repeat apply sq_); refine D4 (by rfl) (fun hc => ?_) fun hc => ?_
      ·exfalso; first | exact Bool.noConfusion hc | (have hc := of_decide_eq_true hc; omega)
      ·refine X6 ?_; simp only [go_sem]
       exact ⟨(), (G0 hsc (.lv (.lv (.lv (.lv (.dead _ _ _ (.dead _ _ _ (.lv (.lv (.lv (.nil _)))))))))) (by simp) ⟨.s, .s, .s, .s, .s, .s, .s, trivial⟩ (by simp))⟩
     ·try simp only [go_sem]
      unfold jF at h
      refine L5 hb ?_
      (repeat apply sq_); apply er_; simp only [go_sem]
      (repeat apply sq_); refine ft (t := 84) rfl fun hl3 => ?_
      simp only [dX] at hl3
      (repeat apply sq_); refine arg_ (body := jD a1) (kk := jE n a0 t0 t1 t2) (n := a1.start.length) (s0 := a0.start.nodes)
       (fun (gs3 : Unit) (k3 : Nat) (s3 : (List w8)) => [(2, .ptr st.length 0 0 0), (4, .ptr (st.length + 2) 0 0 0), (5, .ptr (st.length + 3) 0 0 0), (8, .ref false (st.length + 6) gt0 0 t0.length), (11, .ref false (st.length + 7) gt1 0 t1.length), (14, .ptr (st.length + 8) 0 0 0), (84, .sl false 1 24 (rows y5.cells a1.start)), (85, .int .i64 (↑a1.start.length : Int)), (86, .int .i64 (↑k3 : Int))])
       (fun (gs3 : Unit) (k3 : Nat) (s3 : (List w8)) => st ++ [some (.arr 0 5 0 [[.sl false 2 40 (rows w7.cells a0.hierarchy.types), .sl false 3 32 (rows x9.cells a0.hierarchy.C9), .sl false 10 152 (rows u6.cells a0.rules), .sl false 9 144 (rows w9.cells a0.D0), .sl false 2 32 (rows w8.cells a0.start.nodes)]]), none, some (.arr 0 5 0 [[.B4, .B4, .B4, .B4, .B4]]), some (.arr 0 2 0 [[.int .i64 0, .int .i64 0]]), none, none, some (.arr gt0 3 40 (rows u7.cells t0)), some (.arr gt1 3 40 (rows u9.cells t1)), some (.arr 0 5 0 [[.sl false 2 40 (rows w7.cells t2.1), .sl false 3 32 (rows x9.cells t2.2), .sl false 10 152 (rows u6.cells a0.rules), .sl false 9 144 (rows w9.cells a0.D0), .sl false 2 32 (rows w8.cells s3)]])])
       (fun (gt3 : Unit) (t3 : (List w8)) => [(2, .ptr st.length 0 0 0), (4, .ptr (st.length + 2) 0 0 0), (5, .ptr (st.length + 3) 0 0 0), (8, .ref false (st.length + 6) gt0 0 t0.length), (11, .ref false (st.length + 7) gt1 0 t1.length), (14, .ptr (st.length + 8) 0 0 0)])
       (fun (gt3 : Unit) (t3 : (List w8)) => st ++ [some (.arr 0 5 0 [[.sl false 2 40 (rows w7.cells a0.hierarchy.types), .sl false 3 32 (rows x9.cells a0.hierarchy.C9), .sl false 10 152 (rows u6.cells a0.rules), .sl false 9 144 (rows w9.cells a0.D0), .sl false 2 32 (rows w8.cells a0.start.nodes)]]), none, some (.arr 0 5 0 [[.B4, .B4, .B4, .B4, .B4]]), some (.arr 0 2 0 [[.int .i64 0, .int .i64 0]]), none, none, some (.arr gt0 3 40 (rows u7.cells t0)), some (.arr gt1 3 40 (rows u9.cells t1)), some (.arr 0 5 0 [[.sl false 2 40 (rows w7.cells t2.1), .sl false 3 32 (rows x9.cells t2.2), .sl false 10 152 (rows u6.cells a0.rules), .sl false 9 144 (rows w9.cells a0.D0), .sl false 2 32 (rows w8.cells t3)]])])
       () h (G0 hsc (.lv (.dead _ _ _ (.lv (.lv (.dead _ _ _ (.dead _ _ _ (.lv (.lv (.lv (.nil _)))))))))) (by simp) ⟨.s, .s, .s, .s, .s, .s, .s, .s, .s, trivial⟩ (by simp))
       (fun gs3 k3 s3 b3 hk3 h hx3 => ?_) (fun gs3 s3 => ?_) (fun gt3 t3 fr1 st1 h hb => ?_)
      ·unfold jD at h
       have hw3 : wr .i64 ((↑k3 : Int) + 1) = (↑(k3 + 1) : Int) := ga hk3 hl3 (by decide)
       (repeat apply sq_); apply er_; simp only [go_sem]
       (repeat apply sq_); refine D4 (by rfl) (fun hc => ?_) fun hc => ?_
       ·refine E8 ?_; try simp only [go_sem]
        (repeat apply sq_); refine U3 ?_
        (repeat apply sq_); apply er_; simp only [go_sem, hk3, hw3]
        (repeat apply sq_); apply er_; simp only [go_sem, hk3, hw3]
        (repeat apply sq_); apply er_; simp only [go_sem, hk3, hw3]
        cases h
        exact bE () (G0 hsc (.lv (.dead _ _ _ (.lv (.lv (.dead _ _ _ (.dead _ _ _ (.lv (.lv (.lv (.nil _)))))))))) (by simp) ⟨.s, .s, .s, .s, .s, .s, .s, .s, .s, trivial⟩ (by simp))
       ·exfalso; have hc := of_decide_eq_false hc; omega
      ·(repeat apply sq_); apply er_; simp only [go_sem]
       (repeat apply sq_); refine D4 (by rfl) (fun hc => ?_) fun hc => ?_
       ·exfalso; first | exact Bool.noConfusion hc | (have hc := of_decide_eq_true hc; omega)
       ·refine X6 ?_; simp only [go_sem]
        exact ⟨(), (G0 hsc (.lv (.dead _ _ _ (.lv (.lv (.dead _ _ _ (.dead _ _ _ (.lv (.lv (.lv (.nil _)))))))))) (by simp) ⟨.s, .s, .s, .s, .s, .s, trivial⟩ (by simp))⟩
      ·try simp only [go_sem]
       unfold jE at h
       refine L5 hb ?_
       (repeat apply sq_); apply er_; simp only [go_sem]
       (repeat apply sq_); apply er_; simp only [go_sem]
       obtain ⟨v27, hv27, h⟩ := C7 h
       refine (kq _ _ _ hv27 _ _ gt0 (by simp) (X3.trans rfl)).mono ?_
       rintro d1 st1 ⟨rfl, rfl⟩
       try simp only [go_sem]
       (repeat apply sq_); apply er_; simp only [go_sem]
       obtain ⟨v28, hv28, h⟩ := C7 h
       refine (kY _ _ _ hv28 _ _ gt1 (by simp) (X3.trans rfl)).mono ?_
       rintro d1 st1 ⟨rfl, rfl⟩
       try simp only [go_sem]
       (repeat apply sq_); apply er_; simp only [go_sem]
       (repeat apply sq_); refine D4 (by rfl) (fun hc => ?_) fun hc => ?_
       ·replace h := B0 h (by first | exact hc | simpa using hc)
        (repeat apply sq_); apply er_; simp only [go_sem]
        obtain ⟨v29, hv29, h⟩ := C7 h
        refine ((dV _ _ _ hv29)).to ?_
        try simp only [go_sem]
        (repeat apply sq_); refine E3 ?_
        try simp only [go_sem]
        have hr := Option.some.inj h
        refine E4 ?_; simp only [go_sem]
        exact y3 (d' := .tup [.agg [.sl false 2 40 (rows w7.cells []), .sl false 3 32 (rows x9.cells []), .sl false 10 152 (rows u6.cells []), .sl false 9 144 (rows w9.cells []), .sl false 2 32 (rows w8.cells [])], .agg [.int .i64 v29.code, .int .i64 v29.index]]) hsc (.tup _ _ (.cons _ _ _ _ (.agg _ _ (.cons _ _ _ _ (.B4 _ _ _ (by decide)) (.cons _ _ _ _ (.B4 _ _ _ (by decide)) (.cons _ _ _ _ (.B4 _ _ _ (by decide)) (.cons _ _ _ _ (.B4 _ _ _ (by decide)) (.cons _ _ _ _ (.B4 _ _ _ (by decide)) .nil)))))) (.cons _ _ _ _ .s .nil)) rfl) (by simp) ⟨by subst hr; rfl, rfl⟩
       ·replace h := B1 h (by first | exact hc | simpa using hc)
        refine E8 ?_; try simp only [go_sem]
        (repeat apply sq_); apply er_; simp only [go_sem]
        obtain ⟨v30, hv30, h⟩ := C7 h
        refine ((dn n _ _ hv30)).to ?_
        try simp only [go_sem]
        (repeat apply sq_); apply er_; simp only [go_sem]
        (repeat apply sq_); refine D4 (by rfl) (fun hc => ?_) fun hc => ?_
        ·replace h := B0 h (by first | exact hc | simpa using hc)
         (repeat apply sq_); apply er_; simp only [go_sem]
         obtain ⟨v31, hv31, h⟩ := C7 h
         refine ((dV _ _ _ hv31)).to ?_
         try simp only [go_sem]
         (repeat apply sq_); refine E3 ?_
         try simp only [go_sem]
         have hr := Option.some.inj h
         refine E4 ?_; simp only [go_sem]
         exact y3 (d' := .tup [.agg [.sl false 2 40 (rows w7.cells []), .sl false 3 32 (rows x9.cells []), .sl false 10 152 (rows u6.cells []), .sl false 9 144 (rows w9.cells []), .sl false 2 32 (rows w8.cells [])], .agg [.int .i64 v31.code, .int .i64 v31.index]]) hsc (.tup _ _ (.cons _ _ _ _ (.agg _ _ (.cons _ _ _ _ (.B4 _ _ _ (by decide)) (.cons _ _ _ _ (.B4 _ _ _ (by decide)) (.cons _ _ _ _ (.B4 _ _ _ (by decide)) (.cons _ _ _ _ (.B4 _ _ _ (by decide)) (.cons _ _ _ _ (.B4 _ _ _ (by decide)) .nil)))))) (.cons _ _ _ _ .s .nil)) rfl) (by simp) ⟨by subst hr; rfl, rfl⟩
        ·replace h := B1 h (by first | exact hc | simpa using hc)
         refine E8 ?_; try simp only [go_sem]
         (repeat apply sq_); apply er_; simp only [go_sem]
         obtain ⟨v32, hv32, h⟩ := C7 h
         refine ((uL n _ _ hv32)).to ?_
         try simp only [go_sem]
         (repeat apply sq_); refine E3 ?_
         try simp only [go_sem]
         have hr := Option.some.inj h
         refine E4 ?_; simp only [go_sem]
         exact y3 (d' := .tup [.agg [.sl false 2 40 (rows w7.cells v32.hierarchy.types), .sl false 3 32 (rows x9.cells v32.hierarchy.C9), .sl false 10 152 (rows u6.cells v32.rules), .sl false 9 144 (rows w9.cells v32.D0), .sl false 2 32 (rows w8.cells v32.start.nodes)], .agg [.int .i64 0, .int .i64 0]]) hsc (.same _) (by simp) ⟨by subst hr; rfl, rfl⟩
end Go.Proofs.YtaohdfpcdfbnlaaGreatDoor
