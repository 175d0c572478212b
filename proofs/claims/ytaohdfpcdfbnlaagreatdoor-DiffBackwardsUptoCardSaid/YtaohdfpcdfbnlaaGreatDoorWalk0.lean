import Derived.Test.YtaohdfpcdfbnlaaGreatDoorBase
import Derived.Test.YtaohdfpcdfbnlaaGreatDoorHand
import Derived.Test.YtaohdfpcdfbnlaaGreatDoorMirrors
set_option linter.unusedVariables false
set_option linter.unusedSimpArgs false
set_option maxHeartbeats 2000000
set_option maxRecDepth 100000
namespace Go.Proofs.YtaohdfpcdfbnlaaGreatDoor
open Go Go.Am
theorem J8 (a0 : Bs) (r : u0) (h : J1 a0 = some r) : Pure Tryz.prog gl 23 [.str a0] (.agg [.str r.base, .sl false 2 40 (rows u0.cells r.args)]) := by
 intro st
 unfold J1 at h
 refine O4 (N := 5) (rs := [.cell 2 61]) (keep := [0, 2]) Tryz.func23 rfl rfl rfl (by kernel_rfl) rfl fun hsc => ?_
 (repeat apply sq_); apply er_; simp only [go_sem]
 (repeat apply sq_); apply er_; simp only [go_sem]
 (repeat apply sq_); refine E3 ?_
 try simp only [go_sem]
 have hr := Option.some.inj h
 refine E4 ?_; simp only [go_sem]
 exact y3 (d' := .agg [.str a0, .sl false 2 40 (rows u0.cells [])]) hsc (.agg _ _ (.cons _ _ _ _ .s (.cons _ _ _ _ (.B4 _ _ _ (by decide)) .nil))) (by simp) ⟨by subst hr; rfl, rfl⟩
theorem C8 (a0 : u0) (a1 : u0) (r : u0) (h : D1 a0 a1 = some r) : Pure Tryz.prog gl 24 [.agg [.str a0.base, .sl false 2 40 (rows u0.cells a0.args)], .agg [.str a1.base, .sl false 2 40 (rows u0.cells a1.args)]] (.agg [.str r.base, .sl false 2 40 (rows u0.cells r.args)]) := by
 intro st
 unfold D1 at h
 refine O4 (N := 9) (rs := [.cell 4 61]) (keep := [0, 1, 2, 3, 4]) Tryz.func24 rfl rfl rfl (by kernel_rfl) rfl fun hsc => ?_
 (repeat apply sq_); apply er_; simp only [go_sem]
 have e1 : (80 ≤ top) = True := by simp [top]
 (repeat apply sq_); apply er_; simp only [go_sem, e1]
 (repeat apply sq_); refine E3 ?_
 try simp only [go_sem]
 have hr := Option.some.inj h
 refine E4 ?_; simp only [go_sem]
 exact y3 (d' := .agg [.str [], .sl false 2 40 (rows u0.cells [a0, a1])]) hsc (.agg _ _ (.cons _ _ _ _ .s (.cons _ _ _ _ (.ref _ _ _ _ _ _ _ _ _ (dH.trans rfl) oD (by decide) (by simp [Imm, D.imm]) (by simp only [go_sem, rows, List.map_cons, List.map_nil])) .nil))) (by simp) ⟨by subst hr; rfl, rfl⟩
theorem eB (a0 : (List Bs)) (a1 : (List Int)) (a2 : (List x9)) (r : w4) (h : Q6 a0 a1 a2 = some r) : Pure Tryz.prog gl 25 [.sl false 1 16 (rows CQ a0), .sl false 1 8 (rows O1 a1), .sl false 3 32 (rows x9.cells a2)] (.agg [.sl false 2 40 (rows w7.cells r.types), .sl false 3 32 (rows x9.cells r.C9)]) := by
 intro st
 unfold Q6 at h
 refine O4 (N := 38) (rs := [.cell 6 25]) (keep := [0, 1, 2, 6, 7, 8, 9, 10, 11, 12, 13, 14, 21]) Tryz.func25 rfl rfl rfl (by kernel_rfl) rfl fun hsc => ?_
 (repeat apply sq_); apply er_; simp only [go_sem]
 (repeat apply sq_); apply er_; simp only [go_sem]
 (repeat apply sq_); apply er_; simp only [go_sem]
 (repeat apply sq_); refine Z7 2 40 ?_
 try simp only [List.append_assoc, List.cons_append, List.nil_append]
 refine L6 (F := [(1, .sl false 1 8 (rows O1 a1)), (2, .sl false 3 32 (rows x9.cells a2)), (6, .ptr st.length 0 0 0), (7, .ptr (st.length + 1) 0 0 0), (11, .sl false 1 16 (rows CQ a0)), (12, .int .i64 (↑a0.length : Int)), (13, .int .i64 0)]) (T := st ++ [some (.arr 0 2 0 [[.B4, .B4]]), some (.arr 0 2 0 [[.ref false (st.length + 2) 0 0 0, .B4]]), some (.arr 0 2 40 (rows w7.cells []))]) (G0 hsc (.lv (.live _ _ _ _ (.arr _ _ _ _ _ (.cons _ _ _ _ (.cons _ _ _ _ (.nref _ _ _ _ _ _ (dH.trans rfl)) (.cons _ _ _ _ .s .nil)) (.same _))) (.lv (.nil _)))) (by simp) ⟨.s, .s, .s, .s, .s, .s, .s, trivial⟩ (by simp)) ?_
 (repeat apply sq_); refine fG (t := 11) rfl fun hl0 => ?_
 simp only [eF] at hl0
 (repeat apply sq_); refine arg_ (body := M9 a1 a0) (kk := N0 a2) (n := a0.length) (s0 := [])
  (fun (gs0 : Nat) (k0 : Nat) (s0 : (List w7)) => [(1, .sl false 1 8 (rows O1 a1)), (2, .sl false 3 32 (rows x9.cells a2)), (6, .ptr st.length 0 0 0), (7, .ptr (st.length + 1) 0 0 0), (11, .sl false 1 16 (rows CQ a0)), (12, .int .i64 (↑a0.length : Int)), (13, .int .i64 (↑k0 : Int))])
  (fun (gs0 : Nat) (k0 : Nat) (s0 : (List w7)) => st ++ [some (.arr 0 2 0 [[.B4, .B4]]), some (.arr 0 2 0 [[.ref false (st.length + 2) gs0 0 s0.length, .B4]]), some (.arr gs0 2 40 (rows w7.cells s0))])
  (fun (gt0 : Nat) (t0 : (List w7)) => [(2, .sl false 3 32 (rows x9.cells a2)), (6, .ptr st.length 0 0 0), (7, .ptr (st.length + 1) 0 0 0)])
  (fun (gt0 : Nat) (t0 : (List w7)) => st ++ [some (.arr 0 2 0 [[.B4, .B4]]), some (.arr 0 2 0 [[.ref false (st.length + 2) gt0 0 t0.length, .B4]]), some (.arr gt0 2 40 (rows w7.cells t0))])
  0 h (G0 hsc (.lv (.lv (.lv (.nil _)))) (by simp) ⟨.s, .s, .s, .s, .s, .s, .s, trivial⟩ (by simp))
  (fun gs0 k0 s0 b0 hk0 h hx0 => ?_) (fun gs0 s0 => ?_) (fun gt0 t0 fr1 st1 h hb => ?_)
 ·unfold M9 at h
  have hw0 : wr .i64 ((↑k0 : Int) + 1) = (↑(k0 + 1) : Int) := gy hk0 hl0 (by decide)
  (repeat apply sq_); apply er_; simp only [go_sem]
  (repeat apply sq_); refine D4 (by rfl) (fun hc => ?_) fun hc => ?_
  ·refine E6 ?_; try simp only [go_sem]
   (repeat apply sq_); refine U8 ?_
   (repeat apply sq_); apply er_; simp only [go_sem, hk0, hw0]
   (repeat apply sq_); apply er_; simp only [go_sem, hk0, hw0]
   (repeat apply sq_); apply er_; simp only [go_sem, hk0, hw0]
   (repeat apply sq_); refine D4 (by rfl) (fun hc => ?_) fun hc => ?_
   ·replace h := B0 h (by first | exact hc | simpa using hc)
    obtain ⟨f11, h⟩ := G1 h
    have e12 : (8 ≤ top) = True := by simp [top]
    (repeat apply sq_); apply er_; simp only [go_sem, hk0, hw0, f11, e12]
    have e13 : (40 ≤ top) = True := by simp [top]
    obtain ⟨c14, Jm, h⟩ := lD h
    have e15 : rows w7.cells s0 ++ [[.str (get a0 k0), .sl false 1 8 [[.int .i64 (get a1 k0)]]]] = rows w7.cells c14 := by rw [Jm]; first | exact L5 (E := w7.cells) s0 [(w7.mk (get a0 k0) [(get a1 k0)])] | simp only [go_sem, rows, List.map_append, List.map_cons, List.map_nil]
    have e16 : s0.length + 1 = c14.length := by rw [Jm]; simp
    obtain ⟨⟨f17, f18⟩, h⟩ := G1 h
    (repeat apply sq_); apply er_; simp only [go_sem, hk0, hw0, f11, f17, f18, e13, e15, e16]
    (repeat apply sq_); apply er_; simp only [go_sem, hk0, hw0, f11, f17, f18]
    cases h
    exact bK (gs0 + 1) (G0 hsc (.lv (.lv (.lv (.nil _)))) (by simp) ⟨.s, .s, .s, .s, .s, .s, .s, trivial⟩ (by simp))
   ·replace h := B1 h (by first | exact hc | simpa using hc)
    refine E6 ?_; try simp only [go_sem, hk0, hw0]
    have e19 : (40 ≤ top) = True := by simp [top]
    obtain ⟨⟨f20, f21⟩, h⟩ := G1 h
    (repeat apply sq_); apply er_; simp only [go_sem, hk0, hw0, f20, f21, e19]
    (repeat apply sq_); apply er_; simp only [go_sem, hk0, hw0, f20, f21]
    cases h
    exact bK (gs0 + 1) (G0 hsc (.lv (.live _ _ _ _ (.arr _ _ _ _ _ (.cons _ _ _ _ (.cons _ _ _ _ (jh (by first | (simp; done) | simp [Fr.get])) (.cons _ _ _ _ .s .nil)) (.same _))) (.live _ _ _ _ (.arr _ _ _ _ _ (dI (.cons _ _ _ _ (.cons _ _ _ _ .s (.cons _ _ _ _ (.B4 _ _ _ (by decide)) .nil)) .nil))) (.nil _)))) (by simp) ⟨.s, .s, .s, .s, .s, .s, .s, trivial⟩ (by simp))
  ·exfalso; have hc := of_decide_eq_false hc; omega
 ·(repeat apply sq_); apply er_; simp only [go_sem]
  (repeat apply sq_); refine D4 (by rfl) (fun hc => ?_) fun hc => ?_
  ·exfalso; first | exact Bool.noConfusion hc | (have hc := of_decide_eq_true hc; omega)
  ·refine Y2 ?_; simp only [go_sem]
   exact ⟨gs0, (G0 hsc (.lv (.lv (.lv (.nil _)))) (by simp) ⟨.s, .s, .s, trivial⟩ (by simp))⟩
 ·try simp only [go_sem]
  unfold N0 at h
  refine L6 hb ?_
  (repeat apply sq_); apply er_; simp only [go_sem]
  (repeat apply sq_); apply er_; simp only [go_sem]
  (repeat apply sq_); refine E3 ?_
  try simp only [go_sem]
  have hr := Option.some.inj h
  refine E4 ?_; simp only [go_sem]
  exact y3 (d' := .agg [.sl false 2 40 (rows w7.cells t0), .sl false 3 32 (rows x9.cells a2)]) hsc (.agg _ _ (.cons _ _ _ _ (.ref _ _ _ _ _ _ _ _ _ (dH.trans rfl) oD (by decide) (kB _) (by simp only [go_sem])) (.cons _ _ _ _ .s .nil))) (by simp) ⟨by subst hr; rfl, rfl⟩
theorem y4 (a0 : Int) (r : w5) (h : y6 a0 = some r) : Pure Tryz.prog gl 33 [.int .i64 a0] (.agg [.int .i64 r.kind, .str r.name, .int .i64 r.index, .str r.type.base, .sl false 2 40 (rows u0.cells r.type.args), .sl false 6 96 (rows w5.cells r.args)]) := by
 intro st
 unfold y6 at h
 refine O4 (N := 5) (rs := [.cell 2 64]) (keep := [0, 2]) Tryz.func33 rfl rfl rfl (by kernel_rfl) rfl fun hsc => ?_
 (repeat apply sq_); apply er_; simp only [go_sem]
 (repeat apply sq_); apply er_; simp only [go_sem]
 (repeat apply sq_); refine E3 ?_
 try simp only [go_sem]
 have hr := Option.some.inj h
 refine E4 ?_; simp only [go_sem]
 exact y3 (d' := .agg [.int .i64 2, .str [], .int .i64 a0, .str [], .sl false 2 40 (rows u0.cells []), .sl false 6 96 (rows w5.cells [])]) hsc (.agg _ _ (.cons _ _ _ _ .s (.cons _ _ _ _ .s (.cons _ _ _ _ .s (.cons _ _ _ _ .s (.cons _ _ _ _ (.B4 _ _ _ (by decide)) (.cons _ _ _ _ (.B4 _ _ _ (by decide)) .nil))))))) (by simp) ⟨by subst hr; rfl, rfl⟩
theorem B3 (a0 : w5) (a1 : w5) (r : w5) (h : B8 a0 a1 = some r) : Pure Tryz.prog gl 32 [.agg [.int .i64 a0.kind, .str a0.name, .int .i64 a0.index, .str a0.type.base, .sl false 2 40 (rows u0.cells a0.type.args), .sl false 6 96 (rows w5.cells a0.args)], .agg [.int .i64 a1.kind, .str a1.name, .int .i64 a1.index, .str a1.type.base, .sl false 2 40 (rows u0.cells a1.type.args), .sl false 6 96 (rows w5.cells a1.args)]] (.agg [.int .i64 r.kind, .str r.name, .int .i64 r.index, .str r.type.base, .sl false 2 40 (rows u0.cells r.type.args), .sl false 6 96 (rows w5.cells r.args)]) := by
 intro st
 unfold B8 at h
 refine O4 (N := 9) (rs := [.cell 4 64]) (keep := [0, 1, 2, 3, 4]) Tryz.func32 rfl rfl rfl (by kernel_rfl) rfl fun hsc => ?_
 (repeat apply sq_); apply er_; simp only [go_sem]
 have e1 : (192 ≤ top) = True := by simp [top]
 (repeat apply sq_); apply er_; simp only [go_sem, e1]
 (repeat apply sq_); refine E3 ?_
 try simp only [go_sem]
 have hr := Option.some.inj h
 refine E4 ?_; simp only [go_sem]
 exact y3 (d' := .agg [.int .i64 4, .str [], .int .i64 0, .str [], .sl false 2 40 (rows u0.cells []), .sl false 6 96 (rows w5.cells [a0, a1])]) hsc (.agg _ _ (.cons _ _ _ _ .s (.cons _ _ _ _ .s (.cons _ _ _ _ .s (.cons _ _ _ _ .s (.cons _ _ _ _ (.B4 _ _ _ (by decide)) (.cons _ _ _ _ (.ref _ _ _ _ _ _ _ _ _ (dH.trans rfl) oD (by decide) (by simp [Imm, D.imm]) (by simp only [go_sem, rows, List.map_cons, List.map_nil])) .nil))))))) (by simp) ⟨by subst hr; rfl, rfl⟩
theorem y9 (a0 : u0) (a1 : w5) (r : w5) (h : A8 a0 a1 = some r) : Pure Tryz.prog gl 31 [.agg [.str a0.base, .sl false 2 40 (rows u0.cells a0.args)], .agg [.int .i64 a1.kind, .str a1.name, .int .i64 a1.index, .str a1.type.base, .sl false 2 40 (rows u0.cells a1.type.args), .sl false 6 96 (rows w5.cells a1.args)]] (.agg [.int .i64 r.kind, .str r.name, .int .i64 r.index, .str r.type.base, .sl false 2 40 (rows u0.cells r.type.args), .sl false 6 96 (rows w5.cells r.args)]) := by
 intro st
 unfold A8 at h
 refine O4 (N := 9) (rs := [.cell 4 64]) (keep := [0, 1, 2, 3, 4]) Tryz.func31 rfl rfl rfl (by kernel_rfl) rfl fun hsc => ?_
 (repeat apply sq_); apply er_; simp only [go_sem]
 have e1 : (96 ≤ top) = True := by simp [top]
 (repeat apply sq_); apply er_; simp only [go_sem, e1]
 (repeat apply sq_); refine E3 ?_
 try simp only [go_sem]
 have hr := Option.some.inj h
 refine E4 ?_; simp only [go_sem]
 exact y3 (d' := .agg [.int .i64 3, .str [], .int .i64 0, .str a0.base, .sl false 2 40 (rows u0.cells a0.args), .sl false 6 96 (rows w5.cells [a1])]) hsc (.agg _ _ (.cons _ _ _ _ .s (.cons _ _ _ _ .s (.cons _ _ _ _ .s (.cons _ _ _ _ .s (.cons _ _ _ _ .s (.cons _ _ _ _ (.ref _ _ _ _ _ _ _ _ _ (dH.trans rfl) oD (by decide) (by simp [Imm, D.imm]) (by simp only [go_sem, rows, List.map_cons, List.map_nil])) .nil))))))) (by simp) ⟨by subst hr; rfl, rfl⟩
theorem gb (a0 : Bool) (r : (List w5)) (h : W4 a0 = some r) : Pure Tryz.prog gl 26 [.bool a0] (.sl false 6 96 (rows w5.cells r)) := by
 intro st
 unfold W4 at h
 refine O4 (N := 128) (rs := [.tmp 2]) (keep := [0, 2, 3, 4, 5, 6, 7, 8, 9, 91]) Tryz.func26 rfl rfl rfl (by kernel_rfl) rfl fun hsc => ?_
 (repeat apply sq_); apply er_; simp only [go_sem]
 (repeat apply sq_); apply er_; simp only [go_sem]
 obtain ⟨v1, hv1, h⟩ := C6 h
 refine ((J8 _ _ hv1)).to ?_
 try simp only [go_sem]
 obtain ⟨v2, hv2, h⟩ := C6 h
 refine ((J8 _ _ hv2)).to ?_
 try simp only [go_sem]
 (repeat apply sq_); apply er_; simp only [go_sem]
 obtain ⟨v3, hv3, h⟩ := C6 h
 refine ((C8 _ _ _ hv3)).to ?_
 try simp only [go_sem]
 (repeat apply sq_); apply er_; simp only [go_sem]
 obtain ⟨v4, hv4, h⟩ := C6 h
 refine ((C8 _ _ _ hv4)).to ?_
 try simp only [go_sem]
 (repeat apply sq_); apply er_; simp only [go_sem]
 obtain ⟨v5, hv5, h⟩ := C6 h
 refine ((C8 _ _ _ hv5)).to ?_
 try simp only [go_sem]
 (repeat apply sq_); apply er_; simp only [go_sem]
 obtain ⟨v6, hv6, h⟩ := C6 h
 refine ((C8 _ _ _ hv6)).to ?_
 try simp only [go_sem]
 (repeat apply sq_); refine ak [] 1 follows (by kernel_rfl) (by rfl) ?_; simp only [go_sem, List.replicate_succ, List.replicate_zero]
 obtain ⟨v7, hv7, h⟩ := C6 h
 refine A0 (y4 _ _ hv7) ?_
 try simp only [go_sem]
 obtain ⟨v8, hv8, h⟩ := C6 h
 refine A0 (y4 _ _ hv8) ?_
 try simp only [go_sem]
 obtain ⟨v9, hv9, h⟩ := C6 h
 refine A0 (B3 _ _ _ hv9) ?_
 try simp only [go_sem]
 obtain ⟨v10, hv10, h⟩ := C6 h
 refine A0 (y9 _ _ _ hv10) ?_
 try simp only [go_sem]
 obtain ⟨v11, hv11, h⟩ := C6 h
 refine A0 (y9 _ _ _ hv11) ?_
 try simp only [go_sem]
 obtain ⟨v12, hv12, h⟩ := C6 h
 refine A0 (y4 _ _ hv12) ?_
 try simp only [go_sem]
 obtain ⟨v13, hv13, h⟩ := C6 h
 refine A0 (y4 _ _ hv13) ?_
 try simp only [go_sem]
 obtain ⟨v14, hv14, h⟩ := C6 h
 refine A0 (B3 _ _ _ hv14) ?_
 try simp only [go_sem]
 obtain ⟨v15, hv15, h⟩ := C6 h
 refine A0 (y9 _ _ _ hv15) ?_
 try simp only [go_sem]
 obtain ⟨v16, hv16, h⟩ := C6 h
 refine A0 (y9 _ _ _ hv16) ?_
 try simp only [go_sem]
 obtain ⟨v17, hv17, h⟩ := C6 h
 refine A0 (y4 _ _ hv17) ?_
 try simp only [go_sem]
 obtain ⟨v18, hv18, h⟩ := C6 h
 refine A0 (y9 _ _ _ hv18) ?_
 try simp only [go_sem]
 obtain ⟨v19, hv19, h⟩ := C6 h
 refine A0 (y4 _ _ hv19) ?_
 try simp only [go_sem]
 obtain ⟨v20, hv20, h⟩ := C6 h
 refine A0 (y4 _ _ hv20) ?_
 try simp only [go_sem]
 obtain ⟨v21, hv21, h⟩ := C6 h
 refine A0 (y4 _ _ hv21) ?_
 try simp only [go_sem]
 obtain ⟨v22, hv22, h⟩ := C6 h
 refine A0 (B3 _ _ _ hv22) ?_
 try simp only [go_sem]
 obtain ⟨v23, hv23, h⟩ := C6 h
 refine A0 (y4 _ _ hv23) ?_
 try simp only [go_sem]
 obtain ⟨v24, hv24, h⟩ := C6 h
 refine A0 (B3 _ _ _ hv24) ?_
 try simp only [go_sem]
 obtain ⟨v25, hv25, h⟩ := C6 h
 refine A0 (y9 _ _ _ hv25) ?_
 try simp only [go_sem]
 obtain ⟨v26, hv26, h⟩ := C6 h
 refine A0 (B3 _ _ _ hv26) ?_
 try simp only [go_sem]
 obtain ⟨v27, hv27, h⟩ := C6 h
 refine A0 (y9 _ _ _ hv27) ?_
 try simp only [go_sem]
 obtain ⟨v28, hv28, h⟩ := C6 h
 refine A0 (y9 _ _ _ hv28) ?_
 try simp only [go_sem]
 obtain ⟨v29, hv29, h⟩ := C6 h
 refine A0 (y9 _ _ _ hv29) ?_
 try simp only [go_sem]
 obtain ⟨v30, hv30, h⟩ := C6 h
 refine A0 (C8 _ _ _ hv30) ?_
 try simp only [go_sem]
 obtain ⟨v31, hv31, h⟩ := C6 h
 refine A0 (y4 _ _ hv31) ?_
 try simp only [go_sem]
 obtain ⟨v32, hv32, h⟩ := C6 h
 refine A0 (y4 _ _ hv32) ?_
 try simp only [go_sem]
 obtain ⟨v33, hv33, h⟩ := C6 h
 refine A0 (y4 _ _ hv33) ?_
 try simp only [go_sem]
 obtain ⟨v34, hv34, h⟩ := C6 h
 refine A0 (B3 _ _ _ hv34) ?_
 try simp only [go_sem]
 obtain ⟨v35, hv35, h⟩ := C6 h
 refine A0 (B3 _ _ _ hv35) ?_
 try simp only [go_sem]
 obtain ⟨v36, hv36, h⟩ := C6 h
 refine A0 (y9 _ _ _ hv36) ?_
 try simp only [go_sem]
 obtain ⟨v37, hv37, h⟩ := C6 h
 refine A0 (y9 _ _ _ hv37) ?_
 try simp only [go_sem]
 obtain ⟨v38, hv38, h⟩ := C6 h
 refine A0 (y9 _ _ _ hv38) ?_
 try simp only [go_sem]
 obtain ⟨v39, hv39, h⟩ := C6 h
 refine A0 (C8 _ _ _ hv39) ?_
 try simp only [go_sem]
 obtain ⟨v40, hv40, h⟩ := C6 h
 refine A0 (C8 _ _ _ hv40) ?_
 try simp only [go_sem]
 obtain ⟨v41, hv41, h⟩ := C6 h
 refine A0 (y4 _ _ hv41) ?_
 try simp only [go_sem]
 obtain ⟨v42, hv42, h⟩ := C6 h
 refine A0 (y4 _ _ hv42) ?_
 try simp only [go_sem]
 obtain ⟨v43, hv43, h⟩ := C6 h
 refine A0 (y4 _ _ hv43) ?_
 try simp only [go_sem]
 obtain ⟨v44, hv44, h⟩ := C6 h
 refine A0 (B3 _ _ _ hv44) ?_
 try simp only [go_sem]
 obtain ⟨v45, hv45, h⟩ := C6 h
 refine A0 (B3 _ _ _ hv45) ?_
 try simp only [go_sem]
 obtain ⟨v46, hv46, h⟩ := C6 h
 refine A0 (y4 _ _ hv46) ?_
 try simp only [go_sem]
 obtain ⟨v47, hv47, h⟩ := C6 h
 refine A0 (y4 _ _ hv47) ?_
 try simp only [go_sem]
 obtain ⟨v48, hv48, h⟩ := C6 h
 refine A0 (B3 _ _ _ hv48) ?_
 try simp only [go_sem]
 obtain ⟨v49, hv49, h⟩ := C6 h
 refine A0 (B3 _ _ _ hv49) ?_
 try simp only [go_sem]
 obtain ⟨v50, hv50, h⟩ := C6 h
 refine A0 (y9 _ _ _ hv50) ?_
 try simp only [go_sem]
 obtain ⟨v51, hv51, h⟩ := C6 h
 refine A0 (y9 _ _ _ hv51) ?_
 try simp only [go_sem]
 obtain ⟨v52, hv52, h⟩ := C6 h
 refine A0 (y9 _ _ _ hv52) ?_
 try simp only [go_sem]
 obtain ⟨v53, hv53, h⟩ := C6 h
 refine A0 (y9 _ _ _ hv53) ?_
 have e54 : (576 ≤ top) = True := by simp [top]
 try simp only [go_sem, e54]
 (repeat apply sq_); apply er_; simp only [go_sem]
 (repeat apply sq_); refine D4 (by rfl) (fun hc => ?_) fun hc => ?_
 ·replace h := B0 h (by first | exact hc | simpa using hc)
  (repeat apply sq_); refine ak [] 0 follows (by kernel_rfl) (by rfl) ?_; simp only [go_sem, List.replicate_succ, List.replicate_zero]
  obtain ⟨v55, hv55, h⟩ := C6 h
  refine A0 (y4 _ _ hv55) ?_
  try simp only [go_sem]
  obtain ⟨v56, hv56, h⟩ := C6 h
  refine A0 (y4 _ _ hv56) ?_
  try simp only [go_sem]
  obtain ⟨v57, hv57, h⟩ := C6 h
  refine A0 (B3 _ _ _ hv57) ?_
  try simp only [go_sem]
  obtain ⟨v58, hv58, h⟩ := C6 h
  refine A0 (y9 _ _ _ hv58) ?_
  try simp only [go_sem]
  obtain ⟨v59, hv59, h⟩ := C6 h
  refine A0 (y9 _ _ _ hv59) ?_
  try simp only [go_sem]
  (repeat apply sq_); refine ak [] 0 follows (by kernel_rfl) (by rfl) ?_; simp only [go_sem, List.replicate_succ, List.replicate_zero]
  obtain ⟨v60, hv60, h⟩ := C6 h
  refine A0 (y4 _ _ hv60) ?_
  try simp only [go_sem]
  obtain ⟨v61, hv61, h⟩ := C6 h
  refine A0 (y4 _ _ hv61) ?_
  try simp only [go_sem]
  obtain ⟨v62, hv62, h⟩ := C6 h
  refine A0 (B3 _ _ _ hv62) ?_
  try simp only [go_sem]
  obtain ⟨v63, hv63, h⟩ := C6 h
  refine A0 (y9 _ _ _ hv63) ?_
  try simp only [go_sem]
  obtain ⟨v64, hv64, h⟩ := C6 h
  refine A0 (y9 _ _ _ hv64) ?_
  try simp only [go_sem]
  (repeat apply sq_); refine ak [] 0 follows (by kernel_rfl) (by rfl) ?_; simp only [go_sem, List.replicate_succ, List.replicate_zero]
  obtain ⟨v65, hv65, h⟩ := C6 h
  refine A0 (y4 _ _ hv65) ?_
  try simp only [go_sem]
  obtain ⟨v66, hv66, h⟩ := C6 h
  refine A0 (y4 _ _ hv66) ?_
  try simp only [go_sem]
  obtain ⟨v67, hv67, h⟩ := C6 h
  refine A0 (y4 _ _ hv67) ?_
  try simp only [go_sem]
  obtain ⟨v68, hv68, h⟩ := C6 h
  refine A0 (B3 _ _ _ hv68) ?_
  try simp only [go_sem]
  obtain ⟨v69, hv69, h⟩ := C6 h
  refine A0 (y4 _ _ hv69) ?_
  try simp only [go_sem]
  obtain ⟨v70, hv70, h⟩ := C6 h
  refine A0 (B3 _ _ _ hv70) ?_
  try simp only [go_sem]
  obtain ⟨v71, hv71, h⟩ := C6 h
  refine A0 (y9 _ _ _ hv71) ?_
  try simp only [go_sem]
  obtain ⟨v72, hv72, h⟩ := C6 h
  refine A0 (B3 _ _ _ hv72) ?_
  try simp only [go_sem]
  obtain ⟨v73, hv73, h⟩ := C6 h
  refine A0 (y9 _ _ _ hv73) ?_
  try simp only [go_sem]
  obtain ⟨v74, hv74, h⟩ := C6 h
  refine A0 (y9 _ _ _ hv74) ?_
  try simp only [go_sem]
  obtain ⟨v75, hv75, h⟩ := C6 h
  refine A0 (y9 _ _ _ hv75) ?_
  try simp only [go_sem]
  (repeat apply sq_); apply er_; simp only [go_sem]
  (repeat apply sq_); refine E3 ?_
  try simp only [go_sem]
  have hr := Option.some.inj h
  refine E4 ?_; simp only [go_sem]
  exact y3 (d' := .sl false 6 96 (rows w5.cells [v59, v64, v18, v75, v38, v53])) hsc (.ref _ _ _ _ _ _ _ _ _ (dH.trans rfl) oD (by decide) (by simp [Imm, D.imm]) (by simp only [go_sem, rows, List.map_cons, List.map_nil])) (by simp) ⟨by subst hr; rfl, rfl⟩
 ·replace h := B1 h (by first | exact hc | simpa using hc)
  refine E6 ?_; try simp only [go_sem]
  (repeat apply sq_); apply er_; simp only [go_sem]
  (repeat apply sq_); refine E3 ?_
  try simp only [go_sem]
  have hr := Option.some.inj h
  refine E4 ?_; simp only [go_sem]
  exact y3 (d' := .sl false 6 96 (rows w5.cells [v11, v16, v18, v29, v38, v53])) hsc (.ref _ _ _ _ _ _ _ _ _ (dH.trans rfl) oD (by decide) (by simp [Imm, D.imm]) (by simp only [go_sem, rows, List.map_cons, List.map_nil])) (by simp) ⟨by subst hr; rfl, rfl⟩
theorem E9 (n : Nat) (a0 : (List (List Int))) (r : y5) (h : E5 n a0 = some r) : Pure Tryz.prog gl 27 [.sl false 1 24 (rows (slc 1 8 O1) a0)] (.agg [.sl false 2 32 (rows w8.cells r.nodes)]) := by
 intro st
 unfold E5 at h
 refine O4 (N := 48) (rs := [.cell 2 30]) (keep := [0, 2, 3, 5, 6, 7, 8, 9, 10, 11, 22]) Tryz.func27 rfl rfl rfl (by kernel_rfl) rfl fun hsc => ?_
 (repeat apply sq_); apply er_; simp only [go_sem]
 (repeat apply sq_); apply er_; simp only [go_sem]
 (repeat apply sq_); apply er_; simp only [go_sem]
 (repeat apply sq_); refine Z7 2 32 ?_
 try simp only [List.append_assoc, List.cons_append, List.nil_append]
 refine L6 (F := [(2, .ptr st.length 0 0 0), (3, .ptr (st.length + 1) 0 0 0), (8, .sl false 1 24 (rows (slc 1 8 O1) a0)), (9, .int .i64 (↑a0.length : Int)), (10, .int .i64 0)]) (T := st ++ [some (.arr 0 1 0 [[.B4]]), some (.arr 0 1 0 [[.ref false (st.length + 2) 0 0 0]]), some (.arr 0 2 32 (rows w8.cells []))]) (G0 hsc (.lv (.live _ _ _ _ (.arr _ _ _ _ _ (.cons _ _ _ _ (.cons _ _ _ _ (.nref _ _ _ _ _ _ (dH.trans rfl)) .nil) (.same _))) (.lv (.nil _)))) (by simp) ⟨.s, .s, .s, .s, .s, trivial⟩ (by simp)) ?_
 (repeat apply sq_); refine fG (t := 8) rfl fun hl0 => ?_
 simp only [eF] at hl0
 (repeat apply sq_); refine arg_ (body := S6 n a0) (kk := S7) (n := a0.length) (s0 := [])
  (fun (gs0 : Nat) (k0 : Nat) (s0 : (List w8)) => [(2, .ptr st.length 0 0 0), (3, .ptr (st.length + 1) 0 0 0), (8, .sl false 1 24 (rows (slc 1 8 O1) a0)), (9, .int .i64 (↑a0.length : Int)), (10, .int .i64 (↑k0 : Int))])
  (fun (gs0 : Nat) (k0 : Nat) (s0 : (List w8)) => st ++ [some (.arr 0 1 0 [[.B4]]), some (.arr 0 1 0 [[.ref false (st.length + 2) gs0 0 s0.length]]), some (.arr gs0 2 32 (rows w8.cells s0))])
  (fun (gt0 : Nat) (t0 : (List w8)) => [(2, .ptr st.length 0 0 0), (3, .ptr (st.length + 1) 0 0 0)])
  (fun (gt0 : Nat) (t0 : (List w8)) => st ++ [some (.arr 0 1 0 [[.B4]]), some (.arr 0 1 0 [[.ref false (st.length + 2) gt0 0 t0.length]]), some (.arr gt0 2 32 (rows w8.cells t0))])
  0 h (G0 hsc (.lv (.lv (.lv (.nil _)))) (by simp) ⟨.s, .s, .s, .s, .s, trivial⟩ (by simp))
  (fun gs0 k0 s0 b0 hk0 h hx0 => ?_) (fun gs0 s0 => ?_) (fun gt0 t0 fr1 st1 h hb => ?_)
 ·unfold S6 at h
  have hw0 : wr .i64 ((↑k0 : Int) + 1) = (↑(k0 + 1) : Int) := gy hk0 hl0 (by decide)
  (repeat apply sq_); apply er_; simp only [go_sem]
  (repeat apply sq_); refine D4 (by rfl) (fun hc => ?_) fun hc => ?_
  ·refine E6 ?_; try simp only [go_sem]
   (repeat apply sq_); refine U8 ?_
   (repeat apply sq_); apply er_; simp only [go_sem, hk0, hw0]
   obtain ⟨f23, h⟩ := G1 h
   (repeat apply sq_); apply er_; simp only [go_sem, hk0, hw0, f23]
   (repeat apply sq_); apply er_; simp only [go_sem, hk0, hw0, f23]
   (repeat apply sq_); refine Z7 2 16 ?_
   try simp only [List.append_assoc, List.cons_append, List.nil_append]
   refine L6 (F := [(2, .ptr st.length 0 0 0), (3, .ptr (st.length + 1) 0 0 0), (5, .sl false 1 8 (rows O1 (get a0 k0))), (6, .ptr (st.length + 3) 0 0 0), (7, .int .i64 1), (8, .sl false 1 24 (rows (slc 1 8 O1) a0)), (9, .int .i64 (↑a0.length : Int)), (10, .int .i64 (↑k0 : Int))]) (T := st ++ [some (.arr 0 1 0 [[.B4]]), some (.arr 0 1 0 [[.ref false (st.length + 2) gs0 0 s0.length]]), some (.arr gs0 2 32 (rows w8.cells s0)), some (.arr 0 2 0 [[.int .i64 (get (get a0 k0) 0), .ref false (st.length + 4) 0 0 0]]), some (.arr 0 2 16 (rows D8.cells []))]) (G0 hsc (.lv (.lv (.lv (.live _ _ _ _ (.arr _ _ _ _ _ (.cons _ _ _ _ (.cons _ _ _ _ .s (.cons _ _ _ _ (.nref _ _ _ _ _ _ (dH.trans rfl)) .nil)) (.same _))) (.lv (.nil _)))))) (by simp) ⟨.s, .s, .s, .s, .s, .s, .s, .s, trivial⟩ (by simp)) ?_
   (repeat apply sq_); refine O5 (body := S4 a0 k0) (kk := S5 s0 a0 k0) (n := n) (s0 := ([], 1))
    (fun (gs2 : Nat) (s2 : (List D8) × Int) => [(2, .ptr st.length 0 0 0), (3, .ptr (st.length + 1) 0 0 0), (5, .sl false 1 8 (rows O1 (get a0 k0))), (6, .ptr (st.length + 3) 0 0 0), (7, .int .i64 s2.2), (8, .sl false 1 24 (rows (slc 1 8 O1) a0)), (9, .int .i64 (↑a0.length : Int)), (10, .int .i64 (↑k0 : Int))])
    (fun (gs2 : Nat) (s2 : (List D8) × Int) => st ++ [some (.arr 0 1 0 [[.B4]]), some (.arr 0 1 0 [[.ref false (st.length + 2) gs0 0 s0.length]]), some (.arr gs0 2 32 (rows w8.cells s0)), some (.arr 0 2 0 [[.int .i64 (get (get a0 k0) 0), .ref false (st.length + 4) gs2 0 s2.1.length]]), some (.arr gs2 2 16 (rows D8.cells s2.1))])
    (fun (gt2 : Nat) (t2 : (List D8)) => [(2, .ptr st.length 0 0 0), (3, .ptr (st.length + 1) 0 0 0), (6, .ptr (st.length + 3) 0 0 0), (8, .sl false 1 24 (rows (slc 1 8 O1) a0)), (9, .int .i64 (↑a0.length : Int)), (10, .int .i64 (↑k0 : Int))])
    (fun (gt2 : Nat) (t2 : (List D8)) => st ++ [some (.arr 0 1 0 [[.B4]]), some (.arr 0 1 0 [[.ref false (st.length + 2) gs0 0 s0.length]]), some (.arr gs0 2 32 (rows w8.cells s0)), some (.arr 0 2 0 [[.int .i64 (get (get a0 k0) 0), .ref false (st.length + 4) gt2 0 t2.length]]), some (.arr gt2 2 16 (rows D8.cells t2))])
    0 h (G0 hsc (.lv (.lv (.lv (.lv (.lv (.nil _)))))) (by simp) ⟨.s, .s, .s, .s, .s, .s, .s, .s, trivial⟩ (by simp))
    (fun gs2 s2 b2 h hx2 => ?_) (fun gt2 t2 fr1 st1 h hb => ?_)
   ·unfold S4 at h
    (repeat apply sq_); apply er_; simp only [go_sem, hk0, hw0, f23]
    (repeat apply sq_); refine D4 (by rfl) (fun hc => ?_) fun hc => ?_
    ·replace h := B0 h (by first | exact hc | simpa using hc)
     refine E6 ?_; try simp only [go_sem, hk0, hw0, f23]
     (repeat apply sq_); refine U8 ?_
     obtain ⟨⟨f33, f34⟩, h⟩ := G1 h
     obtain ⟨⟨f35, f36⟩, h⟩ := G1 h
     have e37 : (16 ≤ top) = True := by simp [top]
     obtain ⟨c38, Jo, h⟩ := lD h
     have e39 : rows D8.cells s2.1 ++ [[.int .i64 (get (get a0 k0) s2.2.toNat), .int .i64 (get (get a0 k0) ((wr .i64 (s2.2 + 1)).toNat))]] = rows D8.cells c38 := by rw [Jo]; first | exact L5 (E := D8.cells) s2.1 [(D8.mk (get (get a0 k0) s2.2.toNat) (get (get a0 k0) ((wr .i64 (s2.2 + 1)).toNat)))] | simp only [go_sem, rows, List.map_append, List.map_cons, List.map_nil]
     have e40 : s2.1.length + 1 = c38.length := by rw [Jo]; simp
     obtain ⟨⟨f41, f42⟩, h⟩ := G1 h
     (repeat apply sq_); refine ak [] 2 follows (by kernel_rfl) (by rfl) ?_; simp only [go_sem, List.replicate_succ, List.replicate_zero, hk0, hw0, f23, f33, f34, f35, f36, f41, f42, e37, e39, e40]
     (repeat apply sq_); apply er_; simp only [go_sem, hk0, hw0, f23, f33, f34, f35, f36, f41, f42]
     cases h
     exact U4 (gs2 + 1) (G0 hsc (.lv (.lv (.lv (.lv (.lv (.nil _)))))) (by simp) ⟨.s, .s, .s, .s, .s, .s, .s, .s, trivial⟩ (by simp))
    ·replace h := B1 h (by first | exact hc | simpa using hc)
     (repeat apply sq_); refine Y2 ?_; try simp only [go_sem, hk0, hw0, f23]
     cases h
     exact bL gs2 (G0 hsc (.lv (.lv (.lv (.lv (.lv (.nil _)))))) (by simp) ⟨.s, .s, .s, .s, .s, .s, trivial⟩ (by simp))
   ·try simp only [go_sem, hk0, hw0, f23]
    unfold S5 at h
    refine L6 hb ?_
    have e43 : (32 ≤ top) = True := by simp [top]
    obtain ⟨⟨f44, f45⟩, h⟩ := G1 h
    (repeat apply sq_); apply er_; simp only [go_sem, hk0, hw0, f23, f44, f45, e43]
    (repeat apply sq_); apply er_; simp only [go_sem, hk0, hw0, f23, f44, f45]
    cases h
    exact bK (gs0 + 1) (G0 hsc (.lv (.live _ _ _ _ (.arr _ _ _ _ _ (.cons _ _ _ _ (.cons _ _ _ _ (jh (by first | (simp; done) | simp [Fr.get])) .nil) (.same _))) (.live _ _ _ _ (.arr _ _ _ _ _ (dI (.cons _ _ _ _ (.cons _ _ _ _ .s (.cons _ _ _ _ (.ref _ _ _ _ _ _ _ _ _ (dH.trans rfl) (bT (by first | decide | simp)) (by decide) (kB _) (by simp only [go_sem])) .nil)) .nil))) (.nil _)))) (by simp) ⟨.s, .s, .s, .s, .s, trivial⟩ (by simp))
  ·exfalso; have hc := of_decide_eq_false hc; omega
 ·(repeat apply sq_); apply er_; simp only [go_sem]
  (repeat apply sq_); refine D4 (by rfl) (fun hc => ?_) fun hc => ?_
  ·exfalso; first | exact Bool.noConfusion hc | (have hc := of_decide_eq_true hc; omega)
  ·refine Y2 ?_; simp only [go_sem]
   exact ⟨gs0, (G0 hsc (.lv (.lv (.lv (.nil _)))) (by simp) ⟨.s, .s, trivial⟩ (by simp))⟩
 ·try simp only [go_sem]
  unfold S7 at h
  refine L6 hb ?_
  (repeat apply sq_); apply er_; simp only [go_sem]
  (repeat apply sq_); refine E3 ?_
  try simp only [go_sem]
  have hr := Option.some.inj h
  refine E4 ?_; simp only [go_sem]
  exact y3 (d' := .agg [.sl false 2 32 (rows w8.cells t0)]) hsc (.agg _ _ (.cons _ _ _ _ (.ref _ _ _ _ _ _ _ _ _ (dH.trans rfl) oD (by decide) (kB _) (by simp only [go_sem])) .nil)) (by simp) ⟨by subst hr; rfl, rfl⟩
end Go.Proofs.YtaohdfpcdfbnlaaGreatDoor
