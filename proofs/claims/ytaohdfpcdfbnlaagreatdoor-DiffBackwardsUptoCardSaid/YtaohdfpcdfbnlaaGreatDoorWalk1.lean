import Derived.Test.YtaohdfpcdfbnlaaGreatDoorBase
import Derived.Test.YtaohdfpcdfbnlaaGreatDoorHand
import Derived.Test.YtaohdfpcdfbnlaaGreatDoorMirrors
import Derived.Test.YtaohdfpcdfbnlaaGreatDoorWalk0
set_option linter.unusedVariables false
set_option linter.unusedSimpArgs false
set_option maxHeartbeats 2000000
set_option maxRecDepth 100000
namespace Go.Proofs.YtaohdfpcdfbnlaaGreatDoor
open Go Go.Am
theorem C0 (a0 : Bs) (a1 : u0) (r : w5) (h : C1 a0 a1 = some r) : Pure Tryz.prog gl 30 [.str a0, .agg [.str a1.base, .sl false 2 40 (rows u0.cells a1.args)]] (.agg [.int .i64 r.kind, .str r.name, .int .i64 r.index, .str r.type.base, .sl false 2 40 (rows u0.cells r.type.args), .sl false 6 96 (rows w5.cells r.args)]) := by
 intro st
 unfold C1 at h
 refine O4 (N := 8) (rs := [.cell 4 64]) (keep := [0, 1, 3, 4]) Tryz.func30 rfl rfl rfl (by kernel_rfl) rfl fun hsc => ?_
 (repeat apply sq_); apply er_; simp only [go_sem]
 (repeat apply sq_); apply er_; simp only [go_sem]
 (repeat apply sq_); refine E3 ?_
 try simp only [go_sem]
 have hr := Option.some.inj h
 refine E4 ?_; simp only [go_sem]
 exact y3 (d' := .agg [.int .i64 1, .str a0, .int .i64 0, .str a1.base, .sl false 2 40 (rows u0.cells a1.args), .sl false 6 96 (rows w5.cells [])]) hsc (.agg _ _ (.cons _ _ _ _ .s (.cons _ _ _ _ .s (.cons _ _ _ _ .s (.cons _ _ _ _ .s (.cons _ _ _ _ .s (.cons _ _ _ _ (.B4 _ _ _ (by decide)) .nil))))))) (by simp) ⟨by subst hr; rfl, rfl⟩
theorem N9 (a0 : Bs) (a1 : Bs) (a2 : Bool) (r : w5) (h : J9 a0 a1 a2 = some r) : Pure Tryz.prog gl 29 [.str a0, .str a1, .bool a2] (.agg [.int .i64 r.kind, .str r.name, .int .i64 r.index, .str r.type.base, .sl false 2 40 (rows u0.cells r.type.args), .sl false 6 96 (rows w5.cells r.args)]) := by
 intro st
 unfold J9 at h
 refine O4 (N := 51) (rs := [.cell 6 64]) (keep := [0, 1, 2, 6, 7, 8, 9, 10, 39]) Tryz.func29 rfl rfl rfl (by kernel_rfl) rfl fun hsc => ?_
 (repeat apply sq_); apply er_; simp only [go_sem]
 (repeat apply sq_); apply er_; simp only [go_sem]
 obtain ⟨v1, hv1, h⟩ := C6 h
 refine ((J8 _ _ hv1)).to ?_
 try simp only [go_sem]
 obtain ⟨v2, hv2, h⟩ := C6 h
 refine ((J8 _ _ hv2)).to ?_
 try simp only [go_sem]
 (repeat apply sq_); apply er_; simp only [go_sem]
 obtain ⟨v3, hv3, h⟩ := C6 h
 refine ((C8 _ _ _ hv3)).to ?_
 try simp only [go_sem]
 (repeat apply sq_); refine ak [] 1 follows (by kernel_rfl) (by rfl) ?_; simp only [go_sem, List.replicate_succ, List.replicate_zero]
 obtain ⟨v4, hv4, h⟩ := C6 h
 refine A0 (C8 _ _ _ hv4) ?_
 try simp only [go_sem]
 obtain ⟨v5, hv5, h⟩ := C6 h
 refine A0 (C0 _ _ _ hv5) ?_
 try simp only [go_sem]
 obtain ⟨v6, hv6, h⟩ := C6 h
 refine A0 (C8 _ _ _ hv6) ?_
 try simp only [go_sem]
 obtain ⟨v7, hv7, h⟩ := C6 h
 refine A0 (C8 _ _ _ hv7) ?_
 try simp only [go_sem]
 obtain ⟨v8, hv8, h⟩ := C6 h
 refine A0 (C0 _ _ _ hv8) ?_
 try simp only [go_sem]
 obtain ⟨v9, hv9, h⟩ := C6 h
 refine A0 (y4 _ _ hv9) ?_
 try simp only [go_sem]
 obtain ⟨v10, hv10, h⟩ := C6 h
 refine A0 (y4 _ _ hv10) ?_
 try simp only [go_sem]
 obtain ⟨v11, hv11, h⟩ := C6 h
 refine A0 (B3 _ _ _ hv11) ?_
 try simp only [go_sem]
 obtain ⟨v12, hv12, h⟩ := C6 h
 refine A0 (B3 _ _ _ hv12) ?_
 try simp only [go_sem]
 obtain ⟨v13, hv13, h⟩ := C6 h
 refine A0 (y4 _ _ hv13) ?_
 try simp only [go_sem]
 obtain ⟨v14, hv14, h⟩ := C6 h
 refine A0 (y4 _ _ hv14) ?_
 try simp only [go_sem]
 obtain ⟨v15, hv15, h⟩ := C6 h
 refine A0 (B3 _ _ _ hv15) ?_
 try simp only [go_sem]
 obtain ⟨v16, hv16, h⟩ := C6 h
 refine A0 (B3 _ _ _ hv16) ?_
 try simp only [go_sem]
 obtain ⟨v17, hv17, h⟩ := C6 h
 refine A0 (y9 _ _ _ hv17) ?_
 try simp only [go_sem]
 obtain ⟨v18, hv18, h⟩ := C6 h
 refine A0 (B3 _ _ _ hv18) ?_
 try simp only [go_sem]
 (repeat apply sq_); apply er_; simp only [go_sem]
 (repeat apply sq_); refine pN (K7 v3) r (fun (gj0 : Unit) (j0 : Int × Bs × Int × Bs × (List u0) × (List w5)) => [(6, .ptr st.length 0 0 0), (9, .ptr (st.length + 3) 0 0 0), (10, .ptr (st.length + 4) 0 0 0)]) (fun (gj0 : Unit) (j0 : Int × Bs × Int × Bs × (List u0) × (List w5)) => st ++ [some (.arr 0 6 0 [[.int .i64 0, .str [], .int .i64 0, .str [], .B4, .B4]]), none, none, some (.arr 0 2 0 [[.str v3.base, .sl false 2 40 (rows u0.cells v3.args)]]), some (.arr 0 6 0 [[.int .i64 j0.1, .str j0.2.1, .int .i64 j0.2.2.1, .str j0.2.2.2.1, .sl false 2 40 (rows u0.cells j0.2.2.2.2.1), .sl false 6 96 (rows w5.cells j0.2.2.2.2.2)]])]) (fun gj0 j0 fr1 st1 h hb => ?_) (fun hj0 => ?_)
 ·try simp only [go_sem]
  unfold K7 at h
  refine L6 hb ?_
  (repeat apply sq_); refine ak [] 0 follows (by kernel_rfl) (by rfl) ?_; simp only [go_sem, List.replicate_succ, List.replicate_zero]
  obtain ⟨v22, hv22, h⟩ := C6 h
  refine A0 (y9 _ _ _ hv22) ?_
  try simp only [go_sem]
  obtain ⟨v23, hv23, h⟩ := C6 h
  refine A0 (y9 _ _ _ hv23) ?_
  try simp only [go_sem]
  (repeat apply sq_); refine E3 ?_
  try simp only [go_sem]
  have hr := Option.some.inj h
  refine E4 ?_; simp only [go_sem]
  exact y3 (d' := .agg [.int .i64 v23.kind, .str v23.name, .int .i64 v23.index, .str v23.type.base, .sl false 2 40 (rows u0.cells v23.type.args), .sl false 6 96 (rows w5.cells v23.args)]) hsc (.same _) (by simp) ⟨by subst hr; rfl, rfl⟩
 ·(repeat apply sq_); refine D4 (by rfl) (fun hc => ?_) fun hc => ?_
  ·replace h := B0 h (by first | exact hc | simpa using hc)
   (repeat apply sq_); refine ak [] 0 follows (by kernel_rfl) (by rfl) ?_; simp only [go_sem, List.replicate_succ, List.replicate_zero]
   obtain ⟨v19, hv19, h⟩ := C6 h
   refine A0 (C8 _ _ _ hv19) ?_
   try simp only [go_sem]
   obtain ⟨v20, hv20, h⟩ := C6 h
   refine A0 (C0 _ _ _ hv20) ?_
   try simp only [go_sem]
   obtain ⟨v21, hv21, h⟩ := C6 h
   refine A0 (B3 _ _ _ hv21) ?_
   try simp only [go_sem]
   exact hj0 () _ _ _ h (G0 hsc (.lv (.dead _ _ _ (.dead _ _ _ (.lv (.lv (.nil _)))))) (by simp) ⟨.s, .s, .s, trivial⟩ (by simp))
  ·replace h := B1 h (by first | exact hc | simpa using hc)
   refine E6 ?_; try simp only [go_sem]
   exact hj0 () _ _ _ h (G0 hsc (.lv (.dead _ _ _ (.dead _ _ _ (.lv (.lv (.nil _)))))) (by simp) ⟨.s, .s, .s, trivial⟩ (by simp))
theorem B2 (n : Nat) (a0 : Bs) (a1 : Int) (a2 : w5) (a3 : (List (List Int))) (dF : (List w7)) (Gn : (List x9)) (Gp : (List u6)) (l1 : (List w9)) (l2 : (List w8)) (r : (List w9)) (h : B5 n a0 a1 a2 a3 dF Gn Gp l1 l2 = some r) : ∀ (st : St) (o0 o1 o2 q1 q2 : Nat) (hnd : [o0, o1, o2].Nodup) (ji : Am.look st o0 = some (.arr 0 5 0 [[.sl false 2 40 (rows w7.cells dF), .sl false 3 32 (rows x9.cells Gn), .sl false 10 152 (rows u6.cells Gp), .ref false o1 q1 0 l1.length, .ref false o2 q2 0 l2.length]])) (Bj : Am.look st o1 = some (.arr q1 9 144 (rows w9.cells l1))) (Ix : Am.look st o2 = some (.arr q2 2 32 (rows w8.cells l2))), Am.Spec Tryz.prog gl 28 [.str a0, .int .i64 a1, .agg [.int .i64 a2.kind, .str a2.name, .int .i64 a2.index, .str a2.type.base, .sl false 2 40 (rows u0.cells a2.type.args), .sl false 6 96 (rows w5.cells a2.args)], .sl false 1 24 (rows (slc 1 8 O1) a3), .ptr o0 0 0 0] st (fun d st' => d = .tup [] ∧ st' = puts st [(o0, (.arr 0 5 0 [[.sl false 2 40 (rows w7.cells dF), .sl false 3 32 (rows x9.cells Gn), .sl false 10 152 (rows u6.cells Gp), .ref false o1 (q1 + 1) 0 r.length, .ref false o2 q2 0 l2.length]])), (o1, (.arr (q1 + 1) 9 144 (rows w9.cells r))), (o2, (.arr q2 2 32 (rows w8.cells l2)))]) := by
 intro st o0 o1 o2 q1 q2 hnd ji Bj Ix
 unfold B5 at h
 have ho0 := fP ji
 have ho1 := fP Bj
 have ho2 := fP Ix
 have CY := hnd
 simp only [List.nodup_cons, List.mem_cons, List.not_mem_nil, or_false, not_or, not_false_eq_true, List.nodup_nil, and_true] at CY
 obtain ⟨⟨uZ, GA⟩, GC⟩ := CY
 have D5 : (o0 = o1) = False := eq_false uZ
 have D6 : (o1 = o0) = False := eq_false (fun e => uZ e.symm)
 have Bl : (o0 = o2) = False := eq_false GA
 have Bm : (o2 = o0) = False := eq_false (fun e => GA e.symm)
 have Bn : (o1 = o2) = False := eq_false GC
 have Bo : (o2 = o1) = False := eq_false (fun e => GC e.symm)
 refine O4 (N := 20) (rs := []) (keep := [0, 1, 2, 3, 4, 7]) Tryz.func28 rfl rfl rfl (by kernel_rfl) rfl fun hsc => ?_
 refine pO (s' := (gu st [(o0, (.arr 0 5 0 [[.sl false 2 40 (rows w7.cells dF), .sl false 3 32 (rows x9.cells Gn), .sl false 10 152 (rows u6.cells Gp), .ref false o1 q1 0 l1.length, .ref false o2 q2 0 l2.length]])), (o1, (.arr q1 9 144 (rows w9.cells l1))), (o2, (.arr q2 2 32 (rows w8.cells l2)))])) (L7 (by simp [ji, Bj, Ix])) ?_
 (repeat apply sq_); apply er_; simp only [go_sem, C4 ho0, x7 ho0, C2 ho0, x6 ho0, C4 ho1, x7 ho1, C2 ho1, x6 ho1, C4 ho2, x7 ho2, C2 ho2, x6 ho2, D5, Bl, D6, Bn, Bm, Bo]
 (repeat apply sq_); refine ak [] 2 follows (by kernel_rfl) (by rfl) ?_; simp only [go_sem, List.replicate_succ, List.replicate_zero, C4 ho0, x7 ho0, C2 ho0, x6 ho0, C4 ho1, x7 ho1, C2 ho1, x6 ho1, C4 ho2, x7 ho2, C2 ho2, x6 ho2, D5, Bl, D6, Bn, Bm, Bo]
 obtain ⟨v1, hv1, h⟩ := C6 h
 refine A0 (E9 n _ _ hv1) ?_
 have e2 : (144 ≤ top) = True := by simp [top]
 obtain ⟨c3, hc3, h⟩ := lD h
 have e4 : rows w9.cells l1 ++ [[.str a0, .sl false 2 32 (rows w8.cells v1.nodes), .int .i64 a1, .int .i64 a2.kind, .str a2.name, .int .i64 a2.index, .str a2.type.base, .sl false 2 40 (rows u0.cells a2.type.args), .sl false 6 96 (rows w5.cells a2.args)]] = rows w9.cells c3 := by rw [hc3]; first | exact L5 (E := w9.cells) l1 [(w9.mk a0 v1 a1 a2)] | simp only [go_sem, rows, List.map_append, List.map_cons, List.map_nil]
 have e5 : l1.length + 1 = c3.length := by rw [hc3]; simp
 obtain ⟨⟨f6, f7⟩, h⟩ := G1 h
 try simp only [go_sem, C4 ho0, x7 ho0, C2 ho0, x6 ho0, C4 ho1, x7 ho1, C2 ho1, x6 ho1, C4 ho2, x7 ho2, C2 ho2, x6 ho2, D5, Bl, D6, Bn, Bm, Bo, f6, f7, e2, e4, e5]
 try simp only [go_sem, C4 ho0, x7 ho0, C2 ho0, x6 ho0, C4 ho1, x7 ho1, C2 ho1, x6 ho1, C4 ho2, x7 ho2, C2 ho2, x6 ho2, D5, Bl, D6, Bn, Bm, Bo, f6, f7]
 have hr := Option.some.inj h
 refine Ci ?_; simp only [go_sem, C4 ho0, x7 ho0, C2 ho0, x6 ho0, C4 ho1, x7 ho1, C2 ho1, x6 ho1, C4 ho2, x7 ho2, C2 ho2, x6 ho2, D5, Bl, D6, Bn, Bm, Bo, f6, f7]
 exact J2 (d' := .tup []) (by simp) (G2 hsc (by simp <;> omega)) (.same _) (by simp <;> omega) ⟨by subst hr; rfl, by subst hr; rfl⟩
theorem cO (n : Nat) (r : x5) (h : T6 n  = some r) : Pure Tryz.prog gl 8 [] (.agg [.sl false 2 40 (rows w7.cells r.hierarchy.types), .sl false 3 32 (rows x9.cells r.hierarchy.C9), .sl false 10 152 (rows u6.cells r.rules), .sl false 9 144 (rows w9.cells r.D0), .sl false 2 32 (rows w8.cells r.start.nodes)]) := by
 intro st
 unfold T6 at h
 refine O4 (N := 256) (rs := [.cell 0 32]) (keep := [0, 1, 2, 3, 4, 5, 6, 7]) Tryz.func8 rfl rfl rfl (by kernel_rfl) rfl fun hsc => ?_
 (repeat apply sq_); apply er_; simp only [go_sem]
 (repeat apply sq_); apply er_; simp only [go_sem]
 obtain ⟨v1, hv1, h⟩ := C6 h
 refine ((J8 _ _ hv1)).to ?_
 try simp only [go_sem]
 obtain ⟨v2, hv2, h⟩ := C6 h
 refine ((J8 _ _ hv2)).to ?_
 try simp only [go_sem]
 (repeat apply sq_); apply er_; simp only [go_sem]
 obtain ⟨v3, hv3, h⟩ := C6 h
 refine ((C8 _ _ _ hv3)).to ?_
 try simp only [go_sem]
 (repeat apply sq_); apply er_; simp only [go_sem]
 obtain ⟨v4, hv4, h⟩ := C6 h
 refine ((C8 _ _ _ hv4)).to ?_
 try simp only [go_sem]
 (repeat apply sq_); apply er_; simp only [go_sem]
 have e5 : (240 ≤ top) = True := by simp [top]
 have e6 : (120 ≤ top) = True := by simp [top]
 have e7 : (160 ≤ top) = True := by simp [top]
 (repeat apply sq_); apply er_; simp only [go_sem, e5, e6, e7]
 obtain ⟨v8, hv8, h⟩ := C6 h
 refine ((eB _ _ _ _ hv8)).to ?_
 try simp only [go_sem, e5, e6, e7]
 (repeat apply sq_); apply er_; simp only [go_sem]
 obtain ⟨v9, hv9, h⟩ := C6 h
 refine ((gb _ _ hv9)).to ?_
 try simp only [go_sem]
 obtain ⟨f10, h⟩ := G1 h
 have e11 : (56 ≤ top) = True := by simp [top]
 have e12 : (8 ≤ top) = True := by simp [top]
 have e13 : (24 ≤ top) = True := by simp [top]
 have e14 : (8 ≤ top) = True := by simp [top]
 have e15 : (24 ≤ top) = True := by simp [top]
 have e16 : (120 ≤ top) = True := by simp [top]
 (repeat apply sq_); refine ak [] 37 follows (by kernel_rfl) (by rfl) ?_; simp only [go_sem, List.replicate_succ, List.replicate_zero, f10, e11, e12, e13, e14, e15, e16]
 obtain ⟨v17, hv17, h⟩ := C6 h
 refine A0 (E9 n _ _ hv17) ?_
 obtain ⟨f18, h⟩ := G1 h
 have e19 : (56 ≤ top) = True := by simp [top]
 have e20 : (24 ≤ top) = True := by simp [top]
 have e21 : (8 ≤ top) = True := by simp [top]
 have e22 : (24 ≤ top) = True := by simp [top]
 have e23 : (24 ≤ top) = True := by simp [top]
 have e24 : (120 ≤ top) = True := by simp [top]
 try simp only [go_sem, f10, f18, e11, e12, e13, e14, e15, e16, e19, e20, e21, e22, e23, e24]
 obtain ⟨v25, hv25, h⟩ := C6 h
 refine A0 (E9 n _ _ hv25) ?_
 obtain ⟨f26, h⟩ := G1 h
 have e27 : (40 ≤ top) = True := by simp [top]
 have e28 : (24 ≤ top) = True := by simp [top]
 have e29 : (8 ≤ top) = True := by simp [top]
 have e30 : (24 ≤ top) = True := by simp [top]
 have e31 : (96 ≤ top) = True := by simp [top]
 try simp only [go_sem, f10, f18, f26, e11, e12, e13, e14, e15, e16, e19, e20, e21, e22, e23, e24, e27, e28, e29, e30, e31]
 obtain ⟨v32, hv32, h⟩ := C6 h
 refine A0 (E9 n _ _ hv32) ?_
 obtain ⟨f33, h⟩ := G1 h
 have e34 : (56 ≤ top) = True := by simp [top]
 have e35 : (24 ≤ top) = True := by simp [top]
 have e36 : (8 ≤ top) = True := by simp [top]
 have e37 : (24 ≤ top) = True := by simp [top]
 have e38 : (8 ≤ top) = True := by simp [top]
 have e39 : (120 ≤ top) = True := by simp [top]
 try simp only [go_sem, f10, f18, f26, f33, e11, e12, e13, e14, e15, e16, e19, e20, e21, e22, e23, e24, e27, e28, e29, e30, e31, e34, e35, e36, e37, e38, e39]
 obtain ⟨v40, hv40, h⟩ := C6 h
 refine A0 (E9 n _ _ hv40) ?_
 obtain ⟨f41, h⟩ := G1 h
 have e42 : (56 ≤ top) = True := by simp [top]
 have e43 : (24 ≤ top) = True := by simp [top]
 have e44 : (8 ≤ top) = True := by simp [top]
 have e45 : (8 ≤ top) = True := by simp [top]
 have e46 : (24 ≤ top) = True := by simp [top]
 have e47 : (120 ≤ top) = True := by simp [top]
 try simp only [go_sem, f10, f18, f26, f33, f41, e11, e12, e13, e14, e15, e16, e19, e20, e21, e22, e23, e24, e27, e28, e29, e30, e31, e34, e35, e36, e37, e38, e39, e42, e43, e44, e45, e46, e47]
 obtain ⟨v48, hv48, h⟩ := C6 h
 refine A0 (E9 n _ _ hv48) ?_
 obtain ⟨f49, h⟩ := G1 h
 have e50 : (72 ≤ top) = True := by simp [top]
 have e51 : (24 ≤ top) = True := by simp [top]
 have e52 : (8 ≤ top) = True := by simp [top]
 have e53 : (8 ≤ top) = True := by simp [top]
 have e54 : (8 ≤ top) = True := by simp [top]
 have e55 : (8 ≤ top) = True := by simp [top]
 have e56 : (144 ≤ top) = True := by simp [top]
 try simp only [go_sem, f10, f18, f26, f33, f41, f49, e11, e12, e13, e14, e15, e16, e19, e20, e21, e22, e23, e24, e27, e28, e29, e30, e31, e34, e35, e36, e37, e38, e39, e42, e43, e44, e45, e46, e47, e50, e51, e52, e53, e54, e55, e56]
 obtain ⟨v57, hv57, h⟩ := C6 h
 refine A0 (E9 n _ _ hv57) ?_
 have e58 : (912 ≤ top) = True := by simp [top]
 try simp only [go_sem, f10, f18, f26, f33, f41, f49, e11, e12, e13, e14, e15, e16, e19, e20, e21, e22, e23, e24, e27, e28, e29, e30, e31, e34, e35, e36, e37, e38, e39, e42, e43, e44, e45, e46, e47, e50, e51, e52, e53, e54, e55, e56, e58]
 (repeat apply sq_); apply er_; simp only [go_sem, f10, f18, f26, f33, f41, f49]
 (repeat apply sq_); refine Z7 9 144 ?_
 (repeat apply sq_); refine Z7 2 32 ?_
 try simp only [List.append_assoc, List.cons_append, List.nil_append]
 refine L6 (F := [(0, .ptr st.length 0 0 0), (1, .ptr (st.length + 1) 0 0 0), (2, .ptr (st.length + 2) 0 0 0), (3, .ptr (st.length + 3) 0 0 0), (4, .ptr (st.length + 4) 0 0 0), (5, .ptr (st.length + 5) 0 0 0), (7, .fn 28 [] [.ptr (st.length + 5) 0 0 0])]) (T := st ++ [some (.arr 0 5 0 [[.B4, .B4, .B4, .B4, .B4]]), some (.arr 0 2 0 [[.str v1.base, .sl false 2 40 (rows u0.cells v1.args)]]), some (.arr 0 2 0 [[.str v2.base, .sl false 2 40 (rows u0.cells v2.args)]]), some (.arr 0 2 0 [[.str v3.base, .sl false 2 40 (rows u0.cells v3.args)]]), some (.arr 0 2 0 [[.str v4.base, .sl false 2 40 (rows u0.cells v4.args)]]), some (.arr 0 5 0 [[.sl false 2 40 (rows w7.cells v8.types), .sl false 3 32 (rows x9.cells v8.C9), .sl false 10 152 [[.str [115], .sl false 2 32 (rows w8.cells v17.nodes), .int .i64 2, .int .i64 0, .int .i64 ((get v9 0).kind), .str ((get v9 0).name), .int .i64 ((get v9 0).index), .str ((get v9 0).type.base), .sl false 2 40 (rows u0.cells ((get v9 0).type.args)), .sl false 6 96 (rows w5.cells ((get v9 0).args))], [.str [110, 112], .sl false 2 32 (rows w8.cells v25.nodes), .int .i64 2, .int .i64 1, .int .i64 ((get v9 1).kind), .str ((get v9 1).name), .int .i64 ((get v9 1).index), .str ((get v9 1).type.base), .sl false 2 40 (rows u0.cells ((get v9 1).type.args)), .sl false 6 96 (rows w5.cells ((get v9 1).args))], [.str [118, 112, 45, 105, 118], .sl false 2 32 (rows w8.cells v32.nodes), .int .i64 1, .int .i64 0, .int .i64 ((get v9 2).kind), .str ((get v9 2).name), .int .i64 ((get v9 2).index), .str ((get v9 2).type.base), .sl false 2 40 (rows u0.cells ((get v9 2).type.args)), .sl false 6 96 (rows w5.cells ((get v9 2).args))], [.str [118, 112, 45, 116, 118], .sl false 2 32 (rows w8.cells v40.nodes), .int .i64 2, .int .i64 2, .int .i64 ((get v9 3).kind), .str ((get v9 3).name), .int .i64 ((get v9 3).index), .str ((get v9 3).type.base), .sl false 2 40 (rows u0.cells ((get v9 3).type.args)), .sl false 6 96 (rows w5.cells ((get v9 3).args))], [.str [118, 112, 45, 110, 111, 116], .sl false 2 32 (rows w8.cells v48.nodes), .int .i64 2, .int .i64 3, .int .i64 ((get v9 4).kind), .str ((get v9 4).name), .int .i64 ((get v9 4).index), .str ((get v9 4).type.base), .sl false 2 40 (rows u0.cells ((get v9 4).type.args)), .sl false 6 96 (rows w5.cells ((get v9 4).args))], [.str [110, 112, 45, 97, 110, 100], .sl false 2 32 (rows w8.cells v57.nodes), .int .i64 3, .int .i64 4, .int .i64 ((get v9 5).kind), .str ((get v9 5).name), .int .i64 ((get v9 5).index), .str ((get v9 5).type.base), .sl false 2 40 (rows u0.cells ((get v9 5).type.args)), .sl false 6 96 (rows w5.cells ((get v9 5).args))]], .ref false (st.length + 43) 0 0 0, .ref false (st.length + 44) 0 0 0]]), none, none, none, none, none, none, none, none, none, none, none, none, none, none, none, none, none, none, none, none, none, none, none, none, none, none, none, none, none, none, none, none, none, none, none, none, none, some (.arr 0 9 144 (rows w9.cells [])), some (.arr 0 2 32 (rows w8.cells []))]) (G0 hsc (.lv (.lv (.lv (.lv (.lv (.live _ _ _ _ (.arr _ _ _ _ _ (.cons _ _ _ _ (.cons _ _ _ _ .s (.cons _ _ _ _ .s (.cons _ _ _ _ .s (.cons _ _ _ _ (.nref _ _ _ _ _ _ (dH.trans rfl)) (.cons _ _ _ _ (.nref _ _ _ _ _ _ (dH.trans rfl)) .nil))))) (.same _))) (.dead _ _ _ (.dead _ _ _ (.dead _ _ _ (.dead _ _ _ (.dead _ _ _ (.dead _ _ _ (.dead _ _ _ (.dead _ _ _ (.dead _ _ _ (.dead _ _ _ (.dead _ _ _ (.dead _ _ _ (.dead _ _ _ (.dead _ _ _ (.dead _ _ _ (.dead _ _ _ (.dead _ _ _ (.dead _ _ _ (.dead _ _ _ (.dead _ _ _ (.dead _ _ _ (.dead _ _ _ (.dead _ _ _ (.dead _ _ _ (.dead _ _ _ (.dead _ _ _ (.dead _ _ _ (.dead _ _ _ (.dead _ _ _ (.dead _ _ _ (.dead _ _ _ (.dead _ _ _ (.dead _ _ _ (.dead _ _ _ (.dead _ _ _ (.dead _ _ _ (.dead _ _ _ (.lv (.lv (.nil _)))))))))))))))))))))))))))))))))))))))))))))) (by simp) ⟨.s, .s, .s, .s, .s, .s, .s, trivial⟩ (by simp)) ?_
 (repeat apply sq_); apply er_; simp only [go_sem, f10, f18, f26, f33, f41, f49]
 obtain ⟨v59, hv59, h⟩ := C6 h
 refine ((N9 _ _ _ _ hv59)).to ?_
 have e60 : (24 ≤ top) = True := by simp [top]
 have e61 : (8 ≤ top) = True := by simp [top]
 have e62 : (48 ≤ top) = True := by simp [top]
 try simp only [go_sem, f10, f18, f26, f33, f41, f49, e60, e61, e62]
 obtain ⟨v63, hv63, h⟩ := C6 h
 refine (B2 n _ _ _ _ _ _ _ _ _ _ hv63 _ _ _ _ 0 0 (by simp) (Y0.trans rfl) (Y0.trans rfl) (Y0.trans rfl)).mono ?_
 rintro d1 st1 ⟨rfl, rfl⟩
 try simp only [go_sem, f10, f18, f26, f33, f41, f49, e60, e61, e62]
 (repeat apply sq_); apply er_; simp only [go_sem, f10, f18, f26, f33, f41, f49]
 obtain ⟨v64, hv64, h⟩ := C6 h
 refine ((N9 _ _ _ _ hv64)).to ?_
 have e65 : (24 ≤ top) = True := by simp [top]
 have e66 : (8 ≤ top) = True := by simp [top]
 have e67 : (48 ≤ top) = True := by simp [top]
 try simp only [go_sem, f10, f18, f26, f33, f41, f49, e65, e66, e67]
 obtain ⟨v68, hv68, h⟩ := C6 h
 refine (B2 n _ _ _ _ _ _ _ _ _ _ hv68 _ _ _ _ 1 0 (by simp) (Y0.trans rfl) (Y0.trans rfl) (Y0.trans rfl)).mono ?_
 rintro d1 st1 ⟨rfl, rfl⟩
 try simp only [go_sem, f10, f18, f26, f33, f41, f49, e65, e66, e67]
 (repeat apply sq_); apply er_; simp only [go_sem, f10, f18, f26, f33, f41, f49]
 obtain ⟨v69, hv69, h⟩ := C6 h
 refine ((N9 _ _ _ _ hv69)).to ?_
 have e70 : (8 ≤ top) = True := by simp [top]
 have e71 : (24 ≤ top) = True := by simp [top]
 try simp only [go_sem, f10, f18, f26, f33, f41, f49, e70, e71]
 obtain ⟨v72, hv72, h⟩ := C6 h
 refine (B2 n _ _ _ _ _ _ _ _ _ _ hv72 _ _ _ _ 2 0 (by simp) (Y0.trans rfl) (Y0.trans rfl) (Y0.trans rfl)).mono ?_
 rintro d1 st1 ⟨rfl, rfl⟩
 try simp only [go_sem, f10, f18, f26, f33, f41, f49, e70, e71]
 (repeat apply sq_); apply er_; simp only [go_sem, f10, f18, f26, f33, f41, f49]
 obtain ⟨v73, hv73, h⟩ := C6 h
 refine ((C0 _ _ _ hv73)).to ?_
 have e74 : (24 ≤ top) = True := by simp [top]
 have e75 : (8 ≤ top) = True := by simp [top]
 have e76 : (48 ≤ top) = True := by simp [top]
 try simp only [go_sem, f10, f18, f26, f33, f41, f49, e74, e75, e76]
 obtain ⟨v77, hv77, h⟩ := C6 h
 refine (B2 n _ _ _ _ _ _ _ _ _ _ hv77 _ _ _ _ 3 0 (by simp) (Y0.trans rfl) (Y0.trans rfl) (Y0.trans rfl)).mono ?_
 rintro d1 st1 ⟨rfl, rfl⟩
 try simp only [go_sem, f10, f18, f26, f33, f41, f49, e74, e75, e76]
 (repeat apply sq_); apply er_; simp only [go_sem, f10, f18, f26, f33, f41, f49]
 obtain ⟨v78, hv78, h⟩ := C6 h
 refine ((C0 _ _ _ hv78)).to ?_
 have e79 : (24 ≤ top) = True := by simp [top]
 have e80 : (8 ≤ top) = True := by simp [top]
 have e81 : (48 ≤ top) = True := by simp [top]
 try simp only [go_sem, f10, f18, f26, f33, f41, f49, e79, e80, e81]
 obtain ⟨v82, hv82, h⟩ := C6 h
 refine (B2 n _ _ _ _ _ _ _ _ _ _ hv82 _ _ _ _ 4 0 (by simp) (Y0.trans rfl) (Y0.trans rfl) (Y0.trans rfl)).mono ?_
 rintro d1 st1 ⟨rfl, rfl⟩
 try simp only [go_sem, f10, f18, f26, f33, f41, f49, e79, e80, e81]
 (repeat apply sq_); apply er_; simp only [go_sem, f10, f18, f26, f33, f41, f49]
 obtain ⟨v83, hv83, h⟩ := C6 h
 refine ((C0 _ _ _ hv83)).to ?_
 have e84 : (24 ≤ top) = True := by simp [top]
 have e85 : (8 ≤ top) = True := by simp [top]
 have e86 : (48 ≤ top) = True := by simp [top]
 try simp only [go_sem, f10, f18, f26, f33, f41, f49, e84, e85, e86]
 obtain ⟨v87, hv87, h⟩ := C6 h
 refine (B2 n _ _ _ _ _ _ _ _ _ _ hv87 _ _ _ _ 5 0 (by simp) (Y0.trans rfl) (Y0.trans rfl) (Y0.trans rfl)).mono ?_
 rintro d1 st1 ⟨rfl, rfl⟩
 try simp only [go_sem, f10, f18, f26, f33, f41, f49, e84, e85, e86]
 (repeat apply sq_); apply er_; simp only [go_sem, f10, f18, f26, f33, f41, f49]
 obtain ⟨v88, hv88, h⟩ := C6 h
 refine ((C0 _ _ _ hv88)).to ?_
 have e89 : (24 ≤ top) = True := by simp [top]
 have e90 : (8 ≤ top) = True := by simp [top]
 have e91 : (48 ≤ top) = True := by simp [top]
 try simp only [go_sem, f10, f18, f26, f33, f41, f49, e89, e90, e91]
 obtain ⟨v92, hv92, h⟩ := C6 h
 refine (B2 n _ _ _ _ _ _ _ _ _ _ hv92 _ _ _ _ 6 0 (by simp) (Y0.trans rfl) (Y0.trans rfl) (Y0.trans rfl)).mono ?_
 rintro d1 st1 ⟨rfl, rfl⟩
 try simp only [go_sem, f10, f18, f26, f33, f41, f49, e89, e90, e91]
 (repeat apply sq_); apply er_; simp only [go_sem, f10, f18, f26, f33, f41, f49]
 obtain ⟨v93, hv93, h⟩ := C6 h
 refine ((C0 _ _ _ hv93)).to ?_
 have e94 : (24 ≤ top) = True := by simp [top]
 have e95 : (8 ≤ top) = True := by simp [top]
 have e96 : (48 ≤ top) = True := by simp [top]
 try simp only [go_sem, f10, f18, f26, f33, f41, f49, e94, e95, e96]
 obtain ⟨v97, hv97, h⟩ := C6 h
 refine (B2 n _ _ _ _ _ _ _ _ _ _ hv97 _ _ _ _ 7 0 (by simp) (Y0.trans rfl) (Y0.trans rfl) (Y0.trans rfl)).mono ?_
 rintro d1 st1 ⟨rfl, rfl⟩
 try simp only [go_sem, f10, f18, f26, f33, f41, f49, e94, e95, e96]
 (repeat apply sq_); apply er_; simp only [go_sem, f10, f18, f26, f33, f41, f49]
 obtain ⟨v98, hv98, h⟩ := C6 h
 refine ((C0 _ _ _ hv98)).to ?_
 have e99 : (24 ≤ top) = True := by simp [top]
 have e100 : (8 ≤ top) = True := by simp [top]
 have e101 : (48 ≤ top) = True := by simp [top]
 try simp only [go_sem, f10, f18, f26, f33, f41, f49, e99, e100, e101]
 obtain ⟨v102, hv102, h⟩ := C6 h
 refine (B2 n _ _ _ _ _ _ _ _ _ _ hv102 _ _ _ _ 8 0 (by simp) (Y0.trans rfl) (Y0.trans rfl) (Y0.trans rfl)).mono ?_
 rintro d1 st1 ⟨rfl, rfl⟩
 try simp only [go_sem, f10, f18, f26, f33, f41, f49, e99, e100, e101]
 (repeat apply sq_); apply er_; simp only [go_sem, f10, f18, f26, f33, f41, f49]
 obtain ⟨v103, hv103, h⟩ := C6 h
 refine ((C0 _ _ _ hv103)).to ?_
 have e104 : (24 ≤ top) = True := by simp [top]
 have e105 : (8 ≤ top) = True := by simp [top]
 have e106 : (48 ≤ top) = True := by simp [top]
 try simp only [go_sem, f10, f18, f26, f33, f41, f49, e104, e105, e106]
 obtain ⟨v107, hv107, h⟩ := C6 h
 refine (B2 n _ _ _ _ _ _ _ _ _ _ hv107 _ _ _ _ 9 0 (by simp) (Y0.trans rfl) (Y0.trans rfl) (Y0.trans rfl)).mono ?_
 rintro d1 st1 ⟨rfl, rfl⟩
 try simp only [go_sem, f10, f18, f26, f33, f41, f49, e104, e105, e106]
 (repeat apply sq_); apply er_; simp only [go_sem, f10, f18, f26, f33, f41, f49]
 obtain ⟨v108, hv108, h⟩ := C6 h
 refine ((C0 _ _ _ hv108)).to ?_
 have e109 : (24 ≤ top) = True := by simp [top]
 have e110 : (8 ≤ top) = True := by simp [top]
 have e111 : (48 ≤ top) = True := by simp [top]
 try simp only [go_sem, f10, f18, f26, f33, f41, f49, e109, e110, e111]
 obtain ⟨v112, hv112, h⟩ := C6 h
 refine (B2 n _ _ _ _ _ _ _ _ _ _ hv112 _ _ _ _ 10 0 (by simp) (Y0.trans rfl) (Y0.trans rfl) (Y0.trans rfl)).mono ?_
 rintro d1 st1 ⟨rfl, rfl⟩
 try simp only [go_sem, f10, f18, f26, f33, f41, f49, e109, e110, e111]
 (repeat apply sq_); apply er_; simp only [go_sem, f10, f18, f26, f33, f41, f49]
 obtain ⟨v113, hv113, h⟩ := C6 h
 refine ((C0 _ _ _ hv113)).to ?_
 have e114 : (24 ≤ top) = True := by simp [top]
 have e115 : (8 ≤ top) = True := by simp [top]
 have e116 : (48 ≤ top) = True := by simp [top]
 try simp only [go_sem, f10, f18, f26, f33, f41, f49, e114, e115, e116]
 obtain ⟨v117, hv117, h⟩ := C6 h
 refine (B2 n _ _ _ _ _ _ _ _ _ _ hv117 _ _ _ _ 11 0 (by simp) (Y0.trans rfl) (Y0.trans rfl) (Y0.trans rfl)).mono ?_
 rintro d1 st1 ⟨rfl, rfl⟩
 try simp only [go_sem, f10, f18, f26, f33, f41, f49, e114, e115, e116]
 (repeat apply sq_); apply er_; simp only [go_sem, f10, f18, f26, f33, f41, f49]
 obtain ⟨v118, hv118, h⟩ := C6 h
 refine ((C0 _ _ _ hv118)).to ?_
 have e119 : (24 ≤ top) = True := by simp [top]
 have e120 : (8 ≤ top) = True := by simp [top]
 have e121 : (48 ≤ top) = True := by simp [top]
 try simp only [go_sem, f10, f18, f26, f33, f41, f49, e119, e120, e121]
 obtain ⟨v122, hv122, h⟩ := C6 h
 refine (B2 n _ _ _ _ _ _ _ _ _ _ hv122 _ _ _ _ 12 0 (by simp) (Y0.trans rfl) (Y0.trans rfl) (Y0.trans rfl)).mono ?_
 rintro d1 st1 ⟨rfl, rfl⟩
 try simp only [go_sem, f10, f18, f26, f33, f41, f49, e119, e120, e121]
 (repeat apply sq_); apply er_; simp only [go_sem, f10, f18, f26, f33, f41, f49]
 obtain ⟨v123, hv123, h⟩ := C6 h
 refine ((C0 _ _ _ hv123)).to ?_
 have e124 : (24 ≤ top) = True := by simp [top]
 have e125 : (8 ≤ top) = True := by simp [top]
 have e126 : (48 ≤ top) = True := by simp [top]
 try simp only [go_sem, f10, f18, f26, f33, f41, f49, e124, e125, e126]
 obtain ⟨v127, hv127, h⟩ := C6 h
 refine (B2 n _ _ _ _ _ _ _ _ _ _ hv127 _ _ _ _ 13 0 (by simp) (Y0.trans rfl) (Y0.trans rfl) (Y0.trans rfl)).mono ?_
 rintro d1 st1 ⟨rfl, rfl⟩
 try simp only [go_sem, f10, f18, f26, f33, f41, f49, e124, e125, e126]
 (repeat apply sq_); apply er_; simp only [go_sem, f10, f18, f26, f33, f41, f49]
 obtain ⟨v128, hv128, h⟩ := C6 h
 refine ((C0 _ _ _ hv128)).to ?_
 have e129 : (24 ≤ top) = True := by simp [top]
 have e130 : (8 ≤ top) = True := by simp [top]
 have e131 : (48 ≤ top) = True := by simp [top]
 try simp only [go_sem, f10, f18, f26, f33, f41, f49, e129, e130, e131]
 obtain ⟨v132, hv132, h⟩ := C6 h
 refine (B2 n _ _ _ _ _ _ _ _ _ _ hv132 _ _ _ _ 14 0 (by simp) (Y0.trans rfl) (Y0.trans rfl) (Y0.trans rfl)).mono ?_
 rintro d1 st1 ⟨rfl, rfl⟩
 try simp only [go_sem, f10, f18, f26, f33, f41, f49, e129, e130, e131]
 (repeat apply sq_); apply er_; simp only [go_sem, f10, f18, f26, f33, f41, f49]
 obtain ⟨v133, hv133, h⟩ := C6 h
 refine ((C0 _ _ _ hv133)).to ?_
 have e134 : (24 ≤ top) = True := by simp [top]
 have e135 : (8 ≤ top) = True := by simp [top]
 have e136 : (48 ≤ top) = True := by simp [top]
 try simp only [go_sem, f10, f18, f26, f33, f41, f49, e134, e135, e136]
 obtain ⟨v137, hv137, h⟩ := C6 h
 refine (B2 n _ _ _ _ _ _ _ _ _ _ hv137 _ _ _ _ 15 0 (by simp) (Y0.trans rfl) (Y0.trans rfl) (Y0.trans rfl)).mono ?_
 rintro d1 st1 ⟨rfl, rfl⟩
 try simp only [go_sem, f10, f18, f26, f33, f41, f49, e134, e135, e136]
 (repeat apply sq_); apply er_; simp only [go_sem, f10, f18, f26, f33, f41, f49]
 obtain ⟨v138, hv138, h⟩ := C6 h
 refine ((C0 _ _ _ hv138)).to ?_
 have e139 : (24 ≤ top) = True := by simp [top]
 have e140 : (8 ≤ top) = True := by simp [top]
 have e141 : (48 ≤ top) = True := by simp [top]
 try simp only [go_sem, f10, f18, f26, f33, f41, f49, e139, e140, e141]
 obtain ⟨v142, hv142, h⟩ := C6 h
 refine (B2 n _ _ _ _ _ _ _ _ _ _ hv142 _ _ _ _ 16 0 (by simp) (Y0.trans rfl) (Y0.trans rfl) (Y0.trans rfl)).mono ?_
 rintro d1 st1 ⟨rfl, rfl⟩
 try simp only [go_sem, f10, f18, f26, f33, f41, f49, e139, e140, e141]
 (repeat apply sq_); apply er_; simp only [go_sem, f10, f18, f26, f33, f41, f49]
 obtain ⟨v143, hv143, h⟩ := C6 h
 refine ((C8 _ _ _ hv143)).to ?_
 try simp only [go_sem, f10, f18, f26, f33, f41, f49]
 obtain ⟨v144, hv144, h⟩ := C6 h
 refine ((C0 _ _ _ hv144)).to ?_
 have e145 : (8 ≤ top) = True := by simp [top]
 have e146 : (24 ≤ top) = True := by simp [top]
 try simp only [go_sem, f10, f18, f26, f33, f41, f49, e145, e146]
 obtain ⟨v147, hv147, h⟩ := C6 h
 refine (B2 n _ _ _ _ _ _ _ _ _ _ hv147 _ _ _ _ 17 0 (by simp) (Y0.trans rfl) (Y0.trans rfl) (Y0.trans rfl)).mono ?_
 rintro d1 st1 ⟨rfl, rfl⟩
 try simp only [go_sem, f10, f18, f26, f33, f41, f49, e145, e146]
 (repeat apply sq_); refine ak [9] 2 follows (by kernel_rfl) (by rfl) ?_; simp only [go_sem, List.replicate_succ, List.replicate_zero, f10, f18, f26, f33, f41, f49]
 obtain ⟨v148, hv148, h⟩ := C6 h
 refine A0 (C8 _ _ _ hv148) ?_
 try simp only [go_sem, f10, f18, f26, f33, f41, f49]
 obtain ⟨v149, hv149, h⟩ := C6 h
 refine A0 (C8 _ _ _ hv149) ?_
 try simp only [go_sem, f10, f18, f26, f33, f41, f49]
 obtain ⟨v150, hv150, h⟩ := C6 h
 refine A0 (C0 _ _ _ hv150) ?_
 have e151 : (8 ≤ top) = True := by simp [top]
 have e152 : (24 ≤ top) = True := by simp [top]
 try simp only [go_sem, f10, f18, f26, f33, f41, f49, e151, e152]
 obtain ⟨v153, hv153, h⟩ := C6 h
 refine rj [(st.length + 5), (st.length + 43), (st.length + 44)] (fun st2 h2 => (B2 n _ _ _ _ _ _ _ _ _ _ hv153 st2 _ _ _ 18 0 (by simp) ((h2 _ (by simp)).trans (Y0.trans rfl)) ((h2 _ (by simp)).trans (Y0.trans rfl)) ((h2 _ (by simp)).trans (Y0.trans rfl)))) (by simp) (by simp only [List.mem_cons, List.not_mem_nil, or_false, forall_eq_or_imp, forall_eq]; exact ⟨⟨by first | omega | (simp <;> omega), _, (Y0.trans rfl), Ob.noConfusion⟩, ⟨by first | omega | (simp <;> omega), _, (Y0.trans rfl), Ob.noConfusion⟩, ⟨by first | omega | (simp <;> omega), _, (Y0.trans rfl), Ob.noConfusion⟩⟩) (by simp) ?_
 try simp only [go_sem, f10, f18, f26, f33, f41, f49, e151, e152]
 try refine ⟨by (simp <;> omega), ?_⟩
 (repeat apply sq_); refine ak [10] 3 follows (by kernel_rfl) (by rfl) ?_; simp only [go_sem, List.replicate_succ, List.replicate_zero, f10, f18, f26, f33, f41, f49]
 obtain ⟨v154, hv154, h⟩ := C6 h
 refine A0 (y4 _ _ hv154) ?_
 try simp only [go_sem, f10, f18, f26, f33, f41, f49]
 obtain ⟨v155, hv155, h⟩ := C6 h
 refine A0 (C0 _ _ _ hv155) ?_
 try simp only [go_sem, f10, f18, f26, f33, f41, f49]
 obtain ⟨v156, hv156, h⟩ := C6 h
 refine A0 (B3 _ _ _ hv156) ?_
 try simp only [go_sem, f10, f18, f26, f33, f41, f49]
 obtain ⟨v157, hv157, h⟩ := C6 h
 refine A0 (y9 _ _ _ hv157) ?_
 have e158 : (24 ≤ top) = True := by simp [top]
 have e159 : (8 ≤ top) = True := by simp [top]
 have e160 : (48 ≤ top) = True := by simp [top]
 try simp only [go_sem, f10, f18, f26, f33, f41, f49, e158, e159, e160]
 obtain ⟨v161, hv161, h⟩ := C6 h
 refine rj [(st.length + 5), (st.length + 43), (st.length + 44)] (fun st2 h2 => (B2 n _ _ _ _ _ _ _ _ _ _ hv161 st2 _ _ _ 19 0 (by simp) ((h2 _ (by simp)).trans (Y0.trans rfl)) ((h2 _ (by simp)).trans (Y0.trans rfl)) ((h2 _ (by simp)).trans (Y0.trans rfl)))) (by simp) (by simp only [List.mem_cons, List.not_mem_nil, or_false, forall_eq_or_imp, forall_eq]; exact ⟨⟨by first | omega | (simp <;> omega), _, (Y0.trans rfl), Ob.noConfusion⟩, ⟨by first | omega | (simp <;> omega), _, (Y0.trans rfl), Ob.noConfusion⟩, ⟨by first | omega | (simp <;> omega), _, (Y0.trans rfl), Ob.noConfusion⟩⟩) (by simp) ?_
 try simp only [go_sem, f10, f18, f26, f33, f41, f49, e158, e159, e160]
 try refine ⟨by (simp <;> omega), ?_⟩
 (repeat apply sq_); refine ak [10] 3 follows (by kernel_rfl) (by rfl) ?_; simp only [go_sem, List.replicate_succ, List.replicate_zero, f10, f18, f26, f33, f41, f49]
 obtain ⟨v162, hv162, h⟩ := C6 h
 refine A0 (y4 _ _ hv162) ?_
 try simp only [go_sem, f10, f18, f26, f33, f41, f49]
 obtain ⟨v163, hv163, h⟩ := C6 h
 refine A0 (C0 _ _ _ hv163) ?_
 try simp only [go_sem, f10, f18, f26, f33, f41, f49]
 obtain ⟨v164, hv164, h⟩ := C6 h
 refine A0 (B3 _ _ _ hv164) ?_
 try simp only [go_sem, f10, f18, f26, f33, f41, f49]
 obtain ⟨v165, hv165, h⟩ := C6 h
 refine A0 (y9 _ _ _ hv165) ?_
 have e166 : (24 ≤ top) = True := by simp [top]
 have e167 : (8 ≤ top) = True := by simp [top]
 have e168 : (48 ≤ top) = True := by simp [top]
 try simp only [go_sem, f10, f18, f26, f33, f41, f49, e166, e167, e168]
 obtain ⟨v169, hv169, h⟩ := C6 h
 refine rj [(st.length + 5), (st.length + 43), (st.length + 44)] (fun st2 h2 => (B2 n _ _ _ _ _ _ _ _ _ _ hv169 st2 _ _ _ 20 0 (by simp) ((h2 _ (by simp)).trans (Y0.trans rfl)) ((h2 _ (by simp)).trans (Y0.trans rfl)) ((h2 _ (by simp)).trans (Y0.trans rfl)))) (by simp) (by simp only [List.mem_cons, List.not_mem_nil, or_false, forall_eq_or_imp, forall_eq]; exact ⟨⟨by first | omega | (simp <;> omega), _, (Y0.trans rfl), Ob.noConfusion⟩, ⟨by first | omega | (simp <;> omega), _, (Y0.trans rfl), Ob.noConfusion⟩, ⟨by first | omega | (simp <;> omega), _, (Y0.trans rfl), Ob.noConfusion⟩⟩) (by simp) ?_
 try simp only [go_sem, f10, f18, f26, f33, f41, f49, e166, e167, e168]
 try refine ⟨by (simp <;> omega), ?_⟩
 have e170 : (8 ≤ top) = True := by simp [top]
 have e171 : (24 ≤ top) = True := by simp [top]
 (repeat apply sq_); apply er_; simp only [go_sem, f10, f18, f26, f33, f41, f49, e170, e171]
 obtain ⟨v172, hv172, h⟩ := C6 h
 refine ((E9 n _ _ hv172)).to ?_
 try simp only [go_sem, f10, f18, f26, f33, f41, f49, e170, e171]
 (repeat apply sq_); apply er_; simp only [go_sem, f10, f18, f26, f33, f41, f49]
 (repeat apply sq_); refine E3 ?_
 try simp only [go_sem, f10, f18, f26, f33, f41, f49]
 have hr := Option.some.inj h
 refine E4 ?_; simp only [go_sem, f10, f18, f26, f33, f41, f49]
 exact y3 (d' := .agg [.sl false 2 40 (rows w7.cells v8.types), .sl false 3 32 (rows x9.cells v8.C9), .sl false 10 152 (rows u6.cells [(u6.mk [115] v17 2 0 (get v9 0)), (u6.mk [110, 112] v25 2 1 (get v9 1)), (u6.mk [118, 112, 45, 105, 118] v32 1 0 (get v9 2)), (u6.mk [118, 112, 45, 116, 118] v40 2 2 (get v9 3)), (u6.mk [118, 112, 45, 110, 111, 116] v48 2 3 (get v9 4)), (u6.mk [110, 112, 45, 97, 110, 100] v57 3 4 (get v9 5))]), .sl false 9 144 (rows w9.cells v169), .sl false 2 32 (rows w8.cells v172.nodes)]) hsc (.agg _ _ (.cons _ _ _ _ .s (.cons _ _ _ _ .s (.cons _ _ _ _ .s (.cons _ _ _ _ (.ref _ _ _ _ _ _ _ _ _ (dH.trans rfl) oD (by decide) (kB _) (by simp only [go_sem])) (.cons _ _ _ _ .s .nil)))))) (by simp) ⟨by subst hr; rfl, rfl⟩
end Go.Proofs.YtaohdfpcdfbnlaaGreatDoor
