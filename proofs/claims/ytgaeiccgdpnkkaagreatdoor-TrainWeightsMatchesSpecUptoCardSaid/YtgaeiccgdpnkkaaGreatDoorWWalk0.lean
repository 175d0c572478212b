import Derived.Test.YtgaeiccgdpnkkaaGreatDoorWMirrors
set_option linter.unusedVariables false
set_option linter.unusedSimpArgs false
set_option maxHeartbeats 2000000
set_option maxRecDepth 100000
namespace Go.Proofs.YtgaeiccgdpnkkaaGreatDoor
open Go Go.Am
theorem d3w (n : Nat) (a0 : (List WT)) (a1 : Int) (a2 : Int) (r : Bool) (h : XJ n a0 a1 a2 = some r) : Pure Tryz.prog gl 140 [.sl false 2 40 (rows WT.cells a0), .int .i64 a1, .int .i64 a2] (.bool r) := by
 intro st
 unfold XJ at h
 have fx := trivial
 refine fb 45 [.tmp 6] [0, 1, 2, 6, 7, 8, 10, 20, 26, 31, 32, 33, 34] Tryz.func140 fun hsc => ?_
 refine r0 ?_
 obtain ⟨fx, h⟩ := ck fx h
 have fy := (show List.replicate a0.length [.bool false] = rows XZ (List.replicate a0.length (default : Bool)) from d6R (E := XZ) _ default)
 refine r1 ?_
 obtain ⟨fx, h⟩ := ck fx h
 have fy := (show (rows XZ (List.replicate a0.length (default : Bool))).getD a1.toNat [] = XZ (get (List.replicate a0.length (default : Bool)) a1.toNat) from d7q (E := XZ) (l := (List.replicate a0.length (default : Bool))) (k := a1.toNat) (by first | omega | (simp; omega)))
 have fy := fa fy (show a1.toNat < a0.length from by first | omega | (simp; omega))
 obtain ⟨c8, hc8, h⟩ := d9t h
 have fy := fa fy (show (rows XZ (List.replicate a0.length (default : Bool))).set a1.toNat [.bool true] = rows XZ c8 from by rw [hc8]; first | exact i5K (E := XZ) _ _ _ | simp only [go_sem, rows, List.map_set])
 refine r1 ?_
 have e10 : D.ref true st.length 0 0 a0.length = D.ref true st.length 0 0 c8.length := by simp [hc8]
 simp only [e10]
 refine rn ?_
 refine XV (body := d1V a2 a0) (kk := d1Y a2) (n := n) (s0 := (c8, a1))
  (fun (gs0 : Nat) (s0 : (List Bool) × Int) => [(0, .sl false 2 40 (rows WT.cells a0)), (2, .int .i64 a2), (7, .ref true st.length gs0 0 s0.1.length), (8, .int .i64 s0.2)])
  (fun (gs0 : Nat) (s0 : (List Bool) × Int) => st ++ [some (.arr gs0 1 1 (rows XZ s0.1))])
  (fun (gt0 : Nat) (t0 : (List Bool)) => [(2, .int .i64 a2), (7, .ref true st.length gt0 0 t0.length)])
  (fun (gt0 : Nat) (t0 : (List Bool)) => st ++ [some (.arr gt0 1 1 (rows XZ t0))])
  0 h (bm hsc)
  (fun gs0 s0 b0 h hx0 => ?_) (fun gt0 t0 fr1 st1 h hb => ?_)
 ·unfold d1V at h
  refine cd h (fun hc h => ?_) fun hc h => ?_
  ·refine r0 ?_
   refine r0 ?_
   obtain ⟨fx, h⟩ := ck fx h
   have fy := (show (rows XZ s0.1).getD s0.2.toNat [] = XZ (get s0.1 s0.2.toNat) from d7q (E := XZ) (l := s0.1) (k := s0.2.toNat) (by first | omega | (simp; omega)))
   have fy := fa fy (show s0.2.toNat < s0.1.length from by first | omega | (simp; omega))
   refine r1 ?_
   refine cd h (fun hc h => ?_) fun hc h => ?_
   ·obtain ⟨fx, h⟩ := ck fx h
    refine aln 31 fun hl2 => ?_
    refine rng (body := d1W a0 s0) (kk := d1X s0) (n := ((get a0 s0.2.toNat).parents).length) (s0 := s0.1)
     (fun (gs2 : Nat) (k2 : Nat) (s2 : (List Bool)) => [(0, .sl false 2 40 (rows WT.cells a0)), (2, .int .i64 a2), (7, .ref true st.length gs2 0 s2.length), (8, .int .i64 s0.2), (31, .sl false 1 8 (rows XM ((get a0 s0.2.toNat).parents))), (32, .int .i64 (↑(((get a0 s0.2.toNat).parents).length) : Int)), (33, .int .i64 (↑k2 : Int))])
     (fun (gs2 : Nat) (k2 : Nat) (s2 : (List Bool)) => st ++ [some (.arr gs2 1 1 (rows XZ s2))])
     (fun (gt2 : Nat) (t2 : (List Bool)) => [(0, .sl false 2 40 (rows WT.cells a0)), (2, .int .i64 a2), (7, .ref true st.length gt2 0 t2.length), (8, .int .i64 s0.2)])
     (fun (gt2 : Nat) (t2 : (List Bool)) => st ++ [some (.arr gt2 1 1 (rows XZ t2))])
     gs0 fx hl2 h (bm hsc)
     (fun gs2 k2 s2 b2 fx h hx2 => ?_) (fun gs2 s2 => ?_) (fun gt2 t2 fr1 st1 h hb => ?_)
    ·unfold d1W at h
     refine ct ?_
     refine r0 ?_
     refine r0 ?_
     refine r0 ?_
     obtain ⟨fx, h⟩ := ck fx h
     have fy := (show (rows XZ s2).getD ((get ((get a0 s0.2.toNat).parents) k2).toNat) [] = XZ (get s2 ((get ((get a0 s0.2.toNat).parents) k2).toNat)) from d7q (E := XZ) (l := s2) (k := (get ((get a0 s0.2.toNat).parents) k2).toNat) (by first | omega | (simp; omega)))
     have fy := fa fy (show (get ((get a0 s0.2.toNat).parents) k2).toNat < s2.length from by first | omega | (simp; omega))
     obtain ⟨c44, p9A, h⟩ := d9t h
     have fy := fa fy (show (rows XZ s2).set ((get ((get a0 s0.2.toNat).parents) k2).toNat) [.bool true] = rows XZ c44 from by rw [p9A]; first | exact i5K (E := XZ) _ _ _ | simp only [go_sem, rows, List.map_set])
     refine r1 ?_
     have e46 : D.ref true st.length gs2 0 s2.length = D.ref true st.length gs2 0 c44.length := by simp [p9A]
     simp only [e46]
     refine rn ?_
     cases h
     exact d4u gs2 (bm hsc)
    ·refine cf ?_
     refine d4b ?_; simp only [go_sem, fx]
     exact ⟨gs2, (bm hsc)⟩
    ·try simp only [go_sem, fx]
     unfold d1X at h
     refine d0s hb ?_
     refine rn ?_
     cases h
     exact Yg gt2 (bm hsc)
   ·refine rn ?_
    cases h
    exact Yg gs0 (bm hsc)
  ·refine rn ?_
   cases h
   exact Zq gs0 (bm hsc)
 ·try simp only [go_sem, fx]
  unfold d1Y at h
  refine d0s hb ?_
  obtain ⟨fx, h⟩ := ck fx h
  have fy := (show (rows XZ t0).getD a2.toNat [] = XZ (get t0 a2.toNat) from d7q (E := XZ) (l := t0) (k := a2.toNat) (by first | omega | (simp; omega)))
  have fy := fa fy (show a2.toNat < t0.length from by first | omega | (simp; omega))
  refine r1 ?_
  exact rt
theorem Zf (a0 : Bs) (r : WK) (h : YO a0 = some r) : Pure Tryz.prog gl 102 [.str a0] (.agg [.str r.base, .sl false 2 40 (rows WK.cells r.args)]) := by
 intro st
 unfold YO at h
 have fx := trivial
 refine fb 5 [.cell 2 119] [0, 2] Tryz.func102 fun hsc => ?_
 refine rr ?_
 exact fo (.agg [.str a0, .sl false 2 40 (rows WK.cells [])]) (.agg _ _ (.cons _ _ _ _ .s (.cons _ _ _ _ (.XC _ _ _ (by decide)) .nil))) h hsc
theorem Xz (a0 : WK) (a1 : WK) (r : WK) (h : XA a0 a1 = some r) : Pure Tryz.prog gl 103 [.agg [.str a0.base, .sl false 2 40 (rows WK.cells a0.args)], .agg [.str a1.base, .sl false 2 40 (rows WK.cells a1.args)]] (.agg [.str r.base, .sl false 2 40 (rows WK.cells r.args)]) := by
 intro st
 unfold XA at h
 have fx := trivial
 refine fb 9 [.cell 4 119] [0, 1, 2, 3, 4] Tryz.func103 fun hsc => ?_
 refine rr ?_
 exact fo (.agg [.str [], .sl false 2 40 (rows WK.cells [a0, a1])]) (.agg _ _ (.cons _ _ _ _ .s (.cons _ _ _ _ (.ref _ _ _ _ _ _ _ _ _ (i0F.trans rfl) i8e (by decide) (by simp [Imm, D.imm]) (by simp only [go_sem, rows, List.map_cons, List.map_nil])) .nil))) h hsc
theorem d5z (a0 : (List Bs)) (a1 : (List Int)) (a2 : (List Xf)) (r : WU) (h : d1B a0 a1 a2 = some r) : Pure Tryz.prog gl 104 [.sl false 1 16 (rows p2T a0), .sl false 1 8 (rows XM a1), .sl false 3 32 (rows Xf.cells a2)] (.agg [.sl false 2 40 (rows WT.cells r.types), .sl false 3 32 (rows Xf.cells r.Xw)]) := by
 intro st
 unfold d1B at h
 have fx := trivial
 refine fb 38 [.cell 6 25] [0, 1, 2, 6, 7, 8, 9, 10, 11, 12, 13, 14, 21] Tryz.func104 fun hsc => ?_
 refine r0 ?_
 refine r0 ?_
 refine r0 ?_
 (repeat apply sq_)
 refine i0h 2 40 ?_
 try simp only [List.append_assoc, List.cons_append, List.nil_append]
 refine d0s (F := [(1, .sl false 1 8 (rows XM a1)), (2, .sl false 3 32 (rows Xf.cells a2)), (6, .ptr st.length 0 0 0), (7, .ptr (st.length + 1) 0 0 0), (11, .sl false 1 16 (rows p2T a0)), (12, .int .i64 (↑a0.length : Int)), (13, .int .i64 0)]) (T := st ++ [some (.arr 0 2 0 [[.XC, .XC]]), some (.arr 0 2 0 [[.ref false (st.length + 2) 0 0 0, .XC]]), some (.arr 0 2 40 (rows WT.cells []))]) (i7f hsc (.lv (.live _ _ _ _ (.arr _ _ _ _ _ (.cons _ _ _ _ (.cons _ _ _ _ (.nref _ _ _ _ _ _ (i0F.trans rfl)) (.cons _ _ _ _ .s .nil)) (.same _))) (.lv (.nil _)))) (by simp) ⟨.s, .s, .s, .s, .s, .s, .s, trivial⟩ (by simp)) ?_
 refine aln 11 fun hl0 => ?_
 refine rng (body := d0U a1 a0) (kk := d0V a2) (n := a0.length) (s0 := [])
  (fun (gs0 : Nat) (k0 : Nat) (s0 : (List WT)) => [(1, .sl false 1 8 (rows XM a1)), (2, .sl false 3 32 (rows Xf.cells a2)), (6, .ptr st.length 0 0 0), (7, .ptr (st.length + 1) 0 0 0), (11, .sl false 1 16 (rows p2T a0)), (12, .int .i64 (↑a0.length : Int)), (13, .int .i64 (↑k0 : Int))])
  (fun (gs0 : Nat) (k0 : Nat) (s0 : (List WT)) => st ++ [some (.arr 0 2 0 [[.XC, .XC]]), some (.arr 0 2 0 [[.ref false (st.length + 2) gs0 0 s0.length, .XC]]), some (.arr gs0 2 40 (rows WT.cells s0))])
  (fun (gt0 : Nat) (t0 : (List WT)) => [(2, .sl false 3 32 (rows Xf.cells a2)), (6, .ptr st.length 0 0 0), (7, .ptr (st.length + 1) 0 0 0)])
  (fun (gt0 : Nat) (t0 : (List WT)) => st ++ [some (.arr 0 2 0 [[.XC, .XC]]), some (.arr 0 2 0 [[.ref false (st.length + 2) gt0 0 t0.length, .XC]]), some (.arr gt0 2 40 (rows WT.cells t0))])
  0 fx hl0 h (bm hsc)
  (fun gs0 k0 s0 b0 fx h hx0 => ?_) (fun gs0 s0 => ?_) (fun gt0 t0 fr1 st1 h hb => ?_)
 ·unfold d0U at h
  refine ct ?_
  refine cd h (fun hc h => ?_) fun hc h => ?_
  ·obtain ⟨fx, h⟩ := ck fx h
   refine r0 ?_
   obtain ⟨c14, p9B, h⟩ := d9t h
   have fy := (show rows WT.cells s0 ++ [[.str (get a0 k0), .sl false 1 8 [[.int .i64 (get a1 k0)]]]] = rows WT.cells c14 from by rw [p9B]; first | exact d4c (E := WT.cells) s0 [(WT.mk (get a0 k0) [(get a1 k0)])] | simp only [go_sem, rows, List.map_append, List.map_cons, List.map_nil])
   have fy := fa fy (show s0.length + 1 = c14.length from by rw [p9B]; simp)
   obtain ⟨fx, h⟩ := ck fx h
   refine r1 ?_
   refine rn ?_
   cases h
   exact d4u (gs0 + 1) (bm hsc)
  ·obtain ⟨fx, h⟩ := ck fx h
   refine rn ?_
   cases h
   exact d4u (gs0 + 1) (bm hsc (hu := (.lv (.live _ _ _ _ (.arr _ _ _ _ _ (.cons _ _ _ _ (.cons _ _ _ _ (i5L (by first | (simp; done) | simp [Fr.get])) (.cons _ _ _ _ .s .nil)) (.same _))) (.live _ _ _ _ (.arr _ _ _ _ _ (i2C (.cons _ _ _ _ (.cons _ _ _ _ .s (.cons _ _ _ _ (.XC _ _ _ (by decide)) .nil)) .nil))) (.nil _))))))
 ·refine cf ?_
  refine d4b ?_; simp only [go_sem, fx]
  exact ⟨gs0, (bm hsc)⟩
 ·try simp only [go_sem, fx]
  unfold d0V at h
  refine d0s hb ?_
  refine rr ?_
  exact fo (.agg [.sl false 2 40 (rows WT.cells t0), .sl false 3 32 (rows Xf.cells a2)]) (.agg _ _ (.cons _ _ _ _ (.ref _ _ _ _ _ _ _ _ _ (i0F.trans rfl) i8e (by decide) (i3y _) (by simp only [go_sem])) (.cons _ _ _ _ .s .nil))) h hsc
theorem WY (a0 : Int) (r : WO) (h : Xb a0 = some r) : Pure Tryz.prog gl 112 [.int .i64 a0] (.agg [.int .i64 r.kind, .str r.name, .int .i64 r.index, .str r.type.base, .sl false 2 40 (rows WK.cells r.type.args), .sl false 6 96 (rows WO.cells r.args)]) := by
 intro st
 unfold Xb at h
 have fx := trivial
 refine fb 5 [.cell 2 122] [0, 2] Tryz.func112 fun hsc => ?_
 refine rr ?_
 exact fo (.agg [.int .i64 2, .str [], .int .i64 a0, .str [], .sl false 2 40 (rows WK.cells []), .sl false 6 96 (rows WO.cells [])]) (.agg _ _ (.cons _ _ _ _ .s (.cons _ _ _ _ .s (.cons _ _ _ _ .s (.cons _ _ _ _ .s (.cons _ _ _ _ (.XC _ _ _ (by decide)) (.cons _ _ _ _ (.XC _ _ _ (by decide)) .nil))))))) h hsc
theorem Xl (a0 : WO) (a1 : WO) (r : WO) (h : Xq a0 a1 = some r) : Pure Tryz.prog gl 111 [.agg [.int .i64 a0.kind, .str a0.name, .int .i64 a0.index, .str a0.type.base, .sl false 2 40 (rows WK.cells a0.type.args), .sl false 6 96 (rows WO.cells a0.args)], .agg [.int .i64 a1.kind, .str a1.name, .int .i64 a1.index, .str a1.type.base, .sl false 2 40 (rows WK.cells a1.type.args), .sl false 6 96 (rows WO.cells a1.args)]] (.agg [.int .i64 r.kind, .str r.name, .int .i64 r.index, .str r.type.base, .sl false 2 40 (rows WK.cells r.type.args), .sl false 6 96 (rows WO.cells r.args)]) := by
 intro st
 unfold Xq at h
 have fx := trivial
 refine fb 9 [.cell 4 122] [0, 1, 2, 3, 4] Tryz.func111 fun hsc => ?_
 refine rr ?_
 exact fo (.agg [.int .i64 4, .str [], .int .i64 0, .str [], .sl false 2 40 (rows WK.cells []), .sl false 6 96 (rows WO.cells [a0, a1])]) (.agg _ _ (.cons _ _ _ _ .s (.cons _ _ _ _ .s (.cons _ _ _ _ .s (.cons _ _ _ _ .s (.cons _ _ _ _ (.XC _ _ _ (by decide)) (.cons _ _ _ _ (.ref _ _ _ _ _ _ _ _ _ (i0F.trans rfl) i8e (by decide) (by simp [Imm, D.imm]) (by simp only [go_sem, rows, List.map_cons, List.map_nil])) .nil))))))) h hsc
theorem Xc (a0 : WK) (a1 : WO) (r : WO) (h : Xh a0 a1 = some r) : Pure Tryz.prog gl 110 [.agg [.str a0.base, .sl false 2 40 (rows WK.cells a0.args)], .agg [.int .i64 a1.kind, .str a1.name, .int .i64 a1.index, .str a1.type.base, .sl false 2 40 (rows WK.cells a1.type.args), .sl false 6 96 (rows WO.cells a1.args)]] (.agg [.int .i64 r.kind, .str r.name, .int .i64 r.index, .str r.type.base, .sl false 2 40 (rows WK.cells r.type.args), .sl false 6 96 (rows WO.cells r.args)]) := by
 intro st
 unfold Xh at h
 have fx := trivial
 refine fb 9 [.cell 4 122] [0, 1, 2, 3, 4] Tryz.func110 fun hsc => ?_
 refine rr ?_
 exact fo (.agg [.int .i64 3, .str [], .int .i64 0, .str a0.base, .sl false 2 40 (rows WK.cells a0.args), .sl false 6 96 (rows WO.cells [a1])]) (.agg _ _ (.cons _ _ _ _ .s (.cons _ _ _ _ .s (.cons _ _ _ _ .s (.cons _ _ _ _ .s (.cons _ _ _ _ .s (.cons _ _ _ _ (.ref _ _ _ _ _ _ _ _ _ (i0F.trans rfl) i8e (by decide) (by simp [Imm, D.imm]) (by simp only [go_sem, rows, List.map_cons, List.map_nil])) .nil))))))) h hsc
theorem d6z (a0 : Bool) (r : (List WO)) (h : d2w a0 = some r) : Pure Tryz.prog gl 105 [.bool a0] (.sl false 6 96 (rows WO.cells r)) := by
 intro st
 unfold d2w at h
 have fx := trivial
 refine fb 128 [.tmp 2] [0, 2, 3, 4, 5, 6, 7, 8, 9, 91] Tryz.func105 fun hsc => ?_
 refine cl h (Zf _) fun v1 h => ?_
 refine cl h (Zf _) fun v2 h => ?_
 refine cl h (Xz _ _) fun v3 h => ?_
 refine cl h (Xz _ _) fun v4 h => ?_
 refine cl h (Xz _ _) fun v5 h => ?_
 refine cl h (Xz _ _) fun v6 h => ?_
 refine rn ?_
 refine dw [] 1 ?_
 obtain ⟨v7, hv7, h⟩ := XT h
 refine Xe (WY _ _ hv7) ?_
 try simp only [go_sem, fx]
 obtain ⟨v8, hv8, h⟩ := XT h
 refine Xe (WY _ _ hv8) ?_
 try simp only [go_sem, fx]
 obtain ⟨v9, hv9, h⟩ := XT h
 refine Xe (Xl _ _ _ hv9) ?_
 try simp only [go_sem, fx]
 obtain ⟨v10, hv10, h⟩ := XT h
 refine Xe (Xc _ _ _ hv10) ?_
 try simp only [go_sem, fx]
 obtain ⟨v11, hv11, h⟩ := XT h
 refine Xe (Xc _ _ _ hv11) ?_
 try simp only [go_sem, fx]
 obtain ⟨v12, hv12, h⟩ := XT h
 refine Xe (WY _ _ hv12) ?_
 try simp only [go_sem, fx]
 obtain ⟨v13, hv13, h⟩ := XT h
 refine Xe (WY _ _ hv13) ?_
 try simp only [go_sem, fx]
 obtain ⟨v14, hv14, h⟩ := XT h
 refine Xe (Xl _ _ _ hv14) ?_
 try simp only [go_sem, fx]
 obtain ⟨v15, hv15, h⟩ := XT h
 refine Xe (Xc _ _ _ hv15) ?_
 try simp only [go_sem, fx]
 obtain ⟨v16, hv16, h⟩ := XT h
 refine Xe (Xc _ _ _ hv16) ?_
 try simp only [go_sem, fx]
 obtain ⟨v17, hv17, h⟩ := XT h
 refine Xe (WY _ _ hv17) ?_
 try simp only [go_sem, fx]
 obtain ⟨v18, hv18, h⟩ := XT h
 refine Xe (Xc _ _ _ hv18) ?_
 try simp only [go_sem, fx]
 obtain ⟨v19, hv19, h⟩ := XT h
 refine Xe (WY _ _ hv19) ?_
 try simp only [go_sem, fx]
 obtain ⟨v20, hv20, h⟩ := XT h
 refine Xe (WY _ _ hv20) ?_
 try simp only [go_sem, fx]
 obtain ⟨v21, hv21, h⟩ := XT h
 refine Xe (WY _ _ hv21) ?_
 try simp only [go_sem, fx]
 obtain ⟨v22, hv22, h⟩ := XT h
 refine Xe (Xl _ _ _ hv22) ?_
 try simp only [go_sem, fx]
 obtain ⟨v23, hv23, h⟩ := XT h
 refine Xe (WY _ _ hv23) ?_
 try simp only [go_sem, fx]
 obtain ⟨v24, hv24, h⟩ := XT h
 refine Xe (Xl _ _ _ hv24) ?_
 try simp only [go_sem, fx]
 obtain ⟨v25, hv25, h⟩ := XT h
 refine Xe (Xc _ _ _ hv25) ?_
 try simp only [go_sem, fx]
 obtain ⟨v26, hv26, h⟩ := XT h
 refine Xe (Xl _ _ _ hv26) ?_
 try simp only [go_sem, fx]
 obtain ⟨v27, hv27, h⟩ := XT h
 refine Xe (Xc _ _ _ hv27) ?_
 try simp only [go_sem, fx]
 obtain ⟨v28, hv28, h⟩ := XT h
 refine Xe (Xc _ _ _ hv28) ?_
 try simp only [go_sem, fx]
 obtain ⟨v29, hv29, h⟩ := XT h
 refine Xe (Xc _ _ _ hv29) ?_
 try simp only [go_sem, fx]
 obtain ⟨v30, hv30, h⟩ := XT h
 refine Xe (Xz _ _ _ hv30) ?_
 try simp only [go_sem, fx]
 obtain ⟨v31, hv31, h⟩ := XT h
 refine Xe (WY _ _ hv31) ?_
 try simp only [go_sem, fx]
 obtain ⟨v32, hv32, h⟩ := XT h
 refine Xe (WY _ _ hv32) ?_
 try simp only [go_sem, fx]
 obtain ⟨v33, hv33, h⟩ := XT h
 refine Xe (WY _ _ hv33) ?_
 try simp only [go_sem, fx]
 obtain ⟨v34, hv34, h⟩ := XT h
 refine Xe (Xl _ _ _ hv34) ?_
 try simp only [go_sem, fx]
 obtain ⟨v35, hv35, h⟩ := XT h
 refine Xe (Xl _ _ _ hv35) ?_
 try simp only [go_sem, fx]
 obtain ⟨v36, hv36, h⟩ := XT h
 refine Xe (Xc _ _ _ hv36) ?_
 try simp only [go_sem, fx]
 obtain ⟨v37, hv37, h⟩ := XT h
 refine Xe (Xc _ _ _ hv37) ?_
 try simp only [go_sem, fx]
 obtain ⟨v38, hv38, h⟩ := XT h
 refine Xe (Xc _ _ _ hv38) ?_
 try simp only [go_sem, fx]
 obtain ⟨v39, hv39, h⟩ := XT h
 refine Xe (Xz _ _ _ hv39) ?_
 try simp only [go_sem, fx]
 obtain ⟨v40, hv40, h⟩ := XT h
 refine Xe (Xz _ _ _ hv40) ?_
 try simp only [go_sem, fx]
 obtain ⟨v41, hv41, h⟩ := XT h
 refine Xe (WY _ _ hv41) ?_
 try simp only [go_sem, fx]
 obtain ⟨v42, hv42, h⟩ := XT h
 refine Xe (WY _ _ hv42) ?_
 try simp only [go_sem, fx]
 obtain ⟨v43, hv43, h⟩ := XT h
 refine Xe (WY _ _ hv43) ?_
 try simp only [go_sem, fx]
 obtain ⟨v44, hv44, h⟩ := XT h
 refine Xe (Xl _ _ _ hv44) ?_
 try simp only [go_sem, fx]
 obtain ⟨v45, hv45, h⟩ := XT h
 refine Xe (Xl _ _ _ hv45) ?_
 try simp only [go_sem, fx]
 obtain ⟨v46, hv46, h⟩ := XT h
 refine Xe (WY _ _ hv46) ?_
 try simp only [go_sem, fx]
 obtain ⟨v47, hv47, h⟩ := XT h
 refine Xe (WY _ _ hv47) ?_
 try simp only [go_sem, fx]
 obtain ⟨v48, hv48, h⟩ := XT h
 refine Xe (Xl _ _ _ hv48) ?_
 try simp only [go_sem, fx]
 obtain ⟨v49, hv49, h⟩ := XT h
 refine Xe (Xl _ _ _ hv49) ?_
 try simp only [go_sem, fx]
 obtain ⟨v50, hv50, h⟩ := XT h
 refine Xe (Xc _ _ _ hv50) ?_
 try simp only [go_sem, fx]
 obtain ⟨v51, hv51, h⟩ := XT h
 refine Xe (Xc _ _ _ hv51) ?_
 try simp only [go_sem, fx]
 obtain ⟨v52, hv52, h⟩ := XT h
 refine Xe (Xc _ _ _ hv52) ?_
 try simp only [go_sem, fx]
 obtain ⟨v53, hv53, h⟩ := XT h
 refine Xe (Xc _ _ _ hv53) ?_
 try simp only [go_sem, fx]
 refine cd h (fun hc h => ?_) fun hc h => ?_
 ·refine rs ?_
  refine dw [] 0 ?_
  obtain ⟨v55, hv55, h⟩ := XT h
  refine Xe (WY _ _ hv55) ?_
  try simp only [go_sem, fx]
  obtain ⟨v56, hv56, h⟩ := XT h
  refine Xe (WY _ _ hv56) ?_
  try simp only [go_sem, fx]
  obtain ⟨v57, hv57, h⟩ := XT h
  refine Xe (Xl _ _ _ hv57) ?_
  try simp only [go_sem, fx]
  obtain ⟨v58, hv58, h⟩ := XT h
  refine Xe (Xc _ _ _ hv58) ?_
  try simp only [go_sem, fx]
  obtain ⟨v59, hv59, h⟩ := XT h
  refine Xe (Xc _ _ _ hv59) ?_
  try simp only [go_sem, fx]
  refine rs ?_
  refine dw [] 0 ?_
  obtain ⟨v60, hv60, h⟩ := XT h
  refine Xe (WY _ _ hv60) ?_
  try simp only [go_sem, fx]
  obtain ⟨v61, hv61, h⟩ := XT h
  refine Xe (WY _ _ hv61) ?_
  try simp only [go_sem, fx]
  obtain ⟨v62, hv62, h⟩ := XT h
  refine Xe (Xl _ _ _ hv62) ?_
  try simp only [go_sem, fx]
  obtain ⟨v63, hv63, h⟩ := XT h
  refine Xe (Xc _ _ _ hv63) ?_
  try simp only [go_sem, fx]
  obtain ⟨v64, hv64, h⟩ := XT h
  refine Xe (Xc _ _ _ hv64) ?_
  try simp only [go_sem, fx]
  refine rs ?_
  refine dw [] 0 ?_
  obtain ⟨v65, hv65, h⟩ := XT h
  refine Xe (WY _ _ hv65) ?_
  try simp only [go_sem, fx]
  obtain ⟨v66, hv66, h⟩ := XT h
  refine Xe (WY _ _ hv66) ?_
  try simp only [go_sem, fx]
  obtain ⟨v67, hv67, h⟩ := XT h
  refine Xe (WY _ _ hv67) ?_
  try simp only [go_sem, fx]
  obtain ⟨v68, hv68, h⟩ := XT h
  refine Xe (Xl _ _ _ hv68) ?_
  try simp only [go_sem, fx]
  obtain ⟨v69, hv69, h⟩ := XT h
  refine Xe (WY _ _ hv69) ?_
  try simp only [go_sem, fx]
  obtain ⟨v70, hv70, h⟩ := XT h
  refine Xe (Xl _ _ _ hv70) ?_
  try simp only [go_sem, fx]
  obtain ⟨v71, hv71, h⟩ := XT h
  refine Xe (Xc _ _ _ hv71) ?_
  try simp only [go_sem, fx]
  obtain ⟨v72, hv72, h⟩ := XT h
  refine Xe (Xl _ _ _ hv72) ?_
  try simp only [go_sem, fx]
  obtain ⟨v73, hv73, h⟩ := XT h
  refine Xe (Xc _ _ _ hv73) ?_
  try simp only [go_sem, fx]
  obtain ⟨v74, hv74, h⟩ := XT h
  refine Xe (Xc _ _ _ hv74) ?_
  try simp only [go_sem, fx]
  obtain ⟨v75, hv75, h⟩ := XT h
  refine Xe (Xc _ _ _ hv75) ?_
  try simp only [go_sem, fx]
  refine rr ?_
  exact fo (.sl false 6 96 (rows WO.cells [v59, v64, v18, v75, v38, v53])) (.ref _ _ _ _ _ _ _ _ _ (i0F.trans rfl) i8e (by decide) (by simp [Imm, D.imm]) (by simp only [go_sem, rows, List.map_cons, List.map_nil])) h hsc
 ·refine rr ?_
  exact fo (.sl false 6 96 (rows WO.cells [v11, v16, v18, v29, v38, v53])) (.ref _ _ _ _ _ _ _ _ _ (i0F.trans rfl) i8e (by decide) (by simp [Imm, D.imm]) (by simp only [go_sem, rows, List.map_cons, List.map_nil])) h hsc
theorem XU (n : Nat) (a0 : (List (List Int))) (r : Xg) (h : XQ n a0 = some r) : Pure Tryz.prog gl 106 [.sl false 1 24 (rows (slc 1 8 XM) a0)] (.agg [.sl false 2 32 (rows WX.cells r.nodes)]) := by
 intro st
 unfold XQ at h
 have fx := trivial
 refine fb 48 [.cell 2 30] [0, 2, 3, 5, 6, 7, 8, 9, 10, 11, 22] Tryz.func106 fun hsc => ?_
 refine r0 ?_
 refine r0 ?_
 refine r0 ?_
 (repeat apply sq_)
 refine i0h 2 32 ?_
 try simp only [List.append_assoc, List.cons_append, List.nil_append]
 refine d0s (F := [(2, .ptr st.length 0 0 0), (3, .ptr (st.length + 1) 0 0 0), (8, .sl false 1 24 (rows (slc 1 8 XM) a0)), (9, .int .i64 (↑a0.length : Int)), (10, .int .i64 0)]) (T := st ++ [some (.arr 0 1 0 [[.XC]]), some (.arr 0 1 0 [[.ref false (st.length + 2) 0 0 0]]), some (.arr 0 2 32 (rows WX.cells []))]) (i7f hsc (.lv (.live _ _ _ _ (.arr _ _ _ _ _ (.cons _ _ _ _ (.cons _ _ _ _ (.nref _ _ _ _ _ _ (i0F.trans rfl)) .nil) (.same _))) (.lv (.nil _)))) (by simp) ⟨.s, .s, .s, .s, .s, trivial⟩ (by simp)) ?_
 refine aln 8 fun hl0 => ?_
 refine rng (body := d1O n a0) (kk := d1P) (n := a0.length) (s0 := [])
  (fun (gs0 : Nat) (k0 : Nat) (s0 : (List WX)) => [(2, .ptr st.length 0 0 0), (3, .ptr (st.length + 1) 0 0 0), (8, .sl false 1 24 (rows (slc 1 8 XM) a0)), (9, .int .i64 (↑a0.length : Int)), (10, .int .i64 (↑k0 : Int))])
  (fun (gs0 : Nat) (k0 : Nat) (s0 : (List WX)) => st ++ [some (.arr 0 1 0 [[.XC]]), some (.arr 0 1 0 [[.ref false (st.length + 2) gs0 0 s0.length]]), some (.arr gs0 2 32 (rows WX.cells s0))])
  (fun (gt0 : Nat) (t0 : (List WX)) => [(2, .ptr st.length 0 0 0), (3, .ptr (st.length + 1) 0 0 0)])
  (fun (gt0 : Nat) (t0 : (List WX)) => st ++ [some (.arr 0 1 0 [[.XC]]), some (.arr 0 1 0 [[.ref false (st.length + 2) gt0 0 t0.length]]), some (.arr gt0 2 32 (rows WX.cells t0))])
  0 fx hl0 h (bm hsc)
  (fun gs0 k0 s0 b0 fx h hx0 => ?_) (fun gs0 s0 => ?_) (fun gt0 t0 fr1 st1 h hb => ?_)
 ·unfold d1O at h
  refine ct ?_
  obtain ⟨fx, h⟩ := ck fx h
  refine r0 ?_
  refine r0 ?_
  refine r0 ?_
  refine r0 ?_
  refine r0 ?_
  (repeat apply sq_)
  refine i0h 2 16 ?_
  try simp only [List.append_assoc, List.cons_append, List.nil_append]
  refine d0s (F := [(2, .ptr st.length 0 0 0), (3, .ptr (st.length + 1) 0 0 0), (5, .sl false 1 8 (rows XM (get a0 k0))), (6, .ptr (st.length + 3) 0 0 0), (7, .int .i64 1), (8, .sl false 1 24 (rows (slc 1 8 XM) a0)), (9, .int .i64 (↑a0.length : Int)), (10, .int .i64 (↑k0 : Int))]) (T := st ++ [some (.arr 0 1 0 [[.XC]]), some (.arr 0 1 0 [[.ref false (st.length + 2) gs0 0 s0.length]]), some (.arr gs0 2 32 (rows WX.cells s0)), some (.arr 0 2 0 [[.int .i64 (get (get a0 k0) 0), .ref false (st.length + 4) 0 0 0]]), some (.arr 0 2 16 (rows XL.cells []))]) (i7f hsc (.lv (.lv (.lv (.live _ _ _ _ (.arr _ _ _ _ _ (.cons _ _ _ _ (.cons _ _ _ _ .s (.cons _ _ _ _ (.nref _ _ _ _ _ _ (i0F.trans rfl)) .nil)) (.same _))) (.lv (.nil _)))))) (by simp) ⟨.s, .s, .s, .s, .s, .s, .s, .s, trivial⟩ (by simp)) ?_
  (repeat apply sq_)
  refine XV (body := d1M a0 k0) (kk := d1N s0 a0 k0) (n := n) (s0 := ([], 1))
   (fun (gs2 : Nat) (s2 : (List XL) × Int) => [(2, .ptr st.length 0 0 0), (3, .ptr (st.length + 1) 0 0 0), (5, .sl false 1 8 (rows XM (get a0 k0))), (6, .ptr (st.length + 3) 0 0 0), (7, .int .i64 s2.2), (8, .sl false 1 24 (rows (slc 1 8 XM) a0)), (9, .int .i64 (↑a0.length : Int)), (10, .int .i64 (↑k0 : Int))])
   (fun (gs2 : Nat) (s2 : (List XL) × Int) => st ++ [some (.arr 0 1 0 [[.XC]]), some (.arr 0 1 0 [[.ref false (st.length + 2) gs0 0 s0.length]]), some (.arr gs0 2 32 (rows WX.cells s0)), some (.arr 0 2 0 [[.int .i64 (get (get a0 k0) 0), .ref false (st.length + 4) gs2 0 s2.1.length]]), some (.arr gs2 2 16 (rows XL.cells s2.1))])
   (fun (gt2 : Nat) (t2 : (List XL)) => [(2, .ptr st.length 0 0 0), (3, .ptr (st.length + 1) 0 0 0), (6, .ptr (st.length + 3) 0 0 0), (8, .sl false 1 24 (rows (slc 1 8 XM) a0)), (9, .int .i64 (↑a0.length : Int)), (10, .int .i64 (↑k0 : Int))])
   (fun (gt2 : Nat) (t2 : (List XL)) => st ++ [some (.arr 0 1 0 [[.XC]]), some (.arr 0 1 0 [[.ref false (st.length + 2) gs0 0 s0.length]]), some (.arr gs0 2 32 (rows WX.cells s0)), some (.arr 0 2 0 [[.int .i64 (get (get a0 k0) 0), .ref false (st.length + 4) gt2 0 t2.length]]), some (.arr gt2 2 16 (rows XL.cells t2))])
   0 h (bm hsc)
   (fun gs2 s2 b2 h hx2 => ?_) (fun gt2 t2 fr1 st1 h hb => ?_)
  ·unfold d1M at h
   refine cd h (fun hc h => ?_) fun hc h => ?_
   ·refine rn ?_
    obtain ⟨fx, h⟩ := ck fx h
    obtain ⟨fx, h⟩ := ck fx h
    obtain ⟨c38, p9C, h⟩ := d9t h
    have fy := (show rows XL.cells s2.1 ++ [[.int .i64 (get (get a0 k0) s2.2.toNat), .int .i64 (get (get a0 k0) ((wr .i64 (s2.2 + 1)).toNat))]] = rows XL.cells c38 from by rw [p9C]; first | exact d4c (E := XL.cells) s2.1 [(XL.mk (get (get a0 k0) s2.2.toNat) (get (get a0 k0) ((wr .i64 (s2.2 + 1)).toNat)))] | simp only [go_sem, rows, List.map_append, List.map_cons, List.map_nil])
    have fy := fa fy (show s2.1.length + 1 = c38.length from by rw [p9C]; simp)
    obtain ⟨fx, h⟩ := ck fx h
    refine dwy [] 2 ?_
    refine rn ?_
    cases h
    exact Yg (gs2 + 1) (bm hsc)
   ·refine rn ?_
    cases h
    exact Zq gs2 (bm hsc)
  ·try simp only [go_sem, fx]
   unfold d1N at h
   refine d0s hb ?_
   obtain ⟨fx, h⟩ := ck fx h
   refine rn ?_
   cases h
   exact d4u (gs0 + 1) (bm hsc (hu := (.lv (.live _ _ _ _ (.arr _ _ _ _ _ (.cons _ _ _ _ (.cons _ _ _ _ (i5L (by first | (simp; done) | simp [Fr.get])) .nil) (.same _))) (.live _ _ _ _ (.arr _ _ _ _ _ (i2C (.cons _ _ _ _ (.cons _ _ _ _ .s (.cons _ _ _ _ (.ref _ _ _ _ _ _ _ _ _ (i0F.trans rfl) (i2D (by first | decide | simp)) (by decide) (i3y _) (by simp only [go_sem])) .nil)) .nil))) (.nil _))))))
 ·refine cf ?_
  refine d4b ?_; simp only [go_sem, fx]
  exact ⟨gs0, (bm hsc)⟩
 ·try simp only [go_sem, fx]
  unfold d1P at h
  refine d0s hb ?_
  refine rr ?_
  exact fo (.agg [.sl false 2 32 (rows WX.cells t0)]) (.agg _ _ (.cons _ _ _ _ (.ref _ _ _ _ _ _ _ _ _ (i0F.trans rfl) i8e (by decide) (i3y _) (by simp only [go_sem])) .nil)) h hsc
end Go.Proofs.YtgaeiccgdpnkkaaGreatDoor
