import Derived.Test.YtgaeiccgdpnkkaaGreatDoorCMirrors
set_option linter.unusedVariables false
set_option linter.unusedSimpArgs false
set_option maxHeartbeats 2000000
set_option maxRecDepth 100000
namespace Go.Proofs.YtgaeiccgdpnkkaaGreatDoor
open Go Go.Am
theorem d4p (n : Nat) (a0 : (List Yj)) (a1 : Int) (a2 : Int) (r : Bool) (h : Za n a0 a1 a2 = some r) : Pure Tryz.prog gl 140 [.sl false 2 40 (rows Yj.cells a0), .int .i64 a1, .int .i64 a2] (.bool r) := by
 intro st
 unfold Za at h
 have fx := trivial
 refine fb 45 [.tmp 6] [0, 1, 2, 6, 7, 8, 10, 20, 26, 31, 32, 33, 34] Tryz.func140 fun hsc => ?_
 refine r0 ?_
 obtain ⟨fx, h⟩ := ck fx h
 have fy := (show List.replicate a0.length [.bool false] = rows Zu (List.replicate a0.length (default : Bool)) from d5N (E := Zu) _ default)
 refine r1 ?_
 obtain ⟨fx, h⟩ := ck fx h
 have fy := (show (rows Zu (List.replicate a0.length (default : Bool))).getD a1.toNat [] = Zu (get (List.replicate a0.length (default : Bool)) a1.toNat) from d7R (E := Zu) (l := (List.replicate a0.length (default : Bool))) (k := a1.toNat) (by first | omega | (simp; omega)))
 have fy := fa fy (show a1.toNat < a0.length from by first | omega | (simp; omega))
 obtain ⟨c8, hc8, h⟩ := d9Z h
 have fy := fa fy (show (rows Zu (List.replicate a0.length (default : Bool))).set a1.toNat [.bool true] = rows Zu c8 from by rw [hc8]; first | exact i6m (E := Zu) _ _ _ | simp only [go_sem, rows, List.map_set])
 refine r1 ?_
 have e10 : D.ref true st.length 0 0 a0.length = D.ref true st.length 0 0 c8.length := by simp [hc8]
 simp only [e10]
 refine rn ?_
 refine ZQ (body := d2R a2 a0) (kk := d2U a2) (n := n) (s0 := (c8, a1))
  (fun (gs0 : Nat) (s0 : (List Bool) × Int) => [(0, .sl false 2 40 (rows Yj.cells a0)), (2, .int .i64 a2), (7, .ref true st.length gs0 0 s0.1.length), (8, .int .i64 s0.2)])
  (fun (gs0 : Nat) (s0 : (List Bool) × Int) => st ++ [some (.arr gs0 1 1 (rows Zu s0.1))])
  (fun (gt0 : Nat) (t0 : (List Bool)) => [(2, .int .i64 a2), (7, .ref true st.length gt0 0 t0.length)])
  (fun (gt0 : Nat) (t0 : (List Bool)) => st ++ [some (.arr gt0 1 1 (rows Zu t0))])
  0 h (bm hsc)
  (fun gs0 s0 b0 h hx0 => ?_) (fun gt0 t0 fr1 st1 h hb => ?_)
 ·unfold d2R at h
  refine cd h (fun hc h => ?_) fun hc h => ?_
  ·refine r0 ?_
   refine r0 ?_
   obtain ⟨fx, h⟩ := ck fx h
   have fy := (show (rows Zu s0.1).getD s0.2.toNat [] = Zu (get s0.1 s0.2.toNat) from d7R (E := Zu) (l := s0.1) (k := s0.2.toNat) (by first | omega | (simp; omega)))
   have fy := fa fy (show s0.2.toNat < s0.1.length from by first | omega | (simp; omega))
   refine r1 ?_
   refine cd h (fun hc h => ?_) fun hc h => ?_
   ·obtain ⟨fx, h⟩ := ck fx h
    refine aln 31 fun hl2 => ?_
    refine rng (body := d2S a0 s0) (kk := d2T s0) (n := ((get a0 s0.2.toNat).parents).length) (s0 := s0.1)
     (fun (gs2 : Nat) (k2 : Nat) (s2 : (List Bool)) => [(0, .sl false 2 40 (rows Yj.cells a0)), (2, .int .i64 a2), (7, .ref true st.length gs2 0 s2.length), (8, .int .i64 s0.2), (31, .sl false 1 8 (rows Zg ((get a0 s0.2.toNat).parents))), (32, .int .i64 (↑(((get a0 s0.2.toNat).parents).length) : Int)), (33, .int .i64 (↑k2 : Int))])
     (fun (gs2 : Nat) (k2 : Nat) (s2 : (List Bool)) => st ++ [some (.arr gs2 1 1 (rows Zu s2))])
     (fun (gt2 : Nat) (t2 : (List Bool)) => [(0, .sl false 2 40 (rows Yj.cells a0)), (2, .int .i64 a2), (7, .ref true st.length gt2 0 t2.length), (8, .int .i64 s0.2)])
     (fun (gt2 : Nat) (t2 : (List Bool)) => st ++ [some (.arr gt2 1 1 (rows Zu t2))])
     gs0 fx hl2 h (bm hsc)
     (fun gs2 k2 s2 b2 fx h hx2 => ?_) (fun gs2 s2 => ?_) (fun gt2 t2 fr1 st1 h hb => ?_)
    ·unfold d2S at h
     refine ct ?_
     refine r0 ?_
     refine r0 ?_
     refine r0 ?_
     obtain ⟨fx, h⟩ := ck fx h
     have fy := (show (rows Zu s2).getD ((get ((get a0 s0.2.toNat).parents) k2).toNat) [] = Zu (get s2 ((get ((get a0 s0.2.toNat).parents) k2).toNat)) from d7R (E := Zu) (l := s2) (k := (get ((get a0 s0.2.toNat).parents) k2).toNat) (by first | omega | (simp; omega)))
     have fy := fa fy (show (get ((get a0 s0.2.toNat).parents) k2).toNat < s2.length from by first | omega | (simp; omega))
     obtain ⟨c44, p9K, h⟩ := d9Z h
     have fy := fa fy (show (rows Zu s2).set ((get ((get a0 s0.2.toNat).parents) k2).toNat) [.bool true] = rows Zu c44 from by rw [p9K]; first | exact i6m (E := Zu) _ _ _ | simp only [go_sem, rows, List.map_set])
     refine r1 ?_
     have e46 : D.ref true st.length gs2 0 s2.length = D.ref true st.length gs2 0 c44.length := by simp [p9K]
     simp only [e46]
     refine rn ?_
     cases h
     exact d4S gs2 (bm hsc)
    ·refine cf ?_
     refine d4I ?_; simp only [go_sem, fx]
     exact ⟨gs2, (bm hsc)⟩
    ·try simp only [go_sem, fx]
     unfold d2T at h
     refine d1w hb ?_
     refine rn ?_
     cases h
     exact d0g gt2 (bm hsc)
   ·refine rn ?_
    cases h
    exact d0g gs0 (bm hsc)
  ·refine rn ?_
   cases h
   exact d1U gs0 (bm hsc)
 ·try simp only [go_sem, fx]
  unfold d2U at h
  refine d1w hb ?_
  obtain ⟨fx, h⟩ := ck fx h
  have fy := (show (rows Zu t0).getD a2.toNat [] = Zu (get t0 a2.toNat) from d7R (E := Zu) (l := t0) (k := a2.toNat) (by first | omega | (simp; omega)))
  have fy := fa fy (show a2.toNat < t0.length from by first | omega | (simp; omega))
  refine r1 ?_
  exact rt
theorem d0p (a0 : Bs) (r : Ye) (h : ZY a0 = some r) : Pure Tryz.prog gl 102 [.str a0] (.agg [.str r.base, .sl false 2 40 (rows Ye.cells r.args)]) := by
 intro st
 unfold ZY at h
 have fx := trivial
 refine fb 5 [.cell 2 119] [0, 2] Tryz.func102 fun hsc => ?_
 refine rr ?_
 exact fo (.agg [.str a0, .sl false 2 40 (rows Ye.cells [])]) (.agg _ _ (.cons _ _ _ _ .s (.cons _ _ _ _ (.YP _ _ _ (by decide)) .nil))) h hsc
theorem YM (a0 : Ye) (a1 : Ye) (r : Ye) (h : YQ a0 a1 = some r) : Pure Tryz.prog gl 103 [.agg [.str a0.base, .sl false 2 40 (rows Ye.cells a0.args)], .agg [.str a1.base, .sl false 2 40 (rows Ye.cells a1.args)]] (.agg [.str r.base, .sl false 2 40 (rows Ye.cells r.args)]) := by
 intro st
 unfold YQ at h
 have fx := trivial
 refine fb 9 [.cell 4 119] [0, 1, 2, 3, 4] Tryz.func103 fun hsc => ?_
 refine rr ?_
 exact fo (.agg [.str [], .sl false 2 40 (rows Ye.cells [a0, a1])]) (.agg _ _ (.cons _ _ _ _ .s (.cons _ _ _ _ (.ref _ _ _ _ _ _ _ _ _ (i0w.trans rfl) i6V (by decide) (by simp [Imm, D.imm]) (by simp only [go_sem, rows, List.map_cons, List.map_nil])) .nil))) h hsc
theorem d6h (a0 : (List Bs)) (a1 : (List Int)) (a2 : (List Yt)) (r : Ym) (h : d2x a0 a1 a2 = some r) : Pure Tryz.prog gl 104 [.sl false 1 16 (rows p3n a0), .sl false 1 8 (rows Zg a1), .sl false 3 32 (rows Yt.cells a2)] (.agg [.sl false 2 40 (rows Yj.cells r.types), .sl false 3 32 (rows Yt.cells r.YI)]) := by
 intro st
 unfold d2x at h
 have fx := trivial
 refine fb 38 [.cell 6 25] [0, 1, 2, 6, 7, 8, 9, 10, 11, 12, 13, 14, 21] Tryz.func104 fun hsc => ?_
 refine r0 ?_
 refine r0 ?_
 refine r0 ?_
 (repeat apply sq_)
 refine i0P 2 40 ?_
 try simp only [List.append_assoc, List.cons_append, List.nil_append]
 refine d1w (F := [(1, .sl false 1 8 (rows Zg a1)), (2, .sl false 3 32 (rows Yt.cells a2)), (6, .ptr st.length 0 0 0), (7, .ptr (st.length + 1) 0 0 0), (11, .sl false 1 16 (rows p3n a0)), (12, .int .i64 (↑a0.length : Int)), (13, .int .i64 0)]) (T := st ++ [some (.arr 0 2 0 [[.YP, .YP]]), some (.arr 0 2 0 [[.ref false (st.length + 2) 0 0 0, .YP]]), some (.arr 0 2 40 (rows Yj.cells []))]) (i7G hsc (.lv (.live _ _ _ _ (.arr _ _ _ _ _ (.cons _ _ _ _ (.cons _ _ _ _ (.nref _ _ _ _ _ _ (i0w.trans rfl)) (.cons _ _ _ _ .s .nil)) (.same _))) (.lv (.nil _)))) (by simp) ⟨.s, .s, .s, .s, .s, .s, .s, trivial⟩ (by simp)) ?_
 refine aln 11 fun hl0 => ?_
 refine rng (body := d1O a1 a0) (kk := d1P a2) (n := a0.length) (s0 := [])
  (fun (gs0 : Nat) (k0 : Nat) (s0 : (List Yj)) => [(1, .sl false 1 8 (rows Zg a1)), (2, .sl false 3 32 (rows Yt.cells a2)), (6, .ptr st.length 0 0 0), (7, .ptr (st.length + 1) 0 0 0), (11, .sl false 1 16 (rows p3n a0)), (12, .int .i64 (↑a0.length : Int)), (13, .int .i64 (↑k0 : Int))])
  (fun (gs0 : Nat) (k0 : Nat) (s0 : (List Yj)) => st ++ [some (.arr 0 2 0 [[.YP, .YP]]), some (.arr 0 2 0 [[.ref false (st.length + 2) gs0 0 s0.length, .YP]]), some (.arr gs0 2 40 (rows Yj.cells s0))])
  (fun (gt0 : Nat) (t0 : (List Yj)) => [(2, .sl false 3 32 (rows Yt.cells a2)), (6, .ptr st.length 0 0 0), (7, .ptr (st.length + 1) 0 0 0)])
  (fun (gt0 : Nat) (t0 : (List Yj)) => st ++ [some (.arr 0 2 0 [[.YP, .YP]]), some (.arr 0 2 0 [[.ref false (st.length + 2) gt0 0 t0.length, .YP]]), some (.arr gt0 2 40 (rows Yj.cells t0))])
  0 fx hl0 h (bm hsc)
  (fun gs0 k0 s0 b0 fx h hx0 => ?_) (fun gs0 s0 => ?_) (fun gt0 t0 fr1 st1 h hb => ?_)
 ·unfold d1O at h
  refine ct ?_
  refine cd h (fun hc h => ?_) fun hc h => ?_
  ·obtain ⟨fx, h⟩ := ck fx h
   refine r0 ?_
   obtain ⟨c14, p9L, h⟩ := d9Z h
   have fy := (show rows Yj.cells s0 ++ [[.str (get a0 k0), .sl false 1 8 [[.int .i64 (get a1 k0)]]]] = rows Yj.cells c14 from by rw [p9L]; first | exact d4R (E := Yj.cells) s0 [(Yj.mk (get a0 k0) [(get a1 k0)])] | simp only [go_sem, rows, List.map_append, List.map_cons, List.map_nil])
   have fy := fa fy (show s0.length + 1 = c14.length from by rw [p9L]; simp)
   obtain ⟨fx, h⟩ := ck fx h
   refine r1 ?_
   refine rn ?_
   cases h
   exact d4S (gs0 + 1) (bm hsc)
  ·obtain ⟨fx, h⟩ := ck fx h
   refine rn ?_
   cases h
   exact d4S (gs0 + 1) (bm hsc (hu := (.lv (.live _ _ _ _ (.arr _ _ _ _ _ (.cons _ _ _ _ (.cons _ _ _ _ (i3Z (by first | (simp; done) | simp [Fr.get])) (.cons _ _ _ _ .s .nil)) (.same _))) (.live _ _ _ _ (.arr _ _ _ _ _ (i3l (.cons _ _ _ _ (.cons _ _ _ _ .s (.cons _ _ _ _ (.YP _ _ _ (by decide)) .nil)) .nil))) (.nil _))))))
 ·refine cf ?_
  refine d4I ?_; simp only [go_sem, fx]
  exact ⟨gs0, (bm hsc)⟩
 ·try simp only [go_sem, fx]
  unfold d1P at h
  refine d1w hb ?_
  refine rr ?_
  exact fo (.agg [.sl false 2 40 (rows Yj.cells t0), .sl false 3 32 (rows Yt.cells a2)]) (.agg _ _ (.cons _ _ _ _ (.ref _ _ _ _ _ _ _ _ _ (i0w.trans rfl) i6V (by decide) (i3j _) (by simp only [go_sem])) (.cons _ _ _ _ .s .nil))) h hsc
theorem Yp (a0 : Int) (r : Yg) (h : Yr a0 = some r) : Pure Tryz.prog gl 112 [.int .i64 a0] (.agg [.int .i64 r.kind, .str r.name, .int .i64 r.index, .str r.type.base, .sl false 2 40 (rows Ye.cells r.type.args), .sl false 6 96 (rows Yg.cells r.args)]) := by
 intro st
 unfold Yr at h
 have fx := trivial
 refine fb 5 [.cell 2 122] [0, 2] Tryz.func112 fun hsc => ?_
 refine rr ?_
 exact fo (.agg [.int .i64 2, .str [], .int .i64 a0, .str [], .sl false 2 40 (rows Ye.cells []), .sl false 6 96 (rows Yg.cells [])]) (.agg _ _ (.cons _ _ _ _ .s (.cons _ _ _ _ .s (.cons _ _ _ _ .s (.cons _ _ _ _ .s (.cons _ _ _ _ (.YP _ _ _ (by decide)) (.cons _ _ _ _ (.YP _ _ _ (by decide)) .nil))))))) h hsc
theorem YB (a0 : Yg) (a1 : Yg) (r : Yg) (h : YF a0 a1 = some r) : Pure Tryz.prog gl 111 [.agg [.int .i64 a0.kind, .str a0.name, .int .i64 a0.index, .str a0.type.base, .sl false 2 40 (rows Ye.cells a0.type.args), .sl false 6 96 (rows Yg.cells a0.args)], .agg [.int .i64 a1.kind, .str a1.name, .int .i64 a1.index, .str a1.type.base, .sl false 2 40 (rows Ye.cells a1.type.args), .sl false 6 96 (rows Yg.cells a1.args)]] (.agg [.int .i64 r.kind, .str r.name, .int .i64 r.index, .str r.type.base, .sl false 2 40 (rows Ye.cells r.type.args), .sl false 6 96 (rows Yg.cells r.args)]) := by
 intro st
 unfold YF at h
 have fx := trivial
 refine fb 9 [.cell 4 122] [0, 1, 2, 3, 4] Tryz.func111 fun hsc => ?_
 refine rr ?_
 exact fo (.agg [.int .i64 4, .str [], .int .i64 0, .str [], .sl false 2 40 (rows Ye.cells []), .sl false 6 96 (rows Yg.cells [a0, a1])]) (.agg _ _ (.cons _ _ _ _ .s (.cons _ _ _ _ .s (.cons _ _ _ _ .s (.cons _ _ _ _ .s (.cons _ _ _ _ (.YP _ _ _ (by decide)) (.cons _ _ _ _ (.ref _ _ _ _ _ _ _ _ _ (i0w.trans rfl) i6V (by decide) (by simp [Imm, D.imm]) (by simp only [go_sem, rows, List.map_cons, List.map_nil])) .nil))))))) h hsc
theorem Ys (a0 : Ye) (a1 : Yg) (r : Yg) (h : Yw a0 a1 = some r) : Pure Tryz.prog gl 110 [.agg [.str a0.base, .sl false 2 40 (rows Ye.cells a0.args)], .agg [.int .i64 a1.kind, .str a1.name, .int .i64 a1.index, .str a1.type.base, .sl false 2 40 (rows Ye.cells a1.type.args), .sl false 6 96 (rows Yg.cells a1.args)]] (.agg [.int .i64 r.kind, .str r.name, .int .i64 r.index, .str r.type.base, .sl false 2 40 (rows Ye.cells r.type.args), .sl false 6 96 (rows Yg.cells r.args)]) := by
 intro st
 unfold Yw at h
 have fx := trivial
 refine fb 9 [.cell 4 122] [0, 1, 2, 3, 4] Tryz.func110 fun hsc => ?_
 refine rr ?_
 exact fo (.agg [.int .i64 3, .str [], .int .i64 0, .str a0.base, .sl false 2 40 (rows Ye.cells a0.args), .sl false 6 96 (rows Yg.cells [a1])]) (.agg _ _ (.cons _ _ _ _ .s (.cons _ _ _ _ .s (.cons _ _ _ _ .s (.cons _ _ _ _ .s (.cons _ _ _ _ .s (.cons _ _ _ _ (.ref _ _ _ _ _ _ _ _ _ (i0w.trans rfl) i6V (by decide) (by simp [Imm, D.imm]) (by simp only [go_sem, rows, List.map_cons, List.map_nil])) .nil))))))) h hsc
theorem d7h (a0 : Bool) (r : (List Yg)) (h : d3r a0 = some r) : Pure Tryz.prog gl 105 [.bool a0] (.sl false 6 96 (rows Yg.cells r)) := by
 intro st
 unfold d3r at h
 have fx := trivial
 refine fb 128 [.tmp 2] [0, 2, 3, 4, 5, 6, 7, 8, 9, 91] Tryz.func105 fun hsc => ?_
 refine cl h (d0p _) fun v1 h => ?_
 refine cl h (d0p _) fun v2 h => ?_
 refine cl h (YM _ _) fun v3 h => ?_
 refine cl h (YM _ _) fun v4 h => ?_
 refine cl h (YM _ _) fun v5 h => ?_
 refine cl h (YM _ _) fun v6 h => ?_
 refine rn ?_
 refine dw [] 1 ?_
 obtain ⟨v7, hv7, h⟩ := Zp h
 refine Yv (Yp _ _ hv7) ?_
 try simp only [go_sem, fx]
 obtain ⟨v8, hv8, h⟩ := Zp h
 refine Yv (Yp _ _ hv8) ?_
 try simp only [go_sem, fx]
 obtain ⟨v9, hv9, h⟩ := Zp h
 refine Yv (YB _ _ _ hv9) ?_
 try simp only [go_sem, fx]
 obtain ⟨v10, hv10, h⟩ := Zp h
 refine Yv (Ys _ _ _ hv10) ?_
 try simp only [go_sem, fx]
 obtain ⟨v11, hv11, h⟩ := Zp h
 refine Yv (Ys _ _ _ hv11) ?_
 try simp only [go_sem, fx]
 obtain ⟨v12, hv12, h⟩ := Zp h
 refine Yv (Yp _ _ hv12) ?_
 try simp only [go_sem, fx]
 obtain ⟨v13, hv13, h⟩ := Zp h
 refine Yv (Yp _ _ hv13) ?_
 try simp only [go_sem, fx]
 obtain ⟨v14, hv14, h⟩ := Zp h
 refine Yv (YB _ _ _ hv14) ?_
 try simp only [go_sem, fx]
 obtain ⟨v15, hv15, h⟩ := Zp h
 refine Yv (Ys _ _ _ hv15) ?_
 try simp only [go_sem, fx]
 obtain ⟨v16, hv16, h⟩ := Zp h
 refine Yv (Ys _ _ _ hv16) ?_
 try simp only [go_sem, fx]
 obtain ⟨v17, hv17, h⟩ := Zp h
 refine Yv (Yp _ _ hv17) ?_
 try simp only [go_sem, fx]
 obtain ⟨v18, hv18, h⟩ := Zp h
 refine Yv (Ys _ _ _ hv18) ?_
 try simp only [go_sem, fx]
 obtain ⟨v19, hv19, h⟩ := Zp h
 refine Yv (Yp _ _ hv19) ?_
 try simp only [go_sem, fx]
 obtain ⟨v20, hv20, h⟩ := Zp h
 refine Yv (Yp _ _ hv20) ?_
 try simp only [go_sem, fx]
 obtain ⟨v21, hv21, h⟩ := Zp h
 refine Yv (Yp _ _ hv21) ?_
 try simp only [go_sem, fx]
 obtain ⟨v22, hv22, h⟩ := Zp h
 refine Yv (YB _ _ _ hv22) ?_
 try simp only [go_sem, fx]
 obtain ⟨v23, hv23, h⟩ := Zp h
 refine Yv (Yp _ _ hv23) ?_
 try simp only [go_sem, fx]
 obtain ⟨v24, hv24, h⟩ := Zp h
 refine Yv (YB _ _ _ hv24) ?_
 try simp only [go_sem, fx]
 obtain ⟨v25, hv25, h⟩ := Zp h
 refine Yv (Ys _ _ _ hv25) ?_
 try simp only [go_sem, fx]
 obtain ⟨v26, hv26, h⟩ := Zp h
 refine Yv (YB _ _ _ hv26) ?_
 try simp only [go_sem, fx]
 obtain ⟨v27, hv27, h⟩ := Zp h
 refine Yv (Ys _ _ _ hv27) ?_
 try simp only [go_sem, fx]
 obtain ⟨v28, hv28, h⟩ := Zp h
 refine Yv (Ys _ _ _ hv28) ?_
 try simp only [go_sem, fx]
 obtain ⟨v29, hv29, h⟩ := Zp h
 refine Yv (Ys _ _ _ hv29) ?_
 try simp only [go_sem, fx]
 obtain ⟨v30, hv30, h⟩ := Zp h
 refine Yv (YM _ _ _ hv30) ?_
 try simp only [go_sem, fx]
 obtain ⟨v31, hv31, h⟩ := Zp h
 refine Yv (Yp _ _ hv31) ?_
 try simp only [go_sem, fx]
 obtain ⟨v32, hv32, h⟩ := Zp h
 refine Yv (Yp _ _ hv32) ?_
 try simp only [go_sem, fx]
 obtain ⟨v33, hv33, h⟩ := Zp h
 refine Yv (Yp _ _ hv33) ?_
 try simp only [go_sem, fx]
 obtain ⟨v34, hv34, h⟩ := Zp h
 refine Yv (YB _ _ _ hv34) ?_
 try simp only [go_sem, fx]
 obtain ⟨v35, hv35, h⟩ := Zp h
 refine Yv (YB _ _ _ hv35) ?_
 try simp only [go_sem, fx]
 obtain ⟨v36, hv36, h⟩ := Zp h
 refine Yv (Ys _ _ _ hv36) ?_
 try simp only [go_sem, fx]
 obtain ⟨v37, hv37, h⟩ := Zp h
 refine Yv (Ys _ _ _ hv37) ?_
 try simp only [go_sem, fx]
 obtain ⟨v38, hv38, h⟩ := Zp h
 refine Yv (Ys _ _ _ hv38) ?_
 try simp only [go_sem, fx]
 obtain ⟨v39, hv39, h⟩ := Zp h
 refine Yv (YM _ _ _ hv39) ?_
 try simp only [go_sem, fx]
 obtain ⟨v40, hv40, h⟩ := Zp h
 refine Yv (YM _ _ _ hv40) ?_
 try simp only [go_sem, fx]
 obtain ⟨v41, hv41, h⟩ := Zp h
 refine Yv (Yp _ _ hv41) ?_
 try simp only [go_sem, fx]
 obtain ⟨v42, hv42, h⟩ := Zp h
 refine Yv (Yp _ _ hv42) ?_
 try simp only [go_sem, fx]
 obtain ⟨v43, hv43, h⟩ := Zp h
 refine Yv (Yp _ _ hv43) ?_
 try simp only [go_sem, fx]
 obtain ⟨v44, hv44, h⟩ := Zp h
 refine Yv (YB _ _ _ hv44) ?_
 try simp only [go_sem, fx]
 obtain ⟨v45, hv45, h⟩ := Zp h
 refine Yv (YB _ _ _ hv45) ?_
 try simp only [go_sem, fx]
 obtain ⟨v46, hv46, h⟩ := Zp h
 refine Yv (Yp _ _ hv46) ?_
 try simp only [go_sem, fx]
 obtain ⟨v47, hv47, h⟩ := Zp h
 refine Yv (Yp _ _ hv47) ?_
 try simp only [go_sem, fx]
 obtain ⟨v48, hv48, h⟩ := Zp h
 refine Yv (YB _ _ _ hv48) ?_
 try simp only [go_sem, fx]
 obtain ⟨v49, hv49, h⟩ := Zp h
 refine Yv (YB _ _ _ hv49) ?_
 try simp only [go_sem, fx]
 obtain ⟨v50, hv50, h⟩ := Zp h
 refine Yv (Ys _ _ _ hv50) ?_
 try simp only [go_sem, fx]
 obtain ⟨v51, hv51, h⟩ := Zp h
 refine Yv (Ys _ _ _ hv51) ?_
 try simp only [go_sem, fx]
 obtain ⟨v52, hv52, h⟩ := Zp h
 refine Yv (Ys _ _ _ hv52) ?_
 try simp only [go_sem, fx]
 obtain ⟨v53, hv53, h⟩ := Zp h
 refine Yv (Ys _ _ _ hv53) ?_
 try simp only [go_sem, fx]
 refine cd h (fun hc h => ?_) fun hc h => ?_
 ·refine rs ?_
  refine dw [] 0 ?_
  obtain ⟨v55, hv55, h⟩ := Zp h
  refine Yv (Yp _ _ hv55) ?_
  try simp only [go_sem, fx]
  obtain ⟨v56, hv56, h⟩ := Zp h
  refine Yv (Yp _ _ hv56) ?_
  try simp only [go_sem, fx]
  obtain ⟨v57, hv57, h⟩ := Zp h
  refine Yv (YB _ _ _ hv57) ?_
  try simp only [go_sem, fx]
  obtain ⟨v58, hv58, h⟩ := Zp h
  refine Yv (Ys _ _ _ hv58) ?_
  try simp only [go_sem, fx]
  obtain ⟨v59, hv59, h⟩ := Zp h
  refine Yv (Ys _ _ _ hv59) ?_
  try simp only [go_sem, fx]
  refine rs ?_
  refine dw [] 0 ?_
  obtain ⟨v60, hv60, h⟩ := Zp h
  refine Yv (Yp _ _ hv60) ?_
  try simp only [go_sem, fx]
  obtain ⟨v61, hv61, h⟩ := Zp h
  refine Yv (Yp _ _ hv61) ?_
  try simp only [go_sem, fx]
  obtain ⟨v62, hv62, h⟩ := Zp h
  refine Yv (YB _ _ _ hv62) ?_
  try simp only [go_sem, fx]
  obtain ⟨v63, hv63, h⟩ := Zp h
  refine Yv (Ys _ _ _ hv63) ?_
  try simp only [go_sem, fx]
  obtain ⟨v64, hv64, h⟩ := Zp h
  refine Yv (Ys _ _ _ hv64) ?_
  try simp only [go_sem, fx]
  refine rs ?_
  refine dw [] 0 ?_
  obtain ⟨v65, hv65, h⟩ := Zp h
  refine Yv (Yp _ _ hv65) ?_
  try simp only [go_sem, fx]
  obtain ⟨v66, hv66, h⟩ := Zp h
  refine Yv (Yp _ _ hv66) ?_
  try simp only [go_sem, fx]
  obtain ⟨v67, hv67, h⟩ := Zp h
  refine Yv (Yp _ _ hv67) ?_
  try simp only [go_sem, fx]
  obtain ⟨v68, hv68, h⟩ := Zp h
  refine Yv (YB _ _ _ hv68) ?_
  try simp only [go_sem, fx]
  obtain ⟨v69, hv69, h⟩ := Zp h
  refine Yv (Yp _ _ hv69) ?_
  try simp only [go_sem, fx]
  obtain ⟨v70, hv70, h⟩ := Zp h
  refine Yv (YB _ _ _ hv70) ?_
  try simp only [go_sem, fx]
  obtain ⟨v71, hv71, h⟩ := Zp h
  refine Yv (Ys _ _ _ hv71) ?_
  try simp only [go_sem, fx]
  obtain ⟨v72, hv72, h⟩ := Zp h
  refine Yv (YB _ _ _ hv72) ?_
  try simp only [go_sem, fx]
  obtain ⟨v73, hv73, h⟩ := Zp h
  refine Yv (Ys _ _ _ hv73) ?_
  try simp only [go_sem, fx]
  obtain ⟨v74, hv74, h⟩ := Zp h
  refine Yv (Ys _ _ _ hv74) ?_
  try simp only [go_sem, fx]
  obtain ⟨v75, hv75, h⟩ := Zp h
  refine Yv (Ys _ _ _ hv75) ?_
  try simp only [go_sem, fx]
  refine rr ?_
  exact fo (.sl false 6 96 (rows Yg.cells [v59, v64, v18, v75, v38, v53])) (.ref _ _ _ _ _ _ _ _ _ (i0w.trans rfl) i6V (by decide) (by simp [Imm, D.imm]) (by simp only [go_sem, rows, List.map_cons, List.map_nil])) h hsc
 ·refine rr ?_
  exact fo (.sl false 6 96 (rows Yg.cells [v11, v16, v18, v29, v38, v53])) (.ref _ _ _ _ _ _ _ _ _ (i0w.trans rfl) i6V (by decide) (by simp [Imm, D.imm]) (by simp only [go_sem, rows, List.map_cons, List.map_nil])) h hsc
theorem Zq (n : Nat) (a0 : (List (List Int))) (r : Yx) (h : Zk n a0 = some r) : Pure Tryz.prog gl 106 [.sl false 1 24 (rows (slc 1 8 Zg) a0)] (.agg [.sl false 2 32 (rows Yo.cells r.nodes)]) := by
 intro st
 unfold Zk at h
 have fx := trivial
 refine fb 48 [.cell 2 30] [0, 2, 3, 5, 6, 7, 8, 9, 10, 11, 22] Tryz.func106 fun hsc => ?_
 refine r0 ?_
 refine r0 ?_
 refine r0 ?_
 (repeat apply sq_)
 refine i0P 2 32 ?_
 try simp only [List.append_assoc, List.cons_append, List.nil_append]
 refine d1w (F := [(2, .ptr st.length 0 0 0), (3, .ptr (st.length + 1) 0 0 0), (8, .sl false 1 24 (rows (slc 1 8 Zg) a0)), (9, .int .i64 (↑a0.length : Int)), (10, .int .i64 0)]) (T := st ++ [some (.arr 0 1 0 [[.YP]]), some (.arr 0 1 0 [[.ref false (st.length + 2) 0 0 0]]), some (.arr 0 2 32 (rows Yo.cells []))]) (i7G hsc (.lv (.live _ _ _ _ (.arr _ _ _ _ _ (.cons _ _ _ _ (.cons _ _ _ _ (.nref _ _ _ _ _ _ (i0w.trans rfl)) .nil) (.same _))) (.lv (.nil _)))) (by simp) ⟨.s, .s, .s, .s, .s, trivial⟩ (by simp)) ?_
 refine aln 8 fun hl0 => ?_
 refine rng (body := d2K n a0) (kk := d2L) (n := a0.length) (s0 := [])
  (fun (gs0 : Nat) (k0 : Nat) (s0 : (List Yo)) => [(2, .ptr st.length 0 0 0), (3, .ptr (st.length + 1) 0 0 0), (8, .sl false 1 24 (rows (slc 1 8 Zg) a0)), (9, .int .i64 (↑a0.length : Int)), (10, .int .i64 (↑k0 : Int))])
  (fun (gs0 : Nat) (k0 : Nat) (s0 : (List Yo)) => st ++ [some (.arr 0 1 0 [[.YP]]), some (.arr 0 1 0 [[.ref false (st.length + 2) gs0 0 s0.length]]), some (.arr gs0 2 32 (rows Yo.cells s0))])
  (fun (gt0 : Nat) (t0 : (List Yo)) => [(2, .ptr st.length 0 0 0), (3, .ptr (st.length + 1) 0 0 0)])
  (fun (gt0 : Nat) (t0 : (List Yo)) => st ++ [some (.arr 0 1 0 [[.YP]]), some (.arr 0 1 0 [[.ref false (st.length + 2) gt0 0 t0.length]]), some (.arr gt0 2 32 (rows Yo.cells t0))])
  0 fx hl0 h (bm hsc)
  (fun gs0 k0 s0 b0 fx h hx0 => ?_) (fun gs0 s0 => ?_) (fun gt0 t0 fr1 st1 h hb => ?_)
 ·unfold d2K at h
  refine ct ?_
  obtain ⟨fx, h⟩ := ck fx h
  refine r0 ?_
  refine r0 ?_
  refine r0 ?_
  refine r0 ?_
  refine r0 ?_
  (repeat apply sq_)
  refine i0P 2 16 ?_
  try simp only [List.append_assoc, List.cons_append, List.nil_append]
  refine d1w (F := [(2, .ptr st.length 0 0 0), (3, .ptr (st.length + 1) 0 0 0), (5, .sl false 1 8 (rows Zg (get a0 k0))), (6, .ptr (st.length + 3) 0 0 0), (7, .int .i64 1), (8, .sl false 1 24 (rows (slc 1 8 Zg) a0)), (9, .int .i64 (↑a0.length : Int)), (10, .int .i64 (↑k0 : Int))]) (T := st ++ [some (.arr 0 1 0 [[.YP]]), some (.arr 0 1 0 [[.ref false (st.length + 2) gs0 0 s0.length]]), some (.arr gs0 2 32 (rows Yo.cells s0)), some (.arr 0 2 0 [[.int .i64 (get (get a0 k0) 0), .ref false (st.length + 4) 0 0 0]]), some (.arr 0 2 16 (rows Zh.cells []))]) (i7G hsc (.lv (.lv (.lv (.live _ _ _ _ (.arr _ _ _ _ _ (.cons _ _ _ _ (.cons _ _ _ _ .s (.cons _ _ _ _ (.nref _ _ _ _ _ _ (i0w.trans rfl)) .nil)) (.same _))) (.lv (.nil _)))))) (by simp) ⟨.s, .s, .s, .s, .s, .s, .s, .s, trivial⟩ (by simp)) ?_
  (repeat apply sq_)
  refine ZQ (body := d2I a0 k0) (kk := d2J s0 a0 k0) (n := n) (s0 := ([], 1))
   (fun (gs2 : Nat) (s2 : (List Zh) × Int) => [(2, .ptr st.length 0 0 0), (3, .ptr (st.length + 1) 0 0 0), (5, .sl false 1 8 (rows Zg (get a0 k0))), (6, .ptr (st.length + 3) 0 0 0), (7, .int .i64 s2.2), (8, .sl false 1 24 (rows (slc 1 8 Zg) a0)), (9, .int .i64 (↑a0.length : Int)), (10, .int .i64 (↑k0 : Int))])
   (fun (gs2 : Nat) (s2 : (List Zh) × Int) => st ++ [some (.arr 0 1 0 [[.YP]]), some (.arr 0 1 0 [[.ref false (st.length + 2) gs0 0 s0.length]]), some (.arr gs0 2 32 (rows Yo.cells s0)), some (.arr 0 2 0 [[.int .i64 (get (get a0 k0) 0), .ref false (st.length + 4) gs2 0 s2.1.length]]), some (.arr gs2 2 16 (rows Zh.cells s2.1))])
   (fun (gt2 : Nat) (t2 : (List Zh)) => [(2, .ptr st.length 0 0 0), (3, .ptr (st.length + 1) 0 0 0), (6, .ptr (st.length + 3) 0 0 0), (8, .sl false 1 24 (rows (slc 1 8 Zg) a0)), (9, .int .i64 (↑a0.length : Int)), (10, .int .i64 (↑k0 : Int))])
   (fun (gt2 : Nat) (t2 : (List Zh)) => st ++ [some (.arr 0 1 0 [[.YP]]), some (.arr 0 1 0 [[.ref false (st.length + 2) gs0 0 s0.length]]), some (.arr gs0 2 32 (rows Yo.cells s0)), some (.arr 0 2 0 [[.int .i64 (get (get a0 k0) 0), .ref false (st.length + 4) gt2 0 t2.length]]), some (.arr gt2 2 16 (rows Zh.cells t2))])
   0 h (bm hsc)
   (fun gs2 s2 b2 h hx2 => ?_) (fun gt2 t2 fr1 st1 h hb => ?_)
  ·unfold d2I at h
   refine cd h (fun hc h => ?_) fun hc h => ?_
   ·refine rn ?_
    obtain ⟨fx, h⟩ := ck fx h
    obtain ⟨fx, h⟩ := ck fx h
    obtain ⟨c38, p9M, h⟩ := d9Z h
    have fy := (show rows Zh.cells s2.1 ++ [[.int .i64 (get (get a0 k0) s2.2.toNat), .int .i64 (get (get a0 k0) ((wr .i64 (s2.2 + 1)).toNat))]] = rows Zh.cells c38 from by rw [p9M]; first | exact d4R (E := Zh.cells) s2.1 [(Zh.mk (get (get a0 k0) s2.2.toNat) (get (get a0 k0) ((wr .i64 (s2.2 + 1)).toNat)))] | simp only [go_sem, rows, List.map_append, List.map_cons, List.map_nil])
    have fy := fa fy (show s2.1.length + 1 = c38.length from by rw [p9M]; simp)
    obtain ⟨fx, h⟩ := ck fx h
    refine dwy [] 2 ?_
    refine rn ?_
    cases h
    exact d0g (gs2 + 1) (bm hsc)
   ·refine rn ?_
    cases h
    exact d1U gs2 (bm hsc)
  ·try simp only [go_sem, fx]
   unfold d2J at h
   refine d1w hb ?_
   obtain ⟨fx, h⟩ := ck fx h
   refine rn ?_
   cases h
   exact d4S (gs0 + 1) (bm hsc (hu := (.lv (.live _ _ _ _ (.arr _ _ _ _ _ (.cons _ _ _ _ (.cons _ _ _ _ (i3Z (by first | (simp; done) | simp [Fr.get])) .nil) (.same _))) (.live _ _ _ _ (.arr _ _ _ _ _ (i3l (.cons _ _ _ _ (.cons _ _ _ _ .s (.cons _ _ _ _ (.ref _ _ _ _ _ _ _ _ _ (i0w.trans rfl) (i3m (by first | decide | simp)) (by decide) (i3j _) (by simp only [go_sem])) .nil)) .nil))) (.nil _))))))
 ·refine cf ?_
  refine d4I ?_; simp only [go_sem, fx]
  exact ⟨gs0, (bm hsc)⟩
 ·try simp only [go_sem, fx]
  unfold d2L at h
  refine d1w hb ?_
  refine rr ?_
  exact fo (.agg [.sl false 2 32 (rows Yo.cells t0)]) (.agg _ _ (.cons _ _ _ _ (.ref _ _ _ _ _ _ _ _ _ (i0w.trans rfl) i6V (by decide) (i3j _) (by simp only [go_sem])) .nil)) h hsc
end Go.Proofs.YtgaeiccgdpnkkaaGreatDoor
