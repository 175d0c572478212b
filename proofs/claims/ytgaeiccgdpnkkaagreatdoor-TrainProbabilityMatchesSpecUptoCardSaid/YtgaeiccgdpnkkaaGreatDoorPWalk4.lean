import Derived.Test.YtgaeiccgdpnkkaaGreatDoorPWalk3
import Derived.Test.YtgaeiccgdpnkkaaGreatDoorPHand2
set_option linter.unusedVariables false
set_option linter.unusedSimpArgs false
set_option maxHeartbeats 2000000
set_option maxRecDepth 100000
namespace Go.Proofs.YtgaeiccgdpnkkaaGreatDoor
open Go Go.Am
theorem i5M : ∀ (n : Nat) (a0 : Yh) (l0 : (List Ye)) (r : Ye × Bool) (h : d3i n a0 l0 = some r), ∀ (st : St) (o0 q0 : Nat) (hnd : [o0].Nodup) (d7g : Am.look st o0 = some (.arr q0 2 40 (rows Ye.cells l0))), Am.Spec Tryz.prog gl 215 [.agg [.int .i64 a0.kind, .str a0.name, .int .i64 a0.index, .str a0.type.base, .sl false 2 40 (rows Ye.cells a0.type.args), .sl false 6 96 (rows Yh.cells a0.args)], .ref false o0 q0 0 l0.length] st (fun d st' => d = .tup [.agg [.str r.1.base, .sl false 2 40 (rows Ye.cells r.1.args)], .bool r.2] ∧ st' = puts st []) := by
 intro n
 induction n with
 | zero => intro a0 l0 r h; cases h
 | succ n ih =>
  intro a0 l0 r h st o0 q0 hnd d7g
  unfold d3i at h
  have ho0 := d2c d7g
  have fx := idf ho0
  refine fb 101 [.cell 4 119, .tmp 5] [0, 1, 2, 4, 5, 6, 7, 8, 9, 10, 11, 12, 14, 15, 19, 30, 78, 79, 82, 83, 84, 85, 88, 89, 90, 91, 92, 93, 94, 95] Tryz.func215 fun hsc => ?_
  refine i0b (s' := (d2n st [(o0, (.arr q0 2 40 (rows Ye.cells l0)))])) (d0t (by simp [d7g])) ?_
  refine cd h (fun hc h => ?_) fun hc h => ?_
  ·refine rr ?_
   exact fuo (.tup [.agg [.str a0.type.base, .sl false 2 40 (rows Ye.cells a0.type.args)], .bool true]) (.same _) h hsc (hr := by rintro rfl; exact ⟨rfl, d0t (by simp [d7g])⟩)
  ·refine cd h (fun hc h => ?_) fun hc h => ?_
   ·obtain ⟨fx, h⟩ := ck fx h
    have fy := (show (rows Ye.cells l0).getD ((wr .i64 ((wr .i64 ((↑l0.length : Int) - 1)) - a0.index)).toNat) [] = Ye.cells (get l0 ((wr .i64 ((wr .i64 ((↑l0.length : Int) - 1)) - a0.index)).toNat)) from d9f (E := Ye.cells) (l := l0) (k := (wr .i64 ((wr .i64 ((↑l0.length : Int) - 1)) - a0.index)).toNat) (by first | omega | (simp; omega)))
    have fy := fa fy (show (wr .i64 ((wr .i64 ((↑l0.length : Int) - 1)) - a0.index)).toNat < l0.length from by first | omega | (simp; omega))
    refine r1 ?_
    refine rr ?_
    exact fuo (.tup [.agg [.str ((get l0 ((wr .i64 ((wr .i64 ((↑l0.length : Int) - 1)) - a0.index)).toNat)).base), .sl false 2 40 (rows Ye.cells ((get l0 ((wr .i64 ((wr .i64 ((↑l0.length : Int) - 1)) - a0.index)).toNat)).args))], .bool true]) (.same _) h hsc (hr := by rintro rfl; exact ⟨rfl, d0t (by simp [d7g])⟩)
   ·refine cd h (fun hc h => ?_) fun hc h => ?_
    ·refine rs ?_
     obtain ⟨fx, h⟩ := ck fx h
     obtain ⟨c8, hc8, h⟩ := i1k h
     have fy := (show rows Ye.cells l0 ++ [[.str a0.type.base, .sl false 2 40 (rows Ye.cells a0.type.args)]] = rows Ye.cells c8 from by rw [hc8]; first | exact d5W (E := Ye.cells) l0 [a0.type] | simp only [go_sem, rows, List.map_append, List.map_cons, List.map_nil])
     have fy := fa fy (show l0.length + 1 = c8.length from by rw [hc8]; simp)
     obtain ⟨fx, h⟩ := ck fx h
     refine dwy [] 2 ?_
     obtain ⟨fx, h⟩ := ck fx h
     refine rn ?_
     obtain ⟨v14, hv14, h⟩ := Zg h
     refine (ih _ _ _ hv14 _ _ 0 (by simp) (d1Z.trans rfl)).mono ?_
     rintro d1 st1 ⟨rfl, rfl⟩
     refine rr ?_
     exact fuo (.tup [.agg [.str [], .sl false 2 40 (rows Ye.cells [a0.type, v14.1])], .bool v14.2]) (.tup _ _ (.cons _ _ _ _ (.agg _ _ (.cons _ _ _ _ .s (.cons _ _ _ _ (.ref _ _ _ _ _ _ _ _ _ (i2c.trans rfl) i2e (by decide) (by simp [Imm, D.imm]) (by simp only [go_sem, rows, List.map_cons, List.map_nil])) .nil))) (.cons _ _ _ _ .s .nil)) rfl) h hsc (hr := by rintro rfl; exact ⟨rfl, d0t (by simp [d7g])⟩)
    ·obtain ⟨fx, h⟩ := ck fx h
     refine rn ?_
     obtain ⟨v17, hv17, h⟩ := Zg h
     refine (ih _ _ _ hv17 _ _ q0 hnd (by simp only [go_sem, fx])).mono ?_
     rintro d1 st1 ⟨rfl, rfl⟩
     obtain ⟨fx, h⟩ := ck fx h
     refine rn ?_
     obtain ⟨v19, hv19, h⟩ := Zg h
     refine (ih _ _ _ hv19 _ _ q0 hnd (by simp only [go_sem, fx])).mono ?_
     rintro d1 st1 ⟨rfl, rfl⟩
     refine rn ?_
     obtain ⟨fx, h⟩ := ck fx h
     refine dw [] 0 ?_
     obtain ⟨v22, hv22, h⟩ := Zg h
     refine d6z (fun hG => (i2x n _ _ _ (i5y hv22 (by simpa using hG)))) ?_
     try simp only [go_sem, fx]
     refine cd h (fun hc h => ?_) fun hc h => ?_
     ·refine rr ?_
      exact fuo (.tup [.agg [.str [], .sl false 2 40 (rows Ye.cells [])], .bool false]) (.tup _ _ (.cons _ _ _ _ (.agg _ _ (.cons _ _ _ _ .s (.cons _ _ _ _ (.YU _ _ _ (by decide)) .nil))) (.cons _ _ _ _ .s .nil)) rfl) h hsc (hr := by rintro rfl; exact ⟨rfl, d0t (by simp [d7g])⟩)
     ·obtain ⟨fx, h⟩ := ck fx h
      refine rr ?_
      exact fuo (.tup [.agg [.str ((get v17.1.args 1).base), .sl false 2 40 (rows Ye.cells ((get v17.1.args 1).args))], .bool true]) (.same _) h hsc (hr := by rintro rfl; exact ⟨rfl, d0t (by simp [d7g])⟩)
theorem i8x : ∀ (n : Nat) (a0 : Yh) (a1 : (List Ye)) (r : Ye × Bool) (h : d5O n a0 a1 = some r), Pure Tryz.prog gl 215 [.agg [.int .i64 a0.kind, .str a0.name, .int .i64 a0.index, .str a0.type.base, .sl false 2 40 (rows Ye.cells a0.type.args), .sl false 6 96 (rows Yh.cells a0.args)], .sl false 2 40 (rows Ye.cells a1)] (.tup [.agg [.str r.1.base, .sl false 2 40 (rows Ye.cells r.1.args)], .bool r.2]) := by
 intro n
 induction n with
 | zero => intro a0 a1 r h; cases h
 | succ n ih =>
  intro a0 a1 r h st
  unfold d5O at h
  have fx := trivial
  refine fb 101 [.cell 4 119, .tmp 5] [0, 1, 2, 4, 5, 6, 7, 8, 9, 10, 11, 12, 14, 15, 19, 30, 78, 79, 82, 83, 84, 85, 88, 89, 90, 91, 92, 93, 94, 95] Tryz.func215 fun hsc => ?_
  refine cd h (fun hc h => ?_) fun hc h => ?_
  ·exact rt
  ·refine cd h (fun hc h => ?_) fun hc h => ?_
   ·obtain ⟨fx, h⟩ := ck fx h
    exact rt
   ·refine cd h (fun hc h => ?_) fun hc h => ?_
    ·refine rs ?_
     obtain ⟨fx, h⟩ := ck fx h
     obtain ⟨c6, hc6, h⟩ := i1k h
     have fy := (show rows Ye.cells a1 ++ [[.str a0.type.base, .sl false 2 40 (rows Ye.cells a0.type.args)]] = rows Ye.cells c6 from by rw [hc6]; first | exact d5W (E := Ye.cells) a1 [a0.type] | simp only [go_sem, rows, List.map_append, List.map_cons, List.map_nil])
     have fy := fa fy (show a1.length + 1 = c6.length from by rw [hc6]; simp)
     obtain ⟨fx, h⟩ := ck fx h
     refine dwy [] 2 ?_
     obtain ⟨fx, h⟩ := ck fx h
     refine rn ?_
     obtain ⟨v12, hv12, h⟩ := Zg h
     refine (i5M n _ _ _ hv12 _ _ 0 (by simp) (d2H.trans rfl)).mono ?_
     rintro d1 st1 ⟨rfl, rfl⟩
     refine rr ?_
     exact fo (.tup [.agg [.str [], .sl false 2 40 (rows Ye.cells [a0.type, v12.1])], .bool v12.2]) (.tup _ _ (.cons _ _ _ _ (.agg _ _ (.cons _ _ _ _ .s (.cons _ _ _ _ (.ref _ _ _ _ _ _ _ _ _ (i2z.trans rfl) p0h (by decide) (by simp [Imm, D.imm]) (by simp only [go_sem, rows, List.map_cons, List.map_nil])) .nil))) (.cons _ _ _ _ .s .nil)) rfl) h hsc
    ·obtain ⟨fx, h⟩ := ck fx h
     refine cl h (ih _ _) fun v15 h => ?_
     obtain ⟨fx, h⟩ := ck fx h
     refine cl h (ih _ _) fun v17 h => ?_
     refine rn ?_
     obtain ⟨fx, h⟩ := ck fx h
     refine dw [] 0 ?_
     obtain ⟨v20, hv20, h⟩ := Zg h
     refine d6z (fun hG => (i2x n _ _ _ (i5y hv20 (by simpa using hG)))) ?_
     try simp only [go_sem, fx]
     refine cd h (fun hc h => ?_) fun hc h => ?_
     ·refine rr ?_
      exact fo (.tup [.agg [.str [], .sl false 2 40 (rows Ye.cells [])], .bool false]) (.tup _ _ (.cons _ _ _ _ (.agg _ _ (.cons _ _ _ _ .s (.cons _ _ _ _ (.YU _ _ _ (by decide)) .nil))) (.cons _ _ _ _ .s .nil)) rfl) h hsc
     ·obtain ⟨fx, h⟩ := ck fx h
      exact rt
theorem i0E (n : Nat) (a0 : Yh) (r : Yg) (h : d5j n a0 = some r) : Pure Tryz.prog gl 175 [.agg [.int .i64 a0.kind, .str a0.name, .int .i64 a0.index, .str a0.type.base, .sl false 2 40 (rows Ye.cells a0.type.args), .sl false 6 96 (rows Yh.cells a0.args)]] (.agg [.int .i64 r.code, .int .i64 r.index]) := by
 intro st
 unfold d5j at h
 have fx := trivial
 refine fb 25 [.cell 2 41] [0, 1, 2, 3, 4, 5, 7, 14, 22] Tryz.func175 fun hsc => ?_
 refine rn ?_
 obtain ⟨v1, hv1, h⟩ := Zg h
 refine (i3G n _ _ _ _ _ hv1 _ _ _ (by simp) (d2H.trans rfl) (d2H.trans rfl)).mono ?_
 rintro d1 st1 ⟨rfl, rfl⟩
 refine cd h (fun hc h => ?_) fun hc h => ?_
 ·exact rt
 ·refine cl h (up (i8x n _ _) (fun _ => (.cons _ _ _ _ .s (.cons _ _ _ _ (.YU _ _ _ (by decide)) .nil)))) fun v2 h => ?_
  refine cd h (fun hc h => ?_) fun hc h => ?_
  ·exact rt
  ·exact rt
theorem i5N (n : Nat) (a0 : Yo) (a1 : YB) (a2 : Yi) (r : Int) (h : d8k n a0 a1 a2 = some r) : Pure Tryz.prog gl 117 [.agg [.sl false 2 40 (rows Yl.cells a0.types), .sl false 3 32 (rows Yw.cells a0.YL)], .agg [.sl false 1 8 (rows d3L a1.up), .sl false 1 8 (rows d3L a1.down)], .agg [.str a2.name, .sl false 2 32 (rows Yq.cells a2.graph.nodes), .int .i64 a2.kids, .int .i64 a2.weight, .int .i64 a2.meaning.kind, .str a2.meaning.name, .int .i64 a2.meaning.index, .str a2.meaning.type.base, .sl false 2 40 (rows Ye.cells a2.meaning.type.args), .sl false 6 96 (rows Yh.cells a2.meaning.args)]] (.int .i64 r) := by
 intro st
 unfold d8k at h
 have fx := trivial
 refine fb 46 [.tmp 6] [0, 1, 2, 3, 4, 5, 6, 7, 12, 13, 14, 17, 18, 19, 22, 23, 24, 25, 33, 41] Tryz.func117 fun hsc => ?_
 refine cd h (fun hc h => ?_) fun hc h => ?_
 ·exact rt
 ·refine cl h (d9d n _ _ _) fun v1 h => ?_
  refine cd h (fun hc h => ?_) fun hc h => ?_
  ·exact rt
  ·refine cl h (i3F n _ _) fun v2 h => ?_
   refine cd h (fun hc h => ?_) fun hc h => ?_
   ·exact rt
   ·refine cl h (i0E n _) fun v3 h => ?_
    exact rt
theorem d6X (n : Nat) (a0 : Bs) (r : Int) (h : d0w n a0 = some r) : Pure Tryz.prog gl 216 [.str a0] (.int .i64 r) := by
 intro st
 unfold d0w at h
 have fx := trivial
 refine fb 10 [.tmp 2] [0, 2, 4, 6] Tryz.func216 fun hsc => ?_
 refine rn ?_
 refine Zt (body := d0F a0) (kk := d2m) (n := n) (s0 := (0, 0))
  (fun (gs0 : Unit) (s0 : Nat × Int) => [(2, .int .i64 s0.2), (4, .it st.length)])
  (fun (gs0 : Unit) (s0 : Nat × Int) => st ++ [some (.sit a0 s0.1)])
  (fun (gt0 : Unit) (t0 : Int) => [(2, .int .i64 t0)])
  (fun (gt0 : Unit) (t0 : Int) => st)
  () h (bm hsc)
  (fun gs0 s0 b0 h hx0 => ?_) (fun gt0 t0 fr1 st1 h hb => ?_)
 ·unfold d0F at h
  refine cd h (fun hc h => ?_) fun hc h => ?_
  ·refine rn ?_
   cases h
   exact ZE () (bm hsc)
  ·refine rn ?_
   cases h
   exact d0V () (bm0 hsc)
 ·try simp only [go_sem, fx]
  unfold d2m at h
  refine d1F hb ?_
  exact rt
theorem ZT (a0 : Bs) (r : Int) (h : Zn a0 = some r) : Pure Tryz.prog gl 238 [.str a0] (.int .u64 r) := by
 intro st
 unfold Zn at h
 have fx := trivial
 refine fb 59 [.tmp 2] [0, 2] Tryz.func238 fun hsc => ?_
 refine cd h (fun hc h => ?_) fun hc h => ?_
 ·refine rs ?_
  obtain ⟨fx, h⟩ := ck fx h
  obtain ⟨fx, h⟩ := ck fx h
  obtain ⟨fx, h⟩ := ck fx h
  obtain ⟨fx, h⟩ := ck fx h
  refine dw [] 0 ?_
  exact rt
 ·refine rn ?_
  obtain ⟨fx, h⟩ := ck fx h
  obtain ⟨fx, h⟩ := ck fx h
  obtain ⟨fx, h⟩ := ck fx h
  obtain ⟨fx, h⟩ := ck fx h
  obtain ⟨fx, h⟩ := ck fx h
  obtain ⟨fx, h⟩ := ck fx h
  obtain ⟨fx, h⟩ := ck fx h
  obtain ⟨fx, h⟩ := ck fx h
  refine dw [] 0 ?_
  exact rt
theorem d9e (n : Nat) (a0 : Bs) (r : Bool) (h : d2f n a0 = some r) : Pure Tryz.prog gl 217 [.str a0] (.bool r) := by
 intro st
 unfold d2f at h
 have fx := trivial
 refine fb 169 [.tmp 2] [0, 2, 3, 4, 5, 6, 9, 13, 20, 21, 22, 23, 24, 31, 32, 33, 34, 35, 36, 37, 38, 39, 46, 47, 48, 49, 50, 51, 52, 53, 54, 55, 56, 57, 58, 59, 60, 61, 62, 75, 76, 82, 83, 84, 85, 86, 89, 90, 91, 92, 93, 94, 97, 103, 104, 105, 106, 107, 110, 111, 112, 113, 114, 117, 118, 119, 122, 123, 124, 125, 128, 134, 135, 136, 137, 138, 141, 142, 143, 144, 145, 148, 149, 150, 153, 154, 155, 158, 159, 160, 163, 164, 165, 166] Tryz.func217 fun hsc => ?_
 refine rn ?_
 refine Zt (body := d0Z n) (kk := d3P) (n := n) (s0 := a0)
  (fun (gs0 : Unit) (s0 : Bs) => [(0, .str s0)])
  (fun (gs0 : Unit) (s0 : Bs) => st)
  (fun (gt0 : Unit) (t0 : Unit) => [])
  (fun (gt0 : Unit) (t0 : Unit) => st)
  () h (d6c hsc)
  (fun gs0 s0 b0 h hx0 => ?_) (fun gt0 t0 fr1 st1 h hb => ?_)
 ·unfold d0Z at h
  refine cd h (fun hc h => ?_) fun hc h => ?_
  ·obtain ⟨fx, h⟩ := ck fx h
   refine cd h (fun hc h => ?_) fun hc h => ?_
   ·obtain ⟨fx, h⟩ := ck fx h
    refine rn ?_
    obtain ⟨v78, hv78, h⟩ := Zg h
    refine d8Z (fun hG => (ZT _ _ (i5y hv78 (by simpa using hG)))) ?_
    refine rn ?_
    refine d6o (d0e) b0 (fun (gj3 : Unit) (j3 : Bs) => [(0, .str j3)]) (fun (gj3 : Unit) (j3 : Bs) => st) (fun gj3 j3 fr1 st1 h hb => ?_) (fun hj3 => ?_)
    ·try simp only [go_sem, fx]
     unfold d0e at h
     refine d1F hb ?_
     refine rn ?_
     cases h
     exact ZE () (d6c hsc)
    ·refine cd h (fun hc h => ?_) fun hc h => ?_
     ·obtain ⟨fx, h⟩ := ck fx h
      refine rn ?_
      refine dw [] 0 ?_
      obtain ⟨v81, hv81, h⟩ := Zg h
      refine d6z (fun hG => (ZT _ _ (i5y hv81 (by simpa using hG)))) ?_
      obtain ⟨fx, h⟩ := ck fx h
      try simp only [go_sem, fx]
      obtain ⟨v84, hv84, h⟩ := Zg h
      refine d6z (fun hG => (ZT _ _ (i5y hv84 (by simpa using hG)))) ?_
      try simp only [go_sem, fx]
      refine cd h (fun hc h => ?_) fun hc h => ?_
      ·obtain ⟨fx, h⟩ := ck fx h
       refine rn ?_
       refine Zt (body := d0Y) (kk := d2o) (n := n) (s0 := (((s0.drop 1).drop 8).drop 16))
        (fun (gs4 : Unit) (s4 : Bs) => [(0, .str s4)])
        (fun (gs4 : Unit) (s4 : Bs) => st)
        (fun (gt4 : Unit) (t4 : Bs) => [(0, .str t4)])
        (fun (gt4 : Unit) (t4 : Bs) => st)
        () h (d6c hsc)
        (fun gs4 s4 b4 h hx4 => ?_) (fun gt4 t4 fr1 st1 h hb => ?_)
       ·unfold d0Y at h
        refine rs ?_
        refine dw [] 0 ?_
        obtain ⟨v100, hv100, h⟩ := Zg h
        refine d6z (fun hG => (ZT _ _ (i5y hv100 (by simpa using hG)))) ?_
        obtain ⟨fx, h⟩ := ck fx h
        try simp only [go_sem, fx]
        obtain ⟨v103, hv103, h⟩ := Zg h
        refine d6z (fun hG => (ZT _ _ (i5y hv103 (by simpa using hG)))) ?_
        obtain ⟨fx, h⟩ := ck fx h
        try simp only [go_sem, fx]
        obtain ⟨v106, hv106, h⟩ := Zg h
        refine d6z (fun hG => (ZT _ _ (i5y hv106 (by simpa using hG)))) ?_
        obtain ⟨fx, h⟩ := ck fx h
        try simp only [go_sem, fx]
        obtain ⟨v110, hv110, h⟩ := Zg h
        refine d6z (fun hG => (ZT _ _ (i5y hv110 (by simpa using hG)))) ?_
        try simp only [go_sem, fx]
        refine cd h (fun hc h => ?_) fun hc h => ?_
        ·obtain ⟨fx, h⟩ := ck fx h
         refine rn ?_
         cases h
         exact ZE () (d6c hsc)
        ·refine rn ?_
         cases h
         exact d0V () (d6c hsc)
       ·try simp only [go_sem, fx]
        unfold d2o at h
        refine hj3 () _ _ _ h ?_; exact (hb.trans (d6c hsc))
      ·refine r0 ?_
       refine hj3 () _ _ _ h ?_; exact (d6c hsc)
     ·refine r0 ?_
      refine hj3 () _ _ _ h ?_; exact (d6c hsc)
   ·refine r0 ?_
    obtain ⟨fx, h⟩ := ck fx h
    have fy := (show Am.rowAt (d5J u8c d9n) ((Yx s0 0).toNat) 1 = u8c (get d9n ((Yx s0 0).toNat)) from i4y (fun _ => rfl) (show _ < d9n.length by rw [p4w]; first | omega | (simp; omega)))
    refine r1 ?_
    refine r0 ?_
    obtain ⟨fx, h⟩ := ck fx h
    have fy := (show Am.rowAt (d5J YG.cells i1A) ((Int.fdiv (get d9n ((Yx s0 0).toNat)) (2 ^ (min 4 8))).toNat) 2 = YG.cells (get i1A ((Int.fdiv (get d9n ((Yx s0 0).toNat)) (2 ^ (min 4 8))).toNat)) from i4y (fun _ => rfl) (show _ < i1A.length by rw [p0o]; first | omega | (simp; omega)))
    refine r1 ?_
    refine cd h (fun hc h => ?_) fun hc h => ?_
    ·refine rs ?_
     obtain ⟨fx, h⟩ := ck fx h
     obtain ⟨fx, h⟩ := ck fx h
     refine dw [] 0 ?_
     refine cd h (fun hc h => ?_) fun hc h => ?_
     ·refine ra ?_
      cases h
      refine d4e ?_; have h := congrArg some (hx0 _ rfl)
      exact rt
     ·obtain ⟨fx, h⟩ := ck fx h
      refine rn ?_
      cases h
      exact ZE () (bm0 hsc)
    ·refine cd h (fun hc h => ?_) fun hc h => ?_
     ·refine rs ?_
      obtain ⟨fx, h⟩ := ck fx h
      obtain ⟨fx, h⟩ := ck fx h
      obtain ⟨fx, h⟩ := ck fx h
      obtain ⟨fx, h⟩ := ck fx h
      refine dw [] 0 ?_
      refine cd h (fun hc h => ?_) fun hc h => ?_
      ·refine ra ?_
       cases h
       refine d4e ?_; have h := congrArg some (hx0 _ rfl)
       exact rt
      ·obtain ⟨fx, h⟩ := ck fx h
       refine rn ?_
       cases h
       exact ZE () (bm0 hsc)
     ·refine cd h (fun hc h => ?_) fun hc h => ?_
      ·refine rs ?_
       obtain ⟨fx, h⟩ := ck fx h
       obtain ⟨fx, h⟩ := ck fx h
       obtain ⟨fx, h⟩ := ck fx h
       obtain ⟨fx, h⟩ := ck fx h
       obtain ⟨fx, h⟩ := ck fx h
       obtain ⟨fx, h⟩ := ck fx h
       refine dw [] 0 ?_
       refine cd h (fun hc h => ?_) fun hc h => ?_
       ·refine ra ?_
        cases h
        refine d4e ?_; have h := congrArg some (hx0 _ rfl)
        exact rt
       ·obtain ⟨fx, h⟩ := ck fx h
        refine rn ?_
        cases h
        exact ZE () (bm0 hsc)
      ·refine ra ?_
       cases h
       refine d4e ?_; have h := congrArg some (hx0 _ rfl)
       exact rt
  ·refine rn ?_
   cases h
   exact d0V () (d6c hsc)
 ·try simp only [go_sem, fx]
  unfold d3P at h
  refine d1F hb ?_
  exact rt
theorem d8w (a0 : Bs) (a1 : Int) (r : Int) (h : d4E a0 a1 = some r) : Pure Tryz.prog gl 255 [.str a0, .int .u8 a1] (.int .i64 r) := by
 intro st
 unfold d4E at h
 have fx := trivial
 refine fb 8 [.tmp 4] [0, 1, 4] Tryz.func255 fun hsc => ?_
 refine cl h (i7W _ _) fun v1 h => ?_
 exact rt
theorem d9X (a0 : Int) (r : Bool) (h : d3Z a0 = some r) : Pure Tryz.prog gl 256 [.int .i32 a0] (.bool r) := by
 intro st
 unfold d3Z at h
 have fx := trivial
 refine fb 17 [.tmp 2] [0, 2, 3, 7, 8, 10, 14, 15] Tryz.func256 fun hsc => ?_
 refine cd h (fun hc h => ?_) fun hc h => ?_
 ·exact rt
 ·refine cd h (fun hc h => ?_) fun hc h => ?_
  ·exact rt
  ·exact rt
theorem d8x (n : Nat) (a0 : Bs) (a1 : Int) (r : Int) (h : d3D n a0 a1 = some r) : Pure Tryz.prog gl 249 [.str a0, .int .i32 a1] (.int .i64 r) := by
 intro st
 unfold d3D at h
 have fx := trivial
 refine fb 187 [.tmp 4] [0, 1, 4, 5, 6, 7, 8, 9, 10, 11, 12, 13, 14, 15, 16, 26, 33, 43, 51, 64, 73, 74, 75, 76, 79, 80, 81, 82, 85, 86, 87, 88, 89, 90, 91, 92, 93, 94, 95, 96, 97, 98, 108, 124, 133, 134, 135, 136, 137, 138, 139, 143, 156, 160, 164, 165, 171, 175, 176, 177, 181, 183] Tryz.func249 fun hsc => ?_
 refine cd h (fun hc h => ?_) fun hc h => ?_
 ·refine cl h (d8w _ _) fun v1 h => ?_
  exact rt
 ·refine cd h (fun hc h => ?_) fun hc h => ?_
  ·refine rn ?_
   refine Zt (body := d4u a0) (kk := d6h) (n := n) (s0 := 0)
    (fun (gs0 : Unit) (s0 : Nat) => [(175, .it st.length)])
    (fun (gs0 : Unit) (s0 : Nat) => st ++ [some (.sit a0 s0)])
    (fun (gt0 : Unit) (t0 : Unit) => [])
    (fun (gt0 : Unit) (t0 : Unit) => st)
    () h (bm hsc)
    (fun gs0 s0 b0 h hx0 => ?_) (fun gt0 t0 fr1 st1 h hb => ?_)
   ·unfold d4u at h
    refine cd h (fun hc h => ?_) fun hc h => ?_
    ·obtain ⟨fx, h⟩ := ck fx h
     refine cd h (fun hc h => ?_) fun hc h => ?_
     ·refine ra ?_
      cases h
      refine d4e ?_; have h := congrArg some (hx0 _ rfl)
      exact rt
     ·refine rn ?_
      cases h
      exact ZE () (bm hsc)
    ·refine rn ?_
     cases h
     exact d0V () (bm0 hsc)
   ·try simp only [go_sem, fx]
    unfold d6h at h
    refine d1F hb ?_
    exact rt
  ·refine cl h (d9X _) fun v4 h => ?_
   refine cd h (fun hc h => ?_) fun hc h => ?_
   ·exact rt
   ·refine rn ?_
    refine Zt (body := d3j n a1 a0) (kk := d6k) (n := n) (s0 := ())
     (fun (gs1 : Unit) (s1 : Unit) => [(0, .str a0), (7, .str (ZW a1)), (8, .int .i64 (wr .i64 ((↑((ZW a1).length) : Int) - 1))), (9, .int .i64 (wr .i64 ((↑((ZW a1).length) : Int) - 1)))])
     (fun (gs1 : Unit) (s1 : Unit) => st)
     (fun (gt1 : Unit) (t1 : Unit) => [])
     (fun (gt1 : Unit) (t1 : Unit) => st)
     () h (d6c hsc)
     (fun gs1 s1 b1 h hx1 => ?_) (fun gt1 t1 fr1 st1 h hb => ?_)
    ·unfold d3j at h
     refine cd h (fun hc h => ?_) fun hc h => ?_
     ·refine rn ?_
      obtain ⟨fx, h⟩ := ck fx h
      obtain ⟨fx, h⟩ := ck fx h
      refine dw [] 0 ?_
      (repeat apply sq_)
      refine d6o (d4x n a1 a0) b1 (fun (gj2 : Unit) (j2 : Int) => [(0, .str a0), (7, .str (ZW a1)), (8, .int .i64 (wr .i64 ((↑((ZW a1).length) : Int) - 1))), (9, .int .i64 j2)]) (fun (gj2 : Unit) (j2 : Int) => st) (fun gj2 j2 fr1 st1 h hb => ?_) (fun hj2 => ?_)
      ·try simp only [go_sem, fx]
       unfold d4x at h
       refine d1F hb ?_
       refine rn ?_
       refine Zt (body := d6i a1 j2 a0) (kk := d6j j2 a1) (n := n) (s0 := 1)
        (fun (gs3 : Unit) (s3 : Int) => [(0, .str a0), (7, .str (ZW a1)), (8, .int .i64 (wr .i64 ((↑((ZW a1).length) : Int) - 1))), (9, .int .i64 j2), (12, .int .i64 s3)])
        (fun (gs3 : Unit) (s3 : Int) => st)
        (fun (gt3 : Unit) (t3 : Unit) => [(8, .int .i64 (wr .i64 ((↑((ZW a1).length) : Int) - 1))), (9, .int .i64 j2)])
        (fun (gt3 : Unit) (t3 : Unit) => st)
        () h (d6c hsc)
        (fun gs3 s3 b3 h hx3 => ?_) (fun gt3 t3 fr1 st1 h hb => ?_)
       ·unfold d6i at h
        refine cd h (fun hc h => ?_) fun hc h => ?_
        ·refine rn ?_
         obtain ⟨fx, h⟩ := ck fx h
         obtain ⟨fx, h⟩ := ck fx h
         refine dw [] 0 ?_
         refine cd h (fun hc h => ?_) fun hc h => ?_
         ·cases h
         ·refine rn ?_
          cases h
          exact ZE () (d6c hsc)
        ·refine rn ?_
         cases h
         exact d0V () (d6c hsc)
       ·try simp only [go_sem, fx]
        unfold d6j at h
        refine d1F hb ?_
        refine ra ?_
        cases h
        refine d4e ?_; have h := congrArg some (hx1 _ rfl)
        exact rt
      ·refine cd h (fun hc h => ?_) fun hc h => ?_
       ·refine rs ?_
        obtain ⟨fx, h⟩ := ck fx h
        refine dw [] 0 ?_
        obtain ⟨v10, hv10, h⟩ := Zg h
        refine Yt (d8w _ _ _ hv10) ?_
        try simp only [go_sem, fx]
        refine cd h (fun hc h => ?_) fun hc h => ?_
        ·refine ra ?_
         cases h
         refine d4e ?_; have h := congrArg some (hx1 _ rfl)
         exact rt
        ·refine r0 ?_
         refine r0 ?_
         refine hj2 () _ _ _ h ?_; exact (d6c hsc)
       ·refine r0 ?_
        refine hj2 () _ _ _ h ?_; exact (d6c hsc)
     ·refine rn ?_
      cases h
      exact d0V () (d6c hsc)
    ·try simp only [go_sem, fx]
     unfold d6k at h
     refine d1F hb ?_
     exact rt
theorem d8y (a0 : Int) (r : Bool) (h : d4m a0 = some r) : Pure Tryz.prog gl 250 [.int .i64 a0] (.bool r) := by
 intro st
 unfold d4m at h
 have fx := trivial
 refine fb 5 [.tmp 2] [0, 2] Tryz.func250 fun hsc => ?_
 exact rt
theorem i1H (n : Nat) (a0 : Bs) (a1 : Bs) (r : Int) (h : d5Y n a0 a1 = some r) : Pure Tryz.prog gl 239 [.str a0, .str a1] (.int .i64 r) := by
 intro st
 unfold d5Y at h
 have fx := trivial
 refine fb 55 [.tmp 4] [0, 1, 4, 5, 6, 7, 8, 9, 10, 12, 15, 20, 26, 32, 36, 42, 45, 46, 47, 53] Tryz.func239 fun hsc => ?_
 refine cd h (fun hc h => ?_) fun hc h => ?_
 ·exact rt
 ·refine cd h (fun hc h => ?_) fun hc h => ?_
  ·obtain ⟨fx, h⟩ := ck fx h
   refine rn ?_
   refine d6o (d4y n a0) r (fun (gj0 : Unit) (j0 : Int) => [(0, .str a0), (5, .int .i32 j0)]) (fun (gj0 : Unit) (j0 : Int) => st) (fun gj0 j0 fr1 st1 h hb => ?_) (fun hj0 => ?_)
   ·try simp only [go_sem, fx]
    unfold d4y at h
    refine d1F hb ?_
    refine cl h (d8x n _ _) fun v2 h => ?_
    exact rt
   ·refine cd h (fun hc h => ?_) fun hc h => ?_
    ·refine r0 ?_
     refine hj0 () _ _ _ h ?_; exact (d6c hsc)
    ·refine r0 ?_
     refine hj0 () _ _ _ h ?_; exact (d6c hsc)
  ·refine cl h (d8y _) fun v3 h => ?_
   refine rn ?_
   refine d6o (d4v n a0 a1) r (fun (gj1 : Unit) (j1 : Unit) => [(0, .str a0), (1, .str a1)]) (fun (gj1 : Unit) (j1 : Unit) => st) (fun gj1 j1 fr1 st1 h hb => ?_) (fun hj1 => ?_)
   ·try simp only [go_sem, fx]
    unfold d4v at h
    refine d1F hb ?_
    refine rn ?_
    refine Zt (body := d4w n a0 a1) (kk := d6l) (n := n) (s0 := 0)
     (fun (gs2 : Unit) (s2 : Nat) => [(1, .str a1), (45, .it st.length)])
     (fun (gs2 : Unit) (s2 : Nat) => st ++ [some (.sit a0 s2)])
     (fun (gt2 : Unit) (t2 : Unit) => [])
     (fun (gt2 : Unit) (t2 : Unit) => st)
     () h (bm hsc)
     (fun gs2 s2 b2 h hx2 => ?_) (fun gt2 t2 fr1 st1 h hb => ?_)
    ·unfold d4w at h
     refine cd h (fun hc h => ?_) fun hc h => ?_
     ·obtain ⟨fx, h⟩ := ck fx h
      refine cl h (d8x n _ _) fun v7 h => ?_
      refine cd h (fun hc h => ?_) fun hc h => ?_
      ·refine ra ?_
       cases h
       refine d4e ?_; have h := congrArg some (hx2 _ rfl)
       exact rt
      ·refine rn ?_
       cases h
       exact ZE () (bm hsc)
     ·refine rn ?_
      cases h
      exact d0V () (bm0 hsc)
    ·try simp only [go_sem, fx]
     unfold d6l at h
     refine d1F hb ?_
     exact rt
   ·refine cd h (fun hc h => ?_) fun hc h => ?_
    ·cases h
    ·refine r0 ?_
     refine hj1 () _ _ _ h ?_; exact (d6c hsc)
theorem i2y (n : Nat) (a0 : Bs) (a1 : Bs) (r : Int) (h : d6E n a0 a1 = some r) : Pure Tryz.prog gl 239 [.str a0, .str a1] (.int .i64 r) := by
 unfold d6E at h
 cases hc : decide (8 < a0.length) with
 | true =>
  rw [hc] at h
  obtain ⟨hp, h⟩ := p8p h
  cases h
  exact i6W a0 a1 hp.1 (of_decide_eq_true hc) hp.2.1 hp.2.2.1 hp.2.2.2
 | false =>
  rw [hc] at h
  exact i1H n a0 a1 r h
end Go.Proofs.YtgaeiccgdpnkkaaGreatDoor
