import Derived.Test.YtgaeiccgdpnkkaaGreatDoorCWalk3
import Derived.Test.YtgaeiccgdpnkkaaGreatDoorCHand2
set_option linter.unusedVariables false
set_option linter.unusedSimpArgs false
set_option maxHeartbeats 2000000
set_option maxRecDepth 100000
namespace Go.Proofs.YtgaeiccgdpnkkaaGreatDoor
open Go Go.Am
theorem i4j : ∀ (n : Nat) (a0 : Yg) (l0 : (List Ye)) (r : Ye × Bool) (h : d2s n a0 l0 = some r), ∀ (st : St) (o0 q0 : Nat) (hnd : [o0].Nodup) (d5V : Am.look st o0 = some (.arr q0 2 40 (rows Ye.cells l0))), Am.Spec Tryz.prog gl 215 [.agg [.int .i64 a0.kind, .str a0.name, .int .i64 a0.index, .str a0.type.base, .sl false 2 40 (rows Ye.cells a0.type.args), .sl false 6 96 (rows Yg.cells a0.args)], .ref false o0 q0 0 l0.length] st (fun d st' => d = .tup [.agg [.str r.1.base, .sl false 2 40 (rows Ye.cells r.1.args)], .bool r.2] ∧ st' = puts st []) := by
 intro n
 induction n with
 | zero => intro a0 l0 r h; cases h
 | succ n ih =>
  intro a0 l0 r h st o0 q0 hnd d5V
  unfold d2s at h
  have ho0 := d1v d5V
  have fx := idf ho0
  refine fb 101 [.cell 4 119, .tmp 5] [0, 1, 2, 4, 5, 6, 7, 8, 9, 10, 11, 12, 14, 15, 19, 30, 78, 79, 82, 83, 84, 85, 88, 89, 90, 91, 92, 93, 94, 95] Tryz.func215 fun hsc => ?_
  refine d8P (s' := (d1F st [(o0, (.arr q0 2 40 (rows Ye.cells l0)))])) (d0d (by simp [d5V])) ?_
  refine cd h (fun hc h => ?_) fun hc h => ?_
  ·refine rr ?_
   exact fuo (.tup [.agg [.str a0.type.base, .sl false 2 40 (rows Ye.cells a0.type.args)], .bool true]) (.same _) h hsc (hr := by rintro rfl; exact ⟨rfl, d0d (by simp [d5V])⟩)
  ·refine cd h (fun hc h => ?_) fun hc h => ?_
   ·obtain ⟨fx, h⟩ := ck fx h
    have fy := (show (rows Ye.cells l0).getD ((wr .i64 ((wr .i64 ((↑l0.length : Int) - 1)) - a0.index)).toNat) [] = Ye.cells (get l0 ((wr .i64 ((wr .i64 ((↑l0.length : Int) - 1)) - a0.index)).toNat)) from d7R (E := Ye.cells) (l := l0) (k := (wr .i64 ((wr .i64 ((↑l0.length : Int) - 1)) - a0.index)).toNat) (by first | omega | (simp; omega)))
    have fy := fa fy (show (wr .i64 ((wr .i64 ((↑l0.length : Int) - 1)) - a0.index)).toNat < l0.length from by first | omega | (simp; omega))
    refine r1 ?_
    refine rr ?_
    exact fuo (.tup [.agg [.str ((get l0 ((wr .i64 ((wr .i64 ((↑l0.length : Int) - 1)) - a0.index)).toNat)).base), .sl false 2 40 (rows Ye.cells ((get l0 ((wr .i64 ((wr .i64 ((↑l0.length : Int) - 1)) - a0.index)).toNat)).args))], .bool true]) (.same _) h hsc (hr := by rintro rfl; exact ⟨rfl, d0d (by simp [d5V])⟩)
   ·refine cd h (fun hc h => ?_) fun hc h => ?_
    ·refine rs ?_
     obtain ⟨fx, h⟩ := ck fx h
     obtain ⟨c8, hc8, h⟩ := d9Z h
     have fy := (show rows Ye.cells l0 ++ [[.str a0.type.base, .sl false 2 40 (rows Ye.cells a0.type.args)]] = rows Ye.cells c8 from by rw [hc8]; first | exact d4R (E := Ye.cells) l0 [a0.type] | simp only [go_sem, rows, List.map_append, List.map_cons, List.map_nil])
     have fy := fa fy (show l0.length + 1 = c8.length from by rw [hc8]; simp)
     obtain ⟨fx, h⟩ := ck fx h
     refine dwy [] 2 ?_
     obtain ⟨fx, h⟩ := ck fx h
     refine rn ?_
     obtain ⟨v14, hv14, h⟩ := Zp h
     refine (ih _ _ _ hv14 _ _ 0 (by simp) (d1s.trans rfl)).mono ?_
     rintro d1 st1 ⟨rfl, rfl⟩
     refine rr ?_
     exact fuo (.tup [.agg [.str [], .sl false 2 40 (rows Ye.cells [a0.type, v14.1])], .bool v14.2]) (.tup _ _ (.cons _ _ _ _ (.agg _ _ (.cons _ _ _ _ .s (.cons _ _ _ _ (.ref _ _ _ _ _ _ _ _ _ (i0Q.trans rfl) i0S (by decide) (by simp [Imm, D.imm]) (by simp only [go_sem, rows, List.map_cons, List.map_nil])) .nil))) (.cons _ _ _ _ .s .nil)) rfl) h hsc (hr := by rintro rfl; exact ⟨rfl, d0d (by simp [d5V])⟩)
    ·obtain ⟨fx, h⟩ := ck fx h
     refine rn ?_
     obtain ⟨v17, hv17, h⟩ := Zp h
     refine (ih _ _ _ hv17 _ _ q0 hnd (by simp only [go_sem, fx])).mono ?_
     rintro d1 st1 ⟨rfl, rfl⟩
     obtain ⟨fx, h⟩ := ck fx h
     refine rn ?_
     obtain ⟨v19, hv19, h⟩ := Zp h
     refine (ih _ _ _ hv19 _ _ q0 hnd (by simp only [go_sem, fx])).mono ?_
     rintro d1 st1 ⟨rfl, rfl⟩
     refine rn ?_
     obtain ⟨fx, h⟩ := ck fx h
     refine dw [] 0 ?_
     obtain ⟨v22, hv22, h⟩ := Zp h
     refine d5p (fun hG => (i1h n _ _ _ (i4C hv22 (by simpa using hG)))) ?_
     try simp only [go_sem, fx]
     refine cd h (fun hc h => ?_) fun hc h => ?_
     ·refine rr ?_
      exact fuo (.tup [.agg [.str [], .sl false 2 40 (rows Ye.cells [])], .bool false]) (.tup _ _ (.cons _ _ _ _ (.agg _ _ (.cons _ _ _ _ .s (.cons _ _ _ _ (.YP _ _ _ (by decide)) .nil))) (.cons _ _ _ _ .s .nil)) rfl) h hsc (hr := by rintro rfl; exact ⟨rfl, d0d (by simp [d5V])⟩)
     ·obtain ⟨fx, h⟩ := ck fx h
      refine rr ?_
      exact fuo (.tup [.agg [.str ((get v17.1.args 1).base), .sl false 2 40 (rows Ye.cells ((get v17.1.args 1).args))], .bool true]) (.same _) h hsc (hr := by rintro rfl; exact ⟨rfl, d0d (by simp [d5V])⟩)
theorem i6T : ∀ (n : Nat) (a0 : Yg) (a1 : (List Ye)) (r : Ye × Bool) (h : d4M n a0 a1 = some r), Pure Tryz.prog gl 215 [.agg [.int .i64 a0.kind, .str a0.name, .int .i64 a0.index, .str a0.type.base, .sl false 2 40 (rows Ye.cells a0.type.args), .sl false 6 96 (rows Yg.cells a0.args)], .sl false 2 40 (rows Ye.cells a1)] (.tup [.agg [.str r.1.base, .sl false 2 40 (rows Ye.cells r.1.args)], .bool r.2]) := by
 intro n
 induction n with
 | zero => intro a0 a1 r h; cases h
 | succ n ih =>
  intro a0 a1 r h st
  unfold d4M at h
  have fx := trivial
  refine fb 101 [.cell 4 119, .tmp 5] [0, 1, 2, 4, 5, 6, 7, 8, 9, 10, 11, 12, 14, 15, 19, 30, 78, 79, 82, 83, 84, 85, 88, 89, 90, 91, 92, 93, 94, 95] Tryz.func215 fun hsc => ?_
  refine cd h (fun hc h => ?_) fun hc h => ?_
  ·exact rt
  ·refine cd h (fun hc h => ?_) fun hc h => ?_
   ·obtain ⟨fx, h⟩ := ck fx h
    exact rt
   ·refine cd h (fun hc h => ?_) fun hc h => ?_
    ·refine rs ?_
     obtain ⟨fx, h⟩ := ck fx h
     obtain ⟨c6, hc6, h⟩ := d9Z h
     have fy := (show rows Ye.cells a1 ++ [[.str a0.type.base, .sl false 2 40 (rows Ye.cells a0.type.args)]] = rows Ye.cells c6 from by rw [hc6]; first | exact d4R (E := Ye.cells) a1 [a0.type] | simp only [go_sem, rows, List.map_append, List.map_cons, List.map_nil])
     have fy := fa fy (show a1.length + 1 = c6.length from by rw [hc6]; simp)
     obtain ⟨fx, h⟩ := ck fx h
     refine dwy [] 2 ?_
     obtain ⟨fx, h⟩ := ck fx h
     refine rn ?_
     obtain ⟨v12, hv12, h⟩ := Zp h
     refine (i4j n _ _ _ hv12 _ _ 0 (by simp) (d1J.trans rfl)).mono ?_
     rintro d1 st1 ⟨rfl, rfl⟩
     refine rr ?_
     exact fo (.tup [.agg [.str [], .sl false 2 40 (rows Ye.cells [a0.type, v12.1])], .bool v12.2]) (.tup _ _ (.cons _ _ _ _ (.agg _ _ (.cons _ _ _ _ .s (.cons _ _ _ _ (.ref _ _ _ _ _ _ _ _ _ (i0w.trans rfl) i6V (by decide) (by simp [Imm, D.imm]) (by simp only [go_sem, rows, List.map_cons, List.map_nil])) .nil))) (.cons _ _ _ _ .s .nil)) rfl) h hsc
    ·obtain ⟨fx, h⟩ := ck fx h
     refine cl h (ih _ _) fun v15 h => ?_
     obtain ⟨fx, h⟩ := ck fx h
     refine cl h (ih _ _) fun v17 h => ?_
     refine rn ?_
     obtain ⟨fx, h⟩ := ck fx h
     refine dw [] 0 ?_
     obtain ⟨v20, hv20, h⟩ := Zp h
     refine d5p (fun hG => (i1h n _ _ _ (i4C hv20 (by simpa using hG)))) ?_
     try simp only [go_sem, fx]
     refine cd h (fun hc h => ?_) fun hc h => ?_
     ·refine rr ?_
      exact fo (.tup [.agg [.str [], .sl false 2 40 (rows Ye.cells [])], .bool false]) (.tup _ _ (.cons _ _ _ _ (.agg _ _ (.cons _ _ _ _ .s (.cons _ _ _ _ (.YP _ _ _ (by decide)) .nil))) (.cons _ _ _ _ .s .nil)) rfl) h hsc
     ·obtain ⟨fx, h⟩ := ck fx h
      exact rt
theorem d9v (n : Nat) (a0 : Yg) (r : Yf) (h : d4m n a0 = some r) : Pure Tryz.prog gl 175 [.agg [.int .i64 a0.kind, .str a0.name, .int .i64 a0.index, .str a0.type.base, .sl false 2 40 (rows Ye.cells a0.type.args), .sl false 6 96 (rows Yg.cells a0.args)]] (.agg [.int .i64 r.code, .int .i64 r.index]) := by
 intro st
 unfold d4m at h
 have fx := trivial
 refine fb 25 [.cell 2 41] [0, 1, 2, 3, 4, 5, 7, 14, 22] Tryz.func175 fun hsc => ?_
 refine rn ?_
 obtain ⟨v1, hv1, h⟩ := Zp h
 refine (i2t n _ _ _ _ _ hv1 _ _ _ (by simp) (d1J.trans rfl) (d1J.trans rfl)).mono ?_
 rintro d1 st1 ⟨rfl, rfl⟩
 refine cd h (fun hc h => ?_) fun hc h => ?_
 ·exact rt
 ·refine cl h (up (i6T n _ _) (fun _ => (.cons _ _ _ _ .s (.cons _ _ _ _ (.YP _ _ _ (by decide)) .nil)))) fun v2 h => ?_
  refine cd h (fun hc h => ?_) fun hc h => ?_
  ·exact rt
  ·exact rt
theorem i4k (n : Nat) (a0 : Ym) (a1 : Yy) (a2 : Yh) (r : Int) (h : d7b n a0 a1 a2 = some r) : Pure Tryz.prog gl 117 [.agg [.sl false 2 40 (rows Yj.cells a0.types), .sl false 3 32 (rows Yt.cells a0.YI)], .agg [.sl false 1 8 (rows d2Y a1.up), .sl false 1 8 (rows d2Y a1.down)], .agg [.str a2.name, .sl false 2 32 (rows Yo.cells a2.graph.nodes), .int .i64 a2.kids, .int .i64 a2.weight, .int .i64 a2.meaning.kind, .str a2.meaning.name, .int .i64 a2.meaning.index, .str a2.meaning.type.base, .sl false 2 40 (rows Ye.cells a2.meaning.type.args), .sl false 6 96 (rows Yg.cells a2.meaning.args)]] (.int .i64 r) := by
 intro st
 unfold d7b at h
 have fx := trivial
 refine fb 46 [.tmp 6] [0, 1, 2, 3, 4, 5, 6, 7, 12, 13, 14, 17, 18, 19, 22, 23, 24, 25, 33, 41] Tryz.func117 fun hsc => ?_
 refine cd h (fun hc h => ?_) fun hc h => ?_
 ·exact rt
 ·refine cl h (d7P n _ _ _) fun v1 h => ?_
  refine cd h (fun hc h => ?_) fun hc h => ?_
  ·exact rt
  ·refine cl h (i2s n _ _) fun v2 h => ?_
   refine cd h (fun hc h => ?_) fun hc h => ?_
   ·exact rt
   ·refine cl h (d9v n _) fun v3 h => ?_
    exact rt
theorem d5L (n : Nat) (a0 : Bs) (r : Int) (h : d0f n a0 = some r) : Pure Tryz.prog gl 216 [.str a0] (.int .i64 r) := by
 intro st
 unfold d0f at h
 have fx := trivial
 refine fb 10 [.tmp 2] [0, 2, 4, 6] Tryz.func216 fun hsc => ?_
 refine rn ?_
 refine ZQ (body := d0o a0) (kk := d1D) (n := n) (s0 := (0, 0))
  (fun (gs0 : Unit) (s0 : Nat × Int) => [(2, .int .i64 s0.2), (4, .it st.length)])
  (fun (gs0 : Unit) (s0 : Nat × Int) => st ++ [some (.sit a0 s0.1)])
  (fun (gt0 : Unit) (t0 : Int) => [(2, .int .i64 t0)])
  (fun (gt0 : Unit) (t0 : Int) => st)
  () h (bm hsc)
  (fun gs0 s0 b0 h hx0 => ?_) (fun gt0 t0 fr1 st1 h hb => ?_)
 ·unfold d0o at h
  refine cd h (fun hc h => ?_) fun hc h => ?_
  ·refine rn ?_
   cases h
   exact d0g () (bm hsc)
  ·refine rn ?_
   cases h
   exact d1U () (bm0 hsc)
 ·try simp only [go_sem, fx]
  unfold d1D at h
  refine d1w hb ?_
  exact rt
theorem ZK (a0 : Bs) (r : Int) (h : Zm a0 = some r) : Pure Tryz.prog gl 238 [.str a0] (.int .u64 r) := by
 intro st
 unfold Zm at h
 have fx := trivial
 refine fb 59 [.tmp 2] [0, 2] Tryz.func238 fun hsc => ?_
 refine cd h (fun hc h => ?_) fun hc h => ?_
 ·refine rs ?_
  obtain ⟨fx, h⟩ := ck fx h
  obtain ⟨fx, h⟩ := ck fx h
  obtain ⟨fx, h⟩ := ck fx h
  obtain ⟨fx, h⟩ := ck fx h
  refine dw [] 0 ?_
  exact rt
 ·refine rn ?_
  obtain ⟨fx, h⟩ := ck fx h
  obtain ⟨fx, h⟩ := ck fx h
  obtain ⟨fx, h⟩ := ck fx h
  obtain ⟨fx, h⟩ := ck fx h
  obtain ⟨fx, h⟩ := ck fx h
  obtain ⟨fx, h⟩ := ck fx h
  obtain ⟨fx, h⟩ := ck fx h
  obtain ⟨fx, h⟩ := ck fx h
  refine dw [] 0 ?_
  exact rt
theorem d7Q (n : Nat) (a0 : Bs) (r : Bool) (h : d1x n a0 = some r) : Pure Tryz.prog gl 217 [.str a0] (.bool r) := by
 intro st
 unfold d1x at h
 have fx := trivial
 refine fb 169 [.tmp 2] [0, 2, 3, 4, 5, 6, 9, 13, 20, 21, 22, 23, 24, 31, 32, 33, 34, 35, 36, 37, 38, 39, 46, 47, 48, 49, 50, 51, 52, 53, 54, 55, 56, 57, 58, 59, 60, 61, 62, 75, 76, 82, 83, 84, 85, 86, 89, 90, 91, 92, 93, 94, 97, 103, 104, 105, 106, 107, 110, 111, 112, 113, 114, 117, 118, 119, 122, 123, 124, 125, 128, 134, 135, 136, 137, 138, 141, 142, 143, 144, 145, 148, 149, 150, 153, 154, 155, 158, 159, 160, 163, 164, 165, 166] Tryz.func217 fun hsc => ?_
 refine rn ?_
 refine ZQ (body := d0E n) (kk := d3c) (n := n) (s0 := a0)
  (fun (gs0 : Unit) (s0 : Bs) => [(0, .str s0)])
  (fun (gs0 : Unit) (s0 : Bs) => st)
  (fun (gt0 : Unit) (t0 : Unit) => [])
  (fun (gt0 : Unit) (t0 : Unit) => st)
  () h (d4W hsc)
  (fun gs0 s0 b0 h hx0 => ?_) (fun gt0 t0 fr1 st1 h hb => ?_)
 ·unfold d0E at h
  refine cd h (fun hc h => ?_) fun hc h => ?_
  ·obtain ⟨fx, h⟩ := ck fx h
   refine cd h (fun hc h => ?_) fun hc h => ?_
   ·obtain ⟨fx, h⟩ := ck fx h
    refine rn ?_
    obtain ⟨v78, hv78, h⟩ := Zp h
    refine d8r (fun hG => (ZK _ _ (i4C hv78 (by simpa using hG)))) ?_
    refine rn ?_
    refine d5D (ZV) b0 (fun (gj3 : Unit) (j3 : Bs) => [(0, .str j3)]) (fun (gj3 : Unit) (j3 : Bs) => st) (fun gj3 j3 fr1 st1 h hb => ?_) (fun hj3 => ?_)
    ·try simp only [go_sem, fx]
     unfold ZV at h
     refine d1w hb ?_
     refine rn ?_
     cases h
     exact d0g () (d4W hsc)
    ·refine cd h (fun hc h => ?_) fun hc h => ?_
     ·obtain ⟨fx, h⟩ := ck fx h
      refine rn ?_
      refine dw [] 0 ?_
      obtain ⟨v81, hv81, h⟩ := Zp h
      refine d5p (fun hG => (ZK _ _ (i4C hv81 (by simpa using hG)))) ?_
      obtain ⟨fx, h⟩ := ck fx h
      try simp only [go_sem, fx]
      obtain ⟨v84, hv84, h⟩ := Zp h
      refine d5p (fun hG => (ZK _ _ (i4C hv84 (by simpa using hG)))) ?_
      try simp only [go_sem, fx]
      refine cd h (fun hc h => ?_) fun hc h => ?_
      ·obtain ⟨fx, h⟩ := ck fx h
       refine rn ?_
       refine ZQ (body := d0D) (kk := d1G) (n := n) (s0 := (((s0.drop 1).drop 8).drop 16))
        (fun (gs4 : Unit) (s4 : Bs) => [(0, .str s4)])
        (fun (gs4 : Unit) (s4 : Bs) => st)
        (fun (gt4 : Unit) (t4 : Bs) => [(0, .str t4)])
        (fun (gt4 : Unit) (t4 : Bs) => st)
        () h (d4W hsc)
        (fun gs4 s4 b4 h hx4 => ?_) (fun gt4 t4 fr1 st1 h hb => ?_)
       ·unfold d0D at h
        refine rs ?_
        refine dw [] 0 ?_
        obtain ⟨v100, hv100, h⟩ := Zp h
        refine d5p (fun hG => (ZK _ _ (i4C hv100 (by simpa using hG)))) ?_
        obtain ⟨fx, h⟩ := ck fx h
        try simp only [go_sem, fx]
        obtain ⟨v103, hv103, h⟩ := Zp h
        refine d5p (fun hG => (ZK _ _ (i4C hv103 (by simpa using hG)))) ?_
        obtain ⟨fx, h⟩ := ck fx h
        try simp only [go_sem, fx]
        obtain ⟨v106, hv106, h⟩ := Zp h
        refine d5p (fun hG => (ZK _ _ (i4C hv106 (by simpa using hG)))) ?_
        obtain ⟨fx, h⟩ := ck fx h
        try simp only [go_sem, fx]
        obtain ⟨v110, hv110, h⟩ := Zp h
        refine d5p (fun hG => (ZK _ _ (i4C hv110 (by simpa using hG)))) ?_
        try simp only [go_sem, fx]
        refine cd h (fun hc h => ?_) fun hc h => ?_
        ·obtain ⟨fx, h⟩ := ck fx h
         refine rn ?_
         cases h
         exact d0g () (d4W hsc)
        ·refine rn ?_
         cases h
         exact d1U () (d4W hsc)
       ·try simp only [go_sem, fx]
        unfold d1G at h
        refine hj3 () _ _ _ h ?_; exact (hb.trans (d4W hsc))
      ·refine r0 ?_
       refine hj3 () _ _ _ h ?_; exact (d4W hsc)
     ·refine r0 ?_
      refine hj3 () _ _ _ h ?_; exact (d4W hsc)
   ·refine r0 ?_
    obtain ⟨fx, h⟩ := ck fx h
    have fy := (show Am.rowAt (d4K u8c d7Z) ((Yu s0 0).toNat) 1 = u8c (get d7Z ((Yu s0 0).toNat)) from i3k (fun _ => rfl) (show _ < d7Z.length by rw [p2M]; first | omega | (simp; omega)))
    refine r1 ?_
    refine r0 ?_
    obtain ⟨fx, h⟩ := ck fx h
    have fy := (show Am.rowAt (d4K YE.cells i0p) ((Int.fdiv (get d7Z ((Yu s0 0).toNat)) (2 ^ (min 4 8))).toNat) 2 = YE.cells (get i0p ((Int.fdiv (get d7Z ((Yu s0 0).toNat)) (2 ^ (min 4 8))).toNat)) from i3k (fun _ => rfl) (show _ < i0p.length by rw [i8J]; first | omega | (simp; omega)))
    refine r1 ?_
    refine cd h (fun hc h => ?_) fun hc h => ?_
    ·refine rs ?_
     obtain ⟨fx, h⟩ := ck fx h
     obtain ⟨fx, h⟩ := ck fx h
     refine dw [] 0 ?_
     refine cd h (fun hc h => ?_) fun hc h => ?_
     ·refine ra ?_
      cases h
      refine d3x ?_; have h := congrArg some (hx0 _ rfl)
      exact rt
     ·obtain ⟨fx, h⟩ := ck fx h
      refine rn ?_
      cases h
      exact d0g () (bm0 hsc)
    ·refine cd h (fun hc h => ?_) fun hc h => ?_
     ·refine rs ?_
      obtain ⟨fx, h⟩ := ck fx h
      obtain ⟨fx, h⟩ := ck fx h
      obtain ⟨fx, h⟩ := ck fx h
      obtain ⟨fx, h⟩ := ck fx h
      refine dw [] 0 ?_
      refine cd h (fun hc h => ?_) fun hc h => ?_
      ·refine ra ?_
       cases h
       refine d3x ?_; have h := congrArg some (hx0 _ rfl)
       exact rt
      ·obtain ⟨fx, h⟩ := ck fx h
       refine rn ?_
       cases h
       exact d0g () (bm0 hsc)
     ·refine cd h (fun hc h => ?_) fun hc h => ?_
      ·refine rs ?_
       obtain ⟨fx, h⟩ := ck fx h
       obtain ⟨fx, h⟩ := ck fx h
       obtain ⟨fx, h⟩ := ck fx h
       obtain ⟨fx, h⟩ := ck fx h
       obtain ⟨fx, h⟩ := ck fx h
       obtain ⟨fx, h⟩ := ck fx h
       refine dw [] 0 ?_
       refine cd h (fun hc h => ?_) fun hc h => ?_
       ·refine ra ?_
        cases h
        refine d3x ?_; have h := congrArg some (hx0 _ rfl)
        exact rt
       ·obtain ⟨fx, h⟩ := ck fx h
        refine rn ?_
        cases h
        exact d0g () (bm0 hsc)
      ·refine ra ?_
       cases h
       refine d3x ?_; have h := congrArg some (hx0 _ rfl)
       exact rt
  ·refine rn ?_
   cases h
   exact d1U () (d4W hsc)
 ·try simp only [go_sem, fx]
  unfold d3c at h
  refine d1w hb ?_
  exact rt
theorem d7n (a0 : Bs) (a1 : Int) (r : Int) (h : d3I a0 a1 = some r) : Pure Tryz.prog gl 255 [.str a0, .int .u8 a1] (.int .i64 r) := by
 intro st
 unfold d3I at h
 have fx := trivial
 refine fb 8 [.tmp 4] [0, 1, 4] Tryz.func255 fun hsc => ?_
 refine cl h (i6w _ _) fun v1 h => ?_
 exact rt
theorem d8L (a0 : Int) (r : Bool) (h : d3i a0 = some r) : Pure Tryz.prog gl 256 [.int .i32 a0] (.bool r) := by
 intro st
 unfold d3i at h
 have fx := trivial
 refine fb 17 [.tmp 2] [0, 2, 3, 7, 8, 10, 14, 15] Tryz.func256 fun hsc => ?_
 refine cd h (fun hc h => ?_) fun hc h => ?_
 ·exact rt
 ·refine cd h (fun hc h => ?_) fun hc h => ?_
  ·exact rt
  ·exact rt
theorem d7o (n : Nat) (a0 : Bs) (a1 : Int) (r : Int) (h : d2N n a0 a1 = some r) : Pure Tryz.prog gl 249 [.str a0, .int .i32 a1] (.int .i64 r) := by
 intro st
 unfold d2N at h
 have fx := trivial
 refine fb 187 [.tmp 4] [0, 1, 4, 5, 6, 7, 8, 9, 10, 11, 12, 13, 14, 15, 16, 26, 33, 43, 51, 64, 73, 74, 75, 76, 79, 80, 81, 82, 85, 86, 87, 88, 89, 90, 91, 92, 93, 94, 95, 96, 97, 98, 108, 124, 133, 134, 135, 136, 137, 138, 139, 143, 156, 160, 164, 165, 171, 175, 176, 177, 181, 183] Tryz.func249 fun hsc => ?_
 refine cd h (fun hc h => ?_) fun hc h => ?_
 ·refine cl h (d7n _ _) fun v1 h => ?_
  exact rt
 ·refine cd h (fun hc h => ?_) fun hc h => ?_
  ·refine rn ?_
   refine ZQ (body := d3A a0) (kk := d5a) (n := n) (s0 := 0)
    (fun (gs0 : Unit) (s0 : Nat) => [(175, .it st.length)])
    (fun (gs0 : Unit) (s0 : Nat) => st ++ [some (.sit a0 s0)])
    (fun (gt0 : Unit) (t0 : Unit) => [])
    (fun (gt0 : Unit) (t0 : Unit) => st)
    () h (bm hsc)
    (fun gs0 s0 b0 h hx0 => ?_) (fun gt0 t0 fr1 st1 h hb => ?_)
   ·unfold d3A at h
    refine cd h (fun hc h => ?_) fun hc h => ?_
    ·obtain ⟨fx, h⟩ := ck fx h
     refine cd h (fun hc h => ?_) fun hc h => ?_
     ·refine ra ?_
      cases h
      refine d3x ?_; have h := congrArg some (hx0 _ rfl)
      exact rt
     ·refine rn ?_
      cases h
      exact d0g () (bm hsc)
    ·refine rn ?_
     cases h
     exact d1U () (bm0 hsc)
   ·try simp only [go_sem, fx]
    unfold d5a at h
    refine d1w hb ?_
    exact rt
  ·refine cl h (d8L _) fun v4 h => ?_
   refine cd h (fun hc h => ?_) fun hc h => ?_
   ·exact rt
   ·refine rn ?_
    refine ZQ (body := d2t n a1 a0) (kk := d5d) (n := n) (s0 := ())
     (fun (gs1 : Unit) (s1 : Unit) => [(0, .str a0), (7, .str (ZO a1)), (8, .int .i64 (wr .i64 ((↑((ZO a1).length) : Int) - 1))), (9, .int .i64 (wr .i64 ((↑((ZO a1).length) : Int) - 1)))])
     (fun (gs1 : Unit) (s1 : Unit) => st)
     (fun (gt1 : Unit) (t1 : Unit) => [])
     (fun (gt1 : Unit) (t1 : Unit) => st)
     () h (d4W hsc)
     (fun gs1 s1 b1 h hx1 => ?_) (fun gt1 t1 fr1 st1 h hb => ?_)
    ·unfold d2t at h
     refine cd h (fun hc h => ?_) fun hc h => ?_
     ·refine rn ?_
      obtain ⟨fx, h⟩ := ck fx h
      obtain ⟨fx, h⟩ := ck fx h
      refine dw [] 0 ?_
      (repeat apply sq_)
      refine d5D (d3D n a1 a0) b1 (fun (gj2 : Unit) (j2 : Int) => [(0, .str a0), (7, .str (ZO a1)), (8, .int .i64 (wr .i64 ((↑((ZO a1).length) : Int) - 1))), (9, .int .i64 j2)]) (fun (gj2 : Unit) (j2 : Int) => st) (fun gj2 j2 fr1 st1 h hb => ?_) (fun hj2 => ?_)
      ·try simp only [go_sem, fx]
       unfold d3D at h
       refine d1w hb ?_
       refine rn ?_
       refine ZQ (body := d5b a1 j2 a0) (kk := d5c j2 a1) (n := n) (s0 := 1)
        (fun (gs3 : Unit) (s3 : Int) => [(0, .str a0), (7, .str (ZO a1)), (8, .int .i64 (wr .i64 ((↑((ZO a1).length) : Int) - 1))), (9, .int .i64 j2), (12, .int .i64 s3)])
        (fun (gs3 : Unit) (s3 : Int) => st)
        (fun (gt3 : Unit) (t3 : Unit) => [(8, .int .i64 (wr .i64 ((↑((ZO a1).length) : Int) - 1))), (9, .int .i64 j2)])
        (fun (gt3 : Unit) (t3 : Unit) => st)
        () h (d4W hsc)
        (fun gs3 s3 b3 h hx3 => ?_) (fun gt3 t3 fr1 st1 h hb => ?_)
       ·unfold d5b at h
        refine cd h (fun hc h => ?_) fun hc h => ?_
        ·refine rn ?_
         obtain ⟨fx, h⟩ := ck fx h
         obtain ⟨fx, h⟩ := ck fx h
         refine dw [] 0 ?_
         refine cd h (fun hc h => ?_) fun hc h => ?_
         ·cases h
         ·refine rn ?_
          cases h
          exact d0g () (d4W hsc)
        ·refine rn ?_
         cases h
         exact d1U () (d4W hsc)
       ·try simp only [go_sem, fx]
        unfold d5c at h
        refine d1w hb ?_
        refine ra ?_
        cases h
        refine d3x ?_; have h := congrArg some (hx1 _ rfl)
        exact rt
      ·refine cd h (fun hc h => ?_) fun hc h => ?_
       ·refine rs ?_
        obtain ⟨fx, h⟩ := ck fx h
        refine dw [] 0 ?_
        obtain ⟨v10, hv10, h⟩ := Zp h
        refine Yv (d7n _ _ _ hv10) ?_
        try simp only [go_sem, fx]
        refine cd h (fun hc h => ?_) fun hc h => ?_
        ·refine ra ?_
         cases h
         refine d3x ?_; have h := congrArg some (hx1 _ rfl)
         exact rt
        ·refine r0 ?_
         refine r0 ?_
         refine hj2 () _ _ _ h ?_; exact (d4W hsc)
       ·refine r0 ?_
        refine hj2 () _ _ _ h ?_; exact (d4W hsc)
     ·refine rn ?_
      cases h
      exact d1U () (d4W hsc)
    ·try simp only [go_sem, fx]
     unfold d5d at h
     refine d1w hb ?_
     exact rt
theorem d7p (a0 : Int) (r : Bool) (h : d3s a0 = some r) : Pure Tryz.prog gl 250 [.int .i64 a0] (.bool r) := by
 intro st
 unfold d3s at h
 have fx := trivial
 refine fb 5 [.tmp 2] [0, 2] Tryz.func250 fun hsc => ?_
 exact rt
theorem i0u (n : Nat) (a0 : Bs) (a1 : Bs) (r : Int) (h : d4U n a0 a1 = some r) : Pure Tryz.prog gl 239 [.str a0, .str a1] (.int .i64 r) := by
 intro st
 unfold d4U at h
 have fx := trivial
 refine fb 55 [.tmp 4] [0, 1, 4, 5, 6, 7, 8, 9, 10, 12, 15, 20, 26, 32, 36, 42, 45, 46, 47, 53] Tryz.func239 fun hsc => ?_
 refine cd h (fun hc h => ?_) fun hc h => ?_
 ·exact rt
 ·refine cd h (fun hc h => ?_) fun hc h => ?_
  ·obtain ⟨fx, h⟩ := ck fx h
   refine rn ?_
   refine d5D (d3E n a0) r (fun (gj0 : Unit) (j0 : Int) => [(0, .str a0), (5, .int .i32 j0)]) (fun (gj0 : Unit) (j0 : Int) => st) (fun gj0 j0 fr1 st1 h hb => ?_) (fun hj0 => ?_)
   ·try simp only [go_sem, fx]
    unfold d3E at h
    refine d1w hb ?_
    refine cl h (d7o n _ _) fun v2 h => ?_
    exact rt
   ·refine cd h (fun hc h => ?_) fun hc h => ?_
    ·refine r0 ?_
     refine hj0 () _ _ _ h ?_; exact (d4W hsc)
    ·refine r0 ?_
     refine hj0 () _ _ _ h ?_; exact (d4W hsc)
  ·refine cl h (d7p _) fun v3 h => ?_
   refine rn ?_
   refine d5D (d3B n a0 a1) r (fun (gj1 : Unit) (j1 : Unit) => [(0, .str a0), (1, .str a1)]) (fun (gj1 : Unit) (j1 : Unit) => st) (fun gj1 j1 fr1 st1 h hb => ?_) (fun hj1 => ?_)
   ·try simp only [go_sem, fx]
    unfold d3B at h
    refine d1w hb ?_
    refine rn ?_
    refine ZQ (body := d3C n a0 a1) (kk := d5e) (n := n) (s0 := 0)
     (fun (gs2 : Unit) (s2 : Nat) => [(1, .str a1), (45, .it st.length)])
     (fun (gs2 : Unit) (s2 : Nat) => st ++ [some (.sit a0 s2)])
     (fun (gt2 : Unit) (t2 : Unit) => [])
     (fun (gt2 : Unit) (t2 : Unit) => st)
     () h (bm hsc)
     (fun gs2 s2 b2 h hx2 => ?_) (fun gt2 t2 fr1 st1 h hb => ?_)
    ·unfold d3C at h
     refine cd h (fun hc h => ?_) fun hc h => ?_
     ·obtain ⟨fx, h⟩ := ck fx h
      refine cl h (d7o n _ _) fun v7 h => ?_
      refine cd h (fun hc h => ?_) fun hc h => ?_
      ·refine ra ?_
       cases h
       refine d3x ?_; have h := congrArg some (hx2 _ rfl)
       exact rt
      ·refine rn ?_
       cases h
       exact d0g () (bm hsc)
     ·refine rn ?_
      cases h
      exact d1U () (bm0 hsc)
    ·try simp only [go_sem, fx]
     unfold d5e at h
     refine d1w hb ?_
     exact rt
   ·refine cd h (fun hc h => ?_) fun hc h => ?_
    ·cases h
    ·refine r0 ?_
     refine hj1 () _ _ _ h ?_; exact (d4W hsc)
theorem i1i (n : Nat) (a0 : Bs) (a1 : Bs) (r : Int) (h : d5u n a0 a1 = some r) : Pure Tryz.prog gl 239 [.str a0, .str a1] (.int .i64 r) := by
 unfold d5u at h
 cases hc : decide (8 < a0.length) with
 | true =>
  rw [hc] at h
  obtain ⟨hp, h⟩ := p6s h
  cases h
  exact i5w a0 a1 hp.1 (of_decide_eq_true hc) hp.2.1 hp.2.2.1 hp.2.2.2
 | false =>
  rw [hc] at h
  exact i0u n a0 a1 r h
end Go.Proofs.YtgaeiccgdpnkkaaGreatDoor
