import Derived.Test.YtgaeiccgdpnkkaaGreatDoorWWalk3
import Derived.Test.YtgaeiccgdpnkkaaGreatDoorWHand2
set_option linter.unusedVariables false
set_option linter.unusedSimpArgs false
set_option maxHeartbeats 2000000
set_option maxRecDepth 100000
namespace Go.Proofs.YtgaeiccgdpnkkaaGreatDoor
open Go Go.Am
theorem i3L : ∀ (n : Nat) (a0 : WO) (l0 : (List WK)) (r : WK × Bool) (h : d1y n a0 l0 = some r), ∀ (st : St) (o0 q0 : Nat) (hnd : [o0].Nodup) (d5O : Am.look st o0 = some (.arr q0 2 40 (rows WK.cells l0))), Am.Spec Tryz.prog gl 215 [.agg [.int .i64 a0.kind, .str a0.name, .int .i64 a0.index, .str a0.type.base, .sl false 2 40 (rows WK.cells a0.type.args), .sl false 6 96 (rows WO.cells a0.args)], .ref false o0 q0 0 l0.length] st (fun d st' => d = .tup [.agg [.str r.1.base, .sl false 2 40 (rows WK.cells r.1.args)], .bool r.2] ∧ st' = puts st []) := by
 intro n
 induction n with
 | zero => intro a0 l0 r h; cases h
 | succ n ih =>
  intro a0 l0 r h st o0 q0 hnd d5O
  unfold d1y at h
  have ho0 := d0Q d5O
  have fx := idf ho0
  refine fb 101 [.cell 4 119, .tmp 5] [0, 1, 2, 4, 5, 6, 7, 8, 9, 10, 11, 12, 14, 15, 19, 30, 78, 79, 82, 83, 84, 85, 88, 89, 90, 91, 92, 93, 94, 95] Tryz.func215 fun hsc => ?_
  refine d8B (s' := (d1a st [(o0, (.arr q0 2 40 (rows WK.cells l0)))])) (YZ (by simp [d5O])) ?_
  refine cd h (fun hc h => ?_) fun hc h => ?_
  ·refine rr ?_
   exact fuo (.tup [.agg [.str a0.type.base, .sl false 2 40 (rows WK.cells a0.type.args)], .bool true]) (.same _) h hsc (hr := by rintro rfl; exact ⟨rfl, YZ (by simp [d5O])⟩)
  ·refine cd h (fun hc h => ?_) fun hc h => ?_
   ·obtain ⟨fx, h⟩ := ck fx h
    have fy := (show (rows WK.cells l0).getD ((wr .i64 ((wr .i64 ((↑l0.length : Int) - 1)) - a0.index)).toNat) [] = WK.cells (get l0 ((wr .i64 ((wr .i64 ((↑l0.length : Int) - 1)) - a0.index)).toNat)) from d7q (E := WK.cells) (l := l0) (k := (wr .i64 ((wr .i64 ((↑l0.length : Int) - 1)) - a0.index)).toNat) (by first | omega | (simp; omega)))
    have fy := fa fy (show (wr .i64 ((wr .i64 ((↑l0.length : Int) - 1)) - a0.index)).toNat < l0.length from by first | omega | (simp; omega))
    refine r1 ?_
    refine rr ?_
    exact fuo (.tup [.agg [.str ((get l0 ((wr .i64 ((wr .i64 ((↑l0.length : Int) - 1)) - a0.index)).toNat)).base), .sl false 2 40 (rows WK.cells ((get l0 ((wr .i64 ((wr .i64 ((↑l0.length : Int) - 1)) - a0.index)).toNat)).args))], .bool true]) (.same _) h hsc (hr := by rintro rfl; exact ⟨rfl, YZ (by simp [d5O])⟩)
   ·refine cd h (fun hc h => ?_) fun hc h => ?_
    ·refine rs ?_
     obtain ⟨fx, h⟩ := ck fx h
     obtain ⟨c8, hc8, h⟩ := d9t h
     have fy := (show rows WK.cells l0 ++ [[.str a0.type.base, .sl false 2 40 (rows WK.cells a0.type.args)]] = rows WK.cells c8 from by rw [hc8]; first | exact d4c (E := WK.cells) l0 [a0.type] | simp only [go_sem, rows, List.map_append, List.map_cons, List.map_nil])
     have fy := fa fy (show l0.length + 1 = c8.length from by rw [hc8]; simp)
     obtain ⟨fx, h⟩ := ck fx h
     refine dwy [] 2 ?_
     obtain ⟨fx, h⟩ := ck fx h
     refine rn ?_
     obtain ⟨v14, hv14, h⟩ := XT h
     refine (ih _ _ _ hv14 _ _ 0 (by simp) (d0p.trans rfl)).mono ?_
     rintro d1 st1 ⟨rfl, rfl⟩
     refine rr ?_
     exact fuo (.tup [.agg [.str [], .sl false 2 40 (rows WK.cells [a0.type, v14.1])], .bool v14.2]) (.tup _ _ (.cons _ _ _ _ (.agg _ _ (.cons _ _ _ _ .s (.cons _ _ _ _ (.ref _ _ _ _ _ _ _ _ _ (i0i.trans rfl) i0k (by decide) (by simp [Imm, D.imm]) (by simp only [go_sem, rows, List.map_cons, List.map_nil])) .nil))) (.cons _ _ _ _ .s .nil)) rfl) h hsc (hr := by rintro rfl; exact ⟨rfl, YZ (by simp [d5O])⟩)
    ·obtain ⟨fx, h⟩ := ck fx h
     refine rn ?_
     obtain ⟨v17, hv17, h⟩ := XT h
     refine (ih _ _ _ hv17 _ _ q0 hnd (by simp only [go_sem, fx])).mono ?_
     rintro d1 st1 ⟨rfl, rfl⟩
     obtain ⟨fx, h⟩ := ck fx h
     refine rn ?_
     obtain ⟨v19, hv19, h⟩ := XT h
     refine (ih _ _ _ hv19 _ _ q0 hnd (by simp only [go_sem, fx])).mono ?_
     rintro d1 st1 ⟨rfl, rfl⟩
     refine rn ?_
     obtain ⟨fx, h⟩ := ck fx h
     refine dw [] 0 ?_
     obtain ⟨v22, hv22, h⟩ := XT h
     refine d4H (fun hG => (i0D n _ _ _ (i3x hv22 (by simpa using hG)))) ?_
     try simp only [go_sem, fx]
     refine cd h (fun hc h => ?_) fun hc h => ?_
     ·refine rr ?_
      exact fuo (.tup [.agg [.str [], .sl false 2 40 (rows WK.cells [])], .bool false]) (.tup _ _ (.cons _ _ _ _ (.agg _ _ (.cons _ _ _ _ .s (.cons _ _ _ _ (.XC _ _ _ (by decide)) .nil))) (.cons _ _ _ _ .s .nil)) rfl) h hsc (hr := by rintro rfl; exact ⟨rfl, YZ (by simp [d5O])⟩)
     ·obtain ⟨fx, h⟩ := ck fx h
      refine rr ?_
      exact fuo (.tup [.agg [.str ((get v17.1.args 1).base), .sl false 2 40 (rows WK.cells ((get v17.1.args 1).args))], .bool true]) (.same _) h hsc (hr := by rintro rfl; exact ⟨rfl, YZ (by simp [d5O])⟩)
theorem i6u : ∀ (n : Nat) (a0 : WO) (a1 : (List WK)) (r : WK × Bool) (h : d3U n a0 a1 = some r), Pure Tryz.prog gl 215 [.agg [.int .i64 a0.kind, .str a0.name, .int .i64 a0.index, .str a0.type.base, .sl false 2 40 (rows WK.cells a0.type.args), .sl false 6 96 (rows WO.cells a0.args)], .sl false 2 40 (rows WK.cells a1)] (.tup [.agg [.str r.1.base, .sl false 2 40 (rows WK.cells r.1.args)], .bool r.2]) := by
 intro n
 induction n with
 | zero => intro a0 a1 r h; cases h
 | succ n ih =>
  intro a0 a1 r h st
  unfold d3U at h
  have fx := trivial
  refine fb 101 [.cell 4 119, .tmp 5] [0, 1, 2, 4, 5, 6, 7, 8, 9, 10, 11, 12, 14, 15, 19, 30, 78, 79, 82, 83, 84, 85, 88, 89, 90, 91, 92, 93, 94, 95] Tryz.func215 fun hsc => ?_
  refine cd h (fun hc h => ?_) fun hc h => ?_
  ·exact rt
  ·refine cd h (fun hc h => ?_) fun hc h => ?_
   ·obtain ⟨fx, h⟩ := ck fx h
    exact rt
   ·refine cd h (fun hc h => ?_) fun hc h => ?_
    ·refine rs ?_
     obtain ⟨fx, h⟩ := ck fx h
     obtain ⟨c6, hc6, h⟩ := d9t h
     have fy := (show rows WK.cells a1 ++ [[.str a0.type.base, .sl false 2 40 (rows WK.cells a0.type.args)]] = rows WK.cells c6 from by rw [hc6]; first | exact d4c (E := WK.cells) a1 [a0.type] | simp only [go_sem, rows, List.map_append, List.map_cons, List.map_nil])
     have fy := fa fy (show a1.length + 1 = c6.length from by rw [hc6]; simp)
     obtain ⟨fx, h⟩ := ck fx h
     refine dwy [] 2 ?_
     obtain ⟨fx, h⟩ := ck fx h
     refine rn ?_
     obtain ⟨v12, hv12, h⟩ := XT h
     refine (i3L n _ _ _ hv12 _ _ 0 (by simp) (d1e.trans rfl)).mono ?_
     rintro d1 st1 ⟨rfl, rfl⟩
     refine rr ?_
     exact fo (.tup [.agg [.str [], .sl false 2 40 (rows WK.cells [a0.type, v12.1])], .bool v12.2]) (.tup _ _ (.cons _ _ _ _ (.agg _ _ (.cons _ _ _ _ .s (.cons _ _ _ _ (.ref _ _ _ _ _ _ _ _ _ (i0F.trans rfl) i8e (by decide) (by simp [Imm, D.imm]) (by simp only [go_sem, rows, List.map_cons, List.map_nil])) .nil))) (.cons _ _ _ _ .s .nil)) rfl) h hsc
    ·obtain ⟨fx, h⟩ := ck fx h
     refine cl h (ih _ _) fun v15 h => ?_
     obtain ⟨fx, h⟩ := ck fx h
     refine cl h (ih _ _) fun v17 h => ?_
     refine rn ?_
     obtain ⟨fx, h⟩ := ck fx h
     refine dw [] 0 ?_
     obtain ⟨v20, hv20, h⟩ := XT h
     refine d4H (fun hG => (i0D n _ _ _ (i3x hv20 (by simpa using hG)))) ?_
     try simp only [go_sem, fx]
     refine cd h (fun hc h => ?_) fun hc h => ?_
     ·refine rr ?_
      exact fo (.tup [.agg [.str [], .sl false 2 40 (rows WK.cells [])], .bool false]) (.tup _ _ (.cons _ _ _ _ (.agg _ _ (.cons _ _ _ _ .s (.cons _ _ _ _ (.XC _ _ _ (by decide)) .nil))) (.cons _ _ _ _ .s .nil)) rfl) h hsc
     ·obtain ⟨fx, h⟩ := ck fx h
      exact rt
theorem d8N (n : Nat) (a0 : WO) (r : WM) (h : d3s n a0 = some r) : Pure Tryz.prog gl 175 [.agg [.int .i64 a0.kind, .str a0.name, .int .i64 a0.index, .str a0.type.base, .sl false 2 40 (rows WK.cells a0.type.args), .sl false 6 96 (rows WO.cells a0.args)]] (.agg [.int .i64 r.code, .int .i64 r.index]) := by
 intro st
 unfold d3s at h
 have fx := trivial
 refine fb 25 [.cell 2 41] [0, 1, 2, 3, 4, 5, 7, 14, 22] Tryz.func175 fun hsc => ?_
 refine rn ?_
 obtain ⟨v1, hv1, h⟩ := XT h
 refine (i1L n _ _ _ _ _ hv1 _ _ _ (by simp) (d1e.trans rfl) (d1e.trans rfl)).mono ?_
 rintro d1 st1 ⟨rfl, rfl⟩
 refine cd h (fun hc h => ?_) fun hc h => ?_
 ·exact rt
 ·refine cl h (up (i6u n _ _) (fun _ => (.cons _ _ _ _ .s (.cons _ _ _ _ (.XC _ _ _ (by decide)) .nil)))) fun v2 h => ?_
  refine cd h (fun hc h => ?_) fun hc h => ?_
  ·exact rt
  ·exact rt
theorem i3M (n : Nat) (a0 : WU) (a1 : Xi) (a2 : WQ) (r : Int) (h : d6x n a0 a1 a2 = some r) : Pure Tryz.prog gl 117 [.agg [.sl false 2 40 (rows WT.cells a0.types), .sl false 3 32 (rows Xf.cells a0.Xw)], .agg [.sl false 1 8 (rows d2a a1.up), .sl false 1 8 (rows d2a a1.down)], .agg [.str a2.name, .sl false 2 32 (rows WX.cells a2.graph.nodes), .int .i64 a2.kids, .int .i64 a2.weight, .int .i64 a2.meaning.kind, .str a2.meaning.name, .int .i64 a2.meaning.index, .str a2.meaning.type.base, .sl false 2 40 (rows WK.cells a2.meaning.type.args), .sl false 6 96 (rows WO.cells a2.meaning.args)]] (.int .i64 r) := by
 intro st
 unfold d6x at h
 have fx := trivial
 refine fb 46 [.tmp 6] [0, 1, 2, 3, 4, 5, 6, 7, 12, 13, 14, 17, 18, 19, 22, 23, 24, 25, 33, 41] Tryz.func117 fun hsc => ?_
 refine cd h (fun hc h => ?_) fun hc h => ?_
 ·exact rt
 ·refine cl h (d7o n _ _ _) fun v1 h => ?_
  refine cd h (fun hc h => ?_) fun hc h => ?_
  ·exact rt
  ·refine cl h (i1K n _ _) fun v2 h => ?_
   refine cd h (fun hc h => ?_) fun hc h => ?_
   ·exact rt
   ·refine cl h (d8N n _) fun v3 h => ?_
    exact rt
theorem d5h (n : Nat) (a0 : Bs) (r : Int) (h : YT n a0 = some r) : Pure Tryz.prog gl 216 [.str a0] (.int .i64 r) := by
 intro st
 unfold YT at h
 have fx := trivial
 refine fb 10 [.tmp 2] [0, 2, 4, 6] Tryz.func216 fun hsc => ?_
 refine rn ?_
 refine XV (body := Zd a0) (kk := d0D) (n := n) (s0 := (0, 0))
  (fun (gs0 : Unit) (s0 : Nat × Int) => [(2, .int .i64 s0.2), (4, .it st.length)])
  (fun (gs0 : Unit) (s0 : Nat × Int) => st ++ [some (.sit a0 s0.1)])
  (fun (gt0 : Unit) (t0 : Int) => [(2, .int .i64 t0)])
  (fun (gt0 : Unit) (t0 : Int) => st)
  () h (bm hsc)
  (fun gs0 s0 b0 h hx0 => ?_) (fun gt0 t0 fr1 st1 h hb => ?_)
 ·unfold Zd at h
  refine cd h (fun hc h => ?_) fun hc h => ?_
  ·refine rn ?_
   cases h
   exact Yg () (bm hsc)
  ·refine rn ?_
   cases h
   exact Zq () (bm0 hsc)
 ·try simp only [go_sem, fx]
  unfold d0D at h
  refine d0s hb ?_
  exact rt
theorem Yy (a0 : Bs) (r : Int) (h : XS a0 = some r) : Pure Tryz.prog gl 238 [.str a0] (.int .u64 r) := by
 intro st
 unfold XS at h
 have fx := trivial
 refine fb 59 [.tmp 2] [0, 2] Tryz.func238 fun hsc => ?_
 refine cd h (fun hc h => ?_) fun hc h => ?_
 ·refine rs ?_
  obtain ⟨fx, h⟩ := ck fx h
  obtain ⟨fx, h⟩ := ck fx h
  obtain ⟨fx, h⟩ := ck fx h
  obtain ⟨fx, h⟩ := ck fx h
  refine dw [] 0 ?_
  exact rt
 ·refine rn ?_
  obtain ⟨fx, h⟩ := ck fx h
  obtain ⟨fx, h⟩ := ck fx h
  obtain ⟨fx, h⟩ := ck fx h
  obtain ⟨fx, h⟩ := ck fx h
  obtain ⟨fx, h⟩ := ck fx h
  obtain ⟨fx, h⟩ := ck fx h
  obtain ⟨fx, h⟩ := ck fx h
  obtain ⟨fx, h⟩ := ck fx h
  refine dw [] 0 ?_
  exact rt
theorem d7p (n : Nat) (a0 : Bs) (r : Bool) (h : d0w n a0 = some r) : Pure Tryz.prog gl 217 [.str a0] (.bool r) := by
 intro st
 unfold d0w at h
 have fx := trivial
 refine fb 169 [.tmp 2] [0, 2, 3, 4, 5, 6, 9, 13, 20, 21, 22, 23, 24, 31, 32, 33, 34, 35, 36, 37, 38, 39, 46, 47, 48, 49, 50, 51, 52, 53, 54, 55, 56, 57, 58, 59, 60, 61, 62, 75, 76, 82, 83, 84, 85, 86, 89, 90, 91, 92, 93, 94, 97, 103, 104, 105, 106, 107, 110, 111, 112, 113, 114, 117, 118, 119, 122, 123, 124, 125, 128, 134, 135, 136, 137, 138, 141, 142, 143, 144, 145, 148, 149, 150, 153, 154, 155, 158, 159, 160, 163, 164, 165, 166] Tryz.func217 fun hsc => ?_
 refine rn ?_
 refine XV (body := Zu n) (kk := d2e) (n := n) (s0 := a0)
  (fun (gs0 : Unit) (s0 : Bs) => [(0, .str s0)])
  (fun (gs0 : Unit) (s0 : Bs) => st)
  (fun (gt0 : Unit) (t0 : Unit) => [])
  (fun (gt0 : Unit) (t0 : Unit) => st)
  () h (d4i hsc)
  (fun gs0 s0 b0 h hx0 => ?_) (fun gt0 t0 fr1 st1 h hb => ?_)
 ·unfold Zu at h
  refine cd h (fun hc h => ?_) fun hc h => ?_
  ·obtain ⟨fx, h⟩ := ck fx h
   refine cd h (fun hc h => ?_) fun hc h => ?_
   ·obtain ⟨fx, h⟩ := ck fx h
    refine rn ?_
    obtain ⟨v78, hv78, h⟩ := XT h
    refine d7h (fun hG => (Yy _ _ (i3x hv78 (by simpa using hG)))) ?_
    refine rn ?_
    refine d6p (YJ) b0 (fun (gj3 : Unit) (j3 : Bs) => [(0, .str j3)]) (fun (gj3 : Unit) (j3 : Bs) => st) (fun gj3 j3 fr1 st1 h hb => ?_) (fun hj3 => ?_)
    ·try simp only [go_sem, fx]
     unfold YJ at h
     refine d0s hb ?_
     refine rn ?_
     cases h
     exact Yg () (d4i hsc)
    ·refine cd h (fun hc h => ?_) fun hc h => ?_
     ·obtain ⟨fx, h⟩ := ck fx h
      refine rn ?_
      refine dw [] 0 ?_
      obtain ⟨v81, hv81, h⟩ := XT h
      refine d4H (fun hG => (Yy _ _ (i3x hv81 (by simpa using hG)))) ?_
      obtain ⟨fx, h⟩ := ck fx h
      try simp only [go_sem, fx]
      obtain ⟨v84, hv84, h⟩ := XT h
      refine d4H (fun hG => (Yy _ _ (i3x hv84 (by simpa using hG)))) ?_
      try simp only [go_sem, fx]
      refine cd h (fun hc h => ?_) fun hc h => ?_
      ·obtain ⟨fx, h⟩ := ck fx h
       refine rn ?_
       refine XV (body := Zt) (kk := d0G) (n := n) (s0 := (((s0.drop 1).drop 8).drop 16))
        (fun (gs4 : Unit) (s4 : Bs) => [(0, .str s4)])
        (fun (gs4 : Unit) (s4 : Bs) => st)
        (fun (gt4 : Unit) (t4 : Bs) => [(0, .str t4)])
        (fun (gt4 : Unit) (t4 : Bs) => st)
        () h (d4i hsc)
        (fun gs4 s4 b4 h hx4 => ?_) (fun gt4 t4 fr1 st1 h hb => ?_)
       ·unfold Zt at h
        refine rs ?_
        refine dw [] 0 ?_
        obtain ⟨v100, hv100, h⟩ := XT h
        refine d4H (fun hG => (Yy _ _ (i3x hv100 (by simpa using hG)))) ?_
        obtain ⟨fx, h⟩ := ck fx h
        try simp only [go_sem, fx]
        obtain ⟨v103, hv103, h⟩ := XT h
        refine d4H (fun hG => (Yy _ _ (i3x hv103 (by simpa using hG)))) ?_
        obtain ⟨fx, h⟩ := ck fx h
        try simp only [go_sem, fx]
        obtain ⟨v106, hv106, h⟩ := XT h
        refine d4H (fun hG => (Yy _ _ (i3x hv106 (by simpa using hG)))) ?_
        obtain ⟨fx, h⟩ := ck fx h
        try simp only [go_sem, fx]
        obtain ⟨v110, hv110, h⟩ := XT h
        refine d4H (fun hG => (Yy _ _ (i3x hv110 (by simpa using hG)))) ?_
        try simp only [go_sem, fx]
        refine cd h (fun hc h => ?_) fun hc h => ?_
        ·obtain ⟨fx, h⟩ := ck fx h
         refine rn ?_
         cases h
         exact Yg () (d4i hsc)
        ·refine rn ?_
         cases h
         exact Zq () (d4i hsc)
       ·try simp only [go_sem, fx]
        unfold d0G at h
        refine hj3 () _ _ _ h ?_; exact (hb.trans (d4i hsc))
      ·refine r0 ?_
       refine hj3 () _ _ _ h ?_; exact (d4i hsc)
     ·refine r0 ?_
      refine hj3 () _ _ _ h ?_; exact (d4i hsc)
   ·refine r0 ?_
    obtain ⟨fx, h⟩ := ck fx h
    have fy := (show Am.rowAt (d3S u8c d7y) ((Xd s0 0).toNat) 1 = u8c (get d7y ((Xd s0 0).toNat)) from i2B (fun _ => rfl) (show _ < d7y.length by rw [p2o]; first | omega | (simp; omega)))
    refine r1 ?_
    refine r0 ?_
    obtain ⟨fx, h⟩ := ck fx h
    have fy := (show Am.rowAt (d3S Xp.cells d9H) ((Int.fdiv (get d7y ((Xd s0 0).toNat)) (2 ^ (min 4 8))).toNat) 2 = Xp.cells (get d9H ((Int.fdiv (get d7y ((Xd s0 0).toNat)) (2 ^ (min 4 8))).toNat)) from i2B (fun _ => rfl) (show _ < d9H.length by rw [i8m]; first | omega | (simp; omega)))
    refine r1 ?_
    refine cd h (fun hc h => ?_) fun hc h => ?_
    ·refine rs ?_
     obtain ⟨fx, h⟩ := ck fx h
     obtain ⟨fx, h⟩ := ck fx h
     refine dw [] 0 ?_
     refine cd h (fun hc h => ?_) fun hc h => ?_
     ·refine ra ?_
      cases h
      refine d2c ?_; have h := congrArg some (hx0 _ rfl)
      exact rt
     ·obtain ⟨fx, h⟩ := ck fx h
      refine rn ?_
      cases h
      exact Yg () (bm0 hsc)
    ·refine cd h (fun hc h => ?_) fun hc h => ?_
     ·refine rs ?_
      obtain ⟨fx, h⟩ := ck fx h
      obtain ⟨fx, h⟩ := ck fx h
      obtain ⟨fx, h⟩ := ck fx h
      obtain ⟨fx, h⟩ := ck fx h
      refine dw [] 0 ?_
      refine cd h (fun hc h => ?_) fun hc h => ?_
      ·refine ra ?_
       cases h
       refine d2c ?_; have h := congrArg some (hx0 _ rfl)
       exact rt
      ·obtain ⟨fx, h⟩ := ck fx h
       refine rn ?_
       cases h
       exact Yg () (bm0 hsc)
     ·refine cd h (fun hc h => ?_) fun hc h => ?_
      ·refine rs ?_
       obtain ⟨fx, h⟩ := ck fx h
       obtain ⟨fx, h⟩ := ck fx h
       obtain ⟨fx, h⟩ := ck fx h
       obtain ⟨fx, h⟩ := ck fx h
       obtain ⟨fx, h⟩ := ck fx h
       obtain ⟨fx, h⟩ := ck fx h
       refine dw [] 0 ?_
       refine cd h (fun hc h => ?_) fun hc h => ?_
       ·refine ra ?_
        cases h
        refine d2c ?_; have h := congrArg some (hx0 _ rfl)
        exact rt
       ·obtain ⟨fx, h⟩ := ck fx h
        refine rn ?_
        cases h
        exact Yg () (bm0 hsc)
      ·refine ra ?_
       cases h
       refine d2c ?_; have h := congrArg some (hx0 _ rfl)
       exact rt
  ·refine rn ?_
   cases h
   exact Zq () (d4i hsc)
 ·try simp only [go_sem, fx]
  unfold d2e at h
  refine d0s hb ?_
  exact rt
theorem d6E (a0 : Bs) (a1 : Int) (r : Int) (h : d2N a0 a1 = some r) : Pure Tryz.prog gl 255 [.str a0, .int .u8 a1] (.int .i64 r) := by
 intro st
 unfold d2N at h
 have fx := trivial
 refine fb 8 [.tmp 4] [0, 1, 4] Tryz.func255 fun hsc => ?_
 refine cl h (i5U _ _) fun v1 h => ?_
 exact rt
theorem d8f (a0 : Int) (r : Bool) (h : d2n a0 = some r) : Pure Tryz.prog gl 256 [.int .i32 a0] (.bool r) := by
 intro st
 unfold d2n at h
 have fx := trivial
 refine fb 17 [.tmp 2] [0, 2, 3, 7, 8, 10, 14, 15] Tryz.func256 fun hsc => ?_
 refine cd h (fun hc h => ?_) fun hc h => ?_
 ·exact rt
 ·refine cd h (fun hc h => ?_) fun hc h => ?_
  ·exact rt
  ·exact rt
theorem d6F (n : Nat) (a0 : Bs) (a1 : Int) (r : Int) (h : d1R n a0 a1 = some r) : Pure Tryz.prog gl 249 [.str a0, .int .i32 a1] (.int .i64 r) := by
 intro st
 unfold d1R at h
 have fx := trivial
 refine fb 187 [.tmp 4] [0, 1, 4, 5, 6, 7, 8, 9, 10, 11, 12, 13, 14, 15, 16, 26, 33, 43, 51, 64, 73, 74, 75, 76, 79, 80, 81, 82, 85, 86, 87, 88, 89, 90, 91, 92, 93, 94, 95, 96, 97, 98, 108, 124, 133, 134, 135, 136, 137, 138, 139, 143, 156, 160, 164, 165, 171, 175, 176, 177, 181, 183] Tryz.func249 fun hsc => ?_
 refine cd h (fun hc h => ?_) fun hc h => ?_
 ·refine cl h (d6E _ _) fun v1 h => ?_
  exact rt
 ·refine cd h (fun hc h => ?_) fun hc h => ?_
  ·refine rn ?_
   refine XV (body := d2E a0) (kk := d4n) (n := n) (s0 := 0)
    (fun (gs0 : Unit) (s0 : Nat) => [(175, .it st.length)])
    (fun (gs0 : Unit) (s0 : Nat) => st ++ [some (.sit a0 s0)])
    (fun (gt0 : Unit) (t0 : Unit) => [])
    (fun (gt0 : Unit) (t0 : Unit) => st)
    () h (bm hsc)
    (fun gs0 s0 b0 h hx0 => ?_) (fun gt0 t0 fr1 st1 h hb => ?_)
   ·unfold d2E at h
    refine cd h (fun hc h => ?_) fun hc h => ?_
    ·obtain ⟨fx, h⟩ := ck fx h
     refine cd h (fun hc h => ?_) fun hc h => ?_
     ·refine ra ?_
      cases h
      refine d2c ?_; have h := congrArg some (hx0 _ rfl)
      exact rt
     ·refine rn ?_
      cases h
      exact Yg () (bm hsc)
    ·refine rn ?_
     cases h
     exact Zq () (bm0 hsc)
   ·try simp only [go_sem, fx]
    unfold d4n at h
    refine d0s hb ?_
    exact rt
  ·refine cl h (d8f _) fun v4 h => ?_
   refine cd h (fun hc h => ?_) fun hc h => ?_
   ·exact rt
   ·refine rn ?_
    refine XV (body := d1z n a1 a0) (kk := d4q) (n := n) (s0 := ())
     (fun (gs1 : Unit) (s1 : Unit) => [(0, .str a0), (7, .str (YC a1)), (8, .int .i64 (wr .i64 ((↑((YC a1).length) : Int) - 1))), (9, .int .i64 (wr .i64 ((↑((YC a1).length) : Int) - 1)))])
     (fun (gs1 : Unit) (s1 : Unit) => st)
     (fun (gt1 : Unit) (t1 : Unit) => [])
     (fun (gt1 : Unit) (t1 : Unit) => st)
     () h (d4i hsc)
     (fun gs1 s1 b1 h hx1 => ?_) (fun gt1 t1 fr1 st1 h hb => ?_)
    ·unfold d1z at h
     refine cd h (fun hc h => ?_) fun hc h => ?_
     ·refine rn ?_
      obtain ⟨fx, h⟩ := ck fx h
      obtain ⟨fx, h⟩ := ck fx h
      refine dw [] 0 ?_
      (repeat apply sq_)
      refine d6p (d2H n a1 a0) b1 (fun (gj2 : Unit) (j2 : Int) => [(0, .str a0), (7, .str (YC a1)), (8, .int .i64 (wr .i64 ((↑((YC a1).length) : Int) - 1))), (9, .int .i64 j2)]) (fun (gj2 : Unit) (j2 : Int) => st) (fun gj2 j2 fr1 st1 h hb => ?_) (fun hj2 => ?_)
      ·try simp only [go_sem, fx]
       unfold d2H at h
       refine d0s hb ?_
       refine rn ?_
       refine XV (body := d4o a1 j2 a0) (kk := d4p j2 a1) (n := n) (s0 := 1)
        (fun (gs3 : Unit) (s3 : Int) => [(0, .str a0), (7, .str (YC a1)), (8, .int .i64 (wr .i64 ((↑((YC a1).length) : Int) - 1))), (9, .int .i64 j2), (12, .int .i64 s3)])
        (fun (gs3 : Unit) (s3 : Int) => st)
        (fun (gt3 : Unit) (t3 : Unit) => [(8, .int .i64 (wr .i64 ((↑((YC a1).length) : Int) - 1))), (9, .int .i64 j2)])
        (fun (gt3 : Unit) (t3 : Unit) => st)
        () h (d4i hsc)
        (fun gs3 s3 b3 h hx3 => ?_) (fun gt3 t3 fr1 st1 h hb => ?_)
       ·unfold d4o at h
        refine cd h (fun hc h => ?_) fun hc h => ?_
        ·refine rn ?_
         obtain ⟨fx, h⟩ := ck fx h
         obtain ⟨fx, h⟩ := ck fx h
         refine dw [] 0 ?_
         refine cd h (fun hc h => ?_) fun hc h => ?_
         ·cases h
         ·refine rn ?_
          cases h
          exact Yg () (d4i hsc)
        ·refine rn ?_
         cases h
         exact Zq () (d4i hsc)
       ·try simp only [go_sem, fx]
        unfold d4p at h
        refine d0s hb ?_
        refine ra ?_
        cases h
        refine d2c ?_; have h := congrArg some (hx1 _ rfl)
        exact rt
      ·refine cd h (fun hc h => ?_) fun hc h => ?_
       ·refine rs ?_
        obtain ⟨fx, h⟩ := ck fx h
        refine dw [] 0 ?_
        obtain ⟨v10, hv10, h⟩ := XT h
        refine Xe (d6E _ _ _ hv10) ?_
        try simp only [go_sem, fx]
        refine cd h (fun hc h => ?_) fun hc h => ?_
        ·refine ra ?_
         cases h
         refine d2c ?_; have h := congrArg some (hx1 _ rfl)
         exact rt
        ·refine r0 ?_
         refine r0 ?_
         refine hj2 () _ _ _ h ?_; exact (d4i hsc)
       ·refine r0 ?_
        refine hj2 () _ _ _ h ?_; exact (d4i hsc)
     ·refine rn ?_
      cases h
      exact Zq () (d4i hsc)
    ·try simp only [go_sem, fx]
     unfold d4q at h
     refine d0s hb ?_
     exact rt
theorem d6G (a0 : Int) (r : Bool) (h : d2x a0 = some r) : Pure Tryz.prog gl 250 [.int .i64 a0] (.bool r) := by
 intro st
 unfold d2x at h
 have fx := trivial
 refine fb 5 [.tmp 2] [0, 2] Tryz.func250 fun hsc => ?_
 exact rt
theorem d9N (n : Nat) (a0 : Bs) (a1 : Bs) (r : Int) (h : d4f n a0 a1 = some r) : Pure Tryz.prog gl 239 [.str a0, .str a1] (.int .i64 r) := by
 intro st
 unfold d4f at h
 have fx := trivial
 refine fb 55 [.tmp 4] [0, 1, 4, 5, 6, 7, 8, 9, 10, 12, 15, 20, 26, 32, 36, 42, 45, 46, 47, 53] Tryz.func239 fun hsc => ?_
 refine cd h (fun hc h => ?_) fun hc h => ?_
 ·exact rt
 ·refine cd h (fun hc h => ?_) fun hc h => ?_
  ·obtain ⟨fx, h⟩ := ck fx h
   refine rn ?_
   refine d6p (d2I n a0) r (fun (gj0 : Unit) (j0 : Int) => [(0, .str a0), (5, .int .i32 j0)]) (fun (gj0 : Unit) (j0 : Int) => st) (fun gj0 j0 fr1 st1 h hb => ?_) (fun hj0 => ?_)
   ·try simp only [go_sem, fx]
    unfold d2I at h
    refine d0s hb ?_
    refine cl h (d6F n _ _) fun v2 h => ?_
    exact rt
   ·refine cd h (fun hc h => ?_) fun hc h => ?_
    ·refine r0 ?_
     refine hj0 () _ _ _ h ?_; exact (d4i hsc)
    ·refine r0 ?_
     refine hj0 () _ _ _ h ?_; exact (d4i hsc)
  ·refine cl h (d6G _) fun v3 h => ?_
   refine rn ?_
   refine d6p (d2F n a0 a1) r (fun (gj1 : Unit) (j1 : Unit) => [(0, .str a0), (1, .str a1)]) (fun (gj1 : Unit) (j1 : Unit) => st) (fun gj1 j1 fr1 st1 h hb => ?_) (fun hj1 => ?_)
   ·try simp only [go_sem, fx]
    unfold d2F at h
    refine d0s hb ?_
    refine rn ?_
    refine XV (body := d2G n a0 a1) (kk := d4r) (n := n) (s0 := 0)
     (fun (gs2 : Unit) (s2 : Nat) => [(1, .str a1), (45, .it st.length)])
     (fun (gs2 : Unit) (s2 : Nat) => st ++ [some (.sit a0 s2)])
     (fun (gt2 : Unit) (t2 : Unit) => [])
     (fun (gt2 : Unit) (t2 : Unit) => st)
     () h (bm hsc)
     (fun gs2 s2 b2 h hx2 => ?_) (fun gt2 t2 fr1 st1 h hb => ?_)
    ·unfold d2G at h
     refine cd h (fun hc h => ?_) fun hc h => ?_
     ·obtain ⟨fx, h⟩ := ck fx h
      refine cl h (d6F n _ _) fun v7 h => ?_
      refine cd h (fun hc h => ?_) fun hc h => ?_
      ·refine ra ?_
       cases h
       refine d2c ?_; have h := congrArg some (hx2 _ rfl)
       exact rt
      ·refine rn ?_
       cases h
       exact Yg () (bm hsc)
     ·refine rn ?_
      cases h
      exact Zq () (bm0 hsc)
    ·try simp only [go_sem, fx]
     unfold d4r at h
     refine d0s hb ?_
     exact rt
   ·refine cd h (fun hc h => ?_) fun hc h => ?_
    ·cases h
    ·refine r0 ?_
     refine hj1 () _ _ _ h ?_; exact (d4i hsc)
theorem i0E (n : Nat) (a0 : Bs) (a1 : Bs) (r : Int) (h : d4L n a0 a1 = some r) : Pure Tryz.prog gl 239 [.str a0, .str a1] (.int .i64 r) := by
 unfold d4L at h
 cases hc : decide (8 < a0.length) with
 | true =>
  rw [hc] at h
  obtain ⟨hp, h⟩ := p5Z h
  cases h
  exact i4V a0 a1 hp.1 (of_decide_eq_true hc) hp.2.1 hp.2.2.1 hp.2.2.2
 | false =>
  rw [hc] at h
  exact d9N n a0 a1 r h
end Go.Proofs.YtgaeiccgdpnkkaaGreatDoor
