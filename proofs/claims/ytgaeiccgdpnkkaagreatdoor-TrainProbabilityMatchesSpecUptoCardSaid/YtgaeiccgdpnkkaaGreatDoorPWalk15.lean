import Derived.Test.YtgaeiccgdpnkkaaGreatDoorPWalk14
set_option linter.unusedVariables false
set_option linter.unusedSimpArgs false
set_option maxHeartbeats 2000000
set_option maxRecDepth 100000
namespace Go.Proofs.YtgaeiccgdpnkkaaGreatDoor
open Go Go.Am
theorem d5C (a0 : Int) (a1 : Int) (r : Yg) (h : d4L a0 a1 = some r) : Pure Tryz.prog gl 78 [.int .i64 a0, .int .i64 a1] (.agg [.int .i64 r.code, .int .i64 r.index]) := by
 intro st
 unfold d4L at h
 have fx := trivial
 refine fb 8 [.cell 4 41] [0, 1, 4] Tryz.func78 fun hsc => ?_
 exact rt
theorem d4M (a0 : Int) (a1 : Int) (r : Yg) (h : d2l a0 a1 = some r) : Pure Tryz.prog gl 143 [.int .i64 a0, .int .i64 a1] (.agg [.int .i64 r.code, .int .i64 r.index]) := by
 intro st
 unfold d2l at h
 have fx := trivial
 refine fb 8 [.cell 4 41] [0, 1, 4] Tryz.func143 fun hsc => ?_
 exact rt
theorem i5K : ∀ (n : Nat) (a0 : Yr) (a1 : Int) (a2 : Int) (d0m : Int) (d5B : (List Yl)) (i5j : (List Yw)) (i3v : (List Yi)) (i3Q : (List YT)) (i5k : (List Yq)) (i3R : Int) (r : Yg × Int × Int) (h : d2k n a0 a1 a2 d0m d5B i5j i3v i3Q i5k i3R = some r), ∀ (st : St) (o0 o1 o2 o3 : Nat) (hnd : [o0, o1, o2, o3].Nodup) (d7g : Am.look st o0 = some (.arr 0 1 0 [[.int .i64 d0m]])) (i1p : Am.look st o1 = some (.arr 0 5 0 [[.sl false 2 40 (rows Yl.cells d5B), .sl false 3 32 (rows Yw.cells i5j), .sl false 10 152 (rows Yi.cells i3v), .sl false 9 144 (rows YT.cells i3Q), .sl false 2 32 (rows Yq.cells i5k)]])) (i6u : Am.look st o2 = some (.arr 0 1 0 [[.int .i64 i3R]])) (p3t : Am.look st o3 = some (.arr 0 1 0 [[.fn 142 [] [.ptr o0 0 0 0, .ptr o1 0 0 0, .ptr o2 0 0 0, .ptr o3 0 0 0]]])), Am.Spec Tryz.prog gl 142 [.agg [.int .i64 a0.rule, .int .i64 a0.lex, .sl false 3 40 (rows Yr.cells a0.kids)], .int .i64 a1, .int .i64 a2, .ptr o0 0 0 0, .ptr o1 0 0 0, .ptr o2 0 0 0, .ptr o3 0 0 0] st (fun d st' => d = .agg [.int .i64 r.1.code, .int .i64 r.1.index] ∧ st' = puts st [(o0, (.arr 0 1 0 [[.int .i64 r.2.1]])), (o1, (.arr 0 5 0 [[.sl false 2 40 (rows Yl.cells d5B), .sl false 3 32 (rows Yw.cells i5j), .sl false 10 152 (rows Yi.cells i3v), .sl false 9 144 (rows YT.cells i3Q), .sl false 2 32 (rows Yq.cells i5k)]])), (o2, (.arr 0 1 0 [[.int .i64 r.2.2]])), (o3, (.arr 0 1 0 [[.fn 142 [] [.ptr o0 0 0 0, .ptr o1 0 0 0, .ptr o2 0 0 0, .ptr o3 0 0 0]]]))]) := by
 intro n
 induction n with
 | zero => intro a0 a1 a2 d0m d5B i5j i3v i3Q i5k i3R r h; cases h
 | succ n ih =>
  intro a0 a1 a2 d0m d5B i5j i3v i3Q i5k i3R r h st o0 o1 o2 o3 hnd d7g i1p i6u p3t
  unfold d2k at h
  have ho0 := d2c d7g
  have ho1 := d2c i1p
  have ho2 := d2c i6u
  have ho3 := d2c p3t
  have fx := fa (fa (fa (fa (idf ho0) (idf ho1)) (idf ho2)) (idf ho3)) (nd4 hnd)
  refine fb 118 [.cell 10 41] [0, 1, 2, 3, 4, 5, 6, 7, 10, 11, 12, 14, 15, 21, 25, 26, 30, 35, 36, 37, 38, 39, 40, 43, 44, 45, 46, 47, 48, 49, 50, 51, 52, 53, 54, 55, 56, 57, 58, 62, 67, 68, 69, 73, 88, 94, 96, 100, 101, 102, 103, 114] Tryz.func142 fun hsc => ?_
  refine i0b (s' := (d2n st [(o0, (.arr 0 1 0 [[.int .i64 d0m]])), (o1, (.arr 0 5 0 [[.sl false 2 40 (rows Yl.cells d5B), .sl false 3 32 (rows Yw.cells i5j), .sl false 10 152 (rows Yi.cells i3v), .sl false 9 144 (rows YT.cells i3Q), .sl false 2 32 (rows Yq.cells i5k)]])), (o2, (.arr 0 1 0 [[.int .i64 i3R]])), (o3, (.arr 0 1 0 [[.fn 142 [] [.ptr o0 0 0 0, .ptr o1 0 0 0, .ptr o2 0 0 0, .ptr o3 0 0 0]]]))])) (d0t (by simp [d7g, i1p, i6u, p3t])) ?_
  refine cd h (fun hc h => ?_) fun hc h => ?_
  ·refine cl h (d4M _ _) fun v1 h => ?_
   refine rr ?_
   exact fuo (.agg [.int .i64 v1.code, .int .i64 v1.index]) (.same _) h hsc
  ·refine cd h (fun hc h => ?_) fun hc h => ?_
   ·refine cl h (d4M _ _) fun v2 h => ?_
    refine rr ?_
    exact fuo (.agg [.int .i64 v2.code, .int .i64 v2.index]) (.same _) h hsc
   ·refine cd h (fun hc h => ?_) fun hc h => ?_
    ·refine cl h (d4M _ _) fun v3 h => ?_
     refine rr ?_
     exact fuo (.agg [.int .i64 v3.code, .int .i64 v3.index]) (.same _) h hsc
    ·refine rn ?_
     refine d6o (d4K (d2k n) a0 d0m a1 d5B i5j i3v i3Q i5k a2) r (fun (gj0 : Unit) (j0 : Int × Int) => [(1, .int .i64 a1), (2, .int .i64 a2), (6, .ptr o3 0 0 0), (7, .ptr st.length 0 0 0), (10, .ptr (st.length + 1) 0 0 0), (11, .int .i64 d0m), (12, .int .i64 j0.2)]) (fun (gj0 : Unit) (j0 : Int × Int) => (d2n st [(o0, (.arr 0 1 0 [[.int .i64 (wr .i64 (d0m + 1))]])), (o1, (.arr 0 5 0 [[.sl false 2 40 (rows Yl.cells d5B), .sl false 3 32 (rows Yw.cells i5j), .sl false 10 152 (rows Yi.cells i3v), .sl false 9 144 (rows YT.cells i3Q), .sl false 2 32 (rows Yq.cells i5k)]])), (o2, (.arr 0 1 0 [[.int .i64 j0.1]])), (o3, (.arr 0 1 0 [[.fn 142 [] [.ptr o0 0 0 0, .ptr o1 0 0 0, .ptr o2 0 0 0, .ptr o3 0 0 0]]]))]) ++ [some (.arr 0 3 0 [[.int .i64 a0.rule, .int .i64 a0.lex, .sl false 3 40 (rows Yr.cells a0.kids)]]), some (.arr 0 2 0 [[.int .i64 0, .int .i64 0]])]) (fun gj0 j0 fr1 st1 h hb => ?_) (fun hj0 => ?_)
     ·try simp only [go_sem, fx]
      unfold d4K at h
      refine d1F hb ?_
      refine cd h (fun hc h => ?_) fun hc h => ?_
      ·refine cl h (d4M _ _) fun v6 h => ?_
       refine rr ?_
       exact fuo (.agg [.int .i64 v6.code, .int .i64 v6.index]) (.same _) h hsc
      ·refine rn ?_
       refine d6o (d3O (d2k n) d0m j0 a0 a1 d5B i5j i3v i3Q i5k) r (fun (gj1 : Unit) (j1 : Int) => [(1, .int .i64 a1), (2, .int .i64 j1), (6, .ptr o3 0 0 0), (7, .ptr st.length 0 0 0), (10, .ptr (st.length + 1) 0 0 0), (11, .int .i64 d0m)]) (fun (gj1 : Unit) (j1 : Int) => (d2n st [(o0, (.arr 0 1 0 [[.int .i64 (wr .i64 (d0m + 1))]])), (o1, (.arr 0 5 0 [[.sl false 2 40 (rows Yl.cells d5B), .sl false 3 32 (rows Yw.cells i5j), .sl false 10 152 (rows Yi.cells i3v), .sl false 9 144 (rows YT.cells i3Q), .sl false 2 32 (rows Yq.cells i5k)]])), (o2, (.arr 0 1 0 [[.int .i64 j0.1]])), (o3, (.arr 0 1 0 [[.fn 142 [] [.ptr o0 0 0 0, .ptr o1 0 0 0, .ptr o2 0 0 0, .ptr o3 0 0 0]]]))]) ++ [some (.arr 0 3 0 [[.int .i64 a0.rule, .int .i64 a0.lex, .sl false 3 40 (rows Yr.cells a0.kids)]]), some (.arr 0 2 0 [[.int .i64 0, .int .i64 0]])]) (fun gj1 j1 fr1 st1 h hb => ?_) (fun hj1 => ?_)
       ·try simp only [go_sem, fx]
        unfold d3O at h
        refine d1F hb ?_
        refine cd h (fun hc h => ?_) fun hc h => ?_
        ·refine cl h (d4M _ _) fun v7 h => ?_
         refine rr ?_
         exact fuo (.agg [.int .i64 v7.code, .int .i64 v7.index]) (.same _) h hsc
        ·refine aln 100 fun hl2 => ?_
         refine rng (body := d5P (d2k n) a0 a1 j1 d5B i5j i3v i3Q i5k) (kk := d7e) (n := a0.kids.length) (s0 := ((wr .i64 (d0m + 1)), j0.1))
          (fun (gs2 : Unit) (k2 : Nat) (s2 : Int × Int) => [(1, .int .i64 a1), (2, .int .i64 j1), (6, .ptr o3 0 0 0), (10, .ptr (st.length + 1) 0 0 0), (100, .sl false 3 40 (rows Yr.cells a0.kids)), (101, .int .i64 (↑a0.kids.length : Int)), (102, .int .i64 (↑k2 : Int))])
          (fun (gs2 : Unit) (k2 : Nat) (s2 : Int × Int) => (d2n st [(o0, (.arr 0 1 0 [[.int .i64 s2.1]])), (o1, (.arr 0 5 0 [[.sl false 2 40 (rows Yl.cells d5B), .sl false 3 32 (rows Yw.cells i5j), .sl false 10 152 (rows Yi.cells i3v), .sl false 9 144 (rows YT.cells i3Q), .sl false 2 32 (rows Yq.cells i5k)]])), (o2, (.arr 0 1 0 [[.int .i64 s2.2]])), (o3, (.arr 0 1 0 [[.fn 142 [] [.ptr o0 0 0 0, .ptr o1 0 0 0, .ptr o2 0 0 0, .ptr o3 0 0 0]]]))]) ++ [none, some (.arr 0 2 0 [[.int .i64 0, .int .i64 0]])])
          (fun (gt2 : Unit) (t2 : Int × Int) => [(10, .ptr (st.length + 1) 0 0 0)])
          (fun (gt2 : Unit) (t2 : Int × Int) => (d2n st [(o0, (.arr 0 1 0 [[.int .i64 t2.1]])), (o1, (.arr 0 5 0 [[.sl false 2 40 (rows Yl.cells d5B), .sl false 3 32 (rows Yw.cells i5j), .sl false 10 152 (rows Yi.cells i3v), .sl false 9 144 (rows YT.cells i3Q), .sl false 2 32 (rows Yq.cells i5k)]])), (o2, (.arr 0 1 0 [[.int .i64 t2.2]])), (o3, (.arr 0 1 0 [[.fn 142 [] [.ptr o0 0 0 0, .ptr o1 0 0 0, .ptr o2 0 0 0, .ptr o3 0 0 0]]]))]) ++ [none, some (.arr 0 2 0 [[.int .i64 0, .int .i64 0]])])
          () fx hl2 h (bu hsc)
          (fun gs2 k2 s2 b2 fx h hx2 => ?_) (fun gs2 s2 => ?_) (fun gt2 t2 fr1 st1 h hb => ?_)
         ·unfold d5P at h
          refine ct ?_
          refine rn ?_
          obtain ⟨v9, hv9, h⟩ := Zg h
          refine (ih _ _ _ _ _ _ _ _ _ _ _ hv9 _ _ _ _ _ hnd (by simp only [go_sem, fx]) (by simp only [go_sem, fx]) (by simp only [go_sem, fx]) (by simp only [go_sem, fx])).mono ?_
          rintro d1 st1 ⟨rfl, rfl⟩
          refine cd h (fun hc h => ?_) fun hc h => ?_
          ·refine ra ?_
           cases h
           refine Za ?_; have h := congrArg some (hx2 _ rfl)
           refine rr ?_
           exact fuo (.agg [.int .i64 v9.1.code, .int .i64 v9.1.index]) (.same _) h hsc
          ·refine rn ?_
           cases h
           exact d6b () (bu hsc)
         ·refine cf ?_
          refine d5I ?_; simp only [go_sem, fx]
          exact ⟨(), (bu hsc)⟩
         ·try simp only [go_sem, fx]
          unfold d7e at h
          refine d1F hb ?_
          refine rr ?_
          exact fuo (.agg [.int .i64 0, .int .i64 0]) (.same _) h hsc
       ·refine cd h (fun hc h => ?_) fun hc h => ?_
        ·refine r0 ?_
         refine hj1 () _ _ _ h ?_; exact (bu hsc)
        ·refine r0 ?_
         refine hj1 () _ _ _ h ?_; exact (bu hsc)
     ·refine cd h (fun hc h => ?_) fun hc h => ?_
      ·obtain ⟨fx, h⟩ := ck fx h
       refine r0 ?_
       refine hj0 () _ _ _ h ?_; exact (bu hsc)
      ·refine r0 ?_
       refine hj0 () _ _ _ h ?_; exact (bu hsc)
theorem i2v (n : Nat) (a0 : Yn) (a1 : Yr) (r : Yg) (h : d7U n a0 a1 = some r) : Pure Tryz.prog gl 80 [.agg [.sl false 2 40 (rows Yl.cells a0.hierarchy.types), .sl false 3 32 (rows Yw.cells a0.hierarchy.YL), .sl false 10 152 (rows Yi.cells a0.rules), .sl false 9 144 (rows YT.cells a0.Yy), .sl false 2 32 (rows Yq.cells a0.start.nodes)], .agg [.int .i64 a1.rule, .int .i64 a1.lex, .sl false 3 40 (rows Yr.cells a1.kids)]] (.agg [.int .i64 r.code, .int .i64 r.index]) := by
 intro st
 unfold d7U at h
 have fx := trivial
 refine fb 21 [.cell 4 41] [0, 1, 2, 3, 4, 5, 6, 7, 8, 15, 18] Tryz.func80 fun hsc => ?_
 refine rn ?_
 obtain ⟨v1, hv1, h⟩ := Zg h
 refine (i5K n _ _ _ _ _ _ _ _ _ _ _ hv1 _ _ _ _ _ (by simp) (d2H.trans rfl) (i4u.trans rfl) (d2H.trans rfl) (d2H.trans rfl)).mono ?_
 rintro d1 st1 ⟨rfl, rfl⟩
 refine cd h (fun hc h => ?_) fun hc h => ?_
 ·exact rt
 ·refine cd h (fun hc h => ?_) fun hc h => ?_
  ·refine cl h (d4M _ _) fun v2 h => ?_
   exact rt
  ·exact rt
theorem i5L : ∀ (n : Nat) (a0 : Yr) (l1 : (List Int)) (l2 : (List Int)) (r : (List Int) × (List Int)) (h : d6m n a0 l1 l2 = some r), ∀ (st : St) (o0 o1 o2 o3 q1 q2 : Nat) (hnd : [o0, o1, o2, o3].Nodup) (d7g : Am.look st o0 = some (.arr 0 2 0 [[.ref true o1 q1 0 l1.length, .ref true o2 q2 0 l2.length]])) (i1p : Am.look st o1 = some (.arr q1 1 8 (rows Zj l1))) (i6u : Am.look st o2 = some (.arr q2 1 8 (rows Zj l2))) (p3t : Am.look st o3 = some (.arr 0 1 0 [[.fn 79 [] [.ptr o0 0 0 0, .ptr o3 0 0 0]]])), Am.Spec Tryz.prog gl 79 [.agg [.int .i64 a0.rule, .int .i64 a0.lex, .sl false 3 40 (rows Yr.cells a0.kids)], .ptr o0 0 0 0, .ptr o3 0 0 0] st (fun d st' => d = .tup [] ∧ st' = puts st [(o0, (.arr 0 2 0 [[.ref true o1 q1 0 r.1.length, .ref true o2 q2 0 r.2.length]])), (o1, (.arr q1 1 8 (rows Zj r.1))), (o2, (.arr q2 1 8 (rows Zj r.2))), (o3, (.arr 0 1 0 [[.fn 79 [] [.ptr o0 0 0 0, .ptr o3 0 0 0]]]))]) := by
 intro n
 induction n with
 | zero => intro a0 l1 l2 r h; cases h
 | succ n ih =>
  intro a0 l1 l2 r h st o0 o1 o2 o3 q1 q2 hnd d7g i1p i6u p3t
  unfold d6m at h
  have ho0 := d2c d7g
  have ho1 := d2c i1p
  have ho2 := d2c i6u
  have ho3 := d2c p3t
  have fx := fa (fa (fa (fa (idf ho0) (idf ho1)) (idf ho2)) (idf ho3)) (nd4 hnd)
  refine fb 36 [] [0, 1, 2, 3, 5, 8, 26, 27, 28, 29] Tryz.func79 fun hsc => ?_
  refine i0b (s' := (d2n st [(o0, (.arr 0 2 0 [[.ref true o1 q1 0 l1.length, .ref true o2 q2 0 l2.length]])), (o1, (.arr q1 1 8 (rows Zj l1))), (o2, (.arr q2 1 8 (rows Zj l2))), (o3, (.arr 0 1 0 [[.fn 79 [] [.ptr o0 0 0 0, .ptr o3 0 0 0]]]))])) (d0t (by simp [d7g, i1p, i6u, p3t])) ?_
  refine rn ?_
  refine d6o (d7f (d6m n) a0) r (fun (gj0 : Unit) (j0 : (List Int) × (List Int)) => [(2, .ptr o3 0 0 0), (3, .ptr st.length 0 0 0)]) (fun (gj0 : Unit) (j0 : (List Int) × (List Int)) => (d2n st [(o0, (.arr 0 2 0 [[.ref true o1 q1 0 j0.1.length, .ref true o2 q2 0 j0.2.length]])), (o1, (.arr q1 1 8 (rows Zj j0.1))), (o2, (.arr q2 1 8 (rows Zj j0.2))), (o3, (.arr 0 1 0 [[.fn 79 [] [.ptr o0 0 0 0, .ptr o3 0 0 0]]]))]) ++ [some (.arr 0 3 0 [[.int .i64 a0.rule, .int .i64 a0.lex, .sl false 3 40 (rows Yr.cells a0.kids)]])]) (fun gj0 j0 fr1 st1 h hb => ?_) (fun hj0 => ?_)
  ·try simp only [go_sem, fx]
   unfold d7f at h
   refine d1F hb ?_
   refine aln 26 fun hl1 => ?_
   refine rng (body := d9a (d6m n) a0) (kk := d9b) (n := a0.kids.length) (s0 := (j0.1, j0.2))
    (fun (gs1 : Unit) (k1 : Nat) (s1 : (List Int) × (List Int)) => [(2, .ptr o3 0 0 0), (26, .sl false 3 40 (rows Yr.cells a0.kids)), (27, .int .i64 (↑a0.kids.length : Int)), (28, .int .i64 (↑k1 : Int))])
    (fun (gs1 : Unit) (k1 : Nat) (s1 : (List Int) × (List Int)) => (d2n st [(o0, (.arr 0 2 0 [[.ref true o1 q1 0 s1.1.length, .ref true o2 q2 0 s1.2.length]])), (o1, (.arr q1 1 8 (rows Zj s1.1))), (o2, (.arr q2 1 8 (rows Zj s1.2))), (o3, (.arr 0 1 0 [[.fn 79 [] [.ptr o0 0 0 0, .ptr o3 0 0 0]]]))]))
    (fun (gt1 : Unit) (t1 : (List Int) × (List Int)) => [])
    (fun (gt1 : Unit) (t1 : (List Int) × (List Int)) => (d2n st [(o0, (.arr 0 2 0 [[.ref true o1 q1 0 t1.1.length, .ref true o2 q2 0 t1.2.length]])), (o1, (.arr q1 1 8 (rows Zj t1.1))), (o2, (.arr q2 1 8 (rows Zj t1.2))), (o3, (.arr 0 1 0 [[.fn 79 [] [.ptr o0 0 0 0, .ptr o3 0 0 0]]]))]))
    () fx hl1 h (bu0 hsc)
    (fun gs1 k1 s1 b1 fx h hx1 => ?_) (fun gs1 s1 => ?_) (fun gt1 t1 fr1 st1 h hb => ?_)
   ·unfold d9a at h
    refine ct ?_
    refine rn ?_
    obtain ⟨v20, hv20, h⟩ := Zg h
    refine (ih _ _ _ _ hv20 _ _ _ _ _ q1 q2 hnd (by simp only [go_sem, fx]) (by simp only [go_sem, fx]) (by simp only [go_sem, fx]) (by simp only [go_sem, fx])).mono ?_
    rintro d1 st1 ⟨rfl, rfl⟩
    refine rn ?_
    cases h
    exact d6b () (bu0 hsc)
   ·refine cf ?_
    refine d5I ?_; simp only [go_sem, fx]
    exact ⟨(), (r0N hsc)⟩
   ·try simp only [go_sem, fx]
    unfold d9b at h
    refine p4l hb ?_
    refine rr ?_
    exact fus (.tup []) (.same _) h hsc
  ·refine cd h (fun hc h => ?_) fun hc h => ?_
   ·obtain ⟨fx, h⟩ := ck fx h
    have fy := (show (rows Zj l2).getD a0.lex.toNat [] = Zj (get l2 a0.lex.toNat) from d9f (E := Zj) (l := l2) (k := a0.lex.toNat) (by first | omega | (simp; omega)))
    have fy := fa fy (show a0.lex.toNat < l2.length from by first | omega | (simp; omega))
    have fy := fa fy (show (rows Zj l2).getD a0.lex.toNat [] = Zj (get l2 a0.lex.toNat) from d9f (E := Zj) (l := l2) (k := a0.lex.toNat) (by first | omega | (simp; omega)))
    have fy := fa fy (show a0.lex.toNat < l2.length from by first | omega | (simp; omega))
    obtain ⟨c7, hc7, h⟩ := i1k h
    have fy := fa fy (show (rows Zj l2).set a0.lex.toNat [.int .i64 (wr .i64 ((get l2 a0.lex.toNat) + 1))] = rows Zj c7 from by rw [hc7]; first | exact i7L (E := Zj) _ _ _ | simp only [go_sem, rows, List.map_set])
    refine r1 ?_
    have e9 : D.ref true o2 q2 0 l2.length = D.ref true o2 q2 0 c7.length := by simp [hc7]
    simp only [e9]
    refine hj0 () _ _ _ h ?_; exact (bu hsc)
   ·obtain ⟨fx, h⟩ := ck fx h
    have fy := (show (rows Zj l1).getD a0.rule.toNat [] = Zj (get l1 a0.rule.toNat) from d9f (E := Zj) (l := l1) (k := a0.rule.toNat) (by first | omega | (simp; omega)))
    have fy := fa fy (show a0.rule.toNat < l1.length from by first | omega | (simp; omega))
    have fy := fa fy (show (rows Zj l1).getD a0.rule.toNat [] = Zj (get l1 a0.rule.toNat) from d9f (E := Zj) (l := l1) (k := a0.rule.toNat) (by first | omega | (simp; omega)))
    have fy := fa fy (show a0.rule.toNat < l1.length from by first | omega | (simp; omega))
    obtain ⟨c16, r2b, h⟩ := i1k h
    have fy := fa fy (show (rows Zj l1).set a0.rule.toNat [.int .i64 (wr .i64 ((get l1 a0.rule.toNat) + 1))] = rows Zj c16 from by rw [r2b]; first | exact i7L (E := Zj) _ _ _ | simp only [go_sem, rows, List.map_set])
    refine r1 ?_
    have e18 : D.ref true o1 q1 0 l1.length = D.ref true o1 q1 0 c16.length := by simp [r2b]
    simp only [e18]
    refine hj0 () _ _ _ h ?_; exact (bu hsc)
end Go.Proofs.YtgaeiccgdpnkkaaGreatDoor
