import Derived.Test.YtgaeiccgdpnkkaaGreatDoorWWalk14
set_option linter.unusedVariables false
set_option linter.unusedSimpArgs false
set_option maxHeartbeats 2000000
set_option maxRecDepth 100000
namespace Go.Proofs.YtgaeiccgdpnkkaaGreatDoor
open Go Go.Am
theorem d3M (a0 : Int) (a1 : Int) (r : WM) (h : d2U a0 a1 = some r) : Pure Tryz.prog gl 78 [.int .i64 a0, .int .i64 a1] (.agg [.int .i64 r.code, .int .i64 r.index]) := by
 intro st
 unfold d2U at h
 have fx := trivial
 refine fb 8 [.cell 4 41] [0, 1, 4] Tryz.func78 fun hsc => ?_
 exact rt
theorem d2V (a0 : Int) (a1 : Int) (r : WM) (h : d3u a0 a1 = some r) : Pure Tryz.prog gl 143 [.int .i64 a0, .int .i64 a1] (.agg [.int .i64 r.code, .int .i64 r.index]) := by
 intro st
 unfold d3u at h
 have fx := trivial
 refine fb 8 [.cell 4 41] [0, 1, 4] Tryz.func143 fun hsc => ?_
 exact rt
theorem i3J : ∀ (n : Nat) (a0 : Xn) (a1 : Int) (a2 : Int) (d0F : Int) (d6I : (List WT)) (i3i : (List Xf)) (i1A : (List WQ)) (i1T : (List XE)) (i3j : (List WX)) (i1U : Int) (r : WM × Int × Int) (h : d3v n a0 a1 a2 d0F d6I i3i i1A i1T i3j i1U = some r), ∀ (st : St) (o0 o1 o2 o3 : Nat) (hnd : [o0, o1, o2, o3].Nodup) (d5O : Am.look st o0 = some (.arr 0 1 0 [[.int .i64 d0F]])) (i0G : Am.look st o1 = some (.arr 0 5 0 [[.sl false 2 40 (rows WT.cells d6I), .sl false 3 32 (rows Xf.cells i3i), .sl false 10 152 (rows WQ.cells i1A), .sl false 9 144 (rows XE.cells i1T), .sl false 2 32 (rows WX.cells i3j)]])) (i4t : Am.look st o2 = some (.arr 0 1 0 [[.int .i64 i1U]])) (p1m : Am.look st o3 = some (.arr 0 1 0 [[.fn 142 [] [.ptr o0 0 0 0, .ptr o1 0 0 0, .ptr o2 0 0 0, .ptr o3 0 0 0]]])), Am.Spec Tryz.prog gl 142 [.agg [.int .i64 a0.rule, .int .i64 a0.lex, .sl false 3 40 (rows Xn.cells a0.kids)], .int .i64 a1, .int .i64 a2, .ptr o0 0 0 0, .ptr o1 0 0 0, .ptr o2 0 0 0, .ptr o3 0 0 0] st (fun d st' => d = .agg [.int .i64 r.1.code, .int .i64 r.1.index] ∧ st' = puts st [(o0, (.arr 0 1 0 [[.int .i64 r.2.1]])), (o1, (.arr 0 5 0 [[.sl false 2 40 (rows WT.cells d6I), .sl false 3 32 (rows Xf.cells i3i), .sl false 10 152 (rows WQ.cells i1A), .sl false 9 144 (rows XE.cells i1T), .sl false 2 32 (rows WX.cells i3j)]])), (o2, (.arr 0 1 0 [[.int .i64 r.2.2]])), (o3, (.arr 0 1 0 [[.fn 142 [] [.ptr o0 0 0 0, .ptr o1 0 0 0, .ptr o2 0 0 0, .ptr o3 0 0 0]]]))]) := by
 intro n
 induction n with
 | zero => intro a0 a1 a2 d0F d6I i3i i1A i1T i3j i1U r h; cases h
 | succ n ih =>
  intro a0 a1 a2 d0F d6I i3i i1A i1T i3j i1U r h st o0 o1 o2 o3 hnd d5O i0G i4t p1m
  unfold d3v at h
  have ho0 := d0Q d5O
  have ho1 := d0Q i0G
  have ho2 := d0Q i4t
  have ho3 := d0Q p1m
  have fx := fa (fa (fa (fa (idf ho0) (idf ho1)) (idf ho2)) (idf ho3)) (nd4 hnd)
  refine fb 118 [.cell 10 41] [0, 1, 2, 3, 4, 5, 6, 7, 10, 11, 12, 14, 15, 21, 25, 26, 30, 35, 36, 37, 38, 39, 40, 43, 44, 45, 46, 47, 48, 49, 50, 51, 52, 53, 54, 55, 56, 57, 58, 62, 67, 68, 69, 73, 88, 94, 96, 100, 101, 102, 103, 114] Tryz.func142 fun hsc => ?_
  refine d8B (s' := (d1a st [(o0, (.arr 0 1 0 [[.int .i64 d0F]])), (o1, (.arr 0 5 0 [[.sl false 2 40 (rows WT.cells d6I), .sl false 3 32 (rows Xf.cells i3i), .sl false 10 152 (rows WQ.cells i1A), .sl false 9 144 (rows XE.cells i1T), .sl false 2 32 (rows WX.cells i3j)]])), (o2, (.arr 0 1 0 [[.int .i64 i1U]])), (o3, (.arr 0 1 0 [[.fn 142 [] [.ptr o0 0 0 0, .ptr o1 0 0 0, .ptr o2 0 0 0, .ptr o3 0 0 0]]]))])) (YZ (by simp [d5O, i0G, i4t, p1m])) ?_
  refine cd h (fun hc h => ?_) fun hc h => ?_
  ·refine cl h (d2V _ _) fun v1 h => ?_
   refine rr ?_
   exact fuo (.agg [.int .i64 v1.code, .int .i64 v1.index]) (.same _) h hsc
  ·refine cd h (fun hc h => ?_) fun hc h => ?_
   ·refine cl h (d2V _ _) fun v2 h => ?_
    refine rr ?_
    exact fuo (.agg [.int .i64 v2.code, .int .i64 v2.index]) (.same _) h hsc
   ·refine cd h (fun hc h => ?_) fun hc h => ?_
    ·refine cl h (d2V _ _) fun v3 h => ?_
     refine rr ?_
     exact fuo (.agg [.int .i64 v3.code, .int .i64 v3.index]) (.same _) h hsc
    ·refine rn ?_
     refine d6p (d5p (d3v n) a0 d0F a1 d6I i3i i1A i1T i3j a2) r (fun (gj0 : Unit) (j0 : Int × Int) => [(1, .int .i64 a1), (2, .int .i64 a2), (6, .ptr o3 0 0 0), (7, .ptr st.length 0 0 0), (10, .ptr (st.length + 1) 0 0 0), (11, .int .i64 d0F), (12, .int .i64 j0.2)]) (fun (gj0 : Unit) (j0 : Int × Int) => (d1a st [(o0, (.arr 0 1 0 [[.int .i64 (wr .i64 (d0F + 1))]])), (o1, (.arr 0 5 0 [[.sl false 2 40 (rows WT.cells d6I), .sl false 3 32 (rows Xf.cells i3i), .sl false 10 152 (rows WQ.cells i1A), .sl false 9 144 (rows XE.cells i1T), .sl false 2 32 (rows WX.cells i3j)]])), (o2, (.arr 0 1 0 [[.int .i64 j0.1]])), (o3, (.arr 0 1 0 [[.fn 142 [] [.ptr o0 0 0 0, .ptr o1 0 0 0, .ptr o2 0 0 0, .ptr o3 0 0 0]]]))]) ++ [some (.arr 0 3 0 [[.int .i64 a0.rule, .int .i64 a0.lex, .sl false 3 40 (rows Xn.cells a0.kids)]]), some (.arr 0 2 0 [[.int .i64 0, .int .i64 0]])]) (fun gj0 j0 fr1 st1 h hb => ?_) (fun hj0 => ?_)
     ·try simp only [go_sem, fx]
      unfold d5p at h
      refine d0s hb ?_
      refine cd h (fun hc h => ?_) fun hc h => ?_
      ·refine cl h (d2V _ _) fun v6 h => ?_
       refine rr ?_
       exact fuo (.agg [.int .i64 v6.code, .int .i64 v6.index]) (.same _) h hsc
      ·refine rn ?_
       refine d6p (d5o (d3v n) d0F j0 a0 a1 d6I i3i i1A i1T i3j) r (fun (gj1 : Unit) (j1 : Int) => [(1, .int .i64 a1), (2, .int .i64 j1), (6, .ptr o3 0 0 0), (7, .ptr st.length 0 0 0), (10, .ptr (st.length + 1) 0 0 0), (11, .int .i64 d0F)]) (fun (gj1 : Unit) (j1 : Int) => (d1a st [(o0, (.arr 0 1 0 [[.int .i64 (wr .i64 (d0F + 1))]])), (o1, (.arr 0 5 0 [[.sl false 2 40 (rows WT.cells d6I), .sl false 3 32 (rows Xf.cells i3i), .sl false 10 152 (rows WQ.cells i1A), .sl false 9 144 (rows XE.cells i1T), .sl false 2 32 (rows WX.cells i3j)]])), (o2, (.arr 0 1 0 [[.int .i64 j0.1]])), (o3, (.arr 0 1 0 [[.fn 142 [] [.ptr o0 0 0 0, .ptr o1 0 0 0, .ptr o2 0 0 0, .ptr o3 0 0 0]]]))]) ++ [some (.arr 0 3 0 [[.int .i64 a0.rule, .int .i64 a0.lex, .sl false 3 40 (rows Xn.cells a0.kids)]]), some (.arr 0 2 0 [[.int .i64 0, .int .i64 0]])]) (fun gj1 j1 fr1 st1 h hb => ?_) (fun hj1 => ?_)
       ·try simp only [go_sem, fx]
        unfold d5o at h
        refine d0s hb ?_
        refine cd h (fun hc h => ?_) fun hc h => ?_
        ·refine cl h (d2V _ _) fun v7 h => ?_
         refine rr ?_
         exact fuo (.agg [.int .i64 v7.code, .int .i64 v7.index]) (.same _) h hsc
        ·refine aln 100 fun hl2 => ?_
         refine rng (body := d7i (d3v n) a0 a1 j1 d6I i3i i1A i1T i3j) (kk := d7j) (n := a0.kids.length) (s0 := ((wr .i64 (d0F + 1)), j0.1))
          (fun (gs2 : Unit) (k2 : Nat) (s2 : Int × Int) => [(1, .int .i64 a1), (2, .int .i64 j1), (6, .ptr o3 0 0 0), (10, .ptr (st.length + 1) 0 0 0), (100, .sl false 3 40 (rows Xn.cells a0.kids)), (101, .int .i64 (↑a0.kids.length : Int)), (102, .int .i64 (↑k2 : Int))])
          (fun (gs2 : Unit) (k2 : Nat) (s2 : Int × Int) => (d1a st [(o0, (.arr 0 1 0 [[.int .i64 s2.1]])), (o1, (.arr 0 5 0 [[.sl false 2 40 (rows WT.cells d6I), .sl false 3 32 (rows Xf.cells i3i), .sl false 10 152 (rows WQ.cells i1A), .sl false 9 144 (rows XE.cells i1T), .sl false 2 32 (rows WX.cells i3j)]])), (o2, (.arr 0 1 0 [[.int .i64 s2.2]])), (o3, (.arr 0 1 0 [[.fn 142 [] [.ptr o0 0 0 0, .ptr o1 0 0 0, .ptr o2 0 0 0, .ptr o3 0 0 0]]]))]) ++ [none, some (.arr 0 2 0 [[.int .i64 0, .int .i64 0]])])
          (fun (gt2 : Unit) (t2 : Int × Int) => [(10, .ptr (st.length + 1) 0 0 0)])
          (fun (gt2 : Unit) (t2 : Int × Int) => (d1a st [(o0, (.arr 0 1 0 [[.int .i64 t2.1]])), (o1, (.arr 0 5 0 [[.sl false 2 40 (rows WT.cells d6I), .sl false 3 32 (rows Xf.cells i3i), .sl false 10 152 (rows WQ.cells i1A), .sl false 9 144 (rows XE.cells i1T), .sl false 2 32 (rows WX.cells i3j)]])), (o2, (.arr 0 1 0 [[.int .i64 t2.2]])), (o3, (.arr 0 1 0 [[.fn 142 [] [.ptr o0 0 0 0, .ptr o1 0 0 0, .ptr o2 0 0 0, .ptr o3 0 0 0]]]))]) ++ [none, some (.arr 0 2 0 [[.int .i64 0, .int .i64 0]])])
          () fx hl2 h (bu hsc)
          (fun gs2 k2 s2 b2 fx h hx2 => ?_) (fun gs2 s2 => ?_) (fun gt2 t2 fr1 st1 h hb => ?_)
         ·unfold d7i at h
          refine ct ?_
          refine rn ?_
          obtain ⟨v9, hv9, h⟩ := XT h
          refine (ih _ _ _ _ _ _ _ _ _ _ _ hv9 _ _ _ _ _ hnd (by simp only [go_sem, fx]) (by simp only [go_sem, fx]) (by simp only [go_sem, fx]) (by simp only [go_sem, fx])).mono ?_
          rintro d1 st1 ⟨rfl, rfl⟩
          refine cd h (fun hc h => ?_) fun hc h => ?_
          ·refine ra ?_
           cases h
           refine XI ?_; have h := congrArg some (hx2 _ rfl)
           refine rr ?_
           exact fuo (.agg [.int .i64 v9.1.code, .int .i64 v9.1.index]) (.same _) h hsc
          ·refine rn ?_
           cases h
           exact d4u () (bu hsc)
         ·refine cf ?_
          refine d4b ?_; simp only [go_sem, fx]
          exact ⟨(), (bu hsc)⟩
         ·try simp only [go_sem, fx]
          unfold d7j at h
          refine d0s hb ?_
          refine rr ?_
          exact fuo (.agg [.int .i64 0, .int .i64 0]) (.same _) h hsc
       ·refine cd h (fun hc h => ?_) fun hc h => ?_
        ·refine r0 ?_
         refine hj1 () _ _ _ h ?_; exact (bu hsc)
        ·refine r0 ?_
         refine hj1 () _ _ _ h ?_; exact (bu hsc)
     ·refine cd h (fun hc h => ?_) fun hc h => ?_
      ·obtain ⟨fx, h⟩ := ck fx h
       refine r0 ?_
       refine hj0 () _ _ _ h ?_; exact (bu hsc)
      ·refine r0 ?_
       refine hj0 () _ _ _ h ?_; exact (bu hsc)
theorem i0A (n : Nat) (a0 : Xa) (a1 : Xn) (r : WM) (h : d9e n a0 a1 = some r) : Pure Tryz.prog gl 80 [.agg [.sl false 2 40 (rows WT.cells a0.hierarchy.types), .sl false 3 32 (rows Xf.cells a0.hierarchy.Xw), .sl false 10 152 (rows WQ.cells a0.rules), .sl false 9 144 (rows XE.cells a0.Xj), .sl false 2 32 (rows WX.cells a0.start.nodes)], .agg [.int .i64 a1.rule, .int .i64 a1.lex, .sl false 3 40 (rows Xn.cells a1.kids)]] (.agg [.int .i64 r.code, .int .i64 r.index]) := by
 intro st
 unfold d9e at h
 have fx := trivial
 refine fb 21 [.cell 4 41] [0, 1, 2, 3, 4, 5, 6, 7, 8, 15, 18] Tryz.func80 fun hsc => ?_
 refine rn ?_
 obtain ⟨v1, hv1, h⟩ := XT h
 refine (i3J n _ _ _ _ _ _ _ _ _ _ _ hv1 _ _ _ _ _ (by simp) (d1e.trans rfl) (i2x.trans rfl) (d1e.trans rfl) (d1e.trans rfl)).mono ?_
 rintro d1 st1 ⟨rfl, rfl⟩
 refine cd h (fun hc h => ?_) fun hc h => ?_
 ·exact rt
 ·refine cd h (fun hc h => ?_) fun hc h => ?_
  ·refine cl h (d2V _ _) fun v2 h => ?_
   exact rt
  ·exact rt
theorem i3K : ∀ (n : Nat) (a0 : Xn) (l1 : (List Int)) (l2 : (List Int)) (r : (List Int) × (List Int)) (h : d4s n a0 l1 l2 = some r), ∀ (st : St) (o0 o1 o2 o3 q1 q2 : Nat) (hnd : [o0, o1, o2, o3].Nodup) (d5O : Am.look st o0 = some (.arr 0 2 0 [[.ref true o1 q1 0 l1.length, .ref true o2 q2 0 l2.length]])) (i0G : Am.look st o1 = some (.arr q1 1 8 (rows XM l1))) (i4t : Am.look st o2 = some (.arr q2 1 8 (rows XM l2))) (p1m : Am.look st o3 = some (.arr 0 1 0 [[.fn 79 [] [.ptr o0 0 0 0, .ptr o3 0 0 0]]])), Am.Spec Tryz.prog gl 79 [.agg [.int .i64 a0.rule, .int .i64 a0.lex, .sl false 3 40 (rows Xn.cells a0.kids)], .ptr o0 0 0 0, .ptr o3 0 0 0] st (fun d st' => d = .tup [] ∧ st' = puts st [(o0, (.arr 0 2 0 [[.ref true o1 q1 0 r.1.length, .ref true o2 q2 0 r.2.length]])), (o1, (.arr q1 1 8 (rows XM r.1))), (o2, (.arr q2 1 8 (rows XM r.2))), (o3, (.arr 0 1 0 [[.fn 79 [] [.ptr o0 0 0 0, .ptr o3 0 0 0]]]))]) := by
 intro n
 induction n with
 | zero => intro a0 l1 l2 r h; cases h
 | succ n ih =>
  intro a0 l1 l2 r h st o0 o1 o2 o3 q1 q2 hnd d5O i0G i4t p1m
  unfold d4s at h
  have ho0 := d0Q d5O
  have ho1 := d0Q i0G
  have ho2 := d0Q i4t
  have ho3 := d0Q p1m
  have fx := fa (fa (fa (fa (idf ho0) (idf ho1)) (idf ho2)) (idf ho3)) (nd4 hnd)
  refine fb 36 [] [0, 1, 2, 3, 5, 8, 26, 27, 28, 29] Tryz.func79 fun hsc => ?_
  refine d8B (s' := (d1a st [(o0, (.arr 0 2 0 [[.ref true o1 q1 0 l1.length, .ref true o2 q2 0 l2.length]])), (o1, (.arr q1 1 8 (rows XM l1))), (o2, (.arr q2 1 8 (rows XM l2))), (o3, (.arr 0 1 0 [[.fn 79 [] [.ptr o0 0 0 0, .ptr o3 0 0 0]]]))])) (YZ (by simp [d5O, i0G, i4t, p1m])) ?_
  refine rn ?_
  refine d6p (d5q (d4s n) a0) r (fun (gj0 : Unit) (j0 : (List Int) × (List Int)) => [(2, .ptr o3 0 0 0), (3, .ptr st.length 0 0 0)]) (fun (gj0 : Unit) (j0 : (List Int) × (List Int)) => (d1a st [(o0, (.arr 0 2 0 [[.ref true o1 q1 0 j0.1.length, .ref true o2 q2 0 j0.2.length]])), (o1, (.arr q1 1 8 (rows XM j0.1))), (o2, (.arr q2 1 8 (rows XM j0.2))), (o3, (.arr 0 1 0 [[.fn 79 [] [.ptr o0 0 0 0, .ptr o3 0 0 0]]]))]) ++ [some (.arr 0 3 0 [[.int .i64 a0.rule, .int .i64 a0.lex, .sl false 3 40 (rows Xn.cells a0.kids)]])]) (fun gj0 j0 fr1 st1 h hb => ?_) (fun hj0 => ?_)
  ·try simp only [go_sem, fx]
   unfold d5q at h
   refine d0s hb ?_
   refine aln 26 fun hl1 => ?_
   refine rng (body := d7k (d4s n) a0) (kk := d7l) (n := a0.kids.length) (s0 := (j0.1, j0.2))
    (fun (gs1 : Unit) (k1 : Nat) (s1 : (List Int) × (List Int)) => [(2, .ptr o3 0 0 0), (26, .sl false 3 40 (rows Xn.cells a0.kids)), (27, .int .i64 (↑a0.kids.length : Int)), (28, .int .i64 (↑k1 : Int))])
    (fun (gs1 : Unit) (k1 : Nat) (s1 : (List Int) × (List Int)) => (d1a st [(o0, (.arr 0 2 0 [[.ref true o1 q1 0 s1.1.length, .ref true o2 q2 0 s1.2.length]])), (o1, (.arr q1 1 8 (rows XM s1.1))), (o2, (.arr q2 1 8 (rows XM s1.2))), (o3, (.arr 0 1 0 [[.fn 79 [] [.ptr o0 0 0 0, .ptr o3 0 0 0]]]))]))
    (fun (gt1 : Unit) (t1 : (List Int) × (List Int)) => [])
    (fun (gt1 : Unit) (t1 : (List Int) × (List Int)) => (d1a st [(o0, (.arr 0 2 0 [[.ref true o1 q1 0 t1.1.length, .ref true o2 q2 0 t1.2.length]])), (o1, (.arr q1 1 8 (rows XM t1.1))), (o2, (.arr q2 1 8 (rows XM t1.2))), (o3, (.arr 0 1 0 [[.fn 79 [] [.ptr o0 0 0 0, .ptr o3 0 0 0]]]))]))
    () fx hl1 h (bu0 hsc)
    (fun gs1 k1 s1 b1 fx h hx1 => ?_) (fun gs1 s1 => ?_) (fun gt1 t1 fr1 st1 h hb => ?_)
   ·unfold d7k at h
    refine ct ?_
    refine rn ?_
    obtain ⟨v20, hv20, h⟩ := XT h
    refine (ih _ _ _ _ hv20 _ _ _ _ _ q1 q2 hnd (by simp only [go_sem, fx]) (by simp only [go_sem, fx]) (by simp only [go_sem, fx]) (by simp only [go_sem, fx])).mono ?_
    rintro d1 st1 ⟨rfl, rfl⟩
    refine rn ?_
    cases h
    exact d4u () (bu0 hsc)
   ·refine cf ?_
    refine d4b ?_; simp only [go_sem, fx]
    exact ⟨(), (p8u hsc)⟩
   ·try simp only [go_sem, fx]
    unfold d7l at h
    refine p2d hb ?_
    refine rr ?_
    exact fus (.tup []) (.same _) h hsc
  ·refine cd h (fun hc h => ?_) fun hc h => ?_
   ·obtain ⟨fx, h⟩ := ck fx h
    have fy := (show (rows XM l2).getD a0.lex.toNat [] = XM (get l2 a0.lex.toNat) from d7q (E := XM) (l := l2) (k := a0.lex.toNat) (by first | omega | (simp; omega)))
    have fy := fa fy (show a0.lex.toNat < l2.length from by first | omega | (simp; omega))
    have fy := fa fy (show (rows XM l2).getD a0.lex.toNat [] = XM (get l2 a0.lex.toNat) from d7q (E := XM) (l := l2) (k := a0.lex.toNat) (by first | omega | (simp; omega)))
    have fy := fa fy (show a0.lex.toNat < l2.length from by first | omega | (simp; omega))
    obtain ⟨c7, hc7, h⟩ := d9t h
    have fy := fa fy (show (rows XM l2).set a0.lex.toNat [.int .i64 (wr .i64 ((get l2 a0.lex.toNat) + 1))] = rows XM c7 from by rw [hc7]; first | exact i5K (E := XM) _ _ _ | simp only [go_sem, rows, List.map_set])
    refine r1 ?_
    have e9 : D.ref true o2 q2 0 l2.length = D.ref true o2 q2 0 c7.length := by simp [hc7]
    simp only [e9]
    refine hj0 () _ _ _ h ?_; exact (bu hsc)
   ·obtain ⟨fx, h⟩ := ck fx h
    have fy := (show (rows XM l1).getD a0.rule.toNat [] = XM (get l1 a0.rule.toNat) from d7q (E := XM) (l := l1) (k := a0.rule.toNat) (by first | omega | (simp; omega)))
    have fy := fa fy (show a0.rule.toNat < l1.length from by first | omega | (simp; omega))
    have fy := fa fy (show (rows XM l1).getD a0.rule.toNat [] = XM (get l1 a0.rule.toNat) from d7q (E := XM) (l := l1) (k := a0.rule.toNat) (by first | omega | (simp; omega)))
    have fy := fa fy (show a0.rule.toNat < l1.length from by first | omega | (simp; omega))
    obtain ⟨c16, p9K, h⟩ := d9t h
    have fy := fa fy (show (rows XM l1).set a0.rule.toNat [.int .i64 (wr .i64 ((get l1 a0.rule.toNat) + 1))] = rows XM c16 from by rw [p9K]; first | exact i5K (E := XM) _ _ _ | simp only [go_sem, rows, List.map_set])
    refine r1 ?_
    have e18 : D.ref true o1 q1 0 l1.length = D.ref true o1 q1 0 c16.length := by simp [p9K]
    simp only [e18]
    refine hj0 () _ _ _ h ?_; exact (bu hsc)
end Go.Proofs.YtgaeiccgdpnkkaaGreatDoor
