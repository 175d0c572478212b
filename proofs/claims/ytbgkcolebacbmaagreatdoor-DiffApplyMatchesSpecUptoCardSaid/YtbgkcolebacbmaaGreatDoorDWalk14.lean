import Derived.Test.YtbgkcolebacbmaaGreatDoorDWalk13
set_option linter.unusedVariables false
set_option linter.unusedSimpArgs false
set_option maxHeartbeats 2000000
set_option maxRecDepth 100000
namespace Go.Proofs.YtbgkcolebacbmaaGreatDoor
open Go Go.Am
theorem cS(n:Nat)(a0:w7)(r:w9)(h:K6 n a0=some r):Pure Tryz.prog gl 60 [.agg [.int .i64 a0.kind,.str a0.name,.int .i64 a0.index,.str a0.type.base,.sl false 2 40 (rows u0.cells a0.type.args),.sl false 6 96 (rows w7.cells a0.args)]] (.agg [.int .i64 r.code,.int .i64 r.index]):=by
 intro st
 unfold K6 at h
 have fx:=trivial
 refine fb 5 [.cell 2 41] [0,1,2] Tryz.func60 fun hsc=>?_
 refine cl h (lA n _) fun v1 h=>?_
 exact rt
theorem lB(n:Nat)(a0:w5)(a1:w4)(r:Int)(h:S8 n a0 a1=some r):Pure Tryz.prog gl 21 [.agg [.sl false 2 40 (rows w6.cells a0.types),.sl false 3 32 (rows y3.cells a0.B5)],.agg [.str a1.name,.sl false 2 32 (rows w8.cells a1.graph.nodes),.int .i64 a1.kids,.int .i64 a1.weight,.int .i64 a1.meaning.kind,.str a1.meaning.name,.int .i64 a1.meaning.index,.str a1.meaning.type.base,.sl false 2 40 (rows u0.cells a1.meaning.type.args),.sl false 6 96 (rows w7.cells a1.meaning.args)]] (.int .i64 r):=by
 intro st
 unfold S8 at h
 have fx:=trivial
 refine fb 52 [.tmp 4] [0,1,2,3,4,5,6,11,12,13,16,17,18,21,22,23,24,31,34,35,46] Tryz.func21 fun hsc=>?_
 refine cd h (fun hc h=>?_) fun hc h=>?_
 ·exact rt
 ·refine cl h (Z4 n _ _) fun v1 h=>?_
  refine cd h (fun hc h=>?_) fun hc h=>?_
  ·exact rt
  ·refine rn ?_
   refine rng (body:=G4 a1) (kk:=V9 n a1) (n:=4) (s0:=())
    (fun(gs0:Unit) (k0:Nat) (s0:Unit)=>[(3,.ptr (st.length+1) 0 0 0),(34,.int .i64 (↑k0:Int))])
    (fun(gs0:Unit) (k0:Nat) (s0:Unit)=>st++[none,some (.arr 0 10 0 [[.str a1.name,.sl false 2 32 (rows w8.cells a1.graph.nodes),.int .i64 a1.kids,.int .i64 a1.weight,.int .i64 a1.meaning.kind,.str a1.meaning.name,.int .i64 a1.meaning.index,.str a1.meaning.type.base,.sl false 2 40 (rows u0.cells a1.meaning.type.args),.sl false 6 96 (rows w7.cells a1.meaning.args)]])])
    (fun(gt0:Unit) (t0:Unit)=>[(3,.ptr (st.length+1) 0 0 0)])
    (fun(gt0:Unit) (t0:Unit)=>st++[none,some (.arr 0 10 0 [[.str a1.name,.sl false 2 32 (rows w8.cells a1.graph.nodes),.int .i64 a1.kids,.int .i64 a1.weight,.int .i64 a1.meaning.kind,.str a1.meaning.name,.int .i64 a1.meaning.index,.str a1.meaning.type.base,.sl false 2 40 (rows u0.cells a1.meaning.type.args),.sl false 6 96 (rows w7.cells a1.meaning.args)]])])
    () fx (by decide) h (bm hsc)
    (fun gs0 k0 s0 b0 fx h hx0=>?_) (fun gs0 s0=>?_) (fun gt0 t0 fr1 st1 h hb=>?_)
   ·unfold G4 at h
    have fx:=fa fx (show(↑k0:Int)<4 by omega)
    refine ct ?_
    refine rn ?_
    refine dw [] 0 ?_
    obtain⟨v2,hv2,h⟩:=E6 h
    refine B3 (nj _ _ _ _ hv2) ?_
    try simp only[go_sem,fx]
    refine cd h (fun hc h=>?_) fun hc h=>?_
    ·refine ra ?_
     cases h
     refine D6 ?_;have h:=congrArg some (hx0 _ rfl)
     exact rt
    ·refine rn ?_
     cases h
     exact aX () (bm hsc)
   ·refine cf ?_
    refine Z6 ?_;simp only[go_sem,fx]
    exact⟨(),(bm hsc)⟩
   ·try simp only[go_sem,fx]
    unfold V9 at h
    refine K1 hb ?_
    refine cl h (cS n _) fun v3 h=>?_
    exact rt
theorem kg(n:Nat)(a0:Bs)(r:Int)(h:R2 n a0=some r):Pure Tryz.prog gl 91 [.str a0] (.int .i64 r):=by
 intro st
 unfold R2 at h
 have fx:=trivial
 refine fb 86 [.tmp 2] [0,2,3,4,5,6,7,10,13,17,18,23,27,28,33,37,38,46,49,57,58,59,60,61,74,75,78,79,80,81,82,83,84] Tryz.func91 fun hsc=>?_
 obtain⟨fx,h⟩:=ck fx h
 refine cd h (fun hc h=>?_) fun hc h=>?_
 ·exact rt
 ·refine rn ?_
  refine jP (E3 n a0) r (fun(gj0:Unit) (j0:Int×Int×Int)=>[(0,.str a0),(4,.int .i64 j0.1),(5,.int .i64 j0.2.1),(6,.int .i64 j0.2.2)]) (fun(gj0:Unit) (j0:Int×Int×Int)=>st) (fun gj0 j0 fr1 st1 h hb=>?_) (fun hj0=>?_)
  ·try simp only[go_sem,fx]
   unfold E3 at h
   refine K1 hb ?_
   refine cd h (fun hc h=>?_) fun hc h=>?_
   ·exact rt
   ·refine rn ?_
    refine F1 (body:=D9 j0 a0) (kk:=U3 j0) (n:=n) (s0:=(j0.2.2,1))
     (fun(gs1:Unit) (s1:Int×Int)=>[(0,.str a0),(4,.int .i64 j0.1),(5,.int .i64 j0.2.1),(6,.int .i64 s1.1),(7,.int .i64 s1.2)])
     (fun(gs1:Unit) (s1:Int×Int)=>st)
     (fun(gt1:Unit) (t1:Int)=>[(4,.int .i64 j0.1),(5,.int .i64 j0.2.1),(6,.int .i64 t1)])
     (fun(gt1:Unit) (t1:Int)=>st)
     () h (bX hsc)
     (fun gs1 s1 b1 h hx1=>?_) (fun gt1 t1 fr1 st1 h hb=>?_)
    ·unfold D9 at h
     refine cd h (fun hc h=>?_) fun hc h=>?_
     ·obtain⟨fx,h⟩:=ck fx h
      refine cd h (fun hc h=>?_) fun hc h=>?_
      ·refine ra ?_
       cases h
       refine cX ?_;have h:=congrArg some (hx1 _ rfl)
       exact rt
      ·refine rn ?_
       cases h
       exact G0 () (bX hsc)
     ·refine rn ?_
      cases h
      exact P0 () (bX hsc)
    ·try simp only[go_sem,fx]
     unfold U3 at h
     refine K1 hb ?_
     refine cd h (fun hc h=>?_) fun hc h=>?_
     ·exact rt
     ·exact rt
  ·refine cd h (fun hc h=>?_) fun hc h=>?_
   ·refine r0 ?_
    refine hj0 () _ _ _ h ?_;exact(bX hsc)
   ·refine cd h (fun hc h=>?_) fun hc h=>?_
    ·refine r0 ?_
     refine hj0 () _ _ _ h ?_;exact(bX hsc)
    ·refine cd h (fun hc h=>?_) fun hc h=>?_
     ·refine r0 ?_
      refine hj0 () _ _ _ h ?_;exact(bX hsc)
     ·exact rt
theorem ou(n:Nat)(a0:Bs)(r:Bool)(h:aR n a0=some r):Pure Tryz.prog gl 61 [.str a0] (.bool r):=by
 intro st
 unfold aR at h
 have fx:=trivial
 refine fb 68 [.tmp 2] [0,2,3,5,6,7,9,10,11,18,19,22,23,26,27,30,31,34,35,38,39,42,43,46,47,48,52,53,54,58,64] Tryz.func61 fun hsc=>?_
 refine rn ?_
 refine F1 (body:=bh a0) (kk:=bk n a0) (n:=n) (s0:=(0,0))
  (fun(gs0:Unit) (s0:Nat×Int)=>[(0,.str a0),(3,.int .i64 s0.2),(9,.it st.length)])
  (fun(gs0:Unit) (s0:Nat×Int)=>st++[some (.sit a0 s0.1)])
  (fun(gt0:Unit) (t0:Int)=>[(0,.str a0),(3,.int .i64 t0)])
  (fun(gt0:Unit) (t0:Int)=>st)
  () h (bm hsc)
  (fun gs0 s0 b0 h hx0=>?_) (fun gt0 t0 fr1 st1 h hb=>?_)
 ·unfold bh at h
  refine cd h (fun hc h=>?_) fun hc h=>?_
  ·obtain⟨fx,h⟩:=ck fx h
   refine cd h (fun hc h=>?_) fun hc h=>?_
   ·refine ra ?_
    cases h
    refine cX ?_;have h:=congrArg some (hx0 _ rfl)
    exact rt
   ·refine rn ?_
    cases h
    exact G0 () (bm hsc)
  ·refine rn ?_
   cases h
   exact P0 () (bm0 hsc)
 ·try simp only[go_sem,fx]
  unfold bk at h
  refine K1 hb ?_
  refine cd h (fun hc h=>?_) fun hc h=>?_
  ·exact rt
  ·refine rn ?_
   refine F1 (body:=bn n a0) (kk:=dQ) (n:=n) (s0:=0)
    (fun(gs1:Unit) (s1:Int)=>[(0,.str a0),(6,.int .i64 s1)])
    (fun(gs1:Unit) (s1:Int)=>st)
    (fun(gt1:Unit) (t1:Unit)=>[])
    (fun(gt1:Unit) (t1:Unit)=>st)
    () h (bX hsc)
    (fun gs1 s1 b1 h hx1=>?_) (fun gt1 t1 fr1 st1 h hb=>?_)
   ·unfold bn at h
    refine cd h (fun hc h=>?_) fun hc h=>?_
    ·obtain⟨fx,h⟩:=ck fx h
     refine cl h (kg n _) fun v8 h=>?_
     refine cd h (fun hc h=>?_) fun hc h=>?_
     ·refine ra ?_
      cases h
      refine cX ?_;have h:=congrArg some (hx1 _ rfl)
      exact rt
     ·refine rn ?_
      cases h
      exact G0 () (bX hsc)
    ·refine rn ?_
     cases h
     exact P0 () (bX hsc)
   ·try simp only[go_sem,fx]
    unfold dQ at h
    refine K1 hb ?_
    exact rt
theorem lK(n:Nat)(a0:w5)(a1:x7)(r:Int)(h:W0 n a0 a1=some r):Pure Tryz.prog gl 22 [.agg [.sl false 2 40 (rows w6.cells a0.types),.sl false 3 32 (rows y3.cells a0.B5)],.agg [.str a1.word,.sl false 2 32 (rows w8.cells a1.graph.nodes),.int .i64 a1.weight,.int .i64 a1.meaning.kind,.str a1.meaning.name,.int .i64 a1.meaning.index,.str a1.meaning.type.base,.sl false 2 40 (rows u0.cells a1.meaning.type.args),.sl false 6 96 (rows w7.cells a1.meaning.args)]] (.int .i64 r):=by
 intro st
 unfold W0 at h
 have fx:=trivial
 refine fb 31 [.tmp 4] [0,1,2,3,4,5,9,14,15,16,17,24] Tryz.func22 fun hsc=>?_
 refine cl h (ou n _) fun v1 h=>?_
 refine cd h (fun hc h=>?_) fun hc h=>?_
 ·exact rt
 ·refine cd h (fun hc h=>?_) fun hc h=>?_
  ·exact rt
  ·refine cl h (Z4 n _ _) fun v2 h=>?_
   refine cd h (fun hc h=>?_) fun hc h=>?_
   ·exact rt
   ·refine cl h (cS n _) fun v3 h=>?_
    exact rt
theorem cT(n:Nat)(a0:x6)(r:w9)(h:G5 n a0=some r):Pure Tryz.prog gl 8 [.agg [.sl false 2 40 (rows w6.cells a0.hierarchy.types),.sl false 3 32 (rows y3.cells a0.hierarchy.B5),.sl false 10 152 (rows w4.cells a0.rules),.sl false 9 144 (rows x7.cells a0.y9),.sl false 2 32 (rows w8.cells a0.start.nodes)]] (.agg [.int .i64 r.code,.int .i64 r.index]):=by
 intro st
 unfold G5 at h
 have fx:=trivial
 refine fb 108 [.cell 2 41] [0,1,2,3,4,5,7,8,9,10,11,12,18,24,31,32,33,34,35,38,39,40,41,48,54,55,56,57,64,73,79,80,81,82,91,103] Tryz.func8 fun hsc=>?_
 refine cl h (iG n _) fun v1 h=>?_
 refine cd h (fun hc h=>?_) fun hc h=>?_
 ·exact rt
 ·refine cd h (fun hc h=>?_) fun hc h=>?_
  ·exact rt
  ·refine cd h (fun hc h=>?_) fun hc h=>?_
   ·exact rt
   ·refine aln 38 fun hl0=>?_
    refine rng (body:=P8 n a0) (kk:=Q0 n a0) (n:=a0.rules.length) (s0:=())
     (fun(gs0:Unit) (k0:Nat) (s0:Unit)=>[(1,.ptr st.length 0 0 0),(2,.ptr (st.length+1) 0 0 0),(38,.sl false 10 152 (rows w4.cells a0.rules)),(39,.int .i64 (↑a0.rules.length:Int)),(40,.int .i64 (↑k0:Int))])
     (fun(gs0:Unit) (k0:Nat) (s0:Unit)=>st++[some (.arr 0 5 0 [[.sl false 2 40 (rows w6.cells a0.hierarchy.types),.sl false 3 32 (rows y3.cells a0.hierarchy.B5),.sl false 10 152 (rows w4.cells a0.rules),.sl false 9 144 (rows x7.cells a0.y9),.sl false 2 32 (rows w8.cells a0.start.nodes)]]),some (.arr 0 2 0 [[.int .i64 0,.int .i64 0]])])
     (fun(gt0:Unit) (t0:Unit)=>[(1,.ptr st.length 0 0 0),(2,.ptr (st.length+1) 0 0 0)])
     (fun(gt0:Unit) (t0:Unit)=>st++[some (.arr 0 5 0 [[.sl false 2 40 (rows w6.cells a0.hierarchy.types),.sl false 3 32 (rows y3.cells a0.hierarchy.B5),.sl false 10 152 (rows w4.cells a0.rules),.sl false 9 144 (rows x7.cells a0.y9),.sl false 2 32 (rows w8.cells a0.start.nodes)]]),some (.arr 0 2 0 [[.int .i64 0,.int .i64 0]])])
     () fx hl0 h (bm hsc)
     (fun gs0 k0 s0 b0 fx h hx0=>?_) (fun gs0 s0=>?_) (fun gt0 t0 fr1 st1 h hb=>?_)
    ·unfold P8 at h
     refine ct ?_
     refine cl h (dR _) fun v2 h=>?_
     refine cd h (fun hc h=>?_) fun hc h=>?_
     ·refine ra ?_
      cases h
      refine D6 ?_;have h:=congrArg some (hx0 _ rfl)
      exact rt
     ·obtain⟨fx,h⟩:=ck fx h
      refine aln 54 fun hl1=>?_
      refine rng (body:=L0 a0 k0) (kk:=P9 n a0 k0) (n:=(a0.rules.take k0).length) (s0:=())
       (fun(gs1:Unit) (k1:Nat) (s1:Unit)=>[(1,.ptr st.length 0 0 0),(2,.ptr (st.length+1) 0 0 0),(4,.int .i64 (↑k0:Int)),(5,.ptr (st.length+2) 0 0 0),(38,.sl false 10 152 (rows w4.cells a0.rules)),(39,.int .i64 (↑a0.rules.length:Int)),(40,.int .i64 (↑k0:Int)),(54,.sl false 10 152 (rows w4.cells (a0.rules.take k0))),(55,.int .i64 (↑((a0.rules.take k0).length):Int)),(56,.int .i64 (↑k1:Int))])
       (fun(gs1:Unit) (k1:Nat) (s1:Unit)=>st++[some (.arr 0 5 0 [[.sl false 2 40 (rows w6.cells a0.hierarchy.types),.sl false 3 32 (rows y3.cells a0.hierarchy.B5),.sl false 10 152 (rows w4.cells a0.rules),.sl false 9 144 (rows x7.cells a0.y9),.sl false 2 32 (rows w8.cells a0.start.nodes)]]),some (.arr 0 2 0 [[.int .i64 0,.int .i64 0]]),some (.arr 0 10 0 [[.str ((get a0.rules k0).name),.sl false 2 32 (rows w8.cells ((get a0.rules k0).graph.nodes)),.int .i64 ((get a0.rules k0).kids),.int .i64 ((get a0.rules k0).weight),.int .i64 ((get a0.rules k0).meaning.kind),.str ((get a0.rules k0).meaning.name),.int .i64 ((get a0.rules k0).meaning.index),.str ((get a0.rules k0).meaning.type.base),.sl false 2 40 (rows u0.cells ((get a0.rules k0).meaning.type.args)),.sl false 6 96 (rows w7.cells ((get a0.rules k0).meaning.args))]])])
       (fun(gt1:Unit) (t1:Unit)=>[(1,.ptr st.length 0 0 0),(2,.ptr (st.length+1) 0 0 0),(4,.int .i64 (↑k0:Int)),(5,.ptr (st.length+2) 0 0 0),(38,.sl false 10 152 (rows w4.cells a0.rules)),(39,.int .i64 (↑a0.rules.length:Int)),(40,.int .i64 (↑k0:Int))])
       (fun(gt1:Unit) (t1:Unit)=>st++[some (.arr 0 5 0 [[.sl false 2 40 (rows w6.cells a0.hierarchy.types),.sl false 3 32 (rows y3.cells a0.hierarchy.B5),.sl false 10 152 (rows w4.cells a0.rules),.sl false 9 144 (rows x7.cells a0.y9),.sl false 2 32 (rows w8.cells a0.start.nodes)]]),some (.arr 0 2 0 [[.int .i64 0,.int .i64 0]]),some (.arr 0 10 0 [[.str ((get a0.rules k0).name),.sl false 2 32 (rows w8.cells ((get a0.rules k0).graph.nodes)),.int .i64 ((get a0.rules k0).kids),.int .i64 ((get a0.rules k0).weight),.int .i64 ((get a0.rules k0).meaning.kind),.str ((get a0.rules k0).meaning.name),.int .i64 ((get a0.rules k0).meaning.index),.str ((get a0.rules k0).meaning.type.base),.sl false 2 40 (rows u0.cells ((get a0.rules k0).meaning.type.args)),.sl false 6 96 (rows w7.cells ((get a0.rules k0).meaning.args))]])])
       () fx hl1 h (bm hsc)
       (fun gs1 k1 s1 b1 fx h hx1=>?_) (fun gs1 s1=>?_) (fun gt1 t1 fr1 st1 h hb=>?_)
      ·unfold L0 at h
       refine ct ?_
       refine cd h (fun hc h=>?_) fun hc h=>?_
       ·refine ra ?_
        cases h
        refine D6 ?_;obtain rfl:=hx1 _ rfl;try simp only[go_sem,fx]
        refine D6 ?_;have h:=congrArg some (hx0 _ rfl)
        exact rt
       ·refine rn ?_
        cases h
        exact aX () (bm hsc)
      ·refine cf ?_
       refine Z6 ?_;simp only[go_sem,fx]
       exact⟨(),(bm hsc)⟩
      ·try simp only[go_sem,fx]
       unfold P9 at h
       refine K1 hb ?_
       refine cl h (lB n _ _) fun v5 h=>?_
       refine cd h (fun hc h=>?_) fun hc h=>?_
       ·refine ra ?_
        cases h
        refine D6 ?_;have h:=congrArg some (hx0 _ rfl)
        exact rt
       ·refine rn ?_
        cases h
        exact aX () (bm hsc)
    ·refine cf ?_
     refine Z6 ?_;simp only[go_sem,fx]
     exact⟨(),(bm hsc)⟩
    ·try simp only[go_sem,fx]
     unfold Q0 at h
     refine K1 hb ?_
     refine aln 79 fun hl2=>?_
     refine rng (body:=Q5 n a0) (kk:=Q6 n a0) (n:=a0.y9.length) (s0:=())
      (fun(gs2:Unit) (k2:Nat) (s2:Unit)=>[(1,.ptr st.length 0 0 0),(2,.ptr (st.length+1) 0 0 0),(79,.sl false 9 144 (rows x7.cells a0.y9)),(80,.int .i64 (↑a0.y9.length:Int)),(81,.int .i64 (↑k2:Int))])
      (fun(gs2:Unit) (k2:Nat) (s2:Unit)=>st++[some (.arr 0 5 0 [[.sl false 2 40 (rows w6.cells a0.hierarchy.types),.sl false 3 32 (rows y3.cells a0.hierarchy.B5),.sl false 10 152 (rows w4.cells a0.rules),.sl false 9 144 (rows x7.cells a0.y9),.sl false 2 32 (rows w8.cells a0.start.nodes)]]),some (.arr 0 2 0 [[.int .i64 0,.int .i64 0]])])
      (fun(gt2:Unit) (t2:Unit)=>[(1,.ptr st.length 0 0 0),(2,.ptr (st.length+1) 0 0 0)])
      (fun(gt2:Unit) (t2:Unit)=>st++[some (.arr 0 5 0 [[.sl false 2 40 (rows w6.cells a0.hierarchy.types),.sl false 3 32 (rows y3.cells a0.hierarchy.B5),.sl false 10 152 (rows w4.cells a0.rules),.sl false 9 144 (rows x7.cells a0.y9),.sl false 2 32 (rows w8.cells a0.start.nodes)]]),some (.arr 0 2 0 [[.int .i64 0,.int .i64 0]])])
      () fx hl2 h (bm hsc)
      (fun gs2 k2 s2 b2 fx h hx2=>?_) (fun gs2 s2=>?_) (fun gt2 t2 fr1 st1 h hb=>?_)
     ·unfold Q5 at h
      refine ct ?_
      refine cl h (lK n _ _) fun v6 h=>?_
      refine cd h (fun hc h=>?_) fun hc h=>?_
      ·refine ra ?_
       cases h
       refine D6 ?_;have h:=congrArg some (hx2 _ rfl)
       exact rt
      ·refine rn ?_
       cases h
       exact aX () (bm hsc)
     ·refine cf ?_
      refine Z6 ?_;simp only[go_sem,fx]
      exact⟨(),(bm hsc)⟩
     ·try simp only[go_sem,fx]
      unfold Q6 at h
      refine K1 hb ?_
      refine cl h (Z4 n _ _) fun v7 h=>?_
      refine cd h (fun hc h=>?_) fun hc h=>?_
      ·exact rt
      ·exact rt
theorem iH(n:Nat)(a0:x6)(a1:y8)(r:x6×w9)(h:H7 n a0 a1=some r):Pure Tryz.prog gl 9 [.agg [.sl false 2 40 (rows w6.cells a0.hierarchy.types),.sl false 3 32 (rows y3.cells a0.hierarchy.B5),.sl false 10 152 (rows w4.cells a0.rules),.sl false 9 144 (rows x7.cells a0.y9),.sl false 2 32 (rows w8.cells a0.start.nodes)],.agg [.sl false 2 48 (rows w5.cells a1.hierarchy),.sl false 1 24 (rows y4.cells a1.start),.sl false 3 40 (rows y7.cells a1.rules),.sl false 3 40 (rows A9.cells a1.y9)]] (.tup [.agg [.sl false 2 40 (rows w6.cells r.1.hierarchy.types),.sl false 3 32 (rows y3.cells r.1.hierarchy.B5),.sl false 10 152 (rows w4.cells r.1.rules),.sl false 9 144 (rows x7.cells r.1.y9),.sl false 2 32 (rows w8.cells r.1.start.nodes)],.agg [.int .i64 r.2.code,.int .i64 r.2.index]]):=by
 intro st
 unfold H7 at h
 have fx:=trivial
 refine fb 200 [.cell 4 32,.cell 5 41] [0,1,2,3,4,5,6,7,8,9,10,11,12,13,14,15,24,33,43,53,60,89,115,125,132,161,181,182,183,184,185,186,193] Tryz.func9 fun hsc=>?_
 refine rn ?_
 refine jP (F9 n a1 a0) r (fun(gj0:Unit) (j0:(List w6)×(List y3))=>[(2,.ptr st.length 0 0 0),(3,.ptr (st.length+1) 0 0 0),(4,.ptr (st.length+2) 0 0 0),(5,.ptr (st.length+3) 0 0 0),(6,.ptr (st.length+4) 0 0 0)]) (fun(gj0:Unit) (j0:(List w6)×(List y3))=>st++[some (.arr 0 5 0 [[.sl false 2 40 (rows w6.cells a0.hierarchy.types),.sl false 3 32 (rows y3.cells a0.hierarchy.B5),.sl false 10 152 (rows w4.cells a0.rules),.sl false 9 144 (rows x7.cells a0.y9),.sl false 2 32 (rows w8.cells a0.start.nodes)]]),some (.arr 0 4 0 [[.sl false 2 48 (rows w5.cells a1.hierarchy),.sl false 1 24 (rows y4.cells a1.start),.sl false 3 40 (rows y7.cells a1.rules),.sl false 3 40 (rows A9.cells a1.y9)]]),some (.arr 0 5 0 [[.B0,.B0,.B0,.B0,.B0]]),some (.arr 0 2 0 [[.int .i64 0,.int .i64 0]]),some (.arr 0 5 0 [[.sl false 2 40 (rows w6.cells j0.1),.sl false 3 32 (rows y3.cells j0.2),.B0,.B0,.sl false 2 32 (rows w8.cells a0.start.nodes)]])]) (fun gj0 j0 fr1 st1 h hb=>?_) (fun hj0=>?_)
 ·try simp only[go_sem,fx]
  unfold F9 at h
  refine K1 hb ?_
  refine rn ?_
  refine jP (F8 n a1 a0 j0) r (fun(gj1:Unit) (j1:(List w8))=>[(2,.ptr st.length 0 0 0),(3,.ptr (st.length+1) 0 0 0),(4,.ptr (st.length+2) 0 0 0),(5,.ptr (st.length+3) 0 0 0),(6,.ptr (st.length+4) 0 0 0)]) (fun(gj1:Unit) (j1:(List w8))=>st++[some (.arr 0 5 0 [[.sl false 2 40 (rows w6.cells a0.hierarchy.types),.sl false 3 32 (rows y3.cells a0.hierarchy.B5),.sl false 10 152 (rows w4.cells a0.rules),.sl false 9 144 (rows x7.cells a0.y9),.sl false 2 32 (rows w8.cells a0.start.nodes)]]),some (.arr 0 4 0 [[.sl false 2 48 (rows w5.cells a1.hierarchy),.sl false 1 24 (rows y4.cells a1.start),.sl false 3 40 (rows y7.cells a1.rules),.sl false 3 40 (rows A9.cells a1.y9)]]),some (.arr 0 5 0 [[.B0,.B0,.B0,.B0,.B0]]),some (.arr 0 2 0 [[.int .i64 0,.int .i64 0]]),some (.arr 0 5 0 [[.sl false 2 40 (rows w6.cells j0.1),.sl false 3 32 (rows y3.cells j0.2),.B0,.B0,.sl false 2 32 (rows w8.cells j1)]])]) (fun gj1 j1 fr1 st1 h hb=>?_) (fun hj1=>?_)
  ·try simp only[go_sem,fx]
   unfold F8 at h
   refine K1 hb ?_
   refine r0 ?_
   refine r0 ?_
   refine r0 ?_
   (repeat apply sq_)
   refine bW 10 152 ?_
   try simp only[List.append_assoc,List.cons_append,List.nil_append]
   refine K1 (F:=[(2,.ptr st.length 0 0 0),(3,.ptr (st.length+1) 0 0 0),(4,.ptr (st.length+2) 0 0 0),(5,.ptr (st.length+3) 0 0 0),(6,.ptr (st.length+4) 0 0 0),(7,.int .i64 0),(9,.int .i64 0)]) (T:=st++[some (.arr 0 5 0 [[.sl false 2 40 (rows w6.cells a0.hierarchy.types),.sl false 3 32 (rows y3.cells a0.hierarchy.B5),.sl false 10 152 (rows w4.cells a0.rules),.sl false 9 144 (rows x7.cells a0.y9),.sl false 2 32 (rows w8.cells a0.start.nodes)]]),some (.arr 0 4 0 [[.sl false 2 48 (rows w5.cells a1.hierarchy),.sl false 1 24 (rows y4.cells a1.start),.sl false 3 40 (rows y7.cells a1.rules),.sl false 3 40 (rows A9.cells a1.y9)]]),some (.arr 0 5 0 [[.B0,.B0,.B0,.B0,.B0]]),some (.arr 0 2 0 [[.int .i64 0,.int .i64 0]]),some (.arr 0 5 0 [[.sl false 2 40 (rows w6.cells j0.1),.sl false 3 32 (rows y3.cells j0.2),.ref false (st.length+5) 0 0 0,.B0,.sl false 2 32 (rows w8.cells j1)]]),some (.arr 0 10 152 (rows w4.cells []))]) (jx hsc (.lv (.lv (.lv (.lv (.live _ _ _ _ (.arr _ _ _ _ _ (.cons _ _ _ _ (.cons _ _ _ _ .s (.cons _ _ _ _ .s (.cons _ _ _ _ (.nref _ _ _ _ _ _ (fK.trans rfl)) (.cons _ _ _ _ .s (.cons _ _ _ _ .s .nil))))) (.same _))) (.lv (.nil _))))))) (by simp) ⟨.s,.s,.s,.s,.s,.s,.s,trivial⟩ (by simp)) ?_
   (repeat apply sq_)
   refine F1 (body:=J2 n a1 a0) (kk:=O8 n a1 a0 j0 j1) (n:=n) (s0:=([],0,0))
    (fun(gs2:Nat) (s2:(List w4)×Int×Int)=>[(2,.ptr st.length 0 0 0),(3,.ptr (st.length+1) 0 0 0),(4,.ptr (st.length+2) 0 0 0),(5,.ptr (st.length+3) 0 0 0),(6,.ptr (st.length+4) 0 0 0),(7,.int .i64 s2.2.1),(9,.int .i64 s2.2.2)])
    (fun(gs2:Nat) (s2:(List w4)×Int×Int)=>st++[some (.arr 0 5 0 [[.sl false 2 40 (rows w6.cells a0.hierarchy.types),.sl false 3 32 (rows y3.cells a0.hierarchy.B5),.sl false 10 152 (rows w4.cells a0.rules),.sl false 9 144 (rows x7.cells a0.y9),.sl false 2 32 (rows w8.cells a0.start.nodes)]]),some (.arr 0 4 0 [[.sl false 2 48 (rows w5.cells a1.hierarchy),.sl false 1 24 (rows y4.cells a1.start),.sl false 3 40 (rows y7.cells a1.rules),.sl false 3 40 (rows A9.cells a1.y9)]]),some (.arr 0 5 0 [[.B0,.B0,.B0,.B0,.B0]]),some (.arr 0 2 0 [[.int .i64 0,.int .i64 0]]),some (.arr 0 5 0 [[.sl false 2 40 (rows w6.cells j0.1),.sl false 3 32 (rows y3.cells j0.2),.ref false (st.length+5) gs2 0 s2.1.length,.B0,.sl false 2 32 (rows w8.cells j1)]]),some (.arr gs2 10 152 (rows w4.cells s2.1))])
    (fun(gt2:Nat) (t2:(List w4)×Int)=>[(2,.ptr st.length 0 0 0),(3,.ptr (st.length+1) 0 0 0),(4,.ptr (st.length+2) 0 0 0),(5,.ptr (st.length+3) 0 0 0),(6,.ptr (st.length+4) 0 0 0),(7,.int .i64 t2.2)])
    (fun(gt2:Nat) (t2:(List w4)×Int)=>st++[some (.arr 0 5 0 [[.sl false 2 40 (rows w6.cells a0.hierarchy.types),.sl false 3 32 (rows y3.cells a0.hierarchy.B5),.sl false 10 152 (rows w4.cells a0.rules),.sl false 9 144 (rows x7.cells a0.y9),.sl false 2 32 (rows w8.cells a0.start.nodes)]]),some (.arr 0 4 0 [[.sl false 2 48 (rows w5.cells a1.hierarchy),.sl false 1 24 (rows y4.cells a1.start),.sl false 3 40 (rows y7.cells a1.rules),.sl false 3 40 (rows A9.cells a1.y9)]]),some (.arr 0 5 0 [[.B0,.B0,.B0,.B0,.B0]]),some (.arr 0 2 0 [[.int .i64 0,.int .i64 0]]),some (.arr 0 5 0 [[.sl false 2 40 (rows w6.cells j0.1),.sl false 3 32 (rows y3.cells j0.2),.ref false (st.length+5) gt2 0 t2.1.length,.B0,.sl false 2 32 (rows w8.cells j1)]]),some (.arr gt2 10 152 (rows w4.cells t2.1))])
    0 h (bm hsc)
    (fun gs2 s2 b2 h hx2=>?_) (fun gt2 t2 fr1 st1 h hb=>?_)
   ·unfold J2 at h
    refine cd h (fun hc h=>?_) fun hc h=>?_
    ·refine rn ?_
     refine F1 (body:=J0 s2 a1 a0) (kk:=O6 n s2 a1) (n:=n) (s0:=(s2.1,0,s2.2.1))
      (fun(gs5:Nat) (s5:(List w4)×Int×Int)=>[(2,.ptr st.length 0 0 0),(3,.ptr (st.length+1) 0 0 0),(4,.ptr (st.length+2) 0 0 0),(5,.ptr (st.length+3) 0 0 0),(6,.ptr (st.length+4) 0 0 0),(7,.int .i64 s5.2.2),(9,.int .i64 s2.2.2),(10,.int .i64 s5.2.1)])
      (fun(gs5:Nat) (s5:(List w4)×Int×Int)=>st++[some (.arr 0 5 0 [[.sl false 2 40 (rows w6.cells a0.hierarchy.types),.sl false 3 32 (rows y3.cells a0.hierarchy.B5),.sl false 10 152 (rows w4.cells a0.rules),.sl false 9 144 (rows x7.cells a0.y9),.sl false 2 32 (rows w8.cells a0.start.nodes)]]),some (.arr 0 4 0 [[.sl false 2 48 (rows w5.cells a1.hierarchy),.sl false 1 24 (rows y4.cells a1.start),.sl false 3 40 (rows y7.cells a1.rules),.sl false 3 40 (rows A9.cells a1.y9)]]),some (.arr 0 5 0 [[.B0,.B0,.B0,.B0,.B0]]),some (.arr 0 2 0 [[.int .i64 0,.int .i64 0]]),some (.arr 0 5 0 [[.sl false 2 40 (rows w6.cells j0.1),.sl false 3 32 (rows y3.cells j0.2),.ref false (st.length+5) gs5 0 s5.1.length,.B0,.sl false 2 32 (rows w8.cells j1)]]),some (.arr gs5 10 152 (rows w4.cells s5.1))])
      (fun(gt5:Nat) (t5:(List w4)×Int)=>[(2,.ptr st.length 0 0 0),(3,.ptr (st.length+1) 0 0 0),(4,.ptr (st.length+2) 0 0 0),(5,.ptr (st.length+3) 0 0 0),(6,.ptr (st.length+4) 0 0 0),(7,.int .i64 t5.2),(9,.int .i64 s2.2.2)])
      (fun(gt5:Nat) (t5:(List w4)×Int)=>st++[some (.arr 0 5 0 [[.sl false 2 40 (rows w6.cells a0.hierarchy.types),.sl false 3 32 (rows y3.cells a0.hierarchy.B5),.sl false 10 152 (rows w4.cells a0.rules),.sl false 9 144 (rows x7.cells a0.y9),.sl false 2 32 (rows w8.cells a0.start.nodes)]]),some (.arr 0 4 0 [[.sl false 2 48 (rows w5.cells a1.hierarchy),.sl false 1 24 (rows y4.cells a1.start),.sl false 3 40 (rows y7.cells a1.rules),.sl false 3 40 (rows A9.cells a1.y9)]]),some (.arr 0 5 0 [[.B0,.B0,.B0,.B0,.B0]]),some (.arr 0 2 0 [[.int .i64 0,.int .i64 0]]),some (.arr 0 5 0 [[.sl false 2 40 (rows w6.cells j0.1),.sl false 3 32 (rows y3.cells j0.2),.ref false (st.length+5) gt5 0 t5.1.length,.B0,.sl false 2 32 (rows w8.cells j1)]]),some (.arr gt5 10 152 (rows w4.cells t5.1))])
      gs2 h (bm hsc)
      (fun gs5 s5 b5 h hx5=>?_) (fun gt5 t5 fr1 st1 h hb=>?_)
     ·unfold J0 at h
      obtain⟨fx,h⟩:=ck fx h
      refine cd h (fun hc h=>?_) fun hc h=>?_
      ·refine cd h (fun hc h=>?_) fun hc h=>?_
       ·refine rs ?_
        obtain⟨fx,h⟩:=ck fx h
        obtain⟨c51,Rl,h⟩:=lR h
        have fy:=(show rows w4.cells s5.1++[[.str ((get a0.rules s5.2.2.toNat).name),.sl false 2 32 (rows w8.cells ((get a0.rules s5.2.2.toNat).graph.nodes)),.int .i64 ((get a0.rules s5.2.2.toNat).kids),.int .i64 ((get a0.rules s5.2.2.toNat).weight),.int .i64 ((get a0.rules s5.2.2.toNat).meaning.kind),.str ((get a0.rules s5.2.2.toNat).meaning.name),.int .i64 ((get a0.rules s5.2.2.toNat).meaning.index),.str ((get a0.rules s5.2.2.toNat).meaning.type.base),.sl false 2 40 (rows u0.cells ((get a0.rules s5.2.2.toNat).meaning.type.args)),.sl false 6 96 (rows w7.cells ((get a0.rules s5.2.2.toNat).meaning.args))]]=rows w4.cells c51 from by rw[Rl];first|exact O2 (E:=w4.cells) s5.1 [(get a0.rules s5.2.2.toNat)]|simp only[go_sem,rows,List.map_append,List.map_cons,List.map_nil])
        have fy:=fa fy (show s5.1.length+1=c51.length from by rw[Rl];simp)
        obtain⟨fx,h⟩:=ck fx h
        refine dwy [] 2 ?_
        refine rn ?_
        cases h
        exact G0 (gs5+1) (bm hsc)
       ·refine rn ?_
        cases h
        exact G0 gs5 (bm hsc)
      ·refine rn ?_
       cases h
       exact P0 gs5 (bm hsc)
     ·try simp only[go_sem,fx]
      unfold O6 at h
      refine K1 hb ?_
      obtain⟨fx,h⟩:=ck fx h
      refine rn ?_
      refine F1 (body:=J1 a1 s2) (kk:=O7 t5 a1 s2) (n:=n) (s0:=(t5.1,0))
       (fun(gs6:Nat) (s6:(List w4)×Int)=>[(2,.ptr st.length 0 0 0),(3,.ptr (st.length+1) 0 0 0),(4,.ptr (st.length+2) 0 0 0),(5,.ptr (st.length+3) 0 0 0),(6,.ptr (st.length+4) 0 0 0),(7,.int .i64 (wr .i64 (t5.2+((get a1.rules s2.2.2.toNat).drop)))),(9,.int .i64 s2.2.2),(11,.int .i64 s6.2)])
       (fun(gs6:Nat) (s6:(List w4)×Int)=>st++[some (.arr 0 5 0 [[.sl false 2 40 (rows w6.cells a0.hierarchy.types),.sl false 3 32 (rows y3.cells a0.hierarchy.B5),.sl false 10 152 (rows w4.cells a0.rules),.sl false 9 144 (rows x7.cells a0.y9),.sl false 2 32 (rows w8.cells a0.start.nodes)]]),some (.arr 0 4 0 [[.sl false 2 48 (rows w5.cells a1.hierarchy),.sl false 1 24 (rows y4.cells a1.start),.sl false 3 40 (rows y7.cells a1.rules),.sl false 3 40 (rows A9.cells a1.y9)]]),some (.arr 0 5 0 [[.B0,.B0,.B0,.B0,.B0]]),some (.arr 0 2 0 [[.int .i64 0,.int .i64 0]]),some (.arr 0 5 0 [[.sl false 2 40 (rows w6.cells j0.1),.sl false 3 32 (rows y3.cells j0.2),.ref false (st.length+5) gs6 0 s6.1.length,.B0,.sl false 2 32 (rows w8.cells j1)]]),some (.arr gs6 10 152 (rows w4.cells s6.1))])
       (fun(gt6:Nat) (t6:(List w4))=>[(2,.ptr st.length 0 0 0),(3,.ptr (st.length+1) 0 0 0),(4,.ptr (st.length+2) 0 0 0),(5,.ptr (st.length+3) 0 0 0),(6,.ptr (st.length+4) 0 0 0),(7,.int .i64 (wr .i64 (t5.2+((get a1.rules s2.2.2.toNat).drop)))),(9,.int .i64 s2.2.2)])
       (fun(gt6:Nat) (t6:(List w4))=>st++[some (.arr 0 5 0 [[.sl false 2 40 (rows w6.cells a0.hierarchy.types),.sl false 3 32 (rows y3.cells a0.hierarchy.B5),.sl false 10 152 (rows w4.cells a0.rules),.sl false 9 144 (rows x7.cells a0.y9),.sl false 2 32 (rows w8.cells a0.start.nodes)]]),some (.arr 0 4 0 [[.sl false 2 48 (rows w5.cells a1.hierarchy),.sl false 1 24 (rows y4.cells a1.start),.sl false 3 40 (rows y7.cells a1.rules),.sl false 3 40 (rows A9.cells a1.y9)]]),some (.arr 0 5 0 [[.B0,.B0,.B0,.B0,.B0]]),some (.arr 0 2 0 [[.int .i64 0,.int .i64 0]]),some (.arr 0 5 0 [[.sl false 2 40 (rows w6.cells j0.1),.sl false 3 32 (rows y3.cells j0.2),.ref false (st.length+5) gt6 0 t6.length,.B0,.sl false 2 32 (rows w8.cells j1)]]),some (.arr gt6 10 152 (rows w4.cells t6))])
       gt5 h (bm hsc)
       (fun gs6 s6 b6 h hx6=>?_) (fun gt6 t6 fr1 st1 h hb=>?_)
      ·unfold J1 at h
       refine cd h (fun hc h=>?_) fun hc h=>?_
       ·refine rn ?_
        obtain⟨fx,h⟩:=ck fx h
        obtain⟨c68,Rm,h⟩:=lR h
        have fy:=(show rows w4.cells s6.1++[[.str ((get ((get a1.rules s2.2.2.toNat).put) s6.2.toNat).name),.sl false 2 32 (rows w8.cells ((get ((get a1.rules s2.2.2.toNat).put) s6.2.toNat).graph.nodes)),.int .i64 ((get ((get a1.rules s2.2.2.toNat).put) s6.2.toNat).kids),.int .i64 ((get ((get a1.rules s2.2.2.toNat).put) s6.2.toNat).weight),.int .i64 ((get ((get a1.rules s2.2.2.toNat).put) s6.2.toNat).meaning.kind),.str ((get ((get a1.rules s2.2.2.toNat).put) s6.2.toNat).meaning.name),.int .i64 ((get ((get a1.rules s2.2.2.toNat).put) s6.2.toNat).meaning.index),.str ((get ((get a1.rules s2.2.2.toNat).put) s6.2.toNat).meaning.type.base),.sl false 2 40 (rows u0.cells ((get ((get a1.rules s2.2.2.toNat).put) s6.2.toNat).meaning.type.args)),.sl false 6 96 (rows w7.cells ((get ((get a1.rules s2.2.2.toNat).put) s6.2.toNat).meaning.args))]]=rows w4.cells c68 from by rw[Rm];first|exact O2 (E:=w4.cells) s6.1 [(get ((get a1.rules s2.2.2.toNat).put) s6.2.toNat)]|simp only[go_sem,rows,List.map_append,List.map_cons,List.map_nil])
        have fy:=fa fy (show s6.1.length+1=c68.length from by rw[Rm];simp)
        obtain⟨fx,h⟩:=ck fx h
        refine dwy [] 2 ?_
        refine rn ?_
        cases h
        exact G0 (gs6+1) (bm hsc)
       ·refine rn ?_
        cases h
        exact P0 gs6 (bm hsc)
      ·try simp only[go_sem,fx]
       unfold O7 at h
       refine K1 hb ?_
       refine rn ?_
       cases h
       exact G0 gt6 (bm hsc)
    ·refine rn ?_
     cases h
     exact P0 gs2 (bm hsc)
   ·try simp only[go_sem,fx]
    unfold O8 at h
    refine K1 hb ?_
    refine r0 ?_
    refine r0 ?_
    refine r0 ?_
    (repeat apply sq_)
    refine bW 9 144 ?_
    try simp only[List.append_assoc,List.cons_append,List.nil_append]
    refine K1 (F:=[(2,.ptr st.length 0 0 0),(3,.ptr (st.length+1) 0 0 0),(4,.ptr (st.length+2) 0 0 0),(5,.ptr (st.length+3) 0 0 0),(6,.ptr (st.length+4) 0 0 0),(7,.int .i64 0),(8,.bool (decide (t2.2=(↑a0.rules.length:Int)))),(12,.int .i64 0)]) (T:=st++[some (.arr 0 5 0 [[.sl false 2 40 (rows w6.cells a0.hierarchy.types),.sl false 3 32 (rows y3.cells a0.hierarchy.B5),.sl false 10 152 (rows w4.cells a0.rules),.sl false 9 144 (rows x7.cells a0.y9),.sl false 2 32 (rows w8.cells a0.start.nodes)]]),some (.arr 0 4 0 [[.sl false 2 48 (rows w5.cells a1.hierarchy),.sl false 1 24 (rows y4.cells a1.start),.sl false 3 40 (rows y7.cells a1.rules),.sl false 3 40 (rows A9.cells a1.y9)]]),some (.arr 0 5 0 [[.B0,.B0,.B0,.B0,.B0]]),some (.arr 0 2 0 [[.int .i64 0,.int .i64 0]]),some (.arr 0 5 0 [[.sl false 2 40 (rows w6.cells j0.1),.sl false 3 32 (rows y3.cells j0.2),.ref false (st.length+5) gt2 0 t2.1.length,.ref false (st.length+6) 0 0 0,.sl false 2 32 (rows w8.cells j1)]]),some (.arr gt2 10 152 (rows w4.cells t2.1)),some (.arr 0 9 144 (rows x7.cells []))]) (jx hsc (.lv (.lv (.lv (.lv (.live _ _ _ _ (.arr _ _ _ _ _ (.cons _ _ _ _ (.cons _ _ _ _ .s (.cons _ _ _ _ .s (.cons _ _ _ _ .s (.cons _ _ _ _ (.nref _ _ _ _ _ _ (fK.trans rfl)) (.cons _ _ _ _ .s .nil))))) (.same _))) (.lv (.lv (.nil _)))))))) (by simp) ⟨.s,.s,.s,.s,.s,.s,.s,.s,trivial⟩ (by simp)) ?_
    (repeat apply sq_)
    refine F1 (body:=J3 n a1 a0) (kk:=O9 n t2 a0 j0 j1) (n:=n) (s0:=([],0,0))
     (fun(gs7:Nat) (s7:(List x7)×Int×Int)=>[(2,.ptr st.length 0 0 0),(3,.ptr (st.length+1) 0 0 0),(4,.ptr (st.length+2) 0 0 0),(5,.ptr (st.length+3) 0 0 0),(6,.ptr (st.length+4) 0 0 0),(7,.int .i64 s7.2.2),(8,.bool (decide (t2.2=(↑a0.rules.length:Int)))),(12,.int .i64 s7.2.1)])
     (fun(gs7:Nat) (s7:(List x7)×Int×Int)=>st++[some (.arr 0 5 0 [[.sl false 2 40 (rows w6.cells a0.hierarchy.types),.sl false 3 32 (rows y3.cells a0.hierarchy.B5),.sl false 10 152 (rows w4.cells a0.rules),.sl false 9 144 (rows x7.cells a0.y9),.sl false 2 32 (rows w8.cells a0.start.nodes)]]),some (.arr 0 4 0 [[.sl false 2 48 (rows w5.cells a1.hierarchy),.sl false 1 24 (rows y4.cells a1.start),.sl false 3 40 (rows y7.cells a1.rules),.sl false 3 40 (rows A9.cells a1.y9)]]),some (.arr 0 5 0 [[.B0,.B0,.B0,.B0,.B0]]),some (.arr 0 2 0 [[.int .i64 0,.int .i64 0]]),some (.arr 0 5 0 [[.sl false 2 40 (rows w6.cells j0.1),.sl false 3 32 (rows y3.cells j0.2),.ref false (st.length+5) gt2 0 t2.1.length,.ref false (st.length+6) gs7 0 s7.1.length,.sl false 2 32 (rows w8.cells j1)]]),some (.arr gt2 10 152 (rows w4.cells t2.1)),some (.arr gs7 9 144 (rows x7.cells s7.1))])
     (fun(gt7:Nat) (t7:(List x7)×Int)=>[(2,.ptr st.length 0 0 0),(4,.ptr (st.length+2) 0 0 0),(5,.ptr (st.length+3) 0 0 0),(6,.ptr (st.length+4) 0 0 0),(7,.int .i64 t7.2),(8,.bool (decide (t2.2=(↑a0.rules.length:Int))))])
     (fun(gt7:Nat) (t7:(List x7)×Int)=>st++[some (.arr 0 5 0 [[.sl false 2 40 (rows w6.cells a0.hierarchy.types),.sl false 3 32 (rows y3.cells a0.hierarchy.B5),.sl false 10 152 (rows w4.cells a0.rules),.sl false 9 144 (rows x7.cells a0.y9),.sl false 2 32 (rows w8.cells a0.start.nodes)]]),none,some (.arr 0 5 0 [[.B0,.B0,.B0,.B0,.B0]]),some (.arr 0 2 0 [[.int .i64 0,.int .i64 0]]),some (.arr 0 5 0 [[.sl false 2 40 (rows w6.cells j0.1),.sl false 3 32 (rows y3.cells j0.2),.ref false (st.length+5) gt2 0 t2.1.length,.ref false (st.length+6) gt7 0 t7.1.length,.sl false 2 32 (rows w8.cells j1)]]),some (.arr gt2 10 152 (rows w4.cells t2.1)),some (.arr gt7 9 144 (rows x7.cells t7.1))])
     0 h (bm hsc)
     (fun gs7 s7 b7 h hx7=>?_) (fun gt7 t7 fr1 st1 h hb=>?_)
    ·unfold J3 at h
     refine cd h (fun hc h=>?_) fun hc h=>?_
     ·refine rn ?_
      refine F1 (body:=H9 s7 a1 a0) (kk:=N6 n s7 a1) (n:=n) (s0:=(s7.1,0,s7.2.2))
       (fun(LA:Nat) (s10:(List x7)×Int×Int)=>[(2,.ptr st.length 0 0 0),(3,.ptr (st.length+1) 0 0 0),(4,.ptr (st.length+2) 0 0 0),(5,.ptr (st.length+3) 0 0 0),(6,.ptr (st.length+4) 0 0 0),(7,.int .i64 s10.2.2),(8,.bool (decide (t2.2=(↑a0.rules.length:Int)))),(12,.int .i64 s7.2.1),(13,.int .i64 s10.2.1)])
       (fun(LA:Nat) (s10:(List x7)×Int×Int)=>st++[some (.arr 0 5 0 [[.sl false 2 40 (rows w6.cells a0.hierarchy.types),.sl false 3 32 (rows y3.cells a0.hierarchy.B5),.sl false 10 152 (rows w4.cells a0.rules),.sl false 9 144 (rows x7.cells a0.y9),.sl false 2 32 (rows w8.cells a0.start.nodes)]]),some (.arr 0 4 0 [[.sl false 2 48 (rows w5.cells a1.hierarchy),.sl false 1 24 (rows y4.cells a1.start),.sl false 3 40 (rows y7.cells a1.rules),.sl false 3 40 (rows A9.cells a1.y9)]]),some (.arr 0 5 0 [[.B0,.B0,.B0,.B0,.B0]]),some (.arr 0 2 0 [[.int .i64 0,.int .i64 0]]),some (.arr 0 5 0 [[.sl false 2 40 (rows w6.cells j0.1),.sl false 3 32 (rows y3.cells j0.2),.ref false (st.length+5) gt2 0 t2.1.length,.ref false (st.length+6) LA 0 s10.1.length,.sl false 2 32 (rows w8.cells j1)]]),some (.arr gt2 10 152 (rows w4.cells t2.1)),some (.arr LA 9 144 (rows x7.cells s10.1))])
       (fun(Ot:Nat) (t10:(List x7)×Int)=>[(2,.ptr st.length 0 0 0),(3,.ptr (st.length+1) 0 0 0),(4,.ptr (st.length+2) 0 0 0),(5,.ptr (st.length+3) 0 0 0),(6,.ptr (st.length+4) 0 0 0),(7,.int .i64 t10.2),(8,.bool (decide (t2.2=(↑a0.rules.length:Int)))),(12,.int .i64 s7.2.1)])
       (fun(Ot:Nat) (t10:(List x7)×Int)=>st++[some (.arr 0 5 0 [[.sl false 2 40 (rows w6.cells a0.hierarchy.types),.sl false 3 32 (rows y3.cells a0.hierarchy.B5),.sl false 10 152 (rows w4.cells a0.rules),.sl false 9 144 (rows x7.cells a0.y9),.sl false 2 32 (rows w8.cells a0.start.nodes)]]),some (.arr 0 4 0 [[.sl false 2 48 (rows w5.cells a1.hierarchy),.sl false 1 24 (rows y4.cells a1.start),.sl false 3 40 (rows y7.cells a1.rules),.sl false 3 40 (rows A9.cells a1.y9)]]),some (.arr 0 5 0 [[.B0,.B0,.B0,.B0,.B0]]),some (.arr 0 2 0 [[.int .i64 0,.int .i64 0]]),some (.arr 0 5 0 [[.sl false 2 40 (rows w6.cells j0.1),.sl false 3 32 (rows y3.cells j0.2),.ref false (st.length+5) gt2 0 t2.1.length,.ref false (st.length+6) Ot 0 t10.1.length,.sl false 2 32 (rows w8.cells j1)]]),some (.arr gt2 10 152 (rows w4.cells t2.1)),some (.arr Ot 9 144 (rows x7.cells t10.1))])
       gs7 h (bm hsc)
       (fun LA s10 b10 h VK=>?_) (fun Ot t10 fr1 st1 h hb=>?_)
      ·unfold H9 at h
       obtain⟨fx,h⟩:=ck fx h
       refine cd h (fun hc h=>?_) fun hc h=>?_
       ·refine cd h (fun hc h=>?_) fun hc h=>?_
        ·refine rs ?_
         obtain⟨fx,h⟩:=ck fx h
         obtain⟨c121,Ou,h⟩:=lR h
         have fy:=(show rows x7.cells s10.1++[[.str ((get a0.y9 s10.2.2.toNat).word),.sl false 2 32 (rows w8.cells ((get a0.y9 s10.2.2.toNat).graph.nodes)),.int .i64 ((get a0.y9 s10.2.2.toNat).weight),.int .i64 ((get a0.y9 s10.2.2.toNat).meaning.kind),.str ((get a0.y9 s10.2.2.toNat).meaning.name),.int .i64 ((get a0.y9 s10.2.2.toNat).meaning.index),.str ((get a0.y9 s10.2.2.toNat).meaning.type.base),.sl false 2 40 (rows u0.cells ((get a0.y9 s10.2.2.toNat).meaning.type.args)),.sl false 6 96 (rows w7.cells ((get a0.y9 s10.2.2.toNat).meaning.args))]]=rows x7.cells c121 from by rw[Ou];first|exact O2 (E:=x7.cells) s10.1 [(get a0.y9 s10.2.2.toNat)]|simp only[go_sem,rows,List.map_append,List.map_cons,List.map_nil])
         have fy:=fa fy (show s10.1.length+1=c121.length from by rw[Ou];simp)
         obtain⟨fx,h⟩:=ck fx h
         refine dwy [] 2 ?_
         refine rn ?_
         cases h
         exact G0 (LA+1) (bm hsc)
        ·refine rn ?_
         cases h
         exact G0 LA (bm hsc)
       ·refine rn ?_
        cases h
        exact P0 LA (bm hsc)
      ·try simp only[go_sem,fx]
       unfold N6 at h
       refine K1 hb ?_
       obtain⟨fx,h⟩:=ck fx h
       refine rn ?_
       refine F1 (body:=I0 a1 s7) (kk:=N7 s7 t10 a1) (n:=n) (s0:=(t10.1,0))
        (fun(Mf:Nat) (s11:(List x7)×Int)=>[(2,.ptr st.length 0 0 0),(3,.ptr (st.length+1) 0 0 0),(4,.ptr (st.length+2) 0 0 0),(5,.ptr (st.length+3) 0 0 0),(6,.ptr (st.length+4) 0 0 0),(7,.int .i64 (wr .i64 (t10.2+((get a1.y9 s7.2.1.toNat).drop)))),(8,.bool (decide (t2.2=(↑a0.rules.length:Int)))),(12,.int .i64 s7.2.1),(14,.int .i64 s11.2)])
        (fun(Mf:Nat) (s11:(List x7)×Int)=>st++[some (.arr 0 5 0 [[.sl false 2 40 (rows w6.cells a0.hierarchy.types),.sl false 3 32 (rows y3.cells a0.hierarchy.B5),.sl false 10 152 (rows w4.cells a0.rules),.sl false 9 144 (rows x7.cells a0.y9),.sl false 2 32 (rows w8.cells a0.start.nodes)]]),some (.arr 0 4 0 [[.sl false 2 48 (rows w5.cells a1.hierarchy),.sl false 1 24 (rows y4.cells a1.start),.sl false 3 40 (rows y7.cells a1.rules),.sl false 3 40 (rows A9.cells a1.y9)]]),some (.arr 0 5 0 [[.B0,.B0,.B0,.B0,.B0]]),some (.arr 0 2 0 [[.int .i64 0,.int .i64 0]]),some (.arr 0 5 0 [[.sl false 2 40 (rows w6.cells j0.1),.sl false 3 32 (rows y3.cells j0.2),.ref false (st.length+5) gt2 0 t2.1.length,.ref false (st.length+6) Mf 0 s11.1.length,.sl false 2 32 (rows w8.cells j1)]]),some (.arr gt2 10 152 (rows w4.cells t2.1)),some (.arr Mf 9 144 (rows x7.cells s11.1))])
        (fun(Ov:Nat) (t11:(List x7))=>[(2,.ptr st.length 0 0 0),(3,.ptr (st.length+1) 0 0 0),(4,.ptr (st.length+2) 0 0 0),(5,.ptr (st.length+3) 0 0 0),(6,.ptr (st.length+4) 0 0 0),(7,.int .i64 (wr .i64 (t10.2+((get a1.y9 s7.2.1.toNat).drop)))),(8,.bool (decide (t2.2=(↑a0.rules.length:Int)))),(12,.int .i64 s7.2.1)])
        (fun(Ov:Nat) (t11:(List x7))=>st++[some (.arr 0 5 0 [[.sl false 2 40 (rows w6.cells a0.hierarchy.types),.sl false 3 32 (rows y3.cells a0.hierarchy.B5),.sl false 10 152 (rows w4.cells a0.rules),.sl false 9 144 (rows x7.cells a0.y9),.sl false 2 32 (rows w8.cells a0.start.nodes)]]),some (.arr 0 4 0 [[.sl false 2 48 (rows w5.cells a1.hierarchy),.sl false 1 24 (rows y4.cells a1.start),.sl false 3 40 (rows y7.cells a1.rules),.sl false 3 40 (rows A9.cells a1.y9)]]),some (.arr 0 5 0 [[.B0,.B0,.B0,.B0,.B0]]),some (.arr 0 2 0 [[.int .i64 0,.int .i64 0]]),some (.arr 0 5 0 [[.sl false 2 40 (rows w6.cells j0.1),.sl false 3 32 (rows y3.cells j0.2),.ref false (st.length+5) gt2 0 t2.1.length,.ref false (st.length+6) Ov 0 t11.length,.sl false 2 32 (rows w8.cells j1)]]),some (.arr gt2 10 152 (rows w4.cells t2.1)),some (.arr Ov 9 144 (rows x7.cells t11))])
        Ot h (bm hsc)
        (fun Mf s11 b11 h VL=>?_) (fun Ov t11 fr1 st1 h hb=>?_)
       ·unfold I0 at h
        refine cd h (fun hc h=>?_) fun hc h=>?_
        ·refine rn ?_
         obtain⟨fx,h⟩:=ck fx h
         obtain⟨c138,Ow,h⟩:=lR h
         have fy:=(show rows x7.cells s11.1++[[.str ((get ((get a1.y9 s7.2.1.toNat).put) s11.2.toNat).word),.sl false 2 32 (rows w8.cells ((get ((get a1.y9 s7.2.1.toNat).put) s11.2.toNat).graph.nodes)),.int .i64 ((get ((get a1.y9 s7.2.1.toNat).put) s11.2.toNat).weight),.int .i64 ((get ((get a1.y9 s7.2.1.toNat).put) s11.2.toNat).meaning.kind),.str ((get ((get a1.y9 s7.2.1.toNat).put) s11.2.toNat).meaning.name),.int .i64 ((get ((get a1.y9 s7.2.1.toNat).put) s11.2.toNat).meaning.index),.str ((get ((get a1.y9 s7.2.1.toNat).put) s11.2.toNat).meaning.type.base),.sl false 2 40 (rows u0.cells ((get ((get a1.y9 s7.2.1.toNat).put) s11.2.toNat).meaning.type.args)),.sl false 6 96 (rows w7.cells ((get ((get a1.y9 s7.2.1.toNat).put) s11.2.toNat).meaning.args))]]=rows x7.cells c138 from by rw[Ow];first|exact O2 (E:=x7.cells) s11.1 [(get ((get a1.y9 s7.2.1.toNat).put) s11.2.toNat)]|simp only[go_sem,rows,List.map_append,List.map_cons,List.map_nil])
         have fy:=fa fy (show s11.1.length+1=c138.length from by rw[Ow];simp)
         obtain⟨fx,h⟩:=ck fx h
         refine dwy [] 2 ?_
         refine rn ?_
         cases h
         exact G0 (Mf+1) (bm hsc)
        ·refine rn ?_
         cases h
         exact P0 Mf (bm hsc)
       ·try simp only[go_sem,fx]
        unfold N7 at h
        refine K1 hb ?_
        refine rn ?_
        cases h
        exact G0 Ov (bm hsc)
     ·refine rn ?_
      cases h
      exact P0 gs7 (bm hsc)
    ·try simp only[go_sem,fx]
     unfold O9 at h
     refine K1 hb ?_
     refine cd h (fun hc h=>?_) fun hc h=>?_
     ·refine rr ?_
      exact fo (.tup [.agg [.sl false 2 40 (rows w6.cells []),.sl false 3 32 (rows y3.cells []),.sl false 10 152 (rows w4.cells []),.sl false 9 144 (rows x7.cells []),.sl false 2 32 (rows w8.cells [])],.agg [.int .i64 9,.int .i64 (-2)]]) (.tup _ _ (.cons _ _ _ _ (.agg _ _ (.cons _ _ _ _ (.B0 _ _ _ (by decide)) (.cons _ _ _ _ (.B0 _ _ _ (by decide)) (.cons _ _ _ _ (.B0 _ _ _ (by decide)) (.cons _ _ _ _ (.B0 _ _ _ (by decide)) (.cons _ _ _ _ (.B0 _ _ _ (by decide)) .nil)))))) (.cons _ _ _ _ .s .nil)) rfl) h hsc
     ·refine rn ?_
      obtain⟨v143,hv143,h⟩:=E6 h
      refine((cT n _ _ hv143).borrow (args:=[.agg [.sl false 2 40 (rows w6.cells j0.1),.sl false 3 32 (rows y3.cells j0.2),.ref false (st.length+5) gt2 0 t2.1.length,.ref false (st.length+6) gt7 0 t7.1.length,.sl false 2 32 (rows w8.cells j1)]]) (.cons _ _ _ _ (.agg _ _ (.cons _ _ _ _ .s (.cons _ _ _ _ .s (.cons _ _ _ _ (.ref _ _ _ _ _ _ _ _ _ (fK.trans rfl) rI (by decide) (lG _) (by simp only[go_sem])) (.cons _ _ _ _ (.ref _ _ _ _ _ _ _ _ _ (fK.trans rfl) rI (by decide) (lG _) (by simp only[go_sem])) (.cons _ _ _ _ .s .nil)))))) .nil) (by simp) rfl ) ?_
      refine cd h (fun hc h=>?_) fun hc h=>?_
      ·refine rs ?_
       refine dw [2,4] 0 ?_
       try refine⟨by(simp<;>omega),?_⟩
       refine rr ?_
       exact fo (.tup [.agg [.sl false 2 40 (rows w6.cells []),.sl false 3 32 (rows y3.cells []),.sl false 10 152 (rows w4.cells []),.sl false 9 144 (rows x7.cells []),.sl false 2 32 (rows w8.cells [])],.agg [.int .i64 v143.code,.int .i64 (-3)]]) (.tup _ _ (.cons _ _ _ _ (.agg _ _ (.cons _ _ _ _ (.B0 _ _ _ (by decide)) (.cons _ _ _ _ (.B0 _ _ _ (by decide)) (.cons _ _ _ _ (.B0 _ _ _ (by decide)) (.cons _ _ _ _ (.B0 _ _ _ (by decide)) (.cons _ _ _ _ (.B0 _ _ _ (by decide)) .nil)))))) (.cons _ _ _ _ .s .nil)) rfl) h hsc
      ·refine rr ?_
       exact fo (.tup [.agg [.sl false 2 40 (rows w6.cells j0.1),.sl false 3 32 (rows y3.cells j0.2),.sl false 10 152 (rows w4.cells t2.1),.sl false 9 144 (rows x7.cells t7.1),.sl false 2 32 (rows w8.cells j1)],.agg [.int .i64 0,.int .i64 0]]) (.tup _ _ (.cons _ _ _ _ (.agg _ _ (.cons _ _ _ _ .s (.cons _ _ _ _ .s (.cons _ _ _ _ (.ref _ _ _ _ _ _ _ _ _ (fK.trans rfl) sQ (by decide) (lG _) (by simp only[go_sem])) (.cons _ _ _ _ (.ref _ _ _ _ _ _ _ _ _ (fK.trans rfl) sQ (by decide) (lG _) (by simp only[go_sem])) (.cons _ _ _ _ .s .nil)))))) (.cons _ _ _ _ .s .nil)) rfl) h hsc
  ·refine cd h (fun hc h=>?_) fun hc h=>?_
   ·obtain⟨fx,h⟩:=ck fx h
    refine r0 ?_
    refine hj1 () _ _ _ h ?_;exact(bm hsc)
   ·refine r0 ?_
    refine hj1 () _ _ _ h ?_;exact(bm hsc)
 ·refine cd h (fun hc h=>?_) fun hc h=>?_
  ·obtain⟨fx,h⟩:=ck fx h
   refine r0 ?_
   refine hj0 () _ _ _ h ?_;exact(bm hsc)
  ·refine r0 ?_
   refine hj0 () _ _ _ h ?_;exact(bm hsc)
end Go.Proofs.YtbgkcolebacbmaaGreatDoor
