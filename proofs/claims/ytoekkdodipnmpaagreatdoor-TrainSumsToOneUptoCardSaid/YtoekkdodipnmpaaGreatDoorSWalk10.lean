import Derived.Test.YtoekkdodipnmpaaGreatDoorSWalk9
set_option linter.unusedVariables false
set_option linter.unusedSimpArgs false
set_option maxHeartbeats 2000000
set_option maxRecDepth 100000
namespace Go.Proofs.YtoekkdodipnmpaaGreatDoor
open Go Go.Am
theorem aJ(n:Nat)(a0:w6)(r:w5)(h:G7 n a0=some r):Pure Tryz.prog gl 66 [.agg [.int .i64 a0.kind,.str a0.name,.int .i64 a0.index,.str a0.type.base,.sl false 2 40 (rows u0.cells a0.type.args),.sl false 6 96 (rows w6.cells a0.args)]] (.agg [.int .i64 r.code,.int .i64 r.index]):=by
 intro st
 unfold G7 at h
 have fx:=trivial
 refine fb 5 [.cell 2 39] [0,1,2] Tryz.func66 fun hsc=>?_
 refine cl h (ij n _) fun v1 h=>?_
 exact rt
theorem iq(n:Nat)(a0:x7)(a1:w8)(r:Int)(h:O4 n a0 a1=some r):Pure Tryz.prog gl 39 [.agg [.sl false 2 40 (rows x5.cells a0.types),.sl false 3 32 (rows A0.cells a0.C2)],.agg [.str a1.name,.sl false 2 32 (rows y4.cells a1.graph.nodes),.int .i64 a1.kids,.int .i64 a1.weight,.int .i64 a1.meaning.kind,.str a1.meaning.name,.int .i64 a1.meaning.index,.str a1.meaning.type.base,.sl false 2 40 (rows u0.cells a1.meaning.type.args),.sl false 6 96 (rows w6.cells a1.meaning.args)]] (.int .i64 r):=by
 intro st
 unfold O4 at h
 have fx:=trivial
 refine fb 52 [.tmp 4] [0,1,2,3,4,5,6,11,12,13,16,17,18,21,22,23,24,31,34,35,46] Tryz.func39 fun hsc=>?_
 refine cd h (fun hc h=>?_) fun hc h=>?_
 ·exact rt
 ·refine cl h (U4 n _ _) fun v1 h=>?_
  refine cd h (fun hc h=>?_) fun hc h=>?_
  ·exact rt
  ·refine rn ?_
   refine rng (body:=F4 a1) (kk:=R2 n a1) (n:=4) (s0:=())
    (fun(gs0:Unit) (k0:Nat) (s0:Unit)=>[(3,.ptr (st.length+1) 0 0 0),(34,.int .i64 (↑k0:Int))])
    (fun(gs0:Unit) (k0:Nat) (s0:Unit)=>st++[none,some (.arr 0 10 0 [[.str a1.name,.sl false 2 32 (rows y4.cells a1.graph.nodes),.int .i64 a1.kids,.int .i64 a1.weight,.int .i64 a1.meaning.kind,.str a1.meaning.name,.int .i64 a1.meaning.index,.str a1.meaning.type.base,.sl false 2 40 (rows u0.cells a1.meaning.type.args),.sl false 6 96 (rows w6.cells a1.meaning.args)]])])
    (fun(gt0:Unit) (t0:Unit)=>[(3,.ptr (st.length+1) 0 0 0)])
    (fun(gt0:Unit) (t0:Unit)=>st++[none,some (.arr 0 10 0 [[.str a1.name,.sl false 2 32 (rows y4.cells a1.graph.nodes),.int .i64 a1.kids,.int .i64 a1.weight,.int .i64 a1.meaning.kind,.str a1.meaning.name,.int .i64 a1.meaning.index,.str a1.meaning.type.base,.sl false 2 40 (rows u0.cells a1.meaning.type.args),.sl false 6 96 (rows w6.cells a1.meaning.args)]])])
    () fx (by decide) h (bm hsc)
    (fun gs0 k0 s0 b0 fx h hx0=>?_) (fun gs0 s0=>?_) (fun gt0 t0 fr1 st1 h hb=>?_)
   ·unfold F4 at h
    have fx:=fa fx (show(↑k0:Int)<4 by omega)
    refine ct ?_
    refine rn ?_
    refine dw [] 0 ?_
    obtain⟨v2,hv2,h⟩:=E7 h
    refine y9 (dR _ _ _ _ hv2) ?_
    try simp only[go_sem,fx]
    refine cd h (fun hc h=>?_) fun hc h=>?_
    ·refine ra ?_
     cases h
     refine D4 ?_;have h:=congrArg some (hx0 _ rfl)
     exact rt
    ·refine rn ?_
     cases h
     exact dc () (bm hsc)
   ·refine cf ?_
    refine cP ?_;simp only[go_sem,fx]
    exact⟨(),(bm hsc)⟩
   ·try simp only[go_sem,fx]
    unfold R2 at h
    refine R8 hb ?_
    refine cl h (aJ n _) fun v3 h=>?_
    exact rt
theorem gD(n:Nat)(a0:Bs)(r:Int)(h:M4 n a0=some r):Pure Tryz.prog gl 86 [.str a0] (.int .i64 r):=by
 intro st
 unfold M4 at h
 have fx:=trivial
 refine fb 86 [.tmp 2] [0,2,3,4,5,6,7,10,13,17,18,23,27,28,33,37,38,46,49,57,58,59,60,61,74,75,78,79,80,81,82,83,84] Tryz.func86 fun hsc=>?_
 obtain⟨fx,h⟩:=ck fx h
 refine cd h (fun hc h=>?_) fun hc h=>?_
 ·exact rt
 ·refine rn ?_
  refine eP (D8 n a0) r (fun(gj0:Unit) (j0:Int×Int×Int)=>[(0,.str a0),(4,.int .i64 j0.1),(5,.int .i64 j0.2.1),(6,.int .i64 j0.2.2)]) (fun(gj0:Unit) (j0:Int×Int×Int)=>st) (fun gj0 j0 fr1 st1 h hb=>?_) (fun hj0=>?_)
  ·try simp only[go_sem,fx]
   unfold D8 at h
   refine R8 hb ?_
   refine cd h (fun hc h=>?_) fun hc h=>?_
   ·exact rt
   ·refine rn ?_
    refine I3 (body:=D2 j0 a0) (kk:=P2 j0) (n:=n) (s0:=(j0.2.2,1))
     (fun(gs1:Unit) (s1:Int×Int)=>[(0,.str a0),(4,.int .i64 j0.1),(5,.int .i64 j0.2.1),(6,.int .i64 s1.1),(7,.int .i64 s1.2)])
     (fun(gs1:Unit) (s1:Int×Int)=>st)
     (fun(gt1:Unit) (t1:Int)=>[(4,.int .i64 j0.1),(5,.int .i64 j0.2.1),(6,.int .i64 t1)])
     (fun(gt1:Unit) (t1:Int)=>st)
     () h (cT hsc)
     (fun gs1 s1 b1 h hx1=>?_) (fun gt1 t1 fr1 st1 h hb=>?_)
    ·unfold D2 at h
     refine cd h (fun hc h=>?_) fun hc h=>?_
     ·obtain⟨fx,h⟩:=ck fx h
      refine cd h (fun hc h=>?_) fun hc h=>?_
      ·refine ra ?_
       cases h
       refine aA ?_;have h:=congrArg some (hx1 _ rfl)
       exact rt
      ·refine rn ?_
       cases h
       exact J2 () (cT hsc)
     ·refine rn ?_
      cases h
      exact U0 () (cT hsc)
    ·try simp only[go_sem,fx]
     unfold P2 at h
     refine R8 hb ?_
     refine cd h (fun hc h=>?_) fun hc h=>?_
     ·exact rt
     ·exact rt
  ·refine cd h (fun hc h=>?_) fun hc h=>?_
   ·refine r0 ?_
    refine hj0 () _ _ _ h ?_;exact(cT hsc)
   ·refine cd h (fun hc h=>?_) fun hc h=>?_
    ·refine r0 ?_
     refine hj0 () _ _ _ h ?_;exact(cT hsc)
    ·refine cd h (fun hc h=>?_) fun hc h=>?_
     ·refine r0 ?_
      refine hj0 () _ _ _ h ?_;exact(cT hsc)
     ·exact rt
theorem kE(n:Nat)(a0:Bs)(r:Bool)(h:W7 n a0=some r):Pure Tryz.prog gl 67 [.str a0] (.bool r):=by
 intro st
 unfold W7 at h
 have fx:=trivial
 refine fb 68 [.tmp 2] [0,2,3,5,6,7,9,10,11,18,19,22,23,26,27,30,31,34,35,38,39,42,43,46,47,48,52,53,54,58,64] Tryz.func67 fun hsc=>?_
 refine rn ?_
 refine I3 (body:=X5 a0) (kk:=X6 n a0) (n:=n) (s0:=(0,0))
  (fun(gs0:Unit) (s0:Nat×Int)=>[(0,.str a0),(3,.int .i64 s0.2),(9,.it st.length)])
  (fun(gs0:Unit) (s0:Nat×Int)=>st++[some (.sit a0 s0.1)])
  (fun(gt0:Unit) (t0:Int)=>[(0,.str a0),(3,.int .i64 t0)])
  (fun(gt0:Unit) (t0:Int)=>st)
  () h (bm hsc)
  (fun gs0 s0 b0 h hx0=>?_) (fun gt0 t0 fr1 st1 h hb=>?_)
 ·unfold X5 at h
  refine cd h (fun hc h=>?_) fun hc h=>?_
  ·obtain⟨fx,h⟩:=ck fx h
   refine cd h (fun hc h=>?_) fun hc h=>?_
   ·refine ra ?_
    cases h
    refine aA ?_;have h:=congrArg some (hx0 _ rfl)
    exact rt
   ·refine rn ?_
    cases h
    exact J2 () (bm hsc)
  ·refine rn ?_
   cases h
   exact U0 () (bm0 hsc)
 ·try simp only[go_sem,fx]
  unfold X6 at h
  refine R8 hb ?_
  refine cd h (fun hc h=>?_) fun hc h=>?_
  ·exact rt
  ·refine rn ?_
   refine I3 (body:=X7 n a0) (kk:=br) (n:=n) (s0:=0)
    (fun(gs1:Unit) (s1:Int)=>[(0,.str a0),(6,.int .i64 s1)])
    (fun(gs1:Unit) (s1:Int)=>st)
    (fun(gt1:Unit) (t1:Unit)=>[])
    (fun(gt1:Unit) (t1:Unit)=>st)
    () h (cT hsc)
    (fun gs1 s1 b1 h hx1=>?_) (fun gt1 t1 fr1 st1 h hb=>?_)
   ·unfold X7 at h
    refine cd h (fun hc h=>?_) fun hc h=>?_
    ·obtain⟨fx,h⟩:=ck fx h
     refine cl h (gD n _) fun v8 h=>?_
     refine cd h (fun hc h=>?_) fun hc h=>?_
     ·refine ra ?_
      cases h
      refine aA ?_;have h:=congrArg some (hx1 _ rfl)
      exact rt
     ·refine rn ?_
      cases h
      exact J2 () (cT hsc)
    ·refine rn ?_
     cases h
     exact U0 () (cT hsc)
   ·try simp only[go_sem,fx]
    unfold br at h
    refine R8 hb ?_
    exact rt
theorem iC(n:Nat)(a0:x7)(a1:D0)(r:Int)(h:R3 n a0 a1=some r):Pure Tryz.prog gl 40 [.agg [.sl false 2 40 (rows x5.cells a0.types),.sl false 3 32 (rows A0.cells a0.C2)],.agg [.str a1.word,.sl false 2 32 (rows y4.cells a1.graph.nodes),.int .i64 a1.weight,.int .i64 a1.meaning.kind,.str a1.meaning.name,.int .i64 a1.meaning.index,.str a1.meaning.type.base,.sl false 2 40 (rows u0.cells a1.meaning.type.args),.sl false 6 96 (rows w6.cells a1.meaning.args)]] (.int .i64 r):=by
 intro st
 unfold R3 at h
 have fx:=trivial
 refine fb 31 [.tmp 4] [0,1,2,3,4,5,9,14,15,16,17,24] Tryz.func40 fun hsc=>?_
 refine cl h (kE n _) fun v1 h=>?_
 refine cd h (fun hc h=>?_) fun hc h=>?_
 ·exact rt
 ·refine cd h (fun hc h=>?_) fun hc h=>?_
  ·exact rt
  ·refine cl h (U4 n _ _) fun v2 h=>?_
   refine cd h (fun hc h=>?_) fun hc h=>?_
   ·exact rt
   ·refine cl h (aJ n _) fun v3 h=>?_
    exact rt
theorem fK(n:Nat)(a0:y7)(r:w5)(h:K7 n a0=some r):Pure Tryz.prog gl 14 [.agg [.sl false 2 40 (rows x5.cells a0.hierarchy.types),.sl false 3 32 (rows A0.cells a0.hierarchy.C2),.sl false 10 152 (rows w8.cells a0.rules),.sl false 9 144 (rows D0.cells a0.B3),.sl false 2 32 (rows y4.cells a0.start.nodes)]] (.agg [.int .i64 r.code,.int .i64 r.index]):=by
 intro st
 unfold K7 at h
 have fx:=trivial
 refine fb 108 [.cell 2 39] [0,1,2,3,4,5,7,8,9,10,11,12,18,24,31,32,33,34,35,38,39,40,41,48,54,55,56,57,64,73,79,80,81,82,91,103] Tryz.func14 fun hsc=>?_
 refine cl h (eO n _) fun v1 h=>?_
 refine cd h (fun hc h=>?_) fun hc h=>?_
 ·exact rt
 ·refine cd h (fun hc h=>?_) fun hc h=>?_
  ·exact rt
  ·refine cd h (fun hc h=>?_) fun hc h=>?_
   ·exact rt
   ·refine aln 38 fun hl0=>?_
    refine rng (body:=L4 n a0) (kk:=L6 n a0) (n:=a0.rules.length) (s0:=())
     (fun(gs0:Unit) (k0:Nat) (s0:Unit)=>[(1,.ptr st.length 0 0 0),(2,.ptr (st.length+1) 0 0 0),(38,.sl false 10 152 (rows w8.cells a0.rules)),(39,.int .i64 (↑a0.rules.length:Int)),(40,.int .i64 (↑k0:Int))])
     (fun(gs0:Unit) (k0:Nat) (s0:Unit)=>st++[some (.arr 0 5 0 [[.sl false 2 40 (rows x5.cells a0.hierarchy.types),.sl false 3 32 (rows A0.cells a0.hierarchy.C2),.sl false 10 152 (rows w8.cells a0.rules),.sl false 9 144 (rows D0.cells a0.B3),.sl false 2 32 (rows y4.cells a0.start.nodes)]]),some (.arr 0 2 0 [[.int .i64 0,.int .i64 0]])])
     (fun(gt0:Unit) (t0:Unit)=>[(1,.ptr st.length 0 0 0),(2,.ptr (st.length+1) 0 0 0)])
     (fun(gt0:Unit) (t0:Unit)=>st++[some (.arr 0 5 0 [[.sl false 2 40 (rows x5.cells a0.hierarchy.types),.sl false 3 32 (rows A0.cells a0.hierarchy.C2),.sl false 10 152 (rows w8.cells a0.rules),.sl false 9 144 (rows D0.cells a0.B3),.sl false 2 32 (rows y4.cells a0.start.nodes)]]),some (.arr 0 2 0 [[.int .i64 0,.int .i64 0]])])
     () fx hl0 h (bm hsc)
     (fun gs0 k0 s0 b0 fx h hx0=>?_) (fun gs0 s0=>?_) (fun gt0 t0 fr1 st1 h hb=>?_)
    ·unfold L4 at h
     refine ct ?_
     refine cl h (bw _) fun v2 h=>?_
     refine cd h (fun hc h=>?_) fun hc h=>?_
     ·refine ra ?_
      cases h
      refine D4 ?_;have h:=congrArg some (hx0 _ rfl)
      exact rt
     ·obtain⟨fx,h⟩:=ck fx h
      refine aln 54 fun hl1=>?_
      refine rng (body:=H7 a0 k0) (kk:=L5 n a0 k0) (n:=(a0.rules.take k0).length) (s0:=())
       (fun(gs1:Unit) (k1:Nat) (s1:Unit)=>[(1,.ptr st.length 0 0 0),(2,.ptr (st.length+1) 0 0 0),(4,.int .i64 (↑k0:Int)),(5,.ptr (st.length+2) 0 0 0),(38,.sl false 10 152 (rows w8.cells a0.rules)),(39,.int .i64 (↑a0.rules.length:Int)),(40,.int .i64 (↑k0:Int)),(54,.sl false 10 152 (rows w8.cells (a0.rules.take k0))),(55,.int .i64 (↑((a0.rules.take k0).length):Int)),(56,.int .i64 (↑k1:Int))])
       (fun(gs1:Unit) (k1:Nat) (s1:Unit)=>st++[some (.arr 0 5 0 [[.sl false 2 40 (rows x5.cells a0.hierarchy.types),.sl false 3 32 (rows A0.cells a0.hierarchy.C2),.sl false 10 152 (rows w8.cells a0.rules),.sl false 9 144 (rows D0.cells a0.B3),.sl false 2 32 (rows y4.cells a0.start.nodes)]]),some (.arr 0 2 0 [[.int .i64 0,.int .i64 0]]),some (.arr 0 10 0 [[.str ((get a0.rules k0).name),.sl false 2 32 (rows y4.cells ((get a0.rules k0).graph.nodes)),.int .i64 ((get a0.rules k0).kids),.int .i64 ((get a0.rules k0).weight),.int .i64 ((get a0.rules k0).meaning.kind),.str ((get a0.rules k0).meaning.name),.int .i64 ((get a0.rules k0).meaning.index),.str ((get a0.rules k0).meaning.type.base),.sl false 2 40 (rows u0.cells ((get a0.rules k0).meaning.type.args)),.sl false 6 96 (rows w6.cells ((get a0.rules k0).meaning.args))]])])
       (fun(gt1:Unit) (t1:Unit)=>[(1,.ptr st.length 0 0 0),(2,.ptr (st.length+1) 0 0 0),(4,.int .i64 (↑k0:Int)),(5,.ptr (st.length+2) 0 0 0),(38,.sl false 10 152 (rows w8.cells a0.rules)),(39,.int .i64 (↑a0.rules.length:Int)),(40,.int .i64 (↑k0:Int))])
       (fun(gt1:Unit) (t1:Unit)=>st++[some (.arr 0 5 0 [[.sl false 2 40 (rows x5.cells a0.hierarchy.types),.sl false 3 32 (rows A0.cells a0.hierarchy.C2),.sl false 10 152 (rows w8.cells a0.rules),.sl false 9 144 (rows D0.cells a0.B3),.sl false 2 32 (rows y4.cells a0.start.nodes)]]),some (.arr 0 2 0 [[.int .i64 0,.int .i64 0]]),some (.arr 0 10 0 [[.str ((get a0.rules k0).name),.sl false 2 32 (rows y4.cells ((get a0.rules k0).graph.nodes)),.int .i64 ((get a0.rules k0).kids),.int .i64 ((get a0.rules k0).weight),.int .i64 ((get a0.rules k0).meaning.kind),.str ((get a0.rules k0).meaning.name),.int .i64 ((get a0.rules k0).meaning.index),.str ((get a0.rules k0).meaning.type.base),.sl false 2 40 (rows u0.cells ((get a0.rules k0).meaning.type.args)),.sl false 6 96 (rows w6.cells ((get a0.rules k0).meaning.args))]])])
       () fx hl1 h (bm hsc)
       (fun gs1 k1 s1 b1 fx h hx1=>?_) (fun gs1 s1=>?_) (fun gt1 t1 fr1 st1 h hb=>?_)
      ·unfold H7 at h
       refine ct ?_
       refine cd h (fun hc h=>?_) fun hc h=>?_
       ·refine ra ?_
        cases h
        refine D4 ?_;obtain rfl:=hx1 _ rfl;try simp only[go_sem,fx]
        refine D4 ?_;have h:=congrArg some (hx0 _ rfl)
        exact rt
       ·refine rn ?_
        cases h
        exact dc () (bm hsc)
      ·refine cf ?_
       refine cP ?_;simp only[go_sem,fx]
       exact⟨(),(bm hsc)⟩
      ·try simp only[go_sem,fx]
       unfold L5 at h
       refine R8 hb ?_
       refine cl h (iq n _ _) fun v5 h=>?_
       refine cd h (fun hc h=>?_) fun hc h=>?_
       ·refine ra ?_
        cases h
        refine D4 ?_;have h:=congrArg some (hx0 _ rfl)
        exact rt
       ·refine rn ?_
        cases h
        exact dc () (bm hsc)
    ·refine cf ?_
     refine cP ?_;simp only[go_sem,fx]
     exact⟨(),(bm hsc)⟩
    ·try simp only[go_sem,fx]
     unfold L6 at h
     refine R8 hb ?_
     refine aln 79 fun hl2=>?_
     refine rng (body:=L7 n a0) (kk:=L8 n a0) (n:=a0.B3.length) (s0:=())
      (fun(gs2:Unit) (k2:Nat) (s2:Unit)=>[(1,.ptr st.length 0 0 0),(2,.ptr (st.length+1) 0 0 0),(79,.sl false 9 144 (rows D0.cells a0.B3)),(80,.int .i64 (↑a0.B3.length:Int)),(81,.int .i64 (↑k2:Int))])
      (fun(gs2:Unit) (k2:Nat) (s2:Unit)=>st++[some (.arr 0 5 0 [[.sl false 2 40 (rows x5.cells a0.hierarchy.types),.sl false 3 32 (rows A0.cells a0.hierarchy.C2),.sl false 10 152 (rows w8.cells a0.rules),.sl false 9 144 (rows D0.cells a0.B3),.sl false 2 32 (rows y4.cells a0.start.nodes)]]),some (.arr 0 2 0 [[.int .i64 0,.int .i64 0]])])
      (fun(gt2:Unit) (t2:Unit)=>[(1,.ptr st.length 0 0 0),(2,.ptr (st.length+1) 0 0 0)])
      (fun(gt2:Unit) (t2:Unit)=>st++[some (.arr 0 5 0 [[.sl false 2 40 (rows x5.cells a0.hierarchy.types),.sl false 3 32 (rows A0.cells a0.hierarchy.C2),.sl false 10 152 (rows w8.cells a0.rules),.sl false 9 144 (rows D0.cells a0.B3),.sl false 2 32 (rows y4.cells a0.start.nodes)]]),some (.arr 0 2 0 [[.int .i64 0,.int .i64 0]])])
      () fx hl2 h (bm hsc)
      (fun gs2 k2 s2 b2 fx h hx2=>?_) (fun gs2 s2=>?_) (fun gt2 t2 fr1 st1 h hb=>?_)
     ·unfold L7 at h
      refine ct ?_
      refine cl h (iC n _ _) fun v6 h=>?_
      refine cd h (fun hc h=>?_) fun hc h=>?_
      ·refine ra ?_
       cases h
       refine D4 ?_;have h:=congrArg some (hx2 _ rfl)
       exact rt
      ·refine rn ?_
       cases h
       exact dc () (bm hsc)
     ·refine cf ?_
      refine cP ?_;simp only[go_sem,fx]
      exact⟨(),(bm hsc)⟩
     ·try simp only[go_sem,fx]
      unfold L8 at h
      refine R8 hb ?_
      refine cl h (U4 n _ _) fun v7 h=>?_
      refine cd h (fun hc h=>?_) fun hc h=>?_
      ·exact rt
      ·exact rt
theorem fT(n:Nat)(a0:y7)(a1:C4)(r:w5)(h:H8 n a0 a1=some r):Pure Tryz.prog gl 6 [.agg [.sl false 2 40 (rows x5.cells a0.hierarchy.types),.sl false 3 32 (rows A0.cells a0.hierarchy.C2),.sl false 10 152 (rows w8.cells a0.rules),.sl false 9 144 (rows D0.cells a0.B3),.sl false 2 32 (rows y4.cells a0.start.nodes)],.agg [.sl false 1 8 (rows E1 a1.rules),.sl false 1 8 (rows E1 a1.B3)]] (.agg [.int .i64 r.code,.int .i64 r.index]):=by
 intro st
 unfold H8 at h
 have fx:=trivial
 refine fb 70 [.cell 4 39] [0,1,2,3,4,5,6,7,12,22,23,24,25,26,27,28,29,39,46,64,65,66] Tryz.func6 fun hsc=>?_
 refine cl h (fK n _) fun v1 h=>?_
 refine cd h (fun hc h=>?_) fun hc h=>?_
 ·exact rt
 ·refine cd h (fun hc h=>?_) fun hc h=>?_
  ·exact rt
  ·refine rn ?_
   refine I3 (body:=I5 a1) (kk:=N5) (n:=n) (s0:=0)
    (fun(gs0:Unit) (s0:Int)=>[(3,.ptr (st.length+1) 0 0 0),(4,.ptr (st.length+2) 0 0 0),(6,.int .i64 s0)])
    (fun(gs0:Unit) (s0:Int)=>st++[none,some (.arr 0 2 0 [[.sl false 1 8 (rows E1 a1.rules),.sl false 1 8 (rows E1 a1.B3)]]),some (.arr 0 2 0 [[.int .i64 0,.int .i64 0]])])
    (fun(gt0:Unit) (t0:Unit)=>[(4,.ptr (st.length+2) 0 0 0)])
    (fun(gt0:Unit) (t0:Unit)=>st++[none,none,some (.arr 0 2 0 [[.int .i64 0,.int .i64 0]])])
    () h (bm hsc)
    (fun gs0 s0 b0 h hx0=>?_) (fun gt0 t0 fr1 st1 h hb=>?_)
   ·unfold I5 at h
    refine cd h (fun hc h=>?_) fun hc h=>?_
    ·refine rn ?_
     refine eP (F7 s0) b0 (fun(gj2:Unit) (j2:Int)=>[(3,.ptr (st.length+1) 0 0 0),(4,.ptr (st.length+2) 0 0 0),(6,.int .i64 s0),(7,.int .i64 j2)]) (fun(gj2:Unit) (j2:Int)=>st++[none,some (.arr 0 2 0 [[.sl false 1 8 (rows E1 a1.rules),.sl false 1 8 (rows E1 a1.B3)]]),some (.arr 0 2 0 [[.int .i64 0,.int .i64 0]])]) (fun gj2 j2 fr1 st1 h hb=>?_) (fun hj2=>?_)
     ·try simp only[go_sem,fx]
      unfold F7 at h
      refine R8 hb ?_
      refine cd h (fun hc h=>?_) fun hc h=>?_
      ·refine ra ?_
       cases h
       refine aA ?_;have h:=congrArg some (hx0 _ rfl)
       exact rt
      ·refine rn ?_
       cases h
       exact J2 () (bm hsc)
     ·refine cd h (fun hc h=>?_) fun hc h=>?_
      ·obtain⟨fx,h⟩:=ck fx h
       refine r0 ?_
       refine hj2 () _ _ _ h ?_;exact(bm hsc)
      ·obtain⟨fx,h⟩:=ck fx h
       refine r0 ?_
       refine hj2 () _ _ _ h ?_;exact(bm hsc)
    ·refine rn ?_
     cases h
     exact U0 () (bm hsc)
   ·try simp only[go_sem,fx]
    unfold N5 at h
    refine R8 hb ?_
    exact rt
theorem cW(a0:y7)(a1:Int)(a2:Int)(r:Int)(h:G1 a0 a1 a2=some r):Pure Tryz.prog gl 7 [.agg [.sl false 2 40 (rows x5.cells a0.hierarchy.types),.sl false 3 32 (rows A0.cells a0.hierarchy.C2),.sl false 10 152 (rows w8.cells a0.rules),.sl false 9 144 (rows D0.cells a0.B3),.sl false 2 32 (rows y4.cells a0.start.nodes)],.int .i64 a1,.int .i64 a2] (.int .i64 r):=by
 intro st
 unfold G1 at h
 have fx:=trivial
 refine fb 33 [.tmp 6] [0,1,2,3,6,7,9] Tryz.func7 fun hsc=>?_
 refine cd h (fun hc h=>?_) fun hc h=>?_
 ·obtain⟨fx,h⟩:=ck fx h
  obtain⟨fx,h⟩:=ck fx h
  exact rt
 ·obtain⟨fx,h⟩:=ck fx h
  refine rn ?_
  refine dw [] 0 ?_
  obtain⟨v6,hv6,h⟩:=E7 h
  refine y9 (dR _ _ _ _ hv6) ?_
  obtain⟨fx,h⟩:=ck fx h
  try simp only[go_sem,fx]
  exact rt
theorem kC(a0:Int)(a1:Int)(a2:Int)(r:Int×Int)(h:cG a0 a1 a2=some r):Pure Tryz.prog gl 47 [.int .u64 a0,.int .u64 a1,.int .u64 a2] (.tup [.int .u64 r.1,.int .u64 r.2]):=by
 intro st
 unfold cG at h
 have fx:=trivial
 refine fb 135 [.tmp 6,.tmp 7] [0,1,2,6,7,20,24,27] Tryz.func47 fun hsc=>?_
 refine rn ?_
 refine eP (dx a2 a0 a1) r (fun(gj0:Unit) (j0:Unit)=>[(0,.int .u64 a0),(1,.int .u64 a1),(2,.int .u64 a2),(6,.int .u64 0),(7,.int .u64 0)]) (fun(gj0:Unit) (j0:Unit)=>st) (fun gj0 j0 fr1 st1 h hb=>?_) (fun hj0=>?_)
 ·try simp only[go_sem,fx]
  unfold dx at h
  refine R8 hb ?_
  refine rn ?_
  refine eP (dy a0 a2 a1) r (fun(gj1:Unit) (j1:Unit)=>[(0,.int .u64 a0),(1,.int .u64 a1),(2,.int .u64 a2),(6,.int .u64 0),(7,.int .u64 0)]) (fun(gj1:Unit) (j1:Unit)=>st) (fun gj1 j1 fr1 st1 h hb=>?_) (fun hj1=>?_)
  ·try simp only[go_sem,fx]
   unfold dy at h
   refine R8 hb ?_
   refine cd h (fun hc h=>?_) fun hc h=>?_
   ·refine rs ?_
    obtain⟨fx,h⟩:=ck fx h
    refine dw [] 0 ?_
    exact rt
   ·cases h
  ·refine cd h (fun hc h=>?_) fun hc h=>?_
   ·cases h
   ·refine r0 ?_
    refine hj1 () _ _ _ h ?_;exact(cT hsc)
 ·refine cd h (fun hc h=>?_) fun hc h=>?_
  ·cases h
  ·refine r0 ?_
   refine hj0 () _ _ _ h ?_;exact(cT hsc)
theorem AW(n:Nat)(a0:w7)(a1:w7)(r:w7×w5)(h:rZ n a0 a1=some r):Pure Tryz.prog gl 17 [.agg [.int .i64 a0.num,.int .i64 a0.den],.agg [.int .i64 a1.num,.int .i64 a1.den]] (.tup [.agg [.int .i64 r.1.num,.int .i64 r.1.den],.agg [.int .i64 r.2.code,.int .i64 r.2.index]]):=by
 intro st
 unfold rZ at h
 have fx:=trivial
 refine fb 164 [.cell 4 45,.cell 5 39] [0,1,2,3,4,5,6,7,8,9,10,11,12,13,14,15,16,17,19,20,21,22,24,25,62,80,81,82,83,84,85,86,87,88,111,112,113,153,154,155] Tryz.func17 fun hsc=>?_
 refine rn ?_
 refine dw [] 0 ?_
 refine cl h (gK n _ _) fun v1 h=>?_
 refine rn ?_
 refine dw [] 0 ?_
 obtain⟨v2,hv2,h⟩:=E7 h
 refine y9 (dN _ _ hv2) ?_
 obtain⟨fx,h⟩:=ck fx h
 try simp only[go_sem,fx]
 obtain⟨v5,hv5,h⟩:=E7 h
 refine y9 (fU _ _ _ hv5) ?_
 try simp only[go_sem,fx]
 refine rs ?_
 refine dw [] 0 ?_
 obtain⟨v6,hv6,h⟩:=E7 h
 refine y9 (dN _ _ hv6) ?_
 obtain⟨fx,h⟩:=ck fx h
 try simp only[go_sem,fx]
 obtain⟨v8,hv8,h⟩:=E7 h
 refine y9 (fU _ _ _ hv8) ?_
 try simp only[go_sem,fx]
 refine rn ?_
 refine eP (jE n v1 a1 a0) r (fun(gj0:Unit) (j0:Bool×Int×Int)=>[(4,.ptr (st.length+2) 0 0 0),(5,.ptr (st.length+3) 0 0 0),(6,.int .u64 (wr .u64 a0.den)),(7,.int .u64 (wr .u64 a1.den)),(8,.int .u64 v1),(13,.bool j0.1),(14,.int .u64 j0.2.1),(15,.int .u64 j0.2.2)]) (fun(gj0:Unit) (j0:Bool×Int×Int)=>st++[none,none,some (.arr 0 2 0 [[.int .i64 0,.int .i64 0]]),some (.arr 0 2 0 [[.int .i64 0,.int .i64 0]])]) (fun gj0 j0 fr1 st1 h hb=>?_) (fun hj0=>?_)
 ·try simp only[go_sem,fx]
  unfold jE at h
  refine R8 hb ?_
  refine cd h (fun hc h=>?_) fun hc h=>?_
  ·exact rt
  ·refine cl h (kC _ _ _) fun v13 h=>?_
   refine cl h (gK n _ _) fun v14 h=>?_
   obtain⟨fx,h⟩:=ck fx h
   refine cl h (kC _ _ _) fun v17 h=>?_
   refine rn ?_
   obtain⟨fx,h⟩:=ck fx h
   refine dw [] 0 ?_
   obtain⟨v19,hv19,h⟩:=E7 h
   refine y9 (jh _ _ _ hv19) ?_
   try simp only[go_sem,fx]
   refine cd h (fun hc h=>?_) fun hc h=>?_
   ·exact rt
   ·refine cl h (sA _ _ _) fun v20 h=>?_
    exact rt
 ·refine cd h (fun hc h=>?_) fun hc h=>?_
  ·refine cl h (tM _ _ _) fun v9 h=>?_
   refine cl h (tM _ _ _) fun v10 h=>?_
   try simp only[go_sem,fx]
   refine hj0 () _ _ _ h ?_;exact(bm hsc)
  ·refine rn ?_
   refine eP (lY n v1 a1 a0) r (fun(gj1:Unit) (j1:Int×Int×Int×Bool×Int)=>[(4,.ptr (st.length+2) 0 0 0),(5,.ptr (st.length+3) 0 0 0),(6,.int .u64 (wr .u64 a0.den)),(7,.int .u64 (wr .u64 a1.den)),(8,.int .u64 v1),(9,.int .u64 j1.2.2.2.2),(10,.int .u64 j1.1),(11,.int .u64 j1.2.1),(12,.int .u64 j1.2.2.1),(13,.bool j1.2.2.2.1)]) (fun(gj1:Unit) (j1:Int×Int×Int×Bool×Int)=>st++[none,none,some (.arr 0 2 0 [[.int .i64 0,.int .i64 0]]),some (.arr 0 2 0 [[.int .i64 0,.int .i64 0]])]) (fun gj1 j1 fr1 st1 h hb=>?_) (fun hj1=>?_)
   ·try simp only[go_sem,fx]
    unfold lY at h
    refine R8 hb ?_
    refine cl h (tN _ _ _) fun v11 h=>?_
    refine cl h (tN _ _ _) fun v12 h=>?_
    try simp only[go_sem,fx]
    refine hj0 () _ _ _ h ?_;exact(bm hsc)
   ·refine cd h (fun hc h=>?_) fun hc h=>?_
    ·refine r0 ?_
     refine hj1 () _ _ _ h ?_;exact(bm hsc)
    ·refine r0 ?_
     refine hj1 () _ _ _ h ?_;exact(bm hsc)
end Go.Proofs.YtoekkdodipnmpaaGreatDoor
