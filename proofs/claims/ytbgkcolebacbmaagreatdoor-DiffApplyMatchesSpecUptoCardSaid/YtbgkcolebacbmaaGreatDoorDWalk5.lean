import Derived.Test.YtbgkcolebacbmaaGreatDoorDWalk4
set_option linter.unusedVariables false
set_option linter.unusedSimpArgs false
set_option maxHeartbeats 2000000
set_option maxRecDepth 100000
namespace Go.Proofs.YtbgkcolebacbmaaGreatDoor
open Go Go.Am
theorem pF(n:Nat)(a0:Bs)(a1:Bs)(r:Bool)(h:Y6 n a0 a1=some r):Pure Tryz.prog gl 106 [.str a0,.str a1] (.bool r):=by
 intro st
 unfold Y6 at h
 have fx:=trivial
 refine fb 9 [.tmp 4] [0,1,4] Tryz.func106 fun hsc=>?_
 refine cl h (sj n _ _) fun v1 h=>?_
 exact rt
theorem xg(n:Nat)(a0:Bs)(r:Bool)(h:kP n a0=some r):Pure Tryz.prog gl 85 [.str a0] (.bool r):=by
 intro st
 unfold kP at h
 have fx:=trivial
 refine fb 21 [.tmp 2] [0,2,3,9,10,13,14,17,18,19] Tryz.func85 fun hsc=>?_
 refine cl h (iU n _) fun v1 h=>?_
 refine rn ?_
 obtain⟨v2,hv2,h⟩:=E6 h
 refine U4 (fun hG=>(mI n _ _ (kH hv2 (by simpa using hG)))) ?_
 refine rn ?_
 obtain⟨v3,hv3,h⟩:=E6 h
 refine U4 (fun hG=>(pF n _ _ _ (kH hv3 (by simpa using hG)))) ?_
 exact rt
theorem wG(n:Nat)(a0:w5)(a1:B7)(a2:x7)(r:Int)(h:jl n a0 a1 a2=some r):Pure Tryz.prog gl 55 [.agg [.sl false 2 40 (rows w6.cells a0.types),.sl false 3 32 (rows y3.cells a0.B5)],.agg [.sl false 1 8 (rows bP a1.up),.sl false 1 8 (rows bP a1.down)],.agg [.str a2.word,.sl false 2 32 (rows w8.cells a2.graph.nodes),.int .i64 a2.weight,.int .i64 a2.meaning.kind,.str a2.meaning.name,.int .i64 a2.meaning.index,.str a2.meaning.type.base,.sl false 2 40 (rows u0.cells a2.meaning.type.args),.sl false 6 96 (rows w7.cells a2.meaning.args)]] (.int .i64 r):=by
 intro st
 unfold jl at h
 have fx:=trivial
 refine fb 34 [.tmp 6] [0,1,2,3,4,5,6,7,11,16,17,18,19,27] Tryz.func55 fun hsc=>?_
 refine cl h (xg n _) fun v1 h=>?_
 refine cd h (fun hc h=>?_) fun hc h=>?_
 ·exact rt
 ·refine cd h (fun hc h=>?_) fun hc h=>?_
  ·exact rt
  ·refine cl h (mH n _ _ _) fun v2 h=>?_
   refine cd h (fun hc h=>?_) fun hc h=>?_
   ·exact rt
   ·refine cl h (pE n _) fun v3 h=>?_
    exact rt
theorem iE(n:Nat)(a0:x6)(r:w9)(h:W1 n a0=some r):Pure Tryz.prog gl 14 [.agg [.sl false 2 40 (rows w6.cells a0.hierarchy.types),.sl false 3 32 (rows y3.cells a0.hierarchy.B5),.sl false 10 152 (rows w4.cells a0.rules),.sl false 9 144 (rows x7.cells a0.y9),.sl false 2 32 (rows w8.cells a0.start.nodes)]] (.agg [.int .i64 r.code,.int .i64 r.index]):=by
 intro st
 unfold W1 at h
 have fx:=trivial
 refine fb 112 [.cell 2 41] [0,1,2,3,4,5,6,7,8,10,11,12,13,14,15,22,27,34,35,36,37,38,45,46,47,48,55,65,77,83,84,85,86,95,107] Tryz.func14 fun hsc=>?_
 refine cl h (qh _) fun v1 h=>?_
 refine cd h (fun hc h=>?_) fun hc h=>?_
 ·exact rt
 ·refine cd h (fun hc h=>?_) fun hc h=>?_
  ·refine cl h (aW _ _) fun v2 h=>?_
   exact rt
  ·refine cd h (fun hc h=>?_) fun hc h=>?_
   ·refine cl h (aW _ _) fun v3 h=>?_
    exact rt
   ·refine cl h (mo _) fun v4 h=>?_
    refine aln 45 fun hl0=>?_
    refine rng (body:=eB n a0 v4) (kk:=eC n a0 v4) (n:=a0.rules.length) (s0:=[])
     (fun(gs0:Unit) (k0:Nat) (s0:(List (Bs×Int)))=>[(1,.ptr st.length 0 0 0),(2,.ptr (st.length+1) 0 0 0),(3,.ptr (st.length+2) 0 0 0),(5,.ptr (st.length+4) 0 0 0),(6,.mp (st.length+5)),(45,.sl false 10 152 (rows w4.cells a0.rules)),(46,.int .i64 (↑a0.rules.length:Int)),(47,.int .i64 (↑k0:Int))])
     (fun(gs0:Unit) (k0:Nat) (s0:(List (Bs×Int)))=>st++[some (.arr 0 5 0 [[.sl false 2 40 (rows w6.cells a0.hierarchy.types),.sl false 3 32 (rows y3.cells a0.hierarchy.B5),.sl false 10 152 (rows w4.cells a0.rules),.sl false 9 144 (rows x7.cells a0.y9),.sl false 2 32 (rows w8.cells a0.start.nodes)]]),some (.arr 0 2 0 [[.int .i64 0,.int .i64 0]]),some (.arr 0 2 0 [[.sl false 2 40 (rows w6.cells a0.hierarchy.types),.sl false 3 32 (rows y3.cells a0.hierarchy.B5)]]),none,some (.arr 0 2 0 [[.sl false 1 8 (rows bP v4.up),.sl false 1 8 (rows bP v4.down)]]),some (.mps false (mrw U5 s0))])
     (fun(gt0:Unit) (t0:(List (Bs×Int)))=>[(1,.ptr st.length 0 0 0),(2,.ptr (st.length+1) 0 0 0),(3,.ptr (st.length+2) 0 0 0),(5,.ptr (st.length+4) 0 0 0)])
     (fun(gt0:Unit) (t0:(List (Bs×Int)))=>st++[some (.arr 0 5 0 [[.sl false 2 40 (rows w6.cells a0.hierarchy.types),.sl false 3 32 (rows y3.cells a0.hierarchy.B5),.sl false 10 152 (rows w4.cells a0.rules),.sl false 9 144 (rows x7.cells a0.y9),.sl false 2 32 (rows w8.cells a0.start.nodes)]]),some (.arr 0 2 0 [[.int .i64 0,.int .i64 0]]),some (.arr 0 2 0 [[.sl false 2 40 (rows w6.cells a0.hierarchy.types),.sl false 3 32 (rows y3.cells a0.hierarchy.B5)]]),none,some (.arr 0 2 0 [[.sl false 1 8 (rows bP v4.up),.sl false 1 8 (rows bP v4.down)]])])
     () fx hl0 h (bm hsc)
     (fun gs0 k0 s0 b0 fx h hx0=>?_) (fun gs0 s0=>?_) (fun gt0 t0 fr1 st1 h hb=>?_)
    ·unfold eB at h
     refine ct ?_
     refine cl h (nU _) fun v12 h=>?_
     refine cd h (fun hc h=>?_) fun hc h=>?_
     ·refine cl h (aW _ _) fun v13 h=>?_
      refine ra ?_
      cases h
      refine D6 ?_;have h:=congrArg some (hx0 _ rfl)
      exact rt
     ·refine cd h (fun hc h=>?_) fun hc h=>?_
      ·refine cl h (aW _ _) fun v14 h=>?_
       refine ra ?_
       cases h
       refine D6 ?_;have h:=congrArg some (hx0 _ rfl)
       exact rt
      ·refine r0 ?_
       obtain⟨c15,Qp,h⟩:=lR h
       have fy:=(show M4 ((get a0.rules k0).name) [.int .i64 (↑k0:Int)] (mrw U5 s0)=mrw U5 c15 from by rw[Qp];exact BR (E:=U5) _ _ _)
       refine r1 ?_
       refine cl h (wZ n _ _ _) fun v17 h=>?_
       refine cd h (fun hc h=>?_) fun hc h=>?_
       ·refine cl h (aW _ _) fun v18 h=>?_
        refine ra ?_
        cases h
        refine D6 ?_;have h:=congrArg some (hx0 _ rfl)
        exact rt
       ·refine rn ?_
        cases h
        exact aX () (bm hsc)
    ·refine cf ?_
     refine Z6 ?_;simp only[go_sem,fx]
     exact⟨(),(bm hsc)⟩
    ·try simp only[go_sem,fx]
     unfold eC at h
     refine K1 hb ?_
     refine aln 83 fun hl1=>?_
     refine rng (body:=eD n a0 v4) (kk:=eE n a0 v4) (n:=a0.y9.length) (s0:=())
      (fun(gs1:Unit) (k1:Nat) (s1:Unit)=>[(1,.ptr st.length 0 0 0),(2,.ptr (st.length+1) 0 0 0),(3,.ptr (st.length+2) 0 0 0),(5,.ptr (st.length+4) 0 0 0),(83,.sl false 9 144 (rows x7.cells a0.y9)),(84,.int .i64 (↑a0.y9.length:Int)),(85,.int .i64 (↑k1:Int))])
      (fun(gs1:Unit) (k1:Nat) (s1:Unit)=>st++[some (.arr 0 5 0 [[.sl false 2 40 (rows w6.cells a0.hierarchy.types),.sl false 3 32 (rows y3.cells a0.hierarchy.B5),.sl false 10 152 (rows w4.cells a0.rules),.sl false 9 144 (rows x7.cells a0.y9),.sl false 2 32 (rows w8.cells a0.start.nodes)]]),some (.arr 0 2 0 [[.int .i64 0,.int .i64 0]]),some (.arr 0 2 0 [[.sl false 2 40 (rows w6.cells a0.hierarchy.types),.sl false 3 32 (rows y3.cells a0.hierarchy.B5)]]),none,some (.arr 0 2 0 [[.sl false 1 8 (rows bP v4.up),.sl false 1 8 (rows bP v4.down)]])])
      (fun(gt1:Unit) (t1:Unit)=>[(1,.ptr st.length 0 0 0),(2,.ptr (st.length+1) 0 0 0),(3,.ptr (st.length+2) 0 0 0),(5,.ptr (st.length+4) 0 0 0)])
      (fun(gt1:Unit) (t1:Unit)=>st++[some (.arr 0 5 0 [[.sl false 2 40 (rows w6.cells a0.hierarchy.types),.sl false 3 32 (rows y3.cells a0.hierarchy.B5),.sl false 10 152 (rows w4.cells a0.rules),.sl false 9 144 (rows x7.cells a0.y9),.sl false 2 32 (rows w8.cells a0.start.nodes)]]),some (.arr 0 2 0 [[.int .i64 0,.int .i64 0]]),some (.arr 0 2 0 [[.sl false 2 40 (rows w6.cells a0.hierarchy.types),.sl false 3 32 (rows y3.cells a0.hierarchy.B5)]]),none,some (.arr 0 2 0 [[.sl false 1 8 (rows bP v4.up),.sl false 1 8 (rows bP v4.down)]])])
      () fx hl1 h (bm hsc)
      (fun gs1 k1 s1 b1 fx h hx1=>?_) (fun gs1 s1=>?_) (fun gt1 t1 fr1 st1 h hb=>?_)
     ·unfold eD at h
      refine ct ?_
      refine cl h (wG n _ _ _) fun v19 h=>?_
      refine cd h (fun hc h=>?_) fun hc h=>?_
      ·refine cl h (aW _ _) fun v20 h=>?_
       refine ra ?_
       cases h
       refine D6 ?_;have h:=congrArg some (hx1 _ rfl)
       exact rt
      ·refine rn ?_
       cases h
       exact aX () (bm hsc)
     ·refine cf ?_
      refine Z6 ?_;simp only[go_sem,fx]
      exact⟨(),(bm hsc)⟩
     ·try simp only[go_sem,fx]
      unfold eE at h
      refine K1 hb ?_
      refine cl h (mH n _ _ _) fun v21 h=>?_
      refine cd h (fun hc h=>?_) fun hc h=>?_
      ·refine cl h (aW _ _) fun v22 h=>?_
       exact rt
      ·exact rt
theorem jQ(a0:(List Int))(a1:(List Int))(r:Bool)(h:aK a0 a1=some r):Pure Tryz.prog gl 72 [.sl false 1 8 (rows U5 a0),.sl false 1 8 (rows U5 a1)] (.bool r):=by
 intro st
 unfold aK at h
 have fx:=trivial
 refine fb 26 [.tmp 4] [0,1,4,5,10,12,13,14,24] Tryz.func72 fun hsc=>?_
 refine cd h (fun hc h=>?_) fun hc h=>?_
 ·exact rt
 ·refine aln 0 fun hl0=>?_
  refine rng (body:=fH a1 a0) (kk:=fI) (n:=a0.length) (s0:=())
   (fun(gs0:Unit) (k0:Nat) (s0:Unit)=>[(0,.sl false 1 8 (rows U5 a0)),(1,.sl false 1 8 (rows U5 a1)),(12,.int .i64 (↑a0.length:Int)),(13,.int .i64 (↑k0:Int))])
   (fun(gs0:Unit) (k0:Nat) (s0:Unit)=>st)
   (fun(gt0:Unit) (t0:Unit)=>[])
   (fun(gt0:Unit) (t0:Unit)=>st)
   () fx hl0 h (bX hsc)
   (fun gs0 k0 s0 b0 fx h hx0=>?_) (fun gs0 s0=>?_) (fun gt0 t0 fr1 st1 h hb=>?_)
  ·unfold fH at h
   refine ct ?_
   refine rn ?_
   obtain⟨fx,h⟩:=ck fx h
   refine dw [] 0 ?_
   refine cd h (fun hc h=>?_) fun hc h=>?_
   ·refine ra ?_
    cases h
    refine D6 ?_;have h:=congrArg some (hx0 _ rfl)
    exact rt
   ·refine rn ?_
    cases h
    exact aX () (bX hsc)
  ·refine cf ?_
   refine Z6 ?_;simp only[go_sem,fx]
   exact⟨(),(bX hsc)⟩
  ·try simp only[go_sem,fx]
   unfold fI at h
   refine K1 hb ?_
   exact rt
theorem pG(a0:w6)(a1:w6)(r:Bool)(h:hY a0 a1=some r):Pure Tryz.prog gl 71 [.agg [.str a0.name,.sl false 1 8 (rows U5 a0.parents)],.agg [.str a1.name,.sl false 1 8 (rows U5 a1.parents)]] (.bool r):=by
 intro st
 unfold hY at h
 have fx:=trivial
 refine fb 17 [.tmp 4] [0,1,2,3,4,11,12,13,14,15] Tryz.func71 fun hsc=>?_
 refine rn ?_
 obtain⟨v1,hv1,h⟩:=E6 h
 refine U4 (fun hG=>(jQ _ _ _ (kH hv1 (by simpa using hG)))) ?_
 exact rt
theorem bY(a0:(List w6))(a1:(List w6))(r:Bool)(h:L6 a0 a1=some r):Pure Tryz.prog gl 70 [.sl false 2 40 (rows w6.cells a0),.sl false 2 40 (rows w6.cells a1),.fn 71 [] []] (.bool r):=by
 intro st
 unfold L6 at h
 have fx:=trivial
 refine fb 32 [.tmp 6] [0,1,2,6,7,8,9,14,15,16,17,18,30] Tryz.func70 fun hsc=>?_
 refine cd h (fun hc h=>?_) fun hc h=>?_
 ·exact rt
 ·refine aln 15 fun hl0=>?_
  refine rng (body:=J4 a1 a0) (kk:=J5) (n:=a0.length) (s0:=())
   (fun(gs0:Unit) (k0:Nat) (s0:Unit)=>[(1,.sl false 2 40 (rows w6.cells a1)),(2,.fn 71 [] []),(15,.sl false 2 40 (rows w6.cells a0)),(16,.int .i64 (↑a0.length:Int)),(17,.int .i64 (↑k0:Int))])
   (fun(gs0:Unit) (k0:Nat) (s0:Unit)=>st)
   (fun(gt0:Unit) (t0:Unit)=>[])
   (fun(gt0:Unit) (t0:Unit)=>st)
   () fx hl0 h (bX hsc)
   (fun gs0 k0 s0 b0 fx h hx0=>?_) (fun gs0 s0=>?_) (fun gt0 t0 fr1 st1 h hb=>?_)
  ·unfold J4 at h
   refine ct ?_
   obtain⟨fx,h⟩:=ck fx h
   refine cl h (pG _ _) fun v2 h=>?_
   refine cd h (fun hc h=>?_) fun hc h=>?_
   ·refine ra ?_
    cases h
    refine D6 ?_;have h:=congrArg some (hx0 _ rfl)
    exact rt
   ·refine rn ?_
    cases h
    exact aX () (bm0 hsc)
  ·refine cf ?_
   refine Z6 ?_;simp only[go_sem,fx]
   exact⟨(),(bX hsc)⟩
  ·try simp only[go_sem,fx]
   unfold J5 at h
   refine K1 hb ?_
   exact rt
theorem eF(a0:(List y3))(a1:(List y3))(r:Bool)(h:M7 a0 a1=some r):Pure Tryz.prog gl 66 [.sl false 3 32 (rows y3.cells a0),.sl false 3 32 (rows y3.cells a1)] (.bool r):=by
 intro st
 unfold M7 at h
 have fx:=trivial
 refine fb 26 [.tmp 4] [0,1,4,5,10,12,13,14,24] Tryz.func66 fun hsc=>?_
 refine cd h (fun hc h=>?_) fun hc h=>?_
 ·exact rt
 ·refine aln 0 fun hl0=>?_
  refine rng (body:=ay a1 a0) (kk:=aA) (n:=a0.length) (s0:=())
   (fun(gs0:Unit) (k0:Nat) (s0:Unit)=>[(0,.sl false 3 32 (rows y3.cells a0)),(1,.sl false 3 32 (rows y3.cells a1)),(12,.int .i64 (↑a0.length:Int)),(13,.int .i64 (↑k0:Int))])
   (fun(gs0:Unit) (k0:Nat) (s0:Unit)=>st)
   (fun(gt0:Unit) (t0:Unit)=>[])
   (fun(gt0:Unit) (t0:Unit)=>st)
   () fx hl0 h (bX hsc)
   (fun gs0 k0 s0 b0 fx h hx0=>?_) (fun gs0 s0=>?_) (fun gt0 t0 fr1 st1 h hb=>?_)
  ·unfold ay at h
   refine ct ?_
   refine rn ?_
   obtain⟨fx,h⟩:=ck fx h
   refine dw [] 0 ?_
   refine cd h (fun hc h=>?_) fun hc h=>?_
   ·refine ra ?_
    cases h
    refine D6 ?_;have h:=congrArg some (hx0 _ rfl)
    exact rt
   ·refine rn ?_
    cases h
    exact aX () (bX hsc)
  ·refine cf ?_
   refine Z6 ?_;simp only[go_sem,fx]
   exact⟨(),(bX hsc)⟩
  ·try simp only[go_sem,fx]
   unfold aA at h
   refine K1 hb ?_
   exact rt
theorem qj(a0:w5)(a1:w5)(r:Bool)(h:iQ a0 a1=some r):Pure Tryz.prog gl 39 [.agg [.sl false 2 40 (rows w6.cells a0.types),.sl false 3 32 (rows y3.cells a0.B5)],.agg [.sl false 2 40 (rows w6.cells a1.types),.sl false 3 32 (rows y3.cells a1.B5)]] (.bool r):=by
 intro st
 unfold iQ at h
 have fx:=trivial
 refine fb 17 [.tmp 4] [0,1,2,3,4,11,12,13,14,15] Tryz.func39 fun hsc=>?_
 refine cl h (bY _ _) fun v1 h=>?_
 refine rn ?_
 obtain⟨v2,hv2,h⟩:=E6 h
 refine U4 (fun hG=>(eF _ _ _ (kH hv2 (by simpa using hG)))) ?_
 exact rt
theorem kh(a0:(List y3))(r:(List y3))(h:bU a0=some r):Pure Tryz.prog gl 73 [.sl false 3 32 (rows y3.cells a0)] (.sl false 3 32 (rows y3.cells r)):=by
 intro st
 refine uz ?_
 unfold bU at h
 have hr:=Option.some.inj h
 subst hr
 refine LU (N:=8) (rs:=[.tmp 2]) (keep:=[0,2,4]) Tryz.func73 rfl rfl rfl (by kernel_rfl) rfl fun hsc=>?_
 refine MO (t:=0) rfl fun hl=>?_
 (repeat apply sq_);apply er_;simp only[go_sem]
 (repeat apply sq_);refine vD rfl ⟨94,by rw[Sk]⟩ (by omega) (by omega) fun c hcn=>?_
 simp only[go_sem]
 (repeat apply sq_);refine sx (by rfl) (fun hc=>?_) fun hc=>?_
 ·(repeat apply sq_);apply er_;simp only[go_sem]
  refine EX ?_
  try simp only[go_sem]
  have Oy:=hcn hc
  rw[Oy]
  refine Hu ?_;simp only[go_sem]
  exact oJ hsc (.B0 _ _ _ (by decide)) (by simp) ⟨rfl,rfl⟩
 ·refine tV ?_;try simp only[go_sem]
  (repeat apply sq_);apply er_;simp only[go_sem]
  simp only[BQ]at hl
  refine⟨⟨by omega,by simp only[top]at *; omega⟩,?_⟩
  refine EX ?_
  try simp only[go_sem]
  refine Hu ?_;simp only[go_sem]
  exact nE hsc (.ref _ _ _ _ _ _ _ _ _ (fK.trans rfl) sQ (by decide) (lG a0) (by simp only[go_sem])) (by simp) ⟨rfl,rfl⟩
theorem qk(a0:(List Int))(r:(List Int))(h:iR a0=some r):Pure Tryz.prog gl 74 [.sl false 1 8 (rows U5 a0)] (.sl false 1 8 (rows U5 r)):=by
 intro st
 refine uz ?_
 unfold iR at h
 have hr:=Option.some.inj h
 subst hr
 refine LU (N:=8) (rs:=[.tmp 2]) (keep:=[0,2,4]) Tryz.func74 rfl rfl rfl (by kernel_rfl) rfl fun hsc=>?_
 refine MO (t:=0) rfl fun hl=>?_
 (repeat apply sq_);apply er_;simp only[go_sem]
 (repeat apply sq_);refine vD rfl ⟨3,by rw[Sl]⟩ (by omega) (by omega) fun c hcn=>?_
 simp only[go_sem]
 (repeat apply sq_);refine sx (by rfl) (fun hc=>?_) fun hc=>?_
 ·(repeat apply sq_);apply er_;simp only[go_sem]
  refine EX ?_
  try simp only[go_sem]
  have Oy:=hcn hc
  rw[Oy]
  refine Hu ?_;simp only[go_sem]
  exact oJ hsc (.B0 _ _ _ (by decide)) (by simp) ⟨rfl,rfl⟩
 ·refine tV ?_;try simp only[go_sem]
  (repeat apply sq_);apply er_;simp only[go_sem]
  simp only[BQ]at hl
  refine⟨⟨by omega,by simp only[top]at *; omega⟩,?_⟩
  refine EX ?_
  try simp only[go_sem]
  refine Hu ?_;simp only[go_sem]
  exact nE hsc (.ref _ _ _ _ _ _ _ _ _ (fK.trans rfl) sQ (by decide) (lG a0) (by simp only[go_sem])) (by simp) ⟨rfl,rfl⟩
theorem jw(a0:w5)(r:w5)(h:Y7 a0=some r):Pure Tryz.prog gl 40 [.agg [.sl false 2 40 (rows w6.cells a0.types),.sl false 3 32 (rows y3.cells a0.B5)]] (.agg [.sl false 2 40 (rows w6.cells r.types),.sl false 3 32 (rows y3.cells r.B5)]):=by
 intro st
 unfold Y7 at h
 have fx:=trivial
 refine fb 30 [.cell 2 25] [0,1,2,3,5,11,12,13,14] Tryz.func40 fun hsc=>?_
 refine cl h (kh _) fun v1 h=>?_
 refine r0 ?_
 (repeat apply sq_)
 refine bW 2 40 ?_
 try simp only[List.append_assoc,List.cons_append,List.nil_append]
 refine K1 (F:=[(2,.ptr (st.length+1) 0 0 0),(3,.ptr (st.length+2) 0 0 0),(11,.sl false 2 40 (rows w6.cells a0.types)),(12,.int .i64 (↑a0.types.length:Int)),(13,.int .i64 0)]) (T:=st++[some (.arr 0 2 0 [[.sl false 2 40 (rows w6.cells a0.types),.sl false 3 32 (rows y3.cells a0.B5)]]),some (.arr 0 2 0 [[.B0,.B0]]),some (.arr 0 2 0 [[.ref false (st.length+3) 0 0 0,.sl false 3 32 (rows y3.cells v1)]]),some (.arr 0 2 40 (rows w6.cells []))]) (jx hsc (.lv (.lv (.live _ _ _ _ (.arr _ _ _ _ _ (.cons _ _ _ _ (.cons _ _ _ _ (.nref _ _ _ _ _ _ (fK.trans rfl)) (.cons _ _ _ _ .s .nil)) (.same _))) (.lv (.nil _))))) (by simp) ⟨.s,.s,.s,.s,.s,trivial⟩ (by simp)) ?_
 refine aln 11 fun hl0=>?_
 refine rng (body:=eN a0) (kk:=eO v1) (n:=a0.types.length) (s0:=[])
  (fun(gs0:Nat) (k0:Nat) (s0:(List w6))=>[(2,.ptr (st.length+1) 0 0 0),(3,.ptr (st.length+2) 0 0 0),(11,.sl false 2 40 (rows w6.cells a0.types)),(12,.int .i64 (↑a0.types.length:Int)),(13,.int .i64 (↑k0:Int))])
  (fun(gs0:Nat) (k0:Nat) (s0:(List w6))=>st++[none,some (.arr 0 2 0 [[.B0,.B0]]),some (.arr 0 2 0 [[.ref false (st.length+3) gs0 0 s0.length,.sl false 3 32 (rows y3.cells v1)]]),some (.arr gs0 2 40 (rows w6.cells s0))])
  (fun(gt0:Nat) (t0:(List w6))=>[(2,.ptr (st.length+1) 0 0 0),(3,.ptr (st.length+2) 0 0 0)])
  (fun(gt0:Nat) (t0:(List w6))=>st++[none,some (.arr 0 2 0 [[.B0,.B0]]),some (.arr 0 2 0 [[.ref false (st.length+3) gt0 0 t0.length,.sl false 3 32 (rows y3.cells v1)]]),some (.arr gt0 2 40 (rows w6.cells t0))])
  0 fx hl0 h (bm hsc)
  (fun gs0 k0 s0 b0 fx h hx0=>?_) (fun gs0 s0=>?_) (fun gt0 t0 fr1 st1 h hb=>?_)
 ·unfold eN at h
  refine ct ?_
  refine rn ?_
  refine dw [] 2 ?_
  obtain⟨v9,hv9,h⟩:=E6 h
  refine B3 (qk _ _ hv9) ?_
  obtain⟨c11,Oz,h⟩:=lR h
  have fy:=(show rows w6.cells s0++[[.str ((get a0.types k0).name),.sl false 1 8 (rows U5 v9)]]=rows w6.cells c11 from by rw[Oz];first|exact O2 (E:=w6.cells) s0 [(w6.mk ((get a0.types k0).name) v9)]|simp only[go_sem,rows,List.map_append,List.map_cons,List.map_nil])
  have fy:=fa fy (show s0.length+1=c11.length from by rw[Oz];simp)
  obtain⟨fx,h⟩:=ck fx h
  try simp only[go_sem,fx,fy]
  refine rn ?_
  cases h
  exact aX (gs0+1) (bm hsc)
 ·refine cf ?_
  refine Z6 ?_;simp only[go_sem,fx]
  exact⟨gs0,(bm hsc)⟩
 ·try simp only[go_sem,fx]
  unfold eO at h
  refine K1 hb ?_
  refine rr ?_
  exact fo (.agg [.sl false 2 40 (rows w6.cells t0),.sl false 3 32 (rows y3.cells v1)]) (.agg _ _ (.cons _ _ _ _ (.ref _ _ _ _ _ _ _ _ _ (fK.trans rfl) sQ (by decide) (lG _) (by simp only[go_sem])) (.cons _ _ _ _ .s .nil))) h hsc
theorem eG(a0:(List D4))(a1:(List D4))(r:Bool)(h:M8 a0 a1=some r):Pure Tryz.prog gl 69 [.sl false 2 16 (rows D4.cells a0),.sl false 2 16 (rows D4.cells a1)] (.bool r):=by
 intro st
 unfold M8 at h
 have fx:=trivial
 refine fb 26 [.tmp 4] [0,1,4,5,10,12,13,14,24] Tryz.func69 fun hsc=>?_
 refine cd h (fun hc h=>?_) fun hc h=>?_
 ·exact rt
 ·refine aln 0 fun hl0=>?_
  refine rng (body:=aB a1 a0) (kk:=aC) (n:=a0.length) (s0:=())
   (fun(gs0:Unit) (k0:Nat) (s0:Unit)=>[(0,.sl false 2 16 (rows D4.cells a0)),(1,.sl false 2 16 (rows D4.cells a1)),(12,.int .i64 (↑a0.length:Int)),(13,.int .i64 (↑k0:Int))])
   (fun(gs0:Unit) (k0:Nat) (s0:Unit)=>st)
   (fun(gt0:Unit) (t0:Unit)=>[])
   (fun(gt0:Unit) (t0:Unit)=>st)
   () fx hl0 h (bX hsc)
   (fun gs0 k0 s0 b0 fx h hx0=>?_) (fun gs0 s0=>?_) (fun gt0 t0 fr1 st1 h hb=>?_)
  ·unfold aB at h
   refine ct ?_
   refine rn ?_
   obtain⟨fx,h⟩:=ck fx h
   refine dw [] 0 ?_
   refine cd h (fun hc h=>?_) fun hc h=>?_
   ·refine ra ?_
    cases h
    refine D6 ?_;have h:=congrArg some (hx0 _ rfl)
    exact rt
   ·refine rn ?_
    cases h
    exact aX () (bX hsc)
  ·refine cf ?_
   refine Z6 ?_;simp only[go_sem,fx]
   exact⟨(),(bX hsc)⟩
  ·try simp only[go_sem,fx]
   unfold aC at h
   refine K1 hb ?_
   exact rt
theorem tB(a0:w8)(a1:w8)(r:Bool)(h:mG a0 a1=some r):Pure Tryz.prog gl 76 [.agg [.int .i64 a0.type,.sl false 2 16 (rows D4.cells a0.links)],.agg [.int .i64 a1.type,.sl false 2 16 (rows D4.cells a1.links)]] (.bool r):=by
 intro st
 unfold mG at h
 have fx:=trivial
 refine fb 17 [.tmp 4] [0,1,2,3,4,11,12,13,14,15] Tryz.func76 fun hsc=>?_
 refine rn ?_
 obtain⟨v1,hv1,h⟩:=E6 h
 refine U4 (fun hG=>(eG _ _ _ (kH hv1 (by simpa using hG)))) ?_
 exact rt
theorem bZ(a0:(List w8))(a1:(List w8))(r:Bool)(h:L7 a0 a1=some r):Pure Tryz.prog gl 75 [.sl false 2 32 (rows w8.cells a0),.sl false 2 32 (rows w8.cells a1),.fn 76 [] []] (.bool r):=by
 intro st
 unfold L7 at h
 have fx:=trivial
 refine fb 32 [.tmp 6] [0,1,2,6,7,8,9,14,15,16,17,18,30] Tryz.func75 fun hsc=>?_
 refine cd h (fun hc h=>?_) fun hc h=>?_
 ·exact rt
 ·refine aln 15 fun hl0=>?_
  refine rng (body:=J6 a1 a0) (kk:=J7) (n:=a0.length) (s0:=())
   (fun(gs0:Unit) (k0:Nat) (s0:Unit)=>[(1,.sl false 2 32 (rows w8.cells a1)),(2,.fn 76 [] []),(15,.sl false 2 32 (rows w8.cells a0)),(16,.int .i64 (↑a0.length:Int)),(17,.int .i64 (↑k0:Int))])
   (fun(gs0:Unit) (k0:Nat) (s0:Unit)=>st)
   (fun(gt0:Unit) (t0:Unit)=>[])
   (fun(gt0:Unit) (t0:Unit)=>st)
   () fx hl0 h (bX hsc)
   (fun gs0 k0 s0 b0 fx h hx0=>?_) (fun gs0 s0=>?_) (fun gt0 t0 fr1 st1 h hb=>?_)
  ·unfold J6 at h
   refine ct ?_
   obtain⟨fx,h⟩:=ck fx h
   refine cl h (tB _ _) fun v2 h=>?_
   refine cd h (fun hc h=>?_) fun hc h=>?_
   ·refine ra ?_
    cases h
    refine D6 ?_;have h:=congrArg some (hx0 _ rfl)
    exact rt
   ·refine rn ?_
    cases h
    exact aX () (bm0 hsc)
  ·refine cf ?_
   refine Z6 ?_;simp only[go_sem,fx]
   exact⟨(),(bX hsc)⟩
  ·try simp only[go_sem,fx]
   unfold J7 at h
   refine K1 hb ?_
   exact rt
end Go.Proofs.YtbgkcolebacbmaaGreatDoor
