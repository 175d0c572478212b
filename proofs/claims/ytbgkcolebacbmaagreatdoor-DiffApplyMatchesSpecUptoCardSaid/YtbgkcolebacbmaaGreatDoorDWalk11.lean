import Derived.Test.YtbgkcolebacbmaaGreatDoorDWalk10
set_option linter.unusedVariables false
set_option linter.unusedSimpArgs false
set_option maxHeartbeats 2000000
set_option maxRecDepth 100000
namespace Go.Proofs.YtbgkcolebacbmaaGreatDoor
open Go Go.Am
theorem eR:∀(n:Nat) (a0:w7) (a1:w7) (r:Bool) (h:E7 n a0 a1=some r),Pure Tryz.prog gl 67 [.agg [.int .i64 a0.kind,.str a0.name,.int .i64 a0.index,.str a0.type.base,.sl false 2 40 (rows u0.cells a0.type.args),.sl false 6 96 (rows w7.cells a0.args)],.agg [.int .i64 a1.kind,.str a1.name,.int .i64 a1.index,.str a1.type.base,.sl false 2 40 (rows u0.cells a1.type.args),.sl false 6 96 (rows w7.cells a1.args)]] (.bool r):=by
 intro n
 induction n with
 |zero=>intro a0 a1 r h;cases h
 |succ n ih=>
  intro a0 a1 r h st
  unfold E7 at h
  have fx:=trivial
  refine fb 61 [.tmp 4] [0,1,2,3,4,5,12,13,14,15,16,19,20,21,22,23,26,27,28,29,30,31,34,35,36,37,38,39,40,41,44,45,46,59] Tryz.func67 fun hsc=>?_
  refine rn ?_
  obtain⟨v1,hv1,h⟩:=E6 h
  refine U4 (fun hG=>(jL n _ _ _ (kH hv1 (by simpa using hG)))) ?_
  refine cd h (fun hc h=>?_) fun hc h=>?_
  ·exact rt
  ·obtain⟨fx,h⟩:=ck fx h
   refine rn ?_
   refine rng (body:=P3 (E7 n) a1 a0) (kk:=aU) (n:=a0.args.length) (s0:=())
    (fun(gs0:Unit) (k0:Nat) (s0:Unit)=>[(2,.ptr st.length 0 0 0),(3,.ptr (st.length+1) 0 0 0),(44,.int .i64 (↑a0.args.length:Int)),(45,.int .i64 (↑k0:Int))])
    (fun(gs0:Unit) (k0:Nat) (s0:Unit)=>st++[some (.arr 0 6 0 [[.int .i64 a0.kind,.str a0.name,.int .i64 a0.index,.str a0.type.base,.sl false 2 40 (rows u0.cells a0.type.args),.sl false 6 96 (rows w7.cells a0.args)]]),some (.arr 0 6 0 [[.int .i64 a1.kind,.str a1.name,.int .i64 a1.index,.str a1.type.base,.sl false 2 40 (rows u0.cells a1.type.args),.sl false 6 96 (rows w7.cells a1.args)]])])
    (fun(gt0:Unit) (t0:Unit)=>[])
    (fun(gt0:Unit) (t0:Unit)=>st)
    () fx fx.2 h (bm hsc)
    (fun gs0 k0 s0 b0 fx h hx0=>?_) (fun gs0 s0=>?_) (fun gt0 t0 fr1 st1 h hb=>?_)
   ·unfold P3 at h
    refine ct ?_
    refine rn ?_
    obtain⟨fx,h⟩:=ck fx h
    refine dw [] 0 ?_
    obtain⟨v4,hv4,h⟩:=E6 h
    refine B3 (ih _ _ _ hv4) ?_
    try simp only[go_sem,fx]
    refine cd h (fun hc h=>?_) fun hc h=>?_
    ·refine ra ?_
     cases h
     refine D6 ?_;have h:=congrArg some (hx0 _ rfl)
     exact rt
    ·refine rn ?_
     cases h
     exact aX () (bm hsc)
   ·refine cf ?_
    refine Z6 ?_;simp only[go_sem,fx]
    exact⟨(),(bm0 hsc)⟩
   ·try simp only[go_sem,fx]
    unfold aU at h
    refine K1 hb ?_
    exact rt
theorem nh(n:Nat)(a0:(List w4))(a1:(List w4))(r:Bool)(h:X8 n a0 a1=some r):Pure Tryz.prog gl 25 [.sl false 10 152 (rows w4.cells a0),.sl false 10 152 (rows w4.cells a1)] (.bool r):=by
 intro st
 unfold X8 at h
 have fx:=trivial
 refine fb 62 [.tmp 4] [0,1,4,5,6,7,12,14,15,16,32,33,34,35,36,39,40,41,42,43,46,47,48,49,50,51,54,55,56,57,58,59,60] Tryz.func25 fun hsc=>?_
 refine cd h (fun hc h=>?_) fun hc h=>?_
 ·exact rt
 ·refine aln 0 fun hl0=>?_
  refine rng (body:=T3 n a1 a0) (kk:=cM) (n:=a0.length) (s0:=())
   (fun(gs0:Unit) (k0:Nat) (s0:Unit)=>[(0,.sl false 10 152 (rows w4.cells a0)),(1,.sl false 10 152 (rows w4.cells a1)),(14,.int .i64 (↑a0.length:Int)),(15,.int .i64 (↑k0:Int))])
   (fun(gs0:Unit) (k0:Nat) (s0:Unit)=>st)
   (fun(gt0:Unit) (t0:Unit)=>[])
   (fun(gt0:Unit) (t0:Unit)=>st)
   () fx hl0 h (bX hsc)
   (fun gs0 k0 s0 b0 fx h hx0=>?_) (fun gs0 s0=>?_) (fun gt0 t0 fr1 st1 h hb=>?_)
  ·unfold T3 at h
   refine ct ?_
   refine rn ?_
   obtain⟨fx,h⟩:=ck fx h
   refine dw [6,7,10] 2 ?_
   try refine⟨by(simp<;>omega),?_⟩
   refine rn ?_
   obtain⟨v5,hv5,h⟩:=E6 h
   refine U4 (fun hG=>(cP _ _ _ (kH hv5 (by simpa using hG)))) ?_
   refine rn ?_
   obtain⟨v6,hv6,h⟩:=E6 h
   refine U4 (fun hG=>(eR n _ _ _ (kH hv6 (by simpa using hG)))) ?_
   refine cd h (fun hc h=>?_) fun hc h=>?_
   ·refine ra ?_
    cases h
    refine D6 ?_;have h:=congrArg some (hx0 _ rfl)
    exact rt
   ·refine rn ?_
    cases h
    exact aX () (bm0 hsc)
  ·refine cf ?_
   refine Z6 ?_;simp only[go_sem,fx]
   exact⟨(),(bX hsc)⟩
  ·try simp only[go_sem,fx]
   unfold cM at h
   refine K1 hb ?_
   exact rt
theorem oq(n:Nat)(a0:x7)(a1:x7)(r:Bool)(h:aS n a0 a1=some r):Pure Tryz.prog gl 68 [.agg [.str a0.word,.sl false 2 32 (rows w8.cells a0.graph.nodes),.int .i64 a0.weight,.int .i64 a0.meaning.kind,.str a0.meaning.name,.int .i64 a0.meaning.index,.str a0.meaning.type.base,.sl false 2 40 (rows u0.cells a0.meaning.type.args),.sl false 6 96 (rows w7.cells a0.meaning.args)],.agg [.str a1.word,.sl false 2 32 (rows w8.cells a1.graph.nodes),.int .i64 a1.weight,.int .i64 a1.meaning.kind,.str a1.meaning.name,.int .i64 a1.meaning.index,.str a1.meaning.type.base,.sl false 2 40 (rows u0.cells a1.meaning.type.args),.sl false 6 96 (rows w7.cells a1.meaning.args)]] (.bool r):=by
 intro st
 unfold aS at h
 have fx:=trivial
 refine fb 31 [.tmp 4] [0,1,2,3,4,11,12,13,14,15,18,19,20,21,22,25,26,27,28,29] Tryz.func68 fun hsc=>?_
 refine rn ?_
 obtain⟨v1,hv1,h⟩:=E6 h
 refine U4 (fun hG=>(cP _ _ _ (kH hv1 (by simpa using hG)))) ?_
 refine rn ?_
 obtain⟨v2,hv2,h⟩:=E6 h
 refine U4 (fun hG=>(eR n _ _ _ (kH hv2 (by simpa using hG)))) ?_
 exact rt
theorem ni(n:Nat)(a0:(List x7))(a1:(List x7))(r:Bool)(h:X9 n a0 a1=some r):Pure Tryz.prog gl 26 [.sl false 9 144 (rows x7.cells a0),.sl false 9 144 (rows x7.cells a1)] (.bool r):=by
 intro st
 unfold X9 at h
 have fx:=trivial
 refine fb 27 [.tmp 4] [0,1,4,5,10,12,13,14,25] Tryz.func26 fun hsc=>?_
 refine cd h (fun hc h=>?_) fun hc h=>?_
 ·exact rt
 ·refine aln 0 fun hl0=>?_
  refine rng (body:=T4 n a1 a0) (kk:=cN) (n:=a0.length) (s0:=())
   (fun(gs0:Unit) (k0:Nat) (s0:Unit)=>[(0,.sl false 9 144 (rows x7.cells a0)),(1,.sl false 9 144 (rows x7.cells a1)),(12,.int .i64 (↑a0.length:Int)),(13,.int .i64 (↑k0:Int))])
   (fun(gs0:Unit) (k0:Nat) (s0:Unit)=>st)
   (fun(gt0:Unit) (t0:Unit)=>[])
   (fun(gt0:Unit) (t0:Unit)=>st)
   () fx hl0 h (bX hsc)
   (fun gs0 k0 s0 b0 fx h hx0=>?_) (fun gs0 s0=>?_) (fun gt0 t0 fr1 st1 h hb=>?_)
  ·unfold T4 at h
   refine ct ?_
   refine rn ?_
   obtain⟨fx,h⟩:=ck fx h
   refine dw [] 0 ?_
   obtain⟨v2,hv2,h⟩:=E6 h
   refine B3 (oq n _ _ _ hv2) ?_
   try simp only[go_sem,fx]
   refine cd h (fun hc h=>?_) fun hc h=>?_
   ·refine ra ?_
    cases h
    refine D6 ?_;have h:=congrArg some (hx0 _ rfl)
    exact rt
   ·refine rn ?_
    cases h
    exact aX () (bX hsc)
  ·refine cf ?_
   refine Z6 ?_;simp only[go_sem,fx]
   exact⟨(),(bX hsc)⟩
  ·try simp only[go_sem,fx]
   unfold cN at h
   refine K1 hb ?_
   exact rt
theorem eS(n:Nat)(a0:x6)(a1:x6)(r:Bool)(h:O1 n a0 a1=some r):Pure Tryz.prog gl 10 [.agg [.sl false 2 40 (rows w6.cells a0.hierarchy.types),.sl false 3 32 (rows y3.cells a0.hierarchy.B5),.sl false 10 152 (rows w4.cells a0.rules),.sl false 9 144 (rows x7.cells a0.y9),.sl false 2 32 (rows w8.cells a0.start.nodes)],.agg [.sl false 2 40 (rows w6.cells a1.hierarchy.types),.sl false 3 32 (rows y3.cells a1.hierarchy.B5),.sl false 10 152 (rows w4.cells a1.rules),.sl false 9 144 (rows x7.cells a1.y9),.sl false 2 32 (rows w8.cells a1.start.nodes)]] (.bool r):=by
 intro st
 unfold O1 at h
 have fx:=trivial
 refine fb 31 [.tmp 4] [0,1,2,3,4,11,12,13,14,15,18,19,20,21,22,25,26,27,28,29] Tryz.func10 fun hsc=>?_
 refine cl h (ju _ _) fun v1 h=>?_
 refine rn ?_
 obtain⟨v2,hv2,h⟩:=E6 h
 refine U4 (fun hG=>(nh n _ _ _ (kH hv2 (by simpa using hG)))) ?_
 refine rn ?_
 obtain⟨v3,hv3,h⟩:=E6 h
 refine U4 (fun hG=>(ni n _ _ _ (kH hv3 (by simpa using hG)))) ?_
 refine rn ?_
 obtain⟨v4,hv4,h⟩:=E6 h
 refine U4 (fun hG=>(cP _ _ _ (kH hv4 (by simpa using hG)))) ?_
 exact rt
theorem lx(n:Nat)(r:Bool)(h:T5 n=some r):Pure Tryz.prog gl 4 [] (.bool r):=by
 intro st
 unfold T5 at h
 have fx:=trivial
 refine fb 54 [.tmp 0] [0,1,2,3,4,5,6,7,8,36,37,38,41,42,45,46,47,50,51,52] Tryz.func4 fun hsc=>?_
 refine cl h (gN n) fun v1 h=>?_
 refine cl h (gN n) fun v2 h=>?_
 obtain⟨fx,h⟩:=ck fx h
 refine cl h (wD n _ _) fun v5 h=>?_
 refine cl h (wE _) fun v6 h=>?_
 refine cl h (tR n _ _) fun v7 h=>?_
 refine rn ?_
 obtain⟨v8,hv8,h⟩:=E6 h
 refine U4 (fun hG=>(eS n _ _ _ (kH hv8 (by simpa using hG)))) ?_
 exact rt
theorem jv(n:Nat)(a0:y8)(r:w9)(h:P1 n a0=some r):Pure Tryz.prog gl 6 [.agg [.sl false 2 48 (rows w5.cells a0.hierarchy),.sl false 1 24 (rows y4.cells a0.start),.sl false 3 40 (rows y7.cells a0.rules),.sl false 3 40 (rows A9.cells a0.y9)]] (.agg [.int .i64 r.code,.int .i64 r.index]):=by
 intro st
 unfold P1 at h
 have fx:=trivial
 refine fb 103 [.cell 2 41] [0,1,2,3,4,5,6,7,13,14,15,16,19,20,21,22,25,26,27,28,29,39,46,85,86,89,90,93,94,97,98,99] Tryz.func6 fun hsc=>?_
 refine cd h (fun hc h=>?_) fun hc h=>?_
 ·exact rt
 ·refine rn ?_
  refine F1 (body:=L1 a0) (kk:=Q7) (n:=n) (s0:=0)
   (fun(gs0:Unit) (s0:Int)=>[(1,.ptr st.length 0 0 0),(2,.ptr (st.length+1) 0 0 0),(3,.int .i64 s0)])
   (fun(gs0:Unit) (s0:Int)=>st++[some (.arr 0 4 0 [[.sl false 2 48 (rows w5.cells a0.hierarchy),.sl false 1 24 (rows y4.cells a0.start),.sl false 3 40 (rows y7.cells a0.rules),.sl false 3 40 (rows A9.cells a0.y9)]]),some (.arr 0 2 0 [[.int .i64 0,.int .i64 0]])])
   (fun(gt0:Unit) (t0:Unit)=>[(2,.ptr (st.length+1) 0 0 0)])
   (fun(gt0:Unit) (t0:Unit)=>st++[none,some (.arr 0 2 0 [[.int .i64 0,.int .i64 0]])])
   () h (bm hsc)
   (fun gs0 s0 b0 h hx0=>?_) (fun gt0 t0 fr1 st1 h hb=>?_)
  ·unfold L1 at h
   refine cd h (fun hc h=>?_) fun hc h=>?_
   ·refine rn ?_
    refine jP (G7 s0) b0 (fun(gj2:Unit) (j2:Int×Int×Int)=>[(1,.ptr st.length 0 0 0),(2,.ptr (st.length+1) 0 0 0),(3,.int .i64 s0),(4,.int .i64 j2.1),(5,.int .i64 j2.2.1),(6,.int .i64 j2.2.2)]) (fun(gj2:Unit) (j2:Int×Int×Int)=>st++[some (.arr 0 4 0 [[.sl false 2 48 (rows w5.cells a0.hierarchy),.sl false 1 24 (rows y4.cells a0.start),.sl false 3 40 (rows y7.cells a0.rules),.sl false 3 40 (rows A9.cells a0.y9)]]),some (.arr 0 2 0 [[.int .i64 0,.int .i64 0]])]) (fun gj2 j2 fr1 st1 h hb=>?_) (fun hj2=>?_)
    ·try simp only[go_sem,fx]
     unfold G7 at h
     refine K1 hb ?_
     refine cd h (fun hc h=>?_) fun hc h=>?_
     ·refine ra ?_
      cases h
      refine cX ?_;have h:=congrArg some (hx0 _ rfl)
      exact rt
     ·refine rn ?_
      cases h
      exact G0 () (bm hsc)
    ·refine cd h (fun hc h=>?_) fun hc h=>?_
     ·refine rs ?_
      obtain⟨fx,h⟩:=ck fx h
      refine dw [] 0 ?_
      refine hj2 () _ _ _ h ?_;exact(bm hsc)
     ·obtain⟨fx,h⟩:=ck fx h
      refine rn ?_
      refine dw [] 0 ?_
      refine hj2 () _ _ _ h ?_;exact(bm hsc)
   ·refine rn ?_
    cases h
    exact P0 () (bm hsc)
  ·try simp only[go_sem,fx]
   unfold Q7 at h
   refine K1 hb ?_
   exact rt
theorem dR(a0:Bs)(r:Bool)(h:S4 a0=some r):Pure Tryz.prog gl 20 [.str a0] (.bool r):=by
 intro st
 unfold S4 at h
 have fx:=trivial
 refine fb 54 [.tmp 2] [0,2,3,4,5,6,11,12,13,14,16,17,18,19,26,27,32,33,36,37,40,41,46,47,48,49,50,51,52] Tryz.func20 fun hsc=>?_
 refine cd h (fun hc h=>?_) fun hc h=>?_
 ·exact rt
 ·obtain⟨fx,h⟩:=ck fx h
  refine aln 16 fun hl0=>?_
  refine rng (body:=aY a0) (kk:=aZ) (n:=(bytesOf a0).length) (s0:=())
   (fun(gs0:Unit) (k0:Nat) (s0:Unit)=>[(16,.sl false 1 1 (rows u8c (bytesOf a0))),(17,.int .i64 (↑((bytesOf a0).length):Int)),(18,.int .i64 (↑k0:Int))])
   (fun(gs0:Unit) (k0:Nat) (s0:Unit)=>st)
   (fun(gt0:Unit) (t0:Unit)=>[])
   (fun(gt0:Unit) (t0:Unit)=>st)
   () fx hl0 h (bX hsc)
   (fun gs0 k0 s0 b0 fx h hx0=>?_) (fun gs0 s0=>?_) (fun gt0 t0 fr1 st1 h hb=>?_)
  ·unfold aY at h
   refine ct ?_
   refine cd h (fun hc h=>?_) fun hc h=>?_
   ·refine ra ?_
    cases h
    refine D6 ?_;have h:=congrArg some (hx0 _ rfl)
    exact rt
   ·refine rn ?_
    cases h
    exact aX () (bX hsc)
  ·refine cf ?_
   refine Z6 ?_;simp only[go_sem,fx]
   exact⟨(),(bX hsc)⟩
  ·try simp only[go_sem,fx]
   unfold aZ at h
   refine K1 hb ?_
   exact rt
theorem ke(a0:(List w6))(r:w9)(h:I3 a0=some r):Pure Tryz.prog gl 57 [.sl false 2 40 (rows w6.cells a0)] (.agg [.int .i64 r.code,.int .i64 r.index]):=by
 intro st
 unfold I3 at h
 have fx:=trivial
 refine fb 90 [.cell 2 41] [0,2,3,4,6,7,8,13,14,15,16,18,19,20,21,28,33,34,35,36,43,53,57,58,59,60,67,68,69,70,76,77,78,79,80,81,82,83,84] Tryz.func57 fun hsc=>?_
 refine cd h (fun hc h=>?_) fun hc h=>?_
 ·exact rt
 ·refine aln 0 fun hl0=>?_
  refine rng (body:=T6 a0) (kk:=aD) (n:=a0.length) (s0:=())
   (fun(gs0:Unit) (k0:Nat) (s0:Unit)=>[(0,.sl false 2 40 (rows w6.cells a0)),(2,.ptr st.length 0 0 0),(18,.sl false 2 40 (rows w6.cells a0)),(19,.int .i64 (↑a0.length:Int)),(20,.int .i64 (↑k0:Int))])
   (fun(gs0:Unit) (k0:Nat) (s0:Unit)=>st++[some (.arr 0 2 0 [[.int .i64 0,.int .i64 0]])])
   (fun(gt0:Unit) (t0:Unit)=>[(2,.ptr st.length 0 0 0)])
   (fun(gt0:Unit) (t0:Unit)=>st++[some (.arr 0 2 0 [[.int .i64 0,.int .i64 0]])])
   () fx hl0 h (bm hsc)
   (fun gs0 k0 s0 b0 fx h hx0=>?_) (fun gs0 s0=>?_) (fun gt0 t0 fr1 st1 h hb=>?_)
  ·unfold T6 at h
   refine ct ?_
   refine cl h (dR _) fun v10 h=>?_
   refine cd h (fun hc h=>?_) fun hc h=>?_
   ·refine ra ?_
    cases h
    refine D6 ?_;have h:=congrArg some (hx0 _ rfl)
    exact rt
   ·obtain⟨fx,h⟩:=ck fx h
    refine aln 33 fun hl3=>?_
    refine rng (body:=N4 a0 k0) (kk:=T7 k0 a0) (n:=(a0.take k0).length) (s0:=())
     (fun(gs3:Unit) (k3:Nat) (s3:Unit)=>[(0,.sl false 2 40 (rows w6.cells a0)),(2,.ptr st.length 0 0 0),(3,.int .i64 (↑k0:Int)),(4,.ptr (st.length+1) 0 0 0),(18,.sl false 2 40 (rows w6.cells a0)),(19,.int .i64 (↑a0.length:Int)),(20,.int .i64 (↑k0:Int)),(33,.sl false 2 40 (rows w6.cells (a0.take k0))),(34,.int .i64 (↑((a0.take k0).length):Int)),(35,.int .i64 (↑k3:Int))])
     (fun(gs3:Unit) (k3:Nat) (s3:Unit)=>st++[some (.arr 0 2 0 [[.int .i64 0,.int .i64 0]]),some (.arr 0 2 0 [[.str ((get a0 k0).name),.sl false 1 8 (rows U5 ((get a0 k0).parents))]])])
     (fun(gt3:Unit) (t3:Unit)=>[(0,.sl false 2 40 (rows w6.cells a0)),(2,.ptr st.length 0 0 0),(3,.int .i64 (↑k0:Int)),(4,.ptr (st.length+1) 0 0 0),(18,.sl false 2 40 (rows w6.cells a0)),(19,.int .i64 (↑a0.length:Int)),(20,.int .i64 (↑k0:Int))])
     (fun(gt3:Unit) (t3:Unit)=>st++[some (.arr 0 2 0 [[.int .i64 0,.int .i64 0]]),some (.arr 0 2 0 [[.str ((get a0 k0).name),.sl false 1 8 (rows U5 ((get a0 k0).parents))]])])
     () fx hl3 h (bm hsc)
     (fun gs3 k3 s3 b3 fx h hx3=>?_) (fun gs3 s3=>?_) (fun gt3 t3 fr1 st1 h hb=>?_)
    ·unfold N4 at h
     refine ct ?_
     refine cd h (fun hc h=>?_) fun hc h=>?_
     ·refine ra ?_
      cases h
      refine D6 ?_;obtain rfl:=hx3 _ rfl;try simp only[go_sem,fx]
      refine D6 ?_;have h:=congrArg some (hx0 _ rfl)
      exact rt
     ·refine rn ?_
      cases h
      exact aX () (bm hsc)
    ·refine cf ?_
     refine Z6 ?_;simp only[go_sem,fx]
     exact⟨(),(bm hsc)⟩
    ·try simp only[go_sem,fx]
     unfold T7 at h
     refine K1 hb ?_
     refine cd h (fun hc h=>?_) fun hc h=>?_
     ·refine ra ?_
      cases h
      refine D6 ?_;have h:=congrArg some (hx0 _ rfl)
      exact rt
     ·refine aln 57 fun hl4=>?_
      refine rng (body:=T8 a0 k0) (kk:=T9) (n:=((get a0 k0).parents).length) (s0:=())
       (fun(gs4:Unit) (k4:Nat) (s4:Unit)=>[(0,.sl false 2 40 (rows w6.cells a0)),(2,.ptr st.length 0 0 0),(3,.int .i64 (↑k0:Int)),(4,.ptr (st.length+1) 0 0 0),(18,.sl false 2 40 (rows w6.cells a0)),(19,.int .i64 (↑a0.length:Int)),(20,.int .i64 (↑k0:Int)),(57,.sl false 1 8 (rows U5 ((get a0 k0).parents))),(58,.int .i64 (↑(((get a0 k0).parents).length):Int)),(59,.int .i64 (↑k4:Int))])
       (fun(gs4:Unit) (k4:Nat) (s4:Unit)=>st++[some (.arr 0 2 0 [[.int .i64 0,.int .i64 0]]),some (.arr 0 2 0 [[.str ((get a0 k0).name),.sl false 1 8 (rows U5 ((get a0 k0).parents))]])])
       (fun(gt4:Unit) (t4:Unit)=>[(0,.sl false 2 40 (rows w6.cells a0)),(2,.ptr st.length 0 0 0),(18,.sl false 2 40 (rows w6.cells a0)),(19,.int .i64 (↑a0.length:Int)),(20,.int .i64 (↑k0:Int))])
       (fun(gt4:Unit) (t4:Unit)=>st++[some (.arr 0 2 0 [[.int .i64 0,.int .i64 0]])])
       () fx hl4 h (bm hsc)
       (fun gs4 k4 s4 b4 fx h hx4=>?_) (fun gs4 s4=>?_) (fun gt4 t4 fr1 st1 h hb=>?_)
      ·unfold T8 at h
       refine ct ?_
       refine cd h (fun hc h=>?_) fun hc h=>?_
       ·refine ra ?_
        cases h
        refine D6 ?_;obtain rfl:=hx4 _ rfl;try simp only[go_sem,fx]
        refine D6 ?_;have h:=congrArg some (hx0 _ rfl)
        exact rt
       ·obtain⟨fx,h⟩:=ck fx h
        refine cd h (fun hc h=>?_) fun hc h=>?_
        ·refine ra ?_
         cases h
         refine D6 ?_;obtain rfl:=hx4 _ rfl;try simp only[go_sem,fx]
         refine D6 ?_;have h:=congrArg some (hx0 _ rfl)
         exact rt
        ·refine rn ?_
         cases h
         exact aX () (bm hsc)
      ·refine cf ?_
       refine Z6 ?_;simp only[go_sem,fx]
       exact⟨(),(bm hsc)⟩
      ·try simp only[go_sem,fx]
       unfold T9 at h
       refine K1 hb ?_
       refine rn ?_
       cases h
       exact aX () (bm hsc)
  ·refine cf ?_
   refine Z6 ?_;simp only[go_sem,fx]
   exact⟨(),(bm hsc)⟩
  ·try simp only[go_sem,fx]
   unfold aD at h
   refine K1 hb ?_
   exact rt
theorem nV(n:Nat)(a0:(List w6))(r:Int)(h:Z7 n a0=some r):Pure Tryz.prog gl 58 [.sl false 2 40 (rows w6.cells a0)] (.int .i64 r):=by
 intro st
 unfold Z7 at h
 have fx:=trivial
 refine fb 83 [.tmp 2] [0,2,3,4,5,6,7,8,9,10,15,16,17,24,25,26,40,41,42,44,45,46,48,49,50,60,61,62,63,64,65,66,67,69,78] Tryz.func58 fun hsc=>?_
 obtain⟨v1,hv1,h⟩:=E6 h
 unfold rO at hv1
 obtain⟨ha,hv1⟩:=qE hv1
 obtain⟨hsub,hv1⟩:=qE hv1
 have hv1:=Option.some.inj hv1
 have hl:a0.length≤9223372036854775807:=by unfold top at ha;omega
 have ha2:a0.length≤top:=by omega
 obtain⟨sb,hsb⟩:∃f:Nat→Nat→Bool,f=fun(i j:Nat)=>(E1 n a0 (i:Int) (j:Int)).getD false:=⟨_,rfl⟩
 rw[←hsb]at hv1
 have nC:∀i j:Nat,i<a0.length→j<a0.length→E1 n a0 (i:Int) (j:Int)=some (sb i j):=fun i j hi hj=>by
  obtain⟨w,hw⟩:=Option.isSome_iff_exists.1 (List.all_eq_true.1 (List.all_eq_true.1 hsub i (List.mem_range.2 hi)) j (List.mem_range.2 hj))
  rw[hsb]
  show E1 n a0 (i:Int) (j:Int)=some ((E1 n a0 (i:Int) (j:Int)).getD false)
  rw[hw];rfl
 have fx:=fa ha ha2
 refine rn ?_
 have e0:List.replicate a0.length [D.B0]=eU st.length a0.length a0.length 0:=vG.symm
 simp only[e0]
 refine arg_ (ρ:=Unit) (body:=fun _ (s:Unit)=>some (.nxt s)) (kk:=fun s=>some s) (n:=a0.length) (s0:=()) (e:=())
  (fun(_:Unit) (k0:Nat) (_:Unit)=>[(0,.sl false 2 40 (rows w6.cells a0)),(3,.int .i64 (↑a0.length:Int)),(4,.ref true st.length 0 0 a0.length),(15,.int .i64 (↑a0.length:Int)),(16,.int .i64 (↑k0:Int))])
  (fun(_:Unit) (k0:Nat) (_:Unit)=>st++(some (.arr 0 1 24 (eU st.length a0.length a0.length k0))::(tf k0 a0.length (pfl sb k0 0)).map (ine G3 1)))
  (fun(_:Unit) (_:Unit)=>[(0,.sl false 2 40 (rows w6.cells a0)),(3,.int .i64 (↑a0.length:Int)),(4,.ref true st.length 0 0 a0.length)])
  (fun(_:Unit) (_:Unit)=>st++(some (.arr 0 1 24 (eU st.length a0.length a0.length a0.length))::(tf a0.length a0.length (pfl sb a0.length 0)).map (ine G3 1)))
  () (jj _ _) (xP hsc (by simp[tf]) ⟨.s,.s,.s,.s,.s,trivial⟩ (by simp))
  (fun _ k0 _ b0 hk0 hb0 _=>?_) (fun _ _=>?_) (fun _ _ fr1 st1 _ hb=>?_)
 ·cases hb0
  have hw0:wr .i64 ((↑k0:Int)+1)=(↑(k0+1):Int):=BS hk0 hl
  have eo1:(eU st.length a0.length a0.length k0).length=a0.length:=dS (by omega)
  have eo2:(eU st.length a0.length a0.length k0).set k0 [.ref true (st.length+(k0+1)) 0 0 a0.length]=eU st.length a0.length a0.length (k0+1):=yN hk0
  have eo3:(eU st.length a0.length a0.length k0).getD k0 []=[.B0]:=yO (Nat.le_refl _) hk0
  have ez:List.replicate a0.length [D.bool false]=rows G3 (rf a0.length fun _=>default):=by rw[←Ng];simp[rows,G3]
  have fx:=fa fx hw0
  refine ct ?_
  refine r0 ?_
  refine r0 ?_
  refine r0 ?_
  (repeat apply sq_);apply er_;simp only[go_sem,fx,List.length_map,Dg,eo1,eo2,eo3,hk0,Nat.zero_add,ez,KF,KJ]
  refine⟨by omega,?_⟩
  refine rn ?_
  refine arg_ (ρ:=Unit) (body:=fun _ (s:Unit)=>some (.nxt s)) (kk:=fun s=>some s) (n:=a0.length) (s0:=()) (e:=())
   (fun(_:Unit) (k1:Nat) (_:Unit)=>[(0,.sl false 2 40 (rows w6.cells a0)),(3,.int .i64 (↑a0.length:Int)),(4,.ref true st.length 0 0 a0.length),(5,.int .i64 (↑k0:Int)),(15,.int .i64 (↑a0.length:Int)),(16,.int .i64 (↑k0:Int)),(24,.int .i64 (↑a0.length:Int)),(25,.int .i64 (↑k1:Int))])
   (fun(_:Unit) (k1:Nat) (_:Unit)=>st++(some (.arr 0 1 24 (eU st.length a0.length a0.length (k0+1)))::(tf (k0+1) a0.length (pfl sb k0 k1)).map (ine G3 1)))
   (fun(_:Unit) (_:Unit)=>[(0,.sl false 2 40 (rows w6.cells a0)),(3,.int .i64 (↑a0.length:Int)),(4,.ref true st.length 0 0 a0.length),(15,.int .i64 (↑a0.length:Int)),(16,.int .i64 (↑k0:Int))])
   (fun(_:Unit) (_:Unit)=>st++(some (.arr 0 1 24 (eU st.length a0.length a0.length (k0+1)))::(tf (k0+1) a0.length (pfl sb k0 a0.length)).map (ine G3 1)))
   () (jj _ _) ?_
   (fun _ k1 _ b1 hk1 hb1 _=>?_) (fun _ _=>?_) (fun _ _ fr2 st2 _ hb2=>?_)
  ·exact xP hsc (by simp[tf]) ⟨.s,.s,.s,.s,.s,.s,.s,.s,trivial⟩ (by simp)
  ·cases hb1
   have hw1:wr .i64 ((↑k1:Int)+1)=(↑(k1+1):Int):=BS hk1 hl
   have g1:(eU st.length a0.length a0.length (k0+1)).getD k0 []=[.ref true (st.length+(k0+1)) 0 0 a0.length]:=nG (by omega)
   have g2:(eU st.length a0.length a0.length (k0+1)).length=a0.length:=dS (by omega)
   have l1:Am.look ((tf (k0+1) a0.length (pfl sb k0 k1)).map (ine G3 1)) k0=some (.arr 0 1 1 (rows G3 (rf a0.length (pfl sb k0 k1 k0)))):=Iy (by omega)
   have s1:∀v,((tf (k0+1) a0.length (pfl sb k0 k1)).map (ine G3 1)).set k0 (some (.arr 0 1 1 ((rows G3 (rf a0.length (pfl sb k0 k1 k0))).set k1 [.bool v])))=(tf (k0+1) a0.length (KG (pfl sb k0 k1) k0 k1 v)).map (ine G3 1):=fun v=>by
    rw[←KI];simp[rows,G3]
   have g3:(rows G3 (rf a0.length (pfl sb k0 k1 k0))).length=a0.length:=by simp[rows,rf]
   have g4:(rows G3 (rf a0.length (pfl sb k0 k1 k0))).getD k1 []=[.bool (pfl sb k0 k1 k0 k1)]:=by rw[pS (by rw[Gd];exact hk1),Dh hk1];rfl
   have fx:=fa fx hw1
   refine ct ?_
   refine r0 ?_
   refine r0 ?_
   refine r0 ?_
   (repeat apply sq_);refine zO [2,3,8] 0 follows (by kernel_rfl) (by rfl) ?_;simp only[go_sem,List.replicate_zero,fx,hk0,hk1,g1,g2,l1,g3,g4,Nat.zero_add]
   refine B3 (eP n _ _ _ _ (nC k0 k1 hk0 hk1)) ?_
   simp only[go_sem,fx,hk0,hk1,g1,g2,l1,g3,g4,Nat.zero_add,s1,KL]
   try refine⟨by(simp<;>omega),?_⟩
   refine rn ?_
   exact aX () (xP hsc (by simp[tf]) ⟨.s,.s,.s,.s,.s,.s,.s,.s,trivial⟩ (by simp))
  ·refine cf ?_
   refine Z6 ?_;simp only[go_sem,fx]
   exact⟨(),xP hsc (by simp[tf]) ⟨.s,.s,.s,.s,.s,trivial⟩ (by simp)⟩
  ·try simp only[go_sem,fx]
   refine K1 hb2 ?_
   simp only[Iz]
   refine rn ?_
   exact aX () (xP hsc (by simp[tf]) ⟨.s,.s,.s,.s,.s,trivial⟩ (by simp))
 ·refine cf ?_
  refine Z6 ?_;simp only[go_sem,fx]
  exact⟨(),xP hsc (by simp[tf]) ⟨.s,.s,.s,trivial⟩ (by simp)⟩
 try simp only[go_sem,fx]
 refine K1 hb ?_
 simp only[KM]
 refine K1 (Gc (F:=[(0,.sl false 2 40 (rows w6.cells a0)),(3,.int .i64 (↑a0.length:Int)),(4,.sl false 1 24 (rows (slc 1 1 G3) (tf a0.length a0.length sb)))]) (by decide) hsc KH Dg (fun _ _=>⟨.s,.s,.s,trivial⟩) (fun _ _ u=>⟨.s,.s,u,trivial⟩) (by simp) (by simp)) ?_
 rw[hv1]
 obtain⟨fx,h⟩:=ck fx h
 refine rn ?_
 refine rng (body:=ah a0 v1) (kk:=au) (n:=a0.length) (s0:=())
  (fun(gs0:Unit) (k0:Nat) (s0:Unit)=>[(3,.int .i64 (↑a0.length:Int)),(4,.sl false 1 24 (rows (slc 1 1 G3) v1)),(40,.int .i64 (↑a0.length:Int)),(41,.int .i64 (↑k0:Int))])
  (fun(gs0:Unit) (k0:Nat) (s0:Unit)=>st)
  (fun(gt0:Unit) (t0:Unit)=>[])
  (fun(gt0:Unit) (t0:Unit)=>st)
  () fx fx.2 h (bX hsc)
  (fun gs0 k0 s0 b0 fx h hx0=>?_) (fun gs0 s0=>?_) (fun gt0 t0 fr1 st1 h hb=>?_)
 ·unfold ah at h
  refine ct ?_
  obtain⟨fx,h⟩:=ck fx h
  refine rn ?_
  refine rng (body:=aj a0 v1 k0) (kk:=aq) (n:=k0) (s0:=())
   (fun(gs4:Unit) (k4:Nat) (s4:Unit)=>[(3,.int .i64 (↑a0.length:Int)),(4,.sl false 1 24 (rows (slc 1 1 G3) v1)),(7,.int .i64 (↑k0:Int)),(40,.int .i64 (↑a0.length:Int)),(41,.int .i64 (↑k0:Int)),(44,.int .i64 (↑k0:Int)),(45,.int .i64 (↑k4:Int))])
   (fun(gs4:Unit) (k4:Nat) (s4:Unit)=>st)
   (fun(gt4:Unit) (t4:Unit)=>[(3,.int .i64 (↑a0.length:Int)),(4,.sl false 1 24 (rows (slc 1 1 G3) v1)),(40,.int .i64 (↑a0.length:Int)),(41,.int .i64 (↑k0:Int))])
   (fun(gt4:Unit) (t4:Unit)=>st)
   () fx fx.2 h (bX hsc)
   (fun gs4 k4 s4 b4 fx h hx4=>?_) (fun gs4 s4=>?_) (fun gt4 t4 fr1 st1 h hb=>?_)
  ·unfold aj at h
   refine ct ?_
   obtain⟨fx,h⟩:=ck fx h
   refine rn ?_
   refine rng (body:=ak v1 k4 k0) (kk:=ao) (n:=a0.length) (s0:= -1)
    (fun(gs5:Unit) (k5:Nat) (s5:Int)=>[(3,.int .i64 (↑a0.length:Int)),(4,.sl false 1 24 (rows (slc 1 1 G3) v1)),(7,.int .i64 (↑k0:Int)),(8,.int .i64 (↑k4:Int)),(9,.int .i64 s5),(40,.int .i64 (↑a0.length:Int)),(41,.int .i64 (↑k0:Int)),(44,.int .i64 (↑k0:Int)),(45,.int .i64 (↑k4:Int)),(48,.int .i64 (↑a0.length:Int)),(49,.int .i64 (↑k5:Int))])
    (fun(gs5:Unit) (k5:Nat) (s5:Int)=>st)
    (fun(gt5:Unit) (t5:Int)=>[(3,.int .i64 (↑a0.length:Int)),(4,.sl false 1 24 (rows (slc 1 1 G3) v1)),(7,.int .i64 (↑k0:Int)),(40,.int .i64 (↑a0.length:Int)),(41,.int .i64 (↑k0:Int)),(44,.int .i64 (↑k0:Int)),(45,.int .i64 (↑k4:Int))])
    (fun(gt5:Unit) (t5:Int)=>st)
    () fx fx.2 h (bX hsc)
    (fun gs5 k5 s5 b5 fx h hx5=>?_) (fun gs5 s5=>?_) (fun gt5 t5 fr1 st1 h hb=>?_)
   ·unfold ak at h
    refine ct ?_
    obtain⟨fx,h⟩:=ck fx h
    obtain⟨fx,h⟩:=ck fx h
    obtain⟨fx,h⟩:=ck fx h
    refine cd h (fun hc h=>?_) fun hc h=>?_
    ·refine cd h (fun hc h=>?_) fun hc h=>?_
     ·refine rn ?_
      cases h
      exact aX () (bX hsc)
     ·obtain⟨fx,h⟩:=ck fx h
      refine cd h (fun hc h=>?_) fun hc h=>?_
      ·refine ra ?_
       cases h
       refine D6 ?_;obtain rfl:=hx5 _ rfl;try simp only[go_sem,fx]
       refine D6 ?_;obtain rfl:=hx4 _ rfl;try simp only[go_sem,fx]
       refine D6 ?_;have h:=congrArg some (hx0 _ rfl)
       exact rt
      ·refine rn ?_
       cases h
       exact aX () (bX hsc)
    ·refine rn ?_
     cases h
     exact aX () (bX hsc)
   ·refine cf ?_
    refine Z6 ?_;simp only[go_sem,fx]
    exact⟨(),(bX hsc)⟩
   ·try simp only[go_sem,fx]
    unfold ao at h
    refine K1 hb ?_
    refine rn ?_
    cases h
    exact aX () (bX hsc)
  ·refine cf ?_
   refine Z6 ?_;simp only[go_sem,fx]
   exact⟨(),(bX hsc)⟩
  ·try simp only[go_sem,fx]
   unfold aq at h
   refine K1 hb ?_
   refine rn ?_
   cases h
   exact aX () (bX hsc)
 ·refine cf ?_
  refine Z6 ?_;simp only[go_sem,fx]
  exact⟨(),(bX hsc)⟩
 ·try simp only[go_sem,fx]
  unfold au at h
  refine K1 hb ?_
  exact rt
end Go.Proofs.YtbgkcolebacbmaaGreatDoor
