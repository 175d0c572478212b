import Derived.Test.YtdjnbjnlnjhllaaGreatDoorFIWalk2
set_option linter.unusedVariables false
set_option linter.unusedSimpArgs false
set_option maxHeartbeats 2000000
set_option maxRecDepth 100000
namespace Go.Proofs.YtdjnbjnlnjhllaaGreatDoor
open Go Go.Am
theorem x7x(n:Nat)(a0:w3W)(r:w3W)(h:x3D n a0=some r):Pure Tryz.prog gl 52 [.agg [.int .i64 a0.form.kind,.str a0.form.name,.sl false 1 16 (rows w3X a0.form.words),.sl false 4 72 (rows w3T.cells a0.form.subs),.sl false 1 16 (rows w3X a0.words),.sl false 1 16 (rows w3X a0.w4a),.sl false 1 16 (rows w3X a0.parts)]] (.agg [.int .i64 r.form.kind,.str r.form.name,.sl false 1 16 (rows w3X r.form.words),.sl false 4 72 (rows w3T.cells r.form.subs),.sl false 1 16 (rows w3X r.words),.sl false 1 16 (rows w3X r.w4a),.sl false 1 16 (rows w3X r.parts)]):=by
 intro st
 unfold x3D at h
 have fx:=trivial
 refine fb 23 [.cell 2 27] [0,1,2,3,4] Tryz.func52 fun hsc=>?_
 refine rn ?_
 refine dw [3,6,10,14] 0 ?_
 obtain⟨v1,hv1,h⟩:=w7w h
 refine x7e [st.length,(st.length+2)] (fun st2 h2=>((x6H n _ _ _ _ _ _ _ _ _ _ hv1 st2 _ _ (by simp) ((h2 _ (by simp)).trans (x3w.trans rfl)) ((h2 _ (by simp)).trans (x5S.trans rfl))).up (.cons _ _ _ _ .s (.cons _ _ _ _ (.w4g _ _ _ (by decide)) (.cons _ _ _ _ .s (.cons _ _ _ _ .s .nil)))) (by have q0:=w5a ((h2 st.length (by simp)).trans (x3w.trans rfl));have q1:=w5a ((h2 (st.length+2) (by simp)).trans (x5S.trans rfl));simp<;>omega))) (by simp) (by simp only[List.mem_cons,List.not_mem_nil,or_false,forall_eq_or_imp,forall_eq];exact⟨⟨by first|omega|(simp<;>omega),_,(x3w.trans rfl),Ob.noConfusion⟩,⟨by first|omega|(simp<;>omega),_,(x5S.trans rfl),Ob.noConfusion⟩⟩) (by simp) ?_
 try simp only[go_sem,fx]
 obtain⟨v2,hv2,h⟩:=w7w h
 refine w7Z (x1I _ _ _ hv2) ?_
 try simp only[go_sem,fx]
 obtain⟨v3,hv3,h⟩:=w7w h
 refine w7Z (x1I _ _ _ hv3) ?_
 try simp only[go_sem,fx]
 obtain⟨v4,hv4,h⟩:=w7w h
 refine w7Z (x1I _ _ _ hv4) ?_
 try simp only[go_sem,fx]
 try refine⟨by first|omega|(simp<;>omega),?_⟩
 exact rt
theorem x3V(a0:(List Bs))(a1:(List Bs))(r:Bool)(h:w5E a0 a1=some r):Pure Tryz.prog gl 82 [.sl false 1 16 (rows w3X a0),.sl false 1 16 (rows w3X a1)] (.bool r):=by
 intro st
 unfold w5E at h
 have fx:=trivial
 refine fb 26 [.tmp 4] [0,1,4,5,10,12,13,14,24] Tryz.func82 fun hsc=>?_
 refine cd h (fun hc h=>?_) fun hc h=>?_
 ·exact rt
 ·refine aln 0 fun hl0=>?_
  refine rng (body:=w6K a1 a0) (kk:=w6L) (n:=a0.length) (s0:=())
   (fun(gs0:Unit) (k0:Nat) (s0:Unit)=>[(0,.sl false 1 16 (rows w3X a0)),(1,.sl false 1 16 (rows w3X a1)),(12,.int .i64 (↑a0.length:Int)),(13,.int .i64 (↑k0:Int))])
   (fun(gs0:Unit) (k0:Nat) (s0:Unit)=>st)
   (fun(gt0:Unit) (t0:Unit)=>[])
   (fun(gt0:Unit) (t0:Unit)=>st)
   () fx hl0 h (x4b hsc)
   (fun gs0 k0 s0 b0 fx h hx0=>?_) (fun gs0 s0=>?_) (fun gt0 t0 fr1 st1 h hb=>?_)
  ·unfold w6K at h
   refine ct ?_
   refine rn ?_
   obtain⟨fx,h⟩:=ck fx h
   refine dw [] 0 ?_
   refine cd h (fun hc h=>?_) fun hc h=>?_
   ·refine ra ?_
    cases h
    refine w8C ?_;have h:=congrArg some (hx0 _ rfl)
    exact rt
   ·refine rn ?_
    cases h
    exact x2D () (x4b hsc)
  ·refine cf ?_
   refine x2J ?_;simp only[go_sem,fx]
   exact⟨(),(x4b hsc)⟩
  ·try simp only[go_sem,fx]
   unfold w6L at h
   refine w5A hb ?_
   exact rt
theorem y0f:∀(n:Nat) (a0:w3T) (a1:w3T) (r:Bool) (h:x1z n a0 a1=some r),Pure Tryz.prog gl 74 [.agg [.int .i64 a0.kind,.str a0.name,.sl false 1 16 (rows w3X a0.words),.sl false 4 72 (rows w3T.cells a0.subs)],.agg [.int .i64 a1.kind,.str a1.name,.sl false 1 16 (rows w3X a1.words),.sl false 4 72 (rows w3T.cells a1.subs)]] (.bool r):=by
 intro n
 induction n with
 |zero=>intro a0 a1 r h;cases h
 |succ n ih=>
  intro a0 a1 r h st
  unfold x1z at h
  have fx:=trivial
  refine fb 54 [.tmp 4] [0,1,2,3,4,5,12,13,14,15,16,19,20,21,22,23,24,27,28,29,30,31,32,33,34,37,38,39,52] Tryz.func74 fun hsc=>?_
  refine rn ?_
  obtain⟨v1,hv1,h⟩:=w7w h
  refine x0C (fun hG=>(x3V _ _ _ (x8s hv1 (by simpa using hG)))) ?_
  refine cd h (fun hc h=>?_) fun hc h=>?_
  ·exact rt
  ·obtain⟨fx,h⟩:=ck fx h
   refine rn ?_
   refine rng (body:=x2u (x1z n) a1 a0) (kk:=x2v) (n:=a0.subs.length) (s0:=())
    (fun(gs0:Unit) (k0:Nat) (s0:Unit)=>[(2,.ptr st.length 0 0 0),(3,.ptr (st.length+1) 0 0 0),(37,.int .i64 (↑a0.subs.length:Int)),(38,.int .i64 (↑k0:Int))])
    (fun(gs0:Unit) (k0:Nat) (s0:Unit)=>st++[some (.arr 0 4 0 [[.int .i64 a0.kind,.str a0.name,.sl false 1 16 (rows w3X a0.words),.sl false 4 72 (rows w3T.cells a0.subs)]]),some (.arr 0 4 0 [[.int .i64 a1.kind,.str a1.name,.sl false 1 16 (rows w3X a1.words),.sl false 4 72 (rows w3T.cells a1.subs)]])])
    (fun(gt0:Unit) (t0:Unit)=>[])
    (fun(gt0:Unit) (t0:Unit)=>st)
    () fx fx.2 h (bm hsc)
    (fun gs0 k0 s0 b0 fx h hx0=>?_) (fun gs0 s0=>?_) (fun gt0 t0 fr1 st1 h hb=>?_)
   ·unfold x2u at h
    refine ct ?_
    refine rn ?_
    obtain⟨fx,h⟩:=ck fx h
    refine dw [] 0 ?_
    obtain⟨v4,hv4,h⟩:=w7w h
    refine w7Z (ih _ _ _ hv4) ?_
    try simp only[go_sem,fx]
    refine cd h (fun hc h=>?_) fun hc h=>?_
    ·refine ra ?_
     cases h
     refine w8C ?_;have h:=congrArg some (hx0 _ rfl)
     exact rt
    ·refine rn ?_
     cases h
     exact x2D () (bm hsc)
   ·refine cf ?_
    refine x2J ?_;simp only[go_sem,fx]
    exact⟨(),(bm0 hsc)⟩
   ·try simp only[go_sem,fx]
    unfold x2v at h
    refine w5A hb ?_
    exact rt
theorem x4f(a1:Bs)(a2:Bs)(m0:(List (Bs×w3V)))(r:Bool×(List (Bs×w3V)))(h:w8E a1 a2 m0=some r):∀(st:St) (o0:Nat) (hnd: [o0].Nodup) (w8Z:Am.look st o0=some (.mps true (mrw w3V.cells m0))),Am.Spec Tryz.prog gl 75 [.mp o0,.str a1,.str a2] st (fun d st'=>d= .bool r.1∧st'=puts st [(o0,(.mps true (mrw w3V.cells r.2)))]):=by
 intro st o0 hnd w8Z
 unfold w8E at h
 have ho0:=w5a w8Z
 have fx:=idf ho0
 refine fb 25 [.tmp 6] [0,1,2,6,7,8,15] Tryz.func75 fun hsc=>?_
 refine x1L (s':=(w4O st [(o0,(.mps true (mrw w3V.cells m0)))])) (w4w (by simp[w8Z])) ?_
 refine cd h (fun hc h=>?_) fun hc h=>?_
 ·refine rr ?_
  exact fuo (.bool (decide ((((assoc a1 m0).getD default).text)=a2))) (.same _) h hsc
 ·refine r0 ?_
  obtain⟨c1,hc1,h⟩:=x1k h
  have fy:=(show w5l a1 [.str a1,.str a2,.int .i64 0,.str [],.sl false 1 16 [],.sl false 4 72 []] (mrw w3V.cells m0)=mrw w3V.cells c1 from by rw[hc1];exact y6Z (κ:=Bs) (E:=w3V.cells) a1 (w3V.mk a1 a2 (w3T.mk 0 [] [] [])) m0)
  refine r1 ?_
  refine rr ?_
  exact fuo (.bool true) (.same _) h hsc
theorem x6I:∀(n:Nat) (a0:w3W) (a1:w3T) (a2:w3T) (m0:(List (Bs×w3V))) (r:Bool×(List (Bs×w3V))) (h:w4N n a0 a1 a2 m0=some r),∀(st:St) (o0:Nat) (hnd: [o0].Nodup) (w8Z:Am.look st o0=some (.mps true (mrw w3V.cells m0))),Am.Spec Tryz.prog gl 53 [.agg [.int .i64 a0.form.kind,.str a0.form.name,.sl false 1 16 (rows w3X a0.form.words),.sl false 4 72 (rows w3T.cells a0.form.subs),.sl false 1 16 (rows w3X a0.words),.sl false 1 16 (rows w3X a0.w4a),.sl false 1 16 (rows w3X a0.parts)],.agg [.int .i64 a1.kind,.str a1.name,.sl false 1 16 (rows w3X a1.words),.sl false 4 72 (rows w3T.cells a1.subs)],.agg [.int .i64 a2.kind,.str a2.name,.sl false 1 16 (rows w3X a2.words),.sl false 4 72 (rows w3T.cells a2.subs)],.mp o0] st (fun d st'=>d= .bool r.1∧st'=puts st [(o0,(.mps true (mrw w3V.cells r.2)))]):=by
 intro n
 induction n with
 |zero=>intro a0 a1 a2 m0 r h;cases h
 |succ n ih=>
  intro a0 a1 a2 m0 r h st o0 hnd w8Z
  unfold w4N at h
  have ho0:=w5a w8Z
  have fx:=idf ho0
  refine fb 138 [.tmp 8] [0,1,2,3,4,5,6,8,9,10,11,12,14,15,16,19,27,45,46,47,48,49,50,51,52,53,60,61,62,63,64,72,73,80,81,82,83,93,96,97,98,99,109,110,120,121,122,123,136] Tryz.func53 fun hsc=>?_
  refine x1L (s':=(w4O st [(o0,(.mps true (mrw w3V.cells m0)))])) (w4w (by simp[w8Z])) ?_
  refine cl h (x2W _ _) fun v1 h=>?_
  refine cd h (fun hc h=>?_) fun hc h=>?_
  ·refine cd h (fun hc h=>?_) fun hc h=>?_
   ·refine cl h (y0f n _ _) fun v2 h=>?_
    refine rr ?_
    exact fuo (.bool v2) (.same _) h hsc
   ·refine r0 ?_
    obtain⟨c3,hc3,h⟩:=x1k h
    have fy:=(show w5l a1.name [.str a1.name,.str [],.int .i64 a2.kind,.str a2.name,.sl false 1 16 (rows w3X a2.words),.sl false 4 72 (rows w3T.cells a2.subs)] (mrw w3V.cells m0)=mrw w3V.cells c3 from by rw[hc3];exact y6Z (κ:=Bs) (E:=w3V.cells) a1.name (w3V.mk a1.name [] a2) m0)
    refine r1 ?_
    refine rr ?_
    exact fuo (.bool true) (.same _) h hsc
  ·refine cd h (fun hc h=>?_) fun hc h=>?_
   ·refine rr ?_
    exact fuo (.bool false) (.same _) h hsc
   ·refine cl h (w5L _) fun v5 h=>?_
    refine rn ?_
    refine w9Q (w6b (w4N n) a1 a2 m0 a0) r (fun(gj0:Unit) (j0:Bool)=>[(3,.mp o0),(4,.ptr st.length 0 0 0),(5,.ptr (st.length+1) 0 0 0),(6,.ptr (st.length+2) 0 0 0),(53,.bool j0)]) (fun(gj0:Unit) (j0:Bool)=>(w4O st [(o0,(.mps true (mrw w3V.cells m0)))])++[some (.arr 0 7 0 [[.int .i64 a0.form.kind,.str a0.form.name,.sl false 1 16 (rows w3X a0.form.words),.sl false 4 72 (rows w3T.cells a0.form.subs),.sl false 1 16 (rows w3X a0.words),.sl false 1 16 (rows w3X a0.w4a),.sl false 1 16 (rows w3X a0.parts)]]),some (.arr 0 4 0 [[.int .i64 a1.kind,.str a1.name,.sl false 1 16 (rows w3X a1.words),.sl false 4 72 (rows w3T.cells a1.subs)]]),some (.arr 0 4 0 [[.int .i64 a2.kind,.str a2.name,.sl false 1 16 (rows w3X a2.words),.sl false 4 72 (rows w3T.cells a2.subs)]])]) (fun gj0 j0 fr1 st1 h hb=>?_) (fun hj0=>?_)
    ·try simp only[go_sem,fx]
     unfold w6b at h
     refine w5A hb ?_
     (repeat apply sq_)
     refine w9Q (w6W (w4N n) a1 a0 a2) r (fun(gj1:Unit) (j1:(List (Bs×w3V)))=>[(3,.mp o0),(4,.ptr st.length 0 0 0),(5,.ptr (st.length+1) 0 0 0),(6,.ptr (st.length+2) 0 0 0)]) (fun(gj1:Unit) (j1:(List (Bs×w3V)))=>(w4O st [(o0,(.mps true (mrw w3V.cells j1)))])++[some (.arr 0 7 0 [[.int .i64 a0.form.kind,.str a0.form.name,.sl false 1 16 (rows w3X a0.form.words),.sl false 4 72 (rows w3T.cells a0.form.subs),.sl false 1 16 (rows w3X a0.words),.sl false 1 16 (rows w3X a0.w4a),.sl false 1 16 (rows w3X a0.parts)]]),some (.arr 0 4 0 [[.int .i64 a1.kind,.str a1.name,.sl false 1 16 (rows w3X a1.words),.sl false 4 72 (rows w3T.cells a1.subs)]]),some (.arr 0 4 0 [[.int .i64 a2.kind,.str a2.name,.sl false 1 16 (rows w3X a2.words),.sl false 4 72 (rows w3T.cells a2.subs)]])]) (fun gj1 j1 fr1 st1 h hb=>?_) (fun hj1=>?_)
     ·try simp only[go_sem,fx]
      unfold w6W at h
      refine w5A hb ?_
      refine aln 80 fun hl2=>?_
      refine rng (body:=w8F a1 a0 a2) (kk:=w9Y (w4N n) a2 a0 a1) (n:=a1.words.length) (s0:=j1)
       (fun(gs2:Unit) (k2:Nat) (s2:(List (Bs×w3V)))=>[(3,.mp o0),(4,.ptr st.length 0 0 0),(5,.ptr (st.length+1) 0 0 0),(6,.ptr (st.length+2) 0 0 0),(80,.sl false 1 16 (rows w3X a1.words)),(81,.int .i64 (↑a1.words.length:Int)),(82,.int .i64 (↑k2:Int))])
       (fun(gs2:Unit) (k2:Nat) (s2:(List (Bs×w3V)))=>(w4O st [(o0,(.mps true (mrw w3V.cells s2)))])++[some (.arr 0 7 0 [[.int .i64 a0.form.kind,.str a0.form.name,.sl false 1 16 (rows w3X a0.form.words),.sl false 4 72 (rows w3T.cells a0.form.subs),.sl false 1 16 (rows w3X a0.words),.sl false 1 16 (rows w3X a0.w4a),.sl false 1 16 (rows w3X a0.parts)]]),some (.arr 0 4 0 [[.int .i64 a1.kind,.str a1.name,.sl false 1 16 (rows w3X a1.words),.sl false 4 72 (rows w3T.cells a1.subs)]]),some (.arr 0 4 0 [[.int .i64 a2.kind,.str a2.name,.sl false 1 16 (rows w3X a2.words),.sl false 4 72 (rows w3T.cells a2.subs)]])])
       (fun(gt2:Unit) (t2:(List (Bs×w3V)))=>[(3,.mp o0),(4,.ptr st.length 0 0 0),(5,.ptr (st.length+1) 0 0 0),(6,.ptr (st.length+2) 0 0 0)])
       (fun(gt2:Unit) (t2:(List (Bs×w3V)))=>(w4O st [(o0,(.mps true (mrw w3V.cells t2)))])++[some (.arr 0 7 0 [[.int .i64 a0.form.kind,.str a0.form.name,.sl false 1 16 (rows w3X a0.form.words),.sl false 4 72 (rows w3T.cells a0.form.subs),.sl false 1 16 (rows w3X a0.words),.sl false 1 16 (rows w3X a0.w4a),.sl false 1 16 (rows w3X a0.parts)]]),some (.arr 0 4 0 [[.int .i64 a1.kind,.str a1.name,.sl false 1 16 (rows w3X a1.words),.sl false 4 72 (rows w3T.cells a1.subs)]]),some (.arr 0 4 0 [[.int .i64 a2.kind,.str a2.name,.sl false 1 16 (rows w3X a2.words),.sl false 4 72 (rows w3T.cells a2.subs)]])])
       () fx hl2 h (bu hsc)
       (fun gs2 k2 s2 b2 fx h hx2=>?_) (fun gs2 s2=>?_) (fun gt2 t2 fr1 st1 h hb=>?_)
      ·unfold w8F at h
       refine ct ?_
       refine rn ?_
       obtain⟨v12,hv12,h⟩:=w7w h
       refine x0C (fun hG=>(w4e _ _ _ (x8s hv12 (by simpa using hG)))) ?_
       refine cd h (fun hc h=>?_) fun hc h=>?_
       ·obtain⟨fx,h⟩:=ck fx h
        refine rn ?_
        obtain⟨v14,hv14,h⟩:=w7w h
        refine(x4f _ _ _ _ hv14 _ _ hnd (by simp only[go_sem,fx])).mono ?_
        rintro d1 st1 ⟨rfl,rfl⟩
        refine cd h (fun hc h=>?_) fun hc h=>?_
        ·refine ra ?_
         cases h
         refine w8C ?_;have h:=congrArg some (hx2 _ rfl)
         refine rr ?_
         exact fuo (.bool false) (.same _) h hsc
        ·refine rn ?_
         cases h
         exact x2D () (bu hsc)
       ·obtain⟨fx,h⟩:=ck fx h
        refine cd h (fun hc h=>?_) fun hc h=>?_
        ·refine ra ?_
         cases h
         refine w8C ?_;have h:=congrArg some (hx2 _ rfl)
         refine rr ?_
         exact fuo (.bool false) (.same _) h hsc
        ·refine rn ?_
         cases h
         exact x2D () (bu hsc)
      ·refine cf ?_
       refine x2J ?_;simp only[go_sem,fx]
       exact⟨(),(bu hsc)⟩
      ·try simp only[go_sem,fx]
       unfold w9Y at h
       refine w5A hb ?_
       refine aln 120 fun hl3=>?_
       refine rng (body:=w9Z (w4N n) a2 a0 a1) (kk:=x0a) (n:=a1.subs.length) (s0:=t2)
        (fun(gs3:Unit) (k3:Nat) (s3:(List (Bs×w3V)))=>[(3,.mp o0),(4,.ptr st.length 0 0 0),(6,.ptr (st.length+2) 0 0 0),(120,.sl false 4 72 (rows w3T.cells a1.subs)),(121,.int .i64 (↑a1.subs.length:Int)),(122,.int .i64 (↑k3:Int))])
        (fun(gs3:Unit) (k3:Nat) (s3:(List (Bs×w3V)))=>(w4O st [(o0,(.mps true (mrw w3V.cells s3)))])++[some (.arr 0 7 0 [[.int .i64 a0.form.kind,.str a0.form.name,.sl false 1 16 (rows w3X a0.form.words),.sl false 4 72 (rows w3T.cells a0.form.subs),.sl false 1 16 (rows w3X a0.words),.sl false 1 16 (rows w3X a0.w4a),.sl false 1 16 (rows w3X a0.parts)]]),none,some (.arr 0 4 0 [[.int .i64 a2.kind,.str a2.name,.sl false 1 16 (rows w3X a2.words),.sl false 4 72 (rows w3T.cells a2.subs)]])])
        (fun(gt3:Unit) (t3:(List (Bs×w3V)))=>[])
        (fun(gt3:Unit) (t3:(List (Bs×w3V)))=>(w4O st [(o0,(.mps true (mrw w3V.cells t3)))]))
        () fx hl3 h (bu hsc)
        (fun gs3 k3 s3 b3 fx h hx3=>?_) (fun gs3 s3=>?_) (fun gt3 t3 fr1 st1 h hb=>?_)
       ·unfold w9Z at h
        refine ct ?_
        refine rn ?_
        obtain⟨fx,h⟩:=ck fx h
        refine dw [8] 0 ?_
        obtain⟨v19,hv19,h⟩:=w7w h
        refine x7e [o0] (fun st2 h2=>(ih _ _ _ _ _ hv19 st2 _ hnd ((h2 _ (by simp)).trans (by simp only[go_sem,fx])))) (by simp) (by simp only[List.mem_cons,List.not_mem_nil,or_false,forall_eq_or_imp,forall_eq];exact⟨by first|omega|(simp<;>omega),_,(by simp only[go_sem,fx]<;>rfl),Ob.noConfusion⟩) (by simp) ?_
        try simp only[go_sem,fx]
        try refine⟨by first|omega|(simp<;>omega),?_⟩
        refine cd h (fun hc h=>?_) fun hc h=>?_
        ·refine ra ?_
         cases h
         refine w8C ?_;have h:=congrArg some (hx3 _ rfl)
         refine rr ?_
         exact fuo (.bool false) (.same _) h hsc
        ·refine rn ?_
         cases h
         exact x2D () (bu hsc)
       ·refine cf ?_
        refine x2J ?_;simp only[go_sem,fx]
        exact⟨(),(bu0 hsc)⟩
       ·try simp only[go_sem,fx]
        unfold x0a at h
        refine w5A hb ?_
        refine rr ?_
        exact fus (.bool true) (.same _) h hsc
     ·refine cd h (fun hc h=>?_) fun hc h=>?_
      ·refine rn ?_
       obtain⟨v7,hv7,h⟩:=w7w h
       refine(x4f _ _ _ _ hv7 _ _ hnd (by simp only[go_sem,fx])).mono ?_
       rintro d1 st1 ⟨rfl,rfl⟩
       refine cd h (fun hc h=>?_) fun hc h=>?_
       ·refine rr ?_
        exact fuo (.bool false) (.same _) h hsc
       ·refine r0 ?_
        refine hj1 () _ _ _ h ?_;exact(bu hsc)
      ·refine cd h (fun hc h=>?_) fun hc h=>?_
       ·refine rr ?_
        exact fuo (.bool false) (.same _) h hsc
       ·refine r0 ?_
        refine hj1 () _ _ _ h ?_;exact(bu hsc)
    ·refine cd h (fun hc h=>?_) fun hc h=>?_
     ·refine r0 ?_
      refine hj0 () _ _ _ h ?_;exact(bu hsc)
     ·refine rn ?_
      obtain⟨v6,hv6,h⟩:=w7w h
      refine x0C (fun hG=>(w4e _ _ _ (x8s hv6 (by simpa using hG)))) ?_
      try simp only[go_sem,fx]
      refine hj0 () _ _ _ h ?_;exact(bu hsc)
theorem x3k(a1:Bs)(l0:(List Bs))(r:Int)(h:w9n a1 l0=some r):∀(st:St) (o0 q0:Nat) (hnd: [o0].Nodup) (w8Z:Am.look st o0=some (.arr q0 1 16 (rows w3X l0))),Am.Spec Tryz.prog gl 65 [.ref false o0 q0 0 l0.length,.str a1] st (fun d st'=>d= .int .i64 r∧st'=puts st []):=by
 intro st o0 q0 hnd w8Z
 unfold w9n at h
 have ho0:=w5a w8Z
 have fx:=idf ho0
 refine fb 19 [.tmp 4] [0,1,4,5,7,8,9,16] Tryz.func65 fun hsc=>?_
 refine x1L (s':=(w4O st [(o0,(.arr q0 1 16 (rows w3X l0)))])) (w4w (by simp[w8Z])) ?_
 obtain⟨fx,h⟩:=ck fx h
 refine rn ?_
 refine rng (body:=w8q a1 l0) (kk:=w8r) (n:=l0.length) (s0:=())
  (fun(gs0:Unit) (k0:Nat) (s0:Unit)=>[(0,.ref false o0 q0 0 l0.length),(1,.str a1),(7,.int .i64 (↑l0.length:Int)),(8,.int .i64 (↑k0:Int))])
  (fun(gs0:Unit) (k0:Nat) (s0:Unit)=>(w4O st [(o0,(.arr q0 1 16 (rows w3X l0)))]))
  (fun(gt0:Unit) (t0:Unit)=>[])
  (fun(gt0:Unit) (t0:Unit)=>(w4O st [(o0,(.arr q0 1 16 (rows w3X l0)))]))
  () fx fx.2 h (y1c hsc)
  (fun gs0 k0 s0 b0 fx h hx0=>?_) (fun gs0 s0=>?_) (fun gt0 t0 fr1 st1 h hb=>?_)
 ·unfold w8q at h
  refine ct ?_
  refine r0 ?_
  refine r0 ?_
  refine r0 ?_
  have fy:=(show(rows w3X l0).getD k0 []=w3X (get l0 k0)from y2e (E:=w3X) (l:=l0) (k:=k0) (by first|omega|(simp;omega)))
  have fy:=fa fy (show k0<l0.length from by first|omega|(simp;omega))
  refine r1 ?_
  refine cd h (fun hc h=>?_) fun hc h=>?_
  ·refine ra ?_
   cases h
   refine w8C ?_;have h:=congrArg some (hx0 _ rfl)
   refine rr ?_
   exact fus (.int .i64 (↑k0:Int)) (.same _) h hsc (hr:=by rintro rfl;exact⟨rfl,w4w (by simp[w8Z])⟩)
  ·refine rn ?_
   cases h
   exact x2D () (y1c hsc)
 ·refine cf ?_
  refine x2J ?_;simp only[go_sem,fx]
  exact⟨(),(y1c hsc)⟩
 ·try simp only[go_sem,fx]
  unfold w8r at h
  refine w5A hb ?_
  refine rr ?_
  exact fus (.int .i64 (-1)) (.same _) h hsc (hr:=by rintro rfl;exact⟨rfl,w4w (by simp[w8Z])⟩)
theorem x2q(a1:Bs)(l0:(List Bs))(r:Bool)(h:w8s a1 l0=some r):∀(st:St) (o0 q0:Nat) (hnd: [o0].Nodup) (w8Z:Am.look st o0=some (.arr q0 1 16 (rows w3X l0))),Am.Spec Tryz.prog gl 43 [.ref false o0 q0 0 l0.length,.str a1] st (fun d st'=>d= .bool r∧st'=puts st []):=by
 intro st o0 q0 hnd w8Z
 unfold w8s at h
 have ho0:=w5a w8Z
 have fx:=idf ho0
 refine fb 9 [.tmp 4] [0,1,4] Tryz.func43 fun hsc=>?_
 refine x1L (s':=(w4O st [(o0,(.arr q0 1 16 (rows w3X l0)))])) (w4w (by simp[w8Z])) ?_
 refine rn ?_
 obtain⟨v1,hv1,h⟩:=w7w h
 refine(x3k _ _ _ hv1 _ _ q0 hnd (by simp only[go_sem,fx])).mono ?_
 rintro d1 st1 ⟨rfl,rfl⟩
 refine rr ?_
 exact fus (.bool (decide (0≤v1))) (.same _) h hsc (hr:=by rintro rfl;exact⟨rfl,w4w (by simp[w8Z])⟩)
theorem x3l(a0:(List Bs))(r:(List Bs))(h:w9o a0=some r):Pure Tryz.prog gl 45 [.sl false 1 16 (rows w3X a0)] (.sl false 1 16 (rows w3X r)):=by
 intro st
 refine x3d ?_
 unfold w9o at h
 have hr:=Option.some.inj h
 subst hr
 refine z5P (N:=8) (rs:=[.tmp 2]) (keep:=[0,2,4]) Tryz.func45 rfl rfl rfl (by kernel_rfl) rfl fun hsc=>?_
 refine z5D (t:=0) rfl fun hl=>?_
 (repeat apply sq_);apply er_;simp only[go_sem]
 (repeat apply sq_);refine y2c rfl ⟨9,by rw[z7e]⟩ (by omega) (by omega) fun c hcn=>?_
 simp only[go_sem]
 (repeat apply sq_);refine z2N (by rfl) (fun hc=>?_) fun hc=>?_
 ·(repeat apply sq_);apply er_;simp only[go_sem]
  refine z0U ?_
  try simp only[go_sem]
  have z6t:=hcn hc
  rw[z6t]
  refine z2t ?_;simp only[go_sem]
  exact x7c hsc (.w4g _ _ _ (by decide)) (by simp) ⟨rfl,rfl⟩
 ·refine y8u ?_;try simp only[go_sem]
  (repeat apply sq_);apply er_;simp only[go_sem]
  simp only[y2d]at hl
  refine⟨⟨by omega,by simp only[top]at *; omega⟩,?_⟩
  refine z0U ?_
  try simp only[go_sem]
  refine z2t ?_;simp only[go_sem]
  exact y1a hsc (.ref _ _ _ _ _ _ _ _ _ (x6a.trans rfl) y4B (by decide) (x4L a0) (by simp only[go_sem])) (by simp) ⟨rfl,rfl⟩
theorem x9R:∀(n:Nat) (a0:w3T) (r:w3T) (h:x2I n a0=some r),Pure Tryz.prog gl 54 [.agg [.int .i64 a0.kind,.str a0.name,.sl false 1 16 (rows w3X a0.words),.sl false 4 72 (rows w3T.cells a0.subs)]] (.agg [.int .i64 r.kind,.str r.name,.sl false 1 16 (rows w3X r.words),.sl false 4 72 (rows w3T.cells r.subs)]):=by
 intro n
 induction n with
 |zero=>intro a0 r h;cases h
 |succ n ih=>
  intro a0 r h st
  unfold x2I at h
  have fx:=trivial
  refine fb 30 [.cell 2 25] [0,1,2,3,5,15,16,17,18] Tryz.func54 fun hsc=>?_
  refine rn ?_
  refine dw [] 1 ?_
  obtain⟨v1,hv1,h⟩:=w7w h
  refine w7Z (x3l _ _ hv1) ?_
  try simp only[go_sem,fx]
  refine r0 ?_
  (repeat apply sq_)
  refine w9I 4 72 ?_
  try simp only[List.append_assoc,List.cons_append,List.nil_append]
  refine w5A (F:=[(2,.ptr (st.length+1) 0 0 0),(3,.ptr (st.length+2) 0 0 0),(15,.sl false 4 72 (rows w3T.cells a0.subs)),(16,.int .i64 (↑a0.subs.length:Int)),(17,.int .i64 0)]) (T:=st++[some (.arr 0 4 0 [[.int .i64 a0.kind,.str a0.name,.sl false 1 16 (rows w3X a0.words),.sl false 4 72 (rows w3T.cells a0.subs)]]),some (.arr 0 4 0 [[.int .i64 0,.str [],.w4g,.w4g]]),some (.arr 0 4 0 [[.int .i64 a0.kind,.str a0.name,.sl false 1 16 (rows w3X v1),.ref false (st.length+3) 0 0 0]]),some (.arr 0 4 72 (rows w3T.cells []))]) (y1B hsc (.lv (.lv (.live _ _ _ _ (.arr _ _ _ _ _ (.cons _ _ _ _ (.cons _ _ _ _ .s (.cons _ _ _ _ .s (.cons _ _ _ _ .s (.cons _ _ _ _ (.nref _ _ _ _ _ _ (x6a.trans rfl)) .nil)))) (.same _))) (.lv (.nil _))))) (by simp) ⟨.s,.s,.s,.s,.s,trivial⟩ (by simp)) ?_
  refine aln 15 fun hl0=>?_
  refine rng (body:=x3E (x2I n) a0) (kk:=x3F a0 v1) (n:=a0.subs.length) (s0:=[])
   (fun(gs0:Nat) (k0:Nat) (s0:(List w3T))=>[(2,.ptr (st.length+1) 0 0 0),(3,.ptr (st.length+2) 0 0 0),(15,.sl false 4 72 (rows w3T.cells a0.subs)),(16,.int .i64 (↑a0.subs.length:Int)),(17,.int .i64 (↑k0:Int))])
   (fun(gs0:Nat) (k0:Nat) (s0:(List w3T))=>st++[none,some (.arr 0 4 0 [[.int .i64 0,.str [],.w4g,.w4g]]),some (.arr 0 4 0 [[.int .i64 a0.kind,.str a0.name,.sl false 1 16 (rows w3X v1),.ref false (st.length+3) gs0 0 s0.length]]),some (.arr gs0 4 72 (rows w3T.cells s0))])
   (fun(gt0:Nat) (t0:(List w3T))=>[(2,.ptr (st.length+1) 0 0 0),(3,.ptr (st.length+2) 0 0 0)])
   (fun(gt0:Nat) (t0:(List w3T))=>st++[none,some (.arr 0 4 0 [[.int .i64 0,.str [],.w4g,.w4g]]),some (.arr 0 4 0 [[.int .i64 a0.kind,.str a0.name,.sl false 1 16 (rows w3X v1),.ref false (st.length+3) gt0 0 t0.length]]),some (.arr gt0 4 72 (rows w3T.cells t0))])
   0 fx hl0 h (bm hsc)
   (fun gs0 k0 s0 b0 fx h hx0=>?_) (fun gs0 s0=>?_) (fun gt0 t0 fr1 st1 h hb=>?_)
  ·unfold x3E at h
   refine ct ?_
   refine rn ?_
   refine dw [] 2 ?_
   obtain⟨v9,hv9,h⟩:=w7w h
   refine w7Z (ih _ _ hv9) ?_
   obtain⟨c11,z0I,h⟩:=x1k h
   have fy:=(show rows w3T.cells s0++[[.int .i64 v9.kind,.str v9.name,.sl false 1 16 (rows w3X v9.words),.sl false 4 72 (rows w3T.cells v9.subs)]]=rows w3T.cells c11 from by rw[z0I];first|exact w4k (E:=w3T.cells) s0 [v9]|simp only[go_sem,rows,List.map_append,List.map_cons,List.map_nil])
   have fy:=fa fy (show s0.length+1=c11.length from by rw[z0I];simp)
   obtain⟨fx,h⟩:=ck fx h
   try simp only[go_sem,fx,fy]
   refine rn ?_
   cases h
   exact x2D (gs0+1) (bm hsc)
  ·refine cf ?_
   refine x2J ?_;simp only[go_sem,fx]
   exact⟨gs0,(bm hsc)⟩
  ·try simp only[go_sem,fx]
   unfold x3F at h
   refine w5A hb ?_
   refine rr ?_
   exact fo (.agg [.int .i64 a0.kind,.str a0.name,.sl false 1 16 (rows w3X v1),.sl false 4 72 (rows w3T.cells t0)]) (.agg _ _ (.cons _ _ _ _ .s (.cons _ _ _ _ .s (.cons _ _ _ _ .s (.cons _ _ _ _ (.ref _ _ _ _ _ _ _ _ _ (x6a.trans rfl) y4B (by decide) (x4L _) (by simp only[go_sem])) .nil))))) h hsc
end Go.Proofs.YtdjnbjnlnjhllaaGreatDoor
