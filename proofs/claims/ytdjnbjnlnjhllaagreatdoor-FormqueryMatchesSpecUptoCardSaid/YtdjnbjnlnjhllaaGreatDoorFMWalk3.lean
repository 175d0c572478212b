import Derived.Test.YtdjnbjnlnjhllaaGreatDoorFMWalk2
set_option linter.unusedVariables false
set_option linter.unusedSimpArgs false
set_option maxHeartbeats 2000000
set_option maxRecDepth 100000
namespace Go.Proofs.YtdjnbjnlnjhllaaGreatDoor
open Go Go.Am
theorem r1n(n:Nat)(a0:i8I)(r:i8I)(h:p4U n a0=some r):Pure Tryz.prog gl 52 [.agg [.int .i64 a0.form.kind,.str a0.form.name,.sl false 1 16 (rows i8K a0.form.words),.sl false 4 72 (rows i8F.cells a0.form.subs),.sl false 1 16 (rows i8K a0.words),.sl false 1 16 (rows i8K a0.i8M),.sl false 1 16 (rows i8K a0.parts)]] (.agg [.int .i64 r.form.kind,.str r.form.name,.sl false 1 16 (rows i8K r.form.words),.sl false 4 72 (rows i8F.cells r.form.subs),.sl false 1 16 (rows i8K r.words),.sl false 1 16 (rows i8K r.i8M),.sl false 1 16 (rows i8K r.parts)]):=by
 intro st
 unfold p4U at h
 have fx:=trivial
 refine fb 23 [.cell 2 27] [0,1,2,3,4] Tryz.func52 fun hsc=>?_
 refine rn ?_
 refine dw [3,6,10,14] 0 ?_
 obtain⟨v1,hv1,h⟩:=p3S h
 refine r1Y [st.length,(st.length+2)] (fun st2 h2=>((r0x n _ _ _ _ _ _ _ _ _ _ hv1 st2 _ _ (by simp) ((h2 _ (by simp)).trans (p8m.trans rfl)) ((h2 _ (by simp)).trans (r1p.trans rfl))).up (.cons _ _ _ _ .s (.cons _ _ _ _ (.i8S _ _ _ (by decide)) (.cons _ _ _ _ .s (.cons _ _ _ _ .s .nil)))) (by have q0:=p0H ((h2 st.length (by simp)).trans (p8m.trans rfl));have q1:=p0H ((h2 (st.length+2) (by simp)).trans (r1p.trans rfl));simp<;>omega))) (by simp) (by simp only[List.mem_cons,List.not_mem_nil,or_false,forall_eq_or_imp,forall_eq];exact⟨⟨by first|omega|(simp<;>omega),_,(p8m.trans rfl),Ob.noConfusion⟩,⟨by first|omega|(simp<;>omega),_,(r1p.trans rfl),Ob.noConfusion⟩⟩) (by simp) ?_
 try simp only[go_sem,fx]
 obtain⟨v2,hv2,h⟩:=p3S h
 refine p3w (p5I _ _ _ hv2) ?_
 try simp only[go_sem,fx]
 obtain⟨v3,hv3,h⟩:=p3S h
 refine p3w (p5I _ _ _ hv3) ?_
 try simp only[go_sem,fx]
 obtain⟨v4,hv4,h⟩:=p3S h
 refine p3w (p5I _ _ _ hv4) ?_
 try simp only[go_sem,fx]
 try refine⟨by first|omega|(simp<;>omega),?_⟩
 exact rt
theorem p7E(a0:(List Bs))(a1:(List Bs))(r:Bool)(h:p0w a0 a1=some r):Pure Tryz.prog gl 82 [.sl false 1 16 (rows i8K a0),.sl false 1 16 (rows i8K a1)] (.bool r):=by
 intro st
 unfold p0w at h
 have fx:=trivial
 refine fb 26 [.tmp 4] [0,1,4,5,10,12,13,14,24] Tryz.func82 fun hsc=>?_
 refine cd h (fun hc h=>?_) fun hc h=>?_
 ·exact rt
 ·refine aln 0 fun hl0=>?_
  refine rng (body:=p1B a1 a0) (kk:=p1C) (n:=a0.length) (s0:=())
   (fun(gs0:Unit) (k0:Nat) (s0:Unit)=>[(0,.sl false 1 16 (rows i8K a0)),(1,.sl false 1 16 (rows i8K a1)),(12,.int .i64 (↑a0.length:Int)),(13,.int .i64 (↑k0:Int))])
   (fun(gs0:Unit) (k0:Nat) (s0:Unit)=>st)
   (fun(gt0:Unit) (t0:Unit)=>[])
   (fun(gt0:Unit) (t0:Unit)=>st)
   () fx hl0 h (p7g hsc)
   (fun gs0 k0 s0 b0 fx h hx0=>?_) (fun gs0 s0=>?_) (fun gt0 t0 fr1 st1 h hb=>?_)
  ·unfold p1B at h
   refine ct ?_
   refine rn ?_
   obtain⟨fx,h⟩:=ck fx h
   refine dw [] 0 ?_
   refine cd h (fun hc h=>?_) fun hc h=>?_
   ·refine ra ?_
    cases h
    refine p4j ?_;have h:=congrArg some (hx0 _ rfl)
    exact rt
   ·refine rn ?_
    cases h
    exact p7A () (p7g hsc)
  ·refine cf ?_
   refine p7n ?_;simp only[go_sem,fx]
   exact⟨(),(p7g hsc)⟩
  ·try simp only[go_sem,fx]
   unfold p1C at h
   refine p0E hb ?_
   exact rt
theorem r3U:∀(n:Nat) (a0:i8F) (a1:i8F) (r:Bool) (h:p5G n a0 a1=some r),Pure Tryz.prog gl 74 [.agg [.int .i64 a0.kind,.str a0.name,.sl false 1 16 (rows i8K a0.words),.sl false 4 72 (rows i8F.cells a0.subs)],.agg [.int .i64 a1.kind,.str a1.name,.sl false 1 16 (rows i8K a1.words),.sl false 4 72 (rows i8F.cells a1.subs)]] (.bool r):=by
 intro n
 induction n with
 |zero=>intro a0 a1 r h;cases h
 |succ n ih=>
  intro a0 a1 r h st
  unfold p5G at h
  have fx:=trivial
  refine fb 54 [.tmp 4] [0,1,2,3,4,5,12,13,14,15,16,19,20,21,22,23,24,27,28,29,30,31,32,33,34,37,38,39,52] Tryz.func74 fun hsc=>?_
  refine rn ?_
  obtain⟨v1,hv1,h⟩:=p3S h
  refine p6K (fun hG=>(p7E _ _ _ (r4k hv1 (by simpa using hG)))) ?_
  refine cd h (fun hc h=>?_) fun hc h=>?_
  ·exact rt
  ·obtain⟨fx,h⟩:=ck fx h
   refine rn ?_
   refine rng (body:=p6t (p5G n) a1 a0) (kk:=p6u) (n:=a0.subs.length) (s0:=())
    (fun(gs0:Unit) (k0:Nat) (s0:Unit)=>[(2,.ptr st.length 0 0 0),(3,.ptr (st.length+1) 0 0 0),(37,.int .i64 (↑a0.subs.length:Int)),(38,.int .i64 (↑k0:Int))])
    (fun(gs0:Unit) (k0:Nat) (s0:Unit)=>st++[some (.arr 0 4 0 [[.int .i64 a0.kind,.str a0.name,.sl false 1 16 (rows i8K a0.words),.sl false 4 72 (rows i8F.cells a0.subs)]]),some (.arr 0 4 0 [[.int .i64 a1.kind,.str a1.name,.sl false 1 16 (rows i8K a1.words),.sl false 4 72 (rows i8F.cells a1.subs)]])])
    (fun(gt0:Unit) (t0:Unit)=>[])
    (fun(gt0:Unit) (t0:Unit)=>st)
    () fx fx.2 h (bm hsc)
    (fun gs0 k0 s0 b0 fx h hx0=>?_) (fun gs0 s0=>?_) (fun gt0 t0 fr1 st1 h hb=>?_)
   ·unfold p6t at h
    refine ct ?_
    refine rn ?_
    obtain⟨fx,h⟩:=ck fx h
    refine dw [] 0 ?_
    obtain⟨v4,hv4,h⟩:=p3S h
    refine p3w (ih _ _ _ hv4) ?_
    try simp only[go_sem,fx]
    refine cd h (fun hc h=>?_) fun hc h=>?_
    ·refine ra ?_
     cases h
     refine p4j ?_;have h:=congrArg some (hx0 _ rfl)
     exact rt
    ·refine rn ?_
     cases h
     exact p7A () (bm hsc)
   ·refine cf ?_
    refine p7n ?_;simp only[go_sem,fx]
    exact⟨(),(bm0 hsc)⟩
   ·try simp only[go_sem,fx]
    unfold p6u at h
    refine p0E hb ?_
    exact rt
theorem p7P(a1:Bs)(a2:Bs)(m0:(List (Bs×i8H)))(r:Bool×(List (Bs×i8H)))(h:p3g a1 a2 m0=some r):∀(st:St) (o0:Nat) (hnd: [o0].Nodup) (p4J:Am.look st o0=some (.mps true (mrw i8H.cells m0))),Am.Spec Tryz.prog gl 75 [.mp o0,.str a1,.str a2] st (fun d st'=>d= .bool r.1∧st'=puts st [(o0,(.mps true (mrw i8H.cells r.2)))]):=by
 intro st o0 hnd p4J
 unfold p3g at h
 have ho0:=p0H p4J
 have fx:=idf ho0
 refine fb 25 [.tmp 6] [0,1,2,6,7,8,15] Tryz.func75 fun hsc=>?_
 refine p6z (s':=(i9Q st [(o0,(.mps true (mrw i8H.cells m0)))])) (i9B (by simp[p4J])) ?_
 refine cd h (fun hc h=>?_) fun hc h=>?_
 ·refine rr ?_
  exact fuo (.bool (decide ((((assoc a1 m0).getD default).text)=a2))) (.same _) h hsc
 ·refine r0 ?_
  obtain⟨c1,hc1,h⟩:=p5L h
  have fy:=(show i9J a1 [.str a1,.str a2,.int .i64 0,.str [],.sl false 1 16 [],.sl false 4 72 []] (mrw i8H.cells m0)=mrw i8H.cells c1 from by rw[hc1];exact u0D (κ:=Bs) (E:=i8H.cells) a1 (i8H.mk a1 a2 (i8F.mk 0 [] [] [])) m0)
  refine r1 ?_
  refine rr ?_
  exact fuo (.bool true) (.same _) h hsc
theorem r0y:∀(n:Nat) (a0:i8I) (a1:i8F) (a2:i8F) (m0:(List (Bs×i8H))) (r:Bool×(List (Bs×i8H))) (h:i9u n a0 a1 a2 m0=some r),∀(st:St) (o0:Nat) (hnd: [o0].Nodup) (p4J:Am.look st o0=some (.mps true (mrw i8H.cells m0))),Am.Spec Tryz.prog gl 53 [.agg [.int .i64 a0.form.kind,.str a0.form.name,.sl false 1 16 (rows i8K a0.form.words),.sl false 4 72 (rows i8F.cells a0.form.subs),.sl false 1 16 (rows i8K a0.words),.sl false 1 16 (rows i8K a0.i8M),.sl false 1 16 (rows i8K a0.parts)],.agg [.int .i64 a1.kind,.str a1.name,.sl false 1 16 (rows i8K a1.words),.sl false 4 72 (rows i8F.cells a1.subs)],.agg [.int .i64 a2.kind,.str a2.name,.sl false 1 16 (rows i8K a2.words),.sl false 4 72 (rows i8F.cells a2.subs)],.mp o0] st (fun d st'=>d= .bool r.1∧st'=puts st [(o0,(.mps true (mrw i8H.cells r.2)))]):=by
 intro n
 induction n with
 |zero=>intro a0 a1 a2 m0 r h;cases h
 |succ n ih=>
  intro a0 a1 a2 m0 r h st o0 hnd p4J
  unfold i9u at h
  have ho0:=p0H p4J
  have fx:=idf ho0
  refine fb 138 [.tmp 8] [0,1,2,3,4,5,6,8,9,10,11,12,14,15,16,19,27,45,46,47,48,49,50,51,52,53,60,61,62,63,64,72,73,80,81,82,83,93,96,97,98,99,109,110,120,121,122,123,136] Tryz.func53 fun hsc=>?_
  refine p6z (s':=(i9Q st [(o0,(.mps true (mrw i8H.cells m0)))])) (i9B (by simp[p4J])) ?_
  refine cl h (p8Y _ _) fun v1 h=>?_
  refine cd h (fun hc h=>?_) fun hc h=>?_
  ·refine cd h (fun hc h=>?_) fun hc h=>?_
   ·refine cl h (r3U n _ _) fun v2 h=>?_
    refine rr ?_
    exact fuo (.bool v2) (.same _) h hsc
   ·refine r0 ?_
    obtain⟨c3,hc3,h⟩:=p5L h
    have fy:=(show i9J a1.name [.str a1.name,.str [],.int .i64 a2.kind,.str a2.name,.sl false 1 16 (rows i8K a2.words),.sl false 4 72 (rows i8F.cells a2.subs)] (mrw i8H.cells m0)=mrw i8H.cells c3 from by rw[hc3];exact u0D (κ:=Bs) (E:=i8H.cells) a1.name (i8H.mk a1.name [] a2) m0)
    refine r1 ?_
    refine rr ?_
    exact fuo (.bool true) (.same _) h hsc
  ·refine cd h (fun hc h=>?_) fun hc h=>?_
   ·refine rr ?_
    exact fuo (.bool false) (.same _) h hsc
   ·refine cl h (p1u _) fun v5 h=>?_
    refine rn ?_
    refine p4c (p0U (i9u n) a1 a2 m0 a0) r (fun(gj0:Unit) (j0:Bool)=>[(3,.mp o0),(4,.ptr st.length 0 0 0),(5,.ptr (st.length+1) 0 0 0),(6,.ptr (st.length+2) 0 0 0),(53,.bool j0)]) (fun(gj0:Unit) (j0:Bool)=>(i9Q st [(o0,(.mps true (mrw i8H.cells m0)))])++[some (.arr 0 7 0 [[.int .i64 a0.form.kind,.str a0.form.name,.sl false 1 16 (rows i8K a0.form.words),.sl false 4 72 (rows i8F.cells a0.form.subs),.sl false 1 16 (rows i8K a0.words),.sl false 1 16 (rows i8K a0.i8M),.sl false 1 16 (rows i8K a0.parts)]]),some (.arr 0 4 0 [[.int .i64 a1.kind,.str a1.name,.sl false 1 16 (rows i8K a1.words),.sl false 4 72 (rows i8F.cells a1.subs)]]),some (.arr 0 4 0 [[.int .i64 a2.kind,.str a2.name,.sl false 1 16 (rows i8K a2.words),.sl false 4 72 (rows i8F.cells a2.subs)]])]) (fun gj0 j0 fr1 st1 h hb=>?_) (fun hj0=>?_)
    ·try simp only[go_sem,fx]
     unfold p0U at h
     refine p0E hb ?_
     (repeat apply sq_)
     refine p4c (p1J (i9u n) a1 a0 a2) r (fun(gj1:Unit) (j1:(List (Bs×i8H)))=>[(3,.mp o0),(4,.ptr st.length 0 0 0),(5,.ptr (st.length+1) 0 0 0),(6,.ptr (st.length+2) 0 0 0)]) (fun(gj1:Unit) (j1:(List (Bs×i8H)))=>(i9Q st [(o0,(.mps true (mrw i8H.cells j1)))])++[some (.arr 0 7 0 [[.int .i64 a0.form.kind,.str a0.form.name,.sl false 1 16 (rows i8K a0.form.words),.sl false 4 72 (rows i8F.cells a0.form.subs),.sl false 1 16 (rows i8K a0.words),.sl false 1 16 (rows i8K a0.i8M),.sl false 1 16 (rows i8K a0.parts)]]),some (.arr 0 4 0 [[.int .i64 a1.kind,.str a1.name,.sl false 1 16 (rows i8K a1.words),.sl false 4 72 (rows i8F.cells a1.subs)]]),some (.arr 0 4 0 [[.int .i64 a2.kind,.str a2.name,.sl false 1 16 (rows i8K a2.words),.sl false 4 72 (rows i8F.cells a2.subs)]])]) (fun gj1 j1 fr1 st1 h hb=>?_) (fun hj1=>?_)
     ·try simp only[go_sem,fx]
      unfold p1J at h
      refine p0E hb ?_
      refine aln 80 fun hl2=>?_
      refine rng (body:=p3h a1 a0 a2) (kk:=p4t (i9u n) a2 a0 a1) (n:=a1.words.length) (s0:=j1)
       (fun(gs2:Unit) (k2:Nat) (s2:(List (Bs×i8H)))=>[(3,.mp o0),(4,.ptr st.length 0 0 0),(5,.ptr (st.length+1) 0 0 0),(6,.ptr (st.length+2) 0 0 0),(80,.sl false 1 16 (rows i8K a1.words)),(81,.int .i64 (↑a1.words.length:Int)),(82,.int .i64 (↑k2:Int))])
       (fun(gs2:Unit) (k2:Nat) (s2:(List (Bs×i8H)))=>(i9Q st [(o0,(.mps true (mrw i8H.cells s2)))])++[some (.arr 0 7 0 [[.int .i64 a0.form.kind,.str a0.form.name,.sl false 1 16 (rows i8K a0.form.words),.sl false 4 72 (rows i8F.cells a0.form.subs),.sl false 1 16 (rows i8K a0.words),.sl false 1 16 (rows i8K a0.i8M),.sl false 1 16 (rows i8K a0.parts)]]),some (.arr 0 4 0 [[.int .i64 a1.kind,.str a1.name,.sl false 1 16 (rows i8K a1.words),.sl false 4 72 (rows i8F.cells a1.subs)]]),some (.arr 0 4 0 [[.int .i64 a2.kind,.str a2.name,.sl false 1 16 (rows i8K a2.words),.sl false 4 72 (rows i8F.cells a2.subs)]])])
       (fun(gt2:Unit) (t2:(List (Bs×i8H)))=>[(3,.mp o0),(4,.ptr st.length 0 0 0),(5,.ptr (st.length+1) 0 0 0),(6,.ptr (st.length+2) 0 0 0)])
       (fun(gt2:Unit) (t2:(List (Bs×i8H)))=>(i9Q st [(o0,(.mps true (mrw i8H.cells t2)))])++[some (.arr 0 7 0 [[.int .i64 a0.form.kind,.str a0.form.name,.sl false 1 16 (rows i8K a0.form.words),.sl false 4 72 (rows i8F.cells a0.form.subs),.sl false 1 16 (rows i8K a0.words),.sl false 1 16 (rows i8K a0.i8M),.sl false 1 16 (rows i8K a0.parts)]]),some (.arr 0 4 0 [[.int .i64 a1.kind,.str a1.name,.sl false 1 16 (rows i8K a1.words),.sl false 4 72 (rows i8F.cells a1.subs)]]),some (.arr 0 4 0 [[.int .i64 a2.kind,.str a2.name,.sl false 1 16 (rows i8K a2.words),.sl false 4 72 (rows i8F.cells a2.subs)]])])
       () fx hl2 h (bu hsc)
       (fun gs2 k2 s2 b2 fx h hx2=>?_) (fun gs2 s2=>?_) (fun gt2 t2 fr1 st1 h hb=>?_)
      ·unfold p3h at h
       refine ct ?_
       refine rn ?_
       obtain⟨v12,hv12,h⟩:=p3S h
       refine p6K (fun hG=>(i8Q _ _ _ (r4k hv12 (by simpa using hG)))) ?_
       refine cd h (fun hc h=>?_) fun hc h=>?_
       ·obtain⟨fx,h⟩:=ck fx h
        refine rn ?_
        obtain⟨v14,hv14,h⟩:=p3S h
        refine(p7P _ _ _ _ hv14 _ _ hnd (by simp only[go_sem,fx])).mono ?_
        rintro d1 st1 ⟨rfl,rfl⟩
        refine cd h (fun hc h=>?_) fun hc h=>?_
        ·refine ra ?_
         cases h
         refine p4j ?_;have h:=congrArg some (hx2 _ rfl)
         refine rr ?_
         exact fuo (.bool false) (.same _) h hsc
        ·refine rn ?_
         cases h
         exact p7A () (bu hsc)
       ·obtain⟨fx,h⟩:=ck fx h
        refine cd h (fun hc h=>?_) fun hc h=>?_
        ·refine ra ?_
         cases h
         refine p4j ?_;have h:=congrArg some (hx2 _ rfl)
         refine rr ?_
         exact fuo (.bool false) (.same _) h hsc
        ·refine rn ?_
         cases h
         exact p7A () (bu hsc)
      ·refine cf ?_
       refine p7n ?_;simp only[go_sem,fx]
       exact⟨(),(bu hsc)⟩
      ·try simp only[go_sem,fx]
       unfold p4t at h
       refine p0E hb ?_
       refine aln 120 fun hl3=>?_
       refine rng (body:=p4u (i9u n) a2 a0 a1) (kk:=p4v) (n:=a1.subs.length) (s0:=t2)
        (fun(gs3:Unit) (k3:Nat) (s3:(List (Bs×i8H)))=>[(3,.mp o0),(4,.ptr st.length 0 0 0),(6,.ptr (st.length+2) 0 0 0),(120,.sl false 4 72 (rows i8F.cells a1.subs)),(121,.int .i64 (↑a1.subs.length:Int)),(122,.int .i64 (↑k3:Int))])
        (fun(gs3:Unit) (k3:Nat) (s3:(List (Bs×i8H)))=>(i9Q st [(o0,(.mps true (mrw i8H.cells s3)))])++[some (.arr 0 7 0 [[.int .i64 a0.form.kind,.str a0.form.name,.sl false 1 16 (rows i8K a0.form.words),.sl false 4 72 (rows i8F.cells a0.form.subs),.sl false 1 16 (rows i8K a0.words),.sl false 1 16 (rows i8K a0.i8M),.sl false 1 16 (rows i8K a0.parts)]]),none,some (.arr 0 4 0 [[.int .i64 a2.kind,.str a2.name,.sl false 1 16 (rows i8K a2.words),.sl false 4 72 (rows i8F.cells a2.subs)]])])
        (fun(gt3:Unit) (t3:(List (Bs×i8H)))=>[])
        (fun(gt3:Unit) (t3:(List (Bs×i8H)))=>(i9Q st [(o0,(.mps true (mrw i8H.cells t3)))]))
        () fx hl3 h (bu hsc)
        (fun gs3 k3 s3 b3 fx h hx3=>?_) (fun gs3 s3=>?_) (fun gt3 t3 fr1 st1 h hb=>?_)
       ·unfold p4u at h
        refine ct ?_
        refine rn ?_
        obtain⟨fx,h⟩:=ck fx h
        refine dw [8] 0 ?_
        obtain⟨v19,hv19,h⟩:=p3S h
        refine r1Y [o0] (fun st2 h2=>(ih _ _ _ _ _ hv19 st2 _ hnd ((h2 _ (by simp)).trans (by simp only[go_sem,fx])))) (by simp) (by simp only[List.mem_cons,List.not_mem_nil,or_false,forall_eq_or_imp,forall_eq];exact⟨by first|omega|(simp<;>omega),_,(by simp only[go_sem,fx]<;>rfl),Ob.noConfusion⟩) (by simp) ?_
        try simp only[go_sem,fx]
        try refine⟨by first|omega|(simp<;>omega),?_⟩
        refine cd h (fun hc h=>?_) fun hc h=>?_
        ·refine ra ?_
         cases h
         refine p4j ?_;have h:=congrArg some (hx3 _ rfl)
         refine rr ?_
         exact fuo (.bool false) (.same _) h hsc
        ·refine rn ?_
         cases h
         exact p7A () (bu hsc)
       ·refine cf ?_
        refine p7n ?_;simp only[go_sem,fx]
        exact⟨(),(bu0 hsc)⟩
       ·try simp only[go_sem,fx]
        unfold p4v at h
        refine p0E hb ?_
        refine rr ?_
        exact fus (.bool true) (.same _) h hsc
     ·refine cd h (fun hc h=>?_) fun hc h=>?_
      ·refine rn ?_
       obtain⟨v7,hv7,h⟩:=p3S h
       refine(p7P _ _ _ _ hv7 _ _ hnd (by simp only[go_sem,fx])).mono ?_
       rintro d1 st1 ⟨rfl,rfl⟩
       refine cd h (fun hc h=>?_) fun hc h=>?_
       ·refine rr ?_
        exact fuo (.bool false) (.same _) h hsc
       ·refine r0 ?_
        refine hj1 () _ _ _ h ?_;exact(bu hsc)
      ·refine cd h (fun hc h=>?_) fun hc h=>?_
       ·refine rr ?_
        exact fuo (.bool false) (.same _) h hsc
       ·refine r0 ?_
        refine hj1 () _ _ _ h ?_;exact(bu hsc)
    ·refine cd h (fun hc h=>?_) fun hc h=>?_
     ·refine r0 ?_
      refine hj0 () _ _ _ h ?_;exact(bu hsc)
     ·refine rn ?_
      obtain⟨v6,hv6,h⟩:=p3S h
      refine p6K (fun hG=>(i8Q _ _ _ (r4k hv6 (by simpa using hG)))) ?_
      try simp only[go_sem,fx]
      refine hj0 () _ _ _ h ?_;exact(bu hsc)
theorem p7c(a1:Bs)(l0:(List Bs))(r:Int)(h:p2b a1 l0=some r):∀(st:St) (o0 q0:Nat) (hnd: [o0].Nodup) (p4J:Am.look st o0=some (.arr q0 1 16 (rows i8K l0))),Am.Spec Tryz.prog gl 65 [.ref false o0 q0 0 l0.length,.str a1] st (fun d st'=>d= .int .i64 r∧st'=puts st []):=by
 intro st o0 q0 hnd p4J
 unfold p2b at h
 have ho0:=p0H p4J
 have fx:=idf ho0
 refine fb 19 [.tmp 4] [0,1,4,5,7,8,9,16] Tryz.func65 fun hsc=>?_
 refine p6z (s':=(i9Q st [(o0,(.arr q0 1 16 (rows i8K l0)))])) (i9B (by simp[p4J])) ?_
 obtain⟨fx,h⟩:=ck fx h
 refine rn ?_
 refine rng (body:=p1h a1 l0) (kk:=p1i) (n:=l0.length) (s0:=())
  (fun(gs0:Unit) (k0:Nat) (s0:Unit)=>[(0,.ref false o0 q0 0 l0.length),(1,.str a1),(7,.int .i64 (↑l0.length:Int)),(8,.int .i64 (↑k0:Int))])
  (fun(gs0:Unit) (k0:Nat) (s0:Unit)=>(i9Q st [(o0,(.arr q0 1 16 (rows i8K l0)))]))
  (fun(gt0:Unit) (t0:Unit)=>[])
  (fun(gt0:Unit) (t0:Unit)=>(i9Q st [(o0,(.arr q0 1 16 (rows i8K l0)))]))
  () fx fx.2 h (u2k hsc)
  (fun gs0 k0 s0 b0 fx h hx0=>?_) (fun gs0 s0=>?_) (fun gt0 t0 fr1 st1 h hb=>?_)
 ·unfold p1h at h
  refine ct ?_
  refine r0 ?_
  refine r0 ?_
  refine r0 ?_
  have fy:=(show(rows i8K l0).getD k0 []=i8K (get l0 k0)from r0n (E:=i8K) (l:=l0) (k:=k0) (by first|omega|(simp;omega)))
  have fy:=fa fy (show k0<l0.length from by first|omega|(simp;omega))
  refine r1 ?_
  refine cd h (fun hc h=>?_) fun hc h=>?_
  ·refine ra ?_
   cases h
   refine p4j ?_;have h:=congrArg some (hx0 _ rfl)
   refine rr ?_
   exact fus (.int .i64 (↑k0:Int)) (.same _) h hsc (hr:=by rintro rfl;exact⟨rfl,i9B (by simp[p4J])⟩)
  ·refine rn ?_
   cases h
   exact p7A () (u2k hsc)
 ·refine cf ?_
  refine p7n ?_;simp only[go_sem,fx]
  exact⟨(),(u2k hsc)⟩
 ·try simp only[go_sem,fx]
  unfold p1i at h
  refine p0E hb ?_
  refine rr ?_
  exact fus (.int .i64 (-1)) (.same _) h hsc (hr:=by rintro rfl;exact⟨rfl,i9B (by simp[p4J])⟩)
theorem p6p(a1:Bs)(l0:(List Bs))(r:Bool)(h:i9j a1 l0=some r):∀(st:St) (o0 q0:Nat) (hnd: [o0].Nodup) (p4J:Am.look st o0=some (.arr q0 1 16 (rows i8K l0))),Am.Spec Tryz.prog gl 43 [.ref false o0 q0 0 l0.length,.str a1] st (fun d st'=>d= .bool r∧st'=puts st []):=by
 intro st o0 q0 hnd p4J
 unfold i9j at h
 have ho0:=p0H p4J
 have fx:=idf ho0
 refine fb 9 [.tmp 4] [0,1,4] Tryz.func43 fun hsc=>?_
 refine p6z (s':=(i9Q st [(o0,(.arr q0 1 16 (rows i8K l0)))])) (i9B (by simp[p4J])) ?_
 refine rn ?_
 obtain⟨v1,hv1,h⟩:=p3S h
 refine(p7c _ _ _ hv1 _ _ q0 hnd (by simp only[go_sem,fx])).mono ?_
 rintro d1 st1 ⟨rfl,rfl⟩
 refine rr ?_
 exact fus (.bool (decide (0≤v1))) (.same _) h hsc (hr:=by rintro rfl;exact⟨rfl,i9B (by simp[p4J])⟩)
theorem p7d(a0:(List Bs))(r:(List Bs))(h:p2a a0=some r):Pure Tryz.prog gl 45 [.sl false 1 16 (rows i8K a0)] (.sl false 1 16 (rows i8K r)):=by
 intro st
 refine p7K ?_
 unfold p2a at h
 have hr:=Option.some.inj h
 subst hr
 refine u9w (N:=8) (rs:=[.tmp 2]) (keep:=[0,2,4]) Tryz.func45 rfl rfl rfl (by kernel_rfl) rfl fun hsc=>?_
 refine u9l (t:=0) rfl fun hl=>?_
 (repeat apply sq_);apply er_;simp only[go_sem]
 (repeat apply sq_);refine r5R rfl ⟨9,by rw[w0M]⟩ (by omega) (by omega) fun c hcn=>?_
 simp only[go_sem]
 (repeat apply sq_);refine u6y (by rfl) (fun hc=>?_) fun hc=>?_
 ·(repeat apply sq_);apply er_;simp only[go_sem]
  refine u4K ?_
  try simp only[go_sem]
  have u9Z:=hcn hc
  rw[u9Z]
  refine u6d ?_;simp only[go_sem]
  exact r0U hsc (.i8S _ _ _ (by decide)) (by simp) ⟨rfl,rfl⟩
 ·refine u2j ?_;try simp only[go_sem]
  (repeat apply sq_);apply er_;simp only[go_sem]
  simp only[r5S]at hl
  refine⟨⟨by omega,by simp only[top]at *; omega⟩,?_⟩
  refine u4K ?_
  try simp only[go_sem]
  refine u6d ?_;simp only[go_sem]
  exact r4S hsc (.ref _ _ _ _ _ _ _ _ _ (r0c.trans rfl) r7l (by decide) (p9b a0) (by simp only[go_sem])) (by simp) ⟨rfl,rfl⟩
theorem r3H:∀(n:Nat) (a0:i8F) (r:i8F) (h:p4V n a0=some r),Pure Tryz.prog gl 54 [.agg [.int .i64 a0.kind,.str a0.name,.sl false 1 16 (rows i8K a0.words),.sl false 4 72 (rows i8F.cells a0.subs)]] (.agg [.int .i64 r.kind,.str r.name,.sl false 1 16 (rows i8K r.words),.sl false 4 72 (rows i8F.cells r.subs)]):=by
 intro n
 induction n with
 |zero=>intro a0 r h;cases h
 |succ n ih=>
  intro a0 r h st
  unfold p4V at h
  have fx:=trivial
  refine fb 30 [.cell 2 25] [0,1,2,3,5,15,16,17,18] Tryz.func54 fun hsc=>?_
  refine rn ?_
  refine dw [] 1 ?_
  obtain⟨v1,hv1,h⟩:=p3S h
  refine p3w (p7d _ _ hv1) ?_
  try simp only[go_sem,fx]
  refine r0 ?_
  (repeat apply sq_)
  refine p4S 4 72 ?_
  try simp only[List.append_assoc,List.cons_append,List.nil_append]
  refine p0E (F:=[(2,.ptr (st.length+1) 0 0 0),(3,.ptr (st.length+2) 0 0 0),(15,.sl false 4 72 (rows i8F.cells a0.subs)),(16,.int .i64 (↑a0.subs.length:Int)),(17,.int .i64 0)]) (T:=st++[some (.arr 0 4 0 [[.int .i64 a0.kind,.str a0.name,.sl false 1 16 (rows i8K a0.words),.sl false 4 72 (rows i8F.cells a0.subs)]]),some (.arr 0 4 0 [[.int .i64 0,.str [],.i8S,.i8S]]),some (.arr 0 4 0 [[.int .i64 a0.kind,.str a0.name,.sl false 1 16 (rows i8K v1),.ref false (st.length+3) 0 0 0]]),some (.arr 0 4 72 (rows i8F.cells []))]) (r5T hsc (.lv (.lv (.live _ _ _ _ (.arr _ _ _ _ _ (.cons _ _ _ _ (.cons _ _ _ _ .s (.cons _ _ _ _ .s (.cons _ _ _ _ .s (.cons _ _ _ _ (.nref _ _ _ _ _ _ (r0c.trans rfl)) .nil)))) (.same _))) (.lv (.nil _))))) (by simp) ⟨.s,.s,.s,.s,.s,trivial⟩ (by simp)) ?_
  refine aln 15 fun hl0=>?_
  refine rng (body:=p6a (p4V n) a0) (kk:=p6b a0 v1) (n:=a0.subs.length) (s0:=[])
   (fun(gs0:Nat) (k0:Nat) (s0:(List i8F))=>[(2,.ptr (st.length+1) 0 0 0),(3,.ptr (st.length+2) 0 0 0),(15,.sl false 4 72 (rows i8F.cells a0.subs)),(16,.int .i64 (↑a0.subs.length:Int)),(17,.int .i64 (↑k0:Int))])
   (fun(gs0:Nat) (k0:Nat) (s0:(List i8F))=>st++[none,some (.arr 0 4 0 [[.int .i64 0,.str [],.i8S,.i8S]]),some (.arr 0 4 0 [[.int .i64 a0.kind,.str a0.name,.sl false 1 16 (rows i8K v1),.ref false (st.length+3) gs0 0 s0.length]]),some (.arr gs0 4 72 (rows i8F.cells s0))])
   (fun(gt0:Nat) (t0:(List i8F))=>[(2,.ptr (st.length+1) 0 0 0),(3,.ptr (st.length+2) 0 0 0)])
   (fun(gt0:Nat) (t0:(List i8F))=>st++[none,some (.arr 0 4 0 [[.int .i64 0,.str [],.i8S,.i8S]]),some (.arr 0 4 0 [[.int .i64 a0.kind,.str a0.name,.sl false 1 16 (rows i8K v1),.ref false (st.length+3) gt0 0 t0.length]]),some (.arr gt0 4 72 (rows i8F.cells t0))])
   0 fx hl0 h (bm hsc)
   (fun gs0 k0 s0 b0 fx h hx0=>?_) (fun gs0 s0=>?_) (fun gt0 t0 fr1 st1 h hb=>?_)
  ·unfold p6a at h
   refine ct ?_
   refine rn ?_
   refine dw [] 2 ?_
   obtain⟨v9,hv9,h⟩:=p3S h
   refine p3w (ih _ _ hv9) ?_
   obtain⟨c11,u4x,h⟩:=p5L h
   have fy:=(show rows i8F.cells s0++[[.int .i64 v9.kind,.str v9.name,.sl false 1 16 (rows i8K v9.words),.sl false 4 72 (rows i8F.cells v9.subs)]]=rows i8F.cells c11 from by rw[u4x];first|exact i9b (E:=i8F.cells) s0 [v9]|simp only[go_sem,rows,List.map_append,List.map_cons,List.map_nil])
   have fy:=fa fy (show s0.length+1=c11.length from by rw[u4x];simp)
   obtain⟨fx,h⟩:=ck fx h
   try simp only[go_sem,fx,fy]
   refine rn ?_
   cases h
   exact p7A (gs0+1) (bm hsc)
  ·refine cf ?_
   refine p7n ?_;simp only[go_sem,fx]
   exact⟨gs0,(bm hsc)⟩
  ·try simp only[go_sem,fx]
   unfold p6b at h
   refine p0E hb ?_
   refine rr ?_
   exact fo (.agg [.int .i64 a0.kind,.str a0.name,.sl false 1 16 (rows i8K v1),.sl false 4 72 (rows i8F.cells t0)]) (.agg _ _ (.cons _ _ _ _ .s (.cons _ _ _ _ .s (.cons _ _ _ _ .s (.cons _ _ _ _ (.ref _ _ _ _ _ _ _ _ _ (r0c.trans rfl) r7l (by decide) (p9b _) (by simp only[go_sem])) .nil))))) h hsc
end Go.Proofs.YtdjnbjnlnjhllaaGreatDoor
