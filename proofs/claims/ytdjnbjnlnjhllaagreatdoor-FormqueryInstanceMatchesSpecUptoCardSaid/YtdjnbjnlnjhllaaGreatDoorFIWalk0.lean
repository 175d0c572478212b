import Derived.Test.YtdjnbjnlnjhllaaGreatDoorFIMirrors
set_option linter.unusedVariables false
set_option linter.unusedSimpArgs false
set_option maxHeartbeats 2000000
set_option maxRecDepth 100000
namespace Go.Proofs.YtdjnbjnlnjhllaaGreatDoor
open Go Go.Am
theorem x2e(a0:Bs)(a1:(List Bs))(r:w3T)(h:x0b a0 a1=some r):Pure Tryz.prog gl 23 [.str a0,.sl false 1 16 (rows w3X a1)] (.agg [.int .i64 r.kind,.str r.name,.sl false 1 16 (rows w3X r.words),.sl false 4 72 (rows w3T.cells r.subs)]):=by
 intro st
 unfold x0b at h
 have fx:=trivial
 refine fb 8 [.cell 4 25] [0,1,4] Tryz.func23 fun hsc=>?_
 refine rr ?_
 exact fo (.agg [.int .i64 2,.str a0,.sl false 1 16 (rows w3X a1),.sl false 4 72 (rows w3T.cells [])]) (.agg _ _ (.cons _ _ _ _ .s (.cons _ _ _ _ .s (.cons _ _ _ _ .s (.cons _ _ _ _ (.w4g _ _ _ (by decide)) .nil))))) h hsc
theorem x0r(a0:Int)(a1:w3T)(a2:w3T)(r:w3T)(h:w8G a0 a1 a2=some r):Pure Tryz.prog gl 22 [.int .i64 a0,.agg [.int .i64 a1.kind,.str a1.name,.sl false 1 16 (rows w3X a1.words),.sl false 4 72 (rows w3T.cells a1.subs)],.agg [.int .i64 a2.kind,.str a2.name,.sl false 1 16 (rows w3X a2.words),.sl false 4 72 (rows w3T.cells a2.subs)]] (.agg [.int .i64 r.kind,.str r.name,.sl false 1 16 (rows w3X r.words),.sl false 4 72 (rows w3T.cells r.subs)]):=by
 intro st
 unfold w8G at h
 have fx:=trivial
 refine fb 12 [.cell 6 25] [0,1,2,4,5,6] Tryz.func22 fun hsc=>?_
 refine rr ?_
 exact fo (.agg [.int .i64 a0,.str [],.sl false 1 16 (rows w3X []),.sl false 4 72 (rows w3T.cells [a1,a2])]) (.agg _ _ (.cons _ _ _ _ .s (.cons _ _ _ _ .s (.cons _ _ _ _ (.w4g _ _ _ (by decide)) (.cons _ _ _ _ (.ref _ _ _ _ _ _ _ _ _ (x6a.trans rfl) y4B (by decide) (by simp[Imm,D.imm]) (by simp only[go_sem,rows,List.map_cons,List.map_nil])) .nil))))) h hsc
theorem w8z(a0:Int)(w4B:Int)(r:w4b)(h:w8w a0 w4B=some r):∀(st:St) (o0:Nat) (hnd: [o0].Nodup) (w8Z:Am.look st o0=some (.arr 0 1 0 [[.int .i64 w4B]])),Am.Spec Tryz.prog gl 70 [.int .i64 a0,.ptr o0 0 0 0] st (fun d st'=>d= .agg [.int .i64 r.code,.int .i64 r.index]∧st'=puts st []):=by
 intro st o0 hnd w8Z
 unfold w8w at h
 have ho0:=w5a w8Z
 have fx:=idf ho0
 refine fb 7 [.cell 3 31] [0,1,3] Tryz.func70 fun hsc=>?_
 refine x1L (s':=(w4O st [(o0,(.arr 0 1 0 [[.int .i64 w4B]]))])) (w4w (by simp[w8Z])) ?_
 refine rr ?_
 exact fuo (.agg [.int .i64 a0,.int .i64 w4B]) (.same _) h hsc (hr:=by rintro rfl;exact⟨rfl,w4w (by simp[w8Z])⟩)
theorem y0d(a0:Int)(r:Int)(h:x3z a0=some r):Pure Tryz.prog gl 71 [.int .i64 a0] (.int .i64 r):=by
 intro st
 unfold x3z at h
 have fx:=trivial
 refine fb 16 [.tmp 2] [0,2,3,4,8,12] Tryz.func71 fun hsc=>?_
 refine rn ?_
 refine w9Q (x0l a0) r (fun(gj0:Unit) (j0:Bool)=>[(3,.int .i64 a0),(4,.bool j0)]) (fun(gj0:Unit) (j0:Bool)=>st) (fun gj0 j0 fr1 st1 h hb=>?_) (fun hj0=>?_)
 ·try simp only[go_sem,fx]
  unfold x0l at h
  refine w5A hb ?_
  refine cd h (fun hc h=>?_) fun hc h=>?_
  ·exact rt
  ·refine rn ?_
   refine w9Q (x0m a0) r (fun(gj1:Unit) (j1:Bool)=>[(3,.int .i64 a0),(8,.bool j1)]) (fun(gj1:Unit) (j1:Bool)=>st) (fun gj1 j1 fr1 st1 h hb=>?_) (fun hj1=>?_)
   ·try simp only[go_sem,fx]
    unfold x0m at h
    refine w5A hb ?_
    refine cd h (fun hc h=>?_) fun hc h=>?_
    ·exact rt
    ·refine rn ?_
     refine w9Q (x0n) r (fun(gj2:Unit) (j2:Bool)=>[(12,.bool j2)]) (fun(gj2:Unit) (j2:Bool)=>st) (fun gj2 j2 fr1 st1 h hb=>?_) (fun hj2=>?_)
     ·try simp only[go_sem,fx]
      unfold x0n at h
      refine w5A hb ?_
      refine cd h (fun hc h=>?_) fun hc h=>?_
      ·exact rt
      ·exact rt
     ·refine cd h (fun hc h=>?_) fun hc h=>?_
      ·refine r0 ?_
       refine hj2 () _ _ _ h ?_;exact(x4b hsc)
      ·refine cd h (fun hc h=>?_) fun hc h=>?_
       ·refine r0 ?_
        refine hj2 () _ _ _ h ?_;exact(x4b hsc)
       ·refine r0 ?_
        refine hj2 () _ _ _ h ?_;exact(x4b hsc)
   ·refine cd h (fun hc h=>?_) fun hc h=>?_
    ·refine r0 ?_
     refine hj1 () _ _ _ h ?_;exact(x4b hsc)
    ·refine cd h (fun hc h=>?_) fun hc h=>?_
     ·refine r0 ?_
      refine hj1 () _ _ _ h ?_;exact(x4b hsc)
     ·refine r0 ?_
      refine hj1 () _ _ _ h ?_;exact(x4b hsc)
 ·refine cd h (fun hc h=>?_) fun hc h=>?_
  ·refine r0 ?_
   refine hj0 () _ _ _ h ?_;exact(x4b hsc)
  ·refine cd h (fun hc h=>?_) fun hc h=>?_
   ·refine r0 ?_
    refine hj0 () _ _ _ h ?_;exact(x4b hsc)
   ·refine r0 ?_
    refine hj0 () _ _ _ h ?_;exact(x4b hsc)
theorem w5L(a0:w3T)(r:Bool)(h:w4V a0=some r):Pure Tryz.prog gl 44 [.agg [.int .i64 a0.kind,.str a0.name,.sl false 1 16 (rows w3X a0.words),.sl false 4 72 (rows w3T.cells a0.subs)]] (.bool r):=by
 intro st
 unfold w4V at h
 have fx:=trivial
 refine fb 11 [.tmp 2] [0,1,2,7,8,9] Tryz.func44 fun hsc=>?_
 exact rt
theorem x5d(a0:Bs)(r:Bool)(h:termName a0=some r):Pure Tryz.prog gl 38 [.str a0] (.bool r):=by
 intro st
 unfold termName at h
 have fx:=trivial
 refine fb 55 [.tmp 2] [0,2,3,4,9,10,11,14,15,16,19,20,21,22,24,25,26,34,35,38,39,40,41,42,43,46,47,50,51,53] Tryz.func38 fun hsc=>?_
 obtain⟨fx,h⟩:=ck fx h
 obtain⟨fx,h⟩:=ck fx h
 refine cd h (fun hc h=>?_) fun hc h=>?_
 ·exact rt
 ·obtain⟨fx,h⟩:=ck fx h
  refine rn ?_
  refine rng (body:=x4W a0) (kk:=x4X) (n:=a0.length) (s0:=())
   (fun(gs0:Unit) (k0:Nat) (s0:Unit)=>[(0,.str a0),(24,.int .i64 (↑a0.length:Int)),(25,.int .i64 (↑k0:Int))])
   (fun(gs0:Unit) (k0:Nat) (s0:Unit)=>st)
   (fun(gt0:Unit) (t0:Unit)=>[])
   (fun(gt0:Unit) (t0:Unit)=>st)
   () fx fx.2 h (x4b hsc)
   (fun gs0 k0 s0 b0 fx h hx0=>?_) (fun gs0 s0=>?_) (fun gt0 t0 fr1 st1 h hb=>?_)
  ·unfold x4W at h
   refine ct ?_
   refine cd h (fun hc h=>?_) fun hc h=>?_
   ·refine ra ?_
    cases h
    refine w8C ?_;have h:=congrArg some (hx0 _ rfl)
    exact rt
   ·refine rn ?_
    cases h
    exact x2D () (x4b hsc)
  ·refine cf ?_
   refine x2J ?_;simp only[go_sem,fx]
   exact⟨(),(x4b hsc)⟩
  ·try simp only[go_sem,fx]
   unfold x4X at h
   refine w5A hb ?_
   exact rt
theorem x8t:∀(n:Nat) (a0:w3T) (a1:Int) (w4B:Int) (w5n:Bool) (r:w4b×Int) (h:w5B n a0 a1 w4B w5n=some r),∀(st:St) (o0 o1 o2:Nat) (hnd: [o0,o1,o2].Nodup) (w8Z:Am.look st o0=some (.arr 0 1 0 [[.int .i64 w4B]])) (x6d:Am.look st o1=some (.arr 0 1 0 [[.bool w5n]])) (y4d:Am.look st o2=some (.arr 0 1 0 [[.fn 69 [] [.ptr o0 0 0 0,.ptr o1 0 0 0,.ptr o2 0 0 0]]])),Am.Spec Tryz.prog gl 69 [.agg [.int .i64 a0.kind,.str a0.name,.sl false 1 16 (rows w3X a0.words),.sl false 4 72 (rows w3T.cells a0.subs)],.int .i64 a1,.ptr o0 0 0 0,.ptr o1 0 0 0,.ptr o2 0 0 0] st (fun d st'=>d= .agg [.int .i64 r.1.code,.int .i64 r.1.index]∧st'=puts st [(o0,(.arr 0 1 0 [[.int .i64 r.2]])),(o1,(.arr 0 1 0 [[.bool w5n]])),(o2,(.arr 0 1 0 [[.fn 69 [] [.ptr o0 0 0 0,.ptr o1 0 0 0,.ptr o2 0 0 0]]]))]):=by
 intro n
 induction n with
 |zero=>intro a0 a1 w4B w5n r h;cases h
 |succ n ih=>
  intro a0 a1 w4B w5n r h st o0 o1 o2 hnd w8Z x6d y4d
  unfold w5B at h
  have ho0:=w5a w8Z
  have ho1:=w5a x6d
  have ho2:=w5a y4d
  have fx:=fa (fa (fa (idf ho0) (idf ho1)) (idf ho2)) (nd3 hnd)
  refine fb 133 [.cell 7 31] [0,1,2,3,4,5,7,8,9,10,11,12,14,16,17,25,26,27,37,38,40,49,56,67,68,69,76,77,80,81,82,86,87,88,89,90,96,97,98,99,103,104,105,106,111,116,117,118,119,129] Tryz.func69 fun hsc=>?_
  refine x1L (s':=(w4O st [(o0,(.arr 0 1 0 [[.int .i64 w4B]])),(o1,(.arr 0 1 0 [[.bool w5n]])),(o2,(.arr 0 1 0 [[.fn 69 [] [.ptr o0 0 0 0,.ptr o1 0 0 0,.ptr o2 0 0 0]]]))])) (w4w (by simp[w8Z,x6d,y4d])) ?_
  refine cd h (fun hc h=>?_) fun hc h=>?_
  ·refine rn ?_
   obtain⟨v1,hv1,h⟩:=w7w h
   refine(w8z _ _ _ hv1 _ _ (by simp) (w9K.trans rfl)).mono ?_
   rintro d1 st1 ⟨rfl,rfl⟩
   refine rr ?_
   exact fuo (.agg [.int .i64 v1.code,.int .i64 v1.index]) (.same _) h hsc
  ·refine cl h (y0d _) fun v2 h=>?_
   refine rn ?_
   refine w9Q (w8W (w5B n) w4B a0 a1 w5n) r (fun(gj0:Unit) (j0:Int)=>[(1,.int .i64 a1),(4,.ptr o2 0 0 0),(5,.ptr st.length 0 0 0),(7,.ptr (st.length+1) 0 0 0),(9,.fn 70 [] [.ptr (st.length+2) 0 0 0]),(10,.int .i64 j0)]) (fun(gj0:Unit) (j0:Int)=>(w4O st [(o0,(.arr 0 1 0 [[.int .i64 (wr .i64 (w4B+1))]])),(o1,(.arr 0 1 0 [[.bool w5n]])),(o2,(.arr 0 1 0 [[.fn 69 [] [.ptr o0 0 0 0,.ptr o1 0 0 0,.ptr o2 0 0 0]]]))])++[some (.arr 0 4 0 [[.int .i64 a0.kind,.str a0.name,.sl false 1 16 (rows w3X a0.words),.sl false 4 72 (rows w3T.cells a0.subs)]]),some (.arr 0 2 0 [[.int .i64 0,.int .i64 0]]),some (.arr 0 1 0 [[.int .i64 w4B]])]) (fun gj0 j0 fr1 st1 h hb=>?_) (fun hj0=>?_)
   ·try simp only[go_sem,fx]
    unfold w8W at h
    refine w5A hb ?_
    refine cd h (fun hc h=>?_) fun hc h=>?_
    ·refine rn ?_
     obtain⟨v3,hv3,h⟩:=w7w h
     refine(w8z _ _ _ hv3 _ _ (by simp) (w9K.trans rfl)).mono ?_
     rintro d1 st1 ⟨rfl,rfl⟩
     refine rr ?_
     exact fuo (.agg [.int .i64 v3.code,.int .i64 v3.index]) (.same _) h hsc
    ·refine rn ?_
     refine w9Q (w7M (w5B n) a0 j0 w4B a1 w5n) r (fun(gj1:Unit) (j1:Bool)=>[(1,.int .i64 a1),(4,.ptr o2 0 0 0),(5,.ptr st.length 0 0 0),(7,.ptr (st.length+1) 0 0 0),(9,.fn 70 [] [.ptr (st.length+2) 0 0 0]),(10,.int .i64 j0),(11,.bool j1)]) (fun(gj1:Unit) (j1:Bool)=>(w4O st [(o0,(.arr 0 1 0 [[.int .i64 (wr .i64 (w4B+1))]])),(o1,(.arr 0 1 0 [[.bool w5n]])),(o2,(.arr 0 1 0 [[.fn 69 [] [.ptr o0 0 0 0,.ptr o1 0 0 0,.ptr o2 0 0 0]]]))])++[some (.arr 0 4 0 [[.int .i64 a0.kind,.str a0.name,.sl false 1 16 (rows w3X a0.words),.sl false 4 72 (rows w3T.cells a0.subs)]]),some (.arr 0 2 0 [[.int .i64 0,.int .i64 0]]),some (.arr 0 1 0 [[.int .i64 w4B]])]) (fun gj1 j1 fr1 st1 h hb=>?_) (fun hj1=>?_)
     ·try simp only[go_sem,fx]
      unfold w7M at h
      refine w5A hb ?_
      refine cd h (fun hc h=>?_) fun hc h=>?_
      ·refine rn ?_
       obtain⟨v4,hv4,h⟩:=w7w h
       refine(w8z _ _ _ hv4 _ _ (by simp) (w9K.trans rfl)).mono ?_
       rintro d1 st1 ⟨rfl,rfl⟩
       refine rr ?_
       exact fuo (.agg [.int .i64 v4.code,.int .i64 v4.index]) (.same _) h hsc
      ·refine rn ?_
       obtain⟨v5,hv5,h⟩:=w7w h
       refine x0C (fun hG=>(w5L _ _ (x8s hv5 (by simpa using hG)))) ?_
       refine rn ?_
       obtain⟨v6,hv6,h⟩:=w7w h
       refine x0C (fun hG=>(x5d _ _ (x8s hv6 (by simpa using hG)))) ?_
       refine cd h (fun hc h=>?_) fun hc h=>?_
       ·refine rn ?_
        obtain⟨v7,hv7,h⟩:=w7w h
        refine(w8z _ _ _ hv7 _ _ (by simp) (w9K.trans rfl)).mono ?_
        rintro d1 st1 ⟨rfl,rfl⟩
        refine rr ?_
        exact fuo (.agg [.int .i64 v7.code,.int .i64 v7.index]) (.same _) h hsc
       ·refine cd h (fun hc h=>?_) fun hc h=>?_
        ·refine rn ?_
         obtain⟨v8,hv8,h⟩:=w7w h
         refine(w8z _ _ _ hv8 _ _ (by simp) (w9K.trans rfl)).mono ?_
         rintro d1 st1 ⟨rfl,rfl⟩
         refine rr ?_
         exact fuo (.agg [.int .i64 v8.code,.int .i64 v8.index]) (.same _) h hsc
        ·refine aln 103 fun hl2=>?_
         refine rng (body:=x1s a0 w4B) (kk:=x1t (w5B n) a0 a1 w5n w4B) (n:=a0.words.length) (s0:=())
          (fun(gs2:Unit) (k2:Nat) (s2:Unit)=>[(1,.int .i64 a1),(4,.ptr o2 0 0 0),(5,.ptr st.length 0 0 0),(7,.ptr (st.length+1) 0 0 0),(9,.fn 70 [] [.ptr (st.length+2) 0 0 0]),(103,.sl false 1 16 (rows w3X a0.words)),(104,.int .i64 (↑a0.words.length:Int)),(105,.int .i64 (↑k2:Int))])
          (fun(gs2:Unit) (k2:Nat) (s2:Unit)=>(w4O st [(o0,(.arr 0 1 0 [[.int .i64 (wr .i64 (w4B+1))]])),(o1,(.arr 0 1 0 [[.bool w5n]])),(o2,(.arr 0 1 0 [[.fn 69 [] [.ptr o0 0 0 0,.ptr o1 0 0 0,.ptr o2 0 0 0]]]))])++[some (.arr 0 4 0 [[.int .i64 a0.kind,.str a0.name,.sl false 1 16 (rows w3X a0.words),.sl false 4 72 (rows w3T.cells a0.subs)]]),some (.arr 0 2 0 [[.int .i64 0,.int .i64 0]]),some (.arr 0 1 0 [[.int .i64 w4B]])])
          (fun(gt2:Unit) (t2:Unit)=>[(1,.int .i64 a1),(4,.ptr o2 0 0 0),(5,.ptr st.length 0 0 0),(7,.ptr (st.length+1) 0 0 0)])
          (fun(gt2:Unit) (t2:Unit)=>(w4O st [(o0,(.arr 0 1 0 [[.int .i64 (wr .i64 (w4B+1))]])),(o1,(.arr 0 1 0 [[.bool w5n]])),(o2,(.arr 0 1 0 [[.fn 69 [] [.ptr o0 0 0 0,.ptr o1 0 0 0,.ptr o2 0 0 0]]]))])++[some (.arr 0 4 0 [[.int .i64 a0.kind,.str a0.name,.sl false 1 16 (rows w3X a0.words),.sl false 4 72 (rows w3T.cells a0.subs)]]),some (.arr 0 2 0 [[.int .i64 0,.int .i64 0]])])
          () fx hl2 h (bu hsc)
          (fun gs2 k2 s2 b2 fx h hx2=>?_) (fun gs2 s2=>?_) (fun gt2 t2 fr1 st1 h hb=>?_)
         ·unfold x1s at h
          refine ct ?_
          refine cl h (x5d _) fun v9 h=>?_
          refine cd h (fun hc h=>?_) fun hc h=>?_
          ·refine rn ?_
           obtain⟨v10,hv10,h⟩:=w7w h
           refine(w8z _ _ _ hv10 _ _ (by simp) (w9K.trans rfl)).mono ?_
           rintro d1 st1 ⟨rfl,rfl⟩
           refine ra ?_
           cases h
           refine w8C ?_;have h:=congrArg some (hx2 _ rfl)
           refine rr ?_
           exact fuo (.agg [.int .i64 v10.code,.int .i64 v10.index]) (.same _) h hsc
          ·refine rn ?_
           cases h
           exact x2D () (bu hsc)
         ·refine cf ?_
          refine x2J ?_;simp only[go_sem,fx]
          exact⟨(),(bu hsc)⟩
         ·try simp only[go_sem,fx]
          unfold x1t at h
          refine w5A hb ?_
          refine aln 116 fun hl3=>?_
          refine rng (body:=x1u (w5B n) a0 a1 w5n) (kk:=x1v) (n:=a0.subs.length) (s0:=(wr .i64 (w4B+1)))
           (fun(gs3:Unit) (k3:Nat) (s3:Int)=>[(1,.int .i64 a1),(4,.ptr o2 0 0 0),(7,.ptr (st.length+1) 0 0 0),(116,.sl false 4 72 (rows w3T.cells a0.subs)),(117,.int .i64 (↑a0.subs.length:Int)),(118,.int .i64 (↑k3:Int))])
           (fun(gs3:Unit) (k3:Nat) (s3:Int)=>(w4O st [(o0,(.arr 0 1 0 [[.int .i64 s3]])),(o1,(.arr 0 1 0 [[.bool w5n]])),(o2,(.arr 0 1 0 [[.fn 69 [] [.ptr o0 0 0 0,.ptr o1 0 0 0,.ptr o2 0 0 0]]]))])++[none,some (.arr 0 2 0 [[.int .i64 0,.int .i64 0]])])
           (fun(gt3:Unit) (t3:Int)=>[(7,.ptr (st.length+1) 0 0 0)])
           (fun(gt3:Unit) (t3:Int)=>(w4O st [(o0,(.arr 0 1 0 [[.int .i64 t3]])),(o1,(.arr 0 1 0 [[.bool w5n]])),(o2,(.arr 0 1 0 [[.fn 69 [] [.ptr o0 0 0 0,.ptr o1 0 0 0,.ptr o2 0 0 0]]]))])++[none,some (.arr 0 2 0 [[.int .i64 0,.int .i64 0]])])
           () fx hl3 h (bu hsc)
           (fun gs3 k3 s3 b3 fx h hx3=>?_) (fun gs3 s3=>?_) (fun gt3 t3 fr1 st1 h hb=>?_)
          ·unfold x1u at h
           refine ct ?_
           refine rn ?_
           obtain⟨v12,hv12,h⟩:=w7w h
           refine(ih _ _ _ _ _ hv12 _ _ _ _ hnd (by simp only[go_sem,fx]) (by simp only[go_sem,fx]) (by simp only[go_sem,fx])).mono ?_
           rintro d1 st1 ⟨rfl,rfl⟩
           refine cd h (fun hc h=>?_) fun hc h=>?_
           ·refine ra ?_
            cases h
            refine w8C ?_;have h:=congrArg some (hx3 _ rfl)
            refine rr ?_
            exact fuo (.agg [.int .i64 v12.1.code,.int .i64 v12.1.index]) (.same _) h hsc
           ·refine rn ?_
            cases h
            exact x2D () (bu hsc)
          ·refine cf ?_
           refine x2J ?_;simp only[go_sem,fx]
           exact⟨(),(bu hsc)⟩
          ·try simp only[go_sem,fx]
           unfold x1v at h
           refine w5A hb ?_
           refine rr ?_
           exact fuo (.agg [.int .i64 0,.int .i64 0]) (.same _) h hsc
     ·refine cd h (fun hc h=>?_) fun hc h=>?_
      ·refine r0 ?_
       refine hj1 () _ _ _ h ?_;exact(bu hsc)
      ·refine cd h (fun hc h=>?_) fun hc h=>?_
       ·refine r0 ?_
        refine hj1 () _ _ _ h ?_;exact(bu hsc)
       ·refine r0 ?_
        refine hj1 () _ _ _ h ?_;exact(bu hsc)
   ·refine cd h (fun hc h=>?_) fun hc h=>?_
    ·refine r0 ?_
     refine hj0 () _ _ _ h ?_;exact(bu hsc)
    ·refine r0 ?_
     refine hj0 () _ _ _ h ?_;exact(bu hsc)
theorem x9Q(n:Nat)(a0:w3T)(a1:Bool)(r:w4b)(h:x4e n a0 a1=some r):Pure Tryz.prog gl 51 [.agg [.int .i64 a0.kind,.str a0.name,.sl false 1 16 (rows w3X a0.words),.sl false 4 72 (rows w3T.cells a0.subs)],.bool a1] (.agg [.int .i64 r.code,.int .i64 r.index]):=by
 intro st
 unfold x4e at h
 have fx:=trivial
 refine fb 11 [.cell 4 31] [0,1,2,3,4,5,6] Tryz.func51 fun hsc=>?_
 refine rn ?_
 obtain⟨v1,hv1,h⟩:=w7w h
 refine(x8t n _ _ _ _ _ hv1 _ _ _ _ (by simp) (x5S.trans rfl) (x5S.trans rfl) (x5S.trans rfl)).mono ?_
 rintro d1 st1 ⟨rfl,rfl⟩
 exact rt
theorem x0w(n:Nat)(a0:w3T)(r:w4b)(h:w7r n a0=some r):Pure Tryz.prog gl 25 [.agg [.int .i64 a0.kind,.str a0.name,.sl false 1 16 (rows w3X a0.words),.sl false 4 72 (rows w3T.cells a0.subs)]] (.agg [.int .i64 r.code,.int .i64 r.index]):=by
 intro st
 unfold w7r at h
 have fx:=trivial
 refine fb 5 [.cell 2 31] [0,1,2] Tryz.func25 fun hsc=>?_
 refine cl h (x9Q n _ _) fun v1 h=>?_
 exact rt
theorem x0N(a0:w3W)(r:(List Bs))(h:w6v a0=some r):Pure Tryz.prog gl 35 [.agg [.int .i64 a0.form.kind,.str a0.form.name,.sl false 1 16 (rows w3X a0.form.words),.sl false 4 72 (rows w3T.cells a0.form.subs),.sl false 1 16 (rows w3X a0.words),.sl false 1 16 (rows w3X a0.w4a),.sl false 1 16 (rows w3X a0.parts)]] (.sl false 1 16 (rows w3X r)):=by
 intro st
 unfold w6v at h
 have fx:=trivial
 refine fb 11 [.tmp 2] [0,1,2] Tryz.func35 fun hsc=>?_
 refine cl h (x7O _) fun v2 h=>?_
 exact rt
theorem w4A(a0:Int)(a1:Int)(r:w4b)(h:w4n a0 a1=some r):Pure Tryz.prog gl 37 [.int .i64 a0,.int .i64 a1] (.agg [.int .i64 r.code,.int .i64 r.index]):=by
 intro st
 unfold w4n at h
 have fx:=trivial
 refine fb 8 [.cell 4 31] [0,1,4] Tryz.func37 fun hsc=>?_
 exact rt
theorem x3S(a0:(List Bs))(a1:Bs)(r:Int)(h:w8g a0 a1=some r):Pure Tryz.prog gl 65 [.sl false 1 16 (rows w3X a0),.str a1] (.int .i64 r):=by
 intro st
 unfold w8g at h
 have fx:=trivial
 refine fb 19 [.tmp 4] [0,1,4,5,7,8,9,16] Tryz.func65 fun hsc=>?_
 refine aln 0 fun hl0=>?_
 refine rng (body:=w6I a1 a0) (kk:=w6J) (n:=a0.length) (s0:=())
  (fun(gs0:Unit) (k0:Nat) (s0:Unit)=>[(0,.sl false 1 16 (rows w3X a0)),(1,.str a1),(7,.int .i64 (↑a0.length:Int)),(8,.int .i64 (↑k0:Int))])
  (fun(gs0:Unit) (k0:Nat) (s0:Unit)=>st)
  (fun(gt0:Unit) (t0:Unit)=>[])
  (fun(gt0:Unit) (t0:Unit)=>st)
  () fx hl0 h (x4b hsc)
  (fun gs0 k0 s0 b0 fx h hx0=>?_) (fun gs0 s0=>?_) (fun gt0 t0 fr1 st1 h hb=>?_)
 ·unfold w6I at h
  refine ct ?_
  refine cd h (fun hc h=>?_) fun hc h=>?_
  ·refine ra ?_
   cases h
   refine w8C ?_;have h:=congrArg some (hx0 _ rfl)
   exact rt
  ·refine rn ?_
   cases h
   exact x2D () (x4b hsc)
 ·refine cf ?_
  refine x2J ?_;simp only[go_sem,fx]
  exact⟨(),(x4b hsc)⟩
 ·try simp only[go_sem,fx]
  unfold w6J at h
  refine w5A hb ?_
  exact rt
theorem w4e(a0:(List Bs))(a1:Bs)(r:Bool)(h:w4c a0 a1=some r):Pure Tryz.prog gl 43 [.sl false 1 16 (rows w3X a0),.str a1] (.bool r):=by
 intro st
 unfold w4c at h
 have fx:=trivial
 refine fb 9 [.tmp 4] [0,1,4] Tryz.func43 fun hsc=>?_
 refine cl h (x3S _ _) fun v1 h=>?_
 exact rt
theorem x6e:∀(n:Nat) (a0:w3T) (a1:(List Bs)) (l1:(List Bs)) (r:(List Bs)) (h:w5p n a0 a1 l1=some r),∀(st:St) (o0 o1 o2 q1:Nat) (hnd: [o0,o1,o2].Nodup) (w8Z:Am.look st o0=some (.arr 0 1 0 [[.ref false o1 q1 0 l1.length]])) (x6d:Am.look st o1=some (.arr q1 1 16 (rows w3X l1))) (y4d:Am.look st o2=some (.arr 0 1 0 [[.fn 66 [] [.ptr o0 0 0 0,.ptr o2 0 0 0]]])),Am.Spec Tryz.prog gl 66 [.agg [.int .i64 a0.kind,.str a0.name,.sl false 1 16 (rows w3X a0.words),.sl false 4 72 (rows w3T.cells a0.subs)],.sl false 1 16 (rows w3X a1),.ptr o0 0 0 0,.ptr o2 0 0 0] st (fun d st'=>∃zo1:Nat,d= .tup []∧st'=puts st [(o0,(.arr 0 1 0 [[.ref false o1 zo1 0 r.length]])),(o1,(.arr zo1 1 16 (rows w3X r))),(o2,(.arr 0 1 0 [[.fn 66 [] [.ptr o0 0 0 0,.ptr o2 0 0 0]]]))]):=by
 intro n
 induction n with
 |zero=>intro a0 a1 l1 r h;cases h
 |succ n ih=>
  intro a0 a1 l1 r h st o0 o1 o2 q1 hnd w8Z x6d y4d
  unfold w5p at h
  have ho0:=w5a w8Z
  have ho1:=w5a x6d
  have ho2:=w5a y4d
  have fx:=fa (fa (fa (idf ho0) (idf ho1)) (idf ho2)) (nd3 hnd)
  refine fb 50 [] [0,1,2,3,4,7,9,11,12,13,14,20,27,39,40,41,42] Tryz.func66 fun hsc=>?_
  refine x1L (s':=(w4O st [(o0,(.arr 0 1 0 [[.ref false o1 q1 0 l1.length]])),(o1,(.arr q1 1 16 (rows w3X l1))),(o2,(.arr 0 1 0 [[.fn 66 [] [.ptr o0 0 0 0,.ptr o2 0 0 0]]]))])) (w4w (by simp[w8Z,x6d,y4d])) ?_
  refine aln 11 fun hl0=>?_
  refine rng (body:=w9y a1 a0) (kk:=w9B (w5p n) a0 a1) (n:=a0.words.length) (s0:=l1)
   (fun(gs0:Nat) (k0:Nat) (s0:(List Bs))=>[(1,.sl false 1 16 (rows w3X a1)),(2,.ptr o0 0 0 0),(3,.ptr o2 0 0 0),(4,.ptr st.length 0 0 0),(11,.sl false 1 16 (rows w3X a0.words)),(12,.int .i64 (↑a0.words.length:Int)),(13,.int .i64 (↑k0:Int))])
   (fun(gs0:Nat) (k0:Nat) (s0:(List Bs))=>(w4O st [(o0,(.arr 0 1 0 [[.ref false o1 gs0 0 s0.length]])),(o1,(.arr gs0 1 16 (rows w3X s0))),(o2,(.arr 0 1 0 [[.fn 66 [] [.ptr o0 0 0 0,.ptr o2 0 0 0]]]))])++[some (.arr 0 4 0 [[.int .i64 a0.kind,.str a0.name,.sl false 1 16 (rows w3X a0.words),.sl false 4 72 (rows w3T.cells a0.subs)]])])
   (fun(gt0:Nat) (t0:(List Bs))=>[(1,.sl false 1 16 (rows w3X a1)),(3,.ptr o2 0 0 0),(4,.ptr st.length 0 0 0)])
   (fun(gt0:Nat) (t0:(List Bs))=>(w4O st [(o0,(.arr 0 1 0 [[.ref false o1 gt0 0 t0.length]])),(o1,(.arr gt0 1 16 (rows w3X t0))),(o2,(.arr 0 1 0 [[.fn 66 [] [.ptr o0 0 0 0,.ptr o2 0 0 0]]]))])++[some (.arr 0 4 0 [[.int .i64 a0.kind,.str a0.name,.sl false 1 16 (rows w3X a0.words),.sl false 4 72 (rows w3T.cells a0.subs)]])])
   q1 fx hl0 h (bu hsc)
   (fun gs0 k0 s0 b0 fx h hx0=>?_) (fun gs0 s0=>?_) (fun gt0 t0 fr1 st1 h hb=>?_)
  ·unfold w9y at h
   refine ct ?_
   refine cl h (w4e _ _) fun v8 h=>?_
   refine cd h (fun hc h=>?_) fun hc h=>?_
   ·obtain⟨c10,z0G,h⟩:=x1k h
    have fy:=(show rows w3X s0++[[.str (get a0.words k0)]]=rows w3X c10 from by rw[z0G];first|exact w4k (E:=w3X) s0 [(get a0.words k0)]|simp only[go_sem,rows,List.map_append,List.map_cons,List.map_nil])
    have fy:=fa fy (show s0.length+1=c10.length from by rw[z0G];simp)
    obtain⟨fx,h⟩:=ck fx h
    refine r1 ?_
    refine rn ?_
    cases h
    exact x2D (gs0+1) (bu hsc)
   ·refine rn ?_
    cases h
    exact x2D gs0 (bu hsc)
  ·refine cf ?_
   refine x2J ?_;simp only[go_sem,fx]
   exact⟨gs0,(bu hsc)⟩
  ·try simp only[go_sem,fx]
   unfold w9B at h
   refine w5A hb ?_
   refine cl h (w5L _) fun v15 h=>?_
   refine rn ?_
   refine w9Q (w6D (w5p n) a0 t0) r (fun(gj1:Unit) (j1:(List Bs))=>[(1,.sl false 1 16 (rows w3X j1)),(3,.ptr o2 0 0 0),(4,.ptr st.length 0 0 0)]) (fun(gj1:Unit) (j1:(List Bs))=>(w4O st [(o0,(.arr 0 1 0 [[.ref false o1 gt0 0 t0.length]])),(o1,(.arr gt0 1 16 (rows w3X t0))),(o2,(.arr 0 1 0 [[.fn 66 [] [.ptr o0 0 0 0,.ptr o2 0 0 0]]]))])++[some (.arr 0 4 0 [[.int .i64 a0.kind,.str a0.name,.sl false 1 16 (rows w3X a0.words),.sl false 4 72 (rows w3T.cells a0.subs)]])]) (fun gj1 j1 fr1 st1 h hb=>?_) (fun hj1=>?_)
   ·try simp only[go_sem,fx]
    unfold w6D at h
    refine w5A hb ?_
    refine aln 39 fun hl2=>?_
    refine rng (body:=w9z (w5p n) a0 j1) (kk:=w9A) (n:=a0.subs.length) (s0:=t0)
     (fun(gs2:Nat) (k2:Nat) (s2:(List Bs))=>[(1,.sl false 1 16 (rows w3X j1)),(3,.ptr o2 0 0 0),(39,.sl false 4 72 (rows w3T.cells a0.subs)),(40,.int .i64 (↑a0.subs.length:Int)),(41,.int .i64 (↑k2:Int))])
     (fun(gs2:Nat) (k2:Nat) (s2:(List Bs))=>(w4O st [(o0,(.arr 0 1 0 [[.ref false o1 gs2 0 s2.length]])),(o1,(.arr gs2 1 16 (rows w3X s2))),(o2,(.arr 0 1 0 [[.fn 66 [] [.ptr o0 0 0 0,.ptr o2 0 0 0]]]))]))
     (fun(gt2:Nat) (t2:(List Bs))=>[])
     (fun(gt2:Nat) (t2:(List Bs))=>(w4O st [(o0,(.arr 0 1 0 [[.ref false o1 gt2 0 t2.length]])),(o1,(.arr gt2 1 16 (rows w3X t2))),(o2,(.arr 0 1 0 [[.fn 66 [] [.ptr o0 0 0 0,.ptr o2 0 0 0]]]))]))
     gt0 fx hl2 h (bu0 hsc)
     (fun gs2 k2 s2 b2 fx h hx2=>?_) (fun gs2 s2=>?_) (fun gt2 t2 fr1 st1 h hb=>?_)
    ·unfold w9z at h
     refine ct ?_
     refine rn ?_
     obtain⟨v26,hv26,h⟩:=w7w h
     refine(ih _ _ _ _ hv26 _ _ _ _ gs2 hnd (by simp only[go_sem,fx]) (by simp only[go_sem,fx]) (by simp only[go_sem,fx])).mono ?_
     rintro d1 st1 ⟨g27,rfl,rfl⟩
     refine rn ?_
     cases h
     exact x2D g27 (bu0 hsc)
    ·refine cf ?_
     refine x2J ?_;simp only[go_sem,fx]
     exact⟨gs2,(y1c hsc)⟩
    ·try simp only[go_sem,fx]
     unfold w9A at h
     refine y4D hb ?_
     refine rr ?_
     exact fus (.tup []) (.same _) h hsc (hr:=by rintro rfl;exact⟨gt2,rfl,rfl⟩)
   ·refine cd h (fun hc h=>?_) fun hc h=>?_
    ·refine rs ?_
     obtain⟨fx,h⟩:=ck fx h
     obtain⟨c19,z4s,h⟩:=x1k h
     have fy:=(show rows w3X a1++[[.str a0.name]]=rows w3X c19 from by rw[z4s];first|exact w4k (E:=w3X) a1 [a0.name]|simp only[go_sem,rows,List.map_append,List.map_cons,List.map_nil])
     have fy:=fa fy (show a1.length+1=c19.length from by rw[z4s];simp)
     obtain⟨fx,h⟩:=ck fx h
     refine dwy [] 2 ?_
     refine hj1 () _ _ _ h ?_;exact(bu hsc (hf:=⟨.ref _ _ _ _ _ _ _ _ _ (w4P.trans rfl) (x0k (by first|decide|simp)) (by decide) (x4L _) (by simp only[go_sem]),.s,.s,trivial⟩))
    ·refine r0 ?_
     refine hj1 () _ _ _ h ?_;exact(bu hsc)
end Go.Proofs.YtdjnbjnlnjhllaaGreatDoor
