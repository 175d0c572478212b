import Derived.Test.YtfacbpehlibilaaGreatDoorTVMirrors
set_option linter.unusedVariables false
set_option linter.unusedSimpArgs false
set_option maxHeartbeats 2000000
set_option maxRecDepth 100000
namespace Go.Proofs.YtfacbpehlibilaaGreatDoor
open Go Go.Am
theorem w1l(a0:r4W)(a1:r4W)(r:Int)(h:u9i a0 a1=some r):Pure Tryz.prog gl 67 [.agg [.int .i64 a0.at_,.int .i64 a0.rule],.agg [.int .i64 a1.at_,.int .i64 a1.rule]] (.int .i64 r):=by
 intro st
 unfold u9i at h
 have fx:=trivial
 refine fb 10 [.tmp 4] [0,1,2,3,4] Tryz.func67 fun hsc=>?_
 exact rt
theorem r6V(a0:Bs)(a1:(List Bs))(r:p6w)(h:r6E a0 a1=some r):Pure Tryz.prog gl 23 [.str a0,.sl false 1 16 (rows r4X a1)] (.agg [.int .i64 r.kind,.str r.name,.sl false 1 16 (rows r4X r.words),.sl false 4 72 (rows p6w.cells r.subs)]):=by
 intro st
 unfold r6E at h
 have fx:=trivial
 refine fb 8 [.cell 4 31] [0,1,4] Tryz.func23 fun hsc=>?_
 refine rr ?_
 exact fo (.agg [.int .i64 2,.str a0,.sl false 1 16 (rows r4X a1),.sl false 4 72 (rows p6w.cells [])]) (.agg _ _ (.cons _ _ _ _ .s (.cons _ _ _ _ .s (.cons _ _ _ _ .s (.cons _ _ _ _ (.r5g _ _ _ (by decide)) .nil))))) h hsc
theorem u2L(a0:Int)(a1:p6w)(a2:p6w)(r:p6w)(h:u0n a0 a1 a2=some r):Pure Tryz.prog gl 20 [.int .i64 a0,.agg [.int .i64 a1.kind,.str a1.name,.sl false 1 16 (rows r4X a1.words),.sl false 4 72 (rows p6w.cells a1.subs)],.agg [.int .i64 a2.kind,.str a2.name,.sl false 1 16 (rows r4X a2.words),.sl false 4 72 (rows p6w.cells a2.subs)]] (.agg [.int .i64 r.kind,.str r.name,.sl false 1 16 (rows r4X r.words),.sl false 4 72 (rows p6w.cells r.subs)]):=by
 intro st
 unfold u0n at h
 have fx:=trivial
 refine fb 12 [.cell 6 31] [0,1,2,4,5,6] Tryz.func20 fun hsc=>?_
 refine rr ?_
 exact fo (.agg [.int .i64 a0,.str [],.sl false 1 16 (rows r4X []),.sl false 4 72 (rows p6w.cells [a1,a2])]) (.agg _ _ (.cons _ _ _ _ .s (.cons _ _ _ _ .s (.cons _ _ _ _ (.r5g _ _ _ (by decide)) (.cons _ _ _ _ (.ref _ _ _ _ _ _ _ _ _ (w0z.trans rfl) x1H (by decide) (by simp[Imm,D.imm]) (by simp only[go_sem,rows,List.map_cons,List.map_nil])) .nil))))) h hsc
theorem r7F(a0:Int)(a1:Int)(r:r5d)(h:r6t a0 a1=some r):Pure Tryz.prog gl 26 [.int .i64 a0,.int .i64 a1] (.agg [.int .i64 r.code,.int .i64 r.index]):=by
 intro st
 unfold r6t at h
 have fx:=trivial
 refine fb 8 [.cell 4 25] [0,1,4] Tryz.func26 fun hsc=>?_
 exact rt
theorem r8R(a0:Int)(r5q:Int)(r:r5d)(h:r8O a0 r5q=some r):∀(st:St) (o0:Nat) (hnd: [o0].Nodup) (r6Q:Am.look st o0=some (.arr 0 1 0 [[.int .i64 r5q]])),Am.Spec Tryz.prog gl 82 [.int .i64 a0,.ptr o0 0 0 0] st (fun d st'=>d= .agg [.int .i64 r.code,.int .i64 r.index]∧st'=puts st []):=by
 intro st o0 hnd r6Q
 unfold r8O at h
 have ho0:=r5h r6Q
 have fx:=idf ho0
 refine fb 7 [.cell 3 25] [0,1,3] Tryz.func82 fun hsc=>?_
 refine r8l (s':=(r5k st [(o0,(.arr 0 1 0 [[.int .i64 r5q]]))])) (r5p (by simp[r6Q])) ?_
 refine rr ?_
 exact fuo (.agg [.int .i64 a0,.int .i64 r5q]) (.same _) h hsc (hr:=by rintro rfl;exact⟨rfl,r5p (by simp[r6Q])⟩)
theorem w1P(a0:Int)(r:Int)(h:u4g a0=some r):Pure Tryz.prog gl 83 [.int .i64 a0] (.int .i64 r):=by
 intro st
 unfold u4g at h
 have fx:=trivial
 refine fb 16 [.tmp 2] [0,2,3,4,8,12] Tryz.func83 fun hsc=>?_
 refine rn ?_
 refine r9E (u0y a0) r (fun(gj0:Unit) (j0:Bool)=>[(3,.int .i64 a0),(4,.bool j0)]) (fun(gj0:Unit) (j0:Bool)=>st) (fun gj0 j0 fr1 st1 h hb=>?_) (fun hj0=>?_)
 ·try simp only[go_sem,fx]
  unfold u0y at h
  refine r6O hb ?_
  refine cd h (fun hc h=>?_) fun hc h=>?_
  ·exact rt
  ·refine rn ?_
   refine r9E (u0z a0) r (fun(gj1:Unit) (j1:Bool)=>[(3,.int .i64 a0),(8,.bool j1)]) (fun(gj1:Unit) (j1:Bool)=>st) (fun gj1 j1 fr1 st1 h hb=>?_) (fun hj1=>?_)
   ·try simp only[go_sem,fx]
    unfold u0z at h
    refine r6O hb ?_
    refine cd h (fun hc h=>?_) fun hc h=>?_
    ·exact rt
    ·refine rn ?_
     refine r9E (u0A) r (fun(gj2:Unit) (j2:Bool)=>[(12,.bool j2)]) (fun(gj2:Unit) (j2:Bool)=>st) (fun gj2 j2 fr1 st1 h hb=>?_) (fun hj2=>?_)
     ·try simp only[go_sem,fx]
      unfold u0A at h
      refine r6O hb ?_
      refine cd h (fun hc h=>?_) fun hc h=>?_
      ·exact rt
      ·exact rt
     ·refine cd h (fun hc h=>?_) fun hc h=>?_
      ·refine r0 ?_
       refine hj2 () _ _ _ h ?_;exact(u6s hsc)
      ·refine cd h (fun hc h=>?_) fun hc h=>?_
       ·refine r0 ?_
        refine hj2 () _ _ _ h ?_;exact(u6s hsc)
       ·refine r0 ?_
        refine hj2 () _ _ _ h ?_;exact(u6s hsc)
   ·refine cd h (fun hc h=>?_) fun hc h=>?_
    ·refine r0 ?_
     refine hj1 () _ _ _ h ?_;exact(u6s hsc)
    ·refine cd h (fun hc h=>?_) fun hc h=>?_
     ·refine r0 ?_
      refine hj1 () _ _ _ h ?_;exact(u6s hsc)
     ·refine r0 ?_
      refine hj1 () _ _ _ h ?_;exact(u6s hsc)
 ·refine cd h (fun hc h=>?_) fun hc h=>?_
  ·refine r0 ?_
   refine hj0 () _ _ _ h ?_;exact(u6s hsc)
  ·refine cd h (fun hc h=>?_) fun hc h=>?_
   ·refine r0 ?_
    refine hj0 () _ _ _ h ?_;exact(u6s hsc)
   ·refine r0 ?_
    refine hj0 () _ _ _ h ?_;exact(u6s hsc)
theorem r5F(a0:p6w)(r:Bool)(h:r5A a0=some r):Pure Tryz.prog gl 55 [.agg [.int .i64 a0.kind,.str a0.name,.sl false 1 16 (rows r4X a0.words),.sl false 4 72 (rows p6w.cells a0.subs)]] (.bool r):=by
 intro st
 unfold r5A at h
 have fx:=trivial
 refine fb 11 [.tmp 2] [0,1,2,7,8,9] Tryz.func55 fun hsc=>?_
 exact rt
theorem u7q(a0:Bs)(r:Bool)(h:termName a0=some r):Pure Tryz.prog gl 48 [.str a0] (.bool r):=by
 intro st
 unfold termName at h
 have fx:=trivial
 refine fb 55 [.tmp 2] [0,2,3,4,9,10,11,14,15,16,19,20,21,22,24,25,26,34,35,38,39,40,41,42,43,46,47,50,51,53] Tryz.func48 fun hsc=>?_
 obtain⟨fx,h⟩:=ck fx h
 obtain⟨fx,h⟩:=ck fx h
 refine cd h (fun hc h=>?_) fun hc h=>?_
 ·exact rt
 ·obtain⟨fx,h⟩:=ck fx h
  refine rn ?_
  refine rng (body:=u5F a0) (kk:=u5G) (n:=a0.length) (s0:=())
   (fun(gs0:Unit) (k0:Nat) (s0:Unit)=>[(0,.str a0),(24,.int .i64 (↑a0.length:Int)),(25,.int .i64 (↑k0:Int))])
   (fun(gs0:Unit) (k0:Nat) (s0:Unit)=>st)
   (fun(gt0:Unit) (t0:Unit)=>[])
   (fun(gt0:Unit) (t0:Unit)=>st)
   () fx fx.2 h (u6s hsc)
   (fun gs0 k0 s0 b0 fx h hx0=>?_) (fun gs0 s0=>?_) (fun gt0 t0 fr1 st1 h hb=>?_)
  ·unfold u5F at h
   refine ct ?_
   refine cd h (fun hc h=>?_) fun hc h=>?_
   ·refine ra ?_
    cases h
    refine r7h ?_;have h:=congrArg some (hx0 _ rfl)
    exact rt
   ·refine rn ?_
    cases h
    exact u2o () (u6s hsc)
  ·refine cf ?_
   refine u2n ?_;simp only[go_sem,fx]
   exact⟨(),(u6s hsc)⟩
  ·try simp only[go_sem,fx]
   unfold u5G at h
   refine r6O hb ?_
   exact rt
theorem u9v:∀(n:Nat) (a0:p6w) (a1:Int) (r5q:Int) (r9d:Bool) (r:r5d×Int) (h:r6H n a0 a1 r5q r9d=some r),∀(st:St) (o0 o1 o2:Nat) (hnd: [o0,o1,o2].Nodup) (r6Q:Am.look st o0=some (.arr 0 1 0 [[.int .i64 r5q]])) (r9o:Am.look st o1=some (.arr 0 1 0 [[.bool r9d]])) (u1s:Am.look st o2=some (.arr 0 1 0 [[.fn 81 [] [.ptr o0 0 0 0,.ptr o1 0 0 0,.ptr o2 0 0 0]]])),Am.Spec Tryz.prog gl 81 [.agg [.int .i64 a0.kind,.str a0.name,.sl false 1 16 (rows r4X a0.words),.sl false 4 72 (rows p6w.cells a0.subs)],.int .i64 a1,.ptr o0 0 0 0,.ptr o1 0 0 0,.ptr o2 0 0 0] st (fun d st'=>d= .agg [.int .i64 r.1.code,.int .i64 r.1.index]∧st'=puts st [(o0,(.arr 0 1 0 [[.int .i64 r.2]])),(o1,(.arr 0 1 0 [[.bool r9d]])),(o2,(.arr 0 1 0 [[.fn 81 [] [.ptr o0 0 0 0,.ptr o1 0 0 0,.ptr o2 0 0 0]]]))]):=by
 intro n
 induction n with
 |zero=>intro a0 a1 r5q r9d r h;cases h
 |succ n ih=>
  intro a0 a1 r5q r9d r h st o0 o1 o2 hnd r6Q r9o u1s
  unfold r6H at h
  have ho0:=r5h r6Q
  have ho1:=r5h r9o
  have ho2:=r5h u1s
  have fx:=fa (fa (fa (idf ho0) (idf ho1)) (idf ho2)) (nd3 hnd)
  refine fb 133 [.cell 7 25] [0,1,2,3,4,5,7,8,9,10,11,12,14,16,17,25,26,27,37,38,40,49,56,67,68,69,76,77,80,81,82,86,87,88,89,90,96,97,98,99,103,104,105,106,111,116,117,118,119,129] Tryz.func81 fun hsc=>?_
  refine r8l (s':=(r5k st [(o0,(.arr 0 1 0 [[.int .i64 r5q]])),(o1,(.arr 0 1 0 [[.bool r9d]])),(o2,(.arr 0 1 0 [[.fn 81 [] [.ptr o0 0 0 0,.ptr o1 0 0 0,.ptr o2 0 0 0]]]))])) (r5p (by simp[r6Q,r9o,u1s])) ?_
  refine cd h (fun hc h=>?_) fun hc h=>?_
  ·refine rn ?_
   obtain⟨v1,hv1,h⟩:=r7G h
   refine(r8R _ _ _ hv1 _ _ (by simp) (r5x.trans rfl)).mono ?_
   rintro d1 st1 ⟨rfl,rfl⟩
   refine rr ?_
   exact fuo (.agg [.int .i64 v1.code,.int .i64 v1.index]) (.same _) h hsc
  ·refine cl h (w1P _) fun v2 h=>?_
   refine rn ?_
   refine r9E (r9j (r6H n) r5q a0 a1 r9d) r (fun(gj0:Unit) (j0:Int)=>[(1,.int .i64 a1),(4,.ptr o2 0 0 0),(5,.ptr st.length 0 0 0),(7,.ptr (st.length+1) 0 0 0),(9,.fn 82 [] [.ptr (st.length+2) 0 0 0]),(10,.int .i64 j0)]) (fun(gj0:Unit) (j0:Int)=>(r5k st [(o0,(.arr 0 1 0 [[.int .i64 (wr .i64 (r5q+1))]])),(o1,(.arr 0 1 0 [[.bool r9d]])),(o2,(.arr 0 1 0 [[.fn 81 [] [.ptr o0 0 0 0,.ptr o1 0 0 0,.ptr o2 0 0 0]]]))])++[some (.arr 0 4 0 [[.int .i64 a0.kind,.str a0.name,.sl false 1 16 (rows r4X a0.words),.sl false 4 72 (rows p6w.cells a0.subs)]]),some (.arr 0 2 0 [[.int .i64 0,.int .i64 0]]),some (.arr 0 1 0 [[.int .i64 r5q]])]) (fun gj0 j0 fr1 st1 h hb=>?_) (fun hj0=>?_)
   ·try simp only[go_sem,fx]
    unfold r9j at h
    refine r6O hb ?_
    refine cd h (fun hc h=>?_) fun hc h=>?_
    ·refine rn ?_
     obtain⟨v3,hv3,h⟩:=r7G h
     refine(r8R _ _ _ hv3 _ _ (by simp) (r5x.trans rfl)).mono ?_
     rintro d1 st1 ⟨rfl,rfl⟩
     refine rr ?_
     exact fuo (.agg [.int .i64 v3.code,.int .i64 v3.index]) (.same _) h hsc
    ·refine rn ?_
     refine r9E (r8o (r6H n) a0 j0 r5q a1 r9d) r (fun(gj1:Unit) (j1:Bool)=>[(1,.int .i64 a1),(4,.ptr o2 0 0 0),(5,.ptr st.length 0 0 0),(7,.ptr (st.length+1) 0 0 0),(9,.fn 82 [] [.ptr (st.length+2) 0 0 0]),(10,.int .i64 j0),(11,.bool j1)]) (fun(gj1:Unit) (j1:Bool)=>(r5k st [(o0,(.arr 0 1 0 [[.int .i64 (wr .i64 (r5q+1))]])),(o1,(.arr 0 1 0 [[.bool r9d]])),(o2,(.arr 0 1 0 [[.fn 81 [] [.ptr o0 0 0 0,.ptr o1 0 0 0,.ptr o2 0 0 0]]]))])++[some (.arr 0 4 0 [[.int .i64 a0.kind,.str a0.name,.sl false 1 16 (rows r4X a0.words),.sl false 4 72 (rows p6w.cells a0.subs)]]),some (.arr 0 2 0 [[.int .i64 0,.int .i64 0]]),some (.arr 0 1 0 [[.int .i64 r5q]])]) (fun gj1 j1 fr1 st1 h hb=>?_) (fun hj1=>?_)
     ·try simp only[go_sem,fx]
      unfold r8o at h
      refine r6O hb ?_
      refine cd h (fun hc h=>?_) fun hc h=>?_
      ·refine rn ?_
       obtain⟨v4,hv4,h⟩:=r7G h
       refine(r8R _ _ _ hv4 _ _ (by simp) (r5x.trans rfl)).mono ?_
       rintro d1 st1 ⟨rfl,rfl⟩
       refine rr ?_
       exact fuo (.agg [.int .i64 v4.code,.int .i64 v4.index]) (.same _) h hsc
      ·refine rn ?_
       obtain⟨v5,hv5,h⟩:=r7G h
       refine u0C (fun hG=>(r5F _ _ (w1s hv5 (by simpa using hG)))) ?_
       refine rn ?_
       obtain⟨v6,hv6,h⟩:=r7G h
       refine u0C (fun hG=>(u7q _ _ (w1s hv6 (by simpa using hG)))) ?_
       refine cd h (fun hc h=>?_) fun hc h=>?_
       ·refine rn ?_
        obtain⟨v7,hv7,h⟩:=r7G h
        refine(r8R _ _ _ hv7 _ _ (by simp) (r5x.trans rfl)).mono ?_
        rintro d1 st1 ⟨rfl,rfl⟩
        refine rr ?_
        exact fuo (.agg [.int .i64 v7.code,.int .i64 v7.index]) (.same _) h hsc
       ·refine cd h (fun hc h=>?_) fun hc h=>?_
        ·refine rn ?_
         obtain⟨v8,hv8,h⟩:=r7G h
         refine(r8R _ _ _ hv8 _ _ (by simp) (r5x.trans rfl)).mono ?_
         rintro d1 st1 ⟨rfl,rfl⟩
         refine rr ?_
         exact fuo (.agg [.int .i64 v8.code,.int .i64 v8.index]) (.same _) h hsc
        ·refine aln 103 fun hl2=>?_
         refine rng (body:=u1F a0 r5q) (kk:=u1G (r6H n) a0 a1 r9d r5q) (n:=a0.words.length) (s0:=())
          (fun(gs2:Unit) (k2:Nat) (s2:Unit)=>[(1,.int .i64 a1),(4,.ptr o2 0 0 0),(5,.ptr st.length 0 0 0),(7,.ptr (st.length+1) 0 0 0),(9,.fn 82 [] [.ptr (st.length+2) 0 0 0]),(103,.sl false 1 16 (rows r4X a0.words)),(104,.int .i64 (↑a0.words.length:Int)),(105,.int .i64 (↑k2:Int))])
          (fun(gs2:Unit) (k2:Nat) (s2:Unit)=>(r5k st [(o0,(.arr 0 1 0 [[.int .i64 (wr .i64 (r5q+1))]])),(o1,(.arr 0 1 0 [[.bool r9d]])),(o2,(.arr 0 1 0 [[.fn 81 [] [.ptr o0 0 0 0,.ptr o1 0 0 0,.ptr o2 0 0 0]]]))])++[some (.arr 0 4 0 [[.int .i64 a0.kind,.str a0.name,.sl false 1 16 (rows r4X a0.words),.sl false 4 72 (rows p6w.cells a0.subs)]]),some (.arr 0 2 0 [[.int .i64 0,.int .i64 0]]),some (.arr 0 1 0 [[.int .i64 r5q]])])
          (fun(gt2:Unit) (t2:Unit)=>[(1,.int .i64 a1),(4,.ptr o2 0 0 0),(5,.ptr st.length 0 0 0),(7,.ptr (st.length+1) 0 0 0)])
          (fun(gt2:Unit) (t2:Unit)=>(r5k st [(o0,(.arr 0 1 0 [[.int .i64 (wr .i64 (r5q+1))]])),(o1,(.arr 0 1 0 [[.bool r9d]])),(o2,(.arr 0 1 0 [[.fn 81 [] [.ptr o0 0 0 0,.ptr o1 0 0 0,.ptr o2 0 0 0]]]))])++[some (.arr 0 4 0 [[.int .i64 a0.kind,.str a0.name,.sl false 1 16 (rows r4X a0.words),.sl false 4 72 (rows p6w.cells a0.subs)]]),some (.arr 0 2 0 [[.int .i64 0,.int .i64 0]])])
          () fx hl2 h (bu hsc)
          (fun gs2 k2 s2 b2 fx h hx2=>?_) (fun gs2 s2=>?_) (fun gt2 t2 fr1 st1 h hb=>?_)
         ·unfold u1F at h
          refine ct ?_
          refine cl h (u7q _) fun v9 h=>?_
          refine cd h (fun hc h=>?_) fun hc h=>?_
          ·refine rn ?_
           obtain⟨v10,hv10,h⟩:=r7G h
           refine(r8R _ _ _ hv10 _ _ (by simp) (r5x.trans rfl)).mono ?_
           rintro d1 st1 ⟨rfl,rfl⟩
           refine ra ?_
           cases h
           refine r7h ?_;have h:=congrArg some (hx2 _ rfl)
           refine rr ?_
           exact fuo (.agg [.int .i64 v10.code,.int .i64 v10.index]) (.same _) h hsc
          ·refine rn ?_
           cases h
           exact u2o () (bu hsc)
         ·refine cf ?_
          refine u2n ?_;simp only[go_sem,fx]
          exact⟨(),(bu hsc)⟩
         ·try simp only[go_sem,fx]
          unfold u1G at h
          refine r6O hb ?_
          refine aln 116 fun hl3=>?_
          refine rng (body:=u1H (r6H n) a0 a1 r9d) (kk:=u1I) (n:=a0.subs.length) (s0:=(wr .i64 (r5q+1)))
           (fun(gs3:Unit) (k3:Nat) (s3:Int)=>[(1,.int .i64 a1),(4,.ptr o2 0 0 0),(7,.ptr (st.length+1) 0 0 0),(116,.sl false 4 72 (rows p6w.cells a0.subs)),(117,.int .i64 (↑a0.subs.length:Int)),(118,.int .i64 (↑k3:Int))])
           (fun(gs3:Unit) (k3:Nat) (s3:Int)=>(r5k st [(o0,(.arr 0 1 0 [[.int .i64 s3]])),(o1,(.arr 0 1 0 [[.bool r9d]])),(o2,(.arr 0 1 0 [[.fn 81 [] [.ptr o0 0 0 0,.ptr o1 0 0 0,.ptr o2 0 0 0]]]))])++[none,some (.arr 0 2 0 [[.int .i64 0,.int .i64 0]])])
           (fun(gt3:Unit) (t3:Int)=>[(7,.ptr (st.length+1) 0 0 0)])
           (fun(gt3:Unit) (t3:Int)=>(r5k st [(o0,(.arr 0 1 0 [[.int .i64 t3]])),(o1,(.arr 0 1 0 [[.bool r9d]])),(o2,(.arr 0 1 0 [[.fn 81 [] [.ptr o0 0 0 0,.ptr o1 0 0 0,.ptr o2 0 0 0]]]))])++[none,some (.arr 0 2 0 [[.int .i64 0,.int .i64 0]])])
           () fx hl3 h (bu hsc)
           (fun gs3 k3 s3 b3 fx h hx3=>?_) (fun gs3 s3=>?_) (fun gt3 t3 fr1 st1 h hb=>?_)
          ·unfold u1H at h
           refine ct ?_
           refine rn ?_
           obtain⟨v12,hv12,h⟩:=r7G h
           refine(ih _ _ _ _ _ hv12 _ _ _ _ hnd (by simp only[go_sem,fx]) (by simp only[go_sem,fx]) (by simp only[go_sem,fx])).mono ?_
           rintro d1 st1 ⟨rfl,rfl⟩
           refine cd h (fun hc h=>?_) fun hc h=>?_
           ·refine ra ?_
            cases h
            refine r7h ?_;have h:=congrArg some (hx3 _ rfl)
            refine rr ?_
            exact fuo (.agg [.int .i64 v12.1.code,.int .i64 v12.1.index]) (.same _) h hsc
           ·refine rn ?_
            cases h
            exact u2o () (bu hsc)
          ·refine cf ?_
           refine u2n ?_;simp only[go_sem,fx]
           exact⟨(),(bu hsc)⟩
          ·try simp only[go_sem,fx]
           unfold u1I at h
           refine r6O hb ?_
           refine rr ?_
           exact fuo (.agg [.int .i64 0,.int .i64 0]) (.same _) h hsc
     ·refine cd h (fun hc h=>?_) fun hc h=>?_
      ·refine r0 ?_
       refine hj1 () _ _ _ h ?_;exact(bu hsc)
      ·refine cd h (fun hc h=>?_) fun hc h=>?_
       ·refine r0 ?_
        refine hj1 () _ _ _ h ?_;exact(bu hsc)
       ·refine r0 ?_
        refine hj1 () _ _ _ h ?_;exact(bu hsc)
   ·refine cd h (fun hc h=>?_) fun hc h=>?_
    ·refine r0 ?_
     refine hj0 () _ _ _ h ?_;exact(bu hsc)
    ·refine r0 ?_
     refine hj0 () _ _ _ h ?_;exact(bu hsc)
theorem w1m(n:Nat)(a0:p6w)(a1:Bool)(r:r5d)(h:u4M n a0 a1=some r):Pure Tryz.prog gl 54 [.agg [.int .i64 a0.kind,.str a0.name,.sl false 1 16 (rows r4X a0.words),.sl false 4 72 (rows p6w.cells a0.subs)],.bool a1] (.agg [.int .i64 r.code,.int .i64 r.index]):=by
 intro st
 unfold u4M at h
 have fx:=trivial
 refine fb 11 [.cell 4 25] [0,1,2,3,4,5,6] Tryz.func54 fun hsc=>?_
 refine rn ?_
 obtain⟨v1,hv1,h⟩:=r7G h
 refine(u9v n _ _ _ _ _ hv1 _ _ _ _ (by simp) (u4b.trans rfl) (u4b.trans rfl) (u4b.trans rfl)).mono ?_
 rintro d1 st1 ⟨rfl,rfl⟩
 exact rt
theorem u2H(n:Nat)(a0:p6w)(r:r5d)(h:r8V n a0=some r):Pure Tryz.prog gl 29 [.agg [.int .i64 a0.kind,.str a0.name,.sl false 1 16 (rows r4X a0.words),.sl false 4 72 (rows p6w.cells a0.subs)]] (.agg [.int .i64 r.code,.int .i64 r.index]):=by
 intro st
 unfold r8V at h
 have fx:=trivial
 refine fb 5 [.cell 2 25] [0,1,2] Tryz.func29 fun hsc=>?_
 refine cl h (w1m n _ _) fun v1 h=>?_
 exact rt
theorem u3u(a0:r5b)(r:(List Bs))(h:r9t a0=some r):Pure Tryz.prog gl 50 [.agg [.int .i64 a0.form.kind,.str a0.form.name,.sl false 1 16 (rows r4X a0.form.words),.sl false 4 72 (rows p6w.cells a0.form.subs),.sl false 1 16 (rows r4X a0.words),.sl false 1 16 (rows r4X a0.r5o),.sl false 1 16 (rows r4X a0.parts)]] (.sl false 1 16 (rows r4X r)):=by
 intro st
 unfold r9t at h
 have fx:=trivial
 refine fb 11 [.tmp 2] [0,1,2] Tryz.func50 fun hsc=>?_
 refine cl h (w2k _) fun v2 h=>?_
 exact rt
theorem r7m(a0:Int)(a1:Int)(r:r5d)(h:r6F a0 a1=some r):Pure Tryz.prog gl 51 [.int .i64 a0,.int .i64 a1] (.agg [.int .i64 r.code,.int .i64 r.index]):=by
 intro st
 unfold r6F at h
 have fx:=trivial
 refine fb 8 [.cell 4 25] [0,1,4] Tryz.func51 fun hsc=>?_
 exact rt
theorem u4z(a0:(List Bs))(a1:Bs)(r:Int)(h:r8E a0 a1=some r):Pure Tryz.prog gl 56 [.sl false 1 16 (rows r4X a0),.str a1] (.int .i64 r):=by
 intro st
 unfold r8E at h
 have fx:=trivial
 refine fb 19 [.tmp 4] [0,1,4,5,7,8,9,16] Tryz.func56 fun hsc=>?_
 refine aln 0 fun hl0=>?_
 refine rng (body:=r7I a1 a0) (kk:=r7J) (n:=a0.length) (s0:=())
  (fun(gs0:Unit) (k0:Nat) (s0:Unit)=>[(0,.sl false 1 16 (rows r4X a0)),(1,.str a1),(7,.int .i64 (↑a0.length:Int)),(8,.int .i64 (↑k0:Int))])
  (fun(gs0:Unit) (k0:Nat) (s0:Unit)=>st)
  (fun(gt0:Unit) (t0:Unit)=>[])
  (fun(gt0:Unit) (t0:Unit)=>st)
  () fx hl0 h (u6s hsc)
  (fun gs0 k0 s0 b0 fx h hx0=>?_) (fun gs0 s0=>?_) (fun gt0 t0 fr1 st1 h hb=>?_)
 ·unfold r7I at h
  refine ct ?_
  refine cd h (fun hc h=>?_) fun hc h=>?_
  ·refine ra ?_
   cases h
   refine r7h ?_;have h:=congrArg some (hx0 _ rfl)
   exact rt
  ·refine rn ?_
   cases h
   exact u2o () (u6s hsc)
 ·refine cf ?_
  refine u2n ?_;simp only[go_sem,fx]
  exact⟨(),(u6s hsc)⟩
 ·try simp only[go_sem,fx]
  unfold r7J at h
  refine r6O hb ?_
  exact rt
theorem r5f(a0:(List Bs))(a1:Bs)(r:Bool)(h:r5e a0 a1=some r):Pure Tryz.prog gl 31 [.sl false 1 16 (rows r4X a0),.str a1] (.bool r):=by
 intro st
 unfold r5e at h
 have fx:=trivial
 refine fb 9 [.tmp 4] [0,1,4] Tryz.func31 fun hsc=>?_
 refine cl h (u4z _ _) fun v1 h=>?_
 exact rt
theorem u6R:∀(n:Nat) (a0:p6w) (a1:(List Bs)) (l1:(List Bs)) (r:(List Bs)) (h:r6m n a0 a1 l1=some r),∀(st:St) (o0 o1 o2 q1:Nat) (hnd: [o0,o1,o2].Nodup) (r6Q:Am.look st o0=some (.arr 0 1 0 [[.ref false o1 q1 0 l1.length]])) (r9o:Am.look st o1=some (.arr q1 1 16 (rows r4X l1))) (u1s:Am.look st o2=some (.arr 0 1 0 [[.fn 78 [] [.ptr o0 0 0 0,.ptr o2 0 0 0]]])),Am.Spec Tryz.prog gl 78 [.agg [.int .i64 a0.kind,.str a0.name,.sl false 1 16 (rows r4X a0.words),.sl false 4 72 (rows p6w.cells a0.subs)],.sl false 1 16 (rows r4X a1),.ptr o0 0 0 0,.ptr o2 0 0 0] st (fun d st'=>∃zo1:Nat,d= .tup []∧st'=puts st [(o0,(.arr 0 1 0 [[.ref false o1 zo1 0 r.length]])),(o1,(.arr zo1 1 16 (rows r4X r))),(o2,(.arr 0 1 0 [[.fn 78 [] [.ptr o0 0 0 0,.ptr o2 0 0 0]]]))]):=by
 intro n
 induction n with
 |zero=>intro a0 a1 l1 r h;cases h
 |succ n ih=>
  intro a0 a1 l1 r h st o0 o1 o2 q1 hnd r6Q r9o u1s
  unfold r6m at h
  have ho0:=r5h r6Q
  have ho1:=r5h r9o
  have ho2:=r5h u1s
  have fx:=fa (fa (fa (idf ho0) (idf ho1)) (idf ho2)) (nd3 hnd)
  refine fb 50 [] [0,1,2,3,4,7,9,11,12,13,14,20,27,39,40,41,42] Tryz.func78 fun hsc=>?_
  refine r8l (s':=(r5k st [(o0,(.arr 0 1 0 [[.ref false o1 q1 0 l1.length]])),(o1,(.arr q1 1 16 (rows r4X l1))),(o2,(.arr 0 1 0 [[.fn 78 [] [.ptr o0 0 0 0,.ptr o2 0 0 0]]]))])) (r5p (by simp[r6Q,r9o,u1s])) ?_
  refine aln 11 fun hl0=>?_
  refine rng (body:=r9G a1 a0) (kk:=r9J (r6m n) a0 a1) (n:=a0.words.length) (s0:=l1)
   (fun(gs0:Nat) (k0:Nat) (s0:(List Bs))=>[(1,.sl false 1 16 (rows r4X a1)),(2,.ptr o0 0 0 0),(3,.ptr o2 0 0 0),(4,.ptr st.length 0 0 0),(11,.sl false 1 16 (rows r4X a0.words)),(12,.int .i64 (↑a0.words.length:Int)),(13,.int .i64 (↑k0:Int))])
   (fun(gs0:Nat) (k0:Nat) (s0:(List Bs))=>(r5k st [(o0,(.arr 0 1 0 [[.ref false o1 gs0 0 s0.length]])),(o1,(.arr gs0 1 16 (rows r4X s0))),(o2,(.arr 0 1 0 [[.fn 78 [] [.ptr o0 0 0 0,.ptr o2 0 0 0]]]))])++[some (.arr 0 4 0 [[.int .i64 a0.kind,.str a0.name,.sl false 1 16 (rows r4X a0.words),.sl false 4 72 (rows p6w.cells a0.subs)]])])
   (fun(gt0:Nat) (t0:(List Bs))=>[(1,.sl false 1 16 (rows r4X a1)),(3,.ptr o2 0 0 0),(4,.ptr st.length 0 0 0)])
   (fun(gt0:Nat) (t0:(List Bs))=>(r5k st [(o0,(.arr 0 1 0 [[.ref false o1 gt0 0 t0.length]])),(o1,(.arr gt0 1 16 (rows r4X t0))),(o2,(.arr 0 1 0 [[.fn 78 [] [.ptr o0 0 0 0,.ptr o2 0 0 0]]]))])++[some (.arr 0 4 0 [[.int .i64 a0.kind,.str a0.name,.sl false 1 16 (rows r4X a0.words),.sl false 4 72 (rows p6w.cells a0.subs)]])])
   q1 fx hl0 h (bu hsc)
   (fun gs0 k0 s0 b0 fx h hx0=>?_) (fun gs0 s0=>?_) (fun gt0 t0 fr1 st1 h hb=>?_)
  ·unfold r9G at h
   refine ct ?_
   refine cl h (r5f _ _) fun v8 h=>?_
   refine cd h (fun hc h=>?_) fun hc h=>?_
   ·obtain⟨c10,x1J,h⟩:=u2v h
    have fy:=(show rows r4X s0++[[.str (get a0.words k0)]]=rows r4X c10 from by rw[x1J];first|exact r5y (E:=r4X) s0 [(get a0.words k0)]|simp only[go_sem,rows,List.map_append,List.map_cons,List.map_nil])
    have fy:=fa fy (show s0.length+1=c10.length from by rw[x1J];simp)
    obtain⟨fx,h⟩:=ck fx h
    refine r1 ?_
    refine rn ?_
    cases h
    exact u2o (gs0+1) (bu hsc)
   ·refine rn ?_
    cases h
    exact u2o gs0 (bu hsc)
  ·refine cf ?_
   refine u2n ?_;simp only[go_sem,fx]
   exact⟨gs0,(bu hsc)⟩
  ·try simp only[go_sem,fx]
   unfold r9J at h
   refine r6O hb ?_
   refine cl h (r5F _) fun v15 h=>?_
   refine rn ?_
   refine r9E (r7C (r6m n) a0 t0) r (fun(gj1:Unit) (j1:(List Bs))=>[(1,.sl false 1 16 (rows r4X j1)),(3,.ptr o2 0 0 0),(4,.ptr st.length 0 0 0)]) (fun(gj1:Unit) (j1:(List Bs))=>(r5k st [(o0,(.arr 0 1 0 [[.ref false o1 gt0 0 t0.length]])),(o1,(.arr gt0 1 16 (rows r4X t0))),(o2,(.arr 0 1 0 [[.fn 78 [] [.ptr o0 0 0 0,.ptr o2 0 0 0]]]))])++[some (.arr 0 4 0 [[.int .i64 a0.kind,.str a0.name,.sl false 1 16 (rows r4X a0.words),.sl false 4 72 (rows p6w.cells a0.subs)]])]) (fun gj1 j1 fr1 st1 h hb=>?_) (fun hj1=>?_)
   ·try simp only[go_sem,fx]
    unfold r7C at h
    refine r6O hb ?_
    refine aln 39 fun hl2=>?_
    refine rng (body:=r9H (r6m n) a0 j1) (kk:=r9I) (n:=a0.subs.length) (s0:=t0)
     (fun(gs2:Nat) (k2:Nat) (s2:(List Bs))=>[(1,.sl false 1 16 (rows r4X j1)),(3,.ptr o2 0 0 0),(39,.sl false 4 72 (rows p6w.cells a0.subs)),(40,.int .i64 (↑a0.subs.length:Int)),(41,.int .i64 (↑k2:Int))])
     (fun(gs2:Nat) (k2:Nat) (s2:(List Bs))=>(r5k st [(o0,(.arr 0 1 0 [[.ref false o1 gs2 0 s2.length]])),(o1,(.arr gs2 1 16 (rows r4X s2))),(o2,(.arr 0 1 0 [[.fn 78 [] [.ptr o0 0 0 0,.ptr o2 0 0 0]]]))]))
     (fun(gt2:Nat) (t2:(List Bs))=>[])
     (fun(gt2:Nat) (t2:(List Bs))=>(r5k st [(o0,(.arr 0 1 0 [[.ref false o1 gt2 0 t2.length]])),(o1,(.arr gt2 1 16 (rows r4X t2))),(o2,(.arr 0 1 0 [[.fn 78 [] [.ptr o0 0 0 0,.ptr o2 0 0 0]]]))]))
     gt0 fx hl2 h (bu0 hsc)
     (fun gs2 k2 s2 b2 fx h hx2=>?_) (fun gs2 s2=>?_) (fun gt2 t2 fr1 st1 h hb=>?_)
    ·unfold r9H at h
     refine ct ?_
     refine rn ?_
     obtain⟨v26,hv26,h⟩:=r7G h
     refine(ih _ _ _ _ hv26 _ _ _ _ gs2 hnd (by simp only[go_sem,fx]) (by simp only[go_sem,fx]) (by simp only[go_sem,fx])).mono ?_
     rintro d1 st1 ⟨g27,rfl,rfl⟩
     refine rn ?_
     cases h
     exact u2o g27 (bu0 hsc)
    ·refine cf ?_
     refine u2n ?_;simp only[go_sem,fx]
     exact⟨gs2,(w6U hsc)⟩
    ·try simp only[go_sem,fx]
     unfold r9I at h
     refine u9L hb ?_
     refine rr ?_
     exact fus (.tup []) (.same _) h hsc (hr:=by rintro rfl;exact⟨gt2,rfl,rfl⟩)
   ·refine cd h (fun hc h=>?_) fun hc h=>?_
    ·refine rs ?_
     obtain⟨fx,h⟩:=ck fx h
     obtain⟨c19,y1v,h⟩:=u2v h
     have fy:=(show rows r4X a1++[[.str a0.name]]=rows r4X c19 from by rw[y1v];first|exact r5y (E:=r4X) a1 [a0.name]|simp only[go_sem,rows,List.map_append,List.map_cons,List.map_nil])
     have fy:=fa fy (show a1.length+1=c19.length from by rw[y1v];simp)
     obtain⟨fx,h⟩:=ck fx h
     refine dwy [] 2 ?_
     refine hj1 () _ _ _ h ?_;exact(bu hsc (hf:=⟨.ref _ _ _ _ _ _ _ _ _ (r5u.trans rfl) (u0Z (by first|decide|simp)) (by decide) (u4I _) (by simp only[go_sem]),.s,.s,trivial⟩))
    ·refine r0 ?_
     refine hj1 () _ _ _ h ?_;exact(bu hsc)
end Go.Proofs.YtfacbpehlibilaaGreatDoor
