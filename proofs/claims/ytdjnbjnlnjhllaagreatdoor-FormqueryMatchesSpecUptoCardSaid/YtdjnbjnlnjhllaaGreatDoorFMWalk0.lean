import Derived.Test.YtdjnbjnlnjhllaaGreatDoorFMMirrors
set_option linter.unusedVariables false
set_option linter.unusedSimpArgs false
set_option maxHeartbeats 2000000
set_option maxRecDepth 100000
namespace Go.Proofs.YtdjnbjnlnjhllaaGreatDoor
open Go Go.Am
theorem p6g(a0:Bs)(a1:(List Bs))(r:i8F)(h:p4w a0 a1=some r):Pure Tryz.prog gl 23 [.str a0,.sl false 1 16 (rows i8K a1)] (.agg [.int .i64 r.kind,.str r.name,.sl false 1 16 (rows i8K r.words),.sl false 4 72 (rows i8F.cells r.subs)]):=by
 intro st
 unfold p4w at h
 have fx:=trivial
 refine fb 8 [.cell 4 25] [0,1,4] Tryz.func23 fun hsc=>?_
 refine rr ?_
 exact fo (.agg [.int .i64 2,.str a0,.sl false 1 16 (rows i8K a1),.sl false 4 72 (rows i8F.cells [])]) (.agg _ _ (.cons _ _ _ _ .s (.cons _ _ _ _ .s (.cons _ _ _ _ .s (.cons _ _ _ _ (.i8S _ _ _ (by decide)) .nil))))) h hsc
theorem p4M(a0:Int)(a1:i8F)(a2:i8F)(r:i8F)(h:p3j a0 a1 a2=some r):Pure Tryz.prog gl 22 [.int .i64 a0,.agg [.int .i64 a1.kind,.str a1.name,.sl false 1 16 (rows i8K a1.words),.sl false 4 72 (rows i8F.cells a1.subs)],.agg [.int .i64 a2.kind,.str a2.name,.sl false 1 16 (rows i8K a2.words),.sl false 4 72 (rows i8F.cells a2.subs)]] (.agg [.int .i64 r.kind,.str r.name,.sl false 1 16 (rows i8K r.words),.sl false 4 72 (rows i8F.cells r.subs)]):=by
 intro st
 unfold p3j at h
 have fx:=trivial
 refine fb 12 [.cell 6 25] [0,1,2,4,5,6] Tryz.func22 fun hsc=>?_
 refine rr ?_
 exact fo (.agg [.int .i64 a0,.str [],.sl false 1 16 (rows i8K []),.sl false 4 72 (rows i8F.cells [a1,a2])]) (.agg _ _ (.cons _ _ _ _ .s (.cons _ _ _ _ .s (.cons _ _ _ _ (.i8S _ _ _ (by decide)) (.cons _ _ _ _ (.ref _ _ _ _ _ _ _ _ _ (r0c.trans rfl) r7l (by decide) (by simp[Imm,D.imm]) (by simp only[go_sem,rows,List.map_cons,List.map_nil])) .nil))))) h hsc
theorem p3b(a0:Int)(p0s:Int)(r:i8N)(h:p2W a0 p0s=some r):∀(st:St) (o0:Nat) (hnd: [o0].Nodup) (p4J:Am.look st o0=some (.arr 0 1 0 [[.int .i64 p0s]])),Am.Spec Tryz.prog gl 70 [.int .i64 a0,.ptr o0 0 0 0] st (fun d st'=>d= .agg [.int .i64 r.code,.int .i64 r.index]∧st'=puts st []):=by
 intro st o0 hnd p4J
 unfold p2W at h
 have ho0:=p0H p4J
 have fx:=idf ho0
 refine fb 7 [.cell 3 31] [0,1,3] Tryz.func70 fun hsc=>?_
 refine p6z (s':=(i9Q st [(o0,(.arr 0 1 0 [[.int .i64 p0s]]))])) (i9B (by simp[p4J])) ?_
 refine rr ?_
 exact fuo (.agg [.int .i64 a0,.int .i64 p0s]) (.same _) h hsc (hr:=by rintro rfl;exact⟨rfl,i9B (by simp[p4J])⟩)
theorem r3T(a0:Int)(r:Int)(h:p7s a0=some r):Pure Tryz.prog gl 71 [.int .i64 a0] (.int .i64 r):=by
 intro st
 unfold p7s at h
 have fx:=trivial
 refine fb 16 [.tmp 2] [0,2,3,4,8,12] Tryz.func71 fun hsc=>?_
 refine rn ?_
 refine p4c (p4F a0) r (fun(gj0:Unit) (j0:Bool)=>[(3,.int .i64 a0),(4,.bool j0)]) (fun(gj0:Unit) (j0:Bool)=>st) (fun gj0 j0 fr1 st1 h hb=>?_) (fun hj0=>?_)
 ·try simp only[go_sem,fx]
  unfold p4F at h
  refine p0E hb ?_
  refine cd h (fun hc h=>?_) fun hc h=>?_
  ·exact rt
  ·refine rn ?_
   refine p4c (p4G a0) r (fun(gj1:Unit) (j1:Bool)=>[(3,.int .i64 a0),(8,.bool j1)]) (fun(gj1:Unit) (j1:Bool)=>st) (fun gj1 j1 fr1 st1 h hb=>?_) (fun hj1=>?_)
   ·try simp only[go_sem,fx]
    unfold p4G at h
    refine p0E hb ?_
    refine cd h (fun hc h=>?_) fun hc h=>?_
    ·exact rt
    ·refine rn ?_
     refine p4c (p4H) r (fun(gj2:Unit) (j2:Bool)=>[(12,.bool j2)]) (fun(gj2:Unit) (j2:Bool)=>st) (fun gj2 j2 fr1 st1 h hb=>?_) (fun hj2=>?_)
     ·try simp only[go_sem,fx]
      unfold p4H at h
      refine p0E hb ?_
      refine cd h (fun hc h=>?_) fun hc h=>?_
      ·exact rt
      ·exact rt
     ·refine cd h (fun hc h=>?_) fun hc h=>?_
      ·refine r0 ?_
       refine hj2 () _ _ _ h ?_;exact(p7g hsc)
      ·refine cd h (fun hc h=>?_) fun hc h=>?_
       ·refine r0 ?_
        refine hj2 () _ _ _ h ?_;exact(p7g hsc)
       ·refine r0 ?_
        refine hj2 () _ _ _ h ?_;exact(p7g hsc)
   ·refine cd h (fun hc h=>?_) fun hc h=>?_
    ·refine r0 ?_
     refine hj1 () _ _ _ h ?_;exact(p7g hsc)
    ·refine cd h (fun hc h=>?_) fun hc h=>?_
     ·refine r0 ?_
      refine hj1 () _ _ _ h ?_;exact(p7g hsc)
     ·refine r0 ?_
      refine hj1 () _ _ _ h ?_;exact(p7g hsc)
 ·refine cd h (fun hc h=>?_) fun hc h=>?_
  ·refine r0 ?_
   refine hj0 () _ _ _ h ?_;exact(p7g hsc)
  ·refine cd h (fun hc h=>?_) fun hc h=>?_
   ·refine r0 ?_
    refine hj0 () _ _ _ h ?_;exact(p7g hsc)
   ·refine r0 ?_
    refine hj0 () _ _ _ h ?_;exact(p7g hsc)
theorem p1u(a0:i8F)(r:Bool)(h:i9W a0=some r):Pure Tryz.prog gl 44 [.agg [.int .i64 a0.kind,.str a0.name,.sl false 1 16 (rows i8K a0.words),.sl false 4 72 (rows i8F.cells a0.subs)]] (.bool r):=by
 intro st
 unfold i9W at h
 have fx:=trivial
 refine fb 11 [.tmp 2] [0,1,2,7,8,9] Tryz.func44 fun hsc=>?_
 exact rt
theorem r0w(a0:Bs)(r:Bool)(h:termName a0=some r):Pure Tryz.prog gl 38 [.str a0] (.bool r):=by
 intro st
 unfold termName at h
 have fx:=trivial
 refine fb 55 [.tmp 2] [0,2,3,4,9,10,11,14,15,16,19,20,21,22,24,25,26,34,35,38,39,40,41,42,43,46,47,50,51,53] Tryz.func38 fun hsc=>?_
 obtain⟨fx,h⟩:=ck fx h
 obtain⟨fx,h⟩:=ck fx h
 refine cd h (fun hc h=>?_) fun hc h=>?_
 ·exact rt
 ·obtain⟨fx,h⟩:=ck fx h
  refine rn ?_
  refine rng (body:=p8N a0) (kk:=p8O) (n:=a0.length) (s0:=())
   (fun(gs0:Unit) (k0:Nat) (s0:Unit)=>[(0,.str a0),(24,.int .i64 (↑a0.length:Int)),(25,.int .i64 (↑k0:Int))])
   (fun(gs0:Unit) (k0:Nat) (s0:Unit)=>st)
   (fun(gt0:Unit) (t0:Unit)=>[])
   (fun(gt0:Unit) (t0:Unit)=>st)
   () fx fx.2 h (p7g hsc)
   (fun gs0 k0 s0 b0 fx h hx0=>?_) (fun gs0 s0=>?_) (fun gt0 t0 fr1 st1 h hb=>?_)
  ·unfold p8N at h
   refine ct ?_
   refine cd h (fun hc h=>?_) fun hc h=>?_
   ·refine ra ?_
    cases h
    refine p4j ?_;have h:=congrArg some (hx0 _ rfl)
    exact rt
   ·refine rn ?_
    cases h
    exact p7A () (p7g hsc)
  ·refine cf ?_
   refine p7n ?_;simp only[go_sem,fx]
   exact⟨(),(p7g hsc)⟩
  ·try simp only[go_sem,fx]
   unfold p8O at h
   refine p0E hb ?_
   exact rt
theorem r2j:∀(n:Nat) (a0:i8F) (a1:Int) (p0s:Int) (p3x:Bool) (r:i8N×Int) (h:p0t n a0 a1 p0s p3x=some r),∀(st:St) (o0 o1 o2:Nat) (hnd: [o0,o1,o2].Nodup) (p4J:Am.look st o0=some (.arr 0 1 0 [[.int .i64 p0s]])) (r1m:Am.look st o1=some (.arr 0 1 0 [[.bool p3x]])) (u2h:Am.look st o2=some (.arr 0 1 0 [[.fn 69 [] [.ptr o0 0 0 0,.ptr o1 0 0 0,.ptr o2 0 0 0]]])),Am.Spec Tryz.prog gl 69 [.agg [.int .i64 a0.kind,.str a0.name,.sl false 1 16 (rows i8K a0.words),.sl false 4 72 (rows i8F.cells a0.subs)],.int .i64 a1,.ptr o0 0 0 0,.ptr o1 0 0 0,.ptr o2 0 0 0] st (fun d st'=>d= .agg [.int .i64 r.1.code,.int .i64 r.1.index]∧st'=puts st [(o0,(.arr 0 1 0 [[.int .i64 r.2]])),(o1,(.arr 0 1 0 [[.bool p3x]])),(o2,(.arr 0 1 0 [[.fn 69 [] [.ptr o0 0 0 0,.ptr o1 0 0 0,.ptr o2 0 0 0]]]))]):=by
 intro n
 induction n with
 |zero=>intro a0 a1 p0s p3x r h;cases h
 |succ n ih=>
  intro a0 a1 p0s p3x r h st o0 o1 o2 hnd p4J r1m u2h
  unfold p0t at h
  have ho0:=p0H p4J
  have ho1:=p0H r1m
  have ho2:=p0H u2h
  have fx:=fa (fa (fa (idf ho0) (idf ho1)) (idf ho2)) (nd3 hnd)
  refine fb 133 [.cell 7 31] [0,1,2,3,4,5,7,8,9,10,11,12,14,16,17,25,26,27,37,38,40,49,56,67,68,69,76,77,80,81,82,86,87,88,89,90,96,97,98,99,103,104,105,106,111,116,117,118,119,129] Tryz.func69 fun hsc=>?_
  refine p6z (s':=(i9Q st [(o0,(.arr 0 1 0 [[.int .i64 p0s]])),(o1,(.arr 0 1 0 [[.bool p3x]])),(o2,(.arr 0 1 0 [[.fn 69 [] [.ptr o0 0 0 0,.ptr o1 0 0 0,.ptr o2 0 0 0]]]))])) (i9B (by simp[p4J,r1m,u2h])) ?_
  refine cd h (fun hc h=>?_) fun hc h=>?_
  ·refine rn ?_
   obtain⟨v1,hv1,h⟩:=p3S h
   refine(p3b _ _ _ hv1 _ _ (by simp) (p4Y.trans rfl)).mono ?_
   rintro d1 st1 ⟨rfl,rfl⟩
   refine rr ?_
   exact fuo (.agg [.int .i64 v1.code,.int .i64 v1.index]) (.same _) h hsc
  ·refine cl h (r3T _) fun v2 h=>?_
   refine rn ?_
   refine p4c (p3B (p0t n) p0s a0 a1 p3x) r (fun(gj0:Unit) (j0:Int)=>[(1,.int .i64 a1),(4,.ptr o2 0 0 0),(5,.ptr st.length 0 0 0),(7,.ptr (st.length+1) 0 0 0),(9,.fn 70 [] [.ptr (st.length+2) 0 0 0]),(10,.int .i64 j0)]) (fun(gj0:Unit) (j0:Int)=>(i9Q st [(o0,(.arr 0 1 0 [[.int .i64 (wr .i64 (p0s+1))]])),(o1,(.arr 0 1 0 [[.bool p3x]])),(o2,(.arr 0 1 0 [[.fn 69 [] [.ptr o0 0 0 0,.ptr o1 0 0 0,.ptr o2 0 0 0]]]))])++[some (.arr 0 4 0 [[.int .i64 a0.kind,.str a0.name,.sl false 1 16 (rows i8K a0.words),.sl false 4 72 (rows i8F.cells a0.subs)]]),some (.arr 0 2 0 [[.int .i64 0,.int .i64 0]]),some (.arr 0 1 0 [[.int .i64 p0s]])]) (fun gj0 j0 fr1 st1 h hb=>?_) (fun hj0=>?_)
   ·try simp only[go_sem,fx]
    unfold p3B at h
    refine p0E hb ?_
    refine cd h (fun hc h=>?_) fun hc h=>?_
    ·refine rn ?_
     obtain⟨v3,hv3,h⟩:=p3S h
     refine(p3b _ _ _ hv3 _ _ (by simp) (p4Y.trans rfl)).mono ?_
     rintro d1 st1 ⟨rfl,rfl⟩
     refine rr ?_
     exact fuo (.agg [.int .i64 v3.code,.int .i64 v3.index]) (.same _) h hsc
    ·refine rn ?_
     refine p4c (p2z (p0t n) a0 j0 p0s a1 p3x) r (fun(gj1:Unit) (j1:Bool)=>[(1,.int .i64 a1),(4,.ptr o2 0 0 0),(5,.ptr st.length 0 0 0),(7,.ptr (st.length+1) 0 0 0),(9,.fn 70 [] [.ptr (st.length+2) 0 0 0]),(10,.int .i64 j0),(11,.bool j1)]) (fun(gj1:Unit) (j1:Bool)=>(i9Q st [(o0,(.arr 0 1 0 [[.int .i64 (wr .i64 (p0s+1))]])),(o1,(.arr 0 1 0 [[.bool p3x]])),(o2,(.arr 0 1 0 [[.fn 69 [] [.ptr o0 0 0 0,.ptr o1 0 0 0,.ptr o2 0 0 0]]]))])++[some (.arr 0 4 0 [[.int .i64 a0.kind,.str a0.name,.sl false 1 16 (rows i8K a0.words),.sl false 4 72 (rows i8F.cells a0.subs)]]),some (.arr 0 2 0 [[.int .i64 0,.int .i64 0]]),some (.arr 0 1 0 [[.int .i64 p0s]])]) (fun gj1 j1 fr1 st1 h hb=>?_) (fun hj1=>?_)
     ·try simp only[go_sem,fx]
      unfold p2z at h
      refine p0E hb ?_
      refine cd h (fun hc h=>?_) fun hc h=>?_
      ·refine rn ?_
       obtain⟨v4,hv4,h⟩:=p3S h
       refine(p3b _ _ _ hv4 _ _ (by simp) (p4Y.trans rfl)).mono ?_
       rintro d1 st1 ⟨rfl,rfl⟩
       refine rr ?_
       exact fuo (.agg [.int .i64 v4.code,.int .i64 v4.index]) (.same _) h hsc
      ·refine rn ?_
       obtain⟨v5,hv5,h⟩:=p3S h
       refine p6K (fun hG=>(p1u _ _ (r4k hv5 (by simpa using hG)))) ?_
       refine rn ?_
       obtain⟨v6,hv6,h⟩:=p3S h
       refine p6K (fun hG=>(r0w _ _ (r4k hv6 (by simpa using hG)))) ?_
       refine cd h (fun hc h=>?_) fun hc h=>?_
       ·refine rn ?_
        obtain⟨v7,hv7,h⟩:=p3S h
        refine(p3b _ _ _ hv7 _ _ (by simp) (p4Y.trans rfl)).mono ?_
        rintro d1 st1 ⟨rfl,rfl⟩
        refine rr ?_
        exact fuo (.agg [.int .i64 v7.code,.int .i64 v7.index]) (.same _) h hsc
       ·refine cd h (fun hc h=>?_) fun hc h=>?_
        ·refine rn ?_
         obtain⟨v8,hv8,h⟩:=p3S h
         refine(p3b _ _ _ hv8 _ _ (by simp) (p4Y.trans rfl)).mono ?_
         rintro d1 st1 ⟨rfl,rfl⟩
         refine rr ?_
         exact fuo (.agg [.int .i64 v8.code,.int .i64 v8.index]) (.same _) h hsc
        ·refine aln 103 fun hl2=>?_
         refine rng (body:=p5u a0 p0s) (kk:=p5v (p0t n) a0 a1 p3x p0s) (n:=a0.words.length) (s0:=())
          (fun(gs2:Unit) (k2:Nat) (s2:Unit)=>[(1,.int .i64 a1),(4,.ptr o2 0 0 0),(5,.ptr st.length 0 0 0),(7,.ptr (st.length+1) 0 0 0),(9,.fn 70 [] [.ptr (st.length+2) 0 0 0]),(103,.sl false 1 16 (rows i8K a0.words)),(104,.int .i64 (↑a0.words.length:Int)),(105,.int .i64 (↑k2:Int))])
          (fun(gs2:Unit) (k2:Nat) (s2:Unit)=>(i9Q st [(o0,(.arr 0 1 0 [[.int .i64 (wr .i64 (p0s+1))]])),(o1,(.arr 0 1 0 [[.bool p3x]])),(o2,(.arr 0 1 0 [[.fn 69 [] [.ptr o0 0 0 0,.ptr o1 0 0 0,.ptr o2 0 0 0]]]))])++[some (.arr 0 4 0 [[.int .i64 a0.kind,.str a0.name,.sl false 1 16 (rows i8K a0.words),.sl false 4 72 (rows i8F.cells a0.subs)]]),some (.arr 0 2 0 [[.int .i64 0,.int .i64 0]]),some (.arr 0 1 0 [[.int .i64 p0s]])])
          (fun(gt2:Unit) (t2:Unit)=>[(1,.int .i64 a1),(4,.ptr o2 0 0 0),(5,.ptr st.length 0 0 0),(7,.ptr (st.length+1) 0 0 0)])
          (fun(gt2:Unit) (t2:Unit)=>(i9Q st [(o0,(.arr 0 1 0 [[.int .i64 (wr .i64 (p0s+1))]])),(o1,(.arr 0 1 0 [[.bool p3x]])),(o2,(.arr 0 1 0 [[.fn 69 [] [.ptr o0 0 0 0,.ptr o1 0 0 0,.ptr o2 0 0 0]]]))])++[some (.arr 0 4 0 [[.int .i64 a0.kind,.str a0.name,.sl false 1 16 (rows i8K a0.words),.sl false 4 72 (rows i8F.cells a0.subs)]]),some (.arr 0 2 0 [[.int .i64 0,.int .i64 0]])])
          () fx hl2 h (bu hsc)
          (fun gs2 k2 s2 b2 fx h hx2=>?_) (fun gs2 s2=>?_) (fun gt2 t2 fr1 st1 h hb=>?_)
         ·unfold p5u at h
          refine ct ?_
          refine cl h (r0w _) fun v9 h=>?_
          refine cd h (fun hc h=>?_) fun hc h=>?_
          ·refine rn ?_
           obtain⟨v10,hv10,h⟩:=p3S h
           refine(p3b _ _ _ hv10 _ _ (by simp) (p4Y.trans rfl)).mono ?_
           rintro d1 st1 ⟨rfl,rfl⟩
           refine ra ?_
           cases h
           refine p4j ?_;have h:=congrArg some (hx2 _ rfl)
           refine rr ?_
           exact fuo (.agg [.int .i64 v10.code,.int .i64 v10.index]) (.same _) h hsc
          ·refine rn ?_
           cases h
           exact p7A () (bu hsc)
         ·refine cf ?_
          refine p7n ?_;simp only[go_sem,fx]
          exact⟨(),(bu hsc)⟩
         ·try simp only[go_sem,fx]
          unfold p5v at h
          refine p0E hb ?_
          refine aln 116 fun hl3=>?_
          refine rng (body:=p5w (p0t n) a0 a1 p3x) (kk:=p5x) (n:=a0.subs.length) (s0:=(wr .i64 (p0s+1)))
           (fun(gs3:Unit) (k3:Nat) (s3:Int)=>[(1,.int .i64 a1),(4,.ptr o2 0 0 0),(7,.ptr (st.length+1) 0 0 0),(116,.sl false 4 72 (rows i8F.cells a0.subs)),(117,.int .i64 (↑a0.subs.length:Int)),(118,.int .i64 (↑k3:Int))])
           (fun(gs3:Unit) (k3:Nat) (s3:Int)=>(i9Q st [(o0,(.arr 0 1 0 [[.int .i64 s3]])),(o1,(.arr 0 1 0 [[.bool p3x]])),(o2,(.arr 0 1 0 [[.fn 69 [] [.ptr o0 0 0 0,.ptr o1 0 0 0,.ptr o2 0 0 0]]]))])++[none,some (.arr 0 2 0 [[.int .i64 0,.int .i64 0]])])
           (fun(gt3:Unit) (t3:Int)=>[(7,.ptr (st.length+1) 0 0 0)])
           (fun(gt3:Unit) (t3:Int)=>(i9Q st [(o0,(.arr 0 1 0 [[.int .i64 t3]])),(o1,(.arr 0 1 0 [[.bool p3x]])),(o2,(.arr 0 1 0 [[.fn 69 [] [.ptr o0 0 0 0,.ptr o1 0 0 0,.ptr o2 0 0 0]]]))])++[none,some (.arr 0 2 0 [[.int .i64 0,.int .i64 0]])])
           () fx hl3 h (bu hsc)
           (fun gs3 k3 s3 b3 fx h hx3=>?_) (fun gs3 s3=>?_) (fun gt3 t3 fr1 st1 h hb=>?_)
          ·unfold p5w at h
           refine ct ?_
           refine rn ?_
           obtain⟨v12,hv12,h⟩:=p3S h
           refine(ih _ _ _ _ _ hv12 _ _ _ _ hnd (by simp only[go_sem,fx]) (by simp only[go_sem,fx]) (by simp only[go_sem,fx])).mono ?_
           rintro d1 st1 ⟨rfl,rfl⟩
           refine cd h (fun hc h=>?_) fun hc h=>?_
           ·refine ra ?_
            cases h
            refine p4j ?_;have h:=congrArg some (hx3 _ rfl)
            refine rr ?_
            exact fuo (.agg [.int .i64 v12.1.code,.int .i64 v12.1.index]) (.same _) h hsc
           ·refine rn ?_
            cases h
            exact p7A () (bu hsc)
          ·refine cf ?_
           refine p7n ?_;simp only[go_sem,fx]
           exact⟨(),(bu hsc)⟩
          ·try simp only[go_sem,fx]
           unfold p5x at h
           refine p0E hb ?_
           refine rr ?_
           exact fuo (.agg [.int .i64 0,.int .i64 0]) (.same _) h hsc
     ·refine cd h (fun hc h=>?_) fun hc h=>?_
      ·refine r0 ?_
       refine hj1 () _ _ _ h ?_;exact(bu hsc)
      ·refine cd h (fun hc h=>?_) fun hc h=>?_
       ·refine r0 ?_
        refine hj1 () _ _ _ h ?_;exact(bu hsc)
       ·refine r0 ?_
        refine hj1 () _ _ _ h ?_;exact(bu hsc)
   ·refine cd h (fun hc h=>?_) fun hc h=>?_
    ·refine r0 ?_
     refine hj0 () _ _ _ h ?_;exact(bu hsc)
    ·refine r0 ?_
     refine hj0 () _ _ _ h ?_;exact(bu hsc)
theorem r3G(n:Nat)(a0:i8F)(a1:Bool)(r:i8N)(h:p7M n a0 a1=some r):Pure Tryz.prog gl 51 [.agg [.int .i64 a0.kind,.str a0.name,.sl false 1 16 (rows i8K a0.words),.sl false 4 72 (rows i8F.cells a0.subs)],.bool a1] (.agg [.int .i64 r.code,.int .i64 r.index]):=by
 intro st
 unfold p7M at h
 have fx:=trivial
 refine fb 11 [.cell 4 31] [0,1,2,3,4,5,6] Tryz.func51 fun hsc=>?_
 refine rn ?_
 obtain⟨v1,hv1,h⟩:=p3S h
 refine(r2j n _ _ _ _ _ hv1 _ _ _ _ (by simp) (r1p.trans rfl) (r1p.trans rfl) (r1p.trans rfl)).mono ?_
 rintro d1 st1 ⟨rfl,rfl⟩
 exact rt
theorem p6c(n:Nat)(a0:i8F)(r:i8N)(h:p3e n a0=some r):Pure Tryz.prog gl 25 [.agg [.int .i64 a0.kind,.str a0.name,.sl false 1 16 (rows i8K a0.words),.sl false 4 72 (rows i8F.cells a0.subs)]] (.agg [.int .i64 r.code,.int .i64 r.index]):=by
 intro st
 unfold p3e at h
 have fx:=trivial
 refine fb 5 [.cell 2 31] [0,1,2] Tryz.func25 fun hsc=>?_
 refine cl h (r3G n _ _) fun v1 h=>?_
 exact rt
theorem p6E(a0:i8I)(r:(List Bs))(h:p2j a0=some r):Pure Tryz.prog gl 35 [.agg [.int .i64 a0.form.kind,.str a0.form.name,.sl false 1 16 (rows i8K a0.form.words),.sl false 4 72 (rows i8F.cells a0.form.subs),.sl false 1 16 (rows i8K a0.words),.sl false 1 16 (rows i8K a0.i8M),.sl false 1 16 (rows i8K a0.parts)]] (.sl false 1 16 (rows i8K r)):=by
 intro st
 unfold p2j at h
 have fx:=trivial
 refine fb 11 [.tmp 2] [0,1,2] Tryz.func35 fun hsc=>?_
 refine cl h (r4o _) fun v2 h=>?_
 exact rt
theorem p1c(a0:Int)(a1:Int)(r:i8N)(h:p0o a0 a1=some r):Pure Tryz.prog gl 37 [.int .i64 a0,.int .i64 a1] (.agg [.int .i64 r.code,.int .i64 r.index]):=by
 intro st
 unfold p0o at h
 have fx:=trivial
 refine fb 8 [.cell 4 31] [0,1,4] Tryz.func37 fun hsc=>?_
 exact rt
theorem p7C(a0:(List Bs))(a1:Bs)(r:Int)(h:p2P a0 a1=some r):Pure Tryz.prog gl 65 [.sl false 1 16 (rows i8K a0),.str a1] (.int .i64 r):=by
 intro st
 unfold p2P at h
 have fx:=trivial
 refine fb 19 [.tmp 4] [0,1,4,5,7,8,9,16] Tryz.func65 fun hsc=>?_
 refine aln 0 fun hl0=>?_
 refine rng (body:=p1z a1 a0) (kk:=p1A) (n:=a0.length) (s0:=())
  (fun(gs0:Unit) (k0:Nat) (s0:Unit)=>[(0,.sl false 1 16 (rows i8K a0)),(1,.str a1),(7,.int .i64 (↑a0.length:Int)),(8,.int .i64 (↑k0:Int))])
  (fun(gs0:Unit) (k0:Nat) (s0:Unit)=>st)
  (fun(gt0:Unit) (t0:Unit)=>[])
  (fun(gt0:Unit) (t0:Unit)=>st)
  () fx hl0 h (p7g hsc)
  (fun gs0 k0 s0 b0 fx h hx0=>?_) (fun gs0 s0=>?_) (fun gt0 t0 fr1 st1 h hb=>?_)
 ·unfold p1z at h
  refine ct ?_
  refine cd h (fun hc h=>?_) fun hc h=>?_
  ·refine ra ?_
   cases h
   refine p4j ?_;have h:=congrArg some (hx0 _ rfl)
   exact rt
  ·refine rn ?_
   cases h
   exact p7A () (p7g hsc)
 ·refine cf ?_
  refine p7n ?_;simp only[go_sem,fx]
  exact⟨(),(p7g hsc)⟩
 ·try simp only[go_sem,fx]
  unfold p1A at h
  refine p0E hb ?_
  exact rt
theorem i8Q(a0:(List Bs))(a1:Bs)(r:Bool)(h:i8O a0 a1=some r):Pure Tryz.prog gl 43 [.sl false 1 16 (rows i8K a0),.str a1] (.bool r):=by
 intro st
 unfold i8O at h
 have fx:=trivial
 refine fb 9 [.tmp 4] [0,1,4] Tryz.func43 fun hsc=>?_
 refine cl h (p7C _ _) fun v1 h=>?_
 exact rt
theorem p9R:∀(n:Nat) (a0:i8F) (a1:(List Bs)) (l1:(List Bs)) (r:(List Bs)) (h:i9Y n a0 a1 l1=some r),∀(st:St) (o0 o1 o2 q1:Nat) (hnd: [o0,o1,o2].Nodup) (p4J:Am.look st o0=some (.arr 0 1 0 [[.ref false o1 q1 0 l1.length]])) (r1m:Am.look st o1=some (.arr q1 1 16 (rows i8K l1))) (u2h:Am.look st o2=some (.arr 0 1 0 [[.fn 66 [] [.ptr o0 0 0 0,.ptr o2 0 0 0]]])),Am.Spec Tryz.prog gl 66 [.agg [.int .i64 a0.kind,.str a0.name,.sl false 1 16 (rows i8K a0.words),.sl false 4 72 (rows i8F.cells a0.subs)],.sl false 1 16 (rows i8K a1),.ptr o0 0 0 0,.ptr o2 0 0 0] st (fun d st'=>∃zo1:Nat,d= .tup []∧st'=puts st [(o0,(.arr 0 1 0 [[.ref false o1 zo1 0 r.length]])),(o1,(.arr zo1 1 16 (rows i8K r))),(o2,(.arr 0 1 0 [[.fn 66 [] [.ptr o0 0 0 0,.ptr o2 0 0 0]]]))]):=by
 intro n
 induction n with
 |zero=>intro a0 a1 l1 r h;cases h
 |succ n ih=>
  intro a0 a1 l1 r h st o0 o1 o2 q1 hnd p4J r1m u2h
  unfold i9Y at h
  have ho0:=p0H p4J
  have ho1:=p0H r1m
  have ho2:=p0H u2h
  have fx:=fa (fa (fa (idf ho0) (idf ho1)) (idf ho2)) (nd3 hnd)
  refine fb 50 [] [0,1,2,3,4,7,9,11,12,13,14,20,27,39,40,41,42] Tryz.func66 fun hsc=>?_
  refine p6z (s':=(i9Q st [(o0,(.arr 0 1 0 [[.ref false o1 q1 0 l1.length]])),(o1,(.arr q1 1 16 (rows i8K l1))),(o2,(.arr 0 1 0 [[.fn 66 [] [.ptr o0 0 0 0,.ptr o2 0 0 0]]]))])) (i9B (by simp[p4J,r1m,u2h])) ?_
  refine aln 11 fun hl0=>?_
  refine rng (body:=p3U a1 a0) (kk:=p3X (i9Y n) a0 a1) (n:=a0.words.length) (s0:=l1)
   (fun(gs0:Nat) (k0:Nat) (s0:(List Bs))=>[(1,.sl false 1 16 (rows i8K a1)),(2,.ptr o0 0 0 0),(3,.ptr o2 0 0 0),(4,.ptr st.length 0 0 0),(11,.sl false 1 16 (rows i8K a0.words)),(12,.int .i64 (↑a0.words.length:Int)),(13,.int .i64 (↑k0:Int))])
   (fun(gs0:Nat) (k0:Nat) (s0:(List Bs))=>(i9Q st [(o0,(.arr 0 1 0 [[.ref false o1 gs0 0 s0.length]])),(o1,(.arr gs0 1 16 (rows i8K s0))),(o2,(.arr 0 1 0 [[.fn 66 [] [.ptr o0 0 0 0,.ptr o2 0 0 0]]]))])++[some (.arr 0 4 0 [[.int .i64 a0.kind,.str a0.name,.sl false 1 16 (rows i8K a0.words),.sl false 4 72 (rows i8F.cells a0.subs)]])])
   (fun(gt0:Nat) (t0:(List Bs))=>[(1,.sl false 1 16 (rows i8K a1)),(3,.ptr o2 0 0 0),(4,.ptr st.length 0 0 0)])
   (fun(gt0:Nat) (t0:(List Bs))=>(i9Q st [(o0,(.arr 0 1 0 [[.ref false o1 gt0 0 t0.length]])),(o1,(.arr gt0 1 16 (rows i8K t0))),(o2,(.arr 0 1 0 [[.fn 66 [] [.ptr o0 0 0 0,.ptr o2 0 0 0]]]))])++[some (.arr 0 4 0 [[.int .i64 a0.kind,.str a0.name,.sl false 1 16 (rows i8K a0.words),.sl false 4 72 (rows i8F.cells a0.subs)]])])
   q1 fx hl0 h (bu hsc)
   (fun gs0 k0 s0 b0 fx h hx0=>?_) (fun gs0 s0=>?_) (fun gt0 t0 fr1 st1 h hb=>?_)
  ·unfold p3U at h
   refine ct ?_
   refine cl h (i8Q _ _) fun v8 h=>?_
   refine cd h (fun hc h=>?_) fun hc h=>?_
   ·obtain⟨c10,u4w,h⟩:=p5L h
    have fy:=(show rows i8K s0++[[.str (get a0.words k0)]]=rows i8K c10 from by rw[u4w];first|exact i9b (E:=i8K) s0 [(get a0.words k0)]|simp only[go_sem,rows,List.map_append,List.map_cons,List.map_nil])
    have fy:=fa fy (show s0.length+1=c10.length from by rw[u4w];simp)
    obtain⟨fx,h⟩:=ck fx h
    refine r1 ?_
    refine rn ?_
    cases h
    exact p7A (gs0+1) (bu hsc)
   ·refine rn ?_
    cases h
    exact p7A gs0 (bu hsc)
  ·refine cf ?_
   refine p7n ?_;simp only[go_sem,fx]
   exact⟨gs0,(bu hsc)⟩
  ·try simp only[go_sem,fx]
   unfold p3X at h
   refine p0E hb ?_
   refine cl h (p1u _) fun v15 h=>?_
   refine rn ?_
   refine p4c (p1t (i9Y n) a0 t0) r (fun(gj1:Unit) (j1:(List Bs))=>[(1,.sl false 1 16 (rows i8K j1)),(3,.ptr o2 0 0 0),(4,.ptr st.length 0 0 0)]) (fun(gj1:Unit) (j1:(List Bs))=>(i9Q st [(o0,(.arr 0 1 0 [[.ref false o1 gt0 0 t0.length]])),(o1,(.arr gt0 1 16 (rows i8K t0))),(o2,(.arr 0 1 0 [[.fn 66 [] [.ptr o0 0 0 0,.ptr o2 0 0 0]]]))])++[some (.arr 0 4 0 [[.int .i64 a0.kind,.str a0.name,.sl false 1 16 (rows i8K a0.words),.sl false 4 72 (rows i8F.cells a0.subs)]])]) (fun gj1 j1 fr1 st1 h hb=>?_) (fun hj1=>?_)
   ·try simp only[go_sem,fx]
    unfold p1t at h
    refine p0E hb ?_
    refine aln 39 fun hl2=>?_
    refine rng (body:=p3V (i9Y n) a0 j1) (kk:=p3W) (n:=a0.subs.length) (s0:=t0)
     (fun(gs2:Nat) (k2:Nat) (s2:(List Bs))=>[(1,.sl false 1 16 (rows i8K j1)),(3,.ptr o2 0 0 0),(39,.sl false 4 72 (rows i8F.cells a0.subs)),(40,.int .i64 (↑a0.subs.length:Int)),(41,.int .i64 (↑k2:Int))])
     (fun(gs2:Nat) (k2:Nat) (s2:(List Bs))=>(i9Q st [(o0,(.arr 0 1 0 [[.ref false o1 gs2 0 s2.length]])),(o1,(.arr gs2 1 16 (rows i8K s2))),(o2,(.arr 0 1 0 [[.fn 66 [] [.ptr o0 0 0 0,.ptr o2 0 0 0]]]))]))
     (fun(gt2:Nat) (t2:(List Bs))=>[])
     (fun(gt2:Nat) (t2:(List Bs))=>(i9Q st [(o0,(.arr 0 1 0 [[.ref false o1 gt2 0 t2.length]])),(o1,(.arr gt2 1 16 (rows i8K t2))),(o2,(.arr 0 1 0 [[.fn 66 [] [.ptr o0 0 0 0,.ptr o2 0 0 0]]]))]))
     gt0 fx hl2 h (bu0 hsc)
     (fun gs2 k2 s2 b2 fx h hx2=>?_) (fun gs2 s2=>?_) (fun gt2 t2 fr1 st1 h hb=>?_)
    ·unfold p3V at h
     refine ct ?_
     refine rn ?_
     obtain⟨v26,hv26,h⟩:=p3S h
     refine(ih _ _ _ _ hv26 _ _ _ _ gs2 hnd (by simp only[go_sem,fx]) (by simp only[go_sem,fx]) (by simp only[go_sem,fx])).mono ?_
     rintro d1 st1 ⟨g27,rfl,rfl⟩
     refine rn ?_
     cases h
     exact p7A g27 (bu0 hsc)
    ·refine cf ?_
     refine p7n ?_;simp only[go_sem,fx]
     exact⟨gs2,(u2k hsc)⟩
    ·try simp only[go_sem,fx]
     unfold p3W at h
     refine r8f hb ?_
     refine rr ?_
     exact fus (.tup []) (.same _) h hsc (hr:=by rintro rfl;exact⟨gt2,rfl,rfl⟩)
   ·refine cd h (fun hc h=>?_) fun hc h=>?_
    ·refine rs ?_
     obtain⟨fx,h⟩:=ck fx h
     obtain⟨c19,u7Y,h⟩:=p5L h
     have fy:=(show rows i8K a1++[[.str a0.name]]=rows i8K c19 from by rw[u7Y];first|exact i9b (E:=i8K) a1 [a0.name]|simp only[go_sem,rows,List.map_append,List.map_cons,List.map_nil])
     have fy:=fa fy (show a1.length+1=c19.length from by rw[u7Y];simp)
     obtain⟨fx,h⟩:=ck fx h
     refine dwy [] 2 ?_
     refine hj1 () _ _ _ h ?_;exact(bu hsc (hf:=⟨.ref _ _ _ _ _ _ _ _ _ (p0c.trans rfl) (p5M (by first|decide|simp)) (by decide) (p9b _) (by simp only[go_sem]),.s,.s,trivial⟩))
    ·refine r0 ?_
     refine hj1 () _ _ _ h ?_;exact(bu hsc)
end Go.Proofs.YtdjnbjnlnjhllaaGreatDoor
