import Derived.Test.YtdjnbjnlnjhllaaGreatDoorFMWalk9
set_option linter.unusedVariables false
set_option linter.unusedSimpArgs false
set_option maxHeartbeats 2000000
set_option maxRecDepth 100000
namespace Go.Proofs.YtdjnbjnlnjhllaaGreatDoor
open Go Go.Am
theorem p7Z(n:Nat)(a0:i8I)(a1:(List i8G))(a2:Int)(r:(List i8H)×Bool)(h:p1G n a0 a1 a2=some r):Pure Tryz.prog gl 12 [.agg [.int .i64 a0.form.kind,.str a0.form.name,.sl false 1 16 (rows i8K a0.form.words),.sl false 4 72 (rows i8F.cells a0.form.subs),.sl false 1 16 (rows i8K a0.words),.sl false 1 16 (rows i8K a0.i8M),.sl false 1 16 (rows i8K a0.parts)],.sl false 5 80 (rows i8G.cells a1),.int .i64 a2] (.tup [.sl false 6 104 (rows i8H.cells r.1),.bool r.2]):=by
 intro st
 unfold p1G at h
 have fx:=trivial
 refine fb 21 [.tmp 6,.tmp 7] [0,1,2,3,6,7,8,10] Tryz.func12 fun hsc=>?_
 refine cl h (p7v n _ _ _) fun v1 h=>?_
 exact rt
theorem p4g(n:Nat)(a0:(List i8H))(a1:(List i8H))(r:Bool)(h:i9F n a0 a1=some r):Pure Tryz.prog gl 13 [.sl false 6 104 (rows i8H.cells a0),.sl false 6 104 (rows i8H.cells a1)] (.bool r):=by
 intro st
 unfold i9F at h
 have fx:=trivial
 refine fb 55 [.tmp 4] [0,1,4,5,10,14,29,30,31,32,33,34,35,36,37,38,39,42,43,44,45,46,47,48,49,50,51,52,53,54] Tryz.func13 fun hsc=>?_
 refine cd h (fun hc h=>?_) fun hc h=>?_
 ·exact rt
 ·refine rn ?_
  refine i8V (body:=i9L n a0 a1) (kk:=p2g) (n:=n) (s0:=0)
   (fun(gs0:Unit) (s0:Int)=>[(0,.sl false 6 104 (rows i8H.cells a0)),(1,.sl false 6 104 (rows i8H.cells a1)),(5,.int .i64 s0)])
   (fun(gs0:Unit) (s0:Int)=>st)
   (fun(gt0:Unit) (t0:Unit)=>[])
   (fun(gt0:Unit) (t0:Unit)=>st)
   () h (p7g hsc)
   (fun gs0 s0 b0 h hx0=>?_) (fun gt0 t0 fr1 st1 h hb=>?_)
  ·unfold i9L at h
   refine cd h (fun hc h=>?_) fun hc h=>?_
   ·refine rn ?_
    obtain⟨fx,h⟩:=ck fx h
    obtain⟨fx,h⟩:=ck fx h
    refine dw [] 0 ?_
    obtain⟨v7,hv7,h⟩:=p3S h
    refine p8L (fun hG=>(p3z n _ _ _ (r4k hv7 (by simpa using hG)))) ?_
    try simp only[go_sem,fx]
    refine cd h (fun hc h=>?_) fun hc h=>?_
    ·refine ra ?_
     cases h
     refine p0T ?_;have h:=congrArg some (hx0 _ rfl)
     exact rt
    ·refine rn ?_
     cases h
     exact i9h () (p7g hsc)
   ·refine rn ?_
    cases h
    exact i9r () (p7g hsc)
  ·try simp only[go_sem,fx]
   unfold p2g at h
   refine p0E hb ?_
   exact rt
theorem p4Z(n:Nat)(a0:i8I)(a1:i8F)(r:Bool)(h:i9N n a0 a1=some r):Pure Tryz.prog gl 3 [.agg [.int .i64 a0.form.kind,.str a0.form.name,.sl false 1 16 (rows i8K a0.form.words),.sl false 4 72 (rows i8F.cells a0.form.subs),.sl false 1 16 (rows i8K a0.words),.sl false 1 16 (rows i8K a0.i8M),.sl false 1 16 (rows i8K a0.parts)],.agg [.int .i64 a1.kind,.str a1.name,.sl false 1 16 (rows i8K a1.words),.sl false 4 72 (rows i8F.cells a1.subs)]] (.bool r):=by
 intro st
 unfold i9N at h
 have fx:=trivial
 refine fb 132 [.tmp 4] [0,1,2,3,4,5,6,7,8,9,10,11,12,13,14,15,17,35,40,45,46,47,50,51,54,55,56,59,60,61,69,82,83,84,85,86,87,88,89,90,91,92,98,99,100,101,102,103,104,107,108,109,110,111,112,113,114,115,122,123,124,127,128,129,130] Tryz.func3 fun hsc=>?_
 refine cl h (p6e n) fun v1 h=>?_
 refine cd h (fun hc h=>?_) fun hc h=>?_
 ·exact rt
 ·refine cl h (p8x n _ _) fun v2 h=>?_
  refine cl h (p8X n _ _) fun v3 h=>?_
  refine cl h (p6Q n _) fun v4 h=>?_
  refine rn ?_
  refine p4c (i8Y n v2 v3 a1 a0) r (fun(gj0:Unit) (j0:Int×Int)=>[(2,.ptr st.length 0 0 0),(3,.ptr (st.length+1) 0 0 0),(5,.sl false 6 104 (rows i8H.cells v2.1)),(6,.bool v2.2.1),(7,.ptr (st.length+2) 0 0 0),(8,.sl false 2 32 (rows i8U.cells v3.1)),(9,.ptr (st.length+3) 0 0 0),(10,.ptr (st.length+4) 0 0 0)]) (fun(gj0:Unit) (j0:Int×Int)=>st++[some (.arr 0 7 0 [[.int .i64 a0.form.kind,.str a0.form.name,.sl false 1 16 (rows i8K a0.form.words),.sl false 4 72 (rows i8F.cells a0.form.subs),.sl false 1 16 (rows i8K a0.words),.sl false 1 16 (rows i8K a0.i8M),.sl false 1 16 (rows i8K a0.parts)]]),some (.arr 0 4 0 [[.int .i64 a1.kind,.str a1.name,.sl false 1 16 (rows i8K a1.words),.sl false 4 72 (rows i8F.cells a1.subs)]]),some (.arr 0 2 0 [[.int .i64 v2.2.2.code,.int .i64 v2.2.2.index]]),some (.arr 0 2 0 [[.int .i64 v3.2.code,.int .i64 v3.2.index]]),some (.arr 0 2 0 [[.int .i64 j0.1,.int .i64 j0.2]])]) (fun gj0 j0 fr1 st1 h hb=>?_) (fun hj0=>?_)
  ·try simp only[go_sem,fx]
   unfold i8Y at h
   refine p0E hb ?_
   refine cd h (fun hc h=>?_) fun hc h=>?_
   ·exact rt
   ·refine cl h (p7w n _) fun v6 h=>?_
    refine cl h (up (p2U n _ _) (fun _=>(.cons _ _ _ _ .s (.cons _ _ _ _ .s (.cons _ _ _ _ (.i8S _ _ _ (by decide)) .nil))))) fun v7 h=>?_
    refine rn ?_
    refine i8V (body:=i9i n v7 a0 v2 v3) (kk:=i9y v2 v3) (n:=n) (s0:=(0,0))
     (fun(gs1:Unit) (s1:Int×Int)=>[(2,.ptr st.length 0 0 0),(5,.sl false 6 104 (rows i8H.cells v2.1)),(6,.bool v2.2.1),(7,.ptr (st.length+2) 0 0 0),(8,.sl false 2 32 (rows i8U.cells v3.1)),(9,.ptr (st.length+3) 0 0 0),(11,.sl false 5 80 (rows i8G.cells v7)),(12,.int .i64 s1.1),(13,.int .i64 s1.2)])
     (fun(gs1:Unit) (s1:Int×Int)=>st++[some (.arr 0 7 0 [[.int .i64 a0.form.kind,.str a0.form.name,.sl false 1 16 (rows i8K a0.form.words),.sl false 4 72 (rows i8F.cells a0.form.subs),.sl false 1 16 (rows i8K a0.words),.sl false 1 16 (rows i8K a0.i8M),.sl false 1 16 (rows i8K a0.parts)]]),none,some (.arr 0 2 0 [[.int .i64 v2.2.2.code,.int .i64 v2.2.2.index]]),some (.arr 0 2 0 [[.int .i64 v3.2.code,.int .i64 v3.2.index]])])
     (fun(gt1:Unit) (t1:Int)=>[(7,.ptr (st.length+2) 0 0 0),(8,.sl false 2 32 (rows i8U.cells v3.1)),(9,.ptr (st.length+3) 0 0 0),(12,.int .i64 t1)])
     (fun(gt1:Unit) (t1:Int)=>st++[none,none,some (.arr 0 2 0 [[.int .i64 v2.2.2.code,.int .i64 v2.2.2.index]]),some (.arr 0 2 0 [[.int .i64 v3.2.code,.int .i64 v3.2.index]])])
     () h (bm hsc)
     (fun gs1 s1 b1 h hx1=>?_) (fun gt1 t1 fr1 st1 h hb=>?_)
    ·unfold i9i at h
     refine cd h (fun hc h=>?_) fun hc h=>?_
     ·refine cl h (p7Z n _ _ _) fun v15 h=>?_
      refine rn ?_
      obtain⟨v16,hv16,h⟩:=p3S h
      refine p6K (fun hG=>(p4g n _ _ _ (r4k hv16 (by simpa using hG)))) ?_
      refine cd h (fun hc h=>?_) fun hc h=>?_
      ·refine ra ?_
       cases h
       refine p0T ?_;have h:=congrArg some (hx1 _ rfl)
       exact rt
      ·refine cd h (fun hc h=>?_) fun hc h=>?_
       ·obtain⟨fx,h⟩:=ck fx h
        obtain⟨fx,h⟩:=ck fx h
        refine rn ?_
        obtain⟨v23,hv23,h⟩:=p3S h
        refine p6K (fun hG=>(p4g n _ _ _ (r4k hv23 (by simpa using hG)))) ?_
        refine cd h (fun hc h=>?_) fun hc h=>?_
        ·refine ra ?_
         cases h
         refine p0T ?_;have h:=congrArg some (hx1 _ rfl)
         exact rt
        ·refine rn ?_
         cases h
         exact i9h () (bm hsc)
       ·refine rn ?_
        cases h
        exact i9h () (bm hsc)
     ·refine rn ?_
      cases h
      exact i9r () (bm hsc)
    ·try simp only[go_sem,fx]
     unfold i9y at h
     refine p0E hb ?_
     exact rt
  ·refine cd h (fun hc h=>?_) fun hc h=>?_
   ·refine cl h (p4W n _) fun v5 h=>?_
    try simp only[go_sem,fx]
    refine hj0 () _ _ _ h ?_;exact(bm hsc)
   ·refine r0 ?_
    refine hj0 () _ _ _ h ?_;exact(bm hsc)
end Go.Proofs.YtdjnbjnlnjhllaaGreatDoor
