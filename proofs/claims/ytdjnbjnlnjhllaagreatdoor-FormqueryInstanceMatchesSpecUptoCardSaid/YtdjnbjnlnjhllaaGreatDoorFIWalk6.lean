import Derived.Test.YtdjnbjnlnjhllaaGreatDoorFIWalk5
set_option linter.unusedVariables false
set_option linter.unusedSimpArgs false
set_option maxHeartbeats 2000000
set_option maxRecDepth 100000
namespace Go.Proofs.YtdjnbjnlnjhllaaGreatDoor
open Go Go.Am
theorem w8v(n:Nat)(a1:w3T)(a2:(List Bs))(r:(List w3U))(h:w5r n a1 a2=some r):Pure Tryz.prog gl 10 [.w4g,.agg [.int .i64 a1.kind,.str a1.name,.sl false 1 16 (rows w3X a1.words),.sl false 4 72 (rows w3T.cells a1.subs)],.sl false 1 16 (rows w3X a2)] (.sl false 5 80 (rows w3U.cells r)):=by
 intro st
 unfold w5r at h
 have fx:=trivial
 refine x3d ?_;refine fb 107 [.tmp 6] [0,1,2,4,6,7,8,9,10,11,12,13,14,28,34,39,40,41,42,43,44,45,46,47,48,65,66,67,68,75,89] Tryz.func10 fun hsc=>?_
 refine r0 ?_
 refine r0 ?_
 refine r0 ?_
 refine r0 ?_
 (repeat apply sq_)
 refine w9I 1 1 ?_
 try simp only[List.append_assoc,List.cons_append,List.nil_append]
 refine w5A (F:=[(0,.w4g),(2,.sl false 1 16 (rows w3X a2)),(4,.ptr st.length 0 0 0),(7,.int .i64 0),(8,.ptr (st.length+1) 0 0 0),(9,.int .i64 0)]) (T:=st++[some (.arr 0 4 0 [[.int .i64 a1.kind,.str a1.name,.sl false 1 16 (rows w3X a1.words),.sl false 4 72 (rows w3T.cells a1.subs)]]),some (.arr 0 5 0 [[.int .i64 a1.kind,.str a1.name,.sl false 1 16 (rows w3X a1.words),.ref false (st.length+2) 0 0 0,.int .i64 0]]),some (.arr 0 1 1 (rows x1d []))]) (y1B hsc (.lv (.live _ _ _ _ (.arr _ _ _ _ _ (.cons _ _ _ _ (.cons _ _ _ _ .s (.cons _ _ _ _ .s (.cons _ _ _ _ .s (.cons _ _ _ _ (.nref _ _ _ _ _ _ (x6a.trans rfl)) (.cons _ _ _ _ .s .nil))))) (.same _))) (.lv (.nil _)))) (by simp) ⟨.s,.s,.s,.s,.s,.s,trivial⟩ (by simp)) ?_
 (repeat apply sq_)
 refine w4m (body:=w8b n a1 a2) (kk:=w8d n a1 a2) (n:=n) (s0:=([],0))
  (fun(gs0:Nat) (s0:(List Bool)×Int)=>[(0,.w4g),(2,.sl false 1 16 (rows w3X a2)),(4,.ptr st.length 0 0 0),(7,.int .i64 0),(8,.ptr (st.length+1) 0 0 0),(9,.int .i64 s0.2)])
  (fun(gs0:Nat) (s0:(List Bool)×Int)=>st++[some (.arr 0 4 0 [[.int .i64 a1.kind,.str a1.name,.sl false 1 16 (rows w3X a1.words),.sl false 4 72 (rows w3T.cells a1.subs)]]),some (.arr 0 5 0 [[.int .i64 a1.kind,.str a1.name,.sl false 1 16 (rows w3X a1.words),.ref false (st.length+2) gs0 0 s0.1.length,.int .i64 0]]),some (.arr gs0 1 1 (rows x1d s0.1))])
  (fun(gt0:Nat) (t0:(List Bool))=>[(0,.w4g),(2,.sl false 1 16 (rows w3X a2)),(4,.ptr st.length 0 0 0),(7,.int .i64 0),(8,.ptr (st.length+1) 0 0 0)])
  (fun(gt0:Nat) (t0:(List Bool))=>st++[some (.arr 0 4 0 [[.int .i64 a1.kind,.str a1.name,.sl false 1 16 (rows w3X a1.words),.sl false 4 72 (rows w3T.cells a1.subs)]]),some (.arr 0 5 0 [[.int .i64 a1.kind,.str a1.name,.sl false 1 16 (rows w3X a1.words),.ref false (st.length+2) gt0 0 t0.length,.int .i64 0]]),some (.arr gt0 1 1 (rows x1d t0))])
  0 h (bm hsc)
  (fun gs0 s0 b0 h hx0=>?_) (fun gt0 t0 fr1 st1 h hb=>?_)
 ·unfold w8b at h
  refine cd h (fun hc h=>?_) fun hc h=>?_
  ·refine rn ?_
   refine w4m (body:=w8c a2 s0 a1) (kk:=x0c s0) (n:=n) (s0:=(false,0))
    (fun(gs2:Unit) (s2:Bool×Int)=>[(0,.w4g),(2,.sl false 1 16 (rows w3X a2)),(4,.ptr st.length 0 0 0),(7,.int .i64 0),(8,.ptr (st.length+1) 0 0 0),(9,.int .i64 s0.2),(10,.bool s2.1),(11,.int .i64 s2.2)])
    (fun(gs2:Unit) (s2:Bool×Int)=>st++[some (.arr 0 4 0 [[.int .i64 a1.kind,.str a1.name,.sl false 1 16 (rows w3X a1.words),.sl false 4 72 (rows w3T.cells a1.subs)]]),some (.arr 0 5 0 [[.int .i64 a1.kind,.str a1.name,.sl false 1 16 (rows w3X a1.words),.ref false (st.length+2) gs0 0 s0.1.length,.int .i64 0]]),some (.arr gs0 1 1 (rows x1d s0.1))])
    (fun(gt2:Unit) (t2:Bool)=>[(0,.w4g),(2,.sl false 1 16 (rows w3X a2)),(4,.ptr st.length 0 0 0),(7,.int .i64 0),(8,.ptr (st.length+1) 0 0 0),(9,.int .i64 s0.2),(10,.bool t2)])
    (fun(gt2:Unit) (t2:Bool)=>st++[some (.arr 0 4 0 [[.int .i64 a1.kind,.str a1.name,.sl false 1 16 (rows w3X a1.words),.sl false 4 72 (rows w3T.cells a1.subs)]]),some (.arr 0 5 0 [[.int .i64 a1.kind,.str a1.name,.sl false 1 16 (rows w3X a1.words),.ref false (st.length+2) gs0 0 s0.1.length,.int .i64 0]]),some (.arr gs0 1 1 (rows x1d s0.1))])
    () h (bm hsc)
    (fun gs2 s2 b2 h hx2=>?_) (fun gt2 t2 fr1 st1 h hb=>?_)
   ·unfold w8c at h
    refine cd h (fun hc h=>?_) fun hc h=>?_
    ·refine rn ?_
     obtain⟨fx,h⟩:=ck fx h
     obtain⟨fx,h⟩:=ck fx h
     refine dw [] 0 ?_
     refine rn ?_
     cases h
     exact w4s () (bm hsc)
    ·refine rn ?_
     cases h
     exact w4H () (bm hsc)
   ·try simp only[go_sem,fx]
    unfold x0c at h
    refine w5A hb ?_
    obtain⟨c28,z4E,h⟩:=x1k h
    have fy:=(show rows x1d s0.1++[[.bool t2]]=rows x1d c28 from by rw[z4E];first|exact w4k (E:=x1d) s0.1 [t2]|simp only[go_sem,rows,List.map_append,List.map_cons,List.map_nil])
    have fy:=fa fy (show s0.1.length+1=c28.length from by rw[z4E];simp)
    obtain⟨fx,h⟩:=ck fx h
    refine r1 ?_
    refine rn ?_
    cases h
    exact w4s (gs0+1) (bm hsc)
  ·refine rn ?_
   cases h
   exact w4H gs0 (bm hsc)
 ·try simp only[go_sem,fx]
  unfold w8d at h
  refine w5A hb ?_
  (repeat apply sq_)
  refine w5A (F:=[(0,.w4g),(2,.sl false 1 16 (rows w3X a2)),(4,.ptr st.length 0 0 0),(7,.int .i64 0),(8,.ptr (st.length+1) 0 0 0)]) (T:=st++[some (.arr 0 4 0 [[.int .i64 a1.kind,.str a1.name,.sl false 1 16 (rows w3X a1.words),.sl false 4 72 (rows w3T.cells a1.subs)]]),some (.arr 0 5 0 [[.int .i64 a1.kind,.str a1.name,.sl false 1 16 (rows w3X a1.words),.sl false 1 1 (rows x1d t0),.int .i64 0]])]) (y1B hsc (.lv (.live _ _ _ _ (.arr _ _ _ _ _ (.cons _ _ _ _ (.cons _ _ _ _ .s (.cons _ _ _ _ .s (.cons _ _ _ _ .s (.cons _ _ _ _ (.ref _ _ _ _ _ _ _ _ _ (x6a.trans rfl) (x5C (by first|decide|simp)) (by decide) (x4L _) (by simp only[go_sem])) (.cons _ _ _ _ .s .nil))))) (.same _))) (.nil _))) (by simp) ⟨.s,.s,.s,.s,.s,trivial⟩ (by simp)) ?_
  obtain⟨c34,y8t,h⟩:=x1k h
  obtain⟨fx,h⟩:=ck fx h
  refine r0 ?_
  have e37:D.ref false (st.length+3) 0 0 1=D.ref false (st.length+3) 0 0 c34.length:=by simp[y8t]
  have e38: [[.int .i64 a1.kind,.str a1.name,.sl false 1 16 (rows w3X a1.words),.sl false 1 1 (rows x1d t0),.int .i64 0]]=rows w3U.cells c34:=by rw[y8t];first|rfl|simp only[go_sem,rows,List.map_cons,List.map_nil]
  try simp only[e37,e38]
  refine rn ?_
  refine w9Q (w5C n a1 c34) r (fun(gj3:Unit) (j3:(List Bs))=>[(0,.ref false (st.length+3) 0 0 c34.length),(4,.ptr st.length 0 0 0),(7,.int .i64 0),(12,.sl false 1 16 (rows w3X j3))]) (fun(gj3:Unit) (j3:(List Bs))=>st++[some (.arr 0 4 0 [[.int .i64 a1.kind,.str a1.name,.sl false 1 16 (rows w3X a1.words),.sl false 4 72 (rows w3T.cells a1.subs)]]),none,none,some (.arr 0 5 80 (rows w3U.cells c34))]) (fun gj3 j3 fr1 st1 h hb=>?_) (fun hj3=>?_)
  ·try simp only[go_sem,fx]
   unfold w5C at h
   refine w5A hb ?_
   refine rn ?_
   refine w4m (body:=w6u n a1 j3) (kk:=w8e) (n:=n) (s0:=(c34,0))
    (fun(gs5:Nat) (s5:(List w3U)×Int)=>[(0,.ref false (st.length+3) gs5 0 s5.1.length),(4,.ptr st.length 0 0 0),(7,.int .i64 0),(12,.sl false 1 16 (rows w3X j3)),(14,.int .i64 s5.2)])
    (fun(gs5:Nat) (s5:(List w3U)×Int)=>st++[some (.arr 0 4 0 [[.int .i64 a1.kind,.str a1.name,.sl false 1 16 (rows w3X a1.words),.sl false 4 72 (rows w3T.cells a1.subs)]]),none,none,some (.arr gs5 5 80 (rows w3U.cells s5.1))])
    (fun(gt5:Nat) (t5:(List w3U))=>[(0,.ref false (st.length+3) gt5 0 t5.length),(7,.int .i64 0)])
    (fun(gt5:Nat) (t5:(List w3U))=>st++[none,none,none,some (.arr gt5 5 80 (rows w3U.cells t5))])
    0 h (bm hsc)
    (fun gs5 s5 b5 h hx5=>?_) (fun gt5 t5 fr1 st1 h hb=>?_)
   ·unfold w6u at h
    refine cd h (fun hc h=>?_) fun hc h=>?_
    ·obtain⟨fx,h⟩:=ck fx h
     refine rn ?_
     obtain⟨v68,hv68,h⟩:=w7w h
     refine(x7h (x4o n _ _ _ _ hv68 _ _ gs5 (by simp) (x5S.trans rfl))).mono ?_
     rintro d1 st1 ⟨g69,rfl,rfl⟩
     refine rn ?_
     cases h
     exact w4s g69 (bm hsc)
    ·refine rn ?_
     cases h
     exact w4H gs5 (bm hsc)
   ·try simp only[go_sem,fx]
    unfold w8e at h
    refine w5A hb ?_
    obtain⟨fx,h⟩:=ck fx h
    have fy:=(show(rows w3U.cells t5).getD 0 []=w3U.cells (get t5 0)from y2e (E:=w3U.cells) (l:=t5) (k:=0) (by first|omega|(simp;omega)))
    have fy:=fa fy (show 0<t5.length from by first|omega|(simp;omega))
    obtain⟨c73,z4F,h⟩:=x1k h
    have fy:=fa fy (show(rows w3U.cells t5).set 0 [.int .i64 ((get t5 0).kind),.str ((get t5 0).name),.sl false 1 16 (rows w3X ((get t5 0).words)),.sl false 1 1 (rows x1d ((get t5 0).bound)),.int .i64 (↑t5.length:Int)]=rows w3U.cells c73 from by rw[z4F];first|exact z5E (E:=w3U.cells) _ _ _|simp only[go_sem,rows,List.map_set])
    refine r1 ?_
    have e75:D.ref false (st.length+3) gt5 0 t5.length=D.ref false (st.length+3) gt5 0 c73.length:=by simp[z4F]
    try simp only[e75]
    refine rr ?_
    exact fo (.sl false 5 80 (rows w3U.cells c73)) (.ref _ _ _ _ _ _ _ _ _ (x6a.trans rfl) y4B (by decide) (x4L _) (by simp only[go_sem])) h hsc
  ·refine cd h (fun hc h=>?_) fun hc h=>?_
   ·refine rn ?_
    refine w4m (body:=w8f a2) (kk:=x0e n a1 c34) (n:=n) (s0:=([a1.name],0))
     (fun(gs4:Nat) (s4:(List Bs)×Int)=>[(0,.ref false (st.length+3) 0 0 c34.length),(2,.sl false 1 16 (rows w3X a2)),(4,.ptr st.length 0 0 0),(7,.int .i64 0),(12,.ref false (st.length+4) gs4 0 s4.1.length),(13,.int .i64 s4.2)])
     (fun(gs4:Nat) (s4:(List Bs)×Int)=>st++[some (.arr 0 4 0 [[.int .i64 a1.kind,.str a1.name,.sl false 1 16 (rows w3X a1.words),.sl false 4 72 (rows w3T.cells a1.subs)]]),none,none,some (.arr 0 5 80 (rows w3U.cells c34)),some (.arr gs4 1 16 (rows w3X s4.1))])
     (fun(gt4:Nat) (t4:(List Bs))=>[(0,.ref false (st.length+3) 0 0 c34.length),(4,.ptr st.length 0 0 0),(7,.int .i64 0),(12,.ref false (st.length+4) gt4 0 t4.length)])
     (fun(gt4:Nat) (t4:(List Bs))=>st++[some (.arr 0 4 0 [[.int .i64 a1.kind,.str a1.name,.sl false 1 16 (rows w3X a1.words),.sl false 4 72 (rows w3T.cells a1.subs)]]),none,none,some (.arr 0 5 80 (rows w3U.cells c34)),some (.arr gt4 1 16 (rows w3X t4))])
     0 h (bm hsc)
     (fun gs4 s4 b4 h hx4=>?_) (fun gt4 t4 fr1 st1 h hb=>?_)
    ·unfold w8f at h
     refine cd h (fun hc h=>?_) fun hc h=>?_
     ·refine r0 ?_
      refine r0 ?_
      obtain⟨fx,h⟩:=ck fx h
      obtain⟨c58,z4G,h⟩:=x1k h
      have fy:=(show rows w3X s4.1++[[.str (get a2 s4.2.toNat)]]=rows w3X c58 from by rw[z4G];first|exact w4k (E:=w3X) s4.1 [(get a2 s4.2.toNat)]|simp only[go_sem,rows,List.map_append,List.map_cons,List.map_nil])
      have fy:=fa fy (show s4.1.length+1=c58.length from by rw[z4G];simp)
      obtain⟨fx,h⟩:=ck fx h
      refine r1 ?_
      refine rn ?_
      cases h
      exact w4s (gs4+1) (bm hsc)
     ·refine rn ?_
      cases h
      exact w4H gs4 (bm hsc)
    ·try simp only[go_sem,fx]
     unfold x0e at h
     refine hj3 () _ _ _ h ?_;exact(hb.trans (bm hsc (hf:=⟨.s,.s,.s,.ref _ _ _ _ _ _ _ _ _ (x6a.trans rfl) (x5C (by first|decide|simp)) (by decide) (x4L _) (by simp only[go_sem]),trivial⟩)))
   ·refine r0 ?_
    refine hj3 () _ _ _ h ?_;exact(bm hsc)
theorem x2b(n:Nat)(a0:Bs)(r:Bool)(h:w6E n a0=some r):Pure Tryz.prog gl 29 [.str a0] (.bool r):=by
 intro st
 unfold w6E at h
 have fx:=trivial
 refine fb 51 [.tmp 2] [0,2,3,4,5,9,18,19,22,23,24,25,26,27,28,29,30,31,32,33,34,35,36,37,38,39,42,47,48,49] Tryz.func29 fun hsc=>?_
 refine rn ?_
 refine w4m (body:=w6w a0) (kk:=w8j a0) (n:=n) (s0:=0)
  (fun(gs0:Unit) (s0:Int)=>[(0,.str a0),(3,.int .i64 s0)])
  (fun(gs0:Unit) (s0:Int)=>st)
  (fun(gt0:Unit) (t0:Unit)=>[(0,.str a0)])
  (fun(gt0:Unit) (t0:Unit)=>st)
  () h (x4b hsc)
  (fun gs0 s0 b0 h hx0=>?_) (fun gt0 t0 fr1 st1 h hb=>?_)
 ·unfold w6w at h
  refine cd h (fun hc h=>?_) fun hc h=>?_
  ·obtain⟨fx,h⟩:=ck fx h
   refine cd h (fun hc h=>?_) fun hc h=>?_
   ·refine ra ?_
    cases h
    refine w9J ?_;have h:=congrArg some (hx0 _ rfl)
    exact rt
   ·refine rn ?_
    cases h
    exact w4s () (x4b hsc)
  ·refine rn ?_
   cases h
   exact w4H () (x4b hsc)
 ·try simp only[go_sem,fx]
  unfold w8j at h
  refine w5A hb ?_
  exact rt
theorem w4u(n:Nat)(a0:(List Bs))(a1:Bs)(r:Int)(h:w4f n a0 a1=some r):Pure Tryz.prog gl 30 [.sl false 1 16 (rows w3X a0),.str a1] (.int .i64 r):=by
 intro st
 unfold w4f at h
 have fx:=trivial
 refine fb 19 [.tmp 4] [0,1,4,5,9,17] Tryz.func30 fun hsc=>?_
 refine rn ?_
 refine w4m (body:=w7f a0 a1) (kk:=w9s) (n:=n) (s0:=0)
  (fun(gs0:Unit) (s0:Int)=>[(0,.sl false 1 16 (rows w3X a0)),(1,.str a1),(5,.int .i64 s0)])
  (fun(gs0:Unit) (s0:Int)=>st)
  (fun(gt0:Unit) (t0:Unit)=>[])
  (fun(gt0:Unit) (t0:Unit)=>st)
  () h (x4b hsc)
  (fun gs0 s0 b0 h hx0=>?_) (fun gt0 t0 fr1 st1 h hb=>?_)
 ·unfold w7f at h
  refine cd h (fun hc h=>?_) fun hc h=>?_
  ·obtain⟨fx,h⟩:=ck fx h
   refine cd h (fun hc h=>?_) fun hc h=>?_
   ·refine ra ?_
    cases h
    refine w9J ?_;have h:=congrArg some (hx0 _ rfl)
    exact rt
   ·refine rn ?_
    cases h
    exact w4s () (x4b hsc)
  ·refine rn ?_
   cases h
   exact w4H () (x4b hsc)
 ·try simp only[go_sem,fx]
  unfold w9s at h
  refine w5A hb ?_
  exact rt
theorem x4p(n:Nat)(a1:Bs)(l0:(List Bs))(r:Int)(h:w8M n a1 l0=some r):∀(st:St) (o0 q0:Nat) (hnd: [o0].Nodup) (w8Z:Am.look st o0=some (.arr q0 1 16 (rows w3X l0))),Am.Spec Tryz.prog gl 30 [.ref false o0 q0 0 l0.length,.str a1] st (fun d st'=>d= .int .i64 r∧st'=puts st []):=by
 intro st o0 q0 hnd w8Z
 unfold w8M at h
 have ho0:=w5a w8Z
 have fx:=idf ho0
 refine fb 19 [.tmp 4] [0,1,4,5,9,17] Tryz.func30 fun hsc=>?_
 refine x1L (s':=(w4O st [(o0,(.arr q0 1 16 (rows w3X l0)))])) (w4w (by simp[w8Z])) ?_
 refine rn ?_
 refine w4m (body:=w7g l0 a1) (kk:=w9t) (n:=n) (s0:=0)
  (fun(gs0:Unit) (s0:Int)=>[(0,.ref false o0 q0 0 l0.length),(1,.str a1),(5,.int .i64 s0)])
  (fun(gs0:Unit) (s0:Int)=>(w4O st [(o0,(.arr q0 1 16 (rows w3X l0)))]))
  (fun(gt0:Unit) (t0:Unit)=>[])
  (fun(gt0:Unit) (t0:Unit)=>(w4O st [(o0,(.arr q0 1 16 (rows w3X l0)))]))
  () h (y1c hsc)
  (fun gs0 s0 b0 h hx0=>?_) (fun gt0 t0 fr1 st1 h hb=>?_)
 ·unfold w7g at h
  refine cd h (fun hc h=>?_) fun hc h=>?_
  ·refine r0 ?_
   refine r0 ?_
   obtain⟨fx,h⟩:=ck fx h
   have fy:=(show(rows w3X l0).getD s0.toNat []=w3X (get l0 s0.toNat)from y2e (E:=w3X) (l:=l0) (k:=s0.toNat) (by first|omega|(simp;omega)))
   have fy:=fa fy (show s0.toNat<l0.length from by first|omega|(simp;omega))
   refine r1 ?_
   refine cd h (fun hc h=>?_) fun hc h=>?_
   ·refine ra ?_
    cases h
    refine w9J ?_;have h:=congrArg some (hx0 _ rfl)
    refine rr ?_
    exact fus (.int .i64 s0) (.same _) h hsc (hr:=by rintro rfl;exact⟨rfl,w4w (by simp[w8Z])⟩)
   ·refine rn ?_
    cases h
    exact w4s () (y1c hsc)
  ·refine rn ?_
   cases h
   exact w4H () (y1c hsc)
 ·try simp only[go_sem,fx]
  unfold w9t at h
  refine w5A hb ?_
  refine rr ?_
  exact fus (.int .i64 (-1)) (.same _) h hsc (hr:=by rintro rfl;exact⟨rfl,w4w (by simp[w8Z])⟩)
theorem x2X(n:Nat)(a0:w3W)(r:w4b)(h:w5G n a0=some r):Pure Tryz.prog gl 8 [.agg [.int .i64 a0.form.kind,.str a0.form.name,.sl false 1 16 (rows w3X a0.form.words),.sl false 4 72 (rows w3T.cells a0.form.subs),.sl false 1 16 (rows w3X a0.words),.sl false 1 16 (rows w3X a0.w4a),.sl false 1 16 (rows w3X a0.parts)]] (.agg [.int .i64 r.code,.int .i64 r.index]):=by
 intro st
 unfold w5G at h
 have fx:=trivial
 refine x3d ?_;refine fb 254 [.cell 2 31] [0,1,2,3,4,5,6,7,8,9,10,11,12,13,14,15,16,17,18,19,25,41,46,59,72,89,97,102,113,119,124,132,137,138,139,140,141,142,143,144,145,146,147,148,149,150,151,152,153,154,155,156,157,158,159,160,169,170,171,172,173,174,175,176,177,178,179,182,183,184,185,186,187,188,196,197,201,208,218,219,220,221,222,223,224,234,235,236,237,238,239,240,241,242,243] Tryz.func8 fun hsc=>?_
 refine rn ?_
 obtain⟨v1,hv1,h⟩:=w7w h
 refine(w8a (x0O n _ _ hv1)).to ?_
 refine cd h (fun hc h=>?_) fun hc h=>?_
 ·exact rt
 ·refine rn ?_
  refine dw [] 0 ?_
  refine cd h (fun hc h=>?_) fun hc h=>?_
  ·exact rt
  ·refine rn ?_
   refine w4m (body:=w7O a0) (kk:=w5T n a0) (n:=n) (s0:=([],0))
    (fun(gs0:Nat) (s0:(List Bs)×Int)=>[(1,.ptr st.length 0 0 0),(2,.ptr (st.length+1) 0 0 0),(4,.int .i64 (↑a0.words.length:Int)),(5,.int .i64 (↑a0.w4a.length:Int)),(6,.int .i64 (↑a0.parts.length:Int)),(7,.ref false (st.length+3) gs0 0 s0.1.length),(8,.int .i64 s0.2)])
    (fun(gs0:Nat) (s0:(List Bs)×Int)=>st++[some (.arr 0 7 0 [[.int .i64 a0.form.kind,.str a0.form.name,.sl false 1 16 (rows w3X a0.form.words),.sl false 4 72 (rows w3T.cells a0.form.subs),.sl false 1 16 (rows w3X a0.words),.sl false 1 16 (rows w3X a0.w4a),.sl false 1 16 (rows w3X a0.parts)]]),some (.arr 0 2 0 [[.int .i64 0,.int .i64 0]]),none,some (.arr gs0 1 16 (rows w3X s0.1))])
    (fun(gt0:Nat) (t0:(List Bs))=>[(1,.ptr st.length 0 0 0),(2,.ptr (st.length+1) 0 0 0),(4,.int .i64 (↑a0.words.length:Int)),(5,.int .i64 (↑a0.w4a.length:Int)),(6,.int .i64 (↑a0.parts.length:Int)),(7,.ref false (st.length+3) gt0 0 t0.length)])
    (fun(gt0:Nat) (t0:(List Bs))=>st++[some (.arr 0 7 0 [[.int .i64 a0.form.kind,.str a0.form.name,.sl false 1 16 (rows w3X a0.form.words),.sl false 4 72 (rows w3T.cells a0.form.subs),.sl false 1 16 (rows w3X a0.words),.sl false 1 16 (rows w3X a0.w4a),.sl false 1 16 (rows w3X a0.parts)]]),some (.arr 0 2 0 [[.int .i64 0,.int .i64 0]]),none,some (.arr gt0 1 16 (rows w3X t0))])
    0 h (bm hsc)
    (fun gs0 s0 b0 h hx0=>?_) (fun gt0 t0 fr1 st1 h hb=>?_)
   ·unfold w7O at h
    refine cd h (fun hc h=>?_) fun hc h=>?_
    ·refine r0 ?_
     refine r0 ?_
     obtain⟨fx,h⟩:=ck fx h
     obtain⟨c20,z0K,h⟩:=x1k h
     have fy:=(show rows w3X s0.1++[[.str (get a0.words s0.2.toNat)]]=rows w3X c20 from by rw[z0K];first|exact w4k (E:=w3X) s0.1 [(get a0.words s0.2.toNat)]|simp only[go_sem,rows,List.map_append,List.map_cons,List.map_nil])
     have fy:=fa fy (show s0.1.length+1=c20.length from by rw[z0K];simp)
     obtain⟨fx,h⟩:=ck fx h
     refine r1 ?_
     refine rn ?_
     cases h
     exact w4s (gs0+1) (bm hsc)
    ·refine rn ?_
     cases h
     exact w4H gs0 (bm hsc)
   ·try simp only[go_sem,fx]
    unfold w5T at h
    refine w5A hb ?_
    refine rn ?_
    refine w4m (body:=w7P a0) (kk:=w5U n a0) (n:=n) (s0:=(t0,0))
     (fun(gs1:Nat) (s1:(List Bs)×Int)=>[(1,.ptr st.length 0 0 0),(2,.ptr (st.length+1) 0 0 0),(4,.int .i64 (↑a0.words.length:Int)),(5,.int .i64 (↑a0.w4a.length:Int)),(6,.int .i64 (↑a0.parts.length:Int)),(7,.ref false (st.length+3) gs1 0 s1.1.length),(9,.int .i64 s1.2)])
     (fun(gs1:Nat) (s1:(List Bs)×Int)=>st++[some (.arr 0 7 0 [[.int .i64 a0.form.kind,.str a0.form.name,.sl false 1 16 (rows w3X a0.form.words),.sl false 4 72 (rows w3T.cells a0.form.subs),.sl false 1 16 (rows w3X a0.words),.sl false 1 16 (rows w3X a0.w4a),.sl false 1 16 (rows w3X a0.parts)]]),some (.arr 0 2 0 [[.int .i64 0,.int .i64 0]]),none,some (.arr gs1 1 16 (rows w3X s1.1))])
     (fun(gt1:Nat) (t1:(List Bs))=>[(1,.ptr st.length 0 0 0),(2,.ptr (st.length+1) 0 0 0),(4,.int .i64 (↑a0.words.length:Int)),(5,.int .i64 (↑a0.w4a.length:Int)),(6,.int .i64 (↑a0.parts.length:Int)),(7,.ref false (st.length+3) gt1 0 t1.length)])
     (fun(gt1:Nat) (t1:(List Bs))=>st++[some (.arr 0 7 0 [[.int .i64 a0.form.kind,.str a0.form.name,.sl false 1 16 (rows w3X a0.form.words),.sl false 4 72 (rows w3T.cells a0.form.subs),.sl false 1 16 (rows w3X a0.words),.sl false 1 16 (rows w3X a0.w4a),.sl false 1 16 (rows w3X a0.parts)]]),some (.arr 0 2 0 [[.int .i64 0,.int .i64 0]]),none,some (.arr gt1 1 16 (rows w3X t1))])
     gt0 h (bm hsc)
     (fun gs1 s1 b1 h hx1=>?_) (fun gt1 t1 fr1 st1 h hb=>?_)
    ·unfold w7P at h
     refine cd h (fun hc h=>?_) fun hc h=>?_
     ·refine r0 ?_
      refine r0 ?_
      obtain⟨fx,h⟩:=ck fx h
      obtain⟨c35,z7m,h⟩:=x1k h
      have fy:=(show rows w3X s1.1++[[.str (get a0.w4a s1.2.toNat)]]=rows w3X c35 from by rw[z7m];first|exact w4k (E:=w3X) s1.1 [(get a0.w4a s1.2.toNat)]|simp only[go_sem,rows,List.map_append,List.map_cons,List.map_nil])
      have fy:=fa fy (show s1.1.length+1=c35.length from by rw[z7m];simp)
      obtain⟨fx,h⟩:=ck fx h
      refine r1 ?_
      refine rn ?_
      cases h
      exact w4s (gs1+1) (bm hsc)
     ·refine rn ?_
      cases h
      exact w4H gs1 (bm hsc)
    ·try simp only[go_sem,fx]
     unfold w5U at h
     refine w5A hb ?_
     refine rn ?_
     refine w4m (body:=w7Q a0) (kk:=w5V n a0) (n:=n) (s0:=(t1,0))
      (fun(gs2:Nat) (s2:(List Bs)×Int)=>[(1,.ptr st.length 0 0 0),(2,.ptr (st.length+1) 0 0 0),(4,.int .i64 (↑a0.words.length:Int)),(5,.int .i64 (↑a0.w4a.length:Int)),(6,.int .i64 (↑a0.parts.length:Int)),(7,.ref false (st.length+3) gs2 0 s2.1.length),(10,.int .i64 s2.2)])
      (fun(gs2:Nat) (s2:(List Bs)×Int)=>st++[some (.arr 0 7 0 [[.int .i64 a0.form.kind,.str a0.form.name,.sl false 1 16 (rows w3X a0.form.words),.sl false 4 72 (rows w3T.cells a0.form.subs),.sl false 1 16 (rows w3X a0.words),.sl false 1 16 (rows w3X a0.w4a),.sl false 1 16 (rows w3X a0.parts)]]),some (.arr 0 2 0 [[.int .i64 0,.int .i64 0]]),none,some (.arr gs2 1 16 (rows w3X s2.1))])
      (fun(gt2:Nat) (t2:(List Bs))=>[(1,.ptr st.length 0 0 0),(2,.ptr (st.length+1) 0 0 0),(4,.int .i64 (↑a0.words.length:Int)),(5,.int .i64 (↑a0.w4a.length:Int)),(7,.ref false (st.length+3) gt2 0 t2.length)])
      (fun(gt2:Nat) (t2:(List Bs))=>st++[some (.arr 0 7 0 [[.int .i64 a0.form.kind,.str a0.form.name,.sl false 1 16 (rows w3X a0.form.words),.sl false 4 72 (rows w3T.cells a0.form.subs),.sl false 1 16 (rows w3X a0.words),.sl false 1 16 (rows w3X a0.w4a),.sl false 1 16 (rows w3X a0.parts)]]),some (.arr 0 2 0 [[.int .i64 0,.int .i64 0]]),none,some (.arr gt2 1 16 (rows w3X t2))])
      gt1 h (bm hsc)
      (fun gs2 s2 b2 h hx2=>?_) (fun gt2 t2 fr1 st1 h hb=>?_)
     ·unfold w7Q at h
      refine cd h (fun hc h=>?_) fun hc h=>?_
      ·refine r0 ?_
       refine r0 ?_
       obtain⟨fx,h⟩:=ck fx h
       obtain⟨c50,z7n,h⟩:=x1k h
       have fy:=(show rows w3X s2.1++[[.str (get a0.parts s2.2.toNat)]]=rows w3X c50 from by rw[z7n];first|exact w4k (E:=w3X) s2.1 [(get a0.parts s2.2.toNat)]|simp only[go_sem,rows,List.map_append,List.map_cons,List.map_nil])
       have fy:=fa fy (show s2.1.length+1=c50.length from by rw[z7n];simp)
       obtain⟨fx,h⟩:=ck fx h
       refine r1 ?_
       refine rn ?_
       cases h
       exact w4s (gs2+1) (bm hsc)
      ·refine rn ?_
       cases h
       exact w4H gs2 (bm hsc)
     ·try simp only[go_sem,fx]
      unfold w5V at h
      refine w5A hb ?_
      refine rn ?_
      obtain⟨v55,hv55,h⟩:=w7w h
      refine(w8a ((w8v n _ _ _ hv55).up (fun _=>(.cons _ _ _ _ .s (.cons _ _ _ _ .s (.cons _ _ _ _ (.w4g _ _ _ (by decide)) .nil)))) (.inr fun n=>by simp))).to ?_
      refine rn ?_
      refine w4m (body:=w4M n t2 v55 a0) (kk:=w5W n v55 a0) (n:=n) (s0:=0)
       (fun(gs3:Unit) (s3:Int)=>[(1,.ptr st.length 0 0 0),(2,.ptr (st.length+1) 0 0 0),(4,.int .i64 (↑a0.words.length:Int)),(5,.int .i64 (↑a0.w4a.length:Int)),(7,.ref false (st.length+3) gt2 0 t2.length),(11,.sl false 5 80 (rows w3U.cells v55)),(12,.int .i64 s3)])
       (fun(gs3:Unit) (s3:Int)=>st++[some (.arr 0 7 0 [[.int .i64 a0.form.kind,.str a0.form.name,.sl false 1 16 (rows w3X a0.form.words),.sl false 4 72 (rows w3T.cells a0.form.subs),.sl false 1 16 (rows w3X a0.words),.sl false 1 16 (rows w3X a0.w4a),.sl false 1 16 (rows w3X a0.parts)]]),some (.arr 0 2 0 [[.int .i64 0,.int .i64 0]]),none,some (.arr gt2 1 16 (rows w3X t2))])
       (fun(gt3:Unit) (t3:Unit)=>[(1,.ptr st.length 0 0 0),(2,.ptr (st.length+1) 0 0 0),(11,.sl false 5 80 (rows w3U.cells v55))])
       (fun(gt3:Unit) (t3:Unit)=>st++[some (.arr 0 7 0 [[.int .i64 a0.form.kind,.str a0.form.name,.sl false 1 16 (rows w3X a0.form.words),.sl false 4 72 (rows w3T.cells a0.form.subs),.sl false 1 16 (rows w3X a0.words),.sl false 1 16 (rows w3X a0.w4a),.sl false 1 16 (rows w3X a0.parts)]]),some (.arr 0 2 0 [[.int .i64 0,.int .i64 0]])])
       () h (bm hsc)
       (fun gs3 s3 b3 h hx3=>?_) (fun gt3 t3 fr1 st1 h hb=>?_)
      ·unfold w4M at h
       refine cd h (fun hc h=>?_) fun hc h=>?_
       ·refine r0 ?_
        refine r0 ?_
        obtain⟨fx,h⟩:=ck fx h
        have fy:=(show(rows w3X t2).getD s3.toNat []=w3X (get t2 s3.toNat)from y2e (E:=w3X) (l:=t2) (k:=s3.toNat) (by first|omega|(simp;omega)))
        have fy:=fa fy (show s3.toNat<t2.length from by first|omega|(simp;omega))
        refine r1 ?_
        obtain⟨v115,hv115,h⟩:=w7w h
        refine(w8a (x2b n _ _ hv115)).to ?_
        try simp only[go_sem,fx,fy]
        refine cd h (fun hc h=>?_) fun hc h=>?_
        ·refine ra ?_
         cases h
         refine w9J ?_;have h:=congrArg some (hx3 _ rfl)
         exact rt
        ·refine rn ?_
         refine w4m (body:=w5i s3 t2) (kk:=w5R n v55 s3 a0 t2) (n:=n) (s0:=0)
          (fun(gs8:Unit) (s8:Int)=>[(1,.ptr st.length 0 0 0),(2,.ptr (st.length+1) 0 0 0),(4,.int .i64 (↑a0.words.length:Int)),(5,.int .i64 (↑a0.w4a.length:Int)),(7,.ref false (st.length+3) gt2 0 t2.length),(11,.sl false 5 80 (rows w3U.cells v55)),(12,.int .i64 s3),(13,.int .i64 s8)])
          (fun(gs8:Unit) (s8:Int)=>st++[some (.arr 0 7 0 [[.int .i64 a0.form.kind,.str a0.form.name,.sl false 1 16 (rows w3X a0.form.words),.sl false 4 72 (rows w3T.cells a0.form.subs),.sl false 1 16 (rows w3X a0.words),.sl false 1 16 (rows w3X a0.w4a),.sl false 1 16 (rows w3X a0.parts)]]),some (.arr 0 2 0 [[.int .i64 0,.int .i64 0]]),none,some (.arr gt2 1 16 (rows w3X t2))])
          (fun(gt8:Unit) (t8:Unit)=>[(1,.ptr st.length 0 0 0),(2,.ptr (st.length+1) 0 0 0),(4,.int .i64 (↑a0.words.length:Int)),(5,.int .i64 (↑a0.w4a.length:Int)),(7,.ref false (st.length+3) gt2 0 t2.length),(11,.sl false 5 80 (rows w3U.cells v55)),(12,.int .i64 s3)])
          (fun(gt8:Unit) (t8:Unit)=>st++[some (.arr 0 7 0 [[.int .i64 a0.form.kind,.str a0.form.name,.sl false 1 16 (rows w3X a0.form.words),.sl false 4 72 (rows w3T.cells a0.form.subs),.sl false 1 16 (rows w3X a0.words),.sl false 1 16 (rows w3X a0.w4a),.sl false 1 16 (rows w3X a0.parts)]]),some (.arr 0 2 0 [[.int .i64 0,.int .i64 0]]),none,some (.arr gt2 1 16 (rows w3X t2))])
          () h (bm hsc)
          (fun gs8 s8 b8 h hx8=>?_) (fun gt8 t8 fr1 st1 h hb=>?_)
         ·unfold w5i at h
          refine cd h (fun hc h=>?_) fun hc h=>?_
          ·refine rn ?_
           obtain⟨fx,h⟩:=ck fx h
           have fy:=(show(rows w3X t2).getD s8.toNat []=w3X (get t2 s8.toNat)from y2e (E:=w3X) (l:=t2) (k:=s8.toNat) (by first|omega|(simp;omega)))
           have fy:=fa fy (show s8.toNat<t2.length from by first|omega|(simp;omega))
           have fy:=fa fy (show(rows w3X t2).getD s3.toNat []=w3X (get t2 s3.toNat)from y2e (E:=w3X) (l:=t2) (k:=s3.toNat) (by first|omega|(simp;omega)))
           have fy:=fa fy (show s3.toNat<t2.length from by first|omega|(simp;omega))
           refine dwy [] 0 ?_
           refine cd h (fun hc h=>?_) fun hc h=>?_
           ·refine ra ?_
            cases h
            refine w9J ?_;obtain rfl:=hx8 _ rfl;try simp only[go_sem,fx]
            refine w9J ?_;have h:=congrArg some (hx3 _ rfl)
            exact rt
           ·refine rn ?_
            cases h
            exact w4s () (bm hsc)
          ·refine rn ?_
           cases h
           exact w4H () (bm hsc)
         ·try simp only[go_sem,fx]
          unfold w5R at h
          refine w5A hb ?_
          refine rn ?_
          refine w4m (body:=w4L n v55 s3 a0 t2) (kk:=w5S a0 s3) (n:=n) (s0:=(false,false,0))
           (fun(gs9:Unit) (s9:Bool×Bool×Int)=>[(1,.ptr st.length 0 0 0),(2,.ptr (st.length+1) 0 0 0),(4,.int .i64 (↑a0.words.length:Int)),(5,.int .i64 (↑a0.w4a.length:Int)),(7,.ref false (st.length+3) gt2 0 t2.length),(11,.sl false 5 80 (rows w3U.cells v55)),(12,.int .i64 s3),(14,.bool s9.1),(15,.bool s9.2.1),(16,.int .i64 s9.2.2)])
           (fun(gs9:Unit) (s9:Bool×Bool×Int)=>st++[some (.arr 0 7 0 [[.int .i64 a0.form.kind,.str a0.form.name,.sl false 1 16 (rows w3X a0.form.words),.sl false 4 72 (rows w3T.cells a0.form.subs),.sl false 1 16 (rows w3X a0.words),.sl false 1 16 (rows w3X a0.w4a),.sl false 1 16 (rows w3X a0.parts)]]),some (.arr 0 2 0 [[.int .i64 0,.int .i64 0]]),none,some (.arr gt2 1 16 (rows w3X t2))])
           (fun(gt9:Unit) (t9:Bool×Bool)=>[(1,.ptr st.length 0 0 0),(2,.ptr (st.length+1) 0 0 0),(4,.int .i64 (↑a0.words.length:Int)),(5,.int .i64 (↑a0.w4a.length:Int)),(7,.ref false (st.length+3) gt2 0 t2.length),(11,.sl false 5 80 (rows w3U.cells v55)),(12,.int .i64 s3),(14,.bool t9.1),(15,.bool t9.2)])
           (fun(gt9:Unit) (t9:Bool×Bool)=>st++[some (.arr 0 7 0 [[.int .i64 a0.form.kind,.str a0.form.name,.sl false 1 16 (rows w3X a0.form.words),.sl false 4 72 (rows w3T.cells a0.form.subs),.sl false 1 16 (rows w3X a0.words),.sl false 1 16 (rows w3X a0.w4a),.sl false 1 16 (rows w3X a0.parts)]]),some (.arr 0 2 0 [[.int .i64 0,.int .i64 0]]),none,some (.arr gt2 1 16 (rows w3X t2))])
           () h (bm hsc)
           (fun gs9 s9 b9 h hx9=>?_) (fun gt9 t9 fr1 st1 h hb=>?_)
          ·unfold w4L at h
           refine cd h (fun hc h=>?_) fun hc h=>?_
           ·refine cd h (fun hc h=>?_) fun hc h=>?_
            ·refine rn ?_
             refine w4m (body:=w4D s9 v55 s3 t2) (kk:=w5M s9) (n:=n) (s0:=(s9.1,0))
              (fun(z2D:Unit) (s11:Bool×Int)=>[(1,.ptr st.length 0 0 0),(2,.ptr (st.length+1) 0 0 0),(4,.int .i64 (↑a0.words.length:Int)),(5,.int .i64 (↑a0.w4a.length:Int)),(7,.ref false (st.length+3) gt2 0 t2.length),(11,.sl false 5 80 (rows w3U.cells v55)),(12,.int .i64 s3),(14,.bool s11.1),(15,.bool s9.2.1),(16,.int .i64 s9.2.2),(17,.int .i64 s11.2)])
              (fun(z2D:Unit) (s11:Bool×Int)=>st++[some (.arr 0 7 0 [[.int .i64 a0.form.kind,.str a0.form.name,.sl false 1 16 (rows w3X a0.form.words),.sl false 4 72 (rows w3T.cells a0.form.subs),.sl false 1 16 (rows w3X a0.words),.sl false 1 16 (rows w3X a0.w4a),.sl false 1 16 (rows w3X a0.parts)]]),some (.arr 0 2 0 [[.int .i64 0,.int .i64 0]]),none,some (.arr gt2 1 16 (rows w3X t2))])
              (fun(z4D:Unit) (t11:Bool)=>[(1,.ptr st.length 0 0 0),(2,.ptr (st.length+1) 0 0 0),(4,.int .i64 (↑a0.words.length:Int)),(5,.int .i64 (↑a0.w4a.length:Int)),(7,.ref false (st.length+3) gt2 0 t2.length),(11,.sl false 5 80 (rows w3U.cells v55)),(12,.int .i64 s3),(14,.bool t11),(15,.bool s9.2.1),(16,.int .i64 s9.2.2)])
              (fun(z4D:Unit) (t11:Bool)=>st++[some (.arr 0 7 0 [[.int .i64 a0.form.kind,.str a0.form.name,.sl false 1 16 (rows w3X a0.form.words),.sl false 4 72 (rows w3T.cells a0.form.subs),.sl false 1 16 (rows w3X a0.words),.sl false 1 16 (rows w3X a0.w4a),.sl false 1 16 (rows w3X a0.parts)]]),some (.arr 0 2 0 [[.int .i64 0,.int .i64 0]]),none,some (.arr gt2 1 16 (rows w3X t2))])
              () h (bm hsc)
              (fun z2D s11 b11 h z9c=>?_) (fun z4D t11 fr1 st1 h hb=>?_)
             ·unfold w4D at h
              obtain⟨fx,h⟩:=ck fx h
              refine cd h (fun hc h=>?_) fun hc h=>?_
              ·refine rn ?_
               obtain⟨fx,h⟩:=ck fx h
               obtain⟨fx,h⟩:=ck fx h
               have fy:=(show(rows w3X t2).getD s3.toNat []=w3X (get t2 s3.toNat)from y2e (E:=w3X) (l:=t2) (k:=s3.toNat) (by first|omega|(simp;omega)))
               have fy:=fa fy (show s3.toNat<t2.length from by first|omega|(simp;omega))
               obtain⟨fx,h⟩:=ck fx h
               refine dwy [] 0 ?_
               refine rn ?_
               cases h
               exact w4s () (bm hsc)
              ·refine rn ?_
               cases h
               exact w4H () (bm hsc)
             ·try simp only[go_sem,fx]
              unfold w5M at h
              refine w5A hb ?_
              refine rn ?_
              cases h
              exact w4s () (bm hsc)
            ·refine rs ?_
             obtain⟨fx,h⟩:=ck fx h
             obtain⟨fx,h⟩:=ck fx h
             have fy:=(show(rows w3X t2).getD s3.toNat []=w3X (get t2 s3.toNat)from y2e (E:=w3X) (l:=t2) (k:=s3.toNat) (by first|omega|(simp;omega)))
             have fy:=fa fy (show s3.toNat<t2.length from by first|omega|(simp;omega))
             refine dwy [] 0 ?_
             refine cd h (fun hc h=>?_) fun hc h=>?_
             ·refine rn ?_
              cases h
              exact w4s () (bm hsc)
             ·refine rn ?_
              cases h
              exact w4s () (bm hsc)
           ·refine rn ?_
            cases h
            exact w4H () (bm hsc)
          ·try simp only[go_sem,fx]
           unfold w5S at h
           refine w5A hb ?_
           refine cd h (fun hc h=>?_) fun hc h=>?_
           ·refine ra ?_
            cases h
            refine w9J ?_;have h:=congrArg some (hx3 _ rfl)
            exact rt
           ·refine cd h (fun hc h=>?_) fun hc h=>?_
            ·refine ra ?_
             cases h
             refine w9J ?_;have h:=congrArg some (hx3 _ rfl)
             exact rt
            ·refine rn ?_
             cases h
             exact w4s () (bm hsc)
       ·refine rn ?_
        cases h
        exact w4H () (bm hsc)
      ·try simp only[go_sem,fx]
       unfold w5W at h
       refine w5A hb ?_
       refine rn ?_
       refine w4m (body:=w4E n v55 a0) (kk:=w7u) (n:=n) (s0:=([],0))
        (fun(y5m:Nat) (s12:(List Bs)×Int)=>[(1,.ptr st.length 0 0 0),(2,.ptr (st.length+1) 0 0 0),(11,.sl false 5 80 (rows w3U.cells v55)),(18,.ref false (st.length+2) y5m 0 s12.1.length),(19,.int .i64 s12.2)])
        (fun(y5m:Nat) (s12:(List Bs)×Int)=>st++[some (.arr 0 7 0 [[.int .i64 a0.form.kind,.str a0.form.name,.sl false 1 16 (rows w3X a0.form.words),.sl false 4 72 (rows w3T.cells a0.form.subs),.sl false 1 16 (rows w3X a0.words),.sl false 1 16 (rows w3X a0.w4a),.sl false 1 16 (rows w3X a0.parts)]]),some (.arr 0 2 0 [[.int .i64 0,.int .i64 0]]),some (.arr y5m 1 16 (rows w3X s12.1))])
        (fun(z0J:Unit) (t12:Unit)=>[(2,.ptr (st.length+1) 0 0 0)])
        (fun(z0J:Unit) (t12:Unit)=>st++[none,some (.arr 0 2 0 [[.int .i64 0,.int .i64 0]])])
        0 h (bm hsc)
        (fun y5m s12 b12 h z7l=>?_) (fun z0J t12 fr1 st1 h hb=>?_)
       ·unfold w4E at h
        refine cd h (fun hc h=>?_) fun hc h=>?_
        ·obtain⟨fx,h⟩:=ck fx h
         refine cd h (fun hc h=>?_) fun hc h=>?_
         ·refine rs ?_
          refine dw [6] 0 ?_
          obtain⟨v195,hv195,h⟩:=w7w h
          refine x7e [(st.length+2)] (fun st2 h2=>(x7h (x4p n _ _ _ hv195 st2 _ y5m (by simp) ((h2 _ (by simp)).trans (x5S.trans rfl))))) (by simp) (by simp only[List.mem_cons,List.not_mem_nil,or_false,forall_eq_or_imp,forall_eq];exact⟨by first|omega|(simp<;>omega),_,(x5S.trans rfl),Ob.noConfusion⟩) (by simp) ?_
          try simp only[go_sem,fx]
          obtain⟨v196,hv196,h⟩:=w7w h
          refine x4T (fun hG=>(w8a (w4u n _ _ _ (x8s hv196 (by simpa using hG))))) ?_
          try simp only[go_sem,fx]
          try refine⟨by first|omega|(simp<;>omega),?_⟩
          refine cd h (fun hc h=>?_) fun hc h=>?_
          ·refine ra ?_
           cases h
           refine w9J ?_;have h:=congrArg some (z7l _ rfl)
           exact rt
          ·refine r0 ?_
           obtain⟨c198,z4H,h⟩:=x1k h
           have fy:=(show rows w3X s12.1++[[.str ((get v55 s12.2.toNat).name)]]=rows w3X c198 from by rw[z4H];first|exact w4k (E:=w3X) s12.1 [(get v55 s12.2.toNat).name]|simp only[go_sem,rows,List.map_append,List.map_cons,List.map_nil])
           have fy:=fa fy (show s12.1.length+1=c198.length from by rw[z4H];simp)
           obtain⟨fx,h⟩:=ck fx h
           refine r1 ?_
           refine rn ?_
           cases h
           exact w4s (y5m+1) (bm hsc)
         ·refine rn ?_
          cases h
          exact w4s y5m (bm hsc)
        ·refine rn ?_
         cases h
         exact w4H () (bm hsc)
       ·try simp only[go_sem,fx]
        unfold w7u at h
        refine w5A hb ?_
        exact rt
end Go.Proofs.YtdjnbjnlnjhllaaGreatDoor
