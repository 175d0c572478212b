import Derived.Test.YtdjnbjnlnjhllaaGreatDoorFIWalk0
set_option linter.unusedVariables false
set_option linter.unusedSimpArgs false
set_option maxHeartbeats 2000000
set_option maxRecDepth 100000
namespace Go.Proofs.YtdjnbjnlnjhllaaGreatDoor
open Go Go.Am
theorem x3T{l r:(List Bs)}(h:w5P l=some r):r.length=l.length:=by
 unfold w5P at h
 obtain⟨_,h⟩:=z2r h
 obtain rfl:=Option.some.inj h
 exact(x4B _ _).length_eq
set_option maxRecDepth 100000 in
theorem x4n(l0:(List Bs))(r:(List Bs))(h:w5P l0=some r):∀(st:St) (o0 q0:Nat) (hnd: [o0].Nodup) (w8Z:Am.look st o0=some (.arr q0 1 16 (rows w3X l0))),Am.Spec Tryz.prog gl 67 [.ref false o0 q0 0 l0.length] st (fun d st'=>d= .tup []∧st'=puts st [(o0,(.arr q0 1 16 (rows w3X r)))]):=by
 intro st o0 q0 hnd w8Z
 unfold w5P at h
 obtain⟨hl,h⟩:=z2r h
 obtain rfl:=Option.some.inj h
 rw[←y9r]
 exact y2l z1W (by kernel_rfl) w8Z hl
set_option maxRecDepth 100000 in
theorem x3j(l0:(List Bs))(r:(List Bs))(h:w7d l0=some r):∀(st:St) (o0 q0:Nat) (hnd: [o0].Nodup) (w8Z:Am.look st o0=some (.arr q0 1 16 (rows w3X l0))),Am.Spec Tryz.prog gl 68 [.ref false o0 q0 0 l0.length] st (fun d st'=>d= .ref false o0 q0 0 (Lib.compact l0).length∧st'=puts st [(o0,.arr q0 1 16 (rows w3X (cpt l0)))]):=by
 intro st o0 q0 hnd w8Z
 unfold w7d at h
 obtain⟨hl,h⟩:=z2r h
 exact x9v z1X (by kernel_rfl) w8Z hl
theorem x3M(n:Nat)(a0:w3T)(r:(List Bs))(h:w8X n a0=some r):Pure Tryz.prog gl 49 [.agg [.int .i64 a0.kind,.str a0.name,.sl false 1 16 (rows w3X a0.words),.sl false 4 72 (rows w3T.cells a0.subs)]] (.sl false 1 16 (rows w3X r)):=by
 intro st
 unfold w8X at h
 have fx:=trivial
 refine fb 13 [.tmp 2] [0,1,2,3,4] Tryz.func49 fun hsc=>?_
 refine r0 ?_
 refine r0 ?_
 refine r0 ?_
 refine r0 ?_
 (repeat apply sq_)
 refine w9I 1 16 ?_
 try simp only[List.append_assoc,List.cons_append,List.nil_append]
 refine w5A (F:=[(1,.ptr st.length 0 0 0),(3,.ptr (st.length+1) 0 0 0),(4,.ptr (st.length+2) 0 0 0)]) (T:=st++[some (.arr 0 4 0 [[.int .i64 a0.kind,.str a0.name,.sl false 1 16 (rows w3X a0.words),.sl false 4 72 (rows w3T.cells a0.subs)]]),some (.arr 0 1 0 [[.ref false (st.length+3) 0 0 0]]),some (.arr 0 1 0 [[.fn 66 [] [.ptr (st.length+1) 0 0 0,.ptr (st.length+2) 0 0 0]]]),some (.arr 0 1 16 (rows w3X []))]) (y1B hsc (.lv (.live _ _ _ _ (.arr _ _ _ _ _ (.cons _ _ _ _ (.cons _ _ _ _ (.nref _ _ _ _ _ _ (x6a.trans rfl)) .nil) (.same _))) (.lv (.lv (.nil _))))) (by simp) ⟨.s,.s,.s,trivial⟩ (by simp)) ?_
 refine rn ?_
 obtain⟨v1,hv1,h⟩:=w7w h
 refine((x6e n _ _ _ _ hv1 _ _ _ _ 0 (by simp) (x5S.trans rfl) (x5S.trans rfl) (x5S.trans rfl)).up (.cons _ _ _ _ .s (.cons _ _ _ _ (.w4g _ _ _ (by decide)) (.cons _ _ _ _ .s (.cons _ _ _ _ .s .nil)))) (by simp<;>omega)).mono ?_
 rintro d1 st1 ⟨g2,rfl,rfl⟩
 refine rn ?_
 obtain⟨v3,hv3,h⟩:=w7w h
 refine(x4n _ _ hv3 _ _ g2 (by simp) (x5S.trans rfl)).mono ?_
 rintro d1 st1 ⟨rfl,rfl⟩
 try simp only[go_sem,fx]
 have e4:D.ref false (st.length+3) g2 0 v1.length=D.ref false (st.length+3) g2 0 v3.length:=by rw[x3T hv3]
 try simp only[e4]
 refine rn ?_
 obtain⟨v5,hv5,h⟩:=w7w h
 refine(x3j _ _ hv5 _ _ g2 (by simp) (x5S.trans rfl)).mono ?_
 rintro d1 st1 ⟨rfl,rfl⟩
 refine rr ?_
 exact fo (.sl false 1 16 (rows w3X (Lib.compact v3))) (.ref _ _ _ _ _ _ _ _ _ (x6a.trans rfl) y4B (by decide) (x4L _) (y9p _).symm) h hsc
theorem x8u:∀(n:Nat) (a0:w3T) (a1:Bs) (r:Bool×Bool) (h:w7e n a0 a1=some r),Pure Tryz.prog gl 50 [.agg [.int .i64 a0.kind,.str a0.name,.sl false 1 16 (rows w3X a0.words),.sl false 4 72 (rows w3T.cells a0.subs)],.str a1] (.tup [.bool r.1,.bool r.2]):=by
 intro n
 induction n with
 |zero=>intro a0 a1 r h;cases h
 |succ n ih=>
  intro a0 a1 r h st
  unfold w7e at h
  have fx:=trivial
  refine fb 51 [.tmp 4,.tmp 5] [0,1,2,4,5,7,8,9,14,15,16,17,18,28,29,30,31,42,46] Tryz.func50 fun hsc=>?_
  refine rn ?_
  refine w9Q (w8Y (w7e n) a0 a1) r (fun(gj0:Unit) (j0:Bool×Bool)=>[(1,.str a1),(2,.ptr st.length 0 0 0),(4,.bool j0.1),(5,.bool j0.2)]) (fun(gj0:Unit) (j0:Bool×Bool)=>st++[some (.arr 0 4 0 [[.int .i64 a0.kind,.str a0.name,.sl false 1 16 (rows w3X a0.words),.sl false 4 72 (rows w3T.cells a0.subs)]])]) (fun gj0 j0 fr1 st1 h hb=>?_) (fun hj0=>?_)
  ·try simp only[go_sem,fx]
   unfold w8Y at h
   refine w5A hb ?_
   refine aln 28 fun hl1=>?_
   refine rng (body:=x1w (w7e n) a0 a1) (kk:=x1x) (n:=a0.subs.length) (s0:=(j0.1,j0.2))
    (fun(gs1:Unit) (k1:Nat) (s1:Bool×Bool)=>[(1,.str a1),(4,.bool s1.1),(5,.bool s1.2),(28,.sl false 4 72 (rows w3T.cells a0.subs)),(29,.int .i64 (↑a0.subs.length:Int)),(30,.int .i64 (↑k1:Int))])
    (fun(gs1:Unit) (k1:Nat) (s1:Bool×Bool)=>st)
    (fun(gt1:Unit) (t1:Bool×Bool)=>[(4,.bool t1.1),(5,.bool t1.2)])
    (fun(gt1:Unit) (t1:Bool×Bool)=>st)
    () fx hl1 h (bm0 hsc)
    (fun gs1 k1 s1 b1 fx h hx1=>?_) (fun gs1 s1=>?_) (fun gt1 t1 fr1 st1 h hb=>?_)
   ·unfold x1w at h
    refine ct ?_
    refine cl h (ih _ _) fun v2 h=>?_
    refine rn ?_
    cases h
    exact x2D () (bm0 hsc)
   ·refine cf ?_
    refine x2J ?_;simp only[go_sem,fx]
    exact⟨(),(x4b hsc)⟩
   ·try simp only[go_sem,fx]
    unfold x1x at h
    refine w5A hb ?_
    exact rt
  ·refine cd h (fun hc h=>?_) fun hc h=>?_
   ·refine rs ?_
    refine dw [] 0 ?_
    refine hj0 () _ _ _ h ?_;exact(bm hsc)
   ·refine r0 ?_
    refine hj0 () _ _ _ h ?_;exact(bm hsc)
theorem w8u:∀(n:Nat) (a0:w3T) (r:(List Bs)) (h:w4o n a0=some r),Pure Tryz.prog gl 36 [.agg [.int .i64 a0.kind,.str a0.name,.sl false 1 16 (rows w3X a0.words),.sl false 4 72 (rows w3T.cells a0.subs)]] (.sl false 1 16 (rows w3X r)):=by
 intro n
 induction n with
 |zero=>intro a0 r h;cases h
 |succ n ih=>
  intro a0 r h st
  unfold w4o at h
  have fx:=trivial
  refine fb 26 [.tmp 2] [0,1,2,3,5,7,14,15,16,17] Tryz.func36 fun hsc=>?_
  refine cl h (w5L _) fun v1 h=>?_
  try simp only[go_sem,fx]
  (repeat apply sq_)
  refine w9I 1 16 ?_
  try simp only[List.append_assoc,List.cons_append,List.nil_append]
  refine w5A (F:=[(1,.ptr st.length 0 0 0),(3,.ref false (st.length+1) 0 0 0),(7,.bool v1)]) (T:=st++[some (.arr 0 4 0 [[.int .i64 a0.kind,.str a0.name,.sl false 1 16 (rows w3X a0.words),.sl false 4 72 (rows w3T.cells a0.subs)]]),some (.arr 0 1 16 (rows w3X []))]) (y1B hsc (.lv (.lv (.nil _))) (by simp) ⟨.s,.nref _ _ _ _ _ _ (x6a.trans rfl),.s,trivial⟩ (by simp)) ?_
  (repeat apply sq_)
  refine w9Q (w5D (w4o n) a0) r (fun(gj0:Nat) (j0:(List Bs))=>[(1,.ptr st.length 0 0 0),(3,.ref false (st.length+1) gj0 0 j0.length)]) (fun(gj0:Nat) (j0:(List Bs))=>st++[some (.arr 0 4 0 [[.int .i64 a0.kind,.str a0.name,.sl false 1 16 (rows w3X a0.words),.sl false 4 72 (rows w3T.cells a0.subs)]]),some (.arr gj0 1 16 (rows w3X j0))]) (fun gj0 j0 fr1 st1 h hb=>?_) (fun hj0=>?_)
  ·try simp only[go_sem,fx]
   unfold w5D at h
   refine w5A hb ?_
   refine aln 14 fun hl1=>?_
   refine rng (body:=w8h (w4o n) a0) (kk:=w8i) (n:=a0.subs.length) (s0:=j0)
    (fun(gs1:Nat) (k1:Nat) (s1:(List Bs))=>[(3,.ref false (st.length+1) gs1 0 s1.length),(14,.sl false 4 72 (rows w3T.cells a0.subs)),(15,.int .i64 (↑a0.subs.length:Int)),(16,.int .i64 (↑k1:Int))])
    (fun(gs1:Nat) (k1:Nat) (s1:(List Bs))=>st++[none,some (.arr gs1 1 16 (rows w3X s1))])
    (fun(gt1:Nat) (t1:(List Bs))=>[(3,.ref false (st.length+1) gt1 0 t1.length)])
    (fun(gt1:Nat) (t1:(List Bs))=>st++[none,some (.arr gt1 1 16 (rows w3X t1))])
    gj0 fx hl1 h (bm hsc)
    (fun gs1 k1 s1 b1 fx h hx1=>?_) (fun gs1 s1=>?_) (fun gt1 t1 fr1 st1 h hb=>?_)
   ·unfold w8h at h
    refine ct ?_
    refine r0 ?_
    refine r0 ?_
    refine r0 ?_
    refine cl h (ih _) fun v14 h=>?_
    obtain⟨c15,z4t,h⟩:=x1k h
    have fy:=(show rows w3X s1++rows w3X v14=rows w3X c15 from by rw[z4t];first|exact w4k (E:=w3X) s1 v14|simp only[go_sem,rows,List.map_append,List.map_cons,List.map_nil])
    have fy:=fa fy (show s1.length+v14.length=c15.length from by rw[z4t];simp)
    obtain⟨fx,h⟩:=ck fx h
    try simp only[go_sem,fx,fy]
    refine rn ?_
    cases h
    exact x2D (gs1+1) (bm hsc)
   ·refine cf ?_
    refine x2J ?_;simp only[go_sem,fx]
    exact⟨gs1,(bm hsc)⟩
   ·try simp only[go_sem,fx]
    unfold w8i at h
    refine w5A hb ?_
    refine rr ?_
    exact fo (.sl false 1 16 (rows w3X t1)) (.ref _ _ _ _ _ _ _ _ _ (x6a.trans rfl) y4B (by decide) (x4L _) (by simp only[go_sem])) h hsc
  ·refine cd h (fun hc h=>?_) fun hc h=>?_
   ·obtain⟨c3,hc3,h⟩:=x1k h
    obtain⟨fx,h⟩:=ck fx h
    refine r0 ?_
    have e6:D.ref false (st.length+1) 1 0 1=D.ref false (st.length+1) 1 0 c3.length:=by simp[hc3]
    have e7: [[.str a0.name]]=rows w3X c3:=by rw[hc3];first|rfl|simp only[go_sem,rows,List.nil_append,List.map_append,List.map_cons,List.map_nil]
    try simp only[e6,e7]
    refine hj0 1 _ _ _ h ?_;exact(bm hsc)
   ·refine r0 ?_
    refine hj0 0 _ _ _ h ?_;exact(bm hsc)
theorem x1i(n:Nat)(a0:w3W)(r:w4b)(h:w6V n a0=some r):Pure Tryz.prog gl 24 [.agg [.int .i64 a0.form.kind,.str a0.form.name,.sl false 1 16 (rows w3X a0.form.words),.sl false 4 72 (rows w3T.cells a0.form.subs),.sl false 1 16 (rows w3X a0.words),.sl false 1 16 (rows w3X a0.w4a),.sl false 1 16 (rows w3X a0.parts)]] (.agg [.int .i64 r.code,.int .i64 r.index]):=by
 intro st
 unfold w6V at h
 have fx:=trivial
 refine fb 119 [.cell 2 31] [0,1,2,3,4,5,6,7,8,9,10,11,12,18,24,29,30,31,32,38,45,55,64,67,80,81,82,85,89,98,99,100,101,111,112,113,114,115] Tryz.func24 fun hsc=>?_
 refine cl h (x0w n _) fun v1 h=>?_
 refine cd h (fun hc h=>?_) fun hc h=>?_
 ·exact rt
 ·refine cl h (x0N _) fun v2 h=>?_
  refine cd h (fun hc h=>?_) fun hc h=>?_
  ·refine cl h (w4A _ _) fun v3 h=>?_
   exact rt
  ·refine cl h (x3M n _) fun v4 h=>?_
   refine aln 4 fun hl0=>?_
   refine rng (body:=w9C n v2 a0 v4) (kk:=w9D n a0) (n:=v2.length) (s0:=())
    (fun(gs0:Unit) (k0:Nat) (s0:Unit)=>[(1,.ptr st.length 0 0 0),(2,.ptr (st.length+1) 0 0 0),(4,.sl false 1 16 (rows w3X v2)),(5,.sl false 1 16 (rows w3X v4)),(29,.sl false 1 16 (rows w3X v2)),(30,.int .i64 (↑v2.length:Int)),(31,.int .i64 (↑k0:Int))])
    (fun(gs0:Unit) (k0:Nat) (s0:Unit)=>st++[some (.arr 0 7 0 [[.int .i64 a0.form.kind,.str a0.form.name,.sl false 1 16 (rows w3X a0.form.words),.sl false 4 72 (rows w3T.cells a0.form.subs),.sl false 1 16 (rows w3X a0.words),.sl false 1 16 (rows w3X a0.w4a),.sl false 1 16 (rows w3X a0.parts)]]),some (.arr 0 2 0 [[.int .i64 0,.int .i64 0]])])
    (fun(gt0:Unit) (t0:Unit)=>[(1,.ptr st.length 0 0 0),(2,.ptr (st.length+1) 0 0 0)])
    (fun(gt0:Unit) (t0:Unit)=>st++[some (.arr 0 7 0 [[.int .i64 a0.form.kind,.str a0.form.name,.sl false 1 16 (rows w3X a0.form.words),.sl false 4 72 (rows w3T.cells a0.form.subs),.sl false 1 16 (rows w3X a0.words),.sl false 1 16 (rows w3X a0.w4a),.sl false 1 16 (rows w3X a0.parts)]]),some (.arr 0 2 0 [[.int .i64 0,.int .i64 0]])])
    () fx hl0 h (bm hsc)
    (fun gs0 k0 s0 b0 fx h hx0=>?_) (fun gs0 s0=>?_) (fun gt0 t0 fr1 st1 h hb=>?_)
   ·unfold w9C at h
    refine ct ?_
    refine cl h (x5d _) fun v17 h=>?_
    refine cd h (fun hc h=>?_) fun hc h=>?_
    ·refine cl h (w4A _ _) fun v18 h=>?_
     refine ra ?_
     cases h
     refine w8C ?_;have h:=congrArg some (hx0 _ rfl)
     exact rt
    ·obtain⟨fx,h⟩:=ck fx h
     refine cl h (w4e _ _) fun v21 h=>?_
     refine cd h (fun hc h=>?_) fun hc h=>?_
     ·refine cl h (w4A _ _) fun v22 h=>?_
      refine ra ?_
      cases h
      refine w8C ?_;have h:=congrArg some (hx0 _ rfl)
      exact rt
     ·refine cl h (x8u n _ _) fun v23 h=>?_
      refine cd h (fun hc h=>?_) fun hc h=>?_
      ·refine cl h (w4e _ _) fun v24 h=>?_
       refine cd h (fun hc h=>?_) fun hc h=>?_
       ·refine cl h (w4A _ _) fun v25 h=>?_
        refine ra ?_
        cases h
        refine w8C ?_;have h:=congrArg some (hx0 _ rfl)
        exact rt
       ·refine rn ?_
        cases h
        exact x2D () (bm hsc)
      ·refine cd h (fun hc h=>?_) fun hc h=>?_
       ·refine cd h (fun hc h=>?_) fun hc h=>?_
        ·refine cl h (w4A _ _) fun v26 h=>?_
         refine ra ?_
         cases h
         refine w8C ?_;have h:=congrArg some (hx0 _ rfl)
         exact rt
        ·refine rn ?_
         cases h
         exact x2D () (bm hsc)
       ·refine cd h (fun hc h=>?_) fun hc h=>?_
        ·refine cl h (w4A _ _) fun v27 h=>?_
         refine ra ?_
         cases h
         refine w8C ?_;have h:=congrArg some (hx0 _ rfl)
         exact rt
        ·refine cd h (fun hc h=>?_) fun hc h=>?_
         ·refine cl h (w4A _ _) fun v28 h=>?_
          refine ra ?_
          cases h
          refine w8C ?_;have h:=congrArg some (hx0 _ rfl)
          exact rt
         ·refine rn ?_
          cases h
          exact x2D () (bm hsc)
   ·refine cf ?_
    refine x2J ?_;simp only[go_sem,fx]
    exact⟨(),(bm hsc)⟩
   ·try simp only[go_sem,fx]
    unfold w9D at h
    refine w5A hb ?_
    refine cl h (w8u n _) fun v29 h=>?_
    refine aln 10 fun hl1=>?_
    refine rng (body:=w9E v29 a0) (kk:=w9F) (n:=v29.length) (s0:=())
     (fun(gs1:Unit) (k1:Nat) (s1:Unit)=>[(1,.ptr st.length 0 0 0),(2,.ptr (st.length+1) 0 0 0),(10,.sl false 1 16 (rows w3X v29)),(98,.sl false 1 16 (rows w3X v29)),(99,.int .i64 (↑v29.length:Int)),(100,.int .i64 (↑k1:Int))])
     (fun(gs1:Unit) (k1:Nat) (s1:Unit)=>st++[some (.arr 0 7 0 [[.int .i64 a0.form.kind,.str a0.form.name,.sl false 1 16 (rows w3X a0.form.words),.sl false 4 72 (rows w3T.cells a0.form.subs),.sl false 1 16 (rows w3X a0.words),.sl false 1 16 (rows w3X a0.w4a),.sl false 1 16 (rows w3X a0.parts)]]),some (.arr 0 2 0 [[.int .i64 0,.int .i64 0]])])
     (fun(gt1:Unit) (t1:Unit)=>[(2,.ptr (st.length+1) 0 0 0)])
     (fun(gt1:Unit) (t1:Unit)=>st++[none,some (.arr 0 2 0 [[.int .i64 0,.int .i64 0]])])
     () fx hl1 h (bm hsc)
     (fun gs1 k1 s1 b1 fx h hx1=>?_) (fun gs1 s1=>?_) (fun gt1 t1 fr1 st1 h hb=>?_)
    ·unfold w9E at h
     refine ct ?_
     obtain⟨fx,h⟩:=ck fx h
     refine cl h (w4e _ _) fun v37 h=>?_
     refine rn ?_
     obtain⟨v38,hv38,h⟩:=w7w h
     refine x0C (fun hG=>(w4e _ _ _ (x8s hv38 (by simpa using hG)))) ?_
     refine cd h (fun hc h=>?_) fun hc h=>?_
     ·refine cl h (w4A _ _) fun v39 h=>?_
      refine ra ?_
      cases h
      refine w8C ?_;have h:=congrArg some (hx1 _ rfl)
      exact rt
     ·refine rn ?_
      cases h
      exact x2D () (bm hsc)
    ·refine cf ?_
     refine x2J ?_;simp only[go_sem,fx]
     exact⟨(),(bm hsc)⟩
    ·try simp only[go_sem,fx]
     unfold w9F at h
     refine w5A hb ?_
     exact rt
theorem x8v(n:Nat)(w4B:Int)(w5n:(List Bs))(r:Bs×Int)(h:x1Y n w4B w5n=some r):∀(st:St) (o0 o1:Nat) (hnd: [o0,o1].Nodup) (w8Z:Am.look st o0=some (.arr 0 1 0 [[.int .i64 w4B]])) (x6d:Am.look st o1=some (.arr 0 1 0 [[.sl false 1 16 (rows w3X w5n)]])),Am.Spec Tryz.prog gl 76 [.ptr o0 0 0 0,.ptr o1 0 0 0] st (fun d st'=>d= .str r.1∧st'=puts st [(o0,(.arr 0 1 0 [[.int .i64 r.2]])),(o1,(.arr 0 1 0 [[.sl false 1 16 (rows w3X w5n)]]))]):=by
 intro st o0 o1 hnd w8Z x6d
 unfold x1Y at h
 have ho0:=w5a w8Z
 have ho1:=w5a x6d
 have fx:=fa (fa (idf ho0) (idf ho1)) (nd2 hnd)
 refine fb 14 [.tmp 2] [0,1,2,3,12] Tryz.func76 fun hsc=>?_
 refine x1L (s':=(w4O st [(o0,(.arr 0 1 0 [[.int .i64 w4B]])),(o1,(.arr 0 1 0 [[.sl false 1 16 (rows w3X w5n)]]))])) (w4w (by simp[w8Z,x6d])) ?_
 refine rn ?_
 refine w4m (body:=x0h w5n) (kk:=x2R) (n:=n) (s0:=w4B)
  (fun(gs0:Unit) (s0:Int)=>[(0,.ptr o0 0 0 0),(1,.ptr o1 0 0 0)])
  (fun(gs0:Unit) (s0:Int)=>(w4O st [(o0,(.arr 0 1 0 [[.int .i64 s0]])),(o1,(.arr 0 1 0 [[.sl false 1 16 (rows w3X w5n)]]))]))
  (fun(gt0:Unit) (t0:Unit)=>[])
  (fun(gt0:Unit) (t0:Unit)=>(w4O st [(o0,(.arr 0 1 0 [[.int .i64 w4B]])),(o1,(.arr 0 1 0 [[.sl false 1 16 (rows w3X w5n)]]))]))
  () h (y1c hsc)
  (fun gs0 s0 b0 h hx0=>?_) (fun gt0 t0 fr1 st1 h hb=>?_)
 ·unfold x0h at h
  refine cl h (z2a _) fun v4 h=>?_
  obtain⟨fx,h⟩:=ck fx h
  refine cl h (w4e _ _) fun v6 h=>?_
  refine cd h (fun hc h=>?_) fun hc h=>?_
  ·refine ra ?_
   cases h
   refine w9J ?_;have h:=congrArg some (hx0 _ rfl)
   refine rr ?_
   exact fus (.str (x5Z [118] v4)) (.same _) h hsc
  ·refine rn ?_
   cases h
   exact w4s () (y1c hsc)
 ·try simp only[go_sem,fx]
  unfold x2R at h
  cases h
theorem x7Z:∀(n:Nat) (a0:w3T) (a1:(List w4d)) (w4B:Int) (w5n:(List Bs)) (r:w3T×Int) (h:w6r n a0 a1 w4B w5n=some r),∀(st:St) (o0 o1:Nat) (hnd: [o0,o1].Nodup) (w8Z:Am.look st o0=some (.arr 0 1 0 [[.int .i64 w4B]])) (x6d:Am.look st o1=some (.arr 0 1 0 [[.sl false 1 16 (rows w3X w5n)]])),Am.Spec Tryz.prog gl 78 [.agg [.int .i64 a0.kind,.str a0.name,.sl false 1 16 (rows w3X a0.words),.sl false 4 72 (rows w3T.cells a0.subs)],.sl false 2 32 (rows w4d.cells a1),.fn 76 [] [.ptr o0 0 0 0,.ptr o1 0 0 0]] st (fun d st'=>d= .agg [.int .i64 r.1.kind,.str r.1.name,.sl false 1 16 (rows w3X r.1.words),.sl false 4 72 (rows w3T.cells r.1.subs)]∧st'=puts st [(o0,(.arr 0 1 0 [[.int .i64 r.2]])),(o1,(.arr 0 1 0 [[.sl false 1 16 (rows w3X w5n)]]))]):=by
 intro n
 induction n with
 |zero=>intro a0 a1 w4B w5n r h;cases h
 |succ n ih=>
  intro a0 a1 w4B w5n r h st o0 o1 hnd w8Z x6d
  unfold w6r at h
  have ho0:=w5a w8Z
  have ho1:=w5a x6d
  have fx:=fa (fa (idf ho0) (idf ho1)) (nd2 hnd)
  refine fb 87 [.cell 6 25] [0,1,2,3,6,7,9,10,12,19,20,21,22,29,38,52,70,71,72,73] Tryz.func78 fun hsc=>?_
  refine x1L (s':=(w4O st [(o0,(.arr 0 1 0 [[.int .i64 w4B]])),(o1,(.arr 0 1 0 [[.sl false 1 16 (rows w3X w5n)]]))])) (w4w (by simp[w8Z,x6d])) ?_
  refine r0 ?_
  refine r0 ?_
  refine r0 ?_
  (repeat apply sq_)
  refine w9I 1 16 ?_
  try simp only[List.append_assoc,List.cons_append,List.nil_append]
  refine w5A (F:=[(1,.sl false 2 32 (rows w4d.cells a1)),(2,.fn 76 [] [.ptr o0 0 0 0,.ptr o1 0 0 0]),(3,.ptr st.length 0 0 0),(6,.ptr (st.length+1) 0 0 0),(7,.ptr (st.length+2) 0 0 0),(19,.sl false 1 16 (rows w3X a0.words)),(20,.int .i64 (↑a0.words.length:Int)),(21,.int .i64 0)]) (T:=(w4O st [(o0,(.arr 0 1 0 [[.int .i64 w4B]])),(o1,(.arr 0 1 0 [[.sl false 1 16 (rows w3X w5n)]]))])++[some (.arr 0 4 0 [[.int .i64 a0.kind,.str a0.name,.sl false 1 16 (rows w3X a0.words),.sl false 4 72 (rows w3T.cells a0.subs)]]),some (.arr 0 4 0 [[.int .i64 0,.str [],.w4g,.w4g]]),some (.arr 0 4 0 [[.int .i64 a0.kind,.str a0.name,.ref false (st.length+3) 0 0 0,.w4g]]),some (.arr 0 1 16 (rows w3X []))]) (x2E (by simp) (w8D hsc (by simp<;>omega)) (.lv (.lv (.live _ _ _ _ (.arr _ _ _ _ _ (.cons _ _ _ _ (.cons _ _ _ _ .s (.cons _ _ _ _ .s (.cons _ _ _ _ (.nref _ _ _ _ _ _ (w4P.trans rfl)) (.cons _ _ _ _ .s .nil)))) (.same _))) (.lv (.nil _))))) (by simp<;>omega) ⟨.s,.s,.s,.s,.s,.s,.s,.s,trivial⟩ (by simp<;>omega)) ?_
  refine aln 19 fun hl0=>?_
  refine rng (body:=x0R n a1 a0) (kk:=x0V (w6r n) n a0 w4B w5n a1) (n:=a0.words.length) (s0:=[])
   (fun(gs0:Nat) (k0:Nat) (s0:(List Bs))=>[(1,.sl false 2 32 (rows w4d.cells a1)),(2,.fn 76 [] [.ptr o0 0 0 0,.ptr o1 0 0 0]),(3,.ptr st.length 0 0 0),(6,.ptr (st.length+1) 0 0 0),(7,.ptr (st.length+2) 0 0 0),(19,.sl false 1 16 (rows w3X a0.words)),(20,.int .i64 (↑a0.words.length:Int)),(21,.int .i64 (↑k0:Int))])
   (fun(gs0:Nat) (k0:Nat) (s0:(List Bs))=>(w4O st [(o0,(.arr 0 1 0 [[.int .i64 w4B]])),(o1,(.arr 0 1 0 [[.sl false 1 16 (rows w3X w5n)]]))])++[some (.arr 0 4 0 [[.int .i64 a0.kind,.str a0.name,.sl false 1 16 (rows w3X a0.words),.sl false 4 72 (rows w3T.cells a0.subs)]]),some (.arr 0 4 0 [[.int .i64 0,.str [],.w4g,.w4g]]),some (.arr 0 4 0 [[.int .i64 a0.kind,.str a0.name,.ref false (st.length+3) gs0 0 s0.length,.w4g]]),some (.arr gs0 1 16 (rows w3X s0))])
   (fun(gt0:Nat) (t0:(List Bs))=>[(1,.sl false 2 32 (rows w4d.cells a1)),(2,.fn 76 [] [.ptr o0 0 0 0,.ptr o1 0 0 0]),(3,.ptr st.length 0 0 0),(6,.ptr (st.length+1) 0 0 0),(7,.ptr (st.length+2) 0 0 0)])
   (fun(gt0:Nat) (t0:(List Bs))=>(w4O st [(o0,(.arr 0 1 0 [[.int .i64 w4B]])),(o1,(.arr 0 1 0 [[.sl false 1 16 (rows w3X w5n)]]))])++[some (.arr 0 4 0 [[.int .i64 a0.kind,.str a0.name,.sl false 1 16 (rows w3X a0.words),.sl false 4 72 (rows w3T.cells a0.subs)]]),some (.arr 0 4 0 [[.int .i64 0,.str [],.w4g,.w4g]]),some (.arr 0 4 0 [[.int .i64 a0.kind,.str a0.name,.ref false (st.length+3) gt0 0 t0.length,.w4g]]),some (.arr gt0 1 16 (rows w3X t0))])
   0 fx hl0 h (bu hsc)
   (fun gs0 k0 s0 b0 fx h hx0=>?_) (fun gs0 s0=>?_) (fun gt0 t0 fr1 st1 h hb=>?_)
  ·unfold x0R at h
   refine ct ?_
   refine rn ?_
   refine w4m (body:=w9M a1 a0 k0) (kk:=x0S s0) (n:=n) (s0:=(wr .i64 ((↑a1.length:Int)-1)))
    (fun(gs2:Unit) (s2:Int)=>[(1,.sl false 2 32 (rows w4d.cells a1)),(2,.fn 76 [] [.ptr o0 0 0 0,.ptr o1 0 0 0]),(3,.ptr st.length 0 0 0),(6,.ptr (st.length+1) 0 0 0),(7,.ptr (st.length+2) 0 0 0),(9,.str (get a0.words k0)),(10,.int .i64 s2),(19,.sl false 1 16 (rows w3X a0.words)),(20,.int .i64 (↑a0.words.length:Int)),(21,.int .i64 (↑k0:Int))])
    (fun(gs2:Unit) (s2:Int)=>(w4O st [(o0,(.arr 0 1 0 [[.int .i64 w4B]])),(o1,(.arr 0 1 0 [[.sl false 1 16 (rows w3X w5n)]]))])++[some (.arr 0 4 0 [[.int .i64 a0.kind,.str a0.name,.sl false 1 16 (rows w3X a0.words),.sl false 4 72 (rows w3T.cells a0.subs)]]),some (.arr 0 4 0 [[.int .i64 0,.str [],.w4g,.w4g]]),some (.arr 0 4 0 [[.int .i64 a0.kind,.str a0.name,.ref false (st.length+3) gs0 0 s0.length,.w4g]]),some (.arr gs0 1 16 (rows w3X s0))])
    (fun(gt2:Unit) (t2:Bs)=>[(1,.sl false 2 32 (rows w4d.cells a1)),(2,.fn 76 [] [.ptr o0 0 0 0,.ptr o1 0 0 0]),(3,.ptr st.length 0 0 0),(6,.ptr (st.length+1) 0 0 0),(7,.ptr (st.length+2) 0 0 0),(9,.str t2),(19,.sl false 1 16 (rows w3X a0.words)),(20,.int .i64 (↑a0.words.length:Int)),(21,.int .i64 (↑k0:Int))])
    (fun(gt2:Unit) (t2:Bs)=>(w4O st [(o0,(.arr 0 1 0 [[.int .i64 w4B]])),(o1,(.arr 0 1 0 [[.sl false 1 16 (rows w3X w5n)]]))])++[some (.arr 0 4 0 [[.int .i64 a0.kind,.str a0.name,.sl false 1 16 (rows w3X a0.words),.sl false 4 72 (rows w3T.cells a0.subs)]]),some (.arr 0 4 0 [[.int .i64 0,.str [],.w4g,.w4g]]),some (.arr 0 4 0 [[.int .i64 a0.kind,.str a0.name,.ref false (st.length+3) gs0 0 s0.length,.w4g]]),some (.arr gs0 1 16 (rows w3X s0))])
    () h (bu hsc)
    (fun gs2 s2 b2 h hx2=>?_) (fun gt2 t2 fr1 st1 h hb=>?_)
   ·unfold w9M at h
    refine cd h (fun hc h=>?_) fun hc h=>?_
    ·obtain⟨fx,h⟩:=ck fx h
     refine cd h (fun hc h=>?_) fun hc h=>?_
     ·refine rn ?_
      cases h
      exact w4H () (bu hsc)
     ·refine rn ?_
      cases h
      exact w4s () (bu hsc)
    ·refine rn ?_
     cases h
     exact w4H () (bu hsc)
   ·try simp only[go_sem,fx]
    unfold x0S at h
    refine w5A hb ?_
    obtain⟨c16,z7f,h⟩:=x1k h
    have fy:=(show rows w3X s0++[[.str t2]]=rows w3X c16 from by rw[z7f];first|exact w4k (E:=w3X) s0 [t2]|simp only[go_sem,rows,List.map_append,List.map_cons,List.map_nil])
    have fy:=fa fy (show s0.length+1=c16.length from by rw[z7f];simp)
    obtain⟨fx,h⟩:=ck fx h
    refine r1 ?_
    refine rn ?_
    cases h
    exact x2D (gs0+1) (bu hsc)
  ·refine cf ?_
   refine x2J ?_;simp only[go_sem,fx]
   exact⟨gs0,(bu hsc)⟩
  ·try simp only[go_sem,fx]
   unfold x0V at h
   refine w5A hb ?_
   refine cl h (w5L _) fun v21 h=>?_
   refine rn ?_
   refine w9Q (w8y (w6r n) a0 w5n t0) r (fun(gj3:Unit) (j3:Int×Bs×(List w4d))=>[(1,.sl false 2 32 (rows w4d.cells j3.2.2)),(2,.fn 76 [] [.ptr o0 0 0 0,.ptr o1 0 0 0]),(3,.ptr st.length 0 0 0),(6,.ptr (st.length+1) 0 0 0),(7,.ptr (st.length+2) 0 0 0)]) (fun(gj3:Unit) (j3:Int×Bs×(List w4d))=>(w4O st [(o0,(.arr 0 1 0 [[.int .i64 j3.1]])),(o1,(.arr 0 1 0 [[.sl false 1 16 (rows w3X w5n)]]))])++[some (.arr 0 4 0 [[.int .i64 a0.kind,.str a0.name,.sl false 1 16 (rows w3X a0.words),.sl false 4 72 (rows w3T.cells a0.subs)]]),some (.arr 0 4 0 [[.int .i64 0,.str [],.w4g,.w4g]]),some (.arr 0 4 0 [[.int .i64 a0.kind,.str j3.2.1,.ref false (st.length+3) gt0 0 t0.length,.w4g]]),some (.arr gt0 1 16 (rows w3X t0))]) (fun gj3 j3 fr1 st1 h hb=>?_) (fun hj3=>?_)
   ·try simp only[go_sem,fx]
    unfold w8y at h
    refine w5A hb ?_
    refine r0 ?_
    (repeat apply sq_)
    refine w9I 4 72 ?_
    try simp only[List.append_assoc,List.cons_append,List.nil_append]
    refine w5A (F:=[(1,.sl false 2 32 (rows w4d.cells j3.2.2)),(2,.fn 76 [] [.ptr o0 0 0 0,.ptr o1 0 0 0]),(6,.ptr (st.length+1) 0 0 0),(7,.ptr (st.length+2) 0 0 0),(70,.sl false 4 72 (rows w3T.cells a0.subs)),(71,.int .i64 (↑a0.subs.length:Int)),(72,.int .i64 0)]) (T:=(w4O st [(o0,(.arr 0 1 0 [[.int .i64 j3.1]])),(o1,(.arr 0 1 0 [[.sl false 1 16 (rows w3X w5n)]]))])++[some (.arr 0 4 0 [[.int .i64 a0.kind,.str a0.name,.sl false 1 16 (rows w3X a0.words),.sl false 4 72 (rows w3T.cells a0.subs)]]),some (.arr 0 4 0 [[.int .i64 0,.str [],.w4g,.w4g]]),some (.arr 0 4 0 [[.int .i64 a0.kind,.str j3.2.1,.ref false (st.length+3) gt0 0 t0.length,.ref false (st.length+4) 0 0 0]]),some (.arr gt0 1 16 (rows w3X t0)),some (.arr 0 4 72 (rows w3T.cells []))]) (x2E (by simp) (w8D hsc (by simp<;>omega)) (.lv (.lv (.live _ _ _ _ (.arr _ _ _ _ _ (.cons _ _ _ _ (.cons _ _ _ _ .s (.cons _ _ _ _ .s (.cons _ _ _ _ .s (.cons _ _ _ _ (.nref _ _ _ _ _ _ (w4P.trans rfl)) .nil)))) (.same _))) (.lv (.lv (.nil _)))))) (by simp<;>omega) ⟨.s,.s,.s,.s,.s,.s,.s,trivial⟩ (by simp<;>omega)) ?_
    refine aln 70 fun hl4=>?_
    refine rng (body:=x0T (w6r n) a0 j3 w5n) (kk:=x0U a0 j3 t0) (n:=a0.subs.length) (s0:=(j3.1,[]))
     (fun(gs4:Nat) (k4:Nat) (s4:Int×(List w3T))=>[(1,.sl false 2 32 (rows w4d.cells j3.2.2)),(2,.fn 76 [] [.ptr o0 0 0 0,.ptr o1 0 0 0]),(6,.ptr (st.length+1) 0 0 0),(7,.ptr (st.length+2) 0 0 0),(70,.sl false 4 72 (rows w3T.cells a0.subs)),(71,.int .i64 (↑a0.subs.length:Int)),(72,.int .i64 (↑k4:Int))])
     (fun(gs4:Nat) (k4:Nat) (s4:Int×(List w3T))=>(w4O st [(o0,(.arr 0 1 0 [[.int .i64 s4.1]])),(o1,(.arr 0 1 0 [[.sl false 1 16 (rows w3X w5n)]]))])++[none,some (.arr 0 4 0 [[.int .i64 0,.str [],.w4g,.w4g]]),some (.arr 0 4 0 [[.int .i64 a0.kind,.str j3.2.1,.ref false (st.length+3) gt0 0 t0.length,.ref false (st.length+4) gs4 0 s4.2.length]]),some (.arr gt0 1 16 (rows w3X t0)),some (.arr gs4 4 72 (rows w3T.cells s4.2))])
     (fun(gt4:Nat) (t4:Int×(List w3T))=>[(6,.ptr (st.length+1) 0 0 0),(7,.ptr (st.length+2) 0 0 0)])
     (fun(gt4:Nat) (t4:Int×(List w3T))=>(w4O st [(o0,(.arr 0 1 0 [[.int .i64 t4.1]])),(o1,(.arr 0 1 0 [[.sl false 1 16 (rows w3X w5n)]]))])++[none,some (.arr 0 4 0 [[.int .i64 0,.str [],.w4g,.w4g]]),some (.arr 0 4 0 [[.int .i64 a0.kind,.str j3.2.1,.ref false (st.length+3) gt0 0 t0.length,.ref false (st.length+4) gt4 0 t4.2.length]]),some (.arr gt0 1 16 (rows w3X t0)),some (.arr gt4 4 72 (rows w3T.cells t4.2))])
     0 fx hl4 h (bu hsc)
     (fun gs4 k4 s4 b4 fx h hx4=>?_) (fun gs4 s4=>?_) (fun gt4 t4 fr1 st1 h hb=>?_)
    ·unfold x0T at h
     refine ct ?_
     refine rn ?_
     refine dw [1,5] 2 ?_
     obtain⟨v38,hv38,h⟩:=w7w h
     refine x7e [o0,o1] (fun st2 h2=>(ih _ _ _ _ _ hv38 st2 _ _ hnd ((h2 _ (by simp)).trans (by simp only[go_sem,fx])) ((h2 _ (by simp)).trans (by simp only[go_sem,fx])))) (by simp) (by simp only[List.mem_cons,List.not_mem_nil,or_false,forall_eq_or_imp,forall_eq];exact⟨⟨by first|omega|(simp<;>omega),_,(by simp only[go_sem,fx]<;>rfl),Ob.noConfusion⟩,⟨by first|omega|(simp<;>omega),_,(by simp only[go_sem,fx]<;>rfl),Ob.noConfusion⟩⟩) (by simp) ?_
     obtain⟨c40,z0H,h⟩:=x1k h
     have fy:=(show rows w3T.cells s4.2++[[.int .i64 v38.1.kind,.str v38.1.name,.sl false 1 16 (rows w3X v38.1.words),.sl false 4 72 (rows w3T.cells v38.1.subs)]]=rows w3T.cells c40 from by rw[z0H];first|exact w4k (E:=w3T.cells) s4.2 [v38.1]|simp only[go_sem,rows,List.map_append,List.map_cons,List.map_nil])
     have fy:=fa fy (show s4.2.length+1=c40.length from by rw[z0H];simp)
     obtain⟨fx,h⟩:=ck fx h
     try simp only[go_sem,fx,fy]
     try refine⟨by first|omega|(simp<;>omega),?_⟩
     refine rn ?_
     cases h
     exact x2D (gs4+1) (bu hsc)
    ·refine cf ?_
     refine x2J ?_;simp only[go_sem,fx]
     exact⟨gs4,(bu hsc)⟩
    ·try simp only[go_sem,fx]
     unfold x0U at h
     refine w5A hb ?_
     refine rr ?_
     exact fuo (.agg [.int .i64 a0.kind,.str j3.2.1,.sl false 1 16 (rows w3X t0),.sl false 4 72 (rows w3T.cells t4.2)]) (.agg _ _ (.cons _ _ _ _ .s (.cons _ _ _ _ .s (.cons _ _ _ _ (.ref _ _ _ _ _ _ _ _ _ (w4P.trans rfl) x2F (by decide) (x4L _) (by simp only[go_sem])) (.cons _ _ _ _ (.ref _ _ _ _ _ _ _ _ _ (w4P.trans rfl) x2F (by decide) (x4L _) (by simp only[go_sem])) .nil))))) h hsc
   ·refine cd h (fun hc h=>?_) fun hc h=>?_
    ·refine rn ?_
     obtain⟨v22,hv22,h⟩:=w7w h
     refine(x8v n _ _ _ hv22 _ _ _ hnd (by simp only[go_sem,fx]) (by simp only[go_sem,fx])).mono ?_
     rintro d1 st1 ⟨rfl,rfl⟩
     refine rn ?_
     obtain⟨fx,h⟩:=ck fx h
     obtain⟨c26,z4u,h⟩:=x1k h
     have fy:=(show rows w4d.cells a1++[[.str a0.name,.str v22.1]]=rows w4d.cells c26 from by rw[z4u];first|exact w4k (E:=w4d.cells) a1 [(w4d.mk a0.name v22.1)]|simp only[go_sem,rows,List.map_append,List.map_cons,List.map_nil])
     have fy:=fa fy (show a1.length+1=c26.length from by rw[z4u];simp)
     obtain⟨fx,h⟩:=ck fx h
     refine dwy [] 2 ?_
     refine hj3 () _ _ _ h ?_;exact(bu hsc (hf:=⟨.ref _ _ _ _ _ _ _ _ _ (w4P.trans rfl) (x0k (by first|decide|simp)) (by decide) (x4L _) (by simp only[go_sem]),.s,.s,.s,.s,trivial⟩))
    ·refine r0 ?_
     refine hj3 () _ _ _ h ?_;exact(bu hsc)
end Go.Proofs.YtdjnbjnlnjhllaaGreatDoor
