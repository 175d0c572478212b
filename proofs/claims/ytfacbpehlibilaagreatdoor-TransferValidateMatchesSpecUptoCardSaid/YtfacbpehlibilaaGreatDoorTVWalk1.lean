import Derived.Test.YtfacbpehlibilaaGreatDoorTVWalk0
import Derived.Test.YtfacbpehlibilaaGreatDoorTVDel
set_option linter.unusedVariables false
set_option linter.unusedSimpArgs false
set_option maxHeartbeats 2000000
set_option maxRecDepth 100000
namespace Go.Proofs.YtfacbpehlibilaaGreatDoor
open Go Go.Am
theorem u4A{l r:(List Bs)}(h:r6U l=some r):r.length=l.length:=by
 unfold r6U at h
 obtain⟨_,h⟩:=x1I h
 obtain rfl:=Option.some.inj h
 exact(u2P _ _).length_eq
set_option maxRecDepth 100000 in
theorem u5a(l0:(List Bs))(r:(List Bs))(h:r6U l0=some r):∀(st:St) (o0 q0:Nat) (hnd: [o0].Nodup) (r6Q:Am.look st o0=some (.arr q0 1 16 (rows r4X l0))),Am.Spec Tryz.prog gl 79 [.ref false o0 q0 0 l0.length] st (fun d st'=>d= .tup []∧st'=puts st [(o0,(.arr q0 1 16 (rows r4X r)))]):=by
 intro st o0 q0 hnd r6Q
 unfold r6U at h
 obtain⟨hl,h⟩:=x1I h
 obtain rfl:=Option.some.inj h
 rw[←x2C]
 exact w4s x5z (by kernel_rfl) r6Q hl
set_option maxRecDepth 100000 in
theorem u3R(l0:(List Bs))(r:(List Bs))(h:r8b l0=some r):∀(st:St) (o0 q0:Nat) (hnd: [o0].Nodup) (r6Q:Am.look st o0=some (.arr q0 1 16 (rows r4X l0))),Am.Spec Tryz.prog gl 80 [.ref false o0 q0 0 l0.length] st (fun d st'=>d= .ref false o0 q0 0 (Lib.compact l0).length∧st'=puts st [(o0,.arr q0 1 16 (rows r4X (cpt l0)))]):=by
 intro st o0 q0 hnd r6Q
 unfold r8b at h
 obtain⟨hl,h⟩:=x1I h
 exact w0D x5A (by kernel_rfl) r6Q hl
theorem u4p(n:Nat)(a0:p6w)(r:(List Bs))(h:r9k n a0=some r):Pure Tryz.prog gl 52 [.agg [.int .i64 a0.kind,.str a0.name,.sl false 1 16 (rows r4X a0.words),.sl false 4 72 (rows p6w.cells a0.subs)]] (.sl false 1 16 (rows r4X r)):=by
 intro st
 unfold r9k at h
 have fx:=trivial
 refine fb 13 [.tmp 2] [0,1,2,3,4] Tryz.func52 fun hsc=>?_
 refine r0 ?_
 refine r0 ?_
 refine r0 ?_
 refine r0 ?_
 (repeat apply sq_)
 refine r9q 1 16 ?_
 try simp only[List.append_assoc,List.cons_append,List.nil_append]
 refine r6O (F:=[(1,.ptr st.length 0 0 0),(3,.ptr (st.length+1) 0 0 0),(4,.ptr (st.length+2) 0 0 0)]) (T:=st++[some (.arr 0 4 0 [[.int .i64 a0.kind,.str a0.name,.sl false 1 16 (rows r4X a0.words),.sl false 4 72 (rows p6w.cells a0.subs)]]),some (.arr 0 1 0 [[.ref false (st.length+3) 0 0 0]]),some (.arr 0 1 0 [[.fn 78 [] [.ptr (st.length+1) 0 0 0,.ptr (st.length+2) 0 0 0]]]),some (.arr 0 1 16 (rows r4X []))]) (w5R hsc (.lv (.live _ _ _ _ (.arr _ _ _ _ _ (.cons _ _ _ _ (.cons _ _ _ _ (.nref _ _ _ _ _ _ (w0z.trans rfl)) .nil) (.same _))) (.lv (.lv (.nil _))))) (by simp) ⟨.s,.s,.s,trivial⟩ (by simp)) ?_
 refine rn ?_
 obtain⟨v1,hv1,h⟩:=r7G h
 refine((u6R n _ _ _ _ hv1 _ _ _ _ 0 (by simp) (u4b.trans rfl) (u4b.trans rfl) (u4b.trans rfl)).up (.cons _ _ _ _ .s (.cons _ _ _ _ (.r5g _ _ _ (by decide)) (.cons _ _ _ _ .s (.cons _ _ _ _ .s .nil)))) (by simp<;>omega)).mono ?_
 rintro d1 st1 ⟨g2,rfl,rfl⟩
 refine rn ?_
 obtain⟨v3,hv3,h⟩:=r7G h
 refine(u5a _ _ hv3 _ _ g2 (by simp) (u4b.trans rfl)).mono ?_
 rintro d1 st1 ⟨rfl,rfl⟩
 try simp only[go_sem,fx]
 have e4:D.ref false (st.length+3) g2 0 v1.length=D.ref false (st.length+3) g2 0 v3.length:=by rw[u4A hv3]
 try simp only[e4]
 refine rn ?_
 obtain⟨v5,hv5,h⟩:=r7G h
 refine(u3R _ _ hv5 _ _ g2 (by simp) (u4b.trans rfl)).mono ?_
 rintro d1 st1 ⟨rfl,rfl⟩
 refine rr ?_
 exact fo (.sl false 1 16 (rows r4X (Lib.compact v3))) (.ref _ _ _ _ _ _ _ _ _ (w0z.trans rfl) x1H (by decide) (u4I _) (x2z _).symm) h hsc
theorem u9w:∀(n:Nat) (a0:p6w) (a1:Bs) (r:Bool×Bool) (h:r8c n a0 a1=some r),Pure Tryz.prog gl 53 [.agg [.int .i64 a0.kind,.str a0.name,.sl false 1 16 (rows r4X a0.words),.sl false 4 72 (rows p6w.cells a0.subs)],.str a1] (.tup [.bool r.1,.bool r.2]):=by
 intro n
 induction n with
 |zero=>intro a0 a1 r h;cases h
 |succ n ih=>
  intro a0 a1 r h st
  unfold r8c at h
  have fx:=trivial
  refine fb 51 [.tmp 4,.tmp 5] [0,1,2,4,5,7,8,9,14,15,16,17,18,28,29,30,31,42,46] Tryz.func53 fun hsc=>?_
  refine rn ?_
  refine r9E (r9l (r8c n) a0 a1) r (fun(gj0:Unit) (j0:Bool×Bool)=>[(1,.str a1),(2,.ptr st.length 0 0 0),(4,.bool j0.1),(5,.bool j0.2)]) (fun(gj0:Unit) (j0:Bool×Bool)=>st++[some (.arr 0 4 0 [[.int .i64 a0.kind,.str a0.name,.sl false 1 16 (rows r4X a0.words),.sl false 4 72 (rows p6w.cells a0.subs)]])]) (fun gj0 j0 fr1 st1 h hb=>?_) (fun hj0=>?_)
  ·try simp only[go_sem,fx]
   unfold r9l at h
   refine r6O hb ?_
   refine aln 28 fun hl1=>?_
   refine rng (body:=u1J (r8c n) a0 a1) (kk:=u1K) (n:=a0.subs.length) (s0:=(j0.1,j0.2))
    (fun(gs1:Unit) (k1:Nat) (s1:Bool×Bool)=>[(1,.str a1),(4,.bool s1.1),(5,.bool s1.2),(28,.sl false 4 72 (rows p6w.cells a0.subs)),(29,.int .i64 (↑a0.subs.length:Int)),(30,.int .i64 (↑k1:Int))])
    (fun(gs1:Unit) (k1:Nat) (s1:Bool×Bool)=>st)
    (fun(gt1:Unit) (t1:Bool×Bool)=>[(4,.bool t1.1),(5,.bool t1.2)])
    (fun(gt1:Unit) (t1:Bool×Bool)=>st)
    () fx hl1 h (bm0 hsc)
    (fun gs1 k1 s1 b1 fx h hx1=>?_) (fun gs1 s1=>?_) (fun gt1 t1 fr1 st1 h hb=>?_)
   ·unfold u1J at h
    refine ct ?_
    refine cl h (ih _ _) fun v2 h=>?_
    refine rn ?_
    cases h
    exact u2o () (bm0 hsc)
   ·refine cf ?_
    refine u2n ?_;simp only[go_sem,fx]
    exact⟨(),(u6s hsc)⟩
   ·try simp only[go_sem,fx]
    unfold u1K at h
    refine r6O hb ?_
    exact rt
  ·refine cd h (fun hc h=>?_) fun hc h=>?_
   ·refine rs ?_
    refine dw [] 0 ?_
    refine hj0 () _ _ _ h ?_;exact(bm hsc)
   ·refine r0 ?_
    refine hj0 () _ _ _ h ?_;exact(bm hsc)
theorem r6N:∀(n:Nat) (a0:p6w) (r:(List Bs)) (h:r5s n a0=some r),Pure Tryz.prog gl 30 [.agg [.int .i64 a0.kind,.str a0.name,.sl false 1 16 (rows r4X a0.words),.sl false 4 72 (rows p6w.cells a0.subs)]] (.sl false 1 16 (rows r4X r)):=by
 intro n
 induction n with
 |zero=>intro a0 r h;cases h
 |succ n ih=>
  intro a0 r h st
  unfold r5s at h
  have fx:=trivial
  refine fb 26 [.tmp 2] [0,1,2,3,5,7,14,15,16,17] Tryz.func30 fun hsc=>?_
  refine cl h (r5F _) fun v1 h=>?_
  try simp only[go_sem,fx]
  (repeat apply sq_)
  refine r9q 1 16 ?_
  try simp only[List.append_assoc,List.cons_append,List.nil_append]
  refine r6O (F:=[(1,.ptr st.length 0 0 0),(3,.ref false (st.length+1) 0 0 0),(7,.bool v1)]) (T:=st++[some (.arr 0 4 0 [[.int .i64 a0.kind,.str a0.name,.sl false 1 16 (rows r4X a0.words),.sl false 4 72 (rows p6w.cells a0.subs)]]),some (.arr 0 1 16 (rows r4X []))]) (w5R hsc (.lv (.lv (.nil _))) (by simp) ⟨.s,.nref _ _ _ _ _ _ (w0z.trans rfl),.s,trivial⟩ (by simp)) ?_
  (repeat apply sq_)
  refine r9E (r6J (r5s n) a0) r (fun(gj0:Nat) (j0:(List Bs))=>[(1,.ptr st.length 0 0 0),(3,.ref false (st.length+1) gj0 0 j0.length)]) (fun(gj0:Nat) (j0:(List Bs))=>st++[some (.arr 0 4 0 [[.int .i64 a0.kind,.str a0.name,.sl false 1 16 (rows r4X a0.words),.sl false 4 72 (rows p6w.cells a0.subs)]]),some (.arr gj0 1 16 (rows r4X j0))]) (fun gj0 j0 fr1 st1 h hb=>?_) (fun hj0=>?_)
  ·try simp only[go_sem,fx]
   unfold r6J at h
   refine r6O hb ?_
   refine aln 14 fun hl1=>?_
   refine rng (body:=r8F (r5s n) a0) (kk:=r8G) (n:=a0.subs.length) (s0:=j0)
    (fun(gs1:Nat) (k1:Nat) (s1:(List Bs))=>[(3,.ref false (st.length+1) gs1 0 s1.length),(14,.sl false 4 72 (rows p6w.cells a0.subs)),(15,.int .i64 (↑a0.subs.length:Int)),(16,.int .i64 (↑k1:Int))])
    (fun(gs1:Nat) (k1:Nat) (s1:(List Bs))=>st++[none,some (.arr gs1 1 16 (rows r4X s1))])
    (fun(gt1:Nat) (t1:(List Bs))=>[(3,.ref false (st.length+1) gt1 0 t1.length)])
    (fun(gt1:Nat) (t1:(List Bs))=>st++[none,some (.arr gt1 1 16 (rows r4X t1))])
    gj0 fx hl1 h (bm hsc)
    (fun gs1 k1 s1 b1 fx h hx1=>?_) (fun gs1 s1=>?_) (fun gt1 t1 fr1 st1 h hb=>?_)
   ·unfold r8F at h
    refine ct ?_
    refine r0 ?_
    refine r0 ?_
    refine r0 ?_
    refine cl h (ih _) fun v14 h=>?_
    obtain⟨c15,y1w,h⟩:=u2v h
    have fy:=(show rows r4X s1++rows r4X v14=rows r4X c15 from by rw[y1w];first|exact r5y (E:=r4X) s1 v14|simp only[go_sem,rows,List.map_append,List.map_cons,List.map_nil])
    have fy:=fa fy (show s1.length+v14.length=c15.length from by rw[y1w];simp)
    obtain⟨fx,h⟩:=ck fx h
    try simp only[go_sem,fx,fy]
    refine rn ?_
    cases h
    exact u2o (gs1+1) (bm hsc)
   ·refine cf ?_
    refine u2n ?_;simp only[go_sem,fx]
    exact⟨gs1,(bm hsc)⟩
   ·try simp only[go_sem,fx]
    unfold r8G at h
    refine r6O hb ?_
    refine rr ?_
    exact fo (.sl false 1 16 (rows r4X t1)) (.ref _ _ _ _ _ _ _ _ _ (w0z.trans rfl) x1H (by decide) (u4I _) (by simp only[go_sem])) h hsc
  ·refine cd h (fun hc h=>?_) fun hc h=>?_
   ·obtain⟨c3,hc3,h⟩:=u2v h
    obtain⟨fx,h⟩:=ck fx h
    refine r0 ?_
    have e6:D.ref false (st.length+1) 1 0 1=D.ref false (st.length+1) 1 0 c3.length:=by simp[hc3]
    have e7: [[.str a0.name]]=rows r4X c3:=by rw[hc3];first|rfl|simp only[go_sem,rows,List.nil_append,List.map_append,List.map_cons,List.map_nil]
    try simp only[e6,e7]
    refine hj0 1 _ _ _ h ?_;exact(bm hsc)
   ·refine r0 ?_
    refine hj0 0 _ _ _ h ?_;exact(bm hsc)
theorem u6S(n:Nat)(a0:r5b)(r:r5d)(h:r9Q n a0=some r):Pure Tryz.prog gl 27 [.agg [.int .i64 a0.form.kind,.str a0.form.name,.sl false 1 16 (rows r4X a0.form.words),.sl false 4 72 (rows p6w.cells a0.form.subs),.sl false 1 16 (rows r4X a0.words),.sl false 1 16 (rows r4X a0.r5o),.sl false 1 16 (rows r4X a0.parts)]] (.agg [.int .i64 r.code,.int .i64 r.index]):=by
 intro st
 unfold r9Q at h
 have fx:=trivial
 refine fb 119 [.cell 2 25] [0,1,2,3,4,5,6,7,8,9,10,11,12,18,24,29,30,31,32,38,45,55,64,67,80,81,82,85,89,98,99,100,101,111,112,113,114,115] Tryz.func27 fun hsc=>?_
 refine cl h (u2H n _) fun v1 h=>?_
 refine cd h (fun hc h=>?_) fun hc h=>?_
 ·exact rt
 ·refine cl h (u3u _) fun v2 h=>?_
  refine cd h (fun hc h=>?_) fun hc h=>?_
  ·refine cl h (r7m _ _) fun v3 h=>?_
   exact rt
  ·refine cl h (u4p n _) fun v4 h=>?_
   refine aln 4 fun hl0=>?_
   refine rng (body:=r9K n v2 a0 v4) (kk:=r9L n a0) (n:=v2.length) (s0:=())
    (fun(gs0:Unit) (k0:Nat) (s0:Unit)=>[(1,.ptr st.length 0 0 0),(2,.ptr (st.length+1) 0 0 0),(4,.sl false 1 16 (rows r4X v2)),(5,.sl false 1 16 (rows r4X v4)),(29,.sl false 1 16 (rows r4X v2)),(30,.int .i64 (↑v2.length:Int)),(31,.int .i64 (↑k0:Int))])
    (fun(gs0:Unit) (k0:Nat) (s0:Unit)=>st++[some (.arr 0 7 0 [[.int .i64 a0.form.kind,.str a0.form.name,.sl false 1 16 (rows r4X a0.form.words),.sl false 4 72 (rows p6w.cells a0.form.subs),.sl false 1 16 (rows r4X a0.words),.sl false 1 16 (rows r4X a0.r5o),.sl false 1 16 (rows r4X a0.parts)]]),some (.arr 0 2 0 [[.int .i64 0,.int .i64 0]])])
    (fun(gt0:Unit) (t0:Unit)=>[(1,.ptr st.length 0 0 0),(2,.ptr (st.length+1) 0 0 0)])
    (fun(gt0:Unit) (t0:Unit)=>st++[some (.arr 0 7 0 [[.int .i64 a0.form.kind,.str a0.form.name,.sl false 1 16 (rows r4X a0.form.words),.sl false 4 72 (rows p6w.cells a0.form.subs),.sl false 1 16 (rows r4X a0.words),.sl false 1 16 (rows r4X a0.r5o),.sl false 1 16 (rows r4X a0.parts)]]),some (.arr 0 2 0 [[.int .i64 0,.int .i64 0]])])
    () fx hl0 h (bm hsc)
    (fun gs0 k0 s0 b0 fx h hx0=>?_) (fun gs0 s0=>?_) (fun gt0 t0 fr1 st1 h hb=>?_)
   ·unfold r9K at h
    refine ct ?_
    refine cl h (u7q _) fun v17 h=>?_
    refine cd h (fun hc h=>?_) fun hc h=>?_
    ·refine cl h (r7m _ _) fun v18 h=>?_
     refine ra ?_
     cases h
     refine r7h ?_;have h:=congrArg some (hx0 _ rfl)
     exact rt
    ·obtain⟨fx,h⟩:=ck fx h
     refine cl h (r5f _ _) fun v21 h=>?_
     refine cd h (fun hc h=>?_) fun hc h=>?_
     ·refine cl h (r7m _ _) fun v22 h=>?_
      refine ra ?_
      cases h
      refine r7h ?_;have h:=congrArg some (hx0 _ rfl)
      exact rt
     ·refine cl h (u9w n _ _) fun v23 h=>?_
      refine cd h (fun hc h=>?_) fun hc h=>?_
      ·refine cl h (r5f _ _) fun v24 h=>?_
       refine cd h (fun hc h=>?_) fun hc h=>?_
       ·refine cl h (r7m _ _) fun v25 h=>?_
        refine ra ?_
        cases h
        refine r7h ?_;have h:=congrArg some (hx0 _ rfl)
        exact rt
       ·refine rn ?_
        cases h
        exact u2o () (bm hsc)
      ·refine cd h (fun hc h=>?_) fun hc h=>?_
       ·refine cd h (fun hc h=>?_) fun hc h=>?_
        ·refine cl h (r7m _ _) fun v26 h=>?_
         refine ra ?_
         cases h
         refine r7h ?_;have h:=congrArg some (hx0 _ rfl)
         exact rt
        ·refine rn ?_
         cases h
         exact u2o () (bm hsc)
       ·refine cd h (fun hc h=>?_) fun hc h=>?_
        ·refine cl h (r7m _ _) fun v27 h=>?_
         refine ra ?_
         cases h
         refine r7h ?_;have h:=congrArg some (hx0 _ rfl)
         exact rt
        ·refine cd h (fun hc h=>?_) fun hc h=>?_
         ·refine cl h (r7m _ _) fun v28 h=>?_
          refine ra ?_
          cases h
          refine r7h ?_;have h:=congrArg some (hx0 _ rfl)
          exact rt
         ·refine rn ?_
          cases h
          exact u2o () (bm hsc)
   ·refine cf ?_
    refine u2n ?_;simp only[go_sem,fx]
    exact⟨(),(bm hsc)⟩
   ·try simp only[go_sem,fx]
    unfold r9L at h
    refine r6O hb ?_
    refine cl h (r6N n _) fun v29 h=>?_
    refine aln 10 fun hl1=>?_
    refine rng (body:=r9M v29 a0) (kk:=r9N) (n:=v29.length) (s0:=())
     (fun(gs1:Unit) (k1:Nat) (s1:Unit)=>[(1,.ptr st.length 0 0 0),(2,.ptr (st.length+1) 0 0 0),(10,.sl false 1 16 (rows r4X v29)),(98,.sl false 1 16 (rows r4X v29)),(99,.int .i64 (↑v29.length:Int)),(100,.int .i64 (↑k1:Int))])
     (fun(gs1:Unit) (k1:Nat) (s1:Unit)=>st++[some (.arr 0 7 0 [[.int .i64 a0.form.kind,.str a0.form.name,.sl false 1 16 (rows r4X a0.form.words),.sl false 4 72 (rows p6w.cells a0.form.subs),.sl false 1 16 (rows r4X a0.words),.sl false 1 16 (rows r4X a0.r5o),.sl false 1 16 (rows r4X a0.parts)]]),some (.arr 0 2 0 [[.int .i64 0,.int .i64 0]])])
     (fun(gt1:Unit) (t1:Unit)=>[(2,.ptr (st.length+1) 0 0 0)])
     (fun(gt1:Unit) (t1:Unit)=>st++[none,some (.arr 0 2 0 [[.int .i64 0,.int .i64 0]])])
     () fx hl1 h (bm hsc)
     (fun gs1 k1 s1 b1 fx h hx1=>?_) (fun gs1 s1=>?_) (fun gt1 t1 fr1 st1 h hb=>?_)
    ·unfold r9M at h
     refine ct ?_
     obtain⟨fx,h⟩:=ck fx h
     refine cl h (r5f _ _) fun v37 h=>?_
     refine rn ?_
     obtain⟨v38,hv38,h⟩:=r7G h
     refine u0C (fun hG=>(r5f _ _ _ (w1s hv38 (by simpa using hG)))) ?_
     refine cd h (fun hc h=>?_) fun hc h=>?_
     ·refine cl h (r7m _ _) fun v39 h=>?_
      refine ra ?_
      cases h
      refine r7h ?_;have h:=congrArg some (hx1 _ rfl)
      exact rt
     ·refine rn ?_
      cases h
      exact u2o () (bm hsc)
    ·refine cf ?_
     refine u2n ?_;simp only[go_sem,fx]
     exact⟨(),(bm hsc)⟩
    ·try simp only[go_sem,fx]
     unfold r9N at h
     refine r6O hb ?_
     exact rt
theorem r8v(a0:r5b)(a1:p6w)(r:Bool)(h:r7d a0 a1=some r):Pure Tryz.prog gl 28 [.agg [.int .i64 a0.form.kind,.str a0.form.name,.sl false 1 16 (rows r4X a0.form.words),.sl false 4 72 (rows p6w.cells a0.form.subs),.sl false 1 16 (rows r4X a0.words),.sl false 1 16 (rows r4X a0.r5o),.sl false 1 16 (rows r4X a0.parts)],.agg [.int .i64 a1.kind,.str a1.name,.sl false 1 16 (rows r4X a1.words),.sl false 4 72 (rows p6w.cells a1.subs)]] (.bool r):=by
 intro st
 unfold r7d at h
 have fx:=trivial
 refine fb 21 [.tmp 4] [0,1,2,3,4,9,10,11,12,15,16,17,18,19] Tryz.func28 fun hsc=>?_
 refine rn ?_
 obtain⟨v1,hv1,h⟩:=r7G h
 refine u0C (fun hG=>(r5f _ _ _ (w1s hv1 (by simpa using hG)))) ?_
 exact rt
theorem u4B(a0:(List Bs))(r:(List Bs))(h:u0o a0=some r):Pure Tryz.prog gl 59 [.sl false 1 16 (rows r4X a0)] (.sl false 1 16 (rows r4X r)):=by
 intro st
 refine u6K ?_
 unfold u0o at h
 have hr:=Option.some.inj h
 subst hr
 refine y0a (N:=8) (rs:=[.tmp 2]) (keep:=[0,2,4]) Tryz.func59 rfl rfl rfl (by kernel_rfl) rfl fun hsc=>?_
 refine x9P (t:=0) rfl fun hl=>?_
 (repeat apply sq_);apply er_;simp only[go_sem]
 (repeat apply sq_);refine w4n rfl ⟨9,by rw[y1u]⟩ (by omega) (by omega) fun c hcn=>?_
 simp only[go_sem]
 (repeat apply sq_);refine x5R (by rfl) (fun hc=>?_) fun hc=>?_
 ·(repeat apply sq_);apply er_;simp only[go_sem]
  refine x4n ?_
  try simp only[go_sem]
  have y0E:=hcn hc
  rw[y0E]
  refine x6f ?_;simp only[go_sem]
  exact u7O hsc (.r5g _ _ _ (by decide)) (by simp) ⟨rfl,rfl⟩
 ·refine x1G ?_;try simp only[go_sem]
  (repeat apply sq_);apply er_;simp only[go_sem]
  simp only[u6P]at hl
  refine⟨⟨by omega,by simp only[top]at *; omega⟩,?_⟩
  refine x4n ?_
  try simp only[go_sem]
  refine x6f ?_;simp only[go_sem]
  exact w2U hsc (.ref _ _ _ _ _ _ _ _ _ (w0z.trans rfl) x1H (by decide) (u4I a0) (by simp only[go_sem])) (by simp) ⟨rfl,rfl⟩
theorem r6i(a0 l0:(List Bs))(r:(List Bs))(h:r5E a0 l0=some r):∀(st:St) (o0 q0:Nat) (hnd: [o0].Nodup) (r6Q:Am.look st o0=some (.arr q0 1 16 (rows r4X l0))),Am.Spec Tryz.prog gl 59 [.sl false 1 16 (rows r4X a0)] st (fun d st'=>d= .ref false o0 (q0+1) 0 r.length∧st'=puts st [(o0,.arr (q0+1) 1 16 (rows r4X r))]):=by
 intro st o0 q0 hnd r6Q
 obtain⟨rfl,rfl⟩:l0=[]∧r=a0:=by
  unfold r5E at h
  cases l0 with
  |nil=>exact⟨rfl,(Option.some.inj h).symm⟩
  |cons x l=>cases h
 refine u6K ?_
 rw[show r.length=(rows r4X r).length from(u6P r).symm]
 refine x0g (g:=0) (fun hsc=>(r7P (m:=[(o0,.arr (q0+1) 1 16 (rows r4X r))]) hsc (by simp))) r6Q ?_
 refine y0a (N:=8) (rs:=[.tmp 2]) (keep:=[0,2,4]) Tryz.func59 rfl rfl rfl (by kernel_rfl) rfl fun hsc=>?_
 refine x9P (t:=0) rfl fun hl=>?_
 (repeat apply sq_);apply er_;simp only[go_sem]
 (repeat apply sq_);refine w4n rfl ⟨9,by rw[y1u]⟩ (by omega) (by omega) fun c hcn=>?_
 simp only[go_sem]
 (repeat apply sq_);refine x5R (by rfl) (fun hc=>?_) fun hc=>?_
 ·(repeat apply sq_);apply er_;simp only[go_sem]
  refine x4n ?_
  try simp only[go_sem]
  have y0E:=hcn hc
  refine x6f ?_;simp only[go_sem]
  exact u7O hsc (.same _) (by simp) (.inr (.inr ⟨rfl,rfl,y0E⟩))
 ·refine x1G ?_;try simp only[go_sem]
  (repeat apply sq_);apply er_;simp only[go_sem]
  simp only[u6P]at hl
  refine⟨⟨by omega,by simp only[top]at *; omega⟩,?_⟩
  refine x4n ?_
  try simp only[go_sem]
  refine x6f ?_;simp only[go_sem]
  exact⟨st++[none,some (.arr 0 1 16 (rows r4X r))],_,by simp,w2S hsc (.dead _ _ _ (.lv (.nil _))) (by simp),.s,by simp,.inr (.inl ⟨rfl,rfl⟩)⟩
theorem u6A{st:St}{o:Nat}:∀ {m:List (Nat×Ob)},(∀p∈m,p.1≠o)→Am.look (r5k st m) o=Am.look st o
 | [],_=>rfl
 |(a,x)::m,h=>by
  have ih:=u6A (st:=st) (m:=m) fun p hp=>h p (List.mem_cons_of_mem _ hp)
  have h0:=h (a,x) (List.mem_cons_self ..)
  unfold Am.look at ih⊢
  simp only[r5k]
  rw[List.getElem?_set_ne h0]
  exact ih
theorem w3L{st:St}{oM B n:Nat}:∀ {m:List (Nat×Ob)},(∀p∈m,p.1=oM∨(B≤p.1∧p.1<B+n)∨st[p.1]? =some (some p.2))→Chg st (r5k st m) oM B n
 | [],_=>Chg.refl _ _ _ _
 |(a,x)::m,h=>by
  have ih:=w3L (st:=st) (m:=m) fun p hp=>h p (List.mem_cons_of_mem _ hp)
  refine⟨by simp[r5k,ih.len],fun o h1 h2=>?_⟩
  simp only[r5k]
  by_cases e:a=o
  ·subst e
   have h3:st[a]? =some (some x):=((h (a,x) (List.mem_cons_self ..)).resolve_left h1).resolve_left h2
   have hl:a<(r5k st m).length:=by rw[ih.len];exact(List.getElem?_eq_some_iff.1 h3).1
   rw[List.getElem?_set_self hl,h3]
  ·rw[List.getElem?_set_ne e]
   exact ih.same o h1 h2
theorem x5E{t:Nat}:u1m ⟨1,24,[.r5g],[.sl false 1 16 []],some .r5g,.slice t⟩ none= .sl false 1 16 []:=rfl
theorem x8v{t o g len:Nat}:u1m ⟨1,24,[.r5g],[.sl false 1 16 []],some .r5g,.slice t⟩ (some [.ref false o g 0 len])= .ref false o g 0 len:=rfl
set_option maxHeartbeats 4000000 in
set_option maxRecDepth 100000 in
theorem u8e:∀(n:Nat) (f:p6w) (a1:List Bs) (s:r5b) (m r:List (Bs×List Bs)) (h:r6e n f a1 s m=some r) (hnm:s.parts.Nodup),∀(st:St) (o0 o1 oM o3 B:Nat) (hnd: [o0,o1,oM,o3].Nodup) (hB:o0<B∧o1<B∧oM<B∧o3<B) (hBl:B+s.parts.length≤st.length)
 (r6Q:Am.look st o0=some (.arr 0 7 0 [[.int .i64 s.form.kind,.str s.form.name,.sl false 1 16 (rows r4X s.form.words),.sl false 4 72 (rows p6w.cells s.form.subs),.sl false 1 16 (rows r4X s.words),.sl false 1 16 (rows r4X s.r5o),.sl false 1 16 (rows r4X s.parts)]]))
 (r9o:Am.look st o1=some (.arr 0 1 0 [[.mp oM]])) (u4q:Am.look st o3=some (.arr 0 1 0 [[.fn 84 [] [.ptr o0 0 0 0,.ptr o1 0 0 0,.ptr o3 0 0 0]]])) (g:Nat→Nat) (z:Nat→List Bs) (hF:Fam st oM B s.parts g z m),
 Am.Spec Tryz.prog gl 84 [.agg [.int .i64 f.kind,.str f.name,.sl false 1 16 (rows r4X f.words),.sl false 4 72 (rows p6w.cells f.subs)],.sl false 1 16 (rows r4X a1),.ptr o0 0 0 0,.ptr o1 0 0 0,.ptr o3 0 0 0] st (fun d st'=>d= .tup []∧Chg st st' oM B s.parts.length∧∃g z,Fam st' oM B s.parts g z r):=by
 intro n
 induction n with
 |zero=>intro f a1 s m r h;cases h
 |succ n ih=>
  intro f a1 s m r h hnm st o0 o1 oM o3 B hnd hB hBl r6Q r9o u4q g z hF
  unfold r6e at h
  have x9o:=hF.mp
  have ho0:=r5h r6Q
  have ho1:=r5h r9o
  have hoM:=r5h x9o
  have ho3:=r5h u4q
  obtain⟨hB0,hB1,hBM,hB3⟩:=hB
  have fx:=fa (fa (fa (fa (idf ho0) (idf ho1)) (idf hoM)) (idf ho3)) (nd4 hnd)
  refine fb 51 [] [0,1,2,3,4,5,6,7,8,10,13,22,32,40,41,42,43] Tryz.func84 fun hsc=>?_
  have e4:r5k st [(o0,(.arr 0 7 0 [[.int .i64 s.form.kind,.str s.form.name,.sl false 1 16 (rows r4X s.form.words),.sl false 4 72 (rows p6w.cells s.form.subs),.sl false 1 16 (rows r4X s.words),.sl false 1 16 (rows r4X s.r5o),.sl false 1 16 (rows r4X s.parts)]])),(o1,(.arr 0 1 0 [[.mp oM]])),(oM,(.mps false (mref B s.parts g m))),(o3,(.arr 0 1 0 [[.fn 84 [] [.ptr o0 0 0 0,.ptr o1 0 0 0,.ptr o3 0 0 0]]]))]=st:=r5p (by simp[r6Q,r9o,x9o,u4q])
  refine r8l e4 ?_
  refine cl h (r8v _ _) fun v1 h=>?_
  refine rn ?_
  refine r9E (σ:={q:List (Bs×List Bs)×St // Chg st q.2 oM B s.parts.length∧∃g z,Fam q.2 oM B s.parts g z q.1}) (fun q=>w1f (fun f a m=>r6e n f a s m) f a1 q.1.1) r
   (fun(gj0:Unit) q=>[(4,.ptr o3 0 0 0),(5,.ptr st.length 0 0 0),(6,.ptr (st.length+1) 0 0 0)])
   (fun(gj0:Unit) q=>q.1.2++[some (.arr 0 4 0 [[.int .i64 f.kind,.str f.name,.sl false 1 16 (rows r4X f.words),.sl false 4 72 (rows p6w.cells f.subs)]]),some (.arr 0 1 0 [[.sl false 1 16 (rows r4X a1)]])]) (fun gj0 q fr1 st1 h hb=>?_) (fun hj0=>?_)
  ·obtain⟨⟨m1,S⟩,hC,g1,z1,hF1⟩:=q
   replace hC:Chg st S oM B s.parts.length:=hC
   replace hF1:Fam S oM B s.parts g1 z1 m1:=hF1
   replace h:w1f (fun f a m=>r6e n f a s m) f a1 m1=some r:=h
   have hSl:S.length=st.length:=hC.len
   have hlt:(∀x∈ [o0,o1,o3],x≠oM):=by simp at hnd ⊢; omega
   have hl0:Am.look S o0=_:=(hC.look (hlt o0 (by simp)) hB0).trans r6Q
   have hl1:Am.look S o1=_:=(hC.look (hlt o1 (by simp)) hB1).trans r9o
   have hl3:Am.look S o3=_:=(hC.look (hlt o3 (by simp)) hB3).trans u4q
   have x9p:u4w S.length S:=hF1.sc hC hsc
   have fx:=fa (fa (fa (idf (r5h hl0)) (idf (r5h hl1))) (idf (r5h hl3))) (nd3 (show [o0,o1,o3].Nodup by simp at hnd ⊢; omega))
   try simp only[go_sem,fx]
   unfold w1f at h
   refine r6O hb ?_
   rw[←hSl]
   have e3:r5k S [(o0,(.arr 0 7 0 [[.int .i64 s.form.kind,.str s.form.name,.sl false 1 16 (rows r4X s.form.words),.sl false 4 72 (rows p6w.cells s.form.subs),.sl false 1 16 (rows r4X s.words),.sl false 1 16 (rows r4X s.r5o),.sl false 1 16 (rows r4X s.parts)]])),(o1,(.arr 0 1 0 [[.mp oM]])),(o3,(.arr 0 1 0 [[.fn 84 [] [.ptr o0 0 0 0,.ptr o1 0 0 0,.ptr o3 0 0 0]]]))]=S:=r5p (by simp[hl0,hl1,hl3])
   refine r8l (congrArg (· ++_) e3) ?_
   refine cl h (r5F _) fun v3 h=>?_
   refine rn ?_
   refine r9E (w2w (fun f a m=>r6e n f a s m) f m1) r (fun(gj1:Unit) (j1:List Bs)=>[(4,.ptr o3 0 0 0),(5,.ptr S.length 0 0 0),(6,.ptr (S.length+1) 0 0 0)]) (fun(gj1:Unit) (j1:List Bs)=>r5k S [(o0,(.arr 0 7 0 [[.int .i64 s.form.kind,.str s.form.name,.sl false 1 16 (rows r4X s.form.words),.sl false 4 72 (rows p6w.cells s.form.subs),.sl false 1 16 (rows r4X s.words),.sl false 1 16 (rows r4X s.r5o),.sl false 1 16 (rows r4X s.parts)]])),(o1,(.arr 0 1 0 [[.mp oM]])),(o3,(.arr 0 1 0 [[.fn 84 [] [.ptr o0 0 0 0,.ptr o1 0 0 0,.ptr o3 0 0 0]]]))]++[some (.arr 0 4 0 [[.int .i64 f.kind,.str f.name,.sl false 1 16 (rows r4X f.words),.sl false 4 72 (rows p6w.cells f.subs)]]),some (.arr 0 1 0 [[.sl false 1 16 (rows r4X j1)]])]) (fun gj1 j1 fr1 st1 h hb=>?_) (fun hj1=>?_)
   ·try simp only[go_sem,fx]
    unfold w2w at h
    refine r6O hb ?_
    refine aln 40 fun hl2=>?_
    refine w8w (body:=w5c (fun f a m=>r6e n f a s m) f j1) (n:=f.subs.length) (s0:=m1) (kk:=fun t=>some t) (e:=r)
     (fun k sm fr T=>∃S1,Chg st S1 oM B s.parts.length∧(∃g z,Fam S1 oM B s.parts g z sm)∧fr=[(4,.ptr o3 0 0 0),(6,.ptr (S.length+1) 0 0 0),(40,.sl false 4 72 (rows p6w.cells f.subs)),(41,.int .i64 (↑f.subs.length:Int)),(42,.int .i64 (↑k:Int))]∧T=S1++[none,some (.arr 0 1 0 [[.sl false 1 16 (rows r4X j1)]])])
     (fun sm fr T=>∃S1,Chg st S1 oM B s.parts.length∧(∃g z,Fam S1 oM B s.parts g z sm)∧fr=[]∧T=S1)
     (fun k sm b hb=>?_) h ?_ (fun k sm s2 fr T hk hb hI=>?_) (fun sm fr T hI=>?_) (fun sm F T fr st2 hk hJ hb=>?_)
    ·unfold w5c at hb
     obtain⟨v,hv,hb⟩:=r7G hb
     exact⟨v,(Option.some.inj hb).symm⟩
    ·rw[e3]
     exact⟨_,_,bm x9p (hs:=by simp<;>omega),S,hC,⟨g1,z1,hF1⟩,rfl,rfl⟩
    ·obtain⟨S1,hC1,⟨g2,z2,hF2⟩,rfl,rfl⟩:=hI
     have hS1:S.length=S1.length:=hSl.trans hC1.len.symm
     have hl0:Am.look S1 o0=_:=(hC1.look (hlt o0 (by simp)) hB0).trans r6Q
     have hl1:Am.look S1 o1=_:=(hC1.look (hlt o1 (by simp)) hB1).trans r9o
     have hl3:Am.look S1 o3=_:=(hC1.look (hlt o3 (by simp)) hB3).trans u4q
     have x3r:u4w S1.length S1:=hF2.sc hC1 hsc
     have hwr:=w8t hk hl2
     have fx:=fa (fa (fa (fa (fa (idf (r5h hl0)) (idf (r5h hl1))) (idf (r5h hl3))) (nd3 (show [o0,o1,o3].Nodup by simp at hnd ⊢; omega))) hk) hwr
     rw[hS1]
     have e3':r5k S1 [(o0,(.arr 0 7 0 [[.int .i64 s.form.kind,.str s.form.name,.sl false 1 16 (rows r4X s.form.words),.sl false 4 72 (rows p6w.cells s.form.subs),.sl false 1 16 (rows r4X s.words),.sl false 1 16 (rows r4X s.r5o),.sl false 1 16 (rows r4X s.parts)]])),(o1,(.arr 0 1 0 [[.mp oM]])),(o3,(.arr 0 1 0 [[.fn 84 [] [.ptr o0 0 0 0,.ptr o1 0 0 0,.ptr o3 0 0 0]]]))]=S1:=r5p (by simp[hl0,hl1,hl3])
     refine r8l (congrArg (· ++_) e3') ?_
     unfold w5c at hb
     obtain⟨v,hv,hb⟩:=r7G hb
     cases hb
     refine ct ?_
     refine rn ?_
     rw[e3']
     refine(ih _ _ _ _ _ hv hnm _ o0 o1 oM o3 B hnd ⟨hB0,hB1,hBM,hB3⟩ (by rw[List.length_append];omega) ((u4d (r5h hl0)).trans hl0) ((u4d (r5h hl1)).trans hl1) ((u4d (r5h hl3)).trans hl3) g2 z2 hF2.app).mono ?_
     rintro d1 st1 ⟨rfl,hC3,g3,z3,hF3⟩
     obtain⟨S3,rfl,hC4⟩:=x4M hC3 (by omega) (by omega)
     have hF4:=hF3.left (by rw[hC4.len];omega) (by rw[hC4.len];omega)
     have hS3:S1.length=S3.length:=hC4.len.symm
     refine rn ?_
     exact⟨[(4,.ptr o3 0 0 0),(6,.ptr (S1.length+1) 0 0 0),(40,.sl false 4 72 (rows p6w.cells f.subs)),(41,.int .i64 (↑f.subs.length:Int)),(42,.int .i64 (↑(k+1):Int))],S3++[none,some (.arr 0 1 0 [[.sl false 1 16 (rows r4X j1)]])],u0G (by omega) (hF4.sc (hC1.trans hC4) hsc) (.dead _ _ _ (.lv (.nil _))) (by simp) ⟨.s,.s,.s,.s,.s,trivial⟩ (by simp<;>omega),S3,hC1.trans hC4,⟨g3,z3,hF4⟩,rfl,rfl⟩
    ·obtain⟨S1,hC1,⟨g2,z2,hF2⟩,rfl,rfl⟩:=hI
     have hS1:S.length=S1.length:=hSl.trans hC1.len.symm
     have x3r:u4w S1.length S1:=hF2.sc hC1 hsc
     rw[hS1]
     refine cf ?_
     refine u2n ?_;simp only[go_sem,fx]
     exact⟨[],S1,w9V (Nat.le_refl _) x3r trivial trivial,S1,hC1,⟨g2,z2,hF2⟩,rfl,rfl⟩
    ·obtain⟨S1,hC1,⟨g2,z2,hF2⟩,hfe,hte⟩:=hJ
     rw[hfe,hte]at hb
     have hS1:S.length=S1.length:=hSl.trans hC1.len.symm
     have x3r:u4w S1.length S1:=hF2.sc hC1 hsc
     rw[hS1]at hb⊢
     refine u9L hb ?_
     refine rr ?_
     exact fs (.tup []) (.same _) hk x3r (hr:=by rintro rfl;exact⟨rfl,hC1,g2,z2,hF2⟩)
   ·refine cd h (fun hc h=>?_) fun hc h=>?_
    ·(repeat apply sq_)
     refine r9q 1 16 ?_
     try simp only[List.append_assoc,List.cons_append,List.nil_append]
     refine r6O (F:=[(4,.ptr o3 0 0 0),(5,.ptr S.length 0 0 0),(6,.ptr (S.length+1) 0 0 0),(32,.bool v3)]) (T:=r5k S [(o0,(.arr 0 7 0 [[.int .i64 s.form.kind,.str s.form.name,.sl false 1 16 (rows r4X s.form.words),.sl false 4 72 (rows p6w.cells s.form.subs),.sl false 1 16 (rows r4X s.words),.sl false 1 16 (rows r4X s.r5o),.sl false 1 16 (rows r4X s.parts)]])),(o1,(.arr 0 1 0 [[.mp oM]])),(o3,(.arr 0 1 0 [[.fn 84 [] [.ptr o0 0 0 0,.ptr o1 0 0 0,.ptr o3 0 0 0]]]))]++[some (.arr 0 4 0 [[.int .i64 f.kind,.str f.name,.sl false 1 16 (rows r4X f.words),.sl false 4 72 (rows p6w.cells f.subs)]]),some (.arr 0 1 0 [[.sl false 1 16 (rows r4X a1)]]),some (.arr 0 1 16 (rows r4X []))]) (u0G (by simp) (r7P x9p (by simp<;>omega)) (.lv (.lv (.lv (.nil _)))) (by simp<;>omega) ⟨.s,.s,.s,.s,trivial⟩ (by simp<;>omega)) ?_
     refine rs ?_
     refine dw [1,3] 2 ?_
     obtain⟨v4,hv4,h⟩:=r7G h
     refine u2j [(S.length+2)] (fun st2 h2=>(r6i _ _ _ hv4 st2 (S.length+2) 0 (by simp) ((h2 _ (by simp)).trans (r5x.trans rfl)))) (by simp) (by simp only[List.mem_cons,List.not_mem_nil,or_false,forall_eq_or_imp,forall_eq];exact⟨by first|omega|(simp<;>omega),_,(r5x.trans rfl),Ob.noConfusion⟩) (by simp) ?_
     obtain⟨c6,hc6,h⟩:=u2v h
     have fy:=(show rows r4X v4++[[.str f.name]]=rows r4X c6 from by rw[hc6];first|exact r5y (E:=r4X) v4 [f.name]|simp only[go_sem,rows,List.map_append,List.map_cons,List.map_nil])
     have fy:=fa fy (show v4.length+1=c6.length from by rw[hc6];simp)
     obtain⟨fx,h⟩:=ck fx h
     try simp only[go_sem,fx,fy]
     try refine⟨by first|omega|(simp<;>omega),?_⟩
     refine hj1 () _ _ _ h ?_;exact(bu x9p (hu:=(.lv (.live _ _ _ _ (.arr _ _ _ _ _ (.cons _ _ _ _ (.cons _ _ _ _ (.ref _ _ _ _ _ _ _ _ _ (r5u.trans rfl) (u0Z (by first|decide|simp)) (by decide) (u4I _) (by simp only[go_sem])) .nil) (.same _))) (.nil _)))))
    ·refine r0 ?_
     refine hj1 () _ _ _ h ?_;exact(bu x9p)
  ·refine cd h (fun hc h=>?_) fun hc h=>?_
   ·obtain⟨⟨_,hmem,hle⟩,h⟩:=ck fx h
    obtain⟨hk,hx⟩:=u8y hmem
    generalize hkk:w1M s.parts f.name=k at hk hx
    have hob:=hF.ob k hk
    rw[hx]at hob
    have hoP:=r5h hob
    have y3K: [o0,o1,oM,o3,B+k].Nodup:=by simp at hnd ⊢; omega
    have fx:=fa (fa (fa (fa (fa (idf ho0) (idf ho1)) (idf hoM)) (idf ho3)) (idf hoP)) (nd5 y3K)
    rw[e4]
    cases hp:assoc f.name m with
    |none=>
     have hz:z k=[]:=hF.z0 k hk (by rw[hx];exact hp)
     have y0F:ent m f.name=[]:=by unfold ent;rw[hp];rfl
     rw[y0F,hz,List.append_nil]at hob
     rw[hp]at h hle
     simp only[Option.getD_none]at h hle
     have fx:=fa fx (show assoc f.name (mref B s.parts g m)=none by rw[u8z,hp];rfl)
     have fx:=fa fx (@x5E)
     have e5:r5k st [(o0,(.arr 0 7 0 [[.int .i64 s.form.kind,.str s.form.name,.sl false 1 16 (rows r4X s.form.words),.sl false 4 72 (rows p6w.cells s.form.subs),.sl false 1 16 (rows r4X s.words),.sl false 1 16 (rows r4X s.r5o),.sl false 1 16 (rows r4X s.parts)]])),(o1,(.arr 0 1 0 [[.mp oM]])),(oM,(.mps false (mref B s.parts g m))),(o3,(.arr 0 1 0 [[.fn 84 [] [.ptr o0 0 0 0,.ptr o1 0 0 0,.ptr o3 0 0 0]]])),(B+k,(.arr (g k) 1 16 (rows r4X [])))]=st:=r5p (by simp[r6Q,r9o,x9o,u4q,hob])
     refine r8l (congrArg (· ++_) e5) ?_
     refine rn ?_
     refine ct ?_
     refine rn ?_
     refine(r6i a1 [] a1 rfl _ (B+k) (g k) (by simp) (by simp only[go_sem,fx])).mono ?_
     rintro d1 st1 ⟨rfl,rfl⟩
     refine rn ?_
     refine dw [0,2,5,6] 0 ?_
     refine u2j [B+k,st.length+1] (r:=.ref false (B+k) (g k+1) 0 (flt (w1O a1) a1).length) (ups:=[(B+k,.arr (g k+1) 1 16 (rows r4X (w1L (w1O a1) a1++[])))]) (fun st2 h2=>(w4D (st:=st2) (z:=[]) (l:=a1) (ar:=a1) (by rw[List.append_nil];exact(h2 _ (by simp)).trans (by simp only[go_sem,fx])) ((h2 _ (by simp)).trans (by simp only[go_sem,fx]<;>rfl)) (by omega) (by omega)).mono fun d st' hd=>⟨hd.1,hd.2⟩) (by simp) (by simp only[List.mem_cons,List.not_mem_nil,or_false,forall_eq_or_imp,forall_eq];exact⟨⟨by first|omega|(simp<;>omega),_,(by simp only[go_sem,fx]<;>rfl),Ob.noConfusion⟩,⟨by first|omega|(simp<;>omega),_,(by simp only[go_sem,fx]<;>rfl),Ob.noConfusion⟩⟩) (by simp) ?_
     try simp only[go_sem,fx]
     refine⟨by simp<;>omega,?_⟩
     have hC':Chg st (r5k st [(o0,(.arr 0 7 0 [[.int .i64 s.form.kind,.str s.form.name,.sl false 1 16 (rows r4X s.form.words),.sl false 4 72 (rows p6w.cells s.form.subs),.sl false 1 16 (rows r4X s.words),.sl false 1 16 (rows r4X s.r5o),.sl false 1 16 (rows r4X s.parts)]])),(o1,(.arr 0 1 0 [[.mp oM]])),(oM,(.mps false (r5j f.name [.ref false (B+k) (g k+1) 0 (flt (w1O a1) a1).length] (mref B s.parts g m)))),(o3,(.arr 0 1 0 [[.fn 84 [] [.ptr o0 0 0 0,.ptr o1 0 0 0,.ptr o3 0 0 0]]])),(B+k,(.arr (g k+1) 1 16 (rows r4X (w1L (w1O a1) a1))))]) oM B s.parts.length:=w3L (fun p hp=>by
      simp only[List.mem_cons,List.not_mem_nil,or_false]at hp
      rcases hp with rfl|rfl|rfl|rfl|rfl
      ·exact .inr (.inr (r5w r6Q))
      ·exact .inr (.inr (r5w r9o))
      ·exact .inl rfl
      ·exact .inr (.inr (r5w u4q))
      ·exact .inr (.inl ⟨Nat.le_add_right _ _,Nat.add_lt_add_left hk _⟩))
     have hF':=Fam.put (T:=r5k st [(o0,(.arr 0 7 0 [[.int .i64 s.form.kind,.str s.form.name,.sl false 1 16 (rows r4X s.form.words),.sl false 4 72 (rows p6w.cells s.form.subs),.sl false 1 16 (rows r4X s.words),.sl false 1 16 (rows r4X s.r5o),.sl false 1 16 (rows r4X s.parts)]])),(o1,(.arr 0 1 0 [[.mp oM]])),(oM,(.mps false (r5j f.name [.ref false (B+k) (g k+1) 0 (flt (w1O a1) a1).length] (mref B s.parts g m)))),(o3,(.arr 0 1 0 [[.fn 84 [] [.ptr o0 0 0 0,.ptr o1 0 0 0,.ptr o3 0 0 0]]])),(B+k,(.arr (g k+1) 1 16 (rows r4X (w1L (w1O a1) a1))))]) (zk:=List.replicate (a1.length-(flt (w1O a1) a1).length) []) (l:=flt (w1O a1) a1) hF hnm hk hx (gk:=(g k+1)) (fun e=>by rw[hp]at e;cases e) (by simp only[go_sem,fx]) (by simp only[go_sem,fx,w1L]) (fun j hj hjk=>u6A (by simp;omega))
     have w1r:=hF'.sc hC' hsc
     refine hj0 () ⟨(_,_),hC',_,_,hF'⟩ _ _ h ?_
     exact u0G (by simp) w1r (.lv (.lv (.nil _))) (by simp) ⟨.s,.s,.s,trivial⟩ (by simp<;>omega)
    |some l=>
     have y0F:ent m f.name=l:=by unfold ent;rw[hp];rfl
     rw[y0F]at hob
     rw[hp]at h hle
     simp only[Option.getD_some]at h hle
     have fx:=fa fx (show assoc f.name (mref B s.parts g m)=some [.ref false (B+k) (g k) 0 l.length]by rw[u8z,hp,hkk];rfl)
     have fx:=fa fx (@x8v)
     have e5:r5k st [(o0,(.arr 0 7 0 [[.int .i64 s.form.kind,.str s.form.name,.sl false 1 16 (rows r4X s.form.words),.sl false 4 72 (rows p6w.cells s.form.subs),.sl false 1 16 (rows r4X s.words),.sl false 1 16 (rows r4X s.r5o),.sl false 1 16 (rows r4X s.parts)]])),(o1,(.arr 0 1 0 [[.mp oM]])),(oM,(.mps false (mref B s.parts g m))),(o3,(.arr 0 1 0 [[.fn 84 [] [.ptr o0 0 0 0,.ptr o1 0 0 0,.ptr o3 0 0 0]]])),(B+k,(.arr (g k) 1 16 (rows r4X (l++z k))))]=st:=r5p (by simp[r6Q,r9o,x9o,u4q,hob])
     refine r8l (congrArg (· ++_) e5) ?_
     refine rn ?_
     refine cf ?_
     refine rn ?_
     refine dw [0,2,5,6] 0 ?_
     refine u2j [B+k,st.length+1] (r:=.ref false (B+k) (g k) 0 (flt (w1O a1) l).length) (ups:=[(B+k,.arr (g k) 1 16 (rows r4X (w1L (w1O a1) l++z k)))]) (fun st2 h2=>(w4D (st:=st2) (z:=z k) (l:=l) (ar:=a1) ((h2 _ (by simp)).trans (by simp only[go_sem,fx])) ((h2 _ (by simp)).trans (by simp only[go_sem,fx]<;>rfl)) (by omega) (by omega)).mono fun d st' hd=>⟨hd.1,hd.2⟩) (by simp) (by simp only[List.mem_cons,List.not_mem_nil,or_false,forall_eq_or_imp,forall_eq];exact⟨⟨by first|omega|(simp<;>omega),_,(by simp only[go_sem,fx]<;>rfl),Ob.noConfusion⟩,⟨by first|omega|(simp<;>omega),_,(by simp only[go_sem,fx]<;>rfl),Ob.noConfusion⟩⟩) (by simp) ?_
     try simp only[go_sem,fx]
     refine⟨by simp<;>omega,?_⟩
     have hC':Chg st (r5k st [(o0,(.arr 0 7 0 [[.int .i64 s.form.kind,.str s.form.name,.sl false 1 16 (rows r4X s.form.words),.sl false 4 72 (rows p6w.cells s.form.subs),.sl false 1 16 (rows r4X s.words),.sl false 1 16 (rows r4X s.r5o),.sl false 1 16 (rows r4X s.parts)]])),(o1,(.arr 0 1 0 [[.mp oM]])),(oM,(.mps false (r5j f.name [.ref false (B+k) (g k) 0 (flt (w1O a1) l).length] (mref B s.parts g m)))),(o3,(.arr 0 1 0 [[.fn 84 [] [.ptr o0 0 0 0,.ptr o1 0 0 0,.ptr o3 0 0 0]]])),(B+k,(.arr (g k) 1 16 (rows r4X (w1L (w1O a1) l++z k))))]) oM B s.parts.length:=w3L (fun p hp=>by
      simp only[List.mem_cons,List.not_mem_nil,or_false]at hp
      rcases hp with rfl|rfl|rfl|rfl|rfl
      ·exact .inr (.inr (r5w r6Q))
      ·exact .inr (.inr (r5w r9o))
      ·exact .inl rfl
      ·exact .inr (.inr (r5w u4q))
      ·exact .inr (.inl ⟨Nat.le_add_right _ _,Nat.add_lt_add_left hk _⟩))
     have hF':=Fam.put (T:=r5k st [(o0,(.arr 0 7 0 [[.int .i64 s.form.kind,.str s.form.name,.sl false 1 16 (rows r4X s.form.words),.sl false 4 72 (rows p6w.cells s.form.subs),.sl false 1 16 (rows r4X s.words),.sl false 1 16 (rows r4X s.r5o),.sl false 1 16 (rows r4X s.parts)]])),(o1,(.arr 0 1 0 [[.mp oM]])),(oM,(.mps false (r5j f.name [.ref false (B+k) (g k) 0 (flt (w1O a1) l).length] (mref B s.parts g m)))),(o3,(.arr 0 1 0 [[.fn 84 [] [.ptr o0 0 0 0,.ptr o1 0 0 0,.ptr o3 0 0 0]]])),(B+k,(.arr (g k) 1 16 (rows r4X (w1L (w1O a1) l++z k))))]) (zk:=List.replicate (l.length-(flt (w1O a1) l).length) []++z k) (l:=flt (w1O a1) l) hF hnm hk hx (gk:=(g k)) (fun _=>rfl) (by simp only[go_sem,fx]) (by simp only[go_sem,fx,w1L,List.append_assoc]) (fun j hj hjk=>u6A (by simp;omega))
     have w1r:=hF'.sc hC' hsc
     refine hj0 () ⟨(_,_),hC',_,_,hF'⟩ _ _ h ?_
     exact u0G (by simp) w1r (.lv (.lv (.nil _))) (by simp) ⟨.s,.s,.s,trivial⟩ (by simp<;>omega)
   ·rw[e4]
    refine r0 ?_
    refine hj0 () ⟨(m,st),Chg.refl _ _ _ _,g,z,hF⟩ _ _ h ?_
    exact bm hsc (hs:=by simp<;>omega)
theorem x5F{α:Type}(x:α){n k:Nat}(h:k<n):(List.replicate n x)[k]? =some x:=by rw[List.getElem?_replicate,if_pos h]
set_option maxHeartbeats 4000000 in
set_option maxRecDepth 100000 in
theorem u8O(n:Nat)(a0:r5b)(r:List (Bs×List Bs))(h:u1A n a0=some r):∀st:St,Am.Spec Tryz.prog gl 57 [.agg [.int .i64 a0.form.kind,.str a0.form.name,.sl false 1 16 (rows r4X a0.form.words),.sl false 4 72 (rows p6w.cells a0.form.subs),.sl false 1 16 (rows r4X a0.words),.sl false 1 16 (rows r4X a0.r5o),.sl false 1 16 (rows r4X a0.parts)]] st (fun d st'=>d= .mp (st.length+1)∧st'=st++[none,some (.mps false (mrw (slc 1 16 r4X) r))]):=by
 intro st
 unfold u1A at h
 obtain⟨hnm,h⟩:=x1I h
 have fx:=trivial
 refine fb 12 [.tmp 2] [0,1,2,3,4] Tryz.func57 fun hsc=>?_
 refine r0 ?_
 refine r0 ?_
 refine r0 ?_
 refine r0 ?_
 refine x0m 1 16 a0.parts.length ?_
 simp only[List.append_assoc,List.cons_append,List.nil_append]
 refine rn ?_
 have y3L:Fam (st++some (.arr 0 7 0 [[.int .i64 a0.form.kind,.str a0.form.name,.sl false 1 16 (rows r4X a0.form.words),.sl false 4 72 (rows p6w.cells a0.form.subs),.sl false 1 16 (rows r4X a0.words),.sl false 1 16 (rows r4X a0.r5o),.sl false 1 16 (rows r4X a0.parts)]])::some (.mps false [])::some (.arr 0 1 0 [[.mp (st.length+1)]])::some (.arr 0 1 0 [[.fn 84 [] [.ptr st.length 0 0 0,.ptr (st.length+2) 0 0 0,.ptr (st.length+3) 0 0 0]]])::List.replicate a0.parts.length (some (.arr 0 1 16 []))) (st.length+1) (st.length+4) a0.parts (fun _=>0) (fun _=>[]) []:=by
  refine⟨fun p hp=>(by cases hp),u4b.trans rfl,fun k hk=>?_,fun _ _ _=>rfl,List.nodup_nil⟩
  refine u4G.2 ?_
  rw[List.getElem?_append_right (by omega),show st.length+4+k-st.length=k+4 by omega]
  exact x5F _ hk
 refine((u8e n _ _ _ _ _ h hnm _ st.length (st.length+2) (st.length+1) (st.length+3) (st.length+4) (by simp) (by omega) (by simp only[List.length_append,List.length_cons,List.length_replicate];omega) (u3p.trans rfl) (u4b.trans rfl) (u4b.trans rfl) _ _ y3L).up (.cons _ _ _ _ .s (.cons _ _ _ _ (.r5g _ _ _ (by decide)) (.cons _ _ _ _ .s (.cons _ _ _ _ .s (.cons _ _ _ _ .s .nil))))) (by simp<;>omega)).mono ?_
 rintro d1 st1 ⟨rfl,hC,g,z,hF⟩
 have fx:=(hC.look (o:=st.length+2) (by omega) (by omega)).trans (u4b.trans rfl)
 have hlen:st1.length=st.length+(a0.parts.length+4):=by rw[hC.len];simp only[List.length_append,List.length_cons,List.length_replicate]
 refine rr ?_
 refine⟨st++[none,some (.mps false (mrw (slc 1 16 r4X) r))],.mp (st.length+1),by simp,⟨by simp;omega,fun o ob' e=>?_,fun o ob' e=>?_⟩,.s,by simp,rfl,rfl⟩
 ·by_cases ho:o<st.length
  ·rw[List.getElem?_append_left ho]at e
   exact⟨ob',by rw[hC.same o (by omega) (by omega),List.getElem?_append_left ho];exact e,.s⟩
  ·rw[List.getElem?_append_right (by omega)]at e
   have ho2:o-st.length<2:=by
    have:=(List.getElem?_eq_some_iff.1 e).1
    simpa using this
   by_cases h0:o-st.length=0
   ·rw[h0]at e;cases e
   ·have h1:o-st.length=1:=by omega
    rw[h1]at e
    cases e
    obtain rfl:o=st.length+1:=by omega
    refine⟨_,u4G.1 hF.mp,hF.ups fun k hk=>?_⟩
    unfold Am.look
    rw[List.getElem?_eq_none (by simp;omega)]
    rfl
 ·by_cases ho:o<st.length
  ·rw[List.getElem?_append_left ho]at e
   exact Ob.w8r (by simp) (hsc o ob' e)
  ·rw[List.getElem?_append_right (by omega)]at e
   have ho2:o-st.length<2:=by
    have:=(List.getElem?_eq_some_iff.1 e).1
    simpa using this
   by_cases h0:o-st.length=0
   ·rw[h0]at e;cases e
   ·have h1:o-st.length=1:=by omega
    rw[h1]at e
    cases e
    intro q hq
    obtain⟨x,_,rfl⟩:=List.mem_map.1 hq
    exact⟨trivial,trivial⟩
end Go.Proofs.YtfacbpehlibilaaGreatDoor
