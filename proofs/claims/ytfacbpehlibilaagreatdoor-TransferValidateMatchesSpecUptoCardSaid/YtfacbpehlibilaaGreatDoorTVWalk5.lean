import Derived.Test.YtfacbpehlibilaaGreatDoorTVWalk4
set_option linter.unusedVariables false
set_option linter.unusedSimpArgs false
set_option maxHeartbeats 2000000
set_option maxRecDepth 100000
namespace Go.Proofs.YtfacbpehlibilaaGreatDoor
open Go Go.Am
theorem u2g(a0:Bs)(a1:(List Bs))(r:(List Bs))(h:u0v a0 a1=some r):Pure Tryz.prog gl 139 [.str a0,.sl false 1 16 (rows r4X a1)] (.sl false 1 16 (rows r4X r)):=by
 intro st
 unfold u0v at h
 have fx:=trivial
 refine fb 22 [.tmp 4] [0,1,4,5,7,8,9,10,11] Tryz.func139 fun hsc=>?_
 refine r0 ?_
 refine r0 ?_
 refine r0 ?_
 (repeat apply sq_)
 refine r9q 1 16 ?_
 try simp only[List.append_assoc,List.cons_append,List.nil_append]
 refine r6O (F:=[(0,.str a0),(5,.ref false st.length 0 0 0),(8,.sl false 1 16 (rows r4X a1)),(9,.int .i64 (↑a1.length:Int)),(10,.int .i64 0)]) (T:=st++[some (.arr 0 1 16 (rows r4X []))]) (w5R hsc (.lv (.nil _)) (by simp) ⟨.s,.nref _ _ _ _ _ _ (w2V.trans rfl),.s,.s,.s,trivial⟩ (by simp)) ?_
 refine aln 8 fun hl0=>?_
 refine rng (body:=u1Z a0 a1) (kk:=u2a) (n:=a1.length) (s0:=[])
  (fun(gs0:Nat) (k0:Nat) (s0:(List Bs))=>[(0,.str a0),(5,.ref false st.length gs0 0 s0.length),(8,.sl false 1 16 (rows r4X a1)),(9,.int .i64 (↑a1.length:Int)),(10,.int .i64 (↑k0:Int))])
  (fun(gs0:Nat) (k0:Nat) (s0:(List Bs))=>st++[some (.arr gs0 1 16 (rows r4X s0))])
  (fun(gt0:Nat) (t0:(List Bs))=>[(5,.ref false st.length gt0 0 t0.length)])
  (fun(gt0:Nat) (t0:(List Bs))=>st++[some (.arr gt0 1 16 (rows r4X t0))])
  0 fx hl0 h (bm hsc)
  (fun gs0 k0 s0 b0 fx h hx0=>?_) (fun gs0 s0=>?_) (fun gt0 t0 fr1 st1 h hb=>?_)
 ·unfold u1Z at h
  refine ct ?_
  refine r0 ?_
  refine r0 ?_
  refine r0 ?_
  obtain⟨fx,h⟩:=ck fx h
  obtain⟨c10,x1J,h⟩:=u2v h
  have fy:=(show rows r4X s0++[[.str (w1q a0 (get a1 k0))]]=rows r4X c10 from by rw[x1J];first|exact r5y (E:=r4X) s0 [(w1q a0 (get a1 k0))]|simp only[go_sem,rows,List.map_append,List.map_cons,List.map_nil])
  have fy:=fa fy (show s0.length+1=c10.length from by rw[x1J];simp)
  obtain⟨fx,h⟩:=ck fx h
  refine r1 ?_
  refine rn ?_
  cases h
  exact u2o (gs0+1) (bm hsc)
 ·refine cf ?_
  refine u2n ?_;simp only[go_sem,fx]
  exact⟨gs0,(bm hsc)⟩
 ·try simp only[go_sem,fx]
  unfold u2a at h
  refine r6O hb ?_
  refine rr ?_
  exact fo (.sl false 1 16 (rows r4X t0)) (.ref _ _ _ _ _ _ _ _ _ (w2V.trans rfl) w4p (by decide) (u4I _) (by simp only[go_sem])) h hsc
theorem u8h(n:Nat)(a0:r5b)(r:r5b)(h:u4k n a0=some r):Pure Tryz.prog gl 109 [.agg [.int .i64 a0.form.kind,.str a0.form.name,.sl false 1 16 (rows r4X a0.form.words),.sl false 4 72 (rows p6w.cells a0.form.subs),.sl false 1 16 (rows r4X a0.words),.sl false 1 16 (rows r4X a0.r5o),.sl false 1 16 (rows r4X a0.parts)]] (.agg [.int .i64 r.form.kind,.str r.form.name,.sl false 1 16 (rows r4X r.form.words),.sl false 4 72 (rows p6w.cells r.form.subs),.sl false 1 16 (rows r4X r.words),.sl false 1 16 (rows r4X r.r5o),.sl false 1 16 (rows r4X r.parts)]):=by
 intro st
 unfold u4k at h
 have fx:=trivial
 refine fb 23 [.cell 2 47] [0,1,2,3,4] Tryz.func109 fun hsc=>?_
 refine rn ?_
 refine dw [3,6,10,14] 0 ?_
 obtain⟨v1,hv1,h⟩:=r7G h
 refine u2j [st.length,(st.length+2)] (fun st2 h2=>((u7t n _ _ _ _ _ _ _ _ _ _ hv1 st2 _ _ (by simp) ((h2 _ (by simp)).trans (u3p.trans rfl)) ((h2 _ (by simp)).trans (u4b.trans rfl))).up (.cons _ _ _ _ .s (.cons _ _ _ _ (.r5g _ _ _ (by decide)) (.cons _ _ _ _ .s (.cons _ _ _ _ .s .nil)))) (by have q0:=r5h ((h2 st.length (by simp)).trans (u3p.trans rfl));have q1:=r5h ((h2 (st.length+2) (by simp)).trans (u4b.trans rfl));simp<;>omega))) (by simp) (by simp only[List.mem_cons,List.not_mem_nil,or_false,forall_eq_or_imp,forall_eq];exact⟨⟨by first|omega|(simp<;>omega),_,(u3p.trans rfl),Ob.noConfusion⟩,⟨by first|omega|(simp<;>omega),_,(u4b.trans rfl),Ob.noConfusion⟩⟩) (by simp) ?_
 try simp only[go_sem,fx]
 obtain⟨v2,hv2,h⟩:=r7G h
 refine r8U (u2g _ _ _ hv2) ?_
 try simp only[go_sem,fx]
 obtain⟨v3,hv3,h⟩:=r7G h
 refine r8U (u2g _ _ _ hv3) ?_
 try simp only[go_sem,fx]
 obtain⟨v4,hv4,h⟩:=r7G h
 refine r8U (u2g _ _ _ hv4) ?_
 try simp only[go_sem,fx]
 try refine⟨by first|omega|(simp<;>omega),?_⟩
 exact rt
theorem u4C(a0:(List Bs))(a1:(List Bs))(r:Bool)(h:r6K a0 a1=some r):Pure Tryz.prog gl 158 [.sl false 1 16 (rows r4X a0),.sl false 1 16 (rows r4X a1)] (.bool r):=by
 intro st
 unfold r6K at h
 have fx:=trivial
 refine fb 26 [.tmp 4] [0,1,4,5,10,12,13,14,24] Tryz.func158 fun hsc=>?_
 refine cd h (fun hc h=>?_) fun hc h=>?_
 ·exact rt
 ·refine aln 0 fun hl0=>?_
  refine rng (body:=r7K a1 a0) (kk:=r7L) (n:=a0.length) (s0:=())
   (fun(gs0:Unit) (k0:Nat) (s0:Unit)=>[(0,.sl false 1 16 (rows r4X a0)),(1,.sl false 1 16 (rows r4X a1)),(12,.int .i64 (↑a0.length:Int)),(13,.int .i64 (↑k0:Int))])
   (fun(gs0:Unit) (k0:Nat) (s0:Unit)=>st)
   (fun(gt0:Unit) (t0:Unit)=>[])
   (fun(gt0:Unit) (t0:Unit)=>st)
   () fx hl0 h (u6s hsc)
   (fun gs0 k0 s0 b0 fx h hx0=>?_) (fun gs0 s0=>?_) (fun gt0 t0 fr1 st1 h hb=>?_)
  ·unfold r7K at h
   refine ct ?_
   refine rn ?_
   obtain⟨fx,h⟩:=ck fx h
   refine dw [] 0 ?_
   refine cd h (fun hc h=>?_) fun hc h=>?_
   ·refine ra ?_
    cases h
    refine r7h ?_;have h:=congrArg some (hx0 _ rfl)
    exact rt
   ·refine rn ?_
    cases h
    exact u2o () (u6s hsc)
  ·refine cf ?_
   refine u2n ?_;simp only[go_sem,fx]
   exact⟨(),(u6s hsc)⟩
  ·try simp only[go_sem,fx]
   unfold r7L at h
   refine r6O hb ?_
   exact rt
theorem w1Q:∀(n:Nat) (a0:p6w) (a1:p6w) (r:Bool) (h:u1O n a0 a1=some r),Pure Tryz.prog gl 141 [.agg [.int .i64 a0.kind,.str a0.name,.sl false 1 16 (rows r4X a0.words),.sl false 4 72 (rows p6w.cells a0.subs)],.agg [.int .i64 a1.kind,.str a1.name,.sl false 1 16 (rows r4X a1.words),.sl false 4 72 (rows p6w.cells a1.subs)]] (.bool r):=by
 intro n
 induction n with
 |zero=>intro a0 a1 r h;cases h
 |succ n ih=>
  intro a0 a1 r h st
  unfold u1O at h
  have fx:=trivial
  refine fb 54 [.tmp 4] [0,1,2,3,4,5,12,13,14,15,16,19,20,21,22,23,24,27,28,29,30,31,32,33,34,37,38,39,52] Tryz.func141 fun hsc=>?_
  refine rn ?_
  obtain⟨v1,hv1,h⟩:=r7G h
  refine u0C (fun hG=>(u4C _ _ _ (w1s hv1 (by simpa using hG)))) ?_
  refine cd h (fun hc h=>?_) fun hc h=>?_
  ·exact rt
  ·obtain⟨fx,h⟩:=ck fx h
   refine rn ?_
   refine rng (body:=u3k (u1O n) a1 a0) (kk:=u3l) (n:=a0.subs.length) (s0:=())
    (fun(gs0:Unit) (k0:Nat) (s0:Unit)=>[(2,.ptr st.length 0 0 0),(3,.ptr (st.length+1) 0 0 0),(37,.int .i64 (↑a0.subs.length:Int)),(38,.int .i64 (↑k0:Int))])
    (fun(gs0:Unit) (k0:Nat) (s0:Unit)=>st++[some (.arr 0 4 0 [[.int .i64 a0.kind,.str a0.name,.sl false 1 16 (rows r4X a0.words),.sl false 4 72 (rows p6w.cells a0.subs)]]),some (.arr 0 4 0 [[.int .i64 a1.kind,.str a1.name,.sl false 1 16 (rows r4X a1.words),.sl false 4 72 (rows p6w.cells a1.subs)]])])
    (fun(gt0:Unit) (t0:Unit)=>[])
    (fun(gt0:Unit) (t0:Unit)=>st)
    () fx fx.2 h (bm hsc)
    (fun gs0 k0 s0 b0 fx h hx0=>?_) (fun gs0 s0=>?_) (fun gt0 t0 fr1 st1 h hb=>?_)
   ·unfold u3k at h
    refine ct ?_
    refine rn ?_
    obtain⟨fx,h⟩:=ck fx h
    refine dw [] 0 ?_
    obtain⟨v4,hv4,h⟩:=r7G h
    refine r8U (ih _ _ _ hv4) ?_
    try simp only[go_sem,fx]
    refine cd h (fun hc h=>?_) fun hc h=>?_
    ·refine ra ?_
     cases h
     refine r7h ?_;have h:=congrArg some (hx0 _ rfl)
     exact rt
    ·refine rn ?_
     cases h
     exact u2o () (bm hsc)
   ·refine cf ?_
    refine u2n ?_;simp only[go_sem,fx]
    exact⟨(),(bm0 hsc)⟩
   ·try simp only[go_sem,fx]
    unfold u3l at h
    refine r6O hb ?_
    exact rt
theorem u4P(a1:Bs)(a2:Bs)(m0:(List (Bs×r4Y)))(r:Bool×(List (Bs×r4Y)))(h:r8W a1 a2 m0=some r):∀(st:St) (o0:Nat) (hnd: [o0].Nodup) (r6Q:Am.look st o0=some (.mps true (mrw r4Y.cells m0))),Am.Spec Tryz.prog gl 142 [.mp o0,.str a1,.str a2] st (fun d st'=>d= .bool r.1∧st'=puts st [(o0,(.mps true (mrw r4Y.cells r.2)))]):=by
 intro st o0 hnd r6Q
 unfold r8W at h
 have ho0:=r5h r6Q
 have fx:=idf ho0
 refine fb 25 [.tmp 6] [0,1,2,6,7,8,15] Tryz.func142 fun hsc=>?_
 refine r8l (s':=(r5k st [(o0,(.mps true (mrw r4Y.cells m0)))])) (r5p (by simp[r6Q])) ?_
 refine cd h (fun hc h=>?_) fun hc h=>?_
 ·refine rr ?_
  exact fuo (.bool (decide ((((assoc a1 m0).getD default).text)=a2))) (.same _) h hsc
 ·refine r0 ?_
  obtain⟨c1,hc1,h⟩:=u2v h
  have fy:=(show r5j a1 [.str a1,.str a2,.int .i64 0,.str [],.sl false 1 16 [],.sl false 4 72 []] (mrw r4Y.cells m0)=mrw r4Y.cells c1 from by rw[hc1];exact u4W (κ:=Bs) (E:=r4Y.cells) a1 (r4Y.mk a1 a2 (p6w.mk 0 [] [] [])) m0)
  refine r1 ?_
  refine rr ?_
  exact fuo (.bool true) (.same _) h hsc
theorem u8P:∀(n:Nat) (a0:r5b) (a1:p6w) (a2:p6w) (m0:(List (Bs×r4Y))) (r:Bool×(List (Bs×r4Y))) (h:r5I n a0 a1 a2 m0=some r),∀(st:St) (o0:Nat) (hnd: [o0].Nodup) (r6Q:Am.look st o0=some (.mps true (mrw r4Y.cells m0))),Am.Spec Tryz.prog gl 110 [.agg [.int .i64 a0.form.kind,.str a0.form.name,.sl false 1 16 (rows r4X a0.form.words),.sl false 4 72 (rows p6w.cells a0.form.subs),.sl false 1 16 (rows r4X a0.words),.sl false 1 16 (rows r4X a0.r5o),.sl false 1 16 (rows r4X a0.parts)],.agg [.int .i64 a1.kind,.str a1.name,.sl false 1 16 (rows r4X a1.words),.sl false 4 72 (rows p6w.cells a1.subs)],.agg [.int .i64 a2.kind,.str a2.name,.sl false 1 16 (rows r4X a2.words),.sl false 4 72 (rows p6w.cells a2.subs)],.mp o0] st (fun d st'=>d= .bool r.1∧st'=puts st [(o0,(.mps true (mrw r4Y.cells r.2)))]):=by
 intro n
 induction n with
 |zero=>intro a0 a1 a2 m0 r h;cases h
 |succ n ih=>
  intro a0 a1 a2 m0 r h st o0 hnd r6Q
  unfold r5I at h
  have ho0:=r5h r6Q
  have fx:=idf ho0
  refine fb 138 [.tmp 8] [0,1,2,3,4,5,6,8,9,10,11,12,14,15,16,19,27,45,46,47,48,49,50,51,52,53,60,61,62,63,64,72,73,80,81,82,83,93,96,97,98,99,109,110,120,121,122,123,136] Tryz.func110 fun hsc=>?_
  refine r8l (s':=(r5k st [(o0,(.mps true (mrw r4Y.cells m0)))])) (r5p (by simp[r6Q])) ?_
  refine cl h (r8v _ _) fun v1 h=>?_
  refine cd h (fun hc h=>?_) fun hc h=>?_
  ·refine cd h (fun hc h=>?_) fun hc h=>?_
   ·refine cl h (w1Q n _ _) fun v2 h=>?_
    refine rr ?_
    exact fuo (.bool v2) (.same _) h hsc
   ·refine r0 ?_
    obtain⟨c3,hc3,h⟩:=u2v h
    have fy:=(show r5j a1.name [.str a1.name,.str [],.int .i64 a2.kind,.str a2.name,.sl false 1 16 (rows r4X a2.words),.sl false 4 72 (rows p6w.cells a2.subs)] (mrw r4Y.cells m0)=mrw r4Y.cells c3 from by rw[hc3];exact u4W (κ:=Bs) (E:=r4Y.cells) a1.name (r4Y.mk a1.name [] a2) m0)
    refine r1 ?_
    refine rr ?_
    exact fuo (.bool true) (.same _) h hsc
  ·refine cd h (fun hc h=>?_) fun hc h=>?_
   ·refine rr ?_
    exact fuo (.bool false) (.same _) h hsc
   ·refine cl h (r5F _) fun v5 h=>?_
    refine rn ?_
    refine r9E (r6n (r5I n) a1 a2 m0 a0) r (fun(gj0:Unit) (j0:Bool)=>[(3,.mp o0),(4,.ptr st.length 0 0 0),(5,.ptr (st.length+1) 0 0 0),(6,.ptr (st.length+2) 0 0 0),(53,.bool j0)]) (fun(gj0:Unit) (j0:Bool)=>(r5k st [(o0,(.mps true (mrw r4Y.cells m0)))])++[some (.arr 0 7 0 [[.int .i64 a0.form.kind,.str a0.form.name,.sl false 1 16 (rows r4X a0.form.words),.sl false 4 72 (rows p6w.cells a0.form.subs),.sl false 1 16 (rows r4X a0.words),.sl false 1 16 (rows r4X a0.r5o),.sl false 1 16 (rows r4X a0.parts)]]),some (.arr 0 4 0 [[.int .i64 a1.kind,.str a1.name,.sl false 1 16 (rows r4X a1.words),.sl false 4 72 (rows p6w.cells a1.subs)]]),some (.arr 0 4 0 [[.int .i64 a2.kind,.str a2.name,.sl false 1 16 (rows r4X a2.words),.sl false 4 72 (rows p6w.cells a2.subs)]])]) (fun gj0 j0 fr1 st1 h hb=>?_) (fun hj0=>?_)
    ·try simp only[go_sem,fx]
     unfold r6n at h
     refine r6O hb ?_
     (repeat apply sq_)
     refine r9E (r7j (r5I n) a1 a0 a2) r (fun(gj1:Unit) (j1:(List (Bs×r4Y)))=>[(3,.mp o0),(4,.ptr st.length 0 0 0),(5,.ptr (st.length+1) 0 0 0),(6,.ptr (st.length+2) 0 0 0)]) (fun(gj1:Unit) (j1:(List (Bs×r4Y)))=>(r5k st [(o0,(.mps true (mrw r4Y.cells j1)))])++[some (.arr 0 7 0 [[.int .i64 a0.form.kind,.str a0.form.name,.sl false 1 16 (rows r4X a0.form.words),.sl false 4 72 (rows p6w.cells a0.form.subs),.sl false 1 16 (rows r4X a0.words),.sl false 1 16 (rows r4X a0.r5o),.sl false 1 16 (rows r4X a0.parts)]]),some (.arr 0 4 0 [[.int .i64 a1.kind,.str a1.name,.sl false 1 16 (rows r4X a1.words),.sl false 4 72 (rows p6w.cells a1.subs)]]),some (.arr 0 4 0 [[.int .i64 a2.kind,.str a2.name,.sl false 1 16 (rows r4X a2.words),.sl false 4 72 (rows p6w.cells a2.subs)]])]) (fun gj1 j1 fr1 st1 h hb=>?_) (fun hj1=>?_)
     ·try simp only[go_sem,fx]
      unfold r7j at h
      refine r6O hb ?_
      refine aln 80 fun hl2=>?_
      refine rng (body:=r9R a1 a0 a2) (kk:=r9S (r5I n) a2 a0 a1) (n:=a1.words.length) (s0:=j1)
       (fun(gs2:Unit) (k2:Nat) (s2:(List (Bs×r4Y)))=>[(3,.mp o0),(4,.ptr st.length 0 0 0),(5,.ptr (st.length+1) 0 0 0),(6,.ptr (st.length+2) 0 0 0),(80,.sl false 1 16 (rows r4X a1.words)),(81,.int .i64 (↑a1.words.length:Int)),(82,.int .i64 (↑k2:Int))])
       (fun(gs2:Unit) (k2:Nat) (s2:(List (Bs×r4Y)))=>(r5k st [(o0,(.mps true (mrw r4Y.cells s2)))])++[some (.arr 0 7 0 [[.int .i64 a0.form.kind,.str a0.form.name,.sl false 1 16 (rows r4X a0.form.words),.sl false 4 72 (rows p6w.cells a0.form.subs),.sl false 1 16 (rows r4X a0.words),.sl false 1 16 (rows r4X a0.r5o),.sl false 1 16 (rows r4X a0.parts)]]),some (.arr 0 4 0 [[.int .i64 a1.kind,.str a1.name,.sl false 1 16 (rows r4X a1.words),.sl false 4 72 (rows p6w.cells a1.subs)]]),some (.arr 0 4 0 [[.int .i64 a2.kind,.str a2.name,.sl false 1 16 (rows r4X a2.words),.sl false 4 72 (rows p6w.cells a2.subs)]])])
       (fun(gt2:Unit) (t2:(List (Bs×r4Y)))=>[(3,.mp o0),(4,.ptr st.length 0 0 0),(5,.ptr (st.length+1) 0 0 0),(6,.ptr (st.length+2) 0 0 0)])
       (fun(gt2:Unit) (t2:(List (Bs×r4Y)))=>(r5k st [(o0,(.mps true (mrw r4Y.cells t2)))])++[some (.arr 0 7 0 [[.int .i64 a0.form.kind,.str a0.form.name,.sl false 1 16 (rows r4X a0.form.words),.sl false 4 72 (rows p6w.cells a0.form.subs),.sl false 1 16 (rows r4X a0.words),.sl false 1 16 (rows r4X a0.r5o),.sl false 1 16 (rows r4X a0.parts)]]),some (.arr 0 4 0 [[.int .i64 a1.kind,.str a1.name,.sl false 1 16 (rows r4X a1.words),.sl false 4 72 (rows p6w.cells a1.subs)]]),some (.arr 0 4 0 [[.int .i64 a2.kind,.str a2.name,.sl false 1 16 (rows r4X a2.words),.sl false 4 72 (rows p6w.cells a2.subs)]])])
       () fx hl2 h (bu hsc)
       (fun gs2 k2 s2 b2 fx h hx2=>?_) (fun gs2 s2=>?_) (fun gt2 t2 fr1 st1 h hb=>?_)
      ·unfold r9R at h
       refine ct ?_
       refine rn ?_
       obtain⟨v12,hv12,h⟩:=r7G h
       refine u0C (fun hG=>(r5f _ _ _ (w1s hv12 (by simpa using hG)))) ?_
       refine cd h (fun hc h=>?_) fun hc h=>?_
       ·obtain⟨fx,h⟩:=ck fx h
        refine rn ?_
        obtain⟨v14,hv14,h⟩:=r7G h
        refine(u4P _ _ _ _ hv14 _ _ hnd (by simp only[go_sem,fx])).mono ?_
        rintro d1 st1 ⟨rfl,rfl⟩
        refine cd h (fun hc h=>?_) fun hc h=>?_
        ·refine ra ?_
         cases h
         refine r7h ?_;have h:=congrArg some (hx2 _ rfl)
         refine rr ?_
         exact fuo (.bool false) (.same _) h hsc
        ·refine rn ?_
         cases h
         exact u2o () (bu hsc)
       ·obtain⟨fx,h⟩:=ck fx h
        refine cd h (fun hc h=>?_) fun hc h=>?_
        ·refine ra ?_
         cases h
         refine r7h ?_;have h:=congrArg some (hx2 _ rfl)
         refine rr ?_
         exact fuo (.bool false) (.same _) h hsc
        ·refine rn ?_
         cases h
         exact u2o () (bu hsc)
      ·refine cf ?_
       refine u2n ?_;simp only[go_sem,fx]
       exact⟨(),(bu hsc)⟩
      ·try simp only[go_sem,fx]
       unfold r9S at h
       refine r6O hb ?_
       refine aln 120 fun hl3=>?_
       refine rng (body:=r9T (r5I n) a2 a0 a1) (kk:=r9U) (n:=a1.subs.length) (s0:=t2)
        (fun(gs3:Unit) (k3:Nat) (s3:(List (Bs×r4Y)))=>[(3,.mp o0),(4,.ptr st.length 0 0 0),(6,.ptr (st.length+2) 0 0 0),(120,.sl false 4 72 (rows p6w.cells a1.subs)),(121,.int .i64 (↑a1.subs.length:Int)),(122,.int .i64 (↑k3:Int))])
        (fun(gs3:Unit) (k3:Nat) (s3:(List (Bs×r4Y)))=>(r5k st [(o0,(.mps true (mrw r4Y.cells s3)))])++[some (.arr 0 7 0 [[.int .i64 a0.form.kind,.str a0.form.name,.sl false 1 16 (rows r4X a0.form.words),.sl false 4 72 (rows p6w.cells a0.form.subs),.sl false 1 16 (rows r4X a0.words),.sl false 1 16 (rows r4X a0.r5o),.sl false 1 16 (rows r4X a0.parts)]]),none,some (.arr 0 4 0 [[.int .i64 a2.kind,.str a2.name,.sl false 1 16 (rows r4X a2.words),.sl false 4 72 (rows p6w.cells a2.subs)]])])
        (fun(gt3:Unit) (t3:(List (Bs×r4Y)))=>[])
        (fun(gt3:Unit) (t3:(List (Bs×r4Y)))=>(r5k st [(o0,(.mps true (mrw r4Y.cells t3)))]))
        () fx hl3 h (bu hsc)
        (fun gs3 k3 s3 b3 fx h hx3=>?_) (fun gs3 s3=>?_) (fun gt3 t3 fr1 st1 h hb=>?_)
       ·unfold r9T at h
        refine ct ?_
        refine rn ?_
        obtain⟨fx,h⟩:=ck fx h
        refine dw [8] 0 ?_
        obtain⟨v19,hv19,h⟩:=r7G h
        refine u2j [o0] (fun st2 h2=>(ih _ _ _ _ _ hv19 st2 _ hnd ((h2 _ (by simp)).trans (by simp only[go_sem,fx])))) (by simp) (by simp only[List.mem_cons,List.not_mem_nil,or_false,forall_eq_or_imp,forall_eq];exact⟨by first|omega|(simp<;>omega),_,(by simp only[go_sem,fx]<;>rfl),Ob.noConfusion⟩) (by simp) ?_
        try simp only[go_sem,fx]
        try refine⟨by first|omega|(simp<;>omega),?_⟩
        refine cd h (fun hc h=>?_) fun hc h=>?_
        ·refine ra ?_
         cases h
         refine r7h ?_;have h:=congrArg some (hx3 _ rfl)
         refine rr ?_
         exact fuo (.bool false) (.same _) h hsc
        ·refine rn ?_
         cases h
         exact u2o () (bu hsc)
       ·refine cf ?_
        refine u2n ?_;simp only[go_sem,fx]
        exact⟨(),(bu0 hsc)⟩
       ·try simp only[go_sem,fx]
        unfold r9U at h
        refine r6O hb ?_
        refine rr ?_
        exact fus (.bool true) (.same _) h hsc
     ·refine cd h (fun hc h=>?_) fun hc h=>?_
      ·refine rn ?_
       obtain⟨v7,hv7,h⟩:=r7G h
       refine(u4P _ _ _ _ hv7 _ _ hnd (by simp only[go_sem,fx])).mono ?_
       rintro d1 st1 ⟨rfl,rfl⟩
       refine cd h (fun hc h=>?_) fun hc h=>?_
       ·refine rr ?_
        exact fuo (.bool false) (.same _) h hsc
       ·refine r0 ?_
        refine hj1 () _ _ _ h ?_;exact(bu hsc)
      ·refine cd h (fun hc h=>?_) fun hc h=>?_
       ·refine rr ?_
        exact fuo (.bool false) (.same _) h hsc
       ·refine r0 ?_
        refine hj1 () _ _ _ h ?_;exact(bu hsc)
    ·refine cd h (fun hc h=>?_) fun hc h=>?_
     ·refine r0 ?_
      refine hj0 () _ _ _ h ?_;exact(bu hsc)
     ·refine rn ?_
      obtain⟨v6,hv6,h⟩:=r7G h
      refine u0C (fun hG=>(r5f _ _ _ (w1s hv6 (by simpa using hG)))) ?_
      try simp only[go_sem,fx]
      refine hj0 () _ _ _ h ?_;exact(bu hsc)
theorem u3S(a1:Bs)(l0:(List Bs))(r:Int)(h:r9x a1 l0=some r):∀(st:St) (o0 q0:Nat) (hnd: [o0].Nodup) (r6Q:Am.look st o0=some (.arr q0 1 16 (rows r4X l0))),Am.Spec Tryz.prog gl 56 [.ref false o0 q0 0 l0.length,.str a1] st (fun d st'=>d= .int .i64 r∧st'=puts st []):=by
 intro st o0 q0 hnd r6Q
 unfold r9x at h
 have ho0:=r5h r6Q
 have fx:=idf ho0
 refine fb 19 [.tmp 4] [0,1,4,5,7,8,9,16] Tryz.func56 fun hsc=>?_
 refine r8l (s':=(r5k st [(o0,(.arr q0 1 16 (rows r4X l0)))])) (r5p (by simp[r6Q])) ?_
 obtain⟨fx,h⟩:=ck fx h
 refine rn ?_
 refine rng (body:=r8L a1 l0) (kk:=r8M) (n:=l0.length) (s0:=())
  (fun(gs0:Unit) (k0:Nat) (s0:Unit)=>[(0,.ref false o0 q0 0 l0.length),(1,.str a1),(7,.int .i64 (↑l0.length:Int)),(8,.int .i64 (↑k0:Int))])
  (fun(gs0:Unit) (k0:Nat) (s0:Unit)=>(r5k st [(o0,(.arr q0 1 16 (rows r4X l0)))]))
  (fun(gt0:Unit) (t0:Unit)=>[])
  (fun(gt0:Unit) (t0:Unit)=>(r5k st [(o0,(.arr q0 1 16 (rows r4X l0)))]))
  () fx fx.2 h (w6U hsc)
  (fun gs0 k0 s0 b0 fx h hx0=>?_) (fun gs0 s0=>?_) (fun gt0 t0 fr1 st1 h hb=>?_)
 ·unfold r8L at h
  refine ct ?_
  refine r0 ?_
  refine r0 ?_
  refine r0 ?_
  have fy:=(show(rows r4X l0).getD k0 []=r4X (get l0 k0)from w9S (E:=r4X) (l:=l0) (k:=k0) (by first|omega|(simp;omega)))
  have fy:=fa fy (show k0<l0.length from by first|omega|(simp;omega))
  refine r1 ?_
  refine cd h (fun hc h=>?_) fun hc h=>?_
  ·refine ra ?_
   cases h
   refine r7h ?_;have h:=congrArg some (hx0 _ rfl)
   refine rr ?_
   exact fus (.int .i64 (↑k0:Int)) (.same _) h hsc (hr:=by rintro rfl;exact⟨rfl,r5p (by simp[r6Q])⟩)
  ·refine rn ?_
   cases h
   exact u2o () (w6U hsc)
 ·refine cf ?_
  refine u2n ?_;simp only[go_sem,fx]
  exact⟨(),(w6U hsc)⟩
 ·try simp only[go_sem,fx]
  unfold r8M at h
  refine r6O hb ?_
  refine rr ?_
  exact fus (.int .i64 (-1)) (.same _) h hsc (hr:=by rintro rfl;exact⟨rfl,r5p (by simp[r6Q])⟩)
theorem u3h(a1:Bs)(l0:(List Bs))(r:Bool)(h:r8N a1 l0=some r):∀(st:St) (o0 q0:Nat) (hnd: [o0].Nodup) (r6Q:Am.look st o0=some (.arr q0 1 16 (rows r4X l0))),Am.Spec Tryz.prog gl 31 [.ref false o0 q0 0 l0.length,.str a1] st (fun d st'=>d= .bool r∧st'=puts st []):=by
 intro st o0 q0 hnd r6Q
 unfold r8N at h
 have ho0:=r5h r6Q
 have fx:=idf ho0
 refine fb 9 [.tmp 4] [0,1,4] Tryz.func31 fun hsc=>?_
 refine r8l (s':=(r5k st [(o0,(.arr q0 1 16 (rows r4X l0)))])) (r5p (by simp[r6Q])) ?_
 refine rn ?_
 obtain⟨v1,hv1,h⟩:=r7G h
 refine(u3S _ _ _ hv1 _ _ q0 hnd (by simp only[go_sem,fx])).mono ?_
 rintro d1 st1 ⟨rfl,rfl⟩
 refine rr ?_
 exact fus (.bool (decide (0≤v1))) (.same _) h hsc (hr:=by rintro rfl;exact⟨rfl,r5p (by simp[r6Q])⟩)
theorem w1o:∀(n:Nat) (a0:p6w) (r:p6w) (h:u3t n a0=some r),Pure Tryz.prog gl 111 [.agg [.int .i64 a0.kind,.str a0.name,.sl false 1 16 (rows r4X a0.words),.sl false 4 72 (rows p6w.cells a0.subs)]] (.agg [.int .i64 r.kind,.str r.name,.sl false 1 16 (rows r4X r.words),.sl false 4 72 (rows p6w.cells r.subs)]):=by
 intro n
 induction n with
 |zero=>intro a0 r h;cases h
 |succ n ih=>
  intro a0 r h st
  unfold u3t at h
  have fx:=trivial
  refine fb 30 [.cell 2 31] [0,1,2,3,5,15,16,17,18] Tryz.func111 fun hsc=>?_
  refine rn ?_
  refine dw [] 1 ?_
  obtain⟨v1,hv1,h⟩:=r7G h
  refine r8U (u4B _ _ hv1) ?_
  try simp only[go_sem,fx]
  refine r0 ?_
  (repeat apply sq_)
  refine r9q 4 72 ?_
  try simp only[List.append_assoc,List.cons_append,List.nil_append]
  refine r6O (F:=[(2,.ptr (st.length+1) 0 0 0),(3,.ptr (st.length+2) 0 0 0),(15,.sl false 4 72 (rows p6w.cells a0.subs)),(16,.int .i64 (↑a0.subs.length:Int)),(17,.int .i64 0)]) (T:=st++[some (.arr 0 4 0 [[.int .i64 a0.kind,.str a0.name,.sl false 1 16 (rows r4X a0.words),.sl false 4 72 (rows p6w.cells a0.subs)]]),some (.arr 0 4 0 [[.int .i64 0,.str [],.r5g,.r5g]]),some (.arr 0 4 0 [[.int .i64 a0.kind,.str a0.name,.sl false 1 16 (rows r4X v1),.ref false (st.length+3) 0 0 0]]),some (.arr 0 4 72 (rows p6w.cells []))]) (w5R hsc (.lv (.lv (.live _ _ _ _ (.arr _ _ _ _ _ (.cons _ _ _ _ (.cons _ _ _ _ .s (.cons _ _ _ _ .s (.cons _ _ _ _ .s (.cons _ _ _ _ (.nref _ _ _ _ _ _ (w0z.trans rfl)) .nil)))) (.same _))) (.lv (.nil _))))) (by simp) ⟨.s,.s,.s,.s,.s,trivial⟩ (by simp)) ?_
  refine aln 15 fun hl0=>?_
  refine rng (body:=u4l (u3t n) a0) (kk:=u4m a0 v1) (n:=a0.subs.length) (s0:=[])
   (fun(gs0:Nat) (k0:Nat) (s0:(List p6w))=>[(2,.ptr (st.length+1) 0 0 0),(3,.ptr (st.length+2) 0 0 0),(15,.sl false 4 72 (rows p6w.cells a0.subs)),(16,.int .i64 (↑a0.subs.length:Int)),(17,.int .i64 (↑k0:Int))])
   (fun(gs0:Nat) (k0:Nat) (s0:(List p6w))=>st++[none,some (.arr 0 4 0 [[.int .i64 0,.str [],.r5g,.r5g]]),some (.arr 0 4 0 [[.int .i64 a0.kind,.str a0.name,.sl false 1 16 (rows r4X v1),.ref false (st.length+3) gs0 0 s0.length]]),some (.arr gs0 4 72 (rows p6w.cells s0))])
   (fun(gt0:Nat) (t0:(List p6w))=>[(2,.ptr (st.length+1) 0 0 0),(3,.ptr (st.length+2) 0 0 0)])
   (fun(gt0:Nat) (t0:(List p6w))=>st++[none,some (.arr 0 4 0 [[.int .i64 0,.str [],.r5g,.r5g]]),some (.arr 0 4 0 [[.int .i64 a0.kind,.str a0.name,.sl false 1 16 (rows r4X v1),.ref false (st.length+3) gt0 0 t0.length]]),some (.arr gt0 4 72 (rows p6w.cells t0))])
   0 fx hl0 h (bm hsc)
   (fun gs0 k0 s0 b0 fx h hx0=>?_) (fun gs0 s0=>?_) (fun gt0 t0 fr1 st1 h hb=>?_)
  ·unfold u4l at h
   refine ct ?_
   refine rn ?_
   refine dw [] 2 ?_
   obtain⟨v9,hv9,h⟩:=r7G h
   refine r8U (ih _ _ hv9) ?_
   obtain⟨c11,x8K,h⟩:=u2v h
   have fy:=(show rows p6w.cells s0++[[.int .i64 v9.kind,.str v9.name,.sl false 1 16 (rows r4X v9.words),.sl false 4 72 (rows p6w.cells v9.subs)]]=rows p6w.cells c11 from by rw[x8K];first|exact r5y (E:=p6w.cells) s0 [v9]|simp only[go_sem,rows,List.map_append,List.map_cons,List.map_nil])
   have fy:=fa fy (show s0.length+1=c11.length from by rw[x8K];simp)
   obtain⟨fx,h⟩:=ck fx h
   try simp only[go_sem,fx,fy]
   refine rn ?_
   cases h
   exact u2o (gs0+1) (bm hsc)
  ·refine cf ?_
   refine u2n ?_;simp only[go_sem,fx]
   exact⟨gs0,(bm hsc)⟩
  ·try simp only[go_sem,fx]
   unfold u4m at h
   refine r6O hb ?_
   refine rr ?_
   exact fo (.agg [.int .i64 a0.kind,.str a0.name,.sl false 1 16 (rows r4X v1),.sl false 4 72 (rows p6w.cells t0)]) (.agg _ _ (.cons _ _ _ _ .s (.cons _ _ _ _ .s (.cons _ _ _ _ .s (.cons _ _ _ _ (.ref _ _ _ _ _ _ _ _ _ (w0z.trans rfl) x1H (by decide) (u4I _) (by simp only[go_sem])) .nil))))) h hsc
end Go.Proofs.YtfacbpehlibilaaGreatDoor
