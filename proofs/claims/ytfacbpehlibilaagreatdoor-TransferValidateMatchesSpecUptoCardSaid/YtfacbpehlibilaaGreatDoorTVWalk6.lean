import Derived.Test.YtfacbpehlibilaaGreatDoorTVWalk5
set_option linter.unusedVariables false
set_option linter.unusedSimpArgs false
set_option maxHeartbeats 2000000
set_option maxRecDepth 100000
namespace Go.Proofs.YtfacbpehlibilaaGreatDoor
open Go Go.Am
theorem u9x(n:Nat)(a0:r5b)(a1:p6w)(r:(List r4Y)×Bool)(h:u5N n a0 a1=some r):Pure Tryz.prog gl 89 [.agg [.int .i64 a0.form.kind,.str a0.form.name,.sl false 1 16 (rows r4X a0.form.words),.sl false 4 72 (rows p6w.cells a0.form.subs),.sl false 1 16 (rows r4X a0.words),.sl false 1 16 (rows r4X a0.r5o),.sl false 1 16 (rows r4X a0.parts)],.agg [.int .i64 a1.kind,.str a1.name,.sl false 1 16 (rows r4X a1.words),.sl false 4 72 (rows p6w.cells a1.subs)]] (.tup [.sl false 6 104 (rows r4Y.cells r.1),.bool r.2]):=by
 intro st
 unfold u5N at h
 have fx:=trivial
 refine fb 83 [.tmp 4,.tmp 5] [0,1,2,3,4,5,6,7,8,9,11,13,14,24,27,28,29,30,47,48,49,50,61,62,63,64,65,72] Tryz.func89 fun hsc=>?_
 refine cl h (u8h n _) fun v1 h=>?_
 refine rn ?_
 obtain⟨v2,hv2,h⟩:=r7G h
 refine(u8P n _ _ _ _ _ hv2 _ _ (by simp) (u4b.trans rfl)).mono ?_
 rintro d1 st1 ⟨rfl,rfl⟩
 refine cd h (fun hc h=>?_) fun hc h=>?_
 ·refine rr ?_
  exact fo (.tup [.sl false 6 104 (rows r4Y.cells []),.bool false]) (.tup _ _ (.cons _ _ _ _ (.r5g _ _ _ (by decide)) (.cons _ _ _ _ .s .nil)) rfl) h hsc
 ·refine cl h (r6N n _) fun v3 h=>?_
  try simp only[go_sem,fx]
  (repeat apply sq_)
  refine r9q 1 16 ?_
  try simp only[List.append_assoc,List.cons_append,List.nil_append]
  refine r6O (F:=[(6,.mp (st.length+2)),(7,.ptr (st.length+3) 0 0 0),(8,.r5g),(9,.ref false (st.length+4) 0 0 0),(27,.sl false 1 16 (rows r4X v3)),(28,.int .i64 (↑v3.length:Int)),(29,.int .i64 0)]) (T:=st++[some (.arr 0 7 0 [[.int .i64 a0.form.kind,.str a0.form.name,.sl false 1 16 (rows r4X a0.form.words),.sl false 4 72 (rows p6w.cells a0.form.subs),.sl false 1 16 (rows r4X a0.words),.sl false 1 16 (rows r4X a0.r5o),.sl false 1 16 (rows r4X a0.parts)]]),some (.arr 0 4 0 [[.int .i64 a1.kind,.str a1.name,.sl false 1 16 (rows r4X a1.words),.sl false 4 72 (rows p6w.cells a1.subs)]]),some (.mps true (mrw r4Y.cells v2.2)),some (.arr 0 7 0 [[.int .i64 v1.form.kind,.str v1.form.name,.sl false 1 16 (rows r4X v1.form.words),.sl false 4 72 (rows p6w.cells v1.form.subs),.sl false 1 16 (rows r4X v1.words),.sl false 1 16 (rows r4X v1.r5o),.sl false 1 16 (rows r4X v1.parts)]]),some (.arr 0 1 16 (rows r4X []))]) (w5R hsc (.lv (.lv (.lv (.lv (.lv (.nil _)))))) (by simp) ⟨.s,.s,.s,.nref _ _ _ _ _ _ (w0z.trans rfl),.s,.s,.s,trivial⟩ (by simp)) ?_
  refine aln 27 fun hl0=>?_
  refine rng (body:=u3B v3 v2) (kk:=u3E n v1 v2) (n:=v3.length) (s0:=[])
   (fun(gs0:Nat) (k0:Nat) (s0:(List Bs))=>[(6,.mp (st.length+2)),(7,.ptr (st.length+3) 0 0 0),(8,.r5g),(9,.ref false (st.length+4) gs0 0 s0.length),(27,.sl false 1 16 (rows r4X v3)),(28,.int .i64 (↑v3.length:Int)),(29,.int .i64 (↑k0:Int))])
   (fun(gs0:Nat) (k0:Nat) (s0:(List Bs))=>st++[none,none,some (.mps true (mrw r4Y.cells v2.2)),some (.arr 0 7 0 [[.int .i64 v1.form.kind,.str v1.form.name,.sl false 1 16 (rows r4X v1.form.words),.sl false 4 72 (rows p6w.cells v1.form.subs),.sl false 1 16 (rows r4X v1.words),.sl false 1 16 (rows r4X v1.r5o),.sl false 1 16 (rows r4X v1.parts)]]),some (.arr gs0 1 16 (rows r4X s0))])
   (fun(gt0:Nat) (t0:(List Bs))=>[(6,.mp (st.length+2)),(7,.ptr (st.length+3) 0 0 0),(8,.r5g),(9,.ref false (st.length+4) gt0 0 t0.length)])
   (fun(gt0:Nat) (t0:(List Bs))=>st++[none,none,some (.mps true (mrw r4Y.cells v2.2)),some (.arr 0 7 0 [[.int .i64 v1.form.kind,.str v1.form.name,.sl false 1 16 (rows r4X v1.form.words),.sl false 4 72 (rows p6w.cells v1.form.subs),.sl false 1 16 (rows r4X v1.words),.sl false 1 16 (rows r4X v1.r5o),.sl false 1 16 (rows r4X v1.parts)]]),some (.arr gt0 1 16 (rows r4X t0))])
   0 fx hl0 h (bm hsc)
   (fun gs0 k0 s0 b0 fx h hx0=>?_) (fun gs0 s0=>?_) (fun gt0 t0 fr1 st1 h hb=>?_)
  ·unfold u3B at h
   refine ct ?_
   refine r0 ?_
   refine r0 ?_
   refine r0 ?_
   obtain⟨c11,x8K,h⟩:=u2v h
   have fy:=(show rows r4X s0++[[.str (((assoc (get v3 k0) v2.2).getD default).text)]]=rows r4X c11 from by rw[x8K];first|exact r5y (E:=r4X) s0 [((assoc (get v3 k0) v2.2).getD default).text]|simp only[go_sem,rows,List.map_append,List.map_cons,List.map_nil])
   have fy:=fa fy (show s0.length+1=c11.length from by rw[x8K];simp)
   obtain⟨fx,h⟩:=ck fx h
   refine r1 ?_
   refine rn ?_
   cases h
   exact u2o (gs0+1) (bm hsc)
  ·refine cf ?_
   refine u2n ?_;simp only[go_sem,fx]
   exact⟨gs0,(bm hsc)⟩
  ·try simp only[go_sem,fx]
   unfold u3E at h
   refine r6O hb ?_
   refine rs ?_
   refine dw [] 1 ?_
   obtain⟨v16,hv16,h⟩:=r7G h
   refine r8U (u3u _ _ hv16) ?_
   try simp only[go_sem,fx]
   obtain⟨v17,hv17,h⟩:=r7G h
   refine r8U (r6N n _ _ hv17) ?_
   try simp only[go_sem,fx]
   obtain⟨v19,hv19,h⟩:=r7G h
   refine r8U (w2k _ _ hv19) ?_
   try simp only[go_sem,fx]
   (repeat apply sq_)
   refine r9q 6 104 ?_
   try simp only[List.append_assoc,List.cons_append,List.nil_append]
   refine r6O (F:=[(6,.mp (st.length+2)),(7,.ptr (st.length+3) 0 0 0),(8,.ref false (st.length+6) 0 0 0),(9,.ref false (st.length+4) gt0 0 t0.length),(47,.sl false 1 16 (rows r4X v19)),(48,.int .i64 (↑v19.length:Int)),(49,.int .i64 0)]) (T:=st++[none,none,some (.mps true (mrw r4Y.cells v2.2)),some (.arr 0 7 0 [[.int .i64 v1.form.kind,.str v1.form.name,.sl false 1 16 (rows r4X v1.form.words),.sl false 4 72 (rows p6w.cells v1.form.subs),.sl false 1 16 (rows r4X v1.words),.sl false 1 16 (rows r4X v1.r5o),.sl false 1 16 (rows r4X v1.parts)]]),some (.arr gt0 1 16 (rows r4X t0)),none,some (.arr 0 6 104 (rows r4Y.cells []))]) (w5R hsc (.dead _ _ _ (.dead _ _ _ (.lv (.lv (.lv (.dead _ _ _ (.lv (.nil _)))))))) (by simp) ⟨.s,.s,.nref _ _ _ _ _ _ (w0z.trans rfl),.s,.s,.s,.s,trivial⟩ (by simp)) ?_
   refine aln 47 fun hl1=>?_
   refine rng (body:=u3C n v1 v19 v2 t0) (kk:=u3D) (n:=v19.length) (s0:=[])
    (fun(gs1:Nat) (k1:Nat) (s1:(List r4Y))=>[(6,.mp (st.length+2)),(7,.ptr (st.length+3) 0 0 0),(8,.ref false (st.length+6) gs1 0 s1.length),(9,.ref false (st.length+4) gt0 0 t0.length),(47,.sl false 1 16 (rows r4X v19)),(48,.int .i64 (↑v19.length:Int)),(49,.int .i64 (↑k1:Int))])
    (fun(gs1:Nat) (k1:Nat) (s1:(List r4Y))=>st++[none,none,some (.mps true (mrw r4Y.cells v2.2)),some (.arr 0 7 0 [[.int .i64 v1.form.kind,.str v1.form.name,.sl false 1 16 (rows r4X v1.form.words),.sl false 4 72 (rows p6w.cells v1.form.subs),.sl false 1 16 (rows r4X v1.words),.sl false 1 16 (rows r4X v1.r5o),.sl false 1 16 (rows r4X v1.parts)]]),some (.arr gt0 1 16 (rows r4X t0)),none,some (.arr gs1 6 104 (rows r4Y.cells s1))])
    (fun(gt1:Nat) (t1:(List r4Y))=>[(8,.ref false (st.length+6) gt1 0 t1.length)])
    (fun(gt1:Nat) (t1:(List r4Y))=>st++[none,none,none,none,none,none,some (.arr gt1 6 104 (rows r4Y.cells t1))])
    0 fx hl1 h (bm hsc)
    (fun gs1 k1 s1 b1 fx h hx1=>?_) (fun gs1 s1=>?_) (fun gt1 t1 fr1 st1 h hb=>?_)
   ·unfold u3C at h
    refine ct ?_
    refine cl h (r5f _ _) fun v38 h=>?_
    refine rn ?_
    obtain⟨v39,hv39,h⟩:=r7G h
    refine x7y (fun hG=>(u3h _ _ _ (w1s hv39 (by simpa using hG)) _ _ gt0 (by simp) (u4b.trans rfl))) (fun hF=>by obtain rfl:=y2i hv39 (by simpa using hF);simp only[go_sem,fx]) ?_
    refine cd h (fun hc h=>?_) fun hc h=>?_
    ·refine ra ?_
     cases h
     refine r7h ?_;have h:=congrArg some (hx1 _ rfl)
     refine rr ?_
     exact fo (.tup [.sl false 6 104 (rows r4Y.cells []),.bool false]) (.tup _ _ (.cons _ _ _ _ (.r5g _ _ _ (by decide)) (.cons _ _ _ _ .s .nil)) rfl) h hsc
    ·obtain⟨fx,h⟩:=ck fx h
     refine cl h (r5f _ _) fun v42 h=>?_
     refine cd h (fun hc h=>?_) fun hc h=>?_
     ·refine cl h (w1o n _) fun v43 h=>?_
      try simp only[go_sem,fx]
      obtain⟨c45,y1E,h⟩:=u2v h
      have fy:=(show rows r4Y.cells s1++[[.str ((get v19 k1).drop 1),.str (((assoc (get v19 k1) v2.2).getD default).text),.int .i64 v43.kind,.str v43.name,.sl false 1 16 (rows r4X v43.words),.sl false 4 72 (rows p6w.cells v43.subs)]]=rows r4Y.cells c45 from by rw[y1E];first|exact r5y (E:=r4Y.cells) s1 [(r4Y.mk ((get v19 k1).drop 1) (((assoc (get v19 k1) v2.2).getD default).text) v43)]|simp only[go_sem,rows,List.map_append,List.map_cons,List.map_nil])
      have fy:=fa fy (show s1.length+1=c45.length from by rw[y1E];simp)
      obtain⟨fx,h⟩:=ck fx h
      refine r1 ?_
      refine rn ?_
      cases h
      exact u2o (gs1+1) (bm hsc)
     ·refine r0 ?_
      obtain⟨c51,x8L,h⟩:=u2v h
      have fy:=(show rows r4Y.cells s1++[[.str ((get v19 k1).drop 1),.str (((assoc (get v19 k1) v2.2).getD default).text),.int .i64 (((assoc (get v19 k1) v2.2).getD default).form.kind),.str (((assoc (get v19 k1) v2.2).getD default).form.name),.sl false 1 16 (rows r4X (((assoc (get v19 k1) v2.2).getD default).form.words)),.sl false 4 72 (rows p6w.cells (((assoc (get v19 k1) v2.2).getD default).form.subs))]]=rows r4Y.cells c51 from by rw[x8L];first|exact r5y (E:=r4Y.cells) s1 [(r4Y.mk ((get v19 k1).drop 1) (((assoc (get v19 k1) v2.2).getD default).text) (((assoc (get v19 k1) v2.2).getD default).form))]|simp only[go_sem,rows,List.map_append,List.map_cons,List.map_nil])
      have fy:=fa fy (show s1.length+1=c51.length from by rw[x8L];simp)
      obtain⟨fx,h⟩:=ck fx h
      refine r1 ?_
      refine rn ?_
      cases h
      exact u2o (gs1+1) (bm hsc)
   ·refine cf ?_
    refine u2n ?_;simp only[go_sem,fx]
    exact⟨gs1,(bm hsc)⟩
   ·try simp only[go_sem,fx]
    unfold u3D at h
    refine r6O hb ?_
    refine rr ?_
    exact fo (.tup [.sl false 6 104 (rows r4Y.cells t1),.bool true]) (.tup _ _ (.cons _ _ _ _ (.ref _ _ _ _ _ _ _ _ _ (w0z.trans rfl) x1H (by decide) (u4I _) (by simp only[go_sem])) (.cons _ _ _ _ .s .nil)) rfl) h hsc
theorem u2J(a0:(List r4Y))(a1:Bs)(r:Bs)(h:u0V a0 a1=some r):Pure Tryz.prog gl 112 [.sl false 6 104 (rows r4Y.cells a0),.str a1] (.str r):=by
 intro st
 unfold u0V at h
 have fx:=trivial
 refine fb 21 [.tmp 4] [0,1,4,6,7,8,9,10,16] Tryz.func112 fun hsc=>?_
 refine aln 7 fun hl0=>?_
 refine rng (body:=u2z a0 a1) (kk:=u2A a1) (n:=a0.length) (s0:=())
  (fun(gs0:Unit) (k0:Nat) (s0:Unit)=>[(1,.str a1),(7,.sl false 6 104 (rows r4Y.cells a0)),(8,.int .i64 (↑a0.length:Int)),(9,.int .i64 (↑k0:Int))])
  (fun(gs0:Unit) (k0:Nat) (s0:Unit)=>st)
  (fun(gt0:Unit) (t0:Unit)=>[(1,.str a1)])
  (fun(gt0:Unit) (t0:Unit)=>st)
  () fx hl0 h (u6s hsc)
  (fun gs0 k0 s0 b0 fx h hx0=>?_) (fun gs0 s0=>?_) (fun gt0 t0 fr1 st1 h hb=>?_)
 ·unfold u2z at h
  refine ct ?_
  refine cd h (fun hc h=>?_) fun hc h=>?_
  ·refine ra ?_
   cases h
   refine r7h ?_;have h:=congrArg some (hx0 _ rfl)
   exact rt
  ·refine rn ?_
   cases h
   exact u2o () (bm0 hsc)
 ·refine cf ?_
  refine u2n ?_;simp only[go_sem,fx]
  exact⟨(),(u6s hsc)⟩
 ·try simp only[go_sem,fx]
  unfold u2A at h
  refine r6O hb ?_
  exact rt
theorem u8Q:∀(n:Nat) (a0:p6w) (a1:Bs) (m1:(List (Bs×Bs))) (w3E:Int) (w3F:Bs) (w3G:(List Bs)) (w3H:(List p6w)) (w3I:(List Bs)) (w3J:(List Bs)) (w3K:(List Bs)) (r:(List (Bs×Bs))) (h:r9y n a0 a1 m1 w3E w3F w3G w3H w3I w3J w3K=some r),∀(st:St) (o0 o1 o2 o3:Nat) (hnd: [o0,o1,o2,o3].Nodup) (r6Q:Am.look st o0=some (.arr 0 1 0 [[.mp o1]])) (r9o:Am.look st o1=some (.mps false (mrw r4X m1))) (u1s:Am.look st o2=some (.arr 0 7 0 [[.int .i64 w3E,.str w3F,.sl false 1 16 (rows r4X w3G),.sl false 4 72 (rows p6w.cells w3H),.sl false 1 16 (rows r4X w3I),.sl false 1 16 (rows r4X w3J),.sl false 1 16 (rows r4X w3K)]])) (u4q:Am.look st o3=some (.arr 0 1 0 [[.fn 143 [] [.ptr o0 0 0 0,.ptr o2 0 0 0,.ptr o3 0 0 0]]])),Am.Spec Tryz.prog gl 143 [.agg [.int .i64 a0.kind,.str a0.name,.sl false 1 16 (rows r4X a0.words),.sl false 4 72 (rows p6w.cells a0.subs)],.str a1,.ptr o0 0 0 0,.ptr o2 0 0 0,.ptr o3 0 0 0] st (fun d st'=>d= .tup []∧st'=puts st [(o0,(.arr 0 1 0 [[.mp o1]])),(o1,(.mps false (mrw r4X r))),(o2,(.arr 0 7 0 [[.int .i64 w3E,.str w3F,.sl false 1 16 (rows r4X w3G),.sl false 4 72 (rows p6w.cells w3H),.sl false 1 16 (rows r4X w3I),.sl false 1 16 (rows r4X w3J),.sl false 1 16 (rows r4X w3K)]])),(o3,(.arr 0 1 0 [[.fn 143 [] [.ptr o0 0 0 0,.ptr o2 0 0 0,.ptr o3 0 0 0]]]))]):=by
 intro n
 induction n with
 |zero=>intro a0 a1 m1 w3E w3F w3G w3H w3I w3J w3K r h;cases h
 |succ n ih=>
  intro a0 a1 m1 w3E w3F w3G w3H w3I w3J w3K r h st o0 o1 o2 o3 hnd r6Q r9o u1s u4q
  unfold r9y at h
  have ho0:=r5h r6Q
  have ho1:=r5h r9o
  have ho2:=r5h u1s
  have ho3:=r5h u4q
  have fx:=fa (fa (fa (fa (idf ho0) (idf ho1)) (idf ho2)) (idf ho3)) (nd4 hnd)
  refine fb 45 [] [0,1,2,3,4,5,8,9,10,21,22,23,24,30,31,32,33] Tryz.func143 fun hsc=>?_
  refine r8l (s':=(r5k st [(o0,(.arr 0 1 0 [[.mp o1]])),(o1,(.mps false (mrw r4X m1))),(o2,(.arr 0 7 0 [[.int .i64 w3E,.str w3F,.sl false 1 16 (rows r4X w3G),.sl false 4 72 (rows p6w.cells w3H),.sl false 1 16 (rows r4X w3I),.sl false 1 16 (rows r4X w3J),.sl false 1 16 (rows r4X w3K)]])),(o3,(.arr 0 1 0 [[.fn 143 [] [.ptr o0 0 0 0,.ptr o2 0 0 0,.ptr o3 0 0 0]]]))])) (r5p (by simp[r6Q,r9o,u1s,u4q])) ?_
  refine rn ?_
  obtain⟨v1,hv1,h⟩:=r7G h
  refine u0C (fun hG=>(r8v _ _ _ (w1s hv1 (by simpa using hG)))) ?_
  refine rn ?_
  refine r9E (u1g (r9y n) a1 a0 w3E w3F w3G w3H w3I w3J w3K) r (fun(gj0:Unit) (j0:(List (Bs×Bs)))=>[(1,.str a1),(4,.ptr o3 0 0 0),(5,.ptr st.length 0 0 0)]) (fun(gj0:Unit) (j0:(List (Bs×Bs)))=>(r5k st [(o0,(.arr 0 1 0 [[.mp o1]])),(o1,(.mps false (mrw r4X j0))),(o2,(.arr 0 7 0 [[.int .i64 w3E,.str w3F,.sl false 1 16 (rows r4X w3G),.sl false 4 72 (rows p6w.cells w3H),.sl false 1 16 (rows r4X w3I),.sl false 1 16 (rows r4X w3J),.sl false 1 16 (rows r4X w3K)]])),(o3,(.arr 0 1 0 [[.fn 143 [] [.ptr o0 0 0 0,.ptr o2 0 0 0,.ptr o3 0 0 0]]]))])++[some (.arr 0 4 0 [[.int .i64 a0.kind,.str a0.name,.sl false 1 16 (rows r4X a0.words),.sl false 4 72 (rows p6w.cells a0.subs)]])]) (fun gj0 j0 fr1 st1 h hb=>?_) (fun hj0=>?_)
  ·try simp only[go_sem,fx]
   unfold u1g at h
   refine r6O hb ?_
   refine aln 30 fun hl1=>?_
   refine rng (body:=u2R (r9y n) a1 a0 w3E w3F w3G w3H w3I w3J w3K) (kk:=u2S) (n:=a0.subs.length) (s0:=j0)
    (fun(gs1:Unit) (k1:Nat) (s1:(List (Bs×Bs)))=>[(1,.str a1),(4,.ptr o3 0 0 0),(30,.sl false 4 72 (rows p6w.cells a0.subs)),(31,.int .i64 (↑a0.subs.length:Int)),(32,.int .i64 (↑k1:Int))])
    (fun(gs1:Unit) (k1:Nat) (s1:(List (Bs×Bs)))=>(r5k st [(o0,(.arr 0 1 0 [[.mp o1]])),(o1,(.mps false (mrw r4X s1))),(o2,(.arr 0 7 0 [[.int .i64 w3E,.str w3F,.sl false 1 16 (rows r4X w3G),.sl false 4 72 (rows p6w.cells w3H),.sl false 1 16 (rows r4X w3I),.sl false 1 16 (rows r4X w3J),.sl false 1 16 (rows r4X w3K)]])),(o3,(.arr 0 1 0 [[.fn 143 [] [.ptr o0 0 0 0,.ptr o2 0 0 0,.ptr o3 0 0 0]]]))]))
    (fun(gt1:Unit) (t1:(List (Bs×Bs)))=>[])
    (fun(gt1:Unit) (t1:(List (Bs×Bs)))=>(r5k st [(o0,(.arr 0 1 0 [[.mp o1]])),(o1,(.mps false (mrw r4X t1))),(o2,(.arr 0 7 0 [[.int .i64 w3E,.str w3F,.sl false 1 16 (rows r4X w3G),.sl false 4 72 (rows p6w.cells w3H),.sl false 1 16 (rows r4X w3I),.sl false 1 16 (rows r4X w3J),.sl false 1 16 (rows r4X w3K)]])),(o3,(.arr 0 1 0 [[.fn 143 [] [.ptr o0 0 0 0,.ptr o2 0 0 0,.ptr o3 0 0 0]]]))]))
    () fx hl1 h (bu0 hsc)
    (fun gs1 k1 s1 b1 fx h hx1=>?_) (fun gs1 s1=>?_) (fun gt1 t1 fr1 st1 h hb=>?_)
   ·unfold u2R at h
    refine ct ?_
    refine rn ?_
    refine dw [6] 0 ?_
    obtain⟨v7,hv7,h⟩:=r7G h
    refine r8U (w1k _ _ hv7) ?_
    obtain⟨fx,h⟩:=ck fx h
    try simp only[go_sem,fx]
    obtain⟨v9,hv9,h⟩:=r7G h
    refine u2j [o0,o1,o2,o3] (fun st2 h2=>(ih _ _ _ _ _ _ _ _ _ _ _ hv9 st2 _ _ _ _ hnd ((h2 _ (by simp)).trans (by simp only[go_sem,fx])) ((h2 _ (by simp)).trans (by simp only[go_sem,fx])) ((h2 _ (by simp)).trans (by simp only[go_sem,fx])) ((h2 _ (by simp)).trans (by simp only[go_sem,fx])))) (by simp) (by simp only[List.mem_cons,List.not_mem_nil,or_false,forall_eq_or_imp,forall_eq];exact⟨⟨by first|omega|(simp<;>omega),_,(by simp only[go_sem,fx]<;>rfl),Ob.noConfusion⟩,⟨by first|omega|(simp<;>omega),_,(by simp only[go_sem,fx]<;>rfl),Ob.noConfusion⟩,⟨by first|omega|(simp<;>omega),_,(by simp only[go_sem,fx]<;>rfl),Ob.noConfusion⟩,⟨by first|omega|(simp<;>omega),_,(by simp only[go_sem,fx]<;>rfl),Ob.noConfusion⟩⟩) (by simp) ?_
    try simp only[go_sem,fx]
    try refine⟨by first|omega|(simp<;>omega),?_⟩
    refine rn ?_
    cases h
    exact u2o () (bu0 hsc)
   ·refine cf ?_
    refine u2n ?_;simp only[go_sem,fx]
    exact⟨(),(w6U hsc)⟩
   ·try simp only[go_sem,fx]
    unfold u2S at h
    refine u9L hb ?_
    refine rr ?_
    exact fus (.tup []) (.same _) h hsc
  ·refine cd h (fun hc h=>?_) fun hc h=>?_
   ·obtain⟨c2,hc2,h⟩:=u2v h
    have fy:=(show r5j a0.name [.str a1] (mrw r4X m1)=mrw r4X c2 from by rw[hc2];exact u4W (κ:=Bs) (E:=r4X) a0.name a1 m1)
    refine r1 ?_
    refine hj0 () _ _ _ h ?_;exact(bu hsc)
   ·refine r0 ?_
    refine hj0 () _ _ _ h ?_;exact(bu hsc)
theorem u9y(n:Nat)(a0:r5b)(r:(List (Bs×Bs)))(h:u5O n a0=some r):∀st:St,Am.Spec Tryz.prog gl 113 [.agg [.int .i64 a0.form.kind,.str a0.form.name,.sl false 1 16 (rows r4X a0.form.words),.sl false 4 72 (rows p6w.cells a0.form.subs),.sl false 1 16 (rows r4X a0.words),.sl false 1 16 (rows r4X a0.r5o),.sl false 1 16 (rows r4X a0.parts)]] st (fun d st'=>d= .mp (st.length+1)∧st'=st++[none,some (.mps false (mrw r4X r))]):=by
 intro st
 unfold u5O at h
 have fx:=trivial
 refine fb 12 [.tmp 2] [0,1,2,3,4] Tryz.func113 fun hsc=>?_
 refine rn ?_
 obtain⟨v1,hv1,h⟩:=r7G h
 refine(u8Q n _ _ _ _ _ _ _ _ _ _ _ hv1 _ _ _ _ _ (by simp) (u4b.trans rfl) (u4b.trans rfl) (u3p.trans rfl) (u4b.trans rfl)).mono ?_
 rintro d1 st1 ⟨rfl,rfl⟩
 refine rr ?_
 exact fnw [none,some (.mps false (mrw r4X v1))] (.mp (st.length+1)) (.same _) h hsc
theorem u6C(a0:(List r4Z))(r:Int×Int×Bool)(h:u4O a0=some r):Pure Tryz.prog gl 91 [.sl false 6 88 (rows r4Z.cells a0)] (.tup [.int .i64 r.1,.int .i64 r.2.1,.bool r.2.2]):=by
 intro st
 unfold u4O at h
 have fx:=trivial
 refine fb 33 [.tmp 2,.tmp 3,.tmp 4] [0,2,3,4,5,6,8,9,10,11,12,30,31] Tryz.func91 fun hsc=>?_
 refine aln 9 fun hl0=>?_
 refine rng (body:=u4n a0) (kk:=u4o) (n:=a0.length) (s0:=(1,0))
  (fun(gs0:Unit) (k0:Nat) (s0:Int×Int)=>[(5,.int .i64 s0.1),(6,.int .i64 s0.2),(9,.sl false 6 88 (rows r4Z.cells a0)),(10,.int .i64 (↑a0.length:Int)),(11,.int .i64 (↑k0:Int))])
  (fun(gs0:Unit) (k0:Nat) (s0:Int×Int)=>st)
  (fun(gt0:Unit) (t0:Int×Int)=>[(5,.int .i64 t0.1),(6,.int .i64 t0.2)])
  (fun(gt0:Unit) (t0:Int×Int)=>st)
  () fx hl0 h (u6s hsc)
  (fun gs0 k0 s0 b0 fx h hx0=>?_) (fun gs0 s0=>?_) (fun gt0 t0 fr1 st1 h hb=>?_)
 ·unfold u4n at h
  refine ct ?_
  refine rn ?_
  refine dw [] 0 ?_
  refine rn ?_
  cases h
  exact u2o () (bm0 hsc)
 ·refine cf ?_
  refine u2n ?_;simp only[go_sem,fx]
  exact⟨(),(u6s hsc)⟩
 ·try simp only[go_sem,fx]
  unfold u4o at h
  refine r6O hb ?_
  exact rt
set_option maxHeartbeats 30000000 in
set_option maxRecDepth 100000 in
theorem u8i(r5l:(p6w)→(Bs)→((List r4V))→(Int)→((List (Bs×Int)))→((List r4W))→Option (r4Z×Bool×Int×(List r4W)))(u0X:∀(a1:p6w) (a2:Bs) (r5q:(List r4V)) (r5T:Int) (m1:(List (Bs×Int))) (l2:(List r4W)) (r:r4Z×Bool×Int×(List r4W)) (h:r5l a1 a2 r5q r5T m1 l2=some r),∀(st:St) (o0 o1 o2 q2:Nat) (hnd: [o0,o1,o2].Nodup) (r6Q:Am.look st o0=some (.arr 0 4 0 [[.sl false 11 216 (rows r4V.cells r5q),.mp o1,.ref false o2 (q2+l2.length) 0 l2.length,.int .i64 r5T]])) (r9o:Am.look st o1=some (.mps false (mrw u0I m1))) (u1s:Am.look st o2=some (.arr (q2+l2.length) 2 16 (rows r4W.cells l2))),Am.Spec Tryz.prog gl 65 [.ptr o0 0 0 0,.agg [.int .i64 a1.kind,.str a1.name,.sl false 1 16 (rows r4X a1.words),.sl false 4 72 (rows p6w.cells a1.subs)],.str a2] st (fun d st'=>d= .tup [.agg [.int .i64 r.1.form.kind,.str r.1.form.name,.sl false 1 16 (rows r4X r.1.form.words),.sl false 4 72 (rows p6w.cells r.1.form.subs),.int .i64 r.1.nodes,.int .i64 r.1.depth],.bool r.2.1]∧st'=puts st [(o0,(.arr 0 4 0 [[.sl false 11 216 (rows r4V.cells r5q),.mp o1,.ref false o2 (q2+r.2.2.2.length) 0 r.2.2.2.length,.int .i64 r.2.2.1]])),(o1,(.mps false (mrw u0I m1))),(o2,(.arr (q2+r.2.2.2.length) 2 16 (rows r4W.cells r.2.2.2)))])):∀(n:Nat) (a0:p6w) (a1:(List Bs)) (r5q:Int) (r8I:Bs) (r8J:(List Bs)) (r5T:(List p6w)) (r8q:(List Bs)) (r8y:(List Bs)) (r8K:(List Bs)) (u1n:Int) (u1o:Bs) (u1p:(List Bs)) (r6R:(List p6w)) (m2:(List (Bs×r4Z))) (r9v:(List r4Y)) (r9e:Int) (r9Y:Int) (u5r:Int) (u6Q:(List r4V)) (u9u:Int) (m9:(List (Bs×Int))) (l10:(List r4W)) (u1h:Bs) (m13:(List (Bs×Bs))) (m15:(List (Bs×Bs))) (r:r4Z×Bool×Int×(List r4W)×(List (Bs×r4Z))) (h:r8X r5l n a0 a1 r5q r8I r8J r5T r8q r8y r8K u1n u1o u1p r6R m2 r9v r9e r9Y u5r u6Q u9u m9 l10 u1h m13 m15=some r),∀(st:St) (o0 o1 o2 o3 o4 o5 o6 o7 o8 o9 o10 o11 o12 o13 o14 o15 o16 o17 q10:Nat) (hnd: [o0,o1,o2,o3,o4,o5,o6,o7,o8,o9,o10,o11,o12,o13,o14,o15,o16,o17].Nodup) (r6Q:Am.look st o0=some (.arr 0 11 0 [[.int .i64 r5q,.str r8I,.sl false 1 16 (rows r4X r8J),.sl false 4 72 (rows p6w.cells r5T),.sl false 1 16 (rows r4X r8q),.sl false 1 16 (rows r4X r8y),.sl false 1 16 (rows r4X r8K),.int .i64 u1n,.str u1o,.sl false 1 16 (rows r4X u1p),.sl false 4 72 (rows p6w.cells r6R)]])) (r9o:Am.look st o1=some (.arr 0 1 0 [[.mp o2]])) (u1s:Am.look st o2=some (.mps true (mrw r4Z.cells m2))) (u4q:Am.look st o3=some (.arr 0 1 0 [[.sl false 6 104 (rows r4Y.cells r9v)]])) (u8f:Am.look st o4=some (.arr 0 1 0 [[.int .i64 r9e]])) (w3M:Am.look st o5=some (.arr 0 1 0 [[.int .i64 r9Y]])) (y0G:Am.look st o6=some (.arr 0 1 0 [[.int .i64 u5r]])) (y0H:Am.look st o7=some (.arr 0 1 0 [[.ptr o8 0 0 0]])) (y0I:Am.look st o8=some (.arr 0 4 0 [[.sl false 11 216 (rows r4V.cells u6Q),.mp o9,.ref false o10 (q10+l10.length) 0 l10.length,.int .i64 u9u]])) (y0J:Am.look st o9=some (.mps false (mrw u0I m9))) (x5H:Am.look st o10=some (.arr (q10+l10.length) 2 16 (rows r4W.cells l10))) (x5I:Am.look st o11=some (.arr 0 1 0 [[.str u1h]])) (x5J:Am.look st o12=some (.arr 0 1 0 [[.mp o13]])) (x5K:Am.look st o13=some (.mps false (mrw r4X m13))) (x5L:Am.look st o14=some (.arr 0 1 0 [[.mp o15]])) (x5M:Am.look st o15=some (.mps false (mrw r4X m15))) (x5N:Am.look st o16=some (.arr 0 1 0 [[.fn 112 [] []]])) (x5O:Am.look st o17=some (.arr 0 1 0 [[.fn 114 [] [.ptr o0 0 0 0,.ptr o1 0 0 0,.ptr o3 0 0 0,.ptr o4 0 0 0,.ptr o5 0 0 0,.ptr o6 0 0 0,.ptr o7 0 0 0,.ptr o11 0 0 0,.ptr o12 0 0 0,.ptr o14 0 0 0,.ptr o16 0 0 0,.ptr o17 0 0 0]]])),Am.Spec Tryz.prog gl 114 [.agg [.int .i64 a0.kind,.str a0.name,.sl false 1 16 (rows r4X a0.words),.sl false 4 72 (rows p6w.cells a0.subs)],.sl false 1 16 (rows r4X a1),.ptr o0 0 0 0,.ptr o1 0 0 0,.ptr o3 0 0 0,.ptr o4 0 0 0,.ptr o5 0 0 0,.ptr o6 0 0 0,.ptr o7 0 0 0,.ptr o11 0 0 0,.ptr o12 0 0 0,.ptr o14 0 0 0,.ptr o16 0 0 0,.ptr o17 0 0 0] st (fun d st'=>d= .tup [.agg [.int .i64 r.1.form.kind,.str r.1.form.name,.sl false 1 16 (rows r4X r.1.form.words),.sl false 4 72 (rows p6w.cells r.1.form.subs),.int .i64 r.1.nodes,.int .i64 r.1.depth],.bool r.2.1]∧st'=puts st [(o0,(.arr 0 11 0 [[.int .i64 r5q,.str r8I,.sl false 1 16 (rows r4X r8J),.sl false 4 72 (rows p6w.cells r5T),.sl false 1 16 (rows r4X r8q),.sl false 1 16 (rows r4X r8y),.sl false 1 16 (rows r4X r8K),.int .i64 u1n,.str u1o,.sl false 1 16 (rows r4X u1p),.sl false 4 72 (rows p6w.cells r6R)]])),(o1,(.arr 0 1 0 [[.mp o2]])),(o2,(.mps true (mrw r4Z.cells r.2.2.2.2))),(o3,(.arr 0 1 0 [[.sl false 6 104 (rows r4Y.cells r9v)]])),(o4,(.arr 0 1 0 [[.int .i64 r9e]])),(o5,(.arr 0 1 0 [[.int .i64 r9Y]])),(o6,(.arr 0 1 0 [[.int .i64 u5r]])),(o7,(.arr 0 1 0 [[.ptr o8 0 0 0]])),(o8,(.arr 0 4 0 [[.sl false 11 216 (rows r4V.cells u6Q),.mp o9,.ref false o10 (q10+r.2.2.2.1.length) 0 r.2.2.2.1.length,.int .i64 r.2.2.1]])),(o9,(.mps false (mrw u0I m9))),(o10,(.arr (q10+r.2.2.2.1.length) 2 16 (rows r4W.cells r.2.2.2.1))),(o11,(.arr 0 1 0 [[.str u1h]])),(o12,(.arr 0 1 0 [[.mp o13]])),(o13,(.mps false (mrw r4X m13))),(o14,(.arr 0 1 0 [[.mp o15]])),(o15,(.mps false (mrw r4X m15))),(o16,(.arr 0 1 0 [[.fn 112 [] []]])),(o17,(.arr 0 1 0 [[.fn 114 [] [.ptr o0 0 0 0,.ptr o1 0 0 0,.ptr o3 0 0 0,.ptr o4 0 0 0,.ptr o5 0 0 0,.ptr o6 0 0 0,.ptr o7 0 0 0,.ptr o11 0 0 0,.ptr o12 0 0 0,.ptr o14 0 0 0,.ptr o16 0 0 0,.ptr o17 0 0 0]]]))]):=by
 intro n
 induction n with
 |zero=>intro a0 a1 r5q r8I r8J r5T r8q r8y r8K u1n u1o u1p r6R m2 r9v r9e r9Y u5r u6Q u9u m9 l10 u1h m13 m15 r h;cases h
 |succ n ih=>
  intro a0 a1 r5q r8I r8J r5T r8q r8y r8K u1n u1o u1p r6R m2 r9v r9e r9Y u5r u6Q u9u m9 l10 u1h m13 m15 r h st o0 o1 o2 o3 o4 o5 o6 o7 o8 o9 o10 o11 o12 o13 o14 o15 o16 o17 q10 hnd r6Q r9o u1s u4q u8f w3M y0G y0H y0I y0J x5H x5I x5J x5K x5L x5M x5N x5O
  unfold r8X at h
  have ho0:=r5h r6Q
  have ho1:=r5h r9o
  have ho2:=r5h u1s
  have ho3:=r5h u4q
  have ho4:=r5h u8f
  have ho5:=r5h w3M
  have ho6:=r5h y0G
  have ho7:=r5h y0H
  have ho8:=r5h y0I
  have ho9:=r5h y0J
  have y3N:=r5h x5H
  have y3O:=r5h x5I
  have y3P:=r5h x5J
  have y3Q:=r5h x5K
  have y3R:=r5h x5L
  have y3S:=r5h x5M
  have y3T:=r5h x5N
  have y3U:=r5h x5O
  have fx:=fa (y2l hnd ho0 ho1 ho2 ho3 ho4 ho5 ho6 ho7 ho8 ho9 y3N y3O y3P y3Q y3R y3S y3T y3U) (nd3 (x7E hnd))
  refine fb 188 [.cell 16 102,.tmp 17] [0,1,2,3,4,5,6,7,8,9,10,11,12,13,14,16,17,18,19,21,22,24,25,27,28,29,30,34,42,53,54,55,56,63,91,92,93,94,99,119,134,148,149,150,151,162] Tryz.func114 fun hsc=>?_
  refine r8l (s':=(r5k st [(o0,(.arr 0 11 0 [[.int .i64 r5q,.str r8I,.sl false 1 16 (rows r4X r8J),.sl false 4 72 (rows p6w.cells r5T),.sl false 1 16 (rows r4X r8q),.sl false 1 16 (rows r4X r8y),.sl false 1 16 (rows r4X r8K),.int .i64 u1n,.str u1o,.sl false 1 16 (rows r4X u1p),.sl false 4 72 (rows p6w.cells r6R)]])),(o1,(.arr 0 1 0 [[.mp o2]])),(o2,(.mps true (mrw r4Z.cells m2))),(o3,(.arr 0 1 0 [[.sl false 6 104 (rows r4Y.cells r9v)]])),(o4,(.arr 0 1 0 [[.int .i64 r9e]])),(o5,(.arr 0 1 0 [[.int .i64 r9Y]])),(o6,(.arr 0 1 0 [[.int .i64 u5r]])),(o7,(.arr 0 1 0 [[.ptr o8 0 0 0]])),(o8,(.arr 0 4 0 [[.sl false 11 216 (rows r4V.cells u6Q),.mp o9,.ref false o10 (q10+l10.length) 0 l10.length,.int .i64 u9u]])),(o9,(.mps false (mrw u0I m9))),(o10,(.arr (q10+l10.length) 2 16 (rows r4W.cells l10))),(o11,(.arr 0 1 0 [[.str u1h]])),(o12,(.arr 0 1 0 [[.mp o13]])),(o13,(.mps false (mrw r4X m13))),(o14,(.arr 0 1 0 [[.mp o15]])),(o15,(.mps false (mrw r4X m15))),(o16,(.arr 0 1 0 [[.fn 112 [] []]])),(o17,(.arr 0 1 0 [[.fn 114 [] [.ptr o0 0 0 0,.ptr o1 0 0 0,.ptr o3 0 0 0,.ptr o4 0 0 0,.ptr o5 0 0 0,.ptr o6 0 0 0,.ptr o7 0 0 0,.ptr o11 0 0 0,.ptr o12 0 0 0,.ptr o14 0 0 0,.ptr o16 0 0 0,.ptr o17 0 0 0]]]))])) (r5p (by simp[r6Q,r9o,u1s,u4q,u8f,w3M,y0G,y0H,y0I,y0J,x5H,x5I,x5J,x5K,x5L,x5M,x5N,x5O])) ?_
  refine cl h (r8v _ _) fun v1 h=>?_
  refine cd h (fun hc h=>?_) fun hc h=>?_
  ·refine cd h (fun hc h=>?_) fun hc h=>?_
   ·refine rr ?_
    exact fuo (.tup [.agg [.int .i64 (((assoc a0.name m2).getD default).form.kind),.str (((assoc a0.name m2).getD default).form.name),.sl false 1 16 (rows r4X (((assoc a0.name m2).getD default).form.words)),.sl false 4 72 (rows p6w.cells (((assoc a0.name m2).getD default).form.subs)),.int .i64 (((assoc a0.name m2).getD default).nodes),.int .i64 (((assoc a0.name m2).getD default).depth)],.bool true]) (.same _) h hsc
   ·obtain⟨fx,h⟩:=ck fx h
    refine aln 53 fun hl0=>?_
    refine rng (body:=u2B r5l r9v r9e r9Y u5r a0 u1h m13 u6Q m9) (kk:=u2C a0 m2) (n:=((r9v.drop ((wr .i64 (r9e+r9Y)).toNat)).take ((wr .i64 ((wr .i64 (r9e+r9Y))+u5r)).toNat-(wr .i64 (r9e+r9Y)).toNat)).length) (s0:=(u9u,((assoc a0.name m2).getD default).form.kind,((assoc a0.name m2).getD default).form.name,((assoc a0.name m2).getD default).form.words,((assoc a0.name m2).getD default).form.subs,((assoc a0.name m2).getD default).nodes,((assoc a0.name m2).getD default).depth,l10,(assoc a0.name m2).isSome))
     (fun(gs0:Unit) (k0:Nat) (s0:Int×Int×Bs×(List Bs)×(List p6w)×Int×Int×(List r4W)×Bool)=>[(3,.ptr o1 0 0 0),(8,.ptr o7 0 0 0),(9,.ptr o11 0 0 0),(10,.ptr o12 0 0 0),(14,.ptr st.length 0 0 0),(16,.ptr (st.length+1) 0 0 0),(18,.ptr (st.length+2) 0 0 0),(19,.bool s0.2.2.2.2.2.2.2.2),(53,.sl false 6 104 (rows r4Y.cells ((r9v.drop ((wr .i64 (r9e+r9Y)).toNat)).take ((wr .i64 ((wr .i64 (r9e+r9Y))+u5r)).toNat-(wr .i64 (r9e+r9Y)).toNat)))),(54,.int .i64 (↑(((r9v.drop ((wr .i64 (r9e+r9Y)).toNat)).take ((wr .i64 ((wr .i64 (r9e+r9Y))+u5r)).toNat-(wr .i64 (r9e+r9Y)).toNat)).length):Int)),(55,.int .i64 (↑k0:Int))])
     (fun(gs0:Unit) (k0:Nat) (s0:Int×Int×Bs×(List Bs)×(List p6w)×Int×Int×(List r4W)×Bool)=>(r5k st [(o0,(.arr 0 11 0 [[.int .i64 r5q,.str r8I,.sl false 1 16 (rows r4X r8J),.sl false 4 72 (rows p6w.cells r5T),.sl false 1 16 (rows r4X r8q),.sl false 1 16 (rows r4X r8y),.sl false 1 16 (rows r4X r8K),.int .i64 u1n,.str u1o,.sl false 1 16 (rows r4X u1p),.sl false 4 72 (rows p6w.cells r6R)]])),(o1,(.arr 0 1 0 [[.mp o2]])),(o2,(.mps true (mrw r4Z.cells m2))),(o3,(.arr 0 1 0 [[.sl false 6 104 (rows r4Y.cells r9v)]])),(o4,(.arr 0 1 0 [[.int .i64 r9e]])),(o5,(.arr 0 1 0 [[.int .i64 r9Y]])),(o6,(.arr 0 1 0 [[.int .i64 u5r]])),(o7,(.arr 0 1 0 [[.ptr o8 0 0 0]])),(o8,(.arr 0 4 0 [[.sl false 11 216 (rows r4V.cells u6Q),.mp o9,.ref false o10 (q10+s0.2.2.2.2.2.2.2.1.length) 0 s0.2.2.2.2.2.2.2.1.length,.int .i64 s0.1]])),(o9,(.mps false (mrw u0I m9))),(o10,(.arr (q10+s0.2.2.2.2.2.2.2.1.length) 2 16 (rows r4W.cells s0.2.2.2.2.2.2.2.1))),(o11,(.arr 0 1 0 [[.str u1h]])),(o12,(.arr 0 1 0 [[.mp o13]])),(o13,(.mps false (mrw r4X m13))),(o14,(.arr 0 1 0 [[.mp o15]])),(o15,(.mps false (mrw r4X m15))),(o16,(.arr 0 1 0 [[.fn 112 [] []]])),(o17,(.arr 0 1 0 [[.fn 114 [] [.ptr o0 0 0 0,.ptr o1 0 0 0,.ptr o3 0 0 0,.ptr o4 0 0 0,.ptr o5 0 0 0,.ptr o6 0 0 0,.ptr o7 0 0 0,.ptr o11 0 0 0,.ptr o12 0 0 0,.ptr o14 0 0 0,.ptr o16 0 0 0,.ptr o17 0 0 0]]]))])++[some (.arr 0 4 0 [[.int .i64 a0.kind,.str a0.name,.sl false 1 16 (rows r4X a0.words),.sl false 4 72 (rows p6w.cells a0.subs)]]),some (.arr 0 6 0 [[.int .i64 0,.str [],.r5g,.r5g,.int .i64 0,.int .i64 0]]),some (.arr 0 6 0 [[.int .i64 s0.2.1,.str s0.2.2.1,.sl false 1 16 (rows r4X s0.2.2.2.1),.sl false 4 72 (rows p6w.cells s0.2.2.2.2.1),.int .i64 s0.2.2.2.2.2.1,.int .i64 s0.2.2.2.2.2.2.1]])])
     (fun(gt0:Unit) (t0:Int×Int×Bs×(List Bs)×(List p6w)×Int×Int×(List r4W)×Bool)=>[(3,.ptr o1 0 0 0),(14,.ptr st.length 0 0 0),(16,.ptr (st.length+1) 0 0 0),(18,.ptr (st.length+2) 0 0 0),(19,.bool t0.2.2.2.2.2.2.2.2)])
     (fun(gt0:Unit) (t0:Int×Int×Bs×(List Bs)×(List p6w)×Int×Int×(List r4W)×Bool)=>(r5k st [(o0,(.arr 0 11 0 [[.int .i64 r5q,.str r8I,.sl false 1 16 (rows r4X r8J),.sl false 4 72 (rows p6w.cells r5T),.sl false 1 16 (rows r4X r8q),.sl false 1 16 (rows r4X r8y),.sl false 1 16 (rows r4X r8K),.int .i64 u1n,.str u1o,.sl false 1 16 (rows r4X u1p),.sl false 4 72 (rows p6w.cells r6R)]])),(o1,(.arr 0 1 0 [[.mp o2]])),(o2,(.mps true (mrw r4Z.cells m2))),(o3,(.arr 0 1 0 [[.sl false 6 104 (rows r4Y.cells r9v)]])),(o4,(.arr 0 1 0 [[.int .i64 r9e]])),(o5,(.arr 0 1 0 [[.int .i64 r9Y]])),(o6,(.arr 0 1 0 [[.int .i64 u5r]])),(o7,(.arr 0 1 0 [[.ptr o8 0 0 0]])),(o8,(.arr 0 4 0 [[.sl false 11 216 (rows r4V.cells u6Q),.mp o9,.ref false o10 (q10+t0.2.2.2.2.2.2.2.1.length) 0 t0.2.2.2.2.2.2.2.1.length,.int .i64 t0.1]])),(o9,(.mps false (mrw u0I m9))),(o10,(.arr (q10+t0.2.2.2.2.2.2.2.1.length) 2 16 (rows r4W.cells t0.2.2.2.2.2.2.2.1))),(o11,(.arr 0 1 0 [[.str u1h]])),(o12,(.arr 0 1 0 [[.mp o13]])),(o13,(.mps false (mrw r4X m13))),(o14,(.arr 0 1 0 [[.mp o15]])),(o15,(.mps false (mrw r4X m15))),(o16,(.arr 0 1 0 [[.fn 112 [] []]])),(o17,(.arr 0 1 0 [[.fn 114 [] [.ptr o0 0 0 0,.ptr o1 0 0 0,.ptr o3 0 0 0,.ptr o4 0 0 0,.ptr o5 0 0 0,.ptr o6 0 0 0,.ptr o7 0 0 0,.ptr o11 0 0 0,.ptr o12 0 0 0,.ptr o14 0 0 0,.ptr o16 0 0 0,.ptr o17 0 0 0]]]))])++[some (.arr 0 4 0 [[.int .i64 a0.kind,.str a0.name,.sl false 1 16 (rows r4X a0.words),.sl false 4 72 (rows p6w.cells a0.subs)]]),some (.arr 0 6 0 [[.int .i64 0,.str [],.r5g,.r5g,.int .i64 0,.int .i64 0]]),some (.arr 0 6 0 [[.int .i64 t0.2.1,.str t0.2.2.1,.sl false 1 16 (rows r4X t0.2.2.2.1),.sl false 4 72 (rows p6w.cells t0.2.2.2.2.1),.int .i64 t0.2.2.2.2.2.1,.int .i64 t0.2.2.2.2.2.2.1]])])
     () fx hl0 h (bu hsc)
     (fun gs0 k0 s0 b0 fx h hx0=>?_) (fun gs0 s0=>?_) (fun gt0 t0 fr1 st1 h hb=>?_)
    ·unfold u2B at h
     refine ct ?_
     refine cd h (fun hc h=>?_) fun hc h=>?_
     ·obtain⟨fx,h⟩:=ck fx h
      refine rn ?_
      obtain⟨v9,hv9,h⟩:=r7G h
      refine(u0X _ _ _ _ _ _ _ hv9 _ o8 o9 o10 q10 (by simp[fx]<;>omega) (by simp only[go_sem,fx]) (by simp only[go_sem,fx]) (by simp only[go_sem,fx])).mono ?_
      rintro d1 st1 ⟨rfl,rfl⟩
      refine rn ?_
      cases h
      exact u2o () (bu hsc)
     ·refine rn ?_
      cases h
      exact u2o () (bu hsc)
    ·refine cf ?_
     refine u2n ?_;simp only[go_sem,fx]
     exact⟨(),(bu hsc)⟩
    ·try simp only[go_sem,fx]
     unfold u2C at h
     refine r6O hb ?_
     obtain⟨c10,x1J,h⟩:=u2v h
     have fy:=(show r5j a0.name [.int .i64 t0.2.1,.str t0.2.2.1,.sl false 1 16 (rows r4X t0.2.2.2.1),.sl false 4 72 (rows p6w.cells t0.2.2.2.2.1),.int .i64 t0.2.2.2.2.2.1,.int .i64 t0.2.2.2.2.2.2.1] (mrw r4Z.cells m2)=mrw r4Z.cells c10 from by rw[x1J];exact u4W (κ:=Bs) (E:=r4Z.cells) a0.name (r4Z.mk (p6w.mk t0.2.1 t0.2.2.1 t0.2.2.2.1 t0.2.2.2.2.1) t0.2.2.2.2.2.1 t0.2.2.2.2.2.2.1) m2)
     refine r1 ?_
     refine rr ?_
     exact fuo (.tup [.agg [.int .i64 t0.2.1,.str t0.2.2.1,.sl false 1 16 (rows r4X t0.2.2.2.1),.sl false 4 72 (rows p6w.cells t0.2.2.2.2.1),.int .i64 t0.2.2.2.2.2.1,.int .i64 t0.2.2.2.2.2.2.1],.bool t0.2.2.2.2.2.2.2.2]) (.same _) h hsc
  ·refine r0 ?_
   refine r0 ?_
   refine r0 ?_
   (repeat apply sq_)
   refine r9q 1 16 ?_
   try simp only[List.append_assoc,List.cons_append,List.nil_append]
   refine r6O (F:=[(1,.sl false 1 16 (rows r4X a1)),(4,.ptr o3 0 0 0),(5,.ptr o4 0 0 0),(6,.ptr o5 0 0 0),(11,.ptr o14 0 0 0),(12,.ptr o16 0 0 0),(13,.ptr o17 0 0 0),(14,.ptr st.length 0 0 0),(16,.ptr (st.length+1) 0 0 0),(22,.ptr (st.length+2) 0 0 0),(91,.sl false 1 16 (rows r4X a0.words)),(92,.int .i64 (↑a0.words.length:Int)),(93,.int .i64 0)]) (T:=(r5k st [(o0,(.arr 0 11 0 [[.int .i64 r5q,.str r8I,.sl false 1 16 (rows r4X r8J),.sl false 4 72 (rows p6w.cells r5T),.sl false 1 16 (rows r4X r8q),.sl false 1 16 (rows r4X r8y),.sl false 1 16 (rows r4X r8K),.int .i64 u1n,.str u1o,.sl false 1 16 (rows r4X u1p),.sl false 4 72 (rows p6w.cells r6R)]])),(o1,(.arr 0 1 0 [[.mp o2]])),(o2,(.mps true (mrw r4Z.cells m2))),(o3,(.arr 0 1 0 [[.sl false 6 104 (rows r4Y.cells r9v)]])),(o4,(.arr 0 1 0 [[.int .i64 r9e]])),(o5,(.arr 0 1 0 [[.int .i64 r9Y]])),(o6,(.arr 0 1 0 [[.int .i64 u5r]])),(o7,(.arr 0 1 0 [[.ptr o8 0 0 0]])),(o8,(.arr 0 4 0 [[.sl false 11 216 (rows r4V.cells u6Q),.mp o9,.ref false o10 (q10+l10.length) 0 l10.length,.int .i64 u9u]])),(o9,(.mps false (mrw u0I m9))),(o10,(.arr (q10+l10.length) 2 16 (rows r4W.cells l10))),(o11,(.arr 0 1 0 [[.str u1h]])),(o12,(.arr 0 1 0 [[.mp o13]])),(o13,(.mps false (mrw r4X m13))),(o14,(.arr 0 1 0 [[.mp o15]])),(o15,(.mps false (mrw r4X m15))),(o16,(.arr 0 1 0 [[.fn 112 [] []]])),(o17,(.arr 0 1 0 [[.fn 114 [] [.ptr o0 0 0 0,.ptr o1 0 0 0,.ptr o3 0 0 0,.ptr o4 0 0 0,.ptr o5 0 0 0,.ptr o6 0 0 0,.ptr o7 0 0 0,.ptr o11 0 0 0,.ptr o12 0 0 0,.ptr o14 0 0 0,.ptr o16 0 0 0,.ptr o17 0 0 0]]]))])++[some (.arr 0 4 0 [[.int .i64 a0.kind,.str a0.name,.sl false 1 16 (rows r4X a0.words),.sl false 4 72 (rows p6w.cells a0.subs)]]),some (.arr 0 6 0 [[.int .i64 0,.str [],.r5g,.r5g,.int .i64 0,.int .i64 0]]),some (.arr 0 6 0 [[.int .i64 a0.kind,.str a0.name,.ref false (st.length+3) 0 0 0,.r5g,.int .i64 0,.int .i64 0]]),some (.arr 0 1 16 (rows r4X []))]) (u0G (by simp) (r7P hsc (by simp<;>omega)) (.lv (.lv (.live _ _ _ _ (.arr _ _ _ _ _ (.cons _ _ _ _ (.cons _ _ _ _ .s (.cons _ _ _ _ .s (.cons _ _ _ _ (.nref _ _ _ _ _ _ (r5u.trans rfl)) (.cons _ _ _ _ .s (.cons _ _ _ _ .s (.cons _ _ _ _ .s .nil)))))) (.same _))) (.lv (.nil _))))) (by simp<;>omega) ⟨.s,.s,.s,.s,.s,.s,.s,.s,.s,.s,.s,.s,.s,trivial⟩ (by simp<;>omega)) ?_
   refine aln 91 fun hl1=>?_
   refine rng (body:=u2D a1 a0 m15 r9e r9v) (kk:=u2G (r8X r5l n) a0 a1 r5q r8I r8J r5T r8q r8y r8K u1n u1o u1p r6R r9v r9e r9Y u5r u6Q m9 u1h m13 m15 u9u l10 m2) (n:=a0.words.length) (s0:=[])
    (fun(gs1:Nat) (k1:Nat) (s1:(List Bs))=>[(1,.sl false 1 16 (rows r4X a1)),(4,.ptr o3 0 0 0),(5,.ptr o4 0 0 0),(6,.ptr o5 0 0 0),(11,.ptr o14 0 0 0),(12,.ptr o16 0 0 0),(13,.ptr o17 0 0 0),(14,.ptr st.length 0 0 0),(16,.ptr (st.length+1) 0 0 0),(22,.ptr (st.length+2) 0 0 0),(91,.sl false 1 16 (rows r4X a0.words)),(92,.int .i64 (↑a0.words.length:Int)),(93,.int .i64 (↑k1:Int))])
    (fun(gs1:Nat) (k1:Nat) (s1:(List Bs))=>(r5k st [(o0,(.arr 0 11 0 [[.int .i64 r5q,.str r8I,.sl false 1 16 (rows r4X r8J),.sl false 4 72 (rows p6w.cells r5T),.sl false 1 16 (rows r4X r8q),.sl false 1 16 (rows r4X r8y),.sl false 1 16 (rows r4X r8K),.int .i64 u1n,.str u1o,.sl false 1 16 (rows r4X u1p),.sl false 4 72 (rows p6w.cells r6R)]])),(o1,(.arr 0 1 0 [[.mp o2]])),(o2,(.mps true (mrw r4Z.cells m2))),(o3,(.arr 0 1 0 [[.sl false 6 104 (rows r4Y.cells r9v)]])),(o4,(.arr 0 1 0 [[.int .i64 r9e]])),(o5,(.arr 0 1 0 [[.int .i64 r9Y]])),(o6,(.arr 0 1 0 [[.int .i64 u5r]])),(o7,(.arr 0 1 0 [[.ptr o8 0 0 0]])),(o8,(.arr 0 4 0 [[.sl false 11 216 (rows r4V.cells u6Q),.mp o9,.ref false o10 (q10+l10.length) 0 l10.length,.int .i64 u9u]])),(o9,(.mps false (mrw u0I m9))),(o10,(.arr (q10+l10.length) 2 16 (rows r4W.cells l10))),(o11,(.arr 0 1 0 [[.str u1h]])),(o12,(.arr 0 1 0 [[.mp o13]])),(o13,(.mps false (mrw r4X m13))),(o14,(.arr 0 1 0 [[.mp o15]])),(o15,(.mps false (mrw r4X m15))),(o16,(.arr 0 1 0 [[.fn 112 [] []]])),(o17,(.arr 0 1 0 [[.fn 114 [] [.ptr o0 0 0 0,.ptr o1 0 0 0,.ptr o3 0 0 0,.ptr o4 0 0 0,.ptr o5 0 0 0,.ptr o6 0 0 0,.ptr o7 0 0 0,.ptr o11 0 0 0,.ptr o12 0 0 0,.ptr o14 0 0 0,.ptr o16 0 0 0,.ptr o17 0 0 0]]]))])++[some (.arr 0 4 0 [[.int .i64 a0.kind,.str a0.name,.sl false 1 16 (rows r4X a0.words),.sl false 4 72 (rows p6w.cells a0.subs)]]),some (.arr 0 6 0 [[.int .i64 0,.str [],.r5g,.r5g,.int .i64 0,.int .i64 0]]),some (.arr 0 6 0 [[.int .i64 a0.kind,.str a0.name,.ref false (st.length+3) gs1 0 s1.length,.r5g,.int .i64 0,.int .i64 0]]),some (.arr gs1 1 16 (rows r4X s1))])
    (fun(gt1:Nat) (t1:(List Bs))=>[(1,.sl false 1 16 (rows r4X a1)),(4,.ptr o3 0 0 0),(5,.ptr o4 0 0 0),(6,.ptr o5 0 0 0),(11,.ptr o14 0 0 0),(12,.ptr o16 0 0 0),(13,.ptr o17 0 0 0),(14,.ptr st.length 0 0 0),(16,.ptr (st.length+1) 0 0 0),(22,.ptr (st.length+2) 0 0 0)])
    (fun(gt1:Nat) (t1:(List Bs))=>(r5k st [(o0,(.arr 0 11 0 [[.int .i64 r5q,.str r8I,.sl false 1 16 (rows r4X r8J),.sl false 4 72 (rows p6w.cells r5T),.sl false 1 16 (rows r4X r8q),.sl false 1 16 (rows r4X r8y),.sl false 1 16 (rows r4X r8K),.int .i64 u1n,.str u1o,.sl false 1 16 (rows r4X u1p),.sl false 4 72 (rows p6w.cells r6R)]])),(o1,(.arr 0 1 0 [[.mp o2]])),(o2,(.mps true (mrw r4Z.cells m2))),(o3,(.arr 0 1 0 [[.sl false 6 104 (rows r4Y.cells r9v)]])),(o4,(.arr 0 1 0 [[.int .i64 r9e]])),(o5,(.arr 0 1 0 [[.int .i64 r9Y]])),(o6,(.arr 0 1 0 [[.int .i64 u5r]])),(o7,(.arr 0 1 0 [[.ptr o8 0 0 0]])),(o8,(.arr 0 4 0 [[.sl false 11 216 (rows r4V.cells u6Q),.mp o9,.ref false o10 (q10+l10.length) 0 l10.length,.int .i64 u9u]])),(o9,(.mps false (mrw u0I m9))),(o10,(.arr (q10+l10.length) 2 16 (rows r4W.cells l10))),(o11,(.arr 0 1 0 [[.str u1h]])),(o12,(.arr 0 1 0 [[.mp o13]])),(o13,(.mps false (mrw r4X m13))),(o14,(.arr 0 1 0 [[.mp o15]])),(o15,(.mps false (mrw r4X m15))),(o16,(.arr 0 1 0 [[.fn 112 [] []]])),(o17,(.arr 0 1 0 [[.fn 114 [] [.ptr o0 0 0 0,.ptr o1 0 0 0,.ptr o3 0 0 0,.ptr o4 0 0 0,.ptr o5 0 0 0,.ptr o6 0 0 0,.ptr o7 0 0 0,.ptr o11 0 0 0,.ptr o12 0 0 0,.ptr o14 0 0 0,.ptr o16 0 0 0,.ptr o17 0 0 0]]]))])++[some (.arr 0 4 0 [[.int .i64 a0.kind,.str a0.name,.sl false 1 16 (rows r4X a0.words),.sl false 4 72 (rows p6w.cells a0.subs)]]),some (.arr 0 6 0 [[.int .i64 0,.str [],.r5g,.r5g,.int .i64 0,.int .i64 0]]),some (.arr 0 6 0 [[.int .i64 a0.kind,.str a0.name,.ref false (st.length+3) gt1 0 t1.length,.r5g,.int .i64 0,.int .i64 0]]),some (.arr gt1 1 16 (rows r4X t1))])
    0 fx hl1 h (bu hsc)
    (fun gs1 k1 s1 b1 fx h hx1=>?_) (fun gs1 s1=>?_) (fun gt1 t1 fr1 st1 h hb=>?_)
   ·unfold u2D at h
    refine ct ?_
    refine cl h (r5f _ _) fun v28 h=>?_
    refine cd h (fun hc h=>?_) fun hc h=>?_
    ·refine r0 ?_
     obtain⟨c30,y1F,h⟩:=u2v h
     have fy:=(show rows r4X s1++[[.str ((assoc (get a0.words k1) m15).getD default)]]=rows r4X c30 from by rw[y1F];first|exact r5y (E:=r4X) s1 [((assoc (get a0.words k1) m15).getD default)]|simp only[go_sem,rows,List.map_append,List.map_cons,List.map_nil])
     have fy:=fa fy (show s1.length+1=c30.length from by rw[y1F];simp)
     obtain⟨fx,h⟩:=ck fx h
     refine r1 ?_
     refine rn ?_
     cases h
     exact u2o (gs1+1) (bu hsc)
    ·refine rs ?_
     obtain⟨fx,h⟩:=ck fx h
     refine dw [] 0 ?_
     obtain⟨v37,hv37,h⟩:=r7G h
     refine r8U (u2J _ _ _ hv37) ?_
     try simp only[go_sem,fx]
     obtain⟨c39,x8H,h⟩:=u2v h
     have fy:=(show rows r4X s1++[[.str v37]]=rows r4X c39 from by rw[x8H];first|exact r5y (E:=r4X) s1 [v37]|simp only[go_sem,rows,List.map_append,List.map_cons,List.map_nil])
     have fy:=fa fy (show s1.length+1=c39.length from by rw[x8H];simp)
     obtain⟨fx,h⟩:=ck fx h
     refine r1 ?_
     refine rn ?_
     cases h
     exact u2o (gs1+1) (bu hsc)
   ·refine cf ?_
    refine u2n ?_;simp only[go_sem,fx]
    exact⟨gs1,(bu hsc)⟩
   ·try simp only[go_sem,fx]
    unfold u2G at h
    refine r6O hb ?_
    refine cl h (r5F _) fun v44 h=>?_
    refine rn ?_
    refine r9E (r9u (r8X r5l n) a0 r5q r8I r8J r5T r8q r8y r8K u1n u1o u1p r6R r9v r9e r9Y u5r u6Q m9 u1h m13 m15 u9u l10 m2 t1) r (fun(gj2:Unit) (j2:Bs×(List Bs))=>[(1,.sl false 1 16 (rows r4X j2.2)),(13,.ptr o17 0 0 0),(14,.ptr st.length 0 0 0),(16,.ptr (st.length+1) 0 0 0),(22,.ptr (st.length+2) 0 0 0)]) (fun(gj2:Unit) (j2:Bs×(List Bs))=>(r5k st [(o0,(.arr 0 11 0 [[.int .i64 r5q,.str r8I,.sl false 1 16 (rows r4X r8J),.sl false 4 72 (rows p6w.cells r5T),.sl false 1 16 (rows r4X r8q),.sl false 1 16 (rows r4X r8y),.sl false 1 16 (rows r4X r8K),.int .i64 u1n,.str u1o,.sl false 1 16 (rows r4X u1p),.sl false 4 72 (rows p6w.cells r6R)]])),(o1,(.arr 0 1 0 [[.mp o2]])),(o2,(.mps true (mrw r4Z.cells m2))),(o3,(.arr 0 1 0 [[.sl false 6 104 (rows r4Y.cells r9v)]])),(o4,(.arr 0 1 0 [[.int .i64 r9e]])),(o5,(.arr 0 1 0 [[.int .i64 r9Y]])),(o6,(.arr 0 1 0 [[.int .i64 u5r]])),(o7,(.arr 0 1 0 [[.ptr o8 0 0 0]])),(o8,(.arr 0 4 0 [[.sl false 11 216 (rows r4V.cells u6Q),.mp o9,.ref false o10 (q10+l10.length) 0 l10.length,.int .i64 u9u]])),(o9,(.mps false (mrw u0I m9))),(o10,(.arr (q10+l10.length) 2 16 (rows r4W.cells l10))),(o11,(.arr 0 1 0 [[.str u1h]])),(o12,(.arr 0 1 0 [[.mp o13]])),(o13,(.mps false (mrw r4X m13))),(o14,(.arr 0 1 0 [[.mp o15]])),(o15,(.mps false (mrw r4X m15))),(o16,(.arr 0 1 0 [[.fn 112 [] []]])),(o17,(.arr 0 1 0 [[.fn 114 [] [.ptr o0 0 0 0,.ptr o1 0 0 0,.ptr o3 0 0 0,.ptr o4 0 0 0,.ptr o5 0 0 0,.ptr o6 0 0 0,.ptr o7 0 0 0,.ptr o11 0 0 0,.ptr o12 0 0 0,.ptr o14 0 0 0,.ptr o16 0 0 0,.ptr o17 0 0 0]]]))])++[some (.arr 0 4 0 [[.int .i64 a0.kind,.str a0.name,.sl false 1 16 (rows r4X a0.words),.sl false 4 72 (rows p6w.cells a0.subs)]]),some (.arr 0 6 0 [[.int .i64 0,.str [],.r5g,.r5g,.int .i64 0,.int .i64 0]]),some (.arr 0 6 0 [[.int .i64 a0.kind,.str j2.1,.ref false (st.length+3) gt1 0 t1.length,.r5g,.int .i64 0,.int .i64 0]]),some (.arr gt1 1 16 (rows r4X t1))]) (fun gj2 j2 fr1 st1 h hb=>?_) (fun hj2=>?_)
    ·try simp only[go_sem,fx]
     unfold r9u at h
     refine r6O hb ?_
     refine r0 ?_
     refine r0 ?_
     (repeat apply sq_)
     refine r9q 6 88 ?_
     refine r9q 4 72 ?_
     try simp only[List.append_assoc,List.cons_append,List.nil_append]
     refine r6O (F:=[(1,.sl false 1 16 (rows r4X j2.2)),(13,.ptr o17 0 0 0),(16,.ptr (st.length+1) 0 0 0),(22,.ptr (st.length+2) 0 0 0),(25,.ref false (st.length+4) 0 0 0),(148,.sl false 4 72 (rows p6w.cells a0.subs)),(149,.int .i64 (↑a0.subs.length:Int)),(150,.int .i64 0)]) (T:=(r5k st [(o0,(.arr 0 11 0 [[.int .i64 r5q,.str r8I,.sl false 1 16 (rows r4X r8J),.sl false 4 72 (rows p6w.cells r5T),.sl false 1 16 (rows r4X r8q),.sl false 1 16 (rows r4X r8y),.sl false 1 16 (rows r4X r8K),.int .i64 u1n,.str u1o,.sl false 1 16 (rows r4X u1p),.sl false 4 72 (rows p6w.cells r6R)]])),(o1,(.arr 0 1 0 [[.mp o2]])),(o2,(.mps true (mrw r4Z.cells m2))),(o3,(.arr 0 1 0 [[.sl false 6 104 (rows r4Y.cells r9v)]])),(o4,(.arr 0 1 0 [[.int .i64 r9e]])),(o5,(.arr 0 1 0 [[.int .i64 r9Y]])),(o6,(.arr 0 1 0 [[.int .i64 u5r]])),(o7,(.arr 0 1 0 [[.ptr o8 0 0 0]])),(o8,(.arr 0 4 0 [[.sl false 11 216 (rows r4V.cells u6Q),.mp o9,.ref false o10 (q10+l10.length) 0 l10.length,.int .i64 u9u]])),(o9,(.mps false (mrw u0I m9))),(o10,(.arr (q10+l10.length) 2 16 (rows r4W.cells l10))),(o11,(.arr 0 1 0 [[.str u1h]])),(o12,(.arr 0 1 0 [[.mp o13]])),(o13,(.mps false (mrw r4X m13))),(o14,(.arr 0 1 0 [[.mp o15]])),(o15,(.mps false (mrw r4X m15))),(o16,(.arr 0 1 0 [[.fn 112 [] []]])),(o17,(.arr 0 1 0 [[.fn 114 [] [.ptr o0 0 0 0,.ptr o1 0 0 0,.ptr o3 0 0 0,.ptr o4 0 0 0,.ptr o5 0 0 0,.ptr o6 0 0 0,.ptr o7 0 0 0,.ptr o11 0 0 0,.ptr o12 0 0 0,.ptr o14 0 0 0,.ptr o16 0 0 0,.ptr o17 0 0 0]]]))])++[some (.arr 0 4 0 [[.int .i64 a0.kind,.str a0.name,.sl false 1 16 (rows r4X a0.words),.sl false 4 72 (rows p6w.cells a0.subs)]]),some (.arr 0 6 0 [[.int .i64 0,.str [],.r5g,.r5g,.int .i64 0,.int .i64 0]]),some (.arr 0 6 0 [[.int .i64 a0.kind,.str j2.1,.ref false (st.length+3) gt1 0 t1.length,.ref false (st.length+5) 0 0 0,.int .i64 0,.int .i64 0]]),some (.arr gt1 1 16 (rows r4X t1)),some (.arr 0 6 88 (rows r4Z.cells [])),some (.arr 0 4 72 (rows p6w.cells []))]) (u0G (by simp) (r7P hsc (by simp<;>omega)) (.lv (.lv (.live _ _ _ _ (.arr _ _ _ _ _ (.cons _ _ _ _ (.cons _ _ _ _ .s (.cons _ _ _ _ .s (.cons _ _ _ _ .s (.cons _ _ _ _ (.nref _ _ _ _ _ _ (r5u.trans rfl)) (.cons _ _ _ _ .s (.cons _ _ _ _ .s .nil)))))) (.same _))) (.lv (.lv (.lv (.nil _))))))) (by simp<;>omega) ⟨.s,.s,.s,.s,.nref _ _ _ _ _ _ (r5u.trans rfl),.s,.s,.s,trivial⟩ (by simp<;>omega)) ?_
     refine aln 148 fun hl3=>?_
     refine rng (body:=u2E (r8X r5l n) a0 j2 r5q r8I r8J r5T r8q r8y r8K u1n u1o u1p r6R r9v r9e r9Y u5r u6Q m9 u1h m13 m15) (kk:=u2F a0 j2 t1) (n:=a0.subs.length) (s0:=(u9u,l10,m2,[],[]))
      (fun(gs3:Nat×Nat) (k3:Nat) (s3:Int×(List r4W)×(List (Bs×r4Z))×(List r4Z)×(List p6w))=>[(1,.sl false 1 16 (rows r4X j2.2)),(13,.ptr o17 0 0 0),(16,.ptr (st.length+1) 0 0 0),(22,.ptr (st.length+2) 0 0 0),(25,.ref false (st.length+4) gs3.1 0 s3.2.2.2.1.length),(148,.sl false 4 72 (rows p6w.cells a0.subs)),(149,.int .i64 (↑a0.subs.length:Int)),(150,.int .i64 (↑k3:Int))])
      (fun(gs3:Nat×Nat) (k3:Nat) (s3:Int×(List r4W)×(List (Bs×r4Z))×(List r4Z)×(List p6w))=>(r5k st [(o0,(.arr 0 11 0 [[.int .i64 r5q,.str r8I,.sl false 1 16 (rows r4X r8J),.sl false 4 72 (rows p6w.cells r5T),.sl false 1 16 (rows r4X r8q),.sl false 1 16 (rows r4X r8y),.sl false 1 16 (rows r4X r8K),.int .i64 u1n,.str u1o,.sl false 1 16 (rows r4X u1p),.sl false 4 72 (rows p6w.cells r6R)]])),(o1,(.arr 0 1 0 [[.mp o2]])),(o2,(.mps true (mrw r4Z.cells s3.2.2.1))),(o3,(.arr 0 1 0 [[.sl false 6 104 (rows r4Y.cells r9v)]])),(o4,(.arr 0 1 0 [[.int .i64 r9e]])),(o5,(.arr 0 1 0 [[.int .i64 r9Y]])),(o6,(.arr 0 1 0 [[.int .i64 u5r]])),(o7,(.arr 0 1 0 [[.ptr o8 0 0 0]])),(o8,(.arr 0 4 0 [[.sl false 11 216 (rows r4V.cells u6Q),.mp o9,.ref false o10 (q10+s3.2.1.length) 0 s3.2.1.length,.int .i64 s3.1]])),(o9,(.mps false (mrw u0I m9))),(o10,(.arr (q10+s3.2.1.length) 2 16 (rows r4W.cells s3.2.1))),(o11,(.arr 0 1 0 [[.str u1h]])),(o12,(.arr 0 1 0 [[.mp o13]])),(o13,(.mps false (mrw r4X m13))),(o14,(.arr 0 1 0 [[.mp o15]])),(o15,(.mps false (mrw r4X m15))),(o16,(.arr 0 1 0 [[.fn 112 [] []]])),(o17,(.arr 0 1 0 [[.fn 114 [] [.ptr o0 0 0 0,.ptr o1 0 0 0,.ptr o3 0 0 0,.ptr o4 0 0 0,.ptr o5 0 0 0,.ptr o6 0 0 0,.ptr o7 0 0 0,.ptr o11 0 0 0,.ptr o12 0 0 0,.ptr o14 0 0 0,.ptr o16 0 0 0,.ptr o17 0 0 0]]]))])++[none,some (.arr 0 6 0 [[.int .i64 0,.str [],.r5g,.r5g,.int .i64 0,.int .i64 0]]),some (.arr 0 6 0 [[.int .i64 a0.kind,.str j2.1,.ref false (st.length+3) gt1 0 t1.length,.ref false (st.length+5) gs3.2 0 s3.2.2.2.2.length,.int .i64 0,.int .i64 0]]),some (.arr gt1 1 16 (rows r4X t1)),some (.arr gs3.1 6 88 (rows r4Z.cells s3.2.2.2.1)),some (.arr gs3.2 4 72 (rows p6w.cells s3.2.2.2.2))])
      (fun(gt3:Nat×Nat) (t3:Int×(List r4W)×(List (Bs×r4Z))×(List r4Z)×(List p6w))=>[(16,.ptr (st.length+1) 0 0 0),(22,.ptr (st.length+2) 0 0 0),(25,.ref false (st.length+4) gt3.1 0 t3.2.2.2.1.length)])
      (fun(gt3:Nat×Nat) (t3:Int×(List r4W)×(List (Bs×r4Z))×(List r4Z)×(List p6w))=>(r5k st [(o0,(.arr 0 11 0 [[.int .i64 r5q,.str r8I,.sl false 1 16 (rows r4X r8J),.sl false 4 72 (rows p6w.cells r5T),.sl false 1 16 (rows r4X r8q),.sl false 1 16 (rows r4X r8y),.sl false 1 16 (rows r4X r8K),.int .i64 u1n,.str u1o,.sl false 1 16 (rows r4X u1p),.sl false 4 72 (rows p6w.cells r6R)]])),(o1,(.arr 0 1 0 [[.mp o2]])),(o2,(.mps true (mrw r4Z.cells t3.2.2.1))),(o3,(.arr 0 1 0 [[.sl false 6 104 (rows r4Y.cells r9v)]])),(o4,(.arr 0 1 0 [[.int .i64 r9e]])),(o5,(.arr 0 1 0 [[.int .i64 r9Y]])),(o6,(.arr 0 1 0 [[.int .i64 u5r]])),(o7,(.arr 0 1 0 [[.ptr o8 0 0 0]])),(o8,(.arr 0 4 0 [[.sl false 11 216 (rows r4V.cells u6Q),.mp o9,.ref false o10 (q10+t3.2.1.length) 0 t3.2.1.length,.int .i64 t3.1]])),(o9,(.mps false (mrw u0I m9))),(o10,(.arr (q10+t3.2.1.length) 2 16 (rows r4W.cells t3.2.1))),(o11,(.arr 0 1 0 [[.str u1h]])),(o12,(.arr 0 1 0 [[.mp o13]])),(o13,(.mps false (mrw r4X m13))),(o14,(.arr 0 1 0 [[.mp o15]])),(o15,(.mps false (mrw r4X m15))),(o16,(.arr 0 1 0 [[.fn 112 [] []]])),(o17,(.arr 0 1 0 [[.fn 114 [] [.ptr o0 0 0 0,.ptr o1 0 0 0,.ptr o3 0 0 0,.ptr o4 0 0 0,.ptr o5 0 0 0,.ptr o6 0 0 0,.ptr o7 0 0 0,.ptr o11 0 0 0,.ptr o12 0 0 0,.ptr o14 0 0 0,.ptr o16 0 0 0,.ptr o17 0 0 0]]]))])++[none,some (.arr 0 6 0 [[.int .i64 0,.str [],.r5g,.r5g,.int .i64 0,.int .i64 0]]),some (.arr 0 6 0 [[.int .i64 a0.kind,.str j2.1,.ref false (st.length+3) gt1 0 t1.length,.ref false (st.length+5) gt3.2 0 t3.2.2.2.2.length,.int .i64 0,.int .i64 0]]),some (.arr gt1 1 16 (rows r4X t1)),some (.arr gt3.1 6 88 (rows r4Z.cells t3.2.2.2.1)),some (.arr gt3.2 4 72 (rows p6w.cells t3.2.2.2.2))])
      (0,0) fx hl3 h (bu hsc)
      (fun gs3 k3 s3 b3 fx h hx3=>?_) (fun gs3 s3=>?_) (fun gt3 t3 fr1 st1 h hb=>?_)
     ·unfold u2E at h
      refine ct ?_
      refine rn ?_
      obtain⟨v70,hv70,h⟩:=r7G h
      refine x0l (ih _ _ _ _ _ _ _ _ _ _ _ _ _ _ _ _ _ _ _ _ _ _ _ _ _ _ hv70 _ _ _ _ _ _ _ _ _ _ _ _ _ _ _ _ _ _ _ q10 hnd (by simp only[go_sem,fx]) (by simp only[go_sem,fx]) (by simp only[go_sem,fx]) (by simp only[go_sem,fx]) (by simp only[go_sem,fx]) (by simp only[go_sem,fx]) (by simp only[go_sem,fx]) (by simp only[go_sem,fx]) (by simp only[go_sem,fx]) (by simp only[go_sem,fx]) (by simp only[go_sem,fx]) (by simp only[go_sem,fx]) (by simp only[go_sem,fx]) (by simp only[go_sem,fx]) (by simp only[go_sem,fx]) (by simp only[go_sem,fx]) (by simp only[go_sem,fx]) (by simp only[go_sem,fx])) ?_
      refine cd h (fun hc h=>?_) fun hc h=>?_
      ·refine ra ?_
       cases h
       refine r7h ?_;have h:=congrArg some (hx3 _ rfl)
       refine rr ?_
       exact fuo (.tup [.agg [.int .i64 0,.str [],.sl false 1 16 (rows r4X []),.sl false 4 72 (rows p6w.cells []),.int .i64 0,.int .i64 0],.bool false]) (.tup _ _ (.cons _ _ _ _ (.agg _ _ (.cons _ _ _ _ .s (.cons _ _ _ _ .s (.cons _ _ _ _ (.r5g _ _ _ (by decide)) (.cons _ _ _ _ (.r5g _ _ _ (by decide)) (.cons _ _ _ _ .s (.cons _ _ _ _ .s .nil))))))) (.cons _ _ _ _ .s .nil)) rfl) h hsc
      ·refine r0 ?_
       obtain⟨c72,y1G,h⟩:=u2v h
       have fy:=(show rows r4Z.cells s3.2.2.2.1++[[.int .i64 v70.1.form.kind,.str v70.1.form.name,.sl false 1 16 (rows r4X v70.1.form.words),.sl false 4 72 (rows p6w.cells v70.1.form.subs),.int .i64 v70.1.nodes,.int .i64 v70.1.depth]]=rows r4Z.cells c72 from by rw[y1G];first|exact r5y (E:=r4Z.cells) s3.2.2.2.1 [v70.1]|simp only[go_sem,rows,List.map_append,List.map_cons,List.map_nil])
       have fy:=fa fy (show s3.2.2.2.1.length+1=c72.length from by rw[y1G];simp)
       obtain⟨fx,h⟩:=ck fx h
       refine r1 ?_
       obtain⟨c78,y1H,h⟩:=u2v h
       have fy:=(show rows p6w.cells s3.2.2.2.2++[[.int .i64 v70.1.form.kind,.str v70.1.form.name,.sl false 1 16 (rows r4X v70.1.form.words),.sl false 4 72 (rows p6w.cells v70.1.form.subs)]]=rows p6w.cells c78 from by rw[y1H];first|exact r5y (E:=p6w.cells) s3.2.2.2.2 [v70.1.form]|simp only[go_sem,rows,List.map_append,List.map_cons,List.map_nil])
       have fy:=fa fy (show s3.2.2.2.2.length+1=c78.length from by rw[y1H];simp)
       obtain⟨fx,h⟩:=ck fx h
       refine r1 ?_
       refine rn ?_
       cases h
       exact u2o ((gs3.1+1),(gs3.2+1)) (bu hsc)
     ·refine cf ?_
      refine u2n ?_;simp only[go_sem,fx]
      exact⟨(gs3.1,gs3.2),(bu hsc)⟩
     ·try simp only[go_sem,fx]
      unfold u2F at h
      refine r6O hb ?_
      refine rn ?_
      obtain⟨v83,hv83,h⟩:=r7G h
      refine((u6C _ _ hv83).borrow (args:=[.ref false (st.length+4) gt3.1 0 t3.2.2.2.1.length]) (.cons _ _ _ _ (.ref _ _ _ _ _ _ _ _ _ (r5u.trans rfl) w4q (by decide) (u4I _) (by simp only[go_sem])) .nil) (by simp) rfl ) ?_
      refine rr ?_
      exact fuo (.tup [.agg [.int .i64 a0.kind,.str j2.1,.sl false 1 16 (rows r4X t1),.sl false 4 72 (rows p6w.cells t3.2.2.2.2),.int .i64 v83.1,.int .i64 v83.2.1],.bool v83.2.2]) (.tup _ _ (.cons _ _ _ _ (.agg _ _ (.cons _ _ _ _ .s (.cons _ _ _ _ .s (.cons _ _ _ _ (.ref _ _ _ _ _ _ _ _ _ (r5u.trans rfl) r9r (by decide) (u4I _) (by simp only[go_sem])) (.cons _ _ _ _ (.ref _ _ _ _ _ _ _ _ _ (r5u.trans rfl) r9r (by decide) (u4I _) (by simp only[go_sem])) (.cons _ _ _ _ .s (.cons _ _ _ _ .s .nil))))))) (.cons _ _ _ _ .s .nil)) rfl) h hsc
    ·refine cd h (fun hc h=>?_) fun hc h=>?_
     ·refine r0 ?_
      (repeat apply sq_)
      refine r9q 1 16 ?_
      try simp only[List.append_assoc,List.cons_append,List.nil_append]
      refine r6O (F:=[(1,.sl false 1 16 (rows r4X a1)),(13,.ptr o17 0 0 0),(14,.ptr st.length 0 0 0),(16,.ptr (st.length+1) 0 0 0),(22,.ptr (st.length+2) 0 0 0)]) (T:=(r5k st [(o0,(.arr 0 11 0 [[.int .i64 r5q,.str r8I,.sl false 1 16 (rows r4X r8J),.sl false 4 72 (rows p6w.cells r5T),.sl false 1 16 (rows r4X r8q),.sl false 1 16 (rows r4X r8y),.sl false 1 16 (rows r4X r8K),.int .i64 u1n,.str u1o,.sl false 1 16 (rows r4X u1p),.sl false 4 72 (rows p6w.cells r6R)]])),(o1,(.arr 0 1 0 [[.mp o2]])),(o2,(.mps true (mrw r4Z.cells m2))),(o3,(.arr 0 1 0 [[.sl false 6 104 (rows r4Y.cells r9v)]])),(o4,(.arr 0 1 0 [[.int .i64 r9e]])),(o5,(.arr 0 1 0 [[.int .i64 r9Y]])),(o6,(.arr 0 1 0 [[.int .i64 u5r]])),(o7,(.arr 0 1 0 [[.ptr o8 0 0 0]])),(o8,(.arr 0 4 0 [[.sl false 11 216 (rows r4V.cells u6Q),.mp o9,.ref false o10 (q10+l10.length) 0 l10.length,.int .i64 u9u]])),(o9,(.mps false (mrw u0I m9))),(o10,(.arr (q10+l10.length) 2 16 (rows r4W.cells l10))),(o11,(.arr 0 1 0 [[.str u1h]])),(o12,(.arr 0 1 0 [[.mp o13]])),(o13,(.mps false (mrw r4X m13))),(o14,(.arr 0 1 0 [[.mp o15]])),(o15,(.mps false (mrw r4X m15))),(o16,(.arr 0 1 0 [[.fn 112 [] []]])),(o17,(.arr 0 1 0 [[.fn 114 [] [.ptr o0 0 0 0,.ptr o1 0 0 0,.ptr o3 0 0 0,.ptr o4 0 0 0,.ptr o5 0 0 0,.ptr o6 0 0 0,.ptr o7 0 0 0,.ptr o11 0 0 0,.ptr o12 0 0 0,.ptr o14 0 0 0,.ptr o16 0 0 0,.ptr o17 0 0 0]]]))])++[some (.arr 0 4 0 [[.int .i64 a0.kind,.str a0.name,.sl false 1 16 (rows r4X a0.words),.sl false 4 72 (rows p6w.cells a0.subs)]]),some (.arr 0 6 0 [[.int .i64 0,.str [],.r5g,.r5g,.int .i64 0,.int .i64 0]]),some (.arr 0 6 0 [[.int .i64 a0.kind,.str ((assoc a0.name m15).getD default),.ref false (st.length+3) gt1 0 t1.length,.r5g,.int .i64 0,.int .i64 0]]),some (.arr gt1 1 16 (rows r4X t1)),some (.arr 0 1 16 (rows r4X []))]) (u0G (by simp) (r7P hsc (by simp<;>omega)) (.lv (.lv (.lv (.lv (.lv (.nil _)))))) (by simp<;>omega) ⟨.s,.s,.s,.s,.s,trivial⟩ (by simp<;>omega)) ?_
      refine rs ?_
      refine dw [1,3] 2 ?_
      obtain⟨v45,hv45,h⟩:=r7G h
      refine u2j [(st.length+4)] (fun st2 h2=>(r6i _ _ _ hv45 st2 (st.length+4) 0 (by simp) ((h2 _ (by simp)).trans (r5x.trans rfl)))) (by simp) (by simp only[List.mem_cons,List.not_mem_nil,or_false,forall_eq_or_imp,forall_eq];exact⟨by first|omega|(simp<;>omega),_,(r5x.trans rfl),Ob.noConfusion⟩) (by simp) ?_
      obtain⟨c47,y1I,h⟩:=u2v h
      have fy:=(show rows r4X v45++[[.str a0.name]]=rows r4X c47 from by rw[y1I];first|exact r5y (E:=r4X) v45 [a0.name]|simp only[go_sem,rows,List.map_append,List.map_cons,List.map_nil])
      have fy:=fa fy (show v45.length+1=c47.length from by rw[y1I];simp)
      obtain⟨fx,h⟩:=ck fx h
      try simp only[go_sem,fx,fy]
      try refine⟨by first|omega|(simp<;>omega),?_⟩
      refine hj2 () _ _ _ h ?_;exact(bu hsc (hf:=⟨.ref _ _ _ _ _ _ _ _ _ (r5u.trans rfl) (u0Z (by first|decide|simp)) (by decide) (u4I _) (by simp only[go_sem]),.s,.s,.s,.s,trivial⟩))
     ·refine cd h (fun hc h=>?_) fun hc h=>?_
      ·refine rs ?_
       obtain⟨fx,h⟩:=ck fx h
       refine dw [] 0 ?_
       obtain⟨v56,hv56,h⟩:=r7G h
       refine r8U (u2J _ _ _ hv56) ?_
       try simp only[go_sem,fx]
       refine hj2 () _ _ _ h ?_;exact(bu hsc)
      ·refine r0 ?_
       refine hj2 () _ _ _ h ?_;exact(bu hsc)
end Go.Proofs.YtfacbpehlibilaaGreatDoor
