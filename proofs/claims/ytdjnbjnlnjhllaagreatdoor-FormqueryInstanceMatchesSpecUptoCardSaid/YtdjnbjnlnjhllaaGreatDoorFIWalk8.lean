import Derived.Test.YtdjnbjnlnjhllaaGreatDoorFIWalk6
import Derived.Test.YtdjnbjnlnjhllaaGreatDoorFIWalk7
set_option linter.unusedVariables false
set_option linter.unusedSimpArgs false
set_option maxHeartbeats 2000000
set_option maxRecDepth 100000
namespace Go.Proofs.YtdjnbjnlnjhllaaGreatDoor
open Go Go.Am
theorem x5n(n:Nat)(a0:w3T)(a1:(List Bs))(a2:(List Bs))(r:w3T)(h:w9W n a0 a1 a2=some r):Pure Tryz.prog gl 32 [.agg [.int .i64 a0.kind,.str a0.name,.sl false 1 16 (rows w3X a0.words),.sl false 4 72 (rows w3T.cells a0.subs)],.sl false 1 16 (rows w3X a1),.sl false 1 16 (rows w3X a2)] (.agg [.int .i64 r.kind,.str r.name,.sl false 1 16 (rows w3X r.words),.sl false 4 72 (rows w3T.cells r.subs)]):=by
 intro st
 unfold w9W at h
 have fx:=trivial
 refine fb 62 [.cell 6 25] [0,1,2,3,6,7,8,9,11,12,13,14,15,21,22,23,24,34,41] Tryz.func32 fun hsc=>?_
 refine rn ?_
 obtain⟨v1,hv1,h⟩:=w7w h
 refine(x4J n _ _ _ _ _ hv1 _ _ (by simp) (x5S.trans rfl)).mono ?_
 rintro d1 st1 ⟨rfl,rfl⟩
 refine cl h (x3W n _) fun v2 h=>?_
 try simp only[go_sem,fx]
 (repeat apply sq_)
 refine w9I 1 16 ?_
 try simp only[List.append_assoc,List.cons_append,List.nil_append]
 refine w5A (F:=[(6,.ptr (st.length+1) 0 0 0),(7,.ptr (st.length+2) 0 0 0),(8,.ptr (st.length+3) 0 0 0),(9,.ref false (st.length+4) 0 0 0),(21,.sl false 1 16 (rows w3X v2)),(22,.int .i64 (↑v2.length:Int)),(23,.int .i64 0)]) (T:=st++[some (.arr 0 4 0 [[.int .i64 a0.kind,.str a0.name,.sl false 1 16 (rows w3X a0.words),.sl false 4 72 (rows w3T.cells a0.subs)]]),some (.arr 0 4 0 [[.int .i64 0,.str [],.w4g,.w4g]]),some (.arr 0 1 0 [[.int .i64 v1.2]]),some (.arr 0 4 0 [[.int .i64 v1.1.kind,.str v1.1.name,.sl false 1 16 (rows w3X v1.1.words),.sl false 4 72 (rows w3T.cells v1.1.subs)]]),some (.arr 0 1 16 (rows w3X []))]) (y1B hsc (.lv (.lv (.lv (.lv (.lv (.nil _)))))) (by simp) ⟨.s,.s,.s,.nref _ _ _ _ _ _ (x6a.trans rfl),.s,.s,.s,trivial⟩ (by simp)) ?_
 refine aln 21 fun hl0=>?_
 refine rng (body:=w8N v2) (kk:=w8O n v1) (n:=v2.length) (s0:=[])
  (fun(gs0:Nat) (k0:Nat) (s0:(List Bs))=>[(6,.ptr (st.length+1) 0 0 0),(7,.ptr (st.length+2) 0 0 0),(8,.ptr (st.length+3) 0 0 0),(9,.ref false (st.length+4) gs0 0 s0.length),(21,.sl false 1 16 (rows w3X v2)),(22,.int .i64 (↑v2.length:Int)),(23,.int .i64 (↑k0:Int))])
  (fun(gs0:Nat) (k0:Nat) (s0:(List Bs))=>st++[none,some (.arr 0 4 0 [[.int .i64 0,.str [],.w4g,.w4g]]),some (.arr 0 1 0 [[.int .i64 v1.2]]),some (.arr 0 4 0 [[.int .i64 v1.1.kind,.str v1.1.name,.sl false 1 16 (rows w3X v1.1.words),.sl false 4 72 (rows w3T.cells v1.1.subs)]]),some (.arr gs0 1 16 (rows w3X s0))])
  (fun(gt0:Nat) (t0:(List Bs))=>[(6,.ptr (st.length+1) 0 0 0),(7,.ptr (st.length+2) 0 0 0),(8,.ptr (st.length+3) 0 0 0),(9,.ref false (st.length+4) gt0 0 t0.length)])
  (fun(gt0:Nat) (t0:(List Bs))=>st++[none,some (.arr 0 4 0 [[.int .i64 0,.str [],.w4g,.w4g]]),some (.arr 0 1 0 [[.int .i64 v1.2]]),some (.arr 0 4 0 [[.int .i64 v1.1.kind,.str v1.1.name,.sl false 1 16 (rows w3X v1.1.words),.sl false 4 72 (rows w3T.cells v1.1.subs)]]),some (.arr gt0 1 16 (rows w3X t0))])
  0 fx hl0 h (bm hsc)
  (fun gs0 k0 s0 b0 fx h hx0=>?_) (fun gs0 s0=>?_) (fun gt0 t0 fr1 st1 h hb=>?_)
 ·unfold w8N at h
  refine ct ?_
  refine r0 ?_
  refine r0 ?_
  refine r0 ?_
  obtain⟨c10,z0G,h⟩:=x1k h
  have fy:=(show rows w3X s0++[[.str (get v2 k0)]]=rows w3X c10 from by rw[z0G];first|exact w4k (E:=w3X) s0 [(get v2 k0)]|simp only[go_sem,rows,List.map_append,List.map_cons,List.map_nil])
  have fy:=fa fy (show s0.length+1=c10.length from by rw[z0G];simp)
  obtain⟨fx,h⟩:=ck fx h
  refine r1 ?_
  refine rn ?_
  cases h
  exact x2D (gs0+1) (bm hsc)
 ·refine cf ?_
  refine x2J ?_;simp only[go_sem,fx]
  exact⟨gs0,(bm hsc)⟩
 ·try simp only[go_sem,fx]
  unfold w8O at h
  refine w5A hb ?_
  refine r0 ?_
  refine r0 ?_
  refine r0 ?_
  (repeat apply sq_)
  refine w9I 1 16 ?_
  refine w9I 1 16 ?_
  try simp only[List.append_assoc,List.cons_append,List.nil_append]
  refine w5A (F:=[(6,.ptr (st.length+1) 0 0 0),(7,.ptr (st.length+2) 0 0 0),(8,.ptr (st.length+3) 0 0 0),(9,.ref false (st.length+4) gt0 0 t0.length),(12,.ref false (st.length+5) 0 0 0),(13,.ref false (st.length+6) 0 0 0),(14,.int .i64 0),(15,.int .i64 0)]) (T:=st++[none,some (.arr 0 4 0 [[.int .i64 0,.str [],.w4g,.w4g]]),some (.arr 0 1 0 [[.int .i64 v1.2]]),some (.arr 0 4 0 [[.int .i64 v1.1.kind,.str v1.1.name,.sl false 1 16 (rows w3X v1.1.words),.sl false 4 72 (rows w3T.cells v1.1.subs)]]),some (.arr gt0 1 16 (rows w3X t0)),some (.arr 0 1 16 (rows w3X [])),some (.arr 0 1 16 (rows w3X []))]) (y1B hsc (.dead _ _ _ (.lv (.lv (.lv (.lv (.lv (.lv (.nil _)))))))) (by simp) ⟨.s,.s,.s,.s,.nref _ _ _ _ _ _ (x6a.trans rfl),.nref _ _ _ _ _ _ (x6a.trans rfl),.s,.s,trivial⟩ (by simp)) ?_
  (repeat apply sq_)
  refine w4m (body:=w6R n v1 t0) (kk:=w8Q n v1) (n:=n) (s0:=([],[],0,0))
   (fun(gs1:Nat×Nat) (s1:(List Bs)×(List Bs)×Int×Int)=>[(6,.ptr (st.length+1) 0 0 0),(7,.ptr (st.length+2) 0 0 0),(8,.ptr (st.length+3) 0 0 0),(9,.ref false (st.length+4) gt0 0 t0.length),(12,.ref false (st.length+5) gs1.1 0 s1.1.length),(13,.ref false (st.length+6) gs1.2 0 s1.2.1.length),(14,.int .i64 s1.2.2.1),(15,.int .i64 s1.2.2.2)])
   (fun(gs1:Nat×Nat) (s1:(List Bs)×(List Bs)×Int×Int)=>st++[none,some (.arr 0 4 0 [[.int .i64 0,.str [],.w4g,.w4g]]),some (.arr 0 1 0 [[.int .i64 v1.2]]),some (.arr 0 4 0 [[.int .i64 v1.1.kind,.str v1.1.name,.sl false 1 16 (rows w3X v1.1.words),.sl false 4 72 (rows w3T.cells v1.1.subs)]]),some (.arr gt0 1 16 (rows w3X t0)),some (.arr gs1.1 1 16 (rows w3X s1.1)),some (.arr gs1.2 1 16 (rows w3X s1.2.1))])
   (fun(gt1:Nat×Nat) (t1:(List Bs)×(List Bs))=>[(6,.ptr (st.length+1) 0 0 0),(8,.ptr (st.length+3) 0 0 0),(12,.ref false (st.length+5) gt1.1 0 t1.1.length),(13,.ref false (st.length+6) gt1.2 0 t1.2.length)])
   (fun(gt1:Nat×Nat) (t1:(List Bs)×(List Bs))=>st++[none,some (.arr 0 4 0 [[.int .i64 0,.str [],.w4g,.w4g]]),none,some (.arr 0 4 0 [[.int .i64 v1.1.kind,.str v1.1.name,.sl false 1 16 (rows w3X v1.1.words),.sl false 4 72 (rows w3T.cells v1.1.subs)]]),none,some (.arr gt1.1 1 16 (rows w3X t1.1)),some (.arr gt1.2 1 16 (rows w3X t1.2))])
   (0,0) h (bm hsc)
   (fun gs1 s1 b1 h hx1=>?_) (fun gt1 t1 fr1 st1 h hb=>?_)
  ·unfold w6R at h
   refine cd h (fun hc h=>?_) fun hc h=>?_
   ·refine rn ?_
    refine w4m (body:=w6S n t0) (kk:=w8P n s1) (n:=n) (s0:=s1.2.2.1)
     (fun(gs3:Unit) (s3:Int)=>[(6,.ptr (st.length+1) 0 0 0),(7,.ptr (st.length+2) 0 0 0),(8,.ptr (st.length+3) 0 0 0),(9,.ref false (st.length+4) gt0 0 t0.length),(12,.ref false (st.length+5) gs1.1 0 s1.1.length),(13,.ref false (st.length+6) gs1.2 0 s1.2.1.length),(14,.int .i64 s3),(15,.int .i64 s1.2.2.2)])
     (fun(gs3:Unit) (s3:Int)=>st++[none,some (.arr 0 4 0 [[.int .i64 0,.str [],.w4g,.w4g]]),some (.arr 0 1 0 [[.int .i64 v1.2]]),some (.arr 0 4 0 [[.int .i64 v1.1.kind,.str v1.1.name,.sl false 1 16 (rows w3X v1.1.words),.sl false 4 72 (rows w3T.cells v1.1.subs)]]),some (.arr gt0 1 16 (rows w3X t0)),some (.arr gs1.1 1 16 (rows w3X s1.1)),some (.arr gs1.2 1 16 (rows w3X s1.2.1))])
     (fun(gt3:Unit) (t3:Int)=>[(6,.ptr (st.length+1) 0 0 0),(7,.ptr (st.length+2) 0 0 0),(8,.ptr (st.length+3) 0 0 0),(9,.ref false (st.length+4) gt0 0 t0.length),(12,.ref false (st.length+5) gs1.1 0 s1.1.length),(13,.ref false (st.length+6) gs1.2 0 s1.2.1.length),(14,.int .i64 t3),(15,.int .i64 s1.2.2.2)])
     (fun(gt3:Unit) (t3:Int)=>st++[none,some (.arr 0 4 0 [[.int .i64 0,.str [],.w4g,.w4g]]),some (.arr 0 1 0 [[.int .i64 v1.2]]),some (.arr 0 4 0 [[.int .i64 v1.1.kind,.str v1.1.name,.sl false 1 16 (rows w3X v1.1.words),.sl false 4 72 (rows w3T.cells v1.1.subs)]]),some (.arr gt0 1 16 (rows w3X t0)),some (.arr gs1.1 1 16 (rows w3X s1.1)),some (.arr gs1.2 1 16 (rows w3X s1.2.1))])
     () h (bm hsc)
     (fun gs3 s3 b3 h hx3=>?_) (fun gt3 t3 fr1 st1 h hb=>?_)
    ·unfold w6S at h
     refine cl h (w7K n _) fun v40 h=>?_
     obtain⟨fx,h⟩:=ck fx h
     refine rn ?_
     obtain⟨v42,hv42,h⟩:=w7w h
     refine((x0P _ _ _ hv42).borrow (args:=[.ref false (st.length+4) gt0 0 t0.length,.str (x5Z [118] v40)]) (.cons _ _ _ _ (.ref _ _ _ _ _ _ _ _ _ (x6a.trans rfl) y7d (by decide) (x4L _) (by simp only[go_sem])) (.cons _ _ _ _ .s .nil)) (by simp) rfl ) ?_
     refine cd h (fun hc h=>?_) fun hc h=>?_
     ·refine rn ?_
      cases h
      exact w4s () (bm hsc)
     ·refine rn ?_
      cases h
      exact w4H () (bm hsc)
    ·try simp only[go_sem,fx]
     unfold w8P at h
     refine w5A hb ?_
     refine cl h (w7K n _) fun v43 h=>?_
     obtain⟨fx,h⟩:=ck fx h
     obtain⟨c46,z7u,h⟩:=x1k h
     have fy:=(show rows w3X s1.1++[[.str (x5Z [33] v43)]]=rows w3X c46 from by rw[z7u];first|exact w4k (E:=w3X) s1.1 [(x5Z [33] v43)]|simp only[go_sem,rows,List.map_append,List.map_cons,List.map_nil])
     have fy:=fa fy (show s1.1.length+1=c46.length from by rw[z7u];simp)
     obtain⟨fx,h⟩:=ck fx h
     try simp only[go_sem,fx,fy]
     refine cl h (w7K n _) fun v51 h=>?_
     obtain⟨fx,h⟩:=ck fx h
     obtain⟨c54,z7v,h⟩:=x1k h
     have fy:=fa fy (show rows w3X s1.2.1++[[.str (x5Z [118] v51)]]=rows w3X c54 from by rw[z7v];first|exact w4k (E:=w3X) s1.2.1 [(x5Z [118] v51)]|simp only[go_sem,rows,List.map_append,List.map_cons,List.map_nil])
     have fy:=fa fy (show s1.2.1.length+1=c54.length from by rw[z7v];simp)
     obtain⟨fx,h⟩:=ck fx h
     try simp only[go_sem,fx,fy]
     refine rn ?_
     cases h
     exact w4s ((gs1.1+1),(gs1.2+1)) (bm hsc)
   ·refine rn ?_
    cases h
    exact w4H (gs1.1,gs1.2) (bm hsc)
  ·try simp only[go_sem,fx]
   unfold w8Q at h
   refine w5A hb ?_
   refine rn ?_
   obtain⟨v59,hv59,h⟩:=w7w h
   refine(x4q n _ _ _ _ hv59 _ _ _ gt1.1 gt1.2 (by simp) (x5S.trans rfl) (x5S.trans rfl)).mono ?_
   rintro d1 st1 ⟨rfl,rfl⟩
   exact rt
theorem x3O(n:Nat)(a0:w3T)(r:w3T)(h:w6g n a0=some r):Pure Tryz.prog gl 11 [.agg [.int .i64 a0.kind,.str a0.name,.sl false 1 16 (rows w3X a0.words),.sl false 4 72 (rows w3T.cells a0.subs)]] (.agg [.int .i64 r.kind,.str r.name,.sl false 1 16 (rows w3X r.words),.sl false 4 72 (rows w3T.cells r.subs)]):=by
 intro st
 unfold w6g at h
 have fx:=trivial
 refine fb 5 [.cell 2 25] [0,1,2] Tryz.func11 fun hsc=>?_
 refine cl h (up (x5n n _ _ _) (fun _=>(.cons _ _ _ _ .s (.cons _ _ _ _ (.w4g _ _ _ (by decide)) (.cons _ _ _ _ (.w4g _ _ _ (by decide)) .nil))))) fun v1 h=>?_
 exact rt
theorem x2Y(n:Nat)(a0:w3W)(r:(List Bs))(h:w5I n a0=some r):Pure Tryz.prog gl 16 [.agg [.int .i64 a0.form.kind,.str a0.form.name,.sl false 1 16 (rows w3X a0.form.words),.sl false 4 72 (rows w3T.cells a0.form.subs),.sl false 1 16 (rows w3X a0.words),.sl false 1 16 (rows w3X a0.w4a),.sl false 1 16 (rows w3X a0.parts)]] (.sl false 1 16 (rows w3X r)):=by
 intro st
 unfold w5I at h
 have fx:=trivial
 refine x3d ?_;refine fb 87 [.tmp 2] [0,1,2,3,4,5,6,7,8,14,29,44,61,71,72,73,74,75,76,77] Tryz.func16 fun hsc=>?_
 refine rn ?_
 refine w4m (body:=w7R a0) (kk:=w5X n a0) (n:=n) (s0:=([],0))
  (fun(gs0:Nat) (s0:(List Bs)×Int)=>[(1,.ptr st.length 0 0 0),(3,.ref false (st.length+1) gs0 0 s0.1.length),(4,.int .i64 s0.2)])
  (fun(gs0:Nat) (s0:(List Bs)×Int)=>st++[some (.arr 0 7 0 [[.int .i64 a0.form.kind,.str a0.form.name,.sl false 1 16 (rows w3X a0.form.words),.sl false 4 72 (rows w3T.cells a0.form.subs),.sl false 1 16 (rows w3X a0.words),.sl false 1 16 (rows w3X a0.w4a),.sl false 1 16 (rows w3X a0.parts)]]),some (.arr gs0 1 16 (rows w3X s0.1))])
  (fun(gt0:Nat) (t0:(List Bs))=>[(1,.ptr st.length 0 0 0),(3,.ref false (st.length+1) gt0 0 t0.length)])
  (fun(gt0:Nat) (t0:(List Bs))=>st++[some (.arr 0 7 0 [[.int .i64 a0.form.kind,.str a0.form.name,.sl false 1 16 (rows w3X a0.form.words),.sl false 4 72 (rows w3T.cells a0.form.subs),.sl false 1 16 (rows w3X a0.words),.sl false 1 16 (rows w3X a0.w4a),.sl false 1 16 (rows w3X a0.parts)]]),some (.arr gt0 1 16 (rows w3X t0))])
  0 h (bm hsc)
  (fun gs0 s0 b0 h hx0=>?_) (fun gt0 t0 fr1 st1 h hb=>?_)
 ·unfold w7R at h
  refine cd h (fun hc h=>?_) fun hc h=>?_
  ·refine r0 ?_
   refine r0 ?_
   obtain⟨fx,h⟩:=ck fx h
   obtain⟨c19,z4s,h⟩:=x1k h
   have fy:=(show rows w3X s0.1++[[.str (get a0.words s0.2.toNat)]]=rows w3X c19 from by rw[z4s];first|exact w4k (E:=w3X) s0.1 [(get a0.words s0.2.toNat)]|simp only[go_sem,rows,List.map_append,List.map_cons,List.map_nil])
   have fy:=fa fy (show s0.1.length+1=c19.length from by rw[z4s];simp)
   obtain⟨fx,h⟩:=ck fx h
   refine r1 ?_
   refine rn ?_
   cases h
   exact w4s (gs0+1) (bm hsc)
  ·refine rn ?_
   cases h
   exact w4H gs0 (bm hsc)
 ·try simp only[go_sem,fx]
  unfold w5X at h
  refine w5A hb ?_
  refine rn ?_
  refine w4m (body:=w7S a0) (kk:=w5Y n a0) (n:=n) (s0:=(t0,0))
   (fun(gs1:Nat) (s1:(List Bs)×Int)=>[(1,.ptr st.length 0 0 0),(3,.ref false (st.length+1) gs1 0 s1.1.length),(5,.int .i64 s1.2)])
   (fun(gs1:Nat) (s1:(List Bs)×Int)=>st++[some (.arr 0 7 0 [[.int .i64 a0.form.kind,.str a0.form.name,.sl false 1 16 (rows w3X a0.form.words),.sl false 4 72 (rows w3T.cells a0.form.subs),.sl false 1 16 (rows w3X a0.words),.sl false 1 16 (rows w3X a0.w4a),.sl false 1 16 (rows w3X a0.parts)]]),some (.arr gs1 1 16 (rows w3X s1.1))])
   (fun(gt1:Nat) (t1:(List Bs))=>[(1,.ptr st.length 0 0 0),(3,.ref false (st.length+1) gt1 0 t1.length)])
   (fun(gt1:Nat) (t1:(List Bs))=>st++[some (.arr 0 7 0 [[.int .i64 a0.form.kind,.str a0.form.name,.sl false 1 16 (rows w3X a0.form.words),.sl false 4 72 (rows w3T.cells a0.form.subs),.sl false 1 16 (rows w3X a0.words),.sl false 1 16 (rows w3X a0.w4a),.sl false 1 16 (rows w3X a0.parts)]]),some (.arr gt1 1 16 (rows w3X t1))])
   gt0 h (bm hsc)
   (fun gs1 s1 b1 h hx1=>?_) (fun gt1 t1 fr1 st1 h hb=>?_)
  ·unfold w7S at h
   refine cd h (fun hc h=>?_) fun hc h=>?_
   ·refine r0 ?_
    refine r0 ?_
    obtain⟨fx,h⟩:=ck fx h
    obtain⟨c34,y8t,h⟩:=x1k h
    have fy:=(show rows w3X s1.1++[[.str (get a0.w4a s1.2.toNat)]]=rows w3X c34 from by rw[y8t];first|exact w4k (E:=w3X) s1.1 [(get a0.w4a s1.2.toNat)]|simp only[go_sem,rows,List.map_append,List.map_cons,List.map_nil])
    have fy:=fa fy (show s1.1.length+1=c34.length from by rw[y8t];simp)
    obtain⟨fx,h⟩:=ck fx h
    refine r1 ?_
    refine rn ?_
    cases h
    exact w4s (gs1+1) (bm hsc)
   ·refine rn ?_
    cases h
    exact w4H gs1 (bm hsc)
  ·try simp only[go_sem,fx]
   unfold w5Y at h
   refine w5A hb ?_
   refine rn ?_
   refine w4m (body:=w7T a0) (kk:=w5Z n a0) (n:=n) (s0:=(t1,0))
    (fun(gs2:Nat) (s2:(List Bs)×Int)=>[(1,.ptr st.length 0 0 0),(3,.ref false (st.length+1) gs2 0 s2.1.length),(6,.int .i64 s2.2)])
    (fun(gs2:Nat) (s2:(List Bs)×Int)=>st++[some (.arr 0 7 0 [[.int .i64 a0.form.kind,.str a0.form.name,.sl false 1 16 (rows w3X a0.form.words),.sl false 4 72 (rows w3T.cells a0.form.subs),.sl false 1 16 (rows w3X a0.words),.sl false 1 16 (rows w3X a0.w4a),.sl false 1 16 (rows w3X a0.parts)]]),some (.arr gs2 1 16 (rows w3X s2.1))])
    (fun(gt2:Nat) (t2:(List Bs))=>[(1,.ptr st.length 0 0 0),(3,.ref false (st.length+1) gt2 0 t2.length)])
    (fun(gt2:Nat) (t2:(List Bs))=>st++[some (.arr 0 7 0 [[.int .i64 a0.form.kind,.str a0.form.name,.sl false 1 16 (rows w3X a0.form.words),.sl false 4 72 (rows w3T.cells a0.form.subs),.sl false 1 16 (rows w3X a0.words),.sl false 1 16 (rows w3X a0.w4a),.sl false 1 16 (rows w3X a0.parts)]]),some (.arr gt2 1 16 (rows w3X t2))])
    gt1 h (bm hsc)
    (fun gs2 s2 b2 h hx2=>?_) (fun gt2 t2 fr1 st1 h hb=>?_)
   ·unfold w7T at h
    refine cd h (fun hc h=>?_) fun hc h=>?_
    ·refine r0 ?_
     refine r0 ?_
     obtain⟨fx,h⟩:=ck fx h
     obtain⟨c49,z7w,h⟩:=x1k h
     have fy:=(show rows w3X s2.1++[[.str (get a0.parts s2.2.toNat)]]=rows w3X c49 from by rw[z7w];first|exact w4k (E:=w3X) s2.1 [(get a0.parts s2.2.toNat)]|simp only[go_sem,rows,List.map_append,List.map_cons,List.map_nil])
     have fy:=fa fy (show s2.1.length+1=c49.length from by rw[z7w];simp)
     obtain⟨fx,h⟩:=ck fx h
     refine r1 ?_
     refine rn ?_
     cases h
     exact w4s (gs2+1) (bm hsc)
    ·refine rn ?_
     cases h
     exact w4H gs2 (bm hsc)
   ·try simp only[go_sem,fx]
    unfold w5Z at h
    refine w5A hb ?_
    refine rn ?_
    obtain⟨v54,hv54,h⟩:=w7w h
    refine(w8a ((w8v n _ _ _ hv54).up (fun _=>(.cons _ _ _ _ .s (.cons _ _ _ _ .s (.cons _ _ _ _ (.w4g _ _ _ (by decide)) .nil)))) (.inr fun n=>by simp))).to ?_
    refine rn ?_
    refine w4m (body:=w5k v54) (kk:=w7U) (n:=n) (s0:=(t2,0))
     (fun(gs3:Nat) (s3:(List Bs)×Int)=>[(3,.ref false (st.length+1) gs3 0 s3.1.length),(7,.sl false 5 80 (rows w3U.cells v54)),(8,.int .i64 s3.2)])
     (fun(gs3:Nat) (s3:(List Bs)×Int)=>st++[none,some (.arr gs3 1 16 (rows w3X s3.1))])
     (fun(gt3:Nat) (t3:(List Bs))=>[(3,.ref false (st.length+1) gt3 0 t3.length)])
     (fun(gt3:Nat) (t3:(List Bs))=>st++[none,some (.arr gt3 1 16 (rows w3X t3))])
     gt2 h (bm hsc)
     (fun gs3 s3 b3 h hx3=>?_) (fun gt3 t3 fr1 st1 h hb=>?_)
    ·unfold w5k at h
     refine cd h (fun hc h=>?_) fun hc h=>?_
     ·obtain⟨fx,h⟩:=ck fx h
      refine cd h (fun hc h=>?_) fun hc h=>?_
      ·obtain⟨c65,z7x,h⟩:=x1k h
       have fy:=(show rows w3X s3.1++[[.str ((get v54 s3.2.toNat).name)]]=rows w3X c65 from by rw[z7x];first|exact w4k (E:=w3X) s3.1 [(get v54 s3.2.toNat).name]|simp only[go_sem,rows,List.map_append,List.map_cons,List.map_nil])
       have fy:=fa fy (show s3.1.length+1=c65.length from by rw[z7x];simp)
       obtain⟨fx,h⟩:=ck fx h
       refine r1 ?_
       refine rn ?_
       cases h
       exact w4s (gs3+1) (bm hsc)
      ·refine rn ?_
       cases h
       exact w4s gs3 (bm hsc)
     ·refine rn ?_
      cases h
      exact w4H gs3 (bm hsc)
    ·try simp only[go_sem,fx]
     unfold w7U at h
     refine w5A hb ?_
     refine rr ?_
     exact fo (.sl false 1 16 (rows w3X t3)) (.ref _ _ _ _ _ _ _ _ _ (x6a.trans rfl) y4B (by decide) (x4L _) (by simp only[go_sem])) h hsc
theorem x0s(a0:Int)(r:Int)(h:w6c a0=some r):Pure Tryz.prog gl 47 [.int .i64 a0] (.int .i64 r):=by
 intro st
 unfold w6c at h
 have fx:=trivial
 refine fb 23 [.tmp 2] [0,2,6,7,10,11,12,16,17,20,21,22] Tryz.func47 fun hsc=>?_
 refine cd h (fun hc h=>?_) fun hc h=>?_
 ·exact rt
 ·refine cd h (fun hc h=>?_) fun hc h=>?_
  ·exact rt
  ·exact rt
theorem x4H:∀(n:Nat) (a0:(List w3U)) (a1:Int) (r:w3T) (h:w4R n a0 a1=some r),Pure Tryz.prog gl 21 [.sl false 5 80 (rows w3U.cells a0),.int .i64 a1] (.agg [.int .i64 r.kind,.str r.name,.sl false 1 16 (rows w3X r.words),.sl false 4 72 (rows w3T.cells r.subs)]):=by
 intro n
 induction n with
 |zero=>intro a0 a1 r h;cases h
 |succ n ih=>
  intro a0 a1 r h st
  unfold w4R at h
  have fx:=trivial
  refine fb 66 [.cell 4 25] [0,1,4,5,6,7,8,27,49] Tryz.func21 fun hsc=>?_
  refine rn ?_
  obtain⟨fx,h⟩:=ck fx h
  refine dw [] 1 ?_
  refine r0 ?_
  (repeat apply sq_)
  refine w9I 1 16 ?_
  try simp only[List.append_assoc,List.cons_append,List.nil_append]
  refine w5A (F:=[(0,.sl false 5 80 (rows w3U.cells a0)),(1,.int .i64 a1),(4,.ptr st.length 0 0 0),(5,.ptr (st.length+1) 0 0 0),(6,.int .i64 0)]) (T:=st++[some (.arr 0 4 0 [[.int .i64 0,.str [],.w4g,.w4g]]),some (.arr 0 4 0 [[.int .i64 ((get a0 a1.toNat).kind),.str ((get a0 a1.toNat).name),.ref false (st.length+2) 0 0 0,.w4g]]),some (.arr 0 1 16 (rows w3X []))]) (y1B hsc (.lv (.live _ _ _ _ (.arr _ _ _ _ _ (.cons _ _ _ _ (.cons _ _ _ _ .s (.cons _ _ _ _ .s (.cons _ _ _ _ (.nref _ _ _ _ _ _ (x6a.trans rfl)) (.cons _ _ _ _ .s .nil)))) (.same _))) (.lv (.nil _)))) (by simp) ⟨.s,.s,.s,.s,.s,trivial⟩ (by simp)) ?_
  (repeat apply sq_)
  refine w4m (body:=w6k a0 a1) (kk:=w7I (w4R n) n a0 a1) (n:=n) (s0:=([],0))
   (fun(gs0:Nat) (s0:(List Bs)×Int)=>[(0,.sl false 5 80 (rows w3U.cells a0)),(1,.int .i64 a1),(4,.ptr st.length 0 0 0),(5,.ptr (st.length+1) 0 0 0),(6,.int .i64 s0.2)])
   (fun(gs0:Nat) (s0:(List Bs)×Int)=>st++[some (.arr 0 4 0 [[.int .i64 0,.str [],.w4g,.w4g]]),some (.arr 0 4 0 [[.int .i64 ((get a0 a1.toNat).kind),.str ((get a0 a1.toNat).name),.ref false (st.length+2) gs0 0 s0.1.length,.w4g]]),some (.arr gs0 1 16 (rows w3X s0.1))])
   (fun(gt0:Nat) (t0:(List Bs))=>[(0,.sl false 5 80 (rows w3U.cells a0)),(1,.int .i64 a1),(4,.ptr st.length 0 0 0),(5,.ptr (st.length+1) 0 0 0)])
   (fun(gt0:Nat) (t0:(List Bs))=>st++[some (.arr 0 4 0 [[.int .i64 0,.str [],.w4g,.w4g]]),some (.arr 0 4 0 [[.int .i64 ((get a0 a1.toNat).kind),.str ((get a0 a1.toNat).name),.ref false (st.length+2) gt0 0 t0.length,.w4g]]),some (.arr gt0 1 16 (rows w3X t0))])
   0 h (bm hsc)
   (fun gs0 s0 b0 h hx0=>?_) (fun gt0 t0 fr1 st1 h hb=>?_)
  ·unfold w6k at h
   refine cd h (fun hc h=>?_) fun hc h=>?_
   ·refine rn ?_
    obtain⟨fx,h⟩:=ck fx h
    obtain⟨c13,z7y,h⟩:=x1k h
    have fy:=(show rows w3X s0.1++[[.str (get ((get a0 a1.toNat).words) s0.2.toNat)]]=rows w3X c13 from by rw[z7y];first|exact w4k (E:=w3X) s0.1 [(get ((get a0 a1.toNat).words) s0.2.toNat)]|simp only[go_sem,rows,List.map_append,List.map_cons,List.map_nil])
    have fy:=fa fy (show s0.1.length+1=c13.length from by rw[z7y];simp)
    obtain⟨fx,h⟩:=ck fx h
    refine dwy [] 2 ?_
    refine rn ?_
    cases h
    exact w4s (gs0+1) (bm hsc)
   ·refine rn ?_
    cases h
    exact w4H gs0 (bm hsc)
  ·try simp only[go_sem,fx]
   unfold w7I at h
   refine w5A hb ?_
   refine r0 ?_
   refine r0 ?_
   (repeat apply sq_)
   refine w9I 4 72 ?_
   try simp only[List.append_assoc,List.cons_append,List.nil_append]
   refine w5A (F:=[(0,.sl false 5 80 (rows w3U.cells a0)),(4,.ptr st.length 0 0 0),(5,.ptr (st.length+1) 0 0 0),(7,.int .i64 (wr .i64 (a1+1))),(8,.int .i64 0)]) (T:=st++[some (.arr 0 4 0 [[.int .i64 0,.str [],.w4g,.w4g]]),some (.arr 0 4 0 [[.int .i64 ((get a0 a1.toNat).kind),.str ((get a0 a1.toNat).name),.ref false (st.length+2) gt0 0 t0.length,.ref false (st.length+3) 0 0 0]]),some (.arr gt0 1 16 (rows w3X t0)),some (.arr 0 4 72 (rows w3T.cells []))]) (y1B hsc (.lv (.live _ _ _ _ (.arr _ _ _ _ _ (.cons _ _ _ _ (.cons _ _ _ _ .s (.cons _ _ _ _ .s (.cons _ _ _ _ .s (.cons _ _ _ _ (.nref _ _ _ _ _ _ (x6a.trans rfl)) .nil)))) (.same _))) (.lv (.lv (.nil _))))) (by simp) ⟨.s,.s,.s,.s,.s,trivial⟩ (by simp)) ?_
   (repeat apply sq_)
   refine w4m (body:=w6l (w4R n) a0 a1) (kk:=w7J a0 a1 t0) (n:=n) (s0:=([],(wr .i64 (a1+1)),0))
    (fun(gs1:Nat) (s1:(List w3T)×Int×Int)=>[(0,.sl false 5 80 (rows w3U.cells a0)),(4,.ptr st.length 0 0 0),(5,.ptr (st.length+1) 0 0 0),(7,.int .i64 s1.2.1),(8,.int .i64 s1.2.2)])
    (fun(gs1:Nat) (s1:(List w3T)×Int×Int)=>st++[some (.arr 0 4 0 [[.int .i64 0,.str [],.w4g,.w4g]]),some (.arr 0 4 0 [[.int .i64 ((get a0 a1.toNat).kind),.str ((get a0 a1.toNat).name),.ref false (st.length+2) gt0 0 t0.length,.ref false (st.length+3) gs1 0 s1.1.length]]),some (.arr gt0 1 16 (rows w3X t0)),some (.arr gs1 4 72 (rows w3T.cells s1.1))])
    (fun(gt1:Nat) (t1:(List w3T))=>[(4,.ptr st.length 0 0 0),(5,.ptr (st.length+1) 0 0 0)])
    (fun(gt1:Nat) (t1:(List w3T))=>st++[some (.arr 0 4 0 [[.int .i64 0,.str [],.w4g,.w4g]]),some (.arr 0 4 0 [[.int .i64 ((get a0 a1.toNat).kind),.str ((get a0 a1.toNat).name),.ref false (st.length+2) gt0 0 t0.length,.ref false (st.length+3) gt1 0 t1.length]]),some (.arr gt0 1 16 (rows w3X t0)),some (.arr gt1 4 72 (rows w3T.cells t1))])
    0 h (bm hsc)
    (fun gs1 s1 b1 h hx1=>?_) (fun gt1 t1 fr1 st1 h hb=>?_)
   ·unfold w6l at h
    refine cl h (x0s _) fun v28 h=>?_
    refine cd h (fun hc h=>?_) fun hc h=>?_
    ·refine rn ?_
     refine dw [] 2 ?_
     obtain⟨v29,hv29,h⟩:=w7w h
     refine w7Z (ih _ _ _ hv29) ?_
     obtain⟨c31,z7z,h⟩:=x1k h
     have fy:=(show rows w3T.cells s1.1++[[.int .i64 v29.kind,.str v29.name,.sl false 1 16 (rows w3X v29.words),.sl false 4 72 (rows w3T.cells v29.subs)]]=rows w3T.cells c31 from by rw[z7z];first|exact w4k (E:=w3T.cells) s1.1 [v29]|simp only[go_sem,rows,List.map_append,List.map_cons,List.map_nil])
     have fy:=fa fy (show s1.1.length+1=c31.length from by rw[z7z];simp)
     obtain⟨fx,h⟩:=ck fx h
     try simp only[go_sem,fx,fy]
     obtain⟨fx,h⟩:=ck fx h
     refine rn ?_
     cases h
     exact w4s (gs1+1) (bm hsc)
    ·refine rn ?_
     cases h
     exact w4H gs1 (bm hsc)
   ·try simp only[go_sem,fx]
    unfold w7J at h
    refine w5A hb ?_
    refine rr ?_
    exact fo (.agg [.int .i64 ((get a0 a1.toNat).kind),.str ((get a0 a1.toNat).name),.sl false 1 16 (rows w3X t0),.sl false 4 72 (rows w3T.cells t1)]) (.agg _ _ (.cons _ _ _ _ .s (.cons _ _ _ _ .s (.cons _ _ _ _ (.ref _ _ _ _ _ _ _ _ _ (x6a.trans rfl) y4B (by decide) (x4L _) (by simp only[go_sem])) (.cons _ _ _ _ (.ref _ _ _ _ _ _ _ _ _ (x6a.trans rfl) y4B (by decide) (x4L _) (by simp only[go_sem])) .nil))))) h hsc
end Go.Proofs.YtdjnbjnlnjhllaaGreatDoor
