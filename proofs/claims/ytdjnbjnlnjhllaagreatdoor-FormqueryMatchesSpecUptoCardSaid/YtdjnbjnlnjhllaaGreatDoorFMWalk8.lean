import Derived.Test.YtdjnbjnlnjhllaaGreatDoorFMWalk6
import Derived.Test.YtdjnbjnlnjhllaaGreatDoorFMWalk7
set_option linter.unusedVariables false
set_option linter.unusedSimpArgs false
set_option maxHeartbeats 2000000
set_option maxRecDepth 100000
namespace Go.Proofs.YtdjnbjnlnjhllaaGreatDoor
open Go Go.Am
theorem p9c(n:Nat)(a0:i8F)(a1:(List Bs))(a2:(List Bs))(r:i8F)(h:p4m n a0 a1 a2=some r):Pure Tryz.prog gl 32 [.agg [.int .i64 a0.kind,.str a0.name,.sl false 1 16 (rows i8K a0.words),.sl false 4 72 (rows i8F.cells a0.subs)],.sl false 1 16 (rows i8K a1),.sl false 1 16 (rows i8K a2)] (.agg [.int .i64 r.kind,.str r.name,.sl false 1 16 (rows i8K r.words),.sl false 4 72 (rows i8F.cells r.subs)]):=by
 intro st
 unfold p4m at h
 have fx:=trivial
 refine fb 62 [.cell 6 25] [0,1,2,3,6,7,8,9,11,12,13,14,15,21,22,23,24,34,41] Tryz.func32 fun hsc=>?_
 refine rn ?_
 obtain⟨v1,hv1,h⟩:=p3S h
 refine(p8z n _ _ _ _ _ hv1 _ _ (by simp) (r1p.trans rfl)).mono ?_
 rintro d1 st1 ⟨rfl,rfl⟩
 refine cl h (p7F n _) fun v2 h=>?_
 try simp only[go_sem,fx]
 (repeat apply sq_)
 refine p4S 1 16 ?_
 try simp only[List.append_assoc,List.cons_append,List.nil_append]
 refine p0E (F:=[(6,.ptr (st.length+1) 0 0 0),(7,.ptr (st.length+2) 0 0 0),(8,.ptr (st.length+3) 0 0 0),(9,.ref false (st.length+4) 0 0 0),(21,.sl false 1 16 (rows i8K v2)),(22,.int .i64 (↑v2.length:Int)),(23,.int .i64 0)]) (T:=st++[some (.arr 0 4 0 [[.int .i64 a0.kind,.str a0.name,.sl false 1 16 (rows i8K a0.words),.sl false 4 72 (rows i8F.cells a0.subs)]]),some (.arr 0 4 0 [[.int .i64 0,.str [],.i8S,.i8S]]),some (.arr 0 1 0 [[.int .i64 v1.2]]),some (.arr 0 4 0 [[.int .i64 v1.1.kind,.str v1.1.name,.sl false 1 16 (rows i8K v1.1.words),.sl false 4 72 (rows i8F.cells v1.1.subs)]]),some (.arr 0 1 16 (rows i8K []))]) (r5T hsc (.lv (.lv (.lv (.lv (.lv (.nil _)))))) (by simp) ⟨.s,.s,.s,.nref _ _ _ _ _ _ (r0c.trans rfl),.s,.s,.s,trivial⟩ (by simp)) ?_
 refine aln 21 fun hl0=>?_
 refine rng (body:=p3q v2) (kk:=p3r n v1) (n:=v2.length) (s0:=[])
  (fun(gs0:Nat) (k0:Nat) (s0:(List Bs))=>[(6,.ptr (st.length+1) 0 0 0),(7,.ptr (st.length+2) 0 0 0),(8,.ptr (st.length+3) 0 0 0),(9,.ref false (st.length+4) gs0 0 s0.length),(21,.sl false 1 16 (rows i8K v2)),(22,.int .i64 (↑v2.length:Int)),(23,.int .i64 (↑k0:Int))])
  (fun(gs0:Nat) (k0:Nat) (s0:(List Bs))=>st++[none,some (.arr 0 4 0 [[.int .i64 0,.str [],.i8S,.i8S]]),some (.arr 0 1 0 [[.int .i64 v1.2]]),some (.arr 0 4 0 [[.int .i64 v1.1.kind,.str v1.1.name,.sl false 1 16 (rows i8K v1.1.words),.sl false 4 72 (rows i8F.cells v1.1.subs)]]),some (.arr gs0 1 16 (rows i8K s0))])
  (fun(gt0:Nat) (t0:(List Bs))=>[(6,.ptr (st.length+1) 0 0 0),(7,.ptr (st.length+2) 0 0 0),(8,.ptr (st.length+3) 0 0 0),(9,.ref false (st.length+4) gt0 0 t0.length)])
  (fun(gt0:Nat) (t0:(List Bs))=>st++[none,some (.arr 0 4 0 [[.int .i64 0,.str [],.i8S,.i8S]]),some (.arr 0 1 0 [[.int .i64 v1.2]]),some (.arr 0 4 0 [[.int .i64 v1.1.kind,.str v1.1.name,.sl false 1 16 (rows i8K v1.1.words),.sl false 4 72 (rows i8F.cells v1.1.subs)]]),some (.arr gt0 1 16 (rows i8K t0))])
  0 fx hl0 h (bm hsc)
  (fun gs0 k0 s0 b0 fx h hx0=>?_) (fun gs0 s0=>?_) (fun gt0 t0 fr1 st1 h hb=>?_)
 ·unfold p3q at h
  refine ct ?_
  refine r0 ?_
  refine r0 ?_
  refine r0 ?_
  obtain⟨c10,u4w,h⟩:=p5L h
  have fy:=(show rows i8K s0++[[.str (get v2 k0)]]=rows i8K c10 from by rw[u4w];first|exact i9b (E:=i8K) s0 [(get v2 k0)]|simp only[go_sem,rows,List.map_append,List.map_cons,List.map_nil])
  have fy:=fa fy (show s0.length+1=c10.length from by rw[u4w];simp)
  obtain⟨fx,h⟩:=ck fx h
  refine r1 ?_
  refine rn ?_
  cases h
  exact p7A (gs0+1) (bm hsc)
 ·refine cf ?_
  refine p7n ?_;simp only[go_sem,fx]
  exact⟨gs0,(bm hsc)⟩
 ·try simp only[go_sem,fx]
  unfold p3r at h
  refine p0E hb ?_
  refine r0 ?_
  refine r0 ?_
  refine r0 ?_
  (repeat apply sq_)
  refine p4S 1 16 ?_
  refine p4S 1 16 ?_
  try simp only[List.append_assoc,List.cons_append,List.nil_append]
  refine p0E (F:=[(6,.ptr (st.length+1) 0 0 0),(7,.ptr (st.length+2) 0 0 0),(8,.ptr (st.length+3) 0 0 0),(9,.ref false (st.length+4) gt0 0 t0.length),(12,.ref false (st.length+5) 0 0 0),(13,.ref false (st.length+6) 0 0 0),(14,.int .i64 0),(15,.int .i64 0)]) (T:=st++[none,some (.arr 0 4 0 [[.int .i64 0,.str [],.i8S,.i8S]]),some (.arr 0 1 0 [[.int .i64 v1.2]]),some (.arr 0 4 0 [[.int .i64 v1.1.kind,.str v1.1.name,.sl false 1 16 (rows i8K v1.1.words),.sl false 4 72 (rows i8F.cells v1.1.subs)]]),some (.arr gt0 1 16 (rows i8K t0)),some (.arr 0 1 16 (rows i8K [])),some (.arr 0 1 16 (rows i8K []))]) (r5T hsc (.dead _ _ _ (.lv (.lv (.lv (.lv (.lv (.lv (.nil _)))))))) (by simp) ⟨.s,.s,.s,.s,.nref _ _ _ _ _ _ (r0c.trans rfl),.nref _ _ _ _ _ _ (r0c.trans rfl),.s,.s,trivial⟩ (by simp)) ?_
  (repeat apply sq_)
  refine i8V (body:=p1E n v1 t0) (kk:=p3t n v1) (n:=n) (s0:=([],[],0,0))
   (fun(gs1:Nat×Nat) (s1:(List Bs)×(List Bs)×Int×Int)=>[(6,.ptr (st.length+1) 0 0 0),(7,.ptr (st.length+2) 0 0 0),(8,.ptr (st.length+3) 0 0 0),(9,.ref false (st.length+4) gt0 0 t0.length),(12,.ref false (st.length+5) gs1.1 0 s1.1.length),(13,.ref false (st.length+6) gs1.2 0 s1.2.1.length),(14,.int .i64 s1.2.2.1),(15,.int .i64 s1.2.2.2)])
   (fun(gs1:Nat×Nat) (s1:(List Bs)×(List Bs)×Int×Int)=>st++[none,some (.arr 0 4 0 [[.int .i64 0,.str [],.i8S,.i8S]]),some (.arr 0 1 0 [[.int .i64 v1.2]]),some (.arr 0 4 0 [[.int .i64 v1.1.kind,.str v1.1.name,.sl false 1 16 (rows i8K v1.1.words),.sl false 4 72 (rows i8F.cells v1.1.subs)]]),some (.arr gt0 1 16 (rows i8K t0)),some (.arr gs1.1 1 16 (rows i8K s1.1)),some (.arr gs1.2 1 16 (rows i8K s1.2.1))])
   (fun(gt1:Nat×Nat) (t1:(List Bs)×(List Bs))=>[(6,.ptr (st.length+1) 0 0 0),(8,.ptr (st.length+3) 0 0 0),(12,.ref false (st.length+5) gt1.1 0 t1.1.length),(13,.ref false (st.length+6) gt1.2 0 t1.2.length)])
   (fun(gt1:Nat×Nat) (t1:(List Bs)×(List Bs))=>st++[none,some (.arr 0 4 0 [[.int .i64 0,.str [],.i8S,.i8S]]),none,some (.arr 0 4 0 [[.int .i64 v1.1.kind,.str v1.1.name,.sl false 1 16 (rows i8K v1.1.words),.sl false 4 72 (rows i8F.cells v1.1.subs)]]),none,some (.arr gt1.1 1 16 (rows i8K t1.1)),some (.arr gt1.2 1 16 (rows i8K t1.2))])
   (0,0) h (bm hsc)
   (fun gs1 s1 b1 h hx1=>?_) (fun gt1 t1 fr1 st1 h hb=>?_)
  ·unfold p1E at h
   refine cd h (fun hc h=>?_) fun hc h=>?_
   ·refine rn ?_
    refine i8V (body:=p1F n t0) (kk:=p3s n s1) (n:=n) (s0:=s1.2.2.1)
     (fun(gs3:Unit) (s3:Int)=>[(6,.ptr (st.length+1) 0 0 0),(7,.ptr (st.length+2) 0 0 0),(8,.ptr (st.length+3) 0 0 0),(9,.ref false (st.length+4) gt0 0 t0.length),(12,.ref false (st.length+5) gs1.1 0 s1.1.length),(13,.ref false (st.length+6) gs1.2 0 s1.2.1.length),(14,.int .i64 s3),(15,.int .i64 s1.2.2.2)])
     (fun(gs3:Unit) (s3:Int)=>st++[none,some (.arr 0 4 0 [[.int .i64 0,.str [],.i8S,.i8S]]),some (.arr 0 1 0 [[.int .i64 v1.2]]),some (.arr 0 4 0 [[.int .i64 v1.1.kind,.str v1.1.name,.sl false 1 16 (rows i8K v1.1.words),.sl false 4 72 (rows i8F.cells v1.1.subs)]]),some (.arr gt0 1 16 (rows i8K t0)),some (.arr gs1.1 1 16 (rows i8K s1.1)),some (.arr gs1.2 1 16 (rows i8K s1.2.1))])
     (fun(gt3:Unit) (t3:Int)=>[(6,.ptr (st.length+1) 0 0 0),(7,.ptr (st.length+2) 0 0 0),(8,.ptr (st.length+3) 0 0 0),(9,.ref false (st.length+4) gt0 0 t0.length),(12,.ref false (st.length+5) gs1.1 0 s1.1.length),(13,.ref false (st.length+6) gs1.2 0 s1.2.1.length),(14,.int .i64 t3),(15,.int .i64 s1.2.2.2)])
     (fun(gt3:Unit) (t3:Int)=>st++[none,some (.arr 0 4 0 [[.int .i64 0,.str [],.i8S,.i8S]]),some (.arr 0 1 0 [[.int .i64 v1.2]]),some (.arr 0 4 0 [[.int .i64 v1.1.kind,.str v1.1.name,.sl false 1 16 (rows i8K v1.1.words),.sl false 4 72 (rows i8F.cells v1.1.subs)]]),some (.arr gt0 1 16 (rows i8K t0)),some (.arr gs1.1 1 16 (rows i8K s1.1)),some (.arr gs1.2 1 16 (rows i8K s1.2.1))])
     () h (bm hsc)
     (fun gs3 s3 b3 h hx3=>?_) (fun gt3 t3 fr1 st1 h hb=>?_)
    ·unfold p1F at h
     refine cl h (p2x n _) fun v40 h=>?_
     obtain⟨fx,h⟩:=ck fx h
     refine rn ?_
     obtain⟨v42,hv42,h⟩:=p3S h
     refine((p4X _ _ _ hv42).borrow (args:=[.ref false (st.length+4) gt0 0 t0.length,.str (p9P [118] v40)]) (.cons _ _ _ _ (.ref _ _ _ _ _ _ _ _ _ (r0c.trans rfl) u0H (by decide) (p9b _) (by simp only[go_sem])) (.cons _ _ _ _ .s .nil)) (by simp) rfl ) ?_
     refine cd h (fun hc h=>?_) fun hc h=>?_
     ·refine rn ?_
      cases h
      exact i9h () (bm hsc)
     ·refine rn ?_
      cases h
      exact i9r () (bm hsc)
    ·try simp only[go_sem,fx]
     unfold p3s at h
     refine p0E hb ?_
     refine cl h (p2x n _) fun v43 h=>?_
     obtain⟨fx,h⟩:=ck fx h
     obtain⟨c46,w1c,h⟩:=p5L h
     have fy:=(show rows i8K s1.1++[[.str (p9P [33] v43)]]=rows i8K c46 from by rw[w1c];first|exact i9b (E:=i8K) s1.1 [(p9P [33] v43)]|simp only[go_sem,rows,List.map_append,List.map_cons,List.map_nil])
     have fy:=fa fy (show s1.1.length+1=c46.length from by rw[w1c];simp)
     obtain⟨fx,h⟩:=ck fx h
     try simp only[go_sem,fx,fy]
     refine cl h (p2x n _) fun v51 h=>?_
     obtain⟨fx,h⟩:=ck fx h
     obtain⟨c54,w1d,h⟩:=p5L h
     have fy:=fa fy (show rows i8K s1.2.1++[[.str (p9P [118] v51)]]=rows i8K c54 from by rw[w1d];first|exact i9b (E:=i8K) s1.2.1 [(p9P [118] v51)]|simp only[go_sem,rows,List.map_append,List.map_cons,List.map_nil])
     have fy:=fa fy (show s1.2.1.length+1=c54.length from by rw[w1d];simp)
     obtain⟨fx,h⟩:=ck fx h
     try simp only[go_sem,fx,fy]
     refine rn ?_
     cases h
     exact i9h ((gs1.1+1),(gs1.2+1)) (bm hsc)
   ·refine rn ?_
    cases h
    exact i9r (gs1.1,gs1.2) (bm hsc)
  ·try simp only[go_sem,fx]
   unfold p3t at h
   refine p0E hb ?_
   refine rn ?_
   obtain⟨v59,hv59,h⟩:=p3S h
   refine(p8c n _ _ _ _ hv59 _ _ _ gt1.1 gt1.2 (by simp) (r1p.trans rfl) (r1p.trans rfl)).mono ?_
   rintro d1 st1 ⟨rfl,rfl⟩
   exact rt
theorem p7w(n:Nat)(a0:i8F)(r:i8F)(h:p0X n a0=some r):Pure Tryz.prog gl 11 [.agg [.int .i64 a0.kind,.str a0.name,.sl false 1 16 (rows i8K a0.words),.sl false 4 72 (rows i8F.cells a0.subs)]] (.agg [.int .i64 r.kind,.str r.name,.sl false 1 16 (rows i8K r.words),.sl false 4 72 (rows i8F.cells r.subs)]):=by
 intro st
 unfold p0X at h
 have fx:=trivial
 refine fb 5 [.cell 2 25] [0,1,2] Tryz.func11 fun hsc=>?_
 refine cl h (up (p9c n _ _ _) (fun _=>(.cons _ _ _ _ .s (.cons _ _ _ _ (.i8S _ _ _ (by decide)) (.cons _ _ _ _ (.i8S _ _ _ (by decide)) .nil))))) fun v1 h=>?_
 exact rt
theorem p6R(n:Nat)(a0:i8I)(r:(List Bs))(h:p0A n a0=some r):Pure Tryz.prog gl 16 [.agg [.int .i64 a0.form.kind,.str a0.form.name,.sl false 1 16 (rows i8K a0.form.words),.sl false 4 72 (rows i8F.cells a0.form.subs),.sl false 1 16 (rows i8K a0.words),.sl false 1 16 (rows i8K a0.i8M),.sl false 1 16 (rows i8K a0.parts)]] (.sl false 1 16 (rows i8K r)):=by
 intro st
 unfold p0A at h
 have fx:=trivial
 refine p7K ?_;refine fb 87 [.tmp 2] [0,1,2,3,4,5,6,7,8,14,29,44,61,71,72,73,74,75,76,77] Tryz.func16 fun hsc=>?_
 refine rn ?_
 refine i8V (body:=p2E a0) (kk:=p0P n a0) (n:=n) (s0:=([],0))
  (fun(gs0:Nat) (s0:(List Bs)×Int)=>[(1,.ptr st.length 0 0 0),(3,.ref false (st.length+1) gs0 0 s0.1.length),(4,.int .i64 s0.2)])
  (fun(gs0:Nat) (s0:(List Bs)×Int)=>st++[some (.arr 0 7 0 [[.int .i64 a0.form.kind,.str a0.form.name,.sl false 1 16 (rows i8K a0.form.words),.sl false 4 72 (rows i8F.cells a0.form.subs),.sl false 1 16 (rows i8K a0.words),.sl false 1 16 (rows i8K a0.i8M),.sl false 1 16 (rows i8K a0.parts)]]),some (.arr gs0 1 16 (rows i8K s0.1))])
  (fun(gt0:Nat) (t0:(List Bs))=>[(1,.ptr st.length 0 0 0),(3,.ref false (st.length+1) gt0 0 t0.length)])
  (fun(gt0:Nat) (t0:(List Bs))=>st++[some (.arr 0 7 0 [[.int .i64 a0.form.kind,.str a0.form.name,.sl false 1 16 (rows i8K a0.form.words),.sl false 4 72 (rows i8F.cells a0.form.subs),.sl false 1 16 (rows i8K a0.words),.sl false 1 16 (rows i8K a0.i8M),.sl false 1 16 (rows i8K a0.parts)]]),some (.arr gt0 1 16 (rows i8K t0))])
  0 h (bm hsc)
  (fun gs0 s0 b0 h hx0=>?_) (fun gt0 t0 fr1 st1 h hb=>?_)
 ·unfold p2E at h
  refine cd h (fun hc h=>?_) fun hc h=>?_
  ·refine r0 ?_
   refine r0 ?_
   obtain⟨fx,h⟩:=ck fx h
   obtain⟨c19,u7Y,h⟩:=p5L h
   have fy:=(show rows i8K s0.1++[[.str (get a0.words s0.2.toNat)]]=rows i8K c19 from by rw[u7Y];first|exact i9b (E:=i8K) s0.1 [(get a0.words s0.2.toNat)]|simp only[go_sem,rows,List.map_append,List.map_cons,List.map_nil])
   have fy:=fa fy (show s0.1.length+1=c19.length from by rw[u7Y];simp)
   obtain⟨fx,h⟩:=ck fx h
   refine r1 ?_
   refine rn ?_
   cases h
   exact i9h (gs0+1) (bm hsc)
  ·refine rn ?_
   cases h
   exact i9r gs0 (bm hsc)
 ·try simp only[go_sem,fx]
  unfold p0P at h
  refine p0E hb ?_
  refine rn ?_
  refine i8V (body:=p2F a0) (kk:=p0Q n a0) (n:=n) (s0:=(t0,0))
   (fun(gs1:Nat) (s1:(List Bs)×Int)=>[(1,.ptr st.length 0 0 0),(3,.ref false (st.length+1) gs1 0 s1.1.length),(5,.int .i64 s1.2)])
   (fun(gs1:Nat) (s1:(List Bs)×Int)=>st++[some (.arr 0 7 0 [[.int .i64 a0.form.kind,.str a0.form.name,.sl false 1 16 (rows i8K a0.form.words),.sl false 4 72 (rows i8F.cells a0.form.subs),.sl false 1 16 (rows i8K a0.words),.sl false 1 16 (rows i8K a0.i8M),.sl false 1 16 (rows i8K a0.parts)]]),some (.arr gs1 1 16 (rows i8K s1.1))])
   (fun(gt1:Nat) (t1:(List Bs))=>[(1,.ptr st.length 0 0 0),(3,.ref false (st.length+1) gt1 0 t1.length)])
   (fun(gt1:Nat) (t1:(List Bs))=>st++[some (.arr 0 7 0 [[.int .i64 a0.form.kind,.str a0.form.name,.sl false 1 16 (rows i8K a0.form.words),.sl false 4 72 (rows i8F.cells a0.form.subs),.sl false 1 16 (rows i8K a0.words),.sl false 1 16 (rows i8K a0.i8M),.sl false 1 16 (rows i8K a0.parts)]]),some (.arr gt1 1 16 (rows i8K t1))])
   gt0 h (bm hsc)
   (fun gs1 s1 b1 h hx1=>?_) (fun gt1 t1 fr1 st1 h hb=>?_)
  ·unfold p2F at h
   refine cd h (fun hc h=>?_) fun hc h=>?_
   ·refine r0 ?_
    refine r0 ?_
    obtain⟨fx,h⟩:=ck fx h
    obtain⟨c34,u2i,h⟩:=p5L h
    have fy:=(show rows i8K s1.1++[[.str (get a0.i8M s1.2.toNat)]]=rows i8K c34 from by rw[u2i];first|exact i9b (E:=i8K) s1.1 [(get a0.i8M s1.2.toNat)]|simp only[go_sem,rows,List.map_append,List.map_cons,List.map_nil])
    have fy:=fa fy (show s1.1.length+1=c34.length from by rw[u2i];simp)
    obtain⟨fx,h⟩:=ck fx h
    refine r1 ?_
    refine rn ?_
    cases h
    exact i9h (gs1+1) (bm hsc)
   ·refine rn ?_
    cases h
    exact i9r gs1 (bm hsc)
  ·try simp only[go_sem,fx]
   unfold p0Q at h
   refine p0E hb ?_
   refine rn ?_
   refine i8V (body:=p2G a0) (kk:=p0R n a0) (n:=n) (s0:=(t1,0))
    (fun(gs2:Nat) (s2:(List Bs)×Int)=>[(1,.ptr st.length 0 0 0),(3,.ref false (st.length+1) gs2 0 s2.1.length),(6,.int .i64 s2.2)])
    (fun(gs2:Nat) (s2:(List Bs)×Int)=>st++[some (.arr 0 7 0 [[.int .i64 a0.form.kind,.str a0.form.name,.sl false 1 16 (rows i8K a0.form.words),.sl false 4 72 (rows i8F.cells a0.form.subs),.sl false 1 16 (rows i8K a0.words),.sl false 1 16 (rows i8K a0.i8M),.sl false 1 16 (rows i8K a0.parts)]]),some (.arr gs2 1 16 (rows i8K s2.1))])
    (fun(gt2:Nat) (t2:(List Bs))=>[(1,.ptr st.length 0 0 0),(3,.ref false (st.length+1) gt2 0 t2.length)])
    (fun(gt2:Nat) (t2:(List Bs))=>st++[some (.arr 0 7 0 [[.int .i64 a0.form.kind,.str a0.form.name,.sl false 1 16 (rows i8K a0.form.words),.sl false 4 72 (rows i8F.cells a0.form.subs),.sl false 1 16 (rows i8K a0.words),.sl false 1 16 (rows i8K a0.i8M),.sl false 1 16 (rows i8K a0.parts)]]),some (.arr gt2 1 16 (rows i8K t2))])
    gt1 h (bm hsc)
    (fun gs2 s2 b2 h hx2=>?_) (fun gt2 t2 fr1 st1 h hb=>?_)
   ·unfold p2G at h
    refine cd h (fun hc h=>?_) fun hc h=>?_
    ·refine r0 ?_
     refine r0 ?_
     obtain⟨fx,h⟩:=ck fx h
     obtain⟨c49,w1e,h⟩:=p5L h
     have fy:=(show rows i8K s2.1++[[.str (get a0.parts s2.2.toNat)]]=rows i8K c49 from by rw[w1e];first|exact i9b (E:=i8K) s2.1 [(get a0.parts s2.2.toNat)]|simp only[go_sem,rows,List.map_append,List.map_cons,List.map_nil])
     have fy:=fa fy (show s2.1.length+1=c49.length from by rw[w1e];simp)
     obtain⟨fx,h⟩:=ck fx h
     refine r1 ?_
     refine rn ?_
     cases h
     exact i9h (gs2+1) (bm hsc)
    ·refine rn ?_
     cases h
     exact i9r gs2 (bm hsc)
   ·try simp only[go_sem,fx]
    unfold p0R at h
    refine p0E hb ?_
    refine rn ?_
    obtain⟨v54,hv54,h⟩:=p3S h
    refine(p6X ((p2U n _ _ _ hv54).up (fun _=>(.cons _ _ _ _ .s (.cons _ _ _ _ .s (.cons _ _ _ _ (.i8S _ _ _ (by decide)) .nil)))) (.inr fun n=>by simp))).to ?_
    refine rn ?_
    refine i8V (body:=i9V v54) (kk:=p2H) (n:=n) (s0:=(t2,0))
     (fun(gs3:Nat) (s3:(List Bs)×Int)=>[(3,.ref false (st.length+1) gs3 0 s3.1.length),(7,.sl false 5 80 (rows i8G.cells v54)),(8,.int .i64 s3.2)])
     (fun(gs3:Nat) (s3:(List Bs)×Int)=>st++[none,some (.arr gs3 1 16 (rows i8K s3.1))])
     (fun(gt3:Nat) (t3:(List Bs))=>[(3,.ref false (st.length+1) gt3 0 t3.length)])
     (fun(gt3:Nat) (t3:(List Bs))=>st++[none,some (.arr gt3 1 16 (rows i8K t3))])
     gt2 h (bm hsc)
     (fun gs3 s3 b3 h hx3=>?_) (fun gt3 t3 fr1 st1 h hb=>?_)
    ·unfold i9V at h
     refine cd h (fun hc h=>?_) fun hc h=>?_
     ·obtain⟨fx,h⟩:=ck fx h
      refine cd h (fun hc h=>?_) fun hc h=>?_
      ·obtain⟨c65,w1f,h⟩:=p5L h
       have fy:=(show rows i8K s3.1++[[.str ((get v54 s3.2.toNat).name)]]=rows i8K c65 from by rw[w1f];first|exact i9b (E:=i8K) s3.1 [(get v54 s3.2.toNat).name]|simp only[go_sem,rows,List.map_append,List.map_cons,List.map_nil])
       have fy:=fa fy (show s3.1.length+1=c65.length from by rw[w1f];simp)
       obtain⟨fx,h⟩:=ck fx h
       refine r1 ?_
       refine rn ?_
       cases h
       exact i9h (gs3+1) (bm hsc)
      ·refine rn ?_
       cases h
       exact i9h gs3 (bm hsc)
     ·refine rn ?_
      cases h
      exact i9r gs3 (bm hsc)
    ·try simp only[go_sem,fx]
     unfold p2H at h
     refine p0E hb ?_
     refine rr ?_
     exact fo (.sl false 1 16 (rows i8K t3)) (.ref _ _ _ _ _ _ _ _ _ (r0c.trans rfl) r7l (by decide) (p9b _) (by simp only[go_sem])) h hsc
theorem p7z(n:Nat)(a0:(List i8G))(a1:(List i8G))(r:Bool)(h:p1b n a0 a1=some r):Pure Tryz.prog gl 63 [.sl false 5 80 (rows i8G.cells a0),.sl false 5 80 (rows i8G.cells a1)] (.bool r):=by
 intro st
 unfold p1b at h
 have fx:=trivial
 refine fb 84 [.tmp 4] [0,1,4,5,6,11,15,30,31,32,33,34,35,36,37,38,39,40,43,44,45,46,47,48,49,50,51,52,53,54,55,56,64,83] Tryz.func63 fun hsc=>?_
 refine cd h (fun hc h=>?_) fun hc h=>?_
 ·exact rt
 ·refine rn ?_
  refine i8V (body:=p0l n a0 a1) (kk:=p3m) (n:=n) (s0:=0)
   (fun(gs0:Unit) (s0:Int)=>[(0,.sl false 5 80 (rows i8G.cells a0)),(1,.sl false 5 80 (rows i8G.cells a1)),(5,.int .i64 s0)])
   (fun(gs0:Unit) (s0:Int)=>st)
   (fun(gt0:Unit) (t0:Unit)=>[])
   (fun(gt0:Unit) (t0:Unit)=>st)
   () h (p7g hsc)
   (fun gs0 s0 b0 h hx0=>?_) (fun gt0 t0 fr1 st1 h hb=>?_)
  ·unfold p0l at h
   refine cd h (fun hc h=>?_) fun hc h=>?_
   ·refine rn ?_
    obtain⟨fx,h⟩:=ck fx h
    obtain⟨fx,h⟩:=ck fx h
    refine dw [] 0 ?_
    refine cd h (fun hc h=>?_) fun hc h=>?_
    ·refine ra ?_
     cases h
     refine p0T ?_;have h:=congrArg some (hx0 _ rfl)
     exact rt
    ·refine rn ?_
     refine i8V (body:=p0m a0 s0 a1) (kk:=p1r s0) (n:=n) (s0:=0)
      (fun(gs2:Unit) (s2:Int)=>[(0,.sl false 5 80 (rows i8G.cells a0)),(1,.sl false 5 80 (rows i8G.cells a1)),(5,.int .i64 s0),(6,.int .i64 s2)])
      (fun(gs2:Unit) (s2:Int)=>st)
      (fun(gt2:Unit) (t2:Unit)=>[(0,.sl false 5 80 (rows i8G.cells a0)),(1,.sl false 5 80 (rows i8G.cells a1)),(5,.int .i64 s0)])
      (fun(gt2:Unit) (t2:Unit)=>st)
      () h (p7g hsc)
      (fun gs2 s2 b2 h hx2=>?_) (fun gt2 t2 fr1 st1 h hb=>?_)
     ·unfold p0m at h
      refine cd h (fun hc h=>?_) fun hc h=>?_
      ·refine rn ?_
       obtain⟨fx,h⟩:=ck fx h
       obtain⟨fx,h⟩:=ck fx h
       refine dw [] 0 ?_
       refine cd h (fun hc h=>?_) fun hc h=>?_
       ·refine ra ?_
        cases h
        refine p0T ?_;obtain rfl:=hx2 _ rfl;try simp only[go_sem,fx]
        refine p0T ?_;have h:=congrArg some (hx0 _ rfl)
        exact rt
       ·refine rn ?_
        cases h
        exact i9h () (p7g hsc)
      ·refine rn ?_
       cases h
       exact i9r () (p7g hsc)
     ·try simp only[go_sem,fx]
      unfold p1r at h
      refine p0E hb ?_
      refine rn ?_
      cases h
      exact i9h () (p7g hsc)
   ·refine rn ?_
    cases h
    exact i9r () (p7g hsc)
  ·try simp only[go_sem,fx]
   unfold p3m at h
   refine p0E hb ?_
   exact rt
theorem p9d(a0:Int)(r:Int)(h:p3i a0=some r):Pure Tryz.prog gl 47 [.int .i64 a0] (.int .i64 r):=by
 intro st
 unfold p3i at h
 have fx:=trivial
 refine fb 23 [.tmp 2] [0,2,6,7,10,11,12,16,17,20,21,22] Tryz.func47 fun hsc=>?_
 refine cd h (fun hc h=>?_) fun hc h=>?_
 ·exact rt
 ·refine cd h (fun hc h=>?_) fun hc h=>?_
  ·exact rt
  ·exact rt
theorem p8B:∀(n:Nat) (a0:(List i8G)) (a1:Int) (r:i8F) (h:i9M n a0 a1=some r),Pure Tryz.prog gl 21 [.sl false 5 80 (rows i8G.cells a0),.int .i64 a1] (.agg [.int .i64 r.kind,.str r.name,.sl false 1 16 (rows i8K r.words),.sl false 4 72 (rows i8F.cells r.subs)]):=by
 intro n
 induction n with
 |zero=>intro a0 a1 r h;cases h
 |succ n ih=>
  intro a0 a1 r h st
  unfold i9M at h
  have fx:=trivial
  refine fb 66 [.cell 4 25] [0,1,4,5,6,7,8,27,49] Tryz.func21 fun hsc=>?_
  refine rn ?_
  obtain⟨fx,h⟩:=ck fx h
  refine dw [] 1 ?_
  refine r0 ?_
  (repeat apply sq_)
  refine p4S 1 16 ?_
  try simp only[List.append_assoc,List.cons_append,List.nil_append]
  refine p0E (F:=[(0,.sl false 5 80 (rows i8G.cells a0)),(1,.int .i64 a1),(4,.ptr st.length 0 0 0),(5,.ptr (st.length+1) 0 0 0),(6,.int .i64 0)]) (T:=st++[some (.arr 0 4 0 [[.int .i64 0,.str [],.i8S,.i8S]]),some (.arr 0 4 0 [[.int .i64 ((get a0 a1.toNat).kind),.str ((get a0 a1.toNat).name),.ref false (st.length+2) 0 0 0,.i8S]]),some (.arr 0 1 16 (rows i8K []))]) (r5T hsc (.lv (.live _ _ _ _ (.arr _ _ _ _ _ (.cons _ _ _ _ (.cons _ _ _ _ .s (.cons _ _ _ _ .s (.cons _ _ _ _ (.nref _ _ _ _ _ _ (r0c.trans rfl)) (.cons _ _ _ _ .s .nil)))) (.same _))) (.lv (.nil _)))) (by simp) ⟨.s,.s,.s,.s,.s,trivial⟩ (by simp)) ?_
  (repeat apply sq_)
  refine i8V (body:=p0Z a0 a1) (kk:=p2u (i9M n) n a0 a1) (n:=n) (s0:=([],0))
   (fun(gs0:Nat) (s0:(List Bs)×Int)=>[(0,.sl false 5 80 (rows i8G.cells a0)),(1,.int .i64 a1),(4,.ptr st.length 0 0 0),(5,.ptr (st.length+1) 0 0 0),(6,.int .i64 s0.2)])
   (fun(gs0:Nat) (s0:(List Bs)×Int)=>st++[some (.arr 0 4 0 [[.int .i64 0,.str [],.i8S,.i8S]]),some (.arr 0 4 0 [[.int .i64 ((get a0 a1.toNat).kind),.str ((get a0 a1.toNat).name),.ref false (st.length+2) gs0 0 s0.1.length,.i8S]]),some (.arr gs0 1 16 (rows i8K s0.1))])
   (fun(gt0:Nat) (t0:(List Bs))=>[(0,.sl false 5 80 (rows i8G.cells a0)),(1,.int .i64 a1),(4,.ptr st.length 0 0 0),(5,.ptr (st.length+1) 0 0 0)])
   (fun(gt0:Nat) (t0:(List Bs))=>st++[some (.arr 0 4 0 [[.int .i64 0,.str [],.i8S,.i8S]]),some (.arr 0 4 0 [[.int .i64 ((get a0 a1.toNat).kind),.str ((get a0 a1.toNat).name),.ref false (st.length+2) gt0 0 t0.length,.i8S]]),some (.arr gt0 1 16 (rows i8K t0))])
   0 h (bm hsc)
   (fun gs0 s0 b0 h hx0=>?_) (fun gt0 t0 fr1 st1 h hb=>?_)
  ·unfold p0Z at h
   refine cd h (fun hc h=>?_) fun hc h=>?_
   ·refine rn ?_
    obtain⟨fx,h⟩:=ck fx h
    obtain⟨c13,w1g,h⟩:=p5L h
    have fy:=(show rows i8K s0.1++[[.str (get ((get a0 a1.toNat).words) s0.2.toNat)]]=rows i8K c13 from by rw[w1g];first|exact i9b (E:=i8K) s0.1 [(get ((get a0 a1.toNat).words) s0.2.toNat)]|simp only[go_sem,rows,List.map_append,List.map_cons,List.map_nil])
    have fy:=fa fy (show s0.1.length+1=c13.length from by rw[w1g];simp)
    obtain⟨fx,h⟩:=ck fx h
    refine dwy [] 2 ?_
    refine rn ?_
    cases h
    exact i9h (gs0+1) (bm hsc)
   ·refine rn ?_
    cases h
    exact i9r gs0 (bm hsc)
  ·try simp only[go_sem,fx]
   unfold p2u at h
   refine p0E hb ?_
   refine r0 ?_
   refine r0 ?_
   (repeat apply sq_)
   refine p4S 4 72 ?_
   try simp only[List.append_assoc,List.cons_append,List.nil_append]
   refine p0E (F:=[(0,.sl false 5 80 (rows i8G.cells a0)),(4,.ptr st.length 0 0 0),(5,.ptr (st.length+1) 0 0 0),(7,.int .i64 (wr .i64 (a1+1))),(8,.int .i64 0)]) (T:=st++[some (.arr 0 4 0 [[.int .i64 0,.str [],.i8S,.i8S]]),some (.arr 0 4 0 [[.int .i64 ((get a0 a1.toNat).kind),.str ((get a0 a1.toNat).name),.ref false (st.length+2) gt0 0 t0.length,.ref false (st.length+3) 0 0 0]]),some (.arr gt0 1 16 (rows i8K t0)),some (.arr 0 4 72 (rows i8F.cells []))]) (r5T hsc (.lv (.live _ _ _ _ (.arr _ _ _ _ _ (.cons _ _ _ _ (.cons _ _ _ _ .s (.cons _ _ _ _ .s (.cons _ _ _ _ .s (.cons _ _ _ _ (.nref _ _ _ _ _ _ (r0c.trans rfl)) .nil)))) (.same _))) (.lv (.lv (.nil _))))) (by simp) ⟨.s,.s,.s,.s,.s,trivial⟩ (by simp)) ?_
   (repeat apply sq_)
   refine i8V (body:=p1a (i9M n) a0 a1) (kk:=p2v a0 a1 t0) (n:=n) (s0:=([],(wr .i64 (a1+1)),0))
    (fun(gs1:Nat) (s1:(List i8F)×Int×Int)=>[(0,.sl false 5 80 (rows i8G.cells a0)),(4,.ptr st.length 0 0 0),(5,.ptr (st.length+1) 0 0 0),(7,.int .i64 s1.2.1),(8,.int .i64 s1.2.2)])
    (fun(gs1:Nat) (s1:(List i8F)×Int×Int)=>st++[some (.arr 0 4 0 [[.int .i64 0,.str [],.i8S,.i8S]]),some (.arr 0 4 0 [[.int .i64 ((get a0 a1.toNat).kind),.str ((get a0 a1.toNat).name),.ref false (st.length+2) gt0 0 t0.length,.ref false (st.length+3) gs1 0 s1.1.length]]),some (.arr gt0 1 16 (rows i8K t0)),some (.arr gs1 4 72 (rows i8F.cells s1.1))])
    (fun(gt1:Nat) (t1:(List i8F))=>[(4,.ptr st.length 0 0 0),(5,.ptr (st.length+1) 0 0 0)])
    (fun(gt1:Nat) (t1:(List i8F))=>st++[some (.arr 0 4 0 [[.int .i64 0,.str [],.i8S,.i8S]]),some (.arr 0 4 0 [[.int .i64 ((get a0 a1.toNat).kind),.str ((get a0 a1.toNat).name),.ref false (st.length+2) gt0 0 t0.length,.ref false (st.length+3) gt1 0 t1.length]]),some (.arr gt0 1 16 (rows i8K t0)),some (.arr gt1 4 72 (rows i8F.cells t1))])
    0 h (bm hsc)
    (fun gs1 s1 b1 h hx1=>?_) (fun gt1 t1 fr1 st1 h hb=>?_)
   ·unfold p1a at h
    refine cl h (p9d _) fun v28 h=>?_
    refine cd h (fun hc h=>?_) fun hc h=>?_
    ·refine rn ?_
     refine dw [] 2 ?_
     obtain⟨v29,hv29,h⟩:=p3S h
     refine p3w (ih _ _ _ hv29) ?_
     obtain⟨c31,w1h,h⟩:=p5L h
     have fy:=(show rows i8F.cells s1.1++[[.int .i64 v29.kind,.str v29.name,.sl false 1 16 (rows i8K v29.words),.sl false 4 72 (rows i8F.cells v29.subs)]]=rows i8F.cells c31 from by rw[w1h];first|exact i9b (E:=i8F.cells) s1.1 [v29]|simp only[go_sem,rows,List.map_append,List.map_cons,List.map_nil])
     have fy:=fa fy (show s1.1.length+1=c31.length from by rw[w1h];simp)
     obtain⟨fx,h⟩:=ck fx h
     try simp only[go_sem,fx,fy]
     obtain⟨fx,h⟩:=ck fx h
     refine rn ?_
     cases h
     exact i9h (gs1+1) (bm hsc)
    ·refine rn ?_
     cases h
     exact i9r gs1 (bm hsc)
   ·try simp only[go_sem,fx]
    unfold p2v at h
    refine p0E hb ?_
    refine rr ?_
    exact fo (.agg [.int .i64 ((get a0 a1.toNat).kind),.str ((get a0 a1.toNat).name),.sl false 1 16 (rows i8K t0),.sl false 4 72 (rows i8F.cells t1)]) (.agg _ _ (.cons _ _ _ _ .s (.cons _ _ _ _ .s (.cons _ _ _ _ (.ref _ _ _ _ _ _ _ _ _ (r0c.trans rfl) r7l (by decide) (p9b _) (by simp only[go_sem])) (.cons _ _ _ _ (.ref _ _ _ _ _ _ _ _ _ (r0c.trans rfl) r7l (by decide) (p9b _) (by simp only[go_sem])) .nil))))) h hsc
end Go.Proofs.YtdjnbjnlnjhllaaGreatDoor
