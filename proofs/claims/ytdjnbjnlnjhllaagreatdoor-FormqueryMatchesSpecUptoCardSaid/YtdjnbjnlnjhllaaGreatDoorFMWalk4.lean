import Derived.Test.YtdjnbjnlnjhllaaGreatDoorFMWalk3
set_option linter.unusedVariables false
set_option linter.unusedSimpArgs false
set_option maxHeartbeats 2000000
set_option maxRecDepth 100000
namespace Go.Proofs.YtdjnbjnlnjhllaaGreatDoor
open Go Go.Am
theorem p8Z(n:Nat)(a0:i8I)(a1:i8F)(r:(List i8H)×Bool)(h:p5h n a0 a1=some r):Pure Tryz.prog gl 26 [.agg [.int .i64 a0.form.kind,.str a0.form.name,.sl false 1 16 (rows i8K a0.form.words),.sl false 4 72 (rows i8F.cells a0.form.subs),.sl false 1 16 (rows i8K a0.words),.sl false 1 16 (rows i8K a0.i8M),.sl false 1 16 (rows i8K a0.parts)],.agg [.int .i64 a1.kind,.str a1.name,.sl false 1 16 (rows i8K a1.words),.sl false 4 72 (rows i8F.cells a1.subs)]] (.tup [.sl false 6 104 (rows i8H.cells r.1),.bool r.2]):=by
 intro st
 unfold p5h at h
 have fx:=trivial
 refine fb 83 [.tmp 4,.tmp 5] [0,1,2,3,4,5,6,7,8,9,11,13,14,24,27,28,29,30,47,48,49,50,61,62,63,64,65,72] Tryz.func26 fun hsc=>?_
 refine cl h (r1n n _) fun v1 h=>?_
 refine rn ?_
 obtain⟨v2,hv2,h⟩:=p3S h
 refine(r0y n _ _ _ _ _ hv2 _ _ (by simp) (r1p.trans rfl)).mono ?_
 rintro d1 st1 ⟨rfl,rfl⟩
 refine cd h (fun hc h=>?_) fun hc h=>?_
 ·refine rr ?_
  exact fo (.tup [.sl false 6 104 (rows i8H.cells []),.bool false]) (.tup _ _ (.cons _ _ _ _ (.i8S _ _ _ (by decide)) (.cons _ _ _ _ .s .nil)) rfl) h hsc
 ·refine cl h (p4z n _) fun v3 h=>?_
  try simp only[go_sem,fx]
  (repeat apply sq_)
  refine p4S 1 16 ?_
  try simp only[List.append_assoc,List.cons_append,List.nil_append]
  refine p0E (F:=[(6,.mp (st.length+2)),(7,.ptr (st.length+3) 0 0 0),(8,.i8S),(9,.ref false (st.length+4) 0 0 0),(27,.sl false 1 16 (rows i8K v3)),(28,.int .i64 (↑v3.length:Int)),(29,.int .i64 0)]) (T:=st++[some (.arr 0 7 0 [[.int .i64 a0.form.kind,.str a0.form.name,.sl false 1 16 (rows i8K a0.form.words),.sl false 4 72 (rows i8F.cells a0.form.subs),.sl false 1 16 (rows i8K a0.words),.sl false 1 16 (rows i8K a0.i8M),.sl false 1 16 (rows i8K a0.parts)]]),some (.arr 0 4 0 [[.int .i64 a1.kind,.str a1.name,.sl false 1 16 (rows i8K a1.words),.sl false 4 72 (rows i8F.cells a1.subs)]]),some (.mps true (mrw i8H.cells v2.2)),some (.arr 0 7 0 [[.int .i64 v1.form.kind,.str v1.form.name,.sl false 1 16 (rows i8K v1.form.words),.sl false 4 72 (rows i8F.cells v1.form.subs),.sl false 1 16 (rows i8K v1.words),.sl false 1 16 (rows i8K v1.i8M),.sl false 1 16 (rows i8K v1.parts)]]),some (.arr 0 1 16 (rows i8K []))]) (r5T hsc (.lv (.lv (.lv (.lv (.lv (.nil _)))))) (by simp) ⟨.s,.s,.s,.nref _ _ _ _ _ _ (r0c.trans rfl),.s,.s,.s,trivial⟩ (by simp)) ?_
  refine aln 27 fun hl0=>?_
  refine rng (body:=p5A v3 v2) (kk:=p5B n v1 v2) (n:=v3.length) (s0:=[])
   (fun(gs0:Nat) (k0:Nat) (s0:(List Bs))=>[(6,.mp (st.length+2)),(7,.ptr (st.length+3) 0 0 0),(8,.i8S),(9,.ref false (st.length+4) gs0 0 s0.length),(27,.sl false 1 16 (rows i8K v3)),(28,.int .i64 (↑v3.length:Int)),(29,.int .i64 (↑k0:Int))])
   (fun(gs0:Nat) (k0:Nat) (s0:(List Bs))=>st++[none,none,some (.mps true (mrw i8H.cells v2.2)),some (.arr 0 7 0 [[.int .i64 v1.form.kind,.str v1.form.name,.sl false 1 16 (rows i8K v1.form.words),.sl false 4 72 (rows i8F.cells v1.form.subs),.sl false 1 16 (rows i8K v1.words),.sl false 1 16 (rows i8K v1.i8M),.sl false 1 16 (rows i8K v1.parts)]]),some (.arr gs0 1 16 (rows i8K s0))])
   (fun(gt0:Nat) (t0:(List Bs))=>[(6,.mp (st.length+2)),(7,.ptr (st.length+3) 0 0 0),(8,.i8S),(9,.ref false (st.length+4) gt0 0 t0.length)])
   (fun(gt0:Nat) (t0:(List Bs))=>st++[none,none,some (.mps true (mrw i8H.cells v2.2)),some (.arr 0 7 0 [[.int .i64 v1.form.kind,.str v1.form.name,.sl false 1 16 (rows i8K v1.form.words),.sl false 4 72 (rows i8F.cells v1.form.subs),.sl false 1 16 (rows i8K v1.words),.sl false 1 16 (rows i8K v1.i8M),.sl false 1 16 (rows i8K v1.parts)]]),some (.arr gt0 1 16 (rows i8K t0))])
   0 fx hl0 h (bm hsc)
   (fun gs0 k0 s0 b0 fx h hx0=>?_) (fun gs0 s0=>?_) (fun gt0 t0 fr1 st1 h hb=>?_)
  ·unfold p5A at h
   refine ct ?_
   refine r0 ?_
   refine r0 ?_
   refine r0 ?_
   obtain⟨c11,u4x,h⟩:=p5L h
   have fy:=(show rows i8K s0++[[.str (((assoc (get v3 k0) v2.2).getD default).text)]]=rows i8K c11 from by rw[u4x];first|exact i9b (E:=i8K) s0 [((assoc (get v3 k0) v2.2).getD default).text]|simp only[go_sem,rows,List.map_append,List.map_cons,List.map_nil])
   have fy:=fa fy (show s0.length+1=c11.length from by rw[u4x];simp)
   obtain⟨fx,h⟩:=ck fx h
   refine r1 ?_
   refine rn ?_
   cases h
   exact p7A (gs0+1) (bm hsc)
  ·refine cf ?_
   refine p7n ?_;simp only[go_sem,fx]
   exact⟨gs0,(bm hsc)⟩
  ·try simp only[go_sem,fx]
   unfold p5B at h
   refine p0E hb ?_
   refine rs ?_
   refine dw [] 1 ?_
   obtain⟨v16,hv16,h⟩:=p3S h
   refine p3w (p6E _ _ hv16) ?_
   try simp only[go_sem,fx]
   obtain⟨v17,hv17,h⟩:=p3S h
   refine p3w (p4z n _ _ hv17) ?_
   try simp only[go_sem,fx]
   obtain⟨v19,hv19,h⟩:=p3S h
   refine p3w (r4o _ _ hv19) ?_
   try simp only[go_sem,fx]
   (repeat apply sq_)
   refine p4S 6 104 ?_
   try simp only[List.append_assoc,List.cons_append,List.nil_append]
   refine p0E (F:=[(6,.mp (st.length+2)),(7,.ptr (st.length+3) 0 0 0),(8,.ref false (st.length+6) 0 0 0),(9,.ref false (st.length+4) gt0 0 t0.length),(47,.sl false 1 16 (rows i8K v19)),(48,.int .i64 (↑v19.length:Int)),(49,.int .i64 0)]) (T:=st++[none,none,some (.mps true (mrw i8H.cells v2.2)),some (.arr 0 7 0 [[.int .i64 v1.form.kind,.str v1.form.name,.sl false 1 16 (rows i8K v1.form.words),.sl false 4 72 (rows i8F.cells v1.form.subs),.sl false 1 16 (rows i8K v1.words),.sl false 1 16 (rows i8K v1.i8M),.sl false 1 16 (rows i8K v1.parts)]]),some (.arr gt0 1 16 (rows i8K t0)),none,some (.arr 0 6 104 (rows i8H.cells []))]) (r5T hsc (.dead _ _ _ (.dead _ _ _ (.lv (.lv (.lv (.dead _ _ _ (.lv (.nil _)))))))) (by simp) ⟨.s,.s,.nref _ _ _ _ _ _ (r0c.trans rfl),.s,.s,.s,.s,trivial⟩ (by simp)) ?_
   refine aln 47 fun hl1=>?_
   refine rng (body:=p5C n v1 v19 v2 t0) (kk:=p5D) (n:=v19.length) (s0:=[])
    (fun(gs1:Nat) (k1:Nat) (s1:(List i8H))=>[(6,.mp (st.length+2)),(7,.ptr (st.length+3) 0 0 0),(8,.ref false (st.length+6) gs1 0 s1.length),(9,.ref false (st.length+4) gt0 0 t0.length),(47,.sl false 1 16 (rows i8K v19)),(48,.int .i64 (↑v19.length:Int)),(49,.int .i64 (↑k1:Int))])
    (fun(gs1:Nat) (k1:Nat) (s1:(List i8H))=>st++[none,none,some (.mps true (mrw i8H.cells v2.2)),some (.arr 0 7 0 [[.int .i64 v1.form.kind,.str v1.form.name,.sl false 1 16 (rows i8K v1.form.words),.sl false 4 72 (rows i8F.cells v1.form.subs),.sl false 1 16 (rows i8K v1.words),.sl false 1 16 (rows i8K v1.i8M),.sl false 1 16 (rows i8K v1.parts)]]),some (.arr gt0 1 16 (rows i8K t0)),none,some (.arr gs1 6 104 (rows i8H.cells s1))])
    (fun(gt1:Nat) (t1:(List i8H))=>[(8,.ref false (st.length+6) gt1 0 t1.length)])
    (fun(gt1:Nat) (t1:(List i8H))=>st++[none,none,none,none,none,none,some (.arr gt1 6 104 (rows i8H.cells t1))])
    0 fx hl1 h (bm hsc)
    (fun gs1 k1 s1 b1 fx h hx1=>?_) (fun gs1 s1=>?_) (fun gt1 t1 fr1 st1 h hb=>?_)
   ·unfold p5C at h
    refine ct ?_
    refine cl h (i8Q _ _) fun v38 h=>?_
    refine rn ?_
    obtain⟨v39,hv39,h⟩:=p3S h
    refine u7l (fun hG=>(p6p _ _ _ (r4k hv39 (by simpa using hG)) _ _ gt0 (by simp) (r1p.trans rfl))) (fun hF=>by obtain rfl:=w1M hv39 (by simpa using hF);simp only[go_sem,fx]) ?_
    refine cd h (fun hc h=>?_) fun hc h=>?_
    ·refine ra ?_
     cases h
     refine p4j ?_;have h:=congrArg some (hx1 _ rfl)
     refine rr ?_
     exact fo (.tup [.sl false 6 104 (rows i8H.cells []),.bool false]) (.tup _ _ (.cons _ _ _ _ (.i8S _ _ _ (by decide)) (.cons _ _ _ _ .s .nil)) rfl) h hsc
    ·obtain⟨fx,h⟩:=ck fx h
     refine cl h (i8Q _ _) fun v42 h=>?_
     refine cd h (fun hc h=>?_) fun hc h=>?_
     ·refine cl h (r3H n _) fun v43 h=>?_
      try simp only[go_sem,fx]
      obtain⟨c45,w0Q,h⟩:=p5L h
      have fy:=(show rows i8H.cells s1++[[.str ((get v19 k1).drop 1),.str (((assoc (get v19 k1) v2.2).getD default).text),.int .i64 v43.kind,.str v43.name,.sl false 1 16 (rows i8K v43.words),.sl false 4 72 (rows i8F.cells v43.subs)]]=rows i8H.cells c45 from by rw[w0Q];first|exact i9b (E:=i8H.cells) s1 [(i8H.mk ((get v19 k1).drop 1) (((assoc (get v19 k1) v2.2).getD default).text) v43)]|simp only[go_sem,rows,List.map_append,List.map_cons,List.map_nil])
      have fy:=fa fy (show s1.length+1=c45.length from by rw[w0Q];simp)
      obtain⟨fx,h⟩:=ck fx h
      refine r1 ?_
      refine rn ?_
      cases h
      exact p7A (gs1+1) (bm hsc)
     ·refine r0 ?_
      obtain⟨c51,u8d,h⟩:=p5L h
      have fy:=(show rows i8H.cells s1++[[.str ((get v19 k1).drop 1),.str (((assoc (get v19 k1) v2.2).getD default).text),.int .i64 (((assoc (get v19 k1) v2.2).getD default).form.kind),.str (((assoc (get v19 k1) v2.2).getD default).form.name),.sl false 1 16 (rows i8K (((assoc (get v19 k1) v2.2).getD default).form.words)),.sl false 4 72 (rows i8F.cells (((assoc (get v19 k1) v2.2).getD default).form.subs))]]=rows i8H.cells c51 from by rw[u8d];first|exact i9b (E:=i8H.cells) s1 [(i8H.mk ((get v19 k1).drop 1) (((assoc (get v19 k1) v2.2).getD default).text) (((assoc (get v19 k1) v2.2).getD default).form))]|simp only[go_sem,rows,List.map_append,List.map_cons,List.map_nil])
      have fy:=fa fy (show s1.length+1=c51.length from by rw[u8d];simp)
      obtain⟨fx,h⟩:=ck fx h
      refine r1 ?_
      refine rn ?_
      cases h
      exact p7A (gs1+1) (bm hsc)
   ·refine cf ?_
    refine p7n ?_;simp only[go_sem,fx]
    exact⟨gs1,(bm hsc)⟩
   ·try simp only[go_sem,fx]
    unfold p5D at h
    refine p0E hb ?_
    refine rr ?_
    exact fo (.tup [.sl false 6 104 (rows i8H.cells t1),.bool true]) (.tup _ _ (.cons _ _ _ _ (.ref _ _ _ _ _ _ _ _ _ (r0c.trans rfl) r7l (by decide) (p9b _) (by simp only[go_sem])) (.cons _ _ _ _ .s .nil)) rfl) h hsc
theorem p8x(n:Nat)(a0:i8I)(a1:i8F)(r:(List i8H)×Bool×i8N)(h:p4I n a0 a1=some r):Pure Tryz.prog gl 6 [.agg [.int .i64 a0.form.kind,.str a0.form.name,.sl false 1 16 (rows i8K a0.form.words),.sl false 4 72 (rows i8F.cells a0.form.subs),.sl false 1 16 (rows i8K a0.words),.sl false 1 16 (rows i8K a0.i8M),.sl false 1 16 (rows i8K a0.parts)],.agg [.int .i64 a1.kind,.str a1.name,.sl false 1 16 (rows i8K a1.words),.sl false 4 72 (rows i8F.cells a1.subs)]] (.tup [.sl false 6 104 (rows i8H.cells r.1),.bool r.2.1,.agg [.int .i64 r.2.2.code,.int .i64 r.2.2.index]]):=by
 intro st
 unfold p4I at h
 have fx:=trivial
 refine fb 33 [.tmp 4,.tmp 5,.cell 6 31] [0,1,2,3,4,5,6,7,8,9,10,15,21] Tryz.func6 fun hsc=>?_
 refine cl h (p6T n _) fun v1 h=>?_
 refine cd h (fun hc h=>?_) fun hc h=>?_
 ·refine rs ?_
  refine dw [] 0 ?_
  refine rr ?_
  exact fo (.tup [.sl false 6 104 (rows i8H.cells []),.bool false,.agg [.int .i64 v1.code,.int .i64 v1.index]]) (.tup _ _ (.cons _ _ _ _ (.i8S _ _ _ (by decide)) (.cons _ _ _ _ .s (.cons _ _ _ _ .s .nil))) rfl) h hsc
 ·refine cl h (p6c n _) fun v2 h=>?_
  refine cd h (fun hc h=>?_) fun hc h=>?_
  ·refine rs ?_
   refine dw [] 0 ?_
   refine rr ?_
   exact fo (.tup [.sl false 6 104 (rows i8H.cells []),.bool false,.agg [.int .i64 v2.code,.int .i64 v2.index]]) (.tup _ _ (.cons _ _ _ _ (.i8S _ _ _ (by decide)) (.cons _ _ _ _ .s (.cons _ _ _ _ .s .nil))) rfl) h hsc
  ·refine rn ?_
   refine dw [] 0 ?_
   obtain⟨v3,hv3,h⟩:=p3S h
   refine p3w (p9C n _ _ hv3) ?_
   try simp only[go_sem,fx]
   obtain⟨v4,hv4,h⟩:=p3S h
   refine p3w (p8Z n _ _ _ hv4) ?_
   try simp only[go_sem,fx]
   exact rt
theorem r1Q:∀(n:Nat) (a0:i8F) (p0s:Int) (p3x:Int) (r5l:Bs) (r5m:(List Bs)) (r5n:(List i8F)) (r5o:(List Bs)) (r5p:(List Bs)) (r5q:(List Bs)) (l3:(List i8U)) (r:Int×(List i8U)) (h:p1o n a0 p0s p3x r5l r5m r5n r5o r5p r5q l3=some r),∀(st:St) (o0 o1 o2 o3 o4 q3:Nat) (hnd: [o0,o1,o2,o3,o4].Nodup) (p4J:Am.look st o0=some (.arr 0 1 0 [[.int .i64 p0s]])) (r1m:Am.look st o1=some (.arr 0 7 0 [[.int .i64 p3x,.str r5l,.sl false 1 16 (rows i8K r5m),.sl false 4 72 (rows i8F.cells r5n),.sl false 1 16 (rows i8K r5o),.sl false 1 16 (rows i8K r5p),.sl false 1 16 (rows i8K r5q)]])) (u2h:Am.look st o2=some (.arr 0 1 0 [[.ref false o3 q3 0 l3.length]])) (w0a:Am.look st o3=some (.arr q3 2 32 (rows i8U.cells l3))) (w0b:Am.look st o4=some (.arr 0 1 0 [[.fn 28 [] [.ptr o0 0 0 0,.ptr o1 0 0 0,.ptr o2 0 0 0,.ptr o4 0 0 0]]])),Am.Spec Tryz.prog gl 28 [.agg [.int .i64 a0.kind,.str a0.name,.sl false 1 16 (rows i8K a0.words),.sl false 4 72 (rows i8F.cells a0.subs)],.ptr o0 0 0 0,.ptr o1 0 0 0,.ptr o2 0 0 0,.ptr o4 0 0 0] st (fun d st'=>∃zo3:Nat,d= .tup []∧st'=puts st [(o0,(.arr 0 1 0 [[.int .i64 r.1]])),(o1,(.arr 0 7 0 [[.int .i64 p3x,.str r5l,.sl false 1 16 (rows i8K r5m),.sl false 4 72 (rows i8F.cells r5n),.sl false 1 16 (rows i8K r5o),.sl false 1 16 (rows i8K r5p),.sl false 1 16 (rows i8K r5q)]])),(o2,(.arr 0 1 0 [[.ref false o3 zo3 0 r.2.length]])),(o3,(.arr zo3 2 32 (rows i8U.cells r.2))),(o4,(.arr 0 1 0 [[.fn 28 [] [.ptr o0 0 0 0,.ptr o1 0 0 0,.ptr o2 0 0 0,.ptr o4 0 0 0]]]))]):=by
 intro n
 induction n with
 |zero=>intro a0 p0s p3x r5l r5m r5n r5o r5p r5q l3 r h;cases h
 |succ n ih=>
  intro a0 p0s p3x r5l r5m r5n r5o r5p r5q l3 r h st o0 o1 o2 o3 o4 q3 hnd p4J r1m u2h w0a w0b
  unfold p1o at h
  have ho0:=p0H p4J
  have ho1:=p0H r1m
  have ho2:=p0H u2h
  have ho3:=p0H w0a
  have ho4:=p0H w0b
  have fx:=fa (fa (fa (fa (fa (idf ho0) (idf ho1)) (idf ho2)) (idf ho3)) (idf ho4)) (nd5 hnd)
  refine fb 38 [] [0,1,2,3,4,5,6,7,8,10,20,28,29,30,31] Tryz.func28 fun hsc=>?_
  refine p6z (s':=(i9Q st [(o0,(.arr 0 1 0 [[.int .i64 p0s]])),(o1,(.arr 0 7 0 [[.int .i64 p3x,.str r5l,.sl false 1 16 (rows i8K r5m),.sl false 4 72 (rows i8F.cells r5n),.sl false 1 16 (rows i8K r5o),.sl false 1 16 (rows i8K r5p),.sl false 1 16 (rows i8K r5q)]])),(o2,(.arr 0 1 0 [[.ref false o3 q3 0 l3.length]])),(o3,(.arr q3 2 32 (rows i8U.cells l3))),(o4,(.arr 0 1 0 [[.fn 28 [] [.ptr o0 0 0 0,.ptr o1 0 0 0,.ptr o2 0 0 0,.ptr o4 0 0 0]]]))])) (i9B (by simp[p4J,r1m,u2h,w0a,w0b])) ?_
  refine cl h (p8Z n _ _) fun v1 h=>?_
  refine rn ?_
  refine p4c (p3a (p1o n) a0 p3x r5l r5m r5n r5o r5p r5q p0s) r (fun(gj0:Nat) (j0:(List i8U))=>[(4,.ptr o4 0 0 0),(5,.ptr st.length 0 0 0)]) (fun(gj0:Nat) (j0:(List i8U))=>(i9Q st [(o0,(.arr 0 1 0 [[.int .i64 (wr .i64 (p0s+1))]])),(o1,(.arr 0 7 0 [[.int .i64 p3x,.str r5l,.sl false 1 16 (rows i8K r5m),.sl false 4 72 (rows i8F.cells r5n),.sl false 1 16 (rows i8K r5o),.sl false 1 16 (rows i8K r5p),.sl false 1 16 (rows i8K r5q)]])),(o2,(.arr 0 1 0 [[.ref false o3 gj0 0 j0.length]])),(o3,(.arr gj0 2 32 (rows i8U.cells j0))),(o4,(.arr 0 1 0 [[.fn 28 [] [.ptr o0 0 0 0,.ptr o1 0 0 0,.ptr o2 0 0 0,.ptr o4 0 0 0]]]))])++[some (.arr 0 4 0 [[.int .i64 a0.kind,.str a0.name,.sl false 1 16 (rows i8K a0.words),.sl false 4 72 (rows i8F.cells a0.subs)]])]) (fun gj0 j0 fr1 st1 h hb=>?_) (fun hj0=>?_)
  ·try simp only[go_sem,fx]
   unfold p3a at h
   refine p0E hb ?_
   refine aln 28 fun hl1=>?_
   refine rng (body:=p5i (p1o n) a0 p3x r5l r5m r5n r5o r5p r5q) (kk:=p5j) (n:=a0.subs.length) (s0:=((wr .i64 (p0s+1)),j0))
    (fun(gs1:Nat) (k1:Nat) (s1:Int×(List i8U))=>[(4,.ptr o4 0 0 0),(28,.sl false 4 72 (rows i8F.cells a0.subs)),(29,.int .i64 (↑a0.subs.length:Int)),(30,.int .i64 (↑k1:Int))])
    (fun(gs1:Nat) (k1:Nat) (s1:Int×(List i8U))=>(i9Q st [(o0,(.arr 0 1 0 [[.int .i64 s1.1]])),(o1,(.arr 0 7 0 [[.int .i64 p3x,.str r5l,.sl false 1 16 (rows i8K r5m),.sl false 4 72 (rows i8F.cells r5n),.sl false 1 16 (rows i8K r5o),.sl false 1 16 (rows i8K r5p),.sl false 1 16 (rows i8K r5q)]])),(o2,(.arr 0 1 0 [[.ref false o3 gs1 0 s1.2.length]])),(o3,(.arr gs1 2 32 (rows i8U.cells s1.2))),(o4,(.arr 0 1 0 [[.fn 28 [] [.ptr o0 0 0 0,.ptr o1 0 0 0,.ptr o2 0 0 0,.ptr o4 0 0 0]]]))]))
    (fun(gt1:Nat) (t1:Int×(List i8U))=>[])
    (fun(gt1:Nat) (t1:Int×(List i8U))=>(i9Q st [(o0,(.arr 0 1 0 [[.int .i64 t1.1]])),(o1,(.arr 0 7 0 [[.int .i64 p3x,.str r5l,.sl false 1 16 (rows i8K r5m),.sl false 4 72 (rows i8F.cells r5n),.sl false 1 16 (rows i8K r5o),.sl false 1 16 (rows i8K r5p),.sl false 1 16 (rows i8K r5q)]])),(o2,(.arr 0 1 0 [[.ref false o3 gt1 0 t1.2.length]])),(o3,(.arr gt1 2 32 (rows i8U.cells t1.2))),(o4,(.arr 0 1 0 [[.fn 28 [] [.ptr o0 0 0 0,.ptr o1 0 0 0,.ptr o2 0 0 0,.ptr o4 0 0 0]]]))]))
    gj0 fx hl1 h (bu0 hsc)
    (fun gs1 k1 s1 b1 fx h hx1=>?_) (fun gs1 s1=>?_) (fun gt1 t1 fr1 st1 h hb=>?_)
   ·unfold p5i at h
    refine ct ?_
    refine rn ?_
    obtain⟨v10,hv10,h⟩:=p3S h
    refine(ih _ _ _ _ _ _ _ _ _ _ _ hv10 _ _ _ _ _ _ gs1 hnd (by simp only[go_sem,fx]) (by simp only[go_sem,fx]) (by simp only[go_sem,fx]) (by simp only[go_sem,fx]) (by simp only[go_sem,fx])).mono ?_
    rintro d1 st1 ⟨g11,rfl,rfl⟩
    refine rn ?_
    cases h
    exact p7A g11 (bu0 hsc)
   ·refine cf ?_
    refine p7n ?_;simp only[go_sem,fx]
    exact⟨gs1,(u2k hsc)⟩
   ·try simp only[go_sem,fx]
    unfold p5j at h
    refine r8f hb ?_
    refine rr ?_
    exact fus (.tup []) (.same _) h hsc (hr:=by rintro rfl;exact⟨gt1,rfl,rfl⟩)
  ·refine cd h (fun hc h=>?_) fun hc h=>?_
   ·obtain⟨c3,hc3,h⟩:=p5L h
    have fy:=(show rows i8U.cells l3++[[.int .i64 p0s,.sl false 6 104 (rows i8H.cells v1.1)]]=rows i8U.cells c3 from by rw[hc3];first|exact i9b (E:=i8U.cells) l3 [(i8U.mk p0s v1.1)]|simp only[go_sem,rows,List.map_append,List.map_cons,List.map_nil])
    have fy:=fa fy (show l3.length+1=c3.length from by rw[hc3];simp)
    obtain⟨fx,h⟩:=ck fx h
    refine r1 ?_
    refine hj0 (q3+1) _ _ _ h ?_;exact(bu hsc)
   ·refine r0 ?_
    refine hj0 q3 _ _ _ h ?_;exact(bu hsc)
theorem p8X(n:Nat)(a0:i8I)(a1:i8F)(r:(List i8U)×i8N)(h:p5k n a0 a1=some r):Pure Tryz.prog gl 7 [.agg [.int .i64 a0.form.kind,.str a0.form.name,.sl false 1 16 (rows i8K a0.form.words),.sl false 4 72 (rows i8F.cells a0.form.subs),.sl false 1 16 (rows i8K a0.words),.sl false 1 16 (rows i8K a0.i8M),.sl false 1 16 (rows i8K a0.parts)],.agg [.int .i64 a1.kind,.str a1.name,.sl false 1 16 (rows i8K a1.words),.sl false 4 72 (rows i8F.cells a1.subs)]] (.tup [.sl false 2 32 (rows i8U.cells r.1),.agg [.int .i64 r.2.code,.int .i64 r.2.index]]):=by
 intro st
 unfold p5k at h
 have fx:=trivial
 refine fb 30 [.tmp 4,.cell 5 31] [0,1,2,3,4,5,6,7,8,9,10,15,21] Tryz.func7 fun hsc=>?_
 refine cl h (p6T n _) fun v1 h=>?_
 refine cd h (fun hc h=>?_) fun hc h=>?_
 ·refine rs ?_
  refine dw [] 0 ?_
  refine rr ?_
  exact fo (.tup [.sl false 2 32 (rows i8U.cells []),.agg [.int .i64 v1.code,.int .i64 v1.index]]) (.tup _ _ (.cons _ _ _ _ (.i8S _ _ _ (by decide)) (.cons _ _ _ _ .s .nil)) rfl) h hsc
 ·refine cl h (p6c n _) fun v2 h=>?_
  refine cd h (fun hc h=>?_) fun hc h=>?_
  ·refine rs ?_
   refine dw [] 0 ?_
   refine rr ?_
   exact fo (.tup [.sl false 2 32 (rows i8U.cells []),.agg [.int .i64 v2.code,.int .i64 v2.index]]) (.tup _ _ (.cons _ _ _ _ (.i8S _ _ _ (by decide)) (.cons _ _ _ _ .s .nil)) rfl) h hsc
  ·refine r0 ?_
   refine r0 ?_
   refine r0 ?_
   refine r0 ?_
   refine r0 ?_
   (repeat apply sq_)
   refine p4S 2 32 ?_
   try simp only[List.append_assoc,List.cons_append,List.nil_append]
   refine p0E (F:=[(3,.ptr (st.length+1) 0 0 0),(5,.ptr (st.length+2) 0 0 0),(8,.ptr (st.length+5) 0 0 0),(10,.ptr (st.length+7) 0 0 0)]) (T:=st++[some (.arr 0 7 0 [[.int .i64 a0.form.kind,.str a0.form.name,.sl false 1 16 (rows i8K a0.form.words),.sl false 4 72 (rows i8F.cells a0.form.subs),.sl false 1 16 (rows i8K a0.words),.sl false 1 16 (rows i8K a0.i8M),.sl false 1 16 (rows i8K a0.parts)]]),some (.arr 0 4 0 [[.int .i64 a1.kind,.str a1.name,.sl false 1 16 (rows i8K a1.words),.sl false 4 72 (rows i8F.cells a1.subs)]]),some (.arr 0 2 0 [[.int .i64 0,.int .i64 0]]),some (.arr 0 2 0 [[.int .i64 v1.code,.int .i64 v1.index]]),some (.arr 0 2 0 [[.int .i64 v2.code,.int .i64 v2.index]]),some (.arr 0 1 0 [[.ref false (st.length+8) 0 0 0]]),some (.arr 0 1 0 [[.int .i64 0]]),some (.arr 0 1 0 [[.fn 28 [] [.ptr (st.length+6) 0 0 0,.ptr st.length 0 0 0,.ptr (st.length+5) 0 0 0,.ptr (st.length+7) 0 0 0]]]),some (.arr 0 2 32 (rows i8U.cells []))]) (r5T hsc (.lv (.lv (.lv (.lv (.lv (.live _ _ _ _ (.arr _ _ _ _ _ (.cons _ _ _ _ (.cons _ _ _ _ (.nref _ _ _ _ _ _ (r0c.trans rfl)) .nil) (.same _))) (.lv (.lv (.lv (.nil _)))))))))) (by simp) ⟨.s,.s,.s,.s,trivial⟩ (by simp)) ?_
   refine rs ?_
   refine dwl [] 0 3 ?_
   obtain⟨v3,hv3,h⟩:=p3S h
   refine p3w (p9C n _ _ hv3) ?_
   try simp only[go_sem,fx]
   obtain⟨v4,hv4,h⟩:=p3S h
   try simp only[go_sem,fx]
   refine(r1Q n _ _ _ _ _ _ _ _ _ _ _ hv4 _ _ _ _ _ _ 0 (by simp) (r1p.trans rfl) (p8m.trans rfl) (r1p.trans rfl) (r1p.trans rfl) (r1p.trans rfl)).mono ?_
   rintro d1 st1 ⟨g5,rfl,rfl⟩
   try simp only[go_sem,fx]
   refine rr ?_
   exact fo (.tup [.sl false 2 32 (rows i8U.cells v4.2),.agg [.int .i64 0,.int .i64 0]]) (.tup _ _ (.cons _ _ _ _ (.ref _ _ _ _ _ _ _ _ _ (r0c.trans rfl) r7l (by decide) (p9b _) (by simp only[go_sem])) (.cons _ _ _ _ .s .nil)) rfl) h hsc
theorem p7x(n:Nat)(a0:(List Bs))(a1:(List Bs))(r:Bool)(h:p0Y n a0 a1=some r):Pure Tryz.prog gl 48 [.sl false 1 16 (rows i8K a0),.sl false 1 16 (rows i8K a1)] (.bool r):=by
 intro st
 unfold p0Y at h
 have fx:=trivial
 refine fb 26 [.tmp 4] [0,1,4,5,10,14,25] Tryz.func48 fun hsc=>?_
 refine cd h (fun hc h=>?_) fun hc h=>?_
 ·exact rt
 ·refine rn ?_
  refine i8V (body:=p0k a0 a1) (kk:=p3k) (n:=n) (s0:=0)
   (fun(gs0:Unit) (s0:Int)=>[(0,.sl false 1 16 (rows i8K a0)),(1,.sl false 1 16 (rows i8K a1)),(5,.int .i64 s0)])
   (fun(gs0:Unit) (s0:Int)=>st)
   (fun(gt0:Unit) (t0:Unit)=>[])
   (fun(gt0:Unit) (t0:Unit)=>st)
   () h (p7g hsc)
   (fun gs0 s0 b0 h hx0=>?_) (fun gt0 t0 fr1 st1 h hb=>?_)
  ·unfold p0k at h
   refine cd h (fun hc h=>?_) fun hc h=>?_
   ·refine rn ?_
    obtain⟨fx,h⟩:=ck fx h
    obtain⟨fx,h⟩:=ck fx h
    refine dw [] 0 ?_
    refine cd h (fun hc h=>?_) fun hc h=>?_
    ·refine ra ?_
     cases h
     refine p0T ?_;have h:=congrArg some (hx0 _ rfl)
     exact rt
    ·refine rn ?_
     cases h
     exact i9h () (p7g hsc)
   ·refine rn ?_
    cases h
    exact i9r () (p7g hsc)
  ·try simp only[go_sem,fx]
   unfold p3k at h
   refine p0E hb ?_
   exact rt
theorem p3z:∀(n:Nat) (a0:i8F) (a1:i8F) (r:Bool) (h:i9k n a0 a1=some r),Pure Tryz.prog gl 20 [.agg [.int .i64 a0.kind,.str a0.name,.sl false 1 16 (rows i8K a0.words),.sl false 4 72 (rows i8F.cells a0.subs)],.agg [.int .i64 a1.kind,.str a1.name,.sl false 1 16 (rows i8K a1.words),.sl false 4 72 (rows i8F.cells a1.subs)]] (.bool r):=by
 intro n
 induction n with
 |zero=>intro a0 a1 r h;cases h
 |succ n ih=>
  intro a0 a1 r h st
  unfold i9k at h
  have fx:=trivial
  refine fb 54 [.tmp 4] [0,1,2,3,4,5,12,13,14,15,16,19,20,21,22,23,24,27,28,29,30,31,32,33,34,39,53] Tryz.func20 fun hsc=>?_
  refine rn ?_
  obtain⟨v1,hv1,h⟩:=p3S h
  refine p6K (fun hG=>(p7x n _ _ _ (r4k hv1 (by simpa using hG)))) ?_
  refine cd h (fun hc h=>?_) fun hc h=>?_
  ·exact rt
  ·refine rn ?_
   refine i8V (body:=p0z (i9k n) a0 a1) (kk:=p3y) (n:=n) (s0:=0)
    (fun(gs0:Unit) (s0:Int)=>[(2,.ptr st.length 0 0 0),(3,.ptr (st.length+1) 0 0 0),(5,.int .i64 s0)])
    (fun(gs0:Unit) (s0:Int)=>st++[some (.arr 0 4 0 [[.int .i64 a0.kind,.str a0.name,.sl false 1 16 (rows i8K a0.words),.sl false 4 72 (rows i8F.cells a0.subs)]]),some (.arr 0 4 0 [[.int .i64 a1.kind,.str a1.name,.sl false 1 16 (rows i8K a1.words),.sl false 4 72 (rows i8F.cells a1.subs)]])])
    (fun(gt0:Unit) (t0:Unit)=>[])
    (fun(gt0:Unit) (t0:Unit)=>st)
    () h (bm hsc)
    (fun gs0 s0 b0 h hx0=>?_) (fun gt0 t0 fr1 st1 h hb=>?_)
   ·unfold p0z at h
    refine cd h (fun hc h=>?_) fun hc h=>?_
    ·refine rn ?_
     obtain⟨fx,h⟩:=ck fx h
     obtain⟨fx,h⟩:=ck fx h
     refine dw [] 0 ?_
     obtain⟨v8,hv8,h⟩:=p3S h
     refine p3w (ih _ _ _ hv8) ?_
     try simp only[go_sem,fx]
     refine cd h (fun hc h=>?_) fun hc h=>?_
     ·refine ra ?_
      cases h
      refine p0T ?_;have h:=congrArg some (hx0 _ rfl)
      exact rt
     ·refine rn ?_
      cases h
      exact i9h () (bm hsc)
    ·refine rn ?_
     cases h
     exact i9r () (bm0 hsc)
   ·try simp only[go_sem,fx]
    unfold p3y at h
    refine p0E hb ?_
    exact rt
end Go.Proofs.YtdjnbjnlnjhllaaGreatDoor
