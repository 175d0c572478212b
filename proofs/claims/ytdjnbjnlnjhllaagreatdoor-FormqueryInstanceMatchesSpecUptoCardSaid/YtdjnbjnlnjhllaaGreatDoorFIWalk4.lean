import Derived.Test.YtdjnbjnlnjhllaaGreatDoorFIWalk3
set_option linter.unusedVariables false
set_option linter.unusedSimpArgs false
set_option maxHeartbeats 2000000
set_option maxRecDepth 100000
namespace Go.Proofs.YtdjnbjnlnjhllaaGreatDoor
open Go Go.Am
theorem x5l(n:Nat)(a0:w3W)(a1:w3T)(r:(List w3V)×Bool)(h:x3g n a0 a1=some r):Pure Tryz.prog gl 26 [.agg [.int .i64 a0.form.kind,.str a0.form.name,.sl false 1 16 (rows w3X a0.form.words),.sl false 4 72 (rows w3T.cells a0.form.subs),.sl false 1 16 (rows w3X a0.words),.sl false 1 16 (rows w3X a0.w4a),.sl false 1 16 (rows w3X a0.parts)],.agg [.int .i64 a1.kind,.str a1.name,.sl false 1 16 (rows w3X a1.words),.sl false 4 72 (rows w3T.cells a1.subs)]] (.tup [.sl false 6 104 (rows w3V.cells r.1),.bool r.2]):=by
 intro st
 unfold x3g at h
 have fx:=trivial
 refine fb 83 [.tmp 4,.tmp 5] [0,1,2,3,4,5,6,7,8,9,11,13,14,24,27,28,29,30,47,48,49,50,61,62,63,64,65,72] Tryz.func26 fun hsc=>?_
 refine cl h (x7x n _) fun v1 h=>?_
 refine rn ?_
 obtain⟨v2,hv2,h⟩:=w7w h
 refine(x6I n _ _ _ _ _ hv2 _ _ (by simp) (x5S.trans rfl)).mono ?_
 rintro d1 st1 ⟨rfl,rfl⟩
 refine cd h (fun hc h=>?_) fun hc h=>?_
 ·refine rr ?_
  exact fo (.tup [.sl false 6 104 (rows w3V.cells []),.bool false]) (.tup _ _ (.cons _ _ _ _ (.w4g _ _ _ (by decide)) (.cons _ _ _ _ .s .nil)) rfl) h hsc
 ·refine cl h (w8u n _) fun v3 h=>?_
  try simp only[go_sem,fx]
  (repeat apply sq_)
  refine w9I 1 16 ?_
  try simp only[List.append_assoc,List.cons_append,List.nil_append]
  refine w5A (F:=[(6,.mp (st.length+2)),(7,.ptr (st.length+3) 0 0 0),(8,.w4g),(9,.ref false (st.length+4) 0 0 0),(27,.sl false 1 16 (rows w3X v3)),(28,.int .i64 (↑v3.length:Int)),(29,.int .i64 0)]) (T:=st++[some (.arr 0 7 0 [[.int .i64 a0.form.kind,.str a0.form.name,.sl false 1 16 (rows w3X a0.form.words),.sl false 4 72 (rows w3T.cells a0.form.subs),.sl false 1 16 (rows w3X a0.words),.sl false 1 16 (rows w3X a0.w4a),.sl false 1 16 (rows w3X a0.parts)]]),some (.arr 0 4 0 [[.int .i64 a1.kind,.str a1.name,.sl false 1 16 (rows w3X a1.words),.sl false 4 72 (rows w3T.cells a1.subs)]]),some (.mps true (mrw w3V.cells v2.2)),some (.arr 0 7 0 [[.int .i64 v1.form.kind,.str v1.form.name,.sl false 1 16 (rows w3X v1.form.words),.sl false 4 72 (rows w3T.cells v1.form.subs),.sl false 1 16 (rows w3X v1.words),.sl false 1 16 (rows w3X v1.w4a),.sl false 1 16 (rows w3X v1.parts)]]),some (.arr 0 1 16 (rows w3X []))]) (y1B hsc (.lv (.lv (.lv (.lv (.lv (.nil _)))))) (by simp) ⟨.s,.s,.s,.nref _ _ _ _ _ _ (x6a.trans rfl),.s,.s,.s,trivial⟩ (by simp)) ?_
  refine aln 27 fun hl0=>?_
  refine rng (body:=x2S v3 v2) (kk:=x2V n v1 v2) (n:=v3.length) (s0:=[])
   (fun(gs0:Nat) (k0:Nat) (s0:(List Bs))=>[(6,.mp (st.length+2)),(7,.ptr (st.length+3) 0 0 0),(8,.w4g),(9,.ref false (st.length+4) gs0 0 s0.length),(27,.sl false 1 16 (rows w3X v3)),(28,.int .i64 (↑v3.length:Int)),(29,.int .i64 (↑k0:Int))])
   (fun(gs0:Nat) (k0:Nat) (s0:(List Bs))=>st++[none,none,some (.mps true (mrw w3V.cells v2.2)),some (.arr 0 7 0 [[.int .i64 v1.form.kind,.str v1.form.name,.sl false 1 16 (rows w3X v1.form.words),.sl false 4 72 (rows w3T.cells v1.form.subs),.sl false 1 16 (rows w3X v1.words),.sl false 1 16 (rows w3X v1.w4a),.sl false 1 16 (rows w3X v1.parts)]]),some (.arr gs0 1 16 (rows w3X s0))])
   (fun(gt0:Nat) (t0:(List Bs))=>[(6,.mp (st.length+2)),(7,.ptr (st.length+3) 0 0 0),(8,.w4g),(9,.ref false (st.length+4) gt0 0 t0.length)])
   (fun(gt0:Nat) (t0:(List Bs))=>st++[none,none,some (.mps true (mrw w3V.cells v2.2)),some (.arr 0 7 0 [[.int .i64 v1.form.kind,.str v1.form.name,.sl false 1 16 (rows w3X v1.form.words),.sl false 4 72 (rows w3T.cells v1.form.subs),.sl false 1 16 (rows w3X v1.words),.sl false 1 16 (rows w3X v1.w4a),.sl false 1 16 (rows w3X v1.parts)]]),some (.arr gt0 1 16 (rows w3X t0))])
   0 fx hl0 h (bm hsc)
   (fun gs0 k0 s0 b0 fx h hx0=>?_) (fun gs0 s0=>?_) (fun gt0 t0 fr1 st1 h hb=>?_)
  ·unfold x2S at h
   refine ct ?_
   refine r0 ?_
   refine r0 ?_
   refine r0 ?_
   obtain⟨c11,z0I,h⟩:=x1k h
   have fy:=(show rows w3X s0++[[.str (((assoc (get v3 k0) v2.2).getD default).text)]]=rows w3X c11 from by rw[z0I];first|exact w4k (E:=w3X) s0 [((assoc (get v3 k0) v2.2).getD default).text]|simp only[go_sem,rows,List.map_append,List.map_cons,List.map_nil])
   have fy:=fa fy (show s0.length+1=c11.length from by rw[z0I];simp)
   obtain⟨fx,h⟩:=ck fx h
   refine r1 ?_
   refine rn ?_
   cases h
   exact x2D (gs0+1) (bm hsc)
  ·refine cf ?_
   refine x2J ?_;simp only[go_sem,fx]
   exact⟨gs0,(bm hsc)⟩
  ·try simp only[go_sem,fx]
   unfold x2V at h
   refine w5A hb ?_
   refine rs ?_
   refine dw [] 1 ?_
   obtain⟨v16,hv16,h⟩:=w7w h
   refine w7Z (x0N _ _ hv16) ?_
   try simp only[go_sem,fx]
   obtain⟨v17,hv17,h⟩:=w7w h
   refine w7Z (w8u n _ _ hv17) ?_
   try simp only[go_sem,fx]
   obtain⟨v19,hv19,h⟩:=w7w h
   refine w7Z (x7O _ _ hv19) ?_
   try simp only[go_sem,fx]
   (repeat apply sq_)
   refine w9I 6 104 ?_
   try simp only[List.append_assoc,List.cons_append,List.nil_append]
   refine w5A (F:=[(6,.mp (st.length+2)),(7,.ptr (st.length+3) 0 0 0),(8,.ref false (st.length+6) 0 0 0),(9,.ref false (st.length+4) gt0 0 t0.length),(47,.sl false 1 16 (rows w3X v19)),(48,.int .i64 (↑v19.length:Int)),(49,.int .i64 0)]) (T:=st++[none,none,some (.mps true (mrw w3V.cells v2.2)),some (.arr 0 7 0 [[.int .i64 v1.form.kind,.str v1.form.name,.sl false 1 16 (rows w3X v1.form.words),.sl false 4 72 (rows w3T.cells v1.form.subs),.sl false 1 16 (rows w3X v1.words),.sl false 1 16 (rows w3X v1.w4a),.sl false 1 16 (rows w3X v1.parts)]]),some (.arr gt0 1 16 (rows w3X t0)),none,some (.arr 0 6 104 (rows w3V.cells []))]) (y1B hsc (.dead _ _ _ (.dead _ _ _ (.lv (.lv (.lv (.dead _ _ _ (.lv (.nil _)))))))) (by simp) ⟨.s,.s,.nref _ _ _ _ _ _ (x6a.trans rfl),.s,.s,.s,.s,trivial⟩ (by simp)) ?_
   refine aln 47 fun hl1=>?_
   refine rng (body:=x2T n v1 v19 v2 t0) (kk:=x2U) (n:=v19.length) (s0:=[])
    (fun(gs1:Nat) (k1:Nat) (s1:(List w3V))=>[(6,.mp (st.length+2)),(7,.ptr (st.length+3) 0 0 0),(8,.ref false (st.length+6) gs1 0 s1.length),(9,.ref false (st.length+4) gt0 0 t0.length),(47,.sl false 1 16 (rows w3X v19)),(48,.int .i64 (↑v19.length:Int)),(49,.int .i64 (↑k1:Int))])
    (fun(gs1:Nat) (k1:Nat) (s1:(List w3V))=>st++[none,none,some (.mps true (mrw w3V.cells v2.2)),some (.arr 0 7 0 [[.int .i64 v1.form.kind,.str v1.form.name,.sl false 1 16 (rows w3X v1.form.words),.sl false 4 72 (rows w3T.cells v1.form.subs),.sl false 1 16 (rows w3X v1.words),.sl false 1 16 (rows w3X v1.w4a),.sl false 1 16 (rows w3X v1.parts)]]),some (.arr gt0 1 16 (rows w3X t0)),none,some (.arr gs1 6 104 (rows w3V.cells s1))])
    (fun(gt1:Nat) (t1:(List w3V))=>[(8,.ref false (st.length+6) gt1 0 t1.length)])
    (fun(gt1:Nat) (t1:(List w3V))=>st++[none,none,none,none,none,none,some (.arr gt1 6 104 (rows w3V.cells t1))])
    0 fx hl1 h (bm hsc)
    (fun gs1 k1 s1 b1 fx h hx1=>?_) (fun gs1 s1=>?_) (fun gt1 t1 fr1 st1 h hb=>?_)
   ·unfold x2T at h
    refine ct ?_
    refine cl h (w4e _ _) fun v38 h=>?_
    refine rn ?_
    obtain⟨v39,hv39,h⟩:=w7w h
    refine z3B (fun hG=>(x2q _ _ _ (x8s hv39 (by simpa using hG)) _ _ gt0 (by simp) (x5S.trans rfl))) (fun hF=>by obtain rfl:=z7Y hv39 (by simpa using hF);simp only[go_sem,fx]) ?_
    refine cd h (fun hc h=>?_) fun hc h=>?_
    ·refine ra ?_
     cases h
     refine w8C ?_;have h:=congrArg some (hx1 _ rfl)
     refine rr ?_
     exact fo (.tup [.sl false 6 104 (rows w3V.cells []),.bool false]) (.tup _ _ (.cons _ _ _ _ (.w4g _ _ _ (by decide)) (.cons _ _ _ _ .s .nil)) rfl) h hsc
    ·obtain⟨fx,h⟩:=ck fx h
     refine cl h (w4e _ _) fun v42 h=>?_
     refine cd h (fun hc h=>?_) fun hc h=>?_
     ·refine cl h (x9R n _) fun v43 h=>?_
      try simp only[go_sem,fx]
      obtain⟨c45,z7j,h⟩:=x1k h
      have fy:=(show rows w3V.cells s1++[[.str ((get v19 k1).drop 1),.str (((assoc (get v19 k1) v2.2).getD default).text),.int .i64 v43.kind,.str v43.name,.sl false 1 16 (rows w3X v43.words),.sl false 4 72 (rows w3T.cells v43.subs)]]=rows w3V.cells c45 from by rw[z7j];first|exact w4k (E:=w3V.cells) s1 [(w3V.mk ((get v19 k1).drop 1) (((assoc (get v19 k1) v2.2).getD default).text) v43)]|simp only[go_sem,rows,List.map_append,List.map_cons,List.map_nil])
      have fy:=fa fy (show s1.length+1=c45.length from by rw[z7j];simp)
      obtain⟨fx,h⟩:=ck fx h
      refine r1 ?_
      refine rn ?_
      cases h
      exact x2D (gs1+1) (bm hsc)
     ·refine r0 ?_
      obtain⟨c51,z4C,h⟩:=x1k h
      have fy:=(show rows w3V.cells s1++[[.str ((get v19 k1).drop 1),.str (((assoc (get v19 k1) v2.2).getD default).text),.int .i64 (((assoc (get v19 k1) v2.2).getD default).form.kind),.str (((assoc (get v19 k1) v2.2).getD default).form.name),.sl false 1 16 (rows w3X (((assoc (get v19 k1) v2.2).getD default).form.words)),.sl false 4 72 (rows w3T.cells (((assoc (get v19 k1) v2.2).getD default).form.subs))]]=rows w3V.cells c51 from by rw[z4C];first|exact w4k (E:=w3V.cells) s1 [(w3V.mk ((get v19 k1).drop 1) (((assoc (get v19 k1) v2.2).getD default).text) (((assoc (get v19 k1) v2.2).getD default).form))]|simp only[go_sem,rows,List.map_append,List.map_cons,List.map_nil])
      have fy:=fa fy (show s1.length+1=c51.length from by rw[z4C];simp)
      obtain⟨fx,h⟩:=ck fx h
      refine r1 ?_
      refine rn ?_
      cases h
      exact x2D (gs1+1) (bm hsc)
   ·refine cf ?_
    refine x2J ?_;simp only[go_sem,fx]
    exact⟨gs1,(bm hsc)⟩
   ·try simp only[go_sem,fx]
    unfold x2U at h
    refine w5A hb ?_
    refine rr ?_
    exact fo (.tup [.sl false 6 104 (rows w3V.cells t1),.bool true]) (.tup _ _ (.cons _ _ _ _ (.ref _ _ _ _ _ _ _ _ _ (x6a.trans rfl) y4B (by decide) (x4L _) (by simp only[go_sem])) (.cons _ _ _ _ .s .nil)) rfl) h hsc
theorem x8b(n:Nat)(a0:w3W)(a1:w3T)(r:(List w3V)×Bool×w4b)(h:x4m n a0 a1=some r):Pure Tryz.prog gl 6 [.agg [.int .i64 a0.form.kind,.str a0.form.name,.sl false 1 16 (rows w3X a0.form.words),.sl false 4 72 (rows w3T.cells a0.form.subs),.sl false 1 16 (rows w3X a0.words),.sl false 1 16 (rows w3X a0.w4a),.sl false 1 16 (rows w3X a0.parts)],.agg [.int .i64 a1.kind,.str a1.name,.sl false 1 16 (rows w3X a1.words),.sl false 4 72 (rows w3T.cells a1.subs)]] (.tup [.sl false 6 104 (rows w3V.cells r.1),.bool r.2.1,.agg [.int .i64 r.2.2.code,.int .i64 r.2.2.index]]):=by
 intro st
 unfold x4m at h
 have fx:=trivial
 refine fb 33 [.tmp 4,.tmp 5,.cell 6 31] [0,1,2,3,4,5,6,7,8,9,10,15,21] Tryz.func6 fun hsc=>?_
 refine cl h (x1i n _) fun v1 h=>?_
 refine cd h (fun hc h=>?_) fun hc h=>?_
 ·refine rs ?_
  refine dw [] 0 ?_
  refine rr ?_
  exact fo (.tup [.sl false 6 104 (rows w3V.cells []),.bool false,.agg [.int .i64 v1.code,.int .i64 v1.index]]) (.tup _ _ (.cons _ _ _ _ (.w4g _ _ _ (by decide)) (.cons _ _ _ _ .s (.cons _ _ _ _ .s .nil))) rfl) h hsc
 ·refine cl h (x0w n _) fun v2 h=>?_
  refine cd h (fun hc h=>?_) fun hc h=>?_
  ·refine rs ?_
   refine dw [] 0 ?_
   refine rr ?_
   exact fo (.tup [.sl false 6 104 (rows w3V.cells []),.bool false,.agg [.int .i64 v2.code,.int .i64 v2.index]]) (.tup _ _ (.cons _ _ _ _ (.w4g _ _ _ (by decide)) (.cons _ _ _ _ .s (.cons _ _ _ _ .s .nil))) rfl) h hsc
  ·refine rn ?_
   refine dw [] 0 ?_
   obtain⟨v3,hv3,h⟩:=w7w h
   refine w7Z (x3N n _ _ hv3) ?_
   try simp only[go_sem,fx]
   obtain⟨v4,hv4,h⟩:=w7w h
   refine w7Z (x5l n _ _ _ hv4) ?_
   try simp only[go_sem,fx]
   exact rt
theorem x8c:∀(n:Nat) (a0:w3T) (w4B:Int) (w5n:Int) (y1u:Bs) (y1v:(List Bs)) (y1w:(List w3T)) (y1x:(List Bs)) (y1y:(List Bs)) (y1z:(List Bs)) (l3:(List w4l)) (r:Int×(List w4l)) (h:w9p n a0 w4B w5n y1u y1v y1w y1x y1y y1z l3=some r),∀(st:St) (o0 o1 o2 o3 o4 q3:Nat) (hnd: [o0,o1,o2,o3,o4].Nodup) (w8Z:Am.look st o0=some (.arr 0 1 0 [[.int .i64 w4B]])) (x6d:Am.look st o1=some (.arr 0 7 0 [[.int .i64 w5n,.str y1u,.sl false 1 16 (rows w3X y1v),.sl false 4 72 (rows w3T.cells y1w),.sl false 1 16 (rows w3X y1x),.sl false 1 16 (rows w3X y1y),.sl false 1 16 (rows w3X y1z)]])) (y4d:Am.look st o2=some (.arr 0 1 0 [[.ref false o3 q3 0 l3.length]])) (z2b:Am.look st o3=some (.arr q3 2 32 (rows w4l.cells l3))) (z2c:Am.look st o4=some (.arr 0 1 0 [[.fn 28 [] [.ptr o0 0 0 0,.ptr o1 0 0 0,.ptr o2 0 0 0,.ptr o4 0 0 0]]])),Am.Spec Tryz.prog gl 28 [.agg [.int .i64 a0.kind,.str a0.name,.sl false 1 16 (rows w3X a0.words),.sl false 4 72 (rows w3T.cells a0.subs)],.ptr o0 0 0 0,.ptr o1 0 0 0,.ptr o2 0 0 0,.ptr o4 0 0 0] st (fun d st'=>∃zo3:Nat,d= .tup []∧st'=puts st [(o0,(.arr 0 1 0 [[.int .i64 r.1]])),(o1,(.arr 0 7 0 [[.int .i64 w5n,.str y1u,.sl false 1 16 (rows w3X y1v),.sl false 4 72 (rows w3T.cells y1w),.sl false 1 16 (rows w3X y1x),.sl false 1 16 (rows w3X y1y),.sl false 1 16 (rows w3X y1z)]])),(o2,(.arr 0 1 0 [[.ref false o3 zo3 0 r.2.length]])),(o3,(.arr zo3 2 32 (rows w4l.cells r.2))),(o4,(.arr 0 1 0 [[.fn 28 [] [.ptr o0 0 0 0,.ptr o1 0 0 0,.ptr o2 0 0 0,.ptr o4 0 0 0]]]))]):=by
 intro n
 induction n with
 |zero=>intro a0 w4B w5n y1u y1v y1w y1x y1y y1z l3 r h;cases h
 |succ n ih=>
  intro a0 w4B w5n y1u y1v y1w y1x y1y y1z l3 r h st o0 o1 o2 o3 o4 q3 hnd w8Z x6d y4d z2b z2c
  unfold w9p at h
  have ho0:=w5a w8Z
  have ho1:=w5a x6d
  have ho2:=w5a y4d
  have ho3:=w5a z2b
  have ho4:=w5a z2c
  have fx:=fa (fa (fa (fa (fa (idf ho0) (idf ho1)) (idf ho2)) (idf ho3)) (idf ho4)) (nd5 hnd)
  refine fb 38 [] [0,1,2,3,4,5,6,7,8,10,20,28,29,30,31] Tryz.func28 fun hsc=>?_
  refine x1L (s':=(w4O st [(o0,(.arr 0 1 0 [[.int .i64 w4B]])),(o1,(.arr 0 7 0 [[.int .i64 w5n,.str y1u,.sl false 1 16 (rows w3X y1v),.sl false 4 72 (rows w3T.cells y1w),.sl false 1 16 (rows w3X y1x),.sl false 1 16 (rows w3X y1y),.sl false 1 16 (rows w3X y1z)]])),(o2,(.arr 0 1 0 [[.ref false o3 q3 0 l3.length]])),(o3,(.arr q3 2 32 (rows w4l.cells l3))),(o4,(.arr 0 1 0 [[.fn 28 [] [.ptr o0 0 0 0,.ptr o1 0 0 0,.ptr o2 0 0 0,.ptr o4 0 0 0]]]))])) (w4w (by simp[w8Z,x6d,y4d,z2b,z2c])) ?_
  refine cl h (x5l n _ _) fun v1 h=>?_
  refine rn ?_
  refine w9Q (x1a (w9p n) a0 w5n y1u y1v y1w y1x y1y y1z w4B) r (fun(gj0:Nat) (j0:(List w4l))=>[(4,.ptr o4 0 0 0),(5,.ptr st.length 0 0 0)]) (fun(gj0:Nat) (j0:(List w4l))=>(w4O st [(o0,(.arr 0 1 0 [[.int .i64 (wr .i64 (w4B+1))]])),(o1,(.arr 0 7 0 [[.int .i64 w5n,.str y1u,.sl false 1 16 (rows w3X y1v),.sl false 4 72 (rows w3T.cells y1w),.sl false 1 16 (rows w3X y1x),.sl false 1 16 (rows w3X y1y),.sl false 1 16 (rows w3X y1z)]])),(o2,(.arr 0 1 0 [[.ref false o3 gj0 0 j0.length]])),(o3,(.arr gj0 2 32 (rows w4l.cells j0))),(o4,(.arr 0 1 0 [[.fn 28 [] [.ptr o0 0 0 0,.ptr o1 0 0 0,.ptr o2 0 0 0,.ptr o4 0 0 0]]]))])++[some (.arr 0 4 0 [[.int .i64 a0.kind,.str a0.name,.sl false 1 16 (rows w3X a0.words),.sl false 4 72 (rows w3T.cells a0.subs)]])]) (fun gj0 j0 fr1 st1 h hb=>?_) (fun hj0=>?_)
  ·try simp only[go_sem,fx]
   unfold x1a at h
   refine w5A hb ?_
   refine aln 28 fun hl1=>?_
   refine rng (body:=x2n (w9p n) a0 w5n y1u y1v y1w y1x y1y y1z) (kk:=x2o) (n:=a0.subs.length) (s0:=((wr .i64 (w4B+1)),j0))
    (fun(gs1:Nat) (k1:Nat) (s1:Int×(List w4l))=>[(4,.ptr o4 0 0 0),(28,.sl false 4 72 (rows w3T.cells a0.subs)),(29,.int .i64 (↑a0.subs.length:Int)),(30,.int .i64 (↑k1:Int))])
    (fun(gs1:Nat) (k1:Nat) (s1:Int×(List w4l))=>(w4O st [(o0,(.arr 0 1 0 [[.int .i64 s1.1]])),(o1,(.arr 0 7 0 [[.int .i64 w5n,.str y1u,.sl false 1 16 (rows w3X y1v),.sl false 4 72 (rows w3T.cells y1w),.sl false 1 16 (rows w3X y1x),.sl false 1 16 (rows w3X y1y),.sl false 1 16 (rows w3X y1z)]])),(o2,(.arr 0 1 0 [[.ref false o3 gs1 0 s1.2.length]])),(o3,(.arr gs1 2 32 (rows w4l.cells s1.2))),(o4,(.arr 0 1 0 [[.fn 28 [] [.ptr o0 0 0 0,.ptr o1 0 0 0,.ptr o2 0 0 0,.ptr o4 0 0 0]]]))]))
    (fun(gt1:Nat) (t1:Int×(List w4l))=>[])
    (fun(gt1:Nat) (t1:Int×(List w4l))=>(w4O st [(o0,(.arr 0 1 0 [[.int .i64 t1.1]])),(o1,(.arr 0 7 0 [[.int .i64 w5n,.str y1u,.sl false 1 16 (rows w3X y1v),.sl false 4 72 (rows w3T.cells y1w),.sl false 1 16 (rows w3X y1x),.sl false 1 16 (rows w3X y1y),.sl false 1 16 (rows w3X y1z)]])),(o2,(.arr 0 1 0 [[.ref false o3 gt1 0 t1.2.length]])),(o3,(.arr gt1 2 32 (rows w4l.cells t1.2))),(o4,(.arr 0 1 0 [[.fn 28 [] [.ptr o0 0 0 0,.ptr o1 0 0 0,.ptr o2 0 0 0,.ptr o4 0 0 0]]]))]))
    gj0 fx hl1 h (bu0 hsc)
    (fun gs1 k1 s1 b1 fx h hx1=>?_) (fun gs1 s1=>?_) (fun gt1 t1 fr1 st1 h hb=>?_)
   ·unfold x2n at h
    refine ct ?_
    refine rn ?_
    obtain⟨v10,hv10,h⟩:=w7w h
    refine(ih _ _ _ _ _ _ _ _ _ _ _ hv10 _ _ _ _ _ _ gs1 hnd (by simp only[go_sem,fx]) (by simp only[go_sem,fx]) (by simp only[go_sem,fx]) (by simp only[go_sem,fx]) (by simp only[go_sem,fx])).mono ?_
    rintro d1 st1 ⟨g11,rfl,rfl⟩
    refine rn ?_
    cases h
    exact x2D g11 (bu0 hsc)
   ·refine cf ?_
    refine x2J ?_;simp only[go_sem,fx]
    exact⟨gs1,(y1c hsc)⟩
   ·try simp only[go_sem,fx]
    unfold x2o at h
    refine y4D hb ?_
    refine rr ?_
    exact fus (.tup []) (.same _) h hsc (hr:=by rintro rfl;exact⟨gt1,rfl,rfl⟩)
  ·refine cd h (fun hc h=>?_) fun hc h=>?_
   ·obtain⟨c3,hc3,h⟩:=x1k h
    have fy:=(show rows w4l.cells l3++[[.int .i64 w4B,.sl false 6 104 (rows w3V.cells v1.1)]]=rows w4l.cells c3 from by rw[hc3];first|exact w4k (E:=w4l.cells) l3 [(w4l.mk w4B v1.1)]|simp only[go_sem,rows,List.map_append,List.map_cons,List.map_nil])
    have fy:=fa fy (show l3.length+1=c3.length from by rw[hc3];simp)
    obtain⟨fx,h⟩:=ck fx h
    refine r1 ?_
    refine hj0 (q3+1) _ _ _ h ?_;exact(bu hsc)
   ·refine r0 ?_
    refine hj0 q3 _ _ _ h ?_;exact(bu hsc)
theorem x8w(n:Nat)(a0:w3W)(a1:w3T)(r:(List w4l)×w4b)(h:x5b n a0 a1=some r):Pure Tryz.prog gl 7 [.agg [.int .i64 a0.form.kind,.str a0.form.name,.sl false 1 16 (rows w3X a0.form.words),.sl false 4 72 (rows w3T.cells a0.form.subs),.sl false 1 16 (rows w3X a0.words),.sl false 1 16 (rows w3X a0.w4a),.sl false 1 16 (rows w3X a0.parts)],.agg [.int .i64 a1.kind,.str a1.name,.sl false 1 16 (rows w3X a1.words),.sl false 4 72 (rows w3T.cells a1.subs)]] (.tup [.sl false 2 32 (rows w4l.cells r.1),.agg [.int .i64 r.2.code,.int .i64 r.2.index]]):=by
 intro st
 unfold x5b at h
 have fx:=trivial
 refine fb 30 [.tmp 4,.cell 5 31] [0,1,2,3,4,5,6,7,8,9,10,15,21] Tryz.func7 fun hsc=>?_
 refine cl h (x1i n _) fun v1 h=>?_
 refine cd h (fun hc h=>?_) fun hc h=>?_
 ·refine rs ?_
  refine dw [] 0 ?_
  refine rr ?_
  exact fo (.tup [.sl false 2 32 (rows w4l.cells []),.agg [.int .i64 v1.code,.int .i64 v1.index]]) (.tup _ _ (.cons _ _ _ _ (.w4g _ _ _ (by decide)) (.cons _ _ _ _ .s .nil)) rfl) h hsc
 ·refine cl h (x0w n _) fun v2 h=>?_
  refine cd h (fun hc h=>?_) fun hc h=>?_
  ·refine rs ?_
   refine dw [] 0 ?_
   refine rr ?_
   exact fo (.tup [.sl false 2 32 (rows w4l.cells []),.agg [.int .i64 v2.code,.int .i64 v2.index]]) (.tup _ _ (.cons _ _ _ _ (.w4g _ _ _ (by decide)) (.cons _ _ _ _ .s .nil)) rfl) h hsc
  ·refine r0 ?_
   refine r0 ?_
   refine r0 ?_
   refine r0 ?_
   refine r0 ?_
   (repeat apply sq_)
   refine w9I 2 32 ?_
   try simp only[List.append_assoc,List.cons_append,List.nil_append]
   refine w5A (F:=[(3,.ptr (st.length+1) 0 0 0),(5,.ptr (st.length+2) 0 0 0),(8,.ptr (st.length+5) 0 0 0),(10,.ptr (st.length+7) 0 0 0)]) (T:=st++[some (.arr 0 7 0 [[.int .i64 a0.form.kind,.str a0.form.name,.sl false 1 16 (rows w3X a0.form.words),.sl false 4 72 (rows w3T.cells a0.form.subs),.sl false 1 16 (rows w3X a0.words),.sl false 1 16 (rows w3X a0.w4a),.sl false 1 16 (rows w3X a0.parts)]]),some (.arr 0 4 0 [[.int .i64 a1.kind,.str a1.name,.sl false 1 16 (rows w3X a1.words),.sl false 4 72 (rows w3T.cells a1.subs)]]),some (.arr 0 2 0 [[.int .i64 0,.int .i64 0]]),some (.arr 0 2 0 [[.int .i64 v1.code,.int .i64 v1.index]]),some (.arr 0 2 0 [[.int .i64 v2.code,.int .i64 v2.index]]),some (.arr 0 1 0 [[.ref false (st.length+8) 0 0 0]]),some (.arr 0 1 0 [[.int .i64 0]]),some (.arr 0 1 0 [[.fn 28 [] [.ptr (st.length+6) 0 0 0,.ptr st.length 0 0 0,.ptr (st.length+5) 0 0 0,.ptr (st.length+7) 0 0 0]]]),some (.arr 0 2 32 (rows w4l.cells []))]) (y1B hsc (.lv (.lv (.lv (.lv (.lv (.live _ _ _ _ (.arr _ _ _ _ _ (.cons _ _ _ _ (.cons _ _ _ _ (.nref _ _ _ _ _ _ (x6a.trans rfl)) .nil) (.same _))) (.lv (.lv (.lv (.nil _)))))))))) (by simp) ⟨.s,.s,.s,.s,trivial⟩ (by simp)) ?_
   refine rs ?_
   refine dwl [] 0 3 ?_
   obtain⟨v3,hv3,h⟩:=w7w h
   refine w7Z (x3N n _ _ hv3) ?_
   try simp only[go_sem,fx]
   obtain⟨v4,hv4,h⟩:=w7w h
   try simp only[go_sem,fx]
   refine(x8c n _ _ _ _ _ _ _ _ _ _ _ hv4 _ _ _ _ _ _ 0 (by simp) (x5S.trans rfl) (x3w.trans rfl) (x5S.trans rfl) (x5S.trans rfl) (x5S.trans rfl)).mono ?_
   rintro d1 st1 ⟨g5,rfl,rfl⟩
   try simp only[go_sem,fx]
   refine rr ?_
   exact fo (.tup [.sl false 2 32 (rows w4l.cells v4.2),.agg [.int .i64 0,.int .i64 0]]) (.tup _ _ (.cons _ _ _ _ (.ref _ _ _ _ _ _ _ _ _ (x6a.trans rfl) y4B (by decide) (x4L _) (by simp only[go_sem])) (.cons _ _ _ _ .s .nil)) rfl) h hsc
theorem x3P(n:Nat)(a0:(List Bs))(a1:(List Bs))(r:Bool)(h:w6i n a0 a1=some r):Pure Tryz.prog gl 48 [.sl false 1 16 (rows w3X a0),.sl false 1 16 (rows w3X a1)] (.bool r):=by
 intro st
 unfold w6i at h
 have fx:=trivial
 refine fb 26 [.tmp 4] [0,1,4,5,10,14,25] Tryz.func48 fun hsc=>?_
 refine cd h (fun hc h=>?_) fun hc h=>?_
 ·exact rt
 ·refine rn ?_
  refine w4m (body:=w5y a0 a1) (kk:=w8H) (n:=n) (s0:=0)
   (fun(gs0:Unit) (s0:Int)=>[(0,.sl false 1 16 (rows w3X a0)),(1,.sl false 1 16 (rows w3X a1)),(5,.int .i64 s0)])
   (fun(gs0:Unit) (s0:Int)=>st)
   (fun(gt0:Unit) (t0:Unit)=>[])
   (fun(gt0:Unit) (t0:Unit)=>st)
   () h (x4b hsc)
   (fun gs0 s0 b0 h hx0=>?_) (fun gt0 t0 fr1 st1 h hb=>?_)
  ·unfold w5y at h
   refine cd h (fun hc h=>?_) fun hc h=>?_
   ·refine rn ?_
    obtain⟨fx,h⟩:=ck fx h
    obtain⟨fx,h⟩:=ck fx h
    refine dw [] 0 ?_
    refine cd h (fun hc h=>?_) fun hc h=>?_
    ·refine ra ?_
     cases h
     refine w9J ?_;have h:=congrArg some (hx0 _ rfl)
     exact rt
    ·refine rn ?_
     cases h
     exact w4s () (x4b hsc)
   ·refine rn ?_
    cases h
    exact w4H () (x4b hsc)
  ·try simp only[go_sem,fx]
   unfold w8H at h
   refine w5A hb ?_
   exact rt
theorem w6P:∀(n:Nat) (a0:w3T) (a1:w3T) (r:Bool) (h:w4t n a0 a1=some r),Pure Tryz.prog gl 20 [.agg [.int .i64 a0.kind,.str a0.name,.sl false 1 16 (rows w3X a0.words),.sl false 4 72 (rows w3T.cells a0.subs)],.agg [.int .i64 a1.kind,.str a1.name,.sl false 1 16 (rows w3X a1.words),.sl false 4 72 (rows w3T.cells a1.subs)]] (.bool r):=by
 intro n
 induction n with
 |zero=>intro a0 a1 r h;cases h
 |succ n ih=>
  intro a0 a1 r h st
  unfold w4t at h
  have fx:=trivial
  refine fb 54 [.tmp 4] [0,1,2,3,4,5,12,13,14,15,16,19,20,21,22,23,24,27,28,29,30,31,32,33,34,39,53] Tryz.func20 fun hsc=>?_
  refine rn ?_
  obtain⟨v1,hv1,h⟩:=w7w h
  refine x0C (fun hG=>(x3P n _ _ _ (x8s hv1 (by simpa using hG)))) ?_
  refine cd h (fun hc h=>?_) fun hc h=>?_
  ·exact rt
  ·refine rn ?_
   refine w4m (body:=w5H (w4t n) a0 a1) (kk:=w8U) (n:=n) (s0:=0)
    (fun(gs0:Unit) (s0:Int)=>[(2,.ptr st.length 0 0 0),(3,.ptr (st.length+1) 0 0 0),(5,.int .i64 s0)])
    (fun(gs0:Unit) (s0:Int)=>st++[some (.arr 0 4 0 [[.int .i64 a0.kind,.str a0.name,.sl false 1 16 (rows w3X a0.words),.sl false 4 72 (rows w3T.cells a0.subs)]]),some (.arr 0 4 0 [[.int .i64 a1.kind,.str a1.name,.sl false 1 16 (rows w3X a1.words),.sl false 4 72 (rows w3T.cells a1.subs)]])])
    (fun(gt0:Unit) (t0:Unit)=>[])
    (fun(gt0:Unit) (t0:Unit)=>st)
    () h (bm hsc)
    (fun gs0 s0 b0 h hx0=>?_) (fun gt0 t0 fr1 st1 h hb=>?_)
   ·unfold w5H at h
    refine cd h (fun hc h=>?_) fun hc h=>?_
    ·refine rn ?_
     obtain⟨fx,h⟩:=ck fx h
     obtain⟨fx,h⟩:=ck fx h
     refine dw [] 0 ?_
     obtain⟨v8,hv8,h⟩:=w7w h
     refine w7Z (ih _ _ _ hv8) ?_
     try simp only[go_sem,fx]
     refine cd h (fun hc h=>?_) fun hc h=>?_
     ·refine ra ?_
      cases h
      refine w9J ?_;have h:=congrArg some (hx0 _ rfl)
      exact rt
     ·refine rn ?_
      cases h
      exact w4s () (bm hsc)
    ·refine rn ?_
     cases h
     exact w4H () (bm0 hsc)
   ·try simp only[go_sem,fx]
    unfold w8U at h
    refine w5A hb ?_
    exact rt
end Go.Proofs.YtdjnbjnlnjhllaaGreatDoor
