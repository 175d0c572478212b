import Derived.Test.YtfacbpehlibilaaGreatDoorTAWalk5
set_option linter.unusedVariables false
set_option linter.unusedSimpArgs false
set_option maxHeartbeats 2000000
set_option maxRecDepth 100000
namespace Go.Proofs.YtfacbpehlibilaaGreatDoor
open Go Go.Am
theorem d8X(n:Nat)(a0:Wu)(a1:Lr)(r:(List Ws)×Bool)(h:d2Q n a0 a1=some r):Pure Tryz.prog gl 89 [.agg [.int .i64 a0.form.kind,.str a0.form.name,.sl false 1 16 (rows Wt a0.form.words),.sl false 4 72 (rows Lr.cells a0.form.subs),.sl false 1 16 (rows Wt a0.words),.sl false 1 16 (rows Wt a0.WO),.sl false 1 16 (rows Wt a0.parts)],.agg [.int .i64 a1.kind,.str a1.name,.sl false 1 16 (rows Wt a1.words),.sl false 4 72 (rows Lr.cells a1.subs)]] (.tup [.sl false 6 104 (rows Ws.cells r.1),.bool r.2]):=by
 intro st
 unfold d2Q at h
 have fx:=trivial
 refine fb 83 [.tmp 4,.tmp 5] [0,1,2,3,4,5,6,7,8,9,11,13,14,24,27,28,29,30,47,48,49,50,61,62,63,64,65,72] Tryz.func89 fun hsc=>?_
 refine cl h (d7O n _) fun v1 h=>?_
 refine rn ?_
 obtain⟨v2,hv2,h⟩:=ZA h
 refine(d8w n _ _ _ _ _ hv2 _ _ (by simp) (d4H.trans rfl)).mono ?_
 rintro d1 st1 ⟨rfl,rfl⟩
 refine cd h (fun hc h=>?_) fun hc h=>?_
 ·refine rr ?_
  exact fo (.tup [.sl false 6 104 (rows Ws.cells []),.bool false]) (.tup _ _ (.cons _ _ _ _ (.WB _ _ _ (by decide)) (.cons _ _ _ _ .s .nil)) rfl) h hsc
 ·refine cl h (XO n _) fun v3 h=>?_
  try simp only[go_sem,fx]
  (repeat apply sq_)
  refine d0f 1 16 ?_
  try simp only[List.append_assoc,List.cons_append,List.nil_append]
  refine Zk (F:=[(6,.mp (st.length+2)),(7,.ptr (st.length+3) 0 0 0),(8,.WB),(9,.ref false (st.length+4) 0 0 0),(27,.sl false 1 16 (rows Wt v3)),(28,.int .i64 (↑v3.length:Int)),(29,.int .i64 0)]) (T:=st++[some (.arr 0 7 0 [[.int .i64 a0.form.kind,.str a0.form.name,.sl false 1 16 (rows Wt a0.form.words),.sl false 4 72 (rows Lr.cells a0.form.subs),.sl false 1 16 (rows Wt a0.words),.sl false 1 16 (rows Wt a0.WO),.sl false 1 16 (rows Wt a0.parts)]]),some (.arr 0 4 0 [[.int .i64 a1.kind,.str a1.name,.sl false 1 16 (rows Wt a1.words),.sl false 4 72 (rows Lr.cells a1.subs)]]),some (.mps true (mrw Ws.cells v2.2)),some (.arr 0 7 0 [[.int .i64 v1.form.kind,.str v1.form.name,.sl false 1 16 (rows Wt v1.form.words),.sl false 4 72 (rows Lr.cells v1.form.subs),.sl false 1 16 (rows Wt v1.words),.sl false 1 16 (rows Wt v1.WO),.sl false 1 16 (rows Wt v1.parts)]]),some (.arr 0 1 16 (rows Wt []))]) (i8C hsc (.lv (.lv (.lv (.lv (.lv (.nil _)))))) (by simp) ⟨.s,.s,.s,.nref _ _ _ _ _ _ (i2t.trans rfl),.s,.s,.s,trivial⟩ (by simp)) ?_
  refine aln 27 fun hl0=>?_
  refine rng (body:=d2l v3 v2) (kk:=d2m n v1 v2) (n:=v3.length) (s0:=[])
   (fun(gs0:Nat) (k0:Nat) (s0:(List Bs))=>[(6,.mp (st.length+2)),(7,.ptr (st.length+3) 0 0 0),(8,.WB),(9,.ref false (st.length+4) gs0 0 s0.length),(27,.sl false 1 16 (rows Wt v3)),(28,.int .i64 (↑v3.length:Int)),(29,.int .i64 (↑k0:Int))])
   (fun(gs0:Nat) (k0:Nat) (s0:(List Bs))=>st++[none,none,some (.mps true (mrw Ws.cells v2.2)),some (.arr 0 7 0 [[.int .i64 v1.form.kind,.str v1.form.name,.sl false 1 16 (rows Wt v1.form.words),.sl false 4 72 (rows Lr.cells v1.form.subs),.sl false 1 16 (rows Wt v1.words),.sl false 1 16 (rows Wt v1.WO),.sl false 1 16 (rows Wt v1.parts)]]),some (.arr gs0 1 16 (rows Wt s0))])
   (fun(gt0:Nat) (t0:(List Bs))=>[(6,.mp (st.length+2)),(7,.ptr (st.length+3) 0 0 0),(8,.WB),(9,.ref false (st.length+4) gt0 0 t0.length)])
   (fun(gt0:Nat) (t0:(List Bs))=>st++[none,none,some (.mps true (mrw Ws.cells v2.2)),some (.arr 0 7 0 [[.int .i64 v1.form.kind,.str v1.form.name,.sl false 1 16 (rows Wt v1.form.words),.sl false 4 72 (rows Lr.cells v1.form.subs),.sl false 1 16 (rows Wt v1.words),.sl false 1 16 (rows Wt v1.WO),.sl false 1 16 (rows Wt v1.parts)]]),some (.arr gt0 1 16 (rows Wt t0))])
   0 fx hl0 h (bm hsc)
   (fun gs0 k0 s0 b0 fx h hx0=>?_) (fun gs0 s0=>?_) (fun gt0 t0 fr1 st1 h hb=>?_)
  ·unfold d2l at h
   refine ct ?_
   refine r0 ?_
   refine r0 ?_
   refine r0 ?_
   obtain⟨c11,p8C,h⟩:=d4o h
   have fy:=(show rows Wt s0++[[.str (((assoc (get v3 k0) v2.2).getD default).text)]]=rows Wt c11 from by rw[p8C];first|exact Xi (E:=Wt) s0 [((assoc (get v3 k0) v2.2).getD default).text]|simp only[go_sem,rows,List.map_append,List.map_cons,List.map_nil])
   have fy:=fa fy (show s0.length+1=c11.length from by rw[p8C];simp)
   obtain⟨fx,h⟩:=ck fx h
   refine r1 ?_
   refine rn ?_
   cases h
   exact d2U (gs0+1) (bm hsc)
  ·refine cf ?_
   refine d2V ?_;simp only[go_sem,fx]
   exact⟨gs0,(bm hsc)⟩
  ·try simp only[go_sem,fx]
   unfold d2m at h
   refine Zk hb ?_
   refine rs ?_
   refine dw [] 1 ?_
   obtain⟨v16,hv16,h⟩:=ZA h
   refine d1v (d3v _ _ hv16) ?_
   try simp only[go_sem,fx]
   obtain⟨v17,hv17,h⟩:=ZA h
   refine d1v (XO n _ _ hv17) ?_
   try simp only[go_sem,fx]
   obtain⟨v19,hv19,h⟩:=ZA h
   refine d1v (i1H _ _ hv19) ?_
   try simp only[go_sem,fx]
   (repeat apply sq_)
   refine d0f 6 104 ?_
   try simp only[List.append_assoc,List.cons_append,List.nil_append]
   refine Zk (F:=[(6,.mp (st.length+2)),(7,.ptr (st.length+3) 0 0 0),(8,.ref false (st.length+6) 0 0 0),(9,.ref false (st.length+4) gt0 0 t0.length),(47,.sl false 1 16 (rows Wt v19)),(48,.int .i64 (↑v19.length:Int)),(49,.int .i64 0)]) (T:=st++[none,none,some (.mps true (mrw Ws.cells v2.2)),some (.arr 0 7 0 [[.int .i64 v1.form.kind,.str v1.form.name,.sl false 1 16 (rows Wt v1.form.words),.sl false 4 72 (rows Lr.cells v1.form.subs),.sl false 1 16 (rows Wt v1.words),.sl false 1 16 (rows Wt v1.WO),.sl false 1 16 (rows Wt v1.parts)]]),some (.arr gt0 1 16 (rows Wt t0)),none,some (.arr 0 6 104 (rows Ws.cells []))]) (i8C hsc (.dead _ _ _ (.dead _ _ _ (.lv (.lv (.lv (.dead _ _ _ (.lv (.nil _)))))))) (by simp) ⟨.s,.s,.nref _ _ _ _ _ _ (i2t.trans rfl),.s,.s,.s,.s,trivial⟩ (by simp)) ?_
   refine aln 47 fun hl1=>?_
   refine rng (body:=d2n n v1 v19 v2 t0) (kk:=d2o) (n:=v19.length) (s0:=[])
    (fun(gs1:Nat) (k1:Nat) (s1:(List Ws))=>[(6,.mp (st.length+2)),(7,.ptr (st.length+3) 0 0 0),(8,.ref false (st.length+6) gs1 0 s1.length),(9,.ref false (st.length+4) gt0 0 t0.length),(47,.sl false 1 16 (rows Wt v19)),(48,.int .i64 (↑v19.length:Int)),(49,.int .i64 (↑k1:Int))])
    (fun(gs1:Nat) (k1:Nat) (s1:(List Ws))=>st++[none,none,some (.mps true (mrw Ws.cells v2.2)),some (.arr 0 7 0 [[.int .i64 v1.form.kind,.str v1.form.name,.sl false 1 16 (rows Wt v1.form.words),.sl false 4 72 (rows Lr.cells v1.form.subs),.sl false 1 16 (rows Wt v1.words),.sl false 1 16 (rows Wt v1.WO),.sl false 1 16 (rows Wt v1.parts)]]),some (.arr gt0 1 16 (rows Wt t0)),none,some (.arr gs1 6 104 (rows Ws.cells s1))])
    (fun(gt1:Nat) (t1:(List Ws))=>[(8,.ref false (st.length+6) gt1 0 t1.length)])
    (fun(gt1:Nat) (t1:(List Ws))=>st++[none,none,none,none,none,none,some (.arr gt1 6 104 (rows Ws.cells t1))])
    0 fx hl1 h (bm hsc)
    (fun gs1 k1 s1 b1 fx h hx1=>?_) (fun gs1 s1=>?_) (fun gt1 t1 fr1 st1 h hb=>?_)
   ·unfold d2n at h
    refine ct ?_
    refine cl h (Wx _ _) fun v38 h=>?_
    refine rn ?_
    obtain⟨v39,hv39,h⟩:=ZA h
    refine p7y (fun hG=>(d3i _ _ _ (i5t hv39 (by simpa using hG)) _ _ gt0 (by simp) (d4H.trans rfl))) (fun hF=>by obtain rfl:=r2e hv39 (by simpa using hF);simp only[go_sem,fx]) ?_
    refine cd h (fun hc h=>?_) fun hc h=>?_
    ·refine ra ?_
     cases h
     refine XY ?_;have h:=congrArg some (hx1 _ rfl)
     refine rr ?_
     exact fo (.tup [.sl false 6 104 (rows Ws.cells []),.bool false]) (.tup _ _ (.cons _ _ _ _ (.WB _ _ _ (by decide)) (.cons _ _ _ _ .s .nil)) rfl) h hsc
    ·obtain⟨fx,h⟩:=ck fx h
     refine cl h (Wx _ _) fun v42 h=>?_
     refine cd h (fun hc h=>?_) fun hc h=>?_
     ·refine cl h (i0P n _) fun v43 h=>?_
      try simp only[go_sem,fx]
      obtain⟨c45,r1y,h⟩:=d4o h
      have fy:=(show rows Ws.cells s1++[[.str ((get v19 k1).drop 1),.str (((assoc (get v19 k1) v2.2).getD default).text),.int .i64 v43.kind,.str v43.name,.sl false 1 16 (rows Wt v43.words),.sl false 4 72 (rows Lr.cells v43.subs)]]=rows Ws.cells c45 from by rw[r1y];first|exact Xi (E:=Ws.cells) s1 [(Ws.mk ((get v19 k1).drop 1) (((assoc (get v19 k1) v2.2).getD default).text) v43)]|simp only[go_sem,rows,List.map_append,List.map_cons,List.map_nil])
      have fy:=fa fy (show s1.length+1=c45.length from by rw[r1y];simp)
      obtain⟨fx,h⟩:=ck fx h
      refine r1 ?_
      refine rn ?_
      cases h
      exact d2U (gs1+1) (bm hsc)
     ·refine r0 ?_
      obtain⟨c51,r1z,h⟩:=d4o h
      have fy:=(show rows Ws.cells s1++[[.str ((get v19 k1).drop 1),.str (((assoc (get v19 k1) v2.2).getD default).text),.int .i64 (((assoc (get v19 k1) v2.2).getD default).form.kind),.str (((assoc (get v19 k1) v2.2).getD default).form.name),.sl false 1 16 (rows Wt (((assoc (get v19 k1) v2.2).getD default).form.words)),.sl false 4 72 (rows Lr.cells (((assoc (get v19 k1) v2.2).getD default).form.subs))]]=rows Ws.cells c51 from by rw[r1z];first|exact Xi (E:=Ws.cells) s1 [(Ws.mk ((get v19 k1).drop 1) (((assoc (get v19 k1) v2.2).getD default).text) (((assoc (get v19 k1) v2.2).getD default).form))]|simp only[go_sem,rows,List.map_append,List.map_cons,List.map_nil])
      have fy:=fa fy (show s1.length+1=c51.length from by rw[r1z];simp)
      obtain⟨fx,h⟩:=ck fx h
      refine r1 ?_
      refine rn ?_
      cases h
      exact d2U (gs1+1) (bm hsc)
   ·refine cf ?_
    refine d2V ?_;simp only[go_sem,fx]
    exact⟨gs1,(bm hsc)⟩
   ·try simp only[go_sem,fx]
    unfold d2o at h
    refine Zk hb ?_
    refine rr ?_
    exact fo (.tup [.sl false 6 104 (rows Ws.cells t1),.bool true]) (.tup _ _ (.cons _ _ _ _ (.ref _ _ _ _ _ _ _ _ _ (i2t.trans rfl) p2p (by decide) (d5x _) (by simp only[go_sem])) (.cons _ _ _ _ .s .nil)) rfl) h hsc
theorem d2T(a0:(List Ws))(a1:Bs)(r:Bs)(h:Zw a0 a1=some r):Pure Tryz.prog gl 112 [.sl false 6 104 (rows Ws.cells a0),.str a1] (.str r):=by
 intro st
 unfold Zw at h
 have fx:=trivial
 refine fb 21 [.tmp 4] [0,1,4,6,7,8,9,10,16] Tryz.func112 fun hsc=>?_
 refine aln 7 fun hl0=>?_
 refine rng (body:=d1k a0 a1) (kk:=d1l a1) (n:=a0.length) (s0:=())
  (fun(gs0:Unit) (k0:Nat) (s0:Unit)=>[(1,.str a1),(7,.sl false 6 104 (rows Ws.cells a0)),(8,.int .i64 (↑a0.length:Int)),(9,.int .i64 (↑k0:Int))])
  (fun(gs0:Unit) (k0:Nat) (s0:Unit)=>st)
  (fun(gt0:Unit) (t0:Unit)=>[(1,.str a1)])
  (fun(gt0:Unit) (t0:Unit)=>st)
  () fx hl0 h (d8H hsc)
  (fun gs0 k0 s0 b0 fx h hx0=>?_) (fun gs0 s0=>?_) (fun gt0 t0 fr1 st1 h hb=>?_)
 ·unfold d1k at h
  refine ct ?_
  refine cd h (fun hc h=>?_) fun hc h=>?_
  ·refine ra ?_
   cases h
   refine XY ?_;have h:=congrArg some (hx0 _ rfl)
   exact rt
  ·refine rn ?_
   cases h
   exact d2U () (bm0 hsc)
 ·refine cf ?_
  refine d2V ?_;simp only[go_sem,fx]
  exact⟨(),(d8H hsc)⟩
 ·try simp only[go_sem,fx]
  unfold d1l at h
  refine Zk hb ?_
  exact rt
theorem d8x:∀(n:Nat) (a0:Lr) (a1:Bs) (m1:(List (Bs×Bs))) (i3e:Int) (i3f:Bs) (i3g:(List Bs)) (i3h:(List Lr)) (i3i:(List Bs)) (i3j:(List Bs)) (i3k:(List Bs)) (r:(List (Bs×Bs))) (h:Yj n a0 a1 m1 i3e i3f i3g i3h i3i i3j i3k=some r),∀(st:St) (o0 o1 o2 o3:Nat) (hnd: [o0,o1,o2,o3].Nodup) (XZ:Am.look st o0=some (.arr 0 1 0 [[.mp o1]])) (ZG:Am.look st o1=some (.mps false (mrw Wt m1))) (d1V:Am.look st o2=some (.arr 0 7 0 [[.int .i64 i3e,.str i3f,.sl false 1 16 (rows Wt i3g),.sl false 4 72 (rows Lr.cells i3h),.sl false 1 16 (rows Wt i3i),.sl false 1 16 (rows Wt i3j),.sl false 1 16 (rows Wt i3k)]])) (d4b:Am.look st o3=some (.arr 0 1 0 [[.fn 143 [] [.ptr o0 0 0 0,.ptr o2 0 0 0,.ptr o3 0 0 0]]])),Am.Spec Tryz.prog gl 143 [.agg [.int .i64 a0.kind,.str a0.name,.sl false 1 16 (rows Wt a0.words),.sl false 4 72 (rows Lr.cells a0.subs)],.str a1,.ptr o0 0 0 0,.ptr o2 0 0 0,.ptr o3 0 0 0] st (fun d st'=>d= .tup []∧st'=puts st [(o0,(.arr 0 1 0 [[.mp o1]])),(o1,(.mps false (mrw Wt r))),(o2,(.arr 0 7 0 [[.int .i64 i3e,.str i3f,.sl false 1 16 (rows Wt i3g),.sl false 4 72 (rows Lr.cells i3h),.sl false 1 16 (rows Wt i3i),.sl false 1 16 (rows Wt i3j),.sl false 1 16 (rows Wt i3k)]])),(o3,(.arr 0 1 0 [[.fn 143 [] [.ptr o0 0 0 0,.ptr o2 0 0 0,.ptr o3 0 0 0]]]))]):=by
 intro n
 induction n with
 |zero=>intro a0 a1 m1 i3e i3f i3g i3h i3i i3j i3k r h;cases h
 |succ n ih=>
  intro a0 a1 m1 i3e i3f i3g i3h i3i i3j i3k r h st o0 o1 o2 o3 hnd XZ ZG d1V d4b
  unfold Yj at h
  have ho0:=WA XZ
  have ho1:=WA ZG
  have ho2:=WA d1V
  have ho3:=WA d4b
  have fx:=fa (fa (fa (fa (idf ho0) (idf ho1)) (idf ho2)) (idf ho3)) (nd4 hnd)
  refine fb 45 [] [0,1,2,3,4,5,8,9,10,21,22,23,24,30,31,32,33] Tryz.func143 fun hsc=>?_
  refine ZJ (s':=(WE st [(o0,(.arr 0 1 0 [[.mp o1]])),(o1,(.mps false (mrw Wt m1))),(o2,(.arr 0 7 0 [[.int .i64 i3e,.str i3f,.sl false 1 16 (rows Wt i3g),.sl false 4 72 (rows Lr.cells i3h),.sl false 1 16 (rows Wt i3i),.sl false 1 16 (rows Wt i3j),.sl false 1 16 (rows Wt i3k)]])),(o3,(.arr 0 1 0 [[.fn 143 [] [.ptr o0 0 0 0,.ptr o2 0 0 0,.ptr o3 0 0 0]]]))])) (WJ (by simp[XZ,ZG,d1V,d4b])) ?_
  refine rn ?_
  obtain⟨v1,hv1,h⟩:=ZA h
  refine d2H (fun hG=>(YT _ _ _ (i5t hv1 (by simpa using hG)))) ?_
  refine rn ?_
  refine d2X (Zp (Yj n) a1 a0 i3e i3f i3g i3h i3i i3j i3k) r (fun(gj0:Unit) (j0:(List (Bs×Bs)))=>[(1,.str a1),(4,.ptr o3 0 0 0),(5,.ptr st.length 0 0 0)]) (fun(gj0:Unit) (j0:(List (Bs×Bs)))=>(WE st [(o0,(.arr 0 1 0 [[.mp o1]])),(o1,(.mps false (mrw Wt j0))),(o2,(.arr 0 7 0 [[.int .i64 i3e,.str i3f,.sl false 1 16 (rows Wt i3g),.sl false 4 72 (rows Lr.cells i3h),.sl false 1 16 (rows Wt i3i),.sl false 1 16 (rows Wt i3j),.sl false 1 16 (rows Wt i3k)]])),(o3,(.arr 0 1 0 [[.fn 143 [] [.ptr o0 0 0 0,.ptr o2 0 0 0,.ptr o3 0 0 0]]]))])++[some (.arr 0 4 0 [[.int .i64 a0.kind,.str a0.name,.sl false 1 16 (rows Wt a0.words),.sl false 4 72 (rows Lr.cells a0.subs)]])]) (fun gj0 j0 fr1 st1 h hb=>?_) (fun hj0=>?_)
  ·try simp only[go_sem,fx]
   unfold Zp at h
   refine Zk hb ?_
   refine aln 30 fun hl1=>?_
   refine rng (body:=d1H (Yj n) a1 a0 i3e i3f i3g i3h i3i i3j i3k) (kk:=d1I) (n:=a0.subs.length) (s0:=j0)
    (fun(gs1:Unit) (k1:Nat) (s1:(List (Bs×Bs)))=>[(1,.str a1),(4,.ptr o3 0 0 0),(30,.sl false 4 72 (rows Lr.cells a0.subs)),(31,.int .i64 (↑a0.subs.length:Int)),(32,.int .i64 (↑k1:Int))])
    (fun(gs1:Unit) (k1:Nat) (s1:(List (Bs×Bs)))=>(WE st [(o0,(.arr 0 1 0 [[.mp o1]])),(o1,(.mps false (mrw Wt s1))),(o2,(.arr 0 7 0 [[.int .i64 i3e,.str i3f,.sl false 1 16 (rows Wt i3g),.sl false 4 72 (rows Lr.cells i3h),.sl false 1 16 (rows Wt i3i),.sl false 1 16 (rows Wt i3j),.sl false 1 16 (rows Wt i3k)]])),(o3,(.arr 0 1 0 [[.fn 143 [] [.ptr o0 0 0 0,.ptr o2 0 0 0,.ptr o3 0 0 0]]]))]))
    (fun(gt1:Unit) (t1:(List (Bs×Bs)))=>[])
    (fun(gt1:Unit) (t1:(List (Bs×Bs)))=>(WE st [(o0,(.arr 0 1 0 [[.mp o1]])),(o1,(.mps false (mrw Wt t1))),(o2,(.arr 0 7 0 [[.int .i64 i3e,.str i3f,.sl false 1 16 (rows Wt i3g),.sl false 4 72 (rows Lr.cells i3h),.sl false 1 16 (rows Wt i3i),.sl false 1 16 (rows Wt i3j),.sl false 1 16 (rows Wt i3k)]])),(o3,(.arr 0 1 0 [[.fn 143 [] [.ptr o0 0 0 0,.ptr o2 0 0 0,.ptr o3 0 0 0]]]))]))
    () fx hl1 h (bu0 hsc)
    (fun gs1 k1 s1 b1 fx h hx1=>?_) (fun gs1 s1=>?_) (fun gt1 t1 fr1 st1 h hb=>?_)
   ·unfold d1H at h
    refine ct ?_
    refine rn ?_
    refine dw [6] 0 ?_
    obtain⟨v7,hv7,h⟩:=ZA h
    refine d1v (i0M _ _ hv7) ?_
    obtain⟨fx,h⟩:=ck fx h
    try simp only[go_sem,fx]
    obtain⟨v9,hv9,h⟩:=ZA h
    refine d2Y [o0,o1,o2,o3] (fun st2 h2=>(ih _ _ _ _ _ _ _ _ _ _ _ hv9 st2 _ _ _ _ hnd ((h2 _ (by simp)).trans (by simp only[go_sem,fx])) ((h2 _ (by simp)).trans (by simp only[go_sem,fx])) ((h2 _ (by simp)).trans (by simp only[go_sem,fx])) ((h2 _ (by simp)).trans (by simp only[go_sem,fx])))) (by simp) (by simp only[List.mem_cons,List.not_mem_nil,or_false,forall_eq_or_imp,forall_eq];exact⟨⟨by first|omega|(simp<;>omega),_,(by simp only[go_sem,fx]<;>rfl),Ob.noConfusion⟩,⟨by first|omega|(simp<;>omega),_,(by simp only[go_sem,fx]<;>rfl),Ob.noConfusion⟩,⟨by first|omega|(simp<;>omega),_,(by simp only[go_sem,fx]<;>rfl),Ob.noConfusion⟩,⟨by first|omega|(simp<;>omega),_,(by simp only[go_sem,fx]<;>rfl),Ob.noConfusion⟩⟩) (by simp) ?_
    try simp only[go_sem,fx]
    try refine⟨by first|omega|(simp<;>omega),?_⟩
    refine rn ?_
    cases h
    exact d2U () (bu0 hsc)
   ·refine cf ?_
    refine d2V ?_;simp only[go_sem,fx]
    exact⟨(),(i9O hsc)⟩
   ·try simp only[go_sem,fx]
    unfold d1I at h
    refine d9k hb ?_
    refine rr ?_
    exact fus (.tup []) (.same _) h hsc
  ·refine cd h (fun hc h=>?_) fun hc h=>?_
   ·obtain⟨c2,hc2,h⟩:=d4o h
    have fy:=(show Wz a0.name [.str a1] (mrw Wt m1)=mrw Wt c2 from by rw[hc2];exact d4E (κ:=Bs) (E:=Wt) a0.name a1 m1)
    refine r1 ?_
    refine hj0 () _ _ _ h ?_;exact(bu hsc)
   ·refine r0 ?_
    refine hj0 () _ _ _ h ?_;exact(bu hsc)
theorem d8Y(n:Nat)(a0:Wu)(r:(List (Bs×Bs)))(h:d2R n a0=some r):∀st:St,Am.Spec Tryz.prog gl 113 [.agg [.int .i64 a0.form.kind,.str a0.form.name,.sl false 1 16 (rows Wt a0.form.words),.sl false 4 72 (rows Lr.cells a0.form.subs),.sl false 1 16 (rows Wt a0.words),.sl false 1 16 (rows Wt a0.WO),.sl false 1 16 (rows Wt a0.parts)]] st (fun d st'=>d= .mp (st.length+1)∧st'=st++[none,some (.mps false (mrw Wt r))]):=by
 intro st
 unfold d2R at h
 have fx:=trivial
 refine fb 12 [.tmp 2] [0,1,2,3,4] Tryz.func113 fun hsc=>?_
 refine rn ?_
 obtain⟨v1,hv1,h⟩:=ZA h
 refine(d8x n _ _ _ _ _ _ _ _ _ _ _ hv1 _ _ _ _ _ (by simp) (d4H.trans rfl) (d4H.trans rfl) (d3q.trans rfl) (d4H.trans rfl)).mono ?_
 rintro d1 st1 ⟨rfl,rfl⟩
 refine rr ?_
 exact fnw [none,some (.mps false (mrw Wt v1))] (.mp (st.length+1)) (.same _) h hsc
theorem d6a(a0:(List Wr))(r:Int×Int×Bool)(h:d2z a0=some r):Pure Tryz.prog gl 91 [.sl false 6 88 (rows Wr.cells a0)] (.tup [.int .i64 r.1,.int .i64 r.2.1,.bool r.2.2]):=by
 intro st
 unfold d2z at h
 have fx:=trivial
 refine fb 33 [.tmp 2,.tmp 3,.tmp 4] [0,2,3,4,5,6,8,9,10,11,12,30,31] Tryz.func91 fun hsc=>?_
 refine aln 9 fun hl0=>?_
 refine rng (body:=d2O a0) (kk:=d2P) (n:=a0.length) (s0:=(1,0))
  (fun(gs0:Unit) (k0:Nat) (s0:Int×Int)=>[(5,.int .i64 s0.1),(6,.int .i64 s0.2),(9,.sl false 6 88 (rows Wr.cells a0)),(10,.int .i64 (↑a0.length:Int)),(11,.int .i64 (↑k0:Int))])
  (fun(gs0:Unit) (k0:Nat) (s0:Int×Int)=>st)
  (fun(gt0:Unit) (t0:Int×Int)=>[(5,.int .i64 t0.1),(6,.int .i64 t0.2)])
  (fun(gt0:Unit) (t0:Int×Int)=>st)
  () fx hl0 h (d8H hsc)
  (fun gs0 k0 s0 b0 fx h hx0=>?_) (fun gs0 s0=>?_) (fun gt0 t0 fr1 st1 h hb=>?_)
 ·unfold d2O at h
  refine ct ?_
  refine rn ?_
  refine dw [] 0 ?_
  refine rn ?_
  cases h
  exact d2U () (bm0 hsc)
 ·refine cf ?_
  refine d2V ?_;simp only[go_sem,fx]
  exact⟨(),(d8H hsc)⟩
 ·try simp only[go_sem,fx]
  unfold d2P at h
  refine Zk hb ?_
  exact rt
set_option maxHeartbeats 30000000 in
set_option maxRecDepth 100000 in
theorem d7P(WD:(Lr)→(Bs)→((List Wq))→(Int)→((List (Bs×Int)))→((List Wp))→Option (Wr×Bool×Int×(List Wp)))(d1B:∀(a1:Lr) (a2:Bs) (WH:(List Wq)) (Xf:Int) (m1:(List (Bs×Int))) (l2:(List Wp)) (r:Wr×Bool×Int×(List Wp)) (h:WD a1 a2 WH Xf m1 l2=some r),∀(st:St) (o0 o1 o2 q2:Nat) (hnd: [o0,o1,o2].Nodup) (XZ:Am.look st o0=some (.arr 0 4 0 [[.sl false 11 216 (rows Wq.cells WH),.mp o1,.ref false o2 (q2+l2.length) 0 l2.length,.int .i64 Xf]])) (ZG:Am.look st o1=some (.mps false (mrw d1r m1))) (d1V:Am.look st o2=some (.arr (q2+l2.length) 2 16 (rows Wp.cells l2))),Am.Spec Tryz.prog gl 65 [.ptr o0 0 0 0,.agg [.int .i64 a1.kind,.str a1.name,.sl false 1 16 (rows Wt a1.words),.sl false 4 72 (rows Lr.cells a1.subs)],.str a2] st (fun d st'=>d= .tup [.agg [.int .i64 r.1.form.kind,.str r.1.form.name,.sl false 1 16 (rows Wt r.1.form.words),.sl false 4 72 (rows Lr.cells r.1.form.subs),.int .i64 r.1.nodes,.int .i64 r.1.depth],.bool r.2.1]∧st'=puts st [(o0,(.arr 0 4 0 [[.sl false 11 216 (rows Wq.cells WH),.mp o1,.ref false o2 (q2+r.2.2.2.length) 0 r.2.2.2.length,.int .i64 r.2.2.1]])),(o1,(.mps false (mrw d1r m1))),(o2,(.arr (q2+r.2.2.2.length) 2 16 (rows Wp.cells r.2.2.2)))])):∀(n:Nat) (a0:Lr) (a1:(List Bs)) (WH:Int) (Zh:Bs) (Zi:(List Bs)) (Xf:(List Lr)) (YS:(List Bs)) (Zb:(List Bs)) (Zj:(List Bs)) (d1S:Int) (d1T:Bs) (d1U:(List Bs)) (XQ:(List Lr)) (m2:(List (Bs×Wr))) (ZV:(List Ws)) (ZB:Int) (d0s:Int) (d5a:Int) (d6t:(List Wq)) (d8U:Int) (m9:(List (Bs×Int))) (l10:(List Wp)) (d1L:Bs) (m13:(List (Bs×Bs))) (m15:(List (Bs×Bs))) (r:Wr×Bool×Int×(List Wp)×(List (Bs×Wr))) (h:XU WD n a0 a1 WH Zh Zi Xf YS Zb Zj d1S d1T d1U XQ m2 ZV ZB d0s d5a d6t d8U m9 l10 d1L m13 m15=some r),∀(st:St) (o0 o1 o2 o3 o4 o5 o6 o7 o8 o9 o10 o11 o12 o13 o14 o15 o16 o17 q10:Nat) (hnd: [o0,o1,o2,o3,o4,o5,o6,o7,o8,o9,o10,o11,o12,o13,o14,o15,o16,o17].Nodup) (XZ:Am.look st o0=some (.arr 0 11 0 [[.int .i64 WH,.str Zh,.sl false 1 16 (rows Wt Zi),.sl false 4 72 (rows Lr.cells Xf),.sl false 1 16 (rows Wt YS),.sl false 1 16 (rows Wt Zb),.sl false 1 16 (rows Wt Zj),.int .i64 d1S,.str d1T,.sl false 1 16 (rows Wt d1U),.sl false 4 72 (rows Lr.cells XQ)]])) (ZG:Am.look st o1=some (.arr 0 1 0 [[.mp o2]])) (d1V:Am.look st o2=some (.mps true (mrw Wr.cells m2))) (d4b:Am.look st o3=some (.arr 0 1 0 [[.sl false 6 104 (rows Ws.cells ZV)]])) (d7M:Am.look st o4=some (.arr 0 1 0 [[.int .i64 ZB]])) (i3m:Am.look st o5=some (.arr 0 1 0 [[.int .i64 d0s]])) (r0A:Am.look st o6=some (.arr 0 1 0 [[.int .i64 d5a]])) (r0B:Am.look st o7=some (.arr 0 1 0 [[.ptr o8 0 0 0]])) (r0C:Am.look st o8=some (.arr 0 4 0 [[.sl false 11 216 (rows Wq.cells d6t),.mp o9,.ref false o10 (q10+l10.length) 0 l10.length,.int .i64 d8U]])) (r0D:Am.look st o9=some (.mps false (mrw d1r m9))) (p5I:Am.look st o10=some (.arr (q10+l10.length) 2 16 (rows Wp.cells l10))) (p5J:Am.look st o11=some (.arr 0 1 0 [[.str d1L]])) (p5K:Am.look st o12=some (.arr 0 1 0 [[.mp o13]])) (p5L:Am.look st o13=some (.mps false (mrw Wt m13))) (p5M:Am.look st o14=some (.arr 0 1 0 [[.mp o15]])) (p5N:Am.look st o15=some (.mps false (mrw Wt m15))) (p5O:Am.look st o16=some (.arr 0 1 0 [[.fn 112 [] []]])) (p5P:Am.look st o17=some (.arr 0 1 0 [[.fn 114 [] [.ptr o0 0 0 0,.ptr o1 0 0 0,.ptr o3 0 0 0,.ptr o4 0 0 0,.ptr o5 0 0 0,.ptr o6 0 0 0,.ptr o7 0 0 0,.ptr o11 0 0 0,.ptr o12 0 0 0,.ptr o14 0 0 0,.ptr o16 0 0 0,.ptr o17 0 0 0]]])),Am.Spec Tryz.prog gl 114 [.agg [.int .i64 a0.kind,.str a0.name,.sl false 1 16 (rows Wt a0.words),.sl false 4 72 (rows Lr.cells a0.subs)],.sl false 1 16 (rows Wt a1),.ptr o0 0 0 0,.ptr o1 0 0 0,.ptr o3 0 0 0,.ptr o4 0 0 0,.ptr o5 0 0 0,.ptr o6 0 0 0,.ptr o7 0 0 0,.ptr o11 0 0 0,.ptr o12 0 0 0,.ptr o14 0 0 0,.ptr o16 0 0 0,.ptr o17 0 0 0] st (fun d st'=>d= .tup [.agg [.int .i64 r.1.form.kind,.str r.1.form.name,.sl false 1 16 (rows Wt r.1.form.words),.sl false 4 72 (rows Lr.cells r.1.form.subs),.int .i64 r.1.nodes,.int .i64 r.1.depth],.bool r.2.1]∧st'=puts st [(o0,(.arr 0 11 0 [[.int .i64 WH,.str Zh,.sl false 1 16 (rows Wt Zi),.sl false 4 72 (rows Lr.cells Xf),.sl false 1 16 (rows Wt YS),.sl false 1 16 (rows Wt Zb),.sl false 1 16 (rows Wt Zj),.int .i64 d1S,.str d1T,.sl false 1 16 (rows Wt d1U),.sl false 4 72 (rows Lr.cells XQ)]])),(o1,(.arr 0 1 0 [[.mp o2]])),(o2,(.mps true (mrw Wr.cells r.2.2.2.2))),(o3,(.arr 0 1 0 [[.sl false 6 104 (rows Ws.cells ZV)]])),(o4,(.arr 0 1 0 [[.int .i64 ZB]])),(o5,(.arr 0 1 0 [[.int .i64 d0s]])),(o6,(.arr 0 1 0 [[.int .i64 d5a]])),(o7,(.arr 0 1 0 [[.ptr o8 0 0 0]])),(o8,(.arr 0 4 0 [[.sl false 11 216 (rows Wq.cells d6t),.mp o9,.ref false o10 (q10+r.2.2.2.1.length) 0 r.2.2.2.1.length,.int .i64 r.2.2.1]])),(o9,(.mps false (mrw d1r m9))),(o10,(.arr (q10+r.2.2.2.1.length) 2 16 (rows Wp.cells r.2.2.2.1))),(o11,(.arr 0 1 0 [[.str d1L]])),(o12,(.arr 0 1 0 [[.mp o13]])),(o13,(.mps false (mrw Wt m13))),(o14,(.arr 0 1 0 [[.mp o15]])),(o15,(.mps false (mrw Wt m15))),(o16,(.arr 0 1 0 [[.fn 112 [] []]])),(o17,(.arr 0 1 0 [[.fn 114 [] [.ptr o0 0 0 0,.ptr o1 0 0 0,.ptr o3 0 0 0,.ptr o4 0 0 0,.ptr o5 0 0 0,.ptr o6 0 0 0,.ptr o7 0 0 0,.ptr o11 0 0 0,.ptr o12 0 0 0,.ptr o14 0 0 0,.ptr o16 0 0 0,.ptr o17 0 0 0]]]))]):=by
 intro n
 induction n with
 |zero=>intro a0 a1 WH Zh Zi Xf YS Zb Zj d1S d1T d1U XQ m2 ZV ZB d0s d5a d6t d8U m9 l10 d1L m13 m15 r h;cases h
 |succ n ih=>
  intro a0 a1 WH Zh Zi Xf YS Zb Zj d1S d1T d1U XQ m2 ZV ZB d0s d5a d6t d8U m9 l10 d1L m13 m15 r h st o0 o1 o2 o3 o4 o5 o6 o7 o8 o9 o10 o11 o12 o13 o14 o15 o16 o17 q10 hnd XZ ZG d1V d4b d7M i3m r0A r0B r0C r0D p5I p5J p5K p5L p5M p5N p5O p5P
  unfold XU at h
  have ho0:=WA XZ
  have ho1:=WA ZG
  have ho2:=WA d1V
  have ho3:=WA d4b
  have ho4:=WA d7M
  have ho5:=WA i3m
  have ho6:=WA r0A
  have ho7:=WA r0B
  have ho8:=WA r0C
  have ho9:=WA r0D
  have r3F:=WA p5I
  have r3G:=WA p5J
  have r3H:=WA p5K
  have r3I:=WA p5L
  have r3J:=WA p5M
  have r3K:=WA p5N
  have r3L:=WA p5O
  have r3M:=WA p5P
  have fx:=fa (r2i hnd ho0 ho1 ho2 ho3 ho4 ho5 ho6 ho7 ho8 ho9 r3F r3G r3H r3I r3J r3K r3L r3M) (nd3 (p7C hnd))
  refine fb 188 [.cell 16 102,.tmp 17] [0,1,2,3,4,5,6,7,8,9,10,11,12,13,14,16,17,18,19,21,22,24,25,27,28,29,30,34,42,53,54,55,56,63,91,92,93,94,99,119,134,148,149,150,151,162] Tryz.func114 fun hsc=>?_
  refine ZJ (s':=(WE st [(o0,(.arr 0 11 0 [[.int .i64 WH,.str Zh,.sl false 1 16 (rows Wt Zi),.sl false 4 72 (rows Lr.cells Xf),.sl false 1 16 (rows Wt YS),.sl false 1 16 (rows Wt Zb),.sl false 1 16 (rows Wt Zj),.int .i64 d1S,.str d1T,.sl false 1 16 (rows Wt d1U),.sl false 4 72 (rows Lr.cells XQ)]])),(o1,(.arr 0 1 0 [[.mp o2]])),(o2,(.mps true (mrw Wr.cells m2))),(o3,(.arr 0 1 0 [[.sl false 6 104 (rows Ws.cells ZV)]])),(o4,(.arr 0 1 0 [[.int .i64 ZB]])),(o5,(.arr 0 1 0 [[.int .i64 d0s]])),(o6,(.arr 0 1 0 [[.int .i64 d5a]])),(o7,(.arr 0 1 0 [[.ptr o8 0 0 0]])),(o8,(.arr 0 4 0 [[.sl false 11 216 (rows Wq.cells d6t),.mp o9,.ref false o10 (q10+l10.length) 0 l10.length,.int .i64 d8U]])),(o9,(.mps false (mrw d1r m9))),(o10,(.arr (q10+l10.length) 2 16 (rows Wp.cells l10))),(o11,(.arr 0 1 0 [[.str d1L]])),(o12,(.arr 0 1 0 [[.mp o13]])),(o13,(.mps false (mrw Wt m13))),(o14,(.arr 0 1 0 [[.mp o15]])),(o15,(.mps false (mrw Wt m15))),(o16,(.arr 0 1 0 [[.fn 112 [] []]])),(o17,(.arr 0 1 0 [[.fn 114 [] [.ptr o0 0 0 0,.ptr o1 0 0 0,.ptr o3 0 0 0,.ptr o4 0 0 0,.ptr o5 0 0 0,.ptr o6 0 0 0,.ptr o7 0 0 0,.ptr o11 0 0 0,.ptr o12 0 0 0,.ptr o14 0 0 0,.ptr o16 0 0 0,.ptr o17 0 0 0]]]))])) (WJ (by simp[XZ,ZG,d1V,d4b,d7M,i3m,r0A,r0B,r0C,r0D,p5I,p5J,p5K,p5L,p5M,p5N,p5O,p5P])) ?_
  refine cl h (YT _ _) fun v1 h=>?_
  refine cd h (fun hc h=>?_) fun hc h=>?_
  ·refine cd h (fun hc h=>?_) fun hc h=>?_
   ·refine rr ?_
    exact fuo (.tup [.agg [.int .i64 (((assoc a0.name m2).getD default).form.kind),.str (((assoc a0.name m2).getD default).form.name),.sl false 1 16 (rows Wt (((assoc a0.name m2).getD default).form.words)),.sl false 4 72 (rows Lr.cells (((assoc a0.name m2).getD default).form.subs)),.int .i64 (((assoc a0.name m2).getD default).nodes),.int .i64 (((assoc a0.name m2).getD default).depth)],.bool true]) (.same _) h hsc
   ·obtain⟨fx,h⟩:=ck fx h
    refine aln 53 fun hl0=>?_
    refine rng (body:=ZS WD ZV ZB d0s d5a a0 d1L m13 d6t m9) (kk:=ZT a0 m2) (n:=((ZV.drop ((wr .i64 (ZB+d0s)).toNat)).take ((wr .i64 ((wr .i64 (ZB+d0s))+d5a)).toNat-(wr .i64 (ZB+d0s)).toNat)).length) (s0:=(d8U,((assoc a0.name m2).getD default).form.kind,((assoc a0.name m2).getD default).form.name,((assoc a0.name m2).getD default).form.words,((assoc a0.name m2).getD default).form.subs,((assoc a0.name m2).getD default).nodes,((assoc a0.name m2).getD default).depth,l10,(assoc a0.name m2).isSome))
     (fun(gs0:Unit) (k0:Nat) (s0:Int×Int×Bs×(List Bs)×(List Lr)×Int×Int×(List Wp)×Bool)=>[(3,.ptr o1 0 0 0),(8,.ptr o7 0 0 0),(9,.ptr o11 0 0 0),(10,.ptr o12 0 0 0),(14,.ptr st.length 0 0 0),(16,.ptr (st.length+1) 0 0 0),(18,.ptr (st.length+2) 0 0 0),(19,.bool s0.2.2.2.2.2.2.2.2),(53,.sl false 6 104 (rows Ws.cells ((ZV.drop ((wr .i64 (ZB+d0s)).toNat)).take ((wr .i64 ((wr .i64 (ZB+d0s))+d5a)).toNat-(wr .i64 (ZB+d0s)).toNat)))),(54,.int .i64 (↑(((ZV.drop ((wr .i64 (ZB+d0s)).toNat)).take ((wr .i64 ((wr .i64 (ZB+d0s))+d5a)).toNat-(wr .i64 (ZB+d0s)).toNat)).length):Int)),(55,.int .i64 (↑k0:Int))])
     (fun(gs0:Unit) (k0:Nat) (s0:Int×Int×Bs×(List Bs)×(List Lr)×Int×Int×(List Wp)×Bool)=>(WE st [(o0,(.arr 0 11 0 [[.int .i64 WH,.str Zh,.sl false 1 16 (rows Wt Zi),.sl false 4 72 (rows Lr.cells Xf),.sl false 1 16 (rows Wt YS),.sl false 1 16 (rows Wt Zb),.sl false 1 16 (rows Wt Zj),.int .i64 d1S,.str d1T,.sl false 1 16 (rows Wt d1U),.sl false 4 72 (rows Lr.cells XQ)]])),(o1,(.arr 0 1 0 [[.mp o2]])),(o2,(.mps true (mrw Wr.cells m2))),(o3,(.arr 0 1 0 [[.sl false 6 104 (rows Ws.cells ZV)]])),(o4,(.arr 0 1 0 [[.int .i64 ZB]])),(o5,(.arr 0 1 0 [[.int .i64 d0s]])),(o6,(.arr 0 1 0 [[.int .i64 d5a]])),(o7,(.arr 0 1 0 [[.ptr o8 0 0 0]])),(o8,(.arr 0 4 0 [[.sl false 11 216 (rows Wq.cells d6t),.mp o9,.ref false o10 (q10+s0.2.2.2.2.2.2.2.1.length) 0 s0.2.2.2.2.2.2.2.1.length,.int .i64 s0.1]])),(o9,(.mps false (mrw d1r m9))),(o10,(.arr (q10+s0.2.2.2.2.2.2.2.1.length) 2 16 (rows Wp.cells s0.2.2.2.2.2.2.2.1))),(o11,(.arr 0 1 0 [[.str d1L]])),(o12,(.arr 0 1 0 [[.mp o13]])),(o13,(.mps false (mrw Wt m13))),(o14,(.arr 0 1 0 [[.mp o15]])),(o15,(.mps false (mrw Wt m15))),(o16,(.arr 0 1 0 [[.fn 112 [] []]])),(o17,(.arr 0 1 0 [[.fn 114 [] [.ptr o0 0 0 0,.ptr o1 0 0 0,.ptr o3 0 0 0,.ptr o4 0 0 0,.ptr o5 0 0 0,.ptr o6 0 0 0,.ptr o7 0 0 0,.ptr o11 0 0 0,.ptr o12 0 0 0,.ptr o14 0 0 0,.ptr o16 0 0 0,.ptr o17 0 0 0]]]))])++[some (.arr 0 4 0 [[.int .i64 a0.kind,.str a0.name,.sl false 1 16 (rows Wt a0.words),.sl false 4 72 (rows Lr.cells a0.subs)]]),some (.arr 0 6 0 [[.int .i64 0,.str [],.WB,.WB,.int .i64 0,.int .i64 0]]),some (.arr 0 6 0 [[.int .i64 s0.2.1,.str s0.2.2.1,.sl false 1 16 (rows Wt s0.2.2.2.1),.sl false 4 72 (rows Lr.cells s0.2.2.2.2.1),.int .i64 s0.2.2.2.2.2.1,.int .i64 s0.2.2.2.2.2.2.1]])])
     (fun(gt0:Unit) (t0:Int×Int×Bs×(List Bs)×(List Lr)×Int×Int×(List Wp)×Bool)=>[(3,.ptr o1 0 0 0),(14,.ptr st.length 0 0 0),(16,.ptr (st.length+1) 0 0 0),(18,.ptr (st.length+2) 0 0 0),(19,.bool t0.2.2.2.2.2.2.2.2)])
     (fun(gt0:Unit) (t0:Int×Int×Bs×(List Bs)×(List Lr)×Int×Int×(List Wp)×Bool)=>(WE st [(o0,(.arr 0 11 0 [[.int .i64 WH,.str Zh,.sl false 1 16 (rows Wt Zi),.sl false 4 72 (rows Lr.cells Xf),.sl false 1 16 (rows Wt YS),.sl false 1 16 (rows Wt Zb),.sl false 1 16 (rows Wt Zj),.int .i64 d1S,.str d1T,.sl false 1 16 (rows Wt d1U),.sl false 4 72 (rows Lr.cells XQ)]])),(o1,(.arr 0 1 0 [[.mp o2]])),(o2,(.mps true (mrw Wr.cells m2))),(o3,(.arr 0 1 0 [[.sl false 6 104 (rows Ws.cells ZV)]])),(o4,(.arr 0 1 0 [[.int .i64 ZB]])),(o5,(.arr 0 1 0 [[.int .i64 d0s]])),(o6,(.arr 0 1 0 [[.int .i64 d5a]])),(o7,(.arr 0 1 0 [[.ptr o8 0 0 0]])),(o8,(.arr 0 4 0 [[.sl false 11 216 (rows Wq.cells d6t),.mp o9,.ref false o10 (q10+t0.2.2.2.2.2.2.2.1.length) 0 t0.2.2.2.2.2.2.2.1.length,.int .i64 t0.1]])),(o9,(.mps false (mrw d1r m9))),(o10,(.arr (q10+t0.2.2.2.2.2.2.2.1.length) 2 16 (rows Wp.cells t0.2.2.2.2.2.2.2.1))),(o11,(.arr 0 1 0 [[.str d1L]])),(o12,(.arr 0 1 0 [[.mp o13]])),(o13,(.mps false (mrw Wt m13))),(o14,(.arr 0 1 0 [[.mp o15]])),(o15,(.mps false (mrw Wt m15))),(o16,(.arr 0 1 0 [[.fn 112 [] []]])),(o17,(.arr 0 1 0 [[.fn 114 [] [.ptr o0 0 0 0,.ptr o1 0 0 0,.ptr o3 0 0 0,.ptr o4 0 0 0,.ptr o5 0 0 0,.ptr o6 0 0 0,.ptr o7 0 0 0,.ptr o11 0 0 0,.ptr o12 0 0 0,.ptr o14 0 0 0,.ptr o16 0 0 0,.ptr o17 0 0 0]]]))])++[some (.arr 0 4 0 [[.int .i64 a0.kind,.str a0.name,.sl false 1 16 (rows Wt a0.words),.sl false 4 72 (rows Lr.cells a0.subs)]]),some (.arr 0 6 0 [[.int .i64 0,.str [],.WB,.WB,.int .i64 0,.int .i64 0]]),some (.arr 0 6 0 [[.int .i64 t0.2.1,.str t0.2.2.1,.sl false 1 16 (rows Wt t0.2.2.2.1),.sl false 4 72 (rows Lr.cells t0.2.2.2.2.1),.int .i64 t0.2.2.2.2.2.1,.int .i64 t0.2.2.2.2.2.2.1]])])
     () fx hl0 h (bu hsc)
     (fun gs0 k0 s0 b0 fx h hx0=>?_) (fun gs0 s0=>?_) (fun gt0 t0 fr1 st1 h hb=>?_)
    ·unfold ZS at h
     refine ct ?_
     refine cd h (fun hc h=>?_) fun hc h=>?_
     ·obtain⟨fx,h⟩:=ck fx h
      refine rn ?_
      obtain⟨v9,hv9,h⟩:=ZA h
      refine(d1B _ _ _ _ _ _ _ hv9 _ o8 o9 o10 q10 (by simp[fx]<;>omega) (by simp only[go_sem,fx]) (by simp only[go_sem,fx]) (by simp only[go_sem,fx])).mono ?_
      rintro d1 st1 ⟨rfl,rfl⟩
      refine rn ?_
      cases h
      exact d2U () (bu hsc)
     ·refine rn ?_
      cases h
      exact d2U () (bu hsc)
    ·refine cf ?_
     refine d2V ?_;simp only[go_sem,fx]
     exact⟨(),(bu hsc)⟩
    ·try simp only[go_sem,fx]
     unfold ZT at h
     refine Zk hb ?_
     obtain⟨c10,p1F,h⟩:=d4o h
     have fy:=(show Wz a0.name [.int .i64 t0.2.1,.str t0.2.2.1,.sl false 1 16 (rows Wt t0.2.2.2.1),.sl false 4 72 (rows Lr.cells t0.2.2.2.2.1),.int .i64 t0.2.2.2.2.2.1,.int .i64 t0.2.2.2.2.2.2.1] (mrw Wr.cells m2)=mrw Wr.cells c10 from by rw[p1F];exact d4E (κ:=Bs) (E:=Wr.cells) a0.name (Wr.mk (Lr.mk t0.2.1 t0.2.2.1 t0.2.2.2.1 t0.2.2.2.2.1) t0.2.2.2.2.2.1 t0.2.2.2.2.2.2.1) m2)
     refine r1 ?_
     refine rr ?_
     exact fuo (.tup [.agg [.int .i64 t0.2.1,.str t0.2.2.1,.sl false 1 16 (rows Wt t0.2.2.2.1),.sl false 4 72 (rows Lr.cells t0.2.2.2.2.1),.int .i64 t0.2.2.2.2.2.1,.int .i64 t0.2.2.2.2.2.2.1],.bool t0.2.2.2.2.2.2.2.2]) (.same _) h hsc
  ·refine r0 ?_
   refine r0 ?_
   refine r0 ?_
   (repeat apply sq_)
   refine d0f 1 16 ?_
   try simp only[List.append_assoc,List.cons_append,List.nil_append]
   refine Zk (F:=[(1,.sl false 1 16 (rows Wt a1)),(4,.ptr o3 0 0 0),(5,.ptr o4 0 0 0),(6,.ptr o5 0 0 0),(11,.ptr o14 0 0 0),(12,.ptr o16 0 0 0),(13,.ptr o17 0 0 0),(14,.ptr st.length 0 0 0),(16,.ptr (st.length+1) 0 0 0),(22,.ptr (st.length+2) 0 0 0),(91,.sl false 1 16 (rows Wt a0.words)),(92,.int .i64 (↑a0.words.length:Int)),(93,.int .i64 0)]) (T:=(WE st [(o0,(.arr 0 11 0 [[.int .i64 WH,.str Zh,.sl false 1 16 (rows Wt Zi),.sl false 4 72 (rows Lr.cells Xf),.sl false 1 16 (rows Wt YS),.sl false 1 16 (rows Wt Zb),.sl false 1 16 (rows Wt Zj),.int .i64 d1S,.str d1T,.sl false 1 16 (rows Wt d1U),.sl false 4 72 (rows Lr.cells XQ)]])),(o1,(.arr 0 1 0 [[.mp o2]])),(o2,(.mps true (mrw Wr.cells m2))),(o3,(.arr 0 1 0 [[.sl false 6 104 (rows Ws.cells ZV)]])),(o4,(.arr 0 1 0 [[.int .i64 ZB]])),(o5,(.arr 0 1 0 [[.int .i64 d0s]])),(o6,(.arr 0 1 0 [[.int .i64 d5a]])),(o7,(.arr 0 1 0 [[.ptr o8 0 0 0]])),(o8,(.arr 0 4 0 [[.sl false 11 216 (rows Wq.cells d6t),.mp o9,.ref false o10 (q10+l10.length) 0 l10.length,.int .i64 d8U]])),(o9,(.mps false (mrw d1r m9))),(o10,(.arr (q10+l10.length) 2 16 (rows Wp.cells l10))),(o11,(.arr 0 1 0 [[.str d1L]])),(o12,(.arr 0 1 0 [[.mp o13]])),(o13,(.mps false (mrw Wt m13))),(o14,(.arr 0 1 0 [[.mp o15]])),(o15,(.mps false (mrw Wt m15))),(o16,(.arr 0 1 0 [[.fn 112 [] []]])),(o17,(.arr 0 1 0 [[.fn 114 [] [.ptr o0 0 0 0,.ptr o1 0 0 0,.ptr o3 0 0 0,.ptr o4 0 0 0,.ptr o5 0 0 0,.ptr o6 0 0 0,.ptr o7 0 0 0,.ptr o11 0 0 0,.ptr o12 0 0 0,.ptr o14 0 0 0,.ptr o16 0 0 0,.ptr o17 0 0 0]]]))])++[some (.arr 0 4 0 [[.int .i64 a0.kind,.str a0.name,.sl false 1 16 (rows Wt a0.words),.sl false 4 72 (rows Lr.cells a0.subs)]]),some (.arr 0 6 0 [[.int .i64 0,.str [],.WB,.WB,.int .i64 0,.int .i64 0]]),some (.arr 0 6 0 [[.int .i64 a0.kind,.str a0.name,.ref false (st.length+3) 0 0 0,.WB,.int .i64 0,.int .i64 0]]),some (.arr 0 1 16 (rows Wt []))]) (d1O (by simp) (YP hsc (by simp<;>omega)) (.lv (.lv (.live _ _ _ _ (.arr _ _ _ _ _ (.cons _ _ _ _ (.cons _ _ _ _ .s (.cons _ _ _ _ .s (.cons _ _ _ _ (.nref _ _ _ _ _ _ (WT.trans rfl)) (.cons _ _ _ _ .s (.cons _ _ _ _ .s (.cons _ _ _ _ .s .nil)))))) (.same _))) (.lv (.nil _))))) (by simp<;>omega) ⟨.s,.s,.s,.s,.s,.s,.s,.s,.s,.s,.s,.s,.s,trivial⟩ (by simp<;>omega)) ?_
   refine aln 91 fun hl1=>?_
   refine rng (body:=d1m a1 a0 m15 ZB ZV) (kk:=d1p (XU WD n) a0 a1 WH Zh Zi Xf YS Zb Zj d1S d1T d1U XQ ZV ZB d0s d5a d6t m9 d1L m13 m15 d8U l10 m2) (n:=a0.words.length) (s0:=[])
    (fun(gs1:Nat) (k1:Nat) (s1:(List Bs))=>[(1,.sl false 1 16 (rows Wt a1)),(4,.ptr o3 0 0 0),(5,.ptr o4 0 0 0),(6,.ptr o5 0 0 0),(11,.ptr o14 0 0 0),(12,.ptr o16 0 0 0),(13,.ptr o17 0 0 0),(14,.ptr st.length 0 0 0),(16,.ptr (st.length+1) 0 0 0),(22,.ptr (st.length+2) 0 0 0),(91,.sl false 1 16 (rows Wt a0.words)),(92,.int .i64 (↑a0.words.length:Int)),(93,.int .i64 (↑k1:Int))])
    (fun(gs1:Nat) (k1:Nat) (s1:(List Bs))=>(WE st [(o0,(.arr 0 11 0 [[.int .i64 WH,.str Zh,.sl false 1 16 (rows Wt Zi),.sl false 4 72 (rows Lr.cells Xf),.sl false 1 16 (rows Wt YS),.sl false 1 16 (rows Wt Zb),.sl false 1 16 (rows Wt Zj),.int .i64 d1S,.str d1T,.sl false 1 16 (rows Wt d1U),.sl false 4 72 (rows Lr.cells XQ)]])),(o1,(.arr 0 1 0 [[.mp o2]])),(o2,(.mps true (mrw Wr.cells m2))),(o3,(.arr 0 1 0 [[.sl false 6 104 (rows Ws.cells ZV)]])),(o4,(.arr 0 1 0 [[.int .i64 ZB]])),(o5,(.arr 0 1 0 [[.int .i64 d0s]])),(o6,(.arr 0 1 0 [[.int .i64 d5a]])),(o7,(.arr 0 1 0 [[.ptr o8 0 0 0]])),(o8,(.arr 0 4 0 [[.sl false 11 216 (rows Wq.cells d6t),.mp o9,.ref false o10 (q10+l10.length) 0 l10.length,.int .i64 d8U]])),(o9,(.mps false (mrw d1r m9))),(o10,(.arr (q10+l10.length) 2 16 (rows Wp.cells l10))),(o11,(.arr 0 1 0 [[.str d1L]])),(o12,(.arr 0 1 0 [[.mp o13]])),(o13,(.mps false (mrw Wt m13))),(o14,(.arr 0 1 0 [[.mp o15]])),(o15,(.mps false (mrw Wt m15))),(o16,(.arr 0 1 0 [[.fn 112 [] []]])),(o17,(.arr 0 1 0 [[.fn 114 [] [.ptr o0 0 0 0,.ptr o1 0 0 0,.ptr o3 0 0 0,.ptr o4 0 0 0,.ptr o5 0 0 0,.ptr o6 0 0 0,.ptr o7 0 0 0,.ptr o11 0 0 0,.ptr o12 0 0 0,.ptr o14 0 0 0,.ptr o16 0 0 0,.ptr o17 0 0 0]]]))])++[some (.arr 0 4 0 [[.int .i64 a0.kind,.str a0.name,.sl false 1 16 (rows Wt a0.words),.sl false 4 72 (rows Lr.cells a0.subs)]]),some (.arr 0 6 0 [[.int .i64 0,.str [],.WB,.WB,.int .i64 0,.int .i64 0]]),some (.arr 0 6 0 [[.int .i64 a0.kind,.str a0.name,.ref false (st.length+3) gs1 0 s1.length,.WB,.int .i64 0,.int .i64 0]]),some (.arr gs1 1 16 (rows Wt s1))])
    (fun(gt1:Nat) (t1:(List Bs))=>[(1,.sl false 1 16 (rows Wt a1)),(4,.ptr o3 0 0 0),(5,.ptr o4 0 0 0),(6,.ptr o5 0 0 0),(11,.ptr o14 0 0 0),(12,.ptr o16 0 0 0),(13,.ptr o17 0 0 0),(14,.ptr st.length 0 0 0),(16,.ptr (st.length+1) 0 0 0),(22,.ptr (st.length+2) 0 0 0)])
    (fun(gt1:Nat) (t1:(List Bs))=>(WE st [(o0,(.arr 0 11 0 [[.int .i64 WH,.str Zh,.sl false 1 16 (rows Wt Zi),.sl false 4 72 (rows Lr.cells Xf),.sl false 1 16 (rows Wt YS),.sl false 1 16 (rows Wt Zb),.sl false 1 16 (rows Wt Zj),.int .i64 d1S,.str d1T,.sl false 1 16 (rows Wt d1U),.sl false 4 72 (rows Lr.cells XQ)]])),(o1,(.arr 0 1 0 [[.mp o2]])),(o2,(.mps true (mrw Wr.cells m2))),(o3,(.arr 0 1 0 [[.sl false 6 104 (rows Ws.cells ZV)]])),(o4,(.arr 0 1 0 [[.int .i64 ZB]])),(o5,(.arr 0 1 0 [[.int .i64 d0s]])),(o6,(.arr 0 1 0 [[.int .i64 d5a]])),(o7,(.arr 0 1 0 [[.ptr o8 0 0 0]])),(o8,(.arr 0 4 0 [[.sl false 11 216 (rows Wq.cells d6t),.mp o9,.ref false o10 (q10+l10.length) 0 l10.length,.int .i64 d8U]])),(o9,(.mps false (mrw d1r m9))),(o10,(.arr (q10+l10.length) 2 16 (rows Wp.cells l10))),(o11,(.arr 0 1 0 [[.str d1L]])),(o12,(.arr 0 1 0 [[.mp o13]])),(o13,(.mps false (mrw Wt m13))),(o14,(.arr 0 1 0 [[.mp o15]])),(o15,(.mps false (mrw Wt m15))),(o16,(.arr 0 1 0 [[.fn 112 [] []]])),(o17,(.arr 0 1 0 [[.fn 114 [] [.ptr o0 0 0 0,.ptr o1 0 0 0,.ptr o3 0 0 0,.ptr o4 0 0 0,.ptr o5 0 0 0,.ptr o6 0 0 0,.ptr o7 0 0 0,.ptr o11 0 0 0,.ptr o12 0 0 0,.ptr o14 0 0 0,.ptr o16 0 0 0,.ptr o17 0 0 0]]]))])++[some (.arr 0 4 0 [[.int .i64 a0.kind,.str a0.name,.sl false 1 16 (rows Wt a0.words),.sl false 4 72 (rows Lr.cells a0.subs)]]),some (.arr 0 6 0 [[.int .i64 0,.str [],.WB,.WB,.int .i64 0,.int .i64 0]]),some (.arr 0 6 0 [[.int .i64 a0.kind,.str a0.name,.ref false (st.length+3) gt1 0 t1.length,.WB,.int .i64 0,.int .i64 0]]),some (.arr gt1 1 16 (rows Wt t1))])
    0 fx hl1 h (bu hsc)
    (fun gs1 k1 s1 b1 fx h hx1=>?_) (fun gs1 s1=>?_) (fun gt1 t1 fr1 st1 h hb=>?_)
   ·unfold d1m at h
    refine ct ?_
    refine cl h (Wx _ _) fun v28 h=>?_
    refine cd h (fun hc h=>?_) fun hc h=>?_
    ·refine r0 ?_
     obtain⟨c30,r1A,h⟩:=d4o h
     have fy:=(show rows Wt s1++[[.str ((assoc (get a0.words k1) m15).getD default)]]=rows Wt c30 from by rw[r1A];first|exact Xi (E:=Wt) s1 [((assoc (get a0.words k1) m15).getD default)]|simp only[go_sem,rows,List.map_append,List.map_cons,List.map_nil])
     have fy:=fa fy (show s1.length+1=c30.length from by rw[r1A];simp)
     obtain⟨fx,h⟩:=ck fx h
     refine r1 ?_
     refine rn ?_
     cases h
     exact d2U (gs1+1) (bu hsc)
    ·refine rs ?_
     obtain⟨fx,h⟩:=ck fx h
     refine dw [] 0 ?_
     obtain⟨v37,hv37,h⟩:=ZA h
     refine d1v (d2T _ _ _ hv37) ?_
     try simp only[go_sem,fx]
     obtain⟨c39,p8z,h⟩:=d4o h
     have fy:=(show rows Wt s1++[[.str v37]]=rows Wt c39 from by rw[p8z];first|exact Xi (E:=Wt) s1 [v37]|simp only[go_sem,rows,List.map_append,List.map_cons,List.map_nil])
     have fy:=fa fy (show s1.length+1=c39.length from by rw[p8z];simp)
     obtain⟨fx,h⟩:=ck fx h
     refine r1 ?_
     refine rn ?_
     cases h
     exact d2U (gs1+1) (bu hsc)
   ·refine cf ?_
    refine d2V ?_;simp only[go_sem,fx]
    exact⟨gs1,(bu hsc)⟩
   ·try simp only[go_sem,fx]
    unfold d1p at h
    refine Zk hb ?_
    refine cl h (WX _) fun v44 h=>?_
    refine rn ?_
    refine d2X (Yn (XU WD n) a0 WH Zh Zi Xf YS Zb Zj d1S d1T d1U XQ ZV ZB d0s d5a d6t m9 d1L m13 m15 d8U l10 m2 t1) r (fun(gj2:Unit) (j2:Bs×(List Bs))=>[(1,.sl false 1 16 (rows Wt j2.2)),(13,.ptr o17 0 0 0),(14,.ptr st.length 0 0 0),(16,.ptr (st.length+1) 0 0 0),(22,.ptr (st.length+2) 0 0 0)]) (fun(gj2:Unit) (j2:Bs×(List Bs))=>(WE st [(o0,(.arr 0 11 0 [[.int .i64 WH,.str Zh,.sl false 1 16 (rows Wt Zi),.sl false 4 72 (rows Lr.cells Xf),.sl false 1 16 (rows Wt YS),.sl false 1 16 (rows Wt Zb),.sl false 1 16 (rows Wt Zj),.int .i64 d1S,.str d1T,.sl false 1 16 (rows Wt d1U),.sl false 4 72 (rows Lr.cells XQ)]])),(o1,(.arr 0 1 0 [[.mp o2]])),(o2,(.mps true (mrw Wr.cells m2))),(o3,(.arr 0 1 0 [[.sl false 6 104 (rows Ws.cells ZV)]])),(o4,(.arr 0 1 0 [[.int .i64 ZB]])),(o5,(.arr 0 1 0 [[.int .i64 d0s]])),(o6,(.arr 0 1 0 [[.int .i64 d5a]])),(o7,(.arr 0 1 0 [[.ptr o8 0 0 0]])),(o8,(.arr 0 4 0 [[.sl false 11 216 (rows Wq.cells d6t),.mp o9,.ref false o10 (q10+l10.length) 0 l10.length,.int .i64 d8U]])),(o9,(.mps false (mrw d1r m9))),(o10,(.arr (q10+l10.length) 2 16 (rows Wp.cells l10))),(o11,(.arr 0 1 0 [[.str d1L]])),(o12,(.arr 0 1 0 [[.mp o13]])),(o13,(.mps false (mrw Wt m13))),(o14,(.arr 0 1 0 [[.mp o15]])),(o15,(.mps false (mrw Wt m15))),(o16,(.arr 0 1 0 [[.fn 112 [] []]])),(o17,(.arr 0 1 0 [[.fn 114 [] [.ptr o0 0 0 0,.ptr o1 0 0 0,.ptr o3 0 0 0,.ptr o4 0 0 0,.ptr o5 0 0 0,.ptr o6 0 0 0,.ptr o7 0 0 0,.ptr o11 0 0 0,.ptr o12 0 0 0,.ptr o14 0 0 0,.ptr o16 0 0 0,.ptr o17 0 0 0]]]))])++[some (.arr 0 4 0 [[.int .i64 a0.kind,.str a0.name,.sl false 1 16 (rows Wt a0.words),.sl false 4 72 (rows Lr.cells a0.subs)]]),some (.arr 0 6 0 [[.int .i64 0,.str [],.WB,.WB,.int .i64 0,.int .i64 0]]),some (.arr 0 6 0 [[.int .i64 a0.kind,.str j2.1,.ref false (st.length+3) gt1 0 t1.length,.WB,.int .i64 0,.int .i64 0]]),some (.arr gt1 1 16 (rows Wt t1))]) (fun gj2 j2 fr1 st1 h hb=>?_) (fun hj2=>?_)
    ·try simp only[go_sem,fx]
     unfold Yn at h
     refine Zk hb ?_
     refine r0 ?_
     refine r0 ?_
     (repeat apply sq_)
     refine d0f 6 88 ?_
     refine d0f 4 72 ?_
     try simp only[List.append_assoc,List.cons_append,List.nil_append]
     refine Zk (F:=[(1,.sl false 1 16 (rows Wt j2.2)),(13,.ptr o17 0 0 0),(16,.ptr (st.length+1) 0 0 0),(22,.ptr (st.length+2) 0 0 0),(25,.ref false (st.length+4) 0 0 0),(148,.sl false 4 72 (rows Lr.cells a0.subs)),(149,.int .i64 (↑a0.subs.length:Int)),(150,.int .i64 0)]) (T:=(WE st [(o0,(.arr 0 11 0 [[.int .i64 WH,.str Zh,.sl false 1 16 (rows Wt Zi),.sl false 4 72 (rows Lr.cells Xf),.sl false 1 16 (rows Wt YS),.sl false 1 16 (rows Wt Zb),.sl false 1 16 (rows Wt Zj),.int .i64 d1S,.str d1T,.sl false 1 16 (rows Wt d1U),.sl false 4 72 (rows Lr.cells XQ)]])),(o1,(.arr 0 1 0 [[.mp o2]])),(o2,(.mps true (mrw Wr.cells m2))),(o3,(.arr 0 1 0 [[.sl false 6 104 (rows Ws.cells ZV)]])),(o4,(.arr 0 1 0 [[.int .i64 ZB]])),(o5,(.arr 0 1 0 [[.int .i64 d0s]])),(o6,(.arr 0 1 0 [[.int .i64 d5a]])),(o7,(.arr 0 1 0 [[.ptr o8 0 0 0]])),(o8,(.arr 0 4 0 [[.sl false 11 216 (rows Wq.cells d6t),.mp o9,.ref false o10 (q10+l10.length) 0 l10.length,.int .i64 d8U]])),(o9,(.mps false (mrw d1r m9))),(o10,(.arr (q10+l10.length) 2 16 (rows Wp.cells l10))),(o11,(.arr 0 1 0 [[.str d1L]])),(o12,(.arr 0 1 0 [[.mp o13]])),(o13,(.mps false (mrw Wt m13))),(o14,(.arr 0 1 0 [[.mp o15]])),(o15,(.mps false (mrw Wt m15))),(o16,(.arr 0 1 0 [[.fn 112 [] []]])),(o17,(.arr 0 1 0 [[.fn 114 [] [.ptr o0 0 0 0,.ptr o1 0 0 0,.ptr o3 0 0 0,.ptr o4 0 0 0,.ptr o5 0 0 0,.ptr o6 0 0 0,.ptr o7 0 0 0,.ptr o11 0 0 0,.ptr o12 0 0 0,.ptr o14 0 0 0,.ptr o16 0 0 0,.ptr o17 0 0 0]]]))])++[some (.arr 0 4 0 [[.int .i64 a0.kind,.str a0.name,.sl false 1 16 (rows Wt a0.words),.sl false 4 72 (rows Lr.cells a0.subs)]]),some (.arr 0 6 0 [[.int .i64 0,.str [],.WB,.WB,.int .i64 0,.int .i64 0]]),some (.arr 0 6 0 [[.int .i64 a0.kind,.str j2.1,.ref false (st.length+3) gt1 0 t1.length,.ref false (st.length+5) 0 0 0,.int .i64 0,.int .i64 0]]),some (.arr gt1 1 16 (rows Wt t1)),some (.arr 0 6 88 (rows Wr.cells [])),some (.arr 0 4 72 (rows Lr.cells []))]) (d1O (by simp) (YP hsc (by simp<;>omega)) (.lv (.lv (.live _ _ _ _ (.arr _ _ _ _ _ (.cons _ _ _ _ (.cons _ _ _ _ .s (.cons _ _ _ _ .s (.cons _ _ _ _ .s (.cons _ _ _ _ (.nref _ _ _ _ _ _ (WT.trans rfl)) (.cons _ _ _ _ .s (.cons _ _ _ _ .s .nil)))))) (.same _))) (.lv (.lv (.lv (.nil _))))))) (by simp<;>omega) ⟨.s,.s,.s,.s,.nref _ _ _ _ _ _ (WT.trans rfl),.s,.s,.s,trivial⟩ (by simp<;>omega)) ?_
     refine aln 148 fun hl3=>?_
     refine rng (body:=d1n (XU WD n) a0 j2 WH Zh Zi Xf YS Zb Zj d1S d1T d1U XQ ZV ZB d0s d5a d6t m9 d1L m13 m15) (kk:=d1o a0 j2 t1) (n:=a0.subs.length) (s0:=(d8U,l10,m2,[],[]))
      (fun(gs3:Nat×Nat) (k3:Nat) (s3:Int×(List Wp)×(List (Bs×Wr))×(List Wr)×(List Lr))=>[(1,.sl false 1 16 (rows Wt j2.2)),(13,.ptr o17 0 0 0),(16,.ptr (st.length+1) 0 0 0),(22,.ptr (st.length+2) 0 0 0),(25,.ref false (st.length+4) gs3.1 0 s3.2.2.2.1.length),(148,.sl false 4 72 (rows Lr.cells a0.subs)),(149,.int .i64 (↑a0.subs.length:Int)),(150,.int .i64 (↑k3:Int))])
      (fun(gs3:Nat×Nat) (k3:Nat) (s3:Int×(List Wp)×(List (Bs×Wr))×(List Wr)×(List Lr))=>(WE st [(o0,(.arr 0 11 0 [[.int .i64 WH,.str Zh,.sl false 1 16 (rows Wt Zi),.sl false 4 72 (rows Lr.cells Xf),.sl false 1 16 (rows Wt YS),.sl false 1 16 (rows Wt Zb),.sl false 1 16 (rows Wt Zj),.int .i64 d1S,.str d1T,.sl false 1 16 (rows Wt d1U),.sl false 4 72 (rows Lr.cells XQ)]])),(o1,(.arr 0 1 0 [[.mp o2]])),(o2,(.mps true (mrw Wr.cells s3.2.2.1))),(o3,(.arr 0 1 0 [[.sl false 6 104 (rows Ws.cells ZV)]])),(o4,(.arr 0 1 0 [[.int .i64 ZB]])),(o5,(.arr 0 1 0 [[.int .i64 d0s]])),(o6,(.arr 0 1 0 [[.int .i64 d5a]])),(o7,(.arr 0 1 0 [[.ptr o8 0 0 0]])),(o8,(.arr 0 4 0 [[.sl false 11 216 (rows Wq.cells d6t),.mp o9,.ref false o10 (q10+s3.2.1.length) 0 s3.2.1.length,.int .i64 s3.1]])),(o9,(.mps false (mrw d1r m9))),(o10,(.arr (q10+s3.2.1.length) 2 16 (rows Wp.cells s3.2.1))),(o11,(.arr 0 1 0 [[.str d1L]])),(o12,(.arr 0 1 0 [[.mp o13]])),(o13,(.mps false (mrw Wt m13))),(o14,(.arr 0 1 0 [[.mp o15]])),(o15,(.mps false (mrw Wt m15))),(o16,(.arr 0 1 0 [[.fn 112 [] []]])),(o17,(.arr 0 1 0 [[.fn 114 [] [.ptr o0 0 0 0,.ptr o1 0 0 0,.ptr o3 0 0 0,.ptr o4 0 0 0,.ptr o5 0 0 0,.ptr o6 0 0 0,.ptr o7 0 0 0,.ptr o11 0 0 0,.ptr o12 0 0 0,.ptr o14 0 0 0,.ptr o16 0 0 0,.ptr o17 0 0 0]]]))])++[none,some (.arr 0 6 0 [[.int .i64 0,.str [],.WB,.WB,.int .i64 0,.int .i64 0]]),some (.arr 0 6 0 [[.int .i64 a0.kind,.str j2.1,.ref false (st.length+3) gt1 0 t1.length,.ref false (st.length+5) gs3.2 0 s3.2.2.2.2.length,.int .i64 0,.int .i64 0]]),some (.arr gt1 1 16 (rows Wt t1)),some (.arr gs3.1 6 88 (rows Wr.cells s3.2.2.2.1)),some (.arr gs3.2 4 72 (rows Lr.cells s3.2.2.2.2))])
      (fun(gt3:Nat×Nat) (t3:Int×(List Wp)×(List (Bs×Wr))×(List Wr)×(List Lr))=>[(16,.ptr (st.length+1) 0 0 0),(22,.ptr (st.length+2) 0 0 0),(25,.ref false (st.length+4) gt3.1 0 t3.2.2.2.1.length)])
      (fun(gt3:Nat×Nat) (t3:Int×(List Wp)×(List (Bs×Wr))×(List Wr)×(List Lr))=>(WE st [(o0,(.arr 0 11 0 [[.int .i64 WH,.str Zh,.sl false 1 16 (rows Wt Zi),.sl false 4 72 (rows Lr.cells Xf),.sl false 1 16 (rows Wt YS),.sl false 1 16 (rows Wt Zb),.sl false 1 16 (rows Wt Zj),.int .i64 d1S,.str d1T,.sl false 1 16 (rows Wt d1U),.sl false 4 72 (rows Lr.cells XQ)]])),(o1,(.arr 0 1 0 [[.mp o2]])),(o2,(.mps true (mrw Wr.cells t3.2.2.1))),(o3,(.arr 0 1 0 [[.sl false 6 104 (rows Ws.cells ZV)]])),(o4,(.arr 0 1 0 [[.int .i64 ZB]])),(o5,(.arr 0 1 0 [[.int .i64 d0s]])),(o6,(.arr 0 1 0 [[.int .i64 d5a]])),(o7,(.arr 0 1 0 [[.ptr o8 0 0 0]])),(o8,(.arr 0 4 0 [[.sl false 11 216 (rows Wq.cells d6t),.mp o9,.ref false o10 (q10+t3.2.1.length) 0 t3.2.1.length,.int .i64 t3.1]])),(o9,(.mps false (mrw d1r m9))),(o10,(.arr (q10+t3.2.1.length) 2 16 (rows Wp.cells t3.2.1))),(o11,(.arr 0 1 0 [[.str d1L]])),(o12,(.arr 0 1 0 [[.mp o13]])),(o13,(.mps false (mrw Wt m13))),(o14,(.arr 0 1 0 [[.mp o15]])),(o15,(.mps false (mrw Wt m15))),(o16,(.arr 0 1 0 [[.fn 112 [] []]])),(o17,(.arr 0 1 0 [[.fn 114 [] [.ptr o0 0 0 0,.ptr o1 0 0 0,.ptr o3 0 0 0,.ptr o4 0 0 0,.ptr o5 0 0 0,.ptr o6 0 0 0,.ptr o7 0 0 0,.ptr o11 0 0 0,.ptr o12 0 0 0,.ptr o14 0 0 0,.ptr o16 0 0 0,.ptr o17 0 0 0]]]))])++[none,some (.arr 0 6 0 [[.int .i64 0,.str [],.WB,.WB,.int .i64 0,.int .i64 0]]),some (.arr 0 6 0 [[.int .i64 a0.kind,.str j2.1,.ref false (st.length+3) gt1 0 t1.length,.ref false (st.length+5) gt3.2 0 t3.2.2.2.2.length,.int .i64 0,.int .i64 0]]),some (.arr gt1 1 16 (rows Wt t1)),some (.arr gt3.1 6 88 (rows Wr.cells t3.2.2.2.1)),some (.arr gt3.2 4 72 (rows Lr.cells t3.2.2.2.2))])
      (0,0) fx hl3 h (bu hsc)
      (fun gs3 k3 s3 b3 fx h hx3=>?_) (fun gs3 s3=>?_) (fun gt3 t3 fr1 st1 h hb=>?_)
     ·unfold d1n at h
      refine ct ?_
      refine rn ?_
      obtain⟨v70,hv70,h⟩:=ZA h
      refine i9Z (ih _ _ _ _ _ _ _ _ _ _ _ _ _ _ _ _ _ _ _ _ _ _ _ _ _ _ hv70 _ _ _ _ _ _ _ _ _ _ _ _ _ _ _ _ _ _ _ q10 hnd (by simp only[go_sem,fx]) (by simp only[go_sem,fx]) (by simp only[go_sem,fx]) (by simp only[go_sem,fx]) (by simp only[go_sem,fx]) (by simp only[go_sem,fx]) (by simp only[go_sem,fx]) (by simp only[go_sem,fx]) (by simp only[go_sem,fx]) (by simp only[go_sem,fx]) (by simp only[go_sem,fx]) (by simp only[go_sem,fx]) (by simp only[go_sem,fx]) (by simp only[go_sem,fx]) (by simp only[go_sem,fx]) (by simp only[go_sem,fx]) (by simp only[go_sem,fx]) (by simp only[go_sem,fx])) ?_
      refine cd h (fun hc h=>?_) fun hc h=>?_
      ·refine ra ?_
       cases h
       refine XY ?_;have h:=congrArg some (hx3 _ rfl)
       refine rr ?_
       exact fuo (.tup [.agg [.int .i64 0,.str [],.sl false 1 16 (rows Wt []),.sl false 4 72 (rows Lr.cells []),.int .i64 0,.int .i64 0],.bool false]) (.tup _ _ (.cons _ _ _ _ (.agg _ _ (.cons _ _ _ _ .s (.cons _ _ _ _ .s (.cons _ _ _ _ (.WB _ _ _ (by decide)) (.cons _ _ _ _ (.WB _ _ _ (by decide)) (.cons _ _ _ _ .s (.cons _ _ _ _ .s .nil))))))) (.cons _ _ _ _ .s .nil)) rfl) h hsc
      ·refine r0 ?_
       obtain⟨c72,r1B,h⟩:=d4o h
       have fy:=(show rows Wr.cells s3.2.2.2.1++[[.int .i64 v70.1.form.kind,.str v70.1.form.name,.sl false 1 16 (rows Wt v70.1.form.words),.sl false 4 72 (rows Lr.cells v70.1.form.subs),.int .i64 v70.1.nodes,.int .i64 v70.1.depth]]=rows Wr.cells c72 from by rw[r1B];first|exact Xi (E:=Wr.cells) s3.2.2.2.1 [v70.1]|simp only[go_sem,rows,List.map_append,List.map_cons,List.map_nil])
       have fy:=fa fy (show s3.2.2.2.1.length+1=c72.length from by rw[r1B];simp)
       obtain⟨fx,h⟩:=ck fx h
       refine r1 ?_
       obtain⟨c78,r1C,h⟩:=d4o h
       have fy:=(show rows Lr.cells s3.2.2.2.2++[[.int .i64 v70.1.form.kind,.str v70.1.form.name,.sl false 1 16 (rows Wt v70.1.form.words),.sl false 4 72 (rows Lr.cells v70.1.form.subs)]]=rows Lr.cells c78 from by rw[r1C];first|exact Xi (E:=Lr.cells) s3.2.2.2.2 [v70.1.form]|simp only[go_sem,rows,List.map_append,List.map_cons,List.map_nil])
       have fy:=fa fy (show s3.2.2.2.2.length+1=c78.length from by rw[r1C];simp)
       obtain⟨fx,h⟩:=ck fx h
       refine r1 ?_
       refine rn ?_
       cases h
       exact d2U ((gs3.1+1),(gs3.2+1)) (bu hsc)
     ·refine cf ?_
      refine d2V ?_;simp only[go_sem,fx]
      exact⟨(gs3.1,gs3.2),(bu hsc)⟩
     ·try simp only[go_sem,fx]
      unfold d1o at h
      refine Zk hb ?_
      refine rn ?_
      obtain⟨v83,hv83,h⟩:=ZA h
      refine((d6a _ _ hv83).borrow (args:=[.ref false (st.length+4) gt3.1 0 t3.2.2.2.1.length]) (.cons _ _ _ _ (.ref _ _ _ _ _ _ _ _ _ (WT.trans rfl) i3N (by decide) (d5x _) (by simp only[go_sem])) .nil) (by simp) rfl ) ?_
      refine rr ?_
      exact fuo (.tup [.agg [.int .i64 a0.kind,.str j2.1,.sl false 1 16 (rows Wt t1),.sl false 4 72 (rows Lr.cells t3.2.2.2.2),.int .i64 v83.1,.int .i64 v83.2.1],.bool v83.2.2]) (.tup _ _ (.cons _ _ _ _ (.agg _ _ (.cons _ _ _ _ .s (.cons _ _ _ _ .s (.cons _ _ _ _ (.ref _ _ _ _ _ _ _ _ _ (WT.trans rfl) ZK (by decide) (d5x _) (by simp only[go_sem])) (.cons _ _ _ _ (.ref _ _ _ _ _ _ _ _ _ (WT.trans rfl) ZK (by decide) (d5x _) (by simp only[go_sem])) (.cons _ _ _ _ .s (.cons _ _ _ _ .s .nil))))))) (.cons _ _ _ _ .s .nil)) rfl) h hsc
    ·refine cd h (fun hc h=>?_) fun hc h=>?_
     ·refine r0 ?_
      (repeat apply sq_)
      refine d0f 1 16 ?_
      try simp only[List.append_assoc,List.cons_append,List.nil_append]
      refine Zk (F:=[(1,.sl false 1 16 (rows Wt a1)),(13,.ptr o17 0 0 0),(14,.ptr st.length 0 0 0),(16,.ptr (st.length+1) 0 0 0),(22,.ptr (st.length+2) 0 0 0)]) (T:=(WE st [(o0,(.arr 0 11 0 [[.int .i64 WH,.str Zh,.sl false 1 16 (rows Wt Zi),.sl false 4 72 (rows Lr.cells Xf),.sl false 1 16 (rows Wt YS),.sl false 1 16 (rows Wt Zb),.sl false 1 16 (rows Wt Zj),.int .i64 d1S,.str d1T,.sl false 1 16 (rows Wt d1U),.sl false 4 72 (rows Lr.cells XQ)]])),(o1,(.arr 0 1 0 [[.mp o2]])),(o2,(.mps true (mrw Wr.cells m2))),(o3,(.arr 0 1 0 [[.sl false 6 104 (rows Ws.cells ZV)]])),(o4,(.arr 0 1 0 [[.int .i64 ZB]])),(o5,(.arr 0 1 0 [[.int .i64 d0s]])),(o6,(.arr 0 1 0 [[.int .i64 d5a]])),(o7,(.arr 0 1 0 [[.ptr o8 0 0 0]])),(o8,(.arr 0 4 0 [[.sl false 11 216 (rows Wq.cells d6t),.mp o9,.ref false o10 (q10+l10.length) 0 l10.length,.int .i64 d8U]])),(o9,(.mps false (mrw d1r m9))),(o10,(.arr (q10+l10.length) 2 16 (rows Wp.cells l10))),(o11,(.arr 0 1 0 [[.str d1L]])),(o12,(.arr 0 1 0 [[.mp o13]])),(o13,(.mps false (mrw Wt m13))),(o14,(.arr 0 1 0 [[.mp o15]])),(o15,(.mps false (mrw Wt m15))),(o16,(.arr 0 1 0 [[.fn 112 [] []]])),(o17,(.arr 0 1 0 [[.fn 114 [] [.ptr o0 0 0 0,.ptr o1 0 0 0,.ptr o3 0 0 0,.ptr o4 0 0 0,.ptr o5 0 0 0,.ptr o6 0 0 0,.ptr o7 0 0 0,.ptr o11 0 0 0,.ptr o12 0 0 0,.ptr o14 0 0 0,.ptr o16 0 0 0,.ptr o17 0 0 0]]]))])++[some (.arr 0 4 0 [[.int .i64 a0.kind,.str a0.name,.sl false 1 16 (rows Wt a0.words),.sl false 4 72 (rows Lr.cells a0.subs)]]),some (.arr 0 6 0 [[.int .i64 0,.str [],.WB,.WB,.int .i64 0,.int .i64 0]]),some (.arr 0 6 0 [[.int .i64 a0.kind,.str ((assoc a0.name m15).getD default),.ref false (st.length+3) gt1 0 t1.length,.WB,.int .i64 0,.int .i64 0]]),some (.arr gt1 1 16 (rows Wt t1)),some (.arr 0 1 16 (rows Wt []))]) (d1O (by simp) (YP hsc (by simp<;>omega)) (.lv (.lv (.lv (.lv (.lv (.nil _)))))) (by simp<;>omega) ⟨.s,.s,.s,.s,.s,trivial⟩ (by simp<;>omega)) ?_
      refine rs ?_
      refine dw [1,3] 2 ?_
      obtain⟨v45,hv45,h⟩:=ZA h
      refine d2Y [(st.length+4)] (fun st2 h2=>(Xp _ _ _ hv45 st2 (st.length+4) 0 (by simp) ((h2 _ (by simp)).trans (WR.trans rfl)))) (by simp) (by simp only[List.mem_cons,List.not_mem_nil,or_false,forall_eq_or_imp,forall_eq];exact⟨by first|omega|(simp<;>omega),_,(WR.trans rfl),Ob.noConfusion⟩) (by simp) ?_
      obtain⟨c47,r1D,h⟩:=d4o h
      have fy:=(show rows Wt v45++[[.str a0.name]]=rows Wt c47 from by rw[r1D];first|exact Xi (E:=Wt) v45 [a0.name]|simp only[go_sem,rows,List.map_append,List.map_cons,List.map_nil])
      have fy:=fa fy (show v45.length+1=c47.length from by rw[r1D];simp)
      obtain⟨fx,h⟩:=ck fx h
      try simp only[go_sem,fx,fy]
      try refine⟨by first|omega|(simp<;>omega),?_⟩
      refine hj2 () _ _ _ h ?_;exact(bu hsc (hf:=⟨.ref _ _ _ _ _ _ _ _ _ (WT.trans rfl) (d3c (by first|decide|simp)) (by decide) (d5x _) (by simp only[go_sem]),.s,.s,.s,.s,trivial⟩))
     ·refine cd h (fun hc h=>?_) fun hc h=>?_
      ·refine rs ?_
       obtain⟨fx,h⟩:=ck fx h
       refine dw [] 0 ?_
       obtain⟨v56,hv56,h⟩:=ZA h
       refine d1v (d2T _ _ _ hv56) ?_
       try simp only[go_sem,fx]
       refine hj2 () _ _ _ h ?_;exact(bu hsc)
      ·refine r0 ?_
       refine hj2 () _ _ _ h ?_;exact(bu hsc)
end Go.Proofs.YtfacbpehlibilaaGreatDoor
