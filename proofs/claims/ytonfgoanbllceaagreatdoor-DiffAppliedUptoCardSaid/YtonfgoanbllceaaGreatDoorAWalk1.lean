import Derived.Test.YtonfgoanbllceaaGreatDoorAWalk0
set_option linter.unusedVariables false
set_option linter.unusedSimpArgs false
set_option maxHeartbeats 2000000
set_option maxRecDepth 100000
namespace Go.Proofs.YtonfgoanbllceaaGreatDoor
open Go Go.Am
theorem F7(n:Nat)(a0:(List (List Int)))(r:y5)(h:E9 n a0=some r):Pure Tryz.prog gl 40 [.sl false 1 24 (rows (slc 1 8 N3) a0)] (.agg [.sl false 2 32 (rows x5.cells r.nodes)]):=by
 intro st
 unfold E9 at h
 have fx:=trivial
 refine fb 48 [.cell 2 30] [0,2,3,5,6,7,8,9,10,11,22] Tryz.func40 fun hsc=>?_
 refine r0 ?_
 refine r0 ?_
 refine r0 ?_
 (repeat apply sq_)
 refine cY 2 32 ?_
 try simp only[List.append_assoc,List.cons_append,List.nil_append]
 refine K6 (F:=[(2,.ptr st.length 0 0 0),(3,.ptr (st.length+1) 0 0 0),(8,.sl false 1 24 (rows (slc 1 8 N3) a0)),(9,.int .i64 (↑a0.length:Int)),(10,.int .i64 0)]) (T:=st++[some (.arr 0 1 0 [[.B3]]),some (.arr 0 1 0 [[.ref false (st.length+2) 0 0 0]]),some (.arr 0 2 32 (rows x5.cells []))]) (jL hsc (.lv (.live _ _ _ _ (.arr _ _ _ _ _ (.cons _ _ _ _ (.cons _ _ _ _ (.nref _ _ _ _ _ _ (iC.trans rfl)) .nil) (.same _))) (.lv (.nil _)))) (by simp) ⟨.s,.s,.s,.s,.s,trivial⟩ (by simp)) ?_
 refine aln 8 fun hl0=>?_
 refine rng (body:=bn n a0) (kk:=bp) (n:=a0.length) (s0:=[])
  (fun(gs0:Nat) (k0:Nat) (s0:(List x5))=>[(2,.ptr st.length 0 0 0),(3,.ptr (st.length+1) 0 0 0),(8,.sl false 1 24 (rows (slc 1 8 N3) a0)),(9,.int .i64 (↑a0.length:Int)),(10,.int .i64 (↑k0:Int))])
  (fun(gs0:Nat) (k0:Nat) (s0:(List x5))=>st++[some (.arr 0 1 0 [[.B3]]),some (.arr 0 1 0 [[.ref false (st.length+2) gs0 0 s0.length]]),some (.arr gs0 2 32 (rows x5.cells s0))])
  (fun(gt0:Nat) (t0:(List x5))=>[(2,.ptr st.length 0 0 0),(3,.ptr (st.length+1) 0 0 0)])
  (fun(gt0:Nat) (t0:(List x5))=>st++[some (.arr 0 1 0 [[.B3]]),some (.arr 0 1 0 [[.ref false (st.length+2) gt0 0 t0.length]]),some (.arr gt0 2 32 (rows x5.cells t0))])
  0 fx hl0 h (bm hsc)
  (fun gs0 k0 s0 b0 fx h hx0=>?_) (fun gs0 s0=>?_) (fun gt0 t0 fr1 st1 h hb=>?_)
 ·unfold bn at h
  refine ct ?_
  obtain⟨fx,h⟩:=ck fx h
  refine r0 ?_
  refine r0 ?_
  refine r0 ?_
  refine r0 ?_
  refine r0 ?_
  (repeat apply sq_)
  refine cY 2 16 ?_
  try simp only[List.append_assoc,List.cons_append,List.nil_append]
  refine K6 (F:=[(2,.ptr st.length 0 0 0),(3,.ptr (st.length+1) 0 0 0),(5,.sl false 1 8 (rows N3 (get a0 k0))),(6,.ptr (st.length+3) 0 0 0),(7,.int .i64 1),(8,.sl false 1 24 (rows (slc 1 8 N3) a0)),(9,.int .i64 (↑a0.length:Int)),(10,.int .i64 (↑k0:Int))]) (T:=st++[some (.arr 0 1 0 [[.B3]]),some (.arr 0 1 0 [[.ref false (st.length+2) gs0 0 s0.length]]),some (.arr gs0 2 32 (rows x5.cells s0)),some (.arr 0 2 0 [[.int .i64 (get (get a0 k0) 0),.ref false (st.length+4) 0 0 0]]),some (.arr 0 2 16 (rows D3.cells []))]) (jL hsc (.lv (.lv (.lv (.live _ _ _ _ (.arr _ _ _ _ _ (.cons _ _ _ _ (.cons _ _ _ _ .s (.cons _ _ _ _ (.nref _ _ _ _ _ _ (iC.trans rfl)) .nil)) (.same _))) (.lv (.nil _)))))) (by simp) ⟨.s,.s,.s,.s,.s,.s,.s,.s,trivial⟩ (by simp)) ?_
  (repeat apply sq_)
  refine H9 (body:=bh a0 k0) (kk:=bk s0 a0 k0) (n:=n) (s0:=([],1))
   (fun(gs2:Nat) (s2:(List D3)×Int)=>[(2,.ptr st.length 0 0 0),(3,.ptr (st.length+1) 0 0 0),(5,.sl false 1 8 (rows N3 (get a0 k0))),(6,.ptr (st.length+3) 0 0 0),(7,.int .i64 s2.2),(8,.sl false 1 24 (rows (slc 1 8 N3) a0)),(9,.int .i64 (↑a0.length:Int)),(10,.int .i64 (↑k0:Int))])
   (fun(gs2:Nat) (s2:(List D3)×Int)=>st++[some (.arr 0 1 0 [[.B3]]),some (.arr 0 1 0 [[.ref false (st.length+2) gs0 0 s0.length]]),some (.arr gs0 2 32 (rows x5.cells s0)),some (.arr 0 2 0 [[.int .i64 (get (get a0 k0) 0),.ref false (st.length+4) gs2 0 s2.1.length]]),some (.arr gs2 2 16 (rows D3.cells s2.1))])
   (fun(gt2:Nat) (t2:(List D3))=>[(2,.ptr st.length 0 0 0),(3,.ptr (st.length+1) 0 0 0),(6,.ptr (st.length+3) 0 0 0),(8,.sl false 1 24 (rows (slc 1 8 N3) a0)),(9,.int .i64 (↑a0.length:Int)),(10,.int .i64 (↑k0:Int))])
   (fun(gt2:Nat) (t2:(List D3))=>st++[some (.arr 0 1 0 [[.B3]]),some (.arr 0 1 0 [[.ref false (st.length+2) gs0 0 s0.length]]),some (.arr gs0 2 32 (rows x5.cells s0)),some (.arr 0 2 0 [[.int .i64 (get (get a0 k0) 0),.ref false (st.length+4) gt2 0 t2.length]]),some (.arr gt2 2 16 (rows D3.cells t2))])
   0 h (bm hsc)
   (fun gs2 s2 b2 h hx2=>?_) (fun gt2 t2 fr1 st1 h hb=>?_)
  ·unfold bh at h
   refine cd h (fun hc h=>?_) fun hc h=>?_
   ·refine rn ?_
    obtain⟨fx,h⟩:=ck fx h
    obtain⟨fx,h⟩:=ck fx h
    obtain⟨c38,Tt,h⟩:=mO h
    have fy:=(show rows D3.cells s2.1++[[.int .i64 (get (get a0 k0) s2.2.toNat),.int .i64 (get (get a0 k0) ((wr .i64 (s2.2+1)).toNat))]]=rows D3.cells c38 from by rw[Tt];first|exact N9 (E:=D3.cells) s2.1 [(D3.mk (get (get a0 k0) s2.2.toNat) (get (get a0 k0) ((wr .i64 (s2.2+1)).toNat)))]|simp only[go_sem,rows,List.map_append,List.map_cons,List.map_nil])
    have fy:=fa fy (show s2.1.length+1=c38.length from by rw[Tt];simp)
    obtain⟨fx,h⟩:=ck fx h
    refine dwy [] 2 ?_
    refine rn ?_
    cases h
    exact I6 (gs2+1) (bm hsc)
   ·refine rn ?_
    cases h
    exact T2 gs2 (bm hsc)
  ·try simp only[go_sem,fx]
   unfold bk at h
   refine K6 hb ?_
   obtain⟨fx,h⟩:=ck fx h
   refine rn ?_
   cases h
   exact aT (gs0+1) (bm hsc (hu:=(.lv (.live _ _ _ _ (.arr _ _ _ _ _ (.cons _ _ _ _ (.cons _ _ _ _ (nU (by first|(simp;done)|simp[Fr.get])) .nil) (.same _))) (.live _ _ _ _ (.arr _ _ _ _ _ (ji (.cons _ _ _ _ (.cons _ _ _ _ .s (.cons _ _ _ _ (.ref _ _ _ _ _ _ _ _ _ (iC.trans rfl) (cD (by first|decide|simp)) (by decide) (lQ _) (by simp only[go_sem])) .nil)) .nil))) (.nil _))))))
 ·refine cf ?_
  refine X5 ?_;simp only[go_sem,fx]
  exact⟨gs0,(bm hsc)⟩
 ·try simp only[go_sem,fx]
  unfold bp at h
  refine K6 hb ?_
  refine rr ?_
  exact fo (.agg [.sl false 2 32 (rows x5.cells t0)]) (.agg _ _ (.cons _ _ _ _ (.ref _ _ _ _ _ _ _ _ _ (iC.trans rfl) uX (by decide) (lQ _) (by simp only[go_sem])) .nil)) h hsc
theorem C6(a0:Bs)(a1:u0)(r:w6)(h:C8 a0 a1=some r):Pure Tryz.prog gl 43 [.str a0,.agg [.str a1.base,.sl false 2 40 (rows u0.cells a1.args)]] (.agg [.int .i64 r.kind,.str r.name,.int .i64 r.index,.str r.type.base,.sl false 2 40 (rows u0.cells r.type.args),.sl false 6 96 (rows w6.cells r.args)]):=by
 intro st
 unfold C8 at h
 have fx:=trivial
 refine fb 8 [.cell 4 66] [0,1,3,4] Tryz.func43 fun hsc=>?_
 refine rr ?_
 exact fo (.agg [.int .i64 1,.str a0,.int .i64 0,.str a1.base,.sl false 2 40 (rows u0.cells a1.args),.sl false 6 96 (rows w6.cells [])]) (.agg _ _ (.cons _ _ _ _ .s (.cons _ _ _ _ .s (.cons _ _ _ _ .s (.cons _ _ _ _ .s (.cons _ _ _ _ .s (.cons _ _ _ _ (.B3 _ _ _ (by decide)) .nil))))))) h hsc
theorem Y7(a0:Bs)(a1:Bs)(a2:Bool)(r:w6)(h:O6 a0 a1 a2=some r):Pure Tryz.prog gl 42 [.str a0,.str a1,.bool a2] (.agg [.int .i64 r.kind,.str r.name,.int .i64 r.index,.str r.type.base,.sl false 2 40 (rows u0.cells r.type.args),.sl false 6 96 (rows w6.cells r.args)]):=by
 intro st
 unfold O6 at h
 have fx:=trivial
 refine fb 51 [.cell 6 66] [0,1,2,6,7,8,9,10,39] Tryz.func42 fun hsc=>?_
 refine cl h (O4 _) fun v1 h=>?_
 refine cl h (O4 _) fun v2 h=>?_
 refine cl h (D0 _ _) fun v3 h=>?_
 refine rn ?_
 refine dw [] 1 ?_
 obtain⟨v4,hv4,h⟩:=E4 h
 refine A9 (D0 _ _ _ hv4) ?_
 try simp only[go_sem,fx]
 obtain⟨v5,hv5,h⟩:=E4 h
 refine A9 (C6 _ _ _ hv5) ?_
 try simp only[go_sem,fx]
 obtain⟨v6,hv6,h⟩:=E4 h
 refine A9 (D0 _ _ _ hv6) ?_
 try simp only[go_sem,fx]
 obtain⟨v7,hv7,h⟩:=E4 h
 refine A9 (D0 _ _ _ hv7) ?_
 try simp only[go_sem,fx]
 obtain⟨v8,hv8,h⟩:=E4 h
 refine A9 (C6 _ _ _ hv8) ?_
 try simp only[go_sem,fx]
 obtain⟨v9,hv9,h⟩:=E4 h
 refine A9 (y8 _ _ hv9) ?_
 try simp only[go_sem,fx]
 obtain⟨v10,hv10,h⟩:=E4 h
 refine A9 (y8 _ _ hv10) ?_
 try simp only[go_sem,fx]
 obtain⟨v11,hv11,h⟩:=E4 h
 refine A9 (B8 _ _ _ hv11) ?_
 try simp only[go_sem,fx]
 obtain⟨v12,hv12,h⟩:=E4 h
 refine A9 (B8 _ _ _ hv12) ?_
 try simp only[go_sem,fx]
 obtain⟨v13,hv13,h⟩:=E4 h
 refine A9 (y8 _ _ hv13) ?_
 try simp only[go_sem,fx]
 obtain⟨v14,hv14,h⟩:=E4 h
 refine A9 (y8 _ _ hv14) ?_
 try simp only[go_sem,fx]
 obtain⟨v15,hv15,h⟩:=E4 h
 refine A9 (B8 _ _ _ hv15) ?_
 try simp only[go_sem,fx]
 obtain⟨v16,hv16,h⟩:=E4 h
 refine A9 (B8 _ _ _ hv16) ?_
 try simp only[go_sem,fx]
 obtain⟨v17,hv17,h⟩:=E4 h
 refine A9 (B0 _ _ _ hv17) ?_
 try simp only[go_sem,fx]
 obtain⟨v18,hv18,h⟩:=E4 h
 refine A9 (B8 _ _ _ hv18) ?_
 try simp only[go_sem,fx]
 refine rn ?_
 refine nk (Q9 v3) r (fun(gj0:Unit) (j0:Int×Bs×Int×Bs×(List u0)×(List w6))=>[(6,.ptr st.length 0 0 0),(9,.ptr (st.length+3) 0 0 0),(10,.ptr (st.length+4) 0 0 0)]) (fun(gj0:Unit) (j0:Int×Bs×Int×Bs×(List u0)×(List w6))=>st++[some (.arr 0 6 0 [[.int .i64 0,.str [],.int .i64 0,.str [],.B3,.B3]]),none,none,some (.arr 0 2 0 [[.str v3.base,.sl false 2 40 (rows u0.cells v3.args)]]),some (.arr 0 6 0 [[.int .i64 j0.1,.str j0.2.1,.int .i64 j0.2.2.1,.str j0.2.2.2.1,.sl false 2 40 (rows u0.cells j0.2.2.2.2.1),.sl false 6 96 (rows w6.cells j0.2.2.2.2.2)]])]) (fun gj0 j0 fr1 st1 h hb=>?_) (fun hj0=>?_)
 ·try simp only[go_sem,fx]
  unfold Q9 at h
  refine K6 hb ?_
  refine rs ?_
  refine dw [] 0 ?_
  obtain⟨v22,hv22,h⟩:=E4 h
  refine A9 (B0 _ _ _ hv22) ?_
  try simp only[go_sem,fx]
  obtain⟨v23,hv23,h⟩:=E4 h
  refine A9 (B0 _ _ _ hv23) ?_
  try simp only[go_sem,fx]
  exact rt
 ·refine cd h (fun hc h=>?_) fun hc h=>?_
  ·refine rs ?_
   refine dw [] 0 ?_
   obtain⟨v19,hv19,h⟩:=E4 h
   refine A9 (D0 _ _ _ hv19) ?_
   try simp only[go_sem,fx]
   obtain⟨v20,hv20,h⟩:=E4 h
   refine A9 (C6 _ _ _ hv20) ?_
   try simp only[go_sem,fx]
   obtain⟨v21,hv21,h⟩:=E4 h
   refine A9 (B8 _ _ _ hv21) ?_
   try simp only[go_sem,fx]
   refine hj0 () _ _ _ h ?_;exact(bm hsc)
  ·refine r0 ?_
   refine hj0 () _ _ _ h ?_;exact(bm hsc)
theorem B7(n:Nat)(a0:Bs)(a1:Int)(a2:w6)(a3:(List (List Int)))(jf:(List w8))(Qy:(List y3))(Qz:(List w4))(l1:(List x7))(l2:(List x5))(r:(List x7))(h:C0 n a0 a1 a2 a3 jf Qy Qz l1 l2=some r):∀(st:St) (o0 o1 o2 q1 q2:Nat) (hnd: [o0,o1,o2].Nodup) (oM:Am.look st o0=some (.arr 0 5 0 [[.sl false 2 40 (rows w8.cells jf),.sl false 3 32 (rows y3.cells Qy),.sl false 10 152 (rows w4.cells Qz),.ref false o1 q1 0 l1.length,.ref false o2 q2 0 l2.length]])) (JG:Am.look st o1=some (.arr q1 9 144 (rows x7.cells l1))) (NC:Am.look st o2=some (.arr q2 2 32 (rows x5.cells l2))),Am.Spec Tryz.prog gl 41 [.str a0,.int .i64 a1,.agg [.int .i64 a2.kind,.str a2.name,.int .i64 a2.index,.str a2.type.base,.sl false 2 40 (rows u0.cells a2.type.args),.sl false 6 96 (rows w6.cells a2.args)],.sl false 1 24 (rows (slc 1 8 N3) a3),.ptr o0 0 0 0] st (fun d st'=>d= .tup []∧st'=puts st [(o0,(.arr 0 5 0 [[.sl false 2 40 (rows w8.cells jf),.sl false 3 32 (rows y3.cells Qy),.sl false 10 152 (rows w4.cells Qz),.ref false o1 (q1+1) 0 r.length,.ref false o2 q2 0 l2.length]])),(o1,(.arr (q1+1) 9 144 (rows x7.cells r))),(o2,(.arr q2 2 32 (rows x5.cells l2)))]):=by
 intro st o0 o1 o2 q1 q2 hnd oM JG NC
 unfold C0 at h
 have ho0:=cE oM
 have ho1:=cE JG
 have ho2:=cE NC
 have fx:=fa (fa (fa (idf ho0) (idf ho1)) (idf ho2)) (nd3 hnd)
 refine fb 20 [] [0,1,2,3,4,7] Tryz.func41 fun hsc=>?_
 refine lZ (s':=(Z4 st [(o0,(.arr 0 5 0 [[.sl false 2 40 (rows w8.cells jf),.sl false 3 32 (rows y3.cells Qy),.sl false 10 152 (rows w4.cells Qz),.ref false o1 q1 0 l1.length,.ref false o2 q2 0 l2.length]])),(o1,(.arr q1 9 144 (rows x7.cells l1))),(o2,(.arr q2 2 32 (rows x5.cells l2)))])) (N6 (by simp[oM,JG,NC])) ?_
 refine rn ?_
 refine dw [] 2 ?_
 obtain⟨v1,hv1,h⟩:=E4 h
 refine A9 (F7 n _ _ hv1) ?_
 obtain⟨c3,hc3,h⟩:=mO h
 have fy:=(show rows x7.cells l1++[[.str a0,.sl false 2 32 (rows x5.cells v1.nodes),.int .i64 a1,.int .i64 a2.kind,.str a2.name,.int .i64 a2.index,.str a2.type.base,.sl false 2 40 (rows u0.cells a2.type.args),.sl false 6 96 (rows w6.cells a2.args)]]=rows x7.cells c3 from by rw[hc3];first|exact N9 (E:=x7.cells) l1 [(x7.mk a0 v1 a1 a2)]|simp only[go_sem,rows,List.map_append,List.map_cons,List.map_nil])
 have fy:=fa fy (show l1.length+1=c3.length from by rw[hc3];simp)
 obtain⟨fx,h⟩:=ck fx h
 try simp only[go_sem,fx,fy]
 refine rr ?_
 exact fuo (.tup []) (.same _) h hsc
theorem iA(n:Nat)(r:x9)(h:bO n=some r):Pure Tryz.prog gl 12 [] (.agg [.sl false 2 40 (rows w8.cells r.hierarchy.types),.sl false 3 32 (rows y3.cells r.hierarchy.B1),.sl false 10 152 (rows w4.cells r.rules),.sl false 9 144 (rows x7.cells r.y9),.sl false 2 32 (rows x5.cells r.start.nodes)]):=by
 intro st
 unfold bO at h
 have fx:=trivial
 refine fb 256 [.cell 0 32] [0,1,2,3,4,5,6,7] Tryz.func12 fun hsc=>?_
 refine cl h (O4 _) fun v1 h=>?_
 refine cl h (O4 _) fun v2 h=>?_
 refine cl h (D0 _ _) fun v3 h=>?_
 refine cl h (D0 _ _) fun v4 h=>?_
 refine cl h (jI _ _ _) fun v8 h=>?_
 refine cl h (lE _) fun v9 h=>?_
 refine rn ?_
 obtain⟨fx,h⟩:=ck fx h
 refine dw [] 37 ?_
 obtain⟨v17,hv17,h⟩:=E4 h
 refine A9 (F7 n _ _ hv17) ?_
 obtain⟨fx,h⟩:=ck fx h
 try simp only[go_sem,fx]
 obtain⟨v25,hv25,h⟩:=E4 h
 refine A9 (F7 n _ _ hv25) ?_
 obtain⟨fx,h⟩:=ck fx h
 try simp only[go_sem,fx]
 obtain⟨v32,hv32,h⟩:=E4 h
 refine A9 (F7 n _ _ hv32) ?_
 obtain⟨fx,h⟩:=ck fx h
 try simp only[go_sem,fx]
 obtain⟨v40,hv40,h⟩:=E4 h
 refine A9 (F7 n _ _ hv40) ?_
 obtain⟨fx,h⟩:=ck fx h
 try simp only[go_sem,fx]
 obtain⟨v48,hv48,h⟩:=E4 h
 refine A9 (F7 n _ _ hv48) ?_
 obtain⟨fx,h⟩:=ck fx h
 try simp only[go_sem,fx]
 obtain⟨v57,hv57,h⟩:=E4 h
 refine A9 (F7 n _ _ hv57) ?_
 try simp only[go_sem,fx]
 refine r0 ?_
 (repeat apply sq_)
 refine cY 9 144 ?_
 refine cY 2 32 ?_
 try simp only[List.append_assoc,List.cons_append,List.nil_append]
 refine K6 (F:=[(0,.ptr st.length 0 0 0),(1,.ptr (st.length+1) 0 0 0),(2,.ptr (st.length+2) 0 0 0),(3,.ptr (st.length+3) 0 0 0),(4,.ptr (st.length+4) 0 0 0),(5,.ptr (st.length+5) 0 0 0),(7,.fn 41 [] [.ptr (st.length+5) 0 0 0])]) (T:=st++[some (.arr 0 5 0 [[.B3,.B3,.B3,.B3,.B3]]),some (.arr 0 2 0 [[.str v1.base,.sl false 2 40 (rows u0.cells v1.args)]]),some (.arr 0 2 0 [[.str v2.base,.sl false 2 40 (rows u0.cells v2.args)]]),some (.arr 0 2 0 [[.str v3.base,.sl false 2 40 (rows u0.cells v3.args)]]),some (.arr 0 2 0 [[.str v4.base,.sl false 2 40 (rows u0.cells v4.args)]]),some (.arr 0 5 0 [[.sl false 2 40 (rows w8.cells v8.types),.sl false 3 32 (rows y3.cells v8.B1),.sl false 10 152 [[.str [115],.sl false 2 32 (rows x5.cells v17.nodes),.int .i64 2,.int .i64 0,.int .i64 ((get v9 0).kind),.str ((get v9 0).name),.int .i64 ((get v9 0).index),.str ((get v9 0).type.base),.sl false 2 40 (rows u0.cells ((get v9 0).type.args)),.sl false 6 96 (rows w6.cells ((get v9 0).args))],[.str [110,112],.sl false 2 32 (rows x5.cells v25.nodes),.int .i64 2,.int .i64 1,.int .i64 ((get v9 1).kind),.str ((get v9 1).name),.int .i64 ((get v9 1).index),.str ((get v9 1).type.base),.sl false 2 40 (rows u0.cells ((get v9 1).type.args)),.sl false 6 96 (rows w6.cells ((get v9 1).args))],[.str [118,112,45,105,118],.sl false 2 32 (rows x5.cells v32.nodes),.int .i64 1,.int .i64 0,.int .i64 ((get v9 2).kind),.str ((get v9 2).name),.int .i64 ((get v9 2).index),.str ((get v9 2).type.base),.sl false 2 40 (rows u0.cells ((get v9 2).type.args)),.sl false 6 96 (rows w6.cells ((get v9 2).args))],[.str [118,112,45,116,118],.sl false 2 32 (rows x5.cells v40.nodes),.int .i64 2,.int .i64 2,.int .i64 ((get v9 3).kind),.str ((get v9 3).name),.int .i64 ((get v9 3).index),.str ((get v9 3).type.base),.sl false 2 40 (rows u0.cells ((get v9 3).type.args)),.sl false 6 96 (rows w6.cells ((get v9 3).args))],[.str [118,112,45,110,111,116],.sl false 2 32 (rows x5.cells v48.nodes),.int .i64 2,.int .i64 3,.int .i64 ((get v9 4).kind),.str ((get v9 4).name),.int .i64 ((get v9 4).index),.str ((get v9 4).type.base),.sl false 2 40 (rows u0.cells ((get v9 4).type.args)),.sl false 6 96 (rows w6.cells ((get v9 4).args))],[.str [110,112,45,97,110,100],.sl false 2 32 (rows x5.cells v57.nodes),.int .i64 3,.int .i64 4,.int .i64 ((get v9 5).kind),.str ((get v9 5).name),.int .i64 ((get v9 5).index),.str ((get v9 5).type.base),.sl false 2 40 (rows u0.cells ((get v9 5).type.args)),.sl false 6 96 (rows w6.cells ((get v9 5).args))]],.ref false (st.length+43) 0 0 0,.ref false (st.length+44) 0 0 0]]),none,none,none,none,none,none,none,none,none,none,none,none,none,none,none,none,none,none,none,none,none,none,none,none,none,none,none,none,none,none,none,none,none,none,none,none,none,some (.arr 0 9 144 (rows x7.cells [])),some (.arr 0 2 32 (rows x5.cells []))]) (jL hsc (.lv (.lv (.lv (.lv (.lv (.live _ _ _ _ (.arr _ _ _ _ _ (.cons _ _ _ _ (.cons _ _ _ _ .s (.cons _ _ _ _ .s (.cons _ _ _ _ .s (.cons _ _ _ _ (.nref _ _ _ _ _ _ (iC.trans rfl)) (.cons _ _ _ _ (.nref _ _ _ _ _ _ (iC.trans rfl)) .nil))))) (.same _))) (.dead _ _ _ (.dead _ _ _ (.dead _ _ _ (.dead _ _ _ (.dead _ _ _ (.dead _ _ _ (.dead _ _ _ (.dead _ _ _ (.dead _ _ _ (.dead _ _ _ (.dead _ _ _ (.dead _ _ _ (.dead _ _ _ (.dead _ _ _ (.dead _ _ _ (.dead _ _ _ (.dead _ _ _ (.dead _ _ _ (.dead _ _ _ (.dead _ _ _ (.dead _ _ _ (.dead _ _ _ (.dead _ _ _ (.dead _ _ _ (.dead _ _ _ (.dead _ _ _ (.dead _ _ _ (.dead _ _ _ (.dead _ _ _ (.dead _ _ _ (.dead _ _ _ (.dead _ _ _ (.dead _ _ _ (.dead _ _ _ (.dead _ _ _ (.dead _ _ _ (.dead _ _ _ (.lv (.lv (.nil _)))))))))))))))))))))))))))))))))))))))))))))) (by simp) ⟨.s,.s,.s,.s,.s,.s,.s,trivial⟩ (by simp)) ?_
 refine cl h (Y7 _ _ _) fun v59 h=>?_
 refine rn ?_
 obtain⟨v63,hv63,h⟩:=E4 h
 refine(B7 n _ _ _ _ _ _ _ _ _ _ hv63 _ _ _ _ 0 0 (by simp) (cV.trans rfl) (cV.trans rfl) (cV.trans rfl)).mono ?_
 rintro d1 st1 ⟨rfl,rfl⟩
 refine cl h (Y7 _ _ _) fun v64 h=>?_
 refine rn ?_
 obtain⟨v68,hv68,h⟩:=E4 h
 refine(B7 n _ _ _ _ _ _ _ _ _ _ hv68 _ _ _ _ 1 0 (by simp) (cV.trans rfl) (cV.trans rfl) (cV.trans rfl)).mono ?_
 rintro d1 st1 ⟨rfl,rfl⟩
 refine cl h (Y7 _ _ _) fun v69 h=>?_
 refine rn ?_
 obtain⟨v72,hv72,h⟩:=E4 h
 refine(B7 n _ _ _ _ _ _ _ _ _ _ hv72 _ _ _ _ 2 0 (by simp) (cV.trans rfl) (cV.trans rfl) (cV.trans rfl)).mono ?_
 rintro d1 st1 ⟨rfl,rfl⟩
 refine cl h (C6 _ _) fun v73 h=>?_
 refine rn ?_
 obtain⟨v77,hv77,h⟩:=E4 h
 refine(B7 n _ _ _ _ _ _ _ _ _ _ hv77 _ _ _ _ 3 0 (by simp) (cV.trans rfl) (cV.trans rfl) (cV.trans rfl)).mono ?_
 rintro d1 st1 ⟨rfl,rfl⟩
 refine cl h (C6 _ _) fun v78 h=>?_
 refine rn ?_
 obtain⟨v82,hv82,h⟩:=E4 h
 refine(B7 n _ _ _ _ _ _ _ _ _ _ hv82 _ _ _ _ 4 0 (by simp) (cV.trans rfl) (cV.trans rfl) (cV.trans rfl)).mono ?_
 rintro d1 st1 ⟨rfl,rfl⟩
 refine cl h (C6 _ _) fun v83 h=>?_
 refine rn ?_
 obtain⟨v87,hv87,h⟩:=E4 h
 refine(B7 n _ _ _ _ _ _ _ _ _ _ hv87 _ _ _ _ 5 0 (by simp) (cV.trans rfl) (cV.trans rfl) (cV.trans rfl)).mono ?_
 rintro d1 st1 ⟨rfl,rfl⟩
 refine cl h (C6 _ _) fun v88 h=>?_
 refine rn ?_
 obtain⟨v92,hv92,h⟩:=E4 h
 refine(B7 n _ _ _ _ _ _ _ _ _ _ hv92 _ _ _ _ 6 0 (by simp) (cV.trans rfl) (cV.trans rfl) (cV.trans rfl)).mono ?_
 rintro d1 st1 ⟨rfl,rfl⟩
 refine cl h (C6 _ _) fun v93 h=>?_
 refine rn ?_
 obtain⟨v97,hv97,h⟩:=E4 h
 refine(B7 n _ _ _ _ _ _ _ _ _ _ hv97 _ _ _ _ 7 0 (by simp) (cV.trans rfl) (cV.trans rfl) (cV.trans rfl)).mono ?_
 rintro d1 st1 ⟨rfl,rfl⟩
 refine cl h (C6 _ _) fun v98 h=>?_
 refine rn ?_
 obtain⟨v102,hv102,h⟩:=E4 h
 refine(B7 n _ _ _ _ _ _ _ _ _ _ hv102 _ _ _ _ 8 0 (by simp) (cV.trans rfl) (cV.trans rfl) (cV.trans rfl)).mono ?_
 rintro d1 st1 ⟨rfl,rfl⟩
 refine cl h (C6 _ _) fun v103 h=>?_
 refine rn ?_
 obtain⟨v107,hv107,h⟩:=E4 h
 refine(B7 n _ _ _ _ _ _ _ _ _ _ hv107 _ _ _ _ 9 0 (by simp) (cV.trans rfl) (cV.trans rfl) (cV.trans rfl)).mono ?_
 rintro d1 st1 ⟨rfl,rfl⟩
 refine cl h (C6 _ _) fun v108 h=>?_
 refine rn ?_
 obtain⟨v112,hv112,h⟩:=E4 h
 refine(B7 n _ _ _ _ _ _ _ _ _ _ hv112 _ _ _ _ 10 0 (by simp) (cV.trans rfl) (cV.trans rfl) (cV.trans rfl)).mono ?_
 rintro d1 st1 ⟨rfl,rfl⟩
 refine cl h (C6 _ _) fun v113 h=>?_
 refine rn ?_
 obtain⟨v117,hv117,h⟩:=E4 h
 refine(B7 n _ _ _ _ _ _ _ _ _ _ hv117 _ _ _ _ 11 0 (by simp) (cV.trans rfl) (cV.trans rfl) (cV.trans rfl)).mono ?_
 rintro d1 st1 ⟨rfl,rfl⟩
 refine cl h (C6 _ _) fun v118 h=>?_
 refine rn ?_
 obtain⟨v122,hv122,h⟩:=E4 h
 refine(B7 n _ _ _ _ _ _ _ _ _ _ hv122 _ _ _ _ 12 0 (by simp) (cV.trans rfl) (cV.trans rfl) (cV.trans rfl)).mono ?_
 rintro d1 st1 ⟨rfl,rfl⟩
 refine cl h (C6 _ _) fun v123 h=>?_
 refine rn ?_
 obtain⟨v127,hv127,h⟩:=E4 h
 refine(B7 n _ _ _ _ _ _ _ _ _ _ hv127 _ _ _ _ 13 0 (by simp) (cV.trans rfl) (cV.trans rfl) (cV.trans rfl)).mono ?_
 rintro d1 st1 ⟨rfl,rfl⟩
 refine cl h (C6 _ _) fun v128 h=>?_
 refine rn ?_
 obtain⟨v132,hv132,h⟩:=E4 h
 refine(B7 n _ _ _ _ _ _ _ _ _ _ hv132 _ _ _ _ 14 0 (by simp) (cV.trans rfl) (cV.trans rfl) (cV.trans rfl)).mono ?_
 rintro d1 st1 ⟨rfl,rfl⟩
 refine cl h (C6 _ _) fun v133 h=>?_
 refine rn ?_
 obtain⟨v137,hv137,h⟩:=E4 h
 refine(B7 n _ _ _ _ _ _ _ _ _ _ hv137 _ _ _ _ 15 0 (by simp) (cV.trans rfl) (cV.trans rfl) (cV.trans rfl)).mono ?_
 rintro d1 st1 ⟨rfl,rfl⟩
 refine cl h (C6 _ _) fun v138 h=>?_
 refine rn ?_
 obtain⟨v142,hv142,h⟩:=E4 h
 refine(B7 n _ _ _ _ _ _ _ _ _ _ hv142 _ _ _ _ 16 0 (by simp) (cV.trans rfl) (cV.trans rfl) (cV.trans rfl)).mono ?_
 rintro d1 st1 ⟨rfl,rfl⟩
 refine cl h (D0 _ _) fun v143 h=>?_
 refine cl h (C6 _ _) fun v144 h=>?_
 refine rn ?_
 obtain⟨v147,hv147,h⟩:=E4 h
 refine(B7 n _ _ _ _ _ _ _ _ _ _ hv147 _ _ _ _ 17 0 (by simp) (cV.trans rfl) (cV.trans rfl) (cV.trans rfl)).mono ?_
 rintro d1 st1 ⟨rfl,rfl⟩
 refine rn ?_
 refine dw [9] 2 ?_
 obtain⟨v148,hv148,h⟩:=E4 h
 refine A9 (D0 _ _ _ hv148) ?_
 try simp only[go_sem,fx]
 obtain⟨v149,hv149,h⟩:=E4 h
 refine A9 (D0 _ _ _ hv149) ?_
 try simp only[go_sem,fx]
 obtain⟨v150,hv150,h⟩:=E4 h
 refine A9 (C6 _ _ _ hv150) ?_
 try simp only[go_sem,fx]
 obtain⟨v153,hv153,h⟩:=E4 h
 refine yX [(st.length+5),(st.length+43),(st.length+44)] (fun st2 h2=>(B7 n _ _ _ _ _ _ _ _ _ _ hv153 st2 _ _ _ 18 0 (by simp) ((h2 _ (by simp)).trans (cV.trans rfl)) ((h2 _ (by simp)).trans (cV.trans rfl)) ((h2 _ (by simp)).trans (cV.trans rfl)))) (by simp) (by simp only[List.mem_cons,List.not_mem_nil,or_false,forall_eq_or_imp,forall_eq];exact⟨⟨by first|omega|(simp<;>omega),_,(cV.trans rfl),Ob.noConfusion⟩,⟨by first|omega|(simp<;>omega),_,(cV.trans rfl),Ob.noConfusion⟩,⟨by first|omega|(simp<;>omega),_,(cV.trans rfl),Ob.noConfusion⟩⟩) (by simp) ?_
 try simp only[go_sem,fx]
 try refine⟨by(simp<;>omega),?_⟩
 refine rs ?_
 refine dw [10] 3 ?_
 obtain⟨v154,hv154,h⟩:=E4 h
 refine A9 (y8 _ _ hv154) ?_
 try simp only[go_sem,fx]
 obtain⟨v155,hv155,h⟩:=E4 h
 refine A9 (C6 _ _ _ hv155) ?_
 try simp only[go_sem,fx]
 obtain⟨v156,hv156,h⟩:=E4 h
 refine A9 (B8 _ _ _ hv156) ?_
 try simp only[go_sem,fx]
 obtain⟨v157,hv157,h⟩:=E4 h
 refine A9 (B0 _ _ _ hv157) ?_
 try simp only[go_sem,fx]
 obtain⟨v161,hv161,h⟩:=E4 h
 refine yX [(st.length+5),(st.length+43),(st.length+44)] (fun st2 h2=>(B7 n _ _ _ _ _ _ _ _ _ _ hv161 st2 _ _ _ 19 0 (by simp) ((h2 _ (by simp)).trans (cV.trans rfl)) ((h2 _ (by simp)).trans (cV.trans rfl)) ((h2 _ (by simp)).trans (cV.trans rfl)))) (by simp) (by simp only[List.mem_cons,List.not_mem_nil,or_false,forall_eq_or_imp,forall_eq];exact⟨⟨by first|omega|(simp<;>omega),_,(cV.trans rfl),Ob.noConfusion⟩,⟨by first|omega|(simp<;>omega),_,(cV.trans rfl),Ob.noConfusion⟩,⟨by first|omega|(simp<;>omega),_,(cV.trans rfl),Ob.noConfusion⟩⟩) (by simp) ?_
 try simp only[go_sem,fx]
 try refine⟨by(simp<;>omega),?_⟩
 refine rs ?_
 refine dw [10] 3 ?_
 obtain⟨v162,hv162,h⟩:=E4 h
 refine A9 (y8 _ _ hv162) ?_
 try simp only[go_sem,fx]
 obtain⟨v163,hv163,h⟩:=E4 h
 refine A9 (C6 _ _ _ hv163) ?_
 try simp only[go_sem,fx]
 obtain⟨v164,hv164,h⟩:=E4 h
 refine A9 (B8 _ _ _ hv164) ?_
 try simp only[go_sem,fx]
 obtain⟨v165,hv165,h⟩:=E4 h
 refine A9 (B0 _ _ _ hv165) ?_
 try simp only[go_sem,fx]
 obtain⟨v169,hv169,h⟩:=E4 h
 refine yX [(st.length+5),(st.length+43),(st.length+44)] (fun st2 h2=>(B7 n _ _ _ _ _ _ _ _ _ _ hv169 st2 _ _ _ 20 0 (by simp) ((h2 _ (by simp)).trans (cV.trans rfl)) ((h2 _ (by simp)).trans (cV.trans rfl)) ((h2 _ (by simp)).trans (cV.trans rfl)))) (by simp) (by simp only[List.mem_cons,List.not_mem_nil,or_false,forall_eq_or_imp,forall_eq];exact⟨⟨by first|omega|(simp<;>omega),_,(cV.trans rfl),Ob.noConfusion⟩,⟨by first|omega|(simp<;>omega),_,(cV.trans rfl),Ob.noConfusion⟩,⟨by first|omega|(simp<;>omega),_,(cV.trans rfl),Ob.noConfusion⟩⟩) (by simp) ?_
 try simp only[go_sem,fx]
 try refine⟨by(simp<;>omega),?_⟩
 refine cl h (F7 n _) fun v172 h=>?_
 refine rr ?_
 exact fo (.agg [.sl false 2 40 (rows w8.cells v8.types),.sl false 3 32 (rows y3.cells v8.B1),.sl false 10 152 (rows w4.cells [(w4.mk [115] v17 2 0 (get v9 0)),(w4.mk [110,112] v25 2 1 (get v9 1)),(w4.mk [118,112,45,105,118] v32 1 0 (get v9 2)),(w4.mk [118,112,45,116,118] v40 2 2 (get v9 3)),(w4.mk [118,112,45,110,111,116] v48 2 3 (get v9 4)),(w4.mk [110,112,45,97,110,100] v57 3 4 (get v9 5))]),.sl false 9 144 (rows x7.cells v169),.sl false 2 32 (rows x5.cells v172.nodes)]) (.agg _ _ (.cons _ _ _ _ .s (.cons _ _ _ _ .s (.cons _ _ _ _ .s (.cons _ _ _ _ (.ref _ _ _ _ _ _ _ _ _ (iC.trans rfl) uX (by decide) (lQ _) (by simp only[go_sem])) (.cons _ _ _ _ .s .nil)))))) h hsc
end Go.Proofs.YtonfgoanbllceaaGreatDoor
