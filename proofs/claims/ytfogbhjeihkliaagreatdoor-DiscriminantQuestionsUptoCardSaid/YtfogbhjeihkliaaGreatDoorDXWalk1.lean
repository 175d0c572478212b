import Derived.Test.YtfogbhjeihkliaaGreatDoorDXWalk0
set_option linter.unusedVariables false
set_option linter.unusedSimpArgs false
set_option maxHeartbeats 2000000
set_option maxRecDepth 100000
namespace Go.Proofs.YtfogbhjeihkliaaGreatDoor
open Go Go.Am
theorem I6(n:Nat)(a0:(List (List Int)))(r:B3)(h:H8 n a0=some r):Pure Tryz.prog gl 41 [.sl false 1 24 (rows (slc 1 8 Z4) a0)] (.agg [.sl false 2 32 (rows y4.cells r.nodes)]):=by
 intro st
 unfold H8 at h
 have fx:=trivial
 refine fb 48 [.cell 2 30] [0,2,3,5,6,7,8,9,10,11,22] Tryz.func41 fun hsc=>?_
 refine r0 ?_
 refine r0 ?_
 refine r0 ?_
 (repeat apply sq_)
 refine oI 2 32 ?_
 try simp only[List.append_assoc,List.cons_append,List.nil_append]
 refine R4 (F:=[(2,.ptr st.length 0 0 0),(3,.ptr (st.length+1) 0 0 0),(8,.sl false 1 24 (rows (slc 1 8 Z4) a0)),(9,.int .i64 (↑a0.length:Int)),(10,.int .i64 0)]) (T:=st++[some (.arr 0 1 0 [[.F6]]),some (.arr 0 1 0 [[.ref false (st.length+2) 0 0 0]]),some (.arr 0 2 32 (rows y4.cells []))]) (Af hsc (.lv (.live _ _ _ _ (.arr _ _ _ _ _ (.cons _ _ _ _ (.cons _ _ _ _ (.nref _ _ _ _ _ _ (pL.trans rfl)) .nil) (.same _))) (.lv (.nil _)))) (by simp) ⟨.s,.s,.s,.s,.s,trivial⟩ (by simp)) ?_
 refine aln 8 fun hl0=>?_
 refine rng (body:=dZ n a0) (kk:=ep) (n:=a0.length) (s0:=[])
  (fun(gs0:Nat) (k0:Nat) (s0:(List y4))=>[(2,.ptr st.length 0 0 0),(3,.ptr (st.length+1) 0 0 0),(8,.sl false 1 24 (rows (slc 1 8 Z4) a0)),(9,.int .i64 (↑a0.length:Int)),(10,.int .i64 (↑k0:Int))])
  (fun(gs0:Nat) (k0:Nat) (s0:(List y4))=>st++[some (.arr 0 1 0 [[.F6]]),some (.arr 0 1 0 [[.ref false (st.length+2) gs0 0 s0.length]]),some (.arr gs0 2 32 (rows y4.cells s0))])
  (fun(gt0:Nat) (t0:(List y4))=>[(2,.ptr st.length 0 0 0),(3,.ptr (st.length+1) 0 0 0)])
  (fun(gt0:Nat) (t0:(List y4))=>st++[some (.arr 0 1 0 [[.F6]]),some (.arr 0 1 0 [[.ref false (st.length+2) gt0 0 t0.length]]),some (.arr gt0 2 32 (rows y4.cells t0))])
  0 fx hl0 h (bm hsc)
  (fun gs0 k0 s0 b0 fx h hx0=>?_) (fun gs0 s0=>?_) (fun gt0 t0 fr1 st1 h hb=>?_)
 ·unfold dZ at h
  refine ct ?_
  obtain⟨fx,h⟩:=ck fx h
  refine r0 ?_
  refine r0 ?_
  refine r0 ?_
  refine r0 ?_
  refine r0 ?_
  (repeat apply sq_)
  refine oI 2 16 ?_
  try simp only[List.append_assoc,List.cons_append,List.nil_append]
  refine R4 (F:=[(2,.ptr st.length 0 0 0),(3,.ptr (st.length+1) 0 0 0),(5,.sl false 1 8 (rows Z4 (get a0 k0))),(6,.ptr (st.length+3) 0 0 0),(7,.int .i64 1),(8,.sl false 1 24 (rows (slc 1 8 Z4) a0)),(9,.int .i64 (↑a0.length:Int)),(10,.int .i64 (↑k0:Int))]) (T:=st++[some (.arr 0 1 0 [[.F6]]),some (.arr 0 1 0 [[.ref false (st.length+2) gs0 0 s0.length]]),some (.arr gs0 2 32 (rows y4.cells s0)),some (.arr 0 2 0 [[.int .i64 (get (get a0 k0) 0),.ref false (st.length+4) 0 0 0]]),some (.arr 0 2 16 (rows G5.cells []))]) (Af hsc (.lv (.lv (.lv (.live _ _ _ _ (.arr _ _ _ _ _ (.cons _ _ _ _ (.cons _ _ _ _ .s (.cons _ _ _ _ (.nref _ _ _ _ _ _ (pL.trans rfl)) .nil)) (.same _))) (.lv (.nil _)))))) (by simp) ⟨.s,.s,.s,.s,.s,.s,.s,.s,trivial⟩ (by simp)) ?_
  (repeat apply sq_)
  refine E8 (body:=dX a0 k0) (kk:=dY s0 a0 k0) (n:=n) (s0:=([],1))
   (fun(gs2:Nat) (s2:(List G5)×Int)=>[(2,.ptr st.length 0 0 0),(3,.ptr (st.length+1) 0 0 0),(5,.sl false 1 8 (rows Z4 (get a0 k0))),(6,.ptr (st.length+3) 0 0 0),(7,.int .i64 s2.2),(8,.sl false 1 24 (rows (slc 1 8 Z4) a0)),(9,.int .i64 (↑a0.length:Int)),(10,.int .i64 (↑k0:Int))])
   (fun(gs2:Nat) (s2:(List G5)×Int)=>st++[some (.arr 0 1 0 [[.F6]]),some (.arr 0 1 0 [[.ref false (st.length+2) gs0 0 s0.length]]),some (.arr gs0 2 32 (rows y4.cells s0)),some (.arr 0 2 0 [[.int .i64 (get (get a0 k0) 0),.ref false (st.length+4) gs2 0 s2.1.length]]),some (.arr gs2 2 16 (rows G5.cells s2.1))])
   (fun(gt2:Nat) (t2:(List G5))=>[(2,.ptr st.length 0 0 0),(3,.ptr (st.length+1) 0 0 0),(6,.ptr (st.length+3) 0 0 0),(8,.sl false 1 24 (rows (slc 1 8 Z4) a0)),(9,.int .i64 (↑a0.length:Int)),(10,.int .i64 (↑k0:Int))])
   (fun(gt2:Nat) (t2:(List G5))=>st++[some (.arr 0 1 0 [[.F6]]),some (.arr 0 1 0 [[.ref false (st.length+2) gs0 0 s0.length]]),some (.arr gs0 2 32 (rows y4.cells s0)),some (.arr 0 2 0 [[.int .i64 (get (get a0 k0) 0),.ref false (st.length+4) gt2 0 t2.length]]),some (.arr gt2 2 16 (rows G5.cells t2))])
   0 h (bm hsc)
   (fun gs2 s2 b2 h hx2=>?_) (fun gt2 t2 fr1 st1 h hb=>?_)
  ·unfold dX at h
   refine cd h (fun hc h=>?_) fun hc h=>?_
   ·refine rn ?_
    obtain⟨fx,h⟩:=ck fx h
    obtain⟨fx,h⟩:=ck fx h
    obtain⟨c38,RQ,h⟩:=oz h
    have fy:=(show rows G5.cells s2.1++[[.int .i64 (get (get a0 k0) s2.2.toNat),.int .i64 (get (get a0 k0) ((wr .i64 (s2.2+1)).toNat))]]=rows G5.cells c38 from by rw[RQ];first|exact U8 (E:=G5.cells) s2.1 [(G5.mk (get (get a0 k0) s2.2.toNat) (get (get a0 k0) ((wr .i64 (s2.2+1)).toNat)))]|simp only[go_sem,rows,List.map_append,List.map_cons,List.map_nil])
    have fy:=fa fy (show s2.1.length+1=c38.length from by rw[RQ];simp)
    obtain⟨fx,h⟩:=ck fx h
    refine dwy [] 2 ?_
    refine rn ?_
    cases h
    exact F5 (gs2+1) (bm hsc)
   ·refine rn ?_
    cases h
    exact K7 gs2 (bm hsc)
  ·try simp only[go_sem,fx]
   unfold dY at h
   refine R4 hb ?_
   obtain⟨fx,h⟩:=ck fx h
   refine rn ?_
   cases h
   exact gW (gs0+1) (bm hsc (hu:=(.lv (.live _ _ _ _ (.arr _ _ _ _ _ (.cons _ _ _ _ (.cons _ _ _ _ (IW (by first|(simp;done)|simp[Fr.get])) .nil) (.same _))) (.live _ _ _ _ (.arr _ _ _ _ _ (yg (.cons _ _ _ _ (.cons _ _ _ _ .s (.cons _ _ _ _ (.ref _ _ _ _ _ _ _ _ _ (pL.trans rfl) (tQ (by first|decide|simp)) (by decide) (ru _) (by simp only[go_sem])) .nil)) .nil))) (.nil _))))))
 ·refine cf ?_
  refine gV ?_;simp only[go_sem,fx]
  exact⟨gs0,(bm hsc)⟩
 ·try simp only[go_sem,fx]
  unfold ep at h
  refine R4 hb ?_
  refine rr ?_
  exact fo (.agg [.sl false 2 32 (rows y4.cells t0)]) (.agg _ _ (.cons _ _ _ _ (.ref _ _ _ _ _ _ _ _ _ (pL.trans rfl) zq (by decide) (ru _) (by simp only[go_sem])) .nil)) h hsc
theorem C4(a0:Bs)(a1:w6)(r:x9)(h:C9 a0 a1=some r):Pure Tryz.prog gl 44 [.str a0,.agg [.str a1.base,.sl false 2 40 (rows w6.cells a1.args)]] (.agg [.int .i64 r.kind,.str r.name,.int .i64 r.index,.str r.type.base,.sl false 2 40 (rows w6.cells r.type.args),.sl false 6 96 (rows x9.cells r.args)]):=by
 intro st
 unfold C9 at h
 have fx:=trivial
 refine fb 8 [.cell 4 92] [0,1,3,4] Tryz.func44 fun hsc=>?_
 refine rr ?_
 exact fo (.agg [.int .i64 1,.str a0,.int .i64 0,.str a1.base,.sl false 2 40 (rows w6.cells a1.args),.sl false 6 96 (rows x9.cells [])]) (.agg _ _ (.cons _ _ _ _ .s (.cons _ _ _ _ .s (.cons _ _ _ _ .s (.cons _ _ _ _ .s (.cons _ _ _ _ .s (.cons _ _ _ _ (.F6 _ _ _ (by decide)) .nil))))))) h hsc
theorem cg(a0:Bs)(a1:Bs)(a2:Bool)(r:x9)(h:U5 a0 a1 a2=some r):Pure Tryz.prog gl 43 [.str a0,.str a1,.bool a2] (.agg [.int .i64 r.kind,.str r.name,.int .i64 r.index,.str r.type.base,.sl false 2 40 (rows w6.cells r.type.args),.sl false 6 96 (rows x9.cells r.args)]):=by
 intro st
 unfold U5 at h
 have fx:=trivial
 refine fb 51 [.cell 6 92] [0,1,2,6,7,8,9,10,39] Tryz.func43 fun hsc=>?_
 refine cl h (U2 _) fun v1 h=>?_
 refine cl h (U2 _) fun v2 h=>?_
 refine cl h (D6 _ _) fun v3 h=>?_
 refine rn ?_
 refine dw [] 1 ?_
 obtain⟨v4,hv4,h⟩:=F9 h
 refine A9 (D6 _ _ _ hv4) ?_
 try simp only[go_sem,fx]
 obtain⟨v5,hv5,h⟩:=F9 h
 refine A9 (C4 _ _ _ hv5) ?_
 try simp only[go_sem,fx]
 obtain⟨v6,hv6,h⟩:=F9 h
 refine A9 (D6 _ _ _ hv6) ?_
 try simp only[go_sem,fx]
 obtain⟨v7,hv7,h⟩:=F9 h
 refine A9 (D6 _ _ _ hv7) ?_
 try simp only[go_sem,fx]
 obtain⟨v8,hv8,h⟩:=F9 h
 refine A9 (C4 _ _ _ hv8) ?_
 try simp only[go_sem,fx]
 obtain⟨v9,hv9,h⟩:=F9 h
 refine A9 (y9 _ _ hv9) ?_
 try simp only[go_sem,fx]
 obtain⟨v10,hv10,h⟩:=F9 h
 refine A9 (y9 _ _ hv10) ?_
 try simp only[go_sem,fx]
 obtain⟨v11,hv11,h⟩:=F9 h
 refine A9 (B6 _ _ _ hv11) ?_
 try simp only[go_sem,fx]
 obtain⟨v12,hv12,h⟩:=F9 h
 refine A9 (B6 _ _ _ hv12) ?_
 try simp only[go_sem,fx]
 obtain⟨v13,hv13,h⟩:=F9 h
 refine A9 (y9 _ _ hv13) ?_
 try simp only[go_sem,fx]
 obtain⟨v14,hv14,h⟩:=F9 h
 refine A9 (y9 _ _ hv14) ?_
 try simp only[go_sem,fx]
 obtain⟨v15,hv15,h⟩:=F9 h
 refine A9 (B6 _ _ _ hv15) ?_
 try simp only[go_sem,fx]
 obtain⟨v16,hv16,h⟩:=F9 h
 refine A9 (B6 _ _ _ hv16) ?_
 try simp only[go_sem,fx]
 obtain⟨v17,hv17,h⟩:=F9 h
 refine A9 (A8 _ _ _ hv17) ?_
 try simp only[go_sem,fx]
 obtain⟨v18,hv18,h⟩:=F9 h
 refine A9 (B6 _ _ _ hv18) ?_
 try simp only[go_sem,fx]
 refine rn ?_
 refine iI (X3 v3) r (fun(gj0:Unit) (j0:Int×Bs×Int×Bs×(List w6)×(List x9))=>[(6,.ptr st.length 0 0 0),(9,.ptr (st.length+3) 0 0 0),(10,.ptr (st.length+4) 0 0 0)]) (fun(gj0:Unit) (j0:Int×Bs×Int×Bs×(List w6)×(List x9))=>st++[some (.arr 0 6 0 [[.int .i64 0,.str [],.int .i64 0,.str [],.F6,.F6]]),none,none,some (.arr 0 2 0 [[.str v3.base,.sl false 2 40 (rows w6.cells v3.args)]]),some (.arr 0 6 0 [[.int .i64 j0.1,.str j0.2.1,.int .i64 j0.2.2.1,.str j0.2.2.2.1,.sl false 2 40 (rows w6.cells j0.2.2.2.2.1),.sl false 6 96 (rows x9.cells j0.2.2.2.2.2)]])]) (fun gj0 j0 fr1 st1 h hb=>?_) (fun hj0=>?_)
 ·try simp only[go_sem,fx]
  unfold X3 at h
  refine R4 hb ?_
  refine rs ?_
  refine dw [] 0 ?_
  obtain⟨v22,hv22,h⟩:=F9 h
  refine A9 (A8 _ _ _ hv22) ?_
  try simp only[go_sem,fx]
  obtain⟨v23,hv23,h⟩:=F9 h
  refine A9 (A8 _ _ _ hv23) ?_
  try simp only[go_sem,fx]
  exact rt
 ·refine cd h (fun hc h=>?_) fun hc h=>?_
  ·refine rs ?_
   refine dw [] 0 ?_
   obtain⟨v19,hv19,h⟩:=F9 h
   refine A9 (D6 _ _ _ hv19) ?_
   try simp only[go_sem,fx]
   obtain⟨v20,hv20,h⟩:=F9 h
   refine A9 (C4 _ _ _ hv20) ?_
   try simp only[go_sem,fx]
   obtain⟨v21,hv21,h⟩:=F9 h
   refine A9 (B6 _ _ _ hv21) ?_
   try simp only[go_sem,fx]
   refine hj0 () _ _ _ h ?_;exact(bm hsc)
  ·refine r0 ?_
   refine hj0 () _ _ _ h ?_;exact(bm hsc)
theorem B4(n:Nat)(a0:Bs)(a1:Int)(a2:x9)(a3:(List (List Int)))(R2:(List x7))(RD:(List y8))(RE:(List x6))(l1:(List C5))(l2:(List y4))(r:(List C5))(h:B8 n a0 a1 a2 a3 R2 RD RE l1 l2=some r):∀(st:St) (o0 o1 o2 q1 q2:Nat) (hnd: [o0,o1,o2].Nodup) (jI:Am.look st o0=some (.arr 0 5 0 [[.sl false 2 40 (rows x7.cells R2),.sl false 3 32 (rows y8.cells RD),.sl false 10 152 (rows x6.cells RE),.ref false o1 q1 0 l1.length,.ref false o2 q2 0 l2.length]])) (sY:Am.look st o1=some (.arr q1 9 144 (rows C5.cells l1))) (BZ:Am.look st o2=some (.arr q2 2 32 (rows y4.cells l2))),Am.Spec Tryz.prog gl 42 [.str a0,.int .i64 a1,.agg [.int .i64 a2.kind,.str a2.name,.int .i64 a2.index,.str a2.type.base,.sl false 2 40 (rows w6.cells a2.type.args),.sl false 6 96 (rows x9.cells a2.args)],.sl false 1 24 (rows (slc 1 8 Z4) a3),.ptr o0 0 0 0] st (fun d st'=>d= .tup []∧st'=puts st [(o0,(.arr 0 5 0 [[.sl false 2 40 (rows x7.cells R2),.sl false 3 32 (rows y8.cells RD),.sl false 10 152 (rows x6.cells RE),.ref false o1 (q1+1) 0 r.length,.ref false o2 q2 0 l2.length]])),(o1,(.arr (q1+1) 9 144 (rows C5.cells r))),(o2,(.arr q2 2 32 (rows y4.cells l2)))]):=by
 intro st o0 o1 o2 q1 q2 hnd jI sY BZ
 unfold B8 at h
 have ho0:=T6 jI
 have ho1:=T6 sY
 have ho2:=T6 BZ
 have fx:=fa (fa (fa (idf ho0) (idf ho1)) (idf ho2)) (nd3 hnd)
 refine fb 20 [] [0,1,2,3,4,7] Tryz.func42 fun hsc=>?_
 refine mJ (s':=(aZ st [(o0,(.arr 0 5 0 [[.sl false 2 40 (rows x7.cells R2),.sl false 3 32 (rows y8.cells RD),.sl false 10 152 (rows x6.cells RE),.ref false o1 q1 0 l1.length,.ref false o2 q2 0 l2.length]])),(o1,(.arr q1 9 144 (rows C5.cells l1))),(o2,(.arr q2 2 32 (rows y4.cells l2)))])) (N5 (by simp[jI,sY,BZ])) ?_
 refine rn ?_
 refine dw [] 2 ?_
 obtain⟨v1,hv1,h⟩:=F9 h
 refine A9 (I6 n _ _ hv1) ?_
 obtain⟨c3,hc3,h⟩:=oz h
 have fy:=(show rows C5.cells l1++[[.str a0,.sl false 2 32 (rows y4.cells v1.nodes),.int .i64 a1,.int .i64 a2.kind,.str a2.name,.int .i64 a2.index,.str a2.type.base,.sl false 2 40 (rows w6.cells a2.type.args),.sl false 6 96 (rows x9.cells a2.args)]]=rows C5.cells c3 from by rw[hc3];first|exact U8 (E:=C5.cells) l1 [(C5.mk a0 v1 a1 a2)]|simp only[go_sem,rows,List.map_append,List.map_cons,List.map_nil])
 have fy:=fa fy (show l1.length+1=c3.length from by rw[hc3];simp)
 obtain⟨fx,h⟩:=ck fx h
 try simp only[go_sem,fx,fy]
 refine rr ?_
 exact fuo (.tup []) (.same _) h hsc
theorem ko(n:Nat)(r:x5)(h:eW n=some r):Pure Tryz.prog gl 22 [] (.agg [.sl false 2 40 (rows x7.cells r.hierarchy.types),.sl false 3 32 (rows y8.cells r.hierarchy.C1),.sl false 10 152 (rows x6.cells r.rules),.sl false 9 144 (rows C5.cells r.I7),.sl false 2 32 (rows y4.cells r.start.nodes)]):=by
 intro st
 unfold eW at h
 have fx:=trivial
 refine fb 256 [.cell 0 32] [0,1,2,3,4,5,6,7] Tryz.func22 fun hsc=>?_
 refine cl h (U2 _) fun v1 h=>?_
 refine cl h (U2 _) fun v2 h=>?_
 refine cl h (D6 _ _) fun v3 h=>?_
 refine cl h (D6 _ _) fun v4 h=>?_
 refine cl h (mw _ _ _) fun v8 h=>?_
 refine cl h (oc _) fun v9 h=>?_
 refine rn ?_
 obtain⟨fx,h⟩:=ck fx h
 refine dw [] 37 ?_
 obtain⟨v17,hv17,h⟩:=F9 h
 refine A9 (I6 n _ _ hv17) ?_
 obtain⟨fx,h⟩:=ck fx h
 try simp only[go_sem,fx]
 obtain⟨v25,hv25,h⟩:=F9 h
 refine A9 (I6 n _ _ hv25) ?_
 obtain⟨fx,h⟩:=ck fx h
 try simp only[go_sem,fx]
 obtain⟨v32,hv32,h⟩:=F9 h
 refine A9 (I6 n _ _ hv32) ?_
 obtain⟨fx,h⟩:=ck fx h
 try simp only[go_sem,fx]
 obtain⟨v40,hv40,h⟩:=F9 h
 refine A9 (I6 n _ _ hv40) ?_
 obtain⟨fx,h⟩:=ck fx h
 try simp only[go_sem,fx]
 obtain⟨v48,hv48,h⟩:=F9 h
 refine A9 (I6 n _ _ hv48) ?_
 obtain⟨fx,h⟩:=ck fx h
 try simp only[go_sem,fx]
 obtain⟨v57,hv57,h⟩:=F9 h
 refine A9 (I6 n _ _ hv57) ?_
 try simp only[go_sem,fx]
 refine r0 ?_
 (repeat apply sq_)
 refine oI 9 144 ?_
 refine oI 2 32 ?_
 try simp only[List.append_assoc,List.cons_append,List.nil_append]
 refine R4 (F:=[(0,.ptr st.length 0 0 0),(1,.ptr (st.length+1) 0 0 0),(2,.ptr (st.length+2) 0 0 0),(3,.ptr (st.length+3) 0 0 0),(4,.ptr (st.length+4) 0 0 0),(5,.ptr (st.length+5) 0 0 0),(7,.fn 42 [] [.ptr (st.length+5) 0 0 0])]) (T:=st++[some (.arr 0 5 0 [[.F6,.F6,.F6,.F6,.F6]]),some (.arr 0 2 0 [[.str v1.base,.sl false 2 40 (rows w6.cells v1.args)]]),some (.arr 0 2 0 [[.str v2.base,.sl false 2 40 (rows w6.cells v2.args)]]),some (.arr 0 2 0 [[.str v3.base,.sl false 2 40 (rows w6.cells v3.args)]]),some (.arr 0 2 0 [[.str v4.base,.sl false 2 40 (rows w6.cells v4.args)]]),some (.arr 0 5 0 [[.sl false 2 40 (rows x7.cells v8.types),.sl false 3 32 (rows y8.cells v8.C1),.sl false 10 152 [[.str [115],.sl false 2 32 (rows y4.cells v17.nodes),.int .i64 2,.int .i64 0,.int .i64 ((get v9 0).kind),.str ((get v9 0).name),.int .i64 ((get v9 0).index),.str ((get v9 0).type.base),.sl false 2 40 (rows w6.cells ((get v9 0).type.args)),.sl false 6 96 (rows x9.cells ((get v9 0).args))],[.str [110,112],.sl false 2 32 (rows y4.cells v25.nodes),.int .i64 2,.int .i64 1,.int .i64 ((get v9 1).kind),.str ((get v9 1).name),.int .i64 ((get v9 1).index),.str ((get v9 1).type.base),.sl false 2 40 (rows w6.cells ((get v9 1).type.args)),.sl false 6 96 (rows x9.cells ((get v9 1).args))],[.str [118,112,45,105,118],.sl false 2 32 (rows y4.cells v32.nodes),.int .i64 1,.int .i64 0,.int .i64 ((get v9 2).kind),.str ((get v9 2).name),.int .i64 ((get v9 2).index),.str ((get v9 2).type.base),.sl false 2 40 (rows w6.cells ((get v9 2).type.args)),.sl false 6 96 (rows x9.cells ((get v9 2).args))],[.str [118,112,45,116,118],.sl false 2 32 (rows y4.cells v40.nodes),.int .i64 2,.int .i64 2,.int .i64 ((get v9 3).kind),.str ((get v9 3).name),.int .i64 ((get v9 3).index),.str ((get v9 3).type.base),.sl false 2 40 (rows w6.cells ((get v9 3).type.args)),.sl false 6 96 (rows x9.cells ((get v9 3).args))],[.str [118,112,45,110,111,116],.sl false 2 32 (rows y4.cells v48.nodes),.int .i64 2,.int .i64 3,.int .i64 ((get v9 4).kind),.str ((get v9 4).name),.int .i64 ((get v9 4).index),.str ((get v9 4).type.base),.sl false 2 40 (rows w6.cells ((get v9 4).type.args)),.sl false 6 96 (rows x9.cells ((get v9 4).args))],[.str [110,112,45,97,110,100],.sl false 2 32 (rows y4.cells v57.nodes),.int .i64 3,.int .i64 4,.int .i64 ((get v9 5).kind),.str ((get v9 5).name),.int .i64 ((get v9 5).index),.str ((get v9 5).type.base),.sl false 2 40 (rows w6.cells ((get v9 5).type.args)),.sl false 6 96 (rows x9.cells ((get v9 5).args))]],.ref false (st.length+43) 0 0 0,.ref false (st.length+44) 0 0 0]]),none,none,none,none,none,none,none,none,none,none,none,none,none,none,none,none,none,none,none,none,none,none,none,none,none,none,none,none,none,none,none,none,none,none,none,none,none,some (.arr 0 9 144 (rows C5.cells [])),some (.arr 0 2 32 (rows y4.cells []))]) (Af hsc (.lv (.lv (.lv (.lv (.lv (.live _ _ _ _ (.arr _ _ _ _ _ (.cons _ _ _ _ (.cons _ _ _ _ .s (.cons _ _ _ _ .s (.cons _ _ _ _ .s (.cons _ _ _ _ (.nref _ _ _ _ _ _ (pL.trans rfl)) (.cons _ _ _ _ (.nref _ _ _ _ _ _ (pL.trans rfl)) .nil))))) (.same _))) (.dead _ _ _ (.dead _ _ _ (.dead _ _ _ (.dead _ _ _ (.dead _ _ _ (.dead _ _ _ (.dead _ _ _ (.dead _ _ _ (.dead _ _ _ (.dead _ _ _ (.dead _ _ _ (.dead _ _ _ (.dead _ _ _ (.dead _ _ _ (.dead _ _ _ (.dead _ _ _ (.dead _ _ _ (.dead _ _ _ (.dead _ _ _ (.dead _ _ _ (.dead _ _ _ (.dead _ _ _ (.dead _ _ _ (.dead _ _ _ (.dead _ _ _ (.dead _ _ _ (.dead _ _ _ (.dead _ _ _ (.dead _ _ _ (.dead _ _ _ (.dead _ _ _ (.dead _ _ _ (.dead _ _ _ (.dead _ _ _ (.dead _ _ _ (.dead _ _ _ (.dead _ _ _ (.lv (.lv (.nil _)))))))))))))))))))))))))))))))))))))))))))))) (by simp) ⟨.s,.s,.s,.s,.s,.s,.s,trivial⟩ (by simp)) ?_
 refine cl h (cg _ _ _) fun v59 h=>?_
 refine rn ?_
 obtain⟨v63,hv63,h⟩:=F9 h
 refine(B4 n _ _ _ _ _ _ _ _ _ _ hv63 _ _ _ _ 0 0 (by simp) (cW.trans rfl) (cW.trans rfl) (cW.trans rfl)).mono ?_
 rintro d1 st1 ⟨rfl,rfl⟩
 refine cl h (cg _ _ _) fun v64 h=>?_
 refine rn ?_
 obtain⟨v68,hv68,h⟩:=F9 h
 refine(B4 n _ _ _ _ _ _ _ _ _ _ hv68 _ _ _ _ 1 0 (by simp) (cW.trans rfl) (cW.trans rfl) (cW.trans rfl)).mono ?_
 rintro d1 st1 ⟨rfl,rfl⟩
 refine cl h (cg _ _ _) fun v69 h=>?_
 refine rn ?_
 obtain⟨v72,hv72,h⟩:=F9 h
 refine(B4 n _ _ _ _ _ _ _ _ _ _ hv72 _ _ _ _ 2 0 (by simp) (cW.trans rfl) (cW.trans rfl) (cW.trans rfl)).mono ?_
 rintro d1 st1 ⟨rfl,rfl⟩
 refine cl h (C4 _ _) fun v73 h=>?_
 refine rn ?_
 obtain⟨v77,hv77,h⟩:=F9 h
 refine(B4 n _ _ _ _ _ _ _ _ _ _ hv77 _ _ _ _ 3 0 (by simp) (cW.trans rfl) (cW.trans rfl) (cW.trans rfl)).mono ?_
 rintro d1 st1 ⟨rfl,rfl⟩
 refine cl h (C4 _ _) fun v78 h=>?_
 refine rn ?_
 obtain⟨v82,hv82,h⟩:=F9 h
 refine(B4 n _ _ _ _ _ _ _ _ _ _ hv82 _ _ _ _ 4 0 (by simp) (cW.trans rfl) (cW.trans rfl) (cW.trans rfl)).mono ?_
 rintro d1 st1 ⟨rfl,rfl⟩
 refine cl h (C4 _ _) fun v83 h=>?_
 refine rn ?_
 obtain⟨v87,hv87,h⟩:=F9 h
 refine(B4 n _ _ _ _ _ _ _ _ _ _ hv87 _ _ _ _ 5 0 (by simp) (cW.trans rfl) (cW.trans rfl) (cW.trans rfl)).mono ?_
 rintro d1 st1 ⟨rfl,rfl⟩
 refine cl h (C4 _ _) fun v88 h=>?_
 refine rn ?_
 obtain⟨v92,hv92,h⟩:=F9 h
 refine(B4 n _ _ _ _ _ _ _ _ _ _ hv92 _ _ _ _ 6 0 (by simp) (cW.trans rfl) (cW.trans rfl) (cW.trans rfl)).mono ?_
 rintro d1 st1 ⟨rfl,rfl⟩
 refine cl h (C4 _ _) fun v93 h=>?_
 refine rn ?_
 obtain⟨v97,hv97,h⟩:=F9 h
 refine(B4 n _ _ _ _ _ _ _ _ _ _ hv97 _ _ _ _ 7 0 (by simp) (cW.trans rfl) (cW.trans rfl) (cW.trans rfl)).mono ?_
 rintro d1 st1 ⟨rfl,rfl⟩
 refine cl h (C4 _ _) fun v98 h=>?_
 refine rn ?_
 obtain⟨v102,hv102,h⟩:=F9 h
 refine(B4 n _ _ _ _ _ _ _ _ _ _ hv102 _ _ _ _ 8 0 (by simp) (cW.trans rfl) (cW.trans rfl) (cW.trans rfl)).mono ?_
 rintro d1 st1 ⟨rfl,rfl⟩
 refine cl h (C4 _ _) fun v103 h=>?_
 refine rn ?_
 obtain⟨v107,hv107,h⟩:=F9 h
 refine(B4 n _ _ _ _ _ _ _ _ _ _ hv107 _ _ _ _ 9 0 (by simp) (cW.trans rfl) (cW.trans rfl) (cW.trans rfl)).mono ?_
 rintro d1 st1 ⟨rfl,rfl⟩
 refine cl h (C4 _ _) fun v108 h=>?_
 refine rn ?_
 obtain⟨v112,hv112,h⟩:=F9 h
 refine(B4 n _ _ _ _ _ _ _ _ _ _ hv112 _ _ _ _ 10 0 (by simp) (cW.trans rfl) (cW.trans rfl) (cW.trans rfl)).mono ?_
 rintro d1 st1 ⟨rfl,rfl⟩
 refine cl h (C4 _ _) fun v113 h=>?_
 refine rn ?_
 obtain⟨v117,hv117,h⟩:=F9 h
 refine(B4 n _ _ _ _ _ _ _ _ _ _ hv117 _ _ _ _ 11 0 (by simp) (cW.trans rfl) (cW.trans rfl) (cW.trans rfl)).mono ?_
 rintro d1 st1 ⟨rfl,rfl⟩
 refine cl h (C4 _ _) fun v118 h=>?_
 refine rn ?_
 obtain⟨v122,hv122,h⟩:=F9 h
 refine(B4 n _ _ _ _ _ _ _ _ _ _ hv122 _ _ _ _ 12 0 (by simp) (cW.trans rfl) (cW.trans rfl) (cW.trans rfl)).mono ?_
 rintro d1 st1 ⟨rfl,rfl⟩
 refine cl h (C4 _ _) fun v123 h=>?_
 refine rn ?_
 obtain⟨v127,hv127,h⟩:=F9 h
 refine(B4 n _ _ _ _ _ _ _ _ _ _ hv127 _ _ _ _ 13 0 (by simp) (cW.trans rfl) (cW.trans rfl) (cW.trans rfl)).mono ?_
 rintro d1 st1 ⟨rfl,rfl⟩
 refine cl h (C4 _ _) fun v128 h=>?_
 refine rn ?_
 obtain⟨v132,hv132,h⟩:=F9 h
 refine(B4 n _ _ _ _ _ _ _ _ _ _ hv132 _ _ _ _ 14 0 (by simp) (cW.trans rfl) (cW.trans rfl) (cW.trans rfl)).mono ?_
 rintro d1 st1 ⟨rfl,rfl⟩
 refine cl h (C4 _ _) fun v133 h=>?_
 refine rn ?_
 obtain⟨v137,hv137,h⟩:=F9 h
 refine(B4 n _ _ _ _ _ _ _ _ _ _ hv137 _ _ _ _ 15 0 (by simp) (cW.trans rfl) (cW.trans rfl) (cW.trans rfl)).mono ?_
 rintro d1 st1 ⟨rfl,rfl⟩
 refine cl h (C4 _ _) fun v138 h=>?_
 refine rn ?_
 obtain⟨v142,hv142,h⟩:=F9 h
 refine(B4 n _ _ _ _ _ _ _ _ _ _ hv142 _ _ _ _ 16 0 (by simp) (cW.trans rfl) (cW.trans rfl) (cW.trans rfl)).mono ?_
 rintro d1 st1 ⟨rfl,rfl⟩
 refine cl h (D6 _ _) fun v143 h=>?_
 refine cl h (C4 _ _) fun v144 h=>?_
 refine rn ?_
 obtain⟨v147,hv147,h⟩:=F9 h
 refine(B4 n _ _ _ _ _ _ _ _ _ _ hv147 _ _ _ _ 17 0 (by simp) (cW.trans rfl) (cW.trans rfl) (cW.trans rfl)).mono ?_
 rintro d1 st1 ⟨rfl,rfl⟩
 refine rn ?_
 refine dw [9] 2 ?_
 obtain⟨v148,hv148,h⟩:=F9 h
 refine A9 (D6 _ _ _ hv148) ?_
 try simp only[go_sem,fx]
 obtain⟨v149,hv149,h⟩:=F9 h
 refine A9 (D6 _ _ _ hv149) ?_
 try simp only[go_sem,fx]
 obtain⟨v150,hv150,h⟩:=F9 h
 refine A9 (C4 _ _ _ hv150) ?_
 try simp only[go_sem,fx]
 obtain⟨v153,hv153,h⟩:=F9 h
 refine Ag [(st.length+5),(st.length+43),(st.length+44)] (fun st2 h2=>(B4 n _ _ _ _ _ _ _ _ _ _ hv153 st2 _ _ _ 18 0 (by simp) ((h2 _ (by simp)).trans (cW.trans rfl)) ((h2 _ (by simp)).trans (cW.trans rfl)) ((h2 _ (by simp)).trans (cW.trans rfl)))) (by simp) (by simp only[List.mem_cons,List.not_mem_nil,or_false,forall_eq_or_imp,forall_eq];exact⟨⟨by first|omega|(simp<;>omega),_,(cW.trans rfl),Ob.noConfusion⟩,⟨by first|omega|(simp<;>omega),_,(cW.trans rfl),Ob.noConfusion⟩,⟨by first|omega|(simp<;>omega),_,(cW.trans rfl),Ob.noConfusion⟩⟩) (by simp) ?_
 try simp only[go_sem,fx]
 try refine⟨by(simp<;>omega),?_⟩
 refine rs ?_
 refine dw [10] 3 ?_
 obtain⟨v154,hv154,h⟩:=F9 h
 refine A9 (y9 _ _ hv154) ?_
 try simp only[go_sem,fx]
 obtain⟨v155,hv155,h⟩:=F9 h
 refine A9 (C4 _ _ _ hv155) ?_
 try simp only[go_sem,fx]
 obtain⟨v156,hv156,h⟩:=F9 h
 refine A9 (B6 _ _ _ hv156) ?_
 try simp only[go_sem,fx]
 obtain⟨v157,hv157,h⟩:=F9 h
 refine A9 (A8 _ _ _ hv157) ?_
 try simp only[go_sem,fx]
 obtain⟨v161,hv161,h⟩:=F9 h
 refine Ag [(st.length+5),(st.length+43),(st.length+44)] (fun st2 h2=>(B4 n _ _ _ _ _ _ _ _ _ _ hv161 st2 _ _ _ 19 0 (by simp) ((h2 _ (by simp)).trans (cW.trans rfl)) ((h2 _ (by simp)).trans (cW.trans rfl)) ((h2 _ (by simp)).trans (cW.trans rfl)))) (by simp) (by simp only[List.mem_cons,List.not_mem_nil,or_false,forall_eq_or_imp,forall_eq];exact⟨⟨by first|omega|(simp<;>omega),_,(cW.trans rfl),Ob.noConfusion⟩,⟨by first|omega|(simp<;>omega),_,(cW.trans rfl),Ob.noConfusion⟩,⟨by first|omega|(simp<;>omega),_,(cW.trans rfl),Ob.noConfusion⟩⟩) (by simp) ?_
 try simp only[go_sem,fx]
 try refine⟨by(simp<;>omega),?_⟩
 refine rs ?_
 refine dw [10] 3 ?_
 obtain⟨v162,hv162,h⟩:=F9 h
 refine A9 (y9 _ _ hv162) ?_
 try simp only[go_sem,fx]
 obtain⟨v163,hv163,h⟩:=F9 h
 refine A9 (C4 _ _ _ hv163) ?_
 try simp only[go_sem,fx]
 obtain⟨v164,hv164,h⟩:=F9 h
 refine A9 (B6 _ _ _ hv164) ?_
 try simp only[go_sem,fx]
 obtain⟨v165,hv165,h⟩:=F9 h
 refine A9 (A8 _ _ _ hv165) ?_
 try simp only[go_sem,fx]
 obtain⟨v169,hv169,h⟩:=F9 h
 refine Ag [(st.length+5),(st.length+43),(st.length+44)] (fun st2 h2=>(B4 n _ _ _ _ _ _ _ _ _ _ hv169 st2 _ _ _ 20 0 (by simp) ((h2 _ (by simp)).trans (cW.trans rfl)) ((h2 _ (by simp)).trans (cW.trans rfl)) ((h2 _ (by simp)).trans (cW.trans rfl)))) (by simp) (by simp only[List.mem_cons,List.not_mem_nil,or_false,forall_eq_or_imp,forall_eq];exact⟨⟨by first|omega|(simp<;>omega),_,(cW.trans rfl),Ob.noConfusion⟩,⟨by first|omega|(simp<;>omega),_,(cW.trans rfl),Ob.noConfusion⟩,⟨by first|omega|(simp<;>omega),_,(cW.trans rfl),Ob.noConfusion⟩⟩) (by simp) ?_
 try simp only[go_sem,fx]
 try refine⟨by(simp<;>omega),?_⟩
 refine cl h (I6 n _) fun v172 h=>?_
 refine rr ?_
 exact fo (.agg [.sl false 2 40 (rows x7.cells v8.types),.sl false 3 32 (rows y8.cells v8.C1),.sl false 10 152 (rows x6.cells [(x6.mk [115] v17 2 0 (get v9 0)),(x6.mk [110,112] v25 2 1 (get v9 1)),(x6.mk [118,112,45,105,118] v32 1 0 (get v9 2)),(x6.mk [118,112,45,116,118] v40 2 2 (get v9 3)),(x6.mk [118,112,45,110,111,116] v48 2 3 (get v9 4)),(x6.mk [110,112,45,97,110,100] v57 3 4 (get v9 5))]),.sl false 9 144 (rows C5.cells v169),.sl false 2 32 (rows y4.cells v172.nodes)]) (.agg _ _ (.cons _ _ _ _ .s (.cons _ _ _ _ .s (.cons _ _ _ _ .s (.cons _ _ _ _ (.ref _ _ _ _ _ _ _ _ _ (pL.trans rfl) zq (by decide) (ru _) (by simp only[go_sem])) (.cons _ _ _ _ .s .nil)))))) h hsc
end Go.Proofs.YtfogbhjeihkliaaGreatDoor
