import Derived.Test.YtfacbpehlibilaaGreatDoorTVWalk9
set_option linter.unusedVariables false
set_option linter.unusedSimpArgs false
set_option maxHeartbeats 2000000
set_option maxRecDepth 100000
namespace Go.Proofs.YtfacbpehlibilaaGreatDoor
open Go Go.Am
theorem u0W(n:Nat)(a0:p6w)(r:r5d)(h:r6v n a0=some r):Pure Tryz.prog gl 15 [.agg [.int .i64 a0.kind,.str a0.name,.sl false 1 16 (rows r4X a0.words),.sl false 4 72 (rows p6w.cells a0.subs)]] (.agg [.int .i64 r.code,.int .i64 r.index]):=by
 intro st
 unfold r6v at h
 have fx:=trivial
 refine fb 5 [.cell 2 25] [0,1,2] Tryz.func15 fun hsc=>?_
 refine cl h (u4r n _ _) fun v1 h=>?_
 exact rt
theorem u5b:∀(n:Nat) (a1:p6w) (a2:(List Bs)) (l0:(List r4U)) (r:(List r4U)) (h:r5z n a1 a2 l0=some r),∀(st:St) (o0 q0:Nat) (hnd: [o0].Nodup) (r6Q:Am.look st o0=some (.arr q0 5 80 (rows r4U.cells l0))),Am.Spec Tryz.prog gl 35 [.ref false o0 q0 0 l0.length,.agg [.int .i64 a1.kind,.str a1.name,.sl false 1 16 (rows r4X a1.words),.sl false 4 72 (rows p6w.cells a1.subs)],.sl false 1 16 (rows r4X a2)] st (fun d st'=>∃zo0:Nat,d= .ref false o0 zo0 0 r.length∧st'=puts st [(o0,(.arr zo0 5 80 (rows r4U.cells r)))]):=by
 intro n
 induction n with
 |zero=>intro a1 a2 l0 r h;cases h
 |succ n ih=>
  intro a1 a2 l0 r h st o0 q0 hnd r6Q
  unfold r5z at h
  have ho0:=r5h r6Q
  have fx:=idf ho0
  refine u6K ?_;refine fb 107 [.tmp 6] [0,1,2,4,6,7,8,9,10,11,12,13,14,28,34,39,40,41,42,43,44,45,46,47,48,65,66,67,68,75,89] Tryz.func35 fun hsc=>?_
  refine r8l (s':=(r5k st [(o0,(.arr q0 5 80 (rows r4U.cells l0)))])) (r5p (by simp[r6Q])) ?_
  refine r0 ?_
  refine r0 ?_
  refine r0 ?_
  refine r0 ?_
  (repeat apply sq_)
  refine r9q 1 1 ?_
  try simp only[List.append_assoc,List.cons_append,List.nil_append]
  refine r6O (F:=[(0,.ref false o0 q0 0 l0.length),(2,.sl false 1 16 (rows r4X a2)),(4,.ptr st.length 0 0 0),(7,.int .i64 (↑l0.length:Int)),(8,.ptr (st.length+1) 0 0 0),(9,.int .i64 0)]) (T:=(r5k st [(o0,(.arr q0 5 80 (rows r4U.cells l0)))])++[some (.arr 0 4 0 [[.int .i64 a1.kind,.str a1.name,.sl false 1 16 (rows r4X a1.words),.sl false 4 72 (rows p6w.cells a1.subs)]]),some (.arr 0 5 0 [[.int .i64 a1.kind,.str a1.name,.sl false 1 16 (rows r4X a1.words),.ref false (st.length+2) 0 0 0,.int .i64 0]]),some (.arr 0 1 1 (rows u2l []))]) (u0G (by simp) (r7P hsc (by simp<;>omega)) (.lv (.live _ _ _ _ (.arr _ _ _ _ _ (.cons _ _ _ _ (.cons _ _ _ _ .s (.cons _ _ _ _ .s (.cons _ _ _ _ .s (.cons _ _ _ _ (.nref _ _ _ _ _ _ (r5u.trans rfl)) (.cons _ _ _ _ .s .nil))))) (.same _))) (.lv (.nil _)))) (by simp<;>omega) ⟨.s,.s,.s,.s,.s,.s,trivial⟩ (by simp<;>omega)) ?_
  (repeat apply sq_)
  refine r5M (body:=r7W n a1 a2) (kk:=r7Y (r5z n) n l0 a1 a2) (n:=n) (s0:=([],0))
   (fun(gs0:Nat) (s0:(List Bool)×Int)=>[(0,.ref false o0 q0 0 l0.length),(2,.sl false 1 16 (rows r4X a2)),(4,.ptr st.length 0 0 0),(7,.int .i64 (↑l0.length:Int)),(8,.ptr (st.length+1) 0 0 0),(9,.int .i64 s0.2)])
   (fun(gs0:Nat) (s0:(List Bool)×Int)=>(r5k st [(o0,(.arr q0 5 80 (rows r4U.cells l0)))])++[some (.arr 0 4 0 [[.int .i64 a1.kind,.str a1.name,.sl false 1 16 (rows r4X a1.words),.sl false 4 72 (rows p6w.cells a1.subs)]]),some (.arr 0 5 0 [[.int .i64 a1.kind,.str a1.name,.sl false 1 16 (rows r4X a1.words),.ref false (st.length+2) gs0 0 s0.1.length,.int .i64 0]]),some (.arr gs0 1 1 (rows u2l s0.1))])
   (fun(gt0:Nat) (t0:(List Bool))=>[(0,.ref false o0 q0 0 l0.length),(2,.sl false 1 16 (rows r4X a2)),(4,.ptr st.length 0 0 0),(7,.int .i64 (↑l0.length:Int)),(8,.ptr (st.length+1) 0 0 0)])
   (fun(gt0:Nat) (t0:(List Bool))=>(r5k st [(o0,(.arr q0 5 80 (rows r4U.cells l0)))])++[some (.arr 0 4 0 [[.int .i64 a1.kind,.str a1.name,.sl false 1 16 (rows r4X a1.words),.sl false 4 72 (rows p6w.cells a1.subs)]]),some (.arr 0 5 0 [[.int .i64 a1.kind,.str a1.name,.sl false 1 16 (rows r4X a1.words),.ref false (st.length+2) gt0 0 t0.length,.int .i64 0]]),some (.arr gt0 1 1 (rows u2l t0))])
   0 h (bu hsc)
   (fun gs0 s0 b0 h hx0=>?_) (fun gt0 t0 fr1 st1 h hb=>?_)
  ·unfold r7W at h
   refine cd h (fun hc h=>?_) fun hc h=>?_
   ·refine rn ?_
    refine r5M (body:=r7X a2 s0 a1) (kk:=r9A s0) (n:=n) (s0:=(false,0))
     (fun(gs2:Unit) (s2:Bool×Int)=>[(0,.ref false o0 q0 0 l0.length),(2,.sl false 1 16 (rows r4X a2)),(4,.ptr st.length 0 0 0),(7,.int .i64 (↑l0.length:Int)),(8,.ptr (st.length+1) 0 0 0),(9,.int .i64 s0.2),(10,.bool s2.1),(11,.int .i64 s2.2)])
     (fun(gs2:Unit) (s2:Bool×Int)=>(r5k st [(o0,(.arr q0 5 80 (rows r4U.cells l0)))])++[some (.arr 0 4 0 [[.int .i64 a1.kind,.str a1.name,.sl false 1 16 (rows r4X a1.words),.sl false 4 72 (rows p6w.cells a1.subs)]]),some (.arr 0 5 0 [[.int .i64 a1.kind,.str a1.name,.sl false 1 16 (rows r4X a1.words),.ref false (st.length+2) gs0 0 s0.1.length,.int .i64 0]]),some (.arr gs0 1 1 (rows u2l s0.1))])
     (fun(gt2:Unit) (t2:Bool)=>[(0,.ref false o0 q0 0 l0.length),(2,.sl false 1 16 (rows r4X a2)),(4,.ptr st.length 0 0 0),(7,.int .i64 (↑l0.length:Int)),(8,.ptr (st.length+1) 0 0 0),(9,.int .i64 s0.2),(10,.bool t2)])
     (fun(gt2:Unit) (t2:Bool)=>(r5k st [(o0,(.arr q0 5 80 (rows r4U.cells l0)))])++[some (.arr 0 4 0 [[.int .i64 a1.kind,.str a1.name,.sl false 1 16 (rows r4X a1.words),.sl false 4 72 (rows p6w.cells a1.subs)]]),some (.arr 0 5 0 [[.int .i64 a1.kind,.str a1.name,.sl false 1 16 (rows r4X a1.words),.ref false (st.length+2) gs0 0 s0.1.length,.int .i64 0]]),some (.arr gs0 1 1 (rows u2l s0.1))])
     () h (bu hsc)
     (fun gs2 s2 b2 h hx2=>?_) (fun gt2 t2 fr1 st1 h hb=>?_)
    ·unfold r7X at h
     refine cd h (fun hc h=>?_) fun hc h=>?_
     ·refine rn ?_
      obtain⟨fx,h⟩:=ck fx h
      obtain⟨fx,h⟩:=ck fx h
      refine dw [] 0 ?_
      refine rn ?_
      cases h
      exact r6h () (bu hsc)
     ·refine rn ?_
      cases h
      exact r7i () (bu hsc)
    ·try simp only[go_sem,fx]
     unfold r9A at h
     refine r6O hb ?_
     obtain⟨c28,x8w,h⟩:=u2v h
     have fy:=(show rows u2l s0.1++[[.bool t2]]=rows u2l c28 from by rw[x8w];first|exact r5y (E:=u2l) s0.1 [t2]|simp only[go_sem,rows,List.map_append,List.map_cons,List.map_nil])
     have fy:=fa fy (show s0.1.length+1=c28.length from by rw[x8w];simp)
     obtain⟨fx,h⟩:=ck fx h
     refine r1 ?_
     refine rn ?_
     cases h
     exact r6h (gs0+1) (bu hsc)
   ·refine rn ?_
    cases h
    exact r7i gs0 (bu hsc)
  ·try simp only[go_sem,fx]
   unfold r7Y at h
   refine r6O hb ?_
   (repeat apply sq_)
   refine r6O (F:=[(0,.ref false o0 q0 0 l0.length),(2,.sl false 1 16 (rows r4X a2)),(4,.ptr st.length 0 0 0),(7,.int .i64 (↑l0.length:Int)),(8,.ptr (st.length+1) 0 0 0)]) (T:=(r5k st [(o0,(.arr q0 5 80 (rows r4U.cells l0)))])++[some (.arr 0 4 0 [[.int .i64 a1.kind,.str a1.name,.sl false 1 16 (rows r4X a1.words),.sl false 4 72 (rows p6w.cells a1.subs)]]),some (.arr 0 5 0 [[.int .i64 a1.kind,.str a1.name,.sl false 1 16 (rows r4X a1.words),.sl false 1 1 (rows u2l t0),.int .i64 0]])]) (u0G (by simp) (r7P hsc (by simp<;>omega)) (.lv (.live _ _ _ _ (.arr _ _ _ _ _ (.cons _ _ _ _ (.cons _ _ _ _ .s (.cons _ _ _ _ .s (.cons _ _ _ _ .s (.cons _ _ _ _ (.ref _ _ _ _ _ _ _ _ _ (r5u.trans rfl) (u0Z (by first|decide|simp)) (by decide) (u4I _) (by simp only[go_sem])) (.cons _ _ _ _ .s .nil))))) (.same _))) (.nil _))) (by simp<;>omega) ⟨.s,.s,.s,.s,.s,trivial⟩ (by simp<;>omega)) ?_
   obtain⟨c34,x3Z,h⟩:=u2v h
   have fy:=(show rows r4U.cells l0++[[.int .i64 a1.kind,.str a1.name,.sl false 1 16 (rows r4X a1.words),.sl false 1 1 (rows u2l t0),.int .i64 0]]=rows r4U.cells c34 from by rw[x3Z];first|exact r5y (E:=r4U.cells) l0 [(r4U.mk a1.kind a1.name a1.words t0 0)]|simp only[go_sem,rows,List.map_append,List.map_cons,List.map_nil])
   have fy:=fa fy (show l0.length+1=c34.length from by rw[x3Z];simp)
   obtain⟨fx,h⟩:=ck fx h
   refine r1 ?_
   refine rn ?_
   refine r9E (r6l (r5z n) n a1 c34 l0) r (fun(gj3:Unit) (j3:(List Bs))=>[(0,.ref false o0 (q0+1) 0 c34.length),(4,.ptr st.length 0 0 0),(7,.int .i64 (↑l0.length:Int)),(12,.sl false 1 16 (rows r4X j3))]) (fun(gj3:Unit) (j3:(List Bs))=>(r5k st [(o0,(.arr (q0+1) 5 80 (rows r4U.cells c34)))])++[some (.arr 0 4 0 [[.int .i64 a1.kind,.str a1.name,.sl false 1 16 (rows r4X a1.words),.sl false 4 72 (rows p6w.cells a1.subs)]])]) (fun gj3 j3 fr1 st1 h hb=>?_) (fun hj3=>?_)
   ·try simp only[go_sem,fx]
    unfold r6l at h
    refine r6O hb ?_
    refine rn ?_
    refine r5M (body:=r6W (r5z n) a1 j3) (kk:=r7Z l0) (n:=n) (s0:=(c34,0))
     (fun(gs5:Nat) (s5:(List r4U)×Int)=>[(0,.ref false o0 gs5 0 s5.1.length),(4,.ptr st.length 0 0 0),(7,.int .i64 (↑l0.length:Int)),(12,.sl false 1 16 (rows r4X j3)),(14,.int .i64 s5.2)])
     (fun(gs5:Nat) (s5:(List r4U)×Int)=>(r5k st [(o0,(.arr gs5 5 80 (rows r4U.cells s5.1)))])++[some (.arr 0 4 0 [[.int .i64 a1.kind,.str a1.name,.sl false 1 16 (rows r4X a1.words),.sl false 4 72 (rows p6w.cells a1.subs)]])])
     (fun(gt5:Nat) (t5:(List r4U))=>[(0,.ref false o0 gt5 0 t5.length),(7,.int .i64 (↑l0.length:Int))])
     (fun(gt5:Nat) (t5:(List r4U))=>(r5k st [(o0,(.arr gt5 5 80 (rows r4U.cells t5)))]))
     (q0+1) h (bu hsc)
     (fun gs5 s5 b5 h hx5=>?_) (fun gt5 t5 fr1 st1 h hb=>?_)
    ·unfold r6W at h
     refine cd h (fun hc h=>?_) fun hc h=>?_
     ·obtain⟨fx,h⟩:=ck fx h
      refine rn ?_
      obtain⟨v68,hv68,h⟩:=r7G h
      refine(u9N (ih _ _ _ _ hv68 _ _ gs5 hnd (by simp only[go_sem,fx]))).mono ?_
      rintro d1 st1 ⟨g69,rfl,rfl⟩
      refine rn ?_
      cases h
      exact r6h g69 (bu hsc)
     ·refine rn ?_
      cases h
      exact r7i gs5 (bu0 hsc)
    ·try simp only[go_sem,fx]
     unfold r7Z at h
     refine r6O hb ?_
     obtain⟨fx,h⟩:=ck fx h
     have fy:=(show(rows r4U.cells t5).getD l0.length []=r4U.cells (get t5 l0.length)from w9S (E:=r4U.cells) (l:=t5) (k:=l0.length) (by first|omega|(simp;omega)))
     have fy:=fa fy (show l0.length<t5.length from by first|omega|(simp;omega))
     obtain⟨c73,x8x,h⟩:=u2v h
     have fy:=fa fy (show(rows r4U.cells t5).set l0.length [.int .i64 ((get t5 l0.length).kind),.str ((get t5 l0.length).name),.sl false 1 16 (rows r4X ((get t5 l0.length).words)),.sl false 1 1 (rows u2l ((get t5 l0.length).bound)),.int .i64 (↑t5.length:Int)]=rows r4U.cells c73 from by rw[x8x];first|exact y1h (E:=r4U.cells) _ _ _|simp only[go_sem,rows,List.map_set])
     refine r1 ?_
     have e75:D.ref false o0 gt5 0 t5.length=D.ref false o0 gt5 0 c73.length:=by simp[x8x]
     try simp only[e75]
     refine rr ?_
     exact fus (.ref false o0 gt5 0 c73.length) (.same _) h hsc (hr:=by rintro rfl;exact⟨gt5,rfl,rfl⟩)
   ·refine cd h (fun hc h=>?_) fun hc h=>?_
    ·refine rn ?_
     refine r5M (body:=r8a a2) (kk:=r9B (r5z n) n a1 c34 l0) (n:=n) (s0:=([a1.name],0))
      (fun(gs4:Nat) (s4:(List Bs)×Int)=>[(0,.ref false o0 (q0+1) 0 c34.length),(2,.sl false 1 16 (rows r4X a2)),(4,.ptr st.length 0 0 0),(7,.int .i64 (↑l0.length:Int)),(12,.ref false (st.length+3) gs4 0 s4.1.length),(13,.int .i64 s4.2)])
      (fun(gs4:Nat) (s4:(List Bs)×Int)=>(r5k st [(o0,(.arr (q0+1) 5 80 (rows r4U.cells c34)))])++[some (.arr 0 4 0 [[.int .i64 a1.kind,.str a1.name,.sl false 1 16 (rows r4X a1.words),.sl false 4 72 (rows p6w.cells a1.subs)]]),none,none,some (.arr gs4 1 16 (rows r4X s4.1))])
      (fun(gt4:Nat) (t4:(List Bs))=>[(0,.ref false o0 (q0+1) 0 c34.length),(4,.ptr st.length 0 0 0),(7,.int .i64 (↑l0.length:Int)),(12,.ref false (st.length+3) gt4 0 t4.length)])
      (fun(gt4:Nat) (t4:(List Bs))=>(r5k st [(o0,(.arr (q0+1) 5 80 (rows r4U.cells c34)))])++[some (.arr 0 4 0 [[.int .i64 a1.kind,.str a1.name,.sl false 1 16 (rows r4X a1.words),.sl false 4 72 (rows p6w.cells a1.subs)]]),none,none,some (.arr gt4 1 16 (rows r4X t4))])
      0 h (bu hsc (hu:=(.lv (.dead _ _ _ (.dead _ _ _ (.live _ _ _ _ (by simp only[go_sem,rows,List.map_cons,List.map_nil];exact .same _) (.nil _)))))))
      (fun gs4 s4 b4 h hx4=>?_) (fun gt4 t4 fr1 st1 h hb=>?_)
     ·unfold r8a at h
      refine cd h (fun hc h=>?_) fun hc h=>?_
      ·refine r0 ?_
       refine r0 ?_
       obtain⟨fx,h⟩:=ck fx h
       obtain⟨c58,x8y,h⟩:=u2v h
       have fy:=(show rows r4X s4.1++[[.str (get a2 s4.2.toNat)]]=rows r4X c58 from by rw[x8y];first|exact r5y (E:=r4X) s4.1 [(get a2 s4.2.toNat)]|simp only[go_sem,rows,List.map_append,List.map_cons,List.map_nil])
       have fy:=fa fy (show s4.1.length+1=c58.length from by rw[x8y];simp)
       obtain⟨fx,h⟩:=ck fx h
       refine r1 ?_
       refine rn ?_
       cases h
       exact r6h (gs4+1) (bu hsc)
      ·refine rn ?_
       cases h
       exact r7i gs4 (bu hsc)
     ·try simp only[go_sem,fx]
      unfold r9B at h
      refine hj3 () _ _ _ h ?_;exact(hb.trans (bu hsc (hf:=⟨.s,.s,.s,.ref _ _ _ _ _ _ _ _ _ (r5u.trans rfl) (u0Z (by first|decide|simp)) (by decide) (u4I _) (by simp only[go_sem]),trivial⟩)))
    ·refine r0 ?_
     refine hj3 () _ _ _ h ?_;exact(bu hsc)
theorem r7A(n:Nat)(a1:p6w)(a2:(List Bs))(r:(List r4U))(h:r6a n a1 a2=some r):Pure Tryz.prog gl 35 [.r5g,.agg [.int .i64 a1.kind,.str a1.name,.sl false 1 16 (rows r4X a1.words),.sl false 4 72 (rows p6w.cells a1.subs)],.sl false 1 16 (rows r4X a2)] (.sl false 5 80 (rows r4U.cells r)):=by
 intro st
 unfold r6a at h
 have fx:=trivial
 refine u6K ?_;refine fb 107 [.tmp 6] [0,1,2,4,6,7,8,9,10,11,12,13,14,28,34,39,40,41,42,43,44,45,46,47,48,65,66,67,68,75,89] Tryz.func35 fun hsc=>?_
 refine r0 ?_
 refine r0 ?_
 refine r0 ?_
 refine r0 ?_
 (repeat apply sq_)
 refine r9q 1 1 ?_
 try simp only[List.append_assoc,List.cons_append,List.nil_append]
 refine r6O (F:=[(0,.r5g),(2,.sl false 1 16 (rows r4X a2)),(4,.ptr st.length 0 0 0),(7,.int .i64 0),(8,.ptr (st.length+1) 0 0 0),(9,.int .i64 0)]) (T:=st++[some (.arr 0 4 0 [[.int .i64 a1.kind,.str a1.name,.sl false 1 16 (rows r4X a1.words),.sl false 4 72 (rows p6w.cells a1.subs)]]),some (.arr 0 5 0 [[.int .i64 a1.kind,.str a1.name,.sl false 1 16 (rows r4X a1.words),.ref false (st.length+2) 0 0 0,.int .i64 0]]),some (.arr 0 1 1 (rows u2l []))]) (w5R hsc (.lv (.live _ _ _ _ (.arr _ _ _ _ _ (.cons _ _ _ _ (.cons _ _ _ _ .s (.cons _ _ _ _ .s (.cons _ _ _ _ .s (.cons _ _ _ _ (.nref _ _ _ _ _ _ (w0z.trans rfl)) (.cons _ _ _ _ .s .nil))))) (.same _))) (.lv (.nil _)))) (by simp) ⟨.s,.s,.s,.s,.s,.s,trivial⟩ (by simp)) ?_
 (repeat apply sq_)
 refine r5M (body:=r8z n a1 a2) (kk:=r8B n a1 a2) (n:=n) (s0:=([],0))
  (fun(gs0:Nat) (s0:(List Bool)×Int)=>[(0,.r5g),(2,.sl false 1 16 (rows r4X a2)),(4,.ptr st.length 0 0 0),(7,.int .i64 0),(8,.ptr (st.length+1) 0 0 0),(9,.int .i64 s0.2)])
  (fun(gs0:Nat) (s0:(List Bool)×Int)=>st++[some (.arr 0 4 0 [[.int .i64 a1.kind,.str a1.name,.sl false 1 16 (rows r4X a1.words),.sl false 4 72 (rows p6w.cells a1.subs)]]),some (.arr 0 5 0 [[.int .i64 a1.kind,.str a1.name,.sl false 1 16 (rows r4X a1.words),.ref false (st.length+2) gs0 0 s0.1.length,.int .i64 0]]),some (.arr gs0 1 1 (rows u2l s0.1))])
  (fun(gt0:Nat) (t0:(List Bool))=>[(0,.r5g),(2,.sl false 1 16 (rows r4X a2)),(4,.ptr st.length 0 0 0),(7,.int .i64 0),(8,.ptr (st.length+1) 0 0 0)])
  (fun(gt0:Nat) (t0:(List Bool))=>st++[some (.arr 0 4 0 [[.int .i64 a1.kind,.str a1.name,.sl false 1 16 (rows r4X a1.words),.sl false 4 72 (rows p6w.cells a1.subs)]]),some (.arr 0 5 0 [[.int .i64 a1.kind,.str a1.name,.sl false 1 16 (rows r4X a1.words),.ref false (st.length+2) gt0 0 t0.length,.int .i64 0]]),some (.arr gt0 1 1 (rows u2l t0))])
  0 h (bm hsc)
  (fun gs0 s0 b0 h hx0=>?_) (fun gt0 t0 fr1 st1 h hb=>?_)
 ·unfold r8z at h
  refine cd h (fun hc h=>?_) fun hc h=>?_
  ·refine rn ?_
   refine r5M (body:=r8A a2 s0 a1) (kk:=u0p s0) (n:=n) (s0:=(false,0))
    (fun(gs2:Unit) (s2:Bool×Int)=>[(0,.r5g),(2,.sl false 1 16 (rows r4X a2)),(4,.ptr st.length 0 0 0),(7,.int .i64 0),(8,.ptr (st.length+1) 0 0 0),(9,.int .i64 s0.2),(10,.bool s2.1),(11,.int .i64 s2.2)])
    (fun(gs2:Unit) (s2:Bool×Int)=>st++[some (.arr 0 4 0 [[.int .i64 a1.kind,.str a1.name,.sl false 1 16 (rows r4X a1.words),.sl false 4 72 (rows p6w.cells a1.subs)]]),some (.arr 0 5 0 [[.int .i64 a1.kind,.str a1.name,.sl false 1 16 (rows r4X a1.words),.ref false (st.length+2) gs0 0 s0.1.length,.int .i64 0]]),some (.arr gs0 1 1 (rows u2l s0.1))])
    (fun(gt2:Unit) (t2:Bool)=>[(0,.r5g),(2,.sl false 1 16 (rows r4X a2)),(4,.ptr st.length 0 0 0),(7,.int .i64 0),(8,.ptr (st.length+1) 0 0 0),(9,.int .i64 s0.2),(10,.bool t2)])
    (fun(gt2:Unit) (t2:Bool)=>st++[some (.arr 0 4 0 [[.int .i64 a1.kind,.str a1.name,.sl false 1 16 (rows r4X a1.words),.sl false 4 72 (rows p6w.cells a1.subs)]]),some (.arr 0 5 0 [[.int .i64 a1.kind,.str a1.name,.sl false 1 16 (rows r4X a1.words),.ref false (st.length+2) gs0 0 s0.1.length,.int .i64 0]]),some (.arr gs0 1 1 (rows u2l s0.1))])
    () h (bm hsc)
    (fun gs2 s2 b2 h hx2=>?_) (fun gt2 t2 fr1 st1 h hb=>?_)
   ·unfold r8A at h
    refine cd h (fun hc h=>?_) fun hc h=>?_
    ·refine rn ?_
     obtain⟨fx,h⟩:=ck fx h
     obtain⟨fx,h⟩:=ck fx h
     refine dw [] 0 ?_
     refine rn ?_
     cases h
     exact r6h () (bm hsc)
    ·refine rn ?_
     cases h
     exact r7i () (bm hsc)
   ·try simp only[go_sem,fx]
    unfold u0p at h
    refine r6O hb ?_
    obtain⟨c28,x8w,h⟩:=u2v h
    have fy:=(show rows u2l s0.1++[[.bool t2]]=rows u2l c28 from by rw[x8w];first|exact r5y (E:=u2l) s0.1 [t2]|simp only[go_sem,rows,List.map_append,List.map_cons,List.map_nil])
    have fy:=fa fy (show s0.1.length+1=c28.length from by rw[x8w];simp)
    obtain⟨fx,h⟩:=ck fx h
    refine r1 ?_
    refine rn ?_
    cases h
    exact r6h (gs0+1) (bm hsc)
  ·refine rn ?_
   cases h
   exact r7i gs0 (bm hsc)
 ·try simp only[go_sem,fx]
  unfold r8B at h
  refine r6O hb ?_
  (repeat apply sq_)
  refine r6O (F:=[(0,.r5g),(2,.sl false 1 16 (rows r4X a2)),(4,.ptr st.length 0 0 0),(7,.int .i64 0),(8,.ptr (st.length+1) 0 0 0)]) (T:=st++[some (.arr 0 4 0 [[.int .i64 a1.kind,.str a1.name,.sl false 1 16 (rows r4X a1.words),.sl false 4 72 (rows p6w.cells a1.subs)]]),some (.arr 0 5 0 [[.int .i64 a1.kind,.str a1.name,.sl false 1 16 (rows r4X a1.words),.sl false 1 1 (rows u2l t0),.int .i64 0]])]) (w5R hsc (.lv (.live _ _ _ _ (.arr _ _ _ _ _ (.cons _ _ _ _ (.cons _ _ _ _ .s (.cons _ _ _ _ .s (.cons _ _ _ _ .s (.cons _ _ _ _ (.ref _ _ _ _ _ _ _ _ _ (w0z.trans rfl) (w0A (by first|decide|simp)) (by decide) (u4I _) (by simp only[go_sem])) (.cons _ _ _ _ .s .nil))))) (.same _))) (.nil _))) (by simp) ⟨.s,.s,.s,.s,.s,trivial⟩ (by simp)) ?_
  obtain⟨c34,x3Z,h⟩:=u2v h
  obtain⟨fx,h⟩:=ck fx h
  refine r0 ?_
  have e37:D.ref false (st.length+3) 0 0 1=D.ref false (st.length+3) 0 0 c34.length:=by simp[x3Z]
  have e38: [[.int .i64 a1.kind,.str a1.name,.sl false 1 16 (rows r4X a1.words),.sl false 1 1 (rows u2l t0),.int .i64 0]]=rows r4U.cells c34:=by rw[x3Z];first|rfl|simp only[go_sem,rows,List.map_cons,List.map_nil]
  try simp only[e37,e38]
  refine rn ?_
  refine r9E (r6I n a1 c34) r (fun(gj3:Unit) (j3:(List Bs))=>[(0,.ref false (st.length+3) 0 0 c34.length),(4,.ptr st.length 0 0 0),(7,.int .i64 0),(12,.sl false 1 16 (rows r4X j3))]) (fun(gj3:Unit) (j3:(List Bs))=>st++[some (.arr 0 4 0 [[.int .i64 a1.kind,.str a1.name,.sl false 1 16 (rows r4X a1.words),.sl false 4 72 (rows p6w.cells a1.subs)]]),none,none,some (.arr 0 5 80 (rows r4U.cells c34))]) (fun gj3 j3 fr1 st1 h hb=>?_) (fun hj3=>?_)
  ·try simp only[go_sem,fx]
   unfold r6I at h
   refine r6O hb ?_
   refine rn ?_
   refine r5M (body:=r7t n a1 j3) (kk:=r8C) (n:=n) (s0:=(c34,0))
    (fun(gs5:Nat) (s5:(List r4U)×Int)=>[(0,.ref false (st.length+3) gs5 0 s5.1.length),(4,.ptr st.length 0 0 0),(7,.int .i64 0),(12,.sl false 1 16 (rows r4X j3)),(14,.int .i64 s5.2)])
    (fun(gs5:Nat) (s5:(List r4U)×Int)=>st++[some (.arr 0 4 0 [[.int .i64 a1.kind,.str a1.name,.sl false 1 16 (rows r4X a1.words),.sl false 4 72 (rows p6w.cells a1.subs)]]),none,none,some (.arr gs5 5 80 (rows r4U.cells s5.1))])
    (fun(gt5:Nat) (t5:(List r4U))=>[(0,.ref false (st.length+3) gt5 0 t5.length),(7,.int .i64 0)])
    (fun(gt5:Nat) (t5:(List r4U))=>st++[none,none,none,some (.arr gt5 5 80 (rows r4U.cells t5))])
    0 h (bm hsc)
    (fun gs5 s5 b5 h hx5=>?_) (fun gt5 t5 fr1 st1 h hb=>?_)
   ·unfold r7t at h
    refine cd h (fun hc h=>?_) fun hc h=>?_
    ·obtain⟨fx,h⟩:=ck fx h
     refine rn ?_
     obtain⟨v68,hv68,h⟩:=r7G h
     refine(u9N (u5b n _ _ _ _ hv68 _ _ gs5 (by simp) (u4b.trans rfl))).mono ?_
     rintro d1 st1 ⟨g69,rfl,rfl⟩
     refine rn ?_
     cases h
     exact r6h g69 (bm hsc)
    ·refine rn ?_
     cases h
     exact r7i gs5 (bm hsc)
   ·try simp only[go_sem,fx]
    unfold r8C at h
    refine r6O hb ?_
    obtain⟨fx,h⟩:=ck fx h
    have fy:=(show(rows r4U.cells t5).getD 0 []=r4U.cells (get t5 0)from w9S (E:=r4U.cells) (l:=t5) (k:=0) (by first|omega|(simp;omega)))
    have fy:=fa fy (show 0<t5.length from by first|omega|(simp;omega))
    obtain⟨c73,x8x,h⟩:=u2v h
    have fy:=fa fy (show(rows r4U.cells t5).set 0 [.int .i64 ((get t5 0).kind),.str ((get t5 0).name),.sl false 1 16 (rows r4X ((get t5 0).words)),.sl false 1 1 (rows u2l ((get t5 0).bound)),.int .i64 (↑t5.length:Int)]=rows r4U.cells c73 from by rw[x8x];first|exact y1h (E:=r4U.cells) _ _ _|simp only[go_sem,rows,List.map_set])
    refine r1 ?_
    have e75:D.ref false (st.length+3) gt5 0 t5.length=D.ref false (st.length+3) gt5 0 c73.length:=by simp[x8x]
    try simp only[e75]
    refine rr ?_
    exact fo (.sl false 5 80 (rows r4U.cells c73)) (.ref _ _ _ _ _ _ _ _ _ (w0z.trans rfl) x1H (by decide) (u4I _) (by simp only[go_sem])) h hsc
  ·refine cd h (fun hc h=>?_) fun hc h=>?_
   ·refine rn ?_
    refine r5M (body:=r8D a2) (kk:=u0q n a1 c34) (n:=n) (s0:=([a1.name],0))
     (fun(gs4:Nat) (s4:(List Bs)×Int)=>[(0,.ref false (st.length+3) 0 0 c34.length),(2,.sl false 1 16 (rows r4X a2)),(4,.ptr st.length 0 0 0),(7,.int .i64 0),(12,.ref false (st.length+4) gs4 0 s4.1.length),(13,.int .i64 s4.2)])
     (fun(gs4:Nat) (s4:(List Bs)×Int)=>st++[some (.arr 0 4 0 [[.int .i64 a1.kind,.str a1.name,.sl false 1 16 (rows r4X a1.words),.sl false 4 72 (rows p6w.cells a1.subs)]]),none,none,some (.arr 0 5 80 (rows r4U.cells c34)),some (.arr gs4 1 16 (rows r4X s4.1))])
     (fun(gt4:Nat) (t4:(List Bs))=>[(0,.ref false (st.length+3) 0 0 c34.length),(4,.ptr st.length 0 0 0),(7,.int .i64 0),(12,.ref false (st.length+4) gt4 0 t4.length)])
     (fun(gt4:Nat) (t4:(List Bs))=>st++[some (.arr 0 4 0 [[.int .i64 a1.kind,.str a1.name,.sl false 1 16 (rows r4X a1.words),.sl false 4 72 (rows p6w.cells a1.subs)]]),none,none,some (.arr 0 5 80 (rows r4U.cells c34)),some (.arr gt4 1 16 (rows r4X t4))])
     0 h (bm hsc (hu:=(.lv (.dead _ _ _ (.dead _ _ _ (.lv (.live _ _ _ _ (by simp only[go_sem,rows,List.map_cons,List.map_nil];exact .same _) (.nil _))))))))
     (fun gs4 s4 b4 h hx4=>?_) (fun gt4 t4 fr1 st1 h hb=>?_)
    ·unfold r8D at h
     refine cd h (fun hc h=>?_) fun hc h=>?_
     ·refine r0 ?_
      refine r0 ?_
      obtain⟨fx,h⟩:=ck fx h
      obtain⟨c58,x8y,h⟩:=u2v h
      have fy:=(show rows r4X s4.1++[[.str (get a2 s4.2.toNat)]]=rows r4X c58 from by rw[x8y];first|exact r5y (E:=r4X) s4.1 [(get a2 s4.2.toNat)]|simp only[go_sem,rows,List.map_append,List.map_cons,List.map_nil])
      have fy:=fa fy (show s4.1.length+1=c58.length from by rw[x8y];simp)
      obtain⟨fx,h⟩:=ck fx h
      refine r1 ?_
      refine rn ?_
      cases h
      exact r6h (gs4+1) (bm hsc)
     ·refine rn ?_
      cases h
      exact r7i gs4 (bm hsc)
    ·try simp only[go_sem,fx]
     unfold u0q at h
     refine hj3 () _ _ _ h ?_;exact(hb.trans (bm hsc (hf:=⟨.s,.s,.s,.ref _ _ _ _ _ _ _ _ _ (w0z.trans rfl) (w0A (by first|decide|simp)) (by decide) (u4I _) (by simp only[go_sem]),trivial⟩)))
   ·refine r0 ?_
    refine hj3 () _ _ _ h ?_;exact(bm hsc)
end Go.Proofs.YtfacbpehlibilaaGreatDoor
