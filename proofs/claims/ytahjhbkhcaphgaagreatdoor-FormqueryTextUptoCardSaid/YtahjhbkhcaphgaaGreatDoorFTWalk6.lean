import Derived.Test.YtahjhbkhcaphgaaGreatDoorFTMirrors
set_option linter.unusedVariables false
set_option linter.unusedSimpArgs false
set_option maxHeartbeats 2000000
set_option maxRecDepth 100000
namespace Go.Proofs.YtahjhbkhcaphgaaGreatDoor
open Go Go.Am
theorem fR:∀(n:Nat) (a1:u6) (a2:(List Bs)) (l0:(List u7)) (r:(List u7)) (h:B4 n a1 a2 l0=some r),∀(st:St) (o0 q0:Nat) (hnd: [o0].Nodup) (R8:Am.look st o0=some (.arr q0 5 80 (rows u7.cells l0))),Am.Spec Tryz.prog gl 20 [.ref false o0 q0 0 l0.length,.agg [.int .i64 a1.kind,.str a1.name,.sl false 1 16 (rows w9 a1.words),.sl false 4 72 (rows u6.cells a1.subs)],.sl false 1 16 (rows w9 a2)] st (fun d st'=>∃zo0:Nat,d= .ref false o0 zo0 0 r.length∧st'=puts st [(o0,(.arr zo0 5 80 (rows u7.cells r)))]):=by
 intro n
 induction n with
 |zero=>intro a1 a2 l0 r h;cases h
 |succ n ih=>
  intro a1 a2 l0 r h st o0 q0 hnd R8
  unfold B4 at h
  have ho0:=F2 R8
  have fx:=idf ho0
  refine kP ?_;refine fb 107 [.tmp 6] [0,1,2,4,6,7,8,9,10,11,12,13,14,28,34,39,40,41,42,43,44,45,46,47,48,65,66,67,68,75,89] Tryz.func20 fun hsc=>?_
  refine aO (s':=(E8 st [(o0,(.arr q0 5 80 (rows u7.cells l0)))])) (C5 (by simp[R8])) ?_
  refine r0 ?_
  refine r0 ?_
  refine r0 ?_
  refine r0 ?_
  (repeat apply sq_)
  refine eJ 1 1 ?_
  try simp only[List.append_assoc,List.cons_append,List.nil_append]
  refine R6 (F:=[(0,.ref false o0 q0 0 l0.length),(2,.sl false 1 16 (rows w9 a2)),(4,.ptr st.length 0 0 0),(7,.int .i64 (↑l0.length:Int)),(8,.ptr (st.length+1) 0 0 0),(9,.int .i64 0)]) (T:=(E8 st [(o0,(.arr q0 5 80 (rows u7.cells l0)))])++[some (.arr 0 4 0 [[.int .i64 a1.kind,.str a1.name,.sl false 1 16 (rows w9 a1.words),.sl false 4 72 (rows u6.cells a1.subs)]]),some (.arr 0 5 0 [[.int .i64 a1.kind,.str a1.name,.sl false 1 16 (rows w9 a1.words),.ref false (st.length+2) 0 0 0,.int .i64 0]]),some (.arr 0 1 1 (rows bR []))]) (jF (by simp) (aQ hsc (by simp<;>omega)) (.lv (.live _ _ _ _ (.arr _ _ _ _ _ (.cons _ _ _ _ (.cons _ _ _ _ .s (.cons _ _ _ _ .s (.cons _ _ _ _ .s (.cons _ _ _ _ (.nref _ _ _ _ _ _ (L4.trans rfl)) (.cons _ _ _ _ .s .nil))))) (.same _))) (.lv (.nil _)))) (by simp<;>omega) ⟨.s,.s,.s,.s,.s,.s,trivial⟩ (by simp<;>omega)) ?_
  (repeat apply sq_)
  refine D6 (body:=M5 n a1 a2) (kk:=M7 (B4 n) n l0 a1 a2) (n:=n) (s0:=([],0))
   (fun(gs0:Nat) (s0:(List Bool)×Int)=>[(0,.ref false o0 q0 0 l0.length),(2,.sl false 1 16 (rows w9 a2)),(4,.ptr st.length 0 0 0),(7,.int .i64 (↑l0.length:Int)),(8,.ptr (st.length+1) 0 0 0),(9,.int .i64 s0.2)])
   (fun(gs0:Nat) (s0:(List Bool)×Int)=>(E8 st [(o0,(.arr q0 5 80 (rows u7.cells l0)))])++[some (.arr 0 4 0 [[.int .i64 a1.kind,.str a1.name,.sl false 1 16 (rows w9 a1.words),.sl false 4 72 (rows u6.cells a1.subs)]]),some (.arr 0 5 0 [[.int .i64 a1.kind,.str a1.name,.sl false 1 16 (rows w9 a1.words),.ref false (st.length+2) gs0 0 s0.1.length,.int .i64 0]]),some (.arr gs0 1 1 (rows bR s0.1))])
   (fun(gt0:Nat) (t0:(List Bool))=>[(0,.ref false o0 q0 0 l0.length),(2,.sl false 1 16 (rows w9 a2)),(4,.ptr st.length 0 0 0),(7,.int .i64 (↑l0.length:Int)),(8,.ptr (st.length+1) 0 0 0)])
   (fun(gt0:Nat) (t0:(List Bool))=>(E8 st [(o0,(.arr q0 5 80 (rows u7.cells l0)))])++[some (.arr 0 4 0 [[.int .i64 a1.kind,.str a1.name,.sl false 1 16 (rows w9 a1.words),.sl false 4 72 (rows u6.cells a1.subs)]]),some (.arr 0 5 0 [[.int .i64 a1.kind,.str a1.name,.sl false 1 16 (rows w9 a1.words),.ref false (st.length+2) gt0 0 t0.length,.int .i64 0]]),some (.arr gt0 1 1 (rows bR t0))])
   0 h (bu hsc)
   (fun gs0 s0 b0 h hx0=>?_) (fun gt0 t0 fr1 st1 h hb=>?_)
  ·unfold M5 at h
   refine cd h (fun hc h=>?_) fun hc h=>?_
   ·refine rn ?_
    refine D6 (body:=M6 a2 s0 a1) (kk:=V7 s0) (n:=n) (s0:=(false,0))
     (fun(gs2:Unit) (s2:Bool×Int)=>[(0,.ref false o0 q0 0 l0.length),(2,.sl false 1 16 (rows w9 a2)),(4,.ptr st.length 0 0 0),(7,.int .i64 (↑l0.length:Int)),(8,.ptr (st.length+1) 0 0 0),(9,.int .i64 s0.2),(10,.bool s2.1),(11,.int .i64 s2.2)])
     (fun(gs2:Unit) (s2:Bool×Int)=>(E8 st [(o0,(.arr q0 5 80 (rows u7.cells l0)))])++[some (.arr 0 4 0 [[.int .i64 a1.kind,.str a1.name,.sl false 1 16 (rows w9 a1.words),.sl false 4 72 (rows u6.cells a1.subs)]]),some (.arr 0 5 0 [[.int .i64 a1.kind,.str a1.name,.sl false 1 16 (rows w9 a1.words),.ref false (st.length+2) gs0 0 s0.1.length,.int .i64 0]]),some (.arr gs0 1 1 (rows bR s0.1))])
     (fun(gt2:Unit) (t2:Bool)=>[(0,.ref false o0 q0 0 l0.length),(2,.sl false 1 16 (rows w9 a2)),(4,.ptr st.length 0 0 0),(7,.int .i64 (↑l0.length:Int)),(8,.ptr (st.length+1) 0 0 0),(9,.int .i64 s0.2),(10,.bool t2)])
     (fun(gt2:Unit) (t2:Bool)=>(E8 st [(o0,(.arr q0 5 80 (rows u7.cells l0)))])++[some (.arr 0 4 0 [[.int .i64 a1.kind,.str a1.name,.sl false 1 16 (rows w9 a1.words),.sl false 4 72 (rows u6.cells a1.subs)]]),some (.arr 0 5 0 [[.int .i64 a1.kind,.str a1.name,.sl false 1 16 (rows w9 a1.words),.ref false (st.length+2) gs0 0 s0.1.length,.int .i64 0]]),some (.arr gs0 1 1 (rows bR s0.1))])
     () h (bu hsc)
     (fun gs2 s2 b2 h hx2=>?_) (fun gt2 t2 fr1 st1 h hb=>?_)
    ·unfold M6 at h
     refine cd h (fun hc h=>?_) fun hc h=>?_
     ·refine rn ?_
      obtain⟨fx,h⟩:=ck fx h
      obtain⟨fx,h⟩:=ck fx h
      refine dw [] 0 ?_
      refine rn ?_
      cases h
      exact I6 () (bu hsc)
     ·refine rn ?_
      cases h
      exact J9 () (bu hsc)
    ·try simp only[go_sem,fx]
     unfold V7 at h
     refine R6 hb ?_
     obtain⟨c28,Jk,h⟩:=gG h
     have fy:=(show rows bR s0.1++[[.bool t2]]=rows bR c28 from by rw[Jk];first|exact F1 (E:=bR) s0.1 [t2]|simp only[go_sem,rows,List.map_append,List.map_cons,List.map_nil])
     have fy:=fa fy (show s0.1.length+1=c28.length from by rw[Jk];simp)
     obtain⟨fx,h⟩:=ck fx h
     refine r1 ?_
     refine rn ?_
     cases h
     exact I6 (gs0+1) (bu hsc)
   ·refine rn ?_
    cases h
    exact J9 gs0 (bu hsc)
  ·try simp only[go_sem,fx]
   unfold M7 at h
   refine R6 hb ?_
   (repeat apply sq_)
   refine R6 (F:=[(0,.ref false o0 q0 0 l0.length),(2,.sl false 1 16 (rows w9 a2)),(4,.ptr st.length 0 0 0),(7,.int .i64 (↑l0.length:Int)),(8,.ptr (st.length+1) 0 0 0)]) (T:=(E8 st [(o0,(.arr q0 5 80 (rows u7.cells l0)))])++[some (.arr 0 4 0 [[.int .i64 a1.kind,.str a1.name,.sl false 1 16 (rows w9 a1.words),.sl false 4 72 (rows u6.cells a1.subs)]]),some (.arr 0 5 0 [[.int .i64 a1.kind,.str a1.name,.sl false 1 16 (rows w9 a1.words),.sl false 1 1 (rows bR t0),.int .i64 0]])]) (jF (by simp) (aQ hsc (by simp<;>omega)) (.lv (.live _ _ _ _ (.arr _ _ _ _ _ (.cons _ _ _ _ (.cons _ _ _ _ .s (.cons _ _ _ _ .s (.cons _ _ _ _ .s (.cons _ _ _ _ (.ref _ _ _ _ _ _ _ _ _ (L4.trans rfl) (eA (by first|decide|simp)) (by decide) (ng _) (by simp only[go_sem])) (.cons _ _ _ _ .s .nil))))) (.same _))) (.nil _))) (by simp<;>omega) ⟨.s,.s,.s,.s,.s,trivial⟩ (by simp<;>omega)) ?_
   obtain⟨c34,DR,h⟩:=gG h
   have fy:=(show rows u7.cells l0++[[.int .i64 a1.kind,.str a1.name,.sl false 1 16 (rows w9 a1.words),.sl false 1 1 (rows bR t0),.int .i64 0]]=rows u7.cells c34 from by rw[DR];first|exact F1 (E:=u7.cells) l0 [(u7.mk a1.kind a1.name a1.words t0 0)]|simp only[go_sem,rows,List.map_append,List.map_cons,List.map_nil])
   have fy:=fa fy (show l0.length+1=c34.length from by rw[DR];simp)
   obtain⟨fx,h⟩:=ck fx h
   refine r1 ?_
   refine rn ?_
   refine aF (E6 (B4 n) n a1 c34 l0) r (fun(gj3:Unit) (j3:(List Bs))=>[(0,.ref false o0 (q0+1) 0 c34.length),(4,.ptr st.length 0 0 0),(7,.int .i64 (↑l0.length:Int)),(12,.sl false 1 16 (rows w9 j3))]) (fun(gj3:Unit) (j3:(List Bs))=>(E8 st [(o0,(.arr (q0+1) 5 80 (rows u7.cells c34)))])++[some (.arr 0 4 0 [[.int .i64 a1.kind,.str a1.name,.sl false 1 16 (rows w9 a1.words),.sl false 4 72 (rows u6.cells a1.subs)]])]) (fun gj3 j3 fr1 st1 h hb=>?_) (fun hj3=>?_)
   ·try simp only[go_sem,fx]
    unfold E6 at h
    refine R6 hb ?_
    refine rn ?_
    refine D6 (body:=H6 (B4 n) a1 j3) (kk:=M8 l0) (n:=n) (s0:=(c34,0))
     (fun(gs5:Nat) (s5:(List u7)×Int)=>[(0,.ref false o0 gs5 0 s5.1.length),(4,.ptr st.length 0 0 0),(7,.int .i64 (↑l0.length:Int)),(12,.sl false 1 16 (rows w9 j3)),(14,.int .i64 s5.2)])
     (fun(gs5:Nat) (s5:(List u7)×Int)=>(E8 st [(o0,(.arr gs5 5 80 (rows u7.cells s5.1)))])++[some (.arr 0 4 0 [[.int .i64 a1.kind,.str a1.name,.sl false 1 16 (rows w9 a1.words),.sl false 4 72 (rows u6.cells a1.subs)]])])
     (fun(gt5:Nat) (t5:(List u7))=>[(0,.ref false o0 gt5 0 t5.length),(7,.int .i64 (↑l0.length:Int))])
     (fun(gt5:Nat) (t5:(List u7))=>(E8 st [(o0,(.arr gt5 5 80 (rows u7.cells t5)))]))
     (q0+1) h (bu hsc)
     (fun gs5 s5 b5 h hx5=>?_) (fun gt5 t5 fr1 st1 h hb=>?_)
    ·unfold H6 at h
     refine cd h (fun hc h=>?_) fun hc h=>?_
     ·obtain⟨fx,h⟩:=ck fx h
      refine rn ?_
      obtain⟨v68,hv68,h⟩:=M1 h
      refine(qV (ih _ _ _ _ hv68 _ _ gs5 hnd (by simp only[go_sem,fx]))).mono ?_
      rintro d1 st1 ⟨g69,rfl,rfl⟩
      refine rn ?_
      cases h
      exact I6 g69 (bu hsc)
     ·refine rn ?_
      cases h
      exact J9 gs5 (bu0 hsc)
    ·try simp only[go_sem,fx]
     unfold M8 at h
     refine R6 hb ?_
     obtain⟨fx,h⟩:=ck fx h
     have fy:=(show(rows u7.cells t5).getD l0.length []=u7.cells (get t5 l0.length)from Bt (E:=u7.cells) (l:=t5) (k:=l0.length) (by first|omega|(simp;omega)))
     have fy:=fa fy (show l0.length<t5.length from by first|omega|(simp;omega))
     obtain⟨c73,Jl,h⟩:=gG h
     have fy:=fa fy (show(rows u7.cells t5).set l0.length [.int .i64 ((get t5 l0.length).kind),.str ((get t5 l0.length).name),.sl false 1 16 (rows w9 ((get t5 l0.length).words)),.sl false 1 1 (rows bR ((get t5 l0.length).bound)),.int .i64 (↑t5.length:Int)]=rows u7.cells c73 from by rw[Jl];first|exact LL (E:=u7.cells) _ _ _|simp only[go_sem,rows,List.map_set])
     refine r1 ?_
     have e75:D.ref false o0 gt5 0 t5.length=D.ref false o0 gt5 0 c73.length:=by simp[Jl]
     try simp only[e75]
     refine rr ?_
     exact fus (.ref false o0 gt5 0 c73.length) (.same _) h hsc (hr:=by rintro rfl;exact⟨gt5,rfl,rfl⟩)
   ·refine cd h (fun hc h=>?_) fun hc h=>?_
    ·refine rn ?_
     refine D6 (body:=M9 a2) (kk:=V8 (B4 n) n a1 c34 l0) (n:=n) (s0:=([a1.name],0))
      (fun(gs4:Nat) (s4:(List Bs)×Int)=>[(0,.ref false o0 (q0+1) 0 c34.length),(2,.sl false 1 16 (rows w9 a2)),(4,.ptr st.length 0 0 0),(7,.int .i64 (↑l0.length:Int)),(12,.ref false (st.length+3) gs4 0 s4.1.length),(13,.int .i64 s4.2)])
      (fun(gs4:Nat) (s4:(List Bs)×Int)=>(E8 st [(o0,(.arr (q0+1) 5 80 (rows u7.cells c34)))])++[some (.arr 0 4 0 [[.int .i64 a1.kind,.str a1.name,.sl false 1 16 (rows w9 a1.words),.sl false 4 72 (rows u6.cells a1.subs)]]),none,none,some (.arr gs4 1 16 (rows w9 s4.1))])
      (fun(gt4:Nat) (t4:(List Bs))=>[(0,.ref false o0 (q0+1) 0 c34.length),(4,.ptr st.length 0 0 0),(7,.int .i64 (↑l0.length:Int)),(12,.ref false (st.length+3) gt4 0 t4.length)])
      (fun(gt4:Nat) (t4:(List Bs))=>(E8 st [(o0,(.arr (q0+1) 5 80 (rows u7.cells c34)))])++[some (.arr 0 4 0 [[.int .i64 a1.kind,.str a1.name,.sl false 1 16 (rows w9 a1.words),.sl false 4 72 (rows u6.cells a1.subs)]]),none,none,some (.arr gt4 1 16 (rows w9 t4))])
      0 h (bu hsc)
      (fun gs4 s4 b4 h hx4=>?_) (fun gt4 t4 fr1 st1 h hb=>?_)
     ·unfold M9 at h
      refine cd h (fun hc h=>?_) fun hc h=>?_
      ·refine r0 ?_
       refine r0 ?_
       obtain⟨fx,h⟩:=ck fx h
       obtain⟨c58,Jm,h⟩:=gG h
       have fy:=(show rows w9 s4.1++[[.str (get a2 s4.2.toNat)]]=rows w9 c58 from by rw[Jm];first|exact F1 (E:=w9) s4.1 [(get a2 s4.2.toNat)]|simp only[go_sem,rows,List.map_append,List.map_cons,List.map_nil])
       have fy:=fa fy (show s4.1.length+1=c58.length from by rw[Jm];simp)
       obtain⟨fx,h⟩:=ck fx h
       refine r1 ?_
       refine rn ?_
       cases h
       exact I6 (gs4+1) (bu hsc)
      ·refine rn ?_
       cases h
       exact J9 gs4 (bu hsc)
     ·try simp only[go_sem,fx]
      unfold V8 at h
      refine hj3 () _ _ _ h ?_;exact(hb.trans (bu hsc (hf:=⟨.s,.s,.s,.ref _ _ _ _ _ _ _ _ _ (L4.trans rfl) (eA (by first|decide|simp)) (by decide) (ng _) (by simp only[go_sem]),trivial⟩)))
    ·refine r0 ?_
     refine hj3 () _ _ _ h ?_;exact(bu hsc)
theorem gZ(n:Nat)(a1:u6)(a2:(List Bs))(r:(List u7))(h:P4 n a1 a2=some r):Pure Tryz.prog gl 20 [.y5,.agg [.int .i64 a1.kind,.str a1.name,.sl false 1 16 (rows w9 a1.words),.sl false 4 72 (rows u6.cells a1.subs)],.sl false 1 16 (rows w9 a2)] (.sl false 5 80 (rows u7.cells r)):=by
 intro st
 unfold P4 at h
 have fx:=trivial
 refine kP ?_;refine fb 107 [.tmp 6] [0,1,2,4,6,7,8,9,10,11,12,13,14,28,34,39,40,41,42,43,44,45,46,47,48,65,66,67,68,75,89] Tryz.func20 fun hsc=>?_
 refine r0 ?_
 refine r0 ?_
 refine r0 ?_
 refine r0 ?_
 (repeat apply sq_)
 refine eJ 1 1 ?_
 try simp only[List.append_assoc,List.cons_append,List.nil_append]
 refine R6 (F:=[(0,.y5),(2,.sl false 1 16 (rows w9 a2)),(4,.ptr st.length 0 0 0),(7,.int .i64 0),(8,.ptr (st.length+1) 0 0 0),(9,.int .i64 0)]) (T:=st++[some (.arr 0 4 0 [[.int .i64 a1.kind,.str a1.name,.sl false 1 16 (rows w9 a1.words),.sl false 4 72 (rows u6.cells a1.subs)]]),some (.arr 0 5 0 [[.int .i64 a1.kind,.str a1.name,.sl false 1 16 (rows w9 a1.words),.ref false (st.length+2) 0 0 0,.int .i64 0]]),some (.arr 0 1 1 (rows bR []))]) (xU hsc (.lv (.live _ _ _ _ (.arr _ _ _ _ _ (.cons _ _ _ _ (.cons _ _ _ _ .s (.cons _ _ _ _ .s (.cons _ _ _ _ .s (.cons _ _ _ _ (.nref _ _ _ _ _ _ (qd.trans rfl)) (.cons _ _ _ _ .s .nil))))) (.same _))) (.lv (.nil _)))) (by simp) ⟨.s,.s,.s,.s,.s,.s,trivial⟩ (by simp)) ?_
 (repeat apply sq_)
 refine D6 (body:=P9 n a1 a2) (kk:=Q5 n a1 a2) (n:=n) (s0:=([],0))
  (fun(gs0:Nat) (s0:(List Bool)×Int)=>[(0,.y5),(2,.sl false 1 16 (rows w9 a2)),(4,.ptr st.length 0 0 0),(7,.int .i64 0),(8,.ptr (st.length+1) 0 0 0),(9,.int .i64 s0.2)])
  (fun(gs0:Nat) (s0:(List Bool)×Int)=>st++[some (.arr 0 4 0 [[.int .i64 a1.kind,.str a1.name,.sl false 1 16 (rows w9 a1.words),.sl false 4 72 (rows u6.cells a1.subs)]]),some (.arr 0 5 0 [[.int .i64 a1.kind,.str a1.name,.sl false 1 16 (rows w9 a1.words),.ref false (st.length+2) gs0 0 s0.1.length,.int .i64 0]]),some (.arr gs0 1 1 (rows bR s0.1))])
  (fun(gt0:Nat) (t0:(List Bool))=>[(0,.y5),(2,.sl false 1 16 (rows w9 a2)),(4,.ptr st.length 0 0 0),(7,.int .i64 0),(8,.ptr (st.length+1) 0 0 0)])
  (fun(gt0:Nat) (t0:(List Bool))=>st++[some (.arr 0 4 0 [[.int .i64 a1.kind,.str a1.name,.sl false 1 16 (rows w9 a1.words),.sl false 4 72 (rows u6.cells a1.subs)]]),some (.arr 0 5 0 [[.int .i64 a1.kind,.str a1.name,.sl false 1 16 (rows w9 a1.words),.ref false (st.length+2) gt0 0 t0.length,.int .i64 0]]),some (.arr gt0 1 1 (rows bR t0))])
  0 h (bm hsc)
  (fun gs0 s0 b0 h hx0=>?_) (fun gt0 t0 fr1 st1 h hb=>?_)
 ·unfold P9 at h
  refine cd h (fun hc h=>?_) fun hc h=>?_
  ·refine rn ?_
   refine D6 (body:=Q0 a2 s0 a1) (kk:=Z0 s0) (n:=n) (s0:=(false,0))
    (fun(gs2:Unit) (s2:Bool×Int)=>[(0,.y5),(2,.sl false 1 16 (rows w9 a2)),(4,.ptr st.length 0 0 0),(7,.int .i64 0),(8,.ptr (st.length+1) 0 0 0),(9,.int .i64 s0.2),(10,.bool s2.1),(11,.int .i64 s2.2)])
    (fun(gs2:Unit) (s2:Bool×Int)=>st++[some (.arr 0 4 0 [[.int .i64 a1.kind,.str a1.name,.sl false 1 16 (rows w9 a1.words),.sl false 4 72 (rows u6.cells a1.subs)]]),some (.arr 0 5 0 [[.int .i64 a1.kind,.str a1.name,.sl false 1 16 (rows w9 a1.words),.ref false (st.length+2) gs0 0 s0.1.length,.int .i64 0]]),some (.arr gs0 1 1 (rows bR s0.1))])
    (fun(gt2:Unit) (t2:Bool)=>[(0,.y5),(2,.sl false 1 16 (rows w9 a2)),(4,.ptr st.length 0 0 0),(7,.int .i64 0),(8,.ptr (st.length+1) 0 0 0),(9,.int .i64 s0.2),(10,.bool t2)])
    (fun(gt2:Unit) (t2:Bool)=>st++[some (.arr 0 4 0 [[.int .i64 a1.kind,.str a1.name,.sl false 1 16 (rows w9 a1.words),.sl false 4 72 (rows u6.cells a1.subs)]]),some (.arr 0 5 0 [[.int .i64 a1.kind,.str a1.name,.sl false 1 16 (rows w9 a1.words),.ref false (st.length+2) gs0 0 s0.1.length,.int .i64 0]]),some (.arr gs0 1 1 (rows bR s0.1))])
    () h (bm hsc)
    (fun gs2 s2 b2 h hx2=>?_) (fun gt2 t2 fr1 st1 h hb=>?_)
   ·unfold Q0 at h
    refine cd h (fun hc h=>?_) fun hc h=>?_
    ·refine rn ?_
     obtain⟨fx,h⟩:=ck fx h
     obtain⟨fx,h⟩:=ck fx h
     refine dw [] 0 ?_
     refine rn ?_
     cases h
     exact I6 () (bm hsc)
    ·refine rn ?_
     cases h
     exact J9 () (bm hsc)
   ·try simp only[go_sem,fx]
    unfold Z0 at h
    refine R6 hb ?_
    obtain⟨c28,Jk,h⟩:=gG h
    have fy:=(show rows bR s0.1++[[.bool t2]]=rows bR c28 from by rw[Jk];first|exact F1 (E:=bR) s0.1 [t2]|simp only[go_sem,rows,List.map_append,List.map_cons,List.map_nil])
    have fy:=fa fy (show s0.1.length+1=c28.length from by rw[Jk];simp)
    obtain⟨fx,h⟩:=ck fx h
    refine r1 ?_
    refine rn ?_
    cases h
    exact I6 (gs0+1) (bm hsc)
  ·refine rn ?_
   cases h
   exact J9 gs0 (bm hsc)
 ·try simp only[go_sem,fx]
  unfold Q5 at h
  refine R6 hb ?_
  (repeat apply sq_)
  refine R6 (F:=[(0,.y5),(2,.sl false 1 16 (rows w9 a2)),(4,.ptr st.length 0 0 0),(7,.int .i64 0),(8,.ptr (st.length+1) 0 0 0)]) (T:=st++[some (.arr 0 4 0 [[.int .i64 a1.kind,.str a1.name,.sl false 1 16 (rows w9 a1.words),.sl false 4 72 (rows u6.cells a1.subs)]]),some (.arr 0 5 0 [[.int .i64 a1.kind,.str a1.name,.sl false 1 16 (rows w9 a1.words),.sl false 1 1 (rows bR t0),.int .i64 0]])]) (xU hsc (.lv (.live _ _ _ _ (.arr _ _ _ _ _ (.cons _ _ _ _ (.cons _ _ _ _ .s (.cons _ _ _ _ .s (.cons _ _ _ _ .s (.cons _ _ _ _ (.ref _ _ _ _ _ _ _ _ _ (qd.trans rfl) (oz (by first|decide|simp)) (by decide) (ng _) (by simp only[go_sem])) (.cons _ _ _ _ .s .nil))))) (.same _))) (.nil _))) (by simp) ⟨.s,.s,.s,.s,.s,trivial⟩ (by simp)) ?_
  obtain⟨c34,DR,h⟩:=gG h
  obtain⟨fx,h⟩:=ck fx h
  refine r0 ?_
  have e37:D.ref false (st.length+3) 0 0 1=D.ref false (st.length+3) 0 0 c34.length:=by simp[DR]
  have e38: [[.int .i64 a1.kind,.str a1.name,.sl false 1 16 (rows w9 a1.words),.sl false 1 1 (rows bR t0),.int .i64 0]]=rows u7.cells c34:=by rw[DR];first|rfl|simp only[go_sem,rows,List.map_cons,List.map_nil]
  try simp only[e37,e38]
  refine rn ?_
  refine aF (F9 n a1 c34) r (fun(gj3:Unit) (j3:(List Bs))=>[(0,.ref false (st.length+3) 0 0 c34.length),(4,.ptr st.length 0 0 0),(7,.int .i64 0),(12,.sl false 1 16 (rows w9 j3))]) (fun(gj3:Unit) (j3:(List Bs))=>st++[some (.arr 0 4 0 [[.int .i64 a1.kind,.str a1.name,.sl false 1 16 (rows w9 a1.words),.sl false 4 72 (rows u6.cells a1.subs)]]),none,none,some (.arr 0 5 80 (rows u7.cells c34))]) (fun gj3 j3 fr1 st1 h hb=>?_) (fun hj3=>?_)
  ·try simp only[go_sem,fx]
   unfold F9 at h
   refine R6 hb ?_
   refine rn ?_
   refine D6 (body:=K0 n a1 j3) (kk:=Q6) (n:=n) (s0:=(c34,0))
    (fun(gs5:Nat) (s5:(List u7)×Int)=>[(0,.ref false (st.length+3) gs5 0 s5.1.length),(4,.ptr st.length 0 0 0),(7,.int .i64 0),(12,.sl false 1 16 (rows w9 j3)),(14,.int .i64 s5.2)])
    (fun(gs5:Nat) (s5:(List u7)×Int)=>st++[some (.arr 0 4 0 [[.int .i64 a1.kind,.str a1.name,.sl false 1 16 (rows w9 a1.words),.sl false 4 72 (rows u6.cells a1.subs)]]),none,none,some (.arr gs5 5 80 (rows u7.cells s5.1))])
    (fun(gt5:Nat) (t5:(List u7))=>[(0,.ref false (st.length+3) gt5 0 t5.length),(7,.int .i64 0)])
    (fun(gt5:Nat) (t5:(List u7))=>st++[none,none,none,some (.arr gt5 5 80 (rows u7.cells t5))])
    0 h (bm hsc)
    (fun gs5 s5 b5 h hx5=>?_) (fun gt5 t5 fr1 st1 h hb=>?_)
   ·unfold K0 at h
    refine cd h (fun hc h=>?_) fun hc h=>?_
    ·obtain⟨fx,h⟩:=ck fx h
     refine rn ?_
     obtain⟨v68,hv68,h⟩:=M1 h
     refine(qV (fR n _ _ _ _ hv68 _ _ gs5 (by simp) (lC.trans rfl))).mono ?_
     rintro d1 st1 ⟨g69,rfl,rfl⟩
     refine rn ?_
     cases h
     exact I6 g69 (bm hsc)
    ·refine rn ?_
     cases h
     exact J9 gs5 (bm hsc)
   ·try simp only[go_sem,fx]
    unfold Q6 at h
    refine R6 hb ?_
    obtain⟨fx,h⟩:=ck fx h
    have fy:=(show(rows u7.cells t5).getD 0 []=u7.cells (get t5 0)from Bt (E:=u7.cells) (l:=t5) (k:=0) (by first|omega|(simp;omega)))
    have fy:=fa fy (show 0<t5.length from by first|omega|(simp;omega))
    obtain⟨c73,Jl,h⟩:=gG h
    have fy:=fa fy (show(rows u7.cells t5).set 0 [.int .i64 ((get t5 0).kind),.str ((get t5 0).name),.sl false 1 16 (rows w9 ((get t5 0).words)),.sl false 1 1 (rows bR ((get t5 0).bound)),.int .i64 (↑t5.length:Int)]=rows u7.cells c73 from by rw[Jl];first|exact LL (E:=u7.cells) _ _ _|simp only[go_sem,rows,List.map_set])
    refine r1 ?_
    have e75:D.ref false (st.length+3) gt5 0 t5.length=D.ref false (st.length+3) gt5 0 c73.length:=by simp[Jl]
    try simp only[e75]
    refine rr ?_
    exact fo (.sl false 5 80 (rows u7.cells c73)) (.ref _ _ _ _ _ _ _ _ _ (qd.trans rfl) Bq (by decide) (ng _) (by simp only[go_sem])) h hsc
  ·refine cd h (fun hc h=>?_) fun hc h=>?_
   ·refine rn ?_
    refine D6 (body:=Q7 a2) (kk:=Z1 n a1 c34) (n:=n) (s0:=([a1.name],0))
     (fun(gs4:Nat) (s4:(List Bs)×Int)=>[(0,.ref false (st.length+3) 0 0 c34.length),(2,.sl false 1 16 (rows w9 a2)),(4,.ptr st.length 0 0 0),(7,.int .i64 0),(12,.ref false (st.length+4) gs4 0 s4.1.length),(13,.int .i64 s4.2)])
     (fun(gs4:Nat) (s4:(List Bs)×Int)=>st++[some (.arr 0 4 0 [[.int .i64 a1.kind,.str a1.name,.sl false 1 16 (rows w9 a1.words),.sl false 4 72 (rows u6.cells a1.subs)]]),none,none,some (.arr 0 5 80 (rows u7.cells c34)),some (.arr gs4 1 16 (rows w9 s4.1))])
     (fun(gt4:Nat) (t4:(List Bs))=>[(0,.ref false (st.length+3) 0 0 c34.length),(4,.ptr st.length 0 0 0),(7,.int .i64 0),(12,.ref false (st.length+4) gt4 0 t4.length)])
     (fun(gt4:Nat) (t4:(List Bs))=>st++[some (.arr 0 4 0 [[.int .i64 a1.kind,.str a1.name,.sl false 1 16 (rows w9 a1.words),.sl false 4 72 (rows u6.cells a1.subs)]]),none,none,some (.arr 0 5 80 (rows u7.cells c34)),some (.arr gt4 1 16 (rows w9 t4))])
     0 h (bm hsc)
     (fun gs4 s4 b4 h hx4=>?_) (fun gt4 t4 fr1 st1 h hb=>?_)
    ·unfold Q7 at h
     refine cd h (fun hc h=>?_) fun hc h=>?_
     ·refine r0 ?_
      refine r0 ?_
      obtain⟨fx,h⟩:=ck fx h
      obtain⟨c58,Jm,h⟩:=gG h
      have fy:=(show rows w9 s4.1++[[.str (get a2 s4.2.toNat)]]=rows w9 c58 from by rw[Jm];first|exact F1 (E:=w9) s4.1 [(get a2 s4.2.toNat)]|simp only[go_sem,rows,List.map_append,List.map_cons,List.map_nil])
      have fy:=fa fy (show s4.1.length+1=c58.length from by rw[Jm];simp)
      obtain⟨fx,h⟩:=ck fx h
      refine r1 ?_
      refine rn ?_
      cases h
      exact I6 (gs4+1) (bm hsc)
     ·refine rn ?_
      cases h
      exact J9 gs4 (bm hsc)
    ·try simp only[go_sem,fx]
     unfold Z1 at h
     refine hj3 () _ _ _ h ?_;exact(hb.trans (bm hsc (hf:=⟨.s,.s,.s,.ref _ _ _ _ _ _ _ _ _ (qd.trans rfl) (oz (by first|decide|simp)) (by decide) (ng _) (by simp only[go_sem]),trivial⟩)))
   ·refine r0 ?_
    refine hj3 () _ _ _ h ?_;exact(bm hsc)
end Go.Proofs.YtahjhbkhcaphgaaGreatDoor
