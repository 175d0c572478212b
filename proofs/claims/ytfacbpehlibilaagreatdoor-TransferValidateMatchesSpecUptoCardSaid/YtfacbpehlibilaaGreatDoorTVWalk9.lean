import Derived.Test.YtfacbpehlibilaaGreatDoorTVWalk8
set_option linter.unusedVariables false
set_option linter.unusedSimpArgs false
set_option maxHeartbeats 2000000
set_option maxRecDepth 100000
namespace Go.Proofs.YtfacbpehlibilaaGreatDoor
open Go Go.Am
theorem u4u(n:Nat)(a0:(List Bs))(a1:(List Bs))(r:Bool)(h:r9W n a0 a1=some r):Pure Tryz.prog gl 24 [.sl false 1 16 (rows r4X a0),.sl false 1 16 (rows r4X a1)] (.bool r):=by
 intro st
 unfold r9W at h
 have fx:=trivial
 refine fb 26 [.tmp 4] [0,1,4,5,10,14,25] Tryz.func24 fun hsc=>?_
 refine cd h (fun hc h=>?_) fun hc h=>?_
 ·exact rt
 ·refine rn ?_
  refine r5M (body:=r8Y a0 a1) (kk:=r8Z) (n:=n) (s0:=0)
   (fun(gs0:Unit) (s0:Int)=>[(0,.sl false 1 16 (rows r4X a0)),(1,.sl false 1 16 (rows r4X a1)),(5,.int .i64 s0)])
   (fun(gs0:Unit) (s0:Int)=>st)
   (fun(gt0:Unit) (t0:Unit)=>[])
   (fun(gt0:Unit) (t0:Unit)=>st)
   () h (u6s hsc)
   (fun gs0 s0 b0 h hx0=>?_) (fun gt0 t0 fr1 st1 h hb=>?_)
  ·unfold r8Y at h
   refine cd h (fun hc h=>?_) fun hc h=>?_
   ·refine rn ?_
    obtain⟨fx,h⟩:=ck fx h
    obtain⟨fx,h⟩:=ck fx h
    refine dw [] 0 ?_
    refine cd h (fun hc h=>?_) fun hc h=>?_
    ·refine ra ?_
     cases h
     refine u0d ?_;have h:=congrArg some (hx0 _ rfl)
     exact rt
    ·refine rn ?_
     cases h
     exact r6h () (u6s hsc)
   ·refine rn ?_
    cases h
    exact r7i () (u6s hsc)
  ·try simp only[go_sem,fx]
   unfold r8Z at h
   refine r6O hb ?_
   exact rt
theorem u4D:∀(n:Nat) (a0:p6w) (a1:p6w) (r:Bool) (h:r7z n a0 a1=some r),Pure Tryz.prog gl 18 [.agg [.int .i64 a0.kind,.str a0.name,.sl false 1 16 (rows r4X a0.words),.sl false 4 72 (rows p6w.cells a0.subs)],.agg [.int .i64 a1.kind,.str a1.name,.sl false 1 16 (rows r4X a1.words),.sl false 4 72 (rows p6w.cells a1.subs)]] (.bool r):=by
 intro n
 induction n with
 |zero=>intro a0 a1 r h;cases h
 |succ n ih=>
  intro a0 a1 r h st
  unfold r7z at h
  have fx:=trivial
  refine fb 54 [.tmp 4] [0,1,2,3,4,5,12,13,14,15,16,19,20,21,22,23,24,27,28,29,30,31,32,33,34,39,53] Tryz.func18 fun hsc=>?_
  refine rn ?_
  obtain⟨v1,hv1,h⟩:=r7G h
  refine u0C (fun hG=>(u4u n _ _ _ (w1s hv1 (by simpa using hG)))) ?_
  refine cd h (fun hc h=>?_) fun hc h=>?_
  ·exact rt
  ·refine rn ?_
   refine r5M (body:=r9g (r7z n) a0 a1) (kk:=r9h) (n:=n) (s0:=0)
    (fun(gs0:Unit) (s0:Int)=>[(2,.ptr st.length 0 0 0),(3,.ptr (st.length+1) 0 0 0),(5,.int .i64 s0)])
    (fun(gs0:Unit) (s0:Int)=>st++[some (.arr 0 4 0 [[.int .i64 a0.kind,.str a0.name,.sl false 1 16 (rows r4X a0.words),.sl false 4 72 (rows p6w.cells a0.subs)]]),some (.arr 0 4 0 [[.int .i64 a1.kind,.str a1.name,.sl false 1 16 (rows r4X a1.words),.sl false 4 72 (rows p6w.cells a1.subs)]])])
    (fun(gt0:Unit) (t0:Unit)=>[])
    (fun(gt0:Unit) (t0:Unit)=>st)
    () h (bm hsc)
    (fun gs0 s0 b0 h hx0=>?_) (fun gt0 t0 fr1 st1 h hb=>?_)
   ·unfold r9g at h
    refine cd h (fun hc h=>?_) fun hc h=>?_
    ·refine rn ?_
     obtain⟨fx,h⟩:=ck fx h
     obtain⟨fx,h⟩:=ck fx h
     refine dw [] 0 ?_
     obtain⟨v8,hv8,h⟩:=r7G h
     refine r8U (ih _ _ _ hv8) ?_
     try simp only[go_sem,fx]
     refine cd h (fun hc h=>?_) fun hc h=>?_
     ·refine ra ?_
      cases h
      refine u0d ?_;have h:=congrArg some (hx0 _ rfl)
      exact rt
     ·refine rn ?_
      cases h
      exact r6h () (bm hsc)
    ·refine rn ?_
     cases h
     exact r7i () (bm0 hsc)
   ·try simp only[go_sem,fx]
    unfold r9h at h
    refine r6O hb ?_
    exact rt
theorem u3g(n:Nat)(r:Bool)(h:r6s n=some r):Pure Tryz.prog gl 10 [] (.bool r):=by
 intro st
 unfold r6s at h
 have fx:=trivial
 refine fb 68 [.tmp 0] [0,1,2,3,4,5,6,7,47,48,49,52,53,54,57,58,59,62,63,64,65,66] Tryz.func10 fun hsc=>?_
 refine cl h (r6V _ _) fun v2 h=>?_
 refine cl h (r6V _ _) fun v5 h=>?_
 refine cl h (r6V _ _) fun v7 h=>?_
 refine cl h (u2L _ _ _) fun v8 h=>?_
 refine cl h (r6V _ _) fun v10 h=>?_
 try simp only[go_sem,fx]
 (repeat apply sq_)
 refine r6O (F:=[(1,.ptr st.length 0 0 0),(2,.ptr (st.length+2) 0 0 0)]) (T:=st++[some (.arr 0 11 0 [[.int .i64 v2.kind,.str v2.name,.sl false 1 16 (rows r4X v2.words),.sl false 4 72 (rows p6w.cells v2.subs),.sl false 1 16 [[.str [120]]],.r5g,.r5g,.int .i64 v8.kind,.str v8.name,.sl false 1 16 (rows r4X v8.words),.sl false 4 72 (rows p6w.cells v8.subs)]]),some (.arr 0 4 72 (rows p6w.cells [v10])),some (.arr 0 4 0 [[.int .i64 9,.str [121],.r5g,.ref true (st.length+1) 0 0 1]])]) (w5R hsc (.lv (.live _ _ _ _ (by simp only[go_sem,rows,List.map_cons,List.map_nil];exact .same _) (.lv (.nil _)))) (by simp) ⟨.s,.s,trivial⟩ (by simp)) ?_
 (repeat apply sq_)
 refine r6O (F:=[(1,.ptr st.length 0 0 0),(2,.ptr (st.length+2) 0 0 0)]) (T:=st++[some (.arr 0 11 0 [[.int .i64 v2.kind,.str v2.name,.sl false 1 16 (rows r4X v2.words),.sl false 4 72 (rows p6w.cells v2.subs),.sl false 1 16 [[.str [120]]],.r5g,.r5g,.int .i64 v8.kind,.str v8.name,.sl false 1 16 (rows r4X v8.words),.sl false 4 72 (rows p6w.cells v8.subs)]]),none,some (.arr 0 4 0 [[.int .i64 9,.str [121],.r5g,.sl false 4 72 (rows p6w.cells [v10])]])]) (w5R hsc (.lv (.dead _ _ _ (.live _ _ _ _ (.arr _ _ _ _ _ (.cons _ _ _ _ (.cons _ _ _ _ .s (.cons _ _ _ _ .s (.cons _ _ _ _ .s (.cons _ _ _ _ (.ref _ _ _ _ _ _ _ _ _ (w0z.trans rfl) (u4b.trans rfl) (by decide) (u4I _) (by simp only[go_sem])) .nil)))) (.same _))) (.nil _)))) (by simp) ⟨.s,.s,trivial⟩ (by simp)) ?_
 refine cl h (r6V _ _) fun v13 h=>?_
 refine cl h (r6V _ _) fun v15 h=>?_
 refine cl h (u2L _ _ _) fun v16 h=>?_
 try simp only[go_sem,fx]
 (repeat apply sq_)
 refine r6O (F:=[(1,.ptr st.length 0 0 0),(2,.ptr (st.length+2) 0 0 0),(3,.ptr (st.length+4) 0 0 0)]) (T:=st++[some (.arr 0 11 0 [[.int .i64 v2.kind,.str v2.name,.sl false 1 16 (rows r4X v2.words),.sl false 4 72 (rows p6w.cells v2.subs),.sl false 1 16 [[.str [120]]],.r5g,.r5g,.int .i64 v8.kind,.str v8.name,.sl false 1 16 (rows r4X v8.words),.sl false 4 72 (rows p6w.cells v8.subs)]]),none,some (.arr 0 4 0 [[.int .i64 9,.str [121],.r5g,.sl false 4 72 (rows p6w.cells [v10])]]),some (.arr 0 4 72 (rows p6w.cells [v16])),some (.arr 0 4 0 [[.int .i64 9,.str [118,48],.r5g,.ref true (st.length+3) 0 0 1]])]) (w5R hsc (.lv (.dead _ _ _ (.lv (.live _ _ _ _ (by simp only[go_sem,rows,List.map_cons,List.map_nil];exact .same _) (.lv (.nil _)))))) (by simp) ⟨.s,.s,.s,trivial⟩ (by simp)) ?_
 (repeat apply sq_)
 refine r6O (F:=[(1,.ptr st.length 0 0 0),(2,.ptr (st.length+2) 0 0 0),(3,.ptr (st.length+4) 0 0 0)]) (T:=st++[some (.arr 0 11 0 [[.int .i64 v2.kind,.str v2.name,.sl false 1 16 (rows r4X v2.words),.sl false 4 72 (rows p6w.cells v2.subs),.sl false 1 16 [[.str [120]]],.r5g,.r5g,.int .i64 v8.kind,.str v8.name,.sl false 1 16 (rows r4X v8.words),.sl false 4 72 (rows p6w.cells v8.subs)]]),none,some (.arr 0 4 0 [[.int .i64 9,.str [121],.r5g,.sl false 4 72 (rows p6w.cells [v10])]]),none,some (.arr 0 4 0 [[.int .i64 9,.str [118,48],.r5g,.sl false 4 72 (rows p6w.cells [v16])]])]) (w5R hsc (.lv (.dead _ _ _ (.lv (.dead _ _ _ (.live _ _ _ _ (.arr _ _ _ _ _ (.cons _ _ _ _ (.cons _ _ _ _ .s (.cons _ _ _ _ .s (.cons _ _ _ _ .s (.cons _ _ _ _ (.ref _ _ _ _ _ _ _ _ _ (w0z.trans rfl) (u4b.trans rfl) (by decide) (u4I _) (by simp only[go_sem])) .nil)))) (.same _))) (.nil _)))))) (by simp) ⟨.s,.s,.s,trivial⟩ (by simp)) ?_
 refine rn ?_
 obtain⟨v19,hv19,h⟩:=r7G h
 refine x0h (st:=st++[some (.arr 0 11 0 [[.int .i64 v2.kind,.str v2.name,.sl false 1 16 (rows r4X v2.words),.sl false 4 72 (rows p6w.cells v2.subs),.sl false 1 16 [[.str [120]]],.r5g,.r5g,.int .i64 v8.kind,.str v8.name,.sl false 1 16 (rows r4X v8.words),.sl false 4 72 (rows p6w.cells v8.subs)]]),none,some (.arr 0 4 0 [[.int .i64 9,.str [121],.r5g,.sl false 4 72 (rows p6w.cells [v10])]]),none,some (.arr 0 4 0 [[.int .i64 9,.str [118,48],.r5g,.sl false 4 72 (rows p6w.cells [v16])]]),some (.arr 0 11 216 [[.int .i64 v2.kind,.str v2.name,.sl false 1 16 (rows r4X v2.words),.sl false 4 72 (rows p6w.cells v2.subs),.sl false 1 16 [[.str [120]]],.r5g,.r5g,.int .i64 v8.kind,.str v8.name,.sl false 1 16 (rows r4X v8.words),.sl false 4 72 (rows p6w.cells v8.subs)]])]) (args:=[.ref true (st.length+5) 0 0 1,.agg [.int .i64 9,.str [121],.r5g,.sl false 4 72 (rows p6w.cells [v10])]]) (T:=st++[some (.arr 0 11 0 [[.int .i64 v2.kind,.str v2.name,.sl false 1 16 (rows r4X v2.words),.sl false 4 72 (rows p6w.cells v2.subs),.sl false 1 16 [[.str [120]]],.r5g,.r5g,.int .i64 v8.kind,.str v8.name,.sl false 1 16 (rows r4X v8.words),.sl false 4 72 (rows p6w.cells v8.subs)]]),none,some (.arr 0 4 0 [[.int .i64 9,.str [121],.r5g,.sl false 4 72 (rows p6w.cells [v10])]]),none,some (.arr 0 4 0 [[.int .i64 9,.str [118,48],.r5g,.sl false 4 72 (rows p6w.cells [v16])]]),some (.arr 0 11 216 [[.int .i64 v2.kind,.str v2.name,.sl false 1 16 (rows r4X v2.words),.sl false 4 72 (rows p6w.cells v2.subs),.sl false 1 16 [[.str [120]]],.sl false 1 16 [],.sl false 1 16 [],.int .i64 v8.kind,.str v8.name,.sl false 1 16 (rows r4X v8.words),.sl false 4 72 (rows p6w.cells v8.subs)]])]) (w2S hsc (.lv (.dead _ _ _ (.lv (.dead _ _ _ (.lv (.live _ _ _ _ (.arr _ _ _ _ _ (.cons _ _ _ _ (.cons _ _ _ _ .s (.cons _ _ _ _ .s (.cons _ _ _ _ .s (.cons _ _ _ _ .s (.cons _ _ _ _ .s (.cons _ _ _ _ (.r5g _ _ _ (by decide)) (.cons _ _ _ _ (.r5g _ _ _ (by decide)) (.cons _ _ _ _ .s (.cons _ _ _ _ .s (.cons _ _ _ _ .s (.cons _ _ _ _ .s .nil))))))))))) .nil)) (.nil _))))))) (by simp)) (by simp) (by simp) ((u9A n _ _ _ hv19).freeze (st:=st++[some (.arr 0 11 0 [[.int .i64 v2.kind,.str v2.name,.sl false 1 16 (rows r4X v2.words),.sl false 4 72 (rows p6w.cells v2.subs),.sl false 1 16 [[.str [120]]],.r5g,.r5g,.int .i64 v8.kind,.str v8.name,.sl false 1 16 (rows r4X v8.words),.sl false 4 72 (rows p6w.cells v8.subs)]]),none,some (.arr 0 4 0 [[.int .i64 9,.str [121],.r5g,.sl false 4 72 (rows p6w.cells [v10])]]),none,some (.arr 0 4 0 [[.int .i64 9,.str [118,48],.r5g,.sl false 4 72 (rows p6w.cells [v16])]]),some (.arr 0 11 216 [[.int .i64 v2.kind,.str v2.name,.sl false 1 16 (rows r4X v2.words),.sl false 4 72 (rows p6w.cells v2.subs),.sl false 1 16 [[.str [120]]],.sl false 1 16 [],.sl false 1 16 [],.int .i64 v8.kind,.str v8.name,.sl false 1 16 (rows r4X v8.words),.sl false 4 72 (rows p6w.cells v8.subs)]])]) (args:=[.ref true (st.length+5) 0 0 1,.agg [.int .i64 9,.str [121],.r5g,.sl false 4 72 (rows p6w.cells [v10])]]) (T:=st++[some (.arr 0 11 0 [[.int .i64 v2.kind,.str v2.name,.sl false 1 16 (rows r4X v2.words),.sl false 4 72 (rows p6w.cells v2.subs),.sl false 1 16 [[.str [120]]],.r5g,.r5g,.int .i64 v8.kind,.str v8.name,.sl false 1 16 (rows r4X v8.words),.sl false 4 72 (rows p6w.cells v8.subs)]]),none,some (.arr 0 4 0 [[.int .i64 9,.str [121],.r5g,.sl false 4 72 (rows p6w.cells [v10])]]),none,some (.arr 0 4 0 [[.int .i64 9,.str [118,48],.r5g,.sl false 4 72 (rows p6w.cells [v16])]]),none]) (w2S hsc (.lv (.dead _ _ _ (.lv (.dead _ _ _ (.lv (.dead _ _ _ (.nil _))))))) (by simp)) (by simp) (.cons _ _ _ _ (.ref _ _ _ _ _ _ _ _ _ (w0z.trans rfl) (u4b.trans rfl) (by decide) (by simp[Imm,D.imm]) (by simp only[go_sem,rows,List.map_cons,List.map_nil])) (.cons _ _ _ _ (.agg _ _ (.cons _ _ _ _ .s (.cons _ _ _ _ .s (.cons _ _ _ _ (.r5g _ _ _ (by decide)) (.cons _ _ _ _ .s .nil))))) .nil)) (by simp) ?_)
 refine rn ?_
 obtain⟨v21,hv21,h⟩:=r7G h
 refine x0h (st:=st++[some (.arr 0 11 0 [[.int .i64 v2.kind,.str v2.name,.sl false 1 16 (rows r4X v2.words),.sl false 4 72 (rows p6w.cells v2.subs),.sl false 1 16 [[.str [120]]],.r5g,.r5g,.int .i64 v8.kind,.str v8.name,.sl false 1 16 (rows r4X v8.words),.sl false 4 72 (rows p6w.cells v8.subs)]]),none,some (.arr 0 4 0 [[.int .i64 9,.str [121],.r5g,.sl false 4 72 (rows p6w.cells [v10])]]),none,some (.arr 0 4 0 [[.int .i64 9,.str [118,48],.r5g,.sl false 4 72 (rows p6w.cells [v16])]]),none,some (.arr 0 4 0 [[.int .i64 v19.1.kind,.str v19.1.name,.sl false 1 16 (rows r4X v19.1.words),.sl false 4 72 (rows p6w.cells v19.1.subs)]]),some (.arr 0 2 0 [[.int .i64 v19.2.code,.int .i64 v19.2.index]]),some (.arr 0 11 216 [[.int .i64 v2.kind,.str v2.name,.sl false 1 16 (rows r4X v2.words),.sl false 4 72 (rows p6w.cells v2.subs),.sl false 1 16 [[.str [120]]],.r5g,.r5g,.int .i64 v8.kind,.str v8.name,.sl false 1 16 (rows r4X v8.words),.sl false 4 72 (rows p6w.cells v8.subs)]])]) (args:=[.ref true (st.length+8) 0 0 1,.agg [.int .i64 9,.str [121],.r5g,.sl false 4 72 (rows p6w.cells [v10])]]) (T:=st++[some (.arr 0 11 0 [[.int .i64 v2.kind,.str v2.name,.sl false 1 16 (rows r4X v2.words),.sl false 4 72 (rows p6w.cells v2.subs),.sl false 1 16 [[.str [120]]],.r5g,.r5g,.int .i64 v8.kind,.str v8.name,.sl false 1 16 (rows r4X v8.words),.sl false 4 72 (rows p6w.cells v8.subs)]]),none,some (.arr 0 4 0 [[.int .i64 9,.str [121],.r5g,.sl false 4 72 (rows p6w.cells [v10])]]),none,some (.arr 0 4 0 [[.int .i64 9,.str [118,48],.r5g,.sl false 4 72 (rows p6w.cells [v16])]]),none,some (.arr 0 4 0 [[.int .i64 v19.1.kind,.str v19.1.name,.sl false 1 16 (rows r4X v19.1.words),.sl false 4 72 (rows p6w.cells v19.1.subs)]]),some (.arr 0 2 0 [[.int .i64 v19.2.code,.int .i64 v19.2.index]]),some (.arr 0 11 216 [[.int .i64 v2.kind,.str v2.name,.sl false 1 16 (rows r4X v2.words),.sl false 4 72 (rows p6w.cells v2.subs),.sl false 1 16 [[.str [120]]],.sl false 1 16 [],.sl false 1 16 [],.int .i64 v8.kind,.str v8.name,.sl false 1 16 (rows r4X v8.words),.sl false 4 72 (rows p6w.cells v8.subs)]])]) (w2S hsc (.lv (.dead _ _ _ (.lv (.dead _ _ _ (.lv (.dead _ _ _ (.lv (.lv (.live _ _ _ _ (.arr _ _ _ _ _ (.cons _ _ _ _ (.cons _ _ _ _ .s (.cons _ _ _ _ .s (.cons _ _ _ _ .s (.cons _ _ _ _ .s (.cons _ _ _ _ .s (.cons _ _ _ _ (.r5g _ _ _ (by decide)) (.cons _ _ _ _ (.r5g _ _ _ (by decide)) (.cons _ _ _ _ .s (.cons _ _ _ _ .s (.cons _ _ _ _ .s (.cons _ _ _ _ .s .nil))))))))))) .nil)) (.nil _)))))))))) (by simp)) (by simp) (by simp) ((u9B n _ _ _ hv21).freeze (st:=st++[some (.arr 0 11 0 [[.int .i64 v2.kind,.str v2.name,.sl false 1 16 (rows r4X v2.words),.sl false 4 72 (rows p6w.cells v2.subs),.sl false 1 16 [[.str [120]]],.r5g,.r5g,.int .i64 v8.kind,.str v8.name,.sl false 1 16 (rows r4X v8.words),.sl false 4 72 (rows p6w.cells v8.subs)]]),none,some (.arr 0 4 0 [[.int .i64 9,.str [121],.r5g,.sl false 4 72 (rows p6w.cells [v10])]]),none,some (.arr 0 4 0 [[.int .i64 9,.str [118,48],.r5g,.sl false 4 72 (rows p6w.cells [v16])]]),none,some (.arr 0 4 0 [[.int .i64 v19.1.kind,.str v19.1.name,.sl false 1 16 (rows r4X v19.1.words),.sl false 4 72 (rows p6w.cells v19.1.subs)]]),some (.arr 0 2 0 [[.int .i64 v19.2.code,.int .i64 v19.2.index]]),some (.arr 0 11 216 [[.int .i64 v2.kind,.str v2.name,.sl false 1 16 (rows r4X v2.words),.sl false 4 72 (rows p6w.cells v2.subs),.sl false 1 16 [[.str [120]]],.sl false 1 16 [],.sl false 1 16 [],.int .i64 v8.kind,.str v8.name,.sl false 1 16 (rows r4X v8.words),.sl false 4 72 (rows p6w.cells v8.subs)]])]) (args:=[.ref true (st.length+8) 0 0 1,.agg [.int .i64 9,.str [121],.r5g,.sl false 4 72 (rows p6w.cells [v10])]]) (T:=st++[some (.arr 0 11 0 [[.int .i64 v2.kind,.str v2.name,.sl false 1 16 (rows r4X v2.words),.sl false 4 72 (rows p6w.cells v2.subs),.sl false 1 16 [[.str [120]]],.r5g,.r5g,.int .i64 v8.kind,.str v8.name,.sl false 1 16 (rows r4X v8.words),.sl false 4 72 (rows p6w.cells v8.subs)]]),none,some (.arr 0 4 0 [[.int .i64 9,.str [121],.r5g,.sl false 4 72 (rows p6w.cells [v10])]]),none,some (.arr 0 4 0 [[.int .i64 9,.str [118,48],.r5g,.sl false 4 72 (rows p6w.cells [v16])]]),none,some (.arr 0 4 0 [[.int .i64 v19.1.kind,.str v19.1.name,.sl false 1 16 (rows r4X v19.1.words),.sl false 4 72 (rows p6w.cells v19.1.subs)]]),some (.arr 0 2 0 [[.int .i64 v19.2.code,.int .i64 v19.2.index]]),none]) (w2S hsc (.lv (.dead _ _ _ (.lv (.dead _ _ _ (.lv (.dead _ _ _ (.lv (.lv (.dead _ _ _ (.nil _)))))))))) (by simp)) (by simp) (.cons _ _ _ _ (.ref _ _ _ _ _ _ _ _ _ (w0z.trans rfl) (u4b.trans rfl) (by decide) (by simp[Imm,D.imm]) (by simp only[go_sem,rows,List.map_cons,List.map_nil])) (.cons _ _ _ _ (.agg _ _ (.cons _ _ _ _ .s (.cons _ _ _ _ .s (.cons _ _ _ _ (.r5g _ _ _ (by decide)) (.cons _ _ _ _ .s .nil))))) .nil)) (by simp) ?_)
 refine rn ?_
 obtain⟨v22,hv22,h⟩:=r7G h
 refine u0C (fun hG=>((u4D n _ _ _ (w1s hv22 (by simpa using hG))).up (fun _=>(.cons _ _ _ _ .s (.cons _ _ _ _ (.agg _ _ (.cons _ _ _ _ .s (.cons _ _ _ _ .s (.cons _ _ _ _ (.r5g _ _ _ (by decide)) (.cons _ _ _ _ .s .nil))))) .nil))) (.inr fun n=>by simp))) ?_
 obtain⟨fx,h⟩:=ck fx h
 exact rt
theorem u5s(a0:Int)(r:Int)(h:r8i a0=some r):Pure Tryz.prog gl 68 [.int .i64 a0] (.int .i64 r):=by
 intro st
 unfold r8i at h
 have fx:=trivial
 refine fb 13 [.tmp 2] [0,2,6,7,8] Tryz.func68 fun hsc=>?_
 refine cd h (fun hc h=>?_) fun hc h=>?_
 ·exact rt
 ·refine r0 ?_
  obtain⟨fx,h⟩:=ck fx h
  have fy:=(show [[D.int .i64 0],[D.int .i64 0],[D.int .i64 0],[D.int .i64 0],[D.int .i64 1],[D.int .i64 2],[D.int .i64 2],[D.int .i64 2],[D.int .i64 1],[D.int .i64 1]].getD a0.toNat [D.int .i64 0]=[D.int .i64 (get [0,0,0,0,1,2,2,2,1,1] a0.toNat)]from x4H [0,0,0,0,1,2,2,2,1,1] _)
  refine r1 ?_
  exact rt
theorem u2M(n:Nat)(a0:Bs)(r:Bool)(h:r7Q n a0=some r):Pure Tryz.prog gl 69 [.str a0] (.bool r):=by
 intro st
 unfold r7Q at h
 have fx:=trivial
 refine fb 62 [.tmp 2] [0,2,3,4,5,10,11,12,13,17,25,26,27,28,35,36,37,38,41,42,43,44,47,48,49,50,55,56,57,58,59,60,61] Tryz.func69 fun hsc=>?_
 refine cd h (fun hc h=>?_) fun hc h=>?_
 ·exact rt
 ·refine rn ?_
  refine r5M (body:=r9c a0) (kk:=u0E) (n:=n) (s0:=0)
   (fun(gs0:Unit) (s0:Int)=>[(0,.str a0),(3,.int .i64 s0)])
   (fun(gs0:Unit) (s0:Int)=>st)
   (fun(gt0:Unit) (t0:Unit)=>[])
   (fun(gt0:Unit) (t0:Unit)=>st)
   () h (u6s hsc)
   (fun gs0 s0 b0 h hx0=>?_) (fun gt0 t0 fr1 st1 h hb=>?_)
  ·unfold r9c at h
   refine cd h (fun hc h=>?_) fun hc h=>?_
   ·obtain⟨fx,h⟩:=ck fx h
    refine cd h (fun hc h=>?_) fun hc h=>?_
    ·refine ra ?_
     cases h
     refine u0d ?_;have h:=congrArg some (hx0 _ rfl)
     exact rt
    ·refine rn ?_
     cases h
     exact r6h () (u6s hsc)
   ·refine rn ?_
    cases h
    exact r7i () (u6s hsc)
  ·try simp only[go_sem,fx]
   unfold u0E at h
   refine r6O hb ?_
   exact rt
theorem u4r(n:Nat)(a0:p6w)(a1:Bool)(r:r5d)(h:r8m n a0 a1=some r):Pure Tryz.prog gl 40 [.agg [.int .i64 a0.kind,.str a0.name,.sl false 1 16 (rows r4X a0.words),.sl false 4 72 (rows p6w.cells a0.subs)],.bool a1] (.agg [.int .i64 r.code,.int .i64 r.index]):=by
 intro st
 unfold r8m at h
 have fx:=trivial
 refine fb 150 [.cell 4 25] [0,1,2,4,5,6,7,8,9,10,11,12,13,15,16,22,43,44,45,46,49,52,57,58,59,62,63,64,67,68,69,74,75,76,77,79,86,87,88,89,90,93,94,95,96,97,98,101,102,103,104,105,109,110,111,112,114,115,116,117,122,125,134] Tryz.func40 fun hsc=>?_
 refine rn ?_
 refine r5M (body:=r6b n a1) (kk:=r9a) (n:=n) (s0:=([(r5a.mk a0 1)],0,1))
  (fun(gs0:Nat) (s0:(List r5a)×Int×Nat)=>[(1,.bool a1),(4,.ptr (st.length+1) 0 0 0),(5,.ref false (st.length+2) gs0 0 s0.2.2),(6,.int .i64 s0.2.1)])
  (fun(gs0:Nat) (s0:(List r5a)×Int×Nat)=>st++[none,some (.arr 0 2 0 [[.int .i64 0,.int .i64 0]]),some (.arr gs0 5 80 (rows r5a.cells s0.1))])
  (fun(gt0:Unit) (t0:Unit)=>[(4,.ptr (st.length+1) 0 0 0)])
  (fun(gt0:Unit) (t0:Unit)=>st++[none,some (.arr 0 2 0 [[.int .i64 0,.int .i64 0]])])
  0 h (bm hsc (hu:=(.dead _ _ _ (.lv (.live _ _ _ _ (by simp only[go_sem,rows,List.map_cons,List.map_nil];exact .same _) (.nil _))))))
  (fun gs0 s0 b0 h hx0=>?_) (fun gt0 t0 fr1 st1 h hb=>?_)
 ·unfold r6b at h
  refine cd h (fun hc h=>?_) fun hc h=>?_
  ·refine r0 ?_
   refine r0 ?_
   obtain⟨fx,h⟩:=ck fx h
   obtain⟨fx,h⟩:=ck fx h
   have fy:=(show(rows r5a.cells s0.1).getD ((wr .i64 ((↑s0.2.2:Int)-1)).toNat) []=r5a.cells (get s0.1 ((wr .i64 ((↑s0.2.2:Int)-1)).toNat))from w9S (E:=r5a.cells) (l:=s0.1) (k:=(wr .i64 ((↑s0.2.2:Int)-1)).toNat) (by first|omega|(simp;omega)))
   have fy:=fa fy (show(wr .i64 ((↑s0.2.2:Int)-1)).toNat<s0.1.length from by first|omega|(simp;omega))
   refine r1 ?_
   obtain⟨fx,h⟩:=ck fx h
   refine cl h (u5s _) fun v34 h=>?_
   refine rn ?_
   refine r9E (r6z n s0) b0 (fun(gj7:Unit) (j7:Int)=>[(1,.bool a1),(4,.ptr (st.length+1) 0 0 0),(5,.ref false (st.length+2) gs0 0 ((wr .i64 ((↑s0.2.2:Int)-1)).toNat)),(6,.int .i64 s0.2.1),(7,.ptr (st.length+3) 0 0 0),(8,.ptr (st.length+4) 0 0 0),(9,.int .i64 j7)]) (fun(gj7:Unit) (j7:Int)=>st++[none,some (.arr 0 2 0 [[.int .i64 0,.int .i64 0]]),some (.arr gs0 5 80 (rows r5a.cells s0.1)),some (.arr 0 5 0 [[.int .i64 ((get s0.1 ((wr .i64 ((↑s0.2.2:Int)-1)).toNat)).f.kind),.str ((get s0.1 ((wr .i64 ((↑s0.2.2:Int)-1)).toNat)).f.name),.sl false 1 16 (rows r4X ((get s0.1 ((wr .i64 ((↑s0.2.2:Int)-1)).toNat)).f.words)),.sl false 4 72 (rows p6w.cells ((get s0.1 ((wr .i64 ((↑s0.2.2:Int)-1)).toNat)).f.subs)),.int .i64 ((get s0.1 ((wr .i64 ((↑s0.2.2:Int)-1)).toNat)).depth)]]),some (.arr 0 4 0 [[.int .i64 ((get s0.1 ((wr .i64 ((↑s0.2.2:Int)-1)).toNat)).f.kind),.str ((get s0.1 ((wr .i64 ((↑s0.2.2:Int)-1)).toNat)).f.name),.sl false 1 16 (rows r4X ((get s0.1 ((wr .i64 ((↑s0.2.2:Int)-1)).toNat)).f.words)),.sl false 4 72 (rows p6w.cells ((get s0.1 ((wr .i64 ((↑s0.2.2:Int)-1)).toNat)).f.subs))]])]) (fun gj7 j7 fr1 st1 h hb=>?_) (fun hj7=>?_)
   ·try simp only[go_sem,fx]
    unfold r6z at h
    refine r6O hb ?_
    refine rn ?_
    refine r9E (r6d n s0 j7) b0 (fun(gj8:Unit) (j8:Int)=>[(1,.bool a1),(4,.ptr (st.length+1) 0 0 0),(5,.ref false (st.length+2) gs0 0 ((wr .i64 ((↑s0.2.2:Int)-1)).toNat)),(6,.int .i64 s0.2.1),(7,.ptr (st.length+3) 0 0 0),(8,.ptr (st.length+4) 0 0 0),(9,.int .i64 j7),(10,.int .i64 j8),(11,.int .i64 0)]) (fun(gj8:Unit) (j8:Int)=>st++[none,some (.arr 0 2 0 [[.int .i64 0,.int .i64 0]]),some (.arr gs0 5 80 (rows r5a.cells s0.1)),some (.arr 0 5 0 [[.int .i64 ((get s0.1 ((wr .i64 ((↑s0.2.2:Int)-1)).toNat)).f.kind),.str ((get s0.1 ((wr .i64 ((↑s0.2.2:Int)-1)).toNat)).f.name),.sl false 1 16 (rows r4X ((get s0.1 ((wr .i64 ((↑s0.2.2:Int)-1)).toNat)).f.words)),.sl false 4 72 (rows p6w.cells ((get s0.1 ((wr .i64 ((↑s0.2.2:Int)-1)).toNat)).f.subs)),.int .i64 ((get s0.1 ((wr .i64 ((↑s0.2.2:Int)-1)).toNat)).depth)]]),some (.arr 0 4 0 [[.int .i64 ((get s0.1 ((wr .i64 ((↑s0.2.2:Int)-1)).toNat)).f.kind),.str ((get s0.1 ((wr .i64 ((↑s0.2.2:Int)-1)).toNat)).f.name),.sl false 1 16 (rows r4X ((get s0.1 ((wr .i64 ((↑s0.2.2:Int)-1)).toNat)).f.words)),.sl false 4 72 (rows p6w.cells ((get s0.1 ((wr .i64 ((↑s0.2.2:Int)-1)).toNat)).f.subs))]])]) (fun gj8 j8 fr1 st1 h hb=>?_) (fun hj8=>?_)
    ·try simp only[go_sem,fx]
     unfold r6d at h
     refine r6O hb ?_
     refine rn ?_
     refine r9E (r6c n s0 j7) b0 (fun(gj9:Unit) (j9:Int×Int)=>[(1,.bool a1),(4,.ptr (st.length+1) 0 0 0),(5,.ref false (st.length+2) gs0 0 ((wr .i64 ((↑s0.2.2:Int)-1)).toNat)),(6,.int .i64 s0.2.1),(7,.ptr (st.length+3) 0 0 0),(8,.ptr (st.length+4) 0 0 0),(9,.int .i64 j7),(10,.int .i64 j9.1),(11,.int .i64 j9.2)]) (fun(gj9:Unit) (j9:Int×Int)=>st++[none,some (.arr 0 2 0 [[.int .i64 0,.int .i64 0]]),some (.arr gs0 5 80 (rows r5a.cells s0.1)),some (.arr 0 5 0 [[.int .i64 ((get s0.1 ((wr .i64 ((↑s0.2.2:Int)-1)).toNat)).f.kind),.str ((get s0.1 ((wr .i64 ((↑s0.2.2:Int)-1)).toNat)).f.name),.sl false 1 16 (rows r4X ((get s0.1 ((wr .i64 ((↑s0.2.2:Int)-1)).toNat)).f.words)),.sl false 4 72 (rows p6w.cells ((get s0.1 ((wr .i64 ((↑s0.2.2:Int)-1)).toNat)).f.subs)),.int .i64 ((get s0.1 ((wr .i64 ((↑s0.2.2:Int)-1)).toNat)).depth)]]),some (.arr 0 4 0 [[.int .i64 ((get s0.1 ((wr .i64 ((↑s0.2.2:Int)-1)).toNat)).f.kind),.str ((get s0.1 ((wr .i64 ((↑s0.2.2:Int)-1)).toNat)).f.name),.sl false 1 16 (rows r4X ((get s0.1 ((wr .i64 ((↑s0.2.2:Int)-1)).toNat)).f.words)),.sl false 4 72 (rows p6w.cells ((get s0.1 ((wr .i64 ((↑s0.2.2:Int)-1)).toNat)).f.subs))]])]) (fun gj9 j9 fr1 st1 h hb=>?_) (fun hj9=>?_)
     ·try simp only[go_sem,fx]
      unfold r6c at h
      refine r6O hb ?_
      refine rn ?_
      refine r9E (r5n n s0) b0 (fun(x8E:Unit) (j10:Int)=>[(1,.bool a1),(4,.ptr (st.length+1) 0 0 0),(5,.ref false (st.length+2) gs0 0 ((wr .i64 ((↑s0.2.2:Int)-1)).toNat)),(6,.int .i64 s0.2.1),(7,.ptr (st.length+3) 0 0 0),(8,.ptr (st.length+4) 0 0 0),(13,.int .i64 j10)]) (fun(x8E:Unit) (j10:Int)=>st++[none,some (.arr 0 2 0 [[.int .i64 0,.int .i64 0]]),some (.arr gs0 5 80 (rows r5a.cells s0.1)),some (.arr 0 5 0 [[.int .i64 ((get s0.1 ((wr .i64 ((↑s0.2.2:Int)-1)).toNat)).f.kind),.str ((get s0.1 ((wr .i64 ((↑s0.2.2:Int)-1)).toNat)).f.name),.sl false 1 16 (rows r4X ((get s0.1 ((wr .i64 ((↑s0.2.2:Int)-1)).toNat)).f.words)),.sl false 4 72 (rows p6w.cells ((get s0.1 ((wr .i64 ((↑s0.2.2:Int)-1)).toNat)).f.subs)),.int .i64 ((get s0.1 ((wr .i64 ((↑s0.2.2:Int)-1)).toNat)).depth)]]),some (.arr 0 4 0 [[.int .i64 ((get s0.1 ((wr .i64 ((↑s0.2.2:Int)-1)).toNat)).f.kind),.str ((get s0.1 ((wr .i64 ((↑s0.2.2:Int)-1)).toNat)).f.name),.sl false 1 16 (rows r4X ((get s0.1 ((wr .i64 ((↑s0.2.2:Int)-1)).toNat)).f.words)),.sl false 4 72 (rows p6w.cells ((get s0.1 ((wr .i64 ((↑s0.2.2:Int)-1)).toNat)).f.subs))]])]) (fun x8E j10 fr1 st1 h hb=>?_) (fun x3s=>?_)
      ·try simp only[go_sem,fx]
       unfold r5n at h
       refine r6O hb ?_
       refine cd h (fun hc h=>?_) fun hc h=>?_
       ·refine ra ?_
        cases h
        refine u0d ?_;have h:=congrArg some (hx0 _ rfl)
        exact rt
       ·refine rn ?_
        refine r5M (body:=r7n s0) (kk:=r7o s0) (n:=n) (s0:=(s0.1,(wr .i64 ((↑(((get s0.1 ((wr .i64 ((↑s0.2.2:Int)-1)).toNat)).f.subs).length):Int)-1)),(wr .i64 ((↑s0.2.2:Int)-1)).toNat))
         (fun(w8a:Nat) (s12:(List r5a)×Int×Nat)=>[(1,.bool a1),(4,.ptr (st.length+1) 0 0 0),(5,.ref false (st.length+2) w8a 0 s12.2.2),(6,.int .i64 s0.2.1),(7,.ptr (st.length+3) 0 0 0),(8,.ptr (st.length+4) 0 0 0),(16,.int .i64 s12.2.1)])
         (fun(w8a:Nat) (s12:(List r5a)×Int×Nat)=>st++[none,some (.arr 0 2 0 [[.int .i64 0,.int .i64 0]]),some (.arr w8a 5 80 (rows r5a.cells s12.1)),some (.arr 0 5 0 [[.int .i64 ((get s0.1 ((wr .i64 ((↑s0.2.2:Int)-1)).toNat)).f.kind),.str ((get s0.1 ((wr .i64 ((↑s0.2.2:Int)-1)).toNat)).f.name),.sl false 1 16 (rows r4X ((get s0.1 ((wr .i64 ((↑s0.2.2:Int)-1)).toNat)).f.words)),.sl false 4 72 (rows p6w.cells ((get s0.1 ((wr .i64 ((↑s0.2.2:Int)-1)).toNat)).f.subs)),.int .i64 ((get s0.1 ((wr .i64 ((↑s0.2.2:Int)-1)).toNat)).depth)]]),some (.arr 0 4 0 [[.int .i64 ((get s0.1 ((wr .i64 ((↑s0.2.2:Int)-1)).toNat)).f.kind),.str ((get s0.1 ((wr .i64 ((↑s0.2.2:Int)-1)).toNat)).f.name),.sl false 1 16 (rows r4X ((get s0.1 ((wr .i64 ((↑s0.2.2:Int)-1)).toNat)).f.words)),.sl false 4 72 (rows p6w.cells ((get s0.1 ((wr .i64 ((↑s0.2.2:Int)-1)).toNat)).f.subs))]])])
         (fun(x4b:Nat) (t12:(List r5a)×Nat)=>[(1,.bool a1),(4,.ptr (st.length+1) 0 0 0),(5,.ref false (st.length+2) x4b 0 t12.2),(6,.int .i64 s0.2.1)])
         (fun(x4b:Nat) (t12:(List r5a)×Nat)=>st++[none,some (.arr 0 2 0 [[.int .i64 0,.int .i64 0]]),some (.arr x4b 5 80 (rows r5a.cells t12.1))])
         gs0 h (bm hsc)
         (fun w8a s12 b12 h y1y=>?_) (fun x4b t12 fr1 st1 h hb=>?_)
        ·unfold r7n at h
         refine cd h (fun hc h=>?_) fun hc h=>?_
         ·refine rn ?_
          obtain⟨fx,h⟩:=ck fx h
          obtain⟨fx,h⟩:=ck fx h
          obtain⟨c51,x8L,h⟩:=u2v h
          have fy:=(show rows r5a.cells (s12.1.take s12.2.2)++[[.int .i64 ((get ((get s0.1 ((wr .i64 ((↑s0.2.2:Int)-1)).toNat)).f.subs) s12.2.1.toNat).kind),.str ((get ((get s0.1 ((wr .i64 ((↑s0.2.2:Int)-1)).toNat)).f.subs) s12.2.1.toNat).name),.sl false 1 16 (rows r4X ((get ((get s0.1 ((wr .i64 ((↑s0.2.2:Int)-1)).toNat)).f.subs) s12.2.1.toNat).words)),.sl false 4 72 (rows p6w.cells ((get ((get s0.1 ((wr .i64 ((↑s0.2.2:Int)-1)).toNat)).f.subs) s12.2.1.toNat).subs)),.int .i64 (wr .i64 (((get s0.1 ((wr .i64 ((↑s0.2.2:Int)-1)).toNat)).depth)+1))]]=rows r5a.cells c51 from by rw[x8L];first|exact r5y (E:=r5a.cells) (s12.1.take s12.2.2) [(r5a.mk (get ((get s0.1 ((wr .i64 ((↑s0.2.2:Int)-1)).toNat)).f.subs) s12.2.1.toNat) (wr .i64 (((get s0.1 ((wr .i64 ((↑s0.2.2:Int)-1)).toNat)).depth)+1)))]|simp only[go_sem,rows,List.map_append,List.map_cons,List.map_nil])
          have fy:=fa fy (show s12.2.2+1=c51.length from by rw[x8L];simp<;>omega)
          obtain⟨fx,h⟩:=ck fx h
          refine dwy [] 2 ?_
          refine rn ?_
          cases h
          exact r6h (w8a+1) (bm hsc)
         ·refine rn ?_
          cases h
          exact r7i w8a (bm hsc)
        ·try simp only[go_sem,fx]
         unfold r7o at h
         refine r6O hb ?_
         refine rn ?_
         cases h
         exact r6h x4b (bm hsc)
      ·refine cd h (fun hc h=>?_) fun hc h=>?_
       ·refine r0 ?_
        refine x3s () _ _ _ h ?_;exact(bm hsc)
       ·refine cd h (fun hc h=>?_) fun hc h=>?_
        ·refine r0 ?_
         refine x3s () _ _ _ h ?_;exact(bm hsc)
        ·refine cd h (fun hc h=>?_) fun hc h=>?_
         ·refine r0 ?_
          refine x3s () _ _ _ h ?_;exact(bm hsc)
         ·refine rn ?_
          obtain⟨v35,hv35,h⟩:=r7G h
          refine u0C (fun hG=>(u2M n _ _ (w1s hv35 (by simpa using hG)))) ?_
          refine cd h (fun hc h=>?_) fun hc h=>?_
          ·refine r0 ?_
           refine x3s () _ _ _ h ?_;exact(bm hsc)
          ·refine cd h (fun hc h=>?_) fun hc h=>?_
           ·refine r0 ?_
            refine x3s () _ _ _ h ?_;exact(bm hsc)
           ·refine aln 114 fun hl11=>?_
            refine rng (body:=r7p n s0) (kk:=r7q n s0) (n:=((get s0.1 ((wr .i64 ((↑s0.2.2:Int)-1)).toNat)).f.words).length) (s0:=0)
             (fun(x6A:Unit) (k11:Nat) (s11:Int)=>[(1,.bool a1),(4,.ptr (st.length+1) 0 0 0),(5,.ref false (st.length+2) gs0 0 ((wr .i64 ((↑s0.2.2:Int)-1)).toNat)),(6,.int .i64 s0.2.1),(7,.ptr (st.length+3) 0 0 0),(8,.ptr (st.length+4) 0 0 0),(13,.int .i64 s11),(114,.sl false 1 16 (rows r4X ((get s0.1 ((wr .i64 ((↑s0.2.2:Int)-1)).toNat)).f.words))),(115,.int .i64 (↑(((get s0.1 ((wr .i64 ((↑s0.2.2:Int)-1)).toNat)).f.words).length):Int)),(116,.int .i64 (↑k11:Int))])
             (fun(x6A:Unit) (k11:Nat) (s11:Int)=>st++[none,some (.arr 0 2 0 [[.int .i64 0,.int .i64 0]]),some (.arr gs0 5 80 (rows r5a.cells s0.1)),some (.arr 0 5 0 [[.int .i64 ((get s0.1 ((wr .i64 ((↑s0.2.2:Int)-1)).toNat)).f.kind),.str ((get s0.1 ((wr .i64 ((↑s0.2.2:Int)-1)).toNat)).f.name),.sl false 1 16 (rows r4X ((get s0.1 ((wr .i64 ((↑s0.2.2:Int)-1)).toNat)).f.words)),.sl false 4 72 (rows p6w.cells ((get s0.1 ((wr .i64 ((↑s0.2.2:Int)-1)).toNat)).f.subs)),.int .i64 ((get s0.1 ((wr .i64 ((↑s0.2.2:Int)-1)).toNat)).depth)]]),some (.arr 0 4 0 [[.int .i64 ((get s0.1 ((wr .i64 ((↑s0.2.2:Int)-1)).toNat)).f.kind),.str ((get s0.1 ((wr .i64 ((↑s0.2.2:Int)-1)).toNat)).f.name),.sl false 1 16 (rows r4X ((get s0.1 ((wr .i64 ((↑s0.2.2:Int)-1)).toNat)).f.words)),.sl false 4 72 (rows p6w.cells ((get s0.1 ((wr .i64 ((↑s0.2.2:Int)-1)).toNat)).f.subs))]])])
             (fun(x8A:Unit) (t11:Int)=>[(1,.bool a1),(4,.ptr (st.length+1) 0 0 0),(5,.ref false (st.length+2) gs0 0 ((wr .i64 ((↑s0.2.2:Int)-1)).toNat)),(6,.int .i64 s0.2.1),(7,.ptr (st.length+3) 0 0 0),(8,.ptr (st.length+4) 0 0 0),(13,.int .i64 t11)])
             (fun(x8A:Unit) (t11:Int)=>st++[none,some (.arr 0 2 0 [[.int .i64 0,.int .i64 0]]),some (.arr gs0 5 80 (rows r5a.cells s0.1)),some (.arr 0 5 0 [[.int .i64 ((get s0.1 ((wr .i64 ((↑s0.2.2:Int)-1)).toNat)).f.kind),.str ((get s0.1 ((wr .i64 ((↑s0.2.2:Int)-1)).toNat)).f.name),.sl false 1 16 (rows r4X ((get s0.1 ((wr .i64 ((↑s0.2.2:Int)-1)).toNat)).f.words)),.sl false 4 72 (rows p6w.cells ((get s0.1 ((wr .i64 ((↑s0.2.2:Int)-1)).toNat)).f.subs)),.int .i64 ((get s0.1 ((wr .i64 ((↑s0.2.2:Int)-1)).toNat)).depth)]]),some (.arr 0 4 0 [[.int .i64 ((get s0.1 ((wr .i64 ((↑s0.2.2:Int)-1)).toNat)).f.kind),.str ((get s0.1 ((wr .i64 ((↑s0.2.2:Int)-1)).toNat)).f.name),.sl false 1 16 (rows r4X ((get s0.1 ((wr .i64 ((↑s0.2.2:Int)-1)).toNat)).f.words)),.sl false 4 72 (rows p6w.cells ((get s0.1 ((wr .i64 ((↑s0.2.2:Int)-1)).toNat)).f.subs))]])])
             () fx hl11 h (bm hsc)
             (fun x6A k11 s11 b11 fx h y3M=>?_) (fun x6A s11=>?_) (fun x8A t11 fr1 st1 h hb=>?_)
            ·unfold r7p at h
             refine ct ?_
             refine cl h (u2M n _) fun v37 h=>?_
             refine cd h (fun hc h=>?_) fun hc h=>?_
             ·refine rn ?_
              cases h
              exact u2o () (bm hsc)
             ·refine rn ?_
              cases h
              exact u2o () (bm hsc)
            ·refine cf ?_
             refine u2n ?_;simp only[go_sem,fx]
             exact⟨(),(bm hsc)⟩
            ·try simp only[go_sem,fx]
             unfold r7q at h
             refine x3s () _ _ _ h ?_;exact(hb.trans (bm hsc))
     ·refine cd h (fun hc h=>?_) fun hc h=>?_
      ·refine r0 ?_
       refine hj9 () _ _ _ h ?_;exact(bm hsc)
      ·refine r0 ?_
       refine hj9 () _ _ _ h ?_;exact(bm hsc)
    ·refine cd h (fun hc h=>?_) fun hc h=>?_
     ·refine r0 ?_
      refine hj8 () _ _ _ h ?_;exact(bm hsc)
     ·refine r0 ?_
      refine hj8 () _ _ _ h ?_;exact(bm hsc)
   ·refine cd h (fun hc h=>?_) fun hc h=>?_
    ·refine r0 ?_
     refine hj7 () _ _ _ h ?_;exact(bm hsc)
    ·refine r0 ?_
     refine hj7 () _ _ _ h ?_;exact(bm hsc)
  ·refine rn ?_
   cases h
   exact r7i () (bm hsc)
 ·try simp only[go_sem,fx]
  unfold r9a at h
  refine r6O hb ?_
  exact rt
end Go.Proofs.YtfacbpehlibilaaGreatDoor
