import Derived.Test.YtbgkcolebacbmaaGreatDoorDWalk14
set_option linter.unusedVariables false
set_option linter.unusedSimpArgs false
set_option maxHeartbeats 2000000
set_option maxRecDepth 100000
namespace Go.Proofs.YtbgkcolebacbmaaGreatDoor
open Go Go.Am
theorem eW(n:Nat)(a0:x6)(a1:y8)(r:Bool)(h:L5 n a0 a1=some r):Pure Tryz.prog gl 3 [.agg [.sl false 2 40 (rows w6.cells a0.hierarchy.types),.sl false 3 32 (rows y3.cells a0.hierarchy.B5),.sl false 10 152 (rows w4.cells a0.rules),.sl false 9 144 (rows x7.cells a0.y9),.sl false 2 32 (rows w8.cells a0.start.nodes)],.agg [.sl false 2 48 (rows w5.cells a1.hierarchy),.sl false 1 24 (rows y4.cells a1.start),.sl false 3 40 (rows y7.cells a1.rules),.sl false 3 40 (rows A9.cells a1.y9)]] (.bool r):=by
 intro st
 unfold L5 at h
 have fx:=trivial
 refine fb 124 [.tmp 4] [0,1,2,3,4,5,6,7,8,9,10,11,12,13,15,25,30,31,32,44,67,90,91,92,93,104,109,120,121,122] Tryz.func3 fun hsc=>?_
 refine cl h (lx n) fun v1 h=>?_
 refine cd h (fun hc h=>?_) fun hc h=>?_
 ·exact rt
 ·refine cl h (wE _) fun v2 h=>?_
  refine cl h (jv n _) fun v3 h=>?_
  refine rn ?_
  refine jP (E5 n a0 a1 v3) r (fun(gj0:Unit) (j0:Unit)=>[(2,.ptr st.length 0 0 0),(3,.ptr (st.length+1) 0 0 0),(6,.ptr (st.length+2) 0 0 0),(7,.ptr (st.length+3) 0 0 0)]) (fun(gj0:Unit) (j0:Unit)=>st++[some (.arr 0 5 0 [[.sl false 2 40 (rows w6.cells a0.hierarchy.types),.sl false 3 32 (rows y3.cells a0.hierarchy.B5),.sl false 10 152 (rows w4.cells a0.rules),.sl false 9 144 (rows x7.cells a0.y9),.sl false 2 32 (rows w8.cells a0.start.nodes)]]),some (.arr 0 4 0 [[.sl false 2 48 (rows w5.cells a1.hierarchy),.sl false 1 24 (rows y4.cells a1.start),.sl false 3 40 (rows y7.cells a1.rules),.sl false 3 40 (rows A9.cells a1.y9)]]),some (.arr 0 2 0 [[.int .i64 v2.2.code,.int .i64 v2.2.index]]),some (.arr 0 2 0 [[.int .i64 v3.code,.int .i64 v3.index]])]) (fun gj0 j0 fr1 st1 h hb=>?_) (fun hj0=>?_)
  ·try simp only[go_sem,fx]
   unfold E5 at h
   refine K1 hb ?_
   refine cl h (tR n _ _) fun v10 h=>?_
   refine cl h (cT n _) fun v11 h=>?_
   refine rn ?_
   refine jP (C9 n a0 a1 v10) r (fun(gj3:Unit) (j3:Int×Int)=>[(2,.ptr st.length 0 0 0),(3,.ptr (st.length+1) 0 0 0),(6,.ptr (st.length+2) 0 0 0),(11,.ptr (st.length+4) 0 0 0),(12,.ptr (st.length+5) 0 0 0)]) (fun(gj3:Unit) (j3:Int×Int)=>st++[some (.arr 0 5 0 [[.sl false 2 40 (rows w6.cells a0.hierarchy.types),.sl false 3 32 (rows y3.cells a0.hierarchy.B5),.sl false 10 152 (rows w4.cells a0.rules),.sl false 9 144 (rows x7.cells a0.y9),.sl false 2 32 (rows w8.cells a0.start.nodes)]]),some (.arr 0 4 0 [[.sl false 2 48 (rows w5.cells a1.hierarchy),.sl false 1 24 (rows y4.cells a1.start),.sl false 3 40 (rows y7.cells a1.rules),.sl false 3 40 (rows A9.cells a1.y9)]]),some (.arr 0 2 0 [[.int .i64 v10.2.code,.int .i64 v10.2.index]]),none,some (.arr 0 5 0 [[.sl false 2 40 (rows w6.cells v10.1.hierarchy.types),.sl false 3 32 (rows y3.cells v10.1.hierarchy.B5),.sl false 10 152 (rows w4.cells v10.1.rules),.sl false 9 144 (rows x7.cells v10.1.y9),.sl false 2 32 (rows w8.cells v10.1.start.nodes)]]),some (.arr 0 2 0 [[.int .i64 j3.1,.int .i64 j3.2]])]) (fun gj3 j3 fr1 st1 h hb=>?_) (fun hj3=>?_)
   ·try simp only[go_sem,fx]
    unfold C9 at h
    refine K1 hb ?_
    refine rn ?_
    refine jP (E4 n v10) r (fun(gj4:Unit) (j4:Int×Int×(List w6)×(List y3)×(List w4)×(List x7)×(List w8))=>[(6,.ptr (st.length+2) 0 0 0),(11,.ptr (st.length+4) 0 0 0),(12,.ptr (st.length+5) 0 0 0),(13,.ptr (st.length+6) 0 0 0)]) (fun(gj4:Unit) (j4:Int×Int×(List w6)×(List y3)×(List w4)×(List x7)×(List w8))=>st++[none,none,some (.arr 0 2 0 [[.int .i64 v10.2.code,.int .i64 v10.2.index]]),none,some (.arr 0 5 0 [[.sl false 2 40 (rows w6.cells v10.1.hierarchy.types),.sl false 3 32 (rows y3.cells v10.1.hierarchy.B5),.sl false 10 152 (rows w4.cells v10.1.rules),.sl false 9 144 (rows x7.cells v10.1.y9),.sl false 2 32 (rows w8.cells v10.1.start.nodes)]]),some (.arr 0 2 0 [[.int .i64 j4.1,.int .i64 j4.2.1]]),some (.arr 0 5 0 [[.sl false 2 40 (rows w6.cells j4.2.2.1),.sl false 3 32 (rows y3.cells j4.2.2.2.1),.sl false 10 152 (rows w4.cells j4.2.2.2.2.1),.sl false 9 144 (rows x7.cells j4.2.2.2.2.2.1),.sl false 2 32 (rows w8.cells j4.2.2.2.2.2.2)]])]) (fun gj4 j4 fr1 st1 h hb=>?_) (fun hj4=>?_)
    ·try simp only[go_sem,fx]
     unfold E4 at h
     refine K1 hb ?_
     refine rn ?_
     obtain⟨v13,hv13,h⟩:=E6 h
     refine U4 (fun hG=>(eS n _ _ _ (kH hv13 (by simpa using hG)))) ?_
     exact rt
    ·refine cd h (fun hc h=>?_) fun hc h=>?_
     ·refine cl h (iH n _ _) fun v12 h=>?_
      try simp only[go_sem,fx]
      refine hj4 () _ _ _ h ?_;exact(bm hsc)
     ·refine r0 ?_
      refine hj4 () _ _ _ h ?_;exact(bm hsc (hu:=(.dead _ _ _ (.dead _ _ _ (.lv (.dead _ _ _ (.lv (.lv (.live _ _ _ _ (.arr _ _ _ _ _ (.cons _ _ _ _ (.cons _ _ _ _ (.B0 _ _ _ (by decide)) (.cons _ _ _ _ (.B0 _ _ _ (by decide)) (.cons _ _ _ _ (.B0 _ _ _ (by decide)) (.cons _ _ _ _ (.B0 _ _ _ (by decide)) (.cons _ _ _ _ (.B0 _ _ _ (by decide)) .nil))))) (.same _))) (.nil _))))))))))
   ·refine cd h (fun hc h=>?_) fun hc h=>?_
    ·refine r0 ?_
     refine hj3 () _ _ _ h ?_;exact(bm hsc)
    ·refine r0 ?_
     refine hj3 () _ _ _ h ?_;exact(bm hsc)
  ·refine cd h (fun hc h=>?_) fun hc h=>?_
   ·refine cd h (fun hc h=>?_) fun hc h=>?_
    ·exact rt
    ·refine r0 ?_
     refine hj0 () _ _ _ h ?_;exact(bm hsc)
   ·refine rn ?_
    refine F1 (body:=I4 a1) (kk:=I5 n a1 v2 a0 v3) (n:=n) (s0:=((wr .i64 ((↑a1.hierarchy.length:Int)+(↑a1.start.length:Int))),0))
     (fun(gs1:Unit) (s1:Int×Int)=>[(2,.ptr st.length 0 0 0),(3,.ptr (st.length+1) 0 0 0),(5,.int .i64 v2.1),(6,.ptr (st.length+2) 0 0 0),(7,.ptr (st.length+3) 0 0 0),(8,.int .i64 s1.1),(9,.int .i64 s1.2)])
     (fun(gs1:Unit) (s1:Int×Int)=>st++[some (.arr 0 5 0 [[.sl false 2 40 (rows w6.cells a0.hierarchy.types),.sl false 3 32 (rows y3.cells a0.hierarchy.B5),.sl false 10 152 (rows w4.cells a0.rules),.sl false 9 144 (rows x7.cells a0.y9),.sl false 2 32 (rows w8.cells a0.start.nodes)]]),some (.arr 0 4 0 [[.sl false 2 48 (rows w5.cells a1.hierarchy),.sl false 1 24 (rows y4.cells a1.start),.sl false 3 40 (rows y7.cells a1.rules),.sl false 3 40 (rows A9.cells a1.y9)]]),some (.arr 0 2 0 [[.int .i64 v2.2.code,.int .i64 v2.2.index]]),some (.arr 0 2 0 [[.int .i64 v3.code,.int .i64 v3.index]])])
     (fun(gt1:Unit) (t1:Int)=>[(2,.ptr st.length 0 0 0),(3,.ptr (st.length+1) 0 0 0),(5,.int .i64 v2.1),(6,.ptr (st.length+2) 0 0 0),(7,.ptr (st.length+3) 0 0 0),(8,.int .i64 t1)])
     (fun(gt1:Unit) (t1:Int)=>st++[some (.arr 0 5 0 [[.sl false 2 40 (rows w6.cells a0.hierarchy.types),.sl false 3 32 (rows y3.cells a0.hierarchy.B5),.sl false 10 152 (rows w4.cells a0.rules),.sl false 9 144 (rows x7.cells a0.y9),.sl false 2 32 (rows w8.cells a0.start.nodes)]]),some (.arr 0 4 0 [[.sl false 2 48 (rows w5.cells a1.hierarchy),.sl false 1 24 (rows y4.cells a1.start),.sl false 3 40 (rows y7.cells a1.rules),.sl false 3 40 (rows A9.cells a1.y9)]]),some (.arr 0 2 0 [[.int .i64 v2.2.code,.int .i64 v2.2.index]]),some (.arr 0 2 0 [[.int .i64 v3.code,.int .i64 v3.index]])])
     () h (bm hsc)
     (fun gs1 s1 b1 h hx1=>?_) (fun gt1 t1 fr1 st1 h hb=>?_)
    ·unfold I4 at h
     refine cd h (fun hc h=>?_) fun hc h=>?_
     ·refine rn ?_
      obtain⟨fx,h⟩:=ck fx h
      refine dw [] 0 ?_
      refine rn ?_
      cases h
      exact G0 () (bm hsc)
     ·refine rn ?_
      cases h
      exact P0 () (bm hsc)
    ·try simp only[go_sem,fx]
     unfold I5 at h
     refine K1 hb ?_
     refine rn ?_
     refine F1 (body:=I6 a1) (kk:=I7 n v2 a0 a1 v3) (n:=n) (s0:=(0,t1))
      (fun(gs2:Unit) (s2:Int×Int)=>[(2,.ptr st.length 0 0 0),(3,.ptr (st.length+1) 0 0 0),(5,.int .i64 v2.1),(6,.ptr (st.length+2) 0 0 0),(7,.ptr (st.length+3) 0 0 0),(8,.int .i64 s2.2),(10,.int .i64 s2.1)])
      (fun(gs2:Unit) (s2:Int×Int)=>st++[some (.arr 0 5 0 [[.sl false 2 40 (rows w6.cells a0.hierarchy.types),.sl false 3 32 (rows y3.cells a0.hierarchy.B5),.sl false 10 152 (rows w4.cells a0.rules),.sl false 9 144 (rows x7.cells a0.y9),.sl false 2 32 (rows w8.cells a0.start.nodes)]]),some (.arr 0 4 0 [[.sl false 2 48 (rows w5.cells a1.hierarchy),.sl false 1 24 (rows y4.cells a1.start),.sl false 3 40 (rows y7.cells a1.rules),.sl false 3 40 (rows A9.cells a1.y9)]]),some (.arr 0 2 0 [[.int .i64 v2.2.code,.int .i64 v2.2.index]]),some (.arr 0 2 0 [[.int .i64 v3.code,.int .i64 v3.index]])])
      (fun(gt2:Unit) (t2:Int)=>[(2,.ptr st.length 0 0 0),(3,.ptr (st.length+1) 0 0 0),(5,.int .i64 v2.1),(6,.ptr (st.length+2) 0 0 0),(7,.ptr (st.length+3) 0 0 0),(8,.int .i64 t2)])
      (fun(gt2:Unit) (t2:Int)=>st++[some (.arr 0 5 0 [[.sl false 2 40 (rows w6.cells a0.hierarchy.types),.sl false 3 32 (rows y3.cells a0.hierarchy.B5),.sl false 10 152 (rows w4.cells a0.rules),.sl false 9 144 (rows x7.cells a0.y9),.sl false 2 32 (rows w8.cells a0.start.nodes)]]),some (.arr 0 4 0 [[.sl false 2 48 (rows w5.cells a1.hierarchy),.sl false 1 24 (rows y4.cells a1.start),.sl false 3 40 (rows y7.cells a1.rules),.sl false 3 40 (rows A9.cells a1.y9)]]),some (.arr 0 2 0 [[.int .i64 v2.2.code,.int .i64 v2.2.index]]),some (.arr 0 2 0 [[.int .i64 v3.code,.int .i64 v3.index]])])
      () h (bm hsc)
      (fun gs2 s2 b2 h hx2=>?_) (fun gt2 t2 fr1 st1 h hb=>?_)
     ·unfold I6 at h
      refine cd h (fun hc h=>?_) fun hc h=>?_
      ·refine rn ?_
       obtain⟨fx,h⟩:=ck fx h
       refine dw [] 0 ?_
       refine rn ?_
       cases h
       exact G0 () (bm hsc)
      ·refine rn ?_
       cases h
       exact P0 () (bm hsc)
     ·try simp only[go_sem,fx]
      unfold I7 at h
      refine K1 hb ?_
      refine cd h (fun hc h=>?_) fun hc h=>?_
      ·exact rt
      ·refine r0 ?_
       refine hj0 () _ _ _ h ?_;exact(bm hsc)
end Go.Proofs.YtbgkcolebacbmaaGreatDoor
