import Derived.Test.YtonfgoanbllceaaGreatDoorAWalk9
set_option linter.unusedVariables false
set_option linter.unusedSimpArgs false
set_option maxHeartbeats 2000000
set_option maxRecDepth 100000
namespace Go.Proofs.YtonfgoanbllceaaGreatDoor
open Go Go.Am
theorem uS(n:Nat)(a0:x9)(a1:B4)(r:x9×x6)(h:ly n a0 a1=some r):Pure Tryz.prog gl 9 [.agg [.sl false 2 40 (rows w8.cells a0.hierarchy.types),.sl false 3 32 (rows y3.cells a0.hierarchy.B1),.sl false 10 152 (rows w4.cells a0.rules),.sl false 9 144 (rows x7.cells a0.y9),.sl false 2 32 (rows x5.cells a0.start.nodes)],.agg [.sl false 2 48 (rows w5.cells a1.hierarchy),.sl false 1 24 (rows y5.cells a1.start),.sl false 3 40 (rows A8.cells a1.rules),.sl false 3 40 (rows B9.cells a1.y9)]] (.tup [.agg [.sl false 2 40 (rows w8.cells r.1.hierarchy.types),.sl false 3 32 (rows y3.cells r.1.hierarchy.B1),.sl false 10 152 (rows w4.cells r.1.rules),.sl false 9 144 (rows x7.cells r.1.y9),.sl false 2 32 (rows x5.cells r.1.start.nodes)],.agg [.int .i64 r.2.code,.int .i64 r.2.index]]):=by
 intro st
 unfold ly at h
 have fx:=trivial
 refine fb 129 [.cell 4 32,.cell 5 41] [0,1,2,3,4,5,6,7,8,10,11,13,14,16,18,19,20,21,26,33,37,38,39,40,55,56,57,58,74,75,76,77,84,85,86,87,112,113,114,121] Tryz.func9 fun hsc=>?_
 refine cl h (iZ n _) fun v1 h=>?_
 refine cd h (fun hc h=>?_) fun hc h=>?_
 ·refine rs ?_
  refine dw [1,2] 0 ?_
  try refine⟨by(simp<;>omega),?_⟩
  refine rr ?_
  exact fo (.tup [.agg [.sl false 2 40 (rows w8.cells []),.sl false 3 32 (rows y3.cells []),.sl false 10 152 (rows w4.cells []),.sl false 9 144 (rows x7.cells []),.sl false 2 32 (rows x5.cells [])],.agg [.int .i64 v1.code,.int .i64 v1.index]]) (.tup _ _ (.cons _ _ _ _ (.agg _ _ (.cons _ _ _ _ (.B3 _ _ _ (by decide)) (.cons _ _ _ _ (.B3 _ _ _ (by decide)) (.cons _ _ _ _ (.B3 _ _ _ (by decide)) (.cons _ _ _ _ (.B3 _ _ _ (by decide)) (.cons _ _ _ _ (.B3 _ _ _ (by decide)) .nil)))))) (.cons _ _ _ _ .s .nil)) rfl) h hsc
 ·refine cl h (uT _) fun v2 h=>?_
  refine cd h (fun hc h=>?_) fun hc h=>?_
  ·refine rs ?_
   refine dw [1,2] 0 ?_
   try refine⟨by(simp<;>omega),?_⟩
   refine rr ?_
   exact fo (.tup [.agg [.sl false 2 40 (rows w8.cells []),.sl false 3 32 (rows y3.cells []),.sl false 10 152 (rows w4.cells []),.sl false 9 144 (rows x7.cells []),.sl false 2 32 (rows x5.cells [])],.agg [.int .i64 v2.code,.int .i64 v2.index]]) (.tup _ _ (.cons _ _ _ _ (.agg _ _ (.cons _ _ _ _ (.B3 _ _ _ (by decide)) (.cons _ _ _ _ (.B3 _ _ _ (by decide)) (.cons _ _ _ _ (.B3 _ _ _ (by decide)) (.cons _ _ _ _ (.B3 _ _ _ (by decide)) (.cons _ _ _ _ (.B3 _ _ _ (by decide)) .nil)))))) (.cons _ _ _ _ .s .nil)) rfl) h hsc
  ·refine r0 ?_
   refine r0 ?_
   refine r0 ?_
   (repeat apply sq_)
   refine cY 3 40 ?_
   try simp only[List.append_assoc,List.cons_append,List.nil_append]
   refine K6 (F:=[(2,.ptr st.length 0 0 0),(3,.ptr (st.length+1) 0 0 0),(4,.ptr (st.length+2) 0 0 0),(5,.ptr (st.length+3) 0 0 0),(8,.ref false (st.length+6) 0 0 0),(37,.sl false 3 40 (rows A8.cells a1.rules)),(38,.int .i64 (↑a1.rules.length:Int)),(39,.int .i64 0)]) (T:=st++[some (.arr 0 5 0 [[.sl false 2 40 (rows w8.cells a0.hierarchy.types),.sl false 3 32 (rows y3.cells a0.hierarchy.B1),.sl false 10 152 (rows w4.cells a0.rules),.sl false 9 144 (rows x7.cells a0.y9),.sl false 2 32 (rows x5.cells a0.start.nodes)]]),some (.arr 0 4 0 [[.sl false 2 48 (rows w5.cells a1.hierarchy),.sl false 1 24 (rows y5.cells a1.start),.sl false 3 40 (rows A8.cells a1.rules),.sl false 3 40 (rows B9.cells a1.y9)]]),some (.arr 0 5 0 [[.B3,.B3,.B3,.B3,.B3]]),some (.arr 0 2 0 [[.int .i64 0,.int .i64 0]]),some (.arr 0 2 0 [[.int .i64 v1.code,.int .i64 v1.index]]),some (.arr 0 2 0 [[.int .i64 v2.code,.int .i64 v2.index]]),some (.arr 0 3 40 (rows w7.cells []))]) (jL hsc (.lv (.lv (.lv (.lv (.lv (.lv (.lv (.nil _)))))))) (by simp) ⟨.s,.s,.s,.s,.nref _ _ _ _ _ _ (iC.trans rfl),.s,.s,.s,trivial⟩ (by simp)) ?_
   refine aln 37 fun hl0=>?_
   refine rng (body:=pQ a1) (kk:=mA n a1 a0) (n:=a1.rules.length) (s0:=[])
    (fun(gs0:Nat) (k0:Nat) (s0:(List w7))=>[(2,.ptr st.length 0 0 0),(3,.ptr (st.length+1) 0 0 0),(4,.ptr (st.length+2) 0 0 0),(5,.ptr (st.length+3) 0 0 0),(8,.ref false (st.length+6) gs0 0 s0.length),(37,.sl false 3 40 (rows A8.cells a1.rules)),(38,.int .i64 (↑a1.rules.length:Int)),(39,.int .i64 (↑k0:Int))])
    (fun(gs0:Nat) (k0:Nat) (s0:(List w7))=>st++[some (.arr 0 5 0 [[.sl false 2 40 (rows w8.cells a0.hierarchy.types),.sl false 3 32 (rows y3.cells a0.hierarchy.B1),.sl false 10 152 (rows w4.cells a0.rules),.sl false 9 144 (rows x7.cells a0.y9),.sl false 2 32 (rows x5.cells a0.start.nodes)]]),some (.arr 0 4 0 [[.sl false 2 48 (rows w5.cells a1.hierarchy),.sl false 1 24 (rows y5.cells a1.start),.sl false 3 40 (rows A8.cells a1.rules),.sl false 3 40 (rows B9.cells a1.y9)]]),some (.arr 0 5 0 [[.B3,.B3,.B3,.B3,.B3]]),some (.arr 0 2 0 [[.int .i64 0,.int .i64 0]]),none,none,some (.arr gs0 3 40 (rows w7.cells s0))])
    (fun(gt0:Nat) (t0:(List w7))=>[(2,.ptr st.length 0 0 0),(3,.ptr (st.length+1) 0 0 0),(4,.ptr (st.length+2) 0 0 0),(5,.ptr (st.length+3) 0 0 0),(8,.ref false (st.length+6) gt0 0 t0.length)])
    (fun(gt0:Nat) (t0:(List w7))=>st++[some (.arr 0 5 0 [[.sl false 2 40 (rows w8.cells a0.hierarchy.types),.sl false 3 32 (rows y3.cells a0.hierarchy.B1),.sl false 10 152 (rows w4.cells a0.rules),.sl false 9 144 (rows x7.cells a0.y9),.sl false 2 32 (rows x5.cells a0.start.nodes)]]),some (.arr 0 4 0 [[.sl false 2 48 (rows w5.cells a1.hierarchy),.sl false 1 24 (rows y5.cells a1.start),.sl false 3 40 (rows A8.cells a1.rules),.sl false 3 40 (rows B9.cells a1.y9)]]),some (.arr 0 5 0 [[.B3,.B3,.B3,.B3,.B3]]),some (.arr 0 2 0 [[.int .i64 0,.int .i64 0]]),none,none,some (.arr gt0 3 40 (rows w7.cells t0))])
    0 fx hl0 h (bm hsc)
    (fun gs0 k0 s0 b0 fx h hx0=>?_) (fun gs0 s0=>?_) (fun gt0 t0 fr1 st1 h hb=>?_)
   ·unfold pQ at h
    refine ct ?_
    refine r0 ?_
    refine r0 ?_
    refine r0 ?_
    obtain⟨c10,LV,h⟩:=mO h
    have fy:=(show rows w7.cells s0++[[.int .i64 ((get a1.rules k0).keep),.int .i64 ((get a1.rules k0).drop),.sl false 10 152 (rows w4.cells ((get a1.rules k0).put))]]=rows w7.cells c10 from by rw[LV];first|exact N9 (E:=w7.cells) s0 [(w7.mk ((get a1.rules k0).keep) ((get a1.rules k0).drop) ((get a1.rules k0).put))]|simp only[go_sem,rows,List.map_append,List.map_cons,List.map_nil])
    have fy:=fa fy (show s0.length+1=c10.length from by rw[LV];simp)
    obtain⟨fx,h⟩:=ck fx h
    refine r1 ?_
    refine rn ?_
    cases h
    exact aT (gs0+1) (bm hsc)
   ·refine cf ?_
    refine X5 ?_;simp only[go_sem,fx]
    exact⟨gs0,(bm hsc)⟩
   ·try simp only[go_sem,fx]
    unfold mA at h
    refine K6 hb ?_
    refine r0 ?_
    refine r0 ?_
    (repeat apply sq_)
    refine cY 3 40 ?_
    try simp only[List.append_assoc,List.cons_append,List.nil_append]
    refine K6 (F:=[(2,.ptr st.length 0 0 0),(3,.ptr (st.length+1) 0 0 0),(4,.ptr (st.length+2) 0 0 0),(5,.ptr (st.length+3) 0 0 0),(8,.ref false (st.length+6) gt0 0 t0.length),(11,.ref false (st.length+7) 0 0 0),(55,.sl false 3 40 (rows B9.cells a1.y9)),(56,.int .i64 (↑a1.y9.length:Int)),(57,.int .i64 0)]) (T:=st++[some (.arr 0 5 0 [[.sl false 2 40 (rows w8.cells a0.hierarchy.types),.sl false 3 32 (rows y3.cells a0.hierarchy.B1),.sl false 10 152 (rows w4.cells a0.rules),.sl false 9 144 (rows x7.cells a0.y9),.sl false 2 32 (rows x5.cells a0.start.nodes)]]),some (.arr 0 4 0 [[.sl false 2 48 (rows w5.cells a1.hierarchy),.sl false 1 24 (rows y5.cells a1.start),.sl false 3 40 (rows A8.cells a1.rules),.sl false 3 40 (rows B9.cells a1.y9)]]),some (.arr 0 5 0 [[.B3,.B3,.B3,.B3,.B3]]),some (.arr 0 2 0 [[.int .i64 0,.int .i64 0]]),none,none,some (.arr gt0 3 40 (rows w7.cells t0)),some (.arr 0 3 40 (rows w9.cells []))]) (jL hsc (.lv (.lv (.lv (.lv (.dead _ _ _ (.dead _ _ _ (.lv (.lv (.nil _))))))))) (by simp) ⟨.s,.s,.s,.s,.s,.nref _ _ _ _ _ _ (iC.trans rfl),.s,.s,.s,trivial⟩ (by simp)) ?_
    refine aln 55 fun hl1=>?_
    refine rng (body:=pR a1) (kk:=mB n a1 a0 t0) (n:=a1.y9.length) (s0:=[])
     (fun(gs1:Nat) (k1:Nat) (s1:(List w9))=>[(2,.ptr st.length 0 0 0),(3,.ptr (st.length+1) 0 0 0),(4,.ptr (st.length+2) 0 0 0),(5,.ptr (st.length+3) 0 0 0),(8,.ref false (st.length+6) gt0 0 t0.length),(11,.ref false (st.length+7) gs1 0 s1.length),(55,.sl false 3 40 (rows B9.cells a1.y9)),(56,.int .i64 (↑a1.y9.length:Int)),(57,.int .i64 (↑k1:Int))])
     (fun(gs1:Nat) (k1:Nat) (s1:(List w9))=>st++[some (.arr 0 5 0 [[.sl false 2 40 (rows w8.cells a0.hierarchy.types),.sl false 3 32 (rows y3.cells a0.hierarchy.B1),.sl false 10 152 (rows w4.cells a0.rules),.sl false 9 144 (rows x7.cells a0.y9),.sl false 2 32 (rows x5.cells a0.start.nodes)]]),some (.arr 0 4 0 [[.sl false 2 48 (rows w5.cells a1.hierarchy),.sl false 1 24 (rows y5.cells a1.start),.sl false 3 40 (rows A8.cells a1.rules),.sl false 3 40 (rows B9.cells a1.y9)]]),some (.arr 0 5 0 [[.B3,.B3,.B3,.B3,.B3]]),some (.arr 0 2 0 [[.int .i64 0,.int .i64 0]]),none,none,some (.arr gt0 3 40 (rows w7.cells t0)),some (.arr gs1 3 40 (rows w9.cells s1))])
     (fun(gt1:Nat) (t1:(List w9))=>[(2,.ptr st.length 0 0 0),(3,.ptr (st.length+1) 0 0 0),(4,.ptr (st.length+2) 0 0 0),(5,.ptr (st.length+3) 0 0 0),(8,.ref false (st.length+6) gt0 0 t0.length),(11,.ref false (st.length+7) gt1 0 t1.length)])
     (fun(gt1:Nat) (t1:(List w9))=>st++[some (.arr 0 5 0 [[.sl false 2 40 (rows w8.cells a0.hierarchy.types),.sl false 3 32 (rows y3.cells a0.hierarchy.B1),.sl false 10 152 (rows w4.cells a0.rules),.sl false 9 144 (rows x7.cells a0.y9),.sl false 2 32 (rows x5.cells a0.start.nodes)]]),some (.arr 0 4 0 [[.sl false 2 48 (rows w5.cells a1.hierarchy),.sl false 1 24 (rows y5.cells a1.start),.sl false 3 40 (rows A8.cells a1.rules),.sl false 3 40 (rows B9.cells a1.y9)]]),some (.arr 0 5 0 [[.B3,.B3,.B3,.B3,.B3]]),some (.arr 0 2 0 [[.int .i64 0,.int .i64 0]]),none,none,some (.arr gt0 3 40 (rows w7.cells t0)),some (.arr gt1 3 40 (rows w9.cells t1))])
     0 fx hl1 h (bm hsc)
     (fun gs1 k1 s1 b1 fx h hx1=>?_) (fun gs1 s1=>?_) (fun gt1 t1 fr1 st1 h hb=>?_)
    ·unfold pR at h
     refine ct ?_
     refine r0 ?_
     refine r0 ?_
     refine r0 ?_
     obtain⟨c22,Tv,h⟩:=mO h
     have fy:=(show rows w9.cells s1++[[.int .i64 ((get a1.y9 k1).keep),.int .i64 ((get a1.y9 k1).drop),.sl false 9 144 (rows x7.cells ((get a1.y9 k1).put))]]=rows w9.cells c22 from by rw[Tv];first|exact N9 (E:=w9.cells) s1 [(w9.mk ((get a1.y9 k1).keep) ((get a1.y9 k1).drop) ((get a1.y9 k1).put))]|simp only[go_sem,rows,List.map_append,List.map_cons,List.map_nil])
     have fy:=fa fy (show s1.length+1=c22.length from by rw[Tv];simp)
     obtain⟨fx,h⟩:=ck fx h
     refine r1 ?_
     refine rn ?_
     cases h
     exact aT (gs1+1) (bm hsc)
    ·refine cf ?_
     refine X5 ?_;simp only[go_sem,fx]
     exact⟨gs1,(bm hsc)⟩
    ·try simp only[go_sem,fx]
     unfold mB at h
     refine K6 hb ?_
     refine aln 74 fun hl2=>?_
     refine rng (body:=pS a1) (kk:=mC n a1 a0 t0 t1) (n:=a1.hierarchy.length) (s0:=(a0.hierarchy.types,a0.hierarchy.B1))
      (fun(gs2:Unit) (k2:Nat) (s2:(List w8)×(List y3))=>[(2,.ptr st.length 0 0 0),(3,.ptr (st.length+1) 0 0 0),(4,.ptr (st.length+2) 0 0 0),(5,.ptr (st.length+3) 0 0 0),(8,.ref false (st.length+6) gt0 0 t0.length),(11,.ref false (st.length+7) gt1 0 t1.length),(14,.ptr (st.length+8) 0 0 0),(74,.sl false 2 48 (rows w5.cells a1.hierarchy)),(75,.int .i64 (↑a1.hierarchy.length:Int)),(76,.int .i64 (↑k2:Int))])
      (fun(gs2:Unit) (k2:Nat) (s2:(List w8)×(List y3))=>st++[some (.arr 0 5 0 [[.sl false 2 40 (rows w8.cells a0.hierarchy.types),.sl false 3 32 (rows y3.cells a0.hierarchy.B1),.sl false 10 152 (rows w4.cells a0.rules),.sl false 9 144 (rows x7.cells a0.y9),.sl false 2 32 (rows x5.cells a0.start.nodes)]]),some (.arr 0 4 0 [[.sl false 2 48 (rows w5.cells a1.hierarchy),.sl false 1 24 (rows y5.cells a1.start),.sl false 3 40 (rows A8.cells a1.rules),.sl false 3 40 (rows B9.cells a1.y9)]]),some (.arr 0 5 0 [[.B3,.B3,.B3,.B3,.B3]]),some (.arr 0 2 0 [[.int .i64 0,.int .i64 0]]),none,none,some (.arr gt0 3 40 (rows w7.cells t0)),some (.arr gt1 3 40 (rows w9.cells t1)),some (.arr 0 5 0 [[.sl false 2 40 (rows w8.cells s2.1),.sl false 3 32 (rows y3.cells s2.2),.sl false 10 152 (rows w4.cells a0.rules),.sl false 9 144 (rows x7.cells a0.y9),.sl false 2 32 (rows x5.cells a0.start.nodes)]])])
      (fun(gt2:Unit) (t2:(List w8)×(List y3))=>[(2,.ptr st.length 0 0 0),(3,.ptr (st.length+1) 0 0 0),(4,.ptr (st.length+2) 0 0 0),(5,.ptr (st.length+3) 0 0 0),(8,.ref false (st.length+6) gt0 0 t0.length),(11,.ref false (st.length+7) gt1 0 t1.length),(14,.ptr (st.length+8) 0 0 0)])
      (fun(gt2:Unit) (t2:(List w8)×(List y3))=>st++[some (.arr 0 5 0 [[.sl false 2 40 (rows w8.cells a0.hierarchy.types),.sl false 3 32 (rows y3.cells a0.hierarchy.B1),.sl false 10 152 (rows w4.cells a0.rules),.sl false 9 144 (rows x7.cells a0.y9),.sl false 2 32 (rows x5.cells a0.start.nodes)]]),some (.arr 0 4 0 [[.sl false 2 48 (rows w5.cells a1.hierarchy),.sl false 1 24 (rows y5.cells a1.start),.sl false 3 40 (rows A8.cells a1.rules),.sl false 3 40 (rows B9.cells a1.y9)]]),some (.arr 0 5 0 [[.B3,.B3,.B3,.B3,.B3]]),some (.arr 0 2 0 [[.int .i64 0,.int .i64 0]]),none,none,some (.arr gt0 3 40 (rows w7.cells t0)),some (.arr gt1 3 40 (rows w9.cells t1)),some (.arr 0 5 0 [[.sl false 2 40 (rows w8.cells t2.1),.sl false 3 32 (rows y3.cells t2.2),.sl false 10 152 (rows w4.cells a0.rules),.sl false 9 144 (rows x7.cells a0.y9),.sl false 2 32 (rows x5.cells a0.start.nodes)]])])
      () fx hl2 h (bm hsc)
      (fun gs2 k2 s2 b2 fx h hx2=>?_) (fun gs2 s2=>?_) (fun gt2 t2 fr1 st1 h hb=>?_)
     ·unfold pS at h
      refine ct ?_
      refine rn ?_
      cases h
      exact aT () (bm hsc)
     ·refine cf ?_
      refine X5 ?_;simp only[go_sem,fx]
      exact⟨(),(bm hsc)⟩
     ·try simp only[go_sem,fx]
      unfold mC at h
      refine K6 hb ?_
      refine aln 84 fun hl3=>?_
      refine rng (body:=pT a1) (kk:=mE n a0 t0 t1 t2) (n:=a1.start.length) (s0:=a0.start.nodes)
       (fun(gs3:Unit) (k3:Nat) (s3:(List x5))=>[(2,.ptr st.length 0 0 0),(4,.ptr (st.length+2) 0 0 0),(5,.ptr (st.length+3) 0 0 0),(8,.ref false (st.length+6) gt0 0 t0.length),(11,.ref false (st.length+7) gt1 0 t1.length),(14,.ptr (st.length+8) 0 0 0),(84,.sl false 1 24 (rows y5.cells a1.start)),(85,.int .i64 (↑a1.start.length:Int)),(86,.int .i64 (↑k3:Int))])
       (fun(gs3:Unit) (k3:Nat) (s3:(List x5))=>st++[some (.arr 0 5 0 [[.sl false 2 40 (rows w8.cells a0.hierarchy.types),.sl false 3 32 (rows y3.cells a0.hierarchy.B1),.sl false 10 152 (rows w4.cells a0.rules),.sl false 9 144 (rows x7.cells a0.y9),.sl false 2 32 (rows x5.cells a0.start.nodes)]]),none,some (.arr 0 5 0 [[.B3,.B3,.B3,.B3,.B3]]),some (.arr 0 2 0 [[.int .i64 0,.int .i64 0]]),none,none,some (.arr gt0 3 40 (rows w7.cells t0)),some (.arr gt1 3 40 (rows w9.cells t1)),some (.arr 0 5 0 [[.sl false 2 40 (rows w8.cells t2.1),.sl false 3 32 (rows y3.cells t2.2),.sl false 10 152 (rows w4.cells a0.rules),.sl false 9 144 (rows x7.cells a0.y9),.sl false 2 32 (rows x5.cells s3)]])])
       (fun(gt3:Unit) (t3:(List x5))=>[(2,.ptr st.length 0 0 0),(4,.ptr (st.length+2) 0 0 0),(5,.ptr (st.length+3) 0 0 0),(8,.ref false (st.length+6) gt0 0 t0.length),(11,.ref false (st.length+7) gt1 0 t1.length),(14,.ptr (st.length+8) 0 0 0)])
       (fun(gt3:Unit) (t3:(List x5))=>st++[some (.arr 0 5 0 [[.sl false 2 40 (rows w8.cells a0.hierarchy.types),.sl false 3 32 (rows y3.cells a0.hierarchy.B1),.sl false 10 152 (rows w4.cells a0.rules),.sl false 9 144 (rows x7.cells a0.y9),.sl false 2 32 (rows x5.cells a0.start.nodes)]]),none,some (.arr 0 5 0 [[.B3,.B3,.B3,.B3,.B3]]),some (.arr 0 2 0 [[.int .i64 0,.int .i64 0]]),none,none,some (.arr gt0 3 40 (rows w7.cells t0)),some (.arr gt1 3 40 (rows w9.cells t1)),some (.arr 0 5 0 [[.sl false 2 40 (rows w8.cells t2.1),.sl false 3 32 (rows y3.cells t2.2),.sl false 10 152 (rows w4.cells a0.rules),.sl false 9 144 (rows x7.cells a0.y9),.sl false 2 32 (rows x5.cells t3)]])])
       () fx hl3 h (bm hsc)
       (fun gs3 k3 s3 b3 fx h hx3=>?_) (fun gs3 s3=>?_) (fun gt3 t3 fr1 st1 h hb=>?_)
      ·unfold pT at h
       refine ct ?_
       refine rn ?_
       cases h
       exact aT () (bm hsc)
      ·refine cf ?_
       refine X5 ?_;simp only[go_sem,fx]
       exact⟨(),(bm hsc)⟩
      ·try simp only[go_sem,fx]
       unfold mE at h
       refine K6 hb ?_
       refine rn ?_
       obtain⟨v27,hv27,h⟩:=E4 h
       refine(qD _ _ _ hv27 _ _ gt0 (by simp) (cV.trans rfl)).mono ?_
       rintro d1 st1 ⟨rfl,rfl⟩
       refine rn ?_
       obtain⟨v28,hv28,h⟩:=E4 h
       refine(rC _ _ _ hv28 _ _ gt1 (by simp) (cV.trans rfl)).mono ?_
       rintro d1 st1 ⟨rfl,rfl⟩
       refine cd h (fun hc h=>?_) fun hc h=>?_
       ·refine cl h (jJ _ _) fun v29 h=>?_
        refine rr ?_
        exact fo (.tup [.agg [.sl false 2 40 (rows w8.cells []),.sl false 3 32 (rows y3.cells []),.sl false 10 152 (rows w4.cells []),.sl false 9 144 (rows x7.cells []),.sl false 2 32 (rows x5.cells [])],.agg [.int .i64 v29.code,.int .i64 v29.index]]) (.tup _ _ (.cons _ _ _ _ (.agg _ _ (.cons _ _ _ _ (.B3 _ _ _ (by decide)) (.cons _ _ _ _ (.B3 _ _ _ (by decide)) (.cons _ _ _ _ (.B3 _ _ _ (by decide)) (.cons _ _ _ _ (.B3 _ _ _ (by decide)) (.cons _ _ _ _ (.B3 _ _ _ (by decide)) .nil)))))) (.cons _ _ _ _ .s .nil)) rfl) h hsc
       ·refine cl h (iZ n _) fun v30 h=>?_
        refine cd h (fun hc h=>?_) fun hc h=>?_
        ·refine cl h (jJ _ _) fun v31 h=>?_
         refine rr ?_
         exact fo (.tup [.agg [.sl false 2 40 (rows w8.cells []),.sl false 3 32 (rows y3.cells []),.sl false 10 152 (rows w4.cells []),.sl false 9 144 (rows x7.cells []),.sl false 2 32 (rows x5.cells [])],.agg [.int .i64 v31.code,.int .i64 v31.index]]) (.tup _ _ (.cons _ _ _ _ (.agg _ _ (.cons _ _ _ _ (.B3 _ _ _ (by decide)) (.cons _ _ _ _ (.B3 _ _ _ (by decide)) (.cons _ _ _ _ (.B3 _ _ _ (by decide)) (.cons _ _ _ _ (.B3 _ _ _ (by decide)) (.cons _ _ _ _ (.B3 _ _ _ (by decide)) .nil)))))) (.cons _ _ _ _ .s .nil)) rfl) h hsc
        ·refine cl h (CU n _) fun v32 h=>?_
         exact rt
theorem nH(a0:(List w8))(a1:(List w8))(r:Bool)(h:X0 a0 a1=some r):Pure Tryz.prog gl 72 [.sl false 2 40 (rows w8.cells a0),.sl false 2 40 (rows w8.cells a1)] (.bool r):=by
 intro st
 unfold X0 at h
 have fx:=trivial
 refine fb 42 [.tmp 4] [0,1,4,5,10,12,13,14,28,29,30,31,32,33,34,35,36,37,38,39,40] Tryz.func72 fun hsc=>?_
 refine cd h (fun hc h=>?_) fun hc h=>?_
 ·exact rt
 ·refine aln 0 fun hl0=>?_
  refine rng (body:=R6 a1 a0) (kk:=cQ) (n:=a0.length) (s0:=())
   (fun(gs0:Unit) (k0:Nat) (s0:Unit)=>[(0,.sl false 2 40 (rows w8.cells a0)),(1,.sl false 2 40 (rows w8.cells a1)),(12,.int .i64 (↑a0.length:Int)),(13,.int .i64 (↑k0:Int))])
   (fun(gs0:Unit) (k0:Nat) (s0:Unit)=>st)
   (fun(gt0:Unit) (t0:Unit)=>[])
   (fun(gt0:Unit) (t0:Unit)=>st)
   () fx hl0 h (bW hsc)
   (fun gs0 k0 s0 b0 fx h hx0=>?_) (fun gs0 s0=>?_) (fun gt0 t0 fr1 st1 h hb=>?_)
  ·unfold R6 at h
   refine ct ?_
   refine rn ?_
   obtain⟨fx,h⟩:=ck fx h
   refine dw [] 0 ?_
   obtain⟨v4,hv4,h⟩:=E4 h
   refine bB (fun hG=>(jZ _ _ _ (kh hv4 (by simpa using hG)))) ?_
   try simp only[go_sem,fx]
   refine cd h (fun hc h=>?_) fun hc h=>?_
   ·refine ra ?_
    cases h
    refine D4 ?_;have h:=congrArg some (hx0 _ rfl)
    exact rt
   ·refine rn ?_
    cases h
    exact aT () (bW hsc)
  ·refine cf ?_
   refine X5 ?_;simp only[go_sem,fx]
   exact⟨(),(bW hsc)⟩
  ·try simp only[go_sem,fx]
   unfold cQ at h
   refine K6 hb ?_
   exact rt
theorem dg(a0:w5)(a1:w5)(r:Bool)(h:J9 a0 a1=some r):Pure Tryz.prog gl 30 [.agg [.sl false 2 40 (rows w8.cells a0.types),.sl false 3 32 (rows y3.cells a0.B1)],.agg [.sl false 2 40 (rows w8.cells a1.types),.sl false 3 32 (rows y3.cells a1.B1)]] (.bool r):=by
 intro st
 unfold J9 at h
 have fx:=trivial
 refine fb 17 [.tmp 4] [0,1,2,3,4,11,12,13,14,15] Tryz.func30 fun hsc=>?_
 refine cl h (nH _ _) fun v1 h=>?_
 refine rn ?_
 obtain⟨v2,hv2,h⟩:=E4 h
 refine P4 (fun hG=>(eZ _ _ _ (kh hv2 (by simpa using hG)))) ?_
 exact rt
theorem nI(n:Nat)(a0:(List x7))(a1:(List x7))(r:Bool)(h:X1 n a0 a1=some r):Pure Tryz.prog gl 35 [.sl false 9 144 (rows x7.cells a0),.sl false 9 144 (rows x7.cells a1)] (.bool r):=by
 intro st
 unfold X1 at h
 have fx:=trivial
 refine fb 27 [.tmp 4] [0,1,4,5,10,12,13,14,25] Tryz.func35 fun hsc=>?_
 refine cd h (fun hc h=>?_) fun hc h=>?_
 ·exact rt
 ·refine aln 0 fun hl0=>?_
  refine rng (body:=R9 n a1 a0) (kk:=cR) (n:=a0.length) (s0:=())
   (fun(gs0:Unit) (k0:Nat) (s0:Unit)=>[(0,.sl false 9 144 (rows x7.cells a0)),(1,.sl false 9 144 (rows x7.cells a1)),(12,.int .i64 (↑a0.length:Int)),(13,.int .i64 (↑k0:Int))])
   (fun(gs0:Unit) (k0:Nat) (s0:Unit)=>st)
   (fun(gt0:Unit) (t0:Unit)=>[])
   (fun(gt0:Unit) (t0:Unit)=>st)
   () fx hl0 h (bW hsc)
   (fun gs0 k0 s0 b0 fx h hx0=>?_) (fun gs0 s0=>?_) (fun gt0 t0 fr1 st1 h hb=>?_)
  ·unfold R9 at h
   refine ct ?_
   refine rn ?_
   obtain⟨fx,h⟩:=ck fx h
   refine dw [] 0 ?_
   obtain⟨v2,hv2,h⟩:=E4 h
   refine A9 (eD n _ _ _ hv2) ?_
   try simp only[go_sem,fx]
   refine cd h (fun hc h=>?_) fun hc h=>?_
   ·refine ra ?_
    cases h
    refine D4 ?_;have h:=congrArg some (hx0 _ rfl)
    exact rt
   ·refine rn ?_
    cases h
    exact aT () (bW hsc)
  ·refine cf ?_
   refine X5 ?_;simp only[go_sem,fx]
   exact⟨(),(bW hsc)⟩
  ·try simp only[go_sem,fx]
   unfold cR at h
   refine K6 hb ?_
   exact rt
theorem fJ(n:Nat)(a0:x9)(a1:x9)(r:Bool)(h:K0 n a0 a1=some r):Pure Tryz.prog gl 11 [.agg [.sl false 2 40 (rows w8.cells a0.hierarchy.types),.sl false 3 32 (rows y3.cells a0.hierarchy.B1),.sl false 10 152 (rows w4.cells a0.rules),.sl false 9 144 (rows x7.cells a0.y9),.sl false 2 32 (rows x5.cells a0.start.nodes)],.agg [.sl false 2 40 (rows w8.cells a1.hierarchy.types),.sl false 3 32 (rows y3.cells a1.hierarchy.B1),.sl false 10 152 (rows w4.cells a1.rules),.sl false 9 144 (rows x7.cells a1.y9),.sl false 2 32 (rows x5.cells a1.start.nodes)]] (.bool r):=by
 intro st
 unfold K0 at h
 have fx:=trivial
 refine fb 31 [.tmp 4] [0,1,2,3,4,11,12,13,14,15,18,19,20,21,22,25,26,27,28,29] Tryz.func11 fun hsc=>?_
 refine cl h (dg _ _) fun v1 h=>?_
 refine rn ?_
 obtain⟨v2,hv2,h⟩:=E4 h
 refine P4 (fun hG=>(cU n _ _ _ (kh hv2 (by simpa using hG)))) ?_
 refine rn ?_
 obtain⟨v3,hv3,h⟩:=E4 h
 refine P4 (fun hG=>(nI n _ _ _ (kh hv3 (by simpa using hG)))) ?_
 refine rn ?_
 obtain⟨v4,hv4,h⟩:=E4 h
 refine P4 (fun hG=>(Y3 _ _ _ (kh hv4 (by simpa using hG)))) ?_
 exact rt
end Go.Proofs.YtonfgoanbllceaaGreatDoor
