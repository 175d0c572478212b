import Derived.Test.YtonfgoanbllceaaGreatDoorAWalk7
set_option linter.unusedVariables false
set_option linter.unusedSimpArgs false
set_option maxHeartbeats 2000000
set_option maxRecDepth 100000
namespace Go.Proofs.YtonfgoanbllceaaGreatDoor
open Go Go.Am
theorem qd(n:Nat)(a0:x7)(r:x7)(h:dc n a0=some r):Pure Tryz.prog gl 23 [.agg [.str a0.word,.sl false 2 32 (rows x5.cells a0.graph.nodes),.int .i64 a0.weight,.int .i64 a0.meaning.kind,.str a0.meaning.name,.int .i64 a0.meaning.index,.str a0.meaning.type.base,.sl false 2 40 (rows u0.cells a0.meaning.type.args),.sl false 6 96 (rows w6.cells a0.meaning.args)]] (.agg [.str r.word,.sl false 2 32 (rows x5.cells r.graph.nodes),.int .i64 r.weight,.int .i64 r.meaning.kind,.str r.meaning.name,.int .i64 r.meaning.index,.str r.meaning.type.base,.sl false 2 40 (rows u0.cells r.meaning.type.args),.sl false 6 96 (rows w6.cells r.meaning.args)]):=by
 intro st
 unfold dc at h
 have fx:=trivial
 refine fb 14 [.cell 2 78] [0,1,2] Tryz.func23 fun hsc=>?_
 refine rn ?_
 refine dw [] 0 ?_
 obtain⟨v1,hv1,h⟩:=E4 h
 refine A9 (gg _ _ hv1) ?_
 try simp only[go_sem,fx]
 obtain⟨v2,hv2,h⟩:=E4 h
 refine A9 (oI n _ _ hv2) ?_
 try simp only[go_sem,fx]
 exact rt
theorem pV(n:Nat)(a0:x9)(a1:x9)(r:B4×x6)(h:iz n a0 a1=some r):Pure Tryz.prog gl 5 [.agg [.sl false 2 40 (rows w8.cells a0.hierarchy.types),.sl false 3 32 (rows y3.cells a0.hierarchy.B1),.sl false 10 152 (rows w4.cells a0.rules),.sl false 9 144 (rows x7.cells a0.y9),.sl false 2 32 (rows x5.cells a0.start.nodes)],.agg [.sl false 2 40 (rows w8.cells a1.hierarchy.types),.sl false 3 32 (rows y3.cells a1.hierarchy.B1),.sl false 10 152 (rows w4.cells a1.rules),.sl false 9 144 (rows x7.cells a1.y9),.sl false 2 32 (rows x5.cells a1.start.nodes)]] (.tup [.agg [.sl false 2 48 (rows w5.cells r.1.hierarchy),.sl false 1 24 (rows y5.cells r.1.start),.sl false 3 40 (rows A8.cells r.1.rules),.sl false 3 40 (rows B9.cells r.1.y9)],.agg [.int .i64 r.2.code,.int .i64 r.2.index]]):=by
 intro st
 unfold iz at h
 have fx:=trivial
 refine fb 134 [.cell 4 39,.cell 5 41] [0,1,2,3,4,5,7,8,9,11,12,14,16,17,19,22,23,24,25,32,41,52,62,63,64,65,74,75,76,77,99,100,101,102,111,112,113,114] Tryz.func5 fun hsc=>?_
 refine rn ?_
 refine rng (body:=iT n a0 a1) (kk:=fD n a0 a1) (n:=2) (s0:=())
  (fun(gs0:Unit) (k0:Nat) (s0:Unit)=>[(2,.ptr st.length 0 0 0),(3,.ptr (st.length+1) 0 0 0),(4,.ptr (st.length+2) 0 0 0),(5,.ptr (st.length+3) 0 0 0),(22,.ref true (st.length+4) 0 0 2),(23,.int .i64 2),(24,.int .i64 (↑k0:Int))])
  (fun(gs0:Unit) (k0:Nat) (s0:Unit)=>st++[some (.arr 0 5 0 [[.sl false 2 40 (rows w8.cells a0.hierarchy.types),.sl false 3 32 (rows y3.cells a0.hierarchy.B1),.sl false 10 152 (rows w4.cells a0.rules),.sl false 9 144 (rows x7.cells a0.y9),.sl false 2 32 (rows x5.cells a0.start.nodes)]]),some (.arr 0 5 0 [[.sl false 2 40 (rows w8.cells a1.hierarchy.types),.sl false 3 32 (rows y3.cells a1.hierarchy.B1),.sl false 10 152 (rows w4.cells a1.rules),.sl false 9 144 (rows x7.cells a1.y9),.sl false 2 32 (rows x5.cells a1.start.nodes)]]),some (.arr 0 4 0 [[.B3,.B3,.B3,.B3]]),some (.arr 0 2 0 [[.int .i64 0,.int .i64 0]]),some (.arr 0 5 120 (rows x9.cells [a0,a1]))])
  (fun(gt0:Unit) (t0:Unit)=>[(2,.ptr st.length 0 0 0),(3,.ptr (st.length+1) 0 0 0),(4,.ptr (st.length+2) 0 0 0),(5,.ptr (st.length+3) 0 0 0)])
  (fun(gt0:Unit) (t0:Unit)=>st++[some (.arr 0 5 0 [[.sl false 2 40 (rows w8.cells a0.hierarchy.types),.sl false 3 32 (rows y3.cells a0.hierarchy.B1),.sl false 10 152 (rows w4.cells a0.rules),.sl false 9 144 (rows x7.cells a0.y9),.sl false 2 32 (rows x5.cells a0.start.nodes)]]),some (.arr 0 5 0 [[.sl false 2 40 (rows w8.cells a1.hierarchy.types),.sl false 3 32 (rows y3.cells a1.hierarchy.B1),.sl false 10 152 (rows w4.cells a1.rules),.sl false 9 144 (rows x7.cells a1.y9),.sl false 2 32 (rows x5.cells a1.start.nodes)]]),some (.arr 0 4 0 [[.B3,.B3,.B3,.B3]]),some (.arr 0 2 0 [[.int .i64 0,.int .i64 0]])])
  () fx (by decide) h (bm hsc)
  (fun gs0 k0 s0 b0 fx h hx0=>?_) (fun gs0 s0=>?_) (fun gt0 t0 fr1 st1 h hb=>?_)
 ·unfold iT at h
  have fx:=fa fx (show(↑k0:Int)<2 by omega)
  refine ct ?_
  refine r0 ?_
  refine r0 ?_
  have fy:=(show(rows x9.cells [a0,a1]).getD k0 []=x9.cells (get [a0,a1] k0)from oP (E:=x9.cells) (l:=[a0,a1]) (k:=k0) (by first|omega|(simp;omega)))
  have fy:=fa fy (show k0<2 from by first|omega|(simp;omega))
  refine r1 ?_
  refine cl h (iZ n _) fun v4 h=>?_
  refine cd h (fun hc h=>?_) fun hc h=>?_
  ·refine rs ?_
   refine dw [1,2] 0 ?_
   try refine⟨by(simp<;>omega),?_⟩
   refine ra ?_
   cases h
   refine D4 ?_;have h:=congrArg some (hx0 _ rfl)
   refine rr ?_
   exact fo (.tup [.agg [.sl false 2 48 (rows w5.cells []),.sl false 1 24 (rows y5.cells []),.sl false 3 40 (rows A8.cells []),.sl false 3 40 (rows B9.cells [])],.agg [.int .i64 v4.code,.int .i64 v4.index]]) (.tup _ _ (.cons _ _ _ _ (.agg _ _ (.cons _ _ _ _ (.B3 _ _ _ (by decide)) (.cons _ _ _ _ (.B3 _ _ _ (by decide)) (.cons _ _ _ _ (.B3 _ _ _ (by decide)) (.cons _ _ _ _ (.B3 _ _ _ (by decide)) .nil))))) (.cons _ _ _ _ .s .nil)) rfl) h hsc
  ·refine rn ?_
   cases h
   exact aT () (bm hsc)
 ·refine cf ?_
  refine X5 ?_;simp only[go_sem,fx]
  exact⟨(),(bm hsc)⟩
 ·try simp only[go_sem,fx]
  unfold fD at h
  refine K6 hb ?_
  refine cl h (qG _ _) fun v5 h=>?_
  try simp only[go_sem,fx]
  (repeat apply sq_)
  refine cY 2 48 ?_
  try simp only[List.append_assoc,List.cons_append,List.nil_append]
  refine K6 (F:=[(2,.ptr st.length 0 0 0),(3,.ptr (st.length+1) 0 0 0),(4,.ptr (st.length+2) 0 0 0),(5,.ptr (st.length+3) 0 0 0),(9,.ptr (st.length+4) 0 0 0),(41,.bool (!v5))]) (T:=st++[some (.arr 0 5 0 [[.sl false 2 40 (rows w8.cells a0.hierarchy.types),.sl false 3 32 (rows y3.cells a0.hierarchy.B1),.sl false 10 152 (rows w4.cells a0.rules),.sl false 9 144 (rows x7.cells a0.y9),.sl false 2 32 (rows x5.cells a0.start.nodes)]]),some (.arr 0 5 0 [[.sl false 2 40 (rows w8.cells a1.hierarchy.types),.sl false 3 32 (rows y3.cells a1.hierarchy.B1),.sl false 10 152 (rows w4.cells a1.rules),.sl false 9 144 (rows x7.cells a1.y9),.sl false 2 32 (rows x5.cells a1.start.nodes)]]),some (.arr 0 4 0 [[.B3,.B3,.B3,.B3]]),some (.arr 0 2 0 [[.int .i64 0,.int .i64 0]]),some (.arr 0 4 0 [[.ref false (st.length+5) 0 0 0,.B3,.B3,.B3]]),some (.arr 0 2 48 (rows w5.cells []))]) (jL hsc (.lv (.lv (.lv (.lv (.live _ _ _ _ (.arr _ _ _ _ _ (.cons _ _ _ _ (.cons _ _ _ _ (.nref _ _ _ _ _ _ (iC.trans rfl)) (.cons _ _ _ _ .s (.cons _ _ _ _ .s (.cons _ _ _ _ .s .nil)))) (.same _))) (.lv (.nil _))))))) (by simp) ⟨.s,.s,.s,.s,.s,.s,trivial⟩ (by simp)) ?_
  (repeat apply sq_)
  refine nk (cL n a0 a1) r (fun(gj1:Unit) (j1:(List w5))=>[(2,.ptr st.length 0 0 0),(3,.ptr (st.length+1) 0 0 0),(4,.ptr (st.length+2) 0 0 0),(5,.ptr (st.length+3) 0 0 0),(9,.ptr (st.length+4) 0 0 0)]) (fun(gj1:Unit) (j1:(List w5))=>st++[some (.arr 0 5 0 [[.sl false 2 40 (rows w8.cells a0.hierarchy.types),.sl false 3 32 (rows y3.cells a0.hierarchy.B1),.sl false 10 152 (rows w4.cells a0.rules),.sl false 9 144 (rows x7.cells a0.y9),.sl false 2 32 (rows x5.cells a0.start.nodes)]]),some (.arr 0 5 0 [[.sl false 2 40 (rows w8.cells a1.hierarchy.types),.sl false 3 32 (rows y3.cells a1.hierarchy.B1),.sl false 10 152 (rows w4.cells a1.rules),.sl false 9 144 (rows x7.cells a1.y9),.sl false 2 32 (rows x5.cells a1.start.nodes)]]),some (.arr 0 4 0 [[.B3,.B3,.B3,.B3]]),some (.arr 0 2 0 [[.int .i64 0,.int .i64 0]]),some (.arr 0 4 0 [[.sl false 2 48 (rows w5.cells j1),.B3,.B3,.B3]])]) (fun gj1 j1 fr1 st1 h hb=>?_) (fun hj1=>?_)
  ·try simp only[go_sem,fx]
   unfold cL at h
   refine K6 hb ?_
   refine cl h (jX _ _) fun v8 h=>?_
   try simp only[go_sem,fx]
   (repeat apply sq_)
   refine cY 1 24 ?_
   try simp only[List.append_assoc,List.cons_append,List.nil_append]
   refine K6 (F:=[(2,.ptr st.length 0 0 0),(3,.ptr (st.length+1) 0 0 0),(4,.ptr (st.length+2) 0 0 0),(5,.ptr (st.length+3) 0 0 0),(9,.ptr (st.length+4) 0 0 0),(52,.bool (!v8))]) (T:=st++[some (.arr 0 5 0 [[.sl false 2 40 (rows w8.cells a0.hierarchy.types),.sl false 3 32 (rows y3.cells a0.hierarchy.B1),.sl false 10 152 (rows w4.cells a0.rules),.sl false 9 144 (rows x7.cells a0.y9),.sl false 2 32 (rows x5.cells a0.start.nodes)]]),some (.arr 0 5 0 [[.sl false 2 40 (rows w8.cells a1.hierarchy.types),.sl false 3 32 (rows y3.cells a1.hierarchy.B1),.sl false 10 152 (rows w4.cells a1.rules),.sl false 9 144 (rows x7.cells a1.y9),.sl false 2 32 (rows x5.cells a1.start.nodes)]]),some (.arr 0 4 0 [[.B3,.B3,.B3,.B3]]),some (.arr 0 2 0 [[.int .i64 0,.int .i64 0]]),some (.arr 0 4 0 [[.sl false 2 48 (rows w5.cells j1),.ref false (st.length+5) 0 0 0,.B3,.B3]]),some (.arr 0 1 24 (rows y5.cells []))]) (jL hsc (.lv (.lv (.lv (.lv (.live _ _ _ _ (.arr _ _ _ _ _ (.cons _ _ _ _ (.cons _ _ _ _ .s (.cons _ _ _ _ (.nref _ _ _ _ _ _ (iC.trans rfl)) (.cons _ _ _ _ .s (.cons _ _ _ _ .s .nil)))) (.same _))) (.lv (.nil _))))))) (by simp) ⟨.s,.s,.s,.s,.s,.s,trivial⟩ (by simp)) ?_
   (repeat apply sq_)
   refine nk (cK n a0 a1 j1) r (fun(gj2:Unit) (j2:(List y5))=>[(2,.ptr st.length 0 0 0),(3,.ptr (st.length+1) 0 0 0),(4,.ptr (st.length+2) 0 0 0),(5,.ptr (st.length+3) 0 0 0),(9,.ptr (st.length+4) 0 0 0)]) (fun(gj2:Unit) (j2:(List y5))=>st++[some (.arr 0 5 0 [[.sl false 2 40 (rows w8.cells a0.hierarchy.types),.sl false 3 32 (rows y3.cells a0.hierarchy.B1),.sl false 10 152 (rows w4.cells a0.rules),.sl false 9 144 (rows x7.cells a0.y9),.sl false 2 32 (rows x5.cells a0.start.nodes)]]),some (.arr 0 5 0 [[.sl false 2 40 (rows w8.cells a1.hierarchy.types),.sl false 3 32 (rows y3.cells a1.hierarchy.B1),.sl false 10 152 (rows w4.cells a1.rules),.sl false 9 144 (rows x7.cells a1.y9),.sl false 2 32 (rows x5.cells a1.start.nodes)]]),some (.arr 0 4 0 [[.B3,.B3,.B3,.B3]]),some (.arr 0 2 0 [[.int .i64 0,.int .i64 0]]),some (.arr 0 4 0 [[.sl false 2 48 (rows w5.cells j1),.sl false 1 24 (rows y5.cells j2),.B3,.B3]])]) (fun gj2 j2 fr1 st1 h hb=>?_) (fun hj2=>?_)
   ·try simp only[go_sem,fx]
    unfold cK at h
    refine K6 hb ?_
    refine cl h (rF n _ _) fun v11 h=>?_
    try simp only[go_sem,fx]
    (repeat apply sq_)
    refine cY 3 40 ?_
    try simp only[List.append_assoc,List.cons_append,List.nil_append]
    refine K6 (F:=[(2,.ptr st.length 0 0 0),(3,.ptr (st.length+1) 0 0 0),(4,.ptr (st.length+2) 0 0 0),(5,.ptr (st.length+3) 0 0 0),(9,.ptr (st.length+4) 0 0 0),(62,.sl false 3 40 (rows w7.cells v11)),(63,.int .i64 (↑v11.length:Int)),(64,.int .i64 0)]) (T:=st++[some (.arr 0 5 0 [[.sl false 2 40 (rows w8.cells a0.hierarchy.types),.sl false 3 32 (rows y3.cells a0.hierarchy.B1),.sl false 10 152 (rows w4.cells a0.rules),.sl false 9 144 (rows x7.cells a0.y9),.sl false 2 32 (rows x5.cells a0.start.nodes)]]),some (.arr 0 5 0 [[.sl false 2 40 (rows w8.cells a1.hierarchy.types),.sl false 3 32 (rows y3.cells a1.hierarchy.B1),.sl false 10 152 (rows w4.cells a1.rules),.sl false 9 144 (rows x7.cells a1.y9),.sl false 2 32 (rows x5.cells a1.start.nodes)]]),some (.arr 0 4 0 [[.B3,.B3,.B3,.B3]]),some (.arr 0 2 0 [[.int .i64 0,.int .i64 0]]),some (.arr 0 4 0 [[.sl false 2 48 (rows w5.cells j1),.sl false 1 24 (rows y5.cells j2),.ref false (st.length+5) 0 0 0,.B3]]),some (.arr 0 3 40 (rows A8.cells []))]) (jL hsc (.lv (.lv (.lv (.lv (.live _ _ _ _ (.arr _ _ _ _ _ (.cons _ _ _ _ (.cons _ _ _ _ .s (.cons _ _ _ _ .s (.cons _ _ _ _ (.nref _ _ _ _ _ _ (iC.trans rfl)) (.cons _ _ _ _ .s .nil)))) (.same _))) (.lv (.nil _))))))) (by simp) ⟨.s,.s,.s,.s,.s,.s,.s,.s,trivial⟩ (by simp)) ?_
    refine aln 62 fun hl3=>?_
    refine rng (body:=fB n v11) (kk:=iU n a0 a1 j1 j2) (n:=v11.length) (s0:=[])
     (fun(gs3:Nat) (k3:Nat) (s3:(List A8))=>[(2,.ptr st.length 0 0 0),(3,.ptr (st.length+1) 0 0 0),(4,.ptr (st.length+2) 0 0 0),(5,.ptr (st.length+3) 0 0 0),(9,.ptr (st.length+4) 0 0 0),(62,.sl false 3 40 (rows w7.cells v11)),(63,.int .i64 (↑v11.length:Int)),(64,.int .i64 (↑k3:Int))])
     (fun(gs3:Nat) (k3:Nat) (s3:(List A8))=>st++[some (.arr 0 5 0 [[.sl false 2 40 (rows w8.cells a0.hierarchy.types),.sl false 3 32 (rows y3.cells a0.hierarchy.B1),.sl false 10 152 (rows w4.cells a0.rules),.sl false 9 144 (rows x7.cells a0.y9),.sl false 2 32 (rows x5.cells a0.start.nodes)]]),some (.arr 0 5 0 [[.sl false 2 40 (rows w8.cells a1.hierarchy.types),.sl false 3 32 (rows y3.cells a1.hierarchy.B1),.sl false 10 152 (rows w4.cells a1.rules),.sl false 9 144 (rows x7.cells a1.y9),.sl false 2 32 (rows x5.cells a1.start.nodes)]]),some (.arr 0 4 0 [[.B3,.B3,.B3,.B3]]),some (.arr 0 2 0 [[.int .i64 0,.int .i64 0]]),some (.arr 0 4 0 [[.sl false 2 48 (rows w5.cells j1),.sl false 1 24 (rows y5.cells j2),.ref false (st.length+5) gs3 0 s3.length,.B3]]),some (.arr gs3 3 40 (rows A8.cells s3))])
     (fun(gt3:Nat) (t3:(List A8))=>[(2,.ptr st.length 0 0 0),(3,.ptr (st.length+1) 0 0 0),(4,.ptr (st.length+2) 0 0 0),(5,.ptr (st.length+3) 0 0 0),(9,.ptr (st.length+4) 0 0 0)])
     (fun(gt3:Nat) (t3:(List A8))=>st++[some (.arr 0 5 0 [[.sl false 2 40 (rows w8.cells a0.hierarchy.types),.sl false 3 32 (rows y3.cells a0.hierarchy.B1),.sl false 10 152 (rows w4.cells a0.rules),.sl false 9 144 (rows x7.cells a0.y9),.sl false 2 32 (rows x5.cells a0.start.nodes)]]),some (.arr 0 5 0 [[.sl false 2 40 (rows w8.cells a1.hierarchy.types),.sl false 3 32 (rows y3.cells a1.hierarchy.B1),.sl false 10 152 (rows w4.cells a1.rules),.sl false 9 144 (rows x7.cells a1.y9),.sl false 2 32 (rows x5.cells a1.start.nodes)]]),some (.arr 0 4 0 [[.B3,.B3,.B3,.B3]]),some (.arr 0 2 0 [[.int .i64 0,.int .i64 0]]),some (.arr 0 4 0 [[.sl false 2 48 (rows w5.cells j1),.sl false 1 24 (rows y5.cells j2),.ref false (st.length+5) gt3 0 t3.length,.B3]]),some (.arr gt3 3 40 (rows A8.cells t3))])
     0 fx hl3 h (bm hsc)
     (fun gs3 k3 s3 b3 fx h hx3=>?_) (fun gs3 s3=>?_) (fun gt3 t3 fr1 st1 h hb=>?_)
    ·unfold fB at h
     refine ct ?_
     refine r0 ?_
     refine r0 ?_
     refine r0 ?_
     refine r0 ?_
     refine r0 ?_
     (repeat apply sq_)
     refine cY 10 152 ?_
     try simp only[List.append_assoc,List.cons_append,List.nil_append]
     refine K6 (F:=[(2,.ptr st.length 0 0 0),(3,.ptr (st.length+1) 0 0 0),(4,.ptr (st.length+2) 0 0 0),(5,.ptr (st.length+3) 0 0 0),(9,.ptr (st.length+4) 0 0 0),(12,.ptr (st.length+7) 0 0 0),(62,.sl false 3 40 (rows w7.cells v11)),(63,.int .i64 (↑v11.length:Int)),(64,.int .i64 (↑k3:Int)),(74,.sl false 10 152 (rows w4.cells ((get v11 k3).put))),(75,.int .i64 (↑(((get v11 k3).put).length):Int)),(76,.int .i64 0)]) (T:=st++[some (.arr 0 5 0 [[.sl false 2 40 (rows w8.cells a0.hierarchy.types),.sl false 3 32 (rows y3.cells a0.hierarchy.B1),.sl false 10 152 (rows w4.cells a0.rules),.sl false 9 144 (rows x7.cells a0.y9),.sl false 2 32 (rows x5.cells a0.start.nodes)]]),some (.arr 0 5 0 [[.sl false 2 40 (rows w8.cells a1.hierarchy.types),.sl false 3 32 (rows y3.cells a1.hierarchy.B1),.sl false 10 152 (rows w4.cells a1.rules),.sl false 9 144 (rows x7.cells a1.y9),.sl false 2 32 (rows x5.cells a1.start.nodes)]]),some (.arr 0 4 0 [[.B3,.B3,.B3,.B3]]),some (.arr 0 2 0 [[.int .i64 0,.int .i64 0]]),some (.arr 0 4 0 [[.sl false 2 48 (rows w5.cells j1),.sl false 1 24 (rows y5.cells j2),.ref false (st.length+5) gs3 0 s3.length,.B3]]),some (.arr gs3 3 40 (rows A8.cells s3)),some (.arr 0 3 0 [[.int .i64 ((get v11 k3).keep),.int .i64 ((get v11 k3).drop),.sl false 10 152 (rows w4.cells ((get v11 k3).put))]]),some (.arr 0 3 0 [[.int .i64 ((get v11 k3).keep),.int .i64 ((get v11 k3).drop),.ref false (st.length+8) 0 0 0]]),some (.arr 0 10 152 (rows w4.cells []))]) (jL hsc (.lv (.lv (.lv (.lv (.lv (.lv (.lv (.live _ _ _ _ (.arr _ _ _ _ _ (.cons _ _ _ _ (.cons _ _ _ _ .s (.cons _ _ _ _ .s (.cons _ _ _ _ (.nref _ _ _ _ _ _ (iC.trans rfl)) .nil))) (.same _))) (.lv (.nil _)))))))))) (by simp) ⟨.s,.s,.s,.s,.s,.s,.s,.s,.s,.s,.s,.s,trivial⟩ (by simp)) ?_
     refine aln 74 fun hl5=>?_
     refine rng (body:=lB n v11 k3) (kk:=iR s3 v11 k3) (n:=((get v11 k3).put).length) (s0:=[])
      (fun(gs5:Nat) (k5:Nat) (s5:(List w4))=>[(2,.ptr st.length 0 0 0),(3,.ptr (st.length+1) 0 0 0),(4,.ptr (st.length+2) 0 0 0),(5,.ptr (st.length+3) 0 0 0),(9,.ptr (st.length+4) 0 0 0),(12,.ptr (st.length+7) 0 0 0),(62,.sl false 3 40 (rows w7.cells v11)),(63,.int .i64 (↑v11.length:Int)),(64,.int .i64 (↑k3:Int)),(74,.sl false 10 152 (rows w4.cells ((get v11 k3).put))),(75,.int .i64 (↑(((get v11 k3).put).length):Int)),(76,.int .i64 (↑k5:Int))])
      (fun(gs5:Nat) (k5:Nat) (s5:(List w4))=>st++[some (.arr 0 5 0 [[.sl false 2 40 (rows w8.cells a0.hierarchy.types),.sl false 3 32 (rows y3.cells a0.hierarchy.B1),.sl false 10 152 (rows w4.cells a0.rules),.sl false 9 144 (rows x7.cells a0.y9),.sl false 2 32 (rows x5.cells a0.start.nodes)]]),some (.arr 0 5 0 [[.sl false 2 40 (rows w8.cells a1.hierarchy.types),.sl false 3 32 (rows y3.cells a1.hierarchy.B1),.sl false 10 152 (rows w4.cells a1.rules),.sl false 9 144 (rows x7.cells a1.y9),.sl false 2 32 (rows x5.cells a1.start.nodes)]]),some (.arr 0 4 0 [[.B3,.B3,.B3,.B3]]),some (.arr 0 2 0 [[.int .i64 0,.int .i64 0]]),some (.arr 0 4 0 [[.sl false 2 48 (rows w5.cells j1),.sl false 1 24 (rows y5.cells j2),.ref false (st.length+5) gs3 0 s3.length,.B3]]),some (.arr gs3 3 40 (rows A8.cells s3)),none,some (.arr 0 3 0 [[.int .i64 ((get v11 k3).keep),.int .i64 ((get v11 k3).drop),.ref false (st.length+8) gs5 0 s5.length]]),some (.arr gs5 10 152 (rows w4.cells s5))])
      (fun(gt5:Nat) (t5:(List w4))=>[(2,.ptr st.length 0 0 0),(3,.ptr (st.length+1) 0 0 0),(4,.ptr (st.length+2) 0 0 0),(5,.ptr (st.length+3) 0 0 0),(9,.ptr (st.length+4) 0 0 0),(12,.ptr (st.length+7) 0 0 0),(62,.sl false 3 40 (rows w7.cells v11)),(63,.int .i64 (↑v11.length:Int)),(64,.int .i64 (↑k3:Int))])
      (fun(gt5:Nat) (t5:(List w4))=>st++[some (.arr 0 5 0 [[.sl false 2 40 (rows w8.cells a0.hierarchy.types),.sl false 3 32 (rows y3.cells a0.hierarchy.B1),.sl false 10 152 (rows w4.cells a0.rules),.sl false 9 144 (rows x7.cells a0.y9),.sl false 2 32 (rows x5.cells a0.start.nodes)]]),some (.arr 0 5 0 [[.sl false 2 40 (rows w8.cells a1.hierarchy.types),.sl false 3 32 (rows y3.cells a1.hierarchy.B1),.sl false 10 152 (rows w4.cells a1.rules),.sl false 9 144 (rows x7.cells a1.y9),.sl false 2 32 (rows x5.cells a1.start.nodes)]]),some (.arr 0 4 0 [[.B3,.B3,.B3,.B3]]),some (.arr 0 2 0 [[.int .i64 0,.int .i64 0]]),some (.arr 0 4 0 [[.sl false 2 48 (rows w5.cells j1),.sl false 1 24 (rows y5.cells j2),.ref false (st.length+5) gs3 0 s3.length,.B3]]),some (.arr gs3 3 40 (rows A8.cells s3)),none,some (.arr 0 3 0 [[.int .i64 ((get v11 k3).keep),.int .i64 ((get v11 k3).drop),.ref false (st.length+8) gt5 0 t5.length]]),some (.arr gt5 10 152 (rows w4.cells t5))])
      0 fx hl5 h (bm hsc)
      (fun gs5 k5 s5 b5 fx h hx5=>?_) (fun gs5 s5=>?_) (fun gt5 t5 fr1 st1 h hb=>?_)
     ·unfold lB at h
      refine ct ?_
      refine rn ?_
      refine dw [] 2 ?_
      obtain⟨v35,hv35,h⟩:=E4 h
      refine A9 (oJ n _ _ hv35) ?_
      obtain⟨c37,TP,h⟩:=mO h
      have fy:=(show rows w4.cells s5++[[.str v35.name,.sl false 2 32 (rows x5.cells v35.graph.nodes),.int .i64 v35.kids,.int .i64 v35.weight,.int .i64 v35.meaning.kind,.str v35.meaning.name,.int .i64 v35.meaning.index,.str v35.meaning.type.base,.sl false 2 40 (rows u0.cells v35.meaning.type.args),.sl false 6 96 (rows w6.cells v35.meaning.args)]]=rows w4.cells c37 from by rw[TP];first|exact N9 (E:=w4.cells) s5 [v35]|simp only[go_sem,rows,List.map_append,List.map_cons,List.map_nil])
      have fy:=fa fy (show s5.length+1=c37.length from by rw[TP];simp)
      obtain⟨fx,h⟩:=ck fx h
      try simp only[go_sem,fx,fy]
      refine rn ?_
      cases h
      exact aT (gs5+1) (bm hsc)
     ·refine cf ?_
      refine X5 ?_;simp only[go_sem,fx]
      exact⟨gs5,(bm hsc)⟩
     ·try simp only[go_sem,fx]
      unfold iR at h
      refine K6 hb ?_
      obtain⟨fx,h⟩:=ck fx h
      refine rn ?_
      cases h
      exact aT (gs3+1) (bm hsc (hu:=(.lv (.lv (.lv (.lv (.live _ _ _ _ (.arr _ _ _ _ _ (.cons _ _ _ _ (.cons _ _ _ _ .s (.cons _ _ _ _ .s (.cons _ _ _ _ (nU (by first|(simp;done)|simp[Fr.get])) (.cons _ _ _ _ .s .nil)))) (.same _))) (.live _ _ _ _ (.arr _ _ _ _ _ (ji (.cons _ _ _ _ (.cons _ _ _ _ .s (.cons _ _ _ _ .s (.cons _ _ _ _ (.ref _ _ _ _ _ _ _ _ _ (iC.trans rfl) (cD (by first|decide|simp)) (by decide) (lQ _) (by simp only[go_sem])) .nil))) .nil))) (.nil _)))))))))
    ·refine cf ?_
     refine X5 ?_;simp only[go_sem,fx]
     exact⟨gs3,(bm hsc)⟩
    ·try simp only[go_sem,fx]
     unfold iU at h
     refine K6 hb ?_
     refine cl h (tj n _ _) fun v45 h=>?_
     try simp only[go_sem,fx]
     (repeat apply sq_)
     refine cY 3 40 ?_
     try simp only[List.append_assoc,List.cons_append,List.nil_append]
     refine K6 (F:=[(4,.ptr (st.length+2) 0 0 0),(5,.ptr (st.length+3) 0 0 0),(9,.ptr (st.length+4) 0 0 0),(99,.sl false 3 40 (rows w9.cells v45)),(100,.int .i64 (↑v45.length:Int)),(101,.int .i64 0)]) (T:=st++[some (.arr 0 5 0 [[.sl false 2 40 (rows w8.cells a0.hierarchy.types),.sl false 3 32 (rows y3.cells a0.hierarchy.B1),.sl false 10 152 (rows w4.cells a0.rules),.sl false 9 144 (rows x7.cells a0.y9),.sl false 2 32 (rows x5.cells a0.start.nodes)]]),some (.arr 0 5 0 [[.sl false 2 40 (rows w8.cells a1.hierarchy.types),.sl false 3 32 (rows y3.cells a1.hierarchy.B1),.sl false 10 152 (rows w4.cells a1.rules),.sl false 9 144 (rows x7.cells a1.y9),.sl false 2 32 (rows x5.cells a1.start.nodes)]]),some (.arr 0 4 0 [[.B3,.B3,.B3,.B3]]),some (.arr 0 2 0 [[.int .i64 0,.int .i64 0]]),some (.arr 0 4 0 [[.sl false 2 48 (rows w5.cells j1),.sl false 1 24 (rows y5.cells j2),.ref false (st.length+5) gt3 0 t3.length,.ref false (st.length+6) 0 0 0]]),some (.arr gt3 3 40 (rows A8.cells t3)),some (.arr 0 3 40 (rows B9.cells []))]) (jL hsc (.lv (.lv (.lv (.lv (.live _ _ _ _ (.arr _ _ _ _ _ (.cons _ _ _ _ (.cons _ _ _ _ .s (.cons _ _ _ _ .s (.cons _ _ _ _ .s (.cons _ _ _ _ (.nref _ _ _ _ _ _ (iC.trans rfl)) .nil)))) (.same _))) (.lv (.lv (.nil _)))))))) (by simp) ⟨.s,.s,.s,.s,.s,.s,trivial⟩ (by simp)) ?_
     refine aln 99 fun hl6=>?_
     refine rng (body:=fC n v45) (kk:=lD j1 j2 t3) (n:=v45.length) (s0:=[])
      (fun(gs6:Nat) (k6:Nat) (s6:(List B9))=>[(4,.ptr (st.length+2) 0 0 0),(5,.ptr (st.length+3) 0 0 0),(9,.ptr (st.length+4) 0 0 0),(99,.sl false 3 40 (rows w9.cells v45)),(100,.int .i64 (↑v45.length:Int)),(101,.int .i64 (↑k6:Int))])
      (fun(gs6:Nat) (k6:Nat) (s6:(List B9))=>st++[none,none,some (.arr 0 4 0 [[.B3,.B3,.B3,.B3]]),some (.arr 0 2 0 [[.int .i64 0,.int .i64 0]]),some (.arr 0 4 0 [[.sl false 2 48 (rows w5.cells j1),.sl false 1 24 (rows y5.cells j2),.ref false (st.length+5) gt3 0 t3.length,.ref false (st.length+6) gs6 0 s6.length]]),some (.arr gt3 3 40 (rows A8.cells t3)),some (.arr gs6 3 40 (rows B9.cells s6))])
      (fun(gt6:Nat) (t6:(List B9))=>[(4,.ptr (st.length+2) 0 0 0),(5,.ptr (st.length+3) 0 0 0),(9,.ptr (st.length+4) 0 0 0)])
      (fun(gt6:Nat) (t6:(List B9))=>st++[none,none,some (.arr 0 4 0 [[.B3,.B3,.B3,.B3]]),some (.arr 0 2 0 [[.int .i64 0,.int .i64 0]]),some (.arr 0 4 0 [[.sl false 2 48 (rows w5.cells j1),.sl false 1 24 (rows y5.cells j2),.ref false (st.length+5) gt3 0 t3.length,.ref false (st.length+6) gt6 0 t6.length]]),some (.arr gt3 3 40 (rows A8.cells t3)),some (.arr gt6 3 40 (rows B9.cells t6))])
      0 fx hl6 h (bm hsc)
      (fun gs6 k6 s6 b6 fx h hx6=>?_) (fun gs6 s6=>?_) (fun gt6 t6 fr1 st1 h hb=>?_)
     ·unfold fC at h
      refine ct ?_
      refine r0 ?_
      refine r0 ?_
      refine r0 ?_
      refine r0 ?_
      refine r0 ?_
      (repeat apply sq_)
      refine cY 9 144 ?_
      try simp only[List.append_assoc,List.cons_append,List.nil_append]
      refine K6 (F:=[(4,.ptr (st.length+2) 0 0 0),(5,.ptr (st.length+3) 0 0 0),(9,.ptr (st.length+4) 0 0 0),(17,.ptr (st.length+8) 0 0 0),(99,.sl false 3 40 (rows w9.cells v45)),(100,.int .i64 (↑v45.length:Int)),(101,.int .i64 (↑k6:Int)),(111,.sl false 9 144 (rows x7.cells ((get v45 k6).put))),(112,.int .i64 (↑(((get v45 k6).put).length):Int)),(113,.int .i64 0)]) (T:=st++[none,none,some (.arr 0 4 0 [[.B3,.B3,.B3,.B3]]),some (.arr 0 2 0 [[.int .i64 0,.int .i64 0]]),some (.arr 0 4 0 [[.sl false 2 48 (rows w5.cells j1),.sl false 1 24 (rows y5.cells j2),.ref false (st.length+5) gt3 0 t3.length,.ref false (st.length+6) gs6 0 s6.length]]),some (.arr gt3 3 40 (rows A8.cells t3)),some (.arr gs6 3 40 (rows B9.cells s6)),some (.arr 0 3 0 [[.int .i64 ((get v45 k6).keep),.int .i64 ((get v45 k6).drop),.sl false 9 144 (rows x7.cells ((get v45 k6).put))]]),some (.arr 0 3 0 [[.int .i64 ((get v45 k6).keep),.int .i64 ((get v45 k6).drop),.ref false (st.length+9) 0 0 0]]),some (.arr 0 9 144 (rows x7.cells []))]) (jL hsc (.dead _ _ _ (.dead _ _ _ (.lv (.lv (.lv (.lv (.lv (.lv (.live _ _ _ _ (.arr _ _ _ _ _ (.cons _ _ _ _ (.cons _ _ _ _ .s (.cons _ _ _ _ .s (.cons _ _ _ _ (.nref _ _ _ _ _ _ (iC.trans rfl)) .nil))) (.same _))) (.lv (.nil _))))))))))) (by simp) ⟨.s,.s,.s,.s,.s,.s,.s,.s,.s,.s,trivial⟩ (by simp)) ?_
      refine aln 111 fun hl8=>?_
      refine rng (body:=lC n v45 k6) (kk:=iS s6 v45 k6) (n:=((get v45 k6).put).length) (s0:=[])
       (fun(gs8:Nat) (k8:Nat) (s8:(List x7))=>[(4,.ptr (st.length+2) 0 0 0),(5,.ptr (st.length+3) 0 0 0),(9,.ptr (st.length+4) 0 0 0),(17,.ptr (st.length+8) 0 0 0),(99,.sl false 3 40 (rows w9.cells v45)),(100,.int .i64 (↑v45.length:Int)),(101,.int .i64 (↑k6:Int)),(111,.sl false 9 144 (rows x7.cells ((get v45 k6).put))),(112,.int .i64 (↑(((get v45 k6).put).length):Int)),(113,.int .i64 (↑k8:Int))])
       (fun(gs8:Nat) (k8:Nat) (s8:(List x7))=>st++[none,none,some (.arr 0 4 0 [[.B3,.B3,.B3,.B3]]),some (.arr 0 2 0 [[.int .i64 0,.int .i64 0]]),some (.arr 0 4 0 [[.sl false 2 48 (rows w5.cells j1),.sl false 1 24 (rows y5.cells j2),.ref false (st.length+5) gt3 0 t3.length,.ref false (st.length+6) gs6 0 s6.length]]),some (.arr gt3 3 40 (rows A8.cells t3)),some (.arr gs6 3 40 (rows B9.cells s6)),none,some (.arr 0 3 0 [[.int .i64 ((get v45 k6).keep),.int .i64 ((get v45 k6).drop),.ref false (st.length+9) gs8 0 s8.length]]),some (.arr gs8 9 144 (rows x7.cells s8))])
       (fun(gt8:Nat) (t8:(List x7))=>[(4,.ptr (st.length+2) 0 0 0),(5,.ptr (st.length+3) 0 0 0),(9,.ptr (st.length+4) 0 0 0),(17,.ptr (st.length+8) 0 0 0),(99,.sl false 3 40 (rows w9.cells v45)),(100,.int .i64 (↑v45.length:Int)),(101,.int .i64 (↑k6:Int))])
       (fun(gt8:Nat) (t8:(List x7))=>st++[none,none,some (.arr 0 4 0 [[.B3,.B3,.B3,.B3]]),some (.arr 0 2 0 [[.int .i64 0,.int .i64 0]]),some (.arr 0 4 0 [[.sl false 2 48 (rows w5.cells j1),.sl false 1 24 (rows y5.cells j2),.ref false (st.length+5) gt3 0 t3.length,.ref false (st.length+6) gs6 0 s6.length]]),some (.arr gt3 3 40 (rows A8.cells t3)),some (.arr gs6 3 40 (rows B9.cells s6)),none,some (.arr 0 3 0 [[.int .i64 ((get v45 k6).keep),.int .i64 ((get v45 k6).drop),.ref false (st.length+9) gt8 0 t8.length]]),some (.arr gt8 9 144 (rows x7.cells t8))])
       0 fx hl8 h (bm hsc)
       (fun gs8 k8 s8 b8 fx h hx8=>?_) (fun gs8 s8=>?_) (fun gt8 t8 fr1 st1 h hb=>?_)
      ·unfold lC at h
       refine ct ?_
       refine rn ?_
       refine dw [] 2 ?_
       obtain⟨v69,hv69,h⟩:=E4 h
       refine A9 (qd n _ _ hv69) ?_
       obtain⟨c71,TQ,h⟩:=mO h
       have fy:=(show rows x7.cells s8++[[.str v69.word,.sl false 2 32 (rows x5.cells v69.graph.nodes),.int .i64 v69.weight,.int .i64 v69.meaning.kind,.str v69.meaning.name,.int .i64 v69.meaning.index,.str v69.meaning.type.base,.sl false 2 40 (rows u0.cells v69.meaning.type.args),.sl false 6 96 (rows w6.cells v69.meaning.args)]]=rows x7.cells c71 from by rw[TQ];first|exact N9 (E:=x7.cells) s8 [v69]|simp only[go_sem,rows,List.map_append,List.map_cons,List.map_nil])
       have fy:=fa fy (show s8.length+1=c71.length from by rw[TQ];simp)
       obtain⟨fx,h⟩:=ck fx h
       try simp only[go_sem,fx,fy]
       refine rn ?_
       cases h
       exact aT (gs8+1) (bm hsc)
      ·refine cf ?_
       refine X5 ?_;simp only[go_sem,fx]
       exact⟨gs8,(bm hsc)⟩
      ·try simp only[go_sem,fx]
       unfold iS at h
       refine K6 hb ?_
       obtain⟨fx,h⟩:=ck fx h
       refine rn ?_
       cases h
       exact aT (gs6+1) (bm hsc (hu:=(.dead _ _ _ (.dead _ _ _ (.lv (.lv (.live _ _ _ _ (.arr _ _ _ _ _ (.cons _ _ _ _ (.cons _ _ _ _ .s (.cons _ _ _ _ .s (.cons _ _ _ _ .s (.cons _ _ _ _ (nU (by first|(simp;done)|simp[Fr.get])) .nil)))) (.same _))) (.lv (.live _ _ _ _ (.arr _ _ _ _ _ (ji (.cons _ _ _ _ (.cons _ _ _ _ .s (.cons _ _ _ _ .s (.cons _ _ _ _ (.ref _ _ _ _ _ _ _ _ _ (iC.trans rfl) (cD (by first|decide|simp)) (by decide) (lQ _) (by simp only[go_sem])) .nil))) .nil))) (.nil _))))))))))
     ·refine cf ?_
      refine X5 ?_;simp only[go_sem,fx]
      exact⟨gs6,(bm hsc)⟩
     ·try simp only[go_sem,fx]
      unfold lD at h
      refine K6 hb ?_
      refine rr ?_
      exact fo (.tup [.agg [.sl false 2 48 (rows w5.cells j1),.sl false 1 24 (rows y5.cells j2),.sl false 3 40 (rows A8.cells t3),.sl false 3 40 (rows B9.cells t6)],.agg [.int .i64 0,.int .i64 0]]) (.tup _ _ (.cons _ _ _ _ (.agg _ _ (.cons _ _ _ _ .s (.cons _ _ _ _ .s (.cons _ _ _ _ (.ref _ _ _ _ _ _ _ _ _ (iC.trans rfl) uX (by decide) (lQ _) (by simp only[go_sem])) (.cons _ _ _ _ (.ref _ _ _ _ _ _ _ _ _ (iC.trans rfl) uX (by decide) (lQ _) (by simp only[go_sem])) .nil))))) (.cons _ _ _ _ .s .nil)) rfl) h hsc
   ·refine cd h (fun hc h=>?_) fun hc h=>?_
    ·refine cl h (gg _) fun v9 h=>?_
     try simp only[go_sem,fx]
     refine hj2 () _ _ _ h ?_;exact(bm hsc (hu:=(.lv (.lv (.lv (.lv (.live _ _ _ _ (.arr _ _ _ _ _ (.cons _ _ _ _ (.cons _ _ _ _ .s (.cons _ _ _ _ (.ref _ _ _ _ _ _ _ _ _ (iC.trans rfl) (cD (by first|decide|simp)) (by decide) (by simp[Imm,D.imm]) (by simp only[go_sem,rows,List.map_cons,List.map_nil])) (.cons _ _ _ _ .s (.cons _ _ _ _ .s .nil)))) (.same _))) (.nil _))))))))
    ·refine r0 ?_
     refine hj2 () _ _ _ h ?_;exact(bm hsc (hu:=(.lv (.lv (.lv (.lv (.live _ _ _ _ (.arr _ _ _ _ _ (.cons _ _ _ _ (.cons _ _ _ _ .s (.cons _ _ _ _ (.ref _ _ _ _ _ _ _ _ _ (iC.trans rfl) (cD (by first|decide|simp)) (by decide) (lQ _) (by simp only[go_sem,EP])) (.cons _ _ _ _ .s (.cons _ _ _ _ .s .nil)))) (.same _))) (.nil _))))))))
  ·refine cd h (fun hc h=>?_) fun hc h=>?_
   ·refine cl h (jK _) fun v6 h=>?_
    try simp only[go_sem,fx]
    refine hj1 () _ _ _ h ?_;exact(bm hsc (hu:=(.lv (.lv (.lv (.lv (.live _ _ _ _ (.arr _ _ _ _ _ (.cons _ _ _ _ (.cons _ _ _ _ (.ref _ _ _ _ _ _ _ _ _ (iC.trans rfl) (cD (by first|decide|simp)) (by decide) (by simp[Imm,D.imm]) (by simp only[go_sem,rows,List.map_cons,List.map_nil])) (.cons _ _ _ _ .s (.cons _ _ _ _ .s (.cons _ _ _ _ .s .nil)))) (.same _))) (.nil _))))))))
   ·refine r0 ?_
    refine hj1 () _ _ _ h ?_;exact(bm hsc (hu:=(.lv (.lv (.lv (.lv (.live _ _ _ _ (.arr _ _ _ _ _ (.cons _ _ _ _ (.cons _ _ _ _ (.ref _ _ _ _ _ _ _ _ _ (iC.trans rfl) (cD (by first|decide|simp)) (by decide) (lQ _) (by simp only[go_sem,EP])) (.cons _ _ _ _ .s (.cons _ _ _ _ .s (.cons _ _ _ _ .s .nil)))) (.same _))) (.nil _))))))))
end Go.Proofs.YtonfgoanbllceaaGreatDoor
