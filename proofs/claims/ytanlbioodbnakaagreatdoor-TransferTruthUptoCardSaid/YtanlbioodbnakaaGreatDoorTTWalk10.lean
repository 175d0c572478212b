import Derived.Test.YtanlbioodbnakaaGreatDoorTTWalk9
set_option linter.unusedVariables false
set_option linter.unusedSimpArgs false
set_option maxHeartbeats 2000000
set_option maxRecDepth 100000
namespace Go.Proofs.YtanlbioodbnakaaGreatDoor
open Go Go.Am
theorem oS(n:Nat)(a0:Bs)(a1:Bs)(a2:Int)(r:u7×B0)(h:bY n a0 a1 a2=some r):Pure Tryz.prog gl 6 [.str a0,.str a1,.int .i64 a2] (.tup [.agg [.int .i64 r.1.from_.form.kind,.str r.1.from_.form.name,.sl false 1 16 (rows w8 r.1.from_.form.words),.sl false 4 72 (rows u5.cells r.1.from_.form.subs),.sl false 1 16 (rows w8 r.1.from_.words),.sl false 1 16 (rows w8 r.1.from_.E9),.sl false 1 16 (rows w8 r.1.from_.parts),.int .i64 r.1.to_.kind,.str r.1.to_.name,.sl false 1 16 (rows w8 r.1.to_.words),.sl false 4 72 (rows u5.cells r.1.to_.subs)],.agg [.int .i64 r.2.code,.int .i64 r.2.index]]):=by
 intro st
 unfold bY at h
 have fx:=trivial
 refine fb 72 [.cell 6 40,.cell 7 32] [0,1,2,6,7,8,9,10,13,18,24,25,26,36,37,38] Tryz.func6 fun hsc=>?_
 refine cl h (dU _) fun v1 h=>?_
 refine cd h (fun hc h=>?_) fun hc h=>?_
 ·refine cl h (G6 _ _) fun v2 h=>?_
  refine rr ?_
  exact fo (.tup [.agg [.int .i64 0,.str [],.sl false 1 16 (rows w8 []),.sl false 4 72 (rows u5.cells []),.sl false 1 16 (rows w8 []),.sl false 1 16 (rows w8 []),.sl false 1 16 (rows w8 []),.int .i64 0,.str [],.sl false 1 16 (rows w8 []),.sl false 4 72 (rows u5.cells [])],.agg [.int .i64 v2.code,.int .i64 v2.index]]) (.tup _ _ (.cons _ _ _ _ (.agg _ _ (.cons _ _ _ _ .s (.cons _ _ _ _ .s (.cons _ _ _ _ (.B2 _ _ _ (by decide)) (.cons _ _ _ _ (.B2 _ _ _ (by decide)) (.cons _ _ _ _ (.B2 _ _ _ (by decide)) (.cons _ _ _ _ (.B2 _ _ _ (by decide)) (.cons _ _ _ _ (.B2 _ _ _ (by decide)) (.cons _ _ _ _ .s (.cons _ _ _ _ .s (.cons _ _ _ _ (.B2 _ _ _ (by decide)) (.cons _ _ _ _ (.B2 _ _ _ (by decide)) .nil)))))))))))) (.cons _ _ _ _ .s .nil)) rfl) h hsc
 ·refine cl h (dU _) fun v3 h=>?_
  refine cd h (fun hc h=>?_) fun hc h=>?_
  ·refine cl h (G6 _ _) fun v4 h=>?_
   refine rr ?_
   exact fo (.tup [.agg [.int .i64 0,.str [],.sl false 1 16 (rows w8 []),.sl false 4 72 (rows u5.cells []),.sl false 1 16 (rows w8 []),.sl false 1 16 (rows w8 []),.sl false 1 16 (rows w8 []),.int .i64 0,.str [],.sl false 1 16 (rows w8 []),.sl false 4 72 (rows u5.cells [])],.agg [.int .i64 v4.code,.int .i64 v4.index]]) (.tup _ _ (.cons _ _ _ _ (.agg _ _ (.cons _ _ _ _ .s (.cons _ _ _ _ .s (.cons _ _ _ _ (.B2 _ _ _ (by decide)) (.cons _ _ _ _ (.B2 _ _ _ (by decide)) (.cons _ _ _ _ (.B2 _ _ _ (by decide)) (.cons _ _ _ _ (.B2 _ _ _ (by decide)) (.cons _ _ _ _ (.B2 _ _ _ (by decide)) (.cons _ _ _ _ .s (.cons _ _ _ _ .s (.cons _ _ _ _ (.B2 _ _ _ (by decide)) (.cons _ _ _ _ (.B2 _ _ _ (by decide)) .nil)))))))))))) (.cons _ _ _ _ .s .nil)) rfl) h hsc
  ·refine cd h (fun hc h=>?_) fun hc h=>?_
   ·refine cl h (G6 _ _) fun v5 h=>?_
    refine rr ?_
    exact fo (.tup [.agg [.int .i64 0,.str [],.sl false 1 16 (rows w8 []),.sl false 4 72 (rows u5.cells []),.sl false 1 16 (rows w8 []),.sl false 1 16 (rows w8 []),.sl false 1 16 (rows w8 []),.int .i64 0,.str [],.sl false 1 16 (rows w8 []),.sl false 4 72 (rows u5.cells [])],.agg [.int .i64 v5.code,.int .i64 v5.index]]) (.tup _ _ (.cons _ _ _ _ (.agg _ _ (.cons _ _ _ _ .s (.cons _ _ _ _ .s (.cons _ _ _ _ (.B2 _ _ _ (by decide)) (.cons _ _ _ _ (.B2 _ _ _ (by decide)) (.cons _ _ _ _ (.B2 _ _ _ (by decide)) (.cons _ _ _ _ (.B2 _ _ _ (by decide)) (.cons _ _ _ _ (.B2 _ _ _ (by decide)) (.cons _ _ _ _ .s (.cons _ _ _ _ .s (.cons _ _ _ _ (.B2 _ _ _ (by decide)) (.cons _ _ _ _ (.B2 _ _ _ (by decide)) .nil)))))))))))) (.cons _ _ _ _ .s .nil)) rfl) h hsc
   ·refine r0 ?_
    refine r0 ?_
    refine r0 ?_
    refine r0 ?_
    refine r0 ?_
    (repeat apply sq_)
    refine S4 1 16 ?_
    refine S4 1 16 ?_
    refine S4 1 16 ?_
    try simp only[List.append_assoc,List.cons_append,List.nil_append]
    refine L6 (F:=[(6,.ptr st.length 0 0 0),(7,.ptr (st.length+1) 0 0 0),(8,.ptr (st.length+2) 0 0 0),(36,.int .i64 a2),(37,.int .i64 0)]) (T:=st++[some (.arr 0 11 0 [[.int .i64 0,.str [],.B2,.B2,.B2,.B2,.B2,.int .i64 0,.str [],.B2,.B2]]),some (.arr 0 2 0 [[.int .i64 0,.int .i64 0]]),some (.arr 0 11 0 [[.int .i64 2,.str a0,.ref false (st.length+3) 0 0 0,.B2,.ref false (st.length+4) 0 0 0,.B2,.B2,.int .i64 2,.str a1,.ref false (st.length+5) 0 0 0,.B2]]),some (.arr 0 1 16 (rows w8 [])),some (.arr 0 1 16 (rows w8 [])),some (.arr 0 1 16 (rows w8 []))]) (zF hsc (.lv (.lv (.live _ _ _ _ (.arr _ _ _ _ _ (.cons _ _ _ _ (.cons _ _ _ _ .s (.cons _ _ _ _ .s (.cons _ _ _ _ (.nref _ _ _ _ _ _ (nR.trans rfl)) (.cons _ _ _ _ .s (.cons _ _ _ _ (.nref _ _ _ _ _ _ (nR.trans rfl)) (.cons _ _ _ _ .s (.cons _ _ _ _ .s (.cons _ _ _ _ .s (.cons _ _ _ _ .s (.cons _ _ _ _ (.nref _ _ _ _ _ _ (nR.trans rfl)) (.cons _ _ _ _ .s .nil))))))))))) (.same _))) (.lv (.lv (.lv (.nil _))))))) (by simp) ⟨.s,.s,.s,.s,.s,trivial⟩ (by simp)) ?_
    (repeat apply sq_)
    refine Z7 (body:=Y0 a2) (kk:=bI a0 a1) (n:=n) (s0:=([],[],[],0))
     (fun(gs0:Nat×Nat×Nat) (s0:(List Bs)×(List Bs)×(List Bs)×Int)=>[(6,.ptr st.length 0 0 0),(7,.ptr (st.length+1) 0 0 0),(8,.ptr (st.length+2) 0 0 0),(36,.int .i64 a2),(37,.int .i64 s0.2.2.2)])
     (fun(gs0:Nat×Nat×Nat) (s0:(List Bs)×(List Bs)×(List Bs)×Int)=>st++[some (.arr 0 11 0 [[.int .i64 0,.str [],.B2,.B2,.B2,.B2,.B2,.int .i64 0,.str [],.B2,.B2]]),some (.arr 0 2 0 [[.int .i64 0,.int .i64 0]]),some (.arr 0 11 0 [[.int .i64 2,.str a0,.ref false (st.length+3) gs0.1 0 s0.1.length,.B2,.ref false (st.length+4) gs0.2.1 0 s0.2.1.length,.B2,.B2,.int .i64 2,.str a1,.ref false (st.length+5) gs0.2.2 0 s0.2.2.1.length,.B2]]),some (.arr gs0.1 1 16 (rows w8 s0.1)),some (.arr gs0.2.1 1 16 (rows w8 s0.2.1)),some (.arr gs0.2.2 1 16 (rows w8 s0.2.2.1))])
     (fun(gt0:Nat×Nat×Nat) (t0:(List Bs)×(List Bs)×(List Bs))=>[(6,.ptr st.length 0 0 0),(7,.ptr (st.length+1) 0 0 0),(8,.ptr (st.length+2) 0 0 0)])
     (fun(gt0:Nat×Nat×Nat) (t0:(List Bs)×(List Bs)×(List Bs))=>st++[some (.arr 0 11 0 [[.int .i64 0,.str [],.B2,.B2,.B2,.B2,.B2,.int .i64 0,.str [],.B2,.B2]]),some (.arr 0 2 0 [[.int .i64 0,.int .i64 0]]),some (.arr 0 11 0 [[.int .i64 2,.str a0,.ref false (st.length+3) gt0.1 0 t0.1.length,.B2,.ref false (st.length+4) gt0.2.1 0 t0.2.1.length,.B2,.B2,.int .i64 2,.str a1,.ref false (st.length+5) gt0.2.2 0 t0.2.2.length,.B2]]),some (.arr gt0.1 1 16 (rows w8 t0.1)),some (.arr gt0.2.1 1 16 (rows w8 t0.2.1)),some (.arr gt0.2.2 1 16 (rows w8 t0.2.2))])
     (0,0,0) h (bm hsc)
     (fun gs0 s0 b0 h hx0=>?_) (fun gt0 t0 fr1 st1 h hb=>?_)
    ·unfold Y0 at h
     refine cd h (fun hc h=>?_) fun hc h=>?_
     ·refine cl h (pS _) fun v26 h=>?_
      obtain⟨fx,h⟩:=ck fx h
      try simp only[go_sem,fx]
      obtain⟨c29,OQ,h⟩:=gq h
      have fy:=(show rows w8 s0.2.1++[[.str (mG [120] v26)]]=rows w8 c29 from by rw[OQ];first|exact D5 (E:=w8) s0.2.1 [(mG [120] v26)]|simp only[go_sem,rows,List.map_append,List.map_cons,List.map_nil])
      have fy:=fa fy (show s0.2.1.length+1=c29.length from by rw[OQ];simp)
      obtain⟨fx,h⟩:=ck fx h
      refine r1 ?_
      obtain⟨c35,OT,h⟩:=gq h
      have fy:=(show rows w8 s0.1++[[.str (mG [120] v26)]]=rows w8 c35 from by rw[OT];first|exact D5 (E:=w8) s0.1 [(mG [120] v26)]|simp only[go_sem,rows,List.map_append,List.map_cons,List.map_nil])
      have fy:=fa fy (show s0.1.length+1=c35.length from by rw[OT];simp)
      obtain⟨fx,h⟩:=ck fx h
      refine r1 ?_
      obtain⟨c41,Sg,h⟩:=gq h
      have fy:=(show rows w8 s0.2.2.1++[[.str (mG [120] v26)]]=rows w8 c41 from by rw[Sg];first|exact D5 (E:=w8) s0.2.2.1 [(mG [120] v26)]|simp only[go_sem,rows,List.map_append,List.map_cons,List.map_nil])
      have fy:=fa fy (show s0.2.2.1.length+1=c41.length from by rw[Sg];simp)
      obtain⟨fx,h⟩:=ck fx h
      refine r1 ?_
      refine rn ?_
      cases h
      exact bS ((gs0.1+1),(gs0.2.1+1),(gs0.2.2+1)) (bm hsc)
     ·refine rn ?_
      cases h
      exact fP (gs0.1,gs0.2.1,gs0.2.2) (bm hsc)
    ·try simp only[go_sem,fx]
     unfold bI at h
     refine L6 hb ?_
     refine rr ?_
     exact fo (.tup [.agg [.int .i64 2,.str a0,.sl false 1 16 (rows w8 t0.1),.sl false 4 72 (rows u5.cells []),.sl false 1 16 (rows w8 t0.2.1),.sl false 1 16 (rows w8 []),.sl false 1 16 (rows w8 []),.int .i64 2,.str a1,.sl false 1 16 (rows w8 t0.2.2),.sl false 4 72 (rows u5.cells [])],.agg [.int .i64 0,.int .i64 0]]) (.tup _ _ (.cons _ _ _ _ (.agg _ _ (.cons _ _ _ _ .s (.cons _ _ _ _ .s (.cons _ _ _ _ (.ref _ _ _ _ _ _ _ _ _ (nR.trans rfl) Dp (by decide) (jS _) (by simp only[go_sem])) (.cons _ _ _ _ (.B2 _ _ _ (by decide)) (.cons _ _ _ _ (.ref _ _ _ _ _ _ _ _ _ (nR.trans rfl) Dp (by decide) (jS _) (by simp only[go_sem])) (.cons _ _ _ _ (.B2 _ _ _ (by decide)) (.cons _ _ _ _ (.B2 _ _ _ (by decide)) (.cons _ _ _ _ .s (.cons _ _ _ _ .s (.cons _ _ _ _ (.ref _ _ _ _ _ _ _ _ _ (nR.trans rfl) Dp (by decide) (jS _) (by simp only[go_sem])) (.cons _ _ _ _ (.B2 _ _ _ (by decide)) .nil)))))))))))) (.cons _ _ _ _ .s .nil)) rfl) h hsc
theorem yJ:∀(n:Nat) (a0:u5) (r:Int) (h:iV n a0=some r),Pure Tryz.prog gl 31 [.agg [.int .i64 a0.kind,.str a0.name,.sl false 1 16 (rows w8 a0.words),.sl false 4 72 (rows u5.cells a0.subs)]] (.int .i64 r):=by
 intro n
 induction n with
 |zero=>intro a0 r h;cases h
 |succ n ih=>
  intro a0 r h st
  unfold iV at h
  have fx:=trivial
  refine fb 23 [.tmp 2] [0,1,2,3,5,7,8,9,10,19] Tryz.func31 fun hsc=>?_
  refine aln 7 fun hl0=>?_
  refine rng (body:=jv (iV n) a0) (kk:=jw a0) (n:=a0.subs.length) (s0:=0)
   (fun(gs0:Unit) (k0:Nat) (s0:Int)=>[(1,.ptr st.length 0 0 0),(3,.int .i64 s0),(7,.sl false 4 72 (rows u5.cells a0.subs)),(8,.int .i64 (↑a0.subs.length:Int)),(9,.int .i64 (↑k0:Int))])
   (fun(gs0:Unit) (k0:Nat) (s0:Int)=>st++[some (.arr 0 4 0 [[.int .i64 a0.kind,.str a0.name,.sl false 1 16 (rows w8 a0.words),.sl false 4 72 (rows u5.cells a0.subs)]])])
   (fun(gt0:Unit) (t0:Int)=>[(1,.ptr st.length 0 0 0),(3,.int .i64 t0)])
   (fun(gt0:Unit) (t0:Int)=>st++[some (.arr 0 4 0 [[.int .i64 a0.kind,.str a0.name,.sl false 1 16 (rows w8 a0.words),.sl false 4 72 (rows u5.cells a0.subs)]])])
   () fx hl0 h (bm hsc)
   (fun gs0 k0 s0 b0 fx h hx0=>?_) (fun gs0 s0=>?_) (fun gt0 t0 fr1 st1 h hb=>?_)
  ·unfold jv at h
   refine ct ?_
   refine cl h (ih _) fun v2 h=>?_
   refine rn ?_
   cases h
   exact cj () (bm hsc)
  ·refine cf ?_
   refine cM ?_;simp only[go_sem,fx]
   exact⟨(),(bm hsc)⟩
  ·try simp only[go_sem,fx]
   unfold jw at h
   refine L6 hb ?_
   refine cl h (D6 _) fun v3 h=>?_
   refine cd h (fun hc h=>?_) fun hc h=>?_
   ·exact rt
   ·exact rt
theorem kc(a0:A0)(a1:Bs)(r:Int)(h:br a0 a1=some r):Pure Tryz.prog gl 57 [.agg [.str a0.name,.int .i64 a0.value],.str a1] (.int .i64 r):=by
 intro st
 unfold br at h
 have fx:=trivial
 refine fb 9 [.tmp 4] [0,1,2,4] Tryz.func57 fun hsc=>?_
 refine cl h (iX _ _) fun v1 h=>?_
 exact rt
theorem S2(n:Nat)(a0:(List A0))(a1:Bs)(r:Int×Bool)(h:D3 n a0 a1=some r):Pure Tryz.prog gl 56 [.sl false 2 24 (rows A0.cells a0),.str a1,.fn 57 [] []] (.tup [.int .i64 r.1,.bool r.2]):=by
 intro st
 unfold D3 at h
 have fx:=trivial
 refine fb 49 [.tmp 6,.tmp 7] [0,1,2,6,7,8,9,10,11,17,31,40,41,42,43,44,45,46,47] Tryz.func56 fun hsc=>?_
 refine rn ?_
 refine Z7 (body:=E6 a0 a1) (kk:=E7 a0 a1) (n:=n) (s0:=((↑a0.length:Int),0))
  (fun(gs0:Unit) (s0:Int×Int)=>[(0,.sl false 2 24 (rows A0.cells a0)),(1,.str a1),(2,.fn 57 [] []),(8,.int .i64 (↑a0.length:Int)),(9,.int .i64 s0.2),(10,.int .i64 s0.1)])
  (fun(gs0:Unit) (s0:Int×Int)=>st)
  (fun(gt0:Unit) (t0:Int)=>[(0,.sl false 2 24 (rows A0.cells a0)),(1,.str a1),(2,.fn 57 [] []),(8,.int .i64 (↑a0.length:Int)),(9,.int .i64 t0)])
  (fun(gt0:Unit) (t0:Int)=>st)
  () h (ke hsc)
  (fun gs0 s0 b0 h hx0=>?_) (fun gt0 t0 fr1 st1 h hb=>?_)
 ·unfold E6 at h
  refine cd h (fun hc h=>?_) fun hc h=>?_
  ·obtain⟨fx,h⟩:=ck fx h
   refine cl h (kc _ _) fun v6 h=>?_
   refine cd h (fun hc h=>?_) fun hc h=>?_
   ·refine rn ?_
    cases h
    exact bS () (ke hsc)
   ·refine rn ?_
    cases h
    exact bS () (ke hsc)
  ·refine rn ?_
   cases h
   exact fP () (ke hsc)
 ·try simp only[go_sem,fx]
  unfold E7 at h
  refine L6 hb ?_
  obtain⟨fx,h⟩:=ck fx h
  refine rn ?_
  obtain⟨v10,hv10,h⟩:=J5 h
  refine bR (fun hG=>(kc _ _ _ (qh hv10 (by simpa using hG)))) ?_
  exact rt
theorem ij(n:Nat)(a0:B4)(a1:Bs)(r:Int×Bool)(h:S1 n a0 a1=some r):Pure Tryz.prog gl 33 [.agg [.int .i64 a0.size,.sl false 2 24 (rows A0.cells a0.constants),.sl false 3 48 (rows w7.cells a0.relations)],.str a1] (.tup [.int .i64 r.1,.bool r.2]):=by
 intro st
 unfold S1 at h
 have fx:=trivial
 refine fb 23 [.tmp 4,.tmp 5] [0,1,2,4,5,6,7,16] Tryz.func33 fun hsc=>?_
 refine cl h (S2 n _ _) fun v1 h=>?_
 refine cd h (fun hc h=>?_) fun hc h=>?_
 ·exact rt
 ·obtain⟨fx,h⟩:=ck fx h
  exact rt
theorem O7(n:Nat)(a0:(List w7))(a1:w7)(r:Int×Bool)(h:C9 n a0 a1=some r):Pure Tryz.prog gl 58 [.sl false 3 48 (rows w7.cells a0),.agg [.str a1.name,.int .i64 a1.arity,.sl false 1 24 (rows (slc 1 8 K7) a1.tuples)],.fn 16 [] []] (.tup [.int .i64 r.1,.bool r.2]):=by
 intro st
 unfold C9 at h
 have fx:=trivial
 refine fb 49 [.tmp 6,.tmp 7] [0,1,2,4,6,7,8,9,10,11,17,31,40,41,42,43,44,45,46,47] Tryz.func58 fun hsc=>?_
 refine rn ?_
 refine Z7 (body:=D7 a0 a1) (kk:=D8 a0 a1) (n:=n) (s0:=((↑a0.length:Int),0))
  (fun(gs0:Unit) (s0:Int×Int)=>[(0,.sl false 3 48 (rows w7.cells a0)),(2,.fn 16 [] []),(4,.ptr st.length 0 0 0),(8,.int .i64 (↑a0.length:Int)),(9,.int .i64 s0.2),(10,.int .i64 s0.1)])
  (fun(gs0:Unit) (s0:Int×Int)=>st++[some (.arr 0 3 0 [[.str a1.name,.int .i64 a1.arity,.sl false 1 24 (rows (slc 1 8 K7) a1.tuples)]])])
  (fun(gt0:Unit) (t0:Int)=>[(0,.sl false 3 48 (rows w7.cells a0)),(2,.fn 16 [] []),(4,.ptr st.length 0 0 0),(8,.int .i64 (↑a0.length:Int)),(9,.int .i64 t0)])
  (fun(gt0:Unit) (t0:Int)=>st++[some (.arr 0 3 0 [[.str a1.name,.int .i64 a1.arity,.sl false 1 24 (rows (slc 1 8 K7) a1.tuples)]])])
  () h (bm hsc)
  (fun gs0 s0 b0 h hx0=>?_) (fun gt0 t0 fr1 st1 h hb=>?_)
 ·unfold D7 at h
  refine cd h (fun hc h=>?_) fun hc h=>?_
  ·refine rn ?_
   obtain⟨fx,h⟩:=ck fx h
   refine dw [] 0 ?_
   obtain⟨v6,hv6,h⟩:=J5 h
   refine Q0 (iY _ _ _ hv6) ?_
   try simp only[go_sem,fx]
   refine cd h (fun hc h=>?_) fun hc h=>?_
   ·refine rn ?_
    cases h
    exact bS () (bm hsc)
   ·refine rn ?_
    cases h
    exact bS () (bm hsc)
  ·refine rn ?_
   cases h
   exact fP () (bm hsc)
 ·try simp only[go_sem,fx]
  unfold D8 at h
  refine L6 hb ?_
  refine rs ?_
  obtain⟨fx,h⟩:=ck fx h
  refine dw [] 0 ?_
  obtain⟨v10,hv10,h⟩:=J5 h
  refine oC (fun hG=>(iY _ _ _ (qh hv10 (by simpa using hG)))) ?_
  try simp only[go_sem,fx]
  exact rt
theorem lW(n:Nat)(a0:B4)(a1:Bs)(a2:Int)(r:w7×Bool)(h:eW n a0 a1 a2=some r):Pure Tryz.prog gl 35 [.agg [.int .i64 a0.size,.sl false 2 24 (rows A0.cells a0.constants),.sl false 3 48 (rows w7.cells a0.relations)],.str a1,.int .i64 a2] (.tup [.agg [.str r.1.name,.int .i64 r.1.arity,.sl false 1 24 (rows (slc 1 8 K7) r.1.tuples)],.bool r.2]):=by
 intro st
 unfold eW at h
 have fx:=trivial
 refine fb 27 [.cell 6 36,.tmp 7] [0,1,2,3,6,7,8,9,20] Tryz.func35 fun hsc=>?_
 refine cl h (up (O7 n _ _) (fun _=>(.cons _ _ _ _ .s (.cons _ _ _ _ (.agg _ _ (.cons _ _ _ _ .s (.cons _ _ _ _ .s (.cons _ _ _ _ (.B2 _ _ _ (by decide)) .nil)))) (.cons _ _ _ _ .s .nil))))) fun v1 h=>?_
 refine cd h (fun hc h=>?_) fun hc h=>?_
 ·refine rr ?_
  exact fo (.tup [.agg [.str [],.int .i64 0,.sl false 1 24 (rows (slc 1 8 K7) [])],.bool false]) (.tup _ _ (.cons _ _ _ _ (.agg _ _ (.cons _ _ _ _ .s (.cons _ _ _ _ .s (.cons _ _ _ _ (.B2 _ _ _ (by decide)) .nil)))) (.cons _ _ _ _ .s .nil)) rfl) h hsc
 ·obtain⟨fx,h⟩:=ck fx h
  exact rt
theorem uh:∀(n:Nat) (a0:u5) (B7:Int) (I8:(List A0)) (I9:(List w7)) (r:Bool) (h:Y5 n a0 B7 I8 I9=some r),∀(st:St) (o0 o1:Nat) (hnd: [o0,o1].Nodup) (G2:Am.look st o0=some (.arr 0 3 0 [[.int .i64 B7,.sl false 2 24 (rows A0.cells I8),.sl false 3 48 (rows w7.cells I9)]])) (P9:Am.look st o1=some (.arr 0 1 0 [[.fn 34 [] [.ptr o0 0 0 0,.ptr o1 0 0 0]]])),Am.Spec Tryz.prog gl 34 [.agg [.int .i64 a0.kind,.str a0.name,.sl false 1 16 (rows w8 a0.words),.sl false 4 72 (rows u5.cells a0.subs)],.ptr o0 0 0 0,.ptr o1 0 0 0] st (fun d st'=>d= .bool r∧st'=puts st []):=by
 intro n
 induction n with
 |zero=>intro a0 B7 I8 I9 r h;cases h
 |succ n ih=>
  intro a0 B7 I8 I9 r h st o0 o1 hnd G2 P9
  unfold Y5 at h
  have ho0:=B5 G2
  have ho1:=B5 P9
  have fx:=fa (fa (idf ho0) (idf ho1)) (nd2 hnd)
  refine fb 36 [.tmp 4] [0,1,2,3,4,6,8,11,23,25,26,27,28,34] Tryz.func34 fun hsc=>?_
  refine T6 (s':=(C0 st [(o0,(.arr 0 3 0 [[.int .i64 B7,.sl false 2 24 (rows A0.cells I8),.sl false 3 48 (rows w7.cells I9)]])),(o1,(.arr 0 1 0 [[.fn 34 [] [.ptr o0 0 0 0,.ptr o1 0 0 0]]]))])) (B6 (by simp[G2,P9])) ?_
  refine rn ?_
  refine cR (bw (Y5 n) a0 B7 I8 I9) r (fun(gj0:Unit) (j0:Unit)=>[(2,.ptr o1 0 0 0),(3,.ptr st.length 0 0 0)]) (fun(gj0:Unit) (j0:Unit)=>(C0 st [(o0,(.arr 0 3 0 [[.int .i64 B7,.sl false 2 24 (rows A0.cells I8),.sl false 3 48 (rows w7.cells I9)]])),(o1,(.arr 0 1 0 [[.fn 34 [] [.ptr o0 0 0 0,.ptr o1 0 0 0]]]))])++[some (.arr 0 4 0 [[.int .i64 a0.kind,.str a0.name,.sl false 1 16 (rows w8 a0.words),.sl false 4 72 (rows u5.cells a0.subs)]])]) (fun gj0 j0 fr1 st1 h hb=>?_) (fun hj0=>?_)
  ·try simp only[go_sem,fx]
   unfold bw at h
   refine L6 hb ?_
   refine aln 25 fun hl1=>?_
   refine rng (body:=gJ (Y5 n) a0 B7 I8 I9) (kk:=gK) (n:=a0.subs.length) (s0:=())
    (fun(gs1:Unit) (k1:Nat) (s1:Unit)=>[(2,.ptr o1 0 0 0),(25,.sl false 4 72 (rows u5.cells a0.subs)),(26,.int .i64 (↑a0.subs.length:Int)),(27,.int .i64 (↑k1:Int))])
    (fun(gs1:Unit) (k1:Nat) (s1:Unit)=>(C0 st [(o0,(.arr 0 3 0 [[.int .i64 B7,.sl false 2 24 (rows A0.cells I8),.sl false 3 48 (rows w7.cells I9)]])),(o1,(.arr 0 1 0 [[.fn 34 [] [.ptr o0 0 0 0,.ptr o1 0 0 0]]]))]))
    (fun(gt1:Unit) (t1:Unit)=>[])
    (fun(gt1:Unit) (t1:Unit)=>(C0 st [(o0,(.arr 0 3 0 [[.int .i64 B7,.sl false 2 24 (rows A0.cells I8),.sl false 3 48 (rows w7.cells I9)]])),(o1,(.arr 0 1 0 [[.fn 34 [] [.ptr o0 0 0 0,.ptr o1 0 0 0]]]))]))
    () fx hl1 h (bu0 hsc)
    (fun gs1 k1 s1 b1 fx h hx1=>?_) (fun gs1 s1=>?_) (fun gt1 t1 fr1 st1 h hb=>?_)
   ·unfold gJ at h
    refine ct ?_
    refine rn ?_
    obtain⟨v2,hv2,h⟩:=J5 h
    refine(ih _ _ _ _ _ hv2 _ _ _ hnd (by simp only[go_sem,fx]) (by simp only[go_sem,fx])).mono ?_
    rintro d1 st1 ⟨rfl,rfl⟩
    refine cd h (fun hc h=>?_) fun hc h=>?_
    ·refine ra ?_
     cases h
     refine E3 ?_;have h:=congrArg some (hx1 _ rfl)
     refine rr ?_
     exact fuo (.bool false) (.same _) h hsc (hr:=by rintro rfl;exact⟨rfl,B6 (by simp[G2,P9])⟩)
    ·refine rn ?_
     cases h
     exact cj () (bu0 hsc)
   ·refine cf ?_
    refine cM ?_;simp only[go_sem,fx]
    exact⟨(),(wR hsc)⟩
   ·try simp only[go_sem,fx]
    unfold gK at h
    refine L6 hb ?_
    refine rr ?_
    exact fus (.bool true) (.same _) h hsc (hr:=by rintro rfl;exact⟨rfl,B6 (by simp[G2,P9])⟩)
  ·refine cd h (fun hc h=>?_) fun hc h=>?_
   ·refine cl h (lW n _ _ _) fun v1 h=>?_
    refine cd h (fun hc h=>?_) fun hc h=>?_
    ·refine rr ?_
     exact fuo (.bool false) (.same _) h hsc (hr:=by rintro rfl;exact⟨rfl,B6 (by simp[G2,P9])⟩)
    ·refine r0 ?_
     refine hj0 () _ _ _ h ?_;exact(bu hsc)
   ·refine r0 ?_
    refine hj0 () _ _ _ h ?_;exact(bu hsc)
theorem wO(n:Nat)(a0:B4)(a1:u5)(r:B0)(h:jX n a0 a1=some r):Pure Tryz.prog gl 21 [.agg [.int .i64 a0.size,.sl false 2 24 (rows A0.cells a0.constants),.sl false 3 48 (rows w7.cells a0.relations)],.agg [.int .i64 a1.kind,.str a1.name,.sl false 1 16 (rows w8 a1.words),.sl false 4 72 (rows u5.cells a1.subs)]] (.agg [.int .i64 r.code,.int .i64 r.index]):=by
 intro st
 unfold jX at h
 have fx:=trivial
 refine fb 38 [.cell 4 32] [0,1,2,3,4,6,8,9,12,15,16,17,18,28,35] Tryz.func21 fun hsc=>?_
 refine cl h (yJ n _) fun v1 h=>?_
 refine cd h (fun hc h=>?_) fun hc h=>?_
 ·exact rt
 ·refine cl h (dV n _) fun v2 h=>?_
  refine aln 15 fun hl0=>?_
  refine rng (body:=iC n a0 v2) (kk:=iD n a1 a0) (n:=v2.length) (s0:=())
   (fun(gs0:Unit) (k0:Nat) (s0:Unit)=>[(2,.ptr st.length 0 0 0),(3,.ptr (st.length+1) 0 0 0),(4,.ptr (st.length+2) 0 0 0),(15,.sl false 1 16 (rows w8 v2)),(16,.int .i64 (↑v2.length:Int)),(17,.int .i64 (↑k0:Int))])
   (fun(gs0:Unit) (k0:Nat) (s0:Unit)=>st++[some (.arr 0 3 0 [[.int .i64 a0.size,.sl false 2 24 (rows A0.cells a0.constants),.sl false 3 48 (rows w7.cells a0.relations)]]),some (.arr 0 4 0 [[.int .i64 a1.kind,.str a1.name,.sl false 1 16 (rows w8 a1.words),.sl false 4 72 (rows u5.cells a1.subs)]]),some (.arr 0 2 0 [[.int .i64 0,.int .i64 0]])])
   (fun(gt0:Unit) (t0:Unit)=>[(2,.ptr st.length 0 0 0),(3,.ptr (st.length+1) 0 0 0),(4,.ptr (st.length+2) 0 0 0)])
   (fun(gt0:Unit) (t0:Unit)=>st++[some (.arr 0 3 0 [[.int .i64 a0.size,.sl false 2 24 (rows A0.cells a0.constants),.sl false 3 48 (rows w7.cells a0.relations)]]),some (.arr 0 4 0 [[.int .i64 a1.kind,.str a1.name,.sl false 1 16 (rows w8 a1.words),.sl false 4 72 (rows u5.cells a1.subs)]]),some (.arr 0 2 0 [[.int .i64 0,.int .i64 0]])])
   () fx hl0 h (bm hsc)
   (fun gs0 k0 s0 b0 fx h hx0=>?_) (fun gs0 s0=>?_) (fun gt0 t0 fr1 st1 h hb=>?_)
  ·unfold iC at h
   refine ct ?_
   refine cl h (ij n _ _) fun v3 h=>?_
   refine cd h (fun hc h=>?_) fun hc h=>?_
   ·refine ra ?_
    cases h
    refine E3 ?_;have h:=congrArg some (hx0 _ rfl)
    exact rt
   ·refine rn ?_
    cases h
    exact cj () (bm hsc)
  ·refine cf ?_
   refine cM ?_;simp only[go_sem,fx]
   exact⟨(),(bm hsc)⟩
  ·try simp only[go_sem,fx]
   unfold iD at h
   refine L6 hb ?_
   refine rn ?_
   obtain⟨v4,hv4,h⟩:=J5 h
   refine(uh n _ _ _ _ _ hv4 _ _ _ (by simp) (V9.trans rfl) (eM.trans rfl)).mono ?_
   rintro d1 st1 ⟨rfl,rfl⟩
   refine cd h (fun hc h=>?_) fun hc h=>?_
   ·exact rt
   ·exact rt
theorem jG(n:Nat)(a0:Bs)(B7:(List B9))(P5:Int)(mK:(List A0))(mL:(List w7))(r:Int)(h:bX n a0 B7 P5 mK mL=some r):∀(st:St) (o0 o1:Nat) (hnd: [o0,o1].Nodup) (G2:Am.look st o0=some (.arr 0 1 0 [[.sl false 2 24 (rows B9.cells B7)]])) (P9:Am.look st o1=some (.arr 0 3 0 [[.int .i64 P5,.sl false 2 24 (rows A0.cells mK),.sl false 3 48 (rows w7.cells mL)]])),Am.Spec Tryz.prog gl 36 [.str a0,.ptr o0 0 0 0,.ptr o1 0 0 0] st (fun d st'=>d= .int .i64 r∧st'=puts st []):=by
 intro st o0 o1 hnd G2 P9
 unfold bX at h
 have ho0:=B5 G2
 have ho1:=B5 P9
 have fx:=fa (fa (idf ho0) (idf ho1)) (nd2 hnd)
 refine fb 34 [.tmp 4] [0,1,2,4,5,6,12,21] Tryz.func36 fun hsc=>?_
 refine T6 (s':=(C0 st [(o0,(.arr 0 1 0 [[.sl false 2 24 (rows B9.cells B7)]])),(o1,(.arr 0 3 0 [[.int .i64 P5,.sl false 2 24 (rows A0.cells mK),.sl false 3 48 (rows w7.cells mL)]]))])) (B6 (by simp[G2,P9])) ?_
 refine rn ?_
 refine Z7 (body:=gH B7 a0) (kk:=gI n P5 mK mL a0) (n:=n) (s0:=(wr .i64 ((↑B7.length:Int)-1)))
  (fun(gs0:Unit) (s0:Int)=>[(0,.str a0),(1,.ptr o0 0 0 0),(2,.ptr o1 0 0 0),(5,.int .i64 s0)])
  (fun(gs0:Unit) (s0:Int)=>(C0 st [(o0,(.arr 0 1 0 [[.sl false 2 24 (rows B9.cells B7)]])),(o1,(.arr 0 3 0 [[.int .i64 P5,.sl false 2 24 (rows A0.cells mK),.sl false 3 48 (rows w7.cells mL)]]))]))
  (fun(gt0:Unit) (t0:Unit)=>[(0,.str a0),(2,.ptr o1 0 0 0)])
  (fun(gt0:Unit) (t0:Unit)=>(C0 st [(o0,(.arr 0 1 0 [[.sl false 2 24 (rows B9.cells B7)]])),(o1,(.arr 0 3 0 [[.int .i64 P5,.sl false 2 24 (rows A0.cells mK),.sl false 3 48 (rows w7.cells mL)]]))]))
  () h (wR hsc)
  (fun gs0 s0 b0 h hx0=>?_) (fun gt0 t0 fr1 st1 h hb=>?_)
 ·unfold gH at h
  refine cd h (fun hc h=>?_) fun hc h=>?_
  ·obtain⟨fx,h⟩:=ck fx h
   refine cd h (fun hc h=>?_) fun hc h=>?_
   ·refine ra ?_
    cases h
    refine lF ?_;have h:=congrArg some (hx0 _ rfl)
    refine rr ?_
    exact fus (.int .i64 ((get B7 s0.toNat).value)) (.same _) h hsc (hr:=by rintro rfl;exact⟨rfl,B6 (by simp[G2,P9])⟩)
   ·refine rn ?_
    cases h
    exact bS () (wR hsc)
  ·refine rn ?_
   cases h
   exact fP () (wR hsc)
 ·try simp only[go_sem,fx]
  unfold gI at h
  refine L6 hb ?_
  refine cl h (ij n _ _) fun v5 h=>?_
  refine rr ?_
  exact fus (.int .i64 v5.1) (.same _) h hsc (hr:=by rintro rfl;exact⟨rfl,B6 (by simp[G2,P9])⟩)
end Go.Proofs.YtanlbioodbnakaaGreatDoor
