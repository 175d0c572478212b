import Derived.Test.YtfacbpehlibilaaGreatDoorTVWalk6
set_option linter.unusedVariables false
set_option linter.unusedSimpArgs false
set_option maxHeartbeats 2000000
set_option maxRecDepth 100000
namespace Go.Proofs.YtfacbpehlibilaaGreatDoor
open Go Go.Am
set_option maxHeartbeats 30000000 in
set_option maxRecDepth 100000 in
theorem u8R(r5l:(p6w)→(Bs)→((List r4V))→(Int)→((List (Bs×Int)))→((List r4W))→Option (r4Z×Bool×Int×(List r4W)))(u0X:∀(a1:p6w) (a2:Bs) (r5q:(List r4V)) (r5T:Int) (m1:(List (Bs×Int))) (l2:(List r4W)) (r:r4Z×Bool×Int×(List r4W)) (h:r5l a1 a2 r5q r5T m1 l2=some r),∀(st:St) (o0 o1 o2 q2:Nat) (hnd: [o0,o1,o2].Nodup) (r6Q:Am.look st o0=some (.arr 0 4 0 [[.sl false 11 216 (rows r4V.cells r5q),.mp o1,.ref false o2 (q2+l2.length) 0 l2.length,.int .i64 r5T]])) (r9o:Am.look st o1=some (.mps false (mrw u0I m1))) (u1s:Am.look st o2=some (.arr (q2+l2.length) 2 16 (rows r4W.cells l2))),Am.Spec Tryz.prog gl 65 [.ptr o0 0 0 0,.agg [.int .i64 a1.kind,.str a1.name,.sl false 1 16 (rows r4X a1.words),.sl false 4 72 (rows p6w.cells a1.subs)],.str a2] st (fun d st'=>d= .tup [.agg [.int .i64 r.1.form.kind,.str r.1.form.name,.sl false 1 16 (rows r4X r.1.form.words),.sl false 4 72 (rows p6w.cells r.1.form.subs),.int .i64 r.1.nodes,.int .i64 r.1.depth],.bool r.2.1]∧st'=puts st [(o0,(.arr 0 4 0 [[.sl false 11 216 (rows r4V.cells r5q),.mp o1,.ref false o2 (q2+r.2.2.2.length) 0 r.2.2.2.length,.int .i64 r.2.2.1]])),(o1,(.mps false (mrw u0I m1))),(o2,(.arr (q2+r.2.2.2.length) 2 16 (rows r4W.cells r.2.2.2)))]))(n:Nat)(a1:r4V)(a2:(List r4Y))(a3:Bs)(r5q:(List r4V))(r5T:Int)(m1:(List (Bs×Int)))(l2:(List r4W))(r:r4Z×Bool×Int×(List r4W))(h:u4X r5l n a1 a2 a3 r5q r5T m1 l2=some r):∀(st:St) (o0 o1 o2 q2:Nat) (hnd: [o0,o1,o2].Nodup) (r6Q:Am.look st o0=some (.arr 0 4 0 [[.sl false 11 216 (rows r4V.cells r5q),.mp o1,.ref false o2 (q2+l2.length) 0 l2.length,.int .i64 r5T]])) (r9o:Am.look st o1=some (.mps false (mrw u0I m1))) (u1s:Am.look st o2=some (.arr (q2+l2.length) 2 16 (rows r4W.cells l2))),Am.Spec Tryz.prog gl 90 [.ptr o0 0 0 0,.agg [.int .i64 a1.from_.form.kind,.str a1.from_.form.name,.sl false 1 16 (rows r4X a1.from_.form.words),.sl false 4 72 (rows p6w.cells a1.from_.form.subs),.sl false 1 16 (rows r4X a1.from_.words),.sl false 1 16 (rows r4X a1.from_.r5o),.sl false 1 16 (rows r4X a1.from_.parts),.int .i64 a1.to_.kind,.str a1.to_.name,.sl false 1 16 (rows r4X a1.to_.words),.sl false 4 72 (rows p6w.cells a1.to_.subs)],.sl false 6 104 (rows r4Y.cells a2),.str a3] st (fun d st'=>d= .tup [.agg [.int .i64 r.1.form.kind,.str r.1.form.name,.sl false 1 16 (rows r4X r.1.form.words),.sl false 4 72 (rows p6w.cells r.1.form.subs),.int .i64 r.1.nodes,.int .i64 r.1.depth],.bool r.2.1]∧st'=puts st [(o0,(.arr 0 4 0 [[.sl false 11 216 (rows r4V.cells r5q),.mp o1,.ref false o2 (q2+r.2.2.2.length) 0 r.2.2.2.length,.int .i64 r.2.2.1]])),(o1,(.mps false (mrw u0I m1))),(o2,(.arr (q2+r.2.2.2.length) 2 16 (rows r4W.cells r.2.2.2)))]):=by
 intro st o0 o1 o2 q2 hnd r6Q r9o u1s
 unfold u4X at h
 have ho0:=r5h r6Q
 have ho1:=r5h r9o
 have ho2:=r5h u1s
 have fx:=fa (fa (fa (idf ho0) (idf ho1)) (idf ho2)) (nd3 hnd)
 refine fb 74 [.cell 8 102,.tmp 9] [0,1,2,3,4,5,6,7,8,9,10,11,12,13,14,16,17,18,19,35,36,37,38,57] Tryz.func90 fun hsc=>?_
 refine r8l (s':=(r5k st [(o0,(.arr 0 4 0 [[.sl false 11 216 (rows r4V.cells r5q),.mp o1,.ref false o2 (q2+l2.length) 0 l2.length,.int .i64 r5T]])),(o1,(.mps false (mrw u0I m1))),(o2,(.arr (q2+l2.length) 2 16 (rows r4W.cells l2)))])) (r5p (by simp[r6Q,r9o,u1s])) ?_
 refine rn ?_
 refine dw [6,7,10,11,15,16] 3 ?_
 try refine⟨by first|omega|(simp<;>omega),?_⟩
 refine cl h (r6N n _) fun v1 h=>?_
 refine aln 35 fun hl0=>?_
 refine rng (body:=u2T a1 a2 v1 r5q m1 l2) (kk:=u2U r5l n a1 a2 r5q m1 l2 a3) (n:=v1.length) (s0:=(r5T,[]))
  (fun(gs0:Unit) (k0:Nat) (s0:Int×(List (Bs×Bs)))=>[(4,.ptr st.length 0 0 0),(5,.ptr (st.length+1) 0 0 0),(6,.ptr (st.length+2) 0 0 0),(7,.ptr (st.length+3) 0 0 0),(8,.ptr (st.length+4) 0 0 0),(10,.ptr (st.length+5) 0 0 0),(11,.ptr (st.length+6) 0 0 0),(12,.ptr (st.length+7) 0 0 0),(13,.ptr (st.length+8) 0 0 0),(14,.ptr (st.length+10) 0 0 0),(35,.sl false 1 16 (rows r4X v1)),(36,.int .i64 (↑v1.length:Int)),(37,.int .i64 (↑k0:Int))])
  (fun(gs0:Unit) (k0:Nat) (s0:Int×(List (Bs×Bs)))=>(r5k st [(o0,(.arr 0 4 0 [[.sl false 11 216 (rows r4V.cells r5q),.mp o1,.ref false o2 (q2+l2.length) 0 l2.length,.int .i64 s0.1]])),(o1,(.mps false (mrw u0I m1))),(o2,(.arr (q2+l2.length) 2 16 (rows r4W.cells l2)))])++[some (.arr 0 1 0 [[.ptr o0 0 0 0]]),some (.arr 0 11 0 [[.int .i64 a1.from_.form.kind,.str a1.from_.form.name,.sl false 1 16 (rows r4X a1.from_.form.words),.sl false 4 72 (rows p6w.cells a1.from_.form.subs),.sl false 1 16 (rows r4X a1.from_.words),.sl false 1 16 (rows r4X a1.from_.r5o),.sl false 1 16 (rows r4X a1.from_.parts),.int .i64 a1.to_.kind,.str a1.to_.name,.sl false 1 16 (rows r4X a1.to_.words),.sl false 4 72 (rows p6w.cells a1.to_.subs)]]),some (.arr 0 1 0 [[.sl false 6 104 (rows r4Y.cells a2)]]),some (.arr 0 1 0 [[.str a3]]),some (.arr 0 6 0 [[.int .i64 0,.str [],.r5g,.r5g,.int .i64 0,.int .i64 0]]),some (.arr 0 1 0 [[.int .i64 (↑a1.from_.words.length:Int)]]),some (.arr 0 1 0 [[.int .i64 (↑a1.from_.r5o.length:Int)]]),some (.arr 0 1 0 [[.int .i64 (↑a1.from_.parts.length:Int)]]),some (.arr 0 1 0 [[.fn 112 [] []]]),some (.mps false (mrw r4X s0.2)),some (.arr 0 1 0 [[.mp (st.length+9)]])])
  (fun(gt0:Unit) (t0:Int×(List (Bs×Bs)))=>[(4,.ptr st.length 0 0 0),(5,.ptr (st.length+1) 0 0 0),(6,.ptr (st.length+2) 0 0 0),(7,.ptr (st.length+3) 0 0 0),(8,.ptr (st.length+4) 0 0 0),(10,.ptr (st.length+5) 0 0 0),(11,.ptr (st.length+6) 0 0 0),(12,.ptr (st.length+7) 0 0 0),(13,.ptr (st.length+8) 0 0 0),(14,.ptr (st.length+10) 0 0 0)])
  (fun(gt0:Unit) (t0:Int×(List (Bs×Bs)))=>(r5k st [(o0,(.arr 0 4 0 [[.sl false 11 216 (rows r4V.cells r5q),.mp o1,.ref false o2 (q2+l2.length) 0 l2.length,.int .i64 t0.1]])),(o1,(.mps false (mrw u0I m1))),(o2,(.arr (q2+l2.length) 2 16 (rows r4W.cells l2)))])++[some (.arr 0 1 0 [[.ptr o0 0 0 0]]),some (.arr 0 11 0 [[.int .i64 a1.from_.form.kind,.str a1.from_.form.name,.sl false 1 16 (rows r4X a1.from_.form.words),.sl false 4 72 (rows p6w.cells a1.from_.form.subs),.sl false 1 16 (rows r4X a1.from_.words),.sl false 1 16 (rows r4X a1.from_.r5o),.sl false 1 16 (rows r4X a1.from_.parts),.int .i64 a1.to_.kind,.str a1.to_.name,.sl false 1 16 (rows r4X a1.to_.words),.sl false 4 72 (rows p6w.cells a1.to_.subs)]]),some (.arr 0 1 0 [[.sl false 6 104 (rows r4Y.cells a2)]]),some (.arr 0 1 0 [[.str a3]]),some (.arr 0 6 0 [[.int .i64 0,.str [],.r5g,.r5g,.int .i64 0,.int .i64 0]]),some (.arr 0 1 0 [[.int .i64 (↑a1.from_.words.length:Int)]]),some (.arr 0 1 0 [[.int .i64 (↑a1.from_.r5o.length:Int)]]),some (.arr 0 1 0 [[.int .i64 (↑a1.from_.parts.length:Int)]]),some (.arr 0 1 0 [[.fn 112 [] []]]),some (.mps false (mrw r4X t0.2)),some (.arr 0 1 0 [[.mp (st.length+9)]])])
  () fx hl0 h (bu hsc)
  (fun gs0 k0 s0 b0 fx h hx0=>?_) (fun gs0 s0=>?_) (fun gt0 t0 fr1 st1 h hb=>?_)
 ·unfold u2T at h
  refine ct ?_
  refine rn ?_
  obtain⟨fx,h⟩:=ck fx h
  refine dw [] 0 ?_
  obtain⟨v13,hv13,h⟩:=r7G h
  refine r8U (u2J _ _ _ hv13) ?_
  obtain⟨c14,x5G,h⟩:=u2v h
  have fy:=(show r5j (get v1 k0) [.str v13] (mrw r4X s0.2)=mrw r4X c14 from by rw[x5G];exact u4W (κ:=Bs) (E:=r4X) (get v1 k0) v13 s0.2)
  try simp only[go_sem,fx,fy]
  refine cd h (fun hc h=>?_) fun hc h=>?_
  ·refine rs ?_
   refine dw [0,3] 0 ?_
   obtain⟨v16,hv16,h⟩:=r7G h
   refine u2j [o0,o1,o2] (fun st2 h2=>(u2I _ _ _ _ _ hv16 st2 _ _ _ (q2+l2.length) hnd ((h2 _ (by simp)).trans (by simp only[go_sem,fx])) ((h2 _ (by simp)).trans (by simp only[go_sem,fx])) ((h2 _ (by simp)).trans (by simp only[go_sem,fx])))) (by simp) (by simp only[List.mem_cons,List.not_mem_nil,or_false,forall_eq_or_imp,forall_eq];exact⟨⟨by first|omega|(simp<;>omega),_,(by simp only[go_sem,fx]<;>rfl),Ob.noConfusion⟩,⟨by first|omega|(simp<;>omega),_,(by simp only[go_sem,fx]<;>rfl),Ob.noConfusion⟩,⟨by first|omega|(simp<;>omega),_,(by simp only[go_sem,fx]<;>rfl),Ob.noConfusion⟩⟩) (by simp) ?_
   obtain⟨c17,y3V,h⟩:=u2v h
   have fy:=(show r5j (get v1 k0) [.str v16.1] (mrw r4X c14)=mrw r4X c17 from by rw[y3V];exact u4W (κ:=Bs) (E:=r4X) (get v1 k0) v16.1 c14)
   try simp only[go_sem,fx,fy]
   try refine⟨by first|omega|(simp<;>omega),?_⟩
   refine rn ?_
   cases h
   exact u2o () (bu hsc)
  ·refine rn ?_
   cases h
   exact u2o () (bu hsc)
 ·refine cf ?_
  refine u2n ?_;simp only[go_sem,fx]
  exact⟨(),(bu hsc)⟩
 ·try simp only[go_sem,fx]
  unfold u2U at h
  refine r6O hb ?_
  refine rn ?_
  obtain⟨v19,hv19,h⟩:=r7G h
  refine(u9y n _ _ hv19 _).mono ?_
  rintro d1 st1 ⟨rfl,rfl⟩
  refine rn ?_
  obtain⟨v20,hv20,h⟩:=r7G h
  refine x0l ((u8i r5l u0X n _ _ _ _ _ _ _ _ _ _ _ _ _ _ _ _ _ _ _ _ _ _ _ _ _ _ hv20 _ (st.length+1) (st.length+15) (st.length+14) (st.length+2) (st.length+5) (st.length+6) (st.length+7) st.length o0 o1 o2 (st.length+3) (st.length+13) (st.length+12) (st.length+10) (st.length+9) (st.length+8) (st.length+16) q2 (by simp[fx]<;>omega) (r5x.trans rfl) (r5x.trans rfl) (r5x.trans rfl) (r5x.trans rfl) (r5x.trans rfl) (r5x.trans rfl) (r5x.trans rfl) (w5S.trans rfl) (by simp only[go_sem,fx]) (by simp only[go_sem,fx]) (by simp only[go_sem,fx]) (r5x.trans rfl) (r5x.trans rfl) (r5x.trans rfl) (r5x.trans rfl) (r5x.trans rfl) (r5x.trans rfl) (r5x.trans rfl)).up (.cons _ _ _ _ .s (.cons _ _ _ _ (.r5g _ _ _ (by decide)) (.cons _ _ _ _ .s (.cons _ _ _ _ .s (.cons _ _ _ _ .s (.cons _ _ _ _ .s (.cons _ _ _ _ .s (.cons _ _ _ _ .s (.cons _ _ _ _ .s (.cons _ _ _ _ .s (.cons _ _ _ _ .s (.cons _ _ _ _ .s (.cons _ _ _ _ .s (.cons _ _ _ _ .s .nil)))))))))))))) (by simp<;>omega)) ?_
  refine rr ?_
  exact fuo (.tup [.agg [.int .i64 v20.1.form.kind,.str v20.1.form.name,.sl false 1 16 (rows r4X v20.1.form.words),.sl false 4 72 (rows p6w.cells v20.1.form.subs),.int .i64 v20.1.nodes,.int .i64 v20.1.depth],.bool v20.2.1]) (.same _) h hsc
theorem u7u:∀(n:Nat) (a1:p6w) (a2:Bs) (r5q:(List r4V)) (r5T:Int) (m1:(List (Bs×Int))) (l2:(List r4W)) (r:r4Z×Bool×Int×(List r4W)) (h:r7f n a1 a2 r5q r5T m1 l2=some r),∀(st:St) (o0 o1 o2 q2:Nat) (hnd: [o0,o1,o2].Nodup) (r6Q:Am.look st o0=some (.arr 0 4 0 [[.sl false 11 216 (rows r4V.cells r5q),.mp o1,.ref false o2 (q2+l2.length) 0 l2.length,.int .i64 r5T]])) (r9o:Am.look st o1=some (.mps false (mrw u0I m1))) (u1s:Am.look st o2=some (.arr (q2+l2.length) 2 16 (rows r4W.cells l2))),Am.Spec Tryz.prog gl 65 [.ptr o0 0 0 0,.agg [.int .i64 a1.kind,.str a1.name,.sl false 1 16 (rows r4X a1.words),.sl false 4 72 (rows p6w.cells a1.subs)],.str a2] st (fun d st'=>d= .tup [.agg [.int .i64 r.1.form.kind,.str r.1.form.name,.sl false 1 16 (rows r4X r.1.form.words),.sl false 4 72 (rows p6w.cells r.1.form.subs),.int .i64 r.1.nodes,.int .i64 r.1.depth],.bool r.2.1]∧st'=puts st [(o0,(.arr 0 4 0 [[.sl false 11 216 (rows r4V.cells r5q),.mp o1,.ref false o2 (q2+r.2.2.2.length) 0 r.2.2.2.length,.int .i64 r.2.2.1]])),(o1,(.mps false (mrw u0I m1))),(o2,(.arr (q2+r.2.2.2.length) 2 16 (rows r4W.cells r.2.2.2)))]):=by
 intro n
 induction n with
 |zero=>intro a1 a2 r5q r5T m1 l2 r h;cases h
 |succ n ih=>
  intro a1 a2 r5q r5T m1 l2 r h st o0 o1 o2 q2 hnd r6Q r9o u1s
  unfold r7f at h
  have ho0:=r5h r6Q
  have ho1:=r5h r9o
  have ho2:=r5h u1s
  have fx:=fa (fa (fa (idf ho0) (idf ho1)) (idf ho2)) (nd3 hnd)
  refine fb 116 [.cell 6 102,.tmp 7] [0,1,2,4,6,7,8,9,10,11,12,13,14,15,16,17,18,22,23,24,25,37,72,73,74,75,90] Tryz.func65 fun hsc=>?_
  refine r8l (s':=(r5k st [(o0,(.arr 0 4 0 [[.sl false 11 216 (rows r4V.cells r5q),.mp o1,.ref false o2 (q2+l2.length) 0 l2.length,.int .i64 r5T]])),(o1,(.mps false (mrw u0I m1))),(o2,(.arr (q2+l2.length) 2 16 (rows r4W.cells l2)))])) (r5p (by simp[r6Q,r9o,u1s])) ?_
  refine aln 22 fun hl0=>?_
  refine rng (body:=u2b (r7f n) n r5q a1 l2 a2 m1 r5T) (kk:=u2e (r7f n) a2 a1 r5q m1 r5T l2) (n:=r5q.length) (s0:=())
   (fun(gs0:Unit) (k0:Nat) (s0:Unit)=>[(0,.ptr o0 0 0 0),(2,.str a2),(4,.ptr st.length 0 0 0),(6,.ptr (st.length+1) 0 0 0),(22,.sl false 11 216 (rows r4V.cells r5q)),(23,.int .i64 (↑r5q.length:Int)),(24,.int .i64 (↑k0:Int))])
   (fun(gs0:Unit) (k0:Nat) (s0:Unit)=>(r5k st [(o0,(.arr 0 4 0 [[.sl false 11 216 (rows r4V.cells r5q),.mp o1,.ref false o2 (q2+l2.length) 0 l2.length,.int .i64 r5T]])),(o1,(.mps false (mrw u0I m1))),(o2,(.arr (q2+l2.length) 2 16 (rows r4W.cells l2)))])++[some (.arr 0 4 0 [[.int .i64 a1.kind,.str a1.name,.sl false 1 16 (rows r4X a1.words),.sl false 4 72 (rows p6w.cells a1.subs)]]),some (.arr 0 6 0 [[.int .i64 0,.str [],.r5g,.r5g,.int .i64 0,.int .i64 0]])])
   (fun(gt0:Unit) (t0:Unit)=>[(0,.ptr o0 0 0 0),(2,.str a2),(4,.ptr st.length 0 0 0),(6,.ptr (st.length+1) 0 0 0)])
   (fun(gt0:Unit) (t0:Unit)=>(r5k st [(o0,(.arr 0 4 0 [[.sl false 11 216 (rows r4V.cells r5q),.mp o1,.ref false o2 (q2+l2.length) 0 l2.length,.int .i64 r5T]])),(o1,(.mps false (mrw u0I m1))),(o2,(.arr (q2+l2.length) 2 16 (rows r4W.cells l2)))])++[some (.arr 0 4 0 [[.int .i64 a1.kind,.str a1.name,.sl false 1 16 (rows r4X a1.words),.sl false 4 72 (rows p6w.cells a1.subs)]]),some (.arr 0 6 0 [[.int .i64 0,.str [],.r5g,.r5g,.int .i64 0,.int .i64 0]])])
   () fx hl0 h (bu hsc)
   (fun gs0 k0 s0 b0 fx h hx0=>?_) (fun gs0 s0=>?_) (fun gt0 t0 fr1 st1 h hb=>?_)
  ·unfold u2b at h
   refine ct ?_
   refine cl h (u9x n _ _) fun v1 h=>?_
   refine cd h (fun hc h=>?_) fun hc h=>?_
   ·refine rn ?_
    cases h
    exact u2o () (bu hsc)
   ·refine rn ?_
    obtain⟨c3,hc3,h⟩:=u2v h
    have fy:=(show rows r4W.cells l2++[[.int .i64 ((assoc a2 m1).getD default),.int .i64 (↑k0:Int)]]=rows r4W.cells c3 from by rw[hc3];first|exact r5y (E:=r4W.cells) l2 [(r4W.mk ((assoc a2 m1).getD default) (↑k0:Int))]|simp only[go_sem,rows,List.map_append,List.map_cons,List.map_nil])
    have fy:=fa fy (show l2.length+1=c3.length from by rw[hc3];simp)
    obtain⟨fx,h⟩:=ck fx h
    have fy:=fa fy (show q2+l2.length+1=q2+c3.length from by rw[hc3];simp;omega)
    refine dwy [] 2 ?_
    refine rn ?_
    obtain⟨v9,hv9,h⟩:=r7G h
    refine(u8R (r7f n) ih n _ _ _ _ _ _ _ _ hv9 _ _ _ _ q2 hnd (by simp only[go_sem,fx]) (by simp only[go_sem,fx]) (by simp only[go_sem,fx])).mono ?_
    rintro d1 st1 ⟨rfl,rfl⟩
    refine ra ?_
    cases h
    refine r7h ?_;have h:=congrArg some (hx0 _ rfl)
    refine rr ?_
    exact fuo (.tup [.agg [.int .i64 v9.1.form.kind,.str v9.1.form.name,.sl false 1 16 (rows r4X v9.1.form.words),.sl false 4 72 (rows p6w.cells v9.1.form.subs),.int .i64 v9.1.nodes,.int .i64 v9.1.depth],.bool v9.2.1]) (.same _) h hsc
  ·refine cf ?_
   refine u2n ?_;simp only[go_sem,fx]
   exact⟨(),(bu hsc)⟩
  ·try simp only[go_sem,fx]
   unfold u2e at h
   refine r6O hb ?_
   refine r0 ?_
   refine r0 ?_
   refine r0 ?_
   (repeat apply sq_)
   refine r9q 6 88 ?_
   refine r9q 4 72 ?_
   try simp only[List.append_assoc,List.cons_append,List.nil_append]
   refine r6O (F:=[(0,.ptr o0 0 0 0),(2,.str a2),(6,.ptr (st.length+1) 0 0 0),(12,.ptr (st.length+2) 0 0 0),(13,.ref false (st.length+3) 0 0 0),(72,.sl false 4 72 (rows p6w.cells a1.subs)),(73,.int .i64 (↑a1.subs.length:Int)),(74,.int .i64 0)]) (T:=(r5k st [(o0,(.arr 0 4 0 [[.sl false 11 216 (rows r4V.cells r5q),.mp o1,.ref false o2 (q2+l2.length) 0 l2.length,.int .i64 r5T]])),(o1,(.mps false (mrw u0I m1))),(o2,(.arr (q2+l2.length) 2 16 (rows r4W.cells l2)))])++[some (.arr 0 4 0 [[.int .i64 a1.kind,.str a1.name,.sl false 1 16 (rows r4X a1.words),.sl false 4 72 (rows p6w.cells a1.subs)]]),some (.arr 0 6 0 [[.int .i64 0,.str [],.r5g,.r5g,.int .i64 0,.int .i64 0]]),some (.arr 0 6 0 [[.int .i64 a1.kind,.str a1.name,.sl false 1 16 (rows r4X a1.words),.ref false (st.length+4) 0 0 0,.int .i64 0,.int .i64 0]]),some (.arr 0 6 88 (rows r4Z.cells [])),some (.arr 0 4 72 (rows p6w.cells []))]) (u0G (by simp) (r7P hsc (by simp<;>omega)) (.lv (.lv (.live _ _ _ _ (.arr _ _ _ _ _ (.cons _ _ _ _ (.cons _ _ _ _ .s (.cons _ _ _ _ .s (.cons _ _ _ _ .s (.cons _ _ _ _ (.nref _ _ _ _ _ _ (r5u.trans rfl)) (.cons _ _ _ _ .s (.cons _ _ _ _ .s .nil)))))) (.same _))) (.lv (.lv (.nil _)))))) (by simp<;>omega) ⟨.s,.s,.s,.s,.nref _ _ _ _ _ _ (r5u.trans rfl),.s,.s,.s,trivial⟩ (by simp<;>omega)) ?_
   refine aln 72 fun hl1=>?_
   refine rng (body:=u2c (r7f n) a2 a1 r5q m1) (kk:=u2d a1) (n:=a1.subs.length) (s0:=(r5T,l2,[],[]))
    (fun(gs1:Nat×Nat) (k1:Nat) (s1:Int×(List r4W)×(List r4Z)×(List p6w))=>[(0,.ptr o0 0 0 0),(2,.str a2),(6,.ptr (st.length+1) 0 0 0),(12,.ptr (st.length+2) 0 0 0),(13,.ref false (st.length+3) gs1.1 0 s1.2.2.1.length),(72,.sl false 4 72 (rows p6w.cells a1.subs)),(73,.int .i64 (↑a1.subs.length:Int)),(74,.int .i64 (↑k1:Int))])
    (fun(gs1:Nat×Nat) (k1:Nat) (s1:Int×(List r4W)×(List r4Z)×(List p6w))=>(r5k st [(o0,(.arr 0 4 0 [[.sl false 11 216 (rows r4V.cells r5q),.mp o1,.ref false o2 (q2+s1.2.1.length) 0 s1.2.1.length,.int .i64 s1.1]])),(o1,(.mps false (mrw u0I m1))),(o2,(.arr (q2+s1.2.1.length) 2 16 (rows r4W.cells s1.2.1)))])++[none,some (.arr 0 6 0 [[.int .i64 0,.str [],.r5g,.r5g,.int .i64 0,.int .i64 0]]),some (.arr 0 6 0 [[.int .i64 a1.kind,.str a1.name,.sl false 1 16 (rows r4X a1.words),.ref false (st.length+4) gs1.2 0 s1.2.2.2.length,.int .i64 0,.int .i64 0]]),some (.arr gs1.1 6 88 (rows r4Z.cells s1.2.2.1)),some (.arr gs1.2 4 72 (rows p6w.cells s1.2.2.2))])
    (fun(gt1:Nat×Nat) (t1:Int×(List r4W)×(List r4Z)×(List p6w))=>[(6,.ptr (st.length+1) 0 0 0),(12,.ptr (st.length+2) 0 0 0),(13,.ref false (st.length+3) gt1.1 0 t1.2.2.1.length)])
    (fun(gt1:Nat×Nat) (t1:Int×(List r4W)×(List r4Z)×(List p6w))=>(r5k st [(o0,(.arr 0 4 0 [[.sl false 11 216 (rows r4V.cells r5q),.mp o1,.ref false o2 (q2+t1.2.1.length) 0 t1.2.1.length,.int .i64 t1.1]])),(o1,(.mps false (mrw u0I m1))),(o2,(.arr (q2+t1.2.1.length) 2 16 (rows r4W.cells t1.2.1)))])++[none,some (.arr 0 6 0 [[.int .i64 0,.str [],.r5g,.r5g,.int .i64 0,.int .i64 0]]),some (.arr 0 6 0 [[.int .i64 a1.kind,.str a1.name,.sl false 1 16 (rows r4X a1.words),.ref false (st.length+4) gt1.2 0 t1.2.2.2.length,.int .i64 0,.int .i64 0]]),some (.arr gt1.1 6 88 (rows r4Z.cells t1.2.2.1)),some (.arr gt1.2 4 72 (rows p6w.cells t1.2.2.2))])
    (0,0) fx hl1 h (bu hsc)
    (fun gs1 k1 s1 b1 fx h hx1=>?_) (fun gs1 s1=>?_) (fun gt1 t1 fr1 st1 h hb=>?_)
   ·unfold u2c at h
    refine ct ?_
    refine rn ?_
    refine dw [6] 1 ?_
    obtain⟨v25,hv25,h⟩:=r7G h
    refine r8U (w1k _ _ hv25) ?_
    obtain⟨fx,h⟩:=ck fx h
    try simp only[go_sem,fx]
    obtain⟨v27,hv27,h⟩:=r7G h
    refine u2j [o0,o1,o2] (fun st2 h2=>(ih _ _ _ _ _ _ _ hv27 st2 _ _ _ q2 hnd ((h2 _ (by simp)).trans (by simp only[go_sem,fx])) ((h2 _ (by simp)).trans (by simp only[go_sem,fx])) ((h2 _ (by simp)).trans (by simp only[go_sem,fx])))) (by simp) (by simp only[List.mem_cons,List.not_mem_nil,or_false,forall_eq_or_imp,forall_eq];exact⟨⟨by first|omega|(simp<;>omega),_,(by simp only[go_sem,fx]<;>rfl),Ob.noConfusion⟩,⟨by first|omega|(simp<;>omega),_,(by simp only[go_sem,fx]<;>rfl),Ob.noConfusion⟩,⟨by first|omega|(simp<;>omega),_,(by simp only[go_sem,fx]<;>rfl),Ob.noConfusion⟩⟩) (by simp) ?_
    try simp only[go_sem,fx]
    try refine⟨by first|omega|(simp<;>omega),?_⟩
    refine cd h (fun hc h=>?_) fun hc h=>?_
    ·refine ra ?_
     cases h
     refine r7h ?_;have h:=congrArg some (hx1 _ rfl)
     refine rr ?_
     exact fuo (.tup [.agg [.int .i64 0,.str [],.sl false 1 16 (rows r4X []),.sl false 4 72 (rows p6w.cells []),.int .i64 0,.int .i64 0],.bool false]) (.tup _ _ (.cons _ _ _ _ (.agg _ _ (.cons _ _ _ _ .s (.cons _ _ _ _ .s (.cons _ _ _ _ (.r5g _ _ _ (by decide)) (.cons _ _ _ _ (.r5g _ _ _ (by decide)) (.cons _ _ _ _ .s (.cons _ _ _ _ .s .nil))))))) (.cons _ _ _ _ .s .nil)) rfl) h hsc
    ·refine r0 ?_
     obtain⟨c29,y1J,h⟩:=u2v h
     have fy:=(show rows r4Z.cells s1.2.2.1++[[.int .i64 v27.1.form.kind,.str v27.1.form.name,.sl false 1 16 (rows r4X v27.1.form.words),.sl false 4 72 (rows p6w.cells v27.1.form.subs),.int .i64 v27.1.nodes,.int .i64 v27.1.depth]]=rows r4Z.cells c29 from by rw[y1J];first|exact r5y (E:=r4Z.cells) s1.2.2.1 [v27.1]|simp only[go_sem,rows,List.map_append,List.map_cons,List.map_nil])
     have fy:=fa fy (show s1.2.2.1.length+1=c29.length from by rw[y1J];simp)
     obtain⟨fx,h⟩:=ck fx h
     refine r1 ?_
     obtain⟨c35,x8z,h⟩:=u2v h
     have fy:=(show rows p6w.cells s1.2.2.2++[[.int .i64 v27.1.form.kind,.str v27.1.form.name,.sl false 1 16 (rows r4X v27.1.form.words),.sl false 4 72 (rows p6w.cells v27.1.form.subs)]]=rows p6w.cells c35 from by rw[x8z];first|exact r5y (E:=p6w.cells) s1.2.2.2 [v27.1.form]|simp only[go_sem,rows,List.map_append,List.map_cons,List.map_nil])
     have fy:=fa fy (show s1.2.2.2.length+1=c35.length from by rw[x8z];simp)
     obtain⟨fx,h⟩:=ck fx h
     refine r1 ?_
     refine rn ?_
     cases h
     exact u2o ((gs1.1+1),(gs1.2+1)) (bu hsc)
   ·refine cf ?_
    refine u2n ?_;simp only[go_sem,fx]
    exact⟨(gs1.1,gs1.2),(bu hsc)⟩
   ·try simp only[go_sem,fx]
    unfold u2d at h
    refine r6O hb ?_
    refine rn ?_
    obtain⟨v40,hv40,h⟩:=r7G h
    refine((u6C _ _ hv40).borrow (args:=[.ref false (st.length+3) gt1.1 0 t1.2.2.1.length]) (.cons _ _ _ _ (.ref _ _ _ _ _ _ _ _ _ (r5u.trans rfl) w4q (by decide) (u4I _) (by simp only[go_sem])) .nil) (by simp) rfl ) ?_
    refine rr ?_
    exact fuo (.tup [.agg [.int .i64 a1.kind,.str a1.name,.sl false 1 16 (rows r4X a1.words),.sl false 4 72 (rows p6w.cells t1.2.2.2),.int .i64 v40.1,.int .i64 v40.2.1],.bool v40.2.2]) (.tup _ _ (.cons _ _ _ _ (.agg _ _ (.cons _ _ _ _ .s (.cons _ _ _ _ .s (.cons _ _ _ _ .s (.cons _ _ _ _ (.ref _ _ _ _ _ _ _ _ _ (r5u.trans rfl) r9r (by decide) (u4I _) (by simp only[go_sem])) (.cons _ _ _ _ .s (.cons _ _ _ _ .s .nil))))))) (.cons _ _ _ _ .s .nil)) rfl) h hsc
theorem u1j{l r:(List r4W)}(h:r5U l=some r):r.length=l.length:=by
 unfold r5U at h
 obtain⟨_,h⟩:=x1I h
 obtain rfl:=Option.some.inj h
 exact(u2P _ _).length_eq
theorem u1t(l0:(List r4W))(r:(List r4W))(h:r5U l0=some r):∀(st:St) (o0 q0:Nat) (hnd: [o0].Nodup) (r6Q:Am.look st o0=some (.arr q0 2 16 (rows r4W.cells l0))),Am.Spec Tryz.prog gl 66 [.ref false o0 q0 0 l0.length,.fn 67 [] []] st (fun d st'=>d= .tup []∧st'=puts st [(o0,(.arr q0 2 16 (rows r4W.cells r)))]):=by
 intro st o0 q0 hnd r6Q
 unfold r5U at h
 obtain⟨hl,h⟩:=x1I h
 obtain rfl:=Option.some.inj h
 exact w8I rfl (by kernel_rfl) (fun x y=>w1l x y _ rfl) r6Q hl
theorem u9z(n:Nat)(r5q:Int)(r9d:(List Bs))(r:Bs×Int)(h:u5P n r5q r9d=some r):∀(st:St) (o0 o1:Nat) (hnd: [o0,o1].Nodup) (r6Q:Am.look st o0=some (.arr 0 1 0 [[.int .i64 r5q]])) (r9o:Am.look st o1=some (.arr 0 1 0 [[.sl false 1 16 (rows r4X r9d)]])),Am.Spec Tryz.prog gl 103 [.ptr o0 0 0 0,.ptr o1 0 0 0] st (fun d st'=>d= .str r.1∧st'=puts st [(o0,(.arr 0 1 0 [[.int .i64 r.2]])),(o1,(.arr 0 1 0 [[.sl false 1 16 (rows r4X r9d)]]))]):=by
 intro st o0 o1 hnd r6Q r9o
 unfold u5P at h
 have ho0:=r5h r6Q
 have ho1:=r5h r9o
 have fx:=fa (fa (idf ho0) (idf ho1)) (nd2 hnd)
 refine fb 14 [.tmp 2] [0,1,2,3,12] Tryz.func103 fun hsc=>?_
 refine r8l (s':=(r5k st [(o0,(.arr 0 1 0 [[.int .i64 r5q]])),(o1,(.arr 0 1 0 [[.sl false 1 16 (rows r4X r9d)]]))])) (r5p (by simp[r6Q,r9o])) ?_
 refine rn ?_
 refine r5M (body:=u3F r9d) (kk:=u3G) (n:=n) (s0:=r5q)
  (fun(gs0:Unit) (s0:Int)=>[(0,.ptr o0 0 0 0),(1,.ptr o1 0 0 0)])
  (fun(gs0:Unit) (s0:Int)=>(r5k st [(o0,(.arr 0 1 0 [[.int .i64 s0]])),(o1,(.arr 0 1 0 [[.sl false 1 16 (rows r4X r9d)]]))]))
  (fun(gt0:Unit) (t0:Unit)=>[])
  (fun(gt0:Unit) (t0:Unit)=>(r5k st [(o0,(.arr 0 1 0 [[.int .i64 r5q]])),(o1,(.arr 0 1 0 [[.sl false 1 16 (rows r4X r9d)]]))]))
  () h (w6U hsc)
  (fun gs0 s0 b0 h hx0=>?_) (fun gt0 t0 fr1 st1 h hb=>?_)
 ·unfold u3F at h
  refine cl h (w1k _) fun v4 h=>?_
  obtain⟨fx,h⟩:=ck fx h
  refine cl h (r5f _ _) fun v6 h=>?_
  refine cd h (fun hc h=>?_) fun hc h=>?_
  ·refine ra ?_
   cases h
   refine u0d ?_;have h:=congrArg some (hx0 _ rfl)
   refine rr ?_
   exact fus (.str (w1q [118] v4)) (.same _) h hsc
  ·refine rn ?_
   cases h
   exact r6h () (w6U hsc)
 ·try simp only[go_sem,fx]
  unfold u3G at h
  cases h
end Go.Proofs.YtfacbpehlibilaaGreatDoor
