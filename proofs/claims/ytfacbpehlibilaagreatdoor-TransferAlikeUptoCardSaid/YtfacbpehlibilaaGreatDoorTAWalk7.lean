import Derived.Test.YtfacbpehlibilaaGreatDoorTAWalk6
set_option linter.unusedVariables false
set_option linter.unusedSimpArgs false
set_option maxHeartbeats 2000000
set_option maxRecDepth 100000
namespace Go.Proofs.YtfacbpehlibilaaGreatDoor
open Go Go.Am
set_option maxHeartbeats 30000000 in
set_option maxRecDepth 100000 in
theorem d8y(WD:(Lr)→(Bs)→((List Wq))→(Int)→((List (Bs×Int)))→((List Wp))→Option (Wr×Bool×Int×(List Wp)))(d1B:∀(a1:Lr) (a2:Bs) (WH:(List Wq)) (Xf:Int) (m1:(List (Bs×Int))) (l2:(List Wp)) (r:Wr×Bool×Int×(List Wp)) (h:WD a1 a2 WH Xf m1 l2=some r),∀(st:St) (o0 o1 o2 q2:Nat) (hnd: [o0,o1,o2].Nodup) (XZ:Am.look st o0=some (.arr 0 4 0 [[.sl false 11 216 (rows Wq.cells WH),.mp o1,.ref false o2 (q2+l2.length) 0 l2.length,.int .i64 Xf]])) (ZG:Am.look st o1=some (.mps false (mrw d1r m1))) (d1V:Am.look st o2=some (.arr (q2+l2.length) 2 16 (rows Wp.cells l2))),Am.Spec Tryz.prog gl 65 [.ptr o0 0 0 0,.agg [.int .i64 a1.kind,.str a1.name,.sl false 1 16 (rows Wt a1.words),.sl false 4 72 (rows Lr.cells a1.subs)],.str a2] st (fun d st'=>d= .tup [.agg [.int .i64 r.1.form.kind,.str r.1.form.name,.sl false 1 16 (rows Wt r.1.form.words),.sl false 4 72 (rows Lr.cells r.1.form.subs),.int .i64 r.1.nodes,.int .i64 r.1.depth],.bool r.2.1]∧st'=puts st [(o0,(.arr 0 4 0 [[.sl false 11 216 (rows Wq.cells WH),.mp o1,.ref false o2 (q2+r.2.2.2.length) 0 r.2.2.2.length,.int .i64 r.2.2.1]])),(o1,(.mps false (mrw d1r m1))),(o2,(.arr (q2+r.2.2.2.length) 2 16 (rows Wp.cells r.2.2.2)))]))(n:Nat)(a1:Wq)(a2:(List Ws))(a3:Bs)(WH:(List Wq))(Xf:Int)(m1:(List (Bs×Int)))(l2:(List Wp))(r:Wr×Bool×Int×(List Wp))(h:d2b WD n a1 a2 a3 WH Xf m1 l2=some r):∀(st:St) (o0 o1 o2 q2:Nat) (hnd: [o0,o1,o2].Nodup) (XZ:Am.look st o0=some (.arr 0 4 0 [[.sl false 11 216 (rows Wq.cells WH),.mp o1,.ref false o2 (q2+l2.length) 0 l2.length,.int .i64 Xf]])) (ZG:Am.look st o1=some (.mps false (mrw d1r m1))) (d1V:Am.look st o2=some (.arr (q2+l2.length) 2 16 (rows Wp.cells l2))),Am.Spec Tryz.prog gl 90 [.ptr o0 0 0 0,.agg [.int .i64 a1.from_.form.kind,.str a1.from_.form.name,.sl false 1 16 (rows Wt a1.from_.form.words),.sl false 4 72 (rows Lr.cells a1.from_.form.subs),.sl false 1 16 (rows Wt a1.from_.words),.sl false 1 16 (rows Wt a1.from_.WO),.sl false 1 16 (rows Wt a1.from_.parts),.int .i64 a1.to_.kind,.str a1.to_.name,.sl false 1 16 (rows Wt a1.to_.words),.sl false 4 72 (rows Lr.cells a1.to_.subs)],.sl false 6 104 (rows Ws.cells a2),.str a3] st (fun d st'=>d= .tup [.agg [.int .i64 r.1.form.kind,.str r.1.form.name,.sl false 1 16 (rows Wt r.1.form.words),.sl false 4 72 (rows Lr.cells r.1.form.subs),.int .i64 r.1.nodes,.int .i64 r.1.depth],.bool r.2.1]∧st'=puts st [(o0,(.arr 0 4 0 [[.sl false 11 216 (rows Wq.cells WH),.mp o1,.ref false o2 (q2+r.2.2.2.length) 0 r.2.2.2.length,.int .i64 r.2.2.1]])),(o1,(.mps false (mrw d1r m1))),(o2,(.arr (q2+r.2.2.2.length) 2 16 (rows Wp.cells r.2.2.2)))]):=by
 intro st o0 o1 o2 q2 hnd XZ ZG d1V
 unfold d2b at h
 have ho0:=WA XZ
 have ho1:=WA ZG
 have ho2:=WA d1V
 have fx:=fa (fa (fa (idf ho0) (idf ho1)) (idf ho2)) (nd3 hnd)
 refine fb 74 [.cell 8 102,.tmp 9] [0,1,2,3,4,5,6,7,8,9,10,11,12,13,14,16,17,18,19,35,36,37,38,57] Tryz.func90 fun hsc=>?_
 refine ZJ (s':=(WE st [(o0,(.arr 0 4 0 [[.sl false 11 216 (rows Wq.cells WH),.mp o1,.ref false o2 (q2+l2.length) 0 l2.length,.int .i64 Xf]])),(o1,(.mps false (mrw d1r m1))),(o2,(.arr (q2+l2.length) 2 16 (rows Wp.cells l2)))])) (WJ (by simp[XZ,ZG,d1V])) ?_
 refine rn ?_
 refine dw [6,7,10,11,15,16] 3 ?_
 try refine⟨by first|omega|(simp<;>omega),?_⟩
 refine cl h (XO n _) fun v1 h=>?_
 refine aln 35 fun hl0=>?_
 refine rng (body:=d1J a1 a2 v1 WH m1 l2) (kk:=d1K WD n a1 a2 WH m1 l2 a3) (n:=v1.length) (s0:=(Xf,[]))
  (fun(gs0:Unit) (k0:Nat) (s0:Int×(List (Bs×Bs)))=>[(4,.ptr st.length 0 0 0),(5,.ptr (st.length+1) 0 0 0),(6,.ptr (st.length+2) 0 0 0),(7,.ptr (st.length+3) 0 0 0),(8,.ptr (st.length+4) 0 0 0),(10,.ptr (st.length+5) 0 0 0),(11,.ptr (st.length+6) 0 0 0),(12,.ptr (st.length+7) 0 0 0),(13,.ptr (st.length+8) 0 0 0),(14,.ptr (st.length+10) 0 0 0),(35,.sl false 1 16 (rows Wt v1)),(36,.int .i64 (↑v1.length:Int)),(37,.int .i64 (↑k0:Int))])
  (fun(gs0:Unit) (k0:Nat) (s0:Int×(List (Bs×Bs)))=>(WE st [(o0,(.arr 0 4 0 [[.sl false 11 216 (rows Wq.cells WH),.mp o1,.ref false o2 (q2+l2.length) 0 l2.length,.int .i64 s0.1]])),(o1,(.mps false (mrw d1r m1))),(o2,(.arr (q2+l2.length) 2 16 (rows Wp.cells l2)))])++[some (.arr 0 1 0 [[.ptr o0 0 0 0]]),some (.arr 0 11 0 [[.int .i64 a1.from_.form.kind,.str a1.from_.form.name,.sl false 1 16 (rows Wt a1.from_.form.words),.sl false 4 72 (rows Lr.cells a1.from_.form.subs),.sl false 1 16 (rows Wt a1.from_.words),.sl false 1 16 (rows Wt a1.from_.WO),.sl false 1 16 (rows Wt a1.from_.parts),.int .i64 a1.to_.kind,.str a1.to_.name,.sl false 1 16 (rows Wt a1.to_.words),.sl false 4 72 (rows Lr.cells a1.to_.subs)]]),some (.arr 0 1 0 [[.sl false 6 104 (rows Ws.cells a2)]]),some (.arr 0 1 0 [[.str a3]]),some (.arr 0 6 0 [[.int .i64 0,.str [],.WB,.WB,.int .i64 0,.int .i64 0]]),some (.arr 0 1 0 [[.int .i64 (↑a1.from_.words.length:Int)]]),some (.arr 0 1 0 [[.int .i64 (↑a1.from_.WO.length:Int)]]),some (.arr 0 1 0 [[.int .i64 (↑a1.from_.parts.length:Int)]]),some (.arr 0 1 0 [[.fn 112 [] []]]),some (.mps false (mrw Wt s0.2)),some (.arr 0 1 0 [[.mp (st.length+9)]])])
  (fun(gt0:Unit) (t0:Int×(List (Bs×Bs)))=>[(4,.ptr st.length 0 0 0),(5,.ptr (st.length+1) 0 0 0),(6,.ptr (st.length+2) 0 0 0),(7,.ptr (st.length+3) 0 0 0),(8,.ptr (st.length+4) 0 0 0),(10,.ptr (st.length+5) 0 0 0),(11,.ptr (st.length+6) 0 0 0),(12,.ptr (st.length+7) 0 0 0),(13,.ptr (st.length+8) 0 0 0),(14,.ptr (st.length+10) 0 0 0)])
  (fun(gt0:Unit) (t0:Int×(List (Bs×Bs)))=>(WE st [(o0,(.arr 0 4 0 [[.sl false 11 216 (rows Wq.cells WH),.mp o1,.ref false o2 (q2+l2.length) 0 l2.length,.int .i64 t0.1]])),(o1,(.mps false (mrw d1r m1))),(o2,(.arr (q2+l2.length) 2 16 (rows Wp.cells l2)))])++[some (.arr 0 1 0 [[.ptr o0 0 0 0]]),some (.arr 0 11 0 [[.int .i64 a1.from_.form.kind,.str a1.from_.form.name,.sl false 1 16 (rows Wt a1.from_.form.words),.sl false 4 72 (rows Lr.cells a1.from_.form.subs),.sl false 1 16 (rows Wt a1.from_.words),.sl false 1 16 (rows Wt a1.from_.WO),.sl false 1 16 (rows Wt a1.from_.parts),.int .i64 a1.to_.kind,.str a1.to_.name,.sl false 1 16 (rows Wt a1.to_.words),.sl false 4 72 (rows Lr.cells a1.to_.subs)]]),some (.arr 0 1 0 [[.sl false 6 104 (rows Ws.cells a2)]]),some (.arr 0 1 0 [[.str a3]]),some (.arr 0 6 0 [[.int .i64 0,.str [],.WB,.WB,.int .i64 0,.int .i64 0]]),some (.arr 0 1 0 [[.int .i64 (↑a1.from_.words.length:Int)]]),some (.arr 0 1 0 [[.int .i64 (↑a1.from_.WO.length:Int)]]),some (.arr 0 1 0 [[.int .i64 (↑a1.from_.parts.length:Int)]]),some (.arr 0 1 0 [[.fn 112 [] []]]),some (.mps false (mrw Wt t0.2)),some (.arr 0 1 0 [[.mp (st.length+9)]])])
  () fx hl0 h (bu hsc)
  (fun gs0 k0 s0 b0 fx h hx0=>?_) (fun gs0 s0=>?_) (fun gt0 t0 fr1 st1 h hb=>?_)
 ·unfold d1J at h
  refine ct ?_
  refine rn ?_
  obtain⟨fx,h⟩:=ck fx h
  refine dw [] 0 ?_
  obtain⟨v13,hv13,h⟩:=ZA h
  refine d1v (d2T _ _ _ hv13) ?_
  obtain⟨c14,p5H,h⟩:=d4o h
  have fy:=(show Wz (get v1 k0) [.str v13] (mrw Wt s0.2)=mrw Wt c14 from by rw[p5H];exact d4E (κ:=Bs) (E:=Wt) (get v1 k0) v13 s0.2)
  try simp only[go_sem,fx,fy]
  refine cd h (fun hc h=>?_) fun hc h=>?_
  ·refine rs ?_
   refine dw [0,3] 0 ?_
   obtain⟨v16,hv16,h⟩:=ZA h
   refine d2Y [o0,o1,o2] (fun st2 h2=>(d2S _ _ _ _ _ hv16 st2 _ _ _ (q2+l2.length) hnd ((h2 _ (by simp)).trans (by simp only[go_sem,fx])) ((h2 _ (by simp)).trans (by simp only[go_sem,fx])) ((h2 _ (by simp)).trans (by simp only[go_sem,fx])))) (by simp) (by simp only[List.mem_cons,List.not_mem_nil,or_false,forall_eq_or_imp,forall_eq];exact⟨⟨by first|omega|(simp<;>omega),_,(by simp only[go_sem,fx]<;>rfl),Ob.noConfusion⟩,⟨by first|omega|(simp<;>omega),_,(by simp only[go_sem,fx]<;>rfl),Ob.noConfusion⟩,⟨by first|omega|(simp<;>omega),_,(by simp only[go_sem,fx]<;>rfl),Ob.noConfusion⟩⟩) (by simp) ?_
   obtain⟨c17,r3N,h⟩:=d4o h
   have fy:=(show Wz (get v1 k0) [.str v16.1] (mrw Wt c14)=mrw Wt c17 from by rw[r3N];exact d4E (κ:=Bs) (E:=Wt) (get v1 k0) v16.1 c14)
   try simp only[go_sem,fx,fy]
   try refine⟨by first|omega|(simp<;>omega),?_⟩
   refine rn ?_
   cases h
   exact d2U () (bu hsc)
  ·refine rn ?_
   cases h
   exact d2U () (bu hsc)
 ·refine cf ?_
  refine d2V ?_;simp only[go_sem,fx]
  exact⟨(),(bu hsc)⟩
 ·try simp only[go_sem,fx]
  unfold d1K at h
  refine Zk hb ?_
  refine rn ?_
  obtain⟨v19,hv19,h⟩:=ZA h
  refine(d8Y n _ _ hv19 _).mono ?_
  rintro d1 st1 ⟨rfl,rfl⟩
  refine rn ?_
  obtain⟨v20,hv20,h⟩:=ZA h
  refine i9Z ((d7P WD d1B n _ _ _ _ _ _ _ _ _ _ _ _ _ _ _ _ _ _ _ _ _ _ _ _ _ _ hv20 _ (st.length+1) (st.length+15) (st.length+14) (st.length+2) (st.length+5) (st.length+6) (st.length+7) st.length o0 o1 o2 (st.length+3) (st.length+13) (st.length+12) (st.length+10) (st.length+9) (st.length+8) (st.length+16) q2 (by simp[fx]<;>omega) (WR.trans rfl) (WR.trans rfl) (WR.trans rfl) (WR.trans rfl) (WR.trans rfl) (WR.trans rfl) (WR.trans rfl) (i5w.trans rfl) (by simp only[go_sem,fx]) (by simp only[go_sem,fx]) (by simp only[go_sem,fx]) (WR.trans rfl) (WR.trans rfl) (WR.trans rfl) (WR.trans rfl) (WR.trans rfl) (WR.trans rfl) (WR.trans rfl)).up (.cons _ _ _ _ .s (.cons _ _ _ _ (.WB _ _ _ (by decide)) (.cons _ _ _ _ .s (.cons _ _ _ _ .s (.cons _ _ _ _ .s (.cons _ _ _ _ .s (.cons _ _ _ _ .s (.cons _ _ _ _ .s (.cons _ _ _ _ .s (.cons _ _ _ _ .s (.cons _ _ _ _ .s (.cons _ _ _ _ .s (.cons _ _ _ _ .s (.cons _ _ _ _ .s .nil)))))))))))))) (by simp<;>omega)) ?_
  refine rr ?_
  exact fuo (.tup [.agg [.int .i64 v20.1.form.kind,.str v20.1.form.name,.sl false 1 16 (rows Wt v20.1.form.words),.sl false 4 72 (rows Lr.cells v20.1.form.subs),.int .i64 v20.1.nodes,.int .i64 v20.1.depth],.bool v20.2.1]) (.same _) h hsc
theorem d7c:∀(n:Nat) (a1:Lr) (a2:Bs) (WH:(List Wq)) (Xf:Int) (m1:(List (Bs×Int))) (l2:(List Wp)) (r:Wr×Bool×Int×(List Wp)) (h:Xm n a1 a2 WH Xf m1 l2=some r),∀(st:St) (o0 o1 o2 q2:Nat) (hnd: [o0,o1,o2].Nodup) (XZ:Am.look st o0=some (.arr 0 4 0 [[.sl false 11 216 (rows Wq.cells WH),.mp o1,.ref false o2 (q2+l2.length) 0 l2.length,.int .i64 Xf]])) (ZG:Am.look st o1=some (.mps false (mrw d1r m1))) (d1V:Am.look st o2=some (.arr (q2+l2.length) 2 16 (rows Wp.cells l2))),Am.Spec Tryz.prog gl 65 [.ptr o0 0 0 0,.agg [.int .i64 a1.kind,.str a1.name,.sl false 1 16 (rows Wt a1.words),.sl false 4 72 (rows Lr.cells a1.subs)],.str a2] st (fun d st'=>d= .tup [.agg [.int .i64 r.1.form.kind,.str r.1.form.name,.sl false 1 16 (rows Wt r.1.form.words),.sl false 4 72 (rows Lr.cells r.1.form.subs),.int .i64 r.1.nodes,.int .i64 r.1.depth],.bool r.2.1]∧st'=puts st [(o0,(.arr 0 4 0 [[.sl false 11 216 (rows Wq.cells WH),.mp o1,.ref false o2 (q2+r.2.2.2.length) 0 r.2.2.2.length,.int .i64 r.2.2.1]])),(o1,(.mps false (mrw d1r m1))),(o2,(.arr (q2+r.2.2.2.length) 2 16 (rows Wp.cells r.2.2.2)))]):=by
 intro n
 induction n with
 |zero=>intro a1 a2 WH Xf m1 l2 r h;cases h
 |succ n ih=>
  intro a1 a2 WH Xf m1 l2 r h st o0 o1 o2 q2 hnd XZ ZG d1V
  unfold Xm at h
  have ho0:=WA XZ
  have ho1:=WA ZG
  have ho2:=WA d1V
  have fx:=fa (fa (fa (idf ho0) (idf ho1)) (idf ho2)) (nd3 hnd)
  refine fb 116 [.cell 6 102,.tmp 7] [0,1,2,4,6,7,8,9,10,11,12,13,14,15,16,17,18,22,23,24,25,37,72,73,74,75,90] Tryz.func65 fun hsc=>?_
  refine ZJ (s':=(WE st [(o0,(.arr 0 4 0 [[.sl false 11 216 (rows Wq.cells WH),.mp o1,.ref false o2 (q2+l2.length) 0 l2.length,.int .i64 Xf]])),(o1,(.mps false (mrw d1r m1))),(o2,(.arr (q2+l2.length) 2 16 (rows Wp.cells l2)))])) (WJ (by simp[XZ,ZG,d1V])) ?_
  refine aln 22 fun hl0=>?_
  refine rng (body:=d0S (Xm n) n WH a1 l2 a2 m1 Xf) (kk:=d0T (Xm n) a2 a1 WH m1 Xf l2) (n:=WH.length) (s0:=())
   (fun(gs0:Unit) (k0:Nat) (s0:Unit)=>[(0,.ptr o0 0 0 0),(2,.str a2),(4,.ptr st.length 0 0 0),(6,.ptr (st.length+1) 0 0 0),(22,.sl false 11 216 (rows Wq.cells WH)),(23,.int .i64 (↑WH.length:Int)),(24,.int .i64 (↑k0:Int))])
   (fun(gs0:Unit) (k0:Nat) (s0:Unit)=>(WE st [(o0,(.arr 0 4 0 [[.sl false 11 216 (rows Wq.cells WH),.mp o1,.ref false o2 (q2+l2.length) 0 l2.length,.int .i64 Xf]])),(o1,(.mps false (mrw d1r m1))),(o2,(.arr (q2+l2.length) 2 16 (rows Wp.cells l2)))])++[some (.arr 0 4 0 [[.int .i64 a1.kind,.str a1.name,.sl false 1 16 (rows Wt a1.words),.sl false 4 72 (rows Lr.cells a1.subs)]]),some (.arr 0 6 0 [[.int .i64 0,.str [],.WB,.WB,.int .i64 0,.int .i64 0]])])
   (fun(gt0:Unit) (t0:Unit)=>[(0,.ptr o0 0 0 0),(2,.str a2),(4,.ptr st.length 0 0 0),(6,.ptr (st.length+1) 0 0 0)])
   (fun(gt0:Unit) (t0:Unit)=>(WE st [(o0,(.arr 0 4 0 [[.sl false 11 216 (rows Wq.cells WH),.mp o1,.ref false o2 (q2+l2.length) 0 l2.length,.int .i64 Xf]])),(o1,(.mps false (mrw d1r m1))),(o2,(.arr (q2+l2.length) 2 16 (rows Wp.cells l2)))])++[some (.arr 0 4 0 [[.int .i64 a1.kind,.str a1.name,.sl false 1 16 (rows Wt a1.words),.sl false 4 72 (rows Lr.cells a1.subs)]]),some (.arr 0 6 0 [[.int .i64 0,.str [],.WB,.WB,.int .i64 0,.int .i64 0]])])
   () fx hl0 h (bu hsc)
   (fun gs0 k0 s0 b0 fx h hx0=>?_) (fun gs0 s0=>?_) (fun gt0 t0 fr1 st1 h hb=>?_)
  ·unfold d0S at h
   refine ct ?_
   refine cl h (d8X n _ _) fun v1 h=>?_
   refine cd h (fun hc h=>?_) fun hc h=>?_
   ·refine rn ?_
    cases h
    exact d2U () (bu hsc)
   ·refine rn ?_
    obtain⟨c3,hc3,h⟩:=d4o h
    have fy:=(show rows Wp.cells l2++[[.int .i64 ((assoc a2 m1).getD default),.int .i64 (↑k0:Int)]]=rows Wp.cells c3 from by rw[hc3];first|exact Xi (E:=Wp.cells) l2 [(Wp.mk ((assoc a2 m1).getD default) (↑k0:Int))]|simp only[go_sem,rows,List.map_append,List.map_cons,List.map_nil])
    have fy:=fa fy (show l2.length+1=c3.length from by rw[hc3];simp)
    obtain⟨fx,h⟩:=ck fx h
    have fy:=fa fy (show q2+l2.length+1=q2+c3.length from by rw[hc3];simp;omega)
    refine dwy [] 2 ?_
    refine rn ?_
    obtain⟨v9,hv9,h⟩:=ZA h
    refine(d8y (Xm n) ih n _ _ _ _ _ _ _ _ hv9 _ _ _ _ q2 hnd (by simp only[go_sem,fx]) (by simp only[go_sem,fx]) (by simp only[go_sem,fx])).mono ?_
    rintro d1 st1 ⟨rfl,rfl⟩
    refine ra ?_
    cases h
    refine XY ?_;have h:=congrArg some (hx0 _ rfl)
    refine rr ?_
    exact fuo (.tup [.agg [.int .i64 v9.1.form.kind,.str v9.1.form.name,.sl false 1 16 (rows Wt v9.1.form.words),.sl false 4 72 (rows Lr.cells v9.1.form.subs),.int .i64 v9.1.nodes,.int .i64 v9.1.depth],.bool v9.2.1]) (.same _) h hsc
  ·refine cf ?_
   refine d2V ?_;simp only[go_sem,fx]
   exact⟨(),(bu hsc)⟩
  ·try simp only[go_sem,fx]
   unfold d0T at h
   refine Zk hb ?_
   refine r0 ?_
   refine r0 ?_
   refine r0 ?_
   (repeat apply sq_)
   refine d0f 6 88 ?_
   refine d0f 4 72 ?_
   try simp only[List.append_assoc,List.cons_append,List.nil_append]
   refine Zk (F:=[(0,.ptr o0 0 0 0),(2,.str a2),(6,.ptr (st.length+1) 0 0 0),(12,.ptr (st.length+2) 0 0 0),(13,.ref false (st.length+3) 0 0 0),(72,.sl false 4 72 (rows Lr.cells a1.subs)),(73,.int .i64 (↑a1.subs.length:Int)),(74,.int .i64 0)]) (T:=(WE st [(o0,(.arr 0 4 0 [[.sl false 11 216 (rows Wq.cells WH),.mp o1,.ref false o2 (q2+l2.length) 0 l2.length,.int .i64 Xf]])),(o1,(.mps false (mrw d1r m1))),(o2,(.arr (q2+l2.length) 2 16 (rows Wp.cells l2)))])++[some (.arr 0 4 0 [[.int .i64 a1.kind,.str a1.name,.sl false 1 16 (rows Wt a1.words),.sl false 4 72 (rows Lr.cells a1.subs)]]),some (.arr 0 6 0 [[.int .i64 0,.str [],.WB,.WB,.int .i64 0,.int .i64 0]]),some (.arr 0 6 0 [[.int .i64 a1.kind,.str a1.name,.sl false 1 16 (rows Wt a1.words),.ref false (st.length+4) 0 0 0,.int .i64 0,.int .i64 0]]),some (.arr 0 6 88 (rows Wr.cells [])),some (.arr 0 4 72 (rows Lr.cells []))]) (d1O (by simp) (YP hsc (by simp<;>omega)) (.lv (.lv (.live _ _ _ _ (.arr _ _ _ _ _ (.cons _ _ _ _ (.cons _ _ _ _ .s (.cons _ _ _ _ .s (.cons _ _ _ _ .s (.cons _ _ _ _ (.nref _ _ _ _ _ _ (WT.trans rfl)) (.cons _ _ _ _ .s (.cons _ _ _ _ .s .nil)))))) (.same _))) (.lv (.lv (.nil _)))))) (by simp<;>omega) ⟨.s,.s,.s,.s,.nref _ _ _ _ _ _ (WT.trans rfl),.s,.s,.s,trivial⟩ (by simp<;>omega)) ?_
   refine aln 72 fun hl1=>?_
   refine rng (body:=d0U (Xm n) a2 a1 WH m1) (kk:=d0V a1) (n:=a1.subs.length) (s0:=(Xf,l2,[],[]))
    (fun(gs1:Nat×Nat) (k1:Nat) (s1:Int×(List Wp)×(List Wr)×(List Lr))=>[(0,.ptr o0 0 0 0),(2,.str a2),(6,.ptr (st.length+1) 0 0 0),(12,.ptr (st.length+2) 0 0 0),(13,.ref false (st.length+3) gs1.1 0 s1.2.2.1.length),(72,.sl false 4 72 (rows Lr.cells a1.subs)),(73,.int .i64 (↑a1.subs.length:Int)),(74,.int .i64 (↑k1:Int))])
    (fun(gs1:Nat×Nat) (k1:Nat) (s1:Int×(List Wp)×(List Wr)×(List Lr))=>(WE st [(o0,(.arr 0 4 0 [[.sl false 11 216 (rows Wq.cells WH),.mp o1,.ref false o2 (q2+s1.2.1.length) 0 s1.2.1.length,.int .i64 s1.1]])),(o1,(.mps false (mrw d1r m1))),(o2,(.arr (q2+s1.2.1.length) 2 16 (rows Wp.cells s1.2.1)))])++[none,some (.arr 0 6 0 [[.int .i64 0,.str [],.WB,.WB,.int .i64 0,.int .i64 0]]),some (.arr 0 6 0 [[.int .i64 a1.kind,.str a1.name,.sl false 1 16 (rows Wt a1.words),.ref false (st.length+4) gs1.2 0 s1.2.2.2.length,.int .i64 0,.int .i64 0]]),some (.arr gs1.1 6 88 (rows Wr.cells s1.2.2.1)),some (.arr gs1.2 4 72 (rows Lr.cells s1.2.2.2))])
    (fun(gt1:Nat×Nat) (t1:Int×(List Wp)×(List Wr)×(List Lr))=>[(6,.ptr (st.length+1) 0 0 0),(12,.ptr (st.length+2) 0 0 0),(13,.ref false (st.length+3) gt1.1 0 t1.2.2.1.length)])
    (fun(gt1:Nat×Nat) (t1:Int×(List Wp)×(List Wr)×(List Lr))=>(WE st [(o0,(.arr 0 4 0 [[.sl false 11 216 (rows Wq.cells WH),.mp o1,.ref false o2 (q2+t1.2.1.length) 0 t1.2.1.length,.int .i64 t1.1]])),(o1,(.mps false (mrw d1r m1))),(o2,(.arr (q2+t1.2.1.length) 2 16 (rows Wp.cells t1.2.1)))])++[none,some (.arr 0 6 0 [[.int .i64 0,.str [],.WB,.WB,.int .i64 0,.int .i64 0]]),some (.arr 0 6 0 [[.int .i64 a1.kind,.str a1.name,.sl false 1 16 (rows Wt a1.words),.ref false (st.length+4) gt1.2 0 t1.2.2.2.length,.int .i64 0,.int .i64 0]]),some (.arr gt1.1 6 88 (rows Wr.cells t1.2.2.1)),some (.arr gt1.2 4 72 (rows Lr.cells t1.2.2.2))])
    (0,0) fx hl1 h (bu hsc)
    (fun gs1 k1 s1 b1 fx h hx1=>?_) (fun gs1 s1=>?_) (fun gt1 t1 fr1 st1 h hb=>?_)
   ·unfold d0U at h
    refine ct ?_
    refine rn ?_
    refine dw [6] 1 ?_
    obtain⟨v25,hv25,h⟩:=ZA h
    refine d1v (i0M _ _ hv25) ?_
    obtain⟨fx,h⟩:=ck fx h
    try simp only[go_sem,fx]
    obtain⟨v27,hv27,h⟩:=ZA h
    refine d2Y [o0,o1,o2] (fun st2 h2=>(ih _ _ _ _ _ _ _ hv27 st2 _ _ _ q2 hnd ((h2 _ (by simp)).trans (by simp only[go_sem,fx])) ((h2 _ (by simp)).trans (by simp only[go_sem,fx])) ((h2 _ (by simp)).trans (by simp only[go_sem,fx])))) (by simp) (by simp only[List.mem_cons,List.not_mem_nil,or_false,forall_eq_or_imp,forall_eq];exact⟨⟨by first|omega|(simp<;>omega),_,(by simp only[go_sem,fx]<;>rfl),Ob.noConfusion⟩,⟨by first|omega|(simp<;>omega),_,(by simp only[go_sem,fx]<;>rfl),Ob.noConfusion⟩,⟨by first|omega|(simp<;>omega),_,(by simp only[go_sem,fx]<;>rfl),Ob.noConfusion⟩⟩) (by simp) ?_
    try simp only[go_sem,fx]
    try refine⟨by first|omega|(simp<;>omega),?_⟩
    refine cd h (fun hc h=>?_) fun hc h=>?_
    ·refine ra ?_
     cases h
     refine XY ?_;have h:=congrArg some (hx1 _ rfl)
     refine rr ?_
     exact fuo (.tup [.agg [.int .i64 0,.str [],.sl false 1 16 (rows Wt []),.sl false 4 72 (rows Lr.cells []),.int .i64 0,.int .i64 0],.bool false]) (.tup _ _ (.cons _ _ _ _ (.agg _ _ (.cons _ _ _ _ .s (.cons _ _ _ _ .s (.cons _ _ _ _ (.WB _ _ _ (by decide)) (.cons _ _ _ _ (.WB _ _ _ (by decide)) (.cons _ _ _ _ .s (.cons _ _ _ _ .s .nil))))))) (.cons _ _ _ _ .s .nil)) rfl) h hsc
    ·refine r0 ?_
     obtain⟨c29,r1E,h⟩:=d4o h
     have fy:=(show rows Wr.cells s1.2.2.1++[[.int .i64 v27.1.form.kind,.str v27.1.form.name,.sl false 1 16 (rows Wt v27.1.form.words),.sl false 4 72 (rows Lr.cells v27.1.form.subs),.int .i64 v27.1.nodes,.int .i64 v27.1.depth]]=rows Wr.cells c29 from by rw[r1E];first|exact Xi (E:=Wr.cells) s1.2.2.1 [v27.1]|simp only[go_sem,rows,List.map_append,List.map_cons,List.map_nil])
     have fy:=fa fy (show s1.2.2.1.length+1=c29.length from by rw[r1E];simp)
     obtain⟨fx,h⟩:=ck fx h
     refine r1 ?_
     obtain⟨c35,r1F,h⟩:=d4o h
     have fy:=(show rows Lr.cells s1.2.2.2++[[.int .i64 v27.1.form.kind,.str v27.1.form.name,.sl false 1 16 (rows Wt v27.1.form.words),.sl false 4 72 (rows Lr.cells v27.1.form.subs)]]=rows Lr.cells c35 from by rw[r1F];first|exact Xi (E:=Lr.cells) s1.2.2.2 [v27.1.form]|simp only[go_sem,rows,List.map_append,List.map_cons,List.map_nil])
     have fy:=fa fy (show s1.2.2.2.length+1=c35.length from by rw[r1F];simp)
     obtain⟨fx,h⟩:=ck fx h
     refine r1 ?_
     refine rn ?_
     cases h
     exact d2U ((gs1.1+1),(gs1.2+1)) (bu hsc)
   ·refine cf ?_
    refine d2V ?_;simp only[go_sem,fx]
    exact⟨(gs1.1,gs1.2),(bu hsc)⟩
   ·try simp only[go_sem,fx]
    unfold d0V at h
    refine Zk hb ?_
    refine rn ?_
    obtain⟨v40,hv40,h⟩:=ZA h
    refine((d6a _ _ hv40).borrow (args:=[.ref false (st.length+3) gt1.1 0 t1.2.2.1.length]) (.cons _ _ _ _ (.ref _ _ _ _ _ _ _ _ _ (WT.trans rfl) i3N (by decide) (d5x _) (by simp only[go_sem])) .nil) (by simp) rfl ) ?_
    refine rr ?_
    exact fuo (.tup [.agg [.int .i64 a1.kind,.str a1.name,.sl false 1 16 (rows Wt a1.words),.sl false 4 72 (rows Lr.cells t1.2.2.2),.int .i64 v40.1,.int .i64 v40.2.1],.bool v40.2.2]) (.tup _ _ (.cons _ _ _ _ (.agg _ _ (.cons _ _ _ _ .s (.cons _ _ _ _ .s (.cons _ _ _ _ .s (.cons _ _ _ _ (.ref _ _ _ _ _ _ _ _ _ (WT.trans rfl) ZK (by decide) (d5x _) (by simp only[go_sem])) (.cons _ _ _ _ .s (.cons _ _ _ _ .s .nil))))))) (.cons _ _ _ _ .s .nil)) rfl) h hsc
theorem d1M{l r:(List Wp)}(h:WW l=some r):r.length=l.length:=by
 unfold WW at h
 obtain⟨_,h⟩:=p2q h
 obtain rfl:=Option.some.inj h
 exact(d1C _ _).length_eq
theorem d1W(l0:(List Wp))(r:(List Wp))(h:WW l0=some r):∀(st:St) (o0 q0:Nat) (hnd: [o0].Nodup) (XZ:Am.look st o0=some (.arr q0 2 16 (rows Wp.cells l0))),Am.Spec Tryz.prog gl 66 [.ref false o0 q0 0 l0.length,.fn 67 [] []] st (fun d st'=>d= .tup []∧st'=puts st [(o0,(.arr q0 2 16 (rows Wp.cells r)))]):=by
 intro st o0 q0 hnd XZ
 unfold WW at h
 obtain⟨hl,h⟩:=p2q h
 obtain rfl:=Option.some.inj h
 exact i8y rfl (by kernel_rfl) (fun x y=>i0N x y _ rfl) XZ hl
theorem d8Z(n:Nat)(WH:Int)(Zz:(List Bs))(r:Bs×Int)(h:d2K n WH Zz=some r):∀(st:St) (o0 o1:Nat) (hnd: [o0,o1].Nodup) (XZ:Am.look st o0=some (.arr 0 1 0 [[.int .i64 WH]])) (ZG:Am.look st o1=some (.arr 0 1 0 [[.sl false 1 16 (rows Wt Zz)]])),Am.Spec Tryz.prog gl 103 [.ptr o0 0 0 0,.ptr o1 0 0 0] st (fun d st'=>d= .str r.1∧st'=puts st [(o0,(.arr 0 1 0 [[.int .i64 r.2]])),(o1,(.arr 0 1 0 [[.sl false 1 16 (rows Wt Zz)]]))]):=by
 intro st o0 o1 hnd XZ ZG
 unfold d2K at h
 have ho0:=WA XZ
 have ho1:=WA ZG
 have fx:=fa (fa (idf ho0) (idf ho1)) (nd2 hnd)
 refine fb 14 [.tmp 2] [0,1,2,3,12] Tryz.func103 fun hsc=>?_
 refine ZJ (s':=(WE st [(o0,(.arr 0 1 0 [[.int .i64 WH]])),(o1,(.arr 0 1 0 [[.sl false 1 16 (rows Wt Zz)]]))])) (WJ (by simp[XZ,ZG])) ?_
 refine rn ?_
 refine d7x (body:=d0X Zz) (kk:=d3B) (n:=n) (s0:=WH)
  (fun(gs0:Unit) (s0:Int)=>[(0,.ptr o0 0 0 0),(1,.ptr o1 0 0 0)])
  (fun(gs0:Unit) (s0:Int)=>(WE st [(o0,(.arr 0 1 0 [[.int .i64 s0]])),(o1,(.arr 0 1 0 [[.sl false 1 16 (rows Wt Zz)]]))]))
  (fun(gt0:Unit) (t0:Unit)=>[])
  (fun(gt0:Unit) (t0:Unit)=>(WE st [(o0,(.arr 0 1 0 [[.int .i64 WH]])),(o1,(.arr 0 1 0 [[.sl false 1 16 (rows Wt Zz)]]))]))
  () h (i9O hsc)
  (fun gs0 s0 b0 h hx0=>?_) (fun gt0 t0 fr1 st1 h hb=>?_)
 ·unfold d0X at h
  refine cl h (i0M _) fun v4 h=>?_
  obtain⟨fx,h⟩:=ck fx h
  refine cl h (Wx _ _) fun v6 h=>?_
  refine cd h (fun hc h=>?_) fun hc h=>?_
  ·refine ra ?_
   cases h
   refine i5v ?_;have h:=congrArg some (hx0 _ rfl)
   refine rr ?_
   exact fus (.str (d9u [118] v4)) (.same _) h hsc
  ·refine rn ?_
   cases h
   exact i2u () (i9O hsc)
 ·try simp only[go_sem,fx]
  unfold d3B at h
  cases h
end Go.Proofs.YtfacbpehlibilaaGreatDoor
