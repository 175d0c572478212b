import Derived.Test.YtfacbpehlibilaaGreatDoorTAWalk3
set_option linter.unusedVariables false
set_option linter.unusedSimpArgs false
set_option maxHeartbeats 2000000
set_option maxRecDepth 100000
namespace Go.Proofs.YtfacbpehlibilaaGreatDoor
open Go Go.Am
theorem d7a:∀(n:Nat) (a1:Lr) (WH:(List Wq)) (Xf:Int) (m1:(List (Bs×Int))) (l2:(List Wp)) (r:Lr×Int) (h:Ys n a1 WH Xf m1 l2=some r),∀(st:St) (o0 o1 o2 q2:Nat) (hnd: [o0,o1,o2].Nodup) (XZ:Am.look st o0=some (.arr 0 4 0 [[.sl false 11 216 (rows Wq.cells WH),.mp o1,.ref false o2 q2 0 l2.length,.int .i64 Xf]])) (ZG:Am.look st o1=some (.mps false (mrw d1r m1))) (d1V:Am.look st o2=some (.arr q2 2 16 (rows Wp.cells l2))),Am.Spec Tryz.prog gl 63 [.ptr o0 0 0 0,.agg [.int .i64 a1.kind,.str a1.name,.sl false 1 16 (rows Wt a1.words),.sl false 4 72 (rows Lr.cells a1.subs)],.d4d] st (fun d st'=>d= .agg [.int .i64 r.1.kind,.str r.1.name,.sl false 1 16 (rows Wt r.1.words),.sl false 4 72 (rows Lr.cells r.1.subs)]∧st'=puts st [(o0,(.arr 0 4 0 [[.sl false 11 216 (rows Wq.cells WH),.mp o1,.ref false o2 q2 0 l2.length,.int .i64 r.2]])),(o1,(.mps false (mrw d1r m1))),(o2,(.arr q2 2 16 (rows Wp.cells l2)))]):=by
 intro n
 induction n with
 |zero=>intro a1 WH Xf m1 l2 r h;cases h
 |succ n ih=>
  intro a1 WH Xf m1 l2 r h st o0 o1 o2 q2 hnd XZ ZG d1V
  unfold Ys at h
  have ho0:=WA XZ
  have ho1:=WA ZG
  have ho2:=WA d1V
  have fx:=fa (fa (fa (idf ho0) (idf ho1)) (idf ho2)) (nd3 hnd)
  refine fb 84 [.cell 6 31] [0,1,2,4,6,7,9,10,11,12,13,14,16,23,24,25,26,35,45,48,50,67,68,69,70] Tryz.func63 fun hsc=>?_
  refine ZJ (s':=(WE st [(o0,(.arr 0 4 0 [[.sl false 11 216 (rows Wq.cells WH),.mp o1,.ref false o2 q2 0 l2.length,.int .i64 Xf]])),(o1,(.mps false (mrw d1r m1))),(o2,(.arr q2 2 16 (rows Wp.cells l2)))])) (WJ (by simp[XZ,ZG,d1V])) ?_
  refine r0 ?_
  refine r0 ?_
  refine r0 ?_
  (repeat apply sq_)
  refine d0f 1 16 ?_
  try simp only[List.append_assoc,List.cons_append,List.nil_append]
  refine Zk (F:=[(0,.ptr o0 0 0 0),(2,.d4d),(4,.ptr st.length 0 0 0),(6,.ptr (st.length+1) 0 0 0),(7,.ptr (st.length+2) 0 0 0),(23,.sl false 1 16 (rows Wt a1.words)),(24,.int .i64 (↑a1.words.length:Int)),(25,.int .i64 0)]) (T:=(WE st [(o0,(.arr 0 4 0 [[.sl false 11 216 (rows Wq.cells WH),.mp o1,.ref false o2 q2 0 l2.length,.int .i64 Xf]])),(o1,(.mps false (mrw d1r m1))),(o2,(.arr q2 2 16 (rows Wp.cells l2)))])++[some (.arr 0 4 0 [[.int .i64 a1.kind,.str a1.name,.sl false 1 16 (rows Wt a1.words),.sl false 4 72 (rows Lr.cells a1.subs)]]),some (.arr 0 4 0 [[.int .i64 0,.str [],.WB,.WB]]),some (.arr 0 4 0 [[.int .i64 a1.kind,.str a1.name,.ref false (st.length+3) 0 0 0,.WB]]),some (.arr 0 1 16 (rows Wt []))]) (d1O (by simp) (YP hsc (by simp<;>omega)) (.lv (.lv (.live _ _ _ _ (.arr _ _ _ _ _ (.cons _ _ _ _ (.cons _ _ _ _ .s (.cons _ _ _ _ .s (.cons _ _ _ _ (.nref _ _ _ _ _ _ (WT.trans rfl)) (.cons _ _ _ _ .s .nil)))) (.same _))) (.lv (.nil _))))) (by simp<;>omega) ⟨.s,.s,.s,.s,.s,.s,.s,.s,trivial⟩ (by simp<;>omega)) ?_
  refine aln 23 fun hl0=>?_
  refine rng (body:=d0D a1) (kk:=d0E (Ys n) n a1 WH Xf m1 l2) (n:=a1.words.length) (s0:=[])
   (fun(gs0:Nat) (k0:Nat) (s0:(List Bs))=>[(0,.ptr o0 0 0 0),(2,.d4d),(4,.ptr st.length 0 0 0),(6,.ptr (st.length+1) 0 0 0),(7,.ptr (st.length+2) 0 0 0),(23,.sl false 1 16 (rows Wt a1.words)),(24,.int .i64 (↑a1.words.length:Int)),(25,.int .i64 (↑k0:Int))])
   (fun(gs0:Nat) (k0:Nat) (s0:(List Bs))=>(WE st [(o0,(.arr 0 4 0 [[.sl false 11 216 (rows Wq.cells WH),.mp o1,.ref false o2 q2 0 l2.length,.int .i64 Xf]])),(o1,(.mps false (mrw d1r m1))),(o2,(.arr q2 2 16 (rows Wp.cells l2)))])++[some (.arr 0 4 0 [[.int .i64 a1.kind,.str a1.name,.sl false 1 16 (rows Wt a1.words),.sl false 4 72 (rows Lr.cells a1.subs)]]),some (.arr 0 4 0 [[.int .i64 0,.str [],.WB,.WB]]),some (.arr 0 4 0 [[.int .i64 a1.kind,.str a1.name,.ref false (st.length+3) gs0 0 s0.length,.WB]]),some (.arr gs0 1 16 (rows Wt s0))])
   (fun(gt0:Nat) (t0:(List Bs))=>[(0,.ptr o0 0 0 0),(2,.d4d),(4,.ptr st.length 0 0 0),(6,.ptr (st.length+1) 0 0 0),(7,.ptr (st.length+2) 0 0 0)])
   (fun(gt0:Nat) (t0:(List Bs))=>(WE st [(o0,(.arr 0 4 0 [[.sl false 11 216 (rows Wq.cells WH),.mp o1,.ref false o2 q2 0 l2.length,.int .i64 Xf]])),(o1,(.mps false (mrw d1r m1))),(o2,(.arr q2 2 16 (rows Wp.cells l2)))])++[some (.arr 0 4 0 [[.int .i64 a1.kind,.str a1.name,.sl false 1 16 (rows Wt a1.words),.sl false 4 72 (rows Lr.cells a1.subs)]]),some (.arr 0 4 0 [[.int .i64 0,.str [],.WB,.WB]]),some (.arr 0 4 0 [[.int .i64 a1.kind,.str a1.name,.ref false (st.length+3) gt0 0 t0.length,.WB]]),some (.arr gt0 1 16 (rows Wt t0))])
   0 fx hl0 h (bu hsc)
   (fun gs0 k0 s0 b0 fx h hx0=>?_) (fun gs0 s0=>?_) (fun gt0 t0 fr1 st1 h hb=>?_)
  ·unfold d0D at h
   refine ct ?_
   refine cd h (fun hc h=>?_) fun hc h=>?_
   ·refine r0 ?_
    obtain⟨c14,p5H,h⟩:=d4o h
    have fy:=(show rows Wt s0++[[.str ([]:Bs)]]=rows Wt c14 from by rw[p5H];first|exact Xi (E:=Wt) s0 [([]:Bs)]|simp only[go_sem,rows,List.map_append,List.map_cons,List.map_nil])
    have fy:=fa fy (show s0.length+1=c14.length from by rw[p5H];simp)
    obtain⟨fx,h⟩:=ck fx h
    refine r1 ?_
    refine rn ?_
    cases h
    exact d2U (gs0+1) (bu hsc)
   ·refine r0 ?_
    obtain⟨c20,p8y,h⟩:=d4o h
    have fy:=(show rows Wt s0++[[.str (get a1.words k0)]]=rows Wt c20 from by rw[p8y];first|exact Xi (E:=Wt) s0 [(get a1.words k0)]|simp only[go_sem,rows,List.map_append,List.map_cons,List.map_nil])
    have fy:=fa fy (show s0.length+1=c20.length from by rw[p8y];simp)
    obtain⟨fx,h⟩:=ck fx h
    refine r1 ?_
    refine rn ?_
    cases h
    exact d2U (gs0+1) (bu hsc)
  ·refine cf ?_
   refine d2V ?_;simp only[go_sem,fx]
   exact⟨gs0,(bu hsc)⟩
  ·try simp only[go_sem,fx]
   unfold d0E at h
   refine Zk hb ?_
   refine cl h (WX _) fun v25 h=>?_
   refine cd h (fun hc h=>?_) fun hc h=>?_
   ·refine r0 ?_
    first|refine sq_ (i1G (b:=47) (tI:=12) (tE:=2) (tk:=13) (tv:=14) (id2:=2) (id3:=3) (i1:=12) (i2:=13) (i3:=14) (i4:=15) (F:=[(0,.ptr o0 0 0 0),(4,.ptr st.length 0 0 0),(6,.ptr (st.length+1) 0 0 0),(7,.ptr (st.length+2) 0 0 0),(12,.mp (st.length+4))]) Tryz.underlying126 (by decide) rfl (by simp[Fr.leq,Fr.get]) rfl ?_)|refine i1G (b:=47) (tI:=12) (tE:=2) (tk:=13) (tv:=14) (id2:=2) (id3:=3) (i1:=12) (i2:=13) (i3:=14) (i4:=15) (F:=[(0,.ptr o0 0 0 0),(4,.ptr st.length 0 0 0),(6,.ptr (st.length+1) 0 0 0),(7,.ptr (st.length+2) 0 0 0),(12,.mp (st.length+4))]) Tryz.underlying126 (by decide) rfl (by simp[Fr.leq,Fr.get]) rfl ?_
    try simp only[go_sem,fx]
    refine rn ?_
    obtain⟨v26,hv26,h⟩:=ZA h
    refine(d2S _ _ _ _ _ hv26 _ _ _ _ q2 hnd (by simp only[go_sem,fx]) (by simp only[go_sem,fx]) (by simp only[go_sem,fx])).mono ?_
    rintro d1 st1 ⟨rfl,rfl⟩
    try simp only[go_sem,fx]
    obtain⟨c27,p9g,h⟩:=d4o h
    have fy:=(show [(a1.name,[.str v26.1])]=mrw Wt c27 from by rw[p9g];exact d4E (κ:=Bs) (E:=Wt) a1.name v26.1 [])
    have fy:=fa fy (show Wz a1.name [.str v26.1] (mrw Wt [])=mrw Wt c27 from by rw[p9g];exact d4E (κ:=Bs) (E:=Wt) a1.name v26.1 [])
    refine r1 ?_
    refine r0 ?_
    refine r0 ?_
    (repeat apply sq_)
    refine d0f 4 72 ?_
    try simp only[List.append_assoc,List.cons_append,List.nil_append]
    refine Zk (F:=[(0,.ptr o0 0 0 0),(2,.mp (st.length+4)),(6,.ptr (st.length+1) 0 0 0),(7,.ptr (st.length+2) 0 0 0),(67,.sl false 4 72 (rows Lr.cells a1.subs)),(68,.int .i64 (↑a1.subs.length:Int)),(69,.int .i64 0)]) (T:=(WE st [(o0,(.arr 0 4 0 [[.sl false 11 216 (rows Wq.cells WH),.mp o1,.ref false o2 q2 0 l2.length,.int .i64 v26.2]])),(o1,(.mps false (mrw d1r m1))),(o2,(.arr q2 2 16 (rows Wp.cells l2)))])++[some (.arr 0 4 0 [[.int .i64 a1.kind,.str a1.name,.sl false 1 16 (rows Wt a1.words),.sl false 4 72 (rows Lr.cells a1.subs)]]),some (.arr 0 4 0 [[.int .i64 0,.str [],.WB,.WB]]),some (.arr 0 4 0 [[.int .i64 a1.kind,.str v26.1,.ref false (st.length+3) gt0 0 t0.length,.ref false (st.length+5) 0 0 0]]),some (.arr gt0 1 16 (rows Wt t0)),some (.mps false (mrw Wt c27)),some (.arr 0 4 72 (rows Lr.cells []))]) (d1O (by simp) (YP hsc (by simp<;>omega)) (.lv (.lv (.live _ _ _ _ (.arr _ _ _ _ _ (.cons _ _ _ _ (.cons _ _ _ _ .s (.cons _ _ _ _ .s (.cons _ _ _ _ .s (.cons _ _ _ _ (.nref _ _ _ _ _ _ (WT.trans rfl)) .nil)))) (.same _))) (.lv (.lv (.lv (.nil _))))))) (by simp<;>omega) ⟨.s,.s,.s,.s,.s,.s,.s,trivial⟩ (by simp<;>omega)) ?_
    refine aln 67 fun hl1=>?_
    refine rng (body:=d0F n a1 WH m1 l2 c27) (kk:=d0G a1 v26 t0) (n:=a1.subs.length) (s0:=(v26.2,[]))
     (fun(gs1:Nat) (k1:Nat) (s1:Int×(List Lr))=>[(0,.ptr o0 0 0 0),(2,.mp (st.length+4)),(6,.ptr (st.length+1) 0 0 0),(7,.ptr (st.length+2) 0 0 0),(67,.sl false 4 72 (rows Lr.cells a1.subs)),(68,.int .i64 (↑a1.subs.length:Int)),(69,.int .i64 (↑k1:Int))])
     (fun(gs1:Nat) (k1:Nat) (s1:Int×(List Lr))=>(WE st [(o0,(.arr 0 4 0 [[.sl false 11 216 (rows Wq.cells WH),.mp o1,.ref false o2 q2 0 l2.length,.int .i64 s1.1]])),(o1,(.mps false (mrw d1r m1))),(o2,(.arr q2 2 16 (rows Wp.cells l2)))])++[none,some (.arr 0 4 0 [[.int .i64 0,.str [],.WB,.WB]]),some (.arr 0 4 0 [[.int .i64 a1.kind,.str v26.1,.ref false (st.length+3) gt0 0 t0.length,.ref false (st.length+5) gs1 0 s1.2.length]]),some (.arr gt0 1 16 (rows Wt t0)),some (.mps false (mrw Wt c27)),some (.arr gs1 4 72 (rows Lr.cells s1.2))])
     (fun(gt1:Nat) (t1:Int×(List Lr))=>[(6,.ptr (st.length+1) 0 0 0),(7,.ptr (st.length+2) 0 0 0)])
     (fun(gt1:Nat) (t1:Int×(List Lr))=>(WE st [(o0,(.arr 0 4 0 [[.sl false 11 216 (rows Wq.cells WH),.mp o1,.ref false o2 q2 0 l2.length,.int .i64 t1.1]])),(o1,(.mps false (mrw d1r m1))),(o2,(.arr q2 2 16 (rows Wp.cells l2)))])++[none,some (.arr 0 4 0 [[.int .i64 0,.str [],.WB,.WB]]),some (.arr 0 4 0 [[.int .i64 a1.kind,.str v26.1,.ref false (st.length+3) gt0 0 t0.length,.ref false (st.length+5) gt1 0 t1.2.length]]),some (.arr gt0 1 16 (rows Wt t0)),none,some (.arr gt1 4 72 (rows Lr.cells t1.2))])
     0 fx hl1 h (bu hsc)
     (fun gs1 k1 s1 b1 fx h hx1=>?_) (fun gs1 s1=>?_) (fun gt1 t1 fr1 st1 h hb=>?_)
    ·unfold d0F at h
     refine ct ?_
     refine rn ?_
     refine dw [1,5] 2 ?_
     obtain⟨v37,hv37,h⟩:=ZA h
     refine d2Y [o0,o1,o2,(st.length+4)] (fun st2 h2=>(d5Z n _ _ _ _ _ _ _ hv37 st2 o0 o1 o2 (st.length+4) q2 (by simp[fx]<;>omega) ((h2 _ (by simp)).trans (by simp only[go_sem,fx])) ((h2 _ (by simp)).trans (by simp only[go_sem,fx])) ((h2 _ (by simp)).trans (by simp only[go_sem,fx])) ((h2 _ (by simp)).trans (WR.trans rfl)))) (by simp) (by simp only[List.mem_cons,List.not_mem_nil,or_false,forall_eq_or_imp,forall_eq];exact⟨⟨by first|omega|(simp<;>omega),_,(by simp only[go_sem,fx]<;>rfl),Ob.noConfusion⟩,⟨by first|omega|(simp<;>omega),_,(by simp only[go_sem,fx]<;>rfl),Ob.noConfusion⟩,⟨by first|omega|(simp<;>omega),_,(by simp only[go_sem,fx]<;>rfl),Ob.noConfusion⟩,⟨by first|omega|(simp<;>omega),_,(WR.trans rfl),Ob.noConfusion⟩⟩) (by simp) ?_
     obtain⟨c39,p8z,h⟩:=d4o h
     have fy:=(show rows Lr.cells s1.2++[[.int .i64 v37.1.kind,.str v37.1.name,.sl false 1 16 (rows Wt v37.1.words),.sl false 4 72 (rows Lr.cells v37.1.subs)]]=rows Lr.cells c39 from by rw[p8z];first|exact Xi (E:=Lr.cells) s1.2 [v37.1]|simp only[go_sem,rows,List.map_append,List.map_cons,List.map_nil])
     have fy:=fa fy (show s1.2.length+1=c39.length from by rw[p8z];simp)
     obtain⟨fx,h⟩:=ck fx h
     try simp only[go_sem,fx,fy]
     try refine⟨by first|omega|(simp<;>omega),?_⟩
     refine rn ?_
     cases h
     exact d2U (gs1+1) (bu hsc)
    ·refine cf ?_
     refine d2V ?_;simp only[go_sem,fx]
     exact⟨gs1,(bu hsc)⟩
    ·try simp only[go_sem,fx]
     unfold d0G at h
     refine Zk hb ?_
     refine rr ?_
     exact fuo (.agg [.int .i64 a1.kind,.str v26.1,.sl false 1 16 (rows Wt t0),.sl false 4 72 (rows Lr.cells t1.2)]) (.agg _ _ (.cons _ _ _ _ .s (.cons _ _ _ _ .s (.cons _ _ _ _ (.ref _ _ _ _ _ _ _ _ _ (WT.trans rfl) ZK (by decide) (d5x _) (by simp only[go_sem])) (.cons _ _ _ _ (.ref _ _ _ _ _ _ _ _ _ (WT.trans rfl) ZK (by decide) (d5x _) (by simp only[go_sem])) .nil))))) h hsc
   ·refine r0 ?_
    refine r0 ?_
    (repeat apply sq_)
    refine d0f 4 72 ?_
    try simp only[List.append_assoc,List.cons_append,List.nil_append]
    refine Zk (F:=[(0,.ptr o0 0 0 0),(2,.d4d),(6,.ptr (st.length+1) 0 0 0),(7,.ptr (st.length+2) 0 0 0),(67,.sl false 4 72 (rows Lr.cells a1.subs)),(68,.int .i64 (↑a1.subs.length:Int)),(69,.int .i64 0)]) (T:=(WE st [(o0,(.arr 0 4 0 [[.sl false 11 216 (rows Wq.cells WH),.mp o1,.ref false o2 q2 0 l2.length,.int .i64 Xf]])),(o1,(.mps false (mrw d1r m1))),(o2,(.arr q2 2 16 (rows Wp.cells l2)))])++[some (.arr 0 4 0 [[.int .i64 a1.kind,.str a1.name,.sl false 1 16 (rows Wt a1.words),.sl false 4 72 (rows Lr.cells a1.subs)]]),some (.arr 0 4 0 [[.int .i64 0,.str [],.WB,.WB]]),some (.arr 0 4 0 [[.int .i64 a1.kind,.str a1.name,.ref false (st.length+3) gt0 0 t0.length,.ref false (st.length+4) 0 0 0]]),some (.arr gt0 1 16 (rows Wt t0)),some (.arr 0 4 72 (rows Lr.cells []))]) (d1O (by simp) (YP hsc (by simp<;>omega)) (.lv (.lv (.live _ _ _ _ (.arr _ _ _ _ _ (.cons _ _ _ _ (.cons _ _ _ _ .s (.cons _ _ _ _ .s (.cons _ _ _ _ .s (.cons _ _ _ _ (.nref _ _ _ _ _ _ (WT.trans rfl)) .nil)))) (.same _))) (.lv (.lv (.nil _)))))) (by simp<;>omega) ⟨.s,.s,.s,.s,.s,.s,.s,trivial⟩ (by simp<;>omega)) ?_
    refine aln 67 fun hl2=>?_
    refine rng (body:=d0H (Ys n) a1 WH m1 l2) (kk:=d0I a1 t0) (n:=a1.subs.length) (s0:=(Xf,[]))
     (fun(gs2:Nat) (k2:Nat) (s2:Int×(List Lr))=>[(0,.ptr o0 0 0 0),(2,.d4d),(6,.ptr (st.length+1) 0 0 0),(7,.ptr (st.length+2) 0 0 0),(67,.sl false 4 72 (rows Lr.cells a1.subs)),(68,.int .i64 (↑a1.subs.length:Int)),(69,.int .i64 (↑k2:Int))])
     (fun(gs2:Nat) (k2:Nat) (s2:Int×(List Lr))=>(WE st [(o0,(.arr 0 4 0 [[.sl false 11 216 (rows Wq.cells WH),.mp o1,.ref false o2 q2 0 l2.length,.int .i64 s2.1]])),(o1,(.mps false (mrw d1r m1))),(o2,(.arr q2 2 16 (rows Wp.cells l2)))])++[none,some (.arr 0 4 0 [[.int .i64 0,.str [],.WB,.WB]]),some (.arr 0 4 0 [[.int .i64 a1.kind,.str a1.name,.ref false (st.length+3) gt0 0 t0.length,.ref false (st.length+4) gs2 0 s2.2.length]]),some (.arr gt0 1 16 (rows Wt t0)),some (.arr gs2 4 72 (rows Lr.cells s2.2))])
     (fun(gt2:Nat) (t2:Int×(List Lr))=>[(6,.ptr (st.length+1) 0 0 0),(7,.ptr (st.length+2) 0 0 0)])
     (fun(gt2:Nat) (t2:Int×(List Lr))=>(WE st [(o0,(.arr 0 4 0 [[.sl false 11 216 (rows Wq.cells WH),.mp o1,.ref false o2 q2 0 l2.length,.int .i64 t2.1]])),(o1,(.mps false (mrw d1r m1))),(o2,(.arr q2 2 16 (rows Wp.cells l2)))])++[none,some (.arr 0 4 0 [[.int .i64 0,.str [],.WB,.WB]]),some (.arr 0 4 0 [[.int .i64 a1.kind,.str a1.name,.ref false (st.length+3) gt0 0 t0.length,.ref false (st.length+4) gt2 0 t2.2.length]]),some (.arr gt0 1 16 (rows Wt t0)),some (.arr gt2 4 72 (rows Lr.cells t2.2))])
     0 fx hl2 h (bu hsc)
     (fun gs2 k2 s2 b2 fx h hx2=>?_) (fun gs2 s2=>?_) (fun gt2 t2 fr1 st1 h hb=>?_)
    ·unfold d0H at h
     refine ct ?_
     refine rn ?_
     refine dw [1,5] 2 ?_
     obtain⟨v51,hv51,h⟩:=ZA h
     refine d2Y [o0,o1,o2] (fun st2 h2=>(ih _ _ _ _ _ _ hv51 st2 _ _ _ q2 hnd ((h2 _ (by simp)).trans (by simp only[go_sem,fx])) ((h2 _ (by simp)).trans (by simp only[go_sem,fx])) ((h2 _ (by simp)).trans (by simp only[go_sem,fx])))) (by simp) (by simp only[List.mem_cons,List.not_mem_nil,or_false,forall_eq_or_imp,forall_eq];exact⟨⟨by first|omega|(simp<;>omega),_,(by simp only[go_sem,fx]<;>rfl),Ob.noConfusion⟩,⟨by first|omega|(simp<;>omega),_,(by simp only[go_sem,fx]<;>rfl),Ob.noConfusion⟩,⟨by first|omega|(simp<;>omega),_,(by simp only[go_sem,fx]<;>rfl),Ob.noConfusion⟩⟩) (by simp) ?_
     obtain⟨c53,r1u,h⟩:=d4o h
     have fy:=(show rows Lr.cells s2.2++[[.int .i64 v51.1.kind,.str v51.1.name,.sl false 1 16 (rows Wt v51.1.words),.sl false 4 72 (rows Lr.cells v51.1.subs)]]=rows Lr.cells c53 from by rw[r1u];first|exact Xi (E:=Lr.cells) s2.2 [v51.1]|simp only[go_sem,rows,List.map_append,List.map_cons,List.map_nil])
     have fy:=fa fy (show s2.2.length+1=c53.length from by rw[r1u];simp)
     obtain⟨fx,h⟩:=ck fx h
     try simp only[go_sem,fx,fy]
     try refine⟨by first|omega|(simp<;>omega),?_⟩
     refine rn ?_
     cases h
     exact d2U (gs2+1) (bu hsc)
    ·refine cf ?_
     refine d2V ?_;simp only[go_sem,fx]
     exact⟨gs2,(bu hsc)⟩
    ·try simp only[go_sem,fx]
     unfold d0I at h
     refine Zk hb ?_
     refine rr ?_
     exact fuo (.agg [.int .i64 a1.kind,.str a1.name,.sl false 1 16 (rows Wt t0),.sl false 4 72 (rows Lr.cells t2.2)]) (.agg _ _ (.cons _ _ _ _ .s (.cons _ _ _ _ .s (.cons _ _ _ _ (.ref _ _ _ _ _ _ _ _ _ (WT.trans rfl) ZK (by decide) (d5x _) (by simp only[go_sem])) (.cons _ _ _ _ (.ref _ _ _ _ _ _ _ _ _ (WT.trans rfl) ZK (by decide) (d5x _) (by simp only[go_sem])) .nil))))) h hsc
theorem d6x:∀(n:Nat) (a1:Lr) (a2:Bs) (WH:(List Wq)) (Xf:Int) (m1:(List (Bs×Int))) (l2:(List Wp)) (r:(List (Bs×Int))) (h:YE n a1 a2 WH Xf m1 l2=some r),∀(st:St) (o0 o1 o2 q2:Nat) (hnd: [o0,o1,o2].Nodup) (XZ:Am.look st o0=some (.arr 0 4 0 [[.sl false 11 216 (rows Wq.cells WH),.mp o1,.ref false o2 q2 0 l2.length,.int .i64 Xf]])) (ZG:Am.look st o1=some (.mps false (mrw d1r m1))) (d1V:Am.look st o2=some (.arr q2 2 16 (rows Wp.cells l2))),Am.Spec Tryz.prog gl 64 [.ptr o0 0 0 0,.agg [.int .i64 a1.kind,.str a1.name,.sl false 1 16 (rows Wt a1.words),.sl false 4 72 (rows Lr.cells a1.subs)],.str a2] st (fun d st'=>d= .tup []∧st'=puts st [(o0,(.arr 0 4 0 [[.sl false 11 216 (rows Wq.cells WH),.mp o1,.ref false o2 q2 0 l2.length,.int .i64 Xf]])),(o1,(.mps false (mrw d1r r))),(o2,(.arr q2 2 16 (rows Wp.cells l2)))]):=by
 intro n
 induction n with
 |zero=>intro a1 a2 WH Xf m1 l2 r h;cases h
 |succ n ih=>
  intro a1 a2 WH Xf m1 l2 r h st o0 o1 o2 q2 hnd XZ ZG d1V
  unfold YE at h
  have ho0:=WA XZ
  have ho1:=WA ZG
  have ho2:=WA d1V
  have fx:=fa (fa (fa (idf ho0) (idf ho1)) (idf ho2)) (nd3 hnd)
  refine fb 34 [] [0,1,2,4,6,7,19,20,21,22] Tryz.func64 fun hsc=>?_
  refine ZJ (s':=(WE st [(o0,(.arr 0 4 0 [[.sl false 11 216 (rows Wq.cells WH),.mp o1,.ref false o2 q2 0 l2.length,.int .i64 Xf]])),(o1,(.mps false (mrw d1r m1))),(o2,(.arr q2 2 16 (rows Wp.cells l2)))])) (WJ (by simp[XZ,ZG,d1V])) ?_
  refine rn ?_
  obtain⟨c1,hc1,h⟩:=d4o h
  have fy:=(show Wz a2 [.int .i64 (↑m1.length:Int)] (mrw d1r m1)=mrw d1r c1 from by rw[hc1];exact d4E (κ:=Bs) (E:=d1r) a2 (↑m1.length:Int) m1)
  refine dwy [] 0 ?_
  refine aln 19 fun hl0=>?_
  refine rng (body:=d0d (YE n) a2 a1 WH Xf l2) (kk:=d0e) (n:=a1.subs.length) (s0:=c1)
   (fun(gs0:Unit) (k0:Nat) (s0:(List (Bs×Int)))=>[(0,.ptr o0 0 0 0),(2,.str a2),(19,.sl false 4 72 (rows Lr.cells a1.subs)),(20,.int .i64 (↑a1.subs.length:Int)),(21,.int .i64 (↑k0:Int))])
   (fun(gs0:Unit) (k0:Nat) (s0:(List (Bs×Int)))=>(WE st [(o0,(.arr 0 4 0 [[.sl false 11 216 (rows Wq.cells WH),.mp o1,.ref false o2 q2 0 l2.length,.int .i64 Xf]])),(o1,(.mps false (mrw d1r s0))),(o2,(.arr q2 2 16 (rows Wp.cells l2)))]))
   (fun(gt0:Unit) (t0:(List (Bs×Int)))=>[])
   (fun(gt0:Unit) (t0:(List (Bs×Int)))=>(WE st [(o0,(.arr 0 4 0 [[.sl false 11 216 (rows Wq.cells WH),.mp o1,.ref false o2 q2 0 l2.length,.int .i64 Xf]])),(o1,(.mps false (mrw d1r t0))),(o2,(.arr q2 2 16 (rows Wp.cells l2)))]))
   () fx hl0 h (bu0 hsc)
   (fun gs0 k0 s0 b0 fx h hx0=>?_) (fun gs0 s0=>?_) (fun gt0 t0 fr1 st1 h hb=>?_)
  ·unfold d0d at h
   refine ct ?_
   refine rn ?_
   refine dw [6] 0 ?_
   obtain⟨v6,hv6,h⟩:=ZA h
   refine d1v (i0M _ _ hv6) ?_
   obtain⟨fx,h⟩:=ck fx h
   try simp only[go_sem,fx]
   obtain⟨v8,hv8,h⟩:=ZA h
   refine d2Y [o0,o1,o2] (fun st2 h2=>(ih _ _ _ _ _ _ _ hv8 st2 _ _ _ q2 hnd ((h2 _ (by simp)).trans (by simp only[go_sem,fx])) ((h2 _ (by simp)).trans (by simp only[go_sem,fx])) ((h2 _ (by simp)).trans (by simp only[go_sem,fx])))) (by simp) (by simp only[List.mem_cons,List.not_mem_nil,or_false,forall_eq_or_imp,forall_eq];exact⟨⟨by first|omega|(simp<;>omega),_,(by simp only[go_sem,fx]<;>rfl),Ob.noConfusion⟩,⟨by first|omega|(simp<;>omega),_,(by simp only[go_sem,fx]<;>rfl),Ob.noConfusion⟩,⟨by first|omega|(simp<;>omega),_,(by simp only[go_sem,fx]<;>rfl),Ob.noConfusion⟩⟩) (by simp) ?_
   try simp only[go_sem,fx]
   try refine⟨by first|omega|(simp<;>omega),?_⟩
   refine rn ?_
   cases h
   exact d2U () (bu0 hsc)
  ·refine cf ?_
   refine d2V ?_;simp only[go_sem,fx]
   exact⟨(),(i9O hsc)⟩
  ·try simp only[go_sem,fx]
   unfold d0e at h
   refine d9k hb ?_
   refine rr ?_
   exact fus (.tup []) (.same _) h hsc
theorem d7b:∀(n:Nat) (a0:Lr) (a1:(List Bs)) (WH:Int) (Zh:Bs) (Zi:(List Bs)) (Xf:(List Lr)) (YS:(List Bs)) (Zb:(List Bs)) (Zj:(List Bs)) (r:Lr) (h:XJ n a0 a1 WH Zh Zi Xf YS Zb Zj=some r),∀(st:St) (o0 o1:Nat) (hnd: [o0,o1].Nodup) (XZ:Am.look st o0=some (.arr 0 7 0 [[.int .i64 WH,.str Zh,.sl false 1 16 (rows Wt Zi),.sl false 4 72 (rows Lr.cells Xf),.sl false 1 16 (rows Wt YS),.sl false 1 16 (rows Wt Zb),.sl false 1 16 (rows Wt Zj)]])) (ZG:Am.look st o1=some (.arr 0 1 0 [[.fn 140 [] [.ptr o0 0 0 0,.ptr o1 0 0 0]]])),Am.Spec Tryz.prog gl 140 [.agg [.int .i64 a0.kind,.str a0.name,.sl false 1 16 (rows Wt a0.words),.sl false 4 72 (rows Lr.cells a0.subs)],.sl false 1 16 (rows Wt a1),.ptr o0 0 0 0,.ptr o1 0 0 0] st (fun d st'=>d= .agg [.int .i64 r.kind,.str r.name,.sl false 1 16 (rows Wt r.words),.sl false 4 72 (rows Lr.cells r.subs)]∧st'=puts st []):=by
 intro n
 induction n with
 |zero=>intro a0 a1 WH Zh Zi Xf YS Zb Zj r h;cases h
 |succ n ih=>
  intro a0 a1 WH Zh Zi Xf YS Zb Zj r h st o0 o1 hnd XZ ZG
  unfold XJ at h
  have ho0:=WA XZ
  have ho1:=WA ZG
  have fx:=fa (fa (idf ho0) (idf ho1)) (nd2 hnd)
  refine fb 98 [.cell 6 31] [0,1,2,3,4,6,7,9,11,18,19,20,21,24,30,44,57,65,70,71,72,73,74,81,82,83,84] Tryz.func140 fun hsc=>?_
  refine ZJ (s':=(WE st [(o0,(.arr 0 7 0 [[.int .i64 WH,.str Zh,.sl false 1 16 (rows Wt Zi),.sl false 4 72 (rows Lr.cells Xf),.sl false 1 16 (rows Wt YS),.sl false 1 16 (rows Wt Zb),.sl false 1 16 (rows Wt Zj)]])),(o1,(.arr 0 1 0 [[.fn 140 [] [.ptr o0 0 0 0,.ptr o1 0 0 0]]]))])) (WJ (by simp[XZ,ZG])) ?_
  refine r0 ?_
  refine r0 ?_
  refine r0 ?_
  (repeat apply sq_)
  refine d0f 1 16 ?_
  try simp only[List.append_assoc,List.cons_append,List.nil_append]
  refine Zk (F:=[(1,.sl false 1 16 (rows Wt a1)),(2,.ptr o0 0 0 0),(3,.ptr o1 0 0 0),(4,.ptr st.length 0 0 0),(6,.ptr (st.length+1) 0 0 0),(7,.ptr (st.length+2) 0 0 0),(18,.sl false 1 16 (rows Wt a0.words)),(19,.int .i64 (↑a0.words.length:Int)),(20,.int .i64 0)]) (T:=(WE st [(o0,(.arr 0 7 0 [[.int .i64 WH,.str Zh,.sl false 1 16 (rows Wt Zi),.sl false 4 72 (rows Lr.cells Xf),.sl false 1 16 (rows Wt YS),.sl false 1 16 (rows Wt Zb),.sl false 1 16 (rows Wt Zj)]])),(o1,(.arr 0 1 0 [[.fn 140 [] [.ptr o0 0 0 0,.ptr o1 0 0 0]]]))])++[some (.arr 0 4 0 [[.int .i64 a0.kind,.str a0.name,.sl false 1 16 (rows Wt a0.words),.sl false 4 72 (rows Lr.cells a0.subs)]]),some (.arr 0 4 0 [[.int .i64 0,.str [],.WB,.WB]]),some (.arr 0 4 0 [[.int .i64 a0.kind,.str a0.name,.ref false (st.length+3) 0 0 0,.WB]]),some (.arr 0 1 16 (rows Wt []))]) (d1O (by simp) (YP hsc (by simp<;>omega)) (.lv (.lv (.live _ _ _ _ (.arr _ _ _ _ _ (.cons _ _ _ _ (.cons _ _ _ _ .s (.cons _ _ _ _ .s (.cons _ _ _ _ (.nref _ _ _ _ _ _ (WT.trans rfl)) (.cons _ _ _ _ .s .nil)))) (.same _))) (.lv (.nil _))))) (by simp<;>omega) ⟨.s,.s,.s,.s,.s,.s,.s,.s,.s,trivial⟩ (by simp<;>omega)) ?_
  refine aln 18 fun hl0=>?_
  refine rng (body:=d0y a1 a0 YS) (kk:=d0B (XJ n) a0 a1 WH Zh Zi Xf YS Zb Zj) (n:=a0.words.length) (s0:=[])
   (fun(gs0:Nat) (k0:Nat) (s0:(List Bs))=>[(1,.sl false 1 16 (rows Wt a1)),(2,.ptr o0 0 0 0),(3,.ptr o1 0 0 0),(4,.ptr st.length 0 0 0),(6,.ptr (st.length+1) 0 0 0),(7,.ptr (st.length+2) 0 0 0),(18,.sl false 1 16 (rows Wt a0.words)),(19,.int .i64 (↑a0.words.length:Int)),(20,.int .i64 (↑k0:Int))])
   (fun(gs0:Nat) (k0:Nat) (s0:(List Bs))=>(WE st [(o0,(.arr 0 7 0 [[.int .i64 WH,.str Zh,.sl false 1 16 (rows Wt Zi),.sl false 4 72 (rows Lr.cells Xf),.sl false 1 16 (rows Wt YS),.sl false 1 16 (rows Wt Zb),.sl false 1 16 (rows Wt Zj)]])),(o1,(.arr 0 1 0 [[.fn 140 [] [.ptr o0 0 0 0,.ptr o1 0 0 0]]]))])++[some (.arr 0 4 0 [[.int .i64 a0.kind,.str a0.name,.sl false 1 16 (rows Wt a0.words),.sl false 4 72 (rows Lr.cells a0.subs)]]),some (.arr 0 4 0 [[.int .i64 0,.str [],.WB,.WB]]),some (.arr 0 4 0 [[.int .i64 a0.kind,.str a0.name,.ref false (st.length+3) gs0 0 s0.length,.WB]]),some (.arr gs0 1 16 (rows Wt s0))])
   (fun(gt0:Nat) (t0:(List Bs))=>[(1,.sl false 1 16 (rows Wt a1)),(2,.ptr o0 0 0 0),(3,.ptr o1 0 0 0),(4,.ptr st.length 0 0 0),(6,.ptr (st.length+1) 0 0 0),(7,.ptr (st.length+2) 0 0 0)])
   (fun(gt0:Nat) (t0:(List Bs))=>(WE st [(o0,(.arr 0 7 0 [[.int .i64 WH,.str Zh,.sl false 1 16 (rows Wt Zi),.sl false 4 72 (rows Lr.cells Xf),.sl false 1 16 (rows Wt YS),.sl false 1 16 (rows Wt Zb),.sl false 1 16 (rows Wt Zj)]])),(o1,(.arr 0 1 0 [[.fn 140 [] [.ptr o0 0 0 0,.ptr o1 0 0 0]]]))])++[some (.arr 0 4 0 [[.int .i64 a0.kind,.str a0.name,.sl false 1 16 (rows Wt a0.words),.sl false 4 72 (rows Lr.cells a0.subs)]]),some (.arr 0 4 0 [[.int .i64 0,.str [],.WB,.WB]]),some (.arr 0 4 0 [[.int .i64 a0.kind,.str a0.name,.ref false (st.length+3) gt0 0 t0.length,.WB]]),some (.arr gt0 1 16 (rows Wt t0))])
   0 fx hl0 h (bu hsc)
   (fun gs0 k0 s0 b0 fx h hx0=>?_) (fun gs0 s0=>?_) (fun gt0 t0 fr1 st1 h hb=>?_)
  ·unfold d0y at h
   refine ct ?_
   refine cl h (Wx _ _) fun v23 h=>?_
   refine cd h (fun hc h=>?_) fun hc h=>?_
   ·obtain⟨fx,h⟩:=ck fx h
    refine r0 ?_
    obtain⟨c26,p8A,h⟩:=d4o h
    have fy:=(show rows Wt s0++[[.str (d9u [63] (get a0.words k0))]]=rows Wt c26 from by rw[p8A];first|exact Xi (E:=Wt) s0 [(d9u [63] (get a0.words k0))]|simp only[go_sem,rows,List.map_append,List.map_cons,List.map_nil])
    have fy:=fa fy (show s0.length+1=c26.length from by rw[p8A];simp)
    obtain⟨fx,h⟩:=ck fx h
    refine r1 ?_
    refine rn ?_
    cases h
    exact d2U (gs0+1) (bu hsc)
   ·refine cl h (Wx _ _) fun v31 h=>?_
    refine cd h (fun hc h=>?_) fun hc h=>?_
    ·obtain⟨fx,h⟩:=ck fx h
     refine r0 ?_
     obtain⟨c34,r1v,h⟩:=d4o h
     have fy:=(show rows Wt s0++[[.str (d9u [46] (get a0.words k0))]]=rows Wt c34 from by rw[r1v];first|exact Xi (E:=Wt) s0 [(d9u [46] (get a0.words k0))]|simp only[go_sem,rows,List.map_append,List.map_cons,List.map_nil])
     have fy:=fa fy (show s0.length+1=c34.length from by rw[r1v];simp)
     obtain⟨fx,h⟩:=ck fx h
     refine r1 ?_
     refine rn ?_
     cases h
     exact d2U (gs0+1) (bu hsc)
    ·refine r0 ?_
     obtain⟨c40,p8B,h⟩:=d4o h
     have fy:=(show rows Wt s0++[[.str (get a0.words k0)]]=rows Wt c40 from by rw[p8B];first|exact Xi (E:=Wt) s0 [(get a0.words k0)]|simp only[go_sem,rows,List.map_append,List.map_cons,List.map_nil])
     have fy:=fa fy (show s0.length+1=c40.length from by rw[p8B];simp)
     obtain⟨fx,h⟩:=ck fx h
     refine r1 ?_
     refine rn ?_
     cases h
     exact d2U (gs0+1) (bu hsc)
  ·refine cf ?_
   refine d2V ?_;simp only[go_sem,fx]
   exact⟨gs0,(bu hsc)⟩
  ·try simp only[go_sem,fx]
   unfold d0B at h
   refine Zk hb ?_
   refine cl h (WX _) fun v45 h=>?_
   refine rn ?_
   refine d2X (XF (XJ n) a0 WH Zh Zi Xf YS Zb Zj t0) r (fun(gj1:Unit) (j1:Bs×(List Bs))=>[(1,.sl false 1 16 (rows Wt j1.2)),(3,.ptr o1 0 0 0),(4,.ptr st.length 0 0 0),(6,.ptr (st.length+1) 0 0 0),(7,.ptr (st.length+2) 0 0 0)]) (fun(gj1:Unit) (j1:Bs×(List Bs))=>(WE st [(o0,(.arr 0 7 0 [[.int .i64 WH,.str Zh,.sl false 1 16 (rows Wt Zi),.sl false 4 72 (rows Lr.cells Xf),.sl false 1 16 (rows Wt YS),.sl false 1 16 (rows Wt Zb),.sl false 1 16 (rows Wt Zj)]])),(o1,(.arr 0 1 0 [[.fn 140 [] [.ptr o0 0 0 0,.ptr o1 0 0 0]]]))])++[some (.arr 0 4 0 [[.int .i64 a0.kind,.str a0.name,.sl false 1 16 (rows Wt a0.words),.sl false 4 72 (rows Lr.cells a0.subs)]]),some (.arr 0 4 0 [[.int .i64 0,.str [],.WB,.WB]]),some (.arr 0 4 0 [[.int .i64 a0.kind,.str j1.1,.ref false (st.length+3) gt0 0 t0.length,.WB]]),some (.arr gt0 1 16 (rows Wt t0))]) (fun gj1 j1 fr1 st1 h hb=>?_) (fun hj1=>?_)
   ·try simp only[go_sem,fx]
    unfold XF at h
    refine Zk hb ?_
    (repeat apply sq_)
    refine Zk (F:=[(1,.sl false 1 16 (rows Wt j1.2)),(3,.ptr o1 0 0 0),(4,.ptr st.length 0 0 0),(6,.ptr (st.length+1) 0 0 0),(7,.ptr (st.length+2) 0 0 0)]) (T:=(WE st [(o0,(.arr 0 7 0 [[.int .i64 WH,.str Zh,.sl false 1 16 (rows Wt Zi),.sl false 4 72 (rows Lr.cells Xf),.sl false 1 16 (rows Wt YS),.sl false 1 16 (rows Wt Zb),.sl false 1 16 (rows Wt Zj)]])),(o1,(.arr 0 1 0 [[.fn 140 [] [.ptr o0 0 0 0,.ptr o1 0 0 0]]]))])++[some (.arr 0 4 0 [[.int .i64 a0.kind,.str a0.name,.sl false 1 16 (rows Wt a0.words),.sl false 4 72 (rows Lr.cells a0.subs)]]),some (.arr 0 4 0 [[.int .i64 0,.str [],.WB,.WB]]),some (.arr 0 4 0 [[.int .i64 a0.kind,.str j1.1,.sl false 1 16 (rows Wt t0),.WB]])]) (d1O (by simp) (YP hsc (by simp<;>omega)) (.lv (.lv (.live _ _ _ _ (.arr _ _ _ _ _ (.cons _ _ _ _ (.cons _ _ _ _ .s (.cons _ _ _ _ .s (.cons _ _ _ _ (.ref _ _ _ _ _ _ _ _ _ (WT.trans rfl) (d3c (by first|decide|simp)) (by decide) (d5x _) (by simp only[go_sem])) (.cons _ _ _ _ .s .nil)))) (.same _))) (.nil _)))) (by simp<;>omega) ⟨.s,.s,.s,.s,.s,trivial⟩ (by simp<;>omega)) ?_
    refine r0 ?_
    (repeat apply sq_)
    refine d0f 4 72 ?_
    try simp only[List.append_assoc,List.cons_append,List.nil_append]
    refine Zk (F:=[(1,.sl false 1 16 (rows Wt j1.2)),(3,.ptr o1 0 0 0),(6,.ptr (st.length+1) 0 0 0),(7,.ptr (st.length+2) 0 0 0),(81,.sl false 4 72 (rows Lr.cells a0.subs)),(82,.int .i64 (↑a0.subs.length:Int)),(83,.int .i64 0)]) (T:=(WE st [(o0,(.arr 0 7 0 [[.int .i64 WH,.str Zh,.sl false 1 16 (rows Wt Zi),.sl false 4 72 (rows Lr.cells Xf),.sl false 1 16 (rows Wt YS),.sl false 1 16 (rows Wt Zb),.sl false 1 16 (rows Wt Zj)]])),(o1,(.arr 0 1 0 [[.fn 140 [] [.ptr o0 0 0 0,.ptr o1 0 0 0]]]))])++[some (.arr 0 4 0 [[.int .i64 a0.kind,.str a0.name,.sl false 1 16 (rows Wt a0.words),.sl false 4 72 (rows Lr.cells a0.subs)]]),some (.arr 0 4 0 [[.int .i64 0,.str [],.WB,.WB]]),some (.arr 0 4 0 [[.int .i64 a0.kind,.str j1.1,.sl false 1 16 (rows Wt t0),.ref false (st.length+3) 0 0 0]]),some (.arr 0 4 72 (rows Lr.cells []))]) (d1O (by simp) (YP hsc (by simp<;>omega)) (.lv (.lv (.live _ _ _ _ (.arr _ _ _ _ _ (.cons _ _ _ _ (.cons _ _ _ _ .s (.cons _ _ _ _ .s (.cons _ _ _ _ .s (.cons _ _ _ _ (.nref _ _ _ _ _ _ (WT.trans rfl)) .nil)))) (.same _))) (.lv (.nil _))))) (by simp<;>omega) ⟨.s,.s,.s,.s,.s,.s,.s,trivial⟩ (by simp<;>omega)) ?_
    refine aln 81 fun hl2=>?_
    refine rng (body:=d0z (XJ n) a0 j1 WH Zh Zi Xf YS Zb Zj) (kk:=d0A a0 j1 t0) (n:=a0.subs.length) (s0:=[])
     (fun(gs2:Nat) (k2:Nat) (s2:(List Lr))=>[(1,.sl false 1 16 (rows Wt j1.2)),(3,.ptr o1 0 0 0),(6,.ptr (st.length+1) 0 0 0),(7,.ptr (st.length+2) 0 0 0),(81,.sl false 4 72 (rows Lr.cells a0.subs)),(82,.int .i64 (↑a0.subs.length:Int)),(83,.int .i64 (↑k2:Int))])
     (fun(gs2:Nat) (k2:Nat) (s2:(List Lr))=>(WE st [(o0,(.arr 0 7 0 [[.int .i64 WH,.str Zh,.sl false 1 16 (rows Wt Zi),.sl false 4 72 (rows Lr.cells Xf),.sl false 1 16 (rows Wt YS),.sl false 1 16 (rows Wt Zb),.sl false 1 16 (rows Wt Zj)]])),(o1,(.arr 0 1 0 [[.fn 140 [] [.ptr o0 0 0 0,.ptr o1 0 0 0]]]))])++[none,some (.arr 0 4 0 [[.int .i64 0,.str [],.WB,.WB]]),some (.arr 0 4 0 [[.int .i64 a0.kind,.str j1.1,.sl false 1 16 (rows Wt t0),.ref false (st.length+3) gs2 0 s2.length]]),some (.arr gs2 4 72 (rows Lr.cells s2))])
     (fun(gt2:Nat) (t2:(List Lr))=>[(6,.ptr (st.length+1) 0 0 0),(7,.ptr (st.length+2) 0 0 0)])
     (fun(gt2:Nat) (t2:(List Lr))=>(WE st [(o0,(.arr 0 7 0 [[.int .i64 WH,.str Zh,.sl false 1 16 (rows Wt Zi),.sl false 4 72 (rows Lr.cells Xf),.sl false 1 16 (rows Wt YS),.sl false 1 16 (rows Wt Zb),.sl false 1 16 (rows Wt Zj)]])),(o1,(.arr 0 1 0 [[.fn 140 [] [.ptr o0 0 0 0,.ptr o1 0 0 0]]]))])++[none,some (.arr 0 4 0 [[.int .i64 0,.str [],.WB,.WB]]),some (.arr 0 4 0 [[.int .i64 a0.kind,.str j1.1,.sl false 1 16 (rows Wt t0),.ref false (st.length+3) gt2 0 t2.length]]),some (.arr gt2 4 72 (rows Lr.cells t2))])
     0 fx hl2 h (bu hsc)
     (fun gs2 k2 s2 b2 fx h hx2=>?_) (fun gs2 s2=>?_) (fun gt2 t2 fr1 st1 h hb=>?_)
    ·unfold d0z at h
     refine ct ?_
     refine rn ?_
     refine dw [1,5] 2 ?_
     obtain⟨v65,hv65,h⟩:=ZA h
     refine d2Y [o0,o1] (fun st2 h2=>(ih _ _ _ _ _ _ _ _ _ _ hv65 st2 _ _ hnd ((h2 _ (by simp)).trans (by simp only[go_sem,fx])) ((h2 _ (by simp)).trans (by simp only[go_sem,fx])))) (by simp) (by simp only[List.mem_cons,List.not_mem_nil,or_false,forall_eq_or_imp,forall_eq];exact⟨⟨by first|omega|(simp<;>omega),_,(by simp only[go_sem,fx]<;>rfl),Ob.noConfusion⟩,⟨by first|omega|(simp<;>omega),_,(by simp only[go_sem,fx]<;>rfl),Ob.noConfusion⟩⟩) (by simp) ?_
     obtain⟨c67,r1w,h⟩:=d4o h
     have fy:=(show rows Lr.cells s2++[[.int .i64 v65.kind,.str v65.name,.sl false 1 16 (rows Wt v65.words),.sl false 4 72 (rows Lr.cells v65.subs)]]=rows Lr.cells c67 from by rw[r1w];first|exact Xi (E:=Lr.cells) s2 [v65]|simp only[go_sem,rows,List.map_append,List.map_cons,List.map_nil])
     have fy:=fa fy (show s2.length+1=c67.length from by rw[r1w];simp)
     obtain⟨fx,h⟩:=ck fx h
     try simp only[go_sem,fx,fy]
     try refine⟨by first|omega|(simp<;>omega),?_⟩
     refine rn ?_
     cases h
     exact d2U (gs2+1) (bu hsc)
    ·refine cf ?_
     refine d2V ?_;simp only[go_sem,fx]
     exact⟨gs2,(bu hsc)⟩
    ·try simp only[go_sem,fx]
     unfold d0A at h
     refine Zk hb ?_
     refine rr ?_
     exact fuo (.agg [.int .i64 a0.kind,.str j1.1,.sl false 1 16 (rows Wt t0),.sl false 4 72 (rows Lr.cells t2)]) (.agg _ _ (.cons _ _ _ _ .s (.cons _ _ _ _ .s (.cons _ _ _ _ .s (.cons _ _ _ _ (.ref _ _ _ _ _ _ _ _ _ (WT.trans rfl) ZK (by decide) (d5x _) (by simp only[go_sem])) .nil))))) h hsc (hr:=by rintro rfl;exact⟨rfl,WJ (by simp[XZ,ZG])⟩)
   ·refine cd h (fun hc h=>?_) fun hc h=>?_
    ·(repeat apply sq_)
     refine d0f 1 16 ?_
     try simp only[List.append_assoc,List.cons_append,List.nil_append]
     refine Zk (F:=[(1,.sl false 1 16 (rows Wt a1)),(2,.ptr o0 0 0 0),(3,.ptr o1 0 0 0),(4,.ptr st.length 0 0 0),(6,.ptr (st.length+1) 0 0 0),(7,.ptr (st.length+2) 0 0 0),(44,.bool v45)]) (T:=(WE st [(o0,(.arr 0 7 0 [[.int .i64 WH,.str Zh,.sl false 1 16 (rows Wt Zi),.sl false 4 72 (rows Lr.cells Xf),.sl false 1 16 (rows Wt YS),.sl false 1 16 (rows Wt Zb),.sl false 1 16 (rows Wt Zj)]])),(o1,(.arr 0 1 0 [[.fn 140 [] [.ptr o0 0 0 0,.ptr o1 0 0 0]]]))])++[some (.arr 0 4 0 [[.int .i64 a0.kind,.str a0.name,.sl false 1 16 (rows Wt a0.words),.sl false 4 72 (rows Lr.cells a0.subs)]]),some (.arr 0 4 0 [[.int .i64 0,.str [],.WB,.WB]]),some (.arr 0 4 0 [[.int .i64 a0.kind,.str a0.name,.ref false (st.length+3) gt0 0 t0.length,.WB]]),some (.arr gt0 1 16 (rows Wt t0)),some (.arr 0 1 16 (rows Wt []))]) (d1O (by simp) (YP hsc (by simp<;>omega)) (.lv (.lv (.lv (.lv (.lv (.nil _)))))) (by simp<;>omega) ⟨.s,.s,.s,.s,.s,.s,.s,trivial⟩ (by simp<;>omega)) ?_
     refine rs ?_
     refine dw [1,3] 2 ?_
     obtain⟨v46,hv46,h⟩:=ZA h
     refine d2Y [(st.length+4)] (fun st2 h2=>(Xp _ _ _ hv46 st2 (st.length+4) 0 (by simp) ((h2 _ (by simp)).trans (WR.trans rfl)))) (by simp) (by simp only[List.mem_cons,List.not_mem_nil,or_false,forall_eq_or_imp,forall_eq];exact⟨by first|omega|(simp<;>omega),_,(WR.trans rfl),Ob.noConfusion⟩) (by simp) ?_
     obtain⟨c48,r1x,h⟩:=d4o h
     have fy:=(show rows Wt v46++[[.str a0.name]]=rows Wt c48 from by rw[r1x];first|exact Xi (E:=Wt) v46 [a0.name]|simp only[go_sem,rows,List.map_append,List.map_cons,List.map_nil])
     have fy:=fa fy (show v46.length+1=c48.length from by rw[r1x];simp)
     obtain⟨fx,h⟩:=ck fx h
     try simp only[go_sem,fx,fy]
     try refine⟨by first|omega|(simp<;>omega),?_⟩
     obtain⟨fx,h⟩:=ck fx h
     refine r0 ?_
     refine hj1 () _ _ _ h ?_;exact(bu hsc (hf:=⟨.ref _ _ _ _ _ _ _ _ _ (WT.trans rfl) (d3c (by first|decide|simp)) (by decide) (d5x _) (by simp only[go_sem]),.s,.s,.s,.s,trivial⟩))
    ·refine cl h (YT _ _) fun v54 h=>?_
     refine cd h (fun hc h=>?_) fun hc h=>?_
     ·obtain⟨fx,h⟩:=ck fx h
      refine r0 ?_
      refine hj1 () _ _ _ h ?_;exact(bu hsc)
     ·refine rn ?_
      obtain⟨v56,hv56,h⟩:=ZA h
      refine d2H (fun hG=>(Wx _ _ _ (i5t hv56 (by simpa using hG)))) ?_
      refine cd h (fun hc h=>?_) fun hc h=>?_
      ·obtain⟨fx,h⟩:=ck fx h
       refine r0 ?_
       refine hj1 () _ _ _ h ?_;exact(bu hsc)
      ·refine r0 ?_
       refine hj1 () _ _ _ h ?_;exact(bu hsc)
end Go.Proofs.YtfacbpehlibilaaGreatDoor
