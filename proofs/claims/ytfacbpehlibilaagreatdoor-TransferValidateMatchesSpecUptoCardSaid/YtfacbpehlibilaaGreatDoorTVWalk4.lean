import Derived.Test.YtfacbpehlibilaaGreatDoorTVWalk3
set_option linter.unusedVariables false
set_option linter.unusedSimpArgs false
set_option maxHeartbeats 2000000
set_option maxRecDepth 100000
namespace Go.Proofs.YtfacbpehlibilaaGreatDoor
open Go Go.Am
theorem u7s:∀(n:Nat) (a1:p6w) (r5q:(List r4V)) (r5T:Int) (m1:(List (Bs×Int))) (l2:(List r4W)) (r:p6w×Int) (h:r9n n a1 r5q r5T m1 l2=some r),∀(st:St) (o0 o1 o2 q2:Nat) (hnd: [o0,o1,o2].Nodup) (r6Q:Am.look st o0=some (.arr 0 4 0 [[.sl false 11 216 (rows r4V.cells r5q),.mp o1,.ref false o2 q2 0 l2.length,.int .i64 r5T]])) (r9o:Am.look st o1=some (.mps false (mrw u0I m1))) (u1s:Am.look st o2=some (.arr q2 2 16 (rows r4W.cells l2))),Am.Spec Tryz.prog gl 63 [.ptr o0 0 0 0,.agg [.int .i64 a1.kind,.str a1.name,.sl false 1 16 (rows r4X a1.words),.sl false 4 72 (rows p6w.cells a1.subs)],.u4v] st (fun d st'=>d= .agg [.int .i64 r.1.kind,.str r.1.name,.sl false 1 16 (rows r4X r.1.words),.sl false 4 72 (rows p6w.cells r.1.subs)]∧st'=puts st [(o0,(.arr 0 4 0 [[.sl false 11 216 (rows r4V.cells r5q),.mp o1,.ref false o2 q2 0 l2.length,.int .i64 r.2]])),(o1,(.mps false (mrw u0I m1))),(o2,(.arr q2 2 16 (rows r4W.cells l2)))]):=by
 intro n
 induction n with
 |zero=>intro a1 r5q r5T m1 l2 r h;cases h
 |succ n ih=>
  intro a1 r5q r5T m1 l2 r h st o0 o1 o2 q2 hnd r6Q r9o u1s
  unfold r9n at h
  have ho0:=r5h r6Q
  have ho1:=r5h r9o
  have ho2:=r5h u1s
  have fx:=fa (fa (fa (idf ho0) (idf ho1)) (idf ho2)) (nd3 hnd)
  refine fb 84 [.cell 6 31] [0,1,2,4,6,7,9,10,11,12,13,14,16,23,24,25,26,35,45,48,50,67,68,69,70] Tryz.func63 fun hsc=>?_
  refine r8l (s':=(r5k st [(o0,(.arr 0 4 0 [[.sl false 11 216 (rows r4V.cells r5q),.mp o1,.ref false o2 q2 0 l2.length,.int .i64 r5T]])),(o1,(.mps false (mrw u0I m1))),(o2,(.arr q2 2 16 (rows r4W.cells l2)))])) (r5p (by simp[r6Q,r9o,u1s])) ?_
  refine r0 ?_
  refine r0 ?_
  refine r0 ?_
  (repeat apply sq_)
  refine r9q 1 16 ?_
  try simp only[List.append_assoc,List.cons_append,List.nil_append]
  refine r6O (F:=[(0,.ptr o0 0 0 0),(2,.u4v),(4,.ptr st.length 0 0 0),(6,.ptr (st.length+1) 0 0 0),(7,.ptr (st.length+2) 0 0 0),(23,.sl false 1 16 (rows r4X a1.words)),(24,.int .i64 (↑a1.words.length:Int)),(25,.int .i64 0)]) (T:=(r5k st [(o0,(.arr 0 4 0 [[.sl false 11 216 (rows r4V.cells r5q),.mp o1,.ref false o2 q2 0 l2.length,.int .i64 r5T]])),(o1,(.mps false (mrw u0I m1))),(o2,(.arr q2 2 16 (rows r4W.cells l2)))])++[some (.arr 0 4 0 [[.int .i64 a1.kind,.str a1.name,.sl false 1 16 (rows r4X a1.words),.sl false 4 72 (rows p6w.cells a1.subs)]]),some (.arr 0 4 0 [[.int .i64 0,.str [],.r5g,.r5g]]),some (.arr 0 4 0 [[.int .i64 a1.kind,.str a1.name,.ref false (st.length+3) 0 0 0,.r5g]]),some (.arr 0 1 16 (rows r4X []))]) (u0G (by simp) (r7P hsc (by simp<;>omega)) (.lv (.lv (.live _ _ _ _ (.arr _ _ _ _ _ (.cons _ _ _ _ (.cons _ _ _ _ .s (.cons _ _ _ _ .s (.cons _ _ _ _ (.nref _ _ _ _ _ _ (r5u.trans rfl)) (.cons _ _ _ _ .s .nil)))) (.same _))) (.lv (.nil _))))) (by simp<;>omega) ⟨.s,.s,.s,.s,.s,.s,.s,.s,trivial⟩ (by simp<;>omega)) ?_
  refine aln 23 fun hl0=>?_
  refine rng (body:=u1P a1) (kk:=u1U (r9n n) n a1 r5q r5T m1 l2) (n:=a1.words.length) (s0:=[])
   (fun(gs0:Nat) (k0:Nat) (s0:(List Bs))=>[(0,.ptr o0 0 0 0),(2,.u4v),(4,.ptr st.length 0 0 0),(6,.ptr (st.length+1) 0 0 0),(7,.ptr (st.length+2) 0 0 0),(23,.sl false 1 16 (rows r4X a1.words)),(24,.int .i64 (↑a1.words.length:Int)),(25,.int .i64 (↑k0:Int))])
   (fun(gs0:Nat) (k0:Nat) (s0:(List Bs))=>(r5k st [(o0,(.arr 0 4 0 [[.sl false 11 216 (rows r4V.cells r5q),.mp o1,.ref false o2 q2 0 l2.length,.int .i64 r5T]])),(o1,(.mps false (mrw u0I m1))),(o2,(.arr q2 2 16 (rows r4W.cells l2)))])++[some (.arr 0 4 0 [[.int .i64 a1.kind,.str a1.name,.sl false 1 16 (rows r4X a1.words),.sl false 4 72 (rows p6w.cells a1.subs)]]),some (.arr 0 4 0 [[.int .i64 0,.str [],.r5g,.r5g]]),some (.arr 0 4 0 [[.int .i64 a1.kind,.str a1.name,.ref false (st.length+3) gs0 0 s0.length,.r5g]]),some (.arr gs0 1 16 (rows r4X s0))])
   (fun(gt0:Nat) (t0:(List Bs))=>[(0,.ptr o0 0 0 0),(2,.u4v),(4,.ptr st.length 0 0 0),(6,.ptr (st.length+1) 0 0 0),(7,.ptr (st.length+2) 0 0 0)])
   (fun(gt0:Nat) (t0:(List Bs))=>(r5k st [(o0,(.arr 0 4 0 [[.sl false 11 216 (rows r4V.cells r5q),.mp o1,.ref false o2 q2 0 l2.length,.int .i64 r5T]])),(o1,(.mps false (mrw u0I m1))),(o2,(.arr q2 2 16 (rows r4W.cells l2)))])++[some (.arr 0 4 0 [[.int .i64 a1.kind,.str a1.name,.sl false 1 16 (rows r4X a1.words),.sl false 4 72 (rows p6w.cells a1.subs)]]),some (.arr 0 4 0 [[.int .i64 0,.str [],.r5g,.r5g]]),some (.arr 0 4 0 [[.int .i64 a1.kind,.str a1.name,.ref false (st.length+3) gt0 0 t0.length,.r5g]]),some (.arr gt0 1 16 (rows r4X t0))])
   0 fx hl0 h (bu hsc)
   (fun gs0 k0 s0 b0 fx h hx0=>?_) (fun gs0 s0=>?_) (fun gt0 t0 fr1 st1 h hb=>?_)
  ·unfold u1P at h
   refine ct ?_
   refine cd h (fun hc h=>?_) fun hc h=>?_
   ·refine r0 ?_
    obtain⟨c14,x5G,h⟩:=u2v h
    have fy:=(show rows r4X s0++[[.str ([]:Bs)]]=rows r4X c14 from by rw[x5G];first|exact r5y (E:=r4X) s0 [([]:Bs)]|simp only[go_sem,rows,List.map_append,List.map_cons,List.map_nil])
    have fy:=fa fy (show s0.length+1=c14.length from by rw[x5G];simp)
    obtain⟨fx,h⟩:=ck fx h
    refine r1 ?_
    refine rn ?_
    cases h
    exact u2o (gs0+1) (bu hsc)
   ·refine r0 ?_
    obtain⟨c20,x4a,h⟩:=u2v h
    have fy:=(show rows r4X s0++[[.str (get a1.words k0)]]=rows r4X c20 from by rw[x4a];first|exact r5y (E:=r4X) s0 [(get a1.words k0)]|simp only[go_sem,rows,List.map_append,List.map_cons,List.map_nil])
    have fy:=fa fy (show s0.length+1=c20.length from by rw[x4a];simp)
    obtain⟨fx,h⟩:=ck fx h
    refine r1 ?_
    refine rn ?_
    cases h
    exact u2o (gs0+1) (bu hsc)
  ·refine cf ?_
   refine u2n ?_;simp only[go_sem,fx]
   exact⟨gs0,(bu hsc)⟩
  ·try simp only[go_sem,fx]
   unfold u1U at h
   refine r6O hb ?_
   refine cl h (r5F _) fun v25 h=>?_
   refine cd h (fun hc h=>?_) fun hc h=>?_
   ·refine r0 ?_
    first|refine sq_ (w2j (b:=47) (tI:=12) (tE:=2) (tk:=13) (tv:=14) (id2:=2) (id3:=3) (i1:=12) (i2:=13) (i3:=14) (i4:=15) (F:=[(0,.ptr o0 0 0 0),(4,.ptr st.length 0 0 0),(6,.ptr (st.length+1) 0 0 0),(7,.ptr (st.length+2) 0 0 0),(12,.mp (st.length+4))]) Tryz.underlying126 (by decide) rfl (by simp[Fr.leq,Fr.get]) rfl ?_)|refine w2j (b:=47) (tI:=12) (tE:=2) (tk:=13) (tv:=14) (id2:=2) (id3:=3) (i1:=12) (i2:=13) (i3:=14) (i4:=15) (F:=[(0,.ptr o0 0 0 0),(4,.ptr st.length 0 0 0),(6,.ptr (st.length+1) 0 0 0),(7,.ptr (st.length+2) 0 0 0),(12,.mp (st.length+4))]) Tryz.underlying126 (by decide) rfl (by simp[Fr.leq,Fr.get]) rfl ?_
    try simp only[go_sem,fx]
    refine rn ?_
    obtain⟨v26,hv26,h⟩:=r7G h
    refine(u2I _ _ _ _ _ hv26 _ _ _ _ q2 hnd (by simp only[go_sem,fx]) (by simp only[go_sem,fx]) (by simp only[go_sem,fx])).mono ?_
    rintro d1 st1 ⟨rfl,rfl⟩
    try simp only[go_sem,fx]
    obtain⟨c27,x9q,h⟩:=u2v h
    have fy:=(show [(a1.name,[.str v26.1])]=mrw r4X c27 from by rw[x9q];exact u4W (κ:=Bs) (E:=r4X) a1.name v26.1 [])
    have fy:=fa fy (show r5j a1.name [.str v26.1] (mrw r4X [])=mrw r4X c27 from by rw[x9q];exact u4W (κ:=Bs) (E:=r4X) a1.name v26.1 [])
    refine r1 ?_
    refine r0 ?_
    refine r0 ?_
    (repeat apply sq_)
    refine r9q 4 72 ?_
    try simp only[List.append_assoc,List.cons_append,List.nil_append]
    refine r6O (F:=[(0,.ptr o0 0 0 0),(2,.mp (st.length+4)),(6,.ptr (st.length+1) 0 0 0),(7,.ptr (st.length+2) 0 0 0),(67,.sl false 4 72 (rows p6w.cells a1.subs)),(68,.int .i64 (↑a1.subs.length:Int)),(69,.int .i64 0)]) (T:=(r5k st [(o0,(.arr 0 4 0 [[.sl false 11 216 (rows r4V.cells r5q),.mp o1,.ref false o2 q2 0 l2.length,.int .i64 v26.2]])),(o1,(.mps false (mrw u0I m1))),(o2,(.arr q2 2 16 (rows r4W.cells l2)))])++[some (.arr 0 4 0 [[.int .i64 a1.kind,.str a1.name,.sl false 1 16 (rows r4X a1.words),.sl false 4 72 (rows p6w.cells a1.subs)]]),some (.arr 0 4 0 [[.int .i64 0,.str [],.r5g,.r5g]]),some (.arr 0 4 0 [[.int .i64 a1.kind,.str v26.1,.ref false (st.length+3) gt0 0 t0.length,.ref false (st.length+5) 0 0 0]]),some (.arr gt0 1 16 (rows r4X t0)),some (.mps false (mrw r4X c27)),some (.arr 0 4 72 (rows p6w.cells []))]) (u0G (by simp) (r7P hsc (by simp<;>omega)) (.lv (.lv (.live _ _ _ _ (.arr _ _ _ _ _ (.cons _ _ _ _ (.cons _ _ _ _ .s (.cons _ _ _ _ .s (.cons _ _ _ _ .s (.cons _ _ _ _ (.nref _ _ _ _ _ _ (r5u.trans rfl)) .nil)))) (.same _))) (.lv (.lv (.lv (.nil _))))))) (by simp<;>omega) ⟨.s,.s,.s,.s,.s,.s,.s,trivial⟩ (by simp<;>omega)) ?_
    refine aln 67 fun hl1=>?_
    refine rng (body:=u1Q n a1 r5q m1 l2 c27) (kk:=u1R a1 v26 t0) (n:=a1.subs.length) (s0:=(v26.2,[]))
     (fun(gs1:Nat) (k1:Nat) (s1:Int×(List p6w))=>[(0,.ptr o0 0 0 0),(2,.mp (st.length+4)),(6,.ptr (st.length+1) 0 0 0),(7,.ptr (st.length+2) 0 0 0),(67,.sl false 4 72 (rows p6w.cells a1.subs)),(68,.int .i64 (↑a1.subs.length:Int)),(69,.int .i64 (↑k1:Int))])
     (fun(gs1:Nat) (k1:Nat) (s1:Int×(List p6w))=>(r5k st [(o0,(.arr 0 4 0 [[.sl false 11 216 (rows r4V.cells r5q),.mp o1,.ref false o2 q2 0 l2.length,.int .i64 s1.1]])),(o1,(.mps false (mrw u0I m1))),(o2,(.arr q2 2 16 (rows r4W.cells l2)))])++[none,some (.arr 0 4 0 [[.int .i64 0,.str [],.r5g,.r5g]]),some (.arr 0 4 0 [[.int .i64 a1.kind,.str v26.1,.ref false (st.length+3) gt0 0 t0.length,.ref false (st.length+5) gs1 0 s1.2.length]]),some (.arr gt0 1 16 (rows r4X t0)),some (.mps false (mrw r4X c27)),some (.arr gs1 4 72 (rows p6w.cells s1.2))])
     (fun(gt1:Nat) (t1:Int×(List p6w))=>[(6,.ptr (st.length+1) 0 0 0),(7,.ptr (st.length+2) 0 0 0)])
     (fun(gt1:Nat) (t1:Int×(List p6w))=>(r5k st [(o0,(.arr 0 4 0 [[.sl false 11 216 (rows r4V.cells r5q),.mp o1,.ref false o2 q2 0 l2.length,.int .i64 t1.1]])),(o1,(.mps false (mrw u0I m1))),(o2,(.arr q2 2 16 (rows r4W.cells l2)))])++[none,some (.arr 0 4 0 [[.int .i64 0,.str [],.r5g,.r5g]]),some (.arr 0 4 0 [[.int .i64 a1.kind,.str v26.1,.ref false (st.length+3) gt0 0 t0.length,.ref false (st.length+5) gt1 0 t1.2.length]]),some (.arr gt0 1 16 (rows r4X t0)),none,some (.arr gt1 4 72 (rows p6w.cells t1.2))])
     0 fx hl1 h (bu hsc)
     (fun gs1 k1 s1 b1 fx h hx1=>?_) (fun gs1 s1=>?_) (fun gt1 t1 fr1 st1 h hb=>?_)
    ·unfold u1Q at h
     refine ct ?_
     refine rn ?_
     refine dw [1,5] 2 ?_
     obtain⟨v37,hv37,h⟩:=r7G h
     refine u2j [o0,o1,o2,(st.length+4)] (fun st2 h2=>(u6B n _ _ _ _ _ _ _ hv37 st2 o0 o1 o2 (st.length+4) q2 (by simp[fx]<;>omega) ((h2 _ (by simp)).trans (by simp only[go_sem,fx])) ((h2 _ (by simp)).trans (by simp only[go_sem,fx])) ((h2 _ (by simp)).trans (by simp only[go_sem,fx])) ((h2 _ (by simp)).trans (r5x.trans rfl)))) (by simp) (by simp only[List.mem_cons,List.not_mem_nil,or_false,forall_eq_or_imp,forall_eq];exact⟨⟨by first|omega|(simp<;>omega),_,(by simp only[go_sem,fx]<;>rfl),Ob.noConfusion⟩,⟨by first|omega|(simp<;>omega),_,(by simp only[go_sem,fx]<;>rfl),Ob.noConfusion⟩,⟨by first|omega|(simp<;>omega),_,(by simp only[go_sem,fx]<;>rfl),Ob.noConfusion⟩,⟨by first|omega|(simp<;>omega),_,(r5x.trans rfl),Ob.noConfusion⟩⟩) (by simp) ?_
     obtain⟨c39,x8H,h⟩:=u2v h
     have fy:=(show rows p6w.cells s1.2++[[.int .i64 v37.1.kind,.str v37.1.name,.sl false 1 16 (rows r4X v37.1.words),.sl false 4 72 (rows p6w.cells v37.1.subs)]]=rows p6w.cells c39 from by rw[x8H];first|exact r5y (E:=p6w.cells) s1.2 [v37.1]|simp only[go_sem,rows,List.map_append,List.map_cons,List.map_nil])
     have fy:=fa fy (show s1.2.length+1=c39.length from by rw[x8H];simp)
     obtain⟨fx,h⟩:=ck fx h
     try simp only[go_sem,fx,fy]
     try refine⟨by first|omega|(simp<;>omega),?_⟩
     refine rn ?_
     cases h
     exact u2o (gs1+1) (bu hsc)
    ·refine cf ?_
     refine u2n ?_;simp only[go_sem,fx]
     exact⟨gs1,(bu hsc)⟩
    ·try simp only[go_sem,fx]
     unfold u1R at h
     refine r6O hb ?_
     refine rr ?_
     exact fuo (.agg [.int .i64 a1.kind,.str v26.1,.sl false 1 16 (rows r4X t0),.sl false 4 72 (rows p6w.cells t1.2)]) (.agg _ _ (.cons _ _ _ _ .s (.cons _ _ _ _ .s (.cons _ _ _ _ (.ref _ _ _ _ _ _ _ _ _ (r5u.trans rfl) r9r (by decide) (u4I _) (by simp only[go_sem])) (.cons _ _ _ _ (.ref _ _ _ _ _ _ _ _ _ (r5u.trans rfl) r9r (by decide) (u4I _) (by simp only[go_sem])) .nil))))) h hsc
   ·refine r0 ?_
    refine r0 ?_
    (repeat apply sq_)
    refine r9q 4 72 ?_
    try simp only[List.append_assoc,List.cons_append,List.nil_append]
    refine r6O (F:=[(0,.ptr o0 0 0 0),(2,.u4v),(6,.ptr (st.length+1) 0 0 0),(7,.ptr (st.length+2) 0 0 0),(67,.sl false 4 72 (rows p6w.cells a1.subs)),(68,.int .i64 (↑a1.subs.length:Int)),(69,.int .i64 0)]) (T:=(r5k st [(o0,(.arr 0 4 0 [[.sl false 11 216 (rows r4V.cells r5q),.mp o1,.ref false o2 q2 0 l2.length,.int .i64 r5T]])),(o1,(.mps false (mrw u0I m1))),(o2,(.arr q2 2 16 (rows r4W.cells l2)))])++[some (.arr 0 4 0 [[.int .i64 a1.kind,.str a1.name,.sl false 1 16 (rows r4X a1.words),.sl false 4 72 (rows p6w.cells a1.subs)]]),some (.arr 0 4 0 [[.int .i64 0,.str [],.r5g,.r5g]]),some (.arr 0 4 0 [[.int .i64 a1.kind,.str a1.name,.ref false (st.length+3) gt0 0 t0.length,.ref false (st.length+4) 0 0 0]]),some (.arr gt0 1 16 (rows r4X t0)),some (.arr 0 4 72 (rows p6w.cells []))]) (u0G (by simp) (r7P hsc (by simp<;>omega)) (.lv (.lv (.live _ _ _ _ (.arr _ _ _ _ _ (.cons _ _ _ _ (.cons _ _ _ _ .s (.cons _ _ _ _ .s (.cons _ _ _ _ .s (.cons _ _ _ _ (.nref _ _ _ _ _ _ (r5u.trans rfl)) .nil)))) (.same _))) (.lv (.lv (.nil _)))))) (by simp<;>omega) ⟨.s,.s,.s,.s,.s,.s,.s,trivial⟩ (by simp<;>omega)) ?_
    refine aln 67 fun hl2=>?_
    refine rng (body:=u1S (r9n n) a1 r5q m1 l2) (kk:=u1T a1 t0) (n:=a1.subs.length) (s0:=(r5T,[]))
     (fun(gs2:Nat) (k2:Nat) (s2:Int×(List p6w))=>[(0,.ptr o0 0 0 0),(2,.u4v),(6,.ptr (st.length+1) 0 0 0),(7,.ptr (st.length+2) 0 0 0),(67,.sl false 4 72 (rows p6w.cells a1.subs)),(68,.int .i64 (↑a1.subs.length:Int)),(69,.int .i64 (↑k2:Int))])
     (fun(gs2:Nat) (k2:Nat) (s2:Int×(List p6w))=>(r5k st [(o0,(.arr 0 4 0 [[.sl false 11 216 (rows r4V.cells r5q),.mp o1,.ref false o2 q2 0 l2.length,.int .i64 s2.1]])),(o1,(.mps false (mrw u0I m1))),(o2,(.arr q2 2 16 (rows r4W.cells l2)))])++[none,some (.arr 0 4 0 [[.int .i64 0,.str [],.r5g,.r5g]]),some (.arr 0 4 0 [[.int .i64 a1.kind,.str a1.name,.ref false (st.length+3) gt0 0 t0.length,.ref false (st.length+4) gs2 0 s2.2.length]]),some (.arr gt0 1 16 (rows r4X t0)),some (.arr gs2 4 72 (rows p6w.cells s2.2))])
     (fun(gt2:Nat) (t2:Int×(List p6w))=>[(6,.ptr (st.length+1) 0 0 0),(7,.ptr (st.length+2) 0 0 0)])
     (fun(gt2:Nat) (t2:Int×(List p6w))=>(r5k st [(o0,(.arr 0 4 0 [[.sl false 11 216 (rows r4V.cells r5q),.mp o1,.ref false o2 q2 0 l2.length,.int .i64 t2.1]])),(o1,(.mps false (mrw u0I m1))),(o2,(.arr q2 2 16 (rows r4W.cells l2)))])++[none,some (.arr 0 4 0 [[.int .i64 0,.str [],.r5g,.r5g]]),some (.arr 0 4 0 [[.int .i64 a1.kind,.str a1.name,.ref false (st.length+3) gt0 0 t0.length,.ref false (st.length+4) gt2 0 t2.2.length]]),some (.arr gt0 1 16 (rows r4X t0)),some (.arr gt2 4 72 (rows p6w.cells t2.2))])
     0 fx hl2 h (bu hsc)
     (fun gs2 k2 s2 b2 fx h hx2=>?_) (fun gs2 s2=>?_) (fun gt2 t2 fr1 st1 h hb=>?_)
    ·unfold u1S at h
     refine ct ?_
     refine rn ?_
     refine dw [1,5] 2 ?_
     obtain⟨v51,hv51,h⟩:=r7G h
     refine u2j [o0,o1,o2] (fun st2 h2=>(ih _ _ _ _ _ _ hv51 st2 _ _ _ q2 hnd ((h2 _ (by simp)).trans (by simp only[go_sem,fx])) ((h2 _ (by simp)).trans (by simp only[go_sem,fx])) ((h2 _ (by simp)).trans (by simp only[go_sem,fx])))) (by simp) (by simp only[List.mem_cons,List.not_mem_nil,or_false,forall_eq_or_imp,forall_eq];exact⟨⟨by first|omega|(simp<;>omega),_,(by simp only[go_sem,fx]<;>rfl),Ob.noConfusion⟩,⟨by first|omega|(simp<;>omega),_,(by simp only[go_sem,fx]<;>rfl),Ob.noConfusion⟩,⟨by first|omega|(simp<;>omega),_,(by simp only[go_sem,fx]<;>rfl),Ob.noConfusion⟩⟩) (by simp) ?_
     obtain⟨c53,y1B,h⟩:=u2v h
     have fy:=(show rows p6w.cells s2.2++[[.int .i64 v51.1.kind,.str v51.1.name,.sl false 1 16 (rows r4X v51.1.words),.sl false 4 72 (rows p6w.cells v51.1.subs)]]=rows p6w.cells c53 from by rw[y1B];first|exact r5y (E:=p6w.cells) s2.2 [v51.1]|simp only[go_sem,rows,List.map_append,List.map_cons,List.map_nil])
     have fy:=fa fy (show s2.2.length+1=c53.length from by rw[y1B];simp)
     obtain⟨fx,h⟩:=ck fx h
     try simp only[go_sem,fx,fy]
     try refine⟨by first|omega|(simp<;>omega),?_⟩
     refine rn ?_
     cases h
     exact u2o (gs2+1) (bu hsc)
    ·refine cf ?_
     refine u2n ?_;simp only[go_sem,fx]
     exact⟨gs2,(bu hsc)⟩
    ·try simp only[go_sem,fx]
     unfold u1T at h
     refine r6O hb ?_
     refine rr ?_
     exact fuo (.agg [.int .i64 a1.kind,.str a1.name,.sl false 1 16 (rows r4X t0),.sl false 4 72 (rows p6w.cells t2.2)]) (.agg _ _ (.cons _ _ _ _ .s (.cons _ _ _ _ .s (.cons _ _ _ _ (.ref _ _ _ _ _ _ _ _ _ (r5u.trans rfl) r9r (by decide) (u4I _) (by simp only[go_sem])) (.cons _ _ _ _ (.ref _ _ _ _ _ _ _ _ _ (r5u.trans rfl) r9r (by decide) (u4I _) (by simp only[go_sem])) .nil))))) h hsc
theorem u6U:∀(n:Nat) (a1:p6w) (a2:Bs) (r5q:(List r4V)) (r5T:Int) (m1:(List (Bs×Int))) (l2:(List r4W)) (r:(List (Bs×Int))) (h:r9V n a1 a2 r5q r5T m1 l2=some r),∀(st:St) (o0 o1 o2 q2:Nat) (hnd: [o0,o1,o2].Nodup) (r6Q:Am.look st o0=some (.arr 0 4 0 [[.sl false 11 216 (rows r4V.cells r5q),.mp o1,.ref false o2 q2 0 l2.length,.int .i64 r5T]])) (r9o:Am.look st o1=some (.mps false (mrw u0I m1))) (u1s:Am.look st o2=some (.arr q2 2 16 (rows r4W.cells l2))),Am.Spec Tryz.prog gl 64 [.ptr o0 0 0 0,.agg [.int .i64 a1.kind,.str a1.name,.sl false 1 16 (rows r4X a1.words),.sl false 4 72 (rows p6w.cells a1.subs)],.str a2] st (fun d st'=>d= .tup []∧st'=puts st [(o0,(.arr 0 4 0 [[.sl false 11 216 (rows r4V.cells r5q),.mp o1,.ref false o2 q2 0 l2.length,.int .i64 r5T]])),(o1,(.mps false (mrw u0I r))),(o2,(.arr q2 2 16 (rows r4W.cells l2)))]):=by
 intro n
 induction n with
 |zero=>intro a1 a2 r5q r5T m1 l2 r h;cases h
 |succ n ih=>
  intro a1 a2 r5q r5T m1 l2 r h st o0 o1 o2 q2 hnd r6Q r9o u1s
  unfold r9V at h
  have ho0:=r5h r6Q
  have ho1:=r5h r9o
  have ho2:=r5h u1s
  have fx:=fa (fa (fa (idf ho0) (idf ho1)) (idf ho2)) (nd3 hnd)
  refine fb 34 [] [0,1,2,4,6,7,19,20,21,22] Tryz.func64 fun hsc=>?_
  refine r8l (s':=(r5k st [(o0,(.arr 0 4 0 [[.sl false 11 216 (rows r4V.cells r5q),.mp o1,.ref false o2 q2 0 l2.length,.int .i64 r5T]])),(o1,(.mps false (mrw u0I m1))),(o2,(.arr q2 2 16 (rows r4W.cells l2)))])) (r5p (by simp[r6Q,r9o,u1s])) ?_
  refine rn ?_
  obtain⟨c1,hc1,h⟩:=u2v h
  have fy:=(show r5j a2 [.int .i64 (↑m1.length:Int)] (mrw u0I m1)=mrw u0I c1 from by rw[hc1];exact u4W (κ:=Bs) (E:=u0I) a2 (↑m1.length:Int) m1)
  refine dwy [] 0 ?_
  refine aln 19 fun hl0=>?_
  refine rng (body:=u1q (r9V n) a2 a1 r5q r5T l2) (kk:=u1r) (n:=a1.subs.length) (s0:=c1)
   (fun(gs0:Unit) (k0:Nat) (s0:(List (Bs×Int)))=>[(0,.ptr o0 0 0 0),(2,.str a2),(19,.sl false 4 72 (rows p6w.cells a1.subs)),(20,.int .i64 (↑a1.subs.length:Int)),(21,.int .i64 (↑k0:Int))])
   (fun(gs0:Unit) (k0:Nat) (s0:(List (Bs×Int)))=>(r5k st [(o0,(.arr 0 4 0 [[.sl false 11 216 (rows r4V.cells r5q),.mp o1,.ref false o2 q2 0 l2.length,.int .i64 r5T]])),(o1,(.mps false (mrw u0I s0))),(o2,(.arr q2 2 16 (rows r4W.cells l2)))]))
   (fun(gt0:Unit) (t0:(List (Bs×Int)))=>[])
   (fun(gt0:Unit) (t0:(List (Bs×Int)))=>(r5k st [(o0,(.arr 0 4 0 [[.sl false 11 216 (rows r4V.cells r5q),.mp o1,.ref false o2 q2 0 l2.length,.int .i64 r5T]])),(o1,(.mps false (mrw u0I t0))),(o2,(.arr q2 2 16 (rows r4W.cells l2)))]))
   () fx hl0 h (bu0 hsc)
   (fun gs0 k0 s0 b0 fx h hx0=>?_) (fun gs0 s0=>?_) (fun gt0 t0 fr1 st1 h hb=>?_)
  ·unfold u1q at h
   refine ct ?_
   refine rn ?_
   refine dw [6] 0 ?_
   obtain⟨v6,hv6,h⟩:=r7G h
   refine r8U (w1k _ _ hv6) ?_
   obtain⟨fx,h⟩:=ck fx h
   try simp only[go_sem,fx]
   obtain⟨v8,hv8,h⟩:=r7G h
   refine u2j [o0,o1,o2] (fun st2 h2=>(ih _ _ _ _ _ _ _ hv8 st2 _ _ _ q2 hnd ((h2 _ (by simp)).trans (by simp only[go_sem,fx])) ((h2 _ (by simp)).trans (by simp only[go_sem,fx])) ((h2 _ (by simp)).trans (by simp only[go_sem,fx])))) (by simp) (by simp only[List.mem_cons,List.not_mem_nil,or_false,forall_eq_or_imp,forall_eq];exact⟨⟨by first|omega|(simp<;>omega),_,(by simp only[go_sem,fx]<;>rfl),Ob.noConfusion⟩,⟨by first|omega|(simp<;>omega),_,(by simp only[go_sem,fx]<;>rfl),Ob.noConfusion⟩,⟨by first|omega|(simp<;>omega),_,(by simp only[go_sem,fx]<;>rfl),Ob.noConfusion⟩⟩) (by simp) ?_
   try simp only[go_sem,fx]
   try refine⟨by first|omega|(simp<;>omega),?_⟩
   refine rn ?_
   cases h
   exact u2o () (bu0 hsc)
  ·refine cf ?_
   refine u2n ?_;simp only[go_sem,fx]
   exact⟨(),(w6U hsc)⟩
  ·try simp only[go_sem,fx]
   unfold u1r at h
   refine u9L hb ?_
   refine rr ?_
   exact fus (.tup []) (.same _) h hsc
theorem u7t:∀(n:Nat) (a0:p6w) (a1:(List Bs)) (r5q:Int) (r8I:Bs) (r8J:(List Bs)) (r5T:(List p6w)) (r8q:(List Bs)) (r8y:(List Bs)) (r8K:(List Bs)) (r:p6w) (h:r8r n a0 a1 r5q r8I r8J r5T r8q r8y r8K=some r),∀(st:St) (o0 o1:Nat) (hnd: [o0,o1].Nodup) (r6Q:Am.look st o0=some (.arr 0 7 0 [[.int .i64 r5q,.str r8I,.sl false 1 16 (rows r4X r8J),.sl false 4 72 (rows p6w.cells r5T),.sl false 1 16 (rows r4X r8q),.sl false 1 16 (rows r4X r8y),.sl false 1 16 (rows r4X r8K)]])) (r9o:Am.look st o1=some (.arr 0 1 0 [[.fn 140 [] [.ptr o0 0 0 0,.ptr o1 0 0 0]]])),Am.Spec Tryz.prog gl 140 [.agg [.int .i64 a0.kind,.str a0.name,.sl false 1 16 (rows r4X a0.words),.sl false 4 72 (rows p6w.cells a0.subs)],.sl false 1 16 (rows r4X a1),.ptr o0 0 0 0,.ptr o1 0 0 0] st (fun d st'=>d= .agg [.int .i64 r.kind,.str r.name,.sl false 1 16 (rows r4X r.words),.sl false 4 72 (rows p6w.cells r.subs)]∧st'=puts st []):=by
 intro n
 induction n with
 |zero=>intro a0 a1 r5q r8I r8J r5T r8q r8y r8K r h;cases h
 |succ n ih=>
  intro a0 a1 r5q r8I r8J r5T r8q r8y r8K r h st o0 o1 hnd r6Q r9o
  unfold r8r at h
  have ho0:=r5h r6Q
  have ho1:=r5h r9o
  have fx:=fa (fa (idf ho0) (idf ho1)) (nd2 hnd)
  refine fb 98 [.cell 6 31] [0,1,2,3,4,6,7,9,11,18,19,20,21,24,30,44,57,65,70,71,72,73,74,81,82,83,84] Tryz.func140 fun hsc=>?_
  refine r8l (s':=(r5k st [(o0,(.arr 0 7 0 [[.int .i64 r5q,.str r8I,.sl false 1 16 (rows r4X r8J),.sl false 4 72 (rows p6w.cells r5T),.sl false 1 16 (rows r4X r8q),.sl false 1 16 (rows r4X r8y),.sl false 1 16 (rows r4X r8K)]])),(o1,(.arr 0 1 0 [[.fn 140 [] [.ptr o0 0 0 0,.ptr o1 0 0 0]]]))])) (r5p (by simp[r6Q,r9o])) ?_
  refine r0 ?_
  refine r0 ?_
  refine r0 ?_
  (repeat apply sq_)
  refine r9q 1 16 ?_
  try simp only[List.append_assoc,List.cons_append,List.nil_append]
  refine r6O (F:=[(1,.sl false 1 16 (rows r4X a1)),(2,.ptr o0 0 0 0),(3,.ptr o1 0 0 0),(4,.ptr st.length 0 0 0),(6,.ptr (st.length+1) 0 0 0),(7,.ptr (st.length+2) 0 0 0),(18,.sl false 1 16 (rows r4X a0.words)),(19,.int .i64 (↑a0.words.length:Int)),(20,.int .i64 0)]) (T:=(r5k st [(o0,(.arr 0 7 0 [[.int .i64 r5q,.str r8I,.sl false 1 16 (rows r4X r8J),.sl false 4 72 (rows p6w.cells r5T),.sl false 1 16 (rows r4X r8q),.sl false 1 16 (rows r4X r8y),.sl false 1 16 (rows r4X r8K)]])),(o1,(.arr 0 1 0 [[.fn 140 [] [.ptr o0 0 0 0,.ptr o1 0 0 0]]]))])++[some (.arr 0 4 0 [[.int .i64 a0.kind,.str a0.name,.sl false 1 16 (rows r4X a0.words),.sl false 4 72 (rows p6w.cells a0.subs)]]),some (.arr 0 4 0 [[.int .i64 0,.str [],.r5g,.r5g]]),some (.arr 0 4 0 [[.int .i64 a0.kind,.str a0.name,.ref false (st.length+3) 0 0 0,.r5g]]),some (.arr 0 1 16 (rows r4X []))]) (u0G (by simp) (r7P hsc (by simp<;>omega)) (.lv (.lv (.live _ _ _ _ (.arr _ _ _ _ _ (.cons _ _ _ _ (.cons _ _ _ _ .s (.cons _ _ _ _ .s (.cons _ _ _ _ (.nref _ _ _ _ _ _ (r5u.trans rfl)) (.cons _ _ _ _ .s .nil)))) (.same _))) (.lv (.nil _))))) (by simp<;>omega) ⟨.s,.s,.s,.s,.s,.s,.s,.s,.s,trivial⟩ (by simp<;>omega)) ?_
  refine aln 18 fun hl0=>?_
  refine rng (body:=u1V a1 a0 r8q) (kk:=u1Y (r8r n) a0 a1 r5q r8I r8J r5T r8q r8y r8K) (n:=a0.words.length) (s0:=[])
   (fun(gs0:Nat) (k0:Nat) (s0:(List Bs))=>[(1,.sl false 1 16 (rows r4X a1)),(2,.ptr o0 0 0 0),(3,.ptr o1 0 0 0),(4,.ptr st.length 0 0 0),(6,.ptr (st.length+1) 0 0 0),(7,.ptr (st.length+2) 0 0 0),(18,.sl false 1 16 (rows r4X a0.words)),(19,.int .i64 (↑a0.words.length:Int)),(20,.int .i64 (↑k0:Int))])
   (fun(gs0:Nat) (k0:Nat) (s0:(List Bs))=>(r5k st [(o0,(.arr 0 7 0 [[.int .i64 r5q,.str r8I,.sl false 1 16 (rows r4X r8J),.sl false 4 72 (rows p6w.cells r5T),.sl false 1 16 (rows r4X r8q),.sl false 1 16 (rows r4X r8y),.sl false 1 16 (rows r4X r8K)]])),(o1,(.arr 0 1 0 [[.fn 140 [] [.ptr o0 0 0 0,.ptr o1 0 0 0]]]))])++[some (.arr 0 4 0 [[.int .i64 a0.kind,.str a0.name,.sl false 1 16 (rows r4X a0.words),.sl false 4 72 (rows p6w.cells a0.subs)]]),some (.arr 0 4 0 [[.int .i64 0,.str [],.r5g,.r5g]]),some (.arr 0 4 0 [[.int .i64 a0.kind,.str a0.name,.ref false (st.length+3) gs0 0 s0.length,.r5g]]),some (.arr gs0 1 16 (rows r4X s0))])
   (fun(gt0:Nat) (t0:(List Bs))=>[(1,.sl false 1 16 (rows r4X a1)),(2,.ptr o0 0 0 0),(3,.ptr o1 0 0 0),(4,.ptr st.length 0 0 0),(6,.ptr (st.length+1) 0 0 0),(7,.ptr (st.length+2) 0 0 0)])
   (fun(gt0:Nat) (t0:(List Bs))=>(r5k st [(o0,(.arr 0 7 0 [[.int .i64 r5q,.str r8I,.sl false 1 16 (rows r4X r8J),.sl false 4 72 (rows p6w.cells r5T),.sl false 1 16 (rows r4X r8q),.sl false 1 16 (rows r4X r8y),.sl false 1 16 (rows r4X r8K)]])),(o1,(.arr 0 1 0 [[.fn 140 [] [.ptr o0 0 0 0,.ptr o1 0 0 0]]]))])++[some (.arr 0 4 0 [[.int .i64 a0.kind,.str a0.name,.sl false 1 16 (rows r4X a0.words),.sl false 4 72 (rows p6w.cells a0.subs)]]),some (.arr 0 4 0 [[.int .i64 0,.str [],.r5g,.r5g]]),some (.arr 0 4 0 [[.int .i64 a0.kind,.str a0.name,.ref false (st.length+3) gt0 0 t0.length,.r5g]]),some (.arr gt0 1 16 (rows r4X t0))])
   0 fx hl0 h (bu hsc)
   (fun gs0 k0 s0 b0 fx h hx0=>?_) (fun gs0 s0=>?_) (fun gt0 t0 fr1 st1 h hb=>?_)
  ·unfold u1V at h
   refine ct ?_
   refine cl h (r5f _ _) fun v23 h=>?_
   refine cd h (fun hc h=>?_) fun hc h=>?_
   ·obtain⟨fx,h⟩:=ck fx h
    refine r0 ?_
    obtain⟨c26,x8I,h⟩:=u2v h
    have fy:=(show rows r4X s0++[[.str (w1q [63] (get a0.words k0))]]=rows r4X c26 from by rw[x8I];first|exact r5y (E:=r4X) s0 [(w1q [63] (get a0.words k0))]|simp only[go_sem,rows,List.map_append,List.map_cons,List.map_nil])
    have fy:=fa fy (show s0.length+1=c26.length from by rw[x8I];simp)
    obtain⟨fx,h⟩:=ck fx h
    refine r1 ?_
    refine rn ?_
    cases h
    exact u2o (gs0+1) (bu hsc)
   ·refine cl h (r5f _ _) fun v31 h=>?_
    refine cd h (fun hc h=>?_) fun hc h=>?_
    ·obtain⟨fx,h⟩:=ck fx h
     refine r0 ?_
     obtain⟨c34,x3Z,h⟩:=u2v h
     have fy:=(show rows r4X s0++[[.str (w1q [46] (get a0.words k0))]]=rows r4X c34 from by rw[x3Z];first|exact r5y (E:=r4X) s0 [(w1q [46] (get a0.words k0))]|simp only[go_sem,rows,List.map_append,List.map_cons,List.map_nil])
     have fy:=fa fy (show s0.length+1=c34.length from by rw[x3Z];simp)
     obtain⟨fx,h⟩:=ck fx h
     refine r1 ?_
     refine rn ?_
     cases h
     exact u2o (gs0+1) (bu hsc)
    ·refine r0 ?_
     obtain⟨c40,x8J,h⟩:=u2v h
     have fy:=(show rows r4X s0++[[.str (get a0.words k0)]]=rows r4X c40 from by rw[x8J];first|exact r5y (E:=r4X) s0 [(get a0.words k0)]|simp only[go_sem,rows,List.map_append,List.map_cons,List.map_nil])
     have fy:=fa fy (show s0.length+1=c40.length from by rw[x8J];simp)
     obtain⟨fx,h⟩:=ck fx h
     refine r1 ?_
     refine rn ?_
     cases h
     exact u2o (gs0+1) (bu hsc)
  ·refine cf ?_
   refine u2n ?_;simp only[go_sem,fx]
   exact⟨gs0,(bu hsc)⟩
  ·try simp only[go_sem,fx]
   unfold u1Y at h
   refine r6O hb ?_
   refine cl h (r5F _) fun v45 h=>?_
   refine rn ?_
   refine r9E (r7T (r8r n) a0 r5q r8I r8J r5T r8q r8y r8K t0) r (fun(gj1:Unit) (j1:Bs×(List Bs))=>[(1,.sl false 1 16 (rows r4X j1.2)),(3,.ptr o1 0 0 0),(4,.ptr st.length 0 0 0),(6,.ptr (st.length+1) 0 0 0),(7,.ptr (st.length+2) 0 0 0)]) (fun(gj1:Unit) (j1:Bs×(List Bs))=>(r5k st [(o0,(.arr 0 7 0 [[.int .i64 r5q,.str r8I,.sl false 1 16 (rows r4X r8J),.sl false 4 72 (rows p6w.cells r5T),.sl false 1 16 (rows r4X r8q),.sl false 1 16 (rows r4X r8y),.sl false 1 16 (rows r4X r8K)]])),(o1,(.arr 0 1 0 [[.fn 140 [] [.ptr o0 0 0 0,.ptr o1 0 0 0]]]))])++[some (.arr 0 4 0 [[.int .i64 a0.kind,.str a0.name,.sl false 1 16 (rows r4X a0.words),.sl false 4 72 (rows p6w.cells a0.subs)]]),some (.arr 0 4 0 [[.int .i64 0,.str [],.r5g,.r5g]]),some (.arr 0 4 0 [[.int .i64 a0.kind,.str j1.1,.ref false (st.length+3) gt0 0 t0.length,.r5g]]),some (.arr gt0 1 16 (rows r4X t0))]) (fun gj1 j1 fr1 st1 h hb=>?_) (fun hj1=>?_)
   ·try simp only[go_sem,fx]
    unfold r7T at h
    refine r6O hb ?_
    (repeat apply sq_)
    refine r6O (F:=[(1,.sl false 1 16 (rows r4X j1.2)),(3,.ptr o1 0 0 0),(4,.ptr st.length 0 0 0),(6,.ptr (st.length+1) 0 0 0),(7,.ptr (st.length+2) 0 0 0)]) (T:=(r5k st [(o0,(.arr 0 7 0 [[.int .i64 r5q,.str r8I,.sl false 1 16 (rows r4X r8J),.sl false 4 72 (rows p6w.cells r5T),.sl false 1 16 (rows r4X r8q),.sl false 1 16 (rows r4X r8y),.sl false 1 16 (rows r4X r8K)]])),(o1,(.arr 0 1 0 [[.fn 140 [] [.ptr o0 0 0 0,.ptr o1 0 0 0]]]))])++[some (.arr 0 4 0 [[.int .i64 a0.kind,.str a0.name,.sl false 1 16 (rows r4X a0.words),.sl false 4 72 (rows p6w.cells a0.subs)]]),some (.arr 0 4 0 [[.int .i64 0,.str [],.r5g,.r5g]]),some (.arr 0 4 0 [[.int .i64 a0.kind,.str j1.1,.sl false 1 16 (rows r4X t0),.r5g]])]) (u0G (by simp) (r7P hsc (by simp<;>omega)) (.lv (.lv (.live _ _ _ _ (.arr _ _ _ _ _ (.cons _ _ _ _ (.cons _ _ _ _ .s (.cons _ _ _ _ .s (.cons _ _ _ _ (.ref _ _ _ _ _ _ _ _ _ (r5u.trans rfl) (u0Z (by first|decide|simp)) (by decide) (u4I _) (by simp only[go_sem])) (.cons _ _ _ _ .s .nil)))) (.same _))) (.nil _)))) (by simp<;>omega) ⟨.s,.s,.s,.s,.s,trivial⟩ (by simp<;>omega)) ?_
    refine r0 ?_
    (repeat apply sq_)
    refine r9q 4 72 ?_
    try simp only[List.append_assoc,List.cons_append,List.nil_append]
    refine r6O (F:=[(1,.sl false 1 16 (rows r4X j1.2)),(3,.ptr o1 0 0 0),(6,.ptr (st.length+1) 0 0 0),(7,.ptr (st.length+2) 0 0 0),(81,.sl false 4 72 (rows p6w.cells a0.subs)),(82,.int .i64 (↑a0.subs.length:Int)),(83,.int .i64 0)]) (T:=(r5k st [(o0,(.arr 0 7 0 [[.int .i64 r5q,.str r8I,.sl false 1 16 (rows r4X r8J),.sl false 4 72 (rows p6w.cells r5T),.sl false 1 16 (rows r4X r8q),.sl false 1 16 (rows r4X r8y),.sl false 1 16 (rows r4X r8K)]])),(o1,(.arr 0 1 0 [[.fn 140 [] [.ptr o0 0 0 0,.ptr o1 0 0 0]]]))])++[some (.arr 0 4 0 [[.int .i64 a0.kind,.str a0.name,.sl false 1 16 (rows r4X a0.words),.sl false 4 72 (rows p6w.cells a0.subs)]]),some (.arr 0 4 0 [[.int .i64 0,.str [],.r5g,.r5g]]),some (.arr 0 4 0 [[.int .i64 a0.kind,.str j1.1,.sl false 1 16 (rows r4X t0),.ref false (st.length+3) 0 0 0]]),some (.arr 0 4 72 (rows p6w.cells []))]) (u0G (by simp) (r7P hsc (by simp<;>omega)) (.lv (.lv (.live _ _ _ _ (.arr _ _ _ _ _ (.cons _ _ _ _ (.cons _ _ _ _ .s (.cons _ _ _ _ .s (.cons _ _ _ _ .s (.cons _ _ _ _ (.nref _ _ _ _ _ _ (r5u.trans rfl)) .nil)))) (.same _))) (.lv (.nil _))))) (by simp<;>omega) ⟨.s,.s,.s,.s,.s,.s,.s,trivial⟩ (by simp<;>omega)) ?_
    refine aln 81 fun hl2=>?_
    refine rng (body:=u1W (r8r n) a0 j1 r5q r8I r8J r5T r8q r8y r8K) (kk:=u1X a0 j1 t0) (n:=a0.subs.length) (s0:=[])
     (fun(gs2:Nat) (k2:Nat) (s2:(List p6w))=>[(1,.sl false 1 16 (rows r4X j1.2)),(3,.ptr o1 0 0 0),(6,.ptr (st.length+1) 0 0 0),(7,.ptr (st.length+2) 0 0 0),(81,.sl false 4 72 (rows p6w.cells a0.subs)),(82,.int .i64 (↑a0.subs.length:Int)),(83,.int .i64 (↑k2:Int))])
     (fun(gs2:Nat) (k2:Nat) (s2:(List p6w))=>(r5k st [(o0,(.arr 0 7 0 [[.int .i64 r5q,.str r8I,.sl false 1 16 (rows r4X r8J),.sl false 4 72 (rows p6w.cells r5T),.sl false 1 16 (rows r4X r8q),.sl false 1 16 (rows r4X r8y),.sl false 1 16 (rows r4X r8K)]])),(o1,(.arr 0 1 0 [[.fn 140 [] [.ptr o0 0 0 0,.ptr o1 0 0 0]]]))])++[none,some (.arr 0 4 0 [[.int .i64 0,.str [],.r5g,.r5g]]),some (.arr 0 4 0 [[.int .i64 a0.kind,.str j1.1,.sl false 1 16 (rows r4X t0),.ref false (st.length+3) gs2 0 s2.length]]),some (.arr gs2 4 72 (rows p6w.cells s2))])
     (fun(gt2:Nat) (t2:(List p6w))=>[(6,.ptr (st.length+1) 0 0 0),(7,.ptr (st.length+2) 0 0 0)])
     (fun(gt2:Nat) (t2:(List p6w))=>(r5k st [(o0,(.arr 0 7 0 [[.int .i64 r5q,.str r8I,.sl false 1 16 (rows r4X r8J),.sl false 4 72 (rows p6w.cells r5T),.sl false 1 16 (rows r4X r8q),.sl false 1 16 (rows r4X r8y),.sl false 1 16 (rows r4X r8K)]])),(o1,(.arr 0 1 0 [[.fn 140 [] [.ptr o0 0 0 0,.ptr o1 0 0 0]]]))])++[none,some (.arr 0 4 0 [[.int .i64 0,.str [],.r5g,.r5g]]),some (.arr 0 4 0 [[.int .i64 a0.kind,.str j1.1,.sl false 1 16 (rows r4X t0),.ref false (st.length+3) gt2 0 t2.length]]),some (.arr gt2 4 72 (rows p6w.cells t2))])
     0 fx hl2 h (bu hsc)
     (fun gs2 k2 s2 b2 fx h hx2=>?_) (fun gs2 s2=>?_) (fun gt2 t2 fr1 st1 h hb=>?_)
    ·unfold u1W at h
     refine ct ?_
     refine rn ?_
     refine dw [1,5] 2 ?_
     obtain⟨v65,hv65,h⟩:=r7G h
     refine u2j [o0,o1] (fun st2 h2=>(ih _ _ _ _ _ _ _ _ _ _ hv65 st2 _ _ hnd ((h2 _ (by simp)).trans (by simp only[go_sem,fx])) ((h2 _ (by simp)).trans (by simp only[go_sem,fx])))) (by simp) (by simp only[List.mem_cons,List.not_mem_nil,or_false,forall_eq_or_imp,forall_eq];exact⟨⟨by first|omega|(simp<;>omega),_,(by simp only[go_sem,fx]<;>rfl),Ob.noConfusion⟩,⟨by first|omega|(simp<;>omega),_,(by simp only[go_sem,fx]<;>rfl),Ob.noConfusion⟩⟩) (by simp) ?_
     obtain⟨c67,y1C,h⟩:=u2v h
     have fy:=(show rows p6w.cells s2++[[.int .i64 v65.kind,.str v65.name,.sl false 1 16 (rows r4X v65.words),.sl false 4 72 (rows p6w.cells v65.subs)]]=rows p6w.cells c67 from by rw[y1C];first|exact r5y (E:=p6w.cells) s2 [v65]|simp only[go_sem,rows,List.map_append,List.map_cons,List.map_nil])
     have fy:=fa fy (show s2.length+1=c67.length from by rw[y1C];simp)
     obtain⟨fx,h⟩:=ck fx h
     try simp only[go_sem,fx,fy]
     try refine⟨by first|omega|(simp<;>omega),?_⟩
     refine rn ?_
     cases h
     exact u2o (gs2+1) (bu hsc)
    ·refine cf ?_
     refine u2n ?_;simp only[go_sem,fx]
     exact⟨gs2,(bu hsc)⟩
    ·try simp only[go_sem,fx]
     unfold u1X at h
     refine r6O hb ?_
     refine rr ?_
     exact fuo (.agg [.int .i64 a0.kind,.str j1.1,.sl false 1 16 (rows r4X t0),.sl false 4 72 (rows p6w.cells t2)]) (.agg _ _ (.cons _ _ _ _ .s (.cons _ _ _ _ .s (.cons _ _ _ _ .s (.cons _ _ _ _ (.ref _ _ _ _ _ _ _ _ _ (r5u.trans rfl) r9r (by decide) (u4I _) (by simp only[go_sem])) .nil))))) h hsc (hr:=by rintro rfl;exact⟨rfl,r5p (by simp[r6Q,r9o])⟩)
   ·refine cd h (fun hc h=>?_) fun hc h=>?_
    ·(repeat apply sq_)
     refine r9q 1 16 ?_
     try simp only[List.append_assoc,List.cons_append,List.nil_append]
     refine r6O (F:=[(1,.sl false 1 16 (rows r4X a1)),(2,.ptr o0 0 0 0),(3,.ptr o1 0 0 0),(4,.ptr st.length 0 0 0),(6,.ptr (st.length+1) 0 0 0),(7,.ptr (st.length+2) 0 0 0),(44,.bool v45)]) (T:=(r5k st [(o0,(.arr 0 7 0 [[.int .i64 r5q,.str r8I,.sl false 1 16 (rows r4X r8J),.sl false 4 72 (rows p6w.cells r5T),.sl false 1 16 (rows r4X r8q),.sl false 1 16 (rows r4X r8y),.sl false 1 16 (rows r4X r8K)]])),(o1,(.arr 0 1 0 [[.fn 140 [] [.ptr o0 0 0 0,.ptr o1 0 0 0]]]))])++[some (.arr 0 4 0 [[.int .i64 a0.kind,.str a0.name,.sl false 1 16 (rows r4X a0.words),.sl false 4 72 (rows p6w.cells a0.subs)]]),some (.arr 0 4 0 [[.int .i64 0,.str [],.r5g,.r5g]]),some (.arr 0 4 0 [[.int .i64 a0.kind,.str a0.name,.ref false (st.length+3) gt0 0 t0.length,.r5g]]),some (.arr gt0 1 16 (rows r4X t0)),some (.arr 0 1 16 (rows r4X []))]) (u0G (by simp) (r7P hsc (by simp<;>omega)) (.lv (.lv (.lv (.lv (.lv (.nil _)))))) (by simp<;>omega) ⟨.s,.s,.s,.s,.s,.s,.s,trivial⟩ (by simp<;>omega)) ?_
     refine rs ?_
     refine dw [1,3] 2 ?_
     obtain⟨v46,hv46,h⟩:=r7G h
     refine u2j [(st.length+4)] (fun st2 h2=>(r6i _ _ _ hv46 st2 (st.length+4) 0 (by simp) ((h2 _ (by simp)).trans (r5x.trans rfl)))) (by simp) (by simp only[List.mem_cons,List.not_mem_nil,or_false,forall_eq_or_imp,forall_eq];exact⟨by first|omega|(simp<;>omega),_,(r5x.trans rfl),Ob.noConfusion⟩) (by simp) ?_
     obtain⟨c48,y1D,h⟩:=u2v h
     have fy:=(show rows r4X v46++[[.str a0.name]]=rows r4X c48 from by rw[y1D];first|exact r5y (E:=r4X) v46 [a0.name]|simp only[go_sem,rows,List.map_append,List.map_cons,List.map_nil])
     have fy:=fa fy (show v46.length+1=c48.length from by rw[y1D];simp)
     obtain⟨fx,h⟩:=ck fx h
     try simp only[go_sem,fx,fy]
     try refine⟨by first|omega|(simp<;>omega),?_⟩
     obtain⟨fx,h⟩:=ck fx h
     refine r0 ?_
     refine hj1 () _ _ _ h ?_;exact(bu hsc (hf:=⟨.ref _ _ _ _ _ _ _ _ _ (r5u.trans rfl) (u0Z (by first|decide|simp)) (by decide) (u4I _) (by simp only[go_sem]),.s,.s,.s,.s,trivial⟩))
    ·refine cl h (r8v _ _) fun v54 h=>?_
     refine cd h (fun hc h=>?_) fun hc h=>?_
     ·obtain⟨fx,h⟩:=ck fx h
      refine r0 ?_
      refine hj1 () _ _ _ h ?_;exact(bu hsc)
     ·refine rn ?_
      obtain⟨v56,hv56,h⟩:=r7G h
      refine u0C (fun hG=>(r5f _ _ _ (w1s hv56 (by simpa using hG)))) ?_
      refine cd h (fun hc h=>?_) fun hc h=>?_
      ·obtain⟨fx,h⟩:=ck fx h
       refine r0 ?_
       refine hj1 () _ _ _ h ?_;exact(bu hsc)
      ·refine r0 ?_
       refine hj1 () _ _ _ h ?_;exact(bu hsc)
end Go.Proofs.YtfacbpehlibilaaGreatDoor
